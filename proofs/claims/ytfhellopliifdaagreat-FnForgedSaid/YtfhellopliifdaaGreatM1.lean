/- FnForged: what the functions that it reaches compute, as plain functions, part 1. No condition. -/
import Derived.Test.YtfhellopliifdaaGreatRows
import Derived.Test.YtfhellopliifdaaGreatAm6
import Derived.Test.YtfhellopliifdaaGreatShelf
import Derived.Lib.AppendIntMem
import Derived.Lib.SplitLaws
import Derived.Lib.IndexMore
import Derived.Lib.Atoi
import Derived.Lib.AtoiBound
import Derived.Lib.Join
import Derived.Lib.ItoaNum
import Derived.Lib.ItoaLen
noncomputable section
set_option linter.all false
namespace Go.Proofs.YtfhellopliifdaaGreat
open Go.Am
set_option maxRecDepth 100000
abbrev Kf:Ty:=.pair (.int .i64) (.pair (.bool) (.unit))
abbrev X8:Type:=Int×Bool×Unit
abbrev Zf2:Ty:=.pair (.int .i64) (.pair (.str) (.unit))
abbrev Z6:Type:=Int×List UInt8×Unit
def Qx:Z6:=(0,[],())
abbrev Zw:Ty:=.pair (.int .i64) (.pair (.int .i64) (.unit))
abbrev Zi:Type:=Int×Int×Unit
def Zz:Zi:=(0,0,())
abbrev Zdr:Ty:=.pair (.int .i64) (Zw)
abbrev Ze2:Type:=Int×Zi
def Zzk:Ze2:=(0,0,0,())
abbrev J3:Ty:=.pair (.int .i64) (.pair (.str) (.pair (.bool) (.unit)))
abbrev Qy:Type:=Int×List UInt8×Bool×Unit
def Zds:Qy:=(0,[],false,())
abbrev Vw:Ty:=.pair (.slice 5 (.int .u8)) (Zw)
abbrev Qc:Type:=List Int×Zi
abbrev Qq:Ty:=.pair (.int .i64) (Zdr)
abbrev Qt:Type:=Int×Ze2
def Qu0:Qt:=(0,0,0,0,())
abbrev Ql:Ty:=.pair (.int .i64) (.pair (Kf) (.unit))
abbrev Zk:Type:=Int×X8×Unit
def Qm:Zk:=(0,(0,false,()),())
abbrev Xe:Ty:=.pair (.int .i64) (.pair (.slice 268 (Zf2)) (.unit))
abbrev Zv:Type:=Int×List Z6×Unit
def Qmv:Zv:=(0,[],())
abbrev Wh:Ty:=.pair (.int .i64) (.pair (.int .i64) (.pair (.int .i64) (.pair (.slice 3 (.int .i64)) (.unit))))
abbrev Xu:Type:=Int×Int×Int×List Int×Unit
def Qsq:Xu:=(0,0,0,[],())
abbrev Xr:Ty:=.pair (.int .i64) (.pair (.int .i64) (Qq))
abbrev Qg:Type:=Int×Int×Qt
def Qac:Qg:=(0,0,0,0,0,0,())
abbrev Zmg:Ty:=.pair (.int .i64) (.pair (.int .i64) (Xr))
abbrev Zic:Type:=Int×Int×Qg
abbrev Zt:Ty:=.pair (.int .i64) (.pair (.int .i64) (.pair (.int .i64) (.pair (.str) (.pair (.bool) (.pair (.int .i64) (.pair (.int .i64) (Kf)))))))
abbrev Zf:Type:=Int×Int×Int×List UInt8×Bool×Int×Int×X8
def Qk:Zf:=(0,0,0,[],false,0,0,0,false,())
abbrev Qi:Ty:=.pair (.int .i64) (.pair (Xe) (Zdr))
abbrev Zx:Type:=Int×Zv×Ze2
def Zso:Zx:=(0,(0,[],()),0,0,0,())
abbrev Yo:Ty:=.pair (.int .i64) (.pair (.slice 80 (Zt)) (.unit))
abbrev Qb:Type:=Int×List Zf×Unit
def Q6:Qb:=(0,[],())
abbrev Z1:Ty:=.pair (.int .i64) (.pair (Wh) (.pair (.slice 214 (Zw)) (.pair (.slice 214 (Zw)) (.pair (.slice 214 (Zw)) (Qq)))))
abbrev Zp:Type:=Int×Xu×List Zi×List Zi×List Zi×Qt
def Zaw:Zp:=(0,(0,0,0,[],()),[],[],[],0,0,0,0,())
abbrev Zu:Ty:=.pair (.int .i64) (.pair (Z1) (.pair (Qq) (.pair (Qi) (.pair (Xr) (.pair (Kf) (.pair (.bool) (.pair (.bool) (.pair (.bool) (.pair (.bool) (.pair (.bool) (.pair (.bool) (Kf))))))))))))
abbrev Zg:Type:=Int×Zp×Qt×Zx×Qg×X8×Bool×Bool×Bool×Bool×Bool×Bool×X8
def Zj:Zg:=(0,(0,(0,0,0,[],()),[],[],[],0,0,0,0,()),(0,0,0,0,()),(0,(0,[],()),0,0,0,()),(0,0,0,0,0,0,()),(0,false,()),false,false,false,false,false,false,0,false,())
abbrev Zq:Ty:=.pair (.bool) (.pair (Zmg) (.pair (Zmg) (.pair (.slice 96 (Zu)) (.pair (Qq) (.pair (Xr) (.pair (Zdr) (.pair (Zdr) (.pair (Qq) (.pair (Qq) (.pair (.bool) (.pair (.bool) (.pair (.bool) (.pair (.int .i64) (.pair (.int .i64) (.pair (.slice 63 (Yo)) (Zw))))))))))))))))
abbrev Zc:Type:=Bool×Zic×Zic×List Zg×Qt×Qg×Ze2×Ze2×Qt×Qt×Bool×Bool×Bool×Int×Int×List Qb×Zi
def Yi:Zc:=(false,(0,0,0,0,0,0,0,0,()),(0,0,0,0,0,0,0,0,()),[],(0,0,0,0,()),(0,0,0,0,0,0,()),(0,0,0,()),(0,0,0,()),(0,0,0,0,()),(0,0,0,0,()),false,false,false,0,0,[],0,0,())
def Qon(a:List Int):Option (Bool×Unit):=some (decide ((a.length:Int)>(1048576:Int)),())
def Zul(a:List Int)(c b:Int):Nat:=((a.length:Int)-b).toNat+1
def Ztg:Nat->List Int->Int->Int->Option ((Qc)×(Unit))|0,_,_,_=>none|N+1,b,c,a=>bif(decide (a<(b.length:Int)))&&(decide (a<(4000:Int)))then Ze (0<=a/\a<b.length)<|Ztg N b (bits .and .i64 (IntKind.i64.wrap ((IntKind.i64.wrap ((IntKind.i64.wrap (c*131))+(IntKind.i64.wrap (b.getD a.toNat (0:Int)))))+7)) (1073741823:Int)) (IntKind.i64.wrap (a+1)) else some ((b,(0:Int),c,()),())
def Zuk(a:List Int):Option ((Qc)×(Unit)):=
 let b:=IntKind.i64.wrap (10101+(a.length:Int))
 Ztg (Zul a b (0:Int)) a b (0:Int)
def Zae(a:Qc):Option ((Int×Unit)×(Qc×Unit)):=
 let b:=IntKind.i64.wrap ((IntKind.i64.wrap (a.2.2.1*6364136223846793005))+1442695040888963407)
 Ze (0<=(33:Int))<|
 Ze (0<=(45:Int))<|
 let c:=bits .and .i64 (bits .xor .i64 (b.fdiv (2^ (min (33:Int).toNat IntKind.i64.bits))) (b.fdiv (2^ (min (45:Int).toNat IntKind.i64.bits)))) 255
 bif decide (a.2.1<(a.1.length:Int))then
  Ze (0<=a.2.1/\a.2.1<a.1.length)<|
  some ((bits .and .i64 (IntKind.i64.wrap (c+(IntKind.i64.wrap (a.1.getD a.2.1.toNat 0)))) 255,()),(a.1,IntKind.i64.wrap (a.2.1+1),b,a.2.2.2),())
 else
  some ((c,()),(a.1,a.2.1,b,a.2.2.2),())
def Qo(b:Qc)(a:Int):Option ((Int×Unit)×(Qc×Unit)):=bif decide (a<=0)then some ((0,()),b,()) else bif decide (a<=256)then (Zae b).bind λc=>Ze (a≠0)<|some ((Int.tmod c.1.1 a,()),c.2.1,()) else (Zae b).bind λd=>(Zae d.2.1).bind λe=>(Zae e.2.1).bind λf=>(Zae f.2.1).bind λg=>Ze (a≠0)<|some ((Int.tmod (IntKind.i64.wrap ((IntKind.i64.wrap ((IntKind.i64.wrap ((IntKind.i64.wrap (d.1.1*16777216))+(IntKind.i64.wrap (e.1.1*65536))))+(IntKind.i64.wrap (f.1.1*256))))+g.1.1)) a,()),g.2.1,())
def Zbb(b:Qc)(c:Int):Option ((Bool×Unit)×(Qc×Unit)):=(Qo b c).bind λa=>some ((a.1.1==0,()),a.2.1,())
def Zxj:Option (Zic×Unit):=some ((16,8,32,16,64,2,2,4,()),())
def Zsj(c:Qc):Option ((Zic×Unit)×(Qc×Unit)):=Option.bind Zxj λa=>(Qo c 3).bind λb=>bif b.1.1==0 then some (((8,4,a.1.2.2.1,6,a.1.2.2.2.2.1,1,a.1.2.2.2.2.2.2),()),b.2.1,()) else bif b.1.1==1 then some (((a.1.1,a.1.2.1,a.1.2.2.1,a.1.2.2.2.1,a.1.2.2.2.2.1,3,1,2,a.1.2.2.2.2.2.2.2.2),()),b.2.1,()) else some ((a.1,()),b.2.1,())
def Vl(a:Int):Option (Bool×Unit):=some (((decide (a>0))&&(decide (a<=64)))&&((bits .and .i64 a (IntKind.i64.wrap (a-1)))==0),())
def Z8(a b c:Int):Option (Bool×Unit):=some ((decide (a>=b))&&(decide (a<=c)),())
def Za9(a:Zic):Option (Bool×Unit):=
 (Vl a.1).bind λb=>
 (bif b.1 then(Z8 a.2.2.1 1 4096)else some (false,())).bind λd=>
 (bif(b.1&&d.1)then(Z8 a.2.1 1 a.2.2.1)else some (false,())).bind λf=>
 (bif((b.1&&d.1)&&f.1)then(Z8 a.2.2.2.2.1 1 4096)else some (false,())).bind λi=>
 let c:=((b.1&&d.1)&&f.1)&&i.1
 (bif c then(Z8 a.2.2.2.1 1 a.2.2.2.2.1)else some (false,())).bind λe=>
 (bif(c&&e.1)then(Z8 a.2.2.2.2.2.1 0 1000)else some (false,())).bind λg=>
 (bif((c&&e.1)&&g.1)then(Z8 a.2.2.2.2.2.2.1 0 1000)else some (false,())).bind λj=>
 let h:=((c&&e.1)&&g.1)&&j.1
 (bif h then(Z8 a.2.2.2.2.2.2.2.1 1 1000)else some (false,())).bind λk=>
 some (h&&k.1,())
def Qz(a:Int):Option (Bool×Unit):=(Z8 a 0 4611686018427387903).bind λb=>some (b.1,())
def Zgf(a:Int):Option (Qt×Bool×Unit):=(Qz a).bind λb=>bif !b.1 then some (Qu0,false,()) else some ((a,0,(-1:Int),(-1:Int),()),true,())
def Zgg(a b:Int):Option (Qg×Bool×Unit):=(Z8 b 1 4096).bind λc=>(bif(!c.1)then some (false,())else(Z8 a 1 b)).bind λd=>bif(!c.1)||(!d.1)then some (Qac,false,()) else some ((a,b,a,Zzk),true,())
def Zx5(a:Int):Option (Ze2×Bool×Unit):=(Z8 a 0 1152921504606846976).bind λb=>bif !b.1 then some (Zzk,false,()) else some ((a,0,(-1:Int),()),true,())
def Zx4(a:Int):Option (Qt×Bool×Unit):=(Z8 a 0 1000).bind λb=>bif !b.1 then some (Qu0,false,()) else some ((a,a,0,0,()),true,())
def Zsg(d:Bool)(a b:Zic):Option (Zc×Bool×Unit):=(Za9 a).bind λc=>(bif(!c.1)then some (false,())else(Za9 b)).bind λe=>bif(!c.1)||(!e.1)then some (Yi,false,()) else (Zgf b.2.2.2.1).bind λf=>(Zgg a.2.2.2.1 a.2.2.2.2.1).bind λg=>(Zx5 b.2.2.2.2.2.1).bind λh=>(Zx5 b.2.2.2.2.2.2.1).bind λi=>(Zx4 a.2.2.2.2.2.1).bind λj=>(Zx4 a.2.2.2.2.2.2.1).bind λk=>some ((d,a,b,[],f.1,g.1,h.1,i.1,j.1,k.1,false,false,false,(-1:Int),0,[],0,0,()),true,())
def Zu6(a:Xu):Option (Xu×Unit):=Ze (([]:List Int).length+a.2.2.2.1.length<=Qd)<|some ((a.1,a.2.1,a.2.2.1,[]++a.2.2.2.1,()),())
def Zob(a:List Zi):Option (List Zi×Unit):=Ze (([]:List Zi).length+a.length<=Qd)<|some ([]++a,())
def Zgo(a:Zp):Option (Zp×Unit):=(Zu6 a.2.1).bind λb=>(Zob a.2.2.1).bind λc=>(Zob a.2.2.2.1).bind λd=>(Zob a.2.2.2.2.1).bind λe=>some ((a.1,b.1,c.1,d.1,e.1,a.2.2.2.2.2.1,a.2.2.2.2.2.2.1,a.2.2.2.2.2.2.2.1,a.2.2.2.2.2.2.2.2.1,()),())
def Zod(a:Zv):Option (Zv×Unit):=Ze (([]:List Z6).length+a.2.1.length<=Qd)<|some ((a.1,[]++a.2.1,()),())
def Zlx(a:Zx):Option (Zx×Unit):=(Zod a.2.1).bind λb=>some ((a.1,b.1,a.2.2.1,a.2.2.2.1,a.2.2.2.2.1,()),())
def Zdm(a:Zg):Option (Zg×Unit):=(Zgo a.2.1).bind λb=>(Zlx a.2.2.2.1).bind λc=>some ((a.1,b.1,a.2.2.1,c.1,a.2.2.2.2),())
def Zn1(a c:List Qb)(b:Int):Nat:=((a.length:Int)-b).toNat+1
def Zjw:Nat->List Qb->List Qb->Int->Option (List Qb×Unit)
 |0,_,_,_=>none
 |N+1,b,c,a=>
  bif decide (a<(b.length:Int))then
   Ze (0<=a/\a<b.length)<|
   Ze (0<=a/\a<b.length)<|
   Ze (([]:List Zf).length+(b.getD a.toNat Q6).2.1.length<=Qd)<|
   let d:List Qb:=[((b.getD a.toNat Q6).1,([]:List Zf)++(b.getD a.toNat Q6).2.1,())]
   Ze (c.length+d.length<=Qd)<|
   Zjw N b (c++d) (IntKind.i64.wrap (a+1))
  else
   some (c,())
def Ztz(a:List Qb):Option (List Qb×Unit):=Zjw (Zn1 a ([]:List Qb) (0:Int)) a ([]:List Qb) (0:Int)
def Zro(a c d:Zc)(b:Int):Nat:=((a.2.2.2.1.length:Int)-b).toNat+1
def Zhf:Nat->Zc->Zc->Zc->Int->Option (Zc×Unit)|0,_,_,_,_=>none|N+1,b,e,a,c=>bif decide (c<(b.2.2.2.1.length:Int))then Ze (0<=c/\c<b.2.2.2.1.length)<|(Zdm (b.2.2.2.1.getD c.toNat Zj)).bind λd=>Ze (a.2.2.2.1.length+([d.1]).length<=Qd)<|Zhf N b e (a.1,a.2.1,a.2.2.1,a.2.2.2.1++([d.1]),a.2.2.2.2) (IntKind.i64.wrap (c+1)) else (Ztz b.2.2.2.2.2.2.2.2.2.2.2.2.2.2.2.1).bind λf=>some ((a.1,a.2.1,a.2.2.1,a.2.2.2.1,a.2.2.2.2.1,a.2.2.2.2.2.1,a.2.2.2.2.2.2.1,a.2.2.2.2.2.2.2.1,a.2.2.2.2.2.2.2.2.1,a.2.2.2.2.2.2.2.2.2.1,a.2.2.2.2.2.2.2.2.2.2.1,a.2.2.2.2.2.2.2.2.2.2.2.1,a.2.2.2.2.2.2.2.2.2.2.2.2.1,a.2.2.2.2.2.2.2.2.2.2.2.2.2.1,a.2.2.2.2.2.2.2.2.2.2.2.2.2.2.1,f.1,a.2.2.2.2.2.2.2.2.2.2.2.2.2.2.2.2),())
def Z9(a:Zc):Option (Zc×Unit):=Zhf (Zro a Yi (a.1,a.2.1,a.2.2.1,([]:List Zg),a.2.2.2.2) (0:Int)) a Yi (a.1,a.2.1,a.2.2.1,([]:List Zg),a.2.2.2.2) (0:Int)
def Za6(a:Xu)(b:Int):Nat:=((a.2.2.2.1.length:Int)-b).toNat+1
def Zjs:Nat->Xu->Int->Option (Bool×Unit)|0,_,_=>none|N+1,b,a=>bif decide (a<(b.2.2.2.1.length:Int))then Ze (0<=a/\a<b.2.2.2.1.length)<|(Z8 (b.2.2.2.1.getD a.toNat (0:Int)) (0:Int) (255:Int)).bind λc=>bif !c.1 then some (false,()) else Zjs N b (IntKind.i64.wrap (a+1)) else some (true,())
def Zba(a:Xu):Option (Bool×Unit):=(Vl a.1).bind λb=>bif(((((!b.1)||((a.2.2.2.1.length:Int) !=a.1))||(decide (a.2.1<0)))||(decide (a.2.2.1<a.2.1)))||(decide ((IntKind.i64.wrap (a.2.2.1-a.2.1))>a.1)))||(decide (a.2.2.1>4611686018427387903))then some (false,()) else Zjs (Za6 a (0:Int)) a (0:Int)
def Zyt(a:Zi):Option (Bool×Unit):=some (((decide (a.1>=0))&&(decide (a.1<a.2.1)))&&(decide (a.2.1<=4611686018427387903)),())
def Zew(a:List Zi)(b:Int):Nat:=((a.length:Int)-b).toNat+1
def Zcr:Nat->List Zi->Int->Option (Bool×Unit)|0,_,_=>none|N+1,b,a=>bif decide (a<(b.length:Int))then Ze (0<=a/\a<b.length)<|(Zyt (b.getD a.toNat Zz)).bind λc=>Ze (((!c.1)=false->((decide (a>(0:Int)))=true->(0<=(IntKind.i64.wrap (a-1))/\(IntKind.i64.wrap (a-1))<b.length))))<|Ze (((!c.1)=false->((decide (a>(0:Int)))=true->(0<=a/\a<b.length))))<|bif(!c.1)||((decide (a>(0:Int)))&&(decide ((b.getD (IntKind.i64.wrap (a-1)).toNat Zz).2.1>=(b.getD a.toNat Zz).1)))then some (false,()) else Zcr N b (IntKind.i64.wrap (a+1)) else some (true,())
def Vz(a:List Zi):Option (Bool×Unit):=Zcr (Zew a (0:Int)) a (0:Int)
def Zcl(K1:(List Zi×Zi×List Zi×Bool×Int×Unit)->Option (List Zi×Unit))(a:List Zi)(b:Zi)(c:List Zi)(d:Bool)(e:Int):Option (List Zi×Unit):=K1 (a,b,c,d,IntKind.i64.wrap (e+1),())
def Zns(K1:(List Zi×Zi×List Zi×Bool×Int×Unit)->Option (List Zi×Unit))(b:List Zi)(d:Zi)(c:List Zi)(e:Bool)(a:Int):Option (List Zi×Unit):=Ze (0<=a/\a<b.length)<|Ze (c.length+([(b.getD a.toNat Zz)]).length<=Qd)<|Zcl K1 b d (c++([(b.getD a.toNat Zz)])) e a
def Zj2(a:List Zi)(c:Zi)(d:List Zi)(e:Bool)(b:Int):Nat:=((a.length:Int)-b).toNat+1
def Kw:Nat->List Zi->Zi->List Zi->Bool->Int->Option (List Zi×Unit)|0,_,_,_,_,_=>none|N+1,b,c,d,e,a=>bif decide (a<(b.length:Int))then Ze (0<=a/\a<b.length)<|bif decide ((b.getD a.toNat Zz).2.1<c.1)then Ze (0<=a/\a<b.length)<|Ze (d.length+([(b.getD a.toNat Zz)]).length<=Qd)<|Zcl (λv=>Kw N v.1 v.2.1 v.2.2.1 v.2.2.2.1 v.2.2.2.2.1) b c (d++([(b.getD a.toNat Zz)])) e a else Ze (0<=a/\a<b.length)<|bif decide ((b.getD a.toNat Zz).1>c.2.1)then bif !e then Ze (d.length+([c]).length<=Qd)<|Zns (λv=>Kw N v.1 v.2.1 v.2.2.1 v.2.2.2.1 v.2.2.2.2.1) b c (d++([c])) true a else Zns (λv=>Kw N v.1 v.2.1 v.2.2.1 v.2.2.2.1 v.2.2.2.2.1) b c d e a else Ze (0<=a/\a<b.length)<|Ze (0<=a/\a<b.length)<|Zcl (λv=>Kw N v.1 v.2.1 v.2.2.1 v.2.2.2.1 v.2.2.2.2.1) b (min c.1 (b.getD a.toNat Zz).1,max c.2.1 (b.getD a.toNat Zz).2.1,c.2.2) d e a else bif !e then Ze (d.length+([c]).length<=Qd)<|some (d++([c]),()) else some (d,())
def Zc5(a:List Zi)(b:Zi):Option (List Zi×Unit):=(Vz a).bind λc=>(bif(!c.1)then some (false,())else(Zyt b)).bind λd=>bif(!c.1)||(!d.1)then (Zob a).bind λe=>some (e.1,()) else Kw (Zj2 a b ([]:List Zi) false (0:Int)) a b ([]:List Zi) false (0:Int)
def Zej(a:List Zi)(c b:Int):Nat:=((a.length:Int)-b).toNat+1
def J6:Nat->List Zi->Int->Int->Option (Int×Unit)|0,_,_,_=>none|N+1,b,c,a=>bif decide (a<(b.length:Int))then Ze (0<=a/\a<b.length)<|Ze (0<=a/\a<b.length)<|J6 N b (IntKind.i64.wrap ((IntKind.i64.wrap (c+(b.getD a.toNat Zz).2.1))- (b.getD a.toNat Zz).1)) (IntKind.i64.wrap (a+1)) else some (c,())
def Za8(a:List Zi):Option (Int×Unit):=(Vz a).bind λb=>bif !b.1 then some ((-1:Int),()) else J6 (Zej a (0:Int) (0:Int)) a (0:Int) (0:Int)
def Znx(K1:(List Zi×Int×Int×Unit)->Option (Int×Unit))(a:List Zi)(b c:Int):Option (Int×Unit):=K1 (a,b,IntKind.i64.wrap (c+1),())
def Zpz(a:List Zi)(c b:Int):Nat:=((a.length:Int)-b).toNat+1
def Zaq:Nat->List Zi->Int->Int->Option (Int×Unit)
 |0,_,_,_=>none
 |N+1,b,c,a=>
  bif decide (a<(b.length:Int))then
   Ze (0<=a/\a<b.length)<|
   let d:Bool:=decide (c>=(b.getD a.toNat Zz).1)
   Ze ((d=true->(0<=a/\a<b.length)))<|
   bif d&&(decide (c<(b.getD a.toNat Zz).2.1))then
    Ze (0<=a/\a<b.length)<|
    Znx (λv=>Zaq N v.1 v.2.1 v.2.2.1) b (b.getD a.toNat Zz).2.1 a
   else
    Znx (λv=>Zaq N v.1 v.2.1 v.2.2.1) b c a
  else
   some (c,())
def Zma(a:List Zi)(b:Int):Option (Int×Unit):=(Vz a).bind λc=>bif(!c.1)||(decide (b<0))then some ((-1:Int),()) else Zaq (Zpz a b (0:Int)) a b (0:Int)
def Zdq(a:Zp):Option (Int×Unit):=bif(a.2.2.2.2.2.2.1==3)&&(a.2.1.2.1==a.2.1.2.2.1)then some (3,()) else bif(decide (a.2.2.2.2.2.2.1>1))||((a.2.2.2.2.2.2.1==1)&&(a.1==2))then some (2,()) else bif(decide (a.2.2.2.2.2.2.2.1>0))||((a.2.2.2.2.2.2.1==1)&&(a.1==1))then some (1,()) else some (0,())
def Zj6(a:Zp)(i8:Int):Nat:=((a.2.2.2.2.1.length:Int)-i8).toNat+1
def Zfi:Nat->Zp->Int->Option (Bool×Unit)|0,_,_=>none|N+1,a,i8=>bif decide (i8<(a.2.2.2.2.1.length:Int))then Ze (0<=i8/\i8<a.2.2.2.2.1.length)<|bif decide ((a.2.2.2.2.1.getD i8.toNat Zz).2.1>a.2.2.2.2.2.2.2.1)then some (false,()) else Zfi N a (IntKind.i64.wrap (i8+1)) else bif(!((a.2.2.2.2.2.2.1==0)==(a.2.2.2.2.2.1==(-1:Int))))||((a.2.2.2.2.2.1 !=(-1:Int))&&(a.2.2.2.2.2.1 !=a.2.1.2.2.1))then some (false,()) else (Zdq a).bind λb=>some (a.1==b.1,())
def Zey(a:Zp)(b:Int):Nat:=((a.2.2.2.1.length:Int)-b).toNat+1
def Zfh:Nat->Zp->Int->Option (Bool×Unit)|0,_,_=>none|N+1,a,b=>bif decide (b<(a.2.2.2.1.length:Int))then Ze (0<=b/\b<a.2.2.2.1.length)<|bif decide ((a.2.2.2.1.getD b.toNat Zz).2.1>a.2.2.2.2.2.2.2.1)then some (false,()) else Zfh N a (IntKind.i64.wrap (b+1)) else Zfi (Zj6 a (0:Int)) a (0:Int)
def Zex(a:Zp)(c:List Zi)(b:Int):Nat:=((a.2.2.2.2.1.length:Int)-b).toNat+1
def Zfg:Nat->Zp->List Zi->Int->Option (Bool×Unit)
 |0,_,_,_=>none
 |N+1,a,c,b=>
  bif decide (b<(a.2.2.2.2.1.length:Int))then
   Ze (0<=b/\b<a.2.2.2.2.1.length)<|
   (Zc5 c (a.2.2.2.2.1.getD b.toNat Zz)).bind λf=>
   Zfg N a f.1 (IntKind.i64.wrap (b+1))
  else
   (Za8 a.2.2.1).bind λg=>
   (Za8 a.2.2.2.1).bind λh=>
   (Za8 a.2.2.2.2.1).bind λi=>
   (Za8 c).bind λj=>
   let d:Bool:=(j.1 !=a.2.1.2.2.1)||((IntKind.i64.wrap ((IntKind.i64.wrap (g.1+h.1))+i.1)) !=a.2.1.2.2.1)
   Ze ((d=false->((decide (a.2.1.2.2.1>(0:Int)))=true->(0<=(0:Int)/\(0:Int)<c.length))))<|
   let e:Bool:=d||((decide (a.2.1.2.2.1>(0:Int)))&&((c.getD (0:Int).toNat Zz).2.1 !=a.2.1.2.2.1))
   (bif e then some ((0:Int),())else(Zma a.2.2.2.2.1 (0:Int))).bind λk=>
   bif(e||(k.1 !=a.2.1.2.1))||(a.2.2.2.2.2.2.2.2.1 !=0)then
    some (false,())
   else
    Zfh (Zey a (0:Int)) a (0:Int)
def Jn(a:Zp)(Qp9:List Zi)(b:Int):Nat:=((a.2.2.2.1.length:Int)-b).toNat+1
def Zff:Nat->Zp->List Zi->Int->Option (Bool×Unit)|0,_,_,_=>none|N+1,a,Qp9,b=>bif decide (b<(a.2.2.2.1.length:Int))then Ze (0<=b/\b<a.2.2.2.1.length)<|(Zc5 Qp9 (a.2.2.2.1.getD b.toNat Zz)).bind λc=>Zff N a c.1 (IntKind.i64.wrap (b+1)) else Zfg (Zex a Qp9 (0:Int)) a Qp9 (0:Int)
def Y5(a:Zp):Option (Bool×Unit):=
 (Zba a.2.1).bind λb=>
 (bif(!b.1)then some (false,())else(Vz a.2.2.1)).bind λe=>
 (bif((!b.1)||(!e.1))then some (false,())else(Vz a.2.2.2.1)).bind λh=>
 let c:=((!b.1)||(!e.1))||(!h.1)
 (bif c then some (false,())else(Vz a.2.2.2.2.1)).bind λf=>
 (bif(c||(!f.1))then some (false,())else(Z8 a.2.2.2.2.2.2.2.1 0 a.2.1.2.2.1)).bind λi=>
 let d:=(c||(!f.1))||(!i.1)
 (bif d then some (false,())else(Qz a.2.2.2.2.2.2.2.2.1)).bind λg=>
 (bif(d||(!g.1))then some (false,())else(Z8 a.2.2.2.2.2.2.1 0 3)).bind λj=>
 bif(d||(!g.1))||(!j.1)then
  some (false,())
 else
  bif(a.1==4)||(a.1==5)then
   some (((((((a.2.1.2.1==a.2.1.2.2.1)&&((a.2.2.1.length:Int)==(0:Int)))&&((a.2.2.2.1.length:Int)==(0:Int)))&&((a.2.2.2.2.1.length:Int)==(0:Int)))&&(a.2.2.2.2.2.1==a.2.2.2.2.2.2.2.1))&&(a.2.2.2.2.2.2.1==0))&&(a.2.2.2.2.2.2.2.1==a.2.1.2.2.1),())
  else
   Zff (Jn a a.2.2.1 (0:Int)) a a.2.2.1 (0:Int)
def Kp(a:Qt):Option (Bool×Unit):=(Qz a.1).bind λb=>(bif b.1 then(Z8 a.2.1 0 a.1)else some (false,())).bind λc=>(bif(b.1&&c.1)then(Z8 a.2.2.1 (-1:Int) a.1)else some (false,())).bind λd=>(bif((b.1&&c.1)&&d.1)then(Z8 a.2.2.2.1 (-1:Int) a.1)else some (false,())).bind λe=>some (((b.1&&c.1)&&d.1)&&e.1,())
def Zp0(a:Zv)(c b:Int):Nat:=((a.2.1.length:Int)-b).toNat+1
def Zi1:Nat->Zv->Int->Int->Option (Bool×Unit)|0,_,_,_=>none|N+1,a,c,b=>bif decide (b<(a.2.1.length:Int))then Ze (0<=b/\b<a.2.1.length)<|bif((decide ((a.2.1.getD b.toNat Qx).1<=c))||((a.2.1.getD b.toNat Qx).2.1==([]:List UInt8)))||(decide ((a.2.1.getD b.toNat Qx).1>(IntKind.i64.wrap ((4611686018427387903:Int)- ((a.2.1.getD b.toNat Qx).2.1.length:Int)))))then some (false,()) else Zi1 N a (IntKind.i64.wrap ((a.2.1.getD b.toNat Qx).1+((a.2.1.getD b.toNat Qx).2.1.length:Int))) (IntKind.i64.wrap (b+1)) else (Qz a.1).bind λd=>some (d.1,())
def Zii(a:Zv):Option (Bool×Unit):=Zi1 (Zp0 a (IntKind.i64.wrap (a.1-1)) (0:Int)) a (IntKind.i64.wrap (a.1-1)) (0:Int)
def Zri(a:Zv):Option (Int×Unit):=
 (bif((a.2.1.length:Int)==(0:Int))then some (false,())else(Zii a)).bind λc=>
 bif((a.2.1.length:Int)==(0:Int))||(!c.1)then
  some (a.1,())
 else
  let b:=IntKind.i64.wrap ((a.2.1.length:Int)-1)
  Ze (0<=b/\b<a.2.1.length)<|
  some (IntKind.i64.wrap ((a.2.1.getD b.toNat Qx).1+((a.2.1.getD b.toNat Qx).2.1.length:Int)),())
def Zd8(a:Zv):Option (Int×Unit):=
 (Zii a).bind λc=>
 let b:=(!c.1)||((a.2.1.length:Int)==(0:Int))
 Ze ((b=false->(0<=(0:Int)/\(0:Int)<a.2.1.length)))<|
 bif b||((a.2.1.getD (0:Int).toNat Qx).1 !=a.1)then
  some (0,())
 else
  Ze (0<=(0:Int)/\(0:Int)<a.2.1.length)<|
  some (((a.2.1.getD (0:Int).toNat Qx).2.1.length:Int),())
def Ke(a:Zx)(b:Bool):Option (Bool×Unit):=bif b then some (((a.2.2.1 !=(-1:Int))&&(a.2.2.2.1==a.2.2.1))&&((a.2.1.2.1.length:Int)==(0:Int)),()) else some (false,())
def Xq(a:Zx):Option (Bool×Unit):=
 (Zii a.2.1).bind λb=>
 (bif(!b.1)then some (false,())else(Qz a.2.2.2.1)).bind λd=>
 (bif((!b.1)||(!d.1))then some (0,())else(Zri a.2.1)).bind λf=>
 let e:=((!b.1)||(!d.1))||(decide (f.1>a.2.2.2.1))
 (bif e then some (false,())else(Qz a.2.2.2.2.1)).bind λg=>
 bif(((e||(!g.1))||((a.2.2.1 !=(-1:Int))&&(decide (a.2.2.1<a.2.2.2.1))))||(decide (a.2.2.1>4611686018427387903)))||(decide (a.2.2.1<(-1:Int)))then
  some (false,())
 else
  (bif(a.2.2.1 !=(-1:Int))then(Zd8 a.2.1)else some (0,())).bind λh=>
  let c:=(a.2.2.1 !=(-1:Int))&&((IntKind.i64.wrap (a.2.1.1+h.1))==a.2.2.1)
  bif a.1==0 then
   some ((a.2.2.1==(-1:Int))&&(a.2.2.2.2.1==0),())
  else
   bif a.1==1 then
    some (((a.2.2.1 !=(-1:Int))&&(!c))&&(a.2.2.2.2.1==0),())
   else
    bif a.1==2 then
     some (c&&(a.2.2.2.2.1==0),())
    else
     bif a.1==3 then
      some ((c&&((a.2.1.2.1.length:Int)==(0:Int)))&&(a.2.2.2.2.1==0),())
     else
      bif a.1==4 then
       Ke a (a.1==4)
      else
       Ke a (a.1==5)
def V0(a:Qg):Option (Bool×Unit):=
 (Z8 a.2.1 1 4096).bind λb=>
 (bif b.1 then(Z8 a.1 1 a.2.1)else some (false,())).bind λc=>
 (bif(b.1&&c.1)then(Z8 a.2.2.1 1 4611686018427387903)else some (false,())).bind λd=>
 (bif((b.1&&c.1)&&d.1)then(Z8 a.2.2.2.1 0 a.2.2.1)else some (false,())).bind λg=>
 let e:=((b.1&&c.1)&&d.1)&&g.1
 (bif e then(Z8 a.2.2.2.2.1 0 a.2.2.2.1)else some (false,())).bind λh=>
 let f:=(e&&h.1)&&(decide (a.2.2.1<=(IntKind.i64.wrap (a.2.2.2.2.1+a.1))))
 (bif f then(Z8 a.2.2.2.2.2.1 0 1000000)else some (false,())).bind λi=>
 some (f&&i.1,())
def Zbs(a:X8):Option (Bool×Unit):=(Z8 a.1 0 7).bind λb=>some (b.1,())
def Zbl(a:Zg):Option (Bool×Unit):=
 (Qz a.1).bind λb=>
 (bif(!b.1)then some (false,())else(Y5 a.2.1)).bind λe=>
 (bif((!b.1)||(!e.1))then some (false,())else(Kp a.2.2.1)).bind λh=>
 let c:=((!b.1)||(!e.1))||(!h.1)
 (bif c then some (false,())else(Xq a.2.2.2.1)).bind λf=>
 (bif(c||(!f.1))then some (false,())else(V0 a.2.2.2.2.1)).bind λi=>
 let d:=(c||(!f.1))||(!i.1)
 (bif d then some (false,())else(Zbs a.2.2.2.2.2.1)).bind λg=>
 (bif(d||(!g.1))then some (false,())else(Qz a.2.2.2.2.2.2.2.2.2.2.2.2.1)).bind λj=>
 bif((d||(!g.1))||(!j.1))||((!a.2.2.2.2.2.2.1)&&(!a.2.2.2.2.2.2.2.1))then
  some (false,())
 else
  bif((((decide (a.2.1.2.2.2.2.2.2.2.1>a.2.2.1.2.1))||(decide (a.2.2.2.1.2.2.2.1>a.2.2.2.2.1.2.2.2.1)))||(a.2.2.2.2.2.2.2.2.1&&(a.2.1.1 !=4)))||(a.2.2.2.2.2.2.2.2.2.1&&(!a.2.2.2.2.2.2.2.2.2.2.2.1)))||((a.2.2.2.2.2.2.2.2.2.2.2.2.1 !=0)&&(!a.2.2.2.2.2.2.2.2.2.2.2.1))then
   some (false,())
  else
   some ((a.2.2.2.2.2.2.1||(((a.2.1.1==0)&&(a.2.1.2.1.2.2.1==0))&&(a.2.1.2.2.2.2.2.1==(-1:Int))))&&(a.2.2.2.2.2.2.2.1||(((a.2.2.2.1.1==0)&&(a.2.2.2.1.2.2.2.1==0))&&(!a.2.2.2.2.2.2.2.2.2.2.2.1))),())
def Zcm(a:List Zg)(b:Int):Nat:=((a.length:Int)-b).toNat+1
def Kc:Nat->List Zg->Int->Option (Bool×Unit)|0,_,_=>none|N+1,b,a=>bif decide (a<(b.length:Int))then Ze (0<=a/\a<b.length)<|(Zbl (b.getD a.toNat Zj)).bind λc=>Ze (((!c.1)=false->((decide (a>(0:Int)))=true->(0<=a/\a<b.length))))<|Ze (((!c.1)=false->((decide (a>(0:Int)))=true->(0<=(IntKind.i64.wrap (a-1))/\(IntKind.i64.wrap (a-1))<b.length))))<|bif(!c.1)||((decide (a>(0:Int)))&&(decide ((b.getD a.toNat Zj).1<=(b.getD (IntKind.i64.wrap (a-1)).toNat Zj).1)))then some (false,()) else Kc N b (IntKind.i64.wrap (a+1)) else some (decide ((b.length:Int)<=(24:Int)),())
def Jt(a:List Zg):Option (Bool×Unit):=Kc (Zcm a (0:Int)) a (0:Int)
def Zf0(a:Ze2):Option (Bool×Unit):=(Z8 a.1 0 1152921504606846976).bind λb=>(bif b.1 then(Z8 a.2.1 0 a.1)else some (false,())).bind λc=>(bif(b.1&&c.1)then(Z8 a.2.2.1 (-1:Int) a.1)else some (false,())).bind λd=>some ((b.1&&c.1)&&d.1,())
def Zas(a:Qt):Option (Bool×Unit):=(Z8 a.1 0 1000).bind λb=>(bif b.1 then(Z8 a.2.1 a.1 1152921504606846976)else some (false,())).bind λc=>(bif(b.1&&c.1)then(Z8 a.2.2.1 0 a.2.1)else some (false,())).bind λd=>(bif((b.1&&c.1)&&d.1)then(Z8 a.2.2.2.1 0 a.2.2.1)else some (false,())).bind λe=>some ((((b.1&&c.1)&&d.1)&&e.1)&&(decide (a.2.1<=(IntKind.i64.wrap (a.2.2.2.1+a.1)))),())
def Zij(a:Int):Option (List UInt8×Unit):=bif a==4 then some (([114,101,115,101,116]:List UInt8),()) else bif a==5 then some (([115,116,111,112]:List UInt8),()) else bif a==8 then some (([115,116,114,101,97,109]:List UInt8),()) else bif a==16 then some (([109,97,120,100,97,116,97]:List UInt8),()) else bif a==17 then some (([109,97,120,115,116,114,101,97,109,100,97,116,97]:List UInt8),()) else bif a==18 then some (([109,97,120,115,116,114,101,97,109,115]:List UInt8),()) else bif a==20 then some (([100,97,116,97,98,108,111,99,107,101,100]:List UInt8),()) else bif a==21 then some (([115,116,114,101,97,109,100,97,116,97,98,108,111,99,107,101,100]:List UInt8),()) else bif a==22 then some (([115,116,114,101,97,109,115,98,108,111,99,107,101,100]:List UInt8),()) else some ([],())
def Kk(a:Bool):Option (Bool×Unit):=bif a then some (true,()) else some (false,())
def Zab(a:Zf):Option (Bool×Unit):=bif a.1==4 then Kk (a.1==4) else bif a.1==5 then Kk (a.1==5) else bif a.1==8 then Kk (a.1==8) else bif a.1==17 then Kk (a.1==17) else Kk (a.1==21)
def Zn6(b d a:Zf)(c:Bool):Option (Zf×Unit):=bif c then some ((a.1,a.2.1,a.2.2.1,a.2.2.2.1,a.2.2.2.2.1,a.2.2.2.2.2.1,b.2.2.2.2.2.2.1,a.2.2.2.2.2.2.2.1,b.2.2.2.2.2.2.2.2.1,a.2.2.2.2.2.2.2.2.2),()) else some ((a.1,a.2.1,a.2.2.1,a.2.2.2.1,a.2.2.2.2.1,a.2.2.2.2.2.1,b.2.2.2.2.2.2.1,a.2.2.2.2.2.2.2),())
def Zn5(b c a:Zf):Option (Zf×Unit):=bif b.1==4 then some ((a.1,a.2.1,a.2.2.1,a.2.2.2.1,a.2.2.2.2.1,b.2.2.2.2.2.1,a.2.2.2.2.2.2.1,b.2.2.2.2.2.2.2.1,a.2.2.2.2.2.2.2.2),()) else bif b.1==5 then some ((a.1,a.2.1,a.2.2.1,a.2.2.2.1,a.2.2.2.2.1,b.2.2.2.2.2.1,a.2.2.2.2.2.2),()) else bif b.1==8 then some ((a.1,a.2.1,b.2.2.1,b.2.2.2.1,b.2.2.2.2.1,a.2.2.2.2.2),()) else bif b.1==18 then Zn6 b c a (b.1==18) else Zn6 b c a (b.1==22)
def Zoc(a:Zf):Option (Zf×Unit):=(Zab a).bind λb=>bif b.1 then Zn5 a Qk (a.1,a.2.1,0,[],false,0,0,0,false,()) else Zn5 a Qk (a.1,0,0,[],false,0,0,0,false,())
def Ztx(a:Zf)(b:Bool):Option (Bool×Unit):=bif b then some (decide (a.2.2.2.2.2.2.1<=1152921504606846976),()) else some (true,())
def Zat(a:Zf):Option (Bool×Unit):=
 (Zij a.1).bind λd=>
 (bif(d.1==[])then some (Qk,())else(Zoc a)).bind λh=>
 let b:=(d.1==[])||(!(eqV (Zt) h.1 a))
 (bif b then some (false,())else(Qz a.2.1)).bind λe=>
 (bif(b||(!e.1))then some (false,())else(Qz a.2.2.1)).bind λi=>
 let c:=(b||(!e.1))||(!i.1)
 (bif c then some (false,())else(Qz a.2.2.2.2.2.1)).bind λf=>
 (bif(c||(!f.1))then some (false,())else(Qz a.2.2.2.2.2.2.1)).bind λj=>
 let g:=(c||(!f.1))||(!j.1)
 (bif g then some (false,())else(Qz a.2.2.2.2.2.2.2.1)).bind λk=>
 bif(g||(!k.1))||(decide ((a.2.2.2.1.length:Int)>(400:Int)))then
  some (false,())
 else
  bif a.1==8 then
   some (decide (a.2.2.1<=(IntKind.i64.wrap (4611686018427387903- (a.2.2.2.1.length:Int)))),())
  else
   bif a.1==18 then
    Ztx a (a.1==18)
   else
    Ztx a (a.1==22)
def Vi(a:List Zf)(b:Int):Nat:=((a.length:Int)-b).toNat+1
def Wj:Nat->List Zf->Int->Option (Bool×Unit)|0,_,_=>none|N+1,b,a=>bif decide (a<(b.length:Int))then Ze (0<=a/\a<b.length)<|(Zat (b.getD a.toNat Qk)).bind λc=>bif !c.1 then some (false,()) else Wj N b (IntKind.i64.wrap (a+1)) else some (true,())
def Zgj(a:List Zf):Option (Bool×Unit):=Wj (Vi a (0:Int)) a (0:Int)
def Ja(a:List Zg)(c b:Int):Nat:=((a.length:Int)-b).toNat+1
def J2:Nat->List Zg->Int->Int->Option (Int×Unit)|0,_,_,_=>none|N+1,a,c,b=>(bif(decide (b<(a.length:Int)))then(Jt a)else some (false,())).bind λd=>bif(decide (b<(a.length:Int)))&&d.1 then Ze (0<=b/\b<a.length)<|J2 N a (min (IntKind.i64.wrap (c+(a.getD b.toNat Zj).2.1.2.2.2.2.2.2.2.1)) (4611686018427387904:Int)) (IntKind.i64.wrap (b+1)) else some (c,())
def Zgi(a:List Zg):Option (Int×Unit):=J2 (Ja a (0:Int) (0:Int)) a (0:Int) (0:Int)
def K9(a:List Zg)(c b:Int):Nat:=((a.length:Int)-b).toNat+1
def J1:Nat->List Zg->Int->Int->Option (Int×Unit)|0,_,_,_=>none|N+1,a,c,b=>(bif(decide (b<(a.length:Int)))then(Jt a)else some (false,())).bind λd=>bif(decide (b<(a.length:Int)))&&d.1 then Ze (0<=b/\b<a.length)<|J1 N a (min (IntKind.i64.wrap (c+(a.getD b.toNat Zj).2.2.2.1.2.2.2.1)) (4611686018427387904:Int)) (IntKind.i64.wrap (b+1)) else some (c,())
def Zgh(a:List Zg):Option (Int×Unit):=J1 (K9 a (0:Int) (0:Int)) a (0:Int) (0:Int)
def Js(a:Zc)(b:Int):Nat:=((a.2.2.2.2.2.2.2.2.2.2.2.2.2.2.2.1.length:Int)-b).toNat+1
def Zac:Nat->Zc->Int->Option (Bool×Unit)
 |0,_,_=>none
 |N+1,a,b=>
  bif decide (b<(a.2.2.2.2.2.2.2.2.2.2.2.2.2.2.2.1.length:Int))then
   Ze (0<=b/\b<a.2.2.2.2.2.2.2.2.2.2.2.2.2.2.2.1.length)<|
   (Z8 (a.2.2.2.2.2.2.2.2.2.2.2.2.2.2.2.1.getD b.toNat Q6).1 (0:Int) (IntKind.i64.wrap (a.2.2.2.2.2.2.2.2.2.2.2.2.2.2.1-1))).bind λd=>
   Ze (((!d.1)=false->((decide (b>(0:Int)))=true->(0<=b/\b<a.2.2.2.2.2.2.2.2.2.2.2.2.2.2.2.1.length))))<|
   Ze (((!d.1)=false->((decide (b>(0:Int)))=true->(0<=(IntKind.i64.wrap (b-1))/\(IntKind.i64.wrap (b-1))<a.2.2.2.2.2.2.2.2.2.2.2.2.2.2.2.1.length))))<|
   let e:Bool:=(!d.1)||((decide (b>(0:Int)))&&(decide ((a.2.2.2.2.2.2.2.2.2.2.2.2.2.2.2.1.getD b.toNat Q6).1<=(a.2.2.2.2.2.2.2.2.2.2.2.2.2.2.2.1.getD (IntKind.i64.wrap (b-1)).toNat Q6).1)))
   Ze ((e=false->(0<=b/\b<a.2.2.2.2.2.2.2.2.2.2.2.2.2.2.2.1.length)))<|
   (bif e then some (false,())else(Zgj (a.2.2.2.2.2.2.2.2.2.2.2.2.2.2.2.1.getD b.toNat Q6).2.1)).bind λj=>
   bif e||(!j.1)then
    some (false,())
   else
    Zac N a (IntKind.i64.wrap (b+1))
  else
   (Z8 a.2.2.2.2.2.2.2.2.2.2.2.2.2.1 (-1:Int) (4611686018427387903:Int)).bind λc=>
   (bif c.1 then(Z8 a.2.2.2.2.2.2.2.2.2.2.2.2.2.2.1 (0:Int) (1000000:Int))else some (false,())).bind λf=>
   (bif(c.1&&f.1)then(Z8 a.2.2.2.2.2.2.2.2.2.2.2.2.2.2.2.2.1 (0:Int) (1000000:Int))else some (false,())).bind λh=>
   (bif((c.1&&f.1)&&h.1)then(Z8 a.2.2.2.2.2.2.2.2.2.2.2.2.2.2.2.2.2.1 (0:Int) (255:Int))else some (false,())).bind λk=>
   let g:Bool:=((c.1&&f.1)&&h.1)&&k.1
   (bif g then(Zgi a.2.2.2.1)else some ((0:Int),())).bind λi=>
   (bif(g&&(decide (i.1<=a.2.2.2.2.1.2.1)))then(Zgh a.2.2.2.1)else some ((0:Int),())).bind λl=>
   some ((g&&(decide (i.1<=a.2.2.2.2.1.2.1)))&&(decide (l.1<=a.2.2.2.2.2.1.2.2.2.1)),())
def X9(a:Zc):Option (Bool×Unit):=
 (Za9 a.2.1).bind λb=>
 (bif(!b.1)then some (false,())else(Za9 a.2.2.1)).bind λf=>
 (bif((!b.1)||(!f.1))then some (false,())else(Jt a.2.2.2.1)).bind λj=>
 let c:=((!b.1)||(!f.1))||(!j.1)
 (bif c then some (false,())else(Kp a.2.2.2.2.1)).bind λg=>
 (bif(c||(!g.1))then some (false,())else(V0 a.2.2.2.2.2.1)).bind λk=>
 let d:=(c||(!g.1))||(!k.1)
 (bif d then some (false,())else(Zf0 a.2.2.2.2.2.2.1)).bind λh=>
 (bif(d||(!h.1))then some (false,())else(Zf0 a.2.2.2.2.2.2.2.1)).bind λl=>
 let e:=(d||(!h.1))||(!l.1)
 (bif e then some (false,())else(Zas a.2.2.2.2.2.2.2.2.1)).bind λi=>
 (bif(e||(!i.1))then some (false,())else(Zas a.2.2.2.2.2.2.2.2.2.1)).bind λm=>
 bif(e||(!i.1))||(!m.1)then
  some (false,())
 else
  Zac (Js a (0:Int)) a (0:Int)
def Zfz(a:Zc):Option (Bool×Unit):=some (a.2.2.2.2.2.2.2.2.2.2.2.2.2.2.2.2.2.1 !=0,())
def Y4(a:Zc):Option (Bool×Unit):=(X9 a).bind λb=>(bif b.1 then(Zfz a)else some (false,())).bind λc=>some (b.1&&(!c.1),())
def Zx6(a:Ze2):Option (Int×Ze2×Bool×Unit):=(Zf0 a).bind λb=>bif !b.1 then some ((-1:Int),a,false,()) else bif a.2.1==a.1 then some ((-1:Int),(a.1,a.2.1,a.1,a.2.2.2),false,()) else some (a.2.1,(a.1,IntKind.i64.wrap (a.2.1+1),a.2.2),true,())
def Zrl(b:Bool)(a:Int):Option (Int×Unit):=bif b then some (IntKind.i64.wrap (a+2),()) else some (a,())
def Z29(a:Int)(d b:Bool):Option (Int×Unit):=
 (Z8 a 0 1152921504606846975).bind λe=>
 bif !e.1 then
  some ((-1:Int),())
 else
  Ze (0<=(2:Int))<|
  let c:=IntKind.i64.wrap (a*2^ (min (2:Int).toNat IntKind.i64.bits))
  bif d then
   Zrl b (IntKind.i64.wrap (c+1))
  else
   Zrl b c
def W7:Option (X8×Unit):=some ((3,false,()),())
def Zsh:Option (Zx×Unit):=some ((0,(0,[],()),(-1:Int),0,0,()),())
def Zau(a:Int):Option (Bool×Unit):=(Qz a).bind λb=>some (b.1&&((bits .and .i64 a 2)==2),())
def Zpe(a:Int):Option (Bool×Unit):=(Qz a).bind λb=>some (b.1&&((bits .and .i64 a 1)==1),())
def Zhc(c:Bool)(a:Int):Option (Bool×Unit):=(Qz a).bind λb=>(bif b.1 then(Zpe a)else some (false,())).bind λd=>some (b.1&&(d.1==c),())
def K0(d:Bool)(a:Int):Option (Bool×Unit):=(Qz a).bind λb=>(bif b.1 then(Zau a)else some (false,())).bind λc=>(bif(!c.1)then some (false,())else(bif b.1 then(Zhc d a)else some (false,()))).bind λe=>some (b.1&&((!c.1)||e.1),())
def Xv(d:Bool)(a:Int):Option (Bool×Unit):=(Qz a).bind λb=>(bif b.1 then(Zau a)else some (false,())).bind λc=>(bif(!c.1)then some (false,())else(bif b.1 then(Zhc d a)else some (false,()))).bind λe=>some (b.1&&((!c.1)||(!e.1)),())
def Zwl(a:Int):Option (Xu×Bool×Unit):=(Vl a).bind λb=>bif !b.1 then some (Qsq,false,()) else Ze (0<=a/\a<=a/\a<=Qd)<|some ((a,0,0,List.replicate a.toNat 0,()),true,())
def Zdg(b:Int):Option (Zp×Bool×Unit):=(Zwl b).bind λa=>bif !a.2.1 then some (Zaw,false,()) else some ((0,a.1,[],[],[],(-1:Int),Zzk),true,())
def K7(d:Bool)(a:Int)(b e:Zic):Option (Zg×Bool×Unit):=(Qz a).bind λc=>(bif(!c.1)then some (false,())else(Za9 b)).bind λf=>(bif((!c.1)||(!f.1))then some (false,())else(Za9 e)).bind λg=>bif((!c.1)||(!f.1))||(!g.1)then some (Zj,false,()) else Option.bind W7 λh=>Option.bind Zsh λi=>(K0 d a).bind λj=>(Xv d a).bind λk=>(Zdg b.1).bind λl=>(Zgf e.2.1).bind λm=>(Zgg b.2.1 b.2.2.1).bind λn=>some ((a,l.1,m.1,i.1,n.1,h.1,j.1,k.1,false,false,false,false,0,false,()),true,())
def Kn(a:List Zg)(c b:Int):Nat:=((a.length:Int)-b).toNat+1
def Yt:Nat->List Zg->Int->Int->Option (Int×Unit)|0,_,_,_=>none|N+1,b,c,a=>bif decide (a<(b.length:Int))then Ze (0<=a/\a<b.length)<|bif(b.getD a.toNat Zj).1==c then some (a,()) else Yt N b c (IntKind.i64.wrap (a+1)) else some ((-1:Int),())
def Ys(a:List Zg)(b:Int):Option (Int×Unit):=Yt (Kn a b (0:Int)) a b (0:Int)
def Yl(K1:(List Zg×Zg×List Zg×Int×Bool×Int×Unit)->Option (List Zg×Unit))(c:List Zg)(d:Zg)(a:List Zg)(e:Int)(f:Bool)(g:Int)(b:Zg):Option (List Zg×Unit):=Ze (a.length+([b]).length<=Qd)<|K1 (c,d,a++([b]),e,f,IntKind.i64.wrap (g+1),())
def Zav(a:List Zg)(b:Zg)(c:List Zg)(d:Int)(e:Bool)(i8:Int):Nat:=((a.length:Int)-i8).toNat+1
def Xd:Nat->List Zg->Zg->List Zg->Int->Bool->Int->Option (List Zg×Unit)|0,_,_,_,_,_,_=>none|N+1,a,b,c,e,d,i8=>bif decide (i8<(a.length:Int))then Ze (0<=i8/\i8<a.length)<|(Zdm (a.getD i8.toNat Zj)).bind λf=>bif i8==e then (Zdm b).bind λi=>Yl (λv=>Xd N v.1 v.2.1 v.2.2.1 v.2.2.2.1 v.2.2.2.2.1 v.2.2.2.2.2.1) a b c e d i8 i.1 else Ze (((!d)=true->(0<=i8/\i8<a.length)))<|bif(!d)&&(decide ((a.getD i8.toNat Zj).1>b.1))then (Zdm b).bind λg=>Ze (c.length+([g.1]).length<=Qd)<|Yl (λv=>Xd N v.1 v.2.1 v.2.2.1 v.2.2.2.1 v.2.2.2.2.1 v.2.2.2.2.2.1) a b (c++([g.1])) e true i8 f.1 else Yl (λv=>Xd N v.1 v.2.1 v.2.2.1 v.2.2.2.1 v.2.2.2.2.1 v.2.2.2.2.2.1) a b c e d i8 f.1 else bif !d then (Zdm b).bind λh=>Ze (c.length+([h.1]).length<=Qd)<|some (c++([h.1]),()) else some (c,())
def Q0(b:List Zg)(c:Zg):Option (List Zg×Unit):=(Ys b c.1).bind λa=>Xd (Zav b c ([]:List Zg) a.1 (decide (a.1>=(0:Int))) (0:Int)) b c ([]:List Zg) a.1 (decide (a.1>=(0:Int))) (0:Int)
def Zb9(d:Bool)(b i a:Zc)(e:Int)(f:Bool):Option (Int×Zc×Bool×Unit):=bif !f then some ((-1:Int),a,false,()) else (Z29 e b.1 d).bind λc=>(K7 b.1 c.1 b.2.1 b.2.2.1).bind λg=>(Q0 a.2.2.2.1 g.1).bind λh=>some (c.1,(a.1,a.2.1,a.2.2.1,h.1,a.2.2.2.2),true,())
def Zb8(c:Bool)(d e a:Zc)(f:Ze2):Option (Int×Zc×Bool×Unit):=(Zx6 f).bind λb=>bif c then Zb9 c d e (a.1,a.2.1,a.2.2.1,a.2.2.2.1,a.2.2.2.2.1,a.2.2.2.2.2.1,a.2.2.2.2.2.2.1,b.2.1,a.2.2.2.2.2.2.2.2) b.1 b.2.2.1 else Zb9 c d e (a.1,a.2.1,a.2.2.1,a.2.2.2.1,a.2.2.2.2.1,a.2.2.2.2.2.1,b.2.1,a.2.2.2.2.2.2.2) b.1 b.2.2.1
def Zkz(a:Zc)(b:Bool):Option (Int×Zc×Bool×Unit):=(Z9 a).bind λc=>(Y4 a).bind λd=>bif(!d.1)||(decide ((a.2.2.2.1.length:Int)>=(24:Int)))then some ((-1:Int),c.1,false,()) else bif b then Zb8 b a Yi c.1 a.2.2.2.2.2.2.2.1 else Zb8 b a Yi c.1 a.2.2.2.2.2.2.1
def Zu3(c:Qc)(b:List (List UInt8)):Option ((List UInt8×Unit)×(Qc×Unit)):=(Qo c (b.length:Int)).bind λa=>Ze (0<=a.1.1/\a.1.1<b.length)<|some ((b.getD a.1.1.toNat [],()),a.2.1,())
def Zm0(b:Qc)(c:List UInt8)(a:Int):Nat:=(a-0).toNat+1
def Zn3:Nat->Qc->List UInt8->Int->Option ((List UInt8×Unit)×(Qc×Unit))|0,_,_,_=>none|N+1,c,a,d=>bif decide (d>(0:Int))then (Zu3 c ([([97]:List UInt8),([98]:List UInt8),([99]:List UInt8),([100]:List UInt8)])).bind λb=>Ze (a.length+b.1.1.length<=Yh)<|Zn3 N b.2.1 (a++b.1.1) (IntKind.i64.wrap (d-1)) else some ((a,()),c,())
def Zu5(b:Qc)(c:Int):Option ((List UInt8×Unit)×(Qc×Unit)):=(Qo b (IntKind.i64.wrap (c+1))).bind λa=>Zn3 (Zm0 a.2.1 ([]:List UInt8) a.1.1) a.2.1 ([]:List UInt8) a.1.1
def Xf(b:Zc)(c:Int):Option (Zg×Bool×Unit):=(Ys b.2.2.2.1 c).bind λa=>bif decide (a.1<0)then some (Zj,false,()) else Ze (0<=a.1/\a.1<b.2.2.2.1.length)<|(Zdm (b.2.2.2.1.getD a.1.toNat Zj)).bind λd=>some (d.1,true,())
def Z9j(a:Xu):Option (Int×Unit):=(Zba a).bind λb=>bif !b.1 then some (0,()) else some (min (IntKind.i64.wrap (a.1- (IntKind.i64.wrap (a.2.2.1-a.2.1)))) (IntKind.i64.wrap (4611686018427387903-a.2.2.1)),())
def Zh9(b:List UInt8)(c d e:Xu)(a i8:Int):Nat:=(a-i8).toNat+1
def Zdk:Nat->List UInt8->Xu->Xu->Xu->Int->Int->Option (Xu×Int×Unit)
 |0,_,_,_,_,_,_=>none
 |N+1,d,b,f,a,c,i8=>
  bif decide (i8<c)then
   Ze (b.1≠0)<|
   let e:Int:=Int.tmod (IntKind.i64.wrap (b.2.2.1+i8)) b.1
   Ze (0<=i8/\i8<d.length)<|
   Ze (0<=e/\e<a.2.2.2.1.length)<|
   Zdk N d b f (a.1,a.2.1,a.2.2.1,a.2.2.2.1.set e.toNat (IntKind.i64.wrap ((d.getD i8.toNat 0).toNat:Int)),a.2.2.2.2) c (IntKind.i64.wrap (i8+1))
  else
   some ((a.1,a.2.1,IntKind.i64.wrap (b.2.2.1+c),a.2.2.2),c,())
def Zwn(a:Xu)(b:List UInt8):Option (Xu×Int×Unit):=(Zu6 a).bind λc=>(Z9j a).bind λd=>Zdk (Zh9 b a Qsq c.1 (min d.1 (b.length:Int)) (0:Int)) b a Qsq c.1 (min d.1 (b.length:Int)) (0:Int)
def Zmx(d a:Zp)(b:Xu)(c:Int):Option (Zp×Int×Unit):=some ((a.1,b,a.2.2),c,())
def Zsi(a:Zp)(d:List UInt8):Option (Zp×Int×Unit):=(Zgo a).bind λc=>(Y5 a).bind λe=>bif((!e.1)||(decide (a.1>1)))||(a.2.2.2.2.2.1 !=(-1:Int))then some (c.1,0,()) else (Zwn a.2.1 d).bind λb=>bif decide (b.2.1>0)then (Zc5 a.2.2.1 (a.2.1.2.2.1,b.1.2.2.1,())).bind λf=>Zmx Zaw (c.1.1,c.1.2.1,f.1,c.1.2.2.2) b.1 b.2.1 else Zmx Zaw c.1 b.1 b.2.1
def Zi5(c:Zc)(e:Int)(f:List UInt8):Option (Int×Zc×Unit):=(Z9 c).bind λa=>(Xf c e).bind λb=>(Y4 c).bind λg=>bif((!g.1)||(!b.2.1))||(!b.1.2.2.2.2.2.2.1)then some (0,a.1,()) else (Zsi b.1.2.1 f).bind λd=>(Q0 a.1.2.2.2.1 (b.1.1,d.1,b.1.2.2)).bind λh=>some (d.2.1,(a.1.1,a.1.2.1,a.1.2.2.1,h.1,a.1.2.2.2.2),())
def Zse(b:Zp):Option (Zp×Bool×Unit):=(Zgo b).bind λa=>(Y5 b).bind λc=>bif((!c.1)||(decide (b.1>1)))||(b.2.2.2.2.2.1 !=(-1:Int))then some (a.1,false,()) else some ((a.1.1,a.1.2.1,a.1.2.2.1,a.1.2.2.2.1,a.1.2.2.2.2.1,b.2.1.2.2.1,1,a.1.2.2.2.2.2.2.2),true,())
def Zg2(c:Zc)(e:Int):Option (Zc×Bool×Unit):=(Z9 c).bind λa=>(Xf c e).bind λb=>(Y4 c).bind λf=>bif((!f.1)||(!b.2.1))||(!b.1.2.2.2.2.2.2.1)then some (a.1,false,()) else (Zse b.1.2.1).bind λd=>bif !d.2.1 then some (a.1,false,()) else (Q0 a.1.2.2.2.1 (b.1.1,d.1,b.1.2.2)).bind λg=>some ((a.1.1,a.1.2.1,a.1.2.2.1,g.1,a.1.2.2.2.2),true,())
def Zwm(e:Zv)(b:Int):Option (List UInt8×Zv×Unit):=
 (Zd8 e).bind λc=>
 (Zod e).bind λa=>
 bif(min c.1 (max b 0))==0 then
  some ([],a.1,())
 else
  Ze (0<=(0:Int)/\(0:Int)<a.1.2.1.length)<|
  let d:=IntKind.i64.wrap (a.1.1+(min c.1 (max b 0)))
  bif(min c.1 (max b 0))==((a.1.2.1.getD (0:Int).toNat Qx).2.1.length:Int)then
   Ze (0<=(1:Int)/\1<=(a.1.2.1.length:Int)/\(a.1.2.1.length:Int)<=a.1.2.1.length)<|
   (Zod (d,(a.1.2.1.drop (1:Int).toNat).take ((a.1.2.1.length:Int).toNat- (1:Int).toNat),a.1.2.2)).bind λf=>
   some ((a.1.2.1.getD (0:Int).toNat Qx).2.1,f.1,())
  else
   Ze (0<=(min c.1 (max b 0))/\(min c.1 (max b 0))<=((a.1.2.1.getD (0:Int).toNat Qx).2.1.length:Int)/\((a.1.2.1.getD (0:Int).toNat Qx).2.1.length:Int)<=(a.1.2.1.getD (0:Int).toNat Qx).2.1.length)<|
   Ze (0<=(0:Int)/\(0:Int)<a.1.2.1.length)<|
   Ze (0<=(0:Int)/\0<=(min c.1 (max b 0))/\(min c.1 (max b 0))<=(a.1.2.1.getD (0:Int).toNat Qx).2.1.length)<|
   some (((a.1.2.1.getD (0:Int).toNat Qx).2.1.drop (0:Int).toNat).take ((min c.1 (max b 0)).toNat- (0:Int).toNat),(d,a.1.2.1.set (0:Int).toNat (d,((a.1.2.1.getD (0:Int).toNat Qx).2.1.drop (min c.1 (max b 0)).toNat).take (((a.1.2.1.getD (0:Int).toNat Qx).2.1.length:Int).toNat- (min c.1 (max b 0)).toNat),()),a.1.2.2),())
def Zlr(c a:Zx)(b:List UInt8):Option ((List UInt8×Zx×Unit)×(Unit)):=some ((b,a,()),())
def Zql(a:Zx)(d:Int):Option ((List UInt8×Zx×Unit)×(Unit)):=(Zlx a).bind λb=>(Xq a).bind λe=>bif !e.1 then some (([],b.1,()),()) else bif a.1==4 then some (([],(5,b.1.2),()),()) else (Zwm a.2.1 d).bind λc=>bif(a.1==2)&&(c.2.1.1==a.2.2.1)then Zlr Zso (3,c.2.1,b.1.2.2) c.1 else Zlr Zso (b.1.1,c.2.1,b.1.2.2) c.1
def Zju(a:Qg)(b:Int):Option (Qg×Bool×Unit):=(V0 a).bind λc=>bif((!c.1)||(decide (b<0)))||(decide (b>(IntKind.i64.wrap (a.2.2.2.1-a.2.2.2.2.1))))then some (a,false,()) else some ((a.1,a.2.1,a.2.2.1,a.2.2.2.1,IntKind.i64.wrap (a.2.2.2.2.1+b),a.2.2.2.2.2),true,())
def Zlt(a:Zc)(b:Zg)(d:Int):Option ((Unit)×(Zc×Zg×Unit)):=
 let c:=max 0 (IntKind.i64.wrap (d-b.2.2.2.2.1.2.2.2.2.1))
 (Zju b.2.2.2.2.1 c).bind λe=>
 (Zju a.2.2.2.2.2.1 c).bind λf=>
 some ((),(a.1,a.2.1,a.2.2.1,a.2.2.2.1,a.2.2.2.2.1,f.1,a.2.2.2.2.2.2),(b.1,b.2.1,b.2.2.1,b.2.2.2.1,e.1,b.2.2.2.2.2),())
def Zty(a:Zg):Option (Bool×Unit):=some (((!a.2.2.2.2.2.2.1)||(a.2.1.1==3))||(a.2.1.1==5),())
def Zpc(a:Zx):Option (Bool×Unit):=(Xq a).bind λb=>some (b.1&&((a.1==3)||(a.1==5)),())
def Zpd(a:Zg):Option (Bool×Unit):=(bif(!a.2.2.2.2.2.2.2.1)then some (false,())else(Zpc a.2.2.2.1)).bind λb=>some ((!a.2.2.2.2.2.2.2.1)||b.1,())
def Zrk(a:Zg):Option (Bool×Unit):=(Zbl a).bind λb=>(bif b.1 then(Zty a)else some (false,())).bind λc=>(bif(b.1&&c.1)then(Zpd a)else some (false,())).bind λd=>some ((b.1&&c.1)&&d.1,())
def Zfx(a:Qt):Option (Qt×Bool×Unit):=(Zas a).bind λb=>bif(!b.1)||(a.2.2.2.1==a.2.2.1)then some (a,false,()) else some ((a.1,a.2.1,a.2.2.1,IntKind.i64.wrap (a.2.2.2.1+1),a.2.2.2.2),true,())
def Zot(b:Zc)(a:Zg):Option ((Unit)×(Zc×Zg×Unit)):=(bif a.2.2.2.2.2.2.2.2.2.2.2.2.2.1 then some (false,())else(Zhc b.1 a.1)).bind λc=>(bif(a.2.2.2.2.2.2.2.2.2.2.2.2.2.1||c.1)then some (false,())else(Zrk a)).bind λd=>bif(a.2.2.2.2.2.2.2.2.2.2.2.2.2.1||c.1)||(!d.1)then some ((),b,a,()) else (Zau a.1).bind λe=>bif e.1 then (Zfx b.2.2.2.2.2.2.2.2.2.1).bind λf=>some ((),(b.1,b.2.1,b.2.2.1,b.2.2.2.1,b.2.2.2.2.1,b.2.2.2.2.2.1,b.2.2.2.2.2.2.1,b.2.2.2.2.2.2.2.1,b.2.2.2.2.2.2.2.2.1,f.1,b.2.2.2.2.2.2.2.2.2.2),(a.1,a.2.1,a.2.2.1,a.2.2.2.1,a.2.2.2.2.1,a.2.2.2.2.2.1,a.2.2.2.2.2.2.1,a.2.2.2.2.2.2.2.1,a.2.2.2.2.2.2.2.2.1,a.2.2.2.2.2.2.2.2.2.1,a.2.2.2.2.2.2.2.2.2.2.1,a.2.2.2.2.2.2.2.2.2.2.2.1,a.2.2.2.2.2.2.2.2.2.2.2.2.1,true,a.2.2.2.2.2.2.2.2.2.2.2.2.2.2),()) else (Zfx b.2.2.2.2.2.2.2.2.1).bind λg=>some ((),(b.1,b.2.1,b.2.2.1,b.2.2.2.1,b.2.2.2.2.1,b.2.2.2.2.2.1,b.2.2.2.2.2.2.1,b.2.2.2.2.2.2.2.1,g.1,b.2.2.2.2.2.2.2.2.2),(a.1,a.2.1,a.2.2.1,a.2.2.2.1,a.2.2.2.2.1,a.2.2.2.2.2.1,a.2.2.2.2.2.2.1,a.2.2.2.2.2.2.2.1,a.2.2.2.2.2.2.2.2.1,a.2.2.2.2.2.2.2.2.2.1,a.2.2.2.2.2.2.2.2.2.2.1,a.2.2.2.2.2.2.2.2.2.2.2.1,a.2.2.2.2.2.2.2.2.2.2.2.2.1,true,a.2.2.2.2.2.2.2.2.2.2.2.2.2.2),())
def Wk(b:Zc)(c:Zg):Option ((Unit)×(Zc×Unit)):=(Zot b c).bind λa=>(Q0 a.2.1.2.2.2.1 a.2.2.1).bind λd=>some ((),(a.2.1.1,a.2.1.2.1,a.2.1.2.2.1,d.1,a.2.1.2.2.2.2),())
def Zca(f b:Zc)(c:Zg)(d:List UInt8)(a:Zx):Option ((List UInt8×Bool×Zc×Unit)×(Unit)):=(Wk b c).bind λe=>some ((d,(a.1==3)||(a.1==5),e.2.1,()),())
def Zk0(c:Zc)(f g:Int):Option ((List UInt8×Bool×Zc×Unit)×(Unit)):=(Z9 c).bind λd=>(Xf c f).bind λa=>(Y4 c).bind λh=>bif((!h.1)||(!a.2.1))||(!a.1.2.2.2.2.2.2.2.1)then some (([],false,d.1,()),()) else (Zql a.1.2.2.2.1 g).bind λb=>bif decide (b.1.2.1.1<4)then (Zlt d.1 (a.1.1,a.1.2.1,a.1.2.2.1,b.1.2.1,a.1.2.2.2.2) b.1.2.1.2.1.1).bind λe=>Zca Yi e.2.1 e.2.2.1 b.1.1 b.1.2.1 else Zca Yi d.1 (a.1.1,a.1.2.1,a.1.2.2.1,b.1.2.1,a.1.2.2.2.2) b.1.1 b.1.2.1
def Zmw(b:Int)(a d:Zp)(c:Xu):Option (Zp×Bool×Unit):=some ((4,c,[],[],[],a.2.2.2.2.2.2.2.1,0,a.2.2.2.2.2.2.2.1,b,()),true,())
def V6(a:Zp)(b:Int):Option (Zp×Bool×Unit):=
 (Y5 a).bind λd=>
 let c:=(!d.1)||(decide (a.1>2))
 (bif c then some (false,())else(Qz b)).bind λe=>
 bif c||(!e.1)then
  (Zgo a).bind λf=>
  some (f.1,false,())
 else
  Zfs (
   Ze (0<=a.2.1.1/\a.2.1.1<=a.2.1.1/\a.2.1.1<=Qd)<|
   Zid 1 (
    Zmw b a Zaw (a.2.1.1,a.2.2.2.2.2.2.2.1,a.2.2.2.2.2.2.2.1,List.replicate a.2.1.1.toNat 0,())
   )
  ) (
   Ze (0<=a.2.1.1/\a.2.1.1<=a.2.1.1/\a.2.1.1<=Qd)<|
   Zmw b a Zaw (a.2.1.1,a.2.2.2.2.2.2.2.1,a.2.2.2.2.2.2.2.1,List.replicate a.2.1.1.toNat 0,())
  )
def Zi3(b:Zc)(e f:Int):Option ((Zc×Bool×Unit)×(Unit)):=(Z9 b).bind λc=>(Xf b e).bind λa=>(Y4 b).bind λg=>bif((!g.1)||(!a.2.1))||(!a.1.2.2.2.2.2.2.1)then some ((c.1,false,()),()) else (V6 a.1.2.1 f).bind λd=>bif !d.2.1 then some ((c.1,false,()),()) else Option.bind (Wk c.1 (a.1.1,d.1,a.1.2.2.1,a.1.2.2.2.1,a.1.2.2.2.2.1,a.1.2.2.2.2.2.1,a.1.2.2.2.2.2.2.1,a.1.2.2.2.2.2.2.2.1,true,a.1.2.2.2.2.2.2.2.2.2)) λh=>some ((h.2.1,true,()),())
def Zjv(K1:(List UInt8×Int×List (List UInt8)×List UInt8×Int×Unit)->Option (List (List UInt8)×Unit))(a:List UInt8)(b:Int)(c:List (List UInt8))(d:List UInt8)(e:Int):Option (List (List UInt8)×Unit):=K1 (a,b,c,d,IntKind.i64.wrap (e+1),())
def Zmy(a:List UInt8)(c:Int)(d:List (List UInt8))(e:List UInt8)(b:Int):Nat:=((a.length:Int)-b).toNat+1
def Zdl:Nat->List UInt8->Int->List (List UInt8)->List UInt8->Int->Option (List (List UInt8)×Unit)
 |0,_,_,_,_,_=>none
 |N+1,b,e,d,c,a=>
  bif decide (a<(b.length:Int))then
   Ze (0<=a/\a<b.length)<|
   bif((b.getD a.toNat 0).toNat:Int)==e then
    Ze (d.length+([c]).length<=Qd)<|
    Zjv (λv=>Zdl N v.1 v.2.1 v.2.2.1 v.2.2.2.1 v.2.2.2.2.1) b e (d++([c])) ([]:List UInt8) a
   else
    Ze (0<=a/\a<=(IntKind.i64.wrap (a+1))/\(IntKind.i64.wrap (a+1))<=b.length)<|
    let f:List UInt8:=(b.drop a.toNat).take ((IntKind.i64.wrap (a+1)).toNat-a.toNat)
    Ze (c.length+f.length<=Yh)<|
    Zjv (λv=>Zdl N v.1 v.2.1 v.2.2.1 v.2.2.2.1 v.2.2.2.2.1) b e d (c++f) a
  else
   Ze (d.length+([c]).length<=Qd)<|
   some (d++([c]),())
def Zu2(a:List UInt8)(b:Int):Option (List (List UInt8)×Unit):=Zdl (Zmy a b ([]:List (List UInt8)) ([]:List UInt8) (0:Int)) a b ([]:List (List UInt8)) ([]:List UInt8) (0:Int)
def Zrn(a:List UInt8):Nat:=((a.length:Int)- (0:Int)).toNat+1
def Zph:Nat->List UInt8->Option (List UInt8×Unit)
 |0,_=>none
 |N+1,a=>
  let b:Int:=IntKind.i64.wrap ((a.length:Int)- (1:Int))
  Ze (((decide ((a.length:Int)>(0:Int)))=true->(0<=b/\b<a.length)))<|
  bif(decide ((a.length:Int)>(0:Int)))&&(((a.getD b.toNat 0).toNat:Int)==(32:Int))then
   let c:Int:=IntKind.i64.wrap ((a.length:Int)- (1:Int))
   Ze (0<=(0:Int)/\(0:Int)<=c/\c<=a.length)<|
   Zph N ((a.drop (0:Int).toNat).take (c.toNat- (0:Int).toNat))
  else
   some (a,())
def Zrm(a:List UInt8):Nat:=((a.length:Int)- (0:Int)).toNat+1
def Zpg:Nat->List UInt8->Option (List UInt8×Unit)|0,_=>none|N+1,a=>Ze (((decide ((a.length:Int)>(0:Int)))=true->(0<=(0:Int)/\(0:Int)<a.length)))<|bif(decide ((a.length:Int)>(0:Int)))&&(((a.getD (0:Int).toNat 0).toNat:Int)==(32:Int))then Ze (0<=(1:Int)/\(1:Int)<=(a.length:Int)/\(a.length:Int)<=a.length)<|Zpg N ((a.drop (1:Int).toNat).take ((a.length:Int).toNat- (1:Int).toNat)) else Zph (Zrn a) a
def Z0e(a:List UInt8):Option (List UInt8×Unit):=Zpg (Zrm a) a
def Wg(K1:(X8×X8×List (List UInt8)×Int×Unit)->Option (X8×Unit))(a b:X8)(c:List (List UInt8))(d:Int):Option (X8×Unit):=K1 (a,b,c,IntKind.i64.wrap (d+1),())
def Zjt(c d:X8)(a:List (List UInt8))(b:Int):Nat:=((a.length:Int)-b).toNat+1
def Kl:Nat->X8->X8->List (List UInt8)->Int->Option (X8×Unit)
 |0,_,_,_,_=>none
 |N+1,c,e,d,b=>
  bif decide (b<(d.length:Int))then
   Ze (0<=b/\b<d.length)<|
   (Z0e (d.getD b.toNat ([]:List UInt8))).bind λa=>
   bif(a.1==([105]:List UInt8))||(a.1==([105,61,63,49]:List UInt8))then
    Wg (λv=>Kl N v.1 v.2.1 v.2.2.1 v.2.2.2.1) (c.1,true,c.2.2) e d b
   else
    bif a.1==([105,61,63,48]:List UInt8)then
     Wg (λv=>Kl N v.1 v.2.1 v.2.2.1 v.2.2.2.1) (c.1,false,c.2.2) e d b
    else
     Ze ((((a.1.length:Int)==(3:Int))=true->(0<=(0:Int)/\(0:Int)<=(2:Int)/\(2:Int)<=a.1.length)))<|
     let f:Bool:=((a.1.length:Int)==(3:Int))&&(((a.1.drop (0:Int).toNat).take ((2:Int).toNat- (0:Int).toNat))==([117,61]:List UInt8))
     Ze ((f=true->(0<=(2:Int)/\(2:Int)<a.1.length)))<|
     let g:Bool:=f&&(decide (((a.1.getD (2:Int).toNat 0).toNat:Int)>=(48:Int)))
     Ze ((g=true->(0<=(2:Int)/\(2:Int)<a.1.length)))<|
     bif g&&(decide (((a.1.getD (2:Int).toNat 0).toNat:Int)<=(55:Int)))then
      Ze (0<=(2:Int)/\(2:Int)<a.1.length)<|
      Wg (λv=>Kl N v.1 v.2.1 v.2.2.1 v.2.2.2.1) (IntKind.i64.wrap (IntKind.u8.wrap (((a.1.getD (2:Int).toNat 0).toNat:Int)- (48:Int))),c.2) e d b
     else
      Wg (λv=>Kl N v.1 v.2.1 v.2.2.1 v.2.2.2.1) c e d b
  else
   some (c,())
def Zez(d:List UInt8)(a b:X8):Option (X8×Unit):=(Zu2 d 44).bind λc=>Kl (Zjt a b c.1 (0:Int)) a b c.1 (0:Int)
def Zos(a:X8)(b:List UInt8):Option (X8×Unit):=(Zbs a).bind λc=>bif !c.1 then Option.bind W7 λd=>Zez b d.1 (0,false,()) else Zez b a (0,false,())
def Zi4(c:Zc)(d:Int)(e:List UInt8):Option (Zc×Bool×Unit):=(Z9 c).bind λb=>(Xf c d).bind λa=>(Y4 c).bind λf=>bif((!f.1)||(!a.2.1))||(!a.1.2.2.2.2.2.2.1)then some (b.1,false,()) else (Zos a.1.2.2.2.2.2.1 e).bind λg=>Option.bind (Q0 b.1.2.2.2.1 (a.1.1,a.1.2.1,a.1.2.2.1,a.1.2.2.2.1,a.1.2.2.2.2.1,g.1,a.1.2.2.2.2.2.2)) λh=>some ((b.1.1,b.1.2.1,b.1.2.2.1,h.1,b.1.2.2.2.2),true,())
def Zad(a:Qg):Option (Bool×Unit):=
 (V0 a).bind λc=>
 let b:=c.1&&(decide (a.2.2.1<4611686018427387903))
 Ze ((b=true->((2:Int)≠0)))<|
 some (b&&(decide ((IntKind.i64.wrap ((IntKind.i64.wrap (a.2.2.2.2.1+a.1))-a.2.2.1))>=(IntKind.i64.wrap (Int.tdiv (IntKind.i64.wrap (a.1+1)) (2:Int))))),())
def Zhz(b:Int)(a c:Qg):Option (Qg×Bool×Unit):=some ((a.1,a.2.1,min (IntKind.i64.wrap (a.2.2.2.2.1+a.1)) 4611686018427387903,a.2.2.2.1,a.2.2.2.2.1,b,a.2.2.2.2.2.2),true,())
def V5(a:Qg)(b d:Int):Option (Qg×Bool×Unit):=(Zad a).bind λc=>(bif(!c.1)then some (false,())else(Z8 b a.2.2.2.2.2.1 1000000)).bind λe=>(bif((!c.1)||(!e.1))then some (false,())else(Z8 d 1 1000)).bind λf=>bif((!c.1)||(!e.1))||(!f.1)then some (a,false,()) else bif decide ((IntKind.i64.wrap (b-a.2.2.2.2.2.1))<(IntKind.i64.wrap (2*d)))then Zhz b (min (IntKind.i64.wrap (2*a.1)) a.2.1,a.2) Qac else Zhz b a Qac
def Zio(a:Zc):Option (Qg×Bool×Unit):=(Zad a.2.2.2.2.2.1).bind λc=>bif c.1 then (V5 a.2.2.2.2.2.1 a.2.2.2.2.2.2.2.2.2.2.2.2.2.2.2.2.1 a.2.1.2.2.2.2.2.2.2.1).bind λb=>some (b.1,b.2.1,()) else some (a.2.2.2.2.2.1,a.2.2.2.2.2.2.2.2.2.2.1,())
def Zbm(a:Qt):Option (Bool×Unit):=(Zas a).bind λb=>Ze ((b.1=true->((2:Int)≠0)))<|some ((b.1&&(decide ((IntKind.i64.wrap ((IntKind.i64.wrap (a.2.2.2.1+a.1))-a.2.1))>=(IntKind.i64.wrap (Int.tdiv (IntKind.i64.wrap (a.1+1)) (2:Int))))))&&(decide (a.1>0)),())
def Zbt(a:Qt):Option (Qt×Bool×Unit):=(Zbm a).bind λb=>bif(!b.1)||(decide ((IntKind.i64.wrap (a.2.2.2.1+a.1))>1152921504606846976))then some (a,false,()) else some ((a.1,IntKind.i64.wrap (a.2.2.2.1+a.1),a.2.2),true,())
def Zbn(a:Qt)(c:Bool):Option (Qt×Bool×Unit):=(Zbm a).bind λd=>bif d.1 then (Zbt a).bind λb=>some (b.1,b.2.1,()) else some (a,c,())
def Zgn(b:Zc)(a:Zg):Option (Qg×Bool×Unit):=bif((!a.2.2.2.2.2.2.2.1)||(a.2.2.2.1.1 !=0))||a.2.2.2.2.2.2.2.2.2.2.2.1 then some (a.2.2.2.2.1,false,()) else (Zad a.2.2.2.2.1).bind λd=>bif d.1 then (V5 a.2.2.2.2.1 b.2.2.2.2.2.2.2.2.2.2.2.2.2.2.2.2.1 b.2.1.2.2.2.2.2.2.2.1).bind λc=>some (c.1,c.2.1,()) else some (a.2.2.2.2.1,a.2.2.2.2.2.2.2.2.2.2.1,())
def Zik(a:Qt):Option (Bool×Unit):=(Kp a).bind λb=>some (b.1&&(a.2.2.1==a.1),())
def Zbc(a:Zg)(b:List Zf):Option (List Zf×Unit):=
 (Zik a.2.2.1).bind λd=>
 bif(d.1&&a.2.2.2.2.2.2.1)&&(decide ((a.2.1.2.2.1.length:Int)>(0:Int)))then
  let c:List Zf:=[(21,a.1,0,[],false,0,a.2.2.1.1,0,false,())]
  Ze (b.length+c.length<=Qd)<|
  some (b++c,())
 else
  some (b,())
def Wm(e:Zc)(a:Zg)(b:List Zf):Option (List Zf×Unit):=
 (Zgn e a).bind λc=>
 bif c.2.1 then
  let d:List Zf:=[(17,a.1,0,[],false,0,c.1.2.2.1,0,false,())]
  Ze (b.length+d.length<=Qd)<|
  Zbc a (b++d)
 else
  Zbc a b
def Wl(c:Zc)(a:Zg)(b:List Zf):Option (List Zf×Unit):=
 bif a.2.2.2.2.2.2.2.2.2.1&&(decide (a.2.2.2.1.1<2))then
  let d:List Zf:=[(5,a.1,0,[],false,a.2.2.2.2.2.2.2.2.2.2.2.2.1,0,0,false,())]
  Ze (b.length+d.length<=Qd)<|
  Wm c a (b++d)
 else
  Wm c a b
def Zgm(b:Zc)(a:Zg):Option (List Zf×Unit):=
 bif a.2.2.2.2.2.2.2.2.1 then
  let c:List Zf:=[(4,a.1,0,[],false,a.2.1.2.2.2.2.2.2.2.2.1,0,a.2.1.2.2.2.2.2.2.2.1,false,())]
  Ze (([]:List Zf).length+c.length<=Qd)<|
  Wl b a ([]++c)
 else
  Wl b a []
def Jl(a:Zc)(b:List Zf):Option (List Zf×Unit):=
 bif a.2.2.2.2.2.2.2.1.2.2.1==a.2.2.2.2.2.2.2.1.1 then
  let c:List Zf:=[(22,0,0,[],false,0,a.2.2.2.2.2.2.2.1.1,0,true,())]
  Ze (b.length+c.length<=Qd)<|
  some (b++c,())
 else
  some (b,())
def Jk(a:Zc)(b:List Zf):Option (List Zf×Unit):=
 bif a.2.2.2.2.2.2.1.2.2.1==a.2.2.2.2.2.2.1.1 then
  let c:List Zf:=[(22,0,0,[],false,0,a.2.2.2.2.2.2.1.1,0,false,())]
  Ze (b.length+c.length<=Qd)<|
  Jl a (b++c)
 else
  Jl a b
def W6(a:Zc)(c:List Zf)(b:Int):Nat:=((a.2.2.2.1.length:Int)-b).toNat+1
def Kj:Nat->Zc->List Zf->Int->Option (List Zf×Unit)
 |0,_,_,_=>none
 |N+1,a,b,c=>
  bif decide (c<(a.2.2.2.1.length:Int))then
   Ze (0<=c/\c<a.2.2.2.1.length)<|
   (Zgm a (a.2.2.2.1.getD c.toNat Zj)).bind λd=>
   Ze (b.length+d.1.length<=Qd)<|
   Kj N a (b++d.1) (IntKind.i64.wrap (c+1))
  else
   (Zik a.2.2.2.2.1).bind λf=>
   bif f.1 then
    let e:List Zf:=[((20:Int),(0:Int),(0:Int),([]:List UInt8),false,(0:Int),a.2.2.2.2.1.1,(0:Int),false,())]
    Ze (b.length+e.length<=Qd)<|
    Jk a (b++e)
   else
    Jk a b
def Ki(a:Zc)(b:List Zf):Option (List Zf×Unit):=Kj (W6 a b (0:Int)) a b (0:Int)
def Kh(a:Zc)(b:List Zf):Option (List Zf×Unit):=
 (Zbn a.2.2.2.2.2.2.2.2.2.1 a.2.2.2.2.2.2.2.2.2.2.2.2.1).bind λc=>
 bif c.2.1 then
  let d:List Zf:=[(18,0,0,[],false,0,c.1.2.1,0,true,())]
  Ze (b.length+d.length<=Qd)<|
  Ki a (b++d)
 else
  Ki a b
def Kg(a:Zc)(b:List Zf):Option (List Zf×Unit):=
 (Zbn a.2.2.2.2.2.2.2.2.1 a.2.2.2.2.2.2.2.2.2.2.2.1).bind λc=>
 bif c.2.1 then
  let d:List Zf:=[(18,0,0,[],false,0,c.1.2.1,0,false,())]
  Ze (b.length+d.length<=Qd)<|
  Kh a (b++d)
 else
  Kh a b
def W5(a:Zc):Option (List Zf×Unit):=
 (Y4 a).bind λd=>
 bif !d.1 then
  some ([],())
 else
  (Zio a).bind λb=>
  bif b.2.1 then
   let c:List Zf:=[(16,0,0,[],false,0,b.1.2.2.1,0,false,())]
   Ze (([]:List Zf).length+c.length<=Qd)<|
   Kg a ([]++c)
  else
   Kg a []
def Zim(a:Int):Option (Int×Unit):=bif(decide (a<0))||(decide (a>4611686018427387903))then some (0,()) else bif decide (a<64)then some (1,()) else bif decide (a<16384)then some (2,()) else bif decide (a<1073741824)then some (4,()) else some (8,())
def Zte(c a:Int)(d:List UInt8)(b:Int):Nat:=(a-b).toNat+1
def Yd:Nat->Int->Int->List UInt8->Int->Option (List UInt8×Unit)
 |0,_,_,_,_=>none
 |N+1,a,c,b,d=>
  bif decide (d<c)then
   Ze ((256:Int)≠0)<|
   let e:List UInt8:=Qj ([(IntKind.u8.wrap (Int.tmod a (256:Int)))])
   Ze (e.length+b.length<=Yh)<|
   Ze ((256:Int)≠0)<|
   Yd N (IntKind.i64.wrap (Int.tdiv a (256:Int))) c (e++b) (IntKind.i64.wrap (d+1))
  else
   bif decide (a>(0:Int))then
    some (([]:List UInt8),())
   else
    some (b,())
def Znv(a b:Int):Option (List UInt8×Unit):=(Z8 b 1 7).bind λc=>bif(!c.1)||(decide (a<0))then some ([],()) else Yd (Zte a b ([]:List UInt8) (0:Int)) a b ([]:List UInt8) (0:Int)
def Zd9(a:Int):Option (List UInt8×Unit):=(Znv (bits .and .i64 a 255) 1).bind λb=>some (b.1,())
def Je(K1:(Int×Int×List UInt8×Int×Unit)->Option (List UInt8×Unit))(c d:Int)(a:List UInt8)(e f:Int):Option (List UInt8×Unit):=(Zd9 f).bind λb=>Ze (a.length+b.1.length<=Yh)<|K1 (c,d,a++b.1,IntKind.i64.wrap (e-1),())
def Zg1(b c:Int)(d:List UInt8)(a:Int):Nat:=(a-0).toNat+2
def Xk:Nat->Int->Int->List UInt8->Int->Option (List UInt8×Unit)
 |0,_,_,_,_=>none
 |N+1,c,a,d,b=>
  bif decide (b>=(0:Int))then
   Ze (0<=(IntKind.i64.wrap ((8:Int)*b)))<|
   let e:Int:=bits .and .i64 (c.fdiv (2^ (min (IntKind.i64.wrap ((8:Int)*b)).toNat IntKind.i64.bits))) (255:Int)
   bif b==(IntKind.i64.wrap (a-1))then
    bif a==2 then
     Je (λv=>Xk N v.1 v.2.1 v.2.2.1 v.2.2.2.1) c a d b (bits .or .i64 e (64:Int))
    else
     bif a==4 then
      Je (λv=>Xk N v.1 v.2.1 v.2.2.1 v.2.2.2.1) c a d b (bits .or .i64 e (128:Int))
     else
      bif a==8 then
       Je (λv=>Xk N v.1 v.2.1 v.2.2.1 v.2.2.2.1) c a d b (bits .or .i64 e (192:Int))
      else
       Je (λv=>Xk N v.1 v.2.1 v.2.2.1 v.2.2.2.1) c a d b e
   else
    Je (λv=>Xk N v.1 v.2.1 v.2.2.1 v.2.2.2.1) c a d b e
  else
   some (d,())
def Zkt(b:Int):Option (List UInt8×Unit):=(Zim b).bind λa=>Xk (Zg1 b a.1 ([]:List UInt8) (IntKind.i64.wrap (a.1-1))) b a.1 ([]:List UInt8) (IntKind.i64.wrap (a.1-1))
def Zfy(a:List Int)(c:List UInt8)(b:Int):Nat:=((a.length:Int)-b).toNat+1
def Za5:Nat->List Int->List UInt8->Int->Option (List UInt8×Unit)|0,_,_,_=>none|N+1,b,c,a=>bif decide (a<(b.length:Int))then Ze (0<=a/\a<b.length)<|(Zim (b.getD a.toNat (0:Int))).bind λe=>bif e.1==0 then some (([]:List UInt8),()) else Ze (0<=a/\a<b.length)<|(Zkt (b.getD a.toNat (0:Int))).bind λd=>Ze (c.length+d.1.length<=Yh)<|Za5 N b (c++d.1) (IntKind.i64.wrap (a+1)) else some (c,())
def Yc(a:List Int):Option (List UInt8×Unit):=Za5 (Zfy a ([]:List UInt8) (0:Int)) a ([]:List UInt8) (0:Int)
def Zdw(a:Zf)(b:Int):Option (List UInt8×Unit):=bif a.2.2.1==0 then (Yc ([b,a.2.1,(a.2.2.2.1.length:Int)])).bind λc=>Ze (c.1.length+a.2.2.2.1.length<=Yh)<|some (c.1++a.2.2.2.1,()) else (Yc ([(IntKind.i64.wrap (b+4)),a.2.1,a.2.2.1,(a.2.2.2.1.length:Int)])).bind λd=>Ze (d.1.length+a.2.2.2.1.length<=Yh)<|some (d.1++a.2.2.2.1,())
def Zdx(a:Zf)(b:Int):Option (List UInt8×Unit):=(Yc ([b,a.2.2.2.2.2.2.1])).bind λc=>some (c.1,())
def V8(a:Zf)(b:Bool):Option (List UInt8×Unit):=bif b then (Yc ([a.1,a.2.1,a.2.2.2.2.2.2.1])).bind λc=>some (c.1,()) else bif a.2.2.2.2.2.2.2.2.1 then Zdx a (IntKind.i64.wrap (a.1+1)) else Zdx a a.1
def Ko(a:Zf)(b:Int)(c:Bool):Option (List UInt8×Unit):=bif c then (Yc ([a.1,a.2.2.2.2.2.2.1])).bind λd=>some (d.1,()) else bif b==17 then V8 a (b==17) else V8 a (b==21)
def Zfe(a:Zf):Option (List UInt8×Unit):=(Zat a).bind λb=>bif !b.1 then some ([],()) else bif a.1==4 then (Yc ([4,a.2.1,a.2.2.2.2.2.1,a.2.2.2.2.2.2.2.1])).bind λc=>some (c.1,()) else bif a.1==5 then (Yc ([5,a.2.1,a.2.2.2.2.2.1])).bind λd=>some (d.1,()) else bif a.1==8 then bif a.2.2.2.2.1 then Zdw a (IntKind.i64.wrap (10+1)) else Zdw a 10 else bif a.1==16 then Ko a a.1 (a.1==16) else Ko a a.1 (a.1==20)
def Zdf(a:Zf):Option (Int×Unit):=(Zfe a).bind λb=>some ((b.1.length:Int),())
def Za7(a:Qt):Option (Qt×Unit):=(Kp a).bind λb=>bif b.1&&(a.2.2.1 !=(-1:Int))then some ((a.1,a.2.1,(-1:Int),a.2.2.1,a.2.2.2.2),()) else some (a,())
def Zlu(d:Zc)(a:Zg)(b:Int):Option ((Zg×Unit)×(Unit)):=bif b==4 then some (((a.1,a.2.1,a.2.2.1,a.2.2.2.1,a.2.2.2.2.1,a.2.2.2.2.2.1,a.2.2.2.2.2.2.1,a.2.2.2.2.2.2.2.1,false,a.2.2.2.2.2.2.2.2.2),()),()) else bif b==5 then some (((a.1,a.2.1,a.2.2.1,a.2.2.2.1,a.2.2.2.2.1,a.2.2.2.2.2.1,a.2.2.2.2.2.2.1,a.2.2.2.2.2.2.2.1,a.2.2.2.2.2.2.2.2.1,false,a.2.2.2.2.2.2.2.2.2.2),()),()) else bif b==17 then (Zgn d a).bind λc=>bif c.2.1 then some (((a.1,a.2.1,a.2.2.1,a.2.2.2.1,c.1,a.2.2.2.2.2.1,a.2.2.2.2.2.2.1,a.2.2.2.2.2.2.2.1,a.2.2.2.2.2.2.2.2.1,a.2.2.2.2.2.2.2.2.2.1,false,a.2.2.2.2.2.2.2.2.2.2.2),()),()) else some (((a.1,a.2.1,a.2.2.1,a.2.2.2.1,a.2.2.2.2.1,a.2.2.2.2.2.1,a.2.2.2.2.2.2.1,a.2.2.2.2.2.2.2.1,a.2.2.2.2.2.2.2.2.1,a.2.2.2.2.2.2.2.2.2.1,false,a.2.2.2.2.2.2.2.2.2.2.2),()),()) else bif b==21 then (Za7 a.2.2.1).bind λe=>some (((a.1,a.2.1,e.1,a.2.2.2),()),()) else some ((a,()),())
def Zcs(b:Zc)(c:Zf):Option (Zc×Unit):=(Z9 b).bind λa=>(X9 b).bind λe=>bif !e.1 then some (a.1,()) else bif c.1==16 then (Zio b).bind λf=>some ((a.1.1,a.1.2.1,a.1.2.2.1,a.1.2.2.2.1,a.1.2.2.2.2.1,f.1,a.1.2.2.2.2.2.2.1,a.1.2.2.2.2.2.2.2.1,a.1.2.2.2.2.2.2.2.2.1,a.1.2.2.2.2.2.2.2.2.2.1,false,a.1.2.2.2.2.2.2.2.2.2.2.2),()) else bif c.1==18 then bif c.2.2.2.2.2.2.2.2.1 then (Zbn b.2.2.2.2.2.2.2.2.2.1 false).bind λg=>some ((a.1.1,a.1.2.1,a.1.2.2.1,a.1.2.2.2.1,a.1.2.2.2.2.1,a.1.2.2.2.2.2.1,a.1.2.2.2.2.2.2.1,a.1.2.2.2.2.2.2.2.1,a.1.2.2.2.2.2.2.2.2.1,g.1,a.1.2.2.2.2.2.2.2.2.2.2.1,a.1.2.2.2.2.2.2.2.2.2.2.2.1,false,a.1.2.2.2.2.2.2.2.2.2.2.2.2.2),()) else (Zbn b.2.2.2.2.2.2.2.2.1 false).bind λh=>some ((a.1.1,a.1.2.1,a.1.2.2.1,a.1.2.2.2.1,a.1.2.2.2.2.1,a.1.2.2.2.2.2.1,a.1.2.2.2.2.2.2.1,a.1.2.2.2.2.2.2.2.1,h.1,a.1.2.2.2.2.2.2.2.2.2.1,a.1.2.2.2.2.2.2.2.2.2.2.1,false,a.1.2.2.2.2.2.2.2.2.2.2.2.2),()) else bif c.1==20 then (Za7 b.2.2.2.2.1).bind λi=>some ((a.1.1,a.1.2.1,a.1.2.2.1,a.1.2.2.2.1,i.1,a.1.2.2.2.2.2),()) else bif c.1==22 then bif c.2.2.2.2.2.2.2.2.1 then some ((a.1.1,a.1.2.1,a.1.2.2.1,a.1.2.2.2.1,a.1.2.2.2.2.1,a.1.2.2.2.2.2.1,a.1.2.2.2.2.2.2.1,(a.1.2.2.2.2.2.2.2.1.1,a.1.2.2.2.2.2.2.2.1.2.1,(-1:Int),a.1.2.2.2.2.2.2.2.1.2.2.2),a.1.2.2.2.2.2.2.2.2),()) else some ((a.1.1,a.1.2.1,a.1.2.2.1,a.1.2.2.2.1,a.1.2.2.2.2.1,a.1.2.2.2.2.2.1,(a.1.2.2.2.2.2.2.1.1,a.1.2.2.2.2.2.2.1.2.1,(-1:Int),a.1.2.2.2.2.2.2.1.2.2.2),a.1.2.2.2.2.2.2.2),()) else (Xf b c.2.1).bind λd=>bif d.2.1 then (Zlu b d.1 c.1).bind λj=>(Q0 a.1.2.2.2.1 j.1.1).bind λk=>some ((a.1.1,a.1.2.1,a.1.2.2.1,k.1,a.1.2.2.2.2),()) else some (a.1,())
def Zfo(K1:(Zc×List Zk×Int×Unit)->Option (List Zk×Unit))(a:Zc)(b:List Zk)(c:Int):Option (List Zk×Unit):=K1 (a,b,IntKind.i64.wrap (c+1),())
def Zg5(a:Zc)(c:List Zk)(b:Int):Nat:=((a.2.2.2.1.length:Int)-b).toNat+1
def Vj:Nat->Zc->List Zk->Int->Option (List Zk×Unit)
 |0,_,_,_=>none
 |N+1,b,c,a=>
  bif decide (a<(b.2.2.2.1.length:Int))then
   Ze (0<=a/\a<b.2.2.2.1.length)<|
   bif((b.2.2.2.1.getD a.toNat Zj).2.2.2.2.2.2.1&&(decide ((b.2.2.2.1.getD a.toNat Zj).2.1.1<(3:Int))))&&((decide (((b.2.2.2.1.getD a.toNat Zj).2.1.2.2.1.length:Int)>(0:Int)))||((b.2.2.2.1.getD a.toNat Zj).2.1.2.2.2.2.2.2.1==1))then
    let d:List Zk:=[((b.2.2.2.1.getD a.toNat Zj).1,(b.2.2.2.1.getD a.toNat Zj).2.2.2.2.2.1,())]
    Ze (c.length+d.length<=Qd)<|
    Zfo (λv=>Vj N v.1 v.2.1 v.2.2.1) b (c++d) a
   else
    Zfo (λv=>Vj N v.1 v.2.1 v.2.2.1) b c a
  else
   some (c,())
def Zk1(a:Zc):Option (List Zk×Unit):=Vj (Zg5 a ([]:List Zk) (0:Int)) a ([]:List Zk) (0:Int)
def Zfp(K1:(List Zk×Int×List Zk×Int×Unit)->Option (List Zk×Unit))(a:List Zk)(b:Int)(c:List Zk)(d:Int):Option (List Zk×Unit):=K1 (a,b,c,IntKind.i64.wrap (d+1),())
def Zg6(a:List Zk)(c:Int)(d:List Zk)(b:Int):Nat:=((a.length:Int)-b).toNat+1
def Vk:Nat->List Zk->Int->List Zk->Int->Option (List Zk×Unit)|0,_,_,_,_=>none|N+1,b,d,c,a=>bif decide (a<(b.length:Int))then Ze (0<=a/\a<b.length)<|bif(b.getD a.toNat Qm).1 !=d then Ze (0<=a/\a<b.length)<|Ze (c.length+([(b.getD a.toNat Qm)]).length<=Qd)<|Zfp (λv=>Vk N v.1 v.2.1 v.2.2.1 v.2.2.2.1) b d (c++([(b.getD a.toNat Qm)])) a else Zfp (λv=>Vk N v.1 v.2.1 v.2.2.1 v.2.2.2.1) b d c a else some (c,())
def Zk2(a:List Zk)(b:Int):Option (List Zk×Unit):=Vk (Zg6 a b ([]:List Zk) (0:Int)) a b ([]:List Zk) (0:Int)
def Wy(a:List Zk)(b:Int):Nat:=((a.length:Int)-b).toNat+1
def Jj:Nat->List Zk->Int->Option (Bool×Unit)|0,_,_=>none|N+1,b,a=>bif decide (a<(b.length:Int))then Ze (0<=a/\a<b.length)<|(Qz (b.getD a.toNat Qm).1).bind λc=>Ze (((!c.1)=false->(0<=a/\a<b.length)))<|(bif(!c.1)then some (false,())else(Zbs (b.getD a.toNat Qm).2.1)).bind λd=>Ze ((((!c.1)||(!d.1))=false->((decide (a>(0:Int)))=true->(0<=a/\a<b.length))))<|Ze ((((!c.1)||(!d.1))=false->((decide (a>(0:Int)))=true->(0<=(IntKind.i64.wrap (a-1))/\(IntKind.i64.wrap (a-1))<b.length))))<|bif((!c.1)||(!d.1))||((decide (a>(0:Int)))&&(decide ((b.getD a.toNat Qm).1<=(b.getD (IntKind.i64.wrap (a-1)).toNat Qm).1)))then some (false,()) else Jj N b (IntKind.i64.wrap (a+1)) else some (true,())
def Zfd(a:List Zk):Option (Bool×Unit):=Jj (Wy a (0:Int)) a (0:Int)
def Zfj(K1:(List Zk×List Int×Int×Int×Unit)->Option (List Int×Unit))(a:List Zk)(b:List Int)(c d:Int):Option (List Int×Unit):=K1 (a,b,c,IntKind.i64.wrap (d+1),())
def Zfk(K1:(List Zk×List Int×Int×Int×Unit)->Option (List Int×Unit))(b:List Zk)(c:List Int)(d a:Int):Option (List Int×Unit):=Ze (0<=a/\a<b.length)<|bif(b.getD a.toNat Qm).2.1.1==d then Ze (0<=a/\a<b.length)<|Ze (c.length+([(b.getD a.toNat Qm).1]).length<=Qd)<|Zfj K1 b (c++([(b.getD a.toNat Qm).1])) d a else Zfj K1 b c d a
def Wq(a:List Zk)(c:List Int)(d b:Int):Nat:=((a.length:Int)-b).toNat+1
def Yv:Nat->List Zk->List Int->Int->Int->Option (List Int×Unit)|0,_,_,_,_=>none|N+1,b,c,d,a=>(bif(decide (a<(b.length:Int)))then(Zfd b)else some (false,())).bind λe=>bif(decide (a<(b.length:Int)))&&e.1 then Ze (0<=a/\a<b.length)<|bif decide ((b.getD a.toNat Qm).2.1.1<d)then Ze (0<=a/\a<b.length)<|Zfk (λv=>Yv N v.1 v.2.1 v.2.2.1 v.2.2.2.1) b ([]:List Int) (b.getD a.toNat Qm).2.1.1 a else Zfk (λv=>Yv N v.1 v.2.1 v.2.2.1 v.2.2.2.1) b c d a else some (c,())
def Zkx(a:List Zk):Option (List Int×Unit):=Yv (Wq a ([]:List Int) (8:Int) (0:Int)) a ([]:List Int) (8:Int) (0:Int)
def Ze1(a:List Int)(c b:Int):Nat:=((a.length:Int)-b).toNat+1
def Zcx:Nat->List Int->Int->Int->Option (Int×Unit)|0,_,_,_=>none|N+1,a,c,b=>bif decide (b<(a.length:Int))then Ze (0<=b/\b<a.length)<|bif decide ((a.getD b.toNat (0:Int))>c)then Ze (0<=b/\b<a.length)<|some (a.getD b.toNat (0:Int),()) else Zcx N a c (IntKind.i64.wrap (b+1)) else bif(a.length:Int)==(0:Int)then some ((-1:Int),()) else Ze (0<=(0:Int)/\(0:Int)<a.length)<|some (a.getD (0:Int).toNat (0:Int),())
def Zpp(a:List Int)(b:Int):Option (Int×Unit):=Zcx (Ze1 a b (0:Int)) a b (0:Int)
def Zfl(K1:(List Zk×Int×List Int×List Int×Int×Unit)->Option (Int×Unit))(K2:(List Zk×Int×List Int×List Int×Int×Int×Unit)->Option (Int×Unit))(a:List Zk)(b:Int)(c d:List Int)(e f:Int):Option (Int×Unit):=K2 (a,b,c,d,e,IntKind.i64.wrap (f+1),())
def Zcu(c:List Zk)(d:Int)(a e:List Int)(f b:Int):Nat:=((a.length:Int)-b).toNat+1
def Jf(K1:(List Zk×Int×List Int×List Int×Int×Unit)->Option (Int×Unit)):Nat->List Zk->Int->List Int->List Int->Int->Int->Option (Int×Unit)
 |0,_,_,_,_,_,_=>none
 |N+1,b,f,d,e,a,c=>
  bif decide (c<(d.length:Int))then
   Ze (0<=c/\c<d.length)<|
   Ze (0<=a/\a<b.length)<|
   let g:Bool:=(d.getD c.toNat (0:Int))==(b.getD a.toNat Qm).1
   Ze ((g=true->(0<=a/\a<b.length)))<|
   bif g&&(!(b.getD a.toNat Qm).2.1.2.1)then
    Ze (0<=a/\a<b.length)<|
    some ((b.getD a.toNat Qm).1,())
   else
    Ze (0<=c/\c<d.length)<|
    Ze (0<=a/\a<b.length)<|
    bif(d.getD c.toNat (0:Int))==(b.getD a.toNat Qm).1 then
     Ze (0<=a/\a<b.length)<|
     Ze (e.length+([(b.getD a.toNat Qm).1]).length<=Qd)<|
     Zfl K1 (λv=>Jf K1 N v.1 v.2.1 v.2.2.1 v.2.2.2.1 v.2.2.2.2.1 v.2.2.2.2.2.1) b f d (e++([(b.getD a.toNat Qm).1])) a c
    else
     Zfl K1 (λv=>Jf K1 N v.1 v.2.1 v.2.2.1 v.2.2.2.1 v.2.2.2.2.1 v.2.2.2.2.2.1) b f d e a c
  else
   K1 (b,f,d,e,IntKind.i64.wrap (a+1),())
def Zct(a:List Zk)(c:Int)(d e:List Int)(b:Int):Nat:=((a.length:Int)-b).toNat+1
def Yw:Nat->List Zk->Int->List Int->List Int->Int->Option (Int×Unit)|0,_,_,_,_,_=>none|N+1,a,b,e,c,d=>bif decide (d<(a.length:Int))then Jf (λv=>Yw N v.1 v.2.1 v.2.2.1 v.2.2.2.1 v.2.2.2.2.1) (Zcu a b e c d (0:Int)) a b e c d (0:Int) else (Zpp c b).bind λf=>some (f.1,())
def Zky(a:List Zk)(b:Int):Option (Int×Unit):=(Zkx a).bind λc=>Yw (Zct a b c.1 ([]:List Int) (0:Int)) a b c.1 ([]:List Int) (0:Int)
def Zbr(a:Qt):Option (Int×Unit):=(Kp a).bind λb=>bif !b.1 then some (0,()) else some (IntKind.i64.wrap (a.1-a.2.1),())
def Ze0(c a:Int)(d:Xu)(e:List UInt8)(b:Int):Nat:=(a-b).toNat+1
def Zfn:Nat->Int->Int->Xu->List UInt8->Int->Option (List UInt8×Bool×Unit)
 |0,_,_,_,_,_=>none
 |N+1,e,f,a,b,c=>
  bif decide (c<f)then
   Ze (a.1≠0)<|
   let d:Int:=Int.tmod (IntKind.i64.wrap (e+c)) a.1
   Ze (0<=d/\d<a.2.2.2.1.length)<|
   (Zd9 (a.2.2.2.1.getD d.toNat (0:Int))).bind λg=>
   Ze (b.length+g.1.length<=Yh)<|
   Zfn N e f a (b++g.1) (IntKind.i64.wrap (c+1))
  else
   some (b,true,())
def Zil(a:Xu)(b c:Int):Option (List UInt8×Bool×Unit):=(Zba a).bind λd=>bif((((!d.1)||(decide (b<a.2.1)))||(decide (c<0)))||(decide (b>a.2.2.1)))||(decide (c>(IntKind.i64.wrap (a.2.2.1-b))))then some ([],false,()) else Zfn (Ze0 b c a ([]:List UInt8) (0:Int)) b c a ([]:List UInt8) (0:Int)
def Zdh(c:Zp)(f d:Qy)(a:Zi)(b:Int):Option (Qy×Bool×Unit):=bif decide (b<=a.1)then some (Zds,false,()) else (Zil c.2.1 a.1 (IntKind.i64.wrap (b-a.1))).bind λe=>some ((a.1,e.1,d.2.2.1&&(b==c.2.2.2.2.2.1),()),true,())
def Znz(a:Zp)(c d:Int):Option (Qy×Bool×Unit):=
 (Y5 a).bind λe=>
 bif(!e.1)||(decide (a.1>2))then
  some (Zds,false,())
 else
  bif decide ((a.2.2.1.length:Int)>(0:Int))then
   Ze (0<=(0:Int)/\(0:Int)<a.2.2.1.length)<|
   let b:=min (a.2.2.1.getD (0:Int).toNat Zz).2.1 d
   bif decide (b<=(a.2.2.1.getD (0:Int).toNat Zz).1)then
    some (Zds,false,())
   else
    bif decide (c<(IntKind.i64.wrap (b- (a.2.2.1.getD (0:Int).toNat Zz).1)))then
     Zdh a Zds (a.2.2.2.2.2.1,[],a.2.2.2.2.2.2.1==1,()) (a.2.2.1.getD (0:Int).toNat Zz) (IntKind.i64.wrap ((a.2.2.1.getD (0:Int).toNat Zz).1+(max c 0)))
    else
     Zdh a Zds (a.2.2.2.2.2.1,[],a.2.2.2.2.2.2.1==1,()) (a.2.2.1.getD (0:Int).toNat Zz) b
  else
   bif !(a.2.2.2.2.2.2.1==1)then
    some (Zds,false,())
   else
    some ((a.2.2.2.2.2.1,[],a.2.2.2.2.2.2.1==1,()),true,())
def Zpf(b:Int)(a:Qy):Option (Zf×Unit):=some ((8,b,a.1,a.2.1,a.2.2.1,0,0,0,false,()),())
def Zj8(b c:Int)(d:Qy)(e:Zg)(f a:Int):Nat:=(a-0).toNat+1
def Zcw:Nat->Int->Int->Qy->Zg->Int->Int->Option (Qy×Bool×Unit)|0,_,_,_,_,_,_=>none|N+1,c,d,g,e,f,a=>bif decide (a>(0:Int))then (Znz e.2.1 a f).bind λb=>bif !b.2.1 then some (Zds,false,()) else (Zpf c b.1).bind λh=>(Zdf h.1).bind λi=>bif decide (i.1<=d)then some (b.1,true,()) else Zcw N c d g e f (IntKind.i64.wrap (a-1)) else some (Zds,false,())
def Zpo(c:Zc)(d b:Int):Option (Qy×Bool×Unit):=
 (Xf c d).bind λa=>
 (X9 c).bind λf=>
 bif(((!f.1)||(!a.2.1))||(!a.1.2.2.2.2.2.2.1))||(decide (b<3))then
  some (Zds,false,())
 else
  (Zbr c.2.2.2.2.1).bind λg=>
  let e:=min a.1.2.2.1.1 (IntKind.i64.wrap (a.1.2.1.2.2.2.2.2.2.2.1+g.1))
  Zcw (Zj8 d b Zds a.1 e (min b (60:Int))) d b Zds a.1 e (min b (60:Int))
def Zcv(a:Qt):Option (Qt×Unit):=(Kp a).bind λb=>bif((b.1&&(a.2.1==a.1))&&(a.2.2.1==(-1:Int)))&&(a.2.2.2.1 !=a.1)then some ((a.1,a.2.1,a.1,a.2.2.2),()) else some (a,())
def Zin(a:Zc)(c:Int):Option ((Unit)×(Zc×Unit)):=(Xf a c).bind λb=>(Zcv b.1.2.2.1).bind λd=>(Zcv a.2.2.2.2.1).bind λe=>(Q0 a.2.2.2.1 (b.1.1,b.1.2.1,d.1,b.1.2.2.2)).bind λf=>some ((),(a.1,a.2.1,a.2.2.1,f.1,e.1,a.2.2.2.2.2),())
def Zsn(b:Zp)(a:Qy):Option (Bool×Unit):=some ((((decide (a.1>=0))&&(decide (a.1<=b.2.1.2.2.1)))&&(decide ((a.2.1.length:Int)<=(IntKind.i64.wrap (b.2.1.2.2.1-a.1)))))&&((!a.2.2.1)||((b.2.2.2.2.2.1 !=(-1:Int))&&((IntKind.i64.wrap (a.1+(a.2.1.length:Int)))==b.2.2.2.2.2.1))),())
def Zox(a:Qy):Option (Zi×Unit):=some ((a.1,IntKind.i64.wrap (a.1+(a.2.1.length:Int)),()),())
def Zlm(K1:(List Zi×List Zi×List Zi×Int×Unit)->Option (List Zi×Unit))(K2:(List Zi×List Zi×List Zi×Int×Int×Unit)->Option (List Zi×Unit))(a b c:List Zi)(d e:Int):Option (List Zi×Unit):=K2 (a,b,c,d,IntKind.i64.wrap (e+1),())
def Zrh(K1:(List Zi×List Zi×List Zi×Int×Unit)->Option (List Zi×Unit))(K2:(List Zi×List Zi×List Zi×Int×Int×Unit)->Option (List Zi×Unit))(c d b:List Zi)(e f:Int)(a:Zi):Option (List Zi×Unit):=bif decide (a.1<a.2.1)then Ze (b.length+([a]).length<=Qd)<|Zlm K1 K2 c d (b++([a])) e f else Zlm K1 K2 c d b e f
def Zei(c a d:List Zi)(e b:Int):Nat:=((a.length:Int)-b).toNat+1
def Zcn(K1:(List Zi×List Zi×List Zi×Int×Unit)->Option (List Zi×Unit)):Nat->List Zi->List Zi->List Zi->Int->Int->Option (List Zi×Unit)
 |0,_,_,_,_,_=>none
 |N+1,d,c,e,a,b=>
  bif decide (b<(c.length:Int))then
   Ze (0<=a/\a<d.length)<|
   Ze (0<=b/\b<c.length)<|
   let f:Int:=max (d.getD a.toNat Zz).1 (c.getD b.toNat Zz).1
   Ze (0<=a/\a<d.length)<|
   Ze (0<=b/\b<c.length)<|
   let g:Int:=min (d.getD a.toNat Zz).2.1 (c.getD b.toNat Zz).2.1
   Zid 1 (
    Zrh K1 (λv=>Zcn K1 N v.1 v.2.1 v.2.2.1 v.2.2.2.1 v.2.2.2.2.1) d c e a b (f,g,())
   )
  else
   K1 (d,c,e,IntKind.i64.wrap (a+1),())
def Zeh(a c d:List Zi)(b:Int):Nat:=((a.length:Int)-b).toNat+1
def Wz:Nat->List Zi->List Zi->List Zi->Int->Option (List Zi×Unit)
 |0,_,_,_,_=>none
 |N+1,a,c,d,b=>
  (bif(decide (b<(a.length:Int)))then(Vz a)else some (false,())).bind λf=>
  let e:Bool:=(decide (b<(a.length:Int)))&&f.1
  (bif e then(Vz c)else some (false,())).bind λg=>
  bif e&&g.1 then
   Zcn (λv=>Wz N v.1 v.2.1 v.2.2.1 v.2.2.2.1) (Zei a c d b (0:Int)) a c d b (0:Int)
  else
   some (d,())
def Zde(a b:List Zi):Option (List Zi×Unit):=Wz (Zeh a b ([]:List Zi) (0:Int)) a b ([]:List Zi) (0:Int)
def Zmv(K1:(List Zi×Zi×List Zi×Int×Unit)->Option (List Zi×Unit))(a:List Zi)(b:Zi)(c:List Zi)(d:Int):Option (List Zi×Unit):=K1 (a,b,c,IntKind.i64.wrap (d+1),())
def Zh0(K1:(List Zi×Zi×List Zi×Int×Unit)->Option (List Zi×Unit))(b:List Zi)(c:Zi)(d:List Zi)(a:Int):Option (List Zi×Unit):=
 Ze (0<=a/\a<b.length)<|
 Ze (0<=a/\a<b.length)<|
 bif decide ((max (b.getD a.toNat Zz).1 c.2.1)<(b.getD a.toNat Zz).2.1)then
  Ze (0<=a/\a<b.length)<|
  Ze (0<=a/\a<b.length)<|
  let e:List Zi:=[(max (b.getD a.toNat Zz).1 c.2.1,(b.getD a.toNat Zz).2.1,())]
  Ze (d.length+e.length<=Qd)<|
  Zmv K1 b c (d++e) a
 else
  Zmv K1 b c d a
def Zf1(a:List Zi)(c:Zi)(d:List Zi)(b:Int):Nat:=((a.length:Int)-b).toNat+1
def Wd:Nat->List Zi->Zi->List Zi->Int->Option (List Zi×Unit)
 |0,_,_,_,_=>none
 |N+1,b,c,d,a=>
  bif decide (a<(b.length:Int))then
   Ze (0<=a/\a<b.length)<|
   Ze (0<=a/\a<b.length)<|
   bif decide ((b.getD a.toNat Zz).1<(min (b.getD a.toNat Zz).2.1 c.1))then
    Ze (0<=a/\a<b.length)<|
    Ze (0<=a/\a<b.length)<|
    let e:List Zi:=[((b.getD a.toNat Zz).1,min (b.getD a.toNat Zz).2.1 c.1,())]
    Ze (d.length+e.length<=Qd)<|
    Zh0 (λv=>Wd N v.1 v.2.1 v.2.2.1 v.2.2.2.1) b c (d++e) a
   else
    Zh0 (λv=>Wd N v.1 v.2.1 v.2.2.1 v.2.2.2.1) b c d a
  else
   some (d,())
def Zi2(a:List Zi)(b:Zi):Option (List Zi×Unit):=(Vz a).bind λc=>(bif(!c.1)then some (false,())else(Zyt b)).bind λd=>bif(!c.1)||(!d.1)then (Zob a).bind λe=>some (e.1,()) else Wd (Zf1 a b ([]:List Zi) (0:Int)) a b ([]:List Zi) (0:Int)
def Zg4(c a:Zp):Option (Zp×Bool×Unit):=(Zdq a).bind λb=>some ((b.1,a.2),true,())
def Zdi(c:Qy)(b a:Zp):Option (Zp×Bool×Unit):=bif c.2.2.1 then Zg4 b (a.1,a.2.1,a.2.2.1,a.2.2.2.1,a.2.2.2.2.1,a.2.2.2.2.2.1,2,a.2.2.2.2.2.2.2) else Zg4 b a
def Zn0(a:Zp)(c:Qy):Option (Zp×Bool×Unit):=
 (Zgo a).bind λb=>
 (Y5 a).bind λg=>
 let f:=(!g.1)||(decide (a.1>2))
 (bif f then some (false,())else(Zsn a c)).bind λh=>
 bif((f||(!h.1))||((c.2.1==[])&&(!c.2.2.1)))||(c.2.2.1&&(a.2.2.2.2.2.2.1 !=1))then
  some (b.1,false,())
 else
  bif !(c.2.1==[])then
   (Zox c).bind λd=>
   (Zde a.2.2.1 ([d.1])).bind λe=>
   Ze ((((e.1.length:Int) !=(1:Int))=false->(0<=(0:Int)/\(0:Int)<e.1.length)))<|
   bif((e.1.length:Int) !=(1:Int))||(!(eqV (Zw) (e.1.getD (0:Int).toNat Zz) d.1))then
    some (b.1,false,())
   else
    (Zi2 a.2.2.1 d.1).bind λi=>
    (Zc5 a.2.2.2.1 d.1).bind λj=>
    Zdi c Zaw (b.1.1,b.1.2.1,i.1,j.1,b.1.2.2.2.2.1,b.1.2.2.2.2.2.1,b.1.2.2.2.2.2.2.1,max a.2.2.2.2.2.2.2.1 d.1.2.1,b.1.2.2.2.2.2.2.2.2)
  else
   Zdi c Zaw b.1
def Zdj(a:Qt)(b:Int):Option (Qt×Bool×Unit):=(Kp a).bind λc=>bif((!c.1)||(decide (b<0)))||(decide (b>(IntKind.i64.wrap (a.1-a.2.1))))then some (a,false,()) else some ((a.1,IntKind.i64.wrap (a.2.1+b),a.2.2),true,())
def Zge(c:Zc)(e:Int)(h:Qy):Option (Zc×Bool×Unit):=(Z9 c).bind λa=>(Xf c e).bind λb=>(X9 c).bind λi=>bif((!i.1)||(!b.2.1))||(!b.1.2.2.2.2.2.2.1)then some (a.1,false,()) else (Zn0 b.1.2.1 h).bind λd=>(Zdj b.1.2.2.1 (IntKind.i64.wrap (d.1.2.2.2.2.2.2.2.1-b.1.2.1.2.2.2.2.2.2.2.1))).bind λf=>(Zdj c.2.2.2.2.1 (IntKind.i64.wrap (d.1.2.2.2.2.2.2.2.1-b.1.2.1.2.2.2.2.2.2.2.1))).bind λg=>bif((!d.2.1)||(!f.2.1))||(!g.2.1)then some (a.1,false,()) else (Q0 a.1.2.2.2.1 (b.1.1,d.1,f.1,b.1.2.2.2)).bind λj=>some ((a.1.1,a.1.2.1,a.1.2.2.1,j.1,g.1,a.1.2.2.2.2.2.1,a.1.2.2.2.2.2.2.1,a.1.2.2.2.2.2.2.2.1,a.1.2.2.2.2.2.2.2.2.1,a.1.2.2.2.2.2.2.2.2.2.1,a.1.2.2.2.2.2.2.2.2.2.2.1,a.1.2.2.2.2.2.2.2.2.2.2.2.1,a.1.2.2.2.2.2.2.2.2.2.2.2.2.1,e,a.1.2.2.2.2.2.2.2.2.2.2.2.2.2.2),true,())
def Zbu(K1:(Zc×List Zf×Int×List Int×Int×Unit)->Option ((List Zf×Unit)×(Zc×Unit)))(a:Zc)(b:List Zf)(c:Int)(d:List Int)(e:Int):Option ((List Zf×Unit)×(Zc×Unit)):=K1 (a,b,c,d,IntKind.i64.wrap (e+1),())
def Zhi(K1:(Zc×List Zf×Int×List Int×Int×Unit)->Option ((List Zf×Unit)×(Zc×Unit)))(c:Zc)(a:List Zf)(d:Int)(e:List Int)(f g:Int)(h:Qy)(i:Zc)(j:Bool):Option ((List Zf×Unit)×(Zc×Unit)):=bif !j then some ((a,()),c,()) else (Zpf g h).bind λb=>Ze (a.length+([b.1]).length<=Qd)<|(Zdf b.1).bind λk=>Zbu K1 i (a++([b.1])) (IntKind.i64.wrap (d-k.1)) e f
def Zlw(c:Zc)(d:List Zf)(e:Int)(a:List Int)(f:Int)(g:List Zk)(b:Int):Nat:=((a.length:Int)-b).toNat+1
def Zbv(K1:(Zc×List Zf×Int×List Int×Int×Unit)->Option ((List Zf×Unit)×(Zc×Unit))):Nat->Zc->List Zf->Int->List Int->Int->List Zk->Int->Option ((List Zf×Unit)×(Zc×Unit))|0,_,_,_,_,_,_,_=>none|N+1,a,e,f,b,g,i,d=>bif decide (d<(b.length:Int))then Ze (0<=d/\d<b.length)<|(Zk2 i (b.getD d.toNat (0:Int))).bind λk=>Zbv K1 N a e f b g k.1 (IntKind.i64.wrap (d+1)) else (Zky i a.2.2.2.2.2.2.2.2.2.2.2.2.2.1).bind λc=>bif decide (c.1<(0:Int))then some ((e,()),a,()) else (Zpo a c.1 f).bind λh=>bif !h.2.1 then (Zin a c.1).bind λl=>Ze (b.length+([c.1]).length<=Qd)<|Zbu K1 l.2.1 e f (b++([c.1])) g else Zid 1 ((Zge a c.1 h.1).bind λj=>Zhi K1 a e f b g c.1 h.1 j.1 j.2.1)
def Zlv(b:Zc)(a:List Zf)(c:Int)(d:List Int)(i8:Int):Nat:=((200:Int)-i8).toNat+1+0*a.length
def Y9:Nat->Zc->List Zf->Int->List Int->Int->Option ((List Zf×Unit)×(Zc×Unit))|0,_,_,_,_,_=>none|N+1,a,b,c,d,i8=>bif decide (i8<(200:Int))then (Zk1 a).bind λe=>Zbv (λv=>Y9 N v.1 v.2.1 v.2.2.1 v.2.2.2.1 v.2.2.2.2.1) (Zlw a b c d i8 e.1 (0:Int)) a b c d i8 e.1 (0:Int) else some ((b,()),a,())
def Zou(a:Zc)(b:List Zf)(c:Int):Option ((List Zf×Unit)×(Zc×Unit)):=Y9 (Zlv a b c ([]:List Int) (0:Int)) a b c ([]:List Int) (0:Int)
def Zjp(a:List Zf)(c:List UInt8)(b:Int):Nat:=((a.length:Int)-b).toNat+1
def Zev:Nat->List Zf->List UInt8->Int->Option (List UInt8×Unit)|0,_,_,_=>none|N+1,b,c,a=>bif decide (a<(b.length:Int))then Ze (0<=a/\a<b.length)<|(Zfe (b.getD a.toNat Qk)).bind λd=>bif d.1==([]:List UInt8)then some (([]:List UInt8),()) else Ze (c.length+d.1.length<=Yh)<|Zev N b (c++d.1) (IntKind.i64.wrap (a+1)) else bif decide ((c.length:Int)>(400:Int))then some (([]:List UInt8),()) else some (c,())
def Zjo(a:List Zf):Option (List UInt8×Unit):=Zev (Zjp a ([]:List UInt8) (0:Int)) a ([]:List UInt8) (0:Int)
def W8(K1:(Zc×Zc×Zc×List Zf×Int×List Zf×Int×Unit)->Option ((List UInt8×Int×Zc×Unit)×(Unit)))(a b c:Zc)(d:List Zf)(e:Int)(f:List Zf)(g:Int):Option ((List UInt8×Int×Zc×Unit)×(Unit)):=K1 (a,b,c,d,e,f,IntKind.i64.wrap (g+1),())
def Zco(c d e:Zc)(f:List Zf)(g:Int)(a:List Zf)(b:Int):Nat:=((a.length:Int)-b).toNat+1
def Xj:Nat->Zc->Zc->Zc->List Zf->Int->List Zf->Int->Option ((List UInt8×Int×Zc×Unit)×(Unit))|0,_,_,_,_,_,_,_=>none|N+1,d,h,g,e,f,c,b=>bif decide (b<(c.length:Int))then Ze (0<=b/\b<c.length)<|(Zdf (c.getD b.toNat Qk)).bind λi=>bif decide (i.1<=f)then Ze (0<=b/\b<c.length)<|(Zdf (c.getD b.toNat Qk)).bind λj=>Ze (0<=b/\b<c.length)<|(Zcs g (c.getD b.toNat Qk)).bind λk=>Ze (0<=b/\b<c.length)<|Ze (e.length+([(c.getD b.toNat Qk)]).length<=Qd)<|W8 (λv=>Xj N v.1 v.2.1 v.2.2.1 v.2.2.2.1 v.2.2.2.2.1 v.2.2.2.2.2.1 v.2.2.2.2.2.2.1) d h k.1 (e++([(c.getD b.toNat Qk)])) (IntKind.i64.wrap (f-j.1)) c b else W8 (λv=>Xj N v.1 v.2.1 v.2.2.1 v.2.2.2.1 v.2.2.2.2.1 v.2.2.2.2.2.1 v.2.2.2.2.2.2.1) d h g e f c b else (Zou g e f).bind λa=>bif(a.1.1.length:Int)==(0:Int)then some ((([]:List UInt8),(-1:Int),a.2.1,()),()) else Ze (a.2.1.2.2.2.2.2.2.2.2.2.2.2.2.2.2.2.1.length+([(d.2.2.2.2.2.2.2.2.2.2.2.2.2.2.1,a.1.1,())]).length<=Qd)<|(Zjo a.1.1).bind λl=>some ((l.1,d.2.2.2.2.2.2.2.2.2.2.2.2.2.2.1,(a.2.1.1,a.2.1.2.1,a.2.1.2.2.1,a.2.1.2.2.2.1,a.2.1.2.2.2.2.1,a.2.1.2.2.2.2.2.1,a.2.1.2.2.2.2.2.2.1,a.2.1.2.2.2.2.2.2.2.1,a.2.1.2.2.2.2.2.2.2.2.1,a.2.1.2.2.2.2.2.2.2.2.2.1,a.2.1.2.2.2.2.2.2.2.2.2.2.1,a.2.1.2.2.2.2.2.2.2.2.2.2.2.1,a.2.1.2.2.2.2.2.2.2.2.2.2.2.2.1,a.2.1.2.2.2.2.2.2.2.2.2.2.2.2.2.1,IntKind.i64.wrap (d.2.2.2.2.2.2.2.2.2.2.2.2.2.2.1+1),a.2.1.2.2.2.2.2.2.2.2.2.2.2.2.2.2.2.1++([(d.2.2.2.2.2.2.2.2.2.2.2.2.2.2.1,a.1.1,())]),a.2.1.2.2.2.2.2.2.2.2.2.2.2.2.2.2.2.2),()),())
def Vu(a:Zc)(b:Int):Option ((List UInt8×Int×Zc×Unit)×(Unit)):=(Z9 a).bind λc=>(Y4 a).bind λd=>(bif(!d.1)then some (false,())else(Z8 b 1 400)).bind λf=>bif((!d.1)||(!f.1))||(decide (a.2.2.2.2.2.2.2.2.2.2.2.2.2.2.1>=1000000))then some (([],(-1:Int),c.1,()),()) else (W5 a).bind λe=>Xj (Zco a Yi c.1 ([]:List Zf) b e.1 (0:Int)) a Yi c.1 ([]:List Zf) b e.1 (0:Int)
def Zdp(c:Qc)(b:List Int):Option ((Int×Unit)×(Qc×Unit)):=(Qo c (b.length:Int)).bind λa=>Ze (0<=a.1.1/\a.1.1<b.length)<|some ((b.getD a.1.1.toNat 0,()),a.2.1,())
def Zwp(j:Qc):Option ((Zf×Unit)×(Qc×Unit)):=(Zdp j ([4,5,8,8,8,8,16,17,18,20,21,22])).bind λa=>(Qo a.2.1 8).bind λb=>(Qo b.2.1 12).bind λc=>(Zu5 c.2.1 6).bind λd=>(Zbb d.2.1 4).bind λe=>(Qo e.2.1 5).bind λf=>(Qo f.2.1 40).bind λg=>(Qo g.2.1 14).bind λh=>(Zbb h.2.1 2).bind λi=>Option.bind (Zoc (a.1.1,b.1.1,c.1.1,d.1.1,e.1.1,f.1.1,g.1.1,h.1.1,i.1.1,())) λk=>some ((k.1,()),i.2.1,())
def Zoq(a:Int):Option (Int×Unit):=(Qz a).bind λb=>bif !b.1 then some ((-1:Int),()) else Ze (0<=(2:Int))<|some (a.fdiv (2^ (min (2:Int).toNat IntKind.i64.bits)),())
def Zmd(a:Qt)(b:Int):Option (Qt×Int×Bool×Unit):=
 (Zas a).bind λd=>
 bif((!d.1)||(decide (b<0)))||(decide (b>=a.2.1))then
  some (a,0,false,())
 else
  let c:=max 0 (IntKind.i64.wrap ((IntKind.i64.wrap (b+1))-a.2.2.1))
  some ((a.1,a.2.1,IntKind.i64.wrap (a.2.2.1+c),a.2.2.2),c,true,())
def Zhg(K1:(Zc×Int×Int×Unit)->Option ((Unit)×(Zc×Unit)))(a:Zc)(b c:Int)(d:Zg):Option ((Unit)×(Zc×Unit)):=(Q0 a.2.2.2.1 d).bind λe=>K1 ((a.1,a.2.1,a.2.2.1,e.1,a.2.2.2.2),b,IntKind.i64.wrap (c-1),())
def Zgk(b:Zc)(c a:Int):Nat:=(a-0).toNat+2
def Y8:Nat->Zc->Int->Int->Option ((Unit)×(Zc×Unit))
 |0,_,_,_=>none
 |N+1,a,c,b=>
  bif decide (b>=(0:Int))then
   let d:Int:=IntKind.i64.wrap (c- (IntKind.i64.wrap ((4:Int)*b)))
   Zid 1 (
    (K7 a.1 d a.2.1 a.2.2.1).bind λe=>
    Zhg (λv=>Y8 N v.1 v.2.1 v.2.2.1) a c b e.1
   )
  else
   some ((),a,())
def Zls(a:Zc)(b c:Int):Option ((Unit)×(Zc×Unit)):=Y8 (Zgk a b (IntKind.i64.wrap (c-1))) a b (IntKind.i64.wrap (c-1))
def K6(a:Int)(e b:Zc)(c:Int):Option (Zc×Int×Unit):=(Zls b a c).bind λd=>some (d.2.1,0,())
def J7(c:Int)(f d a:Zc)(e:Qt)(b:Int)(g:Bool):Option (Zc×Int×Unit):=bif((!g)||(b==0))||(decide ((IntKind.i64.wrap ((f.2.2.2.1.length:Int)+b))>24))then some (a,4,()) else (Zau c).bind λh=>bif h.1 then K6 c d (a.1,a.2.1,a.2.2.1,a.2.2.2.1,a.2.2.2.2.1,a.2.2.2.2.2.1,a.2.2.2.2.2.2.1,a.2.2.2.2.2.2.2.1,a.2.2.2.2.2.2.2.2.1,e,a.2.2.2.2.2.2.2.2.2.2) b else K6 c d (a.1,a.2.1,a.2.2.1,a.2.2.2.1,a.2.2.2.2.1,a.2.2.2.2.2.1,a.2.2.2.2.2.2.1,a.2.2.2.2.2.2.2.1,e,a.2.2.2.2.2.2.2.2.2) b
def X7(b:Int)(d e f:Zc)(g:Qt):Option (Zc×Int×Unit):=Zfs ((Zoq b).bind λc=>Zid 1 ((Zmd g c.1).bind λa=>J7 b d e f a.1 a.2.1 a.2.2.1)) ((Zoq b).bind λc=>(Zmd g c.1).bind λa=>J7 b d e f a.1 a.2.1 a.2.2.1)
def K5(a:Zc)(b:Int):Option (Zc×Int×Unit):=(Z9 a).bind λc=>(X9 a).bind λd=>(bif(!d.1)then some (false,())else(Qz b)).bind λe=>bif(!d.1)||(!e.1)then some (c.1,7,()) else (Ys a.2.2.2.1 b).bind λf=>bif decide (f.1>=0)then some (c.1,0,()) else (Zhc a.1 b).bind λg=>bif g.1 then some (c.1,5,()) else (Zau b).bind λh=>bif h.1 then X7 b a Yi c.1 a.2.2.2.2.2.2.2.2.2.1 else X7 b a Yi c.1 a.2.2.2.2.2.2.2.2.1
def Zow(a:Zx)(b:Int)(c:Bool):Option (Int×Unit):=bif((a.2.2.1 !=(-1:Int))&&((decide (b>a.2.2.1))||(c&&(b !=a.2.2.1))))||(c&&(decide (b<a.2.2.2.1)))then some (6,()) else some (0,())
def Zeg(a:Zv)(c:List Zi)(b:Int):Nat:=((a.2.1.length:Int)-b).toNat+1
def J5:Nat->Zv->List Zi->Int->Option (List Zi×Unit)
 |0,_,_,_=>none
 |N+1,b,c,a=>
  (bif(decide (a<(b.2.1.length:Int)))then(Zii b)else some (false,())).bind λe=>
  bif(decide (a<(b.2.1.length:Int)))&&e.1 then
   Ze (0<=a/\a<b.2.1.length)<|
   Ze (0<=a/\a<b.2.1.length)<|
   Ze (0<=a/\a<b.2.1.length)<|
   let d:List Zi:=[((b.2.1.getD a.toNat Qx).1,IntKind.i64.wrap ((b.2.1.getD a.toNat Qx).1+((b.2.1.getD a.toNat Qx).2.1.length:Int)),())]
   Ze (c.length+d.length<=Qd)<|
   J5 N b (c++d) (IntKind.i64.wrap (a+1))
  else
   some (c,())
def Zqg(a:Zv):Option (List Zi×Unit):=J5 (Zeg a ([]:List Zi) (0:Int)) a ([]:List Zi) (0:Int)
def Zmt(c:Int)(a:Zv)(b:Int):Nat:=((a.2.1.length:Int)-b).toNat+1
def Zga:Nat->Int->Zv->Int->Option (Int×Unit)
 |0,_,_,_=>none
 |N+1,d,b,a=>
  bif decide (a<(b.2.1.length:Int))then
   Ze (0<=a/\a<b.2.1.length)<|
   let c:Int:=IntKind.i64.wrap (d- (b.2.1.getD a.toNat Qx).1)
   Ze (((decide (d>=(0:Int)))=true->(0<=a/\a<b.2.1.length)))<|
   let e:Bool:=((decide (d>=(0:Int)))&&(decide ((b.2.1.getD a.toNat Qx).1>=(0:Int))))&&(decide (c>=(0:Int)))
   Ze ((e=true->(0<=a/\a<b.2.1.length)))<|
   bif e&&(decide (c<((b.2.1.getD a.toNat Qx).2.1.length:Int)))then
    Ze (0<=a/\a<b.2.1.length)<|
    Ze (0<=c/\c<(b.2.1.getD a.toNat Qx).2.1.length)<|
    some (IntKind.i64.wrap (((b.2.1.getD a.toNat Qx).2.1.getD c.toNat 0).toNat:Int),())
   else
    Zga N d b (IntKind.i64.wrap (a+1))
  else
   some ((-1:Int),())
def Zu1(a:Zv)(b:Int):Option (Int×Unit):=Zga (Zmt b a (0:Int)) b a (0:Int)
def Zb6(K1:(Int×List UInt8×Zv×Zv×Zv×List Zi×Int×Unit)->Option (Zv×Unit))(K2:(Int×List UInt8×Zv×Zv×Zv×List Zi×Int×List UInt8×Int×Unit)->Option (Zv×Unit))(c:Int)(d:List UInt8)(e f g:Zv)(h:List Zi)(i:Int)(a:List UInt8)(j k:Int):Option (Zv×Unit):=(Zd9 k).bind λb=>Ze (a.length+b.1.length<=Yh)<|K2 (c,d,e,f,g,h,i,a++b.1,IntKind.i64.wrap (j+1),())
def Wp(d:Int)(e:List UInt8)(f g h:Zv)(a:List Zi)(b:Int)(i:List UInt8)(c:Int):Nat:=((a.getD b.toNat Zz).2.1-c).toNat+1
def Yu(K1:(Int×List UInt8×Zv×Zv×Zv×List Zi×Int×Unit)->Option (Zv×Unit)):Nat->Int->List UInt8->Zv->Zv->Zv->List Zi->Int->List UInt8->Int->Option (Zv×Unit)
 |0,_,_,_,_,_,_,_,_,_=>none
 |N+1,d,f,g,h,e,b,a,i,c=>
  Ze (0<=a/\a<b.length)<|
  bif decide (c<(b.getD a.toNat Zz).2.1)then
   (Zu1 g c).bind λj=>
   bif decide (j.1<(0:Int))then
    Ze (0<=(IntKind.i64.wrap (c-d))/\(IntKind.i64.wrap (c-d))<f.length)<|
    Zb6 K1 (λv=>Yu K1 N v.1 v.2.1 v.2.2.1 v.2.2.2.1 v.2.2.2.2.1 v.2.2.2.2.2.1 v.2.2.2.2.2.2.1 v.2.2.2.2.2.2.2.1 v.2.2.2.2.2.2.2.2.1) d f g h e b a i c (IntKind.i64.wrap ((f.getD (IntKind.i64.wrap (c-d)).toNat 0).toNat:Int))
   else
    Zb6 K1 (λv=>Yu K1 N v.1 v.2.1 v.2.2.1 v.2.2.2.1 v.2.2.2.2.1 v.2.2.2.2.2.1 v.2.2.2.2.2.2.1 v.2.2.2.2.2.2.2.1 v.2.2.2.2.2.2.2.2.1) d f g h e b a i c j.1
  else
   Ze (0<=a/\a<b.length)<|
   let k:List Z6:=[((b.getD a.toNat Zz).1,i,())]
   Ze (e.2.1.length+k.length<=Qd)<|
   K1 (d,f,g,h,(e.1,e.2.1++k,e.2.2),b,IntKind.i64.wrap (a+1),())
def Wo(c:Int)(d:List UInt8)(e f g:Zv)(a:List Zi)(b:Int):Nat:=((a.length:Int)-b).toNat+1
def Vh:Nat->Int->List UInt8->Zv->Zv->Zv->List Zi->Int->Option (Zv×Unit)|0,_,_,_,_,_,_,_=>none|N+1,d,e,f,g,c,b,a=>bif decide (a<(b.length:Int))then Ze (0<=a/\a<b.length)<|Yu (λv=>Vh N v.1 v.2.1 v.2.2.1 v.2.2.2.1 v.2.2.2.2.1 v.2.2.2.2.2.1 v.2.2.2.2.2.2.1) (Wp d e f g c b a ([]:List UInt8) (b.getD a.toNat Zz).1) d e f g c b a ([]:List UInt8) (b.getD a.toNat Zz).1 else some (c,())
def Zkv(a:Zv)(b:Int)(c:List UInt8):Option (Zv×Unit):=
 (Zii a).bind λf=>
 bif(((!f.1)||(c==[]))||(decide (b<0)))||(decide (b>(IntKind.i64.wrap (4611686018427387903- (c.length:Int)))))then
  (Zod a).bind λg=>
  some (g.1,())
 else
  let d:=IntKind.i64.wrap (b+(c.length:Int))
  bif decide ((max b a.1)>=d)then
   (Zod a).bind λh=>
   some (h.1,())
  else
   (Zqg a).bind λi=>
   (Zc5 i.1 (max b a.1,d,())).bind λe=>
   Vh (Wo b c a ((0:Int),([]:List Z6),()) (a.1,([]:List Z6),()) e.1 (0:Int)) b c a ((0:Int),([]:List Z6),()) (a.1,([]:List Z6),()) e.1 (0:Int)
def Zdz(b a:Zx):Option (Zx×Int×Unit):=some (a,0,())
def Yy(d:Int)(e:List UInt8)(f c a:Zx):Option (Zx×Int×Unit):=(Zkv f.2.1 d e).bind λb=>(bif(a.2.2.1 !=(-1:Int))then(Zd8 b.1)else some (0,())).bind λg=>bif(a.2.2.1 !=(-1:Int))&&((IntKind.i64.wrap (b.1.1+g.1))==a.2.2.1)then Zdz c (2,b.1,a.2.2) else Zdz c (a.1,b.1,a.2.2)
def Ym(a:Zx)(c:Int)(d:List UInt8)(f:Bool):Option (Zx×Int×Unit):=
 (Zlx a).bind λb=>
 (Xq a).bind λh=>
 bif((!h.1)||(decide (c<0)))||(decide (c>(IntKind.i64.wrap (4611686018427387903- (d.length:Int)))))then
  some (b.1,7,())
 else
  let e:=IntKind.i64.wrap (c+(d.length:Int))
  (Zow a e f).bind λg=>
  bif(g.1 !=0)||(decide (a.1>1))then
   some (b.1,g.1,())
  else
   bif f then
    Yy c d a Zso (1,b.1.2.1,e,max a.2.2.2.1 e,b.1.2.2.2.2)
   else
    Yy c d a Zso (b.1.1,b.1.2.1,b.1.2.2.1,max a.2.2.2.1 e,b.1.2.2.2.2)
def Zpn(a:Zx)(b:Int):Option (Int×Unit):=(Xq a).bind λc=>(bif(!c.1)then some (false,())else(Qz b)).bind λd=>bif(!c.1)||(!d.1)then some (0,()) else some (max 0 (IntKind.i64.wrap (b-a.2.2.2.1)),())
def Zmc(a:Qg)(b:Int):Option (Qg×Bool×Unit):=(V0 a).bind λc=>bif((!c.1)||(decide (b<0)))||(decide (b>(IntKind.i64.wrap (a.2.2.1-a.2.2.2.1))))then some (a,false,()) else some ((a.1,a.2.1,a.2.2.1,IntKind.i64.wrap (a.2.2.2.1+b),a.2.2.2.2),true,())
def Zib(a:Zc)(b:Zg)(f:Int):Option ((Int×Unit)×(Zc×Zg×Unit)):=(Zpn b.2.2.2.1 f).bind λc=>bif c.1==0 then some ((0,()),a,b,()) else (Zmc b.2.2.2.2.1 c.1).bind λd=>(Zmc a.2.2.2.2.2.1 c.1).bind λe=>bif(!d.2.1)||(!e.2.1)then some ((3,()),a,b,()) else some ((0,()),(a.1,a.2.1,a.2.2.1,a.2.2.2.1,a.2.2.2.2.1,e.1,a.2.2.2.2.2.2),(b.1,b.2.1,b.2.2.1,b.2.2.2.1,d.1,b.2.2.2.2.2),())
def Zd6(b:Zc)(a:Zf):Option ((Zc×Int×Unit)×(Unit)):=(X9 b).bind λf=>(bif(!f.1)then some (false,())else(Zat a)).bind λh=>bif((!f.1)||(!h.1))||(a.1 !=8)then (Z9 b).bind λi=>some ((i.1,7,()),()) else (Xv b.1 a.2.1).bind λj=>bif !j.1 then (Z9 b).bind λk=>some ((k.1,5,()),()) else (K5 b a.2.1).bind λd=>bif d.2.1 !=0 then (Z9 b).bind λl=>some ((l.1,d.2.1,()),()) else (Xf d.1 a.2.1).bind λg=>(Ym g.1.2.2.2.1 a.2.2.1 a.2.2.2.1 a.2.2.2.2.1).bind λe=>(Zib d.1 g.1 (IntKind.i64.wrap (a.2.2.1+(a.2.2.2.1.length:Int)))).bind λc=>bif c.1.1 !=0 then (Z9 b).bind λm=>some ((m.1,c.1.1,()),()) else bif e.2.1 !=0 then (Z9 b).bind λn=>some ((n.1,e.2.1,()),()) else (Wk c.2.1 (c.2.2.1.1,c.2.2.1.2.1,c.2.2.1.2.2.1,e.1,c.2.2.1.2.2.2.2)).bind λo=>some ((o.2.1,0,()),())
def K8(a:Zx)(d b:Int):Option (Zx×Int×Unit):=(Zlx a).bind λe=>(Xq a).bind λc=>(bif(!c.1)then some (false,())else(Qz d)).bind λf=>(bif((!c.1)||(!f.1))then some (false,())else(Qz b)).bind λh=>bif((!c.1)||(!f.1))||(!h.1)then some (e.1,7,()) else (Zow a b true).bind λg=>bif(g.1 !=0)||(decide (a.1>1))then some (e.1,g.1,()) else some ((4,(a.2.1.1,[],()),b,b,d,()),0,())
def Wc(e b:Zc)(a:Zg)(c:Zx):Option ((Zc×Int×Unit)×(Unit)):=(Wk b (a.1,a.2.1,a.2.2.1,c,a.2.2.2.2)).bind λd=>some ((d.2.1,0,()),())
def Zcq(b:Zc)(a:Zf):Option ((Zc×Int×Unit)×(Unit)):=(X9 b).bind λf=>(bif(!f.1)then some (false,())else(Zat a)).bind λi=>bif((!f.1)||(!i.1))||(a.1 !=4)then (Z9 b).bind λj=>some ((j.1,7,()),()) else (Xv b.1 a.2.1).bind λk=>bif !k.1 then (Z9 b).bind λl=>some ((l.1,5,()),()) else (K5 b a.2.1).bind λe=>bif e.2.1 !=0 then (Z9 b).bind λm=>some ((m.1,e.2.1,()),()) else (Xf e.1 a.2.1).bind λg=>(K8 g.1.2.2.2.1 a.2.2.2.2.2.1 a.2.2.2.2.2.2.2.1).bind λd=>(Zib e.1 g.1 a.2.2.2.2.2.2.2.1).bind λc=>bif c.1.1 !=0 then (Z9 b).bind λn=>some ((n.1,c.1.1,()),()) else bif d.2.1 !=0 then (Z9 b).bind λo=>some ((o.1,d.2.1,()),()) else bif(d.1.1==4)&&(c.2.2.1.2.2.2.1.1 !=4)then (Zlt c.2.1 c.2.2.1 a.2.2.2.2.2.2.2.1).bind λh=>Wc Yi h.2.1 h.2.2.1 d.1 else Wc Yi c.2.1 c.2.2.1 d.1
def Zaa(d a:Zc)(b:Zg):Option ((Zc×Int×Unit)×(Unit)):=(Wk a b).bind λc=>some ((c.2.1,0,()),())
def Zd7(b:Zc)(c:Zf):Option ((Zc×Int×Unit)×(Unit)):=(X9 b).bind λe=>(bif(!e.1)then some (false,())else(Zat c)).bind λg=>bif((!e.1)||(!g.1))||(c.1 !=5)then (Z9 b).bind λh=>some ((h.1,7,()),()) else (K0 b.1 c.2.1).bind λi=>bif !i.1 then (Z9 b).bind λj=>some ((j.1,5,()),()) else (K5 b c.2.1).bind λd=>bif d.2.1 !=0 then (Z9 b).bind λk=>some ((k.1,d.2.1,()),()) else (Xf d.1 c.2.1).bind λa=>(V6 a.1.2.1 c.2.2.2.2.2.1).bind λf=>bif f.2.1 then Zaa Yi d.1 (a.1.1,f.1,a.1.2.2.1,a.1.2.2.2.1,a.1.2.2.2.2.1,a.1.2.2.2.2.2.1,a.1.2.2.2.2.2.2.1,a.1.2.2.2.2.2.2.2.1,true,a.1.2.2.2.2.2.2.2.2.2) else Zaa Yi d.1 a.1
def Zhe(a:Qt)(b:Int):Option (Qt×Unit):=(Kp a).bind λc=>(bif(!c.1)then some (false,())else(Qz b)).bind λd=>bif((!c.1)||(!d.1))||(decide (b<=a.1))then some (a,()) else some ((b,a.2.1,(-1:Int),a.2.2.2),())
def Zhd(a:Ze2)(b:Int):Option (Ze2×Unit):=(Zf0 a).bind λc=>bif((!c.1)||(decide (b<=a.1)))||(decide (b>1152921504606846976))then some (a,()) else some ((b,a.2.1,(-1:Int),a.2.2.2),())
def Zi6(b a:Zc):Option (Zc×Int×Unit):=some (a,0,())
def Zcy(d:Zc)(b:Zf)(e:Zc)(f:Bool):Option (Zc×Int×Unit):=bif !f then (Z9 d).bind λg=>some (g.1,5,()) else (K5 d b.2.1).bind λa=>bif a.2.1 !=0 then (Z9 d).bind λh=>some (h.1,a.2.1,()) else bif b.1==17 then (Xf a.1 b.2.1).bind λc=>(Zhe c.1.2.2.1 b.2.2.2.2.2.2.1).bind λi=>(Q0 a.1.2.2.2.1 (c.1.1,c.1.2.1,i.1,c.1.2.2.2)).bind λj=>Zi6 e (a.1.1,a.1.2.1,a.1.2.2.1,j.1,a.1.2.2.2.2) else Zi6 e a.1
def Zme(b:Zc)(a:Zf):Option (Zc×Int×Unit):=(K0 b.1 a.2.1).bind λc=>bif a.1==21 then (Xv b.1 a.2.1).bind λd=>Zcy b a Yi d.1 else Zcy b a Yi c.1
def Zdy(b a:Zc):Option (Zc×Int×Unit):=some (a,0,())
def Wb(b:Zc)(c:Zf)(f d:Zc)(e:Bool):Option (Zc×Int×Unit):=bif e then (Zme b c).bind λa=>some (a.1,a.2.1,()) else some (d,7,())
def Wa(c:Zc)(d:Zf)(e a:Zc)(b:Int)(f:Bool):Option (Zc×Int×Unit):=bif f then some (a,0,()) else bif b==17 then Wb c d e a (b==17) else Wb c d e a (b==21)
def Zcp(c:Zc)(b:Zf):Option (Zc×Int×Unit):=(Z9 c).bind λa=>(X9 c).bind λd=>(bif(!d.1)then some (false,())else(Zat b)).bind λe=>bif(!d.1)||(!e.1)then some (a.1,7,()) else bif b.1==16 then (Zhe c.2.2.2.2.1 b.2.2.2.2.2.2.1).bind λf=>some ((a.1.1,a.1.2.1,a.1.2.2.1,a.1.2.2.2.1,f.1,a.1.2.2.2.2.2),0,()) else bif b.1==18 then bif b.2.2.2.2.2.2.2.2.1 then (Zhd c.2.2.2.2.2.2.2.1 b.2.2.2.2.2.2.1).bind λg=>Zdy Yi (a.1.1,a.1.2.1,a.1.2.2.1,a.1.2.2.2.1,a.1.2.2.2.2.1,a.1.2.2.2.2.2.1,a.1.2.2.2.2.2.2.1,g.1,a.1.2.2.2.2.2.2.2.2) else (Zhd c.2.2.2.2.2.2.1 b.2.2.2.2.2.2.1).bind λh=>Zdy Yi (a.1.1,a.1.2.1,a.1.2.2.1,a.1.2.2.2.1,a.1.2.2.2.2.1,a.1.2.2.2.2.2.1,h.1,a.1.2.2.2.2.2.2.2) else bif b.1==20 then Wa c b Yi a.1 b.1 (b.1==20) else Wa c b Yi a.1 b.1 (b.1==22)
def V9(c a:Zc)(b:Int):Option ((Zc×Int×Unit)×(Unit)):=some ((a,b,()),())
def Zar(b:Zc)(a:Zf):Option ((Zc×Int×Unit)×(Unit)):=(Z9 b).bind λg=>bif a.1==8 then (Zd6 b a).bind λc=>V9 Yi c.1.1 c.1.2.1 else bif a.1==4 then (Zcq b a).bind λd=>V9 Yi d.1.1 d.1.2.1 else bif a.1==5 then (Zd7 b a).bind λe=>V9 Yi e.1.1 e.1.2.1 else (Zcp b a).bind λf=>V9 Yi f.1 f.2.1
def Zj7(c:Int)(a:Zc)(d:Qb)(b:Int):Nat:=((a.2.2.2.2.2.2.2.2.2.2.2.2.2.2.2.1.length:Int)-b).toNat+1
def Zfm:Nat->Int->Zc->Qb->Int->Option (Qb×Bool×Unit)|0,_,_,_,_=>none|N+1,c,b,d,a=>bif decide (a<(b.2.2.2.2.2.2.2.2.2.2.2.2.2.2.2.1.length:Int))then Ze (0<=a/\a<b.2.2.2.2.2.2.2.2.2.2.2.2.2.2.2.1.length)<|bif(b.2.2.2.2.2.2.2.2.2.2.2.2.2.2.2.1.getD a.toNat Q6).1==c then Ze (0<=a/\a<b.2.2.2.2.2.2.2.2.2.2.2.2.2.2.2.1.length)<|Ze (([]:List Zf).length+(b.2.2.2.2.2.2.2.2.2.2.2.2.2.2.2.1.getD a.toNat Q6).2.1.length<=Qd)<|some ((c,([]:List Zf)++(b.2.2.2.2.2.2.2.2.2.2.2.2.2.2.2.1.getD a.toNat Q6).2.1,()),true,()) else Zfm N c b d (IntKind.i64.wrap (a+1)) else some (((0:Int),([]:List Zf),()),false,())
def Zmb(a:Zc)(b:Int):Option (Qb×Bool×Unit):=Zfm (Zj7 b a ((0:Int),([]:List Zf),()) (0:Int)) b a ((0:Int),([]:List Zf),()) (0:Int)
def Zhm(K1:(Zc×Int×List Qb×Int×Unit)->Option ((Unit)×(Zc×Unit)))(a:Zc)(b:Int)(c:List Qb)(d:Int):Option ((Unit)×(Zc×Unit)):=K1 (a,b,c,IntKind.i64.wrap (d+1),())
def Zrt(a:Zc)(c:Int)(d:List Qb)(b:Int):Nat:=((a.2.2.2.2.2.2.2.2.2.2.2.2.2.2.2.1.length:Int)-b).toNat+1
def Zak:Nat->Zc->Int->List Qb->Int->Option ((Unit)×(Zc×Unit))|0,_,_,_,_=>none|N+1,a,d,c,b=>bif decide (b<(a.2.2.2.2.2.2.2.2.2.2.2.2.2.2.2.1.length:Int))then Ze (0<=b/\b<a.2.2.2.2.2.2.2.2.2.2.2.2.2.2.2.1.length)<|bif(a.2.2.2.2.2.2.2.2.2.2.2.2.2.2.2.1.getD b.toNat Q6).1 !=d then Ze (0<=b/\b<a.2.2.2.2.2.2.2.2.2.2.2.2.2.2.2.1.length)<|Ze (c.length+([(a.2.2.2.2.2.2.2.2.2.2.2.2.2.2.2.1.getD b.toNat Q6)]).length<=Qd)<|Zhm (λv=>Zak N v.1 v.2.1 v.2.2.1 v.2.2.2.1) a d (c++([(a.2.2.2.2.2.2.2.2.2.2.2.2.2.2.2.1.getD b.toNat Q6)])) b else Zhm (λv=>Zak N v.1 v.2.1 v.2.2.1 v.2.2.2.1) a d c b else some ((),(a.1,a.2.1,a.2.2.1,a.2.2.2.1,a.2.2.2.2.1,a.2.2.2.2.2.1,a.2.2.2.2.2.2.1,a.2.2.2.2.2.2.2.1,a.2.2.2.2.2.2.2.2.1,a.2.2.2.2.2.2.2.2.2.1,a.2.2.2.2.2.2.2.2.2.2.1,a.2.2.2.2.2.2.2.2.2.2.2.1,a.2.2.2.2.2.2.2.2.2.2.2.2.1,a.2.2.2.2.2.2.2.2.2.2.2.2.2.1,a.2.2.2.2.2.2.2.2.2.2.2.2.2.2.1,c,a.2.2.2.2.2.2.2.2.2.2.2.2.2.2.2.2),())
def Zov(a:Zc)(b:Int):Option ((Unit)×(Zc×Unit)):=Zak (Zrt a b ([]:List Qb) (0:Int)) a b ([]:List Qb) (0:Int)
def Z3y(a:Zf):Option (Qy×Unit):=some ((a.2.2.1,a.2.2.2.1,a.2.2.2.2.1,()),())
def Zlp(c a:Zp):Option (Zp×Unit):=(Zdq a).bind λb=>some ((b.1,a.2),())
def Zlo(c:Zp)(d:Qy)(b a:Zp):Option (Zp×Unit):=bif d.2.2.1&&(c.2.2.2.2.2.2.1==2)then Zlp b (a.1,a.2.1,a.2.2.1,a.2.2.2.1,a.2.2.2.2.1,a.2.2.2.2.2.1,1,a.2.2.2.2.2.2.2) else Zlp b a
def Zor(c:Zp)(d:Qy)(e f:Zp)(a:List Zi)(b:Int):Nat:=((a.length:Int)-b).toNat+1
def Zlq:Nat->Zp->Qy->Zp->Zp->List Zi->Int->Option (Zp×Unit)|0,_,_,_,_,_,_=>none|N+1,d,e,f,b,c,a=>bif decide (a<(c.length:Int))then Ze (0<=a/\a<c.length)<|(Zi2 b.2.2.2.1 (c.getD a.toNat Zz)).bind λg=>Ze (0<=a/\a<c.length)<|(Zc5 b.2.2.1 (c.getD a.toNat Zz)).bind λh=>Zlq N d e f (b.1,b.2.1,h.1,g.1,b.2.2.2.2) c (IntKind.i64.wrap (a+1)) else Zlo d e f b
def Zwk(a:Zp)(b:Qy):Option (Zp×Unit):=
 (Zgo a).bind λc=>
 (Y5 a).bind λf=>
 let d:=(!f.1)||(decide (a.1>2))
 (bif d then some (false,())else(Zsn a b)).bind λg=>
 bif d||(!g.1)then
  some (c.1,())
 else
  bif !(b.2.1==[])then
   (Zox b).bind λh=>
   (Zde a.2.2.2.1 ([h.1])).bind λe=>
   Zlq (Zor a b Zaw c.1 e.1 (0:Int)) a b Zaw c.1 e.1 (0:Int)
  else
   Zlo a b Zaw c.1
def Zal(a:Zc)(b:Zg):Option ((Unit)×(Zc×Unit)):=(Q0 a.2.2.2.1 b).bind λc=>some ((),(a.1,a.2.1,a.2.2.1,c.1,a.2.2.2.2),())
def Zk3(b:Zc)(c:Zf)(a:Zg)(d:Bool):Option ((Unit)×(Zc×Unit)):=(bif(!d)then some (false,())else(Zab c)).bind λe=>bif(!d)||(!e.1)then some ((),b,()) else bif c.1==8 then (Z3y c).bind λf=>(Zwk a.2.1 f.1).bind λg=>Zal b (a.1,g.1,a.2.2) else bif c.1==4 then Zal b (a.1,a.2.1,a.2.2.1,a.2.2.2.1,a.2.2.2.2.1,a.2.2.2.2.2.1,a.2.2.2.2.2.2.1,a.2.2.2.2.2.2.2.1,a.2.1.1==4,a.2.2.2.2.2.2.2.2.2) else bif c.1==5 then Zal b (a.1,a.2.1,a.2.2.1,a.2.2.2.1,a.2.2.2.2.1,a.2.2.2.2.2.1,a.2.2.2.2.2.2.1,a.2.2.2.2.2.2.2.1,a.2.2.2.2.2.2.2.2.1,decide (a.2.2.2.1.1<2),a.2.2.2.2.2.2.2.2.2.2) else bif c.1==17 then Zal b (a.1,a.2.1,a.2.2.1,a.2.2.2.1,a.2.2.2.2.1,a.2.2.2.2.2.1,a.2.2.2.2.2.2.1,a.2.2.2.2.2.2.2.1,a.2.2.2.2.2.2.2.2.1,a.2.2.2.2.2.2.2.2.2.1,true,a.2.2.2.2.2.2.2.2.2.2.2) else Zal b a
def Zsm(a:Zc)(b:Zf):Option ((Unit)×(Zc×Unit)):=bif b.1==16 then some ((),(a.1,a.2.1,a.2.2.1,a.2.2.2.1,a.2.2.2.2.1,a.2.2.2.2.2.1,a.2.2.2.2.2.2.1,a.2.2.2.2.2.2.2.1,a.2.2.2.2.2.2.2.2.1,a.2.2.2.2.2.2.2.2.2.1,true,a.2.2.2.2.2.2.2.2.2.2.2),()) else bif b.1==18 then bif b.2.2.2.2.2.2.2.2.1 then some ((),(a.1,a.2.1,a.2.2.1,a.2.2.2.1,a.2.2.2.2.1,a.2.2.2.2.2.1,a.2.2.2.2.2.2.1,a.2.2.2.2.2.2.2.1,a.2.2.2.2.2.2.2.2.1,a.2.2.2.2.2.2.2.2.2.1,a.2.2.2.2.2.2.2.2.2.2.1,a.2.2.2.2.2.2.2.2.2.2.2.1,true,a.2.2.2.2.2.2.2.2.2.2.2.2.2),()) else some ((),(a.1,a.2.1,a.2.2.1,a.2.2.2.1,a.2.2.2.2.1,a.2.2.2.2.2.1,a.2.2.2.2.2.2.1,a.2.2.2.2.2.2.2.1,a.2.2.2.2.2.2.2.2.1,a.2.2.2.2.2.2.2.2.2.1,a.2.2.2.2.2.2.2.2.2.2.1,true,a.2.2.2.2.2.2.2.2.2.2.2.2),()) else Zid 1 ((Xf a b.2.1).bind λc=>Zk3 a b c.1 c.2.1)
def Zny(c d:Zc)(a:Qb)(b:Int):Nat:=((a.2.1.length:Int)-b).toNat+1
def Zb7:Nat->Zc->Zc->Qb->Int->Option ((Zc×Bool×Unit)×(Unit))|0,_,_,_,_=>none|N+1,d,c,b,a=>bif decide (a<(b.2.1.length:Int))then Ze (0<=a/\a<b.2.1.length)<|(Zsm c (b.2.1.getD a.toNat Qk)).bind λe=>Zb7 N d e.2.1 b (IntKind.i64.wrap (a+1)) else some ((c,true,()),())
def Zkw(a:Zc)(c:Int):Option ((Zc×Bool×Unit)×(Unit)):=(Z9 a).bind λd=>(Zmb a c).bind λb=>(Y4 a).bind λf=>bif(!f.1)||(!b.2.1)then some ((d.1,false,()),()) else (Zov d.1 c).bind λe=>Zb7 (Zny Yi e.2.1 b.1 (0:Int)) Yi e.2.1 b.1 (0:Int)
def Zj4(a:Int)(c d e:Xu)(b:Int):Nat:=(a-b).toNat+1
def Znu:Nat->Int->Xu->Xu->Xu->Int->Option (Xu×Bool×Unit)|0,_,_,_,_,_=>none|N+1,d,b,e,a,c=>bif decide (c<d)then Ze (b.1≠0)<|Ze (0<=(Int.tmod c b.1)/\(Int.tmod c b.1)<a.2.2.2.1.length)<|Znu N d b e (a.1,a.2.1,a.2.2.1,a.2.2.2.1.set (Int.tmod c b.1).toNat (0:Int),a.2.2.2.2) (IntKind.i64.wrap (c+1)) else some ((a.1,d,a.2.2),true,())
def Ztd(a:Xu)(b:Int):Option (Xu×Bool×Unit):=(Zu6 a).bind λc=>(Zba a).bind λd=>bif((!d.1)||(decide (b<a.2.1)))||(decide (b>a.2.2.1))then some (c.1,false,()) else Znu (Zj4 b a Qsq c.1 a.2.1) b a Qsq c.1 a.2.1
def Zsd(d a:Zp)(b:Xu):Option (Zp×Unit):=(Zdq (a.1,b,a.2.2)).bind λc=>some ((c.1,b,a.2.2),())
def Znq(d e a:Zp):Option (Zp×Unit):=Zfs ((Zma a.2.2.2.2.1 0).bind λb=>Zid 1 ((Ztd d.2.1 b.1).bind λc=>Zsd e a c.1)) ((Zma a.2.2.2.2.1 0).bind λb=>(Ztd d.2.1 b.1).bind λc=>Zsd e a c.1)
def Znp(b:Zp)(d:Qy)(c a:Zp):Option (Zp×Unit):=bif d.2.2.1&&(b.2.2.2.2.2.2.1==2)then Znq b c (a.1,a.2.1,a.2.2.1,a.2.2.2.1,a.2.2.2.2.1,a.2.2.2.2.2.1,3,a.2.2.2.2.2.2.2) else Znq b c a
def Zpy(c:Zp)(d:Qy)(e f:Zp)(a:List Zi)(b:Int):Nat:=((a.length:Int)-b).toNat+1
def Znr:Nat->Zp->Qy->Zp->Zp->List Zi->Int->Option (Zp×Unit)|0,_,_,_,_,_,_=>none|N+1,d,e,f,b,c,a=>bif decide (a<(c.length:Int))then Ze (0<=a/\a<c.length)<|(Zi2 b.2.2.2.1 (c.getD a.toNat Zz)).bind λg=>Ze (0<=a/\a<c.length)<|(Zc5 b.2.2.2.2.1 (c.getD a.toNat Zz)).bind λh=>Znr N d e f (b.1,b.2.1,b.2.2.1,g.1,h.1,b.2.2.2.2.2) c (IntKind.i64.wrap (a+1)) else Znp d e f b
def Zx2(a:Zp)(b:Qy):Option (Zp×Unit):=
 (Zgo a).bind λc=>
 (Y5 a).bind λf=>
 let d:=(!f.1)||(decide (a.1>2))
 (bif d then some (false,())else(Zsn a b)).bind λg=>
 bif d||(!g.1)then
  some (c.1,())
 else
  bif !(b.2.1==[])then
   (Zox b).bind λh=>
   (Zde a.2.2.2.1 ([h.1])).bind λe=>
   Znr (Zpy a b Zaw c.1 e.1 (0:Int)) a b Zaw c.1 e.1 (0:Int)
  else
   Znp a b Zaw c.1
def Zx3(a:Zp):Option (Zp×Bool×Unit):=(Zgo a).bind λb=>(Y5 a).bind λc=>bif(!c.1)||(a.1 !=4)then some (b.1,false,()) else some ((5,b.1.2),true,())
def Zbo(a:Zc)(b:Zg):Option ((Unit)×(Zc×Unit)):=(Wk a b).bind λc=>some ((),c.2.1,())
def Zn2(b:Zc)(c:Zf)(a:Zg)(e:Bool):Option ((Unit)×(Zc×Unit)):=(bif(!e)then some (false,())else(Zab c)).bind λf=>bif(!e)||(!f.1)then some ((),b,()) else bif c.1==8 then (Z3y c).bind λg=>(Zx2 a.2.1 g.1).bind λh=>Zbo b (a.1,h.1,a.2.2) else bif c.1==4 then (Zx3 a.2.1).bind λd=>bif d.2.1 then Zbo b (a.1,d.1,a.2.2.1,a.2.2.2.1,a.2.2.2.2.1,a.2.2.2.2.2.1,a.2.2.2.2.2.2.1,a.2.2.2.2.2.2.2.1,false,a.2.2.2.2.2.2.2.2.2) else Zbo b (a.1,d.1,a.2.2) else bif c.1==5 then Zbo b (a.1,a.2.1,a.2.2.1,a.2.2.2.1,a.2.2.2.2.1,a.2.2.2.2.2.1,a.2.2.2.2.2.2.1,a.2.2.2.2.2.2.2.1,a.2.2.2.2.2.2.2.2.1,false,a.2.2.2.2.2.2.2.2.2.2) else Zbo b a
def Zu4(a:Zc)(b:Zf):Option ((Unit)×(Zc×Unit)):=Zid 1 ((Xf a b.2.1).bind λc=>Zn2 a b c.1 c.2.1)
def Zop(c d:Zc)(a:Qb)(b:Int):Nat:=((a.2.1.length:Int)-b).toNat+1
def Zdd:Nat->Zc->Zc->Qb->Int->Option ((Zc×Bool×Unit)×(Unit))|0,_,_,_,_=>none|N+1,d,c,b,a=>bif decide (a<(b.2.1.length:Int))then Ze (0<=a/\a<b.2.1.length)<|(Zu4 c (b.2.1.getD a.toNat Qk)).bind λe=>Zdd N d e.2.1 b (IntKind.i64.wrap (a+1)) else some ((c,true,()),())
def Zno(a:Zc)(c:Int):Option ((Zc×Bool×Unit)×(Unit)):=(Z9 a).bind λd=>(Zmb a c).bind λb=>(Y4 a).bind λf=>bif(!f.1)||(!b.2.1)then some ((d.1,false,()),()) else (Zov d.1 c).bind λe=>Zdd (Zop Yi e.2.1 b.1 (0:Int)) Yi e.2.1 b.1 (0:Int)
def Zhl(b:Qc)(a n d:Zc)(g:Int)(j:Bool):Option ((Zc×Unit)×(Qc×Unit)):=bif j then (Qo b 20).bind λh=>(Vu a (IntKind.i64.wrap (8+h.1.1))).bind λk=>some ((k.1.2.2.1,()),h.2.1,()) else bif g==8 then (Zwp b).bind λe=>(Zar a e.1.1).bind λi=>bif i.1.2.1==0 then some ((i.1.1,()),e.2.1,()) else some ((d,()),e.2.1,()) else bif g==9 then bif decide ((a.2.2.2.2.2.2.2.2.2.2.2.2.2.2.2.1.length:Int)>(0:Int))then (Qo b (a.2.2.2.2.2.2.2.2.2.2.2.2.2.2.2.1.length:Int)).bind λc=>Ze (0<=c.1.1/\c.1.1<a.2.2.2.2.2.2.2.2.2.2.2.2.2.2.2.1.length)<|(Zbb c.2.1 3).bind λf=>bif f.1.1 then (Zkw a (a.2.2.2.2.2.2.2.2.2.2.2.2.2.2.2.1.getD c.1.1.toNat Q6).1).bind λl=>some ((l.1.1,()),f.2.1,()) else (Zno a (a.2.2.2.2.2.2.2.2.2.2.2.2.2.2.2.1.getD c.1.1.toNat Q6).1).bind λm=>some ((m.1.1,()),f.2.1,()) else some ((d,()),b,()) else some ((d,()),b,())
def Zhk(c:Qc)(b h:Zc)(d:Int)(e:Zc)(a:Int)(m:Bool):Option ((Zc×Unit)×(Qc×Unit)):=bif m then (Zu5 c 8).bind λi=>(Zi5 b d i.1.1).bind λn=>some ((n.2.1,()),i.2.1,()) else bif a==3 then (Zbb c 2).bind λf=>bif f.1.1 then (Zg2 b d).bind λo=>some ((o.1,()),f.2.1,()) else some ((e,()),f.2.1,()) else bif a==4 then (Qo c 6).bind λj=>(Zk0 b d j.1.1).bind λp=>some ((p.1.2.2.1,()),j.2.1,()) else bif a==5 then (Zbb c 3).bind λg=>bif g.1.1 then (Qo g.2.1 3).bind λk=>(Zi3 b d k.1.1).bind λq=>some ((q.1.1,()),k.2.1,()) else (Zu3 g.2.1 ([([117,61,49]:List UInt8),([105]:List UInt8),([117,61,53,44,32,105]:List UInt8)])).bind λl=>(Zi4 b d l.1.1).bind λr=>some ((r.1,()),l.2.1,()) else bif a==6 then Zhl c b h e a (a==6) else Zhl c b h e a (a==7)
def Zhj(f:Qc)(b c:Zc)(d:Int):Option ((Zc×Unit)×(Qc×Unit)):=(Qo f 10).bind λa=>bif a.1.1==0 then (Zbb a.2.1 2).bind λe=>(Zkz b e.1.1).bind λg=>some ((g.2.1,()),e.2.1,()) else bif a.1.1==1 then Zhk a.2.1 b c d b a.1.1 (a.1.1==1) else Zhk a.2.1 b c d b a.1.1 (a.1.1==2)
def Zsl(c:Qc)(a:Zc):Option ((Zc×Unit)×(Qc×Unit)):=bif decide ((a.2.2.2.1.length:Int)>(0:Int))then (Qo c (a.2.2.2.1.length:Int)).bind λb=>Ze (0<=b.1.1/\b.1.1<a.2.2.2.1.length)<|Zhj b.2.1 a Yi (a.2.2.2.1.getD b.1.1.toNat Zj).1 else Zhj c a Yi 0
def Zrs(b:Qc)(c d:Zc)(a:Int):Nat:=(a-0).toNat+1
def Zhh:Nat->Qc->Zc->Zc->Int->Option ((Zc×Unit)×(Qc×Unit))|0,_,_,_,_=>none|N+1,a,e,b,c=>bif decide (c>(0:Int))then (Zsl a b).bind λd=>Zhh N d.2.1 e d.1.1 (IntKind.i64.wrap (c-1)) else some ((b,()),a,())
def Zsk(f:Qc):Option ((Zc×Unit)×(Qc×Unit)):=(Zbb f 2).bind λb=>(Zsj b.2.1).bind λc=>(Zsj c.2.1).bind λd=>(Zsg b.1.1 c.1.1 d.1.1).bind λe=>(Qo d.2.1 12).bind λa=>Zhh (Zrs a.2.1 Yi e.1 (IntKind.i64.wrap ((2:Int)+a.1.1))) a.2.1 Yi e.1 (IntKind.i64.wrap ((2:Int)+a.1.1))
def Zrr(g:Qc):Option ((Zc×Unit)×(Qc×Unit)):=(Zsk g).bind λa=>(Qo a.2.1 20).bind λb=>bif b.1.1==0 then (Zdp b.2.1 ([(-1:Int),3,7,256])).bind λc=>some (((a.1.1.1,a.1.1.2.1,a.1.1.2.2.1,a.1.1.2.2.2.1,a.1.1.2.2.2.2.1,a.1.1.2.2.2.2.2.1,a.1.1.2.2.2.2.2.2.1,a.1.1.2.2.2.2.2.2.2.1,a.1.1.2.2.2.2.2.2.2.2.1,a.1.1.2.2.2.2.2.2.2.2.2.1,a.1.1.2.2.2.2.2.2.2.2.2.2.1,a.1.1.2.2.2.2.2.2.2.2.2.2.2.1,a.1.1.2.2.2.2.2.2.2.2.2.2.2.2.1,a.1.1.2.2.2.2.2.2.2.2.2.2.2.2.2.1,a.1.1.2.2.2.2.2.2.2.2.2.2.2.2.2.2.1,a.1.1.2.2.2.2.2.2.2.2.2.2.2.2.2.2.2.1,a.1.1.2.2.2.2.2.2.2.2.2.2.2.2.2.2.2.2.1,c.1.1,a.1.1.2.2.2.2.2.2.2.2.2.2.2.2.2.2.2.2.2.2),()),c.2.1,()) else bif b.1.1==1 then (Zdp b.2.1 ([(-1:Int),1000000,1000001])).bind λd=>some (((a.1.1.1,a.1.1.2.1,a.1.1.2.2.1,a.1.1.2.2.2.1,a.1.1.2.2.2.2.1,a.1.1.2.2.2.2.2.1,a.1.1.2.2.2.2.2.2.1,a.1.1.2.2.2.2.2.2.2.1,a.1.1.2.2.2.2.2.2.2.2.1,a.1.1.2.2.2.2.2.2.2.2.2.1,a.1.1.2.2.2.2.2.2.2.2.2.2.1,a.1.1.2.2.2.2.2.2.2.2.2.2.2.1,a.1.1.2.2.2.2.2.2.2.2.2.2.2.2.1,a.1.1.2.2.2.2.2.2.2.2.2.2.2.2.2.1,a.1.1.2.2.2.2.2.2.2.2.2.2.2.2.2.2.1,a.1.1.2.2.2.2.2.2.2.2.2.2.2.2.2.2.2.1,d.1.1,a.1.1.2.2.2.2.2.2.2.2.2.2.2.2.2.2.2.2.2),()),d.2.1,()) else bif b.1.1==2 then (Zdp b.2.1 ([(-1:Int),0])).bind λe=>some (((a.1.1.1,a.1.1.2.1,a.1.1.2.2.1,a.1.1.2.2.2.1,(a.1.1.2.2.2.2.1.1,e.1.1,a.1.1.2.2.2.2.1.2.2),a.1.1.2.2.2.2.2),()),e.2.1,()) else bif b.1.1==3 then (Zdp b.2.1 ([0,1000000,1000001])).bind λf=>some (((a.1.1.1,a.1.1.2.1,a.1.1.2.2.1,a.1.1.2.2.2.1,a.1.1.2.2.2.2.1,a.1.1.2.2.2.2.2.1,a.1.1.2.2.2.2.2.2.1,a.1.1.2.2.2.2.2.2.2.1,a.1.1.2.2.2.2.2.2.2.2.1,a.1.1.2.2.2.2.2.2.2.2.2.1,a.1.1.2.2.2.2.2.2.2.2.2.2.1,a.1.1.2.2.2.2.2.2.2.2.2.2.2.1,a.1.1.2.2.2.2.2.2.2.2.2.2.2.2.1,a.1.1.2.2.2.2.2.2.2.2.2.2.2.2.2.1,f.1.1,a.1.1.2.2.2.2.2.2.2.2.2.2.2.2.2.2.2),()),f.2.1,()) else some ((a.1.1,()),b.2.1,())
def Zrv(b:Qc)(c:List UInt8)(a:Int):Nat:=(a-0).toNat+1
def Zpj:Nat->Qc->List UInt8->Int->Option ((List UInt8×Unit)×(Qc×Unit))|0,_,_,_=>none|N+1,b,a,c=>bif decide (c>(0:Int))then (Qo b (256:Int)).bind λd=>(Zd9 d.1.1).bind λe=>Ze (a.length+e.1.length<=Yh)<|Zpj N d.2.1 (a++e.1) (IntKind.i64.wrap (c-1)) else some ((a,()),b,())
def Z0h(b:Qc)(c:Int):Option ((List UInt8×Unit)×(Qc×Unit)):=(Qo b (IntKind.i64.wrap (c+1))).bind λa=>Zpj (Zrv a.2.1 ([]:List UInt8) a.1.1) a.2.1 ([]:List UInt8) a.1.1
def Zp1(b:Qc)(c:List Zf)(a:Int):Nat:=(a-0).toNat+1
def Zn4:Nat->Qc->List Zf->Int->Option ((List Zf×Unit)×(Qc×Unit))|0,_,_,_=>none|N+1,c,a,d=>bif decide (d>(0:Int))then (Zwp c).bind λb=>Ze (a.length+([b.1.1]).length<=Qd)<|Zn4 N b.2.1 (a++([b.1.1])) (IntKind.i64.wrap (d-1)) else some ((a,()),c,())
def Zx7(b:Qc):Option ((List Zf×Unit)×(Qc×Unit)):=(Qo b 5).bind λa=>Zn4 (Zp1 a.2.1 ([]:List Zf) a.1.1) a.2.1 ([]:List Zf) a.1.1
def Zrq(K1:(Qc×List Int×Int×Int×Unit)->Option ((List UInt8×Unit)×(Qc×Unit)))(c:Qc)(a:List Int)(d e b:Int):Option ((List UInt8×Unit)×(Qc×Unit)):=Ze (a.length+([(IntKind.u8.wrap b)]).length<=Qd)<|K1 (c,a++([(IntKind.u8.wrap b)]),d,IntKind.i64.wrap (e-1),())
def Zrp(K1:(Qc×List Int×Int×Int×Unit)->Option ((List UInt8×Unit)×(Qc×Unit)))(b:Qc)(c:List Int)(a d e:Int):Option ((List UInt8×Unit)×(Qc×Unit)):=bif a==2 then Ze ((4:Int)≠0)<|Zrq K1 b c a d (IntKind.i64.wrap (97+(Int.tmod e (4:Int)))) else Zrq K1 b c a d e
def Zs0(b:Qc)(c:List Int)(d a:Int):Nat:=(a-0).toNat+1
def Zgl:Nat->Qc->List Int->Int->Int->Option ((List UInt8×Unit)×(Qc×Unit))|0,_,_,_,_=>none|N+1,e,b,c,d=>bif decide (d>(0:Int))then (Zae e).bind λa=>bif c==1 then Ze ((2:Int)≠0)<|Zrp (λv=>Zgl N v.1 v.2.1 v.2.2.1 v.2.2.2.1) a.2.1 b c d (Int.tmod a.1.1 (2:Int)) else Zrp (λv=>Zgl N v.1 v.2.1 v.2.2.1 v.2.2.2.1) a.2.1 b c d a.1.1 else some ((Qj b,()),e,())
def Z3a(c:Qc)(d:Int):Option ((List UInt8×Unit)×(Qc×Unit)):=(Qo c 4).bind λb=>(Qo b.2.1 (IntKind.i64.wrap (d+1))).bind λa=>Zgl (Zs0 a.2.1 ([]:List Int) b.1.1 a.1.1) a.2.1 ([]:List Int) b.1.1 a.1.1
def Z0f(p:Qc)(a:List UInt8):Option ((List UInt8×Unit)×(Qc×Unit)):=
 bif(a.length:Int)==(0:Int)then
  (Z3a p 3).bind λq=>
  some ((q.1.1,()),q.2.1,())
 else
  (Qo p (a.length:Int)).bind λb=>
  (Qo b.2.1 4).bind λl=>
  bif l.1.1==0 then
   Zfs (
    Ze (0<=(0:Int)/\0<=b.1.1/\b.1.1<=a.length)<|
    let m:=(a.drop (0:Int).toNat).take (b.1.1.toNat- (0:Int).toNat)
    Ze (0<=(IntKind.i64.wrap (b.1.1+1))/\(IntKind.i64.wrap (b.1.1+1))<=(a.length:Int)/\(a.length:Int)<=a.length)<|
    let n:=(a.drop (IntKind.i64.wrap (b.1.1+1)).toNat).take ((a.length:Int).toNat- (IntKind.i64.wrap (b.1.1+1)).toNat)
    Ze (m.length+n.length<=Yh)<|
    some ((m++n,()),l.2.1,())
   ) (
    Ze (0<=(IntKind.i64.wrap (b.1.1+1))/\(IntKind.i64.wrap (b.1.1+1))<=(a.length:Int)/\(a.length:Int)<=a.length)<|
    let n:=(a.drop (IntKind.i64.wrap (b.1.1+1)).toNat).take ((a.length:Int).toNat- (IntKind.i64.wrap (b.1.1+1)).toNat)
    Ze (0<=(0:Int)/\0<=b.1.1/\b.1.1<=a.length)<|
    let m:=(a.drop (0:Int).toNat).take (b.1.1.toNat- (0:Int).toNat)
    Ze (m.length+n.length<=Yh)<|
    some ((m++n,()),l.2.1,())
   )
  else
   bif l.1.1==1 then
    Zfs (
     Ze (0<=(0:Int)/\0<=b.1.1/\b.1.1<=a.length)<|
     let h:=(a.drop (0:Int).toNat).take (b.1.1.toNat- (0:Int).toNat)
     Zfs (
      (Zae l.2.1).bind λc=>
      Zfs (
       Ze (h.length+(Qj ([(IntKind.u8.wrap c.1.1)])).length<=Yh)<|
       let d:=h++(Qj ([(IntKind.u8.wrap c.1.1)]))
       Ze (0<=b.1.1/\b.1.1<=(a.length:Int)/\(a.length:Int)<=a.length)<|
       let f:=(a.drop b.1.1.toNat).take ((a.length:Int).toNat-b.1.1.toNat)
       Ze (d.length+f.length<=Yh)<|
       some ((d++f,()),c.2.1,())
      ) (
       Ze (0<=b.1.1/\b.1.1<=(a.length:Int)/\(a.length:Int)<=a.length)<|
       let f:=(a.drop b.1.1.toNat).take ((a.length:Int).toNat-b.1.1.toNat)
       Ze (h.length+(Qj ([(IntKind.u8.wrap c.1.1)])).length<=Yh)<|
       let d:=h++(Qj ([(IntKind.u8.wrap c.1.1)]))
       Ze (d.length+f.length<=Yh)<|
       some ((d++f,()),c.2.1,())
      )
     ) (
      Ze (0<=b.1.1/\b.1.1<=(a.length:Int)/\(a.length:Int)<=a.length)<|
      let f:=(a.drop b.1.1.toNat).take ((a.length:Int).toNat-b.1.1.toNat)
      (Zae l.2.1).bind λc=>
      Ze (h.length+(Qj ([(IntKind.u8.wrap c.1.1)])).length<=Yh)<|
      let d:=h++(Qj ([(IntKind.u8.wrap c.1.1)]))
      Ze (d.length+f.length<=Yh)<|
      some ((d++f,()),c.2.1,())
     )
    ) (
    Zfs (
     (Zae l.2.1).bind λc=>
     Zfs (
      Ze (0<=(0:Int)/\0<=b.1.1/\b.1.1<=a.length)<|
      let h:=(a.drop (0:Int).toNat).take (b.1.1.toNat- (0:Int).toNat)
      Zfs (
       Ze (h.length+(Qj ([(IntKind.u8.wrap c.1.1)])).length<=Yh)<|
       let d:=h++(Qj ([(IntKind.u8.wrap c.1.1)]))
       Ze (0<=b.1.1/\b.1.1<=(a.length:Int)/\(a.length:Int)<=a.length)<|
       let f:=(a.drop b.1.1.toNat).take ((a.length:Int).toNat-b.1.1.toNat)
       Ze (d.length+f.length<=Yh)<|
       some ((d++f,()),c.2.1,())
      ) (
       Ze (0<=b.1.1/\b.1.1<=(a.length:Int)/\(a.length:Int)<=a.length)<|
       let f:=(a.drop b.1.1.toNat).take ((a.length:Int).toNat-b.1.1.toNat)
       Ze (h.length+(Qj ([(IntKind.u8.wrap c.1.1)])).length<=Yh)<|
       let d:=h++(Qj ([(IntKind.u8.wrap c.1.1)]))
       Ze (d.length+f.length<=Yh)<|
       some ((d++f,()),c.2.1,())
      )
     ) (
     Zfs (
      Zfs (
       Ze (0<=(0:Int)/\0<=b.1.1/\b.1.1<=a.length)<|
       let h:=(a.drop (0:Int).toNat).take (b.1.1.toNat- (0:Int).toNat)
       Ze (h.length+(Qj ([(IntKind.u8.wrap c.1.1)])).length<=Yh)<|
       let d:=h++(Qj ([(IntKind.u8.wrap c.1.1)]))
       Ze (0<=b.1.1/\b.1.1<=(a.length:Int)/\(a.length:Int)<=a.length)<|
       let f:=(a.drop b.1.1.toNat).take ((a.length:Int).toNat-b.1.1.toNat)
       Ze (d.length+f.length<=Yh)<|
       some ((d++f,()),c.2.1,())
      ) (
       Ze (0<=b.1.1/\b.1.1<=(a.length:Int)/\(a.length:Int)<=a.length)<|
       let f:=(a.drop b.1.1.toNat).take ((a.length:Int).toNat-b.1.1.toNat)
       Ze (0<=(0:Int)/\0<=b.1.1/\b.1.1<=a.length)<|
       let h:=(a.drop (0:Int).toNat).take (b.1.1.toNat- (0:Int).toNat)
       Ze (h.length+(Qj ([(IntKind.u8.wrap c.1.1)])).length<=Yh)<|
       let d:=h++(Qj ([(IntKind.u8.wrap c.1.1)]))
       Ze (d.length+f.length<=Yh)<|
       some ((d++f,()),c.2.1,())
      )
     ) (
      Ze (0<=b.1.1/\b.1.1<=(a.length:Int)/\(a.length:Int)<=a.length)<|
      let f:=(a.drop b.1.1.toNat).take ((a.length:Int).toNat-b.1.1.toNat)
      Zid 1 (
       Ze (0<=(0:Int)/\0<=b.1.1/\b.1.1<=a.length)<|
       let h:=(a.drop (0:Int).toNat).take (b.1.1.toNat- (0:Int).toNat)
       Ze (h.length+(Qj ([(IntKind.u8.wrap c.1.1)])).length<=Yh)<|
       let d:=h++(Qj ([(IntKind.u8.wrap c.1.1)]))
       Ze (d.length+f.length<=Yh)<|
       some ((d++f,()),c.2.1,())
      )
     )
     )
    ) (
     Ze (0<=b.1.1/\b.1.1<=(a.length:Int)/\(a.length:Int)<=a.length)<|
     let f:=(a.drop b.1.1.toNat).take ((a.length:Int).toNat-b.1.1.toNat)
     Zfs (
      Ze (0<=(0:Int)/\0<=b.1.1/\b.1.1<=a.length)<|
      let h:=(a.drop (0:Int).toNat).take (b.1.1.toNat- (0:Int).toNat)
      (Zae l.2.1).bind λc=>
      Ze (h.length+(Qj ([(IntKind.u8.wrap c.1.1)])).length<=Yh)<|
      let d:=h++(Qj ([(IntKind.u8.wrap c.1.1)]))
      Ze (d.length+f.length<=Yh)<|
      some ((d++f,()),c.2.1,())
     ) (
      (Zae l.2.1).bind λc=>
      Zid 1 (
       Ze (0<=(0:Int)/\0<=b.1.1/\b.1.1<=a.length)<|
       let h:=(a.drop (0:Int).toNat).take (b.1.1.toNat- (0:Int).toNat)
       Ze (h.length+(Qj ([(IntKind.u8.wrap c.1.1)])).length<=Yh)<|
       let d:=h++(Qj ([(IntKind.u8.wrap c.1.1)]))
       Ze (d.length+f.length<=Yh)<|
       some ((d++f,()),c.2.1,())
      )
     )
    )
    )
   else
    bif l.1.1==2 then
     Ze (0<=(0:Int)/\0<=b.1.1/\b.1.1<=a.length)<|
     some (((a.drop (0:Int).toNat).take (b.1.1.toNat- (0:Int).toNat),()),l.2.1,())
    else
     Ze (0<=b.1.1/\b.1.1<a.length)<|
     let o:=IntKind.i64.wrap ((a.getD b.1.1.toNat 0).toNat:Int)
     Zfs (
      Ze (0<=(0:Int)/\0<=b.1.1/\b.1.1<=a.length)<|
      let i:=(a.drop (0:Int).toNat).take (b.1.1.toNat- (0:Int).toNat)
      Zfs (
       (Qo l.2.1 255).bind λk=>
       let j:=bits .xor .i64 o (IntKind.i64.wrap (1+k.1.1))
       Zfs (
        Ze (i.length+(Qj ([(IntKind.u8.wrap j)])).length<=Yh)<|
        let e:=i++(Qj ([(IntKind.u8.wrap j)]))
        Ze (0<=(IntKind.i64.wrap (b.1.1+1))/\(IntKind.i64.wrap (b.1.1+1))<=(a.length:Int)/\(a.length:Int)<=a.length)<|
        let g:=(a.drop (IntKind.i64.wrap (b.1.1+1)).toNat).take ((a.length:Int).toNat- (IntKind.i64.wrap (b.1.1+1)).toNat)
        Ze (e.length+g.length<=Yh)<|
        some ((e++g,()),k.2.1,())
       ) (
        Ze (0<=(IntKind.i64.wrap (b.1.1+1))/\(IntKind.i64.wrap (b.1.1+1))<=(a.length:Int)/\(a.length:Int)<=a.length)<|
        let g:=(a.drop (IntKind.i64.wrap (b.1.1+1)).toNat).take ((a.length:Int).toNat- (IntKind.i64.wrap (b.1.1+1)).toNat)
        Ze (i.length+(Qj ([(IntKind.u8.wrap j)])).length<=Yh)<|
        let e:=i++(Qj ([(IntKind.u8.wrap j)]))
        Ze (e.length+g.length<=Yh)<|
        some ((e++g,()),k.2.1,())
       )
      ) (
       Ze (0<=(IntKind.i64.wrap (b.1.1+1))/\(IntKind.i64.wrap (b.1.1+1))<=(a.length:Int)/\(a.length:Int)<=a.length)<|
       let g:=(a.drop (IntKind.i64.wrap (b.1.1+1)).toNat).take ((a.length:Int).toNat- (IntKind.i64.wrap (b.1.1+1)).toNat)
       (Qo l.2.1 255).bind λk=>
       let j:=bits .xor .i64 o (IntKind.i64.wrap (1+k.1.1))
       Ze (i.length+(Qj ([(IntKind.u8.wrap j)])).length<=Yh)<|
       let e:=i++(Qj ([(IntKind.u8.wrap j)]))
       Ze (e.length+g.length<=Yh)<|
       some ((e++g,()),k.2.1,())
      )
     ) (
     Zfs (
      (Qo l.2.1 255).bind λk=>
      let j:=bits .xor .i64 o (IntKind.i64.wrap (1+k.1.1))
      Zfs (
       Ze (0<=(0:Int)/\0<=b.1.1/\b.1.1<=a.length)<|
       let i:=(a.drop (0:Int).toNat).take (b.1.1.toNat- (0:Int).toNat)
       Zfs (
        Ze (i.length+(Qj ([(IntKind.u8.wrap j)])).length<=Yh)<|
        let e:=i++(Qj ([(IntKind.u8.wrap j)]))
        Ze (0<=(IntKind.i64.wrap (b.1.1+1))/\(IntKind.i64.wrap (b.1.1+1))<=(a.length:Int)/\(a.length:Int)<=a.length)<|
        let g:=(a.drop (IntKind.i64.wrap (b.1.1+1)).toNat).take ((a.length:Int).toNat- (IntKind.i64.wrap (b.1.1+1)).toNat)
        Ze (e.length+g.length<=Yh)<|
        some ((e++g,()),k.2.1,())
       ) (
        Ze (0<=(IntKind.i64.wrap (b.1.1+1))/\(IntKind.i64.wrap (b.1.1+1))<=(a.length:Int)/\(a.length:Int)<=a.length)<|
        let g:=(a.drop (IntKind.i64.wrap (b.1.1+1)).toNat).take ((a.length:Int).toNat- (IntKind.i64.wrap (b.1.1+1)).toNat)
        Ze (i.length+(Qj ([(IntKind.u8.wrap j)])).length<=Yh)<|
        let e:=i++(Qj ([(IntKind.u8.wrap j)]))
        Ze (e.length+g.length<=Yh)<|
        some ((e++g,()),k.2.1,())
       )
      ) (
      Zfs (
       Zfs (
        Ze (0<=(0:Int)/\0<=b.1.1/\b.1.1<=a.length)<|
        let i:=(a.drop (0:Int).toNat).take (b.1.1.toNat- (0:Int).toNat)
        Ze (i.length+(Qj ([(IntKind.u8.wrap j)])).length<=Yh)<|
        let e:=i++(Qj ([(IntKind.u8.wrap j)]))
        Ze (0<=(IntKind.i64.wrap (b.1.1+1))/\(IntKind.i64.wrap (b.1.1+1))<=(a.length:Int)/\(a.length:Int)<=a.length)<|
        let g:=(a.drop (IntKind.i64.wrap (b.1.1+1)).toNat).take ((a.length:Int).toNat- (IntKind.i64.wrap (b.1.1+1)).toNat)
        Ze (e.length+g.length<=Yh)<|
        some ((e++g,()),k.2.1,())
       ) (
        Ze (0<=(IntKind.i64.wrap (b.1.1+1))/\(IntKind.i64.wrap (b.1.1+1))<=(a.length:Int)/\(a.length:Int)<=a.length)<|
        let g:=(a.drop (IntKind.i64.wrap (b.1.1+1)).toNat).take ((a.length:Int).toNat- (IntKind.i64.wrap (b.1.1+1)).toNat)
        Ze (0<=(0:Int)/\0<=b.1.1/\b.1.1<=a.length)<|
        let i:=(a.drop (0:Int).toNat).take (b.1.1.toNat- (0:Int).toNat)
        Ze (i.length+(Qj ([(IntKind.u8.wrap j)])).length<=Yh)<|
        let e:=i++(Qj ([(IntKind.u8.wrap j)]))
        Ze (e.length+g.length<=Yh)<|
        some ((e++g,()),k.2.1,())
       )
      ) (
       Ze (0<=(IntKind.i64.wrap (b.1.1+1))/\(IntKind.i64.wrap (b.1.1+1))<=(a.length:Int)/\(a.length:Int)<=a.length)<|
       let g:=(a.drop (IntKind.i64.wrap (b.1.1+1)).toNat).take ((a.length:Int).toNat- (IntKind.i64.wrap (b.1.1+1)).toNat)
       Zid 1 (
        Ze (0<=(0:Int)/\0<=b.1.1/\b.1.1<=a.length)<|
        let i:=(a.drop (0:Int).toNat).take (b.1.1.toNat- (0:Int).toNat)
        Ze (i.length+(Qj ([(IntKind.u8.wrap j)])).length<=Yh)<|
        let e:=i++(Qj ([(IntKind.u8.wrap j)]))
        Ze (e.length+g.length<=Yh)<|
        some ((e++g,()),k.2.1,())
       )
      )
      )
     ) (
      Ze (0<=(IntKind.i64.wrap (b.1.1+1))/\(IntKind.i64.wrap (b.1.1+1))<=(a.length:Int)/\(a.length:Int)<=a.length)<|
      let g:=(a.drop (IntKind.i64.wrap (b.1.1+1)).toNat).take ((a.length:Int).toNat- (IntKind.i64.wrap (b.1.1+1)).toNat)
      Zfs (
       Ze (0<=(0:Int)/\0<=b.1.1/\b.1.1<=a.length)<|
       let i:=(a.drop (0:Int).toNat).take (b.1.1.toNat- (0:Int).toNat)
       (Qo l.2.1 255).bind λk=>
       let j:=bits .xor .i64 o (IntKind.i64.wrap (1+k.1.1))
       Ze (i.length+(Qj ([(IntKind.u8.wrap j)])).length<=Yh)<|
       let e:=i++(Qj ([(IntKind.u8.wrap j)]))
       Ze (e.length+g.length<=Yh)<|
       some ((e++g,()),k.2.1,())
      ) (
       (Qo l.2.1 255).bind λk=>
       let j:=bits .xor .i64 o (IntKind.i64.wrap (1+k.1.1))
       Zid 1 (
        Ze (0<=(0:Int)/\0<=b.1.1/\b.1.1<=a.length)<|
        let i:=(a.drop (0:Int).toNat).take (b.1.1.toNat- (0:Int).toNat)
        Ze (i.length+(Qj ([(IntKind.u8.wrap j)])).length<=Yh)<|
        let e:=i++(Qj ([(IntKind.u8.wrap j)]))
        Ze (e.length+g.length<=Yh)<|
        some ((e++g,()),k.2.1,())
       )
      )
     )
     )
def Zt0(g:Qc):Option ((List UInt8×Unit)×(Qc×Unit)):=(Zbb g 4).bind λa=>bif a.1.1 then (Z0h a.2.1 9).bind λc=>some ((c.1.1,()),c.2.1,()) else (Zx7 a.2.1).bind λd=>(Zjo d.1.1).bind λe=>(Zbb d.2.1 6).bind λb=>bif b.1.1 then (Z0f b.2.1 e.1).bind λf=>some ((f.1.1,()),f.2.1,()) else some ((e.1,()),b.2.1,())
def Zru(b c:Zc)(d:List (List UInt8))(a:Int)(e:Qc):Nat:=(a-0).toNat+1
def Zpi:Nat->Zc->Zc->List (List UInt8)->Int->Qc->Option ((Zc×List (List UInt8)×Unit)×(Unit))|0,_,_,_,_,_=>none|N+1,e,c,a,d,f=>bif decide (d>(0:Int))then (Zt0 f).bind λb=>Ze (a.length+([b.1.1]).length<=Qd)<|Zpi N e c (a++([b.1.1])) (IntKind.i64.wrap (d-1)) b.2.1 else some ((c,a,()),())
def Z0g(c:List Int):Option ((Zc×List (List UInt8)×Unit)×(Unit)):=(Zuk c).bind λd=>(Zrr d.1).bind λb=>(Qo b.2.1 5).bind λa=>Zpi (Zru Yi b.1.1 ([]:List (List UInt8)) a.1.1 a.2.1) Yi b.1.1 ([]:List (List UInt8)) a.1.1 a.2.1
def Zj3(b:List Int):Option ((Zc×List (List UInt8)×Unit)×(Unit)):=(Z0g b).bind λa=>some ((a.1.1,a.1.2.1,()),())
def Z3n(a:Xu):Option (Xu×Unit):=Ze (([]:List Int).length+a.2.2.2.1.length<=Qd)<|some ((a.1,a.2.1,a.2.2.1,[]++a.2.2.2.1,a.2.2.2.2),())
def Zaj(a:List Zi):Option (List Zi×Unit):=Ze (([]:List Zi).length+a.length<=Qd)<|some ([]++a,())
def Zkl(a:Zp):Option (Zp×Unit):=(Z3n a.2.1).bind λb=>(Zaj a.2.2.1).bind λc=>(Zaj a.2.2.2.1).bind λd=>(Zaj a.2.2.2.2.1).bind λe=>some ((a.1,b.1,c.1,d.1,e.1,a.2.2.2.2.2),())
def Zkk(a:Zv):Option (Zv×Unit):=Ze (([]:List Z6).length+a.2.1.length<=Qd)<|some ((a.1,[]++a.2.1,()),())
def Zda(a:Zx):Option (Zx×Unit):=(Zkk a.2.1).bind λb=>some ((a.1,b.1,a.2.2),())
def Zkm(a:Zg):Option (Zg×Unit):=(Zkl a.2.1).bind λb=>(Zda a.2.2.2.1).bind λc=>some ((a.1,b.1,a.2.2.1,c.1,a.2.2.2.2),())
def Vx(c d:List Zg)(a b:Int):Nat:=(a-b).toNat+1
def Zhw:Nat->List Zg->List Zg->Int->Int->Option (List Zg×Unit)|0,_,_,_,_=>none|N+1,b,c,d,a=>bif decide (a<d)then Ze (0<=a/\a<c.length)<|(Zkm (c.getD a.toNat Zj)).bind λe=>Ze (b.length+([e.1]).length<=Qd)<|Zhw N (b++([e.1])) c d (IntKind.i64.wrap (a+1)) else some (b,())
def Zcf(a:List Zg):Option (List Zg×Unit):=Zhw (Vx ([]:List Zg) a (a.length:Int) (0:Int)) ([]:List Zg) a (a.length:Int) (0:Int)
def Zfv(c d:List Qb)(a b:Int):Nat:=(a-b).toNat+1
def Zhv:Nat->List Qb->List Qb->Int->Int->Option (List Qb×Unit)
 |0,_,_,_,_=>none
 |N+1,c,b,d,a=>
  bif decide (a<d)then
   Ze (0<=a/\a<b.length)<|
   Ze (([]:List Zf).length+(b.getD a.toNat Q6).2.1.length<=Qd)<|
   let e:List Qb:=[((b.getD a.toNat Q6).1,([]:List Zf)++(b.getD a.toNat Q6).2.1,())]
   Ze (c.length+e.length<=Qd)<|
   Zhv N (c++e) b d (IntKind.i64.wrap (a+1))
  else
   some (c,())
def Zw6(a:List Qb):Option (List Qb×Unit):=Zhv (Zfv ([]:List Qb) a (a.length:Int) (0:Int)) ([]:List Qb) a (a.length:Int) (0:Int)
def Qf(a:Zc):Option (Zc×Unit):=(Zcf a.2.2.2.1).bind λb=>(Zw6 a.2.2.2.2.2.2.2.2.2.2.2.2.2.2.2.1).bind λc=>some ((a.1,a.2.1,a.2.2.1,b.1,a.2.2.2.2.1,a.2.2.2.2.2.1,a.2.2.2.2.2.2.1,a.2.2.2.2.2.2.2.1,a.2.2.2.2.2.2.2.2.1,a.2.2.2.2.2.2.2.2.2.1,a.2.2.2.2.2.2.2.2.2.2.1,a.2.2.2.2.2.2.2.2.2.2.2.1,a.2.2.2.2.2.2.2.2.2.2.2.2.1,a.2.2.2.2.2.2.2.2.2.2.2.2.2.1,a.2.2.2.2.2.2.2.2.2.2.2.2.2.2.1,c.1,a.2.2.2.2.2.2.2.2.2.2.2.2.2.2.2.2),())
def Z0(a b c:Int):Option (Bool×Unit):=some ((decide (b<=a))&&(decide (a<=c)),())
def Zkn(a:Int):Option (Bool×Unit):=(Z0 a 1 64).bind λb=>some (b.1&&((bits .and .i64 a (IntKind.i64.wrap (a-1)))==0),())
def Zqy(a:Zic):Option (Bool×Unit):=
 (Zkn a.1).bind λb=>
 (bif b.1 then(Z0 a.2.2.1 1 4096)else some (false,())).bind λd=>
 (bif(b.1&&d.1)then(Z0 a.2.2.2.2.1 1 4096)else some (false,())).bind λf=>
 (bif((b.1&&d.1)&&f.1)then(Z0 a.2.1 1 a.2.2.1)else some (false,())).bind λi=>
 let c:=((b.1&&d.1)&&f.1)&&i.1
 (bif c then(Z0 a.2.2.2.1 1 a.2.2.2.2.1)else some (false,())).bind λe=>
 (bif(c&&e.1)then(Z0 a.2.2.2.2.2.1 0 1000)else some (false,())).bind λg=>
 (bif((c&&e.1)&&g.1)then(Z0 a.2.2.2.2.2.2.1 0 1000)else some (false,())).bind λj=>
 let h:=((c&&e.1)&&g.1)&&j.1
 (bif h then(Z0 a.2.2.2.2.2.2.2.1 1 1000)else some (false,())).bind λk=>
 some (h&&k.1,())
def Xg(a:Int):Option (Bool×Unit):=(Z0 a 0 4611686018427387903).bind λb=>some (b.1,())
def Z3m(a:Int):Option (Bool×Unit):=(Z0 a 0 255).bind λb=>some (!b.1,())
def Yf(c:List Int)(d:Unit)(a b:Int):Nat:=(a-b).toNat+1
def X6:Nat->List Int->Unit->Int->Int->Option (Int×Unit)|0,_,_,_,_=>none|N+1,b,e,c,a=>bif decide (a<c)then Ze (0<=a/\a<b.length)<|(Z3m (b.getD a.toNat (0:Int))).bind λd=>bif d.1 then some (a,()) else X6 N b () c (IntKind.i64.wrap (a+1)) else some ((-1:Int),())
def Wx(a:List Int):Option (Int×Unit):=X6 (Yf a () (a.length:Int) (0:Int)) a () (a.length:Int) (0:Int)
def Vt(a:List Int):Option (Bool×Unit):=(Wx a).bind λb=>some (decide (b.1>=0),())
def Zur(a:Xu):Option (Bool×Unit):=
 (Zkn a.1).bind λd=>
 let b:=(!d.1)||((a.2.2.2.1.length:Int) !=a.1)
 (bif b then some (false,())else(Vt a.2.2.2.1)).bind λe=>
 bif b||e.1 then
  some (false,())
 else
  (Xg a.2.1).bind λc=>
  (bif c.1 then(Z0 a.2.2.1 a.2.1 (min (IntKind.i64.wrap (a.2.1+a.1)) 4611686018427387903))else some (false,())).bind λf=>
  some (c.1&&f.1,())
def Zv0(a:Zi):Option (Bool×Unit):=some (((decide (a.1>=0))&&(decide (a.1<a.2.1)))&&(decide (a.2.1<=4611686018427387903)),())
def Zpt(c d:List Zi)(a b:Int):Nat:=(a-b).toNat+1
def Zm9:Nat->List Zi->List Zi->Int->Int->Option (Bool×Unit)|0,_,_,_,_=>none|N+1,c,b,d,a=>bif decide (a<d)then Ze (0<=a/\a<b.length)<|(Zv0 (b.getD a.toNat Zz)).bind λe=>Ze (((!e.1)=false->((decide (a>(0:Int)))=true->(0<=(IntKind.i64.wrap (a-1))/\(IntKind.i64.wrap (a-1))<c.length))))<|bif(!e.1)||((decide (a>(0:Int)))&&(decide ((b.getD a.toNat Zz).1<=(c.getD (IntKind.i64.wrap (a-1)).toNat Zz).2.1)))then some (false,()) else Zm9 N c b d (IntKind.i64.wrap (a+1)) else some (true,())
def Zai(a:List Zi):Option (Bool×Unit):=Zm9 (Zpt a a (a.length:Int) (0:Int)) a a (a.length:Int) (0:Int)
def Zkc(c:Int)(d:List Zi)(a b:Int):Nat:=(a-b).toNat+1
def Zf5:Nat->Int->List Zi->Int->Int->Option (Int×Unit)|0,_,_,_,_=>none|N+1,c,b,d,a=>bif decide (a<d)then Ze (0<=a/\a<b.length)<|Zf5 N (IntKind.i64.wrap (c+(IntKind.i64.wrap ((b.getD a.toNat Zz).2.1- (b.getD a.toNat Zz).1)))) b d (IntKind.i64.wrap (a+1)) else some (c,())
def Zc9(a:List Zi):Option (Int×Unit):=(Zai a).bind λb=>bif !b.1 then some ((-1:Int),()) else Zf5 (Zkc (0:Int) a (a.length:Int) (0:Int)) (0:Int) a (a.length:Int) (0:Int)
def Zm3(K1:(Zi×List Zi×Bool×List Zi×Int×Int×Unit)->Option (List Zi×Unit))(c:Zi)(a:List Zi)(d:Bool)(b:Zi)(e:List Zi)(f g:Int):Option (List Zi×Unit):=Ze (a.length+([b]).length<=Qd)<|K1 (c,a++([b]),d,e,f,IntKind.i64.wrap (g+1),())
def Zjx(c:Zi)(d:List Zi)(e:Bool)(f:List Zi)(a b:Int):Nat:=(a-b).toNat+1
def Kv:Nat->Zi->List Zi->Bool->List Zi->Int->Int->Option (List Zi×Unit)|0,_,_,_,_,_,_=>none|N+1,c,d,e,b,f,a=>bif decide (a<f)then Ze (0<=a/\a<b.length)<|bif decide ((b.getD a.toNat Zz).2.1<c.1)then Ze (d.length+([(b.getD a.toNat Zz)]).length<=Qd)<|Kv N c (d++([(b.getD a.toNat Zz)])) e b f (IntKind.i64.wrap (a+1)) else bif decide ((b.getD a.toNat Zz).1>c.2.1)then bif !e then Ze (d.length+([c]).length<=Qd)<|Zm3 (λv=>Kv N v.1 v.2.1 v.2.2.1 v.2.2.2.1 v.2.2.2.2.1 v.2.2.2.2.2.1) c (d++([c])) true (b.getD a.toNat Zz) b f a else Zm3 (λv=>Kv N v.1 v.2.1 v.2.2.1 v.2.2.2.1 v.2.2.2.2.1 v.2.2.2.2.2.1) c d e (b.getD a.toNat Zz) b f a else Kv N (min c.1 (b.getD a.toNat Zz).1,max c.2.1 (b.getD a.toNat Zz).2.1,()) d e b f (IntKind.i64.wrap (a+1)) else bif !e then Ze (d.length+([c]).length<=Qd)<|some (d++([c]),()) else some (d,())
def Zs4(a:List Zi)(b:Zi):Option (List Zi×Unit):=(Zai a).bind λc=>(bif(!c.1)then some (false,())else(Zv0 b)).bind λd=>bif(!c.1)||(!d.1)then (Zaj a).bind λe=>some (e.1,()) else Kv (Zjx b ([]:List Zi) false a (a.length:Int) (0:Int)) b ([]:List Zi) false a (a.length:Int) (0:Int)
def Zha(a:List Zi)(c:Int):Option (Bool×Unit):=
 let b:=IntKind.i64.wrap ((a.length:Int)-1)
 Ze (((decide ((a.length:Int)>(0:Int)))=true->(0<=b/\b<a.length)))<|
 some ((decide ((a.length:Int)>(0:Int)))&&(decide ((a.getD b.toNat Zz).2.1>c)),())
def Zj1(c:Int)(d e:List Zi)(a b:Int):Nat:=(a-b).toNat+1
def Zne:Nat->Int->List Zi->List Zi->Int->Int->Option (Bool×Unit)|0,_,_,_,_,_=>none|N+1,b,c,d,e,a=>bif decide (a<e)then Ze (0<=a/\a<d.length)<|(Zs4 c (d.getD a.toNat Zz)).bind λg=>Zne N b g.1 d e (IntKind.i64.wrap (a+1)) else (Zc9 c).bind λf=>(bif(f.1==b)then(Zha c b)else some (false,())).bind λh=>some ((f.1==b)&&(!h.1),())
def Zxt(d e a:List Zi)(c:Int):Option (Bool×Unit):=(Zc9 d).bind λg=>(Zc9 e).bind λh=>(Zc9 a).bind λi=>bif(IntKind.i64.wrap ((IntKind.i64.wrap (g.1+h.1))+i.1)) !=c then some (false,()) else (Zaj d).bind λf=>(Zaj e).bind λb=>Ze (b.1.length+a.length<=Qd)<|Zne (Zj1 c f.1 (b.1++a) ((b.1++a).length:Int) (0:Int)) c f.1 (b.1++a) ((b.1++a).length:Int) (0:Int)
def Zps(c:Int)(d:List Zi)(a b:Int):Nat:=(a-b).toNat+1
def Zir:Nat->Int->List Zi->Int->Int->Option (Int×Unit)|0,_,_,_,_=>none|N+1,c,b,d,a=>bif decide (a<d)then Ze (0<=a/\a<b.length)<|bif(decide ((b.getD a.toNat Zz).1<=c))&&(decide (c<(b.getD a.toNat Zz).2.1))then Zir N (b.getD a.toNat Zz).2.1 b d (IntKind.i64.wrap (a+1)) else Zir N c b d (IntKind.i64.wrap (a+1)) else some (c,())
def Zxp(a:List Zi)(b:Int):Option (Int×Unit):=(Zai a).bind λc=>bif(!c.1)||(decide (b<0))then some ((-1:Int),()) else Zir (Zps b a (a.length:Int) (0:Int)) b a (a.length:Int) (0:Int)
def Zq1(a:Zp):Option (Int×Unit):=bif(a.2.2.2.2.2.2.1==3)&&(a.2.1.2.1==a.2.1.2.2.1)then some (3,()) else bif((a.2.2.2.2.2.2.1==2)||(a.2.2.2.2.2.2.1==3))||((a.2.2.2.2.2.2.1==1)&&(a.1==2))then some (2,()) else bif(decide (a.2.2.2.2.2.2.2.1>0))||((a.2.2.2.2.2.2.1==1)&&(a.1==1))then some (1,()) else some (0,())
def Zna(a:Zp)(f:Int):Option (Bool×Unit):=
 (Zxt a.2.2.1 a.2.2.2.1 a.2.2.2.2.1 a.2.1.2.2.1).bind λb=>
 (bif b.1 then(Zxp a.2.2.2.2.1 0)else some (0,())).bind λc=>
 (bif(b.1&&(c.1==a.2.1.2.1))then(Zha a.2.2.2.1 a.2.2.2.2.2.2.2.1)else some (false,())).bind λg=>
 let d:=(b.1&&(c.1==a.2.1.2.1))&&(!g.1)
 (bif d then(Zha a.2.2.2.2.1 a.2.2.2.2.2.2.2.1)else some (false,())).bind λh=>
 let e:=((d&&(!h.1))&&(a.2.2.2.2.2.2.2.2.1==0))&&(a.2.2.2.2.2.1==f)
 (bif e then(Zq1 a)else some (0,())).bind λi=>
 some (e&&(a.1==i.1),())
def Zs5(a:Zp):Option (Bool×Unit):=
 (Zur a.2.1).bind λb=>
 (bif(!b.1)then some (false,())else(Zai a.2.2.1)).bind λe=>
 (bif((!b.1)||(!e.1))then some (false,())else(Zai a.2.2.2.1)).bind λh=>
 let c:=((!b.1)||(!e.1))||(!h.1)
 (bif c then some (false,())else(Zai a.2.2.2.2.1)).bind λf=>
 (bif(c||(!f.1))then some (false,())else(Z0 a.2.2.2.2.2.2.2.1 0 a.2.1.2.2.1)).bind λi=>
 let d:=(c||(!f.1))||(!i.1)
 (bif d then some (false,())else(Xg a.2.2.2.2.2.2.2.2.1)).bind λg=>
 (bif(d||(!g.1))then some (false,())else(Z0 a.2.2.2.2.2.2.1 0 3)).bind λj=>
 bif(d||(!g.1))||(!j.1)then
  some (false,())
 else
  bif(a.1==4)||(a.1==5)then
   some ((((((((a.2.2.1.length:Int)==(0:Int))&&((a.2.2.2.1.length:Int)==(0:Int)))&&((a.2.2.2.2.1.length:Int)==(0:Int)))&&(a.2.1.2.1==a.2.1.2.2.1))&&(a.2.2.2.2.2.1==a.2.2.2.2.2.2.2.1))&&(a.2.2.2.2.2.2.2.1==a.2.1.2.2.1))&&(a.2.2.2.2.2.2.1==0),())
  else
   bif a.2.2.2.2.2.2.1==0 then
    Zna a (-1:Int)
   else
    Zna a a.2.1.2.2.1
def Zc4(a:Qt):Option (Bool×Unit):=(Xg a.1).bind λb=>(bif b.1 then(Z0 a.2.1 0 a.1)else some (false,())).bind λc=>(bif(b.1&&c.1)then(Z0 a.2.2.1 (-1:Int) a.1)else some (false,())).bind λd=>(bif((b.1&&c.1)&&d.1)then(Z0 a.2.2.2.1 (-1:Int) a.1)else some (false,())).bind λe=>some (((b.1&&c.1)&&d.1)&&e.1,())
def Zf3(a:Z6):Option (Int×Unit):=some (IntKind.i64.wrap (a.1+(a.2.1.length:Int)),())
def Zj0(c:Int)(d:List Z6)(a b:Int):Nat:=(a-b).toNat+1
def Zm8:Nat->Int->List Z6->Int->Int->Option (Bool×Unit)|0,_,_,_,_=>none|N+1,d,b,c,a=>bif decide (a<c)then Ze (0<=a/\a<b.length)<|bif((((b.getD a.toNat Qx).2.1.length:Int)==(0:Int))||(decide ((b.getD a.toNat Qx).1<d)))||(decide ((b.getD a.toNat Qx).1>(IntKind.i64.wrap ((4611686018427387903:Int)- ((b.getD a.toNat Qx).2.1.length:Int)))))then some (false,()) else (Zf3 (b.getD a.toNat Qx)).bind λe=>Zm8 N (IntKind.i64.wrap (e.1+1)) b c (IntKind.i64.wrap (a+1)) else some (true,())
def Zl3(a:Zv):Option (Bool×Unit):=(Xg a.1).bind λb=>bif !b.1 then some (false,()) else Zm8 (Zj0 a.1 a.2.1 (a.2.1.length:Int) (0:Int)) a.1 a.2.1 (a.2.1.length:Int) (0:Int)
def Z5s(a:Zv):Option (Int×Unit):=
 (Zl3 a).bind λc=>
 bif(!c.1)||((a.2.1.length:Int)==(0:Int))then
  some (a.1,())
 else
  let b:=IntKind.i64.wrap ((a.2.1.length:Int)-1)
  Ze (0<=b/\b<a.2.1.length)<|
  (Zf3 (a.2.1.getD b.toNat Qx)).bind λd=>
  some (d.1,())
def Ztp(a:Zv):Option (Int×Unit):=
 (Zl3 a).bind λc=>
 let b:=(!c.1)||((a.2.1.length:Int)==(0:Int))
 Ze ((b=false->(0<=(0:Int)/\(0:Int)<a.2.1.length)))<|
 bif b||((a.2.1.getD (0:Int).toNat Qx).1 !=a.1)then
  some (0,())
 else
  Ze (0<=(0:Int)/\(0:Int)<a.2.1.length)<|
  some (((a.2.1.getD (0:Int).toNat Qx).2.1.length:Int),())
def Zta(a:Zv):Option (Int×Unit):=(Ztp a).bind λb=>some (IntKind.i64.wrap (a.1+b.1),())
def Zb2(a:Zx)(b:Bool):Option (Bool×Unit):=bif b then some ((a.2.2.1==a.2.2.2.1)&&((a.2.1.2.1.length:Int)==(0:Int)),()) else some (false,())
def Zd2(a:Zx):Option (Bool×Unit):=
 (Zl3 a.2.1).bind λd=>
 (bif(!d.1)then some (0,())else(Z5s a.2.1)).bind λg=>
 let b:=(!d.1)||(decide (g.1>a.2.2.2.1))
 (bif b then some (false,())else(Xg a.2.2.2.1)).bind λe=>
 (bif(b||(!e.1))then some (false,())else(Xg a.2.2.2.2.1)).bind λh=>
 let f:=(b||(!e.1))||(!h.1)
 (bif(a.2.2.1 !=(-1:Int))then(bif f then some (false,())else(Z0 a.2.2.1 a.2.2.2.1 4611686018427387903))else some (false,())).bind λi=>
 bif f||((a.2.2.1 !=(-1:Int))&&(!i.1))then
  some (false,())
 else
  (bif(a.2.2.1 !=(-1:Int))then(Zta a.2.1)else some (0,())).bind λj=>
  let c:=(a.2.2.1 !=(-1:Int))&&(j.1==a.2.2.1)
  bif a.1==0 then
   some ((a.2.2.1==(-1:Int))&&(a.2.2.2.2.1==0),())
  else
   bif a.1==1 then
    some (((a.2.2.1 !=(-1:Int))&&(!c))&&(a.2.2.2.2.1==0),())
   else
    bif a.1==2 then
     some (c&&(a.2.2.2.2.1==0),())
    else
     bif a.1==3 then
      some ((c&&(a.2.2.2.2.1==0))&&((a.2.1.2.1.length:Int)==(0:Int)),())
     else
      bif a.1==4 then
       Zb2 a (a.1==4)
      else
       Zb2 a (a.1==5)
def Zif(a:Qg):Option (Bool×Unit):=
 (Z0 a.2.1 1 4096).bind λb=>
 (bif b.1 then(Z0 a.1 1 a.2.1)else some (false,())).bind λc=>
 (bif(b.1&&c.1)then(Z0 a.2.2.1 1 4611686018427387903)else some (false,())).bind λd=>
 (bif((b.1&&c.1)&&d.1)then(Z0 a.2.2.2.1 0 a.2.2.1)else some (false,())).bind λg=>
 let e:=((b.1&&c.1)&&d.1)&&g.1
 (bif e then(Z0 a.2.2.2.2.1 0 a.2.2.2.1)else some (false,())).bind λh=>
 let f:=(e&&h.1)&&(decide (a.2.2.1<=(IntKind.i64.wrap (a.2.2.2.2.1+a.1))))
 (bif f then(Z0 a.2.2.2.2.2.1 0 1000000)else some (false,())).bind λi=>
 some (f&&i.1,())
def Zo1(a:X8):Option (Bool×Unit):=(Z0 a.1 0 7).bind λb=>some (b.1,())
def Zs6(a:Zg):Option (Bool×Unit):=
 (Xg a.1).bind λb=>
 (bif(!b.1)then some (false,())else(Xg a.2.2.2.2.2.2.2.2.2.2.2.2.1)).bind λe=>
 (bif((!b.1)||(!e.1))then some (false,())else(Zs5 a.2.1)).bind λh=>
 let c:=((!b.1)||(!e.1))||(!h.1)
 (bif c then some (false,())else(Zc4 a.2.2.1)).bind λf=>
 (bif(c||(!f.1))then some (false,())else(Zd2 a.2.2.2.1)).bind λi=>
 let d:=(c||(!f.1))||(!i.1)
 (bif d then some (false,())else(Zif a.2.2.2.2.1)).bind λg=>
 (bif(d||(!g.1))then some (false,())else(Zo1 a.2.2.2.2.2.1)).bind λj=>
 bif(d||(!g.1))||(!j.1)then
  some (false,())
 else
  bif(((!a.2.2.2.2.2.2.1)&&(!a.2.2.2.2.2.2.2.1))||(decide (a.2.1.2.2.2.2.2.2.2.1>a.2.2.1.2.1)))||(decide (a.2.2.2.1.2.2.2.1>a.2.2.2.2.1.2.2.2.1))then
   some (false,())
  else
   bif((a.2.2.2.2.2.2.2.2.1&&(a.2.1.1 !=4))||(a.2.2.2.2.2.2.2.2.2.1&&(!a.2.2.2.2.2.2.2.2.2.2.2.1)))||((a.2.2.2.2.2.2.2.2.2.2.2.2.1 !=0)&&(!a.2.2.2.2.2.2.2.2.2.2.2.1))then
    some (false,())
   else
    bif(!a.2.2.2.2.2.2.1)&&(((a.2.1.1 !=0)||(a.2.1.2.1.2.2.1 !=0))||(a.2.1.2.2.2.2.2.1 !=(-1:Int)))then
     some (false,())
    else
     some (a.2.2.2.2.2.2.2.1||(((a.2.2.2.1.1==0)&&(a.2.2.2.1.2.2.2.1==0))&&(!a.2.2.2.2.2.2.2.2.2.2.2.1)),())
def Zgq(c d:List Zg)(a b:Int):Nat:=(a-b).toNat+1
def Zbz:Nat->List Zg->List Zg->Int->Int->Option (Bool×Unit)
 |0,_,_,_,_=>none
 |N+1,c,b,d,a=>
  bif decide (a<d)then
   Ze (0<=a/\a<b.length)<|
   (bif(decide (a>=(24:Int)))then some (false,())else(Zs6 (b.getD a.toNat Zj))).bind λf=>
   let e:Bool:=(decide (a>=(24:Int)))||(!f.1)
   Ze ((e=false->((decide (a>(0:Int)))=true->(0<=(IntKind.i64.wrap (a-1))/\(IntKind.i64.wrap (a-1))<c.length))))<|
   bif e||((decide (a>(0:Int)))&&(decide ((c.getD (IntKind.i64.wrap (a-1)).toNat Zj).1>=(b.getD a.toNat Zj).1)))then
    some (false,())
   else
    Zbz N c b d (IntKind.i64.wrap (a+1))
  else
   some (true,())
def Zg9(a:List Zg):Option (Bool×Unit):=Zbz (Zgq a a (a.length:Int) (0:Int)) a a (a.length:Int) (0:Int)
def Zvn(a:Ze2):Option (Bool×Unit):=(Z0 a.1 0 1152921504606846976).bind λb=>(bif b.1 then(Z0 a.2.1 0 a.1)else some (false,())).bind λc=>(bif(b.1&&c.1)then(Z0 a.2.2.1 (-1:Int) a.1)else some (false,())).bind λd=>some ((b.1&&c.1)&&d.1,())
def Zoj(a:Qt):Option (Bool×Unit):=(Z0 a.1 0 1000).bind λb=>(bif b.1 then(Z0 a.2.1 a.1 1152921504606846976)else some (false,())).bind λc=>(bif(b.1&&c.1)then(Z0 a.2.2.1 0 a.2.1)else some (false,())).bind λd=>(bif((b.1&&c.1)&&d.1)then(Z0 a.2.2.2.1 0 a.2.2.1)else some (false,())).bind λe=>some ((((b.1&&c.1)&&d.1)&&e.1)&&(decide (a.2.1<=(IntKind.i64.wrap (a.2.2.2.1+a.1)))),())
def Zs7(a:Int):Option (List UInt8×Unit):=bif a==4 then some (([114,101,115,101,116]:List UInt8),()) else bif a==5 then some (([115,116,111,112]:List UInt8),()) else bif a==8 then some (([115,116,114,101,97,109]:List UInt8),()) else bif a==16 then some (([109,97,120,100,97,116,97]:List UInt8),()) else bif a==17 then some (([109,97,120,115,116,114,101,97,109,100,97,116,97]:List UInt8),()) else bif a==18 then some (([109,97,120,115,116,114,101,97,109,115]:List UInt8),()) else bif a==20 then some (([100,97,116,97,98,108,111,99,107,101,100]:List UInt8),()) else bif a==21 then some (([115,116,114,101,97,109,100,97,116,97,98,108,111,99,107,101,100]:List UInt8),()) else bif a==22 then some (([115,116,114,101,97,109,115,98,108,111,99,107,101,100]:List UInt8),()) else some ([],())
def We(a:Bool):Option (Bool×Unit):=bif a then some (true,()) else some (false,())
def Zb1(a:Zf):Option (Bool×Unit):=bif a.1==4 then We (a.1==4) else bif a.1==5 then We (a.1==5) else bif a.1==8 then We (a.1==8) else bif a.1==17 then We (a.1==17) else We (a.1==21)
def Z5v(b d a:Zf)(c:Bool):Option (Zf×Unit):=bif c then some ((a.1,a.2.1,a.2.2.1,a.2.2.2.1,a.2.2.2.2.1,a.2.2.2.2.2.1,b.2.2.2.2.2.2.1,a.2.2.2.2.2.2.2.1,b.2.2.2.2.2.2.2.2.1,a.2.2.2.2.2.2.2.2.2),()) else some ((a.1,a.2.1,a.2.2.1,a.2.2.2.1,a.2.2.2.2.1,a.2.2.2.2.2.1,b.2.2.2.2.2.2.1,a.2.2.2.2.2.2.2),())
def Z5u(b c a:Zf):Option (Zf×Unit):=bif b.1==4 then some ((a.1,a.2.1,a.2.2.1,a.2.2.2.1,a.2.2.2.2.1,b.2.2.2.2.2.1,a.2.2.2.2.2.2.1,b.2.2.2.2.2.2.2.1,a.2.2.2.2.2.2.2.2),()) else bif b.1==5 then some ((a.1,a.2.1,a.2.2.1,a.2.2.2.1,a.2.2.2.2.1,b.2.2.2.2.2.1,a.2.2.2.2.2.2),()) else bif b.1==8 then some ((a.1,a.2.1,b.2.2.1,b.2.2.2.1,b.2.2.2.2.1,a.2.2.2.2.2),()) else bif b.1==18 then Z5v b c a (b.1==18) else Z5v b c a (b.1==22)
def Qh2(a:Zf):Option (Zf×Unit):=(Zb1 a).bind λb=>bif b.1 then Z5u a Qk (a.1,a.2.1,0,[],false,0,0,0,false,()) else Z5u a Qk (a.1,0,0,[],false,0,0,0,false,())
def Wi(a:Zf):Option (Bool×Unit):=
 (Zs7 a.1).bind λd=>
 (bif(d.1==[])then some (Qk,())else(Qh2 a)).bind λh=>
 let b:=(d.1==[])||(!(eqV (Zt) a h.1))
 (bif b then some (false,())else(Xg a.2.1)).bind λe=>
 (bif(b||(!e.1))then some (false,())else(Xg a.2.2.1)).bind λi=>
 let c:=(b||(!e.1))||(!i.1)
 (bif c then some (false,())else(Xg a.2.2.2.2.2.1)).bind λf=>
 (bif(c||(!f.1))then some (false,())else(Xg a.2.2.2.2.2.2.1)).bind λj=>
 let g:=(c||(!f.1))||(!j.1)
 (bif g then some (false,())else(Xg a.2.2.2.2.2.2.2.1)).bind λk=>
 bif g||(!k.1)then
  some (false,())
 else
  bif(a.1==18)||(a.1==22)then
   some (decide (a.2.2.2.2.2.2.1<=1152921504606846976),())
  else
   some ((decide ((a.2.2.2.1.length:Int)<=(400:Int)))&&(decide (a.2.2.1<=(IntKind.i64.wrap (4611686018427387903- (a.2.2.2.1.length:Int))))),())
def Zvz(a:Zf):Option (Bool×Unit):=(Wi a).bind λb=>some (!b.1,())
def Xo(c:List Zf)(d:Unit)(a b:Int):Nat:=(a-b).toNat+1
def Qw:Nat->List Zf->Unit->Int->Int->Option (Int×Unit)|0,_,_,_,_=>none|N+1,b,e,c,a=>bif decide (a<c)then Ze (0<=a/\a<b.length)<|(Zvz (b.getD a.toNat Qk)).bind λd=>bif d.1 then some (a,()) else Qw N b () c (IntKind.i64.wrap (a+1)) else some ((-1:Int),())
def Yg(a:List Zf):Option (Int×Unit):=Qw (Xo a () (a.length:Int) (0:Int)) a () (a.length:Int) (0:Int)
def Xa(a:List Zf):Option (Bool×Unit):=(Yg a).bind λb=>some (decide (b.1>=0),())
def Znd(c:List Qb)(d:Int)(e:List Qb)(a b:Int):Nat:=(a-b).toNat+1
def Zjf:Nat->List Qb->Int->List Qb->Int->Int->Option (Bool×Unit)
 |0,_,_,_,_,_=>none
 |N+1,c,d,b,e,a=>
  bif decide (a<e)then
   Ze (0<=a/\a<b.length)<|
   (Z0 (b.getD a.toNat Q6).1 (0:Int) (IntKind.i64.wrap (d-1))).bind λf=>
   Ze (((!f.1)=false->((decide (a>(0:Int)))=true->(0<=(IntKind.i64.wrap (a-1))/\(IntKind.i64.wrap (a-1))<c.length))))<|
   let g:Bool:=(!f.1)||((decide (a>(0:Int)))&&(decide ((c.getD (IntKind.i64.wrap (a-1)).toNat Q6).1>=(b.getD a.toNat Q6).1)))
   (bif g then some (false,())else(Xa (b.getD a.toNat Q6).2.1)).bind λh=>
   bif g||h.1 then
    some (false,())
   else
    Zjf N c d b e (IntKind.i64.wrap (a+1))
  else
   some (true,())
def Zy6(a:List Qb)(b:Int):Option (Bool×Unit):=Zjf (Znd a b a (a.length:Int) (0:Int)) a b a (a.length:Int) (0:Int)
def Z4f(a:Zg):Option (Int×Unit):=some (a.2.1.2.2.2.2.2.2.2.1,())
def Zbj(c:Unit)(d:Int)(e:List Zg)(a b:Int):Nat:=(a-b).toNat+1
def Jw:Nat->Unit->Int->List Zg->Int->Int->Option (Int×Unit)|0,_,_,_,_,_=>none|N+1,f,c,b,d,a=>bif decide (a<d)then Ze (0<=a/\a<b.length)<|(Z4f (b.getD a.toNat Zj)).bind λe=>Jw N () (min (IntKind.i64.wrap (c+e.1)) (4611686018427387904:Int)) b d (IntKind.i64.wrap (a+1)) else some (c,())
def Zh7(a:List Zg):Option (Int×Unit):=(Zg9 a).bind λb=>bif !b.1 then some (0,()) else Jw (Zbj () (0:Int) a (a.length:Int) (0:Int)) () (0:Int) a (a.length:Int) (0:Int)
def Zvy(a:List Zg):Option (Int×Unit):=(Zh7 a).bind λb=>some (b.1,())
def Z4e(a:Zg):Option (Int×Unit):=some (a.2.2.2.1.2.2.2.1,())
def Zbi(c:Unit)(d:Int)(e:List Zg)(a b:Int):Nat:=(a-b).toNat+1
def Jv:Nat->Unit->Int->List Zg->Int->Int->Option (Int×Unit)|0,_,_,_,_,_=>none|N+1,f,c,b,d,a=>bif decide (a<d)then Ze (0<=a/\a<b.length)<|(Z4e (b.getD a.toNat Zj)).bind λe=>Jv N () (min (IntKind.i64.wrap (c+e.1)) (4611686018427387904:Int)) b d (IntKind.i64.wrap (a+1)) else some (c,())
def Zh6(a:List Zg):Option (Int×Unit):=(Zg9 a).bind λb=>bif !b.1 then some (0,()) else Jv (Zbi () (0:Int) a (a.length:Int) (0:Int)) () (0:Int) a (a.length:Int) (0:Int)
def Zvv(a:List Zg):Option (Int×Unit):=(Zh6 a).bind λb=>some (b.1,())
def Zce(a:Zc):Option (Bool×Unit):=
 (Zqy a.2.1).bind λb=>
 (bif(!b.1)then some (false,())else(Zqy a.2.2.1)).bind λg=>
 (bif((!b.1)||(!g.1))then some (false,())else(Zg9 a.2.2.2.1)).bind λn=>
 let c:=((!b.1)||(!g.1))||(!n.1)
 (bif c then some (false,())else(Zc4 a.2.2.2.2.1)).bind λh=>
 (bif(c||(!h.1))then some (false,())else(Zif a.2.2.2.2.2.1)).bind λo=>
 bif(c||(!h.1))||(!o.1)then
  some (false,())
 else
  (Zvn a.2.2.2.2.2.2.1).bind λd=>
  (bif(!d.1)then some (false,())else(Zvn a.2.2.2.2.2.2.2.1)).bind λi=>
  (bif((!d.1)||(!i.1))then some (false,())else(Zoj a.2.2.2.2.2.2.2.2.1)).bind λp=>
  let j:=((!d.1)||(!i.1))||(!p.1)
  (bif j then some (false,())else(Zoj a.2.2.2.2.2.2.2.2.2.1)).bind λq=>
  bif j||(!q.1)then
   some (false,())
  else
   (Z0 a.2.2.2.2.2.2.2.2.2.2.2.2.2.1 (-1:Int) 4611686018427387903).bind λe=>
   (bif(!e.1)then some (false,())else(Z0 a.2.2.2.2.2.2.2.2.2.2.2.2.2.2.1 0 1000000)).bind λk=>
   (bif((!e.1)||(!k.1))then some (false,())else(Z0 a.2.2.2.2.2.2.2.2.2.2.2.2.2.2.2.2.1 0 1000000)).bind λr=>
   let l:=((!e.1)||(!k.1))||(!r.1)
   (bif l then some (false,())else(Z0 a.2.2.2.2.2.2.2.2.2.2.2.2.2.2.2.2.2.1 0 255)).bind λs=>
   bif l||(!s.1)then
    some (false,())
   else
    (Zy6 a.2.2.2.2.2.2.2.2.2.2.2.2.2.2.2.1 a.2.2.2.2.2.2.2.2.2.2.2.2.2.2.1).bind λf=>
    (bif f.1 then(Zvy a.2.2.2.1)else some (0,())).bind λm=>
    (bif(f.1&&(decide (m.1<=a.2.2.2.2.1.2.1)))then(Zvv a.2.2.2.1)else some (0,())).bind λt=>
    some ((f.1&&(decide (m.1<=a.2.2.2.2.1.2.1)))&&(decide (t.1<=a.2.2.2.2.2.1.2.2.2.1)),())
def Zpl(a:Zc):Option (Bool×Unit):=some (a.2.2.2.2.2.2.2.2.2.2.2.2.2.2.2.2.2.1 !=0,())
def Zuq(c:List UInt8)(d a e b:Int):Nat:=(a-b).toNat+1
def Zi9:Nat->List UInt8->Int->Int->Int->Int->Option (Int×Int×Bool×Unit)|0,_,_,_,_,_=>none|N+1,c,a,d,e,b=>bif decide (b<d)then Ze (0<=(8:Int))<|Ze (0<=(IntKind.i64.wrap (a+b))/\(IntKind.i64.wrap (a+b))<c.length)<|Zi9 N c a d (bits .or .i64 (IntKind.i64.wrap (e*2^ (min (8:Int).toNat IntKind.i64.bits))) (IntKind.i64.wrap ((c.getD (IntKind.i64.wrap (a+b)).toNat 0).toNat:Int))) (IntKind.i64.wrap (b+1)) else some (e,IntKind.i64.wrap (a+d),true,())
def X5(b:List UInt8)(a:Int):Option (Int×Int×Bool×Unit):=
 (Z0 a 0 (IntKind.i64.wrap ((b.length:Int)-1))).bind λf=>
 bif !f.1 then
  some (0,0,false,())
 else
  Ze (0<=a/\a<b.length)<|
  Ze (0<=(6:Int))<|
  let d:=((b.getD a.toNat 0).toNat:Int).fdiv (2^ (min (6:Int).toNat IntKind.u8.bits))
  Ze (0<=d)<|
  let c:=IntKind.i64.wrap (1*2^ (min d.toNat IntKind.i64.bits))
  bif decide ((IntKind.i64.wrap ((b.length:Int)-a))<c)then
   some (0,0,false,())
  else
   Ze (0<=a/\a<b.length)<|
   let e:=IntKind.i64.wrap (bits .and .u8 ((b.getD a.toNat 0).toNat:Int) 63)
   Zi9 (Zuq b a c e (1:Int)) b a c e (1:Int)
def Zs9(a:Bool):Option (Int×Unit):=bif a then some (1,()) else some (0,())
def Ww(d:List UInt8)(a:Int)(f c:Zf)(b:Int)(e:Bool):Option (Zf×Int×Bool×Unit):=bif(!e)||(decide (b>(IntKind.i64.wrap ((d.length:Int)-a))))then some (Qk,0,false,()) else Ze (0<=a/\a<=(IntKind.i64.wrap (a+b))/\(IntKind.i64.wrap (a+b))<=d.length)<|some ((c.1,c.2.1,c.2.2.1,(d.drop a.toNat).take ((IntKind.i64.wrap (a+b)).toNat-a.toNat),c.2.2.2.2),IntKind.i64.wrap (a+b),true,())
def Va(a:List UInt8)(b h:Int)(c d:Zf)(i:Int)(f:Bool):Option (Zf×Int×Bool×Unit):=
 bif !f then
  some (Qk,0,false,())
 else
  let g:=IntKind.i64.wrap ((a.length:Int)-b)
  bif(bits .and .i64 h 2)==2 then
   (X5 a b).bind λe=>
   bif !e.2.2.1 then
    Ww a 0 c d g false
   else
    Ww a e.2.1 c d e.1 true
  else
   Ww a b c d g f
def Zo4(b:List UInt8)(f a:Int):Option (Zf×Int×Bool×Unit):=(X5 b f).bind λc=>bif !c.2.2.1 then bif false&&((bits .and .i64 a 4)==4)then (X5 b 0).bind λd=>bif !d.2.2.1 then Va b 0 a Qk (8,0,0,[],(bits .and .i64 a 1)==1,0,0,0,false,()) 0 false else Va b d.2.1 a Qk (8,0,d.1,[],(bits .and .i64 a 1)==1,0,0,0,false,()) 0 true else Va b 0 a Qk (8,0,0,[],(bits .and .i64 a 1)==1,0,0,0,false,()) 0 false else bif true&&((bits .and .i64 a 4)==4)then (X5 b c.2.1).bind λe=>bif !e.2.2.1 then Va b 0 a Qk (8,c.1,0,[],(bits .and .i64 a 1)==1,0,0,0,false,()) 0 false else Va b e.2.1 a Qk (8,c.1,e.1,[],(bits .and .i64 a 1)==1,0,0,0,false,()) 0 true else Va b c.2.1 a Qk (8,c.1,0,[],(bits .and .i64 a 1)==1,0,0,0,false,()) 0 true
end Go.Proofs.YtfhellopliifdaaGreat

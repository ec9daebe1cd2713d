/- FnForged: what the functions that it reaches compute, as plain functions, part 2. No condition. -/
import Derived.Test.YtfhellopliifdaaGreatM1
noncomputable section
set_option linter.all false
namespace Go.Proofs.YtfhellopliifdaaGreat
open Go.Am
set_option maxRecDepth 100000
def Q9(d a:Zf)(b:Int)(c:Bool):Option (Zf×Int×Bool×Unit):=some (a,b,c,())
def Zdb(g:List UInt8)(h:Int)(d:Zf)(c:Int)(a:Zf)(i:Int)(j k:Bool):Option (Zf×Int×Bool×Unit):=
 bif k then
  Ze ((2:Int)≠0)<|
  (Zs9 ((Int.tmod c (2:Int))==1)).bind λl=>
  let b:Zf:=(IntKind.i64.wrap (a.1-l.1),a.2.1,a.2.2.1,a.2.2.2.1,a.2.2.2.2.1,a.2.2.2.2.2.1,a.2.2.2.2.2.2.1,a.2.2.2.2.2.2.2.1,(Int.tmod c (2:Int))==1,a.2.2.2.2.2.2.2.2.2)
  (X5 g (IntKind.i64.wrap (h+1))).bind λe=>
  bif !e.2.2.1 then
   Q9 d b 0 false
  else
   Q9 d (b.1,b.2.1,b.2.2.1,b.2.2.2.1,b.2.2.2.2.1,b.2.2.2.2.2.1,e.1,b.2.2.2.2.2.2.2) e.2.1 true
 else
  (Z0 c 8 15).bind λm=>
  bif m.1 then
   (Zo4 g (IntKind.i64.wrap (h+1)) c).bind λf=>
   some (f.1,f.2.1,f.2.2.1,())
  else
   Q9 d a i j
def Zld(d:List UInt8)(e:Int)(b:Zf)(f:Int)(a:Zf)(g:Int)(h:Bool)(c:Int)(k:Bool):Option (Zf×Int×Bool×Unit):=bif k then (X5 d (IntKind.i64.wrap (e+1))).bind λi=>bif !i.2.2.1 then Q9 b a 0 false else (X5 d i.2.1).bind λj=>bif !j.2.2.1 then Q9 b (a.1,i.1,a.2.2) 0 false else Q9 b (a.1,i.1,a.2.2.1,a.2.2.2.1,a.2.2.2.2.1,a.2.2.2.2.2.1,j.1,a.2.2.2.2.2.2.2) j.2.1 true else bif c==18 then Zdb d e b f a g h (c==18) else bif c==19 then Zdb d e b f a g h (c==19) else bif c==22 then Zdb d e b f a g h (c==22) else Zdb d e b f a g h (c==23)
def Zlc(d:List UInt8)(e:Int)(c:Zf)(g:Int)(a:Zf)(h:Int)(i:Bool)(b:Int)(j:Bool):Option (Zf×Int×Bool×Unit):=bif j then (X5 d (IntKind.i64.wrap (e+1))).bind λf=>bif !f.2.2.1 then Q9 c a 0 false else Q9 c (a.1,a.2.1,a.2.2.1,a.2.2.2.1,a.2.2.2.2.1,a.2.2.2.2.2.1,f.1,a.2.2.2.2.2.2.2) f.2.1 true else bif b==17 then Zld d e c g a h i b (b==17) else Zld d e c g a h i b (b==21)
def Z0u(b:List UInt8)(c:Int):Option (Zf×Int×Bool×Unit):=
 (Z0 c 0 (IntKind.i64.wrap ((b.length:Int)-1))).bind λi=>
 bif !i.1 then
  some (Qk,0,false,())
 else
  Ze (0<=c/\c<b.length)<|
  let a:=IntKind.i64.wrap ((b.getD c.toNat 0).toNat:Int)
  bif a==4 then
   (X5 b (IntKind.i64.wrap (c+1))).bind λd=>
   bif !d.2.2.1 then
    Q9 Qk (a,0,0,[],false,0,0,0,false,()) 0 false
   else
    (X5 b d.2.1).bind λe=>
    bif !e.2.2.1 then
     Q9 Qk (a,d.1,0,[],false,0,0,0,false,()) 0 false
    else
     (X5 b e.2.1).bind λg=>
     bif !g.2.2.1 then
      Q9 Qk (a,d.1,0,[],false,e.1,0,0,false,()) 0 false
     else
      Q9 Qk (a,d.1,0,[],false,e.1,0,g.1,false,()) g.2.1 true
  else
   bif a==5 then
    (X5 b (IntKind.i64.wrap (c+1))).bind λf=>
    bif !f.2.2.1 then
     Q9 Qk (a,0,0,[],false,0,0,0,false,()) 0 false
    else
     (X5 b f.2.1).bind λh=>
     bif !h.2.2.1 then
      Q9 Qk (a,f.1,0,[],false,0,0,0,false,()) 0 false
     else
      Q9 Qk (a,f.1,0,[],false,h.1,0,0,false,()) h.2.1 true
   else
    bif a==16 then
     Zlc b c Qk a (a,0,0,[],false,0,0,0,false,()) 0 false a (a==16)
    else
     Zlc b c Qk a (a,0,0,[],false,0,0,0,false,()) 0 false a (a==20)
def Zrw(b:List UInt8)(c:Int):Option (Zf×Int×Bool×Unit):=(Z0u b c).bind λa=>(bif(!a.2.2.1)then some (false,())else(Wi a.1)).bind λd=>bif(!a.2.2.1)||(!d.1)then some (Qk,0,false,()) else some (a.1,a.2.1,true,())
def Zqv(a:List UInt8)(c:List Zf)(b:Int):Nat:=((a.length:Int)-b).toNat+1
def Zbf:Nat->List UInt8->List Zf->Int->Option (List Zf×Bool×Unit)|0,_,_,_=>none|N+1,a,c,b=>bif decide (b<(a.length:Int))then Ze (0<=b/\b<a.length)<|bif((a.getD b.toNat 0).toNat:Int)==(0:Int)then Zbf N a c (IntKind.i64.wrap (b+1)) else (Zrw a b).bind λd=>bif !d.2.2.1 then some (([]:List Zf),false,()) else Ze (c.length+([d.1]).length<=Qd)<|Zbf N a (c++([d.1])) d.2.1 else (Z0 (a.length:Int) (1:Int) (400:Int)).bind λe=>some (c,e.1,())
def Zt4(a:List UInt8):Option (List Zf×Bool×Unit):=Zbf (Zqv a ([]:List Zf) (0:Int)) a ([]:List Zf) (0:Int)
def Zqt(b:Zc)(c:Int):Option (Zc×Unit):=(Qf b).bind λa=>(bif(b.2.2.2.2.2.2.2.2.2.2.2.2.2.2.2.2.2.1==0)then(Z0 c 1 255)else some (false,())).bind λd=>bif(b.2.2.2.2.2.2.2.2.2.2.2.2.2.2.2.2.2.1==0)&&d.1 then some ((a.1.1,a.1.2.1,a.1.2.2.1,a.1.2.2.2.1,a.1.2.2.2.2.1,a.1.2.2.2.2.2.1,a.1.2.2.2.2.2.2.1,a.1.2.2.2.2.2.2.2.1,a.1.2.2.2.2.2.2.2.2.1,a.1.2.2.2.2.2.2.2.2.2.1,a.1.2.2.2.2.2.2.2.2.2.2.1,a.1.2.2.2.2.2.2.2.2.2.2.2.1,a.1.2.2.2.2.2.2.2.2.2.2.2.2.1,a.1.2.2.2.2.2.2.2.2.2.2.2.2.2.1,a.1.2.2.2.2.2.2.2.2.2.2.2.2.2.2.1,a.1.2.2.2.2.2.2.2.2.2.2.2.2.2.2.2.1,a.1.2.2.2.2.2.2.2.2.2.2.2.2.2.2.2.2.1,c,a.1.2.2.2.2.2.2.2.2.2.2.2.2.2.2.2.2.2.2),()) else some (a.1,())
def Zbp(a:Int):Option (Bool×Unit):=(Xg a).bind λb=>some (b.1,())
def Zvo(a:Int):Option (Bool×Unit):=(Zbp a).bind λb=>some (b.1&&((bits .and .i64 a 2)==2),())
def Z6t(a:Int):Option (Bool×Unit):=(Zbp a).bind λb=>some (b.1&&((bits .and .i64 a 1)==1),())
def Zjd(c:Bool)(a:Int):Option (Bool×Unit):=(Zbp a).bind λb=>(bif b.1 then(Z6t a)else some (false,())).bind λd=>some (b.1&&(d.1==c),())
def Zgr(d:Bool)(a:Int):Option (Bool×Unit):=(Zbp a).bind λb=>(bif b.1 then(Zvo a)else some (false,())).bind λc=>(bif(!c.1)then some (false,())else(bif b.1 then(Zjd d a)else some (false,()))).bind λe=>some (b.1&&((!c.1)||(!e.1)),())
def Z2h(a:Zg)(b:Int):Option (Bool×Unit):=some (a.1==b,())
def Xi(c:List Zg)(d:Int×Unit)(a b:Int):Nat:=(a-b).toNat+1
def Qr:Nat->List Zg->(Int×Unit)->Int->Int->Option (Int×Unit)|0,_,_,_,_=>none|N+1,b,c,d,a=>bif decide (a<d)then Ze (0<=a/\a<b.length)<|(Z2h (b.getD a.toNat Zj) c.1).bind λe=>bif e.1 then some (a,()) else Qr N b c d (IntKind.i64.wrap (a+1)) else some ((-1:Int),())
def Yb(a:List Zg)(b:Int×Unit):Option (Int×Unit):=Qr (Xi a b (a.length:Int) (0:Int)) a b (a.length:Int) (0:Int)
def Q8(a:List Zg)(b:Int):Option (Int×Unit):=(Yb a (b,())).bind λc=>some (c.1,())
def Qa(a:Zc)(b:Int):Option ((Bool)×(Zc×Unit)):=(Zvo b).bind λc=>bif c.1 then some (true,a,()) else some (false,a,())
def Zh4(a:Int):Option (Int×Unit):=(Zbp a).bind λb=>bif !b.1 then some ((-1:Int),()) else Ze ((4:Int)≠0)<|some (IntKind.i64.wrap (Int.tdiv a (4:Int)),())
def Zfu(a:Qt)(b:Int):Option (Qt×Int×Bool×Unit):=
 (Zoj a).bind λc=>
 (bif(!c.1)then some (false,())else(Z0 b 0 (IntKind.i64.wrap (a.2.1-1)))).bind λe=>
 bif(!c.1)||(!e.1)then
  some (a,0,false,())
 else
  let d:=max (IntKind.i64.wrap ((IntKind.i64.wrap (b+1))-a.2.2.1)) 0
  some ((a.1,a.2.1,IntKind.i64.wrap (a.2.2.1+d),a.2.2.2),d,true,())
def Z4c:Option (Zx×Unit):=some ((0,(0,[],()),(-1:Int),0,0,()),())
def Zyi:Option (X8×Unit):=some ((3,false,()),())
def Zqs(d:Bool)(a:Int):Option (Bool×Unit):=(Zbp a).bind λb=>(bif b.1 then(Zvo a)else some (false,())).bind λc=>(bif(!c.1)then some (false,())else(bif b.1 then(Zjd d a)else some (false,()))).bind λe=>some (b.1&&((!c.1)||e.1),())
def Qfb(a:Int):Option (Xu×Bool×Unit):=(Zkn a).bind λb=>bif !b.1 then some (Qsq,false,()) else Ze (0<=a/\a<=a/\a<=Qd)<|some ((a,0,0,List.replicate a.toNat 0,()),true,())
def Z0t(b:Int):Option (Zp×Bool×Unit):=(Qfb b).bind λa=>bif !a.2.1 then some (Zaw,false,()) else some ((0,a.1,[],[],[],(-1:Int),Zzk),true,())
def Z74(a:Int):Option (Qt×Bool×Unit):=(Xg a).bind λb=>bif !b.1 then some (Qu0,false,()) else some ((a,0,(-1:Int),(-1:Int),()),true,())
def Z75(a b:Int):Option (Qg×Bool×Unit):=(Z0 b 1 4096).bind λc=>(bif(!c.1)then some (false,())else(Z0 a 1 b)).bind λd=>bif(!c.1)||(!d.1)then some (Qac,false,()) else some ((a,b,a,Zzk),true,())
def Zvs(d:Bool)(a:Int)(b e:Zic):Option (Zg×Bool×Unit):=(Zbp a).bind λc=>(bif(!c.1)then some (false,())else(Zqy b)).bind λf=>(bif((!c.1)||(!f.1))then some (false,())else(Zqy e)).bind λg=>bif((!c.1)||(!f.1))||(!g.1)then some (Zj,false,()) else Option.bind Z4c λh=>Option.bind Zyi λi=>(Zqs d a).bind λj=>(Zgr d a).bind λk=>(Z0t b.1).bind λl=>(Z74 e.2.1).bind λm=>(Z75 b.2.1 b.2.2.1).bind λn=>some ((a,l.1,m.1,h.1,n.1,i.1,j.1,k.1,false,false,false,false,0,false,()),true,())
def Z4d(a b:Zg):Option (Bool×Unit):=some (decide (a.1>b.1),())
def Xn(c:List Zg)(d:Zg×Unit)(a b:Int):Nat:=(a-b).toNat+1
def Qv:Nat->List Zg->(Zg×Unit)->Int->Int->Option (Int×Unit)|0,_,_,_,_=>none|N+1,b,c,d,a=>bif decide (a<d)then Ze (0<=a/\a<b.length)<|(Z4d (b.getD a.toNat Zj) c.1).bind λe=>bif e.1 then some (a,()) else Qv N b c d (IntKind.i64.wrap (a+1)) else some ((-1:Int),())
def Xc(a:List Zg)(b:Zg×Unit):Option (Int×Unit):=Qv (Xn a b (a.length:Int) (0:Int)) a b (a.length:Int) (0:Int)
def Qb8(l:List (Zg))(i:Int)(v:List (Zg)):Option (((List (Zg))×Unit)×Unit):=Q6s l i v
def Zla(a:Zg)(b:List Zg)(c:Int):Option (List Zg×Unit):=(Zkm a).bind λd=>(Qb8 b c ([d.1])).bind λe=>some (e.1.1,())
def Znc(b:List Zg)(a:Zg):Option (List Zg×Unit):=(Zcf b).bind λc=>(Q8 b a.1).bind λd=>bif decide (d.1>=0)then (Zkm a).bind λf=>Ze (0<=d.1/\d.1<c.1.length)<|some (c.1.set d.1.toNat f.1,()) else (Xc b (a,())).bind λe=>bif decide (e.1<0)then Zla a c.1 (b.length:Int) else Zla a c.1 e.1
def Zss(K1:(Zc×Int×Int×Unit)->Option ((Int×Unit)×(Zc×Unit)))(a:Zc)(b c:Int)(d:Zg):Option ((Int×Unit)×(Zc×Unit)):=(Znc a.2.2.2.1 d).bind λe=>K1 ((a.1,a.2.1,a.2.2.1,e.1,a.2.2.2.2),b,IntKind.i64.wrap (c-1),())
def Zl1(b:Zc)(c a:Int):Nat:=(a-0).toNat+2
def Zdt:Nat->Zc->Int->Int->Option ((Int×Unit)×(Zc×Unit))
 |0,_,_,_=>none
 |N+1,a,c,b=>
  bif decide (b>=(0:Int))then
   let d:Int:=IntKind.i64.wrap (c- (IntKind.i64.wrap ((4:Int)*b)))
   Zid 1 (
    (Zvs a.1 d a.2.1 a.2.2.1).bind λe=>
    Zss (λv=>Zdt N v.1 v.2.1 v.2.2.1) a c b e.1
   )
  else
   bif decide ((a.2.2.2.1.length:Int)>(24:Int))then
    some (((4:Int),()),a,())
   else
    some (((0:Int),()),a,())
def Zhq(a:Zc)(b c:Int):Option ((Int×Unit)×(Zc×Unit)):=Zdt (Zl1 a b (IntKind.i64.wrap (c-1))) a b (IntKind.i64.wrap (c-1))
def Jo(c:Zc)(d:Int)(e:Qt)(b:Int)(f:Bool):Option ((Int×Unit)×(Zc×Unit)):=bif((!f)||(b==0))||(decide (b>(IntKind.i64.wrap (24- (c.2.2.2.1.length:Int)))))then some ((4,()),c,()) else (Qa c d).bind λa=>bif a.1 then Zhq (a.2.1.1,a.2.1.2.1,a.2.1.2.2.1,a.2.1.2.2.2.1,a.2.1.2.2.2.2.1,a.2.1.2.2.2.2.2.1,a.2.1.2.2.2.2.2.2.1,a.2.1.2.2.2.2.2.2.2.1,a.2.1.2.2.2.2.2.2.2.2.1,e,a.2.1.2.2.2.2.2.2.2.2.2.2) d b else Zhq (a.2.1.1,a.2.1.2.1,a.2.1.2.2.1,a.2.1.2.2.2.1,a.2.1.2.2.2.2.1,a.2.1.2.2.2.2.2.1,a.2.1.2.2.2.2.2.2.1,a.2.1.2.2.2.2.2.2.2.1,e,a.2.1.2.2.2.2.2.2.2.2.2) d b
def Zcd(e:Zc)(a:Int):Option ((Int×Unit)×(Zc×Unit)):=(Q8 e.2.2.2.1 a).bind λh=>bif decide (h.1>=0)then some ((0,()),e,()) else (Zjd e.1 a).bind λi=>bif i.1 then some ((5,()),e,()) else Zfs ((Qa e a).bind λb=>bif b.1 then Zfs ((Zh4 a).bind λf=>Zid 1 ((Zfu b.2.1.2.2.2.2.2.2.2.2.2.1 f.1).bind λc=>Jo b.2.1 a c.1 c.2.1 c.2.2.1)) ((Zh4 a).bind λf=>(Zfu b.2.1.2.2.2.2.2.2.2.2.2.1 f.1).bind λc=>Jo b.2.1 a c.1 c.2.1 c.2.2.1) else Zfs ((Zh4 a).bind λg=>Zid 1 ((Zfu b.2.1.2.2.2.2.2.2.2.2.1 g.1).bind λd=>Jo b.2.1 a d.1 d.2.1 d.2.2.1)) ((Zh4 a).bind λg=>(Zfu b.2.1.2.2.2.2.2.2.2.2.1 g.1).bind λd=>Jo b.2.1 a d.1 d.2.1 d.2.2.1)) ((Qa e a).bind λb=>bif b.1 then (Zh4 a).bind λf=>(Zfu b.2.1.2.2.2.2.2.2.2.2.2.1 f.1).bind λc=>Jo b.2.1 a c.1 c.2.1 c.2.2.1 else (Zh4 a).bind λg=>(Zfu b.2.1.2.2.2.2.2.2.2.2.1 g.1).bind λd=>Jo b.2.1 a d.1 d.2.1 d.2.2.1)
def Zs8(a:Zx)(b:Int):Option (Int×Unit):=(Zd2 a).bind λc=>(bif(!c.1)then some (false,())else(Xg b)).bind λd=>bif(!c.1)||(!d.1)then some (0,()) else some (max (IntKind.i64.wrap (b-a.2.2.2.1)) 0,())
def Zok(a:Qg):Option (Int×Unit):=(Zif a).bind λb=>bif !b.1 then some (0,()) else some (IntKind.i64.wrap (a.2.2.1-a.2.2.2.1),())
def Zr5(a:Zx)(b:Int)(c:Bool):Option (Bool×Unit):=some (((a.2.2.1 !=(-1:Int))&&(decide (b>a.2.2.1)))||(c&&(((a.2.2.1 !=(-1:Int))&&(b !=a.2.2.1))||(decide (b<a.2.2.2.1)))),())
def Zt6(a:Zx):Option (Bool×Unit):=some ((a.1==0)||(a.1==1),())
def Zpb(l:List (Z6)):Option (Unit×List (Z6)):=Qsh l
def Zsw(c d:List Z6)(a b:Int):Nat:=(a-b).toNat+1
def Zjg:Nat->List Z6->List Z6->Int->Int->Option (List Z6×Unit)
 |0,_,_,_,_=>none
 |N+1,b,d,e,c=>
  bif decide (c<e)then
   Ze (0<=c/\c<d.length)<|
   let a:Int:=IntKind.i64.wrap ((b.length:Int)- (1:Int))
   Ze (((decide (a>=(0:Int)))=true->(0<=a/\a<b.length)))<|
   (bif(decide (a>=(0:Int)))then(Zf3 (b.getD a.toNat Qx))else some ((0:Int),())).bind λf=>
   bif(decide (a>=(0:Int)))&&(f.1==(d.getD c.toNat Qx).1)then
    Ze (0<=a/\a<b.length)<|
    Ze ((b.getD a.toNat Qx).2.1.length+(d.getD c.toNat Qx).2.1.length<=Yh)<|
    Ze (0<=a/\a<b.length)<|
    Zjg N (b.set a.toNat ((b.getD a.toNat Qx).1,(b.getD a.toNat Qx).2.1++(d.getD c.toNat Qx).2.1,(b.getD a.toNat Qx).2.2)) d e (IntKind.i64.wrap (c+1))
   else
    Ze (b.length+([(d.getD c.toNat Qx)]).length<=Qd)<|
    Zjg N (b++([(d.getD c.toNat Qx)])) d e (IntKind.i64.wrap (c+1))
  else
   some (b,())
def Zus(a:List Z6):Option (List Z6×Unit):=Zjg (Zsw ([]:List Z6) a (a.length:Int) (0:Int)) ([]:List Z6) a (a.length:Int) (0:Int)
def Zm7(c:Zv)(d:Int)(e:List UInt8)(f:Zv)(g h:Int)(i j:List Z6)(a b:Int):Nat:=(a-b).toNat+1
def Ze8:Nat->Zv->Int->List UInt8->Zv->Int->Int->List Z6->List Z6->Int->Int->Option (Zv×Unit)
 |0,_,_,_,_,_,_,_,_,_,_=>none
 |N+1,h,c,g,m,a,e,f,d,i,b=>
  bif decide (b<i)then
   Ze (0<=b/\b<d.length)<|
   bif decide (a<(min (d.getD b.toNat Qx).1 e))then
    let j:Int:=IntKind.i64.wrap ((min (d.getD b.toNat Qx).1 e)-c)
    Ze (0<=(IntKind.i64.wrap (a-c))/\(IntKind.i64.wrap (a-c))<=j/\j<=g.length)<|
    let k:List Z6:=[(a,(g.drop (IntKind.i64.wrap (a-c)).toNat).take (j.toNat- (IntKind.i64.wrap (a-c)).toNat),())]
    Ze (f.length+k.length<=Qd)<|
    Ze ((f++k).length+([(d.getD b.toNat Qx)]).length<=Qd)<|
    (Zf3 (d.getD b.toNat Qx)).bind λo=>
    Ze8 N h c g m (max a o.1) e ((f++k)++([(d.getD b.toNat Qx)])) d i (IntKind.i64.wrap (b+1))
   else
    Ze (f.length+([(d.getD b.toNat Qx)]).length<=Qd)<|
    (Zf3 (d.getD b.toNat Qx)).bind λp=>
    Ze8 N h c g m (max a p.1) e (f++([(d.getD b.toNat Qx)])) d i (IntKind.i64.wrap (b+1))
  else
   bif decide (a<(min e e))then
    let l:Int:=IntKind.i64.wrap ((min e e)-c)
    Ze (0<=(IntKind.i64.wrap (a-c))/\(IntKind.i64.wrap (a-c))<=l/\l<=g.length)<|
    let n:List Z6:=[(a,(g.drop (IntKind.i64.wrap (a-c)).toNat).take (l.toNat- (IntKind.i64.wrap (a-c)).toNat),())]
    Ze (f.length+n.length<=Qd)<|
    (Zpb (f++n)).bind λq=>
    (Zus q.2).bind λr=>
    some ((h.1,r.1,()),())
   else
    (Zpb f).bind λs=>
    (Zus s.2).bind λt=>
    some ((h.1,t.1,()),())
def Zt5(a:Zv)(b:Int)(c:List UInt8)(d:Zv)(e f:Int):Option (Zv×Unit):=Ze8 (Zm7 a b c d e f ([]:List Z6) a.2.1 (a.2.1.length:Int) (0:Int)) a b c d e f ([]:List Z6) a.2.1 (a.2.1.length:Int) (0:Int)
def Ztm(b:Zv)(a:Int)(c:List UInt8):Option (Zv×Unit):=
 (Zl3 b).bind λd=>
 bif((((!d.1)||(c==[]))||(decide (a<0)))||(decide (a>(IntKind.i64.wrap (4611686018427387903- (c.length:Int))))))||(decide ((IntKind.i64.wrap (a+(c.length:Int)))<=b.1))then
  (Zkk b).bind λe=>
  some (e.1,())
 else
  let f:=IntKind.i64.wrap (a+(c.length:Int))
  Zid 1 (
   Zt5 b a c (0,[],()) (max a b.1) f
  )
def Zsu(b a:Zx):Option (Zx×Int×Unit):=some (a,0,())
def Zht(d:Int)(e:List UInt8)(f c a:Zx):Option (Zx×Int×Unit):=(Ztm f.2.1 d e).bind λb=>(bif(a.2.2.1 !=(-1:Int))then(Zta b.1)else some (0,())).bind λg=>bif(a.2.2.1 !=(-1:Int))&&(g.1==a.2.2.1)then Zsu c (2,b.1,a.2.2) else Zsu c (a.1,b.1,a.2.2)
def Zr2(b:Zx)(c:Int)(d:List UInt8)(f:Bool):Option (Zx×Int×Unit):=
 (Zda b).bind λa=>
 (Zd2 b).bind λg=>
 bif((!g.1)||(decide (c<0)))||(decide (c>(IntKind.i64.wrap (4611686018427387903- (d.length:Int)))))then
  some (a.1,7,())
 else
  let e:=IntKind.i64.wrap (c+(d.length:Int))
  (Zr5 b e f).bind λh=>
  bif h.1 then
   some (a.1,6,())
  else
   (Zt6 b).bind λi=>
   bif !i.1 then
    some (a.1,0,())
   else
    bif f then
     Zht c d b Zso (1,a.1.2.1,e,max b.2.2.2.1 e,a.1.2.2.2.2)
    else
     Zht c d b Zso (a.1.1,a.1.2.1,a.1.2.2.1,max b.2.2.2.1 e,a.1.2.2.2.2)
def Zl5(a:Qg)(b:Int):Option (Qg×Bool×Unit):=(Zif a).bind λc=>(bif(!c.1)then some (false,())else(Z0 b 0 (IntKind.i64.wrap (a.2.2.1-a.2.2.2.1)))).bind λd=>bif(!c.1)||(!d.1)then some (a,false,()) else some ((a.1,a.2.1,a.2.2.1,IntKind.i64.wrap (a.2.2.2.1+b),a.2.2.2.2),true,())
def Zy5(a:Zg):Option (Bool×Unit):=some (((!a.2.2.2.2.2.2.1)||(a.2.1.1==3))||(a.2.1.1==5),())
def Zy4(a:Zx):Option (Bool×Unit):=(Zd2 a).bind λb=>some (b.1&&((a.1==3)||(a.1==5)),())
def Ztn(a:Zg):Option (Bool×Unit):=(bif(!a.2.2.2.2.2.2.2.1)then some (false,())else(Zy4 a.2.2.2.1)).bind λb=>some ((!a.2.2.2.2.2.2.2.1)||b.1,())
def Zk8(a:Zg):Option (Bool×Unit):=(Zs6 a).bind λb=>(bif b.1 then(Zy5 a)else some (false,())).bind λc=>(bif(b.1&&c.1)then(Ztn a)else some (false,())).bind λd=>some ((b.1&&c.1)&&d.1,())
def Q1(a:Qt):Option (Qt×Bool×Unit):=(Zoj a).bind λb=>bif(!b.1)||(a.2.2.2.1==a.2.2.1)then some (a,false,()) else some ((a.1,a.2.1,a.2.2.1,IntKind.i64.wrap (a.2.2.2.1+1),a.2.2.2.2),true,())
def Ztk(h:Zc)(g:Zf):Option (Zc×Int×Unit):=
 (Zce h).bind λm=>
 (bif(!m.1)then some (false,())else(Wi g)).bind λr=>
 bif((!m.1)||(!r.1))||(!(g.1==8))then
  (Qf h).bind λs=>
  some (s.1,7,())
 else
  (Qf h).bind λn=>
  (Zgr n.1.1 g.2.1).bind λt=>
  bif !t.1 then
   (Qf h).bind λu=>
   some (u.1,5,())
  else
   (Zcd n.1 g.2.1).bind λa=>
   bif a.1.1 !=0 then
    bif a.1.1 !=0 then
     (Qf h).bind λv=>
     some (v.1,a.1.1,())
    else
     some (a.2.1,0,())
   else
    (Q8 a.2.1.2.2.2.1 g.2.1).bind λf=>
    Ze (0<=f.1/\f.1<a.2.1.2.2.2.1.length)<|
    (Zs8 (a.2.1.2.2.2.1.getD f.1.toNat Zj).2.2.2.1 (IntKind.i64.wrap (g.2.2.1+(g.2.2.2.1.length:Int)))).bind λi=>
    (Zok (a.2.1.2.2.2.1.getD f.1.toNat Zj).2.2.2.2.1).bind λo=>
    (bif(decide (i.1>o.1))then some (0,())else(Zok a.2.1.2.2.2.2.2.1)).bind λw=>
    bif(decide (i.1>o.1))||(decide (i.1>w.1))then
     (Qf h).bind λx=>
     some (x.1,3,())
    else
     Zid 1 (
      (Zr2 (a.2.1.2.2.2.1.getD f.1.toNat Zj).2.2.2.1 g.2.2.1 g.2.2.2.1 g.2.2.2.2.1).bind λk=>
      bif k.2.1 !=0 then
       bif k.2.1 !=0 then
        (Qf h).bind λy=>
        some (y.1,k.2.1,())
       else
        some (a.2.1,0,())
      else
       (Zl5 (a.2.1.2.2.2.1.getD f.1.toNat Zj).2.2.2.2.1 i.1).bind λz=>
       let j:=a.2.1.2.2.2.1.set f.1.toNat ((a.2.1.2.2.2.1.getD f.1.toNat Zj).1,(a.2.1.2.2.2.1.getD f.1.toNat Zj).2.1,(a.2.1.2.2.2.1.getD f.1.toNat Zj).2.2.1,(a.2.1.2.2.2.1.getD f.1.toNat Zj).2.2.2.1,z.1,(a.2.1.2.2.2.1.getD f.1.toNat Zj).2.2.2.2.2)
       (Zl5 a.2.1.2.2.2.2.2.1 i.1).bind λp=>
       let d:=j.set f.1.toNat ((j.getD f.1.toNat Zj).1,(j.getD f.1.toNat Zj).2.1,(j.getD f.1.toNat Zj).2.2.1,k.1,(j.getD f.1.toNat Zj).2.2.2.2)
       (Q8 d g.2.1).bind λe=>
       Ze (0<=e.1/\e.1<d.length)<|
       (Zjd a.2.1.1 g.2.1).bind λA=>
       let q:=A.1||(d.getD e.1.toNat Zj).2.2.2.2.2.2.2.2.2.2.2.2.2.1
       (bif q then some (false,())else(Zk8 (d.getD e.1.toNat Zj))).bind λB=>
       bif q||(!B.1)then
        some ((a.2.1.1,a.2.1.2.1,a.2.1.2.2.1,d,a.2.1.2.2.2.2.1,p.1,a.2.1.2.2.2.2.2.2),0,())
       else
        let C:=d.set e.1.toNat ((d.getD e.1.toNat Zj).1,(d.getD e.1.toNat Zj).2.1,(d.getD e.1.toNat Zj).2.2.1,(d.getD e.1.toNat Zj).2.2.2.1,(d.getD e.1.toNat Zj).2.2.2.2.1,(d.getD e.1.toNat Zj).2.2.2.2.2.1,(d.getD e.1.toNat Zj).2.2.2.2.2.2.1,(d.getD e.1.toNat Zj).2.2.2.2.2.2.2.1,(d.getD e.1.toNat Zj).2.2.2.2.2.2.2.2.1,(d.getD e.1.toNat Zj).2.2.2.2.2.2.2.2.2.1,(d.getD e.1.toNat Zj).2.2.2.2.2.2.2.2.2.2.1,(d.getD e.1.toNat Zj).2.2.2.2.2.2.2.2.2.2.2.1,(d.getD e.1.toNat Zj).2.2.2.2.2.2.2.2.2.2.2.2.1,true,(d.getD e.1.toNat Zj).2.2.2.2.2.2.2.2.2.2.2.2.2.2)
        Option.bind (Qa (a.2.1.1,a.2.1.2.1,a.2.1.2.2.1,C,a.2.1.2.2.2.2.1,p.1,a.2.1.2.2.2.2.2.2) g.2.1) λl=>
        bif l.1 then
         (Qa l.2.1 g.2.1).bind λb=>
         bif b.1 then
          (Q1 b.2.1.2.2.2.2.2.2.2.2.2.1).bind λD=>
          let E:Zc:=(b.2.1.1,b.2.1.2.1,b.2.1.2.2.1,b.2.1.2.2.2.1,b.2.1.2.2.2.2.1,b.2.1.2.2.2.2.2.1,b.2.1.2.2.2.2.2.2.1,b.2.1.2.2.2.2.2.2.2.1,b.2.1.2.2.2.2.2.2.2.2.1,D.1,b.2.1.2.2.2.2.2.2.2.2.2.2)
          some (E,0,())
         else
          (Q1 b.2.1.2.2.2.2.2.2.2.2.1).bind λF=>
          let G:Zc:=(b.2.1.1,b.2.1.2.1,b.2.1.2.2.1,b.2.1.2.2.2.1,b.2.1.2.2.2.2.1,b.2.1.2.2.2.2.2.1,b.2.1.2.2.2.2.2.2.1,b.2.1.2.2.2.2.2.2.2.1,b.2.1.2.2.2.2.2.2.2.2.1,F.1,b.2.1.2.2.2.2.2.2.2.2.2.2)
          some (G,0,())
        else
         (Qa l.2.1 g.2.1).bind λc=>
         bif c.1 then
          (Q1 c.2.1.2.2.2.2.2.2.2.2.2.1).bind λH=>
          let I:Zc:=(c.2.1.1,c.2.1.2.1,c.2.1.2.2.1,c.2.1.2.2.2.1,c.2.1.2.2.2.2.1,c.2.1.2.2.2.2.2.1,c.2.1.2.2.2.2.2.2.1,c.2.1.2.2.2.2.2.2.2.1,H.1,c.2.1.2.2.2.2.2.2.2.2.2)
          some (I,0,())
         else
          (Q1 c.2.1.2.2.2.2.2.2.2.2.1).bind λJ=>
          let K:Zc:=(c.2.1.1,c.2.1.2.1,c.2.1.2.2.1,c.2.1.2.2.2.1,c.2.1.2.2.2.2.1,c.2.1.2.2.2.2.2.1,c.2.1.2.2.2.2.2.2.1,c.2.1.2.2.2.2.2.2.2.1,J.1,c.2.1.2.2.2.2.2.2.2.2.2)
          some (K,0,())
     )
def Zqa(b:Zx)(e c:Int):Option (Zx×Int×Unit):=(Zda b).bind λa=>(Zd2 b).bind λd=>(bif(!d.1)then some (false,())else(Xg e)).bind λf=>(bif((!d.1)||(!f.1))then some (false,())else(Xg c)).bind λg=>bif((!d.1)||(!f.1))||(!g.1)then some (a.1,7,()) else (Zr5 b c true).bind λh=>bif h.1 then some (a.1,6,()) else (Zt6 b).bind λi=>bif !i.1 then some (a.1,0,()) else some ((4,(a.1.2.1.1,[],a.1.2.1.2.2),c,c,e,a.1.2.2.2.2.2),0,())
def Zje(a:Qg)(b:Int):Option (Qg×Bool×Unit):=(Zif a).bind λc=>(bif(!c.1)then some (false,())else(Z0 b 0 (IntKind.i64.wrap (a.2.2.2.1-a.2.2.2.2.1)))).bind λd=>bif(!c.1)||(!d.1)then some (a,false,()) else some ((a.1,a.2.1,a.2.2.1,a.2.2.2.1,IntKind.i64.wrap (a.2.2.2.2.1+b),a.2.2.2.2.2),true,())
def Zrz(l:Zc)(i:Zf):Option (Zc×Int×Unit):=
 (Zce l).bind λs=>
 (bif(!s.1)then some (false,())else(Wi i)).bind λz=>
 bif((!s.1)||(!z.1))||(!(i.1==4))then
  (Qf l).bind λA=>
  some (A.1,7,())
 else
  (Qf l).bind λt=>
  (Zgr t.1.1 i.2.1).bind λB=>
  bif !B.1 then
   (Qf l).bind λC=>
   some (C.1,5,())
  else
   (Zcd t.1 i.2.1).bind λa=>
   bif a.1.1 !=0 then
    bif a.1.1 !=0 then
     (Qf l).bind λD=>
     some (D.1,a.1.1,())
    else
     some (a.2.1,0,())
   else
    (Q8 a.2.1.2.2.2.1 i.2.1).bind λc=>
    Ze (0<=c.1/\c.1<a.2.1.2.2.2.1.length)<|
    (Zs8 (a.2.1.2.2.2.1.getD c.1.toNat Zj).2.2.2.1 i.2.2.2.2.2.2.2.1).bind λn=>
    (Zok (a.2.1.2.2.2.1.getD c.1.toNat Zj).2.2.2.2.1).bind λu=>
    (bif(decide (n.1>u.1))then some (0,())else(Zok a.2.1.2.2.2.2.2.1)).bind λE=>
    bif(decide (n.1>u.1))||(decide (n.1>E.1))then
     (Qf l).bind λF=>
     some (F.1,3,())
    else
     Zid 1 (
      (Zqa (a.2.1.2.2.2.1.getD c.1.toNat Zj).2.2.2.1 i.2.2.2.2.2.1 i.2.2.2.2.2.2.2.1).bind λo=>
      bif o.2.1 !=0 then
       bif o.2.1 !=0 then
        (Qf l).bind λG=>
        some (G.1,o.2.1,())
       else
        some (a.2.1,0,())
      else
       (Zl5 (a.2.1.2.2.2.1.getD c.1.toNat Zj).2.2.2.2.1 n.1).bind λH=>
       let m:=a.2.1.2.2.2.1.set c.1.toNat ((a.2.1.2.2.2.1.getD c.1.toNat Zj).1,(a.2.1.2.2.2.1.getD c.1.toNat Zj).2.1,(a.2.1.2.2.2.1.getD c.1.toNat Zj).2.2.1,(a.2.1.2.2.2.1.getD c.1.toNat Zj).2.2.2.1,H.1,(a.2.1.2.2.2.1.getD c.1.toNat Zj).2.2.2.2.2)
       (Zl5 a.2.1.2.2.2.2.2.1 n.1).bind λp=>
       let I:=(m.getD c.1.toNat Zj).2.2.2.1.1 !=4
       let b:=m.set c.1.toNat ((m.getD c.1.toNat Zj).1,(m.getD c.1.toNat Zj).2.1,(m.getD c.1.toNat Zj).2.2.1,o.1,(m.getD c.1.toNat Zj).2.2.2.2)
       bif(o.1.1==4)&&I then
        let v:=IntKind.i64.wrap (i.2.2.2.2.2.2.2.1- (b.getD c.1.toNat Zj).2.2.2.2.1.2.2.2.2.1)
        (Zje (b.getD c.1.toNat Zj).2.2.2.2.1 v).bind λJ=>
        let h:=b.set c.1.toNat ((b.getD c.1.toNat Zj).1,(b.getD c.1.toNat Zj).2.1,(b.getD c.1.toNat Zj).2.2.1,(b.getD c.1.toNat Zj).2.2.2.1,J.1,(b.getD c.1.toNat Zj).2.2.2.2.2)
        (Zje p.1 v).bind λw=>
        (Q8 h i.2.1).bind λj=>
        Ze (0<=j.1/\j.1<h.length)<|
        (Zjd a.2.1.1 i.2.1).bind λK=>
        let x:=K.1||(h.getD j.1.toNat Zj).2.2.2.2.2.2.2.2.2.2.2.2.2.1
        (bif x then some (false,())else(Zk8 (h.getD j.1.toNat Zj))).bind λL=>
        bif x||(!L.1)then
         some ((a.2.1.1,a.2.1.2.1,a.2.1.2.2.1,h,a.2.1.2.2.2.2.1,w.1,a.2.1.2.2.2.2.2.2),0,())
        else
         let M:=h.set j.1.toNat ((h.getD j.1.toNat Zj).1,(h.getD j.1.toNat Zj).2.1,(h.getD j.1.toNat Zj).2.2.1,(h.getD j.1.toNat Zj).2.2.2.1,(h.getD j.1.toNat Zj).2.2.2.2.1,(h.getD j.1.toNat Zj).2.2.2.2.2.1,(h.getD j.1.toNat Zj).2.2.2.2.2.2.1,(h.getD j.1.toNat Zj).2.2.2.2.2.2.2.1,(h.getD j.1.toNat Zj).2.2.2.2.2.2.2.2.1,(h.getD j.1.toNat Zj).2.2.2.2.2.2.2.2.2.1,(h.getD j.1.toNat Zj).2.2.2.2.2.2.2.2.2.2.1,(h.getD j.1.toNat Zj).2.2.2.2.2.2.2.2.2.2.2.1,(h.getD j.1.toNat Zj).2.2.2.2.2.2.2.2.2.2.2.2.1,true,(h.getD j.1.toNat Zj).2.2.2.2.2.2.2.2.2.2.2.2.2.2)
         Option.bind (Qa (a.2.1.1,a.2.1.2.1,a.2.1.2.2.1,M,a.2.1.2.2.2.2.1,w.1,a.2.1.2.2.2.2.2.2) i.2.1) λq=>
         bif q.1 then
          (Qa q.2.1 i.2.1).bind λd=>
          bif d.1 then
           (Q1 d.2.1.2.2.2.2.2.2.2.2.2.1).bind λO=>
           let P:Zc:=(d.2.1.1,d.2.1.2.1,d.2.1.2.2.1,d.2.1.2.2.2.1,d.2.1.2.2.2.2.1,d.2.1.2.2.2.2.2.1,d.2.1.2.2.2.2.2.2.1,d.2.1.2.2.2.2.2.2.2.1,d.2.1.2.2.2.2.2.2.2.2.1,O.1,d.2.1.2.2.2.2.2.2.2.2.2.2)
           some (P,0,())
          else
           (Q1 d.2.1.2.2.2.2.2.2.2.2.1).bind λQ=>
           let S:Zc:=(d.2.1.1,d.2.1.2.1,d.2.1.2.2.1,d.2.1.2.2.2.1,d.2.1.2.2.2.2.1,d.2.1.2.2.2.2.2.1,d.2.1.2.2.2.2.2.2.1,d.2.1.2.2.2.2.2.2.2.1,d.2.1.2.2.2.2.2.2.2.2.1,Q.1,d.2.1.2.2.2.2.2.2.2.2.2.2)
           some (S,0,())
         else
          (Qa q.2.1 i.2.1).bind λf=>
          bif f.1 then
           (Q1 f.2.1.2.2.2.2.2.2.2.2.2.1).bind λU=>
           let V:Zc:=(f.2.1.1,f.2.1.2.1,f.2.1.2.2.1,f.2.1.2.2.2.1,f.2.1.2.2.2.2.1,f.2.1.2.2.2.2.2.1,f.2.1.2.2.2.2.2.2.1,f.2.1.2.2.2.2.2.2.2.1,U.1,f.2.1.2.2.2.2.2.2.2.2.2)
           some (V,0,())
          else
           (Q1 f.2.1.2.2.2.2.2.2.2.2.1).bind λW=>
           let X:Zc:=(f.2.1.1,f.2.1.2.1,f.2.1.2.2.1,f.2.1.2.2.2.1,f.2.1.2.2.2.2.1,f.2.1.2.2.2.2.2.1,f.2.1.2.2.2.2.2.2.1,f.2.1.2.2.2.2.2.2.2.1,W.1,f.2.1.2.2.2.2.2.2.2.2.2)
           some (X,0,())
       else
        (Q8 b i.2.1).bind λk=>
        Ze (0<=k.1/\k.1<b.length)<|
        (Zjd a.2.1.1 i.2.1).bind λaa=>
        let y:=aa.1||(b.getD k.1.toNat Zj).2.2.2.2.2.2.2.2.2.2.2.2.2.1
        (bif y then some (false,())else(Zk8 (b.getD k.1.toNat Zj))).bind λab=>
        bif y||(!ab.1)then
         some ((a.2.1.1,a.2.1.2.1,a.2.1.2.2.1,b,a.2.1.2.2.2.2.1,p.1,a.2.1.2.2.2.2.2.2),0,())
        else
         let ac:=b.set k.1.toNat ((b.getD k.1.toNat Zj).1,(b.getD k.1.toNat Zj).2.1,(b.getD k.1.toNat Zj).2.2.1,(b.getD k.1.toNat Zj).2.2.2.1,(b.getD k.1.toNat Zj).2.2.2.2.1,(b.getD k.1.toNat Zj).2.2.2.2.2.1,(b.getD k.1.toNat Zj).2.2.2.2.2.2.1,(b.getD k.1.toNat Zj).2.2.2.2.2.2.2.1,(b.getD k.1.toNat Zj).2.2.2.2.2.2.2.2.1,(b.getD k.1.toNat Zj).2.2.2.2.2.2.2.2.2.1,(b.getD k.1.toNat Zj).2.2.2.2.2.2.2.2.2.2.1,(b.getD k.1.toNat Zj).2.2.2.2.2.2.2.2.2.2.2.1,(b.getD k.1.toNat Zj).2.2.2.2.2.2.2.2.2.2.2.2.1,true,(b.getD k.1.toNat Zj).2.2.2.2.2.2.2.2.2.2.2.2.2.2)
         Option.bind (Qa (a.2.1.1,a.2.1.2.1,a.2.1.2.2.1,ac,a.2.1.2.2.2.2.1,p.1,a.2.1.2.2.2.2.2.2) i.2.1) λr=>
         bif r.1 then
          (Qa r.2.1 i.2.1).bind λe=>
          bif e.1 then
           (Q1 e.2.1.2.2.2.2.2.2.2.2.2.1).bind λad=>
           let ae:Zc:=(e.2.1.1,e.2.1.2.1,e.2.1.2.2.1,e.2.1.2.2.2.1,e.2.1.2.2.2.2.1,e.2.1.2.2.2.2.2.1,e.2.1.2.2.2.2.2.2.1,e.2.1.2.2.2.2.2.2.2.1,e.2.1.2.2.2.2.2.2.2.2.1,ad.1,e.2.1.2.2.2.2.2.2.2.2.2.2)
           some (ae,0,())
          else
           (Q1 e.2.1.2.2.2.2.2.2.2.2.1).bind λaf=>
           let ag:Zc:=(e.2.1.1,e.2.1.2.1,e.2.1.2.2.1,e.2.1.2.2.2.1,e.2.1.2.2.2.2.1,e.2.1.2.2.2.2.2.1,e.2.1.2.2.2.2.2.2.1,e.2.1.2.2.2.2.2.2.2.1,e.2.1.2.2.2.2.2.2.2.2.1,af.1,e.2.1.2.2.2.2.2.2.2.2.2.2)
           some (ag,0,())
         else
          (Qa r.2.1 i.2.1).bind λg=>
          bif g.1 then
           (Q1 g.2.1.2.2.2.2.2.2.2.2.2.1).bind λah=>
           let ai:Zc:=(g.2.1.1,g.2.1.2.1,g.2.1.2.2.1,g.2.1.2.2.2.1,g.2.1.2.2.2.2.1,g.2.1.2.2.2.2.2.1,g.2.1.2.2.2.2.2.2.1,g.2.1.2.2.2.2.2.2.2.1,ah.1,g.2.1.2.2.2.2.2.2.2.2.2)
           some (ai,0,())
          else
           (Q1 g.2.1.2.2.2.2.2.2.2.2.1).bind λaj=>
           let ak:Zc:=(g.2.1.1,g.2.1.2.1,g.2.1.2.2.1,g.2.1.2.2.2.1,g.2.1.2.2.2.2.1,g.2.1.2.2.2.2.2.1,g.2.1.2.2.2.2.2.2.1,g.2.1.2.2.2.2.2.2.2.1,aj.1,g.2.1.2.2.2.2.2.2.2.2.2)
           some (ak,0,())
     )
def Zl6(a:Zp):Option (Bool×Unit):=(Zs5 a).bind λb=>(bif b.1 then(Z0 a.1 0 2)else some (false,())).bind λc=>some (b.1&&c.1,())
def Zsv(b:Int)(a d:Zp)(c:Xu):Option (Zp×Bool×Unit):=some ((4,c,[],[],[],a.2.2.2.2.2.2.2.1,0,a.2.2.2.2.2.2.2.1,b,()),true,())
def Zr4(a:Zp)(b:Int):Option (Zp×Bool×Unit):=(Zl6 a).bind λc=>(bif(!c.1)then some (false,())else(Xg b)).bind λd=>bif(!c.1)||(!d.1)then (Zkl a).bind λe=>some (e.1,false,()) else Zfs (Ze (0<=a.2.1.1/\a.2.1.1<=a.2.1.1/\a.2.1.1<=Qd)<|Zid 1 (Zsv b a Zaw (a.2.1.1,a.2.2.2.2.2.2.2.1,a.2.2.2.2.2.2.2.1,List.replicate a.2.1.1.toNat 0,()))) (Ze (0<=a.2.1.1/\a.2.1.1<=a.2.1.1/\a.2.1.1<=Qd)<|Zsv b a Zaw (a.2.1.1,a.2.2.2.2.2.2.2.1,a.2.2.2.2.2.2.2.1,List.replicate a.2.1.1.toNat 0,()))
def Ztl(l:Zc)(i:Zf):Option (Zc×Int×Unit):=
 (Zce l).bind λo=>
 (bif(!o.1)then some (false,())else(Wi i)).bind λt=>
 bif((!o.1)||(!t.1))||(!(i.1==5))then
  (Qf l).bind λu=>
  some (u.1,7,())
 else
  (Qf l).bind λp=>
  (Zqs p.1.1 i.2.1).bind λv=>
  bif !v.1 then
   (Qf l).bind λw=>
   some (w.1,5,())
  else
   (Zcd p.1 i.2.1).bind λa=>
   bif a.1.1 !=0 then
    bif a.1.1 !=0 then
     (Qf l).bind λx=>
     some (x.1,a.1.1,())
    else
     some (a.2.1,0,())
   else
    (Q8 a.2.1.2.2.2.1 i.2.1).bind λj=>
    Ze (0<=j.1/\j.1<a.2.1.2.2.2.1.length)<|
    Zid 1 (
     (Zr4 (a.2.1.2.2.2.1.getD j.1.toNat Zj).2.1 i.2.2.2.2.2.1).bind λq=>
     bif q.2.1 then
      let k:=a.2.1.2.2.2.1.set j.1.toNat ((a.2.1.2.2.2.1.getD j.1.toNat Zj).1,q.1,(a.2.1.2.2.2.1.getD j.1.toNat Zj).2.2)
      let f:=k.set j.1.toNat ((k.getD j.1.toNat Zj).1,(k.getD j.1.toNat Zj).2.1,(k.getD j.1.toNat Zj).2.2.1,(k.getD j.1.toNat Zj).2.2.2.1,(k.getD j.1.toNat Zj).2.2.2.2.1,(k.getD j.1.toNat Zj).2.2.2.2.2.1,(k.getD j.1.toNat Zj).2.2.2.2.2.2.1,(k.getD j.1.toNat Zj).2.2.2.2.2.2.2.1,true,(k.getD j.1.toNat Zj).2.2.2.2.2.2.2.2.2)
      (Q8 f i.2.1).bind λg=>
      Ze (0<=g.1/\g.1<f.length)<|
      (Zjd a.2.1.1 i.2.1).bind λy=>
      let r:=y.1||(f.getD g.1.toNat Zj).2.2.2.2.2.2.2.2.2.2.2.2.2.1
      (bif r then some (false,())else(Zk8 (f.getD g.1.toNat Zj))).bind λz=>
      bif r||(!z.1)then
       some ((a.2.1.1,a.2.1.2.1,a.2.1.2.2.1,f,a.2.1.2.2.2.2),0,())
      else
       let A:=f.set g.1.toNat ((f.getD g.1.toNat Zj).1,(f.getD g.1.toNat Zj).2.1,(f.getD g.1.toNat Zj).2.2.1,(f.getD g.1.toNat Zj).2.2.2.1,(f.getD g.1.toNat Zj).2.2.2.2.1,(f.getD g.1.toNat Zj).2.2.2.2.2.1,(f.getD g.1.toNat Zj).2.2.2.2.2.2.1,(f.getD g.1.toNat Zj).2.2.2.2.2.2.2.1,(f.getD g.1.toNat Zj).2.2.2.2.2.2.2.2.1,(f.getD g.1.toNat Zj).2.2.2.2.2.2.2.2.2.1,(f.getD g.1.toNat Zj).2.2.2.2.2.2.2.2.2.2.1,(f.getD g.1.toNat Zj).2.2.2.2.2.2.2.2.2.2.2.1,(f.getD g.1.toNat Zj).2.2.2.2.2.2.2.2.2.2.2.2.1,true,(f.getD g.1.toNat Zj).2.2.2.2.2.2.2.2.2.2.2.2.2.2)
       (Qa (a.2.1.1,a.2.1.2.1,a.2.1.2.2.1,A,a.2.1.2.2.2.2) i.2.1).bind λm=>
       bif m.1 then
        (Qa m.2.1 i.2.1).bind λb=>
        bif b.1 then
         (Q1 b.2.1.2.2.2.2.2.2.2.2.2.1).bind λB=>
         let C:Zc:=(b.2.1.1,b.2.1.2.1,b.2.1.2.2.1,b.2.1.2.2.2.1,b.2.1.2.2.2.2.1,b.2.1.2.2.2.2.2.1,b.2.1.2.2.2.2.2.2.1,b.2.1.2.2.2.2.2.2.2.1,b.2.1.2.2.2.2.2.2.2.2.1,B.1,b.2.1.2.2.2.2.2.2.2.2.2.2)
         some (C,0,())
        else
         (Q1 b.2.1.2.2.2.2.2.2.2.2.1).bind λD=>
         let E:Zc:=(b.2.1.1,b.2.1.2.1,b.2.1.2.2.1,b.2.1.2.2.2.1,b.2.1.2.2.2.2.1,b.2.1.2.2.2.2.2.1,b.2.1.2.2.2.2.2.2.1,b.2.1.2.2.2.2.2.2.2.1,b.2.1.2.2.2.2.2.2.2.2.1,D.1,b.2.1.2.2.2.2.2.2.2.2.2.2)
         some (E,0,())
       else
        (Qa m.2.1 i.2.1).bind λd=>
        bif d.1 then
         (Q1 d.2.1.2.2.2.2.2.2.2.2.2.1).bind λF=>
         let G:Zc:=(d.2.1.1,d.2.1.2.1,d.2.1.2.2.1,d.2.1.2.2.2.1,d.2.1.2.2.2.2.1,d.2.1.2.2.2.2.2.1,d.2.1.2.2.2.2.2.2.1,d.2.1.2.2.2.2.2.2.2.1,F.1,d.2.1.2.2.2.2.2.2.2.2.2)
         some (G,0,())
        else
         (Q1 d.2.1.2.2.2.2.2.2.2.2.1).bind λH=>
         let I:Zc:=(d.2.1.1,d.2.1.2.1,d.2.1.2.2.1,d.2.1.2.2.2.1,d.2.1.2.2.2.2.1,d.2.1.2.2.2.2.2.1,d.2.1.2.2.2.2.2.2.1,d.2.1.2.2.2.2.2.2.2.1,H.1,d.2.1.2.2.2.2.2.2.2.2.2)
         some (I,0,())
     else
      (Q8 a.2.1.2.2.2.1 i.2.1).bind λh=>
      Ze (0<=h.1/\h.1<a.2.1.2.2.2.1.length)<|
      (Zjd a.2.1.1 i.2.1).bind λJ=>
      let s:=J.1||(a.2.1.2.2.2.1.getD h.1.toNat Zj).2.2.2.2.2.2.2.2.2.2.2.2.2.1
      (bif s then some (false,())else(Zk8 (a.2.1.2.2.2.1.getD h.1.toNat Zj))).bind λK=>
      bif s||(!K.1)then
       some (a.2.1,0,())
      else
       let L:=a.2.1.2.2.2.1.set h.1.toNat ((a.2.1.2.2.2.1.getD h.1.toNat Zj).1,(a.2.1.2.2.2.1.getD h.1.toNat Zj).2.1,(a.2.1.2.2.2.1.getD h.1.toNat Zj).2.2.1,(a.2.1.2.2.2.1.getD h.1.toNat Zj).2.2.2.1,(a.2.1.2.2.2.1.getD h.1.toNat Zj).2.2.2.2.1,(a.2.1.2.2.2.1.getD h.1.toNat Zj).2.2.2.2.2.1,(a.2.1.2.2.2.1.getD h.1.toNat Zj).2.2.2.2.2.2.1,(a.2.1.2.2.2.1.getD h.1.toNat Zj).2.2.2.2.2.2.2.1,(a.2.1.2.2.2.1.getD h.1.toNat Zj).2.2.2.2.2.2.2.2.1,(a.2.1.2.2.2.1.getD h.1.toNat Zj).2.2.2.2.2.2.2.2.2.1,(a.2.1.2.2.2.1.getD h.1.toNat Zj).2.2.2.2.2.2.2.2.2.2.1,(a.2.1.2.2.2.1.getD h.1.toNat Zj).2.2.2.2.2.2.2.2.2.2.2.1,(a.2.1.2.2.2.1.getD h.1.toNat Zj).2.2.2.2.2.2.2.2.2.2.2.2.1,true,(a.2.1.2.2.2.1.getD h.1.toNat Zj).2.2.2.2.2.2.2.2.2.2.2.2.2.2)
       (Qa (a.2.1.1,a.2.1.2.1,a.2.1.2.2.1,L,a.2.1.2.2.2.2) i.2.1).bind λn=>
       bif n.1 then
        (Qa n.2.1 i.2.1).bind λc=>
        bif c.1 then
         (Q1 c.2.1.2.2.2.2.2.2.2.2.2.1).bind λM=>
         let O:Zc:=(c.2.1.1,c.2.1.2.1,c.2.1.2.2.1,c.2.1.2.2.2.1,c.2.1.2.2.2.2.1,c.2.1.2.2.2.2.2.1,c.2.1.2.2.2.2.2.2.1,c.2.1.2.2.2.2.2.2.2.1,c.2.1.2.2.2.2.2.2.2.2.1,M.1,c.2.1.2.2.2.2.2.2.2.2.2.2)
         some (O,0,())
        else
         (Q1 c.2.1.2.2.2.2.2.2.2.2.1).bind λP=>
         let Q:Zc:=(c.2.1.1,c.2.1.2.1,c.2.1.2.2.1,c.2.1.2.2.2.1,c.2.1.2.2.2.2.1,c.2.1.2.2.2.2.2.1,c.2.1.2.2.2.2.2.2.1,c.2.1.2.2.2.2.2.2.2.1,c.2.1.2.2.2.2.2.2.2.2.1,P.1,c.2.1.2.2.2.2.2.2.2.2.2.2)
         some (Q,0,())
       else
        (Qa n.2.1 i.2.1).bind λe=>
        bif e.1 then
         (Q1 e.2.1.2.2.2.2.2.2.2.2.2.1).bind λS=>
         let U:Zc:=(e.2.1.1,e.2.1.2.1,e.2.1.2.2.1,e.2.1.2.2.2.1,e.2.1.2.2.2.2.1,e.2.1.2.2.2.2.2.1,e.2.1.2.2.2.2.2.2.1,e.2.1.2.2.2.2.2.2.2.1,S.1,e.2.1.2.2.2.2.2.2.2.2.2)
         some (U,0,())
        else
         (Q1 e.2.1.2.2.2.2.2.2.2.2.1).bind λV=>
         let W:Zc:=(e.2.1.1,e.2.1.2.1,e.2.1.2.2.1,e.2.1.2.2.2.1,e.2.1.2.2.2.2.1,e.2.1.2.2.2.2.2.1,e.2.1.2.2.2.2.2.2.1,e.2.1.2.2.2.2.2.2.2.1,V.1,e.2.1.2.2.2.2.2.2.2.2.2)
         some (W,0,())
    )
def Zo3(a:Qt)(b:Int):Option (Qt×Unit):=(Zc4 a).bind λc=>bif(c.1&&(decide (b>a.1)))&&(decide (b<=4611686018427387903))then some ((b,a.2.1,(-1:Int),a.2.2.2),()) else some (a,())
def Ze4(a:Zc)(b:Bool):Option ((Bool)×(Zc×Unit)):=bif b then some (true,a,()) else some (false,a,())
def Zo2(a:Ze2)(b:Int):Option (Ze2×Unit):=(Zvn a).bind λc=>bif(c.1&&(decide (b>a.1)))&&(decide (b<=1152921504606846976))then some ((b,a.2.1,(-1:Int),a.2.2.2),()) else some (a,())
def Zry(e:Zc)(a:Zf):Option (Zc×Int×Unit):=(Zce e).bind λh=>(bif(!h.1)then some (false,())else(Wi a)).bind λi=>bif((!h.1)||(!i.1))||(!(((a.1 !=8)&&(a.1 !=4))&&(a.1 !=5)))then (Qf e).bind λj=>some (j.1,7,()) else (Qf e).bind λd=>bif a.1==16 then (Zo3 d.1.2.2.2.2.1 a.2.2.2.2.2.2.1).bind λk=>some ((d.1.1,d.1.2.1,d.1.2.2.1,d.1.2.2.2.1,k.1,d.1.2.2.2.2.2),0,()) else bif a.1==18 then (Ze4 d.1 a.2.2.2.2.2.2.2.2.1).bind λb=>bif b.1 then (Zo2 b.2.1.2.2.2.2.2.2.2.1 a.2.2.2.2.2.2.1).bind λl=>some ((b.2.1.1,b.2.1.2.1,b.2.1.2.2.1,b.2.1.2.2.2.1,b.2.1.2.2.2.2.1,b.2.1.2.2.2.2.2.1,b.2.1.2.2.2.2.2.2.1,l.1,b.2.1.2.2.2.2.2.2.2.2),0,()) else (Zo2 b.2.1.2.2.2.2.2.2.1 a.2.2.2.2.2.2.1).bind λm=>some ((b.2.1.1,b.2.1.2.1,b.2.1.2.2.1,b.2.1.2.2.2.1,b.2.1.2.2.2.2.1,b.2.1.2.2.2.2.2.1,m.1,b.2.1.2.2.2.2.2.2.2),0,()) else bif a.1==17 then (Zqs d.1.1 a.2.1).bind λn=>bif !n.1 then (Qf e).bind λo=>some (o.1,5,()) else (Zcd d.1 a.2.1).bind λc=>bif c.1.1 !=0 then bif c.1.1 !=0 then (Qf e).bind λp=>some (p.1,c.1.1,()) else some (c.2.1,0,()) else (Q8 c.2.1.2.2.2.1 a.2.1).bind λf=>Ze (0<=f.1/\f.1<c.2.1.2.2.2.1.length)<|(Zo3 (c.2.1.2.2.2.1.getD f.1.toNat Zj).2.2.1 a.2.2.2.2.2.2.1).bind λq=>some ((c.2.1.1,c.2.1.2.1,c.2.1.2.2.1,c.2.1.2.2.2.1.set f.1.toNat ((c.2.1.2.2.2.1.getD f.1.toNat Zj).1,(c.2.1.2.2.2.1.getD f.1.toNat Zj).2.1,q.1,(c.2.1.2.2.2.1.getD f.1.toNat Zj).2.2.2),c.2.1.2.2.2.2),0,()) else bif a.1==21 then (Zgr d.1.1 a.2.1).bind λr=>bif !r.1 then (Qf e).bind λs=>some (s.1,5,()) else (Zcd d.1 a.2.1).bind λg=>bif g.1.1 !=0 then (Qf e).bind λt=>some (t.1,g.1.1,()) else some (g.2.1,0,()) else some (d.1,0,())
def Zrx(b:Zc)(a:Zf):Option (Zc×Int×Unit):=bif a.1==8 then (Ztk b a).bind λc=>some (c.1,c.2.1,()) else bif a.1==4 then (Zrz b a).bind λd=>some (d.1,d.2.1,()) else bif a.1==5 then (Ztl b a).bind λe=>some (e.1,e.2.1,()) else (Zry b a).bind λf=>some (f.1,f.2.1,())
def Zqx(c:Zc)(d:List Zf)(e:Zc)(a b:Int):Nat:=(a-b).toNat+1
def Zer:Nat->Zc->List Zf->Zc->Int->Int->Option (Zc×Int×Unit)|0,_,_,_,_,_=>none|N+1,f,c,d,e,a=>bif decide (a<e)then Ze (0<=a/\a<c.length)<|(Zrx d (c.getD a.toNat Qk)).bind λb=>bif b.2.1 !=0 then (Zqt d b.2.1).bind λg=>some (g.1,b.2.1,()) else Zer N f c b.1 e (IntKind.i64.wrap (a+1)) else some (d,(0:Int),())
def Zjc(a:Zc)(e:List UInt8):Option (Zc×Int×Unit):=(Zce a).bind λc=>(bif(!c.1)then some (false,())else(Zpl a)).bind λf=>bif(!c.1)||f.1 then (Qf a).bind λg=>some (g.1,a.2.2.2.2.2.2.2.2.2.2.2.2.2.2.2.2.2.1,()) else (Zt4 e).bind λb=>bif !b.2.1 then (Zqt a 7).bind λh=>some (h.1,7,()) else (Qf a).bind λd=>Zer (Zqx Yi b.1 d.1 (b.1.length:Int) (0:Int)) Yi b.1 d.1 (b.1.length:Int) (0:Int)
def Zef(c d:Zc)(e:List (List UInt8))(a b:Int):Nat:=(a-b).toNat+1
def Zf6:Nat->Zc->Zc->List (List UInt8)->Int->Int->Option (Zc×Unit)|0,_,_,_,_,_=>none|N+1,e,c,b,d,a=>bif decide (a<d)then Ze (0<=a/\a<b.length)<|(Zjc c (b.getD a.toNat ([]:List UInt8))).bind λf=>Zf6 N e f.1 b d (IntKind.i64.wrap (a+1)) else some (c,())
def Zk7(c:Zc)(a:List (List UInt8)):Option (Zc×Unit):=(Qf c).bind λb=>Zf6 (Zef Yi b.1 a (a.length:Int) (0:Int)) Yi b.1 a (a.length:Int) (0:Int)
def Znt(c:List UInt8)(d a e b:Int):Nat:=(a-b).toNat+1
def Zb4:Nat->List UInt8->Int->Int->Int->Int->Option (Int×Int×Bool×Unit)|0,_,_,_,_,_=>none|N+1,c,a,d,e,b=>bif decide (b<d)then Ze (0<=(8:Int))<|Ze (0<=(IntKind.i64.wrap (a+b))/\(IntKind.i64.wrap (a+b))<c.length)<|Zb4 N c a d (bits .or .i64 (IntKind.i64.wrap (e*2^ (min (8:Int).toNat IntKind.i64.bits))) (IntKind.i64.wrap ((c.getD (IntKind.i64.wrap (a+b)).toNat 0).toNat:Int))) (IntKind.i64.wrap (b+1)) else some (e,IntKind.i64.wrap (a+d),true,())
def Xp(b:List UInt8)(a:Int):Option (Int×Int×Bool×Unit):=
 bif(decide (a<0))||(decide (a>=(b.length:Int)))then
  some (0,0,false,())
 else
  Ze (0<=a/\a<b.length)<|
  Ze (0<=(6:Int))<|
  let d:=((b.getD a.toNat 0).toNat:Int).fdiv (2^ (min (6:Int).toNat IntKind.u8.bits))
  Ze (0<=d)<|
  let c:=IntKind.i64.wrap (1*2^ (min d.toNat IntKind.i64.bits))
  bif decide ((IntKind.i64.wrap ((b.length:Int)-a))<c)then
   some (0,0,false,())
  else
   Ze (0<=a/\a<b.length)<|
   let e:=IntKind.i64.wrap (bits .and .u8 ((b.getD a.toNat 0).toNat:Int) 63)
   Zb4 (Znt b a c e (1:Int)) b a c e (1:Int)
def Zd0(c:List UInt8)(d a:Int)(e:List Int)(b:Int):Nat:=(a-b).toNat+1
def Zaf:Nat->List UInt8->Int->Int->List Int->Int->Option (List Int×Int×Bool×Unit)|0,_,_,_,_,_=>none|N+1,c,d,e,b,f=>bif decide (f<e)then (Xp c d).bind λa=>bif !a.2.2.1 then some ([(0:Int),(0:Int),(0:Int)],(0:Int),false,()) else Ze (b.length+([a.1]).length<=Qd)<|Zaf N c a.2.1 e (b++([a.1])) (IntKind.i64.wrap (f+1)) else some (b,d,true,())
def Zcz(a:List UInt8)(b c:Int):Option (List Int×Int×Bool×Unit):=Zaf (Zd0 a b c ([]:List Int) (0:Int)) a b c ([]:List Int) (0:Int)
def Zfr(d:List UInt8)(g a:Zf)(b c:Int):Option (Zf×Int×Bool×Unit):=
 Ze (0<=b/\b<=(IntKind.i64.wrap (b+c))/\(IntKind.i64.wrap (b+c))<=d.length)<|
 let e:=(d.drop b.toNat).take ((IntKind.i64.wrap (b+c)).toNat-b.toNat)
 (Zat (a.1,a.2.1,a.2.2.1,e,a.2.2.2.2)).bind λf=>
 bif !f.1 then
  some (Qk,0,false,())
 else
  some ((a.1,a.2.1,a.2.2.1,e,a.2.2.2.2),IntKind.i64.wrap (b+c),true,())
def Zfq(a:List UInt8)(f:Int)(d e:Zf)(c:Int):Option (Zf×Int×Bool×Unit):=bif(bits .and .i64 f 2)==2 then (Xp a c).bind λb=>bif(!b.2.2.1)||(decide (b.1>(IntKind.i64.wrap ((a.length:Int)-b.2.1))))then some (Qk,0,false,()) else Zfr a d e b.2.1 b.1 else Zfr a d e c (IntKind.i64.wrap ((a.length:Int)-c))
def Zi7(c:List UInt8)(g d:Int)(e b:Zf)(f:Int):Option (Zf×Int×Bool×Unit):=(Zcz c g f).bind λa=>bif !a.2.2.1 then some (Qk,0,false,()) else Ze (0<=(0:Int)/\(0:Int)<a.1.length)<|bif f==2 then Ze (0<=(1:Int)/\(1:Int)<a.1.length)<|Zfq c d e (b.1,a.1.getD (0:Int).toNat 0,a.1.getD (1:Int).toNat 0,b.2.2.2) a.2.1 else Zfq c d e (b.1,a.1.getD (0:Int).toNat 0,b.2.2) a.2.1
def Zmf(b:List UInt8)(c a:Int):Option (Zf×Int×Bool×Unit):=bif(bits .and .i64 a 4)==4 then Zi7 b c a Qk (8,0,0,[],(bits .and .i64 a 1)==1,0,0,0,false,()) 2 else Zi7 b c a Qk (8,0,0,[],(bits .and .i64 a 1)==1,0,0,0,false,()) 1
def Xx(e a:Zf)(c:Int)(b:Bool):Option (Zf×Int×Bool×Unit):=(bif(!b)then some (false,())else(Zat a)).bind λd=>bif(!b)||(!d.1)then some (Qk,0,false,()) else some (a,c,true,())
def Zdu(c a:Zf)(b:List Int)(d:Int)(e f:Bool):Option (Zf×Int×Bool×Unit):=bif f then Ze (0<=(0:Int)/\(0:Int)<b.length)<|Ze ((b.length:Int)≠0)<|Ze (0<=(Int.tmod (1:Int) (b.length:Int))/\(Int.tmod (1:Int) (b.length:Int))<b.length)<|Xx c (a.1,b.getD (0:Int).toNat 0,a.2.2.1,a.2.2.2.1,a.2.2.2.2.1,a.2.2.2.2.2.1,b.getD (Int.tmod (1:Int) (b.length:Int)).toNat 0,a.2.2.2.2.2.2.2) d e else Ze (0<=(0:Int)/\(0:Int)<b.length)<|Xx c (a.1,a.2.1,a.2.2.1,a.2.2.2.1,a.2.2.2.2.1,a.2.2.2.2.2.1,b.getD (0:Int).toNat 0,a.2.2.2.2.2.2.2) d e
def Jr(d:List UInt8)(e:Int)(c b:Zf)(f:Int):Option (Zf×Int×Bool×Unit):=(Zcz d (IntKind.i64.wrap (e+1)) f).bind λa=>bif b.1==4 then Ze (0<=(0:Int)/\(0:Int)<a.1.length)<|Ze ((a.1.length:Int)≠0)<|Ze (0<=(Int.tmod (1:Int) (a.1.length:Int))/\(Int.tmod (1:Int) (a.1.length:Int))<a.1.length)<|Ze ((a.1.length:Int)≠0)<|Ze (0<=(Int.tmod (2:Int) (a.1.length:Int))/\(Int.tmod (2:Int) (a.1.length:Int))<a.1.length)<|Xx c (b.1,a.1.getD (0:Int).toNat 0,b.2.2.1,b.2.2.2.1,b.2.2.2.2.1,a.1.getD (Int.tmod (1:Int) (a.1.length:Int)).toNat 0,b.2.2.2.2.2.2.1,a.1.getD (Int.tmod (2:Int) (a.1.length:Int)).toNat 0,b.2.2.2.2.2.2.2.2) a.2.1 a.2.2.1 else bif b.1==5 then Ze (0<=(0:Int)/\(0:Int)<a.1.length)<|Ze ((a.1.length:Int)≠0)<|Ze (0<=(Int.tmod (1:Int) (a.1.length:Int))/\(Int.tmod (1:Int) (a.1.length:Int))<a.1.length)<|Xx c (b.1,a.1.getD (0:Int).toNat 0,b.2.2.1,b.2.2.2.1,b.2.2.2.2.1,a.1.getD (Int.tmod (1:Int) (a.1.length:Int)).toNat 0,b.2.2.2.2.2.2) a.2.1 a.2.2.1 else bif b.1==17 then Zdu c b a.1 a.2.1 a.2.2.1 (b.1==17) else Zdu c b a.1 a.2.1 a.2.2.1 (b.1==21)
def Zdv(b:List UInt8)(c:Int)(d:Zf)(f:Int)(a:Zf)(e:Int)(g:Bool):Option (Zf×Int×Bool×Unit):=bif g then Jr b c d (IntKind.i64.wrap (f-1),a.2.1,a.2.2.1,a.2.2.2.1,a.2.2.2.2.1,a.2.2.2.2.2.1,a.2.2.2.2.2.2.1,a.2.2.2.2.2.2.2.1,true,a.2.2.2.2.2.2.2.2.2) e else Jr b c d a e
def Za4(a:List UInt8)(b:Int)(c:Zf)(f:Int)(d:Zf)(g e:Int)(h:Bool):Option (Zf×Int×Bool×Unit):=bif h then Jr a b c d 2 else bif e==19 then Zdv a b c f d g (e==19) else Zdv a b c f d g (e==23)
def Ziz(c:List UInt8)(b:Int):Option (Zf×Int×Bool×Unit):=
 let e:=(decide (b<0))||(decide (b>=(c.length:Int)))
 Ze ((e=false->(0<=b/\b<c.length)))<|
 bif e||(decide (((c.getD b.toNat 0).toNat:Int)>23))then
  some (Qk,0,false,())
 else
  Ze (0<=b/\b<c.length)<|
  let a:=IntKind.i64.wrap ((c.getD b.toNat 0).toNat:Int)
  bif(decide (a>=8))&&(decide (a<16))then
   (Zmf c (IntKind.i64.wrap (b+1)) a).bind λd=>
   some (d.1,d.2.1,d.2.2.1,())
  else
   bif a==4 then
    Jr c b Qk (a,0,0,[],false,0,0,0,false,()) 3
   else
    bif a==5 then
     Za4 c b Qk a (a,0,0,[],false,0,0,0,false,()) 1 a (a==5)
    else
     bif a==17 then
      Za4 c b Qk a (a,0,0,[],false,0,0,0,false,()) 1 a (a==17)
     else
      Za4 c b Qk a (a,0,0,[],false,0,0,0,false,()) 1 a (a==21)
def Zjm(a:List UInt8)(c:List Zf)(b:Int):Nat:=((a.length:Int)-b).toNat+1
def Jm:Nat->List UInt8->List Zf->Int->Option (List Zf×Bool×Unit)|0,_,_,_=>none|N+1,a,c,b=>bif decide (b<(a.length:Int))then Ze (0<=b/\b<a.length)<|bif((a.getD b.toNat 0).toNat:Int)==(0:Int)then Jm N a c (IntKind.i64.wrap (b+1)) else (Ziz a b).bind λd=>bif !d.2.2.1 then some (([]:List Zf),false,()) else Ze (c.length+([d.1]).length<=Qd)<|Jm N a (c++([d.1])) d.2.1 else (Z8 (a.length:Int) (1:Int) (400:Int)).bind λe=>some (c,e.1,())
def Kd(a:List UInt8):Option (List Zf×Bool×Unit):=Jm (Zjm a ([]:List Zf) (0:Int)) a ([]:List Zf) (0:Int)
def Zgb(b:Zc)(c:Int):Option (Zc×Unit):=(Z9 b).bind λa=>(bif(b.2.2.2.2.2.2.2.2.2.2.2.2.2.2.2.2.2.1==0)then(Z8 c 1 255)else some (false,())).bind λd=>bif(b.2.2.2.2.2.2.2.2.2.2.2.2.2.2.2.2.2.1==0)&&d.1 then some ((a.1.1,a.1.2.1,a.1.2.2.1,a.1.2.2.2.1,a.1.2.2.2.2.1,a.1.2.2.2.2.2.1,a.1.2.2.2.2.2.2.1,a.1.2.2.2.2.2.2.2.1,a.1.2.2.2.2.2.2.2.2.1,a.1.2.2.2.2.2.2.2.2.2.1,a.1.2.2.2.2.2.2.2.2.2.2.1,a.1.2.2.2.2.2.2.2.2.2.2.2.1,a.1.2.2.2.2.2.2.2.2.2.2.2.2.1,a.1.2.2.2.2.2.2.2.2.2.2.2.2.2.1,a.1.2.2.2.2.2.2.2.2.2.2.2.2.2.2.1,a.1.2.2.2.2.2.2.2.2.2.2.2.2.2.2.2.1,a.1.2.2.2.2.2.2.2.2.2.2.2.2.2.2.2.2.1,c,a.1.2.2.2.2.2.2.2.2.2.2.2.2.2.2.2.2.2.2),()) else some (a.1,())
def Zj5(K1:(Zc×Zc×List Zf×Int×Unit)->Option ((Zc×Int×Unit)×(Unit)))(b c:Zc)(d:List Zf)(e:Int)(f:Zc)(a:Int):Option ((Zc×Int×Unit)×(Unit)):=bif a !=0 then (Zgb c a).bind λg=>some ((g.1,a,()),()) else K1 (b,f,d,IntKind.i64.wrap (e+1),())
def W9(c d:Zc)(a:List Zf)(b:Int):Nat:=((a.length:Int)-b).toNat+1
def Wf:Nat->Zc->Zc->List Zf->Int->Option ((Zc×Int×Unit)×(Unit))|0,_,_,_,_=>none|N+1,e,c,b,a=>bif decide (a<(b.length:Int))then Ze (0<=a/\a<b.length)<|Zid 1 ((Zar c (b.getD a.toNat Qk)).bind λd=>Zj5 (λv=>Wf N v.1 v.2.1 v.2.2.1 v.2.2.2.1) e c b a d.1.1 d.1.2.1) else some ((c,(0:Int),()),())
def Zb5(a:Zc)(e:List UInt8):Option ((Zc×Int×Unit)×(Unit)):=(Z9 a).bind λb=>(X9 a).bind λd=>(bif(!d.1)then some (false,())else(Zfz a)).bind λf=>bif(!d.1)||f.1 then some ((b.1,a.2.2.2.2.2.2.2.2.2.2.2.2.2.2.2.2.2.1,()),()) else (Kd e).bind λc=>bif !c.2.1 then (Zgb b.1 7).bind λg=>some ((g.1,7,()),()) else Wf (W9 Yi b.1 c.1 (0:Int)) Yi b.1 c.1 (0:Int)
def Zek(a:List (List UInt8))(c d:Zc)(b:Int):Nat:=((a.length:Int)-b).toNat+1
def Zgd:Nat->List (List UInt8)->Zc->Zc->Int->Option ((Zc×Unit)×(Unit))|0,_,_,_,_=>none|N+1,b,d,c,a=>bif decide (a<(b.length:Int))then Ze (0<=a/\a<b.length)<|Zid 1 ((Zb5 c (b.getD a.toNat ([]:List UInt8))).bind λe=>Zgd N b d e.1.1 (IntKind.i64.wrap (a+1))) else some ((c,()),())
def Zqk(c:Zc)(a:List (List UInt8)):Option ((Zc×Unit)×(Unit)):=(Z9 c).bind λb=>Zgd (Zek a Yi b.1 (0:Int)) a Yi b.1 (0:Int)
def Zut(a:Zc):Option (Bool×Unit):=(Zce a).bind λb=>(bif b.1 then(Zpl a)else some (false,())).bind λc=>some (b.1&&(!c.1),())
def Zgu(c:Zc)(d:List (List UInt8))(a b:Int):Nat:=(a-b).toNat+1
def Zjb:Nat->Zc->List (List UInt8)->Int->Int->Option (Int×Int×Unit)|0,_,_,_,_=>none|N+1,e,b,d,a=>bif decide (a<d)then Ze (0<=a/\a<b.length)<|(Zjc e (b.getD a.toNat ([]:List UInt8))).bind λc=>bif c.2.1 !=0 then some (a,c.2.1,()) else Zjb N c.1 b d (IntKind.i64.wrap (a+1)) else some ((-1:Int),(0:Int),())
def Ztj(b:Zc)(a:List (List UInt8)):Option (Int×Int×Unit):=(Zut b).bind λc=>bif !c.1 then some ((-1:Int),0,()) else Zjb (Zgu b a (a.length:Int) (0:Int)) b a (a.length:Int) (0:Int)
def Zuj(K1:(List (List UInt8)×Zc×Int×Unit)->Option (Int×Int×Unit))(c:List (List UInt8))(e:Zc)(a:Int)(d:Zc)(b:Int):Option (Int×Int×Unit):=bif b !=0 then some (a,b,()) else K1 (c,d,IntKind.i64.wrap (a+1),())
def Zg3(a:List (List UInt8))(c:Zc)(b:Int):Nat:=((a.length:Int)-b).toNat+1
def Zjr:Nat->List (List UInt8)->Zc->Int->Option (Int×Int×Unit)|0,_,_,_=>none|N+1,b,c,a=>bif decide (a<(b.length:Int))then Ze (0<=a/\a<b.length)<|Zid 1 ((Zb5 c (b.getD a.toNat ([]:List UInt8))).bind λd=>Zuj (λv=>Zjr N v.1 v.2.1 v.2.2.1) b c a d.1.1 d.1.2.1) else some ((-1:Int),(0:Int),())
def Ztw(a:Zc)(b:List (List UInt8)):Option (Int×Int×Unit):=(Z9 a).bind λc=>(Y4 a).bind λd=>bif !d.1 then some ((-1:Int),0,()) else Zjr (Zg3 b c.1 (0:Int)) b c.1 (0:Int)
def Znw(a c:Xu)(b:Int):Nat:=((a.2.2.2.1.length:Int)-b).toNat+1
def Zjq:Nat->Xu->Xu->Int->Option (Bool×Unit)|0,_,_,_=>none|N+1,b,c,a=>bif decide (a<(b.2.2.2.1.length:Int))then Ze (0<=a/\a<b.2.2.2.1.length)<|Ze (0<=a/\a<c.2.2.2.1.length)<|bif(b.2.2.2.1.getD a.toNat (0:Int)) !=(c.2.2.2.1.getD a.toNat (0:Int))then some (false,()) else Zjq N b c (IntKind.i64.wrap (a+1)) else some (true,())
def Ztv(a b:Xu):Option (Bool×Unit):=bif(((a.1 !=b.1)||(a.2.1 !=b.2.1))||(a.2.2.1 !=b.2.2.1))||((a.2.2.2.1.length:Int) !=(b.2.2.2.1.length:Int))then some (false,()) else Zjq (Znw a b (0:Int)) a b (0:Int)
def Zl8(a c:List Zi)(b:Int):Nat:=((a.length:Int)-b).toNat+1
def Zhx:Nat->List Zi->List Zi->Int->Option (Bool×Unit)|0,_,_,_=>none|N+1,b,c,a=>bif decide (a<(b.length:Int))then Ze (0<=a/\a<b.length)<|Ze (0<=a/\a<c.length)<|bif !(eqV (Zw) (b.getD a.toNat Zz) (c.getD a.toNat Zz))then some (false,()) else Zhx N b c (IntKind.i64.wrap (a+1)) else some (true,())
def Zi0(a b:List Zi):Option (Bool×Unit):=bif(a.length:Int) !=(b.length:Int)then some (false,()) else Zhx (Zl8 a b (0:Int)) a b (0:Int)
def Zqi(a b:Zp):Option (Bool×Unit):=
 (bif(a.1==b.1)then(Ztv a.2.1 b.2.1)else some (false,())).bind λd=>
 (bif((a.1==b.1)&&d.1)then(Zi0 a.2.2.1 b.2.2.1)else some (false,())).bind λf=>
 let c:=((a.1==b.1)&&d.1)&&f.1
 (bif c then(Zi0 a.2.2.2.1 b.2.2.2.1)else some (false,())).bind λe=>
 (bif(c&&e.1)then(Zi0 a.2.2.2.2.1 b.2.2.2.2.1)else some (false,())).bind λg=>
 some ((((((c&&e.1)&&g.1)&&(a.2.2.2.2.2.1==b.2.2.2.2.2.1))&&(a.2.2.2.2.2.2.1==b.2.2.2.2.2.2.1))&&(a.2.2.2.2.2.2.2.1==b.2.2.2.2.2.2.2.1))&&(a.2.2.2.2.2.2.2.2.1==b.2.2.2.2.2.2.2.2.1),())
def Zkd(a c:Zv)(b:Int):Nat:=((a.2.1.length:Int)-b).toNat+1
def Zgc:Nat->Zv->Zv->Int->Option (Bool×Unit)|0,_,_,_=>none|N+1,b,c,a=>bif decide (a<(b.2.1.length:Int))then Ze (0<=a/\a<b.2.1.length)<|Ze (0<=a/\a<c.2.1.length)<|bif !(eqV (Zf2) (b.2.1.getD a.toNat Qx) (c.2.1.getD a.toNat Qx))then some (false,()) else Zgc N b c (IntKind.i64.wrap (a+1)) else some (true,())
def Zqh(a b:Zv):Option (Bool×Unit):=bif(a.1 !=b.1)||((a.2.1.length:Int) !=(b.2.1.length:Int))then some (false,()) else Zgc (Zkd a b (0:Int)) a b (0:Int)
def Zmu(a b:Zx):Option (Bool×Unit):=(bif(a.1==b.1)then(Zqh a.2.1 b.2.1)else some (false,())).bind λc=>some (((((a.1==b.1)&&c.1)&&(a.2.2.1==b.2.2.1))&&(a.2.2.2.1==b.2.2.2.1))&&(a.2.2.2.2.1==b.2.2.2.2.1),())
def Zqj(a b:Zg):Option (Bool×Unit):=
 (bif(a.1==b.1)then(Zqi a.2.1 b.2.1)else some (false,())).bind λd=>
 let c:=((a.1==b.1)&&d.1)&&(eqV (Qq) a.2.2.1 b.2.2.1)
 (bif c then(Zmu a.2.2.2.1 b.2.2.2.1)else some (false,())).bind λe=>
 some (((((((((((c&&e.1)&&(eqV (Xr) a.2.2.2.2.1 b.2.2.2.2.1))&&(eqV (Kf) a.2.2.2.2.2.1 b.2.2.2.2.2.1))&&(a.2.2.2.2.2.2.1==b.2.2.2.2.2.2.1))&&(a.2.2.2.2.2.2.2.1==b.2.2.2.2.2.2.2.1))&&(a.2.2.2.2.2.2.2.2.1==b.2.2.2.2.2.2.2.2.1))&&(a.2.2.2.2.2.2.2.2.2.1==b.2.2.2.2.2.2.2.2.2.1))&&(a.2.2.2.2.2.2.2.2.2.2.1==b.2.2.2.2.2.2.2.2.2.2.1))&&(a.2.2.2.2.2.2.2.2.2.2.2.1==b.2.2.2.2.2.2.2.2.2.2.2.1))&&(a.2.2.2.2.2.2.2.2.2.2.2.2.1==b.2.2.2.2.2.2.2.2.2.2.2.2.1))&&(a.2.2.2.2.2.2.2.2.2.2.2.2.2.1==b.2.2.2.2.2.2.2.2.2.2.2.2.2.1),())
def Zl9(a c:List Zg)(b:Int):Nat:=((a.length:Int)-b).toNat+1
def Zhy:Nat->List Zg->List Zg->Int->Option (Bool×Unit)|0,_,_,_=>none|N+1,b,c,a=>bif decide (a<(b.length:Int))then Ze (0<=a/\a<b.length)<|Ze (0<=a/\a<c.length)<|(Zqj (b.getD a.toNat Zj) (c.getD a.toNat Zj)).bind λd=>bif !d.1 then some (false,()) else Zhy N b c (IntKind.i64.wrap (a+1)) else some (true,())
def Zsf(a b:List Zg):Option (Bool×Unit):=bif(a.length:Int) !=(b.length:Int)then some (false,()) else Zhy (Zl9 a b (0:Int)) a b (0:Int)
def Zc0(a d:List Qb)(b c:Int):Nat:=(((a.getD b.toNat Q6).2.1.length:Int)-c).toNat+1
def Zdo(K1:(List Qb×List Qb×Int×Unit)->Option (Bool×Unit)):Nat->List Qb->List Qb->Int->Int->Option (Bool×Unit)|0,_,_,_,_=>none|N+1,c,d,a,b=>Ze (0<=a/\a<c.length)<|bif decide (b<((c.getD a.toNat Q6).2.1.length:Int))then Ze (0<=a/\a<c.length)<|Ze (0<=b/\b<(c.getD a.toNat Q6).2.1.length)<|Ze (0<=a/\a<d.length)<|Ze (0<=b/\b<(d.getD a.toNat Q6).2.1.length)<|bif !(eqV (Zt) ((c.getD a.toNat Q6).2.1.getD b.toNat Qk) ((d.getD a.toNat Q6).2.1.getD b.toNat Qk))then some (false,()) else Zdo K1 N c d a (IntKind.i64.wrap (b+1)) else K1 (c,d,IntKind.i64.wrap (a+1),())
def Zia(a c:List Qb)(b:Int):Nat:=((a.length:Int)-b).toNat+1
def Zdn:Nat->List Qb->List Qb->Int->Option (Bool×Unit)
 |0,_,_,_=>none
 |N+1,b,c,a=>
  bif decide (a<(b.length:Int))then
   Ze (0<=a/\a<b.length)<|
   Ze (0<=a/\a<c.length)<|
   let d:Bool:=(b.getD a.toNat Q6).1 !=(c.getD a.toNat Q6).1
   Ze ((d=false->(0<=a/\a<b.length)))<|
   Ze ((d=false->(0<=a/\a<c.length)))<|
   bif d||(((b.getD a.toNat Q6).2.1.length:Int) !=((c.getD a.toNat Q6).2.1.length:Int))then
    some (false,())
   else
    Zdo (λv=>Zdn N v.1 v.2.1 v.2.2.1) (Zc0 b c a (0:Int)) b c a (0:Int)
  else
   some (true,())
def Zmz(a b:List Qb):Option (Bool×Unit):=bif(a.length:Int) !=(b.length:Int)then some (false,()) else Zdn (Zia a b (0:Int)) a b (0:Int)
def Zku(a b:Zc):Option (Bool×Unit):=
 let c:=((a.1==b.1)&&(eqV (Zmg) a.2.1 b.2.1))&&(eqV (Zmg) a.2.2.1 b.2.2.1)
 (bif c then(Zsf a.2.2.2.1 b.2.2.2.1)else some (false,())).bind λe=>
 let d:=(((((((((((c&&e.1)&&(eqV (Qq) a.2.2.2.2.1 b.2.2.2.2.1))&&(eqV (Xr) a.2.2.2.2.2.1 b.2.2.2.2.2.1))&&(eqV (Zdr) a.2.2.2.2.2.2.1 b.2.2.2.2.2.2.1))&&(eqV (Zdr) a.2.2.2.2.2.2.2.1 b.2.2.2.2.2.2.2.1))&&(eqV (Qq) a.2.2.2.2.2.2.2.2.1 b.2.2.2.2.2.2.2.2.1))&&(eqV (Qq) a.2.2.2.2.2.2.2.2.2.1 b.2.2.2.2.2.2.2.2.2.1))&&(a.2.2.2.2.2.2.2.2.2.2.1==b.2.2.2.2.2.2.2.2.2.2.1))&&(a.2.2.2.2.2.2.2.2.2.2.2.1==b.2.2.2.2.2.2.2.2.2.2.2.1))&&(a.2.2.2.2.2.2.2.2.2.2.2.2.1==b.2.2.2.2.2.2.2.2.2.2.2.2.1))&&(a.2.2.2.2.2.2.2.2.2.2.2.2.2.1==b.2.2.2.2.2.2.2.2.2.2.2.2.2.1))&&(a.2.2.2.2.2.2.2.2.2.2.2.2.2.2.1==b.2.2.2.2.2.2.2.2.2.2.2.2.2.2.1)
 (bif d then(Zmz a.2.2.2.2.2.2.2.2.2.2.2.2.2.2.2.1 b.2.2.2.2.2.2.2.2.2.2.2.2.2.2.2.1)else some (false,())).bind λf=>
 some (((d&&f.1)&&(a.2.2.2.2.2.2.2.2.2.2.2.2.2.2.2.2.1==b.2.2.2.2.2.2.2.2.2.2.2.2.2.2.2.2.1))&&(a.2.2.2.2.2.2.2.2.2.2.2.2.2.2.2.2.2.1==b.2.2.2.2.2.2.2.2.2.2.2.2.2.2.2.2.2.1),())
def Zvr(a:Qg):Option (Bool×Unit):=
 (Zif a).bind λc=>
 let b:=c.1&&(decide (a.2.2.1<4611686018427387903))
 Ze ((b=true->((2:Int)≠0)))<|
 some (b&&(decide ((IntKind.i64.wrap ((IntKind.i64.wrap (a.2.2.2.2.1+a.1))-a.2.2.1))>=(IntKind.i64.wrap (Int.tdiv (IntKind.i64.wrap (a.1+1)) (2:Int))))),())
def Zst(b:Int)(a c:Qg):Option (Qg×Bool×Unit):=some ((a.1,a.2.1,min (IntKind.i64.wrap (a.2.2.2.2.1+a.1)) 4611686018427387903,a.2.2.2.1,a.2.2.2.2.1,b,a.2.2.2.2.2.2),true,())
def Zit(a:Qg)(b d:Int):Option (Qg×Bool×Unit):=(Zvr a).bind λc=>(bif(!c.1)then some (false,())else(Z0 b a.2.2.2.2.2.1 1000000)).bind λe=>(bif((!c.1)||(!e.1))then some (false,())else(Z0 d 1 1000)).bind λf=>bif((!c.1)||(!e.1))||(!f.1)then some (a,false,()) else bif decide ((IntKind.i64.wrap (b-a.2.2.2.2.2.1))<(IntKind.i64.wrap (2*d)))then Zst b (min (IntKind.i64.wrap (2*a.1)) a.2.1,a.2) Qac else Zst b a Qac
def Zf4(b:Zc)(a:Qg)(d:Bool):Option (Int×Bool×Unit):=(Zvr a).bind λe=>bif !e.1 then some (a.2.2.1,d,()) else (Zit a b.2.2.2.2.2.2.2.2.2.2.2.2.2.2.2.2.1 b.2.1.2.2.2.2.2.2.2.1).bind λc=>some (c.1.2.2.1,c.2.1,())
def Zqz(a:Qt):Option (Bool×Unit):=(Zoj a).bind λb=>Ze (((b.1&&(decide (a.1>0)))=true->((2:Int)≠0)))<|some ((b.1&&(decide (a.1>0)))&&(decide ((IntKind.i64.wrap ((IntKind.i64.wrap (a.2.2.2.1+a.1))-a.2.1))>=(IntKind.i64.wrap (Int.tdiv (IntKind.i64.wrap (a.1+1)) (2:Int))))),())
def Zkj(a:Qt):Option (Qt×Bool×Unit):=(Zqz a).bind λb=>bif(!b.1)||(decide ((IntKind.i64.wrap (a.2.2.2.1+a.1))>1152921504606846976))then some (a,false,()) else some ((a.1,IntKind.i64.wrap (a.2.2.2.1+a.1),a.2.2),true,())
def Zq2(a:Qt)(c:Bool):Option (Int×Bool×Unit):=(Zqz a).bind λd=>bif !d.1 then some (a.2.1,c,()) else (Zkj a).bind λb=>some (b.1.2.1,b.2.1,())
def Zxq(a:Qt):Option (Bool×Unit):=(Zc4 a).bind λb=>some (b.1&&(a.2.2.1==a.1),())
def Za2(a:Zg)(b:List Zf):Option (List Zf×Unit):=
 (Zxq a.2.2.1).bind λd=>
 bif(d.1&&a.2.2.2.2.2.2.1)&&(decide ((a.2.1.2.2.1.length:Int)>(0:Int)))then
  let c:List Zf:=[(21,a.1,0,[],false,0,a.2.2.1.1,0,false,())]
  Ze (b.length+c.length<=Qd)<|
  some (b++c,())
 else
  some (b,())
def Za1(e:Zc)(a:Zg)(b:List Zf):Option (List Zf×Unit):=
 bif(a.2.2.2.2.2.2.2.1&&(a.2.2.2.1.1==0))&&(!a.2.2.2.2.2.2.2.2.2.2.2.1)then
  (Zf4 e a.2.2.2.2.1 a.2.2.2.2.2.2.2.2.2.2.1).bind λc=>
  bif c.2.1 then
   let d:List Zf:=[(17,a.1,0,[],false,0,c.1,0,false,())]
   Ze (b.length+d.length<=Qd)<|
   Za2 a (b++d)
  else
   Za2 a b
 else
  Za2 a b
def Za0(c:Zc)(a:Zg)(b:List Zf):Option (List Zf×Unit):=
 (bif a.2.2.2.2.2.2.2.2.2.1 then(Zt6 a.2.2.2.1)else some (false,())).bind λe=>
 bif a.2.2.2.2.2.2.2.2.2.1&&e.1 then
  let d:List Zf:=[(5,a.1,0,[],false,a.2.2.2.2.2.2.2.2.2.2.2.2.1,0,0,false,())]
  Ze (b.length+d.length<=Qd)<|
  Za1 c a (b++d)
 else
  Za1 c a b
def Zh3(b:Zc)(a:Zg):Option (List Zf×Unit):=
 bif a.2.2.2.2.2.2.2.2.1 then
  let c:List Zf:=[(4,a.1,0,[],false,a.2.1.2.2.2.2.2.2.2.2.1,0,a.2.1.2.2.2.2.2.2.2.1,false,())]
  Ze (([]:List Zf).length+c.length<=Qd)<|
  Za0 b a ([]++c)
 else
  Za0 b a []
def Zjz(a:Zc)(b:List Zf):Option (List Zf×Unit):=
 bif a.2.2.2.2.2.2.2.1.2.2.1==a.2.2.2.2.2.2.2.1.1 then
  let c:List Zf:=[(22,0,0,[],false,0,a.2.2.2.2.2.2.2.1.1,0,true,())]
  Ze (b.length+c.length<=Qd)<|
  some (b++c,())
 else
  some (b,())
def Zjy(a:Zc)(b:List Zf):Option (List Zf×Unit):=
 bif a.2.2.2.2.2.2.1.2.2.1==a.2.2.2.2.2.2.1.1 then
  let c:List Zf:=[(22,0,0,[],false,0,a.2.2.2.2.2.2.1.1,0,false,())]
  Ze (b.length+c.length<=Qd)<|
  Zjz a (b++c)
 else
  Zjz a b
def Zqu(c:Zc)(d:List Zf)(e:List Zg)(a b:Int):Nat:=(a-b).toNat+1
def Zep:Nat->Zc->List Zf->List Zg->Int->Int->Option (List Zf×Unit)
 |0,_,_,_,_,_=>none
 |N+1,a,b,d,e,c=>
  bif decide (c<e)then
   Ze (0<=c/\c<d.length)<|
   (Zh3 a (d.getD c.toNat Zj)).bind λf=>
   Ze (b.length+f.1.length<=Qd)<|
   Zep N a (b++f.1) d e (IntKind.i64.wrap (c+1))
  else
   (Zxq a.2.2.2.2.1).bind λh=>
   bif h.1 then
    let g:List Zf:=[((20:Int),(0:Int),(0:Int),([]:List UInt8),false,(0:Int),a.2.2.2.2.1.1,(0:Int),false,())]
    Ze (b.length+g.length<=Qd)<|
    Zjy a (b++g)
   else
    Zjy a b
def Zeo(a:Zc)(b:List Zf):Option (List Zf×Unit):=Zep (Zqu a b a.2.2.2.1 (a.2.2.2.1.length:Int) (0:Int)) a b a.2.2.2.1 (a.2.2.2.1.length:Int) (0:Int)
def Zen(a:Zc)(b:List Zf):Option (List Zf×Unit):=
 (Zq2 a.2.2.2.2.2.2.2.2.2.1 a.2.2.2.2.2.2.2.2.2.2.2.2.1).bind λc=>
 bif c.2.1 then
  let d:List Zf:=[(18,0,0,[],false,0,c.1,0,true,())]
  Ze (b.length+d.length<=Qd)<|
  Zeo a (b++d)
 else
  Zeo a b
def Zem(a:Zc)(b:List Zf):Option (List Zf×Unit):=
 (Zq2 a.2.2.2.2.2.2.2.2.1 a.2.2.2.2.2.2.2.2.2.2.2.1).bind λc=>
 bif c.2.1 then
  let d:List Zf:=[(18,0,0,[],false,0,c.1,0,false,())]
  Ze (b.length+d.length<=Qd)<|
  Zen a (b++d)
 else
  Zen a b
def Zoh(a:Zc):Option (List Zf×Unit):=
 (Zut a).bind λd=>
 bif !d.1 then
  some ([],())
 else
  (Zf4 a a.2.2.2.2.2.1 a.2.2.2.2.2.2.2.2.2.2.1).bind λb=>
  bif b.2.1 then
   let c:List Zf:=[(16,0,0,[],false,0,b.1,0,false,())]
   Ze (([]:List Zf).length+c.length<=Qd)<|
   Zem a ([]++c)
  else
   Zem a []
def Jc(a:Int):Option (List UInt8×Unit):=some (Qj ([(IntKind.u8.wrap a)]),())
def Zxs(a:Int):Option (Int×Unit):=(Xg a).bind λb=>bif !b.1 then some (0,()) else bif decide (a<64)then some (1,()) else bif decide (a<16384)then some (2,()) else bif decide (a<1073741824)then some (4,()) else some (8,())
def Ze5(a:List Int):Option (List UInt8×Unit):=some (Qj a,())
def Zm5(b c:Int)(d:List Int)(a:Int):Nat:=(a-0).toNat+2
def Ze6:Nat->Int->Int->List Int->Int->Option (List UInt8×Unit)|0,_,_,_,_=>none|N+1,d,c,a,b=>bif decide (b>=(0:Int))then Ze (0<=b/\b<a.length)<|Ze (0<=(8:Int))<|Ze6 N (d.fdiv (2^ (min (8:Int).toNat IntKind.i64.bits))) c (a.set b.toNat (IntKind.u8.wrap d)) (IntKind.i64.wrap (b-1)) else bif c==2 then Ze (0<=(0:Int)/\(0:Int)<a.length)<|Ze (0<=(0:Int)/\(0:Int)<a.length)<|Ze5 (a.set (0:Int).toNat (bits .or .u8 (a.getD (0:Int).toNat (0:Int)) (64:Int))) else bif c==4 then Ze (0<=(0:Int)/\(0:Int)<a.length)<|Ze (0<=(0:Int)/\(0:Int)<a.length)<|Ze5 (a.set (0:Int).toNat (bits .or .u8 (a.getD (0:Int).toNat (0:Int)) (128:Int))) else bif c==8 then Ze (0<=(0:Int)/\(0:Int)<a.length)<|Ze (0<=(0:Int)/\(0:Int)<a.length)<|Ze5 (a.set (0:Int).toNat (bits .or .u8 (a.getD (0:Int).toNat (0:Int)) (192:Int))) else Ze5 a
def Zah(b:Int):Option (List UInt8×Unit):=(Zxs b).bind λa=>bif a.1==0 then some ([],()) else Ze (0<=a.1/\a.1<=a.1/\a.1<=Qd)<|Ze6 (Zm5 b a.1 (List.replicate a.1.toNat (0:Int)) (IntKind.i64.wrap (a.1-1))) b a.1 (List.replicate a.1.toNat (0:Int)) (IntKind.i64.wrap (a.1-1))
def Zl2(c:List UInt8)(d:List Int)(a b:Int):Nat:=(a-b).toNat+1
def Zhs:Nat->List UInt8->List Int->Int->Int->Option (List UInt8×Unit)|0,_,_,_,_=>none|N+1,c,b,d,a=>bif decide (a<d)then Ze (0<=a/\a<b.length)<|(Xg (b.getD a.toNat (0:Int))).bind λf=>bif !f.1 then some (([]:List UInt8),()) else (Zah (b.getD a.toNat (0:Int))).bind λe=>Ze (c.length+e.1.length<=Yh)<|Zhs N (c++e.1) b d (IntKind.i64.wrap (a+1)) else some (c,())
def Ze7(a:List Int):Option (List UInt8×Unit):=Zhs (Zl2 ([]:List UInt8) a (a.length:Int) (0:Int)) ([]:List UInt8) a (a.length:Int) (0:Int)
def Zhr(a:Zf)(b:List UInt8):Option (List UInt8×Unit):=(Zah (a.2.2.2.1.length:Int)).bind λc=>Ze (b.length+c.1.length<=Yh)<|Ze ((b++c.1).length+a.2.2.2.1.length<=Yh)<|some ((b++c.1)++a.2.2.2.1,())
def Za3(a:Zf)(h:Unit)(f:Bool):Option (List UInt8×Unit):=bif f then Zid 1 ((Jc a.1).bind λb=>(Ze7 ([a.2.1,a.2.2.2.2.2.2.1])).bind λc=>Ze (b.1.length+c.1.length<=Yh)<|some (b.1++c.1,())) else (Zs9 a.2.2.2.2.2.2.2.2.1).bind λg=>(Jc (IntKind.i64.wrap (a.1+g.1))).bind λd=>(Zah a.2.2.2.2.2.2.1).bind λe=>Ze (d.1.length+e.1.length<=Yh)<|some (d.1++e.1,())
def Jp(a:Zf)(f:Unit)(b:Int)(e:Bool):Option (List UInt8×Unit):=bif e then (Jc a.1).bind λc=>(Zah a.2.2.2.2.2.2.1).bind λd=>Ze (c.1.length+d.1.length<=Yh)<|some (c.1++d.1,()) else bif b==17 then Za3 a () (b==17) else Za3 a () (b==21)
def Zm4(a:Zf):Option (List UInt8×Unit):=(Wi a).bind λi=>bif !i.1 then some ([],()) else bif a.1==4 then Zid 1 ((Jc a.1).bind λd=>(Ze7 ([a.2.1,a.2.2.2.2.2.1,a.2.2.2.2.2.2.2.1])).bind λe=>Ze (d.1.length+e.1.length<=Yh)<|some (d.1++e.1,())) else bif a.1==5 then Zid 1 ((Jc a.1).bind λf=>(Ze7 ([a.2.1,a.2.2.2.2.2.1])).bind λg=>Ze (f.1.length+g.1.length<=Yh)<|some (f.1++g.1,())) else bif a.1==8 then (Zs9 a.2.2.2.2.1).bind λj=>(Zs9 (a.2.2.1 !=0)).bind λk=>(Jc (IntKind.i64.wrap ((IntKind.i64.wrap (10+j.1))+(IntKind.i64.wrap (4*k.1))))).bind λb=>(Zah a.2.1).bind λc=>Ze (b.1.length+c.1.length<=Yh)<|bif a.2.2.1 !=0 then (Zah a.2.2.1).bind λh=>Ze ((b.1++c.1).length+h.1.length<=Yh)<|Zhr a ((b.1++c.1)++h.1) else Zhr a (b.1++c.1) else bif a.1==16 then Jp a () a.1 (a.1==16) else Jp a () a.1 (a.1==20)
def Zm6(a:Zf):Option (Int×Unit):=(Zm4 a).bind λb=>some ((b.1.length:Int),())
def Zk6(a:Qt):Option (Qt×Unit):=(Zc4 a).bind λb=>bif b.1&&(a.2.2.1 !=(-1:Int))then some ((a.1,a.2.1,(-1:Int),a.2.2.1,a.2.2.2.2),()) else some (a,())
def Zml(f:Zc)(d:Zf)(p a:Zc)(b:Int):Option (Zc×Unit):=
 (Zce f).bind λg=>
 (bif(!g.1)then some (false,())else(Zb1 d)).bind λh=>
 bif(!g.1)||(h.1&&(decide (b<0)))then
  some (a,())
 else
  bif d.1==16 then
   (Zit f.2.2.2.2.2.1 f.2.2.2.2.2.2.2.2.2.2.2.2.2.2.2.2.1 f.2.1.2.2.2.2.2.2.2.1).bind λi=>
   some ((a.1,a.2.1,a.2.2.1,a.2.2.2.1,a.2.2.2.2.1,i.1,a.2.2.2.2.2.2.1,a.2.2.2.2.2.2.2.1,a.2.2.2.2.2.2.2.2.1,a.2.2.2.2.2.2.2.2.2.1,false,a.2.2.2.2.2.2.2.2.2.2.2),())
  else
   bif d.1==18 then
    bif d.2.2.2.2.2.2.2.2.1 then
     (Zkj f.2.2.2.2.2.2.2.2.2.1).bind λj=>
     some ((a.1,a.2.1,a.2.2.1,a.2.2.2.1,a.2.2.2.2.1,a.2.2.2.2.2.1,a.2.2.2.2.2.2.1,a.2.2.2.2.2.2.2.1,a.2.2.2.2.2.2.2.2.1,j.1,a.2.2.2.2.2.2.2.2.2.2.1,a.2.2.2.2.2.2.2.2.2.2.2.1,false,a.2.2.2.2.2.2.2.2.2.2.2.2.2),())
    else
     (Zkj f.2.2.2.2.2.2.2.2.1).bind λk=>
     some ((a.1,a.2.1,a.2.2.1,a.2.2.2.1,a.2.2.2.2.1,a.2.2.2.2.2.1,a.2.2.2.2.2.2.1,a.2.2.2.2.2.2.2.1,k.1,a.2.2.2.2.2.2.2.2.2.1,a.2.2.2.2.2.2.2.2.2.2.1,false,a.2.2.2.2.2.2.2.2.2.2.2.2),())
   else
    bif d.1==20 then
     (Zk6 f.2.2.2.2.1).bind λl=>
     some ((a.1,a.2.1,a.2.2.1,a.2.2.2.1,l.1,a.2.2.2.2.2),())
    else
     bif d.1==22 then
      (Ze4 a d.2.2.2.2.2.2.2.2.1).bind λc=>
      bif c.1 then
       some ((c.2.1.1,c.2.1.2.1,c.2.1.2.2.1,c.2.1.2.2.2.1,c.2.1.2.2.2.2.1,c.2.1.2.2.2.2.2.1,c.2.1.2.2.2.2.2.2.1,(c.2.1.2.2.2.2.2.2.2.1.1,c.2.1.2.2.2.2.2.2.2.1.2.1,(-1:Int),c.2.1.2.2.2.2.2.2.2.1.2.2.2),c.2.1.2.2.2.2.2.2.2.2),())
      else
       some ((c.2.1.1,c.2.1.2.1,c.2.1.2.2.1,c.2.1.2.2.2.1,c.2.1.2.2.2.2.1,c.2.1.2.2.2.2.2.1,(c.2.1.2.2.2.2.2.2.1.1,c.2.1.2.2.2.2.2.2.1.2.1,(-1:Int),c.2.1.2.2.2.2.2.2.1.2.2.2),c.2.1.2.2.2.2.2.2.2),())
     else
      (Zb1 d).bind λm=>
      bif m.1 then
       Ze (0<=b/\b<a.2.2.2.1.length)<|
       bif d.1==4 then
        some ((a.1,a.2.1,a.2.2.1,a.2.2.2.1.set b.toNat ((a.2.2.2.1.getD b.toNat Zj).1,(a.2.2.2.1.getD b.toNat Zj).2.1,(a.2.2.2.1.getD b.toNat Zj).2.2.1,(a.2.2.2.1.getD b.toNat Zj).2.2.2.1,(a.2.2.2.1.getD b.toNat Zj).2.2.2.2.1,(a.2.2.2.1.getD b.toNat Zj).2.2.2.2.2.1,(a.2.2.2.1.getD b.toNat Zj).2.2.2.2.2.2.1,(a.2.2.2.1.getD b.toNat Zj).2.2.2.2.2.2.2.1,false,(a.2.2.2.1.getD b.toNat Zj).2.2.2.2.2.2.2.2.2),a.2.2.2.2),())
       else
        bif d.1==5 then
         some ((a.1,a.2.1,a.2.2.1,a.2.2.2.1.set b.toNat ((a.2.2.2.1.getD b.toNat Zj).1,(a.2.2.2.1.getD b.toNat Zj).2.1,(a.2.2.2.1.getD b.toNat Zj).2.2.1,(a.2.2.2.1.getD b.toNat Zj).2.2.2.1,(a.2.2.2.1.getD b.toNat Zj).2.2.2.2.1,(a.2.2.2.1.getD b.toNat Zj).2.2.2.2.2.1,(a.2.2.2.1.getD b.toNat Zj).2.2.2.2.2.2.1,(a.2.2.2.1.getD b.toNat Zj).2.2.2.2.2.2.2.1,(a.2.2.2.1.getD b.toNat Zj).2.2.2.2.2.2.2.2.1,false,(a.2.2.2.1.getD b.toNat Zj).2.2.2.2.2.2.2.2.2.2),a.2.2.2.2),())
        else
         bif d.1==17 then
          (Zit (a.2.2.2.1.getD b.toNat Zj).2.2.2.2.1 a.2.2.2.2.2.2.2.2.2.2.2.2.2.2.2.2.1 a.2.1.2.2.2.2.2.2.2.1).bind λn=>
          let e:=a.2.2.2.1.set b.toNat ((a.2.2.2.1.getD b.toNat Zj).1,(a.2.2.2.1.getD b.toNat Zj).2.1,(a.2.2.2.1.getD b.toNat Zj).2.2.1,(a.2.2.2.1.getD b.toNat Zj).2.2.2.1,n.1,(a.2.2.2.1.getD b.toNat Zj).2.2.2.2.2)
          some ((a.1,a.2.1,a.2.2.1,e.set b.toNat ((e.getD b.toNat Zj).1,(e.getD b.toNat Zj).2.1,(e.getD b.toNat Zj).2.2.1,(e.getD b.toNat Zj).2.2.2.1,(e.getD b.toNat Zj).2.2.2.2.1,(e.getD b.toNat Zj).2.2.2.2.2.1,(e.getD b.toNat Zj).2.2.2.2.2.2.1,(e.getD b.toNat Zj).2.2.2.2.2.2.2.1,(e.getD b.toNat Zj).2.2.2.2.2.2.2.2.1,(e.getD b.toNat Zj).2.2.2.2.2.2.2.2.2.1,false,(e.getD b.toNat Zj).2.2.2.2.2.2.2.2.2.2.2),a.2.2.2.2),())
         else
          bif d.1==21 then
           (Zk6 (a.2.2.2.1.getD b.toNat Zj).2.2.1).bind λo=>
           some ((a.1,a.2.1,a.2.2.1,a.2.2.2.1.set b.toNat ((a.2.2.2.1.getD b.toNat Zj).1,(a.2.2.2.1.getD b.toNat Zj).2.1,o.1,(a.2.2.2.1.getD b.toNat Zj).2.2.2),a.2.2.2.2),())
          else
           some (a,())
      else
       some (a,())
def Zr0(a:Zc)(b:Zf):Option (Zc×Unit):=Zfs ((Qf a).bind λc=>Zid 1 ((Q8 a.2.2.2.1 b.2.1).bind λd=>Zml a b Yi c.1 d.1)) ((Qf a).bind λc=>(Q8 a.2.2.2.1 b.2.1).bind λd=>Zml a b Yi c.1 d.1)
def Zbq(c:List Int)(d a b:Int):Nat:=(a-b).toNat+1
def Zck:Nat->List Int->Int->Int->Int->Option (Int×Unit)|0,_,_,_,_=>none|N+1,b,c,d,a=>bif decide (a<d)then Ze (0<=a/\a<b.length)<|bif c==(b.getD a.toNat (0:Int))then some (a,()) else Zck N b c d (IntKind.i64.wrap (a+1)) else some ((-1:Int),())
def Zrf(a:List Int)(b:Int):Option (Int×Unit):=Zck (Zbq a b (a.length:Int) (0:Int)) a b (a.length:Int) (0:Int)
def Zg0(a:List Int)(b:Int):Option (Bool×Unit):=(Zrf a b).bind λc=>some (decide (c.1>=0),())
def Zq3(c:List Int)(d:List Zk)(e:List Zg)(a b:Int):Nat:=(a-b).toNat+1
def Zko:Nat->List Int->List Zk->List Zg->Int->Int->Option (List Zk×Unit)
 |0,_,_,_,_,_=>none
 |N+1,d,c,b,e,a=>
  bif decide (a<e)then
   Ze (0<=a/\a<b.length)<|
   (bif(b.getD a.toNat Zj).2.2.2.2.2.2.1 then(Z0 (b.getD a.toNat Zj).2.1.1 (0:Int) (2:Int))else some (false,())).bind λh=>
   let f:Bool:=((b.getD a.toNat Zj).2.2.2.2.2.2.1&&h.1)&&((decide (((b.getD a.toNat Zj).2.1.2.2.1.length:Int)>(0:Int)))||((b.getD a.toNat Zj).2.1.2.2.2.2.2.2.1==1))
   (bif f then(Zg0 d (b.getD a.toNat Zj).1)else some (false,())).bind λi=>
   bif f&&(!i.1)then
    let g:List Zk:=[((b.getD a.toNat Zj).1,(b.getD a.toNat Zj).2.2.2.2.2.1,())]
    Ze (c.length+g.length<=Qd)<|
    Zko N d (c++g) b e (IntKind.i64.wrap (a+1))
   else
    Zko N d c b e (IntKind.i64.wrap (a+1))
  else
   some (c,())
def Zz5(a:Zc)(b:List Int):Option (List Zk×Unit):=Zko (Zq3 b ([]:List Zk) a.2.2.2.1 (a.2.2.2.1.length:Int) (0:Int)) b ([]:List Zk) a.2.2.2.1 (a.2.2.2.1.length:Int) (0:Int)
def Zc8(c d:List Zk)(a b:Int):Nat:=(a-b).toNat+1
def Zbe:Nat->List Zk->List Zk->Int->Int->Option (Bool×Unit)|0,_,_,_,_=>none|N+1,c,b,e,a=>bif decide (a<e)then Ze (0<=a/\a<b.length)<|(Xg (b.getD a.toNat Qm).1).bind λd=>(bif(!d.1)then some (false,())else(Zo1 (b.getD a.toNat Qm).2.1)).bind λf=>Ze ((((!d.1)||(!f.1))=false->((decide (a>(0:Int)))=true->(0<=(IntKind.i64.wrap (a-1))/\(IntKind.i64.wrap (a-1))<c.length))))<|bif((!d.1)||(!f.1))||((decide (a>(0:Int)))&&(decide ((c.getD (IntKind.i64.wrap (a-1)).toNat Qm).1>=(b.getD a.toNat Qm).1)))then some (false,()) else Zbe N c b e (IntKind.i64.wrap (a+1)) else some (true,())
def Zi8(a:List Zk):Option (Bool×Unit):=Zbe (Zc8 a a (a.length:Int) (0:Int)) a a (a.length:Int) (0:Int)
def Zmn(c:Int)(d e:List Zk)(a b:Int):Nat:=(a-b).toNat+1
def Zf7:Nat->Int->List Zk->List Zk->Int->Int->Option (List Zk×Unit)|0,_,_,_,_,_=>none|N+1,d,c,b,e,a=>bif decide (a<e)then Ze (0<=a/\a<b.length)<|bif(b.getD a.toNat Qm).2.1.1==d then Ze (c.length+([(b.getD a.toNat Qm)]).length<=Qd)<|Zf7 N d (c++([(b.getD a.toNat Qm)])) b e (IntKind.i64.wrap (a+1)) else Zf7 N d c b e (IntKind.i64.wrap (a+1)) else some (c,())
def Zmm(c:List Zk)(d:Int)(e f:List Zk)(a b:Int):Nat:=(a-b).toNat+1
def Znf:Nat->List Zk->Int->List Zk->List Zk->Int->Int->Option (List Zk×Unit)|0,_,_,_,_,_,_=>none|N+1,a,c,d,e,f,b=>bif decide (b<f)then Ze (0<=b/\b<e.length)<|Znf N a (min c (e.getD b.toNat Qm).2.1.1) d e f (IntKind.i64.wrap (b+1)) else Zf7 (Zmn c d a (a.length:Int) (0:Int)) c d a (a.length:Int) (0:Int)
def Z2i(a:List Zk):Option (List Zk×Unit):=Znf (Zmm a (7:Int) ([]:List Zk) a (a.length:Int) (0:Int)) a (7:Int) ([]:List Zk) a (a.length:Int) (0:Int)
def Zh5(c:List Zk)(d:Int)(e:List Zk)(a b:Int):Nat:=(a-b).toNat+1
def Zgw:Nat->List Zk->Int->List Zk->Int->Int->Option (Int×Unit)|0,_,_,_,_,_=>none|N+1,c,d,b,e,a=>bif decide (a<e)then Ze (0<=a/\a<b.length)<|bif decide ((b.getD a.toNat Qm).1>d)then some ((b.getD a.toNat Qm).1,()) else Zgw N c d b e (IntKind.i64.wrap (a+1)) else Ze (0<=(0:Int)/\(0:Int)<c.length)<|some ((c.getD (0:Int).toNat Qm).1,())
def Zvu(a:List Zk)(b:Int):Option (Int×Unit):=(bif((a.length:Int)==(0:Int))then some (false,())else(Zi8 a)).bind λc=>bif((a.length:Int)==(0:Int))||(!c.1)then some ((-1:Int),()) else Zgw (Zh5 a b a (a.length:Int) (0:Int)) a b a (a.length:Int) (0:Int)
def Zgv(c:Int)(d:List Zk)(a b:Int):Nat:=(a-b).toNat+1
def Ze9:Nat->Int->List Zk->Int->Int->Option (Int×Unit)|0,_,_,_,_=>none|N+1,c,b,d,a=>bif decide (a<d)then Ze (0<=a/\a<b.length)<|bif !(b.getD a.toNat Qm).2.1.2.1 then some ((b.getD a.toNat Qm).1,()) else Ze9 N c b d (IntKind.i64.wrap (a+1)) else (Zvu b c).bind λe=>some (e.1,())
def Zto(a:List Zk)(c:Int):Option (Int×Unit):=(bif((a.length:Int)==(0:Int))then some (false,())else(Zi8 a)).bind λd=>bif((a.length:Int)==(0:Int))||(!d.1)then some ((-1:Int),()) else (Z2i a).bind λb=>Ze9 (Zgv c b.1 (b.1.length:Int) (0:Int)) c b.1 (b.1.length:Int) (0:Int)
def Zy2(a:Qt):Option (Int×Unit):=(Zc4 a).bind λb=>bif !b.1 then some (0,()) else some (IntKind.i64.wrap (a.1-a.2.1),())
def Zpu(c:Int)(d:Xu)(e:List Int)(a b:Int):Nat:=(a-b).toNat+1
def Znb:Nat->Int->Xu->List Int->Int->Int->Option (List UInt8×Bool×Unit)
 |0,_,_,_,_,_=>none
 |N+1,e,a,b,f,c=>
  bif decide (c<f)then
   Ze (a.1≠0)<|
   let d:Int:=Int.tmod (IntKind.i64.wrap (e+c)) a.1
   Ze (0<=d/\d<a.2.2.2.1.length)<|
   let g:List Int:=[(IntKind.u8.wrap (a.2.2.2.1.getD d.toNat (0:Int)))]
   Ze (b.length+g.length<=Qd)<|
   Znb N e a (b++g) f (IntKind.i64.wrap (c+1))
  else
   some (Qj b,true,())
def Zpm(a:Xu)(b c:Int):Option (List UInt8×Bool×Unit):=
 (Zur a).bind λe=>
 let d:=(!e.1)||(decide (c<0))
 (bif d then some (false,())else(Z0 b a.2.1 a.2.2.1)).bind λf=>
 bif(d||(!f.1))||(decide (c>(IntKind.i64.wrap (a.2.2.1-b))))then
  some ([],false,())
 else
  Znb (Zpu b a ([]:List Int) c (0:Int)) b a ([]:List Int) c (0:Int)
def Zk9(a:Zp)(e:Qy)(b:Zi)(c:Int):Option (Qy×Bool×Unit):=bif decide (c<=0)then some (Zds,false,()) else (Zpm a.2.1 b.1 c).bind λd=>some ((b.1,d.1,(a.2.2.2.2.2.2.1==1)&&((IntKind.i64.wrap (b.1+c))==a.2.2.2.2.2.1),()),true,())
def Zvt(a:Zp)(d b:Int):Option (Qy×Bool×Unit):=
 (Zl6 a).bind λe=>
 bif !e.1 then
  some (Zds,false,())
 else
  bif(a.2.2.1.length:Int)==(0:Int)then
   (Zs9 (a.2.2.2.2.2.2.1==1)).bind λf=>
   some ((IntKind.i64.wrap ((max a.2.2.2.2.2.1 0)*f.1),[],a.2.2.2.2.2.2.1==1,()),a.2.2.2.2.2.2.1==1,())
  else
   Ze (0<=(0:Int)/\(0:Int)<a.2.2.1.length)<|
   let c:=min (IntKind.i64.wrap ((a.2.2.1.getD (0:Int).toNat Zz).2.1- (a.2.2.1.getD (0:Int).toNat Zz).1)) d
   bif decide (b<=(a.2.2.1.getD (0:Int).toNat Zz).1)then
    some (Zds,false,())
   else
    bif decide (b<(IntKind.i64.wrap ((a.2.2.1.getD (0:Int).toNat Zz).1+c)))then
     Zk9 a Zds (a.2.2.1.getD (0:Int).toNat Zz) (IntKind.i64.wrap (b- (a.2.2.1.getD (0:Int).toNat Zz).1))
    else
     Zk9 a Zds (a.2.2.1.getD (0:Int).toNat Zz) c
def Zki(b:Int)(a:Qy):Option (Zf×Unit):=some ((8,b,a.1,a.2.1,a.2.2.1,0,0,0,false,()),())
def Zpv(b c:Int)(d:Qy)(e:Zg)(f a:Int):Nat:=(a-1).toNat+2
def Zis:Nat->Int->Int->Qy->Zg->Int->Int->Option (Qy×Bool×Unit)|0,_,_,_,_,_,_=>none|N+1,c,d,g,e,f,b=>bif decide (b>=(1:Int))then (Zvt e.2.1 b f).bind λa=>(bif a.2.1 then(Zki c a.1)else some (Qk,())).bind λh=>(bif a.2.1 then(Zm6 h.1)else some ((0:Int),())).bind λi=>(bif a.2.1 then(Z0 i.1 (1:Int) d)else some (false,())).bind λj=>bif a.2.1&&j.1 then some (a.1,true,()) else Zis N c d g e f (IntKind.i64.wrap (b-1)) else some (Zds,false,())
def Zxr(a:Zc)(d c:Int):Option (Qy×Bool×Unit):=
 (Q8 a.2.2.2.1 d).bind λb=>
 (Zce a).bind λg=>
 let e:=(!g.1)||(decide (b.1<0))
 Ze ((e=false->(0<=b.1/\b.1<a.2.2.2.1.length)))<|
 bif(e||(!(a.2.2.2.1.getD b.1.toNat Zj).2.2.2.2.2.2.1))||(decide (c<3))then
  some (Zds,false,())
 else
  Ze (0<=b.1/\b.1<a.2.2.2.1.length)<|
  (Zy2 a.2.2.2.2.1).bind λh=>
  let f:=min (a.2.2.2.1.getD b.1.toNat Zj).2.2.1.1 (IntKind.i64.wrap ((a.2.2.2.1.getD b.1.toNat Zj).2.1.2.2.2.2.2.2.2.1+h.1))
  Zis (Zpv d c Zds (a.2.2.2.1.getD b.1.toNat Zj) f (min (60:Int) c)) d c Zds (a.2.2.2.1.getD b.1.toNat Zj) f (min (60:Int) c)
def Zr1(a:Qt):Option (Qt×Unit):=(Zc4 a).bind λb=>bif((b.1&&(a.2.1==a.1))&&(a.2.2.1==(-1:Int)))&&(a.2.2.2.1 !=a.1)then some ((a.1,a.2.1,a.1,a.2.2.2),()) else some (a,())
def Zxu(b:Zp)(a:Qy):Option (Bool×Unit):=bif((decide (a.1<0))||(decide (a.1>b.2.1.2.2.1)))||(decide ((a.2.1.length:Int)>(IntKind.i64.wrap (b.2.1.2.2.1-a.1))))then some (false,()) else some ((!a.2.2.1)||((IntKind.i64.wrap (a.1+(a.2.1.length:Int)))==b.2.2.2.2.2.1),())
def Zkb(c d:List Zi)(e:Zi)(f:List Zi)(g h:Int)(i:List Zi)(a b:Int):Nat:=(a-b).toNat+1
def Wu(K1:(List Zi×List Zi×List Zi×Int×Int×Unit)->Option (List Zi×Unit)):Nat->List Zi->List Zi->Zi->List Zi->Int->Int->List Zi->Int->Int->Option (List Zi×Unit)
 |0,_,_,_,_,_,_,_,_,_=>none
 |N+1,e,c,d,f,g,h,b,i,a=>
  bif decide (a<i)then
   Ze (0<=a/\a<b.length)<|
   let j:Int:=max d.1 (b.getD a.toNat Zz).1
   let k:Int:=min d.2.1 (b.getD a.toNat Zz).2.1
   bif decide (j<k)then
    Ze (c.length+([(j,k,())]).length<=Qd)<|
    Wu K1 N e (c++([(j,k,())])) d f g h b i (IntKind.i64.wrap (a+1))
   else
    Wu K1 N e c d f g h b i (IntKind.i64.wrap (a+1))
  else
   K1 (e,c,f,g,IntKind.i64.wrap (h+1),())
def Zee(c d e:List Zi)(a b:Int):Nat:=(a-b).toNat+1
def Zcc:Nat->List Zi->List Zi->List Zi->Int->Int->Option (List Zi×Unit)|0,_,_,_,_,_=>none|N+1,b,d,c,e,a=>bif decide (a<e)then Ze (0<=a/\a<c.length)<|Wu (λv=>Zcc N v.1 v.2.1 v.2.2.1 v.2.2.2.1 v.2.2.2.2.1) (Zkb b d (c.getD a.toNat Zz) c e a b (b.length:Int) (0:Int)) b d (c.getD a.toNat Zz) c e a b (b.length:Int) (0:Int) else some (d,())
def Zp6(a b:List Zi):Option (List Zi×Unit):=(Zai a).bind λc=>(bif(!c.1)then some (false,())else(Zai b)).bind λd=>bif(!c.1)||(!d.1)then some ([],()) else Zcc (Zee b ([]:List Zi) a (a.length:Int) (0:Int)) b ([]:List Zi) a (a.length:Int) (0:Int)
def Y3(c d:List Zi)(a b:Int):Nat:=(a-b).toNat+1
def Xt:Nat->List Zi->List Zi->Int->Int->Option (Bool×Unit)|0,_,_,_,_=>none|N+1,b,c,d,a=>bif decide (a<d)then Ze (0<=a/\a<b.length)<|Ze (0<=a/\a<c.length)<|bif !(eqV (Zw) (b.getD a.toNat Zz) (c.getD a.toNat Zz))then some (false,()) else Xt N b c d (IntKind.i64.wrap (a+1)) else some (true,())
def Kb(a b:List Zi):Option (Bool×Unit):=bif(a.length:Int) !=(b.length:Int)then some (false,()) else Xt (Y3 a b (a.length:Int) (0:Int)) a b (a.length:Int) (0:Int)
def Zan(a b:List Zi):Option (Bool×Unit):=(Kb a b).bind λc=>some (c.1,())
def Zhu(K1:(Zi×List Zi×List Zi×Int×Int×Unit)->Option (List Zi×Unit))(a:Zi)(c:List Zi)(b:Zi)(d:List Zi)(e f:Int):Option (List Zi×Unit):=
 bif decide ((max b.1 a.2.1)<b.2.1)then
  let g:List Zi:=[(max b.1 a.2.1,b.2.1,())]
  Ze (c.length+g.length<=Qd)<|
  K1 (a,c++g,d,e,IntKind.i64.wrap (f+1),())
 else
  K1 (a,c,d,e,IntKind.i64.wrap (f+1),())
def Zft(c:Zi)(d e:List Zi)(a b:Int):Nat:=(a-b).toNat+1
def V7:Nat->Zi->List Zi->List Zi->Int->Int->Option (List Zi×Unit)
 |0,_,_,_,_,_=>none
 |N+1,c,d,b,e,a=>
  bif decide (a<e)then
   Ze (0<=a/\a<b.length)<|
   bif decide ((b.getD a.toNat Zz).1<(min (b.getD a.toNat Zz).2.1 c.1))then
    let f:List Zi:=[((b.getD a.toNat Zz).1,min (b.getD a.toNat Zz).2.1 c.1,())]
    Ze (d.length+f.length<=Qd)<|
    Zhu (λv=>V7 N v.1 v.2.1 v.2.2.1 v.2.2.2.1 v.2.2.2.2.1) c (d++f) (b.getD a.toNat Zz) b e a
   else
    Zhu (λv=>V7 N v.1 v.2.1 v.2.2.1 v.2.2.2.1 v.2.2.2.2.1) c d (b.getD a.toNat Zz) b e a
  else
   some (d,())
def Zr3(a:List Zi)(b:Zi):Option (List Zi×Unit):=(Zai a).bind λc=>(bif(!c.1)then some (false,())else(Zv0 b)).bind λd=>bif(!c.1)||(!d.1)then (Zaj a).bind λe=>some (e.1,()) else V7 (Zft b ([]:List Zi) a (a.length:Int) (0:Int)) b ([]:List Zi) a (a.length:Int) (0:Int)
def Zqb(c a:Zp):Option (Zp×Bool×Unit):=(Zq1 a).bind λb=>some ((b.1,a.2),true,())
def Zlb(c:Qy)(b a:Zp):Option (Zp×Bool×Unit):=bif c.2.2.1 then Zqb b (a.1,a.2.1,a.2.2.1,a.2.2.2.1,a.2.2.2.2.1,a.2.2.2.2.2.1,2,a.2.2.2.2.2.2.2) else Zqb b a
def Zvx(b:Zp)(d:Qy)(e a:Zp)(c:Zi)(f:Bool):Option (Zp×Bool×Unit):=bif f then some (a,false,()) else (Zr3 b.2.2.1 c).bind λg=>(Zs4 b.2.2.2.1 c).bind λh=>Zlb d e (a.1,a.2.1,g.1,h.1,a.2.2.2.2.1,a.2.2.2.2.2.1,a.2.2.2.2.2.2.1,max b.2.2.2.2.2.2.2.1 c.2.1,a.2.2.2.2.2.2.2.2)
def Zvw(b:Zp)(a:Qy):Option (Zp×Bool×Unit):=
 (Zkl b).bind λc=>
 (Zl6 b).bind λe=>
 (bif(!e.1)then some (false,())else(Zxu b a)).bind λf=>
 bif(((!e.1)||(!f.1))||(a.2.2.1&&(b.2.2.2.2.2.2.1 !=1)))||((a.2.1==[])&&(!a.2.2.1))then
  some (c.1,false,())
 else
  bif !(a.2.1==[])then
   let d:=IntKind.i64.wrap (a.1+(a.2.1.length:Int))
   (λm=>Zfs (Zfs m m) m) (
    (Zp6 b.2.2.1 ([(a.1,d,())])).bind λg=>
    (Zan g.1 ([(a.1,d,())])).bind λh=>
    Zvx b a Zaw c.1 (a.1,d,()) (!h.1)
   )
  else
   Zlb a Zaw c.1
def Zq0(a:Qt)(b:Int):Option (Qt×Bool×Unit):=(Zc4 a).bind λc=>(bif(!c.1)then some (false,())else(Z0 b 0 (IntKind.i64.wrap (a.1-a.2.1)))).bind λd=>bif(!c.1)||(!d.1)then some (a,false,()) else some ((a.1,IntKind.i64.wrap (a.2.1+b),a.2.2),true,())
def Zvq(i:Int)(d l a:Zc)(b:Int)(e:Zp)(j:Bool):Option (Zc×Bool×Unit):=
 let f:=IntKind.i64.wrap (e.2.2.2.2.2.2.2.1- (a.2.2.2.1.getD b.toNat Zj).2.1.2.2.2.2.2.2.2.1)
 (Zq0 (a.2.2.2.1.getD b.toNat Zj).2.2.1 f).bind λg=>
 (Zq0 d.2.2.2.2.1 f).bind λh=>
 bif((!j)||(!g.2.1))||(!h.2.1)then
  (Qf d).bind λk=>
  some (k.1,false,())
 else
  let c:=a.2.2.2.1.set b.toNat ((a.2.2.2.1.getD b.toNat Zj).1,e,(a.2.2.2.1.getD b.toNat Zj).2.2)
  some ((a.1,a.2.1,a.2.2.1,c.set b.toNat ((c.getD b.toNat Zj).1,(c.getD b.toNat Zj).2.1,g.1,(c.getD b.toNat Zj).2.2.2),h.1,a.2.2.2.2.2.1,a.2.2.2.2.2.2.1,a.2.2.2.2.2.2.2.1,a.2.2.2.2.2.2.2.2.1,a.2.2.2.2.2.2.2.2.2.1,a.2.2.2.2.2.2.2.2.2.2.1,a.2.2.2.2.2.2.2.2.2.2.2.1,a.2.2.2.2.2.2.2.2.2.2.2.2.1,i,a.2.2.2.2.2.2.2.2.2.2.2.2.2.2),true,())
def Zp9(f:Int)(b:Zc)(g:Qy)(h c:Zc)(a:Int):Option (Zc×Bool×Unit):=
 (Zce b).bind λi=>
 let d:=(!i.1)||(decide (a<0))
 Ze ((d=false->(0<=a/\a<b.2.2.2.1.length)))<|
 bif d||(!(b.2.2.2.1.getD a.toNat Zj).2.2.2.2.2.2.1)then
  some (c,false,())
 else
  Ze (0<=a/\a<c.2.2.2.1.length)<|
  Zid 1 (
   (Zvw (c.2.2.2.1.getD a.toNat Zj).2.1 g).bind λe=>
   Zvq f b h c a e.1 e.2.1
  )
def Zvp(a:Zc)(b:Int)(e:Qy):Option (Zc×Bool×Unit):=Zfs ((Qf a).bind λc=>Zid 1 ((Q8 a.2.2.2.1 b).bind λd=>Zp9 b a e Yi c.1 d.1)) ((Qf a).bind λc=>(Q8 a.2.2.2.1 b).bind λd=>Zp9 b a e Yi c.1 d.1)
def Zja(c:List UInt8)(d:List Zf)(a b:Int):Nat:=(a-b).toNat+1
def Zeq:Nat->List UInt8->List Zf->Int->Int->Option (List UInt8×Unit)|0,_,_,_,_=>none|N+1,b,c,e,a=>bif decide (a<e)then Ze (0<=a/\a<c.length)<|(Wi (c.getD a.toNat Qk)).bind λf=>bif !f.1 then some (([]:List UInt8),()) else (Zm4 (c.getD a.toNat Qk)).bind λd=>Ze (b.length+d.1.length<=Yh)<|bif decide (((b++d.1).length:Int)>(400:Int))then some (([]:List UInt8),()) else Zeq N (b++d.1) c e (IntKind.i64.wrap (a+1)) else some (b,())
def Zoi(a:List Zf):Option (List UInt8×Unit):=Zeq (Zja ([]:List UInt8) a (a.length:Int) (0:Int)) ([]:List UInt8) a (a.length:Int) (0:Int)
def Zb0(d a:Zc)(b:List Zf):Option ((List UInt8×Int×Zc×Unit)×(Unit)):=bif(b.length:Int)==(0:Int)then some (([],(-1:Int),a,()),()) else Ze (a.2.2.2.2.2.2.2.2.2.2.2.2.2.2.2.1.length+([(a.2.2.2.2.2.2.2.2.2.2.2.2.2.2.1,b,())]).length<=Qd)<|(Zoi b).bind λc=>some ((c.1,IntKind.i64.wrap ((IntKind.i64.wrap (a.2.2.2.2.2.2.2.2.2.2.2.2.2.2.1+1))-1),(a.1,a.2.1,a.2.2.1,a.2.2.2.1,a.2.2.2.2.1,a.2.2.2.2.2.1,a.2.2.2.2.2.2.1,a.2.2.2.2.2.2.2.1,a.2.2.2.2.2.2.2.2.1,a.2.2.2.2.2.2.2.2.2.1,a.2.2.2.2.2.2.2.2.2.2.1,a.2.2.2.2.2.2.2.2.2.2.2.1,a.2.2.2.2.2.2.2.2.2.2.2.2.1,a.2.2.2.2.2.2.2.2.2.2.2.2.2.1,IntKind.i64.wrap (a.2.2.2.2.2.2.2.2.2.2.2.2.2.2.1+1),a.2.2.2.2.2.2.2.2.2.2.2.2.2.2.2.1++([(a.2.2.2.2.2.2.2.2.2.2.2.2.2.2.1,b,())]),a.2.2.2.2.2.2.2.2.2.2.2.2.2.2.2.2),()),())
def Zgt(c d:Zc)(a:List Zf)(e:List Int)(f b:Int):Nat:=((200:Int)-b).toNat+1+0*a.length
def Wv:Nat->Zc->Zc->List Zf->List Int->Int->Int->Option ((List UInt8×Int×Zc×Unit)×(Unit))|0,_,_,_,_,_,_=>none|N+1,e,a,d,f,h,i=>bif decide (i<(200:Int))then (Zz5 a f).bind λl=>(Zto l.1 a.2.2.2.2.2.2.2.2.2.2.2.2.2.1).bind λb=>bif decide (b.1<(0:Int))then Zb0 e a d else (Zxr a b.1 h).bind λg=>bif !g.2.1 then (Q8 a.2.2.2.1 b.1).bind λc=>Ze (0<=c.1/\c.1<a.2.2.2.1.length)<|(Zr1 (a.2.2.2.1.getD c.1.toNat Zj).2.2.1).bind λm=>(Zr1 a.2.2.2.2.1).bind λn=>Ze (f.length+([b.1]).length<=Qd)<|Wv N e (a.1,a.2.1,a.2.2.1,a.2.2.2.1.set c.1.toNat ((a.2.2.2.1.getD c.1.toNat Zj).1,(a.2.2.2.1.getD c.1.toNat Zj).2.1,m.1,(a.2.2.2.1.getD c.1.toNat Zj).2.2.2),n.1,a.2.2.2.2.2) d (f++([b.1])) h (IntKind.i64.wrap (i+1)) else (Zvp a b.1 g.1).bind λj=>bif !j.2.1 then Zb0 e a d else (Zki b.1 g.1).bind λk=>Ze (d.length+([k.1]).length<=Qd)<|(Zki b.1 g.1).bind λo=>(Zm6 o.1).bind λp=>Wv N e j.1 (d++([k.1])) f (IntKind.i64.wrap (h-p.1)) (IntKind.i64.wrap (i+1)) else Zb0 e a d
def Zgs(c d:Zc)(e:List Zf)(f:List Int)(g:Int)(h:List Zf)(a b:Int):Nat:=(a-b).toNat+1
def J9:Nat->Zc->Zc->List Zf->List Int->Int->List Zf->Int->Int->Option ((List UInt8×Int×Zc×Unit)×(Unit))|0,_,_,_,_,_,_,_,_=>none|N+1,e,f,c,g,d,b,h,a=>bif decide (a<h)then Ze (0<=a/\a<b.length)<|(Zm6 (b.getD a.toNat Qk)).bind λi=>bif decide (i.1<=d)then Ze (c.length+([(b.getD a.toNat Qk)]).length<=Qd)<|(Zr0 f (b.getD a.toNat Qk)).bind λj=>J9 N e j.1 (c++([(b.getD a.toNat Qk)])) g (IntKind.i64.wrap (d-i.1)) b h (IntKind.i64.wrap (a+1)) else J9 N e f c g d b h (IntKind.i64.wrap (a+1)) else Wv (Zgt e f c g d (0:Int)) e f c g d (0:Int)
def Zkh(a:Zc)(c:Int):Option ((List UInt8×Int×Zc×Unit)×(Unit)):=(Qf a).bind λd=>(Zut a).bind λe=>(bif(!e.1)then some (false,())else(Z0 c 1 400)).bind λf=>bif((!e.1)||(!f.1))||(a.2.2.2.2.2.2.2.2.2.2.2.2.2.2.1==1000000)then some (([],(-1:Int),d.1,()),()) else (Zoh a).bind λb=>J9 (Zgs Yi d.1 ([]:List Zf) ([]:List Int) c b.1 (b.1.length:Int) (0:Int)) Yi d.1 ([]:List Zf) ([]:List Int) c b.1 (b.1.length:Int) (0:Int)
def Z5t(a:Zg):Option (List Bool×Unit):=some ([a.2.2.2.2.2.2.1,a.2.2.2.2.2.2.2.1,a.2.2.2.2.2.2.2.2.1,a.2.2.2.2.2.2.2.2.2.1,a.2.2.2.2.2.2.2.2.2.2.1,a.2.2.2.2.2.2.2.2.2.2.2.1,a.2.2.2.2.2.2.2.2.2.2.2.2.2.1],())
def Zhb(c d:List Int)(a b:Int):Nat:=(a-b).toNat+1
def Zcj:Nat->List Int->List Int->Int->Int->Option (Bool×Unit)|0,_,_,_,_=>none|N+1,b,c,d,a=>bif decide (a<d)then Ze (0<=a/\a<b.length)<|Ze (0<=a/\a<c.length)<|bif(b.getD a.toNat (0:Int)) !=(c.getD a.toNat (0:Int))then some (false,()) else Zcj N b c d (IntKind.i64.wrap (a+1)) else some (true,())
def Zll(a b:List Int):Option (Bool×Unit):=bif(a.length:Int) !=(b.length:Int)then some (false,()) else Zcj (Zhb a b (a.length:Int) (0:Int)) a b (a.length:Int) (0:Int)
def Zy3(a b:Xu):Option (Bool×Unit):=
 let c:=((a.1==b.1)&&(a.2.1==b.2.1))&&(a.2.2.1==b.2.2.1)
 (bif c then(Zll a.2.2.2.1 b.2.2.2.1)else some (false,())).bind λd=>
 some (c&&d.1,())
def Zp7(a b:Zp):Option (Bool×Unit):=
 (bif(a.1==b.1)then(Zy3 a.2.1 b.2.1)else some (false,())).bind λd=>
 (bif((a.1==b.1)&&d.1)then(Zan a.2.2.1 b.2.2.1)else some (false,())).bind λf=>
 let c:=((a.1==b.1)&&d.1)&&f.1
 (bif c then(Zan a.2.2.2.1 b.2.2.2.1)else some (false,())).bind λe=>
 (bif(c&&e.1)then(Zan a.2.2.2.2.1 b.2.2.2.2.1)else some (false,())).bind λg=>
 some ((((((c&&e.1)&&g.1)&&(a.2.2.2.2.2.1==b.2.2.2.2.2.1))&&(a.2.2.2.2.2.2.1==b.2.2.2.2.2.2.1))&&(a.2.2.2.2.2.2.2.1==b.2.2.2.2.2.2.2.1))&&(a.2.2.2.2.2.2.2.2.1==b.2.2.2.2.2.2.2.2.1),())
def Ve(c d:List Z6)(a b:Int):Nat:=(a-b).toNat+1
def Yj:Nat->List Z6->List Z6->Int->Int->Option (Bool×Unit)|0,_,_,_,_=>none|N+1,b,c,d,a=>bif decide (a<d)then Ze (0<=a/\a<b.length)<|Ze (0<=a/\a<c.length)<|bif !(eqV (Zf2) (b.getD a.toNat Qx) (c.getD a.toNat Qx))then some (false,()) else Yj N b c d (IntKind.i64.wrap (a+1)) else some (true,())
def Vd(a b:List Z6):Option (Bool×Unit):=bif(a.length:Int) !=(b.length:Int)then some (false,()) else Yj (Ve a b (a.length:Int) (0:Int)) a b (a.length:Int) (0:Int)
def Zvm(a b:Zv):Option (Bool×Unit):=(bif(a.1==b.1)then(Vd a.2.1 b.2.1)else some (false,())).bind λc=>some ((a.1==b.1)&&c.1,())
def Zmk(a b:Zx):Option (Bool×Unit):=(bif(a.1==b.1)then(Zvm a.2.1 b.2.1)else some (false,())).bind λc=>some (((((a.1==b.1)&&c.1)&&(a.2.2.1==b.2.2.1))&&(a.2.2.2.1==b.2.2.2.1))&&(a.2.2.2.2.1==b.2.2.2.2.1),())
def Zp8(a b:Zg):Option (Bool×Unit):=
 let c:=((((a.1==b.1)&&(a.2.2.2.2.2.2.2.2.2.2.2.2.1==b.2.2.2.2.2.2.2.2.2.2.2.2.1))&&(eqV (Qq) a.2.2.1 b.2.2.1))&&(eqV (Xr) a.2.2.2.2.1 b.2.2.2.2.1))&&(eqV (Kf) a.2.2.2.2.2.1 b.2.2.2.2.2.1)
 (bif c then(Z5t a)else some ((List.replicate 7 false),())).bind λf=>
 (bif c then(Z5t b)else some ((List.replicate 7 false),())).bind λg=>
 let d:=c&&(eqV (.arr 7 (.bool)) f.1 g.1)
 (bif d then(Zp7 a.2.1 b.2.1)else some (false,())).bind λe=>
 (bif(d&&e.1)then(Zmk a.2.2.2.1 b.2.2.2.1)else some (false,())).bind λh=>
 some ((d&&e.1)&&h.1,())
def Qs(c:List Zg)(d:Unit)(e:List Zg)(a b:Int):Nat:=(a-b).toNat+1
def Z2:Nat->List Zg->Unit->List Zg->Int->Int->Option (Bool×Unit)|0,_,_,_,_,_=>none|N+1,b,f,c,d,a=>bif decide (a<d)then Ze (0<=a/\a<c.length)<|Ze (0<=a/\a<b.length)<|(Zp8 (c.getD a.toNat Zj) (b.getD a.toNat Zj)).bind λe=>bif !e.1 then some (false,()) else Z2 N b () c d (IntKind.i64.wrap (a+1)) else some (true,())
def Qe(a b:List Zg):Option (Bool×Unit):=bif(a.length:Int) !=(b.length:Int)then some (false,()) else Z2 (Qs b () a (a.length:Int) (0:Int)) b () a (a.length:Int) (0:Int)
def Zw5(a b:List Zg):Option (Bool×Unit):=(Qe a b).bind λc=>some (c.1,())
def Vg(c d:List Zf)(a b:Int):Nat:=(a-b).toNat+1
def Yk:Nat->List Zf->List Zf->Int->Int->Option (Bool×Unit)|0,_,_,_,_=>none|N+1,b,c,d,a=>bif decide (a<d)then Ze (0<=a/\a<b.length)<|Ze (0<=a/\a<c.length)<|bif !(eqV (Zt) (b.getD a.toNat Qk) (c.getD a.toNat Qk))then some (false,()) else Yk N b c d (IntKind.i64.wrap (a+1)) else some (true,())
def Vf(a b:List Zf):Option (Bool×Unit):=bif(a.length:Int) !=(b.length:Int)then some (false,()) else Yk (Vg a b (a.length:Int) (0:Int)) a b (a.length:Int) (0:Int)
def Zr6(a b:Qb):Option (Bool×Unit):=(bif(a.1==b.1)then(Vf a.2.1 b.2.1)else some (false,())).bind λc=>some ((a.1==b.1)&&c.1,())
def Qu(c:List Qb)(d:Unit)(e:List Qb)(a b:Int):Nat:=(a-b).toNat+1
def Z3:Nat->List Qb->Unit->List Qb->Int->Int->Option (Bool×Unit)|0,_,_,_,_,_=>none|N+1,b,f,c,d,a=>bif decide (a<d)then Ze (0<=a/\a<c.length)<|Ze (0<=a/\a<b.length)<|(Zr6 (c.getD a.toNat Q6) (b.getD a.toNat Q6)).bind λe=>bif !e.1 then some (false,()) else Z3 N b () c d (IntKind.i64.wrap (a+1)) else some (true,())
def Qh(a b:List Qb):Option (Bool×Unit):=bif(a.length:Int) !=(b.length:Int)then some (false,()) else Z3 (Qu b () a (a.length:Int) (0:Int)) b () a (a.length:Int) (0:Int)
def Zti(a b:Zc):Option (Bool×Unit):=(Zw5 a.2.2.2.1 b.2.2.2.1).bind λc=>(bif(!c.1)then some (false,())else(Qh a.2.2.2.2.2.2.2.2.2.2.2.2.2.2.2.1 b.2.2.2.2.2.2.2.2.2.2.2.2.2.2.2.1)).bind λd=>bif(!c.1)||(!d.1)then some (false,()) else some ((((((((((((((((a.1==b.1)&&(eqV (Zmg) a.2.1 b.2.1))&&(eqV (Zmg) a.2.2.1 b.2.2.1))&&(eqV (Qq) a.2.2.2.2.1 b.2.2.2.2.1))&&(eqV (Xr) a.2.2.2.2.2.1 b.2.2.2.2.2.1))&&(eqV (Zdr) a.2.2.2.2.2.2.1 b.2.2.2.2.2.2.1))&&(eqV (Zdr) a.2.2.2.2.2.2.2.1 b.2.2.2.2.2.2.2.1))&&(eqV (Qq) a.2.2.2.2.2.2.2.2.1 b.2.2.2.2.2.2.2.2.1))&&(eqV (Qq) a.2.2.2.2.2.2.2.2.2.1 b.2.2.2.2.2.2.2.2.2.1))&&(a.2.2.2.2.2.2.2.2.2.2.1==b.2.2.2.2.2.2.2.2.2.2.1))&&(a.2.2.2.2.2.2.2.2.2.2.2.1==b.2.2.2.2.2.2.2.2.2.2.2.1))&&(a.2.2.2.2.2.2.2.2.2.2.2.2.1==b.2.2.2.2.2.2.2.2.2.2.2.2.1))&&(a.2.2.2.2.2.2.2.2.2.2.2.2.2.1==b.2.2.2.2.2.2.2.2.2.2.2.2.2.1))&&(a.2.2.2.2.2.2.2.2.2.2.2.2.2.2.1==b.2.2.2.2.2.2.2.2.2.2.2.2.2.2.1))&&(a.2.2.2.2.2.2.2.2.2.2.2.2.2.2.2.2.1==b.2.2.2.2.2.2.2.2.2.2.2.2.2.2.2.2.1))&&(a.2.2.2.2.2.2.2.2.2.2.2.2.2.2.2.2.2.1==b.2.2.2.2.2.2.2.2.2.2.2.2.2.2.2.2.2.1),())
def Zl4(a:Zc):Option (Bool×Unit):=
 (Zkh a 400).bind λb=>
 (Zce a).bind λc=>
 (bif c.1 then(Zpl a)else some (false,())).bind λe=>
 let d:=(c.1&&e.1)&&(b.1.2.1==(-1:Int))
 (bif d then(Zti a b.1.2.2.1)else some (false,())).bind λf=>
 some (d&&f.1,())
def Zln(b:List Int):Option ((Zc×Unit)×(Unit)):=(Zuk b).bind λc=>(Zrr c.1).bind λa=>(Zbb a.2.1 2).bind λd=>bif d.1.1 then (Zgb a.1.1 3).bind λe=>some ((e.1,()),()) else some ((a.1.1,()),())
def Zjn(a:List Int):Option (Int×Unit):=(Zuk a).bind λb=>(Qo b.1 10).bind λc=>some (IntKind.i64.wrap (c.1.1-1),())
def Ztf(a:Zc):Option (Bool×Unit):=
 (Vu a 400).bind λb=>
 (X9 a).bind λc=>
 (bif c.1 then(Zfz a)else some (false,())).bind λe=>
 let d:=((c.1&&e.1)&&(b.1.1==[]))&&(b.1.2.1==(-1:Int))
 (bif d then(Zku b.1.2.2.1 a)else some (false,())).bind λf=>
 some (d&&f.1,())
def Zqw(a:Int):Option (List UInt8×Unit):=bif a==0 then some (([110,111,110,101]:List UInt8),()) else bif a==3 then some (([102,108,111,119]:List UInt8),()) else bif a==4 then some (([108,105,109,105,116]:List UInt8),()) else bif a==5 then some (([115,116,97,116,101]:List UInt8),()) else bif a==6 then some (([102,105,110,97,108]:List UInt8),()) else bif a==7 then some (([101,110,99,111,100,105,110,103]:List UInt8),()) else some ([],())
def Zrj(a:Int):Option (List UInt8×Unit):=bif a==0 then some (([110,111,110,101]:List UInt8),()) else bif a==3 then some (([102,108,111,119]:List UInt8),()) else bif a==4 then some (([108,105,109,105,116]:List UInt8),()) else bif a==5 then some (([115,116,97,116,101]:List UInt8),()) else bif a==6 then some (([102,105,110,97,108]:List UInt8),()) else bif a==7 then some (([101,110,99,111,100,105,110,103]:List UInt8),()) else some ([],())
def Zxv(c:List Int):Option (Bool×Unit):=
 (Qon c).bind λm=>
 bif m.1 then
  some (true,())
 else
  (Zj3 c).bind λa=>
  (Zk7 a.1.1 a.1.2.1).bind λn=>
  (Zqk a.1.1 a.1.2.1).bind λd=>
  (Ztj a.1.1 a.1.2.1).bind λb=>
  (Ztw a.1.1 a.1.2.1).bind λe=>
  (Zku n.1 d.1.1).bind λo=>
  let f:=((!o.1)||(b.1 !=e.1))||(b.2.1 !=e.2.1)
  (bif f then some (false,())else(X9 a.1.1)).bind λi=>
  (bif i.1 then(bif f then some (false,())else(Zfz a.1.1))else some (false,())).bind λp=>
  let j:=f||((i.1&&(!p.1))&&(d.1.1.2.2.2.2.2.2.2.2.2.2.2.2.2.2.2.2.2.1 !=e.2.1))
  (bif(decide (b.1>=0))then(bif j then some (false,())else(Zl4 d.1.1))else some (false,())).bind λq=>
  bif j||((decide (b.1>=0))&&(!q.1))then
   some (false,())
  else
   Ze (((decide (b.1>=0))=true->(0<=(0:Int)/\0<=(IntKind.i64.wrap (b.1+1))/\(IntKind.i64.wrap (b.1+1))<=a.1.2.1.length)))<|
   (bif(decide (b.1>=0))then(Zk7 a.1.1 ((a.1.2.1.drop (0:Int).toNat).take ((IntKind.i64.wrap (b.1+1)).toNat- (0:Int).toNat)))else some (Yi,())).bind λr=>
   (bif(decide (b.1>=0))then(Zku r.1 d.1.1)else some (false,())).bind λs=>
   bif(decide (b.1>=0))&&(!s.1)then
    some (false,())
   else
    (Zln c).bind λk=>
    (Zjn c).bind λl=>
    (Zl4 k.1.1).bind λg=>
    (Ztf k.1.1).bind λh=>
    (bif(g.1==h.1)then(Zqw l.1)else some ([],())).bind λt=>
    (bif(g.1==h.1)then(Zrj l.1)else some ([],())).bind λu=>
    some ((g.1==h.1)&&(t.1==u.1),())
end Go.Proofs.YtfhellopliifdaaGreat

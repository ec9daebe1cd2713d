/- FnErrors: what the functions that it reaches compute, as plain functions, part 2. No condition. -/
import Derived.Test.YtgepmefongfeeaaGreatM1
noncomputable section
namespace Go.Proofs.YtgepmefongfeeaaGreat
open Go.Am
set_option maxRecDepth 100000
set_option linter.unusedVariables false
def Zma(b:Zf)(c:Int):Option (Zf×Unit):=(Qi b).bind fun a=>(bif(b.2.2.2.2.2.2.2.2.2.2.2.2.2.2.2.2.2.1==0)then(Zy c (1:Int) (255:Int))else some (false,())).bind fun d=>bif(b.2.2.2.2.2.2.2.2.2.2.2.2.2.2.2.2.2.1==0)&&d.1 then some ((a.1.1,(a.1.2.1,(a.1.2.2.1,(a.1.2.2.2.1,(a.1.2.2.2.2.1,(a.1.2.2.2.2.2.1,(a.1.2.2.2.2.2.2.1,(a.1.2.2.2.2.2.2.2.1,(a.1.2.2.2.2.2.2.2.2.1,(a.1.2.2.2.2.2.2.2.2.2.1,(a.1.2.2.2.2.2.2.2.2.2.2.1,(a.1.2.2.2.2.2.2.2.2.2.2.2.1,(a.1.2.2.2.2.2.2.2.2.2.2.2.2.1,(a.1.2.2.2.2.2.2.2.2.2.2.2.2.2.1,(a.1.2.2.2.2.2.2.2.2.2.2.2.2.2.2.1,(a.1.2.2.2.2.2.2.2.2.2.2.2.2.2.2.2.1,(a.1.2.2.2.2.2.2.2.2.2.2.2.2.2.2.2.2.1,(c,a.1.2.2.2.2.2.2.2.2.2.2.2.2.2.2.2.2.2.2)))))))))))))))))),()) else some (a.1,())
def Wf(a:Int):Option (Bool×Unit):=(Xj a).bind fun b=>some (b.1,())
def Zqn(a:Int):Option (Bool×Unit):=(Wf a).bind fun b=>some (b.1&& ((bits .and .i64 a (2:Int))==2),())
def Z1l(a:Int):Option (Bool×Unit):=(Wf a).bind fun b=>some (b.1&& ((bits .and .i64 a (1:Int))==1),())
def Ze5(c:Bool)(a:Int):Option (Bool×Unit):=(Wf a).bind fun b=>(bif b.1 then(Z1l a)else some (false,())).bind fun d=>some (b.1&& (d.1==c),())
def Zda(d:Bool)(a:Int):Option (Bool×Unit):=(Wf a).bind fun b=>(bif b.1 then(Zqn a)else some (false,())).bind fun c=>(bif(!c.1)then some (false,())else(bif b.1 then(Ze5 d a)else some (false,()))).bind fun e=>some (b.1&& ((!c.1)|| (!e.1)),())
def Zwq(a:Zd)(b:Int):Option (Bool×Unit):=some (a.1==b,())
abbrev Zak:List PE:=[.val 0 (.slice 67 (Zw)) (.u false),.val 1 (.clo 180 (.pair (.sptr 3 (.int .i64)) (.unit))) (.u false),.val 7 (.int .i64) (.u false),.val 8 (.int .i64) (.u false)]
def Q3(c:List Zd)(d:Int×Unit)(a b:Int):Nat:=(a-b).toNat+1
def Qa:Nat->List Zd->(Int×Unit)->Int->Int->Option (Int×Unit)|0,_,_,_,_=>none|N+1,b,c,d,a=>bif decide (a<d)then Ze (0<=a/\a<b.length)<|(Zwq (b.getD a.toNat Zj) c.1).bind fun e=>bif e.1 then some (a,()) else Qa N b c d (IntKind.i64.wrap (a+1)) else some ((-1:Int),())
def Xm(a:List Zd)(b:Int×Unit):Option (Int×Unit):=Qa (Q3 a b (a.length:Int) (0:Int)) a b (a.length:Int) (0:Int)
def Xt(a:List Zd)(b:Int):Option (Int×Unit):=(Xm a (b,())).bind fun c=>some (c.1,())
def Z3(a:Zf)(b:Int):Option ((Bool)×(Zf×Unit)):=(Zqn b).bind fun c=>bif c.1 then some (true,(a,())) else some (false,(a,()))
def Zd8(a:Int):Option (Int×Unit):=(Wf a).bind fun b=>bif !b.1 then some ((-1:Int),()) else Ze ((4:Int)≠0)<|some (IntKind.i64.wrap (Int.tdiv a (4:Int)),())
def Zck(a:Q8)(b:Int):Option (Q8×Int×Bool×Unit):=
 (Zm9 a).bind fun c=>
 (bif(!c.1)then some (false,())else(Zy b (0:Int) (IntKind.i64.wrap (a.2.1-1)))).bind fun e=>
 bif(!c.1)|| (!e.1)then
  some (a,(0:Int),false,())
 else
  let d:Int:=max (IntKind.i64.wrap ((IntKind.i64.wrap (b+1))-a.2.2.1)) (0:Int)
  some ((a.1,(a.2.1,(IntKind.i64.wrap (a.2.2.1+d),a.2.2.2))),d,true,())
def Zyd:Option (Zu×Unit):=some (((0:Int),(((0:Int),(([]:List Z1),())),((-1:Int),((0:Int),((0:Int),()))))),())
def Zs7:Option (Xl×Unit):=some (((3:Int),(false,())),())
def Zl9(d:Bool)(a:Int):Option (Bool×Unit):=(Wf a).bind fun b=>(bif b.1 then(Zqn a)else some (false,())).bind fun c=>(bif(!c.1)then some (false,())else(bif b.1 then(Ze5 d a)else some (false,()))).bind fun e=>some (b.1&& ((!c.1)||e.1),())
def Z0g(a:Int):Option (Yv×Bool×Unit):=(Zbb a).bind fun b=>bif !b.1 then some (Qvg,false,()) else Ze (0<=a/\a<=a/\a<=Qo)<|some ((a,((0:Int),((0:Int),(List.replicate a.toNat (0:Int),())))),true,())
def Zqo(b:Int):Option (Zp×Bool×Unit):=(Z0g b).bind fun a=>bif !a.2.1 then some (Za1,false,()) else some (((0:Int),(a.1,(([]:List Zh),(([]:List Zh),(([]:List Zh),((-1:Int),Zpw)))))),true,())
def Z32(a:Int):Option (Q8×Bool×Unit):=(Xj a).bind fun b=>bif !b.1 then some (Q1s,false,()) else some ((a,((0:Int),((-1:Int),((-1:Int),())))),true,())
def Z33(a b:Int):Option (Qw×Bool×Unit):=(Zy b (1:Int) (4096:Int)).bind fun c=>(bif(!c.1)then some (false,())else(Zy a (1:Int) b)).bind fun d=>bif(!c.1)|| (!d.1)then some (Qop,false,()) else some ((a,(b,(a,Zpw))),true,())
def Zqp(d:Bool)(a:Int)(b e:Zgp):Option (Zd×Bool×Unit):=(Wf a).bind fun c=>(bif(!c.1)then some (false,())else(Zmd b)).bind fun f=>(bif((!c.1)|| (!f.1))then some (false,())else(Zmd e)).bind fun g=>bif((!c.1)|| (!f.1))|| (!g.1)then some (Zj,false,()) else Option.bind Zyd fun h=>Option.bind Zs7 fun i=>(Zl9 d a).bind fun j=>(Zda d a).bind fun k=>(Zqo b.1).bind fun l=>(Z32 e.2.1).bind fun m=>(Z33 b.2.1 b.2.2.1).bind fun n=>some ((a,(l.1,(m.1,(h.1,(n.1,(i.1,(j.1,(k.1,(false,(false,(false,(false,((0:Int),(false,())))))))))))))),true,())
def Zye(a b:Zd):Option (Bool×Unit):=some (decide (a.1>b.1),())
abbrev Zas:List PE:=[.val 0 (.slice 67 (Zw)) (.u false),.val 1 (.clo 242 (.pair (.sptr 67 (Zw)) (.unit))) (.u false),.val 7 (.int .i64) (.u false),.val 8 (.int .i64) (.u false)]
def Q7(c:List Zd)(d:Zd×Unit)(a b:Int):Nat:=(a-b).toNat+1
def Qc:Nat->List Zd->(Zd×Unit)->Int->Int->Option (Int×Unit)|0,_,_,_,_=>none|N+1,b,c,d,a=>bif decide (a<d)then Ze (0<=a/\a<b.length)<|(Zye (b.getD a.toNat Zj) c.1).bind fun e=>bif e.1 then some (a,()) else Qc N b c d (IntKind.i64.wrap (a+1)) else some ((-1:Int),())
def Qx(a:List Zd)(b:Zd×Unit):Option (Int×Unit):=Qc (Q7 a b (a.length:Int) (0:Int)) a b (a.length:Int) (0:Int)
def Z9f(l:List (Zd))(i:Int)(v:List (Zd)):Option (((List (Zd))×Unit)×Unit):=Q6x l i v
abbrev Z69:List PE:=[.shp 3 (Zw),.val 5 (.slice 67 (Zw)) (.u true),.val 7 (.int .i64) (.u false)]
def Zgt(a:Zd)(b:List Zd)(c:Int):Option (List Zd×Unit):=(Zgc a).bind fun d=>(Z9f b c ([d.1])).bind fun e=>some (e.1.1,())
def Zio(b:List Zd)(a:Zd):Option (List Zd×Unit):=(W3 b).bind fun c=>(Xt b a.1).bind fun d=>bif decide (d.1>=(0:Int))then (Zgc a).bind fun f=>Ze (0<=d.1/\d.1<c.1.length)<|some (c.1.set d.1.toNat f.1,()) else (Qx b (a,())).bind fun e=>bif decide (e.1< (0:Int))then Zgt a c.1 (b.length:Int) else Zgt a c.1 e.1
abbrev Z1z:List PE:=[.box 0 37 (Zo) (.p (.u false) (.p (.u false) (.p (.u false) (.p (.u true) (.p (.u false) (.p (.u false) (.p (.u false) (.p (.u false) (.p (.u false) (.p (.u false) (.u true))))))))))),.val 1 (.int .i64) (.u false),.val 8 (.int .i64) (.u false),.box 9 67 (Zw) (.u true)]
def Zny(K1: (Zf×Int×Int×Unit)->Option ((Int×Unit)×(Zf×Unit)))(a:Zf)(b c:Int)(d:Zd):Option ((Int×Unit)×(Zf×Unit)):=(Zio a.2.2.2.1 d).bind fun e=>K1 ((a.1,(a.2.1,(a.2.2.1,(e.1,a.2.2.2.2)))),b,IntKind.i64.wrap (c-1),())
abbrev Z10:List PE:=[.box 0 37 (Zo) (.p (.u false) (.p (.u false) (.p (.u false) (.p (.u true) (.p (.u false) (.p (.u false) (.p (.u false) (.p (.u false) (.p (.u false) (.p (.u false) (.u true))))))))))),.val 1 (.int .i64) (.u false),.val 8 (.int .i64) (.u false)]
def Zhl(b:Zf)(c a:Int):Nat:=(a-0).toNat+2
def Za2:Nat->Zf->Int->Int->Option ((Int×Unit)×(Zf×Unit))
 |0,_,_,_=>none
 |N+1,a,c,b=>
  bif decide (b>=(0:Int))then
   let d:Int:=IntKind.i64.wrap (c- (IntKind.i64.wrap ((4:Int)*b)))
   Zkp 1 (
    (Zqp a.1 d a.2.1 a.2.2.1).bind fun e=>
    Zny (fun v=>Za2 N v.1 v.2.1 v.2.2.1) a c b e.1
   )
  else
   bif decide ((a.2.2.2.1.length:Int)>(24:Int))then
    some (((4:Int),()),(a,()))
   else
    some (((0:Int),()),(a,()))
abbrev Z1y:List PE:=[.box 0 37 (Zo) (.p (.u false) (.p (.u false) (.p (.u false) (.p (.u true) (.p (.u false) (.p (.u false) (.p (.u false) (.p (.u false) (.p (.u false) (.p (.u false) (.u true))))))))))),.val 1 (.int .i64) (.u false),.val 6 (.int .i64) (.u false)]
def Zdy(a:Zf)(b c:Int):Option ((Int×Unit)×(Zf×Unit)):=Za2 (Zhl a b (IntKind.i64.wrap (c-1))) a b (IntKind.i64.wrap (c-1))
abbrev Z1x:List PE:=[.box 0 37 (Zo) (.u true),.val 1 (.int .i64) (.u false),.box 5 34 (Q1) (.u false),.val 6 (.int .i64) (.u false),.val 7 (.bool) (.u false)]
def Kd(c:Zf)(d:Int)(e:Q8)(b:Int)(f:Bool):Option ((Int×Unit)×(Zf×Unit)):=bif((!f)|| (b==0))|| (decide (b>(IntKind.i64.wrap ((24:Int)- (c.2.2.2.1.length:Int)))))then some (((4:Int),()),(c,())) else (Z3 c d).bind fun a=>bif a.1 then Zdy (a.2.1.1,(a.2.1.2.1,(a.2.1.2.2.1,(a.2.1.2.2.2.1,(a.2.1.2.2.2.2.1,(a.2.1.2.2.2.2.2.1,(a.2.1.2.2.2.2.2.2.1,(a.2.1.2.2.2.2.2.2.2.1,(a.2.1.2.2.2.2.2.2.2.2.1,(e,a.2.1.2.2.2.2.2.2.2.2.2.2)))))))))) d b else Zdy (a.2.1.1,(a.2.1.2.1,(a.2.1.2.2.1,(a.2.1.2.2.2.1,(a.2.1.2.2.2.2.1,(a.2.1.2.2.2.2.2.1,(a.2.1.2.2.2.2.2.2.1,(a.2.1.2.2.2.2.2.2.2.1,(e,a.2.1.2.2.2.2.2.2.2.2.2))))))))) d b
def W2(e:Zf)(a:Int):Option ((Int×Unit)×(Zf×Unit)):=(Xt e.2.2.2.1 a).bind fun h=>bif decide (h.1>=(0:Int))then some (((0:Int),()),(e,())) else (Ze5 e.1 a).bind fun i=>bif i.1 then some (((5:Int),()),(e,())) else Zeh ((Z3 e a).bind fun b=>bif b.1 then Zeh ((Zd8 a).bind fun f=>Zkp 1 ((Zck b.2.1.2.2.2.2.2.2.2.2.2.1 f.1).bind fun c=>Kd b.2.1 a c.1 c.2.1 c.2.2.1)) ((Zd8 a).bind fun f=>(Zck b.2.1.2.2.2.2.2.2.2.2.2.1 f.1).bind fun c=>Kd b.2.1 a c.1 c.2.1 c.2.2.1) else Zeh ((Zd8 a).bind fun g=>Zkp 1 ((Zck b.2.1.2.2.2.2.2.2.2.2.1 g.1).bind fun d=>Kd b.2.1 a d.1 d.2.1 d.2.2.1)) ((Zd8 a).bind fun g=>(Zck b.2.1.2.2.2.2.2.2.2.2.1 g.1).bind fun d=>Kd b.2.1 a d.1 d.2.1 d.2.2.1)) ((Z3 e a).bind fun b=>bif b.1 then (Zd8 a).bind fun f=>(Zck b.2.1.2.2.2.2.2.2.2.2.2.1 f.1).bind fun c=>Kd b.2.1 a c.1 c.2.1 c.2.2.1 else (Zd8 a).bind fun g=>(Zck b.2.1.2.2.2.2.2.2.2.2.1 g.1).bind fun d=>Kd b.2.1 a d.1 d.2.1 d.2.2.1)
def Zoe(a:Zu)(b:Int):Option (Int×Unit):=(Zba a).bind fun c=>(bif(!c.1)then some (false,())else(Xj b)).bind fun d=>bif(!c.1)|| (!d.1)then some ((0:Int),()) else some (max (IntKind.i64.wrap (b-a.2.2.2.1)) (0:Int),())
def Zka(a:Qw):Option (Int×Unit):=(Zhn a).bind fun b=>bif !b.1 then some ((0:Int),()) else some (IntKind.i64.wrap (a.2.2.1-a.2.2.2.1),())
def Znc(a:Zu)(b:Int)(c:Bool):Option (Bool×Unit):=some (((a.2.2.1 !=(-1:Int))&& (decide (b>a.2.2.1)))|| (c&& (((a.2.2.1 !=(-1:Int))&& (b !=a.2.2.1))|| (decide (b<a.2.2.2.1)))),())
def Zvb(a:Zu):Option (Bool×Unit):=some ((a.1==0)|| (a.1==1),())
def Zk2(l:List (Z1)):Option (Unit×List (Z1)):=Qvb l
abbrev Qis:List PE:=[.val 3 (.slice 183 (Zig)) (.u true),.val 8 (.slice 183 (Zig)) (.u false),.val 9 (.int .i64) (.u false),.val 10 (.int .i64) (.u false)]
def Zhz(c d:List Z1)(a b:Int):Nat:=(a-b).toNat+1
def Ze8:Nat->List Z1->List Z1->Int->Int->Option (List Z1×Unit)
 |0,_,_,_,_=>none
 |N+1,b,d,e,c=>
  bif decide (c<e)then
   Ze (0<=c/\c<d.length)<|
   let a:Int:=IntKind.i64.wrap ((b.length:Int)- (1:Int))
   Ze (((decide (a>=(0:Int)))=true->(0<=a/\a<b.length)))<|
   (bif(decide (a>=(0:Int)))then(Zct (b.getD a.toNat Qf))else some ((0:Int),())).bind fun f=>
   bif(decide (a>=(0:Int)))&& (f.1==(d.getD c.toNat Qf).1)then
    Ze (0<=a/\a<b.length)<|
    Ze ((b.getD a.toNat Qf).2.1.length+ (d.getD c.toNat Qf).2.1.length<=Ka)<|
    Ze (0<=a/\a<b.length)<|
    Ze8 N (b.set a.toNat ((b.getD a.toNat Qf).1,((b.getD a.toNat Qf).2.1++ (d.getD c.toNat Qf).2.1,(b.getD a.toNat Qf).2.2))) d e (IntKind.i64.wrap (c+1))
   else
    Ze (b.length+ ([(d.getD c.toNat Qf)]).length<=Qo)<|
    Ze8 N (b++ ([(d.getD c.toNat Qf)])) d e (IntKind.i64.wrap (c+1))
  else
   some (b,())
def Zp0(a:List Z1):Option (List Z1×Unit):=Ze8 (Zhz ([]:List Z1) a (a.length:Int) (0:Int)) ([]:List Z1) a (a.length:Int) (0:Int)
abbrev Z30:List PE:=[.box 3 61 (Q2) (.u false),.box 4 3 (.int .i64) (.u false),.box 5 9 (.str) (.u false),.box 6 61 (Q2) (.u true),.box 7 3 (.int .i64) (.u false),.box 8 3 (.int .i64) (.u false),.box 9 59 (.slice 183 (Zig)) (.u true),.clo 10 184 [7,8,9,5,4],.val 53 (.slice 183 (Zig)) (.u false),.val 54 (.int .i64) (.u false),.val 55 (.int .i64) (.u false)]
def Zik(c:Zs)(d:Int)(e:List UInt8)(f:Zs)(g h:Int)(i j:List Z1)(a b:Int):Nat:=(a-b).toNat+1
def Zb7:Nat->Zs->Int->List UInt8->Zs->Int->Int->List Z1->List Z1->Int->Int->Option (Zs×Unit)
 |0,_,_,_,_,_,_,_,_,_,_=>none
 |N+1,h,c,g,m,a,e,f,d,i,b=>
  bif decide (b<i)then
   Ze (0<=b/\b<d.length)<|
   bif decide (a< (min (d.getD b.toNat Qf).1 e))then
    let j:Int:=IntKind.i64.wrap ((min (d.getD b.toNat Qf).1 e)-c)
    Ze (0<=(IntKind.i64.wrap (a-c))/\(IntKind.i64.wrap (a-c))<=j/\j<=g.length)<|
    let k:List Z1:=[(a,((g.drop (IntKind.i64.wrap (a-c)).toNat).take (j.toNat- (IntKind.i64.wrap (a-c)).toNat),()))]
    Ze (f.length+k.length<=Qo)<|
    Ze ((f++k).length+ ([(d.getD b.toNat Qf)]).length<=Qo)<|
    (Zct (d.getD b.toNat Qf)).bind fun o=>
    Zb7 N h c g m (max a o.1) e ((f++k)++ ([(d.getD b.toNat Qf)])) d i (IntKind.i64.wrap (b+1))
   else
    Ze (f.length+ ([(d.getD b.toNat Qf)]).length<=Qo)<|
    (Zct (d.getD b.toNat Qf)).bind fun p=>
    Zb7 N h c g m (max a p.1) e (f++ ([(d.getD b.toNat Qf)])) d i (IntKind.i64.wrap (b+1))
  else
   bif decide (a< (min e e))then
    let l:Int:=IntKind.i64.wrap ((min e e)-c)
    Ze (0<=(IntKind.i64.wrap (a-c))/\(IntKind.i64.wrap (a-c))<=l/\l<=g.length)<|
    let n:List Z1:=[(a,((g.drop (IntKind.i64.wrap (a-c)).toNat).take (l.toNat- (IntKind.i64.wrap (a-c)).toNat),()))]
    Ze (f.length+n.length<=Qo)<|
    (Zk2 (f++n)).bind fun q=>
    (Zp0 q.2).bind fun r=>
    some ((h.1,(r.1,())),())
   else
    (Zk2 f).bind fun s=>
    (Zp0 s.2).bind fun t=>
    some ((h.1,(t.1,())),())
abbrev Z3z:List PE:=[.box 3 61 (Q2) (.u false),.box 4 3 (.int .i64) (.u false),.box 5 9 (.str) (.u false),.box 6 61 (Q2) (.u true),.box 7 3 (.int .i64) (.u false),.box 8 3 (.int .i64) (.u false)]
def Zpf(a:Zs)(b:Int)(c:List UInt8)(d:Zs)(e f:Int):Option (Zs×Unit):=Zb7 (Zik a b c d e f ([]:List Z1) a.2.1 (a.2.1.length:Int) (0:Int)) a b c d e f ([]:List Z1) a.2.1 (a.2.1.length:Int) (0:Int)
def Zot(b:Zs)(a:Int)(c:List UInt8):Option (Zs×Unit):=
 (Zhm b).bind fun d=>
 bif((((!d.1)|| (c==([]:List UInt8)))|| (decide (a< (0:Int))))|| (decide (a>(IntKind.i64.wrap ((4611686018427387903:Int)- (c.length:Int))))))|| (decide ((IntKind.i64.wrap (a+ (c.length:Int)))<=b.1))then
  (Zgb b).bind fun e=>
  some (e.1,())
 else
  let f:Int:=IntKind.i64.wrap (a+ (c.length:Int))
  Zkp 1 (
   Zpf b a c ((0:Int),(([]:List Z1),())) (max a b.1) f
  )
abbrev Z12:List PE:=[.box 8 63 (Z8) (.u true),.box 10 63 (Z8) (.p (.u false) (.p (.u true) (.u false)))]
def Znz(b a:Zu):Option (Zu×Int×Unit):=some (a,(0:Int),())
abbrev Z11:List PE:=[.val 1 (.int .i64) (.u false),.val 2 (.str) (.u false),.box 4 63 (Z8) (.u false),.box 8 63 (Z8) (.u true),.box 10 63 (Z8) (.p (.u false) (.p (.u true) (.u false)))]
def Zdz(d:Int)(e:List UInt8)(f c a:Zu):Option (Zu×Int×Unit):=(Zot f.2.1 d e).bind fun b=>(bif(a.2.2.1 !=(-1:Int))then(Zof b.1)else some ((0:Int),())).bind fun g=>bif(a.2.2.1 !=(-1:Int))&& (g.1==a.2.2.1)then Znz c ((2:Int),(b.1,a.2.2)) else Znz c (a.1,(b.1,a.2.2))
def Zna(b:Zu)(c:Int)(d:List UInt8)(f:Bool):Option (Zu×Int×Unit):=
 (Zap b).bind fun a=>
 (Zba b).bind fun g=>
 bif((!g.1)|| (decide (c< (0:Int))))|| (decide (c>(IntKind.i64.wrap ((4611686018427387903:Int)- (d.length:Int)))))then
  some (a.1,(7:Int),())
 else
  let e:Int:=IntKind.i64.wrap (c+ (d.length:Int))
  (Znc b e f).bind fun h=>
  bif h.1 then
   some (a.1,(6:Int),())
  else
   (Zvb b).bind fun i=>
   bif !i.1 then
    some (a.1,(0:Int),())
   else
    bif f then
     Zdz c d b Znu ((1:Int),(a.1.2.1,(e,(max b.2.2.2.1 e,a.1.2.2.2.2))))
    else
     Zdz c d b Znu (a.1.1,(a.1.2.1,(a.1.2.2.1,(max b.2.2.2.1 e,a.1.2.2.2.2))))
def Zho(a:Qw)(b:Int):Option (Qw×Bool×Unit):=(Zhn a).bind fun c=>(bif(!c.1)then some (false,())else(Zy b (0:Int) (IntKind.i64.wrap (a.2.2.1-a.2.2.2.1)))).bind fun d=>bif(!c.1)|| (!d.1)then some (a,false,()) else some ((a.1,(a.2.1,(a.2.2.1,(IntKind.i64.wrap (a.2.2.2.1+b),a.2.2.2.2)))),true,())
def Ztu(a:Zd):Option (Bool×Unit):=some (((!a.2.2.2.2.2.2.1)|| (a.2.1.1==3))|| (a.2.1.1==5),())
def Ztt(a:Zu):Option (Bool×Unit):=(Zba a).bind fun b=>some (b.1&& ((a.1==3)|| (a.1==5)),())
def Zou(a:Zd):Option (Bool×Unit):=(bif(!a.2.2.2.2.2.2.2.1)then some (false,())else(Ztt a.2.2.2.1)).bind fun b=>some ((!a.2.2.2.2.2.2.2.1)||b.1,())
def Zgs(a:Zd):Option (Bool×Unit):=(Zod a).bind fun b=>(bif b.1 then(Ztu a)else some (false,())).bind fun c=>(bif(b.1&&c.1)then(Zou a)else some (false,())).bind fun d=>some ((b.1&&c.1)&&d.1,())
def Qm(a:Q8):Option (Q8×Bool×Unit):=(Zm9 a).bind fun b=>bif(!b.1)|| (a.2.2.2.1==a.2.2.1)then some (a,false,()) else some ((a.1,(a.2.1,(a.2.2.1,(IntKind.i64.wrap (a.2.2.2.1+1),a.2.2.2.2)))),true,())
def Zkr(h:Zf)(g:Zi):Option (Zf×Int×Unit):=
 (Zj2 h).bind fun m=>
 (bif(!m.1)then some (false,())else(We g)).bind fun r=>
 bif((!m.1)|| (!r.1))|| (!(g.1==8))then
  (Qi h).bind fun s=>
  some (s.1,(7:Int),())
 else
  (Qi h).bind fun n=>
  (Zda n.1.1 g.2.1).bind fun t=>
  bif !t.1 then
   (Qi h).bind fun u=>
   some (u.1,(5:Int),())
  else
   (W2 n.1 g.2.1).bind fun a=>
   bif a.1.1 !=0 then
    bif a.1.1 !=0 then
     (Qi h).bind fun v=>
     some (v.1,a.1.1,())
    else
     some (a.2.1,(0:Int),())
   else
    (Xt a.2.1.2.2.2.1 g.2.1).bind fun f=>
    Ze (0<=f.1/\f.1<a.2.1.2.2.2.1.length)<|
    (Zoe (a.2.1.2.2.2.1.getD f.1.toNat Zj).2.2.2.1 (IntKind.i64.wrap (g.2.2.1+ (g.2.2.2.1.length:Int)))).bind fun i=>
    (Zka (a.2.1.2.2.2.1.getD f.1.toNat Zj).2.2.2.2.1).bind fun o=>
    (bif(decide (i.1>o.1))then some ((0:Int),())else(Zka a.2.1.2.2.2.2.2.1)).bind fun w=>
    bif(decide (i.1>o.1))|| (decide (i.1>w.1))then
     (Qi h).bind fun x=>
     some (x.1,(3:Int),())
    else
     Zkp 1 (
      (Zna (a.2.1.2.2.2.1.getD f.1.toNat Zj).2.2.2.1 g.2.2.1 g.2.2.2.1 g.2.2.2.2.1).bind fun k=>
      bif k.2.1 !=0 then
       bif k.2.1 !=0 then
        (Qi h).bind fun y=>
        some (y.1,k.2.1,())
       else
        some (a.2.1,(0:Int),())
      else
       (Zho (a.2.1.2.2.2.1.getD f.1.toNat Zj).2.2.2.2.1 i.1).bind fun z=>
       let j:List Zd:=a.2.1.2.2.2.1.set f.1.toNat ((a.2.1.2.2.2.1.getD f.1.toNat Zj).1,((a.2.1.2.2.2.1.getD f.1.toNat Zj).2.1,((a.2.1.2.2.2.1.getD f.1.toNat Zj).2.2.1,((a.2.1.2.2.2.1.getD f.1.toNat Zj).2.2.2.1,(z.1,(a.2.1.2.2.2.1.getD f.1.toNat Zj).2.2.2.2.2)))))
       (Zho a.2.1.2.2.2.2.2.1 i.1).bind fun p=>
       let d:List Zd:=j.set f.1.toNat ((j.getD f.1.toNat Zj).1,((j.getD f.1.toNat Zj).2.1,((j.getD f.1.toNat Zj).2.2.1,(k.1,(j.getD f.1.toNat Zj).2.2.2.2))))
       (Xt d g.2.1).bind fun e=>
       Ze (0<=e.1/\e.1<d.length)<|
       (Ze5 a.2.1.1 g.2.1).bind fun A=>
       let q:Bool:=A.1|| (d.getD e.1.toNat Zj).2.2.2.2.2.2.2.2.2.2.2.2.2.1
       (bif q then some (false,())else(Zgs (d.getD e.1.toNat Zj))).bind fun B=>
       bif q|| (!B.1)then
        some ((a.2.1.1,(a.2.1.2.1,(a.2.1.2.2.1,(d,(a.2.1.2.2.2.2.1,(p.1,a.2.1.2.2.2.2.2.2)))))),(0:Int),())
       else
        let C:List Zd:=d.set e.1.toNat ((d.getD e.1.toNat Zj).1,((d.getD e.1.toNat Zj).2.1,((d.getD e.1.toNat Zj).2.2.1,((d.getD e.1.toNat Zj).2.2.2.1,((d.getD e.1.toNat Zj).2.2.2.2.1,((d.getD e.1.toNat Zj).2.2.2.2.2.1,((d.getD e.1.toNat Zj).2.2.2.2.2.2.1,((d.getD e.1.toNat Zj).2.2.2.2.2.2.2.1,((d.getD e.1.toNat Zj).2.2.2.2.2.2.2.2.1,((d.getD e.1.toNat Zj).2.2.2.2.2.2.2.2.2.1,((d.getD e.1.toNat Zj).2.2.2.2.2.2.2.2.2.2.1,((d.getD e.1.toNat Zj).2.2.2.2.2.2.2.2.2.2.2.1,((d.getD e.1.toNat Zj).2.2.2.2.2.2.2.2.2.2.2.2.1,(true,(d.getD e.1.toNat Zj).2.2.2.2.2.2.2.2.2.2.2.2.2.2))))))))))))))
        Option.bind (Z3 (a.2.1.1,(a.2.1.2.1,(a.2.1.2.2.1,(C,(a.2.1.2.2.2.2.1,(p.1,a.2.1.2.2.2.2.2.2)))))) g.2.1) fun l=>
        bif l.1 then
         (Z3 l.2.1 g.2.1).bind fun b=>
         bif b.1 then
          (Qm b.2.1.2.2.2.2.2.2.2.2.2.1).bind fun D=>
          let E:Zf:=(b.2.1.1,(b.2.1.2.1,(b.2.1.2.2.1,(b.2.1.2.2.2.1,(b.2.1.2.2.2.2.1,(b.2.1.2.2.2.2.2.1,(b.2.1.2.2.2.2.2.2.1,(b.2.1.2.2.2.2.2.2.2.1,(b.2.1.2.2.2.2.2.2.2.2.1,(D.1,b.2.1.2.2.2.2.2.2.2.2.2.2))))))))))
          some (E,(0:Int),())
         else
          (Qm b.2.1.2.2.2.2.2.2.2.2.1).bind fun F=>
          let G:Zf:=(b.2.1.1,(b.2.1.2.1,(b.2.1.2.2.1,(b.2.1.2.2.2.1,(b.2.1.2.2.2.2.1,(b.2.1.2.2.2.2.2.1,(b.2.1.2.2.2.2.2.2.1,(b.2.1.2.2.2.2.2.2.2.1,(b.2.1.2.2.2.2.2.2.2.2.1,(F.1,b.2.1.2.2.2.2.2.2.2.2.2.2))))))))))
          some (G,(0:Int),())
        else
         (Z3 l.2.1 g.2.1).bind fun c=>
         bif c.1 then
          (Qm c.2.1.2.2.2.2.2.2.2.2.2.1).bind fun H=>
          let I:Zf:=(c.2.1.1,(c.2.1.2.1,(c.2.1.2.2.1,(c.2.1.2.2.2.1,(c.2.1.2.2.2.2.1,(c.2.1.2.2.2.2.2.1,(c.2.1.2.2.2.2.2.2.1,(c.2.1.2.2.2.2.2.2.2.1,(H.1,c.2.1.2.2.2.2.2.2.2.2.2)))))))))
          some (I,(0:Int),())
         else
          (Qm c.2.1.2.2.2.2.2.2.2.2.1).bind fun J=>
          let K:Zf:=(c.2.1.1,(c.2.1.2.1,(c.2.1.2.2.1,(c.2.1.2.2.2.1,(c.2.1.2.2.2.2.1,(c.2.1.2.2.2.2.2.1,(c.2.1.2.2.2.2.2.2.1,(c.2.1.2.2.2.2.2.2.2.1,(J.1,c.2.1.2.2.2.2.2.2.2.2.2)))))))))
          some (K,(0:Int),())
     )
def Zlt(b:Zu)(e c:Int):Option (Zu×Int×Unit):=(Zap b).bind fun a=>(Zba b).bind fun d=>(bif(!d.1)then some (false,())else(Xj e)).bind fun f=>(bif((!d.1)|| (!f.1))then some (false,())else(Xj c)).bind fun g=>bif((!d.1)|| (!f.1))|| (!g.1)then some (a.1,(7:Int),()) else (Znc b c true).bind fun h=>bif h.1 then some (a.1,(6:Int),()) else (Zvb b).bind fun i=>bif !i.1 then some (a.1,(0:Int),()) else some (((4:Int),((a.1.2.1.1,(([]:List Z1),a.1.2.1.2.2)),(c,(c,(e,a.1.2.2.2.2.2))))),(0:Int),())
def Ze6(a:Qw)(b:Int):Option (Qw×Bool×Unit):=(Zhn a).bind fun c=>(bif(!c.1)then some (false,())else(Zy b (0:Int) (IntKind.i64.wrap (a.2.2.2.1-a.2.2.2.2.1)))).bind fun d=>bif(!c.1)|| (!d.1)then some (a,false,()) else some ((a.1,(a.2.1,(a.2.2.1,(a.2.2.2.1,(IntKind.i64.wrap (a.2.2.2.2.1+b),a.2.2.2.2.2))))),true,())
def Zm8(l:Zf)(i:Zi):Option (Zf×Int×Unit):=
 (Zj2 l).bind fun s=>
 (bif(!s.1)then some (false,())else(We i)).bind fun z=>
 bif((!s.1)|| (!z.1))|| (!(i.1==4))then
  (Qi l).bind fun A=>
  some (A.1,(7:Int),())
 else
  (Qi l).bind fun t=>
  (Zda t.1.1 i.2.1).bind fun B=>
  bif !B.1 then
   (Qi l).bind fun C=>
   some (C.1,(5:Int),())
  else
   (W2 t.1 i.2.1).bind fun a=>
   bif a.1.1 !=0 then
    bif a.1.1 !=0 then
     (Qi l).bind fun D=>
     some (D.1,a.1.1,())
    else
     some (a.2.1,(0:Int),())
   else
    (Xt a.2.1.2.2.2.1 i.2.1).bind fun c=>
    Ze (0<=c.1/\c.1<a.2.1.2.2.2.1.length)<|
    (Zoe (a.2.1.2.2.2.1.getD c.1.toNat Zj).2.2.2.1 i.2.2.2.2.2.2.2.1).bind fun n=>
    (Zka (a.2.1.2.2.2.1.getD c.1.toNat Zj).2.2.2.2.1).bind fun u=>
    (bif(decide (n.1>u.1))then some ((0:Int),())else(Zka a.2.1.2.2.2.2.2.1)).bind fun E=>
    bif(decide (n.1>u.1))|| (decide (n.1>E.1))then
     (Qi l).bind fun F=>
     some (F.1,(3:Int),())
    else
     Zkp 1 (
      (Zlt (a.2.1.2.2.2.1.getD c.1.toNat Zj).2.2.2.1 i.2.2.2.2.2.1 i.2.2.2.2.2.2.2.1).bind fun o=>
      bif o.2.1 !=0 then
       bif o.2.1 !=0 then
        (Qi l).bind fun G=>
        some (G.1,o.2.1,())
       else
        some (a.2.1,(0:Int),())
      else
       (Zho (a.2.1.2.2.2.1.getD c.1.toNat Zj).2.2.2.2.1 n.1).bind fun H=>
       let m:List Zd:=a.2.1.2.2.2.1.set c.1.toNat ((a.2.1.2.2.2.1.getD c.1.toNat Zj).1,((a.2.1.2.2.2.1.getD c.1.toNat Zj).2.1,((a.2.1.2.2.2.1.getD c.1.toNat Zj).2.2.1,((a.2.1.2.2.2.1.getD c.1.toNat Zj).2.2.2.1,(H.1,(a.2.1.2.2.2.1.getD c.1.toNat Zj).2.2.2.2.2)))))
       (Zho a.2.1.2.2.2.2.2.1 n.1).bind fun p=>
       let I:Bool:=(m.getD c.1.toNat Zj).2.2.2.1.1 !=4
       let b:List Zd:=m.set c.1.toNat ((m.getD c.1.toNat Zj).1,((m.getD c.1.toNat Zj).2.1,((m.getD c.1.toNat Zj).2.2.1,(o.1,(m.getD c.1.toNat Zj).2.2.2.2))))
       bif(o.1.1==4)&&I then
        let v:Int:=IntKind.i64.wrap (i.2.2.2.2.2.2.2.1- (b.getD c.1.toNat Zj).2.2.2.2.1.2.2.2.2.1)
        (Ze6 (b.getD c.1.toNat Zj).2.2.2.2.1 v).bind fun J=>
        let h:List Zd:=b.set c.1.toNat ((b.getD c.1.toNat Zj).1,((b.getD c.1.toNat Zj).2.1,((b.getD c.1.toNat Zj).2.2.1,((b.getD c.1.toNat Zj).2.2.2.1,(J.1,(b.getD c.1.toNat Zj).2.2.2.2.2)))))
        (Ze6 p.1 v).bind fun w=>
        (Xt h i.2.1).bind fun j=>
        Ze (0<=j.1/\j.1<h.length)<|
        (Ze5 a.2.1.1 i.2.1).bind fun K=>
        let x:Bool:=K.1|| (h.getD j.1.toNat Zj).2.2.2.2.2.2.2.2.2.2.2.2.2.1
        (bif x then some (false,())else(Zgs (h.getD j.1.toNat Zj))).bind fun L=>
        bif x|| (!L.1)then
         some ((a.2.1.1,(a.2.1.2.1,(a.2.1.2.2.1,(h,(a.2.1.2.2.2.2.1,(w.1,a.2.1.2.2.2.2.2.2)))))),(0:Int),())
        else
         let M:List Zd:=h.set j.1.toNat ((h.getD j.1.toNat Zj).1,((h.getD j.1.toNat Zj).2.1,((h.getD j.1.toNat Zj).2.2.1,((h.getD j.1.toNat Zj).2.2.2.1,((h.getD j.1.toNat Zj).2.2.2.2.1,((h.getD j.1.toNat Zj).2.2.2.2.2.1,((h.getD j.1.toNat Zj).2.2.2.2.2.2.1,((h.getD j.1.toNat Zj).2.2.2.2.2.2.2.1,((h.getD j.1.toNat Zj).2.2.2.2.2.2.2.2.1,((h.getD j.1.toNat Zj).2.2.2.2.2.2.2.2.2.1,((h.getD j.1.toNat Zj).2.2.2.2.2.2.2.2.2.2.1,((h.getD j.1.toNat Zj).2.2.2.2.2.2.2.2.2.2.2.1,((h.getD j.1.toNat Zj).2.2.2.2.2.2.2.2.2.2.2.2.1,(true,(h.getD j.1.toNat Zj).2.2.2.2.2.2.2.2.2.2.2.2.2.2))))))))))))))
         Option.bind (Z3 (a.2.1.1,(a.2.1.2.1,(a.2.1.2.2.1,(M,(a.2.1.2.2.2.2.1,(w.1,a.2.1.2.2.2.2.2.2)))))) i.2.1) fun q=>
         bif q.1 then
          (Z3 q.2.1 i.2.1).bind fun d=>
          bif d.1 then
           (Qm d.2.1.2.2.2.2.2.2.2.2.2.1).bind fun O=>
           let P:Zf:=(d.2.1.1,(d.2.1.2.1,(d.2.1.2.2.1,(d.2.1.2.2.2.1,(d.2.1.2.2.2.2.1,(d.2.1.2.2.2.2.2.1,(d.2.1.2.2.2.2.2.2.1,(d.2.1.2.2.2.2.2.2.2.1,(d.2.1.2.2.2.2.2.2.2.2.1,(O.1,d.2.1.2.2.2.2.2.2.2.2.2.2))))))))))
           some (P,(0:Int),())
          else
           (Qm d.2.1.2.2.2.2.2.2.2.2.1).bind fun Q=>
           let S:Zf:=(d.2.1.1,(d.2.1.2.1,(d.2.1.2.2.1,(d.2.1.2.2.2.1,(d.2.1.2.2.2.2.1,(d.2.1.2.2.2.2.2.1,(d.2.1.2.2.2.2.2.2.1,(d.2.1.2.2.2.2.2.2.2.1,(d.2.1.2.2.2.2.2.2.2.2.1,(Q.1,d.2.1.2.2.2.2.2.2.2.2.2.2))))))))))
           some (S,(0:Int),())
         else
          (Z3 q.2.1 i.2.1).bind fun f=>
          bif f.1 then
           (Qm f.2.1.2.2.2.2.2.2.2.2.2.1).bind fun U=>
           let V:Zf:=(f.2.1.1,(f.2.1.2.1,(f.2.1.2.2.1,(f.2.1.2.2.2.1,(f.2.1.2.2.2.2.1,(f.2.1.2.2.2.2.2.1,(f.2.1.2.2.2.2.2.2.1,(f.2.1.2.2.2.2.2.2.2.1,(U.1,f.2.1.2.2.2.2.2.2.2.2.2)))))))))
           some (V,(0:Int),())
          else
           (Qm f.2.1.2.2.2.2.2.2.2.2.1).bind fun W=>
           let X:Zf:=(f.2.1.1,(f.2.1.2.1,(f.2.1.2.2.1,(f.2.1.2.2.2.1,(f.2.1.2.2.2.2.1,(f.2.1.2.2.2.2.2.1,(f.2.1.2.2.2.2.2.2.1,(f.2.1.2.2.2.2.2.2.2.1,(W.1,f.2.1.2.2.2.2.2.2.2.2.2)))))))))
           some (X,(0:Int),())
       else
        (Xt b i.2.1).bind fun k=>
        Ze (0<=k.1/\k.1<b.length)<|
        (Ze5 a.2.1.1 i.2.1).bind fun aa=>
        let y:Bool:=aa.1|| (b.getD k.1.toNat Zj).2.2.2.2.2.2.2.2.2.2.2.2.2.1
        (bif y then some (false,())else(Zgs (b.getD k.1.toNat Zj))).bind fun ab=>
        bif y|| (!ab.1)then
         some ((a.2.1.1,(a.2.1.2.1,(a.2.1.2.2.1,(b,(a.2.1.2.2.2.2.1,(p.1,a.2.1.2.2.2.2.2.2)))))),(0:Int),())
        else
         let ac:List Zd:=b.set k.1.toNat ((b.getD k.1.toNat Zj).1,((b.getD k.1.toNat Zj).2.1,((b.getD k.1.toNat Zj).2.2.1,((b.getD k.1.toNat Zj).2.2.2.1,((b.getD k.1.toNat Zj).2.2.2.2.1,((b.getD k.1.toNat Zj).2.2.2.2.2.1,((b.getD k.1.toNat Zj).2.2.2.2.2.2.1,((b.getD k.1.toNat Zj).2.2.2.2.2.2.2.1,((b.getD k.1.toNat Zj).2.2.2.2.2.2.2.2.1,((b.getD k.1.toNat Zj).2.2.2.2.2.2.2.2.2.1,((b.getD k.1.toNat Zj).2.2.2.2.2.2.2.2.2.2.1,((b.getD k.1.toNat Zj).2.2.2.2.2.2.2.2.2.2.2.1,((b.getD k.1.toNat Zj).2.2.2.2.2.2.2.2.2.2.2.2.1,(true,(b.getD k.1.toNat Zj).2.2.2.2.2.2.2.2.2.2.2.2.2.2))))))))))))))
         Option.bind (Z3 (a.2.1.1,(a.2.1.2.1,(a.2.1.2.2.1,(ac,(a.2.1.2.2.2.2.1,(p.1,a.2.1.2.2.2.2.2.2)))))) i.2.1) fun r=>
         bif r.1 then
          (Z3 r.2.1 i.2.1).bind fun e=>
          bif e.1 then
           (Qm e.2.1.2.2.2.2.2.2.2.2.2.1).bind fun ad=>
           let ae:Zf:=(e.2.1.1,(e.2.1.2.1,(e.2.1.2.2.1,(e.2.1.2.2.2.1,(e.2.1.2.2.2.2.1,(e.2.1.2.2.2.2.2.1,(e.2.1.2.2.2.2.2.2.1,(e.2.1.2.2.2.2.2.2.2.1,(e.2.1.2.2.2.2.2.2.2.2.1,(ad.1,e.2.1.2.2.2.2.2.2.2.2.2.2))))))))))
           some (ae,(0:Int),())
          else
           (Qm e.2.1.2.2.2.2.2.2.2.2.1).bind fun af=>
           let ag:Zf:=(e.2.1.1,(e.2.1.2.1,(e.2.1.2.2.1,(e.2.1.2.2.2.1,(e.2.1.2.2.2.2.1,(e.2.1.2.2.2.2.2.1,(e.2.1.2.2.2.2.2.2.1,(e.2.1.2.2.2.2.2.2.2.1,(e.2.1.2.2.2.2.2.2.2.2.1,(af.1,e.2.1.2.2.2.2.2.2.2.2.2.2))))))))))
           some (ag,(0:Int),())
         else
          (Z3 r.2.1 i.2.1).bind fun g=>
          bif g.1 then
           (Qm g.2.1.2.2.2.2.2.2.2.2.2.1).bind fun ah=>
           let ai:Zf:=(g.2.1.1,(g.2.1.2.1,(g.2.1.2.2.1,(g.2.1.2.2.2.1,(g.2.1.2.2.2.2.1,(g.2.1.2.2.2.2.2.1,(g.2.1.2.2.2.2.2.2.1,(g.2.1.2.2.2.2.2.2.2.1,(ah.1,g.2.1.2.2.2.2.2.2.2.2.2)))))))))
           some (ai,(0:Int),())
          else
           (Qm g.2.1.2.2.2.2.2.2.2.2.1).bind fun aj=>
           let ak:Zf:=(g.2.1.1,(g.2.1.2.1,(g.2.1.2.2.1,(g.2.1.2.2.2.1,(g.2.1.2.2.2.2.1,(g.2.1.2.2.2.2.2.1,(g.2.1.2.2.2.2.2.2.1,(g.2.1.2.2.2.2.2.2.2.1,(aj.1,g.2.1.2.2.2.2.2.2.2.2.2)))))))))
           some (ak,(0:Int),())
     )
def Zxq(a:Zp):Option (Bool×Unit):=(Zoc a).bind fun b=>(bif b.1 then(Zy a.1 (0:Int) (2:Int))else some (false,())).bind fun c=>some (b.1&&c.1,())
abbrev Z13:List PE:=[.val 1 (.int .i64) (.u false),.box 2 58 (Z6) (.u false),.box 4 58 (Z6) (.u true),.box 6 55 (Vx) (.p (.u false) (.p (.u false) (.p (.u false) (.p (.u true) (.u false)))))]
def Zn0(b:Int)(a d:Zp)(c:Yv):Option (Zp×Bool×Unit):=some (((4:Int),(c,(([]:List Zh),(([]:List Zh),(([]:List Zh),(a.2.2.2.2.2.2.2.1,((0:Int),(a.2.2.2.2.2.2.2.1,(b,()))))))))),true,())
def Znb(a:Zp)(b:Int):Option (Zp×Bool×Unit):=(Zxq a).bind fun c=>(bif(!c.1)then some (false,())else(Xj b)).bind fun d=>bif(!c.1)|| (!d.1)then (Zku a).bind fun e=>some (e.1,false,()) else Zeh (Ze (0<=a.2.1.1/\a.2.1.1<=a.2.1.1/\a.2.1.1<=Qo)<|Zkp 1 (Zn0 b a Za1 (a.2.1.1,(a.2.2.2.2.2.2.2.1,(a.2.2.2.2.2.2.2.1,(List.replicate a.2.1.1.toNat (0:Int),())))))) (Ze (0<=a.2.1.1/\a.2.1.1<=a.2.1.1/\a.2.1.1<=Qo)<|Zn0 b a Za1 (a.2.1.1,(a.2.2.2.2.2.2.2.1,(a.2.2.2.2.2.2.2.1,(List.replicate a.2.1.1.toNat (0:Int),())))))
def Zos(l:Zf)(i:Zi):Option (Zf×Int×Unit):=
 (Zj2 l).bind fun o=>
 (bif(!o.1)then some (false,())else(We i)).bind fun t=>
 bif((!o.1)|| (!t.1))|| (!(i.1==5))then
  (Qi l).bind fun u=>
  some (u.1,(7:Int),())
 else
  (Qi l).bind fun p=>
  (Zl9 p.1.1 i.2.1).bind fun v=>
  bif !v.1 then
   (Qi l).bind fun w=>
   some (w.1,(5:Int),())
  else
   (W2 p.1 i.2.1).bind fun a=>
   bif a.1.1 !=0 then
    bif a.1.1 !=0 then
     (Qi l).bind fun x=>
     some (x.1,a.1.1,())
    else
     some (a.2.1,(0:Int),())
   else
    (Xt a.2.1.2.2.2.1 i.2.1).bind fun j=>
    Ze (0<=j.1/\j.1<a.2.1.2.2.2.1.length)<|
    Zkp 1 (
     (Znb (a.2.1.2.2.2.1.getD j.1.toNat Zj).2.1 i.2.2.2.2.2.1).bind fun q=>
     bif q.2.1 then
      let k:List Zd:=a.2.1.2.2.2.1.set j.1.toNat ((a.2.1.2.2.2.1.getD j.1.toNat Zj).1,(q.1,(a.2.1.2.2.2.1.getD j.1.toNat Zj).2.2))
      let f:List Zd:=k.set j.1.toNat ((k.getD j.1.toNat Zj).1,((k.getD j.1.toNat Zj).2.1,((k.getD j.1.toNat Zj).2.2.1,((k.getD j.1.toNat Zj).2.2.2.1,((k.getD j.1.toNat Zj).2.2.2.2.1,((k.getD j.1.toNat Zj).2.2.2.2.2.1,((k.getD j.1.toNat Zj).2.2.2.2.2.2.1,((k.getD j.1.toNat Zj).2.2.2.2.2.2.2.1,(true,(k.getD j.1.toNat Zj).2.2.2.2.2.2.2.2.2)))))))))
      (Xt f i.2.1).bind fun g=>
      Ze (0<=g.1/\g.1<f.length)<|
      (Ze5 a.2.1.1 i.2.1).bind fun y=>
      let r:Bool:=y.1|| (f.getD g.1.toNat Zj).2.2.2.2.2.2.2.2.2.2.2.2.2.1
      (bif r then some (false,())else(Zgs (f.getD g.1.toNat Zj))).bind fun z=>
      bif r|| (!z.1)then
       some ((a.2.1.1,(a.2.1.2.1,(a.2.1.2.2.1,(f,a.2.1.2.2.2.2)))),(0:Int),())
      else
       let A:List Zd:=f.set g.1.toNat ((f.getD g.1.toNat Zj).1,((f.getD g.1.toNat Zj).2.1,((f.getD g.1.toNat Zj).2.2.1,((f.getD g.1.toNat Zj).2.2.2.1,((f.getD g.1.toNat Zj).2.2.2.2.1,((f.getD g.1.toNat Zj).2.2.2.2.2.1,((f.getD g.1.toNat Zj).2.2.2.2.2.2.1,((f.getD g.1.toNat Zj).2.2.2.2.2.2.2.1,((f.getD g.1.toNat Zj).2.2.2.2.2.2.2.2.1,((f.getD g.1.toNat Zj).2.2.2.2.2.2.2.2.2.1,((f.getD g.1.toNat Zj).2.2.2.2.2.2.2.2.2.2.1,((f.getD g.1.toNat Zj).2.2.2.2.2.2.2.2.2.2.2.1,((f.getD g.1.toNat Zj).2.2.2.2.2.2.2.2.2.2.2.2.1,(true,(f.getD g.1.toNat Zj).2.2.2.2.2.2.2.2.2.2.2.2.2.2))))))))))))))
       (Z3 (a.2.1.1,(a.2.1.2.1,(a.2.1.2.2.1,(A,a.2.1.2.2.2.2)))) i.2.1).bind fun m=>
       bif m.1 then
        (Z3 m.2.1 i.2.1).bind fun b=>
        bif b.1 then
         (Qm b.2.1.2.2.2.2.2.2.2.2.2.1).bind fun B=>
         let C:Zf:=(b.2.1.1,(b.2.1.2.1,(b.2.1.2.2.1,(b.2.1.2.2.2.1,(b.2.1.2.2.2.2.1,(b.2.1.2.2.2.2.2.1,(b.2.1.2.2.2.2.2.2.1,(b.2.1.2.2.2.2.2.2.2.1,(b.2.1.2.2.2.2.2.2.2.2.1,(B.1,b.2.1.2.2.2.2.2.2.2.2.2.2))))))))))
         some (C,(0:Int),())
        else
         (Qm b.2.1.2.2.2.2.2.2.2.2.1).bind fun D=>
         let E:Zf:=(b.2.1.1,(b.2.1.2.1,(b.2.1.2.2.1,(b.2.1.2.2.2.1,(b.2.1.2.2.2.2.1,(b.2.1.2.2.2.2.2.1,(b.2.1.2.2.2.2.2.2.1,(b.2.1.2.2.2.2.2.2.2.1,(b.2.1.2.2.2.2.2.2.2.2.1,(D.1,b.2.1.2.2.2.2.2.2.2.2.2.2))))))))))
         some (E,(0:Int),())
       else
        (Z3 m.2.1 i.2.1).bind fun d=>
        bif d.1 then
         (Qm d.2.1.2.2.2.2.2.2.2.2.2.1).bind fun F=>
         let G:Zf:=(d.2.1.1,(d.2.1.2.1,(d.2.1.2.2.1,(d.2.1.2.2.2.1,(d.2.1.2.2.2.2.1,(d.2.1.2.2.2.2.2.1,(d.2.1.2.2.2.2.2.2.1,(d.2.1.2.2.2.2.2.2.2.1,(F.1,d.2.1.2.2.2.2.2.2.2.2.2)))))))))
         some (G,(0:Int),())
        else
         (Qm d.2.1.2.2.2.2.2.2.2.2.1).bind fun H=>
         let I:Zf:=(d.2.1.1,(d.2.1.2.1,(d.2.1.2.2.1,(d.2.1.2.2.2.1,(d.2.1.2.2.2.2.1,(d.2.1.2.2.2.2.2.1,(d.2.1.2.2.2.2.2.2.1,(d.2.1.2.2.2.2.2.2.2.1,(H.1,d.2.1.2.2.2.2.2.2.2.2.2)))))))))
         some (I,(0:Int),())
     else
      (Xt a.2.1.2.2.2.1 i.2.1).bind fun h=>
      Ze (0<=h.1/\h.1<a.2.1.2.2.2.1.length)<|
      (Ze5 a.2.1.1 i.2.1).bind fun J=>
      let s:Bool:=J.1|| (a.2.1.2.2.2.1.getD h.1.toNat Zj).2.2.2.2.2.2.2.2.2.2.2.2.2.1
      (bif s then some (false,())else(Zgs (a.2.1.2.2.2.1.getD h.1.toNat Zj))).bind fun K=>
      bif s|| (!K.1)then
       some (a.2.1,(0:Int),())
      else
       let L:List Zd:=a.2.1.2.2.2.1.set h.1.toNat ((a.2.1.2.2.2.1.getD h.1.toNat Zj).1,((a.2.1.2.2.2.1.getD h.1.toNat Zj).2.1,((a.2.1.2.2.2.1.getD h.1.toNat Zj).2.2.1,((a.2.1.2.2.2.1.getD h.1.toNat Zj).2.2.2.1,((a.2.1.2.2.2.1.getD h.1.toNat Zj).2.2.2.2.1,((a.2.1.2.2.2.1.getD h.1.toNat Zj).2.2.2.2.2.1,((a.2.1.2.2.2.1.getD h.1.toNat Zj).2.2.2.2.2.2.1,((a.2.1.2.2.2.1.getD h.1.toNat Zj).2.2.2.2.2.2.2.1,((a.2.1.2.2.2.1.getD h.1.toNat Zj).2.2.2.2.2.2.2.2.1,((a.2.1.2.2.2.1.getD h.1.toNat Zj).2.2.2.2.2.2.2.2.2.1,((a.2.1.2.2.2.1.getD h.1.toNat Zj).2.2.2.2.2.2.2.2.2.2.1,((a.2.1.2.2.2.1.getD h.1.toNat Zj).2.2.2.2.2.2.2.2.2.2.2.1,((a.2.1.2.2.2.1.getD h.1.toNat Zj).2.2.2.2.2.2.2.2.2.2.2.2.1,(true,(a.2.1.2.2.2.1.getD h.1.toNat Zj).2.2.2.2.2.2.2.2.2.2.2.2.2.2))))))))))))))
       (Z3 (a.2.1.1,(a.2.1.2.1,(a.2.1.2.2.1,(L,a.2.1.2.2.2.2)))) i.2.1).bind fun n=>
       bif n.1 then
        (Z3 n.2.1 i.2.1).bind fun c=>
        bif c.1 then
         (Qm c.2.1.2.2.2.2.2.2.2.2.2.1).bind fun M=>
         let O:Zf:=(c.2.1.1,(c.2.1.2.1,(c.2.1.2.2.1,(c.2.1.2.2.2.1,(c.2.1.2.2.2.2.1,(c.2.1.2.2.2.2.2.1,(c.2.1.2.2.2.2.2.2.1,(c.2.1.2.2.2.2.2.2.2.1,(c.2.1.2.2.2.2.2.2.2.2.1,(M.1,c.2.1.2.2.2.2.2.2.2.2.2.2))))))))))
         some (O,(0:Int),())
        else
         (Qm c.2.1.2.2.2.2.2.2.2.2.1).bind fun P=>
         let Q:Zf:=(c.2.1.1,(c.2.1.2.1,(c.2.1.2.2.1,(c.2.1.2.2.2.1,(c.2.1.2.2.2.2.1,(c.2.1.2.2.2.2.2.1,(c.2.1.2.2.2.2.2.2.1,(c.2.1.2.2.2.2.2.2.2.1,(c.2.1.2.2.2.2.2.2.2.2.1,(P.1,c.2.1.2.2.2.2.2.2.2.2.2.2))))))))))
         some (Q,(0:Int),())
       else
        (Z3 n.2.1 i.2.1).bind fun e=>
        bif e.1 then
         (Qm e.2.1.2.2.2.2.2.2.2.2.2.1).bind fun S=>
         let U:Zf:=(e.2.1.1,(e.2.1.2.1,(e.2.1.2.2.1,(e.2.1.2.2.2.1,(e.2.1.2.2.2.2.1,(e.2.1.2.2.2.2.2.1,(e.2.1.2.2.2.2.2.2.1,(e.2.1.2.2.2.2.2.2.2.1,(S.1,e.2.1.2.2.2.2.2.2.2.2.2)))))))))
         some (U,(0:Int),())
        else
         (Qm e.2.1.2.2.2.2.2.2.2.2.1).bind fun V=>
         let W:Zf:=(e.2.1.1,(e.2.1.2.1,(e.2.1.2.2.1,(e.2.1.2.2.2.1,(e.2.1.2.2.2.2.1,(e.2.1.2.2.2.2.2.1,(e.2.1.2.2.2.2.2.2.1,(e.2.1.2.2.2.2.2.2.2.1,(V.1,e.2.1.2.2.2.2.2.2.2.2.2)))))))))
         some (W,(0:Int),())
    )
def Zkt(a:Q8)(b:Int):Option (Q8×Unit):=(Zob a).bind fun c=>bif(c.1&& (decide (b>a.1)))&& (decide (b<=(4611686018427387903:Int)))then some ((b,(a.2.1,((-1:Int),a.2.2.2))),()) else some (a,())
def Zj9(a:Zf)(b:Bool):Option ((Bool)×(Zf×Unit)):=bif b then some (true,(a,())) else some (false,(a,()))
def Zks(a:Zdh)(b:Int):Option (Zdh×Unit):=(Zqm a).bind fun c=>bif(c.1&& (decide (b>a.1)))&& (decide (b<=(1152921504606846976:Int)))then some ((b,(a.2.1,((-1:Int),a.2.2.2))),()) else some (a,())
def Zm7(e:Zf)(a:Zi):Option (Zf×Int×Unit):=(Zj2 e).bind fun h=>(bif(!h.1)then some (false,())else(We a)).bind fun i=>bif((!h.1)|| (!i.1))|| (!(((a.1 !=8)&& (a.1 !=4))&& (a.1 !=5)))then (Qi e).bind fun j=>some (j.1,(7:Int),()) else (Qi e).bind fun d=>bif a.1==16 then (Zkt d.1.2.2.2.2.1 a.2.2.2.2.2.2.1).bind fun k=>some ((d.1.1,(d.1.2.1,(d.1.2.2.1,(d.1.2.2.2.1,(k.1,d.1.2.2.2.2.2))))),(0:Int),()) else bif a.1==18 then (Zj9 d.1 a.2.2.2.2.2.2.2.2.1).bind fun b=>bif b.1 then (Zks b.2.1.2.2.2.2.2.2.2.1 a.2.2.2.2.2.2.1).bind fun l=>some ((b.2.1.1,(b.2.1.2.1,(b.2.1.2.2.1,(b.2.1.2.2.2.1,(b.2.1.2.2.2.2.1,(b.2.1.2.2.2.2.2.1,(b.2.1.2.2.2.2.2.2.1,(l.1,b.2.1.2.2.2.2.2.2.2.2)))))))),(0:Int),()) else (Zks b.2.1.2.2.2.2.2.2.1 a.2.2.2.2.2.2.1).bind fun m=>some ((b.2.1.1,(b.2.1.2.1,(b.2.1.2.2.1,(b.2.1.2.2.2.1,(b.2.1.2.2.2.2.1,(b.2.1.2.2.2.2.2.1,(m.1,b.2.1.2.2.2.2.2.2.2))))))),(0:Int),()) else bif a.1==17 then (Zl9 d.1.1 a.2.1).bind fun n=>bif !n.1 then (Qi e).bind fun o=>some (o.1,(5:Int),()) else (W2 d.1 a.2.1).bind fun c=>bif c.1.1 !=0 then bif c.1.1 !=0 then (Qi e).bind fun p=>some (p.1,c.1.1,()) else some (c.2.1,(0:Int),()) else (Xt c.2.1.2.2.2.1 a.2.1).bind fun f=>Ze (0<=f.1/\f.1<c.2.1.2.2.2.1.length)<|(Zkt (c.2.1.2.2.2.1.getD f.1.toNat Zj).2.2.1 a.2.2.2.2.2.2.1).bind fun q=>some ((c.2.1.1,(c.2.1.2.1,(c.2.1.2.2.1,(c.2.1.2.2.2.1.set f.1.toNat ((c.2.1.2.2.2.1.getD f.1.toNat Zj).1,((c.2.1.2.2.2.1.getD f.1.toNat Zj).2.1,(q.1,(c.2.1.2.2.2.1.getD f.1.toNat Zj).2.2.2))),c.2.1.2.2.2.2)))),(0:Int),()) else bif a.1==21 then (Zda d.1.1 a.2.1).bind fun r=>bif !r.1 then (Qi e).bind fun s=>some (s.1,(5:Int),()) else (W2 d.1 a.2.1).bind fun g=>bif g.1.1 !=0 then (Qi e).bind fun t=>some (t.1,g.1.1,()) else some (g.2.1,(0:Int),()) else some (d.1,(0:Int),())
def Zm6(b:Zf)(a:Zi):Option (Zf×Int×Unit):=bif a.1==8 then (Zkr b a).bind fun c=>some (c.1,c.2.1,()) else bif a.1==4 then (Zm8 b a).bind fun d=>some (d.1,d.2.1,()) else bif a.1==5 then (Zos b a).bind fun e=>some (e.1,e.2.1,()) else (Zm7 b a).bind fun f=>some (f.1,f.2.1,())
abbrev Zyb:List PE:=[.box 4 37 (Zo) (.u true),.val 6 (.slice 50 (Zq)) (.u true),.box 8 37 (Zo) (.u true),.bor 35 6 [],.val 36 (.int .i64) (.u false),.val 37 (.int .i64) (.u false)]
def Zmc(c:Zf)(d:List Zi)(e:Zf)(a b:Int):Nat:=(a-b).toNat+1
def Zbp:Nat->Zf->List Zi->Zf->Int->Int->Option (Zf×Int×Unit)|0,_,_,_,_,_=>none|N+1,f,c,d,e,a=>bif decide (a<e)then Ze (0<=a/\a<c.length)<|(Zm6 d (c.getD a.toNat Qr)).bind fun b=>bif b.2.1 !=0 then (Zma d b.2.1).bind fun g=>some (g.1,b.2.1,()) else Zbp N f c b.1 e (IntKind.i64.wrap (a+1)) else some (d,(0:Int),())
def Ze4(a:Zf)(e:List UInt8):Option (Zf×Int×Unit):=(Zj2 a).bind fun c=>(bif(!c.1)then some (false,())else(Zoa a)).bind fun f=>bif(!c.1)||f.1 then (Qi a).bind fun g=>some (g.1,a.2.2.2.2.2.2.2.2.2.2.2.2.2.2.2.2.2.1,()) else (Zpe e).bind fun b=>bif !b.2.1 then (Zma a (7:Int)).bind fun h=>some (h.1,(7:Int),()) else (Qi a).bind fun d=>Zbp (Zmc Vg b.1 d.1 (b.1.length:Int) (0:Int)) Vg b.1 d.1 (b.1.length:Int) (0:Int)
abbrev Z45:List PE:=[.val 0 (.str) (.u false),.val 1 (.int .i64) (.u false),.val 7 (.int .i64) (.u false),.val 8 (.int .i64) (.u false),.val 9 (.int .i64) (.u false)]
def Zi6(c:List UInt8)(d a e b:Int):Nat:=(a-b).toNat+1
def Wo:Nat->List UInt8->Int->Int->Int->Int->Option (Int×Int×Bool×Unit)|0,_,_,_,_,_=>none|N+1,c,a,d,e,b=>bif decide (b<d)then Ze (0<=(8:Int))<|Ze (0<=(IntKind.i64.wrap (a+b))/\(IntKind.i64.wrap (a+b))<c.length)<|Wo N c a d (bits .or .i64 (IntKind.i64.wrap (e*2^ (min (8:Int).toNat IntKind.i64.bits))) (IntKind.i64.wrap ((c.getD (IntKind.i64.wrap (a+b)).toNat 0).toNat:Int))) (IntKind.i64.wrap (b+1)) else some (e,IntKind.i64.wrap (a+d),true,())
def Xb(b:List UInt8)(a:Int):Option (Int×Int×Bool×Unit):=
 bif(decide (a< (0:Int)))|| (decide (a>=(b.length:Int)))then
  some ((0:Int),(0:Int),false,())
 else
  Ze (0<=a/\a<b.length)<|
  Ze (0<=(6:Int))<|
  let d:Int:=((b.getD a.toNat 0).toNat:Int).fdiv (2^ (min (6:Int).toNat IntKind.u8.bits))
  Ze (0<=d)<|
  let c:Int:=IntKind.i64.wrap ((1:Int)*2^ (min d.toNat IntKind.i64.bits))
  bif decide ((IntKind.i64.wrap ((b.length:Int)-a))<c)then
   some ((0:Int),(0:Int),false,())
  else
   Ze (0<=a/\a<b.length)<|
   let e:Int:=IntKind.i64.wrap (bits .and .u8 ((b.getD a.toNat 0).toNat:Int) (63:Int))
   Wo (Zi6 b a c e (1:Int)) b a c e (1:Int)
abbrev Qkm:List PE:=[.val 0 (.str) (.u false),.val 1 (.int .i64) (.u false),.val 2 (.int .i64) (.u false),.val 9 (.slice 3 (.int .i64)) (.u true),.val 10 (.int .i64) (.u false)]
def Za6(c:List UInt8)(d a:Int)(e:List Int)(b:Int):Nat:=(a-b).toNat+1
def Zaz:Nat->List UInt8->Int->Int->List Int->Int->Option (List Int×Int×Bool×Unit)|0,_,_,_,_,_=>none|N+1,c,d,e,b,f=>bif decide (f<e)then (Xb c d).bind fun a=>bif !a.2.2.1 then some ([(0:Int),(0:Int),(0:Int)],(0:Int),false,()) else Ze (b.length+ ([a.1]).length<=Qo)<|Zaz N c a.2.1 e (b++ ([a.1])) (IntKind.i64.wrap (f+1)) else some (b,d,true,())
def Zah(a:List UInt8)(b c:Int):Option (List Int×Int×Bool×Unit):=Zaz (Za6 a b c ([]:List Int) (0:Int)) a b c ([]:List Int) (0:Int)
abbrev Qcx:List PE:=[.val 0 (.str) (.u false),.box 6 50 (Zq) (.u false),.box 9 50 (Zq) (.u false),.val 12 (.int .i64) (.u false),.val 14 (.int .i64) (.u false)]
def Zch(d:List UInt8)(g a:Zi)(b c:Int):Option (Zi×Int×Bool×Unit):=
 Ze (0<=b/\b<=(IntKind.i64.wrap (b+c))/\(IntKind.i64.wrap (b+c))<=d.length)<|
 let e:List UInt8:=(d.drop b.toNat).take ((IntKind.i64.wrap (b+c)).toNat-b.toNat)
 (Jt (a.1,(a.2.1,(a.2.2.1,(e,a.2.2.2.2))))).bind fun f=>
 bif !f.1 then
  some (Qr,(0:Int),false,())
 else
  some ((a.1,(a.2.1,(a.2.2.1,(e,a.2.2.2.2)))),IntKind.i64.wrap (b+c),true,())
abbrev Qcw:List PE:=[.val 0 (.str) (.u false),.val 2 (.int .i64) (.u false),.box 6 50 (Zq) (.u false),.box 9 50 (Zq) (.u false),.val 12 (.int .i64) (.u false)]
def Zcg(a:List UInt8)(f:Int)(d e:Zi)(c:Int):Option (Zi×Int×Bool×Unit):=bif(bits .and .i64 f (2:Int))==2 then (Xb a c).bind fun b=>bif(!b.2.2.1)|| (decide (b.1>(IntKind.i64.wrap ((a.length:Int)-b.2.1))))then some (Qr,(0:Int),false,()) else Zch a d e b.2.1 b.1 else Zch a d e c (IntKind.i64.wrap ((a.length:Int)-c))
abbrev Qcv:List PE:=[.val 0 (.str) (.u false),.val 1 (.int .i64) (.u false),.val 2 (.int .i64) (.u false),.box 6 50 (Zq) (.u false),.box 9 50 (Zq) (.u false),.val 10 (.int .i64) (.u false)]
def Ze0(c:List UInt8)(g d:Int)(e b:Zi)(f:Int):Option (Zi×Int×Bool×Unit):=(Zah c g f).bind fun a=>bif !a.2.2.1 then some (Qr,(0:Int),false,()) else Ze (0<=(0:Int)/\(0:Int)<a.1.length)<|bif f==2 then Ze (0<=(1:Int)/\(1:Int)<a.1.length)<|Zcg c d e (b.1,(a.1.getD (0:Int).toNat (0:Int),(a.1.getD (1:Int).toNat (0:Int),b.2.2.2))) a.2.1 else Zcg c d e (b.1,(a.1.getD (0:Int).toNat (0:Int),b.2.2)) a.2.1
def Zhx(b:List UInt8)(c a:Int):Option (Zi×Int×Bool×Unit):=bif(bits .and .i64 a (4:Int))==4 then Ze0 b c a Qr ((8:Int),((0:Int),((0:Int),(([]:List UInt8),((bits .and .i64 a (1:Int))==1,((0:Int),((0:Int),((0:Int),(false,()))))))))) (2:Int) else Ze0 b c a Qr ((8:Int),((0:Int),((0:Int),(([]:List UInt8),((bits .and .i64 a (1:Int))==1,((0:Int),((0:Int),((0:Int),(false,()))))))))) (1:Int)
abbrev Z2g:List PE:=[.box 4 50 (Zq) (.u false),.box 11 50 (Zq) (.u false),.val 14 (.int .i64) (.u false),.val 15 (.bool) (.u false)]
def Xn(e a:Zi)(c:Int)(b:Bool):Option (Zi×Int×Bool×Unit):=(bif(!b)then some (false,())else(Jt a)).bind fun d=>bif(!b)|| (!d.1)then some (Qr,(0:Int),false,()) else some (a,c,true,())
abbrev Z2h:List PE:=[.box 4 50 (Zq) (.u false),.box 11 50 (Zq) (.u false),.val 13 (.slice 3 (.int .i64)) (.u true),.val 14 (.int .i64) (.u false),.val 15 (.bool) (.u false),.val 117 (.bool) (.u false)]
def Za3(c a:Zi)(b:List Int)(d:Int)(e f:Bool):Option (Zi×Int×Bool×Unit):=bif f then Ze (0<=(0:Int)/\(0:Int)<b.length)<|Ze ((b.length:Int)≠0)<|Ze (0<=(Int.tmod (1:Int) (b.length:Int))/\(Int.tmod (1:Int) (b.length:Int))<b.length)<|Xn c (a.1,(b.getD (0:Int).toNat (0:Int),(a.2.2.1,(a.2.2.2.1,(a.2.2.2.2.1,(a.2.2.2.2.2.1,(b.getD (Int.tmod (1:Int) (b.length:Int)).toNat (0:Int),a.2.2.2.2.2.2.2))))))) d e else Ze (0<=(0:Int)/\(0:Int)<b.length)<|Xn c (a.1,(a.2.1,(a.2.2.1,(a.2.2.2.1,(a.2.2.2.2.1,(a.2.2.2.2.2.1,(b.getD (0:Int).toNat (0:Int),a.2.2.2.2.2.2.2))))))) d e
abbrev Z2f:List PE:=[.val 0 (.str) (.u false),.val 1 (.int .i64) (.u false),.box 4 50 (Zq) (.u false),.box 11 50 (Zq) (.u false),.val 12 (.int .i64) (.u false)]
def Ke(d:List UInt8)(e:Int)(c b:Zi)(f:Int):Option (Zi×Int×Bool×Unit):=(Zah d (IntKind.i64.wrap (e+1)) f).bind fun a=>bif b.1==4 then Ze (0<=(0:Int)/\(0:Int)<a.1.length)<|Ze ((a.1.length:Int)≠0)<|Ze (0<=(Int.tmod (1:Int) (a.1.length:Int))/\(Int.tmod (1:Int) (a.1.length:Int))<a.1.length)<|Ze ((a.1.length:Int)≠0)<|Ze (0<=(Int.tmod (2:Int) (a.1.length:Int))/\(Int.tmod (2:Int) (a.1.length:Int))<a.1.length)<|Xn c (b.1,(a.1.getD (0:Int).toNat (0:Int),(b.2.2.1,(b.2.2.2.1,(b.2.2.2.2.1,(a.1.getD (Int.tmod (1:Int) (a.1.length:Int)).toNat (0:Int),(b.2.2.2.2.2.2.1,(a.1.getD (Int.tmod (2:Int) (a.1.length:Int)).toNat (0:Int),b.2.2.2.2.2.2.2.2)))))))) a.2.1 a.2.2.1 else bif b.1==5 then Ze (0<=(0:Int)/\(0:Int)<a.1.length)<|Ze ((a.1.length:Int)≠0)<|Ze (0<=(Int.tmod (1:Int) (a.1.length:Int))/\(Int.tmod (1:Int) (a.1.length:Int))<a.1.length)<|Xn c (b.1,(a.1.getD (0:Int).toNat (0:Int),(b.2.2.1,(b.2.2.2.1,(b.2.2.2.2.1,(a.1.getD (Int.tmod (1:Int) (a.1.length:Int)).toNat (0:Int),b.2.2.2.2.2.2)))))) a.2.1 a.2.2.1 else bif b.1==17 then Za3 c b a.1 a.2.1 a.2.2.1 (b.1==17) else Za3 c b a.1 a.2.1 a.2.2.1 (b.1==21)
abbrev Z2j:List PE:=[.val 0 (.str) (.u false),.val 1 (.int .i64) (.u false),.box 4 50 (Zq) (.u false),.val 7 (.int .i64) (.u false),.box 11 50 (Zq) (.u false),.val 12 (.int .i64) (.u false),.val 62 (.bool) (.u false)]
def Za4(b:List UInt8)(c:Int)(d:Zi)(f:Int)(a:Zi)(e:Int)(g:Bool):Option (Zi×Int×Bool×Unit):=bif g then Ke b c d (IntKind.i64.wrap (f-1),(a.2.1,(a.2.2.1,(a.2.2.2.1,(a.2.2.2.2.1,(a.2.2.2.2.2.1,(a.2.2.2.2.2.2.1,(a.2.2.2.2.2.2.2.1,(true,a.2.2.2.2.2.2.2.2.2))))))))) e else Ke b c d a e
abbrev Z2i:List PE:=[.val 0 (.str) (.u false),.val 1 (.int .i64) (.u false),.box 4 50 (Zq) (.u false),.val 7 (.int .i64) (.u false),.box 11 50 (Zq) (.u false),.val 12 (.int .i64) (.u false),.val 55 (.int .i64) (.u false),.val 58 (.bool) (.u false)]
def Vv(a:List UInt8)(b:Int)(c:Zi)(f:Int)(d:Zi)(g e:Int)(h:Bool):Option (Zi×Int×Bool×Unit):=bif h then Ke a b c d (2:Int) else bif e==19 then Za4 a b c f d g (e==19) else Za4 a b c f d g (e==23)
def Zer(c:List UInt8)(b:Int):Option (Zi×Int×Bool×Unit):=
 let e:Bool:=(decide (b< (0:Int)))|| (decide (b>=(c.length:Int)))
 Ze ((e=false->(0<=b/\b<c.length)))<|
 bif e|| (decide (((c.getD b.toNat 0).toNat:Int)>(23:Int)))then
  some (Qr,(0:Int),false,())
 else
  Ze (0<=b/\b<c.length)<|
  let a:Int:=IntKind.i64.wrap ((c.getD b.toNat 0).toNat:Int)
  bif(decide (a>=(8:Int)))&& (decide (a< (16:Int)))then
   (Zhx c (IntKind.i64.wrap (b+1)) a).bind fun d=>
   some (d.1,d.2.1,d.2.2.1,())
  else
   bif a==4 then
    Ke c b Qr (a,((0:Int),((0:Int),(([]:List UInt8),(false,((0:Int),((0:Int),((0:Int),(false,()))))))))) (3:Int)
   else
    bif a==5 then
     Vv c b Qr a (a,((0:Int),((0:Int),(([]:List UInt8),(false,((0:Int),((0:Int),((0:Int),(false,()))))))))) (1:Int) a (a==5)
    else
     bif a==17 then
      Vv c b Qr a (a,((0:Int),((0:Int),(([]:List UInt8),(false,((0:Int),((0:Int),((0:Int),(false,()))))))))) (1:Int) a (a==17)
     else
      Vv c b Qr a (a,((0:Int),((0:Int),(([]:List UInt8),(false,((0:Int),((0:Int),((0:Int),(false,()))))))))) (1:Int) a (a==21)
abbrev Zzi:List PE:=[.val 0 (.str) (.u false),.val 4 (.slice 50 (Zq)) (.u true),.val 5 (.int .i64) (.u false)]
def Zfi(a:List UInt8)(c:List Zi)(b:Int):Nat:=((a.length:Int)-b).toNat+1
def Kb:Nat->List UInt8->List Zi->Int->Option (List Zi×Bool×Unit)|0,_,_,_=>none|N+1,a,c,b=>bif decide (b< (a.length:Int))then Ze (0<=b/\b<a.length)<|bif((a.getD b.toNat 0).toNat:Int)==(0:Int)then Kb N a c (IntKind.i64.wrap (b+1)) else (Zer a b).bind fun d=>bif !d.2.2.1 then some (([]:List Zi),false,()) else Ze (c.length+ ([d.1]).length<=Qo)<|Kb N a (c++ ([d.1])) d.2.1 else (Z5 (a.length:Int) (1:Int) (400:Int)).bind fun e=>some (c,e.1,())
def Y3(a:List UInt8):Option (List Zi×Bool×Unit):=Kb (Zfi a ([]:List Zi) (0:Int)) a ([]:List Zi) (0:Int)
def Zfg(b:Zf)(c:Int):Option (Zf×Unit):=(Z4 b).bind fun a=>(bif(b.2.2.2.2.2.2.2.2.2.2.2.2.2.2.2.2.2.1==0)then(Z5 c (1:Int) (255:Int))else some (false,())).bind fun d=>bif(b.2.2.2.2.2.2.2.2.2.2.2.2.2.2.2.2.2.1==0)&&d.1 then some ((a.1.1,(a.1.2.1,(a.1.2.2.1,(a.1.2.2.2.1,(a.1.2.2.2.2.1,(a.1.2.2.2.2.2.1,(a.1.2.2.2.2.2.2.1,(a.1.2.2.2.2.2.2.2.1,(a.1.2.2.2.2.2.2.2.2.1,(a.1.2.2.2.2.2.2.2.2.2.1,(a.1.2.2.2.2.2.2.2.2.2.2.1,(a.1.2.2.2.2.2.2.2.2.2.2.2.1,(a.1.2.2.2.2.2.2.2.2.2.2.2.2.1,(a.1.2.2.2.2.2.2.2.2.2.2.2.2.2.1,(a.1.2.2.2.2.2.2.2.2.2.2.2.2.2.2.1,(a.1.2.2.2.2.2.2.2.2.2.2.2.2.2.2.2.1,(a.1.2.2.2.2.2.2.2.2.2.2.2.2.2.2.2.2.1,(c,a.1.2.2.2.2.2.2.2.2.2.2.2.2.2.2.2.2.2.2)))))))))))))))))),()) else some (a.1,())
abbrev Zzk:List PE:=[.box 4 37 (Zo) (.u true),.box 6 37 (Zo) (.u false),.val 7 (.slice 50 (Zq)) (.u true),.val 9 (.int .i64) (.u false),.box 10 37 (Zo) (.u false),.val 11 (.int .i64) (.u false)]
def Zf1(K1: (Zf×Zf×List Zi×Int×Unit)->Option ((Zf×Int×Unit)×(Unit)))(b c:Zf)(d:List Zi)(e:Int)(f:Zf)(a:Int):Option ((Zf×Int×Unit)×(Unit)):=bif a !=0 then (Zfg c a).bind fun g=>some ((g.1,(a,())),()) else K1 (b,f,d,IntKind.i64.wrap (e+1),())
abbrev Zzl:List PE:=[.box 4 37 (Zo) (.u true),.box 6 37 (Zo) (.u false),.val 7 (.slice 50 (Zq)) (.u true),.val 9 (.int .i64) (.u false)]
def Vb(c d:Zf)(a:List Zi)(b:Int):Nat:=((a.length:Int)-b).toNat+1
def Jq:Nat->Zf->Zf->List Zi->Int->Option ((Zf×Int×Unit)×(Unit))|0,_,_,_,_=>none|N+1,e,c,b,a=>bif decide (a< (b.length:Int))then Ze (0<=a/\a<b.length)<|Zkp 1 ((Jg c (b.getD a.toNat Qr)).bind fun d=>Zf1 (fun v=>Jq N v.1 v.2.1 v.2.2.1 v.2.2.2.1) e c b a d.1.1 d.1.2.1) else some ((c,((0:Int),())),())
def Zcb(a:Zf)(e:List UInt8):Option ((Zf×Int×Unit)×(Unit)):=(Z4 a).bind fun b=>(Ya a).bind fun d=>(bif(!d.1)then some (false,())else(Zla a)).bind fun f=>bif(!d.1)||f.1 then some ((b.1,(a.2.2.2.2.2.2.2.2.2.2.2.2.2.2.2.2.2.1,())),()) else (Y3 e).bind fun c=>bif !c.2.1 then (Zfg b.1 (7:Int)).bind fun g=>some ((g.1,((7:Int),())),()) else Jq (Vb Vg b.1 c.1 (0:Int)) Vg b.1 c.1 (0:Int)
abbrev Z5a:List PE:=[.box 2 55 (Vx) (.u false),.box 3 55 (Vx) (.u false),.val 5 (.int .i64) (.u false)]
def Zjb(a c:Yv)(b:Int):Nat:=((a.2.2.2.1.length:Int)-b).toNat+1
def Zfl:Nat->Yv->Yv->Int->Option (Bool×Unit)|0,_,_,_=>none|N+1,b,c,a=>bif decide (a< (b.2.2.2.1.length:Int))then Ze (0<=a/\a<b.2.2.2.1.length)<|Ze (0<=a/\a<c.2.2.2.1.length)<|bif(b.2.2.2.1.getD a.toNat (0:Int)) !=(c.2.2.2.1.getD a.toNat (0:Int))then some (false,()) else Zfl N b c (IntKind.i64.wrap (a+1)) else some (true,())
def Zo3(a b:Yv):Option (Bool×Unit):=bif(((a.1 !=b.1)|| (a.2.1 !=b.2.1))|| (a.2.2.1 !=b.2.2.1))|| ((a.2.2.2.1.length:Int) !=(b.2.2.2.1.length:Int))then some (false,()) else Zfl (Zjb a b (0:Int)) a b (0:Int)
abbrev Z2q:List PE:=[.val 0 (.slice 222 (Zx)) (.u false),.val 1 (.slice 222 (Zx)) (.u false),.val 5 (.int .i64) (.u false)]
def Zhq(a c:List Zh)(b:Int):Nat:=((a.length:Int)-b).toNat+1
def Zd3:Nat->List Zh->List Zh->Int->Option (Bool×Unit)|0,_,_,_=>none|N+1,b,c,a=>bif decide (a< (b.length:Int))then Ze (0<=a/\a<b.length)<|Ze (0<=a/\a<c.length)<|bif !(eqV (Zx) (b.getD a.toNat Zz) (c.getD a.toNat Zz))then some (false,()) else Zd3 N b c (IntKind.i64.wrap (a+1)) else some (true,())
def Zes(a b:List Zh):Option (Bool×Unit):=bif(a.length:Int) !=(b.length:Int)then some (false,()) else Zd3 (Zhq a b (0:Int)) a b (0:Int)
def Zlz(a b:Zp):Option (Bool×Unit):=
 (bif(a.1==b.1)then(Zo3 a.2.1 b.2.1)else some (false,())).bind fun d=>
 (bif((a.1==b.1)&&d.1)then(Zes a.2.2.1 b.2.2.1)else some (false,())).bind fun f=>
 let c:Bool:=((a.1==b.1)&&d.1)&&f.1
 (bif c then(Zes a.2.2.2.1 b.2.2.2.1)else some (false,())).bind fun e=>
 (bif(c&&e.1)then(Zes a.2.2.2.2.1 b.2.2.2.2.1)else some (false,())).bind fun g=>
 some ((((((c&&e.1)&&g.1)&& (a.2.2.2.2.2.1==b.2.2.2.2.2.1))&& (a.2.2.2.2.2.2.1==b.2.2.2.2.2.2.1))&& (a.2.2.2.2.2.2.2.1==b.2.2.2.2.2.2.2.1))&& (a.2.2.2.2.2.2.2.2.1==b.2.2.2.2.2.2.2.2.1),())
abbrev Z1c:List PE:=[.box 2 61 (Q2) (.u false),.box 3 61 (Q2) (.u false),.val 5 (.int .i64) (.u false)]
def Zga(a c:Zs)(b:Int):Nat:=((a.2.1.length:Int)-b).toNat+1
def Zcz:Nat->Zs->Zs->Int->Option (Bool×Unit)|0,_,_,_=>none|N+1,b,c,a=>bif decide (a< (b.2.1.length:Int))then Ze (0<=a/\a<b.2.1.length)<|Ze (0<=a/\a<c.2.1.length)<|bif !(eqV (Zig) (b.2.1.getD a.toNat Qf) (c.2.1.getD a.toNat Qf))then some (false,()) else Zcz N b c (IntKind.i64.wrap (a+1)) else some (true,())
def Zly(a b:Zs):Option (Bool×Unit):=bif(a.1 !=b.1)|| ((a.2.1.length:Int) !=(b.2.1.length:Int))then some (false,()) else Zcz (Zga a b (0:Int)) a b (0:Int)
def Zia(a b:Zu):Option (Bool×Unit):=(bif(a.1==b.1)then(Zly a.2.1 b.2.1)else some (false,())).bind fun c=>some (((((a.1==b.1)&&c.1)&& (a.2.2.1==b.2.2.1))&& (a.2.2.2.1==b.2.2.2.1))&& (a.2.2.2.2.1==b.2.2.2.2.1),())
def Zl0(a b:Zd):Option (Bool×Unit):=
 (bif(a.1==b.1)then(Zlz a.2.1 b.2.1)else some (false,())).bind fun d=>
 let c:Bool:=((a.1==b.1)&&d.1)&& (eqV (Q1) a.2.2.1 b.2.2.1)
 (bif c then(Zia a.2.2.2.1 b.2.2.2.1)else some (false,())).bind fun e=>
 some (((((((((((c&&e.1)&& (eqV (Yo) a.2.2.2.2.1 b.2.2.2.2.1))&& (eqV (Y5) a.2.2.2.2.2.1 b.2.2.2.2.2.1))&& (a.2.2.2.2.2.2.1==b.2.2.2.2.2.2.1))&& (a.2.2.2.2.2.2.2.1==b.2.2.2.2.2.2.2.1))&& (a.2.2.2.2.2.2.2.2.1==b.2.2.2.2.2.2.2.2.1))&& (a.2.2.2.2.2.2.2.2.2.1==b.2.2.2.2.2.2.2.2.2.1))&& (a.2.2.2.2.2.2.2.2.2.2.1==b.2.2.2.2.2.2.2.2.2.2.1))&& (a.2.2.2.2.2.2.2.2.2.2.2.1==b.2.2.2.2.2.2.2.2.2.2.2.1))&& (a.2.2.2.2.2.2.2.2.2.2.2.2.1==b.2.2.2.2.2.2.2.2.2.2.2.2.1))&& (a.2.2.2.2.2.2.2.2.2.2.2.2.2.1==b.2.2.2.2.2.2.2.2.2.2.2.2.2.1),())
abbrev Z2r:List PE:=[.val 0 (.slice 67 (Zw)) (.u false),.val 1 (.slice 67 (Zw)) (.u false),.val 5 (.int .i64) (.u false)]
def Zhr(a c:List Zd)(b:Int):Nat:=((a.length:Int)-b).toNat+1
def Zd4:Nat->List Zd->List Zd->Int->Option (Bool×Unit)|0,_,_,_=>none|N+1,b,c,a=>bif decide (a< (b.length:Int))then Ze (0<=a/\a<b.length)<|Ze (0<=a/\a<c.length)<|(Zl0 (b.getD a.toNat Zj) (c.getD a.toNat Zj)).bind fun d=>bif !d.1 then some (false,()) else Zd4 N b c (IntKind.i64.wrap (a+1)) else some (true,())
def Zni(a b:List Zd):Option (Bool×Unit):=bif(a.length:Int) !=(b.length:Int)then some (false,()) else Zd4 (Zhr a b (0:Int)) a b (0:Int)
abbrev Zxz:List PE:=[.val 0 (.slice 88 (Y9)) (.u false),.val 1 (.slice 88 (Y9)) (.u false),.val 5 (.int .i64) (.u false),.val 6 (.int .i64) (.u false)]
def Zai(a d:List Z9)(b c:Int):Nat:=(((a.getD b.toNat Qk).2.1.length:Int)-c).toNat+1
def Zay(K1: (List Z9×List Z9×Int×Unit)->Option (Bool×Unit)):Nat->List Z9->List Z9->Int->Int->Option (Bool×Unit)|0,_,_,_,_=>none|N+1,c,d,a,b=>Ze (0<=a/\a<c.length)<|bif decide (b< ((c.getD a.toNat Qk).2.1.length:Int))then Ze (0<=a/\a<c.length)<|Ze (0<=b/\b< (c.getD a.toNat Qk).2.1.length)<|Ze (0<=a/\a<d.length)<|Ze (0<=b/\b< (d.getD a.toNat Qk).2.1.length)<|bif !(eqV (Zq) ((c.getD a.toNat Qk).2.1.getD b.toNat Qr) ((d.getD a.toNat Qk).2.1.getD b.toNat Qr))then some (false,()) else Zay K1 N c d a (IntKind.i64.wrap (b+1)) else K1 (c,d,IntKind.i64.wrap (a+1),())
abbrev Zxy:List PE:=[.val 0 (.slice 88 (Y9)) (.u false),.val 1 (.slice 88 (Y9)) (.u false),.val 5 (.int .i64) (.u false)]
def Zee(a c:List Z9)(b:Int):Nat:=((a.length:Int)-b).toNat+1
def Zax:Nat->List Z9->List Z9->Int->Option (Bool×Unit)
 |0,_,_,_=>none
 |N+1,b,c,a=>
  bif decide (a< (b.length:Int))then
   Ze (0<=a/\a<b.length)<|
   Ze (0<=a/\a<c.length)<|
   let d:Bool:=(b.getD a.toNat Qk).1 !=(c.getD a.toNat Qk).1
   Ze ((d=false->(0<=a/\a<b.length)))<|
   Ze ((d=false->(0<=a/\a<c.length)))<|
   bif d|| (((b.getD a.toNat Qk).2.1.length:Int) !=((c.getD a.toNat Qk).2.1.length:Int))then
    some (false,())
   else
    Zay (fun v=>Zax N v.1 v.2.1 v.2.2.1) (Zai b c a (0:Int)) b c a (0:Int)
  else
   some (true,())
def Zie(a b:List Z9):Option (Bool×Unit):=bif(a.length:Int) !=(b.length:Int)then some (false,()) else Zax (Zee a b (0:Int)) a b (0:Int)
def Zo2(a b:Zf):Option (Bool×Unit):=
 let c:Bool:=((a.1==b.1)&& (eqV (Zlp) a.2.1 b.2.1))&& (eqV (Zlp) a.2.2.1 b.2.2.1)
 (bif c then(Zni a.2.2.2.1 b.2.2.2.1)else some (false,())).bind fun e=>
 let d:Bool:=(((((((((((c&&e.1)&& (eqV (Q1) a.2.2.2.2.1 b.2.2.2.2.1))&& (eqV (Yo) a.2.2.2.2.2.1 b.2.2.2.2.2.1))&& (eqV (Zdg) a.2.2.2.2.2.2.1 b.2.2.2.2.2.2.1))&& (eqV (Zdg) a.2.2.2.2.2.2.2.1 b.2.2.2.2.2.2.2.1))&& (eqV (Q1) a.2.2.2.2.2.2.2.2.1 b.2.2.2.2.2.2.2.2.1))&& (eqV (Q1) a.2.2.2.2.2.2.2.2.2.1 b.2.2.2.2.2.2.2.2.2.1))&& (a.2.2.2.2.2.2.2.2.2.2.1==b.2.2.2.2.2.2.2.2.2.2.1))&& (a.2.2.2.2.2.2.2.2.2.2.2.1==b.2.2.2.2.2.2.2.2.2.2.2.1))&& (a.2.2.2.2.2.2.2.2.2.2.2.2.1==b.2.2.2.2.2.2.2.2.2.2.2.2.1))&& (a.2.2.2.2.2.2.2.2.2.2.2.2.2.1==b.2.2.2.2.2.2.2.2.2.2.2.2.2.1))&& (a.2.2.2.2.2.2.2.2.2.2.2.2.2.2.1==b.2.2.2.2.2.2.2.2.2.2.2.2.2.2.1)
 (bif d then(Zie a.2.2.2.2.2.2.2.2.2.2.2.2.2.2.2.1 b.2.2.2.2.2.2.2.2.2.2.2.2.2.2.2.1)else some (false,())).bind fun f=>
 some (((d&&f.1)&& (a.2.2.2.2.2.2.2.2.2.2.2.2.2.2.2.2.1==b.2.2.2.2.2.2.2.2.2.2.2.2.2.2.2.2.1))&& (a.2.2.2.2.2.2.2.2.2.2.2.2.2.2.2.2.2.1==b.2.2.2.2.2.2.2.2.2.2.2.2.2.2.2.2.2.1),())
def Z0f(a:Zf)(b:List UInt8):Option (Int×Unit):=(Ze4 a b).bind fun c=>some (c.2.1,())
abbrev Qgu:List PE:=[.box 4 37 (Zo) (.u true),.box 5 50 (Zq) (.u false),.box 7 37 (Zo) (.u false),.box 8 50 (Zq) (.u false)]
def Zk8(c:Zf)(d:Zi)(a:Zf)(b:Zi):Option ((Zf×Zi×Unit)×(Unit)):=some ((a,(b,())),())
def Zuu(l:List Int)(m:Int):Option ((Zf×Zi×Unit)×(Unit)):=(Zpt l).bind fun n=>(Zmz n.1).bind fun a=>(Zns a.2.1).bind fun b=>(Z7 b.2.1 (12:Int)).bind fun c=>(Zj5 c.2.1 (5:Int)).bind fun d=>(Zag d.2.1 (4:Int)).bind fun e=>(Z7 e.2.1 (4:Int)).bind fun f=>(Z7 f.2.1 (12:Int)).bind fun g=>(Z7 g.2.1 (40:Int)).bind fun h=>(Z7 h.2.1 (9:Int)).bind fun i=>Option.bind (Zhf (m,(i.1.1,(c.1.1,(d.1.1,(e.1.1,(f.1.1,(h.1.1,(g.1.1,b.1.1.2.2.2.2.2.2.2.2))))))))) fun j=>(Zag i.2.1 (14:Int)).bind fun k=>bif k.1.1 then (V9 k.2.1 ([(0:Int),(8:Int),(16:Int)])).bind fun o=>Zk8 Vg Qr a.1.1 (o.1.1,j.1.2) else Zk8 Vg Qr a.1.1 j.1
def Zh5(b:List Int):Option ((Zf×Zi×Unit)×(Unit)):=(Zuu b (8:Int)).bind fun a=>some ((a.1.1,(a.1.2.1,())),())
abbrev Qau:List PE:=[.val 0 (.slice 5 (.int .u8)) (.u false)]
def Zit(e:List Int):Option (Bool×Unit):=(Zh5 e).bind fun a=>(Zkr a.1.1 a.1.2.1).bind fun f=>(Qy a.1.1 a.1.2.1.2.1).bind fun b=>(Ya a.1.1).bind fun c=>(bif(c.1&&b.2.1)then(Q4 a.1.1.1 a.1.2.1.2.1)else some (false,())).bind fun d=>(bif((c.1&&b.2.1)&&d.1)then(Jt a.1.2.1)else some (false,())).bind fun g=>bif(((((c.1&&b.2.1)&&d.1)&&g.1)&& (a.1.2.1.1==8))&& (decide ((IntKind.i64.wrap (a.1.2.1.2.2.1+ (a.1.2.1.2.2.2.1.length:Int)))>b.1.2.2.2.2.1.2.2.1)))&& (f.2.1 !=3)then some (false,()) else some (true,())
abbrev Qav:List PE:=[.val 0 (.slice 5 (.int .u8)) (.u false),.val 8 (.int .i64) (.u false),.val 9 (.slice 50 (Zq)) (.u true),.val 10 (.bool) (.u false),.box 11 37 (Zo) (.u false),.val 12 (.int .i64) (.u false),.box 13 37 (Zo) (.u false),.val 14 (.int .i64) (.u false)]
def Zr1(K1: (List Int×Int×List Zi×Bool×Zf×Int×Unit)->Option (Bool×Unit))(c:List Int)(a:Int)(d:List Zi)(e:Bool)(h:Zf)(f:Int)(g:Zf)(b:Int):Option (Bool×Unit):=bif b !=0 then some (a==b,()) else K1 (c,a,d,e,g,IntKind.i64.wrap (f+1),())
abbrev Qaw:List PE:=[.val 0 (.slice 5 (.int .u8)) (.u false),.val 8 (.int .i64) (.u false),.val 9 (.slice 50 (Zq)) (.u true),.val 10 (.bool) (.u false),.box 11 37 (Zo) (.u false),.val 12 (.int .i64) (.u false)]
def V3(c:List Int)(d:Int)(a:List Zi)(e:Bool)(f:Zf)(b:Int):Nat:=((a.length:Int)-b).toNat+1
def Zb8:Nat->List Int->Int->List Zi->Bool->Zf->Int->Option (Bool×Unit)|0,_,_,_,_,_,_=>none|N+1,d,e,b,c,f,a=>bif(decide (a< (b.length:Int)))&&c then Ze (0<=a/\a<b.length)<|Zkp 1 ((Jg f (b.getD a.toNat Qr)).bind fun g=>Zr1 (fun v=>Zb8 N v.1 v.2.1 v.2.2.1 v.2.2.2.1 v.2.2.2.2.1 v.2.2.2.2.2.1) d e b c f a g.1.1 g.1.2.1) else bif c&& (e !=0)then some (false,()) else Zit d
def Zsj(c:List Int):Option (Bool×Unit):=(Qq9 c).bind fun h=>bif h.1 then some (true,()) else (Zec c).bind fun b=>(Ze4 b.1.1 b.1.2.1).bind fun e=>(Zcb b.1.1 b.1.2.1).bind fun a=>(bif(e.2.1 !=a.1.2.1)then some (false,())else(Zo2 e.1 a.1.1)).bind fun f=>(bif((e.2.1 !=a.1.2.1)|| (!f.1))then some ((0:Int),())else(Z0f b.1.1 b.1.2.1)).bind fun i=>bif((e.2.1 !=a.1.2.1)|| (!f.1))|| (i.1 !=a.1.2.1)then some (false,()) else (Ya b.1.1).bind fun g=>(bif g.1 then(Zla b.1.1)else some (false,())).bind fun j=>bif g.1&& (!j.1)then (Zoa a.1.1).bind fun k=>bif(!(k.1==(a.1.2.1 !=0)))|| ((a.1.2.1 !=0)&& (a.1.1.2.2.2.2.2.2.2.2.2.2.2.2.2.2.2.2.2.1 !=a.1.2.1))then some (false,()) else (Y3 b.1.2.1).bind fun d=>bif(!d.2.1)&& (a.1.2.1 !=7)then some (false,()) else Zb8 (V3 c a.1.2.1 d.1 d.2.1 b.1.1 (0:Int)) c a.1.2.1 d.1 d.2.1 b.1.1 (0:Int) else Zit c
end Go.Proofs.YtgepmefongfeeaaGreat

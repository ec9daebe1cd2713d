/- No condition. -/
import Derived.Test.YtahnlnkboamdmaaGreatDoorM1
noncomputable section
set_option linter.all false
namespace Go.Proofs.YtahnlnkboamdmaaGreatDoor
open Go.Am
set_option maxRecDepth 100000
open Option renaming some→A,none→G,bind→J
open Decidable renaming decide→B
open Bool renaming false→C,true→F
open Go renaming IntKind→D
open IntKind renaming i64→E,u8→K
open Int renaming tmod→H,tdiv→L
open List renaming replicate→I
def nk(c a:Zk):Oa Zk:=(lE a).bind λb=>A ((b.1,a.2),())
def ir(c:Bool)(b a:Zk):Oa Zk:=cond c ((tn a.2.2.2.2.1 0).bind λd=>(yl a.2.1 d.1).bind λe=>nk b (a.1,e.1,a.2.2)) (nk b a)
def iq(b:Bool)(d:Zk)(e:Qe)(c a:Zk)(f:Int):Oa Zk:=cond (e.2.2.1&&(d.2.2.2.2.2.2.1==2)) (ir b c (tF a f)) (ir b c a)
def xP(c:Bool)(d:Zk)(e:Qe)(f g:Zk)(h:Int)(i:List Zi)(a b:Int):Nat:=(a-b).toNat+1
def it:Nat->Bool->Zk->Qe->Zk->Zk->Int->List Zi->Int->Int->Oa Zk|0,_,_,_,_,_,_,_,_,_=>G|N+1,d,e,f,g,a,h,c,i,b=>cond (B (b<i)) (gG c b<|(kB a.2.2.2.1 (gI c b)).bind λj=>(dv a.2.2.2.2.1 (gI c b)).bind λk=>it N d e f g (a.1,a.2.1,a.2.2.1,j.1,k.1,a.2.2.2.2.2) h c i (E.wrap (b+1))) (iq d e f g a h)
def v7(d:Bool)(b:Zk)(a:Qe)(e f:Zk)(g:Int):Oa Zk:=cond (!(a.2.1==[])) ((iN b.2.2.2.1 ([(a.1,E.wrap (a.1+(a.2.1:Int)),())])).bind λc=>it (xP d b a e f g c.1 c.1 (0:Int)) d b a e f g c.1 c.1 (0:Int)) (iq d b a e f g)
def XB(a:Zk)(b:Qe)(e:Bool):Oa Zk:=cond e ((Wo a).bind λc=>(bU a).bind λd=>(gH (!d.1) (tq a b)).bind λf=>cond ((!d.1)||(!f.1)) (A (c.1,())) (v7 F a b Yw c.1 3)) G
def Zd2(a:Zk)(b:Qe):Oa Zk:=(XB a b F).bind λc=>A (c.1,())
def KR(a:Zk):Oc Zk Bool:=(Wo a).bind λb=>(oa a).bind λc=>cond ((!c.1)||(a.1 !=4)) (A (b.1,C,())) (A ((5,b.1.2),F,()))
def cM(a:Ze)(b:Int):Option ((Bool)×(Ze×Unit)):=(m7 b).bind λc=>cond c.1 (A (F,a,())) (A (C,a,()))
def bE(K1:(Ze×Ze×List Zj×Int×Int×Unit)->Option ((Ze×Bool×Unit)×(Unit)))(e a:Ze)(f:Zj)(g:List Zj)(h i:Int):Option ((Ze×Bool×Unit)×(Unit)):=
 (Z4 a.2.2.2.1 f.2.1).bind λd=>
 gG a.2.2.2.1 d.1<|
 (Vl a.1 f.2.1).bind λl=>
 let k:=l.1||(gK a.2.2.2.1 d.1).2.2.2.2.2.2.2.2.2.2.2.2.2.1
 (gH k (J7 (gK a.2.2.2.1 d.1))).bind λm=>
 bif k||(!m.1)then
  K1 (e,a,g,h,E.wrap (i+1),())
 else
  J (cM (tD a (a.2.2.2.1.set d.1.toNat (tA (gK a.2.2.2.1 d.1) F))) f.2.1) λj=>
  bif j.1 then
   (cM j.2.1 f.2.1).bind λb=>
   bif b.1 then
    (Z0 b.2.1.2.2.2.2.2.2.2.2.2.1).bind λn=>
    K1 (e,(tB b.2.1 n.1),g,h,E.wrap (i+1),())
   else
    (Z0 b.2.1.2.2.2.2.2.2.2.2.1).bind λo=>
    K1 (e,(tB b.2.1 o.1),g,h,E.wrap (i+1),())
  else
   (cM j.2.1 f.2.1).bind λc=>
   bif c.1 then
    (Z0 c.2.1.2.2.2.2.2.2.2.2.2.1).bind λp=>
    K1 (e,(tC c.2.1 p.1),g,h,E.wrap (i+1),())
   else
    (Z0 c.2.1.2.2.2.2.2.2.2.2.1).bind λq=>
    K1 (e,(tC c.2.1 q.1),g,h,E.wrap (i+1),())
def ke(c d:Ze)(e:List Zj)(a b:Int):Nat:=(a-b).toNat+1
def Yl:Nat->Ze->Ze->List Zj->Int->Int->Option ((Ze×Bool×Unit)×(Unit))
 |0,_,_,_,_,_=>G
 |N+1,g,a,d,f,c=>
  bif B (c<f)then
   Zh (0<=c/\c<d)<|
   (Z4 a.2.2.2.1 (d.getD c.toNat Qc).2.1).bind λb=>
   (Wa (d.getD c.toNat Qc)).bind λi=>
   bif(!i.1)||(B (b.1<(0:Int)))then
    Yl N g a d f (E.wrap (c+1))
   else
    Zh (0<=b.1/\b.1<a.2.2.2.1)<|
    bif(d.getD c.toNat Qc).1==8 then
     (QY (d.getD c.toNat Qc)).bind λj=>
     (Zd2 (a.2.2.2.1.getD b.1.toNat Zc).2.1 j.1).bind λk=>
     bE (λv=>Yl N v.1 v.2.1 v.2.2.1 v.2.2.2.1 v.2.2.2.2.1) g (a.1,a.2.1,a.2.2.1,a.2.2.2.1.set b.1.toNat ((a.2.2.2.1.getD b.1.toNat Zc).1,k.1,(a.2.2.2.1.getD b.1.toNat Zc).2.2),a.2.2.2.2) (d.getD c.toNat Qc) d f c
    else
     bif(d.getD c.toNat Qc).1==4 then
      (KR (a.2.2.2.1.getD b.1.toNat Zc).2.1).bind λh=>
      bif h.2.1 then
       let e:List Zf:=a.2.2.2.1.set b.1.toNat ((a.2.2.2.1.getD b.1.toNat Zc).1,h.1,(a.2.2.2.1.getD b.1.toNat Zc).2.2)
       bE (λv=>Yl N v.1 v.2.1 v.2.2.1 v.2.2.2.1 v.2.2.2.2.1) g (a.1,a.2.1,a.2.2.1,e.set b.1.toNat ((e.getD b.1.toNat Zc).1,(e.getD b.1.toNat Zc).2.1,(e.getD b.1.toNat Zc).2.2.1,(e.getD b.1.toNat Zc).2.2.2.1,(e.getD b.1.toNat Zc).2.2.2.2.1,(e.getD b.1.toNat Zc).2.2.2.2.2.1,(e.getD b.1.toNat Zc).2.2.2.2.2.2.1,(e.getD b.1.toNat Zc).2.2.2.2.2.2.2.1,C,(e.getD b.1.toNat Zc).2.2.2.2.2.2.2.2.2),a.2.2.2.2) (d.getD c.toNat Qc) d f c
      else
       bE (λv=>Yl N v.1 v.2.1 v.2.2.1 v.2.2.2.1 v.2.2.2.2.1) g a (d.getD c.toNat Qc) d f c
     else
      bif(d.getD c.toNat Qc).1==5 then
       bE (λv=>Yl N v.1 v.2.1 v.2.2.1 v.2.2.2.1 v.2.2.2.2.1) g (a.1,a.2.1,a.2.2.1,a.2.2.2.1.set b.1.toNat ((a.2.2.2.1.getD b.1.toNat Zc).1,(a.2.2.2.1.getD b.1.toNat Zc).2.1,(a.2.2.2.1.getD b.1.toNat Zc).2.2.1,(a.2.2.2.1.getD b.1.toNat Zc).2.2.2.1,(a.2.2.2.1.getD b.1.toNat Zc).2.2.2.2.1,(a.2.2.2.1.getD b.1.toNat Zc).2.2.2.2.2.1,(a.2.2.2.1.getD b.1.toNat Zc).2.2.2.2.2.2.1,(a.2.2.2.1.getD b.1.toNat Zc).2.2.2.2.2.2.2.1,(a.2.2.2.1.getD b.1.toNat Zc).2.2.2.2.2.2.2.2.1,C,(a.2.2.2.1.getD b.1.toNat Zc).2.2.2.2.2.2.2.2.2.2),a.2.2.2.2) (d.getD c.toNat Qc) d f c
      else
       bE (λv=>Yl N v.1 v.2.1 v.2.2.1 v.2.2.2.1 v.2.2.2.2.1) g a (d.getD c.toNat Qc) d f c
  else
   A ((a,F,()),())
def QE(b:Ze)(c:Int):Option ((Ze×Bool×Unit)×(Unit)):=(QZ b c).bind λa=>cond (!a.1.2.2.1) (A ((a.1.1,C,()),())) (Yl (ke X9 a.1.1 a.1.2.1 a.1.2.1 (0:Int)) X9 a.1.1 a.1.2.1 a.1.2.1 (0:Int))
def nj(c a:Zk):Oa Zk:=(lE a).bind λb=>A ((b.1,a.2),())
def ni(c:Bool)(b a:Zk):Oa Zk:=cond c ((tn a.2.2.2.2.1 0).bind λd=>(yl a.2.1 d.1).bind λe=>nj b (a.1,e.1,a.2.2)) (nj b a)
def io(b:Bool)(d:Zk)(e:Qe)(c a:Zk)(f:Int):Oa Zk:=cond (e.2.2.1&&(d.2.2.2.2.2.2.1==2)) (ni b c (a.1,a.2.1,a.2.2.1,a.2.2.2.1,a.2.2.2.2.1,a.2.2.2.2.2.1,f,a.2.2.2.2.2.2.2)) (ni b c a)
def xO(c:Bool)(d:Zk)(e:Qe)(f g:Zk)(h:Int)(i:List Zi)(a b:Int):Nat:=(a-b).toNat+1
def ip:Nat->Bool->Zk->Qe->Zk->Zk->Int->List Zi->Int->Int->Oa Zk|0,_,_,_,_,_,_,_,_,_=>G|N+1,d,e,f,g,a,h,c,i,b=>cond (B (b<i)) (gG c b<|(kB a.2.2.2.1 (gI c b)).bind λj=>(dv a.2.2.1 (gI c b)).bind λk=>ip N d e f g (a.1,a.2.1,k.1,j.1,a.2.2.2.2) h c i (E.wrap (b+1))) (io d e f g a h)
def v6(d:Bool)(b:Zk)(a:Qe)(e f:Zk)(g:Int):Oa Zk:=cond (!(a.2.1==[])) ((iN b.2.2.2.1 ([(a.1,E.wrap (a.1+(a.2.1:Int)),())])).bind λc=>ip (xO d b a e f g c.1 c.1 (0:Int)) d b a e f g c.1 c.1 (0:Int)) (io d b a e f g)
def XA(a:Zk)(b:Qe)(e:Bool):Oa Zk:=cond e G ((Wo a).bind λc=>(bU a).bind λd=>(gH (!d.1) (tq a b)).bind λf=>cond ((!d.1)||(!f.1)) (A (c.1,())) (v6 C a b Yw c.1 1))
def Zaz(a:Zk)(b:Qe):Oa Zk:=(XA a b C).bind λc=>A (c.1,())
def aF(K1:(Ze×Ze×List Zj×Int×Int×Unit)->Option ((Ze×Bool×Unit)×(Unit)))(d a:Ze)(c:Zj)(e:List Zj)(f g:Int):Option ((Ze×Bool×Unit)×(Unit)):=(Z4 a.2.2.2.1 c.2.1).bind λb=>(Wa c).bind λh=>cond ((!h.1)||(B (b.1<0))) (K1 (d,a,e,f,E.wrap (g+1),())) (gG a.2.2.2.1 b.1<|cond (c.1==8) ((QY c).bind λi=>(Zaz (gK a.2.2.2.1 b.1).2.1 i.1).bind λj=>K1 (d,(tD a (a.2.2.2.1.set b.1.toNat (tT (gK a.2.2.2.1 b.1) j.1))),e,f,E.wrap (g+1),())) (cond (c.1==4) (K1 (d,(tD a (a.2.2.2.1.set b.1.toNat (tC (gK a.2.2.2.1 b.1) ((gK a.2.2.2.1 b.1).2.1.1==4)))),e,f,E.wrap (g+1),())) (cond (c.1==5) ((lG (gK a.2.2.2.1 b.1).2.2.2.1).bind λk=>K1 (d,(tD a (a.2.2.2.1.set b.1.toNat (tB (gK a.2.2.2.1 b.1) k.1))),e,f,E.wrap (g+1),())) (cond (c.1==17) (K1 (d,(tD a (a.2.2.2.1.set b.1.toNat (tE (gK a.2.2.2.1 b.1) F))),e,f,E.wrap (g+1),())) (K1 (d,a,e,f,E.wrap (g+1),()))))))
def iQ(c d:Ze)(e:List Zj)(a b:Int):Nat:=(a-b).toNat+1
def J3:Nat->Ze->Ze->List Zj->Int->Int->Option ((Ze×Bool×Unit)×(Unit))|0,_,_,_,_,_=>G|N+1,e,a,c,d,b=>cond (B (b<d)) (Zh (0<=b/\b<c)<|cond ((c.getD b.toNat Qc).1==16) (aF (λv=>J3 N v.1 v.2.1 v.2.2.1 v.2.2.2.1 v.2.2.2.2.1) e (a.1,a.2.1,a.2.2.1,a.2.2.2.1,a.2.2.2.2.1,a.2.2.2.2.2.1,a.2.2.2.2.2.2.1,a.2.2.2.2.2.2.2.1,a.2.2.2.2.2.2.2.2.1,a.2.2.2.2.2.2.2.2.2.1,F,a.2.2.2.2.2.2.2.2.2.2.2) (c.getD b.toNat Qc) c d b) (cond (((c.getD b.toNat Qc).1==18)&&(c.getD b.toNat Qc).2.2.2.2.2.2.2.2.1) (aF (λv=>J3 N v.1 v.2.1 v.2.2.1 v.2.2.2.1 v.2.2.2.2.1) e (a.1,a.2.1,a.2.2.1,a.2.2.2.1,a.2.2.2.2.1,a.2.2.2.2.2.1,a.2.2.2.2.2.2.1,a.2.2.2.2.2.2.2.1,a.2.2.2.2.2.2.2.2.1,a.2.2.2.2.2.2.2.2.2.1,a.2.2.2.2.2.2.2.2.2.2.1,a.2.2.2.2.2.2.2.2.2.2.2.1,F,a.2.2.2.2.2.2.2.2.2.2.2.2.2) (c.getD b.toNat Qc) c d b) (cond ((c.getD b.toNat Qc).1==18) (aF (λv=>J3 N v.1 v.2.1 v.2.2.1 v.2.2.2.1 v.2.2.2.2.1) e (a.1,a.2.1,a.2.2.1,a.2.2.2.1,a.2.2.2.2.1,a.2.2.2.2.2.1,a.2.2.2.2.2.2.1,a.2.2.2.2.2.2.2.1,a.2.2.2.2.2.2.2.2.1,a.2.2.2.2.2.2.2.2.2.1,a.2.2.2.2.2.2.2.2.2.2.1,F,a.2.2.2.2.2.2.2.2.2.2.2.2) (c.getD b.toNat Qc) c d b) (aF (λv=>J3 N v.1 v.2.1 v.2.2.1 v.2.2.2.1 v.2.2.2.2.1) e a (c.getD b.toNat Qc) c d b)))) (A ((a,F,()),()))
def yX(b:Ze)(c:Int):Option ((Ze×Bool×Unit)×(Unit)):=(QZ b c).bind λa=>cond (!a.1.2.2.1) (A ((a.1.1,C,()),())) (J3 (iQ X9 a.1.1 a.1.2.1 a.1.2.1 (0:Int)) X9 a.1.1 a.1.2.1 a.1.2.1 (0:Int))
def KS(b:Ze)(c:Int):Oc Ze Bool:=(Zw b).bind λa=>(Jl b).bind λd=>(gH (!d.1) (Z1 c 1 1000)).bind λe=>cond (((!d.1)||(!e.1))||(B ((E.wrap (b.2.2.2.2.2.2.2.2.2.2.2.2.2.2.2.2.1+c))>1000000))) (A (a.1,C,())) (A ((tK a.1 (E.wrap (a.1.2.2.2.2.2.2.2.2.2.2.2.2.2.2.2.2.1+c))),F,()))
def ki(b:Ze)(a:Yk):Option ((Ze×Bool×Unit)×(Unit)):=cond (a.1==3) ((uJ b a.2.1).bind λc=>A ((c.1,c.2.1,()),())) (cond (a.1==5) ((xo b a.2.1 a.2.2.1).bind λd=>A ((d.1,d.2.1,()),())) (cond (a.1==6) ((y6 b a.2.1 a.2.2.1).bind λe=>A ((e.1,e.2.1,()),())) (cond (a.1==7) ((xp b a.2.1 a.2.2.2.1).bind λf=>A ((f.1,f.2.1,()),())) (cond (a.1==9) ((QE b a.2.2.1).bind λg=>A ((g.1.1,g.1.2.1,()),())) (cond (a.1==10) ((yX b a.2.2.1).bind λh=>A ((h.1.1,h.1.2.1,()),())) ((KS b a.2.2.1).bind λi=>A ((i.1,i.2.1,()),())))))))
def yP(b:Ze)(a:Yk):Option ((Ba×Ze×Unit)×(Unit)):=(K7 b).bind λh=>(gH (!h.1) (QJ a)).bind λo=>cond ((!h.1)||(!o.1)) ((Zw b).bind λp=>A (([],p.1,()),())) ((ku b).bind λq=>cond q.1 ((Zw b).bind λr=>A ((([99,108,111,115,101,100]:Ba),r.1,()),())) (cond (a.1==1) ((yZ b (a.2.2.2.1==([117,110,105]:Ba))).bind λd=>(ly d.1).bind λs=>(ZB d.2.2.1 s.1 ([98,108,111,99,107,101,100]:Ba)).bind λt=>A ((t.1,d.2.1,()),())) (cond (a.1==2) ((xq b a.2.1 a.2.2.2.1).bind λi=>(ly i.1).bind λu=>A ((u.1,i.2.1,()),())) (cond (a.1==4) ((y5 b a.2.1 a.2.2.1).bind λe=>(vq e.1.1).bind λf=>Zh (f.1+([32]:Ba)<=Jv)<|(ZB e.1.2.1 ([101,110,100]:Ba) ([109,111,114,101]:Ba)).bind λj=>Zh ((f.1++([32]:Ba)).length+j.1<=Jv)<|some (((f.1++([32]:Ba))++j.1,e.1.2.2.1,()),())) (cond (a.1==8) ((ji b a.2.2.1).bind λc=>(ly c.1.2.1).bind λg=>Zh (g.1+([32]:Ba)<=Jv)<|(vq c.1.1).bind λk=>Zh ((g.1++([32]:Ba)).length+k.1<=Jv)<|(ZB (c.1.2.1 !=(-1:Int)) ((g.1++([32]:Ba))++k.1) ([110,111,116,104,105,110,103]:Ba)).bind λv=>A ((v.1,c.1.2.2.1,()),())) (cond (a.1==11) ((lu a.2.2.2.1).bind λw=>(rz b w.1).bind λl=>(ly l.2.1).bind λm=>Zh (([101,114,114,111,114,32]:Ba)+m.1<=Jv)<|some ((([101,114,114,111,114,32]:Ba)++m.1,l.1,()),())) ((ki b a).bind λn=>(ZB n.1.2.1 ([111,107]:Ba) ([110,111]:Ba)).bind λx=>A ((x.1,n.1.1,()),()))))))))
def ZN(a:Q2):Oa Q2:=Zh (([]:List Int)+a.2.2.2.1<=Qp)<|some ((a.1,a.2.1,a.2.2.1,[]++a.2.2.2.1,()),())
def rj(a:List Zi):Oa (List Zi):=Zh (([]:List Zi)+a<=Qp)<|some ([]++a,())
def iJ(a:Zk):Oa Zk:=(ZN a.2.1).bind λb=>(rj a.2.2.1).bind λc=>(rj a.2.2.2.1).bind λd=>(rj a.2.2.2.2.1).bind λe=>A ((a.1,b.1,c.1,d.1,e.1,a.2.2.2.2.2.1,a.2.2.2.2.2.2.1,a.2.2.2.2.2.2.2.1,a.2.2.2.2.2.2.2.2.1,()),())
def ro(a:Zv):Oa Zv:=Zh (([]:List Qd)+a.2.1<=Qp)<|some ((a.1,[]++a.2.1,()),())
def nP(a:Zu):Oa Zu:=(ro a.2.1).bind λb=>A ((a.1,b.1,a.2.2.1,a.2.2.2.1,a.2.2.2.2.1,()),())
def dR(a:Zf):Oa Zf:=(iJ a.2.1).bind λb=>(nP a.2.2.2.1).bind λc=>A ((a.1,b.1,a.2.2.1,c.1,a.2.2.2.2),())
def qf(a c:List Z6)(b:Int):Nat:=(a-b).toNat+1
def lZ:Nat->List Z6->List Z6->Int->Oa (List Z6)
 |0,_,_,_=>G
 |N+1,b,c,a=>
  bif B (a<(b:Int))then
   gG b a<|
   gG b a<|
   Zh (([]:List Zj)+(gL b a).2.1<=Qp)<|
   let d:List Z6:=[((gL b a).1,([]:List Zj)++(gL b a).2.1,())]
   Zh (c+d<=Qp)<|
   lZ N b (c++d) (E.wrap (a+1))
  else
   A (c,())
def zn(a:List Z6):Oa (List Z6):=lZ (qf a ([]:List Z6) (0:Int)) a ([]:List Z6) (0:Int)
def wy(a c d:Ze)(b:Int):Nat:=(a.2.2.2.1-b).toNat+1
def tf:Nat->Ze->Ze->Ze->Int->Oa Ze|0,_,_,_,_=>G|N+1,b,e,a,c=>cond (B (c<(b.2.2.2.1:Int))) (gG b.2.2.2.1 c<|(dR (gK b.2.2.2.1 c)).bind λd=>Zh (a.2.2.2.1+([d.1])<=Qp)<|tf N b e (tD a (a.2.2.2.1++([d.1]))) (E.wrap (c+1))) ((zn b.2.2.2.2.2.2.2.2.2.2.2.2.2.2.2.1).bind λf=>A ((tH a f.1),()))
def Qj(a:Ze):Oa Ze:=tf (wy a X9 (tD a ([]:List Zf)) (0:Int)) a X9 (tD a ([]:List Zf)) (0:Int)
def Vg(a:Q2)(b:Int):Nat:=(a.2.2.2.1-b).toNat+1
def lT:Nat->Q2->Int->Oa Bool|0,_,_=>G|N+1,b,a=>cond (B (a<(b.2.2.2.1:Int))) (Zh (0<=a/\a<b.2.2.2.1)<|(Z9 (b.2.2.2.1.getD a.toNat (0:Int)) (0:Int) (255:Int)).bind λc=>cond (!c.1) (A (C,())) (lT N b (E.wrap (a+1)))) (A (F,()))
def aP(a:Q2):Oa Bool:=(bp a.1).bind λb=>cond ((((((!b.1)||(a.2.2.2.1 !=a.1))||(B (a.2.1<0)))||(B (a.2.2.1<a.2.1)))||(B ((E.wrap (a.2.2.1-a.2.1))>a.1)))||(B (a.2.2.1>4611686018427387903))) (A (C,())) (lT (Vg a (0:Int)) a (0:Int))
def VB(a:Zi):Oa Bool:=A (((B (a.1>=0))&&(B (a.1<a.2.1)))&&(B (a.2.1<=4611686018427387903)),())
def fC(a:List Zi)(b:Int):Nat:=(a-b).toNat+1
def c9:Nat->List Zi->Int->Oa Bool|0,_,_=>G|N+1,b,a=>cond (B (a<(b:Int))) (Zh (0<=a/\a<b)<|(VB (b.getD a.toNat Z3)).bind λc=>Zh (((!c.1)=C->((B (a>(0:Int)))=F->(0<=(E.wrap (a-1))/\(E.wrap (a-1))<b))))<|Zh (((!c.1)=C->((B (a>(0:Int)))=F->(0<=a/\a<b))))<|cond ((!c.1)||((B (a>(0:Int)))&&(B ((b.getD (E.wrap (a-1)).toNat Z3).2.1>=(b.getD a.toNat Z3).1)))) (A (C,())) (c9 N b (E.wrap (a+1)))) (A (F,()))
def Wy(a:List Zi):Oa Bool:=c9 (fC a (0:Int)) a (0:Int)
def cW(K1:(List Zi×Zi×List Zi×Bool×Int×Unit)->Oa (List Zi))(a:List Zi)(b:Zi)(c:List Zi)(d:Bool)(e:Int):Oa (List Zi):=K1 (a,b,c,d,E.wrap (e+1),())
def py(K1:(List Zi×Zi×List Zi×Bool×Int×Unit)->Oa (List Zi))(b:List Zi)(d:Zi)(c:List Zi)(e:Bool)(a:Int):Oa (List Zi):=gG b a<|Zh (c+([(gI b a)])<=Qp)<|cW K1 b d (c++([(gI b a)])) e a
def me(a:List Zi)(c:Zi)(d:List Zi)(e:Bool)(b:Int):Nat:=(a-b).toNat+1
def Jt:Nat->List Zi->Zi->List Zi->Bool->Int->Oa (List Zi)|0,_,_,_,_,_=>G|N+1,b,c,d,e,a=>cond (B (a<(b:Int))) (Zh (0<=a/\a<b)<|cond (B ((b.getD a.toNat Z3).2.1<c.1)) (Zh (0<=a/\a<b)<|Zh (d+([(b.getD a.toNat Z3)])<=Qp)<|cW (λv=>Jt N v.1 v.2.1 v.2.2.1 v.2.2.2.1 v.2.2.2.2.1) b c (d++([(b.getD a.toNat Z3)])) e a) (Zh (0<=a/\a<b)<|cond (B ((b.getD a.toNat Z3).1>c.2.1)) (cond (!e) (Zh (d+([c])<=Qp)<|py (λv=>Jt N v.1 v.2.1 v.2.2.1 v.2.2.2.1 v.2.2.2.2.1) b c (d++([c])) F a) (py (λv=>Jt N v.1 v.2.1 v.2.2.1 v.2.2.2.1 v.2.2.2.2.1) b c d e a)) (Zh (0<=a/\a<b)<|Zh (0<=a/\a<b)<|cW (λv=>Jt N v.1 v.2.1 v.2.2.1 v.2.2.2.1 v.2.2.2.2.1) b (min c.1 (b.getD a.toNat Z3).1,max c.2.1 (b.getD a.toNat Z3).2.1,c.2.2) d e a))) (cond (!e) (Zh (d+([c])<=Qp)<|some (d++([c]),())) (A (d,())))
def dx(a:List Zi)(b:Zi):Oa (List Zi):=(Wy a).bind λc=>(gH (!c.1) (VB b)).bind λd=>cond ((!c.1)||(!d.1)) ((rj a).bind λe=>A (e.1,())) (Jt (me a b ([]:List Zi) C (0:Int)) a b ([]:List Zi) C (0:Int))
def fa(a:List Zi)(c b:Int):Nat:=(a-b).toNat+1
def V6:Nat->List Zi->Int->Int->Oa Int|0,_,_,_=>G|N+1,b,c,a=>cond (B (a<(b:Int))) (Zh (0<=a/\a<b)<|Zh (0<=a/\a<b)<|V6 N b (E.wrap ((E.wrap (c+(b.getD a.toNat Z3).2.1))- (b.getD a.toNat Z3).1)) (E.wrap (a+1))) (A (c,()))
def bH(a:List Zi):Oa Int:=(Wy a).bind λb=>cond (!b.1) (A ((-1:Int),())) (V6 (fa a (0:Int) (0:Int)) a (0:Int) (0:Int))
def qa(K1:(List Zi×Int×Int×Unit)->Oa Int)(a:List Zi)(b c:Int):Oa Int:=K1 (a,b,E.wrap (c+1),())
def uq(a:List Zi)(c b:Int):Nat:=(a-b).toNat+1
def bj:Nat->List Zi->Int->Int->Oa Int
 |0,_,_,_=>G
 |N+1,b,c,a=>
  bif B (a<(b:Int))then
   Zh (0<=a/\a<b)<|
   let d:Bool:=B (c>=(b.getD a.toNat Z3).1)
   Zh ((d=F->(0<=a/\a<b)))<|
   bif d&&(B (c<(b.getD a.toNat Z3).2.1))then
    Zh (0<=a/\a<b)<|
    qa (λv=>bj N v.1 v.2.1 v.2.2.1) b (b.getD a.toNat Z3).2.1 a
   else
    qa (λv=>bj N v.1 v.2.1 v.2.2.1) b c a
  else
   A (c,())
def ol(a:List Zi)(b:Int):Oa Int:=(Wy a).bind λc=>cond ((!c.1)||(B (b<0))) (A ((-1:Int),())) (bj (uq a b (0:Int)) a b (0:Int))
def ch(a:Zk):Oa Int:=cond ((a.2.2.2.2.2.2.1==3)&&(a.2.1.2.1==a.2.1.2.2.1)) (A (3,())) (cond ((B (a.2.2.2.2.2.2.1>1))||((a.2.2.2.2.2.2.1==1)&&(a.1==2))) (A (2,())) (cond ((B (a.2.2.2.2.2.2.2.1>0))||((a.2.2.2.2.2.2.1==1)&&(a.1==1))) (A (1,())) (A (0,()))))
def mg(a:Zk)(i8:Int):Nat:=(a.2.2.2.2.1-i8).toNat+1
def fW:Nat->Zk->Int->Oa Bool|0,_,_=>G|N+1,a,i8=>cond (B (i8<(a.2.2.2.2.1:Int))) (Zh (0<=i8/\i8<a.2.2.2.2.1)<|cond (B ((a.2.2.2.2.1.getD i8.toNat Z3).2.1>a.2.2.2.2.2.2.2.1)) (A (C,())) (fW N a (E.wrap (i8+1)))) (cond ((!((a.2.2.2.2.2.2.1==0)==(a.2.2.2.2.2.1==(-1:Int))))||((a.2.2.2.2.2.1 !=(-1:Int))&&(a.2.2.2.2.2.1 !=a.2.1.2.2.1))) (A (C,())) ((ch a).bind λb=>A (a.1==b.1,())))
def fE(a:Zk)(b:Int):Nat:=(a.2.2.2.1-b).toNat+1
def fV:Nat->Zk->Int->Oa Bool|0,_,_=>G|N+1,a,b=>cond (B (b<(a.2.2.2.1:Int))) (Zh (0<=b/\b<a.2.2.2.1)<|cond (B ((a.2.2.2.1.getD b.toNat Z3).2.1>a.2.2.2.2.2.2.2.1)) (A (C,())) (fV N a (E.wrap (b+1)))) (fW (mg a (0:Int)) a (0:Int))
def fD(a:Zk)(c:List Zi)(b:Int):Nat:=(a.2.2.2.2.1-b).toNat+1
def fU:Nat->Zk->List Zi->Int->Oa Bool
 |0,_,_,_=>G
 |N+1,a,c,b=>
  bif B (b<(a.2.2.2.2.1:Int))then
   Zh (0<=b/\b<a.2.2.2.2.1)<|
   (dx c (a.2.2.2.2.1.getD b.toNat Z3)).bind λf=>
   fU N a f.1 (E.wrap (b+1))
  else
   (bH a.2.2.1).bind λg=>
   (bH a.2.2.2.1).bind λh=>
   (bH a.2.2.2.2.1).bind λi=>
   (bH c).bind λj=>
   let d:Bool:=(j.1 !=a.2.1.2.2.1)||((E.wrap ((E.wrap (g.1+h.1))+i.1)) !=a.2.1.2.2.1)
   Zh ((d=C->((B (a.2.1.2.2.1>(0:Int)))=F->(0<=(0:Int)/\(0:Int)<c))))<|
   let e:Bool:=d||((B (a.2.1.2.2.1>(0:Int)))&&((c.getD (0:Int).toNat Z3).2.1 !=a.2.1.2.2.1))
   (cond e (A ((0:Int),())) (ol a.2.2.2.2.1 (0:Int))).bind λk=>
   bif(e||(k.1 !=a.2.1.2.1))||(a.2.2.2.2.2.2.2.2.1 !=0)then
    A (C,())
   else
    fV (fE a (0:Int)) a (0:Int)
def Va(a:Zk)(Zwr:List Zi)(b:Int):Nat:=(a.2.2.2.1-b).toNat+1
def fT:Nat->Zk->List Zi->Int->Oa Bool|0,_,_,_=>G|N+1,a,Zwr,b=>cond (B (b<(a.2.2.2.1:Int))) (Zh (0<=b/\b<a.2.2.2.1)<|(dx Zwr (a.2.2.2.1.getD b.toNat Z3)).bind λc=>fT N a c.1 (E.wrap (b+1))) (fU (fD a Zwr (0:Int)) a Zwr (0:Int))
def K9(a:Zk):Oa Bool:=
 (aP a.2.1).bind λb=>
 (gH (!b.1) (Wy a.2.2.1)).bind λe=>
 (gH ((!b.1)||(!e.1)) (Wy a.2.2.2.1)).bind λh=>
 let c:=((!b.1)||(!e.1))||(!h.1)
 (gH c (Wy a.2.2.2.2.1)).bind λf=>
 (gH (c||(!f.1)) (Z9 a.2.2.2.2.2.2.2.1 0 a.2.1.2.2.1)).bind λi=>
 let d:=(c||(!f.1))||(!i.1)
 (gH d (Q9 a.2.2.2.2.2.2.2.2.1)).bind λg=>
 (gH (d||(!g.1)) (Z9 a.2.2.2.2.2.2.1 0 3)).bind λj=>
 bif(d||(!g.1))||(!j.1)then
  A (C,())
 else
  bif(a.1==4)||(a.1==5)then
   A (((((((a.2.1.2.1==a.2.1.2.2.1)&&((a.2.2.1:Int)==(0:Int)))&&((a.2.2.2.1:Int)==(0:Int)))&&((a.2.2.2.2.1:Int)==(0:Int)))&&(a.2.2.2.2.2.1==a.2.2.2.2.2.2.2.1))&&(a.2.2.2.2.2.2.1==0))&&(a.2.2.2.2.2.2.2.1==a.2.1.2.2.1),())
  else
   fT (Va a a.2.2.1 (0:Int)) a a.2.2.1 (0:Int)
def Vu(a:Qu):Oa Bool:=(Q9 a.1).bind λb=>(cond b.1 (Z9 a.2.1 0 a.1) (A (C,()))).bind λc=>(cond (b.1&&c.1) (Z9 a.2.2.1 (-1:Int) a.1) (A (C,()))).bind λd=>(cond ((b.1&&c.1)&&d.1) (Z9 a.2.2.2.1 (-1:Int) a.1) (A (C,()))).bind λe=>A (((b.1&&c.1)&&d.1)&&e.1,())
def ut(a:Zv)(c b:Int):Nat:=(a.2.1-b).toNat+1
def kS:Nat->Zv->Int->Int->Oa Bool|0,_,_,_=>G|N+1,a,c,b=>cond (B (b<(a.2.1:Int))) (Zh (0<=b/\b<a.2.1)<|cond (((B ((a.2.1.getD b.toNat Qt).1<=c))||((a.2.1.getD b.toNat Qt).2.1==([]:Ba)))||(B ((a.2.1.getD b.toNat Qt).1>(E.wrap ((4611686018427387903:Int)- ((a.2.1.getD b.toNat Qt).2.1:Int)))))) (A (C,())) (kS N a (E.wrap ((a.2.1.getD b.toNat Qt).1+((a.2.1.getD b.toNat Qt).2.1:Int))) (E.wrap (b+1)))) ((Q9 a.1).bind λd=>A (d.1,()))
def kx(a:Zv):Oa Bool:=kS (ut a (E.wrap (a.1-1)) (0:Int)) a (E.wrap (a.1-1)) (0:Int)
def wv(a:Zv):Oa Int:=
 (gH ((a.2.1:Int)==(0:Int)) (kx a)).bind λc=>
 bif((a.2.1:Int)==(0:Int))||(!c.1)then
  A (a.1,())
 else
  let b:=E.wrap ((a.2.1:Int)-1)
  gG a.2.1 b<|
  A (E.wrap ((gJ a.2.1 b).1+((gJ a.2.1 b).2.1:Int)),())
def eE(a:Zv):Oa Int:=
 (kx a).bind λc=>
 let b:=(!c.1)||((a.2.1:Int)==(0:Int))
 Zh ((b=C->(0<=(0:Int)/\(0:Int)<a.2.1)))<|
 bif b||((a.2.1.getD (0:Int).toNat Qt).1 !=a.1)then
  A (0,())
 else
  Zh (0<=(0:Int)/\(0:Int)<a.2.1)<|
  A ((a.2.1.getD (0:Int).toNat Qt).2.1,())
def Kr(a:Zu)(b:Bool):Oa Bool:=cond b (A (((a.2.2.1 !=(-1:Int))&&(a.2.2.2.1==a.2.2.1))&&((a.2.1.2.1:Int)==(0:Int)),())) (A (C,()))
def Yt(a:Zu):Oa Bool:=
 (kx a.2.1).bind λb=>
 (gH (!b.1) (Q9 a.2.2.2.1)).bind λd=>
 (cond ((!b.1)||(!d.1)) (A (0,())) (wv a.2.1)).bind λf=>
 let e:=((!b.1)||(!d.1))||(B (f.1>a.2.2.2.1))
 (gH e (Q9 a.2.2.2.2.1)).bind λg=>
 bif(((e||(!g.1))||((a.2.2.1 !=(-1:Int))&&(B (a.2.2.1<a.2.2.2.1))))||(B (a.2.2.1>4611686018427387903)))||(B (a.2.2.1<(-1:Int)))then
  A (C,())
 else
  (cond (a.2.2.1 !=(-1:Int)) (eE a.2.1) (A (0,()))).bind λh=>
  let c:=(a.2.2.1 !=(-1:Int))&&((E.wrap (a.2.1.1+h.1))==a.2.2.1)
  bif a.1==0 then
   A ((a.2.2.1==(-1:Int))&&(a.2.2.2.2.1==0),())
  else
   bif a.1==1 then
    A (((a.2.2.1 !=(-1:Int))&&(!c))&&(a.2.2.2.2.1==0),())
   else
    bif a.1==2 then
     A (c&&(a.2.2.2.2.1==0),())
    else
     bif a.1==3 then
      A ((c&&((a.2.1.2.1:Int)==(0:Int)))&&(a.2.2.2.2.1==0),())
     else
      bif a.1==4 then
       Kr a (a.1==4)
      else
       Kr a (a.1==5)
def bX(a:Ql):Oa Bool:=
 (Z9 a.2.1 1 4096).bind λb=>
 (cond b.1 (Z9 a.1 1 a.2.1) (A (C,()))).bind λc=>
 (cond (b.1&&c.1) (Z9 a.2.2.1 1 4611686018427387903) (A (C,()))).bind λd=>
 (cond ((b.1&&c.1)&&d.1) (Z9 a.2.2.2.1 0 a.2.2.1) (A (C,()))).bind λg=>
 let e:=((b.1&&c.1)&&d.1)&&g.1
 (cond e (Z9 a.2.2.2.2.1 0 a.2.2.2.1) (A (C,()))).bind λh=>
 let f:=(e&&h.1)&&(B (a.2.2.1<=(E.wrap (a.2.2.2.2.1+a.1))))
 (cond f (Z9 a.2.2.2.2.2.1 0 1000000) (A (C,()))).bind λi=>
 A (f&&i.1,())
def cg(a:Q7):Oa Bool:=(Z9 a.1 0 7).bind λb=>A (b.1,())
def g9(a:Zf):Oa Bool:=
 (Q9 a.1).bind λb=>
 (gH (!b.1) (K9 a.2.1)).bind λe=>
 (gH ((!b.1)||(!e.1)) (Vu a.2.2.1)).bind λh=>
 let c:=((!b.1)||(!e.1))||(!h.1)
 (gH c (Yt a.2.2.2.1)).bind λf=>
 (gH (c||(!f.1)) (bX a.2.2.2.2.1)).bind λi=>
 let d:=(c||(!f.1))||(!i.1)
 (gH d (cg a.2.2.2.2.2.1)).bind λg=>
 (gH (d||(!g.1)) (Q9 a.2.2.2.2.2.2.2.2.2.2.2.2.1)).bind λj=>
 bif((d||(!g.1))||(!j.1))||((!a.2.2.2.2.2.2.1)&&(!a.2.2.2.2.2.2.2.1))then
  A (C,())
 else
  bif((((B (a.2.1.2.2.2.2.2.2.2.1>a.2.2.1.2.1))||(B (a.2.2.2.1.2.2.2.1>a.2.2.2.2.1.2.2.2.1)))||(a.2.2.2.2.2.2.2.2.1&&(a.2.1.1 !=4)))||(a.2.2.2.2.2.2.2.2.2.1&&(!a.2.2.2.2.2.2.2.2.2.2.2.1)))||((a.2.2.2.2.2.2.2.2.2.2.2.2.1 !=0)&&(!a.2.2.2.2.2.2.2.2.2.2.2.1))then
   A (C,())
  else
   A ((a.2.2.2.2.2.2.1||(((a.2.1.1==0)&&(a.2.1.2.1.2.2.1==0))&&(a.2.1.2.2.2.2.2.1==(-1:Int))))&&(a.2.2.2.2.2.2.2.1||(((a.2.2.2.1.1==0)&&(a.2.2.2.1.2.2.2.1==0))&&(!a.2.2.2.2.2.2.2.2.2.2.2.1))),())
def cX(a:List Zf)(b:Int):Nat:=(a-b).toNat+1
def Jh:Nat->List Zf->Int->Oa Bool|0,_,_=>G|N+1,b,a=>cond (B (a<(b:Int))) (Zh (0<=a/\a<b)<|(g9 (b.getD a.toNat Zc)).bind λc=>Zh (((!c.1)=C->((B (a>(0:Int)))=F->(0<=a/\a<b))))<|Zh (((!c.1)=C->((B (a>(0:Int)))=F->(0<=(E.wrap (a-1))/\(E.wrap (a-1))<b))))<|cond ((!c.1)||((B (a>(0:Int)))&&(B ((b.getD a.toNat Zc).1<=(b.getD (E.wrap (a-1)).toNat Zc).1)))) (A (C,())) (Jh N b (E.wrap (a+1)))) (A (B ((b:Int)<=(24:Int)),()))
def Vj(a:List Zf):Oa Bool:=Jh (cX a (0:Int)) a (0:Int)
def g7(a:dn):Oa Bool:=(Z9 a.1 0 1152921504606846976).bind λb=>(cond b.1 (Z9 a.2.1 0 a.1) (A (C,()))).bind λc=>(cond (b.1&&c.1) (Z9 a.2.2.1 (-1:Int) a.1) (A (C,()))).bind λd=>A ((b.1&&c.1)&&d.1,())
def bk(a:Qu):Oa Bool:=(Z9 a.1 0 1000).bind λb=>(cond b.1 (Z9 a.2.1 a.1 1152921504606846976) (A (C,()))).bind λc=>(cond (b.1&&c.1) (Z9 a.2.2.1 0 a.2.1) (A (C,()))).bind λd=>(cond ((b.1&&c.1)&&d.1) (Z9 a.2.2.2.1 0 a.2.2.1) (A (C,()))).bind λe=>A ((((b.1&&c.1)&&d.1)&&e.1)&&(B (a.2.1<=(E.wrap (a.2.2.2.1+a.1)))),())
def Wm(a:List Zj)(b:Int):Nat:=(a-b).toNat+1
def ax:Nat->List Zj->Int->Oa Bool|0,_,_=>G|N+1,b,a=>cond (B (a<(b:Int))) (Zh (0<=a/\a<b)<|(bm (b.getD a.toNat Qc)).bind λc=>cond (!c.1) (A (C,())) (ax N b (E.wrap (a+1)))) (A (F,()))
def iG(a:List Zj):Oa Bool:=ax (Wm a (0:Int)) a (0:Int)
def J0(a:List Zf)(c b:Int):Nat:=(a-b).toNat+1
def Vy:Nat->List Zf->Int->Int->Oa Int|0,_,_,_=>G|N+1,a,c,b=>(cond (B (b<(a:Int))) (Vj a) (A (C,()))).bind λd=>cond ((B (b<(a:Int)))&&d.1) (Zh (0<=b/\b<a)<|Vy N a (min (E.wrap (c+(a.getD b.toNat Zc).2.1.2.2.2.2.2.2.2.1)) (4611686018427387904:Int)) (E.wrap (b+1))) (A (c,()))
def iC(a:List Zf):Oa Int:=Vy (J0 a (0:Int) (0:Int)) a (0:Int) (0:Int)
def Jz(a:List Zf)(c b:Int):Nat:=(a-b).toNat+1
def Vx:Nat->List Zf->Int->Int->Oa Int|0,_,_,_=>G|N+1,a,c,b=>(cond (B (b<(a:Int))) (Vj a) (A (C,()))).bind λd=>cond ((B (b<(a:Int)))&&d.1) (Zh (0<=b/\b<a)<|Vx N a (min (E.wrap (c+(a.getD b.toNat Zc).2.2.2.1.2.2.2.1)) (4611686018427387904:Int)) (E.wrap (b+1))) (A (c,()))
def iB(a:List Zf):Oa Int:=Vx (Jz a (0:Int) (0:Int)) a (0:Int) (0:Int)
def aa(a:Ze)(b:Int):Nat:=(a.2.2.2.2.2.2.2.2.2.2.2.2.2.2.2.1-b).toNat+1
def dL:Nat->Ze->Int->Oa Bool
 |0,_,_=>G
 |N+1,a,b=>
  bif B (b<(a.2.2.2.2.2.2.2.2.2.2.2.2.2.2.2.1:Int))then
   Zh (0<=b/\b<a.2.2.2.2.2.2.2.2.2.2.2.2.2.2.2.1)<|
   (Z9 (a.2.2.2.2.2.2.2.2.2.2.2.2.2.2.2.1.getD b.toNat Q1).1 (0:Int) (E.wrap (a.2.2.2.2.2.2.2.2.2.2.2.2.2.2.1-1))).bind λd=>
   Zh (((!d.1)=C->((B (b>(0:Int)))=F->(0<=b/\b<a.2.2.2.2.2.2.2.2.2.2.2.2.2.2.2.1))))<|
   Zh (((!d.1)=C->((B (b>(0:Int)))=F->(0<=(E.wrap (b-1))/\(E.wrap (b-1))<a.2.2.2.2.2.2.2.2.2.2.2.2.2.2.2.1))))<|
   let e:Bool:=(!d.1)||((B (b>(0:Int)))&&(B ((a.2.2.2.2.2.2.2.2.2.2.2.2.2.2.2.1.getD b.toNat Q1).1<=(a.2.2.2.2.2.2.2.2.2.2.2.2.2.2.2.1.getD (E.wrap (b-1)).toNat Q1).1)))
   Zh ((e=C->(0<=b/\b<a.2.2.2.2.2.2.2.2.2.2.2.2.2.2.2.1)))<|
   (cond e (A (C,())) (iG (a.2.2.2.2.2.2.2.2.2.2.2.2.2.2.2.1.getD b.toNat Q1).2.1)).bind λj=>
   bif e||(!j.1)then
    A (C,())
   else
    dL N a (E.wrap (b+1))
  else
   (Z9 a.2.2.2.2.2.2.2.2.2.2.2.2.2.1 (-1:Int) (4611686018427387903:Int)).bind λc=>
   (cond c.1 (Z9 a.2.2.2.2.2.2.2.2.2.2.2.2.2.2.1 (0:Int) (1000000:Int)) (A (C,()))).bind λf=>
   (cond (c.1&&f.1) (Z9 a.2.2.2.2.2.2.2.2.2.2.2.2.2.2.2.2.1 (0:Int) (1000000:Int)) (A (C,()))).bind λh=>
   (cond ((c.1&&f.1)&&h.1) (Z9 a.2.2.2.2.2.2.2.2.2.2.2.2.2.2.2.2.2.1 (0:Int) (255:Int)) (A (C,()))).bind λk=>
   let g:Bool:=((c.1&&f.1)&&h.1)&&k.1
   (cond g (iC a.2.2.2.1) (A ((0:Int),()))).bind λi=>
   (cond (g&&(B (i.1<=a.2.2.2.2.1.2.1))) (iB a.2.2.2.1) (A ((0:Int),()))).bind λl=>
   A ((g&&(B (i.1<=a.2.2.2.2.1.2.1)))&&(B (l.1<=a.2.2.2.2.2.1.2.2.2.1)),())
def Jn(a:Ze):Oa Bool:=
 (aO a.2.1).bind λb=>
 (gH (!b.1) (aO a.2.2.1)).bind λf=>
 (gH ((!b.1)||(!f.1)) (Vj a.2.2.2.1)).bind λj=>
 let c:=((!b.1)||(!f.1))||(!j.1)
 (gH c (Vu a.2.2.2.2.1)).bind λg=>
 (gH (c||(!g.1)) (bX a.2.2.2.2.2.1)).bind λk=>
 let d:=(c||(!g.1))||(!k.1)
 (gH d (g7 a.2.2.2.2.2.2.1)).bind λh=>
 (gH (d||(!h.1)) (g7 a.2.2.2.2.2.2.2.1)).bind λl=>
 let e:=(d||(!h.1))||(!l.1)
 (gH e (bk a.2.2.2.2.2.2.2.2.1)).bind λi=>
 (gH (e||(!i.1)) (bk a.2.2.2.2.2.2.2.2.2.1)).bind λm=>
 bif(e||(!i.1))||(!m.1)then
  A (C,())
 else
  dL (aa a (0:Int)) a (0:Int)
def lQ(a:Int):Oa Ba:=
 (Z9 a 1 12).bind λc=>
 bif !c.1 then
  A ([],())
 else
  let b:=[([111,112,101,110]:Ba),([119,114,105,116,101]:Ba),([102,105,110,105,115,104]:Ba),([114,101,97,100]:Ba),([114,101,115,101,116]:Ba),([115,116,111,112]:Ba),([112,114,105,111,114,105,116,121]:Ba),([101,109,105,116]:Ba),([97,99,107]:Ba),([108,111,115,101]:Ba),([112,97,121,108,111,97,100]:Ba),([116,105,109,101]:Ba)]
  Zh (0<=(E.wrap (a-1))/\(E.wrap (a-1))<b)<|
  A (b.getD (E.wrap (a-1)).toNat [],())
def qm(a:Ba)(b:Int):Nat:=(a-b).toNat+1
def f6:Nat->Ba->Int->Oa Bool
 |0,_,_=>G
 |N+1,b,a=>
  bif B (a<(b:Int))then
   Zh (0<=a/\a<b)<|
   let c:Bool:=B (((b.getD a.toNat 0).toNat:Int)<(97:Int))
   Zh ((c=C->(0<=a/\a<b)))<|
   bif c||(B (((b.getD a.toNat 0).toNat:Int)>(122:Int)))then
    A (C,())
   else
    f6 N b (E.wrap (a+1))
  else
   (Z9 b (1:Int) (40:Int)).bind λd=>
   A (d.1,())
def zt(a:Ba):Oa Bool:=f6 (qm a (0:Int)) a (0:Int)
def mw(a:Ba)(b:Int):Nat:=(a-b).toNat+1
def dg:Nat->Ba->Int->Oa Bool
 |0,_,_=>G
 |N+1,b,a=>
  bif B (a<(b:Int))then
   Zh (0<=a/\a<b)<|
   let c:Bool:=B (((b.getD a.toNat 0).toNat:Int)<(32:Int))
   Zh ((c=C->(0<=a/\a<b)))<|
   bif c||(B (((b.getD a.toNat 0).toNat:Int)>(126:Int)))then
    A (C,())
   else
    dg N b (E.wrap (a+1))
  else
   (Z9 b (1:Int) (40:Int)).bind λd=>
   A (d.1,())
def uX(a:Ba):Oa Bool:=dg (mw a (0:Int)) a (0:Int)
def rX(b a:Int):Nat:=((16:Int)-a).toNat+1
def bM:Nat->Int->Int->Oa Int|0,_,_=>G|N+1,b,a=>cond (B (a<(16:Int))) ((nM a).bind λc=>cond (c.1==b) (A (a,())) (bM N b (E.wrap (a+1)))) (A ((-1:Int),()))
def wz(a:Int):Oa Int:=bM (rX a (0:Int)) a (0:Int)
def ko(a:Ba)(c:List Int)(b:Int):Nat:=(a-b).toNat+1
def bJ:Nat->Ba->List Int->Int->Oc Ba Bool
 |0,_,_,_=>G
 |N+1,b,c,a=>
  bif B (a<(b:Int))then
   Zh (0<=a/\a<b)<|
   (wz ((b.getD a.toNat 0).toNat:Int)).bind λd=>
   Zh (0<=(E.wrap (a+1))/\(E.wrap (a+1))<b)<|
   (wz ((b.getD (E.wrap (a+1)).toNat 0).toNat:Int)).bind λe=>
   bif(B (d.1<(0:Int)))||(B (e.1<(0:Int)))then
    A (([]:Ba),C,())
   else
    let f:List Int:=[(K.wrap (E.wrap ((E.wrap ((16:Int)*d.1))+e.1)))]
    Zh (c+f<=Qp)<|
    bJ N b (c++f) (E.wrap (a+2))
  else
   A (Xx c,F,())
def lM(a:Ba):Oc Ba Bool:=Zh ((2:Int)≠0)<|cond ((H a (2:Int))==1) (A ([],C,())) (bJ (ko a ([]:List Int) (0:Int)) a ([]:List Int) (0:Int))
def rR(a:Yk):Oa Bool:=
 (lQ a.1).bind λd=>
 (cond (d.1==[]) (A (KK,())) (YF a)).bind λf=>
 let b:=(d.1==[])||(!(eqV Jp f.1 a))
 (gH b (Z9 a.2.1 0 999999)).bind λe=>
 (gH (b||(!e.1)) (Z9 a.2.2.1 0 999999)).bind λg=>
 bif(b||(!e.1))||(!g.1)then
  A (C,())
 else
  bif a.1==1 then
   A ((a.2.2.2.1==([98,105,100,105]:Ba))||(a.2.2.2.1==([117,110,105]:Ba)),())
  else
   bif a.1==2 then
    (zt a.2.2.2.1).bind λh=>
    A (h.1,())
   else
    bif a.1==7 then
     (uX a.2.2.2.1).bind λi=>
     A (i.1,())
    else
     bif a.1==11 then
      (lM a.2.2.2.1).bind λc=>
      (cond c.2.1 (Z9 c.1 1 400) (A (C,()))).bind λj=>
      A (c.2.1&&j.1,())
     else
      A (F,())
def gz(a:Ze):Oa Bool:=A (a.2.2.2.2.2.2.2.2.2.2.2.2.2.2.2.2.2.1 !=0,())
def J2(a:Ze):Oa Bool:=(Jn a).bind λb=>(cond b.1 (gz a) (A (C,()))).bind λc=>A (b.1&&(!c.1),())
def yG(a:dn):Od Int dn Bool:=(g7 a).bind λb=>cond (!b.1) (A ((-1:Int),a,C,())) (cond (a.2.1==a.1) (A ((-1:Int),(a.1,a.2.1,a.1,a.2.2.2),C,())) (A (a.2.1,(a.1,E.wrap (a.2.1+1),a.2.2),F,())))
def wx(b:Bool)(a:Int):Oa Int:=cond b (A (E.wrap (a+2),())) (A (a,()))
def ZK(a:Int)(d b:Bool):Oa Int:=
 (Z9 a 0 1152921504606846975).bind λe=>
 bif !e.1 then
  A ((-1:Int),())
 else
  Zh (0<=(2:Int))<|
  let c:=E.wrap (a*2^ (min (2:Int).toNat E.bits))
  bif d then
   wx b (E.wrap (c+1))
  else
   wx b c
def V7:Oa Q7:=A ((3,C,()),())
def qb:Oa Zu:=A ((0,(0,[],()),(-1:Int),0,0,()),())
def av(a:Int):Oa Bool:=(Q9 a).bind λb=>A (b.1&&((bits .and .i64 a 2)==2),())
def mO(a:Int):Oa Bool:=(Q9 a).bind λb=>A (b.1&&((bits .and .i64 a 1)==1),())
def fS(c:Bool)(a:Int):Oa Bool:=(Q9 a).bind λb=>(cond b.1 (mO a) (A (C,()))).bind λd=>A (b.1&&(d.1==c),())
def Jy(d:Bool)(a:Int):Oa Bool:=(Q9 a).bind λb=>(cond b.1 (av a) (A (C,()))).bind λc=>(cond (!c.1) (A (C,())) (cond b.1 (fS d a) (A (C,())))).bind λe=>A (b.1&&((!c.1)||e.1),())
def Ym(d:Bool)(a:Int):Oa Bool:=(Q9 a).bind λb=>(cond b.1 (av a) (A (C,()))).bind λc=>(cond (!c.1) (A (C,())) (cond b.1 (fS d a) (A (C,())))).bind λe=>A (b.1&&((!c.1)||(!e.1)),())
def XZ(a:Int):Oc Q2 Bool:=(bp a).bind λb=>cond (!b.1) (A (Zfw,C,())) (Zh (0<=a/\a<=a/\a<=Qp)<|some ((a,0,0,I a.toNat 0,()),F,()))
def dO(b:Int):Oc Zk Bool:=(XZ b).bind λa=>cond (!a.2.1) (A (Yw,C,())) (A ((0,a.1,[],[],[],(-1:Int),qq),F,()))
def Vq(d:Bool)(a:Int)(b e:ks):Oc Zf Bool:=(Q9 a).bind λc=>(gH (!c.1) (aO b)).bind λf=>(gH ((!c.1)||(!f.1)) (aO e)).bind λg=>cond (((!c.1)||(!f.1))||(!g.1)) (A (Zc,C,())) (J V7 λh=>J qb λi=>(Jy d a).bind λj=>(Ym d a).bind λk=>(dO b.1).bind λl=>(aS e.2.1).bind λm=>(aT b.2.1 b.2.2.1).bind λn=>A ((a,l.1,m.1,i.1,n.1,h.1,j.1,k.1,C,C,C,C,0,C,()),F,()))
def Jm(a:List Zf)(c b:Int):Nat:=(a-b).toNat+1
def Kp:Nat->List Zf->Int->Int->Oa Int|0,_,_,_=>G|N+1,b,c,a=>cond (B (a<(b:Int))) (Zh (0<=a/\a<b)<|cond ((b.getD a.toNat Zc).1==c) (A (a,())) (Kp N b c (E.wrap (a+1)))) (A ((-1:Int),()))
def Ko(a:List Zf)(b:Int):Oa Int:=Kp (Jm a b (0:Int)) a b (0:Int)
def Kk(K1:(List Zf×Zf×List Zf×Int×Bool×Int×Unit)->Oa (List Zf))(c:List Zf)(d:Zf)(a:List Zf)(e:Int)(f:Bool)(g:Int)(b:Zf):Oa (List Zf):=Zh (a+([b])<=Qp)<|K1 (c,d,a++([b]),e,f,E.wrap (g+1),())
def bo(a:List Zf)(b:Zf)(c:List Zf)(d:Int)(e:Bool)(i8:Int):Nat:=(a-i8).toNat+1
def Xz:Nat->List Zf->Zf->List Zf->Int->Bool->Int->Oa (List Zf)|0,_,_,_,_,_,_=>G|N+1,a,b,c,e,d,i8=>cond (B (i8<(a:Int))) (Zh (0<=i8/\i8<a)<|(dR (a.getD i8.toNat Zc)).bind λf=>cond (i8==e) ((dR b).bind λi=>Kk (λv=>Xz N v.1 v.2.1 v.2.2.1 v.2.2.2.1 v.2.2.2.2.1 v.2.2.2.2.2.1) a b c e d i8 i.1) (Zh (((!d)=F->(0<=i8/\i8<a)))<|cond ((!d)&&(B ((a.getD i8.toNat Zc).1>b.1))) ((dR b).bind λg=>Zh (c+([g.1])<=Qp)<|Kk (λv=>Xz N v.1 v.2.1 v.2.2.1 v.2.2.2.1 v.2.2.2.2.1 v.2.2.2.2.2.1) a b (c++([g.1])) e F i8 f.1) (Kk (λv=>Xz N v.1 v.2.1 v.2.2.1 v.2.2.2.1 v.2.2.2.2.1 v.2.2.2.2.2.1) a b c e d i8 f.1))) (cond (!d) ((dR b).bind λh=>Zh (c+([h.1])<=Qp)<|some (c++([h.1]),())) (A (c,())))
def Q8(b:List Zf)(c:Zf):Oa (List Zf):=(Ko b c.1).bind λa=>Xz (bo b c ([]:List Zf) a.1 (B (a.1>=(0:Int))) (0:Int)) b c ([]:List Zf) a.1 (B (a.1>=(0:Int))) (0:Int)
def Wl(d:Bool)(b i a:Ze)(e:Int)(f:Bool):Od Int Ze Bool:=cond (!f) (A ((-1:Int),a,C,())) ((ZK e b.1 d).bind λc=>(Vq b.1 c.1 b.2.1 b.2.2.1).bind λg=>(Q8 a.2.2.2.1 g.1).bind λh=>A (c.1,(tD a h.1),F,()))
def fX(c:Bool)(d e a:Ze)(f:dn):Od Int Ze Bool:=(yG f).bind λb=>cond c (Wl c d e (tL a b.2.1) b.1 b.2.2.1) (Wl c d e (tF a b.2.1) b.1 b.2.2.1)
def mP(a:Ze)(b:Bool):Od Int Ze Bool:=(Qj a).bind λc=>(J2 a).bind λd=>cond ((!d.1)||(B ((a.2.2.2.1:Int)>=(24:Int)))) (A ((-1:Int),c.1,C,())) (cond b (fX b a X9 c.1 a.2.2.2.2.2.2.2.1) (fX b a X9 c.1 a.2.2.2.2.2.2.1))
def iZ(K1:(Int×Ba×Bool×Unit)->Oa Ba)(c:Int)(a:Ba)(d:Bool)(e:Int):Oa Ba:=
 let b:=Xx ([(K.wrap (E.wrap (48+e)))])
 Zh (b+a<=Jv)<|
 Zh ((10:Int)≠0)<|
 K1 (E.wrap (L c (10:Int)),b++a,d,())
def rN(a:Int)(b:Ba)(c:Bool):Nat:=1048577+(a.toNat-a.toNat)
def bK:Nat->Int->Ba->Bool->Oa Ba|0,_,_,_=>G|N+1,a,b,c=>cond (a !=0) (Zh ((10:Int)≠0)<|cond (B ((H a (10:Int))<0)) (iZ (λv=>bK N v.1 v.2.1 v.2.2.1) a b c (E.wrap (0- (H a (10:Int))))) (iZ (λv=>bK N v.1 v.2.1 v.2.2.1) a b c (H a (10:Int)))) (cond c (Zh (([45]:Ba)+b<=Jv)<|some (([45]:Ba)++b,())) (A (b,())))
def lR(a:Int):Oa Ba:=cond (a==0) (A (([48]:Ba),())) (bK (rN a ([]:Ba) (B (a<(0:Int)))) a ([]:Ba) (B (a<(0:Int))))
def Xt(b:Ze)(c:Int):Oc Zf Bool:=(Ko b.2.2.2.1 c).bind λa=>cond (B (a.1<0)) (A (Zc,C,())) (Zh (0<=a.1/\a.1<b.2.2.2.1)<|(dR (b.2.2.2.1.getD a.1.toNat Zc)).bind λd=>A (d.1,F,()))
def ZL(a:Q2):Oa Int:=(aP a).bind λb=>cond (!b.1) (A (0,())) (A (min (E.wrap (a.1- (E.wrap (a.2.2.1-a.2.1)))) (E.wrap (4611686018427387903-a.2.2.1)),()))
def kp(b:Ba)(c d e:Q2)(a i8:Int):Nat:=(a-i8).toNat+1
def J1:Nat->Ba->Q2->Q2->Q2->Int->Int->Oc Q2 Int
 |0,_,_,_,_,_,_=>G
 |N+1,d,b,f,a,c,i8=>
  bif B (i8<c)then
   Zh (b.1≠0)<|
   let e:Int:=H (E.wrap (b.2.2.1+i8)) b.1
   Zh (0<=i8/\i8<d)<|
   Zh (0<=e/\e<a.2.2.2.1)<|
   J1 N d b f (a.1,a.2.1,a.2.2.1,a.2.2.2.1.set e.toNat (E.wrap ((d.getD i8.toNat 0).toNat:Int)),a.2.2.2.2) c (E.wrap (i8+1))
  else
   A ((a.1,a.2.1,E.wrap (b.2.2.1+c),a.2.2.2),c,())
def iE(a:Q2)(b:Ba):Oc Q2 Int:=(ZN a).bind λc=>(ZL a).bind λd=>J1 (kp b a Zfw c.1 (min d.1 b) (0:Int)) b a Zfw c.1 (min d.1 b) (0:Int)
def kb(d a:Zk)(b:Q2)(c:Int):Oc Zk Int:=A ((a.1,b,a.2.2),c,())
def df(a:Zk)(d:Ba):Oc Zk Int:=(iJ a).bind λc=>(K9 a).bind λe=>cond (((!e.1)||(B (a.1>1)))||(a.2.2.2.2.2.1 !=(-1:Int))) (A (c.1,0,())) ((iE a.2.1 d).bind λb=>cond (B (b.2.1>0)) ((dx a.2.2.1 (a.2.1.2.2.1,b.1.2.2.1,())).bind λf=>kb Yw (tO c.1 f.1) b.1 b.2.1) (kb Yw c.1 b.1 b.2.1))
def kY(c:Ze)(e:Int)(f:Ba):Oc Int Ze:=(Qj c).bind λa=>(Xt c e).bind λb=>(J2 c).bind λg=>cond (((!g.1)||(!b.2.1))||(!b.1.2.2.2.2.2.2.1)) (A (0,a.1,())) ((df b.1.2.1 f).bind λd=>(Q8 a.1.2.2.2.1 (tT b.1 d.1)).bind λh=>A (d.2.1,(tD a.1 h.1),()))
def cY(b:Zk):Oc Zk Bool:=(iJ b).bind λa=>(K9 b).bind λc=>cond (((!c.1)||(B (b.1>1)))||(b.2.2.2.2.2.1 !=(-1:Int))) (A (a.1,C,())) (A ((a.1.1,a.1.2.1,a.1.2.2.1,a.1.2.2.2.1,a.1.2.2.2.2.1,b.2.1.2.2.1,1,a.1.2.2.2.2.2.2.2),F,()))
def iY(c:Ze)(e:Int):Oc Ze Bool:=(Qj c).bind λa=>(Xt c e).bind λb=>(J2 c).bind λf=>cond (((!f.1)||(!b.2.1))||(!b.1.2.2.2.2.2.2.1)) (A (a.1,C,())) ((cY b.1.2.1).bind λd=>cond (!d.2.1) (A (a.1,C,())) ((Q8 a.1.2.2.2.1 (tT b.1 d.1)).bind λg=>A ((tD a.1 g.1),F,())))
def iD(e:Zv)(b:Int):Oc Ba Zv:=
 (eE e).bind λc=>
 (ro e).bind λa=>
 bif(min c.1 (max b 0))==0 then
  A ([],a.1,())
 else
  Zh (0<=(0:Int)/\(0:Int)<a.1.2.1)<|
  let d:=E.wrap (a.1.1+(min c.1 (max b 0)))
  bif(min c.1 (max b 0))==(a.1.2.1.getD (0:Int).toNat Qt).2.1 then
   Zh (0<=(1:Int)/\1<=(a.1.2.1:Int)/\(a.1.2.1:Int)<=a.1.2.1)<|
   (ro (d,(a.1.2.1.drop (1:Int).toNat).take ((a.1.2.1:Int).toNat- (1:Int).toNat),a.1.2.2)).bind λf=>
   A ((a.1.2.1.getD (0:Int).toNat Qt).2.1,f.1,())
  else
   Zh (0<=(min c.1 (max b 0))/\(min c.1 (max b 0))<=(a.1.2.1.getD (0:Int).toNat Qt).2.1/\((a.1.2.1.getD (0:Int).toNat Qt).2.1:Int)<=(a.1.2.1.getD (0:Int).toNat Qt).2.1)<|
   Zh (0<=(0:Int)/\(0:Int)<a.1.2.1)<|
   Zh (0<=(0:Int)/\0<=(min c.1 (max b 0))/\(min c.1 (max b 0))<=(a.1.2.1.getD (0:Int).toNat Qt).2.1)<|
   A (((a.1.2.1.getD (0:Int).toNat Qt).2.1.drop (0:Int).toNat).take ((min c.1 (max b 0)).toNat- (0:Int).toNat),(d,a.1.2.1.set (0:Int).toNat (d,((a.1.2.1.getD (0:Int).toNat Qt).2.1.drop (min c.1 (max b 0)).toNat).take (((a.1.2.1.getD (0:Int).toNat Qt).2.1:Int).toNat- (min c.1 (max b 0)).toNat),()),a.1.2.2),())
def de(c a:Zu)(b:Ba):Option ((Ba×Zu×Unit)×(Unit)):=A ((b,a,()),())
def Vw(a:Zu)(d:Int):Option ((Ba×Zu×Unit)×(Unit)):=(nP a).bind λb=>(Yt a).bind λe=>cond (!e.1) (A (([],b.1,()),())) (cond (a.1==4) (A (([],(5,b.1.2),()),())) ((iD a.2.1 d).bind λc=>cond ((a.1==2)&&(c.2.1.1==a.2.2.1)) (de qr (3,c.2.1,b.1.2.2) c.1) (de qr (b.1.1,c.2.1,b.1.2.2) c.1)))
def lW(a:Ql)(b:Int):Oc Ql Bool:=(bX a).bind λc=>cond (((!c.1)||(B (b<0)))||(B (b>(E.wrap (a.2.2.2.1-a.2.2.2.2.1))))) (A (a,C,())) (A ((tG a (E.wrap (a.2.2.2.2.1+b))),F,()))
def nL(a:Ze)(b:Zf)(d:Int):Option ((Unit)×(Ze×Zf×Unit)):=
 let c:=max 0 (E.wrap (d-b.2.2.2.2.1.2.2.2.2.1))
 (lW b.2.2.2.2.1 c).bind λe=>
 (lW a.2.2.2.2.2.1 c).bind λf=>
 A ((),(a.1,a.2.1,a.2.2.1,a.2.2.2.1,a.2.2.2.2.1,f.1,a.2.2.2.2.2.2),(b.1,b.2.1,b.2.2.1,b.2.2.2.1,e.1,b.2.2.2.2.2),())
def td(a:Zf):Oa Bool:=A (((!a.2.2.2.2.2.2.1)||(a.2.1.1==3))||(a.2.1.1==5),())
def mM(a:Zu):Oa Bool:=(Yt a).bind λb=>A (b.1&&((a.1==3)||(a.1==5)),())
def mN(a:Zf):Oa Bool:=(gH (!a.2.2.2.2.2.2.2.1) (mM a.2.2.2.1)).bind λb=>A ((!a.2.2.2.2.2.2.2.1)||b.1,())
def rg(a:Zf):Oa Bool:=(g9 a).bind λb=>(cond b.1 (td a) (A (C,()))).bind λc=>(cond (b.1&&c.1) (mN a) (A (C,()))).bind λd=>A ((b.1&&c.1)&&d.1,())
def gv(a:Qu):Oc Qu Bool:=(bk a).bind λb=>cond ((!b.1)||(a.2.2.2.1==a.2.2.1)) (A (a,C,())) (A ((tD a (E.wrap (a.2.2.2.1+1))),F,()))
def YD(b:Ze)(a:Zf):Option ((Unit)×(Ze×Zf×Unit)):=(gH a.2.2.2.2.2.2.2.2.2.2.2.2.2.1 (fS b.1 a.1)).bind λc=>(gH (a.2.2.2.2.2.2.2.2.2.2.2.2.2.1||c.1) (rg a)).bind λd=>cond ((a.2.2.2.2.2.2.2.2.2.2.2.2.2.1||c.1)||(!d.1)) (A ((),b,a,())) ((av a.1).bind λe=>cond e.1 ((gv b.2.2.2.2.2.2.2.2.2.1).bind λf=>A ((),(tB b f.1),(tA a F),())) ((gv b.2.2.2.2.2.2.2.2.1).bind λg=>A ((),(tC b g.1),(tA a F),())))
def Vh(b:Ze)(c:Zf):Option ((Unit)×(Ze×Unit)):=(YD b c).bind λa=>(Q8 a.2.1.2.2.2.1 a.2.2.1).bind λd=>A ((),(a.2.1.1,a.2.1.2.1,a.2.1.2.2.1,d.1,a.2.1.2.2.2.2),())
def fY(f b:Ze)(c:Zf)(d:Ba)(a:Zu):Option ((Ba×Bool×Ze×Unit)×(Unit)):=(Vh b c).bind λe=>A ((d,(a.1==3)||(a.1==5),e.2.1,()),())
def mQ(c:Ze)(f g:Int):Option ((Ba×Bool×Ze×Unit)×(Unit)):=(Qj c).bind λd=>(Xt c f).bind λa=>(J2 c).bind λh=>cond (((!h.1)||(!a.2.1))||(!a.1.2.2.2.2.2.2.2.1)) (A (([],C,d.1,()),())) ((Vw a.1.2.2.2.1 g).bind λb=>cond (B (b.1.2.1.1<4)) ((nL d.1 (tD a.1 b.1.2.1) b.1.2.1.2.1.1).bind λe=>fY X9 e.2.1 e.2.2.1 b.1.1 b.1.2.1) (fY X9 d.1 (tD a.1 b.1.2.1) b.1.1 b.1.2.1))
def oN(b:Int)(a d:Zk)(c:Q2):Oc Zk Bool:=A ((4,c,[],[],[],a.2.2.2.2.2.2.2.1,0,a.2.2.2.2.2.2.2.1,b,()),F,())
def Ju(a:Zk)(b:Int):Oc Zk Bool:=
 (K9 a).bind λd=>
 let c:=(!d.1)||(B (a.1>2))
 (gH c (Q9 b)).bind λe=>
 bif c||(!e.1)then
  (iJ a).bind λf=>
  A (f.1,C,())
 else
  qu (
   Zh (0<=a.2.1.1/\a.2.1.1<=a.2.1.1/\a.2.1.1<=Qp)<|
   dr 1 (
    oN b a Yw (a.2.1.1,a.2.2.2.2.2.2.2.1,a.2.2.2.2.2.2.2.1,I a.2.1.1.toNat 0,())
   )
  ) (
   Zh (0<=a.2.1.1/\a.2.1.1<=a.2.1.1/\a.2.1.1<=Qp)<|
   oN b a Yw (a.2.1.1,a.2.2.2.2.2.2.2.1,a.2.2.2.2.2.2.2.1,I a.2.1.1.toNat 0,())
  )
def kW(b:Ze)(e f:Int):Option ((Ze×Bool×Unit)×(Unit)):=(Qj b).bind λc=>(Xt b e).bind λa=>(J2 b).bind λg=>cond (((!g.1)||(!a.2.1))||(!a.1.2.2.2.2.2.2.1)) (A ((c.1,C,()),())) ((Ju a.1.2.1 f).bind λd=>cond (!d.2.1) (A ((c.1,C,()),())) (J (Vh c.1 (tV a.1 d.1 F)) λh=>A ((h.2.1,F,()),())))
def mR(c:Ze)(f d:Int):Oc Ze Bool:=
 (Qj c).bind λb=>
 (Xt c f).bind λa=>
 (J2 c).bind λg=>
 let e:=((((!g.1)||(!a.2.1))||(!a.1.2.2.2.2.2.2.2.1))||a.1.2.2.2.2.2.2.2.2.2.2.2.1)||(B (a.1.2.2.2.1.1>1))
 (gH e (Q9 d)).bind λh=>
 bif e||(!h.1)then
  A (b.1,C,())
 else
  J (Q8 b.1.2.2.2.1 (a.1.1,a.1.2.1,a.1.2.2.1,a.1.2.2.2.1,a.1.2.2.2.2.1,a.1.2.2.2.2.2.1,a.1.2.2.2.2.2.2.1,a.1.2.2.2.2.2.2.2.1,a.1.2.2.2.2.2.2.2.2.1,F,a.1.2.2.2.2.2.2.2.2.2.2.1,F,d,a.1.2.2.2.2.2.2.2.2.2.2.2.2.2)) λi=>
  A ((tD b.1 i.1),F,())
def lY(K1:(Ba×Int×List Ba×Ba×Int×Unit)->Oa (List Ba))(a:Ba)(b:Int)(c:List Ba)(d:Ba)(e:Int):Oa (List Ba):=K1 (a,b,c,d,E.wrap (e+1),())
def oO(a:Ba)(c:Int)(d:List Ba)(e:Ba)(b:Int):Nat:=(a-b).toNat+1
def dQ:Nat->Ba->Int->List Ba->Ba->Int->Oa (List Ba)
 |0,_,_,_,_,_=>G
 |N+1,b,e,d,c,a=>
  bif B (a<(b:Int))then
   Zh (0<=a/\a<b)<|
   bif((b.getD a.toNat 0).toNat:Int)==e then
    Zh (d+([c])<=Qp)<|
    lY (λv=>dQ N v.1 v.2.1 v.2.2.1 v.2.2.2.1 v.2.2.2.2.1) b e (d++([c])) ([]:Ba) a
   else
    Zh (0<=a/\a<=(E.wrap (a+1))/\(E.wrap (a+1))<=b)<|
    let f:Ba:=(b.drop a.toNat).take ((E.wrap (a+1)).toNat-a.toNat)
    Zh (c+f<=Jv)<|
    lY (λv=>dQ N v.1 v.2.1 v.2.2.1 v.2.2.2.1 v.2.2.2.2.1) b e d (c++f) a
  else
   Zh (d+([c])<=Qp)<|
   A (d++([c]),())
def ZM(a:Ba)(b:Int):Oa (List Ba):=dQ (oO a b ([]:List Ba) ([]:Ba) (0:Int)) a b ([]:List Ba) ([]:Ba) (0:Int)
def iF(a:Ba):Nat:=((a:Int)- (0:Int)).toNat+1
def jo:Nat->Ba->Oa Ba
 |0,_=>G
 |N+1,a=>
  let b:Int:=E.wrap ((a:Int)- (1:Int))
  Zh (((B ((a:Int)>(0:Int)))=F->(0<=b/\b<a)))<|
  bif(B ((a:Int)>(0:Int)))&&(((a.getD b.toNat 0).toNat:Int)==(32:Int))then
   let c:Int:=E.wrap ((a:Int)- (1:Int))
   Zh (0<=(0:Int)/\(0:Int)<=c/\c<=a)<|
   jo N ((a.drop (0:Int).toNat).take (c.toNat- (0:Int).toNat))
  else
   A (a,())
def nJ(a:Ba):Nat:=((a:Int)- (0:Int)).toNat+1
def eG:Nat->Ba->Oa Ba|0,_=>G|N+1,a=>Zh (((B ((a:Int)>(0:Int)))=F->(0<=(0:Int)/\(0:Int)<a)))<|cond ((B ((a:Int)>(0:Int)))&&(((a.getD (0:Int).toNat 0).toNat:Int)==(32:Int))) (Zh (0<=(1:Int)/\(1:Int)<=(a:Int)/\(a:Int)<=a)<|eG N ((a.drop (1:Int).toNat).take ((a:Int).toNat- (1:Int).toNat))) (jo (iF a) a)
def xM(a:Ba):Oa Ba:=eG (nJ a) a
def Jk(K1:(Q7×Q7×List Ba×Int×Unit)->Oa Q7)(a b:Q7)(c:List Ba)(d:Int):Oa Q7:=K1 (a,b,c,E.wrap (d+1),())
def lV(c d:Q7)(a:List Ba)(b:Int):Nat:=(a-b).toNat+1
def X6:Nat->Q7->Q7->List Ba->Int->Oa Q7
 |0,_,_,_,_=>G
 |N+1,c,e,d,b=>
  bif B (b<(d:Int))then
   Zh (0<=b/\b<d)<|
   (xM (d.getD b.toNat ([]:Ba))).bind λa=>
   bif(a.1==([105]:Ba))||(a.1==([105,61,63,49]:Ba))then
    Jk (λv=>X6 N v.1 v.2.1 v.2.2.1 v.2.2.2.1) (c.1,F,c.2.2) e d b
   else
    bif a.1==([105,61,63,48]:Ba)then
     Jk (λv=>X6 N v.1 v.2.1 v.2.2.1 v.2.2.2.1) (c.1,C,c.2.2) e d b
    else
     Zh ((((a.1:Int)==(3:Int))=F->(0<=(0:Int)/\(0:Int)<=(2:Int)/\(2:Int)<=a.1)))<|
     let f:Bool:=((a.1:Int)==(3:Int))&&(((a.1.drop (0:Int).toNat).take ((2:Int).toNat- (0:Int).toNat))==([117,61]:Ba))
     Zh ((f=F->(0<=(2:Int)/\(2:Int)<a.1)))<|
     let g:Bool:=f&&(B (((a.1.getD (2:Int).toNat 0).toNat:Int)>=(48:Int)))
     Zh ((g=F->(0<=(2:Int)/\(2:Int)<a.1)))<|
     bif g&&(B (((a.1.getD (2:Int).toNat 0).toNat:Int)<=(55:Int)))then
      Zh (0<=(2:Int)/\(2:Int)<a.1)<|
      Jk (λv=>X6 N v.1 v.2.1 v.2.2.1 v.2.2.2.1) (E.wrap (K.wrap (((a.1.getD (2:Int).toNat 0).toNat:Int)- (48:Int))),c.2) e d b
     else
      Jk (λv=>X6 N v.1 v.2.1 v.2.2.1 v.2.2.2.1) c e d b
  else
   A (c,())
def Vb(d:Ba)(a b:Q7):Oa Q7:=(ZM d 44).bind λc=>X6 (lV a b c.1 (0:Int)) a b c.1 (0:Int)
def aQ(a:Q7)(b:Ba):Oa Q7:=(cg a).bind λc=>cond (!c.1) (J V7 λd=>Vb b d.1 (0,C,())) (Vb b a (0,C,()))
def kX(c:Ze)(d:Int)(e:Ba):Oc Ze Bool:=(Qj c).bind λb=>(Xt c d).bind λa=>(J2 c).bind λf=>cond (((!f.1)||(!a.2.1))||(!a.1.2.2.2.2.2.2.1)) (A (b.1,C,())) ((aQ a.1.2.2.2.2.2.1 e).bind λg=>J (Q8 b.1.2.2.2.1 (tR a.1 g.1)) λh=>A ((tD b.1 h.1),F,()))
def dN(a:Ql):Oa Bool:=
 (bX a).bind λc=>
 let b:=c.1&&(B (a.2.2.1<4611686018427387903))
 Zh ((b=F->((2:Int)≠0)))<|
 A (b&&(B ((E.wrap ((E.wrap (a.2.2.2.2.1+a.1))-a.2.2.1))>=(E.wrap (L (E.wrap (a.1+1)) (2:Int))))),())
def oL(b:Int)(a c:Ql):Oc Ql Bool:=A ((a.1,a.2.1,min (E.wrap (a.2.2.2.2.1+a.1)) 4611686018427387903,a.2.2.2.1,a.2.2.2.2.1,b,a.2.2.2.2.2.2),F,())
def db(a:Ql)(b d:Int):Oc Ql Bool:=(dN a).bind λc=>(gH (!c.1) (Z9 b a.2.2.2.2.2.1 1000000)).bind λe=>(gH ((!c.1)||(!e.1)) (Z9 d 1 1000)).bind λf=>cond (((!c.1)||(!e.1))||(!f.1)) (A (a,C,())) (cond (B ((E.wrap (b-a.2.2.2.2.2.1))<(E.wrap (2*d)))) (oL b (min (E.wrap (2*a.1)) a.2.1,a.2) Zln) (oL b a Zln))
def ub(a:Ze):Oc Ql Bool:=(dN a.2.2.2.2.2.1).bind λc=>cond c.1 ((db a.2.2.2.2.2.1 a.2.2.2.2.2.2.2.2.2.2.2.2.2.2.2.2.1 a.2.1.2.2.2.2.2.2.2.1).bind λb=>A (b.1,b.2.1,())) (A (a.2.2.2.2.2.1,a.2.2.2.2.2.2.2.2.2.2.1,()))
def iA(a:Qu):Oa Bool:=(bk a).bind λb=>Zh ((b.1=F->((2:Int)≠0)))<|some ((b.1&&(B ((E.wrap ((E.wrap (a.2.2.2.1+a.1))-a.2.1))>=(E.wrap (L (E.wrap (a.1+1)) (2:Int))))))&&(B (a.1>0)),())
def jl(a:Qu):Oc Qu Bool:=(iA a).bind λb=>cond ((!b.1)||(B ((E.wrap (a.2.2.2.1+a.1))>1152921504606846976))) (A (a,C,())) (A ((a.1,E.wrap (a.2.2.2.1+a.1),a.2.2),F,()))
def hQ(a:Qu)(c:Bool):Oc Qu Bool:=(iA a).bind λd=>cond d.1 ((jl a).bind λb=>A (b.1,b.2.1,())) (A (a,c,()))
def qk(b:Ze)(a:Zf):Oc Ql Bool:=cond (((!a.2.2.2.2.2.2.2.1)||(a.2.2.2.1.1 !=0))||a.2.2.2.2.2.2.2.2.2.2.2.1) (A (a.2.2.2.2.1,C,())) ((dN a.2.2.2.2.1).bind λd=>cond d.1 ((db a.2.2.2.2.1 b.2.2.2.2.2.2.2.2.2.2.2.2.2.2.2.2.1 b.2.1.2.2.2.2.2.2.2.1).bind λc=>A (c.1,c.2.1,())) (A (a.2.2.2.2.1,a.2.2.2.2.2.2.2.2.2.2.1,())))
def yD(a:Qu):Oa Bool:=(Vu a).bind λb=>A (b.1&&(a.2.2.1==a.1),())
def nN(a:Zf)(b:List Zj):Oa (List Zj):=
 (yD a.2.2.1).bind λd=>
 bif(d.1&&a.2.2.2.2.2.2.1)&&(B ((a.2.1.2.2.1:Int)>(0:Int)))then
  let c:List Zj:=[(21,a.1,0,[],C,0,a.2.2.1.1,0,C,())]
  Zh (b+c<=Qp)<|
  A (b++c,())
 else
  A (b,())
def dV(e:Ze)(a:Zf)(b:List Zj):Oa (List Zj):=
 (qk e a).bind λc=>
 bif c.2.1 then
  let d:List Zj:=[(17,a.1,0,[],C,0,c.1.2.2.1,0,C,())]
  Zh (b+d<=Qp)<|
  nN a (b++d)
 else
  nN a b
def dU(c:Ze)(a:Zf)(b:List Zj):Oa (List Zj):=
 bif a.2.2.2.2.2.2.2.2.2.1&&(B (a.2.2.2.1.1<2))then
  let d:List Zj:=[(5,a.1,0,[],C,a.2.2.2.2.2.2.2.2.2.2.2.2.1,0,0,C,())]
  Zh (b+d<=Qp)<|
  dV c a (b++d)
 else
  dV c a b
def qi(b:Ze)(a:Zf):Oa (List Zj):=
 bif a.2.2.2.2.2.2.2.2.1 then
  let c:List Zj:=[(4,a.1,0,[],C,a.2.1.2.2.2.2.2.2.2.2.1,0,a.2.1.2.2.2.2.2.2.2.1,C,())]
  Zh (([]:List Zj)+c<=Qp)<|
  dU b a ([]++c)
 else
  dU b a []
def fA(a:Ze)(b:List Zj):Oa (List Zj):=
 bif a.2.2.2.2.2.2.2.1.2.2.1==a.2.2.2.2.2.2.2.1.1 then
  let c:List Zj:=[(22,0,0,[],C,0,a.2.2.2.2.2.2.2.1.1,0,F,())]
  Zh (b+c<=Qp)<|
  A (b++c,())
 else
  A (b,())
def fx(a:Ze)(b:List Zj):Oa (List Zj):=
 bif a.2.2.2.2.2.2.1.2.2.1==a.2.2.2.2.2.2.1.1 then
  let c:List Zj:=[(22,0,0,[],C,0,a.2.2.2.2.2.2.1.1,0,C,())]
  Zh (b+c<=Qp)<|
  fA a (b++c)
 else
  fA a b
def dI(a:Ze)(c:List Zj)(b:Int):Nat:=(a.2.2.2.1-b).toNat+1
def ak:Nat->Ze->List Zj->Int->Oa (List Zj)
 |0,_,_,_=>G
 |N+1,a,b,c=>
  bif B (c<(a.2.2.2.1:Int))then
   Zh (0<=c/\c<a.2.2.2.1)<|
   (qi a (a.2.2.2.1.getD c.toNat Zc)).bind λd=>
   Zh (b+d.1<=Qp)<|
   ak N a (b++d.1) (E.wrap (c+1))
  else
   (yD a.2.2.2.2.1).bind λf=>
   bif f.1 then
    let e:List Zj:=[((20:Int),(0:Int),(0:Int),([]:Ba),C,(0:Int),a.2.2.2.2.1.1,(0:Int),C,())]
    Zh (b+e<=Qp)<|
    fx a (b++e)
   else
    fx a b
def ai(a:Ze)(b:List Zj):Oa (List Zj):=ak (dI a b (0:Int)) a b (0:Int)
def ah(a:Ze)(b:List Zj):Oa (List Zj):=
 (hQ a.2.2.2.2.2.2.2.2.2.1 a.2.2.2.2.2.2.2.2.2.2.2.2.1).bind λc=>
 bif c.2.1 then
  let d:List Zj:=[(18,0,0,[],C,0,c.1.2.1,0,F,())]
  Zh (b+d<=Qp)<|
  ai a (b++d)
 else
  ai a b
def ag(a:Ze)(b:List Zj):Oa (List Zj):=
 (hQ a.2.2.2.2.2.2.2.2.1 a.2.2.2.2.2.2.2.2.2.2.2.1).bind λc=>
 bif c.2.1 then
  let d:List Zj:=[(18,0,0,[],C,0,c.1.2.1,0,C,())]
  Zh (b+d<=Qp)<|
  ah a (b++d)
 else
  ah a b
def fQ(a:Ze):Oa (List Zj):=
 (J2 a).bind λd=>
 bif !d.1 then
  A ([],())
 else
  (ub a).bind λb=>
  bif b.2.1 then
   let c:List Zj:=[(16,0,0,[],C,0,b.1.2.2.1,0,C,())]
   Zh (([]:List Zj)+c<=Qp)<|
   ag a ([]++c)
  else
   ag a []
def lS(a:Zj):Oa Int:=(Wx a).bind λb=>A (b.1,())
def iW(a:Qu):Oa Qu:=(Vu a).bind λb=>cond (b.1&&(a.2.2.1 !=(-1:Int))) (A ((a.1,a.2.1,(-1:Int),a.2.2.1,a.2.2.2.2),())) (A (a,()))
def Zag(d:Ze)(a:Zf)(b:Int):Option ((Zf×Unit)×(Unit)):=cond (b==4) (A (((tC a C),()),())) (cond (b==5) (A (((tB a C),()),())) (cond (b==17) ((qk d a).bind λc=>cond c.2.1 (A (((a.1,a.2.1,a.2.2.1,a.2.2.2.1,c.1,a.2.2.2.2.2.1,a.2.2.2.2.2.2.1,a.2.2.2.2.2.2.2.1,a.2.2.2.2.2.2.2.2.1,a.2.2.2.2.2.2.2.2.2.1,C,a.2.2.2.2.2.2.2.2.2.2.2),()),())) (A (((tE a C),()),()))) (cond (b==21) ((iW a.2.2.1).bind λe=>A (((tO a e.1),()),())) (A ((a,()),())))))
def xK(b:Ze)(c:Zj):Oa Ze:=(Qj b).bind λa=>(Jn b).bind λe=>cond (!e.1) (A (a.1,())) (cond (c.1==16) ((ub b).bind λf=>A ((tW a.1 f.1 C),())) (cond (c.1==18) (cond c.2.2.2.2.2.2.2.2.1 ((hQ b.2.2.2.2.2.2.2.2.2.1 C).bind λg=>A ((tS a.1 g.1 C),())) ((hQ b.2.2.2.2.2.2.2.2.1 C).bind λh=>A ((tU a.1 h.1 C),()))) (cond (c.1==20) ((iW b.2.2.2.2.1).bind λi=>A ((tG a.1 i.1),())) (cond (c.1==22) (cond c.2.2.2.2.2.2.2.2.1 (A ((tL a.1 (tO a.1.2.2.2.2.2.2.2.1 (-1:Int))),())) (A ((tF a.1 (tO a.1.2.2.2.2.2.2.1 (-1:Int))),()))) ((Xt b c.2.1).bind λd=>cond d.2.1 ((Zag b d.1 c.1).bind λj=>(Q8 a.1.2.2.2.1 j.1.1).bind λk=>A ((tD a.1 k.1),())) (A (a.1,())))))))
def rY(K1:(Ze×List Zo×Int×Unit)->Oa (List Zo))(a:Ze)(b:List Zo)(c:Int):Oa (List Zo):=K1 (a,b,E.wrap (c+1),())
def qj(a:Ze)(c:List Zo)(b:Int):Nat:=(a.2.2.2.1-b).toNat+1
def fZ:Nat->Ze->List Zo->Int->Oa (List Zo)
 |0,_,_,_=>G
 |N+1,b,c,a=>
  bif B (a<(b.2.2.2.1:Int))then
   gG b.2.2.2.1 a<|
   bif((gK b.2.2.2.1 a).2.2.2.2.2.2.1&&(B ((gK b.2.2.2.1 a).2.1.1<(3:Int))))&&((B (((gK b.2.2.2.1 a).2.1.2.2.1:Int)>(0:Int)))||((gK b.2.2.2.1 a).2.1.2.2.2.2.2.2.1==1))then
    let d:List Zo:=[((gK b.2.2.2.1 a).1,(gK b.2.2.2.1 a).2.2.2.2.2.1,())]
    Zh (c+d<=Qp)<|
    rY (λv=>fZ N v.1 v.2.1 v.2.2.1) b (c++d) a
   else
    rY (λv=>fZ N v.1 v.2.1 v.2.2.1) b c a
  else
   A (c,())
def zo(a:Ze):Oa (List Zo):=fZ (qj a ([]:List Zo) (0:Int)) a ([]:List Zo) (0:Int)
def f5(K1:(List Zo×Int×List Zo×Int×Unit)->Oa (List Zo))(a:List Zo)(b:Int)(c:List Zo)(d:Int):Oa (List Zo):=K1 (a,b,c,E.wrap (d+1),())
def je(a:List Zo)(c:Int)(d:List Zo)(b:Int):Nat:=(a-b).toNat+1
def Wn:Nat->List Zo->Int->List Zo->Int->Oa (List Zo)|0,_,_,_,_=>G|N+1,b,d,c,a=>cond (B (a<(b:Int))) (gG b a<|cond ((gM b a).1 !=d) (gG b a<|Zh (c+([(gM b a)])<=Qp)<|f5 (λv=>Wn N v.1 v.2.1 v.2.2.1 v.2.2.2.1) b d (c++([(gM b a)])) a) (f5 (λv=>Wn N v.1 v.2.1 v.2.2.1 v.2.2.2.1) b d c a)) (A (c,()))
def mS(a:List Zo)(b:Int):Oa (List Zo):=Wn (je a b ([]:List Zo) (0:Int)) a b ([]:List Zo) (0:Int)
def dG(a:List Zo)(b:Int):Nat:=(a-b).toNat+1
def bT:Nat->List Zo->Int->Oa Bool|0,_,_=>G|N+1,b,a=>cond (B (a<(b:Int))) (gG b a<|(Q9 (gM b a).1).bind λc=>Zh (((!c.1)=C->(0<=a/\a<b)))<|(gH (!c.1) (cg (gM b a).2.1)).bind λd=>Zh ((((!c.1)||(!d.1))=C->((B (a>(0:Int)))=F->(0<=a/\a<b))))<|Zh ((((!c.1)||(!d.1))=C->((B (a>(0:Int)))=F->(0<=(E.wrap (a-1))/\(E.wrap (a-1))<b))))<|cond (((!c.1)||(!d.1))||((B (a>(0:Int)))&&(B ((gM b a).1<=(b.getD (E.wrap (a-1)).toNat Qs).1)))) (A (C,())) (bT N b (E.wrap (a+1)))) (A (F,()))
def rK(a:List Zo):Oa Bool:=bT (dG a (0:Int)) a (0:Int)
def rS(K1:(List Zo×List Int×Int×Int×Unit)->Oa (List Int))(a:List Zo)(b:List Int)(c d:Int):Oa (List Int):=K1 (a,b,c,E.wrap (d+1),())
def rT(K1:(List Zo×List Int×Int×Int×Unit)->Oa (List Int))(b:List Zo)(c:List Int)(d a:Int):Oa (List Int):=gG b a<|cond ((gM b a).2.1.1==d) (gG b a<|Zh (c+([(gM b a).1])<=Qp)<|rS K1 b (c++([(gM b a).1])) d a) (rS K1 b c d a)
def da(a:List Zo)(c:List Int)(d b:Int):Nat:=(a-b).toNat+1
def aR:Nat->List Zo->List Int->Int->Int->Oa (List Int)|0,_,_,_,_=>G|N+1,b,c,d,a=>(cond (B (a<(b:Int))) (rK b) (A (C,()))).bind λe=>cond ((B (a<(b:Int)))&&e.1) (Zh (0<=a/\a<b)<|cond (B ((b.getD a.toNat Qs).2.1.1<d)) (Zh (0<=a/\a<b)<|rT (λv=>aR N v.1 v.2.1 v.2.2.1 v.2.2.2.1) b ([]:List Int) (b.getD a.toNat Qs).2.1.1 a) (rT (λv=>aR N v.1 v.2.1 v.2.2.1 v.2.2.2.1) b c d a)) (A (c,()))
def zk(a:List Zo):Oa (List Int):=aR (da a ([]:List Int) (8:Int) (0:Int)) a ([]:List Int) (8:Int) (0:Int)
def mh(a:List Int)(c b:Int):Nat:=(a-b).toNat+1
def kZ:Nat->List Int->Int->Int->Oa Int|0,_,_,_=>G|N+1,a,c,b=>cond (B (b<(a:Int))) (gG a b<|cond (B ((a.getD b.toNat (0:Int))>c)) (gG a b<|some (a.getD b.toNat (0:Int),())) (kZ N a c (E.wrap (b+1)))) (cond ((a:Int)==(0:Int)) (A ((-1:Int),())) (Zh (0<=(0:Int)/\(0:Int)<a)<|some (a.getD (0:Int).toNat (0:Int),())))
def JD(a:List Int)(b:Int):Oa Int:=kZ (mh a b (0:Int)) a b (0:Int)
def rV(K1:(List Zo×Int×List Int×List Int×Int×Unit)->Oa Int)(K2:(List Zo×Int×List Int×List Int×Int×Int×Unit)->Oa Int)(a:List Zo)(b:Int)(c d:List Int)(e f:Int):Oa Int:=K2 (a,b,c,d,e,E.wrap (f+1),())
def jc(c:List Zo)(d:Int)(a e:List Int)(f b:Int):Nat:=(a-b).toNat+1
def cI(K1:(List Zo×Int×List Int×List Int×Int×Unit)->Oa Int):Nat->List Zo->Int->List Int->List Int->Int->Int->Oa Int
 |0,_,_,_,_,_,_=>G
 |N+1,b,f,d,e,a,c=>
  bif B (c<(d:Int))then
   gG d c<|
   gG b a<|
   let g:Bool:=(d.getD c.toNat (0:Int))==(gM b a).1
   Zh ((g=F->(0<=a/\a<b)))<|
   bif g&&(!(gM b a).2.1.2.1)then
    gG b a<|
    A ((gM b a).1,())
   else
    gG d c<|
    gG b a<|
    bif(d.getD c.toNat (0:Int))==(gM b a).1 then
     gG b a<|
     Zh (e+([(gM b a).1])<=Qp)<|
     rV K1 (λv=>cI K1 N v.1 v.2.1 v.2.2.1 v.2.2.2.1 v.2.2.2.2.1 v.2.2.2.2.2.1) b f d (e++([(gM b a).1])) a c
    else
     rV K1 (λv=>cI K1 N v.1 v.2.1 v.2.2.1 v.2.2.2.1 v.2.2.2.2.1 v.2.2.2.2.2.1) b f d e a c
  else
   K1 (b,f,d,e,E.wrap (a+1),())
def jb(a:List Zo)(c:Int)(d e:List Int)(b:Int):Nat:=(a-b).toNat+1
def cH:Nat->List Zo->Int->List Int->List Int->Int->Oa Int|0,_,_,_,_,_=>G|N+1,a,b,e,c,d=>cond (B (d<(a:Int))) (cI (λv=>cH N v.1 v.2.1 v.2.2.1 v.2.2.2.1 v.2.2.2.2.1) (jc a b e c d (0:Int)) a b e c d (0:Int)) ((JD c b).bind λf=>A (f.1,()))
def zl(a:List Zo)(b:Int):Oa Int:=(zk a).bind λc=>cH (jb a b c.1 ([]:List Int) (0:Int)) a b c.1 ([]:List Int) (0:Int)
def ta(a:Qu):Oa Int:=(Vu a).bind λb=>cond (!b.1) (A (0,())) (A (E.wrap (a.1-a.2.1),()))
def uv(c a:Int)(d:Q2)(e:Ba)(b:Int):Nat:=(a-b).toNat+1
def qd:Nat->Int->Int->Q2->Ba->Int->Oc Ba Bool
 |0,_,_,_,_,_=>G
 |N+1,e,f,a,b,c=>
  bif B (c<f)then
   Zh (a.1≠0)<|
   let d:Int:=H (E.wrap (e+c)) a.1
   gG a.2.2.2.1 d<|
   (eJ (a.2.2.2.1.getD d.toNat (0:Int))).bind λg=>
   Zh (b+g.1<=Jv)<|
   qd N e f a (b++g.1) (E.wrap (c+1))
  else
   A (b,F,())
def tz(a:Q2)(b c:Int):Oc Ba Bool:=(aP a).bind λd=>cond (((((!d.1)||(B (b<a.2.1)))||(B (c<0)))||(B (b>a.2.2.1)))||(B (c>(E.wrap (a.2.2.1-b))))) (A ([],C,())) (qd (uv b c a ([]:Ba) (0:Int)) b c a ([]:Ba) (0:Int))
def nI(c:Zk)(f d:Qe)(a:Zi)(b:Int):Oc Qe Bool:=cond (B (b<=a.1)) (A (iK,C,())) ((tz c.2.1 a.1 (E.wrap (b-a.1))).bind λe=>A ((a.1,e.1,d.2.2.1&&(b==c.2.2.2.2.2.1),()),F,()))
def YA(a:Zk)(c d:Int):Oc Qe Bool:=
 (K9 a).bind λe=>
 bif(!e.1)||(B (a.1>2))then
  A (iK,C,())
 else
  bif B ((a.2.2.1:Int)>(0:Int))then
   Zh (0<=(0:Int)/\(0:Int)<a.2.2.1)<|
   let b:=min (a.2.2.1.getD (0:Int).toNat Z3).2.1 d
   bif B (b<=(a.2.2.1.getD (0:Int).toNat Z3).1)then
    A (iK,C,())
   else
    bif B (c<(E.wrap (b- (a.2.2.1.getD (0:Int).toNat Z3).1)))then
     nI a iK (a.2.2.2.2.2.1,[],a.2.2.2.2.2.2.1==1,()) (a.2.2.1.getD (0:Int).toNat Z3) (E.wrap ((a.2.2.1.getD (0:Int).toNat Z3).1+(max c 0)))
    else
     nI a iK (a.2.2.2.2.2.1,[],a.2.2.2.2.2.2.1==1,()) (a.2.2.1.getD (0:Int).toNat Z3) b
  else
   bif !(a.2.2.2.2.2.2.1==1)then
    A (iK,C,())
   else
    A ((a.2.2.2.2.2.1,[],a.2.2.2.2.2.2.1==1,()),F,())
def te(b:Int)(a:Qe):Oa Zj:=A ((8,b,a.1,a.2.1,a.2.2.1,0,0,0,C,()),())
def uw(b c:Int)(d:Qe)(e:Zf)(f a:Int):Nat:=(a-0).toNat+1
def kU:Nat->Int->Int->Qe->Zf->Int->Int->Oc Qe Bool|0,_,_,_,_,_,_=>G|N+1,c,d,g,e,f,a=>cond (B (a>(0:Int))) ((YA e.2.1 a f).bind λb=>cond (!b.2.1) (A (iK,C,())) ((te c b.1).bind λh=>(lS h.1).bind λi=>cond (B (i.1<=d)) (A (b.1,F,())) (kU N c d g e f (E.wrap (a-1))))) (A (iK,C,()))
def JC(c:Ze)(d b:Int):Oc Qe Bool:=
 (Xt c d).bind λa=>
 (Jn c).bind λf=>
 bif(((!f.1)||(!a.2.1))||(!a.1.2.2.2.2.2.2.1))||(B (b<3))then
  A (iK,C,())
 else
  (ta c.2.2.2.2.1).bind λg=>
  let e:=min a.1.2.2.1.1 (E.wrap (a.1.2.1.2.2.2.2.2.2.2.1+g.1))
  kU (uw d b iK a.1 e (min b (60:Int))) d b iK a.1 e (min b (60:Int))
def kT(a:Qu):Oa Qu:=(Vu a).bind λb=>cond (((b.1&&(a.2.1==a.1))&&(a.2.2.1==(-1:Int)))&&(a.2.2.2.1 !=a.1)) (A ((a.1,a.2.1,a.1,a.2.2.2),())) (A (a,()))
def ua(a:Ze)(c:Int):Option ((Unit)×(Ze×Unit)):=(Xt a c).bind λb=>(kT b.1.2.2.1).bind λd=>(kT a.2.2.2.2.1).bind λe=>(Q8 a.2.2.2.1 (tO b.1 d.1)).bind λf=>A ((),(a.1,a.2.1,a.2.2.1,f.1,e.1,a.2.2.2.2.2),())
def xN(b:Zk)(a:Qe):Oa Bool:=A ((((B (a.1>=0))&&(B (a.1<=b.2.1.2.2.1)))&&(B (a.2.1<=(E.wrap (b.2.1.2.2.1-a.1)))))&&((!a.2.2.1)||((b.2.2.2.2.2.1 !=(-1:Int))&&((E.wrap (a.1+(a.2.1:Int)))==b.2.2.2.2.2.1))),())
def kr(a:Qe):Oa Zi:=A ((a.1,E.wrap (a.1+(a.2.1:Int)),()),())
def nG(K1:(List Zi×List Zi×List Zi×Int×Unit)->Oa (List Zi))(K2:(List Zi×List Zi×List Zi×Int×Int×Unit)->Oa (List Zi))(a b c:List Zi)(d e:Int):Oa (List Zi):=K2 (a,b,c,d,E.wrap (e+1),())
def wu(K1:(List Zi×List Zi×List Zi×Int×Unit)->Oa (List Zi))(K2:(List Zi×List Zi×List Zi×Int×Int×Unit)->Oa (List Zi))(c d b:List Zi)(e f:Int)(a:Zi):Oa (List Zi):=cond (B (a.1<a.2.1)) (Zh (b+([a])<=Qp)<|nG K1 K2 c d (b++([a])) e f) (nG K1 K2 c d b e f)
def eX(c a d:List Zi)(e b:Int):Nat:=(a-b).toNat+1
def cZ(K1:(List Zi×List Zi×List Zi×Int×Unit)->Oa (List Zi)):Nat->List Zi->List Zi->List Zi->Int->Int->Oa (List Zi)
 |0,_,_,_,_,_=>G
 |N+1,d,c,e,a,b=>
  bif B (b<(c:Int))then
   Zh (0<=a/\a<d)<|
   Zh (0<=b/\b<c)<|
   let f:Int:=max (d.getD a.toNat Z3).1 (c.getD b.toNat Z3).1
   Zh (0<=a/\a<d)<|
   Zh (0<=b/\b<c)<|
   let g:Int:=min (d.getD a.toNat Z3).2.1 (c.getD b.toNat Z3).2.1
   dr 1 (
    wu K1 (λv=>cZ K1 N v.1 v.2.1 v.2.2.1 v.2.2.2.1 v.2.2.2.2.1) d c e a b (f,g,())
   )
  else
   K1 (d,c,e,E.wrap (a+1),())
def eW(a c d:List Zi)(b:Int):Nat:=(a-b).toNat+1
def aM:Nat->List Zi->List Zi->List Zi->Int->Oa (List Zi)
 |0,_,_,_,_=>G
 |N+1,a,c,d,b=>
  (cond (B (b<(a:Int))) (Wy a) (A (C,()))).bind λf=>
  let e:Bool:=(B (b<(a:Int)))&&f.1
  (cond e (Wy c) (A (C,()))).bind λg=>
  bif e&&g.1 then
   cZ (λv=>aM N v.1 v.2.1 v.2.2.1 v.2.2.2.1) (eX a c d b (0:Int)) a c d b (0:Int)
  else
   A (d,())
def dH(a b:List Zi):Oa (List Zi):=aM (eW a b ([]:List Zi) (0:Int)) a b ([]:List Zi) (0:Int)
def oM(K1:(List Zi×Zi×List Zi×Int×Unit)->Oa (List Zi))(a:List Zi)(b:Zi)(c:List Zi)(d:Int):Oa (List Zi):=K1 (a,b,c,E.wrap (d+1),())
def ka(K1:(List Zi×Zi×List Zi×Int×Unit)->Oa (List Zi))(b:List Zi)(c:Zi)(d:List Zi)(a:Int):Oa (List Zi):=
 gG b a<|
 gG b a<|
 bif B ((max (gI b a).1 c.2.1)<(gI b a).2.1)then
  gG b a<|
  gG b a<|
  let e:List Zi:=[(max (gI b a).1 c.2.1,(gI b a).2.1,())]
  Zh (d+e<=Qp)<|
  oM K1 b c (d++e) a
 else
  oM K1 b c d a
def hD(a:List Zi)(c:Zi)(d:List Zi)(b:Int):Nat:=(a-b).toNat+1
def ae:Nat->List Zi->Zi->List Zi->Int->Oa (List Zi)
 |0,_,_,_,_=>G
 |N+1,b,c,d,a=>
  bif B (a<(b:Int))then
   Zh (0<=a/\a<b)<|
   Zh (0<=a/\a<b)<|
   bif B ((b.getD a.toNat Z3).1<(min (b.getD a.toNat Z3).2.1 c.1))then
    Zh (0<=a/\a<b)<|
    Zh (0<=a/\a<b)<|
    let e:List Zi:=[((b.getD a.toNat Z3).1,min (b.getD a.toNat Z3).2.1 c.1,())]
    Zh (d+e<=Qp)<|
    ka (λv=>ae N v.1 v.2.1 v.2.2.1 v.2.2.2.1) b c (d++e) a
   else
    ka (λv=>ae N v.1 v.2.1 v.2.2.1 v.2.2.2.1) b c d a
  else
   A (d,())
def kV(a:List Zi)(b:Zi):Oa (List Zi):=(Wy a).bind λc=>(gH (!c.1) (VB b)).bind λd=>cond ((!c.1)||(!d.1)) ((rj a).bind λe=>A (e.1,())) (ae (hD a b ([]:List Zi) (0:Int)) a b ([]:List Zi) (0:Int))
def jd(c a:Zk):Oc Zk Bool:=(ch a).bind λb=>A ((b.1,a.2),F,())
def dP(c:Qe)(b a:Zk):Oc Zk Bool:=cond c.2.2.1 (jd b (tF a 2)) (jd b a)
def qe(a:Zk)(c:Qe):Oc Zk Bool:=
 (iJ a).bind λb=>
 (K9 a).bind λg=>
 let f:=(!g.1)||(B (a.1>2))
 (gH f (xN a c)).bind λh=>
 bif((f||(!h.1))||((c.2.1==[])&&(!c.2.2.1)))||(c.2.2.1&&(a.2.2.2.2.2.2.1 !=1))then
  A (b.1,C,())
 else
  bif !(c.2.1==[])then
   (kr c).bind λd=>
   (dH a.2.2.1 ([d.1])).bind λe=>
   Zh ((((e.1:Int) !=(1:Int))=C->(0<=(0:Int)/\(0:Int)<e.1)))<|
   bif((e.1:Int) !=(1:Int))||(!(eqV Zz (e.1.getD (0:Int).toNat Z3) d.1))then
    A (b.1,C,())
   else
    (kV a.2.2.1 d.1).bind λi=>
    (dx a.2.2.2.1 d.1).bind λj=>
    dP c Yw (b.1.1,b.1.2.1,i.1,j.1,b.1.2.2.2.2.1,b.1.2.2.2.2.2.1,b.1.2.2.2.2.2.2.1,max a.2.2.2.2.2.2.2.1 d.1.2.1,b.1.2.2.2.2.2.2.2.2)
  else
   dP c Yw b.1
def lX(a:Qu)(b:Int):Oc Qu Bool:=(Vu a).bind λc=>cond (((!c.1)||(B (b<0)))||(B (b>(E.wrap (a.1-a.2.1))))) (A (a,C,())) (A ((a.1,E.wrap (a.2.1+b),a.2.2),F,()))
def XY(c:Ze)(e:Int)(h:Qe):Oc Ze Bool:=(Qj c).bind λa=>(Xt c e).bind λb=>(Jn c).bind λi=>cond (((!i.1)||(!b.2.1))||(!b.1.2.2.2.2.2.2.1)) (A (a.1,C,())) ((qe b.1.2.1 h).bind λd=>(lX b.1.2.2.1 (E.wrap (d.1.2.2.2.2.2.2.2.1-b.1.2.1.2.2.2.2.2.2.2.1))).bind λf=>(lX c.2.2.2.2.1 (E.wrap (d.1.2.2.2.2.2.2.2.1-b.1.2.1.2.2.2.2.2.2.2.1))).bind λg=>cond (((!d.2.1)||(!f.2.1))||(!g.2.1)) (A (a.1,C,())) ((Q8 a.1.2.2.2.1 (b.1.1,d.1,f.1,b.1.2.2.2)).bind λj=>A ((tP a.1 j.1 g.1 e),F,())))
def th(K1:(Ze×List Zj×Int×List Int×Int×Unit)->Option ((List Zj×Unit)×(Ze×Unit)))(a:Ze)(b:List Zj)(c:Int)(d:List Int)(e:Int):Option ((List Zj×Unit)×(Ze×Unit)):=K1 (a,b,c,d,E.wrap (e+1),())
def VX(K1:(Ze×List Zj×Int×List Int×Int×Unit)->Option ((List Zj×Unit)×(Ze×Unit)))(c:Ze)(a:List Zj)(d:Int)(e:List Int)(f g:Int)(h:Qe)(i:Ze)(j:Bool):Option ((List Zj×Unit)×(Ze×Unit)):=cond (!j) (A ((a,()),c,())) ((te g h).bind λb=>Zh (a+([b.1])<=Qp)<|(lS b.1).bind λk=>th K1 i (a++([b.1])) (E.wrap (d-k.1)) e f)
def xa(c:Ze)(d:List Zj)(e:Int)(a:List Int)(f:Int)(g:List Zo)(b:Int):Nat:=(a-b).toNat+1
def ti(K1:(Ze×List Zj×Int×List Int×Int×Unit)->Option ((List Zj×Unit)×(Ze×Unit))):Nat->Ze->List Zj->Int->List Int->Int->List Zo->Int->Option ((List Zj×Unit)×(Ze×Unit))|0,_,_,_,_,_,_,_=>G|N+1,a,e,f,b,g,i,d=>cond (B (d<(b:Int))) (gG b d<|(mS i (b.getD d.toNat (0:Int))).bind λk=>ti K1 N a e f b g k.1 (E.wrap (d+1))) ((zl i a.2.2.2.2.2.2.2.2.2.2.2.2.2.1).bind λc=>cond (B (c.1<(0:Int))) (A ((e,()),a,())) ((JC a c.1 f).bind λh=>cond (!h.2.1) ((ua a c.1).bind λl=>Zh (b+([c.1])<=Qp)<|th K1 l.2.1 e f (b++([c.1])) g) (dr 1 ((XY a c.1 h.1).bind λj=>VX K1 a e f b g c.1 h.1 j.1 j.2.1))))
def w9(b:Ze)(a:List Zj)(c:Int)(d:List Int)(i8:Int):Nat:=((200:Int)-i8).toNat+1+0*a
def jp:Nat->Ze->List Zj->Int->List Int->Int->Option ((List Zj×Unit)×(Ze×Unit))|0,_,_,_,_,_=>G|N+1,a,b,c,d,i8=>cond (B (i8<(200:Int))) ((zo a).bind λe=>ti (λv=>jp N v.1 v.2.1 v.2.2.1 v.2.2.2.1 v.2.2.2.2.1) (xa a b c d i8 e.1 (0:Int)) a b c d i8 e.1 (0:Int)) (A ((b,()),a,()))
def Zah(a:Ze)(b:List Zj)(c:Int):Option ((List Zj×Unit)×(Ze×Unit)):=jp (w9 a b c ([]:List Int) (0:Int)) a b c ([]:List Int) (0:Int)
def dJ(a:List Zj)(c:Ba)(b:Int):Nat:=(a-b).toNat+1
def Yy:Nat->List Zj->Ba->Int->Oa Ba|0,_,_,_=>G|N+1,b,c,a=>cond (B (a<(b:Int))) (Zh (0<=a/\a<b)<|(Wx (b.getD a.toNat Qc)).bind λd=>cond (d.1==([]:Ba)) (A (([]:Ba),())) (Zh (c+d.1<=Jv)<|Yy N b (c++d.1) (E.wrap (a+1)))) (cond (B ((c:Int)>(400:Int))) (A (([]:Ba),())) (A (c,())))
def cD(a:List Zj):Oa Ba:=Yy (dJ a ([]:Ba) (0:Int)) a ([]:Ba) (0:Int)
def rL(K1:(Ze×Ze×Ze×List Zj×Int×List Zj×Int×Unit)->Option ((Ba×Int×Ze×Unit)×(Unit)))(a b c:Ze)(d:List Zj)(e:Int)(f:List Zj)(g:Int):Option ((Ba×Int×Ze×Unit)×(Unit)):=K1 (a,b,c,d,e,f,E.wrap (g+1),())
def iX(c d e:Ze)(f:List Zj)(g:Int)(a:List Zj)(b:Int):Nat:=(a-b).toNat+1
def Wi:Nat->Ze->Ze->Ze->List Zj->Int->List Zj->Int->Option ((Ba×Int×Ze×Unit)×(Unit))|0,_,_,_,_,_,_,_=>G|N+1,d,h,g,e,f,c,b=>cond (B (b<(c:Int))) (Zh (0<=b/\b<c)<|(lS (c.getD b.toNat Qc)).bind λi=>cond (B (i.1<=f)) (Zh (0<=b/\b<c)<|(lS (c.getD b.toNat Qc)).bind λj=>Zh (0<=b/\b<c)<|(xK g (c.getD b.toNat Qc)).bind λk=>Zh (0<=b/\b<c)<|Zh (e+([(c.getD b.toNat Qc)])<=Qp)<|rL (λv=>Wi N v.1 v.2.1 v.2.2.1 v.2.2.2.1 v.2.2.2.2.1 v.2.2.2.2.2.1 v.2.2.2.2.2.2.1) d h k.1 (e++([(c.getD b.toNat Qc)])) (E.wrap (f-j.1)) c b) (rL (λv=>Wi N v.1 v.2.1 v.2.2.1 v.2.2.2.1 v.2.2.2.2.1 v.2.2.2.2.2.1 v.2.2.2.2.2.2.1) d h g e f c b)) ((Zah g e f).bind λa=>cond ((a.1.1:Int)==(0:Int)) (A ((([]:Ba),(-1:Int),a.2.1,()),())) (Zh (a.2.1.2.2.2.2.2.2.2.2.2.2.2.2.2.2.2.1+([(d.2.2.2.2.2.2.2.2.2.2.2.2.2.2.1,a.1.1,())]).length<=Qp)<|(cD a.1.1).bind λl=>A ((l.1,d.2.2.2.2.2.2.2.2.2.2.2.2.2.2.1,(a.2.1.1,a.2.1.2.1,a.2.1.2.2.1,a.2.1.2.2.2.1,a.2.1.2.2.2.2.1,a.2.1.2.2.2.2.2.1,a.2.1.2.2.2.2.2.2.1,a.2.1.2.2.2.2.2.2.2.1,a.2.1.2.2.2.2.2.2.2.2.1,a.2.1.2.2.2.2.2.2.2.2.2.1,a.2.1.2.2.2.2.2.2.2.2.2.2.1,a.2.1.2.2.2.2.2.2.2.2.2.2.2.1,a.2.1.2.2.2.2.2.2.2.2.2.2.2.2.1,a.2.1.2.2.2.2.2.2.2.2.2.2.2.2.2.1,E.wrap (d.2.2.2.2.2.2.2.2.2.2.2.2.2.2.1+1),a.2.1.2.2.2.2.2.2.2.2.2.2.2.2.2.2.2.1++([(d.2.2.2.2.2.2.2.2.2.2.2.2.2.2.1,a.1.1,())]),a.2.1.2.2.2.2.2.2.2.2.2.2.2.2.2.2.2.2),()),())))
def zg(a:Ze)(b:Int):Option ((Ba×Int×Ze×Unit)×(Unit)):=(Qj a).bind λc=>(J2 a).bind λd=>(gH (!d.1) (Z9 b 1 400)).bind λf=>cond (((!d.1)||(!f.1))||(B (a.2.2.2.2.2.2.2.2.2.2.2.2.2.2.1>=1000000))) (A (([],(-1:Int),c.1,()),())) ((fQ a).bind λe=>Wi (iX a X9 c.1 ([]:List Zj) b e.1 (0:Int)) a X9 c.1 ([]:List Zj) b e.1 (0:Int))
def uu(c:Int)(a:Ze)(d:Z6)(b:Int):Nat:=(a.2.2.2.2.2.2.2.2.2.2.2.2.2.2.2.1-b).toNat+1
def qc:Nat->Int->Ze->Z6->Int->Oc Z6 Bool|0,_,_,_,_=>G|N+1,c,b,d,a=>cond (B (a<(b.2.2.2.2.2.2.2.2.2.2.2.2.2.2.2.1:Int))) (gG b.2.2.2.2.2.2.2.2.2.2.2.2.2.2.2.1 a<|cond ((gL b.2.2.2.2.2.2.2.2.2.2.2.2.2.2.2.1 a).1==c) (gG b.2.2.2.2.2.2.2.2.2.2.2.2.2.2.2.1 a<|Zh (([]:List Zj)+(gL b.2.2.2.2.2.2.2.2.2.2.2.2.2.2.2.1 a).2.1<=Qp)<|some ((c,([]:List Zj)++(gL b.2.2.2.2.2.2.2.2.2.2.2.2.2.2.2.1 a).2.1,()),F,())) (qc N c b d (E.wrap (a+1)))) (A (((0:Int),([]:List Zj),()),C,()))
def yH(a:Ze)(b:Int):Oc Z6 Bool:=qc (uu b a ((0:Int),([]:List Zj),()) (0:Int)) b a ((0:Int),([]:List Zj),()) (0:Int)
def zp(K1:(Ze×Int×List Z6×Int×Unit)->Option ((Unit)×(Ze×Unit)))(a:Ze)(b:Int)(c:List Z6)(d:Int):Option ((Unit)×(Ze×Unit)):=K1 (a,b,c,E.wrap (d+1),())
def xb(a:Ze)(c:Int)(d:List Z6)(b:Int):Nat:=(a.2.2.2.2.2.2.2.2.2.2.2.2.2.2.2.1-b).toNat+1
def mT:Nat->Ze->Int->List Z6->Int->Option ((Unit)×(Ze×Unit))|0,_,_,_,_=>G|N+1,a,d,c,b=>cond (B (b<(a.2.2.2.2.2.2.2.2.2.2.2.2.2.2.2.1:Int))) (gG a.2.2.2.2.2.2.2.2.2.2.2.2.2.2.2.1 b<|cond ((gL a.2.2.2.2.2.2.2.2.2.2.2.2.2.2.2.1 b).1 !=d) (gG a.2.2.2.2.2.2.2.2.2.2.2.2.2.2.2.1 b<|Zh (c+([(gL a.2.2.2.2.2.2.2.2.2.2.2.2.2.2.2.1 b)])<=Qp)<|zp (λv=>mT N v.1 v.2.1 v.2.2.1 v.2.2.2.1) a d (c++([(gL a.2.2.2.2.2.2.2.2.2.2.2.2.2.2.2.1 b)])) b) (zp (λv=>mT N v.1 v.2.1 v.2.2.1 v.2.2.2.1) a d c b)) (A ((),(tH a c),()))
def YE(a:Ze)(b:Int):Option ((Unit)×(Ze×Unit)):=mT (xb a b ([]:List Z6) (0:Int)) a b ([]:List Z6) (0:Int)
def yK(a:Zj):Oa Qe:=A ((a.2.2.1,a.2.2.2.1,a.2.2.2.2.1,()),())
def mf(a:Int)(c d e:Q2)(b:Int):Nat:=(a-b).toNat+1
def bh:Nat->Int->Q2->Q2->Q2->Int->Oc Q2 Bool|0,_,_,_,_,_=>G|N+1,d,b,e,a,c=>cond (B (c<d)) (Zh (b.1≠0)<|Zh (0<=(H c b.1)/\(H c b.1)<a.2.2.2.1)<|bh N d b e (a.1,a.2.1,a.2.2.1,a.2.2.2.1.set (H c b.1).toNat (0:Int),a.2.2.2.2) (E.wrap (c+1))) (A ((a.1,d,a.2.2),F,()))
def gw(a:Q2)(b:Int):Oc Q2 Bool:=(ZN a).bind λc=>(aP a).bind λd=>cond (((!d.1)||(B (b<a.2.1)))||(B (b>a.2.2.1))) (A (c.1,C,())) (bh (mf b a Zfw c.1 a.2.1) b a Zfw c.1 a.2.1)
def kM(d a:Zk)(b:Q2):Oa Zk:=(ch (a.1,b,a.2.2)).bind λc=>A ((c.1,b,a.2.2),())
def bf(d e a:Zk):Oa Zk:=qu ((ol a.2.2.2.2.1 0).bind λb=>dr 1 ((gw d.2.1 b.1).bind λc=>kM e a c.1)) ((ol a.2.2.2.2.1 0).bind λb=>(gw d.2.1 b.1).bind λc=>kM e a c.1)
def Ww(b:Zk)(d:Qe)(c a:Zk):Oa Zk:=cond (d.2.2.1&&(b.2.2.2.2.2.2.1==2)) (bf b c (tF a 3)) (bf b c a)
def bS(c:Zk)(d:Qe)(e f:Zk)(a:List Zi)(b:Int):Nat:=(a-b).toNat+1
def bg:Nat->Zk->Qe->Zk->Zk->List Zi->Int->Oa Zk|0,_,_,_,_,_,_=>G|N+1,d,e,f,b,c,a=>cond (B (a<(c:Int))) (gG c a<|(kV b.2.2.2.1 (gI c a)).bind λg=>gG c a<|(dx b.2.2.2.2.1 (gI c a)).bind λh=>bg N d e f (b.1,b.2.1,b.2.2.1,g.1,h.1,b.2.2.2.2.2) c (E.wrap (a+1))) (Ww d e f b)
def gu(a:Zk)(b:Qe):Oa Zk:=
 (iJ a).bind λc=>
 (K9 a).bind λf=>
 let d:=(!f.1)||(B (a.1>2))
 (gH d (xN a b)).bind λg=>
 bif d||(!g.1)then
  A (c.1,())
 else
  bif !(b.2.1==[])then
   (kr b).bind λh=>
   (dH a.2.2.2.1 ([h.1])).bind λe=>
   bg (bS a b Yw c.1 e.1 (0:Int)) a b Yw c.1 e.1 (0:Int)
  else
   Ww a b Yw c.1
def tv(a:Zk):Oc Zk Bool:=(iJ a).bind λb=>(K9 a).bind λc=>cond ((!c.1)||(a.1 !=4)) (A (b.1,C,())) (A ((5,b.1.2),F,()))
def iH(a:Ze)(b:Zf):Option ((Unit)×(Ze×Unit)):=(Vh a b).bind λc=>A ((),c.2.1,())
def Zbx(b:Ze)(c:Zj)(a:Zf)(e:Bool):Option ((Unit)×(Ze×Unit)):=(gH (!e) (Wk c)).bind λf=>cond ((!e)||(!f.1)) (A ((),b,())) (cond (c.1==8) ((yK c).bind λg=>(gu a.2.1 g.1).bind λh=>iH b (tT a h.1)) (cond (c.1==4) ((tv a.2.1).bind λd=>cond d.2.1 (iH b (tV a d.1 C)) (iH b (tT a d.1))) (cond (c.1==5) (iH b (tB a C)) (iH b a))))
def Zdq(a:Ze)(b:Zj):Option ((Unit)×(Ze×Unit)):=dr 1 ((Xt a b.2.1).bind λc=>Zbx a b c.1 c.2.1)
def kn(c d:Ze)(a:Z6)(b:Int):Nat:=(a.2.1-b).toNat+1
def nF:Nat->Ze->Ze->Z6->Int->Option ((Ze×Bool×Unit)×(Unit))|0,_,_,_,_=>G|N+1,d,c,b,a=>cond (B (a<(b.2.1:Int))) (Zh (0<=a/\a<b.2.1)<|(Zdq c (b.2.1.getD a.toNat Qc)).bind λe=>nF N d e.2.1 b (E.wrap (a+1))) (A ((c,F,()),()))
def XX(a:Ze)(c:Int):Option ((Ze×Bool×Unit)×(Unit)):=(Qj a).bind λd=>(yH a c).bind λb=>(J2 a).bind λf=>cond ((!f.1)||(!b.2.1)) (A ((d.1,C,()),())) ((YE d.1 c).bind λe=>nF (kn X9 e.2.1 b.1 (0:Int)) X9 e.2.1 b.1 (0:Int))
def bL(c a:Zk):Oa Zk:=(ch a).bind λb=>A ((b.1,a.2),())
def Vv(c:Zk)(d:Qe)(b a:Zk):Oa Zk:=cond (d.2.2.1&&(c.2.2.2.2.2.2.1==2)) (bL b (a.1,a.2.1,a.2.2.1,a.2.2.2.1,a.2.2.2.2.1,a.2.2.2.2.2.1,1,a.2.2.2.2.2.2.2)) (bL b a)
def bn(c:Zk)(d:Qe)(e f:Zk)(a:List Zi)(b:Int):Nat:=(a-b).toNat+1
def aw:Nat->Zk->Qe->Zk->Zk->List Zi->Int->Oa Zk|0,_,_,_,_,_,_=>G|N+1,d,e,f,b,c,a=>cond (B (a<(c:Int))) (gG c a<|(kV b.2.2.2.1 (gI c a)).bind λg=>gG c a<|(dx b.2.2.1 (gI c a)).bind λh=>aw N d e f (b.1,b.2.1,h.1,g.1,b.2.2.2.2) c (E.wrap (a+1))) (Vv d e f b)
def dM(a:Zk)(b:Qe):Oa Zk:=
 (iJ a).bind λc=>
 (K9 a).bind λf=>
 let d:=(!f.1)||(B (a.1>2))
 (gH d (xN a b)).bind λg=>
 bif d||(!g.1)then
  A (c.1,())
 else
  bif !(b.2.1==[])then
   (kr b).bind λh=>
   (dH a.2.2.2.1 ([h.1])).bind λe=>
   aw (bn a b Yw c.1 e.1 (0:Int)) a b Yw c.1 e.1 (0:Int)
  else
   Vv a b Yw c.1
def eI(a:Ze)(b:Zf):Option ((Unit)×(Ze×Unit)):=(Q8 a.2.2.2.1 b).bind λc=>A ((),(tD a c.1),())
def VY(b:Ze)(c:Zj)(a:Zf)(d:Bool):Option ((Unit)×(Ze×Unit)):=(gH (!d) (Wk c)).bind λe=>cond ((!d)||(!e.1)) (A ((),b,())) (cond (c.1==8) ((yK c).bind λf=>(dM a.2.1 f.1).bind λg=>eI b (tT a g.1)) (cond (c.1==4) (eI b (tC a (a.2.1.1==4))) (cond (c.1==5) (eI b (tB a (B (a.2.2.2.1.1<2)))) (cond (c.1==17) (eI b (tE a F)) (eI b a)))))
def Zai(a:Ze)(b:Zj):Option ((Unit)×(Ze×Unit)):=cond (b.1==16) (A ((),(tE a F),())) (cond (b.1==18) (cond b.2.2.2.2.2.2.2.2.1 (A ((),(tN a F),())) (A ((),(tM a F),()))) (dr 1 ((Xt a b.2.1).bind λc=>VY a b c.1 c.2.1)))
def ja(c d:Ze)(a:Z6)(b:Int):Nat:=(a.2.1-b).toNat+1
def lU:Nat->Ze->Ze->Z6->Int->Option ((Ze×Bool×Unit)×(Unit))|0,_,_,_,_=>G|N+1,d,c,b,a=>cond (B (a<(b.2.1:Int))) (Zh (0<=a/\a<b.2.1)<|(Zai c (b.2.1.getD a.toNat Qc)).bind λe=>lU N d e.2.1 b (E.wrap (a+1))) (A ((c,F,()),()))
def zj(a:Ze)(c:Int):Option ((Ze×Bool×Unit)×(Unit)):=(Qj a).bind λd=>(yH a c).bind λb=>(J2 a).bind λf=>cond ((!f.1)||(!b.2.1)) (A ((d.1,C,()),())) ((YE d.1 c).bind λe=>lU (ja X9 e.2.1 b.1 (0:Int)) X9 e.2.1 b.1 (0:Int))
def pz(c:Ba)(d a e b:Int):Nat:=(a-b).toNat+1
def cC:Nat->Ba->Int->Int->Int->Int->Od Int Int Bool|0,_,_,_,_,_=>G|N+1,c,a,d,e,b=>cond (B (b<d)) (Zh (0<=(8:Int))<|Zh (0<=(E.wrap (a+b))/\(E.wrap (a+b))<c)<|cC N c a d (bits .or .i64 (E.wrap (e*2^ (min (8:Int).toNat E.bits))) (E.wrap ((c.getD (E.wrap (a+b)).toNat 0).toNat:Int))) (E.wrap (b+1))) (A (e,E.wrap (a+d),F,()))
def Yh(b:Ba)(a:Int):Od Int Int Bool:=
 bif(B (a<0))||(B (a>=(b:Int)))then
  A (0,0,C,())
 else
  gG b a<|
  Zh (0<=(6:Int))<|
  let d:=((b.getD a.toNat 0).toNat:Int).fdiv (2^ (min (6:Int).toNat K.bits))
  Zh (0<=d)<|
  let c:=E.wrap (1*2^ (min d.toNat E.bits))
  bif B ((E.wrap (b-a))<c)then
   A (0,0,C,())
  else
   gG b a<|
   let e:=E.wrap (bits .and .u8 ((b.getD a.toNat 0).toNat:Int) 63)
   cC (pz b a c e (1:Int)) b a c e (1:Int)
def ea(c:Ba)(d a:Int)(e:List Int)(b:Int):Nat:=(a-b).toNat+1
def dW:Nat->Ba->Int->Int->List Int->Int->Od (List Int) Int Bool|0,_,_,_,_,_=>G|N+1,c,d,e,b,f=>cond (B (f<e)) ((Yh c d).bind λa=>cond (!a.2.2.1) (A ([(0:Int),(0:Int),(0:Int)],(0:Int),C,())) (Zh (b+([a.1])<=Qp)<|dW N c a.2.1 e (b++([a.1])) (E.wrap (f+1)))) (A (b,d,F,()))
def dh(a:Ba)(b c:Int):Od (List Int) Int Bool:=dW (ea a b c ([]:List Int) (0:Int)) a b c ([]:List Int) (0:Int)
def gf(d:Ba)(g a:Zj)(b c:Int):Od Zj Int Bool:=
 Zh (0<=b/\b<=(E.wrap (b+c))/\(E.wrap (b+c))<=d)<|
 let e:=(d.drop b.toNat).take ((E.wrap (b+c)).toNat-b.toNat)
 (bm (tD a e)).bind λf=>
 bif !f.1 then
  A (Qc,0,C,())
 else
  A ((tD a e),E.wrap (b+c),F,())
def f7(a:Ba)(f:Int)(d e:Zj)(c:Int):Od Zj Int Bool:=cond ((bits .and .i64 f 2)==2) ((Yh a c).bind λb=>cond ((!b.2.2.1)||(B (b.1>(E.wrap (a-b.2.1))))) (A (Qc,0,C,())) (gf a d e b.2.1 b.1)) (gf a d e c (E.wrap (a-c)))
def ld(c:Ba)(g d:Int)(e b:Zj)(f:Int):Od Zj Int Bool:=(dh c g f).bind λa=>cond (!a.2.2.1) (A (Qc,0,C,())) (Zh (0<=(0:Int)/\(0:Int)<a.1)<|cond (f==2) (Zh (0<=(1:Int)/\(1:Int)<a.1)<|f7 c d e (b.1,a.1.getD (0:Int).toNat 0,a.1.getD (1:Int).toNat 0,b.2.2.2) a.2.1) (f7 c d e (b.1,a.1.getD (0:Int).toNat 0,b.2.2) a.2.1))
def oq(b:Ba)(c a:Int):Od Zj Int Bool:=cond ((bits .and .i64 a 4)==4) (ld b c a Qc (8,0,0,[],(bits .and .i64 a 1)==1,0,0,0,C,()) 2) (ld b c a Qc (8,0,0,[],(bits .and .i64 a 1)==1,0,0,0,C,()) 1)
def Y8(e a:Zj)(c:Int)(b:Bool):Od Zj Int Bool:=(cond (!b) (A (C,())) (bm a)).bind λd=>cond ((!b)||(!d.1)) (A (Qc,0,C,())) (A (a,c,F,()))
def dZ(c a:Zj)(b:List Int)(d:Int)(e f:Bool):Od Zj Int Bool:=cond f (Zh (0<=(0:Int)/\(0:Int)<b)<|Zh ((b:Int)≠0)<|Zh (0<=(H (1:Int) b)/\(H (1:Int) b)<b)<|Y8 c (a.1,b.getD (0:Int).toNat 0,a.2.2.1,a.2.2.2.1,a.2.2.2.2.1,a.2.2.2.2.2.1,b.getD (H (1:Int) b).toNat 0,a.2.2.2.2.2.2.2) d e) (Zh (0<=(0:Int)/\(0:Int)<b)<|Y8 c (tF a (b.getD (0:Int).toNat 0)) d e)
def Ve(d:Ba)(e:Int)(c b:Zj)(f:Int):Od Zj Int Bool:=(dh d (E.wrap (e+1)) f).bind λa=>cond (b.1==4) (Zh (0<=(0:Int)/\(0:Int)<a.1)<|Zh ((a.1:Int)≠0)<|Zh (0<=(H (1:Int) a.1)/\(H (1:Int) a.1)<a.1)<|Zh ((a.1:Int)≠0)<|Zh (0<=(H (2:Int) a.1)/\(H (2:Int) a.1)<a.1)<|Y8 c (b.1,a.1.getD (0:Int).toNat 0,b.2.2.1,b.2.2.2.1,b.2.2.2.2.1,a.1.getD (H (1:Int) a.1).toNat 0,b.2.2.2.2.2.2.1,a.1.getD (H (2:Int) a.1).toNat 0,b.2.2.2.2.2.2.2.2) a.2.1 a.2.2.1) (cond (b.1==5) (Zh (0<=(0:Int)/\(0:Int)<a.1)<|Zh ((a.1:Int)≠0)<|Zh (0<=(H (1:Int) a.1)/\(H (1:Int) a.1)<a.1)<|Y8 c (b.1,a.1.getD (0:Int).toNat 0,b.2.2.1,b.2.2.2.1,b.2.2.2.2.1,a.1.getD (H (1:Int) a.1).toNat 0,b.2.2.2.2.2.2) a.2.1 a.2.2.1) (cond (b.1==17) (dZ c b a.1 a.2.1 a.2.2.1 (b.1==17)) (dZ c b a.1 a.2.1 a.2.2.1 (b.1==21))))
def d6(b:Ba)(c:Int)(d:Zj)(f:Int)(a:Zj)(e:Int)(g:Bool):Od Zj Int Bool:=cond g (Ve b c d (E.wrap (f-1),a.2.1,a.2.2.1,a.2.2.2.1,a.2.2.2.2.1,a.2.2.2.2.2.1,a.2.2.2.2.2.2.1,a.2.2.2.2.2.2.2.1,F,a.2.2.2.2.2.2.2.2.2) e) (Ve b c d a e)
def bz(a:Ba)(b:Int)(c:Zj)(f:Int)(d:Zj)(g e:Int)(h:Bool):Od Zj Int Bool:=cond h (Ve a b c d 2) (cond (e==19) (d6 a b c f d g (e==19)) (d6 a b c f d g (e==23)))
def kN(c:Ba)(b:Int):Od Zj Int Bool:=
 let e:=(B (b<0))||(B (b>=(c:Int)))
 Zh ((e=C->(0<=b/\b<c)))<|
 bif e||(B (((c.getD b.toNat 0).toNat:Int)>23))then
  A (Qc,0,C,())
 else
  Zh (0<=b/\b<c)<|
  let a:=E.wrap ((c.getD b.toNat 0).toNat:Int)
  bif(B (a>=8))&&(B (a<16))then
   (oq c (E.wrap (b+1)) a).bind λd=>
   A (d.1,d.2.1,d.2.2.1,())
  else
   bif a==4 then
    Ve c b Qc (a,0,0,[],C,0,0,0,C,()) 3
   else
    bif a==5 then
     bz c b Qc a (a,0,0,[],C,0,0,0,C,()) 1 a (a==5)
    else
     bif a==17 then
      bz c b Qc a (a,0,0,[],C,0,0,0,C,()) 1 a (a==17)
     else
      bz c b Qc a (a,0,0,[],C,0,0,0,C,()) 1 a (a==21)
def lN(a:Ba)(c:List Zj)(b:Int):Nat:=(a-b).toNat+1
def J9:Nat->Ba->List Zj->Int->Oc (List Zj) Bool|0,_,_,_=>G|N+1,a,c,b=>cond (B (b<(a:Int))) (Zh (0<=b/\b<a)<|cond (((a.getD b.toNat 0).toNat:Int)==(0:Int)) (J9 N a c (E.wrap (b+1))) ((kN a b).bind λd=>cond (!d.2.2.1) (A (([]:List Zj),C,())) (Zh (c+([d.1])<=Qp)<|J9 N a (c++([d.1])) d.2.1))) ((Z9 a (1:Int) (400:Int)).bind λe=>A (c,e.1,()))
def Wh(a:Ba):Oc (List Zj) Bool:=J9 (lN a ([]:List Zj) (0:Int)) a ([]:List Zj) (0:Int)
def wt(b:Ze)(c:Int):Oa Ze:=(Qj b).bind λa=>(cond (b.2.2.2.2.2.2.2.2.2.2.2.2.2.2.2.2.2.1==0) (Z9 c 1 255) (A (C,()))).bind λd=>cond ((b.2.2.2.2.2.2.2.2.2.2.2.2.2.2.2.2.2.1==0)&&d.1) (A ((tJ a.1 c),())) (A (a.1,()))
def rQ(a:Int):Oa Int:=(Q9 a).bind λb=>cond (!b.1) (A ((-1:Int),())) (Zh (0<=(2:Int))<|some (a.fdiv (2^ (min (2:Int).toNat E.bits)),()))
def oo(a:Qu)(b:Int):Od Qu Int Bool:=
 (bk a).bind λd=>
 bif((!d.1)||(B (b<0)))||(B (b>=a.2.1))then
  A (a,0,C,())
 else
  let c:=max 0 (E.wrap ((E.wrap (b+1))-a.2.2.1))
  A ((tO a (E.wrap (a.2.2.1+c))),c,F,())
def zm(K1:(Ze×Int×Int×Unit)->Option ((Unit)×(Ze×Unit)))(a:Ze)(b c:Int)(d:Zf):Option ((Unit)×(Ze×Unit)):=(Q8 a.2.2.2.1 d).bind λe=>K1 ((tD a e.1),b,E.wrap (c-1),())
def nK(b:Ze)(c a:Int):Nat:=(a-0).toNat+2
def eH:Nat->Ze->Int->Int->Option ((Unit)×(Ze×Unit))
 |0,_,_,_=>G
 |N+1,a,c,b=>
  bif B (b>=(0:Int))then
   let d:Int:=E.wrap (c- (E.wrap ((4:Int)*b)))
   dr 1 (
    (Vq a.1 d a.2.1 a.2.2.1).bind λe=>
    zm (λv=>eH N v.1 v.2.1 v.2.2.1) a c b e.1
   )
  else
   A ((),a,())
def YC(a:Ze)(b c:Int):Option ((Unit)×(Ze×Unit)):=eH (nK a b (E.wrap (c-1))) a b (E.wrap (c-1))
def aN(a:Int)(e b:Ze)(c:Int):Oc Ze Int:=(YC b a c).bind λd=>A (d.2.1,0,())
def c8(c:Int)(f d a:Ze)(e:Qu)(b:Int)(g:Bool):Oc Ze Int:=cond (((!g)||(b==0))||(B ((E.wrap (f.2.2.2.1+b))>24))) (A (a,4,())) ((av c).bind λh=>cond h.1 (aN c d (tB a e) b) (aN c d (tC a e) b))
def K8(b:Int)(d e f:Ze)(g:Qu):Oc Ze Int:=qu ((rQ b).bind λc=>dr 1 ((oo g c.1).bind λa=>c8 b d e f a.1 a.2.1 a.2.2.1)) ((rQ b).bind λc=>(oo g c.1).bind λa=>c8 b d e f a.1 a.2.1 a.2.2.1)
def ap(a:Ze)(b:Int):Oc Ze Int:=(Qj a).bind λc=>(Jn a).bind λd=>(gH (!d.1) (Q9 b)).bind λe=>cond ((!d.1)||(!e.1)) (A (c.1,7,())) ((Ko a.2.2.2.1 b).bind λf=>cond (B (f.1>=0)) (A (c.1,0,())) ((fS a.1 b).bind λg=>cond g.1 (A (c.1,5,())) ((av b).bind λh=>cond h.1 (K8 b a X9 c.1 a.2.2.2.2.2.2.2.2.2.1) (K8 b a X9 c.1 a.2.2.2.2.2.2.2.2.1))))
def rZ(a:Zu)(b:Int)(c:Bool):Oa Int:=cond (((a.2.2.1 !=(-1:Int))&&((B (b>a.2.2.1))||(c&&(b !=a.2.2.1))))||(c&&(B (b<a.2.2.2.1)))) (A (6,())) (A (0,()))
def eV(a:Zv)(c:List Zi)(b:Int):Nat:=(a.2.1-b).toNat+1
def V5:Nat->Zv->List Zi->Int->Oa (List Zi)
 |0,_,_,_=>G
 |N+1,b,c,a=>
  (cond (B (a<(b.2.1:Int))) (kx b) (A (C,()))).bind λe=>
  bif(B (a<(b.2.1:Int)))&&e.1 then
   Zh (0<=a/\a<b.2.1)<|
   Zh (0<=a/\a<b.2.1)<|
   Zh (0<=a/\a<b.2.1)<|
   let d:List Zi:=[((b.2.1.getD a.toNat Qt).1,E.wrap ((b.2.1.getD a.toNat Qt).1+((b.2.1.getD a.toNat Qt).2.1:Int)),())]
   Zh (c+d<=Qp)<|
   V5 N b (c++d) (E.wrap (a+1))
  else
   A (c,())
def uT(a:Zv):Oa (List Zi):=V5 (eV a ([]:List Zi) (0:Int)) a ([]:List Zi) (0:Int)
def oJ(c:Int)(a:Zv)(b:Int):Nat:=(a.2.1-b).toNat+1
def iy:Nat->Int->Zv->Int->Oa Int
 |0,_,_,_=>G
 |N+1,d,b,a=>
  bif B (a<(b.2.1:Int))then
   gG b.2.1 a<|
   let c:Int:=E.wrap (d- (gJ b.2.1 a).1)
   Zh (((B (d>=(0:Int)))=F->(0<=a/\a<b.2.1)))<|
   let e:Bool:=((B (d>=(0:Int)))&&(B ((gJ b.2.1 a).1>=(0:Int))))&&(B (c>=(0:Int)))
   Zh ((e=F->(0<=a/\a<b.2.1)))<|
   bif e&&(B (c<((gJ b.2.1 a).2.1:Int)))then
    gG b.2.1 a<|
    Zh (0<=c/\c<(gJ b.2.1 a).2.1)<|
    A (E.wrap (((gJ b.2.1 a).2.1.getD c.toNat 0).toNat:Int),())
   else
    iy N d b (E.wrap (a+1))
  else
   A ((-1:Int),())
def ZJ(a:Zv)(b:Int):Oa Int:=iy (oJ b a (0:Int)) b a (0:Int)
def cG(K1:(Int×Ba×Zv×Zv×Zv×List Zi×Int×Unit)->Oa Zv)(K2:(Int×Ba×Zv×Zv×Zv×List Zi×Int×Ba×Int×Unit)->Oa Zv)(c:Int)(d:Ba)(e f g:Zv)(h:List Zi)(i:Int)(a:Ba)(j k:Int):Oa Zv:=(eJ k).bind λb=>Zh (a+b.1<=Jv)<|K2 (c,d,e,f,g,h,i,a++b.1,E.wrap (j+1),())
def aA(d:Int)(e:Ba)(f g h:Zv)(a:List Zi)(b:Int)(i:Ba)(c:Int):Nat:=((a.getD b.toNat Z3).2.1-c).toNat+1
def Kq(K1:(Int×Ba×Zv×Zv×Zv×List Zi×Int×Unit)->Oa Zv):Nat->Int->Ba->Zv->Zv->Zv->List Zi->Int->Ba->Int->Oa Zv
 |0,_,_,_,_,_,_,_,_,_=>G
 |N+1,d,f,g,h,e,b,a,i,c=>
  gG b a<|
  bif B (c<(gI b a).2.1)then
   (ZJ g c).bind λj=>
   bif B (j.1<(0:Int))then
    Zh (0<=(E.wrap (c-d))/\(E.wrap (c-d))<f)<|
    cG K1 (λv=>Kq K1 N v.1 v.2.1 v.2.2.1 v.2.2.2.1 v.2.2.2.2.1 v.2.2.2.2.2.1 v.2.2.2.2.2.2.1 v.2.2.2.2.2.2.2.1 v.2.2.2.2.2.2.2.2.1) d f g h e b a i c (E.wrap ((f.getD (E.wrap (c-d)).toNat 0).toNat:Int))
   else
    cG K1 (λv=>Kq K1 N v.1 v.2.1 v.2.2.1 v.2.2.2.1 v.2.2.2.2.1 v.2.2.2.2.2.1 v.2.2.2.2.2.2.1 v.2.2.2.2.2.2.2.1 v.2.2.2.2.2.2.2.2.1) d f g h e b a i c j.1
  else
   gG b a<|
   let k:List Qd:=[((gI b a).1,i,())]
   Zh (e.2.1+k<=Qp)<|
   K1 (d,f,g,h,(e.1,e.2.1++k,e.2.2),b,E.wrap (a+1),())
def az(c:Int)(d:Ba)(e f g:Zv)(a:List Zi)(b:Int):Nat:=(a-b).toNat+1
def Wj:Nat->Int->Ba->Zv->Zv->Zv->List Zi->Int->Oa Zv|0,_,_,_,_,_,_,_=>G|N+1,d,e,f,g,c,b,a=>cond (B (a<(b:Int))) (gG b a<|Kq (λv=>Wj N v.1 v.2.1 v.2.2.1 v.2.2.2.1 v.2.2.2.2.1 v.2.2.2.2.2.1 v.2.2.2.2.2.2.1) (aA d e f g c b a ([]:Ba) (gI b a).1) d e f g c b a ([]:Ba) (gI b a).1) (A (c,()))
def mL(a:Zv)(b:Int)(c:Ba):Oa Zv:=
 (kx a).bind λf=>
 bif(((!f.1)||(c==[]))||(B (b<0)))||(B (b>(E.wrap (4611686018427387903- (c:Int)))))then
  (ro a).bind λg=>
  A (g.1,())
 else
  let d:=E.wrap (b+(c:Int))
  bif B ((max b a.1)>=d)then
   (ro a).bind λh=>
   A (h.1,())
  else
   (uT a).bind λi=>
   (dx i.1 (max b a.1,d,())).bind λe=>
   Wj (az b c a ((0:Int),([]:List Qd),()) (a.1,([]:List Qd),()) e.1 (0:Int)) b c a ((0:Int),([]:List Qd),()) (a.1,([]:List Qd),()) e.1 (0:Int)
def bD(b a:Zu):Oc Zu Int:=A (a,0,())
def Yq(d:Int)(e:Ba)(f c a:Zu):Oc Zu Int:=(mL f.2.1 d e).bind λb=>(cond (a.2.2.1 !=(-1:Int)) (eE b.1) (A (0,()))).bind λg=>cond ((a.2.2.1 !=(-1:Int))&&((E.wrap (b.1.1+g.1))==a.2.2.1)) (bD c (2,b.1,a.2.2)) (bD c (a.1,b.1,a.2.2))
def Yp(a:Zu)(c:Int)(d:Ba)(f:Bool):Oc Zu Int:=
 (nP a).bind λb=>
 (Yt a).bind λh=>
 bif((!h.1)||(B (c<0)))||(B (c>(E.wrap (4611686018427387903- (d:Int)))))then
  A (b.1,7,())
 else
  let e:=E.wrap (c+(d:Int))
  (rZ a e f).bind λg=>
  bif(g.1 !=0)||(B (a.1>1))then
   A (b.1,g.1,())
  else
   bif f then
    Yq c d a qr (1,b.1.2.1,e,max a.2.2.2.1 e,b.1.2.2.2.2)
   else
    Yq c d a qr (tD b.1 (max a.2.2.2.1 e))
def tw(a:Zu)(b:Int):Oa Int:=(Yt a).bind λc=>(cond (!c.1) (A (C,())) (Q9 b)).bind λd=>cond ((!c.1)||(!d.1)) (A (0,())) (A (max 0 (E.wrap (b-a.2.2.2.1)),()))
def om(a:Ql)(b:Int):Oc Ql Bool:=(bX a).bind λc=>cond (((!c.1)||(B (b<0)))||(B (b>(E.wrap (a.2.2.1-a.2.2.2.1))))) (A (a,C,())) (A ((tD a (E.wrap (a.2.2.2.1+b))),F,()))
def rW(a:Ze)(b:Zf)(f:Int):Option ((Int×Unit)×(Ze×Zf×Unit)):=(tw b.2.2.2.1 f).bind λc=>cond (c.1==0) (A ((0,()),a,b,())) ((om b.2.2.2.2.1 c.1).bind λd=>(om a.2.2.2.2.2.1 c.1).bind λe=>cond ((!d.2.1)||(!e.2.1)) (A ((3,()),a,b,())) (A ((0,()),(tR a e.1),(tG b d.1),())))
def mJ(b:Ze)(a:Zj):Option ((Ze×Int×Unit)×(Unit)):=(Jn b).bind λf=>(gH (!f.1) (bm a)).bind λh=>cond (((!f.1)||(!h.1))||(a.1 !=8)) ((Qj b).bind λi=>A ((i.1,7,()),())) ((Ym b.1 a.2.1).bind λj=>cond (!j.1) ((Qj b).bind λk=>A ((k.1,5,()),())) ((ap b a.2.1).bind λd=>cond (d.2.1 !=0) ((Qj b).bind λl=>A ((l.1,d.2.1,()),())) ((Xt d.1 a.2.1).bind λg=>(Yp g.1.2.2.2.1 a.2.2.1 a.2.2.2.1 a.2.2.2.2.1).bind λe=>(rW d.1 g.1 (E.wrap (a.2.2.1+(a.2.2.2.1:Int)))).bind λc=>cond (c.1.1 !=0) ((Qj b).bind λm=>A ((m.1,c.1.1,()),())) (cond (e.2.1 !=0) ((Qj b).bind λn=>A ((n.1,e.2.1,()),())) ((Vh c.2.1 (tD c.2.2.1 e.1)).bind λo=>A ((o.2.1,0,()),()))))))
def Kl(a:Zu)(d b:Int):Oc Zu Int:=(nP a).bind λe=>(Yt a).bind λc=>(gH (!c.1) (Q9 d)).bind λf=>(gH ((!c.1)||(!f.1)) (Q9 b)).bind λh=>cond (((!c.1)||(!f.1))||(!h.1)) (A (e.1,7,())) ((rZ a b F).bind λg=>cond ((g.1 !=0)||(B (a.1>1))) (A (e.1,g.1,())) (A ((4,(a.2.1.1,[],()),b,b,d,()),0,())))
def d9(e b:Ze)(a:Zf)(c:Zu):Option ((Ze×Int×Unit)×(Unit)):=(Vh b (tD a c)).bind λd=>A ((d.2.1,0,()),())
def kR(b:Ze)(a:Zj):Option ((Ze×Int×Unit)×(Unit)):=(Jn b).bind λf=>(gH (!f.1) (bm a)).bind λi=>cond (((!f.1)||(!i.1))||(a.1 !=4)) ((Qj b).bind λj=>A ((j.1,7,()),())) ((Ym b.1 a.2.1).bind λk=>cond (!k.1) ((Qj b).bind λl=>A ((l.1,5,()),())) ((ap b a.2.1).bind λe=>cond (e.2.1 !=0) ((Qj b).bind λm=>A ((m.1,e.2.1,()),())) ((Xt e.1 a.2.1).bind λg=>(Kl g.1.2.2.2.1 a.2.2.2.2.2.1 a.2.2.2.2.2.2.2.1).bind λd=>(rW e.1 g.1 a.2.2.2.2.2.2.2.1).bind λc=>cond (c.1.1 !=0) ((Qj b).bind λn=>A ((n.1,c.1.1,()),())) (cond (d.2.1 !=0) ((Qj b).bind λo=>A ((o.1,d.2.1,()),())) (cond ((d.1.1==4)&&(c.2.2.1.2.2.2.1.1 !=4)) ((nL c.2.1 c.2.2.1 a.2.2.2.2.2.2.2.1).bind λh=>d9 X9 h.2.1 h.2.2.1 d.1) (d9 X9 c.2.1 c.2.2.1 d.1))))))
def fR(d a:Ze)(b:Zf):Option ((Ze×Int×Unit)×(Unit)):=(Vh a b).bind λc=>A ((c.2.1,0,()),())
def mK(b:Ze)(c:Zj):Option ((Ze×Int×Unit)×(Unit)):=(Jn b).bind λe=>(gH (!e.1) (bm c)).bind λg=>cond (((!e.1)||(!g.1))||(c.1 !=5)) ((Qj b).bind λh=>A ((h.1,7,()),())) ((Jy b.1 c.2.1).bind λi=>cond (!i.1) ((Qj b).bind λj=>A ((j.1,5,()),())) ((ap b c.2.1).bind λd=>cond (d.2.1 !=0) ((Qj b).bind λk=>A ((k.1,d.2.1,()),())) ((Xt d.1 c.2.1).bind λa=>(Ju a.1.2.1 c.2.2.2.2.2.1).bind λf=>cond f.2.1 (fR X9 d.1 (tV a.1 f.1 F)) (fR X9 d.1 a.1))))
def jn(a:Qu)(b:Int):Oa Qu:=(Vu a).bind λc=>(gH (!c.1) (Q9 b)).bind λd=>cond (((!c.1)||(!d.1))||(B (b<=a.1))) (A (a,())) (A ((b,a.2.1,(-1:Int),a.2.2.2),()))
def jm(a:dn)(b:Int):Oa dn:=(g7 a).bind λc=>cond (((!c.1)||(B (b<=a.1)))||(B (b>1152921504606846976))) (A (a,())) (A ((b,a.2.1,(-1:Int),a.2.2.2),()))
def qg(b a:Ze):Oc Ze Int:=A (a,0,())
def k9(d:Ze)(b:Zj)(e:Ze)(f:Bool):Oc Ze Int:=cond (!f) ((Qj d).bind λg=>A (g.1,5,())) ((ap d b.2.1).bind λa=>cond (a.2.1 !=0) ((Qj d).bind λh=>A (h.1,a.2.1,())) (cond (b.1==17) ((Xt a.1 b.2.1).bind λc=>(jn c.1.2.2.1 b.2.2.2.2.2.2.1).bind λi=>(Q8 a.1.2.2.2.1 (tO c.1 i.1)).bind λj=>qg e (tD a.1 j.1)) (qg e a.1)))
def yI(b:Ze)(a:Zj):Oc Ze Int:=(Jy b.1 a.2.1).bind λc=>cond (a.1==21) ((Ym b.1 a.2.1).bind λd=>k9 b a X9 d.1) (k9 b a X9 c.1)
def j9(b a:Ze):Oc Ze Int:=A (a,0,())
def d8(b:Ze)(c:Zj)(f d:Ze)(e:Bool):Oc Ze Int:=cond e ((yI b c).bind λa=>A (a.1,a.2.1,())) (A (d,7,()))
def d7(c:Ze)(d:Zj)(e a:Ze)(b:Int)(f:Bool):Oc Ze Int:=cond f (A (a,0,())) (cond (b==17) (d8 c d e a (b==17)) (d8 c d e a (b==21)))
def kQ(c:Ze)(b:Zj):Oc Ze Int:=(Qj c).bind λa=>(Jn c).bind λd=>(gH (!d.1) (bm b)).bind λe=>cond ((!d.1)||(!e.1)) (A (a.1,7,())) (cond (b.1==16) ((jn c.2.2.2.2.1 b.2.2.2.2.2.2.1).bind λf=>A ((tG a.1 f.1),0,())) (cond (b.1==18) (cond b.2.2.2.2.2.2.2.2.1 ((jm c.2.2.2.2.2.2.2.1 b.2.2.2.2.2.2.1).bind λg=>j9 X9 (tL a.1 g.1)) ((jm c.2.2.2.2.2.2.1 b.2.2.2.2.2.2.1).bind λh=>j9 X9 (tF a.1 h.1))) (cond (b.1==20) (d7 c b X9 a.1 b.1 (b.1==20)) (d7 c b X9 a.1 b.1 (b.1==22)))))
def bC(c a:Ze)(b:Int):Option ((Ze×Int×Unit)×(Unit)):=A ((a,b,()),())
def kP(b:Ze)(a:Zj):Option ((Ze×Int×Unit)×(Unit)):=(Qj b).bind λg=>cond (a.1==8) ((mJ b a).bind λc=>bC X9 c.1.1 c.1.2.1) (cond (a.1==4) ((kR b a).bind λd=>bC X9 d.1.1 d.1.2.1) (cond (a.1==5) ((mK b a).bind λe=>bC X9 e.1.1 e.1.2.1) ((kQ b a).bind λf=>bC X9 f.1 f.2.1)))
def ur(K1:(Ze×Ze×List Zj×Int×Unit)->Option ((Ze×Int×Unit)×(Unit)))(b c:Ze)(d:List Zj)(e:Int)(f:Ze)(a:Int):Option ((Ze×Int×Unit)×(Unit)):=cond (a !=0) ((wt c a).bind λg=>A ((g.1,a,()),())) (K1 (b,f,d,E.wrap (e+1),()))
def dK(c d:Ze)(a:List Zj)(b:Int):Nat:=(a-b).toNat+1
def fB:Nat->Ze->Ze->List Zj->Int->Option ((Ze×Int×Unit)×(Unit))|0,_,_,_,_=>G|N+1,e,c,b,a=>cond (B (a<(b:Int))) (gG b a<|dr 1 ((kP c (gN b a)).bind λd=>ur (λv=>fB N v.1 v.2.1 v.2.2.1 v.2.2.2.1) e c b a d.1.1 d.1.2.1)) (A ((c,(0:Int),()),()))
def rO(a:Ze)(e:Ba):Option ((Ze×Int×Unit)×(Unit)):=(Qj a).bind λb=>(Jn a).bind λd=>(gH (!d.1) (gz a)).bind λf=>cond ((!d.1)||f.1) (A ((b.1,a.2.2.2.2.2.2.2.2.2.2.2.2.2.2.2.2.2.1,()),())) ((Wh e).bind λc=>cond (!c.2.1) ((wt b.1 7).bind λg=>A ((g.1,7,()),())) (fB (dK X9 b.1 c.1 (0:Int)) X9 b.1 c.1 (0:Int)))
def tx(b:Ze)(c:Int):Oc Ze Bool:=(Qj b).bind λa=>(J2 b).bind λd=>(gH (!d.1) (Z9 c 1 1000)).bind λe=>cond (((!d.1)||(!e.1))||(B ((E.wrap (b.2.2.2.2.2.2.2.2.2.2.2.2.2.2.2.2.1+c))>1000000))) (A (a.1,C,())) (A ((tK a.1 (E.wrap (b.2.2.2.2.2.2.2.2.2.2.2.2.2.2.2.2.1+c))),F,()))
def Z10(a:Bool):Oa Ba:=cond a (A (([111,107]:Ba),())) (A (([110,111]:Ba),()))
def J4(d a:Ze)(b:Bool):Option ((Ba×Ze×Unit)×(Unit)):=(Z10 b).bind λc=>A ((c.1,a,()),())
def zf(b:Ze)(a:Yk):Option ((Ba×Ze×Unit)×(Unit)):=(Qj b).bind λf=>(Jn b).bind λh=>(gH (!h.1) (rR a)).bind λv=>cond ((!h.1)||(!v.1)) (A (([],f.1,()),())) ((gz b).bind λw=>cond w.1 (A ((([99,108,111,115,101,100]:Ba),f.1,()),())) (cond (a.1==1) ((mP b (a.2.2.2.1==([117,110,105]:Ba))).bind λe=>cond (!e.2.2.1) (A ((([98,108,111,99,107,101,100]:Ba),e.2.1,()),())) ((lR e.1).bind λx=>A ((x.1,e.2.1,()),()))) (cond (a.1==2) ((kY b a.2.1 a.2.2.2.1).bind λi=>(lR i.1).bind λy=>A ((y.1,i.2.1,()),())) (cond (a.1==3) ((iY b a.2.1).bind λj=>J4 X9 j.1 j.2.1) (cond (a.1==4) ((mQ b a.2.1 a.2.2.1).bind λc=>cond c.1.2.1 ((lO c.1.1).bind λk=>Zh (k.1+([32,101,110,100]:Ba)<=Jv)<|some ((k.1++([32,101,110,100]:Ba),c.1.2.2.1,()),())) ((lO c.1.1).bind λl=>Zh (l.1+([32,109,111,114,101]:Ba)<=Jv)<|some ((l.1++([32,109,111,114,101]:Ba),c.1.2.2.1,()),()))) (cond (a.1==5) ((kW b a.2.1 a.2.2.1).bind λm=>J4 X9 m.1.1 m.1.2.1) (cond (a.1==6) ((mR b a.2.1 a.2.2.1).bind λn=>J4 X9 n.1 n.2.1) (cond (a.1==7) ((kX b a.2.1 a.2.2.2.1).bind λo=>J4 X9 o.1 o.2.1) (cond (a.1==8) ((zg b a.2.2.1).bind λd=>cond (d.1.2.1==(-1:Int)) (A ((([110,111,116,104,105,110,103]:Ba),d.1.2.2.1,()),())) ((lR d.1.2.1).bind λg=>Zh (g.1+([32]:Ba)<=Jv)<|(lO d.1.1).bind λp=>Zh ((g.1++([32]:Ba)).length+p.1<=Jv)<|some (((g.1++([32]:Ba))++p.1,d.1.2.2.1,()),()))) (cond (a.1==9) ((XX b a.2.2.1).bind λq=>J4 X9 q.1.1 q.1.2.1) (cond (a.1==10) ((zj b a.2.2.1).bind λr=>J4 X9 r.1.1 r.1.2.1) (cond (a.1==11) ((lM a.2.2.2.1).bind λz=>(rO b z.1).bind λs=>(lR s.1.2.1).bind λt=>Zh (([101,114,114,111,114,32]:Ba)+t.1<=Jv)<|some ((([101,114,114,111,114,32]:Ba)++t.1,s.1.1,()),())) (cond (a.1==12) ((tx b a.2.2.1).bind λu=>J4 X9 u.1 u.2.1) (J4 X9 f.1 C))))))))))))))
def p9(a c:Q2)(b:Int):Nat:=(a.2.2.2.1-b).toNat+1
def lP:Nat->Q2->Q2->Int->Oa Bool|0,_,_,_=>G|N+1,b,c,a=>cond (B (a<(b.2.2.2.1:Int))) (gG b.2.2.2.1 a<|gG c.2.2.2.1 a<|cond ((b.2.2.2.1.getD a.toNat (0:Int)) !=(c.2.2.2.1.getD a.toNat (0:Int))) (A (C,())) (lP N b c (E.wrap (a+1)))) (A (F,()))
def zh(a b:Q2):Oa Bool:=cond ((((a.1 !=b.1)||(a.2.1 !=b.2.1))||(a.2.2.1 !=b.2.2.1))||(a.2.2.2.1 !=(b.2.2.2.1:Int))) (A (C,())) (lP (p9 a b (0:Int)) a b (0:Int))
def og(a c:List Zi)(b:Int):Nat:=(a-b).toNat+1
def j7:Nat->List Zi->List Zi->Int->Oa Bool|0,_,_,_=>G|N+1,b,c,a=>cond (B (a<(b:Int))) (gG b a<|gG c a<|cond (!(eqV Zz (gI b a) (gI c a))) (A (C,())) (j7 N b c (E.wrap (a+1)))) (A (F,()))
def kO(a b:List Zi):Oa Bool:=cond (a !=(b:Int)) (A (C,())) (j7 (og a b (0:Int)) a b (0:Int))
def uV(a b:Zk):Oa Bool:=
 (cond (a.1==b.1) (zh a.2.1 b.2.1) (A (C,()))).bind λd=>
 (cond ((a.1==b.1)&&d.1) (kO a.2.2.1 b.2.2.1) (A (C,()))).bind λf=>
 let c:=((a.1==b.1)&&d.1)&&f.1
 (cond c (kO a.2.2.2.1 b.2.2.2.1) (A (C,()))).bind λe=>
 (cond (c&&e.1) (kO a.2.2.2.2.1 b.2.2.2.2.1) (A (C,()))).bind λg=>
 A ((((((c&&e.1)&&g.1)&&(a.2.2.2.2.2.1==b.2.2.2.2.2.1))&&(a.2.2.2.2.2.2.1==b.2.2.2.2.2.2.1))&&(a.2.2.2.2.2.2.2.1==b.2.2.2.2.2.2.2.1))&&(a.2.2.2.2.2.2.2.2.1==b.2.2.2.2.2.2.2.2.1),())
def mu(a c:Zv)(b:Int):Nat:=(a.2.1-b).toNat+1
def iz:Nat->Zv->Zv->Int->Oa Bool|0,_,_,_=>G|N+1,b,c,a=>cond (B (a<(b.2.1:Int))) (gG b.2.1 a<|gG c.2.1 a<|cond (!(eqV fc (gJ b.2.1 a) (gJ c.2.1 a))) (A (C,())) (iz N b c (E.wrap (a+1)))) (A (F,()))
def uU(a b:Zv):Oa Bool:=cond ((a.1 !=b.1)||(a.2.1 !=(b.2.1:Int))) (A (C,())) (iz (mu a b (0:Int)) a b (0:Int))
def oK(a b:Zu):Oa Bool:=(cond (a.1==b.1) (uU a.2.1 b.2.1) (A (C,()))).bind λc=>A (((((a.1==b.1)&&c.1)&&(a.2.2.1==b.2.2.1))&&(a.2.2.2.1==b.2.2.2.1))&&(a.2.2.2.2.1==b.2.2.2.2.1),())
def uW(a b:Zf):Oa Bool:=
 (cond (a.1==b.1) (uV a.2.1 b.2.1) (A (C,()))).bind λd=>
 let c:=((a.1==b.1)&&d.1)&&(eqV Qx a.2.2.1 b.2.2.1)
 (cond c (oK a.2.2.2.1 b.2.2.2.1) (A (C,()))).bind λe=>
 A (((((((((((c&&e.1)&&(eqV Yi a.2.2.2.2.1 b.2.2.2.2.1))&&(eqV Yn a.2.2.2.2.2.1 b.2.2.2.2.2.1))&&(a.2.2.2.2.2.2.1==b.2.2.2.2.2.2.1))&&(a.2.2.2.2.2.2.2.1==b.2.2.2.2.2.2.2.1))&&(a.2.2.2.2.2.2.2.2.1==b.2.2.2.2.2.2.2.2.1))&&(a.2.2.2.2.2.2.2.2.2.1==b.2.2.2.2.2.2.2.2.2.1))&&(a.2.2.2.2.2.2.2.2.2.2.1==b.2.2.2.2.2.2.2.2.2.2.1))&&(a.2.2.2.2.2.2.2.2.2.2.2.1==b.2.2.2.2.2.2.2.2.2.2.2.1))&&(a.2.2.2.2.2.2.2.2.2.2.2.2.1==b.2.2.2.2.2.2.2.2.2.2.2.2.1))&&(a.2.2.2.2.2.2.2.2.2.2.2.2.2.1==b.2.2.2.2.2.2.2.2.2.2.2.2.2.1),())
def oh(a c:List Zf)(b:Int):Nat:=(a-b).toNat+1
def j8:Nat->List Zf->List Zf->Int->Oa Bool|0,_,_,_=>G|N+1,b,c,a=>cond (B (a<(b:Int))) (gG b a<|gG c a<|(uW (gK b a) (gK c a)).bind λd=>cond (!d.1) (A (C,())) (j8 N b c (E.wrap (a+1)))) (A (F,()))
def xJ(a b:List Zf):Oa Bool:=cond (a !=(b:Int)) (A (C,())) (j8 (oh a b (0:Int)) a b (0:Int))
def dj(a d:List Z6)(b c:Int):Nat:=((a.getD b.toNat Q1).2.1-c).toNat+1
def dT(K1:(List Z6×List Z6×Int×Unit)->Oa Bool):Nat->List Z6->List Z6->Int->Int->Oa Bool|0,_,_,_,_=>G|N+1,c,d,a,b=>gG c a<|cond (B (b<((gL c a).2.1:Int))) (gG c a<|Zh (0<=b/\b<(gL c a).2.1)<|gG d a<|Zh (0<=b/\b<(gL d a).2.1)<|cond (!(eqV Zt ((gL c a).2.1.getD b.toNat Qc) ((gL d a).2.1.getD b.toNat Qc))) (A (C,())) (dT K1 N c d a (E.wrap (b+1)))) (K1 (c,d,E.wrap (a+1),()))
def kq(a c:List Z6)(b:Int):Nat:=(a-b).toNat+1
def dS:Nat->List Z6->List Z6->Int->Oa Bool
 |0,_,_,_=>G
 |N+1,b,c,a=>
  bif B (a<(b:Int))then
   gG b a<|
   gG c a<|
   let d:Bool:=(gL b a).1 !=(gL c a).1
   Zh ((d=C->(0<=a/\a<b)))<|
   Zh ((d=C->(0<=a/\a<c)))<|
   bif d||((gL b a).2.1 !=((gL c a).2.1:Int))then
    A (C,())
   else
    dT (λv=>dS N v.1 v.2.1 v.2.2.1) (dj b c a (0:Int)) b c a (0:Int)
  else
   A (F,())
def oP(a b:List Z6):Oa Bool:=cond (a !=(b:Int)) (A (C,())) (dS (kq a b (0:Int)) a b (0:Int))
def tc(a b:Ze):Oa Bool:=
 let c:=((a.1==b.1)&&(eqV ot a.2.1 b.2.1))&&(eqV ot a.2.2.1 b.2.2.1)
 (cond c (xJ a.2.2.2.1 b.2.2.2.1) (A (C,()))).bind λe=>
 let d:=(((((((((((c&&e.1)&&(eqV Qx a.2.2.2.2.1 b.2.2.2.2.1))&&(eqV Yi a.2.2.2.2.2.1 b.2.2.2.2.2.1))&&(eqV ci a.2.2.2.2.2.2.1 b.2.2.2.2.2.2.1))&&(eqV ci a.2.2.2.2.2.2.2.1 b.2.2.2.2.2.2.2.1))&&(eqV Qx a.2.2.2.2.2.2.2.2.1 b.2.2.2.2.2.2.2.2.1))&&(eqV Qx a.2.2.2.2.2.2.2.2.2.1 b.2.2.2.2.2.2.2.2.2.1))&&(a.2.2.2.2.2.2.2.2.2.2.1==b.2.2.2.2.2.2.2.2.2.2.1))&&(a.2.2.2.2.2.2.2.2.2.2.2.1==b.2.2.2.2.2.2.2.2.2.2.2.1))&&(a.2.2.2.2.2.2.2.2.2.2.2.2.1==b.2.2.2.2.2.2.2.2.2.2.2.2.1))&&(a.2.2.2.2.2.2.2.2.2.2.2.2.2.1==b.2.2.2.2.2.2.2.2.2.2.2.2.2.1))&&(a.2.2.2.2.2.2.2.2.2.2.2.2.2.2.1==b.2.2.2.2.2.2.2.2.2.2.2.2.2.2.1)
 (cond d (oP a.2.2.2.2.2.2.2.2.2.2.2.2.2.2.2.1 b.2.2.2.2.2.2.2.2.2.2.2.2.2.2.2.1) (A (C,()))).bind λf=>
 A (((d&&f.1)&&(a.2.2.2.2.2.2.2.2.2.2.2.2.2.2.2.2.1==b.2.2.2.2.2.2.2.2.2.2.2.2.2.2.2.2.1))&&(a.2.2.2.2.2.2.2.2.2.2.2.2.2.2.2.2.2.1==b.2.2.2.2.2.2.2.2.2.2.2.2.2.2.2.2.2.1),())
def mo(c:Ze)(d:List Zf)(a b:Int):Nat:=(a-b).toNat+1
def ie:Nat->Ze->List Zf->Int->Int->Oa Bool|0,_,_,_,_=>G|N+1,c,b,d,a=>cond (B (a<d)) (gG b a<|cond ((gK b a).2.2.1.2.1 !=(gK b a).2.1.2.2.2.2.2.2.2.1) (A (C,())) (ie N c b d (E.wrap (a+1)))) ((pd c.2.2.2.1).bind λe=>A (c.2.2.2.2.1.2.1==e.1,()))
def uE(a:Ze):Oa Bool:=(K7 a).bind λb=>cond (!b.1) (A (C,())) (ie (mo a a.2.2.2.1 a.2.2.2.1 (0:Int)) a a.2.2.2.1 a.2.2.2.1 (0:Int))
def mq(c:Ze)(d:Int)(e:List Zf)(a b:Int):Nat:=(a-b).toNat+1
def ig:Nat->Ze->Int->List Zf->Int->Int->Oa Bool|0,_,_,_,_,_=>G|N+1,c,d,b,e,a=>cond (B (a<e)) (gG b a<|cond (((gK b a).2.2.2.2.2.2.2.1&&((gK b a).2.2.2.2.1.2.2.2.1 !=(gK b a).2.2.2.1.2.2.2.1))||(B ((gK b a).2.2.2.2.1.2.2.2.2.1<(gK b a).2.2.2.1.2.1.1))) (A (C,())) (ig N c (E.wrap (d+(gK b a).2.2.2.2.1.2.2.2.2.1)) b e (E.wrap (a+1)))) ((pb c.2.2.2.1).bind λf=>A ((c.2.2.2.2.2.1.2.2.2.1==f.1)&&(c.2.2.2.2.2.1.2.2.2.2.1==d),()))
def uF(a:Ze):Oa Bool:=(K7 a).bind λb=>cond (!b.1) (A (C,())) (ig (mq a (0:Int) a.2.2.2.1 a.2.2.2.1 (0:Int)) a (0:Int) a.2.2.2.1 a.2.2.2.1 (0:Int))
def mc(c:Int)(d:List Zi)(e:List Z6)(f g:Int)(h:List Zj)(a b:Int):Nat:=(a-b).toNat+1
def kE(K1:(Int×List Zi×List Z6×Int×Int×Unit)->Oa (List Zi)):Nat->Int->List Zi->List Z6->Int->Int->List Zj->Int->Int->Oa (List Zi)|0,_,_,_,_,_,_,_,_=>G|N+1,c,d,e,f,g,b,h,a=>cond (B (a<h)) (gG b a<|cond (((gN b a).1==8)&&((gN b a).2.1==c)) ((dv d ((gN b a).2.2.1,E.wrap ((gN b a).2.2.1+((gN b a).2.2.2.1:Int)),())).bind λi=>kE K1 N c i.1 e f g b h (E.wrap (a+1))) (kE K1 N c d e f g b h (E.wrap (a+1)))) (K1 (c,d,e,f,E.wrap (g+1),()))
def mb(c:Int)(d:List Zi)(e:List Z6)(a b:Int):Nat:=(a-b).toNat+1
def kD:Nat->Int->List Zi->List Z6->Int->Int->Oa (List Zi)
 |0,_,_,_,_,_=>G
 |N+1,e,c,b,d,a=>
  bif B (a<d)then
   gG b a<|
   let f:Int:=(gL b a).2.1
   kE (λv=>kD N v.1 v.2.1 v.2.2.1 v.2.2.2.1 v.2.2.2.2.1) (mc e c b d a (gL b a).2.1 f (0:Int)) e c b d a (gL b a).2.1 f (0:Int)
  else
   A (c,())
def KY(a:List Z6)(b:Int):Oa (List Zi):=kD (mb b ([]:List Zi) a a (0:Int)) b ([]:List Zi) a a (0:Int)
def nW(c:Ze)(d:List Zf)(a b:Int):Nat:=(a-b).toNat+1
def jr:Nat->Ze->List Zf->Int->Int->Oa Bool
 |0,_,_,_,_=>G
 |N+1,d,b,e,a=>
  bif B (a<e)then
   gG b a<|
   let c:Bool:=((gK b a).2.1.1 !=4)&&((gK b a).2.1.1 !=5)
   (cond c (KY d.2.2.2.2.2.2.2.2.2.2.2.2.2.2.2.1 (gK b a).1) (A (([]:List Zi),()))).bind λf=>
   (cond c (Wu (gK b a).2.1.2.2.2.1 f.1) (A (C,()))).bind λg=>
   bif c&&(!g.1)then
    A (C,())
   else
    jr N d b e (E.wrap (a+1))
  else
   A (F,())
def xe(a:Ze):Oa Bool:=(K7 a).bind λb=>cond (!b.1) (A (C,())) (jr (nW a a.2.2.2.1 a.2.2.2.1 (0:Int)) a a.2.2.2.1 a.2.2.2.1 (0:Int))
def nV(c:Ze)(d e:Int)(f:List Int)(g:List Zf)(a b:Int):Nat:=(a-b).toNat+1
def dX:Nat->Ze->Int->Int->List Int->List Zf->Int->Int->Oa Bool|0,_,_,_,_,_,_,_=>G|N+1,b,f,g,e,c,h,a=>cond (B (a<h)) (gG c a<|(Vl b.1 (gK c a).1).bind λi=>cond i.1 (dX N b (E.wrap (f+1)) g e c h (E.wrap (a+1))) ((J7 (gK c a)).bind λj=>cond (!((gK c a).2.2.2.2.2.2.2.2.2.2.2.2.2.1==j.1)) (A (C,())) ((m7 (gK c a).1).bind λk=>(jx k.1).bind λd=>gG 2 d.1<|(jx (gK c a).2.2.2.2.2.2.2.2.2.2.2.2.2.1).bind λl=>gG 2 d.1<|dX N b f (E.wrap (g+1)) (e.set d.1.toNat (E.wrap ((e.getD d.1.toNat (0:Int))+l.1))) c h (E.wrap (a+1))))) (A (((f==(E.wrap (b.2.2.2.2.2.2.1.2.1+b.2.2.2.2.2.2.2.1.2.1)))&&(g==(E.wrap (b.2.2.2.2.2.2.2.2.1.2.2.1+b.2.2.2.2.2.2.2.2.2.1.2.2.1))))&&(eqV (.arr 2 (.int .i64)) e ([b.2.2.2.2.2.2.2.2.1.2.2.2.1,b.2.2.2.2.2.2.2.2.2.1.2.2.2.1])),()))
def xd(a:Ze):Oa Bool:=(K7 a).bind λb=>cond (!b.1) (A (C,())) (dX (nV a (0:Int) (0:Int) (I 2 (0:Int)) a.2.2.2.1 a.2.2.2.1 (0:Int)) a (0:Int) (0:Int) (I 2 (0:Int)) a.2.2.2.1 a.2.2.2.1 (0:Int))
def QI(a:Ze):Oa Ba:=(K7 a).bind λb=>cond (!b.1) (A (([102,111,114,109]:Ba),())) ((uE a).bind λc=>cond (!c.1) (A (([99,114,101,100,105,116,115]:Ba),())) ((uF a).bind λd=>cond (!d.1) (A (([119,105,110,100,111,119,115]:Ba),())) ((xe a).bind λe=>cond (!e.1) (A (([102,108,105,103,104,116]:Ba),())) ((xd a).bind λf=>cond (!f.1) (A (([99,111,117,110,116,115]:Ba),())) (A ([],()))))))
def QG(a:Ze):Oa Bool:=(K7 a).bind λb=>(cond b.1 (QI a) (A ([],()))).bind λc=>A (b.1&&(c.1==[]),())
def Zgf(a:Zf):Oa (List Bool):=A ([a.2.2.2.2.2.2.1,a.2.2.2.2.2.2.2.1,a.2.2.2.2.2.2.2.2.1,a.2.2.2.2.2.2.2.2.2.1,a.2.2.2.2.2.2.2.2.2.2.1,a.2.2.2.2.2.2.2.2.2.2.2.1,a.2.2.2.2.2.2.2.2.2.2.2.2.2.1],())
def jk(c d:List Int)(a b:Int):Nat:=(a-b).toNat+1
def cU:Nat->List Int->List Int->Int->Int->Oa Bool|0,_,_,_,_=>G|N+1,b,c,d,a=>cond (B (a<d)) (gG b a<|gG c a<|cond ((b.getD a.toNat (0:Int)) !=(c.getD a.toNat (0:Int))) (A (C,())) (cU N b c d (E.wrap (a+1)))) (A (F,()))
def nE(a b:List Int):Oa Bool:=cond (a !=(b:Int)) (A (C,())) (cU (jk a b a (0:Int)) a b a (0:Int))
def VJ(a b:Q2):Oa Bool:=
 let c:=((a.1==b.1)&&(a.2.1==b.2.1))&&(a.2.2.1==b.2.2.1)
 (cond c (nE a.2.2.2.1 b.2.2.2.1) (A (C,()))).bind λd=>
 A (c&&d.1,())
def uH(a b:Zk):Oa Bool:=
 (cond (a.1==b.1) (VJ a.2.1 b.2.1) (A (C,()))).bind λd=>
 (cond ((a.1==b.1)&&d.1) (Wu a.2.2.1 b.2.2.1) (A (C,()))).bind λf=>
 let c:=((a.1==b.1)&&d.1)&&f.1
 (cond c (Wu a.2.2.2.1 b.2.2.2.1) (A (C,()))).bind λe=>
 (cond (c&&e.1) (Wu a.2.2.2.2.1 b.2.2.2.2.1) (A (C,()))).bind λg=>
 A ((((((c&&e.1)&&g.1)&&(a.2.2.2.2.2.1==b.2.2.2.2.2.1))&&(a.2.2.2.2.2.2.1==b.2.2.2.2.2.2.1))&&(a.2.2.2.2.2.2.2.1==b.2.2.2.2.2.2.2.1))&&(a.2.2.2.2.2.2.2.2.1==b.2.2.2.2.2.2.2.2.1),())
def We(c d:List Qd)(a b:Int):Nat:=(a-b).toNat+1
def Ki:Nat->List Qd->List Qd->Int->Int->Oa Bool|0,_,_,_,_=>G|N+1,b,c,d,a=>cond (B (a<d)) (gG b a<|gG c a<|cond (!(eqV fc (gJ b a) (gJ c a))) (A (C,())) (Ki N b c d (E.wrap (a+1)))) (A (F,()))
def Wd(a b:List Qd):Oa Bool:=cond (a !=(b:Int)) (A (C,())) (Ki (We a b a (0:Int)) a b a (0:Int))
def QH(a b:Zv):Oa Bool:=(cond (a.1==b.1) (Wd a.2.1 b.2.1) (A (C,()))).bind λc=>A ((a.1==b.1)&&c.1,())
def oz(a b:Zu):Oa Bool:=(cond (a.1==b.1) (QH a.2.1 b.2.1) (A (C,()))).bind λc=>A (((((a.1==b.1)&&c.1)&&(a.2.2.1==b.2.2.1))&&(a.2.2.2.1==b.2.2.2.1))&&(a.2.2.2.2.1==b.2.2.2.2.1),())
def uI(a b:Zf):Oa Bool:=
 let c:=((((a.1==b.1)&&(a.2.2.2.2.2.2.2.2.2.2.2.2.1==b.2.2.2.2.2.2.2.2.2.2.2.2.1))&&(eqV Qx a.2.2.1 b.2.2.1))&&(eqV Yi a.2.2.2.2.1 b.2.2.2.2.1))&&(eqV Yn a.2.2.2.2.2.1 b.2.2.2.2.2.1)
 (cond c (Zgf a) (A ((I 7 C),()))).bind λf=>
 (cond c (Zgf b) (A ((I 7 C),()))).bind λg=>
 let d:=c&&(eqV (.arr 7 (.bool)) f.1 g.1)
 (cond d (uH a.2.1 b.2.1) (A (C,()))).bind λe=>
 (cond (d&&e.1) (oz a.2.2.2.1 b.2.2.2.1) (A (C,()))).bind λh=>
 A ((d&&e.1)&&h.1,())
def Q0(c:List Zf)(d:Unit)(e:List Zf)(a b:Int):Nat:=(a-b).toNat+1
def Qa:Nat->List Zf->Unit->List Zf->Int->Int->Oa Bool|0,_,_,_,_,_=>G|N+1,b,f,c,d,a=>cond (B (a<d)) (gG c a<|gG b a<|(uI (gK c a) (gK b a)).bind λe=>cond (!e.1) (A (C,())) (Qa N b () c d (E.wrap (a+1)))) (A (F,()))
def Qo(a b:List Zf):Oa Bool:=cond (a !=(b:Int)) (A (C,())) (Qa (Q0 b () a a (0:Int)) b () a a (0:Int))
def YV(a b:List Zf):Oa Bool:=(Qo a b).bind λc=>A (c.1,())
def Wg(c d:List Zj)(a b:Int):Nat:=(a-b).toNat+1
def Kj:Nat->List Zj->List Zj->Int->Int->Oa Bool|0,_,_,_,_=>G|N+1,b,c,d,a=>cond (B (a<d)) (gG b a<|gG c a<|cond (!(eqV Zt (gN b a) (gN c a))) (A (C,())) (Kj N b c d (E.wrap (a+1)))) (A (F,()))
def Wf(a b:List Zj):Oa Bool:=cond (a !=(b:Int)) (A (C,())) (Kj (Wg a b a (0:Int)) a b a (0:Int))
def xt(a b:Z6):Oa Bool:=(cond (a.1==b.1) (Wf a.2.1 b.2.1) (A (C,()))).bind λc=>A ((a.1==b.1)&&c.1,())
def Q3(c:List Z6)(d:Unit)(e:List Z6)(a b:Int):Nat:=(a-b).toNat+1
def Qb:Nat->List Z6->Unit->List Z6->Int->Int->Oa Bool|0,_,_,_,_,_=>G|N+1,b,f,c,d,a=>cond (B (a<d)) (gG c a<|gG b a<|(xt (gL c a) (gL b a)).bind λe=>cond (!e.1) (A (C,())) (Qb N b () c d (E.wrap (a+1)))) (A (F,()))
def Qq(a b:List Z6):Oa Bool:=cond (a !=(b:Int)) (A (C,())) (Qb (Q3 b () a a (0:Int)) b () a a (0:Int))
def yQ(a b:Ze):Oa Bool:=(YV a.2.2.2.1 b.2.2.2.1).bind λc=>(gH (!c.1) (Qq a.2.2.2.2.2.2.2.2.2.2.2.2.2.2.2.1 b.2.2.2.2.2.2.2.2.2.2.2.2.2.2.2.1)).bind λd=>cond ((!c.1)||(!d.1)) (A (C,())) (A ((((((((((((((((a.1==b.1)&&(eqV ot a.2.1 b.2.1))&&(eqV ot a.2.2.1 b.2.2.1))&&(eqV Qx a.2.2.2.2.1 b.2.2.2.2.1))&&(eqV Yi a.2.2.2.2.2.1 b.2.2.2.2.2.1))&&(eqV ci a.2.2.2.2.2.2.1 b.2.2.2.2.2.2.1))&&(eqV ci a.2.2.2.2.2.2.2.1 b.2.2.2.2.2.2.2.1))&&(eqV Qx a.2.2.2.2.2.2.2.2.1 b.2.2.2.2.2.2.2.2.1))&&(eqV Qx a.2.2.2.2.2.2.2.2.2.1 b.2.2.2.2.2.2.2.2.2.1))&&(a.2.2.2.2.2.2.2.2.2.2.1==b.2.2.2.2.2.2.2.2.2.2.1))&&(a.2.2.2.2.2.2.2.2.2.2.2.1==b.2.2.2.2.2.2.2.2.2.2.2.1))&&(a.2.2.2.2.2.2.2.2.2.2.2.2.1==b.2.2.2.2.2.2.2.2.2.2.2.2.1))&&(a.2.2.2.2.2.2.2.2.2.2.2.2.2.1==b.2.2.2.2.2.2.2.2.2.2.2.2.2.1))&&(a.2.2.2.2.2.2.2.2.2.2.2.2.2.2.1==b.2.2.2.2.2.2.2.2.2.2.2.2.2.2.1))&&(a.2.2.2.2.2.2.2.2.2.2.2.2.2.2.2.2.1==b.2.2.2.2.2.2.2.2.2.2.2.2.2.2.2.2.1))&&(a.2.2.2.2.2.2.2.2.2.2.2.2.2.2.2.2.2.1==b.2.2.2.2.2.2.2.2.2.2.2.2.2.2.2.2.2.1),()))
def ym(a:Ze):Oa Bool:=
 (ji a 400).bind λb=>
 (K7 a).bind λc=>
 (cond c.1 (ku a) (A (C,()))).bind λe=>
 let d:=(c.1&&e.1)&&(b.1.2.1==(-1:Int))
 (cond d (yQ a b.1.2.2.1) (A (C,()))).bind λf=>
 A (d&&f.1,())
def KW(b:Ze)(c:Int):Oc Zf Bool:=(Z4 b.2.2.2.1 c).bind λa=>cond (B (a.1<0)) (A (Zc,C,())) (gG b.2.2.2.1 a.1<|(eu (gK b.2.2.2.1 a.1)).bind λd=>A (d.1,F,()))
def Zd8(K1:(Ze×List Yk×Int×Unit)->Oa Bool)(K2:(Ze×List Yk×Int×Ze×Int×Unit)->Oa Bool)(c:Ze)(d:List Yk)(e:Int)(f:Ze)(b:Int)(a:Zf)(g:Bool):Oa Bool:=gG c.2.2.2.1 b<|cond ((((((((!g)||(B (a.2.2.2.1.2.2.2.1<(gK c.2.2.2.1 b).2.2.2.1.2.2.2.1)))||(B (a.2.1.2.2.2.2.2.2.2.1<(gK c.2.2.2.1 b).2.1.2.2.2.2.2.2.2.1)))||(B (a.2.1.1<(gK c.2.2.2.1 b).2.1.1)))||(B (a.2.2.1.1<(gK c.2.2.2.1 b).2.2.1.1)))||(B (a.2.2.2.2.1.2.2.1<(gK c.2.2.2.1 b).2.2.2.2.1.2.2.1)))||(B (a.2.2.1.2.1>a.2.2.1.1)))||(B (a.2.2.2.1.2.2.2.1>a.2.2.2.2.1.2.2.1))) (A (C,())) (cond ((((gK c.2.2.2.1 b).2.2.2.1.2.2.1 !=(-1:Int))&&(a.2.2.2.1.2.2.1 !=(gK c.2.2.2.1 b).2.2.2.1.2.2.1))||((a.2.2.2.1.2.2.1 !=(-1:Int))&&(B (a.2.2.2.1.2.2.2.1>a.2.2.2.1.2.2.1)))) (A (C,())) (K2 (c,d,e,f,E.wrap (b+1),())))
def rD(a:Ze)(c:List Yk)(d:Int)(e:Ze)(b:Int):Nat:=(a.2.2.2.1-b).toNat+1
def yw(K1:(Ze×List Yk×Int×Unit)->Oa Bool):Nat->Ze->List Yk->Int->Ze->Int->Oa Bool|0,_,_,_,_,_=>G|N+1,b,d,e,a,c=>cond (B (c<(b.2.2.2.1:Int))) (gG b.2.2.2.1 c<|dr 1 ((KW a (gK b.2.2.2.1 c).1).bind λf=>Zd8 K1 (λv=>yw K1 N v.1 v.2.1 v.2.2.1 v.2.2.2.1 v.2.2.2.2.1) b d e a c f.1 f.2.1)) (cond (((B (a.2.2.2.2.1.2.1>a.2.2.2.2.1.1))||(B (a.2.2.2.2.2.1.2.2.2.1>a.2.2.2.2.2.1.2.2.1)))||(B (a.2.2.2.2.2.2.2.2.2.2.2.2.2.2.1<b.2.2.2.2.2.2.2.2.2.2.2.2.2.2.1))) (A (C,())) (K1 (a,d,E.wrap (e+1),())))
def Zd7(K1:(Ze×List Yk×Int×Unit)->Oa Bool)(b:Ze)(g:List Yk)(h:Int)(i:Ba)(l:Ze)(c:Ba)(a:Ze):Oa Bool:=
 (gH (!(i==c)) (tc l a)).bind λm=>
 let d:=(!(i==c))||(!m.1)
 (gH d (QG a)).bind λj=>
 (cond (d||(!j.1)) (A ([],())) (QI a)).bind λn=>
 bif(d||(!j.1))||(!(n.1==[]))then
  A (C,())
 else
  (gz b).bind λe=>
  let f:= !(c==([99,108,111,115,101,100]:Ba))
  (gH f (cond e.1 (tc a b) (A (C,())))).bind λk=>
  (gH (f||(!k.1)) (cond e.1 (ym b) (A (C,())))).bind λo=>
  bif e.1&&((f||(!k.1))||(!o.1))then
   A (C,())
  else
   yw K1 (rD b g h a (0:Int)) b g h a (0:Int)
def Zd6(K1:(Ze×List Yk×Int×Unit)->Oa Bool)(c:Ze)(b:List Yk)(a:Int)(e:Ba)(f:Ze):Oa Bool:=gG b a<|dr 1 ((zf c (gO b a)).bind λd=>Zd7 K1 c b a e f d.1.1 d.1.2.1)
def zM(c:Ze)(a:List Yk)(b:Int):Nat:=(a-b).toNat+1
def tu:Nat->Ze->List Yk->Int->Oa Bool|0,_,_,_=>G|N+1,c,b,a=>cond (B (a<(b:Int))) (gG b a<|dr 1 ((yP c (gO b a)).bind λd=>Zd6 (λv=>tu N v.1 v.2.1 v.2.2.1) c b a d.1.1 d.1.2.1)) (A (F,()))
def Zgl(b:List Int):Oa Bool:=(Z0i b).bind λc=>cond c.1 (A (F,())) ((xI b).bind λa=>tu (zM a.1 a.2.1 (0:Int)) a.1 a.2.1 (0:Int))
end Go.Proofs.YtahnlnkboamdmaaGreatDoor

/- No condition. -/
import Derived.Test.YtahnlnkboamdmaaGreatDoorP1
set_option linter.all false
namespace Go.Proofs.YtahnlnkboamdmaaGreatDoor
noncomputable section
open Go.Am
set_option maxRecDepth 100000
open Option renaming some→K2,bind→Ld,none→Lj
open Bool renaming true→K3,false→Lc,false_or→Lf,and_self→Lg,or_self→Lh,false_and→Li,and_false→Lk,not_false→Ls,or_eq_false_iff→Lv,not_eq_true'→Lw,not_eq_false'→L7,not_eq_true→L8,or_true→L9,and_eq_false_iff→Mf,and_true→Mg,noConfusion→Mh,or_false→Mi
open Decidable renaming decide→K4
open Go renaming IntKind→La
open IntKind renaming i64→Lb,u8→L5,bits→Ml,signed→Mm,wrap→Mn
open Int renaming le_refl→Le,reduceBEq→Ln,reduceGE→Lo,reduceLT→Lp,tmod→Lt,tdiv→Ma,eq_ofNat_of_zero_le→Mj,natCast_zero→Mk
open Eq renaming trans→Ll
open BitVec renaming ofInt→Lm
open List renaming mem_cons_of_mem→Lq,mem_cons_self→Lr,replicate→Lu,drop_eq_nil_of_le→Lx,drop_of_length_le→Ly,length_pos_iff→Lz,map_cons→L0,mem_cons→L1,pairwise_cons→L2,set_set→L3,length_set→Mb,mem_map→Mc,getD_eq_getElem?_getD→Mo,getElem?_eq_getElem→Mp,length→Mq,length_append→Mr,length_cons→Ms,mem_singleton→Mt,pairwise_map→Mu,set_cons_succ→Mw,take_succ_eq_append_getElem→Mx
open Nat renaming zero_le→L4,pow_le_pow_right→L6,le_trans→Md,le_refl→My
open UInt8 renaming toNat_lt→Me
open List.Pairwise renaming cons→Mz,nil→M0
variable{v:Bool}{a n o id k:Int}{d:Ba}{l:List Zf}{K i:Nat}{w:Ql}{α β:Type}{c x:Ze}{s:Zf}{f:Zj}{r:Zu}{b:Zv}{m:Option α}{Q:α->Prop}
def sB:Option Int->List Zf->Bool
 |_,[]=>K3
 |p,x::r=>(stB x&&(match p with|none=>K3|some q=>K4 (q<x.1)))&&sB (K2 x.1) r
theorem Qkl:∀{l:List Zf}{p:Option Int},sB p l=K3↔(∀s∈l,stB s=K3)/\l.Pairwise (λa b=>a.1<b.1)/\ ∀q,p=K2 q-> ∀s∈l,q<s.1
 |[],p=>by simp[sB]
 |x::r,p=>by
  have c:(match p with|none=>K3|some q=>K4 (q<x.1))=K3↔ ∀q,p=K2 q->q<x.1:=by cases p<;>simp
  simp only[sB,pC,c,Qkl (l:=r),L2,L1,forall_eq_or_imp]
  grind
def pvS(l:List Zf)(i:Nat):Option Int:=ite (i=0) Lj (K2 (l.getD (i-1) Zc).1)
theorem Qhe{K:Nat}{l:List Zf}(h:mi K l)(hK:K<=1000000):∀(N i:Nat),l-i<N->i<=l->Jh N l (i:Int)=K2 (sB (pvS l i) (l.drop i)&&K4 ((l:Int)<=24),())
 |0,_,h,_=>Aa
 |N+1,i,n,o=>by
  have c:=h.len;rw[Jh];by_cases b:i<l
  ·have g:∀{a:Prop},a->K4 ((i:Int)>0)=K3->0<=Lb.wrap ((i:Int)-1)/\Lb.wrap ((i:Int)-1)<l:=λ_ h=>by
    have:=pE h;grind[Zr]
   rw[Zn (Zl),Zb,show(i:Int).toNat=i from rfl,stE (h.all _ (Z2 (d:=Zc) b)) hK,pA,Zb (λ_ _=>Aa),Zb (λh j=>g h j),Zs b,Qhe h hK N (i+1) Aa Aa,Qy (d:=Zc) b];have e:pvS l (i+1)=K2 (l.getD i Zc).1:=by rfl
   rw[e];simp only[sB];by_cases k:i=0
   ·subst k;have f:pvS l 0=none:=rfl
    grind
   ·have f:pvS l i=K2 (l.getD (i-1) Zc).1:=by simp_all[pvS]
    have m:(Lb.wrap ((i:Int)-1)).toNat=i-1:=Ao
    rw[f,Zl (p:=(i:Int)>0),m]
    grind
  simp_all[Zm,Lx,sB]
structure Qwi(l:List Zf):Prop where
 all:∀s∈l,stB s=K3
 srt:l.Pairwise λa b=>a.1<b.1
 len:l.length<=24
def Z3b(l:List Zf):Bool:=sB Lj l&&K4 ((l:Int)<=24)
theorem Qsw(h:mi K l)(hK:K<=1000000):Vj l=K2 (Z3b l,()):=by
 unfold Vj;exact Qhe h hK _ 0 (by simp[cX]) Aa
theorem Z97:Z3b l=K3↔Qwi l:=by
 unfold Z3b;simp only[pC,Qkl,decide_eq_true_eq];constructor
 ·rintro⟨⟨a,b,-⟩,c⟩;exact⟨a,b,Aa⟩
 ·rintro⟨a,b,c⟩
  grind
def Z27(f:Zf->Int):List Zf->Int->Int|[],n=>n|x::r,n=>Z27 f r (min (Lb.wrap (n+f x)) 4611686018427387904)
def lg(f:Zf->Int):List Zf->Int|[]=>0|x::r=>f x+lg f r
theorem Zac{f:Zf->Int}:∀{l:List Zf}{n:Int},(∀s∈l,0<=f s/\f s<=4611686018427387903)->0<=n->n<=4611686018427387904->Z27 f l n=min (n+lg f l) 4611686018427387904/\0<=lg f l
 |[],n,_,c,d=>by grind[Z27,lg]
 |x::r,n,h,c,d=>by
  have hx:=h x (Lr);simp only[Z27,lg];rw[Zr];obtain⟨a,b⟩:=Zac (f:=f) (l:=r) (n:=min (n+f x) 4611686018427387904) (λs hs=>h s (Lq _ hs)) Aa Aa;rw[a];omega
def j0(s:Zf):Int:=s.2.1.2.2.2.2.2.2.2.1
def mY(s:Zf):Int:=s.2.2.2.1.2.2.2.1
theorem Qp0(h:mi K l)(hK:K<=1000000)(hb:Z3b l=K3):iC l=K2 (Z27 j0 l 0,()):=by
 have a:=h.len;have e:∀(N i:Nat)(n:Int),l-i<N->i<=l->Vy N l n (i:Int)=K2 (Z27 j0 (l.drop i) n,()):=by
  intro N
  induction N with
  |zero=>omega
  |succ N c=>
   intro i n f g;unfold Vy;rw[Qsw h hK,hb,J5,pA];by_cases b:i<l
   ·rw[Zl];simp only[pG,Lg];rw[Zb,Zs b,c (i+1) _ Aa Aa,Qy (d:=Zc) b];rfl
   ·rw[Zm,Lx Aa];rfl
 grind[iC,J0]
theorem Qpx(h:mi K l)(hK:K<=1000000)(hb:Z3b l=K3):iB l=K2 (Z27 mY l 0,()):=by
 have a:=h.len;have e:∀(N i:Nat)(n:Int),l-i<N->i<=l->Vx N l n (i:Int)=K2 (Z27 mY (l.drop i) n,()):=by
  intro N
  induction N with
  |zero=>omega
  |succ N c=>
   intro i n f g;unfold Vx;rw[Qsw h hK,hb,J5,pA];by_cases b:i<l
   ·rw[Zl];simp only[pG,Lg];rw[Zb,Zs b,c (i+1) _ Aa Aa,Qy (d:=Zc) b];rfl
   ·rw[Zm,Lx Aa];rfl
 grind[iB,Jz]
theorem Qwv{l:List Zj}(h:Zwn l):iG l=K2 (l.all Xa,()):=by
 have c:=h.1;have g:∀(N i:Nat),l-i<N->i<=l->ax N l (i:Int)=K2 ((l.drop i).all Xa,()):=by
  intro N
  induction N with
  |zero=>intro i h;omega
  |succ N e=>
   intro i j k;unfold ax;by_cases a:i<l
   ·have f:FOK (l.getD i Qc):=h.2 _ (Z2 a);unfold FOK at f;rw[Zn (Zl),Zb,show(i:Int).toNat=i from rfl,xL _,pA,Zs a,e (i+1) Aa Aa,Qy (d:=Qc) a,List.all_cons];generalize Xa (l.getD i Qc)=b;cases b<;>rfl
   grind
 grind[iG,Wm]
def pkB(n:Int):Option Int->List Z6->Bool
 |_,[]=>K3
 |p,x::r=>((inB x.1 0 (Lb.wrap (n-1))&&(match p with|none=>K3|some q=>K4 (q<x.1)))&&x.2.1.all Xa)&&pkB n (K2 x.1) r
def pvP(l:List Z6)(i:Nat):Option Int:=ite (i=0) Lj (K2 (l.getD (i-1) Q1).1)
def Zwi(c:Ze):Bool:=((((inB c.2.2.2.2.2.2.2.2.2.2.2.2.2.1 (-1) 4611686018427387903&&inB c.2.2.2.2.2.2.2.2.2.2.2.2.2.2.1 0 1000000)&&inB c.2.2.2.2.2.2.2.2.2.2.2.2.2.2.2.2.1 0 1000000)&&inB c.2.2.2.2.2.2.2.2.2.2.2.2.2.2.2.2.2.1 0 255)&&K4 (Z27 j0 c.2.2.2.1 0<=c.2.2.2.2.1.2.1))&&K4 (Z27 mY c.2.2.2.1 0<=c.2.2.2.2.2.1.2.2.2.1)
theorem Qc6{K:Nat}{c:Ze}(h:Q5 K c)(hK:K<=1000000)(hb:Z3b c.2.2.2.1=K3):∀(N i:Nat),c.2.2.2.2.2.2.2.2.2.2.2.2.2.2.2.1-i<N->i<=c.2.2.2.2.2.2.2.2.2.2.2.2.2.2.2.1->
  dL N c (i:Int)=K2 (pkB c.2.2.2.2.2.2.2.2.2.2.2.2.2.2.1 (pvP c.2.2.2.2.2.2.2.2.2.2.2.2.2.2.2.1 i) (c.2.2.2.2.2.2.2.2.2.2.2.2.2.2.2.1.drop i)&&Zwi c,())
 |0,_,h,_=>Aa
 |N+1,i,q,r=>by
  have f:=h.pk.1;rw[dL];by_cases b:i<c.2.2.2.2.2.2.2.2.2.2.2.2.2.2.2.1
  ·have j:=Qc6 h hK hb N (i+1) Aa Aa;have k:=h.pk.2 _ (Z2 (d:=Q1) b);generalize c.2.2.2.2.2.2.2.2.2.2.2.2.2.2.1=n at*
   generalize c.2.2.2.2.2.2.2.2.2.2.2.2.2.2.2.1=l at*
   have g:∀{a:Prop},a->K4 ((i:Int)>0)=K3->0<=Lb.wrap ((i:Int)-1)/\Lb.wrap ((i:Int)-1)<l:=λ_ h=>by
    have:=pE h;grind[Zr]
   rw[Zn (Zl),Zb,show(i:Int).toNat=i from rfl,inQ,pA,Zb (λ_ _=>Aa),Zb (λh m=>g h m),Zb (λ_=>Aa),Zs b,j,Qy (d:=Q1) b,Qwv k,J5,pA];have e:pvP l (i+1)=K2 (l.getD i Q1).1:=by rfl
   rw[e];simp only[pkB];by_cases o:i=0
   ·subst o;have p:pvP l 0=none:=rfl
    grind
   ·have p:pvP l i=K2 (l.getD (i-1) Q1).1:=by simp_all[pvP]
    have s:(Lb.wrap ((i:Int)-1)).toNat=i-1:=Ao
    grind
  ·rw[Zp (Zm),Lx Aa];simp only[pkB,pJ,inQ,pA,bA,bA2,Qp0 h.str hK hb,Qpx h.str hK hb];unfold Zwi
   grind
structure Zlo(c:Ze):Prop where
 own:cfB c.2.1=K3
 peer:cfB c.2.2.1=K3
 sts:Z3b c.2.2.2.1=K3
 tot:Zh5 c.2.2.2.2.1=K3
 inf:Zil c.2.2.2.2.2.1=K3
 ob:WM c.2.2.2.2.2.2.1=K3
 ou:WM c.2.2.2.2.2.2.2.1=K3
 ab:Ziq c.2.2.2.2.2.2.2.2.1=K3
 au:Ziq c.2.2.2.2.2.2.2.2.2.1=K3
 pks:pkB c.2.2.2.2.2.2.2.2.2.2.2.2.2.2.1 Lj c.2.2.2.2.2.2.2.2.2.2.2.2.2.2.2.1=K3
 tail:Zwi c=K3
def bP(c:Ze):Bool:=match Jn c with|some (b,_)=>b|none=>Lc
theorem Zb2(h:Q5 K c)(hK:K<=1000000:=by omega):Jn c=K2 (bP c,()):=by
 obtain⟨⟨b,u⟩,e,-⟩:=Ztp h hK
 grind[bP]
theorem Zf3(h:Q5 K c)(hK:K<=1000000:=by omega):bP c=K3↔Zlo c:=by
 unfold bP Jn gH;simp only[cfE,Qsw h.str hK,Z2o,Qag,Qfh,Qhd,pA,bO,bO2];by_cases a:((((((((!cfB c.2.1|| !cfB c.2.2.1)|| !Z3b c.2.2.2.1)|| !Zh5 c.2.2.2.2.1)|| !Zil c.2.2.2.2.2.1)|| !WM c.2.2.2.2.2.2.1)|| !WM c.2.2.2.2.2.2.2.1)|| !Ziq c.2.2.2.2.2.2.2.2.1)|| !Ziq c.2.2.2.2.2.2.2.2.2.1)=K3
 ·rw[a,pG];refine⟨λh=>Mh h,λh=>?_⟩;rw[h.own,h.peer,h.sts,h.tot,h.inf,h.ob,h.ou,h.ab,h.au]at a;simp at a
 ·have a:((((((((!cfB c.2.1|| !cfB c.2.2.1)|| !Z3b c.2.2.2.1)|| !Zh5 c.2.2.2.2.1)|| !Zil c.2.2.2.2.2.1)|| !WM c.2.2.2.2.2.2.1)|| !WM c.2.2.2.2.2.2.2.1)|| !Ziq c.2.2.2.2.2.2.2.2.1)|| !Ziq c.2.2.2.2.2.2.2.2.2.1)=false:=by simpa using a
  rw[a,pH];simp only[Lv,L7]at a;obtain⟨⟨⟨⟨⟨⟨⟨⟨e,f⟩,b⟩,g⟩,i⟩,j⟩,k⟩,l⟩,m⟩:=a;have d:=Qc6 h hK b (aa c 0) 0 (by simp[aa]) Aa;simp only[Mk,List.drop_zero]at d;rw[d];simp only[pC];exact⟨λh=>⟨e,f,b,g,i,j,k,l,m,h.1,h.2⟩,λh=>⟨h.pks,h.tail⟩⟩
structure StF(s:Zf):Prop where
 id:0<=s.1/\s.1<=4611686018427387903
 snd:Qai s.2.1
 cre:Zpt s.2.2.1
 rcv:Zxj s.2.2.2.1=K3
 win:Zh4 s.2.2.2.2.1
 pr:0<=s.2.2.2.2.2.1.1/\s.2.2.2.2.2.1.1<=7
 code:0<=s.2.2.2.2.2.2.2.2.2.2.2.2.1/\s.2.2.2.2.2.2.2.2.2.2.2.2.1<=4611686018427387903
 can:s.2.2.2.2.2.2.1=K3\/s.2.2.2.2.2.2.2.1=K3
 su:s.2.1.2.2.2.2.2.2.2.1<=s.2.2.1.2.1
 hs:s.2.2.2.1.2.2.2.1<=s.2.2.2.2.1.2.2.2.1
 tr:s.2.2.2.2.2.2.2.2.1=K3->s.2.1.1=4
 ts:s.2.2.2.2.2.2.2.2.2.1=K3->s.2.2.2.2.2.2.2.2.2.2.2.1=K3
 sc:s.2.2.2.2.2.2.2.2.2.2.2.2.1≠0->s.2.2.2.2.2.2.2.2.2.2.2.1=K3
 cs:s.2.2.2.2.2.2.1=K3\/(s.2.1.1=0/\s.2.1.2.1.2.2.1=0/\s.2.1.2.2.2.2.2.1= -1)
 cr:s.2.2.2.2.2.2.2.1=K3\/(s.2.2.2.1.1=0/\s.2.2.2.1.2.2.2.1=0/\s.2.2.2.2.2.2.2.2.2.2.2.1=Lc)
theorem Qnp(h:Xc K s)(hK:K<=1000000):stB s=K3↔StF s:=by
 unfold stB prB;simp only[pC,Bool.or_eq_true,Lw,Lv,Mf,decide_eq_false_iff_not,bne_eq_false_iff_eq,beq_iff_eq,Ws,X4,Zsl h.snd (show(K:Int)<=1000000 by omega),Z76,Zim,L7];constructor
 ·rintro⟨⟨⟨⟨⟨⟨⟨⟨⟨g,i⟩,j⟩,k⟩,l⟩,m⟩,n⟩,o⟩,⟨⟨⟨p,a⟩,b⟩,c⟩,d⟩,e,f⟩;exact⟨g,i,j,k,l,m,n,o,Aa,Aa,λh=>Ac,λh=>Ac,
   λh=>Ac,Ag,Ag⟩
 ·rintro⟨g,i,j,k,l,m,n,o,p,a,b,c,d,e,f⟩
  grind
theorem Zlo.st(hc:Zlo c)(h:Q5 K c)(hK:K<=1000000)(hs:s∈c.2.2.2.1):StF s:=(Qnp (h.str.all s hs) hK).1 ((Z97.1 hc.sts).all s hs)
theorem Zlo.num(hc:Zlo c):0<=c.2.2.2.2.2.2.2.2.2.2.2.2.2.2.1/\c.2.2.2.2.2.2.2.2.2.2.2.2.2.2.1<=1000000:=by
 have:=hc.tail;simp_all[Zwi,Ws]
theorem Zso:∀{l:List Zf},(l.Pairwise λa b=>a.1<b.1)-> ∀{x y:Zf},x∈l->y∈l->x.1=y.1->x=y
 |[],_,_,_,hx,_,_=>by cases hx
 |z::l,h,x,y,hx,hy,e=>by
  obtain⟨d,c⟩:=L2.1 h;rcases L1.1 hx with hx|hx
  ·grind
  ·rcases L1.1 hy with hy|hy
   ·grind
   ·exact Zso c hx hy e
theorem qw{K:Int}{s:Zk}(h:Jr K s)(hK:K<=1000000:=by omega):Wo s=K2 (s,()):=by
 have a:=Qm h.pend h.e0 h.eK hK;have b:=Qm h.pT h.e0 h.eK hK;have c:=Qm h.pO h.e0 h.eK hK;have d:=h.cells;unfold Wo kw
 grind[Zb,Qp,z7]
theorem Zca(h:Xc K s)(hK:K<=1000000:=by omega):eu s=K2 (s,()):=by
 have a:=h.rcv.len;unfold eu bG ej;rw[qw h.snd,Zb Aj];rfl
theorem KO{K:Nat}{l:List Zf}(h:mi K l)(hK:K<=1000000):∀(N i:Nat),l.length-i<N->i<=l.length->jw N (l.take i) l (l.length:Int) (i:Int)=K2 (l,())
 |0,_,h,_=>Aa
 |N+1,i,b,c=>by
  have f:=h.len;unfold jw gG gK;by_cases a:i<l.length
  ·rw[Zn (Zl),Zb,show(i:Int).toNat=i from rfl,Zca (h.all _ (Z2 (d:=Zc) a)) hK,pA,Zb Aj,Zs a];have e:l.take i++[l.getD i Zc]=l.take (i+1):=by
    simp_all
   rw[e];exact KO h hK N (i+1) Aa Aa
  grind
theorem Zm6{K:Nat}{l:List Z6}(h:Zyl K l)(hK:K<=1000000):∀(N i:Nat),l.length-i<N->i<=l.length->jv N (l.take i) l (l.length:Int) (i:Int)=K2 (l,())
 |0,_,h,_=>Aa
 |N+1,i,b,c=>by
  have f:=h.1;unfold jv gG gL;by_cases a:i<l.length
  ·have g:=(h.2 _ (Z2 (d:=Q1) a)).1;rw[Zn (Zl),Zb,show(i:Int).toNat=i from rfl,Zb Aj];simp only[List.nil_append];rw[Zb Aj,Zs a];have e:l.take i++[((l.getD i Q1).1,(l.getD i Q1).2.1,())]=l.take (i+1):=by
    grind[Mx]
   rw[e];exact Zm6 h hK N (i+1) Aa Aa
  grind
theorem Wt(h:Q5 K c)(hK:K<=1000000:=by omega):Zw c=K2 (c,()):=by
 have a:=KO h.str hK (Wv ([]:List Zf) c.2.2.2.1 (c.2.2.2.1.length:Int) (0:Int)) 0 (by simp[Wv]) Aa;have b:=Zm6 h.pk hK (gj ([]:List Z6) c.2.2.2.2.2.2.2.2.2.2.2.2.2.2.2.1 (c.2.2.2.2.2.2.2.2.2.2.2.2.2.2.2.1.length:Int) (0:Int)) 0 (by simp[gj]) Aa;simp_all[Zw,cP,YW]
theorem vj(h:Q5 K c)(hK:K<=1000000:=by omega):J2 c=K2 (bP c&& !(c.2.2.2.2.2.2.2.2.2.2.2.2.2.2.2.2.2.1 !=(0:Int)),()):=by
 grind[J2,gz,Zb2]
theorem zu(h:Q5 K c)(hK:K<=1000000:=by omega):Jl c=J2 c:=by
 unfold Jl J2;rw[xv h hK];rfl
theorem Qbr(w:Ql):QM w=dN w:=rfl
theorem Z6w(w:Ql)(n t:Int):pa w n t=db w n t:=rfl
theorem Qqr(c:Ky):uG c=iW c:=rfl
theorem Qu3(c:Ky):xm c=kT c:=rfl
theorem Z0l(a:Qu):vw a=iA a:=by
 grind[vw,iA,Z0b]
theorem Zwa(a:Qu):mB a=jl a:=by
 simp[mB,jl,Z0l]
theorem Qcp(c:Ky)(n:Int):v5 c n=lX c n:=by
 unfold v5 gH lX;rw[Zlc,Z2o,pA,pA,bN]
 grind
def Pc{α:Type}(m:Option α)(Q:α->Prop):Prop:= ∀y,m=K2 y->Q y
section
variable {α β:Type}{m n:Option α}{f:α->Option β}{Q:α->Prop}{R:β->Prop}
theorem Pc.bind(h:Pc m Q)(k:∀y,Q y->Pc (f y) R):Pc (Ld m f) R:=λy e=>by
 cases hm:m with
 |none=>simp_all
 |some x=>rw[hm]at e;exact k x (h x hm) y e
theorem Pc.any:Pc m λ_=>True:=λ_ _=>trivial
theorem Pc.skip(k:∀y,Pc (f y) R):Pc (Ld m f) R:=Pc.any.bind λy _=>k y
theorem Pc.pure{y:α}(h:Q y):Pc (K2 y) Q:=λz e=>by cases e;exact h
theorem Pc.ite{c:Bool}(h1:c=K3->Pc m Q)(h2:c=Lc->Pc n Q):Pc (cond c m n) Q:=by
 grind
theorem Pc.guard{p:Prop}(h:Pc m Q):Pc (Zh p m) Q:=λy e=>by
 by_cases a:p
 ·rw[Zb a]at e;exact h y e
 simp_all[Zh]
end
theorem T.pc{R:α->Prop}(h:T m Q)(k:Pc m R):T m λy=>Q y/\R y:=by
 obtain⟨y,e,a⟩:=h;exact⟨y,e,a,k y e⟩
theorem Pc.if{n:Option α}{c:Bool}(h1:Pc m Q)(h2:Pc n Q):Pc (cond c m n) Q:=Pc.ite (λ_=>h1) λ_=>h2
theorem Pc.none{α:Type}{Q:α->Prop}:Pc (none:Option α) Q:=λ_ e=>by cases e
def WJ(v:Bool)(s:Zf):Prop:=(s.2.2.2.2.2.2.1=Lc/\s.2.2.2.2.2.2.2.1=Lc)\/(Jy v s.1=K2 (s.2.2.2.2.2.2.1,())/\Ym v s.1=K2 (s.2.2.2.2.2.2.2.1,()))
structure KC(v:Bool)(c:Ze):Prop where
 sv:c.1=v
 str:∀s∈c.2.2.2.1,WJ v s
section
variable {v:Bool}
theorem Qtm:WJ v Zc:=.inl ⟨rfl,rfl⟩
theorem Qum(h:∀s∈l,WJ v s)(i:Nat):WJ v (l.getD i Zc):=by
 grind[Z2,Qtm]
theorem Z75(h:WJ v s):Pc (dR s) λr=>WJ v r.1:=by
 unfold dR;exact Pc.skip λt=>Pc.skip λa=>Pc.pure h
theorem Qql(h:∀x∈l,WJ v x)(hs:WJ v s):∀x∈l++[s],WJ v x:=λx hx=>by
 grind
theorem Qj5{l:List Zf}{s:Zf}(h:∀x∈l,WJ v x)(hs:WJ v s)(a:Int):∀(N:Nat)(out:List Zf)(p:Bool)(i:Int),(∀x∈out,WJ v x)->Pc (Xz N l s out a p i) λr=> ∀x∈r.1,WJ v x
 |0,_,_,_,_=>Pc.none
 |N+1,out,p,i,c=>by
  unfold Xz;have j:∀o q x,(∀x∈o,WJ v x)->WJ v x->Pc (Kk (λv=>Xz N v.1 v.2.1 v.2.2.1 v.2.2.2.1 v.2.2.2.2.1 v.2.2.2.2.2.1) l s o a q i x) λr=> ∀x∈r.1,WJ v x:=λo q x f b=>by
   unfold Kk;exact Pc.guard (Qj5 h hs a N _ _ _ (Qql f b))
  exact Pc.if (Pc.guard ((Z75 (Qum h _)).bind λt d=>Pc.if ((Z75 hs).bind λe b=>j _ _ _ c b) (Pc.guard (Pc.if ((Z75 hs).bind λe b=>Pc.guard (j _ _ _ (Qql c b) d)) (j _ _ _ c d))))) (Pc.if ((Z75 hs).bind λe b=>Pc.guard (Pc.pure (Qql c b))) (Pc.pure c))
theorem Qsg(h:∀x∈l,WJ v x)(hs:WJ v s):Pc (Q8 l s) λr=> ∀x∈r.1,WJ v x:=by
 grind[Q8,Pc.skip,Qj5]
theorem KC.put(h:KC v c)(hs:WJ v s):Pc (Q8 c.2.2.2.1 s) λr=> ∀x∈r.1,WJ v x:=Qsg h.str hs
theorem Qnq(h:KC v c)(i:Int):Pc (Xt c i) λr=>WJ v r.1:=by
 unfold Xt;exact Pc.skip λt=>Pc.if (Pc.pure Qtm) (Pc.guard ((Z75 (Qum h.str _)).bind λb a=>Pc.pure a))
theorem Qbv(id:Int)(o p:ks):Pc (Vq v id o p) λr=>WJ v r.1:=by
 unfold Vq gH;exact Pc.skip λd=>Pc.skip λf=>Pc.skip λg=>Pc.if (Pc.pure Qtm) (Pc.skip λh=>Pc.skip λi=>Pc.bind (Q:=λy=>Jy v id=K2 y) (λy e=>e) λj a=>Pc.bind (Q:=λy=>Ym v id=K2 y) (λy e=>e) λk b=>Pc.skip λl=>Pc.skip λm=>Pc.skip λc=>Pc.pure (.inr ⟨a,b⟩))
end
section
variable {v:Bool}
theorem Zit(h:KC v c)(i:Int):Pc (ua c i) λr=>KC v r.2.1:=by
 unfold ua tO;exact(Qnq h i).bind λs hs=>Pc.skip λb=>Pc.skip λd=>(h.put (by exact hs)).bind λe a=>Pc.pure ⟨h.sv,a⟩
end
theorem Qhh{f g:α->Option β}(h:∀y,f y=g y):Ld m f=Ld m g:=by
 have:f=g:=funext h;rw[this]
theorem Qp3(c:Ze)(w:Ql)(a:Bool):ij c w a=Ld (dN w) λt=>cond t.1 (Ld (db w c.2.2.2.2.2.2.2.2.2.2.2.2.2.2.2.2.1 c.2.1.2.2.2.2.2.2.2.1) λr=>K2 (r.1.2.2.1,r.2.1,())) (K2 (w.2.2.1,a,())):=by
 unfold ij;rw[Qbr];refine Qhh λt=>?_;cases t.1<;>rfl
theorem Qp2(a:Qu)(b:Bool):v8 a b=Ld (hQ a b) λt=>K2 (t.1.2.1,t.2.1,()):=by
 unfold v8 hQ;rw[Z0l,Zwa];cases iA a with
 |none=>rfl
 |some t=>
  simp only[pA];cases t.1
  ·rfl
  ·cases jl a<;>rfl
theorem Qxb(c:Ze)(s:Zf)(o:List Zj):bt c s o=dV c s o:=by
 unfold bt dV qk;rw[Qp3];have e:((!s.2.2.2.2.2.2.2.1||(s.2.2.2.1.1 !=0))||s.2.2.2.2.2.2.2.2.2.2.2.1)= !((s.2.2.2.2.2.2.2.1&&(s.2.2.2.1.1==0))&& !s.2.2.2.2.2.2.2.2.2.2.2.1):=by
  grind
 rw[e];generalize ((s.2.2.2.2.2.2.2.1&&(s.2.2.2.1.1==0))&& !s.2.2.2.2.2.2.2.2.2.2.2.1)=b;cases b
 ·rfl
 ·simp only[pG,pI,pH];cases dN s.2.2.2.2.1 with
  |none=>rfl
  |some t=>
   simp only[pA];cases t.1
   ·rfl
   ·simp only[pG];cases db s.2.2.2.2.1 c.2.2.2.2.2.2.2.2.2.2.2.2.2.2.2.2.1 c.2.1.2.2.2.2.2.2.2.1<;>rfl
theorem Qxa(c:Ze)(s:Zf)(h:0<=s.2.2.2.1.1)(o:List Zj):br c s o=dU c s o:=by
 unfold br dU lG;have e:K4 (s.2.2.2.1.1<2)=((s.2.2.2.1.1==0)||(s.2.2.2.1.1==1)):=by
  grind
 simp_all[bA,Qxb]
theorem Z3a(c:Ze)(s:Zf)(h:0<=s.2.2.2.1.1):kf c s=qi c s:=by
 simp_all[kf,qi,Qxa]
theorem Qt2{c:Ze}(h:∀s∈c.2.2.2.1,0<=s.2.2.2.1.1)(hl:c.2.2.2.1.length<=1000000):∀(N i:Nat)(o:List Zj),fg N c o c.2.2.2.1 (c.2.2.2.1.length:Int) (i:Int)=ak N c o (i:Int)
 |0,_,_=>rfl
 |N+1,i,o=>by
  rw[fg,ak];by_cases a:i<c.2.2.2.1.length
  ·rw[Zn (Zl),Zn (Zl),Zb,Zb,show(i:Int).toNat=i from rfl,Z3a _ _ (h _ (Z2 (d:=Zc) a)),Zs a];refine Qhh λt=>?_;rw[Qt2 h hl N (i+1)]
  ·rw[Zp (Zm),Zp (Zm)];rfl
theorem Qwm(h:∀s∈c.2.2.2.1,0<=s.2.2.2.1.1)(hl:c.2.2.2.1.length<=1000000)(o:List Zj):ff c o=ai c o:=by
 unfold ff ai;exact Qt2 h hl _ 0 o
theorem Qon{γ:Type}{f:α->Option β}{g:β->Option γ}:Ld (Ld m f) g=Ld m λy=>Ld (f y) g:=by cases m<;>rfl
theorem Zzc(h:Q5 K c)(hK:K<=1000000):rt c=fQ c:=by
 unfold rt fQ;rw[zu h hK,vj h hK,pA,pA];by_cases a:bP c=K3
 ·have hs:∀s∈c.2.2.2.1,0<=s.2.2.2.1.1:=λs hs=>Qj7 (h.str.all s hs).rcv hK (((Zf3 h hK).1 a).st h hK hs).rcv;have e:=h.str.len;have f:∀o,fe c o=ah c o:=λo=>by
   grind[fe,ah,Qp2,Qwm]
  have d:∀o,fd c o=ag c o:=λo=>by
   grind[fd,ag,Qp2]
  simp only[d,Qp3,ub];generalize (bP c&&_)=b;cases b
  ·rfl
  ·simp only[pI,pH,Qon];refine Qhh λt=>?_;cases t.1
   all_goals simp[Qon]
 simp_all
def mrB(w:Ql):Bool:=(Zil w&&K4 (w.2.2.1<(4611686018427387903:Int)))&&K4 ((Lb.wrap ((Lb.wrap (w.2.2.2.2.1+w.1))-w.2.2.1))>=(Lb.wrap (Ma (Lb.wrap (w.1+(1:Int))) (2:Int))))
theorem mrE(w:Ql):dN w=K2 (mrB w,()):=by
 unfold dN;rw[Qag,pA];exact Zb (λ_=>Ai)
def Zva(w:Ql)(now trip:Int):Bool:=(mrB w&&inB now w.2.2.2.2.2.1 1000000)&&inB trip 1 1000
def rwZ(w:Ql)(now trip:Int):Int:=cond (K4 ((Lb.wrap (now-w.2.2.2.2.2.1))<(Lb.wrap ((2:Int)*trip)))) (min (Lb.wrap ((2:Int)*w.1)) w.2.1) w.1
def rwW(w:Ql)(now trip:Int):Ql:=(rwZ w now trip,w.2.1,min (Lb.wrap (w.2.2.2.2.1+rwZ w now trip)) (4611686018427387903:Int),w.2.2.2.1,w.2.2.2.2.1,now,w.2.2.2.2.2.2)
def rwV(w:Ql)(now trip:Int):Ql:=cond (Zva w now trip) (rwW w now trip) w
theorem rwE(w:Ql)(now trip:Int):db w now trip=K2 (rwV w now trip,Zva w now trip,()):=by
 unfold db gH oL;simp only[mrE,inQ,pA,bO,bO2];have e:((!mrB w|| !inB now w.2.2.2.2.2.1 1000000)|| !inB trip 1 1000)= !Zva w now trip:=by
  simp_all[Zva]
 rw[e];unfold rwV rwW rwZ
 grind
theorem Z63{now trip:Int}(h:mrB w=Lc):Zva w now trip=false:=by simp_all[Zva]
def maB(a:Qu):Bool:=(Ziq a&&K4 ((Lb.wrap ((Lb.wrap (a.2.2.2.1+a.1))-a.2.1))>=(Lb.wrap (Ma (Lb.wrap (a.1+(1:Int))) (2:Int)))))&&K4 (a.1>(0:Int))
theorem maE(a:Qu):iA a=K2 (maB a,()):=by
 unfold iA;rw[Qhd,pA];exact Zb (λ_=>Ai)
def Z6v(a:Qu):Bool:=maB a&& !K4 ((Lb.wrap (a.2.2.2.1+a.1))>(1152921504606846976:Int))
def raV(a:Qu):Qu:=cond (Z6v a) (a.1,Lb.wrap (a.2.2.2.1+a.1),a.2.2) a
theorem raE(a:Qu):jl a=K2 (raV a,Z6v a,()):=by
 grind[jl,raV,Z6v,maE]
theorem Qnc{a:Qu}(h:maB a=Lc):Z6v a=false:=by simp_all[Z6v]
theorem alE(a:Qu)(t:Bool):hQ a t=K2 (raV a,cond (maB a) (Z6v a) t,()):=by
 grind[hQ,maE,raE,raV,Qnc]
def clB(c:Ky):Ky:=cond (Zh5 c&&(c.2.2.1 !=(-1:Int))) (c.1,c.2.1,(-1:Int),c.2.2.1,c.2.2.2.2) c
theorem clE(c:Ky):iW c=K2 (clB c,()):=by
 unfold iW clB;rw[Z2o,pA]
 grind
def nbB(c:Ky):Ky:=cond (((Zh5 c&&(c.2.1==c.1))&&(c.2.2.1==(-1:Int)))&&(c.2.2.2.1 !=c.1)) (c.1,c.2.1,c.1,c.2.2.2) c
theorem nbE(c:Ky):kT c=K2 (nbB c,()):=by
 grind[kT,nbB,Z2o]
abbrev Znn(c:Ze):Int:=c.2.2.2.2.2.2.2.2.2.2.2.2.2.2.2.2.1
abbrev Zao(c:Ze):Int:=c.2.1.2.2.2.2.2.2.2.1
theorem ttE(c:Ze):ub c=K2 (rwV c.2.2.2.2.2.1 (Znn c) (Zao c),cond (mrB c.2.2.2.2.2.1) (Zva c.2.2.2.2.2.1 (Znn c) (Zao c)) c.2.2.2.2.2.2.2.2.2.2.1,()):=by
 grind[ub,mrE,rwE,rwV,Z63]
def wcB(s:Zf):Bool:=(s.2.2.2.2.2.2.2.1&&(s.2.2.2.1.1==0))&& !s.2.2.2.2.2.2.2.2.2.2.2.1
theorem lwE(c:Ze)(s:Zf):qk c s=K2 (cond (wcB s) (rwV s.2.2.2.2.1 (Znn c) (Zao c)) s.2.2.2.2.1,wcB s&&(cond (mrB s.2.2.2.2.1) (Zva s.2.2.2.2.1 (Znn c) (Zao c)) s.2.2.2.2.2.2.2.2.2.2.1),()):=by
 grind[qk,wcB,mrE,rwE,rwV,Z63]
def Z8(l:List Zf)(n:Int):Int:=match Ko l n with|some (v,_)=>v|none=> -1
theorem QD(hl:l.length<=1000000)(n:Int):Ko l n=K2 (Z8 l n,()):=by
 obtain⟨v,e,-⟩:=Zax l n hl
 grind[Z8]
theorem qt(hl:l.length<=1000000)(n:Int):(Z8 l n<0\/Z8 l n<l.length)/\(Z8 l n<0-> ∀s∈l,s.1≠n)/\(0<=Z8 l n->(l.getD (Z8 l n).toNat Zc).1=n):=by
 obtain⟨v,e,h⟩:=Zax l n hl
 grind[Z8]
theorem Qdh{l:List Zf}(hl:l.length<=1000000)(n:Int):∀(N i:Nat),Qz N l (n,()) (l.length:Int) (i:Int)=Kp N l n (i:Int)
 |0,_=>rfl
 |N+1,i=>by
  rw[Qz,Kp];by_cases a:i<l.length
  ·rw[Zn (Zl),Zn (Zl),Zb,Zb,Zs a,Qdh hl n N (i+1)];rfl
  grind
theorem uC(hl:l.length<=1000000)(n:Int):Z4 l n=Ko l n:=by
 unfold Z4 Y4;have:=Qdh hl n (Jm l n 0) 0;rw[show Yc l (n,()) (l.length:Int) 0=Jm l n 0 from rfl];rw[Mk]at this;rw[this];change Ld (Ko l n) _=_;cases Ko l n<;>rfl
theorem Z6u{K:Nat}{l:List Zf}{s:Zf}(h:mi K l)(hs:Xc K s)(hK:K<=1000000)(a:Nat)(ha:a<l.length):∀(N i:Nat),l.length-i<N->i<=l.length->Xz N l s ((l.set a s).take i) (a:Int) K3 (i:Int)=K2 (l.set a s,())
 |0,_,h,_=>Aa
 |N+1,i,g,j=>by
  have k:=h.len;rw[Xz];by_cases f:i<l.length
  ·have c:∀x:Zf,((l.set a s).take i).length+[x].length<=Qp:=λx=>Aj
   have e:(l.set a s).take i++[ite (i=a) s (l.getD i Zc)]=(l.set a s).take (i+1):=by
    rw[Mx Ac,List.getElem_set];congr 2;by_cases b:i=a
    ·simp_all
    ·rw[if_neg b,if_neg (λh=>b h.symm),Mo,Mp f];rfl
   rw[Zn (Zl),Zb,show(i:Int).toNat=i from rfl,y8 (h.all _ (Z2 (d:=Zc) f)) hK,pA];by_cases b:i=a
   ·have:((i:Int)==(a:Int))=true:=Af
    rw[this,pG,y8 hs hK,pA];unfold Kk;rw[Zb (c _),Zs f];rw[if_pos b]at e;rw[e];exact Z6u h hs hK a ha N (i+1) Aa Aa
   ·have:((i:Int)==(a:Int))=false:=Af
    rw[this,pH,Zb (λh=>by cases h)];simp only[pI,Li,pH];unfold Kk;rw[Zb (c _),Zs f];rw[if_neg b]at e;rw[e];exact Z6u h hs hK a ha N (i+1) Aa Aa
  simp_all[Zm,List.take_of_length_le]
theorem Zfq(h:mi K l)(hs:Xc K s)(hK:K<=1000000)(hi:0<=Z8 l s.1):Q8 l s=K2 (l.set (Z8 l s.1).toNat s,()):=by
 have a:=h.len;obtain⟨b,-,-⟩:=qt (l:=l) Aa s.1;unfold Q8;rw[QD Aa,pA,Zl];have:=Z6u h hs hK (Z8 l s.1).toNat Aa (bo l s ([]:List Zf) (Z8 l s.1) K3 0) 0 (by simp[bo]) Aa
 grind
theorem V8(h:Q5 K c)(hK:K<=1000000)(n:Int):Xt c n=K2 (ite (0<=Z8 c.2.2.2.1 n) (c.2.2.2.1.getD (Z8 c.2.2.2.1 n).toNat Zc,K3,()) (Zc,Lc,())):=by
 have b:=h.str.len;obtain⟨e,-,-⟩:=qt (l:=c.2.2.2.1) Aa n;unfold Xt;rw[QD Aa,pA];by_cases a:0<=Z8 c.2.2.2.1 n
 ·rw[Zp (Zm),Zb,if_pos a,y8 (h.str.all _ (Z2 (d:=Zc))) hK];rfl
 simp_all
theorem Z9v(l:List Zf)(i:Nat):l.set i (l.getD i Zc)=l:=by
 grind[List.set_getElem_self,List.set_eq_of_length_le]
def Jo(c:Qd):Int:=c.1+(c.2.1.length:Int)
def Zs6:Int->List Qd->Prop|_,[]=>True|e,c::l=>e<c.1/\c.2.1≠[]/\Zs6 (Jo c) l
def atC:List Qd->Int->Option UInt8|[],_=>Lj|c::l,n=>ite (c.1<=n/\n<Jo c) (c.2.1[(n-c.1).toNat]?) (atC l n)
theorem WL{c:Qd}(h:c.2.1≠[]):c.1<Jo c:=by
 grind[Jo,Lz]
theorem Zk2:∀{l:List Qd}{e n:Int},Zs6 e l->n<=e->atC l n=Lj
 |[],_,_,_,_=>rfl
 |c::l,e,n,⟨d,a,b⟩,f=>by
  unfold atC;rw[if_neg Aa];exact Zk2 b (by have:=WL a;omega)
theorem Zp1{c:Qd}{l:List Qd}{e:Int}(h:Zs6 e (c::l)):atC (c::l) c.1≠none:=by
 have:=WL h.2.1;unfold atC;rw[if_pos ⟨Le _,this⟩,Int.sub_self];have a:=Lz.2 h.2.1;simp_all
theorem Qlq{c:Qd}{l:List Qd}{e:Int}(h:Zs6 e (c::l)):atC (c::l) (Jo c)=none:=by
 unfold atC;rw[if_neg Aa];exact Zk2 h.2.2 (Le _)
theorem Z43{c:Qd}{l:List Qd}(h1:c.1<=n)(h2:n<Jo c):atC (c::l) n=c.2.1[(n-c.1).toNat]? :=by
 simp_all[atC]
theorem Z7r{c:Qd}{l:List Qd}(h1:c.1<=n)(h2:n<Jo c):atC (c::l) n≠none:=by
 grind[Z43,Jo]
theorem Z7w:∀{l m:List Qd}{e e':Int},Zs6 e l->Zs6 e' m->(∀n,atC l n=atC m n)->l=m
 |[],[],_,_,_,_,_=>rfl
 |[],d::m,_,_,_,h,b=>absurd (b d.1).symm (Zp1 h)
 |c::l,[],_,_,h,_,b=>absurd (b c.1) (Zp1 h)
 |c::l,d::m,e,e',h,f,b=>by
  have i:c.1=d.1:=by
   rcases Int.lt_trichotomy c.1 d.1 with a|a|a
   ·have:=Zp1 h;rw[b,Zk2 (e:=c.1) (l:=d::m) ⟨a,f.2⟩ (Le _)]at this;simp_all
   ·exact a
   ·have:=Zp1 f;rw[<-b,Zk2 (e:=d.1) (l:=c::l) ⟨a,h.2⟩ (Le _)]at this;simp_all
  have k:Jo c=Jo d:=by
   grind[Jo,Qlq,Z7r]
  have o:c.2.1=d.2.1:=by
   have p:c.2.1.length=d.2.1.length:=Au
   refine List.ext_getElem? λj=>?_;by_cases q:j<c.2.1.length
   ·have:=b (c.1+(j:Int))
    grind[Z43,Jo]
   simp_all
  have g:c=d:=by
   grind
  subst g;refine congrArg (c:: ·) (Z7w h.2.2 f.2.2 λn=>?_);by_cases r:n<Jo c
  ·rw[Zk2 h.2.2 Aa,Zk2 f.2.2 Aa]
  ·have:=b n;simp_all[atC,if_neg]
theorem Zp7:∀{l:List Qd}{e:Int},ckB e l=K3-> -1<=e->(∀c∈l,c.2.1.length<=1000000)->Zs6 e l/\ ∀c∈l,0<=c.1/\Jo c<=4611686018427387903
 |[],_,_,_,_=>⟨trivial,λ_ h=>by cases h⟩
 |c::l,e,h,j,a=>by
  simp only[ckB,pC,Lw,Lv,decide_eq_false_iff_not,beq_eq_false_iff_ne]at h;have d:=a c Lr;obtain⟨⟨⟨k,f⟩,g⟩,b⟩:=h;rw[Zr]at g;have m:Jo c<=4611686018427387903:=Au
  rw[Zr]at b;obtain⟨i,n⟩:=Zp7 b Aa λx hx=>a x (Lq _ hx);refine⟨⟨Aa,f,i⟩,λx hx=>?_⟩
  grind
def Zm1:Int->List Qd->Prop|_,[]=>True|e,c::l=>e<=c.1/\c.2.1≠[]/\Zm1 (Jo c) l
theorem Qge{e e':Int}(h:e'<=e):∀{l:List Qd},Zm1 e l->Zm1 e' l
 |[],_=>trivial
 |c::l,⟨d,a,b⟩=>⟨Aa,a,b⟩
def Zqs(c:Qd):List Qd->List Qd|[]=>[c]|d::l=>ite (Jo c=d.1) (Zqs (c.1,c.2.1++d.2.1,()) l) (c::Zqs d l)
theorem Ztr:∀{l:List Qd}{c:Qd}{e:Int},e<c.1->c.2.1≠[]->Zm1 (Jo c) l->Zs6 e (Zqs c l)
 |[],c,e,a,b,_=>⟨a,b,trivial⟩
 |d::l,c,e,a,b,⟨i,f,g⟩=>by
  unfold Zqs;split
  ·rename_i h;refine Ztr (l:=l) (c:=(c.1,c.2.1++d.2.1,())) a (by simp[b]) ?_
   grind[Jo]
  ·rename_i h;exact⟨a,b,Ztr Aa f g⟩
theorem Qcw:∀{l:List Qd}{e n:Int},Zm1 e l->n<e->atC l n=Lj
 |[],_,_,_,_=>rfl
 |c::l,e,n,⟨d,a,b⟩,f=>by
  unfold atC;rw[if_neg Aa];exact Qcw b (by have:=WL a;omega)
theorem Z0d:∀{l:List Qd}{c:Qd},c.2.1≠[]->Zm1 (Jo c) l-> ∀n,atC (Zqs c l) n=atC (c::l) n
 |[],c,_,_,n=>rfl
 |d::l,c,e,⟨i,f,g⟩,n=>by
  unfold Zqs;split
  ·rename_i j;have h:Jo (c.1,c.2.1++d.2.1,())=Jo d:=by
    grind[Jo]
   rw[Z0d (l:=l) (c:=(c.1,c.2.1++d.2.1,())) (by simp[e]) (by rw[h];exact g) n];have k:=WL e;have m:=WL f;unfold atC;rw[h];by_cases a:c.1<=n/\n<Jo c
   ·rw[if_pos Ab,if_pos a]
    grind[Jo]
   ·rw[if_neg a];by_cases b:d.1<=n/\n<Jo d
    ·rw[if_pos Ab];unfold atC;rw[if_pos b]
     grind[Jo]
    ·rw[if_neg Ab];simp_all[atC,if_neg]
  ·unfold atC;rw[Z0d f g n]
theorem Z7x{c:Qd}(h:0<=c.1)(h2:Jo c<=4611686018427387903):ii c=K2 (Jo c,()):=by
 unfold Jo at*
 show K2 (Lb.wrap (c.1+(c.2.1.length:Int)),())=_
 grind[Zr]
theorem Qf2(pre:List Qd)(c:Qd):(pre++[c]).getD pre.length Qt=c:=by
 simp[List.getD]
theorem Qjc(pre:List Qd)(c d:Qd):(pre++[c]).set pre.length d=pre++[d]:=by
 simp_all
theorem Qgw{t:List Qd}(hi:i<t.length):mj (t.drop i)=(t.getD i Qt).2.1.length+mj (t.drop (i+1)):=by
 rw[Qy (d:=Qt) hi];rfl
theorem Z57{t:List Qd}(ht:t.length<=4000000)(hb:∀c∈t,0<=c.1/\Jo c<=4611686018427387903):∀(N i:Nat)(pre:List Qd)(c:Qd),t.length-i<N->i<=t.length->pre.length+1<=i->0<=c.1->Jo c<=4611686018427387903->c.2.1.length+mj (t.drop i)<=1000000000->
  lF N (pre++[c]) t (t.length:Int) (i:Int)=K2 (pre++Zqs c (t.drop i),())
 |0,_,_,_,h,_,_,_,_,_=>Aa
 |N+1,i,pre,c,m,n,o,g,k,hs=>by
  unfold lF gG gJ tT;by_cases b:i<t.length
  ·have j:=hb _ (Z2 (d:=Qt) b);have l:=Qgw b;have a:(pre++[c]).length=pre.length+1:=Ae
   have f:Lb.wrap (((pre++[c]).length:Int)-1)=(pre.length:Int):=Ao
   rw[Zn (Zl),Zb];simp only[f];rw[Zb,Zl (p:=(pre.length:Int)>=0),pG,Int.toNat_natCast,Qf2,Z7x g k,pA,pJ];rw[show(i:Int).toNat=i from rfl,Zs b];rw[Qy (d:=Qt) b];generalize t.getD i Qt=d at*
   unfold Zqs;by_cases e:Jo c=d.1
   ·rw[if_pos e,beq_iff_eq.2 e,pG,Zb (by rw[a];omega),Zb Al,Zb (by rw[a];omega),Qjc];have q:Jo (c.1,c.2.1++d.2.1,c.2.2)=Jo d:=by
     grind[Jo]
    exact Z57 ht hb N (i+1) pre _ Aa Aa Aa g Aa Ag
   ·rw[if_neg e,beq_false_of_ne e,pH,Zb Aj];have:=Z57 ht hb N (i+1) (pre++[c]) d Aa Aa (by rw[a];omega) j.1 j.2 Aa;simp_all
  ·rw[Zp (Zm),Ly Aa];rfl
def Z0e:List Qd->List Qd|[]=>[]|c::l=>Zqs c l
theorem Quq{t:List Qd}(ht:t.length<=4000000)(hb:∀c∈t,0<=c.1/\Jo c<=4611686018427387903)(hs:mj t<=1000000000):ZA t=K2 (Z0e t,()):=by
 unfold ZA;cases t with
 |nil=>rfl
 |cons c l=>
  have b:xY ([]:List Qd) (c::l) ((c::l).length:Int) (0:Int)=l.length+2:=by
   rfl
  rw[b];have h:=hb c Lr;have d:mj (c::l)=c.2.1.length+mj l:=rfl;unfold lF gG gJ tT;rw[Zn (Zl Ac),Zb Ac];have a:Lb.wrap ((([]:List Qd).length:Int)-1)= -1:=Ai
  simp only[a];rw[Zb Ac,Zm (p:=(-1:Int)>=0),pH,pA,Li,pH,Zb (by simp[Qp])];have:=Z57 ht hb (l.length+1) 1 [] c Ac Ac (My _) h.1 h.2 Ac;exact this
def WH(o:Int)(d:Ba)(a b:Int):List Qd:=ite (a<b) [(a,(d.drop (a-o).toNat).take ((b-o).toNat- (a-o).toNat),())] []
def fP(o:Int)(d:Ba)(e:Int):Int->List Qd->List Qd|f,[]=>WH o d f e|f,c::l=>WH o d f (min c.1 e)++c::fP o d e (max f (Jo c)) l
theorem Z38{b:Int}(h1:o<=a)(h2:a<b)(h3:b<=o+(d.length:Int)):(((d.drop (a-o).toNat).take ((b-o).toNat- (a-o).toNat)).length:Int)=b-a:=by
 grind
theorem Zlg{b:Int}(h1:o<=a)(h2:a<b)(h3:b<=o+(d.length:Int):=by omega):Jo (a,(d.drop (a-o).toNat).take ((b-o).toNat- (a-o).toNat),())=b:=by
 grind[Jo]
theorem Z9i{b:Int}(h1:o<=a)(h2:a<b)(h3:b<=o+(d.length:Int)):(d.drop (a-o).toNat).take ((b-o).toNat- (a-o).toNat)≠[]:=λh=>by
 grind[Z38]
theorem Zpi{o:Int}{d:Ba}:∀{l:List Qd}{f L:Int},o<=f->L<=f->Zm1 L l->Zm1 L (fP o d (o+(d.length:Int)) f l)
 |[],f,L,a,b,_=>by
  unfold fP WH;split
  ·rename_i h;exact⟨b,Z9i a h (Le _),trivial⟩
  ·trivial
 |c::l,f,L,a,b,⟨i,e,j⟩=>by
  have g:=Zpi (o:=o) (l:=l) (f:=max f (Jo c)) (L:=Jo c) (d:=d) Aa Aa j;unfold fP WH;split
  ·rename_i h;have k:=Zlg (d:=d) a h;exact⟨b,Z9i a h Aa,by rw[k];omega,e,g⟩
  ·exact⟨i,e,g⟩
theorem Qgk:∀{l:List Qd}{f L:Int},o<=f->Zm1 L l-> ∀n,atC (fP o d (o+(d.length:Int)) f l) n=match atC l n with|some v=>K2 v|none=>ite (f<=n/\n<o+(d.length:Int)) (d[(n-o).toNat]?) none:=by
 have k:∀{a b n:Int}{r:List Qd},o<=a->b<=o+(d.length:Int)->atC (WH o d a b++r) n=ite (a<=n/\n<b) (d[(n-o).toNat]?) (atC r n):=by
  intro a b n r e m;unfold WH;split
  ·rename_i h;rw[List.singleton_append];unfold atC;rw[Zlg e h m];simp only;by_cases i:a<=n/\n<b
   ·grind
   ·rw[if_neg i,if_neg i];cases r<;>rfl
  grind
 intro l
 induction l with
 |nil=>
  intro f L e _ n;unfold fP;have:=k (a:=f) (b:=o+(d.length:Int)) (n:=n) (r:=[]) e (Le _);rw[List.append_nil]at this;rw[this];rfl
 |cons c l s=>
  intro f L e h n;obtain⟨m,t,p⟩:=h;have u:=WL t;unfold fP;rw[k e Aa];have j:=s (f:=max f (Jo c)) (L:=Jo c) Aa p n;by_cases g:c.1<=n/\n<Jo c
  ·rw[if_neg Aa,Z43 g.1 g.2,Z43 g.1 g.2]
   grind[Jo]
  ·have q:∀r:List Qd,atC (c::r) n=atC r n:=λr=>by
    rw[atC,if_neg g]
   rw[q,q,j];by_cases i:n<c.1
   ·have w:atC l n=none:=Qcw p Aa
    grind
   grind
theorem Z03:∀{l:List Qd}{e:Int},Zm1 e l->l.Pairwise (λx y=>x.1<y.1)/\ ∀c∈l,e<=c.1
 |[],_,_=>⟨M0,λ_ h=>by cases h⟩
 |c::l,e,⟨f,a,b⟩=>by
  obtain⟨d,g⟩:=Z03 b;have i:=WL a;refine⟨Mz (λy j=>Ag) d,λx hx=>?_⟩
  grind
theorem Qv0{l:List Qd}{e:Int}(h:Zm1 e l)(h0:0<=e)(hb:∀c∈l,c.1<=4611686018427387904)(hl:l.length<=4000000):s6 l=K2 ((),l):=by
 obtain⟨a,f⟩:=Z03 h;have b:(l.map λx=>x.1).Nodup:=by
  grind
 have d:l.mergeSort (λx y=>K4 (x.1<=y.1))=l:=List.mergeSort_of_pairwise (a.imp λh=>decide_eq_true (Int.le_of_lt h))
 grind[s6,Z4p,Zb]
theorem Qbg{b:Zv}{o:Int}{d:Ba}{t6:Zv}{t X:List Qd}(ht:t.length<=1000000)(hb:∀c∈t,0<=c.1/\Jo c<=4611686018427387903)(ho:0<=o)(he:o+(d.length:Int)<=4611686018427387903)
  (hX:Zm1 0 X) (hXb:∀c∈X,0<=c.1/\Jo c<=4611686018427387903) (hXl:X.length<=4000000) (hXs:mj X<=1000000000):∀(N i:Nat)(f:Int)(l:List Qd),t.length-i<N->i<=t.length->o<=f->f<=4611686018427387903->l++fP o d (o+(d.length:Int)) f (t.drop i)=X->
  fK N b o d t6 f (o+(d.length:Int)) l t (t.length:Int) (i:Int)=K2 ((b.1,Z0e X,()),())
 |0,_,_,_,h,_,_,_,_=>Aa
 |N+1,i,f,l,v,w,x,s,hx=>by
  have a:=congrArg Mq hx;rw[Mr]at a;have fin:∀Y:List Qd,Y=X->Ld (s6 Y) (λj=>Ld (ZA j.2) λk=>K2 ((b.1,k.1,()),()))=K2 ((b.1,Z0e X,()),()):=by
   rintro Y rfl;rw[Qv0 hX (Le _) (λc m=>Au) hXl,pA,Quq hXl hXb hXs,pA]
  unfold fK gG gJ;by_cases n:i<t.length
  ·have m:=hb _ (Z2 (d:=Qt) n);rw[Qy (d:=Qt) n]at hx a;rw[Zn (Zl),Zb,show(i:Int).toNat=i from rfl,Zs n];have p:=Z7x m.1 m.2;generalize t.getD i Qt=c at*
   rw[fP]at hx a;simp only[Mr,Ms]at a;have u:c.1<=Jo c:=Au
   by_cases e:f<min c.1 (o+(d.length:Int))
   ·have q:Lb.wrap (min c.1 (o+(d.length:Int))-o)=min c.1 (o+(d.length:Int))-o:=Zr;have r:Lb.wrap (f-o)=f-o:=Zr;have g:WH o d f (min c.1 (o+(d.length:Int)))=[(f,(d.drop (f-o).toNat).take ((min c.1 (o+(d.length:Int))-o).toNat- (f-o).toNat),())]:=if_pos e;rw[Zn (Zl e)];simp only[q,r];rw[g]at hx a;simp only[List.length_singleton]at a;rw[Zb,Zb Aj,Zb Aj,p,pA];exact Qbg ht hb ho he hX hXb hXl hXs N (i+1) _ _ Aa Aa Aa Aa Ac
   ·have g:WH o d f (min c.1 (o+(d.length:Int)))=[]:=if_neg e;rw[Zp (Zm e)];rw[g]at hx a;rw[Zb Aj,p,pA];exact Qbg ht hb ho he hX hXb hXl hXs N (i+1) _ _ Aa Aa Aa Aa Ac
  ·rw[Zp (Zm),Int.min_self];rw[Ly Aa,fP]at hx a;by_cases e:f<o+(d.length:Int)
   ·have q:Lb.wrap (o+(d.length:Int)-o)=o+(d.length:Int)-o:=Zr;have r:Lb.wrap (f-o)=f-o:=Zr;have g:WH o d f (o+(d.length:Int))=[(f,(d.drop (f-o).toNat).take ((o+(d.length:Int)-o).toNat- (f-o).toNat),())]:=if_pos e;rw[Zn (Zl e)]
    grind[Zb,Qp]
   simp_all[WH,Zm]
theorem Z06(o:Int)(d:Ba)(e:Int):∀(l:List Qd)(f:Int),(fP o d e f l).length<=2*l.length+1
 |[],f=>by
  grind[fP,WH]
 |c::l,f=>by
  have:=Z06 o d e l (max f (Jo c))
  grind[fP,WH]
theorem Z07{o:Int}{d:Ba}:∀{l:List Qd}{f:Int},o<=f->(∀c∈l,c.1<=Jo c)->(mj (fP o d (o+(d.length:Int)) f l):Int)<=mj l+max 0 (o+(d.length:Int)-f)
 |[],f,h,_=>by
  unfold fP WH;split
  ·rename_i a;have:=Z38 (d:=d) h a (Le _)
   grind[mj]
  omega
 |c::l,f,h,b=>by
  have e:=Z07 (o:=o) (d:=d) (l:=l) (f:=max f (Jo c)) Aa λx hx=>b x (Lq _ hx)
  grind[fP,WH,mj]
theorem Z9j{o:Int}{d:Ba}(h0:0<=o)(he:o+(d.length:Int)<=4611686018427387903):∀{l:List Qd}{f:Int},o<=f->(∀c∈l,0<=c.1/\Jo c<=4611686018427387903)-> ∀c∈fP o d (o+(d.length:Int)) f l,0<=c.1/\Jo c<=4611686018427387903
 |[],f,h,_,c,hc=>by
  unfold fP WH at hc;split at hc
  ·rename_i a;rw[Mt.1 hc,Zlg h a (Le _)];omega
  ·cases hc
 |x::l,f,h,b,c,hc=>by
  unfold fP WH at hc;rcases List.mem_append.1 hc with hc|hc
  ·split at hc
   ·rename_i a;rw[Mt.1 hc,Zlg h a];omega
   ·cases hc
  ·rcases L1.1 hc with rfl|hc
   ·simp_all
   ·exact Z9j h0 he Aa (λy e=>b y (Lq _ e)) c hc
theorem Zxo{e:Int}:∀{l:List Qd}{e:Int},Zs6 e l->Zm1 e l
 |[],_,_=>trivial
 |_::_,_,⟨c,a,b⟩=>⟨Aa,a,Zxo (e:=e) b⟩
def Zls(b:Zv)(o:Int)(d:Ba):Zv:=cond ((((!qs b||(d==([]:Ba)))||K4 (o<0))||K4 (o>4611686018427387903- (d.length:Int)))||K4 (o+(d.length:Int)<=b.1)) b (b.1,Z0e (fP o d (o+(d.length:Int)) (max o b.1) b.2.1),())
theorem vf(h:bZ K b)(hK:K<=1000000):ej b=K2 (b,()):=by
 have:=h.len
 grind[ej,Zb,Qp]
theorem Z8u(h:bZ K b)(o:Int)(d:Ba)(hK:K+d.length<=1000000)(hoB:o<=4611686018427387904):yU b o d=K2 (Zls b o d,()):=by
 have t:=h.len;have u:=h.tot;unfold yU Zls;rw[Zlb h Aa,pA];simp only;cases hb:qs b
 ·grind[vf]
 simp only[pI,Lf];rw[Zr];by_cases g:(d==([]:Ba))=K3
 ·grind[vf]
 rw[L8]at g;rw[g];simp only[Lf];by_cases k:o<0
 ·grind[vf]
 rw[Zm k,Lf];by_cases m:o>4611686018427387903- (d.length:Int)
 ·grind[vf]
 rw[Zm m,Lf,Zr];by_cases n:o+(d.length:Int)<=b.1
 ·grind[vf]
 rw[Zm n];simp only[Lh,pH,Xr];unfold qs at hb;simp only[pC,X4]at hb;rw[Zr]at hb;obtain⟨i,j⟩:=Zp7 hb.1 Aa λc p=>by have:=Zak p;omega
 have a:∀c∈b.2.1,c.1<=Jo c:=λc _=>Au
 unfold zH oY;have q:Zm1 0 (fP o d (o+(d.length:Int)) (max o b.1) b.2.1):=by
  refine Zpi Aa Aa ?_;have:=Zxo (e:=0) i;cases hbl:b.2.1 with
  |nil=>trivial
  |cons c l=>
   rw[hbl]at i this;exact⟨Ac,this.2⟩
 have r:=Z07 (o:=o) (d:=d) (l:=b.2.1) (f:=max o b.1) Aa a;have s:=Z06 o d (o+(d.length:Int)) b.2.1 (max o b.1);exact Qbg Aa j Aa Aa q (Z9j Aa Aa Aa j) Aa Aa _ 0 _ [] Aa Aa Aa Aa rfl
def bv:Option UInt8->Int|some v=>(v.toNat:Int)|none=> -1
theorem Z3h{b:Zv}{n:Int}(h0:0<=n)(h1:n<=4611686018427387903)(hl:b.2.1.length<=1000000)(hq:∀c∈b.2.1,0<=c.1/\Jo c<=4611686018427387903):∀(N i:Nat),b.2.1.length-i<N->i<=b.2.1.length->
  iy N n b (i:Int)=K2 (bv (atC (b.2.1.drop i) n),())
 |0,_,h,_=>Aa
 |N+1,i,l,m=>by
  unfold iy gG gJ;by_cases a:i<b.2.1.length
  ·have j:=hq _ (Z2 (d:=Qt) a);rw[Zn (Zl),Zb,show(i:Int).toNat=i from rfl,Zs a,Qy (d:=Qt) a,Z3h h0 h1 hl hq N (i+1) Aa Aa];generalize b.2.1.getD i Qt=c at*
   have k:c.1<=Jo c:=Au
   rw[Zr];simp only;rw[Zb (by intro _;omega),Zb (by intro _;omega),Zl (p:=n>=0) h0,Zl (p:=c.1>=0) j.1,pJ,pJ,atC];by_cases g:c.1<=n/\n<Jo c
   ·have f:n-c.1<(c.2.1.length:Int):=Au
    have hk:(n-c.1).toNat<c.2.1.length:=Aa
    rw[if_pos g,Zl (p:=n-c.1>=0),Zl (p:=n-c.1<(c.2.1.length:Int)) f,pJ,pG,Zb,Zb,Mp hk];have:c.2.1.getD (n-c.1).toNat 0=c.2.1[(n-c.1).toNat]:=Ac
    rw[this];have hv:=Me c.2.1[(n-c.1).toNat];rw[Zr];rfl
   ·rw[if_neg g];have e:(K4 (n-c.1>=0)&&K4 (n-c.1<(c.2.1.length:Int)))=false:=by
     grind[Jo]
    grind
  ·rw[Zp (Zm),Ly Aa];rfl
theorem Qlt(h0:0<=n)(h1:n<=4611686018427387903)(hl:b.2.1.length<=1000000)(hq:∀c∈b.2.1,0<=c.1/\Jo c<=4611686018427387903):ZJ b n=K2 (bv (atC b.2.1 n),()):=by
 grind[ZJ,Z3h,oJ]
set_option maxRecDepth 100000 in
theorem Qtz:∀k:Fin 256,bits .and .i64 ((k.val:Nat):Int) 255=((k.val:Nat):Int):=Ai
theorem Qm1(v:UInt8):eJ (v.toNat:Int)=K2 ([v],()):=by
 have hv:=Me v;have a:bits .and .i64 (v.toNat:Int) 255=(v.toNat:Int):=Qtz ⟨v.toNat,Aa⟩;unfold eJ p6;rw[a,show Z9 1 1 7=K2 (K3,())from rfl];simp only[pA,pI,Lf];rw[Zp (Zm)];show Ld (Y9 2 (v.toNat:Int) 1 [] 0) _=_;unfold Y9;rw[Zn Ai,Zb Ai];simp only;rw[Zb (by simp[Jv,Xx]),Zb Ai];unfold Y9;have b:Ma (v.toNat:Int) 256=0:=Int.tdiv_eq_zero_of_lt Aa Aa;have c:Lt (v.toNat:Int) 256=(v.toNat:Int):=Int.tmod_eq_of_lt Aa Aa;rw[show Lb.wrap ((0:Int)+1)=1 from rfl,Zp Ai,b,c,show Lb.wrap 0=0 from rfl,Zm (p:=(0:Int)>0),pH,pA];have d:L5.wrap (v.toNat:Int)=(v.toNat:Int):=by grind[Mn,Ml,Mm]
 simp_all[Xx]
def Qbh(b:Zv)(o:Int)(d:Ba)(n:Int):UInt8:=match atC b.2.1 n with|some v=>v|none=>d.getD (n-o).toNat 0
def Zik(b:Zv)(o:Int)(d:Ba):Int->Nat->Ba|_,0=>[]|a,m+1=>Qbh b o d a::Zik b o d (a+1) m
theorem Zsn(b:Zv)(o:Int)(d:Ba):∀(m:Nat)(a:Int),(Zik b o d a m).length=m
 |0,_=>rfl
 |m+1,a=>by rw[Zik,Ms,Zsn b o d m]
theorem Z96(b:Zv)(o:Int)(d:Ba):∀(m:Nat)(a:Int)(j:Nat),j<m->(Zik b o d a m)[j]? =K2 (Qbh b o d (a+(j:Int)))
 |0,_,_,h=>Aa
 |m+1,a,0,_=>by rw[Zik];simp
 |m+1,a,j+1,h=>by
  rw[Zik,List.getElem?_cons_succ,Z96 b o d m (a+1) j Aa];congr 2;omega
theorem Qmt(hbl:b.2.1.length<=1000000)(hq:∀c∈b.2.1,0<=c.1/\Jo c<=4611686018427387903)(K1:(Int×Ba×Zv×Zv×Zv×List Zi×Int×Unit)->Oa Zv)(ho:0<=o)(t x:Zv)(l:List Zi)(hi:i<l.length){r:Zi}(hr:l.getD i Z3=r)
  (h0:0<=r.1) (hH:r.2.1<=4611686018427387903) (hx:x.2.1.length<=1000000) (hin:∀n,r.1<=n->n<r.2.1->atC b.2.1 n≠Lj\/(o<=n/\n<o+(d.length:Int))):
  ∀(N m:Nat)(s:Ba),(m:Int)<=r.2.1-r.1->m<N->(s.length:Int)+m<=4000000->
   Kq K1 N o d b t x l (i:Int) s (r.2.1- (m:Int))=K1 (o,d,b,t,(x.1,x.2.1++[(r.1,s++Zik b o d (r.2.1- (m:Int)) m,())],x.2.2),l,Lb.wrap ((i:Int)+1),()):=by
 intro N
 induction N with
 |zero=>omega
 |succ N g=>
 intro m s j k hs;cases m with
 |zero=>
  unfold Kq gG gI;rw[Zb,show(i:Int).toNat=i from rfl,hr,Zp (Zm),Zb]
  grind[Zb,Qp,Zik]
 |succ m=>
  have e:r.2.1- ((m+1:Nat):Int)+1=r.2.1- (m:Int):=Aa
  have a:∀v:UInt8,v=Qbh b o d (r.2.1- ((m+1:Nat):Int))->cG K1 (λv=>Kq K1 N v.1 v.2.1 v.2.2.1 v.2.2.2.1 v.2.2.2.2.1 v.2.2.2.2.2.1 v.2.2.2.2.2.2.1 v.2.2.2.2.2.2.2.1 v.2.2.2.2.2.2.2.2.1) o d b t x l (i:Int) s (r.2.1- ((m+1:Nat):Int)) (v.toNat:Int)=
    K1 (o,d,b,t,(x.1,x.2.1++[(r.1,s++Zik b o d (r.2.1- ((m+1:Nat):Int)) (m+1),())],x.2.2),l,Lb.wrap ((i:Int)+1),()):=by
   grind[cG,Qm1,Zb,Jv,Zr,Zik]
  unfold Kq gG gI;rw[Zb,show(i:Int).toNat=i from rfl,hr,Zn (Zl),Qlt Aa Aa hbl hq,pA];have f:=hin (r.2.1- ((m+1:Nat):Int)) Aa Aa;cases ha:atC b.2.1 (r.2.1- ((m+1:Nat):Int))with
  |none=>
   rw[ha]at f;have f:=f.resolve_left (λh=>h rfl);rw[show K4 ((bv (none:Option UInt8),()).1<(0:Int))=K3 from rfl,pG,Zr (n:=r.2.1- ((m+1:Nat):Int)-o),Zb];have hv:=Me (d.getD (r.2.1- ((m+1:Nat):Int)-o).toNat 0);rw[Zr];simp_all[Qbh]
  |some v=>
   rw[show K4 ((bv (K2 v),()).1<(0:Int))=Lc from Zm (show ¬((v.toNat:Int)<0) by omega),pH];exact a v (by simp_all[Qbh])
theorem Zxy(n:Int):¬inR n []:=λ⟨x,hx,_⟩=>by cases hx
theorem Za3{x:Zi}{l:List Zi}:inR n (x::l)↔(x.1<=n/\n<x.2.1)\/inR n l:=by
 constructor
 ·rintro⟨y,hy,h⟩;rcases L1.1 hy with rfl|hy
  ·exact .inl h
  ·exact .inr ⟨y,hy,h⟩
 ·rintro(h|⟨y,hy,h⟩)
  ·exact⟨x,Lr,h⟩
  ·exact⟨y,Lq _ hy,h⟩
theorem Qdv:∀{l:List Zi}{r:Zi},inR n (jf l r)↔inR n l\/(r.1<=n/\n<r.2.1)
 |l,r=>⟨Zq3,in_addR' l r⟩
where in_addR' {n:Int}:∀(l:List Zi)(r:Zi),inR n l\/(r.1<=n/\n<r.2.1)->inR n (jf l r)
 |[],r,h=>⟨r,by simp[jf],h.resolve_left (Zxy n)⟩
 |x::l,r,h=>by
  unfold jf;split
  ·refine Za3.2 ?_;rcases h with h|h
   ·rcases Za3.1 h with h|h
    ·exact .inl h
    ·exact .inr (in_addR' l r (.inl h))
   ·exact .inr (in_addR' l r (.inr h))
  ·split
   ·grind[Za3]
   ·refine in_addR' l _ ?_
    grind[Za3]
def rgS(b:Zv)(o:Int)(d:Ba)(r:Zi):Qd:=(r.1,Zik b o d r.1 (r.2.1-r.1).toNat,())
theorem Z60(b:Zv)(o:Int)(d:Ba){r:Zi}(h:r.1<=r.2.1:=by omega):Jo (rgS b o d r)=r.2.1:=by
 grind[Jo,rgS,Zsn]
theorem Qdx{b:Zv}(hbl:b.2.1.length<=1000000)(hq:∀c∈b.2.1,0<=c.1/\Jo c<=4611686018427387903){o:Int}(ho:0<=o){d:Ba}(t:Zv){l:List Zi}(hl:l.length<=1000000)(hf:∀r∈l,W7 r=K3)(hc:∀r∈l,r.2.1-r.1<=2000000)
  (hin:∀n,inR n l->atC b.2.1 n≠Lj\/(o<=n/\n<o+(d.length:Int))):∀(N i:Nat)(x:Zv),l.length-i<N->i<=l.length->x.2.1.length<=i->
   Wj N o d b t x l (i:Int)=K2 ((x.1,x.2.1++(l.drop i).map (rgS b o d),x.2.2),())
 |0,_,_,h,_,_=>Aa
 |N+1,i,x,p,s,hx=>by
  unfold Wj gG gI;by_cases h:i<l.length
  ·have a:=Z2 (d:=Z3) h;have e:=Qh.1 (hf _ a);have j:=hc _ a;rw[Zn (Zl),Zb,show(i:Int).toNat=i from rfl,Qy (d:=Z3) h,L0];generalize m:l.getD i Z3=r at*
   have k:=Qmt hbl hq (λv=>Wj N v.1 v.2.1 v.2.2.1 v.2.2.2.1 v.2.2.2.2.1 v.2.2.2.2.2.1 v.2.2.2.2.2.2.1) ho t x l h m e.1 Aa Aa (λn f g=>hin n ⟨r,a,f,g⟩) (aA o d b t x l (i:Int) [] r.1) (r.2.1-r.1).toNat [] Aa
    (by simp_all[aA]) Ag
   rw[show r.2.1- (((r.2.1-r.1).toNat:Nat):Int)=r.1 by omega]at k;rw[k,Zs h];have q:=Qdx hbl hq ho (d:=d) t hl hf hc hin N (i+1) (x.1,x.2.1++[rgS b o d r],x.2.2) Aa Aa Ac;refine Ll q ?_;simp_all
  grind
theorem Qem(b:Zv)(o:Int)(d:Ba):∀{l:List Zi}{e:Int},rsB e l=K3->Zs6 e (l.map (rgS b o d))
 |[],_,_=>trivial
 |r::l,e,h=>by
  simp only[rsB,pC,decide_eq_true_eq]at h;have c:=Qh.1 h.1.1;refine⟨h.1.2,?_,?_⟩
  ·intro a;have:=congrArg Mq a
   grind[rgS,Zsn]
  ·rw[Z60 b o d];exact Qem b o d h.2
theorem Qkf(b:Zv)(o:Int)(d:Ba):∀{l:List Zi}{n:Int},(∀r∈l,W7 r=K3)->(inR n l->atC (l.map (rgS b o d)) n=K2 (Qbh b o d n))/\(¬inR n l->atC (l.map (rgS b o d)) n=Lj)
 |[],n,_=>⟨λh=>absurd h (Zxy n),λ_=>rfl⟩
 |r::l,n,h=>by
  have c:=Qh.1 (h r Lr);obtain⟨e,f⟩:=Qkf b o d (l:=l) (n:=n) λx hx=>h x (Lq _ hx);rw[L0,atC,Z60 b o d];show(_->(ite (r.1<=n/\n<r.2.1) ((Zik b o d r.1 (r.2.1-r.1).toNat)[(n-r.1).toNat]?) _)=_)/\(_->(ite (r.1<=n/\n<r.2.1) ((Zik b o d r.1 (r.2.1-r.1).toNat)[(n-r.1).toNat]?) _)=_)
  by_cases a:r.1<=n/\n<r.2.1
  ·rw[if_pos a,Z96 b o d _ _ _ Aa,show r.1+(((n-r.1).toNat:Nat):Int)=n by omega];exact⟨λ_=>rfl,λh=>absurd ⟨r,Lr,a⟩ h⟩
  ·rw[if_neg a]
   grind[Za3]
theorem Qcv:∀{l:List Qd}{n:Int},atC l n≠Lj↔inR n (l.map rgC)
 |[],n=>⟨λh=>absurd rfl h,λh=>absurd h (Zxy n)⟩
 |c::l,n=>by
  rw[L0,Za3,<-Qcv (l:=l)];unfold rgC;simp only;by_cases a:c.1<=n/\n<Jo c
  ·have:c.1<=n/\n<c.1+(c.2.1.length:Int):=a;simp_all[Z7r]
  ·have b:¬(c.1<=n/\n<c.1+(c.2.1.length:Int)):=a;rw[atC,if_neg a]
   grind
theorem Qpb(h:bZ K b)(o:Int)(d:Ba)(hK:K+d.length+1<=1000000)(hb:qs b=K3)(hdl:0<d.length)(h1:¬o<0)(h2:¬o>4611686018427387903- (d.length:Int))(h3:¬o+(d.length:Int)<=b.1):
  rsB (b.1-1) (jf (b.2.1.map rgC) (max o b.1,o+(d.length:Int),()))=K3/\(∀n,inR n (jf (b.2.1.map rgC) (max o b.1,o+(d.length:Int),()))↔atC b.2.1 n≠Lj\/(max o b.1<=n/\n<o+(d.length:Int)))/\
  (jf (b.2.1.map rgC) (max o b.1,o+(d.length:Int),())).map (rgS b o d)=Z0e (fP o d (o+(d.length:Int)) (max o b.1) b.2.1):=by
 have A:=h.len;have B:=h.tot;obtain⟨C,D,p⟩:=zx Aa hb;have j:rsB (-1) (b.2.1.map rgC)=true:=Zfv p Aa;have i:W7 (max o b.1,o+(d.length:Int),())=true:=Qh.2 Ab;have f:=WK j i Ab;have a:=hb;unfold qs at a;simp only[pC]at a;rw[Zr]at a;obtain⟨k,E⟩:=Zp7 a.1 Aa λc u=>by have:=Zak u;omega
 have v:∀r∈jf (b.2.1.map rgC) (max o b.1,o+(d.length:Int),()),W7 r=true:=λr w=>(rJ f r w).2;have q:∀n,inR n (jf (b.2.1.map rgC) (max o b.1,o+(d.length:Int),()))↔atC b.2.1 n≠Lj\/(max o b.1<=n/\n<o+(d.length:Int)):=λn=>by rw[Qdv,Qcv]
 refine⟨WK p i Ab,q,?_⟩;have x:∀c∈b.2.1,c.1<=Jo c:=λc _=>Au
 have g:Zm1 0 (fP o d (o+(d.length:Int)) (max o b.1) b.2.1):=by
  refine Zpi Aa Aa ?_;have:=Zxo (e:=0) k;cases hbl:b.2.1 with
  |nil=>trivial
  |cons c l=>
   rw[hbl]at k this;exact⟨Ac,this.2⟩
 have s:Zs6 (-1) (Z0e (fP o d (o+(d.length:Int)) (max o b.1) b.2.1))/\ ∀n,atC (Z0e (fP o d (o+(d.length:Int)) (max o b.1) b.2.1)) n=atC (fP o d (o+(d.length:Int)) (max o b.1) b.2.1) n:=by
  generalize fP o d (o+(d.length:Int)) (max o b.1) b.2.1=P at g;cases P with
  |nil=>exact⟨trivial,λ_=>rfl⟩
  |cons c l=>exact⟨Ztr (by have:=g.1;omega) g.2.1 g.2.2,Z0d g.2.1 g.2.2⟩
 have m:Zm1 (-1) b.2.1:=Qge Aa (Zxo (e:=0) k);refine Z7w (Qem b o d f) s.1 λn=>?_;obtain⟨y,F⟩:=Qkf b o d v (n:=n);rw[s.2,Qgk Aa m];by_cases t:inR n (jf (b.2.1.map rgC) (max o b.1,o+(d.length:Int),()))
 ·rw[y t];have z:=(q n).1 t;unfold Qbh
  grind
 grind
theorem Zcx(h:bZ K b)(o:Int)(d:Ba)(hK:K+d.length+1<=1000000:=by omega)(hoB:o<=4611686018427387904:=by omega):mL b o d=K2 (Zls b o d,()):=by
 have I:=h.len;have J:=h.tot;unfold mL Zls;rw[lH b,pA];simp only;cases hb:qs b
 ·grind[zL]
 simp only[pI,Lf];rw[Zr (n:=4611686018427387903- (d.length:Int))];by_cases v:(d==([]:Ba))=K3
 ·grind[zL]
 rw[L8]at v;have m:0<d.length:=Lz.2 λe=>Ac
 rw[v];simp only[Lf];by_cases w:o<0
 ·grind[zL]
 rw[Zm w,Lf];by_cases y:o>4611686018427387903- (d.length:Int)
 ·grind[zL]
 rw[Zm y,Lf,pH,Zr];obtain⟨L,M,A⟩:=zx Aa hb;by_cases p:o+(d.length:Int)<=b.1
 ·rw[Zl p,Zn (Zl),zL h];rfl
 rw[Zm p,pH,Zp (Zm),Zp3 h,pA,hb];simp only[if_true];have q:(b.2.1.map rgC).length<=1048576:=Ag
 rw[ia _ _ q,pA];have g:rsB (-1) (b.2.1.map rgC)=true:=Zfv A Aa;have s:W7 (max o b.1,o+(d.length:Int),())=true:=Qh.2 Ab;simp only[g,s,and_self,if_true];have t:=Zpx (l:=b.2.1.map rgC) (r:=((max o b.1,o+(d.length:Int),()):Zi));rw[List.length_map]at t;have i:=Zi0 (l:=b.2.1.map rgC) (r:=((max o b.1,o+(d.length:Int),()):Zi)) (λx hx=>by
  have:=Qh.1 (rJ g x hx).2;omega) Ab
 rw[Zxp]at i;simp only at i;obtain⟨f,B,N⟩:=Qpb h o d hK hb m w y p;have j:=Zfv f (show(-1:Int)<=b.1-1 by omega);have a:=hb;unfold qs at a;simp only[pC]at a;rw[Zr]at a;obtain⟨O,C⟩:=Zp7 a.1 Aa λc D=>by have:=Zak D;omega
 have E:∀r∈jf (b.2.1.map rgC) (max o b.1,o+(d.length:Int),()),W7 r=true:=λr k=>(rJ j r k).2;have F:∀{l:List Zi},(∀r∈l,W7 r=K3)->0<=bu l/\ ∀r∈l,r.2.1-r.1<=bu l:=by
  intro l
  induction l with
  |nil=>simp_all[bu]
  |cons r l G=>
   intro z;have k:=Qh.1 (z r Lr);obtain⟨P,Q⟩:=G λr k=>z r (Lq _ k);simp only[bu]
   grind
 have u:=Qdx (b:=b) Aa C (o:=o) Aa (d:=d) Zyi (l:=jf (b.2.1.map rgC) (max o b.1,o+(d.length:Int),())) Aa E (λr k=>Ag)
  (λn H=>((B n).1 H).imp id λh=>Aa) (az o d b Zyi (b.1,[],()) (jf (b.2.1.map rgC) (max o b.1,o+(d.length:Int),())) 0) 0 (b.1,[],()) (by simp[az]) Aa Ae
 refine Ll u ?_;simp_all
theorem Z8t(h:bZ K b)(o:Int)(d:Ba)(hK:K+d.length+1<=1000000)(hoB:o<=4611686018427387904):bZ (K+d.length+1) (Zls b o d):=by
 obtain⟨y,e,a⟩:=Zz9 h o d hK;rw[Zcx h o d hK hoB]at e;simp_all
theorem Zdx(h:bZ K r.2.1)(hK:K<=1000000:=by omega):bG r=K2 (r,()):=by
 grind[bG,vf]
theorem Zc2(h:bZ K r.2.1)(hK:K<=1000000:=by omega):nP r=K2 (r,()):=by
 grind[nP,zL]
def Zhd(r:Zu)(e:Int)(fin:Bool):Bool:=((r.2.2.1 !=(-1:Int))&&(K4 (e>r.2.2.1)))||(fin&&(((r.2.2.1 !=(-1:Int))&&(e !=r.2.2.1))||(K4 (e<r.2.2.2.1))))
theorem Qc7(r:Zu)(e:Int)(fin:Bool):xr r e fin=K2 (Zhd r e fin,()):=rfl
theorem Zi8(r:Zu)(e:Int)(fin:Bool):rZ r e fin=K2 (cond (Zhd r e fin) 6 0,()):=by
 grind[rZ,Zhd]
theorem Z7d(h:0<=r.1):lG r=K2 (!K4 (r.1>1),()):=by
 unfold lG;congr 2
 grind
theorem Qkd(h:bZ K r.2.1)(o:Int)(d:Ba)(fin:Bool)(hK:K+d.length+1<=900000)(hoB:o<=4611686018427387904):xn r o d fin=Yp r o d fin:=by
 unfold xn tD Yp tD;rw[Zdx h,Zc2 h,ZC h,Zkn h];simp only[pA];cases hb:Zxj r
 ·rfl
 have c:=Qj7 h Aa hb;simp only[pI,Lf];rw[Qc7,Zi8,Z7d c];simp only[pA];generalize (K4 (o<0)||K4 (o>Lb.wrap (4611686018427387903- (d.length:Int))))=a;cases a
 rotate_left
 ·rfl
 rw[pH,pH];cases Zhd r (Lb.wrap (o+(d.length:Int))) fin
 rotate_left
 ·rfl
 rw[pH,pH];cases K4 (r.1>1)
 rotate_left
 ·rfl
 have b:=Z8t h o d Aa hoB;have j:∀x:Zu,jt o d r qr x=Yq o d r qr x:=λx=>by
  unfold jt Yq yt;rw[Z8u h o d Aa hoB,Zcx h o d Aa hoB];simp only[pA];rw[Zkq b Aa,lK _ (by have:=b.len;omega)];cases x.2.2.1 !=(-1:Int)
  ·rfl
  ·rfl
 simp_all
theorem Z25(h:bZ K r.2.1)(code final:Int)(hK:K<=900000):uL r code final=Kl r code final:=by
 unfold uL gH tT Kl gH;rw[Zdx h,Zc2 h,ZC h,Zkn h];simp only[pA];cases hb:Zxj r
 ·rfl
 have a:=Qj7 h Aa hb;rw[Qc7,Zi8,Z7d a];simp only[pA,pI,Lf,pH,Zc1,Kh]
 grind
def zI(s:Zf):List Zf->List Zf|[]=>[s]|x::r=>ite (x.1>s.1) (s::x::r) (x::zI s r)
theorem Qpp{K:Nat}{l:List Zf}{s:Zf}(h:mi K l)(hK:K<=500000):∀(N i:Nat)(out:List Zf),l.length-i<N->i<=l.length->out.length<=i+1->Xz N l s out (-1) K3 (i:Int)=K2 (out++l.drop i,())
 |0,_,_,h,_,_=>Aa
 |N+1,i,out,b,c,e=>by
  have f:=h.len;rw[Xz];by_cases a:i<l.length
  ·rw[Zn (Zl),Zb,show(i:Int).toNat=i from rfl,y8 (h.all _ (Z2 (d:=Zc) a)),pA];have:((i:Int)==(-1:Int))=false:=Ae
   rw[this,pH,Zb (λh=>by cases h)];simp only[pI,Li,pH];unfold Kk;rw[Zb Aj,Zs a];refine Ll (Qpp h hK N (i+1) (out++[l.getD i Zc]) Aa Aa Ac) ?_;simp_all
  grind
theorem Qpo{K:Nat}{l:List Zf}{s:Zf}(h:mi K l)(hs:Xc K s)(hK:K<=500000):∀(N i:Nat)(out:List Zf),l.length-i<N->i<=l.length->out.length<=i->Xz N l s out (-1) Lc (i:Int)=K2 (out++zI s (l.drop i),())
 |0,_,_,h,_,_=>Aa
 |N+1,i,out,c,e,f=>by
  have g:=h.len;rw[Xz];by_cases a:i<l.length
  ·rw[Zn (Zl),Zb,show(i:Int).toNat=i from rfl,y8 (h.all _ (Z2 (d:=Zc) a)),pA];have:((i:Int)==(-1:Int))=false:=Ae
   rw[this,pH,Zb (λ_=>Aa),Qy (d:=Zc) a];simp only[Ls,pJ];unfold zI;by_cases b:(l.getD i Zc).1>s.1
   ·rw[Zl b,pG,if_pos b,y8 hs,pA,Zb Aj];unfold Kk;rw[Zb Aj,Zs a];refine Ll (Qpp h hK N (i+1) (out++[s]++[l.getD i Zc]) Aa Aa Ac) ?_;simp_all
   ·rw[Zm b,pH,if_neg b];unfold Kk;rw[Zb Aj,Zs a];refine Ll (Qpo h hs hK N (i+1) (out++[l.getD i Zc]) Aa Aa Ac) ?_;simp_all
  ·rw[Zp (Zm),Ly Aa];simp only[Ls,pG];rw[y8 hs,pA,Zb Aj];rfl
def gtS(s:Zf):List Zf->Option Nat|[]=>Lj|x::r=>ite (x.1>s.1) (K2 0) ((gtS s r).map (· +1))
theorem Zx0(s:Zf):∀l:List Zf,zI s l=match gtS s l with|none=>l++[s]|some p=>l.take p++[s]++l.drop p
 |[]=>rfl
 |x::r=>by
  unfold zI gtS;by_cases a:x.1>s.1
  ·simp_all
  ·rw[if_neg a,if_neg a,Zx0 s r]
   grind
theorem Qix{s:Zf}:∀{l:List Zf}{p:Nat},gtS s l=K2 p->p<l.length
 |[],_,h=>by cases h
 |x::r,p,h=>by
  unfold gtS at h;split at h
  ·cases h;simp
  ·cases hr:gtS s r with
   |none=>simp_all
   |some q=>
    rw[hr]at h;cases h;have:=Qix hr;simp_all
theorem Qpa{l:List Zf}(s:Zf)(hl:l.length<=1000000):∀(N i:Nat),l.length-i<N->i<=l.length->Q4 N l (s,()) (l.length:Int) (i:Int)=K2 (match gtS s (l.drop i)with|none=> -1|some p=>((i+p:Nat):Int),())
 |0,_,h,_=>Aa
 |N+1,i,b,c=>by
  unfold Q4 gG gK;by_cases a:i<l.length
  ·rw[Zn (Zl),Zb,show(i:Int).toNat=i from rfl,Zs a,Qy (d:=Zc) a,Qpa s hl N (i+1) Aa Aa];show Ld (K2 (K4 ((l.getD i Zc).1>s.1),())) _=_;rw[pA,gtS]
   grind
  ·rw[Zp (Zm),Ly Aa];rfl
theorem gtI(s:Zf)(hl:l.length<=1000000):Xs l (s,())=K2 (match gtS s l with|none=> -1|some p=>(p:Int),()):=by
 unfold Xs;refine Ll (Qpa s hl _ 0 (by simp[Yd]) Aa) ?_;simp_all
theorem Qeh(h:mi K l)(hs:Xc K s)(hK:K<=500000)(hi:Z8 l s.1= -1):Q8 l s=K2 (zI s l,()):=by
 have a:=h.len;unfold Q8;rw[QD Aa,pA,hi];have e:K4 ((-1:Int)>=0)=false:=rfl;simp only[e];refine Ll (Qpo h hs hK _ 0 [] (by simp[bo]) Aa Ae) ?_;simp
theorem Qm9(h:mi K l)(hs:Xc K s)(hK:K<=500000)(hi:Z8 l s.1= -1):lB l s=K2 (zI s l,()):=by
 have c:=h.len;have a:cP l=K2 (l,()):=by
  unfold cP;exact KO h Aa _ 0 (by simp[Wv]) Aa
 have b:∀p:Nat,p<=l.length->m9 s l (p:Int)=K2 (l.take p++[s]++l.drop p,()):=λp d=>by
  grind[m9,Znj,Qi0,Zca,Zb,Qp]
 unfold lB gG;rw[a,pA,uC Aa,QD Aa,pA,hi];have e:K4 ((-1:Int)>=0)=false:=rfl;simp only[e,pH];rw[gtI s Aa,pA,Zx0];cases hg:gtS s l with
 |none=>
  simp_all
 |some p=>
  simp only;rw[Zp (Zm),b p (Nat.le_of_lt (Qix hg))]
def Qgz(m:Oa Bool):Bool:=match m with|some (b,_)=>b|none=>Lc
theorem Qlc{m:Oa Bool}(h:TT m):m=K2 (Qgz m,()):=by
 obtain⟨⟨b,u⟩,e,-⟩:=h;rw[e];rfl
theorem Qgx(n:Int):m7 n=av n:=rfl
theorem Qm6(v:Bool)(n:Int):Vl v n=fS v n:=rfl
theorem Qpy(v:Bool)(n:Int):vl v n=Jy v n:=rfl
theorem Qke(v:Bool)(n:Int):iM v n=Ym v n:=rfl
theorem Z4s(n:Int):cd n=K2 (aY n,()):=rfl
theorem Za7(h:FOK f):bm f=K2 (Xa f,()):=xL f As
theorem Ze1(h:FOK f):ao f=K2 (Xa f,()):=QW f As
def idV(n:Int):Int:=cond (aY n) (n/4) (-1)
theorem Qrn(n:Int):rQ n=K2 (idV n,()):=by
 unfold rQ idV;rw[Kh,pA];have a:(2:Int)^ (min (2:Int).toNat Lb.bits)=4:=by
  rfl
 cases hq:aY n
 all_goals simp_all[Zb,Int.fdiv_eq_ediv_of_nonneg]
theorem Qrm(n:Int):kg n=K2 (idV n,()):=by
 unfold kg idV;rw[Z4s,pA];cases hq:aY n
 ·rfl
 ·have h:=X4.1 hq;rw[pI,pH,pG,Zb,Int.tdiv_eq_ediv_of_nonneg h.1,Zr]
theorem Qbt(n:Int):Za0 n=dO n:=by
 rfl
theorem Z0m(v:Bool)(n:Int)(o p:ks):vx v n o p=Vq v n o p:=by
 unfold vx gH Vq gH;simp only[Qdy,Qbt,Z4s,Kh,pA];rfl
def Zad(a:Qu)(n:Int):Bool:=Ziq a&&(K4 (0<=n)&&K4 (n<a.2.1))
def siN(a:Qu)(n:Int):Int:=max 0 (n+1-a.2.2.1)
def siV(a:Qu)(n:Int):Qu:=(a.1,a.2.1,a.2.2.1+siN a n,a.2.2.2)
theorem Qer{a:Qu}(h:Zad a n=K3):Lb.wrap (Lb.wrap (n+1)-a.2.2.1)=n+1-a.2.2.1/\Lb.wrap (a.2.2.1+siN a n)=a.2.2.1+siN a n:=by
 unfold Zad at h;simp only[pC,decide_eq_true_eq]at h;have g:=Zws.1 h.1;have:=g.lim;have:=g.seen;have:=g.most
 unfold siN;rw[Zr (n:=n+1),Zr,Zr];omega
theorem Qgp(a:Qu)(n:Int):oo a n=K2 (cond (Zad a n) (siV a n) a,cond (Zad a n) (siN a n) 0,Zad a n,()):=by
 unfold oo tO;rw[Qhd,pA];have e:(((!Ziq a)||(K4 (n<0)))||(K4 (n>=a.2.1)))= !Zad a n:=by
  have d:K4 (n<0)= !K4 (0<=n):=Ag
  have f:K4 (n>=a.2.1)= !K4 (n<a.2.1):=Ag
  grind[Zad]
 rw[e];cases h:Zad a n
 ·rfl
 ·obtain⟨c,b⟩:=Qer h;simp only[pI,pH,pG];rw[c];unfold siN at b;rw[b];rfl
theorem Z4j(a:Qu)(n:Int):gi a n=K2 (cond (Zad a n) (siV a n) a,cond (Zad a n) (siN a n) 0,Zad a n,()):=by
 unfold gi gH tO;rw[Z0b,Qhd,pA];simp only[bN,bO,bO2];have e:((!Ziq a)|| !(K4 (n>=0)&&K4 (n<=Lb.wrap (a.2.1-1))))= !Zad a n:=by
  unfold Zad;cases ha:Ziq a
  ·rfl
  ·have g:=Zws.1 ha;have:=g.lim;have:=g.most
   rw[Zr,show K4 (n<=a.2.1-1)=K4 (n<a.2.1)from decide_eq_decide.2 Aa];rfl
 rw[e];cases h:Zad a n
 ·rfl
 ·obtain⟨c,b⟩:=Qer h;simp only[pI,pH,pG];rw[c,Int.max_comm];unfold siN at b;rw[b];rfl
def Zg3(w:Ql)(n:Int):Bool:=Zil w&&(K4 (0<=n)&&K4 (n<=w.2.2.1-w.2.2.2.1))
def snV(w:Ql)(n:Int):Ql:=cond (Zg3 w n) (w.1,w.2.1,w.2.2.1,w.2.2.2.1+n,w.2.2.2.2) w
theorem Qvm(w:Ql)(n:Int):om w n=K2 (snV w n,Zg3 w n,()):=by
 unfold om tD snV;rw[Qag,pA];cases hw:Zil w
 ·simp_all[Zg3]
 ·have g:=Zim.1 hw;have:=g.lim;have:=g.seen
  rw[Zr (n:=w.2.2.1-w.2.2.2.1)];by_cases a:0<=n/\n<=w.2.2.1-w.2.2.2.1
  ·have e:Zg3 w n=true:=Ax
   rw[e,Zp Ac,Zr];rfl
  ·have e:Zg3 w n=false:=Ax
   grind
theorem Qnk(w:Ql)(n:Int):oc w n=K2 (snV w n,Zg3 w n,()):=by
 unfold oc gH tD snV;rw[Ze3,Qag,pA];simp only[bN,bO,bO2];cases hw:Zil w
 ·simp_all[Zg3]
 ·have g:=Zim.1 hw;have:=g.lim;have:=g.seen
  rw[Zr (n:=w.2.2.1-w.2.2.2.1)];have e:(!K3|| !(K4 (n>=0)&&K4 (n<=w.2.2.1-w.2.2.2.1)))= !Zg3 w n:=Ax
  rw[e];cases h:Zg3 w n
  ·rfl
  ·unfold Zg3 at h;simp only[pC,decide_eq_true_eq]at h;rw[pI,pH,pG,Zr]
theorem Qd1(w:Ql):rC w=K2 (cond (Zil w) (w.2.2.1-w.2.2.2.1) 0,()):=by
 unfold rC;rw[Ze3,Qag,pA];cases hw:Zil w
 ·rfl
 ·have g:=Zim.1 hw;have:=g.lim;have:=g.seen
  rw[pI,pH,pG,Zr]
def Zko(w:Ql)(n:Int):Bool:=Zil w&&(K4 (0<=n)&&K4 (n<=w.2.2.2.1-w.2.2.2.2.1))
def rdV(w:Ql)(n:Int):Ql:=cond (Zko w n) (w.1,w.2.1,w.2.2.1,w.2.2.2.1,w.2.2.2.2.1+n,w.2.2.2.2.2) w
theorem Qkb(w:Ql)(n:Int):lW w n=K2 (rdV w n,Zko w n,()):=by
 unfold lW tG rdV;rw[Qag,pA];cases hw:Zil w
 ·simp_all[Zko]
 ·have g:=Zim.1 hw;have:=g.lim;have:=g.seen;have:=g.read
  rw[Zr (n:=w.2.2.2.1-w.2.2.2.2.1)];by_cases a:0<=n/\n<=w.2.2.2.1-w.2.2.2.2.1
  ·have e:Zko w n=true:=by simp_all[Zko]
   rw[e,Zp Ac,Zr];rfl
  ·have e:Zko w n=false:=by simp_all[Zko]
   grind
theorem Qpu(w:Ql)(n:Int):aG w n=K2 (rdV w n,Zko w n,()):=by
 unfold aG gH tG rdV;rw[Ze3,Qag,pA];simp only[bN,bO,bO2];cases hw:Zil w
 ·simp_all[Zko]
 ·have g:=Zim.1 hw;have:=g.lim;have:=g.seen;have:=g.read
  rw[Zr (n:=w.2.2.2.1-w.2.2.2.2.1)];have e:(!K3|| !(K4 (n>=0)&&K4 (n<=w.2.2.2.1-w.2.2.2.2.1)))= !Zko w n:=by simp_all[Zko]
  rw[e];cases h:Zko w n
  ·rfl
  ·unfold Zko at h;simp only[pC,decide_eq_true_eq]at h;rw[pI,pH,pG,Zr]
def coV(a:Qu):Qu:=cond (Ziq a&& !(a.2.2.2.1==a.2.2.1)) (a.1,a.2.1,a.2.2.1,a.2.2.2.1+1,a.2.2.2.2) a
theorem Qaq(a:Qu):T (gv a) λr=>r.1=coV a:=by
 unfold gv tD coV;rw[Qhd,pA];cases ha:Ziq a
 ·exact T.pure rfl
 ·have g:=Zws.1 ha;have:=g.lim;have:=g.seen;have:=g.clo
  cases a.2.2.2.1==a.2.2.1
  ·exact T.pure (by simp only[Ls,Lg,pG];grind[Zr])
  ·exact T.pure rfl
theorem Qhu(a:Qu):Z0 a=gv a:=rfl
def nbV(r:Zu)(e:Int):Int:=cond (Zxj r&&aY e) (max 0 (Lb.wrap (e-r.2.2.2.1))) 0
theorem Qf4(h:bZ K r.2.1)(hK:K<=1000000)(e:Int):tw r e=K2 (nbV r e,()):=by
 grind[tw,nbV,Zkn,Kh]
theorem Z31(h:bZ K r.2.1)(hK:K<=1000000)(e:Int):yo r e=K2 (nbV r e,()):=by
 grind[yo,nbV,ZC,Zkn,Zc1]
def rlV(c:Ky)(n:Int):Ky:=cond ((Zh5 c&&K4 (n>c.1))&&K4 (n<=4611686018427387903)) (n,c.2.1,(-1:Int),c.2.2.2) c
theorem Qsi(c:Ky)(n:Int):sg c n=K2 (rlV c n,()):=by
 grind[sg,rlV,Zlc,Z2o]
theorem Qsj(c:Ky)(n:Int):jn c n=K2 (rlV c n,()):=by
 unfold jn gH rlV;rw[Z2o,pA];simp only[Kh,bO,bO2];cases hc:Zh5 c
 ·rfl
 ·have g:=Z76.1 hc;have:=g.use0;have:=g.use
  by_cases h:n>c.1/\n<=4611686018427387903
  ·grind[X4]
  ·rw[Zn,Zp]
   ·simp_all
   grind[X4]
def rcV(c:dn)(n:Int):dn:=cond ((WM c&&K4 (n>c.1))&&K4 (n<=1152921504606846976)) (n,c.2.1,(-1:Int),c.2.2.2) c
theorem Qnd(c:dn)(n:Int):se c n=K2 (rcV c n,()):=by
 grind[se,rcV,Z0c,Qfh]
theorem Qne(c:dn)(n:Int):jm c n=K2 (rcV c n,()):=by
 unfold jm rcV;rw[Qfh,pA]
 grind
theorem Z56(hl:l.length<=1000000)(n:Int)(h:Z8 l n<0):Z8 l n= -1:=by
 have b:∀(N i:Nat),l-i<N->i<=l-> ∃v,Kp N l n (i:Int)=K2 (v,())/\(v<0->v= -1):=by
  intro N
  induction N with
  |zero=>intro i h;omega
  |succ N c=>
   intro i g j;unfold Kp;by_cases d:i<l
   ·rw[Zn (Zl),Zb,Zs d];obtain⟨v,a,f⟩:=c (i+1) Aa Aa;cases ((l.getD (i:Int).toNat Zc).1==n)
    all_goals simp_all
   grind
 obtain⟨v,a,f⟩:=b (Jm l n 0) 0 (by simp[Jm]) Aa;have e:Ko l n=K2 (v,()):=a;simp_all[QD]
theorem Z55(hl:l.length<=1000000)(h:∃s∈l,s.1=n):0<=Z8 l n:=by
 grind[qt]
def Zbp(l:List Zf)(s:Zf):List Zf:=ite (0<=Z8 l s.1) (l.set (Z8 l s.1).toNat s) (zI s l)
theorem Z22(h:mi K l)(hs:Xc K s)(hK:K<=500000:=by omega):Q8 l s=K2 (Zbp l s,()):=by
 have b:=h.len;unfold Zbp;by_cases a:0<=Z8 l s.1
 ·rw[if_pos a];grind[Zfq]
 ·rw[if_neg a];grind[Qeh,Z56]
theorem Qva(h:mi K l)(hs:Xc K s)(hK:K<=500000:=by omega):lB l s=K2 (Zbp l s,()):=by
 have c:=h.len;unfold Zbp;by_cases a:0<=Z8 l s.1
 ·have d:=(qt (l:=l) Aa s.1).1;rw[if_pos a];unfold lB gG;have b:cP l=K2 (l,()):=by
   unfold cP;exact KO h Aa _ 0 (by simp[Wv]) Aa
  rw[b,pA,uC Aa,QD Aa,pA,Zn (Zl),Zca hs,pA,Zb ⟨a,Ab⟩]
 ·rw[if_neg a];grind[Qm9,Z56]
theorem Zz7(s:Zf):∀l:List Zf,(zI s l)=l.length+1:=λl=>by
 grind[Zx0]
theorem Za5{x:Zf}:∀{l:List Zf},x∈zI s l↔x=s\/x∈l:=λ{l}=>by
 rw[Zx0];cases h:gtS s l with
 |none=>simp[or_comm]
 |some p=>
  grind[List.take_append_drop]
theorem Zfr(l:List Zf)(s:Zf):(Zbp l s)<=l.length+1:=by
 grind[Zbp,Zz7]
theorem Z9n{x:Zf}(h:x∈Zbp l s):x=s\/x∈l:=by
 grind[Zbp,Za5]
theorem Qna(hl:l.length<=1000000)(s:Zf):s∈Zbp l s:=by
 unfold Zbp;split
 ·rename_i h;have:=(qt hl s.1).1
  grind[List.mem_set]
 simp_all[Za5]
theorem Z1i(h:mi K l)(hs:Xc K s)(hl:l+1<=K:=by omega):mi K (Zbp l s):=⟨by grind[Zfr],λx hx=>by
 rcases Z9n hx with e|e
 ·rw[e];exact hs
 ·exact h.all x e⟩
def nsV(v:Bool)(id:Int)(o p:ks):Zf:=match Vq v id o p with|some (s,_)=>s|none=>Zc
theorem Z6j(v:Bool)(id:Int)(o p:ks):∃b,Vq v id o p=K2 (nsV v id o p,b,())/\Xc 0 (nsV v id o p):=by
 obtain⟨⟨s,b,u⟩,e,h⟩:=Z0n v id o p;simp_all[nsV]
abbrev XU(c:Ze)(l:List Zf):Ze:=(c.1,c.2.1,c.2.2.1,l,c.2.2.2.2)
def mkL(v:Bool)(o p:ks)(id:Int):Nat->List Zf->List Zf|0,l=>l|m+1,l=>mkL v o p id m (Zbp l (nsV v (Lb.wrap (id-Lb.wrap (4*(m:Int)))) o p))
theorem Qea(v:Bool)(o p:ks)(id:Int):∀(m:Nat)(l:List Zf),(mkL v o p id m l)<=l+m
 |0,_=>My _
 |m+1,l=>by
  have:=Qea v o p id m (Zbp l (nsV v (Lb.wrap (id-Lb.wrap (4*(m:Int)))) o p))
  grind[Zfr,mkL]
theorem Qd9(id:Int){K:Nat}(h25:25<=K)(hK:K<=400000):∀(N m:Nat)(c:Ze),m<N->c.2.2.2.1+m<=24->mi K c.2.2.2.1->eH N c id ((m:Int)-1)=K2 ((),XU c (mkL c.1 c.2.1 c.2.2.1 id m c.2.2.2.1),())
 |0,m,_,h,_,_=>Aa
 |N+1,0,c,_,_,_=>by
  rfl
 |N+1,m+1,c,a,d,h=>by
  unfold eH;simp only[Xr];rw[Zn (Zl),show((m+1:Nat):Int)-1=(m:Int) by omega];obtain⟨b,e,hs⟩:=Z6j c.1 (Lb.wrap (id-Lb.wrap (4*(m:Int)))) c.2.1 c.2.2.1;have f:=Zfr c.2.2.2.1 (nsV c.1 (Lb.wrap (id-Lb.wrap (4*(m:Int)))) c.2.1 c.2.2.1);rw[e,pA];unfold zm tD;rw[Z22 h (hs.mono (L4 _)),pA];simp only;rw[Zr (n:=(m:Int)-1),Qd9 id h25 hK N m _ Aa Ab (Z1i h (hs.mono (L4 _)))];rfl
theorem Qd8(id:Int){K:Nat}(h25:25<=K)(hK:K<=400000):∀(N m:Nat)(c:Ze),m<N->c.2.2.2.1+m<=24->mi K c.2.2.2.1->dY N c id ((m:Int)-1)=K2 (((0:Int),()),XU c (mkL c.1 c.2.1 c.2.2.1 id m c.2.2.2.1),())
 |0,m,_,h,_,_=>Aa
 |N+1,0,c,_,a,_=>by
  unfold dY;rw[Zp (Zm),Zp (Zm)];rfl
 |N+1,m+1,c,d,a,h=>by
  unfold dY;simp only[Xr];rw[Zn (Zl),show((m+1:Nat):Int)-1=(m:Int) by omega];obtain⟨b,e,hs⟩:=Z6j c.1 (Lb.wrap (id-Lb.wrap (4*(m:Int)))) c.2.1 c.2.2.1;have f:=Zfr c.2.2.2.1 (nsV c.1 (Lb.wrap (id-Lb.wrap (4*(m:Int)))) c.2.1 c.2.2.1);rw[Z0m,e,pA];unfold xU tD;rw[Qva h (hs.mono (L4 _)),pA];simp only;rw[Zr (n:=(m:Int)-1),Qd8 id h25 hK N m _ Aa Ab (Z1i h (hs.mono (L4 _)))];rfl
def eg(v:Bool)(n:Int):Bool:=Qgz (fS v n)
theorem Z9g(v:Bool)(n:Int):fS v n=K2 (eg v n,()):=Qlc (Qr8 v n)
def cJ(n:Int):Bool:=Qgz (av n)
theorem Z2d(n:Int):av n=K2 (cJ n,()):=Qlc (Qn7 n)
def Xw(c:Ze)(id:Int):Qu:=cond (cJ id) c.2.2.2.2.2.2.2.2.2.1 c.2.2.2.2.2.2.2.2.1
def xH(c:Ze)(id:Int)(a:Qu):Ze:=cond (cJ id) (c.1,c.2.1,c.2.2.1,c.2.2.2.1,c.2.2.2.2.1,c.2.2.2.2.2.1,c.2.2.2.2.2.2.1,c.2.2.2.2.2.2.2.1,c.2.2.2.2.2.2.2.2.1,a,c.2.2.2.2.2.2.2.2.2.2) (c.1,c.2.1,c.2.2.1,c.2.2.2.1,c.2.2.2.2.1,c.2.2.2.2.2.1,c.2.2.2.2.2.2.1,c.2.2.2.2.2.2.2.1,a,c.2.2.2.2.2.2.2.2.2)
def Zaw(c:Ze)(id:Int):Bool:=(Zad (Xw c id) (idV id)&& !(siN (Xw c id) (idV id)==0))&&K4 (c.2.2.2.1+siN (Xw c id) (idV id)<=24)
def Zzp(c:Ze)(id:Int):Ze:=XU (xH c id (siV (Xw c id) (idV id))) (mkL c.1 c.2.1 c.2.2.1 id (siN (Xw c id) (idV id)).toNat c.2.2.2.1)
def fH(c:Ze)(id:Int):Int×Ze:=cond (K4 (0<=Z8 c.2.2.2.1 id)) (0,c) (cond (eg c.1 id) (5,c) (cond (Zaw c id) (0,Zzp c id) (4,c)))
theorem Qce(a:Qu)(n:Int):0<=siN a n:=by unfold siN;omega
theorem Zqd(h:Zaw c id=K3):c.2.2.2.1+(siN (Xw c id) (idV id)).toNat<=24/\1<=siN (Xw c id) (idV id):=by
 unfold Zaw at h;simp only[pC,decide_eq_true_eq,Lw,beq_eq_false_iff_ne]at h;have:=Qce (Xw c id) (idV id);omega
theorem Zqe(h:Q5 K c)(hc:bP c=K3)(h25:25<=K)(hK:K<=400000)(hq:aY id=K3):ap c id=K2 ((fH c id).2,(fH c id).1,()):=by
 have a:=(Zf3 h).1 hc;have b:=(Z97.1 a.sts).len;have k:∀(t x:Ze)(n:Int),0<=n->x.2.2.2.1=c.2.2.2.1->c.2.2.2.1+n.toNat<=24->aN id t x n=K2 (XU x (mkL x.1 x.2.1 x.2.2.1 id n.toNat x.2.2.2.1),(0:Int),()):=λt x n l hx d=>by
  unfold aN YC;rw[Zr,show n-1=((n.toNat:Nat):Int)-1 by omega,Qd9 id h25 hK _ n.toNat x (by grind[nK]) (by rw[hx];exact d) (by rw[hx];exact h.str)];rfl
 have e:∀t,K8 id c t c (Xw c id)=K2 (cond (Zaw c id) (Zzp c id,(0:Int),()) (c,(4:Int),())):=λt=>by
  unfold K8;simp only[Xr,Ke];rw[Qrn,pA,Qgp,pA];unfold c8 tB tC;simp only;have m:=Qce (Xw c id) (idV id);cases hs:Zad (Xw c id) (idV id)
  ·grind[Zaw]
  ·simp only[pG,pI,Lf];have o:siN (Xw c id) (idV id)<=1152921504606846976:=by
    unfold Zad at hs;simp only[pC,decide_eq_true_eq]at hs;have g:=Zws.1 hs.1;have:=g.lim;have:=g.seen;unfold siN;omega
   have f:Lb.wrap (c.2.2.2.1+siN (Xw c id) (idV id))=c.2.2.2.1+siN (Xw c id) (idV id):=Zr;simp only[f];have i:((siN (Xw c id) (idV id)==0)||K4 (c.2.2.2.1+siN (Xw c id) (idV id)>24))= !Zaw c id:=by
    unfold Zaw
    grind
   rw[i];cases hG:Zaw c id
   ·rfl
   ·have p:=Zqd hG;rw[pI,pH,Z2d,pA,pG];unfold Zzp xH;cases cJ id
    ·grind
    grind
 unfold ap gH fH;rw[Ji h,pA,Zb2 h,hc,pA,Kh,hq];simp only[pI,pH,Lh,pA];rw[QD Aa,pA];simp only[ge_iff_le];cases K4 (0<=Z8 c.2.2.2.1 id)
 ·rw[pH,pH,Z9g,pA];simp only;cases eg c.1 id
  ·have j:(cond (cJ id) (K8 id c X9 c c.2.2.2.2.2.2.2.2.2.1) (K8 id c X9 c c.2.2.2.2.2.2.2.2.1))=K8 id c X9 c (Xw c id):=by grind[Xw]
   rw[pH,pH,Z2d,pA];simp only;rw[j,e];cases Zaw c id<;>rfl
  ·rfl
 ·rfl
theorem Zxu(h:Q5 K c)(hc:bP c=K3)(h25:25<=K)(hK:K<=400000)(id:Int):cN c id=K2 (((fH c id).1,()),(fH c id).2,()):=by
 have i:=(Zf3 h).1 hc;have j:=(Z97.1 i.sts).len;have b:∀(x:Ze)(n:Int),0<=n->x.2.2.2.1=c.2.2.2.1->c.2.2.2.1+n.toNat<=24->js x id n=K2 (((0:Int),()),XU x (mkL x.1 x.2.1 x.2.2.1 id n.toNat x.2.2.2.1),()):=λx n o hx k=>by
  unfold js;rw[Zr,show n-1=((n.toNat:Nat):Int)-1 by omega,Qd8 id h25 hK _ n.toNat x (by grind[nX]) (by rw[hx];exact k) (by rw[hx];exact h.str)]
 have d:∀n,Z5 c n=K2 (cJ n,c,()):=λn=>by
  unfold Z5;rw[Qgx,Z2d,pA];cases cJ n<;>rfl
 have e:Vd c id (cond (Zad (Xw c id) (idV id)) (siV (Xw c id) (idV id)) (Xw c id)) (cond (Zad (Xw c id) (idV id)) (siN (Xw c id) (idV id)) 0) (Zad (Xw c id) (idV id))=K2 (cond (Zaw c id) (((0:Int),()),Zzp c id,()) (((4:Int),()),c,())):=by
  unfold Vd tB tC;have f:=Qce (Xw c id) (idV id);cases hs:Zad (Xw c id) (idV id)
  ·have:Zaw c id=false:=by unfold Zaw;rw[hs];rfl
   rw[this];rfl
  ·simp only[pG,pI,Lf];have l:Lb.wrap (24-c.2.2.2.1)=24-c.2.2.2.1:=Zr;simp only[l];have m:((siN (Xw c id) (idV id)==0)||K4 (siN (Xw c id) (idV id)>24-c.2.2.2.1))= !Zaw c id:=by
    unfold Zaw;rw[hs,show K4 (siN (Xw c id) (idV id)>24-c.2.2.2.1)= !K4 (c.2.2.2.1+siN (Xw c id) (idV id)<=24) by grind];simp
   rw[m];cases hG:Zaw c id
   ·rfl
   ·have g:=Zqd hG;rw[pI,pH,d,pA,pG];unfold Zzp xH;cases cJ id
    ·exact b _ _ f rfl g.1
    ·exact b _ _ f rfl g.1
 have p:=h.str.len;unfold cN fH;simp only[Xr,Ke];rw[uC Aa,QD Aa,pA];simp only[ge_iff_le];cases K4 (0<=Z8 c.2.2.2.1 id)
 ·rw[pH,pH,Qm6,Z9g,pA];simp only;cases eg c.1 id
  ·rw[pH,pH,d,pA,Qrm];have a:Xw c id=(cond (cJ id) c.2.2.2.2.2.2.2.2.2.1 c.2.2.2.2.2.2.2.2.1):=rfl;cases hu:cJ id
   ·rw[hu,pH]at a;simp only[pH,pA];rw[Z4j,pA];simp only;rw[<-a,e];cases Zaw c id<;>rfl
   ·rw[hu,pG]at a;simp only[pG,pA];rw[Z4j,pA];simp only;rw[<-a,e];cases Zaw c id<;>rfl
  ·rfl
 ·rfl
theorem Z3i:∀{l:List Qd}{e:Int},Zs6 e l->l≠[]->(∀c∈l,Jo c<=Jo (l.getD (l.length-1) Qt))/\e<Jo (l.getD (l.length-1) Qt)
 |[],_,_,h=>absurd rfl h
 |[c],e,h,_=>by
  have:=WL h.2.1;have:=h.1
  grind
 |c::d::l,e,h,_=>by
  obtain⟨b,f⟩:=Z3i (l:=d::l) h.2.2 Ae;have a:(c::d::l).getD ((c::d::l).length-1) Qt=(d::l).getD ((d::l).length-1) Qt:=rfl;rw[a];have:=WL h.2.1;have:=h.1
  grind
theorem Z49(ht:mj b.2.1<=1000000)(hb:qs b=K3):(0<=b.1/\b.1<=4611686018427387903)/\Zs6 (b.1-1) b.2.1/\ ∀c∈b.2.1,0<=c.1/\Jo c<=4611686018427387903:=by
 obtain⟨d,e,-⟩:=zx ht hb;unfold qs at hb;simp only[pC]at hb;rw[Zr]at hb;obtain⟨f,g⟩:=Zp7 hb.1 Aa λc a=>by have:=Zak a;omega
 grind
theorem Qwq(h:bZ K b)(hK:K<=1000000)(hb:qs b=K3):∃v,wv b=K2 (v,())/\ ∀H:Int,v<=H↔b.1<=H/\ ∀c∈b.2.1,Jo c<=H:=by
 have j:=h.len;have k:=h.tot;obtain⟨l,e,f⟩:=Z49 Aa hb;unfold wv gG gH gJ;by_cases a:b.2.1=[]
 ·simp_all
 ·have m:0<b.2.1.length:=Lz.2 a;have g:((b.2.1.length:Int)==0)=false:=by simp;exact a
  obtain⟨n,o⟩:=Z3i e a;have i:=Z2 (d:=Qt) (show b.2.1.length-1<b.2.1.length by omega);have p:=f _ i;simp only[g,pH];rw[lH _,hb,pA];simp only[pI,Lh,pH];rw[Zr,Zb,show((b.2.1.length:Int)-1).toNat=b.2.1.length-1 by omega,Zr Aa Au];refine⟨_,rfl,λH=>?_⟩
  grind[Jo]
theorem Zfu(h:bZ K b)(hK:K<=1000000)(hb:qs b=K3):0<=Jq b/\b.1+Jq b<=4611686018427387903/\(Jq b=0\/ ∃c∈b.2.1,b.1+Jq b=Jo c):=by
 obtain⟨a,d,e⟩:=Z49 (by have:=h.tot;omega) hb;unfold Jq;split
 ·grind[Jo]
 omega
structure Zpu(r:Zu):Prop where
 buf:qs r.2.1=K3
 hq:0<=r.2.2.2.1/\r.2.2.2.1<=4611686018427387903
 e0:r.2.1.1<=r.2.2.2.1
 ec:∀c∈r.2.1.2.1,Jo c<=r.2.2.2.1
 code:0<=r.2.2.2.2.1/\r.2.2.2.2.1<=4611686018427387903
 fin:r.2.2.1= -1\/(r.2.2.2.1<=r.2.2.1/\r.2.2.1<=4611686018427387903)
 st:(r.1=0/\r.2.2.1= -1/\r.2.2.2.2.1=0)\/(r.1=1/\r.2.2.1≠ -1/\r.2.1.1+Jq r.2.1≠r.2.2.1/\r.2.2.2.2.1=0)\/(r.1=2/\r.2.2.1≠ -1/\r.2.1.1+Jq r.2.1=r.2.2.1/\r.2.2.2.2.1=0)\/(r.1=3/\r.2.2.1≠ -1/\r.2.1.1+Jq r.2.1=r.2.2.1/\r.2.1.2.1=[]/\r.2.2.2.2.1=0)\/((r.1=4\/r.1=5)/\r.2.2.1≠ -1/\r.2.2.2.1=r.2.2.1/\r.2.1.2.1=[])
def rcS(r:Zu):Bool:=bif r.1==(0:Int)then(r.2.2.1==(-1:Int))&&(r.2.2.2.2.1==(0:Int))else bif r.1==(1:Int)then((r.2.2.1 !=(-1:Int))&&(!((r.2.2.1 !=(-1:Int))&&((r.2.1.1+Jq r.2.1)==r.2.2.1))))&&(r.2.2.2.2.1==(0:Int))else bif r.1==(2:Int)then((r.2.2.1 !=(-1:Int))&&((r.2.1.1+Jq r.2.1)==r.2.2.1))&&(r.2.2.2.2.1==(0:Int))else bif r.1==(3:Int)then(((r.2.2.1 !=(-1:Int))&&((r.2.1.1+Jq r.2.1)==r.2.2.1))&&((r.2.1.2.1.length:Int)==(0:Int)))&&(r.2.2.2.2.1==(0:Int))else cond ((r.1==(4:Int))||(r.1==(5:Int))) (((r.2.2.1 !=(-1:Int))&&(r.2.2.2.1==r.2.2.1))&&((r.2.1.2.1.length:Int)==(0:Int))) Lc
def rcP(r:Zu)(v:Int):Bool:=((aY r.2.2.2.1&& !K4 (v>r.2.2.2.1))&&aY r.2.2.2.2.1)&& !((((r.2.2.1 !=(-1:Int))&&(K4 (r.2.2.1<r.2.2.2.1)))||(K4 (r.2.2.1>(4611686018427387903:Int))))||(K4 (r.2.2.1<(-1:Int))))
theorem rcE(h:bZ K r.2.1)(hK:K<=1000000)(hb:qs r.2.1=K3):∃v,(∀H:Int,v<=H↔r.2.1.1<=H/\ ∀c∈r.2.1.2.1,Jo c<=H)/\Zxj r=(rcP r v&&rcS r):=by
 obtain⟨v,k,hv⟩:=Qwq h hK hb;refine⟨v,hv,?_⟩;have l:=h.len;have e:=Zkn h hK;unfold Yt gH Kr at e;rw[lH _,hb,pA,lK _]at e;obtain⟨m,n,-⟩:=Zfu h hK hb;obtain⟨o,-,-⟩:=Z49 (by have:=h.tot;omega) hb;have i:Lb.wrap (r.2.1.1+Jq r.2.1)=r.2.1.1+Jq r.2.1:=Zr;simp only[Kh,pI,Lf,pH,pA]at e;have f:=e.symm;have g:∀{a b:Bool},K2 (a,())=K2 (b,())->a=b:=λh=>by simpa using h
 unfold rcP rcS;cases h1:aY r.2.2.2.1
 ·grind
 rw[h1,k]at f;simp only[pI,Lf,pH,pA]at f;cases h2:K4 (v>r.2.2.2.1)
 ·rw[h2]at f;simp only[Lf,pH,pA]at f;cases h3:aY r.2.2.2.2.1
  ·grind
  rw[h3]at f;simp only[pI,Lf]at f;cases h4:(((r.2.2.1 !=(-1:Int))&&(K4 (r.2.2.1<r.2.2.2.1)))||(K4 (r.2.2.1>(4611686018427387903:Int))))||(K4 (r.2.2.1<(-1:Int)))
  ·rw[h4]at f;simp only[pH,Ls,Lg,pJ]at f⊢;have j:∀{β:Type}(k:Int×Unit->Option β),(∀x y,r.2.2.1= -1->k x=k y)->Ld (cond (r.2.2.1 !=(-1:Int)) (K2 (Jq r.2.1,())) (K2 ((0:Int),()))) k=k (Jq r.2.1,()):=λk hk=>by
    grind
   rw[j _ λx y d=>by rw[d];rfl]at f;simp only[i]at f
   grind
  grind
 grind
theorem VV(h:bZ K r.2.1)(hK:K<=1000000:=by omega):Zxj r=K3↔Zpu r:=by
 cases hb:qs r.2.1
 ·have e:=Zkn h hK;unfold Yt gH at e;rw[lH _ (by have:=h.len;omega),hb]at e;have f:Zxj r=false:=Ac
  rw[f];exact⟨λh=>Mh h,λh=>by have:=h.buf;simp_all⟩
 ·obtain⟨v,hv,e⟩:=rcE h hK hb;rw[e,pC];have g:rcP r v=K3↔((0<=r.2.2.2.1/\r.2.2.2.1<=4611686018427387903)/\v<=r.2.2.2.1)/\(0<=r.2.2.2.2.1/\r.2.2.2.2.1<=4611686018427387903)/\(r.2.2.1= -1\/(r.2.2.2.1<=r.2.2.1/\r.2.2.1<=4611686018427387903)):=by
   unfold rcP;simp only[pC,X4,Lw,decide_eq_false_iff_not,Lv,Mf,bne_eq_false_iff_eq];omega
  have i:rcS r=K3↔((r.1=0/\r.2.2.1= -1/\r.2.2.2.2.1=0)\/(r.1=1/\r.2.2.1≠ -1/\r.2.1.1+Jq r.2.1≠r.2.2.1/\r.2.2.2.2.1=0)\/(r.1=2/\r.2.2.1≠ -1/\r.2.1.1+Jq r.2.1=r.2.2.1/\r.2.2.2.2.1=0)\/(r.1=3/\r.2.2.1≠ -1/\r.2.1.1+Jq r.2.1=r.2.2.1/\r.2.1.2.1=[]/\r.2.2.2.2.1=0)\/((r.1=4\/r.1=5)/\r.2.2.1≠ -1/\r.2.2.2.1=r.2.2.1/\r.2.1.2.1=[])):=by
   have j:((r.2.1.2.1.length:Int)==0)=K3↔r.2.1.2.1=[]:=by
    simp_all
   unfold rcS;by_cases k:r.1=0
   ·simp_all
   rw[show(r.1==(0:Int))=Lc by simp[k],pH];by_cases l:r.1=1
   ·grind
   rw[show(r.1==(1:Int))=Lc by simp[l],pH];by_cases m:r.1=2
   ·grind
   rw[show(r.1==(2:Int))=Lc by simp[m],pH];by_cases n:r.1=3
   ·grind
   grind
  rw[g,i];constructor
  ·rintro⟨⟨⟨a,b⟩,c,d⟩,s⟩;have:=(hv _).1 b;exact⟨hb,a,this.1,this.2,c,d,s⟩
  ·intro R;exact⟨⟨⟨R.hq,(hv _).2 ⟨R.e0,R.ec⟩⟩,R.code,R.fin⟩,R.st⟩
theorem Qkg(b:Zv)(o:Int)(d:Ba):∀{l:List Zi}{e:Int},rsB e l=K3->(∀r∈l,r.2.1-r.1<=4000000)->ckB e (l.map (rgS b o d))=K3
 |[],_,_,_=>rfl
 |r::l,e,h,a=>by
  obtain⟨c,j,f⟩:=Wp.1 h;have c:=Qh.1 c;have k:=a r Lr;have g:(Zik b o d r.1 (r.2.1-r.1).toNat).length=(r.2.1-r.1).toNat:=Zsn b o d _ _;have i:(Zik b o d r.1 (r.2.1-r.1).toNat==([]:Ba))=false:=by
   grind
  change (!(((K4 (r.1<=e))||(Zik b o d r.1 (r.2.1-r.1).toNat==([]:Ba)))||(K4 (r.1>(Lb.wrap ((4611686018427387903:Int)- ((Zik b o d r.1 (r.2.1-r.1).toNat).length:Int))))))&&ckB (Lb.wrap (r.1+((Zik b o d r.1 (r.2.1-r.1).toNat).length:Int))) (l.map (rgS b o d)))=K3;rw[g,i,Zm,Zr,Zm,Zr,show r.1+((r.2.1-r.1).toNat:Int)=r.2.1 by omega];rw[Qkg b o d f λx hx=>a x (Lq _ hx)];rfl
theorem Qms(h:bZ K b)(o:Int)(d:Ba)(hK:K+d.length+1<=1000000)(hb:qs b=K3){E:Int}(hE:∀c∈b.2.1,Jo c<=E)(hE2:o+(d.length:Int)<=E):
  qs (Zls b o d)=K3/\(Zls b o d).1=b.1/\ ∀c∈(Zls b o d).2.1,Jo c<=E:=by
 unfold Zls;by_cases g:(((!qs b||(d==([]:Ba)))||K4 (o<0))||K4 (o>4611686018427387903- (d.length:Int)))||K4 (o+(d.length:Int)<=b.1)
 ·grind
 ·rw[L8]at g;rw[Zp g];simp only[Lv,decide_eq_false_iff_not]at g;obtain⟨⟨⟨⟨-,v⟩,p⟩,q⟩,s⟩:=g;have j:0<d.length:=Lz.2 λe=>Ac
  obtain⟨k,-,t⟩:=Qpb h o d hK hb j p q s;obtain⟨w,y,z⟩:=Z49 (by have:=h.tot;omega) hb;have A:=h.tot;have f:=Zi0 (l:=b.2.1.map rgC) (r:=((max o b.1,o+(d.length:Int),()):Zi)) (λx hx=>by
   obtain⟨c,i,rfl⟩:=Mc.1 hx
   grind[rgC]) Ab
  rw[Zxp]at f;simp only at f;have m:∀{l:List Zi},(∀r∈l,W7 r=K3)->0<=bu l/\ ∀r∈l,r.2.1-r.1<=bu l:=by
   intro l
   induction l with
   |nil=>simp_all[bu]
   |cons r l u=>
    intro n;have a:=Qh.1 (n r Lr);obtain⟨k,B⟩:=u λr a=>n r (Lq _ a);simp only[bu]
    grind
  have C:=(m λr a=>(rJ k r a).2).2;rw[<-t];refine⟨?_,rfl,λc i=>?_⟩
  ·grind[qs,Zr,Qkg]
  ·obtain⟨r,a,rfl⟩:=Mc.1 i;have D:=Qh.1 (rJ k r a).2;rw[Z60 b o d];refine Zef (E:=E) (l:=b.2.1.map rgC) (r:=(max o b.1,o+(d.length:Int),())) (λx hx=>?_) hE2 r a;obtain⟨c,i,rfl⟩:=Mc.1 hx;exact hE c i
theorem Z5d{e:Int}{fin:Bool}(h:Zhd r e fin=Lc):(r.2.2.1= -1\/e<=r.2.2.1)/\(fin=K3->(r.2.2.1= -1\/e=r.2.2.1)/\r.2.2.2.1<=e):=by
 grind[Zhd]
theorem Qnf(h:bZ K r.2.1)(fin:Bool)(hK:K+d.length+1<=900000)(R:Zpu r)(ho:0<=o)(hE:o+(d.length:Int)<=4611686018427387903):
  Pc (Yp r o d fin) λy=>y.2.1=0->Zpu y.1/\y.1.2.2.2.1<=r.2.2.2.1+nbV r (o+(d.length:Int)):=by
 have i:=(VV h).2 R;have p:nbV r (o+(d.length:Int))=max 0 (o+(d.length:Int)-r.2.2.2.1):=by
  unfold nbV;have:=R.hq
  grind[X4,Zr]
 have g:=Z8t h o d Aa Aa;obtain⟨f,q,u⟩:=Qms h o d Aa R.buf (E:=max r.2.2.2.1 (o+(d.length:Int))) (λc b=>by have:=R.ec c b;omega) Aa;obtain⟨v,w,-⟩:=Zfu g Aa f;have z:∀t x,x.2.1=r.2.1->x.2.2.2.1=max r.2.2.2.1 (o+(d.length:Int))->x.2.2.2.2.1=0->((x.1=0/\x.2.2.1= -1)\/(x.1=1/\max r.2.2.2.1 (o+(d.length:Int))<=x.2.2.1/\x.2.2.1<=4611686018427387903))->
   Pc (Yq o d r t x) λy=>y.2.1=0->Zpu y.1/\y.1.2.2.2.1<=r.2.2.2.1+nbV r (o+(d.length:Int)):=λt x j k e a=>by
  unfold Yq bD;rw[Zcx h o d,pA,lK _ (by have:=g.len;simp only;omega)];have:=R.hq;have:=R.e0
  have l:x.2.2.1= -1\/x.2.2.1≠ -1:=Aa
  rcases l with s|s
  ·rw[show(x.2.2.1 !=(-1:Int))=Lc by simp[s]];refine Pc.pure λ_=>⟨⟨f,Ag,Ag,λc b=>Ac,Ac,.inl s,.inl ⟨?_,s,e⟩⟩,?_⟩
   all_goals grind
  ·rw[show(x.2.2.1 !=(-1:Int))=K3 by simp[s],pG,pA];have m:Lb.wrap ((Zls r.2.1 o d).1+Jq (Zls r.2.1 o d))=(Zls r.2.1 o d).1+Jq (Zls r.2.1 o d):=Zr (by have:=(Z49 (by have:=g.tot;omega) f).1;omega);simp only[m,pJ];have a:=a.resolve_left λh=>s h.2;refine Pc.ite (λb=>Pc.pure λ_=>⟨⟨f,Ag,Ag,λc b=>Ac,Ac,.inr ⟨Ac,a.2.2⟩,.inr (.inr (.inl ⟨rfl,s,by simpa using b,e⟩))⟩,?_⟩) λb=>Pc.pure λ_=>⟨⟨f,Ag,Ag,λc b=>Ac,Ac,.inr ⟨Ac,a.2.2⟩,.inr (.inl ⟨a.1,s,by simpa using b,e⟩)⟩,?_⟩
   all_goals grind
 unfold Yp tD;rw[Zc2 h,pA,Zkn h,i,pA];refine Pc.ite (λ_=>Pc.pure λh=>by cases h) λ_=>?_;simp only;rw[Zr (n:=o+(d.length:Int)),Zi8,pA];cases b:Zhd r (o+(d.length:Int)) fin
 ·obtain⟨A,B⟩:=Z5d b;have C:=R.fin;have D:=R.st
  refine Pc.ite (λ_=>Pc.pure λ_=>⟨R,Ag⟩) λF=>?_
  grind
 simp[Pc.pure]
theorem Qj8(h:bZ K r.2.1)(hK:K<=900000)(R:Zpu r)(code final:Int):
  Pc (Kl r code final) λy=>y.2.1=0->Zpu y.1/\y.1.2.2.2.1<=r.2.2.2.1+nbV r final:=by
 have e:=(VV h).2 R;unfold Kl gH;rw[Zc2 h,pA,Zkn h,e,pA];simp only[pI,pH,Kh,pA,Lf,bO,Bool.not_not];cases hq1:aY code
 ·simp_all[Pc.pure]
 cases hq2:aY final
 ·simp_all[Pc.pure]
 refine Pc.ite (λh=>by cases h) λ_=>?_;have f:=X4.1 hq1;have b:=X4.1 hq2;have g:nbV r final=max 0 (final-r.2.2.2.1):=by
  unfold nbV;have:=R.hq
  grind[Zr]
 rw[Zi8,pA];cases a:Zhd r final K3
 ·obtain⟨i,d⟩:=Z5d a;have d:=d rfl;refine Pc.ite (λ_=>Pc.pure λ_=>⟨R,Ag⟩) λj=>Pc.pure λ_=>⟨⟨?_,b,?_,λc a=>(by cases a),f,.inr ⟨Le _,b.2⟩,.inr (.inr (.inr (.inr ⟨.inl rfl,?_,rfl,rfl⟩)))⟩,?_⟩
  ·have:=(Z49 (by have:=h.tot;omega) R.buf).1;unfold qs;simp only;rw[X4.2 this];rfl
  ·have:=R.e0;simp only;omega
  all_goals grind
 simp_all[Pc.pure]
theorem Zgm{α β:Type}{g:α->β}{s d:α}:∀{l:List α}{i:Nat},g s=g (l.getD i d)->(l.set i s).map g=l.map g
 |[],_,_=>rfl
 |x::l,0,h=>by
  simp_all
 |x::l,i+1,h=>by
  rw[Mw,L0,L0,Zgm (l:=l) (i:=i) h]
theorem Zsq{f:Zf->Int}{s:Zf}:∀{l:List Zf}{i:Nat},i<l.length->lg f (l.set i s)=lg f l+f s-f (l.getD i Zc)
 |[],_,h=>absurd h Ae
 |x::l,0,_=>by
  rw[List.set_cons_zero];simp only[lg]
  grind
 |x::l,i+1,h=>by
  rw[Mw];simp only[lg];rw[Zsq (l:=l) (i:=i) (by simp at h;omega),show(x::l).getD (i+1) Zc=l.getD i Zc from rfl];omega
theorem Z7c{f:Zf->Int}:∀{l:List Zf},(∀s∈l,0<=f s)->0<=lg f l/\ ∀s∈l,f s<=lg f l
 |[],_=>⟨Le _,λs hs=>by cases hs⟩
 |x::l,h=>by
  obtain⟨a,b⟩:=Z7c (l:=l) λs hs=>h s (Lq _ hs);have:=h x Lr;refine⟨by grind[lg],λs hs=>?_⟩;simp only[lg]
  grind
theorem cfF{c:ks}(h:cfB c=K3):bp c.1=K2 (K3,())/\(1<=c.2.1/\c.2.1<=c.2.2.1)/\c.2.2.1<=4096:=by
 have e:=cfE c;rw[h]at e;unfold aO at e;obtain⟨p,a⟩:=Z1a c.1;simp_all[inQ,bA,Ws]
theorem Qki{m:Int}(h:bp n=K2 (K3,()))(h0:0<=m)(h1:m<=4611686018427387903):pw (n,m,m,Lu n.toNat (0:Int),())=K3/\0<n/\n<=64:=by
 obtain⟨⟨b,u⟩,g,a⟩:=Qu8 n;have c:=a Ac;refine⟨?_,c⟩;have d:(Lu n.toNat (0:Int)).length=n.toNat:=List.length_replicate;have e:=(zK (n,m,m,Lu n.toNat (0:Int),()) Ag).1;have:aP (n,m,m,Lu n.toNat (0:Int),())=K2 (K3,()):=by
  unfold aP;rw[h,pA];have f:((((((!K3)||(((Lu n.toNat (0:Int)).length:Int) !=n))||(K4 (m<(0:Int))))||(K4 (m<m)))||(K4 ((Lb.wrap (m-m))>n)))||(K4 (m>(4611686018427387903:Int))))=false:=by
   rw[d,Zr]
   grind
  simp only;rw[f,pH]
  grind[Qeo,Vg,ZX]
 simp_all
theorem Qc2(v:Bool)(hq:aY id=K3):∃s1 s2,Jy v id=K2 (s1,())/\Ym v id=K2 (s2,())/\(s1=K3\/s2=K3):=by
 unfold Jy Ym;simp only[Kh,hq,pA,pG,Z2d,Z9g];cases cJ id<;>cases eg v id
 all_goals simp_all
theorem Qf6(v:Bool){o p:ks}(ho:cfB o=K3)(hp:cfB p=K3)(hq:aY id=K3):StF (nsV v id o p)/\(nsV v id o p).1=id/\j0 (nsV v id o p)=0/\mY (nsV v id o p)=0:=by
 obtain⟨i,s,t⟩:=cfF ho;obtain⟨u,w,x⟩:=cfF hp;obtain⟨j,y⟩:=Qki i (Le 0) Ai;obtain⟨b,e,k⟩:=Z6j v id o p;have f:=X4.1 hq;have a:dO o.1=K2 (((0:Int),(o.1,(0:Int),(0:Int),Lu o.1.toNat (0:Int),()),([]:List Zi),([]:List Zi),([]:List Zi),(-1:Int),qq),K3,()):=by
  unfold dO XZ;rw[i,pA];simp only[pI,pH]
  grind[Zb,Qp]
 have c:aS p.2.1=K2 ((p.2.1,(0:Int),(-1:Int),(-1:Int),()),K3,()):=by
  grind[aS,Kh,X4]
 have d:aT o.2.1 o.2.2.1=K2 ((o.2.1,o.2.2.1,o.2.1,qq),K3,()):=by
  grind[aT,inQ,Ws]
 obtain⟨l,m,n,q,r⟩:=Qc2 v hq;have g:=e;unfold Vq gH V7 qb at g;simp only[Kh,hq,cfE,ho,hp,pA,pI,pH,Lh,a,c,d,n,q,pB,pF]at g;have hs:nsV v id o p=(id,((0:Int),(o.1,(0:Int),(0:Int),Lu o.1.toNat (0:Int),()),([]:List Zi),([]:List Zi),([]:List Zi),(-1:Int),qq),(p.2.1,(0:Int),(-1:Int),(-1:Int),()),((0:Int),((0:Int),([]:List Qd),()),(-1:Int),(0:Int),(0:Int),()),(o.2.1,o.2.2.1,o.2.1,qq),((3:Int),Lc,()),l,m,Lc,Lc,Lc,Lc,(0:Int),Lc,()):=g.1.symm;rw[hs]at k⊢;refine⟨⟨f,?_,⟨Ab,Le _,Ab,Ab,Ab,Ab,Ab⟩,?_,⟨Ab,Ab,Ab,?_,?_,?_,?_⟩,⟨Ab,Ab⟩,⟨Ab,Ab⟩,r,Le _,Le _,λh=>(by cases h),λh=>(by cases h),λh=>absurd rfl h,.inr ⟨rfl,rfl,rfl⟩,.inr ⟨rfl,rfl,rfl⟩⟩,rfl,rfl,rfl⟩
 ·exact {ring:=j,pr:=rfl,fr:=rfl,ar:=rfl,sent:=⟨Le _,Le _⟩,code:=⟨Le _,AA⟩,fin:=⟨Le _,AA⟩,rst:=λh=>by simp at h,no:=λ_=>{whole:=rfl,gap:=rfl,code:=rfl,fl:=rfl,ac:=rfl,fin:=rfl,st:=rfl}}
 ·rfl
 all_goals grind[qq]
theorem Zz8{s:Zf}:∀{l:List Zf},(l.Pairwise λa b=>a.1<b.1)->(∀x∈l,x.1≠s.1)->(zI s l).Pairwise λa b=>a.1<b.1
 |[],_,_=>by simp[zI]
 |x::r,h,c=>by
  have hx:=c x Lr;obtain⟨f,e⟩:=L2.1 h;unfold zI;by_cases d:x.1>s.1
  ·rw[if_pos d];refine L2.2 ⟨λy hy=>?_,h⟩
   grind
  ·rw[if_neg d];refine L2.2 ⟨λy hy=>?_,Zz8 e λy hy=>c y (Lq _ hy)⟩;rcases Za5.1 hy with rfl|hy
   all_goals grind
theorem Zsp{f:Zf->Int}{s:Zf}:∀{l:List Zf},lg f (zI s l)=lg f l+f s
 |[]=>by simp_all[zI,lg]
 |x::r=>by
  unfold zI;by_cases a:x.1>s.1
  ·rw[if_pos a];grind[lg]
  ·rw[if_neg a];simp only[lg];rw[Zsp];omega
structure LF(K:Nat)(S H:Int)(l:List Zf):Prop where
 inv:mi K l
 all:∀s∈l,StF s
 srt:l.Pairwise λa b=>a.1<b.1
 snt:lg j0 l<=S
 hgh:lg mY l<=H
theorem StF.nn(F:StF s)(h:Xc K s)(hK:K<=1000000):(0<=j0 s/\j0 s<=4611686018427387903)/\0<=mY s/\mY s<=4611686018427387903:=by
 have a:=F.snd.sent;have b:=h.snd.eK;have c:=((VV h.rcv hK).1 F.rcv).hq
 grind[j0,mY]
theorem LF.nn{K:Nat}{S H:Int}{l:List Zf}(L:LF K S H l)(hK:K<=1000000):∀s∈l,(0<=j0 s/\j0 s<=4611686018427387903)/\0<=mY s/\mY s<=4611686018427387903:=λs hs=>(L.all s hs).nn (L.inv.all s hs) hK
theorem LF.put0{S H:Int}(L:LF K S H l)(hK:K<=1000000)(F:StF s)(h:Xc K s)(h1:j0 s=0)(h2:mY s=0)(hl:l.length+1<=K):LF K S H (Zbp l s):=by
 have c:=L.nn hK;have a:l.length<=1000000:=Aa
 refine⟨Z1i L.inv h hl,λx hx=>?_,?_,?_,?_⟩
 ·rcases Z9n hx with e|e
  ·rw[e];exact F
  ·exact L.all x e
 ·unfold Zbp;split
  ·rename_i b;have e:=Zgm (g:=λs:Zf=>s.1) (s:=s) (l:=l) (i:=(Z8 l s.1).toNat) (d:=Zc) ((qt a s.1).2.2 b).symm;exact Mu.1 (by rw[e];exact Mu.2 L.srt)
  ·rename_i b;exact Zz8 L.srt ((qt a s.1).2.1 Aa)
 ·unfold Zbp;split
  ·rename_i b;have hx:=(qt a s.1).1;rw[Zsq Aa,h1];have:=(c _ (Z2 (d:=Zc) (show(Z8 l s.1).toNat<l.length by omega))).1.1;have:=L.snt;omega
  ·rw[Zsp,h1];have:=L.snt;omega
 ·unfold Zbp;split
  ·rename_i b;have hx:=(qt a s.1).1;rw[Zsq Aa,h2];have:=(c _ (Z2 (d:=Zc) (show(Z8 l s.1).toNat<l.length by omega))).2.1;have:=L.hgh;omega
  ·rw[Zsp,h2];have:=L.hgh;omega
theorem Qjm{K:Nat}{S H:Int}(h25:25<=K)(hK:K<=1000000)(v:Bool){o p:ks}(ho:cfB o=K3)(hp:cfB p=K3){id:Int}(hq:aY id=K3):∀(m:Nat){l:List Zf},LF K S H l->l.length+m<=24->4*(m:Int)<=id+4->LF K S H (mkL v o p id m l)
 |0,_,L,_,_=>L
 |m+1,l,L,f,g=>by
  have a:=X4.1 hq;have c:Lb.wrap (id-Lb.wrap (4*(m:Int)))=id-4*(m:Int):=Ao
  obtain⟨F,h,d,e⟩:=Qf6 v ho hp (id:=id-4*(m:Int)) (X4.2 Aa);obtain⟨b,-,hs⟩:=Z6j v (id-4*(m:Int)) o p;have:=Zfr l (nsV v (id-4*(m:Int)) o p);unfold mkL;rw[c];exact Qjm h25 hK v ho hp hq m (L.put0 hK F (hs.mono (L4 K)) d e Aa) Aa Aa
theorem Qjn(v:Bool){o p:ks}(ho:cfB o=K3)(hp:cfB p=K3){id:Int}(hq:aY id=K3):∀(m:Nat){l:List Zf},l.length+m<24-> ∃s∈mkL v o p id (m+1) l,s.1=id
 |0,l,a=>by
  grind[X4,Zr,Qf6,mkL,Qna]
 |m+1,l,a=>by
  have:=Zfr l (nsV v (Lb.wrap (id-Lb.wrap (4*((m+1:Nat):Int)))) o p);unfold mkL;exact Qjn v ho hp hq m Aa
theorem Zlo.LF{K:Nat}{c:Ze}(hc:Zlo c)(h:Q5 K c)(hK:K<=1000000):LF K c.2.2.2.2.1.2.1 c.2.2.2.2.2.1.2.2.2.1 c.2.2.2.1:=by
 have a:∀s∈c.2.2.2.1,StF s:=λs hs=>hc.st h hK hs;have b:∀s∈c.2.2.2.1,(0<=j0 s/\j0 s<=4611686018427387903)/\0<=mY s/\mY s<=4611686018427387903:=λs hs=>(a s hs).nn (h.str.all s hs) hK;have t:=hc.tail;unfold Zwi at t;simp only[pC,decide_eq_true_eq]at t;have d:=(Zac (f:=j0) (n:=0) (λs hs=>(b s hs).1) (Le _) Ai).1;have e:=(Zac (f:=mY) (n:=0) (λs hs=>(b s hs).2) (Le _) Ai).1;have u:=Z76.1 hc.tot;have u1:=u.lim;have u2:=u.use
 have w:=Zim.1 hc.inf;have j:=w.lim;have k:=w.seen
 have g:=t.1.2;have i:=t.2
 rw[d]at g;rw[e]at i;exact⟨h.str,a,(Z97.1 hc.sts).srt,Aa,Aa⟩
theorem Qpf{c':Ze}(hc:Zlo c)(hK:K<=1000000)(e1:c'.2.1=c.2.1)(e2:c'.2.2.1=c.2.2.1)(L:LF K c'.2.2.2.2.1.2.1 c'.2.2.2.2.2.1.2.2.2.1 c'.2.2.2.1)(hl:c'.2.2.2.1.length<=24)
  (ht:Zpt c'.2.2.2.2.1) (hi:Zh4 c'.2.2.2.2.2.1) (hob:WM c'.2.2.2.2.2.2.1=K3) (hou:WM c'.2.2.2.2.2.2.2.1=K3) (hab:Zin c'.2.2.2.2.2.2.2.2.1) (hau:Zin c'.2.2.2.2.2.2.2.2.2.1)
  (et:c'.2.2.2.2.2.2.2.2.2.2.2.2.2=c.2.2.2.2.2.2.2.2.2.2.2.2.2):Zlo c':=by
 have t:=hc.tail;unfold Zwi at t;simp only[pC,decide_eq_true_eq]at t;have a:=L.nn hK;have b:=(Zac (f:=j0) (n:=0) (λs hs=>(a s hs).1) (Le _) Ai).1;have d:=(Zac (f:=mY) (n:=0) (λs hs=>(a s hs).2) (Le _) Ai).1;refine⟨by rw[e1];exact hc.own,by rw[e2];exact hc.peer,Z97.2 ⟨λs hs=>(Qnp (L.inv.all s hs) hK).2 (L.all s hs),L.srt,hl⟩,Z76.2 ht,Zim.2 hi,hob,hou,Zws.2 hab,Zws.2 hau,by rw[et];exact hc.pks,?_⟩;unfold Zwi;rw[et,b,d];simp only[pC,decide_eq_true_eq];have:=L.snt;have:=L.hgh
 grind
theorem Zco(h:Q5 K c)(hc:bP c=K3)(h25:25<=K)(hK:K<=400000)(hq:aY id=K3):Q5 K (fH c id).2:=by
 obtain⟨y,e,a⟩:=QC h h25 hK id
 grind[Zqe]
theorem WP(h:Q5 K c)(hc:bP c=K3)(h25:25<=K)(hK:K<=400000)(hq:aY id=K3)(h0:(fH c id).1=0):Zlo (fH c id).2/\0<=Z8 (fH c id).2.2.2.2.1 id/\(fH c id).2.1=c.1:=by
 have a:=(Zf3 h).1 hc;have t:=h.str.len;unfold fH at h0⊢;by_cases k:0<=Z8 c.2.2.2.1 id
 ·simp_all
 rw[Zp (Zm k)]at h0⊢;cases ho:eg c.1 id
 ·rw[ho,pH]at h0;rw[pH];cases hg:Zaw c id
  ·simp_all
  rw[pG];have v:=Zqd hg;have m:=X4.1 hq;have g:idV id=id/4:=by simp_all[idV]
  have hs:Zad (Xw c id) (idV id)=true:=by
   simp_all[Zaw]
  have b:=hs;unfold Zad at b;simp only[pC,decide_eq_true_eq]at b;have d:=Zws.1 b.1;have x:siN (Xw c id) (idV id)=idV id+1- (Xw c id).2.2.1:=by grind[siN]
  have i:Zin (siV (Xw c id) (idV id)):=by
   have n:=d.most;have o:=d.lim;have y:=d.seen;have z:=d.clo;have p:=d.lc
   unfold siV;exact⟨n,o,Ab,Ab,p⟩
  have L:=Qjm h25 Aa c.1 a.own a.peer hq (siN (Xw c id) (idV id)).toNat (a.LF h Aa) Aa (by have:=d.seen;omega)
  have j:=Qea c.1 c.2.1 c.2.2.1 id (siN (Xw c id) (idV id)).toNat c.2.2.2.1;obtain⟨s,e,f⟩:=Qjn c.1 a.own a.peer hq ((siN (Xw c id) (idV id)).toNat-1) (l:=c.2.2.2.1) Aa;rw[show(siN (Xw c id) (idV id)).toNat-1+1=(siN (Xw c id) (idV id)).toNat by omega]at e;have hx:(Zzp c id).2.2.2.1=mkL c.1 c.2.1 c.2.2.1 id (siN (Xw c id) (idV id)).toNat c.2.2.2.1:=rfl;refine⟨?_,by rw[hx];exact Z55 Aa ⟨s,e,f⟩,by unfold Zzp xH;cases cJ id<;>rfl⟩;have u:=Z76.1 a.tot;have w:=Zim.1 a.inf;have q:=Zws.1 a.ab;have r:=Zws.1 a.au;unfold Zzp xH;cases cJ id
  ·exact Qpf a Aa rfl rfl L Ab u w a.ob a.ou i r rfl
  ·exact Qpf a Aa rfl rfl L Ab u w a.ob a.ou q i rfl
 simp_all
theorem Z8g{l l':List Zf}(n:Int)(hl:l.length=l'.length)(h:∀j,(l.getD j Zc).1=(l'.getD j Zc).1):∀(N:Nat)(i:Int),Kp N l n i=Kp N l' n i
 |0,_=>rfl
 |N+1,i=>by
  unfold Kp;rw[hl,h,Z8g n hl h N]
theorem Zcs(n:Int)(h:s.1=(l.getD i Zc).1):Z8 (l.set i s) n=Z8 l n:=by
 have e:Ko (l.set i s) n=Ko l n:=by
  unfold Ko Jm;rw[Mb];refine Z8g n (Mb) (λj=>?_) _ _;by_cases a:j=i
  ·subst a;by_cases b:j<l.length
   all_goals simp_all
  grind
 simp_all[Z8]
theorem yk(h:i<l.length):(l.set i s).getD i Zc=s:=by
 simp_all
abbrev atV(x:Ze)(id:Int):Zf:=x.2.2.2.1.getD (Z8 x.2.2.2.1 id).toNat Zc
abbrev kL(x:Ze)(id:Int)(s:Zf):Ze:=XU x (x.2.2.2.1.set (Z8 x.2.2.2.1 id).toNat s)
abbrev re(x:Ze)(w:Ql):Ze:=(x.1,x.2.1,x.2.2.1,x.2.2.2.1,x.2.2.2.2.1,w,x.2.2.2.2.2.2)
abbrev WN(s:Zf):Zf:=(s.1,s.2.1,s.2.2.1,s.2.2.2.1,s.2.2.2.2.1,s.2.2.2.2.2.1,s.2.2.2.2.2.2.1,s.2.2.2.2.2.2.2.1,s.2.2.2.2.2.2.2.2.1,s.2.2.2.2.2.2.2.2.2.1,s.2.2.2.2.2.2.2.2.2.2.1,s.2.2.2.2.2.2.2.2.2.2.2.1,s.2.2.2.2.2.2.2.2.2.2.2.2.1,K3,s.2.2.2.2.2.2.2.2.2.2.2.2.2.2)
abbrev uY(s:Zf):Bool:=s.2.2.2.2.2.2.2.2.2.2.2.2.2.1
def zJ(s:Zf):Bool:=Qgz (rg s)
theorem Qjv(h:Xc K s)(hK:K<=1000000):rg s=K2 (zJ s,()):=Qlc (Qi7 h hK)
theorem Qju(h:Xc K s)(hK:K<=1000000:=by omega):J7 s=K2 (zJ s,()):=by
 rw[<-Qjv h hK];unfold J7 rg;rw[Ztq h hK];have e:yV s=mN s:=by
  unfold yV gH mN gH VK mM;rw[ZC h.rcv hK]
 simp_all[VL,td]
def ovB(v:Bool)(s:Zf):Bool:= !(uY s||eg v s.1)&&zJ s
def fin(x:Ze)(id:Int):Ze:=cond (ovB x.1 (atV x id)) (xH (kL x id (WN (atV x id))) id (coV (Xw x id))) x
theorem Qme(x:Ze)(id:Int):(fin x id).2.2.2.1=(cond (ovB x.1 (atV x id)) (x.2.2.2.1.set (Z8 x.2.2.2.1 id).toNat (WN (atV x id))) x.2.2.2.1):=by
 unfold fin xH;cases ovB x.1 (atV x id)
 ·rfl
 ·cases cJ id<;>rfl
theorem Zh3(h:Q5 K x)(hs:Xc K s)(hK:K<=500000)(hid:s.1=id)(hi:0<=Z8 x.2.2.2.1 id):Vh x s=K2 ((),fin (kL x id s) id,()):=by
 subst hid;have r:=h.str.len;obtain⟨t,-,i⟩:=qt (l:=x.2.2.2.1) Aa s.1;have j:s.1=(x.2.2.2.1.getD (Z8 x.2.2.2.1 s.1).toNat Zc).1:=by rw[i hi]
 have c:Z8 (x.2.2.2.1.set (Z8 x.2.2.2.1 s.1).toNat s) s.1=Z8 x.2.2.2.1 s.1:=Zcs s.1 j;have d:atV (kL x s.1 s) s.1=s:=by
  show(x.2.2.2.1.set (Z8 x.2.2.2.1 s.1).toNat s).getD (Z8 (x.2.2.2.1.set (Z8 x.2.2.2.1 s.1).toNat s) s.1).toNat Zc=s;rw[c];exact yk Aa
 have k:Xc K (WN s):=⟨hs.snd,hs.rcv⟩
 have m:Q8 x.2.2.2.1 s=K2 (x.2.2.2.1.set (Z8 x.2.2.2.1 s.1).toNat s,()):=by
  rw[Z22 h.str hs hK];unfold Zbp;rw[if_pos hi]
 have f:Q8 x.2.2.2.1 (WN s)=K2 (x.2.2.2.1.set (Z8 x.2.2.2.1 s.1).toNat (WN s),()):=by
  rw[Z22 h.str k hK];unfold Zbp;rw[if_pos hi]
 have g:∀a,∃b,gv a=K2 (coV a,b,()):=λa=>by
  obtain⟨⟨y,b,u⟩,e,v⟩:=Qaq a;exact⟨b,Ag⟩
 unfold Vh YD gH tA tB tC fin;rw[d,Z9g,Qjv hs Aa];simp only[bO,bO2];have e:((uY s||(!uY s&&eg x.1 s.1))|| !zJ s)= !ovB x.1 s:=by
  unfold ovB;cases uY s<;>cases eg x.1 s.1<;>cases zJ s<;>rfl
 rw[e];have n:(kL x s.1 s).1=x.1:=rfl;rw[n];cases ovB x.1 s
 ·rw[Ls,pG,pH,pA,m];rfl
 ·rw[pI,pH,pG,Z2d,pA];obtain⟨w,o⟩:=g x.2.2.2.2.2.2.2.2.2.1;obtain⟨z,p⟩:=g x.2.2.2.2.2.2.2.2.1;rw[o,p];have q:kL (kL x s.1 s) s.1 (WN s)=XU x (x.2.2.2.1.set (Z8 x.2.2.2.1 s.1).toNat (WN s)):=by
   show XU x ((x.2.2.2.1.set (Z8 x.2.2.2.1 s.1).toNat s).set (Z8 (x.2.2.2.1.set (Z8 x.2.2.2.1 s.1).toNat s) s.1).toNat (WN s))=_;rw[c,L3]
  rw[q];unfold xH Xw;cases cJ s.1
  ·simp only[pH,pA];rw[show(s.1,s.2.1,s.2.2.1,s.2.2.2.1,s.2.2.2.2.1,s.2.2.2.2.2.1,s.2.2.2.2.2.2.1,s.2.2.2.2.2.2.2.1,s.2.2.2.2.2.2.2.2.1,s.2.2.2.2.2.2.2.2.2.1,s.2.2.2.2.2.2.2.2.2.2.1,s.2.2.2.2.2.2.2.2.2.2.2.1,s.2.2.2.2.2.2.2.2.2.2.2.2.1,K3,s.2.2.2.2.2.2.2.2.2.2.2.2.2.2)=WN s from rfl,f];rfl
  ·simp only[pG,pA];rw[show(s.1,s.2.1,s.2.2.1,s.2.2.2.1,s.2.2.2.2.1,s.2.2.2.2.2.1,s.2.2.2.2.2.2.1,s.2.2.2.2.2.2.2.1,s.2.2.2.2.2.2.2.2.1,s.2.2.2.2.2.2.2.2.2.1,s.2.2.2.2.2.2.2.2.2.2.1,s.2.2.2.2.2.2.2.2.2.2.2.1,s.2.2.2.2.2.2.2.2.2.2.2.2.1,K3,s.2.2.2.2.2.2.2.2.2.2.2.2.2.2)=WN s from rfl,f];rfl
def Qcc(x:Ze)(id:Int):Oc Ze Int:=Ld (Z4 x.2.2.2.1 id) λt14=>Zh (0<=t14.1/\t14.1<x.2.2.2.1.length)<|Ld (Vl x.1 id) λt13=>Ld (cond (t13.1||uY (x.2.2.2.1.getD t14.1.toNat Zc)) (K2 (Lc,())) (J7 (x.2.2.2.1.getD t14.1.toNat Zc))) λt24=>cond ((t13.1||uY (x.2.2.2.1.getD t14.1.toNat Zc))||(!t24.1)) (K2 (x,(0:Int),())) (Ld (Z5 (XU x (x.2.2.2.1.set t14.1.toNat (WN (x.2.2.2.1.getD t14.1.toNat Zc)))) id) λt33=>cond t33.1 (Ld (Z5 t33.2.1 id) λt36=>cond t36.1 (Ld (Z0 t36.2.1.2.2.2.2.2.2.2.2.2.1) λt39=>K2 ((t36.2.1.1,t36.2.1.2.1,t36.2.1.2.2.1,t36.2.1.2.2.2.1,t36.2.1.2.2.2.2.1,t36.2.1.2.2.2.2.2.1,t36.2.1.2.2.2.2.2.2.1,t36.2.1.2.2.2.2.2.2.2.1,t36.2.1.2.2.2.2.2.2.2.2.1,t39.1,t36.2.1.2.2.2.2.2.2.2.2.2.2),(0:Int),())) (Ld (Z0 t36.2.1.2.2.2.2.2.2.2.2.1) λt39=>K2 ((t36.2.1.1,t36.2.1.2.1,t36.2.1.2.2.1,t36.2.1.2.2.2.1,t36.2.1.2.2.2.2.1,t36.2.1.2.2.2.2.2.1,t36.2.1.2.2.2.2.2.2.1,t36.2.1.2.2.2.2.2.2.2.1,t36.2.1.2.2.2.2.2.2.2.2.1,t39.1,t36.2.1.2.2.2.2.2.2.2.2.2.2),(0:Int),()))) (Ld (Z5 t33.2.1 id) λt36=>cond t36.1 (Ld (Z0 t36.2.1.2.2.2.2.2.2.2.2.2.1) λt39=>K2 ((t36.2.1.1,t36.2.1.2.1,t36.2.1.2.2.1,t36.2.1.2.2.2.1,t36.2.1.2.2.2.2.1,t36.2.1.2.2.2.2.2.1,t36.2.1.2.2.2.2.2.2.1,t36.2.1.2.2.2.2.2.2.2.1,t39.1,t36.2.1.2.2.2.2.2.2.2.2.2),(0:Int),())) (Ld (Z0 t36.2.1.2.2.2.2.2.2.2.2.1) λt39=>K2 ((t36.2.1.1,t36.2.1.2.1,t36.2.1.2.2.1,t36.2.1.2.2.2.1,t36.2.1.2.2.2.2.1,t36.2.1.2.2.2.2.2.1,t36.2.1.2.2.2.2.2.2.1,t36.2.1.2.2.2.2.2.2.2.1,t39.1,t36.2.1.2.2.2.2.2.2.2.2.2),(0:Int),()))))
theorem Qnl(h:mi K x.2.2.2.1)(hK:K<=500000)(hi:0<=Z8 x.2.2.2.1 id):Qcc x id=K2 (fin x id,(0:Int),()):=by
 have i:=h.len;obtain⟨j,-,f⟩:=qt (l:=x.2.2.2.1) Aa id;have hs:=h.all _ (Z2 (d:=Zc) (show(Z8 x.2.2.2.1 id).toNat<x.2.2.2.1.length by omega));have g:∀x n,Z5 x n=K2 (cJ n,x,()):=λx n=>by
  unfold Z5;rw[Qgx,Z2d,pA];cases cJ n<;>rfl
 have c:∀a,∃b,Z0 a=K2 (coV a,b,()):=λa=>by
  obtain⟨⟨y,b,u⟩,e,k⟩:=Qaq a
  grind[Qhu]
 unfold Qcc fin;rw[uC Aa,QD Aa,pA];simp only;rw[Zb,Qm6,Z9g,pA,Qju hs];simp only[bO,bO2];have e:((eg x.1 id||uY (atV x id))|| !zJ (atV x id))= !ovB x.1 (atV x id):=by
  unfold ovB;rw[f hi];cases uY (atV x id)<;>cases eg x.1 id<;>cases zJ (atV x id)<;>rfl
 rw[e];cases ovB x.1 (atV x id)
 ·rfl
 ·rw[pI,pH,pG,g,pA];obtain⟨m,o⟩:=c x.2.2.2.2.2.2.2.2.2.1;obtain⟨p,q⟩:=c x.2.2.2.2.2.2.2.2.1;unfold xH Xw;cases hu:cJ id
  ·grind
  grind
theorem Qks(w:Ql):snV w 0=w:=by
 simp_all[snV]
abbrev lft(w:Ql):Int:=w.2.2.1-w.2.2.2.1
def flB(x:Ze)(s:Zf)(n:Int):Bool:=K4 (n<=lft s.2.2.2.2.1)&&K4 (n<=lft x.2.2.2.2.2.1)
abbrev yA(s:Zf)(w:Ql):Zf:=(s.1,s.2.1,s.2.2.1,s.2.2.2.1,w,s.2.2.2.2.2)
abbrev wm(s:Zf)(r:Zu):Zf:=(s.1,s.2.1,s.2.2.1,r,s.2.2.2.2)
theorem Qbs(r:Zu)(e:Int):0<=nbV r e:=by
 unfold nbV
 grind
theorem Qo9(hs:Xc K s)(hK:K<=1000000)(w1:Zil s.2.2.2.2.1=K3)(w2:Zil x.2.2.2.2.2.1=K3)(e:Int):rW x s e=K2 (cond (flB x s (nbV s.2.2.2.1 e)) (((0:Int),()),re x (snV x.2.2.2.2.2.1 (nbV s.2.2.2.1 e)),yA s (snV s.2.2.2.2.1 (nbV s.2.2.2.1 e)),()) (((3:Int),()),x,s,())):=by
 have a:=Zim.1 w1;have b:=Zim.1 w2;have h:=a.seen;have i:=b.seen
 have j:0<=lft s.2.2.2.2.1:=by unfold lft;omega
 have k:0<=lft x.2.2.2.2.2.1:=by unfold lft;omega
 have c:=Qbs s.2.2.2.1 e;unfold rW tG tR;rw[Qf4 hs.rcv hK,pA];generalize nbV s.2.2.2.1 e=n at c⊢;simp only;by_cases d:n=0
 ·simp_all[flB,Qks]
 ·rw[Zp (by simpa using d),Qvm,Qvm];have f:Zg3 s.2.2.2.2.1 n=K4 (n<=lft s.2.2.2.2.1):=Ax
  have g:Zg3 x.2.2.2.2.2.1 n=K4 (n<=lft x.2.2.2.2.2.1):=Ax
  simp only[pA];rw[f,g];unfold flB;cases K4 (n<=lft s.2.2.2.2.1)<;>cases K4 (n<=lft x.2.2.2.2.2.1)<;>rfl
theorem okF(h:Xa f=K3):aY f.2.1=K3/\(0<=f.2.2.1/\f.2.2.1<=4611686018427387903)/\(f.1=8->f.2.2.1+f.2.2.2.1<=4611686018427387903)/\f.2.2.2.1.length<=400:=by
 unfold Xa fq at h;simp only[pC,decide_eq_true_eq]at h;obtain⟨⟨⟨⟨⟨⟨⟨-,b⟩,c⟩,-⟩,-⟩,-⟩,a⟩,d⟩:=h;refine⟨X4.2 Aa,Aa,λe=>?_,a⟩
 grind
theorem mi.set{K:Nat}{l:List Zf}(h:mi K l){s:Zf}(hs:Xc K s)(i:Nat):mi K (l.set i s):=⟨by rw[Mb];exact h.len,λx hx=>by
 rcases List.mem_or_eq_of_mem_set hx with h1|h1
 ·exact h.all x h1
 simp_all⟩
def pre(c:Ze)(f:Zj)(g can:Bool)(k:Ze->Ze×Int×Unit):Ze×Int×Unit:=cond ((bP c&&Xa f)&&g) (cond can (cond ((fH c f.2.1).1==0) (k (fH c f.2.1).2) (c,(fH c f.2.1).1,())) (c,5,())) (c,7,())
def Z1y(v:Bool)(n:Int):Bool:=Qgz (Jy v n)
theorem Z90(v:Bool)(n:Int):Jy v n=K2 (Z1y v n,()):=Qlc (Qk4 v n)
def Zij(v:Bool)(n:Int):Bool:=Qgz (Ym v n)
theorem Z1j(v:Bool)(n:Int):Ym v n=K2 (Zij v n,()):=Qlc (Qez v n)
def Z2h(m:Oc Zu Int):Zu×Int×Unit:=match m with|some y=>y|none=>(qr,0,())
def Zi3(c:Ze)(f:Zj)(x:Ze):Ze×Int×Unit:=cond (flB x (atV x f.2.1) (nbV (atV x f.2.1).2.2.2.1 (Lb.wrap (f.2.2.1+f.2.2.2.1)))) (cond ((Z2h (Yp (atV x f.2.1).2.2.2.1 f.2.2.1 f.2.2.2.1 f.2.2.2.2.1)).2.1==0) (fin (kL (re x (snV x.2.2.2.2.2.1 (nbV (atV x f.2.1).2.2.2.1 (Lb.wrap (f.2.2.1+f.2.2.2.1))))) f.2.1 (wm (yA (atV x f.2.1) (snV (atV x f.2.1).2.2.2.2.1 (nbV (atV x f.2.1).2.2.2.1 (Lb.wrap (f.2.2.1+f.2.2.2.1))))) (Z2h (Yp (atV x f.2.1).2.2.2.1 f.2.2.1 f.2.2.2.1 f.2.2.2.2.1)).1)) f.2.1,0,()) (c,(Z2h (Yp (atV x f.2.1).2.2.2.1 f.2.2.1 f.2.2.2.1 f.2.2.2.2.1)).2.1,())) (c,3,())
structure EnF(K:Nat)(x:Ze)(id:Int):Prop where
 inv:Q5 K x
 con:Zlo x
 idx:0<=Z8 x.2.2.2.1 id
theorem EnF.mem(h:EnF K x id)(hK:K<=1000000):atV x id∈x.2.2.2.1/\(Z8 x.2.2.2.1 id).toNat<x.2.2.2.1/\(atV x id).1=id:=by
 have c:=h.inv.str.len;obtain⟨e,-,a⟩:=qt (l:=x.2.2.2.1) Aa id;have b:=h.idx;exact⟨Z2 (d:=Zc),Aa,a b⟩
theorem Qt7(h:Q5 K c)(hf:FOK f)(h25:25<=K)(hK:K<=390000):mJ c f=K2 (pre c f (f.1==8) (Zij c.1 f.2.1) (Zi3 c f),()):=by
 unfold FOK at hf;unfold mJ gH tD pre;simp only[Zb2 h,Za7 hf,Ji h,bO,bO2,pA,Z1j];cases hc:bP c
 ·rfl
 cases hk:Xa f
 ·rfl
 rw[bne];cases hg:f.1==8
 ·rfl
 simp only[pI,Lh,pH,Lg,pG];cases Zij c.1 f.2.1
 ·rfl
 simp only[pI,pH,pG];obtain⟨a,l,o,p⟩:=okF hk;rw[Zqe h hc h25 Aa a,pA,bne];cases h0:(fH c f.2.1).1==0
 ·rfl
 have E:EnF K (fH c f.2.1).2 f.2.1:=by
  have e:=WP h hc h25 Aa a (by simpa using h0);exact⟨Zco h hc h25 Aa a,e.1,e.2.1⟩
 simp only[pI,pH,pG];generalize (fH c f.2.1).2=x at E⊢;obtain⟨d,q,g⟩:=E.mem Aa;have hs:=E.inv.str.all _ d;have F:=E.con.st E.inv Aa d;rw[V8 E.inv Aa,if_pos E.idx,pA];obtain⟨r,v,e,i⟩:=Zdo hs.rcv f.2.2.1 f.2.2.2.1 f.2.2.2.2.1;simp only;unfold Zi3;rw[e,pA,Qo9 hs Aa (Zim.2 F.win) E.con.inf,pA];cases flB x (atV x f.2.1) (nbV (atV x f.2.1).2.2.2.1 (Lb.wrap (f.2.2.1+f.2.2.2.1)))
 ·rfl
 simp only[pG,show((0:Int) !=0)=Lc from rfl,pH,Z2h];rw[bne];cases v==0
 ·rfl
 simp only[pI,pH,pG];generalize nbV (atV x f.2.1).2.2.2.1 (Lb.wrap (f.2.2.1+f.2.2.2.1))=n;have j:Xc (K+f.2.2.2.1+1) (wm (yA (atV x f.2.1) (snV (atV x f.2.1).2.2.2.2.1 n)) r):=⟨hs.snd.mono Aa,i⟩
 have k:=Zh3 (x:=re x (snV x.2.2.2.2.2.1 n)) (id:=f.2.1) (K:=K+f.2.2.2.1+1) ⟨E.inv.str.mono Aa,E.inv.pk.mono Aa⟩ j Aa g E.idx;exact Ll (congrArg (λm:Oc Unit Ze=>Ld m λb=>K2 ((b.2.1,(0:Int),()),())) k) rfl
theorem Qt6(h:Q5 K c)(hf:FOK f)(h25:25<=K)(hK:K<=390000):yR c f=K2 (pre c f (f.1==8) (Zij c.1 f.2.1) (Zi3 c f)):=by
 unfold FOK at hf;unfold yR gG gH gK tA tB tC tD tG tQ pre;simp only[xv h,Zb2 h,Ze1 hf,Wt h,bO,bO2,Xr,pA,Qke,Z1j];cases hc:bP c
 ·rfl
 cases hk:Xa f
 ·rfl
 cases hg:f.1==8
 ·rfl
 simp only[pI,Lh,pH,Lg,pG];cases Zij c.1 f.2.1
 ·rfl
 simp only[pI,pH,pG];obtain⟨a,j,k,l⟩:=okF hk;rw[Zxu h hc h25 Aa,pA,bne];cases h0:(fH c f.2.1).1==0
 ·rfl
 have E:EnF K (fH c f.2.1).2 f.2.1:=by
  have e:=WP h hc h25 Aa a (by simpa using h0);exact⟨Zco h hc h25 Aa a,e.1,e.2.1⟩
 simp only[pI,pH,pG];generalize (fH c f.2.1).2=x at E⊢;obtain⟨b,d,m⟩:=E.mem Aa;have hs:=E.inv.str.all _ b;have F:=E.con.st E.inv Aa b;have o:=E.inv.str.len;have p:=E.idx;rw[uC Aa,QD Aa,pA];simp only;rw[Zb,Z31 hs.rcv Aa,pA,Qd1,pA,Qd1,Zim.2 F.win,E.con.inf];obtain⟨r,v,e,g⟩:=Zdo hs.rcv f.2.2.1 f.2.2.2.1 f.2.2.2.2.1;unfold Zi3 flB;simp only[pG];rw[show K4 (nbV (atV x f.2.1).2.2.2.1 (Lb.wrap (f.2.2.1+f.2.2.2.1))>lft (atV x f.2.1).2.2.2.2.1)= !K4 (nbV (atV x f.2.1).2.2.2.1 (Lb.wrap (f.2.2.1+f.2.2.2.1))<=lft (atV x f.2.1).2.2.2.2.1) by grind];cases K4 (nbV (atV x f.2.1).2.2.2.1 (Lb.wrap (f.2.2.1+f.2.2.2.1))<=lft (atV x f.2.1).2.2.2.2.1)
 ·rfl
 simp only[pI,pH,pA,Lf,pJ];rw[show K4 (nbV (atV x f.2.1).2.2.2.1 (Lb.wrap (f.2.2.1+f.2.2.2.1))>lft x.2.2.2.2.2.1)= !K4 (nbV (atV x f.2.1).2.2.2.1 (Lb.wrap (f.2.2.1+f.2.2.2.1))<=lft x.2.2.2.2.2.1) by grind];cases K4 (nbV (atV x f.2.1).2.2.2.1 (Lb.wrap (f.2.2.1+f.2.2.2.1))<=lft x.2.2.2.2.2.1)
 ·rfl
 simp only[pI,pH,pG];rw[Qkd hs.rcv _ _ _ Aa Aa,e,pA];simp only[Z2h];rw[bne];cases v==0
 ·rfl
 simp only[pI,pH,pG];rw[Qnk,Qnk,pA,pA];simp only[yk d,L3];generalize q:nbV (atV x f.2.1).2.2.2.1 (Lb.wrap (f.2.2.1+f.2.2.2.1))=n;have i:Xc (K+f.2.2.2.1+1) (wm (yA (atV x f.2.1) (snV (atV x f.2.1).2.2.2.2.1 n)) r):=⟨hs.snd.mono Aa,g⟩
 refine Ll ?_ (Qnl (K:=K+f.2.2.2.1+1) (x:=kL (re x (snV x.2.2.2.2.2.1 n)) f.2.1 (wm (yA (atV x f.2.1) (snV (atV x f.2.1).2.2.2.2.1 n)) r)) (id:=f.2.1) ?_ Aa ?_)
 ·rfl
 ·exact(E.inv.str.mono Aa).set i _
 ·show 0<=Z8 (x.2.2.2.1.set (Z8 x.2.2.2.1 f.2.1).toNat (wm (yA (atV x f.2.1) (snV (atV x f.2.1).2.2.2.2.1 n)) r)) f.2.1;rw[show Z8 (x.2.2.2.1.set (Z8 x.2.2.2.1 f.2.1).toNat (wm (yA (atV x f.2.1) (snV (atV x f.2.1).2.2.2.2.1 n)) r)) f.2.1=Z8 x.2.2.2.1 f.2.1 from Zcs _ rfl];exact E.idx
theorem Qj9(w:Ql):rdV w 0=w:=by
 simp_all[rdV]
theorem Qek(w:Ql)(n:Int):rdV w (max 0 n)=rdV w n:=by
 by_cases h:0<=n
 ·grind
 ·rw[Int.max_eq_left Aa,Qj9];simp_all[Zko,Zm,rdV]
def Zbw(x:Ze)(f:Zj):Int:=nbV (atV x f.2.1).2.2.2.1 f.2.2.2.2.2.2.2.1
def Zsg(x:Ze)(f:Zj):Zu×Int×Unit:=Z2h (Kl (atV x f.2.1).2.2.2.1 f.2.2.2.2.2.1 f.2.2.2.2.2.2.2.1)
def Qsp(x:Ze)(f:Zj):Int:=Lb.wrap (f.2.2.2.2.2.2.2.1- (snV (atV x f.2.1).2.2.2.2.1 (Zbw x f)).2.2.2.2.1)
def Z1r(c:Ze)(f:Zj)(x:Ze):Ze×Int×Unit:=cond (flB x (atV x f.2.1) (Zbw x f)) (cond ((Zsg x f).2.1==0) (cond (((Zsg x f).1.1==4)&&((atV x f.2.1).2.2.2.1.1 !=4)) (fin (kL (re x (rdV (snV x.2.2.2.2.2.1 (Zbw x f)) (Qsp x f))) f.2.1 (wm (yA (atV x f.2.1) (rdV (snV (atV x f.2.1).2.2.2.2.1 (Zbw x f)) (Qsp x f))) (Zsg x f).1)) f.2.1,0,()) (fin (kL (re x (snV x.2.2.2.2.2.1 (Zbw x f))) f.2.1 (wm (yA (atV x f.2.1) (snV (atV x f.2.1).2.2.2.2.1 (Zbw x f))) (Zsg x f).1)) f.2.1,0,())) (c,(Zsg x f).2.1,())) (c,3,())
theorem Qw9(h:Q5 K c)(hf:FOK f)(h25:25<=K)(hK:K<=390000):kR c f=K2 (pre c f (f.1==4) (Zij c.1 f.2.1) (Z1r c f),()):=by
 unfold FOK at hf;unfold kR gH d9 tD pre;simp only[Zb2 h,Za7 hf,Ji h,bO,bO2,pA,Z1j];cases hc:bP c
 ·rfl
 cases hk:Xa f
 ·rfl
 rw[bne];cases hg:f.1==4
 ·rfl
 simp only[pI,Lh,pH,Lg,pG];cases Zij c.1 f.2.1
 ·rfl
 simp only[pI,pH,pG];obtain⟨g,o,p,q⟩:=okF hk;rw[Zqe h hc h25 Aa g,pA,bne];cases h0:(fH c f.2.1).1==0
 ·rfl
 have E:EnF K (fH c f.2.1).2 f.2.1:=by
  have e:=WP h hc h25 Aa g (by simpa using h0);exact⟨Zco h hc h25 Aa g,e.1,e.2.1⟩
 simp only[pI,pH,pG];generalize (fH c f.2.1).2=x at E⊢;obtain⟨j,s,k⟩:=E.mem Aa;have hs:=E.inv.str.all _ j;have F:=E.con.st E.inv Aa j;rw[V8 E.inv Aa,if_pos E.idx,pA];obtain⟨r,v,e,l⟩:=Zaa hs.rcv Aa f.2.2.2.2.2.1 f.2.2.2.2.2.2.2.1;have m:Zsg x f=(r,v,()):=by unfold Zsg;rw[e];rfl
 simp only;unfold Z1r;rw[e,pA,Qo9 hs Aa (Zim.2 F.win) E.con.inf,pA,m];rw[show nbV (atV x f.2.1).2.2.2.1 f.2.2.2.2.2.2.2.1=Zbw x f from rfl];cases flB x (atV x f.2.1) (Zbw x f)
 ·rfl
 simp only[pG,show((0:Int) !=0)=Lc from rfl,pH];rw[bne];cases v==0
 ·rfl
 simp only[pI,pH,pG];have a:∀b d,Ld (Vh (re x b) (wm (yA (atV x f.2.1) d) r)) (λi=>K2 ((i.2.1,(0:Int),()),()))=K2 ((fin (kL (re x b) f.2.1 (wm (yA (atV x f.2.1) d) r)) f.2.1,0,()),()):=λb d=>by
  have n:Xc K (wm (yA (atV x f.2.1) d) r):=⟨hs.snd,l⟩
  rw[Zh3 (x:=re x b) (id:=f.2.1) (K:=K) ⟨E.inv.str,E.inv.pk⟩ n Aa k E.idx];rfl
 cases ((r.1==4)&&((atV x f.2.1).2.2.2.1.1 !=4))
 ·exact a _ _
 ·simp only[pG];unfold nL;simp only[Qkb,Qek,pA];exact a _ _
def Qvl(x:Ze)(f:Zj)(i:Nat)(l:List Zf)(w:Ql)(r:Zu):Oc Ze Int:=cond ((r.1==(4:Int))&&((l.getD i Zc).2.2.2.1.1 !=(4:Int))) (Ld (aG ((l.set i (wm (l.getD i Zc) r)).getD i Zc).2.2.2.2.1 (Lb.wrap (f.2.2.2.2.2.2.2.1- ((l.set i (wm (l.getD i Zc) r)).getD i Zc).2.2.2.2.1.2.2.2.2.1))) λt21=>Ld (aG w (Lb.wrap (f.2.2.2.2.2.2.2.1- ((l.set i (wm (l.getD i Zc) r)).getD i Zc).2.2.2.2.1.2.2.2.2.1))) λt33=>Qcc (XU (re x t33.1) ((l.set i (wm (l.getD i Zc) r)).set i (yA ((l.set i (wm (l.getD i Zc) r)).getD i Zc) t21.1))) f.2.1) (Qcc (XU (re x w) (l.set i (wm (l.getD i Zc) r))) f.2.1)
set_option maxHeartbeats 2000000 in
theorem Qw8(h:Q5 K c)(hf:FOK f)(h25:25<=K)(hK:K<=390000):xj c f=K2 (pre c f (f.1==4) (Zij c.1 f.2.1) (Z1r c f)):=by
 unfold FOK at hf;unfold xj gG gH gK tA tB tC tD tG tQ pre;simp only[xv h,Zb2 h,Ze1 hf,Wt h,bO,bO2,Xr,pA,Qke,Z1j];cases hc:bP c
 ·rfl
 cases hk:Xa f
 ·rfl
 cases hg:f.1==4
 ·rfl
 simp only[pI,Lh,pH,Lg,pG];cases Zij c.1 f.2.1
 ·rfl
 simp only[pI,pH,pG];obtain⟨g,o,p,q⟩:=okF hk;rw[Zxu h hc h25 Aa,pA,bne];cases h0:(fH c f.2.1).1==0
 ·rfl
 have E:EnF K (fH c f.2.1).2 f.2.1:=by
  have e:=WP h hc h25 Aa g (by simpa using h0);exact⟨Zco h hc h25 Aa g,e.1,e.2.1⟩
 simp only[pI,pH,pG];generalize (fH c f.2.1).2=x at E⊢;obtain⟨i,j,s⟩:=E.mem Aa;have hs:=E.inv.str.all _ i;have F:=E.con.st E.inv Aa i;have t:=E.inv.str.len;have u:=E.idx;rw[uC Aa,QD Aa,pA];simp only;rw[Zb,Z31 hs.rcv Aa,pA,Qd1,pA,Qd1,Zim.2 F.win,E.con.inf];obtain⟨r,v,e,k⟩:=Zaa hs.rcv Aa f.2.2.2.2.2.1 f.2.2.2.2.2.2.2.1;have l:Zsg x f=(r,v,()):=by unfold Zsg;rw[e];rfl
 unfold Z1r flB;rw[l];simp only[pG];rw[show nbV (atV x f.2.1).2.2.2.1 f.2.2.2.2.2.2.2.1=Zbw x f from rfl];rw[show K4 (Zbw x f>lft (atV x f.2.1).2.2.2.2.1)= !K4 (Zbw x f<=lft (atV x f.2.1).2.2.2.2.1) by grind];cases K4 (Zbw x f<=lft (atV x f.2.1).2.2.2.2.1)
 ·rfl
 simp only[pI,pH,pA,Lf,pJ];rw[show K4 (Zbw x f>lft x.2.2.2.2.2.1)= !K4 (Zbw x f<=lft x.2.2.2.2.2.1) by grind];cases K4 (Zbw x f<=lft x.2.2.2.2.2.1)
 ·rfl
 simp only[pI,pH,pG];rw[Z25 hs.rcv _ _ Aa,e,pA];simp only;rw[bne];cases v==0
 ·rfl
 simp only[pI,pH,pG];have b:∀d a,Qcc (kL (re x d) f.2.1 (wm (yA (atV x f.2.1) a) r)) f.2.1=K2 (fin (kL (re x d) f.2.1 (wm (yA (atV x f.2.1) a) r)) f.2.1,(0:Int),()):=λd a=>by
  have m:Xc K (wm (yA (atV x f.2.1) a) r):=⟨hs.snd,k⟩
  refine Qnl (K:=K) (E.inv.str.set m _) Aa ?_;show 0<=Z8 (x.2.2.2.1.set (Z8 x.2.2.2.1 f.2.1).toNat (wm (yA (atV x f.2.1) a) r)) f.2.1;rw[show Z8 (x.2.2.2.1.set (Z8 x.2.2.2.1 f.2.1).toNat (wm (yA (atV x f.2.1) a) r)) f.2.1=Z8 x.2.2.2.1 f.2.1 from Zcs _ rfl];exact E.idx
 rw[Qnk,Qnk,pA,pA];refine Ll (show _=Qvl x f (Z8 x.2.2.2.1 f.2.1).toNat (x.2.2.2.1.set (Z8 x.2.2.2.1 f.2.1).toNat (yA (atV x f.2.1) (snV (atV x f.2.1).2.2.2.2.1 (Zbw x f)))) (snV x.2.2.2.2.2.1 (Zbw x f)) r from rfl) ?_;unfold Qvl;have n:(Z8 x.2.2.2.1 f.2.1).toNat<(x.2.2.2.1.set (Z8 x.2.2.2.1 f.2.1).toNat (yA (atV x f.2.1) (snV (atV x f.2.1).2.2.2.2.1 (Zbw x f)))).length:=Ac
 rw[yk j,yk n];simp only[L3];cases ((r.1==4)&&((atV x f.2.1).2.2.2.1.1 !=4))
 ·exact b _ _
 ·simp only[pG,Qpu,pA];exact b _ _
theorem Zlj(s:Zk):0<=stF s/\stF s<=3:=by
 have e:=Zg5 s;unfold ch at e
 grind
theorem Qai.st{s:Zk}(h:Qai s):0<=s.1/\s.1<=5:=by
 by_cases a:s.1=4\/s.1=5
 ·omega
 ·have:=(h.no a).st;have:=Zlj s;omega
theorem Zsf{K:Int}{s:Zk}(h:Jr K s)(hK:K<=1000000)(code:Int):kC s code=Ju s code:=by
 have a:=h.cells;unfold kC gH Ju gH bU;rw[xy h hK,Zku h hK,pA,qw h hK,lI h hK];simp only[bN,Zc1,Kh,pA,bO,bO2,bA,bA2,Xr,Ke];cases hs:Zae s
 ·rfl
 ·have g:=((Zsl h hK).1 hs).st;have e:(K4 (s.1>=0)&&K4 (s.1<=2))= !K4 (s.1>2):=by
   grind
  rw[e];cases K4 (s.1>2)<;>cases aY code<;>rfl
def Qxi(m:Oc Zk Bool):Zk×Bool×Unit:=match m with|some y=>y|none=>(Yw,Lc,())
def Z69(x:Ze)(f:Zj):Zk×Bool×Unit:=Qxi (Ju (atV x f.2.1).2.1 f.2.2.2.2.2.1)
abbrev lL(s:Zf)(d:Zk):Zf:=(s.1,d,s.2.2)
abbrev yM(s:Zf):Zf:=(s.1,s.2.1,s.2.2.1,s.2.2.2.1,s.2.2.2.2.1,s.2.2.2.2.2.1,s.2.2.2.2.2.2.1,s.2.2.2.2.2.2.2.1,K3,s.2.2.2.2.2.2.2.2.2)
def Z29(f:Zj)(x:Ze):Ze×Int×Unit:=cond (Z69 x f).2.1 (fin (kL x f.2.1 (yM (lL (atV x f.2.1) (Z69 x f).1))) f.2.1,0,()) (fin x f.2.1,0,())
theorem Qxf(h:Q5 K c)(hf:FOK f)(h25:25<=K)(hK:K<=390000):mK c f=K2 (pre c f (f.1==5) (Z1y c.1 f.2.1) (Z29 f),()):=by
 unfold FOK at hf;unfold mK gH tV fR pre;simp only[Zb2 h,Za7 hf,Ji h,bO,bO2,pA,Z90];cases hc:bP c
 ·rfl
 cases hk:Xa f
 ·rfl
 rw[bne];cases hg:f.1==5
 ·rfl
 simp only[pI,Lh,pH,Lg,pG];cases Z1y c.1 f.2.1
 ·rfl
 simp only[pI,pH,pG];obtain⟨a,o,p,q⟩:=okF hk;rw[Zqe h hc h25 Aa a,pA,bne];cases h0:(fH c f.2.1).1==0
 ·rfl
 have E:EnF K (fH c f.2.1).2 f.2.1:=by
  have e:=WP h hc h25 Aa a (by simpa using h0);exact⟨Zco h hc h25 Aa a,e.1,e.2.1⟩
 simp only[pI,pH,pG];generalize (fH c f.2.1).2=x at E⊢;obtain⟨g,r,i⟩:=E.mem Aa;have hs:=E.inv.str.all _ g;have F:=E.con.st E.inv Aa g;rw[V8 E.inv Aa,if_pos E.idx,pA];obtain⟨d,v,e,k⟩:=ZH hs.snd f.2.2.2.2.2.1;have l:Z69 x f=(d,v,()):=by unfold Z69;rw[e];rfl
 simp only;unfold Z29;rw[e,pA,l];cases v
 ·have hx:kL x f.2.1 (atV x f.2.1)=x:=by
   show(x.1,x.2.1,x.2.2.1,x.2.2.2.1.set (Z8 x.2.2.2.1 f.2.1).toNat (x.2.2.2.1.getD (Z8 x.2.2.2.1 f.2.1).toNat Zc),x.2.2.2.2)=x;rw[Z9v]
  have j:=Zh3 (x:=x) (id:=f.2.1) (K:=K) E.inv hs Aa i E.idx;simp_all
 ·have n:Xc K (yM (lL (atV x f.2.1) d)):=⟨k,hs.rcv⟩
  have j:=Zh3 (x:=x) (id:=f.2.1) (K:=K) E.inv n Aa i E.idx;exact Ll (congrArg (λm:Oc Unit Ze=>Ld m λb=>K2 ((b.2.1,(0:Int),()),())) j) rfl
set_option maxHeartbeats 2000000 in
theorem Qxe(h:Q5 K c)(hf:FOK f)(h25:25<=K)(hK:K<=390000):yS c f=K2 (pre c f (f.1==5) (Z1y c.1 f.2.1) (Z29 f)):=by
 unfold FOK at hf;unfold yS gG gH gK tA tB tC tD tT pre;simp only[xv h,Zb2 h,Ze1 hf,Wt h,bO,bO2,Xr,pA,Qpy,Z90];cases hc:bP c
 ·rfl
 cases hk:Xa f
 ·rfl
 cases hg:f.1==5
 ·rfl
 simp only[pI,Lh,pH,Lg,pG];cases Z1y c.1 f.2.1
 ·rfl
 simp only[pI,pH,pG];obtain⟨a,m,n,o⟩:=okF hk;rw[Zxu h hc h25 Aa,pA,bne];cases h0:(fH c f.2.1).1==0
 ·rfl
 have E:EnF K (fH c f.2.1).2 f.2.1:=by
  have e:=WP h hc h25 Aa a (by simpa using h0);exact⟨Zco h hc h25 Aa a,e.1,e.2.1⟩
 simp only[pI,pH,pG];generalize (fH c f.2.1).2=x at E⊢;obtain⟨b,g,p⟩:=E.mem Aa;have hs:=E.inv.str.all _ b;have F:=E.con.st E.inv Aa b;have q:=E.inv.str.len;have r:=E.idx;rw[uC Aa,QD Aa,pA];simp only;rw[Zb];obtain⟨d,v,e,i⟩:=ZH hs.snd f.2.2.2.2.2.1;have j:Z69 x f=(d,v,()):=by unfold Z69;rw[e];rfl
 unfold Z29;rw[Zsf hs.snd Aa,e,pA,j];cases v
 ·have hx:=Qnl (K:=K) (x:=x) E.inv.str Aa E.idx;unfold Qcc at hx;rw[uC Aa,QD Aa]at hx;simp only[pH];exact hx
 ·have k:Xc K (yM (lL (atV x f.2.1) d)):=⟨i,hs.rcv⟩
  refine Ll (show _=(λl:List Zf=>Qcc (XU x (l.set (Z8 x.2.2.2.1 f.2.1).toNat (yM (l.getD (Z8 x.2.2.2.1 f.2.1).toNat Zc)))) f.2.1) (x.2.2.2.1.set (Z8 x.2.2.2.1 f.2.1).toNat (lL (atV x f.2.1) d))from rfl) ?_;simp only[yk g,L3];refine Qnl (K:=K) (x:=kL x f.2.1 (yM (lL (atV x f.2.1) d))) (E.inv.str.set k _) Aa ?_;show 0<=Z8 (x.2.2.2.1.set (Z8 x.2.2.2.1 f.2.1).toNat (yM (lL (atV x f.2.1) d))) f.2.1;rw[show Z8 (x.2.2.2.1.set (Z8 x.2.2.2.1 f.2.1).toNat (yM (lL (atV x f.2.1) d))) f.2.1=Z8 x.2.2.2.1 f.2.1 from Zcs _ rfl];exact E.idx
abbrev Zks(s:Zf)(c:Ky):Zf:=(s.1,s.2.1,c,s.2.2.2)
def mlX(f:Zj)(x:Ze):Ze×Int×Unit:=(kL x f.2.1 (Zks (atV x f.2.1) (rlV (atV x f.2.1).2.2.1 f.2.2.2.2.2.2.1)),0,())
def Qxh(c:Ze)(n:Int):Ze:=(c.1,c.2.1,c.2.2.1,c.2.2.2.1,rlV c.2.2.2.2.1 n,c.2.2.2.2.2)
def Z70(c:Ze)(u:Bool)(n:Int):Ze:=cond u (c.1,c.2.1,c.2.2.1,c.2.2.2.1,c.2.2.2.2.1,c.2.2.2.2.2.1,c.2.2.2.2.2.2.1,rcV c.2.2.2.2.2.2.2.1 n,c.2.2.2.2.2.2.2.2) (c.1,c.2.1,c.2.2.1,c.2.2.2.1,c.2.2.2.2.1,c.2.2.2.2.2.1,rcV c.2.2.2.2.2.2.1 n,c.2.2.2.2.2.2.2)
def Z83(c:Ze)(f:Zj):Ze×Int×Unit:=cond (f.1==17) (pre c f K3 (Z1y c.1 f.2.1) (mlX f)) (cond (f.1==21) (pre c f K3 (Zij c.1 f.2.1) (λx=>(x,0,()))) (cond (bP c&&Xa f) (cond (f.1==16) (Qxh c f.2.2.2.2.2.2.1,0,()) (cond (f.1==18) (Z70 c f.2.2.2.2.2.2.2.2.1 f.2.2.2.2.2.2.1,0,()) (cond ((f.1==20)||(f.1==22)) (c,0,()) (c,7,())))) (c,7,())))
theorem Qi9(h:Xa f=K3):f.1=4\/f.1=5\/f.1=8\/f.1=17\/f.1=21\/f.1=18\/f.1=22\/f.1=16\/f.1=20:=by
 unfold Xa Yu at h
 grind
theorem Qw1(h:Q5 K c)(hf:FOK f)(h25:25<=K)(hK:K<=390000):kQ c f=K2 (Z83 c f):=by
 unfold FOK at hf;unfold kQ gH tF tG tL j9 d7 d8 yI k9 tD tO qg Z83 pre;simp only[Ji h (show K<=1000000 by omega),Zb2 h (show K<=1000000 by omega),Za7 hf,bO,bO2,pA,Z90,Z1j,Qsj,Qne];cases hc:bP c
 ·simp_all
 cases hk:Xa f
 ·simp_all
 obtain⟨d,p,q,r⟩:=okF hk;rw[Zqe h hc h25 Aa d];have E:(fH c f.2.1).1=0->EnF K (fH c f.2.1).2 f.2.1:=λb=>by
  have e:=WP h hc h25 Aa d b;exact⟨Zco h hc h25 Aa d,e.1,e.2.1⟩
 rcases Qi9 hk with k|k|k|k|k|k|k|k|k<;>rw[k]<;>simp only[Ln,pG,pH,pI,Lh,Lg,L9,Mi,pA,bne]
 ·cases Z1y c.1 f.2.1
  ·rfl
  cases b:(fH c f.2.1).1==0
  ·rfl
  have E:=E (by simpa using b);simp only[pI,pH,pG];generalize (fH c f.2.1).2=x at E⊢;obtain⟨j,s,l⟩:=E.mem Aa;have hs:=E.inv.str.all _ j;rw[V8 E.inv Aa,if_pos E.idx,pA];have n:Xc K (Zks (atV x f.2.1) (rlV (atV x f.2.1).2.2.1 f.2.2.2.2.2.2.1)):=⟨hs.snd,hs.rcv⟩
  have i:=Z22 E.inv.str n;have o:Zbp x.2.2.2.1 (Zks (atV x f.2.1) (rlV (atV x f.2.1).2.2.1 f.2.2.2.2.2.2.1))=x.2.2.2.1.set (Z8 x.2.2.2.1 f.2.1).toNat (Zks (atV x f.2.1) (rlV (atV x f.2.1).2.2.1 f.2.2.2.2.2.2.1)):=by
   unfold Zbp;rw[show(Zks (atV x f.2.1) (rlV (atV x f.2.1).2.2.1 f.2.2.2.2.2.2.1)).1=f.2.1 from l,if_pos E.idx]
  rw[o]at i;exact Ll (congrArg (λm:Oa (List Zf)=>Ld (Ld m λg=>(K2 ((x.1,x.2.1,x.2.2.1,g.1,x.2.2.2.2),(0:Int),()):Oc Ze Int)) λa=>K2 (a.1,a.2.1,())) i) rfl
 ·cases Zij c.1 f.2.1
  ·rfl
  cases b:(fH c f.2.1).1==0
  ·rfl
  ·rfl
 ·unfold Z70;cases f.2.2.2.2.2.2.2.2.1<;>rfl
 ·rfl
theorem Qw0(h:Q5 K c)(hf:FOK f)(h25:25<=K)(hK:K<=390000):xi c f=K2 (Z83 c f):=by
 unfold FOK at hf;have d:∀x u,Jc x u=K2 (u,x,()):=λx u=>by grind[Jc]
 unfold xi gG gH gK tD tF tG tL tO Z83 pre;simp only[Wt h (show K<=1000000 by omega),xv h (show K<=1000000 by omega),Zb2 h (show K<=1000000 by omega),Ze1 hf,bO,bO2,pA,Qpy,Qke,Z90,Z1j,Qsi,Qnd,d];cases hc:bP c
 ·cases f.1==17<;>cases f.1==21<;>rfl
 cases hk:Xa f
 ·cases f.1==17<;>cases f.1==21<;>rfl
 obtain⟨b,g,i,j⟩:=okF hk;simp only[Zxu h hc h25 (show K<=400000 by omega)];have E:(fH c f.2.1).1=0->EnF K (fH c f.2.1).2 f.2.1:=λa=>by
  have e:=WP h hc h25 Aa b a;exact⟨Zco h hc h25 Aa b,e.1,e.2.1⟩
 rcases Qi9 hk with k|k|k|k|k|k|k|k|k<;>rw[k]<;>simp only[Ln,pG,pH,pI,Ls,Lh,Lg,L9,Mi,pA,bne,Lk,Mg]
 ·cases Z1y c.1 f.2.1
  ·rfl
  cases a:(fH c f.2.1).1==0
  ·rfl
  have E:=E (by simpa using a);simp only[pI,pH,pG];generalize (fH c f.2.1).2=x at E⊢;obtain⟨l,m,n⟩:=E.mem Aa;have o:=E.inv.str.len;have p:=E.idx;rw[uC Aa,QD Aa,pA];simp only;rw[Zb];rfl
 ·cases Zij c.1 f.2.1
  ·rfl
  cases a:(fH c f.2.1).1==0
  ·rfl
  ·rfl
 ·unfold Z70;cases f.2.2.2.2.2.2.2.2.1<;>rfl
 ·rfl
def Zeq(c:Ze)(f:Zj):Ze×Int×Unit:=cond (f.1==8) (pre c f (f.1==8) (Zij c.1 f.2.1) (Zi3 c f)) (cond (f.1==4) (pre c f (f.1==4) (Zij c.1 f.2.1) (Z1r c f)) (cond (f.1==5) (pre c f (f.1==5) (Z1y c.1 f.2.1) (Z29 f)) (Z83 c f)))
theorem Quk(h:Q5 K c)(hf:FOK f)(h25:25<=K)(hK:K<=390000):kP c f=K2 (Zeq c f,()):=by
 unfold kP bC Zeq;rw[Ji h,pA,Qt7 h hf h25 hK,Qw9 h hf h25 hK,Qxf h hf h25 hK,Qw1 h hf h25 hK];cases f.1==8<;>cases f.1==4<;>cases f.1==5<;>rfl
theorem Qwu(h:Q5 K c)(hf:FOK f)(h25:25<=K)(hK:K<=390000):xh c f=K2 (Zeq c f):=by
 unfold xh Zeq;rw[Qt6 h hf h25 hK,Qw8 h hf h25 hK,Qxe h hf h25 hK,Qw0 h hf h25 hK];cases f.1==8<;>cases f.1==4<;>cases f.1==5<;>rfl
theorem Qcs{a:Qu}(h:Zin a):Zin (coV a):=by
 unfold coV;cases hc:Ziq a&& !(a.2.2.2.1==a.2.2.1)
 ·exact h
 ·simp only[pC,Lw,beq_eq_false_iff_ne]at hc;have:=h.clo;have:=h.lc
  exact⟨h.most,h.lim,h.seen,Ag,Ag⟩
theorem Zsz(W:Zh4 w)(h0:0<=n)(h1:n<=lft w):Zh4 (snV w n)/\(snV w n).2.2.2.1=w.2.2.2.1+n:=by
 have a:Zg3 w n=true:=by simp_all[Zg3,Zim]
 have e:snV w n=(w.1,w.2.1,w.2.2.1,w.2.2.2.1+n,w.2.2.2.2):=by simp_all[snV]
 rw[e];unfold lft at h1;have:=W.seen;have:=W.read
 exact⟨⟨W.most,W.size,W.lim,Ab,Ab,W.lr,W.since⟩,rfl⟩
theorem Zlm(W:Zh4 w)(n:Int):Zh4 (rdV w n)/\(rdV w n).2.2.2.1=w.2.2.2.1:=by
 unfold rdV;cases h:Zko w n
 ·simp_all
 ·unfold Zko at h;simp only[pC,decide_eq_true_eq]at h;have:=W.seen;have:=W.read;have:=W.lr
  exact⟨⟨W.most,W.size,W.lim,W.seen,Ag,Ag,W.since⟩,rfl⟩
theorem Qwy(k:WJ v s)(F:StF s)(h:Zij v s.1=K3):s.2.2.2.2.2.2.2.1=true:=by
 rcases k with⟨a,b⟩|⟨-,b⟩
 ·rcases F.can with c|c
  all_goals simp_all
 simp_all[Z1j]
theorem Qwz(k:WJ v s)(F:StF s)(h:Z1y v s.1=K3):s.2.2.2.2.2.2.1=true:=by
 rcases k with⟨a,b⟩|⟨b,-⟩
 ·rcases F.can with c|c
  all_goals simp_all
 simp_all[Z90]
theorem Qdi:flB x s n=K3↔n<=lft s.2.2.2.2.1/\n<=lft x.2.2.2.2.2.1:=by
 simp_all[flB]
theorem Z1p{r:Q2}(hl:r.2.2.2.1.length<=1048576)(h:pw r=K3):bp r.1=K2 (K3,()):=by
 have e:=(zK r hl).1;rw[h]at e;unfold aP at e;obtain⟨p,a⟩:=Z1a r.1
 grind
theorem Qvj{K:Int}{s:Zk}(h:Jr K s)(hK:K<=1000000)(code:Int):Pc (Ju s code) λr=>r.2.1=K3->Qai r.1/\r.1.1=4/\r.1.2.2.2.2.2.2.2.1=s.2.2.2.2.2.2.2.1:=by
 unfold Ju gH oN;rw[Zku h hK,pA,lI h hK];simp only[Xr,Ke,Kh,bO,bO2];refine Pc.ite (λ_=>Pc.pure λh=>by cases h) λa=>Pc.guard (Pc.pure λ_=>?_);simp only[Lv,L7,decide_eq_false_iff_not]at a;obtain⟨⟨b,f⟩,c⟩:=a;have F:=(Zsl h hK).1 b;have d:=h.cells;have hs:=F.sent;have g:=h.eK;have e:=Qki (m:=s.2.2.2.2.2.2.2.1) (Z1p Aa F.ring) hs.1 Aa;refine⟨{ring:=e.1,pr:=rfl,fr:=rfl,ar:=rfl,sent:=⟨hs.1,Le _⟩,code:=X4.1 c,fin:=⟨Le _,Ab⟩,rst:=λ_=>⟨rfl,rfl,rfl,rfl,rfl,rfl,rfl⟩,no:=λh=>absurd (.inl rfl) h},rfl,rfl⟩
theorem Zzd{c:Ky}(h:Zpt c)(n:Int):Zpt (rlV c n)/\(rlV c n).2.1=c.2.1:=by
 unfold rlV;cases hc:(Zh5 c&&K4 (n>c.1))&&K4 (n<=4611686018427387903)
 ·simp_all
 ·simp only[pC,decide_eq_true_eq]at hc;have a:=h.use0;have d:=h.use;have b:=h.told0;have e:=h.told
  exact⟨⟨hc.2,a,Ag,Ac,Ag,b,Ag⟩,rfl⟩
theorem Zy8{c:dn}(h:WM c=K3)(n:Int):WM (rcV c n)=true:=by
 unfold rcV;cases hc:(WM c&&K4 (n>c.1))&&K4 (n<=1152921504606846976)
 ·exact h
 ·simp only[pC,decide_eq_true_eq]at hc;have a:=Zf2.1 h;exact Zf2.2 Ag
def plT:Ty->Bool|.unit=>K3|.int _=>K3|.bool=>K3|.str=>K3|.pair a b=>plT a&&plT b|_=>Lc
theorem bq:∀{T:Ty},plT T=K3-> ∀x:T.den,eqV T x x=true:=λ{T}=>by
 induction T with
 |int k=>simp_all[eqV]
 |bool=>simp_all[eqV]
 |str=>simp_all[eqV]
 |unit=>intro _ x;rfl
 |pair a b c d=>
  simp_all[plT,eqV]
 |_=>intro h;cases h
theorem Qq1(r:Q2)(hl:r.2.2.2.1.length<=1048576):zh r r=K2 (K3,()):=by
 have b:∀(N i:Nat),r.2.2.2.1.length-i<N->i<=r.2.2.2.1.length->lP N r r (i:Int)=K2 (K3,()):=by
  intro N
  induction N with
  |zero=>intro i h;omega
  |succ N c=>
   intro i d e;unfold lP gG;by_cases a:i<r.2.2.2.1.length
   ·rw[Zn (Zl),Zb,Zb,bne_self_eq_false,pH,Zs a]
    grind
   grind
 unfold zh;simp only[bne_self_eq_false,Lh,pH]
 grind[p9]
theorem Zzq(l:List Zi)(hl:l.length<=1048576):kO l l=K2 (K3,()):=by
 have b:∀(N i:Nat),l.length-i<N->i<=l.length->j7 N l l (i:Int)=K2 (K3,()):=by
  intro N
  induction N with
  |zero=>intro i h;omega
  |succ N c=>
   intro i d e;unfold j7 gG gI;by_cases a:i<l.length
   ·rw[Zn (Zl),Zb,Zb,bq rfl,pI,pH,Zs a]
    grind
   grind
 unfold kO;simp only[bne_self_eq_false,pH]
 grind[og]
theorem Quf(b:Zv)(hl:b.2.1.length<=1048576):uU b b=K2 (K3,()):=by
 have c:∀(N i:Nat),b.2.1.length-i<N->i<=b.2.1.length->iz N b b (i:Int)=K2 (K3,()):=by
  intro N
  induction N with
  |zero=>intro i h;omega
  |succ N d=>
   intro i e f;unfold iz gG gJ;by_cases a:i<b.2.1.length
   ·rw[Zn (Zl),Zb,Zb,bq rfl,pI,pH,Zs a]
    grind
   grind
 unfold uU;simp only[bne_self_eq_false,Lh,pH]
 grind[mu]
theorem Qib(h:Xc K s)(hK:K<=1000000):uW s s=K2 (K3,()):=by
 have g:=h.snd;have a:=g.e0;have b:=g.eK;have d:=g.cells
 have hs:uV s.2.1 s.2.1=K2 (K3,()):=by
  unfold uV;simp only[beq_self_eq_true,pG,Qq1 _ (show s.2.1.2.1.2.2.2.1.length<=1048576 by omega),Lg,pA,Zzq _ (Md (Qm g.pend a b (show(K:Int)<=1000000 by omega)) Aa),Zzq _ (Md (Qm g.pT a b (show(K:Int)<=1000000 by omega)) Aa),Zzq _ (Md (Qm g.pO a b (show(K:Int)<=1000000 by omega)) Aa)]
 have c:oK s.2.2.2.1 s.2.2.2.1=K2 (K3,()):=by
  unfold oK;simp only[beq_self_eq_true,pG,Quf _ (show s.2.2.2.1.2.1.2.1.length<=1048576 by have:=h.rcv.len;omega),Lg,pA]
 unfold uW;simp only[beq_self_eq_true,pG,hs,c,bq (T:=Qx) rfl,bq (T:=Yi) rfl,bq (T:=Yn) rfl,Lg,pA]
theorem Qug(h:mi K l)(hK:K<=1000000):xJ l l=K2 (K3,()):=by
 have b:=h.len;have c:∀(N i:Nat),l.length-i<N->i<=l.length->j8 N l l (i:Int)=K2 (K3,()):=by
  intro N
  induction N with
  |zero=>intro i h;omega
  |succ N e=>
   intro i f g;unfold j8 gG gK;by_cases a:i<l.length
   ·rw[Zn (Zl),Zb,Zb,Qib (h.all _ (Z2 (d:=Zc) (show(i:Int).toNat<l.length by omega))) hK,pA,pI,pH,Zs a]
    grind
   grind
 unfold xJ;simp only[bne_self_eq_false,pH]
 grind[oh]
theorem Qo3{l:List Z6}(hl:l.length<=1000000)(K1:(List Z6×List Z6×Int×Unit)->Oa Bool)(i:Nat)(hi:i<l.length)(hf:(l.getD i Q1).2.1.length<=1000):∀(N k:Nat),(l.getD i Q1).2.1.length-k<N->k<=(l.getD i Q1).2.1.length->dT K1 N l l (i:Int) (k:Int)=K1 (l,l,((i+1:Nat):Int),())
 |0,_,h,_=>Aa
 |N+1,k,c,hk=>by
  unfold dT gG gL;have a:(i:Int).toNat=i:=rfl;rw[Zb,a];by_cases b:k<(l.getD i Q1).2.1.length
  ·rw[Zn (Zl),Zb,Zb,Zb,Zb,bq rfl,pI,pH,Zs b];exact Qo3 hl K1 i hi hf N (k+1) Aa Aa
  ·rw[Zp (Zm),Zs hi]
theorem Qws{l:List Z6}(h:Zyl K l)(hK:K<=1000000):oP l l=K2 (K3,()):=by
 have e:=h.1;have f:∀(N i:Nat),l.length-i<N->i<=l.length->dS N l l (i:Int)=K2 (K3,()):=by
  intro N
  induction N with
  |zero=>intro i h;omega
  |succ N b=>
   intro i g j;unfold dS gG gL;by_cases a:i<l.length
   ·have c:=(h.2 _ (Z2 (d:=Q1) a)).1;rw[Zn (Zl),Zb,Zb];simp only[bne_self_eq_false];rw[Zb (λ_=>Aa),Zb (λ_=>Aa),Lh,pH];exact Ll (Qo3 Aa _ i a c (dj l l (i:Int) 0) 0 (by simp_all[dj]) Aa) (b (i+1) Aa Aa)
   grind
 unfold oP;simp only[bne_self_eq_false,pH]
 grind[kq]
theorem Qo2(h:Q5 K c)(hK:K<=1000000):tc c c=K2 (K3,()):=by
 unfold tc;simp only[beq_self_eq_true,bq (T:=Qx) rfl,bq (T:=Yi) rfl,bq (T:=ot) rfl,bq (T:=ci) rfl,Lg,pG,Qug h.str hK,Qws h.pk hK,pA]
theorem orQ{b:Int}{n:Nat}(hn:n<=62)(ha:0<=a)(ha':a<(2^n:Nat))(hb:0<=b)(hb':b<(2^n:Nat)):0<=bits .or .i64 a b/\bits .or .i64 a b<(2^n:Nat):=by
 have h:bits .or .i64 a b=Lb.wrap (((Lm 64 a|||Lm 64 b).toNat:Nat):Int):=rfl;have c:2^n<=2^62:=L6 Aa hn;have e:∀x:Int,0<=x->x<(2^n:Nat)->(Lm 64 x).toNat=x.toNat:=λx d f=>by
  grind
 have g:(Lm 64 a|||Lm 64 b).toNat<2^n:=by
  simp_all[Nat.or_lt_two_pow]
 grind[Zr]
theorem Qtv(b:UInt8):0<=Lb.wrap (bits .and .u8 (b.toNat:Int) 63)/\Lb.wrap (bits .and .u8 (b.toNat:Int) 63)<64:=by
 have h:bits .and .u8 (b.toNat:Int) 63=L5.wrap (((Lm 8 (b.toNat:Int)&&&Lm 8 63).toNat:Nat):Int):=rfl;have a:(Lm 8 (b.toNat:Int)&&&Lm 8 63).toNat<=63:=by
  simp_all[Nat.and_le_right]
 have c:L5.wrap (((Lm 8 (b.toNat:Int)&&&Lm 8 63).toNat:Nat):Int)=(((Lm 8 (b.toNat:Int)&&&Lm 8 63).toNat:Nat):Int):=by
  simp only[Mn,Ml,Mm,Li,Bool.false_eq_true,if_false];omega
 grind[Zr]
def QR(s:Ba)(at':Int)(r:Int×Int×Bool×Unit):Prop:=r.2.2.1=K3->0<=r.1/\r.1<4611686018427387904/\at'<r.2.1/\r.2.1<=s.length
theorem Qh4(s:Ba)(hs:s.length<=1000000)(a k:Nat)(hk:k<=8)(h1:1<=k)(ha:a+k<=s.length):∀(N i:Nat)(n:Int),k-i<N->1<=i->i<=k->0<=n->n<(2^ (8*i-2):Nat)->T (cC N s (a:Int) (k:Int) n (i:Int)) (QR s a)
 |0,_,_,h,_,_,_,_=>Aa
 |N+1,i,n,p,q,g,r,t=>by
  unfold cC;refine T.ite (λc=>?_) λc=>T.pure λ_=>?_
  ·have c:=pE c;have e:Lb.wrap ((a:Int)+i)=((a+i:Nat):Int):=Ao
   have j:Lb.wrap ((i:Int)+1)=((i+1:Nat):Int):=Ao
   rw[e,j];refine T.guard Aa (T.guard Aa ?_);have u:=(s.getD (a+i) 0).toNat_lt;have v:2^ (8*(i+1)-2)=2^ (8*i-2)*256:=by rw[show 8*(i+1)-2=8*i-2+8 by omega,Nat.pow_add]
   have l:2^14<=2^ (8*(i+1)-2):=L6 Aa Aa;have d:2^ (8*(i+1)-2)<=2^62:=L6 Aa Aa;have m:Lb.wrap (n*2^ (min (8:Int).toNat Lb.bits))=n*256:=by
    rw[show(min (8:Int).toNat Lb.bits)=8 from rfl,show(2:Int)^8=256 from rfl]
    grind[Zr]
   have f:Lb.wrap ((s.getD ((a+i:Nat):Int).toNat 0).toNat:Int)=((s.getD (a+i) 0).toNat:Int):=by
    rw[show((a+i:Nat):Int).toNat=a+i from rfl]
    grind[Zr]
   rw[m,f];have o:=orQ (a:=n*256) (b:=((s.getD (a+i) 0).toNat:Int)) (n:=8*(i+1)-2) Aa Aa Aa Aa Aa;exact Qh4 s hs a k hk h1 ha N (i+1) _ Aa Aa Aa o.1 o.2
  ·have c:=of_decide_eq_false c;have d:2^ (8*i-2)<=2^62:=L6 Aa Aa
   grind[Zr]
theorem Qfm(s:Ba)(hs:s.length<=1000000)(a:Int)(ha: -1000000<=a/\a<=1000000:=by omega):T (Yh s a) (QR s a):=by
 unfold Yh gG;refine T.ite (λ_=>T.pure (by unfold QR;simp)) λe=>?_;simp at e;obtain⟨a,rfl⟩:=Mj e.1;refine T.guard Aa (T.guard Aa ?_);have j:=(s.getD a 0).toNat_lt;have g:((2:Int)^ (min (6:Int).toNat L5.bits))=64:=rfl;simp only[g,show(a:Int).toNat=a from rfl];have i:((s.getD a 0).toNat:Int).fdiv 64=(((s.getD a 0).toNat/64:Nat):Int):=by
  grind
 rw[i];have f:(s.getD a 0).toNat/64<=3:=Aa
 obtain⟨k,b,c,hk⟩:∃k:Nat,1<=k/\k<=8/\Lb.wrap (1*2^ (min (((s.getD a 0).toNat/64:Nat):Int).toNat Lb.bits))=(k:Int):=by
  generalize (s.getD a 0).toNat/64=q at f
  match q,f with
  |0,_=>exact⟨1,Aa,Aa,rfl⟩
  |1,_=>exact⟨2,Aa,Aa,rfl⟩
  |2,_=>exact⟨4,Aa,Aa,rfl⟩
  |3,_=>exact⟨8,Aa,Aa,rfl⟩
  |n+4,h=>omega
 refine T.guard Aa ?_;rw[hk];refine T.ite (λ_=>T.pure (by unfold QR;simp)) λd=>T.guard Aa ?_;have d:=of_decide_eq_false d;rw[Zr]at d;have m:=Qtv (s.getD a 0);exact Qh4 s hs a k c b Aa _ 1 _ (by simp[pz]) Aa b m.1 (by simpa using m.2)
def RR(s:Ba)(a:Int)(n:Nat)(r:List Int×Int×Bool×Unit):Prop:=0<r.1.length/\r.1.length<=3/\(r.2.2.1=K3->a<r.2.1/\r.2.1<=s.length/\r.1.length=n)
theorem Qkc(s:Ba)(hs:s.length<=1000000)(a:Int)(n:Nat)(h1:1<=n)(h3:n<=3):∀(N i:Nat)(b:Int)(out:List Int),n-i<N->i<=n->out.length=i->(-1000000<=b/\b<=1000000)->(i=0->b=a)->(0<i->a<b/\b<=s.length)->T (dW N s b (n:Int) out (i:Int)) (RR s a n)
 |0,_,_,_,h,_,_,_,_,_=>Aa
 |N+1,i,b,out,j,k,l,e,f,g=>by
  unfold dW;refine T.ite (λc=>?_) λc=>T.pure ⟨Ag,Ab,λ_=>?_⟩
  ·have c:=pE c;refine(Qfm s hs b e).bind λr d=>T.ite (λ_=>T.pure ⟨Ae,Ae,Ae⟩) λhk=>T.guard Aj ?_;have d:=d (by simpa using hk);rw[Zr (n:=(i:Int)+1)];exact Qkc s hs a n h1 h3 N (i+1) _ _ Aa Aa Af Aa Aa (λ_=>by
    omega)
  grind
theorem cT(s:Ba)(hs:s.length<=1000000)(a:Int)(ha: -1000000<=a/\a<=1000000)(n:Nat)(h1:1<=n)(h3:n<=3):T (dh s a (n:Int)) (RR s a n):=by
 unfold dh;exact Qkc s hs a n h1 h3 _ 0 a [] (by simp[ea]) Aa rfl ha (λ_=>rfl) Aa
def FR(s:Ba)(a:Int)(r:Zj×Int×Bool×Unit):Prop:=r.2.2.1=K3->a<r.2.1/\r.2.1<=s.length/\(r.1.2.2.2.1.length:Int)+1<=r.2.1-a
theorem FR.no{s:Ba}{i:Int}:FR s a (f,i,Lc,()):=by unfold FR;simp
theorem Z8y(s:Ba)(hs:s.length<=1000)(a:Int)(ha:0<=a/\a<=s.length)(k:Int):T (oq s a k) (FR s a):=by
 have h:∀(t f:Zj)(n z:Int),a<n->0<=z->n+z<=s.length->T (gf s t f n z) (FR s a):=λt f n z c d i=>by
  unfold gf tD;rw[Zr (n:=n+z)];have j:(((s.drop n.toNat).take ((n+z).toNat-n.toNat)).length:Int)<=z:=Ag
  exact T.guard Aa ((Zc0 As).bind λr _=>T.if (T.pure FR.no) (T.pure λ_=>Ab))
 have e:∀(t f:Zj)(n:Int),a<n->n<=s.length->T (f7 s k t f n) (FR s a):=λt f n c d=>by
  unfold f7;refine T.if ((Qfm s Aa n).bind λr b=>T.ite (λ_=>T.pure FR.no) λhk=>?_) ?_
  ·simp at hk;have b:=b hk.1
   grind[Zr]
  grind[Zr]
 have g:∀(t f:Zj)(n:Nat),1<=n->n<=2->T (ld s a k t f (n:Int)) (FR s a):=λt f n c d=>by
  unfold ld;refine(cT s Aa a Aa n c Aa).bind λr b=>T.ite (λ_=>T.pure FR.no) λhk=>T.guard (by have:=b.1;omega) ?_;have q:=b.2.2 (by simpa using hk);refine T.ite (λl=>T.guard ?_ (e _ _ _ q.1 q.2.1)) λ_=>e _ _ _ q.1 q.2.1
  grind
 unfold oq;exact T.if (g _ _ 2 Aa Aa) (g _ _ 1 Aa Aa)
theorem Zst(h:0<=k){n:Nat}(hn:0<n):0<=Lt k (n:Int)/\Lt k (n:Int)<n:=
 ⟨Int.tmod_nonneg _ h,Int.tmod_lt_of_pos _ Aa⟩
theorem Z8a(s:Ba)(hs:s.length<=1000)(a:Int)(ha:0<=a/\a<s.length:=by omega):T (kN s a) (FR s a):=by
 have e:∀(t f:Zj)(n:Int)(b:Bool),f.2.2.2.1=[]->(b=K3->a<n/\n<=s.length)->T (Y8 t f n b) (FR s a):=λt f n b c h=>by
  unfold Y8;refine T.bind (Q:=λ_=>True) (T.if T.tt (Zc0 (by simp_all[FOK]))) λr _=>T.ite (λ_=>T.pure FR.no) λhk=>T.pure λ_=>?_
  grind
 have m:∀(t f:Zj)(l:List Int)(n:Int)(b q:Bool),f.2.2.2.1=[]->0<l.length->(b=K3->a<n/\n<=s.length)->T (dZ t f l n b q) (FR s a):=λt f l n b q c d h=>by
  unfold dZ tF;exact T.if (T.guard Aa (T.guard Aa (T.guard (Zst Aa d) (e _ _ _ _ c h)))) (T.guard Aa (e _ _ _ _ c h))
 have g:∀(t f:Zj)(n:Nat),1<=n->n<=3->f.2.2.2.1=[]->T (Ve s a t f (n:Int)) (FR s a):=λt f n u v c=>by
  unfold Ve;rw[Zr];refine(cT s Aa _ Aa n u v).bind λr i=>?_;have d:=i.1;have h:r.2.2.1=K3->a<r.2.1/\r.2.1<=s.length:=λhk=>by have:=i.2.2 hk;omega
  have o:=Zst (k:=1) Aa d;have w:=Zst (k:=2) Aa d;exact T.if (T.guard Aa (T.guard Aa (T.guard o (T.guard Aa (T.guard w (e _ _ _ _ c h)))))) (T.if (T.guard Aa (T.guard Aa (T.guard o (e _ _ _ _ c h)))) (T.if (m _ _ _ _ _ _ c d h) (m _ _ _ _ _ _ c d h)))
 have p:∀(t f:Zj)(k:Int)(q:Bool),f.2.2.2.1=[]->T (d6 s a t k f 1 q) (FR s a):=λt f k q c=>by
  unfold d6;exact T.if (g _ _ 1 Aa Aa c) (g _ _ 1 Aa Aa c)
 have j:∀(t f:Zj)(k x:Int)(q:Bool),f.2.2.2.1=[]->T (bz s a t k f 1 x q) (FR s a):=λt f k x q c=>by
  unfold bz;exact T.if (g _ _ 2 Aa Aa c) (T.if (p _ _ _ _ c) (p _ _ _ _ c))
 unfold kN;refine T.guard (λ_=>Aa) (T.if (T.pure FR.no) (T.guard Aa (T.if ?_ (T.if (g _ _ 3 Aa Aa rfl) (T.if (j _ _ _ _ _ rfl) (T.if (j _ _ _ _ _ rfl) (j _ _ _ _ _ rfl)))))));rw[Zr (n:=a+1)];refine(Z8y s hs _ Aa _).bind λr i=>T.pure λhk=>?_;have:=i hk;simp only;omega
def gr(l:List Zj):Nat:=(l.map λf=>f.2.2.2.1.length+2).sum
theorem Qri(l:List Zj)(f:Zj):gr (l++[f])=gr l+f.2.2.2.1.length+2:=by simp[gr];omega
theorem Zzg(s:Ba)(hs:s.length<=1000):∀(N a:Nat)(out:List Zj),s.length-a<N->a<=s.length->out.length<=a->gr out<=2*a->(∀f∈out,FOK f)->T (J9 N s out (a:Int)) λr=>gr r.1<=2*s.length/\r.1.length<=s.length/\ ∀f∈r.1,FOK f
 |0,_,_,h,_,_,_,_=>Aa
 |N+1,a,out,i,j,k,l,d=>by
  unfold J9;refine T.ite (λc=>?_) λc=>(tIn _ _ _).bind λt _=>T.pure ⟨Ab,Ab,d⟩;have c:=pE c;refine T.guard Aa (T.if ?_ ?_)
  ·rw[show Lb.wrap ((a:Int)+1)=((a+1:Nat):Int) by grind[Zr]];exact Zzg s hs N (a+1) out Aa Aa Aa Aa d
  ·refine(Z8a s hs a).bind λr e=>T.ite (λ_=>T.pure ⟨by simp[gr],Ae,Ae⟩) λhk=>T.guard Aj ?_;have e:=e (by simpa using hk);obtain⟨b,g⟩:=Mj (show 0<=r.2.1 by omega);rw[g];refine Zzg s hs N b _ Aa Aa Af (by rw[Qri];omega) λf h=>?_
   grind[FOK]
theorem Qh3(s:Ba)(hs:s.length<=1000):T (Wh s) λr=>gr r.1<=2*s.length/\r.1.length<=s.length/\ ∀f∈r.1,FOK f:=by
 grind[Wh,Zzg,lN,gr]
theorem Qda(s:Ba)(a k:Int):∀(N:Nat)(n i:Int),lv N s a k n i=cC N s a k n i
 |0,_,_=>rfl
 |N+1,n,i=>by
  unfold lv cC;rw[Qda s a k N]
theorem Qc9(s:Ba)(hs:s.length<=1000000)(a:Int):Yr s a=Yh s a:=by
 unfold Yr gG Yh gG;rw[bN,pA];have e:(!(K4 (a>=0)&&K4 (a<=Lb.wrap ((s.length:Int)-1))))=(K4 (a<0)||K4 (a>=(s.length:Int))):=by
  rw[Zr,show K4 (a<0)= !K4 (a>=0) by grind,show K4 (a>=(s.length:Int))= !K4 (a<=(s.length:Int)-1) by grind];simp_all
 simp only;rw[e];simp only[Qda];rfl
theorem Zu2(s:Ba)(a:Int)(n:Int)(out:List Int)(i:Int)(N:Nat)(h:i<n)(hl:out.length<=10)(hi:0<=i/\i<=10:=by omega):dW (N+1) s a n out i=Ld (Yh s a) λt=>cond t.2.2.1 (dW N s t.2.1 n (out++[t.1]) (i+1)) (K2 ([(0:Int),(0:Int),(0:Int)],(0:Int),Lc,())):=by
 rw[dW];rw[Zn (Zl h)]
 grind[Zb,Qp,Zr]
theorem rd1(s:Ba)(a:Int):dh s a 1=Ld (Yh s a) λt=>cond t.2.2.1 (K2 ([t.1],t.2.1,K3,())) (K2 ([(0:Int),(0:Int),(0:Int)],(0:Int),Lc,())):=by
 unfold dh;rw[show ea s a 1 ([]:List Int) 0=1+1 from rfl,Zu2 s a 1 [] 0 1 Aa Ae];congr 1
theorem rd2(s:Ba)(a:Int):dh s a 2=Ld (Yh s a) λt=>cond t.2.2.1 (Ld (Yh s t.2.1) λu=>cond u.2.2.1 (K2 ([t.1,u.1],u.2.1,K3,())) (K2 ([(0:Int),(0:Int),(0:Int)],(0:Int),Lc,()))) (K2 ([(0:Int),(0:Int),(0:Int)],(0:Int),Lc,())):=by
 unfold dh;rw[show ea s a 2 ([]:List Int) 0=2+1 from rfl,Zu2 s a 2 [] 0 2 Aa Ae];congr 1;funext t;rw[Zu2 s _ 2 _ _ 1 Aa Ae];rfl
theorem rd3(s:Ba)(a:Int):dh s a 3=Ld (Yh s a) λt=>cond t.2.2.1 (Ld (Yh s t.2.1) λu=>cond u.2.2.1 (Ld (Yh s u.2.1) λv=>cond v.2.2.1 (K2 ([t.1,u.1,v.1],v.2.1,K3,())) (K2 ([(0:Int),(0:Int),(0:Int)],(0:Int),Lc,()))) (K2 ([(0:Int),(0:Int),(0:Int)],(0:Int),Lc,()))) (K2 ([(0:Int),(0:Int),(0:Int)],(0:Int),Lc,())):=by
 unfold dh;rw[show ea s a 3 ([]:List Int) 0=3+1 from rfl,Zu2 s a 3 [] 0 3 Aa Ae];congr 1;funext t;rw[Zu2 s _ 3 _ _ 2 Aa Ae];have e:∀u:Int×Int×Bool×Unit,(cond u.2.2.1 (dW 2 s u.2.1 3 (([]++[t.1])++[u.1]) (0+1+1)) (K2 ([(0:Int),(0:Int),(0:Int)],(0:Int),Lc,())))=(cond u.2.2.1 (Ld (Yh s u.2.1) λv=>cond v.2.2.1 (K2 ([t.1,u.1,v.1],v.2.1,K3,())) (K2 ([(0:Int),(0:Int),(0:Int)],(0:Int),Lc,()))) (K2 ([(0:Int),(0:Int),(0:Int)],(0:Int),Lc,()))):=λu=>by
  rw[Zu2 s _ 3 _ _ 1 Aa Ae];rfl
 simp only[e]
theorem Qdk(h:f.2.2.2.1=[]):FOK f:=by simp_all[FOK]
theorem Zdy(f:Zj)(n:Int)(h:f.2.2.2.1=[])(t:Zj):Ld (cond (!K3) (K2 (Lc,())) (ao f)) (λt21=>bif(!K3)||(!t21.1)then K2 (Qc,(0:Int),Lc,())else K2 (f,n,K3,()))=Y8 t f n true:=by
 simp_all[Y8,Ze1,Qdk,Za7]
theorem Qt0(s:Ba)(i:Nat):Lb.wrap ((s.getD i 0).toNat:Int)=((s.getD i 0).toNat:Int)/\((s.getD i 0).toNat:Int)<=255:=by
 have:=(s.getD i 0).toNat_lt
 grind[Zr]
abbrev Qly(r:Zj×Int×Bool×Unit):Od Zj Int Bool:=Ld (cond (!r.2.2.1) (K2 (Lc,())) (ao r.1)) λt21=>bif(!r.2.2.1)||(!t21.1)then K2 (Qc,(0:Int),Lc,())else K2 (r.1,r.2.1,K3,())
theorem Qv3(s:Ba)(hs:s.length<=1000)(f t:Zj){x z:Int}(hx:0<=x/\x<=s)(hz:0<=z/\z<=s-x):Ld (cA s x t f z K3) Qly=gf s t f x z:=by
 unfold cA tD gf tD;rw[Zr (n:=s-x),Zr (n:=x+z),pI,Lf,Zp (Zm),Zb,Zb,pA];have a:FOK (f.1,f.2.1,f.2.2.1,(s.drop x.toNat).take ((x+z).toNat-x.toNat),f.2.2.2.2):=As
 simp_all[Qly,Ze1,Za7]
theorem Qv2(s:Ba)(hs:s.length<=1000)(f t:Zj)(k:Int){x:Int}(hx:0<=x/\x<=s):Ld (Wb s x k t f 0 K3) Qly=f7 s k t f x:=by
 unfold Wb f7;simp only[pI,pH];rw[Zr (n:=s-x)];cases (bits .and .i64 k (2:Int))==(2:Int)
 ·simp_all[Qv3]
 ·rw[pG,pG,Qc9 s Aa];obtain⟨⟨n,y,c,u⟩,e,h⟩:=Qfm s Aa x;rw[e];cases c
  ·rfl
  ·have h:=h rfl;simp only at h;simp only[pA,pI,pH,Lf];rw[Zr (n:=s-y)];by_cases a:n>s-y
   ·rw[Zn (Zl a)];unfold cA tD;rw[Zr (n:=s-y),Zn Ac];rfl
   ·rw[Zp (Zm a)]
    grind[Qv3]
theorem Qxg(s:Ba)(hs:s.length<=1000)(k:Int){x:Int}(hx:0<=x/\x<=s):Ld (sj s x k) Qly=oq s x k:=by
 unfold sj oq ld;rw[Qc9 s Aa,rd1,rd2];obtain⟨⟨n,y,c,u⟩,e,h⟩:=Qfm s Aa x;rw[e];simp only[pA];cases c
 ·cases (bits .and .i64 k (4:Int))==(4:Int)<;>rfl
 ·have h:=h rfl;simp only at h;simp only[pI,pH,pG,pJ];cases (bits .and .i64 k (4:Int))==(4:Int)
  ·simp only[pH,pA,pI];rw[Zb Ae,Zp Ai]
   grind[Qv2]
  ·simp only[pG];rw[Qc9 s Aa];obtain⟨⟨f,g,b,u2⟩,d,a⟩:=Qfm s Aa y;rw[d];simp only[pA];cases b
   ·rfl
   ·have a:=a rfl;simp only at a;simp only[pI,pH,pG,pA];rw[Zb Ae,Zn Ai,Zb Ae]
    grind[Qv2]
def fld(f:Zj)(l:List Int):Zj:=cond (f.1==(4:Int)) (f.1,l.getD (0:Int).toNat (0:Int),f.2.2.1,f.2.2.2.1,f.2.2.2.2.1,l.getD (Lt (1:Int) l).toNat (0:Int),f.2.2.2.2.2.2.1,l.getD (Lt (2:Int) l).toNat (0:Int),f.2.2.2.2.2.2.2.2) (cond (f.1==(5:Int)) (f.1,l.getD (0:Int).toNat (0:Int),f.2.2.1,f.2.2.2.1,f.2.2.2.2.1,l.getD (Lt (1:Int) l).toNat (0:Int),f.2.2.2.2.2.2) (cond ((f.1==(17:Int))||(f.1==(21:Int))) (f.1,l.getD (0:Int).toNat (0:Int),f.2.2.1,f.2.2.2.1,f.2.2.2.2.1,f.2.2.2.2.2.1,l.getD (Lt (1:Int) l).toNat (0:Int),f.2.2.2.2.2.2.2) (f.1,f.2.1,f.2.2.1,f.2.2.2.1,f.2.2.2.2.1,f.2.2.2.2.2.1,l.getD (0:Int).toNat (0:Int),f.2.2.2.2.2.2.2)))
theorem Qo8(f:Zj)(l:List Int):(fld f l).1=f.1/\(fld f l).2.2.2.1=f.2.2.2.1:=by
 unfold fld
 grind
theorem j1E{s:Ba}{l:List Int}{x:Int}{c:Bool}(t f:Zj)(e:dh s (Lb.wrap (a+1)) n=K2 (l,x,c,()))(hl:0<l.length):Ve s a t f n=Y8 t (fld f l) x c:=by
 have b:=Zst (k:=1) Aa hl;have d:=Zst (k:=2) Aa hl;unfold Ve dZ tF fld;rw[e,pA];simp only;cases h4:f.1==(4:Int)
 ·cases h5:f.1==(5:Int)
  ·cases h17:f.1==(17:Int)
   ·cases h21:f.1==(21:Int)
    ·simp_all[Zb]
    ·simp only[pH,pG,L9]
     grind[Zb]
   ·simp only[pH,pG,Bool.true_or]
    grind[Zb]
  ·simp only[pH,pG]
   grind[Zb]
 ·simp only[pG]
  grind[Zb]
theorem Qfl(s:Ba)(hs:s.length<=1000)(a:Int)(ha:0<=a/\a<s):xg s a=kN s a:=by
 obtain⟨V,W⟩:=Qt0 s a.toNat
 have j:Lb.wrap (a+1)=a+1:=Zr;have X:∀b:Int,Yr s b=Yh s b:=Qc9 s Aa;have Y:∀b:Int,0<=b->b<=1000-> ∃n x c,Yh s b=K2 (n,x,c,())/\(c=K3->(0<=n/\n<4611686018427387904)/\b<x/\x<=s):=λb Z h1=>by
  obtain⟨⟨n,x,c,u⟩,e,h⟩:=Qfm s Aa b;exact⟨n,x,c,e,λhc=>by have:=h hc;simp_all⟩
 unfold xg gH Za2 gG kN;rw[bN,pA,Zr (n:=s-1),Zl (p:=a>=0) ha.1,Zl (p:=a<=s-1),Zm (p:=a<0),Zm (p:=a>=s)];simp only[Lg,pI,pH,Lf,Lh];rw[Zb,Zb (λ_=>Aa),V,j];generalize hk:((s.getD a.toNat 0).toNat:Int)=k at W;have ab:0<=k:=Aa
 by_cases K:k>23
 ·rw[Zn (b:=K4 (k>23)) (Zl K)];have O:(k==4)=false:=Af
  have P:(k==5)=false:=Af
  have w:(k==16)=false:=Af
  have y:(k==20)=false:=Af
  have z:(k==17)=false:=Af
  have A:(k==21)=false:=Af
  have B:(k==18)=false:=Af
  have C:(k==19)=false:=Af
  have D:(k==22)=false:=Af
  have E:(k==23)=false:=Af
  unfold ng tF nh dD tF Xn;simp only[O,P,w,y,z,A,B,C,D,E,pH,bN,pA,Zl (show k>=8 by omega),Zm (show ¬k<=15 by omega),Lk];rfl
 rw[Zp (b:=K4 (k>23)) (Zm K),Zb];have J:∀b:Int,0<=b->b<=s-> ∃n x c,Yh s b=K2 (n,x,c,())/\(c=K3->b<x/\x<=s):=λb Z h1=>by
  grind
 obtain⟨L,M,g,m,v⟩:=J (a+1) Aa Aa;have Q:∀(f t:Zj)(n:Int)(b:Bool),(f.1≠4/\f.1≠5/\f.1≠8/\f.1≠17/\f.1≠21/\f.1≠18/\f.1≠22/\f.1≠16/\f.1≠20)->f.2.2.2.1=[]->Y8 t f n b=K2 (Qc,(0:Int),Lc,()):=λf t n b hf hd=>by
  grind[Y8,Za7,Qdk,Qi9]
 have S:k=4\/k=5\/k=16\/k=20\/k=17\/k=21\/k=18\/k=19\/k=22\/k=23\/(8<=k/\k<=15)\/(k=0\/k=1\/k=2\/k=3\/k=6\/k=7):=Aa
 unfold ng tF nh dD tF Xn jx;unfold bz d6;simp only[X,j,m,pA];have o:∃l,dh s (Lb.wrap (a+1)) 1=K2 (l,cond g M 0,g,())/\0<l.length/\(g=K3->l=[L]):=by
  rw[j,rd1,m];cases g
  all_goals simp
 obtain⟨l1,o,d,i⟩:=o;rcases S with h|h|h|h|h|h|h|h|h|h|h|h
 ·subst h;simp only[Ln,pG,pH,Lo,Lp,decide_false,decide_true,Li];cases g
  ·rw[j1E (l:=[0,0,0]) (x:=0) (c:=Lc) _ _ (by grind[rd3]) Ae];rfl
  have v:=v rfl;obtain⟨F,G,H,I,N⟩:=J M Aa Aa;simp only[pI,pH,I,pA];cases H
  ·rw[j1E (l:=[0,0,0]) (x:=0) (c:=Lc) _ _ (by rw[j,rd3,m];grind) Ae];rfl
  have N:=N rfl;obtain⟨n3,x3,c3,e3,g3⟩:=J G Aa Aa;simp only[pI,pH,e3,pA];cases c3
  ·rw[j1E (l:=[0,0,0]) (x:=0) (c:=Lc) _ _ (by rw[j,rd3,m];grind) Ae];rfl
  ·rw[j1E (l:=[L,F,n3]) (x:=x3) (c:=K3) _ _ (by rw[j,rd3,m];grind) Ae];exact Zdy _ _ (by rfl) _
 ·subst h;simp only[Ln,pG,pH,Lo,Lp,decide_false,decide_true,Li,Lk];cases g
  ·rw[j1E (l:=[0,0,0]) (x:=0) (c:=Lc) _ _ (by grind[rd2]) Ae];rfl
  have v:=v rfl;obtain⟨F,G,H,I,N⟩:=J M Aa Aa;simp only[pI,pH,I,pA];cases H
  ·rw[j1E (l:=[0,0,0]) (x:=0) (c:=Lc) _ _ (by rw[j,rd2,m];grind) Ae];rfl
  ·rw[j1E (l:=[L,F]) (x:=G) (c:=K3) _ _ (by rw[j,rd2,m];grind) Ae];exact Zdy _ _ (by rfl) _
 ·subst h;simp only[Ln,pG,pH,Lo,Lp,decide_false,decide_true,Li,Lk];rw[j1E _ _ o d];cases g
  ·rfl
  ·rw[i rfl];exact Zdy _ _ (by rfl) _
 ·subst h;simp only[Ln,pG,pH,Lo,Lp,decide_false,decide_true,Li,Lk];rw[j1E _ _ o d];cases g
  ·rfl
  ·rw[i rfl];exact Zdy _ _ (by rfl) _
 ·subst h;simp only[Ln,pG,pH,Lo,Lp,decide_false,decide_true,Li,Lk];cases g
  ·rw[j1E (l:=[0,0,0]) (x:=0) (c:=Lc) _ _ (by grind[rd2]) Ae];rfl
  have v:=v rfl;obtain⟨F,G,H,I,N⟩:=J M Aa Aa;simp only[pI,pH,I,pA];cases H
  ·rw[j1E (l:=[0,0,0]) (x:=0) (c:=Lc) _ _ (by rw[j,rd2,m];grind) Ae];rfl
  ·rw[j1E (l:=[L,F]) (x:=G) (c:=K3) _ _ (by rw[j,rd2,m];grind) Ae];exact Zdy _ _ (by rfl) _
 ·subst h;simp only[Ln,pG,pH,Lo,Lp,decide_false,decide_true,Li,Lk];cases g
  ·rw[j1E (l:=[0,0,0]) (x:=0) (c:=Lc) _ _ (by grind[rd2]) Ae];rfl
  have v:=v rfl;obtain⟨F,G,H,I,N⟩:=J M Aa Aa;simp only[pI,pH,I,pA];cases H
  ·rw[j1E (l:=[0,0,0]) (x:=0) (c:=Lc) _ _ (by rw[j,rd2,m];grind) Ae];rfl
  ·rw[j1E (l:=[L,F]) (x:=G) (c:=K3) _ _ (by rw[j,rd2,m];grind) Ae];exact Zdy _ _ (by rfl) _
 ·subst h;simp only[Ln,pG,pH,Lo,Lp,decide_false,decide_true,Li,Lk];rw[j1E _ _ o d,Zb Ai];cases g
  ·rfl
  ·rw[i rfl];exact Zdy _ _ (by rfl) _
 ·subst h;simp only[Ln,pG,pH,Lo,Lp,decide_false,decide_true,Li,Lk];rw[j1E _ _ o d,Zb Ai];cases g
  ·rfl
  ·rw[i rfl];exact Zdy _ _ (by rfl) _
 ·subst h;simp only[Ln,pG,pH,Lo,Lp,decide_false,decide_true,Li,Lk];rw[j1E _ _ o d,Zb Ai];cases g
  ·rfl
  ·rw[i rfl];exact Zdy _ _ (by rfl) _
 ·subst h;simp only[Ln,pG,pH,Lo,Lp,decide_false,decide_true,Li,Lk];rw[j1E _ _ o d,Zb Ai];cases g
  ·rfl
  ·rw[i rfl];exact Zdy _ _ (by rfl) _
 ·have O:(k==4)=false:=Af
  have P:(k==5)=false:=Af
  have w:(k==16)=false:=Af
  have y:(k==20)=false:=Af
  have z:(k==17)=false:=Af
  have A:(k==21)=false:=Af
  have B:(k==18)=false:=Af
  have C:(k==19)=false:=Af
  have D:(k==22)=false:=Af
  have E:(k==23)=false:=Af
  simp only[O,P,w,y,z,A,B,C,D,E,pH,bN,pA,Zl (show k>=8 by omega),Zl (show k<=15 by omega),Zl (show k<16 by omega),Lg,pG];have e:=Qxg s hs k (x:=a+1) Aa;rw[<-e];obtain⟨r,U⟩:∃r,oq s (a+1) k=K2 r:=by
   obtain⟨r,U,-⟩:=Z8y s hs (a+1) Aa k;exact⟨r,U⟩
  rw[e,U];cases hr:sj s (a+1) k with
  |none=>grind
  |some q=>
   grind
 ·rcases h with h|h|h|h|h|h<;>subst h<;>simp only[Ln,pH,Lo,Lp,decide_false,decide_true,Li,Lk,bN,pA,Int.reduceLE]<;>(rw[j1E _ _ o d];exact(Q _ _ _ _ (by rw[(Qo8 _ _).1];simp) (Qo8 _ _).2).symm)
theorem Zta(s:Ba)(hs:s.length<=1000):∀(N a:Nat)(out:List Zj),a<=s->bR N s out (a:Int)=J9 N s out (a:Int)
 |0,_,_,_=>rfl
 |N+1,a,out,d=>by
  unfold bR gG J9;by_cases c:a<s
  ·rw[Zn (Zl),Zn (Zl),Zb,Zb,Zs c];cases ((s.getD (a:Int).toNat 0).toNat:Int)==(0:Int)
   ·rw[pH,pH,Qfl s hs _ Aa];obtain⟨⟨f,n,b,u⟩,e,h⟩:=Z8a s hs (a:Int);rw[e];cases b
    ·rfl
    ·have h:=h rfl;simp only at h;simp only[pA,pI,pH];rw[show n=((n.toNat:Nat):Int) by omega,Zta s hs N n.toNat _ Aa]
   ·exact Zta s hs N (a+1) _ Aa
  ·rw[Zp (Zm),Zp (Zm)];rfl
theorem Qlx(s:Ba)(hs:s.length<=1000):zF s=Wh s:=Zta s hs _ 0 [] Aa
abbrev Zix(c:Ze):Int:=c.2.2.2.2.2.2.2.2.2.2.2.2.2.2.2.2.2.1
abbrev cTl(c:Ze):=c.2.2.2.2.2.2.2.2.2.2.2.2.2
def clV(c:Ze)(n:Int):Ze:=cond ((Zix c==(0:Int))&&inB n 1 255) (c.1,c.2.1,c.2.2.1,c.2.2.2.1,c.2.2.2.2.1,c.2.2.2.2.2.1,c.2.2.2.2.2.2.1,c.2.2.2.2.2.2.2.1,c.2.2.2.2.2.2.2.2.1,c.2.2.2.2.2.2.2.2.2.1,c.2.2.2.2.2.2.2.2.2.2.1,c.2.2.2.2.2.2.2.2.2.2.2.1,c.2.2.2.2.2.2.2.2.2.2.2.2.1,c.2.2.2.2.2.2.2.2.2.2.2.2.2.1,c.2.2.2.2.2.2.2.2.2.2.2.2.2.2.1,c.2.2.2.2.2.2.2.2.2.2.2.2.2.2.2.1,c.2.2.2.2.2.2.2.2.2.2.2.2.2.2.2.2.1,n,c.2.2.2.2.2.2.2.2.2.2.2.2.2.2.2.2.2.2) c
theorem clS(h:Q5 K c)(hK:K<=1000000)(n:Int):wt c n=K2 (clV c n,()):=by
 unfold wt tJ clV;rw[Ji h hK,pA,inQ];simp only[bA,bA2];cases (Zix c==(0:Int))&&inB n 1 255<;>rfl
theorem clI(h:Q5 K c)(hK:K<=1000000)(n:Int):vm c n=K2 (clV c n,()):=by
 unfold vm tJ clV;rw[Wt h hK,pA,show Z1 n 1 255=K2 (inB n 1 255,())from rfl];simp only[bA,bA2];cases (Zix c==(0:Int))&&inB n 1 255<;>rfl
def hpF:Ze->List Zj->Ze×Int|x,[]=>(x,0)|x,f::r=>cond ((Zeq x f).2.1 !=(0:Int)) (clV x (Zeq x f).2.1,(Zeq x f).2.1) (hpF (Zeq x f).1 r)
theorem Qmh(h:Q5 K c)(hf:FOK f)(h25:25<=K)(hK:K<=390000):Q5 (K+f.2.2.2.1+2) (Zeq c f).1:=by
 obtain⟨y,e,a⟩:=Z8l h hf h25 hK
 grind[Quk]
theorem Qdn(f:Zj)(r:List Zj):gr (f::r)=f.2.2.2.1+2+gr r:=by unfold gr;simp
theorem hpS(l:List Zj)(hf:∀f∈l,FOK f)(hl:l.length<=1000):∀(N i K:Nat)(t x:Ze),l-i<N->i<=l->Q5 K x->25<=K->K+gr (l.drop i)<=390000->
  fB N t x l (i:Int)=K2 (((hpF x (l.drop i)).1,(hpF x (l.drop i)).2,()),())/\fj N t l x l (i:Int)=K2 ((hpF x (l.drop i)).1,(hpF x (l.drop i)).2,())
 |0,_,_,_,_,h,_,_,_,_=>Aa
 |N+1,i,K,t,x,n,o,hx,c,k=>by
  unfold fB gG gN fj gG gN ur;by_cases e:i<l
  ·have j:=Qy (d:=Qc) e;have g:=hf _ (Z2 (d:=Qc) e);rw[j,Qdn]at k;rw[j,Zn (Zl),Zn (Zl),Zb,Zb,Zs e,show(i:Int).toNat=i from rfl,Quk hx g c Aa,Qwu hx g c Aa];simp only[Xr,pA];unfold hpF;cases hc:(Zeq x (l.getD i Qc)).2.1 !=(0:Int)
   ·have m:=Qmh hx g c Aa;obtain⟨a,b⟩:=hpS l hf hl N (i+1) _ t (Zeq x (l.getD i Qc)).1 Aa Aa m Aa Aa;exact⟨a,b⟩
   ·rw[clS hx Aa,clI hx Aa];simp_all
  ·rw[Zp (Zm),Zp (Zm),Lx Aa];exact⟨rfl,rfl⟩
def Qoa(m:Oc (List Zj) Bool):List Zj×Bool×Unit:=match m with|some y=>y|none=>([],Lc,())
def hpV(c:Ze)(s:Ba):Ze×Int:=cond (bP c&& !(Zix c !=(0:Int))) (cond (Qoa (Wh s)).2.1 (hpF c (Qoa (Wh s)).1) (clV c 7,7)) (c,Zix c)
theorem hpE(h:Q5 K c)(h25:25<=K)(s:Ba)(hs:s.length<=1000)(hK:K+2*s<=390000):rO c s=K2 (((hpV c s).1,(hpV c s).2,()),())/\rz c s=K2 ((hpV c s).1,(hpV c s).2,()):=by
 obtain⟨⟨l,b,u⟩,e,g,i,f⟩:=Qh3 s hs;simp only at g i f;have j:Qoa (Wh s)=(l,b,()):=by rw[e];rfl
 unfold hpV;rw[j];unfold rO gH rz gH;rw[Ji h,pA,Zb2 h,xv h,Zb2 h,Wt h,Qlx s hs,e];unfold gz ku;simp only[bO,pA];cases hc:bP c
 ·simp_all
 cases hcl:Zix c !=(0:Int)
 ·simp only[pI,Ls,Lg,Lf,pH,pG,Lk,Lh];cases b
  ·rw[clS h Aa,clI h Aa];simp_all
  ·obtain⟨a,d⟩:=hpS l f Aa (dK X9 c l 0) 0 K X9 c (by simp[dK]) Aa h h25 Ag;exact⟨a,d⟩
 simp_all
theorem Qra(x:Ze)(id:Int):cTl (fin x id)=cTl x:=by
 unfold fin xH;cases ovB x.1 (atV x id)
 ·rfl
 ·cases cJ id<;>rfl
theorem Qq0(c:Ze)(id:Int):cTl (fH c id).2=cTl c:=by
 unfold fH Zzp xH;cases K4 (0<=Z8 c.2.2.2.1 id)
 ·cases eg c.1 id
  ·cases Zaw c id
   all_goals grind
  ·rfl
 ·rfl
theorem Qia(c:Ze)(id:Int):0<=(fH c id).1/\(fH c id).1<=7:=by
 unfold fH;cases K4 (0<=Z8 c.2.2.2.1 id)
 ·cases eg c.1 id
  ·cases Zaw c id<;>(simp only[pG,pH];omega)
  simp_all
 simp_all
def TC(c:Ze)(r:Ze×Int×Unit):Prop:=cTl r.1=cTl c/\0<=r.2.1/\r.2.1<=7
theorem Z1b{g can:Bool}{k:Ze->Ze×Int×Unit}(hk:∀x,cTl x=cTl c->TC c (k x)):TC c (pre c f g can k):=by
 unfold pre;cases (bP c&&Xa f)&&g
 ·exact⟨rfl,Ag,Ag⟩
 cases can
 ·exact⟨rfl,Ag,Ag⟩
 cases (fH c f.2.1).1==0
 ·have:=Qia c f.2.1;exact⟨rfl,Ag,Ag⟩
 ·exact hk _ (Qq0 c f.2.1)
theorem rdC{fin:Bool}:Pc (Yp r o d fin) λy=>0<=y.2.1/\y.2.1<=7:=by
 unfold Yp tD;refine Pc.skip λa=>Pc.skip λb=>Pc.if (Pc.pure ⟨Ab,Ab⟩) ?_;simp only[Zi8,pA];have j:∀t x,Pc (Yq o d r t x) λy=>0<=y.2.1/\y.2.1<=7:=λt x=>by
  unfold Yq bD;exact Pc.skip λc=>Pc.skip λe=>Pc.if (Pc.pure ⟨Ab,Ab⟩) (Pc.pure ⟨Ab,Ab⟩)
 cases Zhd r (Lb.wrap (o+d)) fin
 all_goals simp_all[Pc.if,Pc.pure]
theorem rrC{f:Int}:Pc (Kl r k f) λy=>0<=y.2.1/\y.2.1<=7:=by
 unfold Kl gH;refine Pc.skip λa=>Pc.skip λb=>Pc.skip λc=>Pc.skip λd=>Pc.if (Pc.pure ⟨Ab,Ab⟩) ?_;simp only[Zi8,pA];cases Zhd r f K3
 all_goals simp_all[Pc.if,Pc.pure]
theorem Qe6{m:Oc Zu Int}(h:Pc m λy=>0<=y.2.1/\y.2.1<=7):0<=(Z2h m).2.1/\(Z2h m).2.1<=7:=by
 unfold Z2h;cases m with
 |none=>simp_all
 |some y=>exact h y rfl
theorem Zzu(h:cTl x=cTl c)(id:Int):TC c (fin x id,0,()):=⟨(Qra x id).trans h,Le _,Ab⟩
theorem Qg1(c:Ze)(a:0<=n)(b:n<=7):TC c (c,n,()):=⟨rfl,a,b⟩
theorem Qrt(c:Ze)(f:Zj):TC c (Z83 c f):=by
 unfold Z83;cases f.1==17
 ·cases f.1==21
  ·simp only[pH];cases bP c&&Xa f
   ·simp_all[Qg1]
   cases f.1==16
   ·cases f.1==18
    ·cases (f.1==20)||(f.1==22)
     all_goals simp_all[Qg1]
    ·refine⟨?_,Le _,Ac⟩;show cTl (Z70 c f.2.2.2.2.2.2.2.2.1 f.2.2.2.2.2.2.1)=_;unfold Z70
     grind
   ·exact⟨rfl,Le _,Ac⟩
  ·exact Z1b (k:=λx=>(x,0,())) λx h=>⟨h,Le _,Ab⟩
 ·exact Z1b (k:=mlX f) λx h=>⟨h,Le _,by simp_all[mlX]⟩
theorem Qey(h:cTl x=cTl c)(id:Int)(y):cTl (kL x id y)=cTl c:=(show cTl (kL x id y)=cTl x from rfl).trans h
theorem Qkp(h:cTl x=cTl c)(y):cTl (re x y)=cTl c:=(show cTl (re x y)=cTl x from rfl).trans h
theorem Qsv(c:Ze)(f:Zj)(h:cTl x=cTl c):TC c (Z29 f x):=by
 unfold Z29;cases (Z69 x f).2.1
 ·simp_all[Zzu]
 ·rw[pG];exact Zzu (Qey h _ _) _
theorem Qsq(c:Ze)(f:Zj)(h:cTl x=cTl c):TC c (Z1r c f x):=by
 have hv:0<=(Zsg x f).2.1/\(Zsg x f).2.1<=7:=Qe6 rrC;unfold Z1r;generalize Zsg x f=r at hv⊢;cases flB x (atV x f.2.1) (Zbw x f)
 ·simp_all[Qg1]
 rw[pG];cases r.2.1==0
 ·simp_all[Qg1]
 rw[pG];cases (r.1.1==4)&&((atV x f.2.1).2.2.2.1.1 !=4)
 ·rw[pH];exact Zzu (Qey (Qkp h _) _ _) _
 ·rw[pG];exact Zzu (Qey (Qkp h _) _ _) _
theorem Qlw(c:Ze)(f:Zj)(h:cTl x=cTl c):TC c (Zi3 c f x):=by
 have hv:=Qe6 (rdC (r:=(atV x f.2.1).2.2.2.1) (o:=f.2.2.1) (d:=f.2.2.2.1) (fin:=f.2.2.2.2.1));unfold Zi3;generalize Z2h (Yp (atV x f.2.1).2.2.2.1 f.2.2.1 f.2.2.2.1 f.2.2.2.2.1)=r at hv⊢;cases flB x (atV x f.2.1) (nbV (atV x f.2.1).2.2.2.1 (Lb.wrap (f.2.2.1+f.2.2.2.1)))
 ·simp_all[Qg1]
 rw[pG];cases r.2.1==0
 ·simp_all[Qg1]
 ·rw[pG];exact Zzu (Qey (Qkp h _) _ _) _
theorem Qre(c:Ze)(f:Zj):TC c (Zeq c f):=by
 unfold Zeq;cases f.1==8
 ·cases f.1==4
  ·cases f.1==5
   all_goals simp_all[Qrt,Z1b,Qsv]
  simp_all[Z1b,Qsq]
 simp_all[Z1b,Qlw]
structure DQ(c:Ze)(f:Zj):Prop where
 inv:Q5 30000 c
 fok:FOK f
 key:∃v,KC v c
def uA(c:Ze)(s1:Zf)(k:Int):Zf:=cond (k==(4:Int)) (s1.1,s1.2.1,s1.2.2.1,s1.2.2.2.1,s1.2.2.2.2.1,s1.2.2.2.2.2.1,s1.2.2.2.2.2.2.1,s1.2.2.2.2.2.2.2.1,Lc,s1.2.2.2.2.2.2.2.2.2) (cond (k==(5:Int)) (s1.1,s1.2.1,s1.2.2.1,s1.2.2.2.1,s1.2.2.2.2.1,s1.2.2.2.2.2.1,s1.2.2.2.2.2.2.1,s1.2.2.2.2.2.2.2.1,s1.2.2.2.2.2.2.2.2.1,Lc,s1.2.2.2.2.2.2.2.2.2.2) (cond (k==(17:Int)) (s1.1,s1.2.1,s1.2.2.1,s1.2.2.2.1,(cond (wcB s1) (rwV s1.2.2.2.2.1 (Znn c) (Zao c)) s1.2.2.2.2.1),s1.2.2.2.2.2.1,s1.2.2.2.2.2.2.1,s1.2.2.2.2.2.2.2.1,s1.2.2.2.2.2.2.2.2.1,s1.2.2.2.2.2.2.2.2.2.1,Lc,s1.2.2.2.2.2.2.2.2.2.2.2) (cond (k==(21:Int)) (s1.1,s1.2.1,clB s1.2.2.1,s1.2.2.2) s1)))
theorem Qt8(c:Ze)(s:Zf)(k:Int):Zag c s k=K2 ((uA c s k,()),()):=by
 unfold Zag tB tC tE tO uA;rw[lwE,clE];cases k==(4:Int)
 ·cases k==(5:Int)
  ·cases k==(17:Int)
   ·grind
   ·simp only[pH,pG,pA];cases hw:wcB s
    ·rfl
    ·cases hm:mrB s.2.2.2.2.1
     ·simp_all[rwV,Z63]
     ·cases ho:Zva s.2.2.2.2.1 (Znn c) (Zao c)
      all_goals simp_all[rwV]
  ·rfl
 ·rfl
theorem Z5n(c:Ze)(s:Zf)(k:Int):(uA c s k).1=s.1:=by
 unfold uA;cases k==(4:Int)<;>cases k==(5:Int)<;>cases k==(17:Int)<;>cases k==(21:Int)<;>rfl
theorem Zzi(c:Ze)(s:Zf)(k:Int):(uA c s k).2.1=s.2.1:=by
 unfold uA;cases k==(4:Int)<;>cases k==(5:Int)<;>cases k==(17:Int)<;>cases k==(21:Int)<;>rfl
theorem Zzh(c:Ze)(s:Zf)(k:Int):(uA c s k).2.2.2.1=s.2.2.2.1:=by
 unfold uA;cases k==(4:Int)<;>cases k==(5:Int)<;>cases k==(17:Int)<;>cases k==(21:Int)<;>rfl
theorem Z8c(h:Xc K s)(c:Ze)(k:Int):Xc K (uA c s k):=⟨by rw[Zzi];exact h.snd,by rw[Zzh];exact h.rcv⟩
theorem Ql1(c:Ze)(s:Zf)(k:Int):wcB (uA c s k)=wcB s:=by
 unfold uA;cases k==(4:Int)<;>cases k==(5:Int)<;>cases k==(17:Int)<;>cases k==(21:Int)<;>rfl
abbrev Qwe(c:Ze)(l:List Zf):Ze:=(c.1,c.2.1,c.2.2.1,l,c.2.2.2.2)
def mkC(c:Ze)(f:Zj):Ze:=cond (f.1==(16:Int)) (c.1,c.2.1,c.2.2.1,c.2.2.2.1,c.2.2.2.2.1,rwV c.2.2.2.2.2.1 (Znn c) (Zao c),c.2.2.2.2.2.2.1,c.2.2.2.2.2.2.2.1,c.2.2.2.2.2.2.2.2.1,c.2.2.2.2.2.2.2.2.2.1,Lc,c.2.2.2.2.2.2.2.2.2.2.2) (cond (f.1==(18:Int)) (cond f.2.2.2.2.2.2.2.2.1 (c.1,c.2.1,c.2.2.1,c.2.2.2.1,c.2.2.2.2.1,c.2.2.2.2.2.1,c.2.2.2.2.2.2.1,c.2.2.2.2.2.2.2.1,c.2.2.2.2.2.2.2.2.1,raV c.2.2.2.2.2.2.2.2.2.1,c.2.2.2.2.2.2.2.2.2.2.1,c.2.2.2.2.2.2.2.2.2.2.2.1,Lc,c.2.2.2.2.2.2.2.2.2.2.2.2.2) (c.1,c.2.1,c.2.2.1,c.2.2.2.1,c.2.2.2.2.1,c.2.2.2.2.2.1,c.2.2.2.2.2.2.1,c.2.2.2.2.2.2.2.1,raV c.2.2.2.2.2.2.2.2.1,c.2.2.2.2.2.2.2.2.2.1,c.2.2.2.2.2.2.2.2.2.2.1,Lc,c.2.2.2.2.2.2.2.2.2.2.2.2)) (cond (f.1==(20:Int)) (c.1,c.2.1,c.2.2.1,c.2.2.2.1,clB c.2.2.2.2.1,c.2.2.2.2.2) (cond (f.1==(22:Int)) (cond f.2.2.2.2.2.2.2.2.1 (c.1,c.2.1,c.2.2.1,c.2.2.2.1,c.2.2.2.2.1,c.2.2.2.2.2.1,c.2.2.2.2.2.2.1,(c.2.2.2.2.2.2.2.1.1,c.2.2.2.2.2.2.2.1.2.1,(-1:Int),c.2.2.2.2.2.2.2.1.2.2.2),c.2.2.2.2.2.2.2.2) (c.1,c.2.1,c.2.2.1,c.2.2.2.1,c.2.2.2.2.1,c.2.2.2.2.2.1,(c.2.2.2.2.2.2.1.1,c.2.2.2.2.2.2.1.2.1,(-1:Int),c.2.2.2.2.2.2.1.2.2.2),c.2.2.2.2.2.2.2)) (ite (0<=Z8 c.2.2.2.1 f.2.1) (Qwe c (c.2.2.2.1.set (Z8 c.2.2.2.1 f.2.1).toNat (uA c (c.2.2.2.1.getD (Z8 c.2.2.2.1 f.2.1).toNat Zc) f.1))) c))))
theorem mkE(h:Q5 K c)(hK:K<=1000000)(f:Zj):xK c f=K2 (cond (bP c) (mkC c f) c,()):=by
 have g:=h.str.len;obtain⟨i,-,j⟩:=qt (l:=c.2.2.2.1) Aa f.2.1;unfold xK tD tF tG tL tO tS tU tW mkC;rw[Ji h hK,Zb2 h hK,pA,pA];cases bP c
 ·rfl
 ·simp only[pI,pH,pG,ttE,alE,clE,pA,V8 h hK];cases f.1==(16:Int)
  ·cases f.1==(18:Int)
   ·cases f.1==(20:Int)
    ·cases f.1==(22:Int)
     ·simp only[pH];by_cases a:0<=Z8 c.2.2.2.1 f.2.1
      ·have b:=h.str.all _ (Z2 (d:=Zc) (show(Z8 c.2.2.2.1 f.2.1).toNat<c.2.2.2.1.length by omega));have e:(uA c (c.2.2.2.1.getD (Z8 c.2.2.2.1 f.2.1).toNat Zc) f.1).1=f.2.1:=by simp_all[Z5n]
       rw[if_pos a,if_pos a];simp only[pG,Qt8,pA];rw[Zfq h.str (Z8c b c f.1) hK (by rw[e];exact a),e];rfl
      simp_all[if_neg]
     ·cases f.2.2.2.2.2.2.2.2.1<;>rfl
    ·rfl
   ·cases f.2.2.2.2.2.2.2.2.1<;>rfl
  ·rfl
theorem Zym(f:Zj):Wa f=K2 ((((f.1==(4:Int))||(f.1==(5:Int)))||(f.1==(8:Int)))||((f.1==(17:Int))||(f.1==(21:Int))),()):=by
 grind[Wa,af]
theorem Z6f(h:Q5 K c)(hK:K<=1000000)(f:Zj)(h17:f.1=17-> ∀s∈c.2.2.2.1,s.1=f.2.1->wcB s=K3):xl c f=K2 (cond (bP c) (mkC c f) c,()):=by
 have v:=h.str.len;obtain⟨w,-,r⟩:=qt (l:=c.2.2.2.1) Aa f.2.1;unfold xl;simp only[Xr,Ke];rw[Wt h hK,pA,uC Aa,QD Aa,pA];unfold oA gG gH gK tB tC tD tE tF tG tL tO tS tU tW Jc;simp only[xv h hK,Zb2 h hK,pA,Zym,bO,Xr,Ke,Z6w,Zwa,Qqr,rwE,raE,clE];cases bP c
 ·rfl
 ·simp only[pI,Lf,pG];by_cases m:0<=Z8 c.2.2.2.1 f.2.1
  ·have t:=Z2 (d:=Zc) (show(Z8 c.2.2.2.1 f.2.1).toNat<c.2.2.2.1.length by omega);rw[Zm (p:=Z8 c.2.2.2.1 f.2.1<0),Lk,pH,Zb];unfold mkC;rw[if_pos m];generalize y:(Z8 c.2.2.2.1 f.2.1).toNat=j at*
   have n:j<c.2.2.2.1.length:=Aa
   have u:∀x:Zf,(c.2.2.2.1.set j x).getD j Zc=x:=λx=>by
    rw[Mo,List.getElem?_set_self n];rfl
   by_cases a:f.1=16
   ·rw[a];rfl
   by_cases b:f.1=18
   ·rw[b];cases f.2.2.2.2.2.2.2.2.1<;>rfl
   by_cases e:f.1=20
   ·rw[e];rfl
   by_cases g:f.1=22
   ·rw[g];cases f.2.2.2.2.2.2.2.2.1<;>rfl
   simp only[beq_false_of_ne a,beq_false_of_ne b,beq_false_of_ne e,beq_false_of_ne g,pH];by_cases o:f.1=4
   ·rw[o];rfl
   by_cases q:f.1=5
   ·rw[q];rfl
   by_cases i:f.1=17
   ·have z:=h17 i _ t (r m);rw[i];simp only[u,L3];unfold uA
    grind
   by_cases k:f.1=21
   ·rw[k];rfl
   simp only[beq_false_of_ne o,beq_false_of_ne q,beq_false_of_ne i,beq_false_of_ne k,pH,uA,Z9v];cases (f.1==8)<;>rfl
  ·rw[Zl (p:=Z8 c.2.2.2.1 f.2.1<0),Mg];unfold mkC;rw[if_neg m];by_cases a:f.1=16
   ·rw[a];rfl
   by_cases b:f.1=18
   ·rw[b];cases f.2.2.2.2.2.2.2.2.1<;>rfl
   by_cases e:f.1=20
   ·rw[e];rfl
   by_cases g:f.1=22
   ·rw[g];cases f.2.2.2.2.2.2.2.2.1<;>rfl
   simp only[beq_false_of_ne a,beq_false_of_ne b,beq_false_of_ne e,beq_false_of_ne g,pH]
   grind
end
end Go.Proofs.YtahnlnkboamdmaaGreatDoor

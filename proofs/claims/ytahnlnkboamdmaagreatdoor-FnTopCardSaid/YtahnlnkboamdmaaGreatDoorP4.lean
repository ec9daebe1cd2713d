/- No condition. -/
import Derived.Test.YtahnlnkboamdmaaGreatDoorP3
set_option linter.all false
namespace Go.Proofs.YtahnlnkboamdmaaGreatDoor
noncomputable section
open Go.Am
set_option maxRecDepth 100000
open Bool renaming true→K2,false→La,or_eq_false_iff→Lg,and_false→Lm,not_eq_false'→Lo,not_false→Lp,not_eq_true'→Lr,or_self→Ls,and_true→Lt,false_or→Lu,and_self→Lw,false_and→Lx
open Int renaming le_refl→K3,le_of_eq→Lj,reduceBEq→Lq,natCast_zero→Ly,add_zero→L6,eq_ofNat_of_zero_le→L7,toNat_of_nonneg→L8
open Option renaming some→K4
open Go renaming IntKind→Lb
open IntKind renaming i64→Lc,u8→L9
open List renaming mem_cons_of_mem→Ld,mem_cons_self→Lf,drop_zero→Lh,mem_cons→Li,mem_append→Lk,mem_iff_getElem→Lv,foldl_cons→Lz,length_pos_iff→L0,length_set→L1,mem_nil_iff→L2,drop_eq_nil_of_le→L4,all_eq_true→Ma,cons_append→Mb,getD_cons_zero→Mc,getElem_set→Md,length_cons→Me,mem_flatMap→Mf,mem_of_mem_drop→Mg,nil_append→Mh,pairwise_map→Mi,replicate→Mj
open Nat renaming le_refl→Le,le_trans→Mk,zero_le→Ml
open Decidable renaming decide→Ll
open BitVec renaming ofInt→Ln
open Iff renaming rfl→L3
open Go.Lib renaming itoa→L5
open List.Pairwise renaming nil→Mm
variable{n K S id b b':Int}{l:List Zi}{fs fs':List Zj}{i K':Nat}{w:Ql}{a:Qu}{c d:Ze}{s:Zf}{g:Zf->Int}{x:Zk}{r:Zu}{o:ks}
theorem Qml{α:Type}{l:List α}{d:α}(h:i<l):l.getD i d=l[i]:=by simp[h]
theorem Z3j{l:List Int}(h:ZX l=K2)(i:Nat){v:Int}(h0:0<=v)(h1:v<=255):ZX (l.set i v)=true:=by
 grind[ZX]
theorem Qkh{r:Q2}(hl:r.2.2.2.1.length<=1048576)(p:bp r.1=K4 (K2,()))(l:r.2.2.2.1=r.1)(b0:0<=r.2.1)(be:r.2.1<=r.2.2.1)(sz:r.2.2.1-r.2.1<=r.1)(em:r.2.2.1<=4611686018427387903)(c:ZX r.2.2.2.1=K2):pw r=true:=by
 have e:=(zK r hl).1;unfold aP at e;rw[p,pA]at e;have g:((((((!K2)||(r.2.2.2.1 !=r.1))||(Ll (r.2.1<(0:Int))))||(Ll (r.2.2.1<r.2.1)))||(Ll ((Lc.wrap (r.2.2.1-r.2.1))>r.1)))||(Ll (r.2.2.1>(4611686018427387903:Int))))=false:=by
  grind[Zr]
 have a:=Qeo r hl (Vg r 0) 0 (by simp[Vg]) Aa
 grind
theorem Z4e{r:Q2}(hl:r.2.2.2.1.length<=1048576)(h:pw r=K2):ZX r.2.2.2.1=true:=by
 have f:=(Z9t hl h).cell;unfold ZX;rw[Ma];intro x hx;obtain⟨i,a,rfl⟩:=Lv.1 hx;simp_all
theorem Z4x(d:Ba)(r t:Q2)(n:Int):∀(N:Nat)(x:Q2)(i:Int),ZX x.2.2.2.1=K2->Pc (J1 N d r t x n i) λy=>ZX y.1.2.2.2.1=K2/\y.2.1=n
 |0,_,_,_=>Pc.none
 |N+1,x,i,h=>by
  unfold J1;refine Pc.ite (λ_=>Pc.guard (Pc.guard (Pc.guard (Z4x d r t n N _ _ ?_)))) λ_=>Pc.pure ⟨h,rfl⟩;have:=(d.getD i.toNat 0).toNat_lt
  grind[Z3j,Zr]
theorem Qvf{r:Q2}(hl:r.2.2.2.1.length<=1048576)(h:pw r=K2)(d:Ba)(hd:d.length<=1048576):Pc (iE r d) λy=>pw y.1=K2/\y.1.1=r.1/\y.1.2.1=r.2.1/\y.1.2.2.1=r.2.2.1+y.2.1/\(0<=y.2.1/\y.2.1<=d)/\y.1.2.2.2.1=r.2.2.2.1.length:=λy e=>by
 have R:=Z9t hl h;obtain⟨j,n,f,g,i,k⟩:=Zvh r d hl hd (by have:=R.b0;have:=R.be;omega) R.eM;have c:ZX y.1.2.2.2.1=K2/\y.2.1=min (min (Lc.wrap (r.1- (Lc.wrap (r.2.2.1-r.2.1)))) (Lc.wrap ((4611686018427387903:Int)-r.2.2.1))) d:=by
  unfold iE ZL at e;rw[Zn5 r hl,(zK r hl).1,h]at e;simp only[pA,pI,pH]at e;exact Z4x d r Zfw _ _ _ _ (Z4e hl h) y e
 rw[f]at e;cases e;obtain⟨a,b⟩:=c;have:=R.b0;have:=R.be;have:=R.sz;have:=R.size;have:=R.eM
 rw[Zr (n:=r.2.2.1-r.2.1),Zr,Zr]at b;simp only at a b;refine⟨Qkh Ab (Z1p (r:=r) hl h) (by simp only;have:=R.len;omega) R.b0 Ab Ab Ab a,rfl,rfl,rfl,⟨Int.natCast_nonneg _,Int.ofNat_le.2 g⟩,i⟩
theorem Qdb(n:Int)(r t:Q2):∀(N:Nat)(x:Q2)(i:Int),ZX x.2.2.2.1=K2->x.1=r.1->x.2.2.1=r.2.2.1->x.2.2.2.1=r.2.2.2.1.length->Pc (bh N n r t x i) λy=>y.1=(r.1,n,r.2.2.1,y.1.2.2.2.1,())/\ZX y.1.2.2.2.1=K2/\y.1.2.2.2.1=r.2.2.2.1.length
 |0,_,_,_,_,_,_=>Pc.none
 |N+1,x,i,h,a,b,c=>by
  unfold bh;refine Pc.ite (λ_=>Pc.guard (Pc.guard (Qdb n r t N _ _ (Z3j h _ (K3 0) Aa) a b Ac))) λ_=>Pc.pure ⟨?_,h,c⟩
  grind
theorem Qve{r:Q2}(hl:r.2.2.2.1.length<=1048576)(h:pw r=K2)(h1:r.2.1<=n)(h2:n<=r.2.2.1):Pc (gw r n) λy=>pw y.1=K2/\y.1.1=r.1/\y.1.2.1=n/\y.1.2.2.1=r.2.2.1/\y.1.2.2.2.1=r.2.2.2.1.length:=λy e=>by
 have R:=Z9t hl h;unfold gw at e;rw[Zn5 r hl,(zK r hl).1,h]at e;simp only[pA,pI,Lu]at e;rw[Zm,Zm]at e;obtain⟨a,b,c⟩:=Qdb n r Zfw _ _ _ (Z4e hl h) rfl rfl rfl y e;have:=R.b0;have:=R.be;have:=R.sz;have:=R.size;have:=R.eM
 show pw y.1=K2/\y.1.1=r.1/\y.1.2.1=n/\y.1.2.2.1=r.2.2.1/\y.1.2.2.2.1=r.2.2.2.1.length;rw[a];exact⟨Qkh Ab (Z1p (r:=r) hl h) (by simp only;have:=R.len;omega) Ab Ab Ab Ab b,rfl,rfl,rfl,c⟩
theorem Zdr(s:Zk):stF s=ite (s.2.2.2.2.2.2.1=3/\s.2.1.2.1=s.2.1.2.2.1) 3 (ite (s.2.2.2.2.2.2.1>1\/(s.2.2.2.2.2.2.1=1/\s.1=2)) 2 (ite (s.2.2.2.2.2.2.2.1>0\/(s.2.2.2.2.2.2.1=1/\s.1=1)) 1 0)):=by
 have e:=Zg5 s
 grind[ch]
theorem sd{s:Zk}:Znv s=K2↔(s.2.2.2.2.2.2.1=0↔s.2.2.2.2.2.1= -1)/\(s.2.2.2.2.2.1= -1\/s.2.2.2.2.2.1=s.2.1.2.2.1):=by
 grind[Znv]
theorem Z13{s y:Zk}(h:s.1=stF s)(h2:s.1<=2)(e:y.1=s.1)(es:s.2.2.2.2.2.2.2.1<=y.2.2.2.2.2.2.2.1)(f:1<=s.2.2.2.2.2.2.1->1<=y.2.2.2.2.2.2.1):s.1<=stF y:=by
 grind[Zdr]
theorem Z12(y:Zk):stF (stF y,y.2)=stF y:=by
 grind[Zdr]
structure SQu(s:Zk):Prop where
 f:Qai s
 pt:s.1<4->PT s
theorem SQu.no{s:Zk}(Q:SQu s)(h:s.1<4):Qqd s:=Q.f.no Aa
theorem Z87{s:Zk}(h:Jr K s)(ring:pw s.2.1=K2)(sent:0<=s.2.2.2.2.2.2.2.1/\s.2.2.2.2.2.2.2.1<=s.2.1.2.2.1)(code:s.2.2.2.2.2.2.2.2.1=0)(fin:0<=s.2.2.2.2.2.2.1/\s.2.2.2.2.2.2.1<=3)(gap:VH s.2.2.2.2.1 0=s.2.1.2.1)(fl:hiB s.2.2.2.2.2.2.2.1 s.2.2.2.1=K2)(ac:hiB s.2.2.2.2.2.2.2.1 s.2.2.2.2.1=K2)(fb:Znv s=K2)(st:s.1=stF s)(pt:PT s):SQu s:=
 ⟨{ring:=ring,pr:=h.pend.1,fr:=h.pT.1,ar:=h.pO.1,sent:=sent,code:=Aa,fin:=fin,rst:=λe=>by have:=Zlj s;omega,no:=λ_=>{whole:=Qlf h pt,gap:=gap,code:=code,fl:=fl,ac:=ac,fin:=fb,st:=st}},λ_=>pt⟩
theorem Zxw:hiB S l=K2↔ ∀x∈l,x.2.1<=S:=by
 simp[hiB]
theorem yu{s:Zk}(h0:0<=s.2.1.2.2.1:=by omega)(hE:s.2.1.2.2.1<=1000000:=by omega){p:Qe}:Zgk s p=K2↔(0<=p.1/\p.1+p.2.1<=s.2.1.2.2.1)/\(p.2.2.1=K2->s.2.2.2.2.2.1≠ -1/\p.1+p.2.1=s.2.2.2.2.2.1):=by
 grind[Zgk,Zr]
structure Mv(s x:Zk):Prop where
 q:SQu x
 st:s.1<=x.1
 snt:s.2.2.2.2.2.2.2.1<=x.2.2.2.2.2.2.2.1
 isn:∀p,Zgk s p=K2->x.1<4->Zgk x p=K2
theorem Mv.refl{s:Zk}(Q:SQu s):Mv s s:=⟨Q,K3 _,K3 _,λ_ h _=>h⟩
theorem Qxm{s:Zk}(h:Jr K s)(d:Ba)(hK:K+d<=1000000)(Q:SQu s):Pc (df s d) λr=>Mv s r.1/\r.1.2.2.2.1=s.2.2.2.1/\r.1.1=s.1/\r.1.2.2.2.2.2.2.2.1=s.2.2.2.2.2.2.2.1/\0<=r.2.1/\r.2.1<=d:=by
 have i:=h.e0;have j:=h.eK;have k:=h.cells
 unfold df tO;rw[lI h,pA,Zku h,pA];refine Pc.ite (λ_=>Pc.pure ⟨Mv.refl Q,rfl,rfl,rfl,K3 _,Ab⟩) λe=>?_;simp only[Lg,Lo,decide_eq_false_iff_not,bne_eq_false_iff_eq]at e;obtain⟨⟨y,z⟩,l⟩:=e;have N:=Q.no Aa;have S:=Q.f.sent;have F:=sd.1 N.fin;refine(Qvf Aa Q.f.ring d Aa).bind λt ⟨m,A,o,B,⟨q,u⟩,C⟩=>?_;have a:∀P:List Zi,RL t.1.2.2.1 P->(∀n,hs n P=ite (1<=hs n s.2.2.1\/(s.2.1.2.2.1<=n/\n<t.1.2.2.1)) 1 0)->Pc (kb Yw (s.1,s.2.1,P,s.2.2.2) t.1 t.2.1) λr=>Mv s r.1/\r.1.2.2.2.1=s.2.2.2.1/\r.1.1=s.1/\r.1.2.2.2.2.2.2.2.1=s.2.2.2.2.2.2.2.1/\0<=r.2.1/\r.2.1<=d:=λP v D=>by
  have w:Jr (K+d) (s.1,t.1,P,s.2.2.2):={cells:=Ab,e0:=Ab,eK:=Ab,pend:=v,pT:=Zfy h.pT Ab,pO:=Zfy h.pO Ab}
  refine Pc.pure ⟨⟨Z87 w m ⟨S.1,Ab⟩ N.code Q.f.fin (by simp only;rw[o];exact N.gap) N.fl N.ac (sd.2 ⟨F.1,.inl l⟩) ?_ λn=>?_,K3 _,K3 _,λp E _=>?_⟩,rfl,rfl,rfl,q,u⟩
  ·have:=N.st
   grind[Zdr]
  ·have p:=Q.pt Aa n;have:=ml n s.2.2.1;have:=ml n s.2.2.2.1;have:=ml n s.2.2.2.2.1
   grind
  grind[yu]
 have G:=Qm h.pend i j;have g:=λn=>(Znx (n:=n) h.pend.1).1;refine Pc.ite (λb=>?_) λb=>?_
 ·have b:=pE b;have c:W7 (s.2.1.2.2.1,t.1.2.2.1,())=true:=Qh.2 Ab;rw[ia _ _,if_pos ⟨h.pend.1,c⟩,pA];refine a _ ⟨WK h.pend.1 c Ab,Zef (λx hx=>by have:=h.pend.2 x hx;omega) Ab⟩ λn=>?_;rw[Zz2 h.pend.1 c Ab]
  grind[inc]
 ·have b:=of_decide_eq_false b;refine a s.2.2.1 (Zfy h.pend) λn=>?_;have:=g n;have:=ml n s.2.2.1;split<;>omega
theorem Qwn{s:Zk}(h:Jr K s)(hK:K<=1000000)(Q:SQu s):Pc (cY s) λr=>Mv s r.1/\r.1.2.2.2.1=s.2.2.2.1/\r.1.1=s.1/\r.1.2.2.2.2.2.2.2.1=s.2.2.2.2.2.2.2.1:=by
 have c:=h.e0;have d:=h.eK
 unfold cY;rw[lI h,pA,Zku h,pA];refine Pc.ite (λ_=>Pc.pure ⟨Mv.refl Q,rfl,rfl,rfl⟩) λa=>?_;simp only[Lg,Lo,decide_eq_false_iff_not,bne_eq_false_iff_eq]at a;obtain⟨⟨e,g⟩,i⟩:=a;have N:=Q.no Aa;have F:=sd.1 N.fin;have b:Jr K (s.1,s.2.1,s.2.2.1,s.2.2.2.1,s.2.2.2.2.1,s.2.1.2.2.1,(1:Int),s.2.2.2.2.2.2.2):={cells:=h.cells,e0:=h.e0,eK:=h.eK,pend:=h.pend,pT:=h.pT,pO:=h.pO}
 refine Pc.pure ⟨⟨Z87 b Q.f.ring Q.f.sent N.code ⟨Ab,Ab⟩ N.gap N.fl N.ac (sd.2 ⟨Ab,.inr rfl⟩) ?_ (Q.pt Aa),K3 _,K3 _,λp j _=>?_⟩,rfl,rfl,rfl⟩
 ·have:=N.st
  grind[Zdr]
 grind[yu]
abbrev rgE(p:Qe):Zi:=(p.1,p.1+p.2.1,())
theorem Z74{r:Zi}(h:∀x∈l,W7 x=K2):∀y∈JI l r,W7 y=true:=by
 grind[JI,Qh,Zdw]
theorem Z53{r:Zi}(h:rsB (-1) l=K2)(hr:W7 r=K2)(n:Int):hs n (JI l r)=ite (1<=inc r n) (hs n l) 0:=by
 unfold JI;rw[if_pos ⟨h,by simp_all[Qnj,Qh]⟩];exact Qds r n l
theorem Zes{E n:Int}:∀{c l:List Zi},RL E l->(∀x∈c,W7 x=K2)->RL E (c.foldl Z26 l)/\hs n (c.foldl Z26 l)=ite (1<=hs n c) 0 (hs n l)
 |[],l,h,_=>by simp[hs,h]
 |x::c,l,h,d=>by
  have hx:=d x Lf;have e:Z26 l x=Zab x l:=if_pos ⟨h.1,hx⟩;have f:RL E (Z26 l x):=Zfz h;obtain⟨a,b⟩:=Zes (n:=n) (c:=c) f λy g=>d y (Ld _ g);refine⟨a,?_⟩;rw[Lz,b,e,Qbd (by grind[Qh])];have:=ml n c;have:=XE x n
  grind[hs]
theorem Zqi{E n:Int}:∀{c l:List Zi},RL E l->(∀x∈c,W7 x=K2)->(∀x∈c,x.2.1<=E)->RL E (c.foldl Z7p l)/\hs n (c.foldl Z7p l)=ite (1<=hs n c\/1<=hs n l) 1 0
 |[],l,h,_,_=>by
  have:=(Znx (n:=n) h.1).1;have:=ml n l;refine⟨h,?_⟩;by_cases j:1<=hs n l
  ·grind
  ·rw[if_neg (by simp_all[hs])];grind
 |x::c,l,h,f,g=>by
  have hx:=f x Lf;have e:Z7p l x=jf l x:=if_pos ⟨h.1,hx⟩;have i:RL E (Z7p l x):=vd h (g x Lf);obtain⟨a,b⟩:=Zqi (n:=n) (c:=c) i (λy d=>f y (Ld _ d)) λy d=>g y (Ld _ d);refine⟨a,?_⟩;rw[Lz,b,e,Zz2 h.1 hx (by grind[Qh])];have:=ml n c;have:=XE x n
  grind[hs]
theorem Qoh{E:Int}(s:Zk)(p:Qe)(t:Zk){c:List Zi}(h0:0<=E)(hE:E<=1000000)(hc:∀x∈c,x.2.1<=E)(hl:c.length<=1048576):∀(N i:Nat)(x:Zk),RL E x.2.2.2.1->RL E x.2.2.2.2.1->c-i<N->i<=c->
  bg N s p t x c (i:Int)=Ww s p t (x.1,x.2.1,x.2.2.1,(c.drop i).foldl Z26 x.2.2.2.1,(c.drop i).foldl Z7p x.2.2.2.2.1,x.2.2.2.2.2)
 |0,_,_,_,_,h,_=>Aa
 |N+1,i,x,b,e,g,j=>by
  unfold bg gG gI;by_cases a:i<c
  ·have lf:=Qm b h0 (K3 _) hE;have k:=Qm e h0 (K3 _) hE;have f:=hc _ (Z2 (d:=Z3) a);rw[Zn (Zl),Zb,show(i:Int).toNat=i from rfl,q9 _ _,pA,Zb,ia _ _,pA,Zs a];rw[Qoh s p t h0 hE hc hl N (i+1) _ (Zfz b) (vd e f) Aa Aa,Qy (d:=Z3) a];rfl
  grind
theorem Qpe{E:Int}(s:Zk)(p:Qe)(t:Zk){c:List Zi}(h0:0<=E)(hE:E<=1000000)(hc:∀x∈c,x.2.1<=E)(hl:c.length<=1048576):∀(N i:Nat)(x:Zk),RL E x.2.2.2.1->RL E x.2.2.1->c-i<N->i<=c->
  aw N s p t x c (i:Int)=Vv s p t (x.1,x.2.1,(c.drop i).foldl Z7p x.2.2.1,(c.drop i).foldl Z26 x.2.2.2.1,x.2.2.2.2)
 |0,_,_,_,_,h,_=>Aa
 |N+1,i,x,b,e,g,j=>by
  unfold aw gG gI;by_cases a:i<c
  ·have lf:=Qm b h0 (K3 _) hE;have k:=Qm e h0 (K3 _) hE;have f:=hc _ (Z2 (d:=Z3) a);rw[Zn (Zl),Zb,show(i:Int).toNat=i from rfl,q9 _ _,pA,Zb,ia _ _,pA,Zs a];rw[Qpe s p t h0 hE hc hl N (i+1) _ (Zfz b) (vd e f) Aa Aa,Qy (d:=Z3) a];rfl
  grind
structure Qe9(s x:Zk):Prop where
 st:x.1=s.1
 ring:x.2.1=s.2.1
 fin:x.2.2.2.2.2.1=s.2.2.2.2.2.1
 snt:x.2.2.2.2.2.2.2.1=s.2.2.2.2.2.2.2.1
 code:x.2.2.2.2.2.2.2.2.1=s.2.2.2.2.2.2.2.2.1
 p:RL s.2.1.2.2.1 x.2.2.1
 f:RL s.2.1.2.2.1 x.2.2.2.1
 a:RL s.2.1.2.2.1 x.2.2.2.2.1
 pt:PT x
 fl:∀n,hs n x.2.2.2.1<=hs n s.2.2.2.1
 am:∀n,hs n s.2.2.2.2.1<=hs n x.2.2.2.2.1
 ac:∀n,hs n x.2.2.2.2.1<=hs n s.2.2.2.1+hs n s.2.2.2.2.1
 fb:Znv x=K2
 f0:0<=x.2.2.2.2.2.2.1/\x.2.2.2.2.2.2.1<=3
 f1:1<=s.2.2.2.2.2.2.1->1<=x.2.2.2.2.2.2.1
theorem Qiz(h:∀x∈l,W7 x=K2)(k:∀n,1<=hs n l->n<S):hiB S l=true:=Zxw.2 λx hx=>by
 have:=Qh.1 (h x hx);have:=k (x.2.1-1) (Z3v.2 ⟨x,hx,Aa,Aa⟩);omega
theorem Qdq(h:hiB S l=K2)(k:1<=hs n l:=by omega):n<S:=by
 obtain⟨x,hx,a,b⟩:=Z3v.1 k
 grind[Zxw]
theorem Qe9.hi{s:Zk}(X:Qe9 s x)(N:Qqd s):hiB x.2.2.2.2.2.2.2.1 x.2.2.2.1=K2/\hiB x.2.2.2.2.2.2.2.1 x.2.2.2.2.1=true:=by
 rw[X.snt];refine⟨Qiz (Zb6 X.f) λn b=>Qdq N.fl (by have:=X.fl n;omega),Qiz (Zb6 X.a) λn b=>?_⟩;have:=X.ac n;by_cases c:1<=hs n s.2.2.2.1
 ·exact Qdq N.fl c
 ·exact Qdq N.ac
theorem Qog{s:Zk}(h:Jr K s)(hK:K<=1000000)(Q:SQu s)(h2:s.1<=2)(X:Qe9 s x)(t:Zk):Pc (bf s t x) λr=>Mv s r.1/\r.1.2.2=x.2.2:=by
 have d:=h.e0;have g:=h.eK;have i:=h.cells
 have N:=Q.no Aa;have o:=Qm X.a d g hK;have q:=(Zjb X.a.1).1;have e:=Qiw h.pO.1 X.a.1 X.am;rw[N.gap]at e;unfold bf kM;simp only[Xr,Ke];rw[Zeo _ _,if_pos ⟨X.a.1,K3 _⟩,pA];refine(Qve Aa Q.f.ring e (Qrh X.a d)).bind λy ⟨j,u,v,b,w⟩=>?_;rw[Zg5,pA];have k:Jr K (stF (x.1,y.1,x.2.2),y.1,x.2.2):={cells:=Ab,e0:=Ab,eK:=Ab,pend:=by simp only[b];exact X.p,pT:=by simp only[b];exact X.f,pO:=by simp only[b];exact X.a}
 obtain⟨l,m⟩:=X.hi N;have F:=sd.1 X.fb;refine Pc.pure ⟨⟨Z87 k j (by simp only;rw[b,X.snt];exact Q.f.sent) (by simp only;rw[X.code];exact N.code) X.f0 Ac l m (sd.2 ⟨F.1,by simp only;rw[b,<-X.ring];exact F.2⟩) (Z12 (x.1,y.1,x.2.2)).symm λn=>?_,?_,?_,λp c _=>?_⟩,rfl⟩
 ·have:=X.pt n;simp only[b];rw[X.ring]at this;exact this
 ·exact Z13 (y:=(x.1,y.1,x.2.2)) N.st h2 X.st (by simp only;rw[X.snt];omega) X.f1
 ·simp only;rw[X.snt];omega
 ·have c:=(yu).1 c;refine(yu Ab Ab).2 ?_;simp only[b,X.fin];exact c
theorem Qpd{s:Zk}(h:Jr K s)(hK:K<=1000000)(Q:SQu s)(h2:s.1<=2)(X:Qe9 s x)(ga:x.2.2.2.2.1=s.2.2.2.2.1)(k3:x.2.2.2.2.2.2.1=3->s.2.2.2.2.2.2.1=3)(t:Zk):Pc (bL t x) λr=>Mv s r.1/\r.1.2.2=x.2.2/\r.1.1<=2:=by
 have j:=h.e0;have k:=h.eK;have d:=h.cells
 have N:=Q.no Aa;unfold bL;rw[Zg5,pA];have e:Jr K (stF x,x.2):={cells:=by simp only[X.ring];omega,e0:=by simp only[X.ring];omega,eK:=by simp only[X.ring];omega,pend:=by simp only[X.ring];exact X.p,pT:=by simp only[X.ring];exact X.f,pO:=by simp only[X.ring];exact X.a}
 obtain⟨g,i⟩:=X.hi N;refine Pc.pure ⟨⟨Z87 e (by simp only[X.ring];exact Q.f.ring) (by simp only[X.ring,X.snt];exact Q.f.sent) (by simp only[X.code];exact N.code) X.f0 (by simp only[X.ring,ga];exact N.gap) g i X.fb (Z12 x).symm X.pt,?_,?_,λp c _=>?_⟩,rfl,?_⟩
 ·exact Z13 N.st h2 X.st (by rw[X.snt];omega) X.f1
 ·simp only;rw[X.snt];omega
 ·have c:=(yu).1 c;refine(yu (by simp only[X.ring];omega) (by simp only[X.ring];omega)).2 ?_;simp only[X.ring,X.fin];exact c
 ·have a:=N.st;have b:=Zdr x;rw[Zdr]at a;rw[X.ring]at b
  grind
theorem Qt9{s:Zk}(h:Jr K s)(Q:SQu s)(h3:s.1=3)(n:Int):hs n s.2.2.2.1=0:=by
 have N:=Q.no Aa;have a:=N.st;rw[Zdr]at a;have e:s.2.1.2.1=s.2.1.2.2.1:=by
  omega
 obtain⟨-,g,-⟩:=Zjb h.pO.1;rw[N.gap]at g;have:=ml n s.2.2.1;have:=ml n s.2.2.2.1
 by_cases b:0<=n/\n<s.2.1.2.2.1
 ·have:=g n b.1 Aa;have p:=Q.pt Aa n;omega
 ·exact Qg4 h.pT Aa
structure Rp(s x:Zk)(p:Qe):Prop where
 mv:Mv s x
 fl:x.1<4-> ∀n,hs n x.2.2.2.1+inc (rgE p) n=hs n s.2.2.2.1
 snt:x.2.2.2.2.2.2.2.1=s.2.2.2.2.2.2.2.1
 ov:3<=s.1->x=s
theorem Rp.same{s:Zk}(h:Jr K s)(Q:SQu s){p:Qe}(hc:s.1<4-> ∀n,1<=inc (rgE p) n->hs n s.2.2.2.1=1)(h3:3<=s.1):Rp s s p:=
 ⟨Mv.refl Q,λa n=>by
  have:=Qt9 h Q Aa n;have:=hc a n;have:=XE (rgE p) n;omega,rfl,λ_=>rfl⟩
theorem Zgi{p:Qe}(h:p.2.1=[])(n:Int):inc (rgE p) n=0:=by
 simp_all[inc]
theorem Qtr{s:Zk}(h:Jr K s)(hK:K<=1000000)(Q:SQu s)(p:Qe)(hin:s.1<4->Zgk s p=K2)(hc:s.1<4-> ∀n,1<=inc (rgE p) n->hs n s.2.2.2.1=1):Pc (gu s p) λr=>Rp s r.1 p:=by
 have j:=h.e0;have t:=h.eK
 have u:Zae s=true:=(Zsl h hK).2 Q.f;unfold gu gH;rw[lI h hK,pA,Zku h hK,u,pA];simp only[pI,Lu];by_cases v:s.1>2
 ·grind[Pc.pure,Rp.same]
 rw[Zm v,Qi8,hin Aa];simp only[pH,pA,pI,Ls];have w:=(yu j).1 (hin Aa);have hc:=hc Aa;have N:=Q.no Aa;have F:=sd.1 N.fin;have o:=Q.pt Aa;have b:∀f a:List Zi,RL s.2.1.2.2.1 f->RL s.2.1.2.2.1 a->(∀n,hs n f=hs n s.2.2.2.1-inc (rgE p) n)->(∀n,hs n a=hs n s.2.2.2.2.1+inc (rgE p) n)->Pc (Ww s p Yw (s.1,s.2.1,s.2.2.1,f,a,s.2.2.2.2.2)) λr=>Rp s r.1 p:=λf a x y G H=>by
  have X:∀k:Int,(0<=k/\k<=3)->(1<=s.2.2.2.2.2.2.1↔1<=k)->Qe9 s (s.1,s.2.1,s.2.2.1,f,a,s.2.2.2.2.2.1,k,s.2.2.2.2.2.2.2):=λk z A=>
   ⟨rfl,rfl,rfl,rfl,rfl,h.pend,x,y,λn=>by have:=o n;grind,λn=>by have:=XE (rgE p) n;grind,λn=>by have:=XE (rgE p) n;grind,λn=>by
    have:=XE (rgE p) n;have:=hc n;have:=ml n s.2.2.2.1
    grind,sd.2 ⟨by have:=Q.f.fin;grind,F.2⟩,z,A.1⟩
  unfold Ww tF;have B:=Q.f.fin;refine Pc.ite (λC=>?_) λC=>?_
  ·have D:s.2.2.2.2.2.2.1=2:=Ac
   refine(Qog h hK Q Aa (X 3 Aa Aa) Yw).mono λr ⟨m,e⟩=>⟨m,λ_ n=>?_,?_,λh=>Aa⟩
   all_goals simp_all
  ·refine(Qog h hK Q Aa (X s.2.2.2.2.2.2.1 B L3) Yw).mono λr ⟨m,e⟩=>⟨m,λ_ n=>?_,?_,λh=>Aa⟩
   all_goals simp_all
 refine Pc.ite (λl=>?_) λl=>?_
 ·have d:p.2.1≠[]:=by simpa using l
  have q:0<p.2.1.length:=L0.2 d;have E:W7 (rgE p)=true:=Qh.2 Ab;have lf:=Qm h.pT j t hK;rw[Zqt w.1.1,pA,Qhv _ _,pA];have I:=Zp9 s.2.2.2.1 (rgE p);have e:=Qoh s p Yw (c:=JI s.2.2.2.1 (rgE p)) j Aa (z6 h.pT _) Aa (bS s p Yw s (JI s.2.2.2.1 (rgE p)) 0) 0 s h.pT h.pO (by simp[bS]) Aa;simp only[Ly,Lh]at e;rw[e];have i:=Z74 (r:=rgE p) (Zb6 h.pT);have g:=Z53 h.pT.1 E;refine b _ _ (Zes (n:=0) h.pT i).1 (Zqi (n:=0) h.pO i (z6 h.pT _)).1 (λn=>?_) λn=>?_
  ·rw[(Zes (n:=n) h.pT i).2,g];have:=hc n;have:=XE (rgE p) n
   omega
  ·rw[(Zqi (n:=n) h.pO i (z6 h.pT _)).2,g];have:=hc n;have:=XE (rgE p) n
   have:=o n;have:=ml n s.2.2.1;have:=ml n s.2.2.2.2.1
   have:=(Znx (n:=n) h.pO.1).1;omega
 ·have d:p.2.1=[]:=by simpa using l
  exact b s.2.2.2.1 s.2.2.2.2.1 h.pT h.pO (λn=>At) λn=>At
theorem Quu{s:Zk}(h:Jr K s)(hK:K<=1000000)(Q:SQu s)(p:Qe)(hin:s.1<4->Zgk s p=K2)(hc:s.1<4-> ∀n,1<=inc (rgE p) n->hs n s.2.2.2.1=1):Pc (dM s p) λr=>Rp s r.1 p/\(s.1<=2->r.1.1<=2):=by
 have j:=h.e0;have u:=h.eK
 have v:Zae s=true:=(Zsl h hK).2 Q.f;unfold dM gH;rw[lI h hK,pA,Zku h hK,v,pA];simp only[pI,Lu];by_cases w:s.1>2
 ·grind[Pc.pure,Rp.same]
 rw[Zm w,Qi8,hin Aa];simp only[pH,pA,pI,Ls];have x:=(yu j).1 (hin Aa);have hc:=hc Aa;have N:=Q.no Aa;have F:=sd.1 N.fin;have q:=Q.pt Aa;have b:∀f a:List Zi,RL s.2.1.2.2.1 f->RL s.2.1.2.2.1 a->(∀n,hs n f=hs n s.2.2.2.1-inc (rgE p) n)->(∀n,hs n a=hs n s.2.2.1+inc (rgE p) n)->Pc (Vv s p Yw (s.1,s.2.1,a,f,s.2.2.2.2)) λr=>Rp s r.1 p/\(s.1<=2->r.1.1<=2):=λf a y z H I=>by
  have X:∀k:Int,(0<=k/\k<=3)->(1<=s.2.2.2.2.2.2.1↔1<=k)->Qe9 s (s.1,s.2.1,a,f,s.2.2.2.2.1,s.2.2.2.2.2.1,k,s.2.2.2.2.2.2.2):=λk A B=>
   ⟨rfl,rfl,rfl,rfl,rfl,z,y,h.pO,λn=>by have:=q n;grind,λn=>by have:=XE (rgE p) n;grind,λn=>K3 _,λn=>by
    have:=ml n s.2.2.2.1;simp only;omega,sd.2 ⟨by have:=Q.f.fin;grind,F.2⟩,A,B.1⟩
  unfold Vv;have C:=Q.f.fin;refine Pc.ite (λD=>?_) λD=>?_
  ·have E:s.2.2.2.2.2.2.1=2:=Ac
   refine(Qpd h hK Q Aa (X 1 Aa Aa) rfl (λh=>by simp at h) Yw).mono λr ⟨m,e,l⟩=>⟨⟨m,λ_ n=>?_,?_,λh=>Aa⟩,λ_=>l⟩
   all_goals simp_all
  ·refine(Qpd h hK Q Aa (X s.2.2.2.2.2.2.1 C L3) rfl id Yw).mono λr ⟨m,e,l⟩=>⟨⟨m,λ_ n=>?_,?_,λh=>Aa⟩,λ_=>l⟩
   all_goals simp_all
 refine Pc.ite (λo=>?_) λo=>?_
 ·have d:p.2.1≠[]:=by simpa using o
  have t:0<p.2.1.length:=L0.2 d;have G:W7 (rgE p)=true:=Qh.2 Ab;have lf:=Qm h.pT j u hK;rw[Zqt x.1.1,pA,Qhv _ _,pA];have J:=Zp9 s.2.2.2.1 (rgE p);have e:=Qpe s p Yw (c:=JI s.2.2.2.1 (rgE p)) j Aa (z6 h.pT _) Aa (bn s p Yw s (JI s.2.2.2.1 (rgE p)) 0) 0 s h.pT h.pend (by simp[bn]) Aa;simp only[Ly,Lh]at e;rw[e];have i:=Z74 (r:=rgE p) (Zb6 h.pT);have g:=Z53 h.pT.1 G;refine b _ _ (Zes (n:=0) h.pT i).1 (Zqi (n:=0) h.pend i (z6 h.pT _)).1 (λn=>?_) λn=>?_
  ·rw[(Zes (n:=n) h.pT i).2,g];have:=hc n;have:=XE (rgE p) n
   omega
  ·rw[(Zqi (n:=n) h.pend i (z6 h.pT _)).2,g];have:=hc n;have:=XE (rgE p) n
   have:=q n;have:=ml n s.2.2.1;have:=ml n s.2.2.2.2.1
   have:=(Znx (n:=n) h.pend.1).1;omega
 ·have d:p.2.1=[]:=by simpa using o
  exact b s.2.2.2.1 s.2.2.1 h.pT h.pend (λn=>At) λn=>At
structure Sp(s x:Zk)(p:Qe):Prop where
 mv:Mv s x
 fl:∀n,hs n x.2.2.2.1=hs n s.2.2.2.1+inc (rgE p) n
 isn:Zgk x p=K2
 lo:s.1<=2/\x.1<=2
theorem Qxd{s:Zk}(h:Jr K s)(hK:K<=1000000)(Q:SQu s)(p:Qe)(ho:Zkv s p=K2):Sp s (spS s p) p:=by
 have J:=h.e0;have hE:=h.eK
 have t:=Zsm h hK p ho;unfold Zkv spG at ho;simp only[pC,Lr,decide_eq_true_eq,Bool.and_eq_false_iff,Bool.or_eq_true]at ho;obtain⟨⟨⟨⟨⟨-,B⟩,C⟩,o4⟩,o5⟩,g⟩:=ho;have d:=(yu J).1 C;have N:=Q.no Aa;have F:=sd.1 N.fin;have D:=Q.pt Aa;have L:=Q.f.fin;have S:=Q.f.sent;have M:rgP p=rgE p:=by
  grind[Zr]
 
 have Y:∃P b c,spY s p=(s.1,s.2.1,P,b,s.2.2.2.2.1,s.2.2.2.2.2.1,s.2.2.2.2.2.2.1,c,s.2.2.2.2.2.2.2.2)/\RL s.2.1.2.2.1 P/\RL s.2.1.2.2.1 b/\(∀n,hs n P=hs n s.2.2.1-inc (rgE p) n)/\(∀n,hs n b=hs n s.2.2.2.1+inc (rgE p) n)/\s.2.2.2.2.2.2.2.1<=c/\c<=s.2.1.2.2.1/\(∀n,1<=inc (rgE p) n->n<c):=by
  unfold spY;cases hd:p.2.1==([]:Ba)
  ·have j:p.2.1≠[]:=by simpa using hd
   have E:0<p.2.1.length:=L0.2 j;have o:W7 (rgE p)=true:=Qh.2 Ab;have g:eq1 (JI s.2.2.1 (rgP p)) (rgP p)=true:=by
    grind
   rw[M]at g⊢;have u:=Z53 h.pend.1 o;have l:∀n,1<=inc (rgE p) n->hs n s.2.2.1=1:=λn d=>by
    have e:JI s.2.2.1 (rgE p)=[rgE p]:=by
     unfold eq1 at g;simp only[pC,beq_iff_eq]at g;obtain⟨G,v⟩:=g;cases hv:JI s.2.2.1 (rgE p)with
     |nil=>simp_all
     |cons y r=>
      rw[hv]at G v;cases r with
      |nil=>
       simp only[Mc]at v;have:y=rgE p:=by
        simp[eqV]at v
        grind
       rw[this]
      |cons z r=>simp at G;omega
    have:=u n;rw[e,if_pos d]at this;have i:=XE (rgE p) n
    grind[hs]
   have O:Z26 s.2.2.1 (rgE p)=Zab (rgE p) s.2.2.1:=if_pos ⟨h.pend.1,o⟩;have U:Z7p s.2.2.2.1 (rgE p)=jf s.2.2.2.1 (rgE p):=if_pos ⟨h.pT.1,o⟩;refine⟨_,_,_,rfl,Zfz h.pend,vd h.pT d.1.2,λn=>?_,λn=>?_,Ab,Ab,λn d=>?_⟩
   ·rw[O,Qbd Ab];have:=l n;have:=XE (rgE p) n
    split<;>omega
   ·rw[U,Zz2 h.pT.1 o Ab];have:=l n;have:=XE (rgE p) n
    have:=D n;have:=ml n s.2.2.1;have:=ml n s.2.2.2.1;have:=ml n s.2.2.2.2.1
    omega
   grind[inc]
  ·have j:p.2.1=[]:=by simpa using hd
   exact⟨s.2.2.1,s.2.2.2.1,s.2.2.2.2.2.2.2.1,rfl,h.pend,h.pT,λn=>At,λn=>At,K3 _,S.2,λn d=>At⟩
 obtain⟨P,b,c,eY,rP,V,hP,H,I,W,X⟩:=Y;have w:∀k:Int,(0<=k/\k<=3)->(1<=s.2.2.2.2.2.2.1↔1<=k)->(k=3->s.2.2.2.2.2.2.1=3)->spZ s p=(s.1,s.2.1,P,b,s.2.2.2.2.1,s.2.2.2.2.2.1,k,c,s.2.2.2.2.2.2.2.2)->Sp s (spS s p) p:=λk Z k1 k3 eZ=>by
  unfold spS at t⊢;rw[eZ]at t⊢;have hm:s.1<=stF (s.1,s.2.1,P,b,s.2.2.2.2.1,s.2.2.2.2.2.1,k,c,s.2.2.2.2.2.2.2.2):=Z13 N.st B rfl I k1.1;have hl:stF (s.1,s.2.1,P,b,s.2.2.2.2.1,s.2.2.2.2.2.1,k,c,s.2.2.2.2.2.2.2.2)<=2:=by
   have a:=N.st
   grind[Zdr]
  have m:∀q,Zgk s q=K2->Zgk (stF (s.1,s.2.1,P,b,s.2.2.2.2.1,s.2.2.2.2.2.1,k,c,s.2.2.2.2.2.2.2.2),s.2.1,P,b,s.2.2.2.2.1,s.2.2.2.2.2.1,k,c,s.2.2.2.2.2.2.2.2) q=true:=λq A=>A;refine⟨⟨Z87 t Q.f.ring ⟨Ab,W⟩ N.code Z N.gap ?_ ?_ (sd.2 ⟨Ag,F.2⟩) (Z12 _).symm λn=>?_,hm,I,λq A _=>m q A⟩,H,m p C,B,hl⟩
  ·refine Qiz (Zb6 V) λn d=>?_;have d:1<=hs n b:=d;have:=H n;have i:=XE (rgE p) n;by_cases hh:1<=inc (rgE p) n
   ·exact X n hh
   ·have:=Qdq (n:=n) N.fl;simp only;omega
  ·exact Zxw.2 λx hx=>by have:=Zxw.1 N.ac x hx;simp only;omega
  ·have:=D n
   grind
 cases hp:p.2.2.1
 ·refine w s.2.2.2.2.2.2.1 L L3 id ?_;simp_all[spZ]
 grind[spZ]
def cvR(id n:Int)(f:Zj):Int:=ite (f.1=8/\f.2.1=id) (inc (rgE (pcF f)) n) 0
def cov(id n:Int):List Zj->Int|[]=>0|f::r=>cvR id n f+cov id n r
theorem Zxr(id n:Int)(b:List Zj):∀a,cov id n (a++b)=cov id n a+cov id n b
 |[]=>by simp[cov]
 |x::a=>by simp only[Mb,cov,Zxr id n b a];omega
theorem Qow(id n:Int)(f:Zj):0<=cvR id n f/\cvR id n f<=1:=by
 have:=XE (rgE (pcF f)) n
 grind[cvR]
theorem Qas(id n:Int):∀l,0<=cov id n l
 |[]=>K3 _
 |f::l=>by
  have:=Qas id n l;have:=Qow id n f
  grind[cov]
theorem ovF{K:Nat}(h:Xc K s)(hK:K<=1000000)(F:StF s):zJ s=(((!s.2.2.2.2.2.2.1||s.2.1.1==3)||s.2.1.1==5)&&(!s.2.2.2.2.2.2.2.1||(s.2.2.2.1.1==3||s.2.2.2.1.1==5))):=by
 have e:=Qjv h hK;unfold rg td mN gH mM at e;rw[stE h hK,(Qnp h hK).2 F,Zkn h.rcv hK,F.rcv]at e;simp only[pA,pG,pJ]at e;cases hr:s.2.2.2.2.2.2.2.1<;>rw[hr]at e<;>simp only[pI,Lp,pG,pH,pA,J5,bA,bA2,Bool.true_or,Lu]at e⊢ <;>grind
structure SA(v:Bool)(fs:List Zj)(b:Int)(s:Zf):Prop where
 F:StF s
 k:WJ v s
 q:SQu s.2.1
 cu:s.2.2.1.2.1=j0 s
 ws:s.2.2.2.2.1.2.2.2.1=mY s
 wr:s.2.2.2.1.2.1.1<=s.2.2.2.2.1.2.2.2.2.1
 ix:idV s.1<b
 fl:s.2.1.1<4-> ∀n,cov s.1 n fs=hs n s.2.1.2.2.2.1
 ins:s.2.1.1<4-> ∀f∈fs,f.1=8->f.2.1=s.1->Zgk s.2.1 (pcF f)=K2
 cs8:∀f∈fs,f.1=8->f.2.1=s.1->s.2.2.2.2.2.2.1=K2
 st5:∀f∈fs,f.1=5->f.2.1=s.1->s.2.2.2.2.2.2.2.2.2.2.2.1=K2
def CT(v:Bool)(s:Zf):Prop:=eg v s.1=La->uY s=zJ s
structure Up(s x:Zf):Prop where
 hg:mY s<=mY x
 sn:j0 s<=j0 x
 st:s.2.1.1<=x.2.1.1
 cl:s.2.2.1.1<=x.2.2.1.1
 wl:s.2.2.2.2.1.2.2.1<=x.2.2.2.2.1.2.2.1
 fn:s.2.2.2.1.2.2.1= -1\/x.2.2.2.1.2.2.1=s.2.2.2.1.2.2.1
 sp:s.2.2.2.2.2.2.2.2.2.2.2.1=K2->x.2.2.2.2.2.2.2.2.2.2.2.1=K2
theorem Up.refl(s:Zf):Up s s:=⟨K3 _,K3 _,K3 _,K3 _,K3 _,.inr rfl,id⟩
theorem Up.trans{x y:Zf}(h:Up s x)(k:Up x y):Up s y:=by
 obtain⟨c,d,e,f,g,i,a⟩:=h;obtain⟨j,l,m,n,o,q,b⟩:=k;exact⟨Aa,Aa,Aa,Aa,Aa,Aa,λp=>b (a p)⟩
def UpC(c d:Ze):Prop:=c.2.2.2.2.2.2.2.2.2.2.2.2.2.2.1<=d.2.2.2.2.2.2.2.2.2.2.2.2.2.2.1/\ ∀s∈c.2.2.2.1,∃x∈d.2.2.2.1,x.1=s.1/\Up s x
theorem UpC.trans{c d e:Ze}(h:UpC c d)(k:UpC d e):UpC c e:=⟨by have:=h.1;have:=k.1;omega,λs hs=>by
 obtain⟨x,hx,a,u1⟩:=h.2 s hs;obtain⟨y,b,f,u2⟩:=k.2 x hx;exact⟨y,b,f.trans a,u1.trans u2⟩⟩
def Uq(c d:Ze):Prop:=UpC c d/\Xu d=Xu c
theorem Uq.up(h:Uq c d):UpC c d:=h.1
theorem Uq.pk(h:Uq c d):Xu d=Xu c:=h.2
theorem Uq.refl(c:Ze):Uq c c:=⟨⟨K3 _,λs h=>⟨s,h,rfl,Up.refl s⟩⟩,rfl⟩
theorem Uq.trans{c d e:Ze}(h:Uq c d)(k:Uq d e):Uq c e:=⟨h.up.trans k.up,k.pk.trans h.pk⟩
def jy(b:Bool):Int:=cond b 1 0
theorem Z02(b:Bool):0<=jy b/\jy b<=1:=by cases b<;>decide
def rdF(s:Zf):Int:=s.2.2.2.2.1.2.2.2.2.1
def ms(v:Bool)(k:Nat)(s:Zf):Int:=match k with
 |0=>j0 s
 |1=>mY s
 |2=>rdF s
 |3=>jy (eg v s.1)
 |4=>jy (!eg v s.1&& !cJ s.1)
 |5=>jy (!eg v s.1&&cJ s.1)
 |6=>jy ((!eg v s.1&& !cJ s.1)&&uY s)
 |_=>jy ((!eg v s.1&&cJ s.1)&&uY s)
def SC(c:Ze)(k:Nat):Int:=match k with
 |0=>c.2.2.2.2.1.2.1
 |1=>c.2.2.2.2.2.1.2.2.2.1
 |2=>c.2.2.2.2.2.1.2.2.2.2.1
 |3=>c.2.2.2.2.2.2.1.2.1+c.2.2.2.2.2.2.2.1.2.1
 |4=>c.2.2.2.2.2.2.2.2.1.2.2.1
 |5=>c.2.2.2.2.2.2.2.2.2.1.2.2.1
 |6=>c.2.2.2.2.2.2.2.2.1.2.2.2.1
 |_=>c.2.2.2.2.2.2.2.2.2.1.2.2.2.1
def bI(c:Ze)(id:Int):Int:=cond (eg c.1 id) (cond (cJ id) c.2.2.2.2.2.2.2.1.2.1 c.2.2.2.2.2.2.1.2.1) (cond (cJ id) c.2.2.2.2.2.2.2.2.2.1.2.2.1 c.2.2.2.2.2.2.2.2.1.2.2.1)
structure AU(K:Nat)(v:Bool)(fs:List Zj)(c:Ze):Prop where
 inv:Q5 K c
 sv:c.1=v
 own:cfB c.2.1=K2
 peer:cfB c.2.2.1=K2
 srt:c.2.2.2.1.Pairwise λa b=>a.1<b.1
 len:c.2.2.2.1.length<=24
 all:∀s∈c.2.2.2.1,SA v fs (bI c s.1) s/\CT v s
 sm:∀k,lg (ms v k) c.2.2.2.1=SC c k
 fsk:∀f∈fs,f.1=8\/f.1=5-> ∃s∈c.2.2.2.1,s.1=f.2.1
 tot:Zpt c.2.2.2.2.1
 inf:Zh4 c.2.2.2.2.2.1
 ob:WM c.2.2.2.2.2.2.1=K2
 ou:WM c.2.2.2.2.2.2.2.1=K2
 ab:Zin c.2.2.2.2.2.2.2.2.1
 au:Zin c.2.2.2.2.2.2.2.2.2.1
 lst: -1<=c.2.2.2.2.2.2.2.2.2.2.2.2.2.1/\c.2.2.2.2.2.2.2.2.2.2.2.2.2.1<=4611686018427387903
 num:0<=c.2.2.2.2.2.2.2.2.2.2.2.2.2.2.1/\c.2.2.2.2.2.2.2.2.2.2.2.2.2.2.1<=1000000
 pks:pkB c.2.2.2.2.2.2.2.2.2.2.2.2.2.2.1 none c.2.2.2.2.2.2.2.2.2.2.2.2.2.2.2.1=K2
 now:0<=c.2.2.2.2.2.2.2.2.2.2.2.2.2.2.2.2.1/\c.2.2.2.2.2.2.2.2.2.2.2.2.2.2.2.2.1<=1000000
 clo:0<=c.2.2.2.2.2.2.2.2.2.2.2.2.2.2.2.2.2.1/\c.2.2.2.2.2.2.2.2.2.2.2.2.2.2.2.2.2.1<=255
theorem AU.con{K:Nat}{v:Bool}(A:AU K v fs c)(hK:K<=1000000):Zlo c:=by
 have L:LF K c.2.2.2.2.1.2.1 c.2.2.2.2.2.1.2.2.2.1 c.2.2.2.1:=⟨A.inv.str,λs hs=>(A.all s hs).1.F,A.srt,Lj (A.sm 0),Lj (A.sm 1)⟩
 have a:=L.nn hK;have b:=(Zac (f:=j0) (n:=0) (λs hs=>(a s hs).1) (K3 _) Ai).1;have d:=(Zac (f:=mY) (n:=0) (λs hs=>(a s hs).2) (K3 _) Ai).1;refine⟨A.own,A.peer,Z97.2 ⟨λs hs=>(Qnp (A.inv.str.all s hs) hK).2 (A.all s hs).1.F,A.srt,A.len⟩,Z76.2 A.tot,Zim.2 A.inf,A.ob,A.ou,Zws.2 A.ab,Zws.2 A.au,A.pks,?_⟩;unfold Zwi;rw[b,d];simp only[pC,decide_eq_true_eq,Ws];have:=L.snt;have:=L.hgh
 exact⟨⟨⟨⟨⟨A.lst,A.num⟩,A.now⟩,A.clo⟩,Aa⟩,Aa⟩
theorem AU.cb{K:Nat}{v:Bool}(A:AU K v fs c)(hK:K<=1000000:=by omega):bP c=true:=(Zf3 A.inv hK).2 (A.con hK)
theorem AU.mono{K K':Nat}{v:Bool}{fs:List Zj}{c:Ze}(A:AU K v fs c)(hK:K<=K':=by omega):AU K' v fs c:={A with inv:=A.inv.mono hK}
theorem AU.mem{K:Nat}{v:Bool}(A:AU K v fs c)(hK:K<=1000000)(hi:0<=Z8 c.2.2.2.1 id):atV c id∈c.2.2.2.1/\(Z8 c.2.2.2.1 id).toNat<c.2.2.2.1/\(atV c id).1=id/\SA v fs (bI c id) (atV c id)/\CT v (atV c id)/\Xc K (atV c id):=by
 have g:=A.inv.str.len;obtain⟨h,-,f⟩:=qt (l:=c.2.2.2.1) Aa id;have b:(Z8 c.2.2.2.1 id).toNat<c.2.2.2.1:=Aa
 have m:=Z2 (d:=Zc) b;have e:=f hi;have a:=A.all _ m;rw[e]at a;exact⟨m,b,e,a.1,a.2,A.inv.str.all _ m⟩
theorem Qbp{l:List Zf}(hp:l.Pairwise λa b=>a.1<b.1)(hi:i<l)(e:s.1=(l.getD i Zc).1){x:Zf}(hx:x∈l.set i s):x=s\/(x∈l/\x.1≠s.1):=by
 obtain⟨j,c,rfl⟩:=Lv.1 hx;rw[L1]at c;rw[Md];by_cases h:i=j
 ·simp_all
 ·rw[if_neg h];refine .inr ⟨List.getElem_mem _,?_⟩;rw[e,Qml hi];have p:=List.pairwise_iff_getElem.1 hp;rcases Nat.lt_or_ge i j with g|g
  ·have:=p i j hi c g;omega
  ·have:=p j i c hi Aa;omega
theorem Qph{v:Bool}{x:Zf}(h:s.1=x.1){k:Nat}(h3:3<=k)(h5:k<=5):ms v k s=ms v k x:=by
 have:k=3\/k=4\/k=5:=Aa
 rcases this with rfl|rfl|rfl<;>simp only[ms,h]
theorem AU.set{K K':Nat}{v:Bool}{fs fs':List Zj}{c d:Ze}(A:AU K v fs c)(hK:K'<=1000000)(hk:K<=K'){id:Int}(hi:0<=Z8 c.2.2.2.1 id){s:Zf}(e1:s.1=id)(hs:Xc K' s)(h:SA v fs' (bI c id) s/\CT v s)
  (ho:∀x∈c.2.2.2.1,x.1≠id->SA v fs (bI c x.1) x->SA v fs' (bI c x.1) x) (hf:∀f∈fs',f.1=8\/f.1=5-> ∃s∈c.2.2.2.1,s.1=f.2.1)
  (el:d.2.2.2.1=c.2.2.2.1.set (Z8 c.2.2.2.1 id).toNat s) (ec:d.1=c.1) (eo:d.2.1=c.2.1) (ep:d.2.2.1=c.2.2.1) (eb:∀i,bI d i=bI c i) (es:∀k,SC d k=SC c k+ms v k s-ms v k (atV c id))
  (tot:Zpt d.2.2.2.2.1) (inf:Zh4 d.2.2.2.2.2.1) (ob:WM d.2.2.2.2.2.2.1=K2) (ou:WM d.2.2.2.2.2.2.2.1=K2) (ab:Zin d.2.2.2.2.2.2.2.2.1) (au:Zin d.2.2.2.2.2.2.2.2.2.1)
  (lst: -1<=d.2.2.2.2.2.2.2.2.2.2.2.2.2.1/\d.2.2.2.2.2.2.2.2.2.2.2.2.2.1<=4611686018427387903) (et:d.2.2.2.2.2.2.2.2.2.2.2.2.2.2=c.2.2.2.2.2.2.2.2.2.2.2.2.2.2) (up:Up (atV c id) s):AU K' v fs' d/\Uq c d:=by
 obtain⟨u,n,q,C,D,E⟩:=A.mem Aa hi;have o:s.1=(c.2.2.2.1.getD (Z8 c.2.2.2.1 id).toNat Zc).1:=e1.trans q.symm;have U:∀x∈c.2.2.2.1,∃y∈d.2.2.2.1,y.1=x.1/\Up x y:=λx hx=>by
  rw[el];by_cases r:x.1=id
  ·have:x=atV c id:=Zso A.srt hx u (r.trans q.symm);subst this;exact⟨s,Lv.2 ⟨_,by rw[L1];exact n,List.getElem_set_self _⟩,o,up⟩
  ·refine⟨x,?_,rfl,Up.refl x⟩;obtain⟨j,w,rfl⟩:=Lv.1 hx;have:(Z8 c.2.2.2.1 id).toNat≠j:=λe=>r Ac;exact Lv.2 ⟨j,by rw[L1];exact w,by simp[Md,this]⟩
 refine⟨{inv:=⟨by rw[el];exact(A.inv.str.mono hk).set hs _,by rw[et];exact A.inv.pk.mono hk⟩,sv:=ec.trans A.sv,own:=by rw[eo];exact A.own,peer:=by rw[ep];exact A.peer,srt:= ?_,len:=by rw[el,L1];exact A.len,all:=λx hx=>?_,sm:=λk=>?_,fsk:=λf m t=>by obtain⟨x,hx,e⟩:=hf f m t;obtain⟨y,z,B,-⟩:=U x hx;exact⟨y,z,B.trans e⟩,tot:=tot,inf:=inf,ob:=ob,ou:=ou,ab:=ab,au:=au,lst:=lst,num:=by rw[et];exact A.num,pks:=by rw[et];exact A.pks,now:=by rw[et];exact A.now,clo:=by rw[et];exact A.clo},⟨Ag,U⟩,Ag⟩
 ·rw[el];have e:=Zgm (g:=λs:Zf=>s.1) (s:=s) (d:=Zc) (l:=c.2.2.2.1) (i:=(Z8 c.2.2.2.1 id).toNat) o;have p:(c.2.2.2.1.map λs=>s.1).Pairwise λa b=>a<b:=Mi.2 A.srt;rw[<-e]at p;exact Mi.1 p
 ·rw[el]at hx;rw[eb];rcases Qbp A.srt n o hx with rfl|⟨m,t⟩
  ·rw[e1];exact h
  ·exact⟨ho x m Aa (A.all x m).1,(A.all x m).2⟩
 ·rw[el,es,Zsq n,A.sm]
theorem Z98{f g:Zf->Int}:∀l:List Zf,lg (λs=>f s-g s) l=lg f l-lg g l
 |[]=>rfl
 |x::l=>by simp only[lg,Z98 l];omega
theorem Z18{f:Zf->Int}{l:List Zf}(h:∀s∈l,g s<=f s)(hs:s∈l):f s-g s<=lg f l-lg g l:=by
 rw[<-Z98];exact(Z7c (f:=λs=>f s-g s) λx hx=>Ag).2 s hs
theorem Zp8(a:Qu):(coV a).2.2.1=a.2.2.1:=by
 grind[coV]
theorem Qc5(h:Zin a)(k:a.2.2.2.1<a.2.2.1):(coV a).2.2.2.1=a.2.2.2.1+1:=by
 grind[coV,Zws]
theorem SA.cnt{v:Bool}(h:SA v fs b s):SA v fs b (WN s):=
 {F:={h.F with},k:=h.k,q:=h.q,cu:=h.cu,ws:=h.ws,wr:=h.wr,ix:=h.ix,fl:=h.fl,ins:=h.ins,cs8:=h.cs8,st5:=h.st5}
theorem AU.save{K:Nat}{v:Bool}(A:AU K v fs c)(hK:K'<=1000000)(hk:K<=K')(hi:0<=Z8 c.2.2.2.1 id)(e1:s.1=id)(hs:Xc K' s)(h:SA v fs' (bI c id) s)(cn:uY s=uY (atV c id))(ov:zJ (atV c id)=K2->zJ s=K2)
  (ho:∀x∈c.2.2.2.1,x.1≠id->SA v fs (bI c x.1) x->SA v fs' (bI c x.1) x) (hf:∀f∈fs',f.1=8\/f.1=5-> ∃s∈c.2.2.2.1,s.1=f.2.1) (W:Zh4 w) (w1:w.2.2.2.1=c.2.2.2.2.2.1.2.2.2.1+mY s-mY (atV c id)) (w2:w.2.2.2.2.1=c.2.2.2.2.2.1.2.2.2.2.1+rdF s-rdF (atV c id)) (sn:j0 s=j0 (atV c id)) (up:Up (atV c id) s):
  AU K' v fs' (fin (kL (re c w) id s) id)/\Uq c (fin (kL (re c w) id s) id):=by
 obtain⟨G,L,n,N,M,O⟩:=A.mem Aa hi;have H:s.1=(c.2.2.2.1.getD (Z8 c.2.2.2.1 id).toNat Zc).1:=e1.trans n.symm;have o:Z8 (c.2.2.2.1.set (Z8 c.2.2.2.1 id).toNat s) id=Z8 c.2.2.2.1 id:=Zcs id H;have u:atV (kL (re c w) id s) id=s:=by
  show(c.2.2.2.1.set _ s).getD (Z8 (c.2.2.2.1.set _ s) id).toNat Zc=s;rw[o];exact yk L
 have r:s.1=(atV c id).1:=H;have l:∀k,3<=k->k<=5->ms v k s=ms v k (atV c id):=λk a b=>Qph r a b;have y:c.1=v:=A.sv;unfold fin;rw[u,show(kL (re c w) id s).1=v from y];cases hb:ovB v s
 ·rw[pH];have t:CT v s:=λho=>by
   unfold ovB at hb;rw[ho,Bool.or_false]at hb;have P:=M Ag;rw[cn];cases hc:uY (atV c id)
   ·grind
   grind
  refine A.set hK hk hi e1 hs ⟨h,t⟩ ho hf rfl rfl rfl rfl (λ_=>rfl) (λk=>?_) A.tot W A.ob A.ou A.ab A.au A.lst rfl up
  match k with
  |0=>show _=_+j0 s-j0 (atV c id);rw[sn];show c.2.2.2.2.1.2.1=c.2.2.2.2.1.2.1+_-_;omega
  |1=>exact w1
  |2=>exact w2
  |3=>rw[l 3 Aa Aa];simp[SC]
  |4=>rw[l 4 Aa Aa];simp[SC]
  |5=>rw[l 5 Aa Aa];simp[SC]
  |6=>simp only[ms,cn,r];simp[SC]
  |k+7=>simp only[ms,cn,r];simp[SC]
 ·rw[pG];unfold ovB at hb;simp only[pC,Lr,Lg]at hb;obtain⟨⟨Q,S⟩,I⟩:=hb;have m:Xc K' (WN s):=⟨hs.snd,hs.rcv⟩
  have t:CT v (WN s):=λ_=>by
   rw[ovF m hK h.cnt.F];rw[ovF hs hK h.F]at I;exact I.symm
  have J:((kL (re c w) id s).2.2.2.1.set (Z8 (kL (re c w) id s).2.2.2.1 id).toNat (WN s))=c.2.2.2.1.set (Z8 c.2.2.2.1 id).toNat (WN s):=by
   show(c.2.2.2.1.set _ s).set (Z8 (c.2.2.2.1.set _ s) id).toNat (WN s)=_;rw[o,List.set_set]
  have p:eg v id=false:=Ag
  have j:uY (WN s)=true:=rfl;have q:uY (atV c id)=false:=Ag
  have z:∀x∈c.2.2.2.1,ms v 6 x<=ms v 4 x:=λx _=>by simp only[ms];cases uY x<;>cases (!eg v x.1&& !cJ x.1)<;>decide
  have B:∀x∈c.2.2.2.1,ms v 7 x<=ms v 5 x:=λx _=>by simp only[ms];cases uY x<;>cases (!eg v x.1&&cJ x.1)<;>decide
  have e:=Z18 z G;have g:=Z18 B G;rw[A.sm,A.sm]at e g;simp only[ms,n,p,q,Lp,pJ,Lm]at e g;have C:(WN s).1=(atV c id).1:=r;have d:∀k,3<=k->k<=5->ms v k (WN s)=ms v k (atV c id):=λk a b=>Qph C a b;cases hu:cJ id
  ·rw[hu]at e g;have D:c.2.2.2.2.2.2.2.2.1.2.2.2.1<c.2.2.2.2.2.2.2.2.1.2.2.1:=by
    have:jy K2-jy La<=c.2.2.2.2.2.2.2.2.1.2.2.1-c.2.2.2.2.2.2.2.2.1.2.2.2.1:=e;simp only[jy,pG,pH]at this;omega
   have E:=Qc5 A.ab D;unfold xH Xw;rw[hu];refine A.set hK hk hi (s:=WN s) e1 m ⟨h.cnt,t⟩ ho hf J rfl rfl rfl (λi=>?_) (λk=>?_) A.tot W A.ob A.ou (Qcs A.ab) A.au A.lst rfl {up with}
   ·show(cond (eg c.1 i) _ (cond (cJ i) _ (coV c.2.2.2.2.2.2.2.2.1).2.2.1))=_;rw[Zp8];rfl
   match k with
   |0=>show c.2.2.2.2.1.2.1=c.2.2.2.2.1.2.1+j0 s-j0 (atV c id);omega
   |1=>exact w1
   |2=>exact w2
   |3=>rw[d 3 Aa Aa];simp[SC]
   |4=>rw[d 4 Aa Aa];show(coV c.2.2.2.2.2.2.2.2.1).2.2.1=SC c 4+_-_;simp[Zp8,SC]
   |5=>rw[d 5 Aa Aa];simp[SC]
   |6=>
    show(coV c.2.2.2.2.2.2.2.2.1).2.2.2.1=_;rw[E];simp only[ms,q,j,e1,n,p,hu,SC,jy,Lp,pJ,Lm,pG,pH];omega
   |k+7=>
    show SC c 7=SC c 7+_-_;simp only[ms,q,j,e1,n,p,hu,jy,Lp,pJ,Lm,Lx,pG,pH];omega
  ·rw[hu]at e g;have D:c.2.2.2.2.2.2.2.2.2.1.2.2.2.1<c.2.2.2.2.2.2.2.2.2.1.2.2.1:=by
    have:jy K2-jy La<=c.2.2.2.2.2.2.2.2.2.1.2.2.1-c.2.2.2.2.2.2.2.2.2.1.2.2.2.1:=g;simp only[jy,pG,pH]at this;omega
   have E:=Qc5 A.au D;unfold xH Xw;rw[hu];refine A.set hK hk hi (s:=WN s) e1 m ⟨h.cnt,t⟩ ho hf J rfl rfl rfl (λi=>?_) (λk=>?_) A.tot W A.ob A.ou A.ab (Qcs A.au) A.lst rfl {up with}
   ·show(cond (eg c.1 i) _ (cond (cJ i) (coV c.2.2.2.2.2.2.2.2.2.1).2.2.1 _))=_;rw[Zp8];rfl
   match k with
   |0=>show c.2.2.2.2.1.2.1=c.2.2.2.2.1.2.1+j0 s-j0 (atV c id);omega
   |1=>exact w1
   |2=>exact w2
   |3=>rw[d 3 Aa Aa];simp[SC]
   |4=>rw[d 4 Aa Aa];simp[SC]
   |5=>rw[d 5 Aa Aa];show(coV c.2.2.2.2.2.2.2.2.2.1).2.2.1=SC c 5+_-_;simp[Zp8,SC]
   |6=>
    show SC c 6=SC c 6+_-_;simp only[ms,q,j,e1,n,p,hu,jy,Lp,pI,pJ,Lm,Lx,pG,pH];omega
   |k+7=>
    show(coV c.2.2.2.2.2.2.2.2.2.1).2.2.2.1=_;rw[E];simp only[ms,q,j,e1,n,p,hu,SC,jy,Lp,pJ,Lm,pG,pH];omega
theorem AU.put{K:Nat}{v:Bool}(A:AU K v fs c)(hK:K'<=1000000)(hk:K<=K')(hi:0<=Z8 c.2.2.2.1 id)(e1:s.1=id)(hs:Xc K' s)(h:SA v fs' (bI c id) s)(cn:uY s=uY (atV c id))(ov:zJ s=zJ (atV c id))
  (ho:∀x∈c.2.2.2.1,x.1≠id->SA v fs (bI c x.1) x->SA v fs' (bI c x.1) x) (hf:∀f∈fs',f.1=8\/f.1=5-> ∃s∈c.2.2.2.1,s.1=f.2.1) (hg:mY s=mY (atV c id)) (rd:rdF s=rdF (atV c id)) (sn:j0 s=j0 (atV c id)) (up:Up (atV c id) s):
  AU K' v fs' (kL c id s)/\Uq c (kL c id s):=by
 obtain⟨e,g,a,i,b,j⟩:=A.mem Aa hi;have d:s.1=(atV c id).1:=e1.trans a.symm;refine A.set hK hk hi e1 hs ⟨h,λo=>by rw[cn,ov];exact b Ag⟩ ho hf rfl rfl rfl rfl (λ_=>rfl) (λk=>?_) A.tot A.inf A.ob A.ou A.ab A.au A.lst rfl up;have:ms v k s=ms v k (atV c id):=by
  match k with
  |0=>exact sn
  |1=>exact hg
  |2=>exact rd
  |3=>grind[ms]
  |4=>grind[ms]
  |5=>grind[ms]
  |6=>grind[ms]
  |k+7=>simp only[ms,d,cn]
 show SC c k=_;omega
theorem SA.snd{v:Bool}{fs:List Zj}{b:Int}{s:Zf}{x:Zk}(h:SA v fs b s)(M:Mv s.2.1 x)(ef:x.2.2.2.1=s.2.1.2.2.2.1)(es:x.1=s.2.1.1)(eS:x.2.2.2.2.2.2.2.1=s.2.1.2.2.2.2.2.2.2.1)(cs:s.2.2.2.2.2.2.1=K2):SA v fs b (lL s x):=
 {F:={h.F with snd:=M.q.f,su:=by show x.2.2.2.2.2.2.2.1<=_;rw[eS];exact h.F.su,tr:=λt=>by show x.1=4;rw[es];exact h.F.tr t,cs:=.inl cs},k:=h.k,q:=M.q,cu:=by show s.2.2.1.2.1=x.2.2.2.2.2.2.2.1;rw[eS];exact h.cu,ws:=h.ws,wr:=h.wr,ix:=h.ix,fl:=λc n=>by show _=hs n x.2.2.2.1;rw[ef];exact h.fl Ac n,ins:=λc f d a b=>M.isn _ (h.ins Ac f d a b) c,cs8:=h.cs8,st5:=h.st5}
theorem ovS{K:Nat}{v:Bool}(h:Xc K s)(h':Xc K (lL s x))(hK:K<=1000000)(S:SA v fs b s)(S':SA v fs b (lL s x))(es:x.1=s.2.1.1):zJ (lL s x)=zJ s:=by
 rw[ovF h hK S.F,ovF h' hK S'.F];simp only[es]
section
variable {K:Nat}{v:Bool}{fs:List Zj}{c:Ze}
theorem Qoe(A:AU K v fs c)(id:Int)(d:Ba)(hK:K+d.length<=490000):T (kY c id d) λr=>(AU (K+d.length) v fs r.2.1/\Uq c r.2.1)/\0<=r.1/\r.1<=d.length:=by
 unfold kY tD tT;rw[Ji A.inv,V8 A.inv Aa,vj A.inv];simp only[pA];by_cases b:0<=Z8 c.2.2.2.1 id
 ·rw[if_pos b];refine T.ite (λ_=>T.pure ⟨⟨A.mono Aa,Uq.refl c⟩,K3 _,Ab⟩) λf=>?_;simp only[Lg,Lo]at f;obtain⟨t,u,m,i,w,g⟩:=A.mem Aa b;obtain⟨x,n,e,hx⟩:=Zwm g.snd d;obtain⟨M,o,j,k,y⟩:=Qxm g.snd d Aa i.q _ e;have l:=i.snd M o j k f.2;have a:Xc (K+d.length) (lL (atV c id) x):=⟨hx,(g.mono Aa).rcv⟩
  have p:0<=Z8 c.2.2.2.1 (lL (atV c id) x).1:=Ac
  rw[e,pA];simp only;rw[Zfq (A.inv.str.mono Aa) a Aa p,pA];refine T.pure ?_;have:=A.put (K':=K+d.length) Aa Aa b (s:=lL (atV c id) x) m a l rfl (ovS (g.mono Aa) a Aa i l j) (λ_ _ _ h=>h) A.fsk rfl rfl k ⟨K3 _,M.snt,M.st,K3 _,K3 _,.inr rfl,λh=>h⟩;simp_all
 ·rw[if_neg b];refine T.ite (λ_=>T.pure ⟨⟨A.mono Aa,Uq.refl c⟩,K3 _,Ab⟩) λf=>?_;simp at f
theorem Qig(A:AU K v fs c)(id:Int)(hK:K<=490000):T (iY c id) λr=>AU K v fs r.1/\Uq c r.1:=by
 unfold iY tD tT;rw[Ji A.inv,V8 A.inv Aa,vj A.inv];simp only[pA];by_cases d:0<=Z8 c.2.2.2.1 id
 ·rw[if_pos d];refine T.ite (λ_=>T.pure ⟨A,Uq.refl c⟩) λg=>?_;simp only[Lg,Lo]at g;obtain⟨p,t,l,f,u,b⟩:=A.mem Aa d;obtain⟨x,n,e,hx⟩:=Zvu b.snd;obtain⟨M,m,i,j⟩:=Qwn b.snd Aa f.q _ e;have k:=f.snd M m i j g.2;have a:Xc K (lL (atV c id) x):=⟨hx,b.rcv⟩
  have o:0<=Z8 c.2.2.2.1 (lL (atV c id) x).1:=Ac
  rw[e,pA];refine T.ite (λ_=>T.pure ⟨A,Uq.refl c⟩) λ_=>?_;simp only;rw[Zfq A.inv.str a Aa o,pA];refine T.pure ?_;have:=A.put Aa (Le _) d (s:=lL (atV c id) x) l a k rfl (ovS b a Aa f k i) (λ_ _ _ h=>h) A.fsk rfl rfl j ⟨K3 _,M.snt,M.st,K3 _,K3 _,.inr rfl,λh=>h⟩;simp_all
 simp_all[if_neg,T.pure,Uq.refl]
theorem Qkk{K:Int}{s:Zk}(h:Jr K s)(hK:K<=1000000)(Q:SQu s)(code:Int):Pc (Ju s code) λr=>r.2.1=K2->(SQu r.1/\r.1.1=4/\r.1.2.2.2.2.2.2.2.1=s.2.2.2.2.2.2.2.1)/\s.1<=2:=λy e c=>by
 obtain⟨a,b,d⟩:=Qvj h hK code y e c;refine⟨⟨⟨a,λf=>Aa⟩,b,d⟩,?_⟩;unfold Ju gH at e;rw[Zku h hK,pA,lI h hK]at e
 grind
theorem SA.rst(h:SA v fs b s)(q:SQu x)(h4:x.1=4)(eS:x.2.2.2.2.2.2.2.1=s.2.1.2.2.2.2.2.2.2.1)(cs:s.2.2.2.2.2.2.1=K2):SA v fs b (yM (lL s x)):=
 {F:={h.F with snd:=q.f,su:=by show x.2.2.2.2.2.2.2.1<=_;rw[eS];exact h.F.su,tr:=λ_=>h4,cs:=.inl cs},k:=h.k,q:=q,cu:=by show s.2.2.1.2.1=x.2.2.2.2.2.2.2.1;rw[eS];exact h.cu,ws:=h.ws,wr:=h.wr,ix:=h.ix,fl:=λh _=>absurd h Ac,ins:=λh _ _ _ _=>absurd h Ac,cs8:=h.cs8,st5:=h.st5}
theorem ovR{x:Zk}(h:Xc K s)(hK:K<=1000000)(S:SA v fs b s)(h2:s.2.1.1<=2)(cs:s.2.2.2.2.2.2.1=K2):zJ s=false:=by
 rw[ovF h hK S.F,cs]
 grind
theorem Qnh(A:AU K v fs c)(id n:Int)(hK:K<=490000):T (kW c id n) λr=>AU K v fs r.1.1/\Uq c r.1.1:=by
 unfold kW tV;rw[Ji A.inv,V8 A.inv Aa,vj A.inv];simp only[pA];by_cases b:0<=Z8 c.2.2.2.1 id
 ·rw[if_pos b];refine T.ite (λ_=>T.pure ⟨A,Uq.refl c⟩) λf=>?_;simp only[Lg,Lo]at f;obtain⟨z,B,l,i,C,d⟩:=A.mem Aa b;obtain⟨x,D,e,hx⟩:=ZH d.snd n;have g:=Qkk d.snd Aa i.q n _ e;rw[e,pA];refine T.ite (λ_=>T.pure ⟨A,Uq.refl c⟩) λm=>?_;obtain⟨⟨p,j,k⟩,t⟩:=g (by simpa using m);have j:x.1=4:=j;have a:Xc K (yM (lL (atV c id) x)):=⟨hx,d.rcv⟩
  have u:=i.rst p j k f.2;have y:Vh c (yM (lL (atV c id) x))=_:=Zh3 A.inv a Aa (show(yM (lL (atV c id) x)).1=id from l) b;simp only;rw[show Vh c _=_ from y,pA];refine T.pure ?_;exact A.save (w:=c.2.2.2.2.2.1) Aa (Le _) b (s:=yM (lL (atV c id) x)) l a u rfl (λo=>by rw[ovR (x:=x) d Aa i t f.2]at o;cases o) (λ_ _ _ h=>h) A.fsk A.inf AB Ak k ⟨K3 _,Lj k.symm,Ag,K3 _,K3 _,.inr rfl,λh=>h⟩
 simp_all[if_neg,T.pure,Uq.refl]
abbrev Qev(s:Zf)(n:Int):Zf:=(s.1,s.2.1,s.2.2.1,s.2.2.2.1,s.2.2.2.2.1,s.2.2.2.2.2.1,s.2.2.2.2.2.2.1,s.2.2.2.2.2.2.2.1,s.2.2.2.2.2.2.2.2.1,K2,s.2.2.2.2.2.2.2.2.2.2.1,K2,n,s.2.2.2.2.2.2.2.2.2.2.2.2.2)
theorem Qsu(A:AU K v fs c)(id n:Int)(hK:K<=490000):T (mR c id n) λr=>AU K v fs r.1/\Uq c r.1:=by
 unfold mR gH tD;rw[Ji A.inv,V8 A.inv Aa,vj A.inv];simp only[pA,Kh,bO,bO2];by_cases b:0<=Z8 c.2.2.2.1 id
 ·rw[if_pos b];refine T.ite (λ_=>T.pure ⟨A,Uq.refl c⟩) λf=>?_;simp only[Lg,Lo]at f;obtain⟨⟨⟨⟨-,i⟩,o⟩,p⟩,j⟩:=f;have k:=X4.1 j;obtain⟨q,t,l,d,u,e⟩:=A.mem Aa b;have g:SA v fs (bI c id) (Qev (atV c id) n):=
   {d with F:={d.F with code:=k,ts:=λ_=>rfl,sc:=λ_=>rfl,cr:=.inl i},st5:=λ_ _ _ _=>rfl}
  have a:Xc K (Qev (atV c id) n):=⟨e.snd,e.rcv⟩
  have m:0<=Z8 c.2.2.2.1 (Qev (atV c id) n).1:=Ac
  simp only;rw[show Q8 c.2.2.2.1 _=_ from Zfq A.inv.str a Aa m,pA];refine T.pure ?_;have:=A.put Aa (Le _) b (s:=Qev (atV c id) n) l a g rfl (by rw[ovF e (by omega) d.F,ovF a (by omega) g.F]) (λ_ _ _ h=>h) A.fsk rfl rfl rfl ⟨K3 _,K3 _,K3 _,K3 _,K3 _,.inr rfl,λ_=>rfl⟩;simp_all
 simp_all[if_neg,T.pure,Uq.refl]
theorem Qsz(A:AU K v fs c)(n:Int)(hK:K<=490000):T (tx c n) λr=>AU K v fs r.1/\Uq c r.1:=by
 unfold tx gH tK;rw[Ji A.inv,vj A.inv];simp only[pA,inQ,bO,bO2];refine T.ite (λ_=>T.pure ⟨A,Uq.refl c⟩) λa=>T.pure ?_;simp only[Lg,Lo,decide_eq_false_iff_not]at a;obtain⟨⟨-,b⟩,d⟩:=a;have b:=Ws.1 b;have w:=A.now;rw[Zr]at d⊢;exact⟨{A with inv:=⟨A.inv.str,A.inv.pk⟩,now:=by simp only;omega},⟨K3 _,λs h=>⟨s,h,rfl,Up.refl s⟩⟩,rfl⟩
end
section
variable {K:Nat}{v:Bool}{fs:List Zj}{c:Ze}
theorem Qrx(p:Q7)(t:Ba):Pc (aQ p t) λr=>0<=r.1.1/\r.1.1<=7:=by
 have d:∀n:Int,48<=n->n<=55->0<=Lc.wrap (L9.wrap (n-48))/\Lc.wrap (L9.wrap (n-48))<=7:=λn f g=>by
  have:n=48\/n=49\/n=50\/n=51\/n=52\/n=53\/n=54\/n=55:=Aa
  rcases this with rfl|rfl|rfl|rfl|rfl|rfl|rfl|rfl<;>decide
 have e:∀(N:Nat)(b t:Q7)(l:List Ba)(i:Int),0<=b.1/\b.1<=7->Pc (X6 N b t l i) λr=>0<=r.1.1/\r.1.1<=7:=by
  intro N
  induction N with
  |zero=>intros;exact Pc.none
  |succ N a=>
   intro b t l i c;unfold X6 Jk;refine Pc.ite (λ_=>Pc.guard (Pc.skip λq=>Pc.ite (λ_=>a _ _ _ _ c) λ_=>Pc.ite (λ_=>a _ _ _ _ c) λ_=>Pc.guard ?_)) λ_=>Pc.pure c;refine Pc.guard (Pc.guard (Pc.ite (λh=>Pc.guard (a _ _ _ _ ?_)) λ_=>a _ _ _ _ c));simp_all
 unfold aQ Vb;rw[prE,pA];refine Pc.ite (λ_=>?_) λh=>Pc.skip λ_=>e _ _ _ _ _ (Ws.1 (by simp_all[prB]));simp_all[V7,Pc.skip]
abbrev Qm8(s:Zf)(p:Q7):Zf:=(s.1,s.2.1,s.2.2.1,s.2.2.2.1,s.2.2.2.2.1,p,s.2.2.2.2.2.2)
theorem Qsd(A:AU K v fs c)(id:Int)(t:Ba)(ht:t.length<=100000)(hK:K<=490000):T (kX c id t) λr=>AU K v fs r.1/\Uq c r.1:=by
 unfold kX tD tR;rw[Ji A.inv,V8 A.inv Aa,vj A.inv];simp only[pA];by_cases b:0<=Z8 c.2.2.2.1 id
 ·rw[if_pos b];refine T.ite (λ_=>T.pure ⟨A,Uq.refl c⟩) λl=>?_;obtain⟨p,f,-⟩:=Qry (atV c id).2.2.2.2.2.1 t ht;have i:=Qrx _ _ _ f;rw[f,pA];obtain⟨m,n,j,d,o,e⟩:=A.mem Aa b;have g:SA v fs (bI c id) (Qm8 (atV c id) p.1):={d with F:={d.F with pr:=i}}
  have a:Xc K (Qm8 (atV c id) p.1):=⟨e.snd,e.rcv⟩
  have k:0<=Z8 c.2.2.2.1 (Qm8 (atV c id) p.1).1:=Ac
  simp only;rw[show Q8 c.2.2.2.1 _=_ from Zfq A.inv.str a Aa k,pA];refine T.pure ?_;have:=A.put Aa (Le _) b (s:=Qm8 (atV c id) p.1) j a g rfl (by rw[ovF e (by omega) d.F,ovF a (by omega) g.F]) (λ_ _ _ h=>h) A.fsk rfl rfl rfl ⟨K3 _,K3 _,K3 _,K3 _,K3 _,.inr rfl,λh=>h⟩;simp_all
 simp_all[if_neg,T.pure,Uq.refl]
theorem Zy6{e:Int}{c:Qd}{l:List Qd}(hl:c.2.1.length<=1000000)(he: -1<=e:=by omega):ckB e (c::l)=K2↔(e<c.1/\c.2.1≠[]/\c.1+(c.2.1.length:Int)<=4611686018427387903)/\ckB (c.1+(c.2.1.length:Int)) l=true:=by
 simp only[ckB,pC,Lr,Lg,decide_eq_false_iff_not,beq_eq_false_iff_ne]
 grind[Zr]
theorem Qht{e e':Int}{l:List Qd}(h:ckB e l=K2)(k:e'<=e):ckB e' l=true:=by
 cases l with
 |nil=>rfl
 |cons c l=>
  simp only[ckB,pC,Lr,Lg,decide_eq_false_iff_not]at h⊢
  grind
theorem tkB{b:Zv}(h:bZ K b)(hK:K<=1000000)(hb:qs b=K2)(m:Int):Pc (iD b m) λy=>qs y.2.1=K2/\b.1<=y.2.1.1/\y.2.1.1+Jq y.2.1=b.1+Jq b/\ ∀c∈y.2.1.2.1,∃d∈b.2.1,Jo c=Jo d:=by
 have F:=h.tot;have G:=h.len
 obtain⟨H,I,u⟩:=Zu5 h;obtain⟨J,L,v⟩:=Z49 Aa hb;unfold iD;rw[lK _,pA,zL h hK,pA];refine Pc.ite (λ_=>Pc.pure ⟨hb,K3 _,rfl,λc e=>⟨c,e,rfl⟩⟩) λp=>Pc.guard ?_;have p:min (Jq b) (max m 0)≠0:=by simpa using p
 generalize M:min (Jq b) (max m 0)=n at*
 obtain⟨-,c,l,e,N⟩:=u Aa;have O:c.1=b.1:=by
  by_cases j:qs b=K2/\b.2.1≠[]/\(b.2.1.getD 0 Qt).1=b.1
  ·simp_all
  ·have:Jq b=0:=if_neg j;omega
 have w:b.2.1.getD (0:Int).toNat Qt=c:=by rw[e];rfl
 have x:c∈b.2.1:=Ac
 have A:=v c x;unfold Jo at A;have k:c.2.1.length<=1000000:=Aa
 have a:ckB (b.1-1) b.2.1=true:=by
  unfold qs at hb;rw[Zr]at hb;simp_all
 rw[e,Zy6 k]at a;simp only[w];rw[Zr (n:=b.1+n)];have r:∀(z:Int)(q:List Qd),0<=z->z<=4611686018427387903->ckB (z-1) q=K2->qs (z,q,b.2.2)=true:=λz q P o s=>by
  grind[qs,Zr,X4]
 refine Pc.ite (λf=>Pc.guard ?_) λf=>Pc.guard (Pc.guard (Pc.guard (Pc.pure ?_)))
 ·have f:n=(c.2.1.length:Int):=by simpa using f
  have B:(b.2.1.drop (1:Int).toNat).take ((b.2.1.length:Int).toNat- (1:Int).toNat)=l:=by rw[e];simp
  rw[B];have t:mj l<=K/\l.length<=K:=by grind[mj]
  have C:bZ K (b.1+n,l,b.2.2):=⟨t.2,t.1⟩
  rw[zL C hK,pA];have i:=r (b.1+n) l Aa Aa (Qht a.2 Aa);refine Pc.pure ⟨i,Ab,?_,λd hd=>⟨d,Ac,rfl⟩⟩;have:Jq (b.1+n,l,b.2.2)=0:=by
   unfold Jq;refine if_neg λj=>?_;obtain⟨-,o,s⟩:=j;simp only at o s;cases l with
   |nil=>exact o rfl
   |cons d l=>
    have g:=a.2;have D:d∈b.2.1:=by rw[e];simp
    rw[Zy6 (by have:=Zak D;omega)]at g;simp_all
  simp_all
 ·have f:n≠(c.2.1.length:Int):=by simpa using f
  have E:b.2.1.set (0:Int).toNat (b.1+n,(c.2.1.drop n.toNat).take ((c.2.1.length:Int).toNat-n.toNat),())=(b.1+n,c.2.1.drop n.toNat,())::l:=by
   simp_all[List.take_of_length_le]
  rw[E];have Q:(c.2.1.drop n.toNat).length=c.2.1.length-n.toNat:=List.length_drop;have g:ckB (b.1+n-1) ((b.1+n,c.2.1.drop n.toNat,())::l)=true:=by
   rw[Zy6 Ab]
   grind
  have i:=r (b.1+n) _ Aa Aa g;refine⟨i,Ab,?_,λd hd=>?_⟩
  ·have:Jq (b.1+n,(b.1+n,c.2.1.drop n.toNat,())::l,b.2.2)=((c.2.1.drop n.toNat).length:Int):=if_pos ⟨i,Ae,rfl⟩
   grind
  ·rcases Li.1 hd with rfl|hd
   ·grind[Jo]
   grind
theorem Qvc(h:bZ K r.2.1)(hK:K<=1000000)(R:Zpu r)(m:Int):Pc (Vw r m) λy=>Zpu y.1.2.1/\y.1.2.1.2.2=r.2.2/\r.2.1.1<=y.1.2.1.2.1.1/\(4<=y.1.2.1.1->y.1.2.1.2.1.1=r.2.1.1)/\(r.1=3\/r.1=5->y.1.2.1.1=r.1):=by
 have u:=(VV h hK).2 R;unfold Vw;rw[Zc2 h hK,pA,Zkn h hK,u,pA];have S:=R.st;refine Pc.ite (λv=>by simp at v) λ_=>Pc.ite (λa=>Pc.pure ?_) λa=>?_
 ·have a:r.1=4:=by simpa using a
  have x:r.2.2.1≠ -1/\r.2.2.2.1=r.2.2.1/\r.2.1.2.1=[]:=by
   simp_all
  exact⟨{R with st:=.inr (.inr (.inr (.inr ⟨.inr rfl,x⟩)))},rfl,K3 _,λ_=>rfl,λh=>Aa⟩
 ·have a:r.1≠4:=by simpa using a
  obtain⟨s,y,e,o,-⟩:=Zll h hK m;obtain⟨b,i,z,p⟩:=tkB h hK R.buf m _ e;rw[e,pA];simp only at b i z p⊢;obtain⟨D,E,A⟩:=Zfu o hK b;obtain⟨F,G,q⟩:=Zfu h hK R.buf;have ec:∀c∈y.2.1,Jo c<=r.2.2.2.1:=λc B=>by obtain⟨d,j,e⟩:=p c B;have:=R.ec d j;omega
  have e0:y.1<=r.2.2.2.1:=by
   have:=R.e0;rcases q with w|⟨d,j,w⟩
   ·omega
   ·have:=R.ec d j;omega
  clear q A;have nil:r.2.1.2.1=[]->y.2.1=[]:=λH=>by
   cases hq:y.2.1 with
   |nil=>rfl
   |cons c l=>
    grind[Lf]
  unfold de;refine Pc.ite (λt=>Pc.pure ?_) λt=>Pc.pure ?_
  ·simp only[pC,beq_iff_eq]at t;have C:y.2.1=[]:=by
    cases hq:y.2.1 with
    |nil=>rfl
    |cons c l=>
     obtain⟨-,n,-⟩:=Z49 (by have:=o.tot;omega) b;rw[hq]at n;have:=ec c Ac;have f:=R.fin;have g:=n.1;have k:c.2.1≠[]:=n.2.1;have:=L0.2 k;have e:Jo c=c.1+(c.2.1.length:Int):=rfl;omega
   exact⟨{buf:=b,hq:=R.hq,e0:=e0,ec:=ec,code:=R.code,fin:=R.fin,st:=.inr (.inr (.inr (.inl ⟨rfl,Ab,Ab,C,Ab⟩)))},rfl,i,λh=>Ac,λh=>Aa⟩
  ·have st:(r.1=0/\r.2.2.1= -1/\r.2.2.2.2.1=0)\/(r.1=1/\r.2.2.1≠ -1/\y.1+Jq y≠r.2.2.1/\r.2.2.2.2.1=0)\/(r.1=2/\r.2.2.1≠ -1/\y.1+Jq y=r.2.2.1/\r.2.2.2.2.1=0)\/(r.1=3/\r.2.2.1≠ -1/\y.1+Jq y=r.2.2.1/\y.2.1=[]/\r.2.2.2.2.1=0)\/((r.1=4\/r.1=5)/\r.2.2.1≠ -1/\r.2.2.2.1=r.2.2.1/\y.2.1=[]):=by
    grind
   refine⟨{buf:=b,hq:=R.hq,e0:=e0,ec:=ec,code:=R.code,fin:=R.fin,st:=st},rfl,i,λh=>?_,λ_=>rfl⟩;have I:(r.1=4\/r.1=5)/\r.2.2.1≠ -1/\r.2.2.2.1=r.2.2.1/\r.2.1.2.1=[]:=by
    grind
   simp_all[Jq]
end
section
variable {K:Nat}{v:Bool}{fs:List Zj}{c:Ze}
theorem Z6x(W:Zh4 w)(h0:0<=n:=by omega)(h1:n<=w.2.2.2.1-w.2.2.2.2.1:=by omega):(rdV w n).2.2.2.2.1=w.2.2.2.2.1+n/\(rdV w n).2.2.2.1=w.2.2.2.1/\(rdV w n).2.2.1=w.2.2.1:=by
 unfold rdV Zko;rw[Zim.2 W,Zl h0,Zl h1];simp_all
theorem AU.room(A:AU K v fs c)(hs:s∈c.2.2.2.1):mY s-rdF s<=c.2.2.2.2.2.1.2.2.2.1-c.2.2.2.2.2.1.2.2.2.2.1:=by
 have h:=Z18 (f:=ms v 1) (g:=ms v 2) (l:=c.2.2.2.1) (λx hx=>by
  have a:=(A.all x hx).1;have b:=a.F.win.read;have d:=a.ws;show rdF x<=mY x;unfold rdF;omega) hs
 rw[A.sm,A.sm]at h;exact h
theorem SA.rcv{b:Int}{s:Zf}(h:SA v fs b s){r:Zu}{w:Ql}{K':Nat}(hr:bZ K' r.2.1)(hK:K'<=1000000)(R:Zpu r)(W:Zh4 w)(ws:w.2.2.2.1=r.2.2.2.1)(wr:r.2.1.1<=w.2.2.2.2.1)(cr:s.2.2.2.2.2.2.2.1=K2):SA v fs b (wm (yA s w) r):=
 {F:={h.F with rcv:=(VV hr hK).2 R,win:=W,hs:=Ab,cr:=.inl cr},k:=h.k,q:=h.q,cu:=h.cu,ws:=ws,wr:=wr,ix:=h.ix,fl:=h.fl,ins:=h.ins,cs8:=h.cs8,st5:=h.st5}
theorem Qr6{x:Zf}(h:Xc K s)(h':Xc K' x)(hK:K<=1000000)(hK':K'<=1000000)(S:SA v fs b s)(X:SA v fs' b' x)(e1:x.2.1.1=s.2.1.1)(e2:x.2.2.2.2.2.2.1=s.2.2.2.2.2.2.1)(e3:x.2.2.2.2.2.2.2.1=s.2.2.2.2.2.2.2.1)(e4:s.2.2.2.1.1=3\/s.2.2.2.1.1=5->x.2.2.2.1.1=s.2.2.2.1.1)(o:zJ s=K2):zJ x=true:=by
 rw[ovF h hK S.F]at o;rw[ovF h' hK' X.F,e1,e2,e3]
 grind
theorem Qsl(A:AU K v fs c)(id m:Int)(hK:K<=490000):T (mQ c id m) λr=>(AU K v fs r.1.2.2.1/\Uq c r.1.2.2.1)/\r.1.1<=K:=by
 unfold mQ tD;rw[Ji A.inv,V8 A.inv Aa,vj A.inv];simp only[pA];by_cases j:0<=Z8 c.2.2.2.1 id
 ·rw[if_pos j];refine T.ite (λ_=>T.pure ⟨⟨A,Uq.refl c⟩,Ml _⟩) λp=>?_;simp only[Lg,Lo]at p;obtain⟨I,X,o,f,Y,i⟩:=A.mem Aa j;obtain⟨d,y,e,k,D⟩:=Zsd i.rcv Aa m;obtain⟨R,q,J,L,t⟩:=Qvc i.rcv Aa ((VV i.rcv).1 f.F.rcv) m _ e;simp only at R q J L t;rw[e,pA];simp only;have b:y.2.2.2.1=mY (atV c id):=by rw[q];rfl
  have g:y.2.2.1=(atV c id).2.2.2.1.2.2.1:=by rw[q]
  have W:=f.F.win;have u:=A.inf;have E:=f.ws;have Z:=f.wr;have M:=A.room I;unfold fY;refine T.ite (λz=>?_) λz=>?_
  ·have e0:=R.e0;have G:0<=max 0 (y.2.1.1- (atV c id).2.2.2.2.1.2.2.2.2.1):=Aa
   have B:Lc.wrap (y.2.1.1- (atV c id).2.2.2.2.1.2.2.2.2.1)=y.2.1.1- (atV c id).2.2.2.2.1.2.2.2.2.1:=Zr (by have:=(Z49 (by have:=k.tot;omega) R.buf).1;have:=W.read;have:=W.seen;have:=W.lim;omega) (by have:=R.hq;have:=W.read;omega);unfold nL;simp only[Qkb,pA,B];generalize hn:max 0 (y.2.1.1- (atV c id).2.2.2.2.1.2.2.2.2.1)=n at*
   have hr:mY (atV c id)-rdF (atV c id)<=_:=M;have N:n<=(atV c id).2.2.2.2.1.2.2.2.1- (atV c id).2.2.2.2.1.2.2.2.2.1:=by have:=W.read;omega
   have O:n<=c.2.2.2.2.2.1.2.2.2.1-c.2.2.2.2.2.1.2.2.2.2.1:=Av
   obtain⟨H,P,Q⟩:=Z6x W G N;obtain⟨S,U,b3⟩:=Z6x u G O;have l:=f.rcv (w:=rdV (atV c id).2.2.2.2.1 n) k Aa R (Zlm W n).1 (by rw[P,E,b]) (by rw[H];omega) p.2;have a:Xc K (wm (yA (atV c id) (rdV (atV c id).2.2.2.2.1 n)) y):=⟨i.snd,k⟩
   have V:Q5 K (re c (rdV c.2.2.2.2.2.1 n)):=⟨A.inv.str,A.inv.pk⟩
   have C:=Zh3 (x:=re c (rdV c.2.2.2.2.2.1 n)) V a Aa (show(wm (yA (atV c id) (rdV (atV c id).2.2.2.2.1 n)) y).1=id from o) j;rw[show Vh _ _=_ from C,pA];refine T.pure ⟨?_,D⟩;exact A.save Aa (Le _) j (s:=wm (yA (atV c id) (rdV (atV c id).2.2.2.2.1 n)) y) o a l rfl (Qr6 i a Aa Aa f l rfl rfl rfl t) (λ_ _ _ h=>h) A.fsk (Zlm u n).1 (by rw[U];show _=_+y.2.2.2.1-_;omega) (by rw[S];show _=_+(rdV (atV c id).2.2.2.2.1 n).2.2.2.2.1-rdF (atV c id);rw[H];unfold rdF;omega) rfl ⟨Lj b.symm,K3 _,K3 _,K3 _,Lj Q.symm,.inr g,λh=>h⟩
  ·have z:=of_decide_eq_false z;have l:=f.rcv (w:=(atV c id).2.2.2.2.1) k Aa R W (by rw[E,b]) Aa p.2;have a:Xc K (wm (yA (atV c id) (atV c id).2.2.2.2.1) y):=⟨i.snd,k⟩
   have C:=Zh3 A.inv a Aa (show(wm (yA (atV c id) (atV c id).2.2.2.2.1) y).1=id from o) j;rw[show Vh _ _=_ from C,pA];refine T.pure ⟨?_,D⟩;exact A.save (w:=c.2.2.2.2.2.1) Aa (Le _) j (s:=wm (yA (atV c id) (atV c id).2.2.2.2.1) y) o a l rfl (Qr6 i a Aa Aa f l rfl rfl rfl t) (λ_ _ _ h=>h) A.fsk u (by show _=_+y.2.2.2.1-_;omega) Ak rfl ⟨Lj b.symm,K3 _,K3 _,K3 _,K3 _,.inr g,λh=>h⟩
 simp_all[if_neg,T.pure,Uq.refl]
theorem Qtt{n:Nat}(h:n<=4611686018427387903):bits .and .i64 (n:Int) 1=((n%2:Nat):Int):=by
 have e:bits .and .i64 (n:Int) 1=Lc.wrap (((Ln 64 (n:Int)&&&Ln 64 1).toNat:Nat):Int):=rfl;have a:(Ln 64 (n:Int)).toNat=n:=Ag
 have b:(Ln 64 1).toNat=1:=rfl;rw[e,BitVec.toNat_and,a,b,show(1:Nat)=2^1-1 from rfl,Nat.and_two_pow_sub_one_eq_mod,Zr]
theorem Qtu{n:Nat}(h:n<=4611686018427387903):bits .and .i64 (n:Int) 2=ite (n/2%2=1) 2 0:=by
 have e:bits .and .i64 (n:Int) 2=Lc.wrap (((Ln 64 (n:Int)&&&Ln 64 2).toNat:Nat):Int):=rfl;have a:(Ln 64 (n:Int)).toNat=n:=Ag
 have b:(Ln 64 2).toNat=2:=rfl;have c:(n&&&2)/2=n/2%2:=by simp[Nat.and_div_two]
 have d:n&&&2<=2:=Nat.and_le_right;have f:(n&&&2)%2^1=0:=by rw[Nat.and_mod_two_pow];simp
 grind[Zr]
theorem Qr7(v:Bool){n:Nat}(h:n<=4611686018427387903):eg v (n:Int)=(Ll (n%2=1)==v):=by
 have e:=Z9g v (n:Int);have q:aY (n:Int)=true:=X4.2 Aa;unfold fS mO at e;simp only[Kh,q,pA,pG,pJ,Qtt h,pB,pF,and_true]at e;rw[<-e];congr 1
 grind
theorem Qti{n:Nat}(h:n<=4611686018427387903):cJ (n:Int)=Ll (n/2%2=1):=by
 have e:=Z2d (n:Int);have q:aY (n:Int)=true:=X4.2 Aa;unfold av at e;simp only[Kh,q,pA,pJ,Qtu h,pB,pF,and_true]at e
 grind
theorem idN{n:Nat}(h:n<=4611686018427387903):idV (n:Int)=((n/4:Nat):Int):=by
 grind[X4,idV]
theorem nsE(v:Bool){p:ks}(ho:cfB o=K2)(hp:cfB p=K2)(hq:aY id=K2):∃s1 s2:Bool,nsV v id o p=(id,((0:Int),(o.1,(0:Int),(0:Int),Mj o.1.toNat (0:Int),()),([]:List Zi),([]:List Zi),([]:List Zi),(-1:Int),qq),(p.2.1,(0:Int),(-1:Int),(-1:Int),()),((0:Int),((0:Int),([]:List Qd),()),(-1:Int),(0:Int),(0:Int),()),(o.2.1,o.2.2.1,o.2.1,qq),((3:Int),La,()),s1,s2,La,La,La,La,(0:Int),La,()):=by
 obtain⟨f,i,j⟩:=cfF ho;obtain⟨k,l,m⟩:=cfF hp;obtain⟨n,q⟩:=Qki f (K3 0) Ai;obtain⟨b,e,r⟩:=Z6j v id o p;have a:dO o.1=K4 (((0:Int),(o.1,(0:Int),(0:Int),Mj o.1.toNat (0:Int),()),([]:List Zi),([]:List Zi),([]:List Zi),(-1:Int),qq),K2,()):=by
  unfold dO XZ;rw[f,pA];simp only[pI,pH]
  grind[Zb,Qp]
 have c:aS p.2.1=K4 ((p.2.1,(0:Int),(-1:Int),(-1:Int),()),K2,()):=by
  grind[aS,Kh,X4]
 have d:aT o.2.1 o.2.2.1=K4 ((o.2.1,o.2.2.1,o.2.1,qq),K2,()):=by
  grind[aT,inQ,Ws]
 obtain⟨s1,s2,g,h,s⟩:=Qc2 v hq;unfold Vq gH V7 qb at e;simp only[Kh,hq,cfE,ho,hp,pA,pI,pH,Ls,a,c,d,g,h,pB,pF]at e
 grind
theorem Z9b{id:Int}{o p:ks}(ho:cfB o=K2)(hp:cfB p=K2)(hq:aY id=K2){b:Int}(hx:idV id<b)(hf:∀f∈fs,f.1=8\/f.1=5->f.2.1≠id):SA v fs b (nsV v id o p)/\CT v (nsV v id o p)/\uY (nsV v id o p)=La/\rdF (nsV v id o p)=0:=by
 obtain⟨F,s,t,u⟩:=Qf6 v ho hp hq;obtain⟨w,e,i⟩:=Z6j v id o p;have k:=Qbv (v:=v) id o p _ e;obtain⟨x,y,d⟩:=nsE v ho hp hq;have j:∀fs:List Zj,(∀f∈fs,f.1=8->f.2.1≠id)-> ∀n,cov id n fs=0:=by
  intro fs
  induction fs with
  |nil=>intros;rfl
  |cons f r l=>
   intro h n;have:=h f Lf;simp only[cov,l λg m=>h g (Ld _ m)];unfold cvR;omega
 have S:SA v fs b (nsV v id o p):=by
  rw[d]at F k i⊢;exact {F:=F,k:=k,q:=⟨F.snd,λ_ n=>by simp[hs]⟩,cu:=rfl,ws:=rfl,wr:=K3 _,ix:=hx,fl:=λ_ n=>j fs (λf h a=>hf f h (.inl a)) n,ins:=λ_ f h a c=>absurd c (hf f h (.inl a)),cs8:=λf h a c=>absurd c (hf f h (.inl a)),st5:=λf h a c=>absurd c (hf f h (.inr a))}
 refine⟨S,λ_=>?_,?_,?_⟩
 ·rw[ovF i Aa S.F];have c:=F.can
  grind
 ·rw[d]
 ·rw[d];rfl
theorem AU.new(A:AU K v fs c)(h25:25<=K)(hK:K<=1000000)(hn:∀x∈c.2.2.2.1,x.1≠s.1)(hs:Xc K s)(h:SA v fs (bI d s.1) s/\CT v s)(el:d.2.2.2.1=zI s c.2.2.2.1)(ln:c.2.2.2.1.length<24)(ec:d.1=c.1)(eo:d.2.1=c.2.1)(ep:d.2.2.1=c.2.2.1)(eb:∀i,bI c i<=bI d i)(es:∀k,SC d k=SC c k+ms v k s)
  (tot:Zpt d.2.2.2.2.1) (inf:Zh4 d.2.2.2.2.2.1) (ob:WM d.2.2.2.2.2.2.1=K2) (ou:WM d.2.2.2.2.2.2.2.1=K2) (ab:Zin d.2.2.2.2.2.2.2.2.1) (au:Zin d.2.2.2.2.2.2.2.2.2.1) (et:d.2.2.2.2.2.2.2.2.2.2.2.2.2=c.2.2.2.2.2.2.2.2.2.2.2.2.2):AU K v fs d/\Uq c d:=by
 have l:=Zz7 s c.2.2.2.1;refine⟨{inv:=⟨⟨by rw[el];omega,λx hx=>?_⟩,by rw[et];exact A.inv.pk⟩,sv:=ec.trans A.sv,own:=by rw[eo];exact A.own,peer:=by rw[ep];exact A.peer,srt:=by rw[el];exact Zz8 A.srt hn,len:=by rw[el];omega,all:=λx hx=>?_,sm:=λk=>by rw[el,es,Zsp,A.sm],fsk:=λf g j=>?_,tot:=tot,inf:=inf,ob:=ob,ou:=ou,ab:=ab,au:=au,lst:=by rw[et];exact A.lst,num:=by rw[et];exact A.num,pks:=by rw[et];exact A.pks,now:=by rw[et];exact A.now,clo:=by rw[et];exact A.clo},⟨Ag,λx hx=>⟨x,by grind[Za5],rfl,Up.refl x⟩⟩,Ag⟩
 ·rw[el]at hx;rcases Za5.1 hx with rfl|hx
  ·exact hs
  ·exact A.inv.str.all x hx
 ·rw[el]at hx;rcases Za5.1 hx with rfl|hx
  ·exact h
  ·obtain⟨a,b⟩:=A.all x hx;exact⟨{a with ix:=by have:=a.ix;grind},b⟩
 ·obtain⟨x,hx,e⟩:=A.fsk f g j
  grind[Za5]
end
section
variable {K:Nat}{v:Bool}{fs:List Zj}{c:Ze}
theorem Z8r{l:List Zf}(hl:l.length<=1000000)(h:∀x∈l,x.1≠n):Z8 l n= -1:=by
 grind[qt,Z56,Z2]
theorem Qux{n:Nat}(hn:n<=1152921504606846975)(s u:Bool):ZK (n:Int) s u=K4 (((4*n+(cond s 1 0)+(cond u 2 0):Nat):Int),()):=by
 unfold ZK wx;rw[inQ,Ws.2 (show 0<=(n:Int)/\(n:Int)<=1152921504606846975 by omega),pA];simp only[pI,pH];rw[Zb,show(min (2:Int).toNat Lc.bits)=2 from rfl];cases s<;>cases u<;>simp(disch:=omega) only[pG,pH,Zr]<;>grind
theorem Qr4(A:AU K v fs c)(u:Bool)(h25:25<=K)(hK:K<=490000):T (mP c u) λr=>(AU K v fs r.2.1/\Uq c r.2.1)/\ -1<=r.1/\r.1<=4611686018427387903:=by
 have p:=A.sv;have H:∀(d:Ze)(n:Nat),n<=1152921504606846975->c.2.2.2.1.length<24->AU K v fs d->d.2.2.2.1=c.2.2.2.1->d.1=c.1->d.2.1=c.2.1->d.2.2.1=c.2.2.1->(cond u (d.2.2.2.2.2.2.2.1.2.1=n) (d.2.2.2.2.2.2.1.2.1=n))-> ∀e:Ze,e.1=d.1->e.2.1=d.2.1->e.2.2.1=d.2.2.1->e.2.2.2.1=d.2.2.2.1->e.2.2.2.2.1=d.2.2.2.2.1->e.2.2.2.2.2.1=d.2.2.2.2.2.1->e.2.2.2.2.2.2.2.2=d.2.2.2.2.2.2.2.2->WM e.2.2.2.2.2.2.1=K2->WM e.2.2.2.2.2.2.2.1=K2->(cond u (e.2.2.2.2.2.2.2.1.2.1=n+1/\e.2.2.2.2.2.2.1.2.1=d.2.2.2.2.2.2.1.2.1) (e.2.2.2.2.2.2.1.2.1=n+1/\e.2.2.2.2.2.2.2.1.2.1=d.2.2.2.2.2.2.2.1.2.1))->Uq c d->T (Wl u c X9 e (n:Int) K2) λr=>(AU K v fs r.2.1/\Uq c r.2.1)/\ -1<=r.1/\r.1<=4611686018427387903:=by
  intro d n P Q D V I d3 d4 j e B W X Y Z e6 l ob ou m U;unfold Wl tD;simp only[pI,pH];rw[Qux P,pA];generalize hN:4*n+(cond c.1 1 0)+(cond u 2 0)=N;have C:N<=4611686018427387903/\N/4=n/\Ll (N%2=1)=c.1/\Ll (N/2%2=1)=u:=by
   subst hN;cases c.1<;>cases u<;>simp<;>omega
  obtain⟨J,n2,n3,n4⟩:=C;have E:eg v (N:Int)=true:=by simp_all[Qr7]
  have L:cJ (N:Int)=u:=by rw[Qti J,n4]
  have o3:idV (N:Int)=n:=by rw[idN J,n2]
  have q:aY (N:Int)=true:=X4.2 Aa;have bd:bI d (N:Int)=n:=by
   unfold bI;rw[I,p,E,L,pG];cases u<;>exact j
  have be:bI e (N:Int)=n+1:=by
   unfold bI;rw[B,I,p,E,L,pG];cases u<;>exact m.1
  have F:∀x∈d.2.2.2.1,x.1≠(N:Int):=λx hx h=>by
   have:=(D.all x hx).1.ix;simp_all
  obtain⟨b,en,M⟩:=Z6j c.1 (N:Int) c.2.1 c.2.2.1;rw[en,pA];have t:(nsV c.1 (N:Int) c.2.1 c.2.2.1).1=N:=(Qf6 c.1 A.own A.peer q).2.1;have lD:=D.inv.str;rw[show e.2.2.2.1=d.2.2.2.1 from Y,Qeh (K:=K) lD (M.mono Aa) Aa (by rw[t];exact Z8r (by grind) F),pA];refine T.pure ⟨?_,Ab⟩;obtain⟨S,O,cn,rd⟩:=Z9b (v:=v) (fs:=fs) (b:=bI e (N:Int)) A.own A.peer q Aa λf hf h8=>by
   obtain⟨x,hx,h⟩:=D.fsk f hf h8;rw[<-h];exact F x hx
  have f2:=Qf6 c.1 A.own A.peer q;rw[<-p]at S O cn rd;have:=D.new (d:=(e.1,e.2.1,e.2.2.1,zI (nsV c.1 (N:Int) c.2.1 c.2.2.1) d.2.2.2.1,e.2.2.2.2)) h25 Aa (s:=nsV c.1 (N:Int) c.2.1 c.2.2.1) (by rw[t];exact F) (M.mono Aa) (by rw[t,<-p];exact⟨S,O⟩) rfl (by rw[V];exact Q) B W X (λi=>by
   have a:bI (e.1,e.2.1,e.2.2.1,zI (nsV c.1 (N:Int) c.2.1 c.2.2.1) d.2.2.2.1,e.2.2.2.2) i=bI e i:=rfl;rw[a];unfold bI;rw[B];have y:e.2.2.2.2.2.2.2.2.1=d.2.2.2.2.2.2.2.2.1:=by rw[l]
   have z:e.2.2.2.2.2.2.2.2.2.1=d.2.2.2.2.2.2.2.2.2.1:=by rw[l]
   rw[y,z];cases eg d.1 i
   ·grind
   ·cases u
    ·have:=m.1;have:=m.2;have j:d.2.2.2.2.2.2.1.2.1=n:=j
     cases cJ i<;>simp only[pG,pH]<;>omega
    ·have:=m.1;have:=m.2;have j:d.2.2.2.2.2.2.2.1.2.1=n:=j
     cases cJ i<;>simp only[pG,pH]<;>omega) (λk=>?_) (by rw[Z];exact D.tot) (by rw[e6];exact D.inf) ob ou (by show Zin e.2.2.2.2.2.2.2.2.1;rw[l];exact D.ab) (by show Zin e.2.2.2.2.2.2.2.2.2.1;rw[l];exact D.au) Ag
  ·exact⟨this.1,U.trans this.2⟩
  ·have y:e.2.2.2.2.2.2.2.2.1=d.2.2.2.2.2.2.2.2.1:=by rw[l]
   have z:e.2.2.2.2.2.2.2.2.2.1=d.2.2.2.2.2.2.2.2.2.1:=by rw[l]
   have g:eg v (nsV c.1 (N:Int) c.2.1 c.2.2.1).1=true:=by rw[t];exact E
   match k with
   |0=>show e.2.2.2.2.1.2.1=d.2.2.2.2.1.2.1+j0 _;grind
   |1=>show e.2.2.2.2.2.1.2.2.2.1=d.2.2.2.2.2.1.2.2.2.1+mY _;grind
   |2=>show e.2.2.2.2.2.1.2.2.2.2.1=d.2.2.2.2.2.1.2.2.2.2.1+rdF _;grind
   |3=>
    show e.2.2.2.2.2.2.1.2.1+e.2.2.2.2.2.2.2.1.2.1=d.2.2.2.2.2.2.1.2.1+d.2.2.2.2.2.2.2.1.2.1+jy (eg v _);rw[g];have:=m;cases u
    ·have j:d.2.2.2.2.2.2.1.2.1=n:=j;simp only[pH]at this;simp only[jy,pG];omega
    ·have j:d.2.2.2.2.2.2.2.1.2.1=n:=j;simp only[pG]at this;simp only[jy,pG];omega
   |4=>show e.2.2.2.2.2.2.2.2.1.2.2.1=d.2.2.2.2.2.2.2.2.1.2.2.1+jy (!eg v _&&_);rw[g,y];simp[jy]
   |5=>show e.2.2.2.2.2.2.2.2.2.1.2.2.1=d.2.2.2.2.2.2.2.2.2.1.2.2.1+jy (!eg v _&&_);rw[g,z];simp[jy]
   |6=>show e.2.2.2.2.2.2.2.2.1.2.2.2.1=d.2.2.2.2.2.2.2.2.1.2.2.2.1+jy ((!eg v _&&_)&&_);rw[g,y];simp[jy]
   |k+7=>show e.2.2.2.2.2.2.2.2.2.1.2.2.2.1=d.2.2.2.2.2.2.2.2.2.1.2.2.2.1+jy ((!eg v _&&_)&&_);rw[g,z];simp[jy]
 unfold mP;rw[Ji A.inv,vj A.inv];simp only[pA];refine T.ite (λ_=>T.pure ⟨⟨A,Uq.refl c⟩,Ab⟩) λhc=>?_;simp only[Lg,decide_eq_false_iff_not]at hc;unfold fX tF tL yG;refine T.ite (λG=>?_) λG=>?_
 ·subst G;have w:=Zf2.1 A.ou;rw[Qfh,A.ou,pA];simp only[pI,pH,pG];by_cases o:c.2.2.2.2.2.2.2.1.2.1=c.2.2.2.2.2.2.2.1.1
  ·rw[show(c.2.2.2.2.2.2.2.1.2.1==c.2.2.2.2.2.2.2.1.1)=K2 by simpa using o,pG,pA];unfold Wl tD;exact T.pure ⟨⟨{A with inv:=⟨A.inv.str,A.inv.pk⟩,ou:=Zf2.2 Ab},Uq.refl c⟩,Ab⟩
  ·rw[show(c.2.2.2.2.2.2.2.1.2.1==c.2.2.2.2.2.2.2.1.1)=La by simpa using o,pH,pA];rw[Zr];have:=H c c.2.2.2.2.2.2.2.1.2.1.toNat Aa Aa A rfl rfl rfl rfl (by simp only[pG];omega) (c.1,c.2.1,c.2.2.1,c.2.2.2.1,c.2.2.2.2.1,c.2.2.2.2.2.1,c.2.2.2.2.2.2.1,(c.2.2.2.2.2.2.2.1.1,c.2.2.2.2.2.2.2.1.2.1+1,c.2.2.2.2.2.2.2.1.2.2),c.2.2.2.2.2.2.2.2) rfl rfl rfl rfl rfl rfl rfl A.ob (Zf2.2 Ab) ⟨Ab,rfl⟩ (Uq.refl c);rw[L8 w.2.1.1]at this;exact this
 ·subst G;have w:=Zf2.1 A.ob;rw[Qfh,A.ob,pA];simp only[pI,pH];by_cases o:c.2.2.2.2.2.2.1.2.1=c.2.2.2.2.2.2.1.1
  ·rw[show(c.2.2.2.2.2.2.1.2.1==c.2.2.2.2.2.2.1.1)=K2 by simpa using o,pG,pA];unfold Wl tD;exact T.pure ⟨⟨{A with inv:=⟨A.inv.str,A.inv.pk⟩,ob:=Zf2.2 Ab},Uq.refl c⟩,Ab⟩
  ·rw[show(c.2.2.2.2.2.2.1.2.1==c.2.2.2.2.2.2.1.1)=La by simpa using o,pH,pA];rw[Zr];have:=H c c.2.2.2.2.2.2.1.2.1.toNat Aa Aa A rfl rfl rfl rfl (by simp only[pH];omega) (c.1,c.2.1,c.2.2.1,c.2.2.2.1,c.2.2.2.2.1,c.2.2.2.2.2.1,(c.2.2.2.2.2.2.1.1,c.2.2.2.2.2.2.1.2.1+1,c.2.2.2.2.2.2.1.2.2),c.2.2.2.2.2.2.2) rfl rfl rfl rfl rfl rfl rfl (Zf2.2 Ab) A.ou ⟨Ab,rfl⟩ (Uq.refl c);rw[L8 w.2.1.1]at this;exact this
end
theorem rwF(W:Zh4 w)(n t:Int):Zh4 (rwV w n t)/\(rwV w n t).2.2.2.1=w.2.2.2.1/\(rwV w n t).2.2.2.2.1=w.2.2.2.2.1/\w.2.2.1<=(rwV w n t).2.2.1:=by
 unfold rwV;cases h:Zva w n t
 ·simp_all
 rw[pG];unfold Zva at h;simp only[pC,Ws]at h;obtain⟨⟨-,c⟩,i⟩:=h;have a:=W.most;have b:=W.size;have d:=W.lim;have e:=W.seen;have f:=W.read;have g:=W.lr;have s:=W.since
 have z:w.1<=rwZ w n t/\rwZ w n t<=w.2.1:=by
  unfold rwZ;rw[Zr (n:=n-w.2.2.2.2.2.1),Zr (n:=2*t),Zr (n:=2*w.1)]
  grind
 unfold rwW;rw[Zr];exact⟨⟨a,Ab,Ab,Ab,f,Ab,Ab⟩,rfl,rfl,Ab⟩
theorem raF(h:Zin a):Zin (raV a)/\(raV a).2.2.1=a.2.2.1/\(raV a).2.2.2.1=a.2.2.2.1:=by
 unfold raV;cases g:Z6v a
 ·simp_all
 rw[pG];unfold Z6v at g;simp only[pC,Lr,decide_eq_false_iff_not]at g;have b:=h.most;have c:=h.lim;have d:=h.seen;have e:=h.clo;have f:=h.lc
 have g:=g.2;rw[Zr]at g⊢;exact⟨⟨b,Ab,Ab,Ab,Ab⟩,rfl,rfl⟩
theorem clF{c:Ky}(h:Zpt c):Zpt (clB c)/\(clB c).1=c.1/\(clB c).2.1=c.2.1:=by
 unfold clB;cases Zh5 c&&(c.2.2.1 !=(-1:Int))
 ·simp_all
 ·have:=h.use0;have:=h.use
  exact⟨⟨h.lim,h.use0,h.use,Ac,Ag,h.blk0,h.blk⟩,rfl,rfl⟩
theorem nbF{c:Ky}(h:Zpt c):Zpt (nbB c)/\(nbB c).1=c.1/\(nbB c).2.1=c.2.1:=by
 unfold nbB;cases ((Zh5 c&&(c.2.1==c.1))&&(c.2.2.1==(-1:Int)))&&(c.2.2.2.1 !=c.1)
 ·simp_all
 ·have:=h.use0;have:=h.use
  exact⟨⟨h.lim,h.use0,h.use,Ag,K3 _,h.told0,h.told⟩,rfl,rfl⟩
theorem ucF{c:Ky}(h:Zpt c)(ho:Zpp c n=K2):Zpt (ucC c n)/\(ucC c n).1=c.1/\(ucC c n).2.1=c.2.1+n:=by
 unfold ucC;rw[ho,pG];unfold Zpp at ho;have:=h.use0;have:=h.use;have:=h.lim
 rw[Zr (n:=c.1-c.2.1)]at ho;simp only[Lr,Lg,decide_eq_false_iff_not]at ho;rw[Zr];exact⟨⟨h.lim,Ab,Ab,h.blk0,h.blk,h.told0,h.told⟩,rfl,rfl⟩
section
variable {K:Nat}{v:Bool}{fs:List Zj}{c:Ze}
theorem Qqw(h:SA v fs b s)(c:Ze)(k:Int):SA v fs b (uA c s k)/\Up s (uA c s k)/\uY (uA c s k)=uY s/\rdF (uA c s k)=rdF s/\(uA c s k).2.2.2.2.2.2.1=s.2.2.2.2.2.2.1/\(uA c s k).2.2.2.2.2.2.2.1=s.2.2.2.2.2.2.2.1:=by
 have r:=Up.refl s;unfold uA;cases k==(4:Int)
 ·cases k==(5:Int)
  ·cases k==(17:Int)
   ·cases k==(21:Int)
    ·simp_all
    ·obtain⟨a,b,d⟩:=clF h.F.cre;exact⟨{h with F:={h.F with cre:=a,su:=by show _<=(clB s.2.2.1).2.1;rw[d];exact h.F.su},cu:=by show(clB s.2.2.1).2.1=_;rw[d];exact h.cu},{r with cl:=Lj b.symm},rfl,rfl,rfl,rfl⟩
   ·cases wcB s
    ·exact⟨{h with F:={h.F with}},{r with},rfl,rfl,rfl,rfl⟩
    ·obtain⟨a,b,d,e⟩:=rwF h.F.win (Znn c) (Zao c);exact⟨{h with F:={h.F with win:=a,hs:=by show _<=(rwV _ _ _).2.2.2.1;rw[b];exact h.F.hs},ws:=by show(rwV _ _ _).2.2.2.1=_;rw[b];exact h.ws,wr:=by show _<=(rwV _ _ _).2.2.2.2.1;rw[d];exact h.wr},{r with wl:=e},rfl,d,rfl,rfl⟩
  ·exact⟨{h with F:={h.F with ts:=λt=>by cases t}},{r with},rfl,rfl,rfl,rfl⟩
 ·exact⟨{h with F:={h.F with tr:=λt=>by cases t}},{r with},rfl,rfl,rfl,rfl⟩
theorem Qw2(A:AU K v fs c)(hK:K<=1000000)(f:Zj):AU K v fs (mkC c f)/\Uq c (mkC c f):=by
 have U:=Uq.refl c;have i:Q5 K c:=A.inv;unfold mkC;cases f.1==(16:Int)
 ·cases f.1==(18:Int)
  ·cases f.1==(20:Int)
   ·cases f.1==(22:Int)
    ·simp only[pH];by_cases g:0<=Z8 c.2.2.2.1 f.2.1
     ·rw[if_pos g];obtain⟨u,x,o,m,y,n⟩:=A.mem hK g;obtain⟨a,b,d,e,p,q⟩:=Qqw m c f.1;have hs:=Z8c n c f.1;have r:=Zzi c (atV c f.2.1) f.1;have t:=Zzh c (atV c f.2.1) f.1;exact A.put hK (Le _) g (s:=uA c (atV c f.2.1) f.1) ((Z5n c _ f.1).trans o) hs a d (by rw[ovF hs hK a.F,ovF n hK m.F,r,t,p,q]) (λ_ _ _ h=>h) A.fsk AB e (by simp_all[j0]) b
     grind
    ·have w:=Zf2.1 A.ou;have z:=Zf2.1 A.ob;cases f.2.2.2.2.2.2.2.2.1<;>simp only[pG,pH]
     ·exact⟨{A with inv:=⟨i.str,i.pk⟩,ob:=Zf2.2 Ab},U⟩
     ·exact⟨{A with inv:=⟨i.str,i.pk⟩,ou:=Zf2.2 Ab},U⟩
   ·obtain⟨a,b,d⟩:=clF A.tot;simp only[pG,pH];refine⟨{A with inv:=⟨i.str,i.pk⟩,tot:=a,sm:=λk=>(A.sm k).trans ?_},U⟩
    match k with
    |0=>exact d.symm
    |1=>rfl
    |2=>rfl
    |3=>rfl
    |4=>rfl
    |5=>rfl
    |6=>rfl
    |k+7=>rfl
  ·cases f.2.2.2.2.2.2.2.2.1<;>simp only[pG,pH]
   ·obtain⟨a,b,d⟩:=raF A.ab;have l:∀j,bI (c.1,c.2.1,c.2.2.1,c.2.2.2.1,c.2.2.2.2.1,c.2.2.2.2.2.1,c.2.2.2.2.2.2.1,c.2.2.2.2.2.2.2.1,raV c.2.2.2.2.2.2.2.2.1,c.2.2.2.2.2.2.2.2.2.1,c.2.2.2.2.2.2.2.2.2.2.1,La,c.2.2.2.2.2.2.2.2.2.2.2.2) j=bI c j:=λj=>by
     simp_all[bI]
    refine⟨{A with inv:=⟨i.str,i.pk⟩,ab:=a,all:=λs hs=>by rw[l];exact A.all s hs,sm:=λk=>(A.sm k).trans ?_},U⟩
    match k with
    |0=>rfl
    |1=>rfl
    |2=>rfl
    |3=>rfl
    |4=>exact b.symm
    |5=>rfl
    |6=>exact d.symm
    |k+7=>rfl
   ·obtain⟨a,b,d⟩:=raF A.au;have l:∀j,bI (c.1,c.2.1,c.2.2.1,c.2.2.2.1,c.2.2.2.2.1,c.2.2.2.2.2.1,c.2.2.2.2.2.2.1,c.2.2.2.2.2.2.2.1,c.2.2.2.2.2.2.2.2.1,raV c.2.2.2.2.2.2.2.2.2.1,c.2.2.2.2.2.2.2.2.2.2.1,c.2.2.2.2.2.2.2.2.2.2.2.1,La,c.2.2.2.2.2.2.2.2.2.2.2.2.2) j=bI c j:=λj=>by
     simp_all[bI]
    refine⟨{A with inv:=⟨i.str,i.pk⟩,au:=a,all:=λs hs=>by rw[l];exact A.all s hs,sm:=λk=>(A.sm k).trans ?_},U⟩
    match k with
    |0=>rfl
    |1=>rfl
    |2=>rfl
    |3=>rfl
    |4=>rfl
    |5=>exact b.symm
    |6=>rfl
    |k+7=>exact d.symm
 ·obtain⟨a,b,d,e⟩:=rwF A.inf (Znn c) (Zao c);simp only[pG];refine⟨{A with inv:=⟨i.str,i.pk⟩,inf:=a,sm:=λk=>(A.sm k).trans ?_},U⟩
  match k with
  |0=>rfl
  |1=>exact b.symm
  |2=>exact d.symm
  |3=>rfl
  |4=>rfl
  |5=>rfl
  |6=>rfl
  |k+7=>rfl
theorem SA.del{f:Zj}(h:f.1=8->f.2.1≠s.1)(S:SA v (f::fs) b s):SA v fs b s:=by
 have z:∀n,cvR s.1 n f=0:=λn=>if_neg λq=>h q.1 q.2;exact {S with fl:=λc n=>by have:=S.fl c n;simp_all[cov],ins:=λc g a=>S.ins c g (Ld _ a),cs8:=λg a=>S.cs8 g (Ld _ a),st5:=λg a=>S.st5 g (Ld _ a)}
theorem SA.add{f:Zj}(h:f.1=8->f.2.1≠s.1)(h5:f.1=5->f.2.1=s.1->s.2.2.2.2.2.2.2.2.2.2.2.1=K2)(S:SA v fs b s):SA v (f::fs) b s:=by
 have z:∀n,cvR s.1 n f=0:=λn=>if_neg λq=>h q.1 q.2;refine {S with fl:=λc n=>by have:=S.fl c n;simp_all[cov],ins:=λc g hg a e=>?_,cs8:=λg hg a e=>?_,st5:=λg hg a e=>?_}
 ·rcases Li.1 hg with rfl|hg
  ·omega
  ·exact S.ins c g hg a e
 ·rcases Li.1 hg with rfl|hg
  ·omega
  ·exact S.cs8 g hg a e
 ·rcases Li.1 hg with rfl|hg
  ·exact h5 a e
  ·exact S.st5 g hg a e
theorem AU.perm{gs:List Zj}(A:AU K v fs c)(h:∀id n,cov id n gs=cov id n fs)(k:∀f∈gs,f∈fs):AU K v gs c:=
 {A with all:=λs hs=>⟨{(A.all s hs).1 with fl:=λb n=>by rw[h];exact(A.all s hs).1.fl b n,ins:=λb f a=>(A.all s hs).1.ins b f (k f a),cs8:=λf a=>(A.all s hs).1.cs8 f (k f a),st5:=λf a=>(A.all s hs).1.st5 f (k f a)},(A.all s hs).2⟩,fsk:=λf a=>A.fsk f (k f a)}
theorem Qwj(A:AU K v fs c)(hK:K<=1000000)(hi:0<=Z8 c.2.2.2.1 id):AU K v fs (blC c id)/\Uq c (blC c id):=by
 obtain⟨m,n,i,e,j,f⟩:=A.mem hK hi;obtain⟨a,b,d⟩:=nbF e.F.cre;obtain⟨l,p,q⟩:=nbF A.tot;have g:SA v fs (bI c id) (Zks (atV c id) (nbB (atV c id).2.2.1)):={e with F:={e.F with cre:=a,su:=by show _<=(nbB _).2.1;rw[d];exact e.F.su},cu:=by show(nbB _).2.1=_;rw[d];exact e.cu}
 have hs:Xc K (Zks (atV c id) (nbB (atV c id).2.2.1)):=⟨f.snd,f.rcv⟩
 refine A.set hK (Le _) hi (s:=Zks (atV c id) (nbB (atV c id).2.2.1)) i hs ⟨g,λo=>?_⟩ (λ_ _ _ h=>h) A.fsk rfl rfl rfl rfl (λ_=>rfl) (λk=>?_) l A.inf A.ob A.ou A.ab A.au A.lst rfl {Up.refl (atV c id)with cl:=Lj b.symm}
 ·rw[ovF hs hK g.F];have:=j o;rw[ovF f hK e.F]at this;exact this
 ·match k with
  |0=>show(nbB c.2.2.2.2.1).2.1=c.2.2.2.2.1.2.1+j0 (atV c id)-j0 (atV c id);omega
  |1=>show SC c 1=SC c 1+ms v 1 (atV c id)-ms v 1 (atV c id);omega
  |2=>show SC c 2=SC c 2+ms v 2 (atV c id)-ms v 2 (atV c id);omega
  |3=>show SC c 3=SC c 3+ms v 3 (atV c id)-ms v 3 (atV c id);omega
  |4=>show SC c 4=SC c 4+ms v 4 (atV c id)-ms v 4 (atV c id);omega
  |5=>show SC c 5=SC c 5+ms v 5 (atV c id)-ms v 5 (atV c id);omega
  |6=>show SC c 6=SC c 6+ms v 6 (atV c id)-ms v 6 (atV c id);omega
  |k+7=>show SC c 7=SC c 7+ms v 7 (atV c id)-ms v 7 (atV c id);omega
theorem Qw4(A:AU K v fs c)(hK:K<=1000000){p:Qe}(ho:Zb4 c id p=K2):AU K v (pfF id p::fs) (mpC c id p)/\Uq c (mpC c id p):=by
 unfold Zb4 at ho;simp only[pC,decide_eq_true_eq]at ho;obtain⟨⟨⟨-,u⟩,cs⟩,⟨l,D⟩,E⟩:=ho;obtain⟨O,Q,w,g,G,i⟩:=A.mem hK u;have P:=Qxd i.snd Aa g.q p l;have y:Zjq c id p=j0 (lL (atV c id) (spS (atV c id).2.1 p))-j0 (atV c id):=by
  unfold Zjq spV;rw[l,pG];have a:=P.mv.q.f.sent;have b:=g.F.snd.sent
  have S:=(Zsm i.snd Aa p l).eK;have H:=i.snd.eK;show Lc.wrap ((spS (atV c id).2.1 p).2.2.2.2.2.2.2.1- (atV c id).2.1.2.2.2.2.2.2.2.1)=_;exact Zr
 obtain⟨a,b,d⟩:=ucF g.F.cre D;obtain⟨z,I,J⟩:=ucF A.tot E;rw[y]at a b d z I J;have cu:=g.cu;have U:j0 (lL (atV c id) (spS (atV c id).2.1 p))=(spS (atV c id).2.1 p).2.2.2.2.2.2.2.1:=rfl;generalize V:j0 (lL (atV c id) (spS (atV c id).2.1 p))-j0 (atV c id)=n at*
 have B:=P.lo;have C:SA v (pfF id p::fs) (bI c id) ((atV c id).1,spS (atV c id).2.1 p,ucC (atV c id).2.2.1 n,(atV c id).2.2.2):=
  {F:={g.F with snd:=P.mv.q.f,cre:=a,su:=Ag,tr:=λt=>by have:=g.F.tr t;omega,cs:=.inl cs},k:=g.k,q:=P.mv.q,cu:=by show(ucC (atV c id).2.2.1 n).2.1=(spS (atV c id).2.1 p).2.2.2.2.2.2.2.1;omega,ws:=g.ws,wr:=g.wr,ix:=g.ix,fl:=λ_ k=>by
    have W:=g.fl Aa k;have X:=P.fl k;have Y:cvR (atV c id).1 k (pfF id p)=inc (rgE p) k:=if_pos ⟨rfl,w.symm⟩;show cov (atV c id).1 k (pfF id p::fs)=hs k (spS (atV c id).2.1 p).2.2.2.1
    grind[cov],ins:=λL f hf r e=>by
    rcases Li.1 hf with rfl|hf
    ·exact P.isn
    ·exact P.mv.isn _ (g.ins Aa f hf r e) L,cs8:=λ_ _ _ _=>cs,st5:=λf hf m e=>by
    rcases Li.1 hf with rfl|hf
    ·cases m
    ·exact g.st5 f hf m e}
 have j:Xc K ((atV c id).1,spS (atV c id).2.1 p,ucC (atV c id).2.2.1 n,(atV c id).2.2.2):=⟨Zsm i.snd Aa p l,i.rcv⟩
 have M:zJ (atV c id)=false:=ovR (x:=(atV c id).2.1) i hK g B.1 cs;have N:zJ ((atV c id).1,spS (atV c id).2.1 p,ucC (atV c id).2.2.1 n,(atV c id).2.2.2)=false:=ovR (x:=(atV c id).2.1) j hK C B.2 cs;unfold mpC;rw[y];refine A.set hK (Le _) u (s:=((atV c id).1,spS (atV c id).2.1 p,ucC (atV c id).2.2.1 n,(atV c id).2.2.2)) w j ⟨C,λo=>by have:=G o;grind⟩ (λx _ hx h=>SA.add (λ_ e=>hx e.symm) (λm=>by cases m) h) (λf hf r=>?_) rfl rfl rfl rfl (λ_=>rfl) (λk=>?_) z A.inf A.ob A.ou A.ab A.au (by have:=g.F.id;grind) rfl ⟨K3 _,P.mv.snt,P.mv.st,Lj b.symm,K3 _,.inr rfl,λh=>h⟩
 ·rcases Li.1 hf with rfl|hf
  ·grind
  ·exact A.fsk f hf r
 ·match k with
  |0=>show(ucC c.2.2.2.2.1 n).2.1=c.2.2.2.2.1.2.1+(spS (atV c id).2.1 p).2.2.2.2.2.2.2.1-j0 (atV c id);omega
  |1=>show SC c 1=SC c 1+ms v 1 (atV c id)-ms v 1 (atV c id);omega
  |2=>show SC c 2=SC c 2+ms v 2 (atV c id)-ms v 2 (atV c id);omega
  |3=>simp_all[SC,ms]
  |4=>simp_all[SC,ms]
  |5=>simp_all[SC,ms]
  |6=>simp_all[SC,ms]
  |k+7=>simp_all[SC,ms]
end
section
variable {K:Nat}{v:Bool}{fs:List Zj}{c:Ze}
theorem okK{k st lim:Int}{u:Bool}(h:(k=16\/k=20)/\st=0/\u=La\/(k=17\/k=21)/\u=La\/(k=18\/k=22)/\st=0/\lim<=1152921504606846976)(hs:0<=st/\st<=4611686018427387903:=by omega)(hl:0<=lim/\lim<=4611686018427387903:=by omega):Xa (frK k st lim u)=true:=by
 grind[Xa,Yu,fq]
theorem Qwl(A:AU K v fs c)(hK:K<=1000000){f:Zj}(hf:f∈cfL c):Xa f=K2/\f.1≠8:=by
 obtain⟨-,h⟩:=Z5b hf;have m:=rwF A.inf (Znn c) (Zao c);have g:=raF A.ab;have i:=raF A.au;rcases h with h|⟨s,hs,h⟩|h
 ·unfold cfH at h;rw[Lk,Lk]at h;have n:=m.1.lim;have j:=g.1.lim;have o:=g.1.most;have e:=i.1.lim;have k:=i.1.most
  rcases h with(h|h)|h<;>obtain⟨-,rfl⟩:=Zxn h
  ·exact⟨okK (.inl ⟨.inl rfl,rfl,rfl⟩),Ae⟩
  ·exact⟨okK (.inr (.inr ⟨.inl rfl,rfl,j.2⟩)),Ae⟩
  ·exact⟨okK (.inr (.inr ⟨.inl rfl,rfl,e.2⟩)),Ae⟩
 ·have S:=(A.all s hs).1.F;have p:=A.inv.str.all s hs;have l:=S.id;have r:=S.code;have t:=S.cre.lim;have u:=S.cre.use0;have q:=S.cre.use
  have w:=S.snd.code;have x:=S.snd.sent;have y:=p.snd.eK
  rcases Z66 h with⟨-,rfl⟩|⟨-,rfl⟩|⟨-,rfl⟩|⟨-,rfl⟩
  ·refine⟨?_,Ae⟩;have:fq s.1=K2/\fq s.2.1.2.2.2.2.2.2.2.2.1=K2/\fq s.2.1.2.2.2.2.2.2.2.1=true:=by
    unfold fq;grind
   obtain⟨a,b,d⟩:=this;unfold Xa Yu;simp only[a,b,d];rfl
  ·simp_all[fq,Xa,Yu]
  ·refine⟨okK (.inr (.inl ⟨.inl rfl,rfl⟩)) l ?_,Ae⟩;unfold lwW;cases wcB s
   ·have:=S.win.lim;grind
   ·have:=(rwF S.win (Znn c) (Zao c)).1.lim;grind
  ·exact⟨okK (.inr (.inl ⟨.inr rfl,rfl⟩)) l,Ae⟩
 ·unfold cfT at h;rw[Lk,Lk]at h;have n:=A.tot.lim;have j:=A.tot.use0;have o:=A.tot.use;have e:=Zf2.1 A.ob;have k:=Zf2.1 A.ou
  rcases h with(h|h)|h<;>obtain⟨-,rfl⟩:=Zxn h
  ·exact⟨okK (.inl ⟨.inr rfl,rfl,rfl⟩),Ae⟩
  ·exact⟨okK (.inr (.inr ⟨.inr rfl,rfl,e.1.2⟩)),Ae⟩
  ·exact⟨okK (.inr (.inr ⟨.inr rfl,rfl,k.1.2⟩)),Ae⟩
theorem cf5(A:AU K v fs c){f:Zj}(hf:f∈cfL c)(h5:f.1=5):∃s∈c.2.2.2.1,s.1=f.2.1/\s.2.2.2.2.2.2.2.2.2.2.2.1=true:=by
 obtain⟨-,h⟩:=Z5b hf;rcases h with h|⟨s,hs,h⟩|h
 ·grind[Qc4]
 ·rcases Z66 h with⟨-,rfl⟩|⟨t,rfl⟩|⟨-,rfl⟩|⟨-,rfl⟩
  ·cases h5
  ·exact⟨s,hs,rfl,(A.all s hs).1.F.ts t⟩
  all_goals simp_all
 grind[Qc8]
theorem Z3n(id n:Int)(a b:List Zj)(f:Zj):cov id n ((a++[f])++b)=cov id n (f:: (a++b)):=by
 simp only[Zxr,cov];omega
theorem Ze6{a b:List Zj}{f g:Zj}(h:g∈(a++[f])++b):g∈f:: (a++b):=by
 grind
theorem Qhw(hK:K<=1000000):∀(l:List Zj)(c:Ze)(fr:List Zj)(room:Int),(∀f∈l,(Xa f=K2/\f.1≠8)/\(f.1=5-> ∃s∈c.2.2.2.1,s.1=f.2.1/\s.2.2.2.2.2.2.2.2.2.2.2.1=K2))->(∀f∈fr,Xa f=K2)->AU K v (fr++fs) c->(∀f∈(ZR l c fr room).2.1,Xa f=K2)/\AU K v ((ZR l c fr room).2.1++fs) (ZR l c fr room).1/\Uq c (ZR l c fr room).1
 |[],c,fr,room,_,m,A=>⟨m,A,Uq.refl c⟩
 |f::r,c,fr,room,h,m,A=>by
  have u:=(h f Lf).1;have w:=(h f Lf).2;unfold ZR;split
  ·have e:mkV c f=mkC c f:=by unfold mkV;rw[A.cb hK];rfl
   rw[e];obtain⟨B,U⟩:=Qw2 A hK f;have C:AU K v ((fr++[f])++fs) (mkC c f):=by
    refine {B with all:=λs hs=>⟨?_,(B.all s hs).2⟩,fsk:=λg hg z=>?_}
    ·have:=SA.add (f:=f) (s:=s) (λq=>absurd q u.2) (λq e=>by
      obtain⟨x,hx,i,o⟩:=w q;obtain⟨y,j,k,p⟩:=U.up.2 x hx;rw[<-Zso B.srt j hs (k.trans (i.trans e))];exact p.sp o) (B.all s hs).1
     exact {this with fl:=λt n=>by rw[Z3n];exact this.fl t n,ins:=λt g hg=>this.ins t g (Ze6 hg),cs8:=λg hg=>this.cs8 g (Ze6 hg),st5:=λg hg=>this.st5 g (Ze6 hg)}
    ·rcases Li.1 (Ze6 hg)with rfl|hg
     ·obtain⟨x,hx,i,-⟩:=w (z.resolve_left u.2);obtain⟨y,j,k,-⟩:=U.up.2 x hx
      grind
     ·exact B.fsk g hg z
   obtain⟨a,b,d⟩:=Qhw hK r (mkC c f) (fr++[f]) _ (λg hg=>⟨(h g (Ld _ hg)).1,λq=>by
    obtain⟨x,hx,i,o⟩:=(h g (Ld _ hg)).2 q;obtain⟨y,j,k,p⟩:=U.up.2 x hx;exact⟨y,j,k.trans i,p.sp o⟩⟩) (λg hg=>by
    grind) C
   exact⟨a,b,U.trans d⟩
  ·exact Qhw hK r c fr _ (λg hg=>h g (Ld _ hg)) m A
theorem Qjz{s:Zk}(h:Jr K s)(hK:K<=1000000){id room limit:Int}(hi:0<=id/\id<=4611686018427387903)(hn:Qgd s limit):∀m:Nat,m<=60->(pfL s id room limit m).2.1=K2->Xa (pfF id (pfL s id room limit m).1)=K2
 |0,_,h=>by cases h
 |m+1,b,a=>by
  unfold pfL at a⊢;split at a
  ·next hr=>rw[if_pos hr];grind[Qjy]
  ·next hr=>rw[if_neg hr];exact Qjz h hK hi hn m Aa a
theorem Qr9(A:AU K v fs c)(hK:K<=1000000){room:Int}(hh:(pcR c id room).2.1=K2):Xa (pfF id (pcR c id room).1)=K2/\0<=Z8 c.2.2.2.1 id:=by
 unfold pcR at hh⊢;split at hh
 ·next hc=>
  rw[if_pos hc];obtain⟨d,e,f,a,g,b⟩:=A.mem hK hc.1.2;unfold pfR at hh⊢;split at hh
  ·next hn=>
   rw[if_pos hn];exact⟨Qjz b.snd hK (by have:=a.F.id;omega) hn _ Aa hh,hc.1.2⟩
  ·cases hh
 ·cases hh
theorem Qay(hK:K<=1000000):∀(n:Nat)(c:Ze)(fr:List Zj)(room:Int)(sk:List Int),(∀f∈fr,Xa f=K2)->AU K v (fr++fs) c->(∀f∈(qy n c fr room sk).1,Xa f=K2)/\AU K v ((qy n c fr room sk).1++fs) (qy n c fr room sk).2/\Uq c (qy n c fr room sk).2
 |0,c,fr,_,_,e,A=>⟨e,A,Uq.refl c⟩
 |n+1,c,fr,room,sk,e,A=>by
  have m:=A.inv.str.len;unfold qy;by_cases j:iT (yN c sk) (qv c)<0
  ·simp_all[Uq.refl]
  ·rw[if_neg j];have k:=Zq4 (c:=c) Aa (sk:=sk) (last:=qv c);generalize iT (yN c sk) (qv c)=id at*
   cases hp:(pcR c id room).2.1
   ·rw[pH];obtain⟨B,U⟩:=Qwj A hK k;obtain⟨a,b,d⟩:=Qay hK n (blC c id) fr room (sk++[id]) e B;exact⟨a,b,U.trans d⟩
   ·rw[pG];obtain⟨o,-⟩:=Qr9 A hK hp;cases hm:Zb4 c id (pcR c id room).1
    ·simp_all[Uq.refl]
    ·rw[pG];obtain⟨B,U⟩:=Qw4 A hK hm;have l:AU K v ((fr++[pfF id (pcR c id room).1])++fs) (mpC c id (pcR c id room).1):=B.perm (λi n=>Z3n i n fr fs _) λg h=>Ze6 h;obtain⟨a,b,d⟩:=Qay hK n (mpC c id (pcR c id room).1) (fr++[pfF id (pcR c id room).1]) (Lc.wrap (room-fsz (pfF id (pcR c id room).1))) sk (λg h=>by
      grind) l
     exact⟨a,b,U.trans d⟩
def ll(l:List Z6):List Zj:=l.flatMap λp=>p.2.1
abbrev AD(K:Nat)(v:Bool)(c:Ze):Prop:=AU K v (ll (Xu c)) c
theorem Z9k{n:Int}(h0:0<=n)(h1:n<=1000000){fr:List Zj}(hf:∀f∈fr,Xa f=K2):∀{l:List Z6}{o:Option Int},(∀q,o=K4 q->q<n)->pkB n o l=K2->pkB (n+1) o (l++[(n,fr,())])=K2
 |[],o,c,_=>by
  have:fr.all Xa=true:=Ma.2 hf;simp only[Mh,pkB,this,Lt];rw[Zr,Ws.2 Aa,pJ]
  grind
 |x::r,o,c,h=>by
  simp only[Mb,pkB,pC]at h⊢;obtain⟨⟨⟨a,b⟩,d⟩,e⟩:=h;rw[Zr]at a⊢;have i:=Ws.1 a;exact⟨⟨⟨Ws.2 Aa,b⟩,d⟩,Z9k h0 h1 hf (λq g=>by cases g;omega) e⟩
theorem Qqx(A:AD K v c)(hK:K<=80000)(b:Int):AD (K+1) v (emC c b)/\UpC c (emC c b):=by
 have i:=Ql2 A.inv Aa b;unfold emC at i⊢;cases d:emG c b
 ·exact⟨AU.mono A,(Uq.refl c).up⟩
 rw[d]at i;rw[pG]at i⊢;have I:Zlr c<1000000:=by
  simp_all[emG]
 obtain⟨a,B,U⟩:=Qhw (fs:=ll (Xu c)) Aa (cfL c) c [] b (λf k=>⟨Qwl A Aa k,λx=>cf5 A k x⟩) (λf k=>by cases k) A;obtain⟨y,z,C⟩:=Qay (fs:=ll (Xu c)) Aa 200 (emX c b).1 (emX c b).2.1 (emX c b).2.2 [] a B;have l:(emF c b).2.2.2.2.2.2.2.2.2.2.2.2.2.2.2.2=c.2.2.2.2.2.2.2.2.2.2.2.2.2.2.2:=by
  have D:=Zxv 200 (emX c b).1 (emX c b).2.1 (emX c b).2.2 [];have E:=Z5h (cfL c) c [] b;show(qy 200 (emX c b).1 (emX c b).2.1 (emX c b).2.2 []).2.2.2.2.2.2.2.2.2.2.2.2.2.2.2.2=_;rw[D];show(ZR (cfL c) c [] b).1.2.2.2.2.2.2.2.2.2.2.2.2.2.2.2=_;rw[E]
 have p:Zlr (emF c b).2=Zlr c:=Qh6 c b;have j:AU K v ((emF c b).1++ll (Xu c)) (emF c b).2:=z;have u:UpC c (emF c b).2:=(U.trans C).up;have F:∀f∈(emF c b).1,Xa f=true:=y;have e:Xu (emF c b).2=Xu c:=congrArg (λt=>t.1) l;have w:=A.num;generalize emF c b=r at*
 cases hz:((r.1:Int)==0)
 ·rw[hz,pH]at i;rw[pH];have G:=A.pks;refine⟨{j with inv:=i,num:=Ag,pks:= ?_,all:=λs hs=>⟨?_,(j.all s hs).2⟩,fsk:=λg d=>j.fsk g ?_},?_⟩
  ·have S:=(j.all s hs).1;have m:ll (Xu (Qqh r.2 (Zlr c) r.1))=ll (Xu c)++r.1:=by
    show ll (Xu r.2++[(Zlr c,r.1,())])=_;rw[e];simp[ll]
   rw[m];exact {S with fl:=λo n=>by have:=S.fl o n;rw[Zxr]at this⊢;omega,ins:=λo g d=>S.ins o g (Lk.2 (Lk.1 d).symm),cs8:=λg d=>S.cs8 g (Lk.2 (Lk.1 d).symm),st5:=λg d=>S.st5 g (Lk.2 (Lk.1 d).symm)}
  ·have m:ll (Xu (Qqh r.2 (Zlr c) r.1))=ll (Xu c)++r.1:=by
    show ll (Xu r.2++[(Zlr c,r.1,())])=_;rw[e];simp[ll]
   rw[m]at d;exact Lk.2 (Lk.1 d).symm
  ·show pkB (Zlr c+1) none (Xu r.2++[(Zlr c,r.1,())])=K2;rw[e];exact Z9k w.1 w.2 F (λq h=>by cases h) G
  ·refine⟨?_,u.2⟩
   grind
 ·rw[hz,pG]at i;rw[pG];have H:r.1=[]:=List.length_eq_zero_iff.1 (by simpa using hz);rw[H,Mh]at j;refine⟨?_,u⟩;show AU (K+1) v (ll (Xu r.2)) r.2;rw[e];exact j.mono Aa
end
section
variable {K:Nat}{v:Bool}{fs:List Zj}{c:Ze}
theorem AU.idx8{f:Zj}(A:AU K v (f::fs) c)(hK:K<=1000000)(h8:f.1=8\/f.1=5):0<=Z8 c.2.2.2.1 f.2.1:=Z55 (by have:=A.inv.str.len;omega) (A.fsk f Lf h8)
theorem AU.drop{f:Zj}(A:AU K v (f::fs) c)(h8:f.1≠8):AU K v fs c:=
 {A with all:=λs hs=>⟨SA.del (λq=>absurd q h8) (A.all s hs).1,(A.all s hs).2⟩,fsk:=λg a=>A.fsk g (Ld _ a)}
theorem Qpw{f:Zj}(S:SA v (f::fs) b s)(h8:f.1=8)(e:f.2.1=s.1):(s.2.1.1<4->Zgk s.2.1 (pcF f)=K2)/\(s.2.1.1<4-> ∀n,1<=inc (rgE (pcF f)) n->hs n s.2.1.2.2.2.1=1):=
 ⟨λa=>S.ins a f Lf h8 e,λa n c=>by
  have:=S.fl a n;have:=Qas s.1 n fs;have d:=(Znx (n:=n) S.q.f.fr).1;have:cvR s.1 n f=inc (rgE (pcF f)) n:=if_pos ⟨h8,e⟩
  grind[cov]⟩
theorem Qvh{f:Zj}(S:SA v (f::fs) b s)(h8:f.1=8)(e:f.2.1=s.1)(R:Rp s.2.1 x (pcF f)):SA v fs b (lL s x):=by
 have l:=R.mv.st;refine {F:={S.F with snd:=R.mv.q.f,su:= ?_,tr:=λt=>?_,cs:=.inl (S.cs8 f Lf h8 e)},k:=S.k,q:=R.mv.q,cu:= ?_,ws:=S.ws,wr:=S.wr,ix:=S.ix,fl:=λd n=>?_,ins:=λd g h i j=>?_,cs8:=λg h=>S.cs8 g (Ld _ h),st5:=λg h=>S.st5 g (Ld _ h)}
 ·show x.2.2.2.2.2.2.2.1<=_;rw[R.snt];exact S.F.su
 ·have:=S.F.tr t;show x.1=4;rw[R.ov Aa];exact this
 ·show s.2.2.1.2.1=x.2.2.2.2.2.2.2.1;rw[R.snt];exact S.cu
 ·have d:x.1<4:=d;have a:=S.fl Aa n;have b:=R.fl d n;have c:cvR s.1 n f=inc (rgE (pcF f)) n:=if_pos ⟨h8,e⟩
  grind[cov]
 ·have d:x.1<4:=d;exact R.mv.isn _ (S.ins Aa g (Ld _ h) i j) d
theorem SA.tail{f:Zj}(S:SA v (f::fs) b s)(h8:f.1≠8):SA v fs b s:=SA.del (λq=>absurd q h8) S
theorem Qr5{x:Zf}(h:Xc K s)(h':Xc K' x)(hK:K<=1000000)(hK':K'<=1000000)(S:SA v fs b s)(X:SA v fs' b' x)(e1:s.2.1.1=3\/s.2.1.1=5->x.2.1.1=3\/x.2.1.1=5)(e2:x.2.2.2.2.2.2.1=s.2.2.2.2.2.2.1)(e3:x.2.2.2.2.2.2.2.1=s.2.2.2.2.2.2.2.1)(e4:x.2.2.2.1.1=s.2.2.2.1.1)(o:zJ s=K2):zJ x=true:=by
 rw[ovF h hK S.F]at o;rw[ovF h' hK' X.F,e2,e3,e4]
 grind
theorem Qdr{f:Zj}(e:f.2.1=id):∀x∈c.2.2.2.1,x.1≠id->SA v (f::fs) (bI c x.1) x->SA v fs (bI c x.1) x:=λx _ hx S=>SA.del (λ_ q=>hx (q.symm.trans e)) S
theorem Qto{f:Zj}(A:AU K v (f::fs) c)(hK:K<=490000):AU K v fs (Zwp c f)/\Uq c (Zwp c f):=by
 unfold Zwp;by_cases l:0<=Z8 c.2.2.2.1 f.2.1
 ·rw[Zl l,Lt];cases ha:abV f
  ·refine⟨A.drop λb=>?_,Uq.refl c⟩;simp_all[abV]
  ·rw[pG];obtain⟨O,P,j,k,Q,a⟩:=A.mem Aa l;have u:=Zpw a Aa f;have C:∀g∈fs,g.1=8\/g.1=5-> ∃s∈c.2.2.2.1,s.1=g.2.1:=λg D=>A.fsk g (Ld _ D);have m:∀s:Zf,s=zw (atV c f.2.1) f->SA v fs (bI c f.2.1) s->s.1=f.2.1->uY s=uY (atV c f.2.1)->(zJ (atV c f.2.1)=K2->zJ s=K2)->mY s=mY (atV c f.2.1)->rdF s=rdF (atV c f.2.1)->j0 s=j0 (atV c f.2.1)->Up (atV c f.2.1) s->AU K v fs (fin (kL c f.2.1 (zw (atV c f.2.1) f)) f.2.1)/\Uq c (fin (kL c f.2.1 (zw (atV c f.2.1) f)) f.2.1):=λs y S E H I z U J L=>by
    rw[<-y]at u⊢;exact A.save (w:=c.2.2.2.2.2.1) Aa (Le _) l (s:=s) E u S H I (Qdr rfl) C A.inf Aa Aa J L
   have r:=Up.refl (atV c f.2.1);by_cases b:f.1=8
   ·obtain⟨M,N⟩:=Qpw k b j.symm;obtain⟨x,e,hx⟩:=Zpv a.snd (pcF f);have R:=Qtr a.snd Aa k.q (pcF f) M N _ e;have y:zw (atV c f.2.1) f=lL (atV c f.2.1) x:=by
     unfold zw;rw[b,e];rfl
    have d:=Qvh k b j.symm R;have hs:Xc K (lL (atV c f.2.1) x):=⟨hx,a.rcv⟩
    exact m _ y.symm d j rfl (Qr5 a hs Aa Aa k d (λq=>by have:x=(atV c f.2.1).2.1:=R.ov Aa;show x.1=3\/x.1=5;rw[this];exact q) rfl rfl rfl) rfl rfl R.snt {r with sn:=Lj R.snt.symm,st:=R.mv.st}
   ·have i:=k.tail b;have n:(f.1==8)=false:=by simpa using b
    by_cases p:f.1=4
    ·cases hr:arB (atV c f.2.1).2.1
     ·refine m (atV c f.2.1) ?_ i j rfl id rfl rfl rfl r;unfold zw;rw[n,p,hr];rfl
     ·have o:=hr;unfold arB at hr;simp only[pC,beq_iff_eq]at hr;have G:=i.q.f;have B:SQu (5,(atV c f.2.1).2.1.2):=⟨{G with rst:=λ_=>G.rst (.inl hr.2),no:=λh=>absurd (.inr rfl) h},λh=>absurd h Ae⟩
      have d:SA v fs (bI c f.2.1) (Qa4 (lL (atV c f.2.1) (5,(atV c f.2.1).2.1.2)) La):=
       {i with F:={i.F with snd:=B.f,tr:=λt=>(by cases t),cs:=(by
        rcases i.F.cs with h|h
        ·exact .inl h
        ·omega)},q:=B,fl:=λh=>absurd h Ae,ins:=λh=>absurd h Ae}
      have hs:Xc K (Qa4 (lL (atV c f.2.1) (5,(atV c f.2.1).2.1.2)) La):=by
       have:=u;unfold zw at this;rw[n,p,o]at this;exact this
      refine m (Qa4 (lL (atV c f.2.1) (5,(atV c f.2.1).2.1.2)) La) ?_ d j rfl (Qr5 a hs Aa Aa k d (λ_=>.inr rfl) rfl rfl rfl) rfl rfl rfl {r with st:=by show _<=(5:Int);omega};unfold zw;rw[n,p,o];rfl
    ·have z:(f.1==4)=false:=by simpa using p
     cases h5:f.1==5
     ·refine m (atV c f.2.1) ?_ i j rfl id rfl rfl rfl r;unfold zw;rw[n,z,h5];rfl
     ·have d:SA v fs (bI c f.2.1) (Qfw (atV c f.2.1) La):={i with F:={i.F with ts:=λt=>by cases t}}
      have hs:Xc K (Qfw (atV c f.2.1) La):=⟨a.snd,a.rcv⟩
      refine m (Qfw (atV c f.2.1) La) ?_ d j rfl (Qr5 a hs Aa Aa k d id rfl rfl rfl) rfl rfl rfl {r with};unfold zw;rw[n,z,h5];rfl
 ·rw[Zm l,Lm];exact⟨A.drop λb=>l (A.idx8 Aa (.inl b)),Uq.refl c⟩
theorem Qur{f:Zj}(A:AU K v (f::fs) c)(hK:K<=490000):AU K v fs (Zts c f)/\Uq c (Zts c f):=by
 have U:=Uq.refl c;unfold Zts;by_cases n:f.1=16
 ·rw[show(f.1==16)=K2 by simpa using n];exact⟨{A.drop Aa with inv:=⟨A.inv.str,A.inv.pk⟩},U⟩
 rw[show(f.1==16)=La by simpa using n];by_cases o:f.1=18
 ·rw[show(f.1==18)=K2 by simpa using o];cases f.2.2.2.2.2.2.2.2.1
  ·exact⟨{A.drop Aa with inv:=⟨A.inv.str,A.inv.pk⟩},U⟩
  ·exact⟨{A.drop Aa with inv:=⟨A.inv.str,A.inv.pk⟩},U⟩
 rw[show(f.1==18)=La by simpa using o];simp only[pH];by_cases p:0<=Z8 c.2.2.2.1 f.2.1
 ·rw[Zl p,Lt];cases ha:abV f
  ·refine⟨A.drop λj=>?_,U⟩;simp_all[abV]
  ·rw[pG];obtain⟨Y,Z,k,l,m5,h⟩:=A.mem Aa p;have E:=Z0j h Aa f;have J:∀g∈fs,g.1=8\/g.1=5-> ∃s∈c.2.2.2.1,s.1=g.2.1:=λg M=>A.fsk g (Ld _ M);have r:=Up.refl (atV c f.2.1);have u:∀s:Zf,s=WV (atV c f.2.1) f->SA v fs (bI c f.2.1) s->s.1=f.2.1->uY s=uY (atV c f.2.1)->zJ s=zJ (atV c f.2.1)->mY s=mY (atV c f.2.1)->rdF s=rdF (atV c f.2.1)->j0 s=j0 (atV c f.2.1)->Up (atV c f.2.1) s->AU K v fs (kL c f.2.1 (WV (atV c f.2.1) f))/\Uq c (kL c f.2.1 (WV (atV c f.2.1) f)):=λs B S N O P w y Q V=>by
    rw[<-B]at E⊢;exact A.put Aa (Le _) p N E S O P (Qdr rfl) J w y Q V
   by_cases j:f.1=8
   ·obtain⟨W,X⟩:=Qpw l j k.symm;obtain⟨x,e,hx⟩:=Zld h.snd (pcF f);obtain⟨R,L⟩:=Quu h.snd Aa l.q (pcF f) W X _ e;have B:WV (atV c f.2.1) f=lL (atV c f.2.1) x:=by
     unfold WV;rw[j,e];rfl
    have i:=Qvh l j k.symm R;have hs:Xc K (lL (atV c f.2.1) x):=⟨hx,h.rcv⟩
    have G:=l.cs8 f Lf j k.symm;refine u _ B.symm i k rfl ?_ rfl rfl R.snt {r with sn:=Lj R.snt.symm,st:=R.mv.st};by_cases H:(atV c f.2.1).2.1.1<=2
    ·rw[ovR (x:=x) h Aa l H G,ovR (x:=x) hs Aa i (L H) G]
    ·rw[ovF hs Aa i.F,ovF h Aa l.F];have:x=(atV c f.2.1).2.1:=R.ov Aa;subst this;rfl
   ·have m:=l.tail j;have z:(f.1==8)=false:=by simpa using j
    have C:∀s:Zf,Xc K s->SA v fs (bI c f.2.1) s->s.2.1=(atV c f.2.1).2.1->s.2.2.2.1=(atV c f.2.1).2.2.2.1->s.2.2.2.2.2.2.1=(atV c f.2.1).2.2.2.2.2.2.1->s.2.2.2.2.2.2.2.1=(atV c f.2.1).2.2.2.2.2.2.2.1->zJ s=zJ (atV c f.2.1):=λs hs S a b d e=>by
     rw[ovF hs Aa S.F,ovF h Aa l.F,a,b,d,e]
    by_cases I:f.1=4
    ·have i:SA v fs (bI c f.2.1) (Qa4 (atV c f.2.1) ((atV c f.2.1).2.1.1==4)):={m with F:={m.F with tr:=λt=>by simpa using t}}
     refine u _ ?_ i k rfl (C _ ⟨h.snd,h.rcv⟩ i rfl rfl rfl rfl) rfl rfl rfl {r with};unfold WV;rw[z,I];rfl
    ·have w:(f.1==4)=false:=by simpa using I
     by_cases D:f.1=5
     ·have i:SA v fs (bI c f.2.1) (Qfw (atV c f.2.1) (Ll ((atV c f.2.1).2.2.2.1.1<2))):={m with F:={m.F with ts:=λ_=>l.st5 f Lf D k.symm}}
      refine u _ ?_ i k rfl (C _ ⟨h.snd,h.rcv⟩ i rfl rfl rfl rfl) rfl rfl rfl {r with};unfold WV;rw[z,w,D];rfl
     ·have y:(f.1==5)=false:=by simpa using D
      cases h17:f.1==17
      ·refine u (atV c f.2.1) ?_ m k rfl rfl rfl rfl rfl r;unfold WV;rw[z,w,y,h17];rfl
      ·have i:SA v fs (bI c f.2.1) (Qv4 (atV c f.2.1) K2):={m with F:={m.F with}}
       refine u _ ?_ i k rfl (C _ ⟨h.snd,h.rcv⟩ i rfl rfl rfl rfl) rfl rfl rfl {r with};unfold WV;rw[z,w,y,h17];rfl
 ·rw[Zm p,Lm];exact⟨A.drop λj=>p (A.idx8 Aa (.inl j)),U⟩
end
section
variable {K:Nat}{v:Bool}{fs:List Zj}{c:Ze}
abbrev yg(a:Qu)(t:Int):Qu:=(a.1,a.2.1,t,a.2.2.2)
theorem Qpg(h25:25<=K)(hK:K<=400000){n:Nat}(hn:n<=4611686018427387903)(ho:eg v (n:Int)=La):∀(m:Nat)(c:Ze),AU K v fs c->(Xw c (n:Int)).2.2.1+m=(n/4:Nat)+1->((n/4:Nat):Int)<(Xw c (n:Int)).2.1->c.2.2.2.1+m<=24->
  AU K v fs (XU (xH c (n:Int) (yg (Xw c (n:Int)) ((n/4:Nat)+1))) (mkL c.1 c.2.1 c.2.2.1 (n:Int) m c.2.2.2.1))/\Uq c (XU (xH c (n:Int) (yg (Xw c (n:Int)) ((n/4:Nat)+1))) (mkL c.1 c.2.1 c.2.2.1 (n:Int) m c.2.2.2.1))
 |0,c,A,t,_,_=>by
  have e:XU (xH c (n:Int) (yg (Xw c (n:Int)) ((n/4:Nat)+1))) (mkL c.1 c.2.1 c.2.2.1 (n:Int) 0 c.2.2.2.1)=c:=by
   rw[<-t];unfold xH Xw;cases cJ (n:Int)<;>simp[mkL]
  simp_all[Uq.refl]
 |m+1,c,A,t,y,O=>by
  have D:=A.sv;have E:=A.inv.str.len;have P:(4*m:Nat)<=n:=by
   have:0<=(Xw c (n:Int)).2.2.1:=by
    unfold Xw;cases cJ (n:Int)
    ·have:=A.ab.seen;exact this.1
    ·have:=A.au.seen;exact this.1
   omega
  have Q:Lc.wrap ((n:Int)-Lc.wrap (4*(m:Int)))=((n-4*m:Nat):Int):=by
   grind[Zr]
  have z:n-4*m<=4611686018427387903:=Aa
  have F:eg v ((n-4*m:Nat):Int)=false:=by
   rw[Qr7 v hn]at ho;rw[Qr7 v z,show(n-4*m)%2=n%2 by omega];exact ho
  have G:cJ ((n-4*m:Nat):Int)=cJ (n:Int):=by
   rw[Qti hn,Qti z,show(n-4*m)/2%2=n/2%2 by omega]
  have u:idV ((n-4*m:Nat):Int)=((n/4-m:Nat):Int):=by
   grind[idN]
  have q:aY ((n-4*m:Nat):Int)=true:=X4.2 Aa;have U:(Xw c (n:Int)).2.2.1=((n/4-m:Nat):Int):=Aa
  have H:bI c ((n-4*m:Nat):Int)=(Xw c (n:Int)).2.2.1:=by
   unfold bI Xw
   grind
  have B:∀x∈c.2.2.2.1,x.1≠((n-4*m:Nat):Int):=λx hx h=>by
   have:=(A.all x hx).1.ix;simp_all
  obtain⟨b,V,C⟩:=Z6j c.1 ((n-4*m:Nat):Int) c.2.1 c.2.2.1;have I:=Qf6 c.1 A.own A.peer q;have r:=I.2.1;have W:Zbp c.2.2.2.1 (nsV c.1 ((n-4*m:Nat):Int) c.2.1 c.2.2.1)=zI (nsV c.1 ((n-4*m:Nat):Int) c.2.1 c.2.2.1) c.2.2.2.1:=by
   grind[Zbp,Z8r]
  have X:= @Z9b v fs;have l:AU K v fs (XU (xH c (n:Int) (yg (Xw c (n:Int)) ((Xw c (n:Int)).2.2.1+1))) (zI (nsV c.1 ((n-4*m:Nat):Int) c.2.1 c.2.2.1) c.2.2.2.1))/\Uq c (XU (xH c (n:Int) (yg (Xw c (n:Int)) ((Xw c (n:Int)).2.2.1+1))) (zI (nsV c.1 ((n-4*m:Nat):Int) c.2.1 c.2.2.1) c.2.2.2.1)):=by
   have o:∀f∈fs,f.1=8\/f.1=5->f.2.1≠((n-4*m:Nat):Int):=λf o J=>by
    obtain⟨x,hx,h⟩:=A.fsk f o J
    grind
   have g:eg v (nsV c.1 ((n-4*m:Nat):Int) c.2.1 c.2.2.1).1=false:=by rw[r];exact F
   have L:eg c.1 (nsV c.1 ((n-4*m:Nat):Int) c.2.1 c.2.2.1).1=false:=Ag
   have j:cJ (nsV c.1 ((n-4*m:Nat):Int) c.2.1 c.2.2.1).1=cJ (n:Int):=by rw[r];exact G
   have p:=(Z9b (v:=v) (fs:=fs) (b:=((n/4-m:Nat):Int)+1) A.own A.peer q (by rw[u];omega) o).2.2.1;have rd:=(Z9b (v:=v) (fs:=fs) (b:=((n/4-m:Nat):Int)+1) A.own A.peer q (by rw[u];omega) o).2.2.2;have S:SA v fs (((n/4-m:Nat):Int)+1) (nsV v ((n-4*m:Nat):Int) c.2.1 c.2.2.1)/\CT v (nsV v ((n-4*m:Nat):Int) c.2.1 c.2.2.1):=by
    have:=Z9b (v:=v) (fs:=fs) (b:=((n/4-m:Nat):Int)+1) A.own A.peer q (by rw[u];omega) o
    grind
   rw[<-D]at p rd S;unfold xH Xw at*
   cases hu:cJ (n:Int)<;>simp only[hu,pG,pH]at*
   ·refine A.new h25 Aa (s:=nsV c.1 ((n-4*m:Nat):Int) c.2.1 c.2.2.1) (by rw[r];exact B) (C.mono Aa) ?_ rfl Aa rfl rfl rfl (λi=>?_) (λk=>?_) A.tot A.inf A.ob A.ou ?_ A.au rfl
    ·have:bI (XU (c.1,c.2.1,c.2.2.1,c.2.2.2.1,c.2.2.2.2.1,c.2.2.2.2.2.1,c.2.2.2.2.2.2.1,c.2.2.2.2.2.2.2.1,yg c.2.2.2.2.2.2.2.2.1 (c.2.2.2.2.2.2.2.2.1.2.2.1+1),c.2.2.2.2.2.2.2.2.2) (zI (nsV c.1 ((n-4*m:Nat):Int) c.2.1 c.2.2.1) c.2.2.2.1)) (nsV c.1 ((n-4*m:Nat):Int) c.2.1 c.2.2.1).1=((n/4-m:Nat):Int)+1:=by
      unfold bI
      grind
     grind
    ·unfold bI;show(cond (eg c.1 i) _ _)<=(cond (eg c.1 i) _ _)
     cases eg c.1 i
     ·cases cJ i<;>simp only[pG,pH]<;>omega
     grind
    ·match k with
     |0=>show SC c 0=SC c 0+j0 _;omega
     |1=>show SC c 1=SC c 1+mY _;omega
     |2=>show SC c 2=SC c 2+rdF _;rw[rd];omega
     |3=>show SC c 3=SC c 3+jy (eg v _);rw[g];simp[jy]
     |4=>show c.2.2.2.2.2.2.2.2.1.2.2.1+1=c.2.2.2.2.2.2.2.2.1.2.2.1+jy (!eg v _&& !cJ _);rw[g,j];rfl
     |5=>show SC c 5=SC c 5+jy (!eg v _&&cJ _);rw[g,j];simp[jy]
     |6=>show SC c 6=SC c 6+jy ((!eg v _&& !cJ _)&&uY _);rw[p];simp[jy]
     |k+7=>show SC c 7=SC c 7+jy ((!eg v _&&cJ _)&&uY _);rw[p];simp[jy]
    ·have a:=A.ab.seen;have b:=A.ab.clo;have d:=A.ab.lc
     exact⟨A.ab.most,A.ab.lim,Ab,Ab,d⟩
   ·refine A.new h25 Aa (s:=nsV c.1 ((n-4*m:Nat):Int) c.2.1 c.2.2.1) (by rw[r];exact B) (C.mono Aa) ?_ rfl Aa rfl rfl rfl (λi=>?_) (λk=>?_) A.tot A.inf A.ob A.ou A.ab ?_ rfl
    ·have:bI (XU (c.1,c.2.1,c.2.2.1,c.2.2.2.1,c.2.2.2.2.1,c.2.2.2.2.2.1,c.2.2.2.2.2.2.1,c.2.2.2.2.2.2.2.1,c.2.2.2.2.2.2.2.2.1,yg c.2.2.2.2.2.2.2.2.2.1 (c.2.2.2.2.2.2.2.2.2.1.2.2.1+1),c.2.2.2.2.2.2.2.2.2.2) (zI (nsV c.1 ((n-4*m:Nat):Int) c.2.1 c.2.2.1) c.2.2.2.1)) (nsV c.1 ((n-4*m:Nat):Int) c.2.1 c.2.2.1).1=((n/4-m:Nat):Int)+1:=by
      unfold bI
      grind
     grind
    ·unfold bI;show(cond (eg c.1 i) _ _)<=(cond (eg c.1 i) _ _)
     cases eg c.1 i
     ·cases cJ i<;>simp only[pG,pH]<;>omega
     grind
    ·match k with
     |0=>show SC c 0=SC c 0+j0 _;omega
     |1=>show SC c 1=SC c 1+mY _;omega
     |2=>show SC c 2=SC c 2+rdF _;rw[rd];omega
     |3=>show SC c 3=SC c 3+jy (eg v _);rw[g];simp[jy]
     |4=>show SC c 4=SC c 4+jy (!eg v _&& !cJ _);rw[g,j];simp[jy]
     |5=>show c.2.2.2.2.2.2.2.2.2.1.2.2.1+1=c.2.2.2.2.2.2.2.2.2.1.2.2.1+jy (!eg v _&&cJ _);rw[g,j];rfl
     |6=>show SC c 6=SC c 6+jy ((!eg v _&& !cJ _)&&uY _);rw[p];simp[jy]
     |k+7=>show SC c 7=SC c 7+jy ((!eg v _&&cJ _)&&uY _);rw[p];simp[jy]
    ·have a:=A.au.seen;have b:=A.au.clo;have d:=A.au.lc
     exact⟨A.au.most,A.au.lim,Ab,Ab,d⟩
  have M:mkL c.1 c.2.1 c.2.2.1 (n:Int) (m+1) c.2.2.2.1=mkL c.1 c.2.1 c.2.2.1 (n:Int) m (zI (nsV c.1 ((n-4*m:Nat):Int) c.2.1 c.2.2.1) c.2.2.2.1):=by
   grind[mkL]
  have Y:=Zz7 (nsV c.1 ((n-4*m:Nat):Int) c.2.1 c.2.2.1) c.2.2.2.1;have w:=Qpg h25 hK hn ho m _ l.1 (by
   unfold Xw xH;cases hu:cJ (n:Int)<;>simp only[Xw,hu,pG,pH]at t⊢ <;>omega) (by
   unfold Xw xH;cases hu:cJ (n:Int)<;>simp only[Xw,hu,pG,pH]at y⊢ <;>exact y) (by
   grind)
  have N:XU (xH (XU (xH c (n:Int) (yg (Xw c (n:Int)) ((Xw c (n:Int)).2.2.1+1))) (zI (nsV c.1 ((n-4*m:Nat):Int) c.2.1 c.2.2.1) c.2.2.2.1)) (n:Int) (yg (Xw (XU (xH c (n:Int) (yg (Xw c (n:Int)) ((Xw c (n:Int)).2.2.1+1))) (zI (nsV c.1 ((n-4*m:Nat):Int) c.2.1 c.2.2.1) c.2.2.2.1)) (n:Int)) ((n/4:Nat)+1))) (mkL (XU (xH c (n:Int) (yg (Xw c (n:Int)) ((Xw c (n:Int)).2.2.1+1))) (zI (nsV c.1 ((n-4*m:Nat):Int) c.2.1 c.2.2.1) c.2.2.2.1)).1 (XU (xH c (n:Int) (yg (Xw c (n:Int)) ((Xw c (n:Int)).2.2.1+1))) (zI (nsV c.1 ((n-4*m:Nat):Int) c.2.1 c.2.2.1) c.2.2.2.1)).2.1 (XU (xH c (n:Int) (yg (Xw c (n:Int)) ((Xw c (n:Int)).2.2.1+1))) (zI (nsV c.1 ((n-4*m:Nat):Int) c.2.1 c.2.2.1) c.2.2.2.1)).2.2.1 (n:Int) m (XU (xH c (n:Int) (yg (Xw c (n:Int)) ((Xw c (n:Int)).2.2.1+1))) (zI (nsV c.1 ((n-4*m:Nat):Int) c.2.1 c.2.2.1) c.2.2.2.1)).2.2.2.1)=XU (xH c (n:Int) (yg (Xw c (n:Int)) ((n/4:Nat)+1))) (mkL c.1 c.2.1 c.2.2.1 (n:Int) (m+1) c.2.2.2.1):=by
   rw[M];unfold xH Xw;cases cJ (n:Int)<;>rfl
  rw[N]at w;exact⟨w.1,l.2.trans w.2⟩
theorem Qud(A:AU K v fs c)(h25:25<=K)(hK:K<=390000)(hq:aY id=K2)(h0:(fH c id).1=0):AU K v fs (fH c id).2/\Uq c (fH c id).2/\0<=Z8 (fH c id).2.2.2.2.1 id:=by
 have hx:=(WP A.inv (A.cb Aa) h25 Aa hq h0).2.1;refine⟨?_,?_,hx⟩<;>clear hx
 all_goals
  unfold fH at h0⊢;by_cases d:0<=Z8 c.2.2.2.1 id
  ·rw[Zl d]
   first|exact A|exact Uq.refl c
  ·rw[Zm d]at h0⊢;rw[pH]at h0⊢;cases ho:eg c.1 id
   ·rw[ho,pH]at h0;rw[pH];cases hg:Zaw c id
    ·rw[hg]at h0;cases h0
    ·rw[pG];obtain⟨g,f⟩:=Zqd hg;have q:=X4.1 hq;obtain⟨n,rfl⟩:=L7 q.1;have b:n<=4611686018427387903:=Aa
     unfold Zaw Zad at hg;simp only[pC,decide_eq_true_eq]at hg;have a:=hg.1.1.2.2;rw[idN b]at a;have hs:siN (Xw c (n:Int)) (idV (n:Int))=((n/4:Nat):Int)+1- (Xw c (n:Int)).2.2.1:=by
      unfold siN at f⊢;rw[idN b]at f⊢;omega
     have r:=Qpg h25 Aa b (by rw[<-A.sv];exact ho) (siN (Xw c (n:Int)) (idV (n:Int))).toNat c A Aa a g;have e:Zzp c (n:Int)=XU (xH c (n:Int) (yg (Xw c (n:Int)) ((n/4:Nat)+1))) (mkL c.1 c.2.1 c.2.2.1 (n:Int) (siN (Xw c (n:Int)) (idV (n:Int))).toNat c.2.2.2.1):=by
      unfold Zzp siV;rw[hs,show(Xw c (n:Int)).2.2.1+(((n/4:Nat):Int)+1- (Xw c (n:Int)).2.2.1)=((n/4:Nat):Int)+1 by omega]
     rw[e]
     first|exact r.1|exact r.2
   ·rw[ho]at h0;cases h0
end
section
variable {K:Nat}{v:Bool}{fs:List Zj}{c x:Ze}
theorem Qjr(h:bZ K r.2.1)(hK:K<=1000000)(R:Zpu r){e:Int}(h0:0<=e)(h1:e<=4611686018427387903):nbV r e=max 0 (e-r.2.2.2.1):=by
 have a:=(VV h hK).2 R;unfold nbV;have:=R.hq
 grind[X4,Zr]
structure Rm(r y:Zu)(n:Int):Prop where
 hg:y.2.2.2.1=r.2.2.2.1+n
 nx:y.2.1.1=r.2.1.1
 fn:r.2.2.1= -1\/y.2.2.1=r.2.2.1
 ov:r.1=3\/r.1=5->y.1=r.1
theorem Qdl(h:bZ K r.2.1)(hK:K<=1000000)(R:Zpu r)(h1:r.1>1):r.2.2.2.1=r.2.2.1:=by
 obtain⟨-,-,a⟩:=Zfu h hK R.buf;have e:r.2.1.1+Jq r.2.1<=r.2.2.2.1:=by
  have:=R.e0;rcases a with y|⟨d,b,y⟩
  ·omega
  ·have:=R.ec d b;omega
 have f:=R.fin;have S:=R.st;omega
theorem Qmr(b:Zv)(o:Int)(d:Ba):(Zls b o d).1=b.1:=by
 grind[Zls]
theorem Qvd(h:bZ K r.2.1){o:Int}{d:Ba}(fin:Bool)(hK:K+d+1<=900000)(R:Zpu r)(ho:0<=o)(hE:o+d<=4611686018427387903):Pc (Yp r o d fin) λy=>y.2.1=0->Rm r y.1 (nbV r (o+d)):=by
 have c:=(VV h).2 R;have g:=Qjr h Aa R (e:=o+d) Aa hE;have j:∀t x,x.2.2.2.1=max r.2.2.2.1 (o+d)->(r.2.2.1= -1\/x.2.2.1=r.2.2.1)->r.1<=1->Pc (Yq o d r t x) λy=>y.2.1=0->Rm r y.1 (nbV r (o+d)):=λt x i f a=>by
  unfold Yq bD;rw[Zcx h o d,pA];have k:∀b,Rm r (b,Zls r.2.1 o d,x.2.2) (nbV r (o+d)):=λb=>⟨Ag,Qmr _ _ _,f,λh=>Aa⟩
  exact Pc.skip λ_=>Pc.ite (λ_=>Pc.pure λ_=>k _) λ_=>Pc.pure λ_=>k _
 unfold Yp tD;rw[Zc2 h,pA,Zkn h,c,pA];refine Pc.ite (λ_=>Pc.pure λh=>by cases h) λ_=>?_;simp only;rw[Zr (n:=o+d),Zi8,pA];cases hc:Zhd r (o+d) fin
 ·obtain⟨l,m⟩:=Z5d hc;refine Pc.ite (λa=>Pc.pure λ_=>?_) λa=>?_
  ·have a:r.1>1:=by simpa using a
   have:=Qdl h Aa R a;have S:=R.st;exact⟨Ag,rfl,.inr rfl,λ_=>rfl⟩
  grind
 simp_all[Pc.pure]
theorem Qvi(h:bZ K r.2.1)(hK:K<=900000)(R:Zpu r)(code final:Int):Pc (Kl r code final) λy=>y.2.1=0->Rm r y.1 (nbV r final)/\y.1.2.2.2.1=final/\(r.1<=1->y.1.1=4)/\(1<r.1->y.1=r):=by
 have d:=(VV h).2 R;unfold Kl gH;rw[Zc2 h,pA,Zkn h,d,pA];simp only[pI,pH,Kh,pA,Lu,bO,Bool.not_not];cases hq1:aY code
 ·simp_all[Pc.pure]
 cases hq2:aY final
 ·simp_all[Pc.pure]
 have b:=X4.1 hq2;have e:=Qjr h Aa R b.1 b.2;refine Pc.ite (λh=>by simp at h) λ_=>?_;rw[Zi8,pA];cases hc:Zhd r final K2
 ·obtain⟨f,c⟩:=Z5d hc;have c:=c rfl;refine Pc.ite (λa=>Pc.pure λ_=>?_) λa=>Pc.pure λ_=>?_
  ·have a:r.1>1:=by simpa using a
   have:=Qdl h Aa R a;have S:=R.st;exact⟨⟨Ag,rfl,.inr rfl,λ_=>rfl⟩,Ag,λh=>Aa,λ_=>rfl⟩
  ·have a:r.1<=1:=by simpa using a
   exact⟨⟨Ab,rfl,Ab,λh=>Aa⟩,rfl,λ_=>rfl,λh=>Aa⟩
 simp_all[Pc.pure]
theorem Z67(W:Zh4 w)(h0:0<=n)(h1:n<=lft w):(snV w n).2.2.2.2.1=w.2.2.2.2.1/\(snV w n).2.2.1=w.2.2.1:=by
 unfold snV
 grind
theorem Z5a{f:Zj}(A:AU K v fs x)(hk:K<=K')(hK:K'<=490000)(hi:0<=Z8 x.2.2.2.1 f.2.1)(hr:Zij v f.2.1=K2)(hb:bZ K' r.2.1)(R:Zpu r)(M:Rm (atV x f.2.1).2.2.2.1 r n)(hn:0<=n){w1 w2:Ql}(W1:Zh4 w1)(W2:Zh4 w2)
  (a1:w1.2.2.2.1=x.2.2.2.2.2.1.2.2.2.1+n:=by omega) (a2:w2.2.2.2.1=(atV x f.2.1).2.2.2.2.1.2.2.2.1+n:=by omega) (b1:w1.2.2.2.2.1-x.2.2.2.2.2.1.2.2.2.2.1=w2.2.2.2.2.1- (atV x f.2.1).2.2.2.2.1.2.2.2.2.1:=by omega) (b2:(atV x f.2.1).2.2.2.2.1.2.2.2.2.1<=w2.2.2.2.2.1:=by omega) (l2:(atV x f.2.1).2.2.2.2.1.2.2.1<=w2.2.2.1:=by omega):
  AU K' v fs (fin (kL (re x w1) f.2.1 (wm (yA (atV x f.2.1) w2) r)) f.2.1)/\Uq x (fin (kL (re x w1) f.2.1 (wm (yA (atV x f.2.1) w2) r)) f.2.1):=by
 obtain⟨g,i,b,a,j,c⟩:=A.mem Aa hi;have e:=Qwy a.k a.F (by rw[b];exact hr);have l:=a.ws;have m:=a.wr
 have o:=M.hg;have p:=M.nx
 have d:=a.rcv hb Aa R W2 AB Aa e;have hs:Xc K' (wm (yA (atV x f.2.1) w2) r):=⟨(c.mono hk).snd,hb⟩
 exact A.save (w:=w1) Aa hk hi (s:=wm (yA (atV x f.2.1) w2) r) b hs d rfl (Qr6 c hs Aa Aa a d rfl rfl rfl M.ov) (λ_ _ _ h=>h) A.fsk W1 (by show _=_+r.2.2.2.1- (atV x f.2.1).2.2.2.1.2.2.2.1;omega) (by show _=_+w2.2.2.2.2.1- (atV x f.2.1).2.2.2.2.1.2.2.2.2.1;omega) rfl ⟨by show(atV x f.2.1).2.2.2.1.2.2.2.1<=r.2.2.2.1;omega,K3 _,K3 _,K3 _,l2,M.fn,λh=>h⟩
theorem Qqv{f:Zj}(A:AU K v fs x)(hK:K<=390000)(hk:Xa f=K2)(h8:f.1=8)(hi:0<=Z8 x.2.2.2.1 f.2.1)(hr:Zij v f.2.1=K2)(h0:(Zi3 c f x).2.1=0):AU (K+f.2.2.2.1+1) v fs (Zi3 c f x).1/\Uq x (Zi3 c f x).1:=by
 obtain⟨u,j,b,y⟩:=okF hk;have b:=b h8;obtain⟨z,B,C,h,D,d⟩:=A.mem Aa hi;have o:Lc.wrap (f.2.2.1+f.2.2.2.1)=f.2.2.1+f.2.2.2.1:=Zr;obtain⟨r,w,e,i⟩:=Zdo d.rcv f.2.2.1 f.2.2.2.1 f.2.2.2.2.1;have R:=(VV d.rcv).1 h.F.rcv;have g:=Qnf d.rcv f.2.2.2.2.1 Aa R j.1 b _ e;have M:=Qvd d.rcv f.2.2.2.2.1 Aa R j.1 b _ e;have a:=Qbs (atV x f.2.1).2.2.2.1 (f.2.2.1+f.2.2.2.1);unfold Zi3 at h0⊢;rw[o,e]at h0⊢;simp only[Z2h]at h0⊢;generalize nbV (atV x f.2.1).2.2.2.1 (f.2.2.1+f.2.2.2.1)=n at*
 cases hf:flB x (atV x f.2.1) n
 ·simp_all
 rw[hf]at h0;cases hw0:w==0
 ·simp_all
 have k:w=0:=by simpa using hw0
 obtain⟨l,m⟩:=Qdi.1 hf;obtain⟨p,q⟩:=Zsz h.F.win a l;obtain⟨s,t⟩:=Zsz A.inf a m;obtain⟨E,G⟩:=Z67 h.F.win a l;obtain⟨H,I⟩:=Z67 A.inf a m;simp only[pG];exact Z5a A Aa Aa hi hr i (g k).1 (M k) a s p t q
theorem Qvk{f:Zj}(A:AU K v fs x)(hK:K<=390000)(hk:Xa f=K2)(hi:0<=Z8 x.2.2.2.1 f.2.1)(hr:Zij v f.2.1=K2)(h0:(Z1r c f x).2.1=0):AU K v fs (Z1r c f x).1/\Uq x (Z1r c f x).1:=by
 obtain⟨q,G,H,a,I,h⟩:=A.mem Aa hi;obtain⟨r,w,e,d⟩:=Zaa h.rcv Aa f.2.2.2.2.2.1 f.2.2.2.2.2.2.2.1;have R:=(VV h.rcv).1 a.F.rcv;have g:=Qj8 h.rcv Aa R f.2.2.2.2.2.1 f.2.2.2.2.2.2.2.1 _ e;have M:=Qvi h.rcv Aa R f.2.2.2.2.2.1 f.2.2.2.2.2.2.2.1 _ e;have b:0<=Zbw x f:=Qbs _ _;have s:Zsg x f=(r,w,()):=by unfold Zsg;rw[e];rfl
 have J:=A.room q;unfold Z1r at h0⊢;rw[s]at h0⊢;rw[show nbV (atV x f.2.1).2.2.2.1 f.2.2.2.2.2.2.2.1=Zbw x f from rfl]at g M;have t:Qsp x f=Lc.wrap (f.2.2.2.2.2.2.2.1- (snV (atV x f.2.1).2.2.2.2.1 (Zbw x f)).2.2.2.2.1):=rfl;simp only at h0⊢;rw[t]at h0⊢;generalize Zbw x f=n at*
 cases hf:flB x (atV x f.2.1) n
 ·simp_all
 rw[hf]at h0;cases hw0:w==0
 ·simp_all
 have i:w=0:=by simpa using hw0
 obtain⟨j,L,N,O⟩:=M i;obtain⟨o,p⟩:=Qdi.1 hf;obtain⟨k,u⟩:=Zsz a.F.win b o;obtain⟨l,y⟩:=Zsz A.inf b p;obtain⟨z,P⟩:=Z67 a.F.win b o;obtain⟨Q,S⟩:=Z67 A.inf b p;have B:=a.ws;have rd:=a.F.win.read;have U:=j.hg;have C:=(g i).1.hq;simp only[pG];cases hb:((r.1==4)&&((atV x f.2.1).2.2.2.1.1 !=4))
 ·exact Z5a A (Le _) Aa hi hr d (g i).1 j b l k y u
 ·have D:Lc.wrap (f.2.2.2.2.2.2.2.1- (snV (atV x f.2.1).2.2.2.2.1 n).2.2.2.2.1)=f.2.2.2.2.2.2.2.1- (atV x f.2.1).2.2.2.2.1.2.2.2.2.1:=by
   rw[z];exact Zr (by have:=a.F.win.lim;have:=a.F.win.seen;omega)
  rw[D];have m:mY (atV x f.2.1)=(atV x f.2.1).2.2.2.1.2.2.2.1:=rfl;have E:rdF (atV x f.2.1)=(atV x f.2.1).2.2.2.2.1.2.2.2.2.1:=rfl;rw[m]at B;obtain⟨V,W,X⟩:=Z6x k (n:=f.2.2.2.2.2.2.2.1- (atV x f.2.1).2.2.2.2.1.2.2.2.2.1);obtain⟨Y,Z,Y3⟩:=Z6x l (n:=f.2.2.2.2.2.2.2.1- (atV x f.2.1).2.2.2.2.1.2.2.2.2.1);exact Z5a A (Le _) Aa hi hr d (g i).1 j b (Zlm l _).1 (Zlm k _).1
theorem Qv1{f:Zj}(A:AU K v fs x)(hK:K<=390000)(hi:0<=Z8 x.2.2.2.1 f.2.1)(hr:Z1y v f.2.1=K2):AU K v fs (Z29 f x).1/\Uq x (Z29 f x).1:=by
 obtain⟨y,z,c,a,B,b⟩:=A.mem Aa hi;obtain⟨d,w,e,n⟩:=ZH b.snd f.2.2.2.2.2.1;have g:=Qkk b.snd Aa a.q f.2.2.2.2.2.1 _ e;have p:Z69 x f=(d,w,()):=by unfold Z69;rw[e];rfl
 have m:=Qwz a.k a.F (by rw[c];exact hr);unfold Z29;rw[p];cases w
 ·have:=A.save (w:=x.2.2.2.2.2.1) Aa (Le _) hi (s:=atV x f.2.1) c b a rfl id (λ_ _ _ h=>h) A.fsk A.inf Aa Aa rfl (Up.refl _);simp_all[kL]
 ·obtain⟨⟨r,i,j⟩,t⟩:=g rfl;have i:d.1=4:=i;have u:=a.rst r i j m;have l:Xc K (yM (lL (atV x f.2.1) d)):=⟨n,b.rcv⟩
  exact A.save (w:=x.2.2.2.2.2.1) Aa (Le _) hi (s:=yM (lL (atV x f.2.1) d)) c l u rfl (λo=>by rw[ovR (x:=d) b Aa a t m]at o;cases o) (λ_ _ _ h=>h) A.fsk A.inf AB Ak j ⟨K3 _,Lj j.symm,Ag,K3 _,K3 _,.inr rfl,λh=>h⟩
theorem Qso(c:Ky)(n:Int):c.1<=(rlV c n).1:=by
 unfold rlV
 grind
theorem Qw3{f:Zj}(A:AU K v fs x)(hK:K<=390000)(hi:0<=Z8 x.2.2.2.1 f.2.1):AU K v fs (mlX f x).1/\Uq x (mlX f x).1:=by
 obtain⟨i,j,g,c,k,d⟩:=A.mem Aa hi;obtain⟨a,b⟩:=Zzd c.F.cre f.2.2.2.2.2.2.1;have e:SA v fs (bI x f.2.1) (Zks (atV x f.2.1) (rlV (atV x f.2.1).2.2.1 f.2.2.2.2.2.2.1)):={c with F:={c.F with cre:=a,su:=by show _<=(rlV _ _).2.1;rw[b];exact c.F.su},cu:=by show(rlV _ _).2.1=_;rw[b];exact c.cu}
 have hs:Xc K (Zks (atV x f.2.1) (rlV (atV x f.2.1).2.2.1 f.2.2.2.2.2.2.1)):=⟨d.snd,d.rcv⟩
 exact A.put Aa (Le _) hi (s:=Zks (atV x f.2.1) (rlV (atV x f.2.1).2.2.1 f.2.2.2.2.2.2.1)) g hs e rfl (by rw[ovF hs (by omega) e.F,ovF d (by omega) c.F]) (λ_ _ _ h=>h) A.fsk rfl rfl rfl {Up.refl (atV x f.2.1)with cl:=Qso _ _}
theorem Z9l{f:Zj}{g can:Bool}{k:Ze->Ze×Int×Unit}(A:AU K v fs c)(h25:25<=K)(hK:K<=390000)(hk:∀x,AU K v fs x->0<=Z8 x.2.2.2.1 f.2.1->g=K2->can=K2->Xa f=K2->(k x).2.1=0->AU K' v fs (k x).1/\Uq x (k x).1)(h:(pre c f g can k).2.1=0):AU K' v fs (pre c f g can k).1/\Uq c (pre c f g can k).1:=by
 have e:=A.cb Aa;unfold pre at h⊢;rw[e]at h⊢;cases hf:Xa f
 ·simp_all
 cases g
 ·simp_all
 cases can
 ·simp_all
 rw[hf]at h;simp only[Lw,pG]at h⊢;cases h0:(fH c f.2.1).1==0
 ·grind
 ·rw[h0]at h;obtain⟨a,b,d⟩:=Qud A h25 Aa (okF hf).1 (by simpa using h0);obtain⟨p,q⟩:=hk _ a d rfl rfl hf h;exact⟨p,b.trans q⟩
theorem Quj{f:Zj}(A:AU K v fs c)(h25:25<=K)(hK:K<=380000)(h0:(Zeq c f).2.1=0):AU (K+f.2.2.2.1+2) v fs (Zeq c f).1/\Uq c (Zeq c f).1:=by
 have j:=A.sv;have h:=A.cb Aa;have U:=Uq.refl c;unfold Zeq at h0⊢;cases h8:f.1==8
 ·rw[h8]at h0;cases h4:f.1==4
  ·rw[h4]at h0;cases h5:f.1==5
   ·rw[h5]at h0;simp only[pH]at h0⊢;unfold Z83 at h0⊢;cases h17:f.1==17
    ·rw[h17]at h0;cases h21:f.1==21
     ·rw[h21,h]at h0;rw[h];cases g:Xa f
      ·simp_all
      rw[g]at h0;simp only[Lw,pG,pH]at h0⊢;have B:AU (K+f.2.2.2.1+2) v fs c:=A.mono Aa;cases h16:f.1==16
      ·cases h18:f.1==18
       ·cases h20:(f.1==20)||(f.1==22)
        all_goals simp_all
       ·show AU _ v fs (Z70 c _ _)/\Uq c (Z70 c _ _);unfold Z70;have e:∀a:dn,∀n,(rcV a n).2.1=a.2.1:=λa n=>by unfold rcV;cases (WM a&&Ll (n>a.1))&&Ll (n<=1152921504606846976)<;>rfl
        cases f.2.2.2.2.2.2.2.2.1
        ·refine⟨{B with inv:=⟨B.inv.str,B.inv.pk⟩,ob:=Zy8 B.ob _,all:=λs hs=>?_,sm:=λk=>(B.sm k).trans ?_},U⟩
         ·have:bI (c.1,c.2.1,c.2.2.1,c.2.2.2.1,c.2.2.2.2.1,c.2.2.2.2.2.1,rcV c.2.2.2.2.2.2.1 f.2.2.2.2.2.2.1,c.2.2.2.2.2.2.2) s.1=bI c s.1:=by unfold bI;rw[e]
          rw[pH,this];exact B.all s hs
         ·match k with
          |0=>rfl
          |1=>rfl
          |2=>rfl
          |3=>show _=(rcV _ _).2.1+_;rw[e];rfl
          |4=>rfl
          |5=>rfl
          |6=>rfl
          |k+7=>rfl
        ·refine⟨{B with inv:=⟨B.inv.str,B.inv.pk⟩,ou:=Zy8 B.ou _,all:=λs hs=>?_,sm:=λk=>(B.sm k).trans ?_},U⟩
         ·have:bI (c.1,c.2.1,c.2.2.1,c.2.2.2.1,c.2.2.2.2.1,c.2.2.2.2.2.1,c.2.2.2.2.2.2.1,rcV c.2.2.2.2.2.2.2.1 f.2.2.2.2.2.2.1,c.2.2.2.2.2.2.2.2) s.1=bI c s.1:=by unfold bI;rw[e]
          rw[pG,this];exact B.all s hs
         ·match k with
          |0=>rfl
          |1=>rfl
          |2=>rfl
          |3=>show _=_+(rcV _ _).2.1;rw[e];rfl
          |4=>rfl
          |5=>rfl
          |6=>rfl
          |k+7=>rfl
      ·obtain⟨a,b⟩:=Zzd B.tot f.2.2.2.2.2.2.1;refine⟨{B with inv:=⟨B.inv.str,B.inv.pk⟩,tot:=a,sm:=λk=>(B.sm k).trans ?_},U⟩
       match k with
       |0=>exact b.symm
       |1=>rfl
       |2=>rfl
       |3=>rfl
       |4=>rfl
       |5=>rfl
       |6=>rfl
       |k+7=>rfl
     ·rw[h21]at h0;exact Z9l (k:=λx=>(x,0,())) A h25 Aa (λx X _ _ _ _ _=>⟨X.mono Aa,Uq.refl x⟩) h0
    ·rw[h17]at h0;exact Z9l A h25 Aa (λx X d _ _ _ _=>by have:=Qw3 (f:=f) X Aa d;exact⟨this.1.mono Aa,this.2⟩) h0
   ·rw[h5]at h0;exact Z9l A h25 Aa (λx X d _ i _ _=>by have:=Qv1 (f:=f) X Aa d Ac;exact⟨this.1.mono Aa,this.2⟩) h0
  ·rw[h4]at h0;exact Z9l A h25 Aa (λx X d _ i g h0=>by have:=Qvk (c:=c) (f:=f) X Aa g d Ac h0;exact⟨this.1.mono Aa,this.2⟩) h0
 ·rw[h8]at h0;exact Z9l A h25 Aa (λx X d l i g h0=>by have:=Qqv (c:=c) (f:=f) X Aa g (by simpa using h8) d Ac h0;exact⟨this.1.mono Aa,this.2⟩) h0
end
def ffR(id:Int)(out:List Zi)(f:Zj):List Zi:=cond ((f.1==8)&&(f.2.1==id)) (Qfc out (rgE (pcF f))) out
theorem Qid{E:Int}{out:List Zi}{f:Zj}(h:RL E out)(hf:f.1=8->f.2.1=id->0<=f.2.2.1/\f.2.2.1+f.2.2.2.1<=E)(hE:E<=1000000):RL E (ffR id out f)/\hs n (ffR id out f)=ite (1<=hs n out+cvR id n f) 1 0:=by
 have g:=(Znx (n:=n) h.1).1;have j:=ml n out;unfold ffR cvR;cases c:(f.1==8)&&(f.2.1==id)
 ·grind
 ·have c:f.1=8/\f.2.1=id:=by simpa using c
  rw[if_pos c];obtain⟨a,b⟩:=hf c.1 c.2;refine⟨vd h b,?_⟩;simp only[pG];have i:=XE (rgE (pcF f)) n;by_cases d:W7 (rgE (pcF f))=K2
  ·have e:Qfc out (rgE (pcF f))=jf out (rgE (pcF f)):=if_pos ⟨h.1,d⟩;rw[e,Zz2 h.1 d Ab];omega
  ·have e:Qfc out (rgE (pcF f))=out:=if_neg λq=>d q.2;have z:inc (rgE (pcF f)) n=0:=by
    refine if_neg λq=>d (Qh.2 ?_)
    grind
   grind
theorem Qie{E id n:Int}(hE:E<=1000000):∀{fs:List Zj}{out:List Zi},RL E out->(∀f∈fs,f.1=8->f.2.1=id->0<=f.2.2.1/\f.2.2.1+f.2.2.2.1<=E)->RL E (fs.foldl (ffR id) out)/\hs n (fs.foldl (ffR id) out)=ite (1<=hs n out+cov id n fs) 1 0
 |[],out,h,_=>by
  have:=(Znx (n:=n) h.1).1;have:=ml n out;refine⟨h,?_⟩;show hs n out=ite (1<=hs n out+0) 1 0;omega
 |f::fs,out,h,c=>by
  obtain⟨a,b⟩:=Qid (n:=n) h (c f Lf) hE;obtain⟨d,e⟩:=Qie (n:=n) hE a λg i=>c g (Ld _ i);refine⟨d,?_⟩;rw[Lz,e,b];have:=Qas id n fs;have:=Qow id n f;have:=ml n out
  grind[cov]
section
variable {K:Nat}{v:Bool}{fs:List Zj}{c:Ze}
theorem Z5v{E id:Int}(h0:0<=E)(hE:E<=1000000)(K1:(Int×List Zi×List Z6×Int×Int×Unit)->Oa (List Zi))(pk:List Z6)(n i:Int)(fr:List Zj)(hl:fr.length<=1000)(hf:∀f∈fr,f.1=8->f.2.1=id->0<=f.2.2.1/\f.2.2.1+f.2.2.2.1<=E)(hd:∀f∈fr,f.2.2.1+f.2.2.2.1<=9000000000000000000/\0<=f.2.2.1+f.2.2.2.1):∀(N j:Nat)(out:List Zi),RL E out->fr-j<N->j<=fr->
  kE K1 N id out pk n i fr fr (j:Int)=K1 (id,(fr.drop j).foldl (ffR id) out,pk,n,Lc.wrap (i+1),())
 |0,_,_,_,h,_=>Aa
 |N+1,j,out,a,e,g=>by
  have k:=Qm a h0 (K3 _) hE;unfold kE gG gN;by_cases b:j<fr
  ·have c:=Z2 (d:=Qc) b;have l:=hd _ c;rw[Zn (Zl),Zb,show(j:Int).toNat=j from rfl,Qy (d:=Qc) b,Lz,Zs b];rw[Zr (n:=(fr.getD j Qc).2.2.1+(fr.getD j Qc).2.2.2.1)];have R:=(Qid (n:=0) a (hf _ c) hE).1;unfold ffR at R⊢;cases hc:((fr.getD j Qc).1==8)&&((fr.getD j Qc).2.1==id)
   ·rw[pH,pH];exact Z5v h0 hE K1 pk n i fr hl hf hd N (j+1) out a Aa Aa
   ·rw[hc]at R;rw[pG,pG,YT _ _,pA];exact Z5v h0 hE K1 pk n i fr hl hf hd N (j+1) _ R Aa Aa
  grind
theorem Qdj{E id:Int}(h0:0<=E)(hE:E<=1000000)(pk:List Z6)(hp:pk.length<=1000000)(hl:∀p∈pk,p.2.1.length<=1000)(hf:∀p∈pk,∀f∈p.2.1,f.1=8->f.2.1=id->0<=f.2.2.1/\f.2.2.1+f.2.2.2.1<=E)(hd:∀p∈pk,∀f∈p.2.1,f.2.2.1+f.2.2.2.1<=9000000000000000000/\0<=f.2.2.1+f.2.2.2.1):∀(N i:Nat)(out:List Zi),RL E out->pk-i<N->i<=pk->
  kD N id out pk pk (i:Int)=K4 ((ll (pk.drop i)).foldl (ffR id) out,())
 |0,_,_,_,h,_=>Aa
 |N+1,i,out,c,g,j=>by
  unfold kD gG gL;by_cases b:i<pk
  ·have a:=Z2 (d:=Q1) b;rw[Zn (Zl),Zb,show(i:Int).toNat=i from rfl];have e:=Z5v h0 hE (λv=>kD N v.1 v.2.1 v.2.2.1 v.2.2.2.1 v.2.2.2.2.1) pk pk (i:Int) (pk.getD i Q1).2.1 (hl _ a) (hf _ a) (hd _ a) (mc id out pk pk (i:Int) (pk.getD i Q1).2.1 (pk.getD i Q1).2.1 0) 0 out c (by simp[mc]) Aa;rw[Ly,Lh]at e;simp only;rw[e];simp only;rw[Zs b,Qdj h0 hE pk hp hl hf hd N (i+1) _ (Qie (n:=0) hE c (hf _ a)).1 Aa Aa,Qy (d:=Q1) b];simp[ll]
  ·rw[Zp (Zm),L4 Aa];rfl
theorem Qj1{n:Int}:∀{l:List Z6}{o:Option Int},pkB n o l=K2-> ∀p∈l,∀f∈p.2.1,Xa f=K2
 |[],_,_,p,hp=>by cases hp
 |x::r,o,h,p,hp=>by
  simp only[pkB,pC]at h;rcases Li.1 hp with rfl|hp
  ·simp_all
  ·exact Qj1 h.2 p hp
theorem Qmf(A:AD K v c)(hK:K<=1000000)(hs':s∈c.2.2.2.1)(h4:s.2.1.1<4):KY (Xu c) s.1=K4 (s.2.1.2.2.2.1,()):=by
 have S:=(A.all s hs').1;have i:=(A.inv.str.all s hs').snd;have j:=i.e0;have o:=i.eK
 have k:=A.inv.pk;have l:∀p∈Xu c,∀f∈p.2.1,Xa f=true:=λp d f g=>Qj1 A.pks p d f g;have m:∀p∈Xu c,∀f∈p.2.1,f∈ll (Xu c):=λp d f g=>Mf.2 ⟨p,d,g⟩;have g:∀p∈Xu c,∀f∈p.2.1,f.1=8->f.2.1=s.1->0<=f.2.2.1/\f.2.2.1+f.2.2.2.1<=s.2.1.2.1.2.2.1:=λp d f g a b=>((yu j).1 (S.ins h4 f (m p d f g) a b)).1;have e:=Qdj (E:=s.2.1.2.1.2.2.1) (id:=s.1) j Aa (Xu c) (Mk k.1 hK) (λp d=>(k.2 p d).1) g (λp d f g=>by
  obtain⟨-,t,-,u⟩:=okF (l p d f g);omega) (mb s.1 [] (Xu c) (Xu c) 0) 0 [] (ZV _) (by simp[mb]) Aa
 rw[Ly,Lh]at e;unfold KY;rw[e];have r:=λn=>Qie (n:=n) (id:=s.1) (E:=s.2.1.2.1.2.2.1) Aa (fs:=ll (Xu c)) (ZV _) λf h a b=>by
  obtain⟨p,d,q⟩:=Mf.1 h
  grind
 have:=Qkj (r 0).1.1 i.pT.1 λn=>by
  rw[(r n).2,S.fl h4 n];have:=(Znx (n:=n) i.pT.1).1;have:=ml n s.2.1.2.2.2.1;rw[show hs n ([]:List Zi)=0 from rfl];omega
 rw[this]
theorem Zlk{l:List Zf}(h:i<l):lg g (l.drop i)=g (l.getD i Zc)+lg g (l.drop (i+1)):=by
 rw[Qy (d:=Zc) h];rfl
theorem Qew{g:Zf->Int}{b:Int}:∀{l:List Zf},(∀s∈l,0<=g s/\g s<=b)->0<=lg g l/\lg g l<=b*l
 |[],_=>by simp[lg]
 |x::l,h=>by
  have a:=h x Lf;have:=Qew (l:=l) λs hs=>h s (Ld _ hs);simp only[lg,Me,Int.natCast_add,Int.mul_add];omega
theorem Qlr(A:AD K v c)(hK:K<=1000000):QG c=K4 (K2,())/\QI c=K4 ([],()):=by
 have hl:=A.inv.str.len;have L:=A.len;have E:K7 c=K4 (K2,()):=by rw[xv A.inv hK,Zb2 A.inv hK,A.cb hK]
 have G:Z3b c.2.2.2.1=true:=(A.con hK).sts;have H:=((A.con hK).LF A.inv hK).nn hK;have M:=(Zac (f:=j0) (n:=0) (λs hs=>(H s hs).1) (K3 _) Ai).1;have O:=(Zac (f:=mY) (n:=0) (λs hs=>(H s hs).2) (K3 _) Ai).1;have P:lg j0 c.2.2.2.1=c.2.2.2.2.1.2.1:=A.sm 0;have Q:lg mY c.2.2.2.1=c.2.2.2.2.2.1.2.2.2.1:=A.sm 1;have k2:lg rdF c.2.2.2.1=c.2.2.2.2.2.1.2.2.2.2.1:=A.sm 2;have t1:=A.tot.lim;have t2:=A.tot.use;have w1:=A.inf.lim;have w2:=A.inf.seen;have w3:=A.inf.read
 have stE:pd c.2.2.2.1=K4 (c.2.2.2.2.1.2.1,()):=by
  rw[Z1t A.inv.str hK,Qp0 A.inv.str hK G,M,P,show min (0+c.2.2.2.2.1.2.1) 4611686018427387904=c.2.2.2.2.1.2.1 by omega]
 have U:pb c.2.2.2.1=K4 (c.2.2.2.2.2.1.2.2.2.1,()):=by
  rw[Z1s A.inv.str hK,Qpx A.inv.str hK G,O,Q,show min (0+c.2.2.2.2.2.1.2.2.2.1) 4611686018427387904=c.2.2.2.2.2.1.2.2.2.1 by omega]
 
 have c1:uE c=K4 (K2,()):=by
  have z:∀(N i:Nat),c.2.2.2.1-i<N->i<=c.2.2.2.1->ie N c c.2.2.2.1 c.2.2.2.1 (i:Int)=K4 (K2,()):=by
   intro N
   induction N with
   |zero=>omega
   |succ N x=>
    intro i B D;unfold ie gG gK;by_cases h:i<c.2.2.2.1
    ·have S:=(A.all _ (Z2 (d:=Zc) h)).1.cu;unfold j0 at S;rw[Zn (Zl),Zb,show(i:Int).toNat=i from rfl,S,Zs h]
     grind
    grind
  grind[uE,mo]
 have c2:uF c=K4 (K2,()):=by
  have I:∀s∈c.2.2.2.1,0<=rdF s:=λs hs=>(A.all s hs).1.F.win.read.1;have z:∀(N i:Nat)(r:Int),0<=r->r+lg rdF (c.2.2.2.1.drop i)=c.2.2.2.2.2.1.2.2.2.2.1->c.2.2.2.1-i<N->i<=c.2.2.2.1->ig N c r c.2.2.2.1 c.2.2.2.1 (i:Int)=K4 (K2,()):=by
   intro N
   induction N with
   |zero=>omega
   |succ N x=>
    intro i r hr hs B D;unfold ig gG gK;by_cases h:i<c.2.2.2.1
    ·have S:=(A.all _ (Z2 (d:=Zc) h)).1;have a:=S.ws;have b:=S.wr
     unfold mY at a;have g:=I _ (Z2 (d:=Zc) h);have g2:=(Z7c (f:=rdF) (l:=c.2.2.2.1.drop (i+1)) λs hs=>I s (Mg hs)).1;rw[Zlk h]at hs;have rx:rdF (c.2.2.2.1.getD i Zc)=(c.2.2.2.1.getD i Zc).2.2.2.2.1.2.2.2.2.1:=rfl;rw[Zn (Zl),Zb,show(i:Int).toNat=i from rfl,a,Zs h];rw[bne_self_eq_false,Lm,Zm,Ls,pH,Zr];exact x (i+1) _ Aa Aa Aa Aa
    ·rw[L4 Aa]at hs;simp only[lg,L6]at hs
     grind
  unfold uF;rw[E];exact z _ 0 0 (K3 _) Ag (by simp[mq]) Aa
 have c3:xe c=K4 (K2,()):=by
  have z:∀(N i:Nat),c.2.2.2.1-i<N->i<=c.2.2.2.1->jr N c c.2.2.2.1 c.2.2.2.1 (i:Int)=K4 (K2,()):=by
   intro N
   induction N with
   |zero=>omega
   |succ N x=>
    intro i B D;unfold jr gG gK;by_cases h:i<c.2.2.2.1
    ·have y:=Z2 (d:=Zc) h;have st:=(A.all _ y).1.F.snd.st;have j:=(A.inv.str.all _ y).snd;have lf:=Qm j.pT j.e0 j.eK;have J:=x (i+1) Aa Aa;rw[Zn (Zl),Zb,show(i:Int).toNat=i from rfl,Zs h];by_cases V:(c.2.2.2.1.getD i Zc).2.1.1<4
     ·have e:=Qmf A hK y V;rw[show((c.2.2.2.1.getD i Zc).2.1.1 !=(4:Int))=K2 from bne_iff_ne.2 Aa,show((c.2.2.2.1.getD i Zc).2.1.1 !=(5:Int))=K2 from bne_iff_ne.2 Aa];simp only[Lw,pG];rw[e,pA,Z65 _ Aa,pA];exact J
     ·have:(((c.2.2.2.1.getD i Zc).2.1.1 !=(4:Int))&&((c.2.2.2.1.getD i Zc).2.1.1 !=(5:Int)))=false:=by
       grind
      simp only[this,pH,pA,Lx];exact J
    grind
  grind[xe,nW]
 have c4:xd c=K4 (K2,()):=by
  have W:∀k,3<=k-> ∀s∈c.2.2.2.1,0<=ms v k s/\ms v k s<=1:=λk hk s _=>by
   match k,hk with
   |3,_=>exact Z02 _
   |4,_=>exact Z02 _
   |5,_=>exact Z02 _
   |6,_=>exact Z02 _
   |k+7,_=>exact Z02 _
  have u:∀k,3<=k-> ∀i,0<=lg (ms v k) (c.2.2.2.1.drop i)/\lg (ms v k) (c.2.2.2.1.drop i)<=24:=λk hk i=>by
   have:=Qew (g:=ms v k) (b:=1) (l:=c.2.2.2.1.drop i) λs hs=>W k hk s (Mg hs)
   grind
  have o1:=Zf2.1 A.ob;have o2:=Zf2.1 A.ou
  have z:∀(N i:Nat)(o p a b:Int),0<=o->0<=p->0<=a->0<=b->o+lg (ms v 3) (c.2.2.2.1.drop i)=SC c 3->p+(lg (ms v 4) (c.2.2.2.1.drop i)+lg (ms v 5) (c.2.2.2.1.drop i))=SC c 4+SC c 5->a+lg (ms v 6) (c.2.2.2.1.drop i)=SC c 6->b+lg (ms v 7) (c.2.2.2.1.drop i)=SC c 7->c.2.2.2.1-i<N->i<=c.2.2.2.1->
    dX N c o p [a,b] c.2.2.2.1 c.2.2.2.1 (i:Int)=K4 (K2,()):=by
   have X:SC c 3<=24:=by have:=u 3 Aa 0;rw[Lh,A.sm]at this;exact this.2
   have Y:SC c 4<=24:=by have:=u 4 Aa 0;rw[Lh,A.sm]at this;exact this.2
   have Z:SC c 5<=24:=by have:=u 5 Aa 0;rw[Lh,A.sm]at this;exact this.2
   have q6:SC c 6<=24:=by have:=u 6 Aa 0;rw[Lh,A.sm]at this;exact this.2
   have q7:SC c 7<=24:=by have:=u 7 Aa 0;rw[Lh,A.sm]at this;exact this.2
   have ad:c.2.2.2.2.2.2.1.2.1+c.2.2.2.2.2.2.2.1.2.1<=24:=X;have am:c.2.2.2.2.2.2.2.2.1.2.2.1<=24:=Y;have ar:c.2.2.2.2.2.2.2.2.2.1.2.2.1<=24:=Z;have g4:=A.ab.seen;have g5:=A.au.seen
   intro N
   induction N with
   |zero=>omega
   |succ N x=>
    intro i o p a b ho hp ha hb w t m q B D;unfold dX gG gK;by_cases h:i<c.2.2.2.1
    ·have y:=Z2 (d:=Zc) h;have C:=(A.all _ y).2;have j:=A.inv.str.all _ y;have r3:=u 3 Aa (i+1);have r4:=u 4 Aa (i+1);have r5:=u 5 Aa (i+1);have r6:=u 6 Aa (i+1);have r7:=u 7 Aa (i+1)
     rw[Zlk h]at w m q;rw[Zlk h,Zlk h]at t;simp only[ms]at w t m q;rw[Zn (Zl),Zb,show(i:Int).toNat=i from rfl,Qm6,Z9g,pA,A.sv,Zs h];cases ow:eg v (c.2.2.2.1.getD i Zc).1
     ·rw[ow]at w t m q;have C:=C ow;rw[pH,Qju j hK,pA];have C':(c.2.2.2.1.getD i Zc).2.2.2.2.2.2.2.2.2.2.2.2.2.1=zJ (c.2.2.2.1.getD i Zc):=C;rw[<-C',beq_self_eq_true,pI,pH,Qgx,Z2d,pA];simp only[Lp,pJ]at w t m q;rw[show uY (c.2.2.2.1.getD i Zc)=(c.2.2.2.1.getD i Zc).2.2.2.2.2.2.2.2.2.2.2.2.2.1 from rfl]at m q;generalize (c.2.2.2.1.getD i Zc).2.2.2.2.2.2.2.2.2.2.2.2.2.1=cn at*
      generalize c.2.2.2.1.getD i Zc=s at*
      have m:a+(jy (!cJ s.1&&cn)+lg (ms v 6) (c.2.2.2.1.drop (i+1)))=SC c 6:=m;have q:b+(jy (cJ s.1&&cn)+lg (ms v 7) (c.2.2.2.1.drop (i+1)))=SC c 7:=q;cases hu:cJ s.1<;>rw[hu]at t m q<;>cases cn<;>simp only[jx,jy,pG,pH,pA,pI,Lp,Lt,Lm,Lw]at w t m q⊢ <;>rw[Zb Ai,Zb Ai]<;>simp(disch:=omega) only[Zr,show(0:Int).toNat=0 from rfl,show(1:Int).toNat=1 from rfl,Mc,List.getD_cons_succ,List.set_cons_zero,List.set_cons_succ]<;>exact x (i+1) _ _ _ _ Aa Aa Aa Aa Aa Aa Aa Aa Aa Aa
     ·rw[ow]at w t m q;simp only[jy,pI,Lx,pG,pH]at w t m q;rw[pG,Zr (n:=o+1)];exact x (i+1) _ _ _ _ Aa hp ha hb Aa Aa Aa Aa Aa Aa
    ·rw[L4 Aa]at w t m q;simp only[lg,L6]at w t m q;rw[Zp (Zm),Zr,Zr,w,t,m,q];simp[eqV,SC,eqL]
  unfold xd;rw[E];exact z _ 0 0 0 0 0 (K3 _) (K3 _) (K3 _) (K3 _) (by rw[Lh,A.sm];omega) (by rw[Lh,A.sm,A.sm];omega) (by rw[Lh,A.sm];omega) (by rw[Lh,A.sm];omega) (by simp[nV]) Aa
 grind[QI,QG]
end
section
variable {K:Nat}{v:Bool}{fs:List Zj}{c:Ze}
theorem Qj2{l:List Z6}{o o':Option Int}(h:pkB n o l=K2)(k:∀q,o'=K4 q-> ∃p,o=K4 p/\q<=p):pkB n o' l=true:=by
 cases l with
 |nil=>rfl
 |cons x r=>
  simp only[pkB,pC]at h⊢
  grind
theorem Z09{n:Int}{f:Z6->Bool}:∀{l:List Z6}{o:Option Int},pkB n o l=K2->pkB n o (l.filter f)=K2
 |[],_,_=>rfl
 |x::r,o,h=>by
  have a:=λo' (h:pkB n o' r=K2)=>Z09 (f:=f) (l:=r) (o:=o') h;rw[List.filter_cons];simp only[pkB,pC]at h;split
  ·simp_all[pkB]
  ·refine a o (Qj2 h.2 λq b=>⟨x.1,rfl,?_⟩)
   grind
theorem Qlu(id k:Int)(a b:List Z6)(p:Z6):cov id k (p.2.1++ll (a++b))=cov id k (ll (a++p::b)):=by
 simp only[ll,List.flatMap_append,List.flatMap_cons,Zxr];omega
theorem Qpv(A:AD K v c)(hK:K<=1000000)(hr:JY c n=K2):AU K v ((pkF n (Xu c)).1.2.1++ll ((Xu c).filter λp=>p.1 !=n)) (YH c ((Xu c).filter λp=>p.1 !=n)):=by
 unfold JY at hr;simp only[pC]at hr;have e:=A.pks;have g:=Qj3 n (l:=Xu c);cases hx:pkX n (Xu c)with
 |none=>simp_all
 |some i=>
  rw[hx]at g;simp only at g;have h:=Qb1 hx;have j:=Z08 (m:=n) e hx;have o:Xu c=(Xu c).take i++(Xu c).getD i Q1:: (Xu c).drop (i+1):=by
   simp_all
  have a:∀d k,cov d k ((pkF n (Xu c)).1.2.1++ll ((Xu c).filter λp=>p.1 !=n))=cov d k (ll (Xu c)):=λd k=>by
   grind[Qlu]
  have b:∀f∈(pkF n (Xu c)).1.2.1++ll ((Xu c).filter λp=>p.1 !=n),f∈ll (Xu c):=λf q=>by
   grind[ll]
  have B:=A.perm a b;exact {B with inv:=Zkt A.inv _,pks:=Z09 e}
theorem Qa2{g:Ze->Zj->Ze}(hg:∀{fs c f},AU K v (f::fs) c->AU K v fs (g c f)/\Uq c (g c f)):∀(l:List Zj)(c:Ze),AU K v (l++fs) c->AU K v fs (l.foldl g c)/\Uq c (l.foldl g c)
 |[],c,A=>⟨A,Uq.refl c⟩
 |f::r,c,A=>by
  obtain⟨a,b⟩:=hg (fs:=r++fs) A;obtain⟨d,e⟩:=Qa2 hg r (g c f) a;exact⟨d,b.trans e⟩
theorem Qqg(A:AD K v c)(hK:K<=490000)(n:Int):AD K v (Qaj c n)/\UpC c (Qaj c n):=by
 unfold Qaj;cases hr:JY c n
 ·exact⟨A,(Uq.refl c).up⟩
 ·rw[pG];obtain⟨a,b⟩:=Qa2 (g:=Zwp) (λX=>Qto X hK) _ _ (Qpv A Aa hr);refine⟨?_,b.up⟩;show AU K v (ll (Xu _)) _;rw[b.pk];exact a
theorem Qru(A:AD K v c)(hK:K<=490000)(n:Int):AD K v (Qbk c n)/\UpC c (Qbk c n):=by
 unfold Qbk;cases hr:JY c n
 ·exact⟨A,(Uq.refl c).up⟩
 ·rw[pG];obtain⟨a,b⟩:=Qa2 (g:=Zts) (λX=>Qur X hK) _ _ (Qpv A Aa hr);refine⟨?_,b.up⟩;show AU K v (ll (Xu _)) _;rw[b.pk];exact a
theorem Qt4(A:AU K v fs c)(h:0<=n/\n<=255):AU K v fs (clV c n)/\Uq c (clV c n):=by
 unfold clV;cases (Zix c==(0:Int))&&inB n 1 255
 ·simp_all[Uq.refl]
 ·exact⟨{A with inv:=⟨A.inv.str,A.inv.pk⟩,clo:=h},⟨K3 _,λs hs=>⟨s,hs,rfl,Up.refl s⟩⟩,rfl⟩
theorem Qup:∀(l:List Zj)(K:Nat)(x:Ze),AU K v fs x->25<=K->K+gr l<=380000->AU (K+gr l) v fs (hpF x l).1/\Uq x (hpF x l).1/\0<=(hpF x l).2/\(hpF x l).2<=255
 |[],K,x,A,_,_=>⟨A,Uq.refl x,K3 _,(by decide:(0:Int)<=255)⟩
 |f::r,K,x,A,c,i=>by
  rw[Qdn]at i⊢;unfold hpF;cases h:(Zeq x f).2.1 !=(0:Int)
  ·have h:(Zeq x f).2.1=0:=by simpa using h
   obtain⟨a,b⟩:=Quj A c Aa h;obtain⟨d,e,g⟩:=Qup r _ _ a Aa Aa;rw[pH];exact⟨d.mono Aa,b.trans e,g⟩
  ·rw[pG];have t:=Qre x f;obtain⟨a,b⟩:=Qt4 A (n:=(Zeq x f).2.1) (by have:=t.2;omega);exact⟨a.mono Aa,b,by have:=t.2;simp only;omega⟩
theorem Qwx(A:AD K v c)(h25:25<=K)(s:Ba)(hs:s.length<=1000)(hK:K+2*s.length<=380000):AU (K+2*s.length) v (ll (Xu c)) (hpV c s).1/\Uq c (hpV c s).1/\0<=(hpV c s).2/\(hpV c s).2<=255:=by
 obtain⟨⟨l,b,u⟩,e,f,g,h⟩:=Qh3 s hs;simp only at f g h;have i:Qoa (Wh s)=(l,b,()):=by rw[e];rfl
 have ac:=A.clo;unfold hpV;rw[i];cases bP c&& !(Zix c !=(0:Int))
 ·grind[AU.mono,Uq.refl]
 cases b
 ·obtain⟨a,b⟩:=Qt4 A (n:=7) Aa;exact⟨a.mono Aa,b,(by decide:(0:Int)<=7),(by decide:(7:Int)<=255)⟩
 ·obtain⟨a,b,d⟩:=Qup l K c A h25 Aa;exact⟨a.mono Aa,b,d⟩
end
structure Z4y(e:Yk):Prop where
 s:rR e=K4 (K2,())
 i:QJ e=K4 (K2,())
 k:1<=e.1/\e.1<=12
 t:e.2.2.2.1.length<=1000
 u:(YG e.2.2.2.1).length<=1000
theorem Qjw(l:List Zj):(Qgh l).length<=400:=by
 have a:∀(N:Nat)(s:Ba)(i:Int),Pc (Yy N l s i) λr=>r.1.length<=400:=by
  intro N
  induction N with
  |zero=>intros;exact Pc.none
  |succ N b=>
   intro s i;unfold Yy;exact Pc.ite (λ_=>Pc.guard (Pc.skip λt=>Pc.ite (λ_=>Pc.pure Ai) λ_=>Pc.guard (b _ _))) λ_=>Pc.ite (λ_=>Pc.pure Ai) λh=>Pc.pure Ag
 unfold Qgh;cases e:cD l with
 |none=>simp
 |some y=>exact a _ _ _ y e
theorem Ql5(c:Ze)(b:Int):(emT c b).length<=400:=by
 grind[emT,Qjw]
def okT(b:Bool):Ba:=cond b [111,107] [110,111]
theorem Zyq(y:Ze)(b:Bool):J4 X9 y b=K4 ((okT b,y,()),()):=by
 cases b<;>rfl
theorem Z19(b:Bool):ZB b [111,107] [110,111]=K4 (okT b,()):=by
 cases b<;>rfl
section
variable {K:Nat}{v:Bool}{c:Ze}
theorem AU.ad(A:AU K v (ll (Xu c)) d)(h:Uq c d)(k:K<=K':=by omega):AD K' v d/\UpC c d:=by
 refine⟨?_,h.up⟩;show AU K' v (ll (Xu d)) d;rw[h.pk];exact A.mono k
theorem Qqm(A:AD K v c)(h25:25<=K)(hK:K<=70000){e:Yk}(he:Z4y e):∃o y,zf c e=K4 ((o,y,()),())/\yP c e=K4 ((o,y,()),())/\(Zix c≠0->o=[99,108,111,115,101,100]/\y=c)/\AD (K+2100) v y/\UpC c y:=by
 have i:Q5 K c:=A.inv;have E:=he.t;unfold zf gH yP gH;rw[Ji i,Wt i,xv i,Zb2 i,AU.cb A,he.s,he.i];rw[show gz c=K4 (Zix c !=(0:Int),())from rfl,show ku c=K4 (Zix c !=(0:Int),())from rfl];simp only[pA,pI,Ls,pH];cases hz:Zix c !=(0:Int)
 ·have j:¬Zix c≠0:=by simpa using hz
  simp only[pH];have hk:=he.k;have m:e.1=1\/e.1=2\/e.1=3\/e.1=4\/e.1=5\/e.1=6\/e.1=7\/e.1=8\/e.1=9\/e.1=10\/e.1=11\/e.1=12:=Aa
  have p:=A.num;rcases m with k|k|k|k|k|k|k|k|k|k|k|k<;>rw[k]<;>simp only[Lq,pG,pH]
  ·obtain⟨⟨n,y,l,u⟩,g,⟨a,b⟩,r⟩:=Qr4 A (e.2.2.2.1==([117,110,105]:Ba)) h25 Aa;simp only at a b r;rw[Z9f i _ Aa,g];simp only[pA];rw[Z5w n,Zxx n];refine⟨cond (!l) [98,108,111,99,107,101,100] (L5 n),y,?_,?_,λh=>absurd h j,AU.ad a b⟩
   ·cases l<;>rfl
   ·cases l<;>rfl
  ·obtain⟨⟨n,y,u⟩,g,⟨a,b⟩,r⟩:=Qoe A e.2.1 e.2.2.2.1 Aa;simp only at a b r;rw[Z7n i _ _ Aa,g];simp only[pA];rw[Z5w n,Zxx n];exact⟨_,y,rfl,rfl,λh=>absurd h j,AU.ad a b⟩
  ·obtain⟨⟨y,l,u⟩,g,a,b⟩:=Qig A e.2.1 Aa;unfold ki;rw[k];simp only[Lq,pG,pH];rw[Z2p i _ Aa,g];simp only[pA,Zyq,Z19];exact⟨_,y,rfl,rfl,λh=>absurd h j,AU.ad a b⟩
  ·obtain⟨⟨⟨d,f,y,u⟩,q⟩,g,⟨a,b⟩,r⟩:=Qsl A e.2.1 e.2.2.1 Aa;simp only at a b r;have w:=Zz1 d;rw[Z9r i _ _ Aa,g];simp only[pA];rw[Qrj d,Qun d];simp only[pA];refine⟨Z2q d++(cond f [32,101,110,100] [32,109,111,114,101]),y,?_,?_,λh=>absurd h j,AU.ad a b⟩
   ·cases f<;>simp only[pG,pH]<;>rw[Zb Al]
   ·rw[Zb Al];cases f<;>simp only[ZB,pG,pH,pA]<;>rw[Zb Al]<;>simp
  ·obtain⟨⟨⟨y,l,u⟩,q⟩,g,a,b⟩:=Qnh A e.2.1 e.2.2.1 Aa;unfold ki;rw[k];simp only[Lq,pG,pH];rw[Z6z i _ _ Aa,g];simp only[pA,Zyq,Z19];exact⟨_,y,rfl,rfl,λh=>absurd h j,AU.ad a b⟩
  ·obtain⟨⟨y,l,u⟩,g,a,b⟩:=Qsu A e.2.1 e.2.2.1 Aa;unfold ki;rw[k];simp only[Lq,pG,pH];rw[Z95 i _ _ Aa,g];simp only[pA,Zyq,Z19];exact⟨_,y,rfl,rfl,λh=>absurd h j,AU.ad a b⟩
  ·obtain⟨⟨y,l,u⟩,g,a,b⟩:=Qsd A e.2.1 e.2.2.2.1 Aa Aa;unfold ki;rw[k];simp only[Lq,pG,pH];rw[Qko i _ _ Aa Aa,g];simp only[pA,Zyq,Z19];exact⟨_,y,rfl,rfl,λh=>absurd h j,AU.ad a b⟩
  ·have w:=Zz1 (emT c e.2.2.1);have F:=Ql5 c e.2.2.1;obtain⟨a,b⟩:=Qqx A Aa e.2.2.1;have G: -1<=emN c e.2.2.1/\emN c e.2.2.1<=1000000:=by
    unfold emN
    grind
   have x:=Z8w (emN c e.2.2.1);rw[Qua i Aa,Qoy i Aa];simp only[pA];rw[Z5w _,Zxx _,Qrj _,Qun _];simp only[pA];refine⟨cond (emN c e.2.2.1==(-1:Int)) [110,111,116,104,105,110,103] ((L5 (emN c e.2.2.1)++[32])++Z2q (emT c e.2.2.1)),emC c e.2.2.1,?_,?_,λh=>absurd h j,AU.mono a,b⟩
   ·cases emN c e.2.2.1==(-1:Int)
    ·rw[pH,pH,Zb Al,Zb Al]
    ·rfl
   grind[Zb,Jv,ZB]
  ·obtain⟨a,b⟩:=Qqg A Aa e.2.2.1;unfold ki;rw[k];simp only[Lq,pG,pH];rw[Qtq i Aa,Qtp i Aa];simp only[pA,Zyq,Z19];exact⟨_,_,rfl,rfl,λh=>absurd h j,AU.mono a,b⟩
  ·obtain⟨a,b⟩:=Qru A Aa e.2.2.1;unfold ki;rw[k];simp only[Lq,pG,pH];rw[Qut i Aa,Qus i Aa];simp only[pA,Zyq,Z19];exact⟨_,_,rfl,rfl,λh=>absurd h j,AU.mono a,b⟩
  ·have H:=he.u;obtain⟨z,B⟩:=Qh2 e.2.2.2.1 Aa;obtain⟨C,D⟩:=hpE i h25 (YG e.2.2.2.1) Aa Aa;obtain⟨a,b,r⟩:=Qwx A h25 (YG e.2.2.2.1) Aa Aa;have x:=Z8w (hpV c (YG e.2.2.2.1)).2;rw[z,B];simp only[pA];rw[C,D];simp only[pA];rw[Z5w _,Zxx _];simp only[pA];rw[Zb Al];exact⟨_,_,rfl,rfl,λh=>absurd h j,AU.ad a b⟩
  ·obtain⟨⟨y,l,u⟩,g,a,b⟩:=Qsz A e.2.2.1 Aa;unfold ki;rw[k];simp only[Lq,pH];rw[Qgg i _ Aa,g];simp only[pA,Zyq,Z19];exact⟨_,y,rfl,rfl,λh=>absurd h j,AU.ad a b⟩
 ·exact⟨_,_,rfl,rfl,λ_=>⟨rfl,rfl⟩,AU.mono A,(Uq.refl c).up⟩
end
def fm(e:Yk):Yk:=(e.1,(ite (e.1=1\/e.1=11\/8<=e.1) 0 e.2.1),(ite (e.1<=3\/e.1=7\/e.1=11) 0 e.2.2.1),(ite (e.1<=2\/e.1=7\/e.1=11) e.2.2.2.1 []),())
theorem fmE{e:Yk}(h:1<=e.1/\e.1<=12):YF e=K4 (fm e,())/\fm (fm e)=fm e:=by
 obtain⟨k,a,n,t,u⟩:=e;have:k=1\/k=2\/k=3\/k=4\/k=5\/k=6\/k=7\/k=8\/k=9\/k=10\/k=11\/k=12:=Aa
 rcases this with rfl|rfl|rfl|rfl|rfl|rfl|rfl|rfl|rfl|rfl|rfl|rfl<;>exact⟨rfl,rfl⟩
theorem Qwf{k:Int}(h:1<=k/\k<=12):∃w,lQ k=K4 (w,())/\(w==([]:Ba))=false:=by
 unfold lQ;rw[inQ,Ws.2 h,pA];simp only[pI,pH];rw[Zr,Zb (by grind[Me])];refine⟨_,rfl,?_⟩;have:k=1\/k=2\/k=3\/k=4\/k=5\/k=6\/k=7\/k=8\/k=9\/k=10\/k=11\/k=12:=Aa
 rcases this with rfl|rfl|rfl|rfl|rfl|rfl|rfl|rfl|rfl|rfl|rfl|rfl<;>rfl
structure Ev0(e:Yk):Prop where
 k:1<=e.1/\e.1<=12
 id:0<=e.2.1/\e.2.1<=999999
 n:0<=e.2.2.1/\e.2.2.1<=999999
 t:e.2.2.2.1.length<=1000
 t1:e.1=1->(e.2.2.2.1==([98,105,100,105]:Ba)||e.2.2.2.1==([117,110,105]:Ba))=K2
 t2:e.1=2->e.2.2.2.1.all (inC 97 122)&&Zjp e.2.2.2.1
 t7:e.1=7->e.2.2.2.1.all (inC 32 126)&&Zjp e.2.2.2.1
 t11:e.1=11->(xR e.2.2.2.1).isSome=K2/\1<=(YG e.2.2.2.1).length/\(YG e.2.2.2.1).length<=400
theorem Qwt{e:Yk}(h:Ev0 e):Z4y (fm e):=by
 obtain⟨-,q⟩:=fmE h.k;have k:1<=(fm e).1/\(fm e).1<=12:=h.k;obtain⟨m,-⟩:=fmE k;rw[q]at m;have o:(fm e).2.2.2.1.length<=1000:=by
  show(if _ then _ else _:Ba).length<=1000;split
  ·exact h.t
  ·simp
 have g:inB (fm e).2.1 0 999999=true:=Ws.2 (by
  show 0<=(if _ then _ else _:Int)/\(if _ then _ else _:Int)<=999999;have:=h.id;split<;>omega)
 have r:inB (fm e).2.2.1 0 999999=true:=Ws.2 (by
  show 0<=(if _ then _ else _:Int)/\(if _ then _ else _:Int)<=999999;have:=h.n;split<;>omega)
 have hs:rR (fm e)=K4 (K2,()):=by
  obtain⟨w,s,u⟩:=Qwf k;unfold rR gH;rw[s];simp only[pA,u,pH];rw[m];simp only[pA];rw[bq (T:=Jp) rfl];simp only[pI,Ls,pH,inQ,pA,g,r];show(cond (e.1==1) _ _)=_;by_cases i:e.1=1
  ·have c:(fm e).2.2.2.1=e.2.2.2.1:=if_pos Aa;rw[show(e.1==(1:Int))=K2 by simpa using i,pG,c,h.t1 i]
  rw[show(e.1==(1:Int))=La by simpa using i,pH];show(cond (e.1==2) _ _)=_;by_cases j:e.1=2
  ·have c:(fm e).2.2.2.1=e.2.2.2.1:=if_pos Aa;rw[show(e.1==(2:Int))=K2 by simpa using j,pG,c,Zqw _ Ag,h.t2 j];rfl
  rw[show(e.1==(2:Int))=La by simpa using j,pH];show(cond (e.1==7) _ _)=_;by_cases l:e.1=7
  ·have c:(fm e).2.2.2.1=e.2.2.2.1:=if_pos Aa;rw[show(e.1==(7:Int))=K2 by simpa using l,pG,c,Z1d _ Ag,h.t7 l];rfl
  rw[show(e.1==(7:Int))=La by simpa using l,pH];show(cond (e.1==11) _ _)=_;by_cases f:e.1=11
  ·have c:(fm e).2.2.2.1=e.2.2.2.1:=if_pos Aa;obtain⟨a,b,d⟩:=h.t11 f;rw[show(e.1==(11:Int))=K2 by simpa using f,pG,c,(Qh2 _ Ag).1,a];simp only[pA,pG]
   grind[Ws]
  grind
 obtain⟨b,p,v,-⟩:=Qmy (fm e) Aa;rw[hs]at p;cases p;exact⟨hs,v,k,o,Mk (Qcm _) o⟩
theorem Qns(c:Ku)(h:dy c):T (rl c 7) λr=>dy r.2.1/\r.1.1.length<=7/\r.1.1.all (inC 97 122)=true:=by
 refine((Qp1 c 7 h).pc (R:=λr=>r.1.1.all (inC 97 122)=K2) ?_).mono λy a=>⟨a.1.1,a.1.2,a.2⟩
 have f:∀(N:Nat)(c:Ku)(s:Ba)(n:Int),s.all (inC 97 122)=K2->Pc (iI N c s n) λr=>r.1.1.all (inC 97 122)=true:=by
  intro N
  induction N with
  |zero=>intros;exact Pc.none
  |succ N d=>
   intro c s n hs;unfold iI;refine Pc.ite (λ_=>Pc.bind (Q:=λt=>t.1.1.all (inC 97 122)=K2) ?_ λt g=>Pc.guard (d _ _ _ Ac)) λ_=>Pc.pure hs;unfold ri gG;refine Pc.skip λt=>λy e=>?_;by_cases b:0<=t.1.1/\t.1.1<([([97]:Ba),([98]:Ba),([99]:Ba),([100]:Ba)])
   ·rw[Zb b]at e;cases e;have:t.1.1=0\/t.1.1=1\/t.1.1=2\/t.1.1=3:=by simp at b;omega
    rcases this with q|q|q|q<;>rw[q]<;>rfl
   simp_all[Zh]
 simp_all[rl,Pc.skip]
theorem Qtk{f:Zj}(hk:f.1=4\/f.1=5\/f.1=8\/f.1=16\/f.1=17\/f.1=18\/f.1=20\/f.1=21\/f.1=22)(hl:f.2.2.2.1.length<=10)(h1:0<=f.2.1/\f.2.1<=100)(h2:0<=f.2.2.1/\f.2.2.1<=100)(h3:0<=f.2.2.2.2.2.1/\f.2.2.2.2.2.1<=100)(h4:0<=f.2.2.2.2.2.2.1/\f.2.2.2.2.2.2.1<=100)(h5:0<=f.2.2.2.2.2.2.2.1/\f.2.2.2.2.2.2.2.1<=100):Pc (nO f) λr=>Xa r.1=K2/\r.1.2.2.2.1.length<=10:=λy e=>by
 obtain⟨k,q,c,d,fin,b,g,s,u,z⟩:=f;simp only at hk hl h1 h2 h3 h4 h5;have a:∀{n:Int},0<=n/\n<=100->fq n=true:=λh=>Zja h.1;have i:=a h1;have j:=a h2;have l:=a h3;have m:=a h4;have o:=a h5
 have p:fq 0=true:=rfl;rcases hk with rfl|rfl|rfl|rfl|rfl|rfl|rfl|rfl|rfl<;>cases e<;>constructor<;>simp[Xa,Yu,p,i,j,l,m,o]<;>omega
theorem Qf1(c:Ku)(hc:dy c):T (Zaj c) λr=>dy r.2.1/\Xa r.1.1=K2/\r.1.1.2.2.2.1.length<=10:=by
 unfold Zaj;refine(Qk1 c _ hc Ae).bind λm g=>(Zby _ _ g.1).bind λn a=>(Zby _ _ a.1).bind λo b=>(Qp1 _ 6 b.1).bind λp h=>(Qk0 _ _ h.1).bind λq i=>(Zby _ _ i).bind λs d=>(Zby _ _ d.1).bind λu e=>(Zby _ _ e.1).bind λv f=>(Qk0 _ _ f.1).bind λw j=>?_;have x:=a.2.2 Aa;have y:=b.2.2 Aa;have z:=d.2.2 Aa;have A:=e.2.2 Aa;have B:=f.2.2 Aa
 have C:=a.2.1;have D:=b.2.1;have E:=d.2.1;have F:=e.2.1;have G:=f.2.1
 have k:=g.2;simp only[Li,L2,or_false]at k;refine((Qrq _ As).pc (Qtk Ab Ab Ab Ab Ab Ab Ab)).bind λt l=>T.pure ⟨j,l.2⟩
theorem Qq9(c:Ku)(hc:dy c):T (JE c) λr=>dy r.2.1/\Z4y r.1.1:=by
 have f:∀(c:Ku)(t e:Yk),dy c->Ev0 e->T (Wz c t e) λr=>dy r.2.1/\Z4y r.1.1:=λc t e hc h=>by
  unfold Wz;rw[(fmE h.k).1,pA];simp_all[T.pure,Qwt]
 unfold JE;refine(Qk1 c _ hc Ae).bind λd z=>(Zby _ _ z.1).bind λD s=>(Zby _ _ s.1).bind λE i=>?_;have I:=s.2.2 Aa;have J:=i.2.2 Aa
 have K:=s.2.1;have L:=i.2.1
 have m:=z.2;simp only[Li,L2,or_false]at m;have hk:1<=d.1.1/\d.1.1<=12:=Aa
 have M:∀(c:Ku)(t:Yk)(b:Bool),dy c->d.1.1≠1->d.1.1≠2->d.1.1≠7->d.1.1≠11->T (ql c t (d.1.1,D.1.1,E.1.1,([]:Ba),()) b) λr=>dy r.2.1/\Z4y r.1.1:=λc t b hc A B C o=>by
  unfold ql tO;exact T.if ((Zby _ _ hc).bind λN F=>f _ _ _ F.1 ⟨hk,Ab,Ag,Ae,λh=>absurd h A,λh=>absurd h B,λh=>absurd h C,λh=>absurd h o⟩) (f _ _ _ hc ⟨hk,Ab,Ab,Ae,λh=>absurd h A,λh=>absurd h B,λh=>absurd h C,λh=>absurd h o⟩)
 refine T.ite (λu=>(Qk2 _ _ i.1 Ae).bind λj a=>?_) λu=>T.ite (λv=>(Qns _ i.1).bind λj a=>T.guard Al ?_) λv=>T.ite (λw=>(Qk2 _ _ i.1 Ae).bind λj a=>?_) λw=>T.ite (λx=>(Zby _ _ i.1).bind λj a=>?_) λx=>T.ite (λl=>(Qf1 _ i.1).bind λj a=>?_) λl=>?_
 ·have u:d.1.1=1:=by simpa using u
  have m:=a.2;simp only[Li,L2,or_false]at m;refine f _ _ _ a.1 ⟨hk,Ab,Ab,?_,λ_=>?_,λh=>?_,λh=>?_,λh=>?_⟩
  all_goals grind
 ·have v:d.1.1=2:=by simpa using v
  have G:((([97]:Ba)++j.1.1):Nat)<=8:=Af
  refine f _ _ _ a.1 ⟨hk,Ab,Ab,Ab,λh=>?_,λ_=>?_,λh=>?_,λh=>?_⟩
  ·omega
  ·simp only[List.all_append,a.2.2,Lt,Zjp];rw[Zl Af,Zl];rfl
  all_goals omega
 ·have w:d.1.1=7:=by simpa using w
  have m:=a.2;simp only[Li,L2,or_false]at m;refine f _ _ _ a.1 ⟨hk,Ab,Ab,?_,λh=>?_,λh=>?_,λ_=>?_,λh=>?_⟩
  ·grind
  ·omega
  ·omega
  ·rcases m with q|q|q|q<;>simp only[q]<;>decide
  omega
 ·have x:d.1.1=8:=by simpa using x
  have O:=a.2.2 Aa;have P:=a.2.1
  rw[Zr];exact f _ _ _ a.1 ⟨hk,Ab,Ab,Ae,λh=>Aa,λh=>Aa,λh=>Aa,λh=>Aa⟩
 ·have l:d.1.1=11:=by simpa using l
  have H:FOK j.1.1:=by unfold FOK;omega
  obtain⟨y,e,Q⟩:=Qrg H;have p:=Z52 a.2.1;have q:fsz j.1.1<=100:=by
   unfold fsz;rw[if_pos a.2.1];have g:=λn=>(wi n).2
   grind
  have G:=Zz1 y.1;have S:YG (Z2q y.1)=y.1:=by simp_all[YG,Zpq]
  rw[e,pA,Qrj y.1,pA];refine f _ _ _ a.1 ⟨hk,Ab,Ab,Ab,λh=>?_,λh=>?_,λh=>?_,λ_=>⟨?_,?_,?_⟩⟩
  all_goals grind[Zpq]
 grind
structure CfD(c:ks):Prop where
 b:cfB c=K2
 t:(1<=c.2.2.2.1/\c.2.2.2.1<=c.2.2.2.2.1)/\c.2.2.2.2.1<=4096
 bi:0<=c.2.2.2.2.2.1/\c.2.2.2.2.2.1<=1000
 un:0<=c.2.2.2.2.2.2.1/\c.2.2.2.2.2.2.1<=1000
theorem Qqq{c:ks}(h:aO c=K4 (K2,())):cfB c=true:=by
 grind[cfE]
theorem Qov(c:Ku)(hc:dy c):T (YB c) λr=>dy r.2.1/\CfD r.1.1:=by
 unfold YB KH;rw[pA];have b:CfD (8,4,32,6,64,1,2,4,()):=⟨Qqq rfl,Ai,Ai,Ai⟩
 have d:CfD (16,8,32,16,64,3,1,2,()):=⟨Qqq rfl,Ai,Ai,Ai⟩
 have e:CfD (16,8,32,16,64,2,2,4,()):=⟨Qqq rfl,Ai,Ai,Ai⟩
 exact(Zby _ _ hc).bind λt a=>T.if (T.pure ⟨a.1,b⟩) (T.if (T.pure ⟨a.1,d⟩) (T.pure ⟨a.1,e⟩))
theorem Quz(v:Bool){p:ks}(ho:CfD o)(hp:CfD p):T (Zaf v o p) λr=>AD 25 v r.1:=by
 have q:=hp.t;have u:=ho.t;have g:=hp.bi;have i:=hp.un;have a:=ho.bi;have c:=ho.un
 have j:aS p.2.2.2.1=K4 ((p.2.2.2.1,(0:Int),(-1:Int),(-1:Int),()),K2,()):=by
  grind[aS,Kh,X4]
 have l:aT o.2.2.2.1 o.2.2.2.2.1=K4 ((o.2.2.2.1,o.2.2.2.2.1,o.2.2.2.1,qq),K2,()):=by
  grind[aT,inQ,Ws]
 have d:∀n:Int,0<=n/\n<=1000->yF n=K4 ((n,(0:Int),(-1:Int),()),K2,()):=λn h=>by
  grind[yF,inQ,Ws]
 have e:∀n:Int,0<=n/\n<=1000->yE n=K4 ((n,n,(0:Int),(0:Int),()),K2,()):=λn h=>by
  grind[yE,inQ,Ws]
 unfold Zaf gH;rw[cfE,ho.b,cfE,hp.b,j,l,d _ g,d _ i,e _ a,e _ c];refine⟨_,rfl,?_⟩;exact {inv:=(Q5.zero rfl rfl).mono Aa,sv:=rfl,own:=ho.b,peer:=hp.b,srt:=Mm,len:=Ml _,all:=λs hs=>(by cases hs),sm:=λk=>(by rcases k with _|_|_|_|_|_|_|k<;>rfl),fsk:=λf m=>(by cases m),tot:=⟨Ag,K3 _,Ag,Ac,Ag,Ac,Ag⟩,inf:=⟨Ag,Ac,Ag,⟨K3 _,by grind[qq]⟩,⟨K3 _,K3 _⟩,AA,AA⟩,ob:=Zf2.2 Ag,ou:=Zf2.2 Ag,ab:=⟨a,Ag,Ac,Ac,Ac⟩,au:=⟨c,Ag,Ac,Ac,Ac⟩,lst:=Ac,num:=Ac,pks:=rfl,now:=Ac,clo:=by simp_all}
theorem Quo(code:List Int)(h:code.length<=1048576):T (xI code) λr=>(∃v,AD 25 v r.1)/\r.2.1.length<=20/\ ∀e∈r.2.1,Z4y e:=by
 obtain⟨c,e,a⟩:=Qlv code h;have j:∀(x t:Ze),(∃v,AD 25 v x)-> ∀(N m:Nat)(c:Ku)(l:List Yk),m<N->dy c->l.length+m<=20->(∀e∈l,Z4y e)->T (j6 N t x l (m:Int) c) λr=>(∃v,AD 25 v r.1)/\r.2.1.length<=20/\ ∀e∈r.2.1,Z4y e:=by
  intro x t hx N
  induction N with
  |zero=>omega
  |succ N s=>
   intro m c l d a u k;unfold j6;refine T.ite (λf=>?_) λ_=>T.pure ⟨hx,Ab,k⟩;have f:=pE f;refine(Qq9 c a).bind λt w=>T.guard Aj ?_;rw[show Lc.wrap ((m:Int)-1)=((m-1:Nat):Int) by grind[Zr]]
   grind
 unfold xI;rw[e,pA];refine(Qk0 _ _ a).bind λn o=>(Qov _ o).bind λy g=>(Qov _ g.1).bind λz i=>(Quz n.1.1 g.2 i.2).bind λA p=>(Zby _ _ i.1).bind λq b=>?_;have B:=b.2.1;have C:=b.2.2 Aa
 rw[Zr];obtain⟨m,d⟩:=L7 (show 0<=2+q.1.1 by omega);rw[d];exact j _ _ ⟨_,p⟩ _ m _ [] (by simp[oe]) b.1 Af Ae
end
end Go.Proofs.YtahnlnkboamdmaaGreatDoor

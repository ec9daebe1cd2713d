/- No condition. -/
import Derived.Test.YtglbkfajafconaaGreatDoorP1
set_option linter.all false
namespace Go.Proofs.YtglbkfajafconaaGreatDoor
noncomputable section
open Go.Am
set_option maxRecDepth 100000
open Option renaming some→W,bind→K4,isSome_some→M4
open Bool renaming true→X,false→K3,or_self→Lc,and_self→Ld,or_false→Lf,false_or→Ll,false_and→Lm,not_false→Lq,and_true→L1,eq_iff_iff→L2,not_eq_true'→Md,not_not→Me,and_eq_false_iff→Mr
open Go renaming IntKind→Y
open Decidable renaming decide→Z
open IntKind renaming i64→K2,u8→Ly
open Int renaming reduceBEq→La,eq_ofNat_of_zero_le→Lp,natCast_zero→Lx,tmod→Mf,fdiv_eq_ediv_of_nonneg→Ms,le_refl→Mt
open List renaming length_cons→Lb,length_nil→Li,drop_eq_nil_of_le→Ln,mem_append→Lo,drop_of_length_le→Ls,length_append→Lt,mem_cons_of_mem→Lu,set_set→Lv,length_filter_le→Lz,mem_cons→L0,eq_nil_of_length_eq_zero→L4,filter_cons_of_pos→L5,foldl_cons→L6,getD_eq_getElem?_getD→L7,length_pos_iff→L8,mem_cons_self→L9,nil_append→Ma,replicate→Mb,drop_zero→Mg,filter_eq_nil_iff→Mh,find?_cons→Mi,getD_cons_zero→Mj,mem_filter→Mk,mem_or_eq_of_mem_set→Ml,set_cons_zero→Mm,append_assoc→Mu,append_nil→Mv,filter_cons→Mw,filter_eq_self→Mx,getElem?_set_self→My,map_cons→Mz
open Exists renaming intro→Le
open Nat renaming le_trans→Lg,le_refl→Mc,zero_le→Mo,and_two_pow_sub_one_eq_mod→M0,div_div_eq_div_mul→M1,mod_eq_of_lt→M2,mul_comm→M3
open Go.Lib renaming itoa→Lh,trimRightB→Lk,trimLeftB→Lw,trimB→L3
open BitVec renaming ofInt→Lj,toNat_and→Mp,toNat_ofInt→Mq
open Eq renaming trans→Lr
open Nat.succ renaming inj→Mn
open UInt8 renaming toNat_inj→M5
open List.Pairwise renaming cons→M6,nil→M7
variable{n o most limit id last:Int}{sk:List Int}{a b:Ba}{l:List Zp}{K i k:Nat}{r:Q9}{α β γ:Type}{c x:Zf}{f:Zj}{s:Zn}{y:α}{Q:α->Prop}
def WO(c:Zf)(s1:Zh)(k:Int):Zh:=cond (k==(4:Int)) (s1.1,s1.2.1,(s1:LE),(s1:Fd),(s1:Fn),(s1:Zaz),(s1:Zak),(s1:Zao),K3,(s1:ZaE).2) (cond (k==(5:Int)) (s1.1,s1.2.1,(s1:LE),(s1:Fd),(s1:Fn),(s1:Zaz),(s1:Zak),(s1:Zao),(s1:ZaE).1,K3,(s1:ZaX)) (cond (k==(17:Int)) (s1.1,s1.2.1,(s1:LE),(s1:Fd),(cond (OQ s1) (AL (s1:Fn) (Rp c) (G8 c)) (s1:Fn)),(s1:Zaz),(s1:Zak),(s1:Zao),(s1:ZaE).1,(s1:ZaS),K3,(s1:ZaX).2) (cond (k==(21:Int)) (s1.1,s1.2.1,US (s1:LE),s1.2.2.2) s1)))
theorem Qwh(c:Zf)(s:Zh)(k:Int):U5 c s k=W ((WO c s k,()),()):=by
 unfold U5 tB tC tE tP WO;rw[lwE,Rt];cases k==(4:Int)
 ·cases k==(5:Int)
  ·cases k==(17:Int)
   ·grind
   ·simp only[pH,pG,pA];cases hw:OQ s
    ·rfl
    ·cases hm:FF (s:Fn)
     ·simp_all[AL,Ik]
     ·cases ho:Dj (s:Fn) (Rp c) (G8 c)
      all_goals simp_all[AL]
  ·rfl
 ·rfl
theorem Qf8(c:Zf)(s:Zh)(k:Int):(WO c s k).1=s.1:=by unfold WO;cases k==(4:Int)<;>cases k==(5:Int)<;>cases k==(17:Int)<;>cases k==(21:Int)<;>rfl
theorem Qar(c:Zf)(s:Zh)(k:Int):(WO c s k).2.1=s.2.1:=by unfold WO;cases k==(4:Int)<;>cases k==(5:Int)<;>cases k==(17:Int)<;>cases k==(21:Int)<;>rfl
theorem Qaq(c:Zf)(s:Zh)(k:Int):(WO c s k:Fd)=(s:Fd):=by unfold WO;cases k==(4:Int)<;>cases k==(5:Int)<;>cases k==(17:Int)<;>cases k==(21:Int)<;>rfl
theorem Qlb{s:Zh}(h:Xx K s)(c:Zf)(k:Int):Xx K (WO c s k):=⟨by rw[Qar];exact h.snd,by rw[Qaq];exact h.rcv⟩
theorem Qpb(c:Zf)(s:Zh)(k:Int):OQ (WO c s k)=OQ s:=by unfold WO;cases k==(4:Int)<;>cases k==(5:Int)<;>cases k==(17:Int)<;>cases k==(21:Int)<;>rfl
abbrev Qx7(c:Zf)(l:List Zh):Zf:=(c.1,c.2.1,c.2.2.1,l,c.2.2.2.2)
def vA(c:Zf)(f:Zj):Zf:=cond (f.1==(16:Int)) (c.1,c.2.1,c.2.2.1,(c:Id),(c:Zah),AL (c:Zai) (Rp c) (G8 c),(c:Zar),(c:Zaq),(c:Zay),(c:Zav),K3,(c:ZaB)) (cond (f.1==(18:Int)) (cond (f:ZaA) (c.1,c.2.1,c.2.2.1,(c:Id),(c:Zah),(c:Zai),(c:Zar),(c:Zaq),(c:Zay),Gr (c:Zav),(c:ZaZ).2.1,(c:ZaB).1,K3,(c:ZaN)) (c.1,c.2.1,c.2.2.1,(c:Id),(c:Zah),(c:Zai),(c:Zar),(c:Zaq),Gr (c:Zay),(c:Zav),(c:ZaZ).2.1,K3,(c:ZaB).2)) (cond (f.1==(20:Int)) (c.1,c.2.1,c.2.2.1,(c:Id),US (c:Zah),(c:Zbv)) (cond (f.1==(22:Int)) (cond (f:ZaA) (c.1,c.2.1,c.2.2.1,(c:Id),(c:Zah),(c:Zai),(c:Zar),((c:Zaq).1,(c:Zaq).2.1,(-1:Int),(c:Zaq).2.2.2),(c:ZbA).2) (c.1,c.2.1,c.2.2.1,(c:Id),(c:Zah),(c:Zai),((c:Zar).1,(c:Zar).2.1,(-1:Int),(c:Zar).2.2.2),(c:ZbA))) (ite (0<=Qe (c:Id) f.2.1) (Qx7 c ((c:Id).set (Qe (c:Id) f.2.1).toNat (WO c ((c:Id).getD (Qe (c:Id) f.2.1).toNat Zc) f.1))) c))))
theorem mkE(h:Qb K c)(hK:K<=1000000)(f:Zj):xp c f=W (cond (bJ c) (vA c f) c,()):=by
 have g:=h.str.len;obtain⟨i,-,j⟩:=rN (l:=(c:Id)) Aa f.2.1;unfold xp tD tG tH tM tP tS tV tX vA;rw[Y8 h hK,GI h hK,pA,pA];cases bJ c
 ·rfl
 ·simp only[pI,pH,pG,ttE,Ok,Rt,pA,dV h hK];cases f.1==(16:Int)
  ·cases f.1==(18:Int)
   ·cases f.1==(20:Int)
    ·cases f.1==(22:Int)
     ·simp only[pH];by_cases a:0<=Qe (c:Id) f.2.1
      ·have b:=h.str.all _ (Z7 (d:=Zc) (show(Qe (c:Id) f.2.1).toNat<(c:Id).length by omega));have e:(WO c ((c:Id).getD (Qe (c:Id) f.2.1).toNat Zc) f.1).1=f.2.1:=by simp_all[Qf8]
       rw[if_pos a,if_pos a];simp only[pG,Qwh,pA];rw[AD h.str (Qlb b c f.1) hK (by rw[e];exact a),e];rfl
      simp_all[if_neg]
     ·cases (f:ZaA)<;>rfl
    ·rfl
   ·cases (f:ZaA)<;>rfl
  ·rfl
theorem zv(f:Zj):Vj f=W ((((f.1==(4:Int))||(f.1==(5:Int)))||(f.1==(8:Int)))||((f.1==(17:Int))||(f.1==(21:Int))),()):=by grind[Vj,Wi]
theorem Z8v(h:Qb K c)(hK:K<=1000000)(f:Zj)(h17:f.1=17-> ∀s∈(c:Id),s.1=f.2.1->OQ s=X):w5 c f=W (cond (bJ c) (vA c f) c,()):=by
 have v:=h.str.len;obtain⟨w,-,r⟩:=rN (l:=(c:Id)) Aa f.2.1;unfold w5;simp only[Xm,Yb];rw[V6 h hK,pA,uT Aa,YA Aa,pA];unfold oz gG gH gJ tB tC tD tE tG tH tM tP tS tV tX Kp;simp only[KX h hK,GI h hK,pA,zv,bO,Xm,Yb,Z9c,Zyr,Qti,Sa,raE,Rt];cases bJ c
 ·rfl
 ·simp only[pI,Ll,pG];by_cases m:0<=Qe (c:Id) f.2.1
  ·have t:=Z7 (d:=Zc) (show(Qe (c:Id) f.2.1).toNat<(c:Id).length by omega);rw[Zk (p:=Qe (c:Id) f.2.1<0),Bool.and_false,pH,Zb];unfold vA;rw[if_pos m];generalize y:(Qe (c:Id) f.2.1).toNat=j at*
   have n:j<(c:Id).length:=Aa
   have u:∀x:Zh,((c:Id).set j x).getD j Zc=x:=λx=>by
    rw[L7,My n];rfl
   by_cases a:f.1=16
   ·rw[a];rfl
   by_cases b:f.1=18
   ·rw[b];cases (f:ZaA)<;>rfl
   by_cases e:f.1=20
   ·rw[e];rfl
   by_cases g:f.1=22
   ·rw[g];cases (f:ZaA)<;>rfl
   simp only[beq_false_of_ne a,beq_false_of_ne b,beq_false_of_ne e,beq_false_of_ne g,pH];by_cases o:f.1=4
   ·rw[o];rfl
   by_cases q:f.1=5
   ·rw[q];rfl
   by_cases i:f.1=17
   ·have z:=h17 i _ t (r m);rw[i];simp only[u,Lv];unfold WO
    grind
   by_cases k:f.1=21
   ·rw[k];rfl
   simp only[beq_false_of_ne o,beq_false_of_ne q,beq_false_of_ne i,beq_false_of_ne k,pH,WO,Qcg];cases (f.1==8)<;>rfl
  ·rw[Zl (p:=Qe (c:Id) f.2.1<0),L1];unfold vA;rw[if_neg m];by_cases a:f.1=16
   ·rw[a];rfl
   by_cases b:f.1=18
   ·rw[b];cases (f:ZaA)<;>rfl
   by_cases e:f.1=20
   ·rw[e];rfl
   by_cases g:f.1=22
   ·rw[g];cases (f:ZaA)<;>rfl
   simp only[beq_false_of_ne a,beq_false_of_ne b,beq_false_of_ne e,beq_false_of_ne g,pH]
   grind
theorem Qoy(x:Int):0<=bits .and .i64 x 255/\bits .and .i64 x 255<=255:=by
 have h:bits .and .i64 x 255=K2.wrap (((Lj 64 x&&&Lj 64 255).toNat:Nat):Int):=rfl
 grind[Nat.and_le_right,Zr]
theorem Qrr(n:Int):eh n=W (Xf [Ly.wrap (bits .and .i64 n (255:Int))],()):=by
 unfold eh qc;have h:=Qoy n;generalize bits .and .i64 n (255:Int)=m at*
 rw[show Z8 1 1 7=W (X,())from rfl];simp only[pA,pI,Ll];rw[Zm (Zk)];show K4 (Yy 2 m 1 [] 0) _=_;unfold Yy;rw[Zo Ah,Zb Ah];simp only;rw[Zb (by simp[Ym,Xf]),Zb Ah];unfold Yy;have a:Mf m 256=m:=Ag
 have b:Int.tdiv m 256=0:=Ag
 rw[show K2.wrap ((0:Int)+1)=1 from rfl,Zm Ah,a,b,show K2.wrap (0:Int)=0 from rfl];simp
theorem Bc(l:List Int):(Xf l)=l.length:=by simp[Xf]
theorem Qrt(h0:0<=n)(h1:n<=255):eh n=W (Xf [Ly.wrap n],()):=by
 rw[Qrr];have h:bits .and .i64 n 255=K2.wrap (((Lj 64 n&&&Lj 64 255).toNat:Nat):Int):=rfl;have e:(Lj 64 n&&&Lj 64 255).toNat=n.toNat:=by
  rw[Mp,Mq,Mq];have a:(n% ((2^64:Nat):Int)).toNat=n.toNat:=Aa
  have b:((255:Int)% ((2^64:Nat):Int)).toNat=2^8-1:=Aa
  rw[a,b,M0];omega
 grind[Zr]
def Hi(n:Int):Int:=ite (n<0\/n>4611686018427387903) 0 (ite (n<64) 1 (ite (n<16384) 2 (ite (n<1073741824) 4 8)))
theorem xP(n:Int):0<=Hi n/\Hi n<=8:=by grind[Hi]
theorem Qhe(h:fq n=X):1<=Hi n:=by simp_all[fq,Hi]<;>omega
theorem Qsp(h0:0<=n)(h1:n<64):Hi n=1:=by unfold Hi;omega
theorem It(n:Int):kr n=W (Hi n,()):=by
 unfold kr Hi
 grind
theorem szI(n:Int):KV n=W (Hi n,()):=by
 rw[<-It]
 grind(splits:=20)[KV,kr,Cs,jq]
theorem Qry(n k:Int):∀(N m:Nat)(s:Ba),m<N->m<=8->s+m<=8->T (Qs N n k s ((m:Int)-1)) λr=>r.1=s+m
 |0,_,_,h,_,_=>Aa
 |N+1,0,s,_,_,a=>by
  simp_all[Qs,T.pure]
 |N+1,m+1,s,d,e,a=>by
  unfold Qs;have j:∀b,T (Yv (λv=>Qs N v.1 v.2.1 v.2.2.1 v.2.2.2.1) n k s (((m+1:Nat):Int)-1) b) λr=>r.1=s+(m+1):=λb=>by
   unfold Yv;have c:K2.wrap (((m+1:Nat):Int)-1-1)=(m:Int)-1:=Ao
   rw[Qrr,pA,c];exact T.guard (by grind[Ym,Bc]) ((Qry n k N m _ Aa Aa (by grind[Bc])).mono λy f=>by grind[Bc])
  exact T.ite (λ_=>T.guard Ao (T.if (T.if (j _) (T.if (j _) (T.if (j _) (j _)))) (j _))) λh=>Af
theorem enS(n:Int):T (V5 n) λr=>r.1=Hi n:=by
 unfold V5;rw[It,pA];have a:=xP n
 grind[Lp,Zr,Qry,J4]
theorem Qrx(k:Int):∀(N m:Nat)(n:Int)(o:List Int),m<N->m<=o->0<o.length->o.length<=8->T (Kb N n k o ((m:Int)-1)) λr=>r.1=o.length
 |0,_,_,_,h,_,_,_=>Aa
 |N+1,0,n,o,_,_,a,_=>by
  unfold Kb;have j:∀x:List Int,x=o.length->T (bN x) λr=>r.1=o.length:=λx hx=>T.pure (by simp_all[Bc]);exact T.ite (λh=>by simp at h) λ_=>T.if (T.guard Aa (T.guard Aa (j _ Ac))) (T.if (T.guard Aa (T.guard Aa (j _ Ac))) (T.if (T.guard Aa (T.guard Aa (j _ Ac))) (j _ rfl)))
 |N+1,m+1,n,o,d,e,a,f=>by
  unfold Kb;have b:K2.wrap (((m+1:Nat):Int)-1-1)=(m:Int)-1:=Ao
  refine T.ite (λ_=>T.guard Aa (T.guard Aa ?_)) λh=>Af
  rw[b];exact(Qrx k N m _ _ Aa Ag Af Af).mono λy c=>by rw[c];simp
theorem RF(n:Int):T (Yw n) λr=>r.1=Hi n:=by
 unfold Yw;rw[szI,pA];have b:=xP n;by_cases a:Hi n=0
 ·simp_all[T.pure]
 ·have e:(Hi n==0)=false:=by simpa using a
  rw[Zm e,Zb Aj]
  grind[Zr,Qrx,ci]
def xW:List Int->Int|[]=>0|x::r=>Hi x+xW r
theorem C7:∀l:List Int,0<=xW l/\xW l<=8*l
 |[]=>by simp[xW]
 |x::r=>by
  have:=C7 r;have:=xP x
  grind[xW]
theorem Qr1(l:List Int)(hl:l.length<=1000)(hq:∀x∈l,fq x=X):∀(N i:Nat)(s:Ba),l-i<N->i<=l->s<=8*i->T (Jv N l s (i:Int)) λr=>r.1=s+xW (l.drop i)
 |0,_,_,h,_,_=>Aa
 |N+1,i,s,b,c,e=>by
  unfold Jv gH;refine T.ite (λa=>?_) λa=>T.pure (by simp_all[Ln,xW]);have a:=pE a;have f:=Qhe (hq _ (Z7 (d:=0) (show i<l by omega)));rw[Zb,It,pA,show(i:Int).toNat=i from rfl];refine T.ite (λh=>Af) λ_=>T.guard Aa ((enS _).bind λt g=>?_);have j:=xP (l.getD i 0);refine T.guard Al ?_;rw[Zs (m:=l),Q1 (d:=0) (show i<l by omega)];exact(Qr1 l hl hq N (i+1) _ Aa Aa Ag).mono λy k=>by grind[xW]
theorem vf(l:List Int)(hl:l.length<=1000)(hq:∀x∈l,fq x=X):T (Xt l) λr=>r.1=xW l:=by grind[Xt,Qr1,fY]
theorem Qr0(l:List Int)(hl:l.length<=1000)(hq:∀x∈l,fq x=X):∀(N i:Nat)(s:Ba),l-i<N->i<=l->s<=8*i->T (aQ N s l l (i:Int)) λr=>r.1=s+xW (l.drop i)
 |0,_,_,h,_,_=>Aa
 |N+1,i,s,c,e,f=>by
  unfold aQ gH;refine T.ite (λa=>?_) λa=>T.pure (by simp_all[Ln,xW]);have a:=pE a;have b:=hq _ (Z7 (d:=0) (show i<l by omega));rw[Zb,N9,pA,show(i:Int).toNat=i from rfl,b];refine T.ite (λh=>by cases h) λ_=>((RF _).bind λt g=>?_)
  have j:=xP (l.getD i 0);refine T.guard Al ?_;rw[Zs (m:=l),Q1 (d:=0) (show i<l by omega)];exact(Qr0 l hl hq N (i+1) _ Aa Aa Ag).mono λy k=>by grind[xW]
theorem esI(l:List Int)(hl:l.length<=1000)(hq:∀x∈l,fq x=X):T (ax l) λr=>r.1=xW l:=by grind[ax,Qr0,nU]
def AW(f:Zj):Int:=ite (Kg f=X) (1+(ite (f.1=4) (Hi f.2.1+Hi (f:Zap)+Hi (f:Zax)) (ite (f.1=5) (Hi f.2.1+Hi (f:Zap)) (ite (f.1=8) (Hi f.2.1+(ite ((f:LT)=0) 0 (Hi (f:LT)))+Hi (f:IO)+(f:IO)) (ite (f.1=17\/f.1=21) (Hi f.2.1+Hi (f:Zan)) (Hi (f:Zan))))))) 0
structure FrF(f:Zj):Prop where
 kind:f.1=4\/f.1=5\/f.1=8\/f.1=16\/f.1=17\/f.1=18\/f.1=20\/f.1=21\/f.1=22
 st:fq f.2.1=X
 off:fq f.2.2.1=X
 code:fq f.2.2.2.2.2.1=X
 lim:fq f.2.2.2.2.2.2.1=X
 fin:fq f.2.2.2.2.2.2.2.1=X
 len:f.2.2.2.1.length<=400
theorem I1(h:Kg f=X):FrF f:=by unfold Kg at h;simp only[pC,decide_eq_true_eq]at h;obtain⟨⟨⟨⟨⟨⟨⟨a,b⟩,c⟩,d⟩,e⟩,g⟩,i⟩,-⟩:=h;have hk:=GW a;simp only[Bool.or_eq_true,beq_iff_eq]at hk;exact⟨Aa,b,c,d,e,g,i⟩
theorem RY(h0:0<=n:=by omega)(h1:n<=100000:=by omega):fq n=true:=by grind[fq]
theorem PH{a b:Int}(ha:fq a=X)(hb:fq b=X):∀x∈[a,b],fq x=true:=by simp[ha,hb]
theorem Bk{a b c:Int}(ha:fq a=X)(hb:fq b=X)(hc:fq c=X):∀x∈[a,b,c],fq x=true:=by simp[ha,hb,hc]
theorem BZ{a b c d:Int}(ha:fq a=X)(hb:fq b=X)(hc:fq c=X)(hd:fq d=X):∀x∈[a,b,c,d],fq x=true:=Af
theorem Qwr(h:T6 f):T (az f) λr=>r.1=AW f:=by
 have p:=h;unfold T6 at p;unfold az AW;rw[xt _,pA];by_cases d:Kg f=X
 ·have F:=I1 d;rw[if_pos d,d];simp only[pI,pH];have l:∀{n:Int},0<=n->n<64-> ∀r,xW (n::r)=1+xW r:=λm q r=>by simp_all[xW,Qsp]
  have g:∀{n:Int},0<=n->n<64->fq n=true:=λa b=>RY a;rcases F.kind with e|e|e|e|e|e|e|e|e
  ·rw[e];exact(vf _ Ac (BZ (g Aa Aa) F.st F.code F.fin)).bind λt c=>T.pure (by grind[xW])
  ·rw[e];exact(vf _ Ac (Bk (g Aa Aa) F.st F.code)).bind λt c=>T.pure Ar
  ·have j:∀k:Int,0<=k->k<50->T (We f k) λr=>r.1=1+(Hi f.2.1+(ite ((f:LT)=0) 0 (Hi (f:LT)))+Hi (f:IO)+(f:IO)):=λk m q=>by
    unfold We;have o:fq (f:IO)=true:=RY;refine T.ite (λh=>?_) λh=>?_
    ·refine(vf _ Ac (Bk (g m Aa) F.st o)).bind λt c=>?_;have i:=C7 [k,f.2.1,(f:IO)];simp only[Lb,Li]at i;refine T.guard Al (T.pure ?_);rw[if_pos (eq_of_beq h)]
     grind[xW]
    ·have hk:K2.wrap (k+4)=k+4:=Zr;rw[hk];refine(vf _ Ac (BZ (g (n:=k+4) Aa Aa) F.st F.off o)).bind λt c=>?_;have i:=C7 [k+4,f.2.1,(f:LT),(f:IO)];simp only[Lb,Li]at i;refine T.guard Al (T.pure ?_);rw[if_neg (λs=>Af)]
     grind[xW]
   rw[e];simp only[La,Int.reduceEq,pH,pG,if_false,if_true];exact T.if (j _ Ah Ah) (j _ Ah Ah)
  ·rw[e];unfold Xd;exact(vf _ Ac (PH (by rw[e];rfl) F.lim)).bind λt c=>T.pure Ar
  ·rw[e];unfold Xd Yz;exact(vf _ Ac (Bk (by rw[e];rfl) F.st F.lim)).bind λt c=>T.pure Ar
  ·rw[e];unfold Xd Yz Wf;simp only[La,pH];refine T.if ?_ ?_
   ·rw[e];exact(vf _ Ac (PH (by rfl) F.lim)).bind λt c=>T.pure (by rw[c,l (by decide) (by decide)];simp[xW])
   ·exact(vf _ Ac (PH (by rw[e];rfl) F.lim)).bind λt c=>T.pure Ar
  ·rw[e];unfold Xd;exact(vf _ Ac (PH (by rw[e];rfl) F.lim)).bind λt c=>T.pure Ar
  ·rw[e];unfold Xd Yz;exact(vf _ Ac (Bk (by rw[e];rfl) F.st F.lim)).bind λt c=>T.pure Ar
  ·rw[e];unfold Xd Yz Wf;simp only[La,pH];refine T.if ?_ ?_
   ·rw[e];exact(vf _ Ac (PH (by rfl) F.lim)).bind λt c=>T.pure (by rw[c,l (by decide) (by decide)];simp[xW])
   ·exact(vf _ Ac (PH (by rw[e];rfl) F.lim)).bind λt c=>T.pure Ar
 ·rw[if_neg d];have d:Kg f=false:=by simpa using d
  rw[d];exact T.pure rfl
theorem TQ{x y z:Int}(hz:x+y=z)(ha:a=x)(hb:b=y):((a++b:Ba))=z:=Af
theorem Qyp(h:T6 f):T (fa f) λr=>r.1=AW f:=by
 have A:=h;unfold T6 at A;unfold fa AW;rw[QJ _,pA];by_cases s:Kg f=X
 ·have F:=I1 s;rw[if_pos s,s];simp only[pI,pH,Xm];have w:∀k:Int,T (Xv k) λr=>(r.1:Int)=1:=λk=>T.pure rfl;have g:∀{a b:Ba}{x y:Int},a=x->b=y->x+y<=1000->a+b<=Ym:=λG H I=>Al
  have m:∀(k:Int)(l:List Int),l.length<=4->(∀x∈l,fq x=X)->T (K4 (Xv k) λt=>K4 (ax l) λq=>Ze (t.1+q.1<=Ym)<|some (t.1++q.1,())) λr=>r.1=1+xW l:=λk l J B=>by
   have C:=C7 l;exact(w k).bind λt i=>(esI l Aa B).bind λq c=>T.guard (g i c Aa) (T.pure (TQ rfl i c))
  have u:∀(k n:Int),T (K4 (Xv k) λt=>K4 (Yw n) λq=>Ze (t.1+q.1<=Ym)<|some (t.1++q.1,())) λr=>r.1=1+Hi n:=λk n=>by
   have C:=xP n;exact(w k).bind λt i=>(RF n).bind λq c=>T.guard (g i c Aa) (T.pure (TQ rfl i c))
  have d:∀b:Bool,TT (pe b):=λb=>by cases b<;>exact T.tt
  rcases F.kind with e|e|e|e|e|e|e|e|e
  ·rw[e];exact(m _ _ Ac (Bk F.st F.code F.fin)).mono λy p=>by grind[xW]
  ·rw[e];exact(m _ _ Ac (PH F.st F.code)).mono λy p=>Ar
  ·rw[e];simp only[La,Int.reduceEq,pH,pG,if_false,if_true];have K:=xP f.2.1;have L:=xP (f:LT);have M:=xP (f:IO);have z:=F.len;have j:∀(o:Ba)(x:Int),o=x->x<=100->T (Wc f o) λr=>r.1=x+Hi (f:IO)+(f:IO):=λo x D hx=>by
    unfold Wc;refine(RF _).bind λt i=>T.guard (g D i Aa) (T.guard ?_ (T.pure ?_))
    ·grind[Ym]
    grind
   refine(d _).bind λ_ _=>(d _).bind λ_ _=>(w _).bind λt i=>(RF _).bind λq c=>T.guard (g i c Aa) ?_;refine T.ite (λh=>?_) λh=>?_
   ·have E:(f:LT)≠0:=by simpa using h
    rw[if_neg E];refine(RF _).bind λN v=>T.guard (g (TQ rfl i c) v Aa) ((j _ _ (TQ rfl (TQ rfl i c) v) Aa).mono λy p=>by rw[p];omega)
   grind
  ·simp_all[Xo]
  ·rw[e];unfold Xo Ki;simp only[La,pH,pG,Xm];exact(m _ _ Ac (PH F.st F.lim)).mono λy p=>Ar
  ·rw[e];unfold Xo Ki;simp only[La,pH];exact(d _).bind λ_ _=>(u _ _).mono λy p=>by rw[p];simp
  ·simp_all[Xo]
  ·rw[e];unfold Xo Ki;simp only[La,pH,pG,Xm];exact(m _ _ Ac (PH F.st F.lim)).mono λy p=>Ar
  ·rw[e];unfold Xo Ki;simp only[La,pH];exact(d _).bind λ_ _=>(u _ _).mono λy p=>by rw[p];simp
 ·rw[if_neg s];have s:Kg f=false:=by simpa using s
  rw[s];exact T.pure rfl
theorem PF(h:T6 f):lD f=W (AW f,()):=by obtain⟨⟨y,u⟩,e,a⟩:=Qwr h;simp_all[lD]
theorem GZ(h:T6 f):oT f=W (AW f,()):=by obtain⟨⟨y,u⟩,e,a⟩:=Qyp h;simp_all[oT]
theorem Qgg(h:Kg f=X):1<=AW f:=by have F:=I1 h;unfold AW;rw[if_pos h];have a:=xP f.2.1;have b:=xP (f:LT);have c:=xP (f:Zap);have d:=xP (f:Zan);have e:=xP (f:Zax);have g:=xP (f:IO);omega
def D8(r:Q9)(o:Int):Nat->List Int|0=>[]|n+1=>D8 r o n++[Ly.wrap ((r:SW).getD (Mf (o+n) r.1).toNat 0)]
theorem Tj(r:Q9)(o:Int):∀n,(D8 r o n)=n
 |0=>rfl
 |n+1=>by simp[D8,Tj r o n]
theorem Qib(a b:List Int):Xf (a++b)=Xf a++Xf b:=by simp[Xf]
structure Ho(r:Q9):Prop where
 size:0<r.1/\r.1<=64
 len:(r.2.2.2.1:Int)=r.1
 b0:0<=r.2.1
 be:r.2.1<=r.2.2.1
 sz:r.2.2.1-r.2.1<=r.1
 eM:r.2.2.1<=4611686018427387903
 cell:∀j,j<r.2.2.2.1.length->0<=r.2.2.2.1.getD j 0/\r.2.2.2.1.getD j 0<=255
theorem Gw(hl:(r:SW).length<=1048576)(h:VF r=X):Ho r:=by obtain⟨a,b,c,d,e,f,g⟩:=(AF r hl).2 h;exact⟨a,b,c,d,e,f,g⟩
theorem Qsh{r:Q9}(h:Ho r)(o n:Nat)(ho:(o:Int)+n<=4611686018427387903)(hn:n<=64):∀(N i:Nat),n-i<N->i<=n->qg N (o:Int) (n:Int) r (Xf (D8 r o i)) (i:Int)=W (Xf (D8 r o n),X,())
 |0,_,h,_=>Aa
 |N+1,i,c,d=>by
  unfold qg gH;by_cases b:i<n
  ·have e:=BP (x:=(o:Int)+(i:Int)) (n:=r.1) Aa h.size.1;have f:=h.len;have a:=h.cell (Mf ((o:Int)+(i:Int)) r.1).toNat Aa
   rw[Zo (Zl),Zb,Zr];simp only;rw[Zb,Qrt a.1 a.2,pA,Zb (by grind[Ym,Bc,Tj]),Zs b,<-Qib];exact Qsh h o n ho hn N (i+1) Aa Aa
  grind
theorem Qsf{r:Q9}(h:Ho r)(o n:Nat)(ho:(o:Int)+n<=4611686018427387903)(hn:n<=64):∀(N i:Nat),n-i<N->i<=n->oY N (o:Int) r (D8 r o i) (n:Int) (i:Int)=W (Xf (D8 r o n),X,())
 |0,_,h,_=>Aa
 |N+1,i,b,c=>by
  unfold oY gH;by_cases a:i<n
  ·have d:=BP (x:=(o:Int)+(i:Int)) (n:=r.1) Aa h.size.1;have e:=h.len;rw[Zo (Zl),Zb,Zr];simp only;rw[Zb,Zb (by grind[Qg,Tj]),Zs a];exact Qsf h o n ho hn N (i+1) Aa Aa
  grind
theorem Qbc(hl:(r:SW).length<=1048576):qu r=W (VF r,()):=by simp_all[DO,AF]
theorem Qw9(hl:(r:SW).length<=1048576)(h:VF r=X)(h1:r.2.1<=o)(h2:0<=n)(h3:o+n<=(r:Zab)):tj r o n=W (Xf (D8 r o n.toNat),X,()):=by
 have F:=Gw hl h;have:=F.b0;have:=F.sz;have:=F.eM;have:=F.size
 unfold tj;rw[(AF r hl).1,h,pA,Zk (p:=o<r.2.1),Zk (p:=n<0),Zk (p:=o>(r:Zab)),Zr,Zk (p:=n>(r:Zab)-o)];obtain⟨a,rfl⟩:=Lp (show 0<=o by omega);obtain⟨b,rfl⟩:=Lp h2;exact Qsh F a b Aa Aa _ 0 (by simp[uo]) Aa
theorem Qw8(hl:(r:SW).length<=1048576)(h:VF r=X)(h1:r.2.1<=o)(h2:0<=n)(h3:o+n<=(r:Zab)):s5 r o n=W (Xf (D8 r o n.toNat),X,()):=by
 have F:=Gw hl h;have:=F.b0;have:=F.sz;have:=F.eM;have:=F.size
 unfold s5;rw[Qbc hl,h,pA,Zk (p:=n<0),bc,Zr,Zk (p:=n>(r:Zab)-o),Zl (p:=o>=r.2.1),Zl (p:=o<=(r:Zab))];obtain⟨a,rfl⟩:=Lp (show 0<=o by omega);obtain⟨b,rfl⟩:=Lp h2;exact Qsf F a b Aa Aa _ 0 (by simp[tz]) Aa
abbrev uM(s:Zn):Zi:=(s:ST).getD 0 Z3
def Pm(s:Zn)(limit:Int):Prop:=(w0 s=X/\s.1<=2)/\(((s:ST)=[]/\(s:Zaf)=1)\/((s:ST)≠[]/\(uM s).1<min (uM s).2.1 limit))
def r7(s:Zn)(most limit:Int):Int:=min most (min (uM s).2.1 limit- (uM s).1)
def BO(r:Q9)(o:Int)(n:Nat):Ba:=ite (r.2.1<=o) (Xf (D8 r o n)) []
theorem Qhc(r:Q9)(o:Int)(n:Nat):(BO r o n)<=n:=by grind[BO,Bc,Tj]
theorem Quu(hl:(r:SW).length<=1048576)(h:VF r=X)(h2:0<=n)(h3:o+n<=(r:Zab)):∃b,tj r o n=W (BO r o n.toNat,b,()):=by
 unfold BO;by_cases a:r.2.1<=o
 ·simp_all[Qw9]
 simp_all[if_neg,tj,AF]
theorem Qut(hl:(r:SW).length<=1048576)(h:VF r=X)(h2:0<=n)(h3:o+n<=(r:Zab)):∃b,s5 r o n=W (BO r o n.toNat,b,()):=by
 unfold BO;by_cases a:r.2.1<=o
 ·simp_all[Qw8]
 simp_all[if_neg,s5,Qbc,Zk,bc]
def Em(s:Zn)(most limit:Int):Qj:=ite ((s:ST)=[]) ((s:Zam),[],X,()) ((uM s).1,BO s.2.1 (uM s).1 (r7 s most limit).toNat,((s:Zaf)==(1:Int))&&((uM s).1+r7 s most limit==(s:Zam)),())
theorem EQ{K:Int}(h:Wp K s)(hp:(s:ST)≠[]):0<=(uM s).1/\(uM s).1<(uM s).2.1/\(uM s).2.1<=(s:Zad):=by have b:0<(s:ST).length:=L8.2 hp;have a:uM s∈(s:ST):=Z7 (d:=Z3) b;have:=Xs.1 (XL h.pend.1 _ a).2;have:=h.pend.2 _ a;omega
open Classical in
def HF(s:Zn)(most limit:Int):Qj×Bool×Unit:=ite (Pm s limit) (Em s most limit,X,()) (iu,K3,())
theorem Qw4{K:Int}(h:Wp K s)(hK:K<=1000000)(hm:1<=most)(hl:0<=limit):XP s most limit=W (HF s most limit):=by
 have l:=h.cells;unfold XP HF;rw[R6 h hK,pA];by_cases a:w0 s=X/\s.1<=2
 ·have F:=(FI h hK).1 a.1;rw[a.1,Zk (p:=s.1>2)];simp only[pI,Lc,pH];by_cases c:(s:ST)=[]
  ·rw[c];simp only[Li,Lx,gt_iff_lt,Int.lt_irrefl,decide_false,pH];by_cases g:(s:Zaf)=1
   ·rw[if_pos ⟨a,.inl ⟨c,g⟩⟩];simp_all[Em]
   ·rw[if_neg (λhn=>by rcases hn.2 with hn|hn;all_goals simp_all),beq_false_of_ne g];rfl
  ·have i:0<(s:ST).length:=L8.2 c;obtain⟨m,q,t⟩:=EQ h c;have u:=(Gw Aa F.ring).eM;have v:(uM s).1=((s:ST).getD 0 Z3).1:=rfl;have w:(uM s).2.1=((s:ST).getD 0 Z3).2.1:=rfl;rw[Zo (Zl),Zb,show(0:Int).toNat=0 from rfl];by_cases d:min (uM s).2.1 limit<=(uM s).1
   ·rw[Zo (Zl d),if_neg (λhn=>by rcases hn.2 with hn|hn;all_goals grind)]
   ·rw[Zm (Zk d),if_pos ⟨a,.inr ⟨c,Aa⟩⟩];have j:∀f:Int,f=(uM s).1+r7 s most limit->nG s iu ((s:Zam),([]:Ba),(s:Zaf)==(1:Int),()) (uM s) f=W (Em s most limit,X,()):=λf e=>by
     have hn:1<=r7 s most limit/\(uM s).1+r7 s most limit<=(uM s).2.1:=by unfold r7;omega
     unfold nG;rw[Zm (Zk),Zr,show f- (uM s).1=r7 s most limit by omega];obtain⟨b,x⟩:=Quu (r:=s.2.1) Aa F.ring (o:=(uM s).1) (n:=r7 s most limit) Aa Aa;simp_all[Em]
    by_cases k:most<min (uM s).2.1 limit- (uM s).1
    ·rw[Zr,Zo (Zl k),Zr]
     grind[r7]
    ·rw[Zr,Zm (Zk k)]
     grind[r7]
 ·rw[if_neg (λhn=>a hn.1)]
  grind
theorem Qw3{K:Int}(h:Wp K s)(hK:K<=1000000)(hm:1<=most)(hl:0<=limit)(hM:most<=1000):ZX s most limit=W (HF s most limit):=by
 have t:=h.cells;unfold ZX bh HF;rw[xh h hK,R6 h hK,pA];simp only[bc,bA,DP,pA];by_cases f:w0 s=X/\s.1<=2
 ·have F:=(FI h hK).1 f.1;rw[f.1,Zl (p:=s.1<=2),Zl (p:=s.1>=0) F.st.1];simp only[Ld,pI,pH];by_cases d:(s:ST)=[]
  ·rw[d];simp only[Li,Lx,BEq.rfl,pG];by_cases i:(s:Zaf)=1
   ·have c:=(F.no Aa).fin;unfold jD at c;have m:0<=(s:Zam)/\(s:Zam)<=K:=by
     simp only[i,Bool.not_or,Me,pC,Md,Mr,bne_eq_false_iff_eq,beq_iff_eq]at c;obtain⟨a,b⟩:=c;have u:=h.eK;have m:=h.e0
     simp_all
    rw[if_pos ⟨f,.inl ⟨d,i⟩⟩];unfold Em;rw[if_pos d,i];simp only[pe,BEq.rfl,pG,pA]
    grind[Zr]
   ·rw[if_neg (λhn=>by rcases hn.2 with hn|hn;all_goals simp_all),beq_false_of_ne i];simp only[pe,pH,pA,Int.mul_zero];rfl
  ·have k:0<(s:ST).length:=L8.2 d;obtain⟨v,w,x⟩:=EQ h d;have y:=(Gw Aa F.ring).eM;have z:(uM s).1=((s:ST).getD 0 Z3).1:=rfl;have A:(uM s).2.1=((s:ST).getD 0 Z3).2.1:=rfl;have q:((((s:ST):Nat):Int)==0)=false:=by simp;exact d
   rw[Zm q,Zb,show(0:Int).toNat=0 from rfl,Zr (n:=((s:ST).getD 0 Z3).2.1- ((s:ST).getD 0 Z3).1)];by_cases g:limit<=(uM s).1
   ·rw[Zo (Zl g),if_neg (λhn=>by rcases hn.2 with hn|hn;all_goals grind)]
   ·rw[Zm (Zk g),if_pos ⟨f,.inr ⟨d,Aa⟩⟩];have j:∀n:Int,n=r7 s most limit->mY s iu (uM s) n=W (Em s most limit,X,()):=λn e=>by
     have hn:1<=r7 s most limit/\(uM s).1+r7 s most limit<=(uM s).2.1:=by unfold r7;omega
     subst e;unfold mY;rw[Zm (Zk),Zr];obtain⟨b,B⟩:=Qut (r:=s.2.1) Aa F.ring (o:=(uM s).1) (n:=r7 s most limit) Aa Aa;simp_all[Em]
    by_cases l:limit<(uM s).1+min ((uM s).2.1- (uM s).1) most
    ·rw[Zr,Zo (Zl l),Zr]
     grind[r7]
    ·rw[Zr,Zm (Zk l)]
     grind[r7]
 ·rw[if_neg (λhn=>f hn.1)]
  grind
theorem BJ(hm:most<=60):(Em s most limit).2.1.length<=60:=by
 unfold Em;split
 ·simp
 ·have:=Qhc s.2.1 (uM s).1 (r7 s most limit).toNat
  grind[r7]
abbrev Ci(id:Int)(p:Qj):Zj:=((8:Int),id,p.1,p.2.1,p.2.2.1,(0:Int),(0:Int),(0:Int),K3,())
theorem Quw{K:Int}(h:Wp K s)(hK:K<=1000000)(hi:0<=id/\id<=4611686018427387903)(hm:1<=most/\most<=60)(hn:Pm s limit):Kg (Ci id (Em s most limit))=true:=by
 have F:=(FI h hK).1 hn.1.1;have g:=h.cells;have i:=(Gw Aa F.ring).eM;have j:fq id=true:=by simp_all[fq]
 have e:=BJ (s:=s) (limit:=limit) hm.2;have k:0<=(Em s most limit).1/\(Em s most limit).1+(Em s most limit).2.1.length<=4611686018427387903:=by
  unfold Em;by_cases d:(s:ST)=[]
  ·rw[if_pos d];rcases hn.2 with⟨-,f⟩|⟨hx,-⟩
   ·have c:=(F.no (by have:=hn.1.2;omega)).fin;unfold jD at c;simp only[f,Bool.not_or,Me,pC,Md,Mr,bne_eq_false_iff_eq,beq_iff_eq]at c;obtain⟨a,b⟩:=c;have l:=h.eK;have m:=h.e0
    simp_all
   simp_all
  ·rw[if_neg d];obtain⟨n,o,p⟩:=EQ h d;have a:=Qhc s.2.1 (uM s).1 (r7 s most limit).toNat
   simp_all[r7]<;>omega
 grind[Kg,K0,fq]
def CD(s:Zn)(id room limit:Int):Nat->Qj×Bool×Unit|0=>(iu,K3,())|m+1=>ite (AW (Ci id (Em s ((m+1:Nat):Int) limit))<=room) (Em s ((m+1:Nat):Int) limit,X,()) (CD s id room limit m)
open Classical in
def S8(s:Zn)(id room limit:Int)(m:Nat):Qj×Bool×Unit:=ite (Pm s limit) (CD s id room limit m) (iu,K3,())
theorem Qhb{K:Nat}{s:Zh}(h:Xx K s)(hK:K<=1000000){id room limit:Int}(hi:0<=id/\id<=4611686018427387903)(hl:0<=limit)(t:Qj):∀(N m:Nat),m<N->m<=60->kS N id room t s limit (m:Int)=W (S8 s.2.1 id room limit m)
 |0,_,h,_=>Aa
 |N+1,0,_,_=>by
  unfold kS S8;rw[Zm (Zk)];split<;>rfl
 |N+1,m+1,e,f=>by
  unfold kS;rw[Zo (Zl),Qw4 h.snd Aa Aa hl,pA];have c:=Qhb h hK hi hl t N m Aa Aa (room:=room);unfold HF S8;by_cases a:Pm s.2.1 limit
  ·rw[if_pos a,if_pos a];have d:T6 (Ci id (Em s.2.1 ((m+1:Nat):Int) limit)):=by grind[T6,BJ]
   simp only[pI,pH,sj,pA];rw[PF d,pA,CD];by_cases b:AW (Ci id (Em s.2.1 ((m+1:Nat):Int) limit))<=room
   ·simp_all
   ·rw[Zm (Zk b),if_neg b,show K2.wrap (((m+1:Nat):Int)-1)=(m:Int) by grind[Zr],c];simp_all[S8]
  simp_all
theorem Qha{K:Nat}{s:Zh}(h:Xx K s)(hK:K<=1000000){id room limit:Int}(hi:0<=id/\id<=4611686018427387903)(hl:0<=limit)(t:Qj):∀(N m:Nat),m<N->m<=60->kt N id room t s limit (m:Int)=W (S8 s.2.1 id room limit m)
 |0,_,h,_=>Aa
 |N+1,0,_,_=>by
  unfold kt S8;rw[Zm (Zk)];split<;>rfl
 |N+1,m+1,c,d=>by
  unfold kt;rw[Zo (Zl),Qw3 h.snd Aa Aa hl Aa,pA];have e:=Qha h hK hi hl t N m Aa Aa (room:=room);have f:K2.wrap (((m+1:Nat):Int)-1)=(m:Int):=Ao
  unfold HF S8;by_cases a:Pm s.2.1 limit
  ·rw[if_pos a,if_pos a];have b:T6 (Ci id (Em s.2.1 ((m+1:Nat):Int) limit)):=by grind[T6,BJ]
   have g:=Qgg (Quw h.snd Aa hi (most:=((m+1:Nat):Int)) Aa a);simp only[pG,ml,pA];rw[GZ b,pA,bc,pA,CD,Zl (p:=AW _>=1)];by_cases i:AW (Ci id (Em s.2.1 ((m+1:Nat):Int) limit))<=room
   all_goals simp_all[Zk,if_neg,S8]
  simp_all[S8]
theorem Qai(c:Jl):sb c=W (cond (Oi c) (c.1-c.2.1) 0,()):=by
 unfold sb;rw[Hr,pA];cases h:Oi c
 ·rfl
 ·obtain⟨a,b,d,-,-,-,-⟩:=vK.1 h;simp only[pI,pH,pG]
  grind[Zr]
def Rb(c:Zf)(s:Zh):Int:=min (s:LE).1 ((s:Zba)+((c:Zah).1-(c:Zah).2.1))
open Classical in
def GV(c:Zf)(id room:Int):Qj×Bool×Unit:=ite ((bJ c=X/\0<=Qe (c:Id) id)/\((c:Id).getD (Qe (c:Id) id).toNat Zc:Zak)=X/\3<=room) (S8 ((c:Id).getD (Qe (c:Id) id).toNat Zc).2.1 id room (Rb c ((c:Id).getD (Qe (c:Id) id).toNat Zc)) (min room 60).toNat) (iu,K3,())
theorem Qgz(h:Qb K c)(hK:K<=1000000)(hc:bJ c=X){s:Zh}(hs:s∈(c:Id)):0<=Rb c s/\K2.wrap ((s:Zba)+((c:Zah).1-(c:Zah).2.1))=(s:Zba)+((c:Zah).1-(c:Zah).2.1):=by
 have C:=(Sp h hK).1 hc;have S:=C.st h hK hs;obtain⟨d,e,f,-,-,-,-⟩:=vK.1 C.tot;obtain⟨g,i,j,-,-,-,-⟩:=S.cre;have a:=S.snd.sent;have b:=(h.str.all _ hs).snd.eK
 grind[Rb,Zr]
theorem Qjj(h:Qb K c)(hK:K<=1000000)(id room:Int):JH c id room=W (GV c id room):=by
 have k:=h.str.len;obtain⟨m,-,e⟩:=rN (l:=(c:Id)) Aa id;unfold JH GV;rw[dV h hK,pA,GI h hK,pA];by_cases f:0<=Qe (c:Id) id
 ·rw[if_pos f];have b:=Z7 (d:=Zc) (show(Qe (c:Id) id).toNat<(c:Id).length by omega);have e:=e f;generalize (c:Id).getD (Qe (c:Id) id).toNat Zc=s at*
  by_cases a:(bJ c=X/\0<=Qe (c:Id) id)/\(s:Zak)=X/\3<=room
  ·obtain⟨g,i⟩:=Qgz h hK a.1.1 b;have S:=((Sp h hK).1 a.1.1).st h hK b;have j:=S.id;rw[if_pos a,a.1.1,a.2.1,Zk (p:=room<3),Qai,pA,((Sp h hK).1 a.1.1).tot];simp only[pI,Lc,pH,pG];rw[i,show min room (60:Int)=((min room 60).toNat:Int) by omega];exact Qhb (h.str.all _ b) hK Aa g _ _ _ (by grind[uq]) Aa
  grind
 grind
theorem Qji(h:Qb K c)(hK:K<=1000000)(id room:Int):KU c id room=W (GV c id room):=by
 have k:=h.str.len;obtain⟨m,-,e⟩:=rN (l:=(c:Id)) Aa id;unfold KU gH gJ GV;rw[uT Aa,YA Aa,pA,KX h hK,GI h hK,pA];by_cases f:0<=Qe (c:Id) id
 ·rw[Zk (p:=Qe (c:Id) id<0)];have b:=Z7 (d:=Zc) (show(Qe (c:Id) id).toNat<(c:Id).length by omega);have e:=e f;simp only;rw[Zb (λ_=>Aa)];generalize (c:Id).getD (Qe (c:Id) id).toNat Zc=s at*
  by_cases a:(bJ c=X/\0<=Qe (c:Id) id)/\(s:Zak)=X/\3<=room
  ·obtain⟨g,i⟩:=Qgz h hK a.1.1 b;have S:=((Sp h hK).1 a.1.1).st h hK b;have j:=S.id;rw[if_pos a,a.1.1,a.2.1,Zk (p:=room<3),Qaj,Qai,pA,((Sp h hK).1 a.1.1).tot];simp only[pI,Lc,pH,pG];rw[Zb,i,show min (60:Int) room=((min room 60).toNat:Int) by omega];exact Qha (h.str.all _ b) hK Aa g _ _ _ (by grind[ua]) Aa
  grind
 simp_all[Zb]<;>omega
theorem tx(r:Zi):∀(N:Nat)(pre rest:List Zi)(out:List Zi),(pre++rest).length<=1048576->rest<N->out<=pre.length->
  ce N [r] out (pre++rest) (pre++rest) pre=W (out++rest.flatMap λx=>[r].flatMap (KC x),())
 |0,_,_,_,_,h,_=>Aa
 |N+1,pre,[],out,d,b,e=>by
  simp_all[ce]
 |N+1,pre,x::rest,out,d,b,e=>by
  have a:(pre++x::rest).length=pre+rest+1:=Ae
  simp only[Lb]at b;have i:(pre++[x])++rest=pre++x::rest:=Ac
  have j:((pre++[x]):Int)=((pre+1:Nat):Int):=Ac
  have c:K2.wrap (pre+1)=((pre+1:Nat):Int):=Zs (m:=pre+1);unfold ce;rw[Zo (Zl (by rw[a];omega)),Zb (by rw[a];omega),aH];rw[show mc [r] out x (pre++x::rest) (pre++x::rest) pre [r] ([r]:List Zi) 0=2 from rfl];unfold W4 gH gK;rw[Zo (Zl Ac),Zb Ac];have f:([r]:List Zi).getD (0:Int).toNat Z3=r:=rfl;simp only[f];have w1:K2.wrap ((0:Int)+1)=1:=rfl;by_cases h:max x.1 r.1<min x.2.1 r.2.1
  ·rw[Zo (Zl h),Zb Aj,w1];unfold W4 gH gK;rw[Zm (Zk Ac)];simp only[c];have g:=tx r N (pre++[x]) rest (out++[(max x.1 r.1,min x.2.1 r.2.1,())]) Ae Aa Ae;simp_all[KC]
  ·rw[Zm (Zk h),w1];unfold W4 gH gK;rw[Zm (Zk Ac)];simp only[c];have g:=tx r N (pre++[x]) rest out Ae Aa Ae;simp_all[KC]
def PS(l:List Zi)(r:Zi):List Zi:=ite (Hl (-1) l=X/\Hl (-1) [r]=X) (l.flatMap λx=>[r].flatMap (KC x)) []
theorem O0(l:List Zi)(r:Zi)(hl:l.length<=1048576:=by omega):dm l [r]=W (PS l r,()):=Gn l [r] hl Ac
theorem LI(l:List Zi)(r:Zi)(hl:l.length<=1048576:=by omega):iC l [r]=W (PS l r,()):=by
 unfold iC gG PS;rw[xg l hl,xg [r] Ac,pA];cases h1:Hl (-1) l
 ·simp
 ·cases h2:Hl (-1) [r]
  ·simp
  ·simp only[pI,pH,pA,Lc,and_self,if_true];have:=tx r (eu [r] [] l l 0) [] l [] (by simpa using hl) (by simp[eu]) Ac;simpa using this
theorem Qah(l:List Zi)(r:Zi):(PS l r)<=l.length:=HC
def Cx(l:List Zi)(r:Zi):Bool:=((l:Int)==1)&&TR (Zw) (l.getD 0 Z3) r
theorem Qym(l:List Zi)(r:Zi):wu l [r]=W (Cx l r,()):=by
 unfold wu bS Cx;by_cases h:(l:Int)=1
 ·have a:(l !=(([r]:List Zi):Int))=false:=Ae
  rw[a,h];simp only[pH,BEq.rfl,pJ];rw[show Vn l [r] 1 0=2 from rfl];unfold Jm gH gK;rw[Zo Ah,Zb,Zb Ac,show(0:Int).toNat=0 from rfl,show([r]:List Zi).getD 0 Z3=r from rfl];cases TR (Zw) (l.getD 0 Z3) r
  ·rfl
  ·rfl
 grind
def UT(l:List Zi)(r:Zi):List Zi:=ite (Hl (-1) l=X/\iO r=X) (vL r l) l
def Qyf(l:List Zi)(r:Zi):List Zi:=ite (Hl (-1) l=X/\iO r=X) (nR l r) l
theorem ui:∀(N:Nat)(pre rest:List Zi)(r:Zi)(out:List Zi),(pre++rest).length<=1048576->rest<N->out<=2*pre.length->
  Wd N r out (pre++rest) (pre++rest) pre=W (out++vL r rest,())
 |0,_,_,_,_,_,h,_=>Aa
 |N+1,pre,[],r,out,e,c,f=>by
  simp_all[Wd,vL]
 |N+1,pre,x::rest,r,out,e,c,f=>by
  have b:(pre++x::rest).length=pre+rest+1:=Ae
  simp only[Lb]at c;have j:(pre++[x])++rest=pre++x::rest:=Ac
  have k:((pre++[x]):Int)=((pre+1:Nat):Int):=Ac
  have d:∀a:List Zi,a<=2*pre.length+1->jn (λv=>Wd N v.1 v.2.1 v.2.2.1 v.2.2.2.1 v.2.2.2.2.1) r a x (pre++x::rest) (pre++x::rest) pre=W (a++(ite (max x.1 r.2.1<x.2.1) [(max x.1 r.2.1,x.2.1,())] [])++vL r rest,()):=by
   intro a g;unfold jn;rw[Zs (m:=pre+1)];by_cases h:max x.1 r.2.1<x.2.1
   ·rw[Zo (Zl h),if_pos h,Zb Aj];have i:=ui N (pre++[x]) rest r (a++[(max x.1 r.2.1,x.2.1,())]) Ae Aa Ae;simp_all
   ·rw[Zm (Zk h),if_neg h];have i:=ui N (pre++[x]) rest r a Ae Aa Ae;simp_all
  unfold Wd;rw[Zo (Zl (by rw[b];omega)),Zb (by rw[b];omega),aH];by_cases h:x.1<min x.2.1 r.1
  ·rw[Zo (Zl h),Zb Aj,d _ Ae];simp[vL,Rq,h]
  ·rw[Zm (Zk h),d _ Aa];simp[vL,Rq,h]
theorem C3(l:List Zi)(r:Zi)(hl:l.length<=1048576:=by omega):ku l r=W (UT l r,()):=by
 unfold ku gG UT;rw[xg l hl,pA];cases h1:Hl (-1) l
 ·simp[zH l hl]
 ·simp only[pI,pH,PN,pA,Ll];cases h2:iO r
  ·simp[zH l hl]
  ·have:=ui (fT r [] l l 0) [] l r [] (by simpa using hl) (by simp[fT]) Ac;simp_all
def PW(s:Zn)(p:Qj):Bool:=(((Z (p.1>=(0:Int)))&&(Z (p.1<=(s:Zad))))&&(Z (p.2.1<=(K2.wrap ((s:Zad)-p.1)))))&&((!p.2.2.1)||(((s:Zam) !=(-1:Int))&&((K2.wrap (p.1+p.2.1))==(s:Zam))))
theorem LN(s:Zn)(p:Qj):xy s p=W (PW s p,()):=rfl
theorem Cy{K:Int}(h:Wp K s)(hK:K<=1000000)(p:Qj):s6 s p=W (PW s p,()):=by
 have f:=h.e0;have g:=h.eK
 unfold s6 PW;by_cases a:0<=p.1
 ·by_cases b:p.1<=(s:Zad)
  ·by_cases c:p.2.1<=(s:Zad)-p.1
   ·have e:K2.wrap (p.1+p.2.1)=p.1+p.2.1:=Zr;rw[Zr (n:=(s:Zad)-p.1),e,Zk (p:=p.1<0),Zk (p:=p.1>(s:Zad)),Zk (p:=p.2.1>(s:Zad)-p.1),Zl (p:=p.1>=0) a,Zl b,Zl c];simp only[Lc,pH,Ld,pJ];by_cases d:p.1+p.2.1=(s:Zam)
    ·have:((s:Zam) != -1)=true:=Ae
     simp_all
    grind
   grind[Zr]
  grind
 grind
abbrev DY(p:Qj):Zi:=(p.1,K2.wrap (p.1+p.2.1),())
def Pg(s:Zn)(p:Qj):Bool:=(((w0 s&&Z (s.1<=2))&&PW s p)&& !((p.2.1==([]:Ba))&&(!p.2.2.1)))&& !(p.2.2.1&&((s:Zaf) !=(1:Int)))
def Eo(s:Zn)(p:Qj):Bool:=Pg s p&&((p.2.1==([]:Ba))||Cx (PS (s:ST) (DY p)) (DY p))
def EZ(s:Zn)(p:Qj):Zn:=cond (p.2.1==([]:Ba)) s (s.1,s.2.1,UT (s:ST) (DY p),Qyf (s:Zae) (DY p),(s:Zag),(s:Zam),(s:Zaf),max (s:Zal) (DY p).2.1,(s:Zby).2.2)
def j5(s:Zn)(p:Qj):Zn:=cond p.2.2.1 ((EZ s p).1,(EZ s p).2.1,(EZ s p:ST),(EZ s p:Zae),(EZ s p:Zag),(EZ s p:Zam),(2:Int),(EZ s p:Zby).2) (EZ s p)
def CM(s:Zn)(p:Qj):Zn:=(D0 (j5 s p),(j5 s p).2)
theorem Qqw(s:Zn)(p:Qj):(EZ s p:Zaf)=(s:Zaf):=by grind[EZ]
theorem Qsu{K:Int}(h:Wp K s)(hK:K<=1000000)(p:Qj):qh s p=W (cond (Eo s p) (CM s p) s,Eo s p,()):=by
 have c:=Qx h.pend h.e0 h.eK hK;have d:=Qx h.pT h.e0 h.eK hK;unfold qh gG;rw[uc h hK,pA,R6 h hK,pA];simp only[LN,bO];have e:(((((!w0 s)||Z (s.1>2))|| !(!((!w0 s)||Z (s.1>2))&&PW s p))||((p.2.1==([]:Ba))&&(!p.2.2.1)))||(p.2.2.1&&((s:Zaf) !=(1:Int))))= !Pg s p:=by
  grind(splits:=20)[Pg]
 rw[e];have fin:∀y:Zn,y=EZ s p->dz p Jn y=W (CM s p,X,()):=λy f=>by
  grind(splits:=20)[dz,iY,CM,j5,Gz]
 unfold Eo;cases hg:Pg s p
 ·rfl
 ·simp only[pI,pH,pJ];cases hd:p.2.1==([]:Ba)
  ·simp only[Lq,pG,ki,pA,Ll];rw[O0 _ _,pA];have a:(((PS (s:ST) (DY p)).length:Int) !=(1:Int))=K3->(0<=(0:Int)/\(0:Int)<(PS (s:ST) (DY p)).length):=λh=>by simp at h;omega
   rw[Zb a,show(0:Int).toNat=0 from rfl];have b:((((PS (s:ST) (DY p)).length:Int) !=(1:Int))||(!(TR (Zw) ((PS (s:ST) (DY p)).getD 0 Z3) (DY p))))= !Cx (PS (s:ST) (DY p)) (DY p):=by
    simp_all[Cx,bne]
   rw[b];cases Cx (PS (s:ST) (DY p)) (DY p)
   ·rfl
   ·simp only[pI,pH,pG];rw[z0 _ _,pA,mR _ _,pA];exact fin _ (by unfold EZ;rw[hd];rfl)
  simp_all[EZ]
theorem Qxs{K:Int}(h:Wp K s)(hK:K<=1000000)(p:Qj):QB s p=W (cond (Eo s p) (CM s p) s,Eo s p,()):=by
 have c:=Qx h.pend h.e0 h.eK hK;have d:=Qx h.pT h.e0 h.eK hK;unfold QB gG bh;rw[qr h hK,pA,xh h hK,R6 h hK,pA];simp only[bc,bA,DP,pA,Cy h hK,bO];have a:(w0 s&&(Z (s.1>=0)&&Z (s.1<=2)))=(w0 s&&Z (s.1<=2)):=by
  cases hb:w0 s
  ·rfl
  ·have:=((FI h hK).1 hb).st.1;simp_all
 rw[a];have e:((((!(w0 s&&Z (s.1<=2)))|| !(!(!(w0 s&&Z (s.1<=2)))&&PW s p))||(p.2.2.1&&((s:Zaf) !=(1:Int))))||((p.2.1==([]:Ba))&&(!p.2.2.1)))= !Pg s p:=by
  grind[Pg]
 rw[e];unfold Eo;cases hg:Pg s p
 ·rfl
 ·have b:0<=(s:Zaf)/\(s:Zaf)<=3:=by
   unfold Pg at hg;simp only[pC]at hg;exact((FI h hK).1 hg.1.1.1.1).fin
  have fin:∀y:Zn,y=EZ s p->m8 p Jn y=W (CM s p,X,()):=λy f=>by
   grind(splits:=20)[m8,uB,CM,j5,Qqw,jP]
  simp only[pI,pH,pJ];cases hd:p.2.1==([]:Ba)
  ·simp only[Lq,pG,Xm,Yb,Ll];rw[LI _ _,pA,Qym,pA];unfold QC;cases Cx (PS (s:ST) (DY p)) (DY p)
   ·rfl
   ·simp only[pI,pH,pG];rw[C3 _ _,pA,BE _ _,pA];exact fin _ (by unfold EZ;rw[hd];rfl)
  simp_all[EZ]
theorem Qhs{K:Int}(h:Wp K s)(hK:K<=1000000)(p:Qj)(ho:Eo s p=X):Wp K (CM s p):=by
 obtain⟨x,a,e,hx⟩:=Qju h p hK
 grind[Qsu]
theorem Qv7{c:Bool}{x:α}:(cond c (W x) (W y))=W (cond c x y):=by cases c<;>rfl
theorem Qv6{c:Bool}{x y:α×β}:(cond c x y).1=cond c x.1 y.1:=by cases c<;>rfl
theorem ya(d:α)(pre:List α)(x:α)(rest:List α):(pre++x::rest).getD ((pre.length:Int).toNat) d=x:=by simp_all
theorem DT(pre:List α)(x:α)(rest:List α):pre++x::rest=(pre++[x])++rest:=Ac
theorem KI(pre:List α)(x:α)(rest:List α)(h:(pre++x::rest).length<=100000):K2.wrap ((pre.length:Int)+1)=(((pre++[x]).length:Nat):Int):=by grind[Zr]
theorem Iz(pre:List α)(x:α)(rest:List α):0<=(pre.length:Int)/\(pre.length:Int)<((pre++x::rest).length:Int):=Ae
theorem JC(pre:List α)(x:α)(rest:List α):Z ((pre.length:Int)<((pre++x::rest).length:Int))=true:=Zl (Iz pre x rest).2
theorem IH(pre:List α):Z ((pre.length:Int)<((pre++([]:List α)).length:Int))=false:=Zk Ac
def vC(x:Zp):Bool:=(Z (0<=x.1)&&Z (x.1<=4611686018427387903))&&(Z (0<=x.2.1.1)&&Z (x.2.1.1<=7))
def Tw:Option Int->List Zp->Bool
 |_,[]=>X
 |p,x::r=>vC x&&(match p with|none=>X|some q=>Z (q<x.1))&&Tw (W x.1) r
abbrev ac(l:List Zp):Bool:=Tw none l
theorem HQ(p:Option Int)(x:Zp)(r:List Zp):Tw p (x::r)=(vC x&&(match p with|none=>X|some q=>Z (q<x.1))&&Tw (W x.1) r):=by cases p<;>rfl
def HR(pre:List Zp):Option Int:=pre.getLast?.map (·.1)
theorem Z6w(pre:List Zp)(x:Zp):HR (pre++[x])=W x.1:=by simp[HR]
theorem Qb0(pre:List Zp)(x:Zp)(rest:List Zp)(h:0<pre.length)(hl:pre.length<=100000):0<=K2.wrap ((pre.length:Int)-1)/\K2.wrap ((pre.length:Int)-1)<((pre++x::rest).length:Int)/\
  HR pre=W ((pre++x::rest).getD (K2.wrap ((pre.length:Int)-1)).toNat Qo).1:=by
 rw[Zr];refine⟨Aa,Ae,?_⟩;have e:((pre.length:Int)-1).toNat=pre.length-1:=Aa
 rw[e,L7,List.getElem?_append_left Aa]
 grind[HR]
theorem Qht:∀(N:Nat)(pre rest:List Zp),(pre++rest).length<=100000->rest.length<N->bg N (pre++rest) (pre.length:Int)=W (Tw (HR pre) rest,())
 |0,_,_,_,h=>Aa
 |N+1,pre,[],b,g=>by
  unfold bg gG gH gM;rw[Zm (IH pre)];rfl
 |N+1,pre,x::rest,b,g=>by
  have j:pre.length<=100000:=by simp at b;omega
  unfold bg gG gH gM Q0 bF Z8;rw[Zo (JC pre x rest),Zb (Iz pre x rest)];simp only[ya,pA];rw[Zb (λ_=>Iz pre x rest)];have i:=Qht N (pre++[x]) rest (by simpa using b) (by simp at g;omega);rw[<-DT,Z6w]at i;simp only[Qv7,Qv6,pA];by_cases k:0<pre.length
  ·obtain⟨l,m,n⟩:=Qb0 pre x rest k j;by_cases hv:vC x=X
   ·have a:=hv;simp only[vC,pC,decide_eq_true_eq]at a;simp only[ge_iff_le,a.1.1,a.1.2,a.2.1,a.2.2,decide_true,Ld,pI,pH,Lc,Ll];rw[Zb (λ_ _=>Iz pre x rest),Zb (λ_ _=>⟨l,m⟩)];rw[Zl (show(pre.length:Int)>0 by omega),pJ];have o:Z (x.1<=((pre++x::rest).getD (K2.wrap ((pre.length:Int)-1)).toNat Qo).1)= !(Z (((pre++x::rest).getD (K2.wrap ((pre.length:Int)-1)).toNat Qo).1<x.1)):=by
     grind
    rw[o,HQ,n,hv,KI pre x rest b,i];generalize ((pre++x::rest).getD (K2.wrap ((pre.length:Int)-1)).toNat Qo).1=y;by_cases p:y<x.1<;>simp[p]
   ·have c:vC x=false:=by simpa using hv
    have d:((!((Z (x.1>=0))&&(Z (x.1<=4611686018427387903))))||(!(cond (!((Z (x.1>=0))&&(Z (x.1<=4611686018427387903)))) K3 ((Z (x.2.1.1>=0))&&(Z (x.2.1.1<=7))))))=true:=by
     grind[vC]
    rw[Zb (λh=>Ag),Zb (λh=>Aa),d,Bool.true_or,Zo rfl,HQ,c];simp
  ·have e:pre=[]:=L4 Aa;subst e;rw[Zb (λ_ h=>by simp at h),Zb (λ_ h=>by simp at h)];have f:Z (((([]:List Zp).length:Nat):Int)>0)=false:=Zk Ac;rw[f,Lm,Lf]
   grind[vC,KI,HQ,HR]
theorem Qgo:∀(N:Nat)(pre rest:List Zp),(pre++rest).length<=100000->rest.length<N->bd N (pre++rest) (pre++rest) ((pre++rest).length:Int) (pre.length:Int)=W (Tw (HR pre) rest,())
 |0,_,_,_,h=>Aa
 |N+1,pre,[],a,f=>by
  unfold bd gG gH gM;rw[Zm (IH pre)];rfl
 |N+1,pre,x::rest,a,f=>by
  have g:pre.length<=100000:=by simp at a;omega
  unfold bd gG gH gM Xk mj Zy;rw[Zo (JC pre x rest),Zb (Iz pre x rest)];simp only[ya,pA];have b:=Qgo N (pre++[x]) rest (by simpa using a) (by simp at f;omega);rw[<-DT,Z6w]at b;simp only[Qv7,Qv6,pA];have c:((!((Z (0<=x.1))&&(Z (x.1<=4611686018427387903))))||(!(cond (!((Z (0<=x.1))&&(Z (x.1<=4611686018427387903)))) K3 ((Z (0<=x.2.1.1))&&(Z (x.2.1.1<=7))))))= !vC x:=by
   simp_all[vC]
  simp only[c];by_cases i:0<pre.length
  ·obtain⟨j,k,l⟩:=Qb0 pre x rest i g;rw[Zb (λ_ _=>⟨j,k⟩),Zl (show(pre.length:Int)>0 by omega),pJ];have m:Z (((pre++x::rest).getD (K2.wrap ((pre.length:Int)-1)).toNat Qo).1>=x.1)= !(Z (((pre++x::rest).getD (K2.wrap ((pre.length:Int)-1)).toNat Qo).1<x.1)):=by
    grind
   rw[m,HQ,l,KI pre x rest a,b];generalize ((pre++x::rest).getD (K2.wrap ((pre.length:Int)-1)).toNat Qo).1=y;cases vC x<;>by_cases n:y<x.1<;>simp[n]
  ·have d:pre=[]:=L4 Aa;subst d;rw[Zb (λ_ h=>by simp at h)];have e:Z (((([]:List Zp).length:Nat):Int)>0)=false:=Zk Ac;rw[e,Lm,Lf,KI [] x rest a,b,HQ]
   grind[HR]
theorem Qcl(l:List Zp)(h:l.length<=100000):rq l=W (ac l,()):=by have:=Qht (dl l 0) [] l (by simpa using h) (by simp[dl]);simp_all[rq,HR]
theorem Qa9(l:List Zp)(h:l.length<=100000):k9 l=W (ac l,()):=by have:=Qgo (da l l (l.length:Int) 0) [] l (by simpa using h) (by simp[da]);simp_all[k9,HR]
theorem ON:∀(l:List Zp)(p:Option Int),Tw p l=X->(∀x,x∈l->0<=x.1/\0<=x.2.1.1/\x.2.1.1<=7/\ ∀q,p=W q->q<x.1)/\l.Pairwise (λa b=>a.1<b.1)
 |[],_,_=>⟨Ac,M7⟩
 |x::r,p,h=>by
  simp only[Tw,pC]at h;obtain⟨⟨d,i⟩,e⟩:=h;obtain⟨f,g⟩:=ON r (W x.1) e;simp only[vC,pC,decide_eq_true_eq]at d;refine⟨λy c=>?_,M6 (λy c=>(f y c).2.2.2 _ rfl) g⟩
  grind
theorem Z5q(f:Zp->Bool):∀(l:List Zp)(p:Option Int),Tw p l=X->Tw p (l.filter f)=X
 |[],_,_=>rfl
 |x::r,p,h=>by
  simp only[Tw,pC]at h;obtain⟨⟨e,g⟩,c⟩:=h;have i:=Z5q f r (W x.1) c;simp only[Mw];split
  ·simp_all[Tw]
  ·
   have b:∀(l:List Zp)(a:Int)(p:Option Int),(∀q,p=W q->q<=a)->Tw (W a) l=X->Tw p l=true:=by
    intro l a p j d;cases l with
    |nil=>rfl
    |cons y l=>
     simp only[Tw,pC,decide_eq_true_eq]at d⊢
     grind
   grind
def E4(b:Int)(l:List Zp):Int:=l.foldl (λb x=>min b x.2.1.1) b
def QU(b:Int)(x:Zp):Bool:=x.2.1.1==b
abbrev WU(l:List Zp):List Zp:=l.filter (QU (E4 7 l))
abbrev Ei(l:List Zp):List Int:=l.map (λx=>x.1)
def Hc(L:List Int)(last:Int):Int:=match L.find? (λx=>Z (x>last))with|some x=>x|none=>L.headD (-1)
theorem NP(b:Int):∀(N:Nat)(out pre rest:List Zp),(pre++rest).length<=100000->out+rest.length<=100000->rest<N->
  gy N b out (pre++rest) (pre++rest) pre=W (out++rest.filter (QU b),())
 |0,_,_,_,_,_,h=>Aa
 |N+1,out,pre,[],c,d,f=>by
  simp_all[gy]
 |N+1,out,pre,x::rest,c,d,f=>by
  have a:rest<N:=by simp at f;omega
  have g:out+1+rest.length<=100000:=by simp at d;omega
  unfold gy;rw[Zo (JC pre x rest),Zb (Iz pre x rest)];simp only[ya];rw[KI pre x rest c,Zb Aj];have e:=DT pre x rest;by_cases h:QU b x=X
  ·rw[Zo (show(x.2.1.1==b)=X from h),e,NP b N (out++[x]) (pre++[x]) rest (by simpa using c) Ae a];simp[h]
  ·have h:QU b x=false:=by simpa using h
   rw[Zm (show(x.2.1.1==b)=K3 from h),e,NP b N out (pre++[x]) rest (by simpa using c) Aa a];simp[h]
theorem Qh3(l0:List Zp):∀(N:Nat)(b:Int)(out pre rest:List Zp),(pre++rest).length<=100000->rest<N->
  ph N l0 b out (pre++rest) (pre++rest) pre=gy (oB (E4 b rest) out l0 l0 (0:Int)) (E4 b rest) out l0 l0 (0:Int)
 |0,_,_,_,_,_,h=>Aa
 |N+1,b,out,pre,[],a,c=>by
  unfold ph gH gM;rw[Zm (IH pre)];rfl
 |N+1,b,out,pre,x::rest,a,c=>by
  unfold ph gH gM;rw[Zo (JC pre x rest),Zb (Iz pre x rest)];simp only[ya];rw[KI pre x rest a,DT pre x rest,Qh3 l0 N _ out (pre++[x]) rest (by simpa using a) (by simp at c;omega)];rfl
theorem Qj2(l:List Zp)(h:l.length<=100000):sY l=W (WU l,()):=by
 have a:=Qh3 l (oA l 7 [] l l 0) 7 [] [] l (by simpa using h) (by simp[oA])
 grind[NP,oB,sY]
def BM(l:List Zp):List Int:=cond (ac l) (Ei (WU l)) []
theorem QV:∀(N:Nat)(out:List Int)(b:Int)(pre rest:List Zp),(pre++rest).length<=100000->ac (pre++rest)=X->out=Ei (pre.filter (QU b))->(∀x,x∈pre->b<=x.2.1.1)->rest<N->
  ai N (pre++rest) out b pre=W (Ei ((pre++rest).filter (QU (E4 b rest))),())
 |0,_,_,_,_,_,_,_,_,h=>Aa
 |N+1,out,b,pre,[],a,f,j,k,g=>by
  simp_all[ai,E4]
 |N+1,out,b,pre,x::rest,a,f,j,k,g=>by
  have c:rest<N:=by simp at g;omega
  have m:pre.length<=100000:=by simp at a;omega
  have l:out.length<=100000:=Ag
  unfold ai rA gH gM rz;simp only[JC pre x rest,pG,Qcl _ a,pA,f,Ld,ya];rw[Zb (Iz pre x rest)];have e:=DT pre x rest;by_cases h:x.2.1.1<b
  ·rw[Zo (Zl h),Zb (Iz pre x rest),Zb (Iz pre x rest),Zo Ac,Zb (Iz pre x rest),Zb (by unfold Qg;simp),Ma,KI pre x rest a,e,
    QV N [x.1] x.2.1.1 (pre++[x]) rest (by simpa using a) Ag ?_ ?_ c]
   ·grind[E4]
   ·grind[QU,Mh]
   grind
  ·rw[Zm (Zk h),Zb (Iz pre x rest)];have i:E4 b (x::rest)=E4 b rest:=by grind[E4]
   have d:∀y,y∈pre++[x]->b<=y.2.1.1:=λy n=>by
    grind
   by_cases hx:QU b x=X
   ·rw[Zo (show(x.2.1.1==b)=X from hx),Zb (Iz pre x rest),Zb Aj,KI pre x rest a,e,i,
     QV N (out++[x.1]) b (pre++[x]) rest (by simpa using a) Ag Ag d c]
   ·have hx:QU b x=false:=by simpa using hx
    rw[Zm (show(x.2.1.1==b)=K3 from hx),KI pre x rest a,e,i,QV N out b (pre++[x]) rest (by simpa using a) Ag Ag d c]
theorem Qwy(l:List Zp)(h:ac l=X):l.filter (QU (E4 8 l))=WU l:=by
 cases l with
 |nil=>rfl
 |cons x r=>
  have:=(ON _ _ h).1 x Ac
  grind[E4]
theorem Qi3(l:List Zp)(h:l.length<=100000):y8 l=W (BM l,()):=by
 unfold y8 BM;by_cases a:ac l=X
 ·have:=QV (cH l [] 8 0) [] 8 [] l (by simpa using h) a rfl Ac (by simp[cH]);simp_all[Qwy]
 simp_all[cH,ai,Qcl]
theorem Z08(last:Int):∀(N:Nat)(pre rest:List Int),(pre++rest).length<=100000->rest<N->kW N (pre++rest) last pre=W ((match rest.find? (λx=>Z (x>last))with|some x=>x|none=>(pre++rest).headD (-1)),())
 |0,_,_,_,h=>Aa
 |N+1,pre,[],a,b=>by
  unfold kW gH;rw[Zm (IH pre)];cases pre with
  |nil=>rfl
  |cons y pre=>
   rw[Zm (beq_eq_false_iff_ne.2 Ag),Zb ⟨Mt 0,Af⟩];rfl
 |N+1,pre,x::rest,a,b=>by
  unfold kW gH;rw[Zo (JC pre x rest),Zb (Iz pre x rest)];simp only[ya,Mi];rw[KI pre x rest a];by_cases h:x>last
  ·rw[Zo (Zl h),Zb (Iz pre x rest),Zl h]
  ·rw[Zm (Zk h),Zk h,DT pre x rest,Z08 last N (pre++[x]) rest (by simpa using a) (by simp at b;omega)]
theorem Qkj(l:List Int)(last:Int)(h:l.length<=100000):JI l last=W (Hc l last,()):=by have:=Z08 last (l8 l last 0) [] l (by simpa using h) (by simp[l8]);simp_all[JI,Hc]
theorem Zi9(l0:List Zp)(last:Int)(h0:0<l0.length):∀(N:Nat)(pre rest:List Zp),(pre++rest).length<=100000->rest<N->
  iH N l0 last (pre++rest) (pre++rest) pre=W ((match(Ei rest).find? (λx=>Z (x>last))with|some x=>x|none=>(Ei l0).headD (-1)),())
 |0,_,_,_,h=>Aa
 |N+1,pre,[],a,b=>by
  unfold iH gH gM;rw[Zm (IH pre),Zb];cases l0 with
  |nil=>simp at h0
  |cons y l0=>rfl
 |N+1,pre,x::rest,a,b=>by
  unfold iH gH gM;rw[Zo (JC pre x rest),Zb (Iz pre x rest)];simp only[ya,Mz,Mi];rw[KI pre x rest a];by_cases h:x.1>last
  ·simp_all
  ·rw[Zm (Zk h),Zk h,DT pre x rest,Zi9 l0 last h0 N (pre++[x]) rest (by simpa using a) (by simp at b;omega)]
def Tp(l:List Zp)(last:Int):Int:=cond (ac l) (Hc (Ei l) last) (-1)
theorem Qep(l:List Zp)(last:Int)(h:l.length<=100000):ZY l last=W (Tp l last,()):=by
 unfold ZY gG Tp;by_cases a:l.length=0
 ·have:=L4 a;subst this;rfl
 ·have b:((l:Int)==0)=false:=beq_eq_false_iff_ne.2 Aa;simp only[b,pH,Qa9 l h,pA,Ll];cases ac l
  ·rfl
  ·have:=Zi9 l last Aa (j8 l last l l 0) [] l (by simpa using h) (by simp[j8]);simp_all[Hc]
def UX(x:Zp):Bool:=x.2.1.2.1
def ko(l:List Zp)(last:Int):Int:=cond (ac l) (match(WU l).find? (λx=> !UX x)with|some x=>x.1|none=>Hc (Ei (WU l)) last) (-1)
theorem Zk5(last:Int):∀(N:Nat)(pre rest:List Zp),(pre++rest).length<=100000->rest<N->
  fd N last (pre++rest) (pre++rest) pre=W ((match rest.find? (λx=> !UX x)with|some x=>x.1|none=>Tp (pre++rest) last),())
 |0,_,_,_,h=>Aa
 |N+1,pre,[],a,b=>by
  simp_all[fd,Qep]
 |N+1,pre,x::rest,a,b=>by
  unfold fd;rw[Zo (JC pre x rest),Zb (Iz pre x rest)];simp only[ya,Mi];rw[KI pre x rest a];cases h:UX x
  ·simp_all[UX]
  ·rw[Zm (by simp_all[UX]),DT pre x rest,Zk5 last N (pre++[x]) rest (by simpa using a) (by simp at b;omega)];rfl
theorem Qi9(l:List Zp)(last:Int)(h:l.length<=100000):yM l last=W (ko l last,()):=by
 unfold yM gG ko;by_cases a:l.length=0
 ·have:=L4 a;subst this;rfl
 ·have b:((l:Int)==0)=false:=beq_eq_false_iff_ne.2 Aa;simp only[b,pH,Qa9 l h,pA,Ll];cases ha:ac l
  ·rfl
  ·rw[pI,Zm rfl,Qj2 l h,pA];have c:(WU l).length<=100000:=Lg (Lz _ _) h;have:=Zk5 last (iG last (WU l) (WU l) 0) [] (WU l) (by simpa using c) (by simp[iG]);simp_all[Z5q,Tp]
theorem Z29(K1:(List Zp×Int×List Int×List Int×Int×Unit)->Oa Int)(l:List Zp)(last:Int)(i:Nat)(hi:i<l)(hl:l.length<=100000):
  ∀(N:Nat)(some0 preM restM:List Int),(preM++restM).length<=100000->some0+restM.length<=200000->restM.Nodup->restM<N->
  bY K1 N l last (preM++restM) some0 (i:Int) preM=
   bif Z ((l.getD (i:Int).toNat Qo).1∈restM)&& !UX (l.getD (i:Int).toNat Qo)then W ((l.getD (i:Int).toNat Qo).1,())
   else K1 (l,last,preM++restM,some0++(ite ((l.getD (i:Int).toNat Qo).1∈restM) [(l.getD (i:Int).toNat Qo).1] []),((i+1:Nat):Int),())
 |0,_,_,_,_,_,_,h=>Aa
 |N+1,some0,preM,[],a,g,d,f=>by
  unfold bY gH gM;rw[Zm (IH preM),Zs hi];simp
 |N+1,some0,preM,y::restM,a,g,d,f=>by
  have b:restM<N:=by simp at f;omega
  have c:=List.nodup_cons.1 d;unfold bY gH gM rB;rw[Zo (JC preM y restM),Zb (Iz preM y restM),Zb];simp only[ya];rw[Zb (λ_=>Aa)];generalize hx:l.getD (i:Int).toNat Qo=x;have e:=DT preM y restM;have j:=λsome0 h=>Z29 K1 l last i hi hl N some0 (preM++[y]) restM (by simpa using a) h c.2 b;rw[hx,<-e]at j;rw[KI preM y restM a,Zb (Iz preM y restM),Zb,Zb,Zb,Zb Aj];by_cases k:y=x.1
  ·subst k;simp only[beq_self_eq_true,pJ,L0,true_or,decide_true];cases hxi:UX x
   ·rw[Zo (by grind[UX])];rfl
   ·rw[Zm (by grind[UX]),Zo rfl]
    grind
  grind
def IF(m:List Int)(x:Zp):Bool:=Z (x.1∈m)
theorem Z28(last:Int)(m:List Int)(hmn:m.Nodup)(hml:m.length<=100000):∀(N:Nat)(some0:List Int)(pre rest:List Zp),(pre++rest).length<=100000->some0.length+rest.length<=100000->rest.length<N->
  bX N (pre++rest) last m some0 (pre.length:Int)=W ((match(rest.filter (IF m)).find? (λx=> !UX x)with|some x=>x.1|none=>Hc (some0++Ei (rest.filter (IF m))) last),())
 |0,_,_,_,_,_,h=>Aa
 |N+1,some0,pre,[],a,d,f=>by
  simp_all[bX,Qkj]
 |N+1,some0,pre,x::rest,a,d,f=>by
  have b:rest.length<N:=by simp at f;omega
  have g:pre.length<(pre++x::rest).length:=Ac
  unfold bX;rw[Zo (JC pre x rest)];have c:=Z29 (λv=>bX N v.1 v.2.1 v.2.2.1 v.2.2.2.1 v.2.2.2.2.1) (pre++x::rest) last pre.length g a (iX (pre++x::rest) last m some0 (pre.length:Int) 0) some0 [] m (by simpa using hml) (by simp at d;omega) hmn (by simp[iX]);simp only[Ma,Li,ya]at c;rw[show((0:Nat):Int)=0 from rfl]at c;rw[c];have e:=DT pre x rest;have i:((pre.length+1:Nat):Int)=(((pre++[x]).length:Nat):Int):=Ac
  have j:=λsome0 h=>Z28 last m hmn hml N some0 (pre++[x]) rest (by simpa using a) h b;rw[<-e]at j;rw[i];by_cases hx:x.1∈m
  ·have k:(x::rest).filter (IF m)=x::rest.filter (IF m):=by simp[IF,hx]
   grind
  grind(splits:=20)[IF]
theorem Qnl:∀{l:List Zp},l.Pairwise (λa b=>a.1<b.1)-> ∀{x y:Zp},x∈l->y∈l->x.1=y.1->x=y
 |[],_,_,_,h,_,_=>by cases h
 |z::l,c,x,y,hx,d,e=>by
  obtain⟨g,f⟩:=List.pairwise_cons.1 c;rcases L0.1 hx with hx'|hx'<;>rcases L0.1 d with hy'|hy'
  ·rw[hx',hy']
  ·grind
  ·grind
  ·exact Qnl f hx' hy' e
theorem Qdx(h:l.Pairwise (λa b=>a.1<b.1)):(Ei l).Pairwise (· < ·):=List.pairwise_map.2 h
theorem Qfn(h:ac l=X):(Ei (WU l)).Pairwise (· < ·):=Qdx ((ON _ _ h).2.filter _)
theorem Qbp(l:List Zp):(BM l).Nodup:=by
 unfold BM;cases h:ac l
 all_goals grind[Qfn]
theorem Qqc(h:ac l=X){x:Zp}(hx:x∈l):x.1∈Ei (WU l)↔QU (E4 7 l) x=true:=by
 constructor
 ·intro b;obtain⟨y,c,e⟩:=List.mem_map.1 b;obtain⟨a,d⟩:=Mk.1 c;have:=Qnl (ON _ _ h).2 hx a e.symm;simp_all
 grind
theorem Qja(l:List Zp)(last:Int)(h:l.length<=100000):y9 l last=W (ko l last,()):=by
 unfold y9 ko;rw[Qi3 l h,pA];have a:(BM l).length<=100000:=by
  unfold BM
  grind
 have:=Z28 last (BM l) (Qbp l) a (iW l last (BM l) [] 0) [] [] l (by simpa using h) (by simpa using h) (by simp[iW]);simp only[Ma,Li]at this;rw[show((0:Nat):Int)=0 from rfl]at this;simp only[];rw[this];cases ha:ac l
 ·have b:l.filter (IF (BM l))=[]:=Mh.2 λx _=>by simp[IF,BM,ha]
  rw[b];rfl
 ·have b:l.filter (IF (BM l))=WU l:=List.filter_congr λx hx=>by
   rw[L2];simp_all[IF,BM,Qqc]
  rw[b];rfl
theorem Qmu(b:Int):∀(l:List Zp)(b:Int),E4 b l<=b/\ ∀x,x∈l->E4 b l<=x.2.1.1
 |[],b=>⟨Mt _,Ac⟩
 |y::l,b=>by
  obtain⟨a,c⟩:=Qmu b l (min b y.2.1.1);have e:E4 b (y::l)=E4 (min b y.2.1.1) l:=rfl
  grind
theorem Qg3:∀(l:List Zp)(b:Int),E4 b l=b\/ ∃x,x∈l/\x.2.1.1=E4 b l
 |[],b=>.inl rfl
 |y::l,b=>by
  have e:E4 b (y::l)=E4 (min b y.2.1.1) l:=rfl;rw[e];rcases Qg3 l (min b y.2.1.1)with h|⟨x,hx,h⟩
  all_goals grind
theorem Qvz(h:ac l=X)(h0:l≠[]):WU l≠[]:=by
 obtain⟨a,b⟩:=Qmu 7 l 7;have c:∃x,x∈l/\x.2.1.1=E4 7 l:=by
  rcases Qg3 l 7 with e|e
  ·cases l with
   |nil=>simp_all
   |cons x l=>
    have:=((ON _ _ h).1 x Ac).2.2.1
    grind
  ·exact e
 grind[Mh,QU]
theorem Qh9{L:List Int}(h:L≠[])(last:Int):Hc L last∈L:=by
 unfold Hc;split
 ·grind
 ·cases L with
  |nil=>simp_all
  |cons y L=>simp
theorem Qi7(h:ac l=X)(h0:l≠[])(last:Int):ko l last∈Ei (WU l):=by
 unfold ko;rw[h,pG]
 grind(splits:=20)[Qh9,Qvz,List.map_eq_nil_iff]
theorem Qi8(last:Int):ko [] last= -1:=rfl
def R5(s:Zh):Bool:=((s:Zak)&&Z (s.2.1.1<(3:Int)))&&(Z ((s:ZaF).1>(0:Int))||((s:ZaV).2.1==(1:Int)))
abbrev PI(s:Zh):Zp:=(s.1,(s:Zaz),())
def CR(c:Zf):List Zp:=((c:Id).filter R5).map PI
def NF(sk:List Int)(x:Zp):Bool:=sk.all λi=>x.1 !=i
def ZE(c:Zf)(sk:List Int):List Zp:=(CR c).filter (NF sk)
theorem Qcz(c:Zf):(CR c)<=(c:Id).length:=by simp_all[CR,Lz]
theorem Qy9(hl:(c:Id).length<=1000000):zc c=W (CR c,()):=by
 have g:∀(N i:Nat),(c:Id)-i<N->i<=(c:Id)-> ∀o:List Zp,o<=i->fM N c o (i:Int)=W (o++(((c:Id).drop i).filter R5).map PI,()):=by
  intro N
  induction N with
  |zero=>intro i h;omega
  |succ N e=>
   intro i j k o l;unfold fM gH gJ;by_cases f:i<(c:Id)
   ·rw[Zo (Zl),Zb,show(i:Int).toNat=i from rfl,Q1 (d:=Zc) f];unfold rJ;simp only;rw[Zs f];by_cases a:R5 ((c:Id).getD i Zc)=X
    ·have b:=a;unfold R5 at a;rw[Zo a,Zb Aj,e (i+1) Aa Aa _ Ae,L5 b];simp
    ·have b:=a;have a:R5 ((c:Id).getD i Zc)=false:=by simpa using a
     unfold R5 at a;rw[Zm a,e (i+1) Aa Aa _ Aa,List.filter_cons_of_neg b]
   grind
 grind[zc,qm,CR]
theorem Qok(hl:l.length<=1000000)(n:Int):mK l n=W (l.filter (λx=>x.1 !=n),()):=by
 have e:∀(N i:Nat),l-i<N->i<=l-> ∀o:List Zp,o<=i->Vw N l n o (i:Int)=W (o++(l.drop i).filter (λx=>x.1 !=n),()):=by
  intro N
  induction N with
  |zero=>intro i h;omega
  |succ N c=>
   intro i f g o j;unfold Vw gH gM;by_cases a:i<l
   ·rw[Zo (Zl),Zb,show(i:Int).toNat=i from rfl,Q1 (d:=Qo) a];unfold fN;simp only;rw[Zs a];by_cases b:((l.getD i Qo).1 !=n)=X
    ·rw[Zo b,Zb,Zb Aj,c (i+1) Aa Aa _ Ae,L5 (p:=λx:Zp=>x.1 !=n) b];simp
    grind
   grind
 grind[mK,iZ]
theorem Zx6(l:List Int)(hl:l.length<=1000000)(n:Int):∀(N i:Nat),l-i<N->i<=l-> ∃v,cv N l n l (i:Int)=W (v,())/\Z (v>=0)= !(l.drop i).all λi=>n !=i
 |0,_,h,_=>Aa
 |N+1,i,b,c=>by
  unfold cv gH;by_cases a:i<l
  ·rw[Zo (Zl),Zb,show(i:Int).toNat=i from rfl,Q1 (d:=0) a,Zs a];by_cases e:n=l.getD i 0
   ·refine⟨(i:Int),Af,?_⟩
    grind
   ·obtain⟨v,f,g⟩:=Zx6 l hl n N (i+1) Aa Aa
    grind
  simp_all[Zk,Ln]
theorem Qif{l:List Int}(hl:l.length<=1000000)(n:Int):iQ l n=W (!(l.all λi=>n !=i),()):=by unfold iQ v9;obtain⟨v,a,b⟩:=Zx6 l hl n (bE l n l 0) 0 (by simp[bE]) Aa;simp_all
theorem Qy8(hl:(c:Id).length<=1000000)(h0:∀s∈(c:Id),0<=s.2.1.1)(hk:sk.length<=1000000):OY c sk=W (ZE c sk,()):=by
 have m:∀(N i:Nat),(c:Id).length-i<N->i<=(c:Id).length-> ∀o:List Zp,o.length<=i->mr N sk o (c:Id) ((c:Id).length:Int) (i:Int)=W (o++((((c:Id).drop i).filter R5).map PI).filter (NF sk),()):=by
  intro N
  induction N with
  |zero=>intro i h;omega
  |succ N g=>
   intro i n q o r;unfold mr gH gJ;by_cases a:i<(c:Id).length
   ·rw[Zo (Zl),Zb,show(i:Int).toNat=i from rfl,Q1 (d:=Zc) a,Zs a];have t:=h0 _ (Z7 (d:=Zc) a);generalize (c:Id).getD i Zc=s at*
    simp only[bc,Qif hk,bA,DP];rw[Zl (p:=s.2.1.1>=0),pJ];have j:Z (s.2.1.1<=2)=Z (s.2.1.1<3):=Ag
    rw[j];have k:(((s:Zak)&&Z (s.2.1.1<3))&&(Z (((s:ZaF).1.length:Int)>0)||((s:ZaV).2.1==1)))=R5 s:=rfl;rw[k];by_cases e:R5 s=X
    ·have l:(s::List.drop (i+1) (c:Id)).filter R5=s:: (List.drop (i+1) (c:Id)).filter R5:=L5 e;rw[l,Mz,e,pJ,pJ,Me];by_cases f:NF sk (PI s)=X
     ·have b:(sk.all λi=>s.1 !=i)=true:=f;rw[b,pG,Zb Aj,g (i+1) Aa Aa _ Ae,L5 f];simp
     grind(splits:=20)[NF]
    grind
   grind
 grind[OY,vn,ZE,CR]
theorem Qei(h:0<=ko l last):ac l=X/\ ∃x∈WU l,x.1=ko l last:=by
 have a:ac l=true:=by
  cases e:ac l
  all_goals simp_all[ko]
 grind[Qi8,Qi7]
theorem Qrd{x:Zp}(h:x∈ZE c sk):(∃s∈(c:Id),R5 s=X/\x=PI s)/\NF sk x=true:=by grind[ZE,CR]
theorem Tv(hl:(c:Id).length<=1000000)(h:0<=ko (ZE c sk) last:=by omega):0<=Qe (c:Id) (ko (ZE c sk) last):=by
 obtain⟨-,x,hx,e⟩:=Qei h;obtain⟨⟨s,a,-,b⟩,-⟩:=Qrd (Mk.1 hx).1;rw[<-e,b];by_cases d:0<=Qe (c:Id) (PI s).1
 ·exact d
 ·exact absurd rfl ((rN hl (PI s).1).2.1 Aa s a)
def OV(c:Zf)(id:Int):Zf:=(c.1,c.2.1,c.2.2.1,(c:Id).set (Qe (c:Id) id).toNat (((c:Id).getD (Qe (c:Id) id).toNat Zc).1,((c:Id).getD (Qe (c:Id) id).toNat Zc).2.1,UM ((c:Id).getD (Qe (c:Id) id).toNat Zc:LE),((c:Id).getD (Qe (c:Id) id).toNat Zc).2.2.2),UM (c:Zah),(c:Zbv))
theorem YJ(h:Qb K c)(hK:K<=1000000)(hi:0<=Qe (c:Id) id):JJ c id=W ((),OV c id,())/\Qb K (OV c id):=by
 have e:=h.str.len;obtain⟨f,-,g⟩:=rN (l:=(c:Id)) Aa id;have a:=h.str.all _ (Z7 (d:=Zc) (show(Qe (c:Id) id).toNat<(c:Id) by omega));have b:Xx K (((c:Id).getD (Qe (c:Id) id).toNat Zc).1,((c:Id).getD (Qe (c:Id) id).toNat Zc).2.1,UM ((c:Id).getD (Qe (c:Id) id).toNat Zc:LE),((c:Id).getD (Qe (c:Id) id).toNat Zc).2.2.2):=⟨a.snd,a.rcv⟩
 refine⟨?_,h.str.set b _,h.pk⟩;unfold JJ tP;rw[dV h hK,if_pos hi];simp only[pA,nbE];rw[AD h.str b hK Af];simp_all[OV]
def Sl(c:Jl)(n:Int):Bool:= !(((!Oi c)||Z (n<0))||Z (n>K2.wrap (c.1-c.2.1)))
def CA(c:Jl)(n:Int):Jl:=cond (Sl c n) (c.1,K2.wrap (c.2.1+n),c.2.2) c
theorem ucE(c:Jl)(n:Int):lM c n=W (CA c n,Sl c n,()):=by grind[lM,CA,Sl,Hr]
abbrev TU(c:Zf)(id:Int):Zh:=(c:Id).getD (Qe (c:Id) id).toNat Zc
def wZ(s:Zn)(p:Qj):Zn:=cond (Eo s p) (CM s p) s
def Cb(c:Zf)(id:Int)(p:Qj):Int:=K2.wrap ((wZ (TU c id).2.1 p:Zal)- (TU c id:Zba))
def UP(c:Zf)(id:Int)(p:Qj):Bool:=((bJ c&&Z (0<=Qe (c:Id) id))&&(TU c id:Zak))&&((Eo (TU c id).2.1 p&&Sl (TU c id:LE) (Cb c id p))&&Sl (c:Zah) (Cb c id p))
def Te(c:Zf)(id:Int)(p:Qj):Zf:=(c.1,c.2.1,c.2.2.1,(c:Id).set (Qe (c:Id) id).toNat ((TU c id).1,CM (TU c id).2.1 p,CA (TU c id:LE) (Cb c id p),(TU c id).2.2.2),CA (c:Zah) (Cb c id p),(c:Zai),(c:Zar),(c:Zaq),(c:Zay),(c:Zav),(c:ZaZ).2.1,(c:ZaB).1,(c:ZaB).2.1,id,(c:ZaN).2)
theorem IS(h:Qb K c)(hK:K<=1000000){p:Qj}(ho:UP c id p=X):Qb K (Te c id p):=by have e:=h.str.len;obtain⟨f,-,g⟩:=rN (l:=(c:Id)) Aa id;unfold UP at ho;simp only[pC,decide_eq_true_eq]at ho;obtain⟨⟨⟨-,i⟩,-⟩,⟨b,-⟩,-⟩:=ho;have a:=h.str.all _ (Z7 (d:=Zc) (show(Qe (c:Id) id).toNat<(c:Id) by omega));exact⟨h.str.set (by exact⟨Qhs a.snd (by omega) p b,a.rcv⟩) _,h.pk⟩
theorem Qea(h:Qb K c)(hK:K<=1000000)(id:Int)(p:Qj):XO c id p=W (cond (UP c id p) (Te c id p) c,UP c id p,()):=by
 have j:=h.str.len;obtain⟨k,-,m⟩:=rN (l:=(c:Id)) Aa id;unfold XO tQ;rw[Y8 h hK,pA,dV h hK,pA,GI h hK,pA];by_cases e:0<=Qe (c:Id) id
 ·rw[if_pos e];have a:=h.str.all _ (Z7 (d:=Zc) (show(Qe (c:Id) id).toNat<(c:Id) by omega));have f:UP c id p=((bJ c&&(TU c id:Zak))&&((Eo (TU c id).2.1 p&&Sl (TU c id:LE) (Cb c id p))&&Sl (c:Zah) (Cb c id p))):=by
   simp_all[UP]
  rw[f];simp only[pI,Lf];cases hc:bJ c
  ·rfl
  ·cases hcs:(TU c id:Zak)
   ·rfl
   ·simp only[pI,Lc,pH,Ld,pJ];rw[Qsu a.snd Aa,pA];simp only[ucE,pA];have g:(cond (Eo (TU c id).2.1 p) (CM (TU c id).2.1 p) (TU c id).2.1)=wZ (TU c id).2.1 p:=rfl;have i:K2.wrap ((wZ (TU c id).2.1 p:Zal)- (TU c id:Zba))=Cb c id p:=rfl;rw[g,i];cases ho:Eo (TU c id).2.1 p
    ·rfl
    ·cases hu:Sl (TU c id:LE) (Cb c id p)
     ·rfl
     ·cases hv:Sl (c:Zah) (Cb c id p)
      ·rfl
      ·simp only[pI,Lc,pH,Ld,pG];have hx:Xx K ((TU c id).1,CM (TU c id).2.1 p,CA (TU c id:LE) (Cb c id p),(TU c id).2.2.2):=⟨Qhs a.snd Aa p ho,a.rcv⟩
       have b:wZ (TU c id).2.1 p=CM (TU c id).2.1 p:=Af
       rw[b,AD h.str hx hK Af,pA];simp_all[Te]
 simp_all[if_neg,UP,Zk]
theorem Qd9(h:Qb K c)(hK:K<=1000000)(id:Int)(p:Qj):ZU c id p=W (cond (UP c id p) (Te c id p) c,UP c id p,()):=by
 have j:=h.str.len;obtain⟨k,-,m⟩:=rN (l:=(c:Id)) Aa id;unfold ZU;simp only[Xm,Yb];rw[V6 h hK,pA,uT Aa,YA Aa,pA];unfold uz gH gJ;simp only[Xm,Yb];rw[KX h hK,GI h hK,pA];by_cases n:0<=Qe (c:Id) id
 ·rw[Zk (p:=Qe (c:Id) id<0),Zb (λ_=>Aa)];have b:=h.str.all _ (Z7 (d:=Zc) (show(Qe (c:Id) id).toNat<(c:Id).length by omega));have e:UP c id p=((bJ c&&(TU c id:Zak))&&((Eo (TU c id).2.1 p&&Sl (TU c id:LE) (Cb c id p))&&Sl (c:Zah) (Cb c id p))):=by
   simp_all[UP]
  rw[e];simp only[Lf];cases hc:bJ c
  ·rfl
  ·cases hcs:(TU c id:Zak)
   ·rfl
   ·simp only[pI,Lc,pH,Ld,pJ];rw[Zb,Qxs b.snd Aa,pA];unfold ZV gJ tP tQ tT;simp only[Qfo,ucE,pA];have f:(cond (Eo (TU c id).2.1 p) (CM (TU c id).2.1 p) (TU c id).2.1)=wZ (TU c id).2.1 p:=rfl;have g:K2.wrap ((wZ (TU c id).2.1 p:Zal)- (TU c id:Zba))=Cb c id p:=rfl;rw[f,g,V6 h hK,pA];cases ho:Eo (TU c id).2.1 p
    ·rfl
    ·cases hu:Sl (TU c id:LE) (Cb c id p)
     ·rfl
     ·cases hv:Sl (c:Zah) (Cb c id p)
      ·rfl
      ·simp only[pI,Lc,pH,Ld,pG];have a:wZ (TU c id).2.1 p=CM (TU c id).2.1 p:=Af
       have i:∀x:Zh,((c:Id).set (Qe (c:Id) id).toNat x).getD (Qe (c:Id) id).toNat Zc=x:=λx=>by
        rw[L7,My Aa];rfl
       rw[a,i,Lv];rfl
 grind(splits:=20)[UP,Zb]
def GY(c:Jl):Bool:=Oi c&&(c.2.2.1==c.1)
theorem mtE(c:Jl):yA c=W (GY c,()):=by unfold yA;rw[Hr];rfl
abbrev B7(k st lim:Int)(uni:Bool):Zj:=(k,st,(0:Int),([]:Ba),K3,(0:Int),lim,(0:Int),uni,())
abbrev frR(s:Zh):Zj:=((4:Int),s.1,(0:Int),([]:Ba),K3,(s:ZaV).2.2.2.1,(0:Int),(s:Zba),K3,())
abbrev Oy(s:Zh):Zj:=((5:Int),s.1,(0:Int),([]:Ba),K3,(s:Zaw).1,(0:Int),(0:Int),K3,())
def FQ(c:Zf)(s:Zh):Qp:=cond (OQ s) (AL (s:Fn) (Rp c) (G8 c)) (s:Fn)
def PB(c:Zf)(s:Zh):Bool:=OQ s&&(cond (FF (s:Fn)) (Dj (s:Fn) (Rp c) (G8 c)) (s:ZaX).1)
def B2(s:Zh):Bool:=(GY (s:LE)&&(s:Zak))&&Z ((s:ZaF).1>(0:Int))
def Bm(c:Zf)(s:Zh):List Zj:=(cond (s:ZaE).1 [frR s] [])++(cond ((s:ZaS)&&Z ((s:Zat)<(2:Int))) [Oy s] [])++(cond (PB c s) [B7 17 s.1 (FQ c s).2.2.1 K3] [])++(cond (B2 s) [B7 21 s.1 (s:LE).1 K3] [])
theorem CY{a b:List Zj}(h:a+b.length<=1000000):a+b<=Qg:=Aj
theorem sfE(c:Zf)(s:Zh):ql c s=W (Bm c s,()):=by
 have b:∀o:List Zj,o.length<=10->nL s o=W (o++(cond (B2 s) [B7 21 s.1 (s:LE).1 K3] []),()):=λo a=>by
  unfold nL;rw[mtE,pA];cases h:B2 s
  ·simp_all[B2,Zm]
  ·unfold B2 at h;rw[Zo h,pG]
   grind[Zb,CY]
 have d:∀o:List Zj,o.length<=9->dC c s o=W (o++(cond (PB c s) [B7 17 s.1 (FQ c s).2.2.1 K3] [])++(cond (B2 s) [B7 21 s.1 (s:LE).1 K3] []),()):=λo a=>by
  unfold dC;rw[lwE,pA];cases h:PB c s
  ·unfold PB at h
   grind
  ·unfold PB at h;rw[Zo h,pG];simp only;rw[Zb (CY Ae),b _ Ae];rfl
 have e:∀o:List Zj,o.length<=8->dB c s o=W (o++(cond ((s:ZaS)&&Z ((s:Zat)<(2:Int))) [Oy s] [])++(cond (PB c s) [B7 17 s.1 (FQ c s).2.2.1 K3] [])++(cond (B2 s) [B7 21 s.1 (s:LE).1 K3] []),()):=λo a=>by
  unfold dB;cases h:(s:ZaS)&&Z ((s:Zat)<(2:Int))
  ·grind
  ·rw[pG,pG];simp only;rw[Zb (CY Ae),d _ Ae]
 unfold ql Bm;cases (s:ZaE).1
 ·simp_all
 ·rw[pG,pG];simp only;rw[Zb (CY Ac),e _ Ac];rfl
theorem Qho(c:Zf)(s:Zh):(Bm c s).length<=4:=by unfold Bm;cases (s:ZaE).1<;>cases (s:ZaS)&&Z ((s:Zat)<(2:Int))<;>cases PB c s<;>cases B2 s<;>simp
def FV(c:Zf):Bool:=cond (FF (c:Zai)) (Dj (c:Zai) (Rp c) (G8 c)) (c:ZaZ).2.1
def NM(a:Qq)(t:Bool):Bool:=cond (Hd a) (AR a) t
def Rd(c:Zf):List Zj:=(cond (FV c) [B7 16 0 (AL (c:Zai) (Rp c) (G8 c)).2.2.1 K3] [])++(cond (NM (c:Zay) (c:ZaB).1) [B7 18 0 (Gr (c:Zay)).2.1 K3] [])++(cond (NM (c:Zav) (c:ZaB).2.1) [B7 18 0 (Gr (c:Zav)).2.1 X] [])
def C0(c:Zf):List Zj:=(cond (GY (c:Zah)) [B7 20 0 (c:Zah).1 K3] [])++(cond ((c:Zar).2.2.1==(c:Zar).1) [B7 22 0 (c:Zar).1 K3] [])++(cond ((c:Zaq).2.2.1==(c:Zaq).1) [B7 22 0 (c:Zaq).1 X] [])
def Rg(c:Zf):List Zj:=cond (bJ c&& !((c:ZaG) !=(0:Int))) (Rd c++(c:Id).flatMap (Bm c)++C0 c) []
theorem Qwc(h:Qb K c)(hK:K<=100000:=by omega):fC c=W (Rg c,()):=by
 have m:=h.str.len;unfold fC Rg;rw[LM h,pA];cases hc:bJ c&& !((c:ZaG) !=(0:Int))
 ·rfl
 ·simp only[pI,pH,pG];have n:∀o:List Zj,o.length<=900005->eX c o=W (o++(cond ((c:Zaq).2.2.1==(c:Zaq).1) [B7 22 0 (c:Zaq).1 X] []),()):=λo a=>by
   unfold eX;cases (c:Zaq).2.2.1==(c:Zaq).1
   ·simp_all
   ·rw[pG,pG]
    grind[Zb,CY]
  have e:∀o:List Zj,o.length<=900004->eW c o=W (o++(cond ((c:Zar).2.2.1==(c:Zar).1) [B7 22 0 (c:Zar).1 K3] [])++(cond ((c:Zaq).2.2.1==(c:Zaq).1) [B7 22 0 (c:Zaq).1 X] []),()):=λo a=>by
   unfold eW;cases (c:Zar).2.2.1==(c:Zar).1
   ·grind
   ·rw[pG,pG]
    grind[Zb,CY]
  have f:∀(N i:Nat)(o:List Zj),(c:Id)-i<N->i<=(c:Id)->o<=4*i+3->Wm N c o (i:Int)=W (o++((c:Id).drop i).flatMap (Bm c)++C0 c,()):=by
   intro N
   induction N with
   |zero=>omega
   |succ N g=>
    intro i o p q a;unfold Wm;by_cases b:i<(c:Id)
    ·have r:=Qho c ((c:Id).getD i Zc);rw[Zo (Zl),Zb,show(i:Int).toNat=i from rfl,sfE,pA,Zb (CY (by dsimp only;omega)),Zs b,g (i+1) _ Aa Aa Ag,Q1 (d:=Zc) b,List.flatMap_cons,Mu o]
    ·rw[Zm (Zk),Ln Aa,mtE,pA,List.flatMap_nil,Mv];unfold C0;cases GY (c:Zah)
     ·grind
     ·rw[pG,pG];simp only;rw[Zb (CY Ae),e _ Ae];simp
  have j:∀o:List Zj,o.length<=3->Wl c o=W (o++(c:Id).flatMap (Bm c)++C0 c,()):=λo a=>by
   unfold Wl;have:=f (dn c o 0) 0 o (by simp[dn]) Aa Aa;simpa using this
  have k:∀o:List Zj,o.length<=2->Wk c o=W (o++(cond (NM (c:Zav) (c:ZaB).2.1) [B7 18 0 (Gr (c:Zav)).2.1 X] [])++(c:Id).flatMap (Bm c)++C0 c,()):=λo a=>by
   unfold Wk;rw[Ok,pA];change (cond (NM _ _) _ _)=_;cases NM (c:Zav) (c:ZaB).2.1
   ·grind
   ·rw[pG,pG];simp only;rw[Zb (CY Ae),j _ Ae]
  have l:∀o:List Zj,o.length<=1->Wj c o=W (o++(cond (NM (c:Zay) (c:ZaB).1) [B7 18 0 (Gr (c:Zay)).2.1 K3] [])++(cond (NM (c:Zav) (c:ZaB).2.1) [B7 18 0 (Gr (c:Zav)).2.1 X] [])++(c:Id).flatMap (Bm c)++C0 c,()):=λo a=>by
   unfold Wj;rw[Ok,pA];change (cond (NM _ _) _ _)=_;cases NM (c:Zay) (c:ZaB).1
   ·grind
   ·rw[pG,pG];simp only;rw[Zb (CY Ae),k _ Ae]
  rw[ttE,pA];change (cond (FV c) _ _)=_;unfold Rd;cases FV c
  ·simp_all
  ·rw[pG,pG];simp only;rw[Zb (CY Ac),l _ Ac];rfl
theorem Qa0(c:Zf):∀l:List Zh,(l.flatMap (Bm c))<=4*l.length
 |[]=>Ac
 |x::l=>by
  have:=Qa0 c l
  grind[Qho]
theorem Qf2(c:Zf):(Rg c).length<=4*(c:Id).length+6:=by
 unfold Rg;cases bJ c&& !((c:ZaG) !=(0:Int))
 ·simp
 ·have a:(Rd c).length<=3:=by
   grind(splits:=20)[Rd]
  have b:(C0 c).length<=3:=by
   grind[C0]
  grind(splits:=20)[Qa0]
theorem Qk1(h:f∈Rg c):bJ c=X/\(f∈Rd c\/(∃s∈(c:Id),f∈Bm c s)\/f∈C0 c):=by
 unfold Rg at h
 grind
theorem Qfx{b:Bool}{x:α}(h:x∈(cond b [y] [])):b=X/\x=y:=by grind
theorem Qnz{s:Zh}(h:f∈Bm c s):((s:ZaE).1=X/\f=frR s)\/((s:ZaS)=X/\f=Oy s)\/(PB c s=X/\f=B7 17 s.1 (FQ c s).2.2.1 K3)\/(B2 s=X/\f=B7 21 s.1 (s:LE).1 K3):=by
 unfold Bm at h;rcases Lo.1 h with h|h
 ·rcases Lo.1 h with h|h
  ·rcases Lo.1 h with h|h
   ·exact .inl (Qfx h)
   ·obtain⟨a,b⟩:=Qfx h;simp_all
  grind
 grind
theorem Qo2(h:f∈Rd c):f.1=16\/f.1=18:=by
 unfold Rd at h;rcases Lo.1 h with h|h
 ·grind
 grind
theorem Qo4(h:f∈C0 c):f.1=20\/f.1=22:=by
 unfold C0 at h;rcases Lo.1 h with h|h
 ·grind
 grind
theorem Qwa(h:Qb K c)(hK:K<=1000000)(hf:f∈Rg c)(h17:f.1=17):∀s∈(c:Id),s.1=f.2.1->OQ s=true:=by
 obtain⟨b,hm⟩:=Qk1 hf;have C:=(Sp h hK).1 b;rcases hm with hm|⟨s,d,hm⟩|hm
 ·grind[Qo2]
 ·rcases Qnz hm with⟨-,e⟩|⟨-,e⟩|⟨j,e⟩|⟨-,e⟩
  ·simp_all
  ·simp_all
  ·intro g a i;have:g=s:=Qhv (n9.1 C.sts).srt a d (by rw[i,e]);simp_all[PB]
  simp_all
 grind[Qo4]
theorem jI(hf:f∈Rg c):(f:IO)=[]:=by
 obtain⟨-,hm⟩:=Qk1 hf;rcases hm with hm|⟨s,a,hm⟩|hm
 ·unfold Rd at hm;rcases Lo.1 hm with h|h
  ·grind
  grind
 ·rcases Qnz hm with⟨-,e⟩|⟨-,e⟩|⟨-,e⟩|⟨-,e⟩<;>rw[e]
 ·unfold C0 at hm;rcases Lo.1 hm with h|h
  ·grind
  grind
theorem Z6s(s:Zn)(id room limit:Int):∀m:Nat,m<=60->(CD s id room limit m).1.2.1.length<=60
 |0,_=>Mo _
 |m+1,a=>by
  unfold CD;split
  ·grind[BJ]
  ·exact Z6s s id room limit m Aa
theorem SH(c:Zf)(id room:Int):(GV c id room).1.2.1.length<=60:=by
 unfold GV;split
 ·unfold S8;split
  ·grind[Z6s]
  ·exact Mo _
 ·exact Mo _
abbrev uO(c:Zf):Int:=(c:ZaN).1
abbrev Ub(c:Zf):Int:=(c:ZaI)
def zI:Nat->Zf->List Zj->Int->List Int->List Zj×Zf|0,c,fr,_,_=>(fr,c)|n+1,c,fr,room,sk=>ite (ko (ZE c sk) (uO c)<0) (fr,c) (cond (GV c (ko (ZE c sk) (uO c)) room).2.1 (cond (UP c (ko (ZE c sk) (uO c)) (GV c (ko (ZE c sk) (uO c)) room).1) (zI n (Te c (ko (ZE c sk) (uO c)) (GV c (ko (ZE c sk) (uO c)) room).1) (fr++[Ci (ko (ZE c sk) (uO c)) (GV c (ko (ZE c sk) (uO c)) room).1]) (K2.wrap (room-AW (Ci (ko (ZE c sk) (uO c)) (GV c (ko (ZE c sk) (uO c)) room).1))) sk) (fr,c)) (zI n (OV c (ko (ZE c sk) (uO c))) fr room (sk++[ko (ZE c sk) (uO c)])))
theorem Qoj(h:Qb K c)(sk:List Int):(ZE c sk)<=K:=by unfold ZE;have:=Lz (NF sk) (CR c);have:=Qcz c;have:=h.str.len;omega
theorem Qjb(l:List Zp):l.filter (NF [])=l:=by rw[Mx];intro x _;rfl
theorem Qej(l:List Zp)(i:Int)(sk:List Int):(l.filter (λx=>x.1 !=i)).filter (NF sk)=l.filter (NF (i::sk)):=by
 rw[List.filter_filter];congr 1
 grind[NF]
theorem Qr3{K:Nat}(hK:K<=90000):∀(n N i:Nat)(x:Zf)(fr:List Zj)(room:Int)(sk:List Int),i+n=200->n<N->Qb K x->fr<=1000000+i->sk<=i->
  ji N x fr room sk (i:Int)=W (((zI n x fr room sk).1,()),(zI n x fr room sk).2,())
 |_,0,_,_,_,_,_,_,h,_,_,_=>Aa
 |0,N+1,i,x,fr,room,sk,q,r,hx,f,g=>by
  unfold ji;rw[Zm (Zk)];rfl
 |n+1,N+1,i,x,fr,room,sk,q,r,hx,f,g=>by
  have y:=hx.str.len;have a:i<200:=Aa
  unfold ji;rw[Zo (Zl),Qy9 Aa,pA];have s:=λx fr room sk hx f g=>Qr3 hK n N (i+1) x fr room sk Aa Aa hx f g;have t:∀(M k:Nat)(l:List Zp),sk-k<M->k<=sk->l<=K->l.filter (NF (sk.drop k))=ZE x sk->
    sn (λv=>ji N v.1 v.2.1 v.2.2.1 v.2.2.2.1 v.2.2.2.2.1) M x fr room sk (i:Int) l (k:Int)=W (((zI (n+1) x fr room sk).1,()),(zI (n+1) x fr room sk).2,()):=by
   intro M
   induction M with
   |zero=>omega
   |succ M j=>
    intro k l z hk m o;unfold sn gH;by_cases p:k<sk
    ·rw[Zo (Zl),Zb,show(k:Int).toNat=k from rfl,Qok Aa,pA,Zs p];refine j (k+1) _ Aa Aa (Lg (Lz _ _) m) ?_;rw[Qej,<-Q1 (d:=0) p];exact o
    ·rw[Ln Aa,Qjb]at o;rw[Zm (Zk),o,Qja _ _ Ag,pA];simp only[Xm,Yb];rw[zI];by_cases e:ko (ZE x sk) (uO x)<0
     ·rw[Zo (Zl e),if_pos e]
     ·have b:=Tv (c:=x) Aa (sk:=sk) (last:=uO x);rw[Zm (Zk e),if_neg e];generalize ko (ZE x sk) (uO x)=id at*
      rw[Qjj hx Aa,pA];have u:=SH x id room;cases hp:(GV x id room).2.1
      ·obtain⟨w,A⟩:=YJ hx Aa b;rw[w,pA];simp only[Lq,pG,pH];rw[Zb Aj];unfold sm;rw[Zs a]
       grind
      ·simp only[pI,pG,pH];rw[Qea hx Aa,pA];unfold WM;cases hm:UP x id (GV x id room).1
       ·rfl
       ·simp only[pI,pG,pH,sj,pA];rw[Zb Aj,PF At,pA];unfold sm;rw[Zs a];exact s (Te x id (GV x id room).1) (fr++[Ci id (GV x id room).1]) _ sk (IS hx Aa hm) Ae Aa
  have B:=Qcz x;exact t _ 0 (CR x) (by simp[wm]) Aa Aa (by rfl)
def Bf(c:Zf):Prop:= ∀s∈(c:Id),0<=s.2.1.1
theorem Qhu(h:Bf c){s:Zh}(hs:0<=s.2.1.1):∀x∈(c:Id).set i s,0<=x.2.1.1:=λx hx=>by
 rcases Ml hx with h1|h1
 ·exact h x h1
 simp_all
theorem Qva(h:Bf c)(hl:(c:Id).length<=1000000)(hi:0<=Qe (c:Id) id):Bf (OV c id):=by have b:=(rN hl id).1;have a:=h _ (Z7 (d:=Zc) (show(Qe (c:Id) id).toNat<(c:Id) by omega));exact Qhu h a
theorem Qvb(h:Bf c)(id:Int)(p:Qj):Bf (Te c id p):=Qhu h (jM _).1
theorem Qr2{K:Nat}(hK:K<=90000)(t:Zf):∀(n N i:Nat)(x:Zf)(fr:List Zj)(room:Int)(sk:List Int),i+n=200->n<N->Qb K x->Bf x->fr<=1000000+i->sk<=i->
  W5 N t x fr sk room (i:Int)=bM t (zI n x fr room sk).2 (zI n x fr room sk).1
 |_,0,_,_,_,_,_,_,h,_,_,_,_=>Aa
 |0,N+1,i,x,fr,room,sk,k,m,hx,a,f,g=>by
  unfold W5 gH gJ tP;rw[Zm (Zk)];rfl
 |n+1,N+1,i,x,fr,room,sk,k,m,hx,a,f,g=>by
  have q:=hx.str.len;have d:i<200:=Aa
  have j:=λx fr room sk hx a f g=>Qr2 hK t n N (i+1) x fr room sk Aa Aa hx a f g;unfold W5 gH gJ tP;rw[Zo (Zl),Qy8 Aa a Aa,pA,Qi9 (ZE x sk) _ (by have:=Qoj hx sk;omega),pA,zI];by_cases e:ko (ZE x sk) (uO x)<0
  ·rw[Zo (Zl e),if_pos e]
  ·have b:=Tv (c:=x) Aa (sk:=sk) (last:=uO x);rw[Zm (Zk e),if_neg e];generalize ko (ZE x sk) (uO x)=id at*
   rw[Qji hx Aa,pA];have o:=SH x id room;have r:=(rN (l:=(x:Id)) Aa id).1;cases hp:(GV x id room).2.1
   ·obtain⟨s,p⟩:=YJ hx Aa b;simp only[Lq,pG,pH];rw[uT Aa,YA Aa,pA,Zb];simp only[Qw6,nbE,pA];rw[Zb Aj,Zs d];exact j (OV x id) _ _ _ p (Qva a Aa b) Aa Ae
   ·simp only[pI,pG,pH];rw[Qd9 hx Aa,pA];cases hm:UP x id (GV x id room).1
    ·rfl
    ·simp only[pI,pG,pH,ml,pA];rw[Zb Aj,GZ At,pA,Zs d];exact j (Te x id (GV x id room).1) (fr++[Ci id (GV x id room).1]) _ sk (IS hx Aa hm) (Qvb a _ _) Ae Aa
def Hj(c:Zf)(f:Zj):Zf:=cond (bJ c) (vA c f) c
theorem Qm1(hl:(c:Id).length<=1000000)(f:Zj):(vA c f:Id)=(c:Id)\/(0<=Qe (c:Id) f.2.1/\(vA c f:Id)=(c:Id).set (Qe (c:Id) f.2.1).toNat (WO c (TU c f.2.1) f.1)):=by
 unfold vA;cases f.1==(16:Int)<;>cases f.1==(18:Int)<;>cases f.1==(20:Int)<;>cases f.1==(22:Int)<;>cases (f:ZaA)<;>first
  |exact .inl rfl
  |(simp only[pH];exact(Classical.em (0<=Qe (c:Id) f.2.1)).elim (λa=>by rw[if_pos a];exact .inr ⟨a,rfl⟩) (λa=>by rw[if_neg a];exact .inl rfl))
theorem Qw0(c:Zf)(f:Zj):(vA c f:ZaN)=(c:ZaN):=by
 unfold vA;cases f.1==(16:Int)<;>cases f.1==(18:Int)<;>cases f.1==(20:Int)<;>cases f.1==(22:Int)<;>cases (f:ZaA)<;>first
  |rfl
  |(simp only[pH];split<;>rfl)
theorem Qm0(c:Zf)(f:Zj):(Hj c f:ZaN)=(c:ZaN):=by
 unfold Hj;cases bJ c
 all_goals simp[Qw0]
theorem Pt(hl:(c:Id).length<=1000000)(f:Zj){x:Zh}(hx:x∈(Hj c f:Id)):∃s∈(c:Id),x.1=s.1/\x.2.1=s.2.1/\(x:Fd)=(s:Fd)/\OQ x=OQ s:=by
 unfold Hj at hx;cases hc:bJ c
 ·grind
 ·rw[hc,pG]at hx;rcases Qm1 hl f with e|⟨a,e⟩
  ·grind
  ·rw[e]at hx;rcases Ml hx with h1|h1
   ·grind
   ·have b:=(rN hl f.2.1).1;refine⟨TU c f.2.1,Z7 (d:=Zc),?_⟩;simp_all[Qf8,Qar,Qaq,Qpb]
theorem qB(h:Qb K c)(hK:K<=1000000)(f:Zj):Qb K (Hj c f):=by
 have a:=h.str.len;refine⟨⟨?_,λx hx=>?_⟩,?_⟩
 ·unfold Hj;cases bJ c
  ·exact a
  ·rcases Qm1 (c:=c) Aa f with e|⟨-,e⟩
   all_goals simp_all
 ·obtain⟨s,b,-,d,g,-⟩:=Pt Aa f hx;have:=h.str.all s b;exact⟨by rw[d];exact this.snd,by rw[g];exact this.rcv⟩
 ·rw[show(Hj c f:Zac)=(c:Zac) from congrArg (λz=>z.2.2.1) (Qm0 c f)];exact h.pk
def CC:List Zj->Zf->List Zj->Int->Zf×List Zj×Int|[],c,fr,room=>(c,fr,room)|f::r,c,fr,room=>ite (AW f<=room) (CC r (Hj c f) (fr++[f]) (K2.wrap (room-AW f))) (CC r c fr room)
theorem jY{K:Nat}(hK:K<=1000000):∀(l:List Zj)(c:Zf)(fr:List Zj)(room:Int),Qb K c->Qb K (CC l c fr room).1
 |[],_,_,_,h=>h
 |f::r,c,fr,room,h=>by
  unfold CC;split
  ·exact jY hK r _ _ _ (qB h hK f)
  ·exact jY hK r _ _ _ h
theorem DI{K:Nat}(hK:K<=1000000):∀(l:List Zj)(c:Zf)(fr:List Zj)(room:Int),Qb K c->Bf c->Bf (CC l c fr room).1
 |[],_,_,_,_,h=>h
 |f::r,c,fr,room,h,b=>by
  have d:=h.str.len;unfold CC;split
  ·exact DI hK r _ _ _ (qB h hK f) λx hx=>by
    obtain⟨s,a,-,e,-,-⟩:=Pt Aa f hx;rw[e];exact b s a
  ·exact DI hK r _ _ _ h b
theorem PV:∀(l:List Zj)(c:Zf)(fr:List Zj)(room:Int),(CC l c fr room).1.2.2.2.2.2.2.2.2.2.2.2.2.2=(c:ZaN)
 |[],_,_,_=>rfl
 |f::r,c,fr,room=>by
  unfold CC;split
  ·rw[PV r,Qm0]
  ·exact PV r _ _ _
theorem EW:∀(l:List Zj)(c:Zf)(fr:List Zj)(room:Int),(CC l c fr room).2.1<=fr+l.length
 |[],_,_,_=>by simp[CC]
 |f::r,c,fr,room=>by
  unfold CC;split
  ·have:=EW r (Hj c f) (fr++[f]) (K2.wrap (room-AW f))
   grind
  ·have:=EW r c fr room
   grind
theorem i7:∀(n:Nat)(c:Zf)(fr:List Zj)(room:Int)(sk:List Int),(zI n c fr room sk).2.2.2.2.2.2.2.2.2.2.2.2.2.2.2=(c:ZaN).2
 |0,_,_,_,_=>rfl
 |n+1,c,fr,room,sk=>by
  unfold zI;split
  ·rfl
  ·generalize ko (ZE c sk) (uO c)=id;cases (GV c id room).2.1
   ·rw[pH,i7 n];rfl
   ·rw[pG];cases UP c id (GV c id room).1
    ·rfl
    ·rw[pG,i7 n];rfl
theorem w6:∀(n:Nat)(c:Zf)(fr:List Zj)(room:Int)(sk:List Int),(zI n c fr room sk).1<=fr+n
 |0,_,_,_,_=>by simp[zI]
 |n+1,c,fr,room,sk=>by
  unfold zI;split
  ·simp
  ·generalize ko (ZE c sk) (uO c)=id;cases (GV c id room).2.1
   ·rw[pH];have:=w6 n (OV c id) fr room (sk++[id]);omega
   ·rw[pG];cases UP c id (GV c id room).1
    ·simp
    ·rw[pG];have:=w6 n (Te c id (GV c id room).1) (fr++[Ci id (GV c id room).1]) (K2.wrap (room-AW (Ci id (GV c id room).1))) sk
     grind
theorem NA{K:Nat}(hK:K<=1000000):∀(n:Nat)(c:Zf)(fr:List Zj)(room:Int)(sk:List Int),Qb K c->Qb K (zI n c fr room sk).2
 |0,_,_,_,_,h=>h
 |n+1,c,fr,room,sk,h=>by
  have b:=h.str.len;unfold zI;split
  ·exact h
  ·rename_i d;have a:=Tv (c:=c) Aa (sk:=sk) (last:=uO c);generalize ko (ZE c sk) (uO c)=id at*
   cases (GV c id room).2.1
   ·rw[pH];exact NA hK n _ _ _ _ (YJ h hK a).2
   ·rw[pG];cases hm:UP c id (GV c id room).1
    ·exact h
    ·rw[pG];exact NA hK n _ _ _ _ (IS h hK hm)
theorem jB:∀(n:Nat)(c:Zf)(fr:List Zj)(room:Int)(sk:List Int),(∀f∈fr,T6 f)-> ∀f∈(zI n c fr room sk).1,T6 f
 |0,_,_,_,_,h=>h
 |n+1,c,fr,room,sk,h=>by
  unfold zI;split
  ·exact h
  ·generalize ko (ZE c sk) (uO c)=id;cases (GV c id room).2.1
   ·rw[pH];exact jB n _ _ _ _ h
   ·rw[pG];cases UP c id (GV c id room).1
    ·exact h
    ·rw[pG];refine jB n _ _ _ _ λf a=>?_
     grind[SH,T6]
theorem OC:∀(l:List Zj)(c:Zf)(fr:List Zj)(room:Int),(∀f∈l,T6 f)->(∀f∈fr,T6 f)-> ∀f∈(CC l c fr room).2.1,T6 f
 |[],_,_,_,_,h=>h
 |g::r,c,fr,room,b,h=>by
  unfold CC;split
  ·refine OC r _ _ _ (λf a=>b f (Lu _ a)) λf a=>?_
   grind
  ·exact OC r _ _ _ (λf a=>b f (Lu _ a)) h
def Gb:Nat->Nat->List Int|0,_=>[]|m+1,n=>((n/256^m%256:Nat):Int)::Gb m n
theorem Qak:∀(m n:Nat),Gb (m+1) n=Gb m (n/256)++[((n%256:Nat):Int)]
 |0,n=>by simp[Gb]
 |m+1,n=>by
  rw[Gb,Qak m n,Gb,M1,Nat.pow_succ,M3 256];rfl
theorem Qtb{n:Nat}(h:n<9223372036854775808):bits .and .i64 (n:Int) 255=((n%256:Nat):Int):=by
 have e:bits .and .i64 (n:Int) 255=K2.wrap (((Lj 64 (n:Int)&&&Lj 64 255).toNat:Nat):Int):=rfl;have a:(Lj 64 (n:Int)).toNat=n:=Ag
 have b:(Lj 64 255).toNat=255:=rfl;rw[e,Mp,a,b,show(255:Nat)=2^8-1 from rfl,M0,Zr]
theorem Qsb:∀k:Fin 64,(bits .or .i64 (k.val:Int) 64=(k.val:Int)+64/\bits .or .u8 (k.val:Int) 64=(k.val:Int)+64)/\(bits .or .i64 (k.val:Int) 128=(k.val:Int)+128/\bits .or .u8 (k.val:Int) 128=(k.val:Int)+128)/\bits .or .i64 (k.val:Int) 192=(k.val:Int)+192/\bits .or .u8 (k.val:Int) 192=(k.val:Int)+192:=Ah
theorem shQ(n:Nat)(h:n<9223372036854775808){m:Nat}(hm:m<=7):bits .and .i64 ((n:Int).fdiv (2^ (min (K2.wrap ((8:Int)*(m:Int))).toNat K2.bits))) 255=((n/256^m%256:Nat):Int):=by
 have e:min (K2.wrap ((8:Int)*(m:Int))).toNat K2.bits=8*m:=by
  rw[Zr,show K2.bits=64 from rfl];omega
 have a:(n:Int).fdiv (2^ (8*m))=((n/256^m:Nat):Int):=by
  rw[Ms _ Ag,show(256:Nat)=2^8 from rfl,<-Nat.pow_mul]
  norm_cast
 rw[e,a,Qtb (Nat.lt_of_le_of_lt (Nat.div_le_self _ _) h)]
theorem Qrs{n:Nat}(h:n<256):eh (n:Int)=W (Xf [(n:Int)],()):=by grind[Qrt,Ea]
theorem Qlg(n k:Nat)(h:n<9223372036854775808)(hk:k<=8):∀(N m:Nat)(s:Ba),m<N->m<k->s.length+m<=8->Qs N (n:Int) (k:Int) s ((m:Int)-1)=W (s++Xf (Gb m n),())
 |0,_,_,h,_,_=>Aa
 |N+1,0,s,_,_,a=>by
  simp_all[Qs,Gb,Xf]
 |N+1,m+1,s,d,e,a=>by
  unfold Qs;have b:((m+1:Nat):Int)-1=(m:Int):=Aa
  rw[b,Zo (Zl),Zb Ao];simp only[shQ n h (m:=m) Aa];have c:((m:Int)==K2.wrap ((k:Int)-1))=false:=Ao
  rw[c,pH];unfold Yv;rw[Qrs Aa,pA,Zb (by grind[Ym,Xf]),Zr];refine Lr (Qlg n k h hk N m (s++Xf [((n/256^m%256:Nat):Int)]) Aa Aa (by grind[Xf])) ?_;rw[Mu];rfl
theorem Qvy(n:Nat):Ly.wrap (n:Int)=((n%256:Nat):Int):=by rfl
theorem Qle(k:Int):∀(m N n:Nat)(out:List Int),m<=out.length->out.length<=8->Kb (N+m) (n:Int) k out ((m:Int)-1)=Kb N ((n/256^m:Nat):Int) k (Gb m n++out.drop m) (-1)
 |0,N,n,out,_,_=>by simp[Gb]
 |m+1,N,n,out,e,a=>by
  rw[show N+(m+1)=(N+m)+1 from rfl,Kb];have b:((m+1:Nat):Int)-1=(m:Int):=Aa
  have c:(n:Int).fdiv (2^ (min (8:Int).toNat K2.bits))=((n/256:Nat):Int):=by
   rw[Ms _ Ah];rfl
  rw[b,Zo (Zl),Zb,Zb,c,Zr,Qle k m N (n/256) _ Ae (by simpa using a),Qak,M1,Nat.pow_succ,M3 256];have f:(out.set (m:Int).toNat (Ly.wrap (n:Int))).drop m=((n%256:Nat):Int)::out.drop (m+1):=by
   rw[Q1 (d:=0) Ae]
   grind[Qvy,List.drop_set]
  simp_all
def Oh(k:Nat):Nat:=ite (k=2) 64 (ite (k=4) 128 (ite (k=8) 192 0))
def WX(k n:Nat):Ba:=Xf (((n/256^ (k-1)+Oh k:Nat):Int)::Gb (k-1) n)
def HO(k n:Nat):Prop:=(k=1/\n<64)\/(k=2/\n<16384)\/(k=4/\n<1073741824)\/(k=8/\n<4611686018427387904)
theorem Qsy{n:Nat}(h:HO (k+1) n):n/256^k<64:=by rw[Nat.div_lt_iff_lt_mul (Nat.pos_of_ne_zero Ac)];rcases h with⟨e,h⟩|⟨e,h⟩|⟨e,h⟩|⟨e,h⟩<;>(have:k=_:=Mn e)<;>subst this<;>omega
theorem Qwl{n:Nat}(h:HO (k+1) n):Qs (k+2) (n:Int) ((k+1:Nat):Int) [] (k:Int)=W (WX (k+1) n,()):=by
 have c:k<=7:=by rcases h with⟨e,h⟩|⟨e,h⟩|⟨e,h⟩|⟨e,h⟩<;>omega
 have a:n<9223372036854775808:=by rcases h with⟨e,h⟩|⟨e,h⟩|⟨e,h⟩|⟨e,h⟩<;>omega
 have d:=Qsy h;have o:=Qsb ⟨n/256^k,d⟩;simp only at o;rw[Qs,Zo (Zl),Zb Ao];simp only[shQ n a c,M2 (show n/256^k<256 by omega)];have f:((k:Int)==K2.wrap (((k+1:Nat):Int)-1))=true:=Ao
 rw[f,pG,o.1.1,o.2.1.1,o.2.2.1];have j:∀b:Nat,b<256->b=n/256^k+Oh (k+1)->Yv (λv=>Qs (k+1) v.1 v.2.1 v.2.2.1 v.2.2.2.1) (n:Int) ((k+1:Nat):Int) [] (k:Int) (b:Int)=W (WX (k+1) n,()):=λb g e=>by
  unfold Yv;rw[Qrs g,pA,Zb (by simp[Ym,Xf]),Zr];refine Lr (Qlg n (k+1) a Aa (k+1) k ([]++Xf [(b:Int)]) Aa Aa (by grind[Xf])) ?_;rw[e];rfl
 rcases h with⟨e,h⟩|⟨e,h⟩|⟨e,h⟩|⟨e,h⟩<;>(have:k=_:=Mn e)<;>subst this
 all_goals grind[Oh]
theorem Qyj{n:Nat}(h:HO (k+1) n):Kb (k+2) (n:Int) ((k+1:Nat):Int) (Mb (k+1) 0) (k:Int)=W (WX (k+1) n,()):=by
 have b:k<=7:=by rcases h with⟨e,h⟩|⟨e,h⟩|⟨e,h⟩|⟨e,h⟩<;>omega
 have a:=Qsy h;have o:=Qsb ⟨n/256^k,a⟩;simp only at o;have e:=Qle ((k+1:Nat):Int) (k+1) 1 n (Mb (k+1) 0) Ac Ae;rw[show 1+(k+1)=k+2 by omega,show((k+1:Nat):Int)-1=(k:Int) by omega,Ls Ac,Mv]at e;rw[e,Kb,Zm Ah];rw[Gb,M2 (show n/256^k<256 by omega)];unfold WX bN;rw[show(0:Int).toNat=0 from rfl,Mj,Mm,Mm,Mm,o.1.2,o.2.1.2,o.2.2.2];simp only[Zb (show(0:Int)<=0/\(0:Int)<((((n/256^k:Nat):Int)::Gb k n).length:Int) by simp)];rcases h with⟨e,h⟩|⟨e,h⟩|⟨e,h⟩|⟨e,h⟩<;>(have:k=_:=Mn e)<;>subst this<;>rfl
theorem Qxf(n:Int):Yw n=V5 n:=by
 unfold Yw V5;rw[szI,It,pA,pA];have a:∀(k:Nat)(m:Nat),n=(m:Int)->Hi n=((k+1:Nat):Int)->HO (k+1) m->(Ze (0<=Hi n/\Hi n<=Hi n/\Hi n<=Qg) (Kb (ci n (Hi n) (Mb (Hi n).toNat (0:Int)) (K2.wrap (Hi n- (1:Int)))) n (Hi n) (Mb (Hi n).toNat (0:Int)) (K2.wrap (Hi n- (1:Int)))))=Qs (J4 n (Hi n) ([]:Ba) (K2.wrap (Hi n- (1:Int)))) n (Hi n) ([]:Ba) (K2.wrap (Hi n- (1:Int))):=λk m b c hk=>by
  have i:k<=7:=by rcases hk with⟨e,h⟩|⟨e,h⟩|⟨e,h⟩|⟨e,h⟩<;>omega
  rw[Zb Aj,c,Zr,b,show((k+1:Nat):Int)-1=(k:Int) by omega];unfold ci J4;rw[show((k:Int)-0).toNat+2=k+2 by omega,Qwl hk];exact Qyj hk
 by_cases h:0<=n/\n<=4611686018427387903
 ·obtain⟨m,rfl⟩:=Lp h.1;have:(Hi (m:Int)==0)=false:=by unfold Hi;grind
  rw[this,pH];by_cases d:m<64
  ·exact a 0 m rfl (by unfold Hi;grind) (.inl ⟨rfl,d⟩)
  ·by_cases f:m<16384
   ·exact a 1 m rfl (by unfold Hi;grind) (.inr (.inl ⟨rfl,f⟩))
   ·by_cases g:m<1073741824
    ·exact a 3 m rfl (by unfold Hi;grind) (.inr (.inr (.inl ⟨rfl,g⟩)))
    ·exact a 7 m rfl (by unfold Hi;grind) (.inr (.inr (.inr ⟨rfl,Aa⟩)))
 ·have:Hi n=0:=by unfold Hi;grind
  rw[this];rfl
def qV(n:Int):Ba:=match V5 n with|some (s,_)=>s|none=>[]
theorem H1(n:Int):V5 n=W (qV n,())/\(qV n)=Hi n:=by obtain⟨⟨y,u⟩,e,a⟩:=enS n;simp_all[qV]
theorem P9(n:Int):Yw n=W (qV n,()):=by simp[Qxf,H1]
theorem FW{k:Int}(h0:0<=k)(h1:k<64):Xv k=W (qV k,()):=by
 obtain⟨m,rfl⟩:=Lp h0;have h1:m<64:=Aa
 have e:=(H1 (m:Int)).1;unfold V5 at e;rw[It,pA,Qsp Aa Aa]at e;have a:=Qwl (k:=0) (n:=m) (.inl ⟨rfl,h1⟩);rw[show J4 (m:Int) 1 ([]:Ba) (K2.wrap (1-1))=2 from rfl]at e;have b:=a.symm.trans e
 grind[Xv,Ea,WX,Oh,Gb]
theorem Qu0(ha:a.length<=10000)(hb:b.length<=10000):a+b<=Ym:=Al
def Uq(l:List Int):Ba:=l.flatMap qV
theorem UW(n:Int):(qV n).length<=8:=by have:=(H1 n).2;have:=xP n;omega
theorem Qso(l:List Int)(hl:l.length<=1000)(hq:∀x∈l,fq x=X):∀(N i:Nat)(s:Ba),l-i<N->i<=l->s<=8*i->Jv N l s (i:Int)=W (s++Uq (l.drop i),())/\aQ N s l l (i:Int)=W (s++Uq (l.drop i),())
 |0,_,_,h,_,_=>Aa
 |N+1,i,s,j,k,n=>by
  unfold Jv gH aQ gH;by_cases a:i<l
  ·have b:=hq _ (Z7 (d:=0) a);rw[Zo (Zl),Zo (Zl),Zb,Zb,show(i:Int).toNat=i from rfl,Q1 (d:=0) a];generalize l.getD i 0=x at*
   have o:=Qhe b;have hv:=UW x;have e:(Hi x==0)=false:=Ae
   obtain⟨f,g⟩:=Qso l hl hq N (i+1) (s++qV x) Aa Aa Ag;have c:s+(qV x)<=Ym:=Qu0 Aa Aa;rw[It,pA,N9,pA,b,e,pH,pI,pH,Zb,P9,(H1 x).1,pA,pA,Zb c,Zb c,Zs (m:=l),f,g];simp[Uq]
  simp_all[Zk,Ls,Uq]
theorem EK{l:List Int}(hl:l.length<=1000)(hq:∀x∈l,fq x=X):Xt l=W (Uq l,())/\ax l=W (Uq l,()):=by obtain⟨a,b⟩:=Qso l hl hq (l+1) 0 [] Aa Aa Ac;exact⟨a,b⟩
theorem In(h:a.length<=1000)(h2:b.length<=1000):a+b<=Ym:=Al
theorem Qql(l:List Int):(Uq l)<=8*l.length:=by
 induction l with
 |nil=>simp[Uq]
 |cons x r a=>
  grind[UW,Uq]
theorem Qtz(h:T6 f):fa f=az f:=by
 have w:=h;unfold T6 at w;unfold fa az;rw[QJ _,xt _,pA,pA];cases hf:Kg f
 ·rfl
 ·have F:=I1 hf;have s:∀{n:Int},0<=n->n<64->fq n=true:=λa b=>RY a;have d:∀(k:Int)(l:List Int),0<=k->k<64->l.length<=4->(∀x∈l,fq x=X)->(K4 (Xv k) λt=>K4 (ax l) λq=>Ze (t.1.length+q.1.length<=Ym)<|some (t.1++q.1,()))=K4 (Xt (k::l)) λt=>W (t.1,()):=λk l m o A y=>by
   have a:=UW k;have b:=Qql l;have z:(qV k).length+(Uq l).length<=Ym:=In Aa Aa;rw[FW m o,(EK Aa y).2,(EK (l:=k::l) Ae Af).1,pA,pA,pA,Zb z];rfl
  have c:∀(k n:Int),0<=k->k<64->fq n=X->(K4 (Xv k) λt=>K4 (Yw n) λq=>Ze (t.1.length+q.1.length<=Ym)<|some (t.1++q.1,()))=K4 (Xt [k,n]) λt=>W (t.1,()):=λk n m o p=>by
   rw[<-d k [n] m o Ac (by simpa using p),(EK (l:=[n]) Ac (by simpa using p)).2,P9];simp[Uq]
  simp only[pI,pH,Xm];rcases F.kind with e|e|e|e|e|e|e|e|e
  ·rw[e];exact d _ _ Ah Ah Ac (Bk F.st F.code F.fin)
  ·rw[e];exact d _ _ Ah Ah Ac (PH F.st F.code)
  ·have u:=F.len;have v:fq ((f:IO).length:Int)=true:=RY;have j:∀k:Int,0<=k->k+4<64->(K4 (Xv (cond ((f:LT) !=0) (k+4) k)) λg=>K4 (Yw f.2.1) λi=>Ze (g.1.length+i.1.length<=Ym)<|cond ((f:LT) !=(0:Int)) (K4 (Yw (f:LT)) λr=>Ze ((g.1++i.1).length+r.1.length<=Ym)<|Wc f ((g.1++i.1)++r.1)) (Wc f (g.1++i.1)))=We f k:=λk m o=>by
    unfold We Wc;have B:=UW k;have C:=UW (k+4);have D:=UW f.2.1;have E:=UW (f:LT);have G:=UW ((f:IO).length:Int)
    rw[P9,P9,P9];cases hz:(f:LT)==0
    ·have p:((f:LT) !=0)=true:=by simp[bne,hz]
     simp only[p,pG,pH];rw[Zr (n:=k+4),FW Aa o,(EK Ac (BZ (s (n:=k+4) Aa o) F.st F.off v)).1];simp only[pA]
     grind(splits:=20)[Zb,In,Uq]
    ·have p:((f:LT) !=0)=false:=by simp[bne,hz]
     simp only[p,pG,pH];rw[FW m Aa,(EK Ac (Bk (s m Aa) F.st v)).1];simp only[pA]
     grind[Zb,In,Uq]
   rw[e];simp only[La,pH,pG];cases (f:Zas)
   ·rw[pH,<-j 10 Ah Ah];cases (f:LT) !=0<;>rfl
   ·rw[pG,show K2.wrap ((10:Int)+1)=11 from rfl,<-j 11 Ah Ah];cases (f:LT) !=0<;>rfl
  ·rw[e];unfold Xo Xd;rw[e];exact c _ _ Ah Ah F.lim
  ·rw[e];unfold Xo Xd Ki Yz;rw[e,Xm];exact d 17 _ Ah Ah Ac (PH F.st F.lim)
  ·rw[e];unfold Xo Xd Ki Yz Wf;rw[e];cases (f:ZaA)
   ·exact c 18 _ Ah Ah F.lim
   ·exact c 19 _ Ah Ah F.lim
  ·rw[e];unfold Xo Xd;rw[e];exact c _ _ Ah Ah F.lim
  ·rw[e];unfold Xo Xd Ki Yz;rw[e,Xm];exact d 21 _ Ah Ah Ac (PH F.st F.lim)
  ·rw[e];unfold Xo Xd Ki Yz Wf;rw[e];cases (f:ZaA)
   ·exact c 22 _ Ah Ah F.lim
   ·exact c 23 _ Ah Ah F.lim
def OS(l:List Zj):Ba:=match bU l with|some (s,_)=>s|none=>[]
theorem Qw7{l:List Zj}(h:jN l):bU l=W (OS l,()):=by obtain⟨y,e,-⟩:=Qtr h;simp_all[OS]
theorem Qbv{l:List Zj}(h:jN l):∀(N i:Nat)(s:Ba),l-i<N->i<=l->400<s.length->s<=1100*(i+1)->Yp N l s (i:Int)=W ([],())
 |0,_,_,h,_,_,_=>Aa
 |N+1,i,s,b,c,f,g=>by
  have j:=h.1;unfold Yp;by_cases a:i<l
  ·obtain⟨y,e,k⟩:=Cn (h.2 _ (Z7 (d:=Z9) a));rw[Zo (Zl),Zb,show(i:Int).toNat=i from rfl,e,pA];cases y.1==[]
   ·rw[pH,Zb Al,Zs a];exact Qbv h N (i+1) _ Aa Aa Ae Ae
   ·rfl
  grind
theorem Qse{l:List Zj}(h:jN l):∀(N i:Nat)(s:Ba),l-i<N->i<=l->s.length<=400->eO N s l l (i:Int)=Yp N l s (i:Int)
 |0,_,_,h,_,_=>Aa
 |N+1,i,s,g,j,k=>by
  have m:=h.1;rw[eO,Yp];by_cases b:i<l
  ·have a:=h.2 _ (Z7 (d:=Z9) b);obtain⟨y,e,n⟩:=Qwr a;rw[Zo (Zl),Zo (Zl),Zb,Zb,show(i:Int).toNat=i from rfl,QJ _ At,pA,Qtz a,e,pA,pA];cases hk:Kg (l.getD i Z9)
   ·simp_all[AW]
   ·have o:=Qgg hk;have c:(y.1==[])=false:=Ag
    have p:y.1.length<=1100:=by
     obtain⟨z,q,r⟩:=Cn a;simp_all
    rw[c,pI,pH,pH,Zb Al,Zb Al,Zs b];by_cases f:(s++y.1).length<=400
    ·rw[Zm (Zk),Qse h N (i+1) _ Aa Aa f]
    ·rw[Zo (Zl),Qbv h N (i+1) _ Aa Aa Aa Ae]
  grind
theorem Qys{l:List Zj}(h:jN l):zn l=W (OS l,()):=by rw[<-Qw7 h];exact Qse h _ 0 [] (by simp[dp,li]) Aa Ac
def H3(c:Zf)(b:Int):Bool:=((bJ c&& !((c:ZaG) !=(0:Int)))&&HV b 1 400)&& !Z (Ub c>=1000000)
def HY(c:Zf)(b:Int):Zf×List Zj×Int:=CC (Rg c) c [] b
def H9(c:Zf)(b:Int):List Zj×Zf:=zI 200 (HY c b).1 (HY c b).2.1 (HY c b).2.2 []
abbrev Qye(x:Zf)(n:Int)(fr:List Zj):Zf:=(x.1,x.2.1,x.2.2.1,(x:Id),(x:Zah),(x:Zai),(x:Zar),(x:Zaq),(x:Zay),(x:Zav),(x:ZaZ).2.1,(x:ZaB).1,(x:ZaB).2.1,(x:ZaN).1,n+1,(x:Zac)++[(n,fr,())],(x:ZaT).2)
def SF(c:Zf)(b:Int):Int:=cond (H3 c b) (cond (((H9 c b).1:Int)==0) (-1) (Ub c)) (-1)
def Gx(c:Zf)(b:Int):Zf:=cond (H3 c b) (cond (((H9 c b).1:Int)==0) (H9 c b).2 (Qye (H9 c b).2 (Ub c) (H9 c b).1)) c
def BD(c:Zf)(b:Int):Ba:=cond (H3 c b) (cond (((H9 c b).1:Int)==0) [] (OS (H9 c b).1)) []
theorem Rw(h:Qb K c)(hK:K<=1000000)(b:Int):Qb K (HY c b).1:=jY hK _ _ _ _ h
theorem MU(h:Qb K c)(hK:K<=1000000)(b:Int):Qb K (H9 c b).2:=NA hK _ _ _ _ _ (Rw h hK b)
theorem Qga(h:Qb K c)(hK:K<=100000)(b:Int):(HY c b).2.1<=4*K+6:=by
 have:=EW (Rg c) c [] b;have:=Qf2 c;have:=h.str.len
 grind[HY]
theorem Qpd(c:Zf)(b:Int):∀f∈(H9 c b).1,T6 f:=jB _ _ _ _ _ (OC _ _ _ _ (λf a=>by grind[T6,jI]) (λf a=>by cases a))
theorem Qve(hc:Ug c):(c:Id).length<=24:=(n9.1 hc.sts).len
theorem SC(h:Qb K c)(hK:K<=1000000):(Rg c).length<=102:=by grind[Qf2,Qve,Sp,Rg]
theorem Qpe(h:Qb K c)(hK:K<=1000000)(b:Int):(H9 c b).1.length<=302:=by grind(splits:=20)[w6,HY,EW,SC,H9]
theorem Cv(h:Qb K c)(hK:K<=1000000)(b:Int):jN (H9 c b).1:=⟨by grind[Qpe],Qpd c b⟩
theorem Qpc(h:Qb K c)(hK:K<=1000000)(b:Int):Qb (K+1) (Gx c b):=by
 unfold Gx;have e:=MU h hK b;cases H3 c b
 ·exact h.mono Aa
 ·rw[pG];cases ((H9 c b).1:Int)==0
  ·rw[pH];refine⟨e.str.mono Aa,?_,λp hp=>?_⟩
   ·have:=e.pk.1;simp_all
   ·rcases Lo.1 hp with hp|hp
    ·exact e.pk.2 p hp
    grind[Cv]
  ·exact e.mono Aa
theorem Qtq(c:Zf)(b:Int):Ub (H9 c b).2=Ub c:=by have a:=i7 200 (HY c b).1 (HY c b).2.1 (HY c b).2.2 [];have d:=PV (Rg c) c [] b;exact(congrArg (λz=>z.1) a).trans (congrArg (λz=>z.2.1) d)
theorem qT{K:Nat}(hK:K<=90000)(c0 t:Zf):∀(N:Nat)(l:List Zj)(i:Nat)(x:Zf)(fr:List Zj)(room:Int),l-i<N->i<=l->l.length<=500000->(∀f∈l,T6 f)->Qb K x->fr<=i->
  Vp N c0 t x fr room l (i:Int)=Vp 1 c0 t (CC (l.drop i) x fr room).1 (CC (l.drop i) x fr room).2.1 (CC (l.drop i) x fr room).2.2 l l
 |0,_,_,_,_,_,h,_,_,_,_,_=>Aa
 |N+1,l,i,x,fr,room,k,m,g,b,hx,j=>by
  by_cases c:i<l
  ·have e:=b _ (Z7 (d:=Z9) c);rw[Vp,Zo (Zl),Zb,show(i:Int).toNat=i from rfl,PF e,pA,Q1 (d:=Z9) c,CC];unfold rr;rw[Zs c];by_cases a:AW (l.getD i Z9)<=room
   ·rw[Zo (Zl a),if_pos a,Zb,pA,Zb,mkE hx Aa,pA,Zb,Zb Aj];exact qT hK c0 t N l (i+1) (Hj x (l.getD i Z9)) (fr++[l.getD i Z9]) _ Aa Aa g b (qB hx Aa _) Ae
   ·rw[Zm (Zk a),if_neg a];exact qT hK c0 t N l (i+1) x fr room Aa Aa g b hx Aa
  simp_all[Ln,CC,Vp,Zk]
theorem Qwj(h:Qb K c)(hK:K<=80000)(b:Int):y5 c b=W ((BD c b,SF c b,Gx c b,()),()):=by
 unfold y5 gG;rw[Y8 h,pA,LM h,pA];simp only[Iv,bO,Gy];have g:(((!(bJ c&& !((c:ZaG) !=(0:Int))))|| !HV b 1 400)||Z (Ub c>=1000000))= !H3 c b:=by
  simp_all[H3]
 rw[g];unfold SF Gx BD;cases hg:H3 c b
 ·simp_all
 ·simp only[pI,pH,pG];have i:Ug c:=(Sp h).1 Af;have a:=i.num;rw[Qwc h,pA];have d:=qT (K:=K) Aa c Xl (iS c Xl c [] b (Rg c) 0) (Rg c) 0 c [] b (by simp[iS]) Aa (by grind[SC]) (λf l=>by grind[T6,jI]) h Ac;rw[Mg,Lx]at d;rw[d,Vp,Zm (Zk)];have j:=Rw h Aa b;have k:=Qga h Aa b;have e:Bv (HY c b).1 (HY c b).2.1 (HY c b).2.2=W (((H9 c b).1,()),(H9 c b).2,()):=by
   unfold Bv;exact Qr3 (K:=K) Aa 200 _ 0 _ _ _ _ Aa (by simp[wl]) j Aa Ac
  unfold HY at e;rw[e,pA];cases hz:(((H9 c b).1.length:Int)==0)
  ·simp only[pH];have m:=(MU h Aa b).pk.1
   grind(splits:=20)[Zb,Qg,Qw7,Cv,Zr]
  simp_all
def Ig(l:List Zj)(c:Zf):Prop:= ∀f∈l,f.1=17-> ∀s∈(c:Id),s.1=f.2.1->OQ s=X
theorem Qup{l:List Zj}(h:Ig l c)(hl:(c:Id).length<=1000000)(f:Zj):Ig l (Hj c f):=λg b a x hx e=>by
 obtain⟨s,d,j,-,-,i⟩:=Pt hl f hx;rw[i];exact h g b a s d Aa
theorem Ew{K:Nat}(hK:K<=90000)(t:Zf)(sk:List Int):∀(N:Nat)(l:List Zj)(i:Nat)(x:Zf)(fr:List Zj)(room:Int),l-i<N->i<=l->l.length<=500000->(∀f∈l,T6 f)->Ig l x->Qb K x->fr<=i->
  Vi N t x fr sk room l l (i:Int)=Vi 1 t (CC (l.drop i) x fr room).1 (CC (l.drop i) x fr room).2.1 sk (CC (l.drop i) x fr room).2.2 l l l
 |0,_,_,_,_,_,h,_,_,_,_,_,_=>Aa
 |N+1,l,i,x,fr,room,n,o,j,c,e,hx,k=>by
  have m:=hx.str.len;by_cases a:i<l
  ·have g:=c _ (Z7 (d:=Z9) a);rw[Vi,Zo (Zl),Zb,show(i:Int).toNat=i from rfl,GZ g,pA,Q1 (d:=Z9) a,CC,Zs a];by_cases b:AW (l.getD i Z9)<=room
   ·rw[Zo (Zl b),if_pos b,Zb Aj,Z8v hx Aa _ (e _ (Z7 (d:=Z9) a)),pA];exact Ew hK t sk N l (i+1) (Hj x (l.getD i Z9)) (fr++[l.getD i Z9]) _ Aa Aa j c (Qup e Aa _) (qB hx Aa _) Ae
   ·rw[Zm (Zk b),if_neg b];exact Ew hK t sk N l (i+1) x fr room Aa Aa j c e hx Aa
  simp_all[Ln,CC,Vi,Zk]
theorem Qwi(h:Qb K c)(hK:K<=80000)(b:Int):yF c b=W (BD c b,SF c b,Gx c b,()):=by
 unfold yF gG;rw[V6 h,pA,XZ h,LM h,pA];simp only[bc,bO,Gy];have n:(((!(bJ c&& !((c:ZaG) !=(0:Int))))|| !(Z (b>=1)&&Z (b<=400)))||(Ub c==1000000))= !H3 c b:=by
  unfold H3 HV;by_cases o:bJ c=X
  ·have:=((Sp h).1 o).num
   grind
  simp_all
 rw[n];unfold SF Gx BD;cases hg:H3 c b
 ·simp_all
 ·simp only[pI,pH,pG];have g:Ug c:=(Sp h).1 Af;have i:=g.num;rw[Z1w h Aa,Qwc h,pA];have a:Bf c:=λs p=>(g.st h Aa p).snd.st.1;have j:=Ew (K:=K) Aa Xl [] (iD Xl c [] [] b (Rg c) ((Rg c).length:Int) 0) (Rg c) 0 c [] b (by simp[iD]) Aa (by grind[SC]) (λf k=>by grind[T6,jI]) (λf k=>Qwa h Aa k) h Ac;rw[Mg,Lx]at j;rw[j,Vi,Zm (Zk)];have q:=Rw h Aa b;have r:=Qga h Aa b;have m:W5 (iE Xl (HY c b).1 (HY c b).2.1 [] (HY c b).2.2 0) Xl (HY c b).1 (HY c b).2.1 [] (HY c b).2.2 0=bM Xl (H9 c b).2 (H9 c b).1:=Qr2 (K:=K) Aa Xl 200 _ 0 _ _ _ _ Aa (by simp[iE]) q (DI (K:=K) Aa _ _ _ _ h a) Aa Ac;unfold HY at m;rw[m];unfold bM;have e:=Qtq c b;cases hz:(((H9 c b).1.length:Int)==0)
  ·simp only[pH];have u:=(MU h Aa b).pk.1;rw[Zb Aj,show ∀(l:List Qa)(x d:Qa),(l++[x]).getD (l.length:Int).toNat d=x from λl x d=>by simp];rw[Qys (Cv h Aa b),pA];have t:(H9 c b).2.2.2.2.2.2.2.2.2.2.2.2.2.2.2.1=(c:ZaI):=e
   grind(splits:=20)[Zr]
  simp_all
def Bz(n:Int):List Qa->Qa×Bool×Unit|[]=>(((0:Int),([]:List Zj),()),K3,())|p::r=>ite (p.1=n) (p,X,()) (Bz n r)
theorem Qsg(h:Qb K c)(hK:K<=1000000)(n:Int):od c n=W (Bz n (c:Zac)):=by
 have f:=h.pk.1;have g:∀(t:Qa)(N i:Nat),(c:Zac)-i<N->i<=(c:Zac)->fL N n c t (i:Int)=W (Bz n ((c:Zac).drop i)):=by
  intro t N
  induction N with
  |zero=>intro i h;omega
  |succ N b=>
   intro i j k;unfold fL gH gI;by_cases a:i<(c:Zac)
   ·have l:=(h.pk.2 _ (Z7 (d:=Xq) a)).1;rw[Zo (Zl),Zb,show(i:Int).toNat=i from rfl,Q1 (d:=Xq) a,Bz];by_cases e:((c:Zac).getD i Xq).1=n
    ·rw[Zo (by simpa using e),if_pos e,Zb,Zb Aj,<-e,Ma]
    ·rw[Zm (beq_false_of_ne e),if_neg e,Zs a,b (i+1) Aa Aa]
   ·rw[Zm (Zk),Ln Aa];rfl
 grind[od,l6]
theorem U9{l:List Qa}(h:LK K l)(n:Int):(Bz n l).1.2.1.length<=1000:=by
 obtain⟨-,h⟩:=h
 induction l with
 |nil=>simp[Bz]
 |cons p r a=>
  unfold Bz;split
  ·exact(h p L9).1
  simp_all
theorem Qc4(d:Ba)(r t:Q9)(n:Int):∀(N:Nat)(x:Q9)(i:Int),(x:Zab)=(r:Zab)->m9 N d r t x n n i=Jf N d r t x n i
 |0,_,_,_=>rfl
 |N+1,x,i,h=>by
  rw[m9,Jf,h];cases Z (i<n)
  ·rfl
  ·simp only[pG];congr 1;congr 1;congr 1;exact Qc4 d r t n N _ _ rfl
theorem Z51(r:Q9)(hl:(r:SW).length<=1048576):kn r=W (r,()):=by grind[kn,Zb,Qg]
theorem Qxh(r:Q9)(hl:(r:SW).length<=1048576):JS r=wh r:=by simp_all[JS,wh,DO]
theorem Qre(r:Q9)(d:Ba)(hl:(r:SW).length<=1048576):QG r d=ip r d:=by unfold QG ip;rw[Z51 r hl,PK r hl,Qxh r hl];simp only[pA,Xm,Yb];congr 1;funext t;unfold uE;rw[Int.min_comm];exact Qc4 d r HG _ _ _ _ rfl
theorem MZ(F:jO s):0<=s.1:=by
 by_cases h:s.1=4\/s.1=5
 ·omega
 ·have:=(F.no h).st;simp_all[jM]
theorem Qot(l:List Zi)(a:Int)(hl:l.length<=1048576):fS l (a,a,())=W (l,()):=by simp_all[BE,iO]
theorem Qv0{K:Int}(h:Wp K s)(d:Ba)(hK:K+d.length<=1000000):pa s d=cL s d:=by
 have b:=h.e0;have f:=h.cells;have a:=h.eK;have i:=Qx h.pend b a;unfold pa cL tP yg;rw[qr h,uc h,xh h,R6 h,Qre s.2.1 d Aa];simp only[pA];cases hb:w0 s
 ·rfl
 have F:=(FI h Aa).1 hb;have e:(!((X&&((s.1==(0:Int))||(s.1==(1:Int))))&&((s:Zam)==(-1:Int))))=(((!X)||(Z (s.1>(1:Int))))||((s:Zam) !=(-1:Int))):=by
  have:=MZ F;rw[L2];simp;omega
 rw[e];cases (((!X)||(Z (s.1>(1:Int))))||((s:Zam) !=(-1:Int)))
 ·obtain⟨j,n,g,k,l,m⟩:=Z7i s.2.1 d Aa Aa b;simp only[pH,g,pA];rw[Zr (n:=(s:Zad)+(n:Int))];by_cases c:(n:Int)>0
  ·rw[Zo (Zl c),BE _ _,mR _ _];rfl
  ·obtain rfl:n=0:=Aa
   rw[Zm (Zk c)];simp only[Lx,Int.add_zero];rw[Qot _ _ Aa];rfl
 ·rfl
theorem Z9z(h:Qb K c)(id:Int)(d:Ba)(hK:K+d.length<=490000):xd c id d=cM c id d:=by
 have b:(c:Id).length<=1000000:=by have:=h.str.len;omega
 obtain⟨o,q,k⟩:=rN b id;unfold xd gA gH gJ tD tT cM tD tT;rw[V6 h,Y8 h,uT b,YA b,XZ h,LM h,dV h Aa];simp only[pA,Xm,Yb];generalize (bJ c&& !((c:ZaG) !=(0:Int)))=u;by_cases a:0<=Qe (c:Id) id
 ·have f:0<=Qe (c:Id) id/\Qe (c:Id) id<(c:Id).length:=⟨a,Aa⟩
  rw[Zb (by intros;exact f),Zb (by intros;exact f),Zb f,if_pos a,Zk];have l:(c:Id).getD (Qe (c:Id) id).toNat Zc∈(c:Id):=Z7;have g:=h.str.all _ l;have i:=k a;generalize r:(c:Id).getD (Qe (c:Id) id).toNat Zc=s at*
  simp only[pI,Lf,Lm,pJ];cases (!u|| !(s:Zak))
  ·obtain⟨x,n,e,hx⟩:=Zy3 g.snd d;have m:0<=Qe (c:Id) (s.1,x,s.2.2).1:=Ag
   have j:Xx (K+d.length) (s.1,x,s.2.2):=⟨hx.mono Aa,(g.mono (K':=K+d.length) Aa).rcv⟩
   rw[pH,pH,Qv0 g.snd d Aa,e];simp only[pA];rw[AD (h.str.mono Aa) j Aa m,i];rfl
  ·rfl
 ·rw[Zl (p:=Qe (c:Id) id<0),Zb Ac,Zb Ac,if_neg a];simp
def Q6{β:Type}(A:Zf->Int->Option ((Bool)×(Zf×Unit)))(x:Zf)(id:Int)(k:Zf->Option β):Option β:=K4 (Z5 (x:Id) id) λt14=>Ze (0<=t14.1/\t14.1<(x:Id).length)<|K4 (Vk x.1 id) λt13=>K4 (cond (t13.1||Fx ((x:Id).getD t14.1.toNat Zc)) (W (K3,())) (Vd ((x:Id).getD t14.1.toNat Zc))) λt24=>cond ((t13.1||Fx ((x:Id).getD t14.1.toNat Zc))||(!t24.1)) (k x) (K4 (A (k8 x ((x:Id).set t14.1.toNat (gO ((x:Id).getD t14.1.toNat Zc)))) id) λt33=>cond t33.1 (K4 (A t33.2.1 id) λt36=>cond t36.1 (K4 (Z0 (t36:ZaU)) λt39=>k (t36.2.1.1,t36.2.1.2.1,t36.2.1.2.2.1,t36.2.1.2.2.2.1,(t36:ZaP).1,(t36:ZaP).2.1,(t36:ZaP).2.2.1,(t36:Zbc).1,(t36:ZaO),t39.1,(t36:Zbc).2.2.2)) (K4 (Z0 (t36:ZaO)) λt39=>k (t36.2.1.1,t36.2.1.2.1,t36.2.1.2.2.1,t36.2.1.2.2.2.1,(t36:ZaP).1,(t36:ZaP).2.1,(t36:ZaP).2.2.1,(t36:Zbc).1,(t36:ZaO),t39.1,(t36:Zbc).2.2.2))) (K4 (A t33.2.1 id) λt36=>cond t36.1 (K4 (Z0 (t36:ZaU)) λt39=>k (t36.2.1.1,t36.2.1.2.1,t36.2.1.2.2.1,t36.2.1.2.2.2.1,(t36:ZaP).1,(t36:ZaP).2.1,(t36:ZaP).2.2.1,(t36:Zbc).1,t39.1,(t36:Zbc).2.2)) (K4 (Z0 (t36:ZaO)) λt39=>k (t36.2.1.1,t36.2.1.2.1,t36.2.1.2.2.1,t36.2.1.2.2.2.1,(t36:ZaP).1,(t36:ZaP).2.1,(t36:ZaP).2.2.1,(t36:Zbc).1,t39.1,(t36:Zbc).2.2))))
theorem Qta(x:Zf)(n:Int):Z2 x n=W (WN n,x,()):=by grind[Z2,MD,Tc]
theorem Qov(x:Zf)(n:Int):Xc x n=W (WN n,x,()):=by grind[Xc,MD,Tc]
theorem Qkm(x:Zf)(n:Int):Z2 x n=W (WN n,x,()):=by grind[Z2,MD,Tc]
theorem B9{A:Zf->Int->Option ((Bool)×(Zf×Unit))}(hA:∀x n,A x n=W (WN n,x,()))(h:mQ K (x:Id))(hK:K<=500000)(hi:0<=Qe (x:Id) id)(k:Zf->Option β):Q6 A x id k=k (fin x id):=by
 have i:=h.len;obtain⟨j,-,f⟩:=rN (l:=(x:Id)) Aa id;have g:=h.all _ (Z7 (d:=Zc) (show(Qe (x:Id) id).toNat<(x:Id).length by omega));have c:∀a,∃b,Z0 a=W (Hu a,b,()):=λa=>by
  obtain⟨⟨y,b,u⟩,e,m⟩:=TX a
  grind[Qk4]
 unfold Q6 fin;rw[uT Aa,YA Aa,pA];simp only;rw[Zb,df,RV,pA,Qsc g];simp only[bO,Gy];have e:((MF x.1 id||Fx (HA x id))|| !Su (HA x id))= !CO x.1 (HA x id):=by
  unfold CO;rw[f hi];cases Fx (HA x id)<;>cases MF x.1 id<;>cases Su (HA x id)<;>rfl
 rw[e];cases CO x.1 (HA x id)
 ·rfl
 ·rw[pI,pH,pG,hA,pA];obtain⟨o,p⟩:=c (x:Zav);obtain⟨q,r⟩:=c (x:Zay);unfold S5 aG;cases hu:WN id
  ·grind
  grind
theorem Qyg{K:Int}(h:Wp K s)(hK:K<=1000000)(hb:w0 s=X):(!((X&&((s.1==(0:Int))||(s.1==(1:Int))))&&((s:Zam)==(-1:Int))))=(((!X)||(Z (s.1>(1:Int))))||((s:Zam) !=(-1:Int))):=by have:=(((FI h hK).1 hb).st).1;rw[L2];simp;omega
theorem Qic{K:Int}(h:Wp K s)(hK:K<=1000000):oQ s=kK s:=by
 unfold oQ kK yg;rw[qr h hK,uc h hK,xh h hK,R6 h hK];simp only[pA]
 grind[Qyg]
theorem Z46(h:Qb K c)(id:Int)(hK:K<=490000):uy c id=iT c id:=by
 have b:(c:Id).length<=1000000:=by have:=h.str.len;omega
 obtain⟨m,o,j⟩:=rN b id;unfold uy gC gH gJ tD tT iT tD tT;rw[V6 h,Y8 h,uT b,YA b,XZ h,LM h,dV h Aa];simp only[pA,Xm,Yb];generalize (bJ c&& !((c:ZaG) !=(0:Int)))=u;by_cases a:0<=Qe (c:Id) id
 ·have d:0<=Qe (c:Id) id/\Qe (c:Id) id<(c:Id).length:=⟨a,Aa⟩
  rw[Zb (by intros;exact d),Zb (by intros;exact d),Zb d,if_pos a,Zk];have k:(c:Id).getD (Qe (c:Id) id).toNat Zc∈(c:Id):=Z7;have f:=h.str.all _ k;have g:=j a;generalize q:(c:Id).getD (Qe (c:Id) id).toNat Zc=s at*
  simp only[pI,Lf,Lm,pJ];cases (!u|| !(s:Zak))
  ·obtain⟨x,n,e,hx⟩:=Zx5 f.snd;have l:0<=Qe (c:Id) (s.1,x,s.2.2).1:=Ag
   have i:Xx K (s.1,x,s.2.2):=⟨hx,f.rcv⟩
   rw[pH,pH,Qic f.snd Aa,e];simp only[pA];rw[AD h.str i Aa l,g];rfl
  ·rfl
 ·rw[Zl (p:=Qe (c:Id) id<0),Zb Ac,Zb Ac,if_neg a];simp
theorem Qjg(h:Qb K c)(n:Int)(hK:K<=490000):KS c n=th c n:=by unfold KS gG tL th gG tL;rw[V6 h,Y8 h,XZ h,show Zy n (1:Int) (1000:Int)=Z8 n (1:Int) (1000:Int)from rfl,pA,pA]
theorem Z9e(h:Qb K c)(id n:Int)(hK:K<=490000):xb c id n=K4 (kU c id n) λy=>W y.1:=by
 have g:(c:Id).length<=1000000:=by have:=h.str.len;omega
 obtain⟨r,s,m⟩:=rN g id;unfold xb gD gG gH gJ tA tB tC tD tT kU tW;rw[V6 h,Y8 h,uT g,YA g,XZ h,LM h,dV h Aa];simp only[pA,Xm,Yb];generalize (bJ c&& !((c:ZaG) !=(0:Int)))=u;by_cases a:0<=Qe (c:Id) id
 ·have i:0<=Qe (c:Id) id/\Qe (c:Id) id<(c:Id).length:=⟨a,Aa⟩
  rw[Zb (by intros;exact i),Zb (by intros;exact i),Zb i,if_pos a,Zk];have l:(Qe (c:Id) id).toNat<(c:Id).length:=Aa
  have o:(c:Id).getD (Qe (c:Id) id).toNat Zc∈(c:Id):=Z7 l;have j:=h.str.all _ o;have d:=m a;simp only[pI,Lf,Lm,pJ];cases (!u|| !((c:Id).getD (Qe (c:Id) id).toNat Zc:Zak))
  ·obtain⟨x,k,e,hx⟩:=VE j.snd n;have f:Xx K (Gi (Sv (HA c id) x)):=⟨hx,j.rcv⟩
   rw[pH,pH,Zud j.snd Aa,e];simp only[pA];have q:0<=Qe ((c:Id).set (Qe (c:Id) id).toNat (Gi (Sv (HA c id) x))) id:=by
    rw[show Qe ((c:Id).set (Qe (c:Id) id).toNat (Gi (Sv (HA c id) x))) id=Qe (c:Id) id from Bl _ rfl];exact a
   have hk:=B9 (β:=Zf×Bool×Unit) Qta (x:=xU c id (Gi (Sv (HA c id) x))) (id:=id) (h.str.set f _) Aa q (λy=>cond (!k) (W (c,K3,())) (W (y,X,())));have hv:Ux h f Aa (show(Gi (Sv (HA c id) x)).1=id from d) a=Ux h f Aa d a:=rfl;refine Lr (b:=Q6 Z2 (xU c id (Gi (Sv (HA c id) x))) id (λy=>cond (!k) (W (c,K3,())) (W (y,X,())))) ?_ ?_
   ·simp only[ZR l,Lv];rfl
   ·rw[hk];cases k
    ·rfl
    ·have t:=Ux h f Aa (show(Gi (Sv (HA c id) x)).1=id from d) a
     grind
  ·rfl
 ·rw[Zl (p:=Qe (c:Id) id<0),Zb Ac,Zb Ac,if_neg a];simp
theorem Qcq(h:Qb K c)(id n:Int)(hK:K<=490000):yP c id n=mJ c id n:=by
 have b:(c:Id).length<=1000000:=by have:=h.str.len;omega
 obtain⟨o,r,j⟩:=rN b id;unfold yP gE gG gH gJ tB tD tN tO mJ gG tD;rw[V6 h,Y8 h,uT b,YA b,XZ h,LM h,dV h Aa];simp only[pA,Xm,Yb,Cs,J8,bO,Gy];by_cases a:0<=Qe (c:Id) id
 ·have d:0<=Qe (c:Id) id/\Qe (c:Id) id<(c:Id).length:=⟨a,Aa⟩
  rw[Zb (by intros;exact d),Zb (by intros;exact d),Zb d,if_pos a,Zk];have g:(Qe (c:Id) id).toNat<(c:Id).length:=Aa
  have i:(c:Id).getD (Qe (c:Id) id).toNat Zc∈(c:Id):=Z7 g;have e:=h.str.all _ i;have f:=j a;cases hc:bJ c
  ·rfl
  have F:=((Sp h).1 hc).st h Aa i;have k:0<=((c:Id).getD (Qe (c:Id) id).toNat Zc:Zat):=G1 e.rcv Aa F.rcv;rw[Bd k];simp only[ZR g,Lv];generalize t:(c:Id).getD (Qe (c:Id) id).toNat Zc=s at*
  have l:0<=Qe (c:Id) (s.1,s.2.1,(s:LE),(s:Fd),(s:Fn),(s:Zaz),(s:Zak),(s:Zao),(s:ZaE).1,X,(s:ZaX).1,X,n,(s:Zaw).2).1:=Ag
  have m:=AD h.str (s:=(s.1,s.2.1,(s:LE),(s:Fd),(s:Fn),(s:Zaz),(s:Zak),(s:Zao),(s:ZaE).1,X,(s:ZaX).1,X,n,(s:Zaw).2)) ⟨e.snd,e.rcv⟩ Aa l;rw[m,f];generalize ((c:ZaG) !=(0:Int))=q;cases q<;>cases (s:Zao)<;>cases (s:ZaM)<;>cases Z ((s:Zat)>1)<;>cases jq n<;>rfl
 ·rw[Zl (p:=Qe (c:Id) id<0),Zb Ac,Zb Ac,if_neg a];simp
theorem Qfg{b:Zx}(h:iv K b)(hK:K<=1000000)(m:Int):QE b m=qi b m:=by
 have d:=h.len;have f:=h.tot;obtain⟨r,s,i⟩:=Z60 h;unfold QE qi;rw[uP h hK,MV h hK,rp b,YV h hK];simp only[pA,Xm,Yb];unfold uC uD;by_cases j:min (cQ b) (max m 0)=0
 ·grind
 ·have e:min m (cQ b)=min (cQ b) (max m 0):=Aa
  rw[e];generalize t:min (cQ b) (max m 0)=n at*
  rw[Zm (Zk),Zm (by simp[j])];obtain⟨k,c,l,g,u⟩:=i Aa;obtain⟨o,p,v⟩:=zf Aa k;rw[Zr];obtain⟨z,w,_⟩:=b;simp only at g d f o p;subst g;simp only[Lb]at d;simp only[nP]at f;simp only[show(0:Int).toNat=0 from rfl,Mj,Lb];rw[Zb,Zb,Zb,Zb];by_cases a:n=(c.2.1.length:Int)
  ·rw[Zo (by simp[a]),Zo (by simp[a]),Zb,Zb];simp only[show(1:Int).toNat=1 from rfl,List.drop_succ_cons,Mg];have q:iv K ((z+n,l,()):Zx):=by
    constructor<;>grind[List.take_length]
   rw[YV q hK];simp_all
  ·rw[Zm (by simp[a]),Zm (by simp[a]),Zb,Zb,Zb,Zb,Zb,Zb]
   grind[Zb]
theorem Qnn{r:Zz}(h:iv K r.2.1)(hK:K<=1000000)(m:Int):ba r m=K4 (iI r m) λy=>W (y,()):=by
 unfold iI tT ba;rw[Oo h hK,YI h hK,zO h hK,Sf h hK,Qfg h hK];obtain⟨s,y,e,a,-⟩:=MS h hK m;rw[e];simp only[pA,m7,cJ];cases NZ r
 ·rfl
 cases r.1==4
 ·simp only[pI,pH];cases (r.1==2&&y.1==(r:Or))<;>rfl
 rfl
theorem Qyu{r:Zz}(h:iv K r.2.1)(hK:K<=1000000)(hb:NZ r=X):r.1<=5:=by
 have e:=Sf h hK;rw[hb]at e;unfold Yj gG at e;have a:=h.len;obtain⟨v,k⟩:=CS h hK;rw[lw _,rp _,k]at e;simp only[pA,J8,J0]at e
 grind[Kt]
theorem Qu4{r:Zz}(h:iv K r.2.1)(hK:K<=1000000)(h5:r.1<=5)(m:Int):
  ∃s y,ba r m=W ((s,y,()),())/\iv K y.2.1/\(y.1 !=4&&y.1 !=5)=Z (y.1<4):=by
 obtain⟨s,y,e,k,-⟩:=Zub h hK m;refine⟨s,y,e,k,?_⟩;have j:y.1=r.1\/y.1=3\/y.1=5:=by
  unfold ba at e;obtain⟨d,b,a,-,-⟩:=MS h hK m
  grind[HB,Sf,cJ]
 grind
theorem Qb7(h:Qb K c)(id n:Int)(hK:K<=490000):yO c id n=K4 (mH c id n) λy=>W y.1:=by
 have i:(c:Id).length<=1000000:=by have:=h.str.len;omega
 obtain⟨C,D,t⟩:=rN i id;unfold yO gB gG gH gJ tA tB tC tD tH tR mH tD;rw[V6 h,Y8 h,uT i,YA i,XZ h,LM h,dV h Aa];simp only[pA,Xm,Yb];by_cases b:0<=Qe (c:Id) id
 ·have j:0<=Qe (c:Id) id/\Qe (c:Id) id<(c:Id).length:=⟨b,Aa⟩
  rw[Zb (by intros;exact j),Zb (by intros;exact j),Zb j,if_pos b,Zk];have l:(Qe (c:Id) id).toNat<(c:Id).length:=Aa
  have m:(c:Id).getD (Qe (c:Id) id).toNat Zc∈(c:Id):=Z7 l;have d:=h.str.all _ m;have f:=t b;simp only[pI,Lf,Lm,pJ];cases hc:(bJ c&& !((c:ZaG) !=(0:Int)))
  ·rfl
  cases ((c:Id).getD (Qe (c:Id) id).toNat Zc:Zao)
  ·rfl
  have F:=((Sp h).1 Ag).st h Aa m;obtain⟨s,y,e,o,u⟩:=Qu4 d.rcv Aa (Qyu d.rcv Aa F.rcv) n;have v:iI ((c:Id).getD (Qe (c:Id) id).toNat Zc:Fd) n=W (s,y,()):=by
   have w:=Qnn d.rcv Aa n;rw[e,eq_comm,Option.bind_eq_some_iff]at w
   grind
  rw[v,e];simp only[pA,ZR l,Lv,u,pI,Lf,pH];have q:∀(x:Zf)(a:Zh),(x:Id)=(c:Id)->LK K (x:Zac)->Xx K a->a.1=id->Q6 Xc (xU x id a) id (λz=>W (s,((a:Zat)==(3:Int))||((a:Zat)==(5:Int)),z,()))=K4 (bZ Xl x a s (a:Fd)) λy=>W y.1:=by
   intro x a hx A g B;have r:Qb K x:=⟨by rw[hx];exact h.str,A⟩
   have k:0<=Qe (x:Id) id:=by rw[hx];exact b
   unfold bZ;rw[Ux r g Aa B k,B9 Qov (r.str.set g _) Aa _ _]
   ·rfl
   grind(splits:=20)[Bl]
  cases Z (y.1<4)
  ·exact q c (So ((c:Id).getD (Qe (c:Id) id).toNat Zc) y) rfl h.pk ⟨d.snd,o⟩ f
  ·simp only[Qsq,Qsr,rH,pA,Qhh,pG];exact q (Fj c (Gq (c:Zai) (K2.wrap (y.2.1.1- ((c:Id).getD (Qe (c:Id) id).toNat Zc:ZaY).2.1)))) (vW (So ((c:Id).getD (Qe (c:Id) id).toNat Zc) y) (Gq ((c:Id).getD (Qe (c:Id) id).toNat Zc:Fn) (K2.wrap (y.2.1.1- ((c:Id).getD (Qe (c:Id) id).toNat Zc:ZaY).2.1)))) rfl h.pk ⟨d.snd,o⟩ f
 ·rw[Zl (p:=Qe (c:Id) id<0),Zb Ac,Zb Ac,if_neg b];simp
theorem Z6o(c:aP):ye c=tf c:=by grind[ye,tf,NS,G4,Qyi,Zr]
theorem Qqa(n:Int)(s u:Bool):Ib n s u=qw n s u:=by
 unfold Ib qw;rw[bc,Ot];simp only[pA];cases hb:(Z (n>=0)&&Z (n<=1152921504606846975))
 ·rfl
 ·simp at hb;rw[Zb,show(min (2:Int).toNat K2.bits)=2 from rfl,Int.mul_comm 4];cases s<;>cases u<;>simp(disch:=omega) only[pe,lG,pG,pH,pI,pA,Zr]<;>grind
theorem Qbt(h:Qb K c)(u:Bool)(hK:K<=490000):yN c u=ed c u:=by
 have j:∀x n b,mQ K x.2.2.2.1->bP u c Xl x n b=Vt u c Xl x n b:=λx n b hx=>by
  unfold bP tD Vt tD;cases b
  ·rfl
  ·simp only[Qqa,Z26,pI,pH];refine congrArg (K4 _) (funext λt=>?_);obtain⟨b,e,a⟩:=D1 c.1 t.1 c.2.1 c.2.2.1;rw[e,pA,pA,Qxd hx (a.mono Aa),Z5g hx (a.mono Aa)]
 unfold yN tG tM ed;rw[V6 h,Y8 h,XZ h,LM h];simp only[pA];generalize ((!(bJ c&&_))||_:Bool)=q;cases q
 ·cases u
  ·unfold Vs tG tM;simp only[Kp,pH,pA,Z6o];exact congrArg (K4 _) (funext λt=>j _ _ _ h.str)
  ·unfold Vs tG tM;simp only[Kp,pH,pG,pA,Z6o];exact congrArg (K4 _) (funext λt=>j _ _ _ h.str)
 ·rfl
theorem Z4t(x:UInt8)(l:Ba):Lk (x::l) 32=ite (Lk l 32=[]/\x=32) [] (x::Lk l 32):=by
 unfold Lk;rw[List.reverse_cons,List.dropWhile_append];by_cases h:(l.reverse.dropWhile (· ==32))=[]
 ·by_cases hx:x=32<;>simp[h,hx]
 ·simp[h]
theorem Qfk(l:Ba)(x:UInt8):Lk (l++[x]) 32=ite (x=32) (Lk l 32) (l++[x]):=by unfold Lk;by_cases hx:x=32<;>simp[hx]
theorem UY(x:UInt8)(l:Ba):Lw (x::l) 32=ite (x=32) (Lw l 32) (x::l):=by unfold Lw;by_cases hx:x=32<;>simp[hx]
theorem RW:∀l:Ba,L3 l 32=Lk (Lw l 32) 32
 |[]=>rfl
 |x::l=>by
  have a:=RW l;unfold L3 at a⊢;rw[UY,Z4t];by_cases hx:x=32
  ·rw[if_pos hx,<-a]
   grind(splits:=20)[UY]
  simp_all[UY,Z4t]
theorem Qkw(x:UInt8):((x.toNat:Int)==32)=Z (x=32):=by rw[L2,beq_iff_eq,decide_eq_true_iff,<-M5,show(32:UInt8).toNat=32 from rfl];omega
theorem BR:∀(N:Nat)(s:Ba),s.length<N->s.length<=1000000->jh N s=W (Lk s 32,())
 |0,_,h,_=>Aa
 |N+1,s,a,b=>by
  unfold jh;rcases List.eq_nil_or_concat s with rfl|⟨l,x,rfl⟩
  ·simp[Lk,Ze]
  ·simp only[List.concat_eq_append]at*
   have c:(l++[x]).length=l.length+1:=Ac
   have e:K2.wrap (((l++[x]).length:Int)-1)=(l.length:Int):=Ao
   have g:(l++[x]).getD (l.length:Int).toNat 0=x:=Ac
   simp only[e];rw[g,Zb,Zl,pJ,Qfk,Qkw];by_cases hx:x=32
   ·rw[Zl hx,pG,Zb,if_pos hx,<-BR N l Aa Aa];simp
   simp_all
theorem Qof:∀(N:Nat)(s:Ba),s.length<N->s.length<=1000000->ef N s=W (L3 s 32,())
 |0,_,h,_=>Aa
 |N+1,[],a,b=>by
  simp_all[ef,BR,iq,RW,Lw,Ze]
 |N+1,x::s,a,b=>by
  have c:(x::s).length=s.length+1:=rfl;unfold ef;rw[Zb,show(0:Int).toNat=0 from rfl,Mj,Zl,pJ,Qkw,RW,UY];by_cases hx:x=32
  ·rw[Zl hx,pG,Zb,if_pos hx,<-RW,<-Qof N s Aa Aa];simp
  simp_all[BR,iq]
theorem Qx2(s:Ba)(hs:s.length<=1000000):xu s=W (L3 s 32,()):=by simp_all[xu,nH,Qof]
theorem Quh(p:Qz)(s:Ba)(hs:s.length<=100000):lj p s=fK p s:=by
 have c:∀(l:List Ba),l.length<=100001->(∀x∈l,x.length<=100000)-> ∀(t:Qz)(N i:Nat)(b:Qz),i<=l.length->Jp N b t l (l.length:Int) (i:Int)=Yq N b t l (i:Int):=by
  intro l g hx t N
  induction N with
  |zero=>intros;rfl
  |succ N d=>
   intro i b k;unfold Jp gH tT Yq gH tT;by_cases a:i<l.length
   ·have m:(l.getD i []).length<=100000:=hx _ (Z7 a);rw[Zo (Zl),Zo (Zl),Zb,Zb];simp only[Js,Zs a,d (i+1) _ Aa,show(i:Int).toNat=i from rfl]
    grind(splits:=20)[Qx2,TA,Zb]
   grind
 have j:∀b t,eT s b t=Wo s b t:=λb t=>by
  unfold eT Wo;obtain⟨y,e,n,o⟩:=Qwd s Aa 44;have f:=Qmg 44 s Aa;rw[show((44:UInt8).toNat:Int)=44 from rfl]at f;have:tl s [44]=W y:=by
   unfold tl;rw[Zb Ae,Qcm 44 _ _ (Mc _)]
   grind
  rw[this,e];exact c y.1 Aa (λx h=>Ag) t _ 0 b Aa
 unfold lj fK;rw[Zyi];simp only[j];rfl
theorem Qny(h:Qb K c)(id:Int)(t:Ba)(ht:t.length<=100000)(hK:K<=490000):xc c id t=kV c id t:=by
 have b:(c:Id).length<=1000000:=by have:=h.str.len;omega
 obtain⟨l,m,g⟩:=rN b id;unfold xc gF gH gJ tD tU kV tD tU;rw[V6 h,Y8 h,uT b,YA b,XZ h,LM h,dV h Aa];simp only[pA,Xm,Yb,Quh _ t ht];generalize (bJ c&& !((c:ZaG) !=(0:Int)))=u;by_cases a:0<=Qe (c:Id) id
 ·have d:0<=Qe (c:Id) id/\Qe (c:Id) id<(c:Id).length:=⟨a,Aa⟩
  rw[Zb (by intros;exact d),Zb (by intros;exact d),Zb d,if_pos a,Zk];have i:(Qe (c:Id) id).toNat<(c:Id).length:=Aa
  have j:(c:Id).getD (Qe (c:Id) id).toNat Zc∈(c:Id):=Z7 i;have f:=h.str.all _ j;have e:=g a;simp only[pI,Lf,Lm,pJ];cases (!u|| !((c:Id).getD (Qe (c:Id) id).toNat Zc:Zak))
  ·rw[pH,pH];refine congrArg (K4 _) (funext λq=>?_);generalize (c:Id).getD (Qe (c:Id) id).toNat Zc=s at*
   have k:0<=Qe (c:Id) (s.1,s.2.1,(s:LE),(s:Fd),(s:Fn),q.1,(s:Zbz)).1:=Ag
   rw[AD h.str (s:=(s.1,s.2.1,(s:LE),(s:Fd),(s:Fn),q.1,(s:Zbz))) ⟨f.snd,f.rcv⟩ Aa k,e];rfl
  ·rfl
 ·rw[Zl (p:=Qe (c:Id) id<0),Zb Ac,Zb Ac,if_neg a];simp
theorem Qf9(r t:Q9)(n:Int):∀(N:Nat)(x:Q9)(i:Int),oR N n r t x i=fD N n r t x i
 |0,_,_=>rfl
 |N+1,x,i=>by
  rw[oR,fD];simp only[Qf9 r t n N]
theorem Qil(r:Q9)(n:Int)(hl:(r:SW).length<=1048576):yb r n=nZ r n:=by
 unfold yb gG nZ;rw[Z51 r hl,PK r hl,DO r hl];refine congrArg (K4 _) (funext λa=>congrArg (K4 _) (funext λb=>?_));rw[bc];simp only[bO,Gy,Qf9];cases b.1
 ·rfl
 ·by_cases c:n<r.2.1<;>by_cases d:n>(r:Zab)<;>simp[c,d,show(r.2.1<=n)= ¬n<r.2.1 by simp,show(n<=(r:Zab))= ¬n>(r:Zab) by simp]<;>rfl
theorem Qri{K:Int}{x:Zn}(p:Qj)(t:Zn)(hx:Wp K x)(he:x.2.1=s.2.1)(h0:0<=(x:Zaf))(h3:(x:Zaf)<=3)(hK:K<=1000000):gu X s p t x 3=fx s p t x:=by
 have j:∀x:Zn,Wp K x->x.2.1=s.2.1->0<=(x:Zaf)->(x:Zaf)<=3->gv X t x=fA s t x:=λx hx he h0 h3=>by
  have c:=Qx hx.pO hx.e0 hx.eK hK;have b:=hx.cells;unfold gv fA;simp only[Xm,Yb,pG];rw[Z56 _ _,Ef _ _,<-he];simp only[pA];rw[Qil _ _ Aa];refine congrArg (K4 _) (funext λa=>?_);simp_all[ni,pz,jP,Gz]
 unfold gu tG fx tG;rw[j x hx he h0 h3];cases p.2.2.1&&((s:Zaf)==(2:Int))
 ·rfl
 ·exact j _ {cells:=hx.cells,e0:=hx.e0,eK:=hx.eK,pend:=hx.pend,pT:=hx.pT,pO:=hx.pO} he Ac Ac
theorem Qrj{K:Int}{s:Zn}(p:Qj)(t:Zn)(hK:K<=1000000)(c:List Zi)(hcl:c.length<=1048576)(hc:∀y∈c,y.2.1<=(s:Zad)):∀(N i:Nat)(x:Zn),Wp K x->x.2.1=s.2.1->0<=(x:Zaf)->(x:Zaf)<=3->
  gw N X s p t x 3 c (c.length:Int) (i:Int)=fB N s p t x c (i:Int)
 |0,_,_,_,_,_,_=>rfl
 |N+1,i,x,hx,a,b,f=>by
  have lf:=Qx hx.pT hx.e0 hx.eK hK;have j:=Qx hx.pO hx.e0 hx.eK hK;unfold gw gH gK fB gH gK;by_cases h:i<c.length
  ·have g:=hc _ (Z7 (d:=Z3) h);have e:(x:Zad)=(s:Zad):=by rw[a]
   rw[Zo (Zl),Zo (Zl),Zb,Zb,z0 _ _,C3 _ _,pA,pA,Zb,mR _ _,BE _ _,Zs h];exact Qrj p t hK c hcl hc N (i+1) _ (hx.lists (UV hx.pT) (qE hx.pO (by rw[e];exact g))) a b f
  ·rw[Zm (Zk),Zm (Zk)]
   grind[Qri]
theorem Qms{x:Zn}(p:Qj)(t:Zn)(h0:0<=(x:Zaf))(h3:(x:Zaf)<=3):gq K3 s p t x 1=dv s p t x:=by simp_all[gq,dv,ng,nh,iV,jP,Gz]
theorem Qmt{K:Int}{s:Zn}(p:Qj)(t:Zn)(hK:K<=1000000)(c:List Zi)(hcl:c.length<=1048576)(hc:∀y∈c,y.2.1<=(s:Zad)):∀(N i:Nat)(x:Zn),Wp K x->x.2.1=s.2.1->0<=(x:Zaf)->(x:Zaf)<=3->
  gt N K3 s p t x 1 c (c.length:Int) (i:Int)=dw N s p t x c (i:Int)
 |0,_,_,_,_,_,_=>rfl
 |N+1,i,x,hx,a,b,f=>by
  have lf:=Qx hx.pT hx.e0 hx.eK hK;have j:=Qx hx.pend hx.e0 hx.eK hK;unfold gt gH gK dw gH gK;by_cases h:i<c.length
  ·have g:=hc _ (Z7 (d:=Z3) h);have e:(x:Zad)=(s:Zad):=by rw[a]
   rw[Zo (Zl),Zo (Zl),Zb,Zb,z0 _ _,C3 _ _,pA,pA,Zb,mR _ _,BE _ _,Zs h];exact Qmt p t hK c hcl hc N (i+1) _ {cells:=hx.cells,e0:=hx.e0,eK:=hx.eK,pend:=qE hx.pend (by rw[e];exact g),pT:=UV hx.pT,pO:=hx.pO} a b f
  simp_all[Zk,Qms]
theorem Z5z{l:List Zi}{E:Int}(h:RL E l)(r:Zi):∀y∈PS l r,y.2.1<=E:=TG h.2
theorem Qrp(m:Oa β):(K4 m λt=>W (t.1,()))=m:=by cases m<;>rfl
theorem Qh8{K:Int}(h:Wp K s)(hK:K<=1000000)(p:Qj):KQ s p=nY s p:=by
 have c:=Qx h.pT h.e0 h.eK hK;unfold KQ QO gG nY gG bh;rw[pG,qr h hK,uc h hK,xh h hK,R6 h hK];simp only[pA,Cy h hK,LN,bO,bc];cases hb:w0 s
 ·rfl
 have F:=(FI h hK).1 hb;have a:=MZ F;rw[Zl (p:=s.1>=0) a];by_cases b:s.1<=2
 ·rw[Zl b,Zk (p:=s.1>2)];cases PW s p
  ·rfl
  ·simp only[pG,pH,pI,Ld,Lc,pA,Lq,pJ,L1];rw[Qrp];unfold vl ki;rw[LI _ _,pA,pA,O0 _ _,Qri p _ h rfl F.fin.1 F.fin.2 hK];have d:=Qah (s:Zae) (p.1,K2.wrap (p.1+(p.2.1.length:Int)),());simp only[pA];have:=Qrj p Jn hK _ Aa (Z5z h.pT (p.1,K2.wrap (p.1+(p.2.1.length:Int)),())) (lU s p Jn s (PS (s:Zae) (p.1,K2.wrap (p.1+(p.2.1.length:Int)),())) 0) 0 s h rfl F.fin.1 F.fin.2;rw[show((0:Nat):Int)=0 from rfl]at this;rw[<-this];rfl
 grind
theorem Qd8{K:Int}(h:Wp K s)(hK:K<=1000000)(p:Qj):ZT s p=lF s p:=by
 have c:=Qx h.pT h.e0 h.eK hK;unfold ZT QN gG lF gG bh;rw[pH,qr h hK,uc h hK,xh h hK,R6 h hK];simp only[pA,Cy h hK,LN,bO,bc];cases hb:w0 s
 ·rfl
 have F:=(FI h hK).1 hb;have a:=MZ F;rw[Zl (p:=s.1>=0) a];by_cases b:s.1<=2
 ·rw[Zl b,Zk (p:=s.1>2)];cases PW s p
  ·rfl
  ·simp only[pG,pH,pI,Ld,Lc,pA,Lq,pJ,L1];rw[Qrp];unfold vk ki;rw[LI _ _,pA,pA,O0 _ _,Qms p _ F.fin.1 F.fin.2];have d:=Qah (s:Zae) (p.1,K2.wrap (p.1+(p.2.1.length:Int)),());simp only[pA];have:=Qmt p Jn hK _ Aa (Z5z h.pT (p.1,K2.wrap (p.1+(p.2.1.length:Int)),())) (kf s p Jn s (PS (s:Zae) (p.1,K2.wrap (p.1+(p.2.1.length:Int)),())) 0) 0 s h rfl F.fin.1 F.fin.2;rw[show((0:Nat):Int)=0 from rfl]at this;rw[<-this];rfl
 grind
abbrev bn(c:Zf):List Qa:=(c:Zac)
abbrev v6(c:Zf)(l:List Qa):Zf:=(c.1,c.2.1,c.2.2.1,(c:Id),(c:Zah),(c:Zai),(c:Zar),(c:Zaq),(c:Zay),(c:Zav),(c:ZaZ).2.1,(c:ZaB).1,(c:ZaB).2.1,(c:ZaN).1,(c:ZaI),l,(c:ZaT).2)
def qC(m:Int):List Qa->Option Nat|[]=>none|p::r=>ite (p.1=m) (W 0) ((qC m r).map (· +1))
theorem Qsj{l:List Qa}(m:Int)(hl:l.length<=1000000):∀(N i:Nat),l.length-i<N->i<=l.length->Qt N l (m,()) (l.length:Int) (i:Int)=W (match qC m (l.drop i)with|none=> -1|some p=>((i+p:Nat):Int),())
 |0,_,h,_=>Aa
 |N+1,i,b,c=>by
  unfold Qt gH gI;by_cases a:i<l.length
  ·rw[Zo (Zl),Zb,show(i:Int).toNat=i from rfl,Zs a,Q1 (d:=Xq) a,Qsj m hl N (i+1) Aa Aa];show K4 (W ((l.getD i Xq).1==m,())) _=_
   grind[qC]
  ·rw[Zm (Zk),Ls Aa];rfl
theorem Qxa(m:Int)(hl:(bn c).length<=1000000):pg c m=W (match qC m (bn c)with|none=> -1|some p=>(p:Int),()):=by unfold pg Yo;have:=Qsj m hl (Q4 (bn c) (m,()) ((bn c).length:Int) 0) 0 (by simp[Q4]) Aa;simp_all
theorem Qsi(m:Int):∀{l:List Qa},Bz m l=match qC m l with|none=>(((0:Int),([]:List Zj),()),K3,())|some i=>(l.getD i Xq,X,())
 |[]=>rfl
 |p::r=>by
  unfold Bz qC;rw[Qsi m]
  grind
theorem Qnj{m:Int}:∀{l:List Qa}{i:Nat},qC m l=W i->i<l.length
 |p::r,i,h=>by
  unfold qC at h;split at h
  ·cases h;simp
  ·cases hr:qC m r with
   |none=>simp_all
   |some q=>
    have:=Qnj hr
    grind
theorem Qni{n:Int}:∀{l:List Qa}{q:Int},Bg n (W q) l=X-> ∀p∈l,q<p.1
 |x::r,q,h,p,hp=>by
  simp only[Bg,pC,decide_eq_true_eq]at h;rcases L0.1 hp with e|hp
  ·simp_all
  ·have:=Qni h.2 p hp;omega
theorem Qby{n m:Int}:∀{l:List Qa}{o:Option Int}{i:Nat},Bg n o l=X->qC m l=W i->l.filter (λp=>p.1 !=m)=l.take i++l.drop (i+1)
 |x::r,o,i,h,hx=>by
  simp only[Bg,pC]at h;unfold qC at hx;by_cases e:x.1=m
  ·rw[if_pos e]at hx;cases hx;have:∀p∈r,(p.1 !=m)=true:=λp a=>by have:=Qni h.2 p a;simp;omega
   grind[Mx]
  ·rw[if_neg e]at hx;cases hr:qC m r with
   |none=>simp_all
   |some q=>
    have:=Qby h.2 hr
    grind
theorem Qrw(h:Qb K c)(hK:K<=1000000)(m:Int):rK c m=W ((),v6 c ((bn c).filter λp=>p.1 !=m),()):=by
 have e:(bn c).length<=K:=h.pk.1;have f:(c:Zac).length=(bn c).length:=rfl;have g:∀(N i:Nat)(o:List Qa),(bn c).length-i<N->i<=(bn c).length->o.length<=i->bH N c m o (i:Int)=W ((),v6 c (o++((bn c).drop i).filter λp=>p.1 !=m),()):=by
  intro N
  induction N with
  |zero=>omega
  |succ N a=>
   intro i o j k l;unfold bH gH gI tJ;by_cases b:i<(bn c).length
   ·rw[Zo (Zl),Zb,Zb,Zb (by unfold Qg;simp;omega),show(i:Int).toNat=i from rfl,Q1 (d:=Xq) b];simp only[mL,Zs b];rw[a (i+1) _ Aa Aa Ae,a (i+1) _ Aa Aa Aa];rw[Mw];cases ((bn c).getD i Xq).1 !=m
    all_goals simp_all
   simp_all[Zk,Ls]
 grind[nM,rK]
def uY(c:Zf)(m:Int):Bool:=(bJ c&& !((c:ZaG) !=(0:Int)))&&(Bz m (bn c)).2.1
theorem Qb8(h:Qb K c)(hK:K<=1000000)(m:Int):QM c m=W (cond (uY c m) (v6 c ((bn c).filter λp=>p.1 !=m),(Bz m (bn c)).1.2.1,X,()) (c,[],K3,())):=by
 have b:(bn c).length<=K:=h.pk.1;have d:(c:Zac).length=(bn c).length:=rfl;unfold QM;simp only[Xm,Yb];rw[V6 h hK,Qxa m Aa];simp only[pA];unfold yQ gH gI tJ uY;rw[XZ h hK,LM h hK,pA,Qsi];cases hx:qC m (bn c)with
 |none=>simp
 |some i=>
  have a:=Qnj hx;simp only[Zk (p:=((i:Nat):Int)<0),Lf,L1];cases hc:(bJ c&& !((c:ZaG) !=(0:Int)))
  ·rfl
  ·rw[Zb,Zs a];unfold LC;rw[Zb,Int.toNat_natCast,Qby ((Sp h hK).1 Af).pks hx];rfl
abbrev PC(f:Zj):Qj:=((f:LT),(f:IO),(f:Zas),())
abbrev I7(s:Zh)(b:Bool):Zh:=(s.1,s.2.1,(s:LE),(s:Fd),(s:Fn),(s:Zaz),(s:Zak),(s:Zao),b,(s:ZaE).2)
abbrev Qwq(s:Zh)(b:Bool):Zh:=(s.1,s.2.1,(s:LE),(s:Fd),(s:Fn),(s:Zaz),(s:Zak),(s:Zao),(s:ZaE).1,b,(s:ZaX))
def Qx6(m:Oa Zn):Zn:=match m with|some (y,_)=>y|none=>Jn
def SK(f:Zj):Bool:=(((f.1==(4:Int))||(f.1==(5:Int)))||(f.1==(8:Int)))||((f.1==(17:Int))||(f.1==(21:Int)))
def Df(s:Zn):Bool:=w0 s&&(s.1==4)
theorem arS{K:Int}(h:Wp K s)(hK:K<=1000000:=by omega):kp s=W (cond (Df s) (5,s.2) s,Df s,()):=by grind[kp,Df,uc,R6]
theorem arI{K:Int}(h:Wp K s)(hK:K<=1000000):KR s=kp s:=by grind[KR,kp,uc,qr,xh]
def Rv(s:Zh)(f:Zj):Zh:=cond (f.1==8) (Sv s (Qx6 (nY s.2.1 (PC f)))) (cond (f.1==4) (cond (Df s.2.1) (I7 (Sv s (5,s.2.1.2)) K3) s) (cond (f.1==5) (Qwq s K3) s))
theorem oM{s:Zh}(h:Xx K s)(hK:K<=1000000)(f:Zj):Xx K (Rv s f):=by
 unfold Rv;obtain⟨x,e,hx⟩:=l7 h.snd (PC f);rw[e];cases f.1==8
 ·cases f.1==4
  ·cases f.1==5
   ·exact h
   ·exact⟨h.snd,h.rcv⟩
  ·cases Df s.2.1
   ·exact h
   ·exact⟨{cells:=h.snd.cells,e0:=h.snd.e0,eK:=h.snd.eK,pend:=h.snd.pend,pT:=h.snd.pT,pO:=h.snd.pO},h.rcv⟩
 ·exact⟨hx,h.rcv⟩
theorem Ri(s:Zh)(f:Zj):(Rv s f).1=s.1:=by unfold Rv;cases f.1==8<;>cases f.1==4<;>cases f.1==5<;>cases Df s.2.1<;>rfl
def To(x:Zf)(f:Zj):Zf:=cond (SK f&&Z (0<=Qe (x:Id) f.2.1)) (fin (xU x f.2.1 (Rv (HA x f.2.1) f)) f.2.1) x
theorem Qka(f:Zj):Vr f=W (SK f,()):=by rw[<-Qkc];exact zv f
theorem Qch{l:List α}{d:α}:l.set i (l.getD i d)=l:=by
 by_cases h:i<l
 all_goals simp_all[List.set_eq_of_length_le]
theorem Qv3(h:Qb K x)(hK:K<=490000)(f:Zj):z8 x f=W ((),To x f,()):=by
 have i:=h.str.len;obtain⟨j,k,m⟩:=rN (l:=(x:Id)) Aa f.2.1;unfold z8 wn gG tB tT tW To;rw[dV h Aa,Xm,pA];simp only[Qka,bO,Gy];by_cases a:0<=Qe (x:Id) f.2.1
 ·rw[if_pos a,Zl a];have g:HA x f.2.1∈(x:Id):=Z7;have c:=h.str.all _ g;have b:∀d,d=Rv (HA x f.2.1) f->br x d=W ((),fin (xU x f.2.1 (Rv (HA x f.2.1) f)) f.2.1,()):=λd e=>by
   unfold br;rw[e,Ux h (oM c Aa f) Aa (by grind[Ri]) a];rfl
  cases SK f
  ·rfl
  ·simp only[pI,Lc,Ld,pH,pG];obtain⟨y,e,n⟩:=l7 c.snd (PC f);rw[arS c.snd,show yC f=W (PC f,())from rfl,pA,e];cases h8:f.1==8
   ·cases h4:f.1==4
    ·cases h5:f.1==5
     ·exact b _ (by unfold Rv;rw[h8,h4,h5];rfl)
     ·exact b _ (by unfold Rv;rw[h8,h4,h5];rfl)
    ·cases hb:Df (HA x f.2.1).2.1
     ·exact b _ (by unfold Rv;rw[h8,h4,hb];rfl)
     ·exact b _ (by unfold Rv;rw[h8,h4,hb];rfl)
   ·exact b _ (by unfold Rv;rw[h8,e];rfl)
 ·rw[if_neg a,Zk a];simp
theorem Qpn(h:Qb K x)(hK:K<=490000)(hi:0<=Qe (x:Id) id):Qb K (fin x id):=by
 have b:=h.str.len;obtain⟨c,e,f⟩:=rN (l:=(x:Id)) Aa id;have a:=h.str.all _ (Z7 (d:=Zc) (show(Qe (x:Id) id).toNat<(x:Id) by omega));refine⟨?_,?_⟩
 ·rw[Qpo];cases CO x.1 (HA x id)
  ·exact h.str
  ·exact h.str.set (s:=gO (HA x id)) ⟨a.snd,a.rcv⟩ _
 ·unfold fin S5;cases CO x.1 (HA x id)
  ·exact h.pk
  ·cases WN id<;>exact h.pk
theorem Qcf{s:Zh}(hi:0<=Qe (x:Id) id)(hl:(x:Id).length<=1000000)(h:s.1=(HA x id).1):0<=Qe (xU x id s:Id) id:=by grind[Bl]
theorem Z93(h:Qb K x)(hK:K<=490000)(f:Zj):Qb K (To x f):=by
 have e:=h.str.len;unfold To;by_cases a:0<=Qe (x:Id) f.2.1
 ·obtain⟨g,i,j⟩:=rN (l:=(x:Id)) Aa f.2.1;rw[Zl a];cases SK f
  ·exact h
  ·have b:=h.str.all _ (Z7 (d:=Zc) (show(Qe (x:Id) f.2.1).toNat<(x:Id) by omega));have c:=oM b Aa f;exact Qpn (x:=xU x f.2.1 (Rv (HA x f.2.1) f)) ⟨h.str.set c _,h.pk⟩ hK (Qcf a Aa (Ri _ f))
 grind
theorem Qkd{K:Nat}(hK:K<=490000)(t:Zf)(fs:List Zj)(hf:fs.length<=1000000):∀(N i:Nat)(x:Zf),Qb K x->fs-i<N->i<=fs->Yc N t x fs fs (i:Int)=W ((fs.drop i).foldl To x,X,())
 |0,_,_,_,h,_=>Aa
 |N+1,i,x,h,u,w=>by
  have A:=h.str.len;rw[Yc];by_cases m:i<fs
  ·rw[Zo (Zl),Zb,show(i:Int).toNat=i from rfl,Zs m,Q1 (d:=Z9) m,L6,<-Qkd hK t fs hf N (i+1) _ (Z93 h hK _) Aa Aa];generalize fs.getD i Z9=f;obtain⟨B,C,q⟩:=rN (l:=(x:Id)) Aa f.2.1;rw[uT Aa,YA Aa,pA];simp only[zv,pA];unfold To SK;cases (((f.1==(4:Int))||(f.1==(5:Int)))||(f.1==(8:Int)))||((f.1==(17:Int))||(f.1==(21:Int)))
   ·rfl
   by_cases j:0<=Qe (x:Id) f.2.1
   ·have o:(Qe (x:Id) f.2.1).toNat<(x:Id):=Aa
    rw[Zl j,Zk (p:=Qe (x:Id) f.2.1<0),pI,Lf,pH,Ld,pG,Zb];have a:=h.str.all _ (Z7 (d:=Zc) o);have r:=q j;have b:∀(k:(Zf×Zf×List Zj×Int×Int×Unit)->Oc Zf Bool)(n:Zh),n=Rv (HA x f.2.1) f->aU k t (xU x f.2.1 n) fs f fs (i:Int)=k (t,fin (xU x f.2.1 (Rv (HA x f.2.1) f)) f.2.1,fs,fs,((i+1:Nat):Int),()):=λk n e=>by
     have s:=oM a Aa f;have:=B9 (β:=Zf×Bool×Unit) Qkm (x:=xU x f.2.1 (Rv (HA x f.2.1) f)) (id:=f.2.1) (h.str.set s _) Aa (Qcf j Aa (Ri _ f)) (λz=>k (t,z,fs,fs,((i+1:Nat):Int),()));rw[<-this,e];unfold aU gG gH gJ tA tB tC tD;rw[Zs m];rfl
    obtain⟨y,e,D⟩:=l7 a.snd (PC f);rw[arI a.snd Aa,arS a.snd,show QL f=W (PC f,())from rfl,pA,Qh8 a.snd Aa,e];simp only[ZR o,Lv];have c:xU x f.2.1 (HA x f.2.1)=x:=by grind[Qch]
    cases h8:f.1==8
    ·cases h4:f.1==4
     ·cases h5:f.1==5
      ·have g:=b (λv=>Yc N v.1 v.2.1 v.2.2.1 v.2.2.2.1 (v:Zbm)) (HA x f.2.1) (by unfold Rv;rw[h8,h4,h5];rfl)
       grind
      ·exact b (λv=>Yc N v.1 v.2.1 v.2.2.1 v.2.2.2.1 (v:Zbm)) _ (by unfold Rv;rw[h8,h4,h5];rfl)
     ·cases hb:Df (HA x f.2.1).2.1
      ·have g:=b (λv=>Yc N v.1 v.2.1 v.2.2.1 v.2.2.2.1 (v:Zbm)) (HA x f.2.1) (by unfold Rv;rw[h8,h4,hb];rfl);rw[c]at g;exact g
      ·exact b (λv=>Yc N v.1 v.2.1 v.2.2.1 v.2.2.2.1 (v:Zbm)) (I7 (Sv (HA x f.2.1) (5,(HA x f.2.1).2.1.2)) K3) (by unfold Rv;rw[h8,h4,hb];rfl)
    ·exact b (λv=>Yc N v.1 v.2.1 v.2.2.1 v.2.2.2.1 (v:Zbm)) (Sv (HA x f.2.1) y) (by unfold Rv;rw[h8,e];rfl)
   ·rw[Zk j,Zl (p:=Qe (x:Id) f.2.1<0)];rfl
  simp_all[Zk,Ls]
theorem Qkh{K:Nat}(hK:K<=490000)(t:Zf)(p:Qa)(hf:p.2.1.length<=1000000):∀(N i:Nat)(x:Zf),Qb K x->p.2.1-i<N->i<=p.2.1->di N t x p (i:Int)=W (((p.2.1.drop i).foldl To x,X,()),())
 |0,_,_,_,h,_=>Aa
 |N+1,i,x,h,b,c=>by
  rw[di];by_cases a:i<p.2.1
  ·rw[Zo (Zl),Zb,show(i:Int).toNat=i from rfl,Zs a,Q1 (d:=Z9) a,L6,Qv3 h hK,pA,Qkh hK t p hf N (i+1) _ (Z93 h hK _) Aa Aa]
  grind
theorem Tf(h:Qb K c)(q:Qa->Bool):Qb K (v6 c ((bn c).filter q)):=⟨h.str,Lg (Lz _ _) h.pk.1,λp a=>h.pk.2 p (Mk.1 a).1⟩
def Ou(c:Zf)(n:Int):Zf:=cond (uY c n) ((Bz n (bn c)).1.2.1.foldl To (v6 c ((bn c).filter λp=>p.1 !=n))) c
theorem Qrh(h:Qb K c)(hK:K<=490000)(n:Int):py c n=W ((Ou c n,uY c n,()),()):=by
 have a:(Bz n (bn c)).1.2.1.length<=1000:=U9 h.pk n;unfold py Ou uY;rw[Y8 h,Qsg h Aa,LM h];simp only[pA];cases (bJ c&& !((c:ZaG) !=(0:Int)))
 ·rfl
 ·cases hb:(Bz n (bn c)).2.1
  ·rfl
  ·rw[Qrw h Aa];simp only[pI,Lc,pH,pA,Ld,pG];have:=Qkh hK Xl (Bz n (bn c)).1 Aa (dj Xl (v6 c ((bn c).filter λp=>p.1 !=n)) (Bz n (bn c)).1 0) 0 _ (Tf h λp=>p.1 !=n) (by simp[dj]) Aa;exact this
theorem Qv2(h:Qb K c)(hK:K<=490000)(n:Int):ZS c n=W (Ou c n,uY c n,()):=by
 have a:(Bz n (bn c)).1.2.1.length<=1000:=U9 h.pk n;unfold ZS Ou;rw[Qb8 h Aa,pA];cases uY c n
 ·rfl
 ·have:=Qkd hK Xl (Bz n (bn c)).1.2.1 Aa (j0 Xl (v6 c ((bn c).filter λp=>p.1 !=n)) (Bz n (bn c)).1.2.1 (Bz n (bn c)).1.2.1 0) 0 _ (Tf h λp=>p.1 !=n) (by simp[j0]) Aa;exact this
abbrev Qy4(s:Zh)(b:Bool):Zh:=(s.1,s.2.1,(s:LE),(s:Fd),(s:Fn),(s:Zaz),(s:Zak),(s:Zao),(s:ZaE).1,(s:ZaS),b,(s:ZaX).2)
def GM(s:Zh)(f:Zj):Zh:=cond (f.1==8) (Sv s (Qx6 (lF s.2.1 (PC f)))) (cond (f.1==4) (I7 s (s.2.1.1==4)) (cond (f.1==5) (Qwq s (Z ((s:Zat)<2))) (cond (f.1==17) (Qy4 s X) s)))
theorem Qbn{s:Zh}(h:Xx K s)(hK:K<=1000000)(f:Zj):Xx K (GM s f):=by unfold GM;obtain⟨x,e,hx⟩:=Fa h.snd (PC f);rw[e];cases f.1==8<;>cases f.1==4<;>cases f.1==5<;>cases f.1==17<;>first|exact h|exact⟨h.snd,h.rcv⟩|exact⟨hx,h.rcv⟩
theorem Qg1(s:Zh)(f:Zj):(GM s f).1=s.1/\(GM s f:Fd)=(s:Fd):=by unfold GM;cases f.1==8<;>cases f.1==4<;>cases f.1==5<;>cases f.1==17<;>exact⟨rfl,rfl⟩
abbrev tl0(x:Zf):Zf:=(x.1,x.2.1,x.2.2.1,(x:Id),(x:Zah),(x:Zai),(x:Zar),(x:Zaq),(x:Zay),(x:Zav),X,(x:ZaB))
abbrev tl1(x:Zf):Zf:=(x.1,x.2.1,x.2.2.1,(x:Id),(x:Zah),(x:Zai),(x:Zar),(x:Zaq),(x:Zay),(x:Zav),(x:ZaZ).2.1,(x:ZaB).1,X,(x:ZaN))
abbrev tl2(x:Zf):Zf:=(x.1,x.2.1,x.2.2.1,(x:Id),(x:Zah),(x:Zai),(x:Zar),(x:Zaq),(x:Zay),(x:Zav),(x:ZaZ).2.1,X,(x:ZaB).2)
def Tg(x:Zf)(f:Zj):Zf:=cond (f.1==16) (tl0 x) (cond (f.1==18) (cond (f:ZaA) (tl1 x) (tl2 x)) (cond (SK f&&Z (0<=Qe (x:Id) f.2.1)) (xU x f.2.1 (GM (HA x f.2.1) f)) x))
def SO(x:Zf):Prop:= ∀s∈(x:Id),0<=(s:Zat)
theorem Qbo(h:Qb K x/\SO x)(hK:K<=490000)(f:Zj):Qb K (Tg x f)/\SO (Tg x f):=by
 have g:=h.1.str.len;unfold Tg;cases f.1==16
 ·cases f.1==18
  ·by_cases b:0<=Qe (x:Id) f.2.1
   ·obtain⟨i,j,k⟩:=rN (l:=(x:Id)) Aa f.2.1;rw[Zl b];cases SK f
    ·exact h
    ·have a:=Z7 (d:=Zc) (show(Qe (x:Id) f.2.1).toNat<(x:Id) by omega);refine⟨⟨h.1.str.set (Qbn (h.1.str.all _ a) Aa f) _,h.1.pk⟩,λs c=>?_⟩;rcases Ml c with e|e
     ·exact h.2 s e
     ·rw[e,(Qg1 _ f).2];exact h.2 _ a
   grind
  ·cases (f:ZaA)<;>exact⟨⟨h.1.str,h.1.pk⟩,h.2⟩
 ·exact⟨⟨h.1.str,h.1.pk⟩,h.2⟩
theorem Qwx(h:Qb K x)(hK:K<=490000)(f:Zj):xw x f=W ((),Tg x f,()):=by
 have j:=h.str.len;obtain⟨k,m,n⟩:=rN (l:=(x:Id)) Aa f.2.1;unfold xw tE tN tO Tg;cases h16:f.1==16
 ·cases h18:f.1==18
  ·unfold so gG tB tC tE tT;rw[dV h Aa,Xm,pA];simp only[Qka,bO,Gy];by_cases a:0<=Qe (x:Id) f.2.1
   ·rw[if_pos a,Zl a];have i:HA x f.2.1∈(x:Id):=Z7;have d:=h.str.all _ i;have b:∀c,c=GM (HA x f.2.1) f->ao x c=W ((),xU x f.2.1 (GM (HA x f.2.1) f),()):=λc e=>by
     unfold ao tD;have g:(GM (HA x f.2.1) f).1=f.2.1:=by grind[Qg1]
     rw[e,AD h.str (Qbn d Aa f) Aa (by rw[g];exact a),g];rfl
    cases SK f
    ·rfl
    ·simp only[pI,Lc,Ld,pH,pG];obtain⟨y,e,o⟩:=Fa d.snd (PC f);rw[show yC f=W (PC f,())from rfl,pA,e];cases h8:f.1==8
     ·cases h4:f.1==4
      ·cases h5:f.1==5
       ·cases h17:f.1==17
        ·exact b _ (by unfold GM;rw[h8,h4,h5,h17];rfl)
        ·exact b _ (by unfold GM;rw[h8,h4,h5,h17];rfl)
       ·exact b _ (by unfold GM;rw[h8,h4,h5];rfl)
      ·exact b _ (by unfold GM;rw[h8,h4];rfl)
     ·exact b _ (by unfold GM;rw[h8,e];rfl)
   ·rw[if_neg a,Zk a];simp
  ·cases (f:ZaA)<;>rfl
 ·rfl
theorem Qq0{r:Zz}(h:0<=r.1):lv r=W (Z (r.1<2),()):=by grind[Bd,Zk]
theorem Qmo{K:Nat}(hK:K<=490000)(t:Zf)(fs:List Zj)(hf:fs.length<=1000000):∀(N i:Nat)(x:Zf),Qb K x/\SO x->fs-i<N->i<=fs->Jh N t x fs fs (i:Int)=W ((fs.drop i).foldl Tg x,X,())
 |0,_,_,_,h,_=>Aa
 |N+1,i,x,g,q,r=>by
  have h:=g.1;have s:=h.str.len;rw[Jh];by_cases j:i<fs
  ·rw[Zo (Zl),Zb,show(i:Int).toNat=i from rfl,Q1 (d:=Z9) j,L6,<-Qmo hK t fs hf N (i+1) _ (Qbo g hK _) Aa Aa];generalize fs.getD i Z9=f;obtain⟨u,w,A⟩:=rN (l:=(x:Id)) Aa f.2.1;have k:∀z:Zf,(z:Id)=(x:Id)->SK f=K3->W6 (λv=>Jh N v.1 v.2.1 v.2.2.1 v.2.2.2.1 (v:Zbm)) t z fs f fs (i:Int)=Jh N t z fs fs ((i+1:Nat):Int):=λz c a=>by
    unfold W6 gH gJ tB tC tD tE tT;rw[c,uT Aa,YA Aa,pA,zv,pA,Zs j]
    grind[SK]
   unfold Tg;cases h16:f.1==16
   ·cases h18:f.1==18
    ·simp only[Lm,pH];cases a:SK f
     ·exact k x rfl a
     unfold W6 gH gJ tB tC tD tE tT;rw[uT Aa,YA Aa,pA,zv,pA,Zs j];unfold SK at a;rw[a];by_cases c:0<=Qe (x:Id) f.2.1
     ·have o:(Qe (x:Id) f.2.1).toNat<(x:Id):=Aa
      have m:=Z7 (d:=Zc) o;have n:=h.str.all _ m;obtain⟨y,e,B⟩:=Fa n.snd (PC f);rw[Zl c,Zk (p:=Qe (x:Id) f.2.1<0),pI,Lf,pH,Ld,pG,Zb,show QL f=W (PC f,())from rfl,pA,Qd8 n.snd Aa,Qq0 (g.2 _ m)];unfold GM;rw[e];have b:xU x f.2.1 (HA x f.2.1)=x:=by grind[Qch]
      cases f.1==8<;>cases f.1==4<;>cases f.1==5<;>cases f.1==17<;>simp only[pG,pH]<;>first|rfl|(rw[b])
     ·rw[Zk c,Zl (p:=Qe (x:Id) f.2.1<0)];rfl
    ·have a:SK f=false:=by simp at h18;simp[SK,h18]
     cases (f:ZaA)
     ·grind
     grind
   ·exact k (tl0 x) rfl (by simp at h16;simp[SK,h16])
  simp_all[Zk,Ls]
theorem Qmr{K:Nat}(hK:K<=490000)(t:Zf)(p:Qa)(hf:p.2.1.length<=1000000):∀(N i:Nat)(x:Zf),Qb K x/\SO x->p.2.1-i<N->i<=p.2.1->bW N t x p (i:Int)=W (((p.2.1.drop i).foldl Tg x,X,()),())
 |0,_,_,_,h,_=>Aa
 |N+1,i,x,h,b,c=>by
  rw[bW];by_cases a:i<p.2.1
  ·rw[Zo (Zl),Zb,show(i:Int).toNat=i from rfl,Zs a,Q1 (d:=Z9) a,L6,Qwx h.1 hK,pA,Qmr hK t p hf N (i+1) _ (Qbo h hK _) Aa Aa]
  grind
def PM(c:Zf)(n:Int):Zf:=cond (uY c n) ((Bz n (bn c)).1.2.1.foldl Tg (v6 c ((bn c).filter λp=>p.1 !=n))) c
theorem rc0(h:Qb K c)(hK:K<=490000)(hc:bJ c=X):SO c:=λs a=>G1 (h.str.all s a).rcv Aa (((Sp h).1 hc).st h Aa a).rcv
theorem Qr9(h:Qb K c)(hK:K<=490000)(n:Int):mF c n=W ((PM c n,uY c n,()),()):=by
 have b:(Bz n (bn c)).1.2.1.length<=1000:=U9 h.pk n;unfold mF PM uY;rw[Y8 h,Qsg h Aa,LM h];simp only[pA];cases hc:(bJ c&& !((c:ZaG) !=(0:Int)))
 ·rfl
 ·cases hb:(Bz n (bn c)).2.1
  ·rfl
  ·rw[Qrw h Aa];simp only[pI,Lc,pH,pA,Ld,pG];have a:=rc0 h hK Af;have:=Qmr hK Xl (Bz n (bn c)).1 Aa (cG Xl (v6 c ((bn c).filter λp=>p.1 !=n)) (Bz n (bn c)).1 0) 0 _ ⟨Tf h λp=>p.1 !=n,a⟩ (by simp[cG]) Aa;exact this
theorem Qww(h:Qb K c)(hK:K<=490000)(n:Int):yK c n=W (PM c n,uY c n,()):=by
 have b:(Bz n (bn c)).1.2.1.length<=1000:=U9 h.pk n;unfold yK PM;rw[Qb8 h Aa,pA];cases hb:uY c n
 ·rfl
 ·have a:=rc0 h hK (by simp_all[uY]);have:=Qmo hK Xl (Bz n (bn c)).1.2.1 Aa (iF Xl (v6 c ((bn c).filter λp=>p.1 !=n)) (Bz n (bn c)).1.2.1 (Bz n (bn c)).1.2.1 0) 0 _ ⟨Tf h λp=>p.1 !=n,a⟩ (by simp[iF]) Aa;exact this
theorem Qdn(e:Z4)(hl:(e:Zaj).length<=1048576):∃r,cC e=W (r,())/\oS e=W (r,())/\r.length<=1049000:=by
 obtain⟨b,i,j,l⟩:=Qgs e hl;unfold cC oS;simp only[i,j,pA,vX];cases b
 ·simp_all
 ·obtain⟨hk,f,m⟩:=l rfl;obtain⟨k,d,n,h,z⟩:=e;simp only at hl hk f m⊢;have o:=Cg d;have p:=Ry d;have u:=JX d;have q:=Cg n;have s:=Ry n;have v:=JX n;generalize Lh d=a at*
  generalize Lh n=c at*
  have g:∃w,K9 k=W (w,())/\w.length<=20:=by
   have:k=1\/k=2\/k=3\/k=4\/k=5\/k=6\/k=7\/k=8\/k=9\/k=10\/k=11\/k=12:=Aa
   rcases this with rfl|rfl|rfl|rfl|rfl|rfl|rfl|rfl|rfl|rfl|rfl|rfl<;>exact⟨_,rfl,Ah⟩
  obtain⟨w,g,t⟩:=g;simp only[g];have:k=1\/k=2\/k=3\/k=4\/k=5\/k=6\/k=7\/k=8\/k=9\/k=10\/k=11\/k=12:=Aa
  rcases this with rfl|rfl|rfl|rfl|rfl|rfl|rfl|rfl|rfl|rfl|rfl|rfl
  all_goals
   simp only[ta,rh,ri,nj,jr,js,dQ,ox,oy,La,pI,pG,pH,pA,o,q,p,s]
   repeat rw[Zb (by simp only[Lt,Lb,Li,Ym];omega)]
   refine⟨_,rfl,?_,?_⟩
   ·simp
   ·simp only[Lt,Lb,Li];omega
def U8(f:Z4):Ba:=match cC f with|some (r,_)=>r|none=>[]
theorem Rf(f:Z4)(h:(f:Zaj).length<=1048576):cC f=W (U8 f,())/\oS f=W (U8 f,())/\(U8 f).length<=1049000:=by grind[Qdn,U8]
def Eh(e:Z4):Bool:=match du e with|some (b,_)=>b|none=>K3
theorem xS(e:Z4)(hl:(e:Zaj).length<=1048576):du e=W (Eh e,())/\mX e=W (Eh e,())/\(Eh e=X->(1<=e.1/\e.1<=12)/\(0<=e.2.1/\e.2.1<=999999)/\(0<=e.2.2.1/\e.2.2.1<=999999)):=by grind[Qgs,Eh]
def OJ(k:Int):Ba:=cond (Z (1<=k)&&Z (k<=12)) (KK.getD k.toNat []) []
def Ip(e:Z4):Z4:=ite (e.1=1\/e.1=11) (e.1,0,0,(e:Zaj),()) (ite (e.1=2\/e.1=7) (e.1,e.2.1,0,(e:Zaj),()) (ite (e.1=3) (e.1,e.2.1,0,[],()) (ite (e.1=4\/e.1=5\/e.1=6) (e.1,e.2.1,e.2.2.1,[],()) (e.1,0,e.2.2.1,[],()))))
def IY(e:Z4):Ba:=ite (e.1=1\/e.1=11) (e:Zaj) (ite (e.1=2\/e.1=7) (Lh e.2.1++32::(e:Zaj)) (ite (e.1=3) (Lh e.2.1) (ite (e.1=4\/e.1=5\/e.1=6) (Lh e.2.1++32::Lh e.2.2.1) (Lh e.2.2.1))))
theorem Qis(e:Z4):XU e=W (Ip e,()):=by grind[XU,sq,sr,mM,Ip]
theorem Z55{e:Z4}(hl:(e:Zaj).length<=1048576)(h:Eh e=X):Ip e=e:=by
 have a:=(xS e hl).1;unfold du gG at a;rw[vX,Qis,h]at a;cases hc:TR Q8 (Ip e) e with
 |true=>
  grind(splits:=20)[TR]
 |false=>
  rw[show K9 e.1=W (OJ e.1,())from rfl]at a
  grind
theorem LW{e:Z4}(hl:(e:Zaj).length<=1048576)(h:Eh e=K3):U8 e=[]:=by have:=(Rf e hl).1;simp_all[cC,xS]
theorem Qc2{k:Int}(h:1<=k/\k<=12):OJ k≠[]/\(32:UInt8)∉OJ k/\(10:UInt8)∉OJ k/\(OJ k).length<=20:=by
 have:k=1\/k=2\/k=3\/k=4\/k=5\/k=6\/k=7\/k=8\/k=9\/k=10\/k=11\/k=12:=Aa
 rcases this with rfl|rfl|rfl|rfl|rfl|rfl|rfl|rfl|rfl|rfl|rfl|rfl<;>decide
theorem Qax{e:Z4}(hl:(e:Zaj).length<=1048576)(h:Eh e=X):U8 e=OJ e.1++32::IY e:=by
 have b:=(Rf e hl).1;obtain⟨j,-,l⟩:=xS e hl;obtain⟨hk,d,o⟩:=l h;unfold cC at b;rw[j,h,vX,show K9 e.1=W (OJ e.1,())from rfl]at b;obtain⟨k,f,n,i,z⟩:=e;simp only[pI,pH,pA]at b hl hk d o⊢;have p:=Cg f;have s:=JX f;have q:=Cg n;have t:=JX n;have u:=(Qc2 hk).2.2.2;unfold IY;unfold jr js dQ at b;simp only[p,q,pA]at b;simp only;generalize OJ k=w at*
 generalize Lh f=a at*
 generalize Lh n=c at*
 have g:∀(x y:Ba)(m:Oa Ba),x.length+y.length<=2000000->Ze (x.length+y.length<=Ym) m=m:=λx y m r=>Zb Al;have:k=1\/k=2\/k=3\/k=4\/k=5\/k=6\/k=7\/k=8\/k=9\/k=10\/k=11\/k=12:=Aa
 rcases this with rfl|rfl|rfl|rfl|rfl|rfl|rfl|rfl|rfl|rfl|rfl|rfl
 all_goals
  simp only[La,pG,pH]at b
  repeat (rw[g _ _ _ (by simp only[Lt,Lb,Li];omega)]at b)
  simp only[pB,pF,and_true]at b;rw[<-b];simp
theorem Z7h:∀(N:Nat)(pre rest:Ba),(pre++rest).length<=1048576->rest.length<N->(32:UInt8)∉pre->
  mO N (pre++rest) (pre.length:Int)=W ((ix 32 (pre++rest)).1,(ix 32 (pre++rest)).2.1,())
 |0,_,_,_,h,_=>Aa
 |N+1,pre,[],c,d,f=>by
  simp_all[mO,Rl]
 |N+1,pre,b::rest,c,d,f=>by
  unfold mO;simp only[Lt,Lb]at c d;rw[Zo Ae,Zb Ae];simp only[aH];have e:=U0 pre b rest;by_cases g:b=32
  ·subst g;rw[Zo (by rfl)];have i:K2.wrap ((pre.length:Int)+1)=((pre.length+1:Nat):Int):=Zs (m:=1048576);have n:((pre++32::rest).length:Int)=(pre.length:Int)+rest.length+1:=Ae
   rw[i,Zb Ae,Zb Ae,Zb Ae,Zb Ae,Yb,LJ 32 pre rest f];have j:((pre++32::rest).drop (0:Int).toNat).take ((pre.length:Int).toNat- (0:Int).toNat)=pre:=Ac
   have k:((pre++32::rest).drop ((pre.length+1:Nat):Int).toNat).take ((((pre++32::rest).length:Nat):Int).toNat- ((pre.length+1:Nat):Int).toNat)=rest:=by
    rw[List.take_of_length_le]
    ·simp
    ·simp;omega
   rw[j,k]
  ·have a:((b.toNat:Int)==(32:Int))=false:=by
    rw[beq_eq_false_iff_ne];intro o;have l:b.toNat=32:=Aa
    exact g (M5.1 l)
   rw[Zm a,Zs (m:=(pre++b::rest).length) Ac Ae];have:=Z7h N (pre++[b]) rest Ae Aa Ag;simp_all
theorem Qgw(s:Ba)(hs:s.length<=1048576):XV s=W ((ix 32 s).1,(ix 32 s).2.1,()):=by have:=Z7h (nN s 0) [] s (by simpa using hs) (by simp[nN]) Ac;simp_all[XV]
def gP:Nat->Ba->Int->Int|0,_,c=>c|m+1,w,c=>gP m w (ite (OJ (13- (m+1:Nat))=w) (13- (m+1:Nat)) c)
def wX(w:Ba):Int:=gP 12 w 0
theorem Qd1{k:Int}(h:1<=k/\k<=12):wX (OJ k)=k:=by
 have:k=1\/k=2\/k=3\/k=4\/k=5\/k=6\/k=7\/k=8\/k=9\/k=10\/k=11\/k=12:=Aa
 rcases this with rfl|rfl|rfl|rfl|rfl|rfl|rfl|rfl|rfl|rfl|rfl|rfl<;>decide
def zE:Z4:=((0:Int),(0:Int),(0:Int),([]:Ba),())
def Ii(s:Ba)(e:Z4):Z4×Bool×Unit:=ite (s≠[]/\U8 e=s) (e,X,()) (zE,K3,())
theorem SM(s:Ba)(t2 e:Z4)(hl:(e:Zaj).length<=1048576):ak s t2 e=W (Ii s e):=by
 unfold ak Ii;rw[(Rf e hl).1,pA];generalize U8 e=t;by_cases h:s≠[]/\t=s
 ·grind
 ·rw[if_neg h,Zo (by
   grind)]
  rfl
theorem El(s:Ba)(t2 e:Z4)(hl:(e:Zaj).length<=1048576):Kq s t2 e=W (Ii s e):=by
 unfold Kq Ii;rw[(xS e hl).2.1,pA];cases hok:Eh e
 ·have:=LW hl hok;rw[if_neg Af];rfl
 ·have a:=Qax hl hok;simp only[pI,pH,Ll];rw[(Rf e hl).2.1,pA];by_cases h:s≠[]/\U8 e=s
  ·simp_all
  ·rw[if_neg h,Zo (by
    simp only[Md,beq_eq_false_iff_ne];intro b;simp_all)]
   rfl
def eS(s:Ba):Z4:=
 let k:=wX (ix 32 s).1
 let r:=(ix 32 s).2.1
 let a:=(ix 32 r).1
 let b:=(ix 32 r).2.1
 if k=1\/k=11 then(k,0,0,r,())
 else if k=2\/k=7 then(k,vO a,0,b,())
 else if k=3 then(k,vO r,0,[],())
 else if k=4\/k=5\/k=6 then(k,vO a,vO b,[],())
 else(k,0,vO r,[],())
theorem Qjx(s r:Ba)(t2:Z4)(k:Int)(hs:r.length<=1048576)(N:Nat)(w:Ba):
  Vu (N+1) s t2 w r (k,0,0,[],()) 13=W (Ii s
   (let a:=(ix 32 r).1
    let b:=(ix 32 r).2.1
    if k=1\/k=11 then(k,0,0,r,())
    else if k=2\/k=7 then(k,vO a,0,b,())
    else if k=3 then(k,vO r,0,[],())
    else if k=4\/k=5\/k=6 then(k,vO a,vO b,[],())
    else(k,0,vO r,[],()))):=by
 obtain⟨t,u⟩:=xY 32 r;have o:=xA r hs;have p:=xA (ix 32 r).1;have q:=xA (ix 32 r).2.1;unfold Vu;rw[Zm Ah,Qgw r hs,pA];generalize (ix 32 r).1=a at*
 generalize (ix 32 r).2.1=b at*
 unfold rD tD rE lK tP;simp only[o,p,q,pA];by_cases f:k=1
 ·simp_all[SM]
 by_cases e:k=11
 ·simp_all[SM]
 by_cases g:k=2
 ·grind[SM]
 by_cases i:k=7
 ·grind[SM]
 by_cases j:k=3
 ·simp_all[SM]
 by_cases l:k=4
 ·simp_all[SM]
 by_cases m:k=5
 ·simp_all[SM]
 by_cases n:k=6
 ·simp_all[SM]
 have d:∀c:Int,k≠c->(k==c)=false:=λc h=>by simp[h]
 simp only[d _ f,d _ e,d _ g,d _ i,d _ j,d _ l,d _ m,d _ n,f,e,g,i,j,l,m,n,or_self,if_false,pH];simp_all[SM]
theorem CX(s r:Ba)(t2:Z4)(w:Ba):∀(m N:Nat)(c:Int),m<N->m<=12->
  Vu N s t2 w r (c,0,0,[],()) ((13-m:Nat):Int)=Vu (N-m) s t2 w r (gP m w c,0,0,[],()) 13
 |0,N,c,_,_=>by rfl
 |m+1,0,_,h,_=>Aa
 |m+1,N+1,c,h,d=>by
  conv=>lhs;unfold Vu
  rw[Zo (Zl),vX,show K9 ((13- (m+1):Nat):Int)=W (OJ ((13- (m+1):Nat):Int),())from rfl,pA];simp only[rC];have b:((13- (m+1):Nat):Int)=13- (m+1:Nat):=Aa
  rw[Zr,show((13- (m+1):Nat):Int)+1=((13-m:Nat):Int) by omega,show N+1- (m+1)=N-m by omega];simp only[gP];rw[b];by_cases a:OJ (13- (m+1:Nat))=w
  ·rw[Zo (by simpa using a),if_pos a];exact CX s r t2 w m N _ Aa Aa
  ·rw[Zm (by simpa using a),if_neg a];exact CX s r t2 w m N _ Aa Aa
theorem Qqx(s:Ba)(hs:s.length<=1048576):si s=W (Ii s (eS s)):=by obtain⟨a,b⟩:=xY 32 s;unfold si;rw[Qgw s hs,pA];have:=CX s (ix 32 s).2.1 zE (ix 32 s).1 12 13 0 Aa Aa;refine Lr this ?_;exact Qjx s (ix 32 s).2.1 zE _ Aa 0 (ix 32 s).1
def H7{β:Type}(use:Bool)(r:Ba)(K:Int->Ba->Option β):Option β:=ite use (match DJ (ix 32 r).1 with|none=>none|some n=>K n (ix 32 r).2.1) (K 0 r)
def SJ(k:Int):Bool×Bool×Bool:=ite (k=1\/k=11) (K3,K3,X) (ite (k=2\/k=7) (X,K3,X) (ite (k=3) (X,K3,K3) (ite (k=4\/k=5\/k=6) (X,X,K3) (K3,X,K3))))
theorem Qrb(k:Int):ta k=W ((SJ k).1,(SJ k).2.1,(SJ k).2.2,()):=by grind[ta,rh,ri,nj,SJ]
def eI(s:Ba):Option Z4:=
 let k:=wX (ix 32 s).1
 let u:=SJ k
 H7 u.1 (ix 32 s).2.1 λid r=>H7 u.2.1 r λn r=>W (k,id,n,(ite u.2.2 r []),())
def DK(s:Ba)(o:Option Z4):Z4×Bool×Unit:=match o with
 |none=>(zE,K3,())
 |some f=>Ii s f
theorem FC(r:Ba)(h:r.length<=1048576):wo r [32]=W ((ix 32 r).1,(ix 32 r).2.1,(ix 32 r).2.2,()):=by grind[wo,Qto,Zb]
theorem Qiw(s r:Ba)(t2:Z4)(k:Int)(hs:r.length<=1048576)(N:Nat)(w:Ba):
  Vl (N+1) s t2 w r (k,0,0,[],()) 13=W (DK s (H7 (SJ k).1 r λid r=>H7 (SJ k).2.1 r λn r=>W (k,id,n,(ite (SJ k).2.2 r []),()))):=by
 obtain⟨h,i⟩:=xY 32 r;obtain⟨j,l⟩:=xY 32 (ix 32 r).2.1;have d:=(zU (ix 32 r).1).2;have e:=(zU (ix 32 (ix 32 r).2.1).1).2;unfold Vl tD tP tT;rw[Zm Ah];simp only[Qrb,pA,FC r hs,FC (ix 32 r).2.1 Aa,d,e];generalize SJ k=u;obtain⟨b,a,c⟩:=u;unfold H7;have f:∀(x y:Oc Z4 Bool),(cond ((X&& !b)||(K3&& !a)) x y)=cond b y x:=λx y=>by cases b<;>rfl
 have g:∀(x y:Oc Z4 Bool),(cond ((K3&& !b)||(X&& !a)) x y)=cond a y x:=λx y=>by cases a<;>rfl
 simp only[f,g];cases b
 ·cases a
  ·cases c
   ·exact El _ zE _ Ac
   ·exact El _ zE _ (by simpa using hs)
  ·simp only[pH,pG,if_true,Bool.false_eq_true,if_false];cases DJ (ix 32 r).1 with
   |none=>rfl
   |some n=>
    cases c
    ·exact El _ zE _ Ac
    ·exact El _ zE _ Ai
 ·simp only[pG,if_true];cases DJ (ix 32 r).1 with
  |none=>rfl
  |some n=>
   cases a
   ·cases c
    ·exact El _ zE _ Ac
    ·exact El _ zE _ Ai
   ·simp only[pG,if_true,M4,pI,pH];cases DJ (ix 32 (ix 32 r).2.1).1 with
    |none=>rfl
    |some m=>
     cases c
     ·exact El _ zE _ Ac
     ·exact El _ zE _ Ai
theorem AG(s r:Ba)(t2:Z4)(w:Ba):∀(m N:Nat)(c:Int),m<N->m<=12->
  Vl N s t2 w r (c,0,0,[],()) ((13-m:Nat):Int)=Vl (N-m) s t2 w r (gP m w c,0,0,[],()) 13
 |0,N,c,_,_=>by rfl
 |m+1,0,_,h,_=>Aa
 |m+1,N+1,c,h,d=>by
  conv=>lhs;unfold Vl tD tP tT
  rw[Zo (Zl),show K9 ((13- (m+1):Nat):Int)=W (OJ ((13- (m+1):Nat):Int),())from rfl,pA];simp only[rf];have b:((13- (m+1):Nat):Int)=13- (m+1:Nat):=Aa
  rw[Zr,show((13- (m+1):Nat):Int)+1=((13-m:Nat):Int) by omega,show N+1- (m+1)=N-m by omega];simp only[gP];rw[b];by_cases a:OJ (13- (m+1:Nat))=w
  ·rw[Zo (by simpa using a),if_pos a];exact AG s r t2 w m N _ Aa Aa
  ·rw[Zm (by simpa using a),if_neg a];exact AG s r t2 w m N _ Aa Aa
theorem Qpy(s:Ba)(hs:s.length<=1048576):rP s=W (DK s (eI s)):=by obtain⟨a,b⟩:=xY 32 s;unfold rP;rw[FC s hs,pA];have:=AG s (ix 32 s).2.1 zE (ix 32 s).1 12 13 0 Aa Aa;refine Lr this ?_;exact Qiw s (ix 32 s).2.1 zE _ Aa 0 (ix 32 s).1
theorem Z3t{e:Z4}(hl:(e:Zaj).length<=1048576)(h:Eh e=X):eS (U8 e)=e/\eI (U8 e)=W e/\U8 e≠[]:=by
 have b:=Z55 hl h;have j:=Qax hl h;obtain⟨hk,c,l⟩:=(xS e hl).2.2 h;rw[j];obtain⟨d,a,-,-⟩:=Qc2 hk;refine⟨?_,?_,Ac⟩
 all_goals
  obtain⟨k,f,n,g,z⟩:=e;simp only at hk c l d a;have m:=qS (n:=f);have o:=qS (n:=n);have i:=Z6d 32 (.inl rfl) f;have p:=Z6d 32 (.inl rfl) n;unfold Ip at b;unfold IY;simp only at b
  first|unfold eS|unfold eI
  simp only[LJ 32 _ _ a,Qd1 hk];have q:k=1\/k=2\/k=3\/k=4\/k=5\/k=6\/k=7\/k=8\/k=9\/k=10\/k=11\/k=12:=Aa
  rcases q with rfl|rfl|rfl|rfl|rfl|rfl|rfl|rfl|rfl|rfl|rfl|rfl
  all_goals
   simp at b;simp[b,SJ,H7,vO,m,o,LJ 32 _ _ i,Rl 32 _ i,Rl 32 _ p]<;>omega
theorem Qe9{use:Bool}{r:Ba}{K:Int->Ba->Option β}{e:β}(h:H7 use r K=W e):∃n r',r'.length<=r.length/\K n r'=W e:=by grind(splits:=20)[xY,H7]
theorem Qqf(s:Ba)(hs:s.length<=1048576):DK s (eI s)=Ii s (eS s):=by
 have a:(eS s:Zaj).length<=1048576:=by
  grind[xY,eS]
 have c:∀e,eI s=W e->(e:Zaj).length<=1048576:=by
  grind[xY,eI,Qe9]
 have d:∀e:Z4,(e:Zaj).length<=1048576->s≠[]->U8 e=s->Eh e=true:=λe j k l=>by
  grind[LW]
 by_cases h:s≠[]/\U8 (eS s)=s
 ·have b:=(Z3t a (d _ a h.1 h.2)).2.1;rw[h.2]at b;rw[b];rfl
 ·have f:Ii s (eS s)=(zE,K3,()):=if_neg h;rw[f];cases hf:eI s with
  |none=>rfl
  |some g=>
   show Ii s g=_;have m:=c g hf;by_cases i:s≠[]/\U8 g=s
   ·grind[Z3t]
   ·exact if_neg i
def Fz(s:Ba):Z4×Bool×Unit:=Ii s (eS s)
theorem Qg9(s:Ba)(hs:s.length<=1048576):si s=W (Fz s)/\rP s=W (Fz s):=⟨Qqx s hs,by rw[Qpy s hs,Qqf s hs];rfl⟩
def RZ:List Z4->List Ba->List Z4×Bool×Unit|_,[]=>([],K3,())|out,[l]=>ite (l=[]) (out,X,()) ([],K3,())|out,l::l2::r=>ite ((Fz l).2.1=X) (RZ (out++[(Fz l).1]) (l2::r)) ([],K3,())
theorem Qal:∀(r:List Ba)(out:List Z4),(RZ out r).1.length<=out.length+r.length
 |[],out=>by simp[RZ]
 |[l],out=>by grind[RZ]
 |l::a::r,out=>by
  unfold RZ;split
  ·have:=Qal (a::r) (out++[(Fz l).1])
   grind
  ·simp
theorem Qap:∀(N:Nat)(pre rest:List Ba)(out:List Z4),(pre++rest).length<=1048577->(∀x∈rest,x.length<=1048576)->rest≠[]->rest.length<N+1->out.length<=pre.length->
  cz N out (pre++rest) (pre.length:Int)=W (RZ out rest)
 |0,_,[],_,_,_,h,_,_=>absurd rfl h
 |0,_,_::_,_,_,_,_,h,_=>by simp at h
 |N+1,pre,[],_,_,_,h,_,_=>absurd rfl h
 |N+1,pre,[l],out,b,c,_,e,g=>by
  simp only[Lt,Lb,Li]at b;unfold cz gH;have d:K2.wrap ((pre.length:Int)+1)=((pre.length+1:Nat):Int):=Zs (m:=1048578);have f:((pre++[l]).length:Int)=(pre.length:Int)+1:=Ac
  rw[d,Zm (Zk),f,Zr];simp only[];have i:(pre.length:Int)+1-1=(pre.length:Int):=Aa
  rw[i,Zb]
  grind(splits:=20)[RZ]
 |N+1,pre,l::a::r,out,b,c,_,e,g=>by
  simp only[Lt,Lb]at b e;unfold cz gH;have d:K2.wrap ((pre.length:Int)+1)=((pre.length+1:Nat):Int):=Zs (m:=1048578);have f:((pre++l::a::r).length:Int)=(pre.length:Int)+r.length+2:=Ae
  rw[d,Zo (Zl),Zb];rw[show(pre++l::a::r).getD (pre.length:Int).toNat []=l from aH pre l (a::r) [],(Qg9 l (c l Ac)).1,pA];simp only[RZ];cases hp:(Fz l).2.1
  ·rfl
  ·simp only[pI,pH,if_true];rw[Zb Aj,U0 pre l (a::r)];have j:((pre.length+1:Nat):Int)=((pre++[l]).length:Int):=Ac
   rw[j];exact Qap N (pre++[l]) (a::r) (out++[(Fz l).1]) Ae (λx hx=>c x Af) Ac Ae Ae
theorem Qan(lines:List Ba):∀(N:Nat)(pre rest:List Ba)(out:List Z4),lines=pre++rest->lines.length<=1048577->(∀x∈rest,x.length<=1048576)->rest≠[]->rest.length<N+1->out.length<=pre.length->
  ch N lines out ((lines.length-1:Nat):Int) (lines.take (lines.length-1)) ((lines.length-1:Nat):Int) (pre.length:Int)=W (RZ out rest)
 |0,_,[],_,_,_,_,h,_,_=>absurd rfl h
 |0,_,_::_,_,_,_,_,_,h,_=>by simp at h
 |N+1,pre,[],_,_,_,_,h,_,_=>absurd rfl h
 |N+1,pre,[l],out,a,d,b,_,e,f=>by
  have g:lines.length=pre.length+1:=by rw[a];simp
  unfold ch gH;rw[Zm (Zk),Zb];have c:lines.getD ((lines.length-1:Nat):Int).toNat []=l:=by
   simp_all
  rw[c];unfold RZ
  grind
 |N+1,pre,l::i::r,out,a,d,b,_,e,f=>by
  have g:lines.length=pre.length+r.length+2:=Ag
  simp only[Lb]at e;unfold ch gH;rw[Zo (Zl),Zb Ag];have c:(lines.take (lines.length-1)).getD (pre.length:Int).toNat []=l:=by
   grind
  rw[c,(Qg9 l (b l Ac)).2,pA];simp only[RZ];cases hp:(Fz l).2.1
  ·rfl
  ·simp only[pI,pH,if_true];have j:K2.wrap ((pre.length:Int)+1)=((pre.length+1:Nat):Int):=Zs (m:=1048578);rw[Zb Aj,j];have k:((pre.length+1:Nat):Int)=((pre++[l]).length:Int):=Ac
   rw[k];exact Qan lines N (pre++[l]) (i::r) (out++[(Fz l).1]) (by rw[a];simp) d (λx hx=>b x Af) Ac Ae Ae
theorem Qla(s:Ba)(hs:s.length<=1048576):uK s=W (RZ [] (dG 10 s))/\ux s=W (RZ [] (dG 10 s)):=by
 obtain⟨h,b⟩:=AB 10 s;have a:=NY 10 s;have c:=L8.2 a;constructor
 ·unfold uK;have d:=Qmg 10 s hs;rw[show(((10:UInt8).toNat:Int))=10 from rfl]at d;rw[d,pA];have i:K2.wrap ((0:Int)+1)=1:=rfl;exact Qap _ [] (dG 10 s) [] Ag (λx hx=>Lg (b x hx) hs) a (by grind[mf]) Ac
 ·unfold ux tl;rw[Zb ⟨Aa,Ac⟩,Qcm 10 s.length s (Mc _),pA];generalize dG 10 s=w at*
  have e:K2.wrap ((w.length:Int)-1)=((w.length-1:Nat):Int):=Ao
  simp only[e];rw[Zb];have f:(w.drop (0:Int).toNat).take (((w.length-1:Nat):Int).toNat- (0:Int).toNat)=w.take (w.length-1):=Ac
  have g:(w.take (w.length-1)).length=w.length-1:=Af
  rw[f,g];exact Qan w _ [] w [] rfl Aa (λx hx=>Lg (b x hx) hs) a (by grind[me]) Ac
structure qI(e:Z4):Prop where
 s:du e=W (X,())
 i:mX e=W (X,())
 k:1<=e.1/\e.1<=12
 t:e.2.2.2.1.length<=1000
theorem Qne(l:List Zj):(OS l).length<=400:=by
 have a:∀(N:Nat)(s:Ba)(i:Int),Pc (Yp N l s i) λr=>r.1.length<=400:=by
  intro N
  induction N with
  |zero=>intros;exact Pc.none
  |succ N b=>
   intro s i;unfold Yp;exact Pc.ite (λ_=>Pc.guard (Pc.skip λt=>Pc.ite (λ_=>Pc.pure Ah) λ_=>Pc.guard (b _ _))) λ_=>Pc.ite (λ_=>Pc.pure Ah) λh=>Pc.pure Ag
 unfold OS;cases e:bU l with
 |none=>simp
 |some y=>exact a _ _ _ y e
theorem Qpf(c:Zf)(b:Int):(BD c b).length<=400:=by grind[BD,Qne]
def CG(b:Bool):Ba:=cond b [111,107] [110,111]
theorem CH(b:Bool):(CG b).length<=200000:=by cases b<;>decide
theorem TO(y:Zf)(b:Bool):Jj Xl y b=W ((CG b,y,()),()):=by cases b<;>rfl
theorem NW(b:Bool):zN b [111,107] [110,111]=W (CG b,()):=by cases b<;>rfl
abbrev OW(n:Int):Prop:= -9223372036854775808<=n/\n<=9223372036854775807
theorem iz:OW 0:=Ah
theorem im:OW (-1):=Ah
theorem Quq(c:Zf)(u:Bool):Pc (ed c u) λr=>OW r.1:=by
 have m:∀n s u,Pc (qw n s u) λr=>OW r.1:=λn s u=>by
  unfold qw lG;exact Pc.skip λ_=>Pc.ite (λ_=>Pc.pure im) λ_=>Pc.guard (by grind[Pc.pure,UN])
 have a:∀u c t x i b,Pc (Vt u c t x i b) λr=>OW r.1:=λu c t x i b=>by
  unfold Vt tD;exact Pc.ite (λ_=>Pc.pure im) λ_=>(m _ _ _).bind λy e=>Pc.skip λ_=>Pc.skip λ_=>Pc.pure e
 have d:∀u c t x n,Pc (Vs u c t x n) λr=>OW r.1:=λu c t x n=>by
  unfold Vs tG tM;exact Pc.skip λ_=>Pc.ite (λ_=>a _ _ _ _ _ _) λ_=>a _ _ _ _ _ _
 unfold ed;exact Pc.skip λ_=>Pc.skip λ_=>Pc.ite (λ_=>Pc.pure im) λ_=>Pc.ite (λ_=>d _ _ _ _ _) λ_=>d _ _ _ _ _
theorem Qrf(c:Zf)(id:Int)(d:Ba)(hd:d.length<=1000):Pc (cM c id d) λr=>OW r.1:=by
 have l:∀N r t x n i,Pc (Jf N d r t x n i) λr=>r.2.1=n:=by
  intro N
  induction N with
  |zero=>intros;exact Pc.none
  |succ N b=>
   intros
   unfold Jf;exact Pc.ite (λ_=>Pc.guard (Pc.guard (Pc.guard (b _ _ _ _ _)))) λ_=>Pc.pure rfl
 have m:∀r,Pc (wh r) λr=>OW r.1:=λr=>by
  unfold wh;refine Pc.skip λ_=>Pc.ite (λ_=>Pc.pure iz) λ_=>Pc.pure ?_;have:=UN (r.1- (K2.wrap ((r:Zab)-r.2.1)));have:=UN (4611686018427387903-(r:Zab));omega
 have w:∀r,Pc (ip r d) λr=>OW r.2.1:=λr=>by
  unfold ip;refine Pc.skip λ_=>(m r).bind λy a z e=>?_;rw[l _ _ _ _ _ _ z e];omega
 have s:∀s,Pc (cL s d) λr=>OW r.2.1:=λs=>by
  unfold cL tP jw;exact Pc.skip λ_=>Pc.skip λ_=>Pc.ite (λ_=>Pc.pure iz) λ_=>(w _).bind λy a=>Pc.ite (λ_=>Pc.skip λ_=>Pc.pure a) λ_=>Pc.pure a
 unfold cM tD tT;exact Pc.skip λ_=>Pc.skip λ_=>Pc.skip λ_=>Pc.ite (λ_=>Pc.pure iz) λ_=>(s _).bind λy a=>Pc.skip λ_=>Pc.pure a
theorem Qgl:∀(l:List Zj)(x:Zf),OW (E0 x l).2
 |[],x=>iz
 |f::r,x=>by
  unfold E0;cases h0:(WY x f).2.1 !=(0:Int)
  ·exact Qgl r _
  ·have t:=Qt0 x f;have:=t.2
   grind
section
variable {K:Nat}{c:Zf}
theorem Qkf(i:Qb K c)(hK:K<=400000)(n:Int):Qb (K+1000) (Ou c n):=by
 obtain⟨y,e,a⟩:=Qh7 i hK n
 grind[Qrh]
theorem Qmq(i:Qb K c)(hK:K<=400000)(n:Int):Qb (K+1000) (PM c n):=by
 obtain⟨y,e,a⟩:=Qd7 i hK n
 grind[Qr9]
theorem Qt5(i:Qb K c)(h25:25<=K)(s:Ba)(hs:s.length<=500)(hK:K<=380000):Qb (K+1000) (PA c s).1:=by obtain⟨y,e,a⟩:=Qiu i h25 s Aa Aa;rw[(hpE i h25 s).1]at e;cases e;exact a.mono Aa
theorem Qtc(i:Qb K c)(h25:25<=K)(hK:K<=70000){e:Z4}(he:qI e):∃o y,my c e=W ((o,y,()),())/\rO c e=W (o,y,())/\o.length<=200000/\Qb (K+1010) y:=by
 have p:=he.t;unfold my gG rO gG;rw[Y8 i,V6 i,KX i,GI i,he.s,he.i];rw[show oc c=W (UB c !=(0:Int),())from rfl,show sy c=W (UB c !=(0:Int),())from rfl];simp only[pA];cases hc:bJ c
 ·exact⟨_,_,rfl,rfl,Ah,i.mono Aa⟩
 simp only[pI,pH,pA,Lc];cases hz:UB c !=(0:Int)
 ·simp only[pH];have hk:=he.k;have q:e.1=1\/e.1=2\/e.1=3\/e.1=4\/e.1=5\/e.1=6\/e.1=7\/e.1=8\/e.1=9\/e.1=10\/e.1=11\/e.1=12:=Aa
  rcases q with k|k|k|k|k|k|k|k|k|k|k|k<;>rw[k]<;>simp only[La,pG,pH]
  ·obtain⟨⟨n,y,g,u⟩,b,a,r⟩:=(Qeo i Aa ((e:Zaj)==([117,110,105]:Ba))).pc (Quq _ _);simp only at a r;rw[Qbt i _ Aa,b];simp only[pA];have l:=JX n r.1 r.2;rw[Cg n r.1 r.2,Ry n r.1 r.2];refine⟨cond (!g) [98,108,111,99,107,101,100] (Lh n),y,?_,?_,by cases g<;>simp<;>omega,a.mono Aa⟩
   ·cases g<;>rfl
   ·cases g<;>rfl
  ·obtain⟨⟨n,y,u⟩,b,a,r⟩:=(Qc5 i e.2.1 (e:Zaj) Aa).pc (Qrf _ _ _ p);simp only at a r;rw[Z9z i _ _ Aa,b];simp only[pA];have l:=JX n r.1 r.2;rw[Cg n r.1 r.2,Ry n r.1 r.2];exact⟨_,y,rfl,rfl,Ai,a.mono Aa⟩
  ·obtain⟨⟨y,g,u⟩,b,a⟩:=Z8e i Aa e.2.1;unfold j9;rw[k];simp only[La,pG,pH];rw[Z46 i _ Aa,b];simp only[pA,TO,NW];exact⟨_,y,rfl,rfl,CH _,a.mono Aa⟩
  ·obtain⟨⟨⟨d,f,y,u⟩,v⟩,b,a,r⟩:=Qex i Aa e.2.1 e.2.2.1;simp only at a r;have m:=T9 d;rw[Qb7 i _ _ Aa,b];simp only[pA];rw[Qwt d,Qws d];simp only[pA];refine⟨C5 d++(cond f [32,101,110,100] [32,109,111,114,101]),y,?_,?_,by cases f<;>simp<;>omega,a.mono Aa⟩
   ·cases f<;>simp only[pG,pH]<;>rw[Zb Al]
   ·rw[Zb Al];cases f<;>simp only[zN,pG,pH,pA]<;>rw[Zb Al]<;>simp
  ·obtain⟨⟨⟨y,g,u⟩,v⟩,b,a⟩:=Qb9 i Aa e.2.1 e.2.2.1;unfold j9;rw[k];simp only[La,pG,pH];rw[Z9e i _ _ Aa,b];simp only[pA,TO,NW];exact⟨_,y,rfl,rfl,CH _,a.mono Aa⟩
  ·obtain⟨⟨y,g,u⟩,b,a⟩:=Qfb i Aa e.2.1 e.2.2.1;unfold j9;rw[k];simp only[La,pG,pH];rw[Qcq i _ _ Aa,b];simp only[pA,TO,NW];exact⟨_,y,rfl,rfl,CH _,a.mono Aa⟩
  ·obtain⟨⟨y,g,u⟩,b,a⟩:=Qce i Aa e.2.1 (e:Zaj) Aa;unfold j9;rw[k];simp only[La,pG,pH];rw[Qny i _ _ Aa Aa,b];simp only[pA,TO,NW];exact⟨_,y,rfl,rfl,CH _,a.mono Aa⟩
  ·have m:=T9 (BD c e.2.2.1);have w:=Qpf c e.2.2.1;have j:OW (SF c e.2.2.1):=by
    have h:=((Sp i).1 hc).tail;unfold F7 at h;simp only[pC,oC]at h;have h:0<=Ub c/\Ub c<=1000000:=h.1.1.1.1.2;unfold SF
    grind
   have l:=JX (SF c e.2.2.1) j.1 j.2;rw[Qwj i Aa,Qwi i Aa];simp only[pA];rw[Cg _ j.1 j.2,Ry _ j.1 j.2,Qwt _,Qws _];simp only[pA];refine⟨cond (SF c e.2.2.1==(-1:Int)) [110,111,116,104,105,110,103] ((Lh (SF c e.2.2.1)++[32])++C5 (BD c e.2.2.1)),Gx c e.2.2.1,?_,?_,by grind[SF],(Qpc i Aa _).mono Aa⟩
   ·cases SF c e.2.2.1==(-1:Int)
    ·rw[pH,pH,Zb Al,Zb Al]
    ·rfl
   grind[Zb,Ym,zN]
  ·unfold j9;rw[k];simp only[La,pG,pH];rw[Qrh i Aa,Qv2 i Aa];simp only[pA,TO,NW];exact⟨_,_,rfl,rfl,CH _,(Qkf i Aa _).mono Aa⟩
  ·unfold j9;rw[k];simp only[La,pG,pH];rw[Qr9 i Aa,Qww i Aa];simp only[pA,TO,NW];exact⟨_,_,rfl,rfl,CH _,(Qmq i Aa _).mono Aa⟩
  ·have m:=T9 (BD c e.2.2.1);have w:2*(PL (e:Zaj)).length<=(e:Zaj).length:=by
    unfold PL;cases hx:wr (e:Zaj) with
    |none=>simp
    |some d=>simp_all[Uk]
   obtain⟨x,z⟩:=Qk7 (e:Zaj) Aa;obtain⟨A,B⟩:=hpE i h25 (PL (e:Zaj));have r:OW (PA c (PL (e:Zaj))).2:=by
    unfold PA;rw[hc,hz];cases (SS (Vo (PL (e:Zaj)))).2.1
    all_goals simp_all[OW,Qgl]
   have l:=JX (PA c (PL (e:Zaj))).2 r.1 r.2;rw[x,z];simp only[pA];rw[A,B];simp only[pA];rw[Cg _ r.1 r.2,Ry _ r.1 r.2];simp only[pA];rw[Zb Al,Zb Al];exact⟨_,_,rfl,rfl,Ae,(Qt5 i h25 _ Aa Aa).mono Aa⟩
  ·obtain⟨⟨y,g,u⟩,b,a⟩:=Qnd i Aa e.2.2.1;unfold j9;rw[k];simp only[La,pH];rw[Qjg i _ Aa,b];simp only[pA,TO,NW];exact⟨_,y,rfl,rfl,CH _,a.mono Aa⟩
 ·exact⟨_,_,rfl,rfl,Ah,i.mono Aa⟩
end
theorem Qbk{s:Ba}(h:Se s=X):s.length<=40:=by grind[Se]
theorem Z4w:∀{s d:Ba},wr s=W d->(10:UInt8)∉s
 |[],_,_=>Ac
 |[a],_,h=>by simp[wr]at h
 |a::b::r,d,h=>by
  unfold wr at h;have e:hv 10= -1:=Ah
  intro c;simp only[L0]at c;rcases c with q|q|q
  ·simp_all
  ·simp_all
  ·cases hu:wr r with
   |none=>simp_all
   |some x=>exact Z4w hu q
theorem Z94{lo hi:Int}(h1:10<lo){s:Ba}(h:s.all (IB lo hi)=X):(10:UInt8)∉s:=λa=>by
 grind[IB]
theorem Qpm{e:Z4}(hl:(e:Zaj).length<=1048576)(hf:Ip e=e):Pc (du e) λr=>r.1=X->(e:Zaj).length<=1000/\(10:UInt8)∉(e:Zaj):=by
 unfold du gG;refine Pc.skip λ_=>Pc.skip λ_=>Pc.skip λ_=>Pc.skip λ_=>Pc.ite (λ_=>Pc.pure λq=>by cases q) λ_=>Pc.ite (λ_=>Pc.pure λq=>?_) λb=>Pc.ite (λ_=>?_) λc=>Pc.ite (λ_=>?_) λf=>Pc.ite (λ_=>?_) λa=>Pc.pure λ_=>?_
 ·grind
 ·rw[Zsq _ hl,pA];refine Pc.pure λq=>?_;simp only[pC]at q;have:=Qbk q.2;exact⟨Aa,Z94 Ah q.1⟩
 ·rw[Z33 _ hl,pA];refine Pc.pure λq=>?_;simp only[pC]at q;have:=Qbk q.2;exact⟨Aa,Z94 Ah q.1⟩
 ·rw[(Qk7 _ hl).1,pA];cases hu:wr (e:Zaj) with
  |none=>simp_all[Pc.pure]
  |some d=>
   have:=Uk hu;simp only[M4,pG];rw[Iv,pA];refine Pc.pure λq=>?_;simp_all[oC,PL,Z4w]<;>omega
 constructor<;>grind[Ip]
theorem Qlp{e:Z4}(hl:(e:Zaj).length<=1048576)(h:Eh e=X):qI e/\(10:UInt8)∉(e:Zaj):=by obtain⟨a,b,hk⟩:=xS e hl;have k:=Qpm hl (Z55 hl h) _ a h;rw[h]at a b;exact⟨⟨a,b,(hk h).1,k.1⟩,k.2⟩
def Sm(c:Zf)(e:Z4):Ba×Zf:=match my c e with|some ((o,y,_),_)=>(o,y)|none=>([],c)
def YD:List Z4->Zf->List Ba|[],_=>[]|e::l,c=>(Sm c e).1::YD l (Sm c e).2
def zP:List Z4->Zf->Zf|[],c=>c|e::l,c=>zP l (Sm c e).2
theorem Qcb:∀(l:List Z4)(c:Zf),(YD l c).length=l.length
 |[],_=>rfl
 |e::l,c=>by simp[YD,Qcb l]
section
theorem Hb(A:Qb K c)(h25:25<=K)(hK:K<=70000){e:Z4}(he:qI e):my c e=W (((Sm c e).1,(Sm c e).2,()),())/\rO c e=W ((Sm c e).1,(Sm c e).2,())/\Qb (K+1010) (Sm c e).2/\(Sm c e).1.length<=200000:=by grind(splits:=20)[Qtc,Sm]
theorem Qss:∀(l:List Z4)(K:Nat)(c:Zf),Qb K c->25<=K->K+1010*l.length<=70000->(∀e∈l,qI e)->Qb (K+1010*l.length) (zP l c)
 |[],_,_,A,_,_,_=>A
 |e::l,K,c,A,a,d,b=>by
  simp only[Lb]at d⊢;obtain⟨-,-,B,-⟩:=Hb A a Aa (b e L9);have:=Qss l (K+1010) _ B Aa Aa λx hx=>b x (Lu _ hx);exact this.mono Aa
theorem Qxl:∀(N m:Nat)(pre rest:List Z4)(K:Nat)(c:Zf)(out:List Ba),m+pre.length=60->rest.length<N->(pre++rest).length<=1048577->Qb K c->25<=K->K+1010*m<=70000->(∀e∈rest,qI e)->out.length<=pre.length->
  dy N (pre++rest) Xl c out (pre.length:Int)=W ((out++YD (rest.take m) c,zP (rest.take m) c,()),())
 |0,_,_,_,_,_,_,_,h,_,_,_,_,_,_=>Aa
 |N+1,m,pre,[],K,c,out,f,d,g,A,a,i,b,j=>by
  simp_all[dy,YD,zP]
 |N+1,0,pre,e::r,K,c,out,f,d,g,A,a,i,b,j=>by
  simp_all[dy,YD,zP]
 |N+1,m+1,pre,e::r,K,c,out,f,d,g,A,a,i,b,j=>by
  have k:(pre++e::r).length=pre.length+r.length+1:=Ae
  have l:K2.wrap ((pre.length:Int)+1)=((pre.length+1:Nat):Int):=Zs (m:=1048578) Aa Ah;obtain⟨n,-,B,-⟩:=Hb A a Aa (b e L9);unfold dy;rw[Zl (show(pre.length:Int)<((pre++e::r).length:Int) by omega),Zl (show(pre.length:Int)<(60:Int) by omega),pJ,pG,Zb,Xm];rw[show(pre++e::r).getD (pre.length:Int).toNat mi=e from aH pre e r mi,n,pA];unfold XR;rw[Zb Aj,l,U0 pre e r];have o:((pre.length+1:Nat):Int)=((pre++[e]).length:Int):=Ac
  rw[o];simp only;rw[Qxl N m (pre++[e]) r (K+1010) _ _ Ae (by simp at d;omega) Af B Aa Aa (λx hx=>b x (Lu _ hx)) Ae];simp[YD,zP]
theorem Qxk:∀(N:Nat)(pre rest:List Z4)(K:Nat)(c:Zf)(out:List Ba),rest.length<N->(pre++rest).length<=60->Qb K c->25<=K->K+1010*rest.length<=70000->(∀e∈rest,qI e)->out.length<=pre.length->
  iJ N Xl out c (pre++rest) ((pre++rest).length:Int) (pre.length:Int)=W ((out++YD rest c,zP rest c,()),())
 |0,_,_,_,_,_,h,_,_,_,_,_,_=>Aa
 |N+1,pre,[],K,c,out,d,g,A,a,f,b,i=>by
  simp_all[iJ,YD,zP]
 |N+1,pre,e::r,K,c,out,d,g,A,a,f,b,i=>by
  have j:(pre++e::r).length=pre.length+r.length+1:=Ae
  have k:K2.wrap ((pre.length:Int)+1)=((pre.length+1:Nat):Int):=Zs (m:=1048578) Aa Ah;simp only[Lb]at f d;obtain⟨-,l,B,-⟩:=Hb A a Aa (b e L9);unfold iJ;rw[Zo (Zl),Zb];rw[show(pre++e::r).getD (pre.length:Int).toNat mi=e from aH pre e r mi,l,pA];rw[Zb Aj,k,U0 pre e r];have n:((pre.length+1:Nat):Int)=((pre++[e]).length:Int):=Ac
  rw[n];simp only;rw[Qxk N (pre++[e]) r (K+1010) _ _ Aa Af B Aa Aa (λx hx=>b x (Lu _ hx)) Ae];simp[YD,zP]
theorem Qyy(A:Qb K c)(h25:25<=K)(hK:K<=9000){l:List Z4}(hl:l.length<=1048577)(he:∀e∈l,qI e):
  XQ c l=W ((YD (l.take 60) c,zP (l.take 60) c,()),())/\ZZ c l=W ((YD (l.take 60) c,zP (l.take 60) c,()),())/\Qb 70000 (zP (l.take 60) c):=by
 have b:(l.take 60).length<=60:=Ag
 have a:∀e∈l.take 60,qI e:=λe h=>he e (List.mem_of_mem_take h);refine⟨?_,?_,?_⟩
 ·unfold XQ;rw[Y8 A,pA];exact Qxl _ 60 [] l K c [] rfl (by simp[rF]) (by simpa using hl) A h25 Aa he Ac
 ·unfold ZZ;rw[V6 A,pA,Zb];have d:(l.drop (0:Int).toNat).take ((min (l.length:Int) (60:Int)).toNat- (0:Int).toNat)=l.take 60:=by
   simp_all<;>omega
  simp only[d];exact Qxk _ [] (l.take 60) K c [] (by simp[rg]) b A h25 Aa a Ac
 ·exact(Qss (l.take 60) K c A h25 Aa a).mono Aa
end
theorem Qtp(s:Ba):(eS s:Zaj).length<=s.length:=by grind[xY,eS]
theorem Quv{s:Ba}(hs:s.length<=1048576)(h:(Fz s).2.1=X):qI (Fz s).1:=by
 have a:=Qtp s;unfold Fz Ii at h⊢;split at h
 ·rename_i q;rw[if_pos q]
  grind[LW,Qlp]
 ·cases h
theorem Qf5:∀(r:List Ba)(out:List Z4),(∀s∈r,s.length<=1048576)->(∀e∈out,qI e)-> ∀e∈(RZ out r).1,qI e
 |[],out,_,_=>by simp[RZ]
 |[l],out,_,a=>by
  grind[RZ]
 |l::b::r,out,c,a=>by
  unfold RZ;split
  ·rename_i q;exact Qf5 (b::r) _ (λs d=>c s (Lu _ d)) λe f=>by
    grind[Quv]
  ·simp
theorem Qw1(s:Bool)(o p:av):∃r,xq s o p=W r/\Is s o p=W r/\Qb 25 r.1:=by obtain⟨r,e,h⟩:=Qm6 s o p;refine⟨r,e,Lr ?_ e,h.mono Aa⟩;unfold Is gG xq gG;rw[Ps,Ps];rfl
theorem Qqr(s:Bool)(o p:av)(t:Ba)(ht:t.length<=1048576):∃out y b,mI s o p t=W ((out,y,b,()),())/\bC s o p t=W ((out,y,b,()),())/\out.length<=60/\Qb 70000 y:=by
 obtain⟨r,a,c,A⟩:=Qw1 s o p;obtain⟨d,e⟩:=Qla t ht;have f:=Qf5 (dG 10 t) [] (λx hx=>Lg ((AB 10 t).2 x hx) ht) Ac;have g:=Qal (dG 10 t) [];have n:=(AB 10 t).1;simp only[Li,Nat.zero_add]at g;unfold mI bC;rw[a,c,d,e];simp only[pA];generalize RZ [] (dG 10 t)=q at*
 by_cases h:r.2.1=X/\q.2.1=X
 ·obtain⟨i,j,k⟩:=Qyy A Aa Aa (l:=q.1) Aa f;rw[h.1,h.2,i,j];exact⟨_,_,X,rfl,rfl,by grind[Qcb],k⟩
 ·have m:((!r.2.1)||(!q.2.1))=true:=by
   grind
  rw[m];exact⟨[],Xl,K3,rfl,rfl,Ac,(Qb.zero rfl rfl).mono Aa⟩
theorem Zk4:∀(d N:Nat)(k:Int)(out:Ba),0<=k->k<N->k<(10:Int)^d->k<=9223372036854775807->out.length+d<=1000-> ∃r,kC N k out=W (r,())
 |d,0,k,_,b,a,_,_,_=>Aa
 |0,N+1,k,out,b,_,a,_,c=>by
  unfold kC;rw[Zm (Zk (by simp at a;omega)),Zb (by unfold Ym;simp;omega)];exact⟨_,rfl⟩
 |d+1,N+1,k,out,b,f,a,g,c=>by
  unfold kC;by_cases h:k>0
  ·have e:Int.tdiv k 10=k/10:=Int.tdiv_eq_ediv_of_nonneg b;have hk:k/10<(10:Int)^d:=by
    rw[Int.pow_succ]at a;generalize (10:Int)^d=q at*
    omega
   rw[Zo (Zl h),Zb Ah];simp only[];rw[Zb (by unfold Ym Xf;simp;omega),Zb Ah,e,Zr];exact Zk4 d N (k/10) _ Aa Aa hk Aa (by unfold Xf;simp;omega)
  ·rw[Zm (Zk h),Zb (by unfold Ym;simp;omega)];exact⟨_,rfl⟩
def Qg2(k:Int):Ba:=((bk k).getD ([],())).1
theorem mt(k:Int)(h1:k<=2305843009213693952):bk k=W (Qg2 k,()):=by
 have:∃r,bk k=W (r,()):=by
  unfold bk;by_cases h:k<=0
  ·rw[Zo (Zl h)];exact⟨_,rfl⟩
  ·rw[Zm (Zk h)];have a:k<(10:Int)^30:=by
    have:(10:Int)^30=1000000000000000000000000000000:=Ah
    rw[this];omega
   unfold ud;exact Zk4 30 _ k [] Aa Aa a Aa Ac
 obtain⟨r,b⟩:=this;unfold Qg2;rw[b];rfl
theorem w1(x:Int)(h0:0<=x)(h1:x<=2305843009213693952):K2.wrap (x+1)=x+1:=Zr
theorem Qxx:(3:Int)≠0:=Ah
section
variable {α:Type} (p:List α) (x:α) (r:List α)
theorem Qwz:(p.length:Int)<(p++x::r).length:=Ae
theorem mS(y:α):(p++x::r).set (p.length:Int).toNat y=p++y::r:=by rw[show(p.length:Int).toNat=p.length from rfl,List.set_append_right _ _ (Mc _)];simp
theorem mG(z:α):(p++x::r).getD (p.length:Int).toNat z=x:=by rw[show(p.length:Int).toNat=p.length from rfl,L7,List.getElem?_append_right (Mc _)];simp
theorem mP(e:Option β):Ze (0<=(p.length:Int)/\(p.length:Int)<(p++x::r).length) e=e:=Zb ⟨Aa,Qwz p x r⟩
theorem mD(e g:Option β):(cond (Z ((p.length:Int)<(p++x::r).length)) e g)=e:=Zo (Zl (Qwz p x r))
theorem m3(e:Option β):Ze ((3:Int)≠0) e=e:=Zb Qxx
theorem mN{q:Int}(h:0<=q)(e g:Option β):(cond (Z (q<0)) e g)=g:=Zm (Zk)
theorem mE[BEq γ][LawfulBEq γ](u:γ)(e g:Option β):(cond (u !=u) e g)=g:=Zm Ac
theorem mB[BEq γ][LawfulBEq γ](u:γ)(e g:Option β):(cond (!(u==u)) e g)=g:=Zm Ac
end
theorem Zn7{α:Type}{f:Nat->List α->Int->Int->Option ((Int×Unit)×List α)}{g:Nat->List α->Int->Int->Oa Int}{B c:Int}{Q:α->Prop}(hc:0<=c)
  (f0:∀N l k i,¬i<(l.length:Int)->f (N+1) l k i=W ((k,()),l))
  (g0:∀N l k i,¬i<(l.length:Int)->g (N+1) l k i=W (k,()))
  (hs:∀x k,Q x->0<=k->k<=B-> ∃k' x',((∀N (p r:List α),f (N+1) (p++x::r) k (p.length:Int)=f N (p++x'::r) k' (K2.wrap ((p.length:Int)+1)))/\
   (∀N (p r:List α),g (N+1) (p++x'::r) k (p.length:Int)=g N (p++x'::r) k' (K2.wrap ((p.length:Int)+1))))/\k<=k'/\k'<=k+c):
  ∀(l:List α)(k:Int),(∀x∈l,Q x)->l.length<=2000000->0<=k->k+c*l.length<=B-> ∃k' l',l'.length=l.length/\k<=k'/\k'<=k+c*l.length/\
   (∀N (p:List α),l.length<N->p.length+l.length<=2000000->f N (p++l) k (p.length:Int)=W ((k',()),p++l'))/\
   (∀N (p:List α),l.length<N->p.length+l.length<=2000000->g N (p++l') k (p.length:Int)=W (k',()))
 |[],k,_,_,_,_=>⟨k,[],rfl,Aa,Ac,λN p h _=>by
   obtain⟨N,rfl⟩:∃m,N=m+1:=⟨N-1,by simp at h;omega⟩
   exact f0 _ _ _ _ Ac,λN p h _=>by
   obtain⟨N,rfl⟩:∃m,N=m+1:=⟨N-1,by simp at h;omega⟩
   exact g0 _ _ _ _ Ac⟩
 |x::l,k,a,d,j,z=>by
  have e:c*((x::l).length:Int)=c*(l.length:Int)+c:=by rw[Lb,Int.natCast_succ,Int.mul_add,Int.mul_one]
  have A:0<=c*(l.length:Int):=Int.mul_nonneg hc Aa;simp only[Lb]at d;obtain⟨n,x',⟨o,q⟩,C,D⟩:=hs x k (a x Ac) j Aa;obtain⟨s,l',t,E,F,u,v⟩:=Zn7 hc f0 g0 hs l n (λy w=>a y (by simp[w])) Aa Aa Aa;refine⟨s,x'::l',by simp[t],Aa,Aa,λN p h b=>?_,λN p h b=>?_⟩
  all_goals
   obtain⟨N,rfl⟩:∃m,N=m+1:=⟨N-1,by simp at h;omega⟩
   simp only[Lb]at h b
  ·have:=u N (p++[x']) Aa Ae;rw[o,Zr];simpa using this
  ·have:=v N (p++[x']) Aa Ae;rw[q,Zr];simpa using this
def MH{α:Type}(f:List α->Int->Option ((Int×Unit)×List α))(g:List α->Int->Oa Int)(l:List α)(B c:Int):Prop:=∀k,0<=k->k<=B-> ∃k' l',k<=k'/\k'<=k+c/\f l k=W ((k',()),l')/\g l' k=W (k',())
theorem mk{F:List α->Int->Option ((Int×Unit)×List α)}{G:List α->Int->Oa Int}{f:Nat->List α->Int->Int->Option ((Int×Unit)×List α)}{g:Nat->List α->Int->Int->Oa Int}{B B' c C:Int}(n:Nat)(hc:0<=c)
  (f0:∀N l k i,¬i<(l.length:Int)->f (N+1) l k i=W ((k,()),l))
  (g0:∀N l k i,¬i<(l.length:Int)->g (N+1) l k i=W (k,()))
  (hF:∀l k,F l k=f (((l.length:Int)-0).toNat+1) l k 0) (hG:∀l k,G l k=g (((l.length:Int)-0).toNat+1) l k 0)
  (hs:∀x k,Q x->0<=k->k<=B-> ∃k' x',((∀N (p r:List α),f (N+1) (p++x::r) k (p.length:Int)=f N (p++x'::r) k' (K2.wrap ((p.length:Int)+1)))/\
   (∀N (p r:List α),g (N+1) (p++x'::r) k (p.length:Int)=g N (p++x'::r) k' (K2.wrap ((p.length:Int)+1))))/\k<=k'/\k'<=k+c)
  (h1:n<=2000000) (h2:c*n<=C) (h3:B'+C<=B) {l:List α} (hl:l.length<=n) (hQ:∀x∈l,Q x):MH F G l B' C:=by
 intro k b j;have:=Int.mul_le_mul_of_nonneg_left (show(l.length:Int)<=n by omega) hc;obtain⟨k',a,m,d,o,e,h⟩:=Zn7 hc f0 g0 hs l k hQ Aa b Aa;exact⟨k',a,d,Aa,(hF l k).trans (e _ [] Aa Ae),(hG a k).trans (h _ [] Aa Ae)⟩
theorem Quj{l:List Int}(hl:l.length<=64):MH Tu Pf l 1000000000000000000 64:=
 mk (f:=kB) (g:=kA) (B:=2000000000000000000) (c:=1) (Q:=λ_=>True) 64 Aa
  (λN l k i h=>by rw[kB,Zm (Zk h)]) (λN l k i h=>by rw[kA,Zm (Zk h)]) (λ_ _=>rfl) (λ_ _=>rfl)
  (λx k _ a b=>by
   apply Le;apply Le;refine⟨⟨λN p r=>?_,λN p r=>?_⟩,?_⟩
   ·rw[kB];simp(disch:=omega) only[↓K5,mD,m3,mP,mS,mG,m3,mt,w1,pA];rfl
   ·rw[kA];simp(disch:=omega) only[↓K5,mD,m3,mP,mS,mG,m3,mt,w1,mE,mB,pA]
   ·omega) Aa Aa Aa hl (λ_ _=>trivial)
theorem Bj{l:List (Zi)}(hl:l.length<=1000001):MH rU rT l 1000000000000000000 2000002:=
 mk (f:=fm) (g:=fh) (B:=2000000000000000000) (c:=2) (Q:=λ_=>True) 1000001 Aa
  (λN l k i h=>by rw[fm,Zm (Zk h)]) (λN l k i h=>by rw[fh,Zm (Zk h)]) (λ_ _=>rfl) (λ_ _=>rfl)
  (λx k _ a b=>by
   apply Le;apply Le;refine⟨⟨λN p r=>?_,λN p r=>?_⟩,?_⟩
   ·rw[fm];simp(disch:=omega) only[↓K5,mD,m3,mP,mS,mG,m3,mt,w1,pA];rfl
   ·rw[fh];simp(disch:=omega) only[↓K5,mD,m3,mP,mS,mG,m3,mt,w1,mE,mB,pA]
   ·omega) Aa Aa Aa hl (λ_ _=>trivial)
theorem Qmw{l:List (Z6)}(hl:l.length<=70000):MH WA VZ l 1000000000000000000 140000:=
 mk (f:=fi) (g:=ff) (B:=2000000000000000000) (c:=2) (Q:=λ_=>True) 70000 Aa
  (λN l k i h=>by rw[fi,Zm (Zk h)]) (λN l k i h=>by rw[ff,Zm (Zk h)]) (λ_ _=>rfl) (λ_ _=>rfl)
  (λx k _ a b=>by
   apply Le;apply Le;refine⟨⟨λN p r=>?_,λN p r=>?_⟩,?_⟩
   ·rw[fi];simp(disch:=omega) only[↓K5,mD,m3,mP,mS,mG,m3,mt,w1,pA];rfl
   ·rw[ff];simp(disch:=omega) only[↓K5,mD,m3,mP,mS,mG,m3,mt,w1,mE,mB,pA]
   ·omega) Aa Aa Aa hl (λ_ _=>trivial)
theorem Qmx{l:List (Zj)}(hl:l.length<=1000):MH WB V' l 1000000000000000000 9000:=
 mk (f:=fj) (g:=fg) (B:=2000000000000000000) (c:=9) (Q:=λ_=>True) 1000 Aa
  (λN l k i h=>by rw[fj,Zm (Zk h)]) (λN l k i h=>by rw[fg,Zm (Zk h)]) (λ_ _=>rfl) (λ_ _=>rfl)
  (λx k _ a b=>by
   apply Le;apply Le;refine⟨⟨λN p r=>?_,λN p r=>?_⟩,?_⟩
   ·rw[fj];simp(disch:=omega) only[↓K5,mD,m3,mP,mS,mG,m3,mt,w1,pA];rfl
   ·rw[fg];simp(disch:=omega) only[↓K5,mD,m3,mP,mS,mG,m3,mt,w1,mE,mB,pA]
   ·omega) Aa Aa Aa hl (λ_ _=>trivial)
theorem Qi2{l:List Ba}(hl:l.length<=60):MH YY xi l 1000000000000000000 60:=
 mk (f:=dN) (g:=dK) (B:=2000000000000000000) (c:=1) (Q:=λ_=>True) 60 Aa
  (λN l k i h=>by rw[dN,Zm (Zk h)]) (λN l k i h=>by rw[dK,Zm (Zk h)]) (λ_ _=>rfl) (λ_ _=>rfl)
  (λx k _ a b=>by
   apply Le;apply Le;refine⟨⟨λN p r=>?_,λN p r=>?_⟩,?_⟩
   ·rw[dN];simp(disch:=omega) only[↓K5,mD,m3,mP,mS,mG,m3,mt,w1,pA];rfl
   ·rw[dK];simp(disch:=omega) only[↓K5,mD,m3,mP,mS,mG,m3,mt,w1,mE,mB,pA]
   ·omega) Aa Aa Aa hl (λ_ _=>trivial)
theorem Qi0{l:List Qa}(hl:l.length<=70000)(hx:∀x∈l,x.2.1.length<=1000):MH xj YW l 800000000000000000 700000000:=
 mk (f:=dL) (g:=dI) (B:=900000000000000000) (c:=9001) (Q:=λx=>x.2.1.length<=1000) 70000 Aa
  (λN l k i h=>by rw[dL,Zm (Zk h)]) (λN l k i h=>by rw[dI,Zm (Zk h)]) (λ_ _=>rfl) (λ_ _=>rfl)
  (λx k h d e=>by
   obtain⟨r,q,j,m,a,b⟩:=Qmx h (k+1) Aa Aa;apply Le;apply Le;refine⟨⟨λN p r=>?_,λN p r=>?_⟩,?_⟩
   ·rw[dL];simp(disch:=omega) only[↓K5,mD,m3,mP,mS,mG,w1,a,pA];rfl
   ·rw[dI];simp(disch:=omega) only[mD,mP,mG,w1,mE,mN,b,pA]
   ·omega) Aa Aa Aa hl hx
theorem Qi1{l:List Zh}(hl:l.length<=70000)(hx:∀x∈l,Xx 70000 x):MH xk YX l 800000000000000000 490000000000:=
 mk (f:=dM) (g:=dJ) (B:=900000000000000000) (c:=7000000) (Q:=λx=>Xx 70000 x) 70000 Aa
  (λN l k i h=>by rw[dM,Zm (Zk h)]) (λN l k i h=>by rw[dJ,Zm (Zk h)]) (λ_ _=>rfl) (λ_ _=>rfl)
  (λx k h E F=>by
   have S:=h.snd;obtain⟨a,G,H,b,d,e⟩:=Quj S.cells (k+1+1+1+1+1) Aa Aa;obtain⟨j,I,J,m,n,o⟩:=Bj (Qx S.pend S.e0 S.eK) a Aa Aa;obtain⟨q,K,L,s,t,u⟩:=Bj (Qx S.pT S.e0 S.eK) j Aa Aa;obtain⟨v,M,O,w,y,z⟩:=Bj (Qx S.pO S.e0 S.eK) q Aa Aa;obtain⟨P,U,V,A,C,D⟩:=Qmw h.rcv.len (v+1+1+1+1+1+1+1+1+1+1) Aa Aa;apply Le;apply Le;refine⟨⟨λN p r=>?_,λN p r=>?_⟩,?_⟩
   ·rw[dM];simp(disch:=omega) only[↓K5,mD,m3,mP,mS,mG,w1,m3,d,n,t,y,C,pA];rfl
   ·rw[dJ];simp(disch:=omega) only[mD,mP,mG,w1,m3,mE,mB,mN,e,o,u,z,D,pA]
   ·omega) Aa Aa Aa hl hx
theorem eqL{α:Type}{f:Nat->List α->List α->Int->Oa Bool}{Q:α->Prop}(f0:∀N l i,¬i<(l.length:Int)->f (N+1) l l i=W (X,()))
  (fs:∀N (p r:List α) x,Q x->f (N+1) (p++x::r) (p++x::r) (p.length:Int)=f N (p++x::r) (p++x::r) (K2.wrap ((p.length:Int)+1))):
  ∀(l p:List α) N,(∀x∈l,Q x)->l.length<N->p.length+l.length<=2000000->f N (p++l) (p++l) (p.length:Int)=W (X,())
 |[],p,N,_,h,_=>by
  obtain⟨N,rfl⟩:∃m,N=m+1:=⟨N-1,by simp at h;omega⟩
  exact f0 _ _ _ Ac
 |x::l,p,N,a,h,b=>by
  obtain⟨N,rfl⟩:∃m,N=m+1:=⟨N-1,by simp at h;omega⟩
  simp only[Lb]at h b;have:=eqL f0 fs l (p++[x]) N (λy c=>a y (by simp[c])) Aa Ae;rw[fs _ _ _ _ (a x Ac),Zr];simpa using this
theorem jL{F:List α->List α->Oa Bool}{f:Nat->List α->List α->Int->Oa Bool}(f0:∀N l i,¬i<(l.length:Int)->f (N+1) l l i=W (X,()))
  (fs:∀N (p r:List α) x,Q x->f (N+1) (p++x::r) (p++x::r) (p.length:Int)=f N (p++x::r) (p++x::r) (K2.wrap ((p.length:Int)+1)))
  (hF:∀l,F l l=bif(l.length:Int) !=(l.length:Int)then W (K3,())else f (((l.length:Int)-0).toNat+1) l l 0) {l:List α} (hl:l.length<=2000000) (hQ:∀x∈l,Q x):F l l=W (X,()):=by
 rw[hF,mE];exact eqL f0 fs l [] _ hQ Aa (by simpa using hl)
theorem Qtu{l:List (Int)}(hl:l.length<=2000000):ES l l=W (X,()):=
 jL (f:=pi) (Q:=λ_=>True) (λN l i h=>by rw[pi,Zm (Zk h)])
  (λN p r x h=>by rw[pi];simp only[mD,mP,mG,mE,mB]) (λ_=>rfl) hl (λ_ _=>trivial)
theorem Qiq{l:List Ba}(hl:l.length<=2000000):vp l l=W (X,()):=
 jL (f:=iM) (Q:=λ_=>True) (λN l i h=>by rw[iM,Zm (Zk h)])
  (λN p r x h=>by rw[iM];simp only[mD,mP,mG,mE,mB]) (λ_=>rfl) hl (λ_ _=>trivial)
theorem Qln(x:Zi):l5 x x=W (X,()):=by unfold l5;simp only[mE,mB]
theorem Qlk(x:Z6):MJ x x=W (X,()):=by unfold MJ;simp only[mE,mB]
theorem AU{l:List (Zi)}(hl:l.length<=2000000):yj l l=W (X,()):=
 jL (f:=kz) (Q:=λ_=>True) (λN l i h=>by rw[kz,Zm (Zk h)])
  (λN p r x h=>by rw[kz];simp only[mD,mP,mG,mE,mB,Qln,pA,pI,pH]) (λ_=>rfl) hl (λ_ _=>trivial)
theorem Qlj{l:List (Z6)}(hl:l.length<=2000000):Im l l=W (X,()):=
 jL (f:=kw) (Q:=λ_=>True) (λN l i h=>by rw[kw,Zm (Zk h)])
  (λN p r x h=>by rw[kw];simp only[mD,mP,mG,mE,mB,Qlk,pA,pI,pH]) (λ_=>rfl) hl (λ_ _=>trivial)
theorem Qlm(x:Zj):O9 x x=W (X,()):=by unfold O9;simp only[mE,mB]
theorem Qll{l:List (Zj)}(hl:l.length<=2000000):A7 l l=W (X,()):=
 jL (f:=ky) (Q:=λ_=>True) (λN l i h=>by rw[ky,Zm (Zk h)])
  (λN p r x h=>by rw[ky];simp only[mD,mP,mG,mE,mB,Qlm,pA,pI,pH]) (λ_=>rfl) hl (λ_ _=>trivial)
theorem Qin(x:Qa)(h:x.2.1.length<=1000):KZ x x=W (X,()):=by unfold KZ;simp only[mE,Qll (l:=x.2.1) Aa,pA,pI,pH]
theorem Qim{l:List (Qa)}(hl:l.length<=2000000)(hx:∀x∈l,x.2.1.length<=1000):RR l l=W (X,()):=
 jL (f:=iK) (Q:=λx=>x.2.1.length<=1000) (λN l i h=>by rw[iK,Zm (Zk h)])
  (λN p r x h=>by rw[iK];simp only[mD,mP,mG,mE,mB,Qin x h,pA,pI,pH]) (λ_=>rfl) hl (hx)
theorem Z53(x:Qq):yi x x=W (X,()):=by unfold yi;simp only[mE,mB]
theorem Qav(x:aP):QQ x x=W (X,()):=by unfold QQ;simp only[mE,mB]
theorem Qli(x:Qq):QP x x=W (X,()):=by unfold QP;simp only[mE,mB]
theorem Qph(x:av):JY x x=W (X,()):=by unfold JY;simp only[mE,mB]
theorem Z54(x:Qp):yk x x=W (X,()):=by unfold yk;simp only[mE,mB]
theorem Qaw(x:Qz):yS x x=W (X,()):=by unfold yS;simp only[mE,mB]
theorem Qip(x:Zh)(h:Xx 70000 x):JA x x=W (X,()):=by have S:=h.snd;have a:=Qx S.pend S.e0 S.eK;have b:=Qx S.pT S.e0 S.eK;have c:=Qx S.pO S.e0 S.eK;have d:=S.cells;have e:=h.rcv.len;unfold JA Bu VY NE DS;simp only[mE,mB,Z53,Qav,Z54,Qaw,Qtu (Lg d Aa),AU (Lg a Aa),AU (Lg b Aa),AU (Lg c Aa),Qlj (Lg e Aa),pA,pI,pH]
theorem Qio{l:List (Zh)}(hl:l.length<=2000000)(hx:∀x∈l,Xx 70000 x):UJ l l=W (X,()):=
 jL (f:=iL) (Q:=λx=>Xx 70000 x) (λN l i h=>by rw[iL,Zm (Zk h)])
  (λN p r x h=>by rw[iL];simp only[mD,mP,mG,mE,mB,Qip x h,pA,pI,pH]) (λ_=>rfl) hl (hx)
theorem Qpi(h:Qb 70000 c):JZ c c=W (X,()):=by have b:=h.str.len;have a:=h.pk.1;unfold JZ;simp only[mE,mB,Qph,Z53,Z54,Qav,Qli,Qio (show (c:Id).length<=2000000 by omega) h.str.all,Qim (Lg a Aa) (λx hx=>(h.pk.2 x hx).1),pA,pI,pH]
end
end Go.Proofs.YtglbkfajafconaaGreatDoor

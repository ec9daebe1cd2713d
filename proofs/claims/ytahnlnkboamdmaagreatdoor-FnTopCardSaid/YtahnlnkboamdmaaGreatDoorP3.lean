/- No condition. -/
import Derived.Test.YtahnlnkboamdmaaGreatDoorP2
set_option linter.all false
namespace Go.Proofs.YtahnlnkboamdmaaGreatDoor
noncomputable section
open Go.Am
set_option maxRecDepth 100000
open Option renaming some→O,bind→Y
open Bool renaming true→P,false→X,and_self→Z,or_self→K2,or_false→K3,false_and→Le,false_or→Lf,not_false→Lk,and_true→Lv,eq_iff_iff→Lw,not_not→L8,and_eq_false_iff→Mn,not_eq_true'→Mo
open Decidable renaming decide→U
open Go renaming IntKind→V
open IntKind renaming i64→W,u8→Lc
open List renaming length_cons→K4,drop_eq_nil_of_le→Lh,length_nil→Li,mem_append→Lj,drop_of_length_le→Lp,length_filter_le→Ls,nil_append→Lt,set_set→Lu,append_assoc→Lz,eq_nil_of_length_eq_zero→L0,filter_cons_of_pos→L1,flatMap_cons→L2,foldl_cons→L3,mem_cons→L4,mem_cons_of_mem→L5,replicate→L6,drop_zero→Ma,filter_eq_nil_iff→Mb,find?_cons→Mc,getD_cons_zero→Md,length_pos_iff→Me,mem_cons_self→Mf,mem_filter→Mg,mem_or_eq_of_mem_set→Mh,set_cons_zero→Mi,append_nil→Mq,filter_cons→Mr,filter_eq_self→Ms,getD_eq_getElem?_getD→Mt,length_append→Mu,map_cons→Mw
open Go.Lib renaming trimRightB→La,trimLeftB→Lr,itoa→Lx,trimB→Ly
open Int renaming reduceBEq→Lb,tmod→Lg,eq_ofNat_of_zero_le→Ll,tdiv→Lm,le_refl→Ln,natCast_zero→Lo,fdiv_eq_ediv_of_nonneg→Mp
open BitVec renaming ofInt→Ld,toNat_and→Ml,toNat_ofInt→Mm
open Nat renaming le_trans→Lq,zero_le→Mk,and_two_pow_sub_one_eq_mod→Mx,div_div_eq_div_mul→My,mod_eq_of_lt→Mz
open UInt8 renaming ofNat→L7
open Eq renaming trans→L9
open Nat.succ renaming inj→Mj
open List.Pairwise renaming cons→M0,nil→M1
variable{n o most limit id last E:Int}{sk:List Int}{a b:Ba}{l:List Zi}{K i k:Nat}{r:Q2}{α β:Type}{c x:Ze}{f:Zj}{s:Zk}{y:α}
theorem Qoq(n:Int):eJ n=O (Xx [Lc.wrap (bits .and .i64 n (255:Int))],()):=by
 unfold eJ p6;have h:=Z46 n;generalize bits .and .i64 n (255:Int)=m at*
 rw[show Z9 1 1 7=O (P,())from rfl];simp only[pA,pI,Lf];rw[Zp (Zm)];show Y (Y9 2 m 1 [] 0) _=_;unfold Y9;rw[Zn Ai,Zb Ai];simp only;rw[Zb (by simp[Jv,Xx]),Zb Ai];unfold Y9;have a:Lg m 256=m:=Ag
 have b:Lm m 256=0:=Ag
 rw[show W.wrap ((0:Int)+1)=1 from rfl,Zp Ai,a,b,show W.wrap (0:Int)=0 from rfl];simp
theorem Zs5(l:List Int):(Xx l)=l.length:=by simp[Xx]
theorem Qos(h0:0<=n)(h1:n<=255):eJ n=O (Xx [Lc.wrap n],()):=by
 rw[Qoq];have h:bits .and .i64 n 255=W.wrap (((Ld 64 n&&&Ld 64 255).toNat:Nat):Int):=rfl;have e:(Ld 64 n&&&Ld 64 255).toNat=n.toNat:=by
  rw[Ml,Mm,Mm];have a:(n% ((2^64:Nat):Int)).toNat=n.toNat:=Aa
  have b:((255:Int)% ((2^64:Nat):Int)).toNat=2^8-1:=Aa
  rw[a,b,Mx];omega
 grind[Zr]
def qsz(n:Int):Int:=ite (n<0\/n>4611686018427387903) 0 (ite (n<64) 1 (ite (n<16384) 2 (ite (n<1073741824) 4 8)))
theorem wi(n:Int):0<=qsz n/\qsz n<=8:=by
 grind[qsz]
theorem Qei(h:fq n=P):1<=qsz n:=by
 unfold fq at h;simp only[pC,decide_eq_true_eq]at h;unfold qsz;omega
theorem Qpt(h0:0<=n)(h1:n<64):qsz n=1:=by unfold qsz;omega
theorem szS(n:Int):ky n=O (qsz n,()):=by
 unfold ky qsz
 grind
theorem szI(n:Int):KV n=O (qsz n,()):=by
 rw[<-szS];unfold KV ky;rw[Zc1,pA];have:(!aY n)=(U (n<0)||U (n>4611686018427387903)):=by
  unfold aY
  grind
 rw[this]
theorem Qo0(n k:Int):∀(N m:Nat)(s:Ba),m<N->m<=8->s+m<=8->T (Qv N n k s ((m:Int)-1)) λr=>r.1=s+m
 |0,_,_,h,_,_=>Aa
 |N+1,0,s,_,_,hs=>by
  simp_all[Qv,T.pure]
 |N+1,m+1,s,c,d,hs=>by
  unfold Qv;have j:∀b,T (Y5 (λv=>Qv N v.1 v.2.1 v.2.2.1 v.2.2.2.1) n k s (((m+1:Nat):Int)-1) b) λr=>r.1=s+(m+1):=λb=>by
   unfold Y5;have a:W.wrap (((m+1:Nat):Int)-1-1)=(m:Int)-1:=Ao
   rw[Qoq,pA,a];exact T.guard (by grind[Jv,Zs5]) ((Qo0 n k N m _ Aa Aa (by grind[Zs5])).mono λy e=>by grind[Zs5])
  exact T.ite (λ_=>T.guard Ao (T.if (T.if (j _) (T.if (j _) (T.if (j _) (j _)))) (j _))) λh=>Ac
theorem enS(n:Int):T (Wr n) λr=>r.1=qsz n:=by
 unfold Wr;rw[szS,pA];have a:=wi n
 grind[Ll,Zr,Qo0,Vp]
theorem Qoz(k:Int):∀(N m:Nat)(n:Int)(o:List Int),m<N->m<=o->0<o.length->o.length<=8->T (Kn N n k o ((m:Int)-1)) λr=>r.1=o.length
 |0,_,_,_,h,_,_,_=>Aa
 |N+1,0,n,o,_,_,a,_=>by
  unfold Kn;have j:∀x:List Int,x=o.length->T (cw x) λr=>r.1=o.length:=λx hx=>T.pure (by simp_all[Zs5]);exact T.ite (λh=>by simp at h) λ_=>T.if (T.guard Aa (T.guard Aa (j _ Ae))) (T.if (T.guard Aa (T.guard Aa (j _ Ae))) (T.if (T.guard Aa (T.guard Aa (j _ Ae))) (j _ rfl)))
 |N+1,m+1,n,o,d,e,a,f=>by
  unfold Kn;have b:W.wrap (((m+1:Nat):Int)-1-1)=(m:Int)-1:=Ao
  refine T.ite (λ_=>T.guard Aa (T.guard Aa ?_)) λh=>Ac
  rw[b];exact(Qoz k N m _ _ Aa Ag Ac Ac).mono λy c=>by rw[c];simp
theorem enI(n:Int):T (Y7 n) λr=>r.1=qsz n:=by
 unfold Y7;rw[szI,pA];have b:=wi n;by_cases a:qsz n=0
 ·simp_all[T.pure]
 ·have e:(qsz n==0)=false:=by simpa using a
  rw[Zp e,Zb Aj]
  grind[Zr,Qoz,cO]
def yh:List Int->Int|[]=>0|x::r=>qsz x+yh r
theorem Zye:∀l:List Int,0<=yh l/\yh l<=8*l
 |[]=>by simp[yh]
 |x::r=>by
  have:=Zye r;have:=wi x
  grind[yh]
theorem Qo5(l:List Int)(hl:l.length<=1000)(hq:∀x∈l,fq x=P):∀(N i:Nat)(s:Ba),l-i<N->i<=l->s<=8*i->T (Vf N l s (i:Int)) λr=>r.1=s+yh (l.drop i)
 |0,_,_,h,_,_=>Aa
 |N+1,i,s,b,c,hs=>by
  unfold Vf gG;refine T.ite (λa=>?_) λa=>T.pure (by simp_all[Lh,yh]);have a:=pE a;have e:=Qei (hq _ (Z2 (d:=0) (show i<l by omega)));rw[Zb,szS,pA,show(i:Int).toNat=i from rfl];refine T.ite (λh=>Ac) λ_=>T.guard Aa ((enS _).bind λt f=>?_);have g:=wi (l.getD i 0);refine T.guard Al ?_;rw[Zs (m:=l),Qy (d:=0) (show i<l by omega)];exact(Qo5 l hl hq N (i+1) _ Aa Aa Ag).mono λy j=>by grind[yh]
theorem esS(l:List Int)(hl:l.length<=1000)(hq:∀x∈l,fq x=P):T (X5 l) λr=>r.1=yh l:=by
 grind[X5,Qo5,gy]
theorem Qo4(l:List Int)(hl:l.length<=1000)(hq:∀x∈l,fq x=P):∀(N i:Nat)(s:Ba),l-i<N->i<=l->s<=8*i->T (bw N s l l (i:Int)) λr=>r.1=s+yh (l.drop i)
 |0,_,_,h,_,_=>Aa
 |N+1,i,s,c,e,hs=>by
  unfold bw;refine T.ite (λa=>?_) λa=>T.pure (by simp_all[Lh,yh]);have a:=pE a;have b:=hq _ (Z2 (d:=0) (show i<l by omega));rw[Zb,Zu0,pA,show(i:Int).toNat=i from rfl,b];refine T.ite (λh=>by cases h) λ_=>((enI _).bind λt f=>?_)
  have g:=wi (l.getD i 0);refine T.guard Al ?_;rw[Zs (m:=l),Qy (d:=0) (show i<l by omega)];exact(Qo4 l hl hq N (i+1) _ Aa Aa Ag).mono λy j=>by grind[yh]
theorem esI(l:List Int)(hl:l.length<=1000)(hq:∀x∈l,fq x=P):T (aZ l) λr=>r.1=yh l:=by
 grind[aZ,Qo4,nY]
def fsz(f:Zj):Int:=ite (Xa f=P) (1+(ite (f.1=4) (qsz f.2.1+qsz f.2.2.2.2.2.1+qsz f.2.2.2.2.2.2.2.1) (ite (f.1=5) (qsz f.2.1+qsz f.2.2.2.2.2.1) (ite (f.1=8) (qsz f.2.1+(ite (f.2.2.1=0) 0 (qsz f.2.2.1))+qsz f.2.2.2.1+f.2.2.2.1) (ite (f.1=17\/f.1=21) (qsz f.2.1+qsz f.2.2.2.2.2.2.1) (qsz f.2.2.2.2.2.2.1)))))) 0
structure FrF(f:Zj):Prop where
 kind:f.1=4\/f.1=5\/f.1=8\/f.1=16\/f.1=17\/f.1=18\/f.1=20\/f.1=21\/f.1=22
 st:fq f.2.1=P
 off:fq f.2.2.1=P
 code:fq f.2.2.2.2.2.1=P
 lim:fq f.2.2.2.2.2.2.1=P
 fin:fq f.2.2.2.2.2.2.2.1=P
 len:f.2.2.2.1.length<=400
theorem frF(h:Xa f=P):FrF f:=by
 unfold Xa at h;simp only[pC,decide_eq_true_eq]at h;obtain⟨⟨⟨⟨⟨⟨⟨a,b⟩,c⟩,d⟩,e⟩,g⟩,i⟩,-⟩:=h;have hk:=Zpj a;simp only[Bool.or_eq_true,beq_iff_eq]at hk;exact⟨Aa,b,c,d,e,g,i⟩
theorem Zja(h0:0<=n:=by omega)(h1:n<=100000:=by omega):fq n=true:=by grind[fq]
theorem Zwq{a b:Int}(ha:fq a=P)(hb:fq b=P):∀x∈[a,b],fq x=true:=by simp[ha,hb]
theorem Zwr{a b c:Int}(ha:fq a=P)(hb:fq b=P)(hc:fq c=P):∀x∈[a,b,c],fq x=true:=by simp[ha,hb,hc]
theorem Qqi{a b c d:Int}(ha:fq a=P)(hb:fq b=P)(hc:fq c=P)(hd:fq d=P):∀x∈[a,b,c,d],fq x=true:=Ac
theorem Qrg(h:FOK f):T (Wx f) λr=>r.1=fsz f:=by
 have p:=h;unfold FOK at p;unfold Wx fsz;rw[xL _,pA];by_cases d:Xa f=P
 ·have F:=frF d;rw[if_pos d,d];simp only[pI,pH];have l:∀{n:Int},0<=n->n<64-> ∀r,yh (n::r)=1+yh r:=λm q r=>by simp_all[yh,Qpt]
  have g:∀{n:Int},0<=n->n<64->fq n=true:=λa b=>Zja a;rcases F.kind with e|e|e|e|e|e|e|e|e
  ·rw[e];exact(esS _ Ae (Qqi (g Aa Aa) F.st F.code F.fin)).bind λt c=>T.pure (by grind[yh])
  ·rw[e];exact(esS _ Ae (Zwr (g Aa Aa) F.st F.code)).bind λt c=>T.pure Aq
  ·have j:∀k:Int,0<=k->k<50->T (W8 f k) λr=>r.1=1+(qsz f.2.1+(ite (f.2.2.1=0) 0 (qsz f.2.2.1))+qsz f.2.2.2.1+f.2.2.2.1):=λk m q=>by
    unfold W8;have o:fq f.2.2.2.1=true:=Zja;refine T.ite (λh=>?_) λh=>?_
    ·refine(esS _ Ae (Zwr (g m Aa) F.st o)).bind λt c=>?_;have i:=Zye [k,f.2.1,f.2.2.2.1];simp only[K4,Li]at i;refine T.guard Al (T.pure ?_);rw[if_pos (eq_of_beq h)]
     grind[yh]
    ·have hk:W.wrap (k+4)=k+4:=Zr;rw[hk];refine(esS _ Ae (Qqi (g (n:=k+4) Aa Aa) F.st F.off o)).bind λt c=>?_;have i:=Zye [k+4,f.2.1,f.2.2.1,f.2.2.2.1];simp only[K4,Li]at i;refine T.guard Al (T.pure ?_);rw[if_neg (λs=>Ac)]
     grind[yh]
   rw[e];simp only[Lb,Int.reduceEq,pH,pG,if_false,if_true];exact T.if (j _ Ai Ai) (j _ Ai Ai)
  ·rw[e];unfold Xl;exact(esS _ Ae (Zwq (by rw[e];rfl) F.lim)).bind λt c=>T.pure Aq
  ·rw[e];unfold Xl Ka;exact(esS _ Ae (Zwr (by rw[e];rfl) F.st F.lim)).bind λt c=>T.pure Aq
  ·rw[e];unfold Xl Ka W9;simp only[Lb,pH];refine T.if ?_ ?_
   ·rw[e];exact(esS _ Ae (Zwq (by rfl) F.lim)).bind λt c=>T.pure (by rw[c,l (by decide) (by decide)];simp[yh])
   ·exact(esS _ Ae (Zwq (by rw[e];rfl) F.lim)).bind λt c=>T.pure Aq
  ·rw[e];unfold Xl;exact(esS _ Ae (Zwq (by rw[e];rfl) F.lim)).bind λt c=>T.pure Aq
  ·rw[e];unfold Xl Ka;exact(esS _ Ae (Zwr (by rw[e];rfl) F.st F.lim)).bind λt c=>T.pure Aq
  ·rw[e];unfold Xl Ka W9;simp only[Lb,pH];refine T.if ?_ ?_
   ·rw[e];exact(esS _ Ae (Zwq (by rfl) F.lim)).bind λt c=>T.pure (by rw[c,l (by decide) (by decide)];simp[yh])
   ·exact(esS _ Ae (Zwq (by rw[e];rfl) F.lim)).bind λt c=>T.pure Aq
 ·rw[if_neg d];have d:Xa f=false:=by simpa using d
  rw[d];exact T.pure rfl
theorem ap2{x y z:Int}(hz:x+y=z)(ha:a=x)(hb:b=y):((a++b:Ba))=z:=Ac
theorem Qww(h:FOK f):T (fJ f) λr=>r.1=fsz f:=by
 have A:=h;unfold FOK at A;unfold fJ fsz;rw[QW _,pA];by_cases s:Xa f=P
 ·have F:=frF s;rw[if_pos s,s];simp only[pI,pH,Xr];have w:∀k:Int,T (Ya k) λr=>(r.1:Int)=1:=λk=>T.pure rfl;have g:∀{a b:Ba}{x y:Int},a=x->b=y->x+y<=1000->a+b<=Jv:=λG H I=>Al
  have m:∀(k:Int)(l:List Int),l.length<=4->(∀x∈l,fq x=P)->T (Y (Ya k) λt=>Y (aZ l) λq=>Zh (t.1+q.1<=Jv)<|some (t.1++q.1,())) λr=>r.1=1+yh l:=λk l J B=>by
   have C:=Zye l;exact(w k).bind λt i=>(esI l Aa B).bind λq c=>T.guard (g i c Aa) (T.pure (ap2 rfl i c))
  have u:∀(k n:Int),T (Y (Ya k) λt=>Y (Y7 n) λq=>Zh (t.1+q.1<=Jv)<|some (t.1++q.1,())) λr=>r.1=1+qsz n:=λk n=>by
   have C:=wi n;exact(w k).bind λt i=>(enI n).bind λq c=>T.guard (g i c Aa) (T.pure (ap2 rfl i c))
  have d:∀b:Bool,TT (jx b):=λb=>by cases b<;>exact T.tt
  rcases F.kind with e|e|e|e|e|e|e|e|e
  ·rw[e];exact(m _ _ Ae (Zwr F.st F.code F.fin)).mono λy p=>by grind[yh]
  ·rw[e];exact(m _ _ Ae (Zwq F.st F.code)).mono λy p=>Aq
  ·rw[e];simp only[Lb,Int.reduceEq,pH,pG,if_false,if_true];have K:=wi f.2.1;have L:=wi f.2.2.1;have M:=wi f.2.2.2.1;have z:=F.len;have j:∀(o:Ba)(x:Int),o=x->x<=100->T (W5 f o) λr=>r.1=x+qsz f.2.2.2.1+f.2.2.2.1:=λo x D hx=>by
    unfold W5;refine(enI _).bind λt i=>T.guard (g D i Aa) (T.guard ?_ (T.pure ?_))
    ·grind[Jv]
    grind
   refine(d _).bind λ_ _=>(d _).bind λ_ _=>(w _).bind λt i=>(enI _).bind λq c=>T.guard (g i c Aa) ?_;refine T.ite (λh=>?_) λh=>?_
   ·have E:f.2.2.1≠0:=by simpa using h
    rw[if_neg E];refine(enI _).bind λN v=>T.guard (g (ap2 rfl i c) v Aa) ((j _ _ (ap2 rfl (ap2 rfl i c) v) Aa).mono λy p=>by rw[p];omega)
   grind
  ·simp_all[Xv]
  ·rw[e];unfold Xv Kv;simp only[Lb,pH,pG,Xr];exact(m _ _ Ae (Zwq F.st F.lim)).mono λy p=>Aq
  ·rw[e];unfold Xv Kv;simp only[Lb,pH];exact(d _).bind λ_ _=>(u _ _).mono λy p=>by rw[p];simp
  ·simp_all[Xv]
  ·rw[e];unfold Xv Kv;simp only[Lb,pH,pG,Xr];exact(m _ _ Ae (Zwq F.st F.lim)).mono λy p=>Aq
  ·rw[e];unfold Xv Kv;simp only[Lb,pH];exact(d _).bind λ_ _=>(u _ _).mono λy p=>by rw[p];simp
 ·rw[if_neg s];have s:Xa f=false:=by simpa using s
  rw[s];exact T.pure rfl
theorem Qkr(h:FOK f):lS f=O (fsz f,()):=by
 obtain⟨⟨y,u⟩,e,a⟩:=Qrg h;simp_all[lS]
theorem Qkq(h:FOK f):oX f=O (fsz f,()):=by
 obtain⟨⟨y,u⟩,e,a⟩:=Qww h;simp_all[oX]
theorem Z52(h:Xa f=P):1<=fsz f:=by
 have F:=frF h;unfold fsz;rw[if_pos h];have a:=wi f.2.1;have b:=wi f.2.2.1;have c:=wi f.2.2.2.2.2.1;have d:=wi f.2.2.2.2.2.2.1;have e:=wi f.2.2.2.2.2.2.2.1;have g:=wi f.2.2.2.1;omega
def pkD(r:Q2)(o:Int):Nat->List Int|0=>[]|n+1=>pkD r o n++[Lc.wrap (r.2.2.2.1.getD (Lg (o+n) r.1).toNat 0)]
theorem Zx5(r:Q2)(o:Int):∀n,(pkD r o n)=n
 |0=>rfl
 |n+1=>by simp[pkD,Zx5 r o n]
theorem Qff(a b:List Int):Xx (a++b)=Xx a++Xx b:=by simp[Xx]
structure Qqc(r:Q2):Prop where
 size:0<r.1/\r.1<=64
 len:(r.2.2.2.1:Int)=r.1
 b0:0<=r.2.1
 be:r.2.1<=r.2.2.1
 sz:r.2.2.1-r.2.1<=r.1
 eM:r.2.2.1<=4611686018427387903
 cell:∀j,j<r.2.2.2.1.length->0<=r.2.2.2.1.getD j 0/\r.2.2.2.1.getD j 0<=255
theorem Z9t(hl:r.2.2.2.1.length<=1048576)(h:pw r=P):Qqc r:=by
 obtain⟨a,b,c,d,e,f,g⟩:=(zK r hl).2 h;exact⟨a,b,c,d,e,f,g⟩
theorem Qpm{r:Q2}(h:Qqc r)(o n:Nat)(ho:(o:Int)+n<=4611686018427387903)(hn:n<=64):∀(N i:Nat),n-i<N->i<=n->qd N (o:Int) (n:Int) r (Xx (pkD r o i)) (i:Int)=O (Xx (pkD r o n),P,())
 |0,_,h,_=>Aa
 |N+1,i,c,d=>by
  unfold qd gG;by_cases b:i<n
  ·have e:=Zyf (x:=(o:Int)+(i:Int)) (n:=r.1) Aa h.size.1;have f:=h.len;have a:=h.cell (Lg ((o:Int)+(i:Int)) r.1).toNat Aa
   rw[Zn (Zl),Zb,Zr];simp only;rw[Zb,Qos a.1 a.2,pA,Zb (by grind[Jv,Zs5,Zx5]),Zs b,<-Qff];exact Qpm h o n ho hn N (i+1) Aa Aa
  grind
theorem Qpk{r:Q2}(h:Qqc r)(o n:Nat)(ho:(o:Int)+n<=4611686018427387903)(hn:n<=64):∀(N i:Nat),n-i<N->i<=n->o9 N (o:Int) r (pkD r o i) (n:Int) (i:Int)=O (Xx (pkD r o n),P,())
 |0,_,h,_=>Aa
 |N+1,i,b,c=>by
  unfold o9 gG;by_cases a:i<n
  ·have d:=Zyf (x:=(o:Int)+(i:Int)) (n:=r.1) Aa h.size.1;have e:=h.len;rw[Zn (Zl),Zb,Zr];simp only;rw[Zb,Zb (by grind[Qp,Zx5]),Zs a];exact Qpk h o n ho hn N (i+1) Aa Aa
  grind
theorem Z8v(hl:r.2.2.2.1.length<=1048576):q8 r=O (pw r,()):=by simp_all[Zx1,zK]
theorem Qu6(hl:r.2.2.2.1.length<=1048576)(h:pw r=P)(h1:r.2.1<=o)(h2:0<=n)(h3:o+n<=r.2.2.1):tz r o n=O (Xx (pkD r o n.toNat),P,()):=by
 have F:=Z9t hl h;have:=F.b0;have:=F.sz;have:=F.eM;have:=F.size
 unfold tz;rw[(zK r hl).1,h,pA,Zm (p:=o<r.2.1),Zm (p:=n<0),Zm (p:=o>r.2.2.1),Zr,Zm (p:=n>r.2.2.1-o)];obtain⟨a,rfl⟩:=Ll (show 0<=o by omega);obtain⟨b,rfl⟩:=Ll h2;exact Qpm F a b Aa Aa _ 0 (by simp[uv]) Aa
theorem Qu5(hl:r.2.2.2.1.length<=1048576)(h:pw r=P)(h1:r.2.1<=o)(h2:0<=n)(h3:o+n<=r.2.2.1):tp r o n=O (Xx (pkD r o n.toNat),P,()):=by
 have F:=Z9t hl h;have:=F.b0;have:=F.sz;have:=F.eM;have:=F.size
 unfold tp;rw[Z8v hl,h,pA,Zm (p:=n<0),bN,Zr,Zm (p:=n>r.2.2.1-o),Zl (p:=o>=r.2.1),Zl (p:=o<=r.2.2.1)];obtain⟨a,rfl⟩:=Ll (show 0<=o by omega);obtain⟨b,rfl⟩:=Ll h2;exact Qpk F a b Aa Aa _ 0 (by simp[ui]) Aa
abbrev sy(s:Zk):Zi:=s.2.2.1.getD 0 Z3
def Qgd(s:Zk)(limit:Int):Prop:=(Zae s=P/\s.1<=2)/\((s.2.2.1=[]/\s.2.2.2.2.2.2.1=1)\/(s.2.2.1≠[]/\(sy s).1<min (sy s).2.1 limit))
def npN(s:Zk)(most limit:Int):Int:=min most (min (sy s).2.1 limit- (sy s).1)
def pkV(r:Q2)(o:Int)(n:Nat):Ba:=ite (r.2.1<=o) (Xx (pkD r o n)) []
theorem Qef(r:Q2)(o:Int)(n:Nat):(pkV r o n)<=n:=by
 grind[pkV,Zs5,Zx5]
theorem Qsb(hl:r.2.2.2.1.length<=1048576)(h:pw r=P)(h2:0<=n)(h3:o+n<=r.2.2.1):∃b,tz r o n=O (pkV r o n.toNat,b,()):=by
 unfold pkV;by_cases a:r.2.1<=o
 ·simp_all[Qu6]
 simp_all[if_neg,tz,zK]
theorem Qsa(hl:r.2.2.2.1.length<=1048576)(h:pw r=P)(h2:0<=n)(h3:o+n<=r.2.2.1):∃b,tp r o n=O (pkV r o n.toNat,b,()):=by
 unfold pkV;by_cases a:r.2.1<=o
 ·simp_all[Qu5]
 simp_all[if_neg,tp,Z8v,Zm,bN]
def npP(s:Zk)(most limit:Int):Qe:=ite (s.2.2.1=[]) (s.2.2.2.2.2.1,[],P,()) ((sy s).1,pkV s.2.1 (sy s).1 (npN s most limit).toNat,(s.2.2.2.2.2.2.1==(1:Int))&&((sy s).1+npN s most limit==s.2.2.2.2.2.1),())
theorem Qjx{K:Int}(h:Jr K s)(hp:s.2.2.1≠[]):0<=(sy s).1/\(sy s).1<(sy s).2.1/\(sy s).2.1<=s.2.1.2.2.1:=by
 have b:0<s.2.2.1.length:=Me.2 hp;have a:sy s∈s.2.2.1:=Z2 (d:=Z3) b;have:=Qh.1 (rJ h.pend.1 _ a).2;have:=h.pend.2 _ a;omega
open Classical in
def npR(s:Zk)(most limit:Int):Qe×Bool×Unit:=ite (Qgd s limit) (npP s most limit,P,()) (iK,X,())
theorem Qu1{K:Int}(h:Jr K s)(hK:K<=1000000)(hm:1<=most)(hl:0<=limit):YA s most limit=O (npR s most limit):=by
 have l:=h.cells;unfold YA npR;rw[Zku h hK,pA];by_cases a:Zae s=P/\s.1<=2
 ·have F:=(Zsl h hK).1 a.1;rw[a.1,Zm (p:=s.1>2)];simp only[pI,K2,pH];by_cases c:s.2.2.1=[]
  ·rw[c];simp only[Li,Lo,gt_iff_lt,Int.lt_irrefl,decide_false,pH];by_cases g:s.2.2.2.2.2.2.1=1
   ·rw[if_pos ⟨a,.inl ⟨c,g⟩⟩];simp_all[npP]
   ·rw[if_neg (λhn=>by rcases hn.2 with hn|hn;all_goals simp_all),beq_false_of_ne g];rfl
  ·have i:0<s.2.2.1.length:=Me.2 c;obtain⟨m,q,t⟩:=Qjx h c;have u:=(Z9t Aa F.ring).eM;have v:(sy s).1=(s.2.2.1.getD 0 Z3).1:=rfl;have w:(sy s).2.1=(s.2.2.1.getD 0 Z3).2.1:=rfl;rw[Zn (Zl),Zb,show(0:Int).toNat=0 from rfl];by_cases d:min (sy s).2.1 limit<=(sy s).1
   ·rw[Zn (Zl d),if_neg (λhn=>by rcases hn.2 with hn|hn;all_goals grind)]
   ·rw[Zp (Zm d),if_pos ⟨a,.inr ⟨c,Aa⟩⟩];have j:∀f:Int,f=(sy s).1+npN s most limit->nI s iK (s.2.2.2.2.2.1,([]:Ba),s.2.2.2.2.2.2.1==(1:Int),()) (sy s) f=O (npP s most limit,P,()):=λf e=>by
     have hn:1<=npN s most limit/\(sy s).1+npN s most limit<=(sy s).2.1:=by unfold npN;omega
     unfold nI;rw[Zp (Zm),Zr,show f- (sy s).1=npN s most limit by omega];obtain⟨b,x⟩:=Qsb (r:=s.2.1) Aa F.ring (o:=(sy s).1) (n:=npN s most limit) Aa Aa;simp_all[npP]
    by_cases k:most<min (sy s).2.1 limit- (sy s).1
    ·rw[Zr,Zn (Zl k),Zr]
     grind[npN]
    ·rw[Zr,Zp (Zm k)]
     grind[npN]
 ·rw[if_neg (λhn=>a hn.1)]
  grind
theorem Qu0{K:Int}(h:Jr K s)(hK:K<=1000000)(hm:1<=most)(hl:0<=limit)(hM:most<=1000):QN s most limit=O (npR s most limit):=by
 have t:=h.cells;unfold QN bU npR;rw[xy h hK,Zku h hK,pA];simp only[bN,bA,bA2,pA];by_cases f:Zae s=P/\s.1<=2
 ·have F:=(Zsl h hK).1 f.1;rw[f.1,Zl (p:=s.1<=2),Zl (p:=s.1>=0) F.st.1];simp only[Z,pI,pH];by_cases d:s.2.2.1=[]
  ·rw[d];simp only[Li,Lo,BEq.rfl,pG];by_cases i:s.2.2.2.2.2.2.1=1
   ·have c:=(F.no Aa).fin;unfold Znv at c;have m:0<=s.2.2.2.2.2.1/\s.2.2.2.2.2.1<=K:=by
     simp only[i,Bool.not_or,L8,pC,Mo,Mn,bne_eq_false_iff_eq,beq_iff_eq]at c;obtain⟨a,b⟩:=c;have u:=h.eK;have m:=h.e0
     simp_all
    rw[if_pos ⟨f,.inl ⟨d,i⟩⟩];unfold npP;rw[if_pos d,i];simp only[jx,BEq.rfl,pG,pA]
    grind[Zr]
   ·rw[if_neg (λhn=>by rcases hn.2 with hn|hn;all_goals simp_all),beq_false_of_ne i];simp only[jx,pH,pA,Int.mul_zero];rfl
  ·have k:0<s.2.2.1.length:=Me.2 d;obtain⟨v,w,x⟩:=Qjx h d;have y:=(Z9t Aa F.ring).eM;have z:(sy s).1=(s.2.2.1.getD 0 Z3).1:=rfl;have A:(sy s).2.1=(s.2.2.1.getD 0 Z3).2.1:=rfl;have q:(((s.2.2.1:Nat):Int)==0)=false:=by simp;exact d
   rw[Zp q,Zb,show(0:Int).toNat=0 from rfl,Zr (n:=(s.2.2.1.getD 0 Z3).2.1- (s.2.2.1.getD 0 Z3).1)];by_cases g:limit<=(sy s).1
   ·rw[Zn (Zl g),if_neg (λhn=>by rcases hn.2 with hn|hn;all_goals grind)]
   ·rw[Zp (Zm g),if_pos ⟨f,.inr ⟨d,Aa⟩⟩];have j:∀n:Int,n=npN s most limit->m8 s iK (sy s) n=O (npP s most limit,P,()):=λn e=>by
     have hn:1<=npN s most limit/\(sy s).1+npN s most limit<=(sy s).2.1:=by unfold npN;omega
     subst e;unfold m8;rw[Zp (Zm),Zr];obtain⟨b,B⟩:=Qsa (r:=s.2.1) Aa F.ring (o:=(sy s).1) (n:=npN s most limit) Aa Aa;simp_all[npP]
    by_cases l:limit<(sy s).1+min ((sy s).2.1- (sy s).1) most
    ·rw[Zr,Zn (Zl l),Zr]
     grind[npN]
    ·rw[Zr,Zp (Zm l)]
     grind[npN]
 ·rw[if_neg (λhn=>f hn.1)]
  grind
theorem Zle(hm:most<=60):(npP s most limit).2.1.length<=60:=by
 unfold npP;split
 ·simp
 ·have:=Qef s.2.1 (sy s).1 (npN s most limit).toNat
  grind[npN]
abbrev pfF(id:Int)(p:Qe):Zj:=((8:Int),id,p.1,p.2.1,p.2.2.1,(0:Int),(0:Int),(0:Int),X,())
theorem Qjy{K:Int}(h:Jr K s)(hK:K<=1000000)(hi:0<=id/\id<=4611686018427387903)(hm:1<=most/\most<=60)(hn:Qgd s limit):Xa (pfF id (npP s most limit))=true:=by
 have F:=(Zsl h hK).1 hn.1.1;have g:=h.cells;have i:=(Z9t Aa F.ring).eM;have j:fq id=true:=by simp_all[fq]
 have e:=Zle (s:=s) (limit:=limit) hm.2;have k:0<=(npP s most limit).1/\(npP s most limit).1+(npP s most limit).2.1.length<=4611686018427387903:=by
  unfold npP;by_cases d:s.2.2.1=[]
  ·rw[if_pos d];rcases hn.2 with⟨-,f⟩|⟨hx,-⟩
   ·have c:=(F.no (by have:=hn.1.2;omega)).fin;unfold Znv at c;simp only[f,Bool.not_or,L8,pC,Mo,Mn,bne_eq_false_iff_eq,beq_iff_eq]at c;obtain⟨a,b⟩:=c;have l:=h.eK;have m:=h.e0
    simp_all
   simp_all
  ·rw[if_neg d];obtain⟨n,o,p⟩:=Qjx h d;have a:=Qef s.2.1 (sy s).1 (npN s most limit).toNat
   have b:npN s most limit<=(sy s).2.1- (sy s).1/\npN s most limit<=most:=by unfold npN;omega
   grind
 grind[Xa,Yu,fq]
def pfL(s:Zk)(id room limit:Int):Nat->Qe×Bool×Unit|0=>(iK,X,())|m+1=>ite (fsz (pfF id (npP s ((m+1:Nat):Int) limit))<=room) (npP s ((m+1:Nat):Int) limit,P,()) (pfL s id room limit m)
open Classical in
def pfR(s:Zk)(id room limit:Int)(m:Nat):Qe×Bool×Unit:=ite (Qgd s limit) (pfL s id room limit m) (iK,X,())
theorem Qee{K:Nat}{s:Zf}(h:Xc K s)(hK:K<=1000000){id room limit:Int}(hi:0<=id/\id<=4611686018427387903)(hl:0<=limit)(t:Qe):∀(N m:Nat),m<N->m<=60->kU N id room t s limit (m:Int)=O (pfR s.2.1 id room limit m)
 |0,_,h,_=>Aa
 |N+1,0,_,_=>by
  unfold kU pfR;rw[Zp (Zm)];split<;>rfl
 |N+1,m+1,d,e=>by
  unfold kU;rw[Zn (Zl),Qu1 h.snd Aa Aa hl,pA];have c:=Qee h hK hi hl t N m Aa Aa (room:=room);unfold npR pfR;by_cases a:Qgd s.2.1 limit
  ·rw[if_pos a,if_pos a];have hs:FOK (pfF id (npP s.2.1 ((m+1:Nat):Int) limit)):=by grind[FOK,Zle]
   simp only[pI,pH,te,pA];rw[Qkr hs,pA,pfL];by_cases b:fsz (pfF id (npP s.2.1 ((m+1:Nat):Int) limit))<=room
   ·simp_all
   ·rw[Zp (Zm b),if_neg b,show W.wrap (((m+1:Nat):Int)-1)=(m:Int) by grind[Zr],c];simp_all[pfR]
  simp_all
theorem Qed{K:Nat}{s:Zf}(h:Xc K s)(hK:K<=1000000){id room limit:Int}(hi:0<=id/\id<=4611686018427387903)(hl:0<=limit)(t:Qe):∀(N m:Nat),m<N->m<=60->kA N id room t s limit (m:Int)=O (pfR s.2.1 id room limit m)
 |0,_,h,_=>Aa
 |N+1,0,_,_=>by
  unfold kA pfR;rw[Zp (Zm)];split<;>rfl
 |N+1,m+1,b,c=>by
  unfold kA;rw[Zn (Zl),Qu0 h.snd Aa Aa hl Aa,pA];have d:=Qed h hK hi hl t N m Aa Aa (room:=room);have e:W.wrap (((m+1:Nat):Int)-1)=(m:Int):=Ao
  unfold npR pfR;by_cases a:Qgd s.2.1 limit
  ·rw[if_pos a,if_pos a];have hs:FOK (pfF id (npP s.2.1 ((m+1:Nat):Int) limit)):=by grind[FOK,Zle]
   have f:=Z52 (Qjy h.snd Aa hi (most:=((m+1:Nat):Int)) Aa a);simp only[pG,mA,pA];rw[Qkq hs,pA,bN,pA,pfL,Zl (p:=fsz _>=1)];by_cases g:fsz (pfF id (npP s.2.1 ((m+1:Nat):Int) limit))<=room
   all_goals simp_all[Zm,if_neg,pfR]
  simp_all[pfR]
theorem Z77(c:Ky):ta c=O (cond (Zh5 c) (c.1-c.2.1) 0,()):=by
 unfold ta;rw[Z2o,pA];cases h:Zh5 c
 ·rfl
 ·obtain⟨a,b,d,-,-,-,-⟩:=Z76.1 h;simp only[pI,pH,pG]
  grind[Zr]
def Qrs(c:Ze)(s:Zf):Int:=min s.2.2.1.1 (s.2.1.2.2.2.2.2.2.2.1+(c.2.2.2.2.1.1-c.2.2.2.2.1.2.1))
open Classical in
def pcR(c:Ze)(id room:Int):Qe×Bool×Unit:=ite ((bP c=P/\0<=Z8 c.2.2.2.1 id)/\(c.2.2.2.1.getD (Z8 c.2.2.2.1 id).toNat Zc).2.2.2.2.2.2.1=P/\3<=room) (pfR (c.2.2.2.1.getD (Z8 c.2.2.2.1 id).toNat Zc).2.1 id room (Qrs c (c.2.2.2.1.getD (Z8 c.2.2.2.1 id).toNat Zc)) (min room 60).toNat) (iK,X,())
theorem Qd2(h:Q5 K c)(hK:K<=1000000)(hc:bP c=P){s:Zf}(hs:s∈c.2.2.2.1):0<=Qrs c s/\W.wrap (s.2.1.2.2.2.2.2.2.2.1+(c.2.2.2.2.1.1-c.2.2.2.2.1.2.1))=s.2.1.2.2.2.2.2.2.2.1+(c.2.2.2.2.1.1-c.2.2.2.2.1.2.1):=by
 have C:=(Zf3 h hK).1 hc;have S:=C.st h hK hs;obtain⟨d,e,f,-,-,-,-⟩:=Z76.1 C.tot;obtain⟨g,i,j,-,-,-,-⟩:=S.cre;have a:=S.snd.sent;have b:=(h.str.all _ hs).snd.eK
 grind[Qrs,Zr]
theorem Qgj(h:Q5 K c)(hK:K<=1000000)(id room:Int):JC c id room=O (pcR c id room):=by
 have k:=h.str.len;obtain⟨m,-,e⟩:=qt (l:=c.2.2.2.1) Aa id;unfold JC pcR;rw[V8 h hK,pA,Zb2 h hK,pA];by_cases f:0<=Z8 c.2.2.2.1 id
 ·rw[if_pos f];have b:=Z2 (d:=Zc) (show(Z8 c.2.2.2.1 id).toNat<c.2.2.2.1.length by omega);have e:=e f;generalize c.2.2.2.1.getD (Z8 c.2.2.2.1 id).toNat Zc=s at*
  by_cases a:(bP c=P/\0<=Z8 c.2.2.2.1 id)/\s.2.2.2.2.2.2.1=P/\3<=room
  ·obtain⟨g,i⟩:=Qd2 h hK a.1.1 b;have S:=((Zf3 h hK).1 a.1.1).st h hK b;have j:=S.id;rw[if_pos a,a.1.1,a.2.1,Zm (p:=room<3),Z77,pA,((Zf3 h hK).1 a.1.1).tot];simp only[pI,K2,pH,pG];rw[i,show min room (60:Int)=((min room 60).toNat:Int) by omega];exact Qee (h.str.all _ b) hK Aa g _ _ _ (by grind[uw]) Aa
  grind
 grind
theorem Qgi(h:Q5 K c)(hK:K<=1000000)(id room:Int):KU c id room=O (pcR c id room):=by
 have k:=h.str.len;obtain⟨m,-,e⟩:=qt (l:=c.2.2.2.1) Aa id;unfold KU gG gK pcR;rw[uC Aa,QD Aa,pA,xv h hK,Zb2 h hK,pA];by_cases f:0<=Z8 c.2.2.2.1 id
 ·rw[Zm (p:=Z8 c.2.2.2.1 id<0)];have b:=Z2 (d:=Zc) (show(Z8 c.2.2.2.1 id).toNat<c.2.2.2.1.length by omega);have e:=e f;simp only;rw[Zb (λ_=>Aa)];generalize c.2.2.2.1.getD (Z8 c.2.2.2.1 id).toNat Zc=s at*
  by_cases a:(bP c=P/\0<=Z8 c.2.2.2.1 id)/\s.2.2.2.2.2.2.1=P/\3<=room
  ·obtain⟨g,i⟩:=Qd2 h hK a.1.1 b;have S:=((Zf3 h hK).1 a.1.1).st h hK b;have j:=S.id;rw[if_pos a,a.1.1,a.2.1,Zm (p:=room<3),Z78,Z77,pA,((Zf3 h hK).1 a.1.1).tot];simp only[pI,K2,pH,pG];rw[Zb,i,show min (60:Int) room=((min room 60).toNat:Int) by omega];exact Qed (h.str.all _ b) hK Aa g _ _ _ (by grind[uj]) Aa
  grind
 ·rw[if_neg (λh=>f h.1.2),Zl (p:=Z8 c.2.2.2.1 id<0)];simp_all[Zb]
theorem Qar(r:Zi):∀(N:Nat)(pre rest:List Zi)(out:List Zi),(pre++rest).length<=1048576->rest<N->out<=pre.length->
  cL N [r] out (pre++rest) (pre++rest) pre=O (out++rest.flatMap λx=>[r].flatMap (Zdw x),())
 |0,_,_,_,_,h,_=>Aa
 |N+1,pre,[],out,d,b,e=>by
  simp_all[cL]
 |N+1,pre,x::rest,out,d,b,e=>by
  have a:(pre++x::rest).length=pre+rest+1:=Af
  simp only[K4]at b;have i:(pre++[x])++rest=pre++x::rest:=Ae
  have j:((pre++[x]):Int)=((pre+1:Nat):Int):=Ae
  have hs:W.wrap (pre+1)=((pre+1:Nat):Int):=Zs (m:=pre+1);unfold cL;rw[Zn (Zl (by rw[a];omega)),Zb (by rw[a];omega),ib];rw[show mr [r] out x (pre++x::rest) (pre++x::rest) pre [r] ([r]:List Zi) 0=2 from rfl];unfold aD gG gI;rw[Zn (Zl Ae),Zb Ae];have f:([r]:List Zi).getD (0:Int).toNat Z3=r:=rfl;simp only[f];have c:W.wrap ((0:Int)+1)=1:=rfl;by_cases h:max x.1 r.1<min x.2.1 r.2.1
  ·rw[Zn (Zl h),Zb Aj,c];unfold aD gG gI;rw[Zp (Zm Ae)];simp only[hs];have g:=Qar r N (pre++[x]) rest (out++[(max x.1 r.1,min x.2.1 r.2.1,())]) Af Aa Af;simp_all[Zdw]
  ·rw[Zp (Zm h),c];unfold aD gG gI;rw[Zp (Zm Ae)];simp only[hs];have g:=Qar r N (pre++[x]) rest out Af Aa Af;simp_all[Zdw]
def JI(l:List Zi)(r:Zi):List Zi:=ite (rsB (-1) l=P/\rsB (-1) [r]=P) (l.flatMap λx=>[r].flatMap (Zdw x)) []
theorem Qhv(l:List Zi)(r:Zi)(hl:l.length<=1048576:=by omega):dH l [r]=O (JI l r,()):=WO l [r] hl Ae
theorem Qqs(l:List Zi)(r:Zi)(hl:l.length<=1048576:=by omega):iN l [r]=O (JI l r,()):=by
 unfold iN gH JI;rw[xw l hl,xw [r] Ae,pA];cases h1:rsB (-1) l
 ·simp
 ·cases h2:rsB (-1) [r]
  ·simp
  ·simp only[pI,pH,pA,K2,and_self,if_true];have:=Qar r (eO [r] [] l l 0) [] l [] (by simpa using hl) (by simp[eO]) Ae;simpa using this
theorem Zp9(l:List Zi)(r:Zi):(JI l r)<=l.length:=Zns
def eq1(l:List Zi)(r:Zi):Bool:=((l:Int)==1)&&eqV (Zz) (l.getD 0 Z3) r
theorem Qwr(l:List Zi)(r:Zi):Wu l [r]=O (eq1 l r,()):=by
 unfold Wu Je eq1;by_cases h:(l:Int)=1
 ·have a:(l !=(([r]:List Zi):Int))=false:=Af
  rw[a,h];simp only[pH,BEq.rfl,pJ];rw[show K5 l [r] 1 0=2 from rfl];unfold Yj gG gI;rw[Zn Ai,Zb,Zb Ae,show(0:Int).toNat=0 from rfl,show([r]:List Zi).getD 0 Z3=r from rfl];cases eqV (Zz) (l.getD 0 Z3) r
  ·rfl
  ·rfl
 grind
def Z26(l:List Zi)(r:Zi):List Zi:=ite (rsB (-1) l=P/\W7 r=P) (Zab r l) l
def Z7p(l:List Zi)(r:Zi):List Zi:=ite (rsB (-1) l=P/\W7 r=P) (jf l r) l
theorem Zu6:∀(N:Nat)(pre rest:List Zi)(r:Zi)(out:List Zi),(pre++rest).length<=1048576->rest<N->out<=2*pre.length->
  W6 N r out (pre++rest) (pre++rest) pre=O (out++Zab r rest,())
 |0,_,_,_,_,_,h,_=>Aa
 |N+1,pre,[],r,out,e,c,f=>by
  simp_all[W6,Zab]
 |N+1,pre,x::rest,r,out,e,c,f=>by
  have b:(pre++x::rest).length=pre+rest+1:=Af
  simp only[K4]at c;have j:(pre++[x])++rest=pre++x::rest:=Ae
  have k:((pre++[x]):Int)=((pre+1:Nat):Int):=Ae
  have d:∀a:List Zi,a<=2*pre.length+1->ju (λv=>W6 N v.1 v.2.1 v.2.2.1 v.2.2.2.1 v.2.2.2.2.1) r a x (pre++x::rest) (pre++x::rest) pre=O (a++(ite (max x.1 r.2.1<x.2.1) [(max x.1 r.2.1,x.2.1,())] [])++Zab r rest,()):=by
   intro a g;unfold ju;rw[Zs (m:=pre+1)];by_cases h:max x.1 r.2.1<x.2.1
   ·rw[Zn (Zl h),if_pos h,Zb Aj];have i:=Zu6 N (pre++[x]) rest r (a++[(max x.1 r.2.1,x.2.1,())]) Af Aa Af;simp_all
   ·rw[Zp (Zm h),if_neg h];have i:=Zu6 N (pre++[x]) rest r a Af Aa Af;simp_all
  unfold W6;rw[Zn (Zl (by rw[b];omega)),Zb (by rw[b];omega),ib];by_cases h:x.1<min x.2.1 r.1
  ·rw[Zn (Zl h),Zb Aj,d _ Af];simp[Zab,Z5i,h]
  ·rw[Zp (Zm h),d _ Aa];simp[Zab,Z5i,h]
theorem Zg0(l:List Zi)(r:Zi)(hl:l.length<=1048576:=by omega):kB l r=O (Z26 l r,()):=by
 unfold kB gH Z26;rw[xw l hl,pA];cases h1:rsB (-1) l
 ·simp[z7 l hl]
 ·simp only[pI,pH,Zpm,pA,Lf];cases h2:W7 r
  ·simp[z7 l hl]
  ·have:=Zu6 (gg r [] l l 0) [] l r [] (by simpa using hl) (by simp[gg]) Ae;simp_all
def Zgk(s:Zk)(p:Qe):Bool:=(((U (p.1>=(0:Int)))&&(U (p.1<=s.2.1.2.2.1)))&&(U (p.2.1<=(W.wrap (s.2.1.2.2.1-p.1)))))&&((!p.2.2.1)||((s.2.2.2.2.2.1 !=(-1:Int))&&((W.wrap (p.1+p.2.1))==s.2.2.2.2.2.1)))
theorem Qi8(s:Zk)(p:Qe):xN s p=O (Zgk s p,()):=rfl
theorem Qro{K:Int}(h:Jr K s)(hK:K<=1000000)(p:Qe):tq s p=O (Zgk s p,()):=by
 have f:=h.e0;have g:=h.eK
 unfold tq Zgk;by_cases a:0<=p.1
 ·by_cases b:p.1<=s.2.1.2.2.1
  ·by_cases c:p.2.1<=s.2.1.2.2.1-p.1
   ·have e:W.wrap (p.1+p.2.1)=p.1+p.2.1:=Zr;rw[Zr (n:=s.2.1.2.2.1-p.1),e,Zm (p:=p.1<0),Zm (p:=p.1>s.2.1.2.2.1),Zm (p:=p.2.1>s.2.1.2.2.1-p.1),Zl (p:=p.1>=0) a,Zl b,Zl c];simp only[K2,pH,Z,pJ];by_cases d:p.1+p.2.1=s.2.2.2.2.2.1
    ·have:(s.2.2.2.2.2.1 != -1)=true:=Af
     simp_all
    grind
   grind[Zr]
  grind
 grind
abbrev rgP(p:Qe):Zi:=(p.1,W.wrap (p.1+p.2.1),())
def spG(s:Zk)(p:Qe):Bool:=(((Zae s&&U (s.1<=2))&&Zgk s p)&& !((p.2.1==([]:Ba))&&(!p.2.2.1)))&& !(p.2.2.1&&(s.2.2.2.2.2.2.1 !=(1:Int)))
def Zkv(s:Zk)(p:Qe):Bool:=spG s p&&((p.2.1==([]:Ba))||eq1 (JI s.2.2.1 (rgP p)) (rgP p))
def spY(s:Zk)(p:Qe):Zk:=cond (p.2.1==([]:Ba)) s (s.1,s.2.1,Z26 s.2.2.1 (rgP p),Z7p s.2.2.2.1 (rgP p),s.2.2.2.2.1,s.2.2.2.2.2.1,s.2.2.2.2.2.2.1,max s.2.2.2.2.2.2.2.1 (rgP p).2.1,s.2.2.2.2.2.2.2.2)
def spZ(s:Zk)(p:Qe):Zk:=cond p.2.2.1 ((spY s p).1,(spY s p).2.1,(spY s p).2.2.1,(spY s p).2.2.2.1,(spY s p).2.2.2.2.1,(spY s p).2.2.2.2.2.1,(2:Int),(spY s p).2.2.2.2.2.2.2) (spY s p)
def spS(s:Zk)(p:Qe):Zk:=(stF (spZ s p),(spZ s p).2)
theorem Qno(s:Zk)(p:Qe):(spY s p).2.2.2.2.2.2.1=s.2.2.2.2.2.2.1:=by grind[spY]
theorem Qpz{K:Int}(h:Jr K s)(hK:K<=1000000)(p:Qe):qe s p=O (cond (Zkv s p) (spS s p) s,Zkv s p,()):=by
 have d:=Qm h.pend h.e0 h.eK hK;have f:=Qm h.pT h.e0 h.eK hK;unfold qe gH;rw[lI h hK,pA,Zku h hK,pA];simp only[Qi8,bO];have e:(((((!Zae s)||U (s.1>2))|| !(!((!Zae s)||U (s.1>2))&&Zgk s p))||((p.2.1==([]:Ba))&&(!p.2.2.1)))||(p.2.2.1&&(s.2.2.2.2.2.2.1 !=(1:Int))))= !spG s p:=by
  have:U (s.1>2)= !U (s.1<=2):=Ag
  simp_all[spG]
 rw[e];have fin:∀y:Zk,y=spY s p->dP p Yw y=O (spS s p,P,()):=λy b=>by
  unfold dP tF jd spS spZ;rw[b];cases p.2.2.1
  all_goals simp_all[Zg5]
 unfold Zkv;cases hg:spG s p
 ·rfl
 ·simp only[pI,pH,pJ];cases hd:p.2.1==([]:Ba)
  ·simp only[Lk,pG,kr,pA,Lf];rw[Qhv _ _,pA];have a:((JI s.2.2.1 (rgP p)) !=(1:Int))=X->(0<=(0:Int)/\(0:Int)<(JI s.2.2.1 (rgP p))):=λh=>by simp at h;omega
   rw[Zb a,show(0:Int).toNat=0 from rfl];have c:(((JI s.2.2.1 (rgP p)) !=(1:Int))||(!(eqV (Zz) ((JI s.2.2.1 (rgP p)).getD 0 Z3) (rgP p))))= !eq1 (JI s.2.2.1 (rgP p)) (rgP p):=by
    simp_all[eq1,bne]
   rw[c];cases eq1 (JI s.2.2.1 (rgP p)) (rgP p)
   ·rfl
   ·simp only[pI,pH,pG];rw[q9 _ _,pA,ia _ _,pA];exact fin _ (by unfold spY;rw[hd];rfl)
  simp_all[spY]
theorem Qvz{K:Int}(h:Jr K s)(hK:K<=1000000)(p:Qe):QP s p=O (cond (Zkv s p) (spS s p) s,Zkv s p,()):=by
 have d:=Qm h.pend h.e0 h.eK hK;have f:=Qm h.pT h.e0 h.eK hK;unfold QP gH bU;rw[qw h hK,pA,xy h hK,Zku h hK,pA];simp only[bN,bA,bA2,pA,Qro h hK,bO];have a:(Zae s&&(U (s.1>=0)&&U (s.1<=2)))=(Zae s&&U (s.1<=2)):=by
  cases hb:Zae s
  ·rfl
  ·have:=((Zsl h hK).1 hb).st.1;simp_all
 rw[a];have e:((((!(Zae s&&U (s.1<=2)))|| !(!(!(Zae s&&U (s.1<=2)))&&Zgk s p))||(p.2.2.1&&(s.2.2.2.2.2.2.1 !=(1:Int))))||((p.2.1==([]:Ba))&&(!p.2.2.1)))= !spG s p:=by
  grind[spG]
 rw[e];unfold Zkv;cases hg:spG s p
 ·rfl
 ·have b:0<=s.2.2.2.2.2.2.1/\s.2.2.2.2.2.2.1<=3:=by
   unfold spG at hg;simp only[pC]at hg;exact((Zsl h hK).1 hg.1.1.1.1).fin
  have fin:∀y:Zk,y=spY s p->nc p Yw y=O (spS s p,P,()):=λy c=>by
   unfold nc tF uM spS spZ;rw[c];have g:=Qno s p;cases p.2.2.1
   all_goals simp_all[WR]
  simp only[pI,pH,pJ];cases hd:p.2.1==([]:Ba)
  ·simp only[Lk,pG,Xr,Ke,Lf];rw[Qqs _ _,pA,Qwr,pA];unfold QQ;cases eq1 (JI s.2.2.1 (rgP p)) (rgP p)
   ·rfl
   ·simp only[pI,pH,pG];rw[Zg0 _ _,pA,YT _ _,pA];exact fin _ (by unfold spY;rw[hd];rfl)
  simp_all[spY]
theorem Zsm{K:Int}(h:Jr K s)(hK:K<=1000000)(p:Qe)(ho:Zkv s p=P):Jr K (spS s p):=by
 obtain⟨x,a,e,hx⟩:=Qgr h p hK
 grind[Qpz]
theorem Qty{c:Bool}{x:α}:(cond c (O x) (O y))=O (cond c x y):=by cases c<;>rfl
theorem Qtx{c:Bool}{x y:α×β}:(cond c x y).1=cond c x.1 y.1:=by cases c<;>rfl
theorem yj(d:α)(pre:List α)(x:α)(rest:List α):(pre++x::rest).getD ((pre.length:Int).toNat) d=x:=by
 simp_all
theorem Z2k(pre:List α)(x:α)(rest:List α):pre++x::rest=(pre++[x])++rest:=Ae
theorem KI(pre:List α)(x:α)(rest:List α)(h:(pre++x::rest).length<=100000):W.wrap ((pre.length:Int)+1)=(((pre++[x]).length:Nat):Int):=by
 grind[Zr]
theorem inb(pre:List α)(x:α)(rest:List α):0<=(pre.length:Int)/\(pre.length:Int)<((pre++x::rest).length:Int):=Af
theorem KZ(pre:List α)(x:α)(rest:List α):U ((pre.length:Int)<((pre++x::rest).length:Int))=true:=Zl (inb pre x rest).2
theorem Ze5(pre:List α):U ((pre.length:Int)<((pre++([]:List α)).length:Int))=false:=Zm Ae
def vC(x:Zo):Bool:=(U (0<=x.1)&&U (x.1<=4611686018427387903))&&(U (0<=x.2.1.1)&&U (x.2.1.1<=7))
def acF:Option Int->List Zo->Bool
 |_,[]=>P
 |p,x::r=>vC x&&(match p with|none=>P|some q=>U (q<x.1))&&acF (O x.1) r
abbrev ac(l:List Zo):Bool:=acF none l
theorem Zio(p:Option Int)(x:Zo)(r:List Zo):acF p (x::r)=(vC x&&(match p with|none=>P|some q=>U (q<x.1))&&acF (O x.1) r):=by cases p<;>rfl
def Zea(pre:List Zo):Option Int:=pre.getLast?.map (·.1)
theorem Z4b(pre:List Zo)(x:Zo):Zea (pre++[x])=O x.1:=by simp[Zea]
theorem Z9m(pre:List Zo)(x:Zo)(rest:List Zo)(h:0<pre.length)(hl:pre.length<=100000):0<=W.wrap ((pre.length:Int)-1)/\W.wrap ((pre.length:Int)-1)<((pre++x::rest).length:Int)/\
  Zea pre=O ((pre++x::rest).getD (W.wrap ((pre.length:Int)-1)).toNat Qs).1:=by
 rw[Zr];refine⟨Aa,Af,?_⟩;have e:((pre.length:Int)-1).toNat=pre.length-1:=Aa
 rw[e,Mt,List.getElem?_append_left Aa]
 grind[Zea]
theorem Qet:∀(N:Nat)(pre rest:List Zo),(pre++rest).length<=100000->rest.length<N->bT N (pre++rest) (pre.length:Int)=O (acF (Zea pre) rest,())
 |0,_,_,_,h=>Aa
 |N+1,pre,[],b,g=>by
  unfold bT gG gH gM;rw[Zp (Ze5 pre)];rfl
 |N+1,pre,x::rest,b,g=>by
  have j:pre.length<=100000:=by simp at b;omega
  unfold bT gG gH gM Q9 cg Z9;rw[Zn (KZ pre x rest),Zb (inb pre x rest)];simp only[yj,pA];rw[Zb (λ_=>inb pre x rest)];have i:=Qet N (pre++[x]) rest (by simpa using b) (by simp at g;omega);rw[<-Z2k,Z4b]at i;simp only[Qty,Qtx,pA];by_cases k:0<pre.length
  ·obtain⟨l,m,n⟩:=Z9m pre x rest k j;by_cases hv:vC x=P
   ·have a:=hv;simp only[vC,pC,decide_eq_true_eq]at a;simp only[ge_iff_le,a.1.1,a.1.2,a.2.1,a.2.2,decide_true,Z,pI,pH,K2,Lf];rw[Zb (λ_ _=>inb pre x rest),Zb (λ_ _=>⟨l,m⟩)];rw[Zl (show(pre.length:Int)>0 by omega),pJ];have o:U (x.1<=((pre++x::rest).getD (W.wrap ((pre.length:Int)-1)).toNat Qs).1)= !(U (((pre++x::rest).getD (W.wrap ((pre.length:Int)-1)).toNat Qs).1<x.1)):=by
     grind
    rw[o,Zio,n,hv,KI pre x rest b,i];generalize ((pre++x::rest).getD (W.wrap ((pre.length:Int)-1)).toNat Qs).1=y;by_cases p:y<x.1<;>simp[p]
   ·have c:vC x=false:=by simpa using hv
    have d:((!((U (x.1>=0))&&(U (x.1<=4611686018427387903))))||(!(cond (!((U (x.1>=0))&&(U (x.1<=4611686018427387903)))) X ((U (x.2.1.1>=0))&&(U (x.2.1.1<=7))))))=true:=by
     grind[vC]
    rw[Zb (λh=>Ag),Zb (λh=>Aa),d,Bool.true_or,Zn rfl,Zio,c];simp
  ·have e:pre=[]:=L0 Aa;subst e;rw[Zb (λ_ h=>by simp at h),Zb (λ_ h=>by simp at h)];have f:U (((([]:List Zo).length:Nat):Int)>0)=false:=Zm Ae;rw[f,Le,K3]
   grind[vC,KI,Zio,Zea]
theorem Qdu:∀(N:Nat)(pre rest:List Zo),(pre++rest).length<=100000->rest.length<N->bQ N (pre++rest) (pre++rest) ((pre++rest).length:Int) (pre.length:Int)=O (acF (Zea pre) rest,())
 |0,_,_,_,h=>Aa
 |N+1,pre,[],a,f=>by
  unfold bQ gG gH gM;rw[Zp (Ze5 pre)];rfl
 |N+1,pre,x::rest,a,f=>by
  have g:pre.length<=100000:=by simp at a;omega
  unfold bQ gG gH gM Xq mz Z1;rw[Zn (KZ pre x rest),Zb (inb pre x rest)];simp only[yj,pA];have b:=Qdu N (pre++[x]) rest (by simpa using a) (by simp at f;omega);rw[<-Z2k,Z4b]at b;simp only[Qty,Qtx,pA];have c:((!((U (0<=x.1))&&(U (x.1<=4611686018427387903))))||(!(cond (!((U (0<=x.1))&&(U (x.1<=4611686018427387903)))) X ((U (0<=x.2.1.1))&&(U (x.2.1.1<=7))))))= !vC x:=by
   simp_all[vC]
  simp only[c];by_cases i:0<pre.length
  ·obtain⟨j,k,l⟩:=Z9m pre x rest i g;rw[Zb (λ_ _=>⟨j,k⟩),Zl (show(pre.length:Int)>0 by omega),pJ];have m:U (((pre++x::rest).getD (W.wrap ((pre.length:Int)-1)).toNat Qs).1>=x.1)= !(U (((pre++x::rest).getD (W.wrap ((pre.length:Int)-1)).toNat Qs).1<x.1)):=by
    grind
   rw[m,Zio,l,KI pre x rest a,b];generalize ((pre++x::rest).getD (W.wrap ((pre.length:Int)-1)).toNat Qs).1=y;cases vC x<;>by_cases n:y<x.1<;>simp[n]
  ·have d:pre=[]:=L0 Aa;subst d;rw[Zb (λ_ h=>by simp at h)];have e:U (((([]:List Zo).length:Nat):Int)>0)=false:=Zm Ae;rw[e,Le,K3,KI [] x rest a,b,Zio]
   grind[Zea]
theorem Z91(l:List Zo)(h:l.length<=100000):rK l=O (ac l,()):=by
 have:=Qet (dG l 0) [] l (by simpa using h) (by simp[dG]);simp_all[rK,Zea]
theorem Z8s(l:List Zo)(h:l.length<=100000):lq l=O (ac l,()):=by
 have:=Qdu (dB l l (l.length:Int) 0) [] l (by simpa using h) (by simp[dB]);simp_all[lq,Zea]
theorem Zip:∀(l:List Zo)(p:Option Int),acF p l=P->(∀x,x∈l->0<=x.1/\0<=x.2.1.1/\x.2.1.1<=7/\ ∀q,p=O q->q<x.1)/\l.Pairwise (λa b=>a.1<b.1)
 |[],_,_=>⟨Ae,M1⟩
 |x::r,p,h=>by
  simp only[acF,pC]at h;obtain⟨⟨d,i⟩,e⟩:=h;obtain⟨f,g⟩:=Zip r (O x.1) e;simp only[vC,pC,decide_eq_true_eq]at d;refine⟨λy c=>?_,M0 (λy c=>(f y c).2.2.2 _ rfl) g⟩
  grind
theorem Z3d(f:Zo->Bool):∀(l:List Zo)(p:Option Int),acF p l=P->acF p (l.filter f)=P
 |[],_,_=>rfl
 |x::r,p,h=>by
  simp only[acF,pC]at h;obtain⟨⟨e,g⟩,c⟩:=h;have i:=Z3d f r (O x.1) c;simp only[Mr];split
  ·simp_all[acF]
  ·
   have b:∀(l:List Zo)(a:Int)(p:Option Int),(∀q,p=O q->q<=a)->acF (O a) l=P->acF p l=true:=by
    intro l a p j d;cases l with
    |nil=>rfl
    |cons y l=>
     simp only[acF,pC,decide_eq_true_eq]at d⊢
     grind
   grind
def lst(b:Int)(l:List Zo):Int:=l.foldl (λb x=>min b x.2.1.1) b
def isU(b:Int)(x:Zo):Bool:=x.2.1.1==b
abbrev urg(l:List Zo):List Zo:=l.filter (isU (lst 7 l))
abbrev ids(l:List Zo):List Int:=l.map (λx=>x.1)
def Zvo(L:List Int)(last:Int):Int:=match L.find? (λx=>U (x>last))with|some x=>x|none=>L.headD (-1)
theorem Z7i(b:Int):∀(N:Nat)(out pre rest:List Zo),(pre++rest).length<=100000->out+rest.length<=100000->rest<N->
  iu N b out (pre++rest) (pre++rest) pre=O (out++rest.filter (isU b),())
 |0,_,_,_,_,_,h=>Aa
 |N+1,out,pre,[],c,d,f=>by
  simp_all[iu]
 |N+1,out,pre,x::rest,c,d,f=>by
  have a:rest<N:=by simp at f;omega
  have g:out+1+rest.length<=100000:=by simp at d;omega
  unfold iu;rw[Zn (KZ pre x rest),Zb (inb pre x rest)];simp only[yj];rw[KI pre x rest c,Zb Aj];have e:=Z2k pre x rest;by_cases h:isU b x=P
  ·rw[Zn (show(x.2.1.1==b)=P from h),e,Z7i b N (out++[x]) (pre++[x]) rest (by simpa using c) Af a];simp[h]
  ·have h:isU b x=false:=by simpa using h
   rw[Zp (show(x.2.1.1==b)=X from h),e,Z7i b N out (pre++[x]) rest (by simpa using c) Aa a];simp[h]
theorem Qe5(l0:List Zo):∀(N:Nat)(b:Int)(out pre rest:List Zo),(pre++rest).length<=100000->rest<N->
  pi N l0 b out (pre++rest) (pre++rest) pre=iu (oC (lst b rest) out l0 l0 (0:Int)) (lst b rest) out l0 l0 (0:Int)
 |0,_,_,_,_,_,h=>Aa
 |N+1,b,out,pre,[],a,c=>by
  unfold pi gG gM;rw[Zp (Ze5 pre)];rfl
 |N+1,b,out,pre,x::rest,a,c=>by
  unfold pi gG gM;rw[Zn (KZ pre x rest),Zb (inb pre x rest)];simp only[yj];rw[KI pre x rest a,Z2k pre x rest,Qe5 l0 N _ out (pre++[x]) rest (by simpa using a) (by simp at c;omega)];rfl
theorem Qgy(l:List Zo)(h:l.length<=100000):Zcv l=O (urg l,()):=by
 have a:=Qe5 l (oB l 7 [] l l 0) 7 [] [] l (by simpa using h) (by simp[oB])
 grind[Z7i,oC,Zcv]
def Zhm(l:List Zo):List Int:=cond (ac l) (ids (urg l)) []
theorem XF:∀(N:Nat)(out:List Int)(b:Int)(pre rest:List Zo),(pre++rest).length<=100000->ac (pre++rest)=P->out=ids (pre.filter (isU b))->(∀x,x∈pre->b<=x.2.1.1)->rest<N->
  aR N (pre++rest) out b pre=O (ids ((pre++rest).filter (isU (lst b rest))),())
 |0,_,_,_,_,_,_,_,_,h=>Aa
 |N+1,out,b,pre,[],a,f,j,k,g=>by
  simp_all[aR,lst]
 |N+1,out,b,pre,x::rest,a,f,j,k,g=>by
  have c:rest<N:=by simp at g;omega
  have m:pre.length<=100000:=by simp at a;omega
  have l:out.length<=100000:=Ag
  unfold aR rT gG gM rS;simp only[KZ pre x rest,pG,Z91 _ a,pA,f,Z,yj];rw[Zb (inb pre x rest)];have e:=Z2k pre x rest;by_cases h:x.2.1.1<b
  ·rw[Zn (Zl h),Zb (inb pre x rest),Zb (inb pre x rest),Zn Ae,Zb (inb pre x rest),Zb (by unfold Qp;simp),Lt,KI pre x rest a,e,
    XF N [x.1] x.2.1.1 (pre++[x]) rest (by simpa using a) Ag ?_ ?_ c]
   ·grind[lst]
   ·grind[isU,Mb]
   grind
  ·rw[Zp (Zm h),Zb (inb pre x rest)];have i:lst b (x::rest)=lst b rest:=by grind[lst]
   have d:∀y,y∈pre++[x]->b<=y.2.1.1:=λy n=>by
    grind
   by_cases hx:isU b x=P
   ·rw[Zn (show(x.2.1.1==b)=P from hx),Zb (inb pre x rest),Zb Aj,KI pre x rest a,e,i,
     XF N (out++[x.1]) b (pre++[x]) rest (by simpa using a) Ag Ag d c]
   ·have hx:isU b x=false:=by simpa using hx
    rw[Zp (show(x.2.1.1==b)=X from hx),KI pre x rest a,e,i,XF N out b (pre++[x]) rest (by simpa using a) Ag Ag d c]
theorem Quw(l:List Zo)(h:ac l=P):l.filter (isU (lst 8 l))=urg l:=by
 cases l with
 |nil=>rfl
 |cons x r=>
  have:=(Zip _ _ h).1 x Ae
  grind[lst]
theorem Qf3(l:List Zo)(h:l.length<=100000):zk l=O (Zhm l,()):=by
 unfold zk Zhm;by_cases a:ac l=P
 ·have:=XF (da l [] 8 0) [] 8 [] l (by simpa using h) a rfl Ae (by simp[da]);simp_all[Quw]
 simp_all[da,aR,Z91]
theorem Zyn(last:Int):∀(N:Nat)(pre rest:List Int),(pre++rest).length<=100000->rest<N->kZ N (pre++rest) last pre=O ((match rest.find? (λx=>U (x>last))with|some x=>x|none=>(pre++rest).headD (-1)),())
 |0,_,_,_,h=>Aa
 |N+1,pre,[],a,b=>by
  unfold kZ gG;rw[Zp (Ze5 pre)];cases pre with
  |nil=>rfl
  |cons y pre=>
   rw[Zp (beq_eq_false_iff_ne.2 Ag),Zb ⟨Ln 0,Ac⟩];rfl
 |N+1,pre,x::rest,a,b=>by
  unfold kZ gG;rw[Zn (KZ pre x rest),Zb (inb pre x rest)];simp only[yj,Mc];rw[KI pre x rest a];by_cases h:x>last
  ·rw[Zn (Zl h),Zb (inb pre x rest),Zl h]
  ·rw[Zp (Zm h),Zm h,Z2k pre x rest,Zyn last N (pre++[x]) rest (by simpa using a) (by simp at b;omega)]
theorem Qg9(l:List Int)(last:Int)(h:l.length<=100000):JD l last=O (Zvo l last,()):=by
 have:=Zyn last (mh l last 0) [] l (by simpa using h) (by simp[mh]);simp_all[JD,Zvo]
theorem Zh1(l0:List Zo)(last:Int)(h0:0<l0.length):∀(N:Nat)(pre rest:List Zo),(pre++rest).length<=100000->rest<N->
  iS N l0 last (pre++rest) (pre++rest) pre=O ((match(ids rest).find? (λx=>U (x>last))with|some x=>x|none=>(ids l0).headD (-1)),())
 |0,_,_,_,h=>Aa
 |N+1,pre,[],a,b=>by
  unfold iS gG gM;rw[Zp (Ze5 pre),Zb];cases l0 with
  |nil=>simp at h0
  |cons y l0=>rfl
 |N+1,pre,x::rest,a,b=>by
  unfold iS gG gM;rw[Zn (KZ pre x rest),Zb (inb pre x rest)];simp only[yj,Mw,Mc];rw[KI pre x rest a];by_cases h:x.1>last
  ·simp_all
  ·rw[Zp (Zm h),Zm h,Z2k pre x rest,Zh1 l0 last h0 N (pre++[x]) rest (by simpa using a) (by simp at b;omega)]
def Z6r(l:List Zo)(last:Int):Int:=cond (ac l) (Zvo (ids l) last) (-1)
theorem Qb2(l:List Zo)(last:Int)(h:l.length<=100000):QO l last=O (Z6r l last,()):=by
 unfold QO gH Z6r;by_cases a:l.length=0
 ·have:=L0 a;subst this;rfl
 ·have b:((l:Int)==0)=false:=beq_eq_false_iff_ne.2 Aa;simp only[b,pH,Z8s l h,pA,Lf];cases ac l
  ·rfl
  ·have:=Zh1 l last Aa (kh l last l l 0) [] l (by simpa using h) (by simp[kh]);simp_all[Zvo]
def Z2r(x:Zo):Bool:=x.2.1.2.1
def iT(l:List Zo)(last:Int):Int:=cond (ac l) (match(urg l).find? (λx=> !Z2r x)with|some x=>x.1|none=>Zvo (ids (urg l)) last) (-1)
theorem Zjr(last:Int):∀(N:Nat)(pre rest:List Zo),(pre++rest).length<=100000->rest<N->
  fL N last (pre++rest) (pre++rest) pre=O ((match rest.find? (λx=> !Z2r x)with|some x=>x.1|none=>Z6r (pre++rest) last),())
 |0,_,_,_,h=>Aa
 |N+1,pre,[],a,b=>by
  simp_all[fL,Qb2]
 |N+1,pre,x::rest,a,b=>by
  unfold fL;rw[Zn (KZ pre x rest),Zb (inb pre x rest)];simp only[yj,Mc];rw[KI pre x rest a];cases h:Z2r x
  ·simp_all[Z2r]
  ·rw[Zp (by simp_all[Z2r]),Z2k pre x rest,Zjr last N (pre++[x]) rest (by simpa using a) (by simp at b;omega)];rfl
theorem Qga(l:List Zo)(last:Int)(h:l.length<=100000):yY l last=O (iT l last,()):=by
 unfold yY gH iT;by_cases a:l.length=0
 ·have:=L0 a;subst this;rfl
 ·have b:((l:Int)==0)=false:=beq_eq_false_iff_ne.2 Aa;simp only[b,pH,Z8s l h,pA,Lf];cases ha:ac l
  ·rfl
  ·rw[pI,Zp rfl,Qgy l h,pA];have c:(urg l).length<=100000:=Lq (Ls _ _) h;have:=Zjr last (iR last (urg l) (urg l) 0) [] (urg l) (by simpa using c) (by simp[iR]);simp_all[Z3d,Z6r]
theorem Z0p(K1:(List Zo×Int×List Int×List Int×Int×Unit)->Oa Int)(l:List Zo)(last:Int)(i:Nat)(hi:i<l)(hl:l.length<=100000):
  ∀(N:Nat)(some0 preM restM:List Int),(preM++restM).length<=100000->some0+restM.length<=200000->restM.Nodup->restM<N->
  cI K1 N l last (preM++restM) some0 (i:Int) preM=
   bif U ((l.getD (i:Int).toNat Qs).1∈restM)&& !Z2r (l.getD (i:Int).toNat Qs)then O ((l.getD (i:Int).toNat Qs).1,())
   else K1 (l,last,preM++restM,some0++(ite ((l.getD (i:Int).toNat Qs).1∈restM) [(l.getD (i:Int).toNat Qs).1] []),((i+1:Nat):Int),())
 |0,_,_,_,_,_,_,h=>Aa
 |N+1,some0,preM,[],a,hs,d,f=>by
  unfold cI gG gM;rw[Zp (Ze5 preM),Zs hi];simp
 |N+1,some0,preM,y::restM,a,hs,d,f=>by
  have b:restM<N:=by simp at f;omega
  have c:=List.nodup_cons.1 d;unfold cI gG gM rV;rw[Zn (KZ preM y restM),Zb (inb preM y restM),Zb];simp only[yj];rw[Zb (λ_=>Aa)];generalize hx:l.getD (i:Int).toNat Qs=x;have e:=Z2k preM y restM;have g:=λsome0 h=>Z0p K1 l last i hi hl N some0 (preM++[y]) restM (by simpa using a) h c.2 b;rw[hx,<-e]at g;rw[KI preM y restM a,Zb (inb preM y restM),Zb,Zb,Zb,Zb Aj];by_cases j:y=x.1
  ·subst j;simp only[beq_self_eq_true,pJ,L4,true_or,decide_true];cases hxi:Z2r x
   ·rw[Zn (by grind[Z2r])];rfl
   ·rw[Zp (by grind[Z2r]),Zn rfl]
    grind
  grind
def inU(m:List Int)(x:Zo):Bool:=U (x.1∈m)
theorem Z0o(last:Int)(m:List Int)(hmn:m.Nodup)(hml:m.length<=100000):∀(N:Nat)(some0:List Int)(pre rest:List Zo),(pre++rest).length<=100000->some0.length+rest.length<=100000->rest.length<N->
  cH N (pre++rest) last m some0 (pre.length:Int)=O ((match(rest.filter (inU m)).find? (λx=> !Z2r x)with|some x=>x.1|none=>Zvo (some0++ids (rest.filter (inU m))) last),())
 |0,_,_,_,_,_,h=>Aa
 |N+1,some0,pre,[],a,hs,d=>by
  simp_all[cH,Qg9]
 |N+1,some0,pre,x::rest,a,hs,d=>by
  have b:rest.length<N:=by simp at d;omega
  have g:pre.length<(pre++x::rest).length:=Ae
  unfold cH;rw[Zn (KZ pre x rest)];have c:=Z0p (λv=>cH N v.1 v.2.1 v.2.2.1 v.2.2.2.1 v.2.2.2.2.1) (pre++x::rest) last pre.length g a (jc (pre++x::rest) last m some0 (pre.length:Int) 0) some0 [] m (by simpa using hml) (by simp at hs;omega) hmn (by simp[jc]);simp only[Lt,Li,yj]at c;rw[show((0:Nat):Int)=0 from rfl]at c;rw[c];have e:=Z2k pre x rest;have i:((pre.length+1:Nat):Int)=(((pre++[x]).length:Nat):Int):=Ae
  have j:=λsome0 h=>Z0o last m hmn hml N some0 (pre++[x]) rest (by simpa using a) h b;rw[<-e]at j;rw[i];by_cases hx:x.1∈m
  ·have f:(x::rest).filter (inU m)=x::rest.filter (inU m):=by simp[inU,hx]
   grind
  ·have f:(x::rest).filter (inU m)=rest.filter (inU m):=by simp[inU,hx]
   rw[f]
   grind
theorem Qj6:∀{l:List Zo},l.Pairwise (λa b=>a.1<b.1)-> ∀{x y:Zo},x∈l->y∈l->x.1=y.1->x=y
 |[],_,_,_,h,_,_=>by cases h
 |z::l,c,x,y,hx,d,e=>by
  obtain⟨g,f⟩:=List.pairwise_cons.1 c;rcases L4.1 hx with hx'|hx'<;>rcases L4.1 d with hy'|hy'
  ·rw[hx',hy']
  ·grind
  ·grind
  ·exact Qj6 f hx' hy' e
theorem Qbe{l:List Zo}(h:l.Pairwise (λa b=>a.1<b.1)):(ids l).Pairwise (· < ·):=List.pairwise_map.2 h
theorem Qco{l:List Zo}(h:ac l=P):(ids (urg l)).Pairwise (· < ·):=Qbe ((Zip _ _ h).2.filter _)
theorem Z88(l:List Zo):(Zhm l).Nodup:=by
 unfold Zhm;cases h:ac l
 all_goals grind[Qco]
theorem Qm4{l:List Zo}(h:ac l=P){x:Zo}(hx:x∈l):x.1∈ids (urg l)↔isU (lst 7 l) x=true:=by
 constructor
 ·intro b;obtain⟨y,c,e⟩:=List.mem_map.1 b;obtain⟨a,d⟩:=Mg.1 c;have:=Qj6 (Zip _ _ h).2 hx a e.symm;simp_all
 grind
theorem Qgb(l:List Zo)(last:Int)(h:l.length<=100000):zl l last=O (iT l last,()):=by
 unfold zl iT;rw[Qf3 l h,pA];have a:(Zhm l).length<=100000:=by
  unfold Zhm
  grind
 have:=Z0o last (Zhm l) (Z88 l) a (jb l last (Zhm l) [] 0) [] [] l (by simpa using h) (by simpa using h) (by simp[jb]);simp only[Lt,Li]at this;rw[show((0:Nat):Int)=0 from rfl]at this;simp only[];rw[this];cases ha:ac l
 ·have b:l.filter (inU (Zhm l))=[]:=Mb.2 λx _=>by simp[inU,Zhm,ha]
  rw[b];rfl
 ·have b:l.filter (inU (Zhm l))=urg l:=List.filter_congr λx hx=>by
   rw[Lw];simp_all[inU,Zhm,Qm4]
  rw[b];rfl
theorem Qjk(b:Int):∀(l:List Zo)(b:Int),lst b l<=b/\ ∀x,x∈l->lst b l<=x.2.1.1
 |[],b=>⟨Ln _,Ae⟩
 |y::l,b=>by
  obtain⟨a,c⟩:=Qjk b l (min b y.2.1.1);have e:lst b (y::l)=lst (min b y.2.1.1) l:=rfl
  grind
theorem Qd7:∀(l:List Zo)(b:Int),lst b l=b\/ ∃x,x∈l/\x.2.1.1=lst b l
 |[],b=>.inl rfl
 |y::l,b=>by
  have e:lst b (y::l)=lst (min b y.2.1.1) l:=rfl;rw[e];rcases Qd7 l (min b y.2.1.1)with h|⟨x,hx,h⟩
  all_goals grind
theorem Qtj{l:List Zo}(h:ac l=P)(h0:l≠[]):urg l≠[]:=by
 obtain⟨a,b⟩:=Qjk 7 l 7;have c:∃x,x∈l/\x.2.1.1=lst 7 l:=by
  rcases Qd7 l 7 with e|e
  ·cases l with
   |nil=>simp_all
   |cons x l=>
    have:=((Zip _ _ h).1 x Ae).2.2.1
    grind
  ·exact e
 grind[Mb,isU]
theorem Qfd{L:List Int}(h:L≠[])(last:Int):Zvo L last∈L:=by
 unfold Zvo;split
 ·grind
 ·cases L with
  |nil=>simp_all
  |cons y L=>simp
theorem Qf8{l:List Zo}(h:ac l=P)(h0:l≠[])(last:Int):iT l last∈ids (urg l):=by
 unfold iT;rw[h,pG];split
 ·grind
 grind[Qfd,Qtj,List.map_eq_nil_iff]
theorem Qf9(last:Int):iT [] last= -1:=rfl
def Zxm(s:Zf):Bool:=(s.2.2.2.2.2.2.1&&U (s.2.1.1<(3:Int)))&&(U (s.2.1.2.2.1>(0:Int))||(s.2.1.2.2.2.2.2.2.1==(1:Int)))
abbrev Zy2(s:Zf):Zo:=(s.1,s.2.2.2.2.2.1,())
def Z7m(c:Ze):List Zo:=(c.2.2.2.1.filter Zxm).map Zy2
def Zjs(sk:List Int)(x:Zo):Bool:=sk.all λi=>x.1 !=i
def yN(c:Ze)(sk:List Int):List Zo:=(Z7m c).filter (Zjs sk)
theorem Qae(c:Ze):(Z7m c)<=c.2.2.2.1.length:=by
 simp_all[Z7m,Ls]
theorem Qxl(hl:c.2.2.2.1.length<=1000000):zo c=O (Z7m c,()):=by
 have g:∀(N i:Nat),c.2.2.2.1-i<N->i<=c.2.2.2.1-> ∀o:List Zo,o<=i->fZ N c o (i:Int)=O (o++((c.2.2.2.1.drop i).filter Zxm).map Zy2,()):=by
  intro N
  induction N with
  |zero=>intro i h;omega
  |succ N e=>
   intro i j k o l;unfold fZ gG gK;by_cases f:i<c.2.2.2.1
   ·rw[Zn (Zl),Zb,show(i:Int).toNat=i from rfl,Qy (d:=Zc) f];unfold rY;simp only;rw[Zs f];by_cases a:Zxm (c.2.2.2.1.getD i Zc)=P
    ·have b:=a;unfold Zxm at a;rw[Zn a,Zb Aj,e (i+1) Aa Aa _ Af,L1 b];simp
    ·have b:=a;have a:Zxm (c.2.2.2.1.getD i Zc)=false:=by simpa using a
     unfold Zxm at a;rw[Zp a,e (i+1) Aa Aa _ Aa,List.filter_cons_of_neg b]
   grind
 grind[zo,qj,Z7m]
theorem Qlg{l:List Zo}(hl:l.length<=1000000)(n:Int):mS l n=O (l.filter (λx=>x.1 !=n),()):=by
 have e:∀(N i:Nat),l-i<N->i<=l-> ∀o:List Zo,o<=i->Wn N l n o (i:Int)=O (o++(l.drop i).filter (λx=>x.1 !=n),()):=by
  intro N
  induction N with
  |zero=>intro i h;omega
  |succ N c=>
   intro i f g o j;unfold Wn gG gM;by_cases a:i<l
   ·rw[Zn (Zl),Zb,show(i:Int).toNat=i from rfl,Qy (d:=Qs) a];unfold f5;simp only;rw[Zs a];by_cases b:((l.getD i Qs).1 !=n)=P
    ·rw[Zn b,Zb,Zb Aj,c (i+1) Aa Aa _ Af,L1 (p:=λx:Zo=>x.1 !=n) b];simp
    grind
   grind
 grind[mS,je]
theorem Zvv(l:List Int)(hl:l.length<=1000000)(n:Int):∀(N i:Nat),l-i<N->i<=l-> ∃v,cV N l n l (i:Int)=O (v,())/\U (v>=0)= !(l.drop i).all λi=>n !=i
 |0,_,h,_=>Aa
 |N+1,i,b,c=>by
  unfold cV gG;by_cases a:i<l
  ·rw[Zn (Zl),Zb,show(i:Int).toNat=i from rfl,Qy (d:=0) a,Zs a];by_cases e:n=l.getD i 0
   ·refine⟨(i:Int),Ac,?_⟩
    grind
   ·obtain⟨v,f,g⟩:=Zvv l hl n N (i+1) Aa Aa
    grind
  simp_all[Zm,Lh]
theorem Qfk{l:List Int}(hl:l.length<=1000000)(n:Int):iV l n=O (!(l.all λi=>n !=i),()):=by
 unfold iV wo;obtain⟨v,a,b⟩:=Zvv l hl n (ce l n l 0) 0 (by simp[ce]) Aa;simp_all
theorem Qxk(hl:c.2.2.2.1.length<=1000000)(h0:∀s∈c.2.2.2.1,0<=s.2.1.1)(hk:sk.length<=1000000):WT c sk=O (yN c sk,()):=by
 have m:∀(N i:Nat),c.2.2.2.1-i<N->i<=c.2.2.2.1-> ∀o:List Zo,o<=i->mE N sk o c.2.2.2.1 c.2.2.2.1 (i:Int)=O (o++(((c.2.2.2.1.drop i).filter Zxm).map Zy2).filter (Zjs sk),()):=by
  intro N
  induction N with
  |zero=>intro i h;omega
  |succ N g=>
   intro i n q o r;unfold mE gG gK;by_cases b:i<c.2.2.2.1
   ·rw[Zn (Zl),Zb,show(i:Int).toNat=i from rfl,Qy (d:=Zc) b,Zs b];have t:=h0 _ (Z2 (d:=Zc) b);generalize c.2.2.2.1.getD i Zc=s at*
    simp only[bN,Qfk hk,bA,bA2];rw[Zl (p:=s.2.1.1>=0),pJ];have j:U (s.2.1.1<=2)=U (s.2.1.1<3):=Ag
    rw[j];have k:((s.2.2.2.2.2.2.1&&U (s.2.1.1<3))&&(U ((s.2.1.2.2.1:Int)>0)||(s.2.1.2.2.2.2.2.2.1==1)))=Zxm s:=rfl;rw[k];by_cases e:Zxm s=P
    ·have l:(s::List.drop (i+1) c.2.2.2.1).filter Zxm=s:: (List.drop (i+1) c.2.2.2.1).filter Zxm:=L1 e;rw[l,Mw,e,pJ,pJ,L8];by_cases f:Zjs sk (Zy2 s)=P
     ·have a:(sk.all λi=>s.1 !=i)=true:=f;rw[a,pG,Zb Aj,g (i+1) Aa Aa _ Af,L1 f];simp
     ·have a:(sk.all λi=>s.1 !=i)=false:=by grind[Zjs]
      grind
    grind
   grind
 grind[WT,v9,yN,Z7m]
theorem Qbw{l:List Zo}(h:0<=iT l last):ac l=P/\ ∃x∈urg l,x.1=iT l last:=by
 have a:ac l=true:=by
  cases e:ac l
  all_goals simp_all[iT]
 grind[Qf9,Qf8]
theorem Qob{x:Zo}(h:x∈yN c sk):(∃s∈c.2.2.2.1,Zxm s=P/\x=Zy2 s)/\Zjs sk x=true:=by
 grind[yN,Z7m]
theorem Zq4(hl:c.2.2.2.1.length<=1000000)(h:0<=iT (yN c sk) last:=by omega):0<=Z8 c.2.2.2.1 (iT (yN c sk) last):=by
 obtain⟨-,x,hx,e⟩:=Qbw h;obtain⟨⟨s,hs,-,a⟩,-⟩:=Qob (Mg.1 hx).1;rw[<-e,a];by_cases b:0<=Z8 c.2.2.2.1 (Zy2 s).1
 ·exact b
 ·exact absurd rfl ((qt hl (Zy2 s).1).2.1 Aa s hs)
def blC(c:Ze)(id:Int):Ze:=(c.1,c.2.1,c.2.2.1,c.2.2.2.1.set (Z8 c.2.2.2.1 id).toNat ((c.2.2.2.1.getD (Z8 c.2.2.2.1 id).toNat Zc).1,(c.2.2.2.1.getD (Z8 c.2.2.2.1 id).toNat Zc).2.1,nbB (c.2.2.2.1.getD (Z8 c.2.2.2.1 id).toNat Zc).2.2.1,(c.2.2.2.1.getD (Z8 c.2.2.2.1 id).toNat Zc).2.2.2),nbB c.2.2.2.2.1,c.2.2.2.2.2)
theorem Qal(h:Q5 K c)(hK:K<=1000000)(hi:0<=Z8 c.2.2.2.1 id):ua c id=O ((),blC c id,())/\Q5 K (blC c id):=by
 have b:=h.str.len;obtain⟨e,-,f⟩:=qt (l:=c.2.2.2.1) Aa id;have a:=h.str.all _ (Z2 (d:=Zc) (show(Z8 c.2.2.2.1 id).toNat<c.2.2.2.1 by omega));have hs:Xc K ((c.2.2.2.1.getD (Z8 c.2.2.2.1 id).toNat Zc).1,(c.2.2.2.1.getD (Z8 c.2.2.2.1 id).toNat Zc).2.1,nbB (c.2.2.2.1.getD (Z8 c.2.2.2.1 id).toNat Zc).2.2.1,(c.2.2.2.1.getD (Z8 c.2.2.2.1 id).toNat Zc).2.2.2):=⟨a.snd,a.rcv⟩
 refine⟨?_,h.str.set hs _,h.pk⟩;unfold ua tO;rw[V8 h hK,if_pos hi];simp only[pA,nbE];rw[Zfq h.str hs hK Ac];simp_all[blC]
def Zpp(c:Ky)(n:Int):Bool:= !(((!Zh5 c)||U (n<0))||U (n>W.wrap (c.1-c.2.1)))
def ucC(c:Ky)(n:Int):Ky:=cond (Zpp c n) (c.1,W.wrap (c.2.1+n),c.2.2) c
theorem ucE(c:Ky)(n:Int):lX c n=O (ucC c n,Zpp c n,()):=by
 grind[lX,ucC,Zpp,Z2o]
abbrev atS(c:Ze)(id:Int):Zf:=c.2.2.2.1.getD (Z8 c.2.2.2.1 id).toNat Zc
def spV(s:Zk)(p:Qe):Zk:=cond (Zkv s p) (spS s p) s
def Zjq(c:Ze)(id:Int)(p:Qe):Int:=W.wrap ((spV (atS c id).2.1 p).2.2.2.2.2.2.2.1- (atS c id).2.1.2.2.2.2.2.2.2.1)
def Zb4(c:Ze)(id:Int)(p:Qe):Bool:=((bP c&&U (0<=Z8 c.2.2.2.1 id))&&(atS c id).2.2.2.2.2.2.1)&&((Zkv (atS c id).2.1 p&&Zpp (atS c id).2.2.1 (Zjq c id p))&&Zpp c.2.2.2.2.1 (Zjq c id p))
def mpC(c:Ze)(id:Int)(p:Qe):Ze:=(c.1,c.2.1,c.2.2.1,c.2.2.2.1.set (Z8 c.2.2.2.1 id).toNat ((atS c id).1,spS (atS c id).2.1 p,ucC (atS c id).2.2.1 (Zjq c id p),(atS c id).2.2.2),ucC c.2.2.2.2.1 (Zjq c id p),c.2.2.2.2.2.1,c.2.2.2.2.2.2.1,c.2.2.2.2.2.2.2.1,c.2.2.2.2.2.2.2.2.1,c.2.2.2.2.2.2.2.2.2.1,c.2.2.2.2.2.2.2.2.2.2.1,c.2.2.2.2.2.2.2.2.2.2.2.1,c.2.2.2.2.2.2.2.2.2.2.2.2.1,id,c.2.2.2.2.2.2.2.2.2.2.2.2.2.2)
theorem Qbq(h:Q5 K c)(hK:K<=1000000){p:Qe}(ho:Zb4 c id p=P):Q5 K (mpC c id p):=by
 have b:=h.str.len;obtain⟨e,-,f⟩:=qt (l:=c.2.2.2.1) Aa id;unfold Zb4 at ho;simp only[pC,decide_eq_true_eq]at ho;obtain⟨⟨⟨-,g⟩,-⟩,⟨hs,-⟩,-⟩:=ho;have a:=h.str.all _ (Z2 (d:=Zc) (show(Z8 c.2.2.2.1 id).toNat<c.2.2.2.1 by omega));exact⟨h.str.set (by exact⟨Zsm a.snd (by omega) p hs,a.rcv⟩) _,h.pk⟩
theorem Qbn(h:Q5 K c)(hK:K<=1000000)(id:Int)(p:Qe):XY c id p=O (cond (Zb4 c id p) (mpC c id p) c,Zb4 c id p,()):=by
 have j:=h.str.len;obtain⟨k,-,m⟩:=qt (l:=c.2.2.2.1) Aa id;unfold XY tP;rw[Ji h hK,pA,V8 h hK,pA,Zb2 h hK,pA];by_cases e:0<=Z8 c.2.2.2.1 id
 ·rw[if_pos e];have a:=h.str.all _ (Z2 (d:=Zc) (show(Z8 c.2.2.2.1 id).toNat<c.2.2.2.1 by omega));have f:Zb4 c id p=((bP c&&(atS c id).2.2.2.2.2.2.1)&&((Zkv (atS c id).2.1 p&&Zpp (atS c id).2.2.1 (Zjq c id p))&&Zpp c.2.2.2.2.1 (Zjq c id p))):=by
   simp_all[Zb4]
  rw[f];simp only[pI,K3];cases hc:bP c
  ·rfl
  ·cases hcs:(atS c id).2.2.2.2.2.2.1
   ·rfl
   ·simp only[pI,K2,pH,Z,pJ];rw[Qpz a.snd Aa,pA];simp only[ucE,pA];have g:(cond (Zkv (atS c id).2.1 p) (spS (atS c id).2.1 p) (atS c id).2.1)=spV (atS c id).2.1 p:=rfl;have i:W.wrap ((spV (atS c id).2.1 p).2.2.2.2.2.2.2.1- (atS c id).2.1.2.2.2.2.2.2.2.1)=Zjq c id p:=rfl;rw[g,i];cases ho:Zkv (atS c id).2.1 p
    ·rfl
    ·cases hu:Zpp (atS c id).2.2.1 (Zjq c id p)
     ·rfl
     ·cases hv:Zpp c.2.2.2.2.1 (Zjq c id p)
      ·rfl
      ·simp only[pI,K2,pH,Z,pG];have hx:Xc K ((atS c id).1,spS (atS c id).2.1 p,ucC (atS c id).2.2.1 (Zjq c id p),(atS c id).2.2.2):=⟨Zsm a.snd Aa p ho,a.rcv⟩
       have b:spV (atS c id).2.1 p=spS (atS c id).2.1 p:=Ac
       rw[b,Zfq h.str hx hK Ac,pA];simp_all[mpC]
 simp_all[if_neg,Zb4,Zm]
theorem Qbm(h:Q5 K c)(hK:K<=1000000)(id:Int)(p:Qe):QK c id p=O (cond (Zb4 c id p) (mpC c id p) c,Zb4 c id p,()):=by
 have j:=h.str.len;obtain⟨k,-,m⟩:=qt (l:=c.2.2.2.1) Aa id;unfold QK;simp only[Xr,Ke];rw[Wt h hK,pA,uC Aa,QD Aa,pA];unfold uK gG gK;simp only[Xr,Ke];rw[xv h hK,Zb2 h hK,pA];by_cases n:0<=Z8 c.2.2.2.1 id
 ·rw[Zm (p:=Z8 c.2.2.2.1 id<0),Zb (λ_=>Aa)];have b:=h.str.all _ (Z2 (d:=Zc) (show(Z8 c.2.2.2.1 id).toNat<c.2.2.2.1 by omega));have e:Zb4 c id p=((bP c&&(atS c id).2.2.2.2.2.2.1)&&((Zkv (atS c id).2.1 p&&Zpp (atS c id).2.2.1 (Zjq c id p))&&Zpp c.2.2.2.2.1 (Zjq c id p))):=by
   simp_all[Zb4]
  rw[e];simp only[K3];cases hc:bP c
  ·rfl
  ·cases hcs:(atS c id).2.2.2.2.2.2.1
   ·rfl
   ·simp only[pI,K2,pH,Z,pJ];rw[Zb,Qvz b.snd Aa,pA];unfold QL gK tO tP tT;simp only[Qcp,ucE,pA];have f:(cond (Zkv (atS c id).2.1 p) (spS (atS c id).2.1 p) (atS c id).2.1)=spV (atS c id).2.1 p:=rfl;have g:W.wrap ((spV (atS c id).2.1 p).2.2.2.2.2.2.2.1- (atS c id).2.1.2.2.2.2.2.2.2.1)=Zjq c id p:=rfl;rw[f,g,Wt h hK,pA];cases ho:Zkv (atS c id).2.1 p
    ·rfl
    ·cases hu:Zpp (atS c id).2.2.1 (Zjq c id p)
     ·rfl
     ·cases hv:Zpp c.2.2.2.2.1 (Zjq c id p)
      ·rfl
      ·simp only[pI,K2,pH,Z,pG];have a:spV (atS c id).2.1 p=spS (atS c id).2.1 p:=Ac
       have i:∀x:Zf,(c.2.2.2.1.set (Z8 c.2.2.2.1 id).toNat x).getD (Z8 c.2.2.2.1 id).toNat Zc=x:=λx=>by
        rw[Mt,List.getElem?_set_self Aa];rfl
       rw[a,i,Lu];rfl
 ·rw[Zl (p:=Z8 c.2.2.2.1 id<0)];simp_all[Zb4,Zm,Zb]
def mtB(c:Ky):Bool:=Zh5 c&&(c.2.2.1==c.1)
theorem mtE(c:Ky):yD c=O (mtB c,()):=by
 unfold yD;rw[Z2o];rfl
abbrev frK(k st lim:Int)(uni:Bool):Zj:=(k,st,(0:Int),([]:Ba),X,(0:Int),lim,(0:Int),uni,())
abbrev frR(s:Zf):Zj:=((4:Int),s.1,(0:Int),([]:Ba),X,s.2.1.2.2.2.2.2.2.2.2.1,(0:Int),s.2.1.2.2.2.2.2.2.2.1,X,())
abbrev frT(s:Zf):Zj:=((5:Int),s.1,(0:Int),([]:Ba),X,s.2.2.2.2.2.2.2.2.2.2.2.2.1,(0:Int),(0:Int),X,())
def lwW(c:Ze)(s:Zf):Ql:=cond (wcB s) (rwV s.2.2.2.2.1 (Znn c) (Zao c)) s.2.2.2.2.1
def lwT(c:Ze)(s:Zf):Bool:=wcB s&&(cond (mrB s.2.2.2.2.1) (Zva s.2.2.2.2.1 (Znn c) (Zao c)) s.2.2.2.2.2.2.2.2.2.2.1)
def sdB(s:Zf):Bool:=(mtB s.2.2.1&&s.2.2.2.2.2.2.1)&&U (s.2.1.2.2.1>(0:Int))
def sfL(c:Ze)(s:Zf):List Zj:=(cond s.2.2.2.2.2.2.2.2.1 [frR s] [])++(cond (s.2.2.2.2.2.2.2.2.2.1&&U (s.2.2.2.1.1<(2:Int))) [frT s] [])++(cond (lwT c s) [frK 17 s.1 (lwW c s).2.2.1 X] [])++(cond (sdB s) [frK 21 s.1 s.2.2.1.1 X] [])
theorem Zy3{a b:List Zj}(h:a+b.length<=1000000):a+b<=Qp:=Aj
theorem sfE(c:Ze)(s:Zf):qi c s=O (sfL c s,()):=by
 have b:∀o:List Zj,o.length<=10->nN s o=O (o++(cond (sdB s) [frK 21 s.1 s.2.2.1.1 X] []),()):=λo a=>by
  unfold nN;rw[mtE,pA];cases h:sdB s
  ·simp_all[sdB,Zp]
  ·unfold sdB at h;rw[Zn h,pG]
   grind[Zb,Zy3]
 have d:∀o:List Zj,o.length<=9->dV c s o=O (o++(cond (lwT c s) [frK 17 s.1 (lwW c s).2.2.1 X] [])++(cond (sdB s) [frK 21 s.1 s.2.2.1.1 X] []),()):=λo a=>by
  unfold dV;rw[lwE,pA];cases h:lwT c s
  ·unfold lwT at h
   grind
  ·unfold lwT at h;rw[Zn h,pG];simp only;rw[Zb (Zy3 Af),b _ Af];rfl
 have e:∀o:List Zj,o.length<=8->dU c s o=O (o++(cond (s.2.2.2.2.2.2.2.2.2.1&&U (s.2.2.2.1.1<(2:Int))) [frT s] [])++(cond (lwT c s) [frK 17 s.1 (lwW c s).2.2.1 X] [])++(cond (sdB s) [frK 21 s.1 s.2.2.1.1 X] []),()):=λo a=>by
  unfold dU;cases h:s.2.2.2.2.2.2.2.2.2.1&&U (s.2.2.2.1.1<(2:Int))
  ·grind
  ·rw[pG,pG];simp only;rw[Zb (Zy3 Af),d _ Af]
 unfold qi sfL;cases s.2.2.2.2.2.2.2.2.1
 ·simp_all
 ·rw[pG,pG];simp only;rw[Zb (Zy3 Ae),e _ Ae];rfl
theorem Qeq(c:Ze)(s:Zf):(sfL c s).length<=4:=by
 unfold sfL;cases s.2.2.2.2.2.2.2.2.1<;>cases s.2.2.2.2.2.2.2.2.2.1&&U (s.2.2.2.1.1<(2:Int))<;>cases lwT c s<;>cases sdB s<;>simp
def ttT(c:Ze):Bool:=cond (mrB c.2.2.2.2.2.1) (Zva c.2.2.2.2.2.1 (Znn c) (Zao c)) c.2.2.2.2.2.2.2.2.2.2.1
def alT(a:Qu)(t:Bool):Bool:=cond (maB a) (Z6v a) t
def cfH(c:Ze):List Zj:=(cond (ttT c) [frK 16 0 (rwV c.2.2.2.2.2.1 (Znn c) (Zao c)).2.2.1 X] [])++(cond (alT c.2.2.2.2.2.2.2.2.1 c.2.2.2.2.2.2.2.2.2.2.2.1) [frK 18 0 (raV c.2.2.2.2.2.2.2.2.1).2.1 X] [])++(cond (alT c.2.2.2.2.2.2.2.2.2.1 c.2.2.2.2.2.2.2.2.2.2.2.2.1) [frK 18 0 (raV c.2.2.2.2.2.2.2.2.2.1).2.1 P] [])
def cfT(c:Ze):List Zj:=(cond (mtB c.2.2.2.2.1) [frK 20 0 c.2.2.2.2.1.1 X] [])++(cond (c.2.2.2.2.2.2.1.2.2.1==c.2.2.2.2.2.2.1.1) [frK 22 0 c.2.2.2.2.2.2.1.1 X] [])++(cond (c.2.2.2.2.2.2.2.1.2.2.1==c.2.2.2.2.2.2.2.1.1) [frK 22 0 c.2.2.2.2.2.2.2.1.1 P] [])
def cfL(c:Ze):List Zj:=cond (bP c&& !(c.2.2.2.2.2.2.2.2.2.2.2.2.2.2.2.2.2.1 !=(0:Int))) (cfH c++c.2.2.2.1.flatMap (sfL c)++cfT c) []
theorem Qt3(h:Q5 K c)(hK:K<=100000:=by omega):fQ c=O (cfL c,()):=by
 have m:=h.str.len;unfold fQ cfL;rw[vj h,pA];cases hc:bP c&& !(c.2.2.2.2.2.2.2.2.2.2.2.2.2.2.2.2.2.1 !=(0:Int))
 ·rfl
 ·simp only[pI,pH,pG];have n:∀o:List Zj,o.length<=900005->fA c o=O (o++(cond (c.2.2.2.2.2.2.2.1.2.2.1==c.2.2.2.2.2.2.2.1.1) [frK 22 0 c.2.2.2.2.2.2.2.1.1 P] []),()):=λo a=>by
   unfold fA;cases c.2.2.2.2.2.2.2.1.2.2.1==c.2.2.2.2.2.2.2.1.1
   ·simp_all
   ·rw[pG,pG]
    grind[Zb,Zy3]
  have e:∀o:List Zj,o.length<=900004->fx c o=O (o++(cond (c.2.2.2.2.2.2.1.2.2.1==c.2.2.2.2.2.2.1.1) [frK 22 0 c.2.2.2.2.2.2.1.1 X] [])++(cond (c.2.2.2.2.2.2.2.1.2.2.1==c.2.2.2.2.2.2.2.1.1) [frK 22 0 c.2.2.2.2.2.2.2.1.1 P] []),()):=λo a=>by
   unfold fx;cases c.2.2.2.2.2.2.1.2.2.1==c.2.2.2.2.2.2.1.1
   ·grind
   ·rw[pG,pG]
    grind[Zb,Zy3]
  have f:∀(N i:Nat)(o:List Zj),c.2.2.2.1-i<N->i<=c.2.2.2.1->o<=4*i+3->ak N c o (i:Int)=O (o++(c.2.2.2.1.drop i).flatMap (sfL c)++cfT c,()):=by
   intro N
   induction N with
   |zero=>omega
   |succ N g=>
    intro i o p q a;unfold ak;by_cases b:i<c.2.2.2.1
    ·have hs:=Qeq c (c.2.2.2.1.getD i Zc);rw[Zn (Zl),Zb,show(i:Int).toNat=i from rfl,sfE,pA,Zb (Zy3 (by dsimp only;omega)),Zs b,g (i+1) _ Aa Aa Ag,Qy (d:=Zc) b,L2,Lz o]
    ·rw[Zp (Zm),Lh Aa,mtE,pA,List.flatMap_nil,Mq];unfold cfT;cases mtB c.2.2.2.2.1
     ·grind
     ·rw[pG,pG];simp only;rw[Zb (Zy3 Af),e _ Af];simp
  have j:∀o:List Zj,o.length<=3->ai c o=O (o++c.2.2.2.1.flatMap (sfL c)++cfT c,()):=λo a=>by
   unfold ai;have:=f (dI c o 0) 0 o (by simp[dI]) Aa Aa;simpa using this
  have k:∀o:List Zj,o.length<=2->ah c o=O (o++(cond (alT c.2.2.2.2.2.2.2.2.2.1 c.2.2.2.2.2.2.2.2.2.2.2.2.1) [frK 18 0 (raV c.2.2.2.2.2.2.2.2.2.1).2.1 P] [])++c.2.2.2.1.flatMap (sfL c)++cfT c,()):=λo a=>by
   unfold ah;rw[alE,pA];change (cond (alT _ _) _ _)=_;cases alT c.2.2.2.2.2.2.2.2.2.1 c.2.2.2.2.2.2.2.2.2.2.2.2.1
   ·grind
   ·rw[pG,pG];simp only;rw[Zb (Zy3 Af),j _ Af]
  have l:∀o:List Zj,o.length<=1->ag c o=O (o++(cond (alT c.2.2.2.2.2.2.2.2.1 c.2.2.2.2.2.2.2.2.2.2.2.1) [frK 18 0 (raV c.2.2.2.2.2.2.2.2.1).2.1 X] [])++(cond (alT c.2.2.2.2.2.2.2.2.2.1 c.2.2.2.2.2.2.2.2.2.2.2.2.1) [frK 18 0 (raV c.2.2.2.2.2.2.2.2.2.1).2.1 P] [])++c.2.2.2.1.flatMap (sfL c)++cfT c,()):=λo a=>by
   unfold ag;rw[alE,pA];change (cond (alT _ _) _ _)=_;cases alT c.2.2.2.2.2.2.2.2.1 c.2.2.2.2.2.2.2.2.2.2.2.1
   ·grind
   ·rw[pG,pG];simp only;rw[Zb (Zy3 Af),k _ Af]
  rw[ttE,pA];change (cond (ttT c) _ _)=_;unfold cfH;cases ttT c
  ·simp_all
  ·rw[pG,pG];simp only;rw[Zb (Zy3 Ae),l _ Ae];rfl
theorem Z8h(c:Ze):∀l:List Zf,(l.flatMap (sfL c))<=4*l.length
 |[]=>Ae
 |x::l=>by
  have:=Z8h c l
  grind[Qeq]
theorem Qc3(c:Ze):(cfL c)<=4*c.2.2.2.1.length+6:=by
 unfold cfL;cases bP c&& !(c.2.2.2.2.2.2.2.2.2.2.2.2.2.2.2.2.2.1 !=(0:Int))
 ·simp
 ·have a:(cfH c).length<=3:=by
   unfold cfH;cases ttT c<;>cases alT c.2.2.2.2.2.2.2.2.1 c.2.2.2.2.2.2.2.2.2.2.2.1<;>cases alT c.2.2.2.2.2.2.2.2.2.1 c.2.2.2.2.2.2.2.2.2.2.2.2.1<;>simp
  have b:(cfT c).length<=3:=by
   grind[cfT]
  have d:=Z8h c c.2.2.2.1
  grind
theorem Z5b(h:f∈cfL c):bP c=P/\(f∈cfH c\/(∃s∈c.2.2.2.1,f∈sfL c s)\/f∈cfT c):=by
 unfold cfL at h
 grind
theorem Zxn{b:Bool}{x:α}(h:x∈(cond b [y] [])):b=P/\x=y:=by
 grind
theorem Z66{s:Zf}(h:f∈sfL c s):(s.2.2.2.2.2.2.2.2.1=P/\f=frR s)\/(s.2.2.2.2.2.2.2.2.2.1=P/\f=frT s)\/(lwT c s=P/\f=frK 17 s.1 (lwW c s).2.2.1 X)\/(sdB s=P/\f=frK 21 s.1 s.2.2.1.1 X):=by
 unfold sfL at h;rcases Lj.1 h with h|h
 ·rcases Lj.1 h with h|h
  ·rcases Lj.1 h with h|h
   ·exact .inl (Zxn h)
   ·obtain⟨a,b⟩:=Zxn h;simp_all
  grind
 grind
theorem Qc4(h:f∈cfH c):f.1=16\/f.1=18:=by
 unfold cfH at h;rcases Lj.1 h with h|h
 ·grind
 grind
theorem Qc8(h:f∈cfT c):f.1=20\/f.1=22:=by
 unfold cfT at h;rcases Lj.1 h with h|h
 ·grind
 grind
theorem Qt1(h:Q5 K c)(hK:K<=1000000)(hf:f∈cfL c)(h17:f.1=17):∀s∈c.2.2.2.1,s.1=f.2.1->wcB s=true:=by
 obtain⟨b,hm⟩:=Z5b hf;have C:=(Zf3 h hK).1 b;rcases hm with hm|⟨s,hs,hm⟩|hm
 ·grind[Qc4]
 ·rcases Z66 hm with⟨-,e⟩|⟨-,e⟩|⟨i,e⟩|⟨-,e⟩
  ·simp_all
  ·simp_all
  ·intro d a g;have:d=s:=Zso (Z97.1 C.sts).srt a hs (by rw[g,e]);simp_all[lwT]
  simp_all
 grind[Qc8]
theorem Qhq(hf:f∈cfL c):f.2.2.2.1=[]:=by
 obtain⟨-,hm⟩:=Z5b hf;rcases hm with hm|⟨s,hs,hm⟩|hm
 ·unfold cfH at hm;rcases Lj.1 hm with h|h
  ·grind
  grind
 ·rcases Z66 hm with⟨-,e⟩|⟨-,e⟩|⟨-,e⟩|⟨-,e⟩<;>rw[e]
 ·unfold cfT at hm;rcases Lj.1 hm with h|h
  ·grind
  grind
theorem Z37(s:Zk)(id room limit:Int):∀m:Nat,m<=60->(pfL s id room limit m).1.2.1.length<=60
 |0,_=>Mk _
 |m+1,a=>by
  unfold pfL;split
  ·grind[Zle]
  ·exact Z37 s id room limit m Aa
theorem Zuz(c:Ze)(id room:Int):(pcR c id room).1.2.1.length<=60:=by
 unfold pcR;split
 ·unfold pfR;split
  ·grind[Z37]
  ·exact Mk _
 ·exact Mk _
abbrev qv(c:Ze):Int:=c.2.2.2.2.2.2.2.2.2.2.2.2.2.1
abbrev Zlr(c:Ze):Int:=c.2.2.2.2.2.2.2.2.2.2.2.2.2.2.1
def qy:Nat->Ze->List Zj->Int->List Int->List Zj×Ze|0,c,fr,_,_=>(fr,c)|n+1,c,fr,room,sk=>ite (iT (yN c sk) (qv c)<0) (fr,c) (cond (pcR c (iT (yN c sk) (qv c)) room).2.1 (cond (Zb4 c (iT (yN c sk) (qv c)) (pcR c (iT (yN c sk) (qv c)) room).1) (qy n (mpC c (iT (yN c sk) (qv c)) (pcR c (iT (yN c sk) (qv c)) room).1) (fr++[pfF (iT (yN c sk) (qv c)) (pcR c (iT (yN c sk) (qv c)) room).1]) (W.wrap (room-fsz (pfF (iT (yN c sk) (qv c)) (pcR c (iT (yN c sk) (qv c)) room).1))) sk) (fr,c)) (qy n (blC c (iT (yN c sk) (qv c))) fr room (sk++[iT (yN c sk) (qv c)])))
theorem Qle(h:Q5 K c)(sk:List Int):(yN c sk)<=K:=by
 unfold yN;have:=Ls (Zjs sk) (Z7m c);have:=Qae c;have:=h.str.len;omega
theorem Qgc(l:List Zo):l.filter (Zjs [])=l:=by
 rw[Ms];intro x _;rfl
theorem Qbx(l:List Zo)(i:Int)(sk:List Int):(l.filter (λx=>x.1 !=i)).filter (Zjs sk)=l.filter (Zjs (i::sk)):=by
 rw[List.filter_filter];congr 1
 grind[Zjs]
theorem Qo7{K:Nat}(hK:K<=90000):∀(n N i:Nat)(x:Ze)(fr:List Zj)(room:Int)(sk:List Int),i+n=200->n<N->Q5 K x->fr<=1000000+i->sk<=i->
  jp N x fr room sk (i:Int)=O (((qy n x fr room sk).1,()),(qy n x fr room sk).2,())
 |_,0,_,_,_,_,_,_,h,_,_,_=>Aa
 |0,N+1,i,x,fr,room,sk,p,q,hx,f,hs=>by
  unfold jp;rw[Zp (Zm)];rfl
 |n+1,N+1,i,x,fr,room,sk,p,q,hx,f,hs=>by
  have w:=hx.str.len;have a:i<200:=Aa
  unfold jp;rw[Zn (Zl),Qxl Aa,pA];have r:=λx fr room sk hx f hs=>Qo7 hK n N (i+1) x fr room sk Aa Aa hx f hs;have s:∀(M k:Nat)(l:List Zo),sk-k<M->k<=sk->l<=K->l.filter (Zjs (sk.drop k))=yN x sk->
    ti (λv=>jp N v.1 v.2.1 v.2.2.1 v.2.2.2.1 v.2.2.2.2.1) M x fr room sk (i:Int) l (k:Int)=O (((qy (n+1) x fr room sk).1,()),(qy (n+1) x fr room sk).2,()):=by
   intro M
   induction M with
   |zero=>omega
   |succ M g=>
    intro k l y hk j m;unfold ti gG;by_cases o:k<sk
    ·rw[Zn (Zl),Zb,show(k:Int).toNat=k from rfl,Qlg Aa,pA,Zs o];refine g (k+1) _ Aa Aa (Lq (Ls _ _) j) ?_;rw[Qbx,<-Qy (d:=0) o];exact m
    ·rw[Lh Aa,Qgc]at m;rw[Zp (Zm),m,Qgb _ _ Ag,pA];simp only[Xr,Ke];rw[qy];by_cases e:iT (yN x sk) (qv x)<0
     ·rw[Zn (Zl e),if_pos e]
     ·have b:=Zq4 (c:=x) Aa (sk:=sk) (last:=qv x);rw[Zp (Zm e),if_neg e];generalize iT (yN x sk) (qv x)=id at*
      rw[Qgj hx Aa,pA];have t:=Zuz x id room;cases hp:(pcR x id room).2.1
      ·obtain⟨u,z⟩:=Qal hx Aa b;rw[u,pA];simp only[Lk,pG,pH];rw[Zb Aj];unfold th;rw[Zs a]
       grind
      ·simp only[pI,pG,pH];rw[Qbn hx Aa,pA];unfold VX;cases hm:Zb4 x id (pcR x id room).1
       ·rfl
       ·simp only[pI,pG,pH,te,pA];rw[Zb Aj,Qkr As,pA];unfold th;rw[Zs a];exact r (mpC x id (pcR x id room).1) (fr++[pfF id (pcR x id room).1]) _ sk (Qbq hx Aa hm) Af Aa
  have A:=Qae x;exact s _ 0 (Z7m x) (by simp[xa]) Aa Aa (by rfl)
def stN(c:Ze):Prop:= ∀s∈c.2.2.2.1,0<=s.2.1.1
theorem Qeu(h:stN c){s:Zf}(hs:0<=s.2.1.1):∀x∈c.2.2.2.1.set i s,0<=x.2.1.1:=λx hx=>by
 rcases Mh hx with h1|h1
 ·exact h x h1
 simp_all
theorem Qss(h:stN c)(hl:c.2.2.2.1.length<=1000000)(hi:0<=Z8 c.2.2.2.1 id):stN (blC c id):=by
 have b:=(qt hl id).1;have a:=h _ (Z2 (d:=Zc) (show(Z8 c.2.2.2.1 id).toNat<c.2.2.2.1 by omega));exact Qeu h a
theorem Qst(h:stN c)(id:Int)(p:Qe):stN (mpC c id p):=Qeu h (Zlj _).1
theorem Qo6{K:Nat}(hK:K<=90000)(t:Ze):∀(n N i:Nat)(x:Ze)(fr:List Zj)(room:Int)(sk:List Int),i+n=200->n<N->Q5 K x->stN x->fr<=1000000+i->sk<=i->
  aE N t x fr sk room (i:Int)=cv t (qy n x fr room sk).2 (qy n x fr room sk).1
 |_,0,_,_,_,_,_,_,h,_,_,_,_=>Aa
 |0,N+1,i,x,fr,room,sk,j,k,hx,a,f,hs=>by
  unfold aE gG gK tO;rw[Zp (Zm)];rfl
 |n+1,N+1,i,x,fr,room,sk,j,k,hx,a,f,hs=>by
  have p:=hx.str.len;have d:i<200:=Aa
  have g:=λx fr room sk hx a f hs=>Qo6 hK t n N (i+1) x fr room sk Aa Aa hx a f hs;unfold aE gG gK tO;rw[Zn (Zl),Qxk Aa a Aa,pA,Qga (yN x sk) _ (by have:=Qle hx sk;omega),pA,qy];by_cases e:iT (yN x sk) (qv x)<0
  ·rw[Zn (Zl e),if_pos e]
  ·have b:=Zq4 (c:=x) Aa (sk:=sk) (last:=qv x);rw[Zp (Zm e),if_neg e];generalize iT (yN x sk) (qv x)=id at*
   rw[Qgi hx Aa,pA];have m:=Zuz x id room;have q:=(qt (l:=x.2.2.2.1) Aa id).1;cases hp:(pcR x id room).2.1
   ·obtain⟨r,o⟩:=Qal hx Aa b;simp only[Lk,pG,pH];rw[uC Aa,QD Aa,pA,Zb];simp only[Qu3,nbE,pA];rw[Zb Aj,Zs d];exact g (blC x id) _ _ _ o (Qss a Aa b) Aa Af
   ·simp only[pI,pG,pH];rw[Qbm hx Aa,pA];cases hm:Zb4 x id (pcR x id room).1
    ·rfl
    ·simp only[pI,pG,pH,mA,pA];rw[Zb Aj,Qkq As,pA,Zs d];exact g (mpC x id (pcR x id room).1) (fr++[pfF id (pcR x id room).1]) _ sk (Qbq hx Aa hm) (Qst a _ _) Af Aa
def mkV(c:Ze)(f:Zj):Ze:=cond (bP c) (mkC c f) c
theorem Qjp(hl:c.2.2.2.1.length<=1000000)(f:Zj):(mkC c f).2.2.2.1=c.2.2.2.1\/(0<=Z8 c.2.2.2.1 f.2.1/\(mkC c f).2.2.2.1=c.2.2.2.1.set (Z8 c.2.2.2.1 f.2.1).toNat (uA c (atS c f.2.1) f.1)):=by
 unfold mkC;cases f.1==(16:Int)<;>cases f.1==(18:Int)<;>cases f.1==(20:Int)<;>cases f.1==(22:Int)<;>cases f.2.2.2.2.2.2.2.2.1<;>first
  |exact .inl rfl
  |(simp only[pH];exact(Classical.em (0<=Z8 c.2.2.2.1 f.2.1)).elim (λa=>by rw[if_pos a];exact .inr ⟨a,rfl⟩) (λa=>by rw[if_neg a];exact .inl rfl))
theorem Quy(c:Ze)(f:Zj):(mkC c f).2.2.2.2.2.2.2.2.2.2.2.2.2=c.2.2.2.2.2.2.2.2.2.2.2.2.2:=by
 unfold mkC;cases f.1==(16:Int)<;>cases f.1==(18:Int)<;>cases f.1==(20:Int)<;>cases f.1==(22:Int)<;>cases f.2.2.2.2.2.2.2.2.1<;>first
  |rfl
  |(simp only[pH];split<;>rfl)
theorem Qjo(c:Ze)(f:Zj):(mkV c f).2.2.2.2.2.2.2.2.2.2.2.2.2=c.2.2.2.2.2.2.2.2.2.2.2.2.2:=by
 unfold mkV;cases bP c
 all_goals simp[Quy]
theorem Z6i(hl:c.2.2.2.1.length<=1000000)(f:Zj){x:Zf}(hx:x∈(mkV c f).2.2.2.1):∃s∈c.2.2.2.1,x.1=s.1/\x.2.1=s.2.1/\x.2.2.2.1=s.2.2.2.1/\wcB x=wcB s:=by
 unfold mkV at hx;cases hc:bP c
 ·grind
 ·rw[hc,pG]at hx;rcases Qjp hl f with e|⟨a,e⟩
  ·grind
  ·rw[e]at hx;rcases Mh hx with h1|h1
   ·grind
   ·have b:=(qt hl f.2.1).1;refine⟨atS c f.2.1,Z2 (d:=Zc),?_⟩;simp_all[Z5n,Zzi,Zzh,Ql1]
theorem Zx3(h:Q5 K c)(hK:K<=1000000)(f:Zj):Q5 K (mkV c f):=by
 have a:=h.str.len;refine⟨⟨?_,λx hx=>?_⟩,?_⟩
 ·unfold mkV;cases bP c
  ·exact a
  ·rcases Qjp (c:=c) Aa f with e|⟨-,e⟩
   all_goals simp_all
 ·obtain⟨s,hs,-,b,d,-⟩:=Z6i Aa f hx;have:=h.str.all s hs;exact⟨by rw[b];exact this.snd,by rw[d];exact this.rcv⟩
 ·rw[show(mkV c f).2.2.2.2.2.2.2.2.2.2.2.2.2.2.2.1=c.2.2.2.2.2.2.2.2.2.2.2.2.2.2.2.1 from congrArg (λz=>z.2.2.1) (Qjo c f)];exact h.pk
def ZR:List Zj->Ze->List Zj->Int->Ze×List Zj×Int|[],c,fr,room=>(c,fr,room)|f::r,c,fr,room=>ite (fsz f<=room) (ZR r (mkV c f) (fr++[f]) (W.wrap (room-fsz f))) (ZR r c fr room)
theorem Z5g{K:Nat}(hK:K<=1000000):∀(l:List Zj)(c:Ze)(fr:List Zj)(room:Int),Q5 K c->Q5 K (ZR l c fr room).1
 |[],_,_,_,h=>h
 |f::r,c,fr,room,h=>by
  unfold ZR;split
  ·exact Z5g hK r _ _ _ (Zx3 h hK f)
  ·exact Z5g hK r _ _ _ h
theorem Qat{K:Nat}(hK:K<=1000000):∀(l:List Zj)(c:Ze)(fr:List Zj)(room:Int),Q5 K c->stN c->stN (ZR l c fr room).1
 |[],_,_,_,_,h=>h
 |f::r,c,fr,room,h,hs=>by
  have b:=h.str.len;unfold ZR;split
  ·exact Qat hK r _ _ _ (Zx3 h hK f) λx hx=>by
    obtain⟨s,a,-,e,-,-⟩:=Z6i Aa f hx;rw[e];exact hs s a
  ·exact Qat hK r _ _ _ h hs
theorem Z5h:∀(l:List Zj)(c:Ze)(fr:List Zj)(room:Int),(ZR l c fr room).1.2.2.2.2.2.2.2.2.2.2.2.2.2=c.2.2.2.2.2.2.2.2.2.2.2.2.2
 |[],_,_,_=>rfl
 |f::r,c,fr,room=>by
  unfold ZR;split
  ·rw[Z5h r,Qjo]
  ·exact Z5h r _ _ _
theorem Zxs:∀(l:List Zj)(c:Ze)(fr:List Zj)(room:Int),(ZR l c fr room).2.1<=fr+l.length
 |[],_,_,_=>by simp[ZR]
 |f::r,c,fr,room=>by
  unfold ZR;split
  ·have:=Zxs r (mkV c f) (fr++[f]) (W.wrap (room-fsz f))
   grind
  ·have:=Zxs r c fr room
   grind
theorem Zxv:∀(n:Nat)(c:Ze)(fr:List Zj)(room:Int)(sk:List Int),(qy n c fr room sk).2.2.2.2.2.2.2.2.2.2.2.2.2.2.2=c.2.2.2.2.2.2.2.2.2.2.2.2.2.2
 |0,_,_,_,_=>rfl
 |n+1,c,fr,room,sk=>by
  unfold qy;split
  ·rfl
  ·generalize iT (yN c sk) (qv c)=id;cases (pcR c id room).2.1
   ·rw[pH,Zxv n];rfl
   ·rw[pG];cases Zb4 c id (pcR c id room).1
    ·rfl
    ·rw[pG,Zxv n];rfl
theorem Zzt:∀(n:Nat)(c:Ze)(fr:List Zj)(room:Int)(sk:List Int),(qy n c fr room sk).1<=fr+n
 |0,_,_,_,_=>by simp[qy]
 |n+1,c,fr,room,sk=>by
  unfold qy;split
  ·simp
  ·generalize iT (yN c sk) (qv c)=id;cases (pcR c id room).2.1
   ·rw[pH];have:=Zzt n (blC c id) fr room (sk++[id]);omega
   ·rw[pG];cases Zb4 c id (pcR c id room).1
    ·simp
    ·rw[pG];have:=Zzt n (mpC c id (pcR c id room).1) (fr++[pfF id (pcR c id room).1]) (W.wrap (room-fsz (pfF id (pcR c id room).1))) sk
     grind
theorem Zzs{K:Nat}(hK:K<=1000000):∀(n:Nat)(c:Ze)(fr:List Zj)(room:Int)(sk:List Int),Q5 K c->Q5 K (qy n c fr room sk).2
 |0,_,_,_,_,h=>h
 |n+1,c,fr,room,sk,h=>by
  have b:=h.str.len;unfold qy;split
  ·exact h
  ·rename_i d;have a:=Zq4 (c:=c) Aa (sk:=sk) (last:=qv c);generalize iT (yN c sk) (qv c)=id at*
   cases (pcR c id room).2.1
   ·rw[pH];exact Zzs hK n _ _ _ _ (Qal h hK a).2
   ·rw[pG];cases hm:Zb4 c id (pcR c id room).1
    ·exact h
    ·rw[pG];exact Zzs hK n _ _ _ _ (Qbq h hK hm)
theorem Zzr:∀(n:Nat)(c:Ze)(fr:List Zj)(room:Int)(sk:List Int),(∀f∈fr,FOK f)-> ∀f∈(qy n c fr room sk).1,FOK f
 |0,_,_,_,_,h=>h
 |n+1,c,fr,room,sk,h=>by
  unfold qy;split
  ·exact h
  ·generalize iT (yN c sk) (qv c)=id;cases (pcR c id room).2.1
   ·rw[pH];exact Zzr n _ _ _ _ h
   ·rw[pG];cases Zb4 c id (pcR c id room).1
    ·exact h
    ·rw[pG];refine Zzr n _ _ _ _ λf a=>?_
     grind[Zuz,FOK]
theorem Z5f:∀(l:List Zj)(c:Ze)(fr:List Zj)(room:Int),(∀f∈l,FOK f)->(∀f∈fr,FOK f)-> ∀f∈(ZR l c fr room).2.1,FOK f
 |[],_,_,_,_,h=>h
 |g::r,c,fr,room,b,h=>by
  unfold ZR;split
  ·refine Z5f r _ _ _ (λf a=>b f (L5 _ a)) λf a=>?_
   grind
  ·exact Z5f r _ _ _ (λf a=>b f (L5 _ a)) h
def csQ:Nat->Nat->List Int|0,_=>[]|m+1,n=>((n/256^m%256:Nat):Int)::csQ m n
theorem Z79:∀(m n:Nat),csQ (m+1) n=csQ m (n/256)++[((n%256:Nat):Int)]
 |0,n=>by simp[csQ]
 |m+1,n=>by
  rw[csQ,Z79 m n,csQ,My,Nat.pow_succ,Nat.mul_comm 256];rfl
theorem Qqk{n:Nat}(h:n<9223372036854775808):bits .and .i64 (n:Int) 255=((n%256:Nat):Int):=by
 have e:bits .and .i64 (n:Int) 255=W.wrap (((Ld 64 (n:Int)&&&Ld 64 255).toNat:Nat):Int):=rfl;have a:(Ld 64 (n:Int)).toNat=n:=Ag
 have b:(Ld 64 255).toNat=255:=rfl;rw[e,Ml,a,b,show(255:Nat)=2^8-1 from rfl,Mx,Zr]
theorem Qpi:∀k:Fin 64,(bits .or .i64 (k.val:Int) 64=(k.val:Int)+64/\bits .or .u8 (k.val:Int) 64=(k.val:Int)+64)/\(bits .or .i64 (k.val:Int) 128=(k.val:Int)+128/\bits .or .u8 (k.val:Int) 128=(k.val:Int)+128)/\bits .or .i64 (k.val:Int) 192=(k.val:Int)+192/\bits .or .u8 (k.val:Int) 192=(k.val:Int)+192:=Ai
theorem shQ(n:Nat)(h:n<9223372036854775808){m:Nat}(hm:m<=7):bits .and .i64 ((n:Int).fdiv (2^ (min (W.wrap ((8:Int)*(m:Int))).toNat W.bits))) 255=((n/256^m%256:Nat):Int):=by
 have e:min (W.wrap ((8:Int)*(m:Int))).toNat W.bits=8*m:=by
  rw[Zr,show W.bits=64 from rfl];omega
 have a:(n:Int).fdiv (2^ (8*m))=((n/256^m:Nat):Int):=by
  rw[Mp _ Ag,show(256:Nat)=2^8 from rfl,<-Nat.pow_mul]
  norm_cast
 rw[e,a,Qqk (Nat.lt_of_le_of_lt (Nat.div_le_self _ _) h)]
theorem Qor{n:Nat}(h:n<256):eJ (n:Int)=O (Xx [(n:Int)],()):=by
 grind[Qos,Zky]
theorem Qh9(n k:Nat)(h:n<9223372036854775808)(hk:k<=8):∀(N m:Nat)(s:Ba),m<N->m<k->s.length+m<=8->Qv N (n:Int) (k:Int) s ((m:Int)-1)=O (s++Xx (csQ m n),())
 |0,_,_,h,_,_=>Aa
 |N+1,0,s,_,_,hs=>by
  simp_all[Qv,csQ,Xx]
 |N+1,m+1,s,c,d,hs=>by
  unfold Qv;have a:((m+1:Nat):Int)-1=(m:Int):=Aa
  rw[a,Zn (Zl),Zb Ao];simp only[shQ n h (m:=m) Aa];have b:((m:Int)==W.wrap ((k:Int)-1))=false:=Ao
  rw[b,pH];unfold Y5;rw[Qor Aa,pA,Zb (by grind[Jv,Xx]),Zr];refine L9 (Qh9 n k h hk N m (s++Xx [((n/256^m%256:Nat):Int)]) Aa Aa (by grind[Xx])) ?_;rw[Lz];rfl
theorem Qth(n:Nat):Lc.wrap (n:Int)=((n%256:Nat):Int):=by
 rfl
theorem Qh7(k:Int):∀(m N n:Nat)(out:List Int),m<=out.length->out.length<=8->Kn (N+m) (n:Int) k out ((m:Int)-1)=Kn N ((n/256^m:Nat):Int) k (csQ m n++out.drop m) (-1)
 |0,N,n,out,_,_=>by simp[csQ]
 |m+1,N,n,out,e,a=>by
  rw[show N+(m+1)=(N+m)+1 from rfl,Kn];have b:((m+1:Nat):Int)-1=(m:Int):=Aa
  have c:(n:Int).fdiv (2^ (min (8:Int).toNat W.bits))=((n/256:Nat):Int):=by
   rw[Mp _ Ai];rfl
  rw[b,Zn (Zl),Zb,Zb,c,Zr,Qh7 k m N (n/256) _ Af (by simpa using a),Z79,My,Nat.pow_succ,Nat.mul_comm 256];have f:(out.set (m:Int).toNat (Lc.wrap (n:Int))).drop m=((n%256:Nat):Int)::out.drop (m+1):=by
   rw[Qy (d:=0) Af]
   grind[Qth,List.drop_set]
  simp_all
def prQ(k:Nat):Nat:=ite (k=2) 64 (ite (k=4) 128 (ite (k=8) 192 0))
def enQ(k n:Nat):Ba:=Xx (((n/256^ (k-1)+prQ k:Nat):Int)::csQ (k-1) n)
def KOk(k n:Nat):Prop:=(k=1/\n<64)\/(k=2/\n<16384)\/(k=4/\n<1073741824)\/(k=8/\n<4611686018427387904)
theorem Qp5{n:Nat}(h:KOk (k+1) n):n/256^k<64:=by
 rw[Nat.div_lt_iff_lt_mul (Nat.pos_of_ne_zero Ae)];rcases h with⟨e,h⟩|⟨e,h⟩|⟨e,h⟩|⟨e,h⟩<;>(have:k=_:=Mj e)<;>subst this<;>omega
theorem Quc{n:Nat}(h:KOk (k+1) n):Qv (k+2) (n:Int) ((k+1:Nat):Int) [] (k:Int)=O (enQ (k+1) n,()):=by
 have c:k<=7:=by rcases h with⟨e,h⟩|⟨e,h⟩|⟨e,h⟩|⟨e,h⟩<;>omega
 have a:n<9223372036854775808:=by rcases h with⟨e,h⟩|⟨e,h⟩|⟨e,h⟩|⟨e,h⟩<;>omega
 have d:=Qp5 h;have o:=Qpi ⟨n/256^k,d⟩;simp only at o;rw[Qv,Zn (Zl),Zb Ao];simp only[shQ n a c,Mz (show n/256^k<256 by omega)];have f:((k:Int)==W.wrap (((k+1:Nat):Int)-1))=true:=Ao
 rw[f,pG,o.1.1,o.2.1.1,o.2.2.1];have j:∀b:Nat,b<256->b=n/256^k+prQ (k+1)->Y5 (λv=>Qv (k+1) v.1 v.2.1 v.2.2.1 v.2.2.2.1) (n:Int) ((k+1:Nat):Int) [] (k:Int) (b:Int)=O (enQ (k+1) n,()):=λb g e=>by
  unfold Y5;rw[Qor g,pA,Zb (by simp[Jv,Xx]),Zr];refine L9 (Qh9 n (k+1) a Aa (k+1) k ([]++Xx [(b:Int)]) Aa Aa (by grind[Xx])) ?_;rw[e];rfl
 rcases h with⟨e,h⟩|⟨e,h⟩|⟨e,h⟩|⟨e,h⟩<;>(have:k=_:=Mj e)<;>subst this
 all_goals grind[prQ]
theorem Qwo{n:Nat}(h:KOk (k+1) n):Kn (k+2) (n:Int) ((k+1:Nat):Int) (L6 (k+1) 0) (k:Int)=O (enQ (k+1) n,()):=by
 have b:k<=7:=by rcases h with⟨e,h⟩|⟨e,h⟩|⟨e,h⟩|⟨e,h⟩<;>omega
 have a:=Qp5 h;have o:=Qpi ⟨n/256^k,a⟩;simp only at o;have e:=Qh7 ((k+1:Nat):Int) (k+1) 1 n (L6 (k+1) 0) Ae Af;rw[show 1+(k+1)=k+2 by omega,show((k+1:Nat):Int)-1=(k:Int) by omega,Lp Ae,Mq]at e;rw[e,Kn,Zp Ai];rw[csQ,Mz (show n/256^k<256 by omega)];unfold enQ cw;rw[show(0:Int).toNat=0 from rfl,Md,Mi,Mi,Mi,o.1.2,o.2.1.2,o.2.2.2];simp only[Zb (show(0:Int)<=0/\(0:Int)<((((n/256^k:Nat):Int)::csQ k n).length:Int) by simp)];rcases h with⟨e,h⟩|⟨e,h⟩|⟨e,h⟩|⟨e,h⟩<;>(have:k=_:=Mj e)<;>subst this<;>rfl
theorem Qvb(n:Int):Y7 n=Wr n:=by
 unfold Y7 Wr;rw[szI,szS,pA,pA];have a:∀(k:Nat)(m:Nat),n=(m:Int)->qsz n=((k+1:Nat):Int)->KOk (k+1) m->(Zh (0<=qsz n/\qsz n<=qsz n/\qsz n<=Qp) (Kn (cO n (qsz n) (L6 (qsz n).toNat (0:Int)) (W.wrap (qsz n- (1:Int)))) n (qsz n) (L6 (qsz n).toNat (0:Int)) (W.wrap (qsz n- (1:Int)))))=Qv (Vp n (qsz n) ([]:Ba) (W.wrap (qsz n- (1:Int)))) n (qsz n) ([]:Ba) (W.wrap (qsz n- (1:Int))):=λk m b c hk=>by
  have i:k<=7:=by rcases hk with⟨e,h⟩|⟨e,h⟩|⟨e,h⟩|⟨e,h⟩<;>omega
  rw[Zb Aj,c,Zr,b,show((k+1:Nat):Int)-1=(k:Int) by omega];unfold cO Vp;rw[show((k:Int)-0).toNat+2=k+2 by omega,Quc hk];exact Qwo hk
 by_cases h:0<=n/\n<=4611686018427387903
 ·obtain⟨m,rfl⟩:=Ll h.1;have:(qsz (m:Int)==0)=false:=by unfold qsz;grind
  rw[this,pH];by_cases d:m<64
  ·exact a 0 m rfl (by unfold qsz;grind) (.inl ⟨rfl,d⟩)
  ·by_cases f:m<16384
   ·exact a 1 m rfl (by unfold qsz;grind) (.inr (.inl ⟨rfl,f⟩))
   ·by_cases g:m<1073741824
    ·exact a 3 m rfl (by unfold qsz;grind) (.inr (.inr (.inl ⟨rfl,g⟩)))
    ·exact a 7 m rfl (by unfold qsz;grind) (.inr (.inr (.inr ⟨rfl,Aa⟩)))
 ·have:qsz n=0:=by unfold qsz;grind
  rw[this];rfl
def qV(n:Int):Ba:=match Wr n with|some (s,_)=>s|none=>[]
theorem qvS(n:Int):Wr n=O (qV n,())/\(qV n)=qsz n:=by
 obtain⟨⟨y,u⟩,e,a⟩:=enS n;simp_all[qV]
theorem qvI(n:Int):Y7 n=O (qV n,()):=by simp[Qvb,qvS]
theorem Qb5{k:Int}(h0:0<=k)(h1:k<64):Ya k=O (qV k,()):=by
 obtain⟨m,rfl⟩:=Ll h0;have h1:m<64:=Aa
 have e:=(qvS (m:Int)).1;unfold Wr at e;rw[szS,pA,Qpt Aa Aa]at e;have a:=Quc (k:=0) (n:=m) (.inl ⟨rfl,h1⟩);rw[show Vp (m:Int) 1 ([]:Ba) (W.wrap (1-1))=2 from rfl]at e;have b:=a.symm.trans e
 grind[Ya,Zky,enQ,prQ,csQ]
theorem Qsh(ha:a.length<=10000)(hb:b.length<=10000):a+b<=Jv:=Al
def qsV(l:List Int):Ba:=l.flatMap qV
theorem Zkm(n:Int):(qV n).length<=8:=by
 have:=(qvS n).2;have:=wi n;omega
theorem Qps(l:List Int)(hl:l.length<=1000)(hq:∀x∈l,fq x=P):∀(N i:Nat)(s:Ba),l-i<N->i<=l->s<=8*i->Vf N l s (i:Int)=O (s++qsV (l.drop i),())/\bw N s l l (i:Int)=O (s++qsV (l.drop i),())
 |0,_,_,h,_,_=>Aa
 |N+1,i,s,j,k,hs=>by
  unfold Vf gG bw;by_cases a:i<l
  ·have b:=hq _ (Z2 (d:=0) a);rw[Zn (Zl),Zn (Zl),Zb,Zb,show(i:Int).toNat=i from rfl,Qy (d:=0) a];generalize l.getD i 0=x at*
   have n:=Qei b;have hv:=Zkm x;have e:(qsz x==0)=false:=Af
   obtain⟨f,g⟩:=Qps l hl hq N (i+1) (s++qV x) Aa Aa Ag;have c:s+(qV x)<=Jv:=Qsh Aa Aa;rw[szS,pA,Zu0,pA,b,e,pH,pI,pH,Zb,qvI,(qvS x).1,pA,pA,Zb c,Zb c,Zs (m:=l),f,g];simp[qsV]
  simp_all[Zm,Lp,qsV]
theorem qsS{l:List Int}(hl:l.length<=1000)(hq:∀x∈l,fq x=P):X5 l=O (qsV l,())/\aZ l=O (qsV l,()):=by
 obtain⟨a,b⟩:=Qps l hl hq (l+1) 0 [] Aa Aa Ae;exact⟨a,b⟩
theorem Qap(h:a.length<=1000:=by omega)(h2:b.length<=1000:=by omega):a+b<=Jv:=Al
theorem Qnb(l:List Int):(qsV l)<=8*l.length:=by
 induction l with
 |nil=>simp[qsV]
 |cons x r a=>
  grind[Zkm,qsV]
theorem Qrd(h:FOK f):fJ f=Wx f:=by
 have w:=h;unfold FOK at w;unfold fJ Wx;rw[QW _,xL _,pA,pA];cases hf:Xa f
 ·rfl
 ·have F:=frF hf;have s:∀{n:Int},0<=n->n<64->fq n=true:=λa b=>Zja a;have d:∀(k:Int)(l:List Int),0<=k->k<64->l.length<=4->(∀x∈l,fq x=P)->(Y (Ya k) λt=>Y (aZ l) λq=>Zh (t.1+q.1<=Jv)<|some (t.1++q.1,()))=Y (X5 (k::l)) λt=>O (t.1,()):=λk l m o A y=>by
   have a:=Zkm k;have b:=Qnb l;have z:(qV k)+(qsV l)<=Jv:=Qap;rw[Qb5 m o,(qsS Aa y).2,(qsS (l:=k::l) Af Ac).1,pA,pA,pA,Zb z];rfl
  have c:∀(k n:Int),0<=k->k<64->fq n=P->(Y (Ya k) λt=>Y (Y7 n) λq=>Zh (t.1+q.1<=Jv)<|some (t.1++q.1,()))=Y (X5 [k,n]) λt=>O (t.1,()):=λk n m o p=>by
   rw[<-d k [n] m o Ae (by simpa using p),(qsS (l:=[n]) Ae (by simpa using p)).2,qvI];simp[qsV]
  simp only[pI,pH,Xr];rcases F.kind with e|e|e|e|e|e|e|e|e
  ·rw[e];exact d _ _ Ai Ai Ae (Zwr F.st F.code F.fin)
  ·rw[e];exact d _ _ Ai Ai Ae (Zwq F.st F.code)
  ·have u:=F.len;have v:fq f.2.2.2.1=true:=Zja;have j:∀k:Int,0<=k->k+4<64->(Y (Ya (cond (f.2.2.1 !=0) (k+4) k)) λg=>Y (Y7 f.2.1) λi=>Zh (g.1+i.1<=Jv)<|cond (f.2.2.1 !=(0:Int)) (Y (Y7 f.2.2.1) λr=>Zh ((g.1++i.1).length+r.1<=Jv)<|W5 f ((g.1++i.1)++r.1)) (W5 f (g.1++i.1)))=W8 f k:=λk m o=>by
    unfold W8 W5;have B:=Zkm k;have C:=Zkm (k+4);have D:=Zkm f.2.1;have E:=Zkm f.2.2.1;have G:=Zkm f.2.2.2.1
    rw[qvI,qvI,qvI];cases hz:f.2.2.1==0
    ·have p:(f.2.2.1 !=0)=true:=by simp[bne,hz]
     simp only[p,pG,pH];rw[Zr (n:=k+4),Qb5 Aa o,(qsS Ae (Qqi (s (n:=k+4) Aa o) F.st F.off v)).1];simp only[pA];rw[Zb (Qap),Zb (Qap Af),Zb (Qap Af),Zb (Qap Af),Zb (Qap (by simp[qsV];omega))];simp[qsV]
    ·have p:(f.2.2.1 !=0)=false:=by simp[bne,hz]
     simp only[p,pG,pH];rw[Qb5 m Aa,(qsS Ae (Zwr (s m Aa) F.st v)).1];simp only[pA]
     grind[Zb,Qap,qsV]
   rw[e];simp only[Lb,pH,pG];cases f.2.2.2.2.1
   ·rw[pH,<-j 10 Ai Ai];cases f.2.2.1 !=0<;>rfl
   ·rw[pG,show W.wrap ((10:Int)+1)=11 from rfl,<-j 11 Ai Ai];cases f.2.2.1 !=0<;>rfl
  ·rw[e];unfold Xv Xl;rw[e];exact c _ _ Ai Ai F.lim
  ·rw[e];unfold Xv Xl Kv Ka;rw[e,Xr];exact d 17 _ Ai Ai Ae (Zwq F.st F.lim)
  ·rw[e];unfold Xv Xl Kv Ka W9;rw[e];cases f.2.2.2.2.2.2.2.2.1
   ·exact c 18 _ Ai Ai F.lim
   ·exact c 19 _ Ai Ai F.lim
  ·rw[e];unfold Xv Xl;rw[e];exact c _ _ Ai Ai F.lim
  ·rw[e];unfold Xv Xl Kv Ka;rw[e,Xr];exact d 21 _ Ai Ai Ae (Zwq F.st F.lim)
  ·rw[e];unfold Xv Xl Kv Ka W9;rw[e];cases f.2.2.2.2.2.2.2.2.1
   ·exact c 22 _ Ai Ai F.lim
   ·exact c 23 _ Ai Ai F.lim
def Qgh(l:List Zj):Ba:=match cD l with|some (s,_)=>s|none=>[]
theorem Qu4{l:List Zj}(h:Zwn l):cD l=O (Qgh l,()):=by
 obtain⟨y,e,-⟩:=Qqy h;simp_all[Qgh]
theorem Z9h{l:List Zj}(h:Zwn l):∀(N i:Nat)(s:Ba),l-i<N->i<=l->400<s.length->s<=1100*(i+1)->Yy N l s (i:Int)=O ([],())
 |0,_,_,h,_,_,_=>Aa
 |N+1,i,s,b,c,hs,f=>by
  have g:=h.1;unfold Yy;by_cases a:i<l
  ·obtain⟨y,e,j⟩:=Zzn (h.2 _ (Z2 (d:=Qc) a));rw[Zn (Zl),Zb,show(i:Int).toNat=i from rfl,e,pA];cases y.1==[]
   ·rw[pH,Zb Al,Zs a];exact Z9h h N (i+1) _ Aa Aa Af Af
   ·rfl
  grind
theorem Qpj{l:List Zj}(h:Zwn l):∀(N i:Nat)(s:Ba),l-i<N->i<=l->s.length<=400->fh N s l l (i:Int)=Yy N l s (i:Int)
 |0,_,_,h,_,_=>Aa
 |N+1,i,s,g,j,hs=>by
  have k:=h.1;rw[fh,Yy];by_cases b:i<l
  ·have a:=h.2 _ (Z2 (d:=Qc) b);obtain⟨y,e,m⟩:=Qrg a;rw[Zn (Zl),Zn (Zl),Zb,Zb,show(i:Int).toNat=i from rfl,QW _ As,pA,Qrd a,e,pA,pA];cases hk:Xa (l.getD i Qc)
   ·simp_all[fsz]
   ·have n:=Z52 hk;have c:(y.1==[])=false:=Ag
    have o:y.1.length<=1100:=by
     obtain⟨z,p,q⟩:=Zzn a;simp_all
    rw[c,pI,pH,pH,Zb Al,Zb Al,Zs b];by_cases f:(s++y.1).length<=400
    ·rw[Zp (Zm),Qpj h N (i+1) _ Aa Aa f]
    ·rw[Zn (Zl),Z9h h N (i+1) _ Aa Aa Aa Af]
  grind
theorem Qw5{l:List Zj}(h:Zwn l):zG l=O (Qgh l,()):=by
 rw[<-Qu4 h];exact Qpj h _ 0 [] (by simp[dJ,lw]) Aa Ae
def emG(c:Ze)(b:Int):Bool:=((bP c&& !(c.2.2.2.2.2.2.2.2.2.2.2.2.2.2.2.2.2.1 !=(0:Int)))&&inB b 1 400)&& !U (Zlr c>=1000000)
def emX(c:Ze)(b:Int):Ze×List Zj×Int:=ZR (cfL c) c [] b
def emF(c:Ze)(b:Int):List Zj×Ze:=qy 200 (emX c b).1 (emX c b).2.1 (emX c b).2.2 []
abbrev Qqh(x:Ze)(n:Int)(fr:List Zj):Ze:=(x.1,x.2.1,x.2.2.1,x.2.2.2.1,x.2.2.2.2.1,x.2.2.2.2.2.1,x.2.2.2.2.2.2.1,x.2.2.2.2.2.2.2.1,x.2.2.2.2.2.2.2.2.1,x.2.2.2.2.2.2.2.2.2.1,x.2.2.2.2.2.2.2.2.2.2.1,x.2.2.2.2.2.2.2.2.2.2.2.1,x.2.2.2.2.2.2.2.2.2.2.2.2.1,x.2.2.2.2.2.2.2.2.2.2.2.2.2.1,n+1,x.2.2.2.2.2.2.2.2.2.2.2.2.2.2.2.1++[(n,fr,())],x.2.2.2.2.2.2.2.2.2.2.2.2.2.2.2.2)
def emN(c:Ze)(b:Int):Int:=cond (emG c b) (cond (((emF c b).1:Int)==0) (-1) (Zlr c)) (-1)
def emC(c:Ze)(b:Int):Ze:=cond (emG c b) (cond (((emF c b).1:Int)==0) (emF c b).2 (Qqh (emF c b).2 (Zlr c) (emF c b).1)) c
def emT(c:Ze)(b:Int):Ba:=cond (emG c b) (cond (((emF c b).1:Int)==0) [] (Qgh (emF c b).1)) []
theorem Z5r(h:Q5 K c)(hK:K<=1000000)(b:Int):Q5 K (emX c b).1:=Z5g hK _ _ _ _ h
theorem Z5q(h:Q5 K c)(hK:K<=1000000)(b:Int):Q5 K (emF c b).2:=Zzs hK _ _ _ _ _ (Z5r h hK b)
theorem Qdd(h:Q5 K c)(hK:K<=100000)(b:Int):(emX c b).2.1<=4*K+6:=by
 have:=Zxs (cfL c) c [] b;have:=Qc3 c;have:=h.str.len
 grind[emX]
theorem Ql3(c:Ze)(b:Int):∀f∈(emF c b).1,FOK f:=Zzr _ _ _ _ _ (Z5f _ _ _ _ (λf a=>by grind[FOK,Qhq]) (λf a=>by cases a))
theorem Qsx(hc:Zlo c):c.2.2.2.1.length<=24:=(Z97.1 hc.sts).len
theorem Zs7(h:Q5 K c)(hK:K<=1000000):(cfL c).length<=102:=by
 grind[Qc3,Qsx,Zf3,cfL]
theorem Ql4(h:Q5 K c)(hK:K<=1000000)(b:Int):(emF c b).1.length<=302:=by
 have a:=Zzt 200 (emX c b).1 (emX c b).2.1 (emX c b).2.2 [];have d:=Zxs (cfL c) c [] b;have e:=Zs7 h hK;unfold emF emX at*
 grind
theorem Qav(h:Q5 K c)(hK:K<=1000000)(b:Int):Zwn (emF c b).1:=⟨by grind[Ql4],Ql3 c b⟩
theorem Ql2(h:Q5 K c)(hK:K<=1000000)(b:Int):Q5 (K+1) (emC c b):=by
 unfold emC;have e:=Z5q h hK b;cases emG c b
 ·exact h.mono Aa
 ·rw[pG];cases ((emF c b).1:Int)==0
  ·rw[pH];refine⟨e.str.mono Aa,?_,λp hp=>?_⟩
   ·have:=e.pk.1;simp_all
   ·rcases Lj.1 hp with hp|hp
    ·exact e.pk.2 p hp
    grind[Qav]
  ·exact e.mono Aa
theorem Qh6(c:Ze)(b:Int):Zlr (emF c b).2=Zlr c:=by
 have a:=Zxv 200 (emX c b).1 (emX c b).2.1 (emX c b).2.2 [];have d:=Z5h (cfL c) c [] b;exact(congrArg (λz=>z.1) a).trans (congrArg (λz=>z.2.1) d)
theorem Qqu{K:Nat}(hK:K<=90000)(c0 t:Ze):∀(N:Nat)(l:List Zj)(i:Nat)(x:Ze)(fr:List Zj)(room:Int),l-i<N->i<=l->l.length<=500000->(∀f∈l,FOK f)->Q5 K x->fr<=i->
  Wi N c0 t x fr room l (i:Int)=Wi 1 c0 t (ZR (l.drop i) x fr room).1 (ZR (l.drop i) x fr room).2.1 (ZR (l.drop i) x fr room).2.2 l l
 |0,_,_,_,_,_,h,_,_,_,_,_=>Aa
 |N+1,l,i,x,fr,room,k,m,g,b,hx,j=>by
  by_cases c:i<l
  ·have e:=b _ (Z2 (d:=Qc) c);rw[Wi,Zn (Zl),Zb,show(i:Int).toNat=i from rfl,Qkr e,pA,Qy (d:=Qc) c,ZR];unfold rL;rw[Zs c];by_cases a:fsz (l.getD i Qc)<=room
   ·rw[Zn (Zl a),if_pos a,Zb,pA,Zb,mkE hx Aa,pA,Zb,Zb Aj];exact Qqu hK c0 t N l (i+1) (mkV x (l.getD i Qc)) (fr++[l.getD i Qc]) _ Aa Aa g b (Zx3 hx Aa _) Af
   ·rw[Zp (Zm a),if_neg a];exact Qqu hK c0 t N l (i+1) x fr room Aa Aa g b hx Aa
  simp_all[Lh,ZR,Wi,Zm]
theorem Qua(h:Q5 K c)(hK:K<=80000)(b:Int):zg c b=O ((emT c b,emN c b,emC c b,()),()):=by
 unfold zg gH;rw[Ji h,pA,vj h,pA];simp only[inQ,bO,bO2];have g:(((!(bP c&& !(c.2.2.2.2.2.2.2.2.2.2.2.2.2.2.2.2.2.1 !=(0:Int))))|| !inB b 1 400)||U (Zlr c>=1000000))= !emG c b:=by
  simp_all[emG]
 rw[g];unfold emN emC emT;cases hg:emG c b
 ·simp_all
 ·simp only[pI,pH,pG];have i:Zlo c:=(Zf3 h).1 Ac;have a:=i.num;rw[Qt3 h,pA];have d:=Qqu (K:=K) Aa c X9 (iX c X9 c [] b (cfL c) 0) (cfL c) 0 c [] b (by simp[iX]) Aa (by grind[Zs7]) (λf l=>by grind[FOK,Qhq]) h Ae;rw[Ma,Lo]at d;rw[d,Wi,Zp (Zm)];have j:=Z5r h Aa b;have k:=Qdd h Aa b;have e:Zah (emX c b).1 (emX c b).2.1 (emX c b).2.2=O (((emF c b).1,()),(emF c b).2,()):=by
   unfold Zah;exact Qo7 (K:=K) Aa 200 _ 0 _ _ _ _ Aa (by simp[w9]) j Aa Ae
  unfold emX at e;rw[e,pA];cases hz:(((emF c b).1:Int)==0)
  ·simp only[pH];have m:=(Z5q h Aa b).pk.1;rw[Zb Aj];rw[Qu4 (Qav h Aa b),pA]
   grind[Zr]
  simp_all
def okW(l:List Zj)(c:Ze):Prop:= ∀f∈l,f.1=17-> ∀s∈c.2.2.2.1,s.1=f.2.1->wcB s=P
theorem Qr3{l:List Zj}(h:okW l c)(hl:c.2.2.2.1.length<=1000000)(f:Zj):okW l (mkV c f):=λg b a x hx e=>by
 obtain⟨s,hs,i,-,-,d⟩:=Z6i hl f hx;rw[d];exact h g b a s hs Aa
theorem Qqt{K:Nat}(hK:K<=90000)(t:Ze)(sk:List Int):∀(N:Nat)(l:List Zj)(i:Nat)(x:Ze)(fr:List Zj)(room:Int),l-i<N->i<=l->l.length<=500000->(∀f∈l,FOK f)->okW l x->Q5 K x->fr<=i->
  V9 N t x fr sk room l l (i:Int)=V9 1 t (ZR (l.drop i) x fr room).1 (ZR (l.drop i) x fr room).2.1 sk (ZR (l.drop i) x fr room).2.2 l l l
 |0,_,_,_,_,_,h,_,_,_,_,_,_=>Aa
 |N+1,l,i,x,fr,room,n,o,j,c,e,hx,k=>by
  have m:=hx.str.len;by_cases a:i<l
  ·have g:=c _ (Z2 (d:=Qc) a);rw[V9,Zn (Zl),Zb,show(i:Int).toNat=i from rfl,Qkq g,pA,Qy (d:=Qc) a,ZR,Zs a];by_cases b:fsz (l.getD i Qc)<=room
   ·rw[Zn (Zl b),if_pos b,Zb Aj,Z6f hx Aa _ (e _ (Z2 (d:=Qc) a)),pA];exact Qqt hK t sk N l (i+1) (mkV x (l.getD i Qc)) (fr++[l.getD i Qc]) _ Aa Aa j c (Qr3 e Aa _) (Zx3 hx Aa _) Af
   ·rw[Zp (Zm b),if_neg b];exact Qqt hK t sk N l (i+1) x fr room Aa Aa j c e hx Aa
  simp_all[Lh,ZR,V9,Zm]
theorem Qoy(h:Q5 K c)(hK:K<=80000)(b:Int):ji c b=O ((emT c b,emN c b,emC c b,()),()):=by
 unfold ji gH;rw[Wt h,pA,zu h,vj h,pA];simp only[bN,bO,bO2];have m:(((!(bP c&& !(c.2.2.2.2.2.2.2.2.2.2.2.2.2.2.2.2.2.1 !=(0:Int))))|| !(U (b>=1)&&U (b<=400)))||(Zlr c==1000000))= !emG c b:=by
  unfold emG inB;by_cases o:bP c=P
  ·have:=((Zf3 h).1 o).num
   grind
  simp_all
 rw[m];unfold emN emC emT;cases hg:emG c b
 ·simp_all
 ·simp only[pI,pH,pG];have g:Zlo c:=(Zf3 h).1 Ac;have i:=g.num;rw[Zzc h Aa,Qt3 h,pA];have a:stN c:=λs hs=>(g.st h Aa hs).snd.st.1;have j:=Qqt (K:=K) Aa X9 [] (iO X9 c [] [] b (cfL c) (cfL c) 0) (cfL c) 0 c [] b (by simp[iO]) Aa (by grind[Zs7]) (λf k=>by grind[FOK,Qhq]) (λf k=>Qt1 h Aa k) h Ae;rw[Ma,Lo]at j;rw[j,V9,Zp (Zm)];have p:=Z5r h Aa b;have q:=Qdd h Aa b;have l:aE (iP X9 (emX c b).1 (emX c b).2.1 [] (emX c b).2.2 0) X9 (emX c b).1 (emX c b).2.1 [] (emX c b).2.2 0=cv X9 (emF c b).2 (emF c b).1:=Qo6 (K:=K) Aa X9 200 _ 0 _ _ _ _ Aa (by simp[iP]) p (Qat (K:=K) Aa _ _ _ _ h a) Aa Ae;unfold emX at l;rw[l];unfold cv;have d:=Qh6 c b;cases hz:(((emF c b).1:Int)==0)
  ·simp only[pH];have r:=(Z5q h Aa b).pk.1;rw[Zb Aj];rw[Qw5 (Qav h Aa b),pA];have e:(emF c b).2.2.2.2.2.2.2.2.2.2.2.2.2.2.2.1=c.2.2.2.2.2.2.2.2.2.2.2.2.2.2.1:=d;rw[e,Zr (n:=c.2.2.2.2.2.2.2.2.2.2.2.2.2.2.1+1),Zr,show c.2.2.2.2.2.2.2.2.2.2.2.2.2.2.1+1-1=c.2.2.2.2.2.2.2.2.2.2.2.2.2.2.1 by omega]
  simp_all
def pkF(n:Int):List Z6->Z6×Bool×Unit|[]=>(((0:Int),([]:List Zj),()),X,())|p::r=>ite (p.1=n) (p,P,()) (pkF n r)
theorem Qpl(h:Q5 K c)(hK:K<=1000000)(n:Int):yH c n=O (pkF n c.2.2.2.2.2.2.2.2.2.2.2.2.2.2.2.1):=by
 have f:=h.pk.1;have g:∀(t:Z6)(N i:Nat),c.2.2.2.2.2.2.2.2.2.2.2.2.2.2.2.1-i<N->i<=c.2.2.2.2.2.2.2.2.2.2.2.2.2.2.2.1->qc N n c t (i:Int)=O (pkF n (c.2.2.2.2.2.2.2.2.2.2.2.2.2.2.2.1.drop i)):=by
  intro t N
  induction N with
  |zero=>intro i h;omega
  |succ N b=>
   intro i j k;unfold qc gG gL;by_cases a:i<c.2.2.2.2.2.2.2.2.2.2.2.2.2.2.2.1
   ·have l:=(h.pk.2 _ (Z2 (d:=Q1) a)).1;rw[Zn (Zl),Zb,show(i:Int).toNat=i from rfl,Qy (d:=Q1) a,pkF];by_cases e:(c.2.2.2.2.2.2.2.2.2.2.2.2.2.2.2.1.getD i Q1).1=n
    ·rw[Zn (by simpa using e),if_pos e,Zb,Zb Aj,<-e,Lt]
    ·rw[Zp (beq_false_of_ne e),if_neg e,Zs a,b (i+1) Aa Aa]
   ·rw[Zp (Zm),Lh Aa];rfl
 grind[yH,uu]
theorem Z6q{l:List Z6}(h:Zyl K l)(n:Int):(pkF n l).1.2.1.length<=1000:=by
 obtain⟨-,h⟩:=h
 induction l with
 |nil=>simp[pkF]
 |cons p r a=>
  unfold pkF;split
  ·exact(h p Mf).1
  simp_all
theorem Qvq(l:List Int)(hl:l.length<=1048576):nE l l=O (P,()):=by
 have b:∀(N i:Nat),l.length-i<N->i<=l.length->cU N l l (l.length:Int) (i:Int)=O (P,()):=by
  intro N
  induction N with
  |zero=>intro i h;omega
  |succ N c=>
   intro i d e;unfold cU gG;by_cases a:i<l.length
   ·rw[Zn (Zl),Zb,Zb,bne_self_eq_false,pH,Zs a]
    grind
   grind
 unfold nE;rw[bne_self_eq_false,pH]
 grind[jk]
theorem Qvt(l:List Zi)(hl:l.length<=1048576):Je l l=O (P,()):=by
 have b:∀(N i:Nat),l.length-i<N->i<=l.length->Yj N l l (l.length:Int) (i:Int)=O (P,()):=by
  intro N
  induction N with
  |zero=>intro i h;omega
  |succ N c=>
   intro i d e;unfold Yj gG gI;by_cases a:i<l.length
   ·rw[Zn (Zl),Zb,Zb,bq rfl,pI,pH,Zs a]
    grind
   grind
 unfold Je;rw[bne_self_eq_false,pH]
 grind[K5]
theorem Qvn(l:List Qd)(hl:l.length<=1048576):Wd l l=O (P,()):=by
 have b:∀(N i:Nat),l.length-i<N->i<=l.length->Ki N l l (l.length:Int) (i:Int)=O (P,()):=by
  intro N
  induction N with
  |zero=>intro i h;omega
  |succ N c=>
   intro i d e;unfold Ki gG gJ;by_cases a:i<l.length
   ·rw[Zn (Zl),Zb,Zb,bq rfl,pI,pH,Zs a]
    grind
   grind
 unfold Wd;rw[bne_self_eq_false,pH]
 grind[We]
theorem Qvp(l:List Zj)(hl:l.length<=1048576):Wf l l=O (P,()):=by
 have b:∀(N i:Nat),l.length-i<N->i<=l.length->Kj N l l (l.length:Int) (i:Int)=O (P,()):=by
  intro N
  induction N with
  |zero=>intro i h;omega
  |succ N c=>
   intro i d e;unfold Kj gG gN;by_cases a:i<l.length
   ·rw[Zn (Zl),Zb,Zb,bq rfl,pI,pH,Zs a]
    grind
   grind
 unfold Wf;rw[bne_self_eq_false,pH]
 grind[Wg]
theorem Z65(l:List Zi)(hl:l.length<=1048576):Wu l l=O (P,()):=by
 simp_all[Wu,Qvt]
theorem Que(a:List Bool):eqV (.arr 7 .bool) a a=true:=by
 show eqL (λx y:Bool=>x==y) a a=P
 induction a with
 |nil=>rfl
 |cons b a c=>simp_all[eqL]
theorem Qvu{s:Zf}(h:Xc K s)(hK:K<=1000000):uI s s=O (P,()):=by
 have g:=h.snd;have a:=g.e0;have b:=g.eK;have d:=g.cells
 have hs:uH s.2.1 s.2.1=O (P,()):=by
  unfold uH VJ;simp only[beq_self_eq_true,pG,Qvq _ (show s.2.1.2.1.2.2.2.1.length<=1048576 by omega),Z,pA,Z65 _ (Lq (Qm g.pend a b (show(K:Int)<=1000000 by omega)) Aa),Z65 _ (Lq (Qm g.pT a b (show(K:Int)<=1000000 by omega)) Aa),Z65 _ (Lq (Qm g.pO a b (show(K:Int)<=1000000 by omega)) Aa)]
 have c:oz s.2.2.2.1 s.2.2.2.1=O (P,()):=by
  unfold oz QH;simp only[beq_self_eq_true,pG,Qvn _ (show s.2.2.2.1.2.1.2.1.length<=1048576 by have:=h.rcv.len;omega),Z,pA]
 unfold uI Zgf;simp only[beq_self_eq_true,pG,hs,c,Que,bq (T:=Qx) rfl,bq (T:=Yi) rfl,bq (T:=Yn) rfl,bq (T:=tyCredit) rfl,Z,pA]
theorem Qvv{l:List Zf}(h:mi K l)(hK:K<=1000000):Qo l l=O (P,()):=by
 have b:=h.1;have c:∀(N i:Nat),l.length-i<N->i<=l.length->Qa N l () l (l.length:Int) (i:Int)=O (P,()):=by
  intro N
  induction N with
  |zero=>intro i h;omega
  |succ N e=>
   intro i f g;unfold Qa gG gK;by_cases a:i<l.length
   ·rw[Zn (Zl),Zb,Zb,Qvu (h.all _ (Z2 (d:=Zc) (show(i:Int).toNat<l.length by omega))) hK,pA,pI,pH,Zs a]
    grind
   grind
 unfold Qo;rw[bne_self_eq_false,pH]
 grind[Q0]
theorem Qvs{p:Z6}(h:p.2.1.length<=1000):xt p p=O (P,()):=by
 unfold xt;simp only[beq_self_eq_true,pG,Qvp _ (show p.2.1.length<=1048576 by omega),Z,pA]
theorem Qvr{l:List Z6}(h:Zyl K l)(hK:K<=1000000):Qq l l=O (P,()):=by
 have b:=h.1;have c:∀(N i:Nat),l.length-i<N->i<=l.length->Qb N l () l (l.length:Int) (i:Int)=O (P,()):=by
  intro N
  induction N with
  |zero=>intro i h;omega
  |succ N e=>
   intro i f g;unfold Qb gG gL;by_cases a:i<l.length
   ·rw[Zn (Zl),Zb,Zb,Qvs (h.2 _ (Z2 (d:=Q1) (show(i:Int).toNat<l.length by omega))).1,pA,pI,pH,Zs a]
    grind
   grind
 unfold Qq;rw[bne_self_eq_false,pH]
 grind[Q3]
theorem Qvo(h:Q5 K c)(hK:K<=1000000):yQ c c=O (P,()):=by
 unfold yQ gH YV;simp only[beq_self_eq_true,bq (T:=Qx) rfl,bq (T:=Yi) rfl,bq (T:=ot) rfl,bq (T:=ci) rfl,Z,pI,K2,pH,Qvv h.str hK,Qvr h.pk hK,pA]
structure GC(K:Nat)(v:Bool)(c:Ze):Prop where
 inv:Q5 K c
 key:KC v c
 con:Zlo c
theorem Qxc(h:Q5 K c)(hK:K<=80000):ym c=O (bP c&&(Zix c !=(0:Int)),()):=by
 unfold ym ku;by_cases b:(bP c&&(Zix c !=(0:Int)))=P
 ·obtain⟨d,a⟩:=Bool.and_eq_true_iff.1 b;have e:ji c 400=O (([],-1,c,()),()):=by
   unfold ji gH;rw[Wt h,zu h,vj h,pA,pA,a,pI,Bool.and_false];rfl
  rw[e,pA,xv h,Zb2 h,pA,d];simp only[pG,pA];rw[a];simp only[Z,beq_self_eq_true,pG,Qvo h (show K<=1000000 by omega),pA]
 ·rw[Qoy h hK 400,pA,xv h,Zb2 h,pA]
  grind
theorem Qah(d:Ba)(r t:Q2)(n:Int):∀(N:Nat)(x:Q2)(i:Int),x.2.2.1=r.2.2.1->nf N d r t x n n i=J1 N d r t x n i
 |0,_,_,_=>rfl
 |N+1,x,i,h=>by
  rw[nf,J1,h];cases U (i<n)
  ·rfl
  ·simp only[pG];congr 1;congr 1;congr 1;exact Qah d r t n N _ _ rfl
theorem Z3m(r:Q2)(hl:r.2.2.2.1.length<=1048576):kw r=O (r,()):=by
 grind[kw,Zb,Qp]
theorem Qvg(r:Q2)(hl:r.2.2.2.1.length<=1048576):JO r=ZL r:=by
 simp_all[JO,ZL,Zx1]
theorem Qod(r:Q2)(d:Ba)(hl:r.2.2.2.1.length<=1048576):QT r d=iE r d:=by
 unfold QT iE;rw[Z3m r hl,Zn5 r hl,Qvg r hl];simp only[pA,Xr,Ke];congr 1;funext t;unfold uP;rw[Int.min_comm];exact Qah d r Zfw _ _ _ _ rfl
theorem Qkt(F:Qai s):0<=s.1:=by
 by_cases h:s.1=4\/s.1=5
 ·omega
 ·have:=(F.no h).st;simp_all[Zlj]
theorem Qlm(l:List Zi)(a:Int)(hl:l.length<=1048576):dv l (a,a,())=O (l,()):=by
 simp_all[YT,W7]
theorem Qtl{K:Int}(h:Jr K s)(d:Ba)(hK:K+d.length<=1000000):pe s d=df s d:=by
 have b:=h.e0;have f:=h.cells;have a:=h.eK;have i:=Qm h.pend b a;unfold pe df tO yr;rw[qw h,lI h,xy h,Zku h,Qod s.2.1 d Aa];simp only[pA];cases hb:Zae s
 ·rfl
 have F:=(Zsl h Aa).1 hb;have e:(!((P&&((s.1==(0:Int))||(s.1==(1:Int))))&&(s.2.2.2.2.2.1==(-1:Int))))=(((!P)||(U (s.1>(1:Int))))||(s.2.2.2.2.2.1 !=(-1:Int))):=by
  have:=Qkt F;rw[Lw];simp;omega
 rw[e];cases (((!P)||(U (s.1>(1:Int))))||(s.2.2.2.2.2.1 !=(-1:Int)))
 ·obtain⟨j,n,g,k,l,m⟩:=Zvh s.2.1 d Aa Aa b;simp only[pH,g,pA];rw[Zr (n:=s.2.1.2.2.1+(n:Int))];by_cases c:(n:Int)>0
  ·rw[Zn (Zl c),YT _ _,ia _ _];rfl
  ·obtain rfl:n=0:=Aa
   rw[Zp (Zm c)];simp only[Lo,Int.add_zero];rw[Qlm _ _ Aa];rfl
 ·rfl
theorem Z7n(h:Q5 K c)(id:Int)(d:Ba)(hK:K+d.length<=490000):xq c id d=kY c id d:=by
 have b:c.2.2.2.1.length<=1000000:=by have:=h.str.len;omega
 obtain⟨m,o,j⟩:=qt b id;unfold xq gA gG gK tD tT kY tD tT;rw[Wt h,Ji h,uC b,QD b,zu h,vj h,V8 h Aa];simp only[pA,Xr,Ke];generalize (bP c&& !(c.2.2.2.2.2.2.2.2.2.2.2.2.2.2.2.2.2.1 !=(0:Int)))=u;by_cases a:0<=Z8 c.2.2.2.1 id
 ·have f:0<=Z8 c.2.2.2.1 id/\Z8 c.2.2.2.1 id<c.2.2.2.1.length:=⟨a,Aa⟩
  rw[Zb (by intros;exact f),Zb (by intros;exact f),Zb f,if_pos a,Zm];have k:c.2.2.2.1.getD (Z8 c.2.2.2.1 id).toNat Zc∈c.2.2.2.1:=Z2;have hs:=h.str.all _ k;have g:=j a;generalize q:c.2.2.2.1.getD (Z8 c.2.2.2.1 id).toNat Zc=s at*
  simp only[pI,K3,Le,pJ];cases (!u|| !s.2.2.2.2.2.2.1)
  ·obtain⟨x,n,e,hx⟩:=Zwm hs.snd d;have l:0<=Z8 c.2.2.2.1 (s.1,x,s.2.2).1:=Ag
   have i:Xc (K+d.length) (s.1,x,s.2.2):=⟨hx.mono Aa,(hs.mono (K':=K+d.length) Aa).rcv⟩
   rw[pH,pH,Qtl hs.snd d Aa,e];simp only[pA];rw[Zfq (h.str.mono Aa) i Aa l,g];rfl
  ·rfl
 ·rw[Zl (p:=Z8 c.2.2.2.1 id<0),Zb Ae,Zb Ae,if_neg a];simp
def Xm{β:Type}(A:Ze->Int->Option ((Bool)×(Ze×Unit)))(x:Ze)(id:Int)(k:Ze->Option β):Option β:=Y (Z4 x.2.2.2.1 id) λt14=>Zh (0<=t14.1/\t14.1<x.2.2.2.1.length)<|Y (Vl x.1 id) λt13=>Y (cond (t13.1||uY (x.2.2.2.1.getD t14.1.toNat Zc)) (O (X,())) (J7 (x.2.2.2.1.getD t14.1.toNat Zc))) λt24=>cond ((t13.1||uY (x.2.2.2.1.getD t14.1.toNat Zc))||(!t24.1)) (k x) (Y (A (XU x (x.2.2.2.1.set t14.1.toNat (WN (x.2.2.2.1.getD t14.1.toNat Zc)))) id) λt33=>cond t33.1 (Y (A t33.2.1 id) λt36=>cond t36.1 (Y (Z0 t36.2.1.2.2.2.2.2.2.2.2.2.1) λt39=>k (t36.2.1.1,t36.2.1.2.1,t36.2.1.2.2.1,t36.2.1.2.2.2.1,t36.2.1.2.2.2.2.1,t36.2.1.2.2.2.2.2.1,t36.2.1.2.2.2.2.2.2.1,t36.2.1.2.2.2.2.2.2.2.1,t36.2.1.2.2.2.2.2.2.2.2.1,t39.1,t36.2.1.2.2.2.2.2.2.2.2.2.2)) (Y (Z0 t36.2.1.2.2.2.2.2.2.2.2.1) λt39=>k (t36.2.1.1,t36.2.1.2.1,t36.2.1.2.2.1,t36.2.1.2.2.2.1,t36.2.1.2.2.2.2.1,t36.2.1.2.2.2.2.2.1,t36.2.1.2.2.2.2.2.2.1,t36.2.1.2.2.2.2.2.2.2.1,t36.2.1.2.2.2.2.2.2.2.2.1,t39.1,t36.2.1.2.2.2.2.2.2.2.2.2.2))) (Y (A t33.2.1 id) λt36=>cond t36.1 (Y (Z0 t36.2.1.2.2.2.2.2.2.2.2.2.1) λt39=>k (t36.2.1.1,t36.2.1.2.1,t36.2.1.2.2.1,t36.2.1.2.2.2.1,t36.2.1.2.2.2.2.1,t36.2.1.2.2.2.2.2.1,t36.2.1.2.2.2.2.2.2.1,t36.2.1.2.2.2.2.2.2.2.1,t39.1,t36.2.1.2.2.2.2.2.2.2.2.2)) (Y (Z0 t36.2.1.2.2.2.2.2.2.2.2.1) λt39=>k (t36.2.1.1,t36.2.1.2.1,t36.2.1.2.2.1,t36.2.1.2.2.2.1,t36.2.1.2.2.2.2.1,t36.2.1.2.2.2.2.2.1,t36.2.1.2.2.2.2.2.2.1,t36.2.1.2.2.2.2.2.2.2.1,t39.1,t36.2.1.2.2.2.2.2.2.2.2.2))))
theorem Qqj(x:Ze)(n:Int):Z5 x n=O (cJ n,x,()):=by
 grind[Z5,Qgx,Z2d]
theorem Qlo(x:Ze)(n:Int):Xk x n=O (cJ n,x,()):=by
 grind[Xk,Qgx,Z2d]
theorem Qhc(x:Ze)(n:Int):cM x n=O (cJ n,x,()):=by
 grind[cM,Qgx,Z2d]
theorem Qkn{A:Ze->Int->Option ((Bool)×(Ze×Unit))}(hA:∀x n,A x n=O (cJ n,x,()))(h:mi K x.2.2.2.1)(hK:K<=500000)(hi:0<=Z8 x.2.2.2.1 id)(k:Ze->Option β):Xm A x id k=k (fin x id):=by
 have g:=h.len;obtain⟨i,-,f⟩:=qt (l:=x.2.2.2.1) Aa id;have hs:=h.all _ (Z2 (d:=Zc) (show(Z8 x.2.2.2.1 id).toNat<x.2.2.2.1.length by omega));have c:∀a,∃b,Z0 a=O (coV a,b,()):=λa=>by
  obtain⟨⟨y,b,u⟩,e,j⟩:=Qaq a
  grind[Qhu]
 unfold Xm fin;rw[uC Aa,QD Aa,pA];simp only;rw[Zb,Qm6,Z9g,pA,Qju hs];simp only[bO,bO2];have e:((eg x.1 id||uY (atV x id))|| !zJ (atV x id))= !ovB x.1 (atV x id):=by
  unfold ovB;rw[f hi];cases uY (atV x id)<;>cases eg x.1 id<;>cases zJ (atV x id)<;>rfl
 rw[e];cases ovB x.1 (atV x id)
 ·rfl
 ·rw[pI,pH,pG,hA,pA];obtain⟨m,o⟩:=c x.2.2.2.2.2.2.2.2.2.1;obtain⟨p,q⟩:=c x.2.2.2.2.2.2.2.2.1;unfold xH Xw;cases hu:cJ id
  ·grind
  grind
theorem Qwk{K:Int}(h:Jr K s)(hK:K<=1000000)(hb:Zae s=P):(!((P&&((s.1==(0:Int))||(s.1==(1:Int))))&&(s.2.2.2.2.2.1==(-1:Int))))=(((!P)||(U (s.1>(1:Int))))||(s.2.2.2.2.2.1 !=(-1:Int))):=by
 have:=(((Zsl h hK).1 hb).st).1;rw[Lw];simp;omega
theorem Qfg{K:Int}(h:Jr K s)(hK:K<=1000000):oV s=cY s:=by
 unfold oV cY yr;rw[qw h hK,lI h hK,xy h hK,Zku h hK];simp only[pA]
 grind[Qwk]
theorem Z2p(h:Q5 K c)(id:Int)(hK:K<=490000):uJ c id=iY c id:=by
 have b:c.2.2.2.1.length<=1000000:=by have:=h.str.len;omega
 obtain⟨l,m,i⟩:=qt b id;unfold uJ gC gG gK tD tT iY tD tT;rw[Wt h,Ji h,uC b,QD b,zu h,vj h,V8 h Aa];simp only[pA,Xr,Ke];generalize (bP c&& !(c.2.2.2.2.2.2.2.2.2.2.2.2.2.2.2.2.2.1 !=(0:Int)))=u;by_cases a:0<=Z8 c.2.2.2.1 id
 ·have d:0<=Z8 c.2.2.2.1 id/\Z8 c.2.2.2.1 id<c.2.2.2.1.length:=⟨a,Aa⟩
  rw[Zb (by intros;exact d),Zb (by intros;exact d),Zb d,if_pos a,Zm];have j:c.2.2.2.1.getD (Z8 c.2.2.2.1 id).toNat Zc∈c.2.2.2.1:=Z2;have hs:=h.str.all _ j;have f:=i a;generalize o:c.2.2.2.1.getD (Z8 c.2.2.2.1 id).toNat Zc=s at*
  simp only[pI,K3,Le,pJ];cases (!u|| !s.2.2.2.2.2.2.1)
  ·obtain⟨x,n,e,hx⟩:=Zvu hs.snd;have k:0<=Z8 c.2.2.2.1 (s.1,x,s.2.2).1:=Ag
   have g:Xc K (s.1,x,s.2.2):=⟨hx,hs.rcv⟩
   rw[pH,pH,Qfg hs.snd Aa,e];simp only[pA];rw[Zfq h.str g Aa k,f];rfl
  ·rfl
 ·rw[Zl (p:=Z8 c.2.2.2.1 id<0),Zb Ae,Zb Ae,if_neg a];simp
theorem Qgg(h:Q5 K c)(n:Int)(hK:K<=490000):KS c n=tx c n:=by
 unfold KS gH tK tx gH tK;rw[Wt h,Ji h,zu h,show Z1 n (1:Int) (1000:Int)=Z9 n (1:Int) (1000:Int)from rfl,pA,pA]
theorem Z6z(h:Q5 K c)(id n:Int)(hK:K<=490000):xo c id n=Y (kW c id n) λy=>O y.1:=by
 have g:c.2.2.2.1.length<=1000000:=by have:=h.str.len;omega
 obtain⟨q,r,l⟩:=qt g id;unfold xo gD gG gH gK tA tB tC tD tT kW tV;rw[Wt h,Ji h,uC g,QD g,zu h,vj h,V8 h Aa];simp only[pA,Xr,Ke];generalize (bP c&& !(c.2.2.2.2.2.2.2.2.2.2.2.2.2.2.2.2.2.1 !=(0:Int)))=u;by_cases a:0<=Z8 c.2.2.2.1 id
 ·have i:0<=Z8 c.2.2.2.1 id/\Z8 c.2.2.2.1 id<c.2.2.2.1.length:=⟨a,Aa⟩
  rw[Zb (by intros;exact i),Zb (by intros;exact i),Zb i,if_pos a,Zm];have k:(Z8 c.2.2.2.1 id).toNat<c.2.2.2.1.length:=Aa
  have m:c.2.2.2.1.getD (Z8 c.2.2.2.1 id).toNat Zc∈c.2.2.2.1:=Z2 k;have hs:=h.str.all _ m;have d:=l a;simp only[pI,K3,Le,pJ];cases (!u|| !(c.2.2.2.1.getD (Z8 c.2.2.2.1 id).toNat Zc).2.2.2.2.2.2.1)
  ·obtain⟨x,j,e,hx⟩:=ZH hs.snd n;have f:Xc K (yM (lL (atV c id) x)):=⟨hx,hs.rcv⟩
   rw[pH,pH,Zsf hs.snd Aa,e];simp only[pA];have o:0<=Z8 (c.2.2.2.1.set (Z8 c.2.2.2.1 id).toNat (yM (lL (atV c id) x))) id:=by
    rw[show Z8 (c.2.2.2.1.set (Z8 c.2.2.2.1 id).toNat (yM (lL (atV c id) x))) id=Z8 c.2.2.2.1 id from Zcs _ rfl];exact a
   have hk:=Qkn (β:=Ze×Bool×Unit) Qqj (x:=kL c id (yM (lL (atV c id) x))) (id:=id) (h.str.set f _) Aa o (λy=>cond (!j) (O (c,X,())) (O (y,P,())));have hv:Zh3 h f Aa (show(yM (lL (atV c id) x)).1=id from d) a=Zh3 h f Aa d a:=rfl;refine L9 (b:=Xm Z5 (kL c id (yM (lL (atV c id) x))) id (λy=>cond (!j) (O (c,X,())) (O (y,P,())))) ?_ ?_
   ·simp only[yk k,Lu];rfl
   ·rw[hk];cases j
    ·rfl
    ·have s:=Zh3 h f Aa (show(yM (lL (atV c id) x)).1=id from d) a
     grind
  ·rfl
 ·rw[Zl (p:=Z8 c.2.2.2.1 id<0),Zb Ae,Zb Ae,if_neg a];simp
theorem Z95(h:Q5 K c)(id n:Int)(hK:K<=490000):y6 c id n=mR c id n:=by
 have b:c.2.2.2.1.length<=1000000:=by have:=h.str.len;omega
 obtain⟨m,o,i⟩:=qt b id;unfold y6 gE gG gH gK tB tD tM tN mR gH tD;rw[Wt h,Ji h,uC b,QD b,zu h,vj h,V8 h Aa];simp only[pA,Xr,Ke,Zc1,Kh,bO,bO2];by_cases a:0<=Z8 c.2.2.2.1 id
 ·have d:0<=Z8 c.2.2.2.1 id/\Z8 c.2.2.2.1 id<c.2.2.2.1.length:=⟨a,Aa⟩
  rw[Zb (by intros;exact d),Zb (by intros;exact d),Zb d,if_pos a,Zm];have f:(Z8 c.2.2.2.1 id).toNat<c.2.2.2.1.length:=Aa
  have g:c.2.2.2.1.getD (Z8 c.2.2.2.1 id).toNat Zc∈c.2.2.2.1:=Z2 f;have hs:=h.str.all _ g;have e:=i a;cases hc:bP c
  ·rfl
  have F:=((Zf3 h).1 hc).st h Aa g;have j:0<=(c.2.2.2.1.getD (Z8 c.2.2.2.1 id).toNat Zc).2.2.2.1.1:=Qj7 hs.rcv Aa F.rcv;rw[Z7d j];simp only[yk f,Lu];generalize r:c.2.2.2.1.getD (Z8 c.2.2.2.1 id).toNat Zc=s at*
  have k:0<=Z8 c.2.2.2.1 (s.1,s.2.1,s.2.2.1,s.2.2.2.1,s.2.2.2.2.1,s.2.2.2.2.2.1,s.2.2.2.2.2.2.1,s.2.2.2.2.2.2.2.1,s.2.2.2.2.2.2.2.2.1,P,s.2.2.2.2.2.2.2.2.2.2.1,P,n,s.2.2.2.2.2.2.2.2.2.2.2.2.2).1:=Ag
  have l:=Zfq h.str (s:=(s.1,s.2.1,s.2.2.1,s.2.2.2.1,s.2.2.2.2.1,s.2.2.2.2.2.1,s.2.2.2.2.2.2.1,s.2.2.2.2.2.2.2.1,s.2.2.2.2.2.2.2.2.1,P,s.2.2.2.2.2.2.2.2.2.2.1,P,n,s.2.2.2.2.2.2.2.2.2.2.2.2.2)) ⟨hs.snd,hs.rcv⟩ Aa k;rw[l,e];generalize (c.2.2.2.2.2.2.2.2.2.2.2.2.2.2.2.2.2.1 !=(0:Int))=q;cases q<;>cases s.2.2.2.2.2.2.2.1<;>cases s.2.2.2.2.2.2.2.2.2.2.2.1<;>cases U (s.2.2.2.1.1>1)<;>cases aY n<;>rfl
 ·rw[Zl (p:=Z8 c.2.2.2.1 id<0),Zb Ae,Zb Ae,if_neg a];simp
theorem Qci{b:Zv}(h:bZ K b)(hK:K<=1000000)(m:Int):QS b m=Y (iD b m) λy=>O (y,()):=by
 have d:=h.len;have f:=h.tot;obtain⟨r,s,i⟩:=Zu5 h;unfold QS iD;rw[vf h hK,Zkq h hK,lK b,zL h hK];simp only[pA,Xr,Ke];unfold uN uO;by_cases j:min (Jq b) (max m 0)=0
 ·grind
 ·have e:min m (Jq b)=min (Jq b) (max m 0):=Aa
  rw[e];generalize t:min (Jq b) (max m 0)=n at*
  rw[Zp (Zm),Zp (by simp[j])];obtain⟨k,c,l,g,u⟩:=i Aa;obtain⟨o,p,v⟩:=zx Aa k;rw[Zr];obtain⟨z,w,_⟩:=b;simp only at g d f o p;subst g;simp only[K4]at d;simp only[mj]at f;simp only[show(0:Int).toNat=0 from rfl,Md,K4];rw[Zb,Zb,Zb,Zb];by_cases a:n=(c.2.1.length:Int)
  ·rw[Zn (by simp[a]),Zn (by simp[a]),Zb,Zb];simp only[show(1:Int).toNat=1 from rfl,List.drop_succ_cons,Ma];have q:bZ K ((z+n,(l.take (((l.length+1:Nat):Int).toNat-1)),()):Zv):=by
    rw[show((l.length+1:Nat):Int).toNat-1=l.length by omega,List.take_length];exact⟨Ag,Ag⟩
   rw[zL q hK];simp_all
  ·rw[Zp (by simp[a]),Zp (by simp[a]),Zb,Zb,Zb,Zb,Zb,Zb]
   grind[Zb]
theorem Qka{r:Zu}(h:bZ K r.2.1)(hK:K<=1000000)(m:Int):na r m=Vw r m:=by
 unfold na tT Vw;rw[Zdx h hK,Zc2 h hK,ZC h hK,Zkn h hK,Qci h hK];obtain⟨s,y,e,a,-⟩:=Zll h hK m;rw[e];rfl
theorem Qw6{r:Zu}(h:bZ K r.2.1)(hK:K<=1000000)(hb:Zxj r=P):r.1<=5:=by
 have e:=Zkn h hK;rw[hb]at e;unfold Yt gH at e;have a:=h.len;obtain⟨v,k⟩:=Qdf h hK;rw[lH _,lK _,k]at e;simp only[pA,Kh,J5]at e
 grind[Kr]
theorem Qsm{r:Zu}(h:bZ K r.2.1)(hK:K<=1000000)(h5:r.1<=5)(m:Int):
  ∃s y,Vw r m=O ((s,y,()),())/\bZ K y.2.1/\(y.1 !=4&&y.1 !=5)=U (y.1<4):=by
 obtain⟨s,y,e,k,-⟩:=Zsd h hK m;refine⟨s,y,e,k,?_⟩;have j:y.1=r.1\/y.1=3\/y.1=5:=by
  unfold Vw at e;obtain⟨d,b,a,-,-⟩:=Zll h hK m
  grind[Z0g,Zkn,de]
 grind
theorem Z9r(h:Q5 K c)(id n:Int)(hK:K<=490000):y5 c id n=mQ c id n:=by
 have i:c.2.2.2.1.length<=1000000:=by have:=h.str.len;omega
 obtain⟨w,A,t⟩:=qt i id;unfold y5 gB gG gH gK tA tB tC tD tG tQ mQ tD;rw[Wt h,Ji h,uC i,QD i,zu h,vj h,V8 h Aa];simp only[pA,Xr,Ke];by_cases d:0<=Z8 c.2.2.2.1 id
 ·have j:0<=Z8 c.2.2.2.1 id/\Z8 c.2.2.2.1 id<c.2.2.2.1.length:=⟨d,Aa⟩
  rw[Zb (by intros;exact j),Zb (by intros;exact j),Zb j,if_pos d,Zm];have k:(Z8 c.2.2.2.1 id).toNat<c.2.2.2.1.length:=Aa
  have l:c.2.2.2.1.getD (Z8 c.2.2.2.1 id).toNat Zc∈c.2.2.2.1:=Z2 k;have hs:=h.str.all _ l;have b:=t d;simp only[pI,K3,Le,pJ];cases hc:(bP c&& !(c.2.2.2.2.2.2.2.2.2.2.2.2.2.2.2.2.2.1 !=(0:Int)))
  ·rfl
  cases (c.2.2.2.1.getD (Z8 c.2.2.2.1 id).toNat Zc).2.2.2.2.2.2.2.1
  ·rfl
  have F:=((Zf3 h).1 Ag).st h Aa l;obtain⟨s,y,e,m,u⟩:=Qsm hs.rcv Aa (Qw6 hs.rcv Aa F.rcv) n;rw[Qka hs.rcv Aa,e];simp only[pA,yk k,Lu,u,pI,K3,pH];have o:∀(x:Ze)(a:Zf),x.2.2.2.1=c.2.2.2.1->Zyl K x.2.2.2.2.2.2.2.2.2.2.2.2.2.2.2.1->Xc K a->a.1=id->Xm Xk (kL x id a) id (λz=>O ((s,(a.2.2.2.1.1==(3:Int))||(a.2.2.2.1.1==(5:Int)),z,()),()))=fY X9 x a s a.2.2.2.1:=by
   intro x a hx v f q;have r:Q5 K x:=⟨by rw[hx];exact h.str,v⟩
   have g:0<=Z8 x.2.2.2.1 id:=by rw[hx];exact d
   unfold fY;rw[Zh3 r f Aa q g,Qkn Qlo (r.str.set f _) Aa _ _]
   ·rfl
   ·show 0<=Z8 (x.2.2.2.1.set (Z8 x.2.2.2.1 id).toNat a) id;rw[Zcs id (by rw[hx,q,b])];exact g
  cases U (y.1<4)
  ·exact o c (wm (c.2.2.2.1.getD (Z8 c.2.2.2.1 id).toNat Zc) y) rfl h.pk ⟨hs.snd,m⟩ b
  ·simp only[Qpu,Qkb,nL,pA,Qek,pG];exact o (re c (rdV c.2.2.2.2.2.1 (W.wrap (y.2.1.1- (c.2.2.2.1.getD (Z8 c.2.2.2.1 id).toNat Zc).2.2.2.2.1.2.2.2.2.1)))) (yA (wm (c.2.2.2.1.getD (Z8 c.2.2.2.1 id).toNat Zc) y) (rdV (c.2.2.2.1.getD (Z8 c.2.2.2.1 id).toNat Zc).2.2.2.2.1 (W.wrap (y.2.1.1- (c.2.2.2.1.getD (Z8 c.2.2.2.1 id).toNat Zc).2.2.2.2.1.2.2.2.2.1)))) rfl h.pk ⟨hs.snd,m⟩ b
 ·rw[Zl (p:=Z8 c.2.2.2.1 id<0),Zb Ae,Zb Ae,if_neg d];simp
theorem Z33(c:dn):yp c=yG c:=by
 grind[yp,yG,Z0c,Qfh,Zf2,Zr]
theorem Qm3(n:Int)(s u:Bool):Zcu n s u=ZK n s u:=by
 unfold Zcu ZK;rw[bN,Zcw];simp only[pA];cases hb:(U (n>=0)&&U (n<=1152921504606846975))
 ·rfl
 ·simp at hb;rw[Zb,show(min (2:Int).toNat W.bits)=2 from rfl,Int.mul_comm 4];cases s<;>cases u<;>simp(disch:=omega) only[jx,wx,pG,pH,pI,pA,Zr]<;>grind
theorem Z9f(h:Q5 K c)(u:Bool)(hK:K<=490000):yZ c u=mP c u:=by
 have j:∀x n b,mi K x.2.2.2.1->cy u c X9 x n b=Wl u c X9 x n b:=λx n b hx=>by
  unfold cy tD Wl tD;cases b
  ·rfl
  ·simp only[Qm3,Z0m,pI,pH];refine congrArg (Y _) (funext λt=>?_);obtain⟨b,e,hs⟩:=Z6j c.1 t.1 c.2.1 c.2.2.1;rw[e,pA,pA,Qva hx (hs.mono Aa),Z22 hx (hs.mono Aa)]
 unfold yZ tF tL mP;rw[Wt h,Ji h,zu h,vj h];simp only[pA];generalize ((!(bP c&&_))||_:Bool)=q;cases q
 ·cases u
  ·unfold fX tF tL;simp only[Jc,pH,pA,Z33];exact congrArg (Y _) (funext λt=>j _ _ _ h.str)
  ·unfold fX tF tL;simp only[Jc,pH,pG,pA,Z33];exact congrArg (Y _) (funext λt=>j _ _ _ h.str)
 ·rfl
theorem Z2a(x:UInt8)(l:Ba):La (x::l) 32=ite (La l 32=[]/\x=32) [] (x::La l 32):=by
 unfold La;rw[List.reverse_cons,List.dropWhile_append];by_cases h:(l.reverse.dropWhile (· ==32))=[]
 ·by_cases hx:x=32<;>simp[h,hx]
 ·simp[h]
theorem Qck(l:Ba)(x:UInt8):La (l++[x]) 32=ite (x=32) (La l 32) (l++[x]):=by
 unfold La;by_cases hx:x=32<;>simp[hx]
theorem Zg9(x:UInt8)(l:Ba):Lr (x::l) 32=ite (x=32) (Lr l 32) (x::l):=by
 unfold Lr;by_cases hx:x=32<;>simp[hx]
theorem Z7e:∀l:Ba,Ly l 32=La (Lr l 32) 32
 |[]=>rfl
 |x::l=>by
  have a:=Z7e l;unfold Ly at a⊢;rw[Zg9,Z2a];by_cases hx:x=32
  ·rw[if_pos hx,<-a];by_cases h:La l 32=[]
   all_goals simp_all[Zg9]
  simp_all[Zg9,Z2a]
theorem Qhl(x:UInt8):((x.toNat:Int)==32)=U (x=32):=by
 rw[Lw,beq_iff_eq,decide_eq_true_iff,<-UInt8.toNat_inj,show(32:UInt8).toNat=32 from rfl];omega
theorem Qcj:∀(N:Nat)(s:Ba),s.length<N->s.length<=1000000->jo N s=O (La s 32,())
 |0,_,h,_=>Aa
 |N+1,s,a,hs=>by
  unfold jo;rcases List.eq_nil_or_concat s with rfl|⟨l,x,rfl⟩
  ·simp[La,Zh]
  ·simp only[List.concat_eq_append]at*
   have b:(l++[x]).length=l.length+1:=Ae
   have e:W.wrap (((l++[x]).length:Int)-1)=(l.length:Int):=Ao
   have g:(l++[x]).getD (l.length:Int).toNat 0=x:=Ae
   simp only[e];rw[g,Zb,Zl,pJ,Qck,Qhl];by_cases hx:x=32
   ·rw[Zl hx,pG,Zb,if_pos hx,<-Qcj N l Aa Aa];simp
   simp_all
theorem Qlb:∀(N:Nat)(s:Ba),s.length<N->s.length<=1000000->eG N s=O (Ly s 32,())
 |0,_,h,_=>Aa
 |N+1,[],a,hs=>by
  simp_all[eG,Qcj,iF,Z7e,Lr,Zh]
 |N+1,x::s,a,hs=>by
  have b:(x::s).length=s.length+1:=rfl;unfold eG;rw[Zb,show(0:Int).toNat=0 from rfl,Md,Zl,pJ,Qhl,Z7e,Zg9];by_cases hx:x=32
  ·rw[Zl hx,pG,Zb,if_pos hx,<-Z7e,<-Qlb N s Aa Aa];simp
  simp_all[Qcj,iF]
theorem Qv9(s:Ba)(hs:s.length<=1000000):xM s=O (Ly s 32,()):=by
 simp_all[xM,nJ,Qlb]
theorem Qrw(p:Q7)(s:Ba)(hs:s.length<=100000):lz p s=aQ p s:=by
 have c:∀(l:List Ba),l.length<=100001->(∀x∈l,x.length<=100000)-> ∀(t:Q7)(N i:Nat)(b:Q7),i<=l.length->J8 N b t l (l.length:Int) (i:Int)=X6 N b t l (i:Int):=by
  intro l g hx t N
  induction N with
  |zero=>intros;rfl
  |succ N d=>
   intro i b k;unfold J8 gG tT X6;by_cases a:i<l.length
   ·have m:(l.getD i []).length<=100000:=hx _ (Z2 a);rw[Zn (Zl),Zn (Zl),Zb,Zb];simp only[Jk,Zs a,d (i+1) _ Aa,show(i:Int).toNat=i from rfl];rw[Qv9 _ Aa];unfold Zg7;rw[Zb Ag]
   grind
 have j:∀b t,ft s b t=Vb s b t:=λb t=>by
  unfold ft Vb;obtain⟨y,e,n,o⟩:=Qt5 s Aa 44;have f:=Qrp 44 s Aa;rw[show((44:UInt8).toNat:Int)=44 from rfl]at f;have:JF s [44]=O y:=by
   unfold JF;rw[Zb Af,Qku 44 _ _ (Nat.le_refl _)]
   grind
  rw[this,e];exact c y.1 Aa (λx h=>Ag) t _ 0 b Aa
 unfold lz aQ;rw[Zv3];simp only[j];rfl
theorem Qko(h:Q5 K c)(id:Int)(t:Ba)(ht:t.length<=100000)(hK:K<=490000):xp c id t=kX c id t:=by
 have b:c.2.2.2.1.length<=1000000:=by have:=h.str.len;omega
 obtain⟨k,l,f⟩:=qt b id;unfold xp gF gG gK tD tR kX tD tR;rw[Wt h,Ji h,uC b,QD b,zu h,vj h,V8 h Aa];simp only[pA,Xr,Ke,Qrw _ t ht];generalize (bP c&& !(c.2.2.2.2.2.2.2.2.2.2.2.2.2.2.2.2.2.1 !=(0:Int)))=u;by_cases a:0<=Z8 c.2.2.2.1 id
 ·have d:0<=Z8 c.2.2.2.1 id/\Z8 c.2.2.2.1 id<c.2.2.2.1.length:=⟨a,Aa⟩
  rw[Zb (by intros;exact d),Zb (by intros;exact d),Zb d,if_pos a,Zm];have g:(Z8 c.2.2.2.1 id).toNat<c.2.2.2.1.length:=Aa
  have i:c.2.2.2.1.getD (Z8 c.2.2.2.1 id).toNat Zc∈c.2.2.2.1:=Z2 g;have hs:=h.str.all _ i;have e:=f a;simp only[pI,K3,Le,pJ];cases (!u|| !(c.2.2.2.1.getD (Z8 c.2.2.2.1 id).toNat Zc).2.2.2.2.2.2.1)
  ·rw[pH,pH];refine congrArg (Y _) (funext λq=>?_);generalize c.2.2.2.1.getD (Z8 c.2.2.2.1 id).toNat Zc=s at*
   have j:0<=Z8 c.2.2.2.1 (s.1,s.2.1,s.2.2.1,s.2.2.2.1,s.2.2.2.2.1,q.1,s.2.2.2.2.2.2).1:=Ag
   rw[Zfq h.str (s:=(s.1,s.2.1,s.2.2.1,s.2.2.2.1,s.2.2.2.2.1,q.1,s.2.2.2.2.2.2)) ⟨hs.snd,hs.rcv⟩ Aa j,e];rfl
  ·rfl
 ·rw[Zl (p:=Z8 c.2.2.2.1 id<0),Zb Ae,Zb Ae,if_neg a];simp
theorem Qdc(r t:Q2)(n:Int):∀(N:Nat)(x:Q2)(i:Int),oW N n r t x i=bh N n r t x i
 |0,_,_=>rfl
 |N+1,x,i=>by
  rw[oW,bh];simp only[Qdc r t n N]
theorem Qfp(r:Q2)(n:Int)(hl:r.2.2.2.1.length<=1048576):yl r n=gw r n:=by
 unfold yl gH gw;rw[Z3m r hl,Zn5 r hl,Zx1 r hl];refine congrArg (Y _) (funext λa=>congrArg (Y _) (funext λb=>?_));rw[bN];simp only[bO,bO2,Qdc];cases b.1
 ·rfl
 ·by_cases c:n<r.2.1<;>by_cases d:n>r.2.2.1<;>simp[c,d,show(r.2.1<=n)= ¬n<r.2.1 by simp,show(n<=r.2.2.1)= ¬n>r.2.2.1 by simp]<;>rfl
theorem Qoi{K:Int}{x:Zk}(p:Qe)(t:Zk)(hx:Jr K x)(he:x.2.1=s.2.1)(h0:0<=x.2.2.2.2.2.2.1)(h3:x.2.2.2.2.2.2.1<=3)(hK:K<=1000000):iq P s p t x 3=Ww s p t x:=by
 have j:∀x:Zk,Jr K x->x.2.1=s.2.1->0<=x.2.2.2.2.2.2.1->x.2.2.2.2.2.2.1<=3->ir P t x=bf s t x:=λx hx he h0 h3=>by
  have c:=Qm hx.pO hx.e0 hx.eK hK;have b:=hx.cells;unfold ir bf;simp only[Xr,Ke,pG];rw[Z3p _ _,Zeo _ _,<-he];simp only[pA];rw[Qfp _ _ Aa];refine congrArg (Y _) (funext λa=>?_);simp_all[nk,kM,WR,Zg5]
 unfold iq tF Ww tF;rw[j x hx he h0 h3];cases p.2.2.1&&(s.2.2.2.2.2.2.1==(2:Int))
 ·rfl
 ·exact j _ {cells:=hx.cells,e0:=hx.e0,eK:=hx.eK,pend:=hx.pend,pT:=hx.pT,pO:=hx.pO} he Ae Ae
theorem Qoj{K:Int}{s:Zk}(p:Qe)(t:Zk)(hK:K<=1000000)(c:List Zi)(hcl:c.length<=1048576)(hc:∀y∈c,y.2.1<=s.2.1.2.2.1):∀(N i:Nat)(x:Zk),Jr K x->x.2.1=s.2.1->0<=x.2.2.2.2.2.2.1->x.2.2.2.2.2.2.1<=3->
  it N P s p t x 3 c (c.length:Int) (i:Int)=bg N s p t x c (i:Int)
 |0,_,_,_,_,_,_=>rfl
 |N+1,i,x,hx,a,b,f=>by
  have lf:=Qm hx.pT hx.e0 hx.eK hK;have j:=Qm hx.pO hx.e0 hx.eK hK;unfold it gG gI bg gG gI;by_cases h:i<c.length
  ·have g:=hc _ (Z2 (d:=Z3) h);have e:x.2.1.2.2.1=s.2.1.2.2.1:=by rw[a]
   rw[Zn (Zl),Zn (Zl),Zb,Zb,q9 _ _,Zg0 _ _,pA,pA,Zb,ia _ _,YT _ _,Zs h];exact Qoj p t hK c hcl hc N (i+1) _ (hx.lists (Zfz hx.pT) (vd hx.pO (by rw[e];exact g))) a b f
  ·rw[Zp (Zm),Zp (Zm)]
   grind[Qoi]
theorem Qji{x:Zk}(p:Qe)(t:Zk)(h0:0<=x.2.2.2.2.2.2.1)(h3:x.2.2.2.2.2.2.1<=3):io X s p t x 1=Vv s p t x:=by
 simp_all[io,Vv,ni,nj,bL,WR,Zg5]
theorem Qjj{K:Int}{s:Zk}(p:Qe)(t:Zk)(hK:K<=1000000)(c:List Zi)(hcl:c.length<=1048576)(hc:∀y∈c,y.2.1<=s.2.1.2.2.1):∀(N i:Nat)(x:Zk),Jr K x->x.2.1=s.2.1->0<=x.2.2.2.2.2.2.1->x.2.2.2.2.2.2.1<=3->
  ip N X s p t x 1 c (c.length:Int) (i:Int)=aw N s p t x c (i:Int)
 |0,_,_,_,_,_,_=>rfl
 |N+1,i,x,hx,a,b,f=>by
  have lf:=Qm hx.pT hx.e0 hx.eK hK;have j:=Qm hx.pend hx.e0 hx.eK hK;unfold ip gG gI aw gG gI;by_cases h:i<c.length
  ·have g:=hc _ (Z2 (d:=Z3) h);have e:x.2.1.2.2.1=s.2.1.2.2.1:=by rw[a]
   rw[Zn (Zl),Zn (Zl),Zb,Zb,q9 _ _,Zg0 _ _,pA,pA,Zb,ia _ _,YT _ _,Zs h];exact Qjj p t hK c hcl hc N (i+1) _ {cells:=hx.cells,e0:=hx.e0,eK:=hx.eK,pend:=vd hx.pend (by rw[e];exact g),pT:=Zfz hx.pT,pO:=hx.pO} a b f
  simp_all[Zm,Qji]
theorem z6(h:RL E l)(r:Zi):∀y∈JI l r,y.2.1<=E:=Zi1 h.2
theorem Qoo(m:Oa β):(Y m λt=>O (t.1,()))=m:=by cases m<;>rfl
theorem Qfb{K:Int}(h:Jr K s)(hK:K<=1000000)(p:Qe):Zd2 s p=gu s p:=by
 have c:=Qm h.pT h.e0 h.eK hK;unfold Zd2 XB gH gu gH bU;rw[pG,qw h hK,lI h hK,xy h hK,Zku h hK];simp only[pA,Qro h hK,Qi8,bO,bN];cases hb:Zae s
 ·rfl
 have F:=(Zsl h hK).1 hb;have a:=Qkt F;rw[Zl (p:=s.1>=0) a];by_cases b:s.1<=2
 ·rw[Zl b,Zm (p:=s.1>2)];cases Zgk s p
  ·rfl
  ·simp only[pG,pH,pI,Z,K2,pA,Lk,pJ,Lv];rw[Qoo];unfold v7 kr;rw[Qqs _ _,pA,pA,Qhv _ _,Qoi p _ h rfl F.fin.1 F.fin.2 hK];have d:=Zp9 s.2.2.2.1 (p.1,W.wrap (p.1+(p.2.1.length:Int)),());simp only[pA];have:=Qoj p Yw hK _ Aa (z6 h.pT (p.1,W.wrap (p.1+(p.2.1.length:Int)),())) (bS s p Yw s (JI s.2.2.2.1 (p.1,W.wrap (p.1+(p.2.1.length:Int)),())) 0) 0 s h rfl F.fin.1 F.fin.2;rw[show((0:Nat):Int)=0 from rfl]at this;rw[<-this];rfl
 grind
theorem Qbl{K:Int}(h:Jr K s)(hK:K<=1000000)(p:Qe):Zaz s p=dM s p:=by
 have c:=Qm h.pT h.e0 h.eK hK;unfold Zaz XA gH dM gH bU;rw[pH,qw h hK,lI h hK,xy h hK,Zku h hK];simp only[pA,Qro h hK,Qi8,bO,bN];cases hb:Zae s
 ·rfl
 have F:=(Zsl h hK).1 hb;have a:=Qkt F;rw[Zl (p:=s.1>=0) a];by_cases b:s.1<=2
 ·rw[Zl b,Zm (p:=s.1>2)];cases Zgk s p
  ·rfl
  ·simp only[pG,pH,pI,Z,K2,pA,Lk,pJ,Lv];rw[Qoo];unfold v6 kr;rw[Qqs _ _,pA,pA,Qhv _ _,Qji p _ F.fin.1 F.fin.2];have d:=Zp9 s.2.2.2.1 (p.1,W.wrap (p.1+(p.2.1.length:Int)),());simp only[pA];have:=Qjj p Yw hK _ Aa (z6 h.pT (p.1,W.wrap (p.1+(p.2.1.length:Int)),())) (bn s p Yw s (JI s.2.2.2.1 (p.1,W.wrap (p.1+(p.2.1.length:Int)),())) 0) 0 s h rfl F.fin.1 F.fin.2;rw[show((0:Nat):Int)=0 from rfl]at this;rw[<-this];rfl
 grind
abbrev Xu(c:Ze):List Z6:=c.2.2.2.2.2.2.2.2.2.2.2.2.2.2.2.1
abbrev YH(c:Ze)(l:List Z6):Ze:=(c.1,c.2.1,c.2.2.1,c.2.2.2.1,c.2.2.2.2.1,c.2.2.2.2.2.1,c.2.2.2.2.2.2.1,c.2.2.2.2.2.2.2.1,c.2.2.2.2.2.2.2.2.1,c.2.2.2.2.2.2.2.2.2.1,c.2.2.2.2.2.2.2.2.2.2.1,c.2.2.2.2.2.2.2.2.2.2.2.1,c.2.2.2.2.2.2.2.2.2.2.2.2.1,c.2.2.2.2.2.2.2.2.2.2.2.2.2.1,c.2.2.2.2.2.2.2.2.2.2.2.2.2.2.1,l,c.2.2.2.2.2.2.2.2.2.2.2.2.2.2.2.2)
def pkX(m:Int):List Z6->Option Nat|[]=>none|p::r=>ite (p.1=m) (O 0) ((pkX m r).map (· +1))
theorem Qpn{l:List Z6}(m:Int)(hl:l.length<=1000000):∀(N i:Nat),l.length-i<N->i<=l.length->Qw N l (m,()) (l.length:Int) (i:Int)=O (match pkX m (l.drop i)with|none=> -1|some p=>((i+p:Nat):Int),())
 |0,_,h,_=>Aa
 |N+1,i,b,c=>by
  unfold Qw gG gL;by_cases a:i<l.length
  ·rw[Zn (Zl),Zb,show(i:Int).toNat=i from rfl,Zs a,Qy (d:=Q1) a,Qpn m hl N (i+1) Aa Aa];show Y (O ((l.getD i Q1).1==m,())) _=_
   grind[pkX]
  ·rw[Zp (Zm),Lp Aa];rfl
theorem Qu7(m:Int)(hl:(Xu c).length<=1000000):ph c m=O (match pkX m (Xu c)with|none=> -1|some p=>(p:Int),()):=by
 unfold ph Yx;have:=Qpn m hl (Xb (Xu c) (m,()) ((Xu c).length:Int) 0) 0 (by simp[Xb]) Aa;simp_all
theorem Qj3(m:Int):∀{l:List Z6},pkF m l=match pkX m l with|none=>(((0:Int),([]:List Zj),()),X,())|some i=>(l.getD i Q1,P,())
 |[]=>rfl
 |p::r=>by
  unfold pkF pkX;rw[Qj3 m]
  grind
theorem Qb1{m:Int}:∀{l:List Z6}{i:Nat},pkX m l=O i->i<l.length
 |p::r,i,h=>by
  unfold pkX at h;split at h
  ·cases h;simp
  ·cases hr:pkX m r with
   |none=>simp_all
   |some q=>
    have:=Qb1 hr
    grind
theorem Qj0{n:Int}:∀{l:List Z6}{q:Int},pkB n (O q) l=P-> ∀p∈l,q<p.1
 |x::r,q,h,p,hp=>by
  simp only[pkB,pC,decide_eq_true_eq]at h;rcases L4.1 hp with e|hp
  ·simp_all
  ·have:=Qj0 h.2 p hp;omega
theorem Z08{n m:Int}:∀{l:List Z6}{o:Option Int}{i:Nat},pkB n o l=P->pkX m l=O i->l.filter (λp=>p.1 !=m)=l.take i++l.drop (i+1)
 |x::r,o,i,h,hx=>by
  simp only[pkB,pC]at h;unfold pkX at hx;by_cases e:x.1=m
  ·rw[if_pos e]at hx;cases hx;have:∀p∈r,(p.1 !=m)=true:=λp a=>by have:=Qj0 h.2 p a;simp;omega
   grind[Ms]
  ·rw[if_neg e]at hx;cases hr:pkX m r with
   |none=>simp_all
   |some q=>
    have:=Z08 h.2 hr
    grind
theorem Qox(h:Q5 K c)(hK:K<=1000000)(m:Int):YE c m=O ((),YH c ((Xu c).filter λp=>p.1 !=m),()):=by
 have e:(Xu c).length<=K:=h.pk.1;have f:c.2.2.2.2.2.2.2.2.2.2.2.2.2.2.2.1.length=(Xu c).length:=rfl;have g:∀(N i:Nat)(o:List Z6),(Xu c).length-i<N->i<=(Xu c).length->o.length<=i->mT N c m o (i:Int)=O ((),YH c (o++((Xu c).drop i).filter λp=>p.1 !=m),()):=by
  intro N
  induction N with
  |zero=>omega
  |succ N a=>
   intro i o j k l;unfold mT gG gL tH;by_cases b:i<(Xu c).length
   ·rw[Zn (Zl),Zb,Zb,Zb (by unfold Qp;simp;omega),show(i:Int).toNat=i from rfl,Qy (d:=Q1) b];simp only[zp,Zs b];rw[a (i+1) _ Aa Aa Af,a (i+1) _ Aa Aa Aa];rw[Mr];cases ((Xu c).getD i Q1).1 !=m
    all_goals simp_all
   simp_all[Zm,Lp]
 grind[xb,YE]
def JY(c:Ze)(m:Int):Bool:=(bP c&& !(c.2.2.2.2.2.2.2.2.2.2.2.2.2.2.2.2.2.1 !=(0:Int)))&&(pkF m (Xu c)).2.1
theorem Z9s(h:Q5 K c)(hK:K<=1000000)(m:Int):QZ c m=O (cond (JY c m) (YH c ((Xu c).filter λp=>p.1 !=m),(pkF m (Xu c)).1.2.1,P,()) (c,[],X,()),()):=by
 have b:(Xu c).length<=K:=h.pk.1;have d:c.2.2.2.2.2.2.2.2.2.2.2.2.2.2.2.1.length=(Xu c).length:=rfl;unfold QZ;simp only[Xr,Ke];rw[Wt h hK,Qu7 m Aa];simp only[pA];unfold y7 gG gL tH JY;rw[zu h hK,vj h hK,pA,Qj3];cases hx:pkX m (Xu c)with
 |none=>simp
 |some i=>
  have a:=Qb1 hx;simp only[Zm (p:=((i:Nat):Int)<0),K3,Lv];cases hc:(bP c&& !(c.2.2.2.2.2.2.2.2.2.2.2.2.2.2.2.2.2.1 !=(0:Int)))
  ·rfl
  ·rw[Zb,Zs a];unfold aK Qlz;rw[Zb,Z08 ((Zf3 h hK).1 Ac).pks hx];rfl
abbrev pcF(f:Zj):Qe:=(f.2.2.1,f.2.2.2.1,f.2.2.2.2.1,())
abbrev Qa4(s:Zf)(b:Bool):Zf:=(s.1,s.2.1,s.2.2.1,s.2.2.2.1,s.2.2.2.2.1,s.2.2.2.2.2.1,s.2.2.2.2.2.2.1,s.2.2.2.2.2.2.2.1,b,s.2.2.2.2.2.2.2.2.2)
abbrev Qfw(s:Zf)(b:Bool):Zf:=(s.1,s.2.1,s.2.2.1,s.2.2.2.1,s.2.2.2.2.1,s.2.2.2.2.2.1,s.2.2.2.2.2.2.1,s.2.2.2.2.2.2.2.1,s.2.2.2.2.2.2.2.2.1,b,s.2.2.2.2.2.2.2.2.2.2)
def Qwd(m:Oa Zk):Zk:=match m with|some (y,_)=>y|none=>Yw
def abV(f:Zj):Bool:=(((f.1==(4:Int))||(f.1==(5:Int)))||(f.1==(8:Int)))||((f.1==(17:Int))||(f.1==(21:Int)))
def arB(s:Zk):Bool:=Zae s&&(s.1==4)
theorem arS{K:Int}(h:Jr K s)(hK:K<=1000000:=by omega):tv s=O (cond (arB s) (5,s.2) s,arB s,()):=by
 grind[tv,arB,lI,Zku]
theorem arI{K:Int}(h:Jr K s)(hK:K<=1000000):KR s=tv s:=by
 grind[KR,tv,lI,qw,xy]
def zw(s:Zf)(f:Zj):Zf:=cond (f.1==8) (lL s (Qwd (gu s.2.1 (pcF f)))) (cond (f.1==4) (cond (arB s.2.1) (Qa4 (lL s (5,s.2.1.2)) X) s) (cond (f.1==5) (Qfw s X) s))
theorem Zpw{s:Zf}(h:Xc K s)(hK:K<=1000000)(f:Zj):Xc K (zw s f):=by
 unfold zw;obtain⟨x,e,hx⟩:=Zpv h.snd (pcF f);rw[e];cases f.1==8
 ·cases f.1==4
  ·cases f.1==5
   ·exact h
   ·exact⟨h.snd,h.rcv⟩
  ·cases arB s.2.1
   ·exact h
   ·exact⟨{cells:=h.snd.cells,e0:=h.snd.e0,eK:=h.snd.eK,pend:=h.snd.pend,pT:=h.snd.pT,pO:=h.snd.pO},h.rcv⟩
 ·exact⟨hx,h.rcv⟩
theorem Z40(s:Zf)(f:Zj):(zw s f).1=s.1:=by
 unfold zw;cases f.1==8<;>cases f.1==4<;>cases f.1==5<;>cases arB s.2.1<;>rfl
def Zwp(x:Ze)(f:Zj):Ze:=cond (abV f&&U (0<=Z8 x.2.2.2.1 f.2.1)) (fin (kL x f.2.1 (zw (atV x f.2.1) f)) f.2.1) x
theorem Qg5(f:Zj):Wk f=O (abV f,()):=by rw[<-Qg6];exact Zym f
theorem Z9w{l:List α}{d:α}:l.set i (l.getD i d)=l:=by
 by_cases h:i<l
 all_goals simp_all[List.set_eq_of_length_le]
theorem Qts(h:Q5 K x)(hK:K<=490000)(f:Zj):Zdq x f=O ((),Zwp x f,()):=by
 have g:=h.str.len;obtain⟨i,j,k⟩:=qt (l:=x.2.2.2.1) Aa f.2.1;unfold Zdq Zbx gH tB tT tV Zwp;rw[V8 h Aa,Xr,pA];simp only[Qg5,bO,bO2];by_cases a:0<=Z8 x.2.2.2.1 f.2.1
 ·rw[if_pos a,Zl a];have d:atV x f.2.1∈x.2.2.2.1:=Z2;have hs:=h.str.all _ d;have b:∀c,c=zw (atV x f.2.1) f->iH x c=O ((),fin (kL x f.2.1 (zw (atV x f.2.1) f)) f.2.1,()):=λc e=>by
   unfold iH;rw[e,Zh3 h (Zpw hs Aa f) Aa (by grind[Z40]) a];rfl
  cases abV f
  ·rfl
  ·simp only[pI,K2,Z,pH,pG];obtain⟨y,e,m⟩:=Zpv hs.snd (pcF f);rw[arS hs.snd,show yK f=O (pcF f,())from rfl,pA,e];cases h8:f.1==8
   ·cases h4:f.1==4
    ·cases h5:f.1==5
     ·exact b _ (by unfold zw;rw[h8,h4,h5];rfl)
     ·exact b _ (by unfold zw;rw[h8,h4,h5];rfl)
    ·cases hb:arB (atV x f.2.1).2.1
     ·exact b _ (by unfold zw;rw[h8,h4,hb];rfl)
     ·exact b _ (by unfold zw;rw[h8,h4,hb];rfl)
   ·exact b _ (by unfold zw;rw[h8,e];rfl)
 ·rw[if_neg a,Zm a];simp
theorem Qmd(h:Q5 K x)(hK:K<=490000)(hi:0<=Z8 x.2.2.2.1 id):Q5 K (fin x id):=by
 have a:=h.str.len;obtain⟨b,c,e⟩:=qt (l:=x.2.2.2.1) Aa id;have hs:=h.str.all _ (Z2 (d:=Zc) (show(Z8 x.2.2.2.1 id).toNat<x.2.2.2.1 by omega));refine⟨?_,?_⟩
 ·rw[Qme];cases ovB x.1 (atV x id)
  ·exact h.str
  ·exact h.str.set (s:=WN (atV x id)) ⟨hs.snd,hs.rcv⟩ _
 ·unfold fin xH;cases ovB x.1 (atV x id)
  ·exact h.pk
  ·cases cJ id<;>exact h.pk
theorem Z9u{s:Zf}(hi:0<=Z8 x.2.2.2.1 id)(hl:x.2.2.2.1.length<=1000000)(h:s.1=(atV x id).1):0<=Z8 (kL x id s).2.2.2.1 id:=by
 grind[Zcs]
theorem Z7o(h:Q5 K x)(hK:K<=490000)(f:Zj):Q5 K (Zwp x f):=by
 have c:=h.str.len;unfold Zwp;by_cases a:0<=Z8 x.2.2.2.1 f.2.1
 ·obtain⟨e,g,i⟩:=qt (l:=x.2.2.2.1) Aa f.2.1;rw[Zl a];cases abV f
  ·exact h
  ·have hs:=h.str.all _ (Z2 (d:=Zc) (show(Z8 x.2.2.2.1 f.2.1).toNat<x.2.2.2.1 by omega));have b:=Zpw hs Aa f;exact Qmd (x:=kL x f.2.1 (zw (atV x f.2.1) f)) ⟨h.str.set b _,h.pk⟩ hK (Z9u a Aa (Z40 _ f))
 grind
theorem Qg7{K:Nat}(hK:K<=490000)(t:Ze)(fs:List Zj)(hf:fs.length<=1000000):∀(N i:Nat)(x:Ze),Q5 K x->fs-i<N->i<=fs->Yl N t x fs fs (i:Int)=O (((fs.drop i).foldl Zwp x,P,()),())
 |0,_,_,_,h,_=>Aa
 |N+1,i,x,h,s,u=>by
  have w:=h.str.len;rw[Yl];by_cases j:i<fs
  ·rw[Zn (Zl),Zb,show(i:Int).toNat=i from rfl,Zs j,Qy (d:=Qc) j,L3,<-Qg7 hK t fs hf N (i+1) _ (Z7o h hK _) Aa Aa];generalize fs.getD i Qc=f;obtain⟨A,B,o⟩:=qt (l:=x.2.2.2.1) Aa f.2.1;rw[uC Aa,QD Aa,pA];simp only[Zym,pA];unfold Zwp abV;cases (((f.1==(4:Int))||(f.1==(5:Int)))||(f.1==(8:Int)))||((f.1==(17:Int))||(f.1==(21:Int)))
   ·rfl
   by_cases c:0<=Z8 x.2.2.2.1 f.2.1
   ·have n:(Z8 x.2.2.2.1 f.2.1).toNat<x.2.2.2.1:=Aa
    rw[Zl c,Zm (p:=Z8 x.2.2.2.1 f.2.1<0),pI,K3,pH,Z,pG,Zb];have hs:=h.str.all _ (Z2 (d:=Zc) n);have q:=o c;have a:∀(k:(Ze×Ze×List Zj×Int×Int×Unit)->Oa (Ze×Bool×Unit))(m:Zf),m=zw (atV x f.2.1) f->bE k t (kL x f.2.1 m) f fs fs (i:Int)=k (t,fin (kL x f.2.1 (zw (atV x f.2.1) f)) f.2.1,fs,fs,((i+1:Nat):Int),()):=λk m e=>by
     have r:=Zpw hs Aa f;have:=Qkn (β:=(Ze×Bool×Unit)×Unit) Qhc (x:=kL x f.2.1 (zw (atV x f.2.1) f)) (id:=f.2.1) (h.str.set r _) Aa (Z9u c Aa (Z40 _ f)) (λz=>k (t,z,fs,fs,((i+1:Nat):Int),()));rw[<-this,e];unfold bE gG gH gK tA tB tC tD;rw[Zs j];rfl
    obtain⟨y,e,C⟩:=Zpv hs.snd (pcF f);rw[arI hs.snd Aa,arS hs.snd,show QY f=O (pcF f,())from rfl,pA,Qfb hs.snd Aa,e];simp only[yk n,Lu];have b:kL x f.2.1 (atV x f.2.1)=x:=by grind[Z9w]
    cases h8:f.1==8
    ·cases h4:f.1==4
     ·cases h5:f.1==5
      ·have g:=a (λv=>Yl N v.1 v.2.1 v.2.2.1 v.2.2.2.1 v.2.2.2.2.1) (atV x f.2.1) (by unfold zw;rw[h8,h4,h5];rfl)
       grind
      ·exact a (λv=>Yl N v.1 v.2.1 v.2.2.1 v.2.2.2.1 v.2.2.2.2.1) _ (by unfold zw;rw[h8,h4,h5];rfl)
     ·cases hb:arB (atV x f.2.1).2.1
      ·have g:=a (λv=>Yl N v.1 v.2.1 v.2.2.1 v.2.2.2.1 v.2.2.2.2.1) (atV x f.2.1) (by unfold zw;rw[h8,h4,hb];rfl);rw[b]at g;exact g
      ·exact a (λv=>Yl N v.1 v.2.1 v.2.2.1 v.2.2.2.1 v.2.2.2.2.1) (Qa4 (lL (atV x f.2.1) (5,(atV x f.2.1).2.1.2)) X) (by unfold zw;rw[h8,h4,hb];rfl)
    ·exact a (λv=>Yl N v.1 v.2.1 v.2.2.1 v.2.2.2.1 v.2.2.2.2.1) (lL (atV x f.2.1) y) (by unfold zw;rw[h8,e];rfl)
   ·rw[Zm c,Zl (p:=Z8 x.2.2.2.1 f.2.1<0)];rfl
  simp_all[Zm,Lp]
theorem Qg8{K:Nat}(hK:K<=490000)(t:Ze)(p:Z6)(hf:p.2.1.length<=1000000):∀(N i:Nat)(x:Ze),Q5 K x->p.2.1-i<N->i<=p.2.1->nF N t x p (i:Int)=O (((p.2.1.drop i).foldl Zwp x,P,()),())
 |0,_,_,_,h,_=>Aa
 |N+1,i,x,h,b,c=>by
  rw[nF];by_cases a:i<p.2.1
  ·rw[Zn (Zl),Zb,show(i:Int).toNat=i from rfl,Zs a,Qy (d:=Qc) a,L3,Qts h hK,pA,Qg8 hK t p hf N (i+1) _ (Z7o h hK _) Aa Aa]
  grind
theorem Zkt(h:Q5 K c)(q:Z6->Bool):Q5 K (YH c ((Xu c).filter q)):=
 ⟨h.str,Lq (Ls _ _) h.pk.1,λp a=>h.pk.2 p (Mg.1 a).1⟩
def Qaj(c:Ze)(n:Int):Ze:=cond (JY c n) ((pkF n (Xu c)).1.2.1.foldl Zwp (YH c ((Xu c).filter λp=>p.1 !=n))) c
theorem Qtq(h:Q5 K c)(hK:K<=490000)(n:Int):XX c n=O ((Qaj c n,JY c n,()),()):=by
 have a:(pkF n (Xu c)).1.2.1.length<=1000:=Z6q h.pk n;unfold XX Qaj JY;rw[Ji h,Qpl h Aa,vj h];simp only[pA];cases (bP c&& !(c.2.2.2.2.2.2.2.2.2.2.2.2.2.2.2.2.2.1 !=(0:Int)))
 ·rfl
 ·cases hb:(pkF n (Xu c)).2.1
  ·rfl
  ·rw[Qox h Aa];simp only[pI,K2,pH,pA,Z,pG];have:=Qg8 hK X9 (pkF n (Xu c)).1 Aa (kn X9 (YH c ((Xu c).filter λp=>p.1 !=n)) (pkF n (Xu c)).1 0) 0 _ (Zkt h λp=>p.1 !=n) (by simp[kn]) Aa;exact this
theorem Qtp(h:Q5 K c)(hK:K<=490000)(n:Int):QE c n=O ((Qaj c n,JY c n,()),()):=by
 have a:(pkF n (Xu c)).1.2.1.length<=1000:=Z6q h.pk n;unfold QE Qaj;rw[Z9s h Aa,pA];cases JY c n
 ·rfl
 ·have:=Qg7 hK X9 (pkF n (Xu c)).1.2.1 Aa (ke X9 (YH c ((Xu c).filter λp=>p.1 !=n)) (pkF n (Xu c)).1.2.1 (pkF n (Xu c)).1.2.1 0) 0 _ (Zkt h λp=>p.1 !=n) (by simp[ke]) Aa;exact this
abbrev Qv4(s:Zf)(b:Bool):Zf:=(s.1,s.2.1,s.2.2.1,s.2.2.2.1,s.2.2.2.2.1,s.2.2.2.2.2.1,s.2.2.2.2.2.2.1,s.2.2.2.2.2.2.2.1,s.2.2.2.2.2.2.2.2.1,s.2.2.2.2.2.2.2.2.2.1,b,s.2.2.2.2.2.2.2.2.2.2.2)
def WV(s:Zf)(f:Zj):Zf:=cond (f.1==8) (lL s (Qwd (dM s.2.1 (pcF f)))) (cond (f.1==4) (Qa4 s (s.2.1.1==4)) (cond (f.1==5) (Qfw s (U (s.2.2.2.1.1<2))) (cond (f.1==17) (Qv4 s P) s)))
theorem Z0j{s:Zf}(h:Xc K s)(hK:K<=1000000)(f:Zj):Xc K (WV s f):=by
 unfold WV;obtain⟨x,e,hx⟩:=Zld h.snd (pcF f);rw[e];cases f.1==8<;>cases f.1==4<;>cases f.1==5<;>cases f.1==17<;>first|exact h|exact⟨h.snd,h.rcv⟩|exact⟨hx,h.rcv⟩
theorem Qd5(s:Zf)(f:Zj):(WV s f).1=s.1/\(WV s f).2.2.2.1=s.2.2.2.1:=by
 unfold WV;cases f.1==8<;>cases f.1==4<;>cases f.1==5<;>cases f.1==17<;>exact⟨rfl,rfl⟩
abbrev tl0(x:Ze):Ze:=(x.1,x.2.1,x.2.2.1,x.2.2.2.1,x.2.2.2.2.1,x.2.2.2.2.2.1,x.2.2.2.2.2.2.1,x.2.2.2.2.2.2.2.1,x.2.2.2.2.2.2.2.2.1,x.2.2.2.2.2.2.2.2.2.1,P,x.2.2.2.2.2.2.2.2.2.2.2)
abbrev tl1(x:Ze):Ze:=(x.1,x.2.1,x.2.2.1,x.2.2.2.1,x.2.2.2.2.1,x.2.2.2.2.2.1,x.2.2.2.2.2.2.1,x.2.2.2.2.2.2.2.1,x.2.2.2.2.2.2.2.2.1,x.2.2.2.2.2.2.2.2.2.1,x.2.2.2.2.2.2.2.2.2.2.1,x.2.2.2.2.2.2.2.2.2.2.2.1,P,x.2.2.2.2.2.2.2.2.2.2.2.2.2)
abbrev tl2(x:Ze):Ze:=(x.1,x.2.1,x.2.2.1,x.2.2.2.1,x.2.2.2.2.1,x.2.2.2.2.2.1,x.2.2.2.2.2.2.1,x.2.2.2.2.2.2.2.1,x.2.2.2.2.2.2.2.2.1,x.2.2.2.2.2.2.2.2.2.1,x.2.2.2.2.2.2.2.2.2.2.1,P,x.2.2.2.2.2.2.2.2.2.2.2.2)
def Zts(x:Ze)(f:Zj):Ze:=cond (f.1==16) (tl0 x) (cond (f.1==18) (cond f.2.2.2.2.2.2.2.2.1 (tl1 x) (tl2 x)) (cond (abV f&&U (0<=Z8 x.2.2.2.1 f.2.1)) (kL x f.2.1 (WV (atV x f.2.1) f)) x))
def Rc0(x:Ze):Prop:= ∀s∈x.2.2.2.1,0<=s.2.2.2.1.1
theorem Z85(h:Q5 K x/\Rc0 x)(hK:K<=490000)(f:Zj):Q5 K (Zts x f)/\Rc0 (Zts x f):=by
 have c:=h.1.str.len;unfold Zts;cases f.1==16
 ·cases f.1==18
  ·by_cases b:0<=Z8 x.2.2.2.1 f.2.1
   ·obtain⟨g,i,j⟩:=qt (l:=x.2.2.2.1) Aa f.2.1;rw[Zl b];cases abV f
    ·exact h
    ·have a:=Z2 (d:=Zc) (show(Z8 x.2.2.2.1 f.2.1).toNat<x.2.2.2.1 by omega);refine⟨⟨h.1.str.set (Z0j (h.1.str.all _ a) Aa f) _,h.1.pk⟩,λs hs=>?_⟩;rcases Mh hs with e|e
     ·exact h.2 s e
     ·rw[e,(Qd5 _ f).2];exact h.2 _ a
   grind
  ·cases f.2.2.2.2.2.2.2.2.1<;>exact⟨⟨h.1.str,h.1.pk⟩,h.2⟩
 ·exact⟨⟨h.1.str,h.1.pk⟩,h.2⟩
theorem Quv(h:Q5 K x)(hK:K<=490000)(f:Zj):Zai x f=O ((),Zts x f,()):=by
 have i:=h.str.len;obtain⟨j,k,m⟩:=qt (l:=x.2.2.2.1) Aa f.2.1;unfold Zai tE tM tN Zts;cases h16:f.1==16
 ·cases h18:f.1==18
  ·unfold VY gH tB tC tE tT;rw[V8 h Aa,Xr,pA];simp only[Qg5,bO,bO2];by_cases a:0<=Z8 x.2.2.2.1 f.2.1
   ·rw[if_pos a,Zl a];have g:atV x f.2.1∈x.2.2.2.1:=Z2;have hs:=h.str.all _ g;have b:∀c,c=WV (atV x f.2.1) f->eI x c=O ((),kL x f.2.1 (WV (atV x f.2.1) f),()):=λc e=>by
     unfold eI tD;have d:(WV (atV x f.2.1) f).1=f.2.1:=by grind[Qd5]
     rw[e,Zfq h.str (Z0j hs Aa f) Aa (by rw[d];exact a),d];rfl
    cases abV f
    ·rfl
    ·simp only[pI,K2,Z,pH,pG];obtain⟨y,e,n⟩:=Zld hs.snd (pcF f);rw[show yK f=O (pcF f,())from rfl,pA,e];cases h8:f.1==8
     ·cases h4:f.1==4
      ·cases h5:f.1==5
       ·cases h17:f.1==17
        ·exact b _ (by unfold WV;rw[h8,h4,h5,h17];rfl)
        ·exact b _ (by unfold WV;rw[h8,h4,h5,h17];rfl)
       ·exact b _ (by unfold WV;rw[h8,h4,h5];rfl)
      ·exact b _ (by unfold WV;rw[h8,h4];rfl)
     ·exact b _ (by unfold WV;rw[h8,e];rfl)
   ·rw[if_neg a,Zm a];simp
  ·cases f.2.2.2.2.2.2.2.2.1<;>rfl
 ·rfl
theorem Qnu{r:Zu}(h:0<=r.1):lG r=O (U (r.1<2),()):=by
 grind[Z7d,Zm]
theorem Qjg{K:Nat}(hK:K<=490000)(t:Ze)(fs:List Zj)(hf:fs.length<=1000000):∀(N i:Nat)(x:Ze),Q5 K x/\Rc0 x->fs-i<N->i<=fs->J3 N t x fs fs (i:Int)=O (((fs.drop i).foldl Zts x,P,()),())
 |0,_,_,_,h,_=>Aa
 |N+1,i,x,g,o,q=>by
  have h:=g.1;have r:=h.str.len;rw[J3];by_cases j:i<fs
  ·rw[Zn (Zl),Zb,show(i:Int).toNat=i from rfl,Qy (d:=Qc) j,L3,<-Qjg hK t fs hf N (i+1) _ (Z85 g hK _) Aa Aa];generalize fs.getD i Qc=f;obtain⟨s,u,w⟩:=qt (l:=x.2.2.2.1) Aa f.2.1;have k:∀z:Ze,z.2.2.2.1=x.2.2.2.1->abV f=X->aF (λv=>J3 N v.1 v.2.1 v.2.2.1 v.2.2.2.1 v.2.2.2.2.1) t z f fs fs (i:Int)=J3 N t z fs fs ((i+1:Nat):Int):=λz c a=>by
    unfold aF gG gK tB tC tD tE tT;rw[c,uC Aa,QD Aa,pA,Zym,pA,Zs j]
    grind[abV]
   unfold Zts;cases h16:f.1==16
   ·cases h18:f.1==18
    ·simp only[Le,pH];cases a:abV f
     ·exact k x rfl a
     unfold aF gG gK tB tC tD tE tT;rw[uC Aa,QD Aa,pA,Zym,pA,Zs j];unfold abV at a;rw[a];by_cases c:0<=Z8 x.2.2.2.1 f.2.1
     ·have n:(Z8 x.2.2.2.1 f.2.1).toNat<x.2.2.2.1:=Aa
      have m:=Z2 (d:=Zc) n;have hs:=h.str.all _ m;obtain⟨y,e,A⟩:=Zld hs.snd (pcF f);rw[Zl c,Zm (p:=Z8 x.2.2.2.1 f.2.1<0),pI,K3,pH,Z,pG,Zb,show QY f=O (pcF f,())from rfl,pA,Qbl hs.snd Aa,Qnu (g.2 _ m)];unfold WV;rw[e];have b:kL x f.2.1 (atV x f.2.1)=x:=by grind[Z9w]
      cases f.1==8<;>cases f.1==4<;>cases f.1==5<;>cases f.1==17<;>simp only[pG,pH]<;>first|rfl|(rw[b])
     ·rw[Zm c,Zl (p:=Z8 x.2.2.2.1 f.2.1<0)];rfl
    ·have a:abV f=false:=by simp at h18;simp[abV,h18]
     cases f.2.2.2.2.2.2.2.2.1
     ·grind
     grind
   ·exact k (tl0 x) rfl (by simp at h16;simp[abV,h16])
  simp_all[Zm,Lp]
theorem Qjh{K:Nat}(hK:K<=490000)(t:Ze)(p:Z6)(hf:p.2.1.length<=1000000):∀(N i:Nat)(x:Ze),Q5 K x/\Rc0 x->p.2.1-i<N->i<=p.2.1->lU N t x p (i:Int)=O (((p.2.1.drop i).foldl Zts x,P,()),())
 |0,_,_,_,h,_=>Aa
 |N+1,i,x,h,b,c=>by
  rw[lU];by_cases a:i<p.2.1
  ·rw[Zn (Zl),Zb,show(i:Int).toNat=i from rfl,Zs a,Qy (d:=Qc) a,L3,Quv h.1 hK,pA,Qjh hK t p hf N (i+1) _ (Z85 h hK _) Aa Aa]
  grind
def Qbk(c:Ze)(n:Int):Ze:=cond (JY c n) ((pkF n (Xu c)).1.2.1.foldl Zts (YH c ((Xu c).filter λp=>p.1 !=n))) c
theorem rc0(h:Q5 K c)(hK:K<=490000)(hc:bP c=P):Rc0 c:=λs hs=>Qj7 (h.str.all s hs).rcv Aa (((Zf3 h).1 hc).st h Aa hs).rcv
theorem Qut(h:Q5 K c)(hK:K<=490000)(n:Int):zj c n=O ((Qbk c n,JY c n,()),()):=by
 have b:(pkF n (Xu c)).1.2.1.length<=1000:=Z6q h.pk n;unfold zj Qbk JY;rw[Ji h,Qpl h Aa,vj h];simp only[pA];cases hc:(bP c&& !(c.2.2.2.2.2.2.2.2.2.2.2.2.2.2.2.2.2.1 !=(0:Int)))
 ·rfl
 ·cases hb:(pkF n (Xu c)).2.1
  ·rfl
  ·rw[Qox h Aa];simp only[pI,K2,pH,pA,Z,pG];have a:=rc0 h hK Ac;have:=Qjh hK X9 (pkF n (Xu c)).1 Aa (ja X9 (YH c ((Xu c).filter λp=>p.1 !=n)) (pkF n (Xu c)).1 0) 0 _ ⟨Zkt h λp=>p.1 !=n,a⟩ (by simp[ja]) Aa;exact this
theorem Qus(h:Q5 K c)(hK:K<=490000)(n:Int):yX c n=O ((Qbk c n,JY c n,()),()):=by
 have b:(pkF n (Xu c)).1.2.1.length<=1000:=Z6q h.pk n;unfold yX Qbk;rw[Z9s h Aa,pA];cases hb:JY c n
 ·rfl
 ·have a:=rc0 h hK (by simp_all[JY]);have:=Qjg hK X9 (pkF n (Xu c)).1.2.1 Aa (iQ X9 (YH c ((Xu c).filter λp=>p.1 !=n)) (pkF n (Xu c)).1.2.1 (pkF n (Xu c)).1.2.1 0) 0 _ ⟨Zkt h λp=>p.1 !=n,a⟩ (by simp[iQ]) Aa;exact this
theorem Qrb{K1:(Int×Ba×Bool×Unit)->Oa Ba}{out:Ba}{neg:Bool}{d:Nat}(hd:d<10)(hl:1+out<=Jv):
  iZ K1 n out neg (d:Int)=K1 (W.wrap (Lm n 10),L7 (48+d)::out,neg,()):=by
 grind[iZ,Xx,Zr,Zky,Zb]
theorem Z8i:∀(k u N:Nat)(n:Int)(out:Ba)(neg:Bool),u<10^k->k<N->u<=9223372036854775808->(n=(u:Int)\/n= -(u:Int))->out+k<=1000->(n=9223372036854775808->False)->
  bK N n out neg=O ((cond neg (45:: (Z5k u++out)) (Z5k u++out)),())
 |k,u,0,n,out,neg,b,d,_,_,_,_=>Aa
 |k,u,N+1,n,out,neg,b,d,i,c,j,l=>by
  unfold bK;by_cases m:u=0
  ·have a:n=0:=Aa
   rw[Zp (by simp[a])]
   grind[Zb,Jv,Z5k]
  ·have a:n≠0:=Aa
   rw[Zn (by simp[a]),Zb Ai];cases k with
   |zero=>simp at b;omega
   |succ k=>
    have f:u/10<10^k:=by
     omega
    have g:u%10<10:=Nat.mod_lt _ Ai;have h:W.wrap (Lm n 10)=((u/10:Nat):Int)\/W.wrap (Lm n 10)= -((u/10:Nat):Int):=by
     rcases c with rfl|rfl
     ·grind[Zr]
     ·right;rw[Int.neg_tdiv,Int.tdiv_eq_ediv_of_nonneg Aa,Zr];omega
    have o:iZ (λv=>bK N v.1 v.2.1 v.2.2.1) n out neg ((u%10:Nat):Int)=O ((cond neg (45:: (Z5k u++out)) (Z5k u++out)),()):=by
     rw[Qrb g Al];show bK N (W.wrap (Lm n 10)) (L7 (48+u%10)::out) neg=_;rw[Z8i k (u/10) N _ _ neg f Aa Aa h Ag Aa];simp_all[Qfo]
    rcases c with rfl|rfl
    ·grind
    ·have e:Lg (-(u:Int)) 10= -((u%10:Nat):Int):=Ag
     rw[e];by_cases p:u%10=0
     ·simp_all
     ·rw[Zn (Zl),Zr];simp_all
theorem Z5w(n:Int)(h0: -9223372036854775808<=n:=by omega)(h1:n<=9223372036854775807:=by omega):lR n=O (Lx n,()):=by
 unfold lR;by_cases a:n=0
 ·simp_all[Lx,Go.Lib.decDigits]
 ·rw[Zp (by simp[a])];have b:n.natAbs<10^20:=by
   omega
  rw[Z8i 20 n.natAbs _ n [] _ b (by simp[rN]) Aa Aa Ae Aa];unfold Lx Z5k
  grind
theorem Zxx(n:Int)(h0: -9223372036854775808<=n:=by omega)(h1:n<=9223372036854775807:=by omega):ly n=O (Lx n,()):=by
 simp_all[ly,Zg6,Zb]
theorem Z8p:∀(N:Nat)(l:Ba)(out:List Int)(i:Nat),l.length<=1048576->out<=2*i->i<=l->l-i<N->
  nH N l out (i:Int)=O (Xx (out++(l.drop i).flatMap hx),())
 |0,_,_,_,_,_,_,h=>Aa
 |N+1,l,out,i,b,m,n,o=>by
  unfold nH gG;by_cases h:i<l
  ·have e:(i:Int).toNat=i:=rfl;rw[Zn (Zl),Zb,Zb Ai,Zb,Zb Ai,e];have p:(l.getD i 0).toNat<256:=(l.getD i 0).toNat_lt;generalize f:l.getD i 0=c at*
   have g:W.wrap (Lm (W.wrap (c.toNat:Int)) 16)=((c.toNat/16:Nat):Int):=by
    grind[Zr]
   have j:Lg (W.wrap (c.toNat:Int)) 16=((c.toNat%16:Nat):Int):=by
    grind[Zr]
   have a:∀k:Nat,k<16->nM (k:Int)=O (Ztf k,()):=λk hk=>by
    grind[nM,Ztf,Zb,K4]
   rw[g,j,a _ Aa,a _ Aa];simp only[pA];rw[Zb Aj,Zs h];rw[Z8p N l _ (i+1) b Ag h Aa];rw[Qy (d:=(0:UInt8)) h,f,L2,Lz];rfl
  grind
theorem Z8o:∀(N:Nat)(l:Ba)(out:List Int)(i:Nat),l.length<=1048576->out<=2*i->i<=l->l-i<N->
  mZ N l out (i:Int)=O (Xx (out++(l.drop i).flatMap hx),())
 |0,_,_,_,_,_,_,h=>Aa
 |N+1,l,out,i,a,j,k,m=>by
  unfold mZ gG;by_cases h:i<l
  ·have e:(i:Int).toNat=i:=rfl;rw[Zn (Zl),Zb,Zb Ai,e];have n:(l.getD i 0).toNat<256:=(l.getD i 0).toNat_lt;generalize b:l.getD i 0=c at*
   have f:Lc.wrap (Lm (c.toNat:Int) 16)=((c.toNat/16:Nat):Int):=by
    grind[Zky]
   have g:Lg (c.toNat:Int) 16=((c.toNat%16:Nat):Int):=by
    rfl
   simp only[f,g];rw[Zb (by grind[K4]),Zb,Zb Ai,Zb (by grind[K4]),
    Zb Aj,Zs h]
   rw[Z8o N l _ (i+1) a Ag h Aa];rw[Qy (d:=(0:UInt8)) h,b,L2,Lz];rfl
  grind
theorem Qrj(l:Ba)(h:l.length<=1048576:=by omega):lO l=O (Z2q l,()):=by
 unfold lO;exact Z8p _ l [] 0 h Ae Aa (by simp[rM])
theorem Qun(l:Ba)(h:l.length<=1048576:=by omega):vq l=O (Z2q l,()):=by
 unfold vq;exact Z8o _ l [] 0 h Ae Aa (by simp[ry])
theorem Zgd(N k:Nat)(b:Int)(hk:k<16):bM (N+1) b (k:Int)=ite (Ztf k=b) (O ((k:Int),())) (bM N b ((k+1:Nat):Int)):=by
 conv=>lhs;unfold bM
 have a:nM (k:Int)=O (Ztf k,()):=by
  grind[nM,Ztf,Zb,K4]
 rw[Zn (Zl),a];simp only[pA];rw[Zs (m:=16) hk];simp_all
theorem Zla(b:UInt8):wz (b.toNat:Int)=gn (b.toNat:Int):=by
 have d:b.toNat<256:=b.toNat_lt;generalize b.toNat=n at*
 unfold wz;have a:rX (n:Int) 0=17:=rfl;rw[a];show bM 17 (n:Int) ((0:Nat):Int)=_;have e:∀k,k<16->Ztf k=ite (k<10) (48+k:Int) (87+k:Int):=Ai
 have c:bM 1 (n:Int) ((16:Nat):Int)=O (-1,()):=rfl;unfold gn;by_cases f:48<=n/\n<=57
 ·rw[Zn Af];have u:W.wrap (Lc.wrap ((n:Int)-48))=(n:Int)-48:=by grind[Zky,Zr]
  rw[u];have:n=48\/n=49\/n=50\/n=51\/n=52\/n=53\/n=54\/n=55\/n=56\/n=57:=Aa
  rcases this with rfl|rfl|rfl|rfl|rfl|rfl|rfl|rfl|rfl|rfl
  all_goals
   repeat (rw[Zgd _ _ _ Ai];first|(rw[if_pos Ai];rfl)|rw[if_neg Ai])
 ·rw[Zp Ag];by_cases g:97<=n/\n<=102
  ·rw[Zn Af];have u:W.wrap (W.wrap (Lc.wrap ((n:Int)-97))+10)=(n:Int)-87:=by grind[Zky,Zr]
   rw[u];have:n=97\/n=98\/n=99\/n=100\/n=101\/n=102:=Aa
   rcases this with rfl|rfl|rfl|rfl|rfl|rfl
   all_goals
    repeat (rw[Zgd _ _ _ Ai];first|(rw[if_pos Ai];rfl)|rw[if_neg Ai])
  ·rw[Zp Ag]
   repeat (rw[Zgd _ _ _ Ai,if_neg (by rw[e _ (by decide)];split<;>omega)])
   exact c
theorem Qdt(b:UInt8):gn (b.toNat:Int)=O (hv b,())/\ -1<=hv b/\hv b<=15:=by
 have d:b.toNat<256:=b.toNat_lt;unfold hv;generalize b.toNat=n at*
 unfold gn;by_cases a:48<=n/\n<=57
 ·rw[Zn Af,Zky _,Zr,if_pos a]
  grind
 ·rw[Zp Ag,if_neg a];by_cases c:97<=n/\n<=102
  ·rw[Zn Af,Zky _,show W.wrap ((n:Int)-97)=(n:Int)-97 from Zr,Zr,if_pos c]
   grind
  grind
theorem Z2c:∀(N:Nat)(pre rest:Ba)(out:List Int),(pre++rest).length<=1048576->rest.length%2=0->out<=pre.length->rest<N->
  bJ N (pre++rest) out pre=O (match xR rest with|some d=>(Xx out++d,P,())|none=>([],X,()))/\
  bF N (pre++rest) out pre=O (match xR rest with|some d=>(Xx out++d,P,())|none=>([],X,()))
 |0,_,_,_,_,_,_,h=>Aa
 |N+1,pre,[],out,hs,c,l,f=>by
  simp_all[bJ,bF,xR]
 |N+1,pre,[_],out,hs,c,l,f=>by simp at c
 |N+1,pre,a::b::rest,out,hs,c,l,f=>by
  unfold bJ bF;simp only[Mu,K4]at hs c f;have e:pre++a::b::rest=pre++[a,b]++rest:=Ae
  have o:W.wrap (pre+1)=((pre+1:Nat):Int):=Zs (m:=1048576);have p:W.wrap (pre+2)=((pre+2:Nat):Int):=Ao
  have q:(pre++a::b::rest).getD ((pre:Int).toNat) 0=a:=ib pre a (b::rest) 0;have r:(pre++a::b::rest).getD (((pre+1:Nat):Int).toNat) 0=b:=by
   simp
  have z:((pre++a::b::rest):Int)=pre+rest+2:=Af
  rw[Zn (Zl),Zn (Zl),o,p,q,r,Zla,Zla];obtain⟨g,A,B⟩:=Qdt a;obtain⟨i,C,u1⟩:=Qdt b;rw[g,i];simp only[pA];have s:(0:Int)<=pre/\pre<((pre++a::b::rest):Int):=Aa
  have t:(0:Int)<=((pre+1:Nat):Int)/\((pre+1:Nat):Int)<(pre++a::b::rest):=Aa
  simp only[Zb s,Zb t];by_cases n:hv a<0\/hv b<0
  ·simp_all[Zn,xR]
  ·have u:=n;rw[Zp Af,Zp Af];have v:Lc.wrap (W.wrap (W.wrap (16*hv a)+hv b))=((16*(hv a).toNat+(hv b).toNat:Nat):Int):=by
    have w:W.wrap (16*hv a)=16*hv a:=Zr;rw[w,Zr,Zky _];omega
   rw[v,Zb Aj,Zb Aj];obtain⟨j,k⟩:=Z2c N (pre++[a,b]) rest (out++[((16*(hv a).toNat+(hv b).toNat:Nat):Int)]) Af Aa Af Aa;rw[<-e]at j k;simp only[Mu,K4,Li,Nat.zero_add]at j k⊢;rw[j,k];have x:xR (a::b::rest)=(xR rest).map λd=>L7 (16*(hv a).toNat+(hv b).toNat)::d:=by simp only[xR,n,if_false]
   rw[x];have y:Xx (out++[((16*(hv a).toNat+(hv b).toNat:Nat):Int)])=Xx out++[L7 (16*(hv a).toNat+(hv b).toNat)]:=by
    generalize 16*(hv a).toNat+(hv b).toNat=m;simp[Xx]
   grind
theorem Qh2(s:Ba)(h:s.length<=1048576):lM s=O (YG s,(xR s).isSome,())/\lu s=O (YG s,(xR s).isSome,()):=by
 unfold lM lu;rw[Zb Ai,Zb Ai];have e:Lg s 2=((s%2:Nat):Int):=by rfl
 rw[e];by_cases f:s.length%2=1
 ·simp_all[YG,Z4v]
 ·have a:s.length%2=0:=Aa
  rw[a,Zp (by rfl),Zp (by rfl)];obtain⟨b,c⟩:=Z2c (((s:Int)-0).toNat+1) [] s [] (by simpa using h) a Ae Aa;simp only[Lt,Li,Lo]at b c;unfold ko ru;rw[b,c];unfold YG;cases xR s with
  |none=>simp_all
  |some d=>simp[Xx]
theorem Qoc(k:Int):lQ k=lx k:=by
 by_cases h:1<=k/\k<=12
 ·have:k=1\/k=2\/k=3\/k=4\/k=5\/k=6\/k=7\/k=8\/k=9\/k=10\/k=11\/k=12:=Aa
  unfold lQ Z9;simp only[pA];rcases this with rfl|rfl|rfl|rfl|rfl|rfl|rfl|rfl|rfl|rfl|rfl|rfl
  all_goals
   rw[Zp Ai];rw[Zb Ai];rfl
 grind[lQ,Z9,lx]
theorem Zpy{p:UInt8->Bool}{fin:Ba->Bool}{L:Nat->Ba->Int->Oa Bool}
  (hL:∀N s (i:Nat),i<s.length->s.length<=1048576->L (N+1) s (i:Int)=cond (p (s.getD i 0)) (L N s ((i+1:Nat):Int)) (O (X,())))
  (hE:∀N (s:Ba),s.length<=1048576->L (N+1) s s=O (fin s,())):∀(N:Nat)(s:Ba)(i:Nat),s.length<=1048576->i<=s->s-i<N->L N s (i:Int)=O ((s.drop i).all p&&fin s,())
 |0,_,_,_,_,h=>Aa
 |N+1,s,i,hs,a,b=>by
  by_cases h:i<s
  ·rw[hL N s i h hs,Qy (d:=(0:UInt8)) h,List.all_cons];cases p (s.getD i 0)
   ·rfl
   ·rw[pG,Zpy hL hE N s (i+1) hs h Aa,pJ]
  grind
def inC(lo hi:Int)(b:UInt8):Bool:= !(U ((b.toNat:Int)<lo)||U ((b.toNat:Int)>hi))
def Zjp(s:Ba):Bool:=U ((s:Int)>=1)&&U ((s:Int)<=40)
theorem Qbz(a b:Bool)(x y:α):(cond (a||b) x y)=(cond (!(a||b)) y x):=Ag
theorem Zqw(s:Ba)(h:s.length<=1048576):zt s=O (s.all (inC 97 122)&&Zjp s,()):=by
 unfold zt;refine Zpy (L:=f6) (fin:=Zjp) ?_ ?_ _ s 0 h Aa (by simp[qm])
 ·intro N s i a hs
  conv=>lhs;unfold f6
  have e:(i:Int).toNat=i:=rfl;rw[Zn (Zl),Zb];simp only[];rw[Zb (λ_=>Aa),Zs a,e,Qbz];rfl
 ·intro N s hs;unfold f6;rw[Zp (Zm)];rfl
theorem Z1d(s:Ba)(h:s.length<=1048576):uX s=O (s.all (inC 32 126)&&Zjp s,()):=by
 unfold uX;refine Zpy (L:=dg) (fin:=Zjp) ?_ ?_ _ s 0 h Aa (by simp[mw])
 ·intro N s i a hs
  conv=>lhs;unfold dg
  have e:(i:Int).toNat=i:=rfl;rw[Zn (Zl),Zb];simp only[];rw[Zb (λ_=>Aa),Zs a,e,Qbz];rfl
 ·intro N s hs;unfold dg;rw[Zp (Zm)];rfl
theorem Qao(s:Ba)(lo hi:Int)(h:s.length<=1048576):yq s lo hi=O (s.all (inC lo hi)&&Zjp s,()):=by
 unfold yq;refine Zpy (L:=λN s i=>fM N s lo hi i) (fin:=Zjp) ?_ ?_ _ s 0 h Aa (by simp[uk])
 ·intro N s i hi hs
  conv=>lhs;unfold fM
  have e:(i:Int).toNat=i:=rfl;rw[Zn (Zl),Zb];simp only[];rw[Zb (λ_=>Aa),Zs hi,e,Qbz];rfl
 ·intro N s hs;show fM (N+1) s lo hi s=_;unfold fM;rw[Zp (Zm)];rfl
theorem Z3u(b:UInt8):∃v:Int,gn (b.toNat:Int)=O (v,())/\ -1<=v/\v<=15:=by
 have a:b.toNat<256:=b.toNat_lt;generalize b.toNat=n at*
 unfold gn;by_cases c:48<=n/\n<=57
 ·rw[Zn Af,Zky _,Zr]
  grind
 ·rw[Zp Ag];by_cases d:97<=n/\n<=102
  ·rw[Zn Af,Zky _,show W.wrap ((n:Int)-97)=(n:Int)-97 from Zr,Zr]
   grind
  ·rw[Zp Ag];simp_all
theorem Z8b:∀(N:Nat)(s:Ba)(out:List Int)(i:Nat),s.length<=1048576->s.length%2=0->i%2=0->i<=s->out<=i->s-i<N->
  ∃d ok,bJ N s out (i:Int)=O (d,ok,())/\bF N s out (i:Int)=O (d,ok,())
 |0,_,_,_,_,_,_,_,_,h=>Aa
 |N+1,s,out,i,hs,a,b,o,p,q=>by
  unfold bJ bF;by_cases h:i<s
  ·have e:(i:Int).toNat=i:=rfl;have c:W.wrap ((i:Int)+1)=((i+1:Nat):Int):=Zs h;have f:((i+1:Nat):Int).toNat=i+1:=rfl;have g:W.wrap ((i:Int)+2)=((i+2:Nat):Int):=Ao
   rw[Zn (Zl),Zn (Zl),c,f,g,e,Zla,Zla];obtain⟨v,hv,r,t⟩:=Z3u (s.getD i 0);obtain⟨u,j,w,u1⟩:=Z3u (s.getD (i+1) 0);rw[hv,j];simp only[pA];have k:∀(ρ:Type)(m:Option ρ),Zh (0<=(i:Int)/\(i:Int)<s) m=m:=λρ m=>Zb;have l:∀(ρ:Type)(m:Option ρ),Zh (0<=((i+1:Nat):Int)/\((i+1:Nat):Int)<s) m=m:=λρ m=>Zb;have n:∀(ρ:Type)(x:Int)(m:Option ρ),Zh (out+[x].length<=Qp) m=m:=λρ x m=>Zb Aj;simp only[k,l,n];by_cases y:v<0\/u<0
   ·simp_all[Zn]
   ·rw[Zp Af,Zp Af];exact Z8b N s _ (i+2) hs a Aa Aa Ag Aa
  simp_all[Zm]
theorem Z5j(s:Ba)(h:s.length<=1048576):∃d ok,lM s=O (d,ok,())/\lu s=O (d,ok,()):=by
 unfold lM lu;rw[Zb Ai,Zb Ai];have e:Lg s 2=((s%2:Nat):Int):=by rfl
 rw[e];by_cases b:s.length%2=1
 ·simp_all
 ·have a:s.length%2=0:=Aa
  rw[a,Zp (by rfl),Zp (by rfl)];exact Z8b _ s [] 0 h a Aa Aa Ae (by simp[ko])
def okV(x:Int):Bool:=U (x>=0)&&U (x<=999999)
theorem Qec{x:Int}(h:okV x=P):0<=x/\x<=999999:=by
 simp_all[okV]
theorem Qmy(e:Yk)(hl:e.2.2.2.1.length<=1048576):∃b,rR e=O (b,())/\QJ e=O (b,())/\(b=P->(1<=e.1/\e.1<=12)/\(0<=e.2.1/\e.2.1<=999999)/\(0<=e.2.2.1/\e.2.2.1<=999999)):=by
 obtain⟨k,f,n,text,z⟩:=e;simp only at hl⊢;unfold rR gH QJ;simp only[Qoc];by_cases hk:1<=k/\k<=12
 ·obtain⟨d,u,j,l⟩:=Z5j text hl;have hs:∀x,Z9 x 0 999999=O (okV x,()):=λ_=>rfl;have v:∀x,Z1 x 0 999999=O (okV x,()):=λ_=>rfl;have m:∀x,Z9 x 1 400=O (U (x>=1)&&U (x<=400),()):=λ_=>rfl;have o:∀x,Z1 x 1 400=O (U (x>=1)&&U (x<=400),()):=λ_=>rfl;have:=hk;have:k=1\/k=2\/k=3\/k=4\/k=5\/k=6\/k=7\/k=8\/k=9\/k=10\/k=11\/k=12:=Aa
  have p:∀g i:Oa Bool,(∃b,g=O (b,())/\i=O (b,())/\(b=P->okV f=P/\okV n=P))-> ∃b,g=O (b,())/\i=O (b,())/\(b=P->(1<=k/\k<=12)/\(0<=f/\f<=999999)/\(0<=n/\n<=999999)):=
   λg i ⟨b,w,y,t⟩=>⟨b,w,y,λh=>⟨hk,Qec (t h).1,Qec (t h).2⟩⟩
  apply p;have q:((cond (U (1<=k)&&U (k<=12)) (VZ.getD k.toNat []) [])==([]:Ba))=false:=by
   rcases this with rfl|rfl|rfl|rfl|rfl|rfl|rfl|rfl|rfl|rfl|rfl|rfl<;>rfl
  have A:U ((0:Int)=f)=(f==0):=Ag
  have r:U ((0:Int)=n)=(n==0):=Ag
  have B:(([]:Ba)==text)=(text==[]):=Ac
  rcases this with rfl|rfl|rfl|rfl|rfl|rfl|rfl|rfl|rfl|rfl|rfl|rfl
  all_goals
   simp only[lx,Zex,XC,XD,xu,YF,zq,zr,tj,Zjg,Lb,pG,pH,pA,hs,v,Zqw text hl,Z1d text hl,Qao text _ _ hl,j,l,m,o];simp only[eqV,q,A,r,B,eq_self,decide_true,beq_self_eq_true,pJ,Lv,Lk,pG,pH,pA,Lf];generalize (f==(0:Int))=g;generalize (n==(0:Int))=i;generalize (text==([]:Ba))=b3;generalize okV f=b4;generalize okV n=b5;generalize (text==([98,105,100,105]:Ba)||text==([117,110,105]:Ba))=c1;generalize (text.all (inC 97 122)&&Zjp text)=c2;generalize (text.all (inC 32 126)&&Zjp text)=c3;generalize (U ((d:Int)>=1)&&U ((d:Int)<=400))=c4;cases g<;>cases i<;>cases b3<;>cases b4<;>cases b5<;>first|exact⟨_,rfl,rfl,λh=>by first|exact⟨rfl,rfl⟩|cases h⟩|(cases c1<;>exact⟨_,rfl,rfl,λh=>by first|exact⟨rfl,rfl⟩|cases h⟩)|(cases c2<;>exact⟨_,rfl,rfl,λh=>by first|exact⟨rfl,rfl⟩|cases h⟩)|(cases c3<;>exact⟨_,rfl,rfl,λh=>by first|exact⟨rfl,rfl⟩|cases h⟩)|(cases c4<;>cases u<;>exact⟨_,rfl,rfl,λh=>by first|exact⟨rfl,rfl⟩|cases h⟩)
 ·have r:(U (1<=k)&&U (k<=12))=false:=Ac
  have s:∃a b c,Zex k=O (a,b,c,()):=by
   unfold Zex XC XD xu;cases k==1<;>cases k==11<;>cases k==2<;>cases k==7<;>cases k==3<;>cases k==4<;>cases k==5<;>cases k==6<;>exact⟨_,_,_,rfl⟩
  obtain⟨a,b,c,s⟩:=s;simp only[lx,r,s,pH,pA];simp_all
def inc(r:Zi)(n:Int):Int:=ite (r.1<=n/\n<r.2.1) 1 0
def hs(n:Int):List Zi->Int|[]=>0|x::l=>inc x n+hs n l
theorem XE(r:Zi)(n:Int):0<=inc r n/\inc r n<=1:=by
 grind[inc]
theorem ml(n:Int):∀l,0<=hs n l
 |[]=>Ln _
 |x::l=>by
  have:=ml n l;have:=XE x n
  grind[hs]
theorem Z3v{n:Int}:∀{l:List Zi},1<=hs n l↔inR n l
 |[]=>by simp[hs,Zxy]
 |x::l=>by
  have:=ml n l;have h:=Z3v (n:=n) (l:=l)
  grind[Za3,hs,inc]
theorem Znx{n:Int}:∀{l:List Zi}{lo:Int},rsB lo l=P->hs n l<=1/\(n<=lo->hs n l=0)
 |[],_,_=>by simp[hs]
 |x::l,lo,h=>by
  obtain⟨b,c,a⟩:=Wp.1 h;obtain⟨d,e⟩:=Znx (n:=n) a
  grind[Qh,hs,inc]
theorem Qbc(n:Int)(b:List Zi):∀a,hs n (a++b)=hs n a+hs n b
 |[]=>by simp[hs]
 |x::a=>by simp only[List.cons_append,hs,Qbc n b a];omega
theorem Zz2{lo:Int}{r:Zi}(h:rsB lo l=P)(hr:W7 r=P)(hl:lo<r.1):hs n (jf l r)=ite (1<=hs n l\/1<=inc r n) 1 0:=by
 have a:=Z3v (n:=n) (l:=jf l r);rw[Qdv,<-Z3v]at a;have b:=ml n (jf l r);have c:=(Znx (n:=n) (WK h hr hl)).1
 grind[inc]
theorem Qrl{r x:Zi}(hr:r.1<=r.2.1)(n:Int):hs n (Z5i r x)=ite (1<=inc r n) 0 (inc x n):=by
 grind[Z5i,hs,inc]
theorem Qbd{r:Zi}(hr:r.1<=r.2.1)(n:Int):∀l,hs n (Zab r l)=ite (1<=inc r n) 0 (hs n l)
 |[]=>by simp[Zab,hs]
 |x::l=>by
  simp only[Zab,Qbc,Qrl hr,Qbd hr n l,hs];split<;>omega
theorem Qrk(r x:Zi)(n:Int):hs n (Zdw x r)=ite (1<=inc r n) (inc x n) 0:=by
 grind[Zdw,hs,inc]
theorem Qds(r:Zi)(n:Int):∀l:List Zi,hs n (l.flatMap λx=>[r].flatMap (Zdw x))=ite (1<=inc r n) (hs n l) 0
 |[]=>by simp[hs]
 |x::l=>by
  rw[L2,Qbc,Qds r n l]
  grind[Qrk,hs]
def Zkx(f:Int->Int):Nat->Int|0=>0|k+1=>Zkx f k+f k
theorem Zpo{f g:Int->Int}:∀k:Nat,(∀n:Int,0<=n->n<k->f n=g n)->Zkx f k=Zkx g k
 |0,_=>rfl
 |k+1,h=>by
  simp only[Zkx,h k Aa Aa];rw[Zpo k λn a b=>h n a Aa]
theorem Zsr(f g:Int->Int):∀k:Nat,Zkx (λn=>f n+g n) k=Zkx f k+Zkx g k
 |0=>rfl
 |k+1=>by simp only[Zkx,Zsr f g k];omega
theorem Z17:∀k:Nat,Zkx (λ_=>1) k=k
 |0=>rfl
 |k+1=>by simp only[Zkx,Z17 k];omega
theorem Z4t:∀k:Nat,Zkx (λ_=>0) k=0
 |0=>rfl
 |k+1=>by simp only[Zkx,Z4t k];omega
theorem Z99{x:Zi}(h0:0<=x.1):∀k:Nat,Zkx (inc x) k=max 0 (min x.2.1 k-x.1)
 |0=>by grind[Zkx]
 |k+1=>by
  simp only[Zkx,Z99 h0 k,inc];split<;>omega
theorem Qex{k:Nat}:∀{l:List Zi},(∀x∈l,0<=x.1/\x.1<=x.2.1/\x.2.1<=(k:Int))->Zkx (λn=>hs n l) k=bu l
 |[],_=>Z4t k
 |x::l,h=>by
  simp only[hs,bu];rw[Zsr,Qex λy a=>h y (L5 _ a),Z99 (h x Mf).1]
  grind
theorem Z4z(h:RL E l)(h0:0<=E):Zkx (λn=>hs n l) E.toNat=bu l:=by
 refine Qex λx hx=>?_;have:=Qh.1 (rJ h.1 x hx).2;have:=h.2 x hx;omega
theorem Ztg{n:Int}:∀{l a:List Zi},rsB (-1) a=P->(∀x∈l,W7 x=P)->(1<=hs n (lj a l)↔1<=hs n a\/1<=hs n l)
 |[],a,_,_=>by simp[lj,hs]
 |x::l,a,h,b=>by
  have hx:=b x Mf;have c:=(Qh.1 hx).1;have e:lj a (x::l)=lj (jf a x) l:=by
   simp_all[lj,Qfc]
  rw[e,Ztg (WK h hx Aa) λy d=>b y (L5 _ d),Zz2 h hx Aa];have:=ml n l;have:=XE x n
  grind[hs]
def PT(s:Zk):Prop:= ∀n:Int,hs n s.2.2.1+hs n s.2.2.2.1+hs n s.2.2.2.2.1=ite (0<=n/\n<s.2.1.2.2.1) 1 0
theorem Zb6(h:RL E l):∀x∈l,W7 x=true:=λx hx=>(rJ h.1 x hx).2
theorem Qg4(h:RL E l)(hn:n<0\/E<=n):hs n l=0:=by
 have:=ml n l;by_cases c:1<=hs n l
 ·obtain⟨x,hx,a,b⟩:=Z3v.1 c;have:=Qh.1 (Zb6 h x hx);have:=h.2 x hx;omega
 ·omega
theorem Qlf{K:Int}(h:Jr K s)(pt:PT s):Zhb s (lj (lj s.2.2.1 s.2.2.2.1) s.2.2.2.2.1)=true:=by
 have c:=h.e0;have d:=Zk0 (Zk0 h.pend h.pT.2) h.pO.2;have e:bu (lj (lj s.2.2.1 s.2.2.2.1) s.2.2.2.2.1)=s.2.1.2.2.1:=by
  rw[<-Z4z d c];refine(Zpo (g:=λ_=>1) _ λn a b=>?_).trans ?_
  ·have u:=(Znx (n:=n) d.1).1;have i:=(Ztg (n:=n) (Zk0 h.pend h.pT.2).1 (Zb6 h.pO)).2;have j:=(Ztg (n:=n) h.pend.1 (Zb6 h.pT)).2;have p:=pt n;omega
  grind[Z17]
 have f:bu s.2.2.1+bu s.2.2.2.1+bu s.2.2.2.2.1=s.2.1.2.2.1:=by
  rw[<-Z4z h.pend c,<-Z4z h.pT c,<-Z4z h.pO c,<-Zsr,<-Zsr];refine(Zpo (g:=λ_=>1) _ λn a b=>?_).trans ?_
  ·rw[pt n,if_pos Aa]
  grind[Z17]
 grind[Zhb]
theorem Qa8{f:Int}:∀{l:List Zi}{lo:Int},rsB lo l=P->f<=lo->VH l f=f
 |[],_,_,_=>rfl
 |x::l,lo,h,c=>by
  obtain⟨a,d,b⟩:=Wp.1 h;have:=Qh.1 a;simp only[VH];rw[if_neg Aa];exact Qa8 b Aa
theorem Zjb(h:rsB (-1) l=P):0<=VH l 0/\(∀n,0<=n->n<VH l 0->1<=hs n l)/\hs (VH l 0) l=0:=by
 cases l with
 |nil=>exact⟨Ln _,λn a b=>by grind[VH],rfl⟩
 |cons x l=>
  obtain⟨d,e,c⟩:=Wp.1 h;have hx:=Qh.1 d;simp only[VH];by_cases f:x.1=0
  ·rw[if_pos Aa,Qa8 c (Ln _)];refine⟨Aa,λn a b=>?_,?_⟩
   ·have:=ml n l;simp only[hs,inc];omega
   ·have:=(Znx (n:=x.2.1) c).2 (Ln _);simp_all[hs,inc]
  ·rw[if_neg Aa,Qa8 c Aa];refine⟨Aa,λn a b=>Aa,?_⟩;have:=(Znx (n:=0) c).2 Aa;simp only[hs,inc];omega
theorem Qiw{m:List Zi}(h:rsB (-1) l=P)(k:rsB (-1) m=P)(hs':∀n,hs n l<=hs n m):VH l 0<=VH m 0:=by
 obtain⟨a,b,-⟩:=Zjb h;obtain⟨c,-,d⟩:=Zjb k
 grind
theorem Qrh(h:RL E l)(h0:0<=E):VH l 0<=E:=by
 obtain⟨a,b,-⟩:=Zjb h.1
 grind[Qg4]
theorem Qkj:∀{l m:List Zi}{lo:Int},rsB lo l=P->rsB lo m=P->(∀n,hs n l=hs n m)->l=m
 |[],[],_,_,_,_=>rfl
 |[],y::m,_,_,k,e=>by
  have i:=Qh.1 (Wp.1 k).1;have:=e y.1;have:=ml y.1 m;simp only[hs,inc]at*
  omega
 |x::l,[],_,h,_,e=>by
  have hx:=Qh.1 (Wp.1 h).1;have:=e x.1;have:=ml x.1 l;simp only[hs,inc]at*
  omega
 |x::l,y::m,lo,h,k,e=>by
  obtain⟨j,r,f⟩:=Wp.1 h;obtain⟨o,s,g⟩:=Wp.1 k;have hx:=Qh.1 j;have i:=Qh.1 o;have t:=λn c=>(Znx (n:=n) f).2 c;have u:=λn c=>(Znx (n:=n) g).2 c;simp only[hs,inc]at e;have p:x.1=y.1:=by
   by_cases a:x.1<y.1
   ·have:=e x.1
    grind
   ·by_cases b:y.1<x.1
    ·have:=e y.1
     grind
    ·omega
  have q:x.2.1=y.2.1:=by
   by_cases a:x.2.1<y.2.1
   ·grind
   ·by_cases b:y.2.1<x.2.1
    ·have:=e y.2.1
     grind
    ·omega
  have d:x=y:=Prod.ext p (Prod.ext q rfl);subst d;rw[Qkj f g λn=>by simp_all]
theorem Pc.mono{m:Option α}{Q R:α->Prop}(h:Pc m Q)(k:∀y,Q y->R y):Pc m R:=λy e=>k y (h y e)
end
end Go.Proofs.YtahnlnkboamdmaaGreatDoor

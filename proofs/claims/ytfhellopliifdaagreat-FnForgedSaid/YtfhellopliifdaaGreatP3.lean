/- FnForged: the plain law, part 3. No condition. -/
import Derived.Test.YtfhellopliifdaaGreatP2
set_option linter.all false
namespace Go.Proofs.YtfhellopliifdaaGreat
open Go.Am
set_option maxRecDepth 100000
theorem Qhx(s:List UInt8)(hs:s.length<=1000):∀(N a:Nat)(out:List Zf),a<=s.length->Zbf N s out (a:Int)=Jm N s out (a:Int)
 |0,_,_,_=>rfl
 |N+1,a,out,d=>by
  unfold Zbf Jm;by_cases c:a<s.length
  ·rw[Zm (Zl),Zm (Zl),Zb,Zb,Zr c];cases ((s.getD (a:Int).toNat 0).toNat:Int)==(0:Int)
   ·rw[Ocf,Ocf,Q3c s hs _ (by omega)];obtain⟨⟨f,n,b,u⟩,e,h⟩:=Qvj s hs (a:Int);rw[e];cases b
    ·rfl
    ·have h:=h rfl;simp only at h;simp only[Obs,Ont,Ocf];rw[show n=((n.toNat:Nat):Int) by omega,Qhx s hs N n.toNat _ (by omega)]
   ·exact Qhx s hs N (a+1) _ (by omega)
  ·rw[Zo (Zn),Zo (Zn)];rfl
theorem Q9k(s:List UInt8)(hs:s.length<=1000):Zt4 s=Kd s:=Qhx s hs _ 0 [] (by omega)
abbrev Zsq(c:Zc):Int:=c.2.2.2.2.2.2.2.2.2.2.2.2.2.2.2.2.2.1
abbrev cTl(c:Zc):=c.2.2.2.2.2.2.2.2.2.2.2.2.2
def clV(c:Zc)(n:Int):Zc:=bif(Zsq c==(0:Int))&&inB n 1 255 then(c.1,c.2.1,c.2.2.1,c.2.2.2.1,c.2.2.2.2.1,c.2.2.2.2.2.1,c.2.2.2.2.2.2.1,c.2.2.2.2.2.2.2.1,c.2.2.2.2.2.2.2.2.1,c.2.2.2.2.2.2.2.2.2.1,c.2.2.2.2.2.2.2.2.2.2.1,c.2.2.2.2.2.2.2.2.2.2.2.1,c.2.2.2.2.2.2.2.2.2.2.2.2.1,c.2.2.2.2.2.2.2.2.2.2.2.2.2.1,c.2.2.2.2.2.2.2.2.2.2.2.2.2.2.1,c.2.2.2.2.2.2.2.2.2.2.2.2.2.2.2.1,c.2.2.2.2.2.2.2.2.2.2.2.2.2.2.2.2.1,n,c.2.2.2.2.2.2.2.2.2.2.2.2.2.2.2.2.2.2)else c
theorem clS{K:Nat}{c:Zc}(h:Z4 K c)(hK:K<=1000000)(n:Int):Zgb c n=some (clV c n,()):=by
 unfold Zgb clV;rw[Jg h hK,Obs,inQ];simp only[bA,bA2];cases (Zsq c==(0:Int))&&inB n 1 255<;>rfl
theorem clI{K:Nat}{c:Zc}(h:Z4 K c)(hK:K<=1000000)(n:Int):Zqt c n=some (clV c n,()):=by
 unfold Zqt clV;rw[Zkg h hK,Obs,show Z0 n 1 255=some (inB n 1 255,())from rfl];simp only[bA,bA2];cases (Zsq c==(0:Int))&&inB n 1 255<;>rfl
noncomputable def hpF:Zc->List Zf->Zc×Int|x,[]=>(x,0)|x,f::r=>bif(Z1y x f).2.1 !=(0:Int)then(clV x (Z1y x f).2.1,(Z1y x f).2.1)else hpF (Z1y x f).1 r
theorem Q08{K:Nat}{c:Zc}{f:Zf}(h:Z4 K c)(hf:FOK f)(h25:25<=K)(hK:K<=390000:=by omega):Z4 (K+f.2.2.2.1.length+2) (Z1y c f).1:=by
 obtain⟨y,e,a⟩:=Z72 h hf h25 hK
 grind[Xed]
theorem Q1a(f:Zf)(r:List Zf):gr (f::r)=f.2.2.2.1.length+2+gr r:=by unfold gr;simp
theorem hpS(l:List Zf)(hf:∀f∈l,FOK f)(hl:l.length<=1000):∀(N i K:Nat)(t x:Zc),l.length-i<N->i<=l.length->Z4 K x->25<=K->K+gr (l.drop i)<=390000->
  Wf N t x l (i:Int)=some (((hpF x (l.drop i)).1,(hpF x (l.drop i)).2,()),())/\Zer N t l x (l.length:Int) (i:Int)=some ((hpF x (l.drop i)).1,(hpF x (l.drop i)).2,())
 |0,_,_,_,_,h,_,_,_,_=>by omega
 |N+1,i,K,t,x,n,o,hx,c,k=>by
  unfold Wf Zer Zj5;by_cases e:i<l.length
  ·have j:=Xh (d:=Qk) e;have g:=hf _ (Z5 (d:=Qk) e);rw[j,Q1a]at k;rw[j,Zm (Zl),Zm (Zl),Zb,Zb,Zr e,show(i:Int).toNat=i from rfl,Xed hx g c,Xkg hx g c (by omega)];simp only[X4,Obs];unfold hpF;cases hc:(Z1y x (l.getD i Qk)).2.1 !=(0:Int)
   ·have m:=Q08 hx g c;obtain⟨a,b⟩:=hpS l hf hl N (i+1) _ t (Z1y x (l.getD i Qk)).1 (by omega) (by omega) m (by omega) (by omega);exact⟨a,b⟩
   ·rw[clS hx (by omega),clI hx (by omega)];simp_all
  ·rw[Zo (Zn),Zo (Zn),List.drop_eq_nil_of_le (by omega)];exact⟨rfl,rfl⟩
noncomputable def Q4u(m:Option (List Zf×Bool×Unit)):List Zf×Bool×Unit:=match m with|some y=>y|none=>([],false,())
noncomputable def hpV(c:Zc)(s:List UInt8):Zc×Int:=bif Zbx c&& !(Zsq c !=(0:Int))then bif(Q4u (Kd s)).2.1 then hpF c (Q4u (Kd s)).1 else(clV c 7,7)else(c,Zsq c)
theorem hpE{K:Nat}{c:Zc}(h:Z4 K c)(h25:25<=K)(s:List UInt8)(hs:s.length<=1000)(hK:K+2*s.length<=390000:=by omega):Zb5 c s=some (((hpV c s).1,(hpV c s).2,()),())/\Zjc c s=some ((hpV c s).1,(hpV c s).2,()):=by
 obtain⟨⟨l,b,u⟩,e,g,i,f⟩:=Qyb s hs;simp only at g i f;have j:Q4u (Kd s)=(l,b,()):=by rw[e];rfl
 unfold hpV;rw[j];unfold Zb5 Zjc;rw[Jg h,Obs,Z0k h,Zv1 h,Z0k h,Zkg h,Q9k s hs,e];unfold Zfz Zpl;simp only[bO,Obs];cases hc:Zbx c
 ·simp_all
 cases hcl:Zsq c !=(0:Int)
 ·simp only[Ont,Bool.not_false,Bool.and_self,Bool.false_or,Ocf,Oct,Bool.and_false,Bool.or_self];cases b
  ·rw[clS h (by omega),clI h (by omega)];simp_all
  ·obtain⟨a,d⟩:=hpS l f (by omega) (W9 Yi c l 0) 0 K Yi c (by simp[W9]) (by omega) h h25 (by grind);exact⟨a,d⟩
 simp_all
theorem Xeb(x:Zc)(id:Int):cTl (fin x id)=cTl x:=by
 unfold fin Qly;cases ovB x.1 (atV x id)
 ·rfl
 ·cases Z5c id<;>rfl
theorem Xd2(c:Zc)(id:Int):cTl (Zg8 c id).2=cTl c:=by
 unfold Zg8 Qtd Qly;cases decide (0<=Q7 c.2.2.2.1 id)
 ·cases Qjd c.1 id
  ·cases Z3k c id
   all_goals grind
  ·rfl
 ·rfl
theorem Q56(c:Zc)(id:Int):0<=(Zg8 c id).1/\(Zg8 c id).1<=7:=by
 unfold Zg8;cases decide (0<=Q7 c.2.2.2.1 id)
 ·cases Qjd c.1 id
  ·cases Z3k c id<;>(simp only[Oct,Ocf];omega)
  simp_all
 simp_all
def TC(c:Zc)(r:Zc×Int×Unit):Prop:=cTl r.1=cTl c/\0<=r.2.1/\r.2.1<=7
theorem Qpb{c:Zc}{f:Zf}{g can:Bool}{k:Zc->Zc×Int×Unit}(hk:∀x,cTl x=cTl c->TC c (k x)):TC c (pre c f g can k):=by
 unfold pre;cases (Zbx c&&Xz f)&&g
 ·exact⟨rfl,by grind,by grind⟩
 cases can
 ·exact⟨rfl,by grind,by grind⟩
 cases (Zg8 c f.2.1).1==0
 ·have:=Q56 c f.2.1;exact⟨rfl,by grind,by grind⟩
 ·exact hk _ (Xd2 c f.2.1)
theorem rdC{r:Zx}{o:Int}{d:List UInt8}{fin:Bool}:Pc (Ym r o d fin) λy=>0<=y.2.1/\y.2.1<=7:=by
 unfold Ym;refine Pc.skip λa=>Pc.skip λb=>Pc.if (Pc.pure ⟨by simp only;omega,by simp only;omega⟩) ?_;simp only[Qhz,Obs];have j:∀t x,Pc (Yy o d r t x) λy=>0<=y.2.1/\y.2.1<=7:=λt x=>by
  unfold Yy Zdz;exact Pc.skip λc=>Pc.skip λe=>Pc.if (Pc.pure ⟨by simp only;omega,by simp only;omega⟩) (Pc.pure ⟨by simp only;omega,by simp only;omega⟩)
 cases Qbn r (IntKind.i64.wrap (o+(d.length:Int))) fin
 all_goals simp_all[Pc.if,Pc.pure]
theorem rrC{r:Zx}{k f:Int}:Pc (K8 r k f) λy=>0<=y.2.1/\y.2.1<=7:=by
 unfold K8;refine Pc.skip λa=>Pc.skip λb=>Pc.skip λc=>Pc.skip λd=>Pc.if (Pc.pure ⟨by simp only;omega,by simp only;omega⟩) ?_;simp only[Qhz,Obs];cases Qbn r f true
 all_goals simp_all[Pc.if,Pc.pure]
theorem Q2t{m:Option (Zx×Int×Unit)}(h:Pc m λy=>0<=y.2.1/\y.2.1<=7):0<=(Qp6 m).2.1/\(Qp6 m).2.1<=7:=by
 unfold Qp6;cases m with
 |none=>simp_all
 |some y=>exact h y rfl
theorem Qn2{c x:Zc}(h:cTl x=cTl c)(id:Int):TC c (fin x id,0,()):=⟨(Xeb x id).trans h,Int.le_refl _,by simp only;omega⟩
theorem Q4z(c:Zc){n:Int}(a:0<=n)(b:n<=7):TC c (c,n,()):=⟨rfl,a,b⟩
theorem Xes(c:Zc)(f:Zf):TC c (Qqi c f):=by
 unfold Qqi;cases f.1==17
 ·cases f.1==21
  ·simp only[Ocf];cases Zbx c&&Xz f
   ·simp_all[Q4z]
   cases f.1==16
   ·cases f.1==18
    ·cases (f.1==20)||(f.1==22)
     all_goals simp_all[Q4z]
    ·refine⟨?_,Int.le_refl _,by simp_all⟩;show cTl (Qx6 c f.2.2.2.2.2.2.2.2.1 f.2.2.2.2.2.2.1)=_;unfold Qx6
     grind
   ·exact⟨rfl,Int.le_refl _,by simp_all⟩
  ·exact Qpb (k:=λx=>(x,0,())) λx h=>⟨h,Int.le_refl _,by simp only;omega⟩
 ·exact Qpb (k:=mlX f) λx h=>⟨h,Int.le_refl _,by simp_all[mlX]⟩
theorem Q2m{c x:Zc}(h:cTl x=cTl c)(id:Int)(y):cTl (Z3x x id y)=cTl c:=(show cTl (Z3x x id y)=cTl x from rfl).trans h
theorem Q8d{c x:Zc}(h:cTl x=cTl c)(y):cTl (Zyq x y)=cTl c:=(show cTl (Zyq x y)=cTl x from rfl).trans h
theorem Xfm(c:Zc)(f:Zf){x:Zc}(h:cTl x=cTl c):TC c (Qur f x):=by
 unfold Qur;cases (Quq x f).2.1
 ·simp_all[Qn2]
 ·rw[Oct];exact Qn2 (Q2m h _ _) _
theorem Xfi(c:Zc)(f:Zf){x:Zc}(h:cTl x=cTl c):TC c (Qqu c f x):=by
 have hv:0<=(Qg4 x f).2.1/\(Qg4 x f).2.1<=7:=Q2t rrC;unfold Qqu;generalize Qg4 x f=r at hv⊢;cases flB x (atV x f.2.1) (Z10 x f)
 ·simp_all[Q4z]
 rw[Oct];cases r.2.1==0
 ·simp_all[Q4z]
 rw[Oct];cases (r.1.1==4)&&((atV x f.2.1).2.2.2.1.1 !=4)
 ·rw[Ocf];exact Qn2 (Q2m (Q8d h _) _ _) _
 ·rw[Oct];exact Qn2 (Q2m (Q8d h _) _ _) _
theorem Q9j(c:Zc)(f:Zf){x:Zc}(h:cTl x=cTl c):TC c (Qbr c f x):=by
 have hv:=Q2t (rdC (r:=(atV x f.2.1).2.2.2.1) (o:=f.2.2.1) (d:=f.2.2.2.1) (fin:=f.2.2.2.2.1));unfold Qbr;generalize Qp6 (Ym (atV x f.2.1).2.2.2.1 f.2.2.1 f.2.2.2.1 f.2.2.2.2.1)=r at hv⊢;cases flB x (atV x f.2.1) (nbV (atV x f.2.1).2.2.2.1 (IntKind.i64.wrap (f.2.2.1+(f.2.2.2.1.length:Int))))
 ·simp_all[Q4z]
 rw[Oct];cases r.2.1==0
 ·simp_all[Q4z]
 ·rw[Oct];exact Qn2 (Q2m (Q8d h _) _ _) _
theorem Xef(c:Zc)(f:Zf):TC c (Z1y c f):=by
 unfold Z1y;cases f.1==8
 ·cases f.1==4
  ·cases f.1==5
   all_goals simp_all[Xes,Qpb,Xfm]
  simp_all[Qpb,Xfi]
 simp_all[Qpb,Q9j]
theorem Q0p{c:Zc}(h:Zsq c=0){n:Int}(h1:1<=n)(h2:n<=255):Zsq (clV c n)=n:=by
 grind[clV,Zh8]
theorem Q6r:∀(l:List Zf)(x:Zc),Zsq x=0->((hpF x l).2=0->Zsq (hpF x l).1=0)/\((hpF x l).2≠0->Zsq (hpF x l).1=(hpF x l).2)
 |[],x,h=>⟨λ_=>h,λh=>absurd rfl h⟩
 |f::r,x,h=>by
  obtain⟨b,c,d⟩:=Xef x f;unfold hpF;cases hc:(Z1y x f).2.1 !=(0:Int)
  ·have e:Zsq (Z1y x f).1=0:=by
    grind
   exact Q6r r _ e
  ·have a:(Z1y x f).2.1≠0:=by simpa using hc
   exact⟨λh=>absurd h a,λ_=>Q0p h (by omega) (by omega)⟩
structure DQ(c:Zc)(f:Zf):Prop where
 inv:Z4 30000 c
 fok:FOK f
 key:∃v,KC v c
def Zzl(c:Zc)(s1:Zg)(k:Int):Zg:=bif k==(4:Int)then(s1.1,s1.2.1,s1.2.2.1,s1.2.2.2.1,s1.2.2.2.2.1,s1.2.2.2.2.2.1,s1.2.2.2.2.2.2.1,s1.2.2.2.2.2.2.2.1,false,s1.2.2.2.2.2.2.2.2.2) else bif k==(5:Int)then(s1.1,s1.2.1,s1.2.2.1,s1.2.2.2.1,s1.2.2.2.2.1,s1.2.2.2.2.2.1,s1.2.2.2.2.2.2.1,s1.2.2.2.2.2.2.2.1,s1.2.2.2.2.2.2.2.2.1,false,s1.2.2.2.2.2.2.2.2.2.2) else bif k==(17:Int)then(s1.1,s1.2.1,s1.2.2.1,s1.2.2.2.1,(bif wcB s1 then rwV s1.2.2.2.2.1 (Qna c) (Z7q c)else s1.2.2.2.2.1),s1.2.2.2.2.2.1,s1.2.2.2.2.2.2.1,s1.2.2.2.2.2.2.2.1,s1.2.2.2.2.2.2.2.2.1,s1.2.2.2.2.2.2.2.2.2.1,false,s1.2.2.2.2.2.2.2.2.2.2.2) else bif k==(21:Int)then(s1.1,s1.2.1,clB s1.2.2.1,s1.2.2.2) else s1
theorem Q0w(c:Zc)(s:Zg)(k:Int):(Zzl c s k).1=s.1:=by
 unfold Zzl;cases k==(4:Int)<;>cases k==(5:Int)<;>cases k==(17:Int)<;>cases k==(21:Int)<;>rfl
theorem Qvl(c:Zc)(s:Zg)(k:Int):(Zzl c s k).2.1=s.2.1:=by
 unfold Zzl;cases k==(4:Int)<;>cases k==(5:Int)<;>cases k==(17:Int)<;>cases k==(21:Int)<;>rfl
theorem Qvk(c:Zc)(s:Zg)(k:Int):(Zzl c s k).2.2.2.1=s.2.2.2.1:=by
 unfold Zzl;cases k==(4:Int)<;>cases k==(5:Int)<;>cases k==(17:Int)<;>cases k==(21:Int)<;>rfl
theorem Q9n(c:Zc)(s:Zg)(k:Int):wcB (Zzl c s k)=wcB s:=by
 unfold Zzl;cases k==(4:Int)<;>cases k==(5:Int)<;>cases k==(17:Int)<;>cases k==(21:Int)<;>rfl
abbrev Xjj(c:Zc)(l:List Zg):Zc:=(c.1,c.2.1,c.2.2.1,l,c.2.2.2.2)
noncomputable def mkC(c:Zc)(f:Zf):Zc:=bif f.1==(16:Int)then(c.1,c.2.1,c.2.2.1,c.2.2.2.1,c.2.2.2.2.1,rwV c.2.2.2.2.2.1 (Qna c) (Z7q c),c.2.2.2.2.2.2.1,c.2.2.2.2.2.2.2.1,c.2.2.2.2.2.2.2.2.1,c.2.2.2.2.2.2.2.2.2.1,false,c.2.2.2.2.2.2.2.2.2.2.2) else bif f.1==(18:Int)then bif f.2.2.2.2.2.2.2.2.1 then(c.1,c.2.1,c.2.2.1,c.2.2.2.1,c.2.2.2.2.1,c.2.2.2.2.2.1,c.2.2.2.2.2.2.1,c.2.2.2.2.2.2.2.1,c.2.2.2.2.2.2.2.2.1,raV c.2.2.2.2.2.2.2.2.2.1,c.2.2.2.2.2.2.2.2.2.2.1,c.2.2.2.2.2.2.2.2.2.2.2.1,false,c.2.2.2.2.2.2.2.2.2.2.2.2.2) else(c.1,c.2.1,c.2.2.1,c.2.2.2.1,c.2.2.2.2.1,c.2.2.2.2.2.1,c.2.2.2.2.2.2.1,c.2.2.2.2.2.2.2.1,raV c.2.2.2.2.2.2.2.2.1,c.2.2.2.2.2.2.2.2.2.1,c.2.2.2.2.2.2.2.2.2.2.1,false,c.2.2.2.2.2.2.2.2.2.2.2.2) else bif f.1==(20:Int)then(c.1,c.2.1,c.2.2.1,c.2.2.2.1,clB c.2.2.2.2.1,c.2.2.2.2.2) else bif f.1==(22:Int)then bif f.2.2.2.2.2.2.2.2.1 then(c.1,c.2.1,c.2.2.1,c.2.2.2.1,c.2.2.2.2.1,c.2.2.2.2.2.1,c.2.2.2.2.2.2.1,(c.2.2.2.2.2.2.2.1.1,c.2.2.2.2.2.2.2.1.2.1,(-1:Int),c.2.2.2.2.2.2.2.1.2.2.2),c.2.2.2.2.2.2.2.2) else(c.1,c.2.1,c.2.2.1,c.2.2.2.1,c.2.2.2.2.1,c.2.2.2.2.2.1,(c.2.2.2.2.2.2.1.1,c.2.2.2.2.2.2.1.2.1,(-1:Int),c.2.2.2.2.2.2.1.2.2.2),c.2.2.2.2.2.2.2) else if 0<=Q7 c.2.2.2.1 f.2.1 then Xjj c (c.2.2.2.1.set (Q7 c.2.2.2.1 f.2.1).toNat (Zzl c (c.2.2.2.1.getD (Q7 c.2.2.2.1 f.2.1).toNat Zj) f.1))else c
theorem Xdp(f:Zf):Zb1 f=some ((((f.1==(4:Int))||(f.1==(5:Int)))||(f.1==(8:Int)))||((f.1==(17:Int))||(f.1==(21:Int))),()):=by
 grind[Zb1,We]
theorem Qty{K:Nat}{c:Zc}(h:Z4 K c)(hK:K<=1000000)(f:Zf)(h17:f.1=17-> ∀s∈c.2.2.2.1,s.1=f.2.1->wcB s=true):Zr0 c f=some (bif Zbx c then mkC c f else c,()):=by
 have v:=h.str.len;obtain⟨w,-,r⟩:=Zz3 (l:=c.2.2.2.1) (by omega) f.2.1;unfold Zr0;simp only[X4,Kt];rw[Zkg h hK,Obs,Z39 (by omega),Z65 (by omega),Obs];unfold Zml Ze4;simp only[Zv1 h hK,Z0k h hK,Obs,Xdp,bO,X4,Kt,Qub,Qku,Xdu,rwE,raE,clE];cases Zbx c
 ·rfl
 ·simp only[Ont,Bool.false_or,Oct];by_cases m:0<=Q7 c.2.2.2.1 f.2.1
  ·have t:=Z5 (d:=Zj) (show(Q7 c.2.2.2.1 f.2.1).toNat<c.2.2.2.1.length by omega);rw[Zn (p:=Q7 c.2.2.2.1 f.2.1<0),Bool.and_false,Ocf,Zb];unfold mkC;rw[if_pos m];generalize y:(Q7 c.2.2.2.1 f.2.1).toNat=j at*
   have n:j<c.2.2.2.1.length:=by omega
   have u:∀x:Zg,(c.2.2.2.1.set j x).getD j Zj=x:=λx=>by
    rw[List.getD_eq_getElem?_getD,List.getElem?_set_self n];rfl
   by_cases a:f.1=16
   ·rw[a];rfl
   by_cases b:f.1=18
   ·rw[b];cases f.2.2.2.2.2.2.2.2.1<;>rfl
   by_cases e:f.1=20
   ·rw[e];rfl
   by_cases g:f.1=22
   ·rw[g];cases f.2.2.2.2.2.2.2.2.1<;>rfl
   simp only[beq_false_of_ne a,beq_false_of_ne b,beq_false_of_ne e,beq_false_of_ne g,Ocf];by_cases o:f.1=4
   ·rw[o];rfl
   by_cases q:f.1=5
   ·rw[q];rfl
   by_cases i:f.1=17
   ·have z:=h17 i _ t (r m);rw[i];simp only[u,List.set_set];unfold Zzl
    grind
   by_cases k:f.1=21
   ·rw[k];rfl
   simp only[beq_false_of_ne o,beq_false_of_ne q,beq_false_of_ne i,beq_false_of_ne k,Ocf,Zzl,Qxc];cases (f.1==8)<;>rfl
  ·rw[Zl (p:=Q7 c.2.2.2.1 f.2.1<0),Bool.and_true];unfold mkC;rw[if_neg m];by_cases a:f.1=16
   ·rw[a];rfl
   by_cases b:f.1=18
   ·rw[b];cases f.2.2.2.2.2.2.2.2.1<;>rfl
   by_cases e:f.1=20
   ·rw[e];rfl
   by_cases g:f.1=22
   ·rw[g];cases f.2.2.2.2.2.2.2.2.1<;>rfl
   simp only[beq_false_of_ne a,beq_false_of_ne b,beq_false_of_ne e,beq_false_of_ne g,Ocf]
   grind
theorem Q5i(n:Int):Zd9 n=some (Qj [IntKind.u8.wrap (bits .and .i64 n (255:Int))],()):=by
 unfold Zd9 Znv;have h:=Qsx n;generalize bits .and .i64 n (255:Int)=m at*
 rw[show Z8 1 1 7=some (true,())from rfl];simp only[Obs,Ont,Bool.false_or];rw[Zo (Zn)];show Option.bind (Yd 2 m 1 [] 0) _=_;unfold Yd;rw[Zm (by decide),Zb (by decide)];simp only;rw[Zb (by simp[Yh,Qj]),Zb (by decide)];unfold Yd;have a:Int.tmod m 256=m:=by grind
 have b:Int.tdiv m 256=0:=by grind
 rw[show IntKind.i64.wrap ((0:Int)+1)=1 from rfl,Zo (by decide),a,b,show IntKind.i64.wrap (0:Int)=0 from rfl];simp
theorem Z7p(l:List Int):(Qj l).length=l.length:=by simp[Qj]
def qsz(n:Int):Int:=if n<0\/n>4611686018427387903 then 0 else if n<64 then 1 else if n<16384 then 2 else if n<1073741824 then 4 else 8
theorem Zl7(n:Int):0<=qsz n/\qsz n<=8:=by
 grind[qsz]
theorem szS(n:Int):Zim n=some (qsz n,()):=by
 unfold Zim qsz
 grind
theorem szI(n:Int):Zxs n=some (qsz n,()):=by
 rw[<-szS];unfold Zxs Zim;rw[Z5w,Obs];have:(!Zd5 n)=(decide (n<0)||decide (n>4611686018427387903)):=by
  unfold Zd5
  grind
 rw[this]
theorem Xcj(k:Int):∀(N m:Nat)(n:Int)(o:List Int),m<N->m<=o.length->0<o.length->o.length<=8->T (Ze6 N n k o ((m:Int)-1)) λr=>r.1.length=o.length
 |0,_,_,_,h,_,_,_=>by omega
 |N+1,0,n,o,_,_,a,_=>by
  unfold Ze6;have j:∀x:List Int,x.length=o.length->T (Ze5 x) λr=>r.1.length=o.length:=λx hx=>T.pure (by simp_all[Z7p]);exact T.ite (λh=>by simp at h) λ_=>T.if (T.guard (by omega) (T.guard (by omega) (j _ (by simp)))) (T.if (T.guard (by omega) (T.guard (by omega) (j _ (by simp)))) (T.if (T.guard (by omega) (T.guard (by omega) (j _ (by simp)))) (j _ rfl)))
 |N+1,m+1,n,o,d,e,a,f=>by
  unfold Ze6;have b:IntKind.i64.wrap (((m+1:Nat):Int)-1-1)=(m:Int)-1:=by grind[Zs]
  refine T.ite (λ_=>T.guard (by omega) (T.guard (by omega) ?_)) λh=>by simp_all
  rw[b];exact(Xcj k N m _ _ (by omega) (by grind) (by simp_all) (by simp_all)).mono λy c=>by rw[c];simp
theorem enI(n:Int):T (Zah n) λr=>(r.1.length:Int)=qsz n:=by
 unfold Zah;rw[szI,Obs];have b:=Zl7 n;by_cases a:qsz n=0
 ·simp_all[T.pure]
 ·have e:(qsz n==0)=false:=by simpa using a
  rw[Zo e,Zb (by grind[Qd])]
  grind[Zs,Xcj,Zm5]
def Zs1:List Int->Int|[]=>0|x::r=>qsz x+Zs1 r
theorem Qmq:∀l:List Int,0<=Zs1 l/\Zs1 l<=8*l.length
 |[]=>by simp[Zs1]
 |x::r=>by
  have:=Qmq r;have:=Zl7 x
  grind[Zs1]
theorem Xcn(l:List Int)(hl:l.length<=1000)(hq:∀x∈l,fq x=true):∀(N i:Nat)(s:List UInt8),l.length-i<N->i<=l.length->s.length<=8*i->T (Zhs N s l (l.length:Int) (i:Int)) λr=>(r.1.length:Int)=s.length+Zs1 (l.drop i)
 |0,_,_,h,_,_=>by omega
 |N+1,i,s,c,e,f=>by
  unfold Zhs;refine T.ite (λa=>?_) λa=>T.pure (by simp_all[List.drop_eq_nil_of_le,Zs1]);have a:=Ode a;have b:=hq _ (Z5 (d:=0) (show i<l.length by omega));rw[Zb,Qr2,Obs,show(i:Int).toNat=i from rfl,b];refine T.ite (λh=>by cases h) λ_=>((enI _).bind λt g=>?_)
  have j:=Zl7 (l.getD i 0);refine T.guard (by grind[Yh]) ?_;rw[Zr (m:=l.length),Xh (d:=0) (show i<l.length by omega)];exact(Xcn l hl hq N (i+1) _ (by omega) (by omega) (by grind)).mono λy k=>by grind[Zs1]
theorem esI(l:List Int)(hl:l.length<=1000)(hq:∀x∈l,fq x=true):T (Ze7 l) λr=>(r.1.length:Int)=Zs1 l:=by
 grind[Ze7,Xcn,Zl2]
def fsz(f:Zf):Int:=if Xz f=true then 1+(if f.1=4 then qsz f.2.1+qsz f.2.2.2.2.2.1+qsz f.2.2.2.2.2.2.2.1 else if f.1=5 then qsz f.2.1+qsz f.2.2.2.2.2.1 else if f.1=8 then qsz f.2.1+(if f.2.2.1=0 then 0 else qsz f.2.2.1)+qsz f.2.2.2.1.length+f.2.2.2.1.length else if f.1=17\/f.1=21 then qsz f.2.1+qsz f.2.2.2.2.2.2.1 else qsz f.2.2.2.2.2.2.1)else 0
structure FrF(f:Zf):Prop where
 kind:f.1=4\/f.1=5\/f.1=8\/f.1=16\/f.1=17\/f.1=18\/f.1=20\/f.1=21\/f.1=22
 st:fq f.2.1=true
 off:fq f.2.2.1=true
 code:fq f.2.2.2.2.2.1=true
 lim:fq f.2.2.2.2.2.2.1=true
 fin:fq f.2.2.2.2.2.2.2.1=true
 len:f.2.2.2.1.length<=400
theorem frF{f:Zf}(h:Xz f=true):FrF f:=by
 unfold Xz at h;simp only[Oba,decide_eq_true_eq]at h;obtain⟨⟨⟨⟨⟨⟨⟨a,b⟩,c⟩,d⟩,e⟩,g⟩,i⟩,-⟩:=h;have hk:=Z57 a;simp only[Bool.or_eq_true,beq_iff_eq]at hk;exact⟨by omega,b,c,d,e,g,i⟩
theorem Qsr{a b:Int}(ha:fq a=true)(hb:fq b=true):∀x∈[a,b],fq x=true:=by simp[ha,hb]
theorem Qp9{a b c:Int}(ha:fq a=true)(hb:fq b=true)(hc:fq c=true):∀x∈[a,b,c],fq x=true:=by simp[ha,hb,hc]
theorem ap2{a b:List UInt8}{x y z:Int}(hz:x+y=z)(ha:(a.length:Int)=x)(hb:(b.length:Int)=y):(((a++b:List UInt8)).length:Int)=z:=by simp_all
theorem Xhq{f:Zf}(h:FOK f):T (Zm4 f) λr=>(r.1.length:Int)=fsz f:=by
 have A:=h;unfold FOK at A;unfold Zm4 fsz;rw[Zz4 _,Obs];by_cases s:Xz f=true
 ·have F:=frF s;rw[if_pos s,s];simp only[Ont,Ocf,X4];have w:∀k:Int,T (Jc k) λr=>(r.1.length:Int)=1:=λk=>T.pure rfl;have g:∀{a b:List UInt8}{x y:Int},(a.length:Int)=x->(b.length:Int)=y->x+y<=1000->a.length+b.length<=Yh:=λG H I=>by grind[Yh]
  have m:∀(k:Int)(l:List Int),l.length<=4->(∀x∈l,fq x=true)->T (Option.bind (Jc k) λt=>Option.bind (Ze7 l) λq=>Ze (t.1.length+q.1.length<=Yh)<|some (t.1++q.1,())) λr=>(r.1.length:Int)=1+Zs1 l:=λk l J B=>by
   have C:=Qmq l;exact(w k).bind λt i=>(esI l (by omega) B).bind λq c=>T.guard (g i c (by omega)) (T.pure (ap2 rfl i c))
  have u:∀(k n:Int),T (Option.bind (Jc k) λt=>Option.bind (Zah n) λq=>Ze (t.1.length+q.1.length<=Yh)<|some (t.1++q.1,())) λr=>(r.1.length:Int)=1+qsz n:=λk n=>by
   have C:=Zl7 n;exact(w k).bind λt i=>(enI n).bind λq c=>T.guard (g i c (by omega)) (T.pure (ap2 rfl i c))
  have d:∀b:Bool,TT (Zs9 b):=λb=>by cases b<;>exact T.tt
  rcases F.kind with e|e|e|e|e|e|e|e|e
  ·rw[e];exact(m _ _ (by simp) (Qp9 F.st F.code F.fin)).mono λy p=>by grind[Zs1]
  ·rw[e];exact(m _ _ (by simp) (Qsr F.st F.code)).mono λy p=>by simp_all[Zs1]
  ·rw[e];simp only[Int.reduceBEq,Int.reduceEq,Ocf,Oct,if_false,if_true];have K:=Zl7 f.2.1;have L:=Zl7 f.2.2.1;have M:=Zl7 (f.2.2.2.1.length:Int);have z:=F.len;have j:∀(o:List UInt8)(x:Int),(o.length:Int)=x->x<=100->T (Zhr f o) λr=>(r.1.length:Int)=x+qsz f.2.2.2.1.length+f.2.2.2.1.length:=λo x D hx=>by
    unfold Zhr;refine(enI _).bind λt i=>T.guard (g D i (by omega)) (T.guard ?_ (T.pure ?_))
    ·grind[Yh]
    grind
   refine(d _).bind λ_ _=>(d _).bind λ_ _=>(w _).bind λt i=>(enI _).bind λq c=>T.guard (g i c (by omega)) ?_;refine T.ite (λh=>?_) λh=>?_
   ·have E:f.2.2.1≠0:=by simpa using h
    rw[if_neg E];refine(enI _).bind λN v=>T.guard (g (ap2 rfl i c) v (by omega)) ((j _ _ (ap2 rfl (ap2 rfl i c) v) (by omega)).mono λy p=>by rw[p];omega)
   grind
  ·simp_all[Jp]
  ·rw[e];unfold Jp Za3;simp only[Int.reduceBEq,Ocf,Oct,X4];exact(m _ _ (by simp) (Qsr F.st F.lim)).mono λy p=>by simp_all[Zs1]
  ·rw[e];unfold Jp Za3;simp only[Int.reduceBEq,Ocf];exact(d _).bind λ_ _=>(u _ _).mono λy p=>by rw[p];simp
  ·simp_all[Jp]
  ·rw[e];unfold Jp Za3;simp only[Int.reduceBEq,Ocf,Oct,X4];exact(m _ _ (by simp) (Qsr F.st F.lim)).mono λy p=>by simp_all[Zs1]
  ·rw[e];unfold Jp Za3;simp only[Int.reduceBEq,Ocf];exact(d _).bind λ_ _=>(u _ _).mono λy p=>by rw[p];simp
 ·rw[if_neg s];have s:Xz f=false:=by simpa using s
  rw[s];exact T.pure rfl
theorem Q8e{f:Zf}(h:FOK f):Zm6 f=some (fsz f,()):=by
 obtain⟨⟨y,u⟩,e,a⟩:=Xhq h;simp_all[Zm6]
theorem Q97{f:Zf}(h:Xz f=true):1<=fsz f:=by
 have F:=frF h;unfold fsz;rw[if_pos h];have a:=Zl7 f.2.1;have b:=Zl7 f.2.2.1;have c:=Zl7 f.2.2.2.2.2.1;have d:=Zl7 f.2.2.2.2.2.2.1;have e:=Zl7 f.2.2.2.2.2.2.2.1;have g:=Zl7 f.2.2.2.1.length;omega
theorem Q9s{l:List Zf}(h:Qek l):TT (Zoi l):=by
 have p:∀(N i:Nat)(s:List UInt8),l.length-i<N->i<=l.length->s.length<=400->TT (Zeq N s l (l.length:Int) (i:Int)):=by
  intro N
  induction N with
  |zero=>omega
  |succ N o=>
   intro i s q r u;have v:=h.1;unfold Zeq;refine T.ite (λj=>?_) λ_=>T.tt;have j:=Ode j;have k:FOK (l.getD i Qk):=h.2 _ (Z5);have f:=k;unfold FOK at f;rw[Zb,show(i:Int).toNat=i from rfl,Zz4 _,Obs];refine T.if T.tt ((Xhq k).bind λt w=>?_);have x:fsz (l.getD i Qk)<=1100:=by
    have a:=Zl7 (l.getD i Qk).2.1;have b:=Zl7 (l.getD i Qk).2.2.1;have c:=Zl7 (l.getD i Qk).2.2.2.2.2.1;have d:=Zl7 (l.getD i Qk).2.2.2.2.2.2.1;have e:=Zl7 (l.getD i Qk).2.2.2.2.2.2.2.1;have g:=Zl7 (l.getD i Qk).2.2.2.1.length
    grind[fsz]
   refine T.guard (by grind[Yh]) (T.ite (λ_=>T.tt) λn=>?_);have n:=of_decide_eq_false n;rw[Zr (m:=l.length)];exact o (i+1) _ (by omega) (by omega) (by omega)
 grind[Zoi,Zja]
def pkD(r:Xu)(o:Int):Nat->List Int|0=>[]|n+1=>pkD r o n++[IntKind.u8.wrap (r.2.2.2.1.getD (Int.tmod (o+n) r.1).toNat 0)]
theorem Qmj(r:Xu)(o:Int):∀n,(pkD r o n).length=n
 |0=>rfl
 |n+1=>by simp[pkD,Qmj r o n]
structure Xdn(r:Xu):Prop where
 size:0<r.1/\r.1<=64
 len:(r.2.2.2.1.length:Int)=r.1
 b0:0<=r.2.1
 be:r.2.1<=r.2.2.1
 sz:r.2.2.1-r.2.1<=r.1
 eM:r.2.2.1<=4611686018427387903
 cell:∀j,j<r.2.2.2.1.length->0<=r.2.2.2.1.getD j 0/\r.2.2.2.1.getD j 0<=255
theorem Q78{r:Xu}(hl:r.2.2.2.1.length<=1048576)(h:Zuy r=true):Xdn r:=by
 obtain⟨a,b,c,d,e,f,g⟩:=(Zw8 r hl).2 h;exact⟨a,b,c,d,e,f,g⟩
theorem Xc4{r:Xu}(h:Xdn r)(o n:Nat)(ho:(o:Int)+n<=4611686018427387903)(hn:n<=64):∀(N i:Nat),n-i<N->i<=n->Znb N (o:Int) r (pkD r o i) (n:Int) (i:Int)=some (Qj (pkD r o n),true,())
 |0,_,h,_=>by omega
 |N+1,i,b,c=>by
  unfold Znb;by_cases a:i<n
  ·have d:=Qhf (x:=(o:Int)+(i:Int)) (n:=r.1) (by omega) h.size.1;have e:=h.len;rw[Zm (Zl),Zb,Zs];simp only;rw[Zb,Zb (by grind[Qd,Qmj]),Zr a];exact Xc4 h o n ho hn N (i+1) (by omega) (by omega)
  grind
theorem Qwb{r:Xu}(hl:r.2.2.2.1.length<=1048576):Zur r=some (Zuy r,()):=by simp_all[Q1k,Zw8]
theorem Xia{r:Xu}(hl:r.2.2.2.1.length<=1048576)(h:Zuy r=true){o n:Int}(h1:r.2.1<=o)(h2:0<=n)(h3:o+n<=r.2.2.1):Zpm r o n=some (Qj (pkD r o n.toNat),true,()):=by
 have F:=Q78 hl h;have:=F.b0;have:=F.sz;have:=F.eM;have:=F.size
 unfold Zpm;rw[Qwb hl,h,Obs,Zn (p:=n<0),Zel,Zs,Zn (p:=n>r.2.2.1-o),Zl (p:=o>=r.2.1),Zl (p:=o<=r.2.2.1)];obtain⟨a,rfl⟩:=Int.eq_ofNat_of_zero_le (show 0<=o by omega);obtain⟨b,rfl⟩:=Int.eq_ofNat_of_zero_le h2;exact Xc4 F a b (by omega) (by omega) _ 0 (by simp[Zpu]) (by omega)
abbrev Zo9(s:Zp):Zi:=s.2.2.1.getD 0 Zz
noncomputable def Qzj(s:Zp)(limit:Int):Prop:=(Z9h s=true/\s.1<=2)/\((s.2.2.1=[]/\s.2.2.2.2.2.2.1=1)\/(s.2.2.1≠[]/\(Zo9 s).1<min (Zo9 s).2.1 limit))
def npN(s:Zp)(most limit:Int):Int:=min most (min (Zo9 s).2.1 limit- (Zo9 s).1)
def pkV(r:Xu)(o:Int)(n:Nat):List UInt8:=if r.2.1<=o then Qj (pkD r o n)else[]
theorem Q13(r:Xu)(o:Int)(n:Nat):(pkV r o n).length<=n:=by
 grind[pkV,Z7p,Qmj]
theorem Xe5{r:Xu}(hl:r.2.2.2.1.length<=1048576)(h:Zuy r=true){o n:Int}(h2:0<=n)(h3:o+n<=r.2.2.1):∃b,Zpm r o n=some (pkV r o n.toNat,b,()):=by
 unfold pkV;by_cases a:r.2.1<=o
 ·simp_all[Xia]
 simp_all[if_neg,Zpm,Qwb,Zn,Zel]
noncomputable def npP(s:Zp)(most limit:Int):Qy:=if s.2.2.1=[]then(s.2.2.2.2.2.1,[],true,())else((Zo9 s).1,pkV s.2.1 (Zo9 s).1 (npN s most limit).toNat,(s.2.2.2.2.2.2.1==(1:Int))&&((Zo9 s).1+npN s most limit==s.2.2.2.2.2.1),())
theorem Q7s{K:Int}{s:Zp}(h:Zbd K s)(hp:s.2.2.1≠[]):0<=(Zo9 s).1/\(Zo9 s).1<(Zo9 s).2.1/\(Zo9 s).2.1<=s.2.1.2.2.1:=by
 have b:0<s.2.2.1.length:=List.length_pos_iff.2 hp;have a:Zo9 s∈s.2.2.1:=Z5 (d:=Zz) b;have:=Q5.1 (Zqe h.pend.1 _ a).2;have:=h.pend.2 _ a;omega
open Classical in
noncomputable def npR(s:Zp)(most limit:Int):Qy×Bool×Unit:=if Qzj s limit then(npP s most limit,true,())else(Zds,false,())
theorem Xhz{K:Int}{s:Zp}(h:Zbd K s)(hK:K<=1000000){most limit:Int}(hm:1<=most)(hl:0<=limit)(hM:most<=1000):Zvt s most limit=some (npR s most limit):=by
 have t:=h.cells;unfold Zvt Zl6 npR;rw[Z94 h hK,Qz4 h hK,Obs];simp only[Zel,bA,bA2,Obs];by_cases f:Z9h s=true/\s.1<=2
 ·have F:=(Qxh h hK).1 f.1;rw[f.1,Zl (p:=s.1<=2),Zl (p:=s.1>=0) F.st.1];simp only[Bool.and_self,Ont,Ocf];by_cases d:s.2.2.1=[]
  ·rw[d];simp only[List.length_nil,Int.natCast_zero,BEq.rfl,Oct];by_cases i:s.2.2.2.2.2.2.1=1
   ·have c:=(F.no (by omega)).fin;unfold Qn1 at c;have m:0<=s.2.2.2.2.2.1/\s.2.2.2.2.2.1<=K:=by
     simp only[i,Bool.not_or,Bool.not_not,Oba,Bool.not_eq_true',Bool.and_eq_false_iff,bne_eq_false_iff_eq,beq_iff_eq]at c;obtain⟨a,b⟩:=c;have u:=h.eK;have m:=h.e0
     simp_all
    rw[if_pos ⟨f,.inl ⟨d,i⟩⟩];unfold npP;rw[if_pos d,i];simp only[Zs9,BEq.rfl,Oct,Obs]
    grind[Zs]
   ·rw[if_neg (λhn=>by rcases hn.2 with hn|hn;all_goals simp_all),beq_false_of_ne i];simp only[Zs9,Ocf,Obs,Int.mul_zero];rfl
  ·have k:0<s.2.2.1.length:=List.length_pos_iff.2 d;obtain⟨v,w,x⟩:=Q7s h d;have y:=(Q78 (by omega) F.ring).eM;have z:(Zo9 s).1=(s.2.2.1.getD 0 Zz).1:=rfl;have A:(Zo9 s).2.1=(s.2.2.1.getD 0 Zz).2.1:=rfl;have q:(((s.2.2.1.length:Nat):Int)==0)=false:=by simp;exact d
   rw[Zo q,Zb,show(0:Int).toNat=0 from rfl,Zs (n:=(s.2.2.1.getD 0 Zz).2.1- (s.2.2.1.getD 0 Zz).1)];by_cases g:limit<=(Zo9 s).1
   ·rw[Zm (Zl g),if_neg (λhn=>by rcases hn.2 with hn|hn;all_goals grind)]
   ·rw[Zo (Zn g),if_pos ⟨f,.inr ⟨d,by omega⟩⟩];have j:∀n:Int,n=npN s most limit->Zk9 s Zds (Zo9 s) n=some (npP s most limit,true,()):=λn e=>by
     have hn:1<=npN s most limit/\(Zo9 s).1+npN s most limit<=(Zo9 s).2.1:=by unfold npN;omega
     subst e;unfold Zk9;rw[Zo (Zn),Zs];obtain⟨b,B⟩:=Xe5 (r:=s.2.1) (by omega) F.ring (o:=(Zo9 s).1) (n:=npN s most limit) (by omega) (by omega);simp_all[npP]
    by_cases l:limit<(Zo9 s).1+min ((Zo9 s).2.1- (Zo9 s).1) most
    ·rw[Zs,Zm (Zl l),Zs]
     grind[npN]
    ·rw[Zs,Zo (Zn l)]
     grind[npN]
 ·rw[if_neg (λhn=>f hn.1)]
  grind
theorem Z96{s:Zp}{most limit:Int}(hm:most<=60):(npP s most limit).2.1.length<=60:=by
 unfold npP;split
 ·simp
 ·have:=Q13 s.2.1 (Zo9 s).1 (npN s most limit).toNat
  grind[npN]
abbrev pfF(id:Int)(p:Qy):Zf:=((8:Int),id,p.1,p.2.1,p.2.2.1,(0:Int),(0:Int),(0:Int),false,())
theorem Xe7{K:Int}{s:Zp}(h:Zbd K s)(hK:K<=1000000){id most limit:Int}(hi:0<=id/\id<=4611686018427387903)(hm:1<=most/\most<=60)(hn:Qzj s limit):Xz (pfF id (npP s most limit))=true:=by
 have F:=(Qxh h hK).1 hn.1.1;have g:=h.cells;have i:=(Q78 (by omega) F.ring).eM;have j:fq id=true:=by simp_all[fq]
 have e:=Z96 (s:=s) (limit:=limit) hm.2;have k:0<=(npP s most limit).1/\(npP s most limit).1+(npP s most limit).2.1.length<=4611686018427387903:=by
  unfold npP;by_cases d:s.2.2.1=[]
  ·rw[if_pos d];rcases hn.2 with⟨-,f⟩|⟨hx,-⟩
   ·have c:=(F.no (by have:=hn.1.2;omega)).fin;unfold Qn1 at c;simp only[f,Bool.not_or,Bool.not_not,Oba,Bool.not_eq_true',Bool.and_eq_false_iff,bne_eq_false_iff_eq,beq_iff_eq]at c;obtain⟨a,b⟩:=c;have l:=h.eK;have m:=h.e0
    simp_all
   simp_all
  ·rw[if_neg d];obtain⟨n,o,p⟩:=Q7s h d;have a:=Q13 s.2.1 (Zo9 s).1 (npN s most limit).toNat
   have b:npN s most limit<=(Zo9 s).2.1- (Zo9 s).1/\npN s most limit<=most:=by unfold npN;omega
   grind
 grind[Xz,Yq,fq]
noncomputable def pfL(s:Zp)(id room limit:Int):Nat->Qy×Bool×Unit|0=>(Zds,false,())|m+1=>if fsz (pfF id (npP s ((m+1:Nat):Int) limit))<=room then(npP s ((m+1:Nat):Int) limit,true,())else pfL s id room limit m
open Classical in
noncomputable def pfR(s:Zp)(id room limit:Int)(m:Nat):Qy×Bool×Unit:=if Qzj s limit then pfL s id room limit m else(Zds,false,())
theorem Q11{K:Nat}{s:Zg}(h:Xl K s)(hK:K<=1000000){id room limit:Int}(hi:0<=id/\id<=4611686018427387903)(hl:0<=limit)(t:Qy):∀(N m:Nat),m<N->m<=60->Zis N id room t s limit (m:Int)=some (pfR s.2.1 id room limit m)
 |0,_,h,_=>by omega
 |N+1,0,_,_=>by
  unfold Zis pfR;rw[Zo (Zn)];split<;>rfl
 |N+1,m+1,c,d=>by
  unfold Zis;rw[Zm (Zl),Xhz h.snd (by omega) (by omega) hl (by omega),Obs];have e:=Q11 h hK hi hl t N m (by omega) (by omega) (room:=room);have f:IntKind.i64.wrap (((m+1:Nat):Int)-1)=(m:Int):=by grind[Zs]
  unfold npR pfR;by_cases a:Qzj s.2.1 limit
  ·rw[if_pos a,if_pos a];have b:FOK (pfF id (npP s.2.1 ((m+1:Nat):Int) limit)):=by grind[FOK,Z96]
   have g:=Q97 (Xe7 h.snd (by omega) hi (most:=((m+1:Nat):Int)) (by omega) a);simp only[Oct,Zki,Obs];rw[Q8e b,Obs,Zel,Obs,pfL,Zl (p:=fsz _>=1)];by_cases i:fsz (pfF id (npP s.2.1 ((m+1:Nat):Int) limit))<=room
   all_goals simp_all[Zn,if_neg,pfR]
  simp_all[pfR]
theorem Qvg(c:Xy):Zbr c=some (bif Qaf c then c.1-c.2.1 else 0,()):=by
 unfold Zbr;rw[Qqf,Obs];cases h:Qaf c
 ·rfl
 ·obtain⟨a,b,d,-,-,-,-⟩:=Qnm.1 h;simp only[Ont,Ocf,Oct]
  grind[Zs]
def Xer(c:Zc)(s:Zg):Int:=min s.2.2.1.1 (s.2.1.2.2.2.2.2.2.2.1+(c.2.2.2.2.1.1-c.2.2.2.2.1.2.1))
open Classical in
noncomputable def pcR(c:Zc)(id room:Int):Qy×Bool×Unit:=if(Zbx c=true/\0<=Q7 c.2.2.2.1 id)/\(c.2.2.2.1.getD (Q7 c.2.2.2.1 id).toNat Zj).2.2.2.2.2.2.1=true/\3<=room then pfR (c.2.2.2.1.getD (Q7 c.2.2.2.1 id).toNat Zj).2.1 id room (Xer c (c.2.2.2.1.getD (Q7 c.2.2.2.1 id).toNat Zj)) (min room 60).toNat else(Zds,false,())
theorem Q1r{K:Nat}{c:Zc}(h:Z4 K c)(hK:K<=1000000)(hc:Zbx c=true){s:Zg}(hs:s∈c.2.2.2.1):0<=Xer c s/\IntKind.i64.wrap (s.2.1.2.2.2.2.2.2.2.1+(c.2.2.2.2.1.1-c.2.2.2.2.1.2.1))=s.2.1.2.2.2.2.2.2.2.1+(c.2.2.2.2.1.1-c.2.2.2.2.1.2.1):=by
 have C:=(Z7v h hK).1 hc;have S:=C.st h hK hs;obtain⟨d,e,f,-,-,-,-⟩:=Qnm.1 C.tot;obtain⟨g,i,j,-,-,-,-⟩:=S.cre;have a:=S.snd.sent;have b:=(h.str.all _ hs).snd.eK
 grind[Xer,Zs]
theorem Q39{K:Nat}{c:Zc}(h:Z4 K c)(hK:K<=1000000)(id room:Int):Zxr c id room=some (pcR c id room):=by
 have k:=h.str.len;obtain⟨m,-,e⟩:=Zz3 (l:=c.2.2.2.1) (by omega) id;unfold Zxr pcR;rw[Z39 (by omega),Z65 (by omega),Obs,Zv1 h hK,Z0k h hK,Obs];by_cases f:0<=Q7 c.2.2.2.1 id
 ·rw[Zn (p:=Q7 c.2.2.2.1 id<0)];have b:=Z5 (d:=Zj) (show(Q7 c.2.2.2.1 id).toNat<c.2.2.2.1.length by omega);have e:=e f;simp only;rw[Zb (λ_=>by omega)];generalize c.2.2.2.1.getD (Q7 c.2.2.2.1 id).toNat Zj=s at*
  by_cases a:(Zbx c=true/\0<=Q7 c.2.2.2.1 id)/\s.2.2.2.2.2.2.1=true/\3<=room
  ·obtain⟨g,i⟩:=Q1r h hK a.1.1 b;have S:=((Z7v h hK).1 a.1.1).st h hK b;have j:=S.id;rw[if_pos a,a.1.1,a.2.1,Zn (p:=room<3),Qvh,Qvg,Obs,((Z7v h hK).1 a.1.1).tot];simp only[Ont,Bool.or_self,Ocf,Oct];rw[Zb,i,show min (60:Int) room=((min room 60).toNat:Int) by omega];exact Q11 (h.str.all _ b) hK (by omega) g _ _ _ (by grind[Zpv]) (by omega)
  grind
 ·rw[if_neg (λh=>f h.1.2),Zl (p:=Q7 c.2.2.2.1 id<0)];simp_all[Zb]
theorem Qx7(r:Zi):∀(N:Nat)(pre rest:List Zi)(out:List Zi),(pre++rest).length<=1048576->rest.length<N->out.length<=pre.length->
  Zcc N [r] out (pre++rest) ((pre++rest).length:Int) (pre.length:Int)=some (out++rest.flatMap λx=>[r].flatMap (Z7u x),())
 |0,_,_,_,_,h,_=>by omega
 |N+1,pre,[],out,e,b,f=>by
  simp_all[Zcc]
 |N+1,pre,x::rest,out,e,b,f=>by
  have a:(pre++x::rest).length=pre.length+rest.length+1:=by simp;omega
  simp only[List.length_cons]at b;have j:(pre++[x])++rest=pre++x::rest:=by simp
  have k:((pre++[x]).length:Int)=((pre.length+1:Nat):Int):=by simp
  have c:IntKind.i64.wrap ((pre.length:Int)+1)=((pre.length+1:Nat):Int):=Zr (m:=pre.length+1);unfold Zcc;rw[Zm (Zl (by rw[a];omega)),Zb (by rw[a];omega),Zhp];rw[show Zkb [r] out x (pre++x::rest) ((pre++x::rest).length:Int) (pre.length:Int) [r] (([r]:List Zi).length:Int) 0=2 from rfl];unfold Wu;rw[Zm (Zl (by simp)),Zb (by simp)];have g:([r]:List Zi).getD (0:Int).toNat Zz=r:=rfl;simp only[g];have d:IntKind.i64.wrap ((0:Int)+1)=1:=rfl;by_cases h:max x.1 r.1<min x.2.1 r.2.1
  ·rw[Zm (Zl h),Zb (by grind[Qd]),d];unfold Wu;rw[Zo (Zn (by simp))];simp only[c];have i:=Qx7 r N (pre++[x]) rest (out++[(max x.1 r.1,min x.2.1 r.2.1,())]) (by simp;omega) (by omega) (by simp;omega);simp_all[Z7u]
  ·rw[Zo (Zn h),d];unfold Wu;rw[Zo (Zn (by simp))];simp only[c];have i:=Qx7 r N (pre++[x]) rest out (by simp;omega) (by omega) (by simp;omega);simp_all[Z7u]
def Qk7(l:List Zi)(r:Zi):List Zi:=if rsB (-1) l=true/\rsB (-1) [r]=true then l.flatMap λx=>[r].flatMap (Z7u x)else[]
theorem Xj7(l:List Zi)(r:Zi)(hl:l.length<=1048576):Zde l [r]=some (Qk7 l r,()):=Zzx l [r] hl (by simp)
theorem Xj6(l:List Zi)(r:Zi)(hl:l.length<=1048576):Zp6 l [r]=some (Qk7 l r,()):=by
 unfold Zp6 Qk7;rw[Zr7 l hl,Zr7 [r] (by simp),Obs];cases h1:rsB (-1) l
 ·simp
 ·cases h2:rsB (-1) [r]
  ·simp
  ·simp only[Ont,Ocf,Obs,Bool.or_self,and_self,if_true];have:=Qx7 r (Zee [r] [] l (l.length:Int) 0) [] l [] (by simpa using hl) (by simp[Zee]) (by simp);simpa using this
def eq1(l:List Zi)(r:Zi):Bool:=((l.length:Int)==1)&&eqV (Zw) (l.getD 0 Zz) r
theorem Xkd(l:List Zi)(r:Zi):Zan l [r]=some (eq1 l r,()):=by
 unfold Zan Kb eq1;by_cases h:(l.length:Int)=1
 ·have a:((l.length:Int) !=(([r]:List Zi).length:Int))=false:=by simp;omega
  rw[a,h];simp only[Ocf,BEq.rfl,Ota];rw[show Y3 l [r] 1 0=2 from rfl];unfold Xt;rw[Zm (by decide),Zb,Zb (by simp),show(0:Int).toNat=0 from rfl,show([r]:List Zi).getD 0 Zz=r from rfl];cases eqV (Zw) (l.getD 0 Zz) r
  ·rfl
  ·rfl
 grind
def Xfe(l:List Zi)(r:Zi):List Zi:=if rsB (-1) l=true/\Zf9 r=true then Z6c r l else l
def Xj2(l:List Zi)(r:Zi):List Zi:=if rsB (-1) l=true/\Zf9 r=true then Zk4 l r else l
theorem Qjj:∀(N:Nat)(pre rest:List Zi)(r:Zi)(out:List Zi),(pre++rest).length<=1048576->rest.length<N->out.length<=2*pre.length->
  V7 N r out (pre++rest) ((pre++rest).length:Int) (pre.length:Int)=some (out++Z6c r rest,())
 |0,_,_,_,_,_,h,_=>by omega
 |N+1,pre,[],r,out,e,c,f=>by
  simp_all[V7,Z6c]
 |N+1,pre,x::rest,r,out,e,c,f=>by
  have b:(pre++x::rest).length=pre.length+rest.length+1:=by simp;omega
  simp only[List.length_cons]at c;have j:(pre++[x])++rest=pre++x::rest:=by simp
  have k:((pre++[x]).length:Int)=((pre.length+1:Nat):Int):=by simp
  have d:∀a:List Zi,a.length<=2*pre.length+1->Zhu (λv=>V7 N v.1 v.2.1 v.2.2.1 v.2.2.2.1 v.2.2.2.2.1) r a x (pre++x::rest) ((pre++x::rest).length:Int) (pre.length:Int)=some (a++(if max x.1 r.2.1<x.2.1 then[(max x.1 r.2.1,x.2.1,())]else[])++Z6c r rest,()):=by
   intro a g;unfold Zhu;rw[Zr (m:=pre.length+1)];by_cases h:max x.1 r.2.1<x.2.1
   ·rw[Zm (Zl h),if_pos h,Zb (by grind[Qd])];have i:=Qjj N (pre++[x]) rest r (a++[(max x.1 r.2.1,x.2.1,())]) (by simp;omega) (by omega) (by simp;omega);simp_all
   ·rw[Zo (Zn h),if_neg h];have i:=Qjj N (pre++[x]) rest r a (by simp;omega) (by omega) (by simp;omega);simp_all
  unfold V7;rw[Zm (Zl (by rw[b];omega)),Zb (by rw[b];omega),Zhp];by_cases h:x.1<min x.2.1 r.1
  ·rw[Zm (Zl h),Zb (by grind[Qd]),d _ (by simp;omega)];simp[Z6c,Qs6,h]
  ·rw[Zo (Zn h),d _ (by omega)];simp[Z6c,Qs6,h]
theorem Qug(l:List Zi)(r:Zi)(hl:l.length<=1048576):Zr3 l r=some (Xfe l r,()):=by
 unfold Zr3 Xfe;rw[Zr7 l hl,Obs];cases h1:rsB (-1) l
 ·simp[Zuo l hl]
 ·simp only[Ont,Ocf,Qeb,Obs,Bool.false_or];cases h2:Zf9 r
  ·simp[Zuo l hl]
  ·have:=Qjj (Zft r [] l (l.length:Int) 0) [] l r [] (by simpa using hl) (by simp[Zft]) (by simp);simp_all
def Q3o(s:Zp)(p:Qy):Bool:=(((decide (p.1>=(0:Int)))&&(decide (p.1<=s.2.1.2.2.1)))&&(decide ((p.2.1.length:Int)<=(IntKind.i64.wrap (s.2.1.2.2.1-p.1)))))&&((!p.2.2.1)||((s.2.2.2.2.2.1 !=(-1:Int))&&((IntKind.i64.wrap (p.1+(p.2.1.length:Int)))==s.2.2.2.2.2.1)))
theorem Xkl(s:Zp)(p:Qy):Zsn s p=some (Q3o s p,()):=rfl
theorem Xkk{K:Int}{s:Zp}(h:Zbd K s)(hK:K<=1000000)(p:Qy):Zxu s p=some (Q3o s p,()):=by
 have f:=h.e0;have g:=h.eK
 unfold Zxu Q3o;by_cases a:0<=p.1
 ·by_cases b:p.1<=s.2.1.2.2.1
  ·by_cases c:(p.2.1.length:Int)<=s.2.1.2.2.1-p.1
   ·have e:IntKind.i64.wrap (p.1+(p.2.1.length:Int))=p.1+(p.2.1.length:Int):=Zs;rw[Zs (n:=s.2.1.2.2.1-p.1),e,Zn (p:=p.1<0),Zn (p:=p.1>s.2.1.2.2.1),Zn (p:=(p.2.1.length:Int)>s.2.1.2.2.1-p.1),Zl (p:=p.1>=0) a,Zl b,Zl c];simp only[Bool.or_self,Ocf,Bool.and_self,Ota];by_cases d:p.1+(p.2.1.length:Int)=s.2.2.2.2.2.1
    ·have:(s.2.2.2.2.2.1 != -1)=true:=by simp;omega
     simp_all
    grind
   grind[Zs]
  grind
 grind
abbrev rgP(p:Qy):Zi:=(p.1,IntKind.i64.wrap (p.1+(p.2.1.length:Int)),())
noncomputable def spG(s:Zp)(p:Qy):Bool:=(((Z9h s&&decide (s.1<=2))&&Q3o s p)&& !((p.2.1==([]:List UInt8))&&(!p.2.2.1)))&& !(p.2.2.1&&(s.2.2.2.2.2.2.1 !=(1:Int)))
noncomputable def Qed(s:Zp)(p:Qy):Bool:=spG s p&&((p.2.1==([]:List UInt8))||eq1 (Qk7 s.2.2.1 (rgP p)) (rgP p))
noncomputable def spY(s:Zp)(p:Qy):Zp:=bif p.2.1==([]:List UInt8)then s else(s.1,s.2.1,Xfe s.2.2.1 (rgP p),Xj2 s.2.2.2.1 (rgP p),s.2.2.2.2.1,s.2.2.2.2.2.1,s.2.2.2.2.2.2.1,max s.2.2.2.2.2.2.2.1 (rgP p).2.1,s.2.2.2.2.2.2.2.2)
noncomputable def spZ(s:Zp)(p:Qy):Zp:=bif p.2.2.1 then((spY s p).1,(spY s p).2.1,(spY s p).2.2.1,(spY s p).2.2.2.1,(spY s p).2.2.2.2.1,(spY s p).2.2.2.2.2.1,(2:Int),(spY s p).2.2.2.2.2.2.2)else spY s p
noncomputable def spS(s:Zp)(p:Qy):Zp:=(stF (spZ s p),(spZ s p).2)
theorem Xbl(s:Zp)(p:Qy):(spY s p).2.2.2.2.2.2.1=s.2.2.2.2.2.2.1:=by grind[spY]
theorem Xdd{K:Int}{s:Zp}(h:Zbd K s)(hK:K<=1000000)(p:Qy):Zn0 s p=some (bif Qed s p then spS s p else s,Qed s p,()):=by
 have d:=Q4 h.pend h.e0 h.eK hK;have f:=Q4 h.flight h.e0 h.eK hK;unfold Zn0;rw[Zw9 h hK,Obs,Qz4 h hK,Obs];simp only[Xkl,bO];have e:(((((!Z9h s)||decide (s.1>2))|| !(!((!Z9h s)||decide (s.1>2))&&Q3o s p))||((p.2.1==([]:List UInt8))&&(!p.2.2.1)))||(p.2.2.1&&(s.2.2.2.2.2.2.1 !=(1:Int))))= !spG s p:=by
  have:decide (s.1>2)= !decide (s.1<=2):=by grind
  simp_all[spG]
 rw[e];have fin:∀y:Zp,y=spY s p->Zdi p Zaw y=some (spS s p,true,()):=λy b=>by
  unfold Zdi Zg4 spS spZ;rw[b];cases p.2.2.1
  all_goals simp_all[Quo]
 unfold Qed;cases hg:spG s p
 ·rfl
 ·simp only[Ont,Ocf,Ota];cases hd:p.2.1==([]:List UInt8)
  ·simp only[Bool.not_false,Oct,Zox,Obs,Bool.false_or];rw[Xj7 _ _ (by omega),Obs];have a:(((Qk7 s.2.2.1 (rgP p)).length:Int) !=(1:Int))=false->(0<=(0:Int)/\(0:Int)<(Qk7 s.2.2.1 (rgP p)).length):=λh=>by simp at h;omega
   rw[Zb a,show(0:Int).toNat=0 from rfl];have c:((((Qk7 s.2.2.1 (rgP p)).length:Int) !=(1:Int))||(!(eqV (Zw) ((Qk7 s.2.2.1 (rgP p)).getD 0 Zz) (rgP p))))= !eq1 (Qk7 s.2.2.1 (rgP p)) (rgP p):=by
    simp_all[eq1,bne]
   rw[c];cases eq1 (Qk7 s.2.2.1 (rgP p)) (rgP p)
   ·rfl
   ·simp only[Ont,Ocf,Oct];rw[Z27 _ _,Obs,Zqn _ _,Obs];exact fin _ (by unfold spY;rw[hd];rfl)
  simp_all[spY]
theorem Xi3{K:Int}{s:Zp}(h:Zbd K s)(hK:K<=1000000)(p:Qy):Zvw s p=some (bif Qed s p then spS s p else s,Qed s p,()):=by
 have d:=Q4 h.pend h.e0 h.eK hK;have f:=Q4 h.flight h.e0 h.eK hK;unfold Zvw Zl6;rw[Z7w h hK,Obs,Z94 h hK,Qz4 h hK,Obs];simp only[Zel,bA,bA2,Obs,Xkk h hK,bO];have a:(Z9h s&&(decide (s.1>=0)&&decide (s.1<=2)))=(Z9h s&&decide (s.1<=2)):=by
  cases hb:Z9h s
  ·rfl
  ·have:=((Qxh h hK).1 hb).st.1;simp_all
 rw[a];have e:((((!(Z9h s&&decide (s.1<=2)))|| !(!(!(Z9h s&&decide (s.1<=2)))&&Q3o s p))||(p.2.2.1&&(s.2.2.2.2.2.2.1 !=(1:Int))))||((p.2.1==([]:List UInt8))&&(!p.2.2.1)))= !spG s p:=by
  grind[spG]
 rw[e];unfold Qed;cases hg:spG s p
 ·rfl
 ·have b:0<=s.2.2.2.2.2.2.1/\s.2.2.2.2.2.2.1<=3:=by
   unfold spG at hg;simp only[Oba]at hg;exact((Qxh h hK).1 hg.1.1.1.1).fin
  have fin:∀y:Zp,y=spY s p->Zlb p Zaw y=some (spS s p,true,()):=λy c=>by
   unfold Zlb Zqb spS spZ;rw[c];have g:=Xbl s p;cases p.2.2.1
   all_goals simp_all[Qe5]
  simp only[Ont,Ocf,Ota];cases hd:p.2.1==([]:List UInt8)
  ·simp only[Bool.not_false,Oct,X4,Kt,Bool.false_or];rw[Xj6 _ _ (by omega),Obs,Xkd,Obs];unfold Zvx;cases eq1 (Qk7 s.2.2.1 (rgP p)) (rgP p)
   ·rfl
   ·simp only[Ont,Ocf,Oct];rw[Qug _ _ (by omega),Obs,Qq0 _ _,Obs];exact fin _ (by unfold spY;rw[hd];rfl)
  simp_all[spY]
theorem Q2i{K:Int}{s:Zp}(h:Zbd K s)(hK:K<=1000000)(p:Qy)(ho:Qed s p=true):Zbd K (spS s p):=by
 obtain⟨x,a,e,hx⟩:=Qsc h p hK
 grind[Xdd]
theorem Xg0{α:Type}{c:Bool}{x y:α}:(bif c then some x else some y)=some (bif c then x else y):=by cases c<;>rfl
theorem Xgz{α β:Type}{c:Bool}{x y:α×β}:(bif c then x else y).1=bif c then x.1 else y.1:=by cases c<;>rfl
theorem Zs3{α:Type}(d:α)(pre:List α)(x:α)(rest:List α):(pre++x::rest).getD ((pre.length:Int).toNat) d=x:=by
 simp_all
theorem Qqa{α:Type}(pre:List α)(x:α)(rest:List α):pre++x::rest=(pre++[x])++rest:=by simp
theorem Zxk{α:Type}(pre:List α)(x:α)(rest:List α)(h:(pre++x::rest).length<=100000):IntKind.i64.wrap ((pre.length:Int)+1)=(((pre++[x]).length:Nat):Int):=by
 grind[Zs]
theorem inb{α:Type}(pre:List α)(x:α)(rest:List α):0<=(pre.length:Int)/\(pre.length:Int)<((pre++x::rest).length:Int):=by simp;omega
theorem Zxw{α:Type}(pre:List α)(x:α)(rest:List α):decide ((pre.length:Int)<((pre++x::rest).length:Int))=true:=Zl (inb pre x rest).2
theorem Z4m{α:Type}(pre:List α):decide ((pre.length:Int)<((pre++([]:List α)).length:Int))=false:=Zn (by simp)
def vC(x:Zk):Bool:=(decide (0<=x.1)&&decide (x.1<=4611686018427387903))&&(decide (0<=x.2.1.1)&&decide (x.2.1.1<=7))
def acF:Option Int->List Zk->Bool
 |_,[]=>true
 |p,x::r=>vC x&&(match p with|none=>true|some q=>decide (q<x.1))&&acF (some x.1) r
abbrev ac(l:List Zk):Bool:=acF none l
theorem Z7i(p:Option Int)(x:Zk)(r:List Zk):acF p (x::r)=(vC x&&(match p with|none=>true|some q=>decide (q<x.1))&&acF (some x.1) r):=by cases p<;>rfl
def Z3u(pre:List Zk):Option Int:=pre.getLast?.map (·.1)
theorem Qr1(pre:List Zk)(x:Zk):Z3u (pre++[x])=some x.1:=by simp[Z3u]
theorem Qww(pre:List Zk)(x:Zk)(rest:List Zk)(h:0<pre.length)(hl:pre.length<=100000):0<=IntKind.i64.wrap ((pre.length:Int)-1)/\IntKind.i64.wrap ((pre.length:Int)-1)<((pre++x::rest).length:Int)/\
  Z3u pre=some ((pre++x::rest).getD (IntKind.i64.wrap ((pre.length:Int)-1)).toNat Qm).1:=by
 rw[Zs];refine⟨by omega,by simp;omega,?_⟩;have e:((pre.length:Int)-1).toNat=pre.length-1:=by omega
 rw[e,List.getD_eq_getElem?_getD,List.getElem?_append_left (by omega)]
 grind[Z3u]
theorem Q1e:∀(N:Nat)(pre rest:List Zk),(pre++rest).length<=100000->rest.length<N->Zbe N (pre++rest) (pre++rest) ((pre++rest).length:Int) (pre.length:Int)=some (acF (Z3u pre) rest,())
 |0,_,_,_,h=>by omega
 |N+1,pre,[],a,f=>by
  unfold Zbe;rw[Zo (Z4m pre)];rfl
 |N+1,pre,x::rest,a,f=>by
  have g:pre.length<=100000:=by simp at a;omega
  unfold Zbe Xg Zo1 Z0;rw[Zm (Zxw pre x rest),Zb (inb pre x rest)];simp only[Zs3,Obs];have b:=Q1e N (pre++[x]) rest (by simpa using a) (by simp at f;omega);rw[<-Qqa,Qr1]at b;simp only[Xg0,Xgz,Obs];have c:((!((decide (0<=x.1))&&(decide (x.1<=4611686018427387903))))||(!(bif !((decide (0<=x.1))&&(decide (x.1<=4611686018427387903)))then false else((decide (0<=x.2.1.1))&&(decide (x.2.1.1<=7))))))= !vC x:=by
   simp_all[vC]
  simp only[c];by_cases i:0<pre.length
  ·obtain⟨j,k,l⟩:=Qww pre x rest i g;rw[Zb (λ_ _=>⟨j,k⟩),Zl (show(pre.length:Int)>0 by omega),Ota];have m:decide (((pre++x::rest).getD (IntKind.i64.wrap ((pre.length:Int)-1)).toNat Qm).1>=x.1)= !(decide (((pre++x::rest).getD (IntKind.i64.wrap ((pre.length:Int)-1)).toNat Qm).1<x.1)):=by
    grind
   rw[m,Z7i,l,Zxk pre x rest a,b];generalize ((pre++x::rest).getD (IntKind.i64.wrap ((pre.length:Int)-1)).toNat Qm).1=y;cases vC x<;>by_cases n:y<x.1<;>simp[n]
  ·have d:pre=[]:=List.eq_nil_of_length_eq_zero (by omega);subst d;rw[Zb (λ_ h=>by simp at h)];have e:decide (((([]:List Zk).length:Nat):Int)>0)=false:=Zn (by simp);rw[e,Bool.false_and,Bool.or_false,Zxk [] x rest a,b,Z7i]
   grind[Z3u]
theorem Qv4(l:List Zk)(h:l.length<=100000):Zi8 l=some (ac l,()):=by
 have:=Q1e (Zc8 l l (l.length:Int) 0) [] l (by simpa using h) (by simp[Zc8]);simp_all[Zi8,Z3u]
theorem Z32:∀(l:List Zk)(p:Option Int),acF p l=true->(∀x,x∈l->0<=x.1/\0<=x.2.1.1/\x.2.1.1<=7/\ ∀q,p=some q->q<x.1)/\l.Pairwise (λa b=>a.1<b.1)
 |[],_,_=>⟨by simp,List.Pairwise.nil⟩
 |x::r,p,h=>by
  simp only[acF,Oba]at h;obtain⟨⟨d,i⟩,e⟩:=h;obtain⟨f,g⟩:=Z32 r (some x.1) e;simp only[vC,Oba,decide_eq_true_eq]at d;refine⟨λy c=>?_,List.Pairwise.cons (λy c=>(f y c).2.2.2 _ rfl) g⟩
  grind
theorem Qqz(f:Zk->Bool):∀(l:List Zk)(p:Option Int),acF p l=true->acF p (l.filter f)=true
 |[],_,_=>rfl
 |x::r,p,h=>by
  simp only[acF,Oba]at h;obtain⟨⟨e,g⟩,c⟩:=h;have i:=Qqz f r (some x.1) c;simp only[List.filter_cons];split
  ·simp_all[acF]
  ·
   have b:∀(l:List Zk)(a:Int)(p:Option Int),(∀q,p=some q->q<=a)->acF (some a) l=true->acF p l=true:=by
    intro l a p j d;cases l with
    |nil=>rfl
    |cons y l=>
     simp only[acF,Oba,decide_eq_true_eq]at d⊢
     grind
   grind
def lst(b:Int)(l:List Zk):Int:=l.foldl (λb x=>min b x.2.1.1) b
def isU(b:Int)(x:Zk):Bool:=x.2.1.1==b
abbrev urg(l:List Zk):List Zk:=l.filter (isU (lst 7 l))
abbrev ids(l:List Zk):List Int:=l.map (λx=>x.1)
def Qj7(L:List Int)(last:Int):Int:=match L.find? (λx=>decide (x>last))with|some x=>x|none=>L.headD (-1)
theorem Quw(b:Int):∀(N:Nat)(out pre rest:List Zk),(pre++rest).length<=100000->out.length+rest.length<=100000->rest.length<N->
  Zf7 N b out (pre++rest) ((pre++rest).length:Int) (pre.length:Int)=some (out++rest.filter (isU b),())
 |0,_,_,_,_,_,h=>by omega
 |N+1,out,pre,[],c,d,f=>by
  simp_all[Zf7]
 |N+1,out,pre,x::rest,c,d,f=>by
  have a:rest.length<N:=by simp at f;omega
  have g:out.length+1+rest.length<=100000:=by simp at d;omega
  unfold Zf7;rw[Zm (Zxw pre x rest),Zb (inb pre x rest)];simp only[Zs3];rw[Zxk pre x rest c,Zb (by grind[Qd])];have e:=Qqa pre x rest;by_cases h:isU b x=true
  ·rw[Zm (show(x.2.1.1==b)=true from h),e,Quw b N (out++[x]) (pre++[x]) rest (by simpa using c) (by simp;omega) a];simp[h]
  ·have h:isU b x=false:=by simpa using h
   rw[Zo (show(x.2.1.1==b)=false from h),e,Quw b N out (pre++[x]) rest (by simpa using c) (by omega) a];simp[h]
theorem Q2s(l0:List Zk):∀(N:Nat)(b:Int)(out pre rest:List Zk),(pre++rest).length<=100000->rest.length<N->
  Znf N l0 b out (pre++rest) ((pre++rest).length:Int) (pre.length:Int)=Zf7 (Zmn (lst b rest) out l0 (l0.length:Int) (0:Int)) (lst b rest) out l0 (l0.length:Int) (0:Int)
 |0,_,_,_,_,_,h=>by omega
 |N+1,b,out,pre,[],a,c=>by
  unfold Znf;rw[Zo (Z4m pre)];rfl
 |N+1,b,out,pre,x::rest,a,c=>by
  unfold Znf;rw[Zm (Zxw pre x rest),Zb (inb pre x rest)];simp only[Zs3];rw[Zxk pre x rest a,Qqa pre x rest,Q2s l0 N _ out (pre++[x]) rest (by simpa using a) (by simp at c;omega)];rfl
theorem Q4s(l:List Zk)(h:l.length<=100000):Z2i l=some (urg l,()):=by
 have a:=Q2s l (Zmm l 7 [] l (l.length:Int) 0) 7 [] [] l (by simpa using h) (by simp[Zmm])
 grind[Quw,Zmn,Z2i]
theorem Z62(l0:List Zk)(last:Int)(h0:0<l0.length):∀(N:Nat)(pre rest:List Zk),(pre++rest).length<=100000->rest.length<N->
  Zgw N l0 last (pre++rest) ((pre++rest).length:Int) (pre.length:Int)=some ((match(ids rest).find? (λx=>decide (x>last))with|some x=>x|none=>(ids l0).headD (-1)),())
 |0,_,_,_,h=>by omega
 |N+1,pre,[],a,b=>by
  unfold Zgw;rw[Zo (Z4m pre),Zb];cases l0 with
  |nil=>simp at h0
  |cons y l0=>rfl
 |N+1,pre,x::rest,a,b=>by
  unfold Zgw;rw[Zm (Zxw pre x rest),Zb (inb pre x rest)];simp only[Zs3,List.map_cons,List.find?_cons];rw[Zxk pre x rest a];by_cases h:x.1>last
  ·simp_all
  ·rw[Zo (Zn h),Zn h,Qqa pre x rest,Z62 l0 last h0 N (pre++[x]) rest (by simpa using a) (by simp at b;omega)]
def Qt6(l:List Zk)(last:Int):Int:=bif ac l then Qj7 (ids l) last else-1
theorem Qzl(l:List Zk)(last:Int)(h:l.length<=100000):Zvu l last=some (Qt6 l last,()):=by
 unfold Zvu Qt6;by_cases a:l.length=0
 ·have:=List.eq_nil_of_length_eq_zero a;subst this;rfl
 ·have b:((l.length:Int)==0)=false:=beq_eq_false_iff_ne.2 (by omega);simp only[b,Ocf,Qv4 l h,Obs,Bool.false_or];cases ac l
  ·rfl
  ·have:=Z62 l last (by omega) (Zh5 l last l (l.length:Int) 0) [] l (by simpa using h) (by simp[Zh5]);simp_all[Qj7]
def Qqh(x:Zk):Bool:=x.2.1.2.1
def Zig(l:List Zk)(last:Int):Int:=bif ac l then(match(urg l).find? (λx=> !Qqh x)with|some x=>x.1|none=>Qj7 (ids (urg l)) last)else-1
theorem Z8f(last:Int):∀(N:Nat)(pre rest:List Zk),(pre++rest).length<=100000->rest.length<N->
  Ze9 N last (pre++rest) ((pre++rest).length:Int) (pre.length:Int)=some ((match rest.find? (λx=> !Qqh x)with|some x=>x.1|none=>Qt6 (pre++rest) last),())
 |0,_,_,_,h=>by omega
 |N+1,pre,[],a,b=>by
  simp_all[Ze9,Qzl]
 |N+1,pre,x::rest,a,b=>by
  unfold Ze9;rw[Zm (Zxw pre x rest),Zb (inb pre x rest)];simp only[Zs3,List.find?_cons];rw[Zxk pre x rest a];cases h:Qqh x
  ·simp_all[Qqh]
  ·rw[Zo (by simp_all[Qqh]),Qqa pre x rest,Z8f last N (pre++[x]) rest (by simpa using a) (by simp at b;omega)];rfl
theorem Q32(l:List Zk)(last:Int)(h:l.length<=100000):Zto l last=some (Zig l last,()):=by
 unfold Zto Zig;by_cases a:l.length=0
 ·have:=List.eq_nil_of_length_eq_zero a;subst this;rfl
 ·have b:((l.length:Int)==0)=false:=beq_eq_false_iff_ne.2 (by omega);simp only[b,Ocf,Qv4 l h,Obs,Bool.false_or];cases ha:ac l
  ·rfl
  ·rw[Ont,Zo rfl,Q4s l h,Obs];have c:(urg l).length<=100000:=Nat.le_trans (List.length_filter_le _ _) h;have:=Z8f last (Zgv last (urg l) ((urg l).length:Int) 0) [] (urg l) (by simpa using c) (by simp[Zgv]);simp_all[Qqz,Qt6]
theorem Q7d(b:Int):∀(l:List Zk)(b:Int),lst b l<=b/\ ∀x,x∈l->lst b l<=x.2.1.1
 |[],b=>⟨Int.le_refl _,by simp⟩
 |y::l,b=>by
  obtain⟨a,c⟩:=Q7d b l (min b y.2.1.1);have e:lst b (y::l)=lst (min b y.2.1.1) l:=rfl
  grind
theorem Q1w:∀(l:List Zk)(b:Int),lst b l=b\/ ∃x,x∈l/\x.2.1.1=lst b l
 |[],b=>.inl rfl
 |y::l,b=>by
  have e:lst b (y::l)=lst (min b y.2.1.1) l:=rfl;rw[e];rcases Q1w l (min b y.2.1.1)with h|⟨x,hx,h⟩
  all_goals grind
theorem Xgc{l:List Zk}(h:ac l=true)(h0:l≠[]):urg l≠[]:=by
 obtain⟨a,b⟩:=Q7d 7 l 7;have c:∃x,x∈l/\x.2.1.1=lst 7 l:=by
  rcases Q1w l 7 with e|e
  ·cases l with
   |nil=>simp_all
   |cons x l=>
    have:=((Z32 _ _ h).1 x (by simp)).2.2.1
    grind
  ·exact e
 grind[List.filter_eq_nil_iff,isU]
theorem Q23{L:List Int}(h:L≠[])(last:Int):Qj7 L last∈L:=by
 unfold Qj7;split
 ·grind
 ·cases L with
  |nil=>simp_all
  |cons y L=>simp
theorem Q3z{l:List Zk}(h:ac l=true)(h0:l≠[])(last:Int):Zig l last∈ids (urg l):=by
 unfold Zig;rw[h,Oct];split
 ·grind
 grind[Q23,Xgc,List.map_eq_nil_iff]
theorem Q30(last:Int):Zig [] last= -1:=rfl
def Ql2(s:Zg):Bool:=(s.2.2.2.2.2.2.1&&decide (s.2.1.1<(3:Int)))&&(decide ((s.2.1.2.2.1.length:Int)>(0:Int))||(s.2.1.2.2.2.2.2.2.1==(1:Int)))
abbrev Qnc(s:Zg):Zk:=(s.1,s.2.2.2.2.2.1,())
def Quz(c:Zc):List Zk:=(c.2.2.2.1.filter Ql2).map Qnc
def Z8g(sk:List Int)(x:Zk):Bool:=sk.all λi=>x.1 !=i
def Zvc(c:Zc)(sk:List Int):List Zk:=(Quz c).filter (Z8g sk)
theorem Qxt(c:Zc):(Quz c).length<=c.2.2.2.1.length:=by
 simp_all[Quz,List.length_filter_le]
theorem Qke(l:List Int)(hl:l.length<=1000000)(n:Int):∀(N i:Nat),l.length-i<N->i<=l.length-> ∃v,Zck N l n (l.length:Int) (i:Int)=some (v,())/\decide (v>=0)= !(l.drop i).all λi=>n !=i
 |0,_,h,_=>by omega
 |N+1,i,b,c=>by
  unfold Zck;by_cases a:i<l.length
  ·rw[Zm (Zl),Zb,show(i:Int).toNat=i from rfl,Xh (d:=0) a,Zr a];by_cases e:n=l.getD i 0
   ·refine⟨(i:Int),by simp_all,?_⟩
    grind
   ·obtain⟨v,f,g⟩:=Qke l hl n N (i+1) (by omega) (by omega)
    grind
  simp_all[Zn,List.drop_eq_nil_of_le]
theorem Q3a{l:List Int}(hl:l.length<=1000000)(n:Int):Zg0 l n=some (!(l.all λi=>n !=i),()):=by
 unfold Zg0 Zrf;obtain⟨v,a,b⟩:=Qke l hl n (Zbq l n (l.length:Int) 0) 0 (by simp[Zbq]) (by omega);simp_all
theorem Xlc{c:Zc}(hl:c.2.2.2.1.length<=1000000)(h0:∀s∈c.2.2.2.1,0<=s.2.1.1){sk:List Int}(hk:sk.length<=1000000):Zz5 c sk=some (Zvc c sk,()):=by
 have m:∀(N i:Nat),c.2.2.2.1.length-i<N->i<=c.2.2.2.1.length-> ∀o:List Zk,o.length<=i->Zko N sk o c.2.2.2.1 (c.2.2.2.1.length:Int) (i:Int)=some (o++(((c.2.2.2.1.drop i).filter Ql2).map Qnc).filter (Z8g sk),()):=by
  intro N
  induction N with
  |zero=>intro i h;omega
  |succ N g=>
   intro i n q o r;unfold Zko;by_cases b:i<c.2.2.2.1.length
   ·rw[Zm (Zl),Zb,show(i:Int).toNat=i from rfl,Xh (d:=Zj) b,Zr b];have t:=h0 _ (Z5 (d:=Zj) b);generalize c.2.2.2.1.getD i Zj=s at*
    simp only[Zel,Q3a hk,bA,bA2];rw[Zl (p:=s.2.1.1>=0),Ota];have j:decide (s.2.1.1<=2)=decide (s.2.1.1<3):=by grind
    rw[j];have k:((s.2.2.2.2.2.2.1&&decide (s.2.1.1<3))&&(decide ((s.2.1.2.2.1.length:Int)>0)||(s.2.1.2.2.2.2.2.2.1==1)))=Ql2 s:=rfl;rw[k];by_cases e:Ql2 s=true
    ·have l:(s::List.drop (i+1) c.2.2.2.1).filter Ql2=s:: (List.drop (i+1) c.2.2.2.1).filter Ql2:=List.filter_cons_of_pos e;rw[l,List.map_cons,e,Ota,Ota,Bool.not_not];by_cases f:Z8g sk (Qnc s)=true
     ·have a:(sk.all λi=>s.1 !=i)=true:=f;rw[a,Oct,Zb (by grind[Qd]),g (i+1) (by omega) (by omega) _ (by simp;omega),List.filter_cons_of_pos f];simp
     ·have a:(sk.all λi=>s.1 !=i)=false:=by grind[Z8g]
      grind
    grind
   grind
 grind[Zz5,Zq3,Zvc,Quz]
theorem Qzf{l:List Zk}{last:Int}(h:0<=Zig l last):ac l=true/\ ∃x∈urg l,x.1=Zig l last:=by
 have a:ac l=true:=by
  cases e:ac l
  all_goals simp_all[Zig]
 grind[Q30,Q3z]
theorem Xb3{c:Zc}{sk:List Int}{x:Zk}(h:x∈Zvc c sk):(∃s∈c.2.2.2.1,Ql2 s=true/\x=Qnc s)/\Z8g sk x=true:=by
 grind[Zvc,Quz]
theorem Qos{c:Zc}(hl:c.2.2.2.1.length<=1000000){sk:List Int}{last:Int}(h:0<=Zig (Zvc c sk) last:=by omega):0<=Q7 c.2.2.2.1 (Zig (Zvc c sk) last):=by
 obtain⟨-,x,hx,e⟩:=Qzf h;obtain⟨⟨s,a,-,b⟩,-⟩:=Xb3 (List.mem_filter.1 hx).1;rw[<-e,b];by_cases d:0<=Q7 c.2.2.2.1 (Qnc s).1
 ·exact d
 ·exact absurd rfl ((Zz3 hl (Qnc s).1).2.1 (by omega) s a)
noncomputable def blC(c:Zc)(id:Int):Zc:=(c.1,c.2.1,c.2.2.1,c.2.2.2.1.set (Q7 c.2.2.2.1 id).toNat ((c.2.2.2.1.getD (Q7 c.2.2.2.1 id).toNat Zj).1,(c.2.2.2.1.getD (Q7 c.2.2.2.1 id).toNat Zj).2.1,nbB (c.2.2.2.1.getD (Q7 c.2.2.2.1 id).toNat Zj).2.2.1,(c.2.2.2.1.getD (Q7 c.2.2.2.1 id).toNat Zj).2.2.2),nbB c.2.2.2.2.1,c.2.2.2.2.2)
theorem Qx2{K:Nat}{c:Zc}(h:Z4 K c)(hK:K<=1000000){id:Int}(hi:0<=Q7 c.2.2.2.1 id):Zin c id=some ((),blC c id,())/\Z4 K (blC c id):=by
 have e:=h.str.len;obtain⟨f,-,g⟩:=Zz3 (l:=c.2.2.2.1) (by omega) id;have a:=h.str.all _ (Z5 (d:=Zj) (show(Q7 c.2.2.2.1 id).toNat<c.2.2.2.1.length by omega));have b:Xl K ((c.2.2.2.1.getD (Q7 c.2.2.2.1 id).toNat Zj).1,(c.2.2.2.1.getD (Q7 c.2.2.2.1 id).toNat Zj).2.1,nbB (c.2.2.2.1.getD (Q7 c.2.2.2.1 id).toNat Zj).2.2.1,(c.2.2.2.1.getD (Q7 c.2.2.2.1 id).toNat Zj).2.2.2):=⟨a.snd,a.rcv⟩
 refine⟨?_,h.str.set b _,h.pk⟩;unfold Zin;rw[Zu7 h hK,if_pos hi];simp only[Obs,nbE];rw[Q15 h.str b hK (by simp_all)];simp_all[blC]
def Qjv(c:Xy)(n:Int):Bool:= !(((!Qaf c)||decide (n<0))||decide (n>IntKind.i64.wrap (c.1-c.2.1)))
def ucC(c:Xy)(n:Int):Xy:=bif Qjv c n then(c.1,IntKind.i64.wrap (c.2.1+n),c.2.2)else c
theorem ucE(c:Xy)(n:Int):Zdj c n=some (ucC c n,Qjv c n,()):=by
 grind[Zdj,ucC,Qjv,Qqf]
noncomputable abbrev atS(c:Zc)(id:Int):Zg:=c.2.2.2.1.getD (Q7 c.2.2.2.1 id).toNat Zj
noncomputable def spV(s:Zp)(p:Qy):Zp:=bif Qed s p then spS s p else s
noncomputable def Qcw(c:Zc)(id:Int)(p:Qy):Int:=IntKind.i64.wrap ((spV (atS c id).2.1 p).2.2.2.2.2.2.2.1- (atS c id).2.1.2.2.2.2.2.2.2.1)
noncomputable def Z50(c:Zc)(id:Int)(p:Qy):Bool:=((Zbx c&&decide (0<=Q7 c.2.2.2.1 id))&&(atS c id).2.2.2.2.2.2.1)&&((Qed (atS c id).2.1 p&&Qjv (atS c id).2.2.1 (Qcw c id p))&&Qjv c.2.2.2.2.1 (Qcw c id p))
noncomputable def mpC(c:Zc)(id:Int)(p:Qy):Zc:=(c.1,c.2.1,c.2.2.1,c.2.2.2.1.set (Q7 c.2.2.2.1 id).toNat ((atS c id).1,spS (atS c id).2.1 p,ucC (atS c id).2.2.1 (Qcw c id p),(atS c id).2.2.2),ucC c.2.2.2.2.1 (Qcw c id p),c.2.2.2.2.2.1,c.2.2.2.2.2.2.1,c.2.2.2.2.2.2.2.1,c.2.2.2.2.2.2.2.2.1,c.2.2.2.2.2.2.2.2.2.1,c.2.2.2.2.2.2.2.2.2.2.1,c.2.2.2.2.2.2.2.2.2.2.2.1,c.2.2.2.2.2.2.2.2.2.2.2.2.1,id,c.2.2.2.2.2.2.2.2.2.2.2.2.2.2)
theorem Qy6{K:Nat}{c:Zc}(h:Z4 K c)(hK:K<=1000000){id:Int}{p:Qy}(ho:Z50 c id p=true):Z4 K (mpC c id p):=by
 have e:=h.str.len;obtain⟨f,-,g⟩:=Zz3 (l:=c.2.2.2.1) (by omega) id;unfold Z50 at ho;simp only[Oba,decide_eq_true_eq]at ho;obtain⟨⟨⟨-,i⟩,-⟩,⟨b,-⟩,-⟩:=ho;have a:=h.str.all _ (Z5 (d:=Zj) (show(Q7 c.2.2.2.1 id).toNat<c.2.2.2.1.length by omega));exact⟨h.str.set (by exact⟨Q2i a.snd (by omega) p b,a.rcv⟩) _,h.pk⟩
theorem Qy1{K:Nat}{c:Zc}(h:Z4 K c)(hK:K<=1000000)(id:Int)(p:Qy):Zvp c id p=some (bif Z50 c id p then mpC c id p else c,Z50 c id p,()):=by
 have j:=h.str.len;obtain⟨k,-,m⟩:=Zz3 (l:=c.2.2.2.1) (by omega) id;unfold Zvp;simp only[X4,Kt];rw[Zkg h hK,Obs,Z39 (by omega),Z65 (by omega),Obs];unfold Zp9;simp only[X4,Kt];rw[Zv1 h hK,Z0k h hK,Obs];by_cases n:0<=Q7 c.2.2.2.1 id
 ·rw[Zn (p:=Q7 c.2.2.2.1 id<0),Zb (λ_=>by omega)];have b:=h.str.all _ (Z5 (d:=Zj) (show(Q7 c.2.2.2.1 id).toNat<c.2.2.2.1.length by omega));have e:Z50 c id p=((Zbx c&&(atS c id).2.2.2.2.2.2.1)&&((Qed (atS c id).2.1 p&&Qjv (atS c id).2.2.1 (Qcw c id p))&&Qjv c.2.2.2.2.1 (Qcw c id p))):=by
   simp_all[Z50]
  rw[e];simp only[Bool.or_false];cases hc:Zbx c
  ·rfl
  ·cases hcs:(atS c id).2.2.2.2.2.2.1
   ·rfl
   ·simp only[Ont,Bool.or_self,Ocf,Bool.and_self,Ota];rw[Zb,Xi3 b.snd (by omega),Obs];unfold Zvq;simp only[Q0c,ucE,Obs];have f:(bif Qed (atS c id).2.1 p then spS (atS c id).2.1 p else(atS c id).2.1)=spV (atS c id).2.1 p:=rfl;have g:IntKind.i64.wrap ((spV (atS c id).2.1 p).2.2.2.2.2.2.2.1- (atS c id).2.1.2.2.2.2.2.2.2.1)=Qcw c id p:=rfl;rw[f,g,Zkg h hK,Obs];cases ho:Qed (atS c id).2.1 p
    ·rfl
    ·cases hu:Qjv (atS c id).2.2.1 (Qcw c id p)
     ·rfl
     ·cases hv:Qjv c.2.2.2.2.1 (Qcw c id p)
      ·rfl
      ·simp only[Ont,Bool.or_self,Ocf,Bool.and_self,Oct];have a:spV (atS c id).2.1 p=spS (atS c id).2.1 p:=by simp_all
       have i:∀x:Zg,(c.2.2.2.1.set (Q7 c.2.2.2.1 id).toNat x).getD (Q7 c.2.2.2.1 id).toNat Zj=x:=λx=>by
        rw[List.getD_eq_getElem?_getD,List.getElem?_set_self (by omega)];rfl
       rw[a,i,List.set_set];rfl
 ·rw[Zl (p:=Q7 c.2.2.2.1 id<0)];simp_all[Z50,Zn,Zb]
def mtB(c:Xy):Bool:=Qaf c&&(c.2.2.1==c.1)
theorem mtE(c:Xy):Zik c=some (mtB c,()):=by
 unfold Zik;rw[Qqf];rfl
abbrev frK(k st lim:Int)(uni:Bool):Zf:=(k,st,(0:Int),([]:List UInt8),false,(0:Int),lim,(0:Int),uni,())
abbrev frR(s:Zg):Zf:=((4:Int),s.1,(0:Int),([]:List UInt8),false,s.2.1.2.2.2.2.2.2.2.2.1,(0:Int),s.2.1.2.2.2.2.2.2.2.1,false,())
abbrev frT(s:Zg):Zf:=((5:Int),s.1,(0:Int),([]:List UInt8),false,s.2.2.2.2.2.2.2.2.2.2.2.2.1,(0:Int),(0:Int),false,())
def lwW(c:Zc)(s:Zg):Qg:=bif wcB s then rwV s.2.2.2.2.1 (Qna c) (Z7q c)else s.2.2.2.2.1
def lwT(c:Zc)(s:Zg):Bool:=wcB s&&(bif mrB s.2.2.2.2.1 then Qpp s.2.2.2.2.1 (Qna c) (Z7q c)else s.2.2.2.2.2.2.2.2.2.2.1)
def sdB(s:Zg):Bool:=(mtB s.2.2.1&&s.2.2.2.2.2.2.1)&&decide ((s.2.1.2.2.1.length:Int)>(0:Int))
def sfL(c:Zc)(s:Zg):List Zf:=(bif s.2.2.2.2.2.2.2.2.1 then[frR s]else[])++(bif s.2.2.2.2.2.2.2.2.2.1&&decide (s.2.2.2.1.1<(2:Int))then[frT s]else[])++(bif lwT c s then[frK 17 s.1 (lwW c s).2.2.1 false]else[])++(bif sdB s then[frK 21 s.1 s.2.2.1.1 false]else[])
theorem Qnd{a b:List Zf}(h:a.length+b.length<=1000000):a.length+b.length<=Qd:=by grind[Qd]
theorem sfE(c:Zc)(s:Zg):Zgm c s=some (sfL c s,()):=by
 have b:∀o:List Zf,o.length<=10->Zbc s o=some (o++(bif sdB s then[frK 21 s.1 s.2.2.1.1 false]else[]),()):=λo a=>by
  unfold Zbc;rw[mtE,Obs];cases h:sdB s
  ·simp_all[sdB,Zo]
  ·unfold sdB at h;rw[Zm h,Oct]
   grind[Zb,Qnd]
 have d:∀o:List Zf,o.length<=9->Wm c s o=some (o++(bif lwT c s then[frK 17 s.1 (lwW c s).2.2.1 false]else[])++(bif sdB s then[frK 21 s.1 s.2.2.1.1 false]else[]),()):=λo a=>by
  unfold Wm;rw[lwE,Obs];cases h:lwT c s
  ·unfold lwT at h
   grind
  ·unfold lwT at h;rw[Zm h,Oct];simp only;rw[Zb (Qnd (by simp;omega)),b _ (by simp;omega)];rfl
 have e:∀o:List Zf,o.length<=8->Wl c s o=some (o++(bif s.2.2.2.2.2.2.2.2.2.1&&decide (s.2.2.2.1.1<(2:Int))then[frT s]else[])++(bif lwT c s then[frK 17 s.1 (lwW c s).2.2.1 false]else[])++(bif sdB s then[frK 21 s.1 s.2.2.1.1 false]else[]),()):=λo a=>by
  unfold Wl;cases h:s.2.2.2.2.2.2.2.2.2.1&&decide (s.2.2.2.1.1<(2:Int))
  ·grind
  ·rw[Oct,Oct];simp only;rw[Zb (Qnd (by simp;omega)),d _ (by simp;omega)]
 unfold Zgm sfL;cases s.2.2.2.2.2.2.2.2.1
 ·simp_all
 ·rw[Oct,Oct];simp only;rw[Zb (Qnd (by simp)),e _ (by simp)];rfl
theorem Q2f(c:Zc)(s:Zg):(sfL c s).length<=4:=by
 unfold sfL;cases s.2.2.2.2.2.2.2.2.1<;>cases s.2.2.2.2.2.2.2.2.2.1&&decide (s.2.2.2.1.1<(2:Int))<;>cases lwT c s<;>cases sdB s<;>simp
def ttT(c:Zc):Bool:=bif mrB c.2.2.2.2.2.1 then Qpp c.2.2.2.2.2.1 (Qna c) (Z7q c)else c.2.2.2.2.2.2.2.2.2.2.1
def alT(a:Qt)(t:Bool):Bool:=bif maB a then Qzo a else t
def cfH(c:Zc):List Zf:=(bif ttT c then[frK 16 0 (rwV c.2.2.2.2.2.1 (Qna c) (Z7q c)).2.2.1 false]else[])++(bif alT c.2.2.2.2.2.2.2.2.1 c.2.2.2.2.2.2.2.2.2.2.2.1 then[frK 18 0 (raV c.2.2.2.2.2.2.2.2.1).2.1 false]else[])++(bif alT c.2.2.2.2.2.2.2.2.2.1 c.2.2.2.2.2.2.2.2.2.2.2.2.1 then[frK 18 0 (raV c.2.2.2.2.2.2.2.2.2.1).2.1 true]else[])
def cfT(c:Zc):List Zf:=(bif mtB c.2.2.2.2.1 then[frK 20 0 c.2.2.2.2.1.1 false]else[])++(bif c.2.2.2.2.2.2.1.2.2.1==c.2.2.2.2.2.2.1.1 then[frK 22 0 c.2.2.2.2.2.2.1.1 false]else[])++(bif c.2.2.2.2.2.2.2.1.2.2.1==c.2.2.2.2.2.2.2.1.1 then[frK 22 0 c.2.2.2.2.2.2.2.1.1 true]else[])
noncomputable def cfL(c:Zc):List Zf:=bif Zbx c&& !(c.2.2.2.2.2.2.2.2.2.2.2.2.2.2.2.2.2.1 !=(0:Int))then cfH c++c.2.2.2.1.flatMap (sfL c)++cfT c else[]
theorem Xg7{K:Nat}{c:Zc}(h:Z4 K c)(hK:K<=100000:=by omega):W5 c=some (cfL c,()):=by
 have m:=h.str.len;unfold W5 cfL;rw[Qn3 h,Obs];cases hc:Zbx c&& !(c.2.2.2.2.2.2.2.2.2.2.2.2.2.2.2.2.2.1 !=(0:Int))
 ·rfl
 ·simp only[Ont,Ocf,Oct];have n:∀o:List Zf,o.length<=900005->Jl c o=some (o++(bif c.2.2.2.2.2.2.2.1.2.2.1==c.2.2.2.2.2.2.2.1.1 then[frK 22 0 c.2.2.2.2.2.2.2.1.1 true]else[]),()):=λo a=>by
   unfold Jl;cases c.2.2.2.2.2.2.2.1.2.2.1==c.2.2.2.2.2.2.2.1.1
   ·simp_all
   ·rw[Oct,Oct]
    grind[Zb,Qnd]
  have e:∀o:List Zf,o.length<=900004->Jk c o=some (o++(bif c.2.2.2.2.2.2.1.2.2.1==c.2.2.2.2.2.2.1.1 then[frK 22 0 c.2.2.2.2.2.2.1.1 false]else[])++(bif c.2.2.2.2.2.2.2.1.2.2.1==c.2.2.2.2.2.2.2.1.1 then[frK 22 0 c.2.2.2.2.2.2.2.1.1 true]else[]),()):=λo a=>by
   unfold Jk;cases c.2.2.2.2.2.2.1.2.2.1==c.2.2.2.2.2.2.1.1
   ·grind
   ·rw[Oct,Oct]
    grind[Zb,Qnd]
  have f:∀(N i:Nat)(o:List Zf),c.2.2.2.1.length-i<N->i<=c.2.2.2.1.length->o.length<=4*i+3->Kj N c o (i:Int)=some (o++(c.2.2.2.1.drop i).flatMap (sfL c)++cfT c,()):=by
   intro N
   induction N with
   |zero=>omega
   |succ N g=>
    intro i o p q a;unfold Kj;by_cases b:i<c.2.2.2.1.length
    ·have r:=Q2f c (c.2.2.2.1.getD i Zj);rw[Zm (Zl),Zb,show(i:Int).toNat=i from rfl,sfE,Obs,Zb (Qnd (by dsimp only;omega)),Zr b,g (i+1) _ (by omega) (by omega) (by grind),Xh (d:=Zj) b,List.flatMap_cons,List.append_assoc o]
    ·rw[Zo (Zn),List.drop_eq_nil_of_le (by omega),mtE,Obs,List.flatMap_nil,List.append_nil];unfold cfT;cases mtB c.2.2.2.2.1
     ·grind
     ·rw[Oct,Oct];simp only;rw[Zb (Qnd (by simp;omega)),e _ (by simp;omega)];simp
  have j:∀o:List Zf,o.length<=3->Ki c o=some (o++c.2.2.2.1.flatMap (sfL c)++cfT c,()):=λo a=>by
   unfold Ki;have:=f (W6 c o 0) 0 o (by simp[W6]) (by omega) (by omega);simpa using this
  have k:∀o:List Zf,o.length<=2->Kh c o=some (o++(bif alT c.2.2.2.2.2.2.2.2.2.1 c.2.2.2.2.2.2.2.2.2.2.2.2.1 then[frK 18 0 (raV c.2.2.2.2.2.2.2.2.2.1).2.1 true]else[])++c.2.2.2.1.flatMap (sfL c)++cfT c,()):=λo a=>by
   unfold Kh;rw[alE,Obs];change (bif alT _ _ then _ else _)=_;cases alT c.2.2.2.2.2.2.2.2.2.1 c.2.2.2.2.2.2.2.2.2.2.2.2.1
   ·grind
   ·rw[Oct,Oct];simp only;rw[Zb (Qnd (by simp;omega)),j _ (by simp;omega)]
  have l:∀o:List Zf,o.length<=1->Kg c o=some (o++(bif alT c.2.2.2.2.2.2.2.2.1 c.2.2.2.2.2.2.2.2.2.2.2.1 then[frK 18 0 (raV c.2.2.2.2.2.2.2.2.1).2.1 false]else[])++(bif alT c.2.2.2.2.2.2.2.2.2.1 c.2.2.2.2.2.2.2.2.2.2.2.2.1 then[frK 18 0 (raV c.2.2.2.2.2.2.2.2.2.1).2.1 true]else[])++c.2.2.2.1.flatMap (sfL c)++cfT c,()):=λo a=>by
   unfold Kg;rw[alE,Obs];change (bif alT _ _ then _ else _)=_;cases alT c.2.2.2.2.2.2.2.2.1 c.2.2.2.2.2.2.2.2.2.2.2.1
   ·grind
   ·rw[Oct,Oct];simp only;rw[Zb (Qnd (by simp;omega)),k _ (by simp;omega)]
  rw[ttE,Obs];change (bif ttT c then _ else _)=_;unfold cfH;cases ttT c
  ·simp_all
  ·rw[Oct,Oct];simp only;rw[Zb (Qnd (by simp)),l _ (by simp)];rfl
theorem Qvr(c:Zc):∀l:List Zg,(l.flatMap (sfL c)).length<=4*l.length
 |[]=>by simp
 |x::l=>by
  have:=Qvr c l
  grind[Q2f]
theorem Q0o(c:Zc):(cfL c).length<=4*c.2.2.2.1.length+6:=by
 unfold cfL;cases Zbx c&& !(c.2.2.2.2.2.2.2.2.2.2.2.2.2.2.2.2.2.1 !=(0:Int))
 ·simp
 ·have a:(cfH c).length<=3:=by
   unfold cfH;cases ttT c<;>cases alT c.2.2.2.2.2.2.2.2.1 c.2.2.2.2.2.2.2.2.2.2.2.1<;>cases alT c.2.2.2.2.2.2.2.2.2.1 c.2.2.2.2.2.2.2.2.2.2.2.2.1<;>simp
  have b:(cfT c).length<=3:=by
   grind[cfT]
  have d:=Qvr c c.2.2.2.1
  grind
theorem Q5n{c:Zc}{f:Zf}(h:f∈cfL c):Zbx c=true/\(f∈cfH c\/(∃s∈c.2.2.2.1,f∈sfL c s)\/f∈cfT c):=by
 unfold cfL at h
 grind
theorem Q0k{α:Type}{b:Bool}{x y:α}(h:x∈(bif b then[y]else[])):b=true/\x=y:=by
 grind
theorem Q8c{c:Zc}{s:Zg}{f:Zf}(h:f∈sfL c s):(s.2.2.2.2.2.2.2.2.1=true/\f=frR s)\/(s.2.2.2.2.2.2.2.2.2.1=true/\f=frT s)\/(lwT c s=true/\f=frK 17 s.1 (lwW c s).2.2.1 false)\/(sdB s=true/\f=frK 21 s.1 s.2.2.1.1 false):=by
 unfold sfL at h;rcases List.mem_append.1 h with h|h
 ·rcases List.mem_append.1 h with h|h
  ·rcases List.mem_append.1 h with h|h
   ·exact .inl (Q0k h)
   ·obtain⟨a,b⟩:=Q0k h;simp_all
  grind
 grind
theorem Q9g{c:Zc}{f:Zf}(h:f∈cfH c):f.1=16\/f.1=18:=by
 unfold cfH at h;rcases List.mem_append.1 h with h|h
 ·grind
 grind
theorem Q9i{c:Zc}{f:Zf}(h:f∈cfT c):f.1=20\/f.1=22:=by
 unfold cfT at h;rcases List.mem_append.1 h with h|h
 ·grind
 grind
theorem Xg5{K:Nat}{c:Zc}(h:Z4 K c)(hK:K<=1000000){f:Zf}(hf:f∈cfL c)(h17:f.1=17):∀s∈c.2.2.2.1,s.1=f.2.1->wcB s=true:=by
 obtain⟨b,hm⟩:=Q5n hf;have C:=(Z7v h hK).1 b;rcases hm with hm|⟨s,d,hm⟩|hm
 ·grind[Q9g]
 ·rcases Q8c hm with⟨-,e⟩|⟨-,e⟩|⟨j,e⟩|⟨-,e⟩
  ·simp_all
  ·simp_all
  ·intro g a i;have:g=s:=Q2l (Qqy.1 C.sts).srt a d (by rw[i,e]);simp_all[lwT]
  simp_all
 grind[Q9i]
theorem Q5o{c:Zc}{f:Zf}(hf:f∈cfL c):f.2.2.2.1=[]:=by
 obtain⟨-,hm⟩:=Q5n hf;rcases hm with hm|⟨s,a,hm⟩|hm
 ·unfold cfH at hm;rcases List.mem_append.1 hm with h|h
  ·grind
  grind
 ·rcases Q8c hm with⟨-,e⟩|⟨-,e⟩|⟨-,e⟩|⟨-,e⟩<;>rw[e]
 ·unfold cfT at hm;rcases List.mem_append.1 hm with h|h
  ·grind
  grind
theorem Qrx(s:Zp)(id room limit:Int):∀m:Nat,m<=60->(pfL s id room limit m).1.2.1.length<=60
 |0,_=>Nat.zero_le _
 |m+1,a=>by
  unfold pfL;split
  ·grind[Z96]
  ·exact Qrx s id room limit m (by omega)
theorem Qje(c:Zc)(id room:Int):(pcR c id room).1.2.1.length<=60:=by
 unfold pcR;split
 ·unfold pfR;split
  ·grind[Qrx]
  ·exact Nat.zero_le _
 ·exact Nat.zero_le _
abbrev Zqo(c:Zc):Int:=c.2.2.2.2.2.2.2.2.2.2.2.2.2.1
abbrev Qx5(c:Zc):Int:=c.2.2.2.2.2.2.2.2.2.2.2.2.2.2.1
noncomputable def Zup:Nat->Zc->List Zf->Int->List Int->List Zf×Zc|0,c,fr,_,_=>(fr,c)|n+1,c,fr,room,sk=>if Zig (Zvc c sk) (Zqo c)<0 then(fr,c) else bif(pcR c (Zig (Zvc c sk) (Zqo c)) room).2.1 then (bif Z50 c (Zig (Zvc c sk) (Zqo c)) (pcR c (Zig (Zvc c sk) (Zqo c)) room).1 then Zup n (mpC c (Zig (Zvc c sk) (Zqo c)) (pcR c (Zig (Zvc c sk) (Zqo c)) room).1) (fr++[pfF (Zig (Zvc c sk) (Zqo c)) (pcR c (Zig (Zvc c sk) (Zqo c)) room).1]) (IntKind.i64.wrap (room-fsz (pfF (Zig (Zvc c sk) (Zqo c)) (pcR c (Zig (Zvc c sk) (Zqo c)) room).1))) sk else(fr,c)) else Zup n (blC c (Zig (Zvc c sk) (Zqo c))) fr room (sk++[Zig (Zvc c sk) (Zqo c)])
theorem Q8y{K:Nat}{c:Zc}(h:Z4 K c)(sk:List Int):(Zvc c sk).length<=K:=by
 unfold Zvc;have:=List.length_filter_le (Z8g sk) (Quz c);have:=Qxt c;have:=h.str.len;omega
def stN(c:Zc):Prop:= ∀s∈c.2.2.2.1,0<=s.2.1.1
theorem Q2k{c:Zc}(h:stN c){i:Nat}{s:Zg}(hs:0<=s.2.1.1):∀x∈c.2.2.2.1.set i s,0<=x.2.1.1:=λx hx=>by
 rcases List.mem_or_eq_of_mem_set hx with h1|h1
 ·exact h x h1
 simp_all
theorem Xfk{c:Zc}(h:stN c)(hl:c.2.2.2.1.length<=1000000){id:Int}(hi:0<=Q7 c.2.2.2.1 id):stN (blC c id):=by
 have b:=(Zz3 hl id).1;have a:=h _ (Z5 (d:=Zj) (show(Q7 c.2.2.2.1 id).toNat<c.2.2.2.1.length by omega));exact Q2k h a
theorem Xfl{c:Zc}(h:stN c)(id:Int)(p:Qy):stN (mpC c id p):=Q2k h (Qsj _).1
theorem Xcp{K:Nat}(hK:K<=90000)(t:Zc):∀(n N i:Nat)(x:Zc)(fr:List Zf)(room:Int)(sk:List Int),i+n=200->n<N->Z4 K x->stN x->fr.length<=1000000+i->sk.length<=i->
  Wv N t x fr sk room (i:Int)=Zb0 t (Zup n x fr room sk).2 (Zup n x fr room sk).1
 |_,0,_,_,_,_,_,_,h,_,_,_,_=>by omega
 |0,N+1,i,x,fr,room,sk,k,m,hx,a,f,g=>by
  unfold Wv;rw[Zo (Zn)];rfl
 |n+1,N+1,i,x,fr,room,sk,k,m,hx,a,f,g=>by
  have q:=hx.str.len;have d:i<200:=by omega
  have j:=λx fr room sk hx a f g=>Xcp hK t n N (i+1) x fr room sk (by omega) (by omega) hx a f g;unfold Wv;rw[Zm (Zl),Xlc (by omega) a (by omega),Obs,Q32 (Zvc x sk) _ (by have:=Q8y hx sk;omega),Obs,Zup];by_cases e:Zig (Zvc x sk) (Zqo x)<0
  ·rw[Zm (Zl e),if_pos e]
  ·have b:=Qos (c:=x) (by omega) (sk:=sk) (last:=Zqo x);rw[Zo (Zn e),if_neg e];generalize Zig (Zvc x sk) (Zqo x)=id at*
   rw[Q39 hx (by omega),Obs];have o:=Qje x id room;have r:=(Zz3 (l:=x.2.2.2.1) (by omega) id).1;cases hp:(pcR x id room).2.1
   ·obtain⟨s,p⟩:=Qx2 hx (by omega) b;simp only[Bool.not_false,Oct,Ocf];rw[Z39 (by omega),Z65 (by omega),Obs,Zb];simp only[Xh3,nbE,Obs];rw[Zb (by grind[Qd]),Zr d];exact j (blC x id) _ _ _ p (Xfk a (by omega) b) (by omega) (by simp;omega)
   ·simp only[Ont,Oct,Ocf];rw[Qy1 hx (by omega),Obs];cases hm:Z50 x id (pcR x id room).1
    ·rfl
    ·simp only[Ont,Oct,Ocf,Zki,Obs];rw[Zb (by grind[Qd]),Q8e (by grind[FOK]),Obs,Zr d];exact j (mpC x id (pcR x id room).1) (fr++[pfF id (pcR x id room).1]) _ sk (Qy6 hx (by omega) hm) (Xfl a _ _) (by simp;omega) (by omega)
noncomputable def mkV(c:Zc)(f:Zf):Zc:=bif Zbx c then mkC c f else c
theorem Q7i{c:Zc}(hl:c.2.2.2.1.length<=1000000)(f:Zf):(mkC c f).2.2.2.1=c.2.2.2.1\/(0<=Q7 c.2.2.2.1 f.2.1/\(mkC c f).2.2.2.1=c.2.2.2.1.set (Q7 c.2.2.2.1 f.2.1).toNat (Zzl c (atS c f.2.1) f.1)):=by
 unfold mkC;cases f.1==(16:Int)<;>cases f.1==(18:Int)<;>cases f.1==(20:Int)<;>cases f.1==(22:Int)<;>cases f.2.2.2.2.2.2.2.2.1<;>first
  |exact .inl rfl
  |(simp only[Ocf];exact(Classical.em (0<=Q7 c.2.2.2.1 f.2.1)).elim (λa=>by rw[if_pos a];exact .inr ⟨a,rfl⟩) (λa=>by rw[if_neg a];exact .inl rfl))
theorem Xhw(c:Zc)(f:Zf):(mkC c f).2.2.2.2.2.2.2.2.2.2.2.2.2=c.2.2.2.2.2.2.2.2.2.2.2.2.2:=by
 unfold mkC;cases f.1==(16:Int)<;>cases f.1==(18:Int)<;>cases f.1==(20:Int)<;>cases f.1==(22:Int)<;>cases f.2.2.2.2.2.2.2.2.1<;>first
  |rfl
  |(simp only[Ocf];split<;>rfl)
theorem Q7h(c:Zc)(f:Zf):(mkV c f).2.2.2.2.2.2.2.2.2.2.2.2.2=c.2.2.2.2.2.2.2.2.2.2.2.2.2:=by
 unfold mkV;cases Zbx c
 all_goals simp[Xhw]
theorem Qmg{c:Zc}(hl:c.2.2.2.1.length<=1000000)(f:Zf){x:Zg}(hx:x∈(mkV c f).2.2.2.1):∃s∈c.2.2.2.1,x.1=s.1/\x.2.1=s.2.1/\x.2.2.2.1=s.2.2.2.1/\wcB x=wcB s:=by
 unfold mkV at hx;cases hc:Zbx c
 ·grind
 ·rw[hc,Oct]at hx;rcases Q7i hl f with e|⟨a,e⟩
  ·grind
  ·rw[e]at hx;rcases List.mem_or_eq_of_mem_set hx with h1|h1
   ·grind
   ·have b:=(Zz3 hl f.2.1).1;refine⟨atS c f.2.1,Z5 (d:=Zj),?_⟩;simp_all[Q0w,Qvl,Qvk,Q9n]
theorem Qmh{K:Nat}{c:Zc}(h:Z4 K c)(hK:K<=1000000)(f:Zf):Z4 K (mkV c f):=by
 have a:=h.str.len;refine⟨⟨?_,λx hx=>?_⟩,?_⟩
 ·unfold mkV;cases Zbx c
  ·exact a
  ·rcases Q7i (c:=c) (by omega) f with e|⟨-,e⟩
   all_goals simp_all
 ·obtain⟨s,b,-,d,g,-⟩:=Qmg (by omega) f hx;have:=h.str.all s b;exact⟨by rw[d];exact this.snd,by rw[g];exact this.rcv⟩
 ·rw[show(mkV c f).2.2.2.2.2.2.2.2.2.2.2.2.2.2.2.1=c.2.2.2.2.2.2.2.2.2.2.2.2.2.2.2.1 from congrArg (λz=>z.2.2.1) (Q7h c f)];exact h.pk
noncomputable def Zzy:List Zf->Zc->List Zf->Int->Zc×List Zf×Int|[],c,fr,room=>(c,fr,room)|f::r,c,fr,room=>if fsz f<=room then Zzy r (mkV c f) (fr++[f]) (IntKind.i64.wrap (room-fsz f))else Zzy r c fr room
theorem Qs5{K:Nat}(hK:K<=1000000):∀(l:List Zf)(c:Zc)(fr:List Zf)(room:Int),Z4 K c->Z4 K (Zzy l c fr room).1
 |[],_,_,_,h=>h
 |f::r,c,fr,room,h=>by
  unfold Zzy;split
  ·exact Qs5 hK r _ _ _ (Qmh h hK f)
  ·exact Qs5 hK r _ _ _ h
theorem Qx9{K:Nat}(hK:K<=1000000):∀(l:List Zf)(c:Zc)(fr:List Zf)(room:Int),Z4 K c->stN c->stN (Zzy l c fr room).1
 |[],_,_,_,_,h=>h
 |f::r,c,fr,room,h,b=>by
  have d:=h.str.len;unfold Zzy;split
  ·exact Qx9 hK r _ _ _ (Qmh h hK f) λx hx=>by
    obtain⟨s,a,-,e,-,-⟩:=Qmg (by omega) f hx;rw[e];exact b s a
  ·exact Qx9 hK r _ _ _ h b
theorem Qx8:∀(l:List Zf)(c:Zc)(fr:List Zf)(room:Int),(Zzy l c fr room).1.2.2.2.2.2.2.2.2.2.2.2.2.2=c.2.2.2.2.2.2.2.2.2.2.2.2.2
 |[],_,_,_=>rfl
 |f::r,c,fr,room=>by
  unfold Zzy;split
  ·rw[Qx8 r,Q7h]
  ·exact Qx8 r _ _ _
theorem Ql7:∀(l:List Zf)(c:Zc)(fr:List Zf)(room:Int),(Zzy l c fr room).2.1.length<=fr.length+l.length
 |[],_,_,_=>by simp[Zzy]
 |f::r,c,fr,room=>by
  unfold Zzy;split
  ·have:=Ql7 r (mkV c f) (fr++[f]) (IntKind.i64.wrap (room-fsz f))
   grind
  ·have:=Ql7 r c fr room
   grind
theorem Qtf:∀(n:Nat)(c:Zc)(fr:List Zf)(room:Int)(sk:List Int),(Zup n c fr room sk).2.2.2.2.2.2.2.2.2.2.2.2.2.2.2=c.2.2.2.2.2.2.2.2.2.2.2.2.2.2
 |0,_,_,_,_=>rfl
 |n+1,c,fr,room,sk=>by
  unfold Zup;split
  ·rfl
  ·generalize Zig (Zvc c sk) (Zqo c)=id;cases (pcR c id room).2.1
   ·rw[Ocf,Qtf n];rfl
   ·rw[Oct];cases Z50 c id (pcR c id room).1
    ·rfl
    ·rw[Oct,Qtf n];rfl
theorem Qn0:∀(n:Nat)(c:Zc)(fr:List Zf)(room:Int)(sk:List Int),(Zup n c fr room sk).1.length<=fr.length+n
 |0,_,_,_,_=>by simp[Zup]
 |n+1,c,fr,room,sk=>by
  unfold Zup;split
  ·simp
  ·generalize Zig (Zvc c sk) (Zqo c)=id;cases (pcR c id room).2.1
   ·rw[Ocf];have:=Qn0 n (blC c id) fr room (sk++[id]);omega
   ·rw[Oct];cases Z50 c id (pcR c id room).1
    ·simp
    ·rw[Oct];have:=Qn0 n (mpC c id (pcR c id room).1) (fr++[pfF id (pcR c id room).1]) (IntKind.i64.wrap (room-fsz (pfF id (pcR c id room).1))) sk
     grind
theorem Qnz{K:Nat}(hK:K<=1000000):∀(n:Nat)(c:Zc)(fr:List Zf)(room:Int)(sk:List Int),Z4 K c->Z4 K (Zup n c fr room sk).2
 |0,_,_,_,_,h=>h
 |n+1,c,fr,room,sk,h=>by
  have b:=h.str.len;unfold Zup;split
  ·exact h
  ·rename_i d;have a:=Qos (c:=c) (by omega) (sk:=sk) (last:=Zqo c);generalize Zig (Zvc c sk) (Zqo c)=id at*
   cases (pcR c id room).2.1
   ·rw[Ocf];exact Qnz hK n _ _ _ _ (Qx2 h hK a).2
   ·rw[Oct];cases hm:Z50 c id (pcR c id room).1
    ·exact h
    ·rw[Oct];exact Qnz hK n _ _ _ _ (Qy6 h hK hm)
theorem Qny:∀(n:Nat)(c:Zc)(fr:List Zf)(room:Int)(sk:List Int),(∀f∈fr,FOK f)-> ∀f∈(Zup n c fr room sk).1,FOK f
 |0,_,_,_,_,h=>h
 |n+1,c,fr,room,sk,h=>by
  unfold Zup;split
  ·exact h
  ·generalize Zig (Zvc c sk) (Zqo c)=id;cases (pcR c id room).2.1
   ·rw[Ocf];exact Qny n _ _ _ _ h
   ·rw[Oct];cases Z50 c id (pcR c id room).1
    ·exact h
    ·rw[Oct];refine Qny n _ _ _ _ λf a=>?_
     grind[Qje,FOK]
theorem Qs4:∀(l:List Zf)(c:Zc)(fr:List Zf)(room:Int),(∀f∈l,FOK f)->(∀f∈fr,FOK f)-> ∀f∈(Zzy l c fr room).2.1,FOK f
 |[],_,_,_,_,h=>h
 |g::r,c,fr,room,b,h=>by
  unfold Zzy;split
  ·refine Qs4 r _ _ _ (λf a=>b f (List.mem_cons_of_mem _ a)) λf a=>?_
   grind
  ·exact Qs4 r _ _ _ (λf a=>b f (List.mem_cons_of_mem _ a)) h
noncomputable def emG(c:Zc)(b:Int):Bool:=((Zbx c&& !(c.2.2.2.2.2.2.2.2.2.2.2.2.2.2.2.2.2.1 !=(0:Int)))&&inB b 1 400)&& !decide (Qx5 c>=1000000)
noncomputable def emX(c:Zc)(b:Int):Zc×List Zf×Int:=Zzy (cfL c) c [] b
noncomputable def emF(c:Zc)(b:Int):List Zf×Zc:=Zup 200 (emX c b).1 (emX c b).2.1 (emX c b).2.2 []
abbrev Xj1(x:Zc)(n:Int)(fr:List Zf):Zc:=(x.1,x.2.1,x.2.2.1,x.2.2.2.1,x.2.2.2.2.1,x.2.2.2.2.2.1,x.2.2.2.2.2.2.1,x.2.2.2.2.2.2.2.1,x.2.2.2.2.2.2.2.2.1,x.2.2.2.2.2.2.2.2.2.1,x.2.2.2.2.2.2.2.2.2.2.1,x.2.2.2.2.2.2.2.2.2.2.2.1,x.2.2.2.2.2.2.2.2.2.2.2.2.1,x.2.2.2.2.2.2.2.2.2.2.2.2.2.1,n+1,x.2.2.2.2.2.2.2.2.2.2.2.2.2.2.2.1++[(n,fr,())],x.2.2.2.2.2.2.2.2.2.2.2.2.2.2.2.2)
noncomputable def emN(c:Zc)(b:Int):Int:=bif emG c b then(bif(((emF c b).1.length:Int)==0)then-1 else Qx5 c)else-1
noncomputable def emC(c:Zc)(b:Int):Zc:=bif emG c b then(bif(((emF c b).1.length:Int)==0)then(emF c b).2 else Xj1 (emF c b).2 (Qx5 c) (emF c b).1)else c
theorem Qtb{K:Nat}{c:Zc}(h:Z4 K c)(hK:K<=1000000)(b:Int):Z4 K (emX c b).1:=Qs5 hK _ _ _ _ h
theorem Qta{K:Nat}{c:Zc}(h:Z4 K c)(hK:K<=1000000)(b:Int):Z4 K (emF c b).2:=Qnz hK _ _ _ _ _ (Qtb h hK b)
theorem Q0y{K:Nat}{c:Zc}(h:Z4 K c)(hK:K<=100000)(b:Int):(emX c b).2.1.length<=4*K+6:=by
 have:=Ql7 (cfL c) c [] b;have:=Q0o c;have:=h.str.len
 grind[emX]
theorem Q9q(c:Zc)(b:Int):∀f∈(emF c b).1,FOK f:=Qny _ _ _ _ _ (Qs4 _ _ _ _ (λf a=>by grind[FOK,Q5o]) (λf a=>by cases a))
theorem Xfo{c:Zc}(hc:Zsp c):c.2.2.2.1.length<=24:=(Qqy.1 hc.sts).len
theorem Qhq{K:Nat}{c:Zc}(h:Z4 K c)(hK:K<=1000000):(cfL c).length<=102:=by
 grind[Q0o,Xfo,Z7v,cfL]
theorem Q9r{K:Nat}{c:Zc}(h:Z4 K c)(hK:K<=1000000)(b:Int):(emF c b).1.length<=302:=by
 have a:=Qn0 200 (emX c b).1 (emX c b).2.1 (emX c b).2.2 [];have d:=Ql7 (cfL c) c [] b;have e:=Qhq h hK;unfold emF emX at*
 grind
theorem Qyc{K:Nat}{c:Zc}(h:Z4 K c)(hK:K<=1000000)(b:Int):Qek (emF c b).1:=⟨by grind[Q9r],Q9q c b⟩
theorem Xd0(c:Zc)(b:Int):Qx5 (emF c b).2=Qx5 c:=by
 have a:=Qtf 200 (emX c b).1 (emX c b).2.1 (emX c b).2.2 [];have d:=Qx8 (cfL c) c [] b;exact(congrArg (λz=>z.1) a).trans (congrArg (λz=>z.2.1) d)
def okW(l:List Zf)(c:Zc):Prop:= ∀f∈l,f.1=17-> ∀s∈c.2.2.2.1,s.1=f.2.1->wcB s=true
theorem Xe1{l:List Zf}{c:Zc}(h:okW l c)(hl:c.2.2.2.1.length<=1000000)(f:Zf):okW l (mkV c f):=λg b a x hx e=>by
 obtain⟨s,d,j,-,-,i⟩:=Qmg hl f hx;rw[i];exact h g b a s d (by omega)
theorem Xdx{K:Nat}(hK:K<=90000)(t:Zc)(sk:List Int):∀(N:Nat)(l:List Zf)(i:Nat)(x:Zc)(fr:List Zf)(room:Int),l.length-i<N->i<=l.length->l.length<=500000->(∀f∈l,FOK f)->okW l x->Z4 K x->fr.length<=i->
  J9 N t x fr sk room l (l.length:Int) (i:Int)=J9 1 t (Zzy (l.drop i) x fr room).1 (Zzy (l.drop i) x fr room).2.1 sk (Zzy (l.drop i) x fr room).2.2 l (l.length:Int) (l.length:Int)
 |0,_,_,_,_,_,h,_,_,_,_,_,_=>by omega
 |N+1,l,i,x,fr,room,n,o,j,c,e,hx,k=>by
  have m:=hx.str.len;by_cases a:i<l.length
  ·have g:=c _ (Z5 (d:=Qk) a);rw[J9,Zm (Zl),Zb,show(i:Int).toNat=i from rfl,Q8e g,Obs,Xh (d:=Qk) a,Zzy,Zr a];by_cases b:fsz (l.getD i Qk)<=room
   ·rw[Zm (Zl b),if_pos b,Zb (by grind[Qd]),Qty hx (by omega) _ (e _ (Z5 (d:=Qk) a)),Obs];exact Xdx hK t sk N l (i+1) (mkV x (l.getD i Qk)) (fr++[l.getD i Qk]) _ (by omega) (by omega) j c (Xe1 e (by omega) _) (Qmh hx (by omega) _) (by simp;omega)
   ·rw[Zo (Zn b),if_neg b];exact Xdx hK t sk N l (i+1) x fr room (by omega) (by omega) j c e hx (by omega)
  simp_all[List.drop_eq_nil_of_le,Zzy,J9,Zn]
theorem Xhh{K:Nat}{c:Zc}(h:Z4 K c)(hK:K<=80000)(b:Int):∃t,Zkh c b=some ((t,emN c b,emC c b,()),()):=by
 unfold Zkh;rw[Zkg h,Obs,Qms h,Qn3 h,Obs];simp only[Zel,bO,bO2];have m:(((!(Zbx c&& !(c.2.2.2.2.2.2.2.2.2.2.2.2.2.2.2.2.2.1 !=(0:Int))))|| !(decide (b>=1)&&decide (b<=400)))||(Qx5 c==1000000))= !emG c b:=by
  unfold emG inB;by_cases o:Zbx c=true
  ·have:=((Z7v h).1 o).num
   grind
  simp_all
 rw[m];unfold emN emC;cases hg:emG c b
 ·simp_all
 ·simp only[Ont,Ocf,Oct];have g:Zsp c:=(Z7v h).1 (by simp_all);have i:=g.num;rw[Qnl h (by omega),Xg7 h,Obs];have a:stN c:=λs p=>(g.st h (by omega) p).snd.st.1;have j:=Xdx (K:=K) (by omega) Yi [] (Zgs Yi c [] [] b (cfL c) ((cfL c).length:Int) 0) (cfL c) 0 c [] b (by simp[Zgs]) (by omega) (by grind[Qhq]) (λf k=>by grind[FOK,Q5o]) (λf k=>Xg5 h (by omega) k) h (by simp);rw[List.drop_zero,Int.natCast_zero]at j;rw[j,J9,Zo (Zn)];have q:=Qtb h (by omega) b;have r:=Q0y h (by omega) b;have l:Wv (Zgt Yi (emX c b).1 (emX c b).2.1 [] (emX c b).2.2 0) Yi (emX c b).1 (emX c b).2.1 [] (emX c b).2.2 0=Zb0 Yi (emF c b).2 (emF c b).1:=Xcp (K:=K) (by omega) Yi 200 _ 0 _ _ _ _ (by omega) (by simp[Zgt]) q (Qx9 (K:=K) (by omega) _ _ _ _ h a) (by omega) (by simp);unfold emX at l;rw[l];unfold Zb0;have d:=Xd0 c b;cases hz:(((emF c b).1.length:Int)==0)
  ·simp only[Ocf];have v:=(Qta h (by omega) b).pk.1;rw[Zb (by grind[Qd])];obtain⟨y,u,-⟩:=Q9s (Qyc h (by omega) b);rw[u,Obs];refine⟨y.1,?_⟩;have e:(emF c b).2.2.2.2.2.2.2.2.2.2.2.2.2.2.2.1=c.2.2.2.2.2.2.2.2.2.2.2.2.2.2.1:=d;rw[e,Zs (n:=c.2.2.2.2.2.2.2.2.2.2.2.2.2.2.1+1),Zs,show c.2.2.2.2.2.2.2.2.2.2.2.2.2.2.1+1-1=c.2.2.2.2.2.2.2.2.2.2.2.2.2.2.1 by omega]
  simp_all
theorem Xit(l:List Int)(hl:l.length<=1048576):Zll l l=some (true,()):=by
 have b:∀(N i:Nat),l.length-i<N->i<=l.length->Zcj N l l (l.length:Int) (i:Int)=some (true,()):=by
  intro N
  induction N with
  |zero=>intro i h;omega
  |succ N c=>
   intro i d e;unfold Zcj;by_cases a:i<l.length
   ·rw[Zm (Zl),Zb,Zb,bne_self_eq_false,Ocf,Zr a]
    grind
   grind
 unfold Zll;rw[bne_self_eq_false,Ocf]
 grind[Zhb]
theorem Xiw(l:List Zi)(hl:l.length<=1048576):Kb l l=some (true,()):=by
 have b:∀(N i:Nat),l.length-i<N->i<=l.length->Xt N l l (l.length:Int) (i:Int)=some (true,()):=by
  intro N
  induction N with
  |zero=>intro i h;omega
  |succ N c=>
   intro i d e;unfold Xt;by_cases a:i<l.length
   ·rw[Zm (Zl),Zb,Zb,Zbh rfl,Ont,Ocf,Zr a]
    grind
   grind
 unfold Kb;rw[bne_self_eq_false,Ocf]
 grind[Y3]
theorem Xiq(l:List Z6)(hl:l.length<=1048576):Vd l l=some (true,()):=by
 have b:∀(N i:Nat),l.length-i<N->i<=l.length->Yj N l l (l.length:Int) (i:Int)=some (true,()):=by
  intro N
  induction N with
  |zero=>intro i h;omega
  |succ N c=>
   intro i d e;unfold Yj;by_cases a:i<l.length
   ·rw[Zm (Zl),Zb,Zb,Zbh rfl,Ont,Ocf,Zr a]
    grind
   grind
 unfold Vd;rw[bne_self_eq_false,Ocf]
 grind[Ve]
theorem Xis(l:List Zf)(hl:l.length<=1048576):Vf l l=some (true,()):=by
 have b:∀(N i:Nat),l.length-i<N->i<=l.length->Yk N l l (l.length:Int) (i:Int)=some (true,()):=by
  intro N
  induction N with
  |zero=>intro i h;omega
  |succ N c=>
   intro i d e;unfold Yk;by_cases a:i<l.length
   ·rw[Zm (Zl),Zb,Zb,Zbh rfl,Ont,Ocf,Zr a]
    grind
   grind
 unfold Vf;rw[bne_self_eq_false,Ocf]
 grind[Vg]
theorem Qz1(l:List Zi)(hl:l.length<=1048576):Zan l l=some (true,()):=by
 simp_all[Zan,Xiw]
theorem Xhk(a:List Bool):eqV (.arr 7 .bool) a a=true:=by
 show eqL (λx y:Bool=>x==y) a a=true
 induction a with
 |nil=>rfl
 |cons b a c=>simp_all[eqL]
theorem Xix{K:Nat}{s:Zg}(h:Xl K s)(hK:K<=1000000):Zp8 s s=some (true,()):=by
 have g:=h.snd;have a:=g.e0;have b:=g.eK;have e:=g.cells
 have c:Zp7 s.2.1 s.2.1=some (true,()):=by
  unfold Zp7 Zy3;simp only[beq_self_eq_true,Oct,Xit _ (show s.2.1.2.1.2.2.2.1.length<=1048576 by omega),Bool.and_self,Obs,Qz1 _ (Nat.le_trans (Q4 g.pend a b (show(K:Int)<=1000000 by omega)) (by omega)),Qz1 _ (Nat.le_trans (Q4 g.flight a b (show(K:Int)<=1000000 by omega)) (by omega)),Qz1 _ (Nat.le_trans (Q4 g.acked a b (show(K:Int)<=1000000 by omega)) (by omega))]
 have d:Zmk s.2.2.2.1 s.2.2.2.1=some (true,()):=by
  unfold Zmk Zvm;simp only[beq_self_eq_true,Oct,Xiq _ (show s.2.2.2.1.2.1.2.1.length<=1048576 by have:=h.rcv.len;omega),Bool.and_self,Obs]
 unfold Zp8 Z5t;simp only[beq_self_eq_true,Oct,c,d,Xhk,Zbh (T:=Qq) rfl,Zbh (T:=Xr) rfl,Zbh (T:=Kf) rfl,Zbh (T:=tyCredit) rfl,Bool.and_self,Obs]
theorem Xiy{K:Nat}{l:List Zg}(h:Zg7 K l)(hK:K<=1000000):Qe l l=some (true,()):=by
 have b:=h.1;have c:∀(N i:Nat),l.length-i<N->i<=l.length->Z2 N l () l (l.length:Int) (i:Int)=some (true,()):=by
  intro N
  induction N with
  |zero=>intro i h;omega
  |succ N e=>
   intro i f g;unfold Z2;by_cases a:i<l.length
   ·rw[Zm (Zl),Zb,Zb,Xix (h.all _ (Z5 (d:=Zj) (show(i:Int).toNat<l.length by omega))) hK,Obs,Ont,Ocf,Zr a]
    grind
   grind
 unfold Qe;rw[bne_self_eq_false,Ocf]
 grind[Qs]
theorem Xiv{p:Qb}(h:p.2.1.length<=1000):Zr6 p p=some (true,()):=by
 unfold Zr6;simp only[beq_self_eq_true,Oct,Xis _ (show p.2.1.length<=1048576 by omega),Bool.and_self,Obs]
theorem Xiu{K:Nat}{l:List Qb}(h:Qk4 K l)(hK:K<=1000000):Qh l l=some (true,()):=by
 have b:=h.1;have c:∀(N i:Nat),l.length-i<N->i<=l.length->Z3 N l () l (l.length:Int) (i:Int)=some (true,()):=by
  intro N
  induction N with
  |zero=>intro i h;omega
  |succ N e=>
   intro i f g;unfold Z3;by_cases a:i<l.length
   ·rw[Zm (Zl),Zb,Zb,Xiv (h.2 _ (Z5 (d:=Q6) (show(i:Int).toNat<l.length by omega))).1,Obs,Ont,Ocf,Zr a]
    grind
   grind
 unfold Qh;rw[bne_self_eq_false,Ocf]
 grind[Qu]
theorem Xir{K:Nat}{c:Zc}(h:Z4 K c)(hK:K<=1000000):Zti c c=some (true,()):=by
 unfold Zti Zw5;simp only[beq_self_eq_true,Zbh (T:=Qq) rfl,Zbh (T:=Xr) rfl,Zbh (T:=Zmg) rfl,Zbh (T:=Zdr) rfl,Bool.and_self,Ont,Bool.or_self,Ocf,Xiy h.str hK,Xiu h.pk hK,Obs]
theorem Qgw{v:Bool}{c:Zc}{f:Zf}{g can:Bool}{k:Zc->Zc×Int×Unit}{K:Nat}(D:Z4 K c)(h25:25<=K)(hK:K<=390000)(kc:KC v c)(hk:∀x,EnF K x f.2.1->KC v x->g=true->can=true->Xz f=true->(k x).2.1=0->Zsp (k x).1)(h:(pre c f g can k).2.1=0):Zsp (pre c f g can k).1:=by
 unfold pre at h⊢;cases hc:Zbx c
 ·grind
 cases hf:Xz f
 ·simp_all
 cases g
 ·simp_all
 cases can
 ·simp_all
 rw[hc,hf]at h;cases h0:(Zg8 c f.2.1).1==0
 ·grind
 ·rw[h0]at h;have q:=(okF hf).1;have e:=Zzz D hc (by omega) (by omega) q (by simpa using h0);exact hk _ ⟨Zz0 D hc (by omega) (by omega) q,e.1,e.2.1⟩ (Q9t D hc (by omega) (by omega) q kc) rfl rfl hf h
theorem Xay{K:Nat}{v:Bool}{c:Zc}{f:Zf}(h:Z4 K c)(h25:25<=K)(hK:K<=380000)(kc:KC v c):(Qqi c f).2.1=0->Zsp (Qqi c f).1:=by
 unfold Qqi;cases f.1==17
 ·cases f.1==21
  ·simp only[Ocf];cases hc:Zbx c
   ·intro h;cases h
   have C:=(Z7v h).1 hc;have L:=C.LF h (by omega);have a:=(Qqy.1 C.sts).len;have t:=Qnm.1 C.tot;have b:=Qca.1 C.ab;have d:=Qca.1 C.au;have w:=Z1u.1 C.inf;cases Xz f
   ·intro h;cases h
   cases f.1==16
   ·cases f.1==18
    ·grind
    ·refine λ_=>?_;show Zsp (Qx6 c f.2.2.2.2.2.2.2.2.1 f.2.2.2.2.2.2.1);unfold Qx6;cases f.2.2.2.2.2.2.2.2.1
     ·exact Qkr C (by omega) rfl rfl L a t w (Qnh C.ob _) C.ou b d rfl
     ·exact Qkr C (by omega) rfl rfl L a t w C.ob (Qnh C.ou _) b d rfl
   ·refine λ_=>?_;obtain⟨e,g⟩:=Qnn t f.2.2.2.2.2.2.1;exact Qkr C (by omega) rfl rfl (L.mono (Int.le_of_eq g.symm) (Int.le_refl _)) a e w C.ob C.ou b d rfl
  ·exact Qgw (k:=λx=>(x,0,())) h h25 (by omega) kc λx E k _ _ _ _=>E.con
 ·exact Qgw (k:=mlX f) h h25 (by omega) kc λx E k _ _ _ _=>Xex E (by omega)
theorem Q93{K:Nat}{v:Bool}{c:Zc}{f:Zf}(h:Z4 K c)(h25:25<=K)(hK:K<=380000)(kc:KC v c)(h0:(Z1y c f).2.1=0):Zsp (Z1y c f).1:=by
 unfold Z1y at h0⊢;cases h8:f.1==8
 ·rw[h8]at h0;cases h4:f.1==4
  ·rw[h4]at h0;cases h5:f.1==5
   ·grind[Xay]
   ·rw[h5]at h0;exact Qgw h h25 (by omega) kc (λx E k _ a hk _=>Xbm E k (by omega) (by rw[<-kc.sv];exact a)) h0
  ·rw[h4]at h0;exact Qgw h h25 (by omega) kc (λx E k _ a hk h0=>Xbg E k (by omega) (by rw[<-kc.sv];exact a) h0) h0
 ·rw[h8]at h0;exact Qgw h h25 (by omega) kc (λx E k _ a hk h0=>Q5z E k (by omega) hk (by simpa using h8) (by rw[<-kc.sv];exact a) h0) h0
theorem Xee{K:Nat}{v:Bool}{c:Zc}{f:Zf}(h:Z4 K c)(hf:FOK f)(h25:25<=K)(hK:K<=380000)(kc:KC v c):KC v (Z1y c f).1:=by
 have:=Q6k kc f;exact this _ (Xed h hf h25)
theorem Xdt{c:Zc}(h:Zsp c)(n:Int):Zsp (clV c n):=by
 unfold clV;cases hb:(Zsq c==(0:Int))&&inB n 1 255
 ·exact h
 ·have t:=h.tail;unfold Z9m at t;simp only[Oba]at t hb;have a:=Zh8.1 hb.2;refine⟨h.own,h.peer,h.sts,h.tot,h.inf,h.ob,h.ou,h.ab,h.au,h.pks,?_⟩;rw[Oct];unfold Z9m;simp only[Oba]
  grind[Zh8]
structure GC(K:Nat)(v:Bool)(c:Zc):Prop where
 inv:Z4 K c
 key:KC v c
 con:Zsp c
theorem Xce{K:Nat}{v:Bool}{c:Zc}(h:GC K v c)(n:Int):GC K v (clV c n):=by
 refine⟨?_,?_,Xdt h.con n⟩
 ·unfold clV;cases (Zsq c==(0:Int))&&inB n 1 255
  ·exact h.inv
  ·exact⟨h.inv.str,h.inv.pk⟩
 ·unfold clV;cases (Zsq c==(0:Int))&&inB n 1 255
  ·exact h.key
  ·exact⟨h.key.sv,h.key.str⟩
theorem GC.mono{K K':Nat}{v:Bool}{c:Zc}(h:GC K v c)(hK:K<=K'):GC K' v c:=⟨h.inv.mono hK,h.key,h.con⟩
theorem Xcw{v:Bool}:∀(l:List Zf)(K:Nat)(x:Zc),(∀f∈l,FOK f)->GC K v x->25<=K->K+gr l<=380000->GC (K+gr l) v (hpF x l).1
 |[],K,x,_,h,_,_=>h
 |f::r,K,x,b,h,a,d=>by
  rw[Q1a]at d⊢;have c:=b f (List.mem_cons_self ..);unfold hpF;cases hc:(Z1y x f).2.1 !=(0:Int)
  ·have g:GC (K+f.2.2.2.1.length+2) v (Z1y x f).1:=⟨Q08 h.inv c a,Xee h.inv c a (by omega) h.key,Q93 h.inv a (by omega) h.key (by simpa using hc)⟩
   exact(Xcw r _ _ (λg e=>b g (List.mem_cons_of_mem _ e)) g (by omega) (by omega)).mono (by omega)
  ·exact(Xce h _).mono (by omega)
theorem Xei{K:Nat}{v:Bool}{c:Zc}(h:GC K v c)(h25:25<=K)(s:List UInt8)(hs:s.length<=1000)(hK:K+2*s.length<=380000):GC (K+2*s.length) v (hpV c s).1:=by
 obtain⟨⟨l,b,u⟩,e,d,f,a⟩:=Qyb s hs;simp only at d f a;have g:Q4u (Kd s)=(l,b,()):=by rw[e];rfl
 unfold hpV;rw[g];cases Zbx c&& !(Zsq c !=(0:Int))
 ·exact h.mono (by omega)
 cases b
 ·exact(Xce h 7).mono (by omega)
 ·exact(Xcw l K c a h h25 (by omega)).mono (by omega)
theorem Q6q{c:Zc}(h:Zsq c≠0)(s:List UInt8):hpV c s=(c,Zsq c):=by
 unfold hpV
 grind
theorem Xab{c:Zc}(h:Zsq c=0)(s:List UInt8)(hs:s.length<=1000):Zsq (hpV c s).1=(hpV c s).2:=by
 unfold hpV;cases Zbx c&& !(Zsq c !=(0:Int))
 ·rfl
 rw[Oct];cases (Q4u (Kd s)).2.1
 ·simp_all[Q0p]
 ·obtain⟨a,b⟩:=Q6r (Q4u (Kd s)).1 c h
  grind
noncomputable def fpF:Zc->List (List UInt8)->Zc|x,[]=>x|x,s::r=>fpF (hpV x s).1 r
noncomputable def feF:Zc->List (List UInt8)->Int->Int×Int|_,[],_=>(-1,0)|x,s::r,i=>bif(hpV x s).2 !=(0:Int)then(i,(hpV x s).2)else feF (hpV x s).1 r (i+1)
def PL(l:List (List UInt8)):Prop:=l.length<=10/\ ∀s∈l,s.length<=1000
theorem Xac{K:Nat}{c:Zc}(h:Z4 K c)(h25:25<=K)(s:List UInt8)(hs:s.length<=1000)(hK:K+2000<=380000):Z4 (K+2000) (hpV c s).1:=by
 obtain⟨y,e,a⟩:=Q3m h h25 s hs (by omega);rw[(hpE h h25 s hs).1]at e;cases e;exact a.mono (by omega)
theorem Qvw{l:List (List UInt8)}(hl:PL l):∀(N i K:Nat)(t x:Zc),l.length-i<N->i<=l.length->Z4 K x->25<=K->K+2000*(l.length-i)<=380000->
  Zgd N l t x (i:Int)=some ((fpF x (l.drop i),()),())/\Zf6 N t x l (l.length:Int) (i:Int)=some (fpF x (l.drop i),())/\
  Zjr N l x (i:Int)=some ((feF x (l.drop i) i).1,(feF x (l.drop i) i).2,())/\Zjb N x l (l.length:Int) (i:Int)=some ((feF x (l.drop i) i).1,(feF x (l.drop i) i).2,())/\Z4 (K+2000*(l.length-i)) (fpF x (l.drop i))
 |0,_,_,_,_,h,_,_,_,_=>by omega
 |N+1,i,K,t,x,p,q,hx,c,r=>by
  have g:=hl.1;unfold Zgd Zf6 Zjr Zjb Zuj;by_cases e:i<l.length
  ·have j:=Xh (d:=([]:List UInt8)) e;have f:=hl.2 _ (Z5 (d:=([]:List UInt8)) e);obtain⟨a,b⟩:=hpE hx c _ f;have k:=Xac hx c _ f (by omega);rw[j,show(i:Int).toNat=i from rfl,a,b];simp only[X4,Obs];rw[Zm (Zl),Zm (Zl),Zm (Zl),Zm (Zl),Zb,Zb,Zb,Zb,Zr e];obtain⟨m,n,s,u,o⟩:=Qvw hl N (i+1) _ t (hpV x (l.getD i [])).1 (by omega) (by omega) k (by omega) (by omega);refine⟨m,n,?_,?_,o.mono (by omega)⟩
   ·unfold feF
    grind
   ·unfold feF
    grind
  ·rw[Zo (Zn),Zo (Zn),Zo (Zn),Zo (Zn),List.drop_eq_nil_of_le (by omega)];exact⟨rfl,rfl,rfl,rfl,hx.mono (by omega)⟩
theorem fpE{K:Nat}{c:Zc}(h:Z4 K c)(h25:25<=K){l:List (List UInt8)}(hl:PL l)(hK:K<=300000:=by omega):Zqk c l=some ((fpF c l,()),())/\Zk7 c l=some (fpF c l,())/\Z4 (K+20000) (fpF c l):=by
 have a:=hl.1;obtain⟨b,-,-,-,d⟩:=Qvw hl (Zek l Yi c 0) 0 K Yi c (by simp[Zek]) (by omega) h h25 (by omega);obtain⟨-,e,-⟩:=Qvw hl (Zef Yi c l (l.length:Int) 0) 0 K Yi c (by simp[Zef]) (by omega) h h25 (by omega);unfold Zqk Zk7;rw[Jg h,Zkg h];exact⟨b,e,d.mono (by omega)⟩
noncomputable def feV(c:Zc)(l:List (List UInt8)):Int×Int:=bif Zbx c&& !(Zsq c !=(0:Int))then feF c l 0 else(-1,0)
theorem feE{K:Nat}{c:Zc}(h:Z4 K c)(h25:25<=K){l:List (List UInt8)}(hl:PL l)(hK:K<=300000):Ztw c l=some ((feV c l).1,(feV c l).2,())/\Ztj c l=some ((feV c l).1,(feV c l).2,()):=by
 have a:=hl.1;obtain⟨-,-,b,-⟩:=Qvw hl (Zg3 l c 0) 0 K Yi c (by simp[Zg3]) (by omega) h h25 (by omega);obtain⟨-,-,-,d,-⟩:=Qvw hl (Zgu c l (l.length:Int) 0) 0 K Yi c (by simp[Zgu]) (by omega) h h25 (by omega);unfold Ztw Ztj feV;rw[Jg h,Qms h,Qn3 h,Obs,Obs,Obs]
 grind
theorem Q07{c:Zc}(h:Zsq c≠0):∀l,fpF c l=c
 |[]=>rfl
 |s::r=>by
  unfold fpF;rw[Q6q h];exact Q07 h r
theorem Q6a:∀(l:List (List UInt8))(x:Zc)(i:Int),Zsq x=0->(∀s∈l,s.length<=1000)->0<=i->
  ((feF x l i).1= -1/\(feF x l i).2=0/\Zsq (fpF x l)=0)\/(i<=(feF x l i).1/\(feF x l i).1<i+l.length/\(feF x l i).2≠0/\Zsq (fpF x l)=(feF x l i).2/\fpF x (l.take ((feF x l i).1-i+1).toNat)=fpF x l)
 |[],x,i,h,_,_=>.inl ⟨rfl,rfl,h⟩
 |s::r,x,i,h,g,m=>by
  have j:=Xab h s (g s (List.mem_cons_self ..));unfold feF;cases hb:(hpV x s).2 !=(0:Int)
  ·have f:(hpV x s).2=0:=by simpa using hb
   rw[Ocf];rcases Q6a r (hpV x s).1 (i+1) (by rw[j,f]) (λt k=>g t (List.mem_cons_of_mem _ k)) (by omega)with⟨a,b,c⟩|⟨a,b,c,d,e⟩
   ·exact .inl ⟨a,b,c⟩
   ·refine .inr ⟨by omega,by grind,c,d,?_⟩;rw[show((feF (hpV x s).1 r (i+1)).1-i+1).toNat=((feF (hpV x s).1 r (i+1)).1- (i+1)+1).toNat+1 by omega,List.take_succ_cons];exact e
  ·have f:(hpV x s).2≠0:=by simpa using hb
   rw[Oct];have n:Zsq (hpV x s).1≠0:=by rw[j];exact f
   refine .inr ⟨Int.le_refl _,by grind,f,?_,?_⟩
   all_goals simp_all[fpF,Q07]
theorem Xcu{v:Bool}:∀(l:List (List UInt8))(K:Nat)(x:Zc),(∀s∈l,s.length<=1000)->GC K v x->25<=K->K+2000*l.length<=380000-> ∃K',GC K' v (fpF x l)
 |[],K,x,_,h,_,_=>⟨K,h⟩
 |s::r,K,x,b,h,a,c=>by
  rw[List.length_cons]at c;have d:=b s (List.mem_cons_self ..);have g:=(Xei h a s d (by omega)).mono (show K+2*s.length<=K+2000 by omega);exact Xcu r (K+2000) _ (λt e=>b t (List.mem_cons_of_mem _ e)) g (by omega) (by omega)
theorem Xiz{K:Nat}{c:Zc}(h:Z4 K c)(hK:K<=80000):Zl4 c=some (Zbx c&&(Zsq c !=(0:Int)),()):=by
 unfold Zl4 Zpl;by_cases b:(Zbx c&&(Zsq c !=(0:Int)))=true
 ·obtain⟨d,a⟩:=Bool.and_eq_true_iff.1 b;have e:Zkh c 400=some (([],-1,c,()),()):=by
   unfold Zkh;rw[Zkg h,Qms h,Qn3 h,Obs,Obs,a,Ont,Bool.and_false];rfl
  rw[e,Obs,Zv1 h,Z0k h,Obs,d];simp only[Oct,Obs];rw[a];simp only[Bool.and_self,beq_self_eq_true,Oct,Xir h (show K<=1000000 by omega),Obs]
 ·obtain⟨t,e⟩:=Xhh h hK 400;rw[e,Obs,Zv1 h,Z0k h,Obs]
  grind
theorem Xk4{K:Nat}{c:Zc}(h:Z4 K c)(hK:K<=80000):Ztf c=some (Zbx c&&(Zsq c !=(0:Int)),()):=by
 unfold Ztf Zfz;by_cases b:(Zbx c&&(Zsq c !=(0:Int)))=true
 ·obtain⟨d,a⟩:=Bool.and_eq_true_iff.1 b;have e:Vu c 400=some (([],-1,c,()),()):=by
   unfold Vu;rw[Jg h,Qn3 h,Obs,Obs,a,Ont,Bool.and_false];rfl
  rw[e,Obs,Z0k h,Obs,d];simp only[Oct,Obs];rw[a];simp only[Bool.and_self,beq_self_eq_true,Oct,Q57 h (show K<=1000000 by omega),Obs]
 ·obtain⟨t,e,-⟩:=Qnu h hK 400;rw[e,Obs,Z0k h,Obs]
  grind
end Go.Proofs.YtfhellopliifdaaGreat

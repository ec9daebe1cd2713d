/- FnFairness: the plain law, part 3. No condition. -/
import Derived.Test.YtdhchdiikmnmeaaGreatP2
namespace Go.Proofs.YtdhchdiikmnmeaaGreat
open Go.Am
set_option maxRecDepth 100000
set_option linter.unusedVariables false
noncomputable def emG(c:Ze)(b:Int):Bool:=((Zc3 c&& !(c.2.2.2.2.2.2.2.2.2.2.2.2.2.2.2.2.2.1 !=(0:Int)))&&inB b 1 400)&& !decide (Zxs c>=1000000)
noncomputable def emX(c:Ze)(b:Int):Ze×List Zf×Int:=Zc4 (cfL c) c [] b
noncomputable def emF(c:Ze)(b:Int):List Zf×Ze:=Zem 200 (emX c b).1 (emX c b).2.1 (emX c b).2.2 []
abbrev Xdy(x:Ze)(n:Int)(fr:List Zf):Ze:=(x.1,(x.2.1,(x.2.2.1,(x.2.2.2.1,(x.2.2.2.2.1,(x.2.2.2.2.2.1,(x.2.2.2.2.2.2.1,(x.2.2.2.2.2.2.2.1,(x.2.2.2.2.2.2.2.2.1,(x.2.2.2.2.2.2.2.2.2.1,(x.2.2.2.2.2.2.2.2.2.2.1,(x.2.2.2.2.2.2.2.2.2.2.2.1,(x.2.2.2.2.2.2.2.2.2.2.2.2.1,(x.2.2.2.2.2.2.2.2.2.2.2.2.2.1,(n+1,(x.2.2.2.2.2.2.2.2.2.2.2.2.2.2.2.1++ [(n,(fr,()))],x.2.2.2.2.2.2.2.2.2.2.2.2.2.2.2.2))))))))))))))))
noncomputable def emN(c:Ze)(b:Int):Int:=bif emG c b then(bif(((emF c b).1.length:Int)==0)then-1 else Zxs c)else-1
noncomputable def emC(c:Ze)(b:Int):Ze:=bif emG c b then(bif(((emF c b).1.length:Int)==0)then(emF c b).2 else Xdy (emF c b).2 (Zxs c) (emF c b).1)else c
theorem Qv9{K:Nat}{c:Ze}(h:Xx K c)(hK:K<=1000000)(b:Int):Xx K (emX c b).1:=Qn2 hK _ _ _ _ h
theorem Qv8{K:Nat}{c:Ze}(h:Xx K c)(hK:K<=1000000)(b:Int):Xx K (emF c b).2:=Qqy hK _ _ _ _ _ (Qv9 h hK b)
theorem Q2w{K:Nat}{c:Ze}(h:Xx K c)(hK:K<=100000)(b:Int): (emX c b).2.1.length<=4*K+6:=by
 have:=Qn3 (cfL c) c [] b;have:=Q2p c;have:=h.str.len;unfold emX;simp only[List.length_nil]at*;omega
theorem Q9c(c:Ze)(b:Int): ∀f∈(emF c b).1,FOK f:=Qqx _ _ _ _ _ (Qvw _ _ _ _ (fun f hf=>by unfold FOK;rw[Q6l hf];simp) (fun f hf=>by cases hf))
theorem Xc2{c:Ze}(hc:Zhh c):c.2.2.2.1.length<=24:=(Qgl.1 hc.sts).len
theorem Qg1{K:Nat}{c:Ze}(h:Xx K c)(hK:K<=1000000): (cfL c).length<=102:=by
 have:=Q2p c;by_cases hc:Zc3 c=true
 ·have:=Xc2 ((Z3b h hK).1 hc);omega
 ·have hc:Zc3 c=false:=by simpa using hc
  unfold cfL;rw[hc];simp
theorem Q2v{K:Nat}{c:Ze}(h:Xx K c)(hK:K<=1000000)(b:Int): (emF c b).1.length<=302:=by
 have a:=Qqz 200 (emX c b).1 (emX c b).2.1 (emX c b).2.2 [];have d:=Qn3 (cfL c) c [] b;have e:=Qg1 h hK;unfold emF emX at*
 simp only[List.length_nil]at*;omega
theorem Q0r{K:Nat}{c:Ze}(h:Xx K c)(hK:K<=1000000)(b:Int):Qot (emF c b).1:=⟨by have:=Q2v h hK b;omega,Q9c c b⟩
theorem Z57{K:Nat}{c:Ze}(h:Xx K c)(hK:K<=1000000)(b:Int):Xx (K+1) (emC c b):=by
 unfold emC;have e:=Qv8 h hK b;cases emG c b
 ·exact h.mono (by omega)
 ·rw[Oct];cases ((emF c b).1.length:Int)==0
  ·rw[Ocf];refine⟨e.str.mono (by omega),⟨?_,fun p hp=> ?_⟩⟩
   ·have:=e.pk.1;simp only[List.length_append,List.length_cons,List.length_nil];omega
   ·rcases List.mem_append.1 hp with hp|hp
    ·exact e.pk.2 p hp
    ·rw[List.mem_singleton.1 hp];exact Q0r h hK b
  ·exact e.mono (by omega)
theorem Xb2(c:Ze)(b:Int):Zxs (emF c b).2=Zxs c:=by
 have a:=Qn7 200 (emX c b).1 (emX c b).2.1 (emX c b).2.2 [];have d:=Qvy (cfL c) c [] b;exact(congrArg (fun z=>z.1) a).trans (congrArg (fun z=>z.2.1) d)
theorem Xb0{K:Nat}(hK:K<=90000)(c0 t:Ze): ∀(N:Nat) (l:List Zf) (i:Nat) (x:Ze) (fr:List Zf) (room:Int),l.length-i<N->i<=l.length->l.length<=500000->(∀f∈l,FOK f)->Xx K x->fr.length<=i->
  Yr N c0 t x fr room l (i:Int)=Yr 1 c0 t (Zc4 (l.drop i) x fr room).1 (Zc4 (l.drop i) x fr room).2.1 (Zc4 (l.drop i) x fr room).2.2 l (l.length:Int)
 |0,_,_,_,_,_,h,_,_,_,_,_=>by omega
 |N+1,l,i,x,fr,room,hN,hi,hl,hf,hx,hfr=>by
  by_cases hh:i<l.length
  ·have hfi:=hf _ (Z2 (d:=Qq) hh);rw[Yr,Zp (Zm (by omega)),Zb (by omega),show(i:Int).toNat=i from rfl,Q79 hfi,Obs,Xj (d:=Qq) hh,Zc4];unfold Zjn;rw[Zr hh (by omega)];by_cases hz:fsz (l.getD i Qq)<=room
   ·rw[Zp (Zm hz),if_pos hz,Zb (by omega),Obs,Zb (by omega),mkE hx (by omega),Obs,Zb (by omega),Zb (by unfold Qg;simp only[List.length_singleton];omega)];exact Xb0 hK c0 t N l (i+1) (mkV x (l.getD i Qq)) (fr++ [l.getD i Qq]) _ (by omega) (by omega) hl hf (Zwc hx (by omega) _) (by simp;omega)
   ·rw[Zl (Zj hz),if_neg hz];exact Xb0 hK c0 t N l (i+1) x fr room (by omega) (by omega) hl hf hx (by omega)
  ·have:i=l.length:=by omega
   subst this;rw[List.drop_eq_nil_of_le (Nat.le_refl _),Zc4];simp only;rw[Yr,Yr,Zl (Zj (by omega)),Zl (Zj (by omega))]
theorem Q2x{K:Nat}{c:Ze}(h:Xx K c)(hK:K<=80000)(b:Int): ∃t,Zak c b=some ((t,(emN c b,(emC c b,()))),()):=by
 unfold Zak;rw[Zb4 h (by omega),Obs,Q26 h (by omega),Obs];simp only[inQ,bO,bO2];have e0: (((!(Zc3 c&& !(c.2.2.2.2.2.2.2.2.2.2.2.2.2.2.2.2.2.1 !=(0:Int))))|| !inB b 1 400)||decide (Zxs c>=1000000))= !emG c b:=by
  unfold emG;cases (Zc3 c&& !(c.2.2.2.2.2.2.2.2.2.2.2.2.2.2.2.2.2.1 !=(0:Int)))<;>cases inB b 1 400<;>cases decide (Zxs c>=1000000)<;>rfl
 rw[e0];unfold emN emC;cases hg:emG c b
 ·exact⟨[],rfl⟩
 ·simp only[Ont,Ocf,Oct];have hC:Zhh c:=(Z3b h (by omega)).1 (by unfold emG at hg;simp only[Oba]at hg;exact hg.1.1.1);have hnum:=hC.num;rw[Xd5 h (by omega),Obs];have e1:=Xb0 (K:=K) (by omega) c Ji (Zdj c Ji c [] b (cfL c) 0) (cfL c) 0 c [] b (by unfold Zdj;omega) (by omega) (by have:=Qg1 h (by omega);omega) (fun f hf=>by unfold FOK;rw[Q6l hf];simp) h (by simp);rw[List.drop_zero,Int.natCast_zero]at e1;rw[e1,Yr,Zl (Zj (by omega))];have hX:=Qv9 h (by omega) b;have hXl:=Q2w h (by omega) b;have e2:Zug (emX c b).1 (emX c b).2.1 (emX c b).2.2=some (((emF c b).1,()),((emF c b).2,())):=by
   unfold Zug;exact Xa5 (K:=K) (by omega) 200 _ 0 _ _ _ _ (by omega) (by unfold Zmu;omega) hX (by omega) (by simp)
  unfold emX at e2;rw[e2,Obs];cases hz: (((emF c b).1.length:Int)==0)
  ·simp only[Ocf];have hp:=(Qv8 h (by omega) b).pk.1;rw[Zb (by unfold Qg;simp only[List.length_singleton];omega)];obtain⟨y,ey,-⟩:=Xb3 (Q0r h (by omega) b);rw[ey,Obs];refine⟨y.1,?_⟩;rw[Zv (n:=c.2.2.2.2.2.2.2.2.2.2.2.2.2.2.1+1) (by omega) (by omega)]
  ·exact⟨[],rfl⟩
def okW(l:List Zf)(c:Ze):Prop:= ∀f∈l,f.1=17-> ∀s∈c.2.2.2.1,s.1=f.2.1->wcB s=true
theorem Xck{l:List Zf}{c:Ze}(h:okW l c)(hl:c.2.2.2.1.length<=1000000)(f:Zf):okW l (mkV c f):=fun g hg h17 x hx e=>by
 obtain⟨s,hs,e1,-,-,e2⟩:=Qwu hl f hx;rw[e2];exact h g hg h17 s hs (by rw[<-e1];exact e)
theorem Xbz{K:Nat}(hK:K<=90000)(t:Ze)(sk:List Int): ∀(N:Nat) (l:List Zf) (i:Nat) (x:Ze) (fr:List Zf) (room:Int),l.length-i<N->i<=l.length->l.length<=500000->(∀f∈l,FOK f)->okW l x->Xx K x->fr.length<=i->
  Yp N t x fr sk room l (l.length:Int) (i:Int)=Yp 1 t (Zc4 (l.drop i) x fr room).1 (Zc4 (l.drop i) x fr room).2.1 sk (Zc4 (l.drop i) x fr room).2.2 l (l.length:Int) (l.length:Int)
 |0,_,_,_,_,_,h,_,_,_,_,_,_=>by omega
 |N+1,l,i,x,fr,room,hN,hi,hl,hf,hw,hx,hfr=>by
  have hxl:=hx.str.len;by_cases hh:i<l.length
  ·have hfi:=hf _ (Z2 (d:=Qq) hh);rw[Yp,Zp (Zm (by omega)),Zb (by omega),show(i:Int).toNat=i from rfl,Q78 hfi,Obs,Xj (d:=Qq) hh,Zc4,Zr hh (by omega)];by_cases hz:fsz (l.getD i Qq)<=room
   ·rw[Zp (Zm hz),if_pos hz,Zb (by unfold Qg;simp only[List.length_singleton];omega),Qwr hx (by omega) _ (hw _ (Z2 (d:=Qq) hh)),Obs];exact Xbz hK t sk N l (i+1) (mkV x (l.getD i Qq)) (fr++ [l.getD i Qq]) _ (by omega) (by omega) hl hf (Xck hw (by omega) _) (Zwc hx (by omega) _) (by simp;omega)
   ·rw[Zl (Zj hz),if_neg hz];exact Xbz hK t sk N l (i+1) x fr room (by omega) (by omega) hl hf hw hx (by omega)
  ·have:i=l.length:=by omega
   subst this;rw[List.drop_eq_nil_of_le (Nat.le_refl _),Zc4];simp only;rw[Yp,Yp,Zl (Zj (by omega)),Zl (Zj (by omega))]
theorem Xeb{K:Nat}{c:Ze}(h:Xx K c)(hK:K<=80000)(b:Int): ∃t,Zoi c b=some ((t,(emN c b,(emC c b,()))),()):=by
 unfold Zoi;rw[Z54 h (by omega),Obs,Q4e h (by omega),Q26 h (by omega),Obs];simp only[Znj,bO,bO2];have e0: (((!(Zc3 c&& !(c.2.2.2.2.2.2.2.2.2.2.2.2.2.2.2.2.2.1 !=(0:Int))))|| !(decide (b>=1)&&decide (b<=400)))|| (Zxs c==1000000))= !emG c b:=by
  unfold emG inB;by_cases hc:Zc3 c=true
  ·have:=((Z3b h (by omega)).1 hc).num;have: (Zxs c==1000000)=decide (Zxs c>=1000000):=by rw[Bool.eq_iff_iff];simp only[beq_iff_eq,decide_eq_true_eq];unfold Zxs;omega
   rw[this];cases (Zc3 c&& !(c.2.2.2.2.2.2.2.2.2.2.2.2.2.2.2.2.2.1 !=(0:Int)))<;>cases (decide (b>=1)&&decide (b<=400))<;>cases decide (Zxs c>=1000000)<;>rfl
  ·have hc:Zc3 c=false:=by simpa using hc
   rw[hc];simp
 rw[e0];unfold emN emC;cases hg:emG c b
 ·exact⟨[],rfl⟩
 ·simp only[Ont,Ocf,Oct];have hC:Zhh c:=(Z3b h (by omega)).1 (by unfold emG at hg;simp only[Oba]at hg;exact hg.1.1.1);have hnum:=hC.num;rw[Qpm h (by omega),Xd5 h (by omega),Obs];have hst:stN c:=fun s hs=>(hC.st h (by omega) hs).snd.st.1;have e1:=Xbz (K:=K) (by omega) Ji [] (Zc8 Ji c [] [] b (cfL c) ((cfL c).length:Int) 0) (cfL c) 0 c [] b (by unfold Zc8;omega) (by omega) (by have:=Qg1 h (by omega);omega) (fun f hf=>by unfold FOK;rw[Q6l hf];simp) (fun f hf=>Xd3 h (by omega) hf) h (by simp);rw[List.drop_zero,Int.natCast_zero]at e1;rw[e1,Yp,Zl (Zj (by omega))];have hX:=Qv9 h (by omega) b;have hXl:=Q2w h (by omega) b;have e2:Jn (Zc9 Ji (emX c b).1 (emX c b).2.1 [] (emX c b).2.2 0) Ji (emX c b).1 (emX c b).2.1 [] (emX c b).2.2 0=Vq Ji (emF c b).2 (emF c b).1:=Xa4 (K:=K) (by omega) Ji 200 _ 0 _ _ _ _ (by omega) (by unfold Zc9;omega) hX (Q0j (K:=K) (by omega) _ _ _ _ h hst) (by omega) (by simp);unfold emX at e2;rw[e2];unfold Vq;have hn2:=Xb2 c b;cases hz: (((emF c b).1.length:Int)==0)
  ·simp only[Ocf];have hp:=(Qv8 h (by omega) b).pk.1;rw[Zb (by unfold Qg;simp only[List.length_singleton];omega)];obtain⟨y,ey,-⟩:=Q9d (Q0r h (by omega) b);rw[ey,Obs];refine⟨y.1,?_⟩;have hn3: (emF c b).2.2.2.2.2.2.2.2.2.2.2.2.2.2.2.1=c.2.2.2.2.2.2.2.2.2.2.2.2.2.2.1:=hn2;rw[hn3,Zv (n:=c.2.2.2.2.2.2.2.2.2.2.2.2.2.2.1+1) (by omega) (by omega),Zv (by omega) (by omega),show c.2.2.2.2.2.2.2.2.2.2.2.2.2.2.1+1-1=c.2.2.2.2.2.2.2.2.2.2.2.2.2.2.1 by omega]
  ·exact⟨[],rfl⟩
def pkF(n:Int):List Z8->Z8×Bool×Unit| []=>(((0:Int),(([]:List Zf),())),false,())|p::r=>if p.1=n then(p,true,())else pkF n r
theorem Q7z{K:Nat}{c:Ze}(h:Xx K c)(hK:K<=1000000)(n:Int):Wi c n=some (pkF n c.2.2.2.2.2.2.2.2.2.2.2.2.2.2.2.1):=by
 have hl:=h.pk.1;have lp: ∀(t:Z8) (N i:Nat),c.2.2.2.2.2.2.2.2.2.2.2.2.2.2.2.1.length-i<N->i<=c.2.2.2.2.2.2.2.2.2.2.2.2.2.2.2.1.length->Zbw N n c t (i:Int)=some (pkF n (c.2.2.2.2.2.2.2.2.2.2.2.2.2.2.2.1.drop i)):=by
  intro t N
  induction N with
  |zero=>intro i h;omega
  |succ N ih=>
   intro i hN hi;unfold Zbw;by_cases hh:i<c.2.2.2.2.2.2.2.2.2.2.2.2.2.2.2.1.length
   ·have hm:=(h.pk.2 _ (Z2 (d:=Qj) hh)).1;rw[Zp (Zm (by omega)),Zb (by omega),show(i:Int).toNat=i from rfl,Xj (d:=Qj) hh,pkF];by_cases e: (c.2.2.2.2.2.2.2.2.2.2.2.2.2.2.2.1.getD i Qj).1=n
    ·rw[Zp (by simpa using e),if_pos e,Zb (by omega),Zb (by unfold Qg;simp only[List.length_nil];omega),<-e,List.nil_append]
    ·rw[Zl (beq_false_of_ne e),if_neg e,Zr hh (by omega),ih (i+1) (by omega) (by omega)]
   ·rw[Zl (Zj (by omega)),List.drop_eq_nil_of_le (by omega)];rfl
 unfold Wi;exact lp _ _ 0 (by unfold Zf7;omega) (by omega)
theorem Xe1{K:Nat}{c:Ze}(h:Xx K c)(hK:K<=1000000)(n:Int):Zr0 c n=some (pkF n c.2.2.2.2.2.2.2.2.2.2.2.2.2.2.2.1):=by
 have hl:=h.pk.1;unfold Zr0 Zrh Xc;have lp: ∀(N i:Nat),c.2.2.2.2.2.2.2.2.2.2.2.2.2.2.2.1.length-i<N->i<=c.2.2.2.2.2.2.2.2.2.2.2.2.2.2.2.1.length-> ∃v,Qa N c.2.2.2.2.2.2.2.2.2.2.2.2.2.2.2.1 (n,()) (c.2.2.2.2.2.2.2.2.2.2.2.2.2.2.2.1.length:Int) (i:Int)=some (v,())/\((v<0/\pkF n (c.2.2.2.2.2.2.2.2.2.2.2.2.2.2.2.1.drop i)=(((0:Int),(([]:List Zf),())),false,()))\/(0<=v/\v<c.2.2.2.2.2.2.2.2.2.2.2.2.2.2.2.1.length/\pkF n (c.2.2.2.2.2.2.2.2.2.2.2.2.2.2.2.1.drop i)=(c.2.2.2.2.2.2.2.2.2.2.2.2.2.2.2.1.getD v.toNat Qj,true,()))):=by
  intro N
  induction N with
  |zero=>intro i h;omega
  |succ N ih=>
   intro i hN hi;unfold Qa;by_cases hh:i<c.2.2.2.2.2.2.2.2.2.2.2.2.2.2.2.1.length
   ·rw[Zp (Zm (by omega)),Zb (by omega),show(i:Int).toNat=i from rfl,Xj (d:=Qj) hh,pkF];simp only[Zo7,Obs];by_cases e: (c.2.2.2.2.2.2.2.2.2.2.2.2.2.2.2.1.getD i Qj).1=n
    ·refine⟨(i:Int),by rw[Zp (by simpa using e)],.inr ⟨by omega,by omega,by rw[if_pos e];rfl⟩⟩
    ·obtain⟨v,h1,h2⟩:=ih (i+1) (by omega) (by omega);refine⟨v,by rw[Zl (beq_false_of_ne e),Zr hh (by omega),h1],?_⟩;rw[if_neg e];exact h2
   ·refine⟨-1,by rw[Zl (Zj (by omega))],.inl ⟨by omega,?_⟩⟩;rw[List.drop_eq_nil_of_le (by omega)];rfl
 obtain⟨v,h1,h2⟩:=lp (Qh c.2.2.2.2.2.2.2.2.2.2.2.2.2.2.2.1 (n,()) (c.2.2.2.2.2.2.2.2.2.2.2.2.2.2.2.1.length:Int) 0) 0 (by unfold Qh;omega) (by omega);rw[List.drop_zero]at h2;rw[Int.natCast_zero]at h1;rw[h1];simp only[Obs];rcases h2 with⟨h2,h3⟩| ⟨h2,h4,h3⟩
 ·rw[Zp (Zm h2),h3]
 ·have hw:IntKind.i64.wrap (v+1)=v+1:=Zv (by omega) (by omega);rw[Zl (Zj (by omega)),hw,Zb (by omega),h3];have hn: (v+1).toNat-v.toNat=1:=by omega
  have hv:v.toNat<c.2.2.2.2.2.2.2.2.2.2.2.2.2.2.2.1.length:=by omega
  rw[hn,Xj (d:=Qj) hv,List.take_succ_cons,List.take_zero];have hp:Qou K [c.2.2.2.2.2.2.2.2.2.2.2.2.2.2.2.1.getD v.toNat Qj]:=⟨by simp;omega,fun p hp=>by rw[List.mem_singleton.1 hp];exact h.pk.2 _ (Z2 (d:=Qj) hv)⟩
  have e:=Zw4 hp hK (Ku ([]:List Z8) [c.2.2.2.2.2.2.2.2.2.2.2.2.2.2.2.1.getD v.toNat Qj] (([c.2.2.2.2.2.2.2.2.2.2.2.2.2.2.2.1.getD v.toNat Qj]:List Z8).length:Int) (0:Int)) 0 (by unfold Ku;simp) (by omega);rw[List.take_zero,Int.natCast_zero]at e;unfold Zii;rw[e,Obs];exact Zb (by simp)
theorem Qr3{K:Nat}{l:List Z8}(h:Qou K l)(n:Int): (pkF n l).1.2.1.length<=1000:=by
 obtain⟨-,h⟩:=h
 induction l with
 |nil=>simp[pkF]
 |cons p r ih=>
  unfold pkF;split
  ·exact(h p List.mem_cons_self).1
  ·exact ih fun q hq=>h q (List.mem_cons_of_mem _ hq)
noncomputable def drF(b:Int):Nat->Ze->List Int->List Int|0,_,o=>o|n+1,c,o=>bif emN c b== -1 then o else drF b n (emC c b) (o++Zgv (pkF (emN c b) (emC c b).2.2.2.2.2.2.2.2.2.2.2.2.2.2.2.1).1.2.1)
theorem Q0l(b most:Int): ∀(N n i K:Nat) (c:Ze) (o:List Int),(min most 30- (i:Int)).toNat=n->n<N->i<=30->Xx K c->K<=70000+i->o.length<=1000*i->
  Zfn N b most o c (i:Int)=some (drF b n c o,())
 |0,_,_,_,_,_,_,h,_,_,_,_=>by omega
 |N+1,n,i,K,c,o,hn,hN,hi,h,hK,ho=>by
  unfold Zfn;by_cases hh: (i:Int)<most/\(i:Int)<30
  ·obtain⟨m,rfl⟩: ∃m,n=m+1:=⟨n-1,by omega⟩
   obtain⟨t,e⟩:=Q2x h (by omega) b;have hi2:=Z57 h (by omega) b;rw[Zm hh.1,Zm hh.2,Bool.and_self,Oct,e,Obs,drF];simp only;cases emN c b== -1
   ·have hp:=Qr3 hi2.pk (emN c b);have hf:=Zx0 (pkF (emN c b) (emC c b).2.2.2.2.2.2.2.2.2.2.2.2.2.2.2.1).1.2.1;rw[Ocf,Ocf,Q7z hi2 (by omega),Obs,(Qrz _ (by omega)).1,Obs,Zb (by unfold Qg;simp only;omega),Zr (m:=30) (by omega) (by omega)];exact Q0l b most N m (i+1) (K+1) _ _ (by omega) (by omega) (by omega) hi2 (by omega) (by simp only[List.length_append];omega)
   ·rfl
  ·have:n=0:=by omega
   subst this;have: (decide ((i:Int)<most)&&decide ((i:Int)<30))=false:=by
    rw[Bool.and_eq_false_iff,decide_eq_false_iff_not,decide_eq_false_iff_not];omega
   rw[this];rfl
theorem Q0k(b m:Int)(hm:m<=30): ∀(N n i K:Nat) (c:Ze) (o:List Int),(m- (i:Int)).toNat=n->n<N->i<=30->Xx K c->K<=70000+i->o.length<=1000*i->
  Zfc N b c o m (i:Int)=some (drF b n c o,())
 |0,_,_,_,_,_,_,h,_,_,_,_=>by omega
 |N+1,n,i,K,c,o,hn,hN,hi,h,hK,ho=>by
  unfold Zfc;by_cases hh: (i:Int)<m
  ·obtain⟨q,rfl⟩: ∃q,n=q+1:=⟨n-1,by omega⟩
   obtain⟨t,e⟩:=Xeb h (by omega) b;have hi2:=Z57 h (by omega) b;rw[Zm hh,Oct,e,Obs,drF];simp only;cases emN c b== -1
   ·have hp:=Qr3 hi2.pk (emN c b);have hf:=Zx0 (pkF (emN c b) (emC c b).2.2.2.2.2.2.2.2.2.2.2.2.2.2.2.1).1.2.1;rw[Ocf,Ocf,Xe1 hi2 (by omega),Obs,(Qrz _ (by omega)).2,Obs,Zb (by unfold Qg;simp only;omega),Zr (m:=30) (by omega) (by omega)];exact Q0k b m hm N q (i+1) (K+1) _ _ (by omega) (by omega) (by omega) hi2 (by omega) (by simp only[List.length_append];omega)
   ·rfl
  ·have:n=0:=by omega
   subst this;rw[Zj hh];rfl
theorem Xb1{K:Nat}{c:Ze}(h:Xx K c)(hK:K<=70000)(b most:Int): ∃l,Zgq c b most=some (l,())/\Zgh c b most=some (l,()):=by
 refine⟨drF b (min most 30).toNat c [],?_,?_⟩
 ·unfold Zgq;rw[Zb4 h (by omega),Obs];exact Q0l b most _ _ 0 K c [] (by omega) (by unfold Zdi;omega) (by omega) h (by omega) (by simp)
 ·unfold Zgh;exact Q0k b (min most 30) (by omega) _ _ 0 K c [] (by omega) (by unfold Zc7;omega) (by omega) h (by omega) (by simp)
def Pc{α:Type}(m:Option α)(Q:α->Prop):Prop:= ∀y,m=some y->Q y
section
variable {α β:Type} {m n:Option α} {f:α->Option β} {Q:α->Prop} {R:β->Prop}
theorem Pc.bind(h:Pc m Q)(k: ∀y,Q y->Pc (f y) R):Pc (Option.bind m f) R:=fun y e=>by
 cases hm:m with
 |none=>rw[hm]at e;cases e
 |some x=>rw[hm]at e;exact k x (h x hm) y e
theorem Pc.any:Pc m fun _=>True:=fun _ _=>trivial
theorem Pc.skip(k: ∀y,Pc (f y) R):Pc (Option.bind m f) R:=Pc.any.bind fun y _=>k y
theorem Pc.pure{y:α}(h:Q y):Pc (some y) Q:=fun z e=>by cases e;exact h
theorem Pc.ite{c:Bool}(h1:c=true->Pc m Q)(h2:c=false->Pc n Q):Pc (bif c then m else n) Q:=by
 cases c
 ·exact h2 rfl
 ·exact h1 rfl
theorem Pc.guard{p:Prop}(h:Pc m Q):Pc (Zi p m) Q:=fun y e=>by
 by_cases hp:p
 ·rw[Zb hp]at e;exact h y e
 ·unfold Zi at e;rw[if_neg hp]at e;cases e
end
theorem T.pc{α:Type}{m:Option α}{Q R:α->Prop}(h:T m Q)(k:Pc m R):T m fun y=>Q y/\R y:=by
 obtain⟨y,e,hy⟩:=h;exact⟨y,e,hy,k y e⟩
theorem Pc.if{α:Type}{m n:Option α}{Q:α->Prop}{c:Bool}(h1:Pc m Q)(h2:Pc n Q):Pc (bif c then m else n) Q:=Pc.ite (fun _=>h1) fun _=>h2
theorem Pc.none{α:Type}{Q:α->Prop}:Pc (none:Option α) Q:=fun _ e=>by cases e
theorem Pc.of{α:Type}{m:Option α}{y:α}{Q:α->Prop}(e:m=some y)(h:Q y):Pc m Q:=fun z e2=>by rw[e]at e2;cases e2;exact h
theorem Pc.mono{α:Type}{m:Option α}{Q R:α->Prop}(h:Pc m Q)(k: ∀y,Q y->R y):Pc m R:=fun y e=>k y (h y e)
def Zre(s x:Zo):Prop:=x.2.1.2.2.1=s.2.1.2.2.1/\x.2.2.2.2.2.2.2.1=s.2.2.2.2.2.2.2.1/\x.2.2.2.2.2.2.2.2.1=s.2.2.2.2.2.2.2.2.1
theorem Zre.rfl{s:Zo}:Zre s s:=⟨Eq.refl _,Eq.refl _,Eq.refl _⟩
theorem Xby{K:Int}{s:Zo}(h:Kk K s)(hK:K<=1000000):Pc (Ze1 s) fun r=>Zre s r.1:=by
 unfold Ze1;rw[Zme h hK,Obs];exact Pc.skip fun t=>Pc.if (Pc.pure Zre.rfl) (Pc.pure ⟨rfl,rfl,rfl⟩)
theorem Q4k{K:Int}{s:Zo}(h:Kk K s)(hK:K<=1000000):Pc (Zkv s) fun r=>Zre s r.1:=by
 unfold Zkv;rw[Zme h hK,Obs];exact Pc.skip fun t=>Pc.if (Pc.pure Zre.rfl) (Pc.pure ⟨rfl,rfl,rfl⟩)
theorem Xds{K:Int}{s:Zo}(h:Kk K s)(d:List UInt8)(hK:K+d.length<=1000000):Pc (Ze6 s d) fun r=>r.1.2.1.2.2.1<=s.2.1.2.2.1+d.length/\r.1.2.2.2.2.2.2.2.1=s.2.2.2.2.2.2.2.1/\r.1.2.2.2.2.2.2.2.2.1=s.2.2.2.2.2.2.2.2.1:=by
 have h0:=h.e0;have hcl:=h.cells;have heK:=h.eK;obtain⟨cs,n,k1,k2,k3,k4⟩:=Qvj s.2.1 d (by omega) (by omega) h0 (by omega);unfold Ze6 Zeb;rw[Zme h (by omega),Obs,k1];refine Pc.skip fun t=>Pc.if (Pc.pure ⟨by simp only;omega,rfl,rfl⟩) ?_;rw[Obs];exact Pc.if (Pc.skip fun t=>Pc.pure ⟨by simp only;omega,rfl,rfl⟩) (Pc.pure ⟨by simp only;omega,rfl,rfl⟩)
theorem Q75{K:Int}{s:Zo}(h:Kk K s)(code:Int)(hK:K<=1000000):Pc (Zbx s code) fun r=>r.1.2.1.2.2.1<=s.2.1.2.2.1/\r.1.2.2.2.2.2.2.2.1=s.2.2.2.2.2.2.2.1/\(r.1.2.2.2.2.2.2.2.2.1=s.2.2.2.2.2.2.2.2.1\/r.1.2.2.2.2.2.2.2.2.1=code):=by
 unfold Zbx;rw[Q5v h hK,Zme h hK,Obs];refine Pc.bind (Q:=fun t=>t.1=true->Ztn s=true) (Pc.ite (fun _=>Pc.pure fun h=>by cases h) fun hc=> ?_) fun t ht=>Pc.ite (fun _=> ?_) fun hc=> ?_
 ·simp only[Bool.or_eq_false_iff,Bool.not_eq_false']at hc;exact fun y _ _=>hc.1
 ·rw[Obs];exact Pc.pure ⟨Int.le_refl _,rfl,.inl rfl⟩
 ·simp only[Jk,Kz];simp only[Bool.or_eq_false_iff,Bool.not_eq_false']at hc;have:=((Qnu h hK).1 (ht hc.2)).sent;unfold Zh0;exact Pc.guard (Pc.pure ⟨this.2,rfl,.inr rfl⟩)
theorem Xej{K:Int}{s:Zo}(h:Kk K s)(p:Z9)(hK:K<=1000000):Pc (Ziw s p) fun r=>Zre s r.1:=by
 have j2: ∀t x,Zre s x->Pc (Wz t x) fun r=>Zre s r.1:=fun t x hx=>by
  unfold Wz;exact Pc.skip fun t=>Pc.pure hx
 have j1: ∀t x,Zre s x->Pc (Wy s p t x) fun r=>Zre s r.1:=fun t x hx=>by
  unfold Wy;exact Pc.if (j2 _ _ hx) (j2 _ _ hx)
 have lp: ∀(t:Zo) (c:List Zc) (N:Nat) (x:Zo) (i:Int),Zre s x->Pc (W1 N s p t x c i) fun r=>Zre s r.1:=by
  intro t c N
  induction N with
  |zero=>intro x i _;exact Pc.none
  |succ N ih=>
   intro x i hx;unfold W1;exact Pc.if (Pc.guard (Pc.skip fun t=>Pc.guard (Pc.skip fun t2=>ih _ _ hx))) (j1 _ _ hx)
 unfold Ziw;rw[Zme h hK,Obs];exact Pc.skip fun t=>Pc.skip fun t2=>Pc.if (Pc.pure Zre.rfl) (Pc.if (Pc.skip fun t3=>Pc.skip fun t4=>lp _ _ _ _ _ Zre.rfl) (j1 _ _ Zre.rfl))
theorem Xfr{K:Int}{s:Zo}(h:Kk K s)(p:Z9)(hK:K<=1000000):Pc (Zku s p) fun r=>Zre s r.1:=by
 have hcl:=h.cells;have j2: ∀t x,Zre s x->Pc (Zbm s t x) fun r=>Zre s r.1:=fun t x hx=>by
  unfold Zbm;simp only[Jk,Kz];refine Pc.skip fun g=> ?_;obtain⟨cs,b,ok,k1,-⟩:=Qya s.2.1 g.1 (by omega);rw[k1,Obs];unfold Xl;exact Pc.skip fun t=>Pc.pure ⟨rfl,hx.2⟩
 have j1: ∀t x,Zre s x->Pc (Zbl s p t x) fun r=>Zre s r.1:=fun t x hx=>by
  unfold Zbl;exact Pc.if (j2 _ _ hx) (j2 _ _ hx)
 have lp: ∀(t:Zo) (c:List Zc) (N:Nat) (x:Zo) (i:Int),Zre s x->Pc (Zbn N s p t x c i) fun r=>Zre s r.1:=by
  intro t c N
  induction N with
  |zero=>intro x i _;exact Pc.none
  |succ N ih=>
   intro x i hx;unfold Zbn;exact Pc.if (Pc.guard (Pc.skip fun t=>Pc.guard (Pc.skip fun t2=>ih _ _ hx))) (j1 _ _ hx)
 unfold Zku;rw[Zme h hK,Obs];exact Pc.skip fun t=>Pc.skip fun t2=>Pc.if (Pc.pure Zre.rfl) (Pc.if (Pc.skip fun t3=>Pc.skip fun t4=>lp _ _ _ _ _ Zre.rfl) (j1 _ _ Zre.rfl))
structure SI(w:Int)(s:Zh):Prop where
 id:0<=s.1/\s.1<=60
 us:s.2.2.1.2.1=s.2.1.2.2.2.2.2.2.2.1
 cl:s.2.2.1.1<=39
 wm:s.2.2.2.2.1.2.1<=64
 wr:s.2.2.2.2.1.2.2.2.2.1<=w
 code:s.2.1.2.2.2.2.2.2.2.2.1<=63
 stp:s.2.2.2.2.2.2.2.2.2.2.2.1=false
 en:s.2.1.2.1.2.2.1<=w
 pr:0<=s.2.2.2.2.2.1.1/\s.2.2.2.2.2.1.1<=7
theorem SI.mono{w w':Int}{s:Zh}(h:SI w s)(hw:w<=w'):SI w' s:=⟨h.id,h.us,h.cl,h.wm,by have:=h.wr;omega,h.code,h.stp,by have:=h.en;omega,h.pr⟩
theorem SI.z{w:Int}(hw:0<=w):SI w Zn:=⟨by decide,rfl,by decide,by decide,hw,by decide,rfl,hw,by decide⟩
theorem SI.snd{w:Int}{s:Zh}(h:SI w s){x:Zo}(hx:Zre s.2.1 x):SI w (s.1,(x,s.2.2)):=⟨h.id,by have:=h.us;have:=hx.2.1;simp only;omega,h.cl,h.wm,h.wr,by have:=h.code;have:=hx.2.2;simp only;omega,h.stp,by have:=h.en;have:=hx.1;simp only;omega,h.pr⟩
structure QI(k w:Int)(c:Ze):Prop where
 str: ∀s∈c.2.2.2.1,SI w s
 tl:c.2.2.2.2.1.1<=39
 op:0<=c.2.2.2.2.2.2.1.2.1/\0<=c.2.2.2.2.2.2.2.1.2.1/\0<=c.2.2.2.2.2.2.2.2.1.2.2.1/\0<=c.2.2.2.2.2.2.2.2.2.1.2.2.1/\c.2.2.2.2.2.2.2.2.1.2.2.1<=2/\c.2.2.2.2.2.2.2.2.2.1.2.2.1<=2/\
  c.2.2.2.2.2.2.1.2.1+c.2.2.2.2.2.2.2.1.2.1+min c.2.2.2.2.2.2.2.2.1.2.2.1 1+min c.2.2.2.2.2.2.2.2.2.1.2.2.1 1<=k
 ln: (c.2.2.2.1.length:Int)<=c.2.2.2.2.2.2.1.2.1+c.2.2.2.2.2.2.2.1.2.1+c.2.2.2.2.2.2.2.2.1.2.2.1+c.2.2.2.2.2.2.2.2.2.1.2.2.1
 ol:c.2.2.2.2.2.2.1.1<=39/\c.2.2.2.2.2.2.2.1.1<=39
 iw:c.2.2.2.2.2.1.2.1<=64/\c.2.2.2.2.2.1.2.2.2.2.1<=w
 al:c.2.2.2.2.2.2.2.2.1.1<=3/\c.2.2.2.2.2.2.2.2.2.1.1<=3
 cf:c.2.2.1.2.1<=39/\c.2.1.2.2.1<=64
 pn: ∀p∈c.2.2.2.2.2.2.2.2.2.2.2.2.2.2.2.1,0<=p.1
theorem QI.mono{k k' w w':Int}{c:Ze}(h:QI k w c)(hk:k<=k')(hw:w<=w'):QI k' w' c:=⟨fun s hs=>(h.str s hs).mono hw,h.tl,by have:=h.op;omega,h.ln,h.ol,⟨h.iw.1,by have:=h.iw.2;omega⟩,h.al,h.cf,h.pn⟩
structure CQ(K:Nat)(k w:Int)(c:Ze):Prop where
 inv:Xx K c
 q:QI k w c
theorem CQ.mono{K K':Nat}{k k' w w':Int}{c:Ze}(h:CQ K k w c)(hK:K<=K')(hk:k<=k')(hw:w<=w'):CQ K' k' w' c:=⟨h.inv.mono hK,h.q.mono hk hw⟩
structure SQs(K:Nat)(w:Int)(s:Zh):Prop where
 inv:Vy K s
 q:SI w s
theorem SQs.mono{K K':Nat}{w w':Int}{s:Zh}(h:SQs K w s)(hK:K<=K')(hw:w<=w'):SQs K' w' s:=⟨h.inv.mono hK,h.q.mono hw⟩
theorem CQ.up{K K':Nat}{k w:Int}{c:Ze}(h:CQ K k w c)(hk:K<=K'){l:List Zh}(hl:Zmy K' l)(hs: ∀s∈l,SI w s)(hn:l.length<=c.2.2.2.1.length):CQ K' k w (Qlj c l):=⟨h.inv.up hk hl,⟨hs,h.q.tl,h.q.op,by have:=h.q.ln;simp only;omega,h.q.ol,h.q.iw,h.q.al,h.q.cf,h.q.pn⟩⟩
theorem SI.set{w:Int}{l:List Zh}(h: ∀s∈l,SI w s){s:Zh}(hs:SI w s)(i:Nat): ∀x∈l.set i s,SI w x:=fun x hx=>by
 rcases List.mem_or_eq_of_mem_set hx with h1|h1
 ·exact h x h1
 ·rw[h1];exact hs
theorem CQ.put{K:Nat}{k w:Int}{c:Ze}(h:CQ K k w c){s:Zh}(hs:SQs K w s)(hK:K<=1000000)(hi:0<=Qx c.2.2.2.1 s.1):T (Qv c.2.2.2.1 s) fun r=>CQ K k w (Qlj c r.1):=by
 refine⟨_,Qzb h.inv.str hs.inv hK hi,?_⟩;exact h.up (Nat.le_refl _) (h.inv.str.set hs.inv _) (SI.set h.q.str hs.q _) (by rw[List.length_set];exact Nat.le_refl _)
theorem CQ.look{K:Nat}{k w:Int}{c:Ze}(h:CQ K k w c)(hK:K<=1000000)(hw:0<=w)(n:Int):T (Qw c n) fun r=>SQs K w r.1/\(r.2.1=true->0<=Qx c.2.2.2.1 n/\r.1.1=n)/\(0<=Qx c.2.2.2.1 n->r.1.1=n):=by
 have hl:=h.inv.str.len;obtain⟨h1,-,h3⟩:=Zo5 (l:=c.2.2.2.1) (by omega) n;refine⟨_,Zun h.inv hK n,?_⟩;by_cases hi:0<=Qx c.2.2.2.1 n
 ·have hm:=Z2 (d:=Zn) (show(Qx c.2.2.2.1 n).toNat<c.2.2.2.1.length by omega);rw[if_pos hi];exact⟨⟨h.inv.str.all _ hm,h.q.str _ hm⟩,fun _=>⟨hi,h3 hi⟩,fun _=>h3 hi⟩
 ·rw[if_neg hi];exact⟨⟨Q8s.mono (Nat.zero_le K),SI.z hw⟩,fun h=>Bool.noConfusion h,fun h=>absurd h hi⟩
theorem Q3x{K:Nat}{l:List Zh}{s:Zh}(h:Zmy K l)(hs:Vy K s)(hK:K<=500000){a:Int}(ha:a<0): ∀(N i:Nat) (out:List Zh) (p:Bool),(∀x∈out,x∈l\/x=s)->(p=true->s∈out)->
  Pc (Xm N l s out a p (i:Int)) fun r=>s∈r.1/\ ∀x∈r.1,x∈l\/x=s
 |0,_,_,_,_,_=>Pc.none
 |N+1,i,out,p,ho,hp=>by
  have hlen:=h.len;have app: ∀{o:List Zh} {x},(∀x∈o,x∈l\/x=s)->(x∈l\/x=s)-> ∀z∈o++ [x],z∈l\/z=s:=fun ho hx z hz=>by
   rcases List.mem_append.1 hz with hz|hz
   ·exact ho z hz
   ·rw[List.mem_singleton.1 hz];exact hx
  unfold Xm;rw[Zt5 hs (by omega)];refine Pc.ite (fun hc=> ?_) fun _=>Pc.ite (fun _=> ?_) fun hc=>Pc.pure ⟨hp (by simpa using hc),ho⟩
  ·have hh:i<l.length:=by have:=Ode hc;omega
   have hm:=Z2 (d:=Zn) hh;rw[show(i:Int).toNat=i from rfl,Zt5 (h.all _ hm) (by omega)];refine Pc.guard ?_;have hne: ((i:Int)==a)=false:=by simp;omega
   rw[Obs,hne,Ocf];have j: ∀(o:List Zh) (q:Bool) x,(∀x∈o,x∈l\/x=s)->(q=true->s∈o)->x∈l->
     Pc (Y6 (fun v=>Xm N v.1 v.2.1 v.2.2.1 v.2.2.2.1 v.2.2.2.2.1 v.2.2.2.2.2.1) l s o a q (i:Int) x) fun r=>s∈r.1/\ ∀x∈r.1,x∈l\/x=s:=fun o q x h1 h2 h3=>by
    unfold Y6;rw[Zr hh (by omega)];exact Pc.guard (Q3x h hs hK ha N (i+1) (o++ [x]) q (app h1 (.inl h3)) fun hq=>List.mem_append.2 (.inl (h2 hq)))
   refine Pc.guard (Pc.if ?_ (j _ _ _ ho hp hm));rw[Obs];exact Pc.guard (j _ _ _ (app ho (.inr rfl)) (fun _=>List.mem_append.2 (.inr (List.mem_singleton.2 rfl))) hm)
  ·rw[Obs];exact Pc.guard (Pc.pure ⟨List.mem_append.2 (.inr (List.mem_singleton.2 rfl)),app ho (.inr rfl)⟩)
theorem Xe4{K:Nat}{l:List Zh}{s:Zh}(h:Zmy K l)(hs:Vy K s)(hK:K<=500000):Pc (Qv l s) fun r=>s∈r.1/\(∀x∈r.1,x∈l\/x=s)/\r.1.length<=l.length+1:=by
 have hl:=h.len;obtain⟨y,e,h1,-⟩:=Qjl h hs hK;have key:Pc (Qv l s) fun r=>s∈r.1/\ ∀x∈r.1,x∈l\/x=s:=by
  by_cases hi:0<=Qx l s.1
  ·have h2:=(Zo5 (l:=l) (by omega) s.1).1;exact Pc.of (Qzb h hs (by omega) hi) ⟨List.mem_set (by omega) _,fun x hx=>(List.mem_or_eq_of_mem_set hx)⟩
  ·unfold Qv;rw[Qwf (by omega),Obs,Zj (by omega)];exact Q3x h hs hK (by omega) _ 0 [] false (by simp) (by simp)
 exact fun r hr=>⟨(key r hr).1,(key r hr).2,by rw[e]at hr;cases hr;exact h1⟩
theorem Q1g(n:Int):Pc (Zix n) fun r=>r.1.2.1.2.2.1=0/\r.1.2.2.2.2.2.2.2.1=0/\r.1.2.2.2.2.2.2.2.2.1=0:=by
 unfold Zix Zt9;refine Pc.bind (Q:=fun r=>r.1.2.2.1=0) (Pc.skip fun t=>Pc.if (Pc.pure rfl) (Pc.guard (Pc.pure rfl))) fun t ht=>Pc.if (Pc.pure ⟨rfl,rfl,rfl⟩) (Pc.pure ⟨ht,rfl,rfl⟩)
theorem Qrk{n:Int}(h:n<=39):Pc (Zcr n) fun r=>r.1.1<=39/\r.1.2.1=0:=by
 unfold Zcr;exact Pc.skip fun t=>Pc.if (Pc.pure ⟨by decide,rfl⟩) (Pc.pure ⟨h,rfl⟩)
theorem Qrm(n:Int){m:Int}(h:m<=64):Pc (Zct n m) fun r=>r.1.2.1<=64/\r.1.2.2.2.2.1=0:=by
 unfold Zct;exact Pc.skip fun t=>Pc.skip fun t2=>Pc.if (Pc.pure ⟨by decide,rfl⟩) (Pc.pure ⟨h,rfl⟩)
theorem Xep{w:Int}(hw:0<=w)(v:Bool){id:Int}{o p:Zq7}(hi:0<=id/\id<=60)(ho:o.2.2.1<=64)(hp:p.2.1<=39):Pc (Zcs v id o p) fun r=>SI w r.1/\(cfB o=true->cfB p=true->r.1.1=id):=by
 unfold Zcs;have hq:Zn6 id=true:=Zgn.2 (by omega);simp only[cfE,Wr,hq,Obs,bO,bO2,Ont,Bool.false_or];refine Pc.ite (fun hc=>Pc.pure ⟨SI.z hw,fun h1 h2=> ?_⟩) fun _=>Pc.bind (Q:=fun r=>r.1.1=3) (Pc.pure rfl) fun t1 h1=>Pc.skip fun t2=>Pc.skip fun t3=>Pc.skip fun t4=>(Q1g _).bind fun t5 h5=>(Qrk hp).bind fun t6 h6=>(Qrm _ ho).bind fun t7 h7=>Pc.pure ⟨⟨hi,?_,h6.1,h7.1,?_,?_,rfl,?_,?_⟩,fun _ _=>rfl⟩
 ·rw[h1,h2]at hc;cases hc
 ·simp only;omega
 ·simp only;omega
 ·simp only;omega
 ·simp only;omega
 ·simp only;omega
theorem Q9x{n:Int}(h0:0<=n)(h1:n<=14)(s u:Bool):Pc (Zpo n s u) fun r=>0<=r.1/\r.1<=4*n+3:=by
 have e:IntKind.i64.wrap (n*2^ (min (2:Int).toNat IntKind.i64.bits))=4*n:=by
  have: (min (2:Int).toNat IntKind.i64.bits)=2:=rfl;rw[this,Zv (by omega) (by omega)];omega
 have j: ∀u i,0<=i->i<=4*n+1->Pc (Zfv u i) fun r=>0<=r.1/\r.1<=4*n+3:=fun u i h2 h3=>by
  unfold Zfv;exact Pc.if (Pc.pure (by rw[Zv (by omega) (by omega)];omega)) (Pc.pure (by simp only;omega))
 unfold Zpo;rw[inQ,Obs,(Zg0 (n:=n) (a:=0) (b:=1152921504606846975)).2 (by omega)];refine Pc.ite (fun h=>by cases h) fun _=>Pc.guard ?_;simp only[e];exact Pc.if (j _ _ (by rw[Zv (by omega) (by omega)];omega) (by rw[Zv (by omega) (by omega)];omega)) (j _ _ (by omega) (by omega))
theorem Q5c(c:Ze8):Pc (Zkz c) fun r=>r.2.1.1=c.1/\(r.2.2.1=false->r.2.1.2.1=c.2.1)/\(r.2.2.1=true->r.1=c.2.1/\r.2.1.2.1=c.2.1+1/\0<=c.2.1):=by
 unfold Zkz;rw[Xd6,Obs];refine Pc.ite (fun _=>Pc.pure ⟨rfl,fun _=>rfl,fun h=>Bool.noConfusion h⟩) fun hc=>Pc.if (Pc.pure ⟨rfl,fun _=>rfl,fun h=>Bool.noConfusion h⟩) (Pc.pure ⟨rfl,fun h=>Bool.noConfusion h,fun _=>⟨rfl,?_,?_⟩⟩)
 ·have:=Q0h.1 (by simpa using hc);simp only;rw[Zv (by omega) (by omega)]
 ·have:=Q0h.1 (by simpa using hc);omega
theorem Xev{K:Nat}{k w:Int}{c:Ze}(h:CQ K k w c)(hK:K+1<=500000)(hk:k<=13)(hw:0<=w)(u:Bool):T (Zgs c u) fun r=>CQ (K+1) (k+1) w r.2.1:=by
 have j2: ∀u x t i b,Xx K x->x.2.2.2.1=c.2.2.2.1->0<=i->i<=13->(∀l:List Zh,(∀s∈l,SI w s)->l.length<=c.2.2.2.1.length+1->b=true->QI (k+1) w (Qlj x l))->QI (k+1) w x->Pc (Kh u c t x i b) fun r=>QI (k+1) w r.2.1:=fun u x t i b hx hs h0 h1 hl hq=>by
  unfold Kh;refine Pc.ite (fun _=>Pc.pure hq) fun hb=>(Q9x h0 (by omega) _ _).bind fun t1 g1=> ?_;refine fun y e=> ?_;obtain⟨t2,e2,hi2⟩:=Qaw c.1 t1.1 c.2.1 c.2.2.1;have g2:=Xep hw c.1 (id:=t1.1) (o:=c.2.1) (p:=c.2.2.1) (by omega) h.q.cf.2 h.q.cf.1 _ e2;rw[e2,Obs]at e;refine Pc.bind (R:=fun r:Int×Ze×Bool×Unit=>QI (k+1) w r.2.1) (Xe4 hx.str (hi2.mono (Nat.zero_le K)) (by omega)) (fun t3 g3=>Pc.pure (hl t3.1 (fun s hs2=> ?_) (by rw[<-hs];exact g3.2.2) (by simpa using hb))) y e;rcases g3.2.1 s hs2 with hm|hm
  ·rw[hs]at hm;exact h.q.str s hm
  ·rw[hm];exact g2.1
 have oB:=h.q.op;refine((Q1k h.inv hK u).pc ?_).mono fun r hr=>⟨hr.1,hr.2⟩
 have j1: ∀(u:Bool) t,Pc (Vx u c t c (bif u then c.2.2.2.2.2.2.2.1 else c.2.2.2.2.2.2.1)) fun r=>QI (k+1) w r.2.1:=fun u t=>by
  unfold Vx;refine(Q5c _).bind fun t1 h1=>Pc.ite (fun hu=> ?_) fun hu=> ?_
  ·rw[hu]at h1;simp only[Oct]at h1;by_cases hb:t1.2.2.1=true
   ·have g:=h1.2.2 hb;refine j2 _ _ _ _ _ ⟨h.inv.str,h.inv.pk⟩ rfl (by omega) (by omega) (fun l hl hn _=>⟨hl,h.q.tl,?_,?_,⟨h.q.ol.1,?_⟩,h.q.iw,h.q.al,h.q.cf,h.q.pn⟩) ⟨h.q.str,h.q.tl,?_,?_,⟨h.q.ol.1,?_⟩,h.q.iw,h.q.al,h.q.cf,h.q.pn⟩
    ·simp only;omega
    ·have:=h.q.ln;simp only;omega
    ·have:=h.q.ol.2;have:=h1.1;simp only;omega
    ·simp only;omega
    ·have:=h.q.ln;simp only;omega
    ·have:=h.q.ol.2;have:=h1.1;simp only;omega
   ·have hb:t1.2.2.1=false:=by simpa using hb
    have g:=h1.2.1 hb;rw[hb];unfold Kh;refine Pc.ite (fun _=>Pc.pure ⟨h.q.str,h.q.tl,?_,?_,⟨h.q.ol.1,?_⟩,h.q.iw,h.q.al,h.q.cf,h.q.pn⟩) fun h=>Bool.noConfusion h
    ·simp only;omega
    ·have:=h.q.ln;simp only;omega
    ·have:=h.q.ol.2;have:=h1.1;simp only;omega
  ·rw[hu]at h1;simp only[Ocf]at h1;by_cases hb:t1.2.2.1=true
   ·have g:=h1.2.2 hb;refine j2 _ _ _ _ _ ⟨h.inv.str,h.inv.pk⟩ rfl (by omega) (by omega) (fun l hl hn _=>⟨hl,h.q.tl,?_,?_,⟨?_,h.q.ol.2⟩,h.q.iw,h.q.al,h.q.cf,h.q.pn⟩) ⟨h.q.str,h.q.tl,?_,?_,⟨?_,h.q.ol.2⟩,h.q.iw,h.q.al,h.q.cf,h.q.pn⟩
    ·simp only;omega
    ·have:=h.q.ln;simp only;omega
    ·have:=h.q.ol.1;have:=h1.1;simp only;omega
    ·simp only;omega
    ·have:=h.q.ln;simp only;omega
    ·have:=h.q.ol.1;have:=h1.1;simp only;omega
   ·have hb:t1.2.2.1=false:=by simpa using hb
    have g:=h1.2.1 hb;rw[hb];unfold Kh;refine Pc.ite (fun _=>Pc.pure ⟨h.q.str,h.q.tl,?_,?_,⟨?_,h.q.ol.2⟩,h.q.iw,h.q.al,h.q.cf,h.q.pn⟩) fun h=>Bool.noConfusion h
    ·simp only;omega
    ·have:=h.q.ln;simp only;omega
    ·have:=h.q.ol.1;have:=h1.1;simp only;omega
 unfold Zgs;rw[Zb4 h.inv (by omega),Obs];refine Pc.skip fun t=>Pc.if (Pc.pure (h.q.mono (by omega) (Int.le_refl _))) (Pc.ite (fun hu=> ?_) fun hu=> ?_)
 ·rw[hu];exact j1 true _
 ·rw[hu];exact j1 false _
theorem Qua(a:Qr):Pc (Zhk a) fun r=>r.1.1=a.1/\r.1.2.2.1=a.2.2.1:=by
 unfold Zhk;exact Pc.skip fun t=>Pc.if (Pc.pure ⟨rfl,rfl⟩) (Pc.pure ⟨rfl,rfl⟩)
theorem Xew{K:Nat}{k w:Int}{x:Ze}{s:Zh}(h:CQ K k w x)(hs:SQs K w s)(hK:K<=1000000):T (Zud x s) fun r=>CQ K k w r.2.1/\SQs K w r.2.2.1/\r.2.2.1.1=s.1/\r.2.1.2.2.2.1=x.2.2.2.1:=by
 have q:=h.q;unfold Zud;refine T.bind (Q:=fun _=>True) (T.if T.tt (Xex _ _)) fun t _=>T.bind (Q:=fun _=>True) (T.if T.tt (Xca hs.inv hK)) fun t _=>T.if (T.pure ⟨h,hs,rfl,rfl⟩) ((Xfj _).bind fun t _=>T.if (((Qub _).pc (Qua _)).bind fun t ht=>T.pure ⟨⟨⟨h.inv.str,h.inv.pk⟩,⟨q.str,q.tl,?_,?_,q.ol,q.iw,⟨q.al.1,?_⟩,q.cf,q.pn⟩⟩,⟨⟨hs.inv.snd,hs.inv.rcv⟩,⟨hs.q.id,hs.q.us,hs.q.cl,hs.q.wm,hs.q.wr,hs.q.code,hs.q.stp,hs.q.en,hs.q.pr⟩⟩,rfl,rfl⟩) (((Qub _).pc (Qua _)).bind fun t ht=>T.pure ⟨⟨⟨h.inv.str,h.inv.pk⟩,⟨q.str,q.tl,?_,?_,q.ol,q.iw,⟨?_,q.al.2⟩,q.cf,q.pn⟩⟩,⟨⟨hs.inv.snd,hs.inv.rcv⟩,⟨hs.q.id,hs.q.us,hs.q.cl,hs.q.wm,hs.q.wr,hs.q.code,hs.q.stp,hs.q.en,hs.q.pr⟩⟩,rfl,rfl⟩))
 all_goals (have:=ht.2.1;have:=ht.2.2;have:=q.op;have:=q.ln;have:=q.al;simp only;omega)
theorem Qu8{K:Nat}{k w:Int}{x:Ze}{s:Zh}(h:CQ K k w x)(hs:SQs K w s)(hK:K<=1000000)(hi:0<=Qx x.2.2.2.1 s.1):T (Zek x s) fun r=>CQ K k w r.2.1:=by
 unfold Zek;exact(Xew h hs hK).bind fun t ht=>(ht.1.put ht.2.1 hK (by rw[ht.2.2.1,ht.2.2.2];exact hi)).bind fun t3 h3=>T.pure h3
theorem Qsb{w:Qt}(hm:w.2.1<=64)(n:Int):Pc (Zfx w n) fun r=>r.1.2.1<=64/\r.1.2.2.2.2.1<=w.2.2.2.2.1+64:=by
 unfold Zfx;rw[Xaq,Obs];refine Pc.ite (fun _=>Pc.pure ⟨hm,by simp only;omega⟩) fun hc=>Pc.pure ⟨hm,?_⟩;simp only[Bool.or_eq_false_iff,Bool.not_eq_false',decide_eq_false_iff_not]at hc;obtain⟨⟨h1,h2⟩,h3⟩:=hc;obtain⟨g1,g2,g3,g4,g5,g6,g7⟩:=Q8p.1 h1;rw[Zv (by omega) (by omega)]at h3;simp only;rw[Zv (by omega) (by omega)];omega
theorem Q74{K:Nat}{k w:Int}{x:Ze}{s:Zh}(h:CQ K k w x)(hs:SQs K w s)(n:Int):T (Zq2 x s n) fun r=>CQ K k (w+64) r.2.1/\SQs K (w+64) r.2.2.1/\r.2.2.1.1=s.1/\r.2.1.2.2.2.1=x.2.2.2.1:=by
 have q:=h.q.mono (Int.le_refl k) (show w<=w+64 by omega);have g:=hs.q.mono (show w<=w+64 by omega);unfold Zq2;refine((Qsc _ _).pc (Qsb hs.q.wm _)).bind fun t ht=>((Qsc _ _).pc (Qsb h.q.iw.1 _)).bind fun t2 ht2=>T.pure ⟨⟨⟨h.inv.str,h.inv.pk⟩,⟨q.str,q.tl,q.op,q.ln,q.ol,⟨ht2.2.1,?_⟩,q.al,q.cf,q.pn⟩⟩,⟨⟨hs.inv.snd,hs.inv.rcv⟩,⟨g.id,g.us,g.cl,ht.2.1,?_,g.code,g.stp,g.en,g.pr⟩⟩,rfl,rfl⟩
 ·have:=ht2.2.2;have:=h.q.iw.2;simp only;omega
 ·have:=ht.2.2;have:=hs.q.wr;simp only;omega
theorem Qys{a b c:Bool}(h: ((!a|| !b)|| !c)=false):b=true:=by cases a<;>cases b<;>cases c<;>simp_all
theorem Xdt{K:Nat}{k w:Int}{c:Ze}(h:CQ K k w c)(i:Int)(d:List UInt8)(hK:K+d.length+1<=500000)(hw:0<=w):T (Zng c i d) fun r=>CQ (K+d.length+1) k (w+d.length) r.2.1:=by
 have m:CQ (K+d.length+1) k (w+d.length) c:=h.mono (by omega) (Int.le_refl _) (by omega);unfold Zng;rw[Zb4 h.inv (by omega),Obs];refine(h.look (by omega) hw i).bind fun s hs=>(Zwb h.inv (by omega)).bind fun t _=>T.ite (fun _=>T.pure m) fun hc=> ?_;have hi:=hs.2.1 (Qys hc);obtain⟨x,n,e,h1⟩:=Qz4 hs.1.inv.snd d (by omega);have g:=Xds hs.1.inv.snd d (by omega) _ e;rw[e,Obs];have gs:=hs.1.q;refine(m.put (s:=(s.1.1,(x,s.1.2.2))) ⟨⟨h1.mono (by omega),hs.1.inv.rcv.mono (by omega)⟩,⟨gs.id,?_,gs.cl,gs.wm,?_,?_,gs.stp,?_,gs.pr⟩⟩ (by omega) ?_).bind fun t3 h3=>T.pure h3
 ·have:=gs.us;have:=g.2.1;simp only at*;omega
 ·have:=gs.wr;simp only;omega
 ·have:=gs.code;have:=g.2.2;simp only at*;omega
 ·have:=gs.en;have:=g.1;simp only at*;omega
 ·simp only;rw[hi.2];exact hi.1
theorem Q9j{K:Nat}{k w:Int}{c:Ze}(h:CQ K k w c)(hK:K+1<=500000)(hw:0<=w)(i:Int):T (Zlu c i) fun r=>CQ K k w r.1:=by
 unfold Zlu;rw[Zb4 h.inv (by omega),Obs];refine(h.look (by omega) hw i).bind fun s hs=>(Zwb h.inv (by omega)).bind fun t _=>T.ite (fun _=>T.pure h) fun hc=> ?_;have hi:=hs.2.1 (Qys hc);obtain⟨x,ok,e,h1⟩:=Qx1 hs.1.inv.snd (by omega);have g:=Xby hs.1.inv.snd (by omega) _ e;rw[e,Obs];refine T.if (T.pure h) ((h.put (s:=(s.1.1,(x,s.1.2.2))) ⟨⟨h1,hs.1.inv.rcv⟩,hs.1.q.snd g⟩ (by omega) ?_).bind fun t3 h3=>T.pure h3);simp only;rw[hi.2];exact hi.1
theorem Xe6{K:Nat}{k w:Int}{c:Ze}(h:CQ K k w c)(hK:K+1<=500000)(hw:0<=w)(i m:Int):T (Zo0 c i m) fun r=>CQ K k (w+64) r.1.2.2.1:=by
 have hm:CQ K k (w+64) c:=h.mono (Nat.le_refl _) (Int.le_refl _) (by omega);unfold Zo0;rw[Zb4 h.inv (by omega),Obs];refine(h.look (by omega) hw i).bind fun s hs=>(Zwb h.inv (by omega)).bind fun t _=>T.ite (fun _=>T.pure hm) fun hc=> ?_;have hi:=hs.2.1 (Qys hc);obtain⟨d,r,e,h1,-⟩:=Qxa hs.1.inv.rcv (by omega) m;rw[e,Obs];have gs:=hs.1.q;have hx:SQs K w (s.1.1,(s.1.2.1,(s.1.2.2.1,(r,s.1.2.2.2.2)))):=⟨⟨hs.1.inv.snd,h1⟩,⟨gs.id,gs.us,gs.cl,gs.wm,gs.wr,gs.code,gs.stp,gs.en,gs.pr⟩⟩
 have j: ∀t x s d r,CQ K k (w+64) x->SQs K (w+64) s->0<=Qx x.2.2.2.1 s.1->T (Zfy t x s d r) fun r=>CQ K k (w+64) r.1.2.2.1:=fun t x s d r hx hs hi=>by
  unfold Zfy;exact(Qu8 hx hs (by omega) hi).bind fun t3 h3=>T.pure h3
 refine T.if ((Q74 h hx _).bind fun t ht=>j _ _ _ _ _ ht.1 ht.2.1 ?_) (j _ _ _ _ _ hm (hx.mono (Nat.le_refl _) (by omega)) ?_)
 ·rw[ht.2.2.1,ht.2.2.2];simp only;rw[hi.2];exact hi.1
 ·simp only;rw[hi.2];exact hi.1
theorem SI.reset{w:Int}{s:Zh}(h:SI w s){x:Zo}{code:Int}(hc:code<=63)(hx:x.2.1.2.2.1<=s.2.1.2.1.2.2.1/\x.2.2.2.2.2.2.2.1=s.2.1.2.2.2.2.2.2.2.1/\(x.2.2.2.2.2.2.2.2.1=s.2.1.2.2.2.2.2.2.2.2.1\/x.2.2.2.2.2.2.2.2.1=code))(b:Bool):SI w (s.1,(x,(s.2.2.1,(s.2.2.2.1,(s.2.2.2.2.1,(s.2.2.2.2.2.1,(s.2.2.2.2.2.2.1,(s.2.2.2.2.2.2.2.1,(b,s.2.2.2.2.2.2.2.2.2))))))))):=
 ⟨h.id,by have:=h.us;have:=hx.2.1;simp only;omega,h.cl,h.wm,h.wr,by have:=h.code;have:=hx.2.2;simp only;omega,h.stp,by have:=h.en;have:=hx.1;simp only;omega,h.pr⟩
theorem Xcr{K:Nat}{k w:Int}{c:Ze}(h:CQ K k w c)(hK:K+1<=500000)(hw:0<=w)(i:Int){code:Int}(hcd:code<=63):T (Zne c i code) fun r=>CQ K k w r.1.1:=by
 unfold Zne;rw[Zb4 h.inv (by omega),Obs];refine(h.look (by omega) hw i).bind fun s hs=>(Zwb h.inv (by omega)).bind fun t _=>T.ite (fun _=>T.pure h) fun hc=> ?_;have hi:=hs.2.1 (Qys hc);obtain⟨x,ok,e,h1⟩:=Qle hs.1.inv.snd code (by omega);have g:=Q75 hs.1.inv.snd code (by omega) _ e;rw[e,Obs];refine T.if (T.pure h) ((Qu8 h (by exact⟨⟨h1,hs.1.inv.rcv⟩,hs.1.q.reset hcd g true⟩) (by omega) ?_).bind fun t3 h3=>T.pure h3);simp only;rw[hi.2];exact hi.1
theorem Xce{p:Q9}(hp:0<=p.1/\p.1<=7)(s:List UInt8):Pc (Zbv p s) fun r=>0<=r.1.1/\r.1.1<=7:=by
 have lp: ∀(t:Q9) (l:List (List UInt8)) (N:Nat) (b:Q9) (i:Int),0<=b.1/\b.1<=7->Pc (Q7 N b t l i) fun r=>0<=r.1.1/\r.1.1<=7:=by
  intro t l N
  induction N with
  |zero=>intro b i _;exact Pc.none
  |succ N ih=>
   intro b i hb;unfold Q7;have j: ∀b,0<=b.1/\b.1<=7->Pc (X9 (fun v=>Q7 N v.1 v.2.1 v.2.2.1 v.2.2.2.1) b t l i) fun r=>0<=r.1.1/\r.1.1<=7:=fun b hb=>by
    unfold X9;exact ih _ _ hb
   refine Pc.if (Pc.guard (Pc.skip fun y=>Pc.if (j _ hb) (Pc.if (j _ hb) (Pc.guard (Pc.guard (Pc.guard (Pc.ite (fun hc=>Pc.guard (j _ ?_)) fun _=>j _ hb))))))) (Pc.pure hb);simp only[Oba,decide_eq_true_eq]at hc;have e:IntKind.u8.wrap (((y.1.getD (2:Int).toNat 0).toNat:Int)-48)=((y.1.getD (2:Int).toNat 0).toNat:Int)-48:=by
    simp only[IntKind.wrap,IntKind.bits,IntKind.signed,Bool.false_and,Bool.false_eq_true,if_false];omega
   simp only;rw[e,Zv (by omega) (by omega)];omega
 have j1: ∀b t,0<=b.1/\b.1<=7->Pc (Jb s b t) fun r=>0<=r.1.1/\r.1.1<=7:=fun b t hb=>by
  unfold Jb;exact Pc.skip fun y=>lp _ _ _ _ _ hb
 unfold Zbv;exact Pc.skip fun t=>Pc.if (Pc.bind (Q:=fun r=>r.1.1=3) (Pc.pure rfl) fun y hy=>j1 _ _ (by omega)) (j1 _ _ hp)
theorem Xf6{K:Nat}{k w:Int}{c:Ze}(h:CQ K k w c)(hK:K+1<=500000)(hw:0<=w)(i:Int)(x:List UInt8)(hx:x.length<=100000):T (Znf c i x) fun r=>CQ K k w r.1:=by
 unfold Znf;rw[Zb4 h.inv (by omega),Obs];refine(h.look (by omega) hw i).bind fun s hs=>(Zwb h.inv (by omega)).bind fun t _=>T.ite (fun _=>T.pure h) fun hc=> ?_;have hi:=hs.2.1 (Qys hc);have gs:=hs.1.q;refine((Xcf _ x hx).pc (Xce gs.pr x)).bind fun t ht=>(h.put (s:=(s.1.1,(s.1.2.1,(s.1.2.2.1,(s.1.2.2.2.1,(s.1.2.2.2.2.1,(t.1,s.1.2.2.2.2.2.2))))))) ⟨⟨hs.1.inv.snd,hs.1.inv.rcv⟩,⟨gs.id,gs.us,gs.cl,gs.wm,gs.wr,gs.code,gs.stp,gs.en,ht.2⟩⟩ (by omega) ?_).bind fun t3 h3=>T.pure h3;simp only;rw[hi.2];exact hi.1
structure FQ(f:Zf):Prop where
 st:0<=f.2.1/\f.2.1<=7
 code:f.2.2.2.2.2.1<=63
 lim:f.2.2.2.2.2.2.1<=39
theorem Xb9{i:Int}(h:0<=i/\i<=7):Pc (Zjp i) fun r=>r.1=i/4:=by
 have e:i.fdiv (2^ (min (2:Int).toNat IntKind.i64.bits))=i/4:=by
  have: (min (2:Int).toNat IntKind.i64.bits)=2:=rfl;rw[this,Int.fdiv_eq_ediv_of_nonneg _ (by decide)];rfl
 unfold Zjp;rw[Wr,Obs,Zgn.2 (by omega),e];exact Pc.ite (fun h=>by cases h) fun _=>Pc.guard (Pc.pure rfl)
theorem Q5q{a:Qr}{n:Int}(hn:0<=n/\n<=1):Pc (Zeq a n) fun r=>r.2.2.1=true->r.1.1=a.1/\r.1.2.2.1=a.2.2.1+r.2.1/\r.2.1=max 0 (n+1-a.2.2.1):=by
 unfold Zeq;rw[Q83,Obs];refine Pc.ite (fun _=>Pc.pure fun h=>Bool.noConfusion h) fun hc=>Pc.pure fun _=> ?_;simp only[Bool.or_eq_false_iff,Bool.not_eq_false',decide_eq_false_iff_not]at hc;obtain⟨g1,g2,g3,g4,g5⟩:=Q0a.1 hc.1.1;have e1:IntKind.i64.wrap (n+1)=n+1:=Zv (by omega) (by omega);have e2:IntKind.i64.wrap (n+1-a.2.2.1)=n+1-a.2.2.1:=Zv (by omega) (by omega);refine⟨rfl,?_,?_⟩
 ·show IntKind.i64.wrap (a.2.2.1+max 0 (IntKind.i64.wrap (IntKind.i64.wrap (n+1)-a.2.2.1)))=a.2.2.1+max 0 (IntKind.i64.wrap (IntKind.i64.wrap (n+1)-a.2.2.1));rw[e1,e2,Zv (by omega) (by omega)]
 ·show max 0 (IntKind.i64.wrap (IntKind.i64.wrap (n+1)-a.2.2.1))=_;rw[e1,e2]
theorem Q3p{w:Int}(hw:0<=w)(id:Int)(hid:id<=7){K:Nat}(h25:25<=K)(hK:K<=400000): ∀(N m:Nat) (c:Ze),m<N->c.2.2.2.1.length+m<=24->Xx K c->cfB c.2.1=true->cfB c.2.2.1=true->c.2.2.1.2.1<=39->c.2.1.2.2.1<=64->(∀s∈c.2.2.2.1,SI w s)->0<=id-4* ((m:Int)-1)->
  T (X5 N c id ((m:Int)-1)) fun r=> ∃l,r.2.1=Qlj c l/\Zmy K l/\(∀s∈l,SI w s)/\l.length<=c.2.2.2.1.length+m/\(m=0->l=c.2.2.2.1)/\(0<m-> ∃s∈l,s.1=id)
 |0,_,_,h,_,_,_,_,_,_,_,_=>by omega
 |N+1,0,c,_,_,h,_,_,_,_,hs,_=>by
  unfold X5;exact T.ite (fun h=>by simp at h) fun _=>T.pure ⟨c.2.2.2.1,rfl,h.str,hs,by omega,fun _=>rfl,fun h=>absurd h (by omega)⟩
 |N+1,m+1,c,hN,hm,h,co,cp,c1,c2,hs,h0=>by
  unfold X5;simp only[Jk,Kz];have e4:IntKind.i64.wrap (id-IntKind.i64.wrap (4* (((m+1:Nat):Int)-1)))=id-4* (m:Int):=by
   rw[Zv (n:=4* (((m+1:Nat):Int)-1)) (by omega) (by omega),Zv (by omega) (by omega)];omega
  rw[e4];have g:=Xep hw c.1 (id:=id-4* (m:Int)) (o:=c.2.1) (p:=c.2.2.1) (by omega) c2 c1;refine T.ite (fun _=>((Qaw _ _ _ _).pc g).bind fun s hs2=> ?_) fun h=>by have:=of_decide_eq_false h;omega
  unfold Kp;have e:IntKind.i64.wrap (((m+1:Nat):Int)-1-1)=(m:Int)-1:=by rw[Zv (by omega) (by omega)];omega
  rw[e];obtain⟨y,e,h1,h2⟩:=Qjl h.str (hs2.1.mono (Nat.zero_le K)) (by omega);have p:=Xe4 h.str (hs2.1.mono (Nat.zero_le K)) (by omega) _ e;rw[e,Obs];have hy: ∀x∈y,SI w x:=fun x hx=>by
   rcases p.2.1 x hx with hm|hm
   ·exact hs x hm
   ·rw[hm];exact hs2.2.1
  refine(Q3p hw id hid h25 hK N m (Qlj c y) (by omega) (by simp only;omega) ⟨⟨by simp only;omega,h2⟩,h.pk⟩ co cp c1 c2 hy (by omega)).mono fun r ⟨l,l1,l2,l3,l4,l5,l6⟩=>⟨l,l1,l2,l3,by simp only at l4;omega,fun h=>absurd h (by omega),fun _=> ?_⟩
  by_cases hm0:m=0
  ·have:=hs2.2.2 co cp;exact⟨s.1,by rw[l5 hm0];exact p.1,by rw[this];omega⟩
  ·exact l6 (by omega)
theorem Xem{w:Int}(hw:0<=w){id:Int}(hid:id<=7){K:Nat}(h25:25<=K)(hK:K<=400000){m:Nat}{c:Ze}(hm:c.2.2.2.1.length+m<=24)(h:Xx K c)(co:cfB c.2.1=true)(cp:cfB c.2.2.1=true)(c1:c.2.2.1.2.1<=39)(c2:c.2.1.2.2.1<=64)(hs: ∀s∈c.2.2.2.1,SI w s)(h0:0<=id-4* ((m:Int)-1)):
  T (Zuc c id (m:Int)) fun r=> ∃l,r.2.1=Qlj c l/\Zmy K l/\(∀s∈l,SI w s)/\l.length<=c.2.2.2.1.length+m/\(m=0->l=c.2.2.2.1)/\(0<m-> ∃s∈l,s.1=id):=by
 unfold Zuc;rw[Zv (by omega) (by omega)];exact Q3p hw id hid h25 hK _ m c (by unfold Zms;omega) hm h co cp c1 c2 hs h0
theorem Q3d{l:List Zh}(hl:l.length<=1000000){n:Int}(h: ∃s∈l,s.1=n):0<=Qx l n:=by
 obtain⟨s,hs,e⟩:=h;by_cases hi:0<=Qx l n
 ·exact hi
 ·exact absurd e ((Zo5 hl n).2.1 (by omega) s hs)
theorem Qn6{K:Nat}{k w:Int}{c:Ze}(h:CQ K k w c)(h25:25<=K)(hK:K<=400000)(hw:0<=w){i:Int}(hi:0<=i/\i<=7):T (Ww c i) fun r=>CQ K (k+1) w r.1/\(r.2.1=0->0<=Qx r.1.2.2.2.1 i):=by
 have hl:=h.inv.str.len;have q:=h.q;have m:CQ K (k+1) w c:=h.mono (Nat.le_refl _) (by omega) (Int.le_refl _);have no: ∀(v:Int),v≠0->(v=0->0<=Qx c.2.2.2.1 i):=fun v hv h=>absurd h hv;unfold Ww;rw[Zb4 h.inv (by omega),Obs,Qx5 h.inv (by omega),Obs];by_cases hc:Zc3 c=true
 ·have C:=(Z3b h.inv (by omega)).1 hc;rw[hc,Qwf (by omega)];simp only[Wr,Zgn.2 (show 0<=i/\i<=4611686018427387903 by omega),Obs,Ont,Ocf,Bool.or_self];refine T.ite (fun hf=>T.pure ⟨m,fun _=>Ode hf⟩) fun _=>(Xex _ _).bind fun t _=>T.if (T.pure ⟨m,no 5 (by decide)⟩) ?_;have j3: ∀t x (n:Nat),x.2.2.2.1=c.2.2.2.1->c.2.2.2.1.length+n<=24->Xx K x->cfB x.2.1=true->cfB x.2.2.1=true->x.2.2.1.2.1<=39->x.2.1.2.2.1<=64->1<=n->0<=i-4* ((n:Int)-1)->(∀l:List Zh,(∀s∈l,SI w s)->l.length<=c.2.2.2.1.length+n->QI (k+1) w (Qlj x l))->T (Zco i t x (n:Int)) fun r=>CQ K (k+1) w r.1/\(r.2.1=0->0<=Qx r.1.2.2.2.1 i):=fun t x n hs hn hx co cp c1 c2 h1 h0 hq=>by
   unfold Zco;refine(Xem hw hi.2 h25 hK (by rw[hs];exact hn) hx co cp c1 c2 (by rw[hs];exact q.str) h0).bind fun r hr=>T.pure ?_;obtain⟨l,l1,l2,l3,l4,-,l6⟩:=hr;rw[l1];exact⟨⟨⟨l2,hx.pk⟩,hq l l3 (by rw[<-hs];exact l4)⟩,fun _=>Q3d (l:=l) (by have:=l2.len;omega) (l6 (by omega))⟩
  have bnd: ∀(n:Int),0<=n->n<=2->((n==0)||decide (IntKind.i64.wrap ((c.2.2.2.1.length:Int)+n)>24))=false->1<=n/\c.2.2.2.1.length+n.toNat<=24:=fun n h0 h1 hh=>by
   simp only[Bool.or_eq_false_iff,beq_eq_false_iff_ne,decide_eq_false_iff_not]at hh;rw[Zv (by omega) (by omega)]at hh;omega
  have hop:=q.op;have hln:=q.ln;have hal:=q.al;obtain⟨⟨ub,⟨⟩⟩,eu,-⟩:=Xfj i;rw[eu,Obs];have fin: ∀a:Qr,(a=bif ub then c.2.2.2.2.2.2.2.2.2.1 else c.2.2.2.2.2.2.2.2.1)->T (Zcn i c Ji c a) fun r=>CQ K (k+1) w r.1/\(r.2.1=0->0<=Qx r.1.2.2.2.1 i):=fun a ea=>by
   unfold Zcn;simp only[Jk,Kz];refine((tt1 (Q9r i)).pc (Xb9 hi)).bind fun y hy=>((Q5r _ _).pc (Q5q (by have:=hy.2;omega))).bind fun z hz=> ?_;unfold Zs;refine T.ite (fun _=>T.pure ⟨m,no 4 (by decide)⟩) fun hc2=> ?_;rw[Bool.or_assoc,Bool.or_eq_false_iff,Bool.not_eq_false']at hc2;have g:=hz.2 hc2.1;have g2:=hy.2;have ha:0<=a.2.2.1/\a.2.2.1<=2:=by rw[ea];cases ub<;>(simp only[Oct,Ocf];omega)
   have b:=bnd z.2.1 (by omega) (by omega) hc2.2;have ez:z.2.1=((z.2.1.toNat:Nat):Int):=by omega
   rw[ez,eu,Obs];cases ub
   ·simp only[Ocf]at ea⊢;refine j3 _ _ _ (by rfl) b.2 (by exact⟨h.inv.str,h.inv.pk⟩) C.own C.peer q.cf.1 q.cf.2 (by omega) (by omega) fun l hl1 hl2=>⟨hl1,q.tl,?_,?_,q.ol,q.iw,⟨?_,q.al.2⟩,q.cf,q.pn⟩
    all_goals (have e1:=g.1;have e2:=g.2.1;have e3:=g.2.2;rw[ea]at e1 e2 e3;simp only;omega)
   ·simp only[Oct]at ea⊢;refine j3 _ _ _ (by rfl) b.2 (by exact⟨h.inv.str,h.inv.pk⟩) C.own C.peer q.cf.1 q.cf.2 (by omega) (by omega) fun l hl1 hl2=>⟨hl1,q.tl,?_,?_,q.ol,q.iw,⟨q.al.1,?_⟩,q.cf,q.pn⟩
    all_goals (have e1:=g.1;have e2:=g.2.1;have e3:=g.2.2;rw[ea]at e1 e2 e3;simp only;omega)
  cases ub
  ·exact fin _ rfl
  ·exact fin _ rfl
 ·have hc:Zc3 c=false:=by simpa using hc
  rw[hc];simp only[Bool.not_false,Oct,Obs,Bool.true_or];exact T.pure ⟨m,no 7 (by decide)⟩
theorem Qu9(w:Qt)(n:Int):Pc (Zhm w n) fun r=>r.1.2.1=w.2.1/\r.1.2.2.2.2.1=w.2.2.2.2.1:=by
 unfold Zhm;exact Pc.skip fun t=>Pc.if (Pc.pure ⟨rfl,rfl⟩) (Pc.pure ⟨rfl,rfl⟩)
theorem Xa6{K:Nat}{k w:Int}{x:Ze}{s:Zh}(h:CQ K k w x)(hs:SQs K w s)(hK:K<=1000000)(e:Int):T (Zq1 x s e) fun r=>CQ K k w r.2.1/\SQs K w r.2.2.1/\r.2.2.1.1=s.1/\r.2.1.2.2.2.1=x.2.2.2.1:=by
 have q:=h.q;have g:=hs.q;have nb:TT (Zsb s.2.2.2.1 e):=by
  unfold Zsb;exact(tt1 (Zmd hs.inv.rcv hK)).bind fun t _=>T.bind (Q:=fun _=>True) (T.if T.tt (Q8k _)) fun t _=>T.if T.tt T.tt
 unfold Zq1;refine nb.bind fun t _=>T.if (T.pure ⟨h,hs,rfl,rfl⟩) (((Qva _ _).pc (Qu9 _ _)).bind fun t ht=>((Qva _ _).pc (Qu9 _ _)).bind fun t2 ht2=>T.if (T.pure ⟨h,hs,rfl,rfl⟩) (T.pure ⟨⟨⟨h.inv.str,h.inv.pk⟩,⟨q.str,q.tl,q.op,q.ln,q.ol,⟨?_,?_⟩,q.al,q.cf,q.pn⟩⟩,⟨⟨hs.inv.snd,hs.inv.rcv⟩,⟨g.id,g.us,g.cl,?_,?_,g.code,g.stp,g.en,g.pr⟩⟩,rfl,rfl⟩))
 ·have:=ht2.2.1;have:=q.iw.1;simp only;omega
 ·have:=ht2.2.2;have:=q.iw.2;simp only;omega
 ·have:=ht.2.1;have:=g.wm;simp only;omega
 ·have:=ht.2.2;have:=g.wr;simp only;omega
theorem SQs.rcv{K K':Nat}{w:Int}{s:Zh}(h:SQs K w s)(hK:K<=K'){r:Qe}(hr:Zo3 K' r.2.1):SQs K' w (s.1,(s.2.1,(s.2.2.1,(r,s.2.2.2.2)))):=⟨⟨h.inv.snd.mono (by omega),hr⟩,⟨h.q.id,h.q.us,h.q.cl,h.q.wm,h.q.wr,h.q.code,h.q.stp,h.q.en,h.q.pr⟩⟩
theorem ne0{v:Int}(h: (v !=0)=false):v=0:=by simpa using h
theorem Xd8{K:Nat}{k w:Int}{c:Ze}{f:Zf}(h:CQ K k w c)(hf:FOK f)(hq:FQ f)(h25:25<=K)(hK:K<=390000)(hw:0<=w):T (Zor c f) fun r=>CQ (K+f.2.2.2.1.length+2) (k+1) (w+64) r.1.1:=by
 have m:CQ (K+f.2.2.2.1.length+2) (k+1) (w+64) c:=h.mono (by omega) (by omega) (by omega);have cp: ∀v:Int,T (Option.bind (Z6 c) fun t=>some ((t.1,(v,())),())) fun r=>CQ (K+f.2.2.2.1.length+2) (k+1) (w+64) r.1.1:=fun v=>by
  rw[Zb4 h.inv (by omega),Obs];exact T.pure m
 unfold Zor;refine(Qrc h.inv (by omega)).bind fun t _=>T.bind (Q:=fun _=>True) (T.if T.tt (Z6d hf)) fun t _=>T.if (cp 7) ((Q8l _ _).bind fun t _=>T.if (cp 5) ((Qn6 h h25 (by omega) hw ⟨hq.st.1,hq.st.2⟩).bind fun x hx=>T.ite (fun _=>cp _) fun hx0=>((hx.1.look (by omega) hw _).bind fun s hs=> ?_)));have hi:=hx.2 (ne0 hx0);have hid:=hs.2.2 hi;obtain⟨r,v,e,hr⟩:=Qzh hs.1.inv.rcv f.2.2.1 f.2.2.2.1 f.2.2.2.2.1 (by unfold FOK at hf;omega);rw[e,Obs];unfold FOK at hf;refine(Xa6 hx.1 hs.1 (by omega) _).bind fun y hy=>T.if (cp _) (T.if (cp _) ((Qu8 (K:=K+f.2.2.2.1.length+2) (hy.1.mono (by omega) (Int.le_refl _) (by omega)) ((hy.2.1.rcv (K':=K+f.2.2.2.1.length+2) (by omega) (hr.mono (by omega))).mono (Nat.le_refl _) (show w<=w+64 by omega)) (by omega) ?_).bind fun t ht=>T.pure ht));rw[hy.2.2.2];simp only;rw[hy.2.2.1,hid];exact hi
theorem Xf9{K:Nat}{k w:Int}{c:Ze}{f:Zf}(h:CQ K k w c)(hf:FOK f)(hq:FQ f)(h25:25<=K)(hK:K<=390000)(hw:0<=w):T (Zna c f) fun r=>CQ (K+f.2.2.2.1.length+2) (k+1) (w+64) r.1.1:=by
 have m:CQ (K+f.2.2.2.1.length+2) (k+1) (w+64) c:=h.mono (by omega) (by omega) (by omega);have cp: ∀v:Int,T (Option.bind (Z6 c) fun t=>some ((t.1,(v,())),())) fun r=>CQ (K+f.2.2.2.1.length+2) (k+1) (w+64) r.1.1:=fun v=>by
  rw[Zb4 h.inv (by omega),Obs];exact T.pure m
 unfold Zna;refine(Qrc h.inv (by omega)).bind fun t _=>T.bind (Q:=fun _=>True) (T.if T.tt (Z6d hf)) fun t _=>T.if (cp 7) ((Q8l _ _).bind fun t _=>T.if (cp 5) ((Qn6 h h25 (by omega) hw ⟨hq.st.1,hq.st.2⟩).bind fun x hx=>T.ite (fun _=>cp _) fun hx0=>((hx.1.look (by omega) hw _).bind fun s hs=> ?_)));have hi:=hx.2 (ne0 hx0);have hid:=hs.2.2 hi;obtain⟨r,v,e,hr⟩:=Qxc hs.1.inv.rcv (by omega) f.2.2.2.2.2.1 f.2.2.2.2.2.2.2.1;rw[e,Obs];have j: ∀(t x:Ze) (s:Zh),CQ K (k+1) (w+64) x->SQs K (w+64) s->0<=Qx x.2.2.2.1 s.1->T (Zd8 t x s r) fun r=>CQ (K+f.2.2.2.1.length+2) (k+1) (w+64) r.1.1:=fun t x s hx hs hi=>by
  unfold Zd8;exact(Qu8 hx (hs.rcv (Nat.le_refl _) hr) (by omega) hi).bind fun t ht=>T.pure (ht.mono (by omega) (Int.le_refl _) (Int.le_refl _))
 refine(Xa6 hx.1 hs.1 (by omega) _).bind fun y hy=>T.if (cp _) (T.if (cp _) (T.if ((Q74 hy.1 hy.2.1 _).bind fun z hz=>j _ _ _ hz.1 hz.2.1 ?_) (j _ _ _ (hy.1.mono (Nat.le_refl _) (Int.le_refl _) (by omega)) (hy.2.1.mono (Nat.le_refl _) (by omega)) ?_)))
 ·rw[hz.2.2.2,hz.2.2.1,hy.2.2.2,hy.2.2.1,hid];exact hi
 ·rw[hy.2.2.2,hy.2.2.1,hid];exact hi
theorem Xgd{K:Nat}{k w:Int}{c:Ze}{f:Zf}(h:CQ K k w c)(hf:FOK f)(hq:FQ f)(h25:25<=K)(hK:K<=390000)(hw:0<=w):T (Zos c f) fun r=>CQ (K+f.2.2.2.1.length+2) (k+1) (w+64) r.1.1:=by
 have m:CQ (K+f.2.2.2.1.length+2) (k+1) (w+64) c:=h.mono (by omega) (by omega) (by omega);have cp: ∀v:Int,T (Option.bind (Z6 c) fun t=>some ((t.1,(v,())),())) fun r=>CQ (K+f.2.2.2.1.length+2) (k+1) (w+64) r.1.1:=fun v=>by
  rw[Zb4 h.inv (by omega),Obs];exact T.pure m
 unfold Zos;refine(Qrc h.inv (by omega)).bind fun t _=>T.bind (Q:=fun _=>True) (T.if T.tt (Z6d hf)) fun t _=>T.if (cp 7) ((Xbg _ _).bind fun t _=>T.if (cp 5) ((Qn6 h h25 (by omega) hw ⟨hq.st.1,hq.st.2⟩).bind fun x hx=>T.ite (fun _=>cp _) fun hx0=>((hx.1.look (by omega) hw _).bind fun s hs=> ?_)));have hi:=hx.2 (ne0 hx0);have hid:=hs.2.2 hi;obtain⟨r,v,e,hr⟩:=Qle hs.1.inv.snd f.2.2.2.2.2.1 (by omega);have g:=Q75 hs.1.inv.snd f.2.2.2.2.2.1 (by omega) _ e;rw[e,Obs];have j: ∀(t:Ze) (s:Zh),SQs K w s->0<=Qx x.1.2.2.2.1 s.1->T (Zfq t x.1 s) fun r=>CQ (K+f.2.2.2.1.length+2) (k+1) (w+64) r.1.1:=fun t s hs hi=>by
  unfold Zfq;exact(Qu8 hx.1 hs (by omega) hi).bind fun t ht=>T.pure (ht.mono (by omega) (Int.le_refl _) (by omega))
 refine T.if (j _ _ (by exact⟨⟨hr,hs.1.inv.rcv⟩,hs.1.q.reset hq.code g true⟩) ?_) (j _ _ hs.1 ?_)
 ·simp only;rw[hid];exact hi
 ·rw[hid];exact hi
theorem Qlb{c:X7}(h:c.1<=39){n:Int}(hn:n<=39):Pc (Zdx c n) fun r=>r.1.1<=39/\r.1.2.1=c.2.1:=by
 unfold Zdx;exact Pc.skip fun t=>Pc.skip fun t=>Pc.if (Pc.pure ⟨h,rfl⟩) (Pc.pure ⟨hn,rfl⟩)
theorem Qk9{c:Ze8}(h:c.1<=39){n:Int}(hn:n<=39):Pc (Zdw c n) fun r=>r.1.1<=39/\r.1.2.1=c.2.1:=by
 unfold Zdw;exact Pc.skip fun t=>Pc.if (Pc.pure ⟨h,rfl⟩) (Pc.pure ⟨hn,rfl⟩)
theorem Xf4{K:Nat}{k w:Int}{c:Ze}{f:Zf}(h:CQ K k w c)(hf:FOK f)(hq:FQ f)(h25:25<=K)(hK:K<=390000)(hw:0<=w):T (Zm9 c f) fun r=>CQ (K+f.2.2.2.1.length+2) (k+1) (w+64) r.1:=by
 have m:CQ (K+f.2.2.2.1.length+2) (k+1) (w+64) c:=h.mono (by omega) (by omega) (by omega);have q:=m.q;have cp: ∀v:Int,T (Option.bind (Z6 c) fun t=>some (t.1,v,())) fun r=>CQ (K+f.2.2.2.1.length+2) (k+1) (w+64) r.1:=fun v=>by
  rw[Zb4 h.inv (by omega),Obs];exact T.pure m
 have up: ∀{x:Ze},CQ K (k+1) w x->CQ (K+f.2.2.2.1.length+2) (k+1) (w+64) x:=fun hx=>hx.mono (by omega) (Int.le_refl _) (by omega);have e2: ∀t x,CQ K (k+1) w x->T (Znh t x) fun r=>CQ (K+f.2.2.2.1.length+2) (k+1) (w+64) r.1:=fun t x hx=>T.pure (up hx);have e1: ∀t b,T (Zi3 c f t b) fun r=>CQ (K+f.2.2.2.1.length+2) (k+1) (w+64) r.1:=fun t b=>by
  unfold Zi3;refine T.if (cp _) ((Qn6 h h25 (by omega) hw ⟨hq.st.1,hq.st.2⟩).bind fun x hx=>T.ite (fun _=>cp _) fun hx0=>T.if ((hx.1.look (by omega) hw _).bind fun s hs=>((Qlc _ _).pc (Qlb hs.1.q.cl hq.lim)).bind fun t ht=>(hx.1.put (s:=(s.1.1,(s.1.2.1,(t.1,s.1.2.2.2)))) ⟨⟨hs.1.inv.snd,hs.1.inv.rcv⟩,⟨hs.1.q.id,by have:=hs.1.q.us;have:=ht.2.2;simp only;omega,ht.2.1,hs.1.q.wm,hs.1.q.wr,hs.1.q.code,hs.1.q.stp,hs.1.q.en,hs.1.q.pr⟩⟩ (by omega) ?_).bind fun t3 h3=>e2 _ _ h3) (e2 _ _ hx.1));have hi:=hx.2 (ne0 hx0);simp only;rw[hs.2.2 hi];exact hi
 have el:T (Zsf c f) fun r=>CQ (K+f.2.2.2.1.length+2) (k+1) (w+64) r.1:=by
  unfold Zsf;exact(Xbg _ _).bind fun t _=>T.if ((Q8l _ _).bind fun t _=>e1 _ _) (e1 _ _)
 have j1: ∀t x,CQ (K+f.2.2.2.1.length+2) (k+1) (w+64) x->T (Zhw t x) fun r=>CQ (K+f.2.2.2.1.length+2) (k+1) (w+64) r.1:=fun t x hx=>T.pure hx;have j3: ∀t b,T (Zd7 c f t c b) fun r=>CQ (K+f.2.2.2.1.length+2) (k+1) (w+64) r.1:=fun t b=>by
  unfold Zd7;exact T.if (el.bind fun r hr=>T.pure hr) (T.pure m)
 have j2: ∀t k' b,T (Zd6 c f t c k' b) fun r=>CQ (K+f.2.2.2.1.length+2) (k+1) (w+64) r.1:=fun t k' b=>by
  unfold Zd6;exact T.if (T.pure m) (T.if (j3 _ _) (j3 _ _))
 unfold Zm9;rw[Zb4 h.inv (by omega),Obs];refine(Qrc h.inv (by omega)).bind fun t _=>T.bind (Q:=fun _=>True) (T.if T.tt (Z6d hf)) fun t _=>T.if (T.pure m) (T.if (((Qlc _ _).pc (Qlb q.tl hq.lim)).bind fun t ht=>T.pure (by exact⟨⟨m.inv.str,m.inv.pk⟩,⟨q.str,ht.2.1,q.op,q.ln,q.ol,q.iw,q.al,q.cf,q.pn⟩⟩)) (T.if (T.if (((Qla _ _).pc (Qk9 q.ol.2 hq.lim)).bind fun t ht=>j1 _ _ ?_) (((Qla _ _).pc (Qk9 q.ol.1 hq.lim)).bind fun t ht=>j1 _ _ ?_)) (T.if (j2 _ _ _) (j2 _ _ _))))
 ·exact⟨⟨m.inv.str,m.inv.pk⟩,⟨q.str,q.tl,by have:=q.op;have:=ht.2.2;simp only;omega,by have:=q.ln;have:=ht.2.2;simp only;omega,⟨q.ol.1,ht.2.1⟩,q.iw,q.al,q.cf,q.pn⟩⟩
 ·exact⟨⟨m.inv.str,m.inv.pk⟩,⟨q.str,q.tl,by have:=q.op;have:=ht.2.2;simp only;omega,by have:=q.ln;have:=ht.2.2;simp only;omega,⟨ht.2.1,q.ol.2⟩,q.iw,q.al,q.cf,q.pn⟩⟩
theorem Xb7{K:Nat}{k w:Int}{c:Ze}{f:Zf}(h:CQ K k w c)(hf:FOK f)(hq:FQ f)(h25:25<=K)(hK:K<=390000)(hw:0<=w):T (Zm8 c f) fun r=>CQ (K+f.2.2.2.1.length+2) (k+1) (w+64) r.1.1:=by
 have j1: ∀t x e,CQ (K+f.2.2.2.1.length+2) (k+1) (w+64) x->T (Zad t x e) fun r=>CQ (K+f.2.2.2.1.length+2) (k+1) (w+64) r.1.1:=fun t x e hx=>T.pure hx;unfold Zm8;rw[Zb4 h.inv (by omega),Obs];exact T.if ((Xd8 h hf hq h25 hK hw).bind fun r hr=>j1 _ _ _ hr) (T.if ((Xf9 h hf hq h25 hK hw).bind fun r hr=>j1 _ _ _ hr) (T.if ((Xgd h hf hq h25 hK hw).bind fun r hr=>j1 _ _ _ hr) ((Xf4 h hf hq h25 hK hw).bind fun r hr=>j1 _ _ _ hr)))
theorem Qpf(c:X7): (clB c).1=c.1/\(clB c).2.1=c.2.1:=by
 unfold clB;cases Zsj c&& (c.2.2.1 !=(-1:Int))<;>exact⟨rfl,rfl⟩
theorem Qij(c:X7): (nbB c).1=c.1/\(nbB c).2.1=c.2.1:=by
 unfold nbB;cases (((Zsj c&& (c.2.1==c.1))&& (c.2.2.1==(-1:Int)))&& (c.2.2.2.1 !=c.1))<;>exact⟨rfl,rfl⟩
theorem Qjr(w:Qt)(n t:Int): (rwV w n t).2.1=w.2.1/\(rwV w n t).2.2.2.2.1=w.2.2.2.2.1/\(rwV w n t).2.2.2.1=w.2.2.2.1:=by
 unfold rwV;cases Qbz w n t<;>exact⟨rfl,rfl,rfl⟩
theorem Q1p(a:Qr): (raV a).1=a.1/\(raV a).2.2=a.2.2:=by
 unfold raV;cases Qty a<;>exact⟨rfl,rfl⟩
theorem SI.done{w:Int}{s:Zh}(h:SI w s)(c:Ze)(k:Int):SI w (Zh4 c s k):=by
 unfold Zh4;cases k==(4:Int)
 ·cases k==(5:Int)
  ·cases k==(17:Int)
   ·cases k==(21:Int)
    ·exact h
    ·have e:=Qpf s.2.2.1;exact⟨h.id,by have:=h.us;simp only[Oct,Ocf];omega,by have:=h.cl;simp only[Oct,Ocf];omega,h.wm,h.wr,h.code,h.stp,h.en,h.pr⟩
   ·have e:=Qjr s.2.2.2.2.1 (Zw2 c) (Znv c);have hm:=h.wm;have hr:=h.wr;refine⟨h.id,h.us,h.cl,?_,?_,h.code,h.stp,h.en,h.pr⟩
    ·simp only[Oct,Ocf];cases wcB s<;>(simp only[Oct,Ocf];omega)
    ·simp only[Oct,Ocf];cases wcB s<;>(simp only[Oct,Ocf];omega)
  ·exact⟨h.id,h.us,h.cl,h.wm,h.wr,h.code,h.stp,h.en,h.pr⟩
 ·exact⟨h.id,h.us,h.cl,h.wm,h.wr,h.code,h.stp,h.en,h.pr⟩
theorem QI.mark{k w:Int}{c:Ze}(h:QI k w c)(hl:c.2.2.2.1.length<=1000000)(f:Zf):QI k w (mkC c f):=by
 have e1:=Qjr c.2.2.2.2.2.1 (Zw2 c) (Znv c);have e2:=Q1p c.2.2.2.2.2.2.2.2.1;have e3:=Q1p c.2.2.2.2.2.2.2.2.2.1;have e4:=Qpf c.2.2.2.2.1;unfold mkC;cases f.1==(16:Int)
 ·cases f.1==(18:Int)
  ·cases f.1==(20:Int)
   ·cases f.1==(22:Int)
    ·simp only[Ocf];by_cases hi:0<=Qx c.2.2.2.1 f.2.1
     ·have h1:=(Zo5 hl f.2.1).1;rw[if_pos hi];exact⟨SI.set h.str ((h.str _ (Z2 (d:=Zn) (by omega))).done c f.1) _,h.tl,h.op,by have:=h.ln;simp only[List.length_set];omega,h.ol,h.iw,h.al,h.cf,h.pn⟩
     ·rw[if_neg hi];exact h
    ·cases f.2.2.2.2.2.2.2.2.1<;>exact⟨h.str,h.tl,h.op,h.ln,h.ol,h.iw,h.al,h.cf,h.pn⟩
   ·exact⟨h.str,by have:=h.tl;simp only[Oct,Ocf];omega,h.op,h.ln,h.ol,h.iw,h.al,h.cf,h.pn⟩
  ·cases f.2.2.2.2.2.2.2.2.1
   ·exact⟨h.str,h.tl,by have:=h.op;simp only[Oct,Ocf,e2.2];exact this,by have:=h.ln;simp only[Oct,Ocf,e2.2];exact this,h.ol,h.iw,⟨by have:=h.al.1;simp only[Oct,Ocf];omega,h.al.2⟩,h.cf,h.pn⟩
   ·exact⟨h.str,h.tl,by have:=h.op;simp only[Oct,Ocf,e3.2];exact this,by have:=h.ln;simp only[Oct,Ocf,e3.2];exact this,h.ol,h.iw,⟨h.al.1,by have:=h.al.2;simp only[Oct,Ocf];omega⟩,h.cf,h.pn⟩
 ·exact⟨h.str,h.tl,h.op,h.ln,h.ol,⟨by have:=h.iw.1;simp only[Oct];omega,by have:=h.iw.2;simp only[Oct];omega⟩,h.al,h.cf,h.pn⟩
theorem QI.markV{k w:Int}{c:Ze}(h:QI k w c)(hl:c.2.2.2.1.length<=1000000)(f:Zf):QI k w (mkV c f):=by
 unfold mkV;cases Zc3 c
 ·exact h
 ·exact h.mark hl f
theorem QI.bl{k w:Int}{c:Ze}(h:QI k w c)(hl:c.2.2.2.1.length<=1000000){id:Int}(hi:0<=Qx c.2.2.2.1 id):QI k w (blC c id):=by
 have h1:=(Zo5 hl id).1;have hm:SI w (atS c id):=h.str _ (Z2 (d:=Zn) (by omega));have e:=Qij (atS c id).2.2.1;have e2:=Qij c.2.2.2.2.1;have hx:SI w ((atS c id).1,((atS c id).2.1,(nbB (atS c id).2.2.1,(atS c id).2.2.2))):=⟨hm.id,by have:=hm.us;simp only;omega,by have:=hm.cl;simp only;omega,hm.wm,hm.wr,hm.code,hm.stp,hm.en,hm.pr⟩
 refine⟨SI.set h.str hx _,?_,h.op,?_,h.ol,h.iw,h.al,h.cf,h.pn⟩
 ·have:=h.tl;unfold blC;simp only;omega
 ·have:=h.ln;unfold blC;simp only[List.length_set];omega
theorem ucF{c:X7}{n:Int}(h:Z50 c n=true):Qz6 c/\0<=n/\n<=c.1-c.2.1/\ucC c n=(c.1,(c.2.1+n,c.2.2)):=by
 have h':=h;unfold Z50 at h;simp only[Bool.not_eq_true',Bool.or_eq_false_iff,Bool.not_eq_false',decide_eq_false_iff_not]at h;obtain⟨⟨h1,h2⟩,h3⟩:=h;have C:=Z3c.1 h1;obtain⟨g1,g2,g3,-,-,-,-⟩:=C;rw[Zv (by omega) (by omega)]at h3;refine⟨Z3c.1 h1,by omega,by omega,?_⟩;unfold ucC;rw[h',Oct,Zv (by omega) (by omega)]
theorem spF{K:Int}{s:Zo}(h:Kk K s)(hK:K<=1000000){p:Z9}(ho:Zt8 s p=true):Qxu s/\s.1<=2/\0<=p.1/\p.1+ (p.2.1.length:Int)<=s.2.1.2.2.1/\IntKind.i64.wrap (p.1+ (p.2.1.length:Int))=p.1+ (p.2.1.length:Int):=by
 have h0:=h.e0;have h1:=h.eK
 unfold Zt8 spG Qib at ho;simp only[Oba,decide_eq_true_eq]at ho;obtain⟨⟨⟨⟨⟨a1,a2⟩,⟨⟨b1,b2⟩,b3⟩,-⟩,-⟩,-⟩,-⟩:=ho;rw[Zv (by omega) (by omega)]at b3;exact⟨(Qnu h hK).1 a1,a2,b1,by omega,Zv (by omega) (by omega)⟩
theorem Qxj(s:Zo)(p:Z9): (spS s p).2.1=s.2.1/\(spS s p).2.2.2.2.2.2.2.2.1=s.2.2.2.2.2.2.2.2.1/\(spS s p).2.2.2.2.2.2.2.1=(if p.2.1=[]then s.2.2.2.2.2.2.2.1 else max s.2.2.2.2.2.2.2.1 (rgP p).2.1):=by
 unfold spS spZ spY;by_cases hd:p.2.1=[]
 ·have: (p.2.1==([]:List UInt8))=true:=by rw[hd];rfl
  rw[this,if_pos hd];cases p.2.2.1<;>exact⟨rfl,rfl,rfl⟩
 ·have: (p.2.1==([]:List UInt8))=false:=by simpa using hd
  rw[this,if_neg hd];cases p.2.2.1<;>exact⟨rfl,rfl,rfl⟩
theorem mpF{K:Nat}{c:Ze}(h:Xx K c)(hK:K<=1000000){id:Int}{p:Z9}(ho:Zn4 c id p=true):0<=Qx c.2.2.2.1 id/\Zc3 c=true/\Zt8 (atS c id).2.1 p=true/\Zga c id p=(spS (atS c id).2.1 p).2.2.2.2.2.2.2.1- (atS c id).2.1.2.2.2.2.2.2.2.1/\0<=Zga c id p/\
  (ucC (atS c id).2.2.1 (Zga c id p))=((atS c id).2.2.1.1,((atS c id).2.2.1.2.1+Zga c id p,(atS c id).2.2.1.2.2))/\ucC c.2.2.2.2.1 (Zga c id p)=(c.2.2.2.2.1.1,(c.2.2.2.2.1.2.1+Zga c id p,c.2.2.2.2.1.2.2))/\Zga c id p<=(atS c id).2.2.1.1- (atS c id).2.2.1.2.1/\Zga c id p<=c.2.2.2.2.1.1-c.2.2.2.2.1.2.1:=by
 have hl:=h.str.len;unfold Zn4 at ho;simp only[Oba,decide_eq_true_eq]at ho;obtain⟨⟨⟨hc,hi⟩,-⟩,⟨hs,hu⟩,hv⟩:=ho;have h1:=(Zo5 (l:=c.2.2.2.1) (by omega) id).1;have hm:Vy K (atS c id):=h.str.all _ (Z2 (d:=Zn) (by omega));obtain⟨f1,f2,f3,f4,f5⟩:=spF hm.snd (by omega) hs;obtain⟨u1,u2,u3,u4⟩:=ucF hu;obtain⟨v1,v2,v3,v4⟩:=ucF hv;obtain⟨g1,g2,g3⟩:=Qxj (atS c id).2.1 p;have eS:=f1.sent;have eK:=hm.snd.eK;have en:Zga c id p=(spS (atS c id).2.1 p).2.2.2.2.2.2.2.1- (atS c id).2.1.2.2.2.2.2.2.2.1:=by
  unfold Zga spV;rw[hs,Oct,Zv]
  ·rw[g3,show(rgP p).2.1=p.1+ (p.2.1.length:Int)from f5];split<;>omega
  ·rw[g3,show(rgP p).2.1=p.1+ (p.2.1.length:Int)from f5];split<;>omega
 exact⟨hi,hc,hs,en,u2,u4,v4,u3,v3⟩
theorem QI.mp{K:Nat}{k w:Int}{c:Ze}(hq:QI k w c)(h:Xx K c)(hK:K<=1000000){id:Int}{p:Z9}(ho:Zn4 c id p=true):QI k w (mpC c id p):=by
 have hl:=h.str.len;obtain⟨hi,-,hs,en,n0,e1,e2,-,-⟩:=mpF h hK ho;obtain⟨g1,g2,-⟩:=Qxj (atS c id).2.1 p;have h1:=(Zo5 (l:=c.2.2.2.1) (by omega) id).1;have hm:SI w (atS c id):=hq.str _ (Z2 (d:=Zn) (by omega));have hx:SI w ((atS c id).1,(spS (atS c id).2.1 p,(ucC (atS c id).2.2.1 (Zga c id p),(atS c id).2.2.2))):=⟨hm.id,by rw[e1];have:=hm.us;simp only;omega,by rw[e1];exact hm.cl,hm.wm,hm.wr,by simp only;rw[g2];exact hm.code,hm.stp,by simp only;rw[g1];exact hm.en,hm.pr⟩
 refine⟨SI.set hq.str hx _,?_,hq.op,?_,hq.ol,hq.iw,hq.al,hq.cf,hq.pn⟩
 ·unfold mpC;simp only;rw[e2];exact hq.tl
 ·have:=hq.ln;unfold mpC;simp only[List.length_set];omega
theorem Q87{K:Nat}{k w:Int}(hK:K<=1000000): ∀(l:List Zf) (c:Ze) (fr:List Zf) (room:Int),CQ K k w c->CQ K k w (Zc4 l c fr room).1
 | [],_,_,_,h=>h
 |f::r,c,fr,room,h=>by
  have hl:=h.inv.str.len;unfold Zc4;split
  ·exact Q87 hK r _ _ _ ⟨Zwc h.inv hK f,h.q.markV (by omega) f⟩
  ·exact Q87 hK r _ _ _ h
theorem Q61{K:Nat}{k w:Int}(hK:K<=1000000): ∀(n:Nat) (c:Ze) (fr:List Zf) (room:Int) (sk:List Int),CQ K k w c->CQ K k w (Zem n c fr room sk).2
 |0,_,_,_,_,h=>h
 |n+1,c,fr,room,sk,h=>by
  have hl:=h.inv.str.len;unfold Zem;split
  ·exact h
  ·rename_i hn;have hidx:=Zyj (c:=c) (by omega) (sk:=sk) (last:=Zcd c) (by omega);generalize Wg (Zhg c sk) (Zcd c)=id at*
   cases (pcR c id room).2.1
   ·rw[Ocf];exact Q61 hK n _ _ _ _ ⟨(Qg0 h.inv hK hidx).2,h.q.bl (by omega) hidx⟩
   ·rw[Oct];cases hm:Zn4 c id (pcR c id room).1
    ·exact h
    ·rw[Oct];exact Q61 hK n _ _ _ _ ⟨Qav h.inv hK hm,h.q.mp h.inv hK hm⟩
theorem Xec{K:Nat}{k w:Int}{c:Ze}(h:CQ K k w c)(hK:K<=80000)(b:Int):T (Zak c b) fun r=>CQ (K+1) k w r.1.2.2.1:=by
 obtain⟨t,e⟩:=Q2x h.inv hK b;refine⟨_,e,⟨Z57 h.inv (by omega) b,?_⟩⟩;simp only;unfold emC;cases hg:emG c b
 ·exact h.q
 ·have hC:Zhh c:=(Z3b h.inv (by omega)).1 (by unfold emG at hg;simp only[Oba]at hg;exact hg.1.1.1);have hnum:=hC.num;have q:QI k w (emF c b).2:=by
   have:=(Q61 (K:=K) (by omega) 200 (emX c b).1 (emX c b).2.1 (emX c b).2.2 [] (Q87 (K:=K) (by omega) (cfL c) c [] b h)).q;unfold emF;exact this
  rw[Oct];generalize emF c b=z at*
  cases (z.1.length:Int)==0
  ·refine⟨q.str,q.tl,q.op,q.ln,q.ol,q.iw,q.al,q.cf,fun p hp=> ?_⟩;rcases List.mem_append.1 hp with hp|hp
   ·exact q.pn p hp
   ·rw[List.mem_singleton.1 hp];exact hnum.1
  ·exact q
theorem Xay{K:Nat}{k w:Int}{c:Ze}(h:CQ K k w c)(hK:K<=1000000)(n:Int):T (Zq3 c n) fun r=>CQ K k w r.2.1:=by
 have hl:=h.inv.pk.1;have lp: ∀(N i:Nat) (o:List Z8),c.2.2.2.2.2.2.2.2.2.2.2.2.2.2.2.1.length-i<N->i<=c.2.2.2.2.2.2.2.2.2.2.2.2.2.2.2.1.length->Qou i o->(∀p∈o,0<=p.1)->T (Zdz N c n o (i:Int)) fun r=>CQ K k w r.2.1:=by
  intro N
  induction N with
  |zero=>intro i o h;omega
  |succ N ih=>
   intro i o hN hi ho hp;unfold Zdz;refine T.ite (fun hc=> ?_) fun hc=>T.pure ⟨⟨h.inv.str,ho.mono (by omega)⟩,⟨h.q.str,h.q.tl,h.q.op,h.q.ln,h.q.ol,h.q.iw,h.q.al,h.q.cf,hp⟩⟩;have hc:=Ode hc;have hmm:=Z2 (d:=Qj) (show i<c.2.2.2.2.2.2.2.2.2.2.2.2.2.2.2.1.length by omega);have hm:=h.inv.pk.2 _ hmm;have j: ∀o,Qou (i+1) o->(∀p∈o,0<=p.1)->T (Zko (fun v=>Zdz N v.1 v.2.1 v.2.2.1 v.2.2.2.1) c n o (i:Int)) fun r=>CQ K k w r.2.1:=fun o ho hp=>by
    unfold Zko;rw[Zr (m:=c.2.2.2.2.2.2.2.2.2.2.2.2.2.2.2.1.length) (by omega) (by omega)];exact ih (i+1) o (by omega) (by omega) ho hp
   exact T.guard (by omega) (T.if (T.guard (by omega) (T.guard (by have:=ho.1;unfold Qg;simp only[List.length_singleton];omega) (j _ ⟨by have:=ho.1;simp;omega,fun p hp=>by
    rcases List.mem_append.1 hp with hp|hp
    ·exact ho.2 p hp
    ·rw[List.mem_singleton.1 hp];exact hm⟩ fun p hp2=>by
    rcases List.mem_append.1 hp2 with hp2|hp2
    ·exact hp p hp2
    ·rw[List.mem_singleton.1 hp2];exact h.q.pn _ hmm))) (j _ (ho.mono (by omega)) hp))
 unfold Zq3;exact lp _ 0 _ (by unfold Zmw;omega) (by omega) ⟨by simp,by simp⟩ (by simp)
theorem Xcc{K:Nat}{k w:Int}{x:Ze}(h:CQ K k w x)(hK:K+1<=500000)(hw:0<=w)(f:Zf):T (Zui x f) fun r=>CQ K k w r.2.1:=by
 have q:=h.q;have j2: ∀s,SQs K w s->0<=Qx x.2.2.2.1 s.1->T (Zan x s) fun r=>CQ K k w r.2.1:=fun s hs hi=>by
  unfold Zan;exact(h.put hs (by omega) hi).bind fun t ht=>T.pure ht
 unfold Zui;simp only[Jk,Kz];refine T.if (T.pure (by exact⟨⟨h.inv.str,h.inv.pk⟩,⟨q.str,q.tl,q.op,q.ln,q.ol,q.iw,q.al,q.cf,q.pn⟩⟩)) (T.if (T.if (T.pure (by exact⟨⟨h.inv.str,h.inv.pk⟩,⟨q.str,q.tl,q.op,q.ln,q.ol,q.iw,q.al,q.cf,q.pn⟩⟩)) (T.pure (by exact⟨⟨h.inv.str,h.inv.pk⟩,⟨q.str,q.tl,q.op,q.ln,q.ol,q.iw,q.al,q.cf,q.pn⟩⟩))) ((h.look (by omega) hw _).bind fun s hs=> ?_));unfold Kr;refine T.bind (Q:=fun _=>True) (T.if T.tt (Qz8 f)) fun t _=>T.ite (fun _=>T.pure h) fun hc=> ?_;have hb:s.2.1=true:=by cases e:s.2.1;rw[e]at hc;cases hc;rfl
 have hi:=hs.2.1 hb;have hi':0<=Qx x.2.2.2.1 s.1.1:=by rw[hi.2];exact hi.1
 have g:=hs.1.q;refine T.if ?_ (T.if (j2 _ (by exact⟨⟨hs.1.inv.snd,hs.1.inv.rcv⟩,⟨g.id,g.us,g.cl,g.wm,g.wr,g.code,g.stp,g.en,g.pr⟩⟩) hi') (T.if (j2 _ (by exact⟨⟨hs.1.inv.snd,hs.1.inv.rcv⟩,⟨g.id,g.us,g.cl,g.wm,g.wr,g.code,g.stp,g.en,g.pr⟩⟩) hi') (T.if (j2 _ (by exact⟨⟨hs.1.inv.snd,hs.1.inv.rcv⟩,⟨g.id,g.us,g.cl,g.wm,g.wr,g.code,g.stp,g.en,g.pr⟩⟩) hi') (j2 _ hs.1 hi'))));refine T.bind (Q:=fun _=>True) ⟨_,rfl,trivial⟩ fun p _=> ?_;obtain⟨y,e,hy⟩:=Q44 hs.1.inv.snd p.1 (by omega);have gy:=Xej hs.1.inv.snd p.1 (by omega) _ e;rw[e,Obs];exact j2 _ (by exact⟨⟨hy,hs.1.inv.rcv⟩,g.snd gy⟩) hi'
theorem Xdx{K:Nat}{k w:Int}{x:Ze}(h:CQ K k w x)(hK:K+1<=500000)(hw:0<=w)(f:Zf):T (Zwx x f) fun r=>CQ K k w r.2.1:=by
 have j2: ∀s,SQs K w s->0<=Qx x.2.2.2.1 s.1->T (Zcx x s) fun r=>CQ K k w r.2.1:=fun s hs hi=>by
  unfold Zcx;exact(Qu8 h hs (by omega) hi).bind fun t ht=>T.pure ht
 unfold Zwx;simp only[Jk,Kz];refine(h.look (by omega) hw _).bind fun s hs=> ?_;unfold Ju;refine T.bind (Q:=fun _=>True) (T.if T.tt (Qz8 f)) fun t _=>T.ite (fun _=>T.pure h) fun hc=> ?_;have hb:s.2.1=true:=by cases e:s.2.1;rw[e]at hc;cases hc;rfl
 have hi:=hs.2.1 hb;have hi':0<=Qx x.2.2.2.1 s.1.1:=by rw[hi.2];exact hi.1
 have g:=hs.1.q;refine T.if ?_ (T.if ?_ (T.if (j2 _ (by exact⟨⟨hs.1.inv.snd,hs.1.inv.rcv⟩,⟨g.id,g.us,g.cl,g.wm,g.wr,g.code,g.stp,g.en,g.pr⟩⟩) hi') (j2 _ hs.1 hi')))
 ·refine T.bind (Q:=fun _=>True) ⟨_,rfl,trivial⟩ fun p _=> ?_;obtain⟨y,e,hy⟩:=Q56 hs.1.inv.snd p.1 (by omega);have gy:=Xfr hs.1.inv.snd p.1 (by omega) _ e;rw[e,Obs];exact j2 _ (by exact⟨⟨hy,hs.1.inv.rcv⟩,g.snd gy⟩) hi'
 ·obtain⟨y,ok,e,hy⟩:=Q57 hs.1.inv.snd (by omega);have gy:=Q4k hs.1.inv.snd (by omega) _ e;rw[e,Obs];have g2:=g.snd gy;exact T.if (j2 _ (by exact⟨⟨hy,hs.1.inv.rcv⟩,⟨g2.id,g2.us,g2.cl,g2.wm,g2.wr,g2.code,g2.stp,g2.en,g2.pr⟩⟩) hi') (j2 _ (by exact⟨⟨hy,hs.1.inv.rcv⟩,g2⟩) hi')
theorem Xek{K:Nat}{k w:Int}{c:Ze}(h:CQ K k w c)(hK:K<=400000)(hw:0<=w)(n:Int):T (Zow c n) fun r=>CQ K k w r.1.1:=by
 unfold Zow;rw[Zb4 h.inv (by omega),Obs];refine(Qy7 h.inv (by omega) n).bind fun p hp=>(Zwb h.inv (by omega)).bind fun t _=>T.if (T.pure h) ((Xay h (by omega) n).bind fun x hx=> ?_);have hl:=hp.1;have lp: ∀(t:Ze) (N i:Nat) (x:Ze),p.1.2.1.length-i<N->i<=p.1.2.1.length->CQ K k w x->T (Zfu N t x p.1 (i:Int)) fun r=>CQ K k w r.1.1:=by
  intro t N
  induction N with
  |zero=>intro i x h;omega
  |succ N ih=>
   intro i x hN hi hx;unfold Zfu;refine T.ite (fun hc=> ?_) fun hc=>T.pure hx;have hc:=Ode hc;refine T.guard (by omega) ((Xcc hx (by omega) hw _).bind fun y hy=> ?_);rw[Zr (m:=p.1.2.1.length) (by omega) (by omega)];exact ih (i+1) _ (by omega) (by omega) hy
 exact lp _ _ 0 _ (by unfold Ziv;omega) (by omega) hx
theorem Xfs{K:Nat}{k w:Int}{c:Ze}(h:CQ K k w c)(hK:K<=400000)(hw:0<=w)(n:Int):T (Zqv c n) fun r=>CQ K k w r.1.1:=by
 unfold Zqv;rw[Zb4 h.inv (by omega),Obs];refine(Qy7 h.inv (by omega) n).bind fun p hp=>(Zwb h.inv (by omega)).bind fun t _=>T.if (T.pure h) ((Xay h (by omega) n).bind fun x hx=> ?_);have hl:=hp.1;have lp: ∀(t:Ze) (N i:Nat) (x:Ze),p.1.2.1.length-i<N->i<=p.1.2.1.length->CQ K k w x->T (Zg7 N t x p.1 (i:Int)) fun r=>CQ K k w r.1.1:=by
  intro t N
  induction N with
  |zero=>intro i x h;omega
  |succ N ih=>
   intro i x hN hi hx;unfold Zg7;refine T.ite (fun hc=> ?_) fun hc=>T.pure hx;have hc:=Ode hc;refine T.guard (by omega) ((Xdx hx (by omega) hw _).bind fun y hy=> ?_);rw[Zr (m:=p.1.2.1.length) (by omega) (by omega)];exact ih (i+1) _ (by omega) (by omega) hy
 exact lp _ _ 0 _ (by unfold Zjl;omega) (by omega) hx
theorem Xax(c:Qp)(hc:Jj c):T (Zq0 c) fun r=>Jj r.2.1/\r.1.1.2.1<=8/\r.1.1.2.2.1<=32/\r.1.1.2.2.2.1<=16/\r.1.1.2.2.2.2.1<=64/\r.1.1.2.2.2.2.2.1<=3/\r.1.1.2.2.2.2.2.2.1<=2:=by
 unfold Zq0;refine T.bind (Q:=fun r=>r.1=((16:Int),((8:Int),((32:Int),((16:Int),((64:Int),((2:Int),((2:Int),((4:Int),()))))))))) (T.pure rfl) fun t ht=>(Zc1 c _ hc).bind fun t1 h1=> ?_;rw[ht];exact T.if (T.pure ⟨h1.1,by simp⟩) (T.if (T.pure ⟨h1.1,by simp⟩) (T.pure ⟨h1.1,by simp⟩))
theorem Qur{n:Int}(h:n<=39):Pc (Zky n) fun r=>r.1.1<=39/\r.1.2.1=0:=by
 unfold Zky;exact Pc.skip fun t=>Pc.if (Pc.pure ⟨by decide,rfl⟩) (Pc.pure ⟨h,rfl⟩)
theorem Qup{n:Int}(h:n<=3):Pc (Zkx n) fun r=>r.1.1<=3/\r.1.2.2.1=0:=by
 unfold Zkx;exact Pc.skip fun t=>Pc.if (Pc.pure ⟨by decide,rfl⟩) (Pc.pure ⟨h,rfl⟩)
theorem Q7s(v:Bool){o p:Zq7}(ho:o.2.2.1<=64/\o.2.2.2.2.1<=64/\o.2.2.2.2.2.1<=3/\o.2.2.2.2.2.2.1<=3)(hp:p.2.1<=39/\p.2.2.2.1<=39/\p.2.2.2.2.2.1<=39/\p.2.2.2.2.2.2.1<=39):T (Znc v o p) fun r=>CQ 0 0 0 r.1:=by
 refine((Q7t v o p).pc ?_).mono fun r hr=>⟨hr.1,hr.2⟩
 unfold Znc;refine Pc.skip fun t=>Pc.skip fun t=>Pc.if (Pc.pure ⟨(fun s hs=>(by cases hs)),by decide,by decide,by decide,by decide,by decide,by decide,by decide,(fun s hs=>(by cases hs))⟩) ((Qrk hp.2.1).bind fun t1 h1=>(Qrm _ ho.2.1).bind fun t2 h2=>(Qur hp.2.2.1).bind fun t3 h3=>(Qur hp.2.2.2).bind fun t4 h4=>(Qup ho.2.2.1).bind fun t5 h5=>(Qup ho.2.2.2).bind fun t6 h6=>Pc.pure ⟨(fun s hs=>(by cases hs)),h1.1,?_,?_,⟨h3.1,h4.1⟩,⟨h2.1,?_⟩,⟨h5.1,h6.1⟩,⟨hp.1,ho.1⟩,(fun s hs=>(by cases hs))⟩)
 all_goals (have:=h2.2;have:=h3.2;have:=h4.2;have:=h5.2;have:=h6.2;simp only[List.length_nil];omega)
theorem Xfl{f:Zf}(h:FQ f)(hf:FOK f):T (Zes f) fun r=>FOK r.1/\FQ r.1:=by
 refine((Q7l f hf).pc ?_);have j2: ∀t x b,FQ x->Pc (Zcz f t x b) fun r=>FQ r.1:=fun t x b hx=>by
  unfold Zcz;exact Pc.if (Pc.pure ⟨hx.st,hx.code,h.lim⟩) (Pc.pure ⟨hx.st,hx.code,h.lim⟩)
 have j1: ∀t x,FQ x->Pc (Zcy f t x) fun r=>FQ r.1:=fun t x hx=>by
  unfold Zcy;exact Pc.if (Pc.pure ⟨hx.st,h.code,hx.lim⟩) (Pc.if (Pc.pure ⟨hx.st,h.code,hx.lim⟩) (Pc.if (Pc.pure ⟨hx.st,hx.code,hx.lim⟩) (Pc.if (j2 _ _ _ hx) (j2 _ _ _ hx))))
 unfold Zes;exact Pc.skip fun t=>Pc.if (j1 _ _ ⟨h.st,by simp,by simp⟩) (j1 _ _ ⟨by simp,by simp,by simp⟩)
theorem Q7k(c:Qp)(hc:Jj c):T (Zjy c) fun r=>Jj r.2.1/\FOK r.1.1/\FQ r.1.1:=by
 unfold Zjy;refine(Z5y c _ hc (by simp)).bind fun t1 h1=>(Zc1 _ _ h1.1).bind fun t2 h2=>(Zc1 _ _ h2.1).bind fun t3 h3=>(Q8j _ 6 h3.1 (by omega)).bind fun t4 h4=>(Z87 _ _ h4.1).bind fun t5 h5=>(Zc1 _ _ h5).bind fun t6 h6=>(Zc1 _ _ h6.1).bind fun t7 h7=>(Zc1 _ _ h7.1).bind fun t8 h8=>(Z87 _ _ h8.1).bind fun t9 h9=>
  (Xfl ⟨?_,?_,?_⟩ (by unfold FOK;simp only;omega)).bind fun t hf=>T.pure ⟨h9,hf.1,hf.2⟩
 ·have:=h2.2.1;have:=h2.2.2 (by omega);simp only;omega
 ·have:=h6.2.2 (by omega);simp only;omega
 ·have:=h7.2.2 (by omega);simp only;omega
def SQq(K:Nat)(k w:Int)(r: (Ze×Unit)×(Qp×Unit)):Prop:=Jj r.2.1/\CQ K k w r.1.1
theorem Xfd{K:Nat}{k w:Int}{x:Ze}(h:CQ K k w x)(h25:25<=K)(hK:K<=70000)(hk:k<=13)(hw:0<=w)(c:Qp)(hc:Jj c):T (Zuh c x) (SQq (K+2000) (k+1) (w+64)):=by
 have m:CQ (K+2000) (k+1) (w+64) x:=h.mono (by omega) (by omega) (by omega);have j3: ∀c t k' b,Jj c->T (Zkn c x t x k' b) (SQq (K+2000) (k+1) (w+64)):=fun c t k' b hc=>by
  unfold Zkn;simp only[Jk];refine T.if ((Zc1 c _ hc).bind fun t1 h1=>(Xec h (by omega) _).bind fun t2 h2=>T.pure ⟨h1.1,h2.mono (by omega) (by omega) (by omega)⟩) (T.if ((Q7k c hc).bind fun t1 h1=>(Xb7 h h1.2.1 h1.2.2 h25 (by omega) hw).bind fun t2 h2=>T.if (T.pure ⟨h1.1,h2.mono (by have:=h1.2.1;unfold FOK at this;omega) (Int.le_refl _) (Int.le_refl _)⟩) (T.pure ⟨h1.1,m⟩)) (T.if (T.ite (fun hp=>(Zc1 c _ hc).bind fun t1 h1=> ?_) fun _=>T.pure ⟨hc,m⟩) (T.pure ⟨hc,m⟩)));have hp:=Ode hp;exact T.guard ⟨h1.2.1,h1.2.2 (by omega)⟩ ((Z87 _ _ h1.1).bind fun t2 h2=>T.if ((Xek h (by omega) hw _).bind fun t3 h3=>T.pure ⟨h2,h3.mono (by omega) (by omega) (by omega)⟩) ((Xfs h (by omega) hw _).bind fun t3 h3=>T.pure ⟨h2,h3.mono (by omega) (by omega) (by omega)⟩))
 have j2: ∀c t i k' b,Jj c->T (Zkm c x t i x k' b) (SQq (K+2000) (k+1) (w+64)):=fun c t i k' b hc=>by
  unfold Zkm;simp only[Jk,Kz];refine T.if ((Q8j c 8 hc (by omega)).bind fun t1 h1=>(Xdt h _ _ (by omega) hw).bind fun t2 h2=>T.pure ⟨h1.1,h2.mono (by omega) (by omega) (by omega)⟩) (T.if ((Z87 c _ hc).bind fun t1 h1=>T.if ((Q9j h (by omega) hw _).bind fun t2 h2=>T.pure ⟨h1,h2.mono (by omega) (by omega) (by omega)⟩) (T.pure ⟨h1,m⟩))
   (T.if ((Zc1 c _ hc).bind fun t1 h1=>(Xe6 h (by omega) hw _ _).bind fun t2 h2=>T.pure ⟨h1.1,h2.mono (by omega) (by omega) (by omega)⟩) (T.if ((Z87 c _ hc).bind fun t1 h1=>T.if ((Zc1 _ _ h1).bind fun t2 h2=>(Xcr h (by omega) hw _ (by have:=h2.2.2 (by omega);omega)).bind fun t3 h3=>T.pure ⟨h2.1,h3.mono (by omega) (by omega) (by omega)⟩) ((Xc4 _ _ h1 (by simp)).bind fun t2 h2=>(Xf6 h (by omega) hw _ _ ?_).bind fun t3 h3=>T.pure ⟨h2.1,h3.mono (by omega) (by omega) (by omega)⟩)) (T.if (j3 _ _ _ _ hc) (j3 _ _ _ _ hc)))))
  have:=h2.2;simp only[List.mem_cons,List.mem_nil_iff,or_false]at this;rcases this with e|e|e<;>(rw[e];simp)
 have j1: ∀c t i,Jj c->T (Zkl c x t i) (SQq (K+2000) (k+1) (w+64)):=fun c t i hc=>by
  unfold Zkl;simp only[Jk,Kz];exact(Zc1 c _ hc).bind fun t1 h1=>T.if ((Z87 _ _ h1.1).bind fun t2 h2=>(Xev h (by omega) hk hw _).bind fun t3 h3=>T.pure ⟨h2,h3.mono (by omega) (by omega) (by omega)⟩) (T.if (j2 _ _ _ _ _ h1.1) (j2 _ _ _ _ _ h1.1))
 unfold Zuh;exact T.ite (fun hp=>(Zc1 c _ hc).bind fun t1 h1=>T.guard ⟨h1.2.1,h1.2.2 (by simpa using hp)⟩ (j1 _ _ _ h1.1)) fun _=>j1 _ _ _ hc
theorem Xd7(c:Qp)(hc:Jj c):T (Zue c) (SQq 30000 13 832):=by
 have lp: ∀(t:Ze) (N m:Nat) (c:Qp) (x:Ze) (K:Nat) (k:Int),m<N->25<=K->Jj c->CQ K k (64*k) x->K+2000*m<=30000->0<=k->k+m<=13->T (Zki N c t x (m:Int)) (SQq 30000 13 832):=by
  intro t N
  induction N with
  |zero=>intro m c x K k h;omega
  |succ N ih=>
   intro m c x K k hm h25 hc hx hK hk hkm;unfold Zki;refine T.ite (fun hd=> ?_) fun _=>T.pure ⟨hc,hx.mono (by omega) (by omega) (by omega)⟩;have hd:=Ode hd;refine(Xfd hx h25 (by omega) (by omega) (by omega) c hc).bind fun t1 h1=> ?_;rw[show IntKind.i64.wrap ((m:Int)-1)=((m-1:Nat):Int) by rw[Zv (by omega) (by omega)];omega];exact ih (m-1) _ _ (K+2000) (k+1) (by omega) (by omega) h1.1 (by have:=h1.2;rw[show 64* (k+1)=64*k+64 by omega];exact this) (by omega) (by omega) (by omega)
 unfold Zue;refine(Z87 c _ hc).bind fun t1 h1=>(Xax _ h1).bind fun t2 h2=>(Xax _ h2.1).bind fun t3 h3=>(Q7s _ ?_ ?_).bind fun x hx=>(Zc1 _ _ h3.1).bind fun t4 h4=> ?_
 ·have:=h2.2;omega
 ·have:=h3.2;omega
 have:=h4.2.2 (by omega);have h0:=h4.2.1;obtain⟨m,hm⟩:=Int.eq_ofNat_of_zero_le h0;have e:IntKind.i64.wrap (2+t4.1.1)=((m+2:Nat):Int):=by rw[Zv (by omega) (by omega)];omega
 rw[e];exact lp _ _ (m+2) _ _ 25 0 (by unfold Zmt;omega) (Nat.le_refl _) h4.1 (hx.mono (by omega) (Int.le_refl _) (by omega)) (by omega) (by omega) (by omega)
theorem Xbt(c:Qp)(hc:Jj c):T (Zpq c) (SQq 30000 13 832):=by
 unfold Zpq;exact(Xd7 c hc).bind fun t hx=>(Zc1 _ _ hx.1).bind fun t1 h1=>T.if ((Z5y _ _ h1.1 (by simp)).bind fun t2 h2=>T.pure ⟨h2.1,by exact⟨⟨hx.2.inv.str,hx.2.inv.pk⟩,⟨hx.2.q.str,hx.2.q.tl,hx.2.q.op,hx.2.q.ln,hx.2.q.ol,hx.2.q.iw,hx.2.q.al,hx.2.q.cf,hx.2.q.pn⟩⟩⟩) (T.if ((Z5y _ _ h1.1 (by simp)).bind fun t2 h2=>T.pure ⟨h2.1,by exact⟨⟨hx.2.inv.str,hx.2.inv.pk⟩,⟨hx.2.q.str,hx.2.q.tl,hx.2.q.op,hx.2.q.ln,hx.2.q.ol,hx.2.q.iw,hx.2.q.al,hx.2.q.cf,hx.2.q.pn⟩⟩⟩) (T.if ((Z5y _ _ h1.1 (by simp)).bind fun t2 h2=>T.pure ⟨h2.1,by exact⟨⟨hx.2.inv.str,hx.2.inv.pk⟩,⟨hx.2.q.str,hx.2.q.tl,hx.2.q.op,hx.2.q.ln,hx.2.q.ol,hx.2.q.iw,hx.2.q.al,hx.2.q.cf,hx.2.q.pn⟩⟩⟩) (T.if ((Z5y _ _ h1.1 (by simp)).bind fun t2 h2=>T.pure ⟨h2.1,by exact⟨⟨hx.2.inv.str,hx.2.inv.pk⟩,⟨hx.2.q.str,hx.2.q.tl,hx.2.q.op,hx.2.q.ln,hx.2.q.ol,hx.2.q.iw,hx.2.q.al,hx.2.q.cf,hx.2.q.pn⟩⟩⟩) (T.pure ⟨h1.1,hx.2⟩))))
open Classical in
noncomputable def ind(p:Prop):Int:=if p then 1 else 0
theorem Zra{p:Prop}(h:p):ind p=1:=if_pos h
theorem Zpi{p:Prop}(h: ¬p):ind p=0:=if_neg h
theorem Zuu(p:Prop):0<=ind p/\ind p<=1:=by
 by_cases h:p
 ·rw[Zra h];omega
 ·rw[Zpi h];omega
theorem Zz8{p q:Prop}(h:p↔q):ind p=ind q:=by
 by_cases hp:p
 ·rw[Zra hp,Zra (h.1 hp)]
 ·rw[Zpi hp,Zpi (fun hq=>hp (h.2 hq))]
def sm(f:Nat->Int):Nat->Int|0=>0|n+1=>sm f n+f n
theorem Zy1{f g:Nat->Int}: ∀{E:Nat},(∀n,n<E->f n=g n)->sm f E=sm g E
 |0,_=>rfl
 |E+1,h=>by simp only[sm];rw[Zy1 (E:=E) fun n hn=>h n (by omega),h E (by omega)]
theorem Qb0(f g:Nat->Int): ∀E:Nat,sm (fun n=>f n+g n) E=sm f E+sm g E
 |0=>rfl
 |E+1=>by simp only[sm];rw[Qb0 f g E];omega
theorem Qzp{f g:Nat->Int}: ∀{E:Nat},(∀n,n<E->f n<=g n)->sm f E<=sm g E
 |0,_=>Int.le_refl _
 |E+1,h=>by
  have:=Qzp (E:=E) (f:=f) (g:=g) fun n hn=>h n (by omega);have:=h E (by omega);simp only[sm];omega
theorem Q35{f g:Nat->Int}: ∀{E:Nat},(∀n,n<E->f n<=g n)->sm f E=sm g E-> ∀n,n<E->f n=g n
 |0,_,_,n,hn=>by omega
 |E+1,h,e,n,hn=>by
  have h1:=Qzp (E:=E) (f:=f) (g:=g) fun n hn=>h n (by omega);have h2:=h E (by omega);simp only[sm]at e;by_cases hE:n=E
  ·subst hE;omega
  ·exact Q35 (E:=E) (fun n hn=>h n (by omega)) (by omega) n (by omega)
theorem Qjt: ∀E:Nat,sm (fun _=>1) E=E
 |0=>rfl
 |E+1=>by simp only[sm];rw[Qjt E];omega
theorem Qsl{a b:Int}(ha:0<=a)(hb:a<=b): ∀E:Nat,sm (fun n=>ind (a<=(n:Int)/\(n:Int)<b)) E=max 0 (min b E-a)
 |0=>by simp only[sm];omega
 |E+1=>by
  simp only[sm];rw[Qsl ha hb E];by_cases h:a<=(E:Int)/\(E:Int)<b
  ·rw[Zra h];omega
  ·rw[Zpi h];omega
theorem Zz7(n:Int): ¬inR n []:=fun⟨x,hx,_⟩=>by cases hx
theorem Zg1{n:Int}{x:Zc}{l:List Zc}:inR n (x::l)↔(x.1<=n/\n<x.2.1)\/inR n l:=by
 constructor
 ·rintro⟨y,hy,h⟩;rcases List.mem_cons.1 hy with rfl|hy
  ·exact .inl h
  ·exact .inr ⟨y,hy,h⟩
 ·rintro(h| ⟨y,hy,h⟩)
  ·exact⟨x,List.mem_cons_self,h⟩
  ·exact⟨y,List.mem_cons_of_mem _ hy,h⟩
theorem Qc0{E:Nat}: ∀{l:List Zc} {lo:Int},rsB lo l=true-> -1<=lo->(∀x∈l,x.2.1<=(E:Int))->Vd l=sm (fun n=>ind (inR (n:Int) l)) E
 | [],lo,_,_,_=>by
  have:=Zy1 (E:=E) (f:=fun n=>ind (inR (n:Int) [])) (g:=fun _=>0) fun n _=>Zpi (Zz7 _);rw[this];have z: ∀E:Nat,sm (fun _=>0) E=0:=fun E=>by
   induction E with
   |zero=>rfl
   |succ E ih=>simp only[sm];omega
  rw[z];rfl
 |x::l,lo,h,hlo,hE=>by
  obtain⟨hf,h1,h2⟩:=Je.1 h;have hx:=Qs.1 hf;have hxE:=hE x List.mem_cons_self;have ih:=Qc0 (E:=E) h2 (by omega) fun y hy=>hE y (List.mem_cons_of_mem _ hy);have e:=Zy1 (E:=E) (f:=fun n=>ind (inR (n:Int) (x::l))) (g:=fun n=>ind (x.1<=(n:Int)/\(n:Int)<x.2.1)+ind (inR (n:Int) l)) fun n _=>by
   by_cases a:x.1<=(n:Int)/\(n:Int)<x.2.1
   ·have b: ¬inR (n:Int) l:=fun⟨y,hy,hh⟩=>by have:=(Zoq h2 y hy).1;omega
    simp only[Zra a,Zpi b,Zra (Zg1.2 (.inl a))];omega
   ·have:inR (n:Int) (x::l)↔inR (n:Int) l:=⟨fun h=>(Zg1.1 h).resolve_left a,fun h=>Zg1.2 (.inr h)⟩
    simp only[Zpi a,Zz8 this];omega
  rw[e,Qb0,<-ih,Qsl (by omega) (by omega)];simp only[Vd];omega
theorem Q3f{n:Int}: ∀{l:List Zc} {r:Zc},inR n (Zh3 l r)↔inR n l\/(r.1<=n/\n<r.2.1)
 |l,r=>⟨Qew,in_addR' l r⟩
where in_addR' {n:Int}: ∀(l:List Zc) (r:Zc),inR n l\/(r.1<=n/\n<r.2.1)->inR n (Zh3 l r)
 | [],r,h=>⟨r,by simp[Zh3],h.resolve_left (Zz7 n)⟩
 |x::l,r,h=>by
  unfold Zh3;split
  ·refine Zg1.2 ?_;rcases h with h|h
   ·rcases Zg1.1 h with h|h
    ·exact .inl h
    ·exact .inr (in_addR' l r (.inl h))
   ·exact .inr (in_addR' l r (.inr h))
  ·split
   ·exact Zg1.2 (h.symm)
   ·refine in_addR' l _ ?_;rcases h with h|h
    ·rcases Zg1.1 h with h|h
     ·exact .inr (by simp only;omega)
     ·exact .inl h
    ·exact .inr (by simp only;omega)
theorem Qn8{n:Int}{r:Zc}: ∀{l:List Zc},inR n (Zs0 r l)↔inR n l/\ ¬(r.1<=n/\n<r.2.1)
 | []=>⟨fun h=>absurd h (Zz7 n),fun h=>absurd h.1 (Zz7 n)⟩
 |x::l=>by
  have ih:=Qn8 (n:=n) (r:=r) (l:=l);have app: ∀{a b:List Zc},inR n (a++b)↔inR n a\/inR n b:=fun {a b}=>by
   constructor
   ·rintro⟨y,hy,h⟩;rcases List.mem_append.1 hy with hy|hy
    ·exact .inl ⟨y,hy,h⟩
    ·exact .inr ⟨y,hy,h⟩
   ·rintro(⟨y,hy,h⟩| ⟨y,hy,h⟩)
    ·exact⟨y,List.mem_append.2 (.inl hy),h⟩
    ·exact⟨y,List.mem_append.2 (.inr hy),h⟩
  have one: ∀{c:Prop} [Decidable c] {y:Zc},inR n (if c then[y]else[])↔c/\y.1<=n/\n<y.2.1:=fun {c} _ {y}=>by
   split
   ·rename_i hc;rw[Zg1];exact⟨fun h=>⟨hc,h.resolve_right (Zz7 n)⟩,fun h=> .inl h.2⟩
   ·rename_i hc;exact⟨fun h=>absurd h (Zz7 n),fun h=>absurd h.1 hc⟩
  unfold Zs0 Qx7;rw[app,app,one,one,ih,Zg1];simp only;constructor
  ·rintro((⟨_,h⟩| ⟨_,h⟩)|h)
   ·exact⟨.inl (by omega),by omega⟩
   ·exact⟨.inl (by omega),by omega⟩
   ·exact⟨.inr h.1,h.2⟩
  ·rintro⟨h|h,h2⟩
   ·by_cases hh:n<r.1
    ·exact .inl (.inl (by omega))
    ·exact .inl (.inr (by omega))
   ·exact .inr ⟨h,h2⟩
theorem Qia{E n:Int}: ∀{l a:List Zc},RL E a->(∀x∈l,Zdf x=true/\x.2.1<=E)->(inR n (Wk a l)↔inR n a\/inR n l)
 | [],a,_,_=>⟨.inl,fun h=>h.resolve_right (Zz7 n)⟩
 |x::l,a,ha,hl=>by
  have hx:=hl x List.mem_cons_self;have e:Q80 a x=Zh3 a x:=if_pos ⟨ha.1,hx.1⟩;have hr:RL E (Zh3 a x):=by have:=Zup ha hx.2;rw[if_pos ⟨ha.1,hx.1⟩]at this;exact this
  show inR n (Wk (Q80 a x) l)↔_;rw[e,Qia hr fun y hy=>hl y (List.mem_cons_of_mem _ hy),Q3f,Zg1,or_assoc]
theorem Q2e{E:Int}{l:List Zc}(h:RL E l): ∀x∈l,Zdf x=true/\x.2.1<=E:=fun x hx=>⟨(Zoq h.1 x hx).2,h.2 x hx⟩
def Xdv(s:Zo):Prop:= ∀n:Nat,(n:Int)<s.2.1.2.2.1->ind (inR (n:Int) s.2.2.1)+ind (inR (n:Int) s.2.2.2.1)+ind (inR (n:Int) s.2.2.2.2.1)=1
theorem Qke{K:Int}{s:Zo}(h:Kk K s):Zxo s (Wk (Wk s.2.2.1 s.2.2.2.1) s.2.2.2.2.1)=true↔Xdv s:=by
 obtain⟨E,hE⟩:=Int.eq_ofNat_of_zero_le h.e0;have hp:=h.pend;have hf:=h.flight;have ha:=h.acked
 unfold Zxo Xdv;rw[hE]at hp hf ha⊢;have r1:RL (E:Int) (Wk s.2.2.1 s.2.2.2.1):=Qgt hp hf.2;have r2:RL (E:Int) (Wk (Wk s.2.2.1 s.2.2.2.1) s.2.2.2.2.1):=Qgt r1 ha.2;have mem: ∀n:Int,inR n (Wk (Wk s.2.2.1 s.2.2.2.1) s.2.2.2.2.1)↔(inR n s.2.2.1\/inR n s.2.2.2.1)\/inR n s.2.2.2.2.1:=fun n=>by
  rw[Qia r1 (Q2e ha),Qia hp (Q2e hf)]
 have cp:=Qc0 (E:=E) hp.1 (by omega) hp.2;have cf:=Qc0 (E:=E) hf.1 (by omega) hf.2;have ca:=Qc0 (E:=E) ha.1 (by omega) ha.2;have cw:=Qc0 (E:=E) r2.1 (by omega) r2.2;simp only[Oba,beq_iff_eq];constructor
 ·rintro⟨e1,e2⟩ n hn;rw[cw,<-Qjt E]at e1;have a1:=Q35 (fun n _=>(Zuu _).2) e1 n (by omega);rw[cp,cf,ca,<-Qb0,<-Qb0,<-Qjt E]at e2;have a2:=Q35 (f:=fun _=>1) (g:=fun n:Nat=>ind (inR (n:Int) s.2.2.1)+ind (inR (n:Int) s.2.2.2.1)+ind (inR (n:Int) s.2.2.2.2.1)) (E:=E) (fun m hm=> ?_) e2.symm n (by omega)
  ·exact a2.symm
  ·have b:=Q35 (fun n _=>(Zuu _).2) e1 m hm;have i1:=Zuu (inR (m:Int) s.2.2.1);have i2:=Zuu (inR (m:Int) s.2.2.2.1);have i3:=Zuu (inR (m:Int) s.2.2.2.2.1);by_cases q:inR (m:Int) (Wk (Wk s.2.2.1 s.2.2.2.1) s.2.2.2.2.1)
   ·rcases(mem _).1 q with(q|q)|q
    ·rw[Zra q];omega
    ·rw[Zra q];omega
    ·rw[Zra q];omega
   ·rw[Zpi q]at b;omega
 ·intro hall;constructor
  ·rw[cw,<-Qjt E];refine Zy1 fun n hn=>Zra ((mem _).2 ?_);have:=hall n (by omega);by_cases a:inR (n:Int) s.2.2.1
   ·exact .inl (.inl a)
   ·by_cases b:inR (n:Int) s.2.2.2.1
    ·exact .inl (.inr b)
    ·by_cases d:inR (n:Int) s.2.2.2.2.1
     ·exact .inr d
     ·rw[Zpi a,Zpi b,Zpi d]at this;omega
  ·rw[cp,cf,ca,<-Qb0,<-Qb0];exact(Zy1 fun n hn=>hall n (by omega)).trans (Qjt E)
theorem Q20(a b:Zc):eqV (Zt) a b=true↔a=b:=by
 obtain⟨x,y,⟨⟩⟩:=a;obtain⟨z,w,⟨⟩⟩:=b;simp[eqV]
theorem Q9f{l:List Zc}{r:Zc}(h:eq1 (Zxt l r) r=true):rsB (-1) [r]=true/\ ∀n:Int,r.1<=n->n<r.2.1->inR n l:=by
 unfold eq1 at h;simp only[Oba,beq_iff_eq]at h;obtain⟨h1,h2⟩:=h;have e:=(Q20 _ _).1 h2;have hm:r∈Zxt l r:=by
  have:=Z2 (d:=Zw) (show 0< (Zxt l r).length by omega);rw[e]at this;exact this
 unfold Zxt at hm;split at hm
 ·rename_i hc;refine⟨hc.2,fun n hn hn2=> ?_⟩;simp only[List.mem_flatMap,List.mem_singleton,exists_eq_left]at hm;obtain⟨x,hx,hm⟩:=hm;unfold Zvs at hm;split at hm
  ·have e2:=List.mem_singleton.1 hm;have a:r.1=max x.1 r.1:=congrArg (·.1) e2;have b:r.2.1=min x.2.1 r.2.1:=congrArg (·.2.1) e2;exact⟨x,hx,by omega,by omega⟩
  ·cases hm
 ·cases hm
def stV(s:Zo):Int:=bif(s.2.2.2.2.2.2.1==(3:Int))&& (s.2.1.2.1==s.2.1.2.2.1)then 3 else bif decide (s.2.2.2.2.2.2.1>(1:Int))|| ((s.2.2.2.2.2.2.1==(1:Int))&& (s.1==(2:Int)))then 2 else bif decide (s.2.2.2.2.2.2.2.1>(0:Int))|| ((s.2.2.2.2.2.2.1==(1:Int))&& (s.1==(1:Int)))then 1 else 0
theorem Xbf(s:Zo):stF s=stV s:=by
 have e:=Qj8 s;have e2:J5 s=some (stV s,()):=by
  unfold J5 stV;cases (s.2.2.2.2.2.2.1==(3:Int))&& (s.2.1.2.1==s.2.1.2.2.1)
  ·cases decide (s.2.2.2.2.2.2.1>(1:Int))|| ((s.2.2.2.2.2.2.1==(1:Int))&& (s.1==(2:Int)))
   ·cases decide (s.2.2.2.2.2.2.2.1>(0:Int))|| ((s.2.2.2.2.2.2.1==(1:Int))&& (s.1==(1:Int)))<;>rfl
   ·rfl
  ·rfl
 rw[e2]at e;exact(congrArg (fun z=>z.1) (Option.some.inj e)).symm
theorem Q8e(z:Zo):stF (stF z,z.2)=stF z:=by
 rw[Xbf,Xbf z];unfold stV;simp only;by_cases hA: ((z.2.2.2.2.2.2.1==(3:Int))&& (z.2.1.2.1==z.2.1.2.2.1))=true
 ·rw[hA];rfl
 ·have hA: ((z.2.2.2.2.2.2.1==(3:Int))&& (z.2.1.2.1==z.2.1.2.2.1))=false:=by simpa using hA
  rw[hA];simp only[Ocf];by_cases hB: (decide (z.2.2.2.2.2.2.1>(1:Int))|| ((z.2.2.2.2.2.2.1==(1:Int))&& (z.1==(2:Int))))=true
  ·rw[hB];simp only[Oct,BEq.rfl,Bool.and_true];have: (decide (z.2.2.2.2.2.2.1>(1:Int))|| (z.2.2.2.2.2.2.1==(1:Int)))=true:=by
    simp only[Bool.or_eq_true,Oba]at hB⊢;rcases hB with h|h
    ·exact .inl h
    ·exact .inr h.1
   rw[this];rfl
  ·have hB: (decide (z.2.2.2.2.2.2.1>(1:Int))|| ((z.2.2.2.2.2.2.1==(1:Int))&& (z.1==(2:Int))))=false:=by simpa using hB
   rw[hB];simp only[Ocf];have h1:decide (z.2.2.2.2.2.2.1>(1:Int))=false:=(Bool.or_eq_false_iff.1 hB).1;by_cases hC: (decide (z.2.2.2.2.2.2.2.1>(0:Int))|| ((z.2.2.2.2.2.2.1==(1:Int))&& (z.1==(1:Int))))=true
   ·rw[hC,h1];simp only[Oct,Int.reduceBEq,Bool.and_false,Bool.or_self,Ocf,Bool.and_true];have: (decide (z.2.2.2.2.2.2.2.1>(0:Int))|| (z.2.2.2.2.2.2.1==(1:Int)))=true:=by
     simp only[Bool.or_eq_true,Oba]at hC⊢;rcases hC with h|h
     ·exact .inl h
     ·exact .inr h.1
    rw[this];rfl
   ·have hC: (decide (z.2.2.2.2.2.2.2.1>(0:Int))|| ((z.2.2.2.2.2.2.1==(1:Int))&& (z.1==(1:Int))))=false:=by simpa using hC
    have h2:decide (z.2.2.2.2.2.2.2.1>(0:Int))=false:=(Bool.or_eq_false_iff.1 hC).1;rw[hC,h1,h2];simp
theorem Xcx(s:Zo)(p:Z9): (spS s p).1=stF (spS s p):=by
 unfold spS;rw[Q8e]
theorem Qaf{S:Int}{l:List Zc}:hiB S l=true↔ ∀x∈l,x.2.1<=S:=by
 unfold hiB;simp
theorem Xgc{K:Int}{s:Zo}(h:Kk K s)(hK:K<=1000000){p:Z9}(ho:Zt8 s p=true): (p.2.1=[]->p.2.2.1=true)/\(p.2.2.1=true->s.2.2.2.2.2.2.1=1)/\(p.2.1≠[]->eq1 (Zxt s.2.2.1 (rgP p)) (rgP p)=true):=by
 unfold Zt8 spG at ho;simp only[Oba,Bool.or_eq_true,Bool.not_eq_true',Bool.and_eq_false_iff,bne_eq_false_iff_eq,beq_iff_eq,Bool.not_eq_false']at ho;obtain⟨⟨⟨-,a⟩,b⟩,c⟩:=ho;refine⟨fun hd=> ?_,fun hf=> ?_,fun hd=>c.resolve_left hd⟩
 ·rcases a with a|a
  ·rw[hd]at a;simp at a
  ·exact a
 ·rcases b with b|b
  ·rw[hf]at b;cases b
  ·exact b
theorem Q8b{K:Int}{s:Zo}(h:Kk K s)(hK:K<=1000000){p:Z9}(ho:Zt8 s p=true):Qxu (spS s p):=by
 have hx:=Qoj h hK p ho;obtain⟨F,f2,f3,f4,f5⟩:=spF h hK ho;obtain⟨b1,b2,b3⟩:=Xgc h hK ho;obtain⟨g1,g2,g3⟩:=Qxj s p;have N:=F.no (by omega);have hr:=Qj9 (spZ s p);have hs:=F.sent;have hst: ¬((spS s p).1=4\/(spS s p).1=5):=by unfold spS;simp only;omega
 have rg: (rgP p).2.1=p.1+ (p.2.1.length:Int):=f5;have hfin: (spS s p).2.2.2.2.2.2.1=(if p.2.2.1=true then 2 else s.2.2.2.2.2.2.1):=by
  unfold spS spZ;cases p.2.2.1
  ·exact Qxk s p
  ·rfl
 have hfl: (spS s p).2.2.2.2.2.1=s.2.2.2.2.2.1:=by
  unfold spS spZ spY;cases p.2.2.1<;>cases p.2.1==([]:List UInt8)<;>rfl
 have hac: (spS s p).2.2.2.2.1=s.2.2.2.2.1:=by
  unfold spS spZ spY;cases p.2.2.1<;>cases p.2.1==([]:List UInt8)<;>rfl
 have hpe: (spS s p).2.2.1=(if p.2.1=[]then s.2.2.1 else Q1q s.2.2.1 (rgP p))/\(spS s p).2.2.2.1=(if p.2.1=[]then s.2.2.2.1 else Q81 s.2.2.2.1 (rgP p)):=by
  unfold spS spZ spY;by_cases hd:p.2.1=[]
  ·rw[if_pos hd,if_pos hd,hd];cases p.2.2.1<;>exact⟨rfl,rfl⟩
  ·have: (p.2.1==([]:List UInt8))=false:=by simpa using hd
   rw[if_neg hd,if_neg hd,this];cases p.2.2.1<;>exact⟨rfl,rfl⟩
 have hsS:s.2.2.2.2.2.2.2.1<=(spS s p).2.2.2.2.2.2.2.1/\(spS s p).2.2.2.2.2.2.2.1<=s.2.1.2.2.1:=by
  rw[g3];split<;>omega
 have hF0:=F.fin;have hfine:p.2.1≠[]->Zdf (rgP p)=true:=fun hd=>by
  have hl:0<p.2.1.length:=List.length_pos_iff.2 hd;have:=(Q5n (by have:=h.cells;omega) F.ring).eM;exact Qs.2 (by rw[rg];simp only;omega)
 refine⟨by rw[g1];exact F.ring,hx.pend.1,hx.flight.1,hx.acked.1,by rw[g1];omega,by rw[g2];exact F.code,by rw[hfin];split<;>omega,fun hc=>absurd hc hst,fun _=> ?_⟩;refine⟨(Qke hx).2 ?_,by rw[hac,g1];exact N.gap,by rw[g2];exact N.code,?_,?_,?_,Xcx s p⟩
 ·have P:=(Qke h).1 N.whole;intro n hn;rw[g1]at hn;have pn:=P n hn;rw[hpe.1,hpe.2,hac];by_cases hd:p.2.1=[]
  ·rw[if_pos hd,if_pos hd];exact pn
  ·rw[if_neg hd,if_neg hd];have hrf:=hfine hd;have er:Q1q s.2.2.1 (rgP p)=Zs0 (rgP p) s.2.2.1:=if_pos ⟨h.pend.1,hrf⟩;have ea:Q81 s.2.2.2.1 (rgP p)=Zh3 s.2.2.2.1 (rgP p):=if_pos ⟨h.flight.1,hrf⟩;rw[er,ea,Zz8 Qn8,Zz8 Q3f];by_cases hin: (rgP p).1<=(n:Int)/\(n:Int)< (rgP p).2.1
   ·have hP:=(Q9f (b3 hd)).2 n hin.1 hin.2;have i1:=Zuu (inR (n:Int) s.2.2.2.1);have i2:=Zuu (inR (n:Int) s.2.2.2.2.1);rw[Zra hP]at pn;rw[Zpi (fun hh=>hh.2 hin),Zra (.inr hin)];omega
   ·have a1: (inR (n:Int) s.2.2.1/\ ¬((rgP p).1<=(n:Int)/\(n:Int)< (rgP p).2.1))↔inR (n:Int) s.2.2.1:=⟨fun hh=>hh.1,fun hh=>⟨hh,hin⟩⟩
    have a2: (inR (n:Int) s.2.2.2.1\/((rgP p).1<=(n:Int)/\(n:Int)< (rgP p).2.1))↔inR (n:Int) s.2.2.2.1:=⟨fun hh=>hh.resolve_right hin,.inl⟩
    rw[Zz8 a1,Zz8 a2];exact pn
 ·rw[hpe.2];have hfl2:=Qaf.1 N.fl;by_cases hd:p.2.1=[]
  ·rw[if_pos hd];exact Qaf.2 fun x hx=>by have:=hfl2 x hx;omega
  ·rw[if_neg hd,show Q81 s.2.2.2.1 (rgP p)=Zh3 s.2.2.2.1 (rgP p)from if_pos ⟨h.flight.1,hfine hd⟩];exact Qaf.2 (Z52 (fun x hx=>by have:=hfl2 x hx;omega) (by rw[g3,if_neg hd];omega))
 ·rw[hac];have hac2:=Qaf.1 N.ac;exact Qaf.2 fun x hx=>by have:=hac2 x hx;omega
 ·have hfn:=N.fin;unfold Qh4 at hfn⊢;rw[hfl,g1,hfin];by_cases hpf:p.2.2.1=true
  ·rw[if_pos hpf];rw[b2 hpf]at hfn;exact hfn
  ·rw[if_neg hpf];exact hfn
theorem Z0c{α β:Type}{g:α->β}{s d:α}: ∀{l:List α} {i:Nat},g s=g (l.getD i d)->(l.set i s).map g=l.map g
 | [],_,_=>rfl
 |x::l,0,h=>by
  rw[List.set_cons_zero,List.map_cons,List.map_cons,h];rfl
 |x::l,i+1,h=>by
  rw[List.set_cons_succ,List.map_cons,List.map_cons,Z0c (l:=l) (i:=i) h]
theorem Zy0{f:Zh->Int}{s:Zh}: ∀{l:List Zh} {i:Nat} {n:Int},f s=f (l.getD i Zn)->Zqs f (l.set i s) n=Zqs f l n
 | [],_,_,_=>rfl
 |x::l,0,n,h=>by
  have h:f s=f x:=h;rw[List.set_cons_zero];simp only[Zqs];rw[h]
 |x::l,i+1,n,h=>by
  rw[List.set_cons_succ];simp only[Zqs];exact Zy0 (l:=l) (i:=i) h
theorem Z5x{f:Zh->Int}{s:Zh}: ∀{l:List Zh} {i:Nat},i<l.length->Zhf f (l.set i s)=Zhf f l+f s-f (l.getD i Zn)
 | [],_,h=>absurd h (by simp)
 |x::l,0,_=>by
  rw[List.set_cons_zero];simp only[Zhf];rw[show(x::l).getD 0 Zn=x from rfl];omega
 |x::l,i+1,h=>by
  rw[List.set_cons_succ];simp only[Zhf];rw[Z5x (l:=l) (i:=i) (by simp at h;omega),show(x::l).getD (i+1) Zn=l.getD i Zn from rfl];omega
theorem Qgm{f:Zh->Int}: ∀{l:List Zh},(∀s∈l,0<=f s)->0<=Zhf f l/\ ∀s∈l,f s<=Zhf f l
 | [],_=>⟨Int.le_refl _,fun s hs=>by cases hs⟩
 |x::l,h=>by
  obtain⟨a,b⟩:=Qgm (l:=l) fun s hs=>h s (List.mem_cons_of_mem _ hs);have:=h x List.mem_cons_self;refine⟨by simp only[Zhf];omega,fun s hs=> ?_⟩;simp only[Zhf];rcases List.mem_cons.1 hs with rfl|hs
  ·omega
  ·have:=b s hs;omega
theorem Q8z.set{l:List Zh}(h:Q8z l){i:Nat}{s:Zh}(hs:stB s=true)(hi:s.1=(l.getD i Zn).1):Q8z (l.set i s):=by
 refine⟨fun x hx=> ?_,?_,by rw[List.length_set];exact h.len⟩
 ·rcases List.mem_or_eq_of_mem_set hx with h1|h1
  ·exact h.all x h1
  ·rw[h1];exact hs
 ·have e:=Z0c (g:=fun s:Zh=>s.1) (s:=s) (l:=l) (i:=i) hi;have:=List.pairwise_map.2 h.srt;exact List.pairwise_map.1 (by rw[e];exact this)
theorem Zhh.sent{K:Nat}{c:Ze}(hc:Zhh c)(h:Xx K c)(hK:K<=1000000):0<=Zhf Zpw c.2.2.2.1/\(∀s∈c.2.2.2.1,Zpw s<=Zhf Zpw c.2.2.2.1)/\Zhf Zpw c.2.2.2.1<=c.2.2.2.2.1.2.1:=by
 have b: ∀s∈c.2.2.2.1,0<=Zpw s/\Zpw s<=4611686018427387903:=fun s hs=>by
  have S:=(hc.st h hK hs).snd.sent;have:=(h.str.all s hs).snd.eK;unfold Zpw;omega
 obtain⟨g1,g2⟩:=Qgm fun s hs=>(b s hs).1;have t:=hc.tail;unfold Z5z at t;simp only[Oba,decide_eq_true_eq]at t;have e:=(Qxg (n:=0) b (Int.le_refl _) (by decide)).1;have u:=(Z3c.1 hc.tot)
 have u1:=u.lim;have u2:=u.use
 have t:=t.1.2;rw[e]at t;exact⟨g1,g2,by omega⟩
theorem Z07{w:Qt}(h:Q54 w)(now trip:Int):Q54 (rwV w now trip):=by
 unfold rwV;cases ho:Qbz w now trip
 ·exact h
 ·unfold Qbz at ho;simp only[Oba,Zg0]at ho;obtain⟨⟨hm,hn⟩,ht⟩:=ho;obtain⟨g1,g2,g3,g4,g5,g6,g7⟩:=h;have z:w.1<=rwZ w now trip/\rwZ w now trip<=w.2.1/\1<=rwZ w now trip:=by
   unfold rwZ;cases decide ((IntKind.i64.wrap (now-w.2.2.2.2.2.1))< (IntKind.i64.wrap ((2:Int)*trip)))
   ·simp only[Ocf];omega
   ·simp only[Oct];rw[Zv (by omega) (by omega)];omega
  unfold mrB at hm;simp only[Oba,decide_eq_true_eq]at hm;obtain⟨⟨-,hl⟩,hg⟩:=hm;have hq:w.2.2.1<=w.2.2.2.2.1+w.1:=g6;have e1:IntKind.i64.wrap (w.2.2.2.2.1+rwZ w now trip)=w.2.2.2.2.1+rwZ w now trip:=Zv (by omega) (by omega);unfold rwW;simp only[Oct];exact⟨g1,⟨z.2.2,z.2.1⟩,by simp only[e1];omega,by simp only[e1];omega,g5,by simp only[e1];omega,⟨by simp only;omega,hn.2⟩⟩
theorem Qpn{c:X7}(h:Qz6 c):Qz6 (clB c):=by
 unfold clB;cases Zsj c&& (c.2.2.1 !=(-1:Int))
 ·exact h
 ·obtain⟨h1,h2,h3,h4,h5,h6,h7⟩:=h;exact⟨h1,h2,h3,by simp,by simp only[Oct];omega,by simp only[Oct];omega,by simp only[Oct];omega⟩
theorem Quc{c:X7}(h:Qz6 c):Qz6 (nbB c):=by
 unfold nbB;cases (((Zsj c&& (c.2.1==c.1))&& (c.2.2.1==(-1:Int)))&& (c.2.2.2.1 !=c.1))
 ·exact h
 ·obtain⟨h1,h2,h3,h4,h5,h6,h7⟩:=h;exact⟨h1,h2,h3,by simp only[Oct];omega,by simp only[Oct];omega,h6,h7⟩
theorem Z88{a:Qr}(h:Q8v a):Q8v (raV a):=by
 unfold raV;cases ho:Qty a
 ·exact h
 ·unfold Qty maB at ho;simp only[Oba,Bool.not_eq_true',decide_eq_false_iff_not,decide_eq_true_eq]at ho;obtain⟨g1,g2,g3,g4,g5⟩:=h;have e:IntKind.i64.wrap (a.2.2.2.1+a.1)=a.2.2.2.1+a.1:=Zv (by omega) (by omega);have b:=ho.2;rw[e]at b;simp only[Oct];exact⟨g1,by simp only[e];omega,by simp only[e];omega,g4,by simp only[e];omega⟩
theorem Q6t{s:Zh}(h:StF s)(c:Ze)(k:Int):StF (Zh4 c s k):=by
 unfold Zh4;cases k==(4:Int)
 ·cases k==(5:Int)
  ·cases k==(17:Int)
   ·cases k==(21:Int)
    ·exact h
    ·exact⟨h.id,h.snd,Qpn h.cre,h.rcv,h.win,h.pr,h.code,h.can,by have:=h.su;have:=Qpf s.2.2.1;simp only[Oct,Ocf];omega,h.hs,h.tr,h.ts,h.sc,h.cs,h.cr⟩
   ·have e:=Qjr s.2.2.2.2.1 (Zw2 c) (Znv c);refine⟨h.id,h.snd,h.cre,h.rcv,?_,h.pr,h.code,h.can,h.su,?_,h.tr,h.ts,h.sc,h.cs,h.cr⟩
    ·simp only[Oct,Ocf];cases wcB s
     ·exact h.win
     ·exact Z07 h.win _ _
    ·have:=h.hs;simp only[Oct,Ocf];cases wcB s<;>(simp only[Oct,Ocf];omega)
  ·exact⟨h.id,h.snd,h.cre,h.rcv,h.win,h.pr,h.code,h.can,h.su,h.hs,h.tr,fun h=>Bool.noConfusion h,h.sc,h.cs,h.cr⟩
 ·exact⟨h.id,h.snd,h.cre,h.rcv,h.win,h.pr,h.code,h.can,h.su,h.hs,fun h=>Bool.noConfusion h,h.ts,h.sc,h.cs,h.cr⟩
theorem Zuj{c c':Ze}(h:Z5z c=true)(e1:c'.2.2.2.2.2.2.2.2.2.2.2.2.2.1=c.2.2.2.2.2.2.2.2.2.2.2.2.2.1\/inB c'.2.2.2.2.2.2.2.2.2.2.2.2.2.1 (-1) 4611686018427387903=true)(e2:c'.2.2.2.2.2.2.2.2.2.2.2.2.2.2=c.2.2.2.2.2.2.2.2.2.2.2.2.2.2)(e3:Zqs Zpw c'.2.2.2.1 0<=c'.2.2.2.2.1.2.1)(e4:Zqs Qna c'.2.2.2.1 0=Zqs Qna c.2.2.2.1 0)(e5:c'.2.2.2.2.2.1.2.2.2.1=c.2.2.2.2.2.1.2.2.2.1):Z5z c'=true:=by
 unfold Z5z at h⊢;simp only[Oba,decide_eq_true_eq]at h⊢;obtain⟨⟨⟨⟨⟨h1,h2⟩,h3⟩,h4⟩,h5⟩,h6⟩:=h;rw[e2,e4,e5];refine⟨⟨⟨⟨⟨?_,h2⟩,h3⟩,h4⟩,e3⟩,h6⟩;rcases e1 with e1|e1
 ·rw[e1];exact h1
 ·exact e1
theorem Qvh{c:Ze}(h:Z5z c=true):Zqs Zpw c.2.2.2.1 0<=c.2.2.2.2.1.2.1:=by
 unfold Z5z at h;simp only[Oba,decide_eq_true_eq]at h;exact h.1.2
theorem Q90{K:Nat}{c:Ze}(h:Xx K c)(hK:K<=1000000)(hc:Zhh c)(f:Zf):Zhh (mkC c f):=by
 have hl:=h.str.len;have ts:=Qvh hc.tail;have e1:=Qjr c.2.2.2.2.2.1 (Zw2 c) (Znv c);have e4:=Qpf c.2.2.2.2.1;unfold mkC;cases f.1==(16:Int)
 ·cases f.1==(18:Int)
  ·cases f.1==(20:Int)
   ·cases f.1==(22:Int)
    ·simp only[Ocf];by_cases hi:0<=Qx c.2.2.2.1 f.2.1
     ·have h1:=(Zo5 (l:=c.2.2.2.1) (by omega) f.2.1).1;have hm:=Z2 (d:=Zn) (show(Qx c.2.2.2.1 f.2.1).toNat<c.2.2.2.1.length by omega);have hs:stB (Zh4 c (atS c f.2.1) f.1)=true:=(Q8h (Qx8 (h.str.all _ hm) c f.1) hK).2 (Q6t (hc.st h hK hm) c f.1);have q1:Zqs Zpw (c.2.2.2.1.set (Qx c.2.2.2.1 f.2.1).toNat (Zh4 c (atS c f.2.1) f.1)) 0=Zqs Zpw c.2.2.2.1 0:=Zy0 (by unfold Zpw;rw[Z3e]);have q2:Zqs Qna (c.2.2.2.1.set (Qx c.2.2.2.1 f.2.1).toNat (Zh4 c (atS c f.2.1) f.1)) 0=Zqs Qna c.2.2.2.1 0:=Zy0 (by unfold Qna;rw[Qpq]);rw[if_pos hi];exact⟨hc.own,hc.peer,Qgl.2 ((Qgl.1 hc.sts).set hs (Qn5 _ _ _)),hc.tot,hc.inf,hc.ob,hc.ou,hc.ab,hc.au,hc.pks,Zuj hc.tail (.inl rfl) rfl (by simp only;rw[q1];exact ts) (by simp only;rw[q2]) rfl⟩
     ·rw[if_neg hi];exact hc
    ·have b1:=Q0h.1 hc.ob;have b2:=Q0h.1 hc.ou;cases f.2.2.2.2.2.2.2.2.1
     ·exact⟨hc.own,hc.peer,hc.sts,hc.tot,hc.inf,Q0h.2 (by simp only[Oct,Ocf];omega),hc.ou,hc.ab,hc.au,hc.pks,Zuj hc.tail (.inl rfl) rfl ts rfl rfl⟩
     ·exact⟨hc.own,hc.peer,hc.sts,hc.tot,hc.inf,hc.ob,Q0h.2 (by simp only[Oct,Ocf];omega),hc.ab,hc.au,hc.pks,Zuj hc.tail (.inl rfl) rfl ts rfl rfl⟩
   ·exact⟨hc.own,hc.peer,hc.sts,Z3c.2 (Qpn (Z3c.1 hc.tot)),hc.inf,hc.ob,hc.ou,hc.ab,hc.au,hc.pks,Zuj hc.tail (.inl rfl) rfl (by simp only[Oct,Ocf];rw[e4.2];exact ts) rfl rfl⟩
  ·cases f.2.2.2.2.2.2.2.2.1
   ·exact⟨hc.own,hc.peer,hc.sts,hc.tot,hc.inf,hc.ob,hc.ou,Q0a.2 (Z88 (Q0a.1 hc.ab)),hc.au,hc.pks,Zuj hc.tail (.inl rfl) rfl ts rfl rfl⟩
   ·exact⟨hc.own,hc.peer,hc.sts,hc.tot,hc.inf,hc.ob,hc.ou,hc.ab,Q0a.2 (Z88 (Q0a.1 hc.au)),hc.pks,Zuj hc.tail (.inl rfl) rfl ts rfl rfl⟩
 ·exact⟨hc.own,hc.peer,hc.sts,hc.tot,Q8p.2 (Z07 (Q8p.1 hc.inf) _ _),hc.ob,hc.ou,hc.ab,hc.au,hc.pks,Zuj hc.tail (.inl rfl) rfl ts rfl e1.2.2⟩
theorem Q3q{K:Nat}{c:Ze}(h:Xx K c)(hK:K<=1000000)(hc:Zhh c)(f:Zf):Zhh (mkV c f):=by
 unfold mkV;cases Zc3 c
 ·exact hc
 ·exact Q90 h hK hc f
theorem Q2k{K:Nat}{c:Ze}(h:Xx K c)(hK:K<=1000000)(hc:Zhh c){id:Int}(hi:0<=Qx c.2.2.2.1 id):Zhh (blC c id):=by
 have hl:=h.str.len;have ts:=Qvh hc.tail;have h1:=(Zo5 (l:=c.2.2.2.1) (by omega) id).1;have hm:=Z2 (d:=Zn) (show(Qx c.2.2.2.1 id).toNat<c.2.2.2.1.length by omega);have S:StF (atS c id):=hc.st h hK hm;have I:Vy K (atS c id):=h.str.all _ hm;have e:=Qij (atS c id).2.2.1;have e2:=Qij c.2.2.2.2.1;have S2:StF ((atS c id).1,((atS c id).2.1,(nbB (atS c id).2.2.1,(atS c id).2.2.2))):=⟨S.id,S.snd,Quc S.cre,S.rcv,S.win,S.pr,S.code,S.can,by have:=S.su;simp only;omega,S.hs,S.tr,S.ts,S.sc,S.cs,S.cr⟩
 have hs:=(Q8h (K:=K) (by exact⟨I.snd,I.rcv⟩) hK).2 S2;have q1:Zqs Zpw (c.2.2.2.1.set (Qx c.2.2.2.1 id).toNat ((atS c id).1,((atS c id).2.1,(nbB (atS c id).2.2.1,(atS c id).2.2.2)))) 0=Zqs Zpw c.2.2.2.1 0:=Zy0 rfl;have q2:Zqs Qna (c.2.2.2.1.set (Qx c.2.2.2.1 id).toNat ((atS c id).1,((atS c id).2.1,(nbB (atS c id).2.2.1,(atS c id).2.2.2)))) 0=Zqs Qna c.2.2.2.1 0:=Zy0 rfl;exact⟨hc.own,hc.peer,Qgl.2 ((Qgl.1 hc.sts).set hs rfl),Z3c.2 (Quc (Z3c.1 hc.tot)),hc.inf,hc.ob,hc.ou,hc.ab,hc.au,hc.pks,Zuj hc.tail (.inl rfl) rfl (by unfold blC;simp only;rw[q1,e2.2];exact ts) (by unfold blC;simp only;rw[q2]) rfl⟩
theorem Q3r{K:Nat}{c:Ze}(h:Xx K c)(hK:K<=1000000){id:Int}{p:Z9}(ho:Zn4 c id p=true):Zhh (mpC c id p):=by
 have hl:=h.str.len;obtain⟨hi,hcb,hsp,en,n0,e1,e2,n1,n2⟩:=mpF h hK ho;have hc:=(Z3b h hK).1 hcb;obtain⟨h1,-,h3⟩:=Zo5 (l:=c.2.2.2.1) (by omega) id;have hm:=Z2 (d:=Zn) (show(Qx c.2.2.2.1 id).toNat<c.2.2.2.1.length by omega);have S:StF (atS c id):=hc.st h hK hm;have I:Vy K (atS c id):=h.str.all _ hm;obtain⟨F,f2,-,-,-⟩:=spF I.snd (by omega) hsp;have hcs: (atS c id).2.2.2.2.2.2.1=true:=by
  unfold Zn4 at ho;simp only[Oba]at ho;exact ho.1.2
 obtain⟨c1,c2,c3,c4,c5,c6,c7⟩:=S.cre;obtain⟨t1,t2,t3,t4,t5,t6,t7⟩:=Z3c.1 hc.tot;have S2:StF ((atS c id).1,(spS (atS c id).2.1 p,(ucC (atS c id).2.2.1 (Zga c id p),(atS c id).2.2.2))):=by
  rw[e1];exact⟨S.id,Q8b I.snd (by omega) hsp,⟨c1,by simp only;omega,by simp only;omega,c4,c5,c6,c7⟩,S.rcv,S.win,S.pr,S.code,S.can,by have:=S.su;simp only;omega,S.hs,fun h=>(by have:=S.tr h;omega),S.ts,S.sc,.inl hcs,S.cr⟩
 have I2:Vy K ((atS c id).1,(spS (atS c id).2.1 p,(ucC (atS c id).2.2.1 (Zga c id p),(atS c id).2.2.2))):=⟨Qoj I.snd (by omega) p hsp,I.rcv⟩
 have hs:=(Q8h I2 hK).2 S2;have q2:Zqs Qna (c.2.2.2.1.set (Qx c.2.2.2.1 id).toNat ((atS c id).1,(spS (atS c id).2.1 p,(ucC (atS c id).2.2.1 (Zga c id p),(atS c id).2.2.2)))) 0=Zqs Qna c.2.2.2.1 0:=Zy0 rfl;have hsts:=(Qgl.1 hc.sts).set (i:=(Qx c.2.2.2.1 id).toNat) hs rfl;obtain⟨u1,u2,u3⟩:=hc.sent h hK;have hinv:=Qav h hK ho;have b: ∀s∈(mpC c id p).2.2.2.1,0<=Zpw s/\Zpw s<=4611686018427387903:=fun s hs2=>by
  have hI:=hinv.str.all s hs2;have:=((Q8h hI hK).1 (hsts.all s hs2)).snd.sent;have:=hI.snd.eK;unfold Zpw;omega
 have q1:=(Qxg (n:=0) b (Int.le_refl _) (by decide)).1;have q3:=Z5x (f:=Zpw) (s:=((atS c id).1,(spS (atS c id).2.1 p,(ucC (atS c id).2.2.1 (Zga c id p),(atS c id).2.2.2)))) (show(Qx c.2.2.2.1 id).toNat<c.2.2.2.1.length by omega);have hid:=S.id;rw[show(atS c id).1=id from h3 hi]at hid;refine⟨hc.own,hc.peer,Qgl.2 hsts,?_,hc.inf,hc.ob,hc.ou,hc.ab,hc.au,hc.pks,Zuj hc.tail (.inr (Zg0.2 (by unfold mpC;simp only;omega))) rfl ?_ (by unfold mpC;simp only;rw[q2]) rfl⟩
 ·unfold mpC;simp only;rw[e2];exact Z3c.2 ⟨t1,by simp only;omega,by simp only;omega,t4,t5,t6,t7⟩
 ·rw[q1];have q4:Zhf Zpw (mpC c id p).2.2.2.1=Zhf Zpw c.2.2.2.1+Zga c id p:=by
   have r1:Zpw ((atS c id).1,(spS (atS c id).2.1 p,(ucC (atS c id).2.2.1 (Zga c id p),(atS c id).2.2.2)))=(spS (atS c id).2.1 p).2.2.2.2.2.2.2.1:=rfl;have r2:Zpw (c.2.2.2.1.getD (Qx c.2.2.2.1 id).toNat Zn)=(atS c id).2.1.2.2.2.2.2.2.2.1:=rfl;refine Eq.trans q3 ?_;rw[r1,r2,en];omega
  have q5: (mpC c id p).2.2.2.2.1.2.1=c.2.2.2.2.1.2.1+Zga c id p:=by unfold mpC;simp only;rw[e2]
  rw[q4,q5];omega
noncomputable def Qt3(c:Ze)(i:Int):Int:=(atS c i).2.2.2.2.2.1.1
noncomputable def uB(c:Ze):Int->List Int->Bool|_,[]=>true|m,i::r=>(decide (0<=Qx c.2.2.2.1 i)&& !decide (Qt3 c i<m))&&uB c (Qt3 c i) r
theorem uS{K:Nat}{c:Ze}(h:Xx K c)(hK:K<=1000000)(l:List Zf)(hl:l.length<=1000000):Zjr c l=some (uB c (-9223372036854775808) (Zgv l),()):=by
 have lp: ∀(N i:Nat) (m:Int),l.length-i<N->i<=l.length->Qk N l c m (i:Int)=some (uB c m (Zgv (l.drop i)),()):=by
  intro N
  induction N with
  |zero=>intro i m h;omega
  |succ N ih=>
   intro i m hN hi;unfold Qk;simp only[Jk,Kz];by_cases hh:i<l.length
   ·rw[Zp (Zm (by omega)),Zb (by omega),show(i:Int).toNat=i from rfl,Xj (d:=Qq) hh];have j1: ∀m,Zba (fun v=>Qk N v.1 v.2.1 v.2.2.1 v.2.2.2.1) l c m (i:Int)=some (uB c m (Zgv (l.drop (i+1))),()):=fun m=>by
     unfold Zba;simp only;rw[Zr hh (by omega)];exact ih (i+1) m (by omega) (by omega)
    by_cases h8: (l.getD i Qq).1=8
    ·have e: ((l.getD i Qq).1 !=8)=false:=by simpa using h8
     rw[Zl e,Zb (by omega),Zun h hK,Obs];unfold Xd;simp only[Zgv,h8,if_true,uB];by_cases hx:0<=Qx c.2.2.2.1 (l.getD i Qq).2.1
     ·rw[if_pos hx,Zm hx];simp only[Ont,Bool.false_or,Ota];rw[j1];unfold Qt3;cases decide ((c.2.2.2.1.getD (Qx c.2.2.2.1 (l.getD i Qq).2.1).toNat Zn).2.2.2.2.2.1.1<m)<;>rfl
     ·rw[if_neg hx,Zj hx];simp
    ·have e: ((l.getD i Qq).1 !=8)=true:=by simpa using h8
     rw[Zp e,j1];simp only[Zgv,h8,if_false]
   ·rw[Zl (Zj (by omega)),List.drop_eq_nil_of_le (by omega)];rfl
 unfold Zjr;exact lp _ 0 _ (by unfold Zft;omega) (by omega)
theorem uI{K:Nat}{k w:Int}{c:Ze}(h:CQ K k w c)(hK:K<=1000000)(l:List Zf)(hl:l.length<=1000000):Zfe c l=some (uB c (-9223372036854775808) (Zgv l),()):=by
 have hcl:=h.inv.str.len;have sof: ∀n,Zr4 c n=some (if 0<=Qx c.2.2.2.1 n then(c.2.2.2.1.getD (Qx c.2.2.2.1 n).toNat Zn,true,())else(Zn,false,())):=fun n=>by
  obtain⟨h1,-,-⟩:=Zo5 (l:=c.2.2.2.1) (by omega) n;unfold Zr4;rw[Qyi (by omega),Qwf (by omega),Obs];by_cases hi:0<=Qx c.2.2.2.1 n
  ·rw[Zl (Zj (by omega)),Zb (by omega),if_pos hi,Qku (h.inv.str.all _ (Z2 (d:=Zn) (by omega))) hK];rfl
  ·rw[Zp (Zm (by omega)),if_neg hi]
 have hfl:=Zx0 l;have lp: ∀(N i:Nat) (b:Bool) (m m2:Int),(Zgv l).length-i<N->i<=(Zgv l).length->((b=true/\m2= -9223372036854775808)\/(b=false/\m2=m))->Za2 N c b m (Zgv l) ((Zgv l).length:Int) (i:Int)=some (uB c m2 ((Zgv l).drop i),()):=by
  intro N
  induction N with
  |zero=>intro i b m m2 h;omega
  |succ N ih=>
   intro i b m m2 hN hi hb;unfold Za2;by_cases hh:i< (Zgv l).length
   ·rw[Zp (Zm (by omega)),Zb (by omega),show(i:Int).toNat=i from rfl,Xj (d:=0) hh,sof,Obs,Zr hh (by omega)];simp only[uB];generalize (Zgv l).getD i 0=n;by_cases hx:0<=Qx c.2.2.2.1 n
    ·have hm:=h.q.str _ (Z2 (d:=Zn) (show(Qx c.2.2.2.1 n).toNat<c.2.2.2.1.length by have:=(Zo5 (l:=c.2.2.2.1) (by omega) n).1;omega));have hp:=hm.pr;have eu: (c.2.2.2.1.getD (Qx c.2.2.2.1 n).toNat Zn).2.2.2.2.2.1.1=Qt3 c n:=rfl;rw[eu]at hp;rw[if_pos hx,Zm hx];simp only[Ont,Bool.false_or,Ota,eu];have e: ((!b)&&decide (Qt3 c n<m))=decide (Qt3 c n<m2):=by
      rcases hb with⟨hb,hm2⟩| ⟨hb,hm2⟩
      ·rw[hb,hm2,Zj (p:=_< (-9223372036854775808:Int)) (by omega)];rfl
      ·rw[hb,hm2];rfl
     rw[e,ih (i+1) false _ (Qt3 c n) (by omega) (by omega) (.inr ⟨rfl,rfl⟩)];cases decide (Qt3 c n<m2)<;>rfl
    ·rw[if_neg hx,Zj hx];simp
   ·rw[Zl (Zj (by omega)),List.drop_eq_nil_of_le (by omega)];rfl
 unfold Zfe;rw[(Qrz l (by omega)).2,Obs];exact lp _ 0 true 0 _ (by unfold Zff;dsimp only;omega) (by omega) (.inl ⟨rfl,rfl⟩)
def prL(l:List Zh):List (Int×Int):=l.map fun s=>(s.1,s.2.2.2.2.2.1.1)
theorem Xc3{c:Ze}(hc:Zhh c)(hl:c.2.2.2.1.length<=1000000){s:Zh}(hs:s∈c.2.2.2.1):0<=Qx c.2.2.2.1 s.1/\atS c s.1=s:=by
 have h0:=Q3d hl ⟨s,hs,rfl⟩;obtain⟨h1,-,h3⟩:=Zo5 (l:=c.2.2.2.1) hl s.1;exact⟨h0,Z6l (Qgl.1 hc.sts).srt (Z2 (d:=Zn) (by omega)) hs (h3 h0)⟩
theorem Xe2{c e:Ze}(hc:Zhh c)(he:Zhh e)(hl:c.2.2.2.1.length<=1000000)(hl2:e.2.2.2.1.length<=1000000)(h:prL c.2.2.2.1=prL e.2.2.2.1){s:Zh}(hs:s∈c.2.2.2.1):0<=Qx e.2.2.2.1 s.1/\Qt3 e s.1=s.2.2.2.2.2.1.1:=by
 have hm: (s.1,s.2.2.2.2.2.1.1)∈prL e.2.2.2.1:=by
  rw[<-h];exact List.mem_map_of_mem hs
 obtain⟨t,ht,e1⟩:=List.mem_map.1 hm;have a:t.1=s.1:=congrArg (·.1) e1;have b:t.2.2.2.2.2.1.1=s.2.2.2.2.2.1.1:=congrArg (·.2) e1;obtain⟨g1,g2⟩:=Xc3 he hl2 ht;rw[a]at g1 g2;exact⟨g1,by unfold Qt3;rw[g2];exact b⟩
theorem Qy3{l:List Zk}{last:Int}(h:0<=Wg l last): ∃y∈l,y.1=Wg l last/\ ∀z∈l,y.2.1.1<=z.2.1.1:=by
 obtain⟨-,y,hy,e⟩:=Qrn h;obtain⟨h1,h2⟩:=List.mem_filter.1 hy;have h2:y.2.1.1=lst 7 l:=by unfold isU at h2;exact eq_of_beq h2
 exact⟨y,h1,e,fun z hz=>by rw[h2];exact(Q1a 7 l 7).2 z hz⟩
theorem Qxh{l:List Zh}{i:Nat}{s:Zh}(h1:s.1=(l.getD i Zn).1)(h2:s.2.2.2.2.2.1.1=(l.getD i Zn).2.2.2.2.2.1.1):prL (l.set i s)=prL l:=Z0c (by rw[h1,h2])
theorem Xap{l:List Zh}{i:Nat}{s:Zh}{z:Zk}(h:z∈((l.set i s).filter Zxn).map Zpg):z∈(l.filter Zxn).map Zpg\/z=Zpg s:=by
 obtain⟨t,ht,e⟩:=List.mem_map.1 h;obtain⟨h1,h2⟩:=List.mem_filter.1 ht;rcases List.mem_or_eq_of_mem_set h1 with h3|h3
 ·exact .inl (List.mem_map.2 ⟨t,List.mem_filter.2 ⟨h3,h2⟩,e⟩)
 ·exact .inr (by rw[<-e,h3])
theorem Q0u{K:Nat}(hK:K<=1000000){e:Ze}(he:Zhh e)(hle:e.2.2.2.1.length<=1000000): ∀(n:Nat) (c:Ze) (fr:List Zf) (room:Int) (sk:List Int) (m:Int),Xx K c->Zhh c->prL c.2.2.2.1=prL e.2.2.2.1->(∀y∈Zhg c sk,m<=y.2.1.1)->
  ∃new,(Zem n c fr room sk).1=fr++new/\(∀f∈new,f.1=8)/\uB e m (Zgv new)=true
 |0,c,fr,_,_,_,_,_,_,_=>⟨[],by simp[Zem],fun f hf=>(by cases hf),rfl⟩
 |n+1,c,fr,room,sk,m,hi,hc,hp,hm=>by
  have hl:=hi.str.len;unfold Zem;split
  ·exact⟨[],by simp,fun f hf=>(by cases hf),rfl⟩
  ·rename_i hn;have hidx:=Zyj (c:=c) (by omega) (sk:=sk) (last:=Zcd c) (by omega);obtain⟨y,hy,ey,hmin⟩:=Qy3 (l:=Zhg c sk) (last:=Zcd c) (by omega);generalize Wg (Zhg c sk) (Zcd c)=id at*
   obtain⟨h1,-,h3⟩:=Zo5 (l:=c.2.2.2.1) (by omega) id;have hmem:atS c id∈c.2.2.2.1:=Z2 (d:=Zn) (by omega);have hid: (atS c id).1=id:=h3 hidx;obtain⟨⟨s,hs,-,es⟩,hnk⟩:=Qor hy;have hsy:s.1=id:=by rw[<-ey,es]
   have hst:atS c id=s:=Z6l (Qgl.1 hc.sts).srt hmem hs (by rw[hid,hsy]);have hu:y.2.1.1=(atS c id).2.2.2.2.2.1.1:=by rw[es,hst]
   have key: ∀(s':Zh) (sk':List Int),s'.1=(atS c id).1->s'.2.2.2.2.2.1.1=(atS c id).2.2.2.2.2.1.1->(∀z,Zil sk' z=true->Zil sk z=true)-> ∀z,z∈(((c.2.2.2.1.set (Qx c.2.2.2.1 id).toNat s').filter Zxn).map Zpg).filter (Zil sk')->y.2.1.1<=z.2.1.1:=fun s' sk' a1 a2 a3 z hz=>by
    obtain⟨b1,b2⟩:=List.mem_filter.1 hz;rcases Xap b1 with b|b
    ·exact hmin z (List.mem_filter.2 ⟨b,a3 z b2⟩)
    ·rw[b,hu,<-a2];exact Int.le_refl _
   cases hpc: (pcR c id room).2.1
   ·rw[Ocf];refine Q0u hK he hle n (blC c id) fr room (sk++ [id]) m (Qg0 hi hK hidx).2 (Q2k hi hK hc hidx) ?_ fun z hz=> ?_
    ·rw[<-hp];exact Qxh rfl rfl
    ·have:=key ((atS c id).1,((atS c id).2.1,(nbB (atS c id).2.2.1,(atS c id).2.2.2))) (sk++ [id]) rfl rfl (fun z hz=>by unfold Zil at hz⊢;rw[List.all_append,Oba]at hz;exact hz.1) z hz;have:=hm y hy;omega
   ·rw[Oct];cases hmo:Zn4 c id (pcR c id room).1
    ·exact⟨[],by simp,fun f hf=>(by cases hf),rfl⟩
    ·rw[Oct];obtain⟨new,n1,n2,n3⟩:=Q0u hK he hle n (mpC c id (pcR c id room).1) (fr++ [pfF id (pcR c id room).1]) (IntKind.i64.wrap (room-fsz (pfF id (pcR c id room).1))) sk y.2.1.1 (Qav hi hK hmo) (Q3r hi hK hmo) (by rw[<-hp];exact Qxh rfl rfl) fun z hz=>key ((atS c id).1,(spS (atS c id).2.1 (pcR c id room).1,(ucC (atS c id).2.2.1 (Zga c id (pcR c id room).1),(atS c id).2.2.2))) sk rfl rfl (fun z hz=>hz) z hz;refine⟨pfF id (pcR c id room).1::new,by rw[n1];simp,fun f hf=> ?_,?_⟩
     ·rcases List.mem_cons.1 hf with hf|hf
      ·rw[hf]
      ·exact n2 f hf
     ·have hx:=Xe2 hc he (by omega) hle hp hmem;rw[hid]at hx;have:=hm y hy;have e8:Zgv (pfF id (pcR c id room).1::new)=id::Zgv new:=by simp[Zgv]
      rw[e8,uB,Zm hx.1,hx.2,<-hu,Zj (by omega),n3];rfl
theorem Q01{n:Int}: ∀{l:List Zc} {f:Int},f<=n->n<Zx2 l f->inR n l
 | [],f,h1,h2=>by simp only[Zx2]at h2;omega
 |x::l,f,h1,h2=>by
  simp only[Zx2]at h2;by_cases hx:x.1<=f/\f<x.2.1
  ·rw[if_pos hx]at h2;by_cases hn:n<x.2.1
   ·exact Zg1.2 (.inl (by omega))
   ·exact Zg1.2 (.inr (Q01 (by omega) h2))
  ·rw[if_neg hx]at h2;exact Zg1.2 (.inr (Q01 h1 h2))
theorem Q1l{K:Int}{s:Zo}(h:Kk K s)(hp:s.2.2.1≠[]){n:Int}(hn:inR n s.2.2.1): (Kb s).1<=n:=by
 have hr:=h.pend.1;cases e:s.2.2.1 with
 |nil=>exact absurd e hp
 |cons x l=>
  have e0:Kb s=x:=by show s.2.2.1.getD 0 Zw=x;rw[e];rfl
  rw[e0];rw[e]at hr hn;obtain⟨hf,-,h2⟩:=Je.1 hr;have:=Qs.1 hf;rcases Zg1.1 hn with hh| ⟨y,hy,hh⟩
  ·exact hh.1
  ·have:=(Zoq h2 y hy).1;omega
theorem Qw3{s:Zo}(hp:s.2.2.1≠[]){n:Int}(h1: (Kb s).1<=n)(h2:n< (Kb s).2.1):inR n s.2.2.1:=⟨Kb s,Z2 (d:=Zw) (List.length_pos_iff.2 hp),h1,h2⟩
theorem Qr1{K:Int}{s:Zo}(h:Kk K s)(F:Qxu s)(hs:s.1<=2)(hp:s.2.2.1≠[]):s.2.1.2.1<=(Kb s).1/\(Kb s).1<=s.2.2.2.2.2.2.2.1:=by
 have N:=F.no (by omega);have P:=(Qke h).1 N.whole;obtain⟨p0,p1,p2⟩:=Qk6 h hp;have hS:=F.sent;constructor
 ·by_cases hc:s.2.1.2.1<=(Kb s).1
  ·exact hc
  ·exfalso;have a:inR (Kb s).1 s.2.2.2.2.1:=Q01 (f:=0) p0 (by rw[N.gap];omega);have b:=Qw3 hp (Int.le_refl (Kb s).1) p1;obtain⟨m,hm⟩:=Int.eq_ofNat_of_zero_le p0;have q:=P m (by omega);rw[hm]at a b;rw[Zra a,Zra b]at q;have:=Zuu (inR (m:Int) s.2.2.2.1);omega
 ·by_cases hc: (Kb s).1<=s.2.2.2.2.2.2.2.1
  ·exact hc
  ·exfalso;obtain⟨m,hm⟩:=Int.eq_ofNat_of_zero_le hS.1;have q:=P m (by omega);have a: ¬inR (m:Int) s.2.2.1:=fun hh=>by have:=Q1l h hp hh;omega
   have b: ¬inR (m:Int) s.2.2.2.1:=fun⟨x,hx,h1,h2⟩=>by have:=Qaf.1 N.fl x hx;omega
   have d: ¬inR (m:Int) s.2.2.2.2.1:=fun⟨x,hx,h1,h2⟩=>by have:=Qaf.1 N.ac x hx;omega
   rw[Zpi a,Zpi b,Zpi d]at q;omega
noncomputable def rgN(l:List Zc)(S:Int):Int:=sm (fun n=>ind (inR (n:Int) l)) S.toNat
theorem Xcu(l:List Zc){S:Int}(h:0<=S):0<=rgN l S/\rgN l S<=S:=by
 unfold rgN;have a:=Qzp (E:=S.toNat) (f:=fun n=>ind (inR (n:Int) l)) (g:=fun _=>1) fun n _=>(Zuu _).2;rw[Qjt]at a;have b:=Qzp (E:=S.toNat) (f:=fun n=>ind ((0:Int)<=(n:Int)/\(n:Int)<0)) (g:=fun n=>ind (inR (n:Int) l)) fun n _=>by
  rw[Zpi (by omega)];exact(Zuu _).1
 rw[Qsl (by omega) (by omega)]at b;omega
theorem Q36{f:Nat->Int}{a:Nat}: ∀{b:Nat},a<=b->(∀n,a<=n->n<b->f n=0)->sm f b=sm f a
 |0,h,_=>by
    have:a=0:=by omega
    rw[this]
 |b+1,h,hz=>by
  by_cases e:a=b+1
  ·rw[e]
  ·simp only[sm];rw[Q36 (b:=b) (by omega) fun n h1 h2=>hz n h1 (by omega),hz b (by omega) (by omega)];omega
theorem Xct{s:Zo}(hp:s.2.2.1≠[])(h0:0<=(Kb s).1){hi S:Int}(h1: (Kb s).1<=hi)(h2:hi<=(Kb s).2.1)(hS:0<=S):min hi S- (Kb s).1<=rgN s.2.2.1 S:=by
 unfold rgN;have b:=Qzp (E:=S.toNat) (f:=fun n=>ind ((Kb s).1<=(n:Int)/\(n:Int)<hi)) (g:=fun n=>ind (inR (n:Int) s.2.2.1)) fun n _=>by
  by_cases hc: (Kb s).1<=(n:Int)/\(n:Int)<hi
  ·simp only[Zra hc,Zra (Qw3 hp hc.1 (by omega))];exact Int.le_refl _
  ·simp only[Zpi hc];exact(Zuu _).1
 rw[Qsl h0 h1]at b;omega
theorem Q99{s:Zo}(hp:s.2.2.1≠[]){r:Zc}(e1:r.1=(Kb s).1)(h0:0<=(Kb s).1)(h1:r.1<=r.2.1)(h2:r.2.1<=(Kb s).2.1){S:Int}(hS: (Kb s).1<=S):rgN (Zs0 r s.2.2.1) (max S r.2.1)=rgN s.2.2.1 S- (min r.2.1 S-r.1):=by
 unfold rgN;have t:=Q36 (f:=fun n=>ind (inR (n:Int) (Zs0 r s.2.2.1))) (a:=S.toNat) (b:=(max S r.2.1).toNat) (by omega) fun n a1 a2=>Zpi fun hh=>(Qn8.1 hh).2 (by omega);rw[t];have c:=Zy1 (E:=S.toNat) (f:=fun n=>ind (inR (n:Int) s.2.2.1)) (g:=fun n=>ind (inR (n:Int) (Zs0 r s.2.2.1))+ind (r.1<=(n:Int)/\(n:Int)<r.2.1)) fun n _=>by
  rw[Zz8 Qn8];by_cases hc:r.1<=(n:Int)/\(n:Int)<r.2.1
  ·rw[Zra (Qw3 hp (by omega) (by omega)),Zra hc,Zpi (fun hh=>hh.2 hc)];omega
  ·rw[Zpi hc];have:inR (n:Int) s.2.2.1↔(inR (n:Int) s.2.2.1/\ ¬(r.1<=(n:Int)/\(n:Int)<r.2.1)):=⟨fun h=>⟨h,hc⟩,fun h=>h.1⟩
   rw[<-Zz8 this];omega
 rw[c,Qb0,Qsl (by omega) h1];omega
theorem Q4v{K:Int}{s:Zo}(h:Kk K s)(hK:K<=1000000)(hp:s.2.2.1≠[]){r:Zc}(e1:r.1=(Kb s).1)(h1:r.1<r.2.1)(h2:r.2.1<=(Kb s).2.1):eq1 (Zxt s.2.2.1 r) r=true:=by
 obtain⟨p0,p1,p2⟩:=Qk6 h hp;have hE:=h.eK;have hr:=h.pend.1;have hf:Zdf r=true:=Qs.2 (by omega);have hc:Zxt s.2.2.1 r=[r]:=by
  unfold Zxt;rw[if_pos ⟨hr,by rw[Xaa r (by omega)];exact hf⟩];cases e:s.2.2.1 with
  |nil=>exact absurd e hp
  |cons x l=>
   have e0:Kb s=x:=by show s.2.2.1.getD 0 Zw=x;rw[e];rfl
   rw[e]at hr;rw[e0]at e1 h2;obtain⟨hxf,-,hl⟩:=Je.1 hr;have c1:Zvs x r=[r]:=by
    unfold Zvs;rw[if_pos (by omega)];congr 1;obtain⟨a,b,⟨⟩⟩:=r;simp only at e1 h1 h2;rw[show max x.1 a=a by omega,show min x.2.1 b=b by omega]
   have c2: (l.flatMap fun x=>[r].flatMap (Zvs x))=[]:=by
    rw[List.flatMap_eq_nil_iff];intro y hy;have:=(Zoq hl y hy).1;simp only[List.flatMap_cons,List.flatMap_nil,List.append_nil];unfold Zvs;exact if_neg (by omega)
   rw[List.flatMap_cons,c2];simp only[List.flatMap_cons,List.flatMap_nil,List.append_nil,c1]
 rw[hc];unfold eq1;rw[show([r]:List Zc).getD 0 Zw=r from rfl,(Q20 r r).2 rfl];rfl
theorem Q72{n:Int}(h0:0<=n)(h1:n<16384):qsz n<=2:=by
 unfold qsz;rw[if_neg (by omega)];repeat' split
 all_goals omega
theorem Q3t(id:Int)(p:Z9)(hi:0<=id/\id<=60)(hl:p.2.1.length<=60){q:Int}(hq:qsz p.1<=q)(h0:0<=q):fsz (pfF id p)<=3+q+p.2.1.length:=by
 have a:=Z4v hi.1 (show id<64 by omega);have b:=Z4v (n:=(p.2.1.length:Int)) (by omega) (by omega);have e:fsz (pfF id p)<=1+ (qsz id+ (if p.1=0 then 0 else qsz p.1)+qsz p.2.1.length+p.2.1.length):=by
  unfold fsz;split
  ·simp only[Int.reduceEq,if_false,if_true];exact Int.le_refl _
  ·have:=Ke id;have:=Ke p.1;have:=Ke (p.2.1.length:Int)
   split<;>omega
 rw[a,b]at e;split at e<;>omega
theorem Q8c(s:Zo)(p:Z9): (spS s p).2.2.1=(if p.2.1=[]then s.2.2.1 else Q1q s.2.2.1 (rgP p))/\(spS s p).2.2.2.2.2.2.1=(if p.2.2.1=true then 2 else s.2.2.2.2.2.2.1):=by
 constructor
 ·unfold spS spZ spY;by_cases hd:p.2.1=[]
  ·rw[if_pos hd,hd];cases p.2.2.1<;>rfl
  ·have: (p.2.1==([]:List UInt8))=false:=by simpa using hd
   rw[if_neg hd,this];cases p.2.2.1<;>rfl
 ·unfold spS spZ;cases p.2.2.1
  ·exact Qxk s p
  ·rfl
theorem Q24{K:Int}{s:Zo}(h:Kk K s)(F:Qxu s)(hs:s.1<=2)(hf:s.2.2.2.2.2.2.1=1):s.2.2.2.2.2.1=s.2.1.2.2.1:=by
 have hfin:=(F.no (by omega)).fin;unfold Qh4 at hfin;simp only[hf,Bool.not_or,Bool.not_not,Oba,Bool.not_eq_true',Bool.and_eq_false_iff,bne_eq_false_iff_eq,beq_iff_eq]at hfin;obtain⟨a,b⟩:=hfin;rcases b with b|b
 ·rw[b]at a;cases a
 ·exact b
theorem Qy5{K:Int}{s:Zo}(h:Kk K s)(hK:K<=1000000){m limit:Int}(hm:1<=m/\m<=60)(hn:Z7d s limit)(hp:s.2.2.1≠[]):
  (npP s m limit).1=(Kb s).1/\((npP s m limit).2.1.length:Int)=npN s m limit/\1<=npN s m limit/\npN s m limit<=60/\(Kb s).1+npN s m limit<=(Kb s).2.1/\(Kb s).1+npN s m limit<=limit/\(npP s m limit).2.2.1=((s.2.2.2.2.2.2.1==(1:Int))&& ((Kb s).1+npN s m limit==s.2.2.2.2.2.1)):=by
 have F:=(Qnu h hK).1 hn.1.1;obtain⟨l1,l2⟩:=Qr1 h F hn.1.2 hp;have hx: (Kb s).1<min (Kb s).2.1 limit:=by
  rcases hn.2 with⟨hx,-⟩| ⟨-,hx⟩
  ·exact absurd hx hp
  ·exact hx
 have c:1<=npN s m limit:=by unfold npN;omega
 have e:npP s m limit=((Kb s).1,(pkV s.2.1 (Kb s).1 (npN s m limit).toNat,((s.2.2.2.2.2.2.1==(1:Int))&& ((Kb s).1+npN s m limit==s.2.2.2.2.2.1),()))):=by unfold npP;rw[if_neg hp]
 have hl: (pkV s.2.1 (Kb s).1 (npN s m limit).toNat).length=(npN s m limit).toNat:=by
  unfold pkV;rw[if_pos l1,Z9d,Qfm]
 rw[e];refine⟨rfl,by simp only;rw[hl];omega,c,by unfold npN;omega,by unfold npN;omega,by unfold npN;omega,rfl⟩
theorem Q7v{s:Zo}{m limit:Int}(hn:Z7d s limit)(hp:s.2.2.1=[]):npP s m limit=(s.2.2.2.2.2.1,([],(true,())))/\s.2.2.2.2.2.2.1=1:=by
 constructor
 ·unfold npP;rw[if_pos hp]
 ·rcases hn.2 with⟨-,hx⟩| ⟨hx,-⟩
  ·exact hx
  ·exact absurd hp hx
theorem Xeu{K:Int}{s:Zo}(h:Kk K s)(hK:K<=1000000){m limit:Int}(hm:1<=m/\m<=60)(hn:Z7d s limit):Zt8 s (npP s m limit)=true:=by
 have F:=(Qnu h hK).1 hn.1.1;have hE:=h.eK;have h0:=h.e0
 unfold Zt8 spG;rw[hn.1.1,Zm hn.1.2];by_cases hp:s.2.2.1=[]
 ·obtain⟨e,hf⟩:=Q7v (m:=m) hn hp;have hfe:=Q24 h F hn.1.2 hf;have hi:Qib s (npP s m limit)=true:=by
   rw[e];unfold Qib;simp only[List.length_nil,Int.natCast_zero,Int.add_zero,Ont,Bool.false_or,Oba,decide_eq_true_eq];rw[Zv (by omega) (by omega),Zv (by omega) (by omega)];refine⟨⟨⟨by omega,by omega⟩,by omega⟩,?_,by simp⟩;simp;omega
  rw[hi,e,hf];rfl
 ·obtain⟨b1,b2,b3,b4,b5,b6,b7⟩:=Qy5 h hK hm hn hp;obtain⟨p0,p1,p2⟩:=Qk6 h hp;have hw:IntKind.i64.wrap ((npP s m limit).1+ ((npP s m limit).2.1.length:Int))=(Kb s).1+npN s m limit:=by rw[b1,b2,Zv (by omega) (by omega)]
  have hi:Qib s (npP s m limit)=true:=by
   unfold Qib;rw[hw,b1,b2,b7];simp only[Oba,decide_eq_true_eq];rw[Zv (by omega) (by omega)];refine⟨⟨⟨by omega,by omega⟩,by omega⟩,?_⟩;cases hf:s.2.2.2.2.2.2.1==(1:Int)
   ·rfl
   ·by_cases hq: (Kb s).1+npN s m limit=s.2.2.2.2.2.1
    ·rw[<-hq];have: ((Kb s).1+npN s m limit != -1)=true:=bne_iff_ne.2 (by omega);rw[this];simp
    ·rw[beq_false_of_ne hq];rfl
  have hd: ((npP s m limit).2.1==([]:List UInt8))=false:=by
   cases hx: (npP s m limit).2.1 with
   |nil=>rw[hx]at b2;simp at b2;omega
   |cons a b=>rfl
  have hf2: ((npP s m limit).2.2.1&& (s.2.2.2.2.2.2.1 !=(1:Int)))=false:=by
   rw[b7,bne];cases s.2.2.2.2.2.2.1==(1:Int)
   ·rfl
   ·simp
  have he:eq1 (Zxt s.2.2.1 (rgP (npP s m limit))) (rgP (npP s m limit))=true:=Q4v h hK hp b1 (by simp only[hw];rw[b1];omega) (by simp only[hw];omega);rw[hi,hd,hf2,he];rfl
noncomputable def Z6o(s:Zh):Int:=rgN s.2.1.2.2.1 s.2.1.2.2.2.2.2.2.2.1
def Zw7(s:Zh):Int:=if s.2.1.2.2.2.2.2.2.1=1 then 1 else 0
noncomputable def Mb(c:Ze):Int:=Zhf Z6o c.2.2.2.1+ (c.2.2.2.2.1.1-c.2.2.2.2.1.2.1)
def Mf(c:Ze):Int:=Zhf Zw7 c.2.2.2.1
theorem Qwb(s:Zh):0<=Zw7 s/\Zw7 s<=1:=by unfold Zw7;split<;>omega
theorem Q2i{K:Nat}{c:Ze}(h:Xx K c)(hK:K<=1000000)(hc:Zhh c){s:Zh}(hs:s∈c.2.2.2.1):0<=Z6o s/\Z6o s<=Zpw s:=Xcu _ (hc.st h hK hs).snd.sent.1
theorem Qka{f g:Zh->Int}: ∀{l:List Zh},(∀s∈l,f s<=g s)->Zhf f l<=Zhf g l
 | [],_=>Int.le_refl _
 |x::l,h=>by
  have:=Qka (l:=l) (f:=f) (g:=g) fun s hs=>h s (List.mem_cons_of_mem _ hs);have:=h x List.mem_cons_self;simp only[Zhf];omega
theorem Q4i{K:Nat}{c:Ze}(h:Xx K c)(hK:K<=1000000)(hc:Zhh c):0<=Zhf Z6o c.2.2.2.1/\(∀s∈c.2.2.2.1,Z6o s<=Zhf Z6o c.2.2.2.1)/\Mb c<=c.2.2.2.2.1.1/\0<=c.2.2.2.2.1.1-c.2.2.2.2.1.2.1/\0<=Mf c/\(∀s∈c.2.2.2.1,Zw7 s<=Mf c):=by
 obtain⟨a1,a2⟩:=Qgm (f:=Z6o) fun s hs=>(Q2i h hK hc hs).1;obtain⟨b1,b2⟩:=Qgm (f:=Zw7) (l:=c.2.2.2.1) fun s hs=>(Qwb s).1;have m:=Qka (f:=Z6o) (g:=Zpw) fun s hs=>(Q2i h hK hc hs).2;have u:=(hc.sent h hK).2.2;have t:=(Z3c.1 hc.tot).use;exact⟨a1,a2,by unfold Mb;omega,by omega,b1,b2⟩
theorem Qwx{K:Nat}{k w:Int}{c:Ze}(h:CQ K k w c)(hK:K<=1000000)(hw:w<=10000)(hc:Zhh c){id:Int}(hi:0<=Qx c.2.2.2.1 id)(hcs: (atS c id).2.2.2.2.2.2.1=true){m:Int}(hm:1<=m/\m<=60)(hn:Z7d (atS c id).2.1 (Zly c (atS c id))):
  fsz (pfF id (npP (atS c id).2.1 m (Zly c (atS c id))))<=4+ ((npP (atS c id).2.1 m (Zly c (atS c id))).2.1.length:Int)+ (if(atS c id).2.1.2.2.1=[]then 1 else 0)/\
  Zn4 c id (npP (atS c id).2.1 m (Zly c (atS c id)))=true/\
  ((npP (atS c id).2.1 m (Zly c (atS c id))).2.1.length:Int)+ (if(atS c id).2.1.2.2.1=[]then 1 else 0)<=Mb c+Mf c/\
  1<=((npP (atS c id).2.1 m (Zly c (atS c id))).2.1.length:Int)+ (if(atS c id).2.1.2.2.1=[]then 1 else 0)/\
  Mb (mpC c id (npP (atS c id).2.1 m (Zly c (atS c id))))+Mf (mpC c id (npP (atS c id).2.1 m (Zly c (atS c id))))<=Mb c+Mf c- ((npP (atS c id).2.1 m (Zly c (atS c id))).2.1.length:Int)- (if(atS c id).2.1.2.2.1=[]then 1 else 0):=by
 have hl:=h.inv.str.len;obtain⟨h1,-,h3⟩:=Zo5 (l:=c.2.2.2.1) (by omega) id;have hlt: (Qx c.2.2.2.1 id).toNat<c.2.2.2.1.length:=by omega
 have hm0:atS c id∈c.2.2.2.1:=Z2 (d:=Zn) hlt;have S:=hc.st h.inv hK hm0;have I:=h.inv.str.all _ hm0;have Q:=h.q.str _ hm0;have hid: (atS c id).1=id:=h3 hi;have F:=(Qnu I.snd (show(K:Int)<=1000000 by omega)).1 hn.1.1;have hso:=Xeu I.snd (show(K:Int)<=1000000 by omega) hm hn;obtain⟨ma1,ma2,ma3,ma4,ma5,ma6⟩:=Q4i h.inv hK hc;obtain⟨c1,c2,c3,-,-,-,-⟩:=S.cre;obtain⟨t1,t2,t3,-,-,-,-⟩:=Z3c.1 hc.tot;obtain⟨g1,g2,g3⟩:=Qxj (atS c id).2.1 (npP (atS c id).2.1 m (Zly c (atS c id)));obtain⟨g4,g5⟩:=Q8c (atS c id).2.1 (npP (atS c id).2.1 m (Zly c (atS c id)));have hsent:=F.sent;have heK:=I.snd.eK;have hus:=Q.us;have hqid:=Q.id;have hen:=Q.en;have hsnt:=(hc.sent h.inv hK).2.1 _ hm0;have hsu:=(hc.sent h.inv hK).2.2;have htl:=h.q.tl;have hsnt: (atS c id).2.1.2.2.2.2.2.2.2.1<=Zhf Zpw c.2.2.2.1:=hsnt;generalize hs:atS c id=s at*
 
 have upd: ∀p:Z9,Zn4 c id p=true->Mb (mpC c id p)+Mf (mpC c id p)=Mb c+Mf c+ (rgN (spS s.2.1 p).2.2.1 (spS s.2.1 p).2.2.2.2.2.2.2.1-Z6o s)-Zga c id p+ ((if(spS s.2.1 p).2.2.2.2.2.2.1=1 then 1 else 0)-Zw7 s):=fun p ho=>by
  obtain⟨-,-,-,-,-,-,e2,-,-⟩:=mpF h.inv hK ho;have q1:=Z5x (f:=Z6o) (s:=((atS c id).1,(spS (atS c id).2.1 p,(ucC (atS c id).2.2.1 (Zga c id p),(atS c id).2.2.2)))) hlt;have q2:=Z5x (f:=Zw7) (s:=((atS c id).1,(spS (atS c id).2.1 p,(ucC (atS c id).2.2.1 (Zga c id p),(atS c id).2.2.2)))) hlt;have r1:Z6o ((atS c id).1,(spS (atS c id).2.1 p,(ucC (atS c id).2.2.1 (Zga c id p),(atS c id).2.2.2)))=rgN (spS s.2.1 p).2.2.1 (spS s.2.1 p).2.2.2.2.2.2.2.1:=by rw[hs];rfl
  have r2:Zw7 ((atS c id).1,(spS (atS c id).2.1 p,(ucC (atS c id).2.2.1 (Zga c id p),(atS c id).2.2.2)))=(if(spS s.2.1 p).2.2.2.2.2.2.1=1 then 1 else 0):=by rw[hs];rfl
  have r3:c.2.2.2.1.getD (Qx c.2.2.2.1 id).toNat Zn=s:=hs;rw[r1,r3]at q1;rw[r2,r3]at q2;have e3: (mpC c id p).2.2.2.2.1=(c.2.2.2.2.1.1,(c.2.2.2.2.1.2.1+Zga c id p,c.2.2.2.2.1.2.2)):=e2;have e4: (mpC c id p).2.2.2.1=c.2.2.2.1.set (Qx c.2.2.2.1 id).toNat ((atS c id).1,(spS (atS c id).2.1 p,(ucC (atS c id).2.2.1 (Zga c id p),(atS c id).2.2.2))):=rfl;unfold Mb Mf;rw[e3,e4,q1,q2];simp only;omega
 
 have thr: ∀p:Z9,Zt8 s.2.1 p=true->(spS s.2.1 p).2.2.2.2.2.2.2.1-s.2.1.2.2.2.2.2.2.2.1<=s.2.2.1.1-s.2.2.1.2.1->(spS s.2.1 p).2.2.2.2.2.2.2.1-s.2.1.2.2.2.2.2.2.2.1<=c.2.2.2.2.1.1-c.2.2.2.2.1.2.1->s.2.1.2.2.2.2.2.2.2.1<=(spS s.2.1 p).2.2.2.2.2.2.2.1->Zn4 c id p=true:=fun p ho a1 a2 a3=>by
  have en:Zga c id p=(spS s.2.1 p).2.2.2.2.2.2.2.1-s.2.1.2.2.2.2.2.2.2.1:=by
   unfold Zga spV;rw[hs,ho,Oct,Zv (by omega) (by omega)]
  have uc: ∀(x:X7) (n:Int),Zsj x=true->0<=n->n<=x.1-x.2.1->x.1<=4611686018427387903->0<=x.2.1->Z50 x n=true:=fun x n b1 b2 b3 b4 b5=>by
   unfold Z50;rw[b1,Zv (by omega) (by omega),Zj (p:=n<0) (by omega),Zj (p:=n>x.1-x.2.1) (by omega)];rfl
  unfold Zn4;rw[(Z3b h.inv hK).2 hc,Zm hi,hs,hcs,ho,en,uc _ _ (Z3c.2 S.cre) (by omega) a1 c1 c2,uc _ _ hc.tot (by omega) a2 t1 t2];rfl
 by_cases hp:s.2.1.2.2.1=[]
 ·obtain⟨e,hf⟩:=Q7v (m:=m) hn hp;have hfe:=Q24 I.snd F hn.1.2 hf;rw[if_pos hp];rw[e]at g3 g4 g5 hso⊢;rw[if_pos rfl]at g3 g4;simp only[if_true]at g5;have ok:=thr _ hso (by rw[g3];omega) (by rw[g3];omega) (by rw[g3];exact Int.le_refl _);have u:=upd _ ok;have en:=(mpF h.inv hK ok).2.2.2.1;rw[hs,g3]at en;rw[g3,g4,g5,en]at u;have hfs:Zw7 s=1:=by unfold Zw7;rw[if_pos hf]
  have hb:rgN s.2.1.2.2.1 s.2.1.2.2.2.2.2.2.2.1=Z6o s:=rfl;have hff:=ma6 _ hm0;rw[hb,hfs]at u;simp only[Int.reduceEq,if_false]at u;refine⟨?_,ok,?_,by simp,?_⟩
  ·have:=Q3t id (s.2.1.2.2.2.2.2.1,(([]:List UInt8),(true,()))) (by rw[<-hid];exact hqid) (by simp) (Q72 (n:=s.2.1.2.2.2.2.2.1) (by have:=I.snd.e0;omega) (by omega)) (by decide);simp only[List.length_nil]at this⊢;omega
  ·simp only[List.length_nil];unfold Mb;omega
  ·simp only[List.length_nil];omega
 ·obtain⟨b1,b2,b3,b4,b5,b6,b7⟩:=Qy5 I.snd (show(K:Int)<=1000000 by omega) hm hn hp;obtain⟨p0,p1,p2⟩:=Qk6 I.snd hp;obtain⟨l1,l2⟩:=Qr1 I.snd F hn.1.2 hp;have hlim:Zly c s<=s.2.2.1.1/\Zly c s<=s.2.1.2.2.2.2.2.2.2.1+ (c.2.2.2.2.1.1-c.2.2.2.2.1.2.1):=by unfold Zly;omega
  have hge:=Xct hp p0 (hi:=(Kb s.2.1).1+npN s.2.1 m (Zly c s)) (S:=s.2.1.2.2.2.2.2.2.2.1) (by omega) (by omega) (by omega);have hbs:rgN s.2.1.2.2.1 s.2.1.2.2.2.2.2.2.2.1=Z6o s:=rfl;have hbm:=ma2 _ hm0;rw[if_neg hp];generalize npP s.2.1 m (Zly c s)=p at*
  generalize npN s.2.1 m (Zly c s)=n at*
  have hw2: (rgP p).2.1=(Kb s.2.1).1+n:=by show IntKind.i64.wrap (p.1+ (p.2.1.length:Int))=_;rw[b1,b2,Zv (by omega) (by omega)]
  have hd:p.2.1≠[]:=fun hx=>by rw[hx]at b2;simp at b2;omega
  rw[if_neg hd,hw2]at g3;rw[if_neg hd]at g4;have ok:=thr _ hso (by rw[g3];omega) (by rw[g3];omega) (by rw[g3];omega);have u:=upd _ ok;have en:=(mpF h.inv hK ok).2.2.2.1;rw[hs,g3]at en;have hrf:Zdf (rgP p)=true:=Qs.2 (by rw[hw2];show 0<=p.1/\p.1<_/\_;rw[b1];omega);have er:Q1q s.2.1.2.2.1 (rgP p)=Zs0 (rgP p) s.2.1.2.2.1:=if_pos ⟨I.snd.pend.1,hrf⟩;have hrm:=Q99 hp (r:=rgP p) b1 p0 (by rw[hw2];show p.1<=_;rw[b1];omega) (by rw[hw2];exact b5) (S:=s.2.1.2.2.2.2.2.2.2.1) l2;have hr1: (rgP p).1=(Kb s.2.1).1:=b1;rw[hw2,hr1]at hrm;rw[g4,er,g3,hrm,en,hbs]at u;have hff: (if(spS s.2.1 p).2.2.2.2.2.2.1=1 then 1 else 0)-Zw7 s<=(0:Int):=by
   rw[g5];unfold Zw7;by_cases hpf:p.2.2.1=true
   ·rw[if_pos hpf,if_neg (by decide)];split<;>omega
   ·rw[if_neg hpf];omega
  refine⟨?_,ok,?_,by omega,by omega⟩
  ·have:=Q3t id p (by rw[<-hid];exact hqid) (by omega) (q:=1) (by rw[b1,Z4v p0 (by omega)];exact Int.le_refl _) (by decide);omega
  ·unfold Mb;omega
def skF(sk:List Int)(s:Zh):Int:=if Zil sk (Zpg s)=true then 1 else 0
theorem Q8a(sk:List Int)(s:Zh):0<=skF sk s/\skF sk s<=1:=by unfold skF;split<;>omega
def JJ(c:Ze)(sk:List Int):Prop:= ∀s∈c.2.2.2.1,Zil sk (Zpg s)=false-> ¬Z7d s.2.1 (Zly c s)
theorem Q5b{s:Zo}{a b:Int}(h:Z7d s a)(hab:a<=b):Z7d s b:=⟨h.1,h.2.imp (fun h=>h) fun h=>⟨h.1,by have:=h.2;omega⟩⟩
theorem Zuo{f:Zh->Int}{l:List Zh}{i:Nat}(hi:i<l.length){s:Zh}(h:f s=f (l.getD i Zn)):Zhf f (l.set i s)=Zhf f l:=by rw[Z5x hi,h];omega
theorem Q39{f g:Zh->Int}: ∀{l:List Zh},(∀s∈l,f s<=g s)->(∃s∈l,f s+1<=g s)->Zhf f l+1<=Zhf g l
 | [],_,⟨s,hs,_⟩=>by cases hs
 |x::l,h,⟨s,hs,e⟩=>by
  have hx:=h x List.mem_cons_self;have hl:=fun s hs=>h s (List.mem_cons_of_mem x hs);simp only[Zhf];rcases List.mem_cons.1 hs with rfl|hs
  ·have:=Qka (l:=l) hl;omega
  ·have:=Q39 hl ⟨s,hs,e⟩;omega
theorem Xey{c:Ze}{id room:Int}(h: (pcR c id room).2.1=true):Z7d (atS c id).2.1 (Zly c (atS c id)):=by
 unfold pcR at h;split at h
 ·unfold pfR at h;split at h
  ·rename_i hn;exact hn
  ·cases h
 ·cases h
theorem Q7x{K:Nat}{k w:Int}{c:Ze}(h:CQ K k w c)(hK:K<=1000000)(hw:w<=10000)(hc:Zhh c){id:Int}(hi:0<=Qx c.2.2.2.1 id)(hcs: (atS c id).2.2.2.2.2.2.1=true){room:Int}(hr:5* (Mb c+Mf c)<=room)(hr2:room<=1000)(hn:Z7d (atS c id).2.1 (Zly c (atS c id))):
  ∃m,(1<=m/\m<=60)/\pcR c id room=(npP (atS c id).2.1 m (Zly c (atS c id)),true,()):=by
 obtain⟨-,-,a3,a4,-⟩:=Qwx h hK hw hc hi hcs (m:=1) (by decide) hn;have hroom:5<=room:=by omega
 obtain⟨m,hm⟩: ∃m:Nat,(min room 60).toNat=m+1:=⟨(min room 60).toNat-1,by omega⟩
 have hm60:1<=((m+1:Nat):Int)/\((m+1:Nat):Int)<=60:=by omega
 obtain⟨b1,-,b3,b4,-⟩:=Qwx h hK hw hc hi hcs hm60 hn;refine⟨((m+1:Nat):Int),hm60,?_⟩;unfold pcR;rw[if_pos ⟨⟨(Z3b h.inv hK).2 hc,hi⟩,hcs,by omega⟩,hm];unfold pfR;rw[if_pos hn];unfold pfL;exact if_pos (show fsz (pfF id (npP (atS c id).2.1 ((m+1:Nat):Int) (Zly c (atS c id))))<=room by omega)
theorem Qy4{sk:List Int}{id:Int}{z:Zk}(h:Zil (sk++ [id]) z=false):Zil sk z=false\/z.1=id:=by
 unfold Zil at h⊢;rw[List.all_append,Bool.and_eq_false_iff]at h;rcases h with h|h
 ·exact .inl h
 ·simp at h;exact .inr h
theorem Qqw{K:Nat}{k w:Int}(hK:K<=1000000)(hw:w<=10000): ∀(n:Nat) (c:Ze) (fr:List Zf) (room:Int) (sk:List Int),CQ K k w c->Zhh c->5* (Mb c+Mf c)<=room->room<=1000->JJ c sk->Mb c+Mf c+Zhf (skF sk) c.2.2.2.1<n->
  ∃sk',CQ K k w (Zem n c fr room sk).2/\Zhh (Zem n c fr room sk).2/\JJ (Zem n c fr room sk).2 sk'/\Wg (Zhg (Zem n c fr room sk).2 sk') (Zcd (Zem n c fr room sk).2)<0
 |0,c,fr,room,sk,h,hc,_,_,_,hn=>by
  obtain⟨m1,-,-,m4,m5,-⟩:=Q4i h.inv hK hc;have:=(Qgm (f:=skF sk) (l:=c.2.2.2.1) fun s _=>(Q8a sk s).1).1;unfold Mb at hn;omega
 |n+1,c,fr,room,sk,h,hc,hr,hr2,hj,hn=>by
  have hl:=h.inv.str.len;obtain⟨m1,-,-,m4,m5,-⟩:=Q4i h.inv hK hc;by_cases hx:Wg (Zhg c sk) (Zcd c)<0
  ·refine⟨sk,?_⟩;rw[Zem,if_pos hx];exact⟨h,hc,hj,hx⟩
  ·have hidx:=Zyj (c:=c) (by omega) (sk:=sk) (last:=Zcd c) (by omega);obtain⟨y,hy,ey,-⟩:=Qy3 (l:=Zhg c sk) (last:=Zcd c) (by omega);rw[Zem,if_neg hx];generalize Wg (Zhg c sk) (Zcd c)=id at*
   obtain⟨h1,-,h3⟩:=Zo5 (l:=c.2.2.2.1) (by omega) id;have hlt: (Qx c.2.2.2.1 id).toNat<c.2.2.2.1.length:=by omega
   have hmem:atS c id∈c.2.2.2.1:=Z2 (d:=Zn) hlt;have hid: (atS c id).1=id:=h3 hidx;obtain⟨⟨s,hs,hws,es⟩,hnk⟩:=Qor hy;have hsy:s.1=id:=by rw[<-ey,es]
   have hst:atS c id=s:=Z6l (Qgl.1 hc.sts).srt hmem hs (by rw[hid,hsy]);have hcs: (atS c id).2.2.2.2.2.2.1=true:=by
    rw[hst];unfold Zxn at hws;simp only[Oba]at hws;exact hws.1.1
   have hnid: ∀z:Zk,z.1=id->Zil sk z=true:=fun z hz=>by
    unfold Zil at hnk⊢;rw[hz,<-ey];exact hnk
   cases hpc: (pcR c id room).2.1
   ·rw[Ocf];have hno: ¬Z7d (atS c id).2.1 (Zly c (atS c id)):=fun hn=>by
     obtain⟨m,-,e⟩:=Q7x h hK hw hc hidx hcs hr hr2 hn;rw[e]at hpc;cases hpc
    have nt:=Qij c.2.2.2.2.1;have nc:=Qij (atS c id).2.2.1;have eS: (blC c id).2.2.2.1=c.2.2.2.1.set (Qx c.2.2.2.1 id).toNat ((atS c id).1,((atS c id).2.1,(nbB (atS c id).2.2.1,(atS c id).2.2.2))):=rfl;have eT: (blC c id).2.2.2.2.1=nbB c.2.2.2.2.1:=rfl;have eb:Mb (blC c id)=Mb c:=by
     unfold Mb;have sb:=Zuo (f:=Z6o) hlt (s:=((atS c id).1,((atS c id).2.1,(nbB (atS c id).2.2.1,(atS c id).2.2.2)))) rfl;rw[eS,eT,nt.1,nt.2,sb]
    have ef:Mf (blC c id)=Mf c:=by
     unfold Mf;have sb:=Zuo (f:=Zw7) hlt (s:=((atS c id).1,((atS c id).2.1,(nbB (atS c id).2.2.1,(atS c id).2.2.2)))) rfl;rw[eS,sb]
    have lim: ∀t:Zh,Zly (blC c id) t=Zly c t:=fun t=>by
     unfold Zly;rw[eT,nt.1,nt.2]
    refine Qqw hK hw n (blC c id) fr room (sk++ [id]) ⟨(Qg0 h.inv hK hidx).2,h.q.bl (by omega) hidx⟩ (Q2k h.inv hK hc hidx) (by rw[eb,ef];exact hr) hr2 ?_ ?_
    ·intro t ht hf;rw[lim];have old: ∀u∈c.2.2.2.1,Zil (sk++ [id]) (Zpg u)=false-> ¬Z7d u.2.1 (Zly c u):=fun u hu hf=>by
      rcases Qy4 hf with hf|hf
      ·exact hj u hu hf
      ·have:u=atS c id:=Z6l (Qgl.1 hc.sts).srt hu hmem (by rw[hid];exact hf);rw[this];exact hno
     rw[eS]at ht;rcases List.mem_or_eq_of_mem_set ht with ht|ht
     ·exact old t ht hf
     ·rw[ht]at hf⊢;have:=old _ hmem hf;unfold Zly at this⊢;simp only;rw[nc.1];exact this
    ·have a:=Zuo (f:=skF (sk++ [id])) hlt (s:=((atS c id).1,((atS c id).2.1,(nbB (atS c id).2.2.1,(atS c id).2.2.2)))) rfl;have b:=Q39 (l:=c.2.2.2.1) (f:=skF (sk++ [id])) (g:=skF sk) (fun u _=>by
      unfold skF Zil;rw[List.all_append];split
      ·rename_i hq;rw[Oba]at hq;rw[if_pos hq.1];exact Int.le_refl _
      ·split<;>omega) ⟨atS c id,hmem,by
       have q1:skF sk (atS c id)=1:=if_pos (hnid _ hid);have q2:skF (sk++ [id]) (atS c id)=0:=by
        unfold skF Zil;have hci: (Zpg (atS c id)).1=id:=hid;rw[List.all_append,hci];apply if_neg;simp
       rw[q1,q2];exact Int.le_refl _⟩
     rw[eb,ef,eS,a];omega
   ·rw[Oct];have hnp:=Xey hpc;obtain⟨m,hm,e⟩:=Q7x h hK hw hc hidx hcs hr hr2 hnp;obtain⟨b1,b2,b3,b4,b5⟩:=Qwx h hK hw hc hidx hcs hm hnp;rw[e];generalize npP (atS c id).2.1 m (Zly c (atS c id))=p at*
    simp only;rw[b2,Oct];have hz0:0<=fsz (pfF id p):=by
     unfold fsz;have a1:=Ke id;have a2:=Ke p.1;have a3:=Ke (p.2.1.length:Int)
     split
     ·simp only[Int.reduceEq,if_false,if_true];split<;>omega
     ·exact Int.le_refl _
    have hwr:IntKind.i64.wrap (room-fsz (pfF id p))=room-fsz (pfF id p):=Zv (by omega) (by omega);have hM:0<=Mb c+Mf c:=by unfold Mb;omega
    obtain⟨-,-,-,en,n0,-,e2,-,-⟩:=mpF h.inv hK b2;have eS: (mpC c id p).2.2.2.1=c.2.2.2.1.set (Qx c.2.2.2.1 id).toNat ((atS c id).1,(spS (atS c id).2.1 p,(ucC (atS c id).2.2.1 (Zga c id p),(atS c id).2.2.2))):=rfl;have eT: (mpC c id p).2.2.2.2.1=(c.2.2.2.2.1.1,(c.2.2.2.2.1.2.1+Zga c id p,c.2.2.2.2.1.2.2)):=e2;rw[hwr];refine Qqw hK hw n (mpC c id p) (fr++ [pfF id p]) (room-fsz (pfF id p)) sk ⟨Qav h.inv hK b2,h.q.mp h.inv hK b2⟩ (Q3r h.inv hK b2) (by omega) (by omega) ?_ ?_
    ·intro t ht hf;rw[eS]at ht;rcases List.mem_or_eq_of_mem_set ht with ht|ht
     ·refine fun hq=>hj t ht hf (Q5b hq ?_);unfold Zly;rw[eT];simp only;omega
     ·rw[ht]at hf;rw[hnid _ hid]at hf;cases hf
    ·have a:=Zuo (f:=skF sk) hlt (s:=((atS c id).1,(spS (atS c id).2.1 p,(ucC (atS c id).2.2.1 (Zga c id p),(atS c id).2.2.2)))) rfl;rw[eS,a];omega
theorem Q55: ∀{l:List Zh} {p:Option Int},(∀s∈l,StF s)->(l.Pairwise fun a b=>a.1<b.1)->(∀q,p=some q-> ∀s∈l,q<s.1)->acF p (l.map Zpg)=true
 | [],p,_,_,_=>by cases p<;>rfl
 |x::l,p,h,hp,hq=>by
  have S:=h x List.mem_cons_self;have i1:=S.id;have i2:=S.pr
  obtain⟨p1,p2⟩:=List.pairwise_cons.1 hp;rw[List.map_cons,Zxq];have v:vC (Zpg x)=true:=by unfold vC;simp;omega
  rw[v,Q55 (fun s hs=>h s (List.mem_cons_of_mem _ hs)) p2 (fun q hq s hs=>by cases hq;exact p1 s hs)];cases p with
  |none=>rfl
  |some q=>simp only;rw[Zm (hq q rfl x List.mem_cons_self)];rfl
theorem Xbs{K:Nat}{c:Ze}(h:Xx K c)(hK:K<=1000000)(hc:Zhh c)(sk:List Int):ac (Zhg c sk)=true:=by
 unfold Zhg Qt4;refine Qgv _ _ none (Q55 (fun s hs=>hc.st h hK (List.mem_filter.1 hs).1) ((Qgl.1 hc.sts).srt.filter _) fun q hq=>by cases hq)
theorem Q9e{K:Nat}{k w:Int}{c:Ze}(h:CQ K k w c)(hK:K<=1000000)(hc:Zhh c){sk:List Int}(hj:JJ c sk)(hn:Wg (Zhg c sk) (Zcd c)<0){s:Zh}(hs:s∈c.2.2.2.1)(h1:s.2.2.2.2.2.2.1=true)(h2:s.2.1.1<3)(h3:s.2.1.2.2.1≠[]):s.2.2.1.1-s.2.2.1.2.1<=0\/c.2.2.2.2.1.1-c.2.2.2.2.1.2.1<=0:=by
 have ha:=Xbs h.inv hK hc sk;have he:Zhg c sk=[]:=by
  by_cases he:Zhg c sk=[]
  ·exact he
  ·have:=Qsr ha (Quu ha he (Zcd c));omega
 have hw:Zxn s=true:=by
  unfold Zxn;have:=List.length_pos_iff.2 h3;rw[h1,Zm h2,Zm (by omega)];rfl
 have hf:Zil sk (Zpg s)=false:=by
  cases hq:Zil sk (Zpg s)
  ·rfl
  ·exfalso;have:Zpg s∈Zhg c sk:=List.mem_filter.2 ⟨List.mem_map_of_mem (List.mem_filter.2 ⟨hs,hw⟩),hq⟩;rw[he]at this;cases this
 have hno:=hj s hs hf;have S:=hc.st h.inv hK hs;have I:=h.inv.str.all s hs;have sb:Ztn s.2.1=true:=(Qnu I.snd (by omega)).2 S.snd;obtain⟨p0,p1,p2⟩:=Qk6 I.snd h3;obtain⟨l1,l2⟩:=Qr1 I.snd S.snd (by omega) h3;have hus:=(h.q.str s hs).us;have:Zly c s<=(Kb s.2.1).1:=by
  by_cases hq:Zly c s<=(Kb s.2.1).1
  ·exact hq
  ·exact absurd ⟨⟨sb,by omega⟩,.inr ⟨h3,by omega⟩⟩ hno
 unfold Zly at this;omega
def szL:List Zf->Int| []=>0|f::r=>fsz f+szL r
theorem Xa7(f:Zf):0<=fsz f:=by
 unfold fsz;have a:=Ke f.2.1;have b:=Ke f.2.2.1;have c:=Ke f.2.2.2.2.2.1;have d:=Ke f.2.2.2.2.2.2.1;have e:=Ke f.2.2.2.2.2.2.2.1;have g:=Ke f.2.2.2.1.length
 repeat' split
 all_goals omega
theorem Zq5: ∀a b:List Zf,szL (a++b)=szL a+szL b
 | [],b=>by simp[szL]
 |x::a,b=>by rw[List.cons_append,szL,szL,Zq5 a b];omega
theorem Xad{b:Bool}{f:Zf}{n:Int}(h0:0<=n)(h:b=true->fsz f<=n):szL (bif b then[f]else[])<=(if b=true then n else 0):=by
 cases b
 ·simp[szL]
 ·have:=h rfl;simp only[Oct,szL,if_true];omega
theorem Zq6{b:Bool}{f:Zf}{n:Int}(h0:0<=n)(h:b=true->fsz f<=n):szL (bif b then[f]else[])<=n:=by
 have:=Xad h0 h;split at this<;>omega
theorem Qzx(g:Zh->List Zf): ∀l:List Zh,szL (l.flatMap g)=Zhf (fun s=>szL (g s)) l
 | []=>rfl
 |x::l=>by rw[List.flatMap_cons,Zq5,Qzx g l];rfl
theorem Q29{k lim:Int}{u:Bool}(hk:k=16\/k=18\/k=20\/k=22):fsz (frK k 0 lim u)<=1+qsz lim:=by
 have:=Ke lim;unfold fsz;split
 ·rcases hk with hk|hk|hk|hk<;>(subst hk;simp)
 ·omega
theorem Xa8{k id lim:Int}(hk:k=17\/k=21):fsz (frK k id lim false)<=1+qsz id+qsz lim:=by
 have:=Ke lim;have:=Ke id
 unfold fsz;split
 ·rcases hk with hk|hk<;>(subst hk;simp;omega)
 ·omega
theorem Xei(s:Zh):fsz (frR s)<=1+qsz s.1+qsz s.2.1.2.2.2.2.2.2.2.2.1+qsz s.2.1.2.2.2.2.2.2.2.1:=by
 have:=Ke s.1;have:=Ke s.2.1.2.2.2.2.2.2.2.2.1;have:=Ke s.2.1.2.2.2.2.2.2.2.1
 unfold fsz;split
 ·simp;omega
 ·omega
theorem Xac{K:Nat}{k w:Int}{c:Ze}(h:CQ K k w c)(hK:K<=1000000)(hw:w<=10000)(hc:Zhh c){s:Zh}(hs:s∈c.2.2.2.1):szL (sfL c s)+5*Zw7 s<=12:=by
 have S:=hc.st h.inv hK hs;have Q:=h.q.str s hs;have hsnt:=(hc.sent h.inv hK).2.1 s hs;have hsu:=(hc.sent h.inv hK).2.2;have htu:=(Z3c.1 hc.tot).use;have htl:=h.q.tl;have hsnt:s.2.1.2.2.2.2.2.2.2.1<=Zhf Zpw c.2.2.2.1:=hsnt;have hs0:=S.snd.sent.1;have hcode:=S.snd.code.1;have hid:=Z4v Q.id.1 (show s.1<64 by have:=Q.id;omega);have hstop:s.2.2.2.2.2.2.2.2.2.1=false:=by
  cases hx:s.2.2.2.2.2.2.2.2.2.1
  ·rfl
  ·have:=S.ts hx;rw[Q.stp]at this;cases this
 have hW:1<=(lwW c s).2.2.1/\(lwW c s).2.2.1<16384:=by
  have W:Q54 (lwW c s)/\(lwW c s).2.1<=64/\(lwW c s).2.2.2.2.1<=w:=by
   unfold lwW;cases wcB s
   ·exact⟨S.win,Q.wm,Q.wr⟩
   ·have e:=Qjr s.2.2.2.2.1 (Zw2 c) (Znv c);rw[Oct,e.1,e.2.1];exact⟨Z07 S.win _ _,Q.wm,Q.wr⟩
  obtain⟨⟨g1,g2,g3,g4,g5,g6,g7⟩,hm,hr⟩:=W;omega
 have f17:fsz (frK 17 s.1 (lwW c s).2.2.1 false)<=4:=by
  have:=Xa8 (k:=17) (id:=s.1) (lim:=(lwW c s).2.2.1) (.inl rfl);have:=Q72 (n:=(lwW c s).2.2.1) (by omega) hW.2;omega
 have f21:fsz (frK 21 s.1 s.2.2.1.1 false)<=3:=by
  have:=Xa8 (k:=21) (id:=s.1) (lim:=s.2.2.1.1) (.inr rfl);have:=Z4v (n:=s.2.2.1.1) (by have:=S.cre.use0;have:=S.cre.use;omega) (by have:=Q.cl;omega);omega
 have fR:fsz (frR s)<=4:=by
  have:=Xei s;have:=Z4v hcode (show s.2.1.2.2.2.2.2.2.2.2.1<64 by have:=Q.code;omega);have:=Z4v hs0 (show s.2.1.2.2.2.2.2.2.2.1<64 by omega);omega
 have hf:=Qwb s;unfold sfL;rw[hstop,Zq5,Zq5,Zq5];simp only[Bool.false_and,Ocf,szL];have a2:=Zq6 (b:=lwT c s) (by decide) fun _=>f17;by_cases htr:s.2.2.2.2.2.2.2.2.1=true
 ·have h4:=S.tr htr;obtain⟨-,r2,-,-,-,r6,-⟩:=S.snd.rst (.inl h4);have hsd:sdB s=false:=by unfold sdB;rw[r2];simp
  have hfin:Zw7 s=0:=by unfold Zw7;rw[r6];rfl
  have a1:=Zq6 (b:=s.2.2.2.2.2.2.2.2.1) (by decide) fun _=>fR;rw[hsd,Ocf,szL,hfin];omega
 ·have htr:s.2.2.2.2.2.2.2.2.1=false:=by simpa using htr
  have a3:=Zq6 (b:=sdB s) (by decide) fun _=>f21;rw[htr,Ocf,szL];omega
theorem Z04{f:Zh->Int}{n:Int}: ∀{l:List Zh},(∀s∈l,f s<=n)->Zhf f l<=n*l.length
 | [],_=>by simp[Zhf]
 |x::l,h=>by
  have a:=Z04 (l:=l) fun s hs=>h s (List.mem_cons_of_mem _ hs);have b:=h x List.mem_cons_self;simp only[Zhf,List.length_cons];rw[Int.natCast_add,Int.mul_add];omega
theorem Qzv(f g:Zh->Int): ∀l:List Zh,Zhf (fun s=>f s+g s) l=Zhf f l+Zhf g l
 | []=>rfl
 |x::l=>by simp only[Zhf];rw[Qzv f g l];omega
theorem Qzw(f:Zh->Int): ∀l:List Zh,Zhf (fun s=>5*f s) l=5*Zhf f l
 | []=>rfl
 |x::l=>by simp only[Zhf];rw[Qzw f l];omega
theorem Q85{K:Nat}{c:Ze}(h:CQ K 13 832 c)(hK:K<=1000000)(hc:Zhh c):szL (cfL c)+5* (Mb c+Mf c)<=400:=by
 have q:=h.q;have htl:=q.tl;have hM:=(Q4i h.inv hK hc).2.2.1;have W:=Z07 (Q8p.1 hc.inf) (Zw2 c) (Znv c);have eW:=Qjr c.2.2.2.2.2.1 (Zw2 c) (Znv c);obtain⟨w1,w2,w3,w4,w5,w6,w7⟩:=W;have iw:=q.iw;have hop:=q.op;have hln:=q.ln;have hal:=q.al;have f16:fsz (frK 16 0 (rwV c.2.2.2.2.2.1 (Zw2 c) (Znv c)).2.2.1 false)<=3:=by
  have:=Q29 (k:=16) (lim:=(rwV c.2.2.2.2.2.1 (Zw2 c) (Znv c)).2.2.1) (u:=false) (.inl rfl);have:=Q72 (n:=(rwV c.2.2.2.2.2.1 (Zw2 c) (Znv c)).2.2.1) (by omega) (by omega);omega
 have al: ∀(a:Qr) (u:Bool),Q8v a->a.1<=3->a.2.2.1<=2->fsz (frK 18 0 (raV a).2.1 u)<=2:=fun a u A a1 a2=>by
  obtain⟨g1,g2,g3,g4,g5⟩:=Z88 A;have e:=Q1p a;rw[e.1]at g1 g2 g5;rw[e.2]at g3 g4 g5;have:=Q29 (k:=18) (lim:=(raV a).2.1) (u:=u) (.inr (.inl rfl));have:=Z4v (n:=(raV a).2.1) (by omega) (by omega);omega
 have c1:=al _ false (Q0a.1 hc.ab) hal.1 (by omega);have c2:=al _ true (Q0a.1 hc.au) hal.2 (by omega);have hct:=Z3c.1 hc.tot;have f20:fsz (frK 20 0 c.2.2.2.2.1.1 false)<=2:=by
  have:=Q29 (k:=20) (lim:=c.2.2.2.2.1.1) (u:=false) (.inr (.inr (.inl rfl)));have:=Z4v (n:=c.2.2.2.2.1.1) (by have:=hct.use0;have:=hct.use;omega) (by omega);omega
 have cn: ∀(x:Ze8) (u:Bool),Qsz x=true->x.1<=39->fsz (frK 22 0 x.1 u)<=2:=fun x u hx h9=>by
  have:=Q29 (k:=22) (lim:=x.1) (u:=u) (.inr (.inr (.inr rfl)));have:=Z4v (n:=x.1) (by have:=Q0h.1 hx;omega) (by omega);omega
 have c3:=cn _ false hc.ob q.ol.1;have c4:=cn _ true hc.ou q.ol.2;have hH:szL (cfH c)<=7:=by
  unfold cfH;rw[Zq5,Zq5];have a1:=Zq6 (b:=ttT c) (by decide) fun _=>f16;have a2:=Zq6 (b:=alT c.2.2.2.2.2.2.2.2.1 c.2.2.2.2.2.2.2.2.2.2.2.1) (by decide) fun _=>c1;have a3:=Zq6 (b:=alT c.2.2.2.2.2.2.2.2.2.1 c.2.2.2.2.2.2.2.2.2.2.2.2.1) (by decide) fun _=>c2;omega
 have hT:szL (cfT c)<=6:=by
  unfold cfT;rw[Zq5,Zq5];have a1:=Zq6 (b:=mtB c.2.2.2.2.1) (by decide) fun _=>f20;have a2:=Zq6 (b:=c.2.2.2.2.2.2.1.2.2.1==c.2.2.2.2.2.2.1.1) (by decide) fun _=>c3;have a3:=Zq6 (b:=c.2.2.2.2.2.2.2.1.2.2.1==c.2.2.2.2.2.2.2.1.1) (by decide) fun _=>c4;omega
 have hS:szL (c.2.2.2.1.flatMap (sfL c))+5*Mf c<=12*c.2.2.2.1.length:=by
  have a:=Z04 (l:=c.2.2.2.1) (f:=fun s=>szL (sfL c s)+5*Zw7 s) (n:=12) fun s hs=>Xac h hK (by decide) hc hs;rw[Qzv,Qzw]at a;rw[Qzx];unfold Mf;exact a
 have hlen: (c.2.2.2.1.length:Int)<=15:=by omega
 unfold cfL;cases Zc3 c&& !(c.2.2.2.2.2.2.2.2.2.2.2.2.2.2.2.2.2.1 !=(0:Int))
 ·have m5:=(Q4i h.inv hK hc).2.2.2.2.1;have z:0<=szL (c.2.2.2.1.flatMap (sfL c)):=by
   have: ∀l:List Zf,0<=szL l:=fun l=>by
    induction l with
    |nil=>exact Int.le_refl _
    |cons x l ih=>have:=Xa7 x;simp only[szL];omega
   exact this _
  rw[Ocf,szL];omega
 ·rw[Oct,Zq5,Zq5];omega
theorem Xen{c:Ze}(hl:c.2.2.2.1.length<=1000000)(f:Zf):Mb (mkV c f)=Mb c/\Mf (mkV c f)=Mf c:=by
 unfold mkV;cases Zc3 c
 ·exact⟨rfl,rfl⟩
 ·rw[Oct];have eT: (mkC c f).2.2.2.2.1.1=c.2.2.2.2.1.1/\(mkC c f).2.2.2.2.1.2.1=c.2.2.2.2.1.2.1:=by
   have e:=Qpf c.2.2.2.2.1;unfold mkC;cases f.1==(16:Int)<;>cases f.1==(18:Int)<;>cases f.1==(20:Int)<;>cases f.1==(22:Int)<;>cases f.2.2.2.2.2.2.2.2.1<;>first
    |exact⟨rfl,rfl⟩
    |exact e
    | (simp only[Ocf];split<;>exact⟨rfl,rfl⟩)
  unfold Mb Mf;rw[eT.1,eT.2];rcases Qwv hl f with e| ⟨hi,e⟩
  ·rw[e];exact⟨rfl,rfl⟩
  ·have h1:=(Zo5 hl f.2.1).1;have a:=Zuo (f:=Z6o) (l:=c.2.2.2.1) (i:=(Qx c.2.2.2.1 f.2.1).toNat) (by omega) (s:=Zh4 c (atS c f.2.1) f.1) (by unfold Z6o;rw[Z3e]);have b:=Zuo (f:=Zw7) (l:=c.2.2.2.1) (i:=(Qx c.2.2.2.1 f.2.1).toNat) (by omega) (s:=Zh4 c (atS c f.2.1) f.1) (by unfold Zw7;rw[Z3e]);rw[e,a,b];exact⟨rfl,rfl⟩
theorem Q6o{K:Nat}(hK:K<=1000000): ∀(l:List Zf) (c:Ze) (fr:List Zf) (room:Int),Xx K c->Zhh c->0<=room->room<=1000->Mb (Zc4 l c fr room).1=Mb c/\Mf (Zc4 l c fr room).1=Mf c/\Zhh (Zc4 l c fr room).1/\room-szL l<=(Zc4 l c fr room).2.2/\(Zc4 l c fr room).2.2<=room
 | [],c,_,room,_,hc,_,_=>⟨rfl,rfl,hc,by simp only[szL,Zc4];omega,Int.le_refl _⟩
 |f::r,c,fr,room,h,hc,h0,h1=>by
  have hl:=h.str.len;have hz:=Xa7 f;unfold Zc4;split
  ·rename_i hf;have e:IntKind.i64.wrap (room-fsz f)=room-fsz f:=Zv (by omega) (by omega);obtain⟨a1,a2⟩:=Xen (c:=c) (by omega) f;obtain⟨b1,b2,b3,b4,b5⟩:=Q6o hK r (mkV c f) (fr++ [f]) (room-fsz f) (Zwc h hK f) (Q3q h hK hc f) (by omega) (by omega);rw[e];simp only[szL];exact⟨by rw[b1,a1],by rw[b2,a2],b3,by omega,by omega⟩
  ·obtain⟨b1,b2,b3,b4,b5⟩:=Q6o hK r c fr room h hc h0 h1;simp only[szL];exact⟨b1,b2,b3,by omega,b5⟩
theorem Q6w{K:Nat}{c:Ze}(h:CQ K 13 832 c)(hK:K<=1000000)(hc:Zhh c): ∀s∈(emF c 400).2.2.2.2.1,s.2.2.2.2.2.2.1=true->s.2.1.1<3->s.2.1.2.2.1≠[]->s.2.2.1.1-s.2.2.1.2.1<=0\/(emF c 400).2.2.2.2.2.1.1- (emF c 400).2.2.2.2.2.1.2.1<=0:=by
 have hcost:=Q85 h hK hc;obtain⟨b1,b2,b3,b4,b5⟩:=Q6o hK (cfL c) c [] 400 h.inv hc (by decide) (by decide);have hX:=Q87 (K:=K) hK (cfL c) c [] 400 h;have hq:=hX.q;have hlen: ((Zc4 (cfL c) c [] 400).1.2.2.2.1.length:Int)<=15:=by have:=hq.op;have:=hq.ln;omega
 have htl:=hq.tl;obtain⟨-,-,m3,-,-,-⟩:=Q4i hX.inv hK b3;have hsk:=Z04 (l:=(Zc4 (cfL c) c [] 400).1.2.2.2.1) (f:=skF []) (n:=1) fun s _=>(Q8a [] s).2;have hmf:=Z04 (l:=(Zc4 (cfL c) c [] 400).1.2.2.2.1) (f:=Zw7) (n:=1) fun s _=>(Qwb s).2;have hmf:Mf (Zc4 (cfL c) c [] 400).1<=1* ((Zc4 (cfL c) c [] 400).1.2.2.2.1.length:Int):=hmf;obtain⟨sk',g1,g2,g3,g4⟩:=Qqw hK (by decide) 200 (Zc4 (cfL c) c [] 400).1 (Zc4 (cfL c) c [] 400).2.1 (Zc4 (cfL c) c [] 400).2.2 [] hX b3 (by rw[b1,b2];omega) (by omega) (fun s _ hf=>by cases hf) (by omega);intro s hs a1 a2 a3;exact Q9e g1 hK g2 g3 g4 hs a1 a2 a3
theorem Qcq: ∀(N M:Nat) (l:List Int) (id n:Int) (i:Nat),l.length<=1048576->i<=l.length->0<=n->n+ (l.length-i)<=1048576->l.length-i<N->l.length-i<M->
  ∃r,Zgt N l id n i=some (r,())/\Zj3 M id n l l.length i=some (r,())/\0<=r
 |0,_,_,_,_,_,_,_,_,_,h,_=>by omega
 |_,0,_,_,_,_,_,_,_,_,_,h=>by omega
 |N+1,M+1,l,id,n,i,hl,hi,h0,hn,hN,hM=>by
  unfold Zgt Zj3;by_cases h:i<l.length
  ·simp only[Zp (Zm (show(i:Int)< (l.length:Int) by omega))];rw[Zb (by omega),Zb (by omega)];cases (l.getD (i:Int).toNat (0:Int)==id)
   ·obtain⟨r,h1,h2,h3⟩:=Qcq N M l id n (i+1) hl h h0 (by omega) (by omega) (by omega);refine⟨r,?_,?_,h3⟩
    ·unfold Zke;rw[Zl rfl,Zr h (by omega)];exact h1
    ·unfold Zmb;rw[Zl rfl,Obs,Zr h (by omega),Int.add_zero,Zv (by omega) (by omega)];exact h2
   ·obtain⟨r,h1,h2,h3⟩:=Qcq N M l id (n+1) (i+1) hl h (by omega) (by omega) (by omega) (by omega);refine⟨r,?_,?_,h3⟩
    ·unfold Zke;rw[Zp rfl,Zr h (by omega),Zv (n:=n+1) (by omega) (by omega)];exact h1
    ·unfold Zmb;rw[Zp rfl,Obs,Zr h (by omega),Zv (n:=n+1) (by omega) (by omega)];exact h2
  ·simp only[Zl (Zj (show ¬(i:Int)< (l.length:Int) by omega))];exact⟨n,rfl,rfl,h0⟩
theorem Xbk(l:List Int)(id:Int)(hl:l.length<=1048576): ∃r,Z03 l id=some (r,())/\Zm4 l id=some (r,())/\0<=r:=by
 obtain⟨r,h1,h2,h3⟩:=Qcq (((l.length:Int)-0).toNat+1) (((l.length:Int)-0).toNat+1) l id 0 0 hl (by omega) (by omega) (by omega) (by omega) (by omega);exact⟨r,h1,h2,h3⟩
theorem Qgj: ∀(N M:Nat) (l ids:List Int) (low high:Int) (i:Nat),l.length<=1048576->ids.length<=1048576->0<i->i<=ids.length->ids.length-i<N->ids.length-i<M->
  ∃r,Wc N l ids low high i=some (r,())/\Zew M l low high ids ids.length i=some (r,())
 |0,_,_,_,_,_,_,_,_,_,_,h,_=>by omega
 |_,0,_,_,_,_,_,_,_,_,_,_,h=>by omega
 |N+1,M+1,l,ids,low,high,i,hl,hids,hp,hi,hN,hM=>by
  unfold Wc Zew;by_cases h:i<ids.length
  ·simp only[Zp (Zm (show(i:Int)< (ids.length:Int) by omega))];obtain⟨t,t1,t2,t3⟩:=Xbk l (ids.getD (i:Int).toNat (0:Int)) hl;rw[Zb (by omega),Zb (by omega),t1,t2];simp only[Obs];obtain⟨r,h1,h2⟩:=Qgj N M l ids (min low t) (max high t) (i+1) hl hids (by omega) h (by omega) (by omega);refine⟨r,?_,by rw[Zr h (by omega)];exact h2⟩;unfold Zi0;have e0: ((i:Int)==(0:Int))=false:=by simp;omega
   rw[e0,Bool.false_or,Zr h (by omega)];by_cases hc:t<low
   ·rw[Zp (Zm hc)];rw[show min low t=t by omega]at h1;exact h1
   ·rw[Zl (Zj hc)];rw[show min low t=low by omega]at h1;exact h1
  ·simp only[Zl (Zj (show ¬(i:Int)< (ids.length:Int) by omega))];exact⟨_,rfl,rfl⟩
theorem Xcy(l ids:List Int)(hl:l.length<=1048576)(hids:ids.length<=1048576): ∃r,Zsd l ids=some (r,())/\Zr3 l ids=some (r,()):=by
 unfold Zsd Zr3;have ef:Zlh l ids 0 0 0=ids.length+1:=by
  show((ids.length:Int)-0).toNat+1=_;omega
 rw[ef];by_cases h:ids.length=0
 ·have e0: ((ids.length:Int)==(0:Int))=true:=by simp[h]
  rw[Zp e0];unfold Wc;rw[Zl (Zj (show ¬(0:Int)< (ids.length:Int) by omega))];exact⟨0,rfl,rfl⟩
 ·have e0: ((ids.length:Int)==(0:Int))=false:=beq_eq_false_iff_ne.2 (by omega);rw[Zl e0,Zb (by omega),Zb (by omega)];obtain⟨t,t1,t2,t3⟩:=Xbk l (ids.getD (0:Int).toNat (0:Int)) hl;rw[t2];simp only[Obs];obtain⟨r,h1,h2⟩:=Qgj ids.length ids.length l ids t t 1 hl hids (by omega) (by omega) (by omega) (by omega);have eg:Zk9 l t t ids ids.length 0=ids.length+1:=by
   show((ids.length:Int)-0).toNat+1=_;omega
  have e1:IntKind.i64.wrap ((0:Int)+1)=((1:Nat):Int):=Zr (i:=0) (m:=1) (by omega) (by omega);refine⟨r,?_,?_⟩
  ·unfold Wc;rw[Zp (Zm (show(0:Int)< (ids.length:Int) by omega)),Zb (by omega),t1];simp only[Obs];unfold Zi0;rw[Zp (by simp),e1,show max (0:Int) t=t by omega];exact h1
  ·rw[eg];unfold Zew;rw[Zp (Zm (show(0:Int)< (ids.length:Int) by omega)),Zb (by omega),t2];simp only[Obs];rw[e1,Int.min_self,Int.max_self];exact h2
theorem Z43: ∀(N:Nat) (l:List Zf) (id n:Int) (i:Nat),l.length<=1048576->i<=l.length->l.length-i<N->
  ∃r,Zaf N l id n i=some (r,())/\Zaa N id n l l.length i=some (r,())
 |0,_,_,_,_,_,_,h=>by omega
 |N+1,l,id,n,i,hl,hi,hN=>by
  unfold Zaf Zaa;by_cases h:i<l.length
  ·simp only[Zp (Zm (show(i:Int)< (l.length:Int) by omega))];rw[Zb (by omega),Zb (fun _=>by omega),Zb (by omega),Zb (by omega),Zr h (by omega)];unfold Zh1;rw[Zr h (by omega)];cases ((l.getD (i:Int).toNat Qq).1==(8:Int))&& ((l.getD (i:Int).toNat Qq).2.1==id)
   ·exact Z43 N l id n (i+1) hl h (by omega)
   ·exact Z43 N l id _ (i+1) hl h (by omega)
  ·simp only[Zl (Zj (show ¬(i:Int)< (l.length:Int) by omega))];exact⟨n,rfl,rfl⟩
theorem Xcv(l:List Zf)(id:Int)(hl:l.length<=1048576): ∃r,Zrr l id=some (r,())/\Zrf l id=some (r,()):=by
 obtain⟨r,h1,h2⟩:=Z43 (((l.length:Int)-0).toNat+1) l id 0 0 hl (by omega) (by omega);exact⟨r,h1,h2⟩
theorem Qrl(code:List Int)(hc:code.length<=1048576):T (Zjw code) fun r=>Jj r.1:=by
 obtain⟨c,e,h⟩:=Q88 code hc;exact⟨_,e,h⟩
theorem Q28(c:Qp)(hc:Jj c):T (Zoe c) fun r=>Jj r.2.1/\r.1.1.length<=5:=by
 have lp: ∀(N m:Nat) (c:Qp) (l:List Zf),m<N->Jj c->l.length+m<=5->T (Zi7 N c l (m:Int)) fun r=>Jj r.2.1/\r.1.1.length<=5:=by
  intro N
  induction N with
  |zero=>intro m c l h;omega
  |succ N ih=>
   intro m c l hm hc hl;unfold Zi7;refine T.ite (fun hd=> ?_) fun _=>T.pure ⟨hc,by simp only;omega⟩;have hd:=Ode hd;refine(Q9v c hc).bind fun t ht=>T.guard (by unfold Qg;simp only[List.length_singleton];omega) ?_;rw[show IntKind.i64.wrap ((m:Int)-1)=((m-1:Nat):Int) by rw[Zv (by omega) (by omega)];omega];exact ih (m-1) _ _ (by omega) ht.1 (by simp;omega)
 unfold Zoe;refine(Zc1 c _ hc).bind fun t ht=> ?_;have h1:=ht.2.1;have h2:=ht.2.2 (by omega)
 obtain⟨m,hm⟩:=Int.eq_ofNat_of_zero_le h1;rw[hm];exact lp _ m _ [] (by unfold Zli;omega) ht.1 (by simp;omega)
theorem Q0o(code:List Int)(hc:code.length<=1048576):T (Zeh code) fun r=>CQ 30000 13 832 r.1.1/\r.1.2.1.length<=1000:=by
 unfold Zeh;refine(Qrl code hc).bind fun t0 h0=>(Xbt _ h0).bind fun t1 h1=> ?_;obtain⟨t,e⟩:=Q2x h1.2.inv (by omega) 40;rw[e,Obs];have hi:=Z57 h1.2.inv (by omega) 40;simp only;rw[Q7z hi (by omega),Obs];have hp:=Qr3 hi.pk (emN t1.1.1 40);exact(Z87 _ _ h1.1).bind fun t2 h2=>T.if ((Q28 _ h2).bind fun t3 h3=>T.pure ⟨h1.2,by have:=h3.2;simp only;omega⟩) (T.pure ⟨h1.2,hp⟩)
theorem Q0m(code:List Int)(hc:code.length<=1048576):T (Zg9 code) fun r=>r.1.length<=5:=by
 unfold Zg9;exact(Qrl code hc).bind fun t0 h0=>(Q28 _ h0).bind fun t1 h1=>(Zc1 _ _ h1.1).bind fun t2 h2=>T.pure h1.2
theorem Q0n(code:List Int)(hc:code.length<=1048576):T (Zlt code) fun r=>r.1.length<=9/\r.2.1.length<=4:=by
 have l2: ∀(N m:Nat) (c:Qp) (a b:List Int),m<N->Jj c->a.length<=9->b.length+m<=4->T (Zcm N a b (m:Int) c) fun r=>r.1.length<=9/\r.2.1.length<=4:=by
  intro N
  induction N with
  |zero=>intro m c a b h;omega
  |succ N ih=>
   intro m c a b hm hc ha hb;unfold Zcm;refine T.ite (fun hd=> ?_) fun _=>T.pure ⟨ha,by simp only;omega⟩;have hd:=Ode hd;refine(Zc1 c _ hc).bind fun t ht=>T.guard (by unfold Qg;simp only[List.length_singleton];omega) ?_;rw[show IntKind.i64.wrap ((m:Int)-1)=((m-1:Nat):Int) by rw[Zv (by omega) (by omega)];omega];exact ih (m-1) _ _ _ (by omega) ht.1 ha (by simp;omega)
 have l1: ∀(N m:Nat) (c:Qp) (a:List Int),m<N->Jj c->a.length+m<=9->T (Zcl N a (m:Int) c) fun r=>r.1.length<=9/\r.2.1.length<=4:=by
  intro N
  induction N with
  |zero=>intro m c a h;omega
  |succ N ih=>
   intro m c a hm hc ha;unfold Zcl;refine T.ite (fun hd=> ?_) fun _=> ?_
   ·have hd:=Ode hd;refine(Zc1 c _ hc).bind fun t ht=>T.guard (by unfold Qg;simp only[List.length_singleton];omega) ?_;rw[show IntKind.i64.wrap ((m:Int)-1)=((m-1:Nat):Int) by rw[Zv (by omega) (by omega)];omega];exact ih (m-1) _ _ (by omega) ht.1 (by simp;omega)
   ·refine(Zc1 c _ hc).bind fun t ht=> ?_;have h1:=ht.2.1;have h2:=ht.2.2 (by omega)
    obtain⟨q,hq⟩:=Int.eq_ofNat_of_zero_le h1;rw[hq];exact l2 _ q _ _ _ (by unfold Zgg;omega) ht.1 (by omega) (by simp;omega)
 unfold Zlt;refine(Qrl code hc).bind fun t0 h0=>(Zc1 _ _ h0).bind fun t ht=> ?_;have h1:=ht.2.1;have h2:=ht.2.2 (by omega)
 obtain⟨q,hq⟩:=Int.eq_ofNat_of_zero_le h1;rw[hq];exact l1 _ q _ _ (by unfold Zgf;omega) ht.1 (by simp;omega)
theorem Q4t(code:List Int)(hc:code.length<=1048576):T (Zhu code) fun r=>CQ 30000 13 832 r.1.1:=by
 unfold Zhu;exact(Qrl code hc).bind fun t0 h0=>(Xbt _ h0).bind fun t1 h1=>(Z5y _ _ h1.1 (by simp)).bind fun t2 h2=>(Zc1 _ _ h2.1).bind fun t3 h3=>T.pure h1.2
theorem Q6u(code:List Int)(hc:code.length<=1048576):T (Zhv code) fun r=>CQ 30000 13 832 r.1.1:=by
 unfold Zhv;exact(Qrl code hc).bind fun t0 h0=>(Xbt _ h0).bind fun t1 h1=>(Z5y _ _ h1.1 (by simp)).bind fun t2 h2=>T.pure h1.2
theorem Q2u{K:Nat}(b:Int): ∀(n:Nat) (c:Ze) (o:List Int),Xx K c->K+n<=90000->(drF b n c o).length<=o.length+1000*n
 |0,_,o,_,_=>by simp[drF]
 |n+1,c,o,h,hK=>by
  unfold drF;cases emN c b== -1
  ·rw[Ocf];have hi:=Z57 h (by omega) b;have hp:=Qr3 hi.pk (emN c b);have hf:=Zx0 (pkF (emN c b) (emC c b).2.2.2.2.2.2.2.2.2.2.2.2.2.2.2.1).1.2.1;have:=Q2u (K:=K+1) b n (emC c b) (o++Zgv (pkF (emN c b) (emC c b).2.2.2.2.2.2.2.2.2.2.2.2.2.2.2.1).1.2.1) hi (by omega);simp only[List.length_append]at this;omega
  ·rw[Oct];omega
theorem Qx9{K:Nat}{c:Ze}(h:Xx K c)(hK:K<=70000)(b most:Int): ∃l,Zgq c b most=some (l,())/\Zgh c b most=some (l,())/\l.length<=1048576:=by
 refine⟨drF b (min most 30).toNat c [],?_,?_,?_⟩
 ·unfold Zgq;rw[Zb4 h (by omega),Obs];exact Q0l b most _ _ 0 K c [] (by omega) (by unfold Zdi;omega) (by omega) h (by omega) (by simp)
 ·unfold Zgh;exact Q0k b (min most 30) (by omega) _ _ 0 K c [] (by omega) (by unfold Zc7;omega) (by omega) h (by omega) (by simp)
 ·have:=Q2u b (min most 30).toNat c [] h (by omega);simp only[List.length_nil]at this;omega
theorem Qsg(a:List Int)(h:a.length<=1048576):Zn2 a a=some (true,()):=by
 unfold Zn2;rw[Zl (by simp)];exact Q21 (d:=(0:Int)) (ne:=fun x y=>x !=y) (by simp) (L:=Zm5) (fun _ _ _ _=>rfl) _ a 0 (by omega) (by omega) (by unfold Zla;omega)
end Go.Proofs.YtdhchdiikmnmeaaGreat

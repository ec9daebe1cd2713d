/- FnErrors returns true for all arguments. No condition. -/
import Derived.Test.YtgepmefongfeeaaGreatK2
import Derived.Test.YtgepmefongfeeaaGreatP3
import Derived.KernelRfl
namespace Go.Proofs.YtgepmefongfeeaaGreat
open Go.Am Go.ChangeShapes Go.WideShapes Go.ChangeAt Go.RowKit
set_option linter.unusedVariables false
theorem Q9c(c:Qb)(hc:Y8 c):T (Zsx c) fun r=>Y8 r.2.1/\Qlt r.1.1:=by
 have lp: ∀(N m:Nat) (c:Qb) (l:List Zi),m<N->Y8 c->l.length+m<=5->(∀f∈l,FOK f)->T (Zjv N c l (m:Int)) fun r=>Y8 r.2.1/\Qlt r.1.1:=by
  intro N
  induction N with
  |zero=>intro m c l h;omega
  |succ N ih=>
   intro m c l hm hc hl hf;unfold Zjv;refine T.ite (fun hd=> ?_) fun _=>T.pure ⟨hc,by simp only;omega,hf⟩;have hd:=Ode hd;refine(Qwf c hc).bind fun t ht=>T.guard (by unfold Qo;simp only[List.length_singleton];omega) ?_;rw[show IntKind.i64.wrap ((m:Int)-1)=((m-1:Nat):Int) by rw[Zr (by omega) (by omega)];omega];exact ih (m-1) _ _ (by omega) ht.1 (by simp;omega) (fun f h=>by rcases List.mem_append.1 h with h|h;exact hf f h;rw[List.mem_singleton]at h;rw[h];exact ht.2)
 unfold Zsx;refine(Zeg c _ hc).bind fun t ht=> ?_;have h1:=ht.2.1;have h2:=ht.2.2 (by omega)
 obtain⟨m,hm⟩:=Int.eq_ofNat_of_zero_le h1;rw[hm];exact lp _ m _ [] (by unfold Zlo;omega) ht.1 (by simp;omega) (by simp)
theorem Q85(code:List Int)(h:code.length<=1048576):T (Zeb code) fun r=>r.1.length<=1000:=by
 unfold Zeb;refine(Xby code h).bind fun t0 h0=>(Q9c _ h0).bind fun t1 h1=>(Q6b h1.2).bind fun t2 h2=>(Zeg _ _ h1.1).bind fun t3 h3=>T.if ((Q9u _ h3.1 _ (by omega)).bind fun t4 h4=>T.pure (by have:=h4.2;simp only;omega)) (T.if (T.guard (by unfold Ka;simp only[List.length_cons,List.length_nil];omega) (T.guard (by unfold Ka;simp only[List.length_append,List.length_cons,List.length_nil];omega) (T.pure (by simp only[List.length_append,List.length_cons,List.length_nil];omega)))) (T.if (T.guard (by unfold Ka;simp only[List.length_cons,List.length_nil];omega) ((Q3k _ 4 h3.1 (by omega)).bind fun t5 h5=>T.guard ?_ (T.pure ?_))) (T.pure (by simp only;omega))))
 ·have:=h5.2;unfold Ka;simp only[List.length_append,List.length_cons,List.length_nil];omega
 ·have:=h5.2;simp only[List.length_append,List.length_cons,List.length_nil];omega
theorem Q86(code:List Int)(h:code.length<=1048576):T (Zec code) fun r=>Qd 30000 r.1.1/\r.1.2.1.length<=1000:=by
 obtain⟨c,e,hc⟩:=Qvr code h;unfold Zec;rw[e,Obs];exact(Q68 c hc).bind fun x hx=>(Q85 code h).bind fun t ht=>T.pure ⟨hx.2,ht⟩
theorem Qwk(code:List Int)(h:code.length<=1048576):Zit code=some (true,()):=by
 obtain⟨⟨⟨d,f,u⟩,w⟩,e,D⟩:=Q59 code h;simp only at D;have hi:=D.inv;unfold Zit;rw[e,Obs,Xa4 hi D.fok (by omega) (by omega),Obs,Zzq hi (by omega),Obs,Qho hi (by omega),Obs];have hF:=D.fok;unfold FOK at hF;simp only[Qry,Zta hF];by_cases hx:0<=Yq d.2.2.2.1 f.2.1
 ·rw[if_pos hx];cases hc:Ztm d
  ·rfl
  cases hr:Qb5 d.1 f.2.1
  ·rfl
  cases hk:Y7 f
  ·rfl
  cases h8:f.1==8
  ·rfl
  have E:EnF 30000 d f.2.1:=⟨hi,(Q80 hi (by omega)).1 hc,hx⟩
  obtain⟨m1,m2,m3⟩:=E.mem (by omega);have F:=E.con.st E.inv (by omega) m1;obtain⟨q1,q2,q3,q4⟩:=okF hk;have q3:=q3 (by simpa using h8);simp only[Bool.and_self,Oct,Obs,Ota];rw[Zr (by omega) (by omega)];by_cases hl:f.2.2.1+ (f.2.2.2.1.length:Int)>(d.2.2.2.1.getD (Yq d.2.2.2.1 f.2.1).toNat Zj).2.2.2.2.1.2.2.1
  ·have e3: (pre d f true true (Qdg d f)).2.1=3:=by
    unfold pre Zdw;rw[hc,hk,Zk hx];simp only[Oct,Bool.and_self,beq_self_eq_true];unfold Qdg;have hb:flB d (atV d f.2.1) (nbV (atV d f.2.1).2.2.2.1 (IntKind.i64.wrap (f.2.2.1+ (f.2.2.2.1.length:Int))))=false:=by
     have hs:=F.hs;have hl:f.2.2.1+ (f.2.2.2.1.length:Int)>(atV d f.2.1).2.2.2.2.1.2.2.1:=hl;unfold flB nbV;rw[F.rcv,Zr (by omega) (by omega),Kx.2 ⟨by omega,by omega⟩,Bool.and_self,Oct];have hq:=(Q7u (E.inv.str.all _ m1).rcv (by omega)).1 F.rcv;have:=hq.hq;rw[Zr (by omega) (by omega),Zl (by unfold lft;omega),Bool.false_and]
    rw[hb];rfl
   rw[e3];simp only[bne_self_eq_false,Bool.and_false,Ocf]
  ·rw[Zl hl,Bool.false_and];rfl
 ·rw[if_neg hx];cases Ztm d<;>rfl
theorem Xbc(code:List Int)(h:code.length<=1048576)(l:List Zi)(hf: ∀f∈l,FOK f)(hl:l.length<=1000): ∀(N i K:Nat) (x:Zf),l.length-i<N->i<=l.length->Qd K x->25<=K->K+gr (l.drop i)<=390000->
  Zb8 N code (hpF x (l.drop i)).2 l true x (i:Int)=some (true,())
 |0,_,_,_,h,_,_,_,_=>by omega
 |N+1,i,K,x,hN,hi,hx,h25,hK=>by
  unfold Zb8 Zr1;by_cases hh:i<l.length
  ·have hd:=Yl (d:=Qr) hh;have hF:=hf _ (Qh (d:=Qr) hh);rw[hd,Q2k]at hK;rw[hd,Zk (by omega),Bool.and_self,Oct,Zb (by omega),Zt hh (by omega),show(i:Int).toNat=i from rfl,Xcd hx hF h25 (by omega)];simp only[Kj,Obs];unfold hpF;cases hc: (Z0a x (l.getD i Qr)).2.1 !=(0:Int)
   ·have hI:=Q2i hx hF h25 (by omega);exact Xbc code h l hf hl N (i+1) _ (Z0a x (l.getD i Qr)).1 (by omega) (by omega) hI (by omega) (by omega)
   ·simp only[Oct,beq_self_eq_true]
  ·rw[Zl (by omega),List.drop_eq_nil_of_le (by omega)];exact Qwk code h
theorem Q91(code:List Int):Zsj code=some (true,()):=by
 unfold Zsj Qq9;rw[Obs];by_cases hb:code.length>1048576
 ·rw[Zn (Zk (by omega))]
 rw[Zm (Zl (by omega))];have hl:code.length<=1048576:=by omega
 obtain⟨⟨⟨c,s,u⟩,w⟩,e,hi,hs⟩:=Q86 code hl;simp only at hi hs;obtain⟨a,b⟩:=hpE hi (by omega) s hs (by omega);have ey:Qd (30000+2*s.length) (hpV c s).1:=by
  obtain⟨y,e,hy⟩:=Q4a hi (by omega) s hs (by omega);rw[a]at e;cases e;exact hy
 unfold Z0f;rw[e,Obs,b,Obs,a,Obs];simp only[bne_self_eq_false,Ocf,Xd9 ey (by omega),Obs,Ont,Bool.or_self,Qho hi (by omega)];unfold Zla Zoa;obtain⟨⟨l,b,u⟩,ed,hg,hn,hf⟩:=Qzz s hs;simp only at hg hn hf;have ev:Xav (Y3 s)=(l,b,()):=by rw[ed];rfl
 unfold hpV;rw[ev];cases hc:Ztm c
 ·exact Qwk code hl
 cases hcl:Z6s c !=(0:Int)
 ·simp only[Bool.not_false,Bool.and_self,Oct,Obs,ed];have hz:Z6s c=0:=by simpa using hcl
  cases b
  ·simp only[Ocf,Q16 hz (n:=7) (by omega) (by omega)];show Zb8 (V3 code 7 l false c 0) code 7 l false c 0=some (true,());unfold V3 Zb8;rw[Bool.and_false,Ocf];exact Qwk code hl
  ·simp only[Oct];obtain⟨h1,h2⟩:=Q6u l c hz;have:=Xbc code hl l hf (by omega) (V3 code (hpF c l).2 l true c 0) 0 30000 c (by unfold V3;omega) (by omega) hi (by omega) (by rw[List.drop_zero];omega);rw[List.drop_zero]at this;rw[show((hpF c l).1.2.2.2.2.2.2.2.2.2.2.2.2.2.2.2.2.2.1 !=(0:Int))=((hpF c l).2 !=0) by
    by_cases h: (hpF c l).2=0
    ·rw[h,show(hpF c l).1.2.2.2.2.2.2.2.2.2.2.2.2.2.2.2.2.2.1=0 from h1 h]
    ·rw[show(hpF c l).1.2.2.2.2.2.2.2.2.2.2.2.2.2.2.2.2.2.1=(hpF c l).2 from h2 h],
    show((hpF c l).2 !=0&& (hpF c l).1.2.2.2.2.2.2.2.2.2.2.2.2.2.2.2.2.2.1 !=(hpF c l).2)=false by
    by_cases h: (hpF c l).2=0
    ·rw[h];rfl
    ·rw[show(hpF c l).1.2.2.2.2.2.2.2.2.2.2.2.2.2.2.2.2.2.1=(hpF c l).2 from h2 h,bne_self_eq_false,Bool.and_false]]
   simp only[beq_self_eq_true,Ont,Bool.or_self,Ocf,Bool.false_and];exact this
 ·exact Qwk code hl
theorem Q7d: ∀xs:Jp Ztq.args,wfA Ztq.args xs->Zsj xs.1=some (true,()):=fun xs _=>Q91 xs.1
end Go.Proofs.YtgepmefongfeeaaGreat

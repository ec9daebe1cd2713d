/- FnForged returns true for all arguments. No condition. -/
import Derived.Test.YtfhellopliifdaaGreatK2
import Derived.Test.YtfhellopliifdaaGreatP3
import Derived.KernelRfl
set_option linter.all false
namespace Go.Proofs.YtfhellopliifdaaGreat
open Go.Am Go.ChangeShapes Go.WideShapes Go.ChangeAt Go.RowKit
theorem Q91(c:Qc)(hc:Y7 c):T (Zx7 c) λr=>Y7 r.2.1/\Qek r.1.1:=by
 have lp:∀(N m:Nat)(c:Qc)(l:List Zf),m<N->Y7 c->l.length+m<=5->(∀f∈l,FOK f)->T (Zn4 N c l (m:Int)) λr=>Y7 r.2.1/\Qek r.1.1:=by
  intro N
  induction N with
  |zero=>omega
  |succ N ih=>
   intro m c l hm hc hl hf;unfold Zn4;refine T.ite (λhd=>?_) λ_=>T.pure ⟨hc,by simp only;omega,hf⟩;have hd:=Ode hd;refine(Q1o c hc).bind λt ht=>T.guard (by grind[Qd]) ?_;rw[show IntKind.i64.wrap ((m:Int)-1)=((m-1:Nat):Int) by grind[Zs]]
   grind
 unfold Zx7;refine(Zke c _ hc).bind λt ht=>?_
 grind[Zp1]
theorem Xaw(c:Qc)(hc:Y7 c):T (Z0h c 9) λr=>Y7 r.2.1/\r.1.1.length<=10:=by
 have lp:∀(N m:Nat)(c:Qc)(s:List UInt8),m<N->Y7 c->s.length+m<=10->T (Zpj N c s (m:Int)) λr=>Y7 r.2.1/\r.1.1.length<=10:=by
  intro N
  induction N with
  |zero=>omega
  |succ N ih=>
   intro m c s hm hc hl;unfold Zpj;refine T.ite (λhd=>?_) λ_=>T.pure ⟨hc,by simp only;omega⟩;have hd:=Ode hd;refine(Zke c _ hc).bind λt ht=>?_;rw[Q5i,Obs];refine T.guard (by grind[Z7p,Yh]) ?_;rw[show IntKind.i64.wrap ((m:Int)-1)=((m-1:Nat):Int) by grind[Zs]]
   grind[Z7p]
 unfold Z0h;refine(Zke c _ hc).bind λt ht=>?_;have h1:=ht.2.1;have h2:=ht.2.2 (by decide)
 rw[show IntKind.i64.wrap (9+1)=10 by decide]at h2
 grind[Zrv]
theorem Xeo(c:Qc)(hc:Y7 c):T (Zt0 c) λr=>Y7 r.2.1/\r.1.1.length<=1000:=by
 unfold Zt0;exact(Qb9 c _ hc).bind λt ht=>T.if ((Xaw _ ht).bind λt2 h2=>T.pure ⟨h2.1,by grind⟩) ((Q91 _ ht).bind λt3 h3=>(Qyd h3.2).bind λt4 h4=>(Qb9 _ _ h3.1).bind λt5 h5=>T.if ((Xao _ h5 _ (by omega)).bind λt6 h6=>T.pure ⟨h6.1,by grind⟩) (T.pure ⟨h5,by simp only;omega⟩))
theorem Xau(code:List Int)(h:code.length<=1048576):T (Z0g code) λr=>Z4 30000 r.1.1/\(∃v,KC v r.1.1)/\PL r.1.2.1:=by
 obtain⟨c,e,hc⟩:=Ql8 code h;have lp:∀(x t:Zc),Z4 30000 x->(∃v,KC v x)-> ∀(N m:Nat)(c:Qc)(l:List (List UInt8)),m<N->Y7 c->l.length+m<=5->(∀s∈l,s.length<=1000)->T (Zpi N t x l (m:Int) c) λr=>Z4 30000 r.1.1/\(∃v,KC v r.1.1)/\PL r.1.2.1:=by
  intro x t hx kx N
  induction N with
  |zero=>omega
  |succ N ih=>
   intro m c l hm hc hl hf;unfold Zpi;refine T.ite (λhd=>?_) λ_=>T.pure ⟨hx,kx,by simp only;omega,hf⟩;have hd:=Ode hd;refine(Xeo c hc).bind λt ht=>T.guard (by grind[Qd]) ?_;rw[show IntKind.i64.wrap ((m:Int)-1)=((m-1:Nat):Int) by grind[Zs]]
   grind
 unfold Z0g;rw[e,Obs];refine((Q66 c hc).pc (Xj3 c)).bind λx hx=>(Zke _ _ hx.1.1).bind λt ht=>?_;have h1:=ht.2.1;have h2:=ht.2.2 (by omega)
 obtain⟨m,hm⟩:=Int.eq_ofNat_of_zero_le h1;rw[hm];exact lp _ _ hx.1.2 hx.2 _ m _ [] (by simp[Zru]) ht.1 (by simp;omega) (by simp)
theorem Q9p(code:List Int)(h:code.length<=1048576):T (Zln code) λr=>Z4 30000 r.1.1:=by
 obtain⟨c,e,hc⟩:=Ql8 code h;unfold Zln;rw[e,Obs];exact(Q66 c hc).bind λx hx=>(Qb9 _ _ hx.1).bind λt _=>T.if ((Qhs hx.2 (by omega) 3).bind λt ht=>T.pure ht) (T.pure hx.2)
theorem Q9o(code:List Int)(h:code.length<=1048576):T (Zjn code) λ_=>True:=by
 obtain⟨c,e,hc⟩:=Ql8 code h;unfold Zjn;rw[e,Obs];exact(Zke _ _ hc).bind λt _=>T.pure trivial
theorem Xkf(n:Int):∃s,Zqw n=some (s,())/\Zrj n=some (s,()):=by
 unfold Zqw Zrj;cases n==0
 ·cases n==3
  ·cases n==4
   ·cases n==5
    ·cases n==6
     ·cases n==7<;>exact⟨_,rfl,rfl⟩
     simp_all
    simp_all
   simp_all
  simp_all
 simp_all
theorem Qme(code:List Int)(h:code.length<=1048576):(Option.bind (Zln code) λt90=>
    Option.bind (Zjn code) λt92=>
    Option.bind (Zl4 t90.1.1) λt94=>
    Option.bind (Ztf t90.1.1) λt96=>
    Option.bind (bif(t94.1==t96.1)then(Zqw t92.1)else some (([]:List UInt8),())) λt100=>
    Option.bind (bif(t94.1==t96.1)then(Zrj t92.1)else some (([]:List UInt8),())) λt102=>
    some ((t94.1==t96.1)&&(t100.1==t102.1),()))=some (true,()):=by
 obtain⟨⟨⟨s,u⟩,w⟩,e,hs⟩:=Q9p code h;obtain⟨n,e2,-⟩:=Q9o code h;obtain⟨t,a,b⟩:=Xkf n.1;rw[e,Obs,e2,Obs];simp only;rw[Xiz hs (by omega),Xk4 hs (by omega),Obs,Obs];simp_all
theorem Xax(code:List Int):Zxv code=some (true,()):=by
 unfold Zxv Qon;rw[Obs];by_cases hb:code.length>1048576
 ·grind
 rw[Zo (Zn)];have hl:code.length<=1048576:=by omega
 obtain⟨⟨⟨c,l,u⟩,w⟩,e,hi,⟨v,kc⟩,hp⟩:=Xau code hl;simp only at hi kc hp;have ed:Zj3 code=some ((c,l,()),()):=by
  simp_all[Zj3]
 obtain⟨f1,f2,f3⟩:=fpE hi (by omega) hp;obtain⟨g1,g2⟩:=feE hi (by omega) hp (by omega);have h10:=hp.1;rw[ed,Obs,f2,Obs,f1,Obs,g2,Obs,g1,Obs];simp only[bne_self_eq_false,Q57 f3 (show 30000+20000<=1000000 by omega),Obs,Ont,Bool.or_self,Ocf,Z0k hi (show 30000<=1000000 by omega)];unfold Zfz;by_cases hg:(Zbx c&& !(Zsq c !=(0:Int)))=true
 ·have hfe:feV c l=feF c l 0:=by simp_all[feV]
  obtain⟨hc,hz⟩:=Bool.and_eq_true_iff.1 hg;have hz:Zsq c=0:=by simpa using hz
  have hcl:(c.2.2.2.2.2.2.2.2.2.2.2.2.2.2.2.2.2.1 !=(0:Int))=false:=by simpa using hz
  rw[hfe,hc,hcl];simp only[Oct,Obs,Bool.not_false,Ota,Bool.false_or];rcases Q6a l c 0 hz hp.2 (Int.le_refl _)with⟨a,b,d⟩|⟨a,b,d,x,y⟩
  ·simp_all[Zb,Qme]
  ·have hG:Zsp (fpF c l):=by
    obtain⟨K',g⟩:=Xcu l 30000 c hp.2 ⟨hi,kc,(Z7v hi).1 hc⟩ (by omega) (by omega);exact g.con
   have hx:(fpF c l).2.2.2.2.2.2.2.2.2.2.2.2.2.2.2.2.2.1=(feF c l 0).2:=x;have hs:Zl4 (fpF c l)=some (true,()):=by
    grind[Xiz,Z7v]
   have ht:PL (l.take ((feF c l 0).1+1).toNat):=⟨by grind,λs hs=>hp.2 s (List.mem_of_mem_take hs)⟩
   obtain⟨-,k2,-⟩:=fpE hi (by omega) ht;rw[show(feF c l 0).1-0+1=(feF c l 0).1+1 by omega]at y;rw[y]at k2;rw[hx,Zs (n:=(feF c l 0).1+1),Zl (p:=(feF c l 0).1>=0)];simp only[bne_self_eq_false,Oct,Ocf,hs,Obs,Ota,Ont,Bool.or_self];rw[Zb (λ_=>by omega),show Int.toNat 0=0 from rfl,Nat.sub_zero,List.drop_zero,k2,Obs];simp only[Q57 f3 (show 30000+20000<=1000000 by omega),Obs,Ont,Ocf]
   grind[Qme]
 ·have hfe:feV c l=(-1,0):=by unfold feV;grind
  rw[hfe];simp only[Zn (p:=(-1:Int)>=0)];have hz:(Zbx c&& !(c.2.2.2.2.2.2.2.2.2.2.2.2.2.2.2.2.2.1 !=(0:Int)))=false:=Bool.eq_false_iff.2 hg;cases hc:Zbx c
  ·simp_all[Zb,Qme]
  ·rw[hc,Ota]at hz;simp only[Oct,Obs,hz,Bool.and_false,Bool.false_and,Bool.or_self,Ocf];simp_all[Zb,Qme]
theorem Q7a:∀xs:Vm Zy0.args,wfA Zy0.args xs->Zxv xs.1=some (true,()):=λxs _=>Xax xs.1
end Go.Proofs.YtfhellopliifdaaGreat

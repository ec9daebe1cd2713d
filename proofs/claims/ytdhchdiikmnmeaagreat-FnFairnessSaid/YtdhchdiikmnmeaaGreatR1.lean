/- FnFairness returns true for all arguments. No condition. -/
import Derived.Test.YtdhchdiikmnmeaaGreatK1
import Derived.Test.YtdhchdiikmnmeaaGreatP3
import Derived.KernelRfl
namespace Go.Proofs.YtdhchdiikmnmeaaGreat
open Go.Am Go.ChangeShapes Go.WideShapes Go.ChangeAt Go.RowKit
set_option linter.unusedVariables false
theorem Q9a(c:Ze)(s:Zh)(k:Int): (Zh4 c s k).2.2.2.2.2.1=s.2.2.2.2.2.1:=by
 unfold Zh4;cases k==(4:Int)<;>cases k==(5:Int)<;>cases k==(17:Int)<;>cases k==(21:Int)<;>rfl
theorem Q91{c:Ze}(hl:c.2.2.2.1.length<=1000000)(f:Zf):prL (mkV c f).2.2.2.1=prL c.2.2.2.1:=by
 unfold mkV;cases Zc3 c
 ·rfl
 ·rw[Oct];rcases Qwv hl f with e| ⟨-,e⟩
  ·rw[e]
  ·rw[e];exact Qxh (Qn5 _ _ _) (by rw[Q9a])
theorem Qvz{K:Nat}(hK:K<=1000000): ∀(l:List Zf) (c:Ze) (fr:List Zf) (room:Int),Xx K c->prL (Zc4 l c fr room).1.2.2.2.1=prL c.2.2.2.1
 | [],_,_,_,_=>rfl
 |f::r,c,fr,room,h=>by
  have hl:=h.str.len;unfold Zc4;split
  ·rw[Qvz hK r _ _ _ (Zwc h hK f),Q91 (by omega)]
  ·exact Qvz hK r _ _ _ h
theorem Qvx: ∀(l:List Zf) (c:Ze) (fr:List Zf) (room:Int),∀f∈(Zc4 l c fr room).2.1,f∈fr\/f∈l
 | [],_,_,_,_,h=> .inl h
 |g::r,c,fr,room,f,h=>by
  unfold Zc4 at h;split at h
  ·rcases Qvx r _ _ _ f h with h|h
   ·rcases List.mem_append.1 h with h|h
    ·exact .inl h
    ·exact .inr (by rw[List.mem_singleton.1 h];exact List.mem_cons_self)
   ·exact .inr (List.mem_cons_of_mem _ h)
  ·rcases Qvx r _ _ _ f h with h|h
   ·exact .inl h
   ·exact .inr (List.mem_cons_of_mem _ h)
theorem Q86{c:Ze}{f:Zf}(h:f∈cfL c):f.1≠8:=by
 obtain⟨-,hm⟩:=Q0f h;rcases hm with hm| ⟨s,-,hm⟩|hm
 ·have:=Q2q hm;omega
 ·rcases Q11 hm with⟨-,e⟩| ⟨-,e⟩| ⟨-,e⟩| ⟨-,e⟩<;>(rw[e];simp)
 ·have:=Q2t hm;omega
theorem Qyg: ∀a b:List Zf,Zgv (a++b)=Zgv a++Zgv b
 | [],b=>rfl
 |x::a,b=>by
  rw[List.cons_append,Zgv,Zgv,Qyg a b];split<;>rfl
theorem Quf: ∀{a:List Zf},(∀f∈a,f.1≠8)->Zgv a=[]
 | [],_=>rfl
 |x::a,h=>by
  rw[Zgv,if_neg (h x List.mem_cons_self)];exact Quf fun f hf=>h f (List.mem_cons_of_mem _ hf)
theorem Xea{K:Nat}{k w:Int}{c:Ze}(h:CQ K k w c)(hK:K<=1000000)(hc:Zhh c)(b:Int):uB c (-9223372036854775808) (Zgv (emF c b).1)=true:=by
 have hl:=h.inv.str.len;have hX:=Qn2 hK (cfL c) c [] b h.inv;have hXc:Zhh (Zc4 (cfL c) c [] b).1:=by
  have: ∀(l:List Zf) (x:Ze) (fr:List Zf) (room:Int),Xx K x->Zhh x->Zhh (Zc4 l x fr room).1:=by
   intro l
   induction l with
   |nil=>intro x fr room _ h;exact h
   |cons f r ih=>
    intro x fr room hi hx;unfold Zc4;split
    ·exact ih _ _ _ (Zwc hi hK f) (Q3q hi hK hx f)
    ·exact ih _ _ _ hi hx
  exact this _ _ _ _ h.inv hc
 obtain⟨new,n1,-,n3⟩:=Q0u hK hc (by omega) 200 (Zc4 (cfL c) c [] b).1 (Zc4 (cfL c) c [] b).2.1 (Zc4 (cfL c) c [] b).2.2 [] (-9223372036854775808) hX hXc (Qvz hK _ _ _ _ h.inv) fun y hy=>by
  obtain⟨⟨s,hs,-,es⟩,-⟩:=Qor hy;have:=(hXc.st hX hK hs).pr;rw[es];simp only;omega
 have e: (emF c b).1=(Zc4 (cfL c) c [] b).2.1++new:=n1;rw[e,Qyg,Quf fun f hf=> ?_]
 ·exact n3
 ·rcases Qvx _ _ _ _ f hf with hf|hf
  ·cases hf
  ·exact Q86 hf
theorem Qr2{n:Int}: ∀{l:List Z8},(∀p∈l,p.1≠n)->pkF n l=(((0:Int),(([]:List Zf),())),false,())
 | [],_=>rfl
 |x::l,h=>by
  rw[pkF,if_neg (h x List.mem_cons_self)];exact Qr2 fun p hp=>h p (List.mem_cons_of_mem _ hp)
theorem Qy8{n:Int}{x:List Zf}: ∀{l:List Z8},(∀p∈l,p.1≠n)->pkF n (l++ [(n,(x,()))])=((n,(x,())),true,())
 | [],_=>by rw[List.nil_append,pkF,if_pos rfl]
 |y::l,h=>by
  rw[List.cons_append,pkF,if_neg (h y List.mem_cons_self)];exact Qy8 fun p hp=>h p (List.mem_cons_of_mem _ hp)
theorem Q7y{n:Int}: ∀{l:List Z8} {p:Option Int},pkB n p l=true-> ∀x∈l,x.1<=IntKind.i64.wrap (n-1)
 | [],_,_,x,hx=>by cases hx
 |y::l,p,h,x,hx=>by
  simp only[pkB,Oba]at h;rcases List.mem_cons.1 hx with rfl|hx
  ·exact(Zg0.1 h.1.1.1).2
  ·exact Q7y h.2 x hx
theorem Q6v(c:Ze)(b:Int): (emF c b).2.2.2.2.2.2.2.2.2.2.2.2.2.2.2.2.1=c.2.2.2.2.2.2.2.2.2.2.2.2.2.2.2.1:=by
 have a:=Qn7 200 (emX c b).1 (emX c b).2.1 (emX c b).2.2 [];have d:=Qvy (cfL c) c [] b;exact(congrArg (fun z=>z.2.1) a).trans (congrArg (fun z=>z.2.2.1) d)
theorem Q22{K:Nat}{k w:Int}{c:Ze}(h:CQ K k w c)(hK:K<=1000000){n:Int}{p:Z8}{is:Bool}(hp:p.2.1.length<=1000)(hi:is=true->0<=n/\0<p.2.1.length/\uB c (-9223372036854775808) (Zgv p.2.1)=true):Jo c n p is=some (true,()):=by
 unfold Jo;cases is
 ·simp
 ·obtain⟨a,b,d⟩:=hi rfl;have hu:=uI h hK p.2.1 (by omega);rw[d]at hu;rw[Zm (p:=n>=0) a,Zm (p:=(p.2.1.length:Int)>0) (by omega)];simp[hu]
theorem Q23{e y:Ze}{n:Int}{p:Z8}{is:Bool}(hl:y.2.2.2.1.length<=1000000)(h: ∀s∈y.2.2.2.1,s.2.2.2.2.2.2.1=true->s.2.1.1<3->s.2.1.2.2.1≠[]->s.2.2.1.1-s.2.2.1.2.1<=0\/y.2.2.2.2.1.1-y.2.2.2.2.1.2.1<=0): ∀(N i:Nat),y.2.2.2.1.length-i<N->i<=y.2.2.2.1.length->Zbi N e n y p is (i:Int)=Jo e n p is
 |0,_,h,_=>by omega
 |N+1,i,hN,hi=>by
  unfold Zbi;by_cases hh:i<y.2.2.2.1.length
  ·have hm:=h _ (Z2 (d:=Zn) hh);rw[Zp (Zm (by omega)),Zb (by omega),show(i:Int).toNat=i from rfl,Zr hh (by omega),Q23 hl h N (i+1) (by omega) (by omega)];generalize y.2.2.2.1.getD i Zn=s at*
   simp only[Qkv,Qpo];cases hc: ((s.2.2.2.2.2.2.1&&decide (s.2.1.1<3))&&decide ((s.2.1.2.2.1.length:Int)>0))
   ·simp
   ·simp only[Oba,decide_eq_true_eq]at hc;have:=hm hc.1.1 hc.1.2 (List.length_pos_iff.1 (by omega));simp only[Oct,Obs,Ota];cases Zsj s.2.2.1
    ·simp
    ·simp only[Oct];by_cases hs:s.2.2.1.1-s.2.2.1.2.1>0
     ·rw[Zm hs];simp only[Oct,Obs,Ota];cases Zsj y.2.2.2.2.1
      ·simp
      ·simp only[Oct];rw[Zj (by omega)];rfl
     ·rw[Zj hs];simp
  ·rw[Zl (Zj (by omega))]
theorem Q9w(code:List Int):Zom code=some (true,()):=by
 have hbig:Qrh code=some (decide ((code.length:Int)>1048576),()):=rfl;unfold Zom;rw[hbig,Obs];by_cases hc: (code.length:Int)>1048576
 ·rw[Zm hc];rfl
 rw[Zj hc,Ocf];have hc:code.length<=1048576:=by omega
 obtain⟨r1,e1,k1,l1⟩:=Q0o code hc;obtain⟨r2,e2,l2⟩:=Q0m code hc;obtain⟨r3,e3,l3,l4⟩:=Q0n code hc;obtain⟨r4,e4,k4⟩:=Q4t code hc;obtain⟨r5,e5,k5⟩:=Q6u code hc;obtain⟨o,o1,o2,o3⟩:=Qx9 k4.inv (by omega) r4.1.2.1 r4.1.2.2.1;obtain⟨v,v1,v2⟩:=Xcv r2.1 r2.2.1 (by omega);obtain⟨sp,s1,s2⟩:=Xcy r3.1 r3.2.1 (by omega) (by omega);have hf:=Zx0 r2.1;rw[e1,Obs,e2,Obs,e3,Obs,e4,Obs,o2,Obs,uI k1 (by omega) _ (by omega),Obs,uS k1.inv (by omega) _ (by omega),Obs];simp only[BEq.rfl,Ont,Ocf,v1,v2,Obs,bne_self_eq_false,Bool.or_self,(Qrz r2.1 (by omega)).1,(Qrz r2.1 (by omega)).2,Qsg (Zgv r2.1) (by omega),s1,s2,o1,Qsg o o3,e5];obtain⟨t,et⟩:=Q2x k5.inv (by omega) r5.1.2.1;have hi:=Z57 k5.inv (by omega) r5.1.2.1;rw[et,Obs];simp only;rw[Q7z hi (by omega),Obs];have hpl:=Qr3 hi.pk (emN r5.1.1 r5.1.2.1);have hyl:=hi.str.len;have no: ∀q:Z8×Bool×Unit,q=pkF (emN r5.1.1 r5.1.2.1) (emC r5.1.1 r5.1.2.1).2.2.2.2.2.2.2.2.2.2.2.2.2.2.2.1->q.2.1=false->(bif q.2.1&& (r5.1.2.1==(400:Int))then Zbi (Zdc r5.1.1 (emN r5.1.1 r5.1.2.1) (emC r5.1.1 r5.1.2.1) q.1 q.2.1 (0:Int)) r5.1.1 (emN r5.1.1 r5.1.2.1) (emC r5.1.1 r5.1.2.1) q.1 q.2.1 (0:Int)else Jo r5.1.1 (emN r5.1.1 r5.1.2.1) q.1 q.2.1)=some (true,()):=fun q hq hf=>by
  rw[hf,Bool.false_and,Ocf];exact Q22 k5 (by omega) (by rw[hq];exact hpl) fun h=>by cases h
 cases hg:emG r5.1.1 r5.1.2.1
 ·refine no _ rfl ?_;have a:emN r5.1.1 r5.1.2.1= -1:=by unfold emN;rw[hg];rfl
  have b:emC r5.1.1 r5.1.2.1=r5.1.1:=by unfold emC;rw[hg];rfl
  rw[a,b,Qr2 fun p hp=>by have:=k5.q.pn p hp;omega]
 ·have hC:Zhh r5.1.1:=(Z3b k5.inv (by omega)).1 (by unfold emG at hg;simp only[Oba]at hg;exact hg.1.1.1);have hnum:=hC.num;cases hz: (((emF r5.1.1 r5.1.2.1).1.length:Int)==0)
  ·have a:emN r5.1.1 r5.1.2.1=Zxs r5.1.1:=by unfold emN;rw[hg,hz];rfl
   have b:emC r5.1.1 r5.1.2.1=Xdy (emF r5.1.1 r5.1.2.1).2 (Zxs r5.1.1) (emF r5.1.1 r5.1.2.1).1:=by unfold emC;rw[hg,hz];rfl
   have hlt: ∀p∈r5.1.1.2.2.2.2.2.2.2.2.2.2.2.2.2.2.2.1,p.1≠Zxs r5.1.1:=fun p hp=>by
    have:=Q7y hC.pks p hp;rw[Zv (by omega) (by omega)]at this;unfold Zxs;omega
   have hq:pkF (emN r5.1.1 r5.1.2.1) (emC r5.1.1 r5.1.2.1).2.2.2.2.2.2.2.2.2.2.2.2.2.2.2.1=((Zxs r5.1.1,((emF r5.1.1 r5.1.2.1).1,())),true,()):=by
    rw[a,b];show pkF (Zxs r5.1.1) ((emF r5.1.1 r5.1.2.1).2.2.2.2.2.2.2.2.2.2.2.2.2.2.2.2.1++ [(Zxs r5.1.1,((emF r5.1.1 r5.1.2.1).1,()))])=_;rw[Q6v];exact Qy8 hlt
   have hne:0< (emF r5.1.1 r5.1.2.1).1.length:=by
    rw[beq_eq_false_iff_ne]at hz;omega
   have hfl:=Q2v k5.inv (by omega) r5.1.2.1;have fin:Jo r5.1.1 (emN r5.1.1 r5.1.2.1) (Zxs r5.1.1,((emF r5.1.1 r5.1.2.1).1,())) true=some (true,()):=Q22 k5 (by omega) (by simp only;omega) fun _=>⟨by rw[a];exact hnum.1,hne,Xea k5 (by omega) hC _⟩
   rw[hq];simp only[Ota];by_cases h4:r5.1.2.1=400
   ·rw[h4]at fin hyl a b⊢;have hall:=Q6w k5 (by omega) hC;simp only[BEq.rfl,Oct];refine Eq.trans (Q23 (by omega) ?_ _ 0 (by unfold Zdc;omega) (by omega)) fin;rw[b];exact hall
   ·rw[beq_false_of_ne h4,Ocf];exact fin
  ·refine no _ rfl ?_;have a:emN r5.1.1 r5.1.2.1= -1:=by unfold emN;rw[hg,hz];rfl
   have b:emC r5.1.1 r5.1.2.1=(emF r5.1.1 r5.1.2.1).2:=by unfold emC;rw[hg,hz];rfl
   rw[a,b,Q6v,Qr2 fun p hp=>by have:=k5.q.pn p hp;omega]
theorem Q7m: ∀xs:K5 Zpy.args,wfA Zpy.args xs->Zom xs.1=some (true,()):=fun xs _=>Q9w xs.1
end Go.Proofs.YtdhchdiikmnmeaaGreat

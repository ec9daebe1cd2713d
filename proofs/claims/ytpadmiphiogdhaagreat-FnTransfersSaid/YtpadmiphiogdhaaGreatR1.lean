/- FnTransfers returns true for all arguments. No condition. -/
import Derived.Test.YtpadmiphiogdhaaGreatK2
import Derived.Test.YtpadmiphiogdhaaGreatP2
import Derived.KernelRfl
namespace Go.Proofs.YtpadmiphiogdhaaGreat
open Go.Am Go.ChangeShapes Go.WideShapes Go.ChangeAt Go.RowKit
set_option linter.unusedVariables false
theorem Qms{K:Nat}{c:Zg}(h:Qa K c)(hK:K≤1000000): ∃b,Zkx c=some (b,())∧Zkm c=some (b,()):=by
 obtain⟨⟨b,u⟩,e,-⟩:=Zn5 h hK
 unfold Zkx Zkm Zxz
 rw[Zx3 h hK,e,Option.bind_some]
 cases b
 ·have e1:Zbw c=some (false,()):=by
   unfold Zbw W3
   rw[Vw,e]
   cases decide ((0:Int)< (c.2.2.2.1.length:Int))<;>rfl
  rw[e1]
  exact⟨_,rfl,rfl⟩
 obtain⟨b1,e1,f1⟩:=Qtb h hK u e
 obtain⟨b2,e2,f2⟩:=Qtc h hK u e
 obtain⟨b3,e3,f3⟩:=Qvb h hK u e
 obtain⟨b4,e4,f4⟩:=Qva h hK u e
 simp only[e1,e2,e3,e4,f1,f2,f3,f4,Option.bind_some]
 cases b1<;>cases b2<;>cases b3<;>cases b4<;>exact⟨_,rfl,rfl⟩
theorem Q40{K:Nat}{p:Z1}(h:PrW K p)(hK:K≤1000000): ∃b,Zra p=some (b,())∧Zqy p=some (b,()):=by
 obtain⟨⟨b,u⟩,e,-⟩:=Qo0 h hK
 obtain⟨b1,e1,f1⟩:=Qms h.cl hK
 obtain⟨b2,e2,f2⟩:=Qms h.sv hK
 unfold Zra Zqy V7 Zqw
 rw[Q45 h hK,e,e1,f1,e2,f2,Option.bind_some]
 cases b
 ·exact⟨_,rfl,rfl⟩
 cases (p.1.2.2.2.2.2.2.2.2.2.2.2.2.2.2.2.2.2.1 !=(0:Int))
 rotate_left
 ·exact⟨_,rfl,rfl⟩
 cases (p.2.1.2.2.2.2.2.2.2.2.2.2.2.2.2.2.2.2.2.1 !=(0:Int))<;>cases b1<;>cases b2<;>exact⟨_,rfl,rfl⟩
theorem Z59(a b:List UInt8): ∃r,Zi3 a b=some (r,())∧Zir a b=some (r,()):=by
 unfold Zi3 Zir Zp9 Zj1
 simp only[]
 rw[Zc (fun h=>by simp only[decide_eq_true_eq]at h;omega)]
 exact⟨_,rfl,rfl⟩
theorem Zzn: ∀(N:Nat) (p:Z1) (i:Nat),p.2.2.2.2.1.length≤1048576→i≤p.2.2.2.2.1.length→p.2.2.2.2.1.length-i<N→
  ∃r,Vz N p i=some (r,())∧Vr N p.2.2.2.2.1 (p.2.2.2.2.1.length:Int) i=some (r,())∧(r= -1∨0≤r)
 |0,_,_,_,_,h=>by omega
 |N+1,p,i,hl,hi,hN=>by
  unfold Vz Vr
  by_cases h:i<p.2.2.2.2.1.length
  ·simp only[Zm (Zj (show(i:Int)< (p.2.2.2.2.1.length:Int) by omega))]
   obtain⟨q,hq,hq'⟩:=Z59 (p.2.2.2.2.1.getD (i:Int).toNat Qq).2.2.2.1 (p.2.2.2.2.1.getD (i:Int).toNat Qq).2.2.1
   rw[Zc (by omega),Zc (by omega),Zo h (by omega),hq,hq']
   simp only[Option.bind_some]
   obtain⟨r,h1,h2,h3⟩:=Zzn N p (i+1) hl h (by omega)
   rw[h1,h2]
   generalize ((!q)||_)=c
   cases c
   ·exact⟨r,rfl,rfl,h3⟩
   ·exact⟨(i:Int),rfl,rfl,by omega⟩
  ·simp only[Zi (Zk (show ¬(i:Int)< (p.2.2.2.2.1.length:Int) by omega))]
   exact⟨-1,rfl,rfl,.inl rfl⟩
theorem Qy2(p:Z1)(hl:p.2.2.2.2.1.length≤1048576): ∃r,Zk1 p=some (r,())∧Zfa p=some (r,())∧(r= -1∨0≤r):=by
 obtain⟨r,h1,h2,h3⟩:=Zzn (((p.2.2.2.2.1.length:Int)-0).toNat+1) p 0 hl (by omega) (by omega)
 exact⟨r,h1,h2,h3⟩
theorem Z50: ∀(N:Nat) (p:Z1) (i:Nat),p.2.2.2.2.1.length≤1048576→i≤p.2.2.2.2.1.length→p.2.2.2.2.1.length-i<N→
  ∃r,Zd4 N p i=some (r,())∧Zdm N p.2.2.2.2.1 (p.2.2.2.2.1.length:Int) i=some (r,())
 |0,_,_,_,_,h=>by omega
 |N+1,p,i,hl,hi,hN=>by
  unfold Zd4 Zdm
  by_cases h:i<p.2.2.2.2.1.length
  ·simp only[Zm (Zj (show(i:Int)< (p.2.2.2.2.1.length:Int) by omega))]
   rw[Zc (by omega),Zc (by omega),Zo h (by omega)]
   rw[Bool.beq_comm (a:=(p.2.2.2.2.1.getD (i:Int).toNat Qq).2.2.2.2.1)]
   obtain⟨r,h1,h2⟩:=Z50 N p (i+1) hl h (by omega)
   rw[h1,h2]
   exact⟨_,Qr4,Qr4⟩
  ·simp only[Zi (Zk (show ¬(i:Int)< (p.2.2.2.2.1.length:Int) by omega))]
   exact⟨true,rfl,rfl⟩
theorem Q0i(p:Z1)(hl:p.2.2.2.2.1.length≤1048576): ∃r,Zsk p=some (r,())∧Zr6 p=some (r,()):=by
 obtain⟨r,h1,h2⟩:=Z50 (((p.2.2.2.2.1.length:Int)-0).toNat+1) p 0 hl (by omega) (by omega)
 exact⟨r,h1,h2⟩
theorem Zx7: ∀(N:Nat) (p:Z1) (n:Int) (i:Nat),p.2.2.2.2.1.length≤1048576→i≤p.2.2.2.2.1.length→p.2.2.2.2.1.length-i<N→
  ∃r,Zb1 N p n i=some (r,())∧Zbt N n p.2.2.2.2.1 (p.2.2.2.2.1.length:Int) i=some (r,())
 |0,_,_,_,_,_,h=>by omega
 |N+1,p,n,i,hl,hi,hN=>by
  unfold Zb1 Zbt
  by_cases h:i<p.2.2.2.2.1.length
  ·simp only[Zm (Zj (show(i:Int)< (p.2.2.2.2.1.length:Int) by omega))]
   rw[Zc (by omega),Zc (by omega),Zc (by omega),Zc (by omega)]
   unfold Zkc
   rw[Zo h (by omega),Int.max_comm 0]
   cases (p.2.2.2.2.1.getD (i:Int).toNat Qq).2.2.2.2.2.2.1
   ·exact Zx7 N p _ (i+1) hl h (by omega)
   ·exact Zx7 N p n (i+1) hl h (by omega)
  ·simp only[Zi (Zk (show ¬(i:Int)< (p.2.2.2.2.1.length:Int) by omega))]
   exact⟨n,rfl,rfl⟩
theorem Q3e(p:Z1)(hl:p.2.2.2.2.1.length≤1048576): ∃r,Zul p=some (r,())∧Zts p=some (r,()):=by
 obtain⟨r,h1,h2⟩:=Zx7 (((p.2.2.2.2.1.length:Int)-0).toNat+1) p 0 0 hl (by omega) (by omega)
 exact⟨r,h1,h2⟩
theorem Q5e(code:List Int)(hc:code.length≤1048576):T (Ztj code) fun r=>PrW 40000 r.1.1:=by
 have j1: ∀t p (k:Int) c,Kv c→PrW 40000 p→0≤k→k<p.2.2.2.2.1.length→T (Zjj t p k c) fun r=>PrW 40000 r.1.1:=fun t p k c hc hp h0 hk=>by
  unfold Zjj
  exact(Qs1 _ _ hc).bind fun t1 h1=>T.guard ⟨h0,hk⟩ (T.pure ⟨hp.cl,hp.sv,hp.ls,hp.lc,by simpa using hp.tn⟩)
 unfold Ztj
 refine(Q19 code hc).bind fun t ht=>(Q7b _ ht).bind fun x hx=>T.ite (fun hl=> ?_) fun hl=> ?_
 ·have hl:=of_decide_eq_true hl
  have hp:=hx.2
  have hn:=hp.tn
  refine(Qs1 _ _ hx.1).bind fun t1 h1=>T.if ?_ (T.pure hp.w)
  refine(Zln _ _ h1).bind fun t2 h2=> ?_
  have h20:=h2.2.1
  have h21:=h2.2.2 (by omega)
  refine T.guard ⟨h20,h21⟩ ?_
  simp only[Vp]
  refine(Qqi _ 2 h2.1 (by omega)).bind fun t3 h3=> ?_
  have ht:=hp.tr _ (Qx (d:=Qq) (l:=x.1.1.2.2.2.2.1) (i:=t2.1.1.toNat) (by omega))
  refine T.guard (by unfold W9;have:=ht.2;have:=h3.2;omega) (T.guard ⟨h20,h21⟩ ?_)
  exact j1 _ _ _ _ h3.1 ⟨hp.cl,hp.sv,hp.ls,hp.lc,by simpa using hn⟩ h20 (by simpa using h21)
 ·simp only[Bool.and_false,cond_false]
  exact T.pure hx.2.w
theorem Q5g(code:List Int):Zlt code=some (true,()):=by
 have hbig:Qo8 code=some (decide ((code.length:Int)>1048576),()):=rfl
 unfold Zlt
 rw[hbig,Option.bind_some]
 by_cases hc: (code.length:Int)>1048576
 ·rw[Zj hc];rfl
 rw[Zk hc,cond_false]
 have hc:code.length≤1048576:=by omega
 obtain⟨⟨⟨p,u1⟩,u2⟩,e1,k1⟩:T (Za3 code) fun r=>PrW 40000 r.1.1:=by
  unfold Za3
  exact(Q5e code hc).bind fun x hx=>T.pure hx
 obtain⟨⟨a,b,u3⟩,e2,-⟩:T (Zf8 code) fun _=>True:=by
  unfold Zf8
  exact(Q19 code hc).bind fun t ht=>(Qqi _ 3 ht (by omega)).bind fun t1 h1=>(Qs1 _ _ h1.1).bind fun t2 h2=>T.if ((Qqi _ 3 h2 (by omega)).bind fun t3 h3=>T.guard (by unfold W9;have:=h1.2;have:=h3.2;omega) T.tt) ((Qqi _ 4 h2 (by omega)).bind fun t3 h3=>T.tt)
 have hn:=k1.tn
 simp only at hn
 obtain⟨r1,a1,b1,c1⟩:=Qy2 p (by omega)
 obtain⟨r2,a2,b2⟩:=Q0i p (by omega)
 obtain⟨r3,a3,b3⟩:=Q40 k1 (by omega)
 obtain⟨r4,a4,b4⟩:=Q3e p (by omega)
 obtain⟨r5,a5,b5⟩:=Z59 a b
 have f1:Znc p=some (r1== -1,()):=by unfold Znc;rw[b1];rfl
 have g: ((r1== -1)==decide (r1<0))=true:=by
  rcases c1 with rfl|h
  ·rfl
  ·have h1: (r1== -1)=false:=by simp;omega
   have h2:decide (r1<0)=false:=by simp;omega
   rw[h1,h2];rfl
 simp only at a3 b3
 simp only[e1,e2,a1,b1,a2,b2,a3,b3,a4,b4,a5,b5,f1,g,Option.bind_some,beq_self_eq_true,cond_true,Bool.and_self]
theorem Q3f: ∀xs:Kb Zn3.args,wfA Zn3.args xs→Zlt xs.1=some (true,()):=fun xs _=>Q5g xs.1
end Go.Proofs.YtpadmiphiogdhaaGreat

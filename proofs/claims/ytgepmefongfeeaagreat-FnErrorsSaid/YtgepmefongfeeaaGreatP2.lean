/- FnErrors: the plain law, part 2. No condition. -/
import Derived.Test.YtgepmefongfeeaaGreatP1
namespace Go.Proofs.YtgepmefongfeeaaGreat
open Go.Am
set_option maxRecDepth 100000
set_option linter.unusedVariables false
def Qk4(l:List Int):Bool:=l.all fun n=>decide (n>=0)&&decide (n<=255)
theorem Q72(r:Yv)(hl:r.2.2.2.1.length<=1048576): ∀(N i:Nat),r.2.2.2.1.length-i<N->i<=r.2.2.2.1.length->Zfn N r (i:Int)=some (Qk4 (r.2.2.2.1.drop i),())
 |0,_,h,_=>by omega
 |N+1,i,b,c=>by
  rw[Zfn];by_cases a:i<r.2.2.2.1.length
  ·rw[Zn (Zk (by omega)),Zb (by omega),Zws,Obs,Zt a (by omega),Q72 r hl N (i+1) (by omega) (by omega),show(i:Int).toNat=i from rfl,Yl (d:=0) a];simp only[Qk4,List.all_cons];cases decide (r.2.2.2.1.getD i 0>=0)&&decide (r.2.2.2.1.getD i 0<=255)<;>rfl
  ·rw[Zm (Zl (by omega)),List.drop_eq_nil_of_le (by omega)];rfl
theorem Zko(n a b:Int):Zy n a b=some (decide (n>=a)&&decide (n<=b),()):=rfl
theorem Q3e(l:List Int)(hl:l.length<=1048576)(u:Unit): ∀(N i:Nat),l.length-i<N->i<=l.length-> ∃k,Xf N l u (l.length:Int) (i:Int)=some (k,())/\decide (k>=0)= !Qk4 (l.drop i)
 |0,_,h,_=>by omega
 |N+1,i,f,g=>by
  rw[Xf];by_cases a:i<l.length
  ·have e:Zxn (l.getD i 0)=some (!(decide (l.getD i 0>=0)&&decide (l.getD i 0<=255)),()):=rfl;rw[Zn (Zk (by omega)),Zb (by omega),show(i:Int).toNat=i from rfl,e,Obs,Zt a (by omega),Yl (d:=0) a];obtain⟨k,b,c⟩:=Q3e l hl () N (i+1) (by omega) (by omega);cases hc:decide (l.getD i 0>=0)&&decide (l.getD i 0<=255)
   ·exact⟨_,rfl,by simp only[Qk4,List.all_cons,hc];simp⟩
   ·exact⟨k,b,by rw[c];simp only[Qk4,List.all_cons,hc,Ota]⟩
  ·rw[Zm (Zl (by omega)),List.drop_eq_nil_of_le (by omega)];exact⟨_,rfl,by simp[Qk4]⟩
theorem Q9r(r:Yv)(hl:r.2.2.2.1.length<=1048576):Zwr r=Zad r:=by
 unfold Zwr Zad Vs Zbb Jd J8;obtain⟨k,a,b⟩:=Q3e r.2.2.2.1 hl () (Xp r.2.2.2.1 () (r.2.2.2.1.length:Int) 0) 0 (by unfold Xp;omega) (by omega);have c:=Q72 r hl (Vw r 0) 0 (by unfold Vw;omega) (by omega);simp only[Int.natCast_zero,List.drop_zero]at a b c;have e:Xj r.2.1=some (decide (r.2.1>=0)&&decide (r.2.1<=4611686018427387903),()):=rfl;simp only[a,b,c,Zko,e,Obs];have f:decide (r.1>=1)=decide (r.1>0):=by congr 1
 rw[f];generalize g: ((decide (r.1>0)&&decide (r.1<=64))&& (bits .and .i64 r.1 (IntKind.i64.wrap (r.1-1))==0))=A;generalize ((r.2.2.2.1.length:Int) !=r.1)=B;cases A
 ·rfl
 cases B
 ·simp only[Ont,Bool.or_self,Ocf,Obs,Bool.false_or];simp only[Oba,decide_eq_true_eq]at g;generalize Qk4 r.2.2.2.1=C;by_cases h:0<=r.2.1/\r.2.1<=r.2.2.1/\r.2.2.1<=4611686018427387903
  ·obtain⟨l,i,m⟩:=h;rw[Zr (n:=r.2.2.1-r.2.1) (by omega) (by omega),Zr (n:=r.2.1+r.1) (by omega) (by omega),Zk (p:=r.2.1>=0) (by omega),Zk (p:=r.2.1<=4611686018427387903) (by omega),Zl (p:=r.2.1<0) (by omega),Zl (p:=r.2.2.1<r.2.1) (by omega),Zl (p:=r.2.2.1>4611686018427387903) (by omega),Zk (p:=r.2.2.1>=r.2.1) i];by_cases o:r.2.2.1-r.2.1<=r.1
   ·rw[Zl (p:=r.2.2.1-r.2.1>r.1) (by omega),Zk (p:=r.2.2.1<=min (r.2.1+r.1) 4611686018427387903) (by omega)];cases C<;>rfl
   ·rw[Zk (p:=r.2.2.1-r.2.1>r.1) (by omega),Zl (p:=r.2.2.1<=min (r.2.1+r.1) 4611686018427387903) (by omega)];cases C<;>rfl
  ·have j: ((((decide (r.2.1<0))|| (decide (r.2.2.1<r.2.1)))|| (decide ((IntKind.i64.wrap (r.2.2.1-r.2.1))>r.1)))|| (decide (r.2.2.1>4611686018427387903)))=true:=by
    simp only[Bool.or_eq_true,decide_eq_true_eq];omega
   have d: ((decide (r.2.1>=0)&&decide (r.2.1<=4611686018427387903))&& (decide (r.2.2.1>=r.2.1)&&decide (r.2.2.1<=min (IntKind.i64.wrap (r.2.1+r.1)) 4611686018427387903)))=false:=by
    simp only[Bool.and_eq_false_iff,decide_eq_false_iff_not];omega
   rw[j];cases C
   ·rfl
   ·simp only[Ont,Ocf,Oct];generalize q: (decide (r.2.1>=0)&&decide (r.2.1<=4611686018427387903))=Q at d;cases Q
    ·rfl
    ·simp only[Oct,Obs];rw[d]
 ·rfl
def hiB(S:Int)(l:List Zh):Bool:=l.all fun x=>decide (x.2.1<=S)
noncomputable def stF(s:Zp):Int:=match Za0 s with|some (k,_)=>k|none=>0
theorem Q1j(s:Zp):Za0 s=some (stF s,()):=by
 obtain⟨k,e⟩:=Qe9 s;unfold stF;rw[e]
theorem Qv9(s:Zp)(h0:0<=s.2.2.2.2.2.2.1)(h3:s.2.2.2.2.2.2.1<=3):Zqt s=some (stF s,()):=by
 rw[<-Q1j];unfold Zqt Za0;have:decide (s.2.2.2.2.2.2.1>1)=((s.2.2.2.2.2.2.1==2)|| (s.2.2.2.2.2.2.1==3)):=by
  rw[Bool.eq_iff_iff];simp only[decide_eq_true_eq,Bool.or_eq_true,beq_iff_eq];omega
 rw[this]
def Qv3(s:Zp):Bool:= !((!((s.2.2.2.2.2.2.1==(0:Int))==(s.2.2.2.2.2.1==(-1:Int))))|| ((s.2.2.2.2.2.1 !=(-1:Int))&& (s.2.2.2.2.2.1 !=s.2.1.2.2.1)))
theorem Xe1(s:Zp)(hl:s.2.2.2.2.1.length<=1048576): ∀(N i:Nat),s.2.2.2.2.1.length-i<N->i<=s.2.2.2.2.1.length->Zcf N s (i:Int)=some (hiB s.2.2.2.2.2.2.2.1 (s.2.2.2.2.1.drop i)&& (Qv3 s&& (s.1==stF s)),())
 |0,_,h,_=>by omega
 |N+1,i,e,f=>by
  rw[Zcf];by_cases a:i<s.2.2.2.2.1.length
  ·rw[Zn (Zk (by omega)),Zb (by omega),Zt a (by omega),Xe1 s hl N (i+1) (by omega) (by omega),show(i:Int).toNat=i from rfl,Yl (d:=Zz) a];simp only[hiB,List.all_cons];by_cases b: (s.2.2.2.2.1.getD i Zz).2.1<=s.2.2.2.2.2.2.2.1
   ·rw[Zl (p:=_>_) (by omega),Zk b];rfl
   ·rw[Zk (p:=_>_) (by omega),Zl b];rfl
  ·rw[Zm (Zl (by omega)),List.drop_eq_nil_of_le (by omega),Q1j,Obs];unfold Qv3;generalize ((!((s.2.2.2.2.2.2.1==(0:Int))==(s.2.2.2.2.2.1==(-1:Int))))|| ((s.2.2.2.2.2.1 !=(-1:Int))&& (s.2.2.2.2.2.1 !=s.2.1.2.2.1)))=c;cases c<;>rfl
theorem Xe0(s:Zp)(hl:s.2.2.2.1.length<=1048576)(hl2:s.2.2.2.2.1.length<=1048576): ∀(N i:Nat),s.2.2.2.1.length-i<N->i<=s.2.2.2.1.length->Zce N s (i:Int)=some (hiB s.2.2.2.2.2.2.2.1 (s.2.2.2.1.drop i)&& (hiB s.2.2.2.2.2.2.2.1 s.2.2.2.2.1&& (Qv3 s&& (s.1==stF s))),())
 |0,_,h,_=>by omega
 |N+1,i,c,e=>by
  rw[Zce];by_cases a:i<s.2.2.2.1.length
  ·rw[Zn (Zk (by omega)),Zb (by omega),Zt a (by omega),Xe0 s hl hl2 N (i+1) (by omega) (by omega),show(i:Int).toNat=i from rfl,Yl (d:=Zz) a];simp only[hiB,List.all_cons];by_cases b: (s.2.2.2.1.getD i Zz).2.1<=s.2.2.2.2.2.2.2.1
   ·rw[Zl (p:=_>_) (by omega),Zk b];rfl
   ·rw[Zk (p:=_>_) (by omega),Zl b];rfl
  ·rw[Zm (Zl (by omega)),List.drop_eq_nil_of_le (by omega)];exact Xe1 s hl2 _ 0 (by unfold Zf2;omega) (by omega)
def Xfo(a:List Zh)(r:Zh):List Zh:=if rsB (-1) a=true/\Zf6 r=true then Zhi a r else a
def Zl4(a l:List Zh):List Zh:=l.foldl Xfo a
theorem Qhl{E:Int}: ∀{l:List Zh} {lo:Int},rsB lo l=true->(∀x∈l,x.2.1<=E)->l≠[]->Vt l<=E-lo-1
 | [],_,_,_,h=>absurd rfl h
 |x::l,lo,h,a,_=>by
  obtain⟨d,e,b⟩:=V7.1 h;have hx:=a x (by simp);simp only[Vt];rcases l with _| ⟨y,l⟩
  ·simp only[Vt];omega
  ·have:=Qhl b (fun z c=>a z (by simp[c])) (by simp);omega
theorem Q30{E:Int}{l:List Zh}(h:RL E l)(hc:Vt l=E)(h0:0<E): (l.getD 0 Zz).2.1=E:=by
 obtain⟨c,a⟩:=h;rcases l with _| ⟨x,l⟩
 ·simp only[Vt]at hc;omega
 ·obtain⟨b,f,d⟩:=V7.1 c;have hx:=a x (by simp);have b:=Qv.1 b;simp only[Vt]at hc;rcases l with _| ⟨y,l⟩
  ·simp only[Vt]at hc;simp only[List.getD_cons_zero];omega
  ·have:=Qhl d (fun z e=>a z (by simp[e])) (by simp);omega
theorem Qhm{E:Int}{l:List Zh}(h:RL E l)(h0:0<=E):0<=Vt l/\Vt l<=E:=by
 have: ∀{l:List Zh} {a:Int},rsB a l=true->0<=Vt l:=by
  intro l
  induction l with
  |nil=>intro a _;simp[Vt]
  |cons x l c=>
   intro a h;obtain⟨b,e,d⟩:=V7.1 h;have b:=Qv.1 b;have:=c d;simp only[Vt];omega
 refine⟨this h.1,?_⟩;rcases hl:l with _| ⟨x,f⟩
 ·simp only[Vt];exact h0
 ·have:=Qhl h.1 h.2 (by rw[hl];simp);rw[hl]at this;omega
def Z5z(s:Zp)(all:List Zh):Bool:=(Vt all==s.2.1.2.2.1)&& (Vt s.2.2.1+Vt s.2.2.2.1+Vt s.2.2.2.2.1==s.2.1.2.2.1)
theorem Xez{K:Int}{s:Zp}(hs:Zb4 K s)(hK:K<=1000000): ∀(N i:Nat) (all:List Zh),RL (Q4z s) all->s.2.2.2.2.1.length-i<N->i<=s.2.2.2.2.1.length->
  Zcd N s all (i:Int)=some (Z5z s (Zl4 all (s.2.2.2.2.1.drop i))&& ((Z3t s.2.2.2.2.1 0==s.2.1.2.1)&& ((s.2.2.2.2.2.2.2.2.1==0)&& (hiB s.2.2.2.2.2.2.2.1 s.2.2.2.1&& (hiB s.2.2.2.2.2.2.2.1 s.2.2.2.2.1&& (Qv3 s&& (s.1==stF s)))))),())
 |0,_,_,_,h,_=>by omega
 |N+1,i,all,b,p,q=>by
  have r:=Q5 b hs.e0 hs.eK hK;have t:=Q5 hs.pend hs.e0 hs.eK hK;have u:=Q5 hs.flight hs.e0 hs.eK hK;have v:=Q5 hs.acked hs.e0 hs.eK hK;rw[Zcd];by_cases h:i<s.2.2.2.2.1.length
  ·rw[Zn (Zk (by omega)),Zb (by omega),Zt h (by omega),Zn8 _ _ (by omega),Obs,Yl (d:=Zz) h];exact Xez hs hK N (i+1) _ (Zzv b (hs.acked.2 _ (Qh h))) (by omega) (by omega)
  ·have w:=Qhm hs.pend hs.e0;have x:=Qhm hs.flight hs.e0;have y:=Qhm hs.acked hs.e0;have f:=hs.eK;rw[Zm (Zl (by omega)),Zd7 _ (by omega),Zd7 _ (by omega),Zd7 _ (by omega),Zd7 _ (by omega),Qet _ _ (by omega),List.drop_eq_nil_of_le (by omega)];simp only[Obs,b.1,hs.pend.1,hs.flight.1,hs.acked.1,if_true];rw[Zb (fun g j=>by
    simp only[Bool.or_eq_false_iff,bne_eq_false_iff_eq,decide_eq_true_eq]at g j;have:=Qxp (l:=all) (by omega);omega),Zr (n:=Vt s.2.2.1+Vt s.2.2.2.1) (by omega) (by omega),Zr (by omega) (by omega),show Zl4 all []=all from rfl]
   have e:=Xe0 s (by omega) (by omega) (Zb2 s 0) 0 (by unfold Zb2;omega) (by omega);simp only[Int.natCast_zero,List.drop_zero]at e;rw[e];unfold Z5z;generalize (hiB s.2.2.2.2.2.2.2.1 s.2.2.2.1&& (hiB s.2.2.2.2.2.2.2.1 s.2.2.2.2.1&& (Qv3 s&& (s.1==stF s))))=R;have k: (if True/\(0:Int)<=0 then Z3t s.2.2.2.2.1 0 else-1)=Z3t s.2.2.2.2.1 0:=by simp
   rw[k];by_cases a:Vt all=s.2.1.2.2.1
   ·by_cases c:Vt s.2.2.1+Vt s.2.2.2.1+Vt s.2.2.2.2.1=s.2.1.2.2.1
    ·have m: ((decide (s.2.1.2.2.1>0))&& ((all.getD (0:Int).toNat Zz).2.1 !=s.2.1.2.2.1))=false:=by
      by_cases o:0<s.2.1.2.2.1
      ·have:=Q30 b a o;rw[show((0:Int).toNat)=0 from rfl,this];simp
      ·rw[Zl (by omega)];rfl
     rw[m,beq_iff_eq.2 a,beq_iff_eq.2 c,show(Vt all !=s.2.1.2.2.1)=false by simp[a],show(Vt s.2.2.1+Vt s.2.2.2.1+Vt s.2.2.2.2.1 !=s.2.1.2.2.1)=false by simp[c]];simp only[Bool.or_self,Ocf,Obs,Bool.false_or,Bool.and_self,Ota];simp only[bne];generalize (Z3t s.2.2.2.2.1 0==s.2.1.2.1)=g1;generalize (s.2.2.2.2.2.2.2.2.1==0)=g2;cases g1<;>cases g2<;>rfl
    ·rw[beq_eq_false_iff_ne.2 c,show(Vt s.2.2.1+Vt s.2.2.2.1+Vt s.2.2.2.2.1 !=s.2.1.2.2.1)=true by simp[c]];simp
   ·rw[beq_eq_false_iff_ne.2 a,show(Vt all !=s.2.1.2.2.1)=true by simp[a]];simp
theorem Xc5{K:Int}{s:Zp}(hs:Zb4 K s)(hK:K<=1000000): ∀(N i:Nat) (all:List Zh),RL (Q4z s) all->s.2.2.2.1.length-i<N->i<=s.2.2.2.1.length->
  Zcc N s all (i:Int)=some (Z5z s (Zl4 (Zl4 all (s.2.2.2.1.drop i)) s.2.2.2.2.1)&& ((Z3t s.2.2.2.2.1 0==s.2.1.2.1)&& ((s.2.2.2.2.2.2.2.2.1==0)&& (hiB s.2.2.2.2.2.2.2.1 s.2.2.2.1&& (hiB s.2.2.2.2.2.2.2.1 s.2.2.2.2.1&& (Qv3 s&& (s.1==stF s)))))),())
 |0,_,_,_,h,_=>by omega
 |N+1,i,all,a,b,c=>by
  have e:=Q5 a hs.e0 hs.eK hK;have f:=Q5 hs.flight hs.e0 hs.eK hK;rw[Zcc];by_cases h:i<s.2.2.2.1.length
  ·rw[Zn (Zk (by omega)),Zb (by omega),Zt h (by omega),Zn8 _ _ (by omega),Obs,Yl (d:=Zz) h];exact Xc5 hs hK N (i+1) _ (Zzv a (hs.flight.2 _ (Qh h))) (by omega) (by omega)
  ·rw[Zm (Zl (by omega)),List.drop_eq_nil_of_le (by omega)];have:=Xez hs hK (Zb1 s all 0) 0 all a (by unfold Zb1;omega) (by omega);simp only[Int.natCast_zero,List.drop_zero]at this;exact this
theorem Q3s{K:Int}{s:Zp}(hs:Zb4 K s)(hK:K<=1000000)(t:List Zh)(ht:t.length<=3000000)(hE: ∀x∈t,x.2.1<=s.2.1.2.2.1): ∀(N i:Nat) (all:List Zh),RL (Q4z s) all->t.length-i<N->i<=t.length->
  Ziq N s.2.1.2.2.1 all t (t.length:Int) (i:Int)=some (Vt (Zl4 all (t.drop i))==s.2.1.2.2.1,())
 |0,_,_,_,h,_=>by omega
 |N+1,i,all,a,e,f=>by
  have g:=Q5 a hs.e0 hs.eK hK;rw[Ziq];by_cases h:i<t.length
  ·rw[Zn (Zk (by omega)),Zb (by omega),Zt h (by omega),Q3w _ _ (by omega),Obs,Yl (d:=Zz) h];exact Q3s hs hK t ht hE N (i+1) _ (Zzv a (hE _ (Qh h))) (by omega) (by omega)
  ·rw[Zm (Zl (by omega)),List.drop_eq_nil_of_le (by omega),Zse _ (by omega)];simp only[a.1,if_true,Obs];unfold Zdj;rw[Zb (fun h=>by
    have:=Ode h;rw[Zr (by omega) (by omega)];omega)]
   have b: ((decide ((all.length:Int)>0))&& (decide ((all.getD (IntKind.i64.wrap ((all.length:Int)-1)).toNat Zz).2.1>s.2.1.2.2.1)))=false:=by
    by_cases c: (all.length:Int)>0
    ·rw[Zr (by omega) (by omega)];have:=a.2 _ (Qh (l:=all) (i:=((all.length:Int)-1).toNat) (d:=Zz) (by omega));rw[Zl (p:=_>s.2.1.2.2.1) (by unfold Q4z at this;omega)];simp
    ·rw[Zl c];rfl
   rw[b,show Zl4 all []=all from rfl];cases Vt all==s.2.1.2.2.1<;>rfl
theorem Xa6{lo S:Int}: ∀{l:List Zh},rsB lo l=true->hiB S l= !((decide ((l.length:Int)>0))&& (decide ((l.getD (l.length-1) Zz).2.1>S)))
 | [],_=>rfl
 | [x],_=>by
  simp only[hiB,List.all_cons,List.all_nil,Bool.and_true,List.length_singleton,Nat.sub_self,List.getD_cons_zero];by_cases h:x.2.1<=S
  ·rw[Zk h,Zl (p:=x.2.1>S) (by omega)];rfl
  ·rw[Zl h,Zk (p:=x.2.1>S) (by omega)];rfl
 |x::y::l,h=>by
  obtain⟨g,i,c⟩:=V7.1 h;have a:=Xa6 (S:=S) c;have b:=V7.1 c;have j:=Qv.1 b.1;have e: (x::y::l).getD ((x::y::l).length-1) Zz=(y::l).getD ((y::l).length-1) Zz:=by simp
  rw[e];have d:hiB S (x::y::l)=(decide (x.2.1<=S)&&hiB S (y::l)):=rfl;rw[d,a,Zk (p:=((x::y::l).length:Int)>0) (by simp only[List.length_cons];omega),Zk (p:=((y::l).length:Int)>0) (by simp only[List.length_cons];omega)];by_cases hx:x.2.1<=S
  ·rw[Zk hx];rfl
  ·have f:hiB S (y::l)=false:=by
    simp only[hiB,List.all_cons];rw[Zl (by omega)];rfl
   rw[f,Zk (p:=((y::l).length:Int)>0) (by simp only[List.length_cons];omega)]at a;rw[Zl hx];simpa using a
theorem Qqo{lo:Int}{l:List Zh}(h:rsB lo l=true)(hl:l.length<=1048576)(S:Int):Zdj l S=some (!hiB S l,()):=by
 unfold Zdj;simp only;rw[Zb (fun h=>by
  have:=Ode h;rw[Zr (by omega) (by omega)];omega),Xa6 h (S:=S),Bool.not_not]
 by_cases a: (l.length:Int)>0
 ·rw[Zr (by omega) (by omega),show((l.length:Int)-1).toNat=l.length-1 by omega]
 ·rw[Zl a];rfl
theorem Que{K:Int}{s:Zp}(hs:Zb4 K s)(hK:K<=1000000):Zoc s=Yb s:=by
 have p:=Q5 hs.pend hs.e0 hs.eK hK;have q:=Q5 hs.flight hs.e0 hs.eK hK;have r:=Q5 hs.acked hs.e0 hs.eK hK;have g:=(Z4c s.2.1 (by have:=hs.cells;omega)).1;have t:=Qhm hs.pend hs.e0;have u:=Qhm hs.flight hs.e0;have v:=Qhm hs.acked hs.e0;have h:=hs.eK;have c:=Xc5 hs hK (Kc s s.2.2.1 0) 0 s.2.2.1 hs.pend (by unfold Kc;omega) (by omega);simp only[Int.natCast_zero,List.drop_zero]at c;have i:Zsi s.2.2.1 s.2.2.2.1 s.2.2.2.2.1 s.2.1.2.2.1=some (Z5z s (Zl4 (Zl4 s.2.2.1 s.2.2.2.1) s.2.2.2.2.1),()):=by
  unfold Zsi;rw[Zse _ (by omega),Zse _ (by omega),Zse _ (by omega),Zpy _ (by omega),Zpy _ (by omega)];simp only[hs.pend.1,hs.flight.1,hs.acked.1,if_true,Obs];rw[Zr (n:=Vt s.2.2.1+Vt s.2.2.2.1) (by omega) (by omega),Zr (by omega) (by omega),Zb (by unfold Qo;omega)];have:=Q3s hs hK (s.2.2.2.1++s.2.2.2.2.1) (by simp;omega) (fun x hx=>by
   rcases List.mem_append.1 hx with hx|hx
   ·exact hs.flight.2 x hx
   ·exact hs.acked.2 x hx) (Zfy s.2.1.2.2.1 s.2.2.1 (s.2.2.2.1++s.2.2.2.2.1) ((s.2.2.2.1++s.2.2.2.2.1).length:Int) 0) 0 s.2.2.1 hs.pend (by unfold Zfy;omega) (by omega)
  simp only[Int.natCast_zero,List.drop_zero]at this;rw[this];unfold Z5z;have e:Zl4 s.2.2.1 (s.2.2.2.1++s.2.2.2.2.1)=Zl4 (Zl4 s.2.2.1 s.2.2.2.1) s.2.2.2.2.1:=List.foldl_append ..;rw[e];simp only[bne];cases (Vt s.2.2.1+Vt s.2.2.2.1+Vt s.2.2.2.2.1==s.2.1.2.2.1)
  ·simp
  ·simp
 have d: ∀f,0<=s.2.2.2.2.2.2.1->s.2.2.2.2.2.2.1<=3->Zin s f=some (Z5z s (Zl4 (Zl4 s.2.2.1 s.2.2.2.1) s.2.2.2.2.1)&& ((Z3t s.2.2.2.2.1 0==s.2.1.2.1)&& ((s.2.2.2.2.2.2.2.2.1==0)&& (hiB s.2.2.2.2.2.2.2.1 s.2.2.2.1&& (hiB s.2.2.2.2.2.2.2.1 s.2.2.2.2.1&& ((s.2.2.2.2.2.1==f)&& (s.1==stF s)))))),()):=fun f j k=>by
  unfold Zin;rw[i,Q36 _ _ (by omega),Qqo hs.flight.1 (by omega),Qqo hs.acked.1 (by omega),Qv9 s j k];have l: (if rsB (-1) s.2.2.2.2.1=true/\(0:Int)<=0 then Z3t s.2.2.2.2.1 0 else-1)=Z3t s.2.2.2.2.1 0:=if_pos ⟨hs.acked.1,Int.le_refl _⟩;rw[l];simp only[Obs];generalize Z5z s (Zl4 (Zl4 s.2.2.1 s.2.2.2.1) s.2.2.2.2.1)=b1;cases b1
  ·rfl
  simp only[Oct,Obs,Ota];generalize (Z3t s.2.2.2.2.1 0==s.2.1.2.1)=b2;cases b2
  ·rfl
  simp only[Oct,Obs,Ota];generalize hiB s.2.2.2.2.2.2.2.1 s.2.2.2.1=b3;generalize hiB s.2.2.2.2.2.2.2.1 s.2.2.2.2.1=b4;generalize (s.2.2.2.2.2.2.2.2.1==0)=b5;generalize (s.2.2.2.2.2.1==f)=b6;cases b3<;>cases b4<;>cases b5<;>cases b6<;>rfl
 unfold Zoc Yb;rw[Q9r _ (by have:=hs.cells;omega),g,Zbq _ (by omega),Zbq _ (by omega),Zbq _ (by omega),Zuy _ (by omega),Zuy _ (by omega),Zuy _ (by omega),c];have m:Qj s.2.2.2.2.2.2.2.2.1=some (decide (s.2.2.2.2.2.2.2.2.1>=0)&&decide (s.2.2.2.2.2.2.2.2.1<=4611686018427387903),()):=rfl;have o:Xj s.2.2.2.2.2.2.2.2.1=some (decide (s.2.2.2.2.2.2.2.2.1>=0)&&decide (s.2.2.2.2.2.2.2.2.1<=4611686018427387903),()):=rfl;simp only[hs.pend.1,hs.flight.1,hs.acked.1,m,o,Zws,Zko,Obs];generalize Zw8 s.2.1=b1;cases b1
 ·rfl
 simp only[Ont,Ocf,Obs,Bool.false_or];generalize (decide (s.2.2.2.2.2.2.2.1>=0)&&decide (s.2.2.2.2.2.2.2.1<=s.2.1.2.2.1))=b2;cases b2
 ·rfl
 simp only[Ont,Ocf,Obs,Bool.false_or];generalize (decide (s.2.2.2.2.2.2.2.2.1>=0)&&decide (s.2.2.2.2.2.2.2.2.1<=4611686018427387903))=b3;cases b3
 ·rfl
 simp only[Ont,Ocf,Obs,Bool.false_or];by_cases a:0<=s.2.2.2.2.2.2.1/\s.2.2.2.2.2.2.1<=3
 ·rw[d _ a.1 a.2,d _ a.1 a.2,show(decide (s.2.2.2.2.2.2.1>=0)&&decide (s.2.2.2.2.2.2.1<=3))=true by simp only[Oba,decide_eq_true_eq];exact a];simp only[Ont,Ocf];cases (s.1==(4:Int))|| (s.1==(5:Int))
  ·simp only[Ocf];have w:=hs.e0;have:Qv3 s=(bif s.2.2.2.2.2.2.1==0 then s.2.2.2.2.2.1== -1 else s.2.2.2.2.2.1==s.2.1.2.2.1):=by
    unfold Qv3;cases hz:s.2.2.2.2.2.2.1==0
    ·by_cases b:s.2.2.2.2.2.1= -1
     ·rw[b];simp;omega
     ·have: (s.2.2.2.2.2.1== -1)=false:=by simpa using b
      simp[this,bne]
    ·by_cases b:s.2.2.2.2.2.1= -1
     ·rw[b];simp
     ·have: (s.2.2.2.2.2.1== -1)=false:=by simpa using b
      simp[this]
   rw[this];cases s.2.2.2.2.2.2.1==0<;>rfl
  ·simp only[Oct];congr 2
   ac_rfl
 ·rw[show(decide (s.2.2.2.2.2.2.1>=0)&&decide (s.2.2.2.2.2.2.1<=3))=false by rw[Bool.and_eq_false_iff,decide_eq_false_iff_not,decide_eq_false_iff_not];omega];rfl
theorem Q5q(l:List Z1)(hl:l.length<=1048576)(ht:Zf4 l<=1000000): ∀(N i:Nat) (e:Int),l.length-i<N->i<=l.length-> -1<=e->e<=4611686018427387903->Zil N (e+1) l (l.length:Int) (i:Int)=some (ckB e (l.drop i),())
 |0,_,_,h,_,_,_=>by omega
 |N+1,i,e,g,j,k,m=>by
  rw[Zil];by_cases a:i<l.length
  ·have b:=Zxf (Qh (l:=l) (d:=Qf) a);rw[Zn (Zk (by omega)),Zb (by omega),Zt a (by omega),show(i:Int).toNat=i from rfl,Yl (d:=Qf) a];generalize o:l.getD i Qf=c at b;have f: (((c.2.1.length:Int)==0)||decide (c.1<e+1))=(decide (c.1<=e)|| (c.2.1==([]:List UInt8))):=by
    rw[Bool.eq_iff_iff];simp only[Bool.or_eq_true,beq_iff_eq,decide_eq_true_eq];rw[<-List.length_eq_zero_iff];omega
   simp only[ckB];rw[f,Zr (n:=4611686018427387903- (c.2.1.length:Int)) (by omega) (by omega)];cases hx: ((decide (c.1<=e)|| (c.2.1==([]:List UInt8)))||decide (c.1>4611686018427387903- (c.2.1.length:Int)))
   ·simp only[Bool.or_eq_false_iff,decide_eq_false_iff_not]at hx;rw[Ocf];unfold Zct;rw[Obs];simp only;rw[Zr (n:=c.1+ (c.2.1.length:Int)) (by omega) (by omega),Zr (by omega) (by omega),Q5q l hl ht N (i+1) (c.1+ (c.2.1.length:Int)) (by omega) (by omega) (by omega) (by omega)];simp
   ·rfl
  ·rw[Zm (Zl (by omega)),List.drop_eq_nil_of_le (by omega)];rfl
theorem Z6e(n:Int):Xj n=some (V6 n,()):=rfl
theorem Z6c{K:Nat}{b:Zs}(h:Ze1 K b)(hK:K<=1000000):Zhm b=some (Znw b,()):=by
 have c:=h.len;have d:=h.tot;unfold Zhm Znw;rw[Z6e,Obs];cases a:V6 b.1
 ·simp
 ·have a:=Kx.1 a;rw[Zr (n:=b.1-1) (by omega) (by omega)];have:=Q5q b.2.1 (by omega) (by omega) (Zfx b.1 b.2.1 (b.2.1.length:Int) 0) 0 (b.1-1) (by unfold Zfx;omega) (by omega) (by omega) (by omega);simp only[Int.natCast_zero,List.drop_zero,Int.sub_add_cancel]at this;rw[Ont,Ocf,this,Bool.and_true]
theorem Xb0{K:Nat}{b:Zs}(h:Ze1 K b)(hK:K<=1000000):Z0e b=Zmo b:=by
 have a:=h.len;unfold Z0e Zmo;rw[Z6c h hK,Ze9 b (by omega),Obs];cases hz: ((b.2.1.length:Int)==0)
 ·cases Znw b
  ·rfl
  ·rfl
 ·cases Znw b<;>rfl
theorem Qlo{K:Nat}{b:Zs}(h:Ze1 K b)(hK:K<=1000000):Zov b=Zbf b:=by
 have a:=h.len;unfold Zov Zbf;rw[Z6c h hK,Ze9 b (by omega)]
theorem Ztb{K:Nat}{r:Zu}(h:Ze1 K r.2.1)(hK:K<=1000000):Zba r=Xc r:=by
 have k:=h.len;obtain⟨v,hv⟩:=Q6d h hK;unfold Zba Xc Zof;rw[Z6c h hK,Ze9 _ (by omega),Xb0 h hK,hv,Qlo h hK,Zpr _ (by omega)];simp only[Z6e,K5,Zko,Obs];generalize Znw r.2.1=b1;cases b1
 ·cases r.2.2.1 !=(-1:Int)<;>rfl
 simp only[Ont,Ocf,Obs,Bool.false_or];cases f:V6 r.2.2.2.1
 ·by_cases a:v>r.2.2.2.1
  ·rw[Zk a];cases r.2.2.1 !=(-1:Int)<;>rfl
  ·rw[Zl a];cases r.2.2.1 !=(-1:Int)<;>rfl
 have f:=Kx.1 f;simp only[Ont,Ocf,Obs,Bool.false_or];by_cases a:v>r.2.2.2.1
 ·rw[Zk a];cases r.2.2.1 !=(-1:Int)<;>rfl
 rw[Zl a];simp only[Ocf,Obs,Bool.false_or];cases hc:V6 r.2.2.2.2.1
 ·cases r.2.2.1 !=(-1:Int)<;>rfl
 simp only[Ont,Ocf,Obs,Bool.false_or];have e: ((r.2.2.1 != -1)&& (!(decide (r.2.2.1>=r.2.2.2.1)&&decide (r.2.2.1<=4611686018427387903))))=((((r.2.2.1 != -1)&& (decide (r.2.2.1<r.2.2.2.1)))|| (decide (r.2.2.1>4611686018427387903)))|| (decide (r.2.2.1< -1))):=by
  rw[Bool.eq_iff_iff];simp only[Oba,bne_iff_ne,ne_eq,Bool.not_eq_true',Bool.and_eq_false_iff,decide_eq_false_iff_not,Bool.or_eq_true,decide_eq_true_eq];omega
 by_cases d:r.2.2.1= -1
 ·rw[d];have i: ((-1:Int)==r.2.2.2.1)=false:=by rw[beq_eq_false_iff_ne];omega
  have j: ∀b,Wm r b=Yh r b:=fun b=>by
   unfold Wm Yh;rw[d,i];rfl
  simp only[j];rfl
 ·have g: (r.2.2.1 != -1)=true:=by simpa using d
  rw[g]at e⊢;simp only[Oct,Obs,Ota]at e⊢;rw[e];have j: ∀b,Wm r b=Yh r b:=fun b=>by
   unfold Wm Yh;rw[g];have: (r.2.2.1==r.2.2.2.1)=(r.2.2.2.1==r.2.2.1):=by rw[Bool.eq_iff_iff];simp only[beq_iff_eq];exact eq_comm
   rw[this];rfl
  simp only[j];generalize ((((decide (r.2.2.1<r.2.2.2.1)))|| (decide (r.2.2.1>4611686018427387903)))|| (decide (r.2.2.1< -1)))=c;cases c
  ·simp only[Ocf];congr 1;congr 1;congr 1;congr 1;congr 2
   ac_rfl
  ·rfl
theorem Qiv(c:Wb):Zob c=Yn c:=rfl
theorem Zyj(w:Qw):Zhn w=V8 w:=rfl
theorem Qyd(p:Xl):Zts p=Zbe p:=rfl
theorem bO{β:Type}{c b:Bool}{f:Bool×Unit->Option β}:Option.bind (bif c then some (false,())else some (b,())) f=f (!c&&b,()):=by cases c<;>rfl
theorem bO2{c b:Bool}: (c|| !(!c&&b))=(c|| !b):=by cases c<;>rfl
theorem bA{β:Type}{c b:Bool}{f:Bool×Unit->Option β}:Option.bind (bif c then some (b,())else some (false,())) f=f (c&&b,()):=by cases c<;>rfl
theorem bA2{c b:Bool}: (c&& (c&&b))=(c&&b):=by cases c<;>rfl
theorem Qiw{K:Nat}{s:Zd}(h:Xq K s)(hK:K<=1000000):Zod s=Zcp s:=by
 obtain⟨j,a,-⟩:=Zis h.snd (by omega);obtain⟨k,b⟩:=Zog s.2.2.1;obtain⟨l,c⟩:=Zkb h.rcv hK;obtain⟨m,d⟩:=Zvf s.2.2.2.2.1;obtain⟨n,e⟩:=Z0k s.2.2.2.2.2.1;unfold Zod Zcp;simp only[Que h.snd (by omega),Ztb h.rcv hK,Qiv,Zyj,Qyd,a,b,c,d,e,K5,Z6e,Obs,bO,bO2];have f: (s.2.1.1 !=0)= !(s.2.1.1==0):=rfl;have g: (s.2.1.2.1.2.2.1 !=0)= !(s.2.1.2.1.2.2.1==0):=rfl;have i: (s.2.1.2.2.2.2.2.1 != -1)= !(s.2.1.2.2.2.2.2.1== -1):=rfl;rw[f,g,i];generalize V6 s.1=q1;generalize V6 _=q2;generalize (s.2.1.1==0)=x1;generalize (s.2.1.2.1.2.2.1==0)=x2;generalize (s.2.1.2.2.2.2.2.1== -1)=x3;generalize decide (s.2.1.2.2.2.2.2.2.2.1>s.2.2.1.2.1)=a1;generalize decide (s.2.2.2.1.2.2.2.1>s.2.2.2.2.1.2.2.2.1)=a2;generalize (s.2.2.2.2.2.2.2.2.1&& (s.2.1.1 !=4))=a3;generalize (s.2.2.2.2.2.2.2.2.2.1&& !s.2.2.2.2.2.2.2.2.2.2.2.1)=a4;generalize ((s.2.2.2.2.2.2.2.2.2.2.2.2.1 !=0)&& !s.2.2.2.2.2.2.2.2.2.2.2.1)=a5;generalize (((s.2.2.2.1.1==0)&& (s.2.2.2.1.2.2.2.1==0))&& !s.2.2.2.2.2.2.2.2.2.2.2.1)=a6;generalize s.2.2.2.2.2.2.1=cs;generalize s.2.2.2.2.2.2.2.1=cr;cases q1
 ·rfl
 cases j
 ·cases q2<;>rfl
 cases k
 ·cases q2<;>rfl
 cases l
 ·cases q2<;>rfl
 cases m
 ·cases q2<;>rfl
 cases n
 ·cases q2<;>rfl
 cases q2
 ·rfl
 clear a b c d e f g i h;revert x1 x2 x3 a1 a2 a3 a4 a5 a6 cs cr;decide
theorem Xdv{K:Nat}{r:Zu}(h:Ze1 K r.2.1)(hK:K<=1000000):T (Xc r) fun q=>q.1=true->Znw r.2.1=true:=by
 obtain⟨b,e⟩:=Zkb h hK;refine⟨_,e,fun a=> ?_⟩;by_cases hx:Znw r.2.1=true
 ·exact hx
 ·have hx:Znw r.2.1=false:=by simpa using hx
  unfold Xc at e;rw[Ze9 _ (by have:=h.len;omega),hx]at e;simp only[Obs,Bool.not_false,Oct,Bool.true_or]at e;cases e;cases a
theorem Q2r(c:Zgp):Zmd c=Vz c:=by
 unfold Zmd Vz Zbb Vs;have a:decide (c.1>=1)=decide (c.1>0):=by congr 1
 simp only[Zko,Zws,Obs,bA,bA2,a];congr 2
 ac_rfl
theorem Qyc(c:Zdh):Zqm c=Zco c:=rfl
theorem Qya(c:Wb):Zm9 c=Vp c:=rfl
theorem Qov{K:Nat}{l:List Zd}(h:Zhh K l)(hK:K<=1000000)(h24:l.length<=24): ∀(N i:Nat),l.length-i<N->i<=l.length->Wl N l l (l.length:Int) (i:Int)=Yf N l (i:Int)
 |0,_,h,_=>by omega
 |N+1,i,j,k=>by
  rw[Wl,Yf];by_cases c:i<l.length
  ·have g: ∀{a:Prop},a->decide ((i:Int)>0)=true->0<=IntKind.i64.wrap ((i:Int)-1)/\IntKind.i64.wrap ((i:Int)-1)< (l.length:Int):=fun _ h=>by
    have:=Ode h;rw[Zr (by omega) (by omega)];omega
   obtain⟨b,e⟩:=Z4d (h.all _ (Qh (d:=Zj) c)) hK;rw[Zn (Zk (p:=(i:Int)< (l.length:Int)) (by omega)),Zn (Zk (p:=(i:Int)< (l.length:Int)) (by omega)),Zb (by omega),Zb (by omega),show(i:Int).toNat=i from rfl,Qiw (h.all _ (Qh (d:=Zj) c)) hK,Zl (p:=(i:Int)>=24) (by omega),Ocf,e,Obs,Obs];simp only[Bool.false_or];rw[Zb (fun h f=>g h f),Zb (fun h f=>g h f),Zb (fun _ _=>by omega),Zt c (by omega),Qov h hK h24 N (i+1) (by omega) (by omega)]
  ·rw[Zm (Zl (by omega)),Zm (Zl (by omega)),Zk (by omega)]
theorem Qxg{K:Nat}{l:List Zd}(h:Zhh K l)(hK:K<=1000000)(h24:24<l.length): ∀(N i:Nat),24-i<N->i<=24->Wl N l l (l.length:Int) (i:Int)=some (false,())
 |0,_,h,_=>by omega
 |N+1,i,k,m=>by
  have n:=h.len;rw[Wl,Zn (Zk (by omega)),Zb (by omega)];have f:i<l.length:=by omega
  have g: ∀{a:Prop},a->decide ((i:Int)>0)=true->0<=IntKind.i64.wrap ((i:Int)-1)/\IntKind.i64.wrap ((i:Int)-1)< (l.length:Int):=fun _ h=>by
   have:=Ode h;rw[Zr (by omega) (by omega)];omega
  by_cases o:i=24
  ·rw[Zk (p:=(i:Int)>=24) (by omega),Oct,Obs];simp only[Bool.true_or];rw[Zb (fun h j=>g h j),Oct]
  ·obtain⟨b,e⟩:=Z4d (h.all _ (Qh (d:=Zj) f)) hK;rw[show(i:Int).toNat=i from rfl,Zl (p:=(i:Int)>=24) (by omega),Ocf,Qiw (h.all _ (Qh (d:=Zj) f)) hK,e,Obs,Zt f (by omega),Qxg h hK h24 N (i+1) (by omega) (by omega)];simp only[Bool.false_or];rw[Zb (fun h j=>g h j)];generalize (!b||_)=c;cases c<;>rfl
theorem Z27{K:Nat}{l:List Zd}(h:Zhh K l)(hK:K<=1000000):Zdi l=Kh l:=by
 by_cases a:l.length<=24
 ·unfold Zdi Kh;exact Qov h hK a _ 0 (by unfold Zc9;omega) (by omega)
 ·obtain⟨⟨b,u⟩,e,c⟩:=Qk0 h hK;have:b=false:=by
   cases b
   ·rfl
   ·exact absurd (c rfl) a
  rw[e,this];unfold Zdi;exact Qxg h hK (by omega) _ 0 (by unfold Zc9;omega) (by omega)
theorem Q1b{K:Nat}{l:List Zd}(h:Zhh K l)(hK:K<=1000000):Zqr l=Zc4 l:=by
 obtain⟨b,e⟩:=Zu1 h hK;have p:=h.len;have a:b=true-> ∀(N i:Nat) (n:Int),l.length-i<N->i<=l.length-> ∃v,Ko N () n l (l.length:Int) (i:Int)=some (v,())/\Kt N l n (i:Int)=some (v,()):=by
  intro j N
  induction N with
  |zero=>intro i n h;omega
  |succ N k=>
   intro i n q r;rw[Ko,Kt,e,j];by_cases c:i<l.length
   ·rw[Zk (by omega),Oct,Oct,Obs,Zb (by omega)];simp only[Bool.and_self,Oct];rw[Zb (by omega),Zt c (by omega)];exact k (i+1) _ (by omega) (by omega)
   ·rw[Zl (by omega)];exact⟨n,rfl,rfl⟩
 unfold Zqr Zea Zc4;rw[Z27 h hK,e];cases b
 ·rw[Y1,Kt,e];by_cases c:0<l.length
  ·rw[Zk (by omega)];rfl
  ·rw[Zl (by omega)];rfl
 ·obtain⟨v,d,f⟩:=a rfl (Y1 l 0 0) 0 0 (by unfold Y1;omega) (by omega);obtain⟨s,g,m⟩:=a rfl (X9 () 0 l (l.length:Int) 0) 0 0 (by unfold X9;omega) (by omega);have o:X9 () 0 l (l.length:Int) 0=Y1 l 0 0:=rfl;rw[Int.natCast_zero]at d f g m;rw[o]at g⊢;simp only[Obs,Ont,Ocf,d,f]
theorem Q1a{K:Nat}{l:List Zd}(h:Zhh K l)(hK:K<=1000000):Zqq l=Zc3 l:=by
 obtain⟨b,e⟩:=Zu1 h hK;have m:=h.len;have f:b=true-> ∀(N i:Nat) (n:Int),l.length-i<N->i<=l.length-> ∃v,Kn N () n l (l.length:Int) (i:Int)=some (v,())/\Ks N l n (i:Int)=some (v,()):=by
  intro g N
  induction N with
  |zero=>intro i n h;omega
  |succ N j=>
   intro i n o p;rw[Kn,Ks,e,g];by_cases a:i<l.length
   ·rw[Zk (by omega),Oct,Oct,Obs,Zb (by omega)];simp only[Bool.and_self,Oct];rw[Zb (by omega),Zt a (by omega)];exact j (i+1) _ (by omega) (by omega)
   ·rw[Zl (by omega)];exact⟨n,rfl,rfl⟩
 unfold Zqq Zd9 Zc3;rw[Z27 h hK,e];cases b
 ·rw[Y0,Ks,e];by_cases a:0<l.length
  ·rw[Zk (by omega)];rfl
  ·rw[Zl (by omega)];rfl
 ·obtain⟨v,c,d⟩:=f rfl (Y0 l 0 0) 0 0 (by unfold Y0;omega) (by omega);have k:V5 () 0 l (l.length:Int) 0=Y0 l 0 0:=rfl;rw[Int.natCast_zero]at c d;rw[k];simp only[Obs,Ont,Ocf,c,d]
theorem Qua{l:List Zi}(h:Qlt l)(u:Unit): ∀(N i:Nat),l.length-i<N->i<=l.length-> ∃k b,Qe N l u (l.length:Int) (i:Int)=some (k,())/\decide (k>=0)= !b/\Jv N l (i:Int)=some (b,())
 |0,_,h,_=>by omega
 |N+1,i,j,m=>by
  have n:=h.1;rw[Qe,Jv];by_cases a:i<l.length
  ·have c:=h.2 _ (Qh (d:=Qr) a);unfold FOK at c;unfold Zqs;rw[Zn (Zk (by omega)),Zn (Zk (by omega)),Zb (by omega),Zb (by omega),show(i:Int).toNat=i from rfl,Qez _ (by omega),Zus _ (by omega),Obs,Obs,Obs,Zt a (by omega)];obtain⟨k,b,e,f,g⟩:=Qua h () N (i+1) (by omega) (by omega);cases hc:Y7 (l.getD i Qr)
   ·exact⟨_,false,rfl,by simp,rfl⟩
   ·exact⟨k,b,e,f,g⟩
  ·rw[Zm (Zl (by omega)),Zm (Zl (by omega))];exact⟨_,true,rfl,by simp,rfl⟩
theorem Q9d{l:List Zi}(h:Qlt l): ∃b,Qu l=some (!b,())/\Zc5 l=some (b,()):=by
 unfold Qu Xr Zc5;obtain⟨k,b,a,d,c⟩:=Qua h () (K8 l 0) 0 (by unfold K8;omega) (by omega);have e:Xa l () (l.length:Int) 0=K8 l 0:=rfl;rw[Int.natCast_zero]at a c;exact⟨b,by rw[e,a,Obs,d],c⟩
theorem Qe6{K:Nat}{c:Zf}(h:Qd K c)(hK:K<=1000000):Zj2 c=Ya c:=by
 obtain⟨o,u⟩:=Qu6 h.str hK;obtain⟨B,v⟩:=Qu5 h.str hK;have hl:=h.pk.1;obtain⟨e,w⟩: ∃r,Z5 c.2.2.2.2.2.2.2.2.2.2.2.2.2.1 (-1) 4611686018427387903=some (r,()):=⟨_,rfl⟩
 obtain⟨f,x⟩: ∃r,Z5 c.2.2.2.2.2.2.2.2.2.2.2.2.2.2.1 0 1000000=some (r,()):=⟨_,rfl⟩
 obtain⟨j,y⟩: ∃r,Z5 c.2.2.2.2.2.2.2.2.2.2.2.2.2.2.2.2.1 0 1000000=some (r,()):=⟨_,rfl⟩
 obtain⟨k,z⟩: ∃r,Z5 c.2.2.2.2.2.2.2.2.2.2.2.2.2.2.2.2.2.1 0 255=some (r,()):=⟨_,rfl⟩
 have C:Zy c.2.2.2.2.2.2.2.2.2.2.2.2.2.1 (-1) 4611686018427387903=some (e,()):=w;have D:Zy c.2.2.2.2.2.2.2.2.2.2.2.2.2.2.1 0 1000000=some (f,()):=x;have E:Zy c.2.2.2.2.2.2.2.2.2.2.2.2.2.2.2.2.1 0 1000000=some (j,()):=y;have F:Zy c.2.2.2.2.2.2.2.2.2.2.2.2.2.2.2.2.2.1 0 255=some (k,()):=z;have G: ∀(N i:Nat),c.2.2.2.2.2.2.2.2.2.2.2.2.2.2.2.1.length-i<N->i<=c.2.2.2.2.2.2.2.2.2.2.2.2.2.2.2.1.length-> ∃p,Ze7 N c.2.2.2.2.2.2.2.2.2.2.2.2.2.2.2.1 c.2.2.2.2.2.2.2.2.2.2.2.2.2.2.1 c.2.2.2.2.2.2.2.2.2.2.2.2.2.2.2.1 (c.2.2.2.2.2.2.2.2.2.2.2.2.2.2.2.1.length:Int) (i:Int)=some (p,())/\
   Zau N c (i:Int)=some (p&& (((((e&&f)&&j)&&k)&&decide (o<=c.2.2.2.2.1.2.1))&&decide (B<=c.2.2.2.2.2.1.2.2.2.1)),()):=by
  intro N
  induction N with
  |zero=>intro i h;omega
  |succ N H=>
   intro i hN hi;rw[Ze7,Zau];by_cases A:i<c.2.2.2.2.2.2.2.2.2.2.2.2.2.2.2.1.length
   ·have g: ∀{a:Prop},a->decide ((i:Int)>0)=true->0<=IntKind.i64.wrap ((i:Int)-1)/\IntKind.i64.wrap ((i:Int)-1)< (c.2.2.2.2.2.2.2.2.2.2.2.2.2.2.2.1.length:Int):=fun _ h=>by
     have:=Ode h;rw[Zr (by omega) (by omega)];omega
    obtain⟨b,I,J⟩:=Q9d (h.pk.2 _ (Qh (d:=Qk) A));rw[Zn (Zk (by omega)),Zn (Zk (by omega)),Zb (by omega),Zb (by omega),show(i:Int).toNat=i from rfl,Zko,Zws,I,J,Obs,Obs,Zb (fun h s=>g h s),Zb (fun _ _=>by omega),Zb (fun h s=>g h s)];simp only;rw[Zb (fun _=>by omega),Zt A (by omega)];obtain⟨p,m,n⟩:=H (i+1) (by omega) (by omega);rw[m,n];generalize (!(_&&_)||_:Bool)=q;cases q
    ·cases b
     ·exact⟨false,rfl,rfl⟩
     ·exact⟨p,rfl,rfl⟩
    ·exact⟨false,rfl,rfl⟩
   ·rw[Zm (Zl (by omega)),Zm (Zl (by omega))];refine⟨true,rfl,?_⟩;simp only[w,x,y,z,Obs,bA,bA2,u,v,Ota];generalize (((e&&f)&&j)&&k)=q;cases q
    ·rfl
    ·simp only[Oct,Obs,Ota];by_cases l:o<=c.2.2.2.2.1.2.1
     ·rw[Zk l];rfl
     ·rw[Zl l];rfl
 obtain⟨p,m,n⟩:=G (Jn c 0) 0 (by unfold Jn;omega) (by omega);have L:Zip c.2.2.2.2.2.2.2.2.2.2.2.2.2.2.2.1 c.2.2.2.2.2.2.2.2.2.2.2.2.2.2.1 c.2.2.2.2.2.2.2.2.2.2.2.2.2.2.2.1 (c.2.2.2.2.2.2.2.2.2.2.2.2.2.2.2.1.length:Int) 0=Jn c 0:=rfl;rw[Int.natCast_zero]at m n;obtain⟨M,O⟩:=Z0j c.2.1;obtain⟨P,t⟩:=Z0j c.2.2.1;obtain⟨Q,S⟩:=Zu1 h.str hK;obtain⟨U,V⟩:=Zog c.2.2.2.2.1;obtain⟨W,X⟩:=Zvf c.2.2.2.2.2.1;obtain⟨Y,Z⟩:=Z6d c.2.2.2.2.2.2.1;obtain⟨b7,e7⟩:=Z6d c.2.2.2.2.2.2.2.1;obtain⟨b8,e8⟩:=Z6b c.2.2.2.2.2.2.2.2.1;obtain⟨b9,e9⟩:=Z6b c.2.2.2.2.2.2.2.2.2.1;unfold Zj2 Ya Ztv;simp only[Q2r,Z27 h.str hK,Qiv,Zyj,Qyc,Qya,Q1b h.str hK,Q1a h.str hK,O,t,S,V,X,Z,e7,e8,e9,L,m,n,u,v,C,D,E,F,Obs,bO,bO2];cases M
 ·rfl
 cases P
 ·rfl
 cases Q
 ·rfl
 cases U
 ·rfl
 cases W
 ·rfl
 cases Y
 ·rfl
 cases b7
 ·rfl
 cases b8
 ·rfl
 cases b9
 ·rfl
 simp only[Ont,Bool.or_self,Ocf];cases p
 ·cases e<;>cases f<;>cases j<;>cases k<;>rfl
 simp only[Oct,Obs,Ota];by_cases l:o<=c.2.2.2.2.1.2.1
 ·rw[Zk l];cases e<;>cases f<;>cases j<;>cases k<;>rfl
 ·rw[Zl l];cases e<;>cases f<;>cases j<;>cases k<;>rfl
theorem Xfk(c:Wb):T (Yn c) fun r=>r.1=true->0<=c.2.1/\c.2.1<=c.1/\c.1<=4611686018427387903:=by
 unfold Yn;simp only[K5,Zws,Obs,bA,bA2];refine T.pure fun h=> ?_;simp only[Oba,Kx,decide_eq_true_eq]at h;omega
theorem Xfw(n:Int): -9223372036854775808<=IntKind.i64.wrap n/\IntKind.i64.wrap n<=9223372036854775807:=by
 simp only[IntKind.wrap,IntKind.bits,IntKind.signed,Ota];split<;>rename_i h<;>simp at h<;>omega
def inB(n a b:Int):Bool:=decide (n>=a)&&decide (n<=b)
theorem Zlu{n a b:Int}:inB n a b=true↔a<=n/\n<=b:=by unfold inB;simp
theorem inQ(n a b:Int):Z5 n a b=some (inB n a b,()):=rfl
def Qpg(c:Wb):Bool:=((V6 c.1&&inB c.2.1 0 c.1)&&inB c.2.2.1 (-1) c.1)&&inB c.2.2.2.1 (-1) c.1
theorem Q81(c:Wb):Yn c=some (Qpg c,()):=by
 unfold Yn;simp only[K5,inQ,Obs,bA,bA2];rfl
structure Xbo(c:Wb):Prop where
 lim:c.1<=4611686018427387903
 use0:0<=c.2.1
 use:c.2.1<=c.1
 blk0: -1<=c.2.2.1
 blk:c.2.2.1<=c.1
 told0: -1<=c.2.2.2.1
 told:c.2.2.2.1<=c.1
theorem Q31{c:Wb}:Qpg c=true↔Xbo c:=by
 unfold Qpg;simp only[Oba,Kx,Zlu];exact⟨fun h=>⟨by omega,by omega,by omega,by omega,by omega,by omega,by omega⟩,fun h=>by obtain⟨_,_,_,_,_,_,_⟩:=h;omega⟩
def Z25(w:Qw):Bool:=(((((inB w.2.1 1 4096&&inB w.1 1 w.2.1)&&inB w.2.2.1 1 4611686018427387903)&&inB w.2.2.2.1 0 w.2.2.1)&&inB w.2.2.2.2.1 0 w.2.2.2.1)&&decide (w.2.2.1<=IntKind.i64.wrap (w.2.2.2.2.1+w.1)))&&inB w.2.2.2.2.2.1 0 1000000
theorem Q1r(w:Qw):V8 w=some (Z25 w,()):=by
 unfold V8;simp only[inQ,Obs,bA,bA2];rfl
structure Q8s(w:Qw):Prop where
 most:1<=w.2.1/\w.2.1<=4096
 size:1<=w.1/\w.1<=w.2.1
 lim:1<=w.2.2.1/\w.2.2.1<=4611686018427387903
 seen:0<=w.2.2.2.1/\w.2.2.2.1<=w.2.2.1
 read:0<=w.2.2.2.2.1/\w.2.2.2.2.1<=w.2.2.2.1
 lr:w.2.2.1<=w.2.2.2.2.1+w.1
 since:0<=w.2.2.2.2.2.1/\w.2.2.2.2.2.1<=1000000
theorem Qcz{w:Qw}:Z25 w=true↔Q8s w:=by
 unfold Z25;simp only[Oba,Zlu,decide_eq_true_eq];constructor
 ·rintro⟨⟨⟨⟨⟨⟨b,c⟩,d⟩,e⟩,f⟩,a⟩,g⟩;rw[Zr (by omega) (by omega)]at a;exact⟨b,c,d,e,f,a,g⟩
 ·rintro⟨b,c,d,e,f,a,g⟩;rw[Zr (by omega) (by omega)];exact⟨⟨⟨⟨⟨⟨b,c⟩,d⟩,e⟩,f⟩,a⟩,g⟩
def prB(p:Xl):Bool:=inB p.1 0 7
theorem prE(p:Xl):Zbe p=some (prB p,()):=rfl
def Z9l(c:Zdh):Bool:=(inB c.1 0 1152921504606846976&&inB c.2.1 0 c.1)&&inB c.2.2.1 (-1) c.1
theorem Xbx(c:Zdh):Zco c=some (Z9l c,()):=by
 unfold Zco;simp only[inQ,Obs,bA,bA2];rfl
def Z6q(a:Q8):Bool:=(((inB a.1 0 1000&&inB a.2.1 a.1 1152921504606846976)&&inB a.2.2.1 0 a.2.1)&&inB a.2.2.2.1 0 a.2.2.1)&&decide (a.2.1<=IntKind.i64.wrap (a.2.2.2.1+a.1))
theorem Q8v(a:Q8):Vp a=some (Z6q a,()):=by
 unfold Vp;simp only[inQ,Obs,bA,bA2];rfl
structure Q8m(a:Q8):Prop where
 most:0<=a.1/\a.1<=1000
 lim:a.1<=a.2.1/\a.2.1<=1152921504606846976
 seen:0<=a.2.2.1/\a.2.2.1<=a.2.1
 clo:0<=a.2.2.2.1/\a.2.2.2.1<=a.2.2.1
 lc:a.2.1<=a.2.2.2.1+a.1
theorem Qot{a:Q8}:Z6q a=true↔Q8m a:=by
 unfold Z6q;simp only[Oba,Zlu,decide_eq_true_eq];constructor
 ·rintro⟨⟨⟨⟨c,d⟩,e⟩,f⟩,b⟩;rw[Zr (by omega) (by omega)]at b;exact⟨c,d,e,f,b⟩
 ·rintro⟨c,d,e,f,b⟩;rw[Zr (by omega) (by omega)];exact⟨⟨⟨⟨c,d⟩,e⟩,f⟩,b⟩
noncomputable def cfB(c:Zgp):Bool:=match Vz c with|some (b,_)=>b|none=>false
theorem cfE(c:Zgp):Vz c=some (cfB c,()):=by
 obtain⟨b,e⟩:=Z0j c;unfold cfB;rw[e]
structure Xfm(s:Zp):Prop where
 whole:Z5z s (Zl4 (Zl4 s.2.2.1 s.2.2.2.1) s.2.2.2.2.1)=true
 gap:Z3t s.2.2.2.2.1 0=s.2.1.2.1
 code:s.2.2.2.2.2.2.2.2.1=0
 fl:hiB s.2.2.2.2.2.2.2.1 s.2.2.2.1=true
 ac:hiB s.2.2.2.2.2.2.2.1 s.2.2.2.2.1=true
 fin:Qv3 s=true
 st:s.1=stF s
structure Q8q(s:Zp):Prop where
 ring:Zw8 s.2.1=true
 pr:rsB (-1) s.2.2.1=true
 fr:rsB (-1) s.2.2.2.1=true
 ar:rsB (-1) s.2.2.2.2.1=true
 sent:0<=s.2.2.2.2.2.2.2.1/\s.2.2.2.2.2.2.2.1<=s.2.1.2.2.1
 code:0<=s.2.2.2.2.2.2.2.2.1/\s.2.2.2.2.2.2.2.2.1<=4611686018427387903
 fin:0<=s.2.2.2.2.2.2.1/\s.2.2.2.2.2.2.1<=3
 rst:s.1=4\/s.1=5->s.2.1.2.1=s.2.1.2.2.1/\s.2.2.1=[]/\s.2.2.2.1=[]/\s.2.2.2.2.1=[]/\s.2.2.2.2.2.1=s.2.2.2.2.2.2.2.1/\s.2.2.2.2.2.2.1=0/\s.2.2.2.2.2.2.2.1=s.2.1.2.2.1
 no: ¬(s.1=4\/s.1=5)->Xfm s
noncomputable def Q1i(s:Zp):Bool:=match Yb s with|some (b,_)=>b|none=>false
theorem Xe2{K:Int}{s:Zp}(hs:Zb4 K s)(hK:K<=1000000):Yb s=some (Q1i s,()):=by
 obtain⟨b,e,-⟩:=Zis hs hK;unfold Q1i;rw[e]
theorem Xe3{K:Int}{s:Zp}(hs:Zb4 K s)(hK:K<=1000000):Q1i s=true↔Q8q s:=by
 have q:=Q5 hs.pend hs.e0 hs.eK hK;have r:=Q5 hs.flight hs.e0 hs.eK hK;have t:=Q5 hs.acked hs.e0 hs.eK hK;have p:=(Z4c s.2.1 (by have:=hs.cells;omega)).1;have o:=Xc5 hs hK (Kc s s.2.2.1 0) 0 s.2.2.1 hs.pend (by unfold Kc;omega) (by omega);simp only[Int.natCast_zero,List.drop_zero]at o;unfold Q1i Yb;rw[p,Zbq _ (by omega),Zbq _ (by omega),Zbq _ (by omega)];simp only[K5,inQ,Obs,bO,bO2,hs.pend.1,hs.flight.1,hs.acked.1,Ont,Bool.or_false,o];by_cases f: (((!Zw8 s.2.1|| !inB s.2.2.2.2.2.2.2.1 0 s.2.1.2.2.1)|| !V6 s.2.2.2.2.2.2.2.2.1)|| !inB s.2.2.2.2.2.2.1 0 3)=true
 ·rw[f,Oct];refine⟨fun h=>Bool.noConfusion h,fun h=> ?_⟩;have a:=h.ring;have b:=Zlu.2 h.sent;have c:=Kx.2 h.code;have d:=Zlu.2 h.fin;rw[a,b,c,d]at f;simp at f
 ·have f: (((!Zw8 s.2.1|| !inB s.2.2.2.2.2.2.2.1 0 s.2.1.2.2.1)|| !V6 s.2.2.2.2.2.2.2.2.1)|| !inB s.2.2.2.2.2.2.1 0 3)=false:=by simpa using f
  rw[f,Ocf];simp only[Bool.or_eq_false_iff,Bool.not_eq_false']at f;obtain⟨⟨⟨a,b⟩,c⟩,d⟩:=f;by_cases e:s.1=4\/s.1=5
  ·have: ((s.1==4)|| (s.1==5))=true:=by simpa using e
   rw[this,Oct];simp only[Oba,beq_iff_eq];constructor
   ·rintro⟨⟨⟨⟨⟨⟨g,l⟩,m⟩,n⟩,i⟩,j⟩,k⟩;exact⟨a,hs.pend.1,hs.flight.1,hs.acked.1,Zlu.1 b,Kx.1 c,Zlu.1 d,fun _=>⟨g,List.length_eq_zero_iff.1 (by omega),List.length_eq_zero_iff.1 (by omega),List.length_eq_zero_iff.1 (by omega),i,j,k⟩,fun h=>absurd e h⟩
   ·intro h;obtain⟨g,l,m,n,i,j,k⟩:=h.rst e;exact⟨⟨⟨⟨⟨⟨g,by rw[l];rfl⟩,by rw[m];rfl⟩,by rw[n];rfl⟩,i⟩,j⟩,k⟩
  ·have: ((s.1==4)|| (s.1==5))=false:=by simpa using e
   rw[this,Ocf];simp only[Oba,beq_iff_eq];constructor
   ·rintro⟨g,l,m,n,i,j,k⟩;exact⟨a,hs.pend.1,hs.flight.1,hs.acked.1,Zlu.1 b,Kx.1 c,Zlu.1 d,fun h=>absurd h e,fun _=>⟨g,l,m,n,i,j,k⟩⟩
   ·intro h;obtain⟨g,l,m,n,i,j,k⟩:=h.no e;exact⟨g,l,m,n,i,j,k⟩
noncomputable def Qb4(r:Zu):Bool:=match Xc r with|some (b,_)=>b|none=>false
theorem Qy0{K:Nat}{r:Zu}(h:Ze1 K r.2.1)(hK:K<=1000000):Xc r=some (Qb4 r,()):=by
 obtain⟨b,e⟩:=Zkb h hK;unfold Qb4;rw[e]
theorem Xep{K:Nat}{r:Zu}(h:Ze1 K r.2.1)(hK:K<=1000000)(hb:Qb4 r=true):0<=r.1:=by
 have e:=Qy0 h hK;rw[hb]at e;unfold Xc at e;have j:=h.len;obtain⟨v,k⟩:=Q6d h hK;rw[Ze9 _ (by omega),Zpr _ (by omega),k]at e;simp only[Obs,K5,Kk]at e;by_cases i:0<=r.1
 ·exact i
 ·exfalso;have a: (r.1==0)=false:=by simp;omega
  have b: (r.1==1)=false:=by simp;omega
  have c: (r.1==2)=false:=by simp;omega
  have d: (r.1==3)=false:=by simp;omega
  have f: (r.1==4)=false:=by simp;omega
  have g: (r.1==5)=false:=by simp;omega
  rw[a,b,c,d,f,g]at e;simp only[Ocf,Yh]at e;revert e;generalize (_||decide (r.2.2.1< -1))=x;cases x<;>simp
noncomputable def stB(s:Zd):Bool:=((((((((V6 s.1&&Q1i s.2.1)&&Qpg s.2.2.1)&&Qb4 s.2.2.2.1)&&Z25 s.2.2.2.2.1)&&prB s.2.2.2.2.2.1)&&V6 s.2.2.2.2.2.2.2.2.2.2.2.2.1)&& (s.2.2.2.2.2.2.1||s.2.2.2.2.2.2.2.1))&&!(((((decide (s.2.1.2.2.2.2.2.2.2.1>s.2.2.1.2.1))|| (decide (s.2.2.2.1.2.2.2.1>s.2.2.2.2.1.2.2.2.1)))|| (s.2.2.2.2.2.2.2.2.1&& (s.2.1.1 !=(4:Int))))|| (s.2.2.2.2.2.2.2.2.2.1&& (!s.2.2.2.2.2.2.2.2.2.2.2.1)))|| ((s.2.2.2.2.2.2.2.2.2.2.2.2.1 !=(0:Int))&& (!s.2.2.2.2.2.2.2.2.2.2.2.1))))&&((s.2.2.2.2.2.2.1|| (((s.2.1.1==(0:Int))&& (s.2.1.2.1.2.2.1==(0:Int)))&& (s.2.1.2.2.2.2.2.1==(-1:Int))))&& (s.2.2.2.2.2.2.2.1|| (((s.2.2.2.1.1==(0:Int))&& (s.2.2.2.1.2.2.2.1==(0:Int)))&& (!s.2.2.2.2.2.2.2.2.2.2.2.1))))
theorem st3{q a b:Bool}: (bif q then some (false,())else bif a then some (false,())else some (b,()))=some ((!q&& !a)&&b,()):=by cases q<;>cases a<;>rfl
theorem stE{K:Nat}{s:Zd}(h:Xq K s)(hK:K<=1000000):Zcp s=some (stB s,()):=by
 unfold Zcp stB;simp only[Xe2 h.snd (by omega),Qy0 h.rcv hK,Q81,Q1r,prE,K5,Obs,bO,bO2];rw[st3];congr 4;cases V6 s.1<;>cases Q1i s.2.1<;>cases Qpg s.2.2.1<;>cases Qb4 s.2.2.2.1<;>cases Z25 s.2.2.2.2.1<;>cases prB s.2.2.2.2.2.1<;>cases V6 s.2.2.2.2.2.2.2.2.2.2.2.2.1<;>cases s.2.2.2.2.2.2.1<;>cases s.2.2.2.2.2.2.2.1<;>rfl
noncomputable def sB:Option Int->List Zd->Bool
 |_,[]=>true
 |p,x::r=>(stB x&& (match p with|none=>true|some q=>decide (q<x.1)))&&sB (some x.1) r
theorem Q73: ∀{l:List Zd} {p:Option Int},sB p l=true↔(∀s∈l,stB s=true)/\l.Pairwise (fun a b=>a.1<b.1)/\ ∀q,p=some q-> ∀s∈l,q<s.1
 | [],p=>by simp[sB]
 |x::r,p=>by
  have g: (match p with|none=>true|some q=>decide (q<x.1))=true↔ ∀q,p=some q->q<x.1:=by cases p<;>simp
  simp only[sB,Oba,g,Q73 (l:=r),List.pairwise_cons,List.mem_cons,forall_eq_or_imp];constructor
  ·rintro⟨⟨a,b⟩,c,d,e⟩;exact⟨⟨a,c⟩,⟨e _ rfl,d⟩,fun q f=>⟨b q f,fun s h=>by have:=b q f;have:=e _ rfl s h;omega⟩⟩
  ·rintro⟨⟨a,c⟩,⟨e,d⟩,b⟩;exact⟨⟨a,fun q f=>(b q f).1⟩,c,d,fun q f=>by cases f;exact e⟩
def pvS(l:List Zd)(i:Nat):Option Int:=if i=0 then none else some (l.getD (i-1) Zj).1
theorem Q5o{K:Nat}{l:List Zd}(h:Zhh K l)(hK:K<=1000000): ∀(N i:Nat),l.length-i<N->i<=l.length->Yf N l (i:Int)=some (sB (pvS l i) (l.drop i)&&decide ((l.length:Int)<=24),())
 |0,_,h,_=>by omega
 |N+1,i,r,s=>by
  have j:=h.len;rw[Yf];by_cases c:i<l.length
  ·have g: ∀{a:Prop},a->decide ((i:Int)>0)=true->0<=IntKind.i64.wrap ((i:Int)-1)/\IntKind.i64.wrap ((i:Int)-1)< (l.length:Int):=fun _ h=>by
    have:=Ode h;rw[Zr (by omega) (by omega)];omega
   rw[Zn (Zk (by omega)),Zb (by omega),show(i:Int).toNat=i from rfl,stE (h.all _ (Qh (d:=Zj) c)) hK,Obs,Zb (fun _ _=>by omega),Zb (fun h m=>g h m),Zt c (by omega),Q5o h hK N (i+1) (by omega) (by omega),Yl (d:=Zj) c];have e:pvS l (i+1)=some (l.getD i Zj).1:=by unfold pvS;rw[if_neg (by omega)];rfl
   rw[e];simp only[sB];by_cases k:i=0
   ·subst k;have f:pvS l 0=none:=rfl;rw[f,Zl (p:=((0:Nat):Int)>0) (by omega)];generalize stB (l.getD 0 Zj)=b;cases b<;>simp
   ·have f:pvS l i=some (l.getD (i-1) Zj).1:=by unfold pvS;rw[if_neg k]
    have n: (IntKind.i64.wrap ((i:Int)-1)).toNat=i-1:=by rw[Zr (by omega) (by omega)];omega
    rw[f,Zk (p:=(i:Int)>0) (by omega),n];have o:decide ((l.getD i Zj).1<=(l.getD (i-1) Zj).1)= !decide ((l.getD (i-1) Zj).1< (l.getD i Zj).1):=by
     rw[Bool.eq_iff_iff];simp
    rw[o];dsimp only;generalize stB (l.getD i Zj)=b;generalize decide ((l.getD (i-1) Zj).1< (l.getD i Zj).1)=q;generalize sB (some (l.getD i Zj).1) (List.drop (i+1) l)=y;cases b<;>cases q<;>cases y<;>rfl
  ·rw[Zm (Zl (by omega)),List.drop_eq_nil_of_le (by omega)];simp[sB]
structure Q8r(l:List Zd):Prop where
 all: ∀s∈l,stB s=true
 srt:l.Pairwise fun a b=>a.1<b.1
 len:l.length<=24
noncomputable def Qw8(l:List Zd):Bool:=sB none l&&decide ((l.length:Int)<=24)
theorem Xc7{K:Nat}{l:List Zd}(h:Zhh K l)(hK:K<=1000000):Kh l=some (Qw8 l,()):=by
 unfold Kh;exact Q5o h hK _ 0 (by unfold W7;omega) (by omega)
theorem Q46{l:List Zd}:Qw8 l=true↔Q8r l:=by
 unfold Qw8;simp only[Oba,Q73,decide_eq_true_eq];constructor
 ·rintro⟨⟨a,b,-⟩,c⟩;exact⟨a,b,by omega⟩
 ·rintro⟨a,b,c⟩;exact⟨⟨a,b,fun q h=>by cases h⟩,by omega⟩
def Qr6(f:Zd->Int):List Zd->Int->Int| [],n=>n|x::r,n=>Qr6 f r (min (IntKind.i64.wrap (n+f x)) 4611686018427387904)
def Z8s(f:Zd->Int):List Zd->Int| []=>0|x::r=>f x+Z8s f r
theorem Qgl{f:Zd->Int}: ∀{l:List Zd} {n:Int},(∀s∈l,0<=f s/\f s<=4611686018427387903)->0<=n->n<=4611686018427387904->Qr6 f l n=min (n+Z8s f l) 4611686018427387904/\0<=Z8s f l
 | [],n,_,c,d=>by simp only[Qr6,Z8s];omega
 |x::r,n,h,c,d=>by
  have hx:=h x (List.mem_cons_self);simp only[Qr6,Z8s];rw[Zr (by omega) (by omega)];obtain⟨a,b⟩:=Qgl (f:=f) (l:=r) (n:=min (n+f x) 4611686018427387904) (fun s e=>h s (List.mem_cons_of_mem _ e)) (by omega) (by omega);rw[a];omega
def Zy9(s:Zd):Int:=s.2.1.2.2.2.2.2.2.2.1
def Z0b(s:Zd):Int:=s.2.2.2.1.2.2.2.1
theorem Xey{K:Nat}{l:List Zd}(h:Zhh K l)(hK:K<=1000000)(hb:Qw8 l=true):Zc4 l=some (Qr6 Zy9 l 0,()):=by
 have a:=h.len;have c: ∀(N i:Nat) (n:Int),l.length-i<N->i<=l.length->Kt N l n (i:Int)=some (Qr6 Zy9 (l.drop i) n,()):=by
  intro N
  induction N with
  |zero=>intro i n h;omega
  |succ N e=>
   intro i n f g;unfold Kt;rw[Xc7 h hK,hb,Kk,Obs];by_cases b:i<l.length
   ·rw[Zk (by omega)];simp only[Oct,Bool.and_self];rw[Zb (by omega),Zt b (by omega),e (i+1) _ (by omega) (by omega),Yl (d:=Zj) b];rfl
   ·rw[Zl (by omega),List.drop_eq_nil_of_le (by omega)];rfl
 unfold Zc4;exact c _ 0 0 (by unfold Y1;omega) (by omega)
theorem Xex{K:Nat}{l:List Zd}(h:Zhh K l)(hK:K<=1000000)(hb:Qw8 l=true):Zc3 l=some (Qr6 Z0b l 0,()):=by
 have a:=h.len;have c: ∀(N i:Nat) (n:Int),l.length-i<N->i<=l.length->Ks N l n (i:Int)=some (Qr6 Z0b (l.drop i) n,()):=by
  intro N
  induction N with
  |zero=>intro i n h;omega
  |succ N e=>
   intro i n f g;unfold Ks;rw[Xc7 h hK,hb,Kk,Obs];by_cases b:i<l.length
   ·rw[Zk (by omega)];simp only[Oct,Bool.and_self];rw[Zb (by omega),Zt b (by omega),e (i+1) _ (by omega) (by omega),Yl (d:=Zj) b];rfl
   ·rw[Zl (by omega),List.drop_eq_nil_of_le (by omega)];rfl
 unfold Zc3;exact c _ 0 0 (by unfold Y0;omega) (by omega)
theorem Xfv{l:List Zi}(h:Qlt l):Zc5 l=some (l.all Y7,()):=by
 have c:=h.1;have e: ∀(N i:Nat),l.length-i<N->i<=l.length->Jv N l (i:Int)=some ((l.drop i).all Y7,()):=by
  intro N
  induction N with
  |zero=>intro i h;omega
  |succ N f=>
   intro i j k;unfold Jv;by_cases a:i<l.length
   ·have g:FOK (l.getD i Qr):=h.2 _ (Qh a);unfold FOK at g;rw[Zn (Zk (by omega)),Zb (by omega),show(i:Int).toNat=i from rfl,Zus _ (by omega),Obs,Zt a (by omega),f (i+1) (by omega) (by omega),Yl (d:=Qr) a,List.all_cons];generalize Y7 (l.getD i Qr)=b;cases b<;>rfl
   ·rw[Zm (Zl (by omega)),List.drop_eq_nil_of_le (by omega)];rfl
 unfold Zc5;exact e _ 0 (by unfold K8;omega) (by omega)
def pkB(n:Int):Option Int->List Z9->Bool
 |_,[]=>true
 |p,x::r=>((inB x.1 0 (IntKind.i64.wrap (n-1))&& (match p with|none=>true|some q=>decide (q<x.1)))&&x.2.1.all Y7)&&pkB n (some x.1) r
def pvP(l:List Z9)(i:Nat):Option Int:=if i=0 then none else some (l.getD (i-1) Qk).1
noncomputable def Qve(c:Zf):Bool:=((((inB c.2.2.2.2.2.2.2.2.2.2.2.2.2.1 (-1) 4611686018427387903&&inB c.2.2.2.2.2.2.2.2.2.2.2.2.2.2.1 0 1000000)&&inB c.2.2.2.2.2.2.2.2.2.2.2.2.2.2.2.2.1 0 1000000)&&inB c.2.2.2.2.2.2.2.2.2.2.2.2.2.2.2.2.2.1 0 255)&&decide (Qr6 Zy9 c.2.2.2.1 0<=c.2.2.2.2.1.2.1))&&decide (Qr6 Z0b c.2.2.2.1 0<=c.2.2.2.2.2.1.2.2.2.1)
theorem Q17{K:Nat}{c:Zf}(h:Qd K c)(hK:K<=1000000)(hb:Qw8 c.2.2.2.1=true): ∀(N i:Nat),c.2.2.2.2.2.2.2.2.2.2.2.2.2.2.2.1.length-i<N->i<=c.2.2.2.2.2.2.2.2.2.2.2.2.2.2.2.1.length->
  Zau N c (i:Int)=some (pkB c.2.2.2.2.2.2.2.2.2.2.2.2.2.2.1 (pvP c.2.2.2.2.2.2.2.2.2.2.2.2.2.2.2.1 i) (c.2.2.2.2.2.2.2.2.2.2.2.2.2.2.2.1.drop i)&&Qve c,())
 |0,_,h,_=>by omega
 |N+1,i,v,w=>by
  have k:=h.pk.1;rw[Zau];by_cases f:i<c.2.2.2.2.2.2.2.2.2.2.2.2.2.2.2.1.length
  ·have o:=Q17 h hK hb N (i+1) (by omega) (by omega);have r:=h.pk.2 _ (Qh (d:=Qk) f);generalize c.2.2.2.2.2.2.2.2.2.2.2.2.2.2.1=n at*
   generalize c.2.2.2.2.2.2.2.2.2.2.2.2.2.2.2.1=l at*
   have g: ∀{a:Prop},a->decide ((i:Int)>0)=true->0<=IntKind.i64.wrap ((i:Int)-1)/\IntKind.i64.wrap ((i:Int)-1)< (l.length:Int):=fun _ h=>by
    have:=Ode h;rw[Zr (by omega) (by omega)];omega
   rw[Zn (Zk (by omega)),Zb (by omega),show(i:Int).toNat=i from rfl,inQ,Obs,Zb (fun _ _=>by omega),Zb (fun h s=>g h s),Zb (fun _=>by omega),Zt f (by omega),o,Yl (d:=Qk) f,Xfv r,Kk,Obs];have e:pvP l (i+1)=some (l.getD i Qk).1:=by unfold pvP;rw[if_neg (by omega)];rfl
   rw[e];simp only[pkB];by_cases m:i=0
   ·subst m;have j:pvP l 0=none:=rfl;rw[j,Zl (p:=((0:Nat):Int)>0) (by omega)];generalize inB (l.getD 0 Qk).1 0 (IntKind.i64.wrap (n-1))=b;generalize (l.getD 0 Qk).2.1.all Y7=d;cases b<;>cases d<;>simp
   ·have j:pvP l i=some (l.getD (i-1) Qk).1:=by unfold pvP;rw[if_neg m]
    have t: (IntKind.i64.wrap ((i:Int)-1)).toNat=i-1:=by rw[Zr (by omega) (by omega)];omega
    rw[j,Zk (p:=(i:Int)>0) (by omega),t];have u:decide ((l.getD i Qk).1<=(l.getD (i-1) Qk).1)= !decide ((l.getD (i-1) Qk).1< (l.getD i Qk).1):=by
     rw[Bool.eq_iff_iff];simp
    rw[u];dsimp only;generalize inB (l.getD i Qk).1 0 (IntKind.i64.wrap (n-1))=b;generalize (l.getD i Qk).2.1.all Y7=d;generalize decide ((l.getD (i-1) Qk).1< (l.getD i Qk).1)=q;generalize pkB n (some (l.getD i Qk).1) (List.drop (i+1) l)=y;cases b<;>cases q<;>cases d<;>cases y<;>rfl
  ·rw[Zm (Zl (by omega)),List.drop_eq_nil_of_le (by omega)];simp only[pkB,Ota,inQ,Obs,bA,bA2,Xey h.str hK hb,Xex h.str hK hb];unfold Qve;generalize inB c.2.2.2.2.2.2.2.2.2.2.2.2.2.1 (-1) 4611686018427387903=b1;generalize inB c.2.2.2.2.2.2.2.2.2.2.2.2.2.2.1 0 1000000=b2;generalize inB c.2.2.2.2.2.2.2.2.2.2.2.2.2.2.2.2.1 0 1000000=b3;generalize inB c.2.2.2.2.2.2.2.2.2.2.2.2.2.2.2.2.2.1 0 255=b4;cases b1<;>cases b2<;>cases b3<;>cases b4<;>try rfl
   simp only[Bool.and_self,Oct,Obs,Ota];generalize decide (Qr6 Zy9 c.2.2.2.1 0<=c.2.2.2.2.1.2.1)=b5;cases b5<;>rfl
structure Qvh(c:Zf):Prop where
 own:cfB c.2.1=true
 peer:cfB c.2.2.1=true
 sts:Qw8 c.2.2.2.1=true
 tot:Qpg c.2.2.2.2.1=true
 inf:Z25 c.2.2.2.2.2.1=true
 ob:Z9l c.2.2.2.2.2.2.1=true
 ou:Z9l c.2.2.2.2.2.2.2.1=true
 ab:Z6q c.2.2.2.2.2.2.2.2.1=true
 au:Z6q c.2.2.2.2.2.2.2.2.2.1=true
 pks:pkB c.2.2.2.2.2.2.2.2.2.2.2.2.2.2.1 none c.2.2.2.2.2.2.2.2.2.2.2.2.2.2.2.1=true
 tail:Qve c=true
noncomputable def Ztm(c:Zf):Bool:=match Ya c with|some (b,_)=>b|none=>false
theorem Qho{K:Nat}{c:Zf}(h:Qd K c)(hK:K<=1000000):Ya c=some (Ztm c,()):=by
 obtain⟨⟨b,u⟩,e,-⟩:=Zxr h hK;unfold Ztm;rw[e]
theorem Q80{K:Nat}{c:Zf}(h:Qd K c)(hK:K<=1000000):Ztm c=true↔Qvh c:=by
 unfold Ztm Ya;simp only[cfE,Xc7 h.str hK,Q81,Q1r,Xbx,Q8v,Obs,bO,bO2];by_cases a: ((((((((!cfB c.2.1|| !cfB c.2.2.1)|| !Qw8 c.2.2.2.1)|| !Qpg c.2.2.2.2.1)|| !Z25 c.2.2.2.2.2.1)|| !Z9l c.2.2.2.2.2.2.1)|| !Z9l c.2.2.2.2.2.2.2.1)|| !Z6q c.2.2.2.2.2.2.2.2.1)|| !Z6q c.2.2.2.2.2.2.2.2.2.1)=true
 ·rw[a,Oct];refine⟨fun h=>Bool.noConfusion h,fun h=> ?_⟩;rw[h.own,h.peer,h.sts,h.tot,h.inf,h.ob,h.ou,h.ab,h.au]at a;simp at a
 ·have a: ((((((((!cfB c.2.1|| !cfB c.2.2.1)|| !Qw8 c.2.2.2.1)|| !Qpg c.2.2.2.2.1)|| !Z25 c.2.2.2.2.2.1)|| !Z9l c.2.2.2.2.2.2.1)|| !Z9l c.2.2.2.2.2.2.2.1)|| !Z6q c.2.2.2.2.2.2.2.2.1)|| !Z6q c.2.2.2.2.2.2.2.2.2.1)=false:=by simpa using a
  rw[a,Ocf];simp only[Bool.or_eq_false_iff,Bool.not_eq_false']at a;obtain⟨⟨⟨⟨⟨⟨⟨⟨e,f⟩,b⟩,g⟩,i⟩,j⟩,k⟩,l⟩,m⟩:=a;have d:=Q17 h hK b (Jn c 0) 0 (by unfold Jn;omega) (by omega);simp only[Int.natCast_zero,List.drop_zero]at d;rw[d];simp only[Oba];exact⟨fun h=>⟨e,f,b,g,i,j,k,l,m,h.1,h.2⟩,fun h=>⟨h.pks,h.tail⟩⟩
structure StF(s:Zd):Prop where
 id:0<=s.1/\s.1<=4611686018427387903
 snd:Q8q s.2.1
 cre:Xbo s.2.2.1
 rcv:Qb4 s.2.2.2.1=true
 win:Q8s s.2.2.2.2.1
 pr:0<=s.2.2.2.2.2.1.1/\s.2.2.2.2.2.1.1<=7
 code:0<=s.2.2.2.2.2.2.2.2.2.2.2.2.1/\s.2.2.2.2.2.2.2.2.2.2.2.2.1<=4611686018427387903
 can:s.2.2.2.2.2.2.1=true\/s.2.2.2.2.2.2.2.1=true
 su:s.2.1.2.2.2.2.2.2.2.1<=s.2.2.1.2.1
 hs:s.2.2.2.1.2.2.2.1<=s.2.2.2.2.1.2.2.2.1
 tr:s.2.2.2.2.2.2.2.2.1=true->s.2.1.1=4
 ts:s.2.2.2.2.2.2.2.2.2.1=true->s.2.2.2.2.2.2.2.2.2.2.2.1=true
 sc:s.2.2.2.2.2.2.2.2.2.2.2.2.1≠0->s.2.2.2.2.2.2.2.2.2.2.2.1=true
 cs:s.2.2.2.2.2.2.1=true\/(s.2.1.1=0/\s.2.1.2.1.2.2.1=0/\s.2.1.2.2.2.2.2.1= -1)
 cr:s.2.2.2.2.2.2.2.1=true\/(s.2.2.2.1.1=0/\s.2.2.2.1.2.2.2.1=0/\s.2.2.2.2.2.2.2.2.2.2.2.1=false)
theorem Xe7{K:Nat}{s:Zd}(h:Xq K s)(hK:K<=1000000):stB s=true↔StF s:=by
 unfold stB prB;simp only[Oba,Bool.or_eq_true,Bool.not_eq_true',Bool.or_eq_false_iff,Bool.and_eq_false_iff,decide_eq_false_iff_not,bne_eq_false_iff_eq,beq_iff_eq,Zlu,Kx,Xe3 h.snd (show(K:Int)<=1000000 by omega),Q31,Qcz,Bool.not_eq_false'];constructor
 ·rintro⟨⟨⟨⟨⟨⟨⟨⟨⟨k,l⟩,m⟩,n⟩,o⟩,p⟩,q⟩,r⟩,⟨⟨⟨u,t⟩,d⟩,f⟩,g⟩,i,j⟩;exact⟨k,l,m,n,o,p,q,r,by omega,by omega,fun h=>by rcases d with h'|h';rw[h]at h';cases h';exact h',fun h=>by rcases f with h'|h';rw[h]at h';cases h';exact h',
   fun h=>by rcases g with h'|h';exact absurd h' h;exact h',by rcases i with h| ⟨⟨a,b⟩,c⟩;exact .inl h;exact .inr ⟨a,b,c⟩,by rcases j with h| ⟨⟨a,b⟩,c⟩;exact .inl h;exact .inr ⟨a,b,c⟩⟩
 ·rintro⟨k,l,m,n,o,p,q,r,u,t,d,f,g,i,j⟩;refine⟨⟨⟨⟨⟨⟨⟨⟨⟨k,l⟩,m⟩,n⟩,o⟩,p⟩,q⟩,r⟩,⟨⟨⟨by omega,by omega⟩,?_⟩,?_⟩,?_⟩,?_,?_⟩
  ·cases e:s.2.2.2.2.2.2.2.2.1
   ·exact .inl rfl
   ·exact .inr (d e)
  ·cases e:s.2.2.2.2.2.2.2.2.2.1
   ·exact .inl rfl
   ·exact .inr (f e)
  ·by_cases e:s.2.2.2.2.2.2.2.2.2.2.2.2.1=0
   ·exact .inl e
   ·exact .inr (g e)
  ·rcases i with h| ⟨a,b,c⟩
   ·exact .inl h
   ·exact .inr ⟨⟨a,b⟩,c⟩
  ·rcases j with h| ⟨a,b,c⟩
   ·exact .inl h
   ·exact .inr ⟨⟨a,b⟩,c⟩
theorem Qvh.st{K:Nat}{c:Zf}(hc:Qvh c)(h:Qd K c)(hK:K<=1000000){s:Zd}(hs:s∈c.2.2.2.1):StF s:=(Xe7 (h.str.all s hs) hK).1 ((Q46.1 hc.sts).all s hs)
theorem Qk7{K:Int}{s:Zp}(h:Zb4 K s)(hK:K<=1000000):Zku s=some (s,()):=by
 have a:=Q5 h.pend h.e0 h.eK hK;have b:=Q5 h.flight h.e0 h.eK hK;have c:=Q5 h.acked h.e0 h.eK hK;have d:=h.cells;unfold Zku Zxp;rw[Zb (by unfold Qo;simp only[List.length_nil];omega),Zpy _ (by omega),Zpy _ (by omega),Zpy _ (by omega)];rfl
theorem Z3g{K:Nat}{s:Zd}(h:Xq K s)(hK:K<=1000000):Zgc s=some (s,()):=by
 have a:=h.rcv.len;unfold Zgc Zap Zgb;rw[Qk7 h.snd (by omega),Zb (by unfold Qo;simp only[List.length_nil];omega)];rfl
theorem Zsd{K:Nat}{l:List Zd}(h:Zhh K l)(hK:K<=1000000): ∀(N i:Nat),l.length-i<N->i<=l.length->Zd1 N (l.take i) l (l.length:Int) (i:Int)=some (l,())
 |0,_,h,_=>by omega
 |N+1,i,b,c=>by
  have f:=h.len;unfold Zd1;by_cases a:i<l.length
  ·rw[Zn (Zk (by omega)),Zb (by omega),show(i:Int).toNat=i from rfl,Z3g (h.all _ (Qh (d:=Zj) a)) hK,Obs,Zb (by unfold Qo;simp only[List.length_take,List.length_singleton];omega),Zt a (by omega)];have e:l.take i++ [l.getD i Zj]=l.take (i+1):=by
    rw[List.take_succ_eq_append_getElem a,List.getD_eq_getElem?_getD,List.getElem?_eq_getElem a];rfl
   rw[e];exact Zsd h hK N (i+1) (by omega) (by omega)
  ·rw[Zm (Zl (by omega)),List.take_of_length_le (by omega)]
theorem Z8w{K:Nat}{l:List Z9}(h:Qso K l)(hK:K<=1000000): ∀(N i:Nat),l.length-i<N->i<=l.length->Zd0 N (l.take i) l (l.length:Int) (i:Int)=some (l,())
 |0,_,h,_=>by omega
 |N+1,i,b,c=>by
  have f:=h.1;unfold Zd0;by_cases a:i<l.length
  ·have g:=(h.2 _ (Qh (d:=Qk) a)).1;rw[Zn (Zk (by omega)),Zb (by omega),show(i:Int).toNat=i from rfl,Zb (by unfold Qo;simp only[List.length_nil];omega)];simp only[List.nil_append];rw[Zb (by unfold Qo;simp only[List.length_take,List.length_singleton];omega),Zt a (by omega)];have e:l.take i++ [((l.getD i Qk).1,((l.getD i Qk).2.1,()))]=l.take (i+1):=by
    rw[List.take_succ_eq_append_getElem a,List.getD_eq_getElem?_getD,List.getElem?_eq_getElem a];rfl
   rw[e];exact Z8w h hK N (i+1) (by omega) (by omega)
  ·rw[Zm (Zl (by omega)),List.take_of_length_le (by omega)]
theorem Zux{K:Nat}{c:Zf}(h:Qd K c)(hK:K<=1000000):Qi c=some (c,()):=by
 have a:=Zsd h.str hK (Jf ([]:List Zd) c.2.2.2.1 (c.2.2.2.1.length:Int) (0:Int)) 0 (by unfold Jf;omega) (by omega);have b:=Z8w h.pk hK (Zcl ([]:List Z9) c.2.2.2.2.2.2.2.2.2.2.2.2.2.2.2.1 (c.2.2.2.2.2.2.2.2.2.2.2.2.2.2.2.1.length:Int) (0:Int)) 0 (by unfold Zcl;omega) (by omega);simp only[List.take_zero,Int.natCast_zero]at a b;unfold Qi W3 Zr0;rw[a,b];rfl
def Pc{α:Type}(m:Option α)(Q:α->Prop):Prop:= ∀y,m=some y->Q y
section
variable {α β:Type} {m n:Option α} {f:α->Option β} {Q:α->Prop} {R:β->Prop}
theorem Pc.bind(h:Pc m Q)(k: ∀y,Q y->Pc (f y) R):Pc (Option.bind m f) R:=fun y e=>by
 cases hm:m with
 |none=>rw[hm]at e;cases e
 |some x=>rw[hm]at e;exact k x (h x hm) y e
theorem Pc.any:Pc m fun _=>True:=fun _ _=>trivial
theorem Pc.skip(k: ∀y,Pc (f y) R):Pc (Option.bind m f) R:=Pc.any.bind fun y _=>k y
theorem Pc.pure{y:α}(h:Q y):Pc (some y) Q:=fun z e=>by cases e;exact h
theorem Pc.ite{c:Bool}(h1:c=true->Pc m Q)(h2:c=false->Pc n Q):Pc (bif c then m else n) Q:=by
 cases c
 ·exact h2 rfl
 ·exact h1 rfl
theorem Pc.guard{p:Prop}(h:Pc m Q):Pc (Ze p m) Q:=fun y e=>by
 by_cases a:p
 ·rw[Zb a]at e;exact h y e
 ·unfold Ze at e;rw[if_neg a]at e;cases e
end
theorem T.pc{α:Type}{m:Option α}{Q R:α->Prop}(h:T m Q)(k:Pc m R):T m fun y=>Q y/\R y:=by
 obtain⟨y,e,a⟩:=h;exact⟨y,e,a,k y e⟩
theorem Pc.if{α:Type}{m n:Option α}{Q:α->Prop}{c:Bool}(h1:Pc m Q)(h2:Pc n Q):Pc (bif c then m else n) Q:=Pc.ite (fun _=>h1) fun _=>h2
theorem Pc.none{α:Type}{Q:α->Prop}:Pc (none:Option α) Q:=fun _ e=>by cases e
def Zjz(v:Bool)(s:Zd):Prop:=(s.2.2.2.2.2.2.1=false/\s.2.2.2.2.2.2.2.1=false)\/(Yx v s.1=some (s.2.2.2.2.2.2.1,())/\Q4 v s.1=some (s.2.2.2.2.2.2.2.1,()))
structure KC(v:Bool)(c:Zf):Prop where
 sv:c.1=v
 str: ∀s∈c.2.2.2.1,Zjz v s
section
variable {v:Bool}
theorem Xdu:Zjz v Zj:= .inl ⟨rfl,rfl⟩
theorem Xcg{l:List Zd}(h: ∀s∈l,Zjz v s)(i:Nat):Zjz v (l.getD i Zj):=by
 by_cases a:i<l.length
 ·exact h _ (Qh (d:=Zj) a)
 ·rw[List.getD_eq_getElem?_getD,List.getElem?_eq_none (Nat.le_of_not_lt a)];exact Xdu
theorem Qt6{s:Zd}(h:Zjz v s):Pc (Zaw s) fun r=>Zjz v r.1:=by
 unfold Zaw;exact Pc.skip fun t=>Pc.skip fun a=>Pc.pure h
theorem Q8w{l:List Zd}{s:Zd}(h: ∀x∈l,Zjz v x)(hs:Zjz v s): ∀x∈l++ [s],Zjz v x:=fun x hx=>by
 rcases List.mem_append.1 hx with hx|hx
 ·exact h x hx
 ·rw[List.mem_singleton.1 hx];exact hs
theorem Q7t{l:List Zd}{s:Zd}(h: ∀x∈l,Zjz v x)(hs:Zjz v s)(a:Int): ∀(N:Nat) (out:List Zd) (p:Bool) (i:Int),(∀x∈out,Zjz v x)->Pc (Q0 N l s out a p i) fun r=> ∀x∈r.1,Zjz v x
 |0,_,_,_,_=>Pc.none
 |N+1,out,p,i,c=>by
  unfold Q0;have j: ∀o q x,(∀x∈o,Zjz v x)->Zjz v x->Pc (Xs (fun v=>Q0 N v.1 v.2.1 v.2.2.1 v.2.2.2.1 v.2.2.2.2.1 v.2.2.2.2.2.1) l s o a q i x) fun r=> ∀x∈r.1,Zjz v x:=fun o q x f b=>by
   unfold Xs;exact Pc.guard (Q7t h hs a N _ _ _ (Q8w f b))
  exact Pc.if (Pc.guard ((Qt6 (Xcg h _)).bind fun t d=>Pc.if ((Qt6 hs).bind fun e b=>j _ _ _ c b) (Pc.guard (Pc.if ((Qt6 hs).bind fun e b=>Pc.guard (j _ _ _ (Q8w c b) d)) (j _ _ _ c d))))) (Pc.if ((Qt6 hs).bind fun e b=>Pc.guard (Pc.pure (Q8w c b))) (Pc.pure c))
theorem Q96{l:List Zd}{s:Zd}(h: ∀x∈l,Zjz v x)(hs:Zjz v s):Pc (Ql l s) fun r=> ∀x∈r.1,Zjz v x:=by
 unfold Ql;exact Pc.skip fun t=>Q7t h hs _ _ _ _ _ (by simp)
theorem KC.put{c:Zf}(h:KC v c){s:Zd}(hs:Zjz v s):Pc (Ql c.2.2.2.1 s) fun r=> ∀x∈r.1,Zjz v x:=Q96 h.str hs
theorem Zl2{c:Zf}(h:KC v c)(i:Int):Pc (Qy c i) fun r=>Zjz v r.1:=by
 unfold Qy;exact Pc.skip fun t=>Pc.if (Pc.pure Xdu) (Pc.guard ((Qt6 (Xcg h.str _)).bind fun b a=>Pc.pure a))
theorem Xa3{c:Zf}(h:KC v c)(t:Zf): ∀(N:Nat) (x:Zf) (i:Int),KC v x->Pc (Zdn N c t x i) fun r=>KC v r.1
 |0,_,_,_=>Pc.none
 |N+1,x,i,hx=>by
  unfold Zdn;exact Pc.if (Pc.guard ((Qt6 (Xcg h.str _)).bind fun b a=>Pc.guard (Xa3 h t N _ _ ⟨hx.sv,Q8w hx.str a⟩))) (Pc.skip fun d=>Pc.pure ⟨hx.sv,hx.str⟩)
theorem cpK{c:Zf}(h:KC v c):Pc (Z4 c) fun r=>KC v r.1:=by
 unfold Z4;exact Xa3 h _ _ _ _ ⟨h.sv,by simp⟩
theorem Qrc(id:Int)(o p:Zgp):Pc (Je v id o p) fun r=>Zjz v r.1:=by
 unfold Je;exact Pc.skip fun d=>Pc.skip fun f=>Pc.skip fun g=>Pc.if (Pc.pure Xdu) (Pc.skip fun h=>Pc.skip fun i=>Pc.bind (Q:=fun y=>Yx v id=some y) (fun y e=>e) fun j a=>Pc.bind (Q:=fun y=>Q4 v id=some y) (fun y e=>e) fun k b=>Pc.skip fun l=>Pc.skip fun m=>Pc.skip fun c=>Pc.pure (.inr ⟨a,b⟩))
theorem Xei{c:Zf}(h:KC v c)(u:Bool):Pc (Zgk c u) fun r=>KC v r.2.1:=by
 have d: ∀u t x i b,KC v x->Pc (Wv u c t x i b) fun r=>KC v r.2.1:=fun u t x i b hx=>by
  unfold Wv;rw[h.sv];exact Pc.if (Pc.pure hx) (Pc.skip fun e=>(Qrc _ _ _).bind fun g j=>(hx.put j).bind fun l k=>Pc.pure ⟨hx.sv,k⟩)
 have f: ∀u t x n,KC v x->Pc (Wu u c t x n) fun r=>KC v r.2.1:=fun u t x n hx=>by
  unfold Wu;exact Pc.skip fun e=>Pc.if (d _ _ _ _ _ ⟨hx.sv,hx.str⟩) (d _ _ _ _ _ ⟨hx.sv,hx.str⟩)
 unfold Zgk;exact(cpK h).bind fun e a=>Pc.skip fun g=>Pc.if (Pc.pure a) (Pc.if (f _ _ _ _ a) (f _ _ _ _ a))
theorem Xdt{c:Zf}(h:KC v c)(i:Int)(d:List UInt8):Pc (Zey c i d) fun r=>KC v r.2.1:=by
 unfold Zey;exact(cpK h).bind fun f a=>(Zl2 h i).bind fun s b=>Pc.skip fun g=>Pc.if (Pc.pure a) (Pc.skip fun j=>(a.put (by exact b)).bind fun k e=>Pc.pure ⟨a.sv,e⟩)
theorem Q9b{c:Zf}(h:KC v c)(i:Int):Pc (Zdf c i) fun r=>KC v r.1:=by
 unfold Zdf;exact(cpK h).bind fun e a=>(Zl2 h i).bind fun s b=>Pc.skip fun f=>Pc.if (Pc.pure a) (Pc.skip fun g=>Pc.if (Pc.pure a) ((a.put (by exact b)).bind fun j d=>Pc.pure ⟨a.sv,d⟩))
theorem Q7x{x:Zf}{s:Zd}(h:KC v x)(hs:Zjz v s)(n:Int):Pc (Zhb x s n) fun r=>KC v r.2.1/\Zjz v r.2.2.1:=by
 unfold Zhb;exact Pc.skip fun a=>Pc.skip fun b=>Pc.pure ⟨⟨h.sv,h.str⟩,hs⟩
theorem Xek{x:Zf}{s:Zd}(h:KC v x)(hs:Zjz v s):Pc (Zkk x s) fun r=>KC v r.2.1/\Zjz v r.2.2.1:=by
 unfold Zkk;exact Pc.skip fun b=>Pc.skip fun c=>Pc.if (Pc.pure ⟨h,hs⟩) (Pc.skip fun d=>Pc.if (Pc.skip fun a=>Pc.pure ⟨⟨h.sv,h.str⟩,hs⟩) (Pc.skip fun a=>Pc.pure ⟨⟨h.sv,h.str⟩,hs⟩))
theorem Qu2{x:Zf}{s:Zd}(h:KC v x)(hs:Zjz v s):Pc (Jw x s) fun r=>KC v r.2.1:=by
 unfold Jw;exact(Xek h hs).bind fun c a=>(a.1.put a.2).bind fun d b=>Pc.pure ⟨a.1.sv,b⟩
theorem Xer{c:Zf}(h:KC v c)(i m:Int):Pc (Zgl c i m) fun r=>KC v r.1.2.2.1:=by
 have j: ∀t x s d r,KC v x->Zjz v s->Pc (Ww t x s d r) fun r=>KC v r.1.2.2.1:=fun t x s d r hx a=>by
  unfold Ww;exact(Qu2 hx a).bind fun f g=>Pc.pure g
 unfold Zgl;exact(cpK h).bind fun k b=>(Zl2 h i).bind fun s a=>Pc.skip fun l=>Pc.if (Pc.pure b) (Pc.skip fun f=>Pc.if ((Q7x b (by exact a) _).bind fun n e=>j _ _ _ _ _ e.1 e.2) (j _ _ _ _ _ b (by exact a)))
theorem Xc2{c:Zf}(h:KC v c)(i k:Int):Pc (Zew c i k) fun r=>KC v r.1.1:=by
 unfold Zew;exact(cpK h).bind fun e a=>(Zl2 h i).bind fun s b=>Pc.skip fun f=>Pc.if (Pc.pure a) (Pc.skip fun g=>Pc.if (Pc.pure a) ((Qu2 a (by exact b)).bind fun j d=>Pc.pure d))
theorem Xf0{c:Zf}(h:KC v c)(i:Int)(d:List UInt8):Pc (Zex c i d) fun r=>KC v r.1:=by
 unfold Zex;exact(cpK h).bind fun f a=>(Zl2 h i).bind fun s b=>Pc.skip fun g=>Pc.if (Pc.pure a) (Pc.skip fun j=>(a.put (by exact b)).bind fun k e=>Pc.pure ⟨a.sv,e⟩)
end
section
variable {v:Bool}
theorem Xd5{s:Zd}(hs:Zjz v s)(c:Zf)(k:Int):Pc (Znp c s k) fun r=>Zjz v r.1.1:=by
 unfold Znp;exact Pc.if (Pc.pure hs) (Pc.if (Pc.pure hs) (Pc.if (Pc.skip fun t=>Pc.if (Pc.pure hs) (Pc.pure hs)) (Pc.if (Pc.skip fun t=>Pc.pure hs) (Pc.pure hs))))
theorem Qwq{c:Zf}(h:KC v c)(f:Zi):Pc (Zeu c f) fun r=>KC v r.1:=by
 unfold Zeu;exact(cpK h).bind fun g a=>Pc.skip fun i=>Pc.if (Pc.pure a) (Pc.if (Pc.skip fun t=>Pc.pure ⟨a.sv,a.str⟩) (Pc.if (Pc.if (Pc.skip fun t=>Pc.pure ⟨a.sv,a.str⟩) (Pc.skip fun t=>Pc.pure ⟨a.sv,a.str⟩)) (Pc.if (Pc.skip fun t=>Pc.pure ⟨a.sv,a.str⟩) (Pc.if (Pc.if (Pc.pure ⟨a.sv,a.str⟩) (Pc.pure ⟨a.sv,a.str⟩)) ((Zl2 h _).bind fun s b=>Pc.if ((Xd5 b _ _).bind fun j d=>(a.put d).bind fun k e=>Pc.pure ⟨a.sv,e⟩) (Pc.pure a))))))
theorem Q0p{c:Zf}(h:KC v c)(i:Int)(p:Ja):Pc (Zje c i p) fun r=>KC v r.1:=by
 unfold Zje;exact(cpK h).bind fun e a=>(Zl2 h i).bind fun s b=>Pc.skip fun f=>Pc.if (Pc.pure a) (Pc.skip fun g=>Pc.skip fun j=>Pc.skip fun k=>Pc.if (Pc.pure a) ((a.put (by exact b)).bind fun l d=>Pc.pure ⟨a.sv,d⟩))
theorem Z29{c:Zf}(h:KC v c)(i:Int):Pc (Zlc c i) fun r=>KC v r.2.1:=by
 unfold Zlc;exact(Zl2 h i).bind fun s a=>Pc.skip fun d=>Pc.skip fun e=>(h.put (by exact a)).bind fun f b=>Pc.pure ⟨h.sv,b⟩
theorem Q6i(K1: (Zf×List Zi×Int×List Int×Int×Unit)->Option ((List Zi×Unit)×(Zf×Unit)))(hk: ∀y,KC v y.1->Pc (K1 y) fun r=>KC v r.2.1){x:Zf}(h:KC v x): ∀(N:Nat) (fr:List Zi) (room:Int) (sk:List Int) (i:Int) (l:List Z0) (k:Int),Pc (Zdq K1 N x fr room sk i l k) fun r=>KC v r.2.1
 |0,_,_,_,_,_,_=>Pc.none
 |N+1,fr,room,sk,i,l,k=>by
  have c: ∀x fr room sk i,KC v x->Pc (Zdp K1 x fr room sk i) fun r=>KC v r.2.1:=fun x fr room sk i hx=>by
   unfold Zdp;exact hk _ hx
  have e: ∀fr room sk i d p y b,KC v y->Pc (Zgn K1 x fr room sk i d p y b) fun r=>KC v r.2.1:=fun fr room sk i d p y b f=>by
   unfold Zgn;exact Pc.if (Pc.pure h) (Pc.skip fun t=>Pc.guard (Pc.skip fun g=>c _ _ _ _ _ f))
  unfold Zdq;simp only[Kj];exact Pc.if (Pc.guard (Pc.skip fun t=>Q6i K1 hk h N _ _ _ _ _ _)) (Pc.skip fun t=>Pc.if (Pc.pure h) (Pc.skip fun g=>Pc.if ((Z29 h _).bind fun j a=>Pc.guard (c _ _ _ _ _ a)) ((Q0p h _ _).bind fun j a=>e _ _ _ _ _ _ _ _ a)))
theorem Q6h: ∀(N:Nat) (x:Zf) (fr:List Zi) (room:Int) (sk:List Int) (i:Int),KC v x->Pc (Vj N x fr room sk i) fun r=>KC v r.2.1
 |0,_,_,_,_,_,_=>Pc.none
 |N+1,x,fr,room,sk,i,h=>by
  unfold Vj;exact Pc.if (Pc.skip fun t=>Q6i _ (fun y a=>Q6h N _ _ _ _ _ a) h _ _ _ _ _ _ _) (Pc.pure h)
theorem Q2d(c t:Zf): ∀(N:Nat) (x:Zf) (fr:List Zi) (room:Int) (l:List Zi) (i:Int),KC v x->Pc (Y4 N c t x fr room l i) fun r=>KC v r.1.2.2.1
 |0,_,_,_,_,_,_=>Pc.none
 |N+1,x,fr,room,l,i,h=>by
  have j: ∀x fr room l i,KC v x->Pc (Wp (fun v=>Y4 N v.1 v.2.1 v.2.2.1 v.2.2.2.1 v.2.2.2.2.1 v.2.2.2.2.2.1 v.2.2.2.2.2.2.1) c t x fr room l i) fun r=>KC v r.1.2.2.1:=fun x fr room l i hx=>by
   unfold Wp;exact Q2d c t N _ _ _ _ _ hx
  unfold Y4 Zrk;exact Pc.if (Pc.guard (Pc.skip fun t=>Pc.if (Pc.guard (Pc.skip fun d=>Pc.guard ((Qwq h _).bind fun b a=>Pc.guard (Pc.guard (j _ _ _ _ _ a))))) (j _ _ _ _ _ h))) ((Q6h _ _ _ _ _ _ h).bind fun b a=>Pc.if (Pc.pure a) (Pc.guard (Pc.skip fun e=>Pc.pure ⟨a.sv,a.str⟩)))
theorem Xd6{c:Zf}(h:KC v c)(b:Int):Pc (Zgh c b) fun r=>KC v r.1.2.2.1:=by
 unfold Zgh;exact(cpK h).bind fun d a=>Pc.skip fun e=>Pc.skip fun f=>Pc.if (Pc.pure a) (Pc.skip fun g=>Q2d _ _ _ _ _ _ _ _ a)
theorem Xbd(id:Int): ∀(N:Nat) (x:Zf) (i:Int),KC v x->Pc (Ki N x id i) fun r=>KC v r.2.1
 |0,_,_,_=>Pc.none
 |N+1,x,i,h=>by
  have j: ∀i s,Zjz v s->Pc (Zgm (fun v=>Ki N v.1 v.2.1 v.2.2.1) x id i s) fun r=>KC v r.2.1:=fun i s b=>by
   unfold Zgm;exact(h.put b).bind fun t a=>Xbd id N _ _ ⟨h.sv,a⟩
  unfold Ki;simp only[Kj,h.sv];exact Pc.if ((Qrc _ _ _).bind fun t a=>j _ _ a) (Pc.pure h)
theorem Qoa{c:Zf}(h:KC v c)(id:Int):Pc (Yy c id) fun r=>KC v r.1:=by
 have e: ∀id t x n,KC v x->Pc (Yz id t x n) fun r=>KC v r.1:=fun id t x n hx=>by
  unfold Yz Znn;exact(Xbd _ _ _ _ hx).bind fun t g=>Pc.pure g
 have j: ∀id t x b n i,KC v x->Pc (Kw id c t x b n i) fun r=>KC v r.1:=fun id t x b n i hx=>by
  unfold Kw;exact Pc.if (Pc.pure hx) (Pc.skip fun t=>Pc.if (e _ _ _ _ ⟨hx.sv,hx.str⟩) (e _ _ _ _ ⟨hx.sv,hx.str⟩))
 have f: ∀id t x a,KC v x->Pc (Xg id c t x a) fun r=>KC v r.1:=fun id t x a hx=>by
  unfold Xg;simp only[Kj,Zhj];exact Pc.skip fun t=>Pc.skip fun k=>j _ _ _ _ _ _ hx
 unfold Yy;exact(cpK h).bind fun l d=>Pc.skip fun k=>Pc.skip fun m=>Pc.if (Pc.pure d) (Pc.skip fun o=>Pc.if (Pc.pure d) (Pc.skip fun p=>Pc.if (Pc.pure d) (Pc.skip fun q=>Pc.if (f _ _ _ _ d) (f _ _ _ _ d))))
theorem Xa9{x:Zf}{s:Zd}(h:KC v x)(hs:Zjz v s)(e:Int):Pc (Zef x s e) fun r=>KC v r.2.1/\Zjz v r.2.2.1:=by
 unfold Zef;exact Pc.skip fun a=>Pc.if (Pc.pure ⟨h,hs⟩) (Pc.skip fun b=>Pc.skip fun c=>Pc.if (Pc.pure ⟨h,hs⟩) (Pc.pure ⟨⟨h.sv,h.str⟩,hs⟩))
theorem Qhp{c:Zf}(h:KC v c)(n:Int):Pc (Option.bind (Z4 c) fun t=>some ((t.1,(n,())),())) fun r=>KC v r.1.1:=(cpK h).bind fun t a=>Pc.pure a
theorem Xd3{c:Zf}(h:KC v c)(f:Zi):Pc (Zbc c f) fun r=>KC v r.1.1:=by
 unfold Zbc;exact Pc.skip fun e=>Pc.skip fun g=>Pc.if (Qhp h _) (Pc.skip fun i=>Pc.if (Qhp h _) ((Qoa h _).bind fun x hx=>Pc.if (Qhp h _) ((Zl2 hx _).bind fun s b=>Pc.skip fun r=>(Xa9 hx b _).bind fun y a=>Pc.if (Qhp h _) (Pc.if (Qhp h _) ((Qu2 a.1 (by exact a.2)).bind fun z d=>Pc.pure d)))))
theorem Xf4{c:Zf}(h:KC v c)(f:Zi):Pc (Zab c f) fun r=>KC v r.1.1:=by
 have j: ∀t x s r,KC v x->Zjz v s->Pc (Jm t x s r) fun r=>KC v r.1.1:=fun t x s r hx d=>by
  unfold Jm;exact(Qu2 hx (by exact d)).bind fun z a=>Pc.pure a
 unfold Zab;exact Pc.skip fun e=>Pc.skip fun g=>Pc.if (Qhp h _) (Pc.skip fun i=>Pc.if (Qhp h _) ((Qoa h _).bind fun x hx=>Pc.if (Qhp h _) ((Zl2 hx _).bind fun s d=>Pc.skip fun r=>(Xa9 hx d _).bind fun y b=>Pc.if (Qhp h _) (Pc.if (Qhp h _) (Pc.if ((Q7x b.1 b.2 _).bind fun z a=>j _ _ _ _ a.1 a.2) (j _ _ _ _ b.1 b.2))))))
theorem Xf7{c:Zf}(h:KC v c)(f:Zi):Pc (Zbd c f) fun r=>KC v r.1.1:=by
 have j: ∀t x s,KC v x->Zjz v s->Pc (Vc t x s) fun r=>KC v r.1.1:=fun t x s hx a=>by
  unfold Vc;exact(Qu2 hx a).bind fun z b=>Pc.pure b
 unfold Zbd;exact Pc.skip fun d=>Pc.skip fun e=>Pc.if (Qhp h _) (Pc.skip fun g=>Pc.if (Qhp h _) ((Qoa h _).bind fun x hx=>Pc.if (Qhp h _) ((Zl2 hx _).bind fun s a=>Pc.skip fun r=>Pc.if (j _ _ _ hx (by exact a)) (j _ _ _ hx a))))
theorem Xfy{c:Zf}(h:KC v c)(f:Zi):Pc (Zaa c f) fun r=>KC v r.1:=by
 have e: ∀t,Pc (Zaf c f Vg t) fun r=>KC v r.1:=fun t=>by
  unfold Zaf Zez;exact Pc.if ((cpK h).bind fun t d=>Pc.pure d) ((Qoa h _).bind fun x hx=>Pc.if ((cpK h).bind fun t d=>Pc.pure d) (Pc.if ((Zl2 hx _).bind fun s j=>Pc.skip fun t=>(hx.put (by exact j)).bind fun l m=>Pc.pure ⟨hx.sv,m⟩) (Pc.pure hx)))
 have n:Pc (Zhv c f) fun r=>KC v r.1:=by
  unfold Zhv;exact Pc.skip fun t=>Pc.if (Pc.skip fun o=>e _) (e _)
 have g: ∀t x b,KC v x->Pc (Jl c f t x b) fun r=>KC v r.1:=fun t x b hx=>by
  unfold Jl;exact Pc.if (n.bind fun t d=>Pc.pure d) (Pc.pure hx)
 have i: ∀t x k b,KC v x->Pc (Jk c f t x k b) fun r=>KC v r.1:=fun t x k b hx=>by
  unfold Jk;exact Pc.if (Pc.pure hx) (Pc.if (g _ _ _ hx) (g _ _ _ hx))
 unfold Zaa Za5;exact(cpK h).bind fun p a=>Pc.skip fun o=>Pc.skip fun l=>Pc.if (Pc.pure a) (Pc.if (Pc.skip fun t=>Pc.pure ⟨a.sv,a.str⟩) (Pc.if (Pc.if (Pc.skip fun t=>Pc.pure ⟨a.sv,a.str⟩) (Pc.skip fun t=>Pc.pure ⟨a.sv,a.str⟩)) (Pc.if (i _ _ _ _ a) (i _ _ _ _ a))))
theorem Xcc{c:Zf}(h:KC v c)(f:Zi):Pc (Jg c f) fun r=>KC v r.1.1:=by
 unfold Jg Jj;exact Pc.skip fun t=>Pc.if ((Xd3 h f).bind fun t a=>Pc.pure a) (Pc.if ((Xf4 h f).bind fun t a=>Pc.pure a) (Pc.if ((Xf7 h f).bind fun t a=>Pc.pure a) ((Xfy h f).bind fun t a=>Pc.pure a)))
theorem Q2c: ∀(N:Nat) (x:Zf) (n:Int) (o:List Z9) (i:Int),KC v x->Pc (Vk N x n o i) fun r=>KC v r.2.1
 |0,_,_,_,_,_=>Pc.none
 |N+1,x,n,o,i,h=>by
  have j: ∀x n o i,KC v x->Pc (Zdu (fun v=>Vk N v.1 v.2.1 v.2.2.1 v.2.2.2.1) x n o i) fun r=>KC v r.2.1:=fun x n o i h=>by
   unfold Zdu;exact Q2c N _ _ _ _ h
  unfold Vk;exact Pc.if (Pc.guard (Pc.if (Pc.guard (Pc.guard (j _ _ _ _ h))) (j _ _ _ _ h))) (Pc.pure ⟨h.sv,h.str⟩)
theorem Xa5{x:Zf}(h:KC v x)(n:Int):Pc (Zkl x n) fun r=>KC v r.2.1:=by
 unfold Zkl;exact Q2c _ _ _ _ _ h
theorem Xco{x:Zf}(h:KC v x)(f:Zi):Pc (Znr x f) fun r=>KC v r.2.1:=by
 have c: ∀s,Zjz v s->Pc (Vl x s) fun r=>KC v r.2.1:=fun s a=>by
  unfold Vl;exact(h.put a).bind fun t d=>Pc.pure ⟨h.sv,d⟩
 have e: ∀s b,Zjz v s->Pc (Zgo x f s b) fun r=>KC v r.2.1:=fun s b a=>by
  unfold Zgo;exact Pc.skip fun t=>Pc.if (Pc.pure h) (Pc.if (Pc.skip fun t=>Pc.skip fun g=>c _ (by exact a)) (Pc.if (c _ (by exact a)) (Pc.if (c _ (by exact a)) (Pc.if (c _ (by exact a)) (c _ a)))))
 unfold Znr;simp only[Kj];exact Pc.if (Pc.pure ⟨h.sv,h.str⟩) (Pc.if (Pc.if (Pc.pure ⟨h.sv,h.str⟩) (Pc.pure ⟨h.sv,h.str⟩)) ((Zl2 h _).bind fun s a=>e _ _ a))
theorem Xdy{x:Zf}(h:KC v x)(f:Zi):Pc (Zp7 x f) fun r=>KC v r.2.1:=by
 have c: ∀s,Zjz v s->Pc (Wa x s) fun r=>KC v r.2.1:=fun s a=>by
  unfold Wa;exact(Qu2 h a).bind fun t d=>Pc.pure d
 have e: ∀s b,Zjz v s->Pc (Zjt x f s b) fun r=>KC v r.2.1:=fun s b a=>by
  unfold Zjt;exact Pc.skip fun t=>Pc.if (Pc.pure h) (Pc.if (Pc.skip fun t=>Pc.skip fun g=>c _ (by exact a)) (Pc.if (Pc.skip fun t=>Pc.if (c _ (by exact a)) (c _ (by exact a))) (Pc.if (c _ (by exact a)) (c _ a))))
 unfold Zp7;simp only[Kj];exact(Zl2 h _).bind fun s a=>e _ _ a
theorem Q21: ∀(N:Nat) (t x:Zf) (p:Z9) (i:Int),KC v x->Pc (Ws N t x p i) fun r=>KC v r.1.1
 |0,_,_,_,_,_=>Pc.none
 |N+1,t,x,p,i,h=>by
  unfold Ws;exact Pc.if (Pc.guard ((Xco h _).bind fun y a=>Q21 N _ _ _ _ a)) (Pc.pure h)
theorem Q5i: ∀(N:Nat) (t x:Zf) (p:Z9) (i:Int),KC v x->Pc (Zat N t x p i) fun r=>KC v r.1.1
 |0,_,_,_,_,_=>Pc.none
 |N+1,t,x,p,i,h=>by
  unfold Zat
  exact Pc.if (Pc.guard ((Xdy h _).bind fun y a=>Q5i N _ _ _ _ a)) (Pc.pure h)
theorem Xef{c:Zf}(h:KC v c)(n:Int):Pc (Zgj c n) fun r=>KC v r.1.1:=by
 unfold Zgj;exact(cpK h).bind fun d a=>Pc.skip fun e=>Pc.skip fun f=>Pc.if (Pc.pure a) ((Xa5 a _).bind fun g b=>Q21 _ _ _ _ _ b)
theorem Xfn{c:Zf}(h:KC v c)(n:Int):Pc (Zi1 c n) fun r=>KC v r.1.1:=by
 unfold Zi1;exact(cpK h).bind fun d a=>Pc.skip fun e=>Pc.skip fun f=>Pc.if (Pc.pure a) ((Xa5 a _).bind fun g b=>Q5i _ _ _ _ _ b)
theorem Q7a{x:Zf}(h:KC v x)(c:Qb):Pc (Znq c x) fun r=>KC v r.1.1:=by
 have j: ∀c x t y n b,KC v x->KC v y->Pc (Zdt c x t y n b) fun r=>KC v r.1.1:=fun c x t y n b h f=>by
  unfold Zdt;exact Pc.if (Pc.skip fun t=>(Xd6 h _).bind fun e a=>Pc.pure a) (Pc.if (Pc.skip fun t=>(Xcc h _).bind fun e a=>Pc.if (Pc.pure a) (Pc.pure f)) (Pc.if (Pc.if (Pc.skip fun t=>Pc.guard (Pc.skip fun e=>Pc.if ((Xef h _).bind fun g d=>Pc.pure d) ((Xfn h _).bind fun g d=>Pc.pure d))) (Pc.pure f)) (Pc.pure f)))
 have k: ∀c x t i y n b,KC v x->KC v y->Pc (Zds c x t i y n b) fun r=>KC v r.1.1:=fun c x t i y n b h f=>by
  unfold Zds;exact Pc.if (Pc.skip fun t=>(Xdt h _ _).bind fun e a=>Pc.pure a) (Pc.if (Pc.skip fun t=>Pc.if ((Q9b h _).bind fun e a=>Pc.pure a) (Pc.pure f)) (Pc.if (Pc.skip fun t=>(Xer h _ _).bind fun e a=>Pc.pure a) (Pc.if (Pc.skip fun t=>Pc.if (Pc.skip fun e=>(Xc2 h _ _).bind fun g d=>Pc.pure d) (Pc.skip fun e=>(Xf0 h _ _).bind fun g d=>Pc.pure d)) (Pc.if (j _ _ _ _ _ _ h f) (j _ _ _ _ _ _ h f)))))
 have l: ∀c x t i,KC v x->Pc (Zdr c x t i) fun r=>KC v r.1.1:=fun c x t i h=>by
  unfold Zdr;exact Pc.skip fun t=>Pc.if (Pc.skip fun e=>(Xei h _).bind fun g d=>Pc.pure d) (Pc.if (k _ _ _ _ _ _ _ h h) (k _ _ _ _ _ _ _ h h))
 unfold Znq;exact Pc.if (Pc.skip fun t=>Pc.guard (l _ _ _ _ h)) (l _ _ _ _ h)
theorem Q18: ∀(N:Nat) (c:Qb) (t x:Zf) (n:Int),KC v x->Pc (Zdo N c t x n) fun r=>KC v r.1.1
 |0,_,_,_,_,_=>Pc.none
 |N+1,c,t,x,n,h=>by
  unfold Zdo;exact Pc.if ((Q7a h _).bind fun y a=>Q18 N _ _ _ _ a) (Pc.pure h)
end
theorem Q7m(s:Bool)(o p:Zgp):Pc (Znj s o p) fun r=>KC r.1.1 r.1:=by
 unfold Znj;exact Pc.skip fun a=>Pc.skip fun b=>Pc.if (Pc.pure ⟨rfl,fun _ h=>absurd h List.not_mem_nil⟩) (Pc.skip fun c=>Pc.skip fun d=>Pc.skip fun e=>Pc.skip fun f=>Pc.skip fun g=>Pc.skip fun i=>Pc.pure ⟨rfl,fun _ h=>absurd h List.not_mem_nil⟩)
theorem Xd2(c:Qb):Pc (Zno c) fun r=> ∃v,KC v r.1.1:=by
 unfold Zno;exact Pc.skip fun b=>Pc.skip fun d=>Pc.skip fun f=>(Q7m _ _ _).bind fun g a=>Pc.skip fun h=>fun y e=>⟨_,Q18 _ _ _ _ _ a y e⟩
theorem Xfp(c:Qb):Pc (Zmz c) fun r=> ∃v,KC v r.1.1:=by
 unfold Zmz;exact(Xd2 c).bind fun t b=>Pc.skip fun d=>by
  obtain⟨v,hv⟩:=b;exact Pc.if (Pc.skip fun a=>Pc.pure ⟨v,hv.sv,hv.str⟩) (Pc.if (Pc.skip fun a=>Pc.pure ⟨v,hv.sv,hv.str⟩) (Pc.if (Pc.skip fun a=>Pc.pure ⟨v,hv.sv,hv.str⟩) (Pc.if (Pc.skip fun a=>Pc.pure ⟨v,hv.sv,hv.str⟩) (Pc.pure ⟨v,hv⟩))))
noncomputable def Yq(l:List Zd)(n:Int):Int:=match Xv l n with|some (v,_)=>v|none=> -1
theorem Qex{l:List Zd}(hl:l.length<=1000000)(n:Int):Xv l n=some (Yq l n,()):=by
 obtain⟨v,e,-⟩:=Zu7 l n hl;unfold Yq;rw[e]
theorem Qnf{l:List Zd}(hl:l.length<=1000000)(n:Int): (Yq l n<0\/Yq l n<l.length)/\(Yq l n<0-> ∀s∈l,s.1≠n)/\(0<=Yq l n->(l.getD (Yq l n).toNat Zj).1=n):=by
 obtain⟨v,e,h⟩:=Zu7 l n hl;have:Yq l n=v:=by unfold Yq;rw[e]
 rw[this];exact h
theorem Q2g{l:List Zd}(hl:l.length<=1000000)(n:Int): ∀(N i:Nat),Qa N l (n,()) (l.length:Int) (i:Int)=Xw N l n (i:Int)
 |0,_=>rfl
 |N+1,i=>by
  rw[Qa,Xw];by_cases a:i<l.length
  ·rw[Zn (Zk (by omega)),Zn (Zk (by omega)),Zb (by omega),Zb (by omega),Zt a (by omega),Q2g hl n N (i+1)];rfl
  ·rw[Zm (Zl (by omega)),Zm (Zl (by omega))]
theorem Qes{l:List Zd}(hl:l.length<=1000000)(n:Int):Xt l n=Xv l n:=by
 unfold Xt Xm;have:=Q2g hl n (Ym l n 0) 0;rw[show Q3 l (n,()) (l.length:Int) 0=Ym l n 0 from rfl];rw[Int.natCast_zero]at this;rw[this];change Option.bind (Xv l n) _=_;cases Xv l n<;>rfl
theorem Qwz{K:Nat}{l:List Zd}{s:Zd}(h:Zhh K l)(hs:Xq K s)(hK:K<=1000000)(a:Nat)(ha:a<l.length): ∀(N i:Nat),l.length-i<N->i<=l.length->Q0 N l s ((l.set a s).take i) (a:Int) true (i:Int)=some (l.set a s,())
 |0,_,h,_=>by omega
 |N+1,i,g,j=>by
  have k:=h.len;rw[Q0];by_cases c:i<l.length
  ·have f: ∀x:Zd,((l.set a s).take i).length+ [x].length<=Qo:=fun x=>by unfold Qo;simp only[List.length_take,List.length_singleton];omega
   have e: (l.set a s).take i++ [if i=a then s else l.getD i Zj]=(l.set a s).take (i+1):=by
    rw[List.take_succ_eq_append_getElem (by simp only[List.length_set];exact c),List.getElem_set];congr 2;by_cases b:i=a
    ·rw[if_pos b,if_pos b.symm]
    ·rw[if_neg b,if_neg (fun h=>b h.symm),List.getD_eq_getElem?_getD,List.getElem?_eq_getElem c];rfl
   rw[Zn (Zk (by omega)),Zb (by omega),show(i:Int).toNat=i from rfl,Zow (h.all _ (Qh (d:=Zj) c)) hK,Obs];by_cases b:i=a
   ·have: ((i:Int)==(a:Int))=true:=by simp;omega
    rw[this,Oct,Zow hs hK,Obs];unfold Xs;rw[Zb (f _),Zt c (by omega)];rw[if_pos b]at e;rw[e];exact Qwz h hs hK a ha N (i+1) (by omega) (by omega)
   ·have: ((i:Int)==(a:Int))=false:=by simp;omega
    rw[this,Ocf,Zb (fun h=>by cases h)];simp only[Ont,Bool.false_and,Ocf];unfold Xs;rw[Zb (f _),Zt c (by omega)];rw[if_neg b]at e;rw[e];exact Qwz h hs hK a ha N (i+1) (by omega) (by omega)
  ·rw[Zm (Zl (by omega)),List.take_of_length_le (by simp only[List.length_set];omega)];rfl
theorem Xeo{K:Nat}{l:List Zd}{s:Zd}(h:Zhh K l)(hs:Xq K s)(hK:K<=1000000)(hi:0<=Yq l s.1):Ql l s=some (l.set (Yq l s.1).toNat s,()):=by
 have a:=h.len;obtain⟨b,-,-⟩:=Qnf (l:=l) (by omega) s.1;unfold Ql;rw[Qex (by omega),Obs,Zk (by omega)];have:=Qwz h hs hK (Yq l s.1).toNat (by omega) (Vr l s ([]:List Zd) (Yq l s.1) true 0) 0 (by unfold Vr;omega) (by omega);rw[List.take_zero,Int.toNat_of_nonneg hi]at this;exact this
theorem Zzq{K:Nat}{c:Zf}(h:Qd K c)(hK:K<=1000000)(n:Int):Qy c n=some (if 0<=Yq c.2.2.2.1 n then(c.2.2.2.1.getD (Yq c.2.2.2.1 n).toNat Zj,true,())else(Zj,false,())):=by
 have b:=h.str.len;obtain⟨e,-,-⟩:=Qnf (l:=c.2.2.2.1) (by omega) n;unfold Qy;rw[Qex (by omega),Obs];by_cases a:0<=Yq c.2.2.2.1 n
 ·rw[Zm (Zl (by omega)),Zb (by omega),if_pos a,Zow (h.str.all _ (Qh (d:=Zj) (by omega))) hK];rfl
 ·rw[Zn (Zk (by omega)),if_neg a]
theorem Q74(l:List Zd)(i:Nat):l.set i (l.getD i Zj)=l:=by
 by_cases h:i<l.length
 ·rw[List.getD_eq_getElem?_getD,List.getElem?_eq_getElem h,Option.getD_some,List.set_getElem_self]
 ·exact List.set_eq_of_length_le (by omega)
def Yi(c:Z1):Int:=c.1+ (c.2.1.length:Int)
def Qhk:Int->List Z1->Prop|_,[]=>True|e,c::l=>e<c.1/\c.2.1≠[]/\Qhk (Yi c) l
def atC:List Z1->Int->Option UInt8| [],_=>none|c::l,n=>if c.1<=n/\n<Yi c then c.2.1[(n-c.1).toNat]? else atC l n
theorem Zqe{c:Z1}(h:c.2.1≠[]):c.1<Yi c:=by
 unfold Yi;have:=List.length_pos_iff.2 h;omega
theorem Z52: ∀{l:List Z1} {e n:Int},Qhk e l->n<=e->atC l n=none
 | [],_,_,_,_=>rfl
 |c::l,e,n,⟨d,a,b⟩,f=>by
  unfold atC;rw[if_neg (by omega)];exact Z52 b (by have:=Zqe a;omega)
theorem Qc5{c:Z1}{l:List Z1}{e:Int}(h:Qhk e (c::l)):atC (c::l) c.1≠none:=by
 have:=Zqe h.2.1;unfold atC;rw[if_pos ⟨Int.le_refl _,this⟩,Int.sub_self];have a:=List.length_pos_iff.2 h.2.1;rw[List.getElem?_eq_getElem (by simpa using a)];simp
theorem Q1x{c:Z1}{l:List Z1}{e:Int}(h:Qhk e (c::l)):atC (c::l) (Yi c)=none:=by
 unfold atC;rw[if_neg (by omega)];exact Z52 h.2.2 (Int.le_refl _)
theorem Qo1{c:Z1}{l:List Z1}{n:Int}(h1:c.1<=n)(h2:n<Yi c):atC (c::l) n=c.2.1[(n-c.1).toNat]? :=by
 unfold atC;rw[if_pos ⟨h1,h2⟩]
theorem Qo2{c:Z1}{l:List Z1}{n:Int}(h1:c.1<=n)(h2:n<Yi c):atC (c::l) n≠none:=by
 rw[Qo1 h1 h2,List.getElem?_eq_getElem (by unfold Yi at h2;omega)];simp
theorem Qxk: ∀{l m:List Z1} {e e':Int},Qhk e l->Qhk e' m->(∀n,atC l n=atC m n)->l=m
 | [],[],_,_,_,_,_=>rfl
 | [],d::m,_,_,_,h,b=>absurd (b d.1).symm (Qc5 h)
 |c::l,[],_,_,h,_,b=>absurd (b c.1) (Qc5 h)
 |c::l,d::m,e,e',h,f,b=>by
  have g:c.1=d.1:=by
   rcases Int.lt_trichotomy c.1 d.1 with a|a|a
   ·have:=Qc5 h;rw[b,Z52 (e:=c.1) (l:=d::m) ⟨a,f.2⟩ (Int.le_refl _)]at this;exact absurd rfl this
   ·exact a
   ·have:=Qc5 f;rw[<-b,Z52 (e:=d.1) (l:=c::l) ⟨a,h.2⟩ (Int.le_refl _)]at this;exact absurd rfl this
  have k:Yi c=Yi d:=by
   have p:=Zqe h.2.1;have q:=Zqe f.2.1;rcases Int.lt_trichotomy (Yi c) (Yi d)with a|a|a
   ·exact absurd ((b _).symm.trans (Q1x h)) (Qo2 (by omega) a)
   ·exact a
   ·exact absurd ((b _).trans (Q1x f)) (Qo2 (by omega) a)
  have i:c.2.1=d.2.1:=by
   have r:c.2.1.length=d.2.1.length:=by unfold Yi at k;omega
   refine List.ext_getElem? fun j=> ?_;by_cases s:j<c.2.1.length
   ·have:=b (c.1+ (j:Int));rw[Qo1 (by omega) (by unfold Yi;omega),Qo1 (by omega) (by unfold Yi;omega),g]at this
    rwa [show d.1+ (j:Int)-d.1=(j:Int) by omega,Int.toNat_natCast]at this
   ·rw[List.getElem?_eq_none (by omega),List.getElem?_eq_none (by omega)]
  have o:c=d:=by
   obtain⟨t,u,_⟩:=c;obtain⟨v,w,_⟩:=d;simp only at g i;rw[g,i]
  subst o;refine congrArg (c:: ·) (Qxk h.2.2 f.2.2 fun n=> ?_);by_cases x:n<Yi c
  ·rw[Z52 h.2.2 (by omega),Z52 f.2.2 (by omega)]
  ·have:=b n;unfold atC at this
   rwa [if_neg (by omega),if_neg (by omega)]at this
theorem Qdb: ∀{l:List Z1} {e:Int},ckB e l=true-> -1<=e->(∀c∈l,c.2.1.length<=1000000)->Qhk e l/\ ∀c∈l,0<=c.1/\Yi c<=4611686018427387903
 | [],_,_,_,_=>⟨trivial,fun _ h=>by cases h⟩
 |c::l,e,h,m,a=>by
  simp only[ckB,Oba,Bool.not_eq_true',Bool.or_eq_false_iff,decide_eq_false_iff_not,beq_eq_false_iff_ne]at h;have d:=a c List.mem_cons_self;obtain⟨⟨⟨n,f⟩,g⟩,b⟩:=h;rw[Zr (by omega) (by omega)]at g;have i:Yi c<=4611686018427387903:=by unfold Yi;omega
  rw[Zr (by omega) (by omega)]at b;obtain⟨j,k⟩:=Qdb b (by omega) fun x hx=>a x (List.mem_cons_of_mem _ hx);refine⟨⟨by omega,f,j⟩,fun x hx=> ?_⟩;rcases List.mem_cons.1 hx with rfl|hx
  ·exact⟨by omega,i⟩
  ·exact k x hx
def Z79:Int->List Z1->Prop|_,[]=>True|e,c::l=>e<=c.1/\c.2.1≠[]/\Z79 (Yi c) l
theorem Q4o{e e':Int}(h:e'<=e): ∀{l:List Z1},Z79 e l->Z79 e' l
 | [],_=>trivial
 |c::l,⟨d,a,b⟩=>⟨by omega,a,b⟩
def Qe7(c:Z1):List Z1->List Z1| []=>[c]|d::l=>if Yi c=d.1 then Qe7 (c.1,(c.2.1++d.2.1,())) l else c::Qe7 d l
theorem Qix: ∀{l:List Z1} {c:Z1} {e:Int},e<c.1->c.2.1≠[]->Z79 (Yi c) l->Qhk e (Qe7 c l)
 | [],c,e,a,b,_=>⟨a,b,trivial⟩
 |d::l,c,e,a,b,⟨i,h,f⟩=>by
  unfold Qe7;split
  ·rename_i g;refine Qix (l:=l) (c:=(c.1,(c.2.1++d.2.1,()))) a (by simp[b]) ?_;have:Yi (c.1,(c.2.1++d.2.1,()))=Yi d:=by
    unfold Yi at g⊢;simp only[List.length_append];omega
   rw[this];exact f
  ·rename_i g;exact⟨a,b,Qix (by omega) h f⟩
theorem Q1z: ∀{l:List Z1} {e n:Int},Z79 e l->n<e->atC l n=none
 | [],_,_,_,_=>rfl
 |c::l,e,n,⟨d,a,b⟩,f=>by
  unfold atC;rw[if_neg (by omega)];exact Q1z b (by have:=Zqe a;omega)
theorem Qq5: ∀{l:List Z1} {c:Z1},c.2.1≠[]->Z79 (Yi c) l-> ∀n,atC (Qe7 c l) n=atC (c::l) n
 | [],c,_,_,n=>rfl
 |d::l,c,f,⟨j,g,h⟩,n=>by
  unfold Qe7;split
  ·rename_i e;have i:Yi (c.1,(c.2.1++d.2.1,()))=Yi d:=by
    unfold Yi at e⊢;simp only[List.length_append];omega
   rw[Qq5 (l:=l) (c:=(c.1,(c.2.1++d.2.1,()))) (by simp[f]) (by rw[i];exact h) n];have k:=Zqe f;have m:=Zqe g;unfold atC;rw[i];by_cases a:c.1<=n/\n<Yi c
   ·rw[if_pos (by simp only;omega),if_pos a];simp only;rw[List.getElem?_append_left (by unfold Yi at a;omega)]
   ·rw[if_neg a];by_cases b:d.1<=n/\n<Yi d
    ·rw[if_pos (by simp only;omega)];unfold atC;rw[if_pos b];simp only;rw[List.getElem?_append_right (by unfold Yi at e;omega)];congr 1;unfold Yi at e;omega
    ·rw[if_neg (by simp only;omega)];show atC l n=atC (d::l) n;unfold atC;rw[if_neg b];cases l<;>rfl
  ·unfold atC;rw[Qq5 g h n]
theorem Qxl{c:Z1}(h:0<=c.1)(h2:Yi c<=4611686018427387903):Zct c=some (Yi c,()):=by
 unfold Yi at*
 show some (IntKind.i64.wrap (c.1+ (c.2.1.length:Int)),())=_;rw[Zr (by omega) (by omega)]
theorem Q4h(pre:List Z1)(c:Z1): (pre++ [c]).getD pre.length Qf=c:=by
 simp[List.getD]
theorem Q7c(pre:List Z1)(c d:Z1): (pre++ [c]).set pre.length d=pre++ [d]:=by
 rw[List.set_append_right _ _ (Nat.le_refl _),Nat.sub_self,List.set_cons_zero]
theorem Q49{t:List Z1}{i:Nat}(hi:i<t.length):Zf4 (t.drop i)=(t.getD i Qf).2.1.length+Zf4 (t.drop (i+1)):=by
 rw[Yl (d:=Qf) hi];rfl
theorem Qwe{t:List Z1}(ht:t.length<=4000000)(hb: ∀c∈t,0<=c.1/\Yi c<=4611686018427387903): ∀(N i:Nat) (pre:List Z1) (c:Z1),t.length-i<N->i<=t.length->pre.length+1<=i->0<=c.1->Yi c<=4611686018427387903->c.2.1.length+Zf4 (t.drop i)<=1000000000->
  Ze8 N (pre++ [c]) t (t.length:Int) (i:Int)=some (pre++Qe7 c (t.drop i),())
 |0,_,_,_,h,_,_,_,_,_=>by omega
 |N+1,i,pre,c,n,o,q,j,k,r=>by
  unfold Ze8;by_cases e:i<t.length
  ·have f:=hb _ (Qh (d:=Qf) e);have l:=Q49 e;have a: (pre++ [c]).length=pre.length+1:=by simp
   have g:IntKind.i64.wrap (((pre++ [c]).length:Int)-1)=(pre.length:Int):=by rw[a,Zr (by omega) (by omega)];omega
   rw[Zn (Zk (by omega)),Zb (by omega)];simp only[g];rw[Zb (by intro _;rw[a];omega),Zk (p:=(pre.length:Int)>=0) (by omega),Oct,Int.toNat_natCast,Q4h,Qxl j k,Obs,Ota];rw[show(i:Int).toNat=i from rfl,Zt e (by omega)];rw[Yl (d:=Qf) e];generalize t.getD i Qf=d at*
   unfold Qe7;by_cases b:Yi c=d.1
   ·rw[if_pos b,beq_iff_eq.2 b,Oct,Zb (by rw[a];omega),Zb (by unfold Ka;omega),Zb (by rw[a];omega),Q7c];have m:Yi (c.1,(c.2.1++d.2.1,c.2.2))=Yi d:=by
     unfold Yi at b⊢;simp only[List.length_append];omega
    exact Qwe ht hb N (i+1) pre _ (by omega) (by omega) (by omega) j (by rw[m];exact f.2) (by simp only[List.length_append];omega)
   ·rw[if_neg b,beq_false_of_ne b,Ocf,Zb (by rw[a];simp only[List.length_singleton];unfold Qo;omega)];have:=Qwe ht hb N (i+1) (pre++ [c]) d (by omega) (by omega) (by rw[a];omega) f.1 f.2 (by omega);rw[this,List.append_assoc,List.singleton_append]
  ·rw[Zm (Zl (by omega)),List.drop_of_length_le (by omega)];rfl
def Qq7:List Z1->List Z1| []=>[]|c::l=>Qe7 c l
theorem Xee{t:List Z1}(ht:t.length<=4000000)(hb: ∀c∈t,0<=c.1/\Yi c<=4611686018427387903)(hs:Zf4 t<=1000000000):Zp0 t=some (Qq7 t,()):=by
 unfold Zp0;cases t with
 |nil=>rfl
 |cons c l=>
  have b:Zhz ([]:List Z1) (c::l) ((c::l).length:Int) (0:Int)=l.length+2:=by
   unfold Zhz;simp only[List.length_cons];omega
  rw[b];have h:=hb c List.mem_cons_self;have d:Zf4 (c::l)=c.2.1.length+Zf4 l:=rfl;unfold Ze8;rw[Zn (Zk (by simp only[List.length_cons];omega)),Zb (by simp only[List.length_cons];omega)];have a:IntKind.i64.wrap ((([]:List Z1).length:Int)-1)= -1:=by decide
  simp only[a];rw[Zb (by intro h;simp at h),Zl (p:=(-1:Int)>=0) (by omega),Ocf,Obs,Bool.false_and,Ocf,Zb (by simp[Qo])];have:=Qwe ht hb (l.length+1) 1 [] c (by simp only[List.length_cons];omega) (by simp only[List.length_cons];omega) (Nat.le_refl _) h.1 h.2 (by simp only[List.drop_one,List.tail_cons];omega);exact this
def Zuh(o:Int)(d:List UInt8)(a b:Int):List Z1:=if a<b then[(a,((d.drop (a-o).toNat).take ((b-o).toNat- (a-o).toNat),()))]else[]
def Zca(o:Int)(d:List UInt8)(e:Int):Int->List Z1->List Z1|f,[]=>Zuh o d f e|f,c::l=>Zuh o d f (min c.1 e)++c::Zca o d e (max f (Yi c)) l
theorem Z6j{o:Int}{d:List UInt8}{a b:Int}(h1:o<=a)(h2:a<b)(h3:b<=o+ (d.length:Int)): (((d.drop (a-o).toNat).take ((b-o).toNat- (a-o).toNat)).length:Int)=b-a:=by
 rw[List.length_take,List.length_drop];omega
theorem Z6i{o:Int}{d:List UInt8}{a b:Int}(h1:o<=a)(h2:a<b)(h3:b<=o+ (d.length:Int)):Yi (a,((d.drop (a-o).toNat).take ((b-o).toNat- (a-o).toNat),()))=b:=by
 unfold Yi;simp only;rw[Z6j h1 h2 h3];omega
theorem Qyv{o:Int}{d:List UInt8}{a b:Int}(h1:o<=a)(h2:a<b)(h3:b<=o+ (d.length:Int)): (d.drop (a-o).toNat).take ((b-o).toNat- (a-o).toNat)≠[]:=fun h=>by
 have:=Z6j h1 h2 h3;rw[h]at this;simp at this;omega
theorem Qb0{o:Int}{d:List UInt8}: ∀{l:List Z1} {f L:Int},o<=f->L<=f->Z79 L l->Z79 L (Zca o d (o+ (d.length:Int)) f l)
 | [],f,L,a,b,_=>by
  unfold Zca Zuh;split
  ·rename_i h;exact⟨b,Qyv a h (Int.le_refl _),trivial⟩
  ·trivial
 |c::l,f,L,a,b,⟨i,e,j⟩=>by
  have g:=Qb0 (o:=o) (l:=l) (f:=max f (Yi c)) (L:=Yi c) (d:=d) (by omega) (by omega) j;unfold Zca Zuh;split
  ·rename_i h;have k:=Z6i (d:=d) a h (by omega);exact⟨b,Qyv a h (by omega),by rw[k];omega,e,g⟩
  ·exact⟨i,e,g⟩
theorem Q4r{o:Int}{d:List UInt8}: ∀{l:List Z1} {f L:Int},o<=f->Z79 L l-> ∀n,atC (Zca o d (o+ (d.length:Int)) f l) n=match atC l n with|some v=>some v|none=>if f<=n/\n<o+ (d.length:Int)then d[(n-o).toNat]? else none:=by
 have k: ∀{a b n:Int} {r:List Z1},o<=a->b<=o+ (d.length:Int)->atC (Zuh o d a b++r) n=if a<=n/\n<b then d[(n-o).toNat]? else atC r n:=by
  intro a b n r g m;unfold Zuh;split
  ·rename_i h;rw[List.singleton_append];unfold atC;rw[Z6i g h m];simp only;by_cases i:a<=n/\n<b
   ·rw[if_pos i,if_pos i,List.getElem?_take,if_pos (by omega),List.getElem?_drop];congr 1;omega
   ·rw[if_neg i,if_neg i];cases r<;>rfl
  ·rw[if_neg (by omega)];rfl
 intro l
 induction l with
 |nil=>
  intro f L g _ n;unfold Zca;have:=k (a:=f) (b:=o+ (d.length:Int)) (n:=n) (r:=[]) g (Int.le_refl _);rw[List.append_nil]at this;rw[this];rfl
 |cons c l s=>
  intro f L g h n;obtain⟨m,t,p⟩:=h;have w:=Zqe t;unfold Zca;rw[k g (by omega)];have j:=s (f:=max f (Yi c)) (L:=Yi c) (by omega) p n;by_cases e:c.1<=n/\n<Yi c
  ·rw[if_neg (by omega),Qo1 e.1 e.2,Qo1 e.1 e.2];have: (n-c.1).toNat<c.2.1.length:=by unfold Yi at e;omega
   rw[List.getElem?_eq_getElem this]
  ·have q: ∀r:List Z1,atC (c::r) n=atC r n:=fun r=>by
    rw[atC,if_neg e]
   rw[q,q,j];by_cases i:n<c.1
   ·have u:atC l n=none:=Q1z p (by omega);rw[u];simp only;by_cases a:f<=n/\n<o+ (d.length:Int)
    ·rw[if_pos (by omega),if_pos a]
    ·rw[if_neg (by omega),if_neg (by omega),if_neg a]
   ·rw[if_neg (by omega)];cases atC l n
    ·simp only;by_cases a:f<=n/\n<o+ (d.length:Int)
     ·rw[if_pos (by omega),if_pos a]
     ·rw[if_neg (by omega),if_neg a]
    ·rfl
theorem Qrn: ∀{l:List Z1} {e:Int},Z79 e l->l.Pairwise (fun x y=>x.1<y.1)/\ ∀c∈l,e<=c.1
 | [],_,_=>⟨List.Pairwise.nil,fun _ h=>by cases h⟩
 |c::l,e,⟨b,d,f⟩=>by
  obtain⟨g,a⟩:=Qrn f;have j:=Zqe d;refine⟨List.Pairwise.cons (fun y i=>by have:=a y i;omega) g,fun x hx=> ?_⟩;rcases List.mem_cons.1 hx with rfl|hx
  ·exact b
  ·have:=a x hx;omega
theorem Xe4{l:List Z1}{e:Int}(h:Z79 e l)(h0:0<=e)(hb: ∀c∈l,c.1<=4611686018427387904)(hl:l.length<=4000000):Zk2 l=some ((),l):=by
 obtain⟨d,f⟩:=Qrn h;have a: (l.map fun x=>x.1).Nodup:=by
  rw[List.Nodup,List.pairwise_map];exact d.imp fun h=>Int.ne_of_lt h
 have b:l.mergeSort (fun x y=>decide (x.1<=y.1))=l:=List.mergeSort_of_pairwise (d.imp fun h=>decide_eq_true (Int.le_of_lt h));unfold Zk2 Qvb;rw[Zb ⟨fun x hx=>⟨Int.le_trans h0 (f x hx),hb x hx⟩,a,by omega⟩,b]
theorem Q0g{b:Zs}{o:Int}{d:List UInt8}{t6:Zs}{t X:List Z1}(ht:t.length<=1000000)(hb: ∀c∈t,0<=c.1/\Yi c<=4611686018427387903)(ho:0<=o)(he:o+ (d.length:Int)<=4611686018427387903)
  (hX:Z79 0 X) (hXb: ∀c∈X,0<=c.1/\Yi c<=4611686018427387903) (hXl:X.length<=4000000) (hXs:Zf4 X<=1000000000): ∀(N i:Nat) (f:Int) (l:List Z1),t.length-i<N->i<=t.length->o<=f->f<=4611686018427387903->l++Zca o d (o+ (d.length:Int)) f (t.drop i)=X->
  Zb7 N b o d t6 f (o+ (d.length:Int)) l t (t.length:Int) (i:Int)=some ((b.1,(Qq7 X,())),())
 |0,_,_,_,h,_,_,_,_=>by omega
 |N+1,i,f,l,v,w,x,s,hx=>by
  have a:=congrArg List.length hx;rw[List.length_append]at a;have fin: ∀Y:List Z1,Y=X->Option.bind (Zk2 Y) (fun k=>Option.bind (Zp0 k.2) fun m=>some ((b.1,(m.1,())),()))=some ((b.1,(Qq7 X,())),()):=by
   rintro Y rfl;rw[Xe4 hX (Int.le_refl _) (fun c j=>by
      have y:=hXb c j;have z:c.1<=Yi c:=by unfold Yi;omega
      omega) hXl,Obs,Xee hXl hXb hXs,Obs]
  unfold Zb7;by_cases n:i<t.length
  ·have j:=hb _ (Qh (d:=Qf) n);rw[Yl (d:=Qf) n]at hx a;rw[Zn (Zk (by omega)),Zb (by omega),show(i:Int).toNat=i from rfl,Zt n (by omega)];have r:=Qxl j.1 j.2;generalize t.getD i Qf=c at*
   rw[Zca]at hx a;simp only[List.length_append,List.length_cons]at a;have u:c.1<=Yi c:=by unfold Yi;omega
   by_cases e:f<min c.1 (o+ (d.length:Int))
   ·have p:IntKind.i64.wrap (min c.1 (o+ (d.length:Int))-o)=min c.1 (o+ (d.length:Int))-o:=Zr (by omega) (by omega);have q:IntKind.i64.wrap (f-o)=f-o:=Zr (by omega) (by omega);have g:Zuh o d f (min c.1 (o+ (d.length:Int)))=[(f,((d.drop (f-o).toNat).take ((min c.1 (o+ (d.length:Int))-o).toNat- (f-o).toNat),()))]:=if_pos e;rw[Zn (Zk e)];simp only[p,q];rw[g]at hx a;simp only[List.length_singleton]at a;rw[Zb (by omega),Zb (by simp only[List.length_singleton];unfold Qo;omega),Zb (by simp only[List.length_append,List.length_singleton];unfold Qo;omega),r,Obs];exact Q0g ht hb ho he hX hXb hXl hXs N (i+1) _ _ (by omega) (by omega) (by omega) (by omega) (by rw[<-hx];simp only[List.append_assoc,List.nil_append,List.cons_append])
   ·have g:Zuh o d f (min c.1 (o+ (d.length:Int)))=[]:=if_neg e;rw[Zm (Zl e)];rw[g]at hx a;rw[Zb (by simp only[List.length_singleton];unfold Qo;omega),r,Obs];exact Q0g ht hb ho he hX hXb hXl hXs N (i+1) _ _ (by omega) (by omega) (by omega) (by omega) (by rw[<-hx];simp only[List.append_assoc,List.cons_append,List.nil_append])
  ·rw[Zm (Zl (by omega)),Int.min_self];rw[List.drop_of_length_le (by omega),Zca]at hx a;by_cases e:f<o+ (d.length:Int)
   ·have p:IntKind.i64.wrap (o+ (d.length:Int)-o)=o+ (d.length:Int)-o:=Zr (by omega) (by omega);have q:IntKind.i64.wrap (f-o)=f-o:=Zr (by omega) (by omega);have g:Zuh o d f (o+ (d.length:Int))=[(f,((d.drop (f-o).toNat).take ((o+ (d.length:Int)-o).toNat- (f-o).toNat),()))]:=if_pos e;rw[Zn (Zk e)];simp only[p,q];rw[g]at hx a;simp only[List.length_singleton]at a;rw[Zb (by omega),Zb (by simp only[List.length_singleton];unfold Qo;omega)];exact fin _ hx
   ·have g:Zuh o d f (o+ (d.length:Int))=[]:=if_neg e;rw[Zm (Zl e)];rw[g,List.append_nil]at hx;exact fin _ hx
theorem Qrp(o:Int)(d:List UInt8)(e:Int): ∀(l:List Z1) (f:Int),(Zca o d e f l).length<=2*l.length+1
 | [],f=>by
  unfold Zca Zuh;split<;>simp
 |c::l,f=>by
  have:=Qrp o d e l (max f (Yi c));unfold Zca Zuh;split<;>simp only[List.length_append,List.length_cons,List.length_nil]<;>omega
theorem Qrq{o:Int}{d:List UInt8}: ∀{l:List Z1} {f:Int},o<=f->(∀c∈l,c.1<=Yi c)->(Zf4 (Zca o d (o+ (d.length:Int)) f l):Int)<=Zf4 l+max 0 (o+ (d.length:Int)-f)
 | [],f,h,_=>by
  unfold Zca Zuh;split
  ·rename_i a;have:=Z6j (d:=d) h a (Int.le_refl _);simp only[Zf4];omega
  ·simp only[Zf4];omega
 |c::l,f,h,b=>by
  have e:=Qrq (o:=o) (d:=d) (l:=l) (f:=max f (Yi c)) (by omega) fun x hx=>b x (List.mem_cons_of_mem _ hx);have g:=b c List.mem_cons_self;unfold Zca Zuh;rw[Qsh];split
  ·rename_i a;have:=Z6j (d:=d) h a (by omega);simp only[Zf4]at e⊢;omega
  ·simp only[Zf4]at e⊢;omega
theorem Qyw{o:Int}{d:List UInt8}(h0:0<=o)(he:o+ (d.length:Int)<=4611686018427387903): ∀{l:List Z1} {f:Int},o<=f->(∀c∈l,0<=c.1/\Yi c<=4611686018427387903)-> ∀c∈Zca o d (o+ (d.length:Int)) f l,0<=c.1/\Yi c<=4611686018427387903
 | [],f,h,_,c,hc=>by
  unfold Zca Zuh at hc;split at hc
  ·rename_i a;rw[List.mem_singleton.1 hc,Z6i h a (Int.le_refl _)];exact⟨by simp only;omega,he⟩
  ·cases hc
 |x::l,f,h,b,c,hc=>by
  unfold Zca Zuh at hc;rcases List.mem_append.1 hc with hc|hc
  ·split at hc
   ·rename_i a;rw[List.mem_singleton.1 hc,Z6i h a (by omega)];exact⟨by simp only;omega,by omega⟩
   ·cases hc
  ·rcases List.mem_cons.1 hc with rfl|hc
   ·exact b _ List.mem_cons_self
   ·exact Qyw h0 he (by omega) (fun y e=>b y (List.mem_cons_of_mem _ e)) c hc
theorem Qn6{e:Int}: ∀{l:List Z1} {e:Int},Qhk e l->Z79 e l
 | [],_,_=>trivial
 |_::_,_,⟨c,a,b⟩=>⟨by omega,a,Qn6 (e:=e) b⟩
noncomputable def Q6v(b:Zs)(o:Int)(d:List UInt8):Zs:=bif(((!Znw b|| (d==([]:List UInt8)))||decide (o<0))||decide (o>4611686018427387903- (d.length:Int)))||decide (o+ (d.length:Int)<=b.1)then b else(b.1,(Qq7 (Zca o d (o+ (d.length:Int)) (max o b.1) b.2.1),()))
theorem Zpx{K:Nat}{b:Zs}(h:Ze1 K b)(hK:K<=1000000):Zgb b=some (b,()):=by
 have:=h.len;unfold Zgb;rw[Zb (by simp only[List.length_nil];unfold Qo;omega)];rfl
theorem Qx9{K:Nat}{b:Zs}(h:Ze1 K b)(o:Int)(d:List UInt8)(hK:K+d.length<=1000000)(hoB:o<=4611686018427387904):Zot b o d=some (Q6v b o d,()):=by
 have t:=h.len;have u:=h.tot;unfold Zot Q6v;rw[Z6c h (by omega),Obs];simp only;cases hb:Znw b
 ·rw[Zpx h (by omega)];rfl
 simp only[Ont,Bool.false_or];rw[Zr (by omega) (by omega)];by_cases a: (d==([]:List UInt8))=true
 ·rw[a,Zpx h (by omega)];rfl
 rw[Bool.not_eq_true]at a;rw[a];simp only[Bool.false_or];by_cases j:o<0
 ·rw[Zk j,Zpx h (by omega)];rfl
 rw[Zl j,Bool.false_or];by_cases k:o>4611686018427387903- (d.length:Int)
 ·rw[Zk k,Zpx h (by omega)];rfl
 rw[Zl k,Bool.false_or,Zr (by omega) (by omega)];by_cases m:o+ (d.length:Int)<=b.1
 ·rw[Zk m,Zpx h (by omega)];rfl
 rw[Zl m];simp only[Bool.or_self,Ocf,Kj];unfold Znw at hb;simp only[Oba,Kx]at hb;rw[Zr (by omega) (by omega)]at hb;obtain⟨g,n⟩:=Qdb hb.1 (by omega) fun c p=>by have:=Zxf p;omega
 have i: ∀c∈b.2.1,c.1<=Yi c:=fun c _=>by unfold Yi;omega
 unfold Zpf Zik;have q:Z79 0 (Zca o d (o+ (d.length:Int)) (max o b.1) b.2.1):=by
  refine Qb0 (by omega) (by omega) ?_;have:=Qn6 (e:=0) g;cases hbl:b.2.1 with
  |nil=>trivial
  |cons c l=>
   rw[hbl]at g this;exact⟨by have:=g.1;omega,this.2⟩
 have r:=Qrq (o:=o) (d:=d) (l:=b.2.1) (f:=max o b.1) (by omega) i;have s:=Qrp o d (o+ (d.length:Int)) b.2.1 (max o b.1);exact Q0g (by omega) n (by omega) (by omega) q (Qyw (by omega) (by omega) (by omega) n) (by omega) (by omega) _ 0 _ [] (by omega) (by omega) (by omega) (by omega) rfl
def bv:Option UInt8->Int|some v=>(v.toNat:Int)|none=> -1
theorem Qt0{b:Zs}{n:Int}(h0:0<=n)(h1:n<=4611686018427387903)(hl:b.2.1.length<=1000000)(hq: ∀c∈b.2.1,0<=c.1/\Yi c<=4611686018427387903): ∀(N i:Nat),b.2.1.length-i<N->i<=b.2.1.length->
  Zcy N n b (i:Int)=some (bv (atC (b.2.1.drop i) n),())
 |0,_,h,_=>by omega
 |N+1,i,l,m=>by
  unfold Zcy;by_cases f:i<b.2.1.length
  ·have j:=hq _ (Qh (d:=Qf) f);rw[Zn (Zk (by omega)),Zb (by omega),show(i:Int).toNat=i from rfl,Zt f (by omega),Yl (d:=Qf) f,Qt0 h0 h1 hl hq N (i+1) (by omega) (by omega)];generalize b.2.1.getD i Qf=c at*
   have k:c.1<=Yi c:=by unfold Yi;omega
   rw[Zr (by omega) (by omega)];simp only;rw[Zb (by intro _;omega),Zb (by intro _;omega),Zk (p:=n>=0) h0,Zk (p:=c.1>=0) j.1,Ota,Ota,atC];by_cases a:c.1<=n/\n<Yi c
   ·have g:n-c.1< (c.2.1.length:Int):=by unfold Yi at a;omega
    have hk: (n-c.1).toNat<c.2.1.length:=by omega
    rw[if_pos a,Zk (p:=n-c.1>=0) (by omega),Zk (p:=n-c.1< (c.2.1.length:Int)) g,Ota,Oct,Zb (by omega),Zb (by omega),List.getElem?_eq_getElem hk];have:c.2.1.getD (n-c.1).toNat 0=c.2.1[(n-c.1).toNat]:=by simp[List.getD,List.getElem?_eq_getElem hk]
    rw[this];have hv:=UInt8.toNat_lt c.2.1[(n-c.1).toNat];rw[Zr (by omega) (by omega)];rfl
   ·rw[if_neg a];have e: (decide (n-c.1>=0)&&decide (n-c.1< (c.2.1.length:Int)))=false:=by
     unfold Yi at a;rw[Bool.and_eq_false_iff,decide_eq_false_iff_not,decide_eq_false_iff_not];omega
    rw[e,Ocf]
  ·rw[Zm (Zl (by omega)),List.drop_of_length_le (by omega)];rfl
theorem Q8y{b:Zs}{n:Int}(h0:0<=n)(h1:n<=4611686018427387903)(hl:b.2.1.length<=1000000)(hq: ∀c∈b.2.1,0<=c.1/\Yi c<=4611686018427387903):Zp5 b n=some (bv (atC b.2.1 n),()):=by
 unfold Zp5;exact Qt0 h0 h1 hl hq _ 0 (by unfold Zh4;omega) (by omega)
set_option maxRecDepth 100000 in
theorem Xd0: ∀k:Fin 256,bits .and .i64 ((k.val:Nat):Int) 255=((k.val:Nat):Int):=by decide
theorem Q90(v:UInt8):Zj3 (v.toNat:Int)=some ([v],()):=by
 have hv:=UInt8.toNat_lt v;have a:bits .and .i64 (v.toNat:Int) 255=(v.toNat:Int):=Xd0 ⟨v.toNat,by omega⟩;unfold Zj3 Znh;rw[a,show Z5 1 1 7=some (true,())from rfl];simp only[Obs,Ont,Bool.false_or];rw[Zm (Zl (by omega))];show Option.bind (Kf 2 (v.toNat:Int) 1 [] 0) _=_;unfold Kf;rw[Zn (by decide),Zb (by decide)];simp only;rw[Zb (by unfold Ka Qq;simp),Zb (by decide)];unfold Kf;have b:Int.tdiv (v.toNat:Int) 256=0:=Int.tdiv_eq_zero_of_lt (by omega) (by omega);have c:Int.tmod (v.toNat:Int) 256=(v.toNat:Int):=Int.tmod_eq_of_lt (by omega) (by omega);rw[show IntKind.i64.wrap ((0:Int)+1)=1 from rfl,Zm (by decide),b,c,show IntKind.i64.wrap 0=0 from rfl,Zl (p:=(0:Int)>0) (by omega),Ocf,Obs];have d:IntKind.u8.wrap (v.toNat:Int)=(v.toNat:Int):=by simp only[IntKind.wrap,IntKind.bits,IntKind.signed];simp;omega
 rw[d];simp[Qq]
def Q0h(b:Zs)(o:Int)(d:List UInt8)(n:Int):UInt8:=match atC b.2.1 n with|some v=>v|none=>d.getD (n-o).toNat 0
def Qkp(b:Zs)(o:Int)(d:List UInt8):Int->Nat->List UInt8|_,0=>[]|a,m+1=>Q0h b o d a::Qkp b o d (a+1) m
theorem Qse(b:Zs)(o:Int)(d:List UInt8): ∀(m:Nat) (a:Int),(Qkp b o d a m).length=m
 |0,_=>rfl
 |m+1,a=>by rw[Qkp,List.length_cons,Qse b o d m]
theorem Qzl(b:Zs)(o:Int)(d:List UInt8): ∀(m:Nat) (a:Int) (j:Nat),j<m->(Qkp b o d a m)[j]? =some (Q0h b o d (a+ (j:Int)))
 |0,_,_,h=>by omega
 |m+1,a,0,_=>by rw[Qkp];simp
 |m+1,a,j+1,h=>by
  rw[Qkp,List.getElem?_cons_succ,Qzl b o d m (a+1) j (by omega)];congr 2;omega
theorem Q9n{b:Zs}(hbl:b.2.1.length<=1000000)(hq: ∀c∈b.2.1,0<=c.1/\Yi c<=4611686018427387903)(K1: (Int×List UInt8×Zs×Zs×Zs×List Zh×Int×Unit)->Option (Zs×Unit)){o:Int}(ho:0<=o){d:List UInt8}(t x:Zs)(l:List Zh){i:Nat}(hi:i<l.length){r:Zh}(hr:l.getD i Zz=r)
  (h0:0<=r.1) (hH:r.2.1<=4611686018427387903) (hx:x.2.1.length<=1000000) (hin: ∀n,r.1<=n->n<r.2.1->atC b.2.1 n≠none\/(o<=n/\n<o+ (d.length:Int))):
  ∀(N m:Nat) (s:List UInt8),(m:Int)<=r.2.1-r.1->m<N->(s.length:Int)+m<=4000000->
   Xx K1 N o d b t x l (i:Int) s (r.2.1- (m:Int))=K1 (o,d,b,t,(x.1,(x.2.1++ [(r.1,(s++Qkp b o d (r.2.1- (m:Int)) m,()))],x.2.2)),l,IntKind.i64.wrap ((i:Int)+1),()):=by
 intro N
 induction N with
 |zero=>intro m s _ h _;omega
 |succ N g=>
 intro m s j k p;cases m with
 |zero=>
  unfold Xx;rw[Zb (by omega),show(i:Int).toNat=i from rfl,hr,Zm (Zl (by omega)),Zb (by omega)];simp only;rw[Zb (by unfold Qo;simp;omega),Qkp,List.append_nil]
 |succ m=>
  have e:r.2.1- ((m+1:Nat):Int)+1=r.2.1- (m:Int):=by omega
  have a: ∀v:UInt8,v=Q0h b o d (r.2.1- ((m+1:Nat):Int))->Wq K1 (fun v=>Xx K1 N v.1 v.2.1 v.2.2.1 v.2.2.2.1 v.2.2.2.2.1 v.2.2.2.2.2.1 v.2.2.2.2.2.2.1 v.2.2.2.2.2.2.2.1 v.2.2.2.2.2.2.2.2.1) o d b t x l (i:Int) s (r.2.1- ((m+1:Nat):Int)) (v.toNat:Int)=
    K1 (o,d,b,t,(x.1,(x.2.1++ [(r.1,(s++Qkp b o d (r.2.1- ((m+1:Nat):Int)) (m+1),()))],x.2.2)),l,IntKind.i64.wrap ((i:Int)+1),()):=by
   intro v hv;unfold Wq;rw[Q90,Obs,Zb (by unfold Ka;simp only[List.length_singleton];omega),Zr (by omega) (by omega)];simp only[e];rw[g m (s++ [v]) (by omega) (by omega) (by simp only[List.length_append,List.length_singleton];omega),Qkp,e,<-hv,List.append_assoc,List.singleton_append]
  unfold Xx;rw[Zb (by omega),show(i:Int).toNat=i from rfl,hr,Zn (Zk (by omega)),Q8y (by omega) (by omega) hbl hq,Obs];have f:=hin (r.2.1- ((m+1:Nat):Int)) (by omega) (by omega);cases ha:atC b.2.1 (r.2.1- ((m+1:Nat):Int))with
  |none=>
   rw[ha]at f;have f:=f.resolve_left (fun h=>h rfl);rw[show decide ((bv (none:Option UInt8),()).1< (0:Int))=true from rfl,Oct,Zr (n:=r.2.1- ((m+1:Nat):Int)-o) (by omega) (by omega),Zb (by omega)];have hv:=UInt8.toNat_lt (d.getD (r.2.1- ((m+1:Nat):Int)-o).toNat 0);rw[Zr (by omega) (by omega)];exact a _ (by unfold Q0h;rw[ha])
  |some v=>
   rw[show decide ((bv (some v),()).1< (0:Int))=false from Zl (show ¬((v.toNat:Int)<0) by omega),Ocf];exact a v (by unfold Q0h;rw[ha])
theorem Qwd(n:Int): ¬inR n []:=fun⟨x,hx,_⟩=>by cases hx
theorem Zvc{n:Int}{x:Zh}{l:List Zh}:inR n (x::l)↔(x.1<=n/\n<x.2.1)\/inR n l:=by
 constructor
 ·rintro⟨y,hy,h⟩;rcases List.mem_cons.1 hy with rfl|hy
  ·exact .inl h
  ·exact .inr ⟨y,hy,h⟩
 ·rintro(h| ⟨y,hy,h⟩)
  ·exact⟨x,List.mem_cons_self,h⟩
  ·exact⟨y,List.mem_cons_of_mem _ hy,h⟩
theorem Q9k{n:Int}: ∀{l:List Zh} {r:Zh},inR n (Zhi l r)↔inR n l\/(r.1<=n/\n<r.2.1)
 |l,r=>⟨Qfi,in_addR' l r⟩
where in_addR' {n:Int}: ∀(l:List Zh) (r:Zh),inR n l\/(r.1<=n/\n<r.2.1)->inR n (Zhi l r)
 | [],r,h=>⟨r,by simp[Zhi],h.resolve_left (Qwd n)⟩
 |x::l,r,h=>by
  unfold Zhi;split
  ·refine Zvc.2 ?_;rcases h with h|h
   ·rcases Zvc.1 h with h|h
    ·exact .inl h
    ·exact .inr (in_addR' l r (.inl h))
   ·exact .inr (in_addR' l r (.inr h))
  ·split
   ·exact Zvc.2 (h.symm)
   ·refine in_addR' l _ ?_;rcases h with h|h
    ·rcases Zvc.1 h with h|h
     ·exact .inr (by simp only;omega)
     ·exact .inl h
    ·exact .inr (by simp only;omega)
def rgS(b:Zs)(o:Int)(d:List UInt8)(r:Zh):Z1:=(r.1,(Qkp b o d r.1 (r.2.1-r.1).toNat,()))
theorem Q3d(b:Zs)(o:Int)(d:List UInt8){r:Zh}(h:r.1<=r.2.1):Yi (rgS b o d r)=r.2.1:=by
 unfold Yi rgS;simp only;rw[Qse];omega
theorem Q2p{b:Zs}(hbl:b.2.1.length<=1000000)(hq: ∀c∈b.2.1,0<=c.1/\Yi c<=4611686018427387903){o:Int}(ho:0<=o){d:List UInt8}(t:Zs){l:List Zh}(hl:l.length<=1000000)(hf: ∀r∈l,Zf6 r=true)(hc: ∀r∈l,r.2.1-r.1<=2000000)
  (hin: ∀n,inR n l->atC b.2.1 n≠none\/(o<=n/\n<o+ (d.length:Int))): ∀(N i:Nat) (x:Zs),l.length-i<N->i<=l.length->x.2.1.length<=i->
   K7 N o d b t x l (i:Int)=some ((x.1,(x.2.1++ (l.drop i).map (rgS b o d),x.2.2)),())
 |0,_,_,h,_,_=>by omega
 |N+1,i,x,p,s,hx=>by
  unfold K7;by_cases h:i<l.length
  ·have a:=Qh (d:=Zz) h;have e:=Qv.1 (hf _ a);have m:=hc _ a;rw[Zn (Zk (by omega)),Zb (by omega),show(i:Int).toNat=i from rfl,Yl (d:=Zz) h,List.map_cons];generalize j:l.getD i Zz=r at*
   have k:=Q9n hbl hq (fun v=>K7 N v.1 v.2.1 v.2.2.1 v.2.2.2.1 v.2.2.2.2.1 v.2.2.2.2.2.1 v.2.2.2.2.2.2.1) ho t x l h j e.1 (by omega) (by omega) (fun n f g=>hin n ⟨r,a,f,g⟩) (J0 o d b t x l (i:Int) [] r.1) (r.2.1-r.1).toNat [] (by omega)
    (by unfold J0;rw[show(i:Int).toNat=i from rfl,j];omega) (by simp only[List.length_nil];omega)
   rw[show r.2.1- (((r.2.1-r.1).toNat:Nat):Int)=r.1 by omega]at k;rw[k,Zt h (by omega)];have q:=Q2p hbl hq ho (d:=d) t hl hf hc hin N (i+1) (x.1,(x.2.1++ [rgS b o d r],x.2.2)) (by omega) (by omega) (by simp only[List.length_append,List.length_singleton];omega);refine Eq.trans q ?_;simp only[List.append_assoc,List.singleton_append]
  ·rw[Zm (Zl (by omega)),List.drop_of_length_le (by omega)];simp
theorem Q3c(b:Zs)(o:Int)(d:List UInt8): ∀{l:List Zh} {e:Int},rsB e l=true->Qhk e (l.map (rgS b o d))
 | [],_,_=>trivial
 |r::l,e,h=>by
  simp only[rsB,Oba,decide_eq_true_eq]at h;have c:=Qv.1 h.1.1;refine⟨h.1.2,?_,?_⟩
  ·intro a;have:=congrArg List.length a;unfold rgS at this;simp only[Qse,List.length_nil]at this;omega
  ·rw[Q3d b o d (by omega)];exact Q3c b o d h.2
theorem Q71(b:Zs)(o:Int)(d:List UInt8): ∀{l:List Zh} {n:Int},(∀r∈l,Zf6 r=true)->(inR n l->atC (l.map (rgS b o d)) n=some (Q0h b o d n))/\(¬inR n l->atC (l.map (rgS b o d)) n=none)
 | [],n,_=>⟨fun h=>absurd h (Qwd n),fun _=>rfl⟩
 |r::l,n,h=>by
  have g:=Qv.1 (h r List.mem_cons_self);obtain⟨c,e⟩:=Q71 b o d (l:=l) (n:=n) fun x hx=>h x (List.mem_cons_of_mem _ hx);rw[List.map_cons,atC,Q3d b o d (by omega)];show(_->(if r.1<=n/\n<r.2.1 then(Qkp b o d r.1 (r.2.1-r.1).toNat)[(n-r.1).toNat]? else _)=_)/\(_->(if r.1<=n/\n<r.2.1 then(Qkp b o d r.1 (r.2.1-r.1).toNat)[(n-r.1).toNat]? else _)=_)
  by_cases a:r.1<=n/\n<r.2.1
  ·rw[if_pos a,Qzl b o d _ _ _ (by omega),show r.1+ (((n-r.1).toNat:Nat):Int)=n by omega];exact⟨fun _=>rfl,fun h=>absurd ⟨r,List.mem_cons_self,a⟩ h⟩
  ·rw[if_neg a];exact⟨fun h=>c ((Zvc.1 h).resolve_left a),fun h=>e fun f=>h (Zvc.2 (.inr f))⟩
theorem Q1y: ∀{l:List Z1} {n:Int},atC l n≠none↔inR n (l.map rgC)
 | [],n=>⟨fun h=>absurd rfl h,fun h=>absurd h (Qwd n)⟩
 |c::l,n=>by
  rw[List.map_cons,Zvc,<-Q1y (l:=l)];unfold rgC;simp only;by_cases a:c.1<=n/\n<Yi c
  ·have:c.1<=n/\n<c.1+ (c.2.1.length:Int):=a;exact⟨fun _=> .inl this,fun _=>Qo2 a.1 a.2⟩
  ·have b: ¬(c.1<=n/\n<c.1+ (c.2.1.length:Int)):=a;rw[atC,if_neg a];exact⟨fun h=> .inr h,fun h=>h.resolve_left b⟩
theorem Xed{K:Nat}{b:Zs}(h:Ze1 K b)(o:Int)(d:List UInt8)(hK:K+d.length+1<=1000000)(hb:Znw b=true)(hdl:0<d.length)(h1: ¬o<0)(h2: ¬o>4611686018427387903- (d.length:Int))(h3: ¬o+ (d.length:Int)<=b.1):
  rsB (b.1-1) (Zhi (b.2.1.map rgC) (max o b.1,(o+ (d.length:Int),())))=true/\(∀n,inR n (Zhi (b.2.1.map rgC) (max o b.1,(o+ (d.length:Int),())))↔atC b.2.1 n≠none\/(max o b.1<=n/\n<o+ (d.length:Int)))/\
  (Zhi (b.2.1.map rgC) (max o b.1,(o+ (d.length:Int),()))).map (rgS b o d)=Qq7 (Zca o d (o+ (d.length:Int)) (max o b.1) b.2.1):=by
 have D:=h.len;have E:=h.tot;obtain⟨F,G,u⟩:=Zrx (by omega) hb;have q:rsB (-1) (b.2.1.map rgC)=true:=Zy5 u (by omega);have j:Zf6 (max o b.1,(o+ (d.length:Int),()))=true:=Qv.2 (by simp only;omega);have g:=Z51 q j (by simp only;omega);have f:=hb;unfold Znw at f;simp only[Oba]at f;rw[Zr (by omega) (by omega)]at f;obtain⟨m,H⟩:=Qdb f.1 (by omega) fun c x=>by have:=Zxf x;omega
 have y: ∀r∈Zhi (b.2.1.map rgC) (max o b.1,(o+ (d.length:Int),())),Zf6 r=true:=fun r z=>(Zsn g r z).2;have s: ∀n,inR n (Zhi (b.2.1.map rgC) (max o b.1,(o+ (d.length:Int),())))↔atC b.2.1 n≠none\/(max o b.1<=n/\n<o+ (d.length:Int)):=fun n=>by rw[Q9k,Q1y]
 refine⟨Z51 u j (by simp only;omega),s,?_⟩;have A: ∀c∈b.2.1,c.1<=Yi c:=fun c _=>by unfold Yi;omega
 have i:Z79 0 (Zca o d (o+ (d.length:Int)) (max o b.1) b.2.1):=by
  refine Qb0 (by omega) (by omega) ?_;have:=Qn6 (e:=0) m;cases hbl:b.2.1 with
  |nil=>trivial
  |cons c l=>
   rw[hbl]at m this;exact⟨by have:=m.1;omega,this.2⟩
 have w:Qhk (-1) (Qq7 (Zca o d (o+ (d.length:Int)) (max o b.1) b.2.1))/\ ∀n,atC (Qq7 (Zca o d (o+ (d.length:Int)) (max o b.1) b.2.1)) n=atC (Zca o d (o+ (d.length:Int)) (max o b.1) b.2.1) n:=by
  generalize Zca o d (o+ (d.length:Int)) (max o b.1) b.2.1=P at i;cases P with
  |nil=>exact⟨trivial,fun _=>rfl⟩
  |cons c l=>exact⟨Qix (by have:=i.1;omega) i.2.1 i.2.2,Qq5 i.2.1 i.2.2⟩
 have t:Z79 (-1) b.2.1:=Q4o (by omega) (Qn6 (e:=0) m);refine Qxk (Q3c b o d g) w.1 fun n=> ?_;obtain⟨B,C⟩:=Q71 b o d y (n:=n);rw[w.2,Q4r (by omega) t];by_cases p:inR n (Zhi (b.2.1.map rgC) (max o b.1,(o+ (d.length:Int),())))
 ·rw[B p];have a:=(s n).1 p;unfold Q0h;cases k:atC b.2.1 n with
  |some v=>rfl
  |none=>
   rw[k]at a;have a:=a.resolve_left fun h=>h rfl;simp only;rw[if_pos a,List.getElem?_eq_getElem (by omega)];simp[List.getD,List.getElem?_eq_getElem (show(n-o).toNat<d.length by omega)]
 ·rw[C p];have a:=fun h=>p ((s n).2 h);have k:atC b.2.1 n=none:=by
   cases k:atC b.2.1 n with
   |none=>rfl
   |some v=>exact absurd (.inl (by rw[k];simp)) a
  rw[k];simp only;rw[if_neg fun h=>a (.inr h)]
theorem Qle{K:Nat}{b:Zs}(h:Ze1 K b)(o:Int)(d:List UInt8)(hK:K+d.length+1<=1000000)(hoB:o<=4611686018427387904):Zgi b o d=some (Q6v b o d,()):=by
 have L:=h.len;have M:=h.tot;unfold Zgi Q6v;rw[Ze9 b (by omega),Obs];simp only;cases hb:Znw b
 ·rw[Zvg h (by omega)];rfl
 simp only[Ont,Bool.false_or];rw[Zr (n:=4611686018427387903- (d.length:Int)) (by omega) (by omega)];by_cases i: (d==([]:List UInt8))=true
 ·rw[i,Zvg h (by omega)];rfl
 rw[Bool.not_eq_true]at i;have p:0<d.length:=List.length_pos_iff.2 fun e=>by rw[e]at i;cases i
 rw[i];simp only[Bool.false_or];by_cases q:o<0
 ·rw[Zk q,Zvg h (by omega)];rfl
 rw[Zl q,Bool.false_or];by_cases s:o>4611686018427387903- (d.length:Int)
 ·rw[Zk s,Zvg h (by omega)];rfl
 rw[Zl s,Bool.false_or,Ocf,Zr (by omega) (by omega)];obtain⟨N,O,C⟩:=Zrx (by omega) hb;by_cases t:o+ (d.length:Int)<=b.1
 ·rw[Zk t,Zn (Zk (by omega)),Zvg h (by omega)];rfl
 rw[Zl t,Ocf,Zm (Zl (by omega)),Qc7 h (by omega),Obs,hb];simp only[if_true];have u: (b.2.1.map rgC).length<=1048576:=by rw[List.length_map];omega
 rw[Zn8 _ _ u,Obs];have j:rsB (-1) (b.2.1.map rgC)=true:=Zy5 C (by omega);have v:Zf6 (max o b.1,(o+ (d.length:Int),()))=true:=Qv.2 (by simp only;omega);simp only[j,v,and_self,if_true];have w:=Qc2 (l:=b.2.1.map rgC) (r:=((max o b.1,(o+ (d.length:Int),())):Zh));rw[List.length_map]at w;have k:=Qdc (l:=b.2.1.map rgC) (r:=((max o b.1,(o+ (d.length:Int),())):Zh)) (fun x hx=>by
  have:=Qv.1 (Zsn j x hx).2;omega) (by simp only;omega)
 rw[Qvp]at k;simp only at k;obtain⟨f,D,E⟩:=Xed h o d hK hb p q s t;have m:=Zy5 f (show(-1:Int)<=b.1-1 by omega);have a:=hb;unfold Znw at a;simp only[Oba]at a;rw[Zr (by omega) (by omega)]at a;obtain⟨P,F⟩:=Qdb a.1 (by omega) fun c G=>by have:=Zxf G;omega
 have A: ∀r∈Zhi (b.2.1.map rgC) (max o b.1,(o+ (d.length:Int),())),Zf6 r=true:=fun r g=>(Zsn m r g).2;have y: ∀{l:List Zh},(∀r∈l,Zf6 r=true)->0<=Vt l/\ ∀r∈l,r.2.1-r.1<=Vt l:=by
  intro l
  induction l with
  |nil=>intro _;exact⟨by simp[Vt],fun _ h=>by cases h⟩
  |cons r l H=>
   intro B;have g:=Qv.1 (B r List.mem_cons_self);obtain⟨Q,I⟩:=H fun r g=>B r (List.mem_cons_of_mem _ g);simp only[Vt];refine⟨by omega,fun x hx=> ?_⟩;rcases List.mem_cons.1 hx with rfl|hx
   ·omega
   ·have:=I x hx;omega
 have z:=Q2p (b:=b) (by omega) F (o:=o) (by omega) (d:=d) Qoo (l:=Zhi (b.2.1.map rgC) (max o b.1,(o+ (d.length:Int),()))) (by omega) A (fun r g=>by have:=(y A).2 r g;omega)
  (fun n J=>((D n).1 J).imp id fun h=>by omega) (Jz o d b Qoo (b.1,([],())) (Zhi (b.2.1.map rgC) (max o b.1,(o+ (d.length:Int),()))) 0) 0 (b.1,([],())) (by unfold Jz;omega) (by omega) (by simp)
 refine Eq.trans z ?_;simp only[List.nil_append,List.drop_zero];rw[E]
theorem Q6w{K:Nat}{b:Zs}(h:Ze1 K b)(o:Int)(d:List UInt8)(hK:K+d.length+1<=1000000)(hoB:o<=4611686018427387904):Ze1 (K+d.length+1) (Q6v b o d):=by
 obtain⟨y,e,a⟩:=Qq4 h o d hK;rw[Qle h o d hK hoB]at e;simp only[Osi,Opi,and_true]at e;rw[e];exact a
theorem Z8x{K:Nat}{r:Zu}(h:Ze1 K r.2.1)(hK:K<=1000000):Zap r=some (r,()):=by
 unfold Zap;rw[Zpx h hK];rfl
theorem Q2w{K:Nat}{r:Zu}(h:Ze1 K r.2.1)(hK:K<=1000000):Zhg r=some (r,()):=by
 unfold Zhg;rw[Zvg h hK];rfl
noncomputable def Qpe(r:Zu)(e:Int)(fin:Bool):Bool:=((r.2.2.1 !=(-1:Int))&& (decide (e>r.2.2.1)))|| (fin&& (((r.2.2.1 !=(-1:Int))&& (e !=r.2.2.1))|| (decide (e<r.2.2.2.1))))
theorem Q19(r:Zu)(e:Int)(fin:Bool):Znc r e fin=some (Qpe r e fin,()):=rfl
theorem Qv4(r:Zu)(e:Int)(fin:Bool):Zkm r e fin=some (bif Qpe r e fin then 6 else 0,()):=by
 unfold Zkm Qpe;cases r.2.2.1 !=(-1:Int)<;>cases decide (e>r.2.2.1)<;>cases fin<;>cases e !=r.2.2.1<;>cases decide (e<r.2.2.2.1)<;>rfl
theorem Q8e{r:Zu}(h:0<=r.1):Zvb r=some (!decide (r.1>1),()):=by
 unfold Zvb;congr 2;rw[Bool.eq_iff_iff];simp only[Bool.or_eq_true,beq_iff_eq,Bool.not_eq_true',decide_eq_false_iff_not];omega
theorem Q7z{K:Nat}{r:Zu}(h:Ze1 K r.2.1)(o:Int)(d:List UInt8)(fin:Bool)(hK:K+d.length+1<=900000)(hoB:o<=4611686018427387904):Zna r o d fin=Yu r o d fin:=by
 unfold Zna Yu;rw[Z8x h (by omega),Q2w h (by omega),Ztb h (by omega),Qy0 h (by omega)];simp only[Obs];cases hb:Qb4 r
 ·rfl
 have c:=Xep h (by omega) hb;simp only[Ont,Bool.false_or];rw[Q19,Qv4,Q8e c];simp only[Obs];generalize (decide (o<0)||decide (o>IntKind.i64.wrap (4611686018427387903- (d.length:Int))))=a;cases a
 rotate_left
 ·rfl
 rw[Ocf,Ocf];cases Qpe r (IntKind.i64.wrap (o+ (d.length:Int))) fin
 rotate_left
 ·rfl
 rw[Ocf,Ocf];cases decide (r.1>1)
 rotate_left
 ·rfl
 have b:=Q6w h o d (by omega) hoB;have j: ∀x:Zu,Zdz o d r Znu x=Kg o d r Znu x:=fun x=>by
  unfold Zdz Kg Zof;rw[Qx9 h o d (by omega) hoB,Qle h o d (by omega) hoB];simp only[Obs];rw[Qlo b (by omega),Zpr _ (by have:=b.len;omega)];cases x.2.2.1 !=(-1:Int)
  ·rfl
  ·rfl
 cases fin
 ·exact j _
 ·exact j _
theorem Qtt{K:Nat}{r:Zu}(h:Ze1 K r.2.1)(code final:Int)(hK:K<=900000):Zlt r code final=Ju r code final:=by
 unfold Zlt Ju;rw[Z8x h (by omega),Q2w h (by omega),Ztb h (by omega),Qy0 h (by omega)];simp only[Obs];cases hb:Qb4 r
 ·rfl
 have a:=Xep h (by omega) hb;rw[Q19,Qv4,Q8e a];simp only[Obs,Ont,Bool.false_or,Ocf,Z6e,K5];cases V6 code
 ·rfl
 cases V6 final
 ·rfl
 simp only[Ont,Ocf,Obs,Bool.or_self];cases Qpe r final true
 rotate_left
 ·rfl
 cases decide (r.1>1)<;>rfl
def Z7e(s:Zd):List Zd->List Zd| []=>[s]|x::r=>if x.1>s.1 then s::x::r else x::Z7e s r
theorem Xbh{K:Nat}{l:List Zd}{s:Zd}(h:Zhh K l)(hK:K<=500000): ∀(N i:Nat) (out:List Zd),l.length-i<N->i<=l.length->out.length<=i+1->Q0 N l s out (-1) true (i:Int)=some (out++l.drop i,())
 |0,_,_,h,_,_=>by omega
 |N+1,i,out,b,c,e=>by
  have f:=h.len;rw[Q0];by_cases a:i<l.length
  ·rw[Zn (Zk (by omega)),Zb (by omega),show(i:Int).toNat=i from rfl,Zow (h.all _ (Qh (d:=Zj) a)) (by omega),Obs];have: ((i:Int)==(-1:Int))=false:=by simp
   rw[this,Ocf,Zb (fun h=>by cases h)];simp only[Ont,Bool.false_and,Ocf];unfold Xs;rw[Zb (by unfold Qo;simp only[List.length_singleton];omega),Zt a (by omega)];refine Eq.trans (Xbh h hK N (i+1) (out++ [l.getD i Zj]) (by omega) (by omega) (by simp only[List.length_append,List.length_singleton];omega)) ?_;rw[Yl (d:=Zj) a,List.append_assoc,List.singleton_append]
  ·rw[Zm (Zl (by omega)),List.drop_of_length_le (by omega),List.append_nil];rfl
theorem Xbg{K:Nat}{l:List Zd}{s:Zd}(h:Zhh K l)(hs:Xq K s)(hK:K<=500000): ∀(N i:Nat) (out:List Zd),l.length-i<N->i<=l.length->out.length<=i->Q0 N l s out (-1) false (i:Int)=some (out++Z7e s (l.drop i),())
 |0,_,_,h,_,_=>by omega
 |N+1,i,out,c,e,f=>by
  have g:=h.len;rw[Q0];by_cases a:i<l.length
  ·rw[Zn (Zk (by omega)),Zb (by omega),show(i:Int).toNat=i from rfl,Zow (h.all _ (Qh (d:=Zj) a)) (by omega),Obs];have: ((i:Int)==(-1:Int))=false:=by simp
   rw[this,Ocf,Zb (fun _=>by omega),Yl (d:=Zj) a];simp only[Bool.not_false,Ota];unfold Z7e;by_cases b: (l.getD i Zj).1>s.1
   ·rw[Zk b,Oct,if_pos b,Zow hs (by omega),Obs,Zb (by unfold Qo;simp only[List.length_singleton];omega)];unfold Xs;rw[Zb (by unfold Qo;simp only[List.length_append,List.length_singleton];omega),Zt a (by omega)];refine Eq.trans (Xbh h hK N (i+1) (out++ [s]++ [l.getD i Zj]) (by omega) (by omega) (by simp only[List.length_append,List.length_singleton];omega)) ?_;simp only[List.append_assoc,List.cons_append,List.nil_append]
   ·rw[Zl b,Ocf,if_neg b];unfold Xs;rw[Zb (by unfold Qo;simp only[List.length_singleton];omega),Zt a (by omega)];refine Eq.trans (Xbg h hs hK N (i+1) (out++ [l.getD i Zj]) (by omega) (by omega) (by simp only[List.length_append,List.length_singleton];omega)) ?_;rw[List.append_assoc,List.singleton_append]
  ·rw[Zm (Zl (by omega)),List.drop_of_length_le (by omega)];simp only[Bool.not_false,Oct];rw[Zow hs (by omega),Obs,Zb (by unfold Qo;simp only[List.length_singleton];omega)];rfl
def gtS(s:Zd):List Zd->Option Nat| []=>none|x::r=>if x.1>s.1 then some 0 else(gtS s r).map (· +1)
theorem Qoc(s:Zd): ∀l:List Zd,Z7e s l=match gtS s l with|none=>l++ [s]|some p=>l.take p++ [s]++l.drop p
 | []=>rfl
 |x::r=>by
  unfold Z7e gtS;by_cases a:x.1>s.1
  ·rw[if_pos a,if_pos a];rfl
  ·rw[if_neg a,if_neg a,Qoc s r];cases gtS s r<;>rfl
theorem Q0b{s:Zd}: ∀{l:List Zd} {p:Nat},gtS s l=some p->p<l.length
 | [],_,h=>by cases h
 |x::r,p,h=>by
  unfold gtS at h;split at h
  ·cases h;simp
  ·cases hr:gtS s r with
   |none=>rw[hr]at h;cases h
   |some q=>
    rw[hr]at h;cases h;have:=Q0b hr;simp only[List.length_cons];omega
theorem Xbb{l:List Zd}(s:Zd)(hl:l.length<=1000000): ∀(N i:Nat),l.length-i<N->i<=l.length->Qc N l (s,()) (l.length:Int) (i:Int)=some (match gtS s (l.drop i)with|none=> -1|some p=>((i+p:Nat):Int),())
 |0,_,h,_=>by omega
 |N+1,i,c,e=>by
  unfold Qc;by_cases b:i<l.length
  ·rw[Zn (Zk (by omega)),Zb (by omega),show(i:Int).toNat=i from rfl,Zt b (by omega),Yl (d:=Zj) b,Xbb s hl N (i+1) (by omega) (by omega)];show Option.bind (some (decide ((l.getD i Zj).1>s.1),())) _=_;rw[Obs,gtS];by_cases a: (l.getD i Zj).1>s.1
   ·rw[Zk a,Oct,if_pos a];rfl
   ·rw[Zl a,Ocf,if_neg a];cases gtS s (l.drop (i+1))with
    |none=>rfl
    |some p=>
     simp only[Option.map_some];rw[show i+1+p=i+ (p+1)from by omega]
  ·rw[Zm (Zl (by omega)),List.drop_of_length_le (by omega)];rfl
theorem gtI{l:List Zd}(s:Zd)(hl:l.length<=1000000):Qx l (s,())=some (match gtS s l with|none=> -1|some p=>(p:Int),()):=by
 unfold Qx;refine Eq.trans (Xbb s hl _ 0 (by unfold Q7;omega) (by omega)) ?_;rw[List.drop_zero];cases gtS s l with
 |none=>rfl
 |some p=>simp
theorem Q98{K:Nat}{l:List Zd}{s:Zd}(h:Zhh K l)(hs:Xq K s)(hK:K<=500000)(hi:Yq l s.1= -1):Ql l s=some (Z7e s l,()):=by
 have a:=h.len;unfold Ql;rw[Qex (by omega),Obs,hi];have e:decide ((-1:Int)>=0)=false:=rfl;simp only[e];refine Eq.trans (Xbg h hs hK _ 0 [] (by unfold Vr;omega) (by omega) (by simp)) ?_;simp
theorem Q97{K:Nat}{l:List Zd}{s:Zd}(h:Zhh K l)(hs:Xq K s)(hK:K<=500000)(hi:Yq l s.1= -1):Zio l s=some (Z7e s l,()):=by
 have c:=h.len;have b:W3 l=some (l,()):=by
  unfold W3;exact Zsd h (by omega) _ 0 (by unfold Jf;omega) (by omega)
 have a: ∀p:Nat,p<=l.length->Zgt s l (p:Int)=some (l.take p++ [s]++l.drop p,()):=fun p d=>by
  unfold Zgt Z9f Q6x;rw[Z3g hs (by omega),Obs,Zb ⟨by omega,by omega,by simp,by unfold Qo;simp only[List.length_singleton];omega⟩,Obs];rfl
 unfold Zio;rw[b,Obs,Qes (by omega),Qex (by omega),Obs,hi];have e:decide ((-1:Int)>=0)=false:=rfl;simp only[e,Ocf];rw[gtI s (by omega),Obs,Qoc];cases hg:gtS s l with
 |none=>
  simp only;rw[Zn (Zk (by omega)),a l.length (Nat.le_refl _),List.take_length,List.drop_length,List.append_nil]
 |some p=>
  simp only;rw[Zm (Zl (by omega)),a p (Nat.le_of_lt (Q0b hg))]
def Q5b(m:Option (Bool×Unit)):Bool:=match m with|some (b,_)=>b|none=>false
theorem Q8h{m:Option (Bool×Unit)}(h:TT m):m=some (Q5b m,()):=by
 obtain⟨⟨b,u⟩,e,-⟩:=h;rw[e];rfl
theorem Xfg(n:Int):Zqn n=Vq n:=rfl
theorem Xel(v:Bool)(n:Int):Ze5 v n=Zdk v n:=rfl
theorem Xbk(v:Bool)(n:Int):Zl9 v n=Yx v n:=rfl
theorem Q70(v:Bool)(n:Int):Zda v n=Q4 v n:=rfl
theorem Qvd(n:Int):Wf n=some (V6 n,()):=rfl
theorem Zta{f:Zi}(h:FOK f):Jt f=some (Y7 f,()):=Zus f (by unfold FOK at h;omega)
theorem Zyi{f:Zi}(h:FOK f):We f=some (Y7 f,()):=Qez f (by unfold FOK at h;omega)
def idV(n:Int):Int:=bif V6 n then n/4 else-1
theorem Xcj(n:Int):Zkh n=some (idV n,()):=by
 unfold Zkh idV;rw[K5,Obs];have a: (2:Int)^ (min (2:Int).toNat IntKind.i64.bits)=4:=by
  have: (min (2:Int).toNat IntKind.i64.bits)=2:=rfl;rw[this];rfl
 cases hq:V6 n
 ·rfl
 ·rw[Ont,Ocf,Oct,Zb (by omega),a,Int.fdiv_eq_ediv_of_nonneg _ (by omega)]
theorem Xci(n:Int):Zd8 n=some (idV n,()):=by
 unfold Zd8 idV;rw[Qvd,Obs];cases hq:V6 n
 ·rfl
 ·have h:=Kx.1 hq;rw[Ont,Ocf,Oct,Zb (by omega),Int.tdiv_eq_ediv_of_nonneg h.1,Zr (by omega) (by omega)]
theorem Q0t(n:Int):Zqo n=Zc1 n:=by
 have:Zbb n=Vs n:=by
  unfold Zbb Vs;rw[Zko,Obs];have e:decide (n>=1)=decide (n>0):=decide_eq_decide.2 (by omega);rw[e]
 unfold Zqo Zc1 Z0g Zrf;rw[this]
theorem Q0v(v:Bool)(n:Int)(o p:Zgp):Zqp v n o p=Je v n o p:=by
 unfold Zqp Je;simp only[Q2r,Q0t,Qvd,K5,Obs];rfl
def Zv4(a:Q8)(n:Int):Bool:=Z6q a&& (decide (0<=n)&&decide (n<a.2.1))
def siN(a:Q8)(n:Int):Int:=max 0 (n+1-a.2.2.1)
def siV(a:Q8)(n:Int):Q8:=(a.1,(a.2.1,(a.2.2.1+siN a n,a.2.2.2)))
theorem Q3h{a:Q8}{n:Int}(h:Zv4 a n=true):IntKind.i64.wrap (IntKind.i64.wrap (n+1)-a.2.2.1)=n+1-a.2.2.1/\IntKind.i64.wrap (a.2.2.1+siN a n)=a.2.2.1+siN a n:=by
 unfold Zv4 at h;simp only[Oba,decide_eq_true_eq]at h;have g:=Qot.1 h.1;have:=g.lim;have:=g.seen;have:=g.most
 unfold siN;rw[Zr (n:=n+1) (by omega) (by omega),Zr (by omega) (by omega),Zr (by omega) (by omega)];exact⟨rfl,rfl⟩
theorem Q40(a:Q8)(n:Int):Zhu a n=some (bif Zv4 a n then siV a n else a,bif Zv4 a n then siN a n else 0,Zv4 a n,()):=by
 unfold Zhu;rw[Q8v,Obs];have e: (((!Z6q a)|| (decide (n<0)))|| (decide (n>=a.2.1)))= !Zv4 a n:=by
  have c:decide (n<0)= !decide (0<=n):=by rw[<-decide_not];exact decide_eq_decide.2 (by omega)
  have d:decide (n>=a.2.1)= !decide (n<a.2.1):=by rw[<-decide_not];exact decide_eq_decide.2 (by omega)
  unfold Zv4;rw[c,d];cases Z6q a<;>cases decide (0<=n)<;>cases decide (n<a.2.1)<;>rfl
 rw[e];cases h:Zv4 a n
 ·rfl
 ·obtain⟨f,b⟩:=Q3h h;simp only[Ont,Ocf,Oct];rw[f];unfold siN at b;rw[b];rfl
theorem Qu4(a:Q8)(n:Int):Zck a n=some (bif Zv4 a n then siV a n else a,bif Zv4 a n then siN a n else 0,Zv4 a n,()):=by
 unfold Zck;rw[Qya,Q8v,Obs];simp only[Zko,bO,bO2];have e: ((!Z6q a)|| !(decide (n>=0)&&decide (n<=IntKind.i64.wrap (a.2.1-1))))= !Zv4 a n:=by
  unfold Zv4;cases ha:Z6q a
  ·rfl
  ·have g:=Qot.1 ha;have:=g.lim;have:=g.most
   rw[Zr (by omega) (by omega),show decide (n<=a.2.1-1)=decide (n<a.2.1)from decide_eq_decide.2 (by omega)];rfl
 rw[e];cases h:Zv4 a n
 ·rfl
 ·obtain⟨c,b⟩:=Q3h h;simp only[Ont,Ocf,Oct];rw[c,Int.max_comm];unfold siN at b;rw[b];rfl
def Zy8(w:Qw)(n:Int):Bool:=Z25 w&& (decide (0<=n)&&decide (n<=w.2.2.1-w.2.2.2.1))
def snV(w:Qw)(n:Int):Qw:=bif Zy8 w n then(w.1,(w.2.1,(w.2.2.1,(w.2.2.2.1+n,w.2.2.2.2))))else w
theorem Xew(w:Qw)(n:Int):Zht w n=some (snV w n,Zy8 w n,()):=by
 unfold Zht snV;rw[Q1r,Obs];cases hw:Z25 w
 ·have:Zy8 w n=false:=by unfold Zy8;rw[hw];rfl
  rw[this];rfl
 ·have g:=Qcz.1 hw;have:=g.lim;have:=g.seen
  rw[Zr (n:=w.2.2.1-w.2.2.2.1) (by omega) (by omega)];by_cases a:0<=n/\n<=w.2.2.1-w.2.2.2.1
  ·have e:Zy8 w n=true:=by unfold Zy8;rw[hw,Zk a.1,Zk a.2];rfl
   rw[e,Zm (by rw[Zl (p:=n<0) (by omega),Zl (by omega)];rfl),Zr (by omega) (by omega)];rfl
  ·have e:Zy8 w n=false:=by unfold Zy8;rw[hw,Ota,Bool.and_eq_false_iff];simp only[decide_eq_false_iff_not];omega
   rw[e,Zn (by rw[Ont,Bool.false_or,Bool.or_eq_true,decide_eq_true_eq,decide_eq_true_eq];omega)];rfl
theorem Xae(w:Qw)(n:Int):Zho w n=some (snV w n,Zy8 w n,()):=by
 unfold Zho snV;rw[Zyj,Q1r,Obs];simp only[Zko,bO,bO2];cases hw:Z25 w
 ·have:Zy8 w n=false:=by unfold Zy8;rw[hw];rfl
  rw[this];rfl
 ·have g:=Qcz.1 hw;have:=g.lim;have:=g.seen
  rw[Zr (n:=w.2.2.1-w.2.2.2.1) (by omega) (by omega)];have e: (!true|| !(decide (n>=0)&&decide (n<=w.2.2.1-w.2.2.2.1)))= !Zy8 w n:=by unfold Zy8;rw[hw];rfl
  rw[e];cases h:Zy8 w n
  ·rfl
  ·unfold Zy8 at h;simp only[Oba,decide_eq_true_eq]at h;rw[Ont,Ocf,Oct,Zr (by omega) (by omega)]
theorem Q2y(w:Qw):Zka w=some (bif Z25 w then w.2.2.1-w.2.2.2.1 else 0,()):=by
 unfold Zka;rw[Zyj,Q1r,Obs];cases hw:Z25 w
 ·rfl
 ·have g:=Qcz.1 hw;have:=g.lim;have:=g.seen
  rw[Ont,Ocf,Oct,Zr (by omega) (by omega)]
def Z2e(w:Qw)(n:Int):Bool:=Z25 w&& (decide (0<=n)&&decide (n<=w.2.2.2.1-w.2.2.2.2.1))
def rdV(w:Qw)(n:Int):Qw:=bif Z2e w n then(w.1,(w.2.1,(w.2.2.1,(w.2.2.2.1,(w.2.2.2.2.1+n,w.2.2.2.2.2)))))else w
theorem Xes(w:Qw)(n:Int):Zfs w n=some (rdV w n,Z2e w n,()):=by
 unfold Zfs rdV;rw[Q1r,Obs];cases hw:Z25 w
 ·have:Z2e w n=false:=by unfold Z2e;rw[hw];rfl
  rw[this];rfl
 ·have g:=Qcz.1 hw;have:=g.lim;have:=g.seen;have:=g.read
  rw[Zr (n:=w.2.2.2.1-w.2.2.2.2.1) (by omega) (by omega)];by_cases a:0<=n/\n<=w.2.2.2.1-w.2.2.2.2.1
  ·have e:Z2e w n=true:=by unfold Z2e;rw[hw,Zk a.1,Zk a.2];rfl
   rw[e,Zm (by rw[Zl (p:=n<0) (by omega),Zl (by omega)];rfl),Zr (by omega) (by omega)];rfl
  ·have e:Z2e w n=false:=by unfold Z2e;rw[hw,Ota,Bool.and_eq_false_iff];simp only[decide_eq_false_iff_not];omega
   rw[e,Zn (by rw[Ont,Bool.false_or,Bool.or_eq_true,decide_eq_true_eq,decide_eq_true_eq];omega)];rfl
theorem Xeq(w:Qw)(n:Int):Ze6 w n=some (rdV w n,Z2e w n,()):=by
 unfold Ze6 rdV;rw[Zyj,Q1r,Obs];simp only[Zko,bO,bO2];cases hw:Z25 w
 ·have:Z2e w n=false:=by unfold Z2e;rw[hw];rfl
  rw[this];rfl
 ·have g:=Qcz.1 hw;have:=g.lim;have:=g.seen;have:=g.read
  rw[Zr (n:=w.2.2.2.1-w.2.2.2.2.1) (by omega) (by omega)];have e: (!true|| !(decide (n>=0)&&decide (n<=w.2.2.2.1-w.2.2.2.2.1)))= !Z2e w n:=by unfold Z2e;rw[hw];rfl
  rw[e];cases h:Z2e w n
  ·rfl
  ·unfold Z2e at h;simp only[Oba,decide_eq_true_eq]at h;rw[Ont,Ocf,Oct,Zr (by omega) (by omega)]
def coV(a:Q8):Q8:=bif Z6q a&& !(a.2.2.2.1==a.2.2.1)then(a.1,(a.2.1,(a.2.2.1,(a.2.2.2.1+1,a.2.2.2.2))))else a
theorem Q50(a:Q8):T (Zcn a) fun r=>r.1=coV a:=by
 unfold Zcn coV;rw[Q8v,Obs];cases ha:Z6q a
 ·exact T.pure rfl
 ·have g:=Qot.1 ha;have:=g.lim;have:=g.seen;have:=g.clo
  cases a.2.2.2.1==a.2.2.1
  ·exact T.pure (by simp only[Bool.not_false,Bool.and_self,Oct];rw[Zr (by omega) (by omega)])
  ·exact T.pure rfl
theorem Xbw(a:Q8):Qm a=Zcn a:=rfl
noncomputable def nbV(r:Zu)(e:Int):Int:=bif Qb4 r&&V6 e then max 0 (IntKind.i64.wrap (e-r.2.2.2.1))else 0
theorem Q4k{K:Nat}{r:Zu}(h:Ze1 K r.2.1)(hK:K<=1000000)(e:Int):Zlb r e=some (nbV r e,()):=by
 unfold Zlb nbV;rw[Qy0 h hK,Obs];simp only[K5,bO,bO2];cases Qb4 r<;>cases V6 e<;>rfl
theorem Qum{K:Nat}{r:Zu}(h:Ze1 K r.2.1)(hK:K<=1000000)(e:Int):Zoe r e=some (nbV r e,()):=by
 unfold Zoe nbV;rw[Ztb h hK,Qy0 h hK,Obs];simp only[Z6e,bO,bO2];rw[Int.max_comm];cases Qb4 r<;>cases V6 e<;>rfl
def rlV(c:Wb)(n:Int):Wb:=bif(Qpg c&&decide (n>c.1))&&decide (n<=4611686018427387903)then(n,(c.2.1,((-1:Int),c.2.2.2)))else c
theorem Xc0(c:Wb)(n:Int):Zkt c n=some (rlV c n,()):=by
 unfold Zkt rlV;rw[Qiv,Q81,Obs];cases (Qpg c&&decide (n>c.1))&&decide (n<=4611686018427387903)<;>rfl
theorem Xc1(c:Wb)(n:Int):Zdm c n=some (rlV c n,()):=by
 unfold Zdm rlV;rw[Q81,Obs];simp only[K5,bO,bO2];cases hc:Qpg c
 ·rfl
 ·have g:=Q31.1 hc;have:=g.use0;have:=g.use
  by_cases h:n>c.1/\n<=4611686018427387903
  ·rw[Kx.2 ⟨by omega,h.2⟩,Zk h.1,Zk h.2,Zl (by omega)];rfl
  ·rw[Zn,Zm]
   ·rw[Ota,Bool.and_eq_false_iff,decide_eq_false_iff_not,decide_eq_false_iff_not];omega
   ·by_cases a:n<=c.1
    ·rw[Zk a];simp
    ·have:V6 n=false:=by
      cases hq:V6 n
      ·rfl
      ·have:=Kx.1 hq;omega
     rw[this];rfl
def rcV(c:Zdh)(n:Int):Zdh:=bif(Z9l c&&decide (n>c.1))&&decide (n<=1152921504606846976)then(n,(c.2.1,((-1:Int),c.2.2.2)))else c
theorem Xaa(c:Zdh)(n:Int):Zks c n=some (rcV c n,()):=by
 unfold Zks rcV;rw[Qyc,Xbx,Obs];cases (Z9l c&&decide (n>c.1))&&decide (n<=1152921504606846976)<;>rfl
theorem Xab(c:Zdh)(n:Int):Zdl c n=some (rcV c n,()):=by
 unfold Zdl rcV;rw[Xbx,Obs];have e: ((!Z9l c||decide (n<=c.1))||decide (n>1152921504606846976))= !((Z9l c&&decide (n>c.1))&&decide (n<=1152921504606846976)):=by
  have a:decide (n<=c.1)= !decide (n>c.1):=by rw[<-decide_not];exact decide_eq_decide.2 (by omega)
  have b:decide (n>1152921504606846976)= !decide (n<=1152921504606846976):=by rw[<-decide_not];exact decide_eq_decide.2 (by omega)
  rw[a,b];cases Z9l c<;>cases decide (n>c.1)<;>cases decide (n<=1152921504606846976)<;>rfl
 rw[e];cases (Z9l c&&decide (n>c.1))&&decide (n<=1152921504606846976)<;>rfl
theorem Q2n{l:List Zd}(hl:l.length<=1000000)(n:Int)(h:Yq l n<0):Yq l n= -1:=by
 have c: ∀(N i:Nat),l.length-i<N->i<=l.length-> ∃v,Xw N l n (i:Int)=some (v,())/\(v<0->v= -1):=by
  intro N
  induction N with
  |zero=>intro i h;omega
  |succ N d=>
   intro i g j;unfold Xw;by_cases f:i<l.length
   ·rw[Zn (Zk (by omega)),Zb (by omega),Zt f (by omega)];obtain⟨v,a,b⟩:=d (i+1) (by omega) (by omega);cases ((l.getD (i:Int).toNat Zj).1==n)
    ·exact⟨v,a,b⟩
    ·exact⟨i,rfl,fun h=>by omega⟩
   ·rw[Zm (Zl (by omega))];exact⟨-1,rfl,fun _=>rfl⟩
 obtain⟨v,a,b⟩:=c (Ym l n 0) 0 (by unfold Ym;omega) (by omega);have e:Xv l n=some (v,()):=a;rw[Qex hl]at e;simp only[Osi,Opi,and_true]at e;rw[e]at h⊢;exact b h
theorem Q9j{l:List Zd}(hl:l.length<=1000000){n:Int}(h: ∃s∈l,s.1=n):0<=Yq l n:=by
 obtain⟨s,a,e⟩:=h;by_cases b:0<=Yq l n
 ·exact b
 ·exact absurd e ((Qnf hl n).2.1 (by omega) s a)
noncomputable def Zxw(l:List Zd)(s:Zd):List Zd:=if 0<=Yq l s.1 then l.set (Yq l s.1).toNat s else Z7e s l
theorem Qw0{K:Nat}{l:List Zd}{s:Zd}(h:Zhh K l)(hs:Xq K s)(hK:K<=500000):Ql l s=some (Zxw l s,()):=by
 have b:=h.len;unfold Zxw;by_cases a:0<=Yq l s.1
 ·rw[if_pos a];exact Xeo h hs (by omega) a
 ·rw[if_neg a];exact Q98 h hs hK (Q2n (by omega) _ (by omega))
theorem Xf1{K:Nat}{l:List Zd}{s:Zd}(h:Zhh K l)(hs:Xq K s)(hK:K<=500000):Zio l s=some (Zxw l s,()):=by
 have c:=h.len;unfold Zxw;by_cases a:0<=Yq l s.1
 ·have d:=(Qnf (l:=l) (by omega) s.1).1;rw[if_pos a];unfold Zio;have b:W3 l=some (l,()):=by
   unfold W3;exact Zsd h (by omega) _ 0 (by unfold Jf;omega) (by omega)
  rw[b,Obs,Qes (by omega),Qex (by omega),Obs,Zn (Zk (by omega)),Z3g hs (by omega),Obs,Zb ⟨a,by simp only;omega⟩]
 ·rw[if_neg a];exact Q97 h hs hK (Q2n (by omega) _ (by omega))
theorem Q6y(s:Zd): ∀l:List Zd,(Z7e s l).length=l.length+1:=fun l=>by
 rw[Qoc];cases h:gtS s l with
 |none=>simp
 |some p=>have:=Q0b h;simp;omega
theorem Qq3{s x:Zd}: ∀{l:List Zd},x∈Z7e s l↔x=s\/x∈l:=fun {l}=>by
 rw[Qoc];cases h:gtS s l with
 |none=>simp[or_comm]
 |some p=>
  have e:x∈l↔x∈l.take p\/x∈l.drop p:=by rw[<-List.mem_append,List.take_append_drop]
  simp only[List.mem_append,List.mem_singleton,e];constructor
  ·rintro((h|h)|h)
   ·exact .inr (.inl h)
   ·exact .inl h
   ·exact .inr (.inr h)
  ·rintro(h|h|h)
   ·exact .inl (.inr h)
   ·exact .inl (.inl h)
   ·exact .inr h
theorem Zy2(l:List Zd)(s:Zd): (Zxw l s).length<=l.length+1:=by
 unfold Zxw;split
 ·rw[List.length_set];omega
 ·rw[Q6y];omega
theorem Qyy{l:List Zd}{s x:Zd}(h:x∈Zxw l s):x=s\/x∈l:=by
 unfold Zxw at h;split at h
 ·exact(List.mem_or_eq_of_mem_set h).symm
 ·exact Qq3.1 h
theorem Q99{l:List Zd}(hl:l.length<=1000000)(s:Zd):s∈Zxw l s:=by
 unfold Zxw;split
 ·rename_i h;have:=(Qnf hl s.1).1;exact List.mem_set (by omega) _
 ·exact Qq3.2 (.inl rfl)
theorem Qrx{K:Nat}{l:List Zd}{s:Zd}(h:Zhh K l)(hs:Xq K s)(hl:l.length+1<=K):Zhh K (Zxw l s):=⟨by have:=Zy2 l s;omega,fun x hx=>by
 rcases Qyy hx with e|e
 ·rw[e];exact hs
 ·exact h.all x e⟩
noncomputable def nsV(v:Bool)(id:Int)(o p:Zgp):Zd:=match Je v id o p with|some (s,_)=>s|none=>Zj
theorem Q93(v:Bool)(id:Int)(o p:Zgp): ∃b,Je v id o p=some (nsV v id o p,b,())/\Xq 0 (nsV v id o p):=by
 obtain⟨⟨s,b,u⟩,e,h⟩:=Qay v id o p;have:nsV v id o p=s:=by unfold nsV;rw[e]
 exact⟨b,by rw[e,this],by rw[this];exact h⟩
abbrev Qn1(c:Zf)(l:List Zd):Zf:=(c.1,(c.2.1,(c.2.2.1,(l,c.2.2.2.2))))
noncomputable def mkL(v:Bool)(o p:Zgp)(id:Int):Nat->List Zd->List Zd|0,l=>l|m+1,l=>mkL v o p id m (Zxw l (nsV v (IntKind.i64.wrap (id-IntKind.i64.wrap (4* (m:Int)))) o p))
theorem Q25(v:Bool)(o p:Zgp)(id:Int): ∀(m:Nat) (l:List Zd),(mkL v o p id m l).length<=l.length+m
 |0,_=>Nat.le_refl _
 |m+1,l=>by
  have:=Q25 v o p id m (Zxw l (nsV v (IntKind.i64.wrap (id-IntKind.i64.wrap (4* (m:Int)))) o p));have:=Zy2 l (nsV v (IntKind.i64.wrap (id-IntKind.i64.wrap (4* (m:Int)))) o p);unfold mkL;omega
theorem Q24(id:Int){K:Nat}(h25:25<=K)(hK:K<=400000): ∀(N m:Nat) (c:Zf),m<N->c.2.2.2.1.length+m<=24->Zhh K c.2.2.2.1->Ki N c id ((m:Int)-1)=some ((),(Qn1 c (mkL c.1 c.2.1 c.2.2.1 id m c.2.2.2.1),()))
 |0,m,_,h,_,_=>by omega
 |N+1,0,c,_,_,_=>by
  unfold Ki;rw[Zm (Zl (by omega))];rfl
 |N+1,m+1,c,d,f,h=>by
  unfold Ki;simp only[Kj];rw[Zn (Zk (by omega)),show((m+1:Nat):Int)-1=(m:Int) by omega];obtain⟨b,e,a⟩:=Q93 c.1 (IntKind.i64.wrap (id-IntKind.i64.wrap (4* (m:Int)))) c.2.1 c.2.2.1;have g:=Zy2 c.2.2.2.1 (nsV c.1 (IntKind.i64.wrap (id-IntKind.i64.wrap (4* (m:Int)))) c.2.1 c.2.2.1);rw[e,Obs];unfold Zgm;rw[Qw0 h (a.mono (Nat.zero_le _)) (by omega),Obs];simp only;rw[Zr (n:=(m:Int)-1) (by omega) (by omega),Q24 id h25 hK N m _ (by omega) (by simp only;omega) (Qrx h (a.mono (Nat.zero_le _)) (by omega))];rfl
theorem Q23(id:Int){K:Nat}(h25:25<=K)(hK:K<=400000): ∀(N m:Nat) (c:Zf),m<N->c.2.2.2.1.length+m<=24->Zhh K c.2.2.2.1->Za2 N c id ((m:Int)-1)=some (((0:Int),()),(Qn1 c (mkL c.1 c.2.1 c.2.2.1 id m c.2.2.2.1),()))
 |0,m,_,h,_,_=>by omega
 |N+1,0,c,_,d,_=>by
  unfold Za2;rw[Zm (Zl (by omega)),Zm (Zl (by omega))];rfl
 |N+1,m+1,c,f,d,h=>by
  unfold Za2;simp only[Kj];rw[Zn (Zk (by omega)),show((m+1:Nat):Int)-1=(m:Int) by omega];obtain⟨b,e,a⟩:=Q93 c.1 (IntKind.i64.wrap (id-IntKind.i64.wrap (4* (m:Int)))) c.2.1 c.2.2.1;have g:=Zy2 c.2.2.2.1 (nsV c.1 (IntKind.i64.wrap (id-IntKind.i64.wrap (4* (m:Int)))) c.2.1 c.2.2.1);rw[Q0v,e,Obs];unfold Zny;rw[Xf1 h (a.mono (Nat.zero_le _)) (by omega),Obs];simp only;rw[Zr (n:=(m:Int)-1) (by omega) (by omega),Q23 id h25 hK N m _ (by omega) (by simp only;omega) (Qrx h (a.mono (Nat.zero_le _)) (by omega))];rfl
noncomputable def Qjz(v:Bool)(n:Int):Bool:=Q5b (Zdk v n)
theorem Q7q(v:Bool)(n:Int):Zdk v n=some (Qjz v n,()):=Q8h (Xcw v n)
noncomputable def Zzt(n:Int):Bool:=Q5b (Vq n)
theorem Q5a(n:Int):Vq n=some (Zzt n,()):=Q8h (Xas n)
noncomputable def Ji(c:Zf)(id:Int):Q8:=bif Zzt id then c.2.2.2.2.2.2.2.2.2.1 else c.2.2.2.2.2.2.2.2.1
noncomputable def Qtu(c:Zf)(id:Int)(a:Q8):Zf:=bif Zzt id then(c.1,(c.2.1,(c.2.2.1,(c.2.2.2.1,(c.2.2.2.2.1,(c.2.2.2.2.2.1,(c.2.2.2.2.2.2.1,(c.2.2.2.2.2.2.2.1,(c.2.2.2.2.2.2.2.2.1,(a,c.2.2.2.2.2.2.2.2.2.2))))))))))else(c.1,(c.2.1,(c.2.2.1,(c.2.2.2.1,(c.2.2.2.2.1,(c.2.2.2.2.2.1,(c.2.2.2.2.2.2.1,(c.2.2.2.2.2.2.2.1,(a,c.2.2.2.2.2.2.2.2.2)))))))))
noncomputable def Zv8(c:Zf)(id:Int):Bool:=(Zv4 (Ji c id) (idV id)&& !(siN (Ji c id) (idV id)==0))&&decide ((c.2.2.2.1.length:Int)+siN (Ji c id) (idV id)<=24)
noncomputable def Qv1(c:Zf)(id:Int):Zf:=Qn1 (Qtu c id (siV (Ji c id) (idV id))) (mkL c.1 c.2.1 c.2.2.1 id (siN (Ji c id) (idV id)).toNat c.2.2.2.1)
noncomputable def Zdw(c:Zf)(id:Int):Int×Zf:=bif decide (0<=Yq c.2.2.2.1 id)then(0,c)else bif Qjz c.1 id then(5,c)else bif Zv8 c id then(0,Qv1 c id)else(4,c)
theorem Q1g(a:Q8)(n:Int):0<=siN a n:=by unfold siN;omega
theorem Qqp{c:Zf}{id:Int}(h:Zv8 c id=true):c.2.2.2.1.length+ (siN (Ji c id) (idV id)).toNat<=24/\1<=siN (Ji c id) (idV id):=by
 unfold Zv8 at h;simp only[Oba,decide_eq_true_eq,Bool.not_eq_true',beq_eq_false_iff_ne]at h;have:=Q1g (Ji c id) (idV id);omega
theorem Qeq{K:Nat}{c:Zf}(h:Qd K c)(hc:Ztm c=true)(h25:25<=K)(hK:K<=400000){id:Int}(hq:V6 id=true):Yy c id=some ((Zdw c id).2,(Zdw c id).1,()):=by
 have e:=(Q80 h (by omega)).1 hc;have f:=(Q46.1 e.sts).len;have a: ∀(t x:Zf) (n:Int),0<=n->x.2.2.2.1=c.2.2.2.1->c.2.2.2.1.length+n.toNat<=24->Yz id t x n=some (Qn1 x (mkL x.1 x.2.1 x.2.2.1 id n.toNat x.2.2.2.1),(0:Int),()):=fun t x n o hx i=>by
  unfold Yz Znn;rw[Zr (by omega) (by omega),show n-1=((n.toNat:Nat):Int)-1 by omega,Q24 id h25 hK _ n.toNat x (by unfold Zha;omega) (by rw[hx];exact i) (by rw[hx];exact h.str)];rfl
 have j: ∀t,Xg id c t c (Ji c id)=some (bif Zv8 c id then(Qv1 c id,(0:Int),())else(c,(4:Int),())):=fun t=>by
  unfold Xg;simp only[Kj,Zhj];rw[Xcj,Obs,Q40,Obs];unfold Kw;simp only;have b:=Q1g (Ji c id) (idV id);cases hs:Zv4 (Ji c id) (idV id)
  ·have:Zv8 c id=false:=by unfold Zv8;rw[hs];rfl
   rw[this];rfl
  ·simp only[Oct,Ont,Bool.false_or];have p:siN (Ji c id) (idV id)<=1152921504606846976:=by
    unfold Zv4 at hs;simp only[Oba,decide_eq_true_eq]at hs;have g:=Qot.1 hs.1;have:=g.lim;have:=g.seen;unfold siN;omega
   have k:IntKind.i64.wrap ((c.2.2.2.1.length:Int)+siN (Ji c id) (idV id))=(c.2.2.2.1.length:Int)+siN (Ji c id) (idV id):=Zr (by omega) (by omega);simp only[k];have l: ((siN (Ji c id) (idV id)==0)||decide ((c.2.2.2.1.length:Int)+siN (Ji c id) (idV id)>24))= !Zv8 c id:=by
    unfold Zv8;rw[hs,show decide ((c.2.2.2.1.length:Int)+siN (Ji c id) (idV id)>24)= !decide ((c.2.2.2.1.length:Int)+siN (Ji c id) (idV id)<=24) by rw[<-decide_not];exact decide_eq_decide.2 (by omega)];cases siN (Ji c id) (idV id)==0<;>cases decide ((c.2.2.2.1.length:Int)+siN (Ji c id) (idV id)<=24)<;>rfl
   rw[l];cases hG:Zv8 c id
   ·rfl
   ·have d:=Qqp hG;rw[Ont,Ocf,Q5a,Obs,Oct];unfold Qv1 Qtu;cases Zzt id
    ·exact a Vg _ _ b rfl d.1
    ·exact a Vg _ _ b rfl d.1
 unfold Yy Zdw;rw[J2 h (by omega),Obs,Qho h (by omega),hc,Obs,K5,hq];simp only[Ont,Ocf,Bool.or_self,Obs];rw[Qex (by have:=h.str.len;omega),Obs];simp only[ge_iff_le];cases decide (0<=Yq c.2.2.2.1 id)
 ·rw[Ocf,Ocf,Q7q,Obs];simp only;cases Qjz c.1 id
  ·have m: (bif Zzt id then Xg id c Vg c c.2.2.2.2.2.2.2.2.2.1 else Xg id c Vg c c.2.2.2.2.2.2.2.2.1)=Xg id c Vg c (Ji c id):=by unfold Ji;cases Zzt id<;>rfl
   rw[Ocf,Ocf,Q5a,Obs];simp only;rw[m,j];cases Zv8 c id<;>rfl
  ·rfl
 ·rfl
theorem Qn9{K:Nat}{c:Zf}(h:Qd K c)(hc:Ztm c=true)(h25:25<=K)(hK:K<=400000)(id:Int):W2 c id=some (((Zdw c id).1,()),((Zdw c id).2,())):=by
 have i:=(Q80 h (by omega)).1 hc;have j:=(Q46.1 i.sts).len;have b: ∀(x:Zf) (n:Int),0<=n->x.2.2.2.1=c.2.2.2.1->c.2.2.2.1.length+n.toNat<=24->Zdy x id n=some (((0:Int),()),(Qn1 x (mkL x.1 x.2.1 x.2.2.1 id n.toNat x.2.2.2.1),())):=fun x n o hx k=>by
  unfold Zdy;rw[Zr (by omega) (by omega),show n-1=((n.toNat:Nat):Int)-1 by omega,Q23 id h25 hK _ n.toNat x (by unfold Zhl;omega) (by rw[hx];exact k) (by rw[hx];exact h.str)]
 have d: ∀n,Z3 c n=some (Zzt n,(c,())):=fun n=>by
  unfold Z3;rw[Xfg,Q5a,Obs];cases Zzt n<;>rfl
 have e:Kd c id (bif Zv4 (Ji c id) (idV id)then siV (Ji c id) (idV id)else Ji c id) (bif Zv4 (Ji c id) (idV id)then siN (Ji c id) (idV id)else 0) (Zv4 (Ji c id) (idV id))=some (bif Zv8 c id then(((0:Int),()),(Qv1 c id,()))else(((4:Int),()),(c,()))):=by
  unfold Kd;have f:=Q1g (Ji c id) (idV id);cases hs:Zv4 (Ji c id) (idV id)
  ·have:Zv8 c id=false:=by unfold Zv8;rw[hs];rfl
   rw[this];rfl
  ·simp only[Oct,Ont,Bool.false_or];have l:IntKind.i64.wrap (24- (c.2.2.2.1.length:Int))=24- (c.2.2.2.1.length:Int):=Zr (by omega) (by omega);simp only[l];have m: ((siN (Ji c id) (idV id)==0)||decide (siN (Ji c id) (idV id)>24- (c.2.2.2.1.length:Int)))= !Zv8 c id:=by
    unfold Zv8;rw[hs,show decide (siN (Ji c id) (idV id)>24- (c.2.2.2.1.length:Int))= !decide ((c.2.2.2.1.length:Int)+siN (Ji c id) (idV id)<=24) by rw[<-decide_not];exact decide_eq_decide.2 (by omega)];cases siN (Ji c id) (idV id)==0<;>cases decide ((c.2.2.2.1.length:Int)+siN (Ji c id) (idV id)<=24)<;>rfl
   rw[m];cases hG:Zv8 c id
   ·rfl
   ·have g:=Qqp hG;rw[Ont,Ocf,d,Obs,Oct];unfold Qv1 Qtu;cases Zzt id
    ·exact b _ _ f rfl g.1
    ·exact b _ _ f rfl g.1
 have p:=h.str.len;unfold W2 Zdw;simp only[Kj,Zhj];rw[Qes (by omega),Qex (by omega),Obs];simp only[ge_iff_le];cases decide (0<=Yq c.2.2.2.1 id)
 ·rw[Ocf,Ocf,Xel,Q7q,Obs];simp only;cases Qjz c.1 id
  ·rw[Ocf,Ocf,d,Obs,Xci];have a:Ji c id=(bif Zzt id then c.2.2.2.2.2.2.2.2.2.1 else c.2.2.2.2.2.2.2.2.1):=rfl;cases hu:Zzt id
   ·rw[hu,Ocf]at a;simp only[Ocf,Obs];rw[Qu4,Obs];simp only;rw[<-a,e];cases Zv8 c id<;>rfl
   ·rw[hu,Oct]at a;simp only[Oct,Obs];rw[Qu4,Obs];simp only;rw[<-a,e];cases Zv8 c id<;>rfl
  ·rfl
 ·rfl
theorem Qt2: ∀{l:List Z1} {e:Int},Qhk e l->l≠[]->(∀c∈l,Yi c<=Yi (l.getD (l.length-1) Qf))/\e<Yi (l.getD (l.length-1) Qf)
 | [],_,_,h=>absurd rfl h
 | [c],e,h,_=>by
  have:=Zqe h.2.1;have:=h.1;refine⟨fun x hx=> ?_,?_⟩
  ·rw[List.mem_singleton.1 hx];exact Int.le_refl _
  ·show e<Yi c;omega
 |c::d::l,e,h,_=>by
  obtain⟨a,f⟩:=Qt2 (l:=d::l) h.2.2 (by simp);have b: (c::d::l).getD ((c::d::l).length-1) Qf=(d::l).getD ((d::l).length-1) Qf:=rfl;rw[b];have:=Zqe h.2.1;have:=h.1;refine⟨fun x hx=> ?_,by omega⟩;rcases List.mem_cons.1 hx with rfl|hx
  ·omega
  ·exact a x hx
theorem Xbs{b:Zs}(ht:Zf4 b.2.1<=1000000)(hb:Znw b=true): (0<=b.1/\b.1<=4611686018427387903)/\Qhk (b.1-1) b.2.1/\ ∀c∈b.2.1,0<=c.1/\Yi c<=4611686018427387903:=by
 obtain⟨a,d,-⟩:=Zrx ht hb;unfold Znw at hb;simp only[Oba]at hb;rw[Zr (by omega) (by omega)]at hb;obtain⟨e,f⟩:=Qdb hb.1 (by omega) fun c g=>by have:=Zxf g;omega
 exact⟨⟨a,d⟩,e,f⟩
theorem Xfs{K:Nat}{b:Zs}(h:Ze1 K b)(hK:K<=1000000)(hb:Znw b=true): ∃v,Zmo b=some (v,())/\ ∀H:Int,v<=H↔b.1<=H/\ ∀c∈b.2.1,Yi c<=H:=by
 have n:=h.len;have o:=h.tot;obtain⟨p,j,k⟩:=Xbs (by omega) hb;unfold Zmo;by_cases a:b.2.1=[]
 ·rw[a];exact⟨b.1,rfl,fun H=>⟨fun h=>⟨h,fun c e=>by cases e⟩,fun h=>h.1⟩⟩
 ·have q:0<b.2.1.length:=List.length_pos_iff.2 a;have l: ((b.2.1.length:Int)==0)=false:=by simp;exact a
  obtain⟨m,r⟩:=Qt2 j a;have g:=Qh (d:=Qf) (show b.2.1.length-1<b.2.1.length by omega);have i:=k _ g;simp only[l,Ocf];rw[Ze9 _ (by omega),hb,Obs];simp only[Ont,Bool.or_self,Ocf];rw[Zr (by omega) (by omega),Zb (by omega),show((b.2.1.length:Int)-1).toNat=b.2.1.length-1 by omega,Zr (by unfold Yi at i;omega) (by unfold Yi at i;omega)];refine⟨_,rfl,fun H=> ?_⟩;change Yi _<=H↔_;constructor
  ·intro f;exact⟨by omega,fun c e=>Int.le_trans (m c e) f⟩
  ·intro f;exact f.2 _ g
theorem Q4w{K:Nat}{b:Zs}(h:Ze1 K b)(hK:K<=1000000)(hb:Znw b=true):0<=Zcx b/\b.1+Zcx b<=4611686018427387903/\(Zcx b=0\/ ∃c∈b.2.1,b.1+Zcx b=Yi c):=by
 obtain⟨i,j,e⟩:=Xbs (by have:=h.tot;omega) hb;unfold Zcx;split
 ·rename_i f;have g:0<b.2.1.length:=List.length_pos_iff.2 f.2.1;have a:=Qh (d:=Qf) g;have:=e _ a;unfold Yi at this;refine⟨by omega,by omega,.inr ⟨_,a,?_⟩⟩;unfold Yi;omega
 ·exact⟨by omega,by omega,.inl rfl⟩
structure Xfl(r:Zu):Prop where
 buf:Znw r.2.1=true
 hq:0<=r.2.2.2.1/\r.2.2.2.1<=4611686018427387903
 e0:r.2.1.1<=r.2.2.2.1
 ec: ∀c∈r.2.1.2.1,Yi c<=r.2.2.2.1
 code:0<=r.2.2.2.2.1/\r.2.2.2.2.1<=4611686018427387903
 fin:r.2.2.1= -1\/(r.2.2.2.1<=r.2.2.1/\r.2.2.1<=4611686018427387903)
 st: (r.1=0/\r.2.2.1= -1/\r.2.2.2.2.1=0)\/(r.1=1/\r.2.2.1≠ -1/\r.2.1.1+Zcx r.2.1≠r.2.2.1/\r.2.2.2.2.1=0)\/(r.1=2/\r.2.2.1≠ -1/\r.2.1.1+Zcx r.2.1=r.2.2.1/\r.2.2.2.2.1=0)\/(r.1=3/\r.2.2.1≠ -1/\r.2.1.1+Zcx r.2.1=r.2.2.1/\r.2.1.2.1=[]/\r.2.2.2.2.1=0)\/((r.1=4\/r.1=5)/\r.2.2.1≠ -1/\r.2.2.2.1=r.2.2.1/\r.2.1.2.1=[])
def rcS(r:Zu):Bool:=bif r.1==(0:Int)then(r.2.2.1==(-1:Int))&& (r.2.2.2.2.1==(0:Int))else bif r.1==(1:Int)then((r.2.2.1 !=(-1:Int))&& (!((r.2.2.1 !=(-1:Int))&& ((r.2.1.1+Zcx r.2.1)==r.2.2.1))))&& (r.2.2.2.2.1==(0:Int))else bif r.1==(2:Int)then((r.2.2.1 !=(-1:Int))&& ((r.2.1.1+Zcx r.2.1)==r.2.2.1))&& (r.2.2.2.2.1==(0:Int))else bif r.1==(3:Int)then(((r.2.2.1 !=(-1:Int))&& ((r.2.1.1+Zcx r.2.1)==r.2.2.1))&& ((r.2.1.2.1.length:Int)==(0:Int)))&& (r.2.2.2.2.1==(0:Int))else bif(r.1==(4:Int))|| (r.1==(5:Int))then((r.2.2.1 !=(-1:Int))&& (r.2.2.2.1==r.2.2.1))&& ((r.2.1.2.1.length:Int)==(0:Int))else false
def rcP(r:Zu)(v:Int):Bool:=((V6 r.2.2.2.1&& !decide (v>r.2.2.2.1))&&V6 r.2.2.2.2.1)&& !((((r.2.2.1 !=(-1:Int))&& (decide (r.2.2.1<r.2.2.2.1)))|| (decide (r.2.2.1>(4611686018427387903:Int))))|| (decide (r.2.2.1< (-1:Int))))
theorem rcE{K:Nat}{r:Zu}(h:Ze1 K r.2.1)(hK:K<=1000000)(hb:Znw r.2.1=true): ∃v,(∀H:Int,v<=H↔r.2.1.1<=H/\ ∀c∈r.2.1.2.1,Yi c<=H)/\Qb4 r=(rcP r v&&rcS r):=by
 obtain⟨v,k,hv⟩:=Xfs h hK hb;refine⟨v,hv,?_⟩;have l:=h.len;have e:=Qy0 h hK;unfold Xc Yh at e;rw[Ze9 _ (by omega),hb,Obs,Zpr _ (by omega)]at e;obtain⟨m,n,-⟩:=Q4w h hK hb;obtain⟨o,-,-⟩:=Xbs (by have:=h.tot;omega) hb;have i:IntKind.i64.wrap (r.2.1.1+Zcx r.2.1)=r.2.1.1+Zcx r.2.1:=Zr (by omega) (by omega);simp only[K5,Ont,Bool.false_or,Ocf,Obs]at e;have f:=e.symm;have g: ∀{a b:Bool},some (a,())=some (b,())->a=b:=fun h=>by simpa using h
 unfold rcP rcS;cases h1:V6 r.2.2.2.1
 ·rw[h1]at f;exact g f
 rw[h1,k]at f;simp only[Ont,Bool.false_or,Ocf,Obs]at f;cases h2:decide (v>r.2.2.2.1)
 ·rw[h2]at f;simp only[Bool.false_or,Ocf,Obs]at f;cases h3:V6 r.2.2.2.2.1
  ·rw[h3]at f;exact g f
  rw[h3]at f;simp only[Ont,Bool.false_or]at f;cases h4: (((r.2.2.1 !=(-1:Int))&& (decide (r.2.2.1<r.2.2.2.1)))|| (decide (r.2.2.1>(4611686018427387903:Int))))|| (decide (r.2.2.1< (-1:Int)))
  ·rw[h4]at f;simp only[Ocf,Bool.not_false,Bool.and_self,Ota]at f⊢;have j: ∀{β:Type} (k:Int×Unit->Option β),(∀x y,r.2.2.1= -1->k x=k y)->Option.bind (bif r.2.2.1 !=(-1:Int)then some (Zcx r.2.1,())else some ((0:Int),())) k=k (Zcx r.2.1,()):=fun k hk=>by
    cases hn:r.2.2.1 !=(-1:Int)
    ·exact hk _ _ (by simpa using hn)
    ·rfl
   rw[j _ fun x y d=>by rw[d];rfl]at f;simp only[i]at f;revert f;cases r.1==(0:Int)<;>cases r.1==(1:Int)<;>cases r.1==(2:Int)<;>cases r.1==(3:Int)<;>cases r.1==(4:Int)<;>cases r.1==(5:Int)<;>exact fun f=>g f
  ·rw[h4]at f;exact g f
 ·rw[h2]at f;exact g f
theorem Q7u{K:Nat}{r:Zu}(h:Ze1 K r.2.1)(hK:K<=1000000):Qb4 r=true↔Xfl r:=by
 cases hb:Znw r.2.1
 ·have e:=Qy0 h hK;unfold Xc at e;rw[Ze9 _ (by have:=h.len;omega),hb]at e;have m:Qb4 r=false:=by simpa using e.symm
  rw[m];exact⟨fun h=>Bool.noConfusion h,fun h=>by have:=h.buf;rw[hb]at this;cases this⟩
 ·obtain⟨v,hv,e⟩:=rcE h hK hb;rw[e,Oba];have n:rcP r v=true↔((0<=r.2.2.2.1/\r.2.2.2.1<=4611686018427387903)/\v<=r.2.2.2.1)/\(0<=r.2.2.2.2.1/\r.2.2.2.2.1<=4611686018427387903)/\(r.2.2.1= -1\/(r.2.2.2.1<=r.2.2.1/\r.2.2.1<=4611686018427387903)):=by
   unfold rcP;simp only[Oba,Kx,Bool.not_eq_true',decide_eq_false_iff_not,Bool.or_eq_false_iff,Bool.and_eq_false_iff,bne_eq_false_iff_eq];omega
  have o:rcS r=true↔((r.1=0/\r.2.2.1= -1/\r.2.2.2.2.1=0)\/(r.1=1/\r.2.2.1≠ -1/\r.2.1.1+Zcx r.2.1≠r.2.2.1/\r.2.2.2.2.1=0)\/(r.1=2/\r.2.2.1≠ -1/\r.2.1.1+Zcx r.2.1=r.2.2.1/\r.2.2.2.2.1=0)\/(r.1=3/\r.2.2.1≠ -1/\r.2.1.1+Zcx r.2.1=r.2.2.1/\r.2.1.2.1=[]/\r.2.2.2.2.1=0)\/((r.1=4\/r.1=5)/\r.2.2.1≠ -1/\r.2.2.2.1=r.2.2.1/\r.2.1.2.1=[])):=by
   have f: ((r.2.1.2.1.length:Int)==0)=true↔r.2.1.2.1=[]:=by
    rw[beq_iff_eq,Int.natCast_eq_zero,List.length_eq_zero_iff]
   unfold rcS;by_cases i:r.1=0
   ·rw[show(r.1==(0:Int))=true by simp[i],Oct,Oba,beq_iff_eq,beq_iff_eq];omega
   rw[show(r.1==(0:Int))=false by simp[i],Ocf];by_cases j:r.1=1
   ·rw[show(r.1==(1:Int))=true by simp[j],Oct];simp only[Oba,beq_iff_eq,bne_iff_ne,Bool.not_eq_true',Bool.and_eq_false_iff,bne_eq_false_iff_eq,beq_eq_false_iff_ne];omega
   rw[show(r.1==(1:Int))=false by simp[j],Ocf];by_cases k:r.1=2
   ·rw[show(r.1==(2:Int))=true by simp[k],Oct];simp only[Oba,beq_iff_eq,bne_iff_ne];omega
   rw[show(r.1==(2:Int))=false by simp[k],Ocf];by_cases g:r.1=3
   ·rw[show(r.1==(3:Int))=true by simp[g],Oct,Oba,Oba,f];simp only[Oba,beq_iff_eq,bne_iff_ne];constructor
    ·rintro⟨⟨⟨a,b⟩,c⟩,d⟩;exact .inr (.inr (.inr (.inl ⟨g,a,b,c,d⟩)))
    ·rintro(⟨a,-⟩| ⟨a,-⟩| ⟨a,-⟩| ⟨-,a,b,c,d⟩| ⟨a,-⟩)
     ·omega
     ·omega
     ·omega
     ·exact⟨⟨⟨a,b⟩,c⟩,d⟩
     ·omega
   rw[show(r.1==(3:Int))=false by simp[g],Ocf];by_cases l:r.1=4\/r.1=5
   ·rw[Zn (by simp only[Bool.or_eq_true,beq_iff_eq];exact l),Oba,f];simp only[Oba,beq_iff_eq,bne_iff_ne];constructor
    ·rintro⟨⟨a,b⟩,c⟩;exact .inr (.inr (.inr (.inr ⟨l,a,b,c⟩)))
    ·rintro(⟨a,-⟩| ⟨a,-⟩| ⟨a,-⟩| ⟨a,-⟩| ⟨-,a,b,c⟩)
     ·omega
     ·omega
     ·omega
     ·omega
     ·exact⟨⟨a,b⟩,c⟩
   ·rw[Zm (by simp only[Bool.or_eq_false_iff,beq_eq_false_iff_ne];omega)];constructor
    ·intro h;cases h
    ·rintro(⟨a,-⟩| ⟨a,-⟩| ⟨a,-⟩| ⟨a,-⟩| ⟨a,-⟩)<;>omega
  rw[n,o];constructor
  ·rintro⟨⟨⟨a,b⟩,c,d⟩,s⟩;have:=(hv _).1 b;exact⟨hb,a,this.1,this.2,c,d,s⟩
  ·intro R;exact⟨⟨⟨R.hq,(hv _).2 ⟨R.e0,R.ec⟩⟩,R.code,R.fin⟩,R.st⟩
theorem Zuo{α β:Type}{g:α->β}{s d:α}: ∀{l:List α} {i:Nat},g s=g (l.getD i d)->(l.set i s).map g=l.map g
 | [],_,_=>rfl
 |x::l,0,h=>by
  rw[List.set_cons_zero,List.map_cons,List.map_cons,h];rfl
 |x::l,i+1,h=>by
  rw[List.set_cons_succ,List.map_cons,List.map_cons,Zuo (l:=l) (i:=i) h]
theorem Z5y{f:Zd->Int}{s:Zd}: ∀{l:List Zd} {i:Nat},i<l.length->Z8s f (l.set i s)=Z8s f l+f s-f (l.getD i Zj)
 | [],_,h=>absurd h (by simp)
 |x::l,0,_=>by
  rw[List.set_cons_zero];simp only[Z8s];rw[show(x::l).getD 0 Zj=x from rfl];omega
 |x::l,i+1,h=>by
  rw[List.set_cons_succ];simp only[Z8s];rw[Z5y (l:=l) (i:=i) (by simp at h;omega),show(x::l).getD (i+1) Zj=l.getD i Zj from rfl];omega
theorem Q8r.set{l:List Zd}(h:Q8r l){i:Nat}{s:Zd}(hs:stB s=true)(hi:s.1=(l.getD i Zj).1):Q8r (l.set i s):=by
 refine⟨fun x hx=> ?_,?_,by rw[List.length_set];exact h.len⟩
 ·rcases List.mem_or_eq_of_mem_set hx with h1|h1
  ·exact h.all x h1
  ·rw[h1];exact hs
 ·have e:=Zuo (g:=fun s:Zd=>s.1) (s:=s) (l:=l) (i:=i) hi;have:=List.pairwise_map.2 h.srt;exact List.pairwise_map.1 (by rw[e];exact this)
theorem cfF{c:Zgp}(h:cfB c=true):Vs c.1=some (true,())/\(1<=c.2.1/\c.2.1<=c.2.2.1)/\c.2.2.1<=4096:=by
 have e:=cfE c;rw[h]at e;unfold Vz at e;obtain⟨p,a⟩:=Qyx c.1;simp only[a,inQ,Obs,bA,bA2]at e;simp only[Osi,Opi,and_true,Oba,Zlu]at e;rw[a];obtain⟨⟨⟨⟨⟨⟨⟨d,f⟩,b⟩,-⟩,-⟩,-⟩,-⟩,-⟩:=e;exact⟨by rw[d],⟨b.1,b.2⟩,f.2⟩
theorem Xet{n m:Int}(h:Vs n=some (true,()))(h0:0<=m)(h1:m<=4611686018427387903):Zw8 (n,(m,(m,(List.replicate n.toNat (0:Int),()))))=true/\0<n/\n<=64:=by
 obtain⟨⟨b,u⟩,c,d⟩:=Xem n;have f:=d (by rw[h]at c;cases c;rfl);refine⟨?_,f⟩;have a: (List.replicate n.toNat (0:Int)).length=n.toNat:=List.length_replicate;have e:=(Z4c (n,(m,(m,(List.replicate n.toNat (0:Int),())))) (by simp only[a];omega)).1;have:Zad (n,(m,(m,(List.replicate n.toNat (0:Int),()))))=some (true,()):=by
  unfold Zad;rw[h,Obs];have g: ((((((!true)|| (((List.replicate n.toNat (0:Int)).length:Int) !=n))|| (decide (m< (0:Int))))|| (decide (m<m)))|| (decide ((IntKind.i64.wrap (m-m))>n)))|| (decide (m>(4611686018427387903:Int))))=false:=by
   rw[a,Zr (by omega) (by omega)];simp only[Bool.or_eq_false_iff,decide_eq_false_iff_not,bne_eq_false_iff_eq,Ont,true_and];omega
  simp only;rw[g,Ocf];refine(Q72 _ (by simp only[a];omega) _ 0 (by unfold Vw;simp only;omega) (by omega)).trans ?_;congr 2;simp[Qk4,List.all_replicate]
 rw[this]at e;simpa using e.symm
theorem Q8z(v:Bool){id:Int}(hq:V6 id=true): ∃s1 s2,Yx v id=some (s1,())/\Q4 v id=some (s2,())/\(s1=true\/s2=true):=by
 unfold Yx Q4;simp only[K5,hq,Obs,Oct,Q5a,Q7q];cases Zzt id<;>cases Qjz v id
 ·exact⟨_,_,rfl,rfl,.inl rfl⟩
 ·exact⟨_,_,rfl,rfl,.inl rfl⟩
 ·exact⟨_,_,rfl,rfl,.inr rfl⟩
 ·exact⟨_,_,rfl,rfl,.inl rfl⟩
theorem Xeg(v:Bool){id:Int}{o p:Zgp}(ho:cfB o=true)(hp:cfB p=true)(hq:V6 id=true):StF (nsV v id o p)/\(nsV v id o p).1=id/\Zy9 (nsV v id o p)=0/\Z0b (nsV v id o p)=0:=by
 obtain⟨i,t,u⟩:=cfF ho;obtain⟨w,x,y⟩:=cfF hp;obtain⟨j,z⟩:=Xet i (Int.le_refl 0) (by decide);obtain⟨b,e,k⟩:=Q93 v id o p;have f:=Kx.1 hq;have a:Zc1 o.1=some (((0:Int),((o.1,((0:Int),((0:Int),(List.replicate o.1.toNat (0:Int),())))),(([]:List Zh),(([]:List Zh),(([]:List Zh),((-1:Int),Zpw)))))),true,()):=by
  unfold Zc1 Zrf;rw[i,Obs];simp only[Ont,Ocf];rw[Zb (by unfold Qo;omega)];rfl
 have c:Zc0 p.2.1=some ((p.2.1,((0:Int),((-1:Int),((-1:Int),())))),true,()):=by
  unfold Zc0;rw[K5,Kx.2 (by omega)];rfl
 have d:Zc2 o.2.1 o.2.2.1=some ((o.2.1,(o.2.2.1,(o.2.1,Zpw))),true,()):=by
  unfold Zc2;rw[inQ,inQ,Zlu.2 (by omega),Zlu.2 (by omega)];rfl
 obtain⟨l,m,n,q,r⟩:=Q8z v hq;have g:=e;unfold Je W9 Znk at g;simp only[K5,hq,cfE,ho,hp,Obs,Ont,Ocf,Bool.or_self,a,c,d,n,q,Osi,Opi]at g;have s:nsV v id o p=(id,(((0:Int),((o.1,((0:Int),((0:Int),(List.replicate o.1.toNat (0:Int),())))),(([]:List Zh),(([]:List Zh),(([]:List Zh),((-1:Int),Zpw)))))),((p.2.1,((0:Int),((-1:Int),((-1:Int),())))),(((0:Int),(((0:Int),(([]:List Z1),())),((-1:Int),((0:Int),((0:Int),()))))),((o.2.1,(o.2.2.1,(o.2.1,Zpw))),(((3:Int),(false,())),(l,(m,(false,(false,(false,(false,((0:Int),(false,())))))))))))))):=g.1.symm;rw[s]at k⊢;refine⟨⟨f,?_,⟨by simp only;omega,Int.le_refl _,by simp only;omega,by simp only;omega,by simp only;omega,by simp only;omega,by simp only;omega⟩,?_,⟨by simp only;omega,by simp only;omega,by simp only;omega,?_,?_,?_,?_⟩,⟨by simp only;omega,by simp only;omega⟩,⟨by simp only;omega,by simp only;omega⟩,r,Int.le_refl _,Int.le_refl _,fun h=>(by cases h),fun h=>(by cases h),fun h=>absurd rfl h,.inr ⟨rfl,rfl,rfl⟩,.inr ⟨rfl,rfl,rfl⟩⟩,rfl,rfl,rfl⟩
 ·exact {ring:=j,pr:=rfl,fr:=rfl,ar:=rfl,sent:=⟨Int.le_refl _,Int.le_refl _⟩,code:=⟨Int.le_refl _,by simp only[Zpw];omega⟩,fin:=⟨Int.le_refl _,by simp only[Zpw];omega⟩,rst:=fun h=>by simp at h,no:=fun _=>{whole:=rfl,gap:=rfl,code:=rfl,fl:=rfl,ac:=rfl,fin:=rfl,st:=rfl}}
 ·rfl
 ·simp only[Zpw];omega
 ·simp only[Zpw];omega
 ·simp only[Zpw];omega
 ·simp only[Zpw];omega
theorem Qx8{s:Zd}: ∀{l:List Zd},(l.Pairwise fun a b=>a.1<b.1)->(∀x∈l,x.1≠s.1)->(Z7e s l).Pairwise fun a b=>a.1<b.1
 | [],_,_=>by simp[Z7e]
 |x::r,h,d=>by
  have hx:=d x List.mem_cons_self;obtain⟨e,f⟩:=List.pairwise_cons.1 h;unfold Z7e;by_cases c:x.1>s.1
  ·rw[if_pos c];refine List.pairwise_cons.2 ⟨fun y hy=> ?_,h⟩;rcases List.mem_cons.1 hy with rfl|hy
   ·exact c
   ·have:=e y hy;omega
  ·rw[if_neg c];refine List.pairwise_cons.2 ⟨fun y hy=> ?_,Qx8 f fun y hy=>d y (List.mem_cons_of_mem _ hy)⟩;rcases Qq3.1 hy with rfl|hy
   ·omega
   ·exact e y hy
theorem Qsf{f:Zd->Int}{s:Zd}: ∀{l:List Zd},Z8s f (Z7e s l)=Z8s f l+f s
 | []=>by simp only[Z7e,Z8s];omega
 |x::r=>by
  unfold Z7e;by_cases a:x.1>s.1
  ·rw[if_pos a];simp only[Z8s];omega
  ·rw[if_neg a];simp only[Z8s];rw[Qsf];omega
structure LF(K:Nat)(S H:Int)(l:List Zd):Prop where
 inv:Zhh K l
 all: ∀s∈l,StF s
 srt:l.Pairwise fun a b=>a.1<b.1
 snt:Z8s Zy9 l<=S
 hgh:Z8s Z0b l<=H
theorem StF.nn{K:Nat}{s:Zd}(F:StF s)(h:Xq K s)(hK:K<=1000000): (0<=Zy9 s/\Zy9 s<=4611686018427387903)/\0<=Z0b s/\Z0b s<=4611686018427387903:=by
 have a:=F.snd.sent;have b:=h.snd.eK;have c:=((Q7u h.rcv hK).1 F.rcv).hq;unfold Zy9 Z0b;omega
theorem LF.nn{K:Nat}{S H:Int}{l:List Zd}(L:LF K S H l)(hK:K<=1000000): ∀s∈l,(0<=Zy9 s/\Zy9 s<=4611686018427387903)/\0<=Z0b s/\Z0b s<=4611686018427387903:=fun s a=>(L.all s a).nn (L.inv.all s a) hK
theorem LF.put0{K:Nat}{S H:Int}{l:List Zd}(L:LF K S H l)(hK:K<=1000000){s:Zd}(F:StF s)(h:Xq K s)(h1:Zy9 s=0)(h2:Z0b s=0)(hl:l.length+1<=K):LF K S H (Zxw l s):=by
 have c:=L.nn hK;have a:l.length<=1000000:=by omega
 refine⟨Qrx L.inv h hl,fun x hx=> ?_,?_,?_,?_⟩
 ·rcases Qyy hx with e|e
  ·rw[e];exact F
  ·exact L.all x e
 ·unfold Zxw;split
  ·rename_i b;have e:=Zuo (g:=fun s:Zd=>s.1) (s:=s) (l:=l) (i:=(Yq l s.1).toNat) (d:=Zj) ((Qnf a s.1).2.2 b).symm;exact List.pairwise_map.1 (by rw[e];exact List.pairwise_map.2 L.srt)
  ·rename_i b;exact Qx8 L.srt ((Qnf a s.1).2.1 (by omega))
 ·unfold Zxw;split
  ·rename_i b;have hx:=(Qnf a s.1).1;rw[Z5y (by omega),h1];have:=(c _ (Qh (d:=Zj) (show(Yq l s.1).toNat<l.length by omega))).1.1;have:=L.snt;omega
  ·rw[Qsf,h1];have:=L.snt;omega
 ·unfold Zxw;split
  ·rename_i b;have hx:=(Qnf a s.1).1;rw[Z5y (by omega),h2];have:=(c _ (Qh (d:=Zj) (show(Yq l s.1).toNat<l.length by omega))).2.1;have:=L.hgh;omega
  ·rw[Qsf,h2];have:=L.hgh;omega
theorem Q7j{K:Nat}{S H:Int}(h25:25<=K)(hK:K<=1000000)(v:Bool){o p:Zgp}(ho:cfB o=true)(hp:cfB p=true){id:Int}(hq:V6 id=true): ∀(m:Nat) {l:List Zd},LF K S H l->l.length+m<=24->4* (m:Int)<=id+4->LF K S H (mkL v o p id m l)
 |0,_,L,_,_=>L
 |m+1,l,L,g,h=>by
  have a:=Kx.1 hq;have c:IntKind.i64.wrap (id-IntKind.i64.wrap (4* (m:Int)))=id-4* (m:Int):=by rw[Zr (n:=4* (m:Int)) (by omega) (by omega),Zr (by omega) (by omega)]
  obtain⟨F,i,d,e⟩:=Xeg v ho hp (id:=id-4* (m:Int)) (Kx.2 (by omega));obtain⟨b,-,f⟩:=Q93 v (id-4* (m:Int)) o p;have:=Zy2 l (nsV v (id-4* (m:Int)) o p);unfold mkL;rw[c];exact Q7j h25 hK v ho hp hq m (L.put0 hK F (f.mono (Nat.zero_le K)) d e (by omega)) (by omega) (by omega)
theorem Q7k(v:Bool){o p:Zgp}(ho:cfB o=true)(hp:cfB p=true){id:Int}(hq:V6 id=true): ∀(m:Nat) {l:List Zd},l.length+m<24-> ∃s∈mkL v o p id (m+1) l,s.1=id
 |0,l,a=>by
  have b:=Kx.1 hq;have c:IntKind.i64.wrap (id-IntKind.i64.wrap (4* ((0:Nat):Int)))=id:=by rw[Zr (n:=4* ((0:Nat):Int)) (by omega) (by omega),Zr (by omega) (by omega)];omega
  have e:=(Xeg v ho hp hq).2.1;unfold mkL mkL;rw[c];exact⟨_,Q99 (by omega) _,e⟩
 |m+1,l,a=>by
  have:=Zy2 l (nsV v (IntKind.i64.wrap (id-IntKind.i64.wrap (4* ((m+1:Nat):Int)))) o p);unfold mkL;exact Q7k v ho hp hq m (by omega)
theorem Qvh.LF{K:Nat}{c:Zf}(hc:Qvh c)(h:Qd K c)(hK:K<=1000000):LF K c.2.2.2.2.1.2.1 c.2.2.2.2.2.1.2.2.2.1 c.2.2.2.1:=by
 have b: ∀s∈c.2.2.2.1,StF s:=fun s a=>hc.st h hK a;have d: ∀s∈c.2.2.2.1,(0<=Zy9 s/\Zy9 s<=4611686018427387903)/\0<=Z0b s/\Z0b s<=4611686018427387903:=fun s a=>(b s a).nn (h.str.all s a) hK;have t:=hc.tail;unfold Qve at t;simp only[Oba,decide_eq_true_eq]at t;have e:=(Qgl (f:=Zy9) (n:=0) (fun s a=>(d s a).1) (Int.le_refl _) (by decide)).1;have g:=(Qgl (f:=Z0b) (n:=0) (fun s a=>(d s a).2) (Int.le_refl _) (by decide)).1;have u:=Q31.1 hc.tot;have k:=u.lim;have l:=u.use
 have w:=Qcz.1 hc.inf;have m:=w.lim;have o:=w.seen
 have i:=t.1.2;have j:=t.2
 rw[e]at i;rw[g]at j;exact⟨h.str,b,(Q46.1 hc.sts).srt,by omega,by omega⟩
theorem Q7i{K:Nat}{c c':Zf}(hc:Qvh c)(hK:K<=1000000)(e1:c'.2.1=c.2.1)(e2:c'.2.2.1=c.2.2.1)(L:LF K c'.2.2.2.2.1.2.1 c'.2.2.2.2.2.1.2.2.2.1 c'.2.2.2.1)(hl:c'.2.2.2.1.length<=24)
  (ht:Xbo c'.2.2.2.2.1) (hi:Q8s c'.2.2.2.2.2.1) (hob:Z9l c'.2.2.2.2.2.2.1=true) (hou:Z9l c'.2.2.2.2.2.2.2.1=true) (hab:Q8m c'.2.2.2.2.2.2.2.2.1) (hau:Q8m c'.2.2.2.2.2.2.2.2.2.1)
  (et:c'.2.2.2.2.2.2.2.2.2.2.2.2.2=c.2.2.2.2.2.2.2.2.2.2.2.2.2):Qvh c':=by
 have t:=hc.tail;unfold Qve at t;simp only[Oba,decide_eq_true_eq]at t;have b:=L.nn hK;have d:=(Qgl (f:=Zy9) (n:=0) (fun s a=>(b s a).1) (Int.le_refl _) (by decide)).1;have e:=(Qgl (f:=Z0b) (n:=0) (fun s a=>(b s a).2) (Int.le_refl _) (by decide)).1;refine⟨by rw[e1];exact hc.own,by rw[e2];exact hc.peer,Q46.2 ⟨fun s a=>(Xe7 (L.inv.all s a) hK).2 (L.all s a),L.srt,hl⟩,Q31.2 ht,Qcz.2 hi,hob,hou,Qot.2 hab,Qot.2 hau,by rw[et];exact hc.pks,?_⟩;unfold Qve;rw[et,d,e];simp only[Oba,decide_eq_true_eq];have:=L.snt;have:=L.hgh
 exact⟨⟨t.1.1,by omega⟩,by omega⟩
theorem Zwn{K:Nat}{c:Zf}(h:Qd K c)(hc:Ztm c=true)(h25:25<=K)(hK:K<=400000){id:Int}(hq:V6 id=true):Qd K (Zdw c id).2:=by
 obtain⟨y,e,a⟩:=Zqk h h25 hK id;rw[Qeq h hc h25 hK hq]at e;cases e;exact a
theorem Zwm{K:Nat}{c:Zf}(h:Qd K c)(hc:Ztm c=true)(h25:25<=K)(hK:K<=400000){id:Int}(hq:V6 id=true)(h0: (Zdw c id).1=0):Qvh (Zdw c id).2/\0<=Yq (Zdw c id).2.2.2.2.1 id/\(Zdw c id).2.1=c.1:=by
 have a:=(Q80 h (by omega)).1 hc;have x:=h.str.len;unfold Zdw at h0⊢;by_cases f:0<=Yq c.2.2.2.1 id
 ·rw[Zn (Zk f)];exact⟨a,f,rfl⟩
 rw[Zm (Zl f)]at h0⊢;cases ho:Qjz c.1 id
 ·rw[ho,Ocf]at h0;rw[Ocf];cases hg:Zv8 c id
  ·rw[hg]at h0;cases h0
  rw[Oct];have m:=Qqp hg;have n:=Kx.1 hq;have i:idV id=id/4:=by unfold idV;rw[hq];rfl
  have o:Zv4 (Ji c id) (idV id)=true:=by
   unfold Zv8 at hg;simp only[Oba]at hg;exact hg.1.1
  have b:=o;unfold Zv4 at b;simp only[Oba,decide_eq_true_eq]at b;have d:=Qot.1 b.1;have y:siN (Ji c id) (idV id)=idV id+1- (Ji c id).2.2.1:=by have:=m.2;unfold siN at this⊢;omega
  have j:Q8m (siV (Ji c id) (idV id)):=by
   have p:=d.most;have q:=d.lim;have z:=d.seen;have A:=d.clo;have r:=d.lc
   unfold siV;exact⟨p,q,by simp only;omega,by simp only;omega,r⟩
  have L:=Q7j h25 (by omega) c.1 a.own a.peer hq (siN (Ji c id) (idV id)).toNat (a.LF h (by omega)) (by omega) (by have:=d.seen;omega)
  have k:=Q25 c.1 c.2.1 c.2.2.1 id (siN (Ji c id) (idV id)).toNat c.2.2.2.1;obtain⟨s,e,g⟩:=Q7k c.1 a.own a.peer hq ((siN (Ji c id) (idV id)).toNat-1) (l:=c.2.2.2.1) (by omega);rw[show(siN (Ji c id) (idV id)).toNat-1+1=(siN (Ji c id) (idV id)).toNat by omega]at e;have hx: (Qv1 c id).2.2.2.1=mkL c.1 c.2.1 c.2.2.1 id (siN (Ji c id) (idV id)).toNat c.2.2.2.1:=rfl;refine⟨?_,by rw[hx];exact Q9j (by omega) ⟨s,e,g⟩,by unfold Qv1 Qtu;cases Zzt id<;>rfl⟩;have u:=Q31.1 a.tot;have w:=Qcz.1 a.inf;have t:=Qot.1 a.ab;have v:=Qot.1 a.au;unfold Qv1 Qtu;cases Zzt id
  ·exact Q7i a (by omega) rfl rfl L (by simp only;omega) u w a.ob a.ou j v rfl
  ·exact Q7i a (by omega) rfl rfl L (by simp only;omega) u w a.ob a.ou t j rfl
 ·rw[ho]at h0;cases h0
theorem Qxz{l l':List Zd}(n:Int)(hl:l.length=l'.length)(h: ∀j,(l.getD j Zj).1=(l'.getD j Zj).1): ∀(N:Nat) (i:Int),Xw N l n i=Xw N l' n i
 |0,_=>rfl
 |N+1,i=>by
  unfold Xw;rw[hl,h,Qxz n hl h N]
theorem Qey{l:List Zd}{s:Zd}{i:Nat}(n:Int)(h:s.1=(l.getD i Zj).1):Yq (l.set i s) n=Yq l n:=by
 have e:Xv (l.set i s) n=Xv l n:=by
  unfold Xv Ym;rw[List.length_set];refine Qxz n (List.length_set) (fun j=> ?_) _ _;by_cases a:j=i
  ·subst a;by_cases b:j<l.length
   ·rw[List.getD_eq_getElem?_getD,List.getElem?_set_self b,<-h];rfl
   ·rw[List.set_eq_of_length_le (by omega)]
  ·rw[List.getD_eq_getElem?_getD,List.getElem?_set_ne (fun h=>a h.symm),<-List.getD_eq_getElem?_getD]
 unfold Yq;rw[e]
theorem Z3u{l:List Zd}{s:Zd}{i:Nat}(h:i<l.length): (l.set i s).getD i Zj=s:=by
 rw[List.getD_eq_getElem?_getD,List.getElem?_set_self h];rfl
noncomputable abbrev atV(x:Zf)(id:Int):Zd:=x.2.2.2.1.getD (Yq x.2.2.2.1 id).toNat Zj
noncomputable abbrev Zy6(x:Zf)(id:Int)(s:Zd):Zf:=Qn1 x (x.2.2.2.1.set (Yq x.2.2.2.1 id).toNat s)
abbrev Zui(x:Zf)(w:Qw):Zf:=(x.1,(x.2.1,(x.2.2.1,(x.2.2.2.1,(x.2.2.2.2.1,(w,x.2.2.2.2.2.2))))))
abbrev Qsr(s:Zd):Zd:=(s.1,(s.2.1,(s.2.2.1,(s.2.2.2.1,(s.2.2.2.2.1,(s.2.2.2.2.2.1,(s.2.2.2.2.2.2.1,(s.2.2.2.2.2.2.2.1,(s.2.2.2.2.2.2.2.2.1,(s.2.2.2.2.2.2.2.2.2.1,(s.2.2.2.2.2.2.2.2.2.2.1,(s.2.2.2.2.2.2.2.2.2.2.2.1,(s.2.2.2.2.2.2.2.2.2.2.2.2.1,(true,s.2.2.2.2.2.2.2.2.2.2.2.2.2.2))))))))))))))
abbrev Qyb(s:Zd):Bool:=s.2.2.2.2.2.2.2.2.2.2.2.2.2.1
noncomputable def Q0i(s:Zd):Bool:=Q5b (Zmp s)
theorem Xbf{K:Nat}{s:Zd}(h:Xq K s)(hK:K<=1000000):Zmp s=some (Q0i s,()):=Q8h (Q65 h hK)
theorem Xej{K:Nat}{s:Zd}(h:Xq K s)(hK:K<=1000000):Zgs s=some (Q0i s,()):=by
 rw[<-Xbf h hK];unfold Zgs Zmp;rw[Qiw h hK];have e:Zou s=Zk4 s:=by
  unfold Zou Zk4 Ztt Zk3;rw[Ztb h.rcv hK]
 have a:Ztu s=Zo5 s:=rfl;rw[e,a]
noncomputable def ovB(v:Bool)(s:Zd):Bool:= !(Qyb s||Qjz v s.1)&&Q0i s
noncomputable def fin(x:Zf)(id:Int):Zf:=bif ovB x.1 (atV x id)then Qtu (Zy6 x id (Qsr (atV x id))) id (coV (Ji x id))else x
theorem Q3g{K:Nat}{x:Zf}{s:Zd}{id:Int}(h:Qd K x)(hs:Xq K s)(hK:K<=500000)(hid:s.1=id)(hi:0<=Yq x.2.2.2.1 id):Jw x s=some ((),(fin (Zy6 x id s) id,())):=by
 subst hid;have t:=h.str.len;obtain⟨v,-,i⟩:=Qnf (l:=x.2.2.2.1) (by omega) s.1;have j:s.1=(x.2.2.2.1.getD (Yq x.2.2.2.1 s.1).toNat Zj).1:=by rw[i hi]
 have c:Yq (x.2.2.2.1.set (Yq x.2.2.2.1 s.1).toNat s) s.1=Yq x.2.2.2.1 s.1:=Qey s.1 j;have d:atV (Zy6 x s.1 s) s.1=s:=by
  show(x.2.2.2.1.set (Yq x.2.2.2.1 s.1).toNat s).getD (Yq (x.2.2.2.1.set (Yq x.2.2.2.1 s.1).toNat s) s.1).toNat Zj=s;rw[c];exact Z3u (by omega)
 have k:Xq K (Qsr s):=⟨hs.snd,hs.rcv⟩
 have m:Ql x.2.2.2.1 s=some (x.2.2.2.1.set (Yq x.2.2.2.1 s.1).toNat s,()):=by
  rw[Qw0 h.str hs hK];unfold Zxw;rw[if_pos hi]
 have f:Ql x.2.2.2.1 (Qsr s)=some (x.2.2.2.1.set (Yq x.2.2.2.1 s.1).toNat (Qsr s),()):=by
  rw[Qw0 h.str k hK];unfold Zxw;rw[if_pos hi]
 have g: ∀a,∃b,Zcn a=some (coV a,b,()):=fun a=>by
  obtain⟨⟨y,b,u⟩,e,n⟩:=Q50 a;exact⟨b,by rw[e,show y=coV a from n]⟩
 unfold Jw Zkk fin;rw[d,Q7q,Xbf hs (by omega)];simp only[bO,bO2];have e: ((Qyb s|| (!Qyb s&&Qjz x.1 s.1))|| !Q0i s)= !ovB x.1 s:=by
  unfold ovB;cases Qyb s<;>cases Qjz x.1 s.1<;>cases Q0i s<;>rfl
 rw[e];have o: (Zy6 x s.1 s).1=x.1:=rfl;rw[o];cases ovB x.1 s
 ·rw[Bool.not_false,Oct,Ocf,Obs,m];rfl
 ·rw[Ont,Ocf,Oct,Q5a,Obs];obtain⟨w,p⟩:=g x.2.2.2.2.2.2.2.2.2.1;obtain⟨z,q⟩:=g x.2.2.2.2.2.2.2.2.1;rw[p,q];have r:Zy6 (Zy6 x s.1 s) s.1 (Qsr s)=Qn1 x (x.2.2.2.1.set (Yq x.2.2.2.1 s.1).toNat (Qsr s)):=by
   show Qn1 x ((x.2.2.2.1.set (Yq x.2.2.2.1 s.1).toNat s).set (Yq (x.2.2.2.1.set (Yq x.2.2.2.1 s.1).toNat s) s.1).toNat (Qsr s))=_;rw[c,List.set_set]
  rw[r];unfold Qtu Ji;cases Zzt s.1
  ·simp only[Ocf,Obs];rw[show(s.1,(s.2.1,(s.2.2.1,(s.2.2.2.1,(s.2.2.2.2.1,(s.2.2.2.2.2.1,(s.2.2.2.2.2.2.1,(s.2.2.2.2.2.2.2.1,(s.2.2.2.2.2.2.2.2.1,(s.2.2.2.2.2.2.2.2.2.1,(s.2.2.2.2.2.2.2.2.2.2.1,(s.2.2.2.2.2.2.2.2.2.2.2.1,(s.2.2.2.2.2.2.2.2.2.2.2.2.1,(true,s.2.2.2.2.2.2.2.2.2.2.2.2.2.2))))))))))))))=Qsr s from rfl,f];rfl
  ·simp only[Oct,Obs];rw[show(s.1,(s.2.1,(s.2.2.1,(s.2.2.2.1,(s.2.2.2.2.1,(s.2.2.2.2.2.1,(s.2.2.2.2.2.2.1,(s.2.2.2.2.2.2.2.1,(s.2.2.2.2.2.2.2.2.1,(s.2.2.2.2.2.2.2.2.2.1,(s.2.2.2.2.2.2.2.2.2.2.1,(s.2.2.2.2.2.2.2.2.2.2.2.1,(s.2.2.2.2.2.2.2.2.2.2.2.2.1,(true,s.2.2.2.2.2.2.2.2.2.2.2.2.2.2))))))))))))))=Qsr s from rfl,f];rfl
noncomputable def Q1d(x:Zf)(id:Int):Option (Zf×Int×Unit):=Option.bind (Xt x.2.2.2.1 id) fun t14=>Ze (0<=t14.1/\t14.1<x.2.2.2.1.length)<|Option.bind (Ze5 x.1 id) fun t13=>Option.bind (bif t13.1||Qyb (x.2.2.2.1.getD t14.1.toNat Zj)then some (false,())else(Zgs (x.2.2.2.1.getD t14.1.toNat Zj))) fun t24=>bif(t13.1||Qyb (x.2.2.2.1.getD t14.1.toNat Zj))|| (!t24.1)then some (x,(0:Int),()) else Option.bind (Z3 (Qn1 x (x.2.2.2.1.set t14.1.toNat (Qsr (x.2.2.2.1.getD t14.1.toNat Zj)))) id) fun t33=>bif t33.1 then Option.bind (Z3 t33.2.1 id) fun t36=>bif t36.1 then Option.bind (Qm t36.2.1.2.2.2.2.2.2.2.2.2.1) fun t39=>some ((t36.2.1.1,(t36.2.1.2.1,(t36.2.1.2.2.1,(t36.2.1.2.2.2.1,(t36.2.1.2.2.2.2.1,(t36.2.1.2.2.2.2.2.1,(t36.2.1.2.2.2.2.2.2.1,(t36.2.1.2.2.2.2.2.2.2.1,(t36.2.1.2.2.2.2.2.2.2.2.1,(t39.1,t36.2.1.2.2.2.2.2.2.2.2.2.2)))))))))),(0:Int),()) else Option.bind (Qm t36.2.1.2.2.2.2.2.2.2.2.1) fun t39=>some ((t36.2.1.1,(t36.2.1.2.1,(t36.2.1.2.2.1,(t36.2.1.2.2.2.1,(t36.2.1.2.2.2.2.1,(t36.2.1.2.2.2.2.2.1,(t36.2.1.2.2.2.2.2.2.1,(t36.2.1.2.2.2.2.2.2.2.1,(t36.2.1.2.2.2.2.2.2.2.2.1,(t39.1,t36.2.1.2.2.2.2.2.2.2.2.2.2)))))))))),(0:Int),()) else Option.bind (Z3 t33.2.1 id) fun t36=>bif t36.1 then Option.bind (Qm t36.2.1.2.2.2.2.2.2.2.2.2.1) fun t39=>some ((t36.2.1.1,(t36.2.1.2.1,(t36.2.1.2.2.1,(t36.2.1.2.2.2.1,(t36.2.1.2.2.2.2.1,(t36.2.1.2.2.2.2.2.1,(t36.2.1.2.2.2.2.2.2.1,(t36.2.1.2.2.2.2.2.2.2.1,(t39.1,t36.2.1.2.2.2.2.2.2.2.2.2))))))))),(0:Int),()) else Option.bind (Qm t36.2.1.2.2.2.2.2.2.2.2.1) fun t39=>some ((t36.2.1.1,(t36.2.1.2.1,(t36.2.1.2.2.1,(t36.2.1.2.2.2.1,(t36.2.1.2.2.2.2.1,(t36.2.1.2.2.2.2.2.1,(t36.2.1.2.2.2.2.2.2.1,(t36.2.1.2.2.2.2.2.2.2.1,(t39.1,t36.2.1.2.2.2.2.2.2.2.2.2))))))))),(0:Int),())
theorem Xaf{K:Nat}{x:Zf}{id:Int}(h:Zhh K x.2.2.2.1)(hK:K<=500000)(hi:0<=Yq x.2.2.2.1 id):Q1d x id=some (fin x id,(0:Int),()):=by
 have o:=h.len;obtain⟨p,-,g⟩:=Qnf (l:=x.2.2.2.1) (by omega) id;have i:=h.all _ (Qh (d:=Zj) (show(Yq x.2.2.2.1 id).toNat<x.2.2.2.1.length by omega));have c: ∀x n,Z3 x n=some (Zzt n,(x,())):=fun x n=>by
  unfold Z3;rw[Xfg,Q5a,Obs];cases Zzt n<;>rfl
 have f: ∀a,∃b,Qm a=some (coV a,b,()):=fun a=>by
  obtain⟨⟨y,b,u⟩,e,j⟩:=Q50 a;exact⟨b,by rw[Xbw,e,show y=coV a from j]⟩
 unfold Q1d fin;rw[Qes (by omega),Qex (by omega),Obs];simp only;rw[Zb (by omega),Xel,Q7q,Obs,Xej i (by omega)];simp only[bO,bO2];have e: ((Qjz x.1 id||Qyb (atV x id))|| !Q0i (atV x id))= !ovB x.1 (atV x id):=by
  unfold ovB;rw[g hi];cases Qyb (atV x id)<;>cases Qjz x.1 id<;>cases Q0i (atV x id)<;>rfl
 rw[e];cases ovB x.1 (atV x id)
 ·rfl
 ·rw[Ont,Ocf,Oct,c,Obs];obtain⟨q,k⟩:=f x.2.2.2.2.2.2.2.2.2.1;obtain⟨r,m⟩:=f x.2.2.2.2.2.2.2.2.1;unfold Qtu Ji;cases hu:Zzt id
  ·simp only[Ocf];rw[c,hu];simp only[Obs,Ocf];rw[m];rfl
  ·simp only[Oct];rw[c,hu];simp only[Obs,Oct];rw[k];rfl
theorem Qzh(w:Qw):snV w 0=w:=by
 unfold snV;cases Zy8 w 0
 ·rfl
 ·rw[Oct,Int.add_zero]
abbrev lft(w:Qw):Int:=w.2.2.1-w.2.2.2.1
def flB(x:Zf)(s:Zd)(n:Int):Bool:=decide (n<=lft s.2.2.2.2.1)&&decide (n<=lft x.2.2.2.2.2.1)
abbrev Zy7(s:Zd)(w:Qw):Zd:=(s.1,(s.2.1,(s.2.2.1,(s.2.2.2.1,(w,s.2.2.2.2.2)))))
abbrev Zwb(s:Zd)(r:Zu):Zd:=(s.1,(s.2.1,(s.2.2.1,(r,s.2.2.2.2))))
theorem Xcs(r:Zu)(e:Int):0<=nbV r e:=by
 unfold nbV;cases Qb4 r&&V6 e
 ·exact Int.le_refl _
 ·rw[Oct];omega
theorem Xba{K:Nat}{x:Zf}{s:Zd}(hs:Xq K s)(hK:K<=1000000)(w1:Z25 s.2.2.2.2.1=true)(w2:Z25 x.2.2.2.2.2.1=true)(e:Int):Zef x s e=some (bif flB x s (nbV s.2.2.2.1 e)then(((0:Int),()),(Zui x (snV x.2.2.2.2.2.1 (nbV s.2.2.2.1 e)),(Zy7 s (snV s.2.2.2.2.1 (nbV s.2.2.2.1 e)),())))else(((3:Int),()),(x,(s,())))):=by
 have c:=Qcz.1 w1;have d:=Qcz.1 w2;have i:=c.seen;have j:=d.seen
 have k:0<=lft s.2.2.2.2.1:=by unfold lft;omega
 have l:0<=lft x.2.2.2.2.2.1:=by unfold lft;omega
 have a:=Xcs s.2.2.2.1 e;unfold Zef;rw[Q4k hs.rcv hK,Obs];generalize nbV s.2.2.2.1 e=n at a⊢;simp only;by_cases b:n=0
 ·have f:flB x s n=true:=by unfold flB;rw[Zk (by omega),Zk (by omega)];rfl
  subst b;rw[f,Qzh,Qzh];rfl
 ·rw[Zm (by simpa using b),Xew,Xew];have g:Zy8 s.2.2.2.2.1 n=decide (n<=lft s.2.2.2.2.1):=by unfold Zy8;rw[w1,Zk a];rfl
  have h:Zy8 x.2.2.2.2.2.1 n=decide (n<=lft x.2.2.2.2.2.1):=by unfold Zy8;rw[w2,Zk a];rfl
  simp only[Obs];rw[g,h];unfold flB;cases decide (n<=lft s.2.2.2.2.1)<;>cases decide (n<=lft x.2.2.2.2.2.1)<;>rfl
theorem okF{f:Zi}(h:Y7 f=true):V6 f.2.1=true/\(0<=f.2.2.1/\f.2.2.1<=4611686018427387903)/\(f.1=8->f.2.2.1+ (f.2.2.2.1.length:Int)<=4611686018427387903)/\f.2.2.2.1.length<=400:=by
 unfold Y7 fq at h;simp only[Oba,decide_eq_true_eq]at h;obtain⟨⟨⟨⟨⟨⟨⟨-,d⟩,e⟩,-⟩,-⟩,-⟩,b⟩,a⟩:=h;refine⟨Kx.2 (by omega),by omega,fun c=> ?_,b⟩;rw[c]at a;simp only[show((8:Int)==18|| (8:Int)==22)=false from rfl,Ocf,decide_eq_true_eq]at a;omega
theorem Zhh.set{K:Nat}{l:List Zd}(h:Zhh K l){s:Zd}(hs:Xq K s)(i:Nat):Zhh K (l.set i s):=⟨by rw[List.length_set];exact h.len,fun x hx=>by
 rcases List.mem_or_eq_of_mem_set hx with h1|h1
 ·exact h.all x h1
 ·rw[h1];exact hs⟩
noncomputable def pre(c:Zf)(f:Zi)(g can:Bool)(k:Zf->Zf×Int×Unit):Zf×Int×Unit:=bif(Ztm c&&Y7 f)&&g then bif can then bif(Zdw c f.2.1).1==0 then k (Zdw c f.2.1).2 else(c,(Zdw c f.2.1).1,())else(c,5,())else(c,7,())
noncomputable def Qw6(v:Bool)(n:Int):Bool:=Q5b (Yx v n)
theorem Q3i(v:Bool)(n:Int):Yx v n=some (Qw6 v n,()):=Q8h (Q8b v n)
noncomputable def Qb5(v:Bool)(n:Int):Bool:=Q5b (Q4 v n)
theorem Qry(v:Bool)(n:Int):Q4 v n=some (Qb5 v n,()):=Q8h (Q3l v n)
noncomputable def Qtw(m:Option (Zu×Int×Unit)):Zu×Int×Unit:=match m with|some y=>y|none=>(Znu,0,())
noncomputable def Qdg(c:Zf)(f:Zi)(x:Zf):Zf×Int×Unit:=bif flB x (atV x f.2.1) (nbV (atV x f.2.1).2.2.2.1 (IntKind.i64.wrap (f.2.2.1+ (f.2.2.2.1.length:Int))))then bif(Qtw (Yu (atV x f.2.1).2.2.2.1 f.2.2.1 f.2.2.2.1 f.2.2.2.2.1)).2.1==0 then (fin (Zy6 (Zui x (snV x.2.2.2.2.2.1 (nbV (atV x f.2.1).2.2.2.1 (IntKind.i64.wrap (f.2.2.1+ (f.2.2.2.1.length:Int)))))) f.2.1 (Zwb (Zy7 (atV x f.2.1) (snV (atV x f.2.1).2.2.2.2.1 (nbV (atV x f.2.1).2.2.2.1 (IntKind.i64.wrap (f.2.2.1+ (f.2.2.2.1.length:Int)))))) (Qtw (Yu (atV x f.2.1).2.2.2.1 f.2.2.1 f.2.2.2.1 f.2.2.2.2.1)).1)) f.2.1,0,()) else(c,(Qtw (Yu (atV x f.2.1).2.2.2.1 f.2.2.1 f.2.2.2.1 f.2.2.2.2.1)).2.1,()) else(c,3,())
structure EnF(K:Nat)(x:Zf)(id:Int):Prop where
 inv:Qd K x
 con:Qvh x
 idx:0<=Yq x.2.2.2.1 id
theorem EnF.mem{K:Nat}{x:Zf}{id:Int}(h:EnF K x id)(hK:K<=1000000):atV x id∈x.2.2.2.1/\(Yq x.2.2.2.1 id).toNat<x.2.2.2.1.length/\(atV x id).1=id:=by
 have c:=h.inv.str.len;obtain⟨e,-,a⟩:=Qnf (l:=x.2.2.2.1) (by omega) id;have b:=h.idx;exact⟨Qh (d:=Zj) (by omega),by omega,a b⟩
theorem Xd4{K:Nat}{c:Zf}{f:Zi}(h:Qd K c)(hf:FOK f)(h25:25<=K)(hK:K<=390000):Zbc c f=some (pre c f (f.1==8) (Qb5 c.1 f.2.1) (Qdg c f),()):=by
 unfold FOK at hf;unfold Zbc pre;simp only[Qho h (by omega),Zta hf,J2 h (by omega),bO,bO2,Obs,Qry];cases hc:Ztm c
 ·rfl
 cases hk:Y7 f
 ·rfl
 rw[bne];cases hg:f.1==8
 ·rfl
 simp only[Ont,Bool.or_self,Ocf,Bool.and_self,Oct];cases Qb5 c.1 f.2.1
 ·rfl
 simp only[Ont,Ocf,Oct];obtain⟨a,o,p,q⟩:=okF hk;rw[Qeq h hc h25 (by omega) a,Obs,bne];cases h0: (Zdw c f.2.1).1==0
 ·rfl
 have E:EnF K (Zdw c f.2.1).2 f.2.1:=by
  have e:=Zwm h hc h25 (by omega) a (by simpa using h0);exact⟨Zwn h hc h25 (by omega) a,e.1,e.2.1⟩
 simp only[Ont,Ocf,Oct];generalize (Zdw c f.2.1).2=x at E⊢;obtain⟨g,s,i⟩:=E.mem (by omega);have b:=E.inv.str.all _ g;have F:=E.con.st E.inv (by omega) g;rw[Zzq E.inv (by omega),if_pos E.idx,Obs];obtain⟨r,v,e,j⟩:=Z40 b.rcv f.2.2.1 f.2.2.2.1 f.2.2.2.2.1 (by omega);simp only;unfold Qdg;rw[e,Obs,Xba b (by omega) (Qcz.2 F.win) E.con.inf,Obs];cases flB x (atV x f.2.1) (nbV (atV x f.2.1).2.2.2.1 (IntKind.i64.wrap (f.2.2.1+ (f.2.2.2.1.length:Int))))
 ·rfl
 simp only[Oct,show((0:Int) !=0)=false from rfl,Ocf,Qtw];rw[bne];cases v==0
 ·rfl
 simp only[Ont,Ocf,Oct];generalize nbV (atV x f.2.1).2.2.2.1 (IntKind.i64.wrap (f.2.2.1+ (f.2.2.2.1.length:Int)))=n;have k:Xq (K+f.2.2.2.1.length+1) (Zwb (Zy7 (atV x f.2.1) (snV (atV x f.2.1).2.2.2.2.1 n)) r):=⟨b.snd.mono (by omega),j⟩
 have l:=Q3g (x:=Zui x (snV x.2.2.2.2.2.1 n)) (id:=f.2.1) (K:=K+f.2.2.2.1.length+1) ⟨E.inv.str.mono (by omega),E.inv.pk.mono (by omega)⟩ k (by omega) i E.idx;exact Eq.trans (congrArg (fun m:Option (Unit×Zf×Unit)=>Option.bind m fun d=>some ((d.2.1,((0:Int),())),())) l) rfl
theorem Xa4{K:Nat}{c:Zf}{f:Zi}(h:Qd K c)(hf:FOK f)(h25:25<=K)(hK:K<=390000):Zkr c f=some (pre c f (f.1==8) (Qb5 c.1 f.2.1) (Qdg c f)):=by
 unfold FOK at hf;unfold Zkr pre;simp only[Qe6 h (by omega),Qho h (by omega),Zyi hf,Zux h (by omega),bO,bO2,Kj,Obs,Q70,Qry];cases hc:Ztm c
 ·rfl
 cases hk:Y7 f
 ·rfl
 cases hg:f.1==8
 ·rfl
 simp only[Ont,Bool.or_self,Ocf,Bool.and_self,Oct];cases Qb5 c.1 f.2.1
 ·rfl
 simp only[Ont,Ocf,Oct];obtain⟨b,k,l,m⟩:=okF hk;rw[Qn9 h hc h25 (by omega),Obs,bne];cases h0: (Zdw c f.2.1).1==0
 ·rfl
 have E:EnF K (Zdw c f.2.1).2 f.2.1:=by
  have e:=Zwm h hc h25 (by omega) b (by simpa using h0);exact⟨Zwn h hc h25 (by omega) b,e.1,e.2.1⟩
 simp only[Ont,Ocf,Oct];generalize (Zdw c f.2.1).2=x at E⊢;obtain⟨d,g,o⟩:=E.mem (by omega);have a:=E.inv.str.all _ d;have F:=E.con.st E.inv (by omega) d;have p:=E.inv.str.len;have q:=E.idx;rw[Qes (by omega),Qex (by omega),Obs];simp only;rw[Zb (by omega),Qum a.rcv (by omega),Obs,Q2y,Obs,Q2y,Qcz.2 F.win,E.con.inf];obtain⟨r,v,e,i⟩:=Z40 a.rcv f.2.2.1 f.2.2.2.1 f.2.2.2.2.1 (by omega);unfold Qdg flB;simp only[Oct];rw[show decide (nbV (atV x f.2.1).2.2.2.1 (IntKind.i64.wrap (f.2.2.1+ (f.2.2.2.1.length:Int)))>lft (atV x f.2.1).2.2.2.2.1)= !decide (nbV (atV x f.2.1).2.2.2.1 (IntKind.i64.wrap (f.2.2.1+ (f.2.2.2.1.length:Int)))<=lft (atV x f.2.1).2.2.2.2.1) by rw[<-decide_not];exact decide_eq_decide.2 (by omega)];cases decide (nbV (atV x f.2.1).2.2.2.1 (IntKind.i64.wrap (f.2.2.1+ (f.2.2.2.1.length:Int)))<=lft (atV x f.2.1).2.2.2.2.1)
 ·rfl
 simp only[Ont,Ocf,Obs,Bool.false_or,Ota];rw[show decide (nbV (atV x f.2.1).2.2.2.1 (IntKind.i64.wrap (f.2.2.1+ (f.2.2.2.1.length:Int)))>lft x.2.2.2.2.2.1)= !decide (nbV (atV x f.2.1).2.2.2.1 (IntKind.i64.wrap (f.2.2.1+ (f.2.2.2.1.length:Int)))<=lft x.2.2.2.2.2.1) by rw[<-decide_not];exact decide_eq_decide.2 (by omega)];cases decide (nbV (atV x f.2.1).2.2.2.1 (IntKind.i64.wrap (f.2.2.1+ (f.2.2.2.1.length:Int)))<=lft x.2.2.2.2.2.1)
 ·rfl
 simp only[Ont,Ocf,Oct];rw[Q7z a.rcv _ _ _ (by omega) (by omega),e,Obs];simp only[Qtw];rw[bne];cases v==0
 ·rfl
 simp only[Ont,Ocf,Oct];rw[Xae,Xae,Obs,Obs];simp only[Z3u g,List.set_set];generalize s:nbV (atV x f.2.1).2.2.2.1 (IntKind.i64.wrap (f.2.2.1+ (f.2.2.2.1.length:Int)))=n;have j:Xq (K+f.2.2.2.1.length+1) (Zwb (Zy7 (atV x f.2.1) (snV (atV x f.2.1).2.2.2.2.1 n)) r):=⟨a.snd.mono (by omega),i⟩
 refine Eq.trans ?_ (Xaf (K:=K+f.2.2.2.1.length+1) (x:=Zy6 (Zui x (snV x.2.2.2.2.2.1 n)) f.2.1 (Zwb (Zy7 (atV x f.2.1) (snV (atV x f.2.1).2.2.2.2.1 n)) r)) (id:=f.2.1) ?_ (by omega) ?_)
 ·rfl
 ·exact(E.inv.str.mono (by omega)).set j _
 ·show 0<=Yq (x.2.2.2.1.set (Yq x.2.2.2.1 f.2.1).toNat (Zwb (Zy7 (atV x f.2.1) (snV (atV x f.2.1).2.2.2.2.1 n)) r)) f.2.1;rw[show Yq (x.2.2.2.1.set (Yq x.2.2.2.1 f.2.1).toNat (Zwb (Zy7 (atV x f.2.1) (snV (atV x f.2.1).2.2.2.2.1 n)) r)) f.2.1=Yq x.2.2.2.1 f.2.1 from Qey _ rfl];exact E.idx
theorem Q7v(w:Qw):rdV w 0=w:=by
 unfold rdV;cases Z2e w 0
 ·rfl
 ·rw[Oct,Int.add_zero]
theorem Xac(w:Qw)(n:Int):rdV w (max 0 n)=rdV w n:=by
 by_cases h:0<=n
 ·rw[Int.max_eq_right h]
 ·rw[Int.max_eq_left (by omega),Q7v];have:Z2e w n=false:=by unfold Z2e;rw[Zl h,Bool.false_and,Bool.and_false]
  unfold rdV;rw[this];rfl
noncomputable def Z01(x:Zf)(f:Zi):Int:=nbV (atV x f.2.1).2.2.2.1 f.2.2.2.2.2.2.2.1
noncomputable def Qn0(x:Zf)(f:Zi):Zu×Int×Unit:=Qtw (Ju (atV x f.2.1).2.2.2.1 f.2.2.2.2.2.1 f.2.2.2.2.2.2.2.1)
noncomputable def Xeu(x:Zf)(f:Zi):Int:=IntKind.i64.wrap (f.2.2.2.2.2.2.2.1- (snV (atV x f.2.1).2.2.2.2.1 (Z01 x f)).2.2.2.2.1)
noncomputable def Q07(c:Zf)(f:Zi)(x:Zf):Zf×Int×Unit:=bif flB x (atV x f.2.1) (Z01 x f)then bif(Qn0 x f).2.1==0 then bif((Qn0 x f).1.1==4)&& ((atV x f.2.1).2.2.2.1.1 !=4)then (fin (Zy6 (Zui x (rdV (snV x.2.2.2.2.2.1 (Z01 x f)) (Xeu x f))) f.2.1 (Zwb (Zy7 (atV x f.2.1) (rdV (snV (atV x f.2.1).2.2.2.2.1 (Z01 x f)) (Xeu x f))) (Qn0 x f).1)) f.2.1,0,()) else(fin (Zy6 (Zui x (snV x.2.2.2.2.2.1 (Z01 x f))) f.2.1 (Zwb (Zy7 (atV x f.2.1) (snV (atV x f.2.1).2.2.2.2.1 (Z01 x f))) (Qn0 x f).1)) f.2.1,0,()) else(c,(Qn0 x f).2.1,()) else(c,3,())
theorem Xf5{K:Nat}{c:Zf}{f:Zi}(h:Qd K c)(hf:FOK f)(h25:25<=K)(hK:K<=390000):Zab c f=some (pre c f (f.1==4) (Qb5 c.1 f.2.1) (Q07 c f),()):=by
 unfold FOK at hf;unfold Zab Jm pre;simp only[Qho h (by omega),Zta hf,J2 h (by omega),bO,bO2,Obs,Qry];cases hc:Ztm c
 ·rfl
 cases hk:Y7 f
 ·rfl
 rw[bne];cases hg:f.1==4
 ·rfl
 simp only[Ont,Bool.or_self,Ocf,Bool.and_self,Oct];cases Qb5 c.1 f.2.1
 ·rfl
 simp only[Ont,Ocf,Oct];obtain⟨g,p,q,s⟩:=okF hk;rw[Qeq h hc h25 (by omega) g,Obs,bne];cases h0: (Zdw c f.2.1).1==0
 ·rfl
 have E:EnF K (Zdw c f.2.1).2 f.2.1:=by
  have e:=Zwm h hc h25 (by omega) g (by simpa using h0);exact⟨Zwn h hc h25 (by omega) g,e.1,e.2.1⟩
 simp only[Ont,Ocf,Oct];generalize (Zdw c f.2.1).2=x at E⊢;obtain⟨k,t,l⟩:=E.mem (by omega);have i:=E.inv.str.all _ k;have F:=E.con.st E.inv (by omega) k;rw[Zzq E.inv (by omega),if_pos E.idx,Obs];obtain⟨r,v,e,m⟩:=Z0y i.rcv (by omega) f.2.2.2.2.2.1 f.2.2.2.2.2.2.2.1;have n:Qn0 x f=(r,v,()):=by unfold Qn0;rw[e];rfl
 simp only;unfold Q07;rw[e,Obs,Xba i (by omega) (Qcz.2 F.win) E.con.inf,Obs,n];rw[show nbV (atV x f.2.1).2.2.2.1 f.2.2.2.2.2.2.2.1=Z01 x f from rfl];cases flB x (atV x f.2.1) (Z01 x f)
 ·rfl
 simp only[Oct,show((0:Int) !=0)=false from rfl,Ocf];rw[bne];cases v==0
 ·rfl
 simp only[Ont,Ocf,Oct];have a: ∀b d,Option.bind (Jw (Zui x b) (Zwb (Zy7 (atV x f.2.1) d) r)) (fun j=>some ((j.2.1,((0:Int),())),()))=some ((fin (Zy6 (Zui x b) f.2.1 (Zwb (Zy7 (atV x f.2.1) d) r)) f.2.1,(0,())),()):=fun b d=>by
  have o:Xq K (Zwb (Zy7 (atV x f.2.1) d) r):=⟨i.snd,m⟩
  rw[Q3g (x:=Zui x b) (id:=f.2.1) (K:=K) ⟨E.inv.str,E.inv.pk⟩ o (by omega) l E.idx];rfl
 cases ((r.1==4)&& ((atV x f.2.1).2.2.2.1.1 !=4))
 ·exact a _ _
 ·simp only[Oct];unfold Zhb;simp only[Xes,Xac,Obs];exact a _ _
noncomputable def Xev(x:Zf)(f:Zi)(i:Nat)(l:List Zd)(w:Qw)(r:Zu):Option (Zf×Int×Unit):=bif(r.1==(4:Int))&& ((l.getD i Zj).2.2.2.1.1 !=(4:Int))then Option.bind (Ze6 ((l.set i (Zwb (l.getD i Zj) r)).getD i Zj).2.2.2.2.1 (IntKind.i64.wrap (f.2.2.2.2.2.2.2.1- ((l.set i (Zwb (l.getD i Zj) r)).getD i Zj).2.2.2.2.1.2.2.2.2.1))) fun t21=>Option.bind (Ze6 w (IntKind.i64.wrap (f.2.2.2.2.2.2.2.1- ((l.set i (Zwb (l.getD i Zj) r)).getD i Zj).2.2.2.2.1.2.2.2.2.1))) fun t33=>Q1d (Qn1 (Zui x t33.1) ((l.set i (Zwb (l.getD i Zj) r)).set i (Zy7 ((l.set i (Zwb (l.getD i Zj) r)).getD i Zj) t21.1))) f.2.1 else Q1d (Qn1 (Zui x w) (l.set i (Zwb (l.getD i Zj) r))) f.2.1
set_option maxHeartbeats 2000000 in
theorem Xf3{K:Nat}{c:Zf}{f:Zi}(h:Qd K c)(hf:FOK f)(h25:25<=K)(hK:K<=390000):Zm8 c f=some (pre c f (f.1==4) (Qb5 c.1 f.2.1) (Q07 c f)):=by
 unfold FOK at hf;unfold Zm8 pre;simp only[Qe6 h (by omega),Qho h (by omega),Zyi hf,Zux h (by omega),bO,bO2,Kj,Obs,Q70,Qry];cases hc:Ztm c
 ·rfl
 cases hk:Y7 f
 ·rfl
 cases hg:f.1==4
 ·rfl
 simp only[Ont,Bool.or_self,Ocf,Bool.and_self,Oct];cases Qb5 c.1 f.2.1
 ·rfl
 simp only[Ont,Ocf,Oct];obtain⟨i,p,q,s⟩:=okF hk;rw[Qn9 h hc h25 (by omega),Obs,bne];cases h0: (Zdw c f.2.1).1==0
 ·rfl
 have E:EnF K (Zdw c f.2.1).2 f.2.1:=by
  have e:=Zwm h hc h25 (by omega) i (by simpa using h0);exact⟨Zwn h hc h25 (by omega) i,e.1,e.2.1⟩
 simp only[Ont,Ocf,Oct];generalize (Zdw c f.2.1).2=x at E⊢;obtain⟨j,k,t⟩:=E.mem (by omega);have d:=E.inv.str.all _ j;have F:=E.con.st E.inv (by omega) j;have u:=E.inv.str.len;have w:=E.idx;rw[Qes (by omega),Qex (by omega),Obs];simp only;rw[Zb (by omega),Qum d.rcv (by omega),Obs,Q2y,Obs,Q2y,Qcz.2 F.win,E.con.inf];obtain⟨r,v,e,l⟩:=Z0y d.rcv (by omega) f.2.2.2.2.2.1 f.2.2.2.2.2.2.2.1;have m:Qn0 x f=(r,v,()):=by unfold Qn0;rw[e];rfl
 unfold Q07 flB;rw[m];simp only[Oct];rw[show nbV (atV x f.2.1).2.2.2.1 f.2.2.2.2.2.2.2.1=Z01 x f from rfl];rw[show decide (Z01 x f>lft (atV x f.2.1).2.2.2.2.1)= !decide (Z01 x f<=lft (atV x f.2.1).2.2.2.2.1) by rw[<-decide_not];exact decide_eq_decide.2 (by omega)];cases decide (Z01 x f<=lft (atV x f.2.1).2.2.2.2.1)
 ·rfl
 simp only[Ont,Ocf,Obs,Bool.false_or,Ota];rw[show decide (Z01 x f>lft x.2.2.2.2.2.1)= !decide (Z01 x f<=lft x.2.2.2.2.2.1) by rw[<-decide_not];exact decide_eq_decide.2 (by omega)];cases decide (Z01 x f<=lft x.2.2.2.2.2.1)
 ·rfl
 simp only[Ont,Ocf,Oct];rw[Qtt d.rcv _ _ (by omega),e,Obs];simp only;rw[bne];cases v==0
 ·rfl
 simp only[Ont,Ocf,Oct];have b: ∀g a,Q1d (Zy6 (Zui x g) f.2.1 (Zwb (Zy7 (atV x f.2.1) a) r)) f.2.1=some (fin (Zy6 (Zui x g) f.2.1 (Zwb (Zy7 (atV x f.2.1) a) r)) f.2.1,(0:Int),()):=fun g a=>by
  have n:Xq K (Zwb (Zy7 (atV x f.2.1) a) r):=⟨d.snd,l⟩
  refine Xaf (K:=K) (E.inv.str.set n _) (by omega) ?_;show 0<=Yq (x.2.2.2.1.set (Yq x.2.2.2.1 f.2.1).toNat (Zwb (Zy7 (atV x f.2.1) a) r)) f.2.1;rw[show Yq (x.2.2.2.1.set (Yq x.2.2.2.1 f.2.1).toNat (Zwb (Zy7 (atV x f.2.1) a) r)) f.2.1=Yq x.2.2.2.1 f.2.1 from Qey _ rfl];exact E.idx
 rw[Xae,Xae,Obs,Obs];refine Eq.trans (show _=Xev x f (Yq x.2.2.2.1 f.2.1).toNat (x.2.2.2.1.set (Yq x.2.2.2.1 f.2.1).toNat (Zy7 (atV x f.2.1) (snV (atV x f.2.1).2.2.2.2.1 (Z01 x f)))) (snV x.2.2.2.2.2.1 (Z01 x f)) r from rfl) ?_;unfold Xev;have o: (Yq x.2.2.2.1 f.2.1).toNat< (x.2.2.2.1.set (Yq x.2.2.2.1 f.2.1).toNat (Zy7 (atV x f.2.1) (snV (atV x f.2.1).2.2.2.2.1 (Z01 x f)))).length:=by rw[List.length_set];exact k
 rw[Z3u k,Z3u o];simp only[List.set_set];cases ((r.1==4)&& ((atV x f.2.1).2.2.2.1.1 !=4))
 ·exact b _ _
 ·simp only[Oct,Xeq,Obs];exact b _ _
end Go.Proofs.YtgepmefongfeeaaGreat

/- FnHandles: the plain law, part 2. No condition. -/
import Derived.Test.YtmlpcjbkbnkajaaGreatP1
namespace Go.Proofs.YtmlpcjbkbnkajaaGreat
open Go.Am
set_option maxRecDepth 100000
set_option linter.unusedVariables false
def Qig(l:List Int):Bool:=l.all fun n=>decide (n>=0)&&decide (n<=255)
theorem Q4r(r:Yj)(hl:r.2.2.2.1.length<=1048576): ∀(N i:Nat),r.2.2.2.1.length-i<N->i<=r.2.2.2.1.length->Zep N r (i:Int)=some (Qig (r.2.2.2.1.drop i),())
 |0,_,h,_=>by omega
 |N+1,i,hN,hi=>by
  rw[Zep];by_cases hh:i<r.2.2.2.1.length
  ·rw[Zn (Zj (by omega)),Zb (by omega),Zvk,Obs,Zs hh (by omega),Q4r r hl N (i+1) (by omega) (by omega),show(i:Int).toNat=i from rfl,Kb (d:=0) hh];simp only[Qig,List.all_cons];cases decide (r.2.2.2.1.getD i 0>=0)&&decide (r.2.2.2.1.getD i 0<=255)<;>rfl
  ·rw[Zm (Zk (by omega)),List.drop_eq_nil_of_le (by omega)];rfl
theorem Zrg(n a b:Int):Z2 n a b=some (decide (n>=a)&&decide (n<=b),()):=rfl
theorem Qz6(l:List Int)(hl:l.length<=1048576)(u:Unit): ∀(N i:Nat),l.length-i<N->i<=l.length-> ∃k,Q9 N l u (l.length:Int) (i:Int)=some (k,())/\decide (k>=0)= !Qig (l.drop i)
 |0,_,h,_=>by omega
 |N+1,i,hN,hi=>by
  rw[Q9];by_cases hh:i<l.length
  ·have e:Zv8 (l.getD i 0)=some (!(decide (l.getD i 0>=0)&&decide (l.getD i 0<=255)),()):=rfl;rw[Zn (Zj (by omega)),Zb (by omega),show(i:Int).toNat=i from rfl,e,Obs,Zs hh (by omega),Kb (d:=0) hh];obtain⟨k,h1,h2⟩:=Qz6 l hl () N (i+1) (by omega) (by omega);cases hc:decide (l.getD i 0>=0)&&decide (l.getD i 0<=255)
   ·exact⟨_,rfl,by simp only[Qig,List.all_cons,hc];simp⟩
   ·exact⟨k,h1,by rw[h2];simp only[Qig,List.all_cons,hc,Ota]⟩
  ·rw[Zm (Zk (by omega)),List.drop_eq_nil_of_le (by omega)];exact⟨_,rfl,by simp[Qig]⟩
theorem Q6a(r:Yj)(hl:r.2.2.2.1.length<=1048576):Zvj r=Vn r:=by
 unfold Zvj Vn Jl Zas Kw Js;obtain⟨k,h1,h2⟩:=Qz6 r.2.2.2.1 hl () (Xj r.2.2.2.1 () (r.2.2.2.1.length:Int) 0) 0 (by unfold Xj;omega) (by omega);have h3:=Q4r r hl (Vi r 0) 0 (by unfold Vi;omega) (by omega);simp only[Int.natCast_zero,List.drop_zero]at h1 h2 h3;have e:Xd r.2.1=some (decide (r.2.1>=0)&&decide (r.2.1<=4611686018427387903),()):=rfl;simp only[h1,h2,h3,Zrg,e,Obs];have e1:decide (r.1>=1)=decide (r.1>0):=by congr 1
 rw[e1];generalize hA: ((decide (r.1>0)&&decide (r.1<=64))&& (bits .and .i64 r.1 (IntKind.i64.wrap (r.1-1))==0))=A;generalize ((r.2.2.2.1.length:Int) !=r.1)=B;cases A
 ·rfl
 cases B
 ·simp only[Ont,Bool.or_self,Ocf,Obs,Bool.false_or];simp only[Oba,decide_eq_true_eq]at hA;generalize Qig r.2.2.2.1=C;by_cases h0:0<=r.2.1/\r.2.1<=r.2.2.1/\r.2.2.1<=4611686018427387903
  ·obtain⟨a1,a2,a3⟩:=h0;rw[Zv (n:=r.2.2.1-r.2.1) (by omega) (by omega),Zv (n:=r.2.1+r.1) (by omega) (by omega),Zj (p:=r.2.1>=0) (by omega),Zj (p:=r.2.1<=4611686018427387903) (by omega),Zk (p:=r.2.1<0) (by omega),Zk (p:=r.2.2.1<r.2.1) (by omega),Zk (p:=r.2.2.1>4611686018427387903) (by omega),Zj (p:=r.2.2.1>=r.2.1) a2];by_cases h4:r.2.2.1-r.2.1<=r.1
   ·rw[Zk (p:=r.2.2.1-r.2.1>r.1) (by omega),Zj (p:=r.2.2.1<=min (r.2.1+r.1) 4611686018427387903) (by omega)];cases C<;>rfl
   ·rw[Zj (p:=r.2.2.1-r.2.1>r.1) (by omega),Zk (p:=r.2.2.1<=min (r.2.1+r.1) 4611686018427387903) (by omega)];cases C<;>rfl
  ·have hL: ((((decide (r.2.1<0))|| (decide (r.2.2.1<r.2.1)))|| (decide ((IntKind.i64.wrap (r.2.2.1-r.2.1))>r.1)))|| (decide (r.2.2.1>4611686018427387903)))=true:=by
    simp only[Bool.or_eq_true,decide_eq_true_eq];omega
   have hR: ((decide (r.2.1>=0)&&decide (r.2.1<=4611686018427387903))&& (decide (r.2.2.1>=r.2.1)&&decide (r.2.2.1<=min (IntKind.i64.wrap (r.2.1+r.1)) 4611686018427387903)))=false:=by
    simp only[Bool.and_eq_false_iff,decide_eq_false_iff_not];omega
   rw[hL];cases C
   ·rfl
   ·simp only[Ont,Ocf,Oct];generalize hQ: (decide (r.2.1>=0)&&decide (r.2.1<=4611686018427387903))=Q at hR;cases Q
    ·rfl
    ·simp only[Oct,Obs];rw[hR]
 ·rfl
def hiB(S:Int)(l:List Ze):Bool:=l.all fun x=>decide (x.2.1<=S)
noncomputable def stF(s:Zo):Int:=match Zaj s with|some (k,_)=>k|none=>0
theorem Qyk(s:Zo):Zaj s=some (stF s,()):=by
 obtain⟨k,e⟩:=Qcr s;unfold stF;rw[e]
theorem Qth(s:Zo)(h0:0<=s.2.2.2.2.2.2.1)(h3:s.2.2.2.2.2.2.1<=3):Zph s=some (stF s,()):=by
 rw[<-Qyk];unfold Zph Zaj;have:decide (s.2.2.2.2.2.2.1>1)=((s.2.2.2.2.2.2.1==2)|| (s.2.2.2.2.2.2.1==3)):=by
  rw[Bool.eq_iff_iff];simp only[decide_eq_true_eq,Bool.or_eq_true,beq_iff_eq];omega
 rw[this]
def Qs9(s:Zo):Bool:= !((!((s.2.2.2.2.2.2.1==(0:Int))==(s.2.2.2.2.2.1==(-1:Int))))|| ((s.2.2.2.2.2.1 !=(-1:Int))&& (s.2.2.2.2.2.1 !=s.2.1.2.2.1)))
theorem Xbm(s:Zo)(hl:s.2.2.2.2.1.length<=1048576): ∀(N i:Nat),s.2.2.2.2.1.length-i<N->i<=s.2.2.2.2.1.length->Zbv N s (i:Int)=some (hiB s.2.2.2.2.2.2.2.1 (s.2.2.2.2.1.drop i)&& (Qs9 s&& (s.1==stF s)),())
 |0,_,h,_=>by omega
 |N+1,i,hN,hi=>by
  rw[Zbv];by_cases hh:i<s.2.2.2.2.1.length
  ·rw[Zn (Zj (by omega)),Zb (by omega),Zs hh (by omega),Xbm s hl N (i+1) (by omega) (by omega),show(i:Int).toNat=i from rfl,Kb (d:=Zy) hh];simp only[hiB,List.all_cons];by_cases hc: (s.2.2.2.2.1.getD i Zy).2.1<=s.2.2.2.2.2.2.2.1
   ·rw[Zk (p:=_>_) (by omega),Zj hc];rfl
   ·rw[Zj (p:=_>_) (by omega),Zk hc];rfl
  ·rw[Zm (Zk (by omega)),List.drop_eq_nil_of_le (by omega),Qyk,Obs];unfold Qs9;generalize ((!((s.2.2.2.2.2.2.1==(0:Int))==(s.2.2.2.2.2.1==(-1:Int))))|| ((s.2.2.2.2.2.1 !=(-1:Int))&& (s.2.2.2.2.2.1 !=s.2.1.2.2.1)))=c;cases c<;>rfl
theorem Xbl(s:Zo)(hl:s.2.2.2.1.length<=1048576)(hl2:s.2.2.2.2.1.length<=1048576): ∀(N i:Nat),s.2.2.2.1.length-i<N->i<=s.2.2.2.1.length->Zbu N s (i:Int)=some (hiB s.2.2.2.2.2.2.2.1 (s.2.2.2.1.drop i)&& (hiB s.2.2.2.2.2.2.2.1 s.2.2.2.2.1&& (Qs9 s&& (s.1==stF s))),())
 |0,_,h,_=>by omega
 |N+1,i,hN,hi=>by
  rw[Zbu];by_cases hh:i<s.2.2.2.1.length
  ·rw[Zn (Zj (by omega)),Zb (by omega),Zs hh (by omega),Xbl s hl hl2 N (i+1) (by omega) (by omega),show(i:Int).toNat=i from rfl,Kb (d:=Zy) hh];simp only[hiB,List.all_cons];by_cases hc: (s.2.2.2.1.getD i Zy).2.1<=s.2.2.2.2.2.2.2.1
   ·rw[Zk (p:=_>_) (by omega),Zj hc];rfl
   ·rw[Zj (p:=_>_) (by omega),Zk hc];rfl
  ·rw[Zm (Zk (by omega)),List.drop_eq_nil_of_le (by omega)];exact Xbm s hl2 _ 0 (by unfold Ze3;omega) (by omega)
def Xb3(a:List Ze)(r:Ze):List Ze:=if rsB (-1) a=true/\Zej r=true then Zgk a r else a
def Zk7(a l:List Ze):List Ze:=l.foldl Xb3 a
theorem Qe6{E:Int}: ∀{l:List Ze} {lo:Int},rsB lo l=true->(∀x∈l,x.2.1<=E)->l≠[]->Jp l<=E-lo-1
 | [],_,_,_,h=>absurd rfl h
 |x::l,lo,h,hE,_=>by
  obtain⟨h1,h2,h3⟩:=Vg.1 h;have hx:=hE x (by simp);simp only[Jp];rcases l with _| ⟨y,l⟩
  ·simp only[Jp];omega
  ·have:=Qe6 h3 (fun z hz=>hE z (by simp[hz])) (by simp);omega
theorem Q0s{E:Int}{l:List Ze}(h:RL E l)(hc:Jp l=E)(h0:0<E): (l.getD 0 Zy).2.1=E:=by
 obtain⟨h1,h2⟩:=h;rcases l with _| ⟨x,l⟩
 ·simp only[Jp]at hc;omega
 ·obtain⟨a1,a2,a3⟩:=Vg.1 h1;have hx:=h2 x (by simp);have a1:=Ql.1 a1;simp only[Jp]at hc;rcases l with _| ⟨y,l⟩
  ·simp only[Jp]at hc;simp only[List.getD_cons_zero];omega
  ·have:=Qe6 a3 (fun z hz=>h2 z (by simp[hz])) (by simp);omega
theorem Qe7{E:Int}{l:List Ze}(h:RL E l)(h0:0<=E):0<=Jp l/\Jp l<=E:=by
 have: ∀{l:List Ze} {lo:Int},rsB lo l=true->0<=Jp l:=by
  intro l
  induction l with
  |nil=>intro lo _;simp[Jp]
  |cons x l ih=>
   intro lo h;obtain⟨a1,a2,a3⟩:=Vg.1 h;have a1:=Ql.1 a1;have:=ih a3;simp only[Jp];omega
 refine⟨this h.1,?_⟩;rcases hl:l with _| ⟨x,l'⟩
 ·simp only[Jp];exact h0
 ·have:=Qe6 h.1 h.2 (by rw[hl];simp);rw[hl]at this;omega
def Z34(s:Zo)(all:List Ze):Bool:=(Jp all==s.2.1.2.2.1)&& (Jp s.2.2.1+Jp s.2.2.2.1+Jp s.2.2.2.2.1==s.2.1.2.2.1)
theorem Xbk{K:Int}{s:Zo}(hs:Za6 K s)(hK:K<=1000000): ∀(N i:Nat) (all:List Ze),RL (Q1p s) all->s.2.2.2.2.1.length-i<N->i<=s.2.2.2.2.1.length->
  Zbt N s all (i:Int)=some (Z34 s (Zk7 all (s.2.2.2.2.1.drop i))&& ((Z16 s.2.2.2.2.1 0==s.2.1.2.1)&& ((s.2.2.2.2.2.2.2.2.1==0)&& (hiB s.2.2.2.2.2.2.2.1 s.2.2.2.1&& (hiB s.2.2.2.2.2.2.2.1 s.2.2.2.2.1&& (Qs9 s&& (s.1==stF s)))))),())
 |0,_,_,_,h,_=>by omega
 |N+1,i,all,ha,hN,hi=>by
  have la:=Qz ha hs.e0 hs.eK hK;have l1:=Qz hs.pend hs.e0 hs.eK hK;have l2:=Qz hs.flight hs.e0 hs.eK hK;have l3:=Qz hs.acked hs.e0 hs.eK hK;rw[Zbt];by_cases h:i<s.2.2.2.2.1.length
  ·rw[Zn (Zj (by omega)),Zb (by omega),Zs h (by omega),Zm3 _ _ (by omega),Obs,Kb (d:=Zy) h];exact Xbk hs hK N (i+1) _ (Zx8 ha (hs.acked.2 _ (Qh h))) (by omega) (by omega)
  ·have c1:=Qe7 hs.pend hs.e0;have c2:=Qe7 hs.flight hs.e0;have c3:=Qe7 hs.acked hs.e0;have heK:=hs.eK;rw[Zm (Zk (by omega)),Zdj _ (by omega),Zdj _ (by omega),Zdj _ (by omega),Zdj _ (by omega),Qb9 _ _ (by omega),List.drop_eq_nil_of_le (by omega)];simp only[Obs,ha.1,hs.pend.1,hs.flight.1,hs.acked.1,if_true];rw[Zb (fun h1 h2=>by
    simp only[Bool.or_eq_false_iff,bne_eq_false_iff_eq,decide_eq_true_eq]at h1 h2;have:=Quz (l:=all) (by omega);omega),Zv (n:=Jp s.2.2.1+Jp s.2.2.2.1) (by omega) (by omega),Zv (by omega) (by omega),show Zk7 all []=all from rfl]
   have e3:=Xbl s (by omega) (by omega) (Zbk s 0) 0 (by unfold Zbk;omega) (by omega);simp only[Int.natCast_zero,List.drop_zero]at e3;rw[e3];unfold Z34;generalize (hiB s.2.2.2.2.2.2.2.1 s.2.2.2.1&& (hiB s.2.2.2.2.2.2.2.1 s.2.2.2.2.1&& (Qs9 s&& (s.1==stF s))))=R;have hq: (if True/\(0:Int)<=0 then Z16 s.2.2.2.2.1 0 else-1)=Z16 s.2.2.2.2.1 0:=by simp
   rw[hq];by_cases w1:Jp all=s.2.1.2.2.1
   ·by_cases w2:Jp s.2.2.1+Jp s.2.2.2.1+Jp s.2.2.2.2.1=s.2.1.2.2.1
    ·have hz: ((decide (s.2.1.2.2.1>0))&& ((all.getD (0:Int).toNat Zy).2.1 !=s.2.1.2.2.1))=false:=by
      by_cases hp:0<s.2.1.2.2.1
      ·have:=Q0s ha w1 hp;rw[show((0:Int).toNat)=0 from rfl,this];simp
      ·rw[Zk (by omega)];rfl
     rw[hz,beq_iff_eq.2 w1,beq_iff_eq.2 w2,show(Jp all !=s.2.1.2.2.1)=false by simp[w1],show(Jp s.2.2.1+Jp s.2.2.2.1+Jp s.2.2.2.2.1 !=s.2.1.2.2.1)=false by simp[w2]];simp only[Bool.or_self,Ocf,Obs,Bool.false_or,Bool.and_self,Ota];simp only[bne];generalize (Z16 s.2.2.2.2.1 0==s.2.1.2.1)=g1;generalize (s.2.2.2.2.2.2.2.2.1==0)=g2;cases g1<;>cases g2<;>rfl
    ·rw[beq_eq_false_iff_ne.2 w2,show(Jp s.2.2.1+Jp s.2.2.2.1+Jp s.2.2.2.2.1 !=s.2.1.2.2.1)=true by simp[w2]];simp
   ·rw[beq_eq_false_iff_ne.2 w1,show(Jp all !=s.2.1.2.2.1)=true by simp[w1]];simp
theorem Q9q{K:Int}{s:Zo}(hs:Za6 K s)(hK:K<=1000000): ∀(N i:Nat) (all:List Ze),RL (Q1p s) all->s.2.2.2.1.length-i<N->i<=s.2.2.2.1.length->
  Zbs N s all (i:Int)=some (Z34 s (Zk7 (Zk7 all (s.2.2.2.1.drop i)) s.2.2.2.2.1)&& ((Z16 s.2.2.2.2.1 0==s.2.1.2.1)&& ((s.2.2.2.2.2.2.2.2.1==0)&& (hiB s.2.2.2.2.2.2.2.1 s.2.2.2.1&& (hiB s.2.2.2.2.2.2.2.1 s.2.2.2.2.1&& (Qs9 s&& (s.1==stF s)))))),())
 |0,_,_,_,h,_=>by omega
 |N+1,i,all,ha,hN,hi=>by
  have la:=Qz ha hs.e0 hs.eK hK;have l2:=Qz hs.flight hs.e0 hs.eK hK;rw[Zbs];by_cases h:i<s.2.2.2.1.length
  ·rw[Zn (Zj (by omega)),Zb (by omega),Zs h (by omega),Zm3 _ _ (by omega),Obs,Kb (d:=Zy) h];exact Q9q hs hK N (i+1) _ (Zx8 ha (hs.flight.2 _ (Qh h))) (by omega) (by omega)
  ·rw[Zm (Zk (by omega)),List.drop_eq_nil_of_le (by omega)];have:=Xbk hs hK (Zbj s all 0) 0 all ha (by unfold Zbj;omega) (by omega);simp only[Int.natCast_zero,List.drop_zero]at this;exact this
theorem Q0g{K:Int}{s:Zo}(hs:Za6 K s)(hK:K<=1000000)(t:List Ze)(ht:t.length<=3000000)(hE: ∀x∈t,x.2.1<=s.2.1.2.2.1): ∀(N i:Nat) (all:List Ze),RL (Q1p s) all->t.length-i<N->i<=t.length->
  Zhw N s.2.1.2.2.1 all t (t.length:Int) (i:Int)=some (Jp (Zk7 all (t.drop i))==s.2.1.2.2.1,())
 |0,_,_,_,h,_=>by omega
 |N+1,i,all,ha,hN,hi=>by
  have la:=Qz ha hs.e0 hs.eK hK;rw[Zhw];by_cases h:i<t.length
  ·rw[Zn (Zj (by omega)),Zb (by omega),Zs h (by omega),Q0m _ _ (by omega),Obs,Kb (d:=Zy) h];exact Q0g hs hK t ht hE N (i+1) _ (Zx8 ha (hE _ (Qh h))) (by omega) (by omega)
  ·rw[Zm (Zk (by omega)),List.drop_eq_nil_of_le (by omega),Zqy _ (by omega)];simp only[ha.1,if_true,Obs];unfold Zcv;rw[Zb (fun h=>by
    have:=Ode h;rw[Zv (by omega) (by omega)];omega)]
   have hz: ((decide ((all.length:Int)>0))&& (decide ((all.getD (IntKind.i64.wrap ((all.length:Int)-1)).toNat Zy).2.1>s.2.1.2.2.1)))=false:=by
    by_cases hp: (all.length:Int)>0
    ·rw[Zv (by omega) (by omega)];have:=ha.2 _ (Qh (l:=all) (i:=((all.length:Int)-1).toNat) (d:=Zy) (by omega));rw[Zk (p:=_>s.2.1.2.2.1) (by unfold Q1p at this;omega)];simp
    ·rw[Zk hp];rfl
   rw[hz,show Zk7 all []=all from rfl];cases Jp all==s.2.1.2.2.1<;>rfl
theorem Q7u{lo S:Int}: ∀{l:List Ze},rsB lo l=true->hiB S l= !((decide ((l.length:Int)>0))&& (decide ((l.getD (l.length-1) Zy).2.1>S)))
 | [],_=>rfl
 | [x],_=>by
  simp only[hiB,List.all_cons,List.all_nil,Bool.and_true,List.length_singleton,Nat.sub_self,List.getD_cons_zero];by_cases h:x.2.1<=S
  ·rw[Zj h,Zk (p:=x.2.1>S) (by omega)];rfl
  ·rw[Zk h,Zj (p:=x.2.1>S) (by omega)];rfl
 |x::y::l,h=>by
  obtain⟨a1,a2,a3⟩:=Vg.1 h;have ih:=Q7u (S:=S) a3;have b:=Vg.1 a3;have b1:=Ql.1 b.1;have e: (x::y::l).getD ((x::y::l).length-1) Zy=(y::l).getD ((y::l).length-1) Zy:=by simp
  rw[e];have e2:hiB S (x::y::l)=(decide (x.2.1<=S)&&hiB S (y::l)):=rfl;rw[e2,ih,Zj (p:=((x::y::l).length:Int)>0) (by simp only[List.length_cons];omega),Zj (p:=((y::l).length:Int)>0) (by simp only[List.length_cons];omega)];by_cases hx:x.2.1<=S
  ·rw[Zj hx];rfl
  ·have e3:hiB S (y::l)=false:=by
    simp only[hiB,List.all_cons];rw[Zk (by omega)];rfl
   rw[e3,Zj (p:=((y::l).length:Int)>0) (by simp only[List.length_cons];omega)]at ih;rw[Zk hx];simpa using ih
theorem Qnr{lo:Int}{l:List Ze}(h:rsB lo l=true)(hl:l.length<=1048576)(S:Int):Zcv l S=some (!hiB S l,()):=by
 unfold Zcv;simp only;rw[Zb (fun h=>by
  have:=Ode h;rw[Zv (by omega) (by omega)];omega),Q7u h (S:=S),Bool.not_not]
 by_cases hp: (l.length:Int)>0
 ·rw[Zv (by omega) (by omega),show((l.length:Int)-1).toNat=l.length-1 by omega]
 ·rw[Zk hp];rfl
theorem Qrk{K:Int}{s:Zo}(hs:Za6 K s)(hK:K<=1000000):Zm6 s=Xz s:=by
 have l1:=Qz hs.pend hs.e0 hs.eK hK;have l2:=Qz hs.flight hs.e0 hs.eK hK;have l3:=Qz hs.acked hs.e0 hs.eK hK;have hr:=(Zy0 s.2.1 (by have:=hs.cells;omega)).1;have c1:=Qe7 hs.pend hs.e0;have c2:=Qe7 hs.flight hs.e0;have c3:=Qe7 hs.acked hs.e0;have heK:=hs.eK;have s1:=Q9q hs hK (Y3 s s.2.2.1 0) 0 s.2.2.1 hs.pend (by unfold Y3;omega) (by omega);simp only[Int.natCast_zero,List.drop_zero]at s1;have w1:Zq2 s.2.2.1 s.2.2.2.1 s.2.2.2.2.1 s.2.1.2.2.1=some (Z34 s (Zk7 (Zk7 s.2.2.1 s.2.2.2.1) s.2.2.2.2.1),()):=by
  unfold Zq2;rw[Zqy _ (by omega),Zqy _ (by omega),Zqy _ (by omega),Zop _ (by omega),Zop _ (by omega)];simp only[hs.pend.1,hs.flight.1,hs.acked.1,if_true,Obs];rw[Zv (n:=Jp s.2.2.1+Jp s.2.2.2.1) (by omega) (by omega),Zv (by omega) (by omega),Zb (by unfold Qo;omega)];have:=Q0g hs hK (s.2.2.2.1++s.2.2.2.2.1) (by simp;omega) (fun x hx=>by
   rcases List.mem_append.1 hx with hx|hx
   ·exact hs.flight.2 x hx
   ·exact hs.acked.2 x hx) (Ze0 s.2.1.2.2.1 s.2.2.1 (s.2.2.2.1++s.2.2.2.2.1) ((s.2.2.2.1++s.2.2.2.2.1).length:Int) 0) 0 s.2.2.1 hs.pend (by unfold Ze0;omega) (by omega)
  simp only[Int.natCast_zero,List.drop_zero]at this;rw[this];unfold Z34;have e:Zk7 s.2.2.1 (s.2.2.2.1++s.2.2.2.2.1)=Zk7 (Zk7 s.2.2.1 s.2.2.2.1) s.2.2.2.2.1:=List.foldl_append ..;rw[e];simp only[bne];cases (Jp s.2.2.1+Jp s.2.2.2.1+Jp s.2.2.2.2.1==s.2.1.2.2.1)
  ·simp
  ·simp
 have hg: ∀f,0<=s.2.2.2.2.2.2.1->s.2.2.2.2.2.2.1<=3->Zht s f=some (Z34 s (Zk7 (Zk7 s.2.2.1 s.2.2.2.1) s.2.2.2.2.1)&& ((Z16 s.2.2.2.2.1 0==s.2.1.2.1)&& ((s.2.2.2.2.2.2.2.2.1==0)&& (hiB s.2.2.2.2.2.2.2.1 s.2.2.2.1&& (hiB s.2.2.2.2.2.2.2.1 s.2.2.2.2.1&& ((s.2.2.2.2.2.1==f)&& (s.1==stF s)))))),()):=fun f h0 h3=>by
  unfold Zht;rw[w1,Q0y _ _ (by omega),Qnr hs.flight.1 (by omega),Qnr hs.acked.1 (by omega),Qth s h0 h3];have hq: (if rsB (-1) s.2.2.2.2.1=true/\(0:Int)<=0 then Z16 s.2.2.2.2.1 0 else-1)=Z16 s.2.2.2.2.1 0:=if_pos ⟨hs.acked.1,Int.le_refl _⟩;rw[hq];simp only[Obs];generalize Z34 s (Zk7 (Zk7 s.2.2.1 s.2.2.2.1) s.2.2.2.2.1)=b1;cases b1
  ·rfl
  simp only[Oct,Obs,Ota];generalize (Z16 s.2.2.2.2.1 0==s.2.1.2.1)=b2;cases b2
  ·rfl
  simp only[Oct,Obs,Ota];generalize hiB s.2.2.2.2.2.2.2.1 s.2.2.2.1=b3;generalize hiB s.2.2.2.2.2.2.2.1 s.2.2.2.2.1=b4;generalize (s.2.2.2.2.2.2.2.2.1==0)=b5;generalize (s.2.2.2.2.2.1==f)=b6;cases b3<;>cases b4<;>cases b5<;>cases b6<;>rfl
 unfold Zm6 Xz;rw[Q6a _ (by have:=hs.cells;omega),hr,Za8 _ (by omega),Za8 _ (by omega),Za8 _ (by omega),Ztn _ (by omega),Ztn _ (by omega),Ztn _ (by omega),s1];have e2:Qf s.2.2.2.2.2.2.2.2.1=some (decide (s.2.2.2.2.2.2.2.2.1>=0)&&decide (s.2.2.2.2.2.2.2.2.1<=4611686018427387903),()):=rfl;have e3:Xd s.2.2.2.2.2.2.2.2.1=some (decide (s.2.2.2.2.2.2.2.2.1>=0)&&decide (s.2.2.2.2.2.2.2.2.1<=4611686018427387903),()):=rfl;simp only[hs.pend.1,hs.flight.1,hs.acked.1,e2,e3,Zvk,Zrg,Obs];generalize Zus s.2.1=b1;cases b1
 ·rfl
 simp only[Ont,Ocf,Obs,Bool.false_or];generalize (decide (s.2.2.2.2.2.2.2.1>=0)&&decide (s.2.2.2.2.2.2.2.1<=s.2.1.2.2.1))=b2;cases b2
 ·rfl
 simp only[Ont,Ocf,Obs,Bool.false_or];generalize (decide (s.2.2.2.2.2.2.2.2.1>=0)&&decide (s.2.2.2.2.2.2.2.2.1<=4611686018427387903))=b3;cases b3
 ·rfl
 simp only[Ont,Ocf,Obs,Bool.false_or];by_cases hf:0<=s.2.2.2.2.2.2.1/\s.2.2.2.2.2.2.1<=3
 ·rw[hg _ hf.1 hf.2,hg _ hf.1 hf.2,show(decide (s.2.2.2.2.2.2.1>=0)&&decide (s.2.2.2.2.2.2.1<=3))=true by simp only[Oba,decide_eq_true_eq];exact hf];simp only[Ont,Ocf];cases (s.1==(4:Int))|| (s.1==(5:Int))
  ·simp only[Ocf];have e0:=hs.e0;have:Qs9 s=(bif s.2.2.2.2.2.2.1==0 then s.2.2.2.2.2.1== -1 else s.2.2.2.2.2.1==s.2.1.2.2.1):=by
    unfold Qs9;cases hz:s.2.2.2.2.2.2.1==0
    ·by_cases h1:s.2.2.2.2.2.1= -1
     ·rw[h1];simp;omega
     ·have: (s.2.2.2.2.2.1== -1)=false:=by simpa using h1
      simp[this,bne]
    ·by_cases h1:s.2.2.2.2.2.1= -1
     ·rw[h1];simp
     ·have: (s.2.2.2.2.2.1== -1)=false:=by simpa using h1
      simp[this]
   rw[this];cases s.2.2.2.2.2.2.1==0<;>rfl
  ·simp only[Oct];congr 2
   ac_rfl
 ·rw[show(decide (s.2.2.2.2.2.2.1>=0)&&decide (s.2.2.2.2.2.2.1<=3))=false by rw[Bool.and_eq_false_iff,decide_eq_false_iff_not,decide_eq_false_iff_not];omega];rfl
theorem Q2h(l:List Z0)(hl:l.length<=1048576)(ht:Ze5 l<=1000000): ∀(N i:Nat) (e:Int),l.length-i<N->i<=l.length-> -1<=e->e<=4611686018427387903->Zhr N (e+1) l (l.length:Int) (i:Int)=some (ckB e (l.drop i),())
 |0,_,_,h,_,_,_=>by omega
 |N+1,i,e,hN,hi,h0,h1=>by
  rw[Zhr];by_cases hh:i<l.length
  ·have hm:=Zv3 (Qh (l:=l) (d:=Qc) hh);rw[Zn (Zj (by omega)),Zb (by omega),Zs hh (by omega),show(i:Int).toNat=i from rfl,Kb (d:=Qc) hh];generalize hc:l.getD i Qc=c at hm;have e1: (((c.2.1.length:Int)==0)||decide (c.1<e+1))=(decide (c.1<=e)|| (c.2.1==([]:List UInt8))):=by
    rw[Bool.eq_iff_iff];simp only[Bool.or_eq_true,beq_iff_eq,decide_eq_true_eq];rw[<-List.length_eq_zero_iff];omega
   simp only[ckB];rw[e1,Zv (n:=4611686018427387903- (c.2.1.length:Int)) (by omega) (by omega)];cases hx: ((decide (c.1<=e)|| (c.2.1==([]:List UInt8)))||decide (c.1>4611686018427387903- (c.2.1.length:Int)))
   ·simp only[Bool.or_eq_false_iff,decide_eq_false_iff_not]at hx;rw[Ocf];unfold Zb7;rw[Obs];simp only;rw[Zv (n:=c.1+ (c.2.1.length:Int)) (by omega) (by omega),Zv (by omega) (by omega),Q2h l hl ht N (i+1) (c.1+ (c.2.1.length:Int)) (by omega) (by omega) (by omega) (by omega)];simp
   ·rfl
  ·rw[Zm (Zk (by omega)),List.drop_eq_nil_of_le (by omega)];rfl
theorem Z4o(n:Int):Xd n=some (J4 n,()):=rfl
theorem Z4l{K:Nat}{b:Zq}(h:Zc7 K b)(hK:K<=1000000):Zgn b=some (Zju b,()):=by
 have hl:=h.len;have ht:=h.tot;unfold Zgn Zju;rw[Z4o,Obs];cases hq:J4 b.1
 ·simp
 ·have hq:=X4.1 hq;rw[Zv (n:=b.1-1) (by omega) (by omega)];have:=Q2h b.2.1 (by omega) (by omega) (Zez b.1 b.2.1 (b.2.1.length:Int) 0) 0 (b.1-1) (by unfold Zez;omega) (by omega) (by omega) (by omega);simp only[Int.natCast_zero,List.drop_zero,Int.sub_add_cancel]at this;rw[Ont,Ocf,this,Bool.and_true]
theorem Q8q{K:Nat}{b:Zq}(h:Zc7 K b)(hK:K<=1000000):Zyt b=Zlq b:=by
 have hl:=h.len;unfold Zyt Zlq;rw[Z4l h hK,Zed b (by omega),Obs];cases hz: ((b.2.1.length:Int)==0)
 ·cases Zju b
  ·rfl
  ·rfl
 ·cases Zju b<;>rfl
theorem Qi2{K:Nat}{b:Zq}(h:Zc7 K b)(hK:K<=1000000):Zno b=Zau b:=by
 have hl:=h.len;unfold Zno Zau;rw[Z4l h hK,Zed b (by omega)]
theorem Zrs{K:Nat}{r:Zr}(h:Zc7 K r.2.1)(hK:K<=1000000):Zar r=Q5 r:=by
 have hl:=h.len;obtain⟨v,hv⟩:=Q28 h hK;unfold Zar Q5 Zm9;rw[Z4l h hK,Zed _ (by omega),Q8q h hK,hv,Qi2 h hK,Zlk _ (by omega)];simp only[Z4o,Y5,Zrg,Obs];generalize Zju r.2.1=b1;cases b1
 ·cases r.2.2.1 !=(-1:Int)<;>rfl
 simp only[Ont,Ocf,Obs,Bool.false_or];cases hq:J4 r.2.2.2.1
 ·by_cases h1:v>r.2.2.2.1
  ·rw[Zj h1];cases r.2.2.1 !=(-1:Int)<;>rfl
  ·rw[Zk h1];cases r.2.2.1 !=(-1:Int)<;>rfl
 have hq:=X4.1 hq;simp only[Ont,Ocf,Obs,Bool.false_or];by_cases h1:v>r.2.2.2.1
 ·rw[Zj h1];cases r.2.2.1 !=(-1:Int)<;>rfl
 rw[Zk h1];simp only[Ocf,Obs,Bool.false_or];cases hc:J4 r.2.2.2.2.1
 ·cases r.2.2.1 !=(-1:Int)<;>rfl
 simp only[Ont,Ocf,Obs,Bool.false_or];have e: ((r.2.2.1 != -1)&& (!(decide (r.2.2.1>=r.2.2.2.1)&&decide (r.2.2.1<=4611686018427387903))))=((((r.2.2.1 != -1)&& (decide (r.2.2.1<r.2.2.2.1)))|| (decide (r.2.2.1>4611686018427387903)))|| (decide (r.2.2.1< -1))):=by
  rw[Bool.eq_iff_iff];simp only[Oba,bne_iff_ne,ne_eq,Bool.not_eq_true',Bool.and_eq_false_iff,decide_eq_false_iff_not,Bool.or_eq_true,decide_eq_true_eq];omega
 by_cases hf:r.2.2.1= -1
 ·rw[hf];have e2: ((-1:Int)==r.2.2.2.1)=false:=by rw[beq_eq_false_iff_ne];omega
  have j: ∀b,Vz r b=X9 r b:=fun b=>by
   unfold Vz X9;rw[hf,e2];rfl
  simp only[j];rfl
 ·have hn: (r.2.2.1 != -1)=true:=by simpa using hf
  rw[hn]at e⊢;simp only[Oct,Obs,Ota]at e⊢;rw[e];have j: ∀b,Vz r b=X9 r b:=fun b=>by
   unfold Vz X9;rw[hn];have: (r.2.2.1==r.2.2.2.1)=(r.2.2.2.1==r.2.2.1):=by rw[Bool.eq_iff_iff];simp only[beq_iff_eq];exact eq_comm
   rw[this];rfl
  simp only[j];generalize ((((decide (r.2.2.1<r.2.2.2.1)))|| (decide (r.2.2.1>4611686018427387903)))|| (decide (r.2.2.1< -1)))=c;cases c
  ·simp only[Ocf];congr 1;congr 1;congr 1;congr 1;congr 2
   ac_rfl
  ·rfl
theorem Qgg(c:Vk):Zm5 c=Ye c:=rfl
theorem Zw1(w:Qq):Zgo w=Vq w:=rfl
theorem Qvk(p:Xf):Zr9 p=Zat p:=rfl
theorem bO{β:Type}{c b:Bool}{f:Bool×Unit->Option β}:Option.bind (bif c then some (false,())else some (b,())) f=f (!c&&b,()):=by cases c<;>rfl
theorem bO2{c b:Bool}: (c|| !(!c&&b))=(c|| !b):=by cases c<;>rfl
theorem bA{β:Type}{c b:Bool}{f:Bool×Unit->Option β}:Option.bind (bif c then some (b,())else some (false,())) f=f (c&&b,()):=by cases c<;>rfl
theorem bA2{c b:Bool}: (c&& (c&&b))=(c&&b):=by cases c<;>rfl
theorem Qgh{K:Nat}{s:Zd}(h:Xc K s)(hK:K<=1000000):Zm7 s=Zb3 s:=by
 obtain⟨b1,e1,-⟩:=Zhy h.snd (by omega);obtain⟨b2,e2⟩:=Zna s.2.2.1;obtain⟨b3,e3⟩:=Zje h.rcv hK;obtain⟨b4,e4⟩:=Zt4 s.2.2.2.2.1;obtain⟨b5,e5⟩:=Zyz s.2.2.2.2.2.1;unfold Zm7 Zb3;simp only[Qrk h.snd (by omega),Zrs h.rcv hK,Qgg,Zw1,Qvk,e1,e2,e3,e4,e5,Y5,Z4o,Obs,bO,bO2];have n1: (s.2.1.1 !=0)= !(s.2.1.1==0):=rfl;have n2: (s.2.1.2.1.2.2.1 !=0)= !(s.2.1.2.1.2.2.1==0):=rfl;have n3: (s.2.1.2.2.2.2.2.1 != -1)= !(s.2.1.2.2.2.2.2.1== -1):=rfl;rw[n1,n2,n3];generalize J4 s.1=q1;generalize J4 _=q2;generalize (s.2.1.1==0)=x1;generalize (s.2.1.2.1.2.2.1==0)=x2;generalize (s.2.1.2.2.2.2.2.1== -1)=x3;generalize decide (s.2.1.2.2.2.2.2.2.2.1>s.2.2.1.2.1)=a1;generalize decide (s.2.2.2.1.2.2.2.1>s.2.2.2.2.1.2.2.2.1)=a2;generalize (s.2.2.2.2.2.2.2.2.1&& (s.2.1.1 !=4))=a3;generalize (s.2.2.2.2.2.2.2.2.2.1&& !s.2.2.2.2.2.2.2.2.2.2.2.1)=a4;generalize ((s.2.2.2.2.2.2.2.2.2.2.2.2.1 !=0)&& !s.2.2.2.2.2.2.2.2.2.2.2.1)=a5;generalize (((s.2.2.2.1.1==0)&& (s.2.2.2.1.2.2.2.1==0))&& !s.2.2.2.2.2.2.2.2.2.2.2.1)=a6;generalize s.2.2.2.2.2.2.1=cs;generalize s.2.2.2.2.2.2.2.1=cr;cases q1
 ·rfl
 cases b1
 ·cases q2<;>rfl
 cases b2
 ·cases q2<;>rfl
 cases b3
 ·cases q2<;>rfl
 cases b4
 ·cases q2<;>rfl
 cases b5
 ·cases q2<;>rfl
 cases q2
 ·rfl
 clear e1 e2 e3 e4 e5 n1 n2 n3 h;revert x1 x2 x3 a1 a2 a3 a4 a5 a6 cs cr;decide
theorem Xag{K:Nat}{r:Zr}(h:Zc7 K r.2.1)(hK:K<=1000000):T (Q5 r) fun q=>q.1=true->Zju r.2.1=true:=by
 obtain⟨b,e⟩:=Zje h hK;refine⟨_,e,fun hb=> ?_⟩;by_cases hx:Zju r.2.1=true
 ·exact hx
 ·have hx:Zju r.2.1=false:=by simpa using hx
  unfold Q5 at e;rw[Zed _ (by have:=h.len;omega),hx]at e;simp only[Obs,Bool.not_false,Oct,Bool.true_or]at e;cases e;cases hb
theorem Qzm(c:Zfp):Zld c=Vm c:=by
 unfold Zld Vm Zas Jl;have e1:decide (c.1>=1)=decide (c.1>0):=by congr 1
 simp only[Zrg,Zvk,Obs,bA,bA2,e1];congr 2
 ac_rfl
theorem Qvj(c:Zbm):Zpa c=Zb2 c:=rfl
theorem Qvh(c:Vk):Zl7 c=Vb c:=rfl
theorem Ql2{K:Nat}{l:List Zd}(h:Zgj K l)(hK:K<=1000000)(h24:l.length<=24): ∀(N i:Nat),l.length-i<N->i<=l.length->Vy N l l (l.length:Int) (i:Int)=X7 N l (i:Int)
 |0,_,h,_=>by omega
 |N+1,i,hN,hi=>by
  rw[Vy,X7];by_cases hh:i<l.length
  ·have g: ∀{a:Prop},a->decide ((i:Int)>0)=true->0<=IntKind.i64.wrap ((i:Int)-1)/\IntKind.i64.wrap ((i:Int)-1)< (l.length:Int):=fun _ h=>by
    have:=Ode h;rw[Zv (by omega) (by omega)];omega
   obtain⟨b,e⟩:=Z2m (h.all _ (Qh (d:=Zh) hh)) hK;rw[Zn (Zj (p:=(i:Int)< (l.length:Int)) (by omega)),Zn (Zj (p:=(i:Int)< (l.length:Int)) (by omega)),Zb (by omega),Zb (by omega),show(i:Int).toNat=i from rfl,Qgh (h.all _ (Qh (d:=Zh) hh)) hK,Zk (p:=(i:Int)>=24) (by omega),Ocf,e,Obs,Obs];simp only[Bool.false_or];rw[Zb (fun h h2=>g h h2),Zb (fun h h2=>g h h2),Zb (fun _ _=>by omega),Zs hh (by omega),Ql2 h hK h24 N (i+1) (by omega) (by omega)]
  ·rw[Zm (Zk (by omega)),Zm (Zk (by omega)),Zj (by omega)]
theorem Quq{K:Nat}{l:List Zd}(h:Zgj K l)(hK:K<=1000000)(h24:24<l.length): ∀(N i:Nat),24-i<N->i<=24->Vy N l l (l.length:Int) (i:Int)=some (false,())
 |0,_,h,_=>by omega
 |N+1,i,hN,hi=>by
  have hl:=h.len;rw[Vy,Zn (Zj (by omega)),Zb (by omega)];have hh:i<l.length:=by omega
  have g: ∀{a:Prop},a->decide ((i:Int)>0)=true->0<=IntKind.i64.wrap ((i:Int)-1)/\IntKind.i64.wrap ((i:Int)-1)< (l.length:Int):=fun _ h=>by
   have:=Ode h;rw[Zv (by omega) (by omega)];omega
  by_cases h4:i=24
  ·rw[Zj (p:=(i:Int)>=24) (by omega),Oct,Obs];simp only[Bool.true_or];rw[Zb (fun h h2=>g h h2),Oct]
  ·obtain⟨b,e⟩:=Z2m (h.all _ (Qh (d:=Zh) hh)) hK;rw[show(i:Int).toNat=i from rfl,Zk (p:=(i:Int)>=24) (by omega),Ocf,Qgh (h.all _ (Qh (d:=Zh) hh)) hK,e,Obs,Zs hh (by omega),Quq h hK h24 N (i+1) (by omega) (by omega)];simp only[Bool.false_or];rw[Zb (fun h h2=>g h h2)];generalize (!b||_)=c;cases c<;>rfl
theorem Z1m{K:Nat}{l:List Zd}(h:Zgj K l)(hK:K<=1000000):Zcu l=Y8 l:=by
 by_cases h24:l.length<=24
 ·unfold Zcu Y8;exact Ql2 h hK h24 _ 0 (by unfold Zcl;omega) (by omega)
 ·obtain⟨⟨b,u⟩,e,hb⟩:=Qic h hK;have:b=false:=by
   cases b
   ·rfl
   ·exact absurd (hb rfl) h24
  rw[e,this];unfold Zcu;exact Quq h hK (by omega) _ 0 (by unfold Zcl;omega) (by omega)
theorem Qyd{K:Nat}{l:List Zd}(h:Zgj K l)(hK:K<=1000000):Zpf l=Zcg l:=by
 obtain⟨b,e⟩:=Ztq h hK;have hl:=h.len;have lp:b=true-> ∀(N i:Nat) (n:Int),l.length-i<N->i<=l.length-> ∃v,Kd N () n l (l.length:Int) (i:Int)=some (v,())/\Ki N l n (i:Int)=some (v,()):=by
  intro hb N
  induction N with
  |zero=>intro i n h;omega
  |succ N ih=>
   intro i n hN hi;rw[Kd,Ki,e,hb];by_cases hh:i<l.length
   ·rw[Zj (by omega),Oct,Oct,Obs,Zb (by omega)];simp only[Bool.and_self,Oct];rw[Zb (by omega),Zs hh (by omega)];exact ih (i+1) _ (by omega) (by omega)
   ·rw[Zk (by omega)];exact⟨n,rfl,rfl⟩
 unfold Zpf Zdn Zcg;rw[Z1m h hK,e];cases b
 ·rw[Yv,Ki,e];by_cases hh:0<l.length
  ·rw[Zj (by omega)];rfl
  ·rw[Zk (by omega)];rfl
 ·obtain⟨v,h1,h2⟩:=lp rfl (Yv l 0 0) 0 0 (by unfold Yv;omega) (by omega);obtain⟨v',h3,h4⟩:=lp rfl (Xy () 0 l (l.length:Int) 0) 0 0 (by unfold Xy;omega) (by omega);have e2:Xy () 0 l (l.length:Int) 0=Yv l 0 0:=rfl;rw[Int.natCast_zero]at h1 h2 h3 h4;rw[e2]at h3⊢;simp only[Obs,Ont,Ocf,h1,h2]
theorem Qyc{K:Nat}{l:List Zd}(h:Zgj K l)(hK:K<=1000000):Zpe l=Zcf l:=by
 obtain⟨b,e⟩:=Ztq h hK;have hl:=h.len;have lp:b=true-> ∀(N i:Nat) (n:Int),l.length-i<N->i<=l.length-> ∃v,Kc N () n l (l.length:Int) (i:Int)=some (v,())/\Kh N l n (i:Int)=some (v,()):=by
  intro hb N
  induction N with
  |zero=>intro i n h;omega
  |succ N ih=>
   intro i n hN hi;rw[Kc,Kh,e,hb];by_cases hh:i<l.length
   ·rw[Zj (by omega),Oct,Oct,Obs,Zb (by omega)];simp only[Bool.and_self,Oct];rw[Zb (by omega),Zs hh (by omega)];exact ih (i+1) _ (by omega) (by omega)
   ·rw[Zk (by omega)];exact⟨n,rfl,rfl⟩
 unfold Zpe Zdm Zcf;rw[Z1m h hK,e];cases b
 ·rw[Yu,Kh,e];by_cases hh:0<l.length
  ·rw[Zj (by omega)];rfl
  ·rw[Zk (by omega)];rfl
 ·obtain⟨v,h1,h2⟩:=lp rfl (Yu l 0 0) 0 0 (by unfold Yu;omega) (by omega);have e2:Vp () 0 l (l.length:Int) 0=Yu l 0 0:=rfl;rw[Int.natCast_zero]at h1 h2;rw[e2];simp only[Obs,Ont,Ocf,h1,h2]
theorem Qrg{l:List Zl}(h:Qpt l)(u:Unit): ∀(N i:Nat),l.length-i<N->i<=l.length-> ∃k b,Qb N l u (l.length:Int) (i:Int)=some (k,())/\decide (k>=0)= !b/\Ji N l (i:Int)=some (b,())
 |0,_,h,_=>by omega
 |N+1,i,hN,hi=>by
  have hl:=h.1;rw[Qb,Ji];by_cases hh:i<l.length
  ·have hm:=h.2 _ (Qh (d:=Zcj) hh);unfold FOK at hm;unfold Zpg;rw[Zn (Zj (by omega)),Zn (Zj (by omega)),Zb (by omega),Zb (by omega),show(i:Int).toNat=i from rfl,Qcf _ (by omega),Ztj _ (by omega),Obs,Obs,Obs,Zs hh (by omega)];obtain⟨k,b,h1,h2,h3⟩:=Qrg h () N (i+1) (by omega) (by omega);cases hc:Yo (l.getD i Zcj)
   ·exact⟨_,false,rfl,by simp,rfl⟩
   ·exact⟨k,b,h1,h2,h3⟩
  ·rw[Zm (Zk (by omega)),Zm (Zk (by omega))];exact⟨_,true,rfl,by simp,rfl⟩
theorem Q5v{l:List Zl}(h:Qpt l): ∃b,Qr l=some (!b,())/\Zch l=some (b,()):=by
 unfold Qr Xl Zch;obtain⟨k,b,h1,h2,h3⟩:=Qrg h () (Kq l 0) 0 (by unfold Kq;omega) (by omega);have e2:Q3 l () (l.length:Int) 0=Kq l 0:=rfl;rw[Int.natCast_zero]at h1 h3;exact⟨b,by rw[e2,h1,Obs,h2],h3⟩
theorem Qcm{K:Nat}{c:Zg}(h:Qe K c)(hK:K<=1000000):Zaq c=Y2 c:=by
 obtain⟨sv,es⟩:=Qsb h.str hK;obtain⟨nv,en⟩:=Qsa h.str hK;have hl:=h.pk.1;obtain⟨r1,w1⟩: ∃r,Z5 c.2.2.2.2.2.2.2.2.2.2.2.2.2.1 (-1) 4611686018427387903=some (r,()):=⟨_,rfl⟩
 obtain⟨r2,w2⟩: ∃r,Z5 c.2.2.2.2.2.2.2.2.2.2.2.2.2.2.1 0 1000000=some (r,()):=⟨_,rfl⟩
 obtain⟨r3,w3⟩: ∃r,Z5 c.2.2.2.2.2.2.2.2.2.2.2.2.2.2.2.2.1 0 1000000=some (r,()):=⟨_,rfl⟩
 obtain⟨r4,w4⟩: ∃r,Z5 c.2.2.2.2.2.2.2.2.2.2.2.2.2.2.2.2.2.1 0 255=some (r,()):=⟨_,rfl⟩
 have v1:Z2 c.2.2.2.2.2.2.2.2.2.2.2.2.2.1 (-1) 4611686018427387903=some (r1,()):=w1;have v2:Z2 c.2.2.2.2.2.2.2.2.2.2.2.2.2.2.1 0 1000000=some (r2,()):=w2;have v3:Z2 c.2.2.2.2.2.2.2.2.2.2.2.2.2.2.2.2.1 0 1000000=some (r3,()):=w3;have v4:Z2 c.2.2.2.2.2.2.2.2.2.2.2.2.2.2.2.2.2.1 0 255=some (r4,()):=w4;have lp: ∀(N i:Nat),c.2.2.2.2.2.2.2.2.2.2.2.2.2.2.2.1.length-i<N->i<=c.2.2.2.2.2.2.2.2.2.2.2.2.2.2.2.1.length-> ∃p,Zeb N c.2.2.2.2.2.2.2.2.2.2.2.2.2.2.2.1 c.2.2.2.2.2.2.2.2.2.2.2.2.2.2.1 c.2.2.2.2.2.2.2.2.2.2.2.2.2.2.2.1 (c.2.2.2.2.2.2.2.2.2.2.2.2.2.2.2.1.length:Int) (i:Int)=some (p,())/\
   Zad N c (i:Int)=some (p&& (((((r1&&r2)&&r3)&&r4)&&decide (sv<=c.2.2.2.2.1.2.1))&&decide (nv<=c.2.2.2.2.2.1.2.2.2.1)),()):=by
  intro N
  induction N with
  |zero=>intro i h;omega
  |succ N ih=>
   intro i hN hi;rw[Zeb,Zad];by_cases hh:i<c.2.2.2.2.2.2.2.2.2.2.2.2.2.2.2.1.length
   ·have g: ∀{a:Prop},a->decide ((i:Int)>0)=true->0<=IntKind.i64.wrap ((i:Int)-1)/\IntKind.i64.wrap ((i:Int)-1)< (c.2.2.2.2.2.2.2.2.2.2.2.2.2.2.2.1.length:Int):=fun _ h=>by
     have:=Ode h;rw[Zv (by omega) (by omega)];omega
    obtain⟨b,f1,f2⟩:=Q5v (h.pk.2 _ (Qh (d:=Qg) hh));rw[Zn (Zj (by omega)),Zn (Zj (by omega)),Zb (by omega),Zb (by omega),show(i:Int).toNat=i from rfl,Zrg,Zvk,f1,f2,Obs,Obs,Zb (fun h h2=>g h h2),Zb (fun _ _=>by omega),Zb (fun h h2=>g h h2)];simp only;rw[Zb (fun _=>by omega),Zs hh (by omega)];obtain⟨p,k1,k2⟩:=ih (i+1) (by omega) (by omega);rw[k1,k2];generalize (!(_&&_)||_:Bool)=q;cases q
    ·cases b
     ·exact⟨false,rfl,rfl⟩
     ·exact⟨p,rfl,rfl⟩
    ·exact⟨false,rfl,rfl⟩
   ·rw[Zm (Zk (by omega)),Zm (Zk (by omega))];refine⟨true,rfl,?_⟩;simp only[w1,w2,w3,w4,Obs,bA,bA2,es,en,Ota];generalize (((r1&&r2)&&r3)&&r4)=q;cases q
    ·rfl
    ·simp only[Oct,Obs,Ota];by_cases hs:sv<=c.2.2.2.2.1.2.1
     ·rw[Zj hs];rfl
     ·rw[Zk hs];rfl
 obtain⟨p,k1,k2⟩:=lp (K9 c 0) 0 (by unfold K9;omega) (by omega);have e2:Zhv c.2.2.2.2.2.2.2.2.2.2.2.2.2.2.2.1 c.2.2.2.2.2.2.2.2.2.2.2.2.2.2.1 c.2.2.2.2.2.2.2.2.2.2.2.2.2.2.2.1 (c.2.2.2.2.2.2.2.2.2.2.2.2.2.2.2.1.length:Int) 0=K9 c 0:=rfl;rw[Int.natCast_zero]at k1 k2;obtain⟨b1,e1⟩:=Zyx c.2.1;obtain⟨b2,e2'⟩:=Zyx c.2.2.1;obtain⟨b3,e3⟩:=Ztq h.str hK;obtain⟨b4,e4⟩:=Zna c.2.2.2.2.1;obtain⟨b5,e5⟩:=Zt4 c.2.2.2.2.2.1;obtain⟨b6,e6⟩:=Z4m c.2.2.2.2.2.2.1;obtain⟨b7,e7⟩:=Z4m c.2.2.2.2.2.2.2.1;obtain⟨b8,e8⟩:=Z4k c.2.2.2.2.2.2.2.2.1;obtain⟨b9,e9⟩:=Z4k c.2.2.2.2.2.2.2.2.2.1;unfold Zaq Y2 Zsc;simp only[Qzm,Z1m h.str hK,Qgg,Zw1,Qvj,Qvh,Qyd h.str hK,Qyc h.str hK,e1,e2',e3,e4,e5,e6,e7,e8,e9,e2,k1,k2,es,en,v1,v2,v3,v4,Obs,bO,bO2];cases b1
 ·rfl
 cases b2
 ·rfl
 cases b3
 ·rfl
 cases b4
 ·rfl
 cases b5
 ·rfl
 cases b6
 ·rfl
 cases b7
 ·rfl
 cases b8
 ·rfl
 cases b9
 ·rfl
 simp only[Ont,Bool.or_self,Ocf];cases p
 ·cases r1<;>cases r2<;>cases r3<;>cases r4<;>rfl
 simp only[Oct,Obs,Ota];by_cases hs:sv<=c.2.2.2.2.1.2.1
 ·rw[Zj hs];cases r1<;>cases r2<;>cases r3<;>cases r4<;>rfl
 ·rw[Zk hs];cases r1<;>cases r2<;>cases r3<;>cases r4<;>rfl
theorem Xb0(c:Vk):T (Ye c) fun r=>r.1=true->0<=c.2.1/\c.2.1<=c.1/\c.1<=4611686018427387903:=by
 unfold Ye;simp only[Y5,Zvk,Obs,bA,bA2];refine T.pure fun h=> ?_;simp only[Oba,X4,decide_eq_true_eq]at h;omega
theorem Xcb(n:Int): -9223372036854775808<=IntKind.i64.wrap n/\IntKind.i64.wrap n<=9223372036854775807:=by
 simp only[IntKind.wrap,IntKind.bits,IntKind.signed,Ota];split<;>rename_i h<;>simp at h<;>omega
def inB(n a b:Int):Bool:=decide (n>=a)&&decide (n<=b)
theorem Zkx{n a b:Int}:inB n a b=true↔a<=n/\n<=b:=by unfold inB;simp
theorem inQ(n a b:Int):Z5 n a b=some (inB n a b,()):=rfl
def Qjb(c:Vk):Bool:=((J4 c.1&&inB c.2.1 0 c.1)&&inB c.2.2.1 (-1) c.1)&&inB c.2.2.2.1 (-1) c.1
theorem Q5n(c:Vk):Ye c=some (Qjb c,()):=by
 unfold Ye;simp only[Y5,inQ,Obs,bA,bA2];rfl
structure Q15(c:Vk):Prop where
 lim:c.1<=4611686018427387903
 use0:0<=c.2.1
 use:c.2.1<=c.1
 blk0: -1<=c.2.2.1
 blk:c.2.2.1<=c.1
 told0: -1<=c.2.2.2.1
 told:c.2.2.2.1<=c.1
theorem Qsu{c:Vk}:Qjb c=true↔Q15 c:=by
 unfold Qjb;simp only[Oba,X4,Zkx];exact⟨fun h=>⟨by omega,by omega,by omega,by omega,by omega,by omega,by omega⟩,fun h=>by obtain⟨_,_,_,_,_,_,_⟩:=h;omega⟩
def Z1j(w:Qq):Bool:=(((((inB w.2.1 1 4096&&inB w.1 1 w.2.1)&&inB w.2.2.1 1 4611686018427387903)&&inB w.2.2.2.1 0 w.2.2.1)&&inB w.2.2.2.2.1 0 w.2.2.2.1)&&decide (w.2.2.1<=IntKind.i64.wrap (w.2.2.2.2.1+w.1)))&&inB w.2.2.2.2.2.1 0 1000000
theorem Qyq(w:Qq):Vq w=some (Z1j w,()):=by
 unfold Vq;simp only[inQ,Obs,bA,bA2];rfl
structure Qpv(w:Qq):Prop where
 most:1<=w.2.1/\w.2.1<=4096
 size:1<=w.1/\w.1<=w.2.1
 lim:1<=w.2.2.1/\w.2.2.1<=4611686018427387903
 seen:0<=w.2.2.2.1/\w.2.2.2.1<=w.2.2.1
 read:0<=w.2.2.2.2.1/\w.2.2.2.2.1<=w.2.2.2.1
 lr:w.2.2.1<=w.2.2.2.2.1+w.1
 since:0<=w.2.2.2.2.2.1/\w.2.2.2.2.2.1<=1000000
theorem Zu1{w:Qq}:Z1j w=true↔Qpv w:=by
 unfold Z1j;simp only[Oba,Zkx,decide_eq_true_eq];constructor
 ·rintro⟨⟨⟨⟨⟨⟨h1,h2⟩,h3⟩,h4⟩,h5⟩,h6⟩,h7⟩;rw[Zv (by omega) (by omega)]at h6;exact⟨h1,h2,h3,h4,h5,h6,h7⟩
 ·rintro⟨h1,h2,h3,h4,h5,h6,h7⟩;rw[Zv (by omega) (by omega)];exact⟨⟨⟨⟨⟨⟨h1,h2⟩,h3⟩,h4⟩,h5⟩,h6⟩,h7⟩
def prB(p:Xf):Bool:=inB p.1 0 7
theorem prE(p:Xf):Zat p=some (prB p,()):=rfl
def Zwp(c:Zbm):Bool:=(inB c.1 0 1152921504606846976&&inB c.2.1 0 c.1)&&inB c.2.2.1 (-1) c.1
theorem Q8o(c:Zbm):Zb2 c=some (Zwp c,()):=by
 unfold Zb2;simp only[inQ,Obs,bA,bA2];rfl
theorem Xam{c:Zbm}:Zwp c=true↔(0<=c.1/\c.1<=1152921504606846976)/\(0<=c.2.1/\c.2.1<=c.1)/\ -1<=c.2.2.1/\c.2.2.1<=c.1:=by
 unfold Zwp;simp only[Oba,Zkx,and_assoc]
def Z1l(a:Q0):Bool:=(((inB a.1 0 1000&&inB a.2.1 a.1 1152921504606846976)&&inB a.2.2.1 0 a.2.1)&&inB a.2.2.2.1 0 a.2.2.1)&&decide (a.2.1<=IntKind.i64.wrap (a.2.2.2.1+a.1))
theorem Q5i(a:Q0):Vb a=some (Z1l a,()):=by
 unfold Vb;simp only[inQ,Obs,bA,bA2];rfl
structure Q0i(a:Q0):Prop where
 most:0<=a.1/\a.1<=1000
 lim:a.1<=a.2.1/\a.2.1<=1152921504606846976
 seen:0<=a.2.2.1/\a.2.2.1<=a.2.1
 clo:0<=a.2.2.2.1/\a.2.2.2.1<=a.2.2.1
 lc:a.2.1<=a.2.2.2.1+a.1
theorem Z7d{a:Q0}:Z1l a=true↔Q0i a:=by
 unfold Z1l;simp only[Oba,Zkx,decide_eq_true_eq];constructor
 ·rintro⟨⟨⟨⟨h1,h2⟩,h3⟩,h4⟩,h5⟩;rw[Zv (by omega) (by omega)]at h5;exact⟨h1,h2,h3,h4,h5⟩
 ·rintro⟨h1,h2,h3,h4,h5⟩;rw[Zv (by omega) (by omega)];exact⟨⟨⟨⟨h1,h2⟩,h3⟩,h4⟩,h5⟩
noncomputable def cfB(c:Zfp):Bool:=match Vm c with|some (b,_)=>b|none=>false
theorem cfE(c:Zfp):Vm c=some (cfB c,()):=by
 obtain⟨b,e⟩:=Zyx c;unfold cfB;rw[e]
structure Xb1(s:Zo):Prop where
 whole:Z34 s (Zk7 (Zk7 s.2.2.1 s.2.2.2.1) s.2.2.2.2.1)=true
 gap:Z16 s.2.2.2.2.1 0=s.2.1.2.1
 code:s.2.2.2.2.2.2.2.2.1=0
 fl:hiB s.2.2.2.2.2.2.2.1 s.2.2.2.1=true
 ac:hiB s.2.2.2.2.2.2.2.1 s.2.2.2.2.1=true
 fin:Qs9 s=true
 st:s.1=stF s
structure Q18(s:Zo):Prop where
 ring:Zus s.2.1=true
 pr:rsB (-1) s.2.2.1=true
 fr:rsB (-1) s.2.2.2.1=true
 ar:rsB (-1) s.2.2.2.2.1=true
 sent:0<=s.2.2.2.2.2.2.2.1/\s.2.2.2.2.2.2.2.1<=s.2.1.2.2.1
 code:0<=s.2.2.2.2.2.2.2.2.1/\s.2.2.2.2.2.2.2.2.1<=4611686018427387903
 fin:0<=s.2.2.2.2.2.2.1/\s.2.2.2.2.2.2.1<=3
 rst:s.1=4\/s.1=5->s.2.1.2.1=s.2.1.2.2.1/\s.2.2.1=[]/\s.2.2.2.1=[]/\s.2.2.2.2.1=[]/\s.2.2.2.2.2.1=s.2.2.2.2.2.2.2.1/\s.2.2.2.2.2.2.1=0/\s.2.2.2.2.2.2.2.1=s.2.1.2.2.1
 no: ¬(s.1=4\/s.1=5)->Xb1 s
noncomputable def Qyj(s:Zo):Bool:=match Xz s with|some (b,_)=>b|none=>false
theorem Q9r{K:Int}{s:Zo}(hs:Za6 K s)(hK:K<=1000000):Xz s=some (Qyj s,()):=by
 obtain⟨b,e,-⟩:=Zhy hs hK;unfold Qyj;rw[e]
theorem Q9s{K:Int}{s:Zo}(hs:Za6 K s)(hK:K<=1000000):Qyj s=true↔Q18 s:=by
 have l1:=Qz hs.pend hs.e0 hs.eK hK;have l2:=Qz hs.flight hs.e0 hs.eK hK;have l3:=Qz hs.acked hs.e0 hs.eK hK;have hr:=(Zy0 s.2.1 (by have:=hs.cells;omega)).1;have s1:=Q9q hs hK (Y3 s s.2.2.1 0) 0 s.2.2.1 hs.pend (by unfold Y3;omega) (by omega);simp only[Int.natCast_zero,List.drop_zero]at s1;unfold Qyj Xz;rw[hr,Za8 _ (by omega),Za8 _ (by omega),Za8 _ (by omega)];simp only[Y5,inQ,Obs,bO,bO2,hs.pend.1,hs.flight.1,hs.acked.1,Ont,Bool.or_false,s1];by_cases hc: (((!Zus s.2.1|| !inB s.2.2.2.2.2.2.2.1 0 s.2.1.2.2.1)|| !J4 s.2.2.2.2.2.2.2.2.1)|| !inB s.2.2.2.2.2.2.1 0 3)=true
 ·rw[hc,Oct];refine⟨fun h=>Bool.noConfusion h,fun h=> ?_⟩;have a:=h.ring;have b:=Zkx.2 h.sent;have c:=X4.2 h.code;have d:=Zkx.2 h.fin;rw[a,b,c,d]at hc;simp at hc
 ·have hc: (((!Zus s.2.1|| !inB s.2.2.2.2.2.2.2.1 0 s.2.1.2.2.1)|| !J4 s.2.2.2.2.2.2.2.2.1)|| !inB s.2.2.2.2.2.2.1 0 3)=false:=by simpa using hc
  rw[hc,Ocf];simp only[Bool.or_eq_false_iff,Bool.not_eq_false']at hc;obtain⟨⟨⟨a,b⟩,c⟩,d⟩:=hc;by_cases hst:s.1=4\/s.1=5
  ·have: ((s.1==4)|| (s.1==5))=true:=by simpa using hst
   rw[this,Oct];simp only[Oba,beq_iff_eq];constructor
   ·rintro⟨⟨⟨⟨⟨⟨h1,h2⟩,h3⟩,h4⟩,h5⟩,h6⟩,h7⟩;exact⟨a,hs.pend.1,hs.flight.1,hs.acked.1,Zkx.1 b,X4.1 c,Zkx.1 d,fun _=>⟨h1,List.length_eq_zero_iff.1 (by omega),List.length_eq_zero_iff.1 (by omega),List.length_eq_zero_iff.1 (by omega),h5,h6,h7⟩,fun h=>absurd hst h⟩
   ·intro h;obtain⟨h1,h2,h3,h4,h5,h6,h7⟩:=h.rst hst;exact⟨⟨⟨⟨⟨⟨h1,by rw[h2];rfl⟩,by rw[h3];rfl⟩,by rw[h4];rfl⟩,h5⟩,h6⟩,h7⟩
  ·have: ((s.1==4)|| (s.1==5))=false:=by simpa using hst
   rw[this,Ocf];simp only[Oba,beq_iff_eq];constructor
   ·rintro⟨h1,h2,h3,h4,h5,h6,h7⟩;exact⟨a,hs.pend.1,hs.flight.1,hs.acked.1,Zkx.1 b,X4.1 c,Zkx.1 d,fun h=>absurd h hst,fun _=>⟨h1,h2,h3,h4,h5,h6,h7⟩⟩
   ·intro h;obtain⟨h1,h2,h3,h4,h5,h6,h7⟩:=h.no hst;exact⟨h1,h2,h3,h4,h5,h6,h7⟩
noncomputable def Z9r(r:Zr):Bool:=match Q5 r with|some (b,_)=>b|none=>false
theorem Qq0{K:Nat}{r:Zr}(h:Zc7 K r.2.1)(hK:K<=1000000):Q5 r=some (Z9r r,()):=by
 obtain⟨b,e⟩:=Zje h hK;unfold Z9r;rw[e]
theorem Xba{K:Nat}{r:Zr}(h:Zc7 K r.2.1)(hK:K<=1000000)(hb:Z9r r=true):0<=r.1:=by
 have e:=Qq0 h hK;rw[hb]at e;unfold Q5 at e;have hl:=h.len;obtain⟨v,k⟩:=Q28 h hK;rw[Zed _ (by omega),Zlk _ (by omega),k]at e;simp only[Obs,Y5,Ka]at e;by_cases h0:0<=r.1
 ·exact h0
 ·exfalso;have a: (r.1==0)=false:=by simp;omega
  have b: (r.1==1)=false:=by simp;omega
  have c: (r.1==2)=false:=by simp;omega
  have d: (r.1==3)=false:=by simp;omega
  have f: (r.1==4)=false:=by simp;omega
  have g: (r.1==5)=false:=by simp;omega
  rw[a,b,c,d,f,g]at e;simp only[Ocf,X9]at e;revert e;generalize (_||decide (r.2.2.1< -1))=x;cases x<;>simp
noncomputable def stB(s:Zd):Bool:=((((((((J4 s.1&&Qyj s.2.1)&&Qjb s.2.2.1)&&Z9r s.2.2.2.1)&&Z1j s.2.2.2.2.1)&&prB s.2.2.2.2.2.1)&&J4 s.2.2.2.2.2.2.2.2.2.2.2.2.1)&& (s.2.2.2.2.2.2.1||s.2.2.2.2.2.2.2.1))&&!(((((decide (s.2.1.2.2.2.2.2.2.2.1>s.2.2.1.2.1))|| (decide (s.2.2.2.1.2.2.2.1>s.2.2.2.2.1.2.2.2.1)))|| (s.2.2.2.2.2.2.2.2.1&& (s.2.1.1 !=(4:Int))))|| (s.2.2.2.2.2.2.2.2.2.1&& (!s.2.2.2.2.2.2.2.2.2.2.2.1)))|| ((s.2.2.2.2.2.2.2.2.2.2.2.2.1 !=(0:Int))&& (!s.2.2.2.2.2.2.2.2.2.2.2.1))))&&((s.2.2.2.2.2.2.1|| (((s.2.1.1==(0:Int))&& (s.2.1.2.1.2.2.1==(0:Int)))&& (s.2.1.2.2.2.2.2.1==(-1:Int))))&& (s.2.2.2.2.2.2.2.1|| (((s.2.2.2.1.1==(0:Int))&& (s.2.2.2.1.2.2.2.1==(0:Int)))&& (!s.2.2.2.2.2.2.2.2.2.2.2.1))))
theorem st3{q a b:Bool}: (bif q then some (false,())else bif a then some (false,())else some (b,()))=some ((!q&& !a)&&b,()):=by cases q<;>cases a<;>rfl
theorem stE{K:Nat}{s:Zd}(h:Xc K s)(hK:K<=1000000):Zb3 s=some (stB s,()):=by
 unfold Zb3 stB;simp only[Q9r h.snd (by omega),Qq0 h.rcv hK,Q5n,Qyq,prE,Y5,Obs,bO,bO2];rw[st3];congr 4;cases J4 s.1<;>cases Qyj s.2.1<;>cases Qjb s.2.2.1<;>cases Z9r s.2.2.2.1<;>cases Z1j s.2.2.2.2.1<;>cases prB s.2.2.2.2.2.1<;>cases J4 s.2.2.2.2.2.2.2.2.2.2.2.2.1<;>cases s.2.2.2.2.2.2.1<;>cases s.2.2.2.2.2.2.2.1<;>rfl
noncomputable def sB:Option Int->List Zd->Bool
 |_,[]=>true
 |p,x::r=>(stB x&& (match p with|none=>true|some q=>decide (q<x.1)))&&sB (some x.1) r
theorem Q4t: ∀{l:List Zd} {p:Option Int},sB p l=true↔(∀s∈l,stB s=true)/\l.Pairwise (fun a b=>a.1<b.1)/\ ∀q,p=some q-> ∀s∈l,q<s.1
 | [],p=>by simp[sB]
 |x::r,p=>by
  have h1: (match p with|none=>true|some q=>decide (q<x.1))=true↔ ∀q,p=some q->q<x.1:=by cases p<;>simp
  simp only[sB,Oba,h1,Q4t (l:=r),List.pairwise_cons,List.mem_cons,forall_eq_or_imp];constructor
  ·rintro⟨⟨a,b⟩,c,d,e⟩;exact⟨⟨a,c⟩,⟨e _ rfl,d⟩,fun q hq=>⟨b q hq,fun s hs=>by have:=b q hq;have:=e _ rfl s hs;omega⟩⟩
  ·rintro⟨⟨a,c⟩,⟨e,d⟩,b⟩;exact⟨⟨a,fun q hq=>(b q hq).1⟩,c,d,fun q hq=>by cases hq;exact e⟩
def pvS(l:List Zd)(i:Nat):Option Int:=if i=0 then none else some (l.getD (i-1) Zh).1
theorem Q2f{K:Nat}{l:List Zd}(h:Zgj K l)(hK:K<=1000000): ∀(N i:Nat),l.length-i<N->i<=l.length->X7 N l (i:Int)=some (sB (pvS l i) (l.drop i)&&decide ((l.length:Int)<=24),())
 |0,_,h,_=>by omega
 |N+1,i,hN,hi=>by
  have hlen:=h.len;rw[X7];by_cases hh:i<l.length
  ·have g: ∀{a:Prop},a->decide ((i:Int)>0)=true->0<=IntKind.i64.wrap ((i:Int)-1)/\IntKind.i64.wrap ((i:Int)-1)< (l.length:Int):=fun _ h=>by
    have:=Ode h;rw[Zv (by omega) (by omega)];omega
   rw[Zn (Zj (by omega)),Zb (by omega),show(i:Int).toNat=i from rfl,stE (h.all _ (Qh (d:=Zh) hh)) hK,Obs,Zb (fun _ _=>by omega),Zb (fun h h2=>g h h2),Zs hh (by omega),Q2f h hK N (i+1) (by omega) (by omega),Kb (d:=Zh) hh];have e:pvS l (i+1)=some (l.getD i Zh).1:=by unfold pvS;rw[if_neg (by omega)];rfl
   rw[e];simp only[sB];by_cases h0:i=0
   ·subst h0;have e2:pvS l 0=none:=rfl;rw[e2,Zk (p:=((0:Nat):Int)>0) (by omega)];generalize stB (l.getD 0 Zh)=b;cases b<;>simp
   ·have e2:pvS l i=some (l.getD (i-1) Zh).1:=by unfold pvS;rw[if_neg h0]
    have e3: (IntKind.i64.wrap ((i:Int)-1)).toNat=i-1:=by rw[Zv (by omega) (by omega)];omega
    rw[e2,Zj (p:=(i:Int)>0) (by omega),e3];have e4:decide ((l.getD i Zh).1<=(l.getD (i-1) Zh).1)= !decide ((l.getD (i-1) Zh).1< (l.getD i Zh).1):=by
     rw[Bool.eq_iff_iff];simp
    rw[e4];dsimp only;generalize stB (l.getD i Zh)=b;generalize decide ((l.getD (i-1) Zh).1< (l.getD i Zh).1)=q;generalize sB (some (l.getD i Zh).1) (List.drop (i+1) l)=y;cases b<;>cases q<;>cases y<;>rfl
  ·rw[Zm (Zk (by omega)),List.drop_eq_nil_of_le (by omega)];simp[sB]
structure Q5f(l:List Zd):Prop where
 all: ∀s∈l,stB s=true
 srt:l.Pairwise fun a b=>a.1<b.1
 len:l.length<=24
noncomputable def Qui(l:List Zd):Bool:=sB none l&&decide ((l.length:Int)<=24)
theorem Q9u{K:Nat}{l:List Zd}(h:Zgj K l)(hK:K<=1000000):Y8 l=some (Qui l,()):=by
 unfold Y8;exact Q2f h hK _ 0 (by unfold Wn;omega) (by omega)
theorem Qwq{l:List Zd}:Qui l=true↔Q5f l:=by
 unfold Qui;simp only[Oba,Q4t,decide_eq_true_eq];constructor
 ·rintro⟨⟨h1,h2,-⟩,h3⟩;exact⟨h1,h2,by omega⟩
 ·rintro⟨h1,h2,h3⟩;exact⟨⟨h1,h2,fun q h=>by cases h⟩,by omega⟩
def Qpc(f:Zd->Int):List Zd->Int->Int| [],n=>n|x::r,n=>Qpc f r (min (IntKind.i64.wrap (n+f x)) 4611686018427387904)
def Z6p(f:Zd->Int):List Zd->Int| []=>0|x::r=>f x+Z6p f r
theorem Qd4{f:Zd->Int}: ∀{l:List Zd} {n:Int},(∀s∈l,0<=f s/\f s<=4611686018427387903)->0<=n->n<=4611686018427387904->Qpc f l n=min (n+Z6p f l) 4611686018427387904/\0<=Z6p f l
 | [],n,_,h0,h1=>by simp only[Qpc,Z6p];omega
 |x::r,n,h,h0,h1=>by
  have hx:=h x (List.mem_cons_self);simp only[Qpc,Z6p];rw[Zv (by omega) (by omega)];obtain⟨a,b⟩:=Qd4 (f:=f) (l:=r) (n:=min (n+f x) 4611686018427387904) (fun s hs=>h s (List.mem_cons_of_mem _ hs)) (by omega) (by omega);rw[a];omega
def Zxr(s:Zd):Int:=s.2.1.2.2.2.2.2.2.2.1
def Zyq(s:Zd):Int:=s.2.2.2.1.2.2.2.1
theorem Xbj{K:Nat}{l:List Zd}(h:Zgj K l)(hK:K<=1000000)(hb:Qui l=true):Zcg l=some (Qpc Zxr l 0,()):=by
 have hlen:=h.len;have lp: ∀(N i:Nat) (n:Int),l.length-i<N->i<=l.length->Ki N l n (i:Int)=some (Qpc Zxr (l.drop i) n,()):=by
  intro N
  induction N with
  |zero=>intro i n h;omega
  |succ N ih=>
   intro i n hN hi;unfold Ki;rw[Q9u h hK,hb,Ka,Obs];by_cases hh:i<l.length
   ·rw[Zj (by omega)];simp only[Oct,Bool.and_self];rw[Zb (by omega),Zs hh (by omega),ih (i+1) _ (by omega) (by omega),Kb (d:=Zh) hh];rfl
   ·rw[Zk (by omega),List.drop_eq_nil_of_le (by omega)];rfl
 unfold Zcg;exact lp _ 0 0 (by unfold Yv;omega) (by omega)
theorem Xbi{K:Nat}{l:List Zd}(h:Zgj K l)(hK:K<=1000000)(hb:Qui l=true):Zcf l=some (Qpc Zyq l 0,()):=by
 have hlen:=h.len;have lp: ∀(N i:Nat) (n:Int),l.length-i<N->i<=l.length->Kh N l n (i:Int)=some (Qpc Zyq (l.drop i) n,()):=by
  intro N
  induction N with
  |zero=>intro i n h;omega
  |succ N ih=>
   intro i n hN hi;unfold Kh;rw[Q9u h hK,hb,Ka,Obs];by_cases hh:i<l.length
   ·rw[Zj (by omega)];simp only[Oct,Bool.and_self];rw[Zb (by omega),Zs hh (by omega),ih (i+1) _ (by omega) (by omega),Kb (d:=Zh) hh];rfl
   ·rw[Zk (by omega),List.drop_eq_nil_of_le (by omega)];rfl
 unfold Zcf;exact lp _ 0 0 (by unfold Yu;omega) (by omega)
theorem Xca{l:List Zl}(h:Qpt l):Zch l=some (l.all Yo,()):=by
 have hlen:=h.1;have lp: ∀(N i:Nat),l.length-i<N->i<=l.length->Ji N l (i:Int)=some ((l.drop i).all Yo,()):=by
  intro N
  induction N with
  |zero=>intro i h;omega
  |succ N ih=>
   intro i hN hi;unfold Ji;by_cases hh:i<l.length
   ·have hf:FOK (l.getD i Zcj):=h.2 _ (Qh hh);unfold FOK at hf;rw[Zn (Zj (by omega)),Zb (by omega),show(i:Int).toNat=i from rfl,Ztj _ (by omega),Obs,Zs hh (by omega),ih (i+1) (by omega) (by omega),Kb (d:=Zcj) hh,List.all_cons];generalize Yo (l.getD i Zcj)=b;cases b<;>rfl
   ·rw[Zm (Zk (by omega)),List.drop_eq_nil_of_le (by omega)];rfl
 unfold Zch;exact lp _ 0 (by unfold Kq;omega) (by omega)
def pkB(n:Int):Option Int->List Z8->Bool
 |_,[]=>true
 |p,x::r=>((inB x.1 0 (IntKind.i64.wrap (n-1))&& (match p with|none=>true|some q=>decide (q<x.1)))&&x.2.1.all Yo)&&pkB n (some x.1) r
def pvP(l:List Z8)(i:Nat):Option Int:=if i=0 then none else some (l.getD (i-1) Qg).1
noncomputable def Qsj(c:Zg):Bool:=((((inB c.2.2.2.2.2.2.2.2.2.2.2.2.2.1 (-1) 4611686018427387903&&inB c.2.2.2.2.2.2.2.2.2.2.2.2.2.2.1 0 1000000)&&inB c.2.2.2.2.2.2.2.2.2.2.2.2.2.2.2.2.1 0 1000000)&&inB c.2.2.2.2.2.2.2.2.2.2.2.2.2.2.2.2.2.1 0 255)&&decide (Qpc Zxr c.2.2.2.1 0<=c.2.2.2.2.1.2.1))&&decide (Qpc Zyq c.2.2.2.1 0<=c.2.2.2.2.2.1.2.2.2.1)
theorem Qy5{K:Nat}{c:Zg}(h:Qe K c)(hK:K<=1000000)(hb:Qui c.2.2.2.1=true): ∀(N i:Nat),c.2.2.2.2.2.2.2.2.2.2.2.2.2.2.2.1.length-i<N->i<=c.2.2.2.2.2.2.2.2.2.2.2.2.2.2.2.1.length->
  Zad N c (i:Int)=some (pkB c.2.2.2.2.2.2.2.2.2.2.2.2.2.2.1 (pvP c.2.2.2.2.2.2.2.2.2.2.2.2.2.2.2.1 i) (c.2.2.2.2.2.2.2.2.2.2.2.2.2.2.2.1.drop i)&&Qsj c,())
 |0,_,h,_=>by omega
 |N+1,i,hN,hi=>by
  have hlen:=h.pk.1;rw[Zad];by_cases hh:i<c.2.2.2.2.2.2.2.2.2.2.2.2.2.2.2.1.length
  ·have ih:=Qy5 h hK hb N (i+1) (by omega) (by omega);have hp:=h.pk.2 _ (Qh (d:=Qg) hh);generalize c.2.2.2.2.2.2.2.2.2.2.2.2.2.2.1=n at*
   generalize c.2.2.2.2.2.2.2.2.2.2.2.2.2.2.2.1=l at*
   have g: ∀{a:Prop},a->decide ((i:Int)>0)=true->0<=IntKind.i64.wrap ((i:Int)-1)/\IntKind.i64.wrap ((i:Int)-1)< (l.length:Int):=fun _ h=>by
    have:=Ode h;rw[Zv (by omega) (by omega)];omega
   rw[Zn (Zj (by omega)),Zb (by omega),show(i:Int).toNat=i from rfl,inQ,Obs,Zb (fun _ _=>by omega),Zb (fun h h2=>g h h2),Zb (fun _=>by omega),Zs hh (by omega),ih,Kb (d:=Qg) hh,Xca hp,Ka,Obs];have e:pvP l (i+1)=some (l.getD i Qg).1:=by unfold pvP;rw[if_neg (by omega)];rfl
   rw[e];simp only[pkB];by_cases h0:i=0
   ·subst h0;have e2:pvP l 0=none:=rfl;rw[e2,Zk (p:=((0:Nat):Int)>0) (by omega)];generalize inB (l.getD 0 Qg).1 0 (IntKind.i64.wrap (n-1))=b;generalize (l.getD 0 Qg).2.1.all Yo=d;cases b<;>cases d<;>simp
   ·have e2:pvP l i=some (l.getD (i-1) Qg).1:=by unfold pvP;rw[if_neg h0]
    have e3: (IntKind.i64.wrap ((i:Int)-1)).toNat=i-1:=by rw[Zv (by omega) (by omega)];omega
    rw[e2,Zj (p:=(i:Int)>0) (by omega),e3];have e4:decide ((l.getD i Qg).1<=(l.getD (i-1) Qg).1)= !decide ((l.getD (i-1) Qg).1< (l.getD i Qg).1):=by
     rw[Bool.eq_iff_iff];simp
    rw[e4];dsimp only;generalize inB (l.getD i Qg).1 0 (IntKind.i64.wrap (n-1))=b;generalize (l.getD i Qg).2.1.all Yo=d;generalize decide ((l.getD (i-1) Qg).1< (l.getD i Qg).1)=q;generalize pkB n (some (l.getD i Qg).1) (List.drop (i+1) l)=y;cases b<;>cases q<;>cases d<;>cases y<;>rfl
  ·rw[Zm (Zk (by omega)),List.drop_eq_nil_of_le (by omega)];simp only[pkB,Ota,inQ,Obs,bA,bA2,Xbj h.str hK hb,Xbi h.str hK hb];unfold Qsj;generalize inB c.2.2.2.2.2.2.2.2.2.2.2.2.2.1 (-1) 4611686018427387903=b1;generalize inB c.2.2.2.2.2.2.2.2.2.2.2.2.2.2.1 0 1000000=b2;generalize inB c.2.2.2.2.2.2.2.2.2.2.2.2.2.2.2.2.1 0 1000000=b3;generalize inB c.2.2.2.2.2.2.2.2.2.2.2.2.2.2.2.2.2.1 0 255=b4;cases b1<;>cases b2<;>cases b3<;>cases b4<;>try rfl
   simp only[Bool.and_self,Oct,Obs,Ota];generalize decide (Qpc Zxr c.2.2.2.1 0<=c.2.2.2.2.1.2.1)=b5;cases b5<;>rfl
structure Zx6(c:Zg):Prop where
 own:cfB c.2.1=true
 peer:cfB c.2.2.1=true
 sts:Qui c.2.2.2.1=true
 tot:Qjb c.2.2.2.2.1=true
 inf:Z1j c.2.2.2.2.2.1=true
 ob:Zwp c.2.2.2.2.2.2.1=true
 ou:Zwp c.2.2.2.2.2.2.2.1=true
 ab:Z1l c.2.2.2.2.2.2.2.2.1=true
 au:Z1l c.2.2.2.2.2.2.2.2.2.1=true
 pks:pkB c.2.2.2.2.2.2.2.2.2.2.2.2.2.2.1 none c.2.2.2.2.2.2.2.2.2.2.2.2.2.2.2.1=true
 tail:Qsj c=true
noncomputable def Ztr(c:Zg):Bool:=match Y2 c with|some (b,_)=>b|none=>false
theorem Qpy{K:Nat}{c:Zg}(h:Qe K c)(hK:K<=1000000):Y2 c=some (Ztr c,()):=by
 obtain⟨⟨b,u⟩,e,-⟩:=Zyy h hK;unfold Ztr;rw[e]
theorem Q2u{K:Nat}{c:Zg}(h:Qe K c)(hK:K<=1000000):Ztr c=true↔Zx6 c:=by
 unfold Ztr Y2;simp only[cfE,Q9u h.str hK,Q5n,Qyq,Q8o,Q5i,Obs,bO,bO2];by_cases hc: ((((((((!cfB c.2.1|| !cfB c.2.2.1)|| !Qui c.2.2.2.1)|| !Qjb c.2.2.2.2.1)|| !Z1j c.2.2.2.2.2.1)|| !Zwp c.2.2.2.2.2.2.1)|| !Zwp c.2.2.2.2.2.2.2.1)|| !Z1l c.2.2.2.2.2.2.2.2.1)|| !Z1l c.2.2.2.2.2.2.2.2.2.1)=true
 ·rw[hc,Oct];refine⟨fun h=>Bool.noConfusion h,fun h=> ?_⟩;rw[h.own,h.peer,h.sts,h.tot,h.inf,h.ob,h.ou,h.ab,h.au]at hc;simp at hc
 ·have hc: ((((((((!cfB c.2.1|| !cfB c.2.2.1)|| !Qui c.2.2.2.1)|| !Qjb c.2.2.2.2.1)|| !Z1j c.2.2.2.2.2.1)|| !Zwp c.2.2.2.2.2.2.1)|| !Zwp c.2.2.2.2.2.2.2.1)|| !Z1l c.2.2.2.2.2.2.2.2.1)|| !Z1l c.2.2.2.2.2.2.2.2.2.1)=false:=by simpa using hc
  rw[hc,Ocf];simp only[Bool.or_eq_false_iff,Bool.not_eq_false']at hc;obtain⟨⟨⟨⟨⟨⟨⟨⟨h1,h2⟩,h3⟩,h4⟩,h5⟩,h6⟩,h7⟩,h8⟩,h9⟩:=hc;have lp:=Qy5 h hK h3 (K9 c 0) 0 (by unfold K9;omega) (by omega);simp only[Int.natCast_zero,List.drop_zero]at lp;rw[lp];simp only[Oba];exact⟨fun h=>⟨h1,h2,h3,h4,h5,h6,h7,h8,h9,h.1,h.2⟩,fun h=>⟨h.pks,h.tail⟩⟩
structure StF(s:Zd):Prop where
 id:0<=s.1/\s.1<=4611686018427387903
 snd:Q18 s.2.1
 cre:Q15 s.2.2.1
 rcv:Z9r s.2.2.2.1=true
 win:Qpv s.2.2.2.2.1
 pr:0<=s.2.2.2.2.2.1.1/\s.2.2.2.2.2.1.1<=7
 code:0<=s.2.2.2.2.2.2.2.2.2.2.2.2.1/\s.2.2.2.2.2.2.2.2.2.2.2.2.1<=4611686018427387903
 can:s.2.2.2.2.2.2.1=true\/s.2.2.2.2.2.2.2.1=true
 su:s.2.1.2.2.2.2.2.2.2.1<=s.2.2.1.2.1
 hs:s.2.2.2.1.2.2.2.1<=s.2.2.2.2.1.2.2.2.1
 tr:s.2.2.2.2.2.2.2.2.1=true->s.2.1.1=4
 ts:s.2.2.2.2.2.2.2.2.2.1=true->s.2.2.2.2.2.2.2.2.2.2.2.1=true
 sc:s.2.2.2.2.2.2.2.2.2.2.2.2.1≠0->s.2.2.2.2.2.2.2.2.2.2.2.1=true
 cs:s.2.2.2.2.2.2.1=true\/(s.2.1.1=0/\s.2.1.2.1.2.2.1=0/\s.2.1.2.2.2.2.2.1= -1)
 cr:s.2.2.2.2.2.2.2.1=true\/(s.2.2.2.1.1=0/\s.2.2.2.1.2.2.2.1=0/\s.2.2.2.2.2.2.2.2.2.2.2.1=false)
theorem Xbp{K:Nat}{s:Zd}(h:Xc K s)(hK:K<=1000000):stB s=true↔StF s:=by
 unfold stB prB;simp only[Oba,Bool.or_eq_true,Bool.not_eq_true',Bool.or_eq_false_iff,Bool.and_eq_false_iff,decide_eq_false_iff_not,bne_eq_false_iff_eq,beq_iff_eq,Zkx,X4,Q9s h.snd (show(K:Int)<=1000000 by omega),Qsu,Zu1,Bool.not_eq_false'];constructor
 ·rintro⟨⟨⟨⟨⟨⟨⟨⟨⟨h1,h2⟩,h3⟩,h4⟩,h5⟩,h6⟩,h7⟩,h8⟩,⟨⟨⟨h9,h10⟩,h11⟩,h12⟩,h13⟩,h14,h15⟩;exact⟨h1,h2,h3,h4,h5,h6,h7,h8,by omega,by omega,fun h=>by rcases h11 with h'|h';rw[h]at h';cases h';exact h',fun h=>by rcases h12 with h'|h';rw[h]at h';cases h';exact h',
   fun h=>by rcases h13 with h'|h';exact absurd h' h;exact h',by rcases h14 with h| ⟨⟨a,b⟩,c⟩;exact .inl h;exact .inr ⟨a,b,c⟩,by rcases h15 with h| ⟨⟨a,b⟩,c⟩;exact .inl h;exact .inr ⟨a,b,c⟩⟩
 ·rintro⟨h1,h2,h3,h4,h5,h6,h7,h8,h9,h10,h11,h12,h13,h14,h15⟩;refine⟨⟨⟨⟨⟨⟨⟨⟨⟨h1,h2⟩,h3⟩,h4⟩,h5⟩,h6⟩,h7⟩,h8⟩,⟨⟨⟨by omega,by omega⟩,?_⟩,?_⟩,?_⟩,?_,?_⟩
  ·cases e:s.2.2.2.2.2.2.2.2.1
   ·exact .inl rfl
   ·exact .inr (h11 e)
  ·cases e:s.2.2.2.2.2.2.2.2.2.1
   ·exact .inl rfl
   ·exact .inr (h12 e)
  ·by_cases e:s.2.2.2.2.2.2.2.2.2.2.2.2.1=0
   ·exact .inl e
   ·exact .inr (h13 e)
  ·rcases h14 with h| ⟨a,b,c⟩
   ·exact .inl h
   ·exact .inr ⟨⟨a,b⟩,c⟩
  ·rcases h15 with h| ⟨a,b,c⟩
   ·exact .inl h
   ·exact .inr ⟨⟨a,b⟩,c⟩
theorem Zx6.st{K:Nat}{c:Zg}(hc:Zx6 c)(h:Qe K c)(hK:K<=1000000){s:Zd}(hs:s∈c.2.2.2.1):StF s:=(Xbp (h.str.all s hs) hK).1 ((Qwq.1 hc.sts).all s hs)
theorem Qij{K:Int}{s:Zo}(h:Za6 K s)(hK:K<=1000000):Zj0 s=some (s,()):=by
 have l1:=Qz h.pend h.e0 h.eK hK;have l2:=Qz h.flight h.e0 h.eK hK;have l3:=Qz h.acked h.e0 h.eK hK;have l4:=h.cells;unfold Zj0 Zwa;rw[Zb (by unfold Qo;simp only[List.length_nil];omega),Zop _ (by omega),Zop _ (by omega),Zop _ (by omega)];rfl
theorem Z1w{K:Nat}{s:Zd}(h:Xc K s)(hK:K<=1000000):Zfc s=some (s,()):=by
 have l1:=h.rcv.len;unfold Zfc W7 Zfb;rw[Qij h.snd (by omega),Zb (by unfold Qo;simp only[List.length_nil];omega)];rfl
theorem Zqx{K:Nat}{l:List Zd}(h:Zgj K l)(hK:K<=1000000): ∀(N i:Nat),l.length-i<N->i<=l.length->Zdd N (l.take i) l (l.length:Int) (i:Int)=some (l,())
 |0,_,h,_=>by omega
 |N+1,i,hN,hi=>by
  have hl:=h.len;unfold Zdd;by_cases hh:i<l.length
  ·rw[Zn (Zj (by omega)),Zb (by omega),show(i:Int).toNat=i from rfl,Z1w (h.all _ (Qh (d:=Zh) hh)) hK,Obs,Zb (by unfold Qo;simp only[List.length_take,List.length_singleton];omega),Zs hh (by omega)];have e:l.take i++ [l.getD i Zh]=l.take (i+1):=by
    rw[List.take_succ_eq_append_getElem hh,List.getD_eq_getElem?_getD,List.getElem?_eq_getElem hh];rfl
   rw[e];exact Zqx h hK N (i+1) (by omega) (by omega)
  ·rw[Zm (Zk (by omega)),List.take_of_length_le (by omega)]
theorem Z6t{K:Nat}{l:List Z8}(h:Qpu K l)(hK:K<=1000000): ∀(N i:Nat),l.length-i<N->i<=l.length->Zdc N (l.take i) l (l.length:Int) (i:Int)=some (l,())
 |0,_,h,_=>by omega
 |N+1,i,hN,hi=>by
  have hl:=h.1;unfold Zdc;by_cases hh:i<l.length
  ·have hm:=(h.2 _ (Qh (d:=Qg) hh)).1;rw[Zn (Zj (by omega)),Zb (by omega),show(i:Int).toNat=i from rfl,Zb (by unfold Qo;simp only[List.length_nil];omega)];simp only[List.nil_append];rw[Zb (by unfold Qo;simp only[List.length_take,List.length_singleton];omega),Zs hh (by omega)];have e:l.take i++ [((l.getD i Qg).1,((l.getD i Qg).2.1,()))]=l.take (i+1):=by
    rw[List.take_succ_eq_append_getElem hh,List.getD_eq_getElem?_getD,List.getElem?_eq_getElem hh];rfl
   rw[e];exact Z6t h hK N (i+1) (by omega) (by omega)
  ·rw[Zm (Zk (by omega)),List.take_of_length_le (by omega)]
theorem Z4a{K:Nat}{c:Zg}(h:Qe K c)(hK:K<=1000000):Qp c=some (c,()):=by
 have e1:=Zqx h.str hK (Ky ([]:List Zd) c.2.2.2.1 (c.2.2.2.1.length:Int) (0:Int)) 0 (by unfold Ky;omega) (by omega);have e2:=Z6t h.pk hK (Zbz ([]:List Z8) c.2.2.2.2.2.2.2.2.2.2.2.2.2.2.2.1 (c.2.2.2.2.2.2.2.2.2.2.2.2.2.2.2.1.length:Int) (0:Int)) 0 (by unfold Zbz;omega) (by omega);simp only[List.take_zero,Int.natCast_zero]at e1 e2;unfold Qp Wj Zql;rw[e1,e2];rfl
def Pc{α:Type}(m:Option α)(Q:α->Prop):Prop:= ∀y,m=some y->Q y
section
variable {α β:Type} {m n:Option α} {f:α->Option β} {Q:α->Prop} {R:β->Prop}
theorem Pc.bind(h:Pc m Q)(k: ∀y,Q y->Pc (f y) R):Pc (Option.bind m f) R:=fun y e=>by
 cases hm:m with
 |none=>rw[hm]at e;cases e
 |some x=>rw[hm]at e;exact k x (h x hm) y e
theorem Pc.any:Pc m fun _=>True:=fun _ _=>trivial
theorem Pc.skip(k: ∀y,Pc (f y) R):Pc (Option.bind m f) R:=Pc.any.bind fun y _=>k y
theorem Pc.pure{y:α}(h:Q y):Pc (some y) Q:=fun z e=>by cases e;exact h
theorem Pc.ite{c:Bool}(h1:c=true->Pc m Q)(h2:c=false->Pc n Q):Pc (bif c then m else n) Q:=by
 cases c
 ·exact h2 rfl
 ·exact h1 rfl
theorem Pc.guard{p:Prop}(h:Pc m Q):Pc (Zi p m) Q:=fun y e=>by
 by_cases hp:p
 ·rw[Zb hp]at e;exact h y e
 ·unfold Zi at e;rw[if_neg hp]at e;cases e
end
theorem T.pc{α:Type}{m:Option α}{Q R:α->Prop}(h:T m Q)(k:Pc m R):T m fun y=>Q y/\R y:=by
 obtain⟨y,e,hy⟩:=h;exact⟨y,e,hy,k y e⟩
theorem Pc.if{α:Type}{m n:Option α}{Q:α->Prop}{c:Bool}(h1:Pc m Q)(h2:Pc n Q):Pc (bif c then m else n) Q:=Pc.ite (fun _=>h1) fun _=>h2
theorem Pc.none{α:Type}{Q:α->Prop}:Pc (none:Option α) Q:=fun _ e=>by cases e
def Zgy(v:Bool)(s:Zd):Prop:=(s.2.2.2.2.2.2.1=false/\s.2.2.2.2.2.2.2.1=false)\/(Yr v s.1=some (s.2.2.2.2.2.2.1,())/\Q8 v s.1=some (s.2.2.2.2.2.2.2.1,()))
structure KC(v:Bool)(c:Zg):Prop where
 sv:c.1=v
 str: ∀s∈c.2.2.2.1,Zgy v s
section
variable {v:Bool}
theorem Xaf:Zgy v Zh:= .inl ⟨rfl,rfl⟩
theorem Q82{l:List Zd}(h: ∀s∈l,Zgy v s)(i:Nat):Zgy v (l.getD i Zh):=by
 by_cases hi:i<l.length
 ·exact h _ (Qh (d:=Zh) hi)
 ·rw[List.getD_eq_getElem?_getD,List.getElem?_eq_none (Nat.le_of_not_lt hi)];exact Xaf
theorem Qrc{s:Zd}(h:Zgy v s):Pc (Zag s) fun r=>Zgy v r.1:=by
 unfold Zag;exact Pc.skip fun t=>Pc.skip fun t2=>Pc.pure h
theorem Q5j{l:List Zd}{s:Zd}(h: ∀x∈l,Zgy v x)(hs:Zgy v s): ∀x∈l++ [s],Zgy v x:=fun x hx=>by
 rcases List.mem_append.1 hx with hx|hx
 ·exact h x hx
 ·rw[List.mem_singleton.1 hx];exact hs
theorem Q4i{l:List Zd}{s:Zd}(h: ∀x∈l,Zgy v x)(hs:Zgy v s)(a:Int): ∀(N:Nat) (out:List Zd) (p:Bool) (i:Int),(∀x∈out,Zgy v x)->Pc (Qt N l s out a p i) fun r=> ∀x∈r.1,Zgy v x
 |0,_,_,_,_=>Pc.none
 |N+1,out,p,i,ho=>by
  unfold Qt;have j: ∀o q x,(∀x∈o,Zgy v x)->Zgy v x->Pc (Xm (fun v=>Qt N v.1 v.2.1 v.2.2.1 v.2.2.2.1 v.2.2.2.2.1 v.2.2.2.2.2.1) l s o a q i x) fun r=> ∀x∈r.1,Zgy v x:=fun o q x h1 h2=>by
   unfold Xm;exact Pc.guard (Q4i h hs a N _ _ _ (Q5j h1 h2))
  exact Pc.if (Pc.guard ((Qrc (Q82 h _)).bind fun t ht=>Pc.if ((Qrc hs).bind fun t2 h2=>j _ _ _ ho h2) (Pc.guard (Pc.if ((Qrc hs).bind fun t2 h2=>Pc.guard (j _ _ _ (Q5j ho h2) ht)) (j _ _ _ ho ht))))) (Pc.if ((Qrc hs).bind fun t2 h2=>Pc.guard (Pc.pure (Q5j ho h2))) (Pc.pure ho))
theorem Q6o{l:List Zd}{s:Zd}(h: ∀x∈l,Zgy v x)(hs:Zgy v s):Pc (Qi l s) fun r=> ∀x∈r.1,Zgy v x:=by
 unfold Qi;exact Pc.skip fun t=>Q4i h hs _ _ _ _ _ (by simp)
theorem KC.put{c:Zg}(h:KC v c){s:Zd}(hs:Zgy v s):Pc (Qi c.2.2.2.1 s) fun r=> ∀x∈r.1,Zgy v x:=Q6o h.str hs
theorem Zk5{c:Zg}(h:KC v c)(i:Int):Pc (Qv c i) fun r=>Zgy v r.1:=by
 unfold Qv;exact Pc.skip fun t=>Pc.if (Pc.pure Xaf) (Pc.guard ((Qrc (Q82 h.str _)).bind fun t2 h2=>Pc.pure h2))
theorem Q7r{c:Zg}(h:KC v c)(t:Zg): ∀(N:Nat) (x:Zg) (i:Int),KC v x->Pc (Zcz N c t x i) fun r=>KC v r.1
 |0,_,_,_=>Pc.none
 |N+1,x,i,hx=>by
  unfold Zcz;exact Pc.if (Pc.guard ((Qrc (Q82 h.str _)).bind fun t2 h2=>Pc.guard (Q7r h t N _ _ ⟨hx.sv,Q5j hx.str h2⟩))) (Pc.skip fun t3=>Pc.pure ⟨hx.sv,hx.str⟩)
theorem cpK{c:Zg}(h:KC v c):Pc (Z6 c) fun r=>KC v r.1:=by
 unfold Z6;exact Q7r h _ _ _ _ ⟨h.sv,by simp⟩
theorem Qog(id:Int)(o p:Zfp):Pc (Kx v id o p) fun r=>Zgy v r.1:=by
 unfold Kx;exact Pc.skip fun t1=>Pc.skip fun t2=>Pc.skip fun t3=>Pc.if (Pc.pure Xaf) (Pc.skip fun t4=>Pc.skip fun t5=>Pc.bind (Q:=fun y=>Yr v id=some y) (fun y e=>e) fun t6 h6=>Pc.bind (Q:=fun y=>Q8 v id=some y) (fun y e=>e) fun t7 h7=>Pc.skip fun t8=>Pc.skip fun t9=>Pc.skip fun t10=>Pc.pure (.inr ⟨h6,h7⟩))
theorem Xa4{c:Zg}(h:KC v c)(u:Bool):Pc (Zfk c u) fun r=>KC v r.2.1:=by
 have j2: ∀u t x i b,KC v x->Pc (Wb u c t x i b) fun r=>KC v r.2.1:=fun u t x i b hx=>by
  unfold Wb;rw[h.sv];exact Pc.if (Pc.pure hx) (Pc.skip fun t1=>(Qog _ _ _).bind fun t2 h2=>(hx.put h2).bind fun t3 h3=>Pc.pure ⟨hx.sv,h3⟩)
 have j1: ∀u t x n,KC v x->Pc (Wa u c t x n) fun r=>KC v r.2.1:=fun u t x n hx=>by
  unfold Wa;exact Pc.skip fun t1=>Pc.if (j2 _ _ _ _ _ ⟨hx.sv,hx.str⟩) (j2 _ _ _ _ _ ⟨hx.sv,hx.str⟩)
 unfold Zfk;exact(cpK h).bind fun t1 h1=>Pc.skip fun t2=>Pc.if (Pc.pure h1) (Pc.if (j1 _ _ _ _ h1) (j1 _ _ _ _ h1))
theorem Xae{c:Zg}(h:KC v c)(i:Int)(d:List UInt8):Pc (Zd5 c i d) fun r=>KC v r.2.1:=by
 unfold Zd5;exact(cpK h).bind fun t1 h1=>(Zk5 h i).bind fun s hs=>Pc.skip fun t2=>Pc.if (Pc.pure h1) (Pc.skip fun t3=>(h1.put (by exact hs)).bind fun t4 h4=>Pc.pure ⟨h1.sv,h4⟩)
theorem Q5u{c:Zg}(h:KC v c)(i:Int):Pc (Zcr c i) fun r=>KC v r.1:=by
 unfold Zcr;exact(cpK h).bind fun t1 h1=>(Zk5 h i).bind fun s hs=>Pc.skip fun t2=>Pc.if (Pc.pure h1) (Pc.skip fun t3=>Pc.if (Pc.pure h1) ((h1.put (by exact hs)).bind fun t4 h4=>Pc.pure ⟨h1.sv,h4⟩))
theorem Q4m{x:Zg}{s:Zd}(h:KC v x)(hs:Zgy v s)(n:Int):Pc (Zgd x s n) fun r=>KC v r.2.1/\Zgy v r.2.2.1:=by
 unfold Zgd;exact Pc.skip fun t1=>Pc.skip fun t2=>Pc.pure ⟨⟨h.sv,h.str⟩,hs⟩
theorem Xa6{x:Zg}{s:Zd}(h:KC v x)(hs:Zgy v s):Pc (Zjp x s) fun r=>KC v r.2.1/\Zgy v r.2.2.1:=by
 unfold Zjp;exact Pc.skip fun t1=>Pc.skip fun t2=>Pc.if (Pc.pure ⟨h,hs⟩) (Pc.skip fun t3=>Pc.if (Pc.skip fun t4=>Pc.pure ⟨⟨h.sv,h.str⟩,hs⟩) (Pc.skip fun t4=>Pc.pure ⟨⟨h.sv,h.str⟩,hs⟩))
theorem Qr7{x:Zg}{s:Zd}(h:KC v x)(hs:Zgy v s):Pc (Jj x s) fun r=>KC v r.2.1:=by
 unfold Jj;exact(Xa6 h hs).bind fun t1 h1=>(h1.1.put h1.2).bind fun t2 h2=>Pc.pure ⟨h1.1.sv,h2⟩
theorem Xbc{c:Zg}(h:KC v c)(i m:Int):Pc (Zfl c i m) fun r=>KC v r.1.2.2.1:=by
 have j: ∀t x s d r,KC v x->Zgy v s->Pc (Wc t x s d r) fun r=>KC v r.1.2.2.1:=fun t x s d r hx hs=>by
  unfold Wc;exact(Qr7 hx hs).bind fun t3 h3=>Pc.pure h3
 unfold Zfl;exact(cpK h).bind fun t1 h1=>(Zk5 h i).bind fun s hs=>Pc.skip fun t2=>Pc.if (Pc.pure h1) (Pc.skip fun t3=>Pc.if ((Q4m h1 (by exact hs) _).bind fun t4 h4=>j _ _ _ _ _ h4.1 h4.2) (j _ _ _ _ _ h1 (by exact hs)))
theorem Q9m{c:Zg}(h:KC v c)(i k:Int):Pc (Zd3 c i k) fun r=>KC v r.1.1:=by
 unfold Zd3;exact(cpK h).bind fun t1 h1=>(Zk5 h i).bind fun s hs=>Pc.skip fun t2=>Pc.if (Pc.pure h1) (Pc.skip fun t3=>Pc.if (Pc.pure h1) ((Qr7 h1 (by exact hs)).bind fun t4 h4=>Pc.pure h4))
theorem Xce{c:Zg}(h:KC v c)(i:Int)(d:List UInt8):Pc (Zd4 c i d) fun r=>KC v r.1:=by
 unfold Zd4;exact(cpK h).bind fun t1 h1=>(Zk5 h i).bind fun s hs=>Pc.skip fun t2=>Pc.if (Pc.pure h1) (Pc.skip fun t3=>(h1.put (by exact hs)).bind fun t4 h4=>Pc.pure ⟨h1.sv,h4⟩)
end
section
variable {v:Bool}
theorem Xap{s:Zd}(hs:Zgy v s)(c:Zg)(k:Int):Pc (Zmo c s k) fun r=>Zgy v r.1.1:=by
 unfold Zmo;exact Pc.if (Pc.pure hs) (Pc.if (Pc.pure hs) (Pc.if (Pc.skip fun t=>Pc.if (Pc.pure hs) (Pc.pure hs)) (Pc.if (Pc.skip fun t=>Pc.pure hs) (Pc.pure hs))))
theorem Qtx{c:Zg}(h:KC v c)(f:Zl):Pc (Zd1 c f) fun r=>KC v r.1:=by
 unfold Zd1;exact(cpK h).bind fun t1 h1=>Pc.skip fun t2=>Pc.if (Pc.pure h1) (Pc.if (Pc.skip fun t=>Pc.pure ⟨h1.sv,h1.str⟩) (Pc.if (Pc.if (Pc.skip fun t=>Pc.pure ⟨h1.sv,h1.str⟩) (Pc.skip fun t=>Pc.pure ⟨h1.sv,h1.str⟩)) (Pc.if (Pc.skip fun t=>Pc.pure ⟨h1.sv,h1.str⟩) (Pc.if (Pc.if (Pc.pure ⟨h1.sv,h1.str⟩) (Pc.pure ⟨h1.sv,h1.str⟩)) ((Zk5 h _).bind fun s hs=>Pc.if ((Xap hs _ _).bind fun t3 h3=>(h1.put h3).bind fun t4 h4=>Pc.pure ⟨h1.sv,h4⟩) (Pc.pure h1))))))
theorem Qxr{c:Zg}(h:KC v c)(i:Int)(p:Ks):Pc (Zii c i p) fun r=>KC v r.1:=by
 unfold Zii;exact(cpK h).bind fun t1 h1=>(Zk5 h i).bind fun s hs=>Pc.skip fun t2=>Pc.if (Pc.pure h1) (Pc.skip fun t3=>Pc.skip fun t4=>Pc.skip fun t5=>Pc.if (Pc.pure h1) ((h1.put (by exact hs)).bind fun t6 h6=>Pc.pure ⟨h1.sv,h6⟩))
theorem Z1o{c:Zg}(h:KC v c)(i:Int):Pc (Zkh c i) fun r=>KC v r.2.1:=by
 unfold Zkh;exact(Zk5 h i).bind fun s hs=>Pc.skip fun t2=>Pc.skip fun t3=>(h.put (by exact hs)).bind fun t4 h4=>Pc.pure ⟨h.sv,h4⟩
theorem Q3c(K1: (Zg×List Zl×Int×List Int×Int×Unit)->Option ((List Zl×Unit)×(Zg×Unit)))(hk: ∀y,KC v y.1->Pc (K1 y) fun r=>KC v r.2.1){x:Zg}(h:KC v x): ∀(N:Nat) (fr:List Zl) (room:Int) (sk:List Int) (i:Int) (l:List Zz) (k:Int),Pc (Zc2 K1 N x fr room sk i l k) fun r=>KC v r.2.1
 |0,_,_,_,_,_,_=>Pc.none
 |N+1,fr,room,sk,i,l,k=>by
  have j1: ∀x fr room sk i,KC v x->Pc (Zc1 K1 x fr room sk i) fun r=>KC v r.2.1:=fun x fr room sk i hx=>by
   unfold Zc1;exact hk _ hx
  have j2: ∀fr room sk i id p y b,KC v y->Pc (Zfn K1 x fr room sk i id p y b) fun r=>KC v r.2.1:=fun fr room sk i id p y b hy=>by
   unfold Zfn;exact Pc.if (Pc.pure h) (Pc.skip fun t=>Pc.guard (Pc.skip fun t2=>j1 _ _ _ _ _ hy))
  unfold Zc2;simp only[Je];exact Pc.if (Pc.guard (Pc.skip fun t=>Q3c K1 hk h N _ _ _ _ _ _)) (Pc.skip fun t=>Pc.if (Pc.pure h) (Pc.skip fun t2=>Pc.if ((Z1o h _).bind fun t3 h3=>Pc.guard (j1 _ _ _ _ _ h3)) ((Qxr h _ _).bind fun t3 h3=>j2 _ _ _ _ _ _ _ _ h3)))
theorem Q3b: ∀(N:Nat) (x:Zg) (fr:List Zl) (room:Int) (sk:List Int) (i:Int),KC v x->Pc (J0 N x fr room sk i) fun r=>KC v r.2.1
 |0,_,_,_,_,_,_=>Pc.none
 |N+1,x,fr,room,sk,i,h=>by
  unfold J0;exact Pc.if (Pc.skip fun t=>Q3c _ (fun y hy=>Q3b N _ _ _ _ _ hy) h _ _ _ _ _ _ _) (Pc.pure h)
theorem Qy9(c t:Zg): ∀(N:Nat) (x:Zg) (fr:List Zl) (room:Int) (l:List Zl) (i:Int),KC v x->Pc (Yy N c t x fr room l i) fun r=>KC v r.1.2.2.1
 |0,_,_,_,_,_,_=>Pc.none
 |N+1,x,fr,room,l,i,h=>by
  have j: ∀x fr room l i,KC v x->Pc (V5 (fun v=>Yy N v.1 v.2.1 v.2.2.1 v.2.2.2.1 v.2.2.2.2.1 v.2.2.2.2.2.1 v.2.2.2.2.2.2.1) c t x fr room l i) fun r=>KC v r.1.2.2.1:=fun x fr room l i hx=>by
   unfold V5;exact Qy9 c t N _ _ _ _ _ hx
  unfold Yy Zp7;exact Pc.if (Pc.guard (Pc.skip fun t=>Pc.if (Pc.guard (Pc.skip fun t2=>Pc.guard ((Qtx h _).bind fun t3 h3=>Pc.guard (Pc.guard (j _ _ _ _ _ h3))))) (j _ _ _ _ _ h))) ((Q3b _ _ _ _ _ _ h).bind fun t3 h3=>Pc.if (Pc.pure h3) (Pc.guard (Pc.skip fun t4=>Pc.pure ⟨h3.sv,h3.str⟩)))
theorem Xaq{c:Zg}(h:KC v c)(b:Int):Pc (Zfh c b) fun r=>KC v r.1.2.2.1:=by
 unfold Zfh;exact(cpK h).bind fun t1 h1=>Pc.skip fun t2=>Pc.skip fun t3=>Pc.if (Pc.pure h1) (Pc.skip fun t4=>Qy9 _ _ _ _ _ _ _ _ h1)
theorem Q73(id:Int): ∀(N:Nat) (x:Zg) (i:Int),KC v x->Pc (Y9 N x id i) fun r=>KC v r.2.1
 |0,_,_,_=>Pc.none
 |N+1,x,i,h=>by
  have j: ∀i s,Zgy v s->Pc (Zfm (fun v=>Y9 N v.1 v.2.1 v.2.2.1) x id i s) fun r=>KC v r.2.1:=fun i s hs=>by
   unfold Zfm;exact(h.put hs).bind fun t ht=>Q73 id N _ _ ⟨h.sv,ht⟩
  unfold Y9;simp only[Je,h.sv];exact Pc.if ((Qog _ _ _).bind fun t ht=>j _ _ ht) (Pc.pure h)
theorem Qb6{c:Zg}(h:KC v c)(id:Int):Pc (Ys c id) fun r=>KC v r.1:=by
 have j3: ∀id t x n,KC v x->Pc (Yt id t x n) fun r=>KC v r.1:=fun id t x n hx=>by
  unfold Yt Zmm;exact(Q73 _ _ _ _ hx).bind fun t ht=>Pc.pure ht
 have j2: ∀id t x b n i,KC v x->Pc (Kl id c t x b n i) fun r=>KC v r.1:=fun id t x b n i hx=>by
  unfold Kl;exact Pc.if (Pc.pure hx) (Pc.skip fun t=>Pc.if (j3 _ _ _ _ ⟨hx.sv,hx.str⟩) (j3 _ _ _ _ ⟨hx.sv,hx.str⟩))
 have j1: ∀id t x a,KC v x->Pc (Xa id c t x a) fun r=>KC v r.1:=fun id t x a hx=>by
  unfold Xa;simp only[Je,Zja];exact Pc.skip fun t=>Pc.skip fun t2=>j2 _ _ _ _ _ _ hx
 unfold Ys;exact(cpK h).bind fun t1 h1=>Pc.skip fun t2=>Pc.skip fun t3=>Pc.if (Pc.pure h1) (Pc.skip fun t4=>Pc.if (Pc.pure h1) (Pc.skip fun t5=>Pc.if (Pc.pure h1) (Pc.skip fun t6=>Pc.if (j1 _ _ _ _ h1) (j1 _ _ _ _ h1))))
theorem Q7x{x:Zg}{s:Zd}(h:KC v x)(hs:Zgy v s)(e:Int):Pc (Zdq x s e) fun r=>KC v r.2.1/\Zgy v r.2.2.1:=by
 unfold Zdq;exact Pc.skip fun t1=>Pc.if (Pc.pure ⟨h,hs⟩) (Pc.skip fun t2=>Pc.skip fun t3=>Pc.if (Pc.pure ⟨h,hs⟩) (Pc.pure ⟨⟨h.sv,h.str⟩,hs⟩))
theorem Qe9{c:Zg}(h:KC v c)(n:Int):Pc (Option.bind (Z6 c) fun t=>some ((t.1,(n,())),())) fun r=>KC v r.1.1:=(cpK h).bind fun t ht=>Pc.pure ht
theorem Xao{c:Zg}(h:KC v c)(f:Zl):Pc (Vv c f) fun r=>KC v r.1.1:=by
 unfold Vv;exact Pc.skip fun t1=>Pc.skip fun t2=>Pc.if (Qe9 h _) (Pc.skip fun t3=>Pc.if (Qe9 h _) ((Qb6 h _).bind fun x hx=>Pc.if (Qe9 h _) ((Zk5 hx _).bind fun s hs=>Pc.skip fun r=>(Q7x hx hs _).bind fun y hy=>Pc.if (Qe9 h _) (Pc.if (Qe9 h _) ((Qr7 hy.1 (by exact hy.2)).bind fun z hz=>Pc.pure hz)))))
theorem Xch{c:Zg}(h:KC v c)(f:Zl):Pc (Va c f) fun r=>KC v r.1.1:=by
 have j: ∀t x s r,KC v x->Zgy v s->Pc (K8 t x s r) fun r=>KC v r.1.1:=fun t x s r hx hs=>by
  unfold K8;exact(Qr7 hx (by exact hs)).bind fun z hz=>Pc.pure hz
 unfold Va;exact Pc.skip fun t1=>Pc.skip fun t2=>Pc.if (Qe9 h _) (Pc.skip fun t3=>Pc.if (Qe9 h _) ((Qb6 h _).bind fun x hx=>Pc.if (Qe9 h _) ((Zk5 hx _).bind fun s hs=>Pc.skip fun r=>(Q7x hx hs _).bind fun y hy=>Pc.if (Qe9 h _) (Pc.if (Qe9 h _) (Pc.if ((Q4m hy.1 hy.2 _).bind fun z hz=>j _ _ _ _ hz.1 hz.2) (j _ _ _ _ hy.1 hy.2))))))
theorem Xci{c:Zg}(h:KC v c)(f:Zl):Pc (Vw c f) fun r=>KC v r.1.1:=by
 have j: ∀t x s,KC v x->Zgy v s->Pc (Jv t x s) fun r=>KC v r.1.1:=fun t x s hx hs=>by
  unfold Jv;exact(Qr7 hx hs).bind fun z hz=>Pc.pure hz
 unfold Vw;exact Pc.skip fun t1=>Pc.skip fun t2=>Pc.if (Qe9 h _) (Pc.skip fun t3=>Pc.if (Qe9 h _) ((Qb6 h _).bind fun x hx=>Pc.if (Qe9 h _) ((Zk5 hx _).bind fun s hs=>Pc.skip fun r=>Pc.if (j _ _ _ hx (by exact hs)) (j _ _ _ hx hs))))
theorem Xcd{c:Zg}(h:KC v c)(f:Zl):Pc (J9 c f) fun r=>KC v r.1:=by
 have l2: ∀t,Pc (Wr c f Wt t) fun r=>KC v r.1:=fun t=>by
  unfold Wr Zd6;exact Pc.if ((cpK h).bind fun t ht=>Pc.pure ht) ((Qb6 h _).bind fun x hx=>Pc.if ((cpK h).bind fun t ht=>Pc.pure ht) (Pc.if ((Zk5 hx _).bind fun s hs=>Pc.skip fun t=>(hx.put (by exact hs)).bind fun t3 h3=>Pc.pure ⟨hx.sv,h3⟩) (Pc.pure hx)))
 have l1:Pc (Zgw c f) fun r=>KC v r.1:=by
  unfold Zgw;exact Pc.skip fun t=>Pc.if (Pc.skip fun t2=>l2 _) (l2 _)
 have j3: ∀t x b,KC v x->Pc (K7 c f t x b) fun r=>KC v r.1:=fun t x b hx=>by
  unfold K7;exact Pc.if (l1.bind fun t ht=>Pc.pure ht) (Pc.pure hx)
 have j2: ∀t x k b,KC v x->Pc (K6 c f t x k b) fun r=>KC v r.1:=fun t x k b hx=>by
  unfold K6;exact Pc.if (Pc.pure hx) (Pc.if (j3 _ _ _ hx) (j3 _ _ _ hx))
 unfold J9 Zam;exact(cpK h).bind fun t1 h1=>Pc.skip fun t2=>Pc.skip fun t3=>Pc.if (Pc.pure h1) (Pc.if (Pc.skip fun t=>Pc.pure ⟨h1.sv,h1.str⟩) (Pc.if (Pc.if (Pc.skip fun t=>Pc.pure ⟨h1.sv,h1.str⟩) (Pc.skip fun t=>Pc.pure ⟨h1.sv,h1.str⟩)) (Pc.if (j2 _ _ _ _ h1) (j2 _ _ _ _ h1))))
theorem Q80{c:Zg}(h:KC v c)(f:Zl):Pc (J8 c f) fun r=>KC v r.1.1:=by
 unfold J8 K5;exact Pc.skip fun t=>Pc.if ((Xao h f).bind fun t ht=>Pc.pure ht) (Pc.if ((Xch h f).bind fun t ht=>Pc.pure ht) (Pc.if ((Xci h f).bind fun t ht=>Pc.pure ht) ((Xcd h f).bind fun t ht=>Pc.pure ht)))
theorem Qy8: ∀(N:Nat) (x:Zg) (n:Int) (o:List Z8) (i:Int),KC v x->Pc (J1 N x n o i) fun r=>KC v r.2.1
 |0,_,_,_,_,_=>Pc.none
 |N+1,x,n,o,i,h=>by
  have j: ∀x n o i,KC v x->Pc (Zc6 (fun v=>J1 N v.1 v.2.1 v.2.2.1 v.2.2.2.1) x n o i) fun r=>KC v r.2.1:=fun x n o i h=>by
   unfold Zc6;exact Qy8 N _ _ _ _ h
  unfold J1;exact Pc.if (Pc.guard (Pc.if (Pc.guard (Pc.guard (j _ _ _ _ h))) (j _ _ _ _ h))) (Pc.pure ⟨h.sv,h.str⟩)
theorem Q7t{x:Zg}(h:KC v x)(n:Int):Pc (Zjq x n) fun r=>KC v r.2.1:=by
 unfold Zjq;exact Qy8 _ _ _ _ _ h
theorem Q88{x:Zg}(h:KC v x)(f:Zl):Pc (Zmq x f) fun r=>KC v r.2.1:=by
 have j2: ∀s,Zgy v s->Pc (J2 x s) fun r=>KC v r.2.1:=fun s hs=>by
  unfold J2;exact(h.put hs).bind fun t ht=>Pc.pure ⟨h.sv,ht⟩
 have j1: ∀s b,Zgy v s->Pc (Zfo x f s b) fun r=>KC v r.2.1:=fun s b hs=>by
  unfold Zfo;exact Pc.skip fun t=>Pc.if (Pc.pure h) (Pc.if (Pc.skip fun t=>Pc.skip fun t2=>j2 _ (by exact hs)) (Pc.if (j2 _ (by exact hs)) (Pc.if (j2 _ (by exact hs)) (Pc.if (j2 _ (by exact hs)) (j2 _ hs)))))
 unfold Zmq;simp only[Je];exact Pc.if (Pc.pure ⟨h.sv,h.str⟩) (Pc.if (Pc.if (Pc.pure ⟨h.sv,h.str⟩) (Pc.pure ⟨h.sv,h.str⟩)) ((Zk5 h _).bind fun s hs=>j1 _ _ hs))
theorem Xaj{x:Zg}(h:KC v x)(f:Zl):Pc (Zox x f) fun r=>KC v r.2.1:=by
 have j2: ∀s,Zgy v s->Pc (Vr x s) fun r=>KC v r.2.1:=fun s hs=>by
  unfold Vr;exact(Qr7 h hs).bind fun t ht=>Pc.pure ht
 have j1: ∀s b,Zgy v s->Pc (Zix x f s b) fun r=>KC v r.2.1:=fun s b hs=>by
  unfold Zix;exact Pc.skip fun t=>Pc.if (Pc.pure h) (Pc.if (Pc.skip fun t=>Pc.skip fun t2=>j2 _ (by exact hs)) (Pc.if (Pc.skip fun t=>Pc.if (j2 _ (by exact hs)) (j2 _ (by exact hs))) (Pc.if (j2 _ (by exact hs)) (j2 _ hs))))
 unfold Zox;simp only[Je];exact(Zk5 h _).bind fun s hs=>j1 _ _ hs
theorem Qzv: ∀(N:Nat) (t x:Zg) (p:Z8) (i:Int),KC v x->Pc (V8 N t x p i) fun r=>KC v r.1.1
 |0,_,_,_,_,_=>Pc.none
 |N+1,t,x,p,i,h=>by
  unfold V8;exact Pc.if (Pc.guard ((Q88 h _).bind fun y hy=>Qzv N _ _ _ _ hy)) (Pc.pure h)
theorem Q19: ∀(N:Nat) (t x:Zg) (p:Z8) (i:Int),KC v x->Pc (Zac N t x p i) fun r=>KC v r.1.1
 |0,_,_,_,_,_=>Pc.none
 |N+1,t,x,p,i,h=>by
  unfold Zac;exact Pc.if (Pc.guard ((Xaj h _).bind fun y hy=>Q19 N _ _ _ _ hy)) (Pc.pure h)
theorem Xa1{c:Zg}(h:KC v c)(n:Int):Pc (Zfj c n) fun r=>KC v r.1.1:=by
 unfold Zfj;exact(cpK h).bind fun t1 h1=>Pc.skip fun t2=>Pc.skip fun t3=>Pc.if (Pc.pure h1) ((Q7t h1 _).bind fun t4 h4=>Qzv _ _ _ _ _ h4)
theorem Xb2{c:Zg}(h:KC v c)(n:Int):Pc (Zh6 c n) fun r=>KC v r.1.1:=by
 unfold Zh6;exact(cpK h).bind fun t1 h1=>Pc.skip fun t2=>Pc.skip fun t3=>Pc.if (Pc.pure h1) ((Q7t h1 _).bind fun t4 h4=>Q19 _ _ _ _ _ h4)
theorem Q30{x:Zg}(h:KC v x)(c:Qx):Pc (Zmp c x) fun r=>KC v r.1.1:=by
 have j3: ∀c x t y n b,KC v x->KC v y->Pc (Zc5 c x t y n b) fun r=>KC v r.1.1:=fun c x t y n b h hy=>by
  unfold Zc5;exact Pc.if (Pc.skip fun t=>(Xaq h _).bind fun t2 h2=>Pc.pure h2) (Pc.if (Pc.skip fun t=>(Q80 h _).bind fun t2 h2=>Pc.if (Pc.pure h2) (Pc.pure hy)) (Pc.if (Pc.if (Pc.skip fun t=>Pc.guard (Pc.skip fun t2=>Pc.if ((Xa1 h _).bind fun t3 h3=>Pc.pure h3) ((Xb2 h _).bind fun t3 h3=>Pc.pure h3))) (Pc.pure hy)) (Pc.pure hy)))
 have j2: ∀c x t i y n b,KC v x->KC v y->Pc (Zc4 c x t i y n b) fun r=>KC v r.1.1:=fun c x t i y n b h hy=>by
  unfold Zc4;exact Pc.if (Pc.skip fun t=>(Xae h _ _).bind fun t2 h2=>Pc.pure h2) (Pc.if (Pc.skip fun t=>Pc.if ((Q5u h _).bind fun t2 h2=>Pc.pure h2) (Pc.pure hy)) (Pc.if (Pc.skip fun t=>(Xbc h _ _).bind fun t2 h2=>Pc.pure h2) (Pc.if (Pc.skip fun t=>Pc.if (Pc.skip fun t2=>(Q9m h _ _).bind fun t3 h3=>Pc.pure h3) (Pc.skip fun t2=>(Xce h _ _).bind fun t3 h3=>Pc.pure h3)) (Pc.if (j3 _ _ _ _ _ _ h hy) (j3 _ _ _ _ _ _ h hy)))))
 have j1: ∀c x t i,KC v x->Pc (Zc3 c x t i) fun r=>KC v r.1.1:=fun c x t i h=>by
  unfold Zc3;exact Pc.skip fun t=>Pc.if (Pc.skip fun t2=>(Xa4 h _).bind fun t3 h3=>Pc.pure h3) (Pc.if (j2 _ _ _ _ _ _ _ h h) (j2 _ _ _ _ _ _ _ h h))
 unfold Zmp;exact Pc.if (Pc.skip fun t=>Pc.guard (j1 _ _ _ _ h)) (j1 _ _ _ _ h)
theorem Qy6: ∀(N:Nat) (c:Qx) (t x:Zg) (n:Int),KC v x->Pc (Zc0 N c t x n) fun r=>KC v r.1.1
 |0,_,_,_,_,_=>Pc.none
 |N+1,c,t,x,n,h=>by
  unfold Zc0;exact Pc.if ((Q30 h _).bind fun y hy=>Qy6 N _ _ _ _ hy) (Pc.pure h)
end
theorem Q4b(s:Bool)(o p:Zfp):Pc (Zmi s o p) fun r=>KC r.1.1 r.1:=by
 unfold Zmi;exact Pc.skip fun t1=>Pc.skip fun t2=>Pc.if (Pc.pure ⟨rfl,fun _ h=>absurd h List.not_mem_nil⟩) (Pc.skip fun t3=>Pc.skip fun t4=>Pc.skip fun t5=>Pc.skip fun t6=>Pc.skip fun t7=>Pc.skip fun t8=>Pc.pure ⟨rfl,fun _ h=>absurd h List.not_mem_nil⟩)
theorem Xan(c:Qx):Pc (Zmn c) fun r=> ∃v,KC v r.1.1:=by
 unfold Zmn;exact Pc.skip fun t1=>Pc.skip fun t2=>Pc.skip fun t3=>(Q4b _ _ _).bind fun t4 h4=>Pc.skip fun t5=>fun y e=>⟨_,Qy6 _ _ _ _ _ h4 y e⟩
theorem Xak(c:Qx):Pc (Zlz c) fun r=> ∃v,KC v r.1.1:=by
 unfold Zlz;exact(Xan c).bind fun t ht=>Pc.skip fun t2=>by
  obtain⟨v,hv⟩:=ht;exact Pc.if (Pc.skip fun t3=>Pc.pure ⟨v,hv.sv,hv.str⟩) (Pc.if (Pc.skip fun t3=>Pc.pure ⟨v,hv.sv,hv.str⟩) (Pc.if (Pc.skip fun t3=>Pc.pure ⟨v,hv.sv,hv.str⟩) (Pc.if (Pc.skip fun t3=>Pc.pure ⟨v,hv.sv,hv.str⟩) (Pc.pure ⟨v,hv⟩))))
noncomputable def Yw(l:List Zd)(n:Int):Int:=match Xp l n with|some (v,_)=>v|none=> -1
theorem Qcd{l:List Zd}(hl:l.length<=1000000)(n:Int):Xp l n=some (Yw l n,()):=by
 obtain⟨v,e,-⟩:=Ztw l n hl;unfold Yw;rw[e]
theorem Qkp{l:List Zd}(hl:l.length<=1000000)(n:Int): (Yw l n<0\/Yw l n<l.length)/\(Yw l n<0-> ∀s∈l,s.1≠n)/\(0<=Yw l n->(l.getD (Yw l n).toNat Zh).1=n):=by
 obtain⟨v,e,h⟩:=Ztw l n hl;have:Yw l n=v:=by unfold Yw;rw[e]
 rw[this];exact h
theorem Qzc{l:List Zd}(hl:l.length<=1000000)(n:Int): ∀(N i:Nat),Z9 N l (n,()) (l.length:Int) (i:Int)=Xq N l n (i:Int)
 |0,_=>rfl
 |N+1,i=>by
  rw[Z9,Xq];by_cases hh:i<l.length
  ·rw[Zn (Zj (by omega)),Zn (Zj (by omega)),Zb (by omega),Zb (by omega),Zs hh (by omega),Qzc hl n N (i+1)];rfl
  ·rw[Zm (Zk (by omega)),Zm (Zk (by omega))]
theorem Qb8{l:List Zd}(hl:l.length<=1000000)(n:Int):Xn l n=Xp l n:=by
 unfold Xn Xh;have:=Qzc hl n (Yd l n 0) 0;rw[show Qy l (n,()) (l.length:Int) 0=Yd l n 0 from rfl];rw[Int.natCast_zero]at this;rw[this];change Option.bind (Xp l n) _=_;cases Xp l n<;>rfl
theorem Qt6{K:Nat}{l:List Zd}{s:Zd}(h:Zgj K l)(hs:Xc K s)(hK:K<=1000000)(a:Nat)(ha:a<l.length): ∀(N i:Nat),l.length-i<N->i<=l.length->Qt N l s ((l.set a s).take i) (a:Int) true (i:Int)=some (l.set a s,())
 |0,_,h,_=>by omega
 |N+1,i,hN,hi=>by
  have hl:=h.len;rw[Qt];by_cases hh:i<l.length
  ·have cap: ∀x:Zd,((l.set a s).take i).length+ [x].length<=Qo:=fun x=>by unfold Qo;simp only[List.length_take,List.length_singleton];omega
   have e: (l.set a s).take i++ [if i=a then s else l.getD i Zh]=(l.set a s).take (i+1):=by
    rw[List.take_succ_eq_append_getElem (by simp only[List.length_set];exact hh),List.getElem_set];congr 2;by_cases hia:i=a
    ·rw[if_pos hia,if_pos hia.symm]
    ·rw[if_neg hia,if_neg (fun h=>hia h.symm),List.getD_eq_getElem?_getD,List.getElem?_eq_getElem hh];rfl
   rw[Zn (Zj (by omega)),Zb (by omega),show(i:Int).toNat=i from rfl,Znp (h.all _ (Qh (d:=Zh) hh)) hK,Obs];by_cases hia:i=a
   ·have: ((i:Int)==(a:Int))=true:=by simp;omega
    rw[this,Oct,Znp hs hK,Obs];unfold Xm;rw[Zb (cap _),Zs hh (by omega)];rw[if_pos hia]at e;rw[e];exact Qt6 h hs hK a ha N (i+1) (by omega) (by omega)
   ·have: ((i:Int)==(a:Int))=false:=by simp;omega
    rw[this,Ocf,Zb (fun h=>by cases h)];simp only[Ont,Bool.false_and,Ocf];unfold Xm;rw[Zb (cap _),Zs hh (by omega)];rw[if_neg hia]at e;rw[e];exact Qt6 h hs hK a ha N (i+1) (by omega) (by omega)
  ·rw[Zm (Zk (by omega)),List.take_of_length_le (by simp only[List.length_set];omega)];rfl
theorem Xa9{K:Nat}{l:List Zd}{s:Zd}(h:Zgj K l)(hs:Xc K s)(hK:K<=1000000)(hi:0<=Yw l s.1):Qi l s=some (l.set (Yw l s.1).toNat s,()):=by
 have hl:=h.len;obtain⟨h1,-,-⟩:=Qkp (l:=l) (by omega) s.1;unfold Qi;rw[Qcd (by omega),Obs,Zj (by omega)];have:=Qt6 h hs hK (Yw l s.1).toNat (by omega) (Vd l s ([]:List Zd) (Yw l s.1) true 0) 0 (by unfold Vd;omega) (by omega);rw[List.take_zero,Int.toNat_of_nonneg hi]at this;exact this
theorem Z4x{K:Nat}{c:Zg}(h:Qe K c)(hK:K<=1000000)(n:Int):Qv c n=some (if 0<=Yw c.2.2.2.1 n then(c.2.2.2.1.getD (Yw c.2.2.2.1 n).toNat Zh,true,())else(Zh,false,())):=by
 have hl:=h.str.len;obtain⟨h1,-,-⟩:=Qkp (l:=c.2.2.2.1) (by omega) n;unfold Qv;rw[Qcd (by omega),Obs];by_cases hi:0<=Yw c.2.2.2.1 n
 ·rw[Zm (Zk (by omega)),Zb (by omega),if_pos hi,Znp (h.str.all _ (Qh (d:=Zh) (by omega))) hK];rfl
 ·rw[Zn (Zj (by omega)),if_neg hi]
theorem Q4u(l:List Zd)(i:Nat):l.set i (l.getD i Zh)=l:=by
 by_cases h:i<l.length
 ·rw[List.getD_eq_getElem?_getD,List.getElem?_eq_getElem h,Option.getD_some,List.set_getElem_self]
 ·exact List.set_eq_of_length_le (by omega)
def X6(c:Z0):Int:=c.1+ (c.2.1.length:Int)
def Qe5:Int->List Z0->Prop|_,[]=>True|e,c::l=>e<c.1/\c.2.1≠[]/\Qe5 (X6 c) l
def atC:List Z0->Int->Option UInt8| [],_=>none|c::l,n=>if c.1<=n/\n<X6 c then c.2.1[(n-c.1).toNat]? else atC l n
theorem Zo4{c:Z0}(h:c.2.1≠[]):c.1<X6 c:=by
 unfold X6;have:=List.length_pos_iff.2 h;omega
theorem Z38: ∀{l:List Z0} {e n:Int},Qe5 e l->n<=e->atC l n=none
 | [],_,_,_,_=>rfl
 |c::l,e,n,⟨h1,h2,h3⟩,hn=>by
  unfold atC;rw[if_neg (by omega)];exact Z38 h3 (by have:=Zo4 h2;omega)
theorem Qan{c:Z0}{l:List Z0}{e:Int}(h:Qe5 e (c::l)):atC (c::l) c.1≠none:=by
 have:=Zo4 h.2.1;unfold atC;rw[if_pos ⟨Int.le_refl _,this⟩,Int.sub_self];have h2:=List.length_pos_iff.2 h.2.1;rw[List.getElem?_eq_getElem (by simpa using h2)];simp
theorem Qyw{c:Z0}{l:List Z0}{e:Int}(h:Qe5 e (c::l)):atC (c::l) (X6 c)=none:=by
 unfold atC;rw[if_neg (by omega)];exact Z38 h.2.2 (Int.le_refl _)
theorem Ql8{c:Z0}{l:List Z0}{n:Int}(h1:c.1<=n)(h2:n<X6 c):atC (c::l) n=c.2.1[(n-c.1).toNat]? :=by
 unfold atC;rw[if_pos ⟨h1,h2⟩]
theorem Ql9{c:Z0}{l:List Z0}{n:Int}(h1:c.1<=n)(h2:n<X6 c):atC (c::l) n≠none:=by
 rw[Ql8 h1 h2,List.getElem?_eq_getElem (by unfold X6 at h2;omega)];simp
theorem Quu: ∀{l m:List Z0} {e e':Int},Qe5 e l->Qe5 e' m->(∀n,atC l n=atC m n)->l=m
 | [],[],_,_,_,_,_=>rfl
 | [],d::m,_,_,_,h,he=>absurd (he d.1).symm (Qan h)
 |c::l,[],_,_,h,_,he=>absurd (he c.1) (Qan h)
 |c::l,d::m,e,e',h,h',he=>by
  have e1:c.1=d.1:=by
   rcases Int.lt_trichotomy c.1 d.1 with a|a|a
   ·have:=Qan h;rw[he,Z38 (e:=c.1) (l:=d::m) ⟨a,h'.2⟩ (Int.le_refl _)]at this;exact absurd rfl this
   ·exact a
   ·have:=Qan h';rw[<-he,Z38 (e:=d.1) (l:=c::l) ⟨a,h.2⟩ (Int.le_refl _)]at this;exact absurd rfl this
  have e2:X6 c=X6 d:=by
   have g1:=Zo4 h.2.1;have g2:=Zo4 h'.2.1;rcases Int.lt_trichotomy (X6 c) (X6 d)with a|a|a
   ·exact absurd ((he _).symm.trans (Qyw h)) (Ql9 (by omega) a)
   ·exact a
   ·exact absurd ((he _).trans (Qyw h')) (Ql9 (by omega) a)
  have e3:c.2.1=d.2.1:=by
   have hl:c.2.1.length=d.2.1.length:=by unfold X6 at e2;omega
   refine List.ext_getElem? fun j=> ?_;by_cases hj:j<c.2.1.length
   ·have:=he (c.1+ (j:Int));rw[Ql8 (by omega) (by unfold X6;omega),Ql8 (by omega) (by unfold X6;omega),e1]at this
    rwa [show d.1+ (j:Int)-d.1=(j:Int) by omega,Int.toNat_natCast]at this
   ·rw[List.getElem?_eq_none (by omega),List.getElem?_eq_none (by omega)]
  have e4:c=d:=by
   obtain⟨c1,c2,_⟩:=c;obtain⟨d1,d2,_⟩:=d;simp only at e1 e3;rw[e1,e3]
  subst e4;refine congrArg (c:: ·) (Quu h.2.2 h'.2.2 fun n=> ?_);by_cases hn:n<X6 c
  ·rw[Z38 h.2.2 (by omega),Z38 h'.2.2 (by omega)]
  ·have:=he n;unfold atC at this
   rwa [if_neg (by omega),if_neg (by omega)]at this
theorem Qat: ∀{l:List Z0} {e:Int},ckB e l=true-> -1<=e->(∀c∈l,c.2.1.length<=1000000)->Qe5 e l/\ ∀c∈l,0<=c.1/\X6 c<=4611686018427387903
 | [],_,_,_,_=>⟨trivial,fun _ h=>by cases h⟩
 |c::l,e,h,he,hl=>by
  simp only[ckB,Oba,Bool.not_eq_true',Bool.or_eq_false_iff,decide_eq_false_iff_not,beq_eq_false_iff_ne]at h;have hcl:=hl c List.mem_cons_self;obtain⟨⟨⟨h1,h2⟩,h3⟩,h4⟩:=h;rw[Zv (by omega) (by omega)]at h3;have hE:X6 c<=4611686018427387903:=by unfold X6;omega
  rw[Zv (by omega) (by omega)]at h4;obtain⟨k1,k2⟩:=Qat h4 (by omega) fun x hx=>hl x (List.mem_cons_of_mem _ hx);refine⟨⟨by omega,h2,k1⟩,fun x hx=> ?_⟩;rcases List.mem_cons.1 hx with rfl|hx
  ·exact⟨by omega,hE⟩
  ·exact k2 x hx
def Z56:Int->List Z0->Prop|_,[]=>True|e,c::l=>e<=c.1/\c.2.1≠[]/\Z56 (X6 c) l
theorem Q1f{e e':Int}(h:e'<=e): ∀{l:List Z0},Z56 e l->Z56 e' l
 | [],_=>trivial
 |c::l,⟨h1,h2,h3⟩=>⟨by omega,h2,h3⟩
def Qcp(c:Z0):List Z0->List Z0| []=>[c]|d::l=>if X6 c=d.1 then Qcp (c.1,(c.2.1++d.2.1,())) l else c::Qcp d l
theorem Qgi: ∀{l:List Z0} {c:Z0} {e:Int},e<c.1->c.2.1≠[]->Z56 (X6 c) l->Qe5 e (Qcp c l)
 | [],c,e,h1,h2,_=>⟨h1,h2,trivial⟩
 |d::l,c,e,h1,h2,⟨h3,h4,h5⟩=>by
  unfold Qcp;split
  ·rename_i hc;refine Qgi (l:=l) (c:=(c.1,(c.2.1++d.2.1,()))) h1 (by simp[h2]) ?_;have:X6 (c.1,(c.2.1++d.2.1,()))=X6 d:=by
    unfold X6 at hc⊢;simp only[List.length_append];omega
   rw[this];exact h5
  ·rename_i hc;exact⟨h1,h2,Qgi (by omega) h4 h5⟩
theorem Qyy: ∀{l:List Z0} {e n:Int},Z56 e l->n<e->atC l n=none
 | [],_,_,_,_=>rfl
 |c::l,e,n,⟨h1,h2,h3⟩,hn=>by
  unfold atC;rw[if_neg (by omega)];exact Qyy h3 (by have:=Zo4 h2;omega)
theorem Qn8: ∀{l:List Z0} {c:Z0},c.2.1≠[]->Z56 (X6 c) l-> ∀n,atC (Qcp c l) n=atC (c::l) n
 | [],c,_,_,n=>rfl
 |d::l,c,h2,⟨h3,h4,h5⟩,n=>by
  unfold Qcp;split
  ·rename_i hc;have hE:X6 (c.1,(c.2.1++d.2.1,()))=X6 d:=by
    unfold X6 at hc⊢;simp only[List.length_append];omega
   rw[Qn8 (l:=l) (c:=(c.1,(c.2.1++d.2.1,()))) (by simp[h2]) (by rw[hE];exact h5) n];have g1:=Zo4 h2;have g2:=Zo4 h4;unfold atC;rw[hE];by_cases a:c.1<=n/\n<X6 c
   ·rw[if_pos (by simp only;omega),if_pos a];simp only;rw[List.getElem?_append_left (by unfold X6 at a;omega)]
   ·rw[if_neg a];by_cases b:d.1<=n/\n<X6 d
    ·rw[if_pos (by simp only;omega)];unfold atC;rw[if_pos b];simp only;rw[List.getElem?_append_right (by unfold X6 at hc;omega)];congr 1;unfold X6 at hc;omega
    ·rw[if_neg (by simp only;omega)];show atC l n=atC (d::l) n;unfold atC;rw[if_neg b];cases l<;>rfl
  ·unfold atC;rw[Qn8 h4 h5 n]
theorem Quv{c:Z0}(h:0<=c.1)(h2:X6 c<=4611686018427387903):Zb7 c=some (X6 c,()):=by
 unfold X6 at*
 show some (IntKind.i64.wrap (c.1+ (c.2.1.length:Int)),())=_;rw[Zv (by omega) (by omega)]
theorem Q08(pre:List Z0)(c:Z0): (pre++ [c]).getD pre.length Qc=c:=by
 simp[List.getD]
theorem Q32(pre:List Z0)(c d:Z0): (pre++ [c]).set pre.length d=pre++ [d]:=by
 rw[List.set_append_right _ _ (Nat.le_refl _),Nat.sub_self,List.set_cons_zero]
theorem Q1y{t:List Z0}{i:Nat}(hi:i<t.length):Ze5 (t.drop i)=(t.getD i Qc).2.1.length+Ze5 (t.drop (i+1)):=by
 rw[Kb (d:=Qc) hi];rfl
theorem Qtm{t:List Z0}(ht:t.length<=4000000)(hb: ∀c∈t,0<=c.1/\X6 c<=4611686018427387903): ∀(N i:Nat) (pre:List Z0) (c:Z0),t.length-i<N->i<=t.length->pre.length+1<=i->0<=c.1->X6 c<=4611686018427387903->c.2.1.length+Ze5 (t.drop i)<=1000000000->
  Zec N (pre++ [c]) t (t.length:Int) (i:Int)=some (pre++Qcp c (t.drop i),())
 |0,_,_,_,h,_,_,_,_,_=>by omega
 |N+1,i,pre,c,hN,hi,hp,h0,h1,hs=>by
  unfold Zec;by_cases hh:i<t.length
  ·have hd:=hb _ (Qh (d:=Qc) hh);have hts:=Q1y hh;have hlen: (pre++ [c]).length=pre.length+1:=by simp
   have e16:IntKind.i64.wrap (((pre++ [c]).length:Int)-1)=(pre.length:Int):=by rw[hlen,Zv (by omega) (by omega)];omega
   rw[Zn (Zj (by omega)),Zb (by omega)];simp only[e16];rw[Zb (by intro _;rw[hlen];omega),Zj (p:=(pre.length:Int)>=0) (by omega),Oct,Int.toNat_natCast,Q08,Quv h0 h1,Obs,Ota];rw[show(i:Int).toNat=i from rfl,Zs hh (by omega)];rw[Kb (d:=Qc) hh];generalize t.getD i Qc=d at*
   unfold Qcp;by_cases he:X6 c=d.1
   ·rw[if_pos he,beq_iff_eq.2 he,Oct,Zb (by rw[hlen];omega),Zb (by unfold Zqi;omega),Zb (by rw[hlen];omega),Q32];have hE:X6 (c.1,(c.2.1++d.2.1,c.2.2))=X6 d:=by
     unfold X6 at he⊢;simp only[List.length_append];omega
    exact Qtm ht hb N (i+1) pre _ (by omega) (by omega) (by omega) h0 (by rw[hE];exact hd.2) (by simp only[List.length_append];omega)
   ·rw[if_neg he,beq_false_of_ne he,Ocf,Zb (by rw[hlen];simp only[List.length_singleton];unfold Qo;omega)];have:=Qtm ht hb N (i+1) (pre++ [c]) d (by omega) (by omega) (by rw[hlen];omega) hd.1 hd.2 (by omega);rw[this,List.append_assoc,List.singleton_append]
  ·rw[Zm (Zk (by omega)),List.drop_of_length_le (by omega)];rfl
def Qoa:List Z0->List Z0| []=>[]|c::l=>Qcp c l
theorem Xax{t:List Z0}(ht:t.length<=4000000)(hb: ∀c∈t,0<=c.1/\X6 c<=4611686018427387903)(hs:Ze5 t<=1000000000):Zoq t=some (Qoa t,()):=by
 unfold Zoq;cases t with
 |nil=>rfl
 |cons c l=>
  have hN:Zg0 ([]:List Z0) (c::l) ((c::l).length:Int) (0:Int)=l.length+2:=by
   unfold Zg0;simp only[List.length_cons];omega
  rw[hN];have h:=hb c List.mem_cons_self;have hs':Ze5 (c::l)=c.2.1.length+Ze5 l:=rfl;unfold Zec;rw[Zn (Zj (by simp only[List.length_cons];omega)),Zb (by simp only[List.length_cons];omega)];have e16:IntKind.i64.wrap ((([]:List Z0).length:Int)-1)= -1:=by decide
  simp only[e16];rw[Zb (by intro h;simp at h),Zk (p:=(-1:Int)>=0) (by omega),Ocf,Obs,Bool.false_and,Ocf,Zb (by simp[Qo])];have:=Qtm ht hb (l.length+1) 1 [] c (by simp only[List.length_cons];omega) (by simp only[List.length_cons];omega) (Nat.le_refl _) h.1 h.2 (by simp only[List.drop_one,List.tail_cons];omega);exact this
def Zs6(o:Int)(d:List UInt8)(a b:Int):List Z0:=if a<b then[(a,((d.drop (a-o).toNat).take ((b-o).toNat- (a-o).toNat),()))]else[]
def Zbr(o:Int)(d:List UInt8)(e:Int):Int->List Z0->List Z0|f,[]=>Zs6 o d f e|f,c::l=>Zs6 o d f (min c.1 e)++c::Zbr o d e (max f (X6 c)) l
theorem Z4t{o:Int}{d:List UInt8}{a b:Int}(h1:o<=a)(h2:a<b)(h3:b<=o+ (d.length:Int)): (((d.drop (a-o).toNat).take ((b-o).toNat- (a-o).toNat)).length:Int)=b-a:=by
 rw[List.length_take,List.length_drop];omega
theorem Z4s{o:Int}{d:List UInt8}{a b:Int}(h1:o<=a)(h2:a<b)(h3:b<=o+ (d.length:Int)):X6 (a,((d.drop (a-o).toNat).take ((b-o).toNat- (a-o).toNat),()))=b:=by
 unfold X6;simp only;rw[Z4t h1 h2 h3];omega
theorem Qv0{o:Int}{d:List UInt8}{a b:Int}(h1:o<=a)(h2:a<b)(h3:b<=o+ (d.length:Int)): (d.drop (a-o).toNat).take ((b-o).toNat- (a-o).toNat)≠[]:=fun h=>by
 have:=Z4t h1 h2 h3;rw[h]at this;simp at this;omega
theorem Z9n{o:Int}{d:List UInt8}: ∀{l:List Z0} {f L:Int},o<=f->L<=f->Z56 L l->Z56 L (Zbr o d (o+ (d.length:Int)) f l)
 | [],f,L,h1,h2,_=>by
  unfold Zbr Zs6;split
  ·rename_i h;exact⟨h2,Qv0 h1 h (Int.le_refl _),trivial⟩
  ·trivial
 |c::l,f,L,h1,h2,⟨h3,h4,h5⟩=>by
  have ih:=Z9n (o:=o) (l:=l) (f:=max f (X6 c)) (L:=X6 c) (d:=d) (by omega) (by omega) h5;unfold Zbr Zs6;split
  ·rename_i h;have he:=Z4s (d:=d) h1 h (by omega);exact⟨h2,Qv0 h1 h (by omega),by rw[he];omega,h4,ih⟩
  ·exact⟨h3,h4,ih⟩
theorem Q1i{o:Int}{d:List UInt8}: ∀{l:List Z0} {f L:Int},o<=f->Z56 L l-> ∀n,atC (Zbr o d (o+ (d.length:Int)) f l) n=match atC l n with|some v=>some v|none=>if f<=n/\n<o+ (d.length:Int)then d[(n-o).toNat]? else none:=by
 have gp: ∀{a b n:Int} {r:List Z0},o<=a->b<=o+ (d.length:Int)->atC (Zs6 o d a b++r) n=if a<=n/\n<b then d[(n-o).toNat]? else atC r n:=by
  intro a b n r h1 h3;unfold Zs6;split
  ·rename_i h;rw[List.singleton_append];unfold atC;rw[Z4s h1 h h3];simp only;by_cases hn:a<=n/\n<b
   ·rw[if_pos hn,if_pos hn,List.getElem?_take,if_pos (by omega),List.getElem?_drop];congr 1;omega
   ·rw[if_neg hn,if_neg hn];cases r<;>rfl
  ·rw[if_neg (by omega)];rfl
 intro l
 induction l with
 |nil=>
  intro f L h1 _ n;unfold Zbr;have:=gp (a:=f) (b:=o+ (d.length:Int)) (n:=n) (r:=[]) h1 (Int.le_refl _);rw[List.append_nil]at this;rw[this];rfl
 |cons c l ih=>
  intro f L h1 h n;obtain⟨h3,h4,h5⟩:=h;have hg:=Zo4 h4;unfold Zbr;rw[gp h1 (by omega)];have ih':=ih (f:=max f (X6 c)) (L:=X6 c) (by omega) h5 n;by_cases hc:c.1<=n/\n<X6 c
  ·rw[if_neg (by omega),Ql8 hc.1 hc.2,Ql8 hc.1 hc.2];have: (n-c.1).toNat<c.2.1.length:=by unfold X6 at hc;omega
   rw[List.getElem?_eq_getElem this]
  ·have e1: ∀r:List Z0,atC (c::r) n=atC r n:=fun r=>by
    rw[atC,if_neg hc]
   rw[e1,e1,ih'];by_cases hn:n<c.1
   ·have e2:atC l n=none:=Qyy h5 (by omega);rw[e2];simp only;by_cases a:f<=n/\n<o+ (d.length:Int)
    ·rw[if_pos (by omega),if_pos a]
    ·rw[if_neg (by omega),if_neg (by omega),if_neg a]
   ·rw[if_neg (by omega)];cases atC l n
    ·simp only;by_cases a:f<=n/\n<o+ (d.length:Int)
     ·rw[if_pos (by omega),if_pos a]
     ·rw[if_neg (by omega),if_neg a]
    ·rfl
theorem Qor: ∀{l:List Z0} {e:Int},Z56 e l->l.Pairwise (fun x y=>x.1<y.1)/\ ∀c∈l,e<=c.1
 | [],_,_=>⟨List.Pairwise.nil,fun _ h=>by cases h⟩
 |c::l,e,⟨h1,h2,h3⟩=>by
  obtain⟨k1,k2⟩:=Qor h3;have hg:=Zo4 h2;refine⟨List.Pairwise.cons (fun y hy=>by have:=k2 y hy;omega) k1,fun x hx=> ?_⟩;rcases List.mem_cons.1 hx with rfl|hx
  ·exact h1
  ·have:=k2 x hx;omega
theorem Xbn{l:List Z0}{e:Int}(h:Z56 e l)(h0:0<=e)(hb: ∀c∈l,c.1<=4611686018427387904)(hl:l.length<=4000000):Zj8 l=some ((),l):=by
 obtain⟨k1,k2⟩:=Qor h;have hnd: (l.map fun x=>x.1).Nodup:=by
  rw[List.Nodup,List.pairwise_map];exact k1.imp fun h=>Int.ne_of_lt h
 have hms:l.mergeSort (fun x y=>decide (x.1<=y.1))=l:=List.mergeSort_of_pairwise (k1.imp fun h=>decide_eq_true (Int.le_of_lt h));unfold Zj8 Qsg;rw[Zb ⟨fun x hx=>⟨Int.le_trans h0 (k2 x hx),hb x hx⟩,hnd,by omega⟩,hms]
theorem Qxj{b:Zq}{o:Int}{d:List UInt8}{t6:Zq}{t X:List Z0}(ht:t.length<=1000000)(hb: ∀c∈t,0<=c.1/\X6 c<=4611686018427387903)(ho:0<=o)(he:o+ (d.length:Int)<=4611686018427387903)
  (hX:Z56 0 X) (hXb: ∀c∈X,0<=c.1/\X6 c<=4611686018427387903) (hXl:X.length<=4000000) (hXs:Ze5 X<=1000000000): ∀(N i:Nat) (f:Int) (l:List Z0),t.length-i<N->i<=t.length->o<=f->f<=4611686018427387903->l++Zbr o d (o+ (d.length:Int)) f (t.drop i)=X->
  Zbp N b o d t6 f (o+ (d.length:Int)) l t (t.length:Int) (i:Int)=some ((b.1,(Qoa X,())),())
 |0,_,_,_,h,_,_,_,_=>by omega
 |N+1,i,f,l,hN,hi,hf,hf2,hx=>by
  have hxl:=congrArg List.length hx;rw[List.length_append]at hxl;have fin: ∀Y:List Z0,Y=X->Option.bind (Zj8 Y) (fun t76=>Option.bind (Zoq t76.2) fun t80=>some ((b.1,(t80.1,())),()))=some ((b.1,(Qoa X,())),()):=by
   rintro Y rfl;rw[Xbn hX (Int.le_refl _) (fun c hc=>by
      have h1:=hXb c hc;have h2:c.1<=X6 c:=by unfold X6;omega
      omega) hXl,Obs,Xax hXl hXb hXs,Obs]
  unfold Zbp;by_cases hh:i<t.length
  ·have hc:=hb _ (Qh (d:=Qc) hh);rw[Kb (d:=Qc) hh]at hx hxl;rw[Zn (Zj (by omega)),Zb (by omega),show(i:Int).toNat=i from rfl,Zs hh (by omega)];have hE:=Quv hc.1 hc.2;generalize t.getD i Qc=c at*
   rw[Zbr]at hx hxl;simp only[List.length_append,List.length_cons]at hxl;have hce:c.1<=X6 c:=by unfold X6;omega
   by_cases hp:f<min c.1 (o+ (d.length:Int))
   ·have e1:IntKind.i64.wrap (min c.1 (o+ (d.length:Int))-o)=min c.1 (o+ (d.length:Int))-o:=Zv (by omega) (by omega);have e2:IntKind.i64.wrap (f-o)=f-o:=Zv (by omega) (by omega);have e3:Zs6 o d f (min c.1 (o+ (d.length:Int)))=[(f,((d.drop (f-o).toNat).take ((min c.1 (o+ (d.length:Int))-o).toNat- (f-o).toNat),()))]:=if_pos hp;rw[Zn (Zj hp)];simp only[e1,e2];rw[e3]at hx hxl;simp only[List.length_singleton]at hxl;rw[Zb (by omega),Zb (by simp only[List.length_singleton];unfold Qo;omega),Zb (by simp only[List.length_append,List.length_singleton];unfold Qo;omega),hE,Obs];exact Qxj ht hb ho he hX hXb hXl hXs N (i+1) _ _ (by omega) (by omega) (by omega) (by omega) (by rw[<-hx];simp only[List.append_assoc,List.nil_append,List.cons_append])
   ·have e3:Zs6 o d f (min c.1 (o+ (d.length:Int)))=[]:=if_neg hp;rw[Zm (Zk hp)];rw[e3]at hx hxl;rw[Zb (by simp only[List.length_singleton];unfold Qo;omega),hE,Obs];exact Qxj ht hb ho he hX hXb hXl hXs N (i+1) _ _ (by omega) (by omega) (by omega) (by omega) (by rw[<-hx];simp only[List.append_assoc,List.cons_append,List.nil_append])
  ·rw[Zm (Zk (by omega)),Int.min_self];rw[List.drop_of_length_le (by omega),Zbr]at hx hxl;by_cases hp:f<o+ (d.length:Int)
   ·have e1:IntKind.i64.wrap (o+ (d.length:Int)-o)=o+ (d.length:Int)-o:=Zv (by omega) (by omega);have e2:IntKind.i64.wrap (f-o)=f-o:=Zv (by omega) (by omega);have e3:Zs6 o d f (o+ (d.length:Int))=[(f,((d.drop (f-o).toNat).take ((o+ (d.length:Int)-o).toNat- (f-o).toNat),()))]:=if_pos hp;rw[Zn (Zj hp)];simp only[e1,e2];rw[e3]at hx hxl;simp only[List.length_singleton]at hxl;rw[Zb (by omega),Zb (by simp only[List.length_singleton];unfold Qo;omega)];exact fin _ hx
   ·have e3:Zs6 o d f (o+ (d.length:Int))=[]:=if_neg hp;rw[Zm (Zk hp)];rw[e3,List.append_nil]at hx;exact fin _ hx
theorem Qou(o:Int)(d:List UInt8)(e:Int): ∀(l:List Z0) (f:Int),(Zbr o d e f l).length<=2*l.length+1
 | [],f=>by
  unfold Zbr Zs6;split<;>simp
 |c::l,f=>by
  have:=Qou o d e l (max f (X6 c));unfold Zbr Zs6;split<;>simp only[List.length_append,List.length_cons,List.length_nil]<;>omega
theorem Qov{o:Int}{d:List UInt8}: ∀{l:List Z0} {f:Int},o<=f->(∀c∈l,c.1<=X6 c)->(Ze5 (Zbr o d (o+ (d.length:Int)) f l):Int)<=Ze5 l+max 0 (o+ (d.length:Int)-f)
 | [],f,h,_=>by
  unfold Zbr Zs6;split
  ·rename_i hp;have:=Z4t (d:=d) h hp (Int.le_refl _);simp only[Ze5];omega
  ·simp only[Ze5];omega
 |c::l,f,h,hc=>by
  have ih:=Qov (o:=o) (d:=d) (l:=l) (f:=max f (X6 c)) (by omega) fun x hx=>hc x (List.mem_cons_of_mem _ hx);have h1:=hc c List.mem_cons_self;unfold Zbr Zs6;rw[Qpm];split
  ·rename_i hp;have:=Z4t (d:=d) h hp (by omega);simp only[Ze5]at ih⊢;omega
  ·simp only[Ze5]at ih⊢;omega
theorem Qv1{o:Int}{d:List UInt8}(h0:0<=o)(he:o+ (d.length:Int)<=4611686018427387903): ∀{l:List Z0} {f:Int},o<=f->(∀c∈l,0<=c.1/\X6 c<=4611686018427387903)-> ∀c∈Zbr o d (o+ (d.length:Int)) f l,0<=c.1/\X6 c<=4611686018427387903
 | [],f,h,_,c,hc=>by
  unfold Zbr Zs6 at hc;split at hc
  ·rename_i hp;rw[List.mem_singleton.1 hc,Z4s h hp (Int.le_refl _)];exact⟨by simp only;omega,he⟩
  ·cases hc
 |x::l,f,h,hl,c,hc=>by
  unfold Zbr Zs6 at hc;rcases List.mem_append.1 hc with hc|hc
  ·split at hc
   ·rename_i hp;rw[List.mem_singleton.1 hc,Z4s h hp (by omega)];exact⟨by simp only;omega,by omega⟩
   ·cases hc
  ·rcases List.mem_cons.1 hc with rfl|hc
   ·exact hl _ List.mem_cons_self
   ·exact Qv1 h0 he (by omega) (fun y hy=>hl y (List.mem_cons_of_mem _ hy)) c hc
theorem Qlc{e:Int}: ∀{l:List Z0} {e:Int},Qe5 e l->Z56 e l
 | [],_,_=>trivial
 |_::_,_,⟨h1,h2,h3⟩=>⟨by omega,h2,Qlc (e:=e) h3⟩
noncomputable def Qge(b:Zq)(o:Int)(d:List UInt8):Zq:=bif(((!Zju b|| (d==([]:List UInt8)))||decide (o<0))||decide (o>4611686018427387903- (d.length:Int)))||decide (o+ (d.length:Int)<=b.1)then b else(b.1,(Qoa (Zbr o d (o+ (d.length:Int)) (max o b.1) b.2.1),()))
theorem Zoo{K:Nat}{b:Zq}(h:Zc7 K b)(hK:K<=1000000):Zfb b=some (b,()):=by
 have:=h.len;unfold Zfb;rw[Zb (by simp only[List.length_nil];unfold Qo;omega)];rfl
theorem Qvg{K:Nat}{b:Zq}(h:Zc7 K b)(o:Int)(d:List UInt8)(hK:K+d.length<=1000000)(hoB:o<=4611686018427387904):Znm b o d=some (Qge b o d,()):=by
 have hl:=h.len;have ht:=h.tot;unfold Znm Qge;rw[Z4l h (by omega),Obs];simp only;cases hb:Zju b
 ·rw[Zoo h (by omega)];rfl
 simp only[Ont,Bool.false_or];rw[Zv (by omega) (by omega)];by_cases hd: (d==([]:List UInt8))=true
 ·rw[hd,Zoo h (by omega)];rfl
 rw[Bool.not_eq_true]at hd;rw[hd];simp only[Bool.false_or];by_cases h1:o<0
 ·rw[Zj h1,Zoo h (by omega)];rfl
 rw[Zk h1,Bool.false_or];by_cases h2:o>4611686018427387903- (d.length:Int)
 ·rw[Zj h2,Zoo h (by omega)];rfl
 rw[Zk h2,Bool.false_or,Zv (by omega) (by omega)];by_cases h3:o+ (d.length:Int)<=b.1
 ·rw[Zj h3,Zoo h (by omega)];rfl
 rw[Zk h3];simp only[Bool.or_self,Ocf,Je];unfold Zju at hb;simp only[Oba,X4]at hb;rw[Zv (by omega) (by omega)]at hb;obtain⟨k1,k2⟩:=Qat hb.1 (by omega) fun c hc=>by have:=Zv3 hc;omega
 have hce: ∀c∈b.2.1,c.1<=X6 c:=fun c _=>by unfold X6;omega
 unfold Zn8 Zhq;have ho:Z56 0 (Zbr o d (o+ (d.length:Int)) (max o b.1) b.2.1):=by
  refine Z9n (by omega) (by omega) ?_;have:=Qlc (e:=0) k1;cases hbl:b.2.1 with
  |nil=>trivial
  |cons c l=>
   rw[hbl]at k1 this;exact⟨by have:=k1.1;omega,this.2⟩
 have hpt:=Qov (o:=o) (d:=d) (l:=b.2.1) (f:=max o b.1) (by omega) hce;have hpl:=Qou o d (o+ (d.length:Int)) b.2.1 (max o b.1);exact Qxj (by omega) k2 (by omega) (by omega) ho (Qv1 (by omega) (by omega) (by omega) k2) (by omega) (by omega) _ 0 _ [] (by omega) (by omega) (by omega) (by omega) rfl
def bv:Option UInt8->Int|some v=>(v.toNat:Int)|none=> -1
theorem Qq8{b:Zq}{n:Int}(h0:0<=n)(h1:n<=4611686018427387903)(hl:b.2.1.length<=1000000)(hq: ∀c∈b.2.1,0<=c.1/\X6 c<=4611686018427387903): ∀(N i:Nat),b.2.1.length-i<N->i<=b.2.1.length->
  Zca N n b (i:Int)=some (bv (atC (b.2.1.drop i) n),())
 |0,_,h,_=>by omega
 |N+1,i,hN,hi=>by
  unfold Zca;by_cases hh:i<b.2.1.length
  ·have hc:=hq _ (Qh (d:=Qc) hh);rw[Zn (Zj (by omega)),Zb (by omega),show(i:Int).toNat=i from rfl,Zs hh (by omega),Kb (d:=Qc) hh,Qq8 h0 h1 hl hq N (i+1) (by omega) (by omega)];generalize b.2.1.getD i Qc=c at*
   have hce:c.1<=X6 c:=by unfold X6;omega
   rw[Zv (by omega) (by omega)];simp only;rw[Zb (by intro _;omega),Zb (by intro _;omega),Zj (p:=n>=0) h0,Zj (p:=c.1>=0) hc.1,Ota,Ota,atC];by_cases hn:c.1<=n/\n<X6 c
   ·have hlt:n-c.1< (c.2.1.length:Int):=by unfold X6 at hn;omega
    have hk: (n-c.1).toNat<c.2.1.length:=by omega
    rw[if_pos hn,Zj (p:=n-c.1>=0) (by omega),Zj (p:=n-c.1< (c.2.1.length:Int)) hlt,Ota,Oct,Zb (by omega),Zb (by omega),List.getElem?_eq_getElem hk];have:c.2.1.getD (n-c.1).toNat 0=c.2.1[(n-c.1).toNat]:=by simp[List.getD,List.getElem?_eq_getElem hk]
    rw[this];have hv:=UInt8.toNat_lt c.2.1[(n-c.1).toNat];rw[Zv (by omega) (by omega)];rfl
   ·rw[if_neg hn];have e: (decide (n-c.1>=0)&&decide (n-c.1< (c.2.1.length:Int)))=false:=by
     unfold X6 at hn;rw[Bool.and_eq_false_iff,decide_eq_false_iff_not,decide_eq_false_iff_not];omega
    rw[e,Ocf]
  ·rw[Zm (Zk (by omega)),List.drop_of_length_le (by omega)];rfl
theorem Q5l{b:Zq}{n:Int}(h0:0<=n)(h1:n<=4611686018427387903)(hl:b.2.1.length<=1000000)(hq: ∀c∈b.2.1,0<=c.1/\X6 c<=4611686018427387903):Zov b n=some (bv (atC b.2.1 n),()):=by
 unfold Zov;exact Qq8 h0 h1 hl hq _ 0 (by unfold Zg5;omega) (by omega)
set_option maxRecDepth 100000 in
theorem Xal: ∀k:Fin 256,bits .and .i64 ((k.val:Nat):Int) 255=((k.val:Nat):Int):=by decide
theorem Q6i(v:UInt8):Zi6 (v.toNat:Int)=some ([v],()):=by
 have hv:=UInt8.toNat_lt v;have hb:bits .and .i64 (v.toNat:Int) 255=(v.toNat:Int):=Xal ⟨v.toNat,by omega⟩;unfold Zi6 Zmg;rw[hb,show Z5 1 1 7=some (true,())from rfl];simp only[Obs,Ont,Bool.false_or];rw[Zm (Zk (by omega))];show Option.bind (Y6 2 (v.toNat:Int) 1 [] 0) _=_;unfold Y6;rw[Zn (by decide),Zb (by decide)];simp only;rw[Zb (by unfold Zqi Zl6;simp),Zb (by decide)];unfold Y6;have e1:Int.tdiv (v.toNat:Int) 256=0:=Int.tdiv_eq_zero_of_lt (by omega) (by omega);have e2:Int.tmod (v.toNat:Int) 256=(v.toNat:Int):=Int.tmod_eq_of_lt (by omega) (by omega);rw[show IntKind.i64.wrap ((0:Int)+1)=1 from rfl,Zm (by decide),e1,e2,show IntKind.i64.wrap 0=0 from rfl,Zk (p:=(0:Int)>0) (by omega),Ocf,Obs];have e3:IntKind.u8.wrap (v.toNat:Int)=(v.toNat:Int):=by simp only[IntKind.wrap,IntKind.bits,IntKind.signed];simp;omega
 rw[e3];simp[Zl6]
def Qxk(b:Zq)(o:Int)(d:List UInt8)(n:Int):UInt8:=match atC b.2.1 n with|some v=>v|none=>d.getD (n-o).toNat 0
def Z1i(b:Zq)(o:Int)(d:List UInt8):Int->Nat->List UInt8|_,0=>[]|a,m+1=>Qxk b o d a::Z1i b o d (a+1) m
theorem Qes(b:Zq)(o:Int)(d:List UInt8): ∀(m:Nat) (a:Int),(Z1i b o d a m).length=m
 |0,_=>rfl
 |m+1,a=>by rw[Z1i,List.length_cons,Qes b o d m]
theorem Qwp(b:Zq)(o:Int)(d:List UInt8): ∀(m:Nat) (a:Int) (j:Nat),j<m->(Z1i b o d a m)[j]? =some (Qxk b o d (a+ (j:Int)))
 |0,_,_,h=>by omega
 |m+1,a,0,_=>by rw[Z1i];simp
 |m+1,a,j+1,h=>by
  rw[Z1i,List.getElem?_cons_succ,Qwp b o d m (a+1) j (by omega)];congr 2;omega
theorem Q56{b:Zq}(hbl:b.2.1.length<=1000000)(hq: ∀c∈b.2.1,0<=c.1/\X6 c<=4611686018427387903)(K1: (Int×List UInt8×Zq×Zq×Zq×List Ze×Int×Unit)->Option (Zq×Unit)){o:Int}(ho:0<=o){d:List UInt8}(t x:Zq)(l:List Ze){i:Nat}(hi:i<l.length){r:Ze}(hr:l.getD i Zy=r)
  (h0:0<=r.1) (hH:r.2.1<=4611686018427387903) (hx:x.2.1.length<=1000000) (hin: ∀n,r.1<=n->n<r.2.1->atC b.2.1 n≠none\/(o<=n/\n<o+ (d.length:Int))):
  ∀(N m:Nat) (s:List UInt8),(m:Int)<=r.2.1-r.1->m<N->(s.length:Int)+m<=4000000->
   Xr K1 N o d b t x l (i:Int) s (r.2.1- (m:Int))=K1 (o,d,b,t,(x.1,(x.2.1++ [(r.1,(s++Z1i b o d (r.2.1- (m:Int)) m,()))],x.2.2)),l,IntKind.i64.wrap ((i:Int)+1),()):=by
 intro N
 induction N with
 |zero=>intro m s _ h _;omega
 |succ N ih=>
 intro m s hm hN hs;cases m with
 |zero=>
  unfold Xr;rw[Zb (by omega),show(i:Int).toNat=i from rfl,hr,Zm (Zk (by omega)),Zb (by omega)];simp only;rw[Zb (by unfold Qo;simp;omega),Z1i,List.append_nil]
 |succ m=>
  have e:r.2.1- ((m+1:Nat):Int)+1=r.2.1- (m:Int):=by omega
  have next: ∀v:UInt8,v=Qxk b o d (r.2.1- ((m+1:Nat):Int))->V6 K1 (fun v=>Xr K1 N v.1 v.2.1 v.2.2.1 v.2.2.2.1 v.2.2.2.2.1 v.2.2.2.2.2.1 v.2.2.2.2.2.2.1 v.2.2.2.2.2.2.2.1 v.2.2.2.2.2.2.2.2.1) o d b t x l (i:Int) s (r.2.1- ((m+1:Nat):Int)) (v.toNat:Int)=
    K1 (o,d,b,t,(x.1,(x.2.1++ [(r.1,(s++Z1i b o d (r.2.1- ((m+1:Nat):Int)) (m+1),()))],x.2.2)),l,IntKind.i64.wrap ((i:Int)+1),()):=by
   intro v hv;unfold V6;rw[Q6i,Obs,Zb (by unfold Zqi;simp only[List.length_singleton];omega),Zv (by omega) (by omega)];simp only[e];rw[ih m (s++ [v]) (by omega) (by omega) (by simp only[List.length_append,List.length_singleton];omega),Z1i,e,<-hv,List.append_assoc,List.singleton_append]
  unfold Xr;rw[Zb (by omega),show(i:Int).toNat=i from rfl,hr,Zn (Zj (by omega)),Q5l (by omega) (by omega) hbl hq,Obs];have hn:=hin (r.2.1- ((m+1:Nat):Int)) (by omega) (by omega);cases ha:atC b.2.1 (r.2.1- ((m+1:Nat):Int))with
  |none=>
   rw[ha]at hn;have hn:=hn.resolve_left (fun h=>h rfl);rw[show decide ((bv (none:Option UInt8),()).1< (0:Int))=true from rfl,Oct,Zv (n:=r.2.1- ((m+1:Nat):Int)-o) (by omega) (by omega),Zb (by omega)];have hv:=UInt8.toNat_lt (d.getD (r.2.1- ((m+1:Nat):Int)-o).toNat 0);rw[Zv (by omega) (by omega)];exact next _ (by unfold Qxk;rw[ha])
  |some v=>
   rw[show decide ((bv (some v),()).1< (0:Int))=false from Zk (show ¬((v.toNat:Int)<0) by omega),Ocf];exact next v (by unfold Qxk;rw[ha])
theorem Qtl(n:Int): ¬inR n []:=fun⟨x,hx,_⟩=>by cases hx
theorem Zt1{n:Int}{x:Ze}{l:List Ze}:inR n (x::l)↔(x.1<=n/\n<x.2.1)\/inR n l:=by
 constructor
 ·rintro⟨y,hy,h⟩;rcases List.mem_cons.1 hy with rfl|hy
  ·exact .inl h
  ·exact .inr ⟨y,hy,h⟩
 ·rintro(h| ⟨y,hy,h⟩)
  ·exact⟨x,List.mem_cons_self,h⟩
  ·exact⟨y,List.mem_cons_of_mem _ hy,h⟩
theorem Q52{n:Int}: ∀{l:List Ze} {r:Ze},inR n (Zgk l r)↔inR n l\/(r.1<=n/\n<r.2.1)
 |l,r=>⟨Qc0,in_addR' l r⟩
where in_addR' {n:Int}: ∀(l:List Ze) (r:Ze),inR n l\/(r.1<=n/\n<r.2.1)->inR n (Zgk l r)
 | [],r,h=>⟨r,by simp[Zgk],h.resolve_left (Qtl n)⟩
 |x::l,r,h=>by
  unfold Zgk;split
  ·refine Zt1.2 ?_;rcases h with h|h
   ·rcases Zt1.1 h with h|h
    ·exact .inl h
    ·exact .inr (in_addR' l r (.inl h))
   ·exact .inr (in_addR' l r (.inr h))
  ·split
   ·exact Zt1.2 (h.symm)
   ·refine in_addR' l _ ?_;rcases h with h|h
    ·rcases Zt1.1 h with h|h
     ·exact .inr (by simp only;omega)
     ·exact .inl h
    ·exact .inr (by simp only;omega)
def rgS(b:Zq)(o:Int)(d:List UInt8)(r:Ze):Z0:=(r.1,(Z1i b o d r.1 (r.2.1-r.1).toNat,()))
theorem Quc(b:Zq)(o:Int)(d:List UInt8){r:Ze}(h:r.1<=r.2.1):X6 (rgS b o d r)=r.2.1:=by
 unfold X6 rgS;simp only;rw[Qes];omega
theorem Qzk{b:Zq}(hbl:b.2.1.length<=1000000)(hq: ∀c∈b.2.1,0<=c.1/\X6 c<=4611686018427387903){o:Int}(ho:0<=o){d:List UInt8}(t:Zq){l:List Ze}(hl:l.length<=1000000)(hf: ∀r∈l,Zej r=true)(hc: ∀r∈l,r.2.1-r.1<=2000000)
  (hin: ∀n,inR n l->atC b.2.1 n≠none\/(o<=n/\n<o+ (d.length:Int))): ∀(N i:Nat) (x:Zq),l.length-i<N->i<=l.length->x.2.1.length<=i->
   Kp N o d b t x l (i:Int)=some ((x.1,(x.2.1++ (l.drop i).map (rgS b o d),x.2.2)),())
 |0,_,_,h,_,_=>by omega
 |N+1,i,x,hN,hi,hx=>by
  unfold Kp;by_cases h:i<l.length
  ·have hmem:=Qh (d:=Zy) h;have hfi:=Ql.1 (hf _ hmem);have hci:=hc _ hmem;rw[Zn (Zj (by omega)),Zb (by omega),show(i:Int).toNat=i from rfl,Kb (d:=Zy) h,List.map_cons];generalize hr:l.getD i Zy=r at*
   have k:=Q56 hbl hq (fun v=>Kp N v.1 v.2.1 v.2.2.1 v.2.2.2.1 v.2.2.2.2.1 v.2.2.2.2.2.1 v.2.2.2.2.2.2.1) ho t x l h hr hfi.1 (by omega) (by omega) (fun n hn1 hn2=>hin n ⟨r,hmem,hn1,hn2⟩) (Jo o d b t x l (i:Int) [] r.1) (r.2.1-r.1).toNat [] (by omega)
    (by unfold Jo;rw[show(i:Int).toNat=i from rfl,hr];omega) (by simp only[List.length_nil];omega)
   rw[show r.2.1- (((r.2.1-r.1).toNat:Nat):Int)=r.1 by omega]at k;rw[k,Zs h (by omega)];have q:=Qzk hbl hq ho (d:=d) t hl hf hc hin N (i+1) (x.1,(x.2.1++ [rgS b o d r],x.2.2)) (by omega) (by omega) (by simp only[List.length_append,List.length_singleton];omega);refine Eq.trans q ?_;simp only[List.append_assoc,List.singleton_append]
  ·rw[Zm (Zk (by omega)),List.drop_of_length_le (by omega)];simp
theorem Qz5(b:Zq)(o:Int)(d:List UInt8): ∀{l:List Ze} {e:Int},rsB e l=true->Qe5 e (l.map (rgS b o d))
 | [],_,_=>trivial
 |r::l,e,h=>by
  simp only[rsB,Oba,decide_eq_true_eq]at h;have hf:=Ql.1 h.1.1;refine⟨h.1.2,?_,?_⟩
  ·intro e0;have:=congrArg List.length e0;unfold rgS at this;simp only[Qes,List.length_nil]at this;omega
  ·rw[Quc b o d (by omega)];exact Qz5 b o d h.2
theorem Q4p(b:Zq)(o:Int)(d:List UInt8): ∀{l:List Ze} {n:Int},(∀r∈l,Zej r=true)->(inR n l->atC (l.map (rgS b o d)) n=some (Qxk b o d n))/\(¬inR n l->atC (l.map (rgS b o d)) n=none)
 | [],n,_=>⟨fun h=>absurd h (Qtl n),fun _=>rfl⟩
 |r::l,n,h=>by
  have hf:=Ql.1 (h r List.mem_cons_self);obtain⟨k1,k2⟩:=Q4p b o d (l:=l) (n:=n) fun x hx=>h x (List.mem_cons_of_mem _ hx);rw[List.map_cons,atC,Quc b o d (by omega)];show(_->(if r.1<=n/\n<r.2.1 then(Z1i b o d r.1 (r.2.1-r.1).toNat)[(n-r.1).toNat]? else _)=_)/\(_->(if r.1<=n/\n<r.2.1 then(Z1i b o d r.1 (r.2.1-r.1).toNat)[(n-r.1).toNat]? else _)=_)
  by_cases hn:r.1<=n/\n<r.2.1
  ·rw[if_pos hn,Qwp b o d _ _ _ (by omega),show r.1+ (((n-r.1).toNat:Nat):Int)=n by omega];exact⟨fun _=>rfl,fun h=>absurd ⟨r,List.mem_cons_self,hn⟩ h⟩
  ·rw[if_neg hn];exact⟨fun h=>k1 ((Zt1.1 h).resolve_left hn),fun h=>k2 fun h'=>h (Zt1.2 (.inr h'))⟩
theorem Qyx: ∀{l:List Z0} {n:Int},atC l n≠none↔inR n (l.map rgC)
 | [],n=>⟨fun h=>absurd rfl h,fun h=>absurd h (Qtl n)⟩
 |c::l,n=>by
  rw[List.map_cons,Zt1,<-Qyx (l:=l)];unfold rgC;simp only;by_cases hn:c.1<=n/\n<X6 c
  ·have:c.1<=n/\n<c.1+ (c.2.1.length:Int):=hn;exact⟨fun _=> .inl this,fun _=>Ql9 hn.1 hn.2⟩
  ·have h2: ¬(c.1<=n/\n<c.1+ (c.2.1.length:Int)):=hn;rw[atC,if_neg hn];exact⟨fun h=> .inr h,fun h=>h.resolve_left h2⟩
theorem Q70{K:Nat}{b:Zq}(h:Zc7 K b)(o:Int)(d:List UInt8)(hK:K+d.length+1<=1000000)(hb:Zju b=true)(hdl:0<d.length)(h1: ¬o<0)(h2: ¬o>4611686018427387903- (d.length:Int))(h3: ¬o+ (d.length:Int)<=b.1):
  rsB (b.1-1) (Zgk (b.2.1.map rgC) (max o b.1,(o+ (d.length:Int),())))=true/\(∀n,inR n (Zgk (b.2.1.map rgC) (max o b.1,(o+ (d.length:Int),())))↔atC b.2.1 n≠none\/(max o b.1<=n/\n<o+ (d.length:Int)))/\
  (Zgk (b.2.1.map rgC) (max o b.1,(o+ (d.length:Int),()))).map (rgS b o d)=Qoa (Zbr o d (o+ (d.length:Int)) (max o b.1) b.2.1):=by
 have hl:=h.len;have ht:=h.tot;obtain⟨q1,q2,q3⟩:=Zqh (by omega) hb;have hrs:rsB (-1) (b.2.1.map rgC)=true:=Zxq q3 (by omega);have hfr:Zej (max o b.1,(o+ (d.length:Int),()))=true:=Ql.2 (by simp only;omega);have hars:=Z37 hrs hfr (by simp only;omega);have hbb:=hb;unfold Zju at hbb;simp only[Oba]at hbb;rw[Zv (by omega) (by omega)]at hbb;obtain⟨k1,k2⟩:=Qat hbb.1 (by omega) fun c hc=>by have:=Zv3 hc;omega
 have hf: ∀r∈Zgk (b.2.1.map rgC) (max o b.1,(o+ (d.length:Int),())),Zej r=true:=fun r hr=>(Znu hars r hr).2;have hR: ∀n,inR n (Zgk (b.2.1.map rgC) (max o b.1,(o+ (d.length:Int),())))↔atC b.2.1 n≠none\/(max o b.1<=n/\n<o+ (d.length:Int)):=fun n=>by rw[Q52,Qyx]
 refine⟨Z37 q3 hfr (by simp only;omega),hR,?_⟩;have hce: ∀c∈b.2.1,c.1<=X6 c:=fun c _=>by unfold X6;omega
 have ho:Z56 0 (Zbr o d (o+ (d.length:Int)) (max o b.1) b.2.1):=by
  refine Z9n (by omega) (by omega) ?_;have:=Qlc (e:=0) k1;cases hbl:b.2.1 with
  |nil=>trivial
  |cons c l=>
   rw[hbl]at k1 this;exact⟨by have:=k1.1;omega,this.2⟩
 have hP:Qe5 (-1) (Qoa (Zbr o d (o+ (d.length:Int)) (max o b.1) b.2.1))/\ ∀n,atC (Qoa (Zbr o d (o+ (d.length:Int)) (max o b.1) b.2.1)) n=atC (Zbr o d (o+ (d.length:Int)) (max o b.1) b.2.1) n:=by
  generalize Zbr o d (o+ (d.length:Int)) (max o b.1) b.2.1=P at ho;cases P with
  |nil=>exact⟨trivial,fun _=>rfl⟩
  |cons c l=>exact⟨Qgi (by have:=ho.1;omega) ho.2.1 ho.2.2,Qn8 ho.2.1 ho.2.2⟩
 have hbo:Z56 (-1) b.2.1:=Q1f (by omega) (Qlc (e:=0) k1);refine Quu (Qz5 b o d hars) hP.1 fun n=> ?_;obtain⟨r1,r2⟩:=Q4p b o d hf (n:=n);rw[hP.2,Q1i (by omega) hbo];by_cases hn:inR n (Zgk (b.2.1.map rgC) (max o b.1,(o+ (d.length:Int),())))
 ·rw[r1 hn];have hn':=(hR n).1 hn;unfold Qxk;cases ha:atC b.2.1 n with
  |some v=>rfl
  |none=>
   rw[ha]at hn';have hn':=hn'.resolve_left fun h=>h rfl;simp only;rw[if_pos hn',List.getElem?_eq_getElem (by omega)];simp[List.getD,List.getElem?_eq_getElem (show(n-o).toNat<d.length by omega)]
 ·rw[r2 hn];have hn':=fun h=>hn ((hR n).2 h);have ha:atC b.2.1 n=none:=by
   cases ha:atC b.2.1 n with
   |none=>rfl
   |some v=>exact absurd (.inl (by rw[ha];simp)) hn'
  rw[ha];simp only;rw[if_neg fun h=>hn' (.inr h)]
theorem Z2j{K:Nat}{b:Zq}(h:Zc7 K b)(o:Int)(d:List UInt8)(hK:K+d.length+1<=1000000)(hoB:o<=4611686018427387904):Zfi b o d=some (Qge b o d,()):=by
 have hl:=h.len;have ht:=h.tot;unfold Zfi Qge;rw[Zed b (by omega),Obs];simp only;cases hb:Zju b
 ·rw[Zt5 h (by omega)];rfl
 simp only[Ont,Bool.false_or];rw[Zv (n:=4611686018427387903- (d.length:Int)) (by omega) (by omega)];by_cases hd: (d==([]:List UInt8))=true
 ·rw[hd,Zt5 h (by omega)];rfl
 rw[Bool.not_eq_true]at hd;have hdl:0<d.length:=List.length_pos_iff.2 fun e=>by rw[e]at hd;cases hd
 rw[hd];simp only[Bool.false_or];by_cases h1:o<0
 ·rw[Zj h1,Zt5 h (by omega)];rfl
 rw[Zk h1,Bool.false_or];by_cases h2:o>4611686018427387903- (d.length:Int)
 ·rw[Zj h2,Zt5 h (by omega)];rfl
 rw[Zk h2,Bool.false_or,Ocf,Zv (by omega) (by omega)];obtain⟨q1,q2,q3⟩:=Zqh (by omega) hb;by_cases h3:o+ (d.length:Int)<=b.1
 ·rw[Zj h3,Zn (Zj (by omega)),Zt5 h (by omega)];rfl
 rw[Zk h3,Ocf,Zm (Zk (by omega)),Qap h (by omega),Obs,hb];simp only[if_true];have hml: (b.2.1.map rgC).length<=1048576:=by rw[List.length_map];omega
 rw[Zm3 _ _ hml,Obs];have hrs:rsB (-1) (b.2.1.map rgC)=true:=Zxq q3 (by omega);have hfr:Zej (max o b.1,(o+ (d.length:Int),()))=true:=Ql.2 (by simp only;omega);simp only[hrs,hfr,and_self,if_true];have hcl:=Qak (l:=b.2.1.map rgC) (r:=((max o b.1,(o+ (d.length:Int),())):Ze));rw[List.length_map]at hcl;have hcc:=Z1v (l:=b.2.1.map rgC) (r:=((max o b.1,(o+ (d.length:Int),())):Ze)) (fun x hx=>by
  have:=Ql.1 (Znu hrs x hx).2;omega) (by simp only;omega)
 rw[Qld]at hcc;simp only at hcc;obtain⟨hars',hR,hu⟩:=Q70 h o d hK hb hdl h1 h2 h3;have hars:=Zxq hars' (show(-1:Int)<=b.1-1 by omega);have hbb:=hb;unfold Zju at hbb;simp only[Oba]at hbb;rw[Zv (by omega) (by omega)]at hbb;obtain⟨k1,k2⟩:=Qat hbb.1 (by omega) fun c hc=>by have:=Zv3 hc;omega
 have hf: ∀r∈Zgk (b.2.1.map rgC) (max o b.1,(o+ (d.length:Int),())),Zej r=true:=fun r hr=>(Znu hars r hr).2;have hnn: ∀{l:List Ze},(∀r∈l,Zej r=true)->0<=Jp l/\ ∀r∈l,r.2.1-r.1<=Jp l:=by
  intro l
  induction l with
  |nil=>intro _;exact⟨by simp[Jp],fun _ h=>by cases h⟩
  |cons r l ih=>
   intro hh;have hr:=Ql.1 (hh r List.mem_cons_self);obtain⟨g1,g2⟩:=ih fun r hr=>hh r (List.mem_cons_of_mem _ hr);simp only[Jp];refine⟨by omega,fun x hx=> ?_⟩;rcases List.mem_cons.1 hx with rfl|hx
   ·omega
   ·have:=g2 x hx;omega
 have key:=Qzk (b:=b) (by omega) k2 (o:=o) (by omega) (d:=d) Qlw (l:=Zgk (b.2.1.map rgC) (max o b.1,(o+ (d.length:Int),()))) (by omega) hf (fun r hr=>by have:=(hnn hf).2 r hr;omega)
  (fun n hn=>((hR n).1 hn).imp id fun h=>by omega) (Jn o d b Qlw (b.1,([],())) (Zgk (b.2.1.map rgC) (max o b.1,(o+ (d.length:Int),()))) 0) 0 (b.1,([],())) (by unfold Jn;omega) (by omega) (by simp)
 refine Eq.trans key ?_;simp only[List.nil_append,List.drop_zero];rw[hu]
theorem Qve{K:Nat}{b:Zq}(h:Zc7 K b)(o:Int)(d:List UInt8)(hK:K+d.length+1<=1000000)(hoB:o<=4611686018427387904):Zc7 (K+d.length+1) (Qge b o d):=by
 obtain⟨y,e,hy⟩:=Qn7 h o d hK;rw[Z2j h o d hK hoB]at e;simp only[Osi,Opi,and_true]at e;rw[e];exact hy
theorem Z6u{K:Nat}{r:Zr}(h:Zc7 K r.2.1)(hK:K<=1000000):W7 r=some (r,()):=by
 unfold W7;rw[Zoo h hK];rfl
theorem Qlj{K:Nat}{r:Zr}(h:Zc7 K r.2.1)(hK:K<=1000000):Zgi r=some (r,()):=by
 unfold Zgi;rw[Zt5 h hK];rfl
noncomputable def Qaw(r:Zr)(e:Int)(fin:Bool):Bool:=((r.2.2.1 !=(-1:Int))&& (decide (e>r.2.2.1)))|| (fin&& (((r.2.2.1 !=(-1:Int))&& (e !=r.2.2.1))|| (decide (e<r.2.2.2.1))))
theorem Qy7(r:Zr)(e:Int)(fin:Bool):Zma r e fin=some (Qaw r e fin,()):=rfl
theorem Qta(r:Zr)(e:Int)(fin:Bool):Zjr r e fin=some (bif Qaw r e fin then 6 else 0,()):=by
 unfold Zjr Qaw;cases r.2.2.1 !=(-1:Int)<;>cases decide (e>r.2.2.1)<;>cases fin<;>cases e !=r.2.2.1<;>cases decide (e<r.2.2.2.1)<;>rfl
theorem Q44{r:Zr}(h:0<=r.1):Zt0 r=some (!decide (r.1>1),()):=by
 unfold Zt0;congr 2;rw[Bool.eq_iff_iff];simp only[Bool.or_eq_true,beq_iff_eq,Bool.not_eq_true',decide_eq_false_iff_not];omega
theorem Q4n{K:Nat}{r:Zr}(h:Zc7 K r.2.1)(o:Int)(d:List UInt8)(fin:Bool)(hK:K+d.length+1<=900000)(hoB:o<=4611686018427387904):Zl8 r o d fin=Yn r o d fin:=by
 unfold Zl8 Yn;rw[Z6u h (by omega),Qlj h (by omega),Zrs h (by omega),Qq0 h (by omega)];simp only[Obs];cases hb:Z9r r
 ·rfl
 have h0:=Xba h (by omega) hb;simp only[Ont,Bool.false_or];rw[Qy7,Qta,Q44 h0];simp only[Obs];generalize (decide (o<0)||decide (o>IntKind.i64.wrap (4611686018427387903- (d.length:Int))))=a;cases a
 rotate_left
 ·rfl
 rw[Ocf,Ocf];cases Qaw r (IntKind.i64.wrap (o+ (d.length:Int))) fin
 rotate_left
 ·rfl
 rw[Ocf,Ocf];cases decide (r.1>1)
 rotate_left
 ·rfl
 have hi:=Qve h o d (by omega) hoB;have j: ∀x:Zr,Zdb o d r Zmt x=Y7 o d r Zmt x:=fun x=>by
  unfold Zdb Y7 Zm9;rw[Qvg h o d (by omega) hoB,Z2j h o d (by omega) hoB];simp only[Obs];rw[Qi2 hi (by omega),Zlk _ (by have:=hi.len;omega)];cases x.2.2.1 !=(-1:Int)
  ·rfl
  ·rfl
 cases fin
 ·exact j _
 ·exact j _
theorem Qq3{K:Nat}{r:Zr}(h:Zc7 K r.2.1)(code final:Int)(hK:K<=900000):Zkw r code final=Jh r code final:=by
 unfold Zkw Jh;rw[Z6u h (by omega),Qlj h (by omega),Zrs h (by omega),Qq0 h (by omega)];simp only[Obs];cases hb:Z9r r
 ·rfl
 have h0:=Xba h (by omega) hb;rw[Qy7,Qta,Q44 h0];simp only[Obs,Ont,Bool.false_or,Ocf,Z4o,Y5];cases J4 code
 ·rfl
 cases J4 final
 ·rfl
 simp only[Ont,Ocf,Obs,Bool.or_self];cases Qaw r final true
 rotate_left
 ·rfl
 cases decide (r.1>1)<;>rfl
def Z5i(s:Zd):List Zd->List Zd| []=>[s]|x::r=>if x.1>s.1 then s::x::r else x::Z5i s r
theorem Q77{K:Nat}{l:List Zd}{s:Zd}(h:Zgj K l)(hK:K<=500000): ∀(N i:Nat) (out:List Zd),l.length-i<N->i<=l.length->out.length<=i+1->Qt N l s out (-1) true (i:Int)=some (out++l.drop i,())
 |0,_,_,h,_,_=>by omega
 |N+1,i,out,hN,hi,ho=>by
  have hl:=h.len;rw[Qt];by_cases hh:i<l.length
  ·rw[Zn (Zj (by omega)),Zb (by omega),show(i:Int).toNat=i from rfl,Znp (h.all _ (Qh (d:=Zh) hh)) (by omega),Obs];have: ((i:Int)==(-1:Int))=false:=by simp
   rw[this,Ocf,Zb (fun h=>by cases h)];simp only[Ont,Bool.false_and,Ocf];unfold Xm;rw[Zb (by unfold Qo;simp only[List.length_singleton];omega),Zs hh (by omega)];refine Eq.trans (Q77 h hK N (i+1) (out++ [l.getD i Zh]) (by omega) (by omega) (by simp only[List.length_append,List.length_singleton];omega)) ?_;rw[Kb (d:=Zh) hh,List.append_assoc,List.singleton_append]
  ·rw[Zm (Zk (by omega)),List.drop_of_length_le (by omega),List.append_nil];rfl
theorem Q76{K:Nat}{l:List Zd}{s:Zd}(h:Zgj K l)(hs:Xc K s)(hK:K<=500000): ∀(N i:Nat) (out:List Zd),l.length-i<N->i<=l.length->out.length<=i->Qt N l s out (-1) false (i:Int)=some (out++Z5i s (l.drop i),())
 |0,_,_,h,_,_=>by omega
 |N+1,i,out,hN,hi,ho=>by
  have hl:=h.len;rw[Qt];by_cases hh:i<l.length
  ·rw[Zn (Zj (by omega)),Zb (by omega),show(i:Int).toNat=i from rfl,Znp (h.all _ (Qh (d:=Zh) hh)) (by omega),Obs];have: ((i:Int)==(-1:Int))=false:=by simp
   rw[this,Ocf,Zb (fun _=>by omega),Kb (d:=Zh) hh];simp only[Bool.not_false,Ota];unfold Z5i;by_cases hg: (l.getD i Zh).1>s.1
   ·rw[Zj hg,Oct,if_pos hg,Znp hs (by omega),Obs,Zb (by unfold Qo;simp only[List.length_singleton];omega)];unfold Xm;rw[Zb (by unfold Qo;simp only[List.length_append,List.length_singleton];omega),Zs hh (by omega)];refine Eq.trans (Q77 h hK N (i+1) (out++ [s]++ [l.getD i Zh]) (by omega) (by omega) (by simp only[List.length_append,List.length_singleton];omega)) ?_;simp only[List.append_assoc,List.cons_append,List.nil_append]
   ·rw[Zk hg,Ocf,if_neg hg];unfold Xm;rw[Zb (by unfold Qo;simp only[List.length_singleton];omega),Zs hh (by omega)];refine Eq.trans (Q76 h hs hK N (i+1) (out++ [l.getD i Zh]) (by omega) (by omega) (by simp only[List.length_append,List.length_singleton];omega)) ?_;rw[List.append_assoc,List.singleton_append]
  ·rw[Zm (Zk (by omega)),List.drop_of_length_le (by omega)];simp only[Bool.not_false,Oct];rw[Znp hs (by omega),Obs,Zb (by unfold Qo;simp only[List.length_singleton];omega)];rfl
def gtS(s:Zd):List Zd->Option Nat| []=>none|x::r=>if x.1>s.1 then some 0 else(gtS s r).map (· +1)
theorem Qli(s:Zd): ∀l:List Zd,Z5i s l=match gtS s l with|none=>l++ [s]|some p=>l.take p++ [s]++l.drop p
 | []=>rfl
 |x::r=>by
  unfold Z5i gtS;by_cases hg:x.1>s.1
  ·rw[if_pos hg,if_pos hg];rfl
  ·rw[if_neg hg,if_neg hg,Qli s r];cases gtS s r<;>rfl
theorem Qxg{s:Zd}: ∀{l:List Zd} {p:Nat},gtS s l=some p->p<l.length
 | [],_,h=>by cases h
 |x::r,p,h=>by
  unfold gtS at h;split at h
  ·cases h;simp
  ·cases hr:gtS s r with
   |none=>rw[hr]at h;cases h
   |some q=>
    rw[hr]at h;cases h;have:=Qxg hr;simp only[List.length_cons];omega
theorem Q7z{l:List Zd}(s:Zd)(hl:l.length<=1000000): ∀(N i:Nat),l.length-i<N->i<=l.length->Qa N l (s,()) (l.length:Int) (i:Int)=some (match gtS s (l.drop i)with|none=> -1|some p=>((i+p:Nat):Int),())
 |0,_,h,_=>by omega
 |N+1,i,hN,hi=>by
  unfold Qa;by_cases hh:i<l.length
  ·rw[Zn (Zj (by omega)),Zb (by omega),show(i:Int).toNat=i from rfl,Zs hh (by omega),Kb (d:=Zh) hh,Q7z s hl N (i+1) (by omega) (by omega)];show Option.bind (some (decide ((l.getD i Zh).1>s.1),())) _=_;rw[Obs,gtS];by_cases hg: (l.getD i Zh).1>s.1
   ·rw[Zj hg,Oct,if_pos hg];rfl
   ·rw[Zk hg,Ocf,if_neg hg];cases gtS s (l.drop (i+1))with
    |none=>rfl
    |some p=>
     simp only[Option.map_some];rw[show i+1+p=i+ (p+1)from by omega]
  ·rw[Zm (Zk (by omega)),List.drop_of_length_le (by omega)];rfl
theorem gtI{l:List Zd}(s:Zd)(hl:l.length<=1000000):Qs l (s,())=some (match gtS s l with|none=> -1|some p=>(p:Int),()):=by
 unfold Qs;refine Eq.trans (Q7z s hl _ 0 (by unfold Q2;omega) (by omega)) ?_;rw[List.drop_zero];cases gtS s l with
 |none=>rfl
 |some p=>simp
theorem Q6q{K:Nat}{l:List Zd}{s:Zd}(h:Zgj K l)(hs:Xc K s)(hK:K<=500000)(hi:Yw l s.1= -1):Qi l s=some (Z5i s l,()):=by
 have hl:=h.len;unfold Qi;rw[Qcd (by omega),Obs,hi];have e:decide ((-1:Int)>=0)=false:=rfl;simp only[e];refine Eq.trans (Q76 h hs hK _ 0 [] (by unfold Vd;omega) (by omega) (by simp)) ?_;simp
theorem Q6p{K:Nat}{l:List Zd}{s:Zd}(h:Zgj K l)(hs:Xc K s)(hK:K<=500000)(hi:Yw l s.1= -1):Zhu l s=some (Z5i s l,()):=by
 have hl:=h.len;have hc:Wj l=some (l,()):=by
  unfold Wj;exact Zqx h (by omega) _ 0 (by unfold Ky;omega) (by omega)
 have hj: ∀p:Nat,p<=l.length->Zfs s l (p:Int)=some (l.take p++ [s]++l.drop p,()):=fun p hp=>by
  unfold Zfs Z7b Q3o;rw[Z1w hs (by omega),Obs,Zb ⟨by omega,by omega,by simp,by unfold Qo;simp only[List.length_singleton];omega⟩,Obs];rfl
 unfold Zhu;rw[hc,Obs,Qb8 (by omega),Qcd (by omega),Obs,hi];have e:decide ((-1:Int)>=0)=false:=rfl;simp only[e,Ocf];rw[gtI s (by omega),Obs,Qli];cases hg:gtS s l with
 |none=>
  simp only;rw[Zn (Zj (by omega)),hj l.length (Nat.le_refl _),List.take_length,List.drop_length,List.append_nil]
 |some p=>
  simp only;rw[Zm (Zk (by omega)),hj p (Nat.le_of_lt (Qxg hg))]
def Q10(m:Option (Bool×Unit)):Bool:=match m with|some (b,_)=>b|none=>false
theorem Q47{m:Option (Bool×Unit)}(h:TT m):m=some (Q10 m,()):=by
 obtain⟨⟨b,u⟩,e,-⟩:=h;rw[e];rfl
theorem Xbw(n:Int):Zpb n=Vc n:=rfl
theorem Xa7(v:Bool)(n:Int):Zd9 v n=Zcw v n:=rfl
theorem Q8c(v:Bool)(n:Int):Zlc v n=Yr v n:=rfl
theorem Q4o(v:Bool)(n:Int):Zcm v n=Q8 v n:=rfl
theorem Qsi(n:Int):Vt n=some (J4 n,()):=rfl
theorem Qcn{f:Zl}(h:FOK f):Zae f=some (Yo f,()):=Ztj f (by unfold FOK at h;omega)
theorem Qco{f:Zl}(h:FOK f):Zdl f=some (Yo f,()):=Qcf f (by unfold FOK at h;omega)
def idV(n:Int):Int:=bif J4 n then n/4 else-1
theorem Q84(n:Int):Zjl n=some (idV n,()):=by
 unfold Zjl idV;rw[Y5,Obs];have hp: (2:Int)^ (min (2:Int).toNat IntKind.i64.bits)=4:=by
  have: (min (2:Int).toNat IntKind.i64.bits)=2:=rfl;rw[this];rfl
 cases hq:J4 n
 ·rfl
 ·rw[Ont,Ocf,Oct,Zb (by omega),hp,Int.fdiv_eq_ediv_of_nonneg _ (by omega)]
theorem Q83(n:Int):Zdk n=some (idV n,()):=by
 unfold Zdk idV;rw[Qsi,Obs];cases hq:J4 n
 ·rfl
 ·have h:=X4.1 hq;rw[Ont,Ocf,Oct,Zb (by omega),Int.tdiv_eq_ediv_of_nonneg h.1,Zv (by omega) (by omega)]
theorem Qxw(n:Int):Zpc n=Zcd n:=by
 have:Zas n=Jl n:=by
  unfold Zas Jl;rw[Zrg,Obs];have e:decide (n>=1)=decide (n>0):=decide_eq_decide.2 (by omega);rw[e]
 unfold Zpc Zcd Zyu Zp2;rw[this]
theorem Qxy(v:Bool)(n:Int)(o p:Zfp):Zpd v n o p=Kx v n o p:=by
 unfold Zpd Kx;simp only[Qzm,Qxw,Qsi,Y5,Obs];rfl
def Zux(a:Q0)(n:Int):Bool:=Z1l a&& (decide (0<=n)&&decide (n<a.2.1))
def siN(a:Q0)(n:Int):Int:=max 0 (n+1-a.2.2.1)
def siV(a:Q0)(n:Int):Q0:=(a.1,(a.2.1,(a.2.2.1+siN a n,a.2.2.2)))
theorem Qz9{a:Q0}{n:Int}(h:Zux a n=true):IntKind.i64.wrap (IntKind.i64.wrap (n+1)-a.2.2.1)=n+1-a.2.2.1/\IntKind.i64.wrap (a.2.2.1+siN a n)=a.2.2.1+siN a n:=by
 unfold Zux at h;simp only[Oba,decide_eq_true_eq]at h;have g:=Z7d.1 h.1;have:=g.lim;have:=g.seen;have:=g.most
 unfold siN;rw[Zv (n:=n+1) (by omega) (by omega),Zv (by omega) (by omega),Zv (by omega) (by omega)];exact⟨rfl,rfl⟩
theorem Q1q(a:Q0)(n:Int):Zgv a n=some (bif Zux a n then siV a n else a,bif Zux a n then siN a n else 0,Zux a n,()):=by
 unfold Zgv;rw[Q5i,Obs];have e: (((!Z1l a)|| (decide (n<0)))|| (decide (n>=a.2.1)))= !Zux a n:=by
  have e1:decide (n<0)= !decide (0<=n):=by rw[<-decide_not];exact decide_eq_decide.2 (by omega)
  have e2:decide (n>=a.2.1)= !decide (n<a.2.1):=by rw[<-decide_not];exact decide_eq_decide.2 (by omega)
  unfold Zux;rw[e1,e2];cases Z1l a<;>cases decide (0<=n)<;>cases decide (n<a.2.1)<;>rfl
 rw[e];cases h:Zux a n
 ·rfl
 ·obtain⟨h1,h2⟩:=Qz9 h;simp only[Ont,Ocf,Oct];rw[h1];unfold siN at h2;rw[h2];rfl
theorem Qr9(a:Q0)(n:Int):Zby a n=some (bif Zux a n then siV a n else a,bif Zux a n then siN a n else 0,Zux a n,()):=by
 unfold Zby;rw[Qvh,Q5i,Obs];simp only[Zrg,bO,bO2];have e: ((!Z1l a)|| !(decide (n>=0)&&decide (n<=IntKind.i64.wrap (a.2.1-1))))= !Zux a n:=by
  unfold Zux;cases ha:Z1l a
  ·rfl
  ·have g:=Z7d.1 ha;have:=g.lim;have:=g.most
   rw[Zv (by omega) (by omega),show decide (n<=a.2.1-1)=decide (n<a.2.1)from decide_eq_decide.2 (by omega)];rfl
 rw[e];cases h:Zux a n
 ·rfl
 ·obtain⟨h1,h2⟩:=Qz9 h;simp only[Ont,Ocf,Oct];rw[h1,Int.max_comm];unfold siN at h2;rw[h2];rfl
def Zu4(w:Qq)(n:Int):Bool:=Z1j w&& (decide (0<=n)&&decide (n<=w.2.2.1-w.2.2.2.1))
def snV(w:Qq)(n:Int):Qq:=bif Zu4 w n then(w.1,(w.2.1,(w.2.2.1,(w.2.2.2.1+n,w.2.2.2.2))))else w
theorem Xbh(w:Qq)(n:Int):Zgu w n=some (snV w n,Zu4 w n,()):=by
 unfold Zgu snV;rw[Qyq,Obs];cases hw:Z1j w
 ·have:Zu4 w n=false:=by unfold Zu4;rw[hw];rfl
  rw[this];rfl
 ·have g:=Zu1.1 hw;have:=g.lim;have:=g.seen
  rw[Zv (n:=w.2.2.1-w.2.2.2.1) (by omega) (by omega)];by_cases hn:0<=n/\n<=w.2.2.1-w.2.2.2.1
  ·have e:Zu4 w n=true:=by unfold Zu4;rw[hw,Zj hn.1,Zj hn.2];rfl
   rw[e,Zm (by rw[Zk (p:=n<0) (by omega),Zk (by omega)];rfl),Zv (by omega) (by omega)];rfl
  ·have e:Zu4 w n=false:=by unfold Zu4;rw[hw,Ota,Bool.and_eq_false_iff];simp only[decide_eq_false_iff_not];omega
   rw[e,Zn (by rw[Ont,Bool.false_or,Bool.or_eq_true,decide_eq_true_eq,decide_eq_true_eq];omega)];rfl
theorem Q6z(w:Qq)(n:Int):Zgp w n=some (snV w n,Zu4 w n,()):=by
 unfold Zgp snV;rw[Zw1,Qyq,Obs];simp only[Zrg,bO,bO2];cases hw:Z1j w
 ·have:Zu4 w n=false:=by unfold Zu4;rw[hw];rfl
  rw[this];rfl
 ·have g:=Zu1.1 hw;have:=g.lim;have:=g.seen
  rw[Zv (n:=w.2.2.1-w.2.2.2.1) (by omega) (by omega)];have e: (!true|| !(decide (n>=0)&&decide (n<=w.2.2.1-w.2.2.2.1)))= !Zu4 w n:=by unfold Zu4;rw[hw];rfl
  rw[e];cases h:Zu4 w n
  ·rfl
  ·unfold Zu4 at h;simp only[Oba,decide_eq_true_eq]at h;rw[Ont,Ocf,Oct,Zv (by omega) (by omega)]
theorem Qzs(w:Qq):Zjd w=some (bif Z1j w then w.2.2.1-w.2.2.2.1 else 0,()):=by
 unfold Zjd;rw[Zw1,Qyq,Obs];cases hw:Z1j w
 ·rfl
 ·have g:=Zu1.1 hw;have:=g.lim;have:=g.seen
  rw[Ont,Ocf,Oct,Zv (by omega) (by omega)]
def Zxn(w:Qq)(n:Int):Bool:=Z1j w&& (decide (0<=n)&&decide (n<=w.2.2.2.1-w.2.2.2.2.1))
def rdV(w:Qq)(n:Int):Qq:=bif Zxn w n then(w.1,(w.2.1,(w.2.2.1,(w.2.2.2.1,(w.2.2.2.2.1+n,w.2.2.2.2.2)))))else w
theorem Xbd(w:Qq)(n:Int):Zeu w n=some (rdV w n,Zxn w n,()):=by
 unfold Zeu rdV;rw[Qyq,Obs];cases hw:Z1j w
 ·have:Zxn w n=false:=by unfold Zxn;rw[hw];rfl
  rw[this];rfl
 ·have g:=Zu1.1 hw;have:=g.lim;have:=g.seen;have:=g.read
  rw[Zv (n:=w.2.2.2.1-w.2.2.2.2.1) (by omega) (by omega)];by_cases hn:0<=n/\n<=w.2.2.2.1-w.2.2.2.2.1
  ·have e:Zxn w n=true:=by unfold Zxn;rw[hw,Zj hn.1,Zj hn.2];rfl
   rw[e,Zm (by rw[Zk (p:=n<0) (by omega),Zk (by omega)];rfl),Zv (by omega) (by omega)];rfl
  ·have e:Zxn w n=false:=by unfold Zxn;rw[hw,Ota,Bool.and_eq_false_iff];simp only[decide_eq_false_iff_not];omega
   rw[e,Zn (by rw[Ont,Bool.false_or,Bool.or_eq_true,decide_eq_true_eq,decide_eq_true_eq];omega)];rfl
theorem Xbb(w:Qq)(n:Int):Zea w n=some (rdV w n,Zxn w n,()):=by
 unfold Zea rdV;rw[Zw1,Qyq,Obs];simp only[Zrg,bO,bO2];cases hw:Z1j w
 ·have:Zxn w n=false:=by unfold Zxn;rw[hw];rfl
  rw[this];rfl
 ·have g:=Zu1.1 hw;have:=g.lim;have:=g.seen;have:=g.read
  rw[Zv (n:=w.2.2.2.1-w.2.2.2.2.1) (by omega) (by omega)];have e: (!true|| !(decide (n>=0)&&decide (n<=w.2.2.2.1-w.2.2.2.2.1)))= !Zxn w n:=by unfold Zxn;rw[hw];rfl
  rw[e];cases h:Zxn w n
  ·rfl
  ·unfold Zxn at h;simp only[Oba,decide_eq_true_eq]at h;rw[Ont,Ocf,Oct,Zv (by omega) (by omega)]
def coV(a:Q0):Q0:=bif Z1l a&& !(a.2.2.2.1==a.2.2.1)then(a.1,(a.2.1,(a.2.2.1,(a.2.2.2.1+1,a.2.2.2.2))))else a
theorem Q2r(a:Q0):T (Zb1 a) fun r=>r.1=coV a:=by
 unfold Zb1 coV;rw[Q5i,Obs];cases ha:Z1l a
 ·exact T.pure rfl
 ·have g:=Z7d.1 ha;have:=g.lim;have:=g.seen;have:=g.clo
  cases a.2.2.2.1==a.2.2.1
  ·exact T.pure (by simp only[Bool.not_false,Bool.and_self,Oct];rw[Zv (by omega) (by omega)])
  ·exact T.pure rfl
theorem Q8n(a:Q0):Qj a=Zb1 a:=rfl
noncomputable def nbV(r:Zr)(e:Int):Int:=bif Z9r r&&J4 e then max 0 (IntKind.i64.wrap (e-r.2.2.2.1))else 0
theorem Q1b{K:Nat}{r:Zr}(h:Zc7 K r.2.1)(hK:K<=1000000)(e:Int):Zkg r e=some (nbV r e,()):=by
 unfold Zkg nbV;rw[Qq0 h hK,Obs];simp only[Y5,bO,bO2];cases Z9r r<;>cases J4 e<;>rfl
theorem Qrr{K:Nat}{r:Zr}(h:Zc7 K r.2.1)(hK:K<=1000000)(e:Int):Zm8 r e=some (nbV r e,()):=by
 unfold Zm8 nbV;rw[Zrs h hK,Qq0 h hK,Obs];simp only[Z4o,bO,bO2];rw[Int.max_comm];cases Z9r r<;>cases J4 e<;>rfl
def rlV(c:Vk)(n:Int):Vk:=bif(Qjb c&&decide (n>c.1))&&decide (n<=4611686018427387903)then(n,(c.2.1,((-1:Int),c.2.2.2)))else c
theorem Q9k(c:Vk)(n:Int):Zjz c n=some (rlV c n,()):=by
 unfold Zjz rlV;rw[Qgg,Q5n,Obs];cases (Qjb c&&decide (n>c.1))&&decide (n<=4611686018427387903)<;>rfl
theorem Q9l(c:Vk)(n:Int):Zcy c n=some (rlV c n,()):=by
 unfold Zcy rlV;rw[Q5n,Obs];simp only[Y5,bO,bO2];cases hc:Qjb c
 ·rfl
 ·have g:=Qsu.1 hc;have:=g.use0;have:=g.use
  by_cases h:n>c.1/\n<=4611686018427387903
  ·rw[X4.2 ⟨by omega,h.2⟩,Zj h.1,Zj h.2,Zk (by omega)];rfl
  ·rw[Zn,Zm]
   ·rw[Ota,Bool.and_eq_false_iff,decide_eq_false_iff_not,decide_eq_false_iff_not];omega
   ·by_cases h2:n<=c.1
    ·rw[Zj h2];simp
    ·have:J4 n=false:=by
      cases hq:J4 n
      ·rfl
      ·have:=X4.1 hq;omega
     rw[this];rfl
def rcV(c:Zbm)(n:Int):Zbm:=bif(Zwp c&&decide (n>c.1))&&decide (n<=1152921504606846976)then(n,(c.2.1,((-1:Int),c.2.2.2)))else c
theorem Q6s(c:Zbm)(n:Int):Zjy c n=some (rcV c n,()):=by
 unfold Zjy rcV;rw[Qvj,Q8o,Obs];cases (Zwp c&&decide (n>c.1))&&decide (n<=1152921504606846976)<;>rfl
theorem Q6t(c:Zbm)(n:Int):Zcx c n=some (rcV c n,()):=by
 unfold Zcx rcV;rw[Q8o,Obs];have e: ((!Zwp c||decide (n<=c.1))||decide (n>1152921504606846976))= !((Zwp c&&decide (n>c.1))&&decide (n<=1152921504606846976)):=by
  have e1:decide (n<=c.1)= !decide (n>c.1):=by rw[<-decide_not];exact decide_eq_decide.2 (by omega)
  have e2:decide (n>1152921504606846976)= !decide (n<=1152921504606846976):=by rw[<-decide_not];exact decide_eq_decide.2 (by omega)
  rw[e1,e2];cases Zwp c<;>cases decide (n>c.1)<;>cases decide (n<=1152921504606846976)<;>rfl
 rw[e];cases (Zwp c&&decide (n>c.1))&&decide (n<=1152921504606846976)<;>rfl
theorem Qzi{l:List Zd}(hl:l.length<=1000000)(n:Int)(h:Yw l n<0):Yw l n= -1:=by
 have lp: ∀(N i:Nat),l.length-i<N->i<=l.length-> ∃v,Xq N l n (i:Int)=some (v,())/\(v<0->v= -1):=by
  intro N
  induction N with
  |zero=>intro i h;omega
  |succ N ih=>
   intro i hN hi;unfold Xq;by_cases hh:i<l.length
   ·rw[Zn (Zj (by omega)),Zb (by omega),Zs hh (by omega)];obtain⟨v,h1,h2⟩:=ih (i+1) (by omega) (by omega);cases ((l.getD (i:Int).toNat Zh).1==n)
    ·exact⟨v,h1,h2⟩
    ·exact⟨i,rfl,fun h=>by omega⟩
   ·rw[Zm (Zk (by omega))];exact⟨-1,rfl,fun _=>rfl⟩
 obtain⟨v,h1,h2⟩:=lp (Yd l n 0) 0 (by unfold Yd;omega) (by omega);have e:Xp l n=some (v,()):=h1;rw[Qcd hl]at e;simp only[Osi,Opi,and_true]at e;rw[e]at h⊢;exact h2 h
theorem Q51{l:List Zd}(hl:l.length<=1000000){n:Int}(h: ∃s∈l,s.1=n):0<=Yw l n:=by
 obtain⟨s,hs,e⟩:=h;by_cases hn:0<=Yw l n
 ·exact hn
 ·exact absurd e ((Qkp hl n).2.1 (by omega) s hs)
noncomputable def Zwg(l:List Zd)(s:Zd):List Zd:=if 0<=Yw l s.1 then l.set (Yw l s.1).toNat s else Z5i s l
theorem Qt7{K:Nat}{l:List Zd}{s:Zd}(h:Zgj K l)(hs:Xc K s)(hK:K<=500000):Qi l s=some (Zwg l s,()):=by
 have hl:=h.len;unfold Zwg;by_cases hi:0<=Yw l s.1
 ·rw[if_pos hi];exact Xa9 h hs (by omega) hi
 ·rw[if_neg hi];exact Q6q h hs hK (Qzi (by omega) _ (by omega))
theorem Xcf{K:Nat}{l:List Zd}{s:Zd}(h:Zgj K l)(hs:Xc K s)(hK:K<=500000):Zhu l s=some (Zwg l s,()):=by
 have hl:=h.len;unfold Zwg;by_cases hi:0<=Yw l s.1
 ·have h2:=(Qkp (l:=l) (by omega) s.1).1;rw[if_pos hi];unfold Zhu;have hc:Wj l=some (l,()):=by
   unfold Wj;exact Zqx h (by omega) _ 0 (by unfold Ky;omega) (by omega)
  rw[hc,Obs,Qb8 (by omega),Qcd (by omega),Obs,Zn (Zj (by omega)),Z1w hs (by omega),Obs,Zb ⟨hi,by simp only;omega⟩]
 ·rw[if_neg hi];exact Q6p h hs hK (Qzi (by omega) _ (by omega))
theorem Q3p(s:Zd): ∀l:List Zd,(Z5i s l).length=l.length+1:=fun l=>by
 rw[Qli];cases h:gtS s l with
 |none=>simp
 |some p=>have:=Qxg h;simp;omega
theorem Qn6{s x:Zd}: ∀{l:List Zd},x∈Z5i s l↔x=s\/x∈l:=fun {l}=>by
 rw[Qli];cases h:gtS s l with
 |none=>simp[or_comm]
 |some p=>
  have e:x∈l↔x∈l.take p\/x∈l.drop p:=by rw[<-List.mem_append,List.take_append_drop]
  simp only[List.mem_append,List.mem_singleton,e];constructor
  ·rintro((h|h)|h)
   ·exact .inr (.inl h)
   ·exact .inl h
   ·exact .inr (.inr h)
  ·rintro(h|h|h)
   ·exact .inl (.inr h)
   ·exact .inl (.inl h)
   ·exact .inr h
theorem Zxm(l:List Zd)(s:Zd): (Zwg l s).length<=l.length+1:=by
 unfold Zwg;split
 ·rw[List.length_set];omega
 ·rw[Q3p];omega
theorem Qv3{l:List Zd}{s x:Zd}(h:x∈Zwg l s):x=s\/x∈l:=by
 unfold Zwg at h;split at h
 ·exact(List.mem_or_eq_of_mem_set h).symm
 ·exact Qn6.1 h
theorem Q6r{l:List Zd}(hl:l.length<=1000000)(s:Zd):s∈Zwg l s:=by
 unfold Zwg;split
 ·rename_i h;have:=(Qkp hl s.1).1;exact List.mem_set (by omega) _
 ·exact Qn6.2 (.inl rfl)
theorem Qo3{K:Nat}{l:List Zd}{s:Zd}(h:Zgj K l)(hs:Xc K s)(hl:l.length+1<=K):Zgj K (Zwg l s):=⟨by have:=Zxm l s;omega,fun x hx=>by
 rcases Qv3 hx with e|e
 ·rw[e];exact hs
 ·exact h.all x e⟩
noncomputable def nsV(v:Bool)(id:Int)(o p:Zfp):Zd:=match Kx v id o p with|some (s,_)=>s|none=>Zh
theorem Q6l(v:Bool)(id:Int)(o p:Zfp): ∃b,Kx v id o p=some (nsV v id o p,b,())/\Xc 0 (nsV v id o p):=by
 obtain⟨⟨s,b,u⟩,e,h⟩:=Z8q v id o p;have:nsV v id o p=s:=by unfold nsV;rw[e]
 exact⟨b,by rw[e,this],by rw[this];exact h⟩
abbrev Qk7(c:Zg)(l:List Zd):Zg:=(c.1,(c.2.1,(c.2.2.1,(l,c.2.2.2.2))))
noncomputable def mkL(v:Bool)(o p:Zfp)(id:Int):Nat->List Zd->List Zd|0,l=>l|m+1,l=>mkL v o p id m (Zwg l (nsV v (IntKind.i64.wrap (id-IntKind.i64.wrap (4* (m:Int)))) o p))
theorem Qzz(v:Bool)(o p:Zfp)(id:Int): ∀(m:Nat) (l:List Zd),(mkL v o p id m l).length<=l.length+m
 |0,_=>Nat.le_refl _
 |m+1,l=>by
  have:=Qzz v o p id m (Zwg l (nsV v (IntKind.i64.wrap (id-IntKind.i64.wrap (4* (m:Int)))) o p));have:=Zxm l (nsV v (IntKind.i64.wrap (id-IntKind.i64.wrap (4* (m:Int)))) o p);unfold mkL;omega
theorem Qzy(id:Int){K:Nat}(h25:25<=K)(hK:K<=400000): ∀(N m:Nat) (c:Zg),m<N->c.2.2.2.1.length+m<=24->Zgj K c.2.2.2.1->Y9 N c id ((m:Int)-1)=some ((),(Qk7 c (mkL c.1 c.2.1 c.2.2.1 id m c.2.2.2.1),()))
 |0,m,_,h,_,_=>by omega
 |N+1,0,c,_,_,_=>by
  unfold Y9;rw[Zm (Zk (by omega))];rfl
 |N+1,m+1,c,hN,hl,h=>by
  unfold Y9;simp only[Je];rw[Zn (Zj (by omega)),show((m+1:Nat):Int)-1=(m:Int) by omega];obtain⟨b,e,hs⟩:=Q6l c.1 (IntKind.i64.wrap (id-IntKind.i64.wrap (4* (m:Int)))) c.2.1 c.2.2.1;have hp:=Zxm c.2.2.2.1 (nsV c.1 (IntKind.i64.wrap (id-IntKind.i64.wrap (4* (m:Int)))) c.2.1 c.2.2.1);rw[e,Obs];unfold Zfm;rw[Qt7 h (hs.mono (Nat.zero_le _)) (by omega),Obs];simp only;rw[Zv (n:=(m:Int)-1) (by omega) (by omega),Qzy id h25 hK N m _ (by omega) (by simp only;omega) (Qo3 h (hs.mono (Nat.zero_le _)) (by omega))];rfl
theorem Qzx(id:Int){K:Nat}(h25:25<=K)(hK:K<=400000): ∀(N m:Nat) (c:Zg),m<N->c.2.2.2.1.length+m<=24->Zgj K c.2.2.2.1->Zal N c id ((m:Int)-1)=some (((0:Int),()),(Qk7 c (mkL c.1 c.2.1 c.2.2.1 id m c.2.2.2.1),()))
 |0,m,_,h,_,_=>by omega
 |N+1,0,c,_,hl,_=>by
  unfold Zal;rw[Zm (Zk (by omega)),Zm (Zk (by omega))];rfl
 |N+1,m+1,c,hN,hl,h=>by
  unfold Zal;simp only[Je];rw[Zn (Zj (by omega)),show((m+1:Nat):Int)-1=(m:Int) by omega];obtain⟨b,e,hs⟩:=Q6l c.1 (IntKind.i64.wrap (id-IntKind.i64.wrap (4* (m:Int)))) c.2.1 c.2.2.1;have hp:=Zxm c.2.2.2.1 (nsV c.1 (IntKind.i64.wrap (id-IntKind.i64.wrap (4* (m:Int)))) c.2.1 c.2.2.1);rw[Qxy,e,Obs];unfold Zmw;rw[Xcf h (hs.mono (Nat.zero_le _)) (by omega),Obs];simp only;rw[Zv (n:=(m:Int)-1) (by omega) (by omega),Qzx id h25 hK N m _ (by omega) (by simp only;omega) (Qo3 h (hs.mono (Nat.zero_le _)) (by omega))];rfl
noncomputable def Qos(v:Bool)(n:Int):Bool:=Q10 (Zcw v n)
theorem Q4f(v:Bool)(n:Int):Zcw v n=some (Qos v n,()):=Q47 (Q9g v n)
noncomputable def Zzw(n:Int):Bool:=Q10 (Vc n)
theorem Q1z(n:Int):Vc n=some (Zzw n,()):=Q47 (Q7h n)
noncomputable def Kt(c:Zg)(id:Int):Q0:=bif Zzw id then c.2.2.2.2.2.2.2.2.2.1 else c.2.2.2.2.2.2.2.2.1
noncomputable def Que(c:Zg)(id:Int)(a:Q0):Zg:=bif Zzw id then(c.1,(c.2.1,(c.2.2.1,(c.2.2.2.1,(c.2.2.2.2.1,(c.2.2.2.2.2.1,(c.2.2.2.2.2.2.1,(c.2.2.2.2.2.2.2.1,(c.2.2.2.2.2.2.2.2.1,(a,c.2.2.2.2.2.2.2.2.2.2))))))))))else(c.1,(c.2.1,(c.2.2.1,(c.2.2.2.1,(c.2.2.2.2.1,(c.2.2.2.2.2.1,(c.2.2.2.2.2.2.1,(c.2.2.2.2.2.2.2.1,(a,c.2.2.2.2.2.2.2.2.2)))))))))
noncomputable def Zws(c:Zg)(id:Int):Bool:=(Zux (Kt c id) (idV id)&& !(siN (Kt c id) (idV id)==0))&&decide ((c.2.2.2.1.length:Int)+siN (Kt c id) (idV id)<=24)
noncomputable def Qu6(c:Zg)(id:Int):Zg:=Qk7 (Que c id (siV (Kt c id) (idV id))) (mkL c.1 c.2.1 c.2.2.1 id (siN (Kt c id) (idV id)).toNat c.2.2.2.1)
noncomputable def Zd7(c:Zg)(id:Int):Int×Zg:=bif decide (0<=Yw c.2.2.2.1 id)then(0,c)else bif Qos c.1 id then(5,c)else bif Zws c id then(0,Qu6 c id)else(4,c)
theorem Qyh(a:Q0)(n:Int):0<=siN a n:=by unfold siN;omega
theorem Qns{c:Zg}{id:Int}(h:Zws c id=true):c.2.2.2.1.length+ (siN (Kt c id) (idV id)).toNat<=24/\1<=siN (Kt c id) (idV id):=by
 unfold Zws at h;simp only[Oba,decide_eq_true_eq,Bool.not_eq_true',beq_eq_false_iff_ne]at h;have:=Qyh (Kt c id) (idV id);omega
theorem Z4d{K:Nat}{c:Zg}(h:Qe K c)(hc:Ztr c=true)(h25:25<=K)(hK:K<=400000){id:Int}(hq:J4 id=true):Ys c id=some ((Zd7 c id).2,(Zd7 c id).1,()):=by
 have hf:=(Q2u h (by omega)).1 hc;have h24:=(Qwq.1 hf.sts).len;have j3: ∀(t x:Zg) (n:Int),0<=n->x.2.2.2.1=c.2.2.2.1->c.2.2.2.1.length+n.toNat<=24->Yt id t x n=some (Qk7 x (mkL x.1 x.2.1 x.2.2.1 id n.toNat x.2.2.2.1),(0:Int),()):=fun t x n h0 hx hm=>by
  unfold Yt Zmm;rw[Zv (by omega) (by omega),show n-1=((n.toNat:Nat):Int)-1 by omega,Qzy id h25 hK _ n.toNat x (by unfold Zgc;omega) (by rw[hx];exact hm) (by rw[hx];exact h.str)];rfl
 have j1: ∀t,Xa id c t c (Kt c id)=some (bif Zws c id then(Qu6 c id,(0:Int),())else(c,(4:Int),())):=fun t=>by
  unfold Xa;simp only[Je,Zja];rw[Q84,Obs,Q1q,Obs];unfold Kl;simp only;have hn:=Qyh (Kt c id) (idV id);cases hs:Zux (Kt c id) (idV id)
  ·have:Zws c id=false:=by unfold Zws;rw[hs];rfl
   rw[this];rfl
  ·simp only[Oct,Ont,Bool.false_or];have hb:siN (Kt c id) (idV id)<=1152921504606846976:=by
    unfold Zux at hs;simp only[Oba,decide_eq_true_eq]at hs;have g:=Z7d.1 hs.1;have:=g.lim;have:=g.seen;unfold siN;omega
   have e0:IntKind.i64.wrap ((c.2.2.2.1.length:Int)+siN (Kt c id) (idV id))=(c.2.2.2.1.length:Int)+siN (Kt c id) (idV id):=Zv (by omega) (by omega);simp only[e0];have hg: ((siN (Kt c id) (idV id)==0)||decide ((c.2.2.2.1.length:Int)+siN (Kt c id) (idV id)>24))= !Zws c id:=by
    unfold Zws;rw[hs,show decide ((c.2.2.2.1.length:Int)+siN (Kt c id) (idV id)>24)= !decide ((c.2.2.2.1.length:Int)+siN (Kt c id) (idV id)<=24) by rw[<-decide_not];exact decide_eq_decide.2 (by omega)];cases siN (Kt c id) (idV id)==0<;>cases decide ((c.2.2.2.1.length:Int)+siN (Kt c id) (idV id)<=24)<;>rfl
   rw[hg];cases hG:Zws c id
   ·rfl
   ·have hL:=Qns hG;rw[Ont,Ocf,Q1z,Obs,Oct];unfold Qu6 Que;cases Zzw id
    ·exact j3 Wt _ _ hn rfl hL.1
    ·exact j3 Wt _ _ hn rfl hL.1
 unfold Ys Zd7;rw[Wu h (by omega),Obs,Qpy h (by omega),hc,Obs,Y5,hq];simp only[Ont,Ocf,Bool.or_self,Obs];rw[Qcd (by have:=h.str.len;omega),Obs];simp only[ge_iff_le];cases decide (0<=Yw c.2.2.2.1 id)
 ·rw[Ocf,Ocf,Q4f,Obs];simp only;cases Qos c.1 id
  ·have e1: (bif Zzw id then Xa id c Wt c c.2.2.2.2.2.2.2.2.2.1 else Xa id c Wt c c.2.2.2.2.2.2.2.2.1)=Xa id c Wt c (Kt c id):=by unfold Kt;cases Zzw id<;>rfl
   rw[Ocf,Ocf,Q1z,Obs];simp only;rw[e1,j1];cases Zws c id<;>rfl
  ·rfl
 ·rfl
theorem Qlg{K:Nat}{c:Zg}(h:Qe K c)(hc:Ztr c=true)(h25:25<=K)(hK:K<=400000)(id:Int):Wi c id=some (((Zd7 c id).1,()),((Zd7 c id).2,())):=by
 have hf:=(Q2u h (by omega)).1 hc;have h24:=(Qwq.1 hf.sts).len;have j2: ∀(x:Zg) (n:Int),0<=n->x.2.2.2.1=c.2.2.2.1->c.2.2.2.1.length+n.toNat<=24->Zda x id n=some (((0:Int),()),(Qk7 x (mkL x.1 x.2.1 x.2.2.1 id n.toNat x.2.2.2.1),())):=fun x n h0 hx hm=>by
  unfold Zda;rw[Zv (by omega) (by omega),show n-1=((n.toNat:Nat):Int)-1 by omega,Qzx id h25 hK _ n.toNat x (by unfold Zgm;omega) (by rw[hx];exact hm) (by rw[hx];exact h.str)]
 have hA: ∀n,Z3 c n=some (Zzw n,(c,())):=fun n=>by
  unfold Z3;rw[Xbw,Q1z,Obs];cases Zzw n<;>rfl
 have j1:Y4 c id (bif Zux (Kt c id) (idV id)then siV (Kt c id) (idV id)else Kt c id) (bif Zux (Kt c id) (idV id)then siN (Kt c id) (idV id)else 0) (Zux (Kt c id) (idV id))=some (bif Zws c id then(((0:Int),()),(Qu6 c id,()))else(((4:Int),()),(c,()))):=by
  unfold Y4;have hn:=Qyh (Kt c id) (idV id);cases hs:Zux (Kt c id) (idV id)
  ·have:Zws c id=false:=by unfold Zws;rw[hs];rfl
   rw[this];rfl
  ·simp only[Oct,Ont,Bool.false_or];have e0:IntKind.i64.wrap (24- (c.2.2.2.1.length:Int))=24- (c.2.2.2.1.length:Int):=Zv (by omega) (by omega);simp only[e0];have hg: ((siN (Kt c id) (idV id)==0)||decide (siN (Kt c id) (idV id)>24- (c.2.2.2.1.length:Int)))= !Zws c id:=by
    unfold Zws;rw[hs,show decide (siN (Kt c id) (idV id)>24- (c.2.2.2.1.length:Int))= !decide ((c.2.2.2.1.length:Int)+siN (Kt c id) (idV id)<=24) by rw[<-decide_not];exact decide_eq_decide.2 (by omega)];cases siN (Kt c id) (idV id)==0<;>cases decide ((c.2.2.2.1.length:Int)+siN (Kt c id) (idV id)<=24)<;>rfl
   rw[hg];cases hG:Zws c id
   ·rfl
   ·have hL:=Qns hG;rw[Ont,Ocf,hA,Obs,Oct];unfold Qu6 Que;cases Zzw id
    ·exact j2 _ _ hn rfl hL.1
    ·exact j2 _ _ hn rfl hL.1
 have hl:=h.str.len;unfold Wi Zd7;simp only[Je,Zja];rw[Qb8 (by omega),Qcd (by omega),Obs];simp only[ge_iff_le];cases decide (0<=Yw c.2.2.2.1 id)
 ·rw[Ocf,Ocf,Xa7,Q4f,Obs];simp only;cases Qos c.1 id
  ·rw[Ocf,Ocf,hA,Obs,Q83];have hal:Kt c id=(bif Zzw id then c.2.2.2.2.2.2.2.2.2.1 else c.2.2.2.2.2.2.2.2.1):=rfl;cases hu:Zzw id
   ·rw[hu,Ocf]at hal;simp only[Ocf,Obs];rw[Qr9,Obs];simp only;rw[<-hal,j1];cases Zws c id<;>rfl
   ·rw[hu,Oct]at hal;simp only[Oct,Obs];rw[Qr9,Obs];simp only;rw[<-hal,j1];cases Zws c id<;>rfl
  ·rfl
 ·rfl
theorem Qq9: ∀{l:List Z0} {e:Int},Qe5 e l->l≠[]->(∀c∈l,X6 c<=X6 (l.getD (l.length-1) Qc))/\e<X6 (l.getD (l.length-1) Qc)
 | [],_,_,h=>absurd rfl h
 | [c],e,h,_=>by
  have:=Zo4 h.2.1;have:=h.1;refine⟨fun x hx=> ?_,?_⟩
  ·rw[List.mem_singleton.1 hx];exact Int.le_refl _
  ·show e<X6 c;omega
 |c::d::l,e,h,_=>by
  obtain⟨h1,h2⟩:=Qq9 (l:=d::l) h.2.2 (by simp);have e1: (c::d::l).getD ((c::d::l).length-1) Qc=(d::l).getD ((d::l).length-1) Qc:=rfl;rw[e1];have:=Zo4 h.2.1;have:=h.1;refine⟨fun x hx=> ?_,by omega⟩;rcases List.mem_cons.1 hx with rfl|hx
  ·omega
  ·exact h1 x hx
theorem Q0p{b:Zq}(ht:Ze5 b.2.1<=1000000)(hb:Zju b=true): (0<=b.1/\b.1<=4611686018427387903)/\Qe5 (b.1-1) b.2.1/\ ∀c∈b.2.1,0<=c.1/\X6 c<=4611686018427387903:=by
 obtain⟨q1,q2,-⟩:=Zqh ht hb;unfold Zju at hb;simp only[Oba]at hb;rw[Zv (by omega) (by omega)]at hb;obtain⟨k1,k2⟩:=Qat hb.1 (by omega) fun c hc=>by have:=Zv3 hc;omega
 exact⟨⟨q1,q2⟩,k1,k2⟩
theorem Xb6{K:Nat}{b:Zq}(h:Zc7 K b)(hK:K<=1000000)(hb:Zju b=true): ∃v,Zlq b=some (v,())/\ ∀H:Int,v<=H↔b.1<=H/\ ∀c∈b.2.1,X6 c<=H:=by
 have hl:=h.len;have ht:=h.tot;obtain⟨k0,k1,k2⟩:=Q0p (by omega) hb;unfold Zlq;by_cases hn:b.2.1=[]
 ·rw[hn];exact⟨b.1,rfl,fun H=>⟨fun h=>⟨h,fun c hc=>by cases hc⟩,fun h=>h.1⟩⟩
 ·have hp:0<b.2.1.length:=List.length_pos_iff.2 hn;have e0: ((b.2.1.length:Int)==0)=false:=by simp;exact hn
  obtain⟨g1,g2⟩:=Qq9 k1 hn;have hm:=Qh (d:=Qc) (show b.2.1.length-1<b.2.1.length by omega);have hM:=k2 _ hm;simp only[e0,Ocf];rw[Zed _ (by omega),hb,Obs];simp only[Ont,Bool.or_self,Ocf];rw[Zv (by omega) (by omega),Zb (by omega),show((b.2.1.length:Int)-1).toNat=b.2.1.length-1 by omega,Zv (by unfold X6 at hM;omega) (by unfold X6 at hM;omega)];refine⟨_,rfl,fun H=> ?_⟩;change X6 _<=H↔_;constructor
  ·intro hH;exact⟨by omega,fun c hc=>Int.le_trans (g1 c hc) hH⟩
  ·intro hH;exact hH.2 _ hm
theorem Qr2{K:Nat}{b:Zq}(h:Zc7 K b)(hK:K<=1000000)(hb:Zju b=true):0<=Za0 b/\b.1+Za0 b<=4611686018427387903/\(Za0 b=0\/ ∃c∈b.2.1,b.1+Za0 b=X6 c):=by
 obtain⟨k0,k1,k2⟩:=Q0p (by have:=h.tot;omega) hb;unfold Za0;split
 ·rename_i hc;have hp:0<b.2.1.length:=List.length_pos_iff.2 hc.2.1;have hm:=Qh (d:=Qc) hp;have:=k2 _ hm;unfold X6 at this;refine⟨by omega,by omega,.inr ⟨_,hm,?_⟩⟩;unfold X6;omega
 ·exact⟨by omega,by omega,.inl rfl⟩
structure Q0j(r:Zr):Prop where
 buf:Zju r.2.1=true
 hq:0<=r.2.2.2.1/\r.2.2.2.1<=4611686018427387903
 e0:r.2.1.1<=r.2.2.2.1
 ec: ∀c∈r.2.1.2.1,X6 c<=r.2.2.2.1
 code:0<=r.2.2.2.2.1/\r.2.2.2.2.1<=4611686018427387903
 fin:r.2.2.1= -1\/(r.2.2.2.1<=r.2.2.1/\r.2.2.1<=4611686018427387903)
 st: (r.1=0/\r.2.2.1= -1/\r.2.2.2.2.1=0)\/(r.1=1/\r.2.2.1≠ -1/\r.2.1.1+Za0 r.2.1≠r.2.2.1/\r.2.2.2.2.1=0)\/(r.1=2/\r.2.2.1≠ -1/\r.2.1.1+Za0 r.2.1=r.2.2.1/\r.2.2.2.2.1=0)\/(r.1=3/\r.2.2.1≠ -1/\r.2.1.1+Za0 r.2.1=r.2.2.1/\r.2.1.2.1=[]/\r.2.2.2.2.1=0)\/((r.1=4\/r.1=5)/\r.2.2.1≠ -1/\r.2.2.2.1=r.2.2.1/\r.2.1.2.1=[])
def rcS(r:Zr):Bool:=bif r.1==(0:Int)then(r.2.2.1==(-1:Int))&& (r.2.2.2.2.1==(0:Int))else bif r.1==(1:Int)then((r.2.2.1 !=(-1:Int))&& (!((r.2.2.1 !=(-1:Int))&& ((r.2.1.1+Za0 r.2.1)==r.2.2.1))))&& (r.2.2.2.2.1==(0:Int))else bif r.1==(2:Int)then((r.2.2.1 !=(-1:Int))&& ((r.2.1.1+Za0 r.2.1)==r.2.2.1))&& (r.2.2.2.2.1==(0:Int))else bif r.1==(3:Int)then(((r.2.2.1 !=(-1:Int))&& ((r.2.1.1+Za0 r.2.1)==r.2.2.1))&& ((r.2.1.2.1.length:Int)==(0:Int)))&& (r.2.2.2.2.1==(0:Int))else bif(r.1==(4:Int))|| (r.1==(5:Int))then((r.2.2.1 !=(-1:Int))&& (r.2.2.2.1==r.2.2.1))&& ((r.2.1.2.1.length:Int)==(0:Int))else false
def rcP(r:Zr)(v:Int):Bool:=((J4 r.2.2.2.1&& !decide (v>r.2.2.2.1))&&J4 r.2.2.2.2.1)&& !((((r.2.2.1 !=(-1:Int))&& (decide (r.2.2.1<r.2.2.2.1)))|| (decide (r.2.2.1>(4611686018427387903:Int))))|| (decide (r.2.2.1< (-1:Int))))
theorem rcE{K:Nat}{r:Zr}(h:Zc7 K r.2.1)(hK:K<=1000000)(hb:Zju r.2.1=true): ∃v,(∀H:Int,v<=H↔r.2.1.1<=H/\ ∀c∈r.2.1.2.1,X6 c<=H)/\Z9r r=(rcP r v&&rcS r):=by
 obtain⟨v,k,hv⟩:=Xb6 h hK hb;refine⟨v,hv,?_⟩;have hl:=h.len;have e:=Qq0 h hK;unfold Q5 X9 at e;rw[Zed _ (by omega),hb,Obs,Zlk _ (by omega)]at e;obtain⟨y1,y2,-⟩:=Qr2 h hK hb;obtain⟨k0,-,-⟩:=Q0p (by have:=h.tot;omega) hb;have hw:IntKind.i64.wrap (r.2.1.1+Za0 r.2.1)=r.2.1.1+Za0 r.2.1:=Zv (by omega) (by omega);simp only[Y5,Ont,Bool.false_or,Ocf,Obs]at e;have f:=e.symm;have g: ∀{a b:Bool},some (a,())=some (b,())->a=b:=fun h=>by simpa using h
 unfold rcP rcS;cases h1:J4 r.2.2.2.1
 ·rw[h1]at f;exact g f
 rw[h1,k]at f;simp only[Ont,Bool.false_or,Ocf,Obs]at f;cases h2:decide (v>r.2.2.2.1)
 ·rw[h2]at f;simp only[Bool.false_or,Ocf,Obs]at f;cases h3:J4 r.2.2.2.2.1
  ·rw[h3]at f;exact g f
  rw[h3]at f;simp only[Ont,Bool.false_or]at f;cases h4: (((r.2.2.1 !=(-1:Int))&& (decide (r.2.2.1<r.2.2.2.1)))|| (decide (r.2.2.1>(4611686018427387903:Int))))|| (decide (r.2.2.1< (-1:Int)))
  ·rw[h4]at f;simp only[Ocf,Bool.not_false,Bool.and_self,Ota]at f⊢;have hF: ∀{β:Type} (k:Int×Unit->Option β),(∀x y,r.2.2.1= -1->k x=k y)->Option.bind (bif r.2.2.1 !=(-1:Int)then some (Za0 r.2.1,())else some ((0:Int),())) k=k (Za0 r.2.1,()):=fun k hk=>by
    cases hn:r.2.2.1 !=(-1:Int)
    ·exact hk _ _ (by simpa using hn)
    ·rfl
   rw[hF _ fun x y hxy=>by rw[hxy];rfl]at f;simp only[hw]at f;revert f;cases r.1==(0:Int)<;>cases r.1==(1:Int)<;>cases r.1==(2:Int)<;>cases r.1==(3:Int)<;>cases r.1==(4:Int)<;>cases r.1==(5:Int)<;>exact fun f=>g f
  ·rw[h4]at f;exact g f
 ·rw[h2]at f;exact g f
theorem Z9s{K:Nat}{r:Zr}(h:Zc7 K r.2.1)(hK:K<=1000000):Z9r r=true↔Q0j r:=by
 cases hb:Zju r.2.1
 ·have e:=Qq0 h hK;unfold Q5 at e;rw[Zed _ (by have:=h.len;omega),hb]at e;have e2:Z9r r=false:=by simpa using e.symm
  rw[e2];exact⟨fun h=>Bool.noConfusion h,fun h=>by have:=h.buf;rw[hb]at this;cases this⟩
 ·obtain⟨v,hv,e⟩:=rcE h hK hb;rw[e,Oba];have hP:rcP r v=true↔((0<=r.2.2.2.1/\r.2.2.2.1<=4611686018427387903)/\v<=r.2.2.2.1)/\(0<=r.2.2.2.2.1/\r.2.2.2.2.1<=4611686018427387903)/\(r.2.2.1= -1\/(r.2.2.2.1<=r.2.2.1/\r.2.2.1<=4611686018427387903)):=by
   unfold rcP;simp only[Oba,X4,Bool.not_eq_true',decide_eq_false_iff_not,Bool.or_eq_false_iff,Bool.and_eq_false_iff,bne_eq_false_iff_eq];omega
  have hS:rcS r=true↔((r.1=0/\r.2.2.1= -1/\r.2.2.2.2.1=0)\/(r.1=1/\r.2.2.1≠ -1/\r.2.1.1+Za0 r.2.1≠r.2.2.1/\r.2.2.2.2.1=0)\/(r.1=2/\r.2.2.1≠ -1/\r.2.1.1+Za0 r.2.1=r.2.2.1/\r.2.2.2.2.1=0)\/(r.1=3/\r.2.2.1≠ -1/\r.2.1.1+Za0 r.2.1=r.2.2.1/\r.2.1.2.1=[]/\r.2.2.2.2.1=0)\/((r.1=4\/r.1=5)/\r.2.2.1≠ -1/\r.2.2.2.1=r.2.2.1/\r.2.1.2.1=[])):=by
   have hl0: ((r.2.1.2.1.length:Int)==0)=true↔r.2.1.2.1=[]:=by
    rw[beq_iff_eq,Int.natCast_eq_zero,List.length_eq_zero_iff]
   unfold rcS;by_cases s0:r.1=0
   ·rw[show(r.1==(0:Int))=true by simp[s0],Oct,Oba,beq_iff_eq,beq_iff_eq];omega
   rw[show(r.1==(0:Int))=false by simp[s0],Ocf];by_cases s1:r.1=1
   ·rw[show(r.1==(1:Int))=true by simp[s1],Oct];simp only[Oba,beq_iff_eq,bne_iff_ne,Bool.not_eq_true',Bool.and_eq_false_iff,bne_eq_false_iff_eq,beq_eq_false_iff_ne];omega
   rw[show(r.1==(1:Int))=false by simp[s1],Ocf];by_cases s2:r.1=2
   ·rw[show(r.1==(2:Int))=true by simp[s2],Oct];simp only[Oba,beq_iff_eq,bne_iff_ne];omega
   rw[show(r.1==(2:Int))=false by simp[s2],Ocf];by_cases s3:r.1=3
   ·rw[show(r.1==(3:Int))=true by simp[s3],Oct,Oba,Oba,hl0];simp only[Oba,beq_iff_eq,bne_iff_ne];constructor
    ·rintro⟨⟨⟨a,b⟩,c⟩,d⟩;exact .inr (.inr (.inr (.inl ⟨s3,a,b,c,d⟩)))
    ·rintro(⟨a,-⟩| ⟨a,-⟩| ⟨a,-⟩| ⟨-,a,b,c,d⟩| ⟨a,-⟩)
     ·omega
     ·omega
     ·omega
     ·exact⟨⟨⟨a,b⟩,c⟩,d⟩
     ·omega
   rw[show(r.1==(3:Int))=false by simp[s3],Ocf];by_cases s4:r.1=4\/r.1=5
   ·rw[Zn (by simp only[Bool.or_eq_true,beq_iff_eq];exact s4),Oba,hl0];simp only[Oba,beq_iff_eq,bne_iff_ne];constructor
    ·rintro⟨⟨a,b⟩,c⟩;exact .inr (.inr (.inr (.inr ⟨s4,a,b,c⟩)))
    ·rintro(⟨a,-⟩| ⟨a,-⟩| ⟨a,-⟩| ⟨a,-⟩| ⟨-,a,b,c⟩)
     ·omega
     ·omega
     ·omega
     ·omega
     ·exact⟨⟨a,b⟩,c⟩
   ·rw[Zm (by simp only[Bool.or_eq_false_iff,beq_eq_false_iff_ne];omega)];constructor
    ·intro h;cases h
    ·rintro(⟨a,-⟩| ⟨a,-⟩| ⟨a,-⟩| ⟨a,-⟩| ⟨a,-⟩)<;>omega
  rw[hP,hS];constructor
  ·rintro⟨⟨⟨a,b⟩,c,d⟩,s⟩;have:=(hv _).1 b;exact⟨hb,a,this.1,this.2,c,d,s⟩
  ·intro R;exact⟨⟨⟨R.hq,(hv _).2 ⟨R.e0,R.ec⟩⟩,R.code,R.fin⟩,R.st⟩
theorem Q4q(b:Zq)(o:Int)(d:List UInt8): ∀{l:List Ze} {e:Int},rsB e l=true->(∀r∈l,r.2.1-r.1<=4000000)->ckB e (l.map (rgS b o d))=true
 | [],_,_,_=>rfl
 |r::l,e,h,hm=>by
  obtain⟨h1,h2,h3⟩:=Vg.1 h;have h1:=Ql.1 h1;have hr:=hm r List.mem_cons_self;have hl: (Z1i b o d r.1 (r.2.1-r.1).toNat).length=(r.2.1-r.1).toNat:=Qes b o d _ _;have hn: (Z1i b o d r.1 (r.2.1-r.1).toNat==([]:List UInt8))=false:=by
   rw[beq_eq_false_iff_ne];intro e;rw[e]at hl;simp at hl;omega
  change (!(((decide (r.1<=e))|| (Z1i b o d r.1 (r.2.1-r.1).toNat==([]:List UInt8)))|| (decide (r.1>(IntKind.i64.wrap ((4611686018427387903:Int)- ((Z1i b o d r.1 (r.2.1-r.1).toNat).length:Int))))))&&ckB (IntKind.i64.wrap (r.1+ ((Z1i b o d r.1 (r.2.1-r.1).toNat).length:Int))) (l.map (rgS b o d)))=true;rw[hl,hn,Zk (by omega),Zv (by omega) (by omega),Zk (by omega),Zv (by omega) (by omega),show r.1+ ((r.2.1-r.1).toNat:Int)=r.2.1 by omega];rw[Q4q b o d h3 fun x hx=>hm x (List.mem_cons_of_mem _ hx)];rfl
theorem Q55{K:Nat}{b:Zq}(h:Zc7 K b)(o:Int)(d:List UInt8)(hK:K+d.length+1<=1000000)(hb:Zju b=true){E:Int}(hE: ∀c∈b.2.1,X6 c<=E)(hE2:o+ (d.length:Int)<=E):
  Zju (Qge b o d)=true/\(Qge b o d).1=b.1/\ ∀c∈(Qge b o d).2.1,X6 c<=E:=by
 unfold Qge;by_cases hg: (((!Zju b|| (d==([]:List UInt8)))||decide (o<0))||decide (o>4611686018427387903- (d.length:Int)))||decide (o+ (d.length:Int)<=b.1)
 ·rw[Zn hg];exact⟨hb,rfl,hE⟩
 ·rw[Bool.not_eq_true]at hg;rw[Zm hg];simp only[Bool.or_eq_false_iff,decide_eq_false_iff_not]at hg;obtain⟨⟨⟨⟨-,h0⟩,h1⟩,h2⟩,h3⟩:=hg;have hdl:0<d.length:=List.length_pos_iff.2 fun e=>by rw[e]at h0;cases h0
  obtain⟨g1,-,g3⟩:=Q70 h o d hK hb hdl h1 h2 h3;obtain⟨k0,k1,k2⟩:=Q0p (by have:=h.tot;omega) hb;have ht:=h.tot;have hcc:=Z1v (l:=b.2.1.map rgC) (r:=((max o b.1,(o+ (d.length:Int),())):Ze)) (fun x hx=>by
   obtain⟨c,hc,rfl⟩:=List.mem_map.1 hx;unfold rgC;simp only;omega) (by simp only;omega)
  rw[Qld]at hcc;simp only at hcc;have hnn: ∀{l:List Ze},(∀r∈l,Zej r=true)->0<=Jp l/\ ∀r∈l,r.2.1-r.1<=Jp l:=by
   intro l
   induction l with
   |nil=>intro _;exact⟨by simp[Jp],fun _ h=>by cases h⟩
   |cons r l ih=>
    intro hh;have hr:=Ql.1 (hh r List.mem_cons_self);obtain⟨g1,g2⟩:=ih fun r hr=>hh r (List.mem_cons_of_mem _ hr);simp only[Jp];refine⟨by omega,fun x hx=> ?_⟩;rcases List.mem_cons.1 hx with rfl|hx
    ·omega
    ·have:=g2 x hx;omega
  have hm:=(hnn fun r hr=>(Znu g1 r hr).2).2;rw[<-g3];refine⟨?_,rfl,fun c hc=> ?_⟩
  ·unfold Zju;simp only;rw[Zv (by omega) (by omega),Q4q b o d g1 fun r hr=>by have:=hm r hr;omega,X4.2 k0];rfl
  ·obtain⟨r,hr,rfl⟩:=List.mem_map.1 hc;have hf:=Ql.1 (Znu g1 r hr).2;rw[Quc b o d (by omega)];refine Z36 (E:=E) (l:=b.2.1.map rgC) (r:=(max o b.1,(o+ (d.length:Int),()))) (fun x hx=> ?_) hE2 r hr;obtain⟨c,hc,rfl⟩:=List.mem_map.1 hx;exact hE c hc
theorem Q2t{r:Zr}{e:Int}{fin:Bool}(h:Qaw r e fin=false): (r.2.2.1= -1\/e<=r.2.2.1)/\(fin=true->(r.2.2.1= -1\/e=r.2.2.1)/\r.2.2.2.1<=e):=by
 unfold Qaw at h;simp only[Bool.or_eq_false_iff,Bool.and_eq_false_iff,bne_eq_false_iff_eq,decide_eq_false_iff_not]at h;refine⟨by omega,fun hf=> ?_⟩;rw[hf]at h;have:=h.2.resolve_left (by simp);omega
theorem Q6u{K:Nat}{r:Zr}(h:Zc7 K r.2.1){o:Int}{d:List UInt8}(fin:Bool)(hK:K+d.length+1<=900000)(R:Q0j r)(ho:0<=o)(hE:o+ (d.length:Int)<=4611686018427387903):
  Pc (Yn r o d fin) fun y=>y.2.1=0->Q0j y.1/\y.1.2.2.2.1<=r.2.2.2.1+nbV r (o+ (d.length:Int)):=by
 have hb:=(Z9s h (by omega)).2 R;have hn:nbV r (o+ (d.length:Int))=max 0 (o+ (d.length:Int)-r.2.2.2.1):=by
  unfold nbV;have:=R.hq;rw[hb,X4.2 (by omega),Zv (by omega) (by omega)];rfl
 have hi:=Qve h o d (by omega) (by omega);obtain⟨i1,i2,i3⟩:=Q55 h o d (by omega) R.buf (E:=max r.2.2.2.1 (o+ (d.length:Int))) (fun c hc=>by have:=R.ec c hc;omega) (by omega);obtain⟨y1,y2,-⟩:=Qr2 hi (by omega) i1;have j2: ∀t x,x.2.1=r.2.1->x.2.2.2.1=max r.2.2.2.1 (o+ (d.length:Int))->x.2.2.2.2.1=0->((x.1=0/\x.2.2.1= -1)\/(x.1=1/\max r.2.2.2.1 (o+ (d.length:Int))<=x.2.2.1/\x.2.2.1<=4611686018427387903))->
   Pc (Y7 o d r t x) fun y=>y.2.1=0->Q0j y.1/\y.1.2.2.2.1<=r.2.2.2.1+nbV r (o+ (d.length:Int)):=fun t x hx1 hx2 hx3 hx4=>by
  unfold Y7 Zdh;rw[Z2j h o d (by omega) (by omega),Obs,Zlk _ (by have:=hi.len;simp only;omega)];have:=R.hq;have:=R.e0
  have st:x.2.2.1= -1\/x.2.2.1≠ -1:=by omega
  rcases st with s|s
  ·rw[show(x.2.2.1 !=(-1:Int))=false by simp[s]];refine Pc.pure fun _=>⟨⟨i1,by simp only;rw[hx2];omega,by simp only;rw[hx2,i2];omega,fun c hc=>by simp only;rw[hx2];exact i3 c hc,by simp only;rw[hx3];omega,.inl s,.inl ⟨?_,s,hx3⟩⟩,?_⟩
   ·simp only;omega
   ·simp only;rw[hx2,hn];omega
  ·rw[show(x.2.2.1 !=(-1:Int))=true by simp[s],Oct,Obs];have hw:IntKind.i64.wrap ((Qge r.2.1 o d).1+Za0 (Qge r.2.1 o d))=(Qge r.2.1 o d).1+Za0 (Qge r.2.1 o d):=Zv (by have:=(Q0p (by have:=hi.tot;omega) i1).1;omega) (by omega);simp only[hw,Ota];have hx4:=hx4.resolve_left fun h=>s h.2;refine Pc.ite (fun hc=>Pc.pure fun _=>⟨⟨i1,by simp only;rw[hx2];omega,by simp only;rw[hx2,i2];omega,fun c hc=>by simp only;rw[hx2];exact i3 c hc,by simp only;rw[hx3];omega,.inr ⟨by simp only;rw[hx2];exact hx4.2.1,hx4.2.2⟩,.inr (.inr (.inl ⟨rfl,s,by simpa using hc,hx3⟩))⟩,?_⟩) fun hc=>Pc.pure fun _=>⟨⟨i1,by simp only;rw[hx2];omega,by simp only;rw[hx2,i2];omega,fun c hc=>by simp only;rw[hx2];exact i3 c hc,by simp only;rw[hx3];omega,.inr ⟨by simp only;rw[hx2];exact hx4.2.1,hx4.2.2⟩,.inr (.inl ⟨hx4.1,s,by simpa using hc,hx3⟩)⟩,?_⟩
   ·simp only;rw[hx2,hn];omega
   ·simp only;rw[hx2,hn];omega
 unfold Yn;rw[Qlj h (by omega),Obs,Qq0 h (by omega),hb,Obs];refine Pc.ite (fun _=>Pc.pure fun h=>by cases h) fun _=> ?_;simp only;rw[Zv (n:=o+ (d.length:Int)) (by omega) (by omega),Qta,Obs];cases hc:Qaw r (o+ (d.length:Int)) fin
 ·obtain⟨f1,f2⟩:=Q2t hc;have hF:=R.fin;have hS:=R.st
  refine Pc.ite (fun _=>Pc.pure fun _=>⟨R,by show r.2.2.2.1<=r.2.2.2.1+_;rw[hn];omega⟩) fun h1=> ?_;simp only[Ocf,Bool.or_eq_false_iff,decide_eq_false_iff_not]at h1;refine Pc.ite (fun hf=>j2 _ _ rfl rfl ?_ (.inr ⟨rfl,?_,?_⟩)) fun hf=>j2 _ _ rfl rfl ?_ ?_
  ·simp only;omega
  ·have:=f2 hf;simp only;omega
  ·simp only;omega
  ·simp only;omega
  ·simp only;omega
 ·exact Pc.ite (fun _=>Pc.pure fun h=>by cases h) fun h=>by cases h
theorem Q4j{K:Nat}{r:Zr}(h:Zc7 K r.2.1)(hK:K<=900000)(R:Q0j r)(code final:Int):
  Pc (Jh r code final) fun y=>y.2.1=0->Q0j y.1/\y.1.2.2.2.1<=r.2.2.2.1+nbV r final:=by
 have hb:=(Z9s h (by omega)).2 R;unfold Jh;rw[Qlj h (by omega),Obs,Qq0 h (by omega),hb,Obs];simp only[Ont,Ocf,Y5,Obs,Bool.false_or,bO,Bool.not_not];cases hq1:J4 code
 ·exact Pc.ite (fun _=>Pc.pure fun h=>by cases h) fun h=>by cases h
 cases hq2:J4 final
 ·exact Pc.ite (fun _=>Pc.pure fun h=>by cases h) fun h=>by cases h
 refine Pc.ite (fun h=>by cases h) fun _=> ?_;have g1:=X4.1 hq1;have g2:=X4.1 hq2;have hn:nbV r final=max 0 (final-r.2.2.2.1):=by
  unfold nbV;have:=R.hq;rw[hb,hq2,Zv (by omega) (by omega)];rfl
 rw[Qta,Obs];cases hc:Qaw r final true
 ·obtain⟨f1,f2⟩:=Q2t hc;have f2:=f2 rfl;refine Pc.ite (fun _=>Pc.pure fun _=>⟨R,by show r.2.2.2.1<=r.2.2.2.1+_;rw[hn];omega⟩) fun h1=>Pc.pure fun _=>⟨⟨?_,g2,?_,fun c hc=>(by cases hc),g1,.inr ⟨Int.le_refl _,g2.2⟩,.inr (.inr (.inr (.inr ⟨.inl rfl,?_,rfl,rfl⟩)))⟩,?_⟩
  ·have:=(Q0p (by have:=h.tot;omega) R.buf).1;unfold Zju;simp only;rw[X4.2 this];rfl
  ·have:=R.e0;simp only;omega
  ·simp only;omega
  ·simp only;rw[hn];omega
 ·exact Pc.ite (fun _=>Pc.pure fun h=>by cases h) fun h=>by cases h
theorem Zte{α β:Type}{g:α->β}{s d:α}: ∀{l:List α} {i:Nat},g s=g (l.getD i d)->(l.set i s).map g=l.map g
 | [],_,_=>rfl
 |x::l,0,h=>by
  rw[List.set_cons_zero,List.map_cons,List.map_cons,h];rfl
 |x::l,i+1,h=>by
  rw[List.set_cons_succ,List.map_cons,List.map_cons,Zte (l:=l) (i:=i) h]
theorem Z33{f:Zd->Int}{s:Zd}: ∀{l:List Zd} {i:Nat},i<l.length->Z6p f (l.set i s)=Z6p f l+f s-f (l.getD i Zh)
 | [],_,h=>absurd h (by simp)
 |x::l,0,_=>by
  rw[List.set_cons_zero];simp only[Z6p];rw[show(x::l).getD 0 Zh=x from rfl];omega
 |x::l,i+1,h=>by
  rw[List.set_cons_succ];simp only[Z6p];rw[Z33 (l:=l) (i:=i) (by simp at h;omega),show(x::l).getD (i+1) Zh=l.getD i Zh from rfl];omega
theorem Q5f.set{l:List Zd}(h:Q5f l){i:Nat}{s:Zd}(hs:stB s=true)(hi:s.1=(l.getD i Zh).1):Q5f (l.set i s):=by
 refine⟨fun x hx=> ?_,?_,by rw[List.length_set];exact h.len⟩
 ·rcases List.mem_or_eq_of_mem_set hx with h1|h1
  ·exact h.all x h1
  ·rw[h1];exact hs
 ·have e:=Zte (g:=fun s:Zd=>s.1) (s:=s) (l:=l) (i:=i) hi;have:=List.pairwise_map.2 h.srt;exact List.pairwise_map.1 (by rw[e];exact this)
theorem cfF{c:Zfp}(h:cfB c=true):Jl c.1=some (true,())/\(1<=c.2.1/\c.2.1<=c.2.2.1)/\c.2.2.1<=4096:=by
 have e:=cfE c;rw[h]at e;unfold Vm at e;obtain⟨p,hp⟩:=Qox c.1;simp only[hp,inQ,Obs,bA,bA2]at e;simp only[Osi,Opi,and_true,Oba,Zkx]at e;rw[hp];obtain⟨⟨⟨⟨⟨⟨⟨h1,h2⟩,h3⟩,-⟩,-⟩,-⟩,-⟩,-⟩:=e;exact⟨by rw[h1],⟨h3.1,h3.2⟩,h2.2⟩
theorem Q8a{n m:Int}(h:Jl n=some (true,()))(h0:0<=m)(h1:m<=4611686018427387903):Zus (n,(m,(m,(List.replicate n.toNat (0:Int),()))))=true/\0<n/\n<=64:=by
 obtain⟨⟨b,u⟩,hp,hb⟩:=Xa8 n;have hn:=hb (by rw[h]at hp;cases hp;rfl);refine⟨?_,hn⟩;have hL: (List.replicate n.toNat (0:Int)).length=n.toNat:=List.length_replicate;have e:=(Zy0 (n,(m,(m,(List.replicate n.toNat (0:Int),())))) (by simp only[hL];omega)).1;have:Vn (n,(m,(m,(List.replicate n.toNat (0:Int),()))))=some (true,()):=by
  unfold Vn;rw[h,Obs];have c0: ((((((!true)|| (((List.replicate n.toNat (0:Int)).length:Int) !=n))|| (decide (m< (0:Int))))|| (decide (m<m)))|| (decide ((IntKind.i64.wrap (m-m))>n)))|| (decide (m>(4611686018427387903:Int))))=false:=by
   rw[hL,Zv (by omega) (by omega)];simp only[Bool.or_eq_false_iff,decide_eq_false_iff_not,bne_eq_false_iff_eq,Ont,true_and];omega
  simp only;rw[c0,Ocf];refine(Q4r _ (by simp only[hL];omega) _ 0 (by unfold Vi;simp only;omega) (by omega)).trans ?_;congr 2;simp[Qig,List.all_replicate]
 rw[this]at e;simpa using e.symm
theorem Q5m(v:Bool){id:Int}(hq:J4 id=true): ∃s1 s2,Yr v id=some (s1,())/\Q8 v id=some (s2,())/\(s1=true\/s2=true):=by
 unfold Yr Q8;simp only[Y5,hq,Obs,Oct,Q1z,Q4f];cases Zzw id<;>cases Qos v id
 ·exact⟨_,_,rfl,rfl,.inl rfl⟩
 ·exact⟨_,_,rfl,rfl,.inl rfl⟩
 ·exact⟨_,_,rfl,rfl,.inr rfl⟩
 ·exact⟨_,_,rfl,rfl,.inl rfl⟩
theorem Xa2(v:Bool){id:Int}{o p:Zfp}(ho:cfB o=true)(hp:cfB p=true)(hq:J4 id=true):StF (nsV v id o p)/\(nsV v id o p).1=id/\Zxr (nsV v id o p)=0/\Zyq (nsV v id o p)=0:=by
 obtain⟨o1,o2,o3⟩:=cfF ho;obtain⟨p1,p2,p3⟩:=cfF hp;obtain⟨r1,r2⟩:=Q8a o1 (Int.le_refl 0) (by decide);obtain⟨b,e,hi⟩:=Q6l v id o p;have hid:=X4.1 hq;have nsnd:Zcd o.1=some (((0:Int),((o.1,((0:Int),((0:Int),(List.replicate o.1.toNat (0:Int),())))),(([]:List Ze),(([]:List Ze),(([]:List Ze),((-1:Int),Zon)))))),true,()):=by
  unfold Zcd Zp2;rw[o1,Obs];simp only[Ont,Ocf];rw[Zb (by unfold Qo;omega)];rfl
 have ncre:Zcc p.2.1=some ((p.2.1,((0:Int),((-1:Int),((-1:Int),())))),true,()):=by
  unfold Zcc;rw[Y5,X4.2 (by omega)];rfl
 have nwin:Zce o.2.1 o.2.2.1=some ((o.2.1,(o.2.2.1,(o.2.1,Zon))),true,()):=by
  unfold Zce;rw[inQ,inQ,Zkx.2 (by omega),Zkx.2 (by omega)];rfl
 obtain⟨s1,s2,k1,k2,hc⟩:=Q5m v hq;have e2:=e;unfold Kx Wp Zmj at e2;simp only[Y5,hq,cfE,ho,hp,Obs,Ont,Ocf,Bool.or_self,nsnd,ncre,nwin,k1,k2,Osi,Opi]at e2;have hs:nsV v id o p=(id,(((0:Int),((o.1,((0:Int),((0:Int),(List.replicate o.1.toNat (0:Int),())))),(([]:List Ze),(([]:List Ze),(([]:List Ze),((-1:Int),Zon)))))),((p.2.1,((0:Int),((-1:Int),((-1:Int),())))),(((0:Int),(((0:Int),(([]:List Z0),())),((-1:Int),((0:Int),((0:Int),()))))),((o.2.1,(o.2.2.1,(o.2.1,Zon))),(((3:Int),(false,())),(s1,(s2,(false,(false,(false,(false,((0:Int),(false,())))))))))))))):=e2.1.symm;rw[hs]at hi⊢;refine⟨⟨hid,?_,⟨by simp only;omega,Int.le_refl _,by simp only;omega,by simp only;omega,by simp only;omega,by simp only;omega,by simp only;omega⟩,?_,⟨by simp only;omega,by simp only;omega,by simp only;omega,?_,?_,?_,?_⟩,⟨by simp only;omega,by simp only;omega⟩,⟨by simp only;omega,by simp only;omega⟩,hc,Int.le_refl _,Int.le_refl _,fun h=>(by cases h),fun h=>(by cases h),fun h=>absurd rfl h,.inr ⟨rfl,rfl,rfl⟩,.inr ⟨rfl,rfl,rfl⟩⟩,rfl,rfl,rfl⟩
 ·exact {ring:=r1,pr:=rfl,fr:=rfl,ar:=rfl,sent:=⟨Int.le_refl _,Int.le_refl _⟩,code:=⟨Int.le_refl _,by simp only[Zon];omega⟩,fin:=⟨Int.le_refl _,by simp only[Zon];omega⟩,rst:=fun h=>by simp at h,no:=fun _=>{whole:=rfl,gap:=rfl,code:=rfl,fl:=rfl,ac:=rfl,fin:=rfl,st:=rfl}}
 ·rfl
 ·simp only[Zon];omega
 ·simp only[Zon];omega
 ·simp only[Zon];omega
 ·simp only[Zon];omega
theorem Qvf{s:Zd}: ∀{l:List Zd},(l.Pairwise fun a b=>a.1<b.1)->(∀x∈l,x.1≠s.1)->(Z5i s l).Pairwise fun a b=>a.1<b.1
 | [],_,_=>by simp[Z5i]
 |x::r,h,hn=>by
  have hx:=hn x List.mem_cons_self;obtain⟨h1,h2⟩:=List.pairwise_cons.1 h;unfold Z5i;by_cases hg:x.1>s.1
  ·rw[if_pos hg];refine List.pairwise_cons.2 ⟨fun y hy=> ?_,h⟩;rcases List.mem_cons.1 hy with rfl|hy
   ·exact hg
   ·have:=h1 y hy;omega
  ·rw[if_neg hg];refine List.pairwise_cons.2 ⟨fun y hy=> ?_,Qvf h2 fun y hy=>hn y (List.mem_cons_of_mem _ hy)⟩;rcases Qn6.1 hy with rfl|hy
   ·omega
   ·exact h1 y hy
theorem Qpl{f:Zd->Int}{s:Zd}: ∀{l:List Zd},Z6p f (Z5i s l)=Z6p f l+f s
 | []=>by simp only[Z5i,Z6p];omega
 |x::r=>by
  unfold Z5i;by_cases hg:x.1>s.1
  ·rw[if_pos hg];simp only[Z6p];omega
  ·rw[if_neg hg];simp only[Z6p];rw[Qpl];omega
structure LF(K:Nat)(S H:Int)(l:List Zd):Prop where
 inv:Zgj K l
 all: ∀s∈l,StF s
 srt:l.Pairwise fun a b=>a.1<b.1
 snt:Z6p Zxr l<=S
 hgh:Z6p Zyq l<=H
theorem StF.nn{K:Nat}{s:Zd}(F:StF s)(h:Xc K s)(hK:K<=1000000): (0<=Zxr s/\Zxr s<=4611686018427387903)/\0<=Zyq s/\Zyq s<=4611686018427387903:=by
 have a:=F.snd.sent;have b:=h.snd.eK;have c:=((Z9s h.rcv hK).1 F.rcv).hq;unfold Zxr Zyq;omega
theorem LF.nn{K:Nat}{S H:Int}{l:List Zd}(L:LF K S H l)(hK:K<=1000000): ∀s∈l,(0<=Zxr s/\Zxr s<=4611686018427387903)/\0<=Zyq s/\Zyq s<=4611686018427387903:=fun s hs=>(L.all s hs).nn (L.inv.all s hs) hK
theorem LF.put0{K:Nat}{S H:Int}{l:List Zd}(L:LF K S H l)(hK:K<=1000000){s:Zd}(F:StF s)(h:Xc K s)(h1:Zxr s=0)(h2:Zyq s=0)(hl:l.length+1<=K):LF K S H (Zwg l s):=by
 have nn:=L.nn hK;have hll:l.length<=1000000:=by omega
 refine⟨Qo3 L.inv h hl,fun x hx=> ?_,?_,?_,?_⟩
 ·rcases Qv3 hx with e|e
  ·rw[e];exact F
  ·exact L.all x e
 ·unfold Zwg;split
  ·rename_i hi;have e:=Zte (g:=fun s:Zd=>s.1) (s:=s) (l:=l) (i:=(Yw l s.1).toNat) (d:=Zh) ((Qkp hll s.1).2.2 hi).symm;exact List.pairwise_map.1 (by rw[e];exact List.pairwise_map.2 L.srt)
  ·rename_i hi;exact Qvf L.srt ((Qkp hll s.1).2.1 (by omega))
 ·unfold Zwg;split
  ·rename_i hi;have hx:=(Qkp hll s.1).1;rw[Z33 (by omega),h1];have:=(nn _ (Qh (d:=Zh) (show(Yw l s.1).toNat<l.length by omega))).1.1;have:=L.snt;omega
  ·rw[Qpl,h1];have:=L.snt;omega
 ·unfold Zwg;split
  ·rename_i hi;have hx:=(Qkp hll s.1).1;rw[Z33 (by omega),h2];have:=(nn _ (Qh (d:=Zh) (show(Yw l s.1).toNat<l.length by omega))).2.1;have:=L.hgh;omega
  ·rw[Qpl,h2];have:=L.hgh;omega
theorem Q38{K:Nat}{S H:Int}(h25:25<=K)(hK:K<=1000000)(v:Bool){o p:Zfp}(ho:cfB o=true)(hp:cfB p=true){id:Int}(hq:J4 id=true): ∀(m:Nat) {l:List Zd},LF K S H l->l.length+m<=24->4* (m:Int)<=id+4->LF K S H (mkL v o p id m l)
 |0,_,L,_,_=>L
 |m+1,l,L,hl,hm=>by
  have hid:=X4.1 hq;have hw:IntKind.i64.wrap (id-IntKind.i64.wrap (4* (m:Int)))=id-4* (m:Int):=by rw[Zv (n:=4* (m:Int)) (by omega) (by omega),Zv (by omega) (by omega)]
  obtain⟨F,e1,e2,e3⟩:=Xa2 v ho hp (id:=id-4* (m:Int)) (X4.2 (by omega));obtain⟨b,-,hs⟩:=Q6l v (id-4* (m:Int)) o p;have:=Zxm l (nsV v (id-4* (m:Int)) o p);unfold mkL;rw[hw];exact Q38 h25 hK v ho hp hq m (L.put0 hK F (hs.mono (Nat.zero_le K)) e2 e3 (by omega)) (by omega) (by omega)
theorem Q39(v:Bool){o p:Zfp}(ho:cfB o=true)(hp:cfB p=true){id:Int}(hq:J4 id=true): ∀(m:Nat) {l:List Zd},l.length+m<24-> ∃s∈mkL v o p id (m+1) l,s.1=id
 |0,l,hl=>by
  have hid:=X4.1 hq;have hw:IntKind.i64.wrap (id-IntKind.i64.wrap (4* ((0:Nat):Int)))=id:=by rw[Zv (n:=4* ((0:Nat):Int)) (by omega) (by omega),Zv (by omega) (by omega)];omega
  have e:=(Xa2 v ho hp hq).2.1;unfold mkL mkL;rw[hw];exact⟨_,Q6r (by omega) _,e⟩
 |m+1,l,hl=>by
  have:=Zxm l (nsV v (IntKind.i64.wrap (id-IntKind.i64.wrap (4* ((m+1:Nat):Int)))) o p);unfold mkL;exact Q39 v ho hp hq m (by omega)
theorem Zx6.LF{K:Nat}{c:Zg}(hc:Zx6 c)(h:Qe K c)(hK:K<=1000000):LF K c.2.2.2.2.1.2.1 c.2.2.2.2.2.1.2.2.2.1 c.2.2.2.1:=by
 have st: ∀s∈c.2.2.2.1,StF s:=fun s hs=>hc.st h hK hs;have nn: ∀s∈c.2.2.2.1,(0<=Zxr s/\Zxr s<=4611686018427387903)/\0<=Zyq s/\Zyq s<=4611686018427387903:=fun s hs=>(st s hs).nn (h.str.all s hs) hK;have t:=hc.tail;unfold Qsj at t;simp only[Oba,decide_eq_true_eq]at t;have e1:=(Qd4 (f:=Zxr) (n:=0) (fun s hs=>(nn s hs).1) (Int.le_refl _) (by decide)).1;have e2:=(Qd4 (f:=Zyq) (n:=0) (fun s hs=>(nn s hs).2) (Int.le_refl _) (by decide)).1;have u:=Qsu.1 hc.tot;have u1:=u.lim;have u2:=u.use
 have w:=Zu1.1 hc.inf;have w1:=w.lim;have w2:=w.seen
 have t1:=t.1.2;have t2:=t.2
 rw[e1]at t1;rw[e2]at t2;exact⟨h.str,st,(Qwq.1 hc.sts).srt,by omega,by omega⟩
theorem Qiw{K:Nat}{c c':Zg}(hc:Zx6 c)(hK:K<=1000000)(e1:c'.2.1=c.2.1)(e2:c'.2.2.1=c.2.2.1)(L:LF K c'.2.2.2.2.1.2.1 c'.2.2.2.2.2.1.2.2.2.1 c'.2.2.2.1)(hl:c'.2.2.2.1.length<=24)
  (ht:Q15 c'.2.2.2.2.1) (hi:Qpv c'.2.2.2.2.2.1) (hob:Zwp c'.2.2.2.2.2.2.1=true) (hou:Zwp c'.2.2.2.2.2.2.2.1=true) (hab:Q0i c'.2.2.2.2.2.2.2.2.1) (hau:Q0i c'.2.2.2.2.2.2.2.2.2.1)
  (et:c'.2.2.2.2.2.2.2.2.2.2.2.2.2=c.2.2.2.2.2.2.2.2.2.2.2.2.2):Zx6 c':=by
 have t:=hc.tail;unfold Qsj at t;simp only[Oba,decide_eq_true_eq]at t;have nn:=L.nn hK;have f1:=(Qd4 (f:=Zxr) (n:=0) (fun s hs=>(nn s hs).1) (Int.le_refl _) (by decide)).1;have f2:=(Qd4 (f:=Zyq) (n:=0) (fun s hs=>(nn s hs).2) (Int.le_refl _) (by decide)).1;refine⟨by rw[e1];exact hc.own,by rw[e2];exact hc.peer,Qwq.2 ⟨fun s hs=>(Xbp (L.inv.all s hs) hK).2 (L.all s hs),L.srt,hl⟩,Qsu.2 ht,Zu1.2 hi,hob,hou,Z7d.2 hab,Z7d.2 hau,by rw[et];exact hc.pks,?_⟩;unfold Qsj;rw[et,f1,f2];simp only[Oba,decide_eq_true_eq];have:=L.snt;have:=L.hgh
 exact⟨⟨t.1.1,by omega⟩,by omega⟩
theorem Zs8{K:Nat}{c:Zg}(h:Qe K c)(hc:Ztr c=true)(h25:25<=K)(hK:K<=400000){id:Int}(hq:J4 id=true):Qe K (Zd7 c id).2:=by
 obtain⟨y,e,hy⟩:=Zo8 h h25 hK id;rw[Z4d h hc h25 hK hq]at e;cases e;exact hy
theorem Q5p{K:Nat}{v:Bool}{c:Zg}(h:Qe K c)(hc:Ztr c=true)(h25:25<=K)(hK:K<=400000){id:Int}(hq:J4 id=true)(k:KC v c):KC v (Zd7 c id).2:=Qb6 k id _ (Z4d h hc h25 hK hq)
theorem Zs7{K:Nat}{c:Zg}(h:Qe K c)(hc:Ztr c=true)(h25:25<=K)(hK:K<=400000){id:Int}(hq:J4 id=true)(h0: (Zd7 c id).1=0):Zx6 (Zd7 c id).2/\0<=Yw (Zd7 c id).2.2.2.2.1 id/\(Zd7 c id).2.1=c.1:=by
 have hf:=(Q2u h (by omega)).1 hc;have hl:=h.str.len;unfold Zd7 at h0⊢;by_cases hi:0<=Yw c.2.2.2.1 id
 ·rw[Zn (Zj hi)];exact⟨hf,hi,rfl⟩
 rw[Zm (Zk hi)]at h0⊢;cases ho:Qos c.1 id
 ·rw[ho,Ocf]at h0;rw[Ocf];cases hg:Zws c id
  ·rw[hg]at h0;cases h0
  rw[Oct];have hL:=Qns hg;have hid:=X4.1 hq;have hidx:idV id=id/4:=by unfold idV;rw[hq];rfl
  have hs:Zux (Kt c id) (idV id)=true:=by
   unfold Zws at hg;simp only[Oba]at hg;exact hg.1.1
  have hs2:=hs;unfold Zux at hs2;simp only[Oba,decide_eq_true_eq]at hs2;have ga:=Z7d.1 hs2.1;have hn:siN (Kt c id) (idV id)=idV id+1- (Kt c id).2.2.1:=by have:=hL.2;unfold siN at this⊢;omega
  have gA:Q0i (siV (Kt c id) (idV id)):=by
   have g1:=ga.most;have g2:=ga.lim;have g3:=ga.seen;have g4:=ga.clo;have g5:=ga.lc
   unfold siV;exact⟨g1,g2,by simp only;omega,by simp only;omega,g5⟩
  have L:=Q38 h25 (by omega) c.1 hf.own hf.peer hq (siN (Kt c id) (idV id)).toNat (hf.LF h (by omega)) (by omega) (by have:=ga.seen;omega)
  have hlen:=Qzz c.1 c.2.1 c.2.2.1 id (siN (Kt c id) (idV id)).toNat c.2.2.2.1;obtain⟨s,hs3,hs4⟩:=Q39 c.1 hf.own hf.peer hq ((siN (Kt c id) (idV id)).toNat-1) (l:=c.2.2.2.1) (by omega);rw[show(siN (Kt c id) (idV id)).toNat-1+1=(siN (Kt c id) (idV id)).toNat by omega]at hs3;have hx: (Qu6 c id).2.2.2.1=mkL c.1 c.2.1 c.2.2.1 id (siN (Kt c id) (idV id)).toNat c.2.2.2.1:=rfl;refine⟨?_,by rw[hx];exact Q51 (by omega) ⟨s,hs3,hs4⟩,by unfold Qu6 Que;cases Zzw id<;>rfl⟩;have u:=Qsu.1 hf.tot;have w:=Zu1.1 hf.inf;have a1:=Z7d.1 hf.ab;have a2:=Z7d.1 hf.au;unfold Qu6 Que;cases Zzw id
  ·exact Qiw hf (by omega) rfl rfl L (by simp only;omega) u w hf.ob hf.ou gA a2 rfl
  ·exact Qiw hf (by omega) rfl rfl L (by simp only;omega) u w hf.ob hf.ou a1 gA rfl
 ·rw[ho]at h0;cases h0
theorem Qu9{l l':List Zd}(n:Int)(hl:l.length=l'.length)(h: ∀j,(l.getD j Zh).1=(l'.getD j Zh).1): ∀(N:Nat) (i:Int),Xq N l n i=Xq N l' n i
 |0,_=>rfl
 |N+1,i=>by
  unfold Xq;rw[hl,h,Qu9 n hl h N]
theorem Qce{l:List Zd}{s:Zd}{i:Nat}(n:Int)(h:s.1=(l.getD i Zh).1):Yw (l.set i s) n=Yw l n:=by
 have e:Xp (l.set i s) n=Xp l n:=by
  unfold Xp Yd;rw[List.length_set];refine Qu9 n (List.length_set) (fun j=> ?_) _ _;by_cases hj:j=i
  ·subst hj;by_cases hh:j<l.length
   ·rw[List.getD_eq_getElem?_getD,List.getElem?_set_self hh,<-h];rfl
   ·rw[List.set_eq_of_length_le (by omega)]
  ·rw[List.getD_eq_getElem?_getD,List.getElem?_set_ne (fun h=>hj h.symm),<-List.getD_eq_getElem?_getD]
 unfold Yw;rw[e]
theorem Z17{l:List Zd}{s:Zd}{i:Nat}(h:i<l.length): (l.set i s).getD i Zh=s:=by
 rw[List.getD_eq_getElem?_getD,List.getElem?_set_self h];rfl
noncomputable abbrev atV(x:Zg)(id:Int):Zd:=x.2.2.2.1.getD (Yw x.2.2.2.1 id).toNat Zh
noncomputable abbrev Zzi(x:Zg)(id:Int)(s:Zd):Zg:=Qk7 x (x.2.2.2.1.set (Yw x.2.2.2.1 id).toNat s)
abbrev Zuw(x:Zg)(w:Qq):Zg:=(x.1,(x.2.1,(x.2.2.1,(x.2.2.2.1,(x.2.2.2.2.1,(w,x.2.2.2.2.2.2))))))
abbrev Qja(s:Zd):Zd:=(s.1,(s.2.1,(s.2.2.1,(s.2.2.2.1,(s.2.2.2.2.1,(s.2.2.2.2.2.1,(s.2.2.2.2.2.2.1,(s.2.2.2.2.2.2.2.1,(s.2.2.2.2.2.2.2.2.1,(s.2.2.2.2.2.2.2.2.2.1,(s.2.2.2.2.2.2.2.2.2.2.1,(s.2.2.2.2.2.2.2.2.2.2.2.1,(s.2.2.2.2.2.2.2.2.2.2.2.2.1,(true,s.2.2.2.2.2.2.2.2.2.2.2.2.2.2))))))))))))))
abbrev Qvi(s:Zd):Bool:=s.2.2.2.2.2.2.2.2.2.2.2.2.2.1
noncomputable def Qxl(s:Zd):Bool:=Q10 (Zlr s)
theorem Q75{K:Nat}{s:Zd}(h:Xc K s)(hK:K<=1000000):Zlr s=some (Qxl s,()):=Q47 (Q3w h hK)
theorem Xa5{K:Nat}{s:Zd}(h:Xc K s)(hK:K<=1000000):Zfr s=some (Qxl s,()):=by
 rw[<-Q75 h hK];unfold Zfr Zlr;rw[Qgh h hK];have e:Znn s=Zka s:=by
  unfold Znn Zka Zsa Zj9;rw[Zrs h.rcv hK]
 have e2:Zsb s=Znz s:=rfl;rw[e,e2]
noncomputable def ovB(v:Bool)(s:Zd):Bool:= !(Qvi s||Qos v s.1)&&Qxl s
noncomputable def fin(x:Zg)(id:Int):Zg:=bif ovB x.1 (atV x id)then Que (Zzi x id (Qja (atV x id))) id (coV (Kt x id))else x
theorem Qz8{K:Nat}{x:Zg}{s:Zd}{id:Int}(h:Qe K x)(hs:Xc K s)(hK:K<=500000)(hid:s.1=id)(hi:0<=Yw x.2.2.2.1 id):Jj x s=some ((),(fin (Zzi x id s) id,())):=by
 subst hid;have hl:=h.str.len;obtain⟨h1,-,h3⟩:=Qkp (l:=x.2.2.2.1) (by omega) s.1;have he:s.1=(x.2.2.2.1.getD (Yw x.2.2.2.1 s.1).toNat Zh).1:=by rw[h3 hi]
 have hix:Yw (x.2.2.2.1.set (Yw x.2.2.2.1 s.1).toNat s) s.1=Yw x.2.2.2.1 s.1:=Qce s.1 he;have hat:atV (Zzi x s.1 s) s.1=s:=by
  show(x.2.2.2.1.set (Yw x.2.2.2.1 s.1).toNat s).getD (Yw (x.2.2.2.1.set (Yw x.2.2.2.1 s.1).toNat s) s.1).toNat Zh=s;rw[hix];exact Z17 (by omega)
 have hc:Xc K (Qja s):=⟨hs.snd,hs.rcv⟩
 have p1:Qi x.2.2.2.1 s=some (x.2.2.2.1.set (Yw x.2.2.2.1 s.1).toNat s,()):=by
  rw[Qt7 h.str hs hK];unfold Zwg;rw[if_pos hi]
 have p2:Qi x.2.2.2.1 (Qja s)=some (x.2.2.2.1.set (Yw x.2.2.2.1 s.1).toNat (Qja s),()):=by
  rw[Qt7 h.str hc hK];unfold Zwg;rw[if_pos hi]
 have co: ∀a,∃b,Zb1 a=some (coV a,b,()):=fun a=>by
  obtain⟨⟨y,b,u⟩,e,hy⟩:=Q2r a;exact⟨b,by rw[e,show y=coV a from hy]⟩
 unfold Jj Zjp fin;rw[hat,Q4f,Q75 hs (by omega)];simp only[bO,bO2];have e: ((Qvi s|| (!Qvi s&&Qos x.1 s.1))|| !Qxl s)= !ovB x.1 s:=by
  unfold ovB;cases Qvi s<;>cases Qos x.1 s.1<;>cases Qxl s<;>rfl
 rw[e];have e2: (Zzi x s.1 s).1=x.1:=rfl;rw[e2];cases ovB x.1 s
 ·rw[Bool.not_false,Oct,Ocf,Obs,p1];rfl
 ·rw[Ont,Ocf,Oct,Q1z,Obs];obtain⟨b1,c1⟩:=co x.2.2.2.2.2.2.2.2.2.1;obtain⟨b2,c2⟩:=co x.2.2.2.2.2.2.2.2.1;rw[c1,c2];have e3:Zzi (Zzi x s.1 s) s.1 (Qja s)=Qk7 x (x.2.2.2.1.set (Yw x.2.2.2.1 s.1).toNat (Qja s)):=by
   show Qk7 x ((x.2.2.2.1.set (Yw x.2.2.2.1 s.1).toNat s).set (Yw (x.2.2.2.1.set (Yw x.2.2.2.1 s.1).toNat s) s.1).toNat (Qja s))=_;rw[hix,List.set_set]
  rw[e3];unfold Que Kt;cases Zzw s.1
  ·simp only[Ocf,Obs];rw[show(s.1,(s.2.1,(s.2.2.1,(s.2.2.2.1,(s.2.2.2.2.1,(s.2.2.2.2.2.1,(s.2.2.2.2.2.2.1,(s.2.2.2.2.2.2.2.1,(s.2.2.2.2.2.2.2.2.1,(s.2.2.2.2.2.2.2.2.2.1,(s.2.2.2.2.2.2.2.2.2.2.1,(s.2.2.2.2.2.2.2.2.2.2.2.1,(s.2.2.2.2.2.2.2.2.2.2.2.2.1,(true,s.2.2.2.2.2.2.2.2.2.2.2.2.2.2))))))))))))))=Qja s from rfl,p2];rfl
  ·simp only[Oct,Obs];rw[show(s.1,(s.2.1,(s.2.2.1,(s.2.2.2.1,(s.2.2.2.2.1,(s.2.2.2.2.2.1,(s.2.2.2.2.2.2.1,(s.2.2.2.2.2.2.2.1,(s.2.2.2.2.2.2.2.2.1,(s.2.2.2.2.2.2.2.2.2.1,(s.2.2.2.2.2.2.2.2.2.2.1,(s.2.2.2.2.2.2.2.2.2.2.2.1,(s.2.2.2.2.2.2.2.2.2.2.2.2.1,(true,s.2.2.2.2.2.2.2.2.2.2.2.2.2.2))))))))))))))=Qja s from rfl,p2];rfl
noncomputable def Qyf(x:Zg)(id:Int):Option (Zg×Int×Unit):=Option.bind (Xn x.2.2.2.1 id) fun t14=>Zi (0<=t14.1/\t14.1<x.2.2.2.1.length)<|Option.bind (Zd9 x.1 id) fun t13=>Option.bind (bif t13.1||Qvi (x.2.2.2.1.getD t14.1.toNat Zh)then some (false,())else(Zfr (x.2.2.2.1.getD t14.1.toNat Zh))) fun t24=>bif(t13.1||Qvi (x.2.2.2.1.getD t14.1.toNat Zh))|| (!t24.1)then some (x,(0:Int),()) else Option.bind (Z3 (Qk7 x (x.2.2.2.1.set t14.1.toNat (Qja (x.2.2.2.1.getD t14.1.toNat Zh)))) id) fun t33=>bif t33.1 then Option.bind (Z3 t33.2.1 id) fun t36=>bif t36.1 then Option.bind (Qj t36.2.1.2.2.2.2.2.2.2.2.2.1) fun t39=>some ((t36.2.1.1,(t36.2.1.2.1,(t36.2.1.2.2.1,(t36.2.1.2.2.2.1,(t36.2.1.2.2.2.2.1,(t36.2.1.2.2.2.2.2.1,(t36.2.1.2.2.2.2.2.2.1,(t36.2.1.2.2.2.2.2.2.2.1,(t36.2.1.2.2.2.2.2.2.2.2.1,(t39.1,t36.2.1.2.2.2.2.2.2.2.2.2.2)))))))))),(0:Int),()) else Option.bind (Qj t36.2.1.2.2.2.2.2.2.2.2.1) fun t39=>some ((t36.2.1.1,(t36.2.1.2.1,(t36.2.1.2.2.1,(t36.2.1.2.2.2.1,(t36.2.1.2.2.2.2.1,(t36.2.1.2.2.2.2.2.1,(t36.2.1.2.2.2.2.2.2.1,(t36.2.1.2.2.2.2.2.2.2.1,(t36.2.1.2.2.2.2.2.2.2.2.1,(t39.1,t36.2.1.2.2.2.2.2.2.2.2.2.2)))))))))),(0:Int),()) else Option.bind (Z3 t33.2.1 id) fun t36=>bif t36.1 then Option.bind (Qj t36.2.1.2.2.2.2.2.2.2.2.2.1) fun t39=>some ((t36.2.1.1,(t36.2.1.2.1,(t36.2.1.2.2.1,(t36.2.1.2.2.2.1,(t36.2.1.2.2.2.2.1,(t36.2.1.2.2.2.2.2.1,(t36.2.1.2.2.2.2.2.2.1,(t36.2.1.2.2.2.2.2.2.2.1,(t39.1,t36.2.1.2.2.2.2.2.2.2.2.2))))))))),(0:Int),()) else Option.bind (Qj t36.2.1.2.2.2.2.2.2.2.2.1) fun t39=>some ((t36.2.1.1,(t36.2.1.2.1,(t36.2.1.2.2.1,(t36.2.1.2.2.2.1,(t36.2.1.2.2.2.2.1,(t36.2.1.2.2.2.2.2.1,(t36.2.1.2.2.2.2.2.2.1,(t36.2.1.2.2.2.2.2.2.2.1,(t39.1,t36.2.1.2.2.2.2.2.2.2.2.2))))))))),(0:Int),())
theorem Q60{K:Nat}{x:Zg}{id:Int}(h:Zgj K x.2.2.2.1)(hK:K<=500000)(hi:0<=Yw x.2.2.2.1 id):Qyf x id=some (fin x id,(0:Int),()):=by
 have hl:=h.len;obtain⟨h1,-,h3⟩:=Qkp (l:=x.2.2.2.1) (by omega) id;have hs:=h.all _ (Qh (d:=Zh) (show(Yw x.2.2.2.1 id).toNat<x.2.2.2.1.length by omega));have hA: ∀x n,Z3 x n=some (Zzw n,(x,())):=fun x n=>by
  unfold Z3;rw[Xbw,Q1z,Obs];cases Zzw n<;>rfl
 have co: ∀a,∃b,Qj a=some (coV a,b,()):=fun a=>by
  obtain⟨⟨y,b,u⟩,e,hy⟩:=Q2r a;exact⟨b,by rw[Q8n,e,show y=coV a from hy]⟩
 unfold Qyf fin;rw[Qb8 (by omega),Qcd (by omega),Obs];simp only;rw[Zb (by omega),Xa7,Q4f,Obs,Xa5 hs (by omega)];simp only[bO,bO2];have e: ((Qos x.1 id||Qvi (atV x id))|| !Qxl (atV x id))= !ovB x.1 (atV x id):=by
  unfold ovB;rw[h3 hi];cases Qvi (atV x id)<;>cases Qos x.1 id<;>cases Qxl (atV x id)<;>rfl
 rw[e];cases ovB x.1 (atV x id)
 ·rfl
 ·rw[Ont,Ocf,Oct,hA,Obs];obtain⟨b1,c1⟩:=co x.2.2.2.2.2.2.2.2.2.1;obtain⟨b2,c2⟩:=co x.2.2.2.2.2.2.2.2.1;unfold Que Kt;cases hu:Zzw id
  ·simp only[Ocf];rw[hA,hu];simp only[Obs,Ocf];rw[c2];rfl
  ·simp only[Oct];rw[hA,hu];simp only[Obs,Oct];rw[c1];rfl
theorem Qwk(w:Qq):snV w 0=w:=by
 unfold snV;cases Zu4 w 0
 ·rfl
 ·rw[Oct,Int.add_zero]
abbrev lft(w:Qq):Int:=w.2.2.1-w.2.2.2.1
def flB(x:Zg)(s:Zd)(n:Int):Bool:=decide (n<=lft s.2.2.2.2.1)&&decide (n<=lft x.2.2.2.2.2.1)
abbrev Zsr(s:Zd)(w:Qq):Zd:=(s.1,(s.2.1,(s.2.2.1,(s.2.2.2.1,(w,s.2.2.2.2.2)))))
abbrev Zqr(s:Zd)(r:Zr):Zd:=(s.1,(s.2.1,(s.2.2.1,(r,s.2.2.2.2))))
theorem Qxu(r:Zr)(e:Int):0<=nbV r e:=by
 unfold nbV;cases Z9r r&&J4 e
 ·exact Int.le_refl _
 ·rw[Oct];omega
theorem Q7y{K:Nat}{x:Zg}{s:Zd}(hs:Xc K s)(hK:K<=1000000)(w1:Z1j s.2.2.2.2.1=true)(w2:Z1j x.2.2.2.2.2.1=true)(e:Int):Zdq x s e=some (bif flB x s (nbV s.2.2.2.1 e)then(((0:Int),()),(Zuw x (snV x.2.2.2.2.2.1 (nbV s.2.2.2.1 e)),(Zsr s (snV s.2.2.2.2.1 (nbV s.2.2.2.1 e)),())))else(((3:Int),()),(x,(s,())))):=by
 have g1:=Zu1.1 w1;have g2:=Zu1.1 w2;have a1:=g1.seen;have a2:=g2.seen
 have a3:0<=lft s.2.2.2.2.1:=by unfold lft;omega
 have a4:0<=lft x.2.2.2.2.2.1:=by unfold lft;omega
 have nn:=Qxu s.2.2.2.1 e;unfold Zdq;rw[Q1b hs.rcv hK,Obs];generalize nbV s.2.2.2.1 e=n at nn⊢;simp only;by_cases h0:n=0
 ·have hf:flB x s n=true:=by unfold flB;rw[Zj (by omega),Zj (by omega)];rfl
  subst h0;rw[hf,Qwk,Qwk];rfl
 ·rw[Zm (by simpa using h0),Xbh,Xbh];have o1:Zu4 s.2.2.2.2.1 n=decide (n<=lft s.2.2.2.2.1):=by unfold Zu4;rw[w1,Zj nn];rfl
  have o2:Zu4 x.2.2.2.2.2.1 n=decide (n<=lft x.2.2.2.2.2.1):=by unfold Zu4;rw[w2,Zj nn];rfl
  simp only[Obs];rw[o1,o2];unfold flB;cases decide (n<=lft s.2.2.2.2.1)<;>cases decide (n<=lft x.2.2.2.2.2.1)<;>rfl
theorem okF{f:Zl}(h:Yo f=true):J4 f.2.1=true/\(0<=f.2.2.1/\f.2.2.1<=4611686018427387903)/\(f.1=8->f.2.2.1+ (f.2.2.2.1.length:Int)<=4611686018427387903)/\f.2.2.2.1.length<=400:=by
 unfold Yo fq at h;simp only[Oba,decide_eq_true_eq]at h;obtain⟨⟨⟨⟨⟨⟨⟨-,h1⟩,h2⟩,-⟩,-⟩,-⟩,h3⟩,h4⟩:=h;refine⟨X4.2 (by omega),by omega,fun h8=> ?_,h3⟩;rw[h8]at h4;simp only[show((8:Int)==18|| (8:Int)==22)=false from rfl,Ocf,decide_eq_true_eq]at h4;omega
theorem Zgj.set{K:Nat}{l:List Zd}(h:Zgj K l){s:Zd}(hs:Xc K s)(i:Nat):Zgj K (l.set i s):=⟨by rw[List.length_set];exact h.len,fun x hx=>by
 rcases List.mem_or_eq_of_mem_set hx with h1|h1
 ·exact h.all x h1
 ·rw[h1];exact hs⟩
noncomputable def pre(c:Zg)(f:Zl)(g can:Bool)(k:Zg->Zg×Int×Unit):Zg×Int×Unit:=bif(Ztr c&&Yo f)&&g then bif can then bif(Zd7 c f.2.1).1==0 then k (Zd7 c f.2.1).2 else(c,(Zd7 c f.2.1).1,())else(c,5,())else(c,7,())
noncomputable def Qd7(v:Bool)(n:Int):Bool:=Q10 (Yr v n)
theorem Qwl(v:Bool)(n:Int):Yr v n=some (Qd7 v n,()):=Q47 (Q41 v n)
noncomputable def Zup(v:Bool)(n:Int):Bool:=Q10 (Q8 v n)
theorem Qo4(v:Bool)(n:Int):Q8 v n=some (Zup v n,()):=Q47 (Q0a v n)
noncomputable def Qwv(m:Option (Zr×Int×Unit)):Zr×Int×Unit:=match m with|some y=>y|none=>(Zmt,0,())
noncomputable def Zu8(c:Zg)(f:Zl)(x:Zg):Zg×Int×Unit:=bif flB x (atV x f.2.1) (nbV (atV x f.2.1).2.2.2.1 (IntKind.i64.wrap (f.2.2.1+ (f.2.2.2.1.length:Int))))then bif(Qwv (Yn (atV x f.2.1).2.2.2.1 f.2.2.1 f.2.2.2.1 f.2.2.2.2.1)).2.1==0 then (fin (Zzi (Zuw x (snV x.2.2.2.2.2.1 (nbV (atV x f.2.1).2.2.2.1 (IntKind.i64.wrap (f.2.2.1+ (f.2.2.2.1.length:Int)))))) f.2.1 (Zqr (Zsr (atV x f.2.1) (snV (atV x f.2.1).2.2.2.2.1 (nbV (atV x f.2.1).2.2.2.1 (IntKind.i64.wrap (f.2.2.1+ (f.2.2.2.1.length:Int)))))) (Qwv (Yn (atV x f.2.1).2.2.2.1 f.2.2.1 f.2.2.2.1 f.2.2.2.2.1)).1)) f.2.1,0,()) else(c,(Qwv (Yn (atV x f.2.1).2.2.2.1 f.2.2.1 f.2.2.2.1 f.2.2.2.2.1)).2.1,()) else(c,3,())
structure EnF(K:Nat)(x:Zg)(id:Int):Prop where
 inv:Qe K x
 con:Zx6 x
 idx:0<=Yw x.2.2.2.1 id
theorem EnF.mem{K:Nat}{x:Zg}{id:Int}(h:EnF K x id)(hK:K<=1000000):atV x id∈x.2.2.2.1/\(Yw x.2.2.2.1 id).toNat<x.2.2.2.1.length/\(atV x id).1=id:=by
 have hl:=h.inv.str.len;obtain⟨h1,-,h3⟩:=Qkp (l:=x.2.2.2.1) (by omega) id;have hi:=h.idx;exact⟨Qh (d:=Zh) (by omega),by omega,h3 hi⟩
theorem Q21{K:Nat}{c:Zg}{f:Zl}(h:Qe K c)(hf:FOK f)(h25:25<=K)(hK:K<=390000):Vv c f=some (pre c f (f.1==8) (Zup c.1 f.2.1) (Zu8 c f),()):=by
 unfold FOK at hf;unfold Vv pre;simp only[Qpy h (by omega),Qcn hf,Wu h (by omega),bO,bO2,Obs,Qo4];cases hc:Ztr c
 ·rfl
 cases hk:Yo f
 ·rfl
 rw[bne];cases hg:f.1==8
 ·rfl
 simp only[Ont,Bool.or_self,Ocf,Bool.and_self,Oct];cases Zup c.1 f.2.1
 ·rfl
 simp only[Ont,Ocf,Oct];obtain⟨q1,q2,q3,q4⟩:=okF hk;rw[Z4d h hc h25 (by omega) q1,Obs,bne];cases h0: (Zd7 c f.2.1).1==0
 ·rfl
 have E:EnF K (Zd7 c f.2.1).2 f.2.1:=by
  have e:=Zs7 h hc h25 (by omega) q1 (by simpa using h0);exact⟨Zs8 h hc h25 (by omega) q1,e.1,e.2.1⟩
 simp only[Ont,Ocf,Oct];generalize (Zd7 c f.2.1).2=x at E⊢;obtain⟨m1,m2,m3⟩:=E.mem (by omega);have hs:=E.inv.str.all _ m1;have F:=E.con.st E.inv (by omega) m1;rw[Z4x E.inv (by omega),if_pos E.idx,Obs];obtain⟨r,v,e,hr⟩:=Zvx hs.rcv f.2.2.1 f.2.2.2.1 f.2.2.2.2.1 (by omega);simp only;unfold Zu8;rw[e,Obs,Q7y hs (by omega) (Zu1.2 F.win) E.con.inf,Obs];cases flB x (atV x f.2.1) (nbV (atV x f.2.1).2.2.2.1 (IntKind.i64.wrap (f.2.2.1+ (f.2.2.2.1.length:Int))))
 ·rfl
 simp only[Oct,show((0:Int) !=0)=false from rfl,Ocf,Qwv];rw[bne];cases v==0
 ·rfl
 simp only[Ont,Ocf,Oct];generalize nbV (atV x f.2.1).2.2.2.1 (IntKind.i64.wrap (f.2.2.1+ (f.2.2.2.1.length:Int)))=n;have hw:Xc (K+f.2.2.2.1.length+1) (Zqr (Zsr (atV x f.2.1) (snV (atV x f.2.1).2.2.2.2.1 n)) r):=⟨hs.snd.mono (by omega),hr⟩
 have sv:=Qz8 (x:=Zuw x (snV x.2.2.2.2.2.1 n)) (id:=f.2.1) (K:=K+f.2.2.2.1.length+1) ⟨E.inv.str.mono (by omega),E.inv.pk.mono (by omega)⟩ hw (by omega) m3 E.idx;exact Eq.trans (congrArg (fun m:Option (Unit×Zg×Unit)=>Option.bind m fun t86=>some ((t86.2.1,((0:Int),())),())) sv) rfl
theorem Q7s{K:Nat}{c:Zg}{f:Zl}(h:Qe K c)(hf:FOK f)(h25:25<=K)(hK:K<=390000):Zjw c f=some (pre c f (f.1==8) (Zup c.1 f.2.1) (Zu8 c f)):=by
 unfold FOK at hf;unfold Zjw pre;simp only[Qcm h (by omega),Qpy h (by omega),Qco hf,Z4a h (by omega),bO,bO2,Je,Obs,Q4o,Qo4];cases hc:Ztr c
 ·rfl
 cases hk:Yo f
 ·rfl
 cases hg:f.1==8
 ·rfl
 simp only[Ont,Bool.or_self,Ocf,Bool.and_self,Oct];cases Zup c.1 f.2.1
 ·rfl
 simp only[Ont,Ocf,Oct];obtain⟨q1,q2,q3,q4⟩:=okF hk;rw[Qlg h hc h25 (by omega),Obs,bne];cases h0: (Zd7 c f.2.1).1==0
 ·rfl
 have E:EnF K (Zd7 c f.2.1).2 f.2.1:=by
  have e:=Zs7 h hc h25 (by omega) q1 (by simpa using h0);exact⟨Zs8 h hc h25 (by omega) q1,e.1,e.2.1⟩
 simp only[Ont,Ocf,Oct];generalize (Zd7 c f.2.1).2=x at E⊢;obtain⟨m1,m2,m3⟩:=E.mem (by omega);have hs:=E.inv.str.all _ m1;have F:=E.con.st E.inv (by omega) m1;have hl:=E.inv.str.len;have hi:=E.idx;rw[Qb8 (by omega),Qcd (by omega),Obs];simp only;rw[Zb (by omega),Qrr hs.rcv (by omega),Obs,Qzs,Obs,Qzs,Zu1.2 F.win,E.con.inf];obtain⟨r,v,e,hr⟩:=Zvx hs.rcv f.2.2.1 f.2.2.2.1 f.2.2.2.2.1 (by omega);unfold Zu8 flB;simp only[Oct];rw[show decide (nbV (atV x f.2.1).2.2.2.1 (IntKind.i64.wrap (f.2.2.1+ (f.2.2.2.1.length:Int)))>lft (atV x f.2.1).2.2.2.2.1)= !decide (nbV (atV x f.2.1).2.2.2.1 (IntKind.i64.wrap (f.2.2.1+ (f.2.2.2.1.length:Int)))<=lft (atV x f.2.1).2.2.2.2.1) by rw[<-decide_not];exact decide_eq_decide.2 (by omega)];cases decide (nbV (atV x f.2.1).2.2.2.1 (IntKind.i64.wrap (f.2.2.1+ (f.2.2.2.1.length:Int)))<=lft (atV x f.2.1).2.2.2.2.1)
 ·rfl
 simp only[Ont,Ocf,Obs,Bool.false_or,Ota];rw[show decide (nbV (atV x f.2.1).2.2.2.1 (IntKind.i64.wrap (f.2.2.1+ (f.2.2.2.1.length:Int)))>lft x.2.2.2.2.2.1)= !decide (nbV (atV x f.2.1).2.2.2.1 (IntKind.i64.wrap (f.2.2.1+ (f.2.2.2.1.length:Int)))<=lft x.2.2.2.2.2.1) by rw[<-decide_not];exact decide_eq_decide.2 (by omega)];cases decide (nbV (atV x f.2.1).2.2.2.1 (IntKind.i64.wrap (f.2.2.1+ (f.2.2.2.1.length:Int)))<=lft x.2.2.2.2.2.1)
 ·rfl
 simp only[Ont,Ocf,Oct];rw[Q4n hs.rcv _ _ _ (by omega) (by omega),e,Obs];simp only[Qwv];rw[bne];cases v==0
 ·rfl
 simp only[Ont,Ocf,Oct];rw[Q6z,Q6z,Obs,Obs];simp only[Z17 m2,List.set_set];generalize hn:nbV (atV x f.2.1).2.2.2.1 (IntKind.i64.wrap (f.2.2.1+ (f.2.2.2.1.length:Int)))=n;have hw:Xc (K+f.2.2.2.1.length+1) (Zqr (Zsr (atV x f.2.1) (snV (atV x f.2.1).2.2.2.2.1 n)) r):=⟨hs.snd.mono (by omega),hr⟩
 refine Eq.trans ?_ (Q60 (K:=K+f.2.2.2.1.length+1) (x:=Zzi (Zuw x (snV x.2.2.2.2.2.1 n)) f.2.1 (Zqr (Zsr (atV x f.2.1) (snV (atV x f.2.1).2.2.2.2.1 n)) r)) (id:=f.2.1) ?_ (by omega) ?_)
 ·rfl
 ·exact(E.inv.str.mono (by omega)).set hw _
 ·show 0<=Yw (x.2.2.2.1.set (Yw x.2.2.2.1 f.2.1).toNat (Zqr (Zsr (atV x f.2.1) (snV (atV x f.2.1).2.2.2.2.1 n)) r)) f.2.1;rw[show Yw (x.2.2.2.1.set (Yw x.2.2.2.1 f.2.1).toNat (Zqr (Zsr (atV x f.2.1) (snV (atV x f.2.1).2.2.2.2.1 n)) r)) f.2.1=Yw x.2.2.2.1 f.2.1 from Qce _ rfl];exact E.idx
theorem Q4k(w:Qq):rdV w 0=w:=by
 unfold rdV;cases Zxn w 0
 ·rfl
 ·rw[Oct,Int.add_zero]
theorem Q6v(w:Qq)(n:Int):rdV w (max 0 n)=rdV w n:=by
 by_cases h:0<=n
 ·rw[Int.max_eq_right h]
 ·rw[Int.max_eq_left (by omega),Q4k];have:Zxn w n=false:=by unfold Zxn;rw[Zk h,Bool.false_and,Bool.and_false]
  unfold rdV;rw[this];rfl
noncomputable def Zu3(x:Zg)(f:Zl):Int:=nbV (atV x f.2.1).2.2.2.1 f.2.2.2.2.2.2.2.1
noncomputable def Qhm(x:Zg)(f:Zl):Zr×Int×Unit:=Qwv (Jh (atV x f.2.1).2.2.2.1 f.2.2.2.2.2.1 f.2.2.2.2.2.2.2.1)
noncomputable def Q9o(x:Zg)(f:Zl):Int:=IntKind.i64.wrap (f.2.2.2.2.2.2.2.1- (snV (atV x f.2.1).2.2.2.2.1 (Zu3 x f)).2.2.2.2.1)
noncomputable def Qd1(c:Zg)(f:Zl)(x:Zg):Zg×Int×Unit:=bif flB x (atV x f.2.1) (Zu3 x f)then bif(Qhm x f).2.1==0 then bif((Qhm x f).1.1==4)&& ((atV x f.2.1).2.2.2.1.1 !=4)then (fin (Zzi (Zuw x (rdV (snV x.2.2.2.2.2.1 (Zu3 x f)) (Q9o x f))) f.2.1 (Zqr (Zsr (atV x f.2.1) (rdV (snV (atV x f.2.1).2.2.2.2.1 (Zu3 x f)) (Q9o x f))) (Qhm x f).1)) f.2.1,0,()) else(fin (Zzi (Zuw x (snV x.2.2.2.2.2.1 (Zu3 x f))) f.2.1 (Zqr (Zsr (atV x f.2.1) (snV (atV x f.2.1).2.2.2.2.1 (Zu3 x f))) (Qhm x f).1)) f.2.1,0,()) else(c,(Qhm x f).2.1,()) else(c,3,())
theorem Q9p{K:Nat}{c:Zg}{f:Zl}(h:Qe K c)(hf:FOK f)(h25:25<=K)(hK:K<=390000):Va c f=some (pre c f (f.1==4) (Zup c.1 f.2.1) (Qd1 c f),()):=by
 unfold FOK at hf;unfold Va K8 pre;simp only[Qpy h (by omega),Qcn hf,Wu h (by omega),bO,bO2,Obs,Qo4];cases hc:Ztr c
 ·rfl
 cases hk:Yo f
 ·rfl
 rw[bne];cases hg:f.1==4
 ·rfl
 simp only[Ont,Bool.or_self,Ocf,Bool.and_self,Oct];cases Zup c.1 f.2.1
 ·rfl
 simp only[Ont,Ocf,Oct];obtain⟨q1,q2,q3,q4⟩:=okF hk;rw[Z4d h hc h25 (by omega) q1,Obs,bne];cases h0: (Zd7 c f.2.1).1==0
 ·rfl
 have E:EnF K (Zd7 c f.2.1).2 f.2.1:=by
  have e:=Zs7 h hc h25 (by omega) q1 (by simpa using h0);exact⟨Zs8 h hc h25 (by omega) q1,e.1,e.2.1⟩
 simp only[Ont,Ocf,Oct];generalize (Zd7 c f.2.1).2=x at E⊢;obtain⟨m1,m2,m3⟩:=E.mem (by omega);have hs:=E.inv.str.all _ m1;have F:=E.con.st E.inv (by omega) m1;rw[Z4x E.inv (by omega),if_pos E.idx,Obs];obtain⟨r,v,e,hr⟩:=Zti hs.rcv (by omega) f.2.2.2.2.2.1 f.2.2.2.2.2.2.2.1;have eR:Qhm x f=(r,v,()):=by unfold Qhm;rw[e];rfl
 simp only;unfold Qd1;rw[e,Obs,Q7y hs (by omega) (Zu1.2 F.win) E.con.inf,Obs,eR];rw[show nbV (atV x f.2.1).2.2.2.1 f.2.2.2.2.2.2.2.1=Zu3 x f from rfl];cases flB x (atV x f.2.1) (Zu3 x f)
 ·rfl
 simp only[Oct,show((0:Int) !=0)=false from rfl,Ocf];rw[bne];cases v==0
 ·rfl
 simp only[Ont,Ocf,Oct];have key: ∀w1 w2,Option.bind (Jj (Zuw x w1) (Zqr (Zsr (atV x f.2.1) w2) r)) (fun t92=>some ((t92.2.1,((0:Int),())),()))=some ((fin (Zzi (Zuw x w1) f.2.1 (Zqr (Zsr (atV x f.2.1) w2) r)) f.2.1,(0,())),()):=fun w1 w2=>by
  have hw:Xc K (Zqr (Zsr (atV x f.2.1) w2) r):=⟨hs.snd,hr⟩
  rw[Qz8 (x:=Zuw x w1) (id:=f.2.1) (K:=K) ⟨E.inv.str,E.inv.pk⟩ hw (by omega) m3 E.idx];rfl
 cases ((r.1==4)&& ((atV x f.2.1).2.2.2.1.1 !=4))
 ·exact key _ _
 ·simp only[Oct];unfold Zgd;simp only[Xbd,Q6v,Obs];exact key _ _
noncomputable def Xbg(x:Zg)(f:Zl)(i:Nat)(l:List Zd)(w:Qq)(r:Zr):Option (Zg×Int×Unit):=bif(r.1==(4:Int))&& ((l.getD i Zh).2.2.2.1.1 !=(4:Int))then Option.bind (Zea ((l.set i (Zqr (l.getD i Zh) r)).getD i Zh).2.2.2.2.1 (IntKind.i64.wrap (f.2.2.2.2.2.2.2.1- ((l.set i (Zqr (l.getD i Zh) r)).getD i Zh).2.2.2.2.1.2.2.2.2.1))) fun t21=>Option.bind (Zea w (IntKind.i64.wrap (f.2.2.2.2.2.2.2.1- ((l.set i (Zqr (l.getD i Zh) r)).getD i Zh).2.2.2.2.1.2.2.2.2.1))) fun t33=>Qyf (Qk7 (Zuw x t33.1) ((l.set i (Zqr (l.getD i Zh) r)).set i (Zsr ((l.set i (Zqr (l.getD i Zh) r)).getD i Zh) t21.1))) f.2.1 else Qyf (Qk7 (Zuw x w) (l.set i (Zqr (l.getD i Zh) r))) f.2.1
set_option maxHeartbeats 2000000 in
theorem Xbf{K:Nat}{c:Zg}{f:Zl}(h:Qe K c)(hf:FOK f)(h25:25<=K)(hK:K<=390000):Zhp c f=some (pre c f (f.1==4) (Zup c.1 f.2.1) (Qd1 c f)):=by
 unfold FOK at hf;unfold Zhp pre;simp only[Qcm h (by omega),Qpy h (by omega),Qco hf,Z4a h (by omega),bO,bO2,Je,Obs,Q4o,Qo4];cases hc:Ztr c
 ·rfl
 cases hk:Yo f
 ·rfl
 cases hg:f.1==4
 ·rfl
 simp only[Ont,Bool.or_self,Ocf,Bool.and_self,Oct];cases Zup c.1 f.2.1
 ·rfl
 simp only[Ont,Ocf,Oct];obtain⟨q1,q2,q3,q4⟩:=okF hk;rw[Qlg h hc h25 (by omega),Obs,bne];cases h0: (Zd7 c f.2.1).1==0
 ·rfl
 have E:EnF K (Zd7 c f.2.1).2 f.2.1:=by
  have e:=Zs7 h hc h25 (by omega) q1 (by simpa using h0);exact⟨Zs8 h hc h25 (by omega) q1,e.1,e.2.1⟩
 simp only[Ont,Ocf,Oct];generalize (Zd7 c f.2.1).2=x at E⊢;obtain⟨m1,m2,m3⟩:=E.mem (by omega);have hs:=E.inv.str.all _ m1;have F:=E.con.st E.inv (by omega) m1;have hl:=E.inv.str.len;have hi:=E.idx;rw[Qb8 (by omega),Qcd (by omega),Obs];simp only;rw[Zb (by omega),Qrr hs.rcv (by omega),Obs,Qzs,Obs,Qzs,Zu1.2 F.win,E.con.inf];obtain⟨r,v,e,hr⟩:=Zti hs.rcv (by omega) f.2.2.2.2.2.1 f.2.2.2.2.2.2.2.1;have eR:Qhm x f=(r,v,()):=by unfold Qhm;rw[e];rfl
 unfold Qd1 flB;rw[eR];simp only[Oct];rw[show nbV (atV x f.2.1).2.2.2.1 f.2.2.2.2.2.2.2.1=Zu3 x f from rfl];rw[show decide (Zu3 x f>lft (atV x f.2.1).2.2.2.2.1)= !decide (Zu3 x f<=lft (atV x f.2.1).2.2.2.2.1) by rw[<-decide_not];exact decide_eq_decide.2 (by omega)];cases decide (Zu3 x f<=lft (atV x f.2.1).2.2.2.2.1)
 ·rfl
 simp only[Ont,Ocf,Obs,Bool.false_or,Ota];rw[show decide (Zu3 x f>lft x.2.2.2.2.2.1)= !decide (Zu3 x f<=lft x.2.2.2.2.2.1) by rw[<-decide_not];exact decide_eq_decide.2 (by omega)];cases decide (Zu3 x f<=lft x.2.2.2.2.2.1)
 ·rfl
 simp only[Ont,Ocf,Oct];rw[Qq3 hs.rcv _ _ (by omega),e,Obs];simp only;rw[bne];cases v==0
 ·rfl
 simp only[Ont,Ocf,Oct];have key: ∀w1 w2,Qyf (Zzi (Zuw x w1) f.2.1 (Zqr (Zsr (atV x f.2.1) w2) r)) f.2.1=some (fin (Zzi (Zuw x w1) f.2.1 (Zqr (Zsr (atV x f.2.1) w2) r)) f.2.1,(0:Int),()):=fun w1 w2=>by
  have hw:Xc K (Zqr (Zsr (atV x f.2.1) w2) r):=⟨hs.snd,hr⟩
  refine Q60 (K:=K) (E.inv.str.set hw _) (by omega) ?_;show 0<=Yw (x.2.2.2.1.set (Yw x.2.2.2.1 f.2.1).toNat (Zqr (Zsr (atV x f.2.1) w2) r)) f.2.1;rw[show Yw (x.2.2.2.1.set (Yw x.2.2.2.1 f.2.1).toNat (Zqr (Zsr (atV x f.2.1) w2) r)) f.2.1=Yw x.2.2.2.1 f.2.1 from Qce _ rfl];exact E.idx
 rw[Q6z,Q6z,Obs,Obs];refine Eq.trans (show _=Xbg x f (Yw x.2.2.2.1 f.2.1).toNat (x.2.2.2.1.set (Yw x.2.2.2.1 f.2.1).toNat (Zsr (atV x f.2.1) (snV (atV x f.2.1).2.2.2.2.1 (Zu3 x f)))) (snV x.2.2.2.2.2.1 (Zu3 x f)) r from rfl) ?_;unfold Xbg;have m4: (Yw x.2.2.2.1 f.2.1).toNat< (x.2.2.2.1.set (Yw x.2.2.2.1 f.2.1).toNat (Zsr (atV x f.2.1) (snV (atV x f.2.1).2.2.2.2.1 (Zu3 x f)))).length:=by rw[List.length_set];exact m2
 rw[Z17 m2,Z17 m4];simp only[List.set_set];cases ((r.1==4)&& ((atV x f.2.1).2.2.2.1.1 !=4))
 ·exact key _ _
 ·simp only[Oct,Xbb,Obs];exact key _ _
end Go.Proofs.YtmlpcjbkbnkajaaGreat

/- FnTransfers: the plain law, part 2. No condition. -/
import Derived.Test.YtpadmiphiogdhaaGreatP1
namespace Go.Proofs.YtpadmiphiogdhaaGreat
open Go.Am
set_option maxRecDepth 100000
set_option linter.unusedVariables false
def Qmz(l:List Int):Bool:=l.all fun n=>decide (n≥0)&&decide (n≤255)
theorem Q6q(r:Ko)(hl:r.2.2.2.1.length≤1048576): ∀(N i:Nat),r.2.2.2.1.length-i<N→i≤r.2.2.2.1.length→Zd7 N r (i:Int)=some (Qmz (r.2.2.2.1.drop i),())
 |0,_,h,_=>by omega
 |N+1,i,hN,hi=>by
  rw[Zd7]
  by_cases hh:i<r.2.2.2.1.length
  ·rw[Zm (Zj (by omega)),Zc (by omega),Zrw,Option.bind_some,Zo hh (by omega),Q6q r hl N (i+1) (by omega) (by omega),show(i:Int).toNat=i from rfl,Zdc (d:=0) hh]
   simp only[Qmz,List.all_cons]
   cases decide (r.2.2.2.1.getD i 0≥0)&&decide (r.2.2.2.1.getD i 0≤255)<;>rfl
  ·rw[Zi (Zk (by omega)),List.drop_eq_nil_of_le (by omega)];rfl
theorem Qek(n a b:Int):Z3 n a b=some (decide (n≥a)&&decide (n≤b),()):=rfl
theorem Qz1(l:List Int)(hl:l.length≤1048576)(u:Unit): ∀(N i:Nat),l.length-i<N→i≤l.length→ ∃k,Q8 N l u (l.length:Int) (i:Int)=some (k,())∧decide (k≥0)= !Qmz (l.drop i)
 |0,_,h,_=>by omega
 |N+1,i,hN,hi=>by
  rw[Q8]
  by_cases hh:i<l.length
  ·have e:Zvy (l.getD i 0)=some (!(decide (l.getD i 0≥0)&&decide (l.getD i 0≤255)),()):=rfl
   rw[Zm (Zj (by omega)),Zc (by omega),show(i:Int).toNat=i from rfl,e,Option.bind_some,Zo hh (by omega),Zdc (d:=0) hh]
   obtain⟨k,h1,h2⟩:=Qz1 l hl () N (i+1) (by omega) (by omega)
   cases hc:decide (l.getD i 0≥0)&&decide (l.getD i 0≤255)
   ·exact⟨_,rfl,by simp only[Qmz,List.all_cons,hc];simp⟩
   ·exact⟨k,h1,by rw[h2];simp only[Qmz,List.all_cons,hc,Bool.true_and]⟩
  ·rw[Zi (Zk (by omega)),List.drop_eq_nil_of_le (by omega)];exact⟨_,rfl,by simp[Qmz]⟩
theorem Q46(r:Ko)(hl:r.2.2.2.1.length≤1048576):Zu0 r=Zbl r:=by
 unfold Zu0 Zbl Za8 Zit Kd Ky
 obtain⟨k,h1,h2⟩:=Qz1 r.2.2.2.1 hl () (Xh r.2.2.2.1 () (r.2.2.2.1.length:Int) 0) 0 (by unfold Xh;omega) (by omega)
 have h3:=Q6q r hl (Wp r 0) 0 (by unfold Wp;omega) (by omega)
 simp only[Int.natCast_zero,List.drop_zero]at h1 h2 h3
 have e:Xs r.2.1=some (decide (r.2.1≥0)&&decide (r.2.1≤4611686018427387903),()):=rfl
 simp only[h1,h2,h3,Qek,e,Option.bind_some]
 have e1:decide (r.1≥1)=decide (r.1>0):=by congr 1
 rw[e1]
 generalize hA: ((decide (r.1>0)&&decide (r.1≤64))&& (bits .and .i64 r.1 (IntKind.i64.wrap (r.1-1))==0))=A
 generalize ((r.2.2.2.1.length:Int) !=r.1)=B
 cases A
 ·rfl
 cases B
 ·simp only[Bool.not_true,Bool.or_self,cond_false,Option.bind_some,Bool.false_or]
  simp only[Bool.and_eq_true,decide_eq_true_eq]at hA
  generalize Qmz r.2.2.2.1=C
  by_cases h0:0≤r.2.1∧r.2.1≤r.2.2.1∧r.2.2.1≤4611686018427387903
  ·obtain⟨a1,a2,a3⟩:=h0
   rw[Zv (n:=r.2.2.1-r.2.1) (by omega) (by omega),Zv (n:=r.2.1+r.1) (by omega) (by omega),Zj (p:=r.2.1≥0) (by omega),Zj (p:=r.2.1≤4611686018427387903) (by omega),Zk (p:=r.2.1<0) (by omega),Zk (p:=r.2.2.1<r.2.1) (by omega),Zk (p:=r.2.2.1>4611686018427387903) (by omega),Zj (p:=r.2.2.1≥r.2.1) a2]
   by_cases h4:r.2.2.1-r.2.1≤r.1
   ·rw[Zk (p:=r.2.2.1-r.2.1>r.1) (by omega),Zj (p:=r.2.2.1≤min (r.2.1+r.1) 4611686018427387903) (by omega)]
    cases C<;>rfl
   ·rw[Zj (p:=r.2.2.1-r.2.1>r.1) (by omega),Zk (p:=r.2.2.1≤min (r.2.1+r.1) 4611686018427387903) (by omega)]
    cases C<;>rfl
  ·have hL: ((((decide (r.2.1<0))|| (decide (r.2.2.1<r.2.1)))|| (decide ((IntKind.i64.wrap (r.2.2.1-r.2.1))>r.1)))|| (decide (r.2.2.1>4611686018427387903)))=true:=by
    simp only[Bool.or_eq_true,decide_eq_true_eq];omega
   have hR: ((decide (r.2.1≥0)&&decide (r.2.1≤4611686018427387903))&& (decide (r.2.2.1≥r.2.1)&&decide (r.2.2.1≤min (IntKind.i64.wrap (r.2.1+r.1)) 4611686018427387903)))=false:=by
    simp only[Bool.and_eq_false_iff,decide_eq_false_iff_not];omega
   rw[hL]
   cases C
   ·rfl
   ·simp only[Bool.not_true,cond_false,cond_true]
    generalize hQ: (decide (r.2.1≥0)&&decide (r.2.1≤4611686018427387903))=Q at hR
    cases Q
    ·rfl
    ·simp only[cond_true,Option.bind_some]
     rw[hR]
 ·rfl
def hiB(S:Int)(l:List Zd):Bool:=l.all fun x=>decide (x.2.1≤S)
noncomputable def stF(s:Zq):Int:=match Vb s with|some (k,_)=>k|none=>0
theorem Q3x(s:Zq):Vb s=some (stF s,()):=by
 obtain⟨k,e⟩:=Qb9 s
 unfold stF;rw[e]
theorem Qt1(s:Zq)(h0:0≤s.2.2.2.2.2.2.1)(h3:s.2.2.2.2.2.2.1≤3):Zo5 s=some (stF s,()):=by
 rw[←Q3x]
 unfold Zo5 Vb
 have:decide (s.2.2.2.2.2.2.1>1)=((s.2.2.2.2.2.2.1==2)|| (s.2.2.2.2.2.2.1==3)):=by
  rw[Bool.eq_iff_iff];simp only[decide_eq_true_eq,Bool.or_eq_true,beq_iff_eq];omega
 rw[this]
def Qvx(s:Zq):Bool:= !((!((s.2.2.2.2.2.2.1==(0:Int))==(s.2.2.2.2.2.1==(-1:Int))))|| ((s.2.2.2.2.2.1 !=(-1:Int))&& (s.2.2.2.2.2.1 !=s.2.1.2.2.1)))
theorem Q9i(s:Zq)(hl:s.2.2.2.2.1.length≤1048576): ∀(N i:Nat),s.2.2.2.2.1.length-i<N→i≤s.2.2.2.2.1.length→Jk N s (i:Int)=some (hiB s.2.2.2.2.2.2.2.1 (s.2.2.2.2.1.drop i)&& (Qvx s&& (s.1==stF s)),())
 |0,_,h,_=>by omega
 |N+1,i,hN,hi=>by
  rw[Jk]
  by_cases hh:i<s.2.2.2.2.1.length
  ·rw[Zm (Zj (by omega)),Zc (by omega),Zo hh (by omega),Q9i s hl N (i+1) (by omega) (by omega),show(i:Int).toNat=i from rfl,Zdc (d:=Zx) hh]
   simp only[hiB,List.all_cons]
   by_cases hc: (s.2.2.2.2.1.getD i Zx).2.1≤s.2.2.2.2.2.2.2.1
   ·rw[Zk (p:=_>_) (by omega),Zj hc];rfl
   ·rw[Zj (p:=_>_) (by omega),Zk hc];rfl
  ·rw[Zi (Zk (by omega)),List.drop_eq_nil_of_le (by omega),Q3x,Option.bind_some]
   unfold Qvx
   generalize ((!((s.2.2.2.2.2.2.1==(0:Int))==(s.2.2.2.2.2.1==(-1:Int))))|| ((s.2.2.2.2.2.1 !=(-1:Int))&& (s.2.2.2.2.2.1 !=s.2.1.2.2.1)))=c
   cases c<;>rfl
theorem Q9h(s:Zq)(hl:s.2.2.2.1.length≤1048576)(hl2:s.2.2.2.2.1.length≤1048576): ∀(N i:Nat),s.2.2.2.1.length-i<N→i≤s.2.2.2.1.length→Jj N s (i:Int)=some (hiB s.2.2.2.2.2.2.2.1 (s.2.2.2.1.drop i)&& (hiB s.2.2.2.2.2.2.2.1 s.2.2.2.2.1&& (Qvx s&& (s.1==stF s))),())
 |0,_,h,_=>by omega
 |N+1,i,hN,hi=>by
  rw[Jj]
  by_cases hh:i<s.2.2.2.1.length
  ·rw[Zm (Zj (by omega)),Zc (by omega),Zo hh (by omega),Q9h s hl hl2 N (i+1) (by omega) (by omega),show(i:Int).toNat=i from rfl,Zdc (d:=Zx) hh]
   simp only[hiB,List.all_cons]
   by_cases hc: (s.2.2.2.1.getD i Zx).2.1≤s.2.2.2.2.2.2.2.1
   ·rw[Zk (p:=_>_) (by omega),Zj hc];rfl
   ·rw[Zj (p:=_>_) (by omega),Zk hc];rfl
  ·rw[Zi (Zk (by omega)),List.drop_eq_nil_of_le (by omega)]
   exact Q9i s hl2 _ 0 (by unfold Zev;omega) (by omega)
def Q8x(a:List Zd)(r:Zd):List Zd:=if rsB (-1) a=true∧Zff r=true then Zmi a r else a
def Zmh(a l:List Zd):List Zd:=l.foldl Q8x a
theorem Q0a{E:Int}: ∀{l a:List Zd},RL E a→(∀x∈l,x.2.1≤E)→RL E (Zmh a l)
 | [],_,h,_=>h
 |x::l,a,h,hl=>Q0a (l:=l) (a:=Q8x a x) (Zvu h (hl x (by simp))) fun y hy=>hl y (by simp[hy])
theorem Qex{E:Int}: ∀{l:List Zd} {lo:Int},rsB lo l=true→(∀x∈l,x.2.1≤E)→l≠[]→J8 l≤E-lo-1
 | [],_,_,_,h=>absurd rfl h
 |x::l,lo,h,hE,_=>by
  obtain⟨h1,h2,h3⟩:=J3.1 h
  have hx:=hE x (by simp)
  simp only[J8]
  rcases l with _| ⟨y,l⟩
  ·simp only[J8];omega
  ·have:=Qex h3 (fun z hz=>hE z (by simp[hz])) (by simp)
   omega
theorem Q0h{E:Int}{l:List Zd}(h:RL E l)(hc:J8 l=E)(h0:0<E): (l.getD 0 Zx).2.1=E:=by
 obtain⟨h1,h2⟩:=h
 rcases l with _| ⟨x,l⟩
 ·simp only[J8]at hc;omega
 ·obtain⟨a1,a2,a3⟩:=J3.1 h1
  have hx:=h2 x (by simp)
  have a1:=Q2.1 a1
  simp only[J8]at hc
  rcases l with _| ⟨y,l⟩
  ·simp only[J8]at hc
   simp only[List.getD_cons_zero];omega
  ·have:=Qex a3 (fun z hz=>h2 z (by simp[hz])) (by simp)
   omega
theorem Qey{E:Int}{l:List Zd}(h:RL E l)(h0:0≤E):0≤J8 l∧J8 l≤E:=by
 have: ∀{l:List Zd} {lo:Int},rsB lo l=true→0≤J8 l:=by
  intro l
  induction l with
  |nil=>intro lo _;simp[J8]
  |cons x l ih=>
   intro lo h
   obtain⟨a1,a2,a3⟩:=J3.1 h
   have a1:=Q2.1 a1
   have:=ih a3
   simp only[J8];omega
 refine⟨this h.1,?_⟩
 rcases hl:l with _| ⟨x,l'⟩
 ·simp only[J8];exact h0
 ·have:=Qex h.1 h.2 (by rw[hl];simp)
  rw[hl]at this;omega
def Z92(s:Zq)(all:List Zd):Bool:=(J8 all==s.2.1.2.2.1)&& (J8 s.2.2.1+J8 s.2.2.2.1+J8 s.2.2.2.2.1==s.2.1.2.2.1)
theorem Q9g{K:Int}{s:Zq}(hs:Zay K s)(hK:K≤1000000): ∀(N i:Nat) (all:List Zd),RL (Q1f s) all→s.2.2.2.2.1.length-i<N→i≤s.2.2.2.2.1.length→
  Ji N s all (i:Int)=some (Z92 s (Zmh all (s.2.2.2.2.1.drop i))&& ((Z4e s.2.2.2.2.1 0==s.2.1.2.1)&& ((s.2.2.2.2.2.2.2.2.1==0)&& (hiB s.2.2.2.2.2.2.2.1 s.2.2.2.1&& (hiB s.2.2.2.2.2.2.2.1 s.2.2.2.2.1&& (Qvx s&& (s.1==stF s)))))),())
 |0,_,_,_,h,_=>by omega
 |N+1,i,all,ha,hN,hi=>by
  have la:=Xk ha hs.e0 hs.eK hK
  have l1:=Xk hs.pend hs.e0 hs.eK hK
  have l2:=Xk hs.flight hs.e0 hs.eK hK
  have l3:=Xk hs.acked hs.e0 hs.eK hK
  rw[Ji]
  by_cases h:i<s.2.2.2.2.1.length
  ·rw[Zm (Zj (by omega)),Zc (by omega),Zo h (by omega),Zms _ _ (by omega),Option.bind_some,Zdc (d:=Zx) h]
   exact Q9g hs hK N (i+1) _ (Zvu ha (hs.acked.2 _ (Qx h))) (by omega) (by omega)
  ·have c1:=Qey hs.pend hs.e0
   have c2:=Qey hs.flight hs.e0
   have c3:=Qey hs.acked hs.e0
   have heK:=hs.eK
   rw[Zi (Zk (by omega)),Zcu _ (by omega),Zcu _ (by omega),Zcu _ (by omega),Zcu _ (by omega),Qb2 _ _ (by omega),List.drop_eq_nil_of_le (by omega)]
   simp only[Option.bind_some,ha.1,hs.pend.1,hs.flight.1,hs.acked.1,if_true]
   rw[Zc (fun h1 h2=>by
    simp only[Bool.or_eq_false_iff,bne_eq_false_iff_eq,decide_eq_true_eq]at h1 h2
    have:=Qvj (l:=all) (by omega)
    omega),Zv (n:=J8 s.2.2.1+J8 s.2.2.2.1) (by omega) (by omega),Zv (by omega) (by omega),show Zmh all []=all from rfl]
   have e3:=Q9h s (by omega) (by omega) (Zam s 0) 0 (by unfold Zam;omega) (by omega)
   simp only[Int.natCast_zero,List.drop_zero]at e3
   rw[e3]
   unfold Z92
   generalize (hiB s.2.2.2.2.2.2.2.1 s.2.2.2.1&& (hiB s.2.2.2.2.2.2.2.1 s.2.2.2.2.1&& (Qvx s&& (s.1==stF s))))=R
   have hq: (if True∧(0:Int)≤0 then Z4e s.2.2.2.2.1 0 else-1)=Z4e s.2.2.2.2.1 0:=by simp
   rw[hq]
   by_cases w1:J8 all=s.2.1.2.2.1
   ·by_cases w2:J8 s.2.2.1+J8 s.2.2.2.1+J8 s.2.2.2.2.1=s.2.1.2.2.1
    ·have hz: ((decide (s.2.1.2.2.1>0))&& ((all.getD (0:Int).toNat Zx).2.1 !=s.2.1.2.2.1))=false:=by
      by_cases hp:0<s.2.1.2.2.1
      ·have:=Q0h ha w1 hp
       rw[show((0:Int).toNat)=0 from rfl,this];simp
      ·rw[Zk (by omega)];rfl
     rw[hz,beq_iff_eq.2 w1,beq_iff_eq.2 w2,show(J8 all !=s.2.1.2.2.1)=false by simp[w1],show(J8 s.2.2.1+J8 s.2.2.2.1+J8 s.2.2.2.2.1 !=s.2.1.2.2.1)=false by simp[w2]]
     simp only[Bool.or_self,cond_false,Option.bind_some,Bool.false_or,Bool.and_self,Bool.true_and]
     simp only[bne]
     generalize (Z4e s.2.2.2.2.1 0==s.2.1.2.1)=g1
     generalize (s.2.2.2.2.2.2.2.2.1==0)=g2
     cases g1<;>cases g2<;>rfl
    ·rw[beq_eq_false_iff_ne.2 w2,show(J8 s.2.2.1+J8 s.2.2.2.1+J8 s.2.2.2.2.1 !=s.2.1.2.2.1)=true by simp[w2]]
     simp
   ·rw[beq_eq_false_iff_ne.2 w1,show(J8 all !=s.2.1.2.2.1)=true by simp[w1]]
    simp
theorem Q9f{K:Int}{s:Zq}(hs:Zay K s)(hK:K≤1000000): ∀(N i:Nat) (all:List Zd),RL (Q1f s) all→s.2.2.2.1.length-i<N→i≤s.2.2.2.1.length→
  Jh N s all (i:Int)=some (Z92 s (Zmh (Zmh all (s.2.2.2.1.drop i)) s.2.2.2.2.1)&& ((Z4e s.2.2.2.2.1 0==s.2.1.2.1)&& ((s.2.2.2.2.2.2.2.2.1==0)&& (hiB s.2.2.2.2.2.2.2.1 s.2.2.2.1&& (hiB s.2.2.2.2.2.2.2.1 s.2.2.2.2.1&& (Qvx s&& (s.1==stF s)))))),())
 |0,_,_,_,h,_=>by omega
 |N+1,i,all,ha,hN,hi=>by
  have la:=Xk ha hs.e0 hs.eK hK
  have l2:=Xk hs.flight hs.e0 hs.eK hK
  rw[Jh]
  by_cases h:i<s.2.2.2.1.length
  ·rw[Zm (Zj (by omega)),Zc (by omega),Zo h (by omega),Zms _ _ (by omega),Option.bind_some,Zdc (d:=Zx) h]
   exact Q9f hs hK N (i+1) _ (Zvu ha (hs.flight.2 _ (Qx h))) (by omega) (by omega)
  ·rw[Zi (Zk (by omega)),List.drop_eq_nil_of_le (by omega)]
   have:=Q9g hs hK (Zal s all 0) 0 all ha (by unfold Zal;omega) (by omega)
   simp only[Int.natCast_zero,List.drop_zero]at this
   exact this
theorem Qz8{K:Int}{s:Zq}(hs:Zay K s)(hK:K≤1000000)(t:List Zd)(ht:t.length≤3000000)(hE: ∀x∈t,x.2.1≤s.2.1.2.2.1): ∀(N i:Nat) (all:List Zd),RL (Q1f s) all→t.length-i<N→i≤t.length→
  Zgo N s.2.1.2.2.1 all t (t.length:Int) (i:Int)=some (J8 (Zmh all (t.drop i))==s.2.1.2.2.1,())
 |0,_,_,_,h,_=>by omega
 |N+1,i,all,ha,hN,hi=>by
  have la:=Xk ha hs.e0 hs.eK hK
  rw[Zgo]
  by_cases h:i<t.length
  ·rw[Zm (Zj (by omega)),Zc (by omega),Zo h (by omega),Q0d _ _ (by omega),Option.bind_some,Zdc (d:=Zx) h]
   exact Qz8 hs hK t ht hE N (i+1) _ (Zvu ha (hE _ (Qx h))) (by omega) (by omega)
  ·rw[Zi (Zk (by omega)),List.drop_eq_nil_of_le (by omega),Zqu _ (by omega)]
   simp only[ha.1,if_true,Option.bind_some]
   unfold Zb8
   rw[Zc (fun h=>by
    have:=of_decide_eq_true h
    rw[Zv (by omega) (by omega)];omega)]
   have hz: ((decide ((all.length:Int)>0))&& (decide ((all.getD (IntKind.i64.wrap ((all.length:Int)-1)).toNat Zx).2.1>s.2.1.2.2.1)))=false:=by
    by_cases hp: (all.length:Int)>0
    ·rw[Zv (by omega) (by omega)]
     have:=ha.2 _ (Qx (l:=all) (i:=((all.length:Int)-1).toNat) (d:=Zx) (by omega))
     rw[Zk (p:=_>s.2.1.2.2.1) (by unfold Q1f at this;omega)];simp
    ·rw[Zk hp];rfl
   rw[hz,show Zmh all []=all from rfl]
   cases J8 all==s.2.1.2.2.1<;>rfl
theorem Q6g{lo S:Int}: ∀{l:List Zd},rsB lo l=true→hiB S l= !((decide ((l.length:Int)>0))&& (decide ((l.getD (l.length-1) Zx).2.1>S)))
 | [],_=>rfl
 | [x],_=>by
  simp only[hiB,List.all_cons,List.all_nil,Bool.and_true,List.length_singleton,Nat.sub_self,List.getD_cons_zero]
  by_cases h:x.2.1≤S
  ·rw[Zj h,Zk (p:=x.2.1>S) (by omega)];rfl
  ·rw[Zk h,Zj (p:=x.2.1>S) (by omega)];rfl
 |x::y::l,h=>by
  obtain⟨a1,a2,a3⟩:=J3.1 h
  have ih:=Q6g (S:=S) a3
  have b:=J3.1 a3
  have b1:=Q2.1 b.1
  have e: (x::y::l).getD ((x::y::l).length-1) Zx=(y::l).getD ((y::l).length-1) Zx:=by simp
  rw[e]
  have e2:hiB S (x::y::l)=(decide (x.2.1≤S)&&hiB S (y::l)):=rfl
  rw[e2,ih,Zj (p:=((x::y::l).length:Int)>0) (by simp only[List.length_cons];omega),Zj (p:=((y::l).length:Int)>0) (by simp only[List.length_cons];omega)]
  by_cases hx:x.2.1≤S
  ·rw[Zj hx];rfl
  ·have e3:hiB S (y::l)=false:=by
    simp only[hiB,List.all_cons]
    rw[Zk (by omega)];rfl
   rw[e3,Zj (p:=((y::l).length:Int)>0) (by simp only[List.length_cons];omega)]at ih
   rw[Zk hx]
   simpa using ih
theorem Qoo{lo:Int}{l:List Zd}(h:rsB lo l=true)(hl:l.length≤1048576)(S:Int):Zb8 l S=some (!hiB S l,()):=by
 unfold Zb8
 simp only
 rw[Zc (fun h=>by
  have:=of_decide_eq_true h
  rw[Zv (by omega) (by omega)];omega),Q6g h (S:=S),Bool.not_not]
 by_cases hp: (l.length:Int)>0
 ·rw[Zv (by omega) (by omega),show((l.length:Int)-1).toNat=l.length-1 by omega]
 ·rw[Zk hp];rfl
theorem Q0u{K:Int}{s:Zq}(hs:Zay K s)(hK:K≤1000000):Zq0 s=Yd s:=by
 have l1:=Xk hs.pend hs.e0 hs.eK hK
 have l2:=Xk hs.flight hs.e0 hs.eK hK
 have l3:=Xk hs.acked hs.e0 hs.eK hK
 have hr:=(Qgf s.2.1 (by have:=hs.cells;omega)).1
 have c1:=Qey hs.pend hs.e0
 have c2:=Qey hs.flight hs.e0
 have c3:=Qey hs.acked hs.e0
 have heK:=hs.eK
 have s1:=Q9f hs hK (J0 s s.2.2.1 0) 0 s.2.2.1 hs.pend (by unfold J0;omega) (by omega)
 simp only[Int.natCast_zero,List.drop_zero]at s1
 have w1:Zq2 s.2.2.1 s.2.2.2.1 s.2.2.2.2.1 s.2.1.2.2.1=some (Z92 s (Zmh (Zmh s.2.2.1 s.2.2.2.1) s.2.2.2.2.1),()):=by
  unfold Zq2
  rw[Zqu _ (by omega),Zqu _ (by omega),Zqu _ (by omega),Qiu _ (by omega),Qiu _ (by omega)]
  simp only[hs.pend.1,hs.flight.1,hs.acked.1,if_true,Option.bind_some]
  rw[Zv (n:=J8 s.2.2.1+J8 s.2.2.2.1) (by omega) (by omega),Zv (by omega) (by omega),Zc (by unfold Qv;omega)]
  have:=Qz8 hs hK (s.2.2.2.1++s.2.2.2.2.1) (by simp;omega) (fun x hx=>by
   rcases List.mem_append.1 hx with hx|hx
   ·exact hs.flight.2 x hx
   ·exact hs.acked.2 x hx) (Zer s.2.1.2.2.1 s.2.2.1 (s.2.2.2.1++s.2.2.2.2.1) ((s.2.2.2.1++s.2.2.2.2.1).length:Int) 0) 0 s.2.2.1 hs.pend (by unfold Zer;omega) (by omega)
  simp only[Int.natCast_zero,List.drop_zero]at this
  rw[this]
  unfold Z92
  have e:Zmh s.2.2.1 (s.2.2.2.1++s.2.2.2.2.1)=Zmh (Zmh s.2.2.1 s.2.2.2.1) s.2.2.2.2.1:=List.foldl_append ..
  rw[e]
  simp only[bne]
  cases (J8 s.2.2.1+J8 s.2.2.2.1+J8 s.2.2.2.2.1==s.2.1.2.2.1)
  ·simp
  ·simp
 have hg: ∀f,0≤s.2.2.2.2.2.2.1→s.2.2.2.2.2.2.1≤3→Zgm s f=some (Z92 s (Zmh (Zmh s.2.2.1 s.2.2.2.1) s.2.2.2.2.1)&& ((Z4e s.2.2.2.2.1 0==s.2.1.2.1)&& ((s.2.2.2.2.2.2.2.2.1==0)&& (hiB s.2.2.2.2.2.2.2.1 s.2.2.2.1&& (hiB s.2.2.2.2.2.2.2.1 s.2.2.2.2.1&& ((s.2.2.2.2.2.1==f)&& (s.1==stF s)))))),()):=fun f h0 h3=>by
  unfold Zgm
  rw[w1,Q0n _ _ (by omega),Qoo hs.flight.1 (by omega),Qoo hs.acked.1 (by omega),Qt1 s h0 h3]
  have hq: (if rsB (-1) s.2.2.2.2.1=true∧(0:Int)≤0 then Z4e s.2.2.2.2.1 0 else-1)=Z4e s.2.2.2.2.1 0:=if_pos ⟨hs.acked.1,Int.le_refl _⟩
  rw[hq]
  simp only[Option.bind_some]
  generalize Z92 s (Zmh (Zmh s.2.2.1 s.2.2.2.1) s.2.2.2.2.1)=b1
  cases b1
  ·rfl
  simp only[cond_true,Option.bind_some,Bool.true_and]
  generalize (Z4e s.2.2.2.2.1 0==s.2.1.2.1)=b2
  cases b2
  ·rfl
  simp only[cond_true,Option.bind_some,Bool.true_and]
  generalize hiB s.2.2.2.2.2.2.2.1 s.2.2.2.1=b3
  generalize hiB s.2.2.2.2.2.2.2.1 s.2.2.2.2.1=b4
  generalize (s.2.2.2.2.2.2.2.2.1==0)=b5
  generalize (s.2.2.2.2.2.1==f)=b6
  cases b3<;>cases b4<;>cases b5<;>cases b6<;>rfl
 unfold Zq0 Yd
 rw[Q46 _ (by have:=hs.cells;omega),hr,Zkp _ (by omega),Zkp _ (by omega),Zkp _ (by omega),Qge _ (by omega),Qge _ (by omega),Qge _ (by omega),s1]
 have e2:Qd s.2.2.2.2.2.2.2.2.1=some (decide (s.2.2.2.2.2.2.2.2.1≥0)&&decide (s.2.2.2.2.2.2.2.2.1≤4611686018427387903),()):=rfl
 have e3:Xs s.2.2.2.2.2.2.2.2.1=some (decide (s.2.2.2.2.2.2.2.2.1≥0)&&decide (s.2.2.2.2.2.2.2.2.1≤4611686018427387903),()):=rfl
 simp only[hs.pend.1,hs.flight.1,hs.acked.1,e2,e3,Zrw,Qek,Option.bind_some]
 generalize Z6h s.2.1=b1
 cases b1
 ·rfl
 simp only[Bool.not_true,cond_false,Option.bind_some,Bool.false_or]
 generalize (decide (s.2.2.2.2.2.2.2.1≥0)&&decide (s.2.2.2.2.2.2.2.1≤s.2.1.2.2.1))=b2
 cases b2
 ·rfl
 simp only[Bool.not_true,cond_false,Option.bind_some,Bool.false_or]
 generalize (decide (s.2.2.2.2.2.2.2.2.1≥0)&&decide (s.2.2.2.2.2.2.2.2.1≤4611686018427387903))=b3
 cases b3
 ·rfl
 simp only[Bool.not_true,cond_false,Option.bind_some,Bool.false_or]
 by_cases hf:0≤s.2.2.2.2.2.2.1∧s.2.2.2.2.2.2.1≤3
 ·rw[hg _ hf.1 hf.2,hg _ hf.1 hf.2,show(decide (s.2.2.2.2.2.2.1≥0)&&decide (s.2.2.2.2.2.2.1≤3))=true by simp only[Bool.and_eq_true,decide_eq_true_eq];exact hf]
  simp only[Bool.not_true,cond_false]
  cases (s.1==(4:Int))|| (s.1==(5:Int))
  ·simp only[cond_false]
   have e0:=hs.e0
   have:Qvx s=(bif s.2.2.2.2.2.2.1==0 then s.2.2.2.2.2.1== -1 else s.2.2.2.2.2.1==s.2.1.2.2.1):=by
    unfold Qvx
    cases hz:s.2.2.2.2.2.2.1==0
    ·by_cases h1:s.2.2.2.2.2.1= -1
     ·rw[h1];simp;omega
     ·have: (s.2.2.2.2.2.1== -1)=false:=by simpa using h1
      simp[this,bne]
    ·by_cases h1:s.2.2.2.2.2.1= -1
     ·rw[h1];simp
     ·have: (s.2.2.2.2.2.1== -1)=false:=by simpa using h1
      simp[this]
   rw[this]
   cases s.2.2.2.2.2.2.1==0<;>rfl
  ·simp only[cond_true]
   congr 2
   ac_rfl
 ·rw[show(decide (s.2.2.2.2.2.2.1≥0)&&decide (s.2.2.2.2.2.2.1≤3))=false by rw[Bool.and_eq_false_iff,decide_eq_false_iff_not,decide_eq_false_iff_not];omega]
  rfl
theorem Q1y(l:List Zki)(hl:l.length≤1048576)(ht:Zmc l≤1000000): ∀(N i:Nat) (e:Int),l.length-i<N→i≤l.length→ -1≤e→e≤4611686018427387903→Zgk N (e+1) l (l.length:Int) (i:Int)=some (ckB e (l.drop i),())
 |0,_,_,h,_,_,_=>by omega
 |N+1,i,e,hN,hi,h0,h1=>by
  rw[Zgk]
  by_cases hh:i<l.length
  ·have hm:=Qme (Qx (l:=l) (d:=Zup) hh)
   rw[Zm (Zj (by omega)),Zc (by omega),Zo hh (by omega),show(i:Int).toNat=i from rfl,Zdc (d:=Zup) hh]
   generalize hc:l.getD i Zup=c at hm
   have e1: (((c.2.1.length:Int)==0)||decide (c.1<e+1))=(decide (c.1≤e)|| (c.2.1==([]:List UInt8))):=by
    rw[Bool.eq_iff_iff]
    simp only[Bool.or_eq_true,beq_iff_eq,decide_eq_true_eq]
    rw[←List.length_eq_zero_iff];omega
   simp only[ckB]
   rw[e1,Zv (n:=4611686018427387903- (c.2.1.length:Int)) (by omega) (by omega)]
   cases hx: ((decide (c.1≤e)|| (c.2.1==([]:List UInt8)))||decide (c.1>4611686018427387903- (c.2.1.length:Int)))
   ·simp only[Bool.or_eq_false_iff,decide_eq_false_iff_not]at hx
    rw[cond_false]
    unfold Zo2
    rw[Option.bind_some]
    simp only
    rw[Zv (n:=c.1+ (c.2.1.length:Int)) (by omega) (by omega),Zv (by omega) (by omega),Q1y l hl ht N (i+1) (c.1+ (c.2.1.length:Int)) (by omega) (by omega) (by omega) (by omega)]
    simp
   ·rfl
  ·rw[Zi (Zk (by omega)),List.drop_eq_nil_of_le (by omega)];rfl
theorem Qt7(n:Int):Xs n=some (Zsw n,()):=rfl
theorem Qgd{K:Nat}{b:Z4}(h:Zoy K b)(hK:K≤1000000):Zjl b=some (Zvv b,()):=by
 have hl:=h.len
 have ht:=h.tot
 unfold Zjl Zvv
 rw[Qt7,Option.bind_some]
 cases hq:Zsw b.1
 ·simp
 ·have hq:=Z3p.1 hq
  rw[Zv (n:=b.1-1) (by omega) (by omega)]
  have:=Q1y b.2.1 (by omega) (by omega) (Zeq b.1 b.2.1 (b.2.1.length:Int) 0) 0 (b.1-1) (by unfold Zeq;omega) (by omega) (by omega) (by omega)
  simp only[Int.natCast_zero,List.drop_zero,Int.sub_add_cancel]at this
  rw[Bool.not_true,cond_false,this,Bool.and_true]
theorem Q65{K:Nat}{b:Z4}(h:Zoy K b)(hK:K≤1000000):Zxy b=Zqo b:=by
 have hl:=h.len
 unfold Zxy Zqo
 rw[Qgd h hK,Zmx b (by omega),Option.bind_some]
 cases hz: ((b.2.1.length:Int)==0)
 ·cases Zvv b
  ·rfl
  ·rfl
 ·cases Zvv b<;>rfl
theorem Qwu{K:Nat}{b:Z4}(h:Zoy K b)(hK:K≤1000000):Zne b=Wv b:=by
 have hl:=h.len
 unfold Zne Wv
 rw[Qgd h hK,Zmx b (by omega)]
theorem Qiz{K:Nat}{r:Qh}(h:Zoy K r.2.1)(hK:K≤1000000):Zis r=Yh r:=by
 have hl:=h.len
 obtain⟨v,hv⟩:=Q6f h hK
 unfold Zis Yh Zvz
 rw[Qgd h hK,Zmx _ (by omega),Q65 h hK,hv,Qwu h hK,Zyk _ (by omega)]
 simp only[Qt7,Zcx,Qek,Option.bind_some]
 generalize Zvv r.2.1=b1
 cases b1
 ·cases r.2.2.1 !=(-1:Int)<;>rfl
 simp only[Bool.not_true,cond_false,Option.bind_some,Bool.false_or]
 cases hq:Zsw r.2.2.2.1
 ·by_cases h1:v>r.2.2.2.1
  ·rw[Zj h1]
   cases r.2.2.1 !=(-1:Int)<;>rfl
  ·rw[Zk h1]
   cases r.2.2.1 !=(-1:Int)<;>rfl
 have hq:=Z3p.1 hq
 simp only[Bool.not_true,cond_false,Option.bind_some,Bool.false_or]
 by_cases h1:v>r.2.2.2.1
 ·rw[Zj h1]
  cases r.2.2.1 !=(-1:Int)<;>rfl
 rw[Zk h1]
 simp only[cond_false,Option.bind_some,Bool.false_or]
 cases hc:Zsw r.2.2.2.2.1
 ·cases r.2.2.1 !=(-1:Int)<;>rfl
 simp only[Bool.not_true,cond_false,Option.bind_some,Bool.false_or]
 have e: ((r.2.2.1 != -1)&& (!(decide (r.2.2.1≥r.2.2.2.1)&&decide (r.2.2.1≤4611686018427387903))))=((((r.2.2.1 != -1)&& (decide (r.2.2.1<r.2.2.2.1)))|| (decide (r.2.2.1>4611686018427387903)))|| (decide (r.2.2.1< -1))):=by
  rw[Bool.eq_iff_iff]
  simp only[Bool.and_eq_true,bne_iff_ne,ne_eq,Bool.not_eq_true',Bool.and_eq_false_iff,decide_eq_false_iff_not,Bool.or_eq_true,decide_eq_true_eq]
  omega
 by_cases hf:r.2.2.1= -1
 ·rw[hf]
  have e2: ((-1:Int)==r.2.2.2.1)=false:=by rw[beq_eq_false_iff_ne];omega
  have j: ∀b,Vf r b=Y7 r b:=fun b=>by
   unfold Vf Y7
   rw[hf,e2];rfl
  simp only[j]
  rfl
 ·have hn: (r.2.2.1 != -1)=true:=by simpa using hf
  rw[hn]at e⊢
  simp only[cond_true,Option.bind_some,Bool.true_and]at e⊢
  rw[e]
  have j: ∀b,Vf r b=Y7 r b:=fun b=>by
   unfold Vf Y7
   rw[hn]
   have: (r.2.2.1==r.2.2.2.1)=(r.2.2.2.1==r.2.2.1):=by rw[Bool.eq_iff_iff];simp only[beq_iff_eq];exact eq_comm
   rw[this];rfl
  simp only[j]
  generalize ((((decide (r.2.2.1<r.2.2.2.1)))|| (decide (r.2.2.1>4611686018427387903)))|| (decide (r.2.2.1< -1)))=c
  cases c
  ·simp only[cond_false]
   congr 1
   congr 1
   congr 1
   congr 1
   congr 2
   ac_rfl
  ·rfl
theorem Qsd(c:Zeo):Zqx c=Y0 c:=rfl
theorem Qse(w:Jq):Zq1 w=J5 w:=rfl
theorem Qv9(p:Xl):Zr7 p=Zca p:=rfl
theorem bO{β:Type}{c b:Bool}{f:Bool×Unit→Option β}:Option.bind (bif c then some (false,())else some (b,())) f=f (!c&&b,()):=by cases c<;>rfl
theorem bO2{c b:Bool}: (c|| !(!c&&b))=(c|| !b):=by cases c<;>rfl
theorem bA{β:Type}{c b:Bool}{f:Bool×Unit→Option β}:Option.bind (bif c then some (b,())else some (false,())) f=f (c&&b,()):=by cases c<;>rfl
theorem bA2{c b:Bool}: (c&& (c&&b))=(c&&b):=by cases c<;>rfl
theorem Qgg{K:Nat}{s:Zn}(h:Jn K s)(hK:K≤1000000):Zmv s=J4 s:=by
 obtain⟨b1,e1,-⟩:=Ze1 h.snd (by omega)
 obtain⟨b2,e2⟩:=Ziu s.2.2.1
 obtain⟨b3,e3⟩:=Zkq h.rcv hK
 obtain⟨b4,e4⟩:=Zo9 s.2.2.2.2.1
 obtain⟨b5,e5⟩:=Ztu s.2.2.2.2.2.1
 unfold Zmv J4
 simp only[Q0u h.snd (by omega),Qiz h.rcv hK,Qsd,Qse,Qv9,e1,e2,e3,e4,e5,Zcx,Qt7,Option.bind_some,bO,bO2]
 have n1: (s.2.1.1 !=0)= !(s.2.1.1==0):=rfl
 have n2: (s.2.1.2.1.2.2.1 !=0)= !(s.2.1.2.1.2.2.1==0):=rfl
 have n3: (s.2.1.2.2.2.2.2.1 != -1)= !(s.2.1.2.2.2.2.2.1== -1):=rfl
 rw[n1,n2,n3]
 generalize Zsw s.1=q1
 generalize Zsw _=q2
 generalize (s.2.1.1==0)=x1
 generalize (s.2.1.2.1.2.2.1==0)=x2
 generalize (s.2.1.2.2.2.2.2.1== -1)=x3
 generalize decide (s.2.1.2.2.2.2.2.2.2.1>s.2.2.1.2.1)=a1
 generalize decide (s.2.2.2.1.2.2.2.1>s.2.2.2.2.1.2.2.2.1)=a2
 generalize (s.2.2.2.2.2.2.2.2.1&& (s.2.1.1 !=4))=a3
 generalize (s.2.2.2.2.2.2.2.2.2.1&& !s.2.2.2.2.2.2.2.2.2.2.2.1)=a4
 generalize ((s.2.2.2.2.2.2.2.2.2.2.2.2.1 !=0)&& !s.2.2.2.2.2.2.2.2.2.2.2.1)=a5
 generalize (((s.2.2.2.1.1==0)&& (s.2.2.2.1.2.2.2.1==0))&& !s.2.2.2.2.2.2.2.2.2.2.2.1)=a6
 generalize s.2.2.2.2.2.2.1=cs
 generalize s.2.2.2.2.2.2.2.1=cr
 cases q1
 ·rfl
 cases b1
 ·cases q2<;>rfl
 cases b2
 ·cases q2<;>rfl
 cases b3
 ·cases q2<;>rfl
 cases b4
 ·cases q2<;>rfl
 cases b5
 ·cases q2<;>rfl
 cases q2
 ·rfl
 clear e1 e2 e3 e4 e5 n1 n2 n3 h
 revert x1 x2 x3 a1 a2 a3 a4 a5 a6 cs cr
 decide
def rgT(r:Zd):List UInt8:=Go.Lib.itoa r.1++ (([45]:List UInt8)++Go.Lib.itoa r.2.1)
def Q3u:List Zd→List UInt8
 | []=>[]
 |r::l=>[32]++ (rgT r++Q3u l)
def Quq:List Zd→List UInt8
 | []=>[110,111,110,101]
 |r::l=>rgT r++Q3u l
def r64(r:Zd):Prop:=(-9223372036854775808≤r.1∧r.1≤9223372036854775807)∧(-9223372036854775808≤r.2.1∧r.2.1≤9223372036854775807)
theorem Qz0{r:Zd}(h:r64 r): (rgT r).length≤43:=by
 have:=Z1g r.1 h.1.1 h.1.2
 have:=Z1g r.2.1 h.2.1 h.2.2
 simp only[rgT,List.length_append,List.length_singleton];omega
theorem Xae(r:Zd):rgT r≠[]:=by simp[rgT]
theorem Q6p: ∀{l:List Zd},(∀x∈l,r64 x)→(Quq l).length≤44*l.length+4
 | [],_=>by simp[Quq]
 |r::l,h=>by
  have g: ∀{l:List Zd},(∀x∈l,r64 x)→(Q3u l).length≤44*l.length:=by
   intro l
   induction l with
   |nil=>intro _;simp[Q3u]
   |cons x l ih=>
    intro h
    have h1:=Qz0 (h x (by simp))
    have h2:=ih fun y hy=>h y (by simp[hy])
    simp only[Q3u,List.length_append,List.length_cons,List.length_nil];omega
  have h1:=Qz0 (h r (by simp))
  have h2:=g (l:=l) fun y hy=>h y (by simp[hy])
  simp only[Quq,List.length_append,List.length_cons];omega
theorem Q1d{K:Nat}{r:Qh}(h:Zoy K r.2.1)(hK:K≤1000000):T (Yh r) fun q=>q.1=true→Zvv r.2.1=true:=by
 obtain⟨b,e⟩:=Zkq h hK
 refine⟨_,e,fun hb=> ?_⟩
 by_cases hx:Zvv r.2.1=true
 ·exact hx
 ·have hx:Zvv r.2.1=false:=by simpa using hx
  unfold Yh at e
  rw[Zmx _ (by have:=h.len;omega),hx]at e
  simp only[Option.bind_some,Bool.not_false,cond_true,Bool.true_or]at e
  cases e
  cases hb
theorem Q8o{K:Nat}{s:Zn}(h:Jn K s)(hK:K≤1000000):T (J4 s) fun r=>r.1=true→Zsw s.1=true∧Zvv s.2.2.2.1.2.1=true∧0≤s.2.1.2.2.2.2.2.2.2.1∧s.2.1.2.2.2.2.2.2.2.1≤s.2.1.2.1.2.2.1:=by
 obtain⟨b1,e1,f1⟩:=Ze1 h.snd (by omega)
 obtain⟨b2,e2⟩:=Ziu s.2.2.1
 obtain⟨⟨b3,⟨⟩⟩,e3,f3⟩:=Q1d h.rcv hK
 obtain⟨b4,e4⟩:=Zo9 s.2.2.2.2.1
 obtain⟨b5,e5⟩:=Ztu s.2.2.2.2.2.1
 unfold J4
 simp only[e1,e2,e3,e4,e5,Zcx,Option.bind_some,bO,bO2]
 refine T.ite (fun _=>T.pure fun h=>by cases h) fun hc=> ?_
 have:Zsw s.1=true∧b1=true∧b3=true:=by
  simp only[Bool.or_eq_false_iff,Bool.not_eq_false']at hc
  exact⟨hc.1.1.1.1.1.1.1,hc.1.1.1.1.1.1.2,hc.1.1.1.1.2⟩
 have q:Zsw s.1=true∧Zvv s.2.2.2.1.2.1=true∧0≤s.2.1.2.2.2.2.2.2.2.1∧s.2.1.2.2.2.2.2.2.2.1≤s.2.1.2.1.2.2.1:=⟨this.1,f3 this.2.2,(f1 this.2.1).2⟩
 exact T.ite (fun _=>T.pure fun _=>q) fun _=>T.pure fun _=>q
theorem Q9z{E:Int}{l:List Zd}(h:RL E l): ∀x∈l,r64 x:=fun x hx=>by
 have:=Q2.1 (Zvo h.1 x hx).2
 unfold r64;omega
def Q6k(l:List UInt8):Prop:=l.length≤100000000
theorem Q90{a b:List UInt8}{n:Nat}(ha:a.length≤n)(hb:Q6k b)(hn:n≤10000000000):a.length+b.length≤W9∧(a++b).length≤n+100000000:=by
 unfold Q6k at hb
 unfold W9
 exact⟨by omega,by simp only[List.length_append];omega⟩
theorem Q43(c:Zo0):Zrv c=Zbk c:=by
 unfold Zrv Zbk Zit Za8
 have e1:decide (c.1≥1)=decide (c.1>0):=by congr 1
 simp only[Qek,Zrw,Option.bind_some,bA,bA2,e1]
 congr 2
 ac_rfl
theorem Q23(c:Zjp):Zs1 c=Za5 c:=rfl
theorem Q21(c:Zeo):Zs0 c=We c:=rfl
theorem Qmn{K:Nat}{l:List Zn}(h:Zrp K l)(hK:K≤1000000)(h24:l.length≤24): ∀(N i:Nat),l.length-i<N→i≤l.length→Ve N l l (l.length:Int) (i:Int)=X6 N l (i:Int)
 |0,_,h,_=>by omega
 |N+1,i,hN,hi=>by
  rw[Ve,X6]
  by_cases hh:i<l.length
  ·have g: ∀{a:Prop},a→decide ((i:Int)>0)=true→0≤IntKind.i64.wrap ((i:Int)-1)∧IntKind.i64.wrap ((i:Int)-1)< (l.length:Int):=fun _ h=>by
    have:=of_decide_eq_true h;rw[Zv (by omega) (by omega)];omega
   obtain⟨b,e⟩:=Zwh (h.all _ (Qx (d:=Zz) hh)) hK
   rw[Zm (Zj (p:=(i:Int)< (l.length:Int)) (by omega)),Zm (Zj (p:=(i:Int)< (l.length:Int)) (by omega)),Zc (by omega),Zc (by omega),show(i:Int).toNat=i from rfl,Qgg (h.all _ (Qx (d:=Zz) hh)) hK,Zk (p:=(i:Int)≥24) (by omega),cond_false,e,Option.bind_some,Option.bind_some]
   simp only[Bool.false_or]
   rw[Zc (fun h h2=>g h h2),Zc (fun h h2=>g h h2),Zc (fun _ _=>by omega),Zo hh (by omega),Qmn h hK h24 N (i+1) (by omega) (by omega)]
  ·rw[Zi (Zk (by omega)),Zi (Zk (by omega)),Zj (by omega)]
theorem Qu9{K:Nat}{l:List Zn}(h:Zrp K l)(hK:K≤1000000)(h24:24<l.length): ∀(N i:Nat),24-i<N→i≤24→Ve N l l (l.length:Int) (i:Int)=some (false,())
 |0,_,h,_=>by omega
 |N+1,i,hN,hi=>by
  have hl:=h.len
  rw[Ve,Zm (Zj (by omega)),Zc (by omega)]
  have hh:i<l.length:=by omega
  have g: ∀{a:Prop},a→decide ((i:Int)>0)=true→0≤IntKind.i64.wrap ((i:Int)-1)∧IntKind.i64.wrap ((i:Int)-1)< (l.length:Int):=fun _ h=>by
   have:=of_decide_eq_true h;rw[Zv (by omega) (by omega)];omega
  by_cases h4:i=24
  ·rw[Zj (p:=(i:Int)≥24) (by omega),cond_true,Option.bind_some]
   simp only[Bool.true_or]
   rw[Zc (fun h h2=>g h h2),cond_true]
  ·obtain⟨b,e⟩:=Zwh (h.all _ (Qx (d:=Zz) hh)) hK
   rw[show(i:Int).toNat=i from rfl,Zk (p:=(i:Int)≥24) (by omega),cond_false,Qgg (h.all _ (Qx (d:=Zz) hh)) hK,e,Option.bind_some,Zo hh (by omega),Qu9 h hK h24 N (i+1) (by omega) (by omega)]
   simp only[Bool.false_or]
   rw[Zc (fun h h2=>g h h2)]
   generalize (!b||_)=c
   cases c<;>rfl
theorem Z0r{K:Nat}{l:List Zn}(h:Zrp K l)(hK:K≤1000000):Zb6 l=Yu l:=by
 by_cases h24:l.length≤24
 ·unfold Zb6 Yu
  exact Qmn h hK h24 _ 0 (by unfold Zbs;omega) (by omega)
 ·obtain⟨⟨b,u⟩,e,hb⟩:=Qio h hK
  have:b=false:=by
   cases b
   ·rfl
   ·exact absurd (hb rfl) h24
  rw[e,this]
  unfold Zb6
  exact Qu9 h hK (by omega) _ 0 (by unfold Zbs;omega) (by omega)
theorem Qp8{K:Nat}{l:List Zn}(h:Zrp K l)(hK:K≤1000000):Zko l=Zeg l:=by
 obtain⟨b,e⟩:=Zn2 h hK
 have hl:=h.len
 have lp:b=true→ ∀(N i:Nat) (n:Int),l.length-i<N→i≤l.length→ ∃v,Yz N () n l (l.length:Int) (i:Int)=some (v,())∧Jw N l n (i:Int)=some (v,()):=by
  intro hb N
  induction N with
  |zero=>intro i n h;omega
  |succ N ih=>
   intro i n hN hi
   rw[Yz,Jw,e,hb]
   by_cases hh:i<l.length
   ·rw[Zj (by omega),cond_true,cond_true,Option.bind_some,Zc (by omega)]
    simp only[Bool.and_self,cond_true]
    rw[Zc (by omega),Zo hh (by omega)]
    exact ih (i+1) _ (by omega) (by omega)
   ·rw[Zk (by omega)]
    exact⟨n,rfl,rfl⟩
 unfold Zko Zcw Zeg
 rw[Z0r h hK,e]
 cases b
 ·rw[Y9,Jw,e]
  by_cases hh:0<l.length
  ·rw[Zj (by omega)];rfl
  ·rw[Zk (by omega)];rfl
 ·obtain⟨v,h1,h2⟩:=lp rfl (Y9 l 0 0) 0 0 (by unfold Y9;omega) (by omega)
  obtain⟨v',h3,h4⟩:=lp rfl (Xt () 0 l (l.length:Int) 0) 0 0 (by unfold Xt;omega) (by omega)
  have e2:Xt () 0 l (l.length:Int) 0=Y9 l 0 0:=rfl
  rw[Int.natCast_zero]at h1 h2 h3 h4
  rw[e2]at h3⊢
  simp only[Option.bind_some,Bool.not_true,cond_false,h1,h2]
theorem Qp7{K:Nat}{l:List Zn}(h:Zrp K l)(hK:K≤1000000):Zkn l=Zef l:=by
 obtain⟨b,e⟩:=Zn2 h hK
 have hl:=h.len
 have lp:b=true→ ∀(N i:Nat) (n:Int),l.length-i<N→i≤l.length→ ∃v,Yy N () n l (l.length:Int) (i:Int)=some (v,())∧Jv N l n (i:Int)=some (v,()):=by
  intro hb N
  induction N with
  |zero=>intro i n h;omega
  |succ N ih=>
   intro i n hN hi
   rw[Yy,Jv,e,hb]
   by_cases hh:i<l.length
   ·rw[Zj (by omega),cond_true,cond_true,Option.bind_some,Zc (by omega)]
    simp only[Bool.and_self,cond_true]
    rw[Zc (by omega),Zo hh (by omega)]
    exact ih (i+1) _ (by omega) (by omega)
   ·rw[Zk (by omega)]
    exact⟨n,rfl,rfl⟩
 unfold Zkn Zcv Zef
 rw[Z0r h hK,e]
 cases b
 ·rw[Y8,Jv,e]
  by_cases hh:0<l.length
  ·rw[Zj (by omega)];rfl
  ·rw[Zk (by omega)];rfl
 ·obtain⟨v,h1,h2⟩:=lp rfl (Y8 l 0 0) 0 0 (by unfold Y8;omega) (by omega)
  have e2:J2 () 0 l (l.length:Int) 0=Y8 l 0 0:=rfl
  rw[Int.natCast_zero]at h1 h2
  rw[e2]
  simp only[Option.bind_some,Bool.not_true,cond_false,h1,h2]
theorem Qr9{l:List Zh}(h:Qqs l)(u:Unit): ∀(N i:Nat),l.length-i<N→i≤l.length→ ∃k b,Qb N l u (l.length:Int) (i:Int)=some (k,())∧decide (k≥0)= !b∧Wh N l (i:Int)=some (b,())
 |0,_,h,_=>by omega
 |N+1,i,hN,hi=>by
  have hl:=h.1
  rw[Qb,Wh]
  by_cases hh:i<l.length
  ·have hm:=h.2 _ (Qx (d:=Xr) hh)
   unfold FOK at hm
   unfold Zo4
   rw[Zm (Zj (by omega)),Zm (Zj (by omega)),Zc (by omega),Zc (by omega),show(i:Int).toNat=i from rfl,Qt6 _ (by omega),Qdn _ (by omega),Option.bind_some,Option.bind_some,Option.bind_some,Zo hh (by omega)]
   obtain⟨k,b,h1,h2,h3⟩:=Qr9 h () N (i+1) (by omega) (by omega)
   cases hc:Znb (l.getD i Xr)
   ·exact⟨_,false,rfl,by simp,rfl⟩
   ·exact⟨k,b,h1,h2,h3⟩
  ·rw[Zi (Zk (by omega)),Zi (Zk (by omega))];exact⟨_,true,rfl,by simp,rfl⟩
theorem Q4u{l:List Zh}(h:Qqs l): ∃b,Qk l=some (!b,())∧Zhn l=some (b,()):=by
 unfold Qk Xi Zhn
 obtain⟨k,b,h1,h2,h3⟩:=Qr9 h () (Jm l 0) 0 (by unfold Jm;omega) (by omega)
 have e2:Q0 l () (l.length:Int) 0=Jm l 0:=rfl
 rw[Int.natCast_zero]at h1 h3
 exact⟨b,by rw[e2,h1,Option.bind_some,h2],h3⟩
theorem Zx3{K:Nat}{c:Zg}(h:Qa K c)(hK:K≤1000000):Zbd c=Z6 c:=by
 obtain⟨sv,es⟩:=Zwy h.str hK
 obtain⟨nv,en⟩:=Zwx h.str hK
 have hl:=h.pk.1
 obtain⟨r1,w1⟩: ∃r,Zu c.2.2.2.2.2.2.2.2.2.2.2.2.2.1 (-1) 4611686018427387903=some (r,()):=⟨_,rfl⟩
 obtain⟨r2,w2⟩: ∃r,Zu c.2.2.2.2.2.2.2.2.2.2.2.2.2.2.1 0 1000000=some (r,()):=⟨_,rfl⟩
 obtain⟨r3,w3⟩: ∃r,Zu c.2.2.2.2.2.2.2.2.2.2.2.2.2.2.2.2.1 0 1000000=some (r,()):=⟨_,rfl⟩
 obtain⟨r4,w4⟩: ∃r,Zu c.2.2.2.2.2.2.2.2.2.2.2.2.2.2.2.2.2.1 0 255=some (r,()):=⟨_,rfl⟩
 have v1:Z3 c.2.2.2.2.2.2.2.2.2.2.2.2.2.1 (-1) 4611686018427387903=some (r1,()):=w1
 have v2:Z3 c.2.2.2.2.2.2.2.2.2.2.2.2.2.2.1 0 1000000=some (r2,()):=w2
 have v3:Z3 c.2.2.2.2.2.2.2.2.2.2.2.2.2.2.2.2.1 0 1000000=some (r3,()):=w3
 have v4:Z3 c.2.2.2.2.2.2.2.2.2.2.2.2.2.2.2.2.2.1 0 255=some (r4,()):=w4
 have lp: ∀(N i:Nat),c.2.2.2.2.2.2.2.2.2.2.2.2.2.2.2.1.length-i<N→i≤c.2.2.2.2.2.2.2.2.2.2.2.2.2.2.2.1.length→ ∃p,Zdn N c.2.2.2.2.2.2.2.2.2.2.2.2.2.2.2.1 c.2.2.2.2.2.2.2.2.2.2.2.2.2.2.1 c.2.2.2.2.2.2.2.2.2.2.2.2.2.2.2.1 (c.2.2.2.2.2.2.2.2.2.2.2.2.2.2.2.1.length:Int) (i:Int)=some (p,())∧
   K7 N c (i:Int)=some (p&& (((((r1&&r2)&&r3)&&r4)&&decide (sv≤c.2.2.2.2.1.2.1))&&decide (nv≤c.2.2.2.2.2.1.2.2.2.1)),()):=by
  intro N
  induction N with
  |zero=>intro i h;omega
  |succ N ih=>
   intro i hN hi
   rw[Zdn,K7]
   by_cases hh:i<c.2.2.2.2.2.2.2.2.2.2.2.2.2.2.2.1.length
   ·have g: ∀{a:Prop},a→decide ((i:Int)>0)=true→0≤IntKind.i64.wrap ((i:Int)-1)∧IntKind.i64.wrap ((i:Int)-1)< (c.2.2.2.2.2.2.2.2.2.2.2.2.2.2.2.1.length:Int):=fun _ h=>by
     have:=of_decide_eq_true h;rw[Zv (by omega) (by omega)];omega
    obtain⟨b,f1,f2⟩:=Q4u (h.pk.2 _ (Qx (d:=Qz) hh))
    rw[Zm (Zj (by omega)),Zm (Zj (by omega)),Zc (by omega),Zc (by omega),show(i:Int).toNat=i from rfl,Qek,Zrw,f1,f2,Option.bind_some,Option.bind_some,Zc (fun h h2=>g h h2),Zc (fun _ _=>by omega),Zc (fun h h2=>g h h2)]
    simp only
    rw[Zc (fun _=>by omega),Zo hh (by omega)]
    obtain⟨p,k1,k2⟩:=ih (i+1) (by omega) (by omega)
    rw[k1,k2]
    generalize (!(_&&_)||_:Bool)=q
    cases q
    ·cases b
     ·exact⟨false,rfl,rfl⟩
     ·exact⟨p,rfl,rfl⟩
    ·exact⟨false,rfl,rfl⟩
   ·rw[Zi (Zk (by omega)),Zi (Zk (by omega))]
    refine⟨true,rfl,?_⟩
    simp only[w1,w2,w3,w4,Option.bind_some,bA,bA2,es,en,Bool.true_and]
    generalize (((r1&&r2)&&r3)&&r4)=q
    cases q
    ·rfl
    ·simp only[cond_true,Option.bind_some,Bool.true_and]
     by_cases hs:sv≤c.2.2.2.2.1.2.1
     ·rw[Zj hs];rfl
     ·rw[Zk hs];rfl
 obtain⟨p,k1,k2⟩:=lp (Kj c 0) 0 (by unfold Kj;omega) (by omega)
 have e2:Zgn c.2.2.2.2.2.2.2.2.2.2.2.2.2.2.2.1 c.2.2.2.2.2.2.2.2.2.2.2.2.2.2.1 c.2.2.2.2.2.2.2.2.2.2.2.2.2.2.2.1 (c.2.2.2.2.2.2.2.2.2.2.2.2.2.2.2.1.length:Int) 0=Kj c 0:=rfl
 rw[Int.natCast_zero]at k1 k2
 obtain⟨b1,e1⟩:=Zo8 c.2.1
 obtain⟨b2,e2'⟩:=Zo8 c.2.2.1
 obtain⟨b3,e3⟩:=Zn2 h.str hK
 obtain⟨b4,e4⟩:=Ziu c.2.2.2.2.1
 obtain⟨b5,e5⟩:=Zo9 c.2.2.2.2.2.1
 obtain⟨b6,e6⟩:=Zu1 c.2.2.2.2.2.2.1
 obtain⟨b7,e7⟩:=Zu1 c.2.2.2.2.2.2.2.1
 obtain⟨b8,e8⟩:=Zq4 c.2.2.2.2.2.2.2.2.1
 obtain⟨b9,e9⟩:=Zq4 c.2.2.2.2.2.2.2.2.2.1
 unfold Zbd Z6 Zsb
 simp only[Q43,Z0r h.str hK,Qsd,Qse,Q23,Q21,Qp8 h.str hK,Qp7 h.str hK,e1,e2',e3,e4,e5,e6,e7,e8,e9,e2,k1,k2,es,en,v1,v2,v3,v4,Option.bind_some,bO,bO2]
 cases b1
 ·rfl
 cases b2
 ·rfl
 cases b3
 ·rfl
 cases b4
 ·rfl
 cases b5
 ·rfl
 cases b6
 ·rfl
 cases b7
 ·rfl
 cases b8
 ·rfl
 cases b9
 ·rfl
 simp only[Bool.not_true,Bool.or_self,cond_false]
 cases p
 ·cases r1<;>cases r2<;>cases r3<;>cases r4<;>rfl
 simp only[cond_true,Option.bind_some,Bool.true_and]
 by_cases hs:sv≤c.2.2.2.2.1.2.1
 ·rw[Zj hs]
  cases r1<;>cases r2<;>cases r3<;>cases r4<;>rfl
 ·rw[Zk hs]
  cases r1<;>cases r2<;>cases r3<;>cases r4<;>rfl
theorem Qze(c:Zeo):T (Y0 c) fun r=>r.1=true→0≤c.2.1∧c.2.1≤c.1∧c.1≤4611686018427387903:=by
 unfold Y0
 simp only[Zcx,Zrw,Option.bind_some,bA,bA2]
 refine T.pure fun h=> ?_
 simp only[Bool.and_eq_true,Z3p,decide_eq_true_eq]at h
 omega
theorem Q55(w:Jq):T (J5 w) fun r=>r.1=true→0≤w.2.2.2.1∧w.2.2.2.1≤w.2.2.1∧w.2.2.1≤4611686018427387903:=by
 unfold J5
 have B: ∀{b:Bool} {n l h:Int} {β:Type} {f:Bool×Unit→Option β} {R:β→Prop},(∀r:Bool×Unit,(r.1=true→l≤n∧n≤h)→T (f r) R)→T (Option.bind (bif b then Zu n l h else some (false,())) f) R:=fun k=>T.bind (T.if (inT _ _ _) (T.pure fun h=>by cases h)) k
 exact(inT _ _ _).bind fun t1 h1=>B fun t2 h2=>B fun t3 h3=>B fun t4 h4=>B fun t5 h5=>B fun t6 h6=>T.pure fun h=>by
  simp only[Bool.and_eq_true]at h
  have:=h3 h.1.1.1.1.2
  have:=h4 h.1.1.1.2
  omega
theorem Q6e(c:Zeo):T (Ze5 c) fun r=>0≤r.1∧r.1≤4611686018427387903:=by
 unfold Ze5
 refine(Qze c).bind fun t ht=>T.ite (fun _=>T.pure (by simp)) fun h=>T.pure ?_
 have:=ht (by simpa using h)
 simp only
 rw[Zv (by omega) (by omega)];omega
theorem Q6c{K:Nat}{c:Zg}(h:Qa K c)(hK:K≤1000000)(u:Unit)(e:Z6 c=some (true,u)):0≤c.2.2.2.2.2.2.2.2.2.2.2.2.2.2.2.2.2.1∧c.2.2.2.2.2.2.2.2.2.2.2.2.2.2.2.2.2.1≤255:=by
 have lp: ∀(N i:Nat),c.2.2.2.2.2.2.2.2.2.2.2.2.2.2.2.1.length-i<N→i≤c.2.2.2.2.2.2.2.2.2.2.2.2.2.2.2.1.length→T (K7 N c (i:Int)) fun r=>r.1=true→0≤c.2.2.2.2.2.2.2.2.2.2.2.2.2.2.2.2.2.1∧c.2.2.2.2.2.2.2.2.2.2.2.2.2.2.2.2.2.1≤255:=by
  intro N
  induction N with
  |zero=>intro i h;omega
  |succ N ih=>
   intro i hN hi
   have hl:=h.pk.1
   unfold K7
   refine T.ite (fun hc=> ?_) fun _=> ?_
   ·have hc:=of_decide_eq_true hc
    refine T.guard (by omega) ((tIn _ _ _).bind fun t _=>T.guard (fun _ _=>by omega) (T.guard (fun _ h=> ?_) (T.guard (fun _=>by omega) (T.bind (Q:=fun _=>True) (T.if T.tt (Qgh (h.pk.2 _ (Qx (by omega))))) fun t2 _=>T.if (T.pure fun h=>by cases h) ?_))))
    ·have:=of_decide_eq_true h
     rw[Zv (by omega) (by omega)];omega
    ·rw[Zo (m:=c.2.2.2.2.2.2.2.2.2.2.2.2.2.2.2.1.length) (by omega) (by omega)]
     exact ih (i+1) (by omega) (by omega)
   ·exact(tIn _ _ _).bind fun t _=>T.bind (Q:=fun _=>True) (T.if (tIn _ _ _) T.tt) fun t _=>T.bind (Q:=fun _=>True) (T.if (tIn _ _ _) T.tt) fun t _=>T.bind (T.if (inT _ _ _) (T.pure fun h=>by cases h)) fun t ht=>
     T.bind (Q:=fun _=>True) (T.if (tt1 (Zwy h.str hK)) T.tt) fun t _=>T.bind (Q:=fun _=>True) (T.if (tt1 (Zwx h.str hK)) T.tt) fun t _=>T.pure fun h=>ht (by simp only[Bool.and_eq_true]at h;exact h.1.1.2)
 have key:T (Z6 c) fun r=>r.1=true→0≤c.2.2.2.2.2.2.2.2.2.2.2.2.2.2.2.2.2.1∧c.2.2.2.2.2.2.2.2.2.2.2.2.2.2.2.2.2.1≤255:=by
  unfold Z6
  have B: ∀{α β:Type} {b:Bool} {m n:Option α} {f:α→Option β} {R:β→Prop},TT m→TT n→(∀y,T (f y) R)→T (Option.bind (bif b then m else n) f) R:=fun h1 h2 h3=>(T.if h1 h2).bind fun y _=>h3 y
  exact(tt1 (Zo8 _)).bind fun t _=>B T.tt (tt1 (Zo8 _)) fun t=>B T.tt (tt1 (Zn2 h.str hK)) fun t=>B T.tt (tt1 (Ziu _)) fun t=>B T.tt (tt1 (Zo9 _)) fun t=>B T.tt (tt1 (Zu1 _)) fun t=>B T.tt (tt1 (Zu1 _)) fun t=>B T.tt (tt1 (Zq4 _)) fun t=>B T.tt (tt1 (Zq4 _)) fun t=>
   T.if (T.pure fun h=>by cases h) (lp _ 0 (by unfold Kj;omega) (by omega))
 obtain⟨y,e1,h1⟩:=key
 rw[e]at e1
 cases e1
 exact h1 rfl
def fok(f:Zh):Prop:=f.2.2.2.1.length≤1048576
def Xan(s:List UInt8):Option (List UInt8×Unit):=bif s==([]:List UInt8)then some (([110,111,110,101]:List UInt8),())else some (s,())
def Q87(x:Zki):List UInt8:=(Go.Lib.itoa x.1++ ([58]:List UInt8))++Go.Lib.itoa (x.2.1.length:Int)
def lok(x:Zki):Prop:=(-9223372036854775808≤x.1∧x.1≤9223372036854775807)∧x.2.1.length≤1048576
theorem Q88(x:Zki)(h:lok x): (Q87 x).length≤43:=by
 have l1:=Z1g x.1 h.1.1 h.1.2
 have l2:=Z1g (x.2.1.length:Int) (by omega) (by have:=h.2;omega)
 unfold Q87
 simp only[List.length_append,List.length_cons,List.length_nil];omega
theorem orQ{a b:Int}{n:Nat}(hn:n≤62)(ha:0≤a)(ha':a< (2^n:Nat))(hb:0≤b)(hb':b< (2^n:Nat)):0≤bits .or .i64 a b∧bits .or .i64 a b< (2^n:Nat):=by
 have h:bits .or .i64 a b=IntKind.i64.wrap (((BitVec.ofInt 64 a|||BitVec.ofInt 64 b).toNat:Nat):Int):=rfl
 have hp:2^n≤2^62:=Nat.pow_le_pow_right (by omega) hn
 have e: ∀x:Int,0≤x→x< (2^n:Nat)→(BitVec.ofInt 64 x).toNat=x.toNat:=fun x h0 h1=>by
  rw[BitVec.toNat_ofInt]
  have: ((2^n:Nat):Int)≤((2^62:Nat):Int):=by exact_mod_cast hp
  rw[Int.emod_eq_of_lt h0 (by omega)]
 have hl: (BitVec.ofInt 64 a|||BitVec.ofInt 64 b).toNat<2^n:=by
  rw[BitVec.toNat_or,e a ha ha',e b hb hb']
  exact Nat.or_lt_two_pow (by omega) (by omega)
 rw[h,Zv (by omega) (by omega)]
 constructor
 ·omega
 ·exact_mod_cast hl
theorem Q8y(b:UInt8):0≤IntKind.i64.wrap (bits .and .u8 (b.toNat:Int) 63)∧IntKind.i64.wrap (bits .and .u8 (b.toNat:Int) 63)<64:=by
 have h:bits .and .u8 (b.toNat:Int) 63=IntKind.u8.wrap (((BitVec.ofInt 8 (b.toNat:Int)&&&BitVec.ofInt 8 63).toNat:Nat):Int):=rfl
 have hl: (BitVec.ofInt 8 (b.toNat:Int)&&&BitVec.ofInt 8 63).toNat≤63:=by
  rw[BitVec.toNat_and]
  exact Nat.le_trans Nat.and_le_right (by decide)
 have hu:IntKind.u8.wrap (((BitVec.ofInt 8 (b.toNat:Int)&&&BitVec.ofInt 8 63).toNat:Nat):Int)=(((BitVec.ofInt 8 (b.toNat:Int)&&&BitVec.ofInt 8 63).toNat:Nat):Int):=by
  simp only[IntKind.wrap,IntKind.bits,IntKind.signed,Bool.false_and,Bool.false_eq_true,if_false]
  omega
 rw[h,hu,Zv (by omega) (by omega)]
 omega
def QR(s:List UInt8)(at':Int)(r:Int×Int×Bool×Unit):Prop:=r.2.2.1=true→0≤r.1∧r.1<4611686018427387904∧at'<r.2.1∧r.2.1≤s.length
theorem Q2g(s:List UInt8)(hs:s.length≤1000000)(a k:Nat)(hk:k≤8)(h1:1≤k)(ha:a+k≤s.length): ∀(N i:Nat) (n:Int),k-i<N→1≤i→i≤k→0≤n→n< (2^ (8*i-2):Nat)→T (Zdx N s (a:Int) (k:Int) n (i:Int)) (QR s a)
 |0,_,_,h,_,_,_,_=>by omega
 |N+1,i,n,hN,hi,hik,h0,hn=>by
  unfold Zdx
  refine T.ite (fun hd=> ?_) fun hd=>T.pure fun _=> ?_
  ·have hd:=of_decide_eq_true hd
   have e:IntKind.i64.wrap ((a:Int)+i)=((a+i:Nat):Int):=by rw[Zv (by omega) (by omega)];omega
   have e1:IntKind.i64.wrap ((i:Int)+1)=((i+1:Nat):Int):=by rw[Zv (by omega) (by omega)];omega
   rw[e,e1]
   refine T.guard (by omega) (T.guard (by omega) ?_)
   have hb:=(s.getD (a+i) 0).toNat_lt
   have hp:2^ (8* (i+1)-2)=2^ (8*i-2)*256:=by rw[show 8* (i+1)-2=8*i-2+8 by omega,Nat.pow_add]
   have hp1:2^14≤2^ (8* (i+1)-2):=Nat.pow_le_pow_right (by omega) (by omega)
   have hp2:2^ (8* (i+1)-2)≤2^62:=Nat.pow_le_pow_right (by omega) (by omega)
   have hw:IntKind.i64.wrap (n*2^ (min (8:Int).toNat IntKind.i64.bits))=n*256:=by
    rw[show(min (8:Int).toNat IntKind.i64.bits)=8 from rfl,show(2:Int)^8=256 from rfl]
    exact Zv (by omega) (by omega)
   have hw2:IntKind.i64.wrap ((s.getD ((a+i:Nat):Int).toNat 0).toNat:Int)=((s.getD (a+i) 0).toNat:Int):=by
    rw[show((a+i:Nat):Int).toNat=a+i from rfl]
    exact Zv (by omega) (by omega)
   rw[hw,hw2]
   have o:=orQ (a:=n*256) (b:=((s.getD (a+i) 0).toNat:Int)) (n:=8* (i+1)-2) (by omega) (by omega) (by omega) (by omega) (by omega)
   exact Q2g s hs a k hk h1 ha N (i+1) _ (by omega) (by omega) (by omega) o.1 o.2
  ·have hd:=of_decide_eq_false hd
   have hp2:2^ (8*i-2)≤2^62:=Nat.pow_le_pow_right (by omega) (by omega)
   simp only
   rw[Zv (by omega) (by omega)]
   omega
theorem Q81(s:List UInt8)(hs:s.length≤1000000)(a:Int)(ha: -1000000≤a∧a≤1000000):T (Zi0 s a) (QR s a):=by
 unfold Zi0
 refine T.ite (fun _=>T.pure (by unfold QR;simp)) fun hc=> ?_
 simp at hc
 obtain⟨a,rfl⟩:=Int.eq_ofNat_of_zero_le hc.1
 refine T.guard (by omega) (T.guard (by omega) ?_)
 have hb:=(s.getD a 0).toNat_lt
 have e6: ((2:Int)^ (min (6:Int).toNat IntKind.u8.bits))=64:=rfl
 simp only[e6,show(a:Int).toNat=a from rfl]
 have hd: ((s.getD a 0).toNat:Int).fdiv 64=(((s.getD a 0).toNat/64:Nat):Int):=by
  rw[Int.fdiv_eq_ediv_of_nonneg _ (by omega)];rfl
 rw[hd]
 have hq: (s.getD a 0).toNat/64≤3:=by omega
 obtain⟨k,hk1,hk8,hk⟩: ∃k:Nat,1≤k∧k≤8∧IntKind.i64.wrap (1*2^ (min (((s.getD a 0).toNat/64:Nat):Int).toNat IntKind.i64.bits))=(k:Int):=by
  generalize (s.getD a 0).toNat/64=q at hq
  match q,hq with
  |0,_=>exact⟨1,by omega,by omega,rfl⟩
  |1,_=>exact⟨2,by omega,by omega,rfl⟩
  |2,_=>exact⟨4,by omega,by omega,rfl⟩
  |3,_=>exact⟨8,by omega,by omega,rfl⟩
  |n+4,h=>omega
 refine T.guard (by omega) ?_
 rw[hk]
 refine T.ite (fun _=>T.pure (by unfold QR;simp)) fun hl=>T.guard (by omega) ?_
 have hl:=of_decide_eq_false hl
 rw[Zv (by omega) (by omega)]at hl
 have m:=Q8y (s.getD a 0)
 exact Q2g s hs a k hk8 hk1 (by omega) _ 1 _ (by unfold Zg0;omega) (by omega) hk1 m.1 (by simpa using m.2)
def RR(s:List UInt8)(a:Int)(n:Nat)(r:List Int×Int×Bool×Unit):Prop:=0<r.1.length∧r.1.length≤3∧(r.2.2.1=true→a<r.2.1∧r.2.1≤s.length∧r.1.length=n)
theorem Q3t(s:List UInt8)(hs:s.length≤1000000)(a:Int)(n:Nat)(h1:1≤n)(h3:n≤3): ∀(N i:Nat) (b:Int) (out:List Int),n-i<N→i≤n→out.length=i→(-1000000≤b∧b≤1000000)→(i=0→b=a)→(0<i→a<b∧b≤s.length)→T (Zll N s b (n:Int) out (i:Int)) (RR s a n)
 |0,_,_,_,h,_,_,_,_,_=>by omega
 |N+1,i,b,out,hN,hi,ho,hb,hb0,hb1=>by
  unfold Zll
  refine T.ite (fun hd=> ?_) fun hd=>T.pure ⟨by simp only;have:=of_decide_eq_false hd;omega,by simp only;omega,fun _=> ?_⟩
  ·have hd:=of_decide_eq_true hd
   refine(Q81 s hs b hb).bind fun r hr=>T.ite (fun _=>T.pure ⟨by simp,by simp,by simp⟩) fun hk=>T.guard (by unfold Qv;simp only[List.length_singleton];omega) ?_
   have hr:=hr (by simpa using hk)
   rw[Zv (n:=(i:Int)+1) (by omega) (by omega)]
   exact Q3t s hs a n h1 h3 N (i+1) _ _ (by omega) (by omega) (by simp;omega) (by omega) (by omega) (fun _=>by
    by_cases h:i=0
    ·have:=hb0 h;omega
    ·have:=hb1 (by omega);omega)
  ·have hd:=of_decide_eq_false hd
   have:=hb1 (by omega)
   simp only
   omega
theorem V3(s:List UInt8)(hs:s.length≤1000000)(a:Int)(ha: -1000000≤a∧a≤1000000)(n:Nat)(h1:1≤n)(h3:n≤3):T (Zr3 s a (n:Int)) (RR s a n):=by
 unfold Zr3
 exact Q3t s hs a n h1 h3 _ 0 a [] (by unfold Zmr;omega) (by omega) rfl ha (fun _=>rfl) (by omega)
def FR(s:List UInt8)(a:Int)(r:Zh×Int×Bool×Unit):Prop:=r.2.2.1=true→a<r.2.1∧r.2.1≤s.length∧(r.1.2.2.2.1.length:Int)+1≤r.2.1-a
theorem FR.no{s:List UInt8}{a:Int}{f:Zh}{i:Int}:FR s a (f,i,false,()):=by unfold FR;simp
theorem Q3c(s:List UInt8)(hs:s.length≤1000)(a:Int)(ha:0≤a∧a≤s.length)(k:Int):T (Zrm s a k) (FR s a):=by
 have j3: ∀(t f:Zh) (n z:Int),a<n→0≤z→n+z≤s.length→T (Zhz s t f n z) (FR s a):=fun t f n z h1 h2 h3=>by
  unfold Zhz
  rw[Zv (n:=n+z) (by omega) (by omega)]
  have hl: (((s.drop n.toNat).take ((n+z).toNat-n.toNat)).length:Int)≤z:=by rw[List.length_take];omega
  exact T.guard (by omega) ((Zu2 (by unfold FOK;simp only;omega)).bind fun r _=>T.if (T.pure FR.no) (T.pure fun _=>by simp only;omega))
 have j2: ∀(t f:Zh) (n:Int),a<n→n≤s.length→T (Zhy s k t f n) (FR s a):=fun t f n h1 h2=>by
  unfold Zhy
  refine T.if ((Q81 s (by omega) n (by omega)).bind fun r hr=>T.ite (fun _=>T.pure FR.no) fun hk=> ?_) ?_
  ·simp at hk
   have hr:=hr hk.1
   have h:=hk.2
   rw[Zv (by omega) (by omega)]at h
   exact j3 _ _ _ _ (by omega) (by omega) (by omega)
  ·rw[Zv (by omega) (by omega)]
   exact j3 _ _ _ _ h1 (by omega) (by omega)
 have j1: ∀(t f:Zh) (n:Nat),1≤n→n≤2→T (Zhx s a k t f (n:Int)) (FR s a):=fun t f n h1 h2=>by
  unfold Zhx
  refine(V3 s (by omega) a (by omega) n h1 (by omega)).bind fun r hr=>T.ite (fun _=>T.pure FR.no) fun hk=>T.guard (by have:=hr.1;omega) ?_
  have q:=hr.2.2 (by simpa using hk)
  refine T.ite (fun hn=>T.guard ?_ (j2 _ _ _ q.1 q.2.1)) fun _=>j2 _ _ _ q.1 q.2.1
  have hn:=eq_of_beq hn
  omega
 unfold Zrm
 exact T.if (j1 _ _ 2 (by omega) (by omega)) (j1 _ _ 1 (by omega) (by omega))
theorem Quy{k:Int}(h:0≤k){n:Nat}(hn:0<n):0≤Int.tmod k (n:Int)∧Int.tmod k (n:Int)<n:=
 ⟨Int.tmod_nonneg _ h,Int.tmod_lt_of_pos _ (by omega)⟩
theorem Q2f(s:List UInt8)(hs:s.length≤1000)(a:Int)(ha:0≤a∧a<s.length):T (Zlz s a) (FR s a):=by
 have j2: ∀(t f:Zh) (n:Int) (b:Bool),f.2.2.2.1=[]→(b=true→a<n∧n≤s.length)→T (Jp t f n b) (FR s a):=fun t f n b hf h=>by
  unfold Jp
  refine T.bind (Q:=fun _=>True) (T.if T.tt (Zu2 (by unfold FOK;rw[hf];simp))) fun r _=>T.ite (fun _=>T.pure FR.no) fun hk=>T.pure fun _=> ?_
  simp at hk
  have:=h hk.1
  simp only[hf,List.length_nil]
  omega
 have j3: ∀(t f:Zh) (l:List Int) (n:Int) (b q:Bool),f.2.2.2.1=[]→0<l.length→(b=true→a<n∧n≤s.length)→T (Zcj t f l n b q) (FR s a):=fun t f l n b q hf hl h=>by
  unfold Zcj
  exact T.if (T.guard (by omega) (T.guard (by omega) (T.guard (Quy (by omega) hl) (j2 _ _ _ _ hf h)))) (T.guard (by omega) (j2 _ _ _ _ hf h))
 have j1: ∀(t f:Zh) (n:Nat),1≤n→n≤3→f.2.2.2.1=[]→T (Jo s a t f (n:Int)) (FR s a):=fun t f n h1 h3 hf=>by
  unfold Jo
  rw[Zv (by omega) (by omega)]
  refine(V3 s (by omega) _ (by omega) n h1 h3).bind fun r hr=> ?_
  have hl:=hr.1
  have h:r.2.2.1=true→a<r.2.1∧r.2.1≤s.length:=fun hk=>by have:=hr.2.2 hk;omega
  have m1:=Quy (k:=1) (by omega) hl
  have m2:=Quy (k:=2) (by omega) hl
  exact T.if (T.guard (by omega) (T.guard (by omega) (T.guard m1 (T.guard (by omega) (T.guard m2 (j2 _ _ _ _ hf h)))))) (T.if (T.guard (by omega) (T.guard (by omega) (T.guard m1 (j2 _ _ _ _ hf h)))) (T.if (j3 _ _ _ _ _ _ hf hl h) (j3 _ _ _ _ _ _ hf hl h)))
 have j5: ∀(t f:Zh) (k:Int) (q:Bool),f.2.2.2.1=[]→T (Zck s a t k f 1 q) (FR s a):=fun t f k q hf=>by
  unfold Zck
  exact T.if (j1 _ _ 1 (by omega) (by omega) hf) (j1 _ _ 1 (by omega) (by omega) hf)
 have j4: ∀(t f:Zh) (k x:Int) (q:Bool),f.2.2.2.1=[]→T (Wl s a t k f 1 x q) (FR s a):=fun t f k x q hf=>by
  unfold Wl
  exact T.if (j1 _ _ 2 (by omega) (by omega) hf) (T.if (j5 _ _ _ _ hf) (j5 _ _ _ _ hf))
 unfold Zlz
 refine T.guard (fun _=>by omega) (T.if (T.pure FR.no) (T.guard (by omega) (T.if ?_ (T.if (j1 _ _ 3 (by omega) (by omega) rfl) (T.if (j4 _ _ _ _ _ rfl) (T.if (j4 _ _ _ _ _ rfl) (j4 _ _ _ _ _ rfl)))))))
 rw[Zv (n:=a+1) (by omega) (by omega)]
 refine(Q3c s hs _ (by omega) _).bind fun r hr=>T.pure fun hk=> ?_
 have:=hr hk
 simp only
 omega
def gr(l:List Zh):Nat:=(l.map fun f=>f.2.2.2.1.length+2).sum
theorem Q68(l:List Zh)(f:Zh):gr (l++ [f])=gr l+f.2.2.2.1.length+2:=by simp[gr];omega
theorem Qm9(s:List UInt8)(hs:s.length≤1000): ∀(N a:Nat) (out:List Zh),s.length-a<N→a≤s.length→out.length≤a→gr out≤2*a→(∀f∈out,FOK f)→T (Jz N s out (a:Int)) fun r=>gr r.1≤2*s.length∧r.1.length≤s.length∧ ∀f∈r.1,FOK f
 |0,_,_,h,_,_,_,_=>by omega
 |N+1,a,out,hN,ha,ho,hg,hf=>by
  unfold Jz
  refine T.ite (fun hd=> ?_) fun hd=>(tIn _ _ _).bind fun t _=>T.pure ⟨by simp only;omega,by simp only;omega,hf⟩
  have hd:=of_decide_eq_true hd
  refine T.guard (by omega) (T.if ?_ ?_)
  ·rw[show IntKind.i64.wrap ((a:Int)+1)=((a+1:Nat):Int) by rw[Zv (by omega) (by omega)];rfl]
   exact Qm9 s hs N (a+1) out (by omega) (by omega) (by omega) (by omega) hf
  ·refine(Q2f s hs a (by omega)).bind fun r hr=>T.ite (fun _=>T.pure ⟨by simp[gr],by simp,by simp⟩) fun hk=>T.guard (by unfold Qv;simp only[List.length_singleton];omega) ?_
   have hr:=hr (by simpa using hk)
   obtain⟨b,hb⟩:=Int.eq_ofNat_of_zero_le (show 0≤r.2.1 by omega)
   rw[hb]
   refine Qm9 s hs N b _ (by omega) (by omega) (by simp;omega) (by rw[Q68];omega) fun f h=> ?_
   rcases List.mem_append.1 h with h|h
   ·exact hf f h
   ·rw[List.mem_singleton.1 h];unfold FOK;omega
theorem Q63(s:List UInt8)(hs:s.length≤1000):T (Zif s) fun r=>gr r.1≤2*s.length∧r.1.length≤s.length∧ ∀f∈r.1,FOK f:=by
 unfold Zif
 exact Qm9 s hs _ 0 [] (by unfold Zdw;omega) (by omega) (by simp) (by simp[gr]) (by simp)
theorem T.and{α:Type}{m:Option α}{Q R:α→Prop}(h1:T m Q)(h2:T m R):T m fun y=>Q y∧R y:=by
 obtain⟨y,e,hy⟩:=h1;obtain⟨z,e2,hz⟩:=h2
 rw[e]at e2;cases e2
 exact⟨y,e,hy,hz⟩
theorem Q06(s:List UInt8)(hs:s.length≤1048576):T (Zm5 s) fun r=>r.1=0∨Go.Lib.itoa r.1=s:=by
 have hpf:=Quo (((s.length:Int)-0).toNat+1) [] s 0 0 (by simpa using hs) (by omega) (by simp) (by simp) (by simp)
 simp only[List.nil_append,List.length_nil,Nat.sub_zero,Int.natCast_zero]at hpf
 have hS:Zm5 s=Jl s (sgn s (pf (s.take 11) (0,0)).1) (pf (s.take 11) (0,0)).2:=by
  unfold Zm5 Zjy;exact hpf
 obtain⟨hb1,hb2⟩:=Qps (s.take 11) (0,0) (by simp)
 have hk: (pf (s.take 11) (0,0)).2≤11:=by
  have: (s.take 11).length≤11:=by simp;omega
  omega
 have hb3:=Qpt hk
 rw[hS]
 generalize (pf (s.take 11) (0,0)).1=u at hb1
 generalize (pf (s.take 11) (0,0)).2=k at hb1 hb2 hk hb3
 have hrange: -100000000000≤sgn s u∧sgn s u≤100000000000:=by unfold sgn;split<;>omega
 unfold Jl
 refine T.bind (Q:=fun q=>(decide ((k:Int)>9)||decide ((s.length:Int)>10))=false→q.1=Go.Lib.itoa (sgn s u)) (T.ite (fun h=>T.pure fun h'=>by rw[h]at h';cases h') fun _=>⟨_,Q2q (sgn s u) (by omega) (by omega),fun _=>rfl⟩) fun q hq=>T.ite (fun _=>T.pure (.inl rfl)) fun hc=>T.pure (.inr ?_)
 rw[Bool.or_eq_false_iff]at hc
 have:=hq hc.1
 simp only[Bool.not_eq_false',beq_iff_eq]at hc
 exact this.symm.trans hc.2
theorem Qv0(b:Int):TT (Zp1 b):=by
 have lp: ∀(N k:Nat),16-k<N→k≤16→TT (Jx N b (k:Int)):=by
  intro N
  induction N with
  |zero=>intro k h;omega
  |succ N ih=>
   intro k hN hk
   by_cases h:k<16
   ·rw[Qt2 N k b h]
    split
    ·exact T.tt
    ·exact ih (k+1) (by omega) (by omega)
   ·have:k=16:=by omega
    subst this
    unfold Jx
    exact T.ite (fun h=>by simp at h) fun _=>T.tt
 exact lp _ 0 (by unfold Zin;omega) (by omega)
theorem Qvn(s:List UInt8)(hs:s.length≤1000000)(h2:s.length%2=0): ∀(N i:Nat) (out:List Int),s.length-2*i<N→2*i≤s.length→out.length=i→T (Zfj N s out ((2*i:Nat):Int)) fun r=>r.1.length≤s.length
 |0,_,_,h,_,_=>by omega
 |N+1,i,out,hN,hi,ho=>by
  unfold Zfj
  refine T.ite (fun hd=> ?_) fun hd=>T.pure (by simp only[Zaz,List.length_map];omega)
  have hd:=of_decide_eq_true hd
  rw[Zv (n:=((2*i:Nat):Int)+1) (by omega) (by omega)]
  refine T.guard (by omega) ((Qv0 _).bind fun a _=>T.guard (by omega) ((Qv0 _).bind fun b _=>T.if (T.pure (by simp)) (T.guard (by unfold Qv;simp only[List.length_singleton];omega) ?_)))
  rw[show IntKind.i64.wrap (((2*i:Nat):Int)+2)=((2* (i+1):Nat):Int) by rw[Zv (by omega) (by omega)];omega]
  exact Qvn s hs h2 N (i+1) _ (by omega) (by omega) (by simp[ho])
theorem Q4k(s:List UInt8)(hs:s.length≤1000000):T (Zk0 s) fun r=>r.1.length≤s.length:=by
 unfold Zk0
 refine T.guard (by omega) (T.ite (fun _=>T.pure (by simp)) fun h=>Qvn s hs ?_ _ 0 [] (by unfold Zie;omega) (by omega) rfl)
 simp only[beq_eq_false_iff_ne,ne_eq]at h
 rw[Int.tmod_eq_emod_of_nonneg (by omega)]at h
 omega
theorem Qr5{K:Nat}{c:Zg}(h:Qa K c)(hK:K≤1000000)(n:Int):T (Zky c n) fun r=>Qa K r.1:=by
 unfold Zky
 rw[Kg h hK,Option.bind_some]
 exact T.bind (Q:=fun _=>True) (T.if (tIn _ _ _) T.tt) fun t _=>T.if (T.pure ⟨h.str,h.pk⟩) (T.pure h)
theorem Q3n{K:Nat}{c:Zg}(h:Qa K c)(hK:K≤1000000)(n:Int):T (Zrf c n) fun r=>Qa K r.1:=by
 unfold Zrf
 rw[Kg h hK,Option.bind_some]
 exact(Zls h hK).bind fun t _=>T.bind (Q:=fun _=>True) (T.if T.tt (tIn _ _ _)) fun t _=>T.if (T.pure h) (T.pure ⟨h.str,h.pk⟩)
theorem Qyx{K:Nat}{c:Zg}(h:Qa K c)(hK:K+1≤500000)(i n:Int):T (Znv c i n) fun r=>Qa (K+1) r.1:=by
 unfold Znv
 rw[Kg h (by omega),Option.bind_some]
 exact(Zc4 h (by omega) i).bind fun s hs=>(Zls h (by omega)).bind fun t _=>T.bind (Q:=fun _=>True) (T.if T.tt (Qqj _)) fun t _=>T.if (T.pure (h.mono (by omega))) ((Yo h.str (K':=K) (by exact⟨hs.snd,hs.rcv⟩) (Nat.le_refl _) (by omega)).bind fun t3 h3=>T.pure (h.up (by omega) h3))
theorem Qix(l:List Zh)(hf: ∀f∈l,FOK f)(hl:l.length≤1000): ∀(N i K:Nat) (t x:Zg),l.length-i<N→i≤l.length→Qa K x→25≤K→K+gr (l.drop i)≤390000→T (Qt N t x l (i:Int)) fun r=>Qa (K+gr (l.drop i)) r.1.1
 |0,_,_,_,_,h,_,_,_,_=>by omega
 |N+1,i,K,t,x,hN,hi,hx,h25,hK=>by
  unfold Qt
  simp only[Vp,Vd]
  refine T.ite (fun hd=> ?_) fun hd=>T.pure (hx.mono (by omega))
  have hd:=of_decide_eq_true hd
  have hh:i<l.length:=by omega
  have hm:=hf _ (Qx (d:=Xr) hh)
  have hg:gr (l.drop i)=(l.getD i Xr).2.2.2.1.length+2+gr (l.drop (i+1)):=by rw[Zdc (d:=Xr) hh];simp[gr]
  refine T.guard (by omega) ((Qv2 hx hm h25 (by omega)).bind fun r hr=> ?_)
  unfold Xd
  refine T.if ((Qr5 hx (by omega) _).bind fun t ht=>T.pure (ht.mono (by omega))) ?_
  rw[Zo hh (by omega)]
  exact(Qix l hf hl N (i+1) (K+ (l.getD i Xr).2.2.2.1.length+2) _ _ (by omega) (by omega) hr (by omega) (by omega)).mono fun r hr=>hr.mono (by omega)
theorem Q0s{K:Nat}{c:Zg}(h:Qa K c)(h25:25≤K)(s:List UInt8)(hs:s.length≤1000)(hK:K+2*s.length≤390000):T (Vj c s) fun r=>Qa (K+2*s.length) r.1.1:=by
 unfold Vj
 rw[Kg h (by omega),Option.bind_some]
 refine(Zn5 h (by omega)).bind fun t _=>T.bind (Q:=fun _=>True) (T.if T.tt T.tt) fun t _=>T.if (T.pure (h.mono (by omega))) ((Q63 s hs).bind fun r hr=>T.if ((Qr5 h (by omega) _).bind fun t ht=>T.pure (ht.mono (by omega))) ?_)
 exact(Qix r.1 hr.2.2 (by omega) _ 0 K _ _ (by unfold Zd1;omega) (by omega) h h25 (by simp only[List.drop_zero];omega)).mono fun y hy=>hy.mono (by simp only[List.drop_zero];omega)
theorem Qvz{N:Nat}{n:Int}{out:List UInt8}{neg:Bool}{Q:List UInt8×Unit→Prop}(ho:out.length≤1000)(h0:n=0→ ∀y:List UInt8,y.length≤1001→Q (y,()))(h: ∀o,o.length=out.length+1→T (Xe N (IntKind.i64.wrap (Int.tdiv n 10)) o neg) Q):T (Xe (N+1) n out neg) Q:=by
 unfold Xe
 have j: ∀d,T (Jt (fun v=>Xe N v.1 v.2.1 v.2.2.1) n out neg d) Q:=fun d=>by
  unfold Jt
  exact T.guard (by simp only[Zaz,List.length_map,List.length_singleton];unfold W9;omega) (T.guard (by omega) (h _ (by simp only[Zaz,List.length_append,List.length_map,List.length_singleton];omega)))
 refine T.ite (fun _=>T.guard (by omega) (T.if (j _) (j _))) fun hz=> ?_
 have hz:n=0:=by simpa using hz
 exact T.if (T.guard (by unfold W9;simp only[List.length_singleton];omega) (T.pure (h0 hz _ (by simp only[List.length_append,List.length_singleton];omega)))) (T.pure (h0 hz _ (by omega)))
theorem Q6h: ∀(k N:Nat) (n:Int) (out:List UInt8) (neg:Bool),n.natAbs<10^k→k<N→(-9223372036854775808≤n∧n≤9223372036854775807)→out.length+k≤1000→T (Xe N n out neg) fun r=>r.1.length≤1001
 |_,0,_,_,_,_,h,_,_=>by omega
 |0,N+1,n,out,neg,hn,hN,hr,ho=>by
  have:n=0:=by
     have:n.natAbs=0:=by simpa using hn
     omega
  subst this
  unfold Xe
  exact T.ite (fun h=>by simp at h) fun _=>T.if (T.guard (by unfold W9;simp only[List.length_singleton];omega) (T.pure (by simp only[List.length_append,List.length_singleton];omega))) (T.pure (by simp only;omega))
 |k+1,N+1,n,out,neg,hn,hN,hr,ho=>by
  have ha: (Int.tdiv n 10).natAbs=n.natAbs/10:=by rw[Int.natAbs_tdiv];rfl
  have hlt:n.natAbs/10<10^k:=by rw[Nat.pow_succ]at hn;omega
  refine Qvz (by omega) (fun _ y hy=>hy) fun o hl=> ?_
  rw[Zv (by omega) (by omega)]
  exact Q6h k N _ o neg (by omega) (by omega) (by omega) (by omega)
theorem Qx7(n:Int): -9223372036854775808≤IntKind.i64.wrap n∧IntKind.i64.wrap n≤9223372036854775807:=by
 simp only[IntKind.wrap,IntKind.bits,IntKind.signed,Bool.true_and]
 split<;>rename_i h<;>simp at h<;>omega
theorem Q2r(n:Int):T (Ke n) fun r=>r.1.length≤1001:=by
 unfold Ke
 refine T.if (T.pure (by simp)) ?_
 unfold Zcy
 rw[show 1048577+ (n.toNat-n.toNat)=1048576+1 by omega]
 refine Qvz (by simp) (fun _ y hy=>hy) fun o hl=> ?_
 have:=Qx7 (Int.tdiv n 10)
 exact Q6h 20 _ _ o _ (by omega) (by omega) this (by simp at hl;omega)
theorem Q9q(k:Int):TT (Zpp k):=by
 unfold Zpp
 refine(inT _ _ _).bind fun t ht=>T.ite (fun _=>T.tt) fun hc=> ?_
 have:=ht (by simpa using hc)
 rw[Zv (by omega) (by omega)]
 exact T.guard (by simp only[List.length_cons,List.length_nil];omega) T.tt
theorem Q6i(e:Jc):T (Zp4 e) fun r=>r.1.2.2.2.1.length≤e.2.2.2.1.length∧r.1.1=e.1:=by
 have j3: ∀t x b,x.2.2.2.1.length≤e.2.2.2.1.length→x.1=e.1→T (Ze7 e t x b) fun r=>r.1.2.2.2.1.length≤e.2.2.2.1.length∧r.1.1=e.1:=fun t x b h k=>by
  unfold Ze7;exact T.if (T.pure ⟨h,k⟩) (T.pure ⟨h,k⟩)
 have j2: ∀t x k b,x.2.2.2.1.length≤e.2.2.2.1.length→x.1=e.1→T (Zjg e t x k b) fun r=>r.1.2.2.2.1.length≤e.2.2.2.1.length∧r.1.1=e.1:=fun t x k b h q=>by
  unfold Zjg;exact T.if (T.pure ⟨Nat.le_refl _,q⟩) (T.if (T.pure ⟨h,q⟩) (T.if (j3 _ _ _ h q) (T.if (j3 _ _ _ h q) (j3 _ _ _ h q))))
 have j1: ∀t x k b,x.2.2.2.1.length≤e.2.2.2.1.length→x.1=e.1→T (Zjf e t x k b) fun r=>r.1.2.2.2.1.length≤e.2.2.2.1.length∧r.1.1=e.1:=fun t x k b h q=>by
  unfold Zjf;exact T.if (T.pure ⟨Nat.le_refl _,q⟩) (T.if (j2 _ _ _ _ h q) (j2 _ _ _ _ h q))
 unfold Zp4
 exact T.if (j1 _ _ _ _ (by simp) rfl) (j1 _ _ _ _ (by simp) rfl)
theorem Q3i(s:List UInt8)(hs:s.length≤1000000):TT (Zsm s):=by
 have lp: ∀(N i:Nat),s.length-i<N→i≤s.length→TT (Zem N s (i:Int)):=by
  intro N
  induction N with
  |zero=>intro i h;omega
  |succ N ih=>
   intro i hN hi
   unfold Zem
   refine T.ite (fun hd=> ?_) fun _=>(tIn _ _ _).bind fun t _=>T.tt
   have hd:=of_decide_eq_true hd
   refine T.guard (by omega) (T.guard (fun _=>by omega) (T.if T.tt ?_))
   rw[Zo (m:=s.length) (by omega) (by omega)]
   exact ih (i+1) (by omega) (by omega)
 exact lp _ 0 (by unfold Zhu;omega) (by omega)
theorem Q7o(s:List UInt8)(hs:s.length≤1000000):TT (Zp5 s):=by
 have lp: ∀(N i:Nat),s.length-i<N→i≤s.length→TT (Zbp N s (i:Int)):=by
  intro N
  induction N with
  |zero=>intro i h;omega
  |succ N ih=>
   intro i hN hi
   unfold Zbp
   refine T.ite (fun hd=> ?_) fun _=>(tIn _ _ _).bind fun t _=>T.tt
   have hd:=of_decide_eq_true hd
   refine T.guard (by omega) (T.guard (fun _=>by omega) (T.if T.tt ?_))
   rw[Zo (m:=s.length) (by omega) (by omega)]
   exact ih (i+1) (by omega) (by omega)
 exact lp _ 0 (by unfold Zez;omega) (by omega)
theorem Q2l(e:Jc)(he:e.2.2.2.1.length≤10000):TT (Zpr e):=by
 unfold Zpr
 exact(Q9q _).bind fun t _=>T.bind (Q:=fun _=>True) (T.if T.tt ((Q6i e).mono fun _ _=>trivial)) fun t _=>T.bind (Q:=fun _=>True) (T.if T.tt (tIn _ _ _)) fun t _=>T.bind (Q:=fun _=>True) (T.if T.tt (tIn _ _ _)) fun t _=>T.if T.tt (T.if T.tt (T.if ((Q3i _ (by omega)).bind fun t _=>T.tt) (T.if ((Q7o _ (by omega)).bind fun t _=>T.tt) (T.if ((Q4k _ (by omega)).bind fun t _=>T.bind (Q:=fun _=>True) (T.if (tIn _ _ _) T.tt) fun t _=>T.tt) T.tt))))
theorem Qvr{K:Nat}{c:Zg}(h:Qa K c)(hK:K≤80000)(b:Int):T (Zb9 c b) fun r=>Qa (K+1000) r.1.2.2.1∧r.1.1.length≤400:=by
 have lp: ∀(t:Zg) (l:List Zh),FL 606 l→ ∀(N i:Nat) (x:Zg) (fr:List Zh) (room:Int),l.length-i<N→i≤l.length→Qa (K+i) x→FL i fr→
   T (Yl N c t x fr room l (i:Int)) fun r=>Qa (K+1000) r.1.2.2.1∧r.1.1.length≤400:=by
  intro t l hl N
  have h606:=hl.1
  induction N with
  |zero=>intro i x fr room h;omega
  |succ N ih=>
   intro i x fr room hN hi hx hf
   have j1: ∀(x:Zg) (fr:List Zh) (room:Int),i<l.length→Qa (K+i+1) x→FL (i+1) fr→
     T (Vi (fun v=>Yl N v.1 v.2.1 v.2.2.1 v.2.2.2.1 v.2.2.2.2.1 v.2.2.2.2.2.1 v.2.2.2.2.2.2.1) c t x fr room l (i:Int)) fun r=>Qa (K+1000) r.1.2.2.1∧r.1.1.length≤400:=fun x fr room hc hx hf=>by
    unfold Vi
    rw[Zo hc (by omega)]
    exact ih (i+1) x fr room (by omega) (by omega) hx hf
   unfold Yl
   refine T.ite (fun hc=> ?_) fun hc=> ?_
   ·have hc:=of_decide_eq_true hc
    have hm:=hl.2 _ (Qx (d:=Xr) (show i<l.length by omega))
    exact T.guard (by omega) ((Ztn hm).bind fun t _=>T.if (T.guard (by omega) ((Ztn hm).bind fun t _=>T.guard (by omega) ((Qi5 hx (by omega) _).bind fun t ht=>T.guard (by omega) (T.guard (by have:=hf.1;unfold Qv;simp only[List.length_singleton];omega) (j1 _ _ _ (by omega) ht (hf.one hm)))))) (j1 _ _ _ (by omega) (hx.mono (by omega)) (hf.mono (by omega))))
   ·refine(Qzq (by omega) (by omega) hx hf _).bind fun r hr=>T.if (T.pure ⟨hr.1.mono (by omega),by simp⟩) ?_
    have hp:=hr.1.pk.1
    have hf:Qqs r.1.1:=⟨by have:=hr.2.1;omega,hr.2.2⟩
    exact T.guard (by unfold Qv;simp only[List.length_singleton];omega) ((Q2j hf).bind fun t ht=>T.pure ⟨by exact⟨hr.1.str.mono (by omega),⟨by simp only[List.length_append,List.length_singleton];omega,fun p hp=>by
     rcases List.mem_append.1 hp with hp|hp
     ·exact hr.1.pk.2 p hp
     ·rw[List.mem_singleton.1 hp];exact hf⟩⟩,by simp only;omega⟩)
 unfold Zb9
 rw[Kg h (by omega),Option.bind_some]
 exact(Qo4 h (by omega)).bind fun t ht=>T.bind (Q:=fun _=>True) (T.if T.tt (tIn _ _ _)) fun t _=>T.ite (fun _=>T.pure ⟨h.mono (by omega),by simp⟩) fun hc=>(Z51 h (by omega)).bind fun l hl=>by
  have:=ht (by simp at hc;simp[hc])
  exact lp _ _ (hl.mono (by omega)) _ 0 _ _ _ (by unfold Zby;omega) (by omega) h FL.nil
theorem Qu3{K:Int}{s:Zq}(h:Zay K s)(d:List UInt8)(hK:K+d.length≤1000000):T (Zax s d) fun r=>0≤r.2.1∧r.2.1≤d.length:=by
 have h0:=h.e0
 have hcl:=h.cells
 have heK:=h.eK
 obtain⟨b,h1,-⟩:=Ze1 h (by omega)
 unfold Zax
 rw[Ztv h (by omega),h1]
 simp only[Option.bind_some]
 refine T.if (T.pure (by simp)) ?_
 obtain⟨cs,n,k1,k2,k3,k4⟩:=Qs8 s.2.1 d (by omega) (by omega) h0 (by omega)
 rw[k1,Option.bind_some]
 unfold Zcs
 exact T.if (by rw[Zms _ _ (by have:=(Xk h.pend h0 heK (by omega));omega),Option.bind_some];exact T.pure (by simp only;omega)) (T.pure (by simp only;omega))
theorem Qu4{K:Nat}{c:Zg}(h:Qa K c)(i:Int)(d:List UInt8)(hK:K+d.length+1≤500000):T (Zdl c i d) fun r=>Qa (K+d.length+1) r.2.1∧0≤r.1∧r.1≤d.length:=by
 refine(Qxe h i d hK).and ?_
 unfold Zdl
 rw[Kg h (by omega),Option.bind_some]
 refine(Zc4 h (by omega) i).bind fun s hs=>(Zls h (by omega)).bind fun t _=>T.if (T.pure (by simp)) ?_
 refine((show T (Zax s.1.2.1 d) (fun r=>Zay (K+d.length) r.1)from(by obtain⟨x,n,e,h1⟩:=Qjl hs.snd d (by omega);exact⟨_,e,h1⟩)).and (Qu3 hs.snd d (by omega))).bind fun r hr=> ?_
 exact(Yo h.str (K':=K+d.length) (by exact⟨hr.1.mono (by omega),hs.rcv.mono (by omega)⟩) (by omega) (by omega)).bind fun t3 h3=>T.pure hr.2
theorem Qjd{K:Nat}{c:Zg}(h:Qa K c)(hK:K+1≤500000)(i m:Int):T (Zcc c i m) fun r=>Qa (K+1) r.1.2.2.1∧r.1.1.length≤K:=by
 refine(Qyp h hK i m).and ?_
 unfold Zcc
 rw[Kg h (by omega),Option.bind_some]
 refine(Zc4 h (by omega) i).bind fun s hs=>(Zls h (by omega)).bind fun t _=>T.if (T.pure (by simp)) ?_
 obtain⟨d,r,e,h1,hd⟩:=Qdb hs.rcv (by omega) m
 rw[e,Option.bind_some]
 have j: ∀t x s r,Qa K x→Jn K s→T (Vl t x s d r) fun r=>r.1.1.length≤K:=fun t x s r hx hs=>by
  unfold Vl
  exact(Zx5 hx hs (Nat.le_refl _) hK).bind fun t3 h3=>T.pure hd
 exact T.if ((Qt8 h (by exact⟨hs.snd,h1⟩) _).bind fun t ht=>j _ _ _ _ ht.1 ht.2) (j _ _ _ _ h (by exact⟨hs.snd,h1⟩))
theorem okT(b:Bool):T (Zy1 b) fun r=>r.1.length≤2:=by
 unfold Zy1
 exact T.if (T.pure (by simp)) (T.pure (by simp))
theorem Q2x(s:List UInt8)(h:s.length≤500000):T (Zbh s) fun r=>r.1.length≤1000000:=⟨_,Q86 s (by omega),by simp only[Qv6];omega⟩
def EvQ(K:Nat)(e:Jc)(r: (List UInt8×Zg×Unit)×Unit):Prop:=Qa (K+1100) r.1.2.1∧r.1.1.length≤1048576∧(e.1=2→ ∀n:Int,Go.Lib.itoa n=r.1.1→n≤e.2.2.2.1.length)
theorem Q96(n:Int):T (Ke n) fun r=>r.1.length≤1001∧ ∀m:Int,(-9223372036854775808≤n∧n≤9223372036854775807)→Go.Lib.itoa m=r.1→m=n:=by
 by_cases h: -9223372036854775808≤n∧n≤9223372036854775807
 ·exact⟨_,Q2q n h.1 h.2,by have:=Z1g n h.1 h.2;simp only;omega,fun m _ e=>Qwa e⟩
 ·exact(Q2r n).mono fun y hy=>⟨hy,fun m h'=>absurd h' h⟩
theorem Qxi{K:Nat}{c:Zg}(e:Jc)(h:Qa K c)(hK:K≤80000)(ht:e.2.2.2.1.length≤10000)(ht2:e.1=2→e.2.2.2.1.length≤90)(h9:e.1≠9)(h10:e.1≠10)(h11:e.1≠11):T (Zni c e) (EvQ K e):=by
 have j1: ∀t x b,e.1≠2→Qa (K+1100) x→T (X5 t x b) (EvQ K e):=fun t x b h2 hx=>by
  unfold X5
  exact(okT b).bind fun r hr=>T.pure ⟨hx,by simp only;omega,fun h=>absurd h h2⟩
 have m:=h.mono (K':=K+1100) (by omega)
 have no: ∀n:Int,Go.Lib.itoa n≠[]:=fun n e=>by
  have:=Z3i n;rw[e]at this;cases this
 have cl: ∀n:Int,Go.Lib.itoa n≠[99,108,111,115,101,100]:=fun n e=>by
  have:=Z3i n;rw[e]at this;revert this;simp[Go.Lib.atoi,Go.Lib.decNat,Go.Lib.decFrom,Go.Lib.digitVal]
 unfold Zni
 rw[Kg h (by omega),Option.bind_some]
 refine(Zn5 h (by omega)).bind fun t _=>T.bind (Q:=fun _=>True) (T.if T.tt (Q2l e (by omega))) fun t _=>T.if (T.pure ⟨m,by simp,fun _ n e=>absurd e (no n)⟩) (T.bind (Q:=fun _=>True) (by unfold V7;exact T.tt) fun t _=>T.if (T.pure ⟨m,by simp,fun _ n e=>absurd e (cl n)⟩) ?_)
 refine T.ite (fun hk=> ?_) fun _=>T.ite (fun hk=> ?_) fun h2=> ?_
 ·have hk:e.1=1:=by simpa using hk
  refine(Qym h (by omega) _).bind fun r hr=>T.if (T.pure ⟨hr.mono (by omega),by simp,by omega⟩) ((Q2r _).bind fun q hq=>T.pure ⟨hr.mono (by omega),by simp only;omega,by omega⟩)
 ·have ht2:=ht2 (by simpa using hk)
  have w:=Qu4 h e.2.1 e.2.2.2.1 (by omega)
  refine w.bind fun r hr=>(Q96 r.1).bind fun q hq=>T.pure ⟨hr.1.mono (by omega),by simp only;have:=hq.1;omega,fun _ n hn=> ?_⟩
  rw[hq.2 n (by have:=hr.2;omega) hn];exact hr.2.2
 ·have h2:e.1≠2:=by simpa using h2
  refine T.if ((Qtw h (by omega) _).bind fun r hr=>j1 _ _ _ h2 (hr.mono (by omega))) (T.if ((Qjd h (by omega) _ _).bind fun r hr=> ?_) (T.if ((Qww h (by omega) _ _).bind fun r hr=>j1 _ _ _ h2 (hr.mono (by omega))) (T.if ((Qyx h (by omega) _ _).bind fun r hr=>j1 _ _ _ h2 (hr.mono (by omega))) (T.if ((Qw3 h (by omega) _ _ (by omega)).bind fun r hr=>j1 _ _ _ h2 (hr.mono (by omega))) (T.if ((Qvr h (by omega) _).bind fun r hr=> ?_) (T.ite (fun hk=>absurd (by simpa using hk) h9) fun _=>T.ite (fun hk=>absurd (by simpa using hk) h10) fun _=>T.ite (fun hk=>absurd (by simpa using hk) h11) fun _=> ?_))))))
  ·have hx:=hr.1.mono (K':=K+1100) (by omega)
   have:=hr.2
   exact T.if ((Q2x _ (by omega)).bind fun q hq=>T.guard (by unfold W9;simp only[List.length_cons,List.length_nil];omega) (T.pure ⟨hx,by simp only[List.length_append,List.length_cons,List.length_nil];omega,fun h=>absurd h h2⟩)) ((Q2x _ (by omega)).bind fun q hq=>T.guard (by unfold W9;simp only[List.length_cons,List.length_nil];omega) (T.pure ⟨hx,by simp only[List.length_append,List.length_cons,List.length_nil];omega,fun h=>absurd h h2⟩))
  ·have hx:=hr.1.mono (K':=K+1100) (by omega)
   have:=hr.2
   exact T.if (T.pure ⟨hx,by simp,fun h=>absurd h h2⟩) ((Q2r _).bind fun q hq=>T.guard (by unfold W9;simp only[List.length_singleton];omega) ((Q2x _ (by omega)).bind fun y hy=>T.guard (by unfold W9;simp only[List.length_append,List.length_singleton];omega) (T.pure ⟨hx,by simp only[List.length_append,List.length_singleton];omega,fun h=>absurd h h2⟩)))
  ·exact T.if ((Q3n h (by omega) _).bind fun r hr=>j1 _ _ _ h2 (hr.mono (by omega))) (j1 _ _ _ h2 m)
def Q6y(t:Yc):Prop:=t.2.2.1.length≤500000∧t.2.2.2.1.length≤500000
structure V8(K:Nat)(p:Z1):Prop where
 cl:Qa K p.1
 sv:Qa K p.2.1
 ls:p.2.2.1.length≤1000
 lc:p.2.2.2.1.length≤1000
 tn:p.2.2.2.2.1.length≤1000
 tr: ∀t∈p.2.2.2.2.1,Q6y t
theorem V8.mono{K K':Nat}{p:Z1}(h:V8 K p)(hK:K≤K'):V8 K' p:=⟨h.cl.mono hK,h.sv.mono hK,h.ls,h.lc,h.tn,h.tr⟩
theorem Zx6(l:List Zy)(h:l.length≤1000000):Ys l=some (l,()):=by
 unfold Ys
 rw[Zc (by unfold Qv;simp only[List.length_nil];omega)];rfl
theorem Ql4{K:Nat}{p:Z1}(h:V8 K p)(hK:K≤1000000):Zc2 p=some (p,()):=by
 have:=h.ls;have:=h.lc;have:=h.tn
 have g: ([]:List Yc).length+p.2.2.2.2.1.length≤Qv:=by unfold Qv;simp only[List.length_nil];omega
 unfold Zc2
 rw[Kg h.cl hK,Kg h.sv hK,Zx6 _ (by omega),Zx6 _ (by omega)]
 simp only[Option.bind_some,Vp,Vd,Zc g]
 rfl
theorem Qtk{K:Nat}{p:Z1}(h:V8 K p)(hK:K≤1000000)(b:Bool):T (Zc8 p b) fun r=>Qa K r.1:=by
 unfold Zc8
 rw[Kg h.cl hK,Kg h.sv hK]
 exact T.if (T.pure h.sv) (T.pure h.cl)
theorem Zwi{K:Nat}{p:Z1}(h:V8 K p)(b:Bool):T (Zbm p b) fun r=>r.1=(bif b then p.2.2.1 else p.2.2.2.1):=by
 have:=h.ls;have:=h.lc
 unfold Zbm
 rw[Zx6 _ (by omega),Zx6 _ (by omega)]
 cases b
 ·exact T.pure rfl
 ·exact T.pure rfl
theorem Ql5{K:Nat}{p:Z1}{c:Zg}(h:V8 K p)(hc:Qa K c)(b:Bool):T (Zc3 p b c) fun r=>V8 K r.2.1:=by
 unfold Zc3
 exact T.if (T.pure ⟨h.cl,hc,h.ls,h.lc,h.tn,h.tr⟩) (T.pure ⟨hc,h.sv,h.ls,h.lc,h.tn,h.tr⟩)
theorem Q51{K:Nat}{p:Z1}(h:V8 K p)(i:Int)(b:Bool)(Q:Yc→Prop)(h0:Q Qq)(hq: ∀t∈p.2.2.2.2.1,Q t):T (Zy0 p i b) fun r=>Q r.1:=by
 have hn:=h.tn
 have lp: ∀(t:Yc) (N k:Nat),p.2.2.2.2.1.length-k<N→k≤p.2.2.2.2.1.length→T (Zi8 N i b p t (k:Int)) fun r=>Q r.1:=by
  intro t N
  induction N with
  |zero=>intro k h;omega
  |succ N ih=>
   intro k hN hk
   unfold Zi8
   refine T.ite (fun hd=> ?_) fun _=>T.pure h0
   have hd:=of_decide_eq_true hd
   refine T.guard (by omega) (T.guard (fun _=>by omega) (T.if (T.guard (by omega) (T.pure (hq _ (Qx (by omega))))) ?_))
   rw[Zo (m:=p.2.2.2.2.1.length) (by omega) (by omega)]
   exact ih (k+1) (by omega) (by omega)
 exact lp _ _ 0 (by unfold Zk8;omega) (by omega)
theorem Q3b{K:Nat}{p:Z1}(h:V8 K p)(i:Int)(b:Bool)(n:Nat)(hq: ∀t∈p.2.2.2.2.1,t.2.2.1.length≤n∧t.2.2.2.1.length≤n):T (Za7 p i b) fun r=>r.1.2.2.1.length≤n∧r.1.2.2.2.1.length≤n:=by
 unfold Za7
 exact(Q51 h i b (fun t=>t.2.2.1.length≤n∧t.2.2.2.1.length≤n) (by exact⟨Nat.zero_le _,Nat.zero_le _⟩) hq).bind fun r hr=>T.if (T.pure (by simp)) (T.pure hr)
theorem Qo5{K:Nat}{p:Z1}(h:V8 K p)(hn:p.2.2.2.2.1.length≤900){t:Yc}(ht:Q6y t):T (Zlj p t) fun r=>V8 K r.2.1:=by
 have lp: ∀(N k:Nat),p.2.2.2.2.1.length-k<N→k≤p.2.2.2.2.1.length→T (Zlk N p t (k:Int)) fun r=>V8 K r.2.1:=by
  intro N
  induction N with
  |zero=>intro k h;omega
  |succ N ih=>
   intro k hN hk
   unfold Zlk
   refine T.ite (fun hd=> ?_) fun _=>T.guard (by unfold Qv;simp only[List.length_singleton];omega) (T.pure ⟨h.cl,h.sv,h.ls,h.lc,by simp only[List.length_append,List.length_singleton];omega,fun x hx=> ?_⟩)
   ·have hd:=of_decide_eq_true hd
    refine T.guard (by omega) (T.guard (fun _=>by omega) (T.if (T.guard (by omega) (T.pure ⟨h.cl,h.sv,h.ls,h.lc,by simp only[List.length_set];omega,fun x hx=> ?_⟩)) ?_))
    ·rcases List.mem_or_eq_of_mem_set hx with hx|hx
     ·exact h.tr x hx
     ·rw[hx];exact ht
    ·rw[Zo (m:=p.2.2.2.2.1.length) (by omega) (by omega)]
     exact ih (k+1) (by omega) (by omega)
   ·rcases List.mem_append.1 hx with hx|hx
    ·exact h.tr x hx
    ·rw[List.mem_singleton.1 hx];exact ht
 exact lp _ 0 (by unfold Zmq;omega) (by omega)
theorem Qcb(l:List Zy)(hl:l.length≤100000):T (Wu l) fun r=>r.1=true→ ∀x∈l,x.2.1.length≤400:=by
 have lp: ∀(N k:Nat),l.length-k<N→k≤l.length→(∀x∈l.take k,x.2.1.length≤400)→T (Vh N l (k:Int)) fun r=>r.1=true→ ∀x∈l,x.2.1.length≤400:=by
  intro N
  induction N with
  |zero=>intro k h;omega
  |succ N ih=>
   intro k hN hk hx
   unfold Vh
   refine T.ite (fun hd=> ?_) fun hd=>T.pure fun _=>by
    have hd:=of_decide_eq_false hd
    rwa [List.take_of_length_le (by omega)]at hx
   have hd:=of_decide_eq_true hd
   refine T.guard (by omega) ((tIn _ _ _).bind fun t1 _=>T.guard (fun _=>by omega) (T.bind (Q:=fun r=>r.1=true→(l.getD (k:Int).toNat Qp).2.1.length≤400) (T.if (T.pure fun h=>by cases h) ((inT _ _ _).bind (f:=fun r=>some r) (fun r hr=>T.pure fun h=>by have:=hr h;omega)|>fun h=>by simpa using h)) fun t2 h2=>T.ite (fun _=>T.pure fun h=>by cases h) fun hc=> ?_))
   rw[Zo (m:=l.length) (by omega) (by omega)]
   refine ih (k+1) (by omega) (by omega) fun x hm=> ?_
   rw[List.take_succ_eq_append_getElem (by omega)]at hm
   rcases List.mem_append.1 hm with hm|hm
   ·exact hx x hm
   ·rw[List.mem_singleton.1 hm]
    have:=h2 (by simp at hc;exact hc.2)
    rwa [show(k:Int).toNat=k from rfl,List.getD_eq_getElem?_getD,List.getElem?_eq_getElem (by omega)]at this
 exact lp _ 0 (by unfold Ku;omega) (by omega) (by simp)
structure PrW(K:Nat)(p:Z1):Prop where
 cl:Qa K p.1
 sv:Qa K p.2.1
 ls:p.2.2.1.length≤1000
 lc:p.2.2.2.1.length≤1000
 tn:p.2.2.2.2.1.length≤1000
theorem V8.w{K:Nat}{p:Z1}(h:V8 K p):PrW K p:=⟨h.cl,h.sv,h.ls,h.lc,h.tn⟩
structure PrF(p:Z1):Prop where
 tr: ∀t∈p.2.2.2.2.1,t.2.2.1.length≤4000∧t.2.2.2.1.length≤4000
 ls: ∀x∈p.2.2.1,x.2.1.length≤400
 lc: ∀x∈p.2.2.2.1,x.2.1.length≤400
theorem Qo0{K:Nat}{p:Z1}(h:PrW K p)(hK:K≤1000000):T (Zfm p) fun r=>r.1=true→PrF p:=by
 have hn:=h.tn;have:=h.ls;have:=h.lc
 have lp: ∀(N k:Nat),p.2.2.2.2.1.length-k<N→k≤p.2.2.2.2.1.length→(∀x∈p.2.2.2.2.1.take k,x.2.2.1.length≤4000∧x.2.2.2.1.length≤4000)→T (Zd6 N p (k:Int)) fun r=>r.1=true→PrF p:=by
  intro N
  induction N with
  |zero=>intro k h;omega
  |succ N ih=>
   intro k hN hk hx
   unfold Zd6
   refine T.ite (fun hd=> ?_) fun hd=> ?_
   ·have hd:=of_decide_eq_true hd
    refine T.guard (by omega) ((Qqj _).bind fun t1 _=>T.ite (fun _=>T.pure fun h=>by cases h) fun hc=> ?_)
    rw[Zo (m:=p.2.2.2.2.1.length) (by omega) (by omega)]
    refine ih (k+1) (by omega) (by omega) fun x hm=> ?_
    rw[List.take_succ_eq_append_getElem (by omega)]at hm
    rcases List.mem_append.1 hm with hm|hm
    ·exact hx x hm
    ·rw[List.mem_singleton.1 hm]
     simp only[Bool.or_eq_false_iff,decide_eq_false_iff_not]at hc
     rw[show(k:Int).toNat=k from rfl,List.getD_eq_getElem?_getD,List.getElem?_eq_getElem (by omega)]at hc
     simp only[Option.getD_some]at hc
     omega
   ·have hd:=of_decide_eq_false hd
    rw[List.take_of_length_le (by omega)]at hx
    exact(Zn5 h.cl hK).bind fun t1 _=>T.bind (Q:=fun _=>True) (T.if (Zn5 h.sv hK) T.tt) fun t2 _=>T.bind (Q:=fun r=>r.1=true→ ∀x∈p.2.2.1,x.2.1.length≤400) (T.if (Qcb _ (by omega)) (T.pure fun h=>by cases h)) fun t3 h3=>T.bind (Q:=fun r=>r.1=true→ ∀x∈p.2.2.2.1,x.2.1.length≤400) (T.if (Qcb _ (by omega)) (T.pure fun h=>by cases h)) fun t4 h4=>T.pure fun hb=>by
     simp only[Bool.and_eq_true]at hb
     exact⟨hx,h3 hb.1.1.2,h4 hb.1.2⟩
 exact lp _ 0 (by unfold Wo;omega) (by omega) (by simp)
theorem Q5b{K:Nat}{p:Z1}(h:V8 K p)(hf: ∀t∈p.2.2.2.2.1,t.2.2.1.length≤4000∧t.2.2.2.1.length≤4000)(hn:p.2.2.2.2.1.length≤900){c:Zg}(hc:Qa K c)(hK:K≤400000)(b:Bool)(e:Jc)(he:e.2.2.2.1.length≤10000)(out:List UInt8)(ho:out.length≤1048576)
  (h2:e.1=2→ ∀n:Int,Go.Lib.itoa n=out→n≤e.2.2.2.1.length):T (Zp6 p b e out c) fun r=>V8 K r.2.1:=by
 have tk: ∀b,T (Za7 p e.2.1 b) fun r=>r.1.2.2.1.length≤4000∧r.1.2.2.2.1.length≤4000:=fun b=>Q3b h _ b 4000 hf
 have pt: ∀{t:Yc},t.2.2.1.length≤4000∧t.2.2.2.1.length≤4000→Q6y t:=fun q=>⟨by omega,by omega⟩
 unfold Zp6
 simp only[Vp]
 refine T.ite (fun hk=> ?_) fun _=>T.if (T.if ((tk _).bind fun r hr=> ?_) (T.pure h)) (T.if ((Qjd hc (by omega) _ _).bind fun r hr=>(Zc4 hc (by omega) _).bind fun s _=>T.if ((tk _).bind fun t ht=> ?_) (T.pure h)) (T.if (T.if ((tk _).bind fun r hr=> ?_) (T.pure h)) (T.if (T.if ((tk _).bind fun r hr=> ?_) (T.pure h)) (T.pure h))))
 ·have hk:e.1=2:=by simpa using hk
  refine(Q06 out (by omega)).bind fun r hr=>T.ite (fun hp=>(tk _).bind fun t ht=> ?_) fun _=>T.pure h
  have hp:=of_decide_eq_true hp
  have hl:r.1≤e.2.2.2.1.length:=by
   rcases hr with hr|hr
   ·omega
   ·exact h2 hk _ hr
  unfold Zsn
  have hz: ((e.2.2.2.1.drop (0:Int).toNat).take (r.1.toNat- (0:Int).toNat)).length≤10000:=by rw[List.length_take,List.length_drop];omega
  exact T.guard (by omega) (T.guard (by unfold W9;omega) ((Qo5 h hn (by exact⟨by simp only[List.length_append];omega,by simp only;omega⟩)).bind fun q hq=>T.pure hq))
 ·unfold Zso
  exact(Qo5 h hn (by exact pt hr)).bind fun q hq=>T.pure hq
 ·unfold Zsp
  have:=hr.2
  exact T.guard (by unfold W9;omega) ((Qo5 h hn (by exact⟨by simp only;omega,by simp only[List.length_append];omega⟩)).bind fun q hq=>T.pure hq)
 ·unfold Zsq
  exact(Qo5 h hn (by exact pt hr)).bind fun q hq=>T.pure hq
 ·unfold Zsr
  exact(Qo5 h hn (by exact pt hr)).bind fun q hq=>T.pure hq
theorem Qss(l:List Zy)(hl:l.length≤1000)(x:Zy):T (Zk6 l x) fun r=>r.1.length≤1000:=by
 unfold Zk6
 rw[Zx6 _ (by omega),Option.bind_some]
 exact T.ite (fun _=>T.pure hl) fun hc=>T.guard (by unfold Qv;simp only[List.length_singleton];omega) (T.pure (by have:=of_decide_eq_false hc;simp only[List.length_append,List.length_singleton];omega))
theorem Z3s{K:Nat}{p:Z1}(h:V8 K p)(hK:K≤80000)(b:Bool)(e:Jc)(he:e.2.2.2.1.length≤10000)(he2:e.1=2→e.2.2.2.1.length≤90):T (Zeh p b e) fun r=>V8 (K+1100) r.1.2.1:=by
 have m:=h.mono (K':=K+1100) (by omega)
 have hls:=h.ls;have hlc:=h.lc
 unfold Zeh
 rw[Ql4 h (by omega),Option.bind_some]
 refine(Qo0 h.w (by omega)).bind fun t1 h1=>T.bind (Q:=fun _=>True) (T.if T.tt (Q2l e he)) fun t2 _=>T.bind (Q:=fun r=>(!t1.1|| !t2.1)=false→r.1=false→e.1≠9∧e.1≠10∧e.1≠11) (T.ite (fun hc=>T.pure fun h'=>by rw[hc]at h';cases h') fun _=>⟨_,Zrw _ _ _,fun _ hc=>by simp at hc;omega⟩) fun t3 h3=>T.bind (Q:=fun _=>True) (T.if (T.if T.tt ((Zwi h _).mono fun _ _=>trivial)) T.tt) fun t4 _=>T.ite (fun _=>T.pure m) fun hc=>(Qtk h (by omega) b).bind fun c hcv=>T.bind (Q:=fun _=>True) (T.if (by unfold V7;exact T.tt) T.tt) fun t5 _=>T.if ((Qxr hcv (by omega) _).bind fun r hr=>(Ql5 m (hr.mono (by omega)) b).bind fun x hx=>T.if (T.pure hx) ((Zwi h _).bind fun l hl=> ?_)) ?_
 ·have hq:=Qss l.1 (by rw[hl];cases b<;>simp<;>omega) (r.1.2.1,(r.1.1,()))
  refine hq.bind fun y hy=>T.if ?_ ?_
  ·unfold Zfu
   exact(Q2r _).bind fun q _=>T.pure ⟨hx.cl,hx.sv,hx.ls,hy,hx.tn,hx.tr⟩
  ·unfold Zfu
   exact(Q2r _).bind fun q _=>T.pure ⟨hx.cl,hx.sv,hy,hx.lc,hx.tn,hx.tr⟩
 ·simp only[Bool.or_eq_false_iff,decide_eq_false_iff_not]at hc
  have f:=h1 (by simpa using hc.1.1.1.1)
  have k:=h3 (by simp only[Bool.or_eq_false_iff];exact hc.1.1.1) hc.1.1.2
  refine(Qxi e hcv hK he he2 k.1 k.2.1 k.2.2).bind fun r hr=> ?_
  unfold Zc3
  have note: ∀x:Z1,V8 (K+1100) x→x.2.2.2.2.1=p.2.2.2.2.1→T (Option.bind (Zp6 x b e r.1.1 c.1) fun t109=>some ((r.1.1,(t109.2.1,())),())) fun r=>V8 (K+1100) r.1.2.1:=fun x hx ht=>
   (Q5b hx (by rw[ht];exact f.tr) (by rw[ht];omega) (hcv.mono (by omega)) (by omega) b e he r.1.1 hr.2.1 hr.2.2).bind fun q hq=>T.pure hq
  cases b
  ·exact note (r.1.2.1,p.2) ⟨hr.1,m.sv,m.ls,m.lc,m.tn,m.tr⟩ rfl
  ·exact note (p.1,(r.1.2.1,p.2.2)) ⟨m.cl,hr.1,m.ls,m.lc,m.tn,m.tr⟩ rfl
theorem Qy1(l:List Zy)(hl:l.length≤1000)(a:Int)(n:Nat)(hn: ∀x∈l,x.2.1.length≤n):T (Znw l a) fun r=>r.2.1.length≤1000∧r.1.2.1.length≤n:=by
 unfold Znw
 rw[Zx6 _ (by omega)]
 refine(inT _ _ _).bind fun t ht=>T.ite (fun _=>T.pure ⟨hl,by simp⟩) fun hc=> ?_
 have hr:=ht (by simpa using hc)
 rw[Zv (by omega) (by omega)]at hr
 have lp: ∀(t:Zy) (N i:Nat) (out:List Zy),l.length-i<N→i≤l.length→out.length≤i→T (Zaw N l a t out (i:Int)) fun r=>r.2.1.length≤1000∧r.1.2.1.length≤n:=by
  intro t N
  induction N with
  |zero=>intro i out h;omega
  |succ N ih=>
   intro i out hN hi ho
   unfold Zaw
   refine T.ite (fun hd=> ?_) fun _=>T.guard (by omega) (T.pure ⟨by simp only;omega,hn _ (Qx (by omega))⟩)
   have hd:=of_decide_eq_true hd
   unfold Zim
   rw[Zo (m:=l.length) (by omega) (by omega)]
   exact T.if (T.guard (by omega) (T.guard (by unfold Qv;simp only[List.length_singleton];omega) (ih (i+1) _ (by omega) (by omega) (by simp only[List.length_append,List.length_singleton];omega)))) (ih (i+1) _ (by omega) (by omega) (by simp only;omega))
 exact lp _ _ 0 [] (by unfold Zhl;omega) (by omega) (by simp)
theorem Q0t(l:List Zy)(hl:l.length≤1000)(a:Int):TT (Zuk l a):=by
 have lp: ∀(N i:Nat),l.length-i<N→i≤l.length→TT (Zfl N l a (i:Int)):=by
  intro N
  induction N with
  |zero=>intro i h;omega
  |succ N ih=>
   intro i hN hi
   unfold Zfl
   refine T.ite (fun hd=> ?_) fun _=>T.tt
   have hd:=of_decide_eq_true hd
   refine T.guard (by omega) (T.if T.tt ?_)
   rw[Zo (m:=l.length) (by omega) (by omega)]
   exact ih (i+1) (by omega) (by omega)
 exact lp _ 0 (by unfold Zii;omega) (by omega)
theorem Qxm(l:List Zy)(hl:l.length≤1000)(a:Int):T (Znj l a) fun r=>r.1.length≤1000:=by
 unfold Znj
 rw[Zx6 _ (by omega)]
 refine(inT _ _ _).bind fun t ht=>T.ite (fun _=>T.pure hl) fun hc=> ?_
 have hr:=ht (by simpa using hc)
 rw[Zv (by omega) (by omega)]at hr
 exact T.guard (by omega) ((Qss l hl _).bind fun q hq=>T.pure hq)
theorem Qzs{K:Nat}{p:Z1}(h:V8 K p)(b:Bool)(a:Int)(n:Nat)(hs: ∀x∈p.2.2.1,x.2.1.length≤n)(hc: ∀x∈p.2.2.2.1,x.2.1.length≤n):T (Zma p b a) fun r=>V8 K r.2.1∧r.1.1.2.1.length≤n:=by
 have hls:=h.ls;have hlc:=h.lc
 unfold Zma
 refine(Zwi h b).bind fun l hl=>(Qy1 l.1 (by rw[hl];cases b<;>simp<;>omega) a n (by rw[hl];cases b;exact hc;exact hs)).bind fun r hr=> ?_
 unfold Zn1
 exact T.if (T.pure ⟨⟨h.cl,h.sv,hr.1,h.lc,h.tn,h.tr⟩,hr.2⟩) (T.pure ⟨⟨h.cl,h.sv,h.ls,hr.1,h.tn,h.tr⟩,hr.2⟩)
theorem Q36{K:Nat}{p:Z1}(h:V8 K p)(b:Bool)(a:Int):T (Zma p b a) fun r=>V8 K r.2.1∧(PrF p→r.1.1.2.1.length≤400):=by
 have big: ∀l:List Zy,∃n,∀x∈l,x.2.1.length≤n:=fun l=>by
  induction l with
  |nil=>exact⟨0,by simp⟩
  |cons x l ih=>
   obtain⟨n,hn⟩:=ih
   exact⟨n+x.2.1.length,fun y hy=>by
    rcases List.mem_cons.1 hy with rfl|hy
    ·omega
    ·have:=hn y hy;omega⟩
 by_cases f:PrF p
 ·exact(Qzs h b a 400 f.ls f.lc).mono fun r hr=>⟨hr.1,fun _=>hr.2⟩
 ·obtain⟨n,hn⟩:=big (p.2.2.1++p.2.2.2.1)
  exact(Qzs h b a n (fun x hx=>hn x (by simp[hx])) (fun x hx=>hn x (by simp[hx]))).mono fun r hr=>⟨hr.1,fun h'=>absurd h' f⟩
theorem Q4l{K:Nat}{p:Z1}(h:V8 K p)(h25:25≤K)(hK:K≤380000)(b:Bool)(a:Int):T (Zs9 p b a) fun r=>V8 (K+2000) r.1.1:=by
 have m:=h.mono (K':=K+2000) (by omega)
 have j3: ∀t x d,V8 (K+2000) x→Qa (K+2000) d→T (Xy b t x d) fun r=>V8 (K+2000) r.1.1:=fun t x d hx hd=>by
  unfold Xy Zi1
  exact(Ql5 hx hd _).bind fun q hq=>T.pure hq
 have j1: ∀t x l c e,V8 (K+2000) x→Qa (K+2000) c→T (Xx b p t x l c e) fun r=>V8 (K+2000) r.1.1:=fun t x l c e hx hc=>by
  unfold Xx
  simp only[Vp,Vd]
  refine(Ql5 hx hc _).bind fun q hq=>T.if ((Qtk h (by omega) _).bind fun d hd=>(Q0c hd (by omega) _).bind fun y hy=>j3 _ _ _ hq (hy.mono (by omega))) ?_
  unfold Zi1
  exact T.pure hq
 unfold Zs9
 simp only[Vp,Vd]
 rw[Ql4 h (by omega),Option.bind_some]
 refine(Q36 h b a).bind fun r hr=>(Qo0 h.w (by omega)).bind fun t1 h1=>T.ite (fun _=>by rw[Option.bind_some];exact T.pure m) fun hc=>(Qtk h (by omega) _).bind fun c hcv=> ?_
 simp only[Bool.or_eq_false_iff]at hc
 have f:=h1 (by simpa using hc.1)
 have hl:=hr.2 f
 exact(Q0s hcv h25 _ (by omega) (by omega)).bind fun q hq=>j1 _ _ _ _ _ (hr.1.mono (by omega)) (hq.mono (by omega))
theorem Q64{K:Nat}{p:Z1}(h:V8 K p)(hK:K≤380000)(b:Bool)(a:Int):T (Z3t p b a) fun r=>V8 (K+2000) r.1.1:=by
 have m:=h.mono (K':=K+2000) (by omega)
 unfold Z3t
 simp only[Vp,Vd]
 rw[Ql4 h (by omega),Option.bind_some]
 refine(Q36 h b a).bind fun r hr=>(Qo0 h.w (by omega)).bind fun t1 h1=>T.if (by rw[Option.bind_some];exact T.pure m) ((Zwi hr.1 _).bind fun l hl=>(Q0t _ (by have:=hr.1.ls;have:=hr.1.lc;rw[hl];cases b<;>simp<;>omega) _).bind fun t2 _=>T.if ((Qtk h (by omega) _).bind fun d hd=>(Qye hd (by omega) _).bind fun y hy=> ?_) ?_)
 ·unfold Jf Zpn
  exact(Ql5 (hr.1.mono (K':=K+2000) (by omega)) (hy.mono (by omega)) _).bind fun q hq=>T.pure hq
 ·unfold Zpn
  exact T.pure (hr.1.mono (by omega))
theorem Q94{K:Nat}{p:Z1}(h:V8 K p)(hK:K≤380000)(b:Bool)(a:Int):T (Zpo p b a) fun r=>V8 K r.1:=by
 have hls:=h.ls;have hlc:=h.lc
 unfold Zpo
 rw[Ql4 h (by omega),Option.bind_some]
 refine(Zwi h b).bind fun l hl=>(Qxm l.1 (by rw[hl];cases b<;>simp<;>omega) a).bind fun r hr=>(Qo0 h.w (by omega)).bind fun t1 h1=>T.if (T.pure h) ?_
 unfold Zka
 exact T.if (T.pure ⟨h.cl,h.sv,hr,h.lc,h.tn,h.tr⟩) (T.pure ⟨h.cl,h.sv,h.ls,hr,h.tn,h.tr⟩)
def EQ(r: (Jc×Unit)×(Qm×Unit)):Prop:=Kv r.2.1∧r.1.1.2.2.2.1.length≤10000∧(r.1.1.1=2→r.1.1.2.2.2.1.length≤90)
theorem Q3a(c:Qm)(hc:Kv c):T (Zrl c) EQ:=by
 have j1: ∀c t e,Kv c→e.2.2.2.1.length≤10000→(e.1=2→e.2.2.2.1.length≤90)→T (Kh c t e) EQ:=fun c t e hc he h2=>by
  unfold Kh
  exact(Q6i e).bind fun r hr=>T.pure ⟨hc,by simp only;omega,fun h=>by have:=h2 (hr.2.symm.trans h);simp only;omega⟩
 have j2: ∀c t e b,Kv c→e.2.2.2.1.length≤10000→(e.1=2→e.2.2.2.1.length≤90)→T (Zht c t e b) EQ:=fun c t e b hc he h2=>by
  unfold Zht
  exact T.if ((Zln _ _ hc).bind fun r hr=>j1 _ _ _ hr.1 (by exact he) (by exact h2)) (j1 _ _ _ hc he h2)
 have p4: ∀{x:List UInt8} {l:List (List UInt8)},x∈l→(∀y∈l,y.length≤10)→x.length≤10:=fun h k=>k _ h
 unfold Zrl
 exact(Q32 c _ hc (by simp)).bind fun t1 h1=>(Zln _ _ h1.1).bind fun t2 h2=>(Zln _ _ h2.1).bind fun t3 h3=>T.if ((Q33 _ _ h3.1 (by simp)).bind fun t4 h4=>by have:=p4 h4.2 (by simp);exact j1 _ _ _ h4.1 (by simp only;omega) (fun _=>by simp only;omega)) (T.if ((Qqi _ 7 h3.1 (by omega)).bind fun t4 h4=>T.guard (by unfold W9;simp only[List.length_singleton];omega) (j1 _ _ _ h4.1 (by simp only[List.length_append,List.length_singleton];omega) (fun _=>by simp only[List.length_append,List.length_singleton];omega))) (T.if ((Q33 _ _ h3.1 (by simp)).bind fun t4 h4=>by have:=p4 h4.2 (by simp);exact j1 _ _ _ h4.1 (by simp only;omega) (fun _=>by simp only;omega)) (T.if ((Zln _ _ h3.1).bind fun t4 h4=>j1 _ _ _ h4.1 (by simp) (by simp)) (T.ite (fun hk=>(Q5f _ h3.1).bind fun t4 h4=>(Qon h4.2).bind fun s hs=>T.bind (Q:=fun r=>r.1.length≤10000) ⟨_,Q86 s.1 (by omega),by simp only[Qv6];omega⟩ fun q hq=>j1 _ _ _ h4.1 hq (fun h=>absurd ((show t1.1.1=2 from h).symm.trans (show t1.1.1=11 by simpa using hk)) (by decide))) fun _=>T.if (j2 _ _ _ _ h3.1 (by simp) (by simp)) (j2 _ _ _ _ h3.1 (by simp) (by simp))))))
def PQ(K:Nat)(r: (Z1×Unit)×(Qm×Unit)):Prop:=Kv r.2.1∧V8 K r.1.1
theorem Q5d{K:Nat}{p:Z1}(h:V8 K p)(h25:25≤K)(hK:K≤70000)(c:Qm)(hc:Kv c):T (Zti c p) (PQ (K+2000)):=by
 have bf: ∀{a b:Int},(a==b)=false→a≠b:=fun h=>by simpa using h
 have bt: ∀{a b:Int},(a==b)=true→a=b:=fun h=>by simpa using h
 have j3: ∀c t b x k q,Kv c→(q=false→k=8∨k=9)→T (Zji c p t b x k q) (PQ (K+2000)):=fun c t b x k q hc hq=>by
  unfold Zji
  simp only[Vp,Vd]
  refine T.ite (fun _=>(Zln _ _ hc).bind fun t1 h1=>(Q4l h h25 (by omega) _ _).bind fun r hr=>T.pure ⟨h1.1,hr⟩) fun h0=>T.ite (fun _=>(Zln _ _ hc).bind fun t1 h1=>(Q64 h (by omega) _ _).bind fun r hr=>T.pure ⟨h1.1,hr⟩) fun h8=>T.ite (fun _=>(Zln _ _ hc).bind fun t1 h1=>(Q94 h (by omega) _ _).bind fun r hr=>T.pure ⟨h1.1,hr.mono (by omega)⟩) fun h9=> ?_
  exact((hq h0).elim (bf h8) (bf h9)).elim
 have j2: ∀c t b x k q,Kv c→(q=false→6≤k∧k<10)→T (Ze9 c p t b x k q) (PQ (K+2000)):=fun c t b x k q hc hq=>by
  unfold Ze9
  simp only[Vp]
  exact T.ite (fun _=>(Zln _ _ hc).bind fun t1 h1=>(Z3s h (by omega) _ _ (by simp) (by simp)).bind fun r hr=>T.pure ⟨h1.1,hr.mono (by omega)⟩) fun h0=>T.ite (fun h6=>j3 _ _ _ _ _ _ hc fun e=>(bf e (bt h6)).elim) fun h6=>j3 _ _ _ _ _ _ hc fun e=>by
   have:=hq h0;have:=bf h6;have:=bf e;omega
 have j1: ∀c t b x k q,Kv c→(q=false→3≤k∧k<10)→T (Ze8 c p t b x k q) (PQ (K+2000)):=fun c t b x k q hc hq=>by
  unfold Ze8
  exact T.ite (fun _=>(Q3a c hc).bind fun t1 h1=>(Z3s h (by omega) _ _ h1.2.1 h1.2.2).bind fun r hr=>T.pure ⟨h1.1,hr.mono (by omega)⟩) fun h0=>T.ite (fun h3=>j2 _ _ _ _ _ _ hc fun e=>(bf e (bt h3)).elim) fun h3=>T.ite (fun h4=>j2 _ _ _ _ _ _ hc fun e=>(bf e (bt h4)).elim) fun h4=>j2 _ _ _ _ _ _ hc fun e=>by
   have:=hq h0;have:=bf h3;have:=bf h4;have:=bf e;omega
 unfold Zti
 exact(Qs1 c _ hc).bind fun t1 h1=>(Zln _ _ h1).bind fun t2 h2=>T.ite (fun h3=>j1 _ _ _ _ _ _ h2.1 fun e=>(bf e (bt h3)).elim) fun h3=>T.ite (fun h4=>j1 _ _ _ _ _ _ h2.1 fun e=>(bf e (bt h4)).elim) fun h4=>j1 _ _ _ _ _ _ h2.1 fun e=>by
  have:=bf h3;have:=bf h4;have:=bf e;have:=h2.2.1;have:=h2.2.2 (by omega);omega
theorem Q5j(a b:Zo0):T (Zta a b) fun r=>V8 25 r.1:=by
 unfold Zta
 exact(Qwj _ _ _).bind fun x hx=>(Qwj _ _ _).bind fun y hy=>T.if (T.pure ⟨Qa.mono (Qa.zero rfl rfl) (by omega),Qa.mono (Qa.zero rfl rfl) (by omega),Nat.zero_le _,Nat.zero_le _,Nat.zero_le _,fun _ h=>by cases h⟩) (T.pure ⟨hx.mono (by omega),hy.mono (by omega),by simp,by simp,by simp,by simp⟩)
theorem Q5c(c:Qm)(hc:Kv c):T (Zth c) (PQ 40000):=by
 have lp: ∀(t:Z1) (N m:Nat) (c:Qm) (x:Z1) (K:Nat),m<N→25≤K→Kv c→V8 K x→K+2000*m≤40000→T (Zjh N c t x (m:Int)) (PQ 40000):=by
  intro t N
  induction N with
  |zero=>intro m c x K h;omega
  |succ N ih=>
   intro m c x K hm h25 hc hx hK
   unfold Zjh
   refine T.ite (fun hd=>(Q5d hx h25 (by omega) c hc).bind fun t1 h1=> ?_) fun _=>T.pure ⟨hc,hx.mono (by omega)⟩
   have hd:=of_decide_eq_true hd
   rw[show IntKind.i64.wrap ((m:Int)-1)=((m-1:Nat):Int) by rw[Zv (by omega) (by omega)];omega]
   exact ih (m-1) _ _ (K+2000) (by omega) (by omega) h1.1 h1.2 (by omega)
 have cf: ∀c,Kv c→T (Zl7 c) fun r=>Kv r.2.1:=fun c hc=>by
  obtain⟨y,c',e,k,-⟩:=Q47 c hc;exact⟨_,e,k⟩
 unfold Zth
 simp only[Vp]
 refine(cf c hc).bind fun t1 h1=>(cf _ h1).bind fun t2 h2=>(Q5j _ _).bind fun p hp=>(Z3s hp (by omega) _ _ (by simp) (by simp)).bind fun r hr=>(Qqi _ 8 h2 (by omega)).bind fun t3 h3=>T.guard (by unfold W9;simp only[List.length_singleton];omega) ((Z3s hr (by omega) _ _ (by simp only[List.length_append,List.length_singleton];omega) (fun _=>by simp only[List.length_append,List.length_singleton];omega)).bind fun y hy=> ?_)
 unfold Zss
 refine(Zln _ _ h3.1).bind fun t4 h4=> ?_
 have:=h4.2.2 (by omega)
 obtain⟨m,hm⟩:=Int.eq_ofNat_of_zero_le h4.2.1
 rw[hm]
 exact lp _ _ m _ _ _ (by unfold Zli;omega) (by omega) h4.1 hy (by omega)
theorem Q7b(c:Qm)(hc:Kv c):T (Zvs c) (PQ 40000):=by
 unfold Zvs
 exact(Q5c c hc).bind fun t h=>(Zln _ _ h.1).bind fun t1 h1=>T.if (T.pure ⟨h1.1,⟨h.2.cl.str,h.2.cl.pk⟩,h.2.sv,h.2.ls,h.2.lc,h.2.tn,h.2.tr⟩) (T.if (T.pure ⟨h1.1,h.2.cl,⟨h.2.sv.str,h.2.sv.pk⟩,h.2.ls,h.2.lc,h.2.tn,h.2.tr⟩) (T.pure ⟨h1.1,h.2⟩))
theorem Q19(code:List Int)(h:code.length≤1048576):T (Zqq code) fun r=>Kv r.1:=by
 obtain⟨c,e,k⟩:=Q4j code h;exact⟨_,e,k⟩
structure Q8u(c:Zg):Prop where
 pn: ∀p∈c.2.2.2.2.2.2.2.2.2.2.2.2.2.2.2.1,0≤p.1∧p.1≤9223372036854775807
 tot:0≤c.2.2.2.2.1.2.1∧c.2.2.2.2.1.2.1≤c.2.2.2.2.1.1∧c.2.2.2.2.1.1≤4611686018427387903
 inf:0≤c.2.2.2.2.2.1.2.2.2.1∧c.2.2.2.2.2.1.2.2.2.1≤c.2.2.2.2.2.1.2.2.1∧c.2.2.2.2.2.1.2.2.1≤4611686018427387903
 bid:0≤c.2.2.2.2.2.2.1.2.1∧c.2.2.2.2.2.2.1.2.1≤c.2.2.2.2.2.2.1.1∧c.2.2.2.2.2.2.1.1≤4611686018427387903
 uni:0≤c.2.2.2.2.2.2.2.1.2.1∧c.2.2.2.2.2.2.2.1.2.1≤c.2.2.2.2.2.2.2.1.1∧c.2.2.2.2.2.2.2.1.1≤4611686018427387903
theorem Q18(c:Zjp):T (Za5 c) fun r=>r.1=true→0≤c.2.1∧c.2.1≤c.1∧c.1≤4611686018427387903:=by
 unfold Za5
 refine(inT _ _ _).bind fun t ht=>T.bind (Q:=fun r=>r.1=true→0≤c.2.1∧c.2.1≤c.1) (T.if (inT _ _ _) (T.pure fun h=>by cases h)) fun t2 h2=>T.bind (Q:=fun _=>True) (T.if (tIn _ _ _) T.tt) fun t3 _=>T.pure fun h=> ?_
 simp only[Bool.and_eq_true]at h
 have:=ht h.1.1;have:=h2 h.1.2
 omega
theorem Xaj{K:Nat}{c:Zg}(h:Qa K c)(hK:K≤1000000):T (Z6 c) fun r=>r.1=true→Q8u c:=by
 have hl:=h.pk.1
 have lp: ∀(N i:Nat),c.2.2.2.2.2.2.2.2.2.2.2.2.2.2.2.1.length-i<N→i≤c.2.2.2.2.2.2.2.2.2.2.2.2.2.2.2.1.length→(∀p∈c.2.2.2.2.2.2.2.2.2.2.2.2.2.2.2.1.take i,0≤p.1∧p.1≤9223372036854775807)→T (K7 N c (i:Int)) fun r=>r.1=true→ ∀p∈c.2.2.2.2.2.2.2.2.2.2.2.2.2.2.2.1,0≤p.1∧p.1≤9223372036854775807:=by
  intro N
  induction N with
  |zero=>intro i h;omega
  |succ N ih=>
   intro i hN hi hp
   unfold K7
   refine T.ite (fun hc=> ?_) fun hc=> ?_
   ·have hc:=of_decide_eq_true hc
    refine T.guard (by omega) ((inT _ _ _).bind fun t ht=>T.guard (fun _ _=>by omega) (T.guard (fun _ h=> ?_) (T.guard (fun _=>by omega) (T.bind (Q:=fun _=>True) (T.if T.tt (Qgh (h.pk.2 _ (Qx (by omega))))) fun t2 _=>T.ite (fun _=>T.pure fun h=>by cases h) fun hb=> ?_))))
    ·have:=of_decide_eq_true h
     rw[Zv (by omega) (by omega)];omega
    ·rw[Zo (m:=c.2.2.2.2.2.2.2.2.2.2.2.2.2.2.2.1.length) (by omega) (by omega)]
     refine ih (i+1) (by omega) (by omega) fun x hm=> ?_
     rw[List.take_succ_eq_append_getElem (by omega)]at hm
     rcases List.mem_append.1 hm with hm|hm
     ·exact hp x hm
     ·rw[List.mem_singleton.1 hm]
      simp only[Bool.or_eq_false_iff,Bool.not_eq_false']at hb
      have:=ht hb.1.1
      have w:=Qx7 (c.2.2.2.2.2.2.2.2.2.2.2.2.2.2.1-1)
      rw[show(i:Int).toNat=i from rfl,List.getD_eq_getElem?_getD,List.getElem?_eq_getElem (by omega),Option.getD_some]at this
      omega
   ·have hc:=of_decide_eq_false hc
    rw[List.take_of_length_le (by omega)]at hp
    exact(tIn _ _ _).bind fun t _=>T.bind (Q:=fun _=>True) (T.if (tIn _ _ _) T.tt) fun t _=>T.bind (Q:=fun _=>True) (T.if (tIn _ _ _) T.tt) fun t _=>T.bind (Q:=fun _=>True) (T.if (tIn _ _ _) T.tt) fun t ht=>
     T.bind (Q:=fun _=>True) (T.if (tt1 (Zwy h.str hK)) T.tt) fun t _=>T.bind (Q:=fun _=>True) (T.if (tt1 (Zwx h.str hK)) T.tt) fun t _=>T.pure fun _=>hp
 unfold Z6
 have B: ∀{α β:Type} {b:Bool} {m n:Option α} {f:α→Option β} {R:β→Prop},TT m→TT n→(∀y,T (f y) R)→T (Option.bind (bif b then m else n) f) R:=fun h1 h2 h3=>(T.if h1 h2).bind fun y _=>h3 y
 have B2: ∀{P:Prop} {β:Type} {b:Bool} {m:Option (Bool×Unit)} {f:Bool×Unit→Option β} {R:β→Prop},T m (fun r=>r.1=true→P)→(∀y,(y.1=true→P)→T (f y) R)→T (Option.bind (bif b then some (false,())else m) f) R:=fun h1 h3=>T.bind (T.if (T.pure fun h=>by cases h) h1) h3
 refine(tt1 (Zo8 _)).bind fun t _=>B T.tt (tt1 (Zo8 _)) fun t=>B T.tt (tt1 (Zn2 h.str hK)) fun t=>B2 (Qze _) fun t1 h1=>B2 (Q55 _) fun t2 h2=>B2 (Q18 _) fun t3 h3=>B2 (Q18 _) fun t4 h4=>B T.tt (tt1 (Zq4 _)) fun t=>B T.tt (tt1 (Zq4 _)) fun t=>
  T.ite (fun _=>T.pure fun h=>by cases h) fun hc=>(lp _ 0 (by unfold Kj;omega) (by omega) (by simp)).mono fun r hr hb=> ?_
 simp only[Bool.or_eq_false_iff,Bool.not_eq_false']at hc
 exact⟨hr hb,h1 hc.1.1.1.1.1.2,h2 hc.1.1.1.1.2,h3 hc.1.1.1.2,h4 hc.1.1.2⟩
def ltB(x:Zy):Bool:=(decide ((0:Int)≤x.1)&&decide (x.1≤999999))&& (decide ((1:Int)≤(x.2.1.length:Int))&&decide ((x.2.1.length:Int)≤400))
theorem ltI(x:Zy):Zj4 x=some (!ltB x,()):=by
 unfold Zj4 Z3 ltB
 rw[Option.bind_some,bO]
 cases (decide ((0:Int)≤x.1)&&decide (x.1≤999999))<;>simp
theorem Qo9{l:List Zy}(hl:l.length≤1000)(u:Unit): ∀(N i:Nat),l.length-i<N→i≤l.length→ ∃k b,Z9 N l u (l.length:Int) (i:Int)=some (k,())∧decide (k≥0)= !b∧Vh N l (i:Int)=some (b&&decide ((l.length:Int)≤60),())
 |0,_,h,_=>by omega
 |N+1,i,hN,hi=>by
  rw[Z9,Vh]
  by_cases hh:i<l.length
  ·rw[Zm (Zj (by omega)),Zm (Zj (by omega)),Zc (by omega),Zc (by omega),show(i:Int).toNat=i from rfl,ltI,Zrw,Zrw,Option.bind_some,Option.bind_some,Zc (fun _=>by omega),bO,Zo hh (by omega)]
   obtain⟨k,b,h1,h2,h3⟩:=Qo9 hl () N (i+1) (by omega) (by omega)
   have e: (!(decide ((l.getD i Qp).1≥0)&&decide ((l.getD i Qp).1≤999999))|| !(!!(decide ((l.getD i Qp).1≥0)&&decide ((l.getD i Qp).1≤999999))&& (decide (((l.getD i Qp).2.1.length:Int)≥1)&&decide (((l.getD i Qp).2.1.length:Int)≤400))))= !ltB (l.getD i Qp):=by
    unfold ltB
    simp only[ge_iff_le,Bool.not_not]
    cases (decide ((0:Int)≤(l.getD i Qp).1)&&decide ((l.getD i Qp).1≤999999))<;>simp
   simp only[e]
   cases hc:ltB (l.getD i Qp)
   ·exact⟨_,false,rfl,by simp,rfl⟩
   ·exact⟨k,b,h1,h2,h3⟩
  ·rw[Zi (Zk (by omega)),Zi (Zk (by omega))];exact⟨_,true,rfl,by simp,by simp⟩
theorem Qin(l:List Zy)(hl:l.length≤1000):Zip l=Wu l:=by
 unfold Zip Q6 Xg Wu
 obtain⟨k,b,h1,h2,h3⟩:=Qo9 hl () (Ku l 0) 0 (by unfold Ku;omega) (by omega)
 have e2:Qw l () (l.length:Int) 0=Ku l 0:=rfl
 rw[Int.natCast_zero]at h1 h3
 rw[e2,h1,Option.bind_some,h2,h3,bA]
 cases decide ((l.length:Int)≤60)<;>cases b<;>rfl
def trB(t:Yc):Bool:= !(((!Zsw t.1)|| (decide ((t.2.2.1.length:Int)>4000)))|| (decide ((t.2.2.2.1.length:Int)>4000)))
theorem trI(t:Yc):Zqz t=some (!trB t,()):=by
 unfold Zqz Xs Z3 trB
 rw[Option.bind_some,Option.bind_some,Bool.not_not];rfl
noncomputable def Qwn(p:Z1):Option (Bool×Unit):=
 Option.bind (Z6 p.1) fun t35=>
 Option.bind (bif t35.1 then(Z6 p.2.1)else some (false,())) fun t39=>
 Option.bind (bif((t35.1&&t39.1)&& (!p.1.1))&&p.2.1.1 then(Wu p.2.2.1)else some (false,())) fun t55=>
 Option.bind (bif((((t35.1&&t39.1)&& (!p.1.1))&&p.2.1.1)&&t55.1)then(Wu p.2.2.2.1)else some (false,())) fun t60=>
 some ((((((t35.1&&t39.1)&& (!p.1.1))&&p.2.1.1)&&t55.1)&&t60.1)&& (decide ((p.2.2.2.2.1.length:Int)≤100)),())
theorem Qs3{p:Z1}(hl:p.2.2.2.2.1.length≤1000)(u:Unit): ∀(N i:Nat),p.2.2.2.2.1.length-i<N→i≤p.2.2.2.2.1.length→ ∃k b,Qg N p.2.2.2.2.1 u (p.2.2.2.2.1.length:Int) (i:Int)=some (k,())∧decide (k≥0)= !b∧Zd6 N p (i:Int)=bif b then Qwn p else some (false,())
 |0,_,h,_=>by omega
 |N+1,i,hN,hi=>by
  rw[Qg,Zd6]
  by_cases hh:i<p.2.2.2.2.1.length
  ·rw[Zm (Zj (by omega)),Zm (Zj (by omega)),Zc (by omega),Zc (by omega),show(i:Int).toNat=i from rfl,trI,Zcx,Option.bind_some,Option.bind_some,Zo hh (by omega)]
   obtain⟨k,b,h1,h2,h3⟩:=Qs3 hl () N (i+1) (by omega) (by omega)
   have e: ((!Zsw (p.2.2.2.2.1.getD i Qq).1||decide (((p.2.2.2.2.1.getD i Qq).2.2.1.length:Int)>4000))||decide (((p.2.2.2.2.1.getD i Qq).2.2.2.1.length:Int)>4000))= !trB (p.2.2.2.2.1.getD i Qq):=by unfold trB;rw[Bool.not_not]
   simp only[e]
   cases hc:trB (p.2.2.2.2.1.getD i Qq)
   ·exact⟨_,false,rfl,by simp,rfl⟩
   ·exact⟨k,b,h1,h2,h3⟩
  ·rw[Zi (Zk (by omega)),Zi (Zk (by omega))];exact⟨_,true,rfl,by simp,rfl⟩
theorem Q45{K:Nat}{p:Z1}(h:PrW K p)(hK:K≤1000000):Zuz p=Zfm p:=by
 have hls:=h.ls;have hlc:=h.lc
 unfold Zuz Xj Xq Zfm
 obtain⟨k,b,h1,h2,h3⟩:=Qs3 h.tn () (Wo p 0) 0 (by unfold Wo;omega) (by omega)
 have e2:Xb p.2.2.2.2.1 () (p.2.2.2.2.1.length:Int) 0=Wo p 0:=rfl
 rw[Int.natCast_zero]at h1 h3
 obtain⟨⟨b1,u1⟩,f1,-⟩:=Zn5 h.cl hK
 obtain⟨⟨b2,u2⟩,f2,-⟩:=Zn5 h.sv hK
 obtain⟨⟨b3,u3⟩,f3,-⟩:=Qcb p.2.2.1 (by omega)
 obtain⟨⟨b4,u4⟩,f4,-⟩:=Qcb p.2.2.2.1 (by omega)
 rw[e2,h1,Option.bind_some,h2,h3,Zx3 h.cl hK,Zx3 h.sv hK,Qin _ hls,Qin _ hlc]
 unfold Qwn
 rw[f1,f2,f3,f4]
 simp only[Option.bind_some,bA]
 cases b1<;>cases b2<;>cases b3<;>cases b4<;>cases p.1.1<;>cases p.2.1.1<;>cases decide ((p.2.2.2.2.1.length:Int)≤100)<;>cases b<;>rfl
def Pc{α:Type}(m:Option α)(Q:α→Prop):Prop:= ∀y,m=some y→Q y
section
variable {α β:Type} {m n:Option α} {f:α→Option β} {Q:α→Prop} {R:β→Prop}
theorem Pc.bind(h:Pc m Q)(k: ∀y,Q y→Pc (f y) R):Pc (Option.bind m f) R:=fun y e=>by
 cases hm:m with
 |none=>rw[hm]at e;cases e
 |some x=>rw[hm]at e;exact k x (h x hm) y e
theorem Pc.any:Pc m fun _=>True:=fun _ _=>trivial
theorem Pc.skip(k: ∀y,Pc (f y) R):Pc (Option.bind m f) R:=Pc.any.bind fun y _=>k y
theorem Pc.pure{y:α}(h:Q y):Pc (some y) Q:=fun z e=>by cases e;exact h
theorem Pc.ite{c:Bool}(h1:c=true→Pc m Q)(h2:c=false→Pc n Q):Pc (bif c then m else n) Q:=by
 cases c
 ·exact h2 rfl
 ·exact h1 rfl
theorem Pc.guard{p:Prop}(h:Pc m Q):Pc (Zf p m) Q:=fun y e=>by
 by_cases hp:p
 ·rw[Zc hp]at e;exact h y e
 ·unfold Zf at e;rw[if_neg hp]at e;cases e
end
theorem T.pc{α:Type}{m:Option α}{Q R:α→Prop}(h:T m Q)(k:Pc m R):T m fun y=>Q y∧R y:=by
 obtain⟨y,e,hy⟩:=h;exact⟨y,e,hy,k y e⟩
def StF(s:Zq):Prop:=0≤s.1∧s.1≤5
theorem Q3d(s:Zq):Pc (Vb s) fun r=>0≤r.1∧r.1≤3:=by
 unfold Vb
 exact Pc.ite (fun _=>Pc.pure (by simp)) fun _=>Pc.ite (fun _=>Pc.pure (by simp)) fun _=>Pc.ite (fun _=>Pc.pure (by simp)) fun _=>Pc.pure (by simp)
def TS(s:Zq)(r:Bool×Unit):Prop:=r.1=true→StF s
theorem TS.no{s:Zq}:TS s (false,()):=fun h=>by cases h
theorem sl4(s:Zq): ∀(N:Nat) (i:Int),Pc (Jk N s i) (TS s)
 |0,_=>fun _ e=>by cases e
 |N+1,i=>by
  unfold Jk
  refine Pc.ite (fun _=>Pc.guard (Pc.ite (fun _=>Pc.pure TS.no) fun _=>sl4 s N _)) fun _=>Pc.ite (fun _=>Pc.pure TS.no) fun _=>(Q3d s).bind fun y hy=>Pc.pure fun h=> ?_
  have:s.1=y.1:=by simpa using h
  unfold StF;omega
theorem sl3(s:Zq): ∀(N:Nat) (i:Int),Pc (Jj N s i) (TS s)
 |0,_=>fun _ e=>by cases e
 |N+1,i=>by
  unfold Jj
  exact Pc.ite (fun _=>Pc.guard (Pc.ite (fun _=>Pc.pure TS.no) fun _=>sl3 s N _)) fun _=>sl4 s _ _
theorem sl2(s:Zq): ∀(N:Nat) (l:List Zd) (i:Int),Pc (Ji N s l i) (TS s)
 |0,_,_=>fun _ e=>by cases e
 |N+1,l,i=>by
  unfold Ji
  exact Pc.ite (fun _=>Pc.guard (Pc.skip fun _=>sl2 s N _ _)) fun _=>Pc.skip fun _=>Pc.skip fun _=>Pc.skip fun _=>Pc.skip fun _=>Pc.guard (Pc.skip fun _=>Pc.ite (fun _=>Pc.pure TS.no) fun _=>sl3 s _ _)
theorem sl1(s:Zq): ∀(N:Nat) (l:List Zd) (i:Int),Pc (Jh N s l i) (TS s)
 |0,_,_=>fun _ e=>by cases e
 |N+1,l,i=>by
  unfold Jh
  exact Pc.ite (fun _=>Pc.guard (Pc.skip fun _=>sl1 s N _ _)) fun _=>sl2 s _ _ _
theorem Q5n(s:Zq):Pc (Yd s) (TS s):=by
 unfold Yd
 refine Pc.skip fun _=>Pc.skip fun _=>Pc.skip fun _=>Pc.skip fun _=>Pc.skip fun _=>Pc.skip fun _=>Pc.skip fun _=>Pc.ite (fun _=>Pc.pure TS.no) fun _=>Pc.ite (fun h=>Pc.pure fun _=> ?_) fun _=>sl1 s _ _ _
 simp at h
 unfold StF;omega
theorem Q5o(s:Zn):Pc (J4 s) fun r=>r.1=true→StF s.2.1:=by
 unfold J4
 refine Pc.skip fun t1=>Pc.bind (Q:=TS s.2.1) (Pc.ite (fun _=>Pc.pure TS.no) fun _=>Q5n _) fun t2 h2=>Pc.skip fun _=>Pc.skip fun _=>Pc.skip fun _=>Pc.skip fun _=>Pc.skip fun _=>Pc.ite (fun _=>Pc.pure fun h=>by cases h) fun hc=> ?_
 simp only[Bool.or_eq_false_iff,Bool.not_eq_false']at hc
 have q:=h2 hc.1.1.1.1.1.1.2
 exact Pc.ite (fun _=>Pc.pure fun _=>q) fun _=>Pc.pure fun _=>q
theorem Q91{K:Nat}{l:List Zn}(h:Zrp K l)(hK:K≤1000000):T (Yu l) fun r=>r.1=true→l.length≤24∧ ∀s∈l,StF s.2.1:=by
 have hlen:=h.len
 have lp: ∀(N i:Nat),l.length-i<N→i≤l.length→(∀s∈l.take i,StF s.2.1)→T (X6 N l (i:Int)) fun r=>r.1=true→l.length≤24∧ ∀s∈l,StF s.2.1:=by
  intro N
  induction N with
  |zero=>intro i h;omega
  |succ N ih=>
   intro i hN hi hp
   unfold X6
   refine T.ite (fun hc=> ?_) fun hc=>T.pure fun h=>⟨by have:=of_decide_eq_true h;omega,by have:=of_decide_eq_false hc;rwa [List.take_of_length_le (by omega)]at hp⟩
   have hc:=of_decide_eq_true hc
   have hh:i<l.length:=by omega
   refine T.guard (by omega) (((tt1 (Zwh (h.all _ (Qx (by omega))) hK)).pc (Q5o _)).bind fun t ht=>T.guard (fun _ _=>by omega) (T.guard (fun _ h=> ?_) (T.ite (fun _=>T.pure fun h=>by cases h) fun hb=> ?_)))
   ·have:=of_decide_eq_true h
    rw[Zv (by omega) (by omega)];omega
   ·rw[Zo (m:=l.length) (by omega) (by omega)]
    refine ih (i+1) (by omega) (by omega) fun x hm=> ?_
    rw[List.take_succ_eq_append_getElem hh]at hm
    rcases List.mem_append.1 hm with hm|hm
    ·exact hp x hm
    ·rw[List.mem_singleton.1 hm]
     simp only[Bool.or_eq_false_iff,Bool.not_eq_false']at hb
     have:=ht.2 hb.1
     rwa [show(i:Int).toNat=i from rfl,List.getD_eq_getElem?_getD,List.getElem?_eq_getElem hh]at this
 unfold Yu
 exact lp _ 0 (by unfold Vv;omega) (by omega) (by simp)
theorem Q6d{K:Nat}{c:Zg}(h:Qa K c)(hK:K≤1000000):Pc (Z6 c) fun r=>r.1=true→c.2.2.2.1.length≤24∧ ∀s∈c.2.2.2.1,StF s.2.1:=by
 unfold Z6
 obtain⟨y,e,hy⟩:=Q91 h.str hK
 refine Pc.skip fun t1=>Pc.skip fun t2=>Pc.bind (Q:=fun r=>r.1=true→c.2.2.2.1.length≤24∧ ∀s∈c.2.2.2.1,StF s.2.1) (Pc.ite (fun _=>Pc.pure fun h=>by cases h) fun _=>by rw[e];exact Pc.pure hy) fun t3 h3=>Pc.skip fun _=>Pc.skip fun _=>Pc.skip fun _=>Pc.skip fun _=>Pc.skip fun _=>Pc.skip fun _=>Pc.ite (fun _=>Pc.pure fun h=>by cases h) fun hc=>fun y _ _=> ?_
 simp only[Bool.or_eq_false_iff,Bool.not_eq_false']at hc
 exact h3 hc.1.1.1.1.1.1.2
theorem Q6z(a b:Int): (a==b)=(b==a):=by
 by_cases h:a=b
 ·rw[h]
 ·rw[show(a==b)=false by simpa using h,show(b==a)=false by simpa using fun e=>h e.symm]
theorem Qtb{K:Nat}{c:Zg}(h:Qa K c)(hK:K≤1000000)(u:Unit)(e:Z6 c=some (true,u)): ∃b,Zbw c=some (b,())∧Zj5 c=some (b,()):=by
 have hl:=h.str.len
 obtain⟨v,ev⟩:=Zwy h.str hK
 have lp: ∀(N i:Nat),c.2.2.2.1.length-i<N→i≤c.2.2.2.1.length→ ∃b,Vw N c (i:Int)=some (b,())∧Zba N c c.2.2.2.1 (c.2.2.2.1.length:Int) (i:Int)=some (b,()):=by
  intro N
  induction N with
  |zero=>intro i h;omega
  |succ N ih=>
   intro i hN hi
   unfold Vw Zba
   by_cases hh:i<c.2.2.2.1.length
   ·have d:decide ((i:Int)< (c.2.2.2.1.length:Int))=true:=Zj (by omega)
    rw[d,e]
    simp only[cond_true,Option.bind_some,Bool.true_and]
    rw[Zc (by omega),Zc (by omega),Zc (by omega)]
    cases (c.2.2.2.1.getD (i:Int).toNat Zz).2.2.1.2.1 !=(c.2.2.2.1.getD (i:Int).toNat Zz).2.1.2.2.2.2.2.2.2.1
    ·rw[cond_false,cond_false,Zo hh (by omega)]
     exact ih (i+1) (by omega) (by omega)
    ·exact⟨_,rfl,rfl⟩
   ·have d:decide ((i:Int)< (c.2.2.2.1.length:Int))=false:=Zk (by omega)
    rw[d,e,Qp8 h.str hK,ev]
    exact⟨_,rfl,by simp only[cond_false,Option.bind_some,Bool.true_and];rw[Q6z]⟩
 unfold Zbw Zj5
 rw[Zx3 h hK,e,Option.bind_some]
 exact lp _ 0 (by unfold W3;omega) (by omega)
theorem Qtc{K:Nat}{c:Zg}(h:Qa K c)(hK:K≤1000000)(u:Unit)(e:Z6 c=some (true,u)): ∃b,Zj8 c=some (b,())∧Zj6 c=some (b,()):=by
 have hl:=h.str.len
 obtain⟨v,ev⟩:=Zwx h.str hK
 have lp: ∀(N i:Nat) (r:Int),c.2.2.2.1.length-i<N→i≤c.2.2.2.1.length→ ∃b,Zbg N c r (i:Int)=some (b,())∧Zbb N c r c.2.2.2.1 (c.2.2.2.1.length:Int) (i:Int)=some (b,()):=by
  intro N
  induction N with
  |zero=>intro i r h;omega
  |succ N ih=>
   intro i r hN hi
   unfold Zbg Zbb
   by_cases hh:i<c.2.2.2.1.length
   ·have d:decide ((i:Int)< (c.2.2.2.1.length:Int))=true:=Zj (by omega)
    rw[d,e]
    simp only[cond_true,Option.bind_some,Bool.true_and]
    rw[Zc (by omega),Zc (by omega)]
    generalize (((c.2.2.2.1.getD (i:Int).toNat Zz).2.2.2.2.2.2.2.1&& ((c.2.2.2.1.getD (i:Int).toNat Zz).2.2.2.2.1.2.2.2.1 !=(c.2.2.2.1.getD (i:Int).toNat Zz).2.2.2.1.2.2.2.1))|| (decide ((c.2.2.2.1.getD (i:Int).toNat Zz).2.2.2.2.1.2.2.2.2.1< (c.2.2.2.1.getD (i:Int).toNat Zz).2.2.2.1.2.1.1)))=q
    cases q
    ·rw[cond_false,cond_false,Zo hh (by omega)]
     exact ih (i+1) _ (by omega) (by omega)
    ·exact⟨_,rfl,rfl⟩
   ·have d:decide ((i:Int)< (c.2.2.2.1.length:Int))=false:=Zk (by omega)
    rw[d,e,Qp7 h.str hK,ev]
    exact⟨_,rfl,by simp only[cond_false,Option.bind_some,Bool.true_and];rw[Q6z,Q6z r]⟩
 unfold Zj8 Zj6
 rw[Zx3 h hK,e,Option.bind_some]
 exact lp _ 0 _ (by unfold Zey;omega) (by omega)
theorem Q0m(a b:List Zd)(ha:a.length≤2000000): ∃q,Zl0 a b=some (q,())∧Zlr a b=some (q,()):=by
 unfold Zl0 Zlr Vg
 by_cases hl:a.length=b.length
 ·have lp: ∀(N i:Nat),a.length-i<N→i≤a.length→ ∃q,Zcm N a b (i:Int)=some (q,())∧Q3 N a b (a.length:Int) (i:Int)=some (q,()):=by
   intro N
   induction N with
   |zero=>intro i h;omega
   |succ N ih=>
    intro i hN hi
    unfold Zcm Q3
    by_cases hh:i<a.length
    ·rw[Zm (Zj (by omega)),Zm (Zj (by omega)),Zc (by omega),Zc (by omega),Zc (by omega),Zc (by omega)]
     cases !(eqV (Zr) (a.getD (i:Int).toNat Zx) (b.getD (i:Int).toNat Zx))
     ·rw[cond_false,cond_false,Zo hh (by omega)]
      exact ih (i+1) (by omega) (by omega)
     ·exact⟨_,rfl,rfl⟩
    ·rw[Zi (Zk (by omega)),Zi (Zk (by omega))];exact⟨_,rfl,rfl⟩
  rw[Zi (by simp[hl]),Zi (by simp[hl])]
  obtain⟨q,h1,h2⟩:=lp (Za4 a b 0) 0 (by unfold Za4;omega) (by omega)
  refine⟨q,h1,?_⟩
  have h2':Q3 (Y6 a b (a.length:Int) 0) a b (a.length:Int) 0=some (q,()):=h2
  rw[h2'];rfl
 ·rw[Zm (by simpa using fun e: (a.length:Int)=b.length=>hl (by omega)),Zm (by simpa using fun e: (a.length:Int)=b.length=>hl (by omega))]
  exact⟨false,rfl,rfl⟩
theorem Q2i(o:Int):Zff (o,(IntKind.i64.wrap (o+0),()))=false:=by
 cases h:Zff (o,(IntKind.i64.wrap (o+0),()))with
 |false=>rfl
 |true=>
  have:=Q2.1 h
  simp only at this
  by_cases hb:o≤9223372036854775807
  ·rw[Zv (by omega) (by omega)]at this;omega
  ·have:=(Qx7 (o+0)).2;omega
def Zy6(id:Int):List Zh→List Zd→List Zd
 | [],out=>out
 |f::l,out=>Zy6 id l (if(f.1==8&&f.2.1==id)=true∧rsB (-1) out=true∧Zff (f.2.2.1,(IntKind.i64.wrap (f.2.2.1+ (f.2.2.2.1.length:Int)),()))=true then Zmi out (f.2.2.1,(IntKind.i64.wrap (f.2.2.1+ (f.2.2.2.1.length:Int)),()))else out)
theorem Qev(id:Int): ∀(l:List Zh) (out:List Zd),(Zy6 id l out).length≤out.length+l.length
 | [],out=>by simp[Zy6]
 |f::l,out=>by
  unfold Zy6
  refine Nat.le_trans (Qev id l _) ?_
  split
  ·have:=Z94 (l:=out) (r:=((f.2.2.1,(IntKind.i64.wrap (f.2.2.1+ (f.2.2.2.1.length:Int)),())):Zd))
   simp only[List.length_cons];omega
  ·simp only[List.length_cons];omega
theorem Qmy{K:Nat}{c:Zg}(h:Qa K c)(hK:K≤1000000)(id:Int)(i:Nat)(hi:i<c.2.2.2.2.2.2.2.2.2.2.2.2.2.2.2.1.length): ∀(N k:Nat) (out:List Zd),(c.2.2.2.2.2.2.2.2.2.2.2.2.2.2.2.1.getD i Qz).2.1.length-k<N→k≤(c.2.2.2.2.2.2.2.2.2.2.2.2.2.2.2.1.getD i Qz).2.1.length→out.length≤1000*i+k→
  (∀K1,Vo K1 N id c out (i:Int) (k:Int)=K1 (id,c,Zy6 id ((c.2.2.2.2.2.2.2.2.2.2.2.2.2.2.2.1.getD i Qz).2.1.drop k) out,((i+1:Nat):Int),()))∧
  (∀K1 t m,Zar K1 N id out t m (i:Int) (c.2.2.2.2.2.2.2.2.2.2.2.2.2.2.2.1.getD i Qz).2.1 ((c.2.2.2.2.2.2.2.2.2.2.2.2.2.2.2.1.getD i Qz).2.1.length:Int) (k:Int)=K1 (id,Zy6 id ((c.2.2.2.2.2.2.2.2.2.2.2.2.2.2.2.1.getD i Qz).2.1.drop k) out,t,m,((i+1:Nat):Int),()))
 |0,_,_,h,_,_=>by omega
 |N+1,k,out,hN,hk,ho=>by
  have hp:=h.pk.1
  have hf:=(h.pk.2 _ (Qx (d:=Qz) hi)).1
  have ei:IntKind.i64.wrap ((i:Int)+1)=((i+1:Nat):Int):=by rw[Zv (by omega) (by omega)];rfl
  by_cases hh:k< (c.2.2.2.2.2.2.2.2.2.2.2.2.2.2.2.1.getD i Qz).2.1.length
  ·have ek:IntKind.i64.wrap ((k:Int)+1)=((k+1:Nat):Int):=by rw[Zv (by omega) (by omega)];rfl
   have hcl:=Qev id [(c.2.2.2.2.2.2.2.2.2.2.2.2.2.2.2.1.getD i Qz).2.1.getD k Xr] out
   obtain⟨r1,r2⟩:=Qmy h hK id i hi N (k+1) (Zy6 id [(c.2.2.2.2.2.2.2.2.2.2.2.2.2.2.2.1.getD i Qz).2.1.getD k Xr] out) (by omega) (by omega) (by simp only[List.length_singleton]at hcl;omega)
   have e:Zy6 id ((c.2.2.2.2.2.2.2.2.2.2.2.2.2.2.2.1.getD i Qz).2.1.drop k) out=Zy6 id ((c.2.2.2.2.2.2.2.2.2.2.2.2.2.2.2.1.getD i Qz).2.1.drop (k+1)) (Zy6 id [(c.2.2.2.2.2.2.2.2.2.2.2.2.2.2.2.1.getD i Qz).2.1.getD k Xr] out):=by
    rw[Zdc (d:=Xr) hh];rfl
   rw[e]
   refine⟨fun K1=> ?_,fun K1 t m=> ?_⟩
   ·rw[←r1 K1]
    conv=>lhs;unfold Vo Zio
    rw[Zc (by omega),Zm (Zj (by rw[show(i:Int).toNat=i from rfl];omega)),Zc (by omega),Zc (by rw[show(i:Int).toNat=i from rfl];omega),ek]
    simp only[show(i:Int).toNat=i from rfl,show(k:Int).toNat=k from rfl,Zy6]
    generalize (c.2.2.2.2.2.2.2.2.2.2.2.2.2.2.2.1.getD i Qz).2.1.getD k Xr=f
    rw[Qr2 _ _ (by omega),Option.bind_some]
    cases hq: (f.1==8&&f.2.1==id)
    ·simp
    ·cases hd:f.2.2.2.1==([]:List UInt8)
     ·simp
     ·have hd:f.2.2.2.1=[]:=by simpa using hd
      have:=Q2i f.2.2.1
      simp only[hd,List.length_nil,Int.natCast_zero,this]
      simp
   ·rw[←r2 K1 t m]
    conv=>lhs;unfold Zar
    rw[Zm (Zj (by omega)),Zc (by omega),ek]
    simp only[show(k:Int).toNat=k from rfl,Zy6]
    generalize (c.2.2.2.2.2.2.2.2.2.2.2.2.2.2.2.1.getD i Qz).2.1.getD k Xr=f
    rw[Qmj _ _ (by omega),Option.bind_some]
    cases hq: (f.1==8&&f.2.1==id)
    ·simp
    ·simp
  ·rw[List.drop_eq_nil_of_le (by omega)]
   refine⟨fun K1=> ?_,fun K1 t m=> ?_⟩
   ·unfold Vo
    rw[Zc (by omega),Zi (Zk (by rw[show(i:Int).toNat=i from rfl];omega)),ei];rfl
   ·unfold Zar
    rw[Zi (Zk (by omega)),ei];rfl
theorem Xaf(x:Int)(h:0≤x∧x≤5): (x !=(4:Int)&&x !=(5:Int))=decide (x<4):=by
 by_cases hx:x<4
 ·rw[Zj hx];simp;omega
 ·rw[Zk hx];simp;omega
theorem Q14{K:Nat}{c:Zg}(h:Qa K c)(hK:K≤1000000)(id:Int): ∃r,Zn0 c id=some (r,())∧Zq3 c.2.2.2.2.2.2.2.2.2.2.2.2.2.2.2.1 id=some (r,()):=by
 have hp:=h.pk.1
 have lp: ∀(N i:Nat) (out:List Zd),c.2.2.2.2.2.2.2.2.2.2.2.2.2.2.2.1.length-i<N→i≤c.2.2.2.2.2.2.2.2.2.2.2.2.2.2.2.1.length→out.length≤1000*i→ ∃r,Zen N id c out (i:Int)=some (r,())∧Zgp N id out c.2.2.2.2.2.2.2.2.2.2.2.2.2.2.2.1 (c.2.2.2.2.2.2.2.2.2.2.2.2.2.2.2.1.length:Int) (i:Int)=some (r,()):=by
  intro N
  induction N with
  |zero=>intro i out h;omega
  |succ N ih=>
   intro i out hN hi ho
   unfold Zen Zgp
   by_cases hh:i<c.2.2.2.2.2.2.2.2.2.2.2.2.2.2.2.1.length
   ·have hf:=(h.pk.2 _ (Qx (d:=Qz) hh)).1
    rw[Zm (Zj (by omega)),Zm (Zj (by omega)),Zc (by omega)]
    have q1:=(Qmy h hK id i hh (Zb3 id c out (i:Int) 0) 0 out (by unfold Zb3;rw[show(i:Int).toNat=i from rfl];omega) (by omega) (by omega)).1
    have q2:=(Qmy h hK id i hh (Zes id out c.2.2.2.2.2.2.2.2.2.2.2.2.2.2.2.1 (c.2.2.2.2.2.2.2.2.2.2.2.2.2.2.2.1.length:Int) (i:Int) (c.2.2.2.2.2.2.2.2.2.2.2.2.2.2.2.1.getD i Qz).2.1 ((c.2.2.2.2.2.2.2.2.2.2.2.2.2.2.2.1.getD i Qz).2.1.length:Int) 0) 0 out (by unfold Zes;omega) (by omega) (by omega)).2
    rw[Int.natCast_zero]at q1 q2
    have hcl:=Qev id ((c.2.2.2.2.2.2.2.2.2.2.2.2.2.2.2.1.getD i Qz).2.1.drop 0) out
    rw[q1]
    simp only[show(i:Int).toNat=i from rfl]
    rw[q2]
    exact ih (i+1) _ (by omega) (by omega) (by rw[List.drop_zero]at hcl;simp only[List.drop_zero];omega)
   ·rw[Zi (Zk (by omega)),Zi (Zk (by omega))];exact⟨_,rfl,rfl⟩
 unfold Zn0 Zq3
 exact lp _ 0 [] (by unfold Zhv;omega) (by omega) (by simp)
theorem Qvb{K:Nat}{c:Zg}(h:Qa K c)(hK:K≤1000000)(u:Unit)(e:Z6 c=some (true,u)): ∃b,Zlx c=some (b,())∧Zlq c=some (b,()):=by
 have hl:=h.str.len
 have hs:=(Q6d h hK _ e rfl).2
 have lp: ∀(N i:Nat),c.2.2.2.1.length-i<N→i≤c.2.2.2.1.length→ ∃b,Zci N c (i:Int)=some (b,())∧Zch N c c.2.2.2.1 (c.2.2.2.1.length:Int) (i:Int)=some (b,()):=by
  intro N
  induction N with
  |zero=>intro i h;omega
  |succ N ih=>
   intro i hN hi
   unfold Zci Zch
   by_cases hh:i<c.2.2.2.1.length
   ·have d:decide ((i:Int)< (c.2.2.2.1.length:Int))=true:=Zj (by omega)
    have hm:=Qx (d:=Zz) hh
    have st:=hs _ hm
    have hi2:=h.str.all _ hm
    obtain⟨r,r1,r2⟩:=Q14 h hK (c.2.2.2.1.getD i Zz).1
    obtain⟨q,q1,q2⟩:=Q0m (c.2.2.2.1.getD i Zz).2.1.2.2.2.1 r (by have:=Xk hi2.snd.flight hi2.snd.e0 hi2.snd.eK (by omega);omega)
    have se: ((c.2.2.2.1.getD i Zz).2.1.1 !=(4:Int)&& (c.2.2.2.1.getD i Zz).2.1.1 !=(5:Int))=decide ((c.2.2.2.1.getD i Zz).2.1.1<4):=Xaf _ st
    rw[d,e]
    simp only[cond_true,Option.bind_some,Bool.true_and,show(i:Int).toNat=i from rfl]
    rw[Zc (by omega),Zc (by omega),se]
    cases decide ((c.2.2.2.1.getD i Zz).2.1.1<4)
    ·simp only[cond_false,Option.bind_some,Bool.false_and]
     rw[Zo hh (by omega)]
     exact ih (i+1) (by omega) (by omega)
    ·simp only[cond_true,r1,r2,Option.bind_some,q1,q2,Bool.true_and]
     cases q
     ·exact⟨_,rfl,rfl⟩
     ·rw[Zo hh (by omega)]
      exact ih (i+1) (by omega) (by omega)
   ·have d:decide ((i:Int)< (c.2.2.2.1.length:Int))=false:=Zk (by omega)
    rw[d,e]
    exact⟨_,rfl,rfl⟩
 unfold Zlx Zlq
 rw[Zx3 h hK,e,Option.bind_some]
 exact lp _ 0 (by unfold Zf2;omega) (by omega)
theorem Q44{K:Nat}{s:Zn}(h:Jn K s)(hK:K≤1000000):Zuy s=Zk2 s:=by
 unfold Zuy Zk2 Zsa Znq Zr9 Znp Zr8 Zi4
 rw[Qgg h hK,Qiz h.rcv hK]
theorem Xaa(b:Bool)(n:Int):Z7q b n=Zd5 b n:=rfl
theorem Xag(n:Int):Zx0 n=Va n:=rfl
theorem Q4n(a b x y:Int):eqV (.arr 2 (.int .i64)) [a,b] [x,y]=((a==x)&& (b==y)):=by
 simp only[eqV,eqL,Bool.and_true]
 rfl
theorem Qva{K:Nat}{c:Zg}(h:Qa K c)(hK:K≤1000000)(u:Unit)(e:Z6 c=some (true,u)): ∃b,Zlw c=some (b,())∧Zlp c=some (b,()):=by
 have h24:=(Q6d h hK _ e rfl).1
 have lp: ∀(N i:Nat) (o p b v:Nat),c.2.2.2.1.length-i<N→i≤c.2.2.2.1.length→o+p=i→b≤i→v≤i→
   ∃q,Ki N c (o:Int) (b:Int) (v:Int) (i:Int)=some (q,())∧Wk N c (o:Int) (p:Int) [(b:Int),(v:Int)] c.2.2.2.1 (c.2.2.2.1.length:Int) (i:Int)=some (q,()):=by
  intro N
  induction N with
  |zero=>intro i o p b v h;omega
  |succ N ih=>
   intro i o p b v hN hi hop hb hv
   unfold Ki Wk
   by_cases hh:i<c.2.2.2.1.length
   ·have d:decide ((i:Int)< (c.2.2.2.1.length:Int))=true:=Zj (by omega)
    have hm:=Qx (d:=Zz) hh
    obtain⟨⟨w1,x1⟩,e1,-⟩:=Q7l c.1 (c.2.2.2.1.getD i Zz).1
    obtain⟨⟨w2,x2⟩,e2,-⟩:=Q25 (h.str.all _ hm) hK
    obtain⟨⟨w3,x3⟩,e3,-⟩:=Q52 (c.2.2.2.1.getD i Zz).1
    have s1: ∀n:Nat,n≤i→IntKind.i64.wrap ((n:Int)+1)=((n+1:Nat):Int):=fun n hn=>by rw[Zv (by omega) (by omega)];rfl
    have s0: ∀n:Nat,n≤i→IntKind.i64.wrap ((n:Int)+0)=(n:Int):=fun n hn=>by rw[Zv (by omega) (by omega)];omega
    have z0: (0:Int).toNat=0:=rfl
    have z1: (1:Int).toNat=1:=rfl
    rw[d,e]
    simp only[cond_true,Option.bind_some,Bool.true_and,show(i:Int).toNat=i from rfl,Xaa,Xag,Q44 (h.str.all _ hm) hK,e1,e2,e3]
    rw[Zc (by omega),Zc (by omega)]
    cases w1
    ·simp only[cond_false]
     cases (c.2.2.2.1.getD i Zz).2.2.2.2.2.2.2.2.2.2.2.2.2.1<;>cases w2
     ·cases w3<;>
      ·simp only[beq_self_eq_true,Bool.not_true,cond_false,cond_true,Option.bind_some,Bool.false_and,Zwf,Yq]
       rw[Zc (by omega),Zc (by omega)]
       simp only[s1 i (by omega),s1 p (by omega),z0,z1,s0 b (by omega),s0 v (by omega),List.getD_cons_zero,List.getD_cons_succ,List.set_cons_zero,List.set_cons_succ]
       exact ih (i+1) o (p+1) b v (by omega) (by omega) (by omega) (by omega) (by omega)
     ·exact⟨_,rfl,rfl⟩
     ·exact⟨_,rfl,rfl⟩
     ·cases w3
      ·simp only[beq_self_eq_true,Bool.not_true,cond_false,cond_true,Option.bind_some,Bool.true_and,Zwf,Yq]
       rw[Zc (by omega),Zc (by omega)]
       simp only[s1 i (by omega),s1 p (by omega),s1 b (by omega),z0,List.getD_cons_zero,List.set_cons_zero]
       exact ih (i+1) o (p+1) (b+1) v (by omega) (by omega) (by omega) (by omega) (by omega)
      ·simp only[beq_self_eq_true,Bool.not_true,cond_false,cond_true,Option.bind_some,Bool.true_and,Zwf,Yq]
       rw[Zc (by omega),Zc (by omega)]
       simp only[s1 i (by omega),s1 p (by omega),s1 v (by omega),z1,List.getD_cons_succ,List.getD_cons_zero,List.set_cons_succ,List.set_cons_zero]
       exact ih (i+1) o (p+1) b (v+1) (by omega) (by omega) (by omega) (by omega) (by omega)
    ·simp only[cond_true]
     unfold Yq
     simp only[s1 i (by omega),s1 o (by omega)]
     exact ih (i+1) (o+1) p b v (by omega) (by omega) (by omega) (by omega) (by omega)
   ·have d:decide ((i:Int)< (c.2.2.2.1.length:Int))=false:=Zk (by omega)
    rw[d,e]
    simp only[cond_false,Option.bind_some,Bool.false_and,Bool.true_and]
    have hp:IntKind.i64.wrap ((c.2.2.2.1.length:Int)- (o:Int))=(p:Int):=by rw[Zv (by omega) (by omega)];omega
    rw[hp]
    refine⟨_,rfl,?_⟩
    rw[Q4n,←Bool.and_assoc]
 unfold Zlw Zlp
 rw[Zx3 h hK,e,Option.bind_some]
 exact lp _ 0 0 0 0 0 (by unfold Zf1;omega) (by omega) rfl (Nat.le_refl _) (Nat.le_refl _)
end Go.Proofs.YtpadmiphiogdhaaGreat

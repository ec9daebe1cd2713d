/- FnFairness: the plain law, part 2. No condition. -/
import Derived.Test.YtdhchdiikmnmeaaGreatP1
namespace Go.Proofs.YtdhchdiikmnmeaaGreat
open Go.Am
set_option maxRecDepth 100000
set_option linter.unusedVariables false
def Qpe(l:List Int):Bool:=l.all fun n=>decide (n>=0)&&decide (n<=255)
theorem Xbd(r:Xz)(hl:r.2.2.2.1.length<=1048576): ∀(N i:Nat),r.2.2.2.1.length-i<N->i<=r.2.2.2.1.length->Zfs N r (i:Int)=some (Qpe (r.2.2.2.1.drop i),())
 |0,_,h,_=>by omega
 |N+1,i,hN,hi=>by
  rw[Zfs];by_cases hh:i<r.2.2.2.1.length
  ·rw[Zp (Zm (by omega)),Zb (by omega),Zwa,Obs,Zr hh (by omega),Xbd r hl N (i+1) (by omega) (by omega),show(i:Int).toNat=i from rfl,Xj (d:=0) hh];simp only[Qpe,List.all_cons];cases decide (r.2.2.2.1.getD i 0>=0)&&decide (r.2.2.2.1.getD i 0<=255)<;>rfl
  ·rw[Zl (Zj (by omega)),List.drop_eq_nil_of_le (by omega)];rfl
theorem Znj(n a b:Int):Zz n a b=some (decide (n>=a)&&decide (n<=b),()):=rfl
theorem Q32(l:List Int)(hl:l.length<=1048576)(u:Unit): ∀(N i:Nat),l.length-i<N->i<=l.length-> ∃k,Xb N l u (l.length:Int) (i:Int)=some (k,())/\decide (k>=0)= !Qpe (l.drop i)
 |0,_,h,_=>by omega
 |N+1,i,hN,hi=>by
  rw[Xb];by_cases hh:i<l.length
  ·have e:Zw9 (l.getD i 0)=some (!(decide (l.getD i 0>=0)&&decide (l.getD i 0<=255)),()):=rfl;rw[Zp (Zm (by omega)),Zb (by omega),show(i:Int).toNat=i from rfl,e,Obs,Zr hh (by omega),Xj (d:=0) hh];obtain⟨k,h1,h2⟩:=Q32 l hl () N (i+1) (by omega) (by omega);cases hc:decide (l.getD i 0>=0)&&decide (l.getD i 0<=255)
   ·exact⟨_,rfl,by simp only[Qpe,List.all_cons,hc];simp⟩
   ·exact⟨k,h1,by rw[h2];simp only[Qpe,List.all_cons,hc,Ota]⟩
  ·rw[Zl (Zj (by omega)),List.drop_eq_nil_of_le (by omega)];exact⟨_,rfl,by simp[Qpe]⟩
theorem Q3i(r:Xz)(hl:r.2.2.2.1.length<=1048576):Zph r=Zcp r:=by
 unfold Zph Zcp Zel Zj6 Kn Jp;obtain⟨k,h1,h2⟩:=Q32 r.2.2.2.1 hl () (Xi r.2.2.2.1 () (r.2.2.2.1.length:Int) 0) 0 (by unfold Xi;omega) (by omega);have h3:=Xbd r hl (Zae r 0) 0 (by unfold Zae;omega) (by omega);simp only[Int.natCast_zero,List.drop_zero]at h1 h2 h3;have e:Xo r.2.1=some (decide (r.2.1>=0)&&decide (r.2.1<=4611686018427387903),()):=rfl;simp only[h1,h2,h3,Znj,e,Obs];have e1:decide (r.1>=1)=decide (r.1>0):=by congr 1
 rw[e1];generalize hA: ((decide (r.1>0)&&decide (r.1<=64))&& (bits .and .i64 r.1 (IntKind.i64.wrap (r.1-1))==0))=A;generalize ((r.2.2.2.1.length:Int) !=r.1)=B;cases A
 ·rfl
 cases B
 ·simp only[Ont,Bool.or_self,Ocf,Obs,Bool.false_or];simp only[Oba,decide_eq_true_eq]at hA;generalize Qpe r.2.2.2.1=C;by_cases h0:0<=r.2.1/\r.2.1<=r.2.2.1/\r.2.2.1<=4611686018427387903
  ·obtain⟨a1,a2,a3⟩:=h0;rw[Zv (n:=r.2.2.1-r.2.1) (by omega) (by omega),Zv (n:=r.2.1+r.1) (by omega) (by omega),Zm (p:=r.2.1>=0) (by omega),Zm (p:=r.2.1<=4611686018427387903) (by omega),Zj (p:=r.2.1<0) (by omega),Zj (p:=r.2.2.1<r.2.1) (by omega),Zj (p:=r.2.2.1>4611686018427387903) (by omega),Zm (p:=r.2.2.1>=r.2.1) a2];by_cases h4:r.2.2.1-r.2.1<=r.1
   ·rw[Zj (p:=r.2.2.1-r.2.1>r.1) (by omega),Zm (p:=r.2.2.1<=min (r.2.1+r.1) 4611686018427387903) (by omega)];cases C<;>rfl
   ·rw[Zm (p:=r.2.2.1-r.2.1>r.1) (by omega),Zj (p:=r.2.2.1<=min (r.2.1+r.1) 4611686018427387903) (by omega)];cases C<;>rfl
  ·have hL: ((((decide (r.2.1<0))|| (decide (r.2.2.1<r.2.1)))|| (decide ((IntKind.i64.wrap (r.2.2.1-r.2.1))>r.1)))|| (decide (r.2.2.1>4611686018427387903)))=true:=by
    simp only[Bool.or_eq_true,decide_eq_true_eq];omega
   have hR: ((decide (r.2.1>=0)&&decide (r.2.1<=4611686018427387903))&& (decide (r.2.2.1>=r.2.1)&&decide (r.2.2.1<=min (IntKind.i64.wrap (r.2.1+r.1)) 4611686018427387903)))=false:=by
    simp only[Bool.and_eq_false_iff,decide_eq_false_iff_not];omega
   rw[hL];cases C
   ·rfl
   ·simp only[Ont,Ocf,Oct];generalize hQ: (decide (r.2.1>=0)&&decide (r.2.1<=4611686018427387903))=Q at hR;cases Q
    ·rfl
    ·simp only[Oct,Obs];rw[hR]
 ·rfl
def hiB(S:Int)(l:List Zc):Bool:=l.all fun x=>decide (x.2.1<=S)
noncomputable def stF(s:Zo):Int:=match J5 s with|some (k,_)=>k|none=>0
theorem Qj8(s:Zo):J5 s=some (stF s,()):=by
 obtain⟨k,e⟩:=Qen s;unfold stF;rw[e]
theorem Zzy(s:Zo)(h0:0<=s.2.2.2.2.2.2.1)(h3:s.2.2.2.2.2.2.1<=3):Zma s=some (stF s,()):=by
 rw[<-Qj8];unfold Zma J5;have:decide (s.2.2.2.2.2.2.1>1)=((s.2.2.2.2.2.2.1==2)|| (s.2.2.2.2.2.2.1==3)):=by
  rw[Bool.eq_iff_iff];simp only[decide_eq_true_eq,Bool.or_eq_true,beq_iff_eq];omega
 rw[this]
def Qh4(s:Zo):Bool:= !((!((s.2.2.2.2.2.2.1==(0:Int))==(s.2.2.2.2.2.1==(-1:Int))))|| ((s.2.2.2.2.2.1 !=(-1:Int))&& (s.2.2.2.2.2.1 !=s.2.1.2.2.1)))
theorem Xfc(s:Zo)(hl:s.2.2.2.2.1.length<=1048576): ∀(N i:Nat),s.2.2.2.2.1.length-i<N->i<=s.2.2.2.2.1.length->Zbu N s (i:Int)=some (hiB s.2.2.2.2.2.2.2.1 (s.2.2.2.2.1.drop i)&& (Qh4 s&& (s.1==stF s)),())
 |0,_,h,_=>by omega
 |N+1,i,hN,hi=>by
  rw[Zbu];by_cases hh:i<s.2.2.2.2.1.length
  ·rw[Zp (Zm (by omega)),Zb (by omega),Zr hh (by omega),Xfc s hl N (i+1) (by omega) (by omega),show(i:Int).toNat=i from rfl,Xj (d:=Zw) hh];simp only[hiB,List.all_cons];by_cases hc: (s.2.2.2.2.1.getD i Zw).2.1<=s.2.2.2.2.2.2.2.1
   ·rw[Zj (p:=_>_) (by omega),Zm hc];rfl
   ·rw[Zm (p:=_>_) (by omega),Zj hc];rfl
  ·rw[Zl (Zj (by omega)),List.drop_eq_nil_of_le (by omega),Qj8,Obs];unfold Qh4;generalize ((!((s.2.2.2.2.2.2.1==(0:Int))==(s.2.2.2.2.2.1==(-1:Int))))|| ((s.2.2.2.2.2.1 !=(-1:Int))&& (s.2.2.2.2.2.1 !=s.2.1.2.2.1)))=c;cases c<;>rfl
theorem Xfb(s:Zo)(hl:s.2.2.2.1.length<=1048576)(hl2:s.2.2.2.2.1.length<=1048576): ∀(N i:Nat),s.2.2.2.1.length-i<N->i<=s.2.2.2.1.length->Zbt N s (i:Int)=some (hiB s.2.2.2.2.2.2.2.1 (s.2.2.2.1.drop i)&& (hiB s.2.2.2.2.2.2.2.1 s.2.2.2.2.1&& (Qh4 s&& (s.1==stF s))),())
 |0,_,h,_=>by omega
 |N+1,i,hN,hi=>by
  rw[Zbt];by_cases hh:i<s.2.2.2.1.length
  ·rw[Zp (Zm (by omega)),Zb (by omega),Zr hh (by omega),Xfb s hl hl2 N (i+1) (by omega) (by omega),show(i:Int).toNat=i from rfl,Xj (d:=Zw) hh];simp only[hiB,List.all_cons];by_cases hc: (s.2.2.2.1.getD i Zw).2.1<=s.2.2.2.2.2.2.2.1
   ·rw[Zj (p:=_>_) (by omega),Zm hc];rfl
   ·rw[Zm (p:=_>_) (by omega),Zj hc];rfl
  ·rw[Zl (Zj (by omega)),List.drop_eq_nil_of_le (by omega)];exact Xfc s hl2 _ 0 (by unfold Zf6;omega) (by omega)
def Q80(a:List Zc)(r:Zc):List Zc:=if rsB (-1) a=true/\Zdf r=true then Zh3 a r else a
def Wk(a l:List Zc):List Zc:=l.foldl Q80 a
theorem Qgt{E:Int}: ∀{l a:List Zc},RL E a->(∀x∈l,x.2.1<=E)->RL E (Wk a l)
 | [],_,h,_=>h
 |x::l,a,h,hl=>Qgt (l:=l) (a:=Q80 a x) (Zup h (hl x (by simp))) fun y hy=>hl y (by simp[hy])
theorem Qg2{E:Int}: ∀{l:List Zc} {lo:Int},rsB lo l=true->(∀x∈l,x.2.1<=E)->l≠[]->Vd l<=E-lo-1
 | [],_,_,_,h=>absurd rfl h
 |x::l,lo,h,hE,_=>by
  obtain⟨h1,h2,h3⟩:=Je.1 h;have hx:=hE x (by simp);simp only[Vd];rcases l with _| ⟨y,l⟩
  ·simp only[Vd];omega
  ·have:=Qg2 h3 (fun z hz=>hE z (by simp[hz])) (by simp);omega
theorem Q4r{E:Int}{l:List Zc}(h:RL E l)(hc:Vd l=E)(h0:0<E): (l.getD 0 Zw).2.1=E:=by
 obtain⟨h1,h2⟩:=h;rcases l with _| ⟨x,l⟩
 ·simp only[Vd]at hc;omega
 ·obtain⟨a1,a2,a3⟩:=Je.1 h1;have hx:=h2 x (by simp);have a1:=Qs.1 a1;simp only[Vd]at hc;rcases l with _| ⟨y,l⟩
  ·simp only[Vd]at hc;simp only[List.getD_cons_zero];omega
  ·have:=Qg2 a3 (fun z hz=>h2 z (by simp[hz])) (by simp);omega
theorem Qg3{E:Int}{l:List Zc}(h:RL E l)(h0:0<=E):0<=Vd l/\Vd l<=E:=by
 have: ∀{l:List Zc} {lo:Int},rsB lo l=true->0<=Vd l:=by
  intro l
  induction l with
  |nil=>intro lo _;simp[Vd]
  |cons x l ih=>
   intro lo h;obtain⟨a1,a2,a3⟩:=Je.1 h;have a1:=Qs.1 a1;have:=ih a3;simp only[Vd];omega
 refine⟨this h.1,?_⟩;rcases hl:l with _| ⟨x,l'⟩
 ·simp only[Vd];exact h0
 ·have:=Qg2 h.1 h.2 (by rw[hl];simp);rw[hl]at this;omega
def Zxo(s:Zo)(all:List Zc):Bool:=(Vd all==s.2.1.2.2.1)&& (Vd s.2.2.1+Vd s.2.2.2.1+Vd s.2.2.2.2.1==s.2.1.2.2.1)
theorem Xfa{K:Int}{s:Zo}(hs:Kk K s)(hK:K<=1000000): ∀(N i:Nat) (all:List Zc),RL (Q5p s) all->s.2.2.2.2.1.length-i<N->i<=s.2.2.2.2.1.length->
  Zbs N s all (i:Int)=some (Zxo s (Wk all (s.2.2.2.2.1.drop i))&& ((Zx2 s.2.2.2.2.1 0==s.2.1.2.1)&& ((s.2.2.2.2.2.2.2.2.1==0)&& (hiB s.2.2.2.2.2.2.2.1 s.2.2.2.1&& (hiB s.2.2.2.2.2.2.2.1 s.2.2.2.2.1&& (Qh4 s&& (s.1==stF s)))))),())
 |0,_,_,_,h,_=>by omega
 |N+1,i,all,ha,hN,hi=>by
  have la:=Qz ha hs.e0 hs.eK hK;have l1:=Qz hs.pend hs.e0 hs.eK hK;have l2:=Qz hs.flight hs.e0 hs.eK hK;have l3:=Qz hs.acked hs.e0 hs.eK hK;rw[Zbs];by_cases h:i<s.2.2.2.2.1.length
  ·rw[Zp (Zm (by omega)),Zb (by omega),Zr h (by omega),Znu _ _ (by omega),Obs,Xj (d:=Zw) h];exact Xfa hs hK N (i+1) _ (Zup ha (hs.acked.2 _ (Z2 h))) (by omega) (by omega)
  ·have c1:=Qg3 hs.pend hs.e0;have c2:=Qg3 hs.flight hs.e0;have c3:=Qg3 hs.acked hs.e0;have heK:=hs.eK;rw[Zl (Zj (by omega)),Zec _ (by omega),Zec _ (by omega),Zec _ (by omega),Zec _ (by omega),Qed _ _ (by omega),List.drop_eq_nil_of_le (by omega)];simp only[Obs,ha.1,hs.pend.1,hs.flight.1,hs.acked.1,if_true];rw[Zb (fun h1 h2=>by
    simp only[Bool.or_eq_false_iff,bne_eq_false_iff_eq,decide_eq_true_eq]at h1 h2;have:=Qx2 (l:=all) (by omega);omega),Zv (n:=Vd s.2.2.1+Vd s.2.2.2.1) (by omega) (by omega),Zv (by omega) (by omega),show Wk all []=all from rfl]
   have e3:=Xfb s (by omega) (by omega) (Za9 s 0) 0 (by unfold Za9;omega) (by omega);simp only[Int.natCast_zero,List.drop_zero]at e3;rw[e3];unfold Zxo;generalize (hiB s.2.2.2.2.2.2.2.1 s.2.2.2.1&& (hiB s.2.2.2.2.2.2.2.1 s.2.2.2.2.1&& (Qh4 s&& (s.1==stF s))))=R;have hq: (if True/\(0:Int)<=0 then Zx2 s.2.2.2.2.1 0 else-1)=Zx2 s.2.2.2.2.1 0:=by simp
   rw[hq];by_cases w1:Vd all=s.2.1.2.2.1
   ·by_cases w2:Vd s.2.2.1+Vd s.2.2.2.1+Vd s.2.2.2.2.1=s.2.1.2.2.1
    ·have hz: ((decide (s.2.1.2.2.1>0))&& ((all.getD (0:Int).toNat Zw).2.1 !=s.2.1.2.2.1))=false:=by
      by_cases hp:0<s.2.1.2.2.1
      ·have:=Q4r ha w1 hp;rw[show((0:Int).toNat)=0 from rfl,this];simp
      ·rw[Zj (by omega)];rfl
     rw[hz,beq_iff_eq.2 w1,beq_iff_eq.2 w2,show(Vd all !=s.2.1.2.2.1)=false by simp[w1],show(Vd s.2.2.1+Vd s.2.2.2.1+Vd s.2.2.2.2.1 !=s.2.1.2.2.1)=false by simp[w2]];simp only[Bool.or_self,Ocf,Obs,Bool.false_or,Bool.and_self,Ota];simp only[bne];generalize (Zx2 s.2.2.2.2.1 0==s.2.1.2.1)=g1;generalize (s.2.2.2.2.2.2.2.2.1==0)=g2;cases g1<;>cases g2<;>rfl
    ·rw[beq_eq_false_iff_ne.2 w2,show(Vd s.2.2.1+Vd s.2.2.2.1+Vd s.2.2.2.2.1 !=s.2.1.2.2.1)=true by simp[w2]];simp
   ·rw[beq_eq_false_iff_ne.2 w1,show(Vd all !=s.2.1.2.2.1)=true by simp[w1]];simp
theorem Xcw{K:Int}{s:Zo}(hs:Kk K s)(hK:K<=1000000): ∀(N i:Nat) (all:List Zc),RL (Q5p s) all->s.2.2.2.1.length-i<N->i<=s.2.2.2.1.length->
  Zbr N s all (i:Int)=some (Zxo s (Wk (Wk all (s.2.2.2.1.drop i)) s.2.2.2.2.1)&& ((Zx2 s.2.2.2.2.1 0==s.2.1.2.1)&& ((s.2.2.2.2.2.2.2.2.1==0)&& (hiB s.2.2.2.2.2.2.2.1 s.2.2.2.1&& (hiB s.2.2.2.2.2.2.2.1 s.2.2.2.2.1&& (Qh4 s&& (s.1==stF s)))))),())
 |0,_,_,_,h,_=>by omega
 |N+1,i,all,ha,hN,hi=>by
  have la:=Qz ha hs.e0 hs.eK hK;have l2:=Qz hs.flight hs.e0 hs.eK hK;rw[Zbr];by_cases h:i<s.2.2.2.1.length
  ·rw[Zp (Zm (by omega)),Zb (by omega),Zr h (by omega),Znu _ _ (by omega),Obs,Xj (d:=Zw) h];exact Xcw hs hK N (i+1) _ (Zup ha (hs.flight.2 _ (Z2 h))) (by omega) (by omega)
  ·rw[Zl (Zj (by omega)),List.drop_eq_nil_of_le (by omega)];have:=Xfa hs hK (Za8 s all 0) 0 all ha (by unfold Za8;omega) (by omega);simp only[Int.natCast_zero,List.drop_zero]at this;exact this
theorem Q4g{K:Int}{s:Zo}(hs:Kk K s)(hK:K<=1000000)(t:List Zc)(ht:t.length<=3000000)(hE: ∀x∈t,x.2.1<=s.2.1.2.2.1): ∀(N i:Nat) (all:List Zc),RL (Q5p s) all->t.length-i<N->i<=t.length->
  Zih N s.2.1.2.2.1 all t (t.length:Int) (i:Int)=some (Vd (Wk all (t.drop i))==s.2.1.2.2.1,())
 |0,_,_,_,h,_=>by omega
 |N+1,i,all,ha,hN,hi=>by
  have la:=Qz ha hs.e0 hs.eK hK;rw[Zih];by_cases h:i<t.length
  ·rw[Zp (Zm (by omega)),Zb (by omega),Zr h (by omega),Qt5 _ _ (by omega),Obs,Xj (d:=Zw) h];exact Q4g hs hK t ht hE N (i+1) _ (Zup ha (hE _ (Z2 h))) (by omega) (by omega)
  ·rw[Zl (Zj (by omega)),List.drop_eq_nil_of_le (by omega),Zrw _ (by omega)];simp only[ha.1,if_true,Obs];unfold Zdt;rw[Zb (fun h=>by
    have:=Ode h;rw[Zv (by omega) (by omega)];omega)]
   have hz: ((decide ((all.length:Int)>0))&& (decide ((all.getD (IntKind.i64.wrap ((all.length:Int)-1)).toNat Zw).2.1>s.2.1.2.2.1)))=false:=by
    by_cases hp: (all.length:Int)>0
    ·rw[Zv (by omega) (by omega)];have:=ha.2 _ (Z2 (l:=all) (i:=((all.length:Int)-1).toNat) (d:=Zw) (by omega));rw[Zj (p:=_>s.2.1.2.2.1) (by unfold Q5p at this;omega)];simp
    ·rw[Zj hp];rfl
   rw[hz,show Wk all []=all from rfl];cases Vd all==s.2.1.2.2.1<;>rfl
theorem Xa1{lo S:Int}: ∀{l:List Zc},rsB lo l=true->hiB S l= !((decide ((l.length:Int)>0))&& (decide ((l.getD (l.length-1) Zw).2.1>S)))
 | [],_=>rfl
 | [x],_=>by
  simp only[hiB,List.all_cons,List.all_nil,Bool.and_true,List.length_singleton,Nat.sub_self,List.getD_cons_zero];by_cases h:x.2.1<=S
  ·rw[Zm h,Zj (p:=x.2.1>S) (by omega)];rfl
  ·rw[Zj h,Zm (p:=x.2.1>S) (by omega)];rfl
 |x::y::l,h=>by
  obtain⟨a1,a2,a3⟩:=Je.1 h;have ih:=Xa1 (S:=S) a3;have b:=Je.1 a3;have b1:=Qs.1 b.1;have e: (x::y::l).getD ((x::y::l).length-1) Zw=(y::l).getD ((y::l).length-1) Zw:=by simp
  rw[e];have e2:hiB S (x::y::l)=(decide (x.2.1<=S)&&hiB S (y::l)):=rfl;rw[e2,ih,Zm (p:=((x::y::l).length:Int)>0) (by simp only[List.length_cons];omega),Zm (p:=((y::l).length:Int)>0) (by simp only[List.length_cons];omega)];by_cases hx:x.2.1<=S
  ·rw[Zm hx];rfl
  ·have e3:hiB S (y::l)=false:=by
    simp only[hiB,List.all_cons];rw[Zj (by omega)];rfl
   rw[e3,Zm (p:=((y::l).length:Int)>0) (by simp only[List.length_cons];omega)]at ih;rw[Zj hx];simpa using ih
theorem Qqu{lo:Int}{l:List Zc}(h:rsB lo l=true)(hl:l.length<=1048576)(S:Int):Zdt l S=some (!hiB S l,()):=by
 unfold Zdt;simp only;rw[Zb (fun h=>by
  have:=Ode h;rw[Zv (by omega) (by omega)];omega),Xa1 h (S:=S),Bool.not_not]
 by_cases hp: (l.length:Int)>0
 ·rw[Zv (by omega) (by omega),show((l.length:Int)-1).toNat=l.length-1 by omega]
 ·rw[Zj hp];rfl
theorem Qif{K:Int}{s:Zo}(hs:Kk K s)(hK:K<=1000000):Znx s=Xv s:=by
 have l1:=Qz hs.pend hs.e0 hs.eK hK;have l2:=Qz hs.flight hs.e0 hs.eK hK;have l3:=Qz hs.acked hs.e0 hs.eK hK;have hr:=(Zxe s.2.1 (by have:=hs.cells;omega)).1;have c1:=Qg3 hs.pend hs.e0;have c2:=Qg3 hs.flight hs.e0;have c3:=Qg3 hs.acked hs.e0;have heK:=hs.eK;have s1:=Xcw hs hK (Yz s s.2.2.1 0) 0 s.2.2.1 hs.pend (by unfold Yz;omega) (by omega);simp only[Int.natCast_zero,List.drop_zero]at s1;have w1:Zr5 s.2.2.1 s.2.2.2.1 s.2.2.2.2.1 s.2.1.2.2.1=some (Zxo s (Wk (Wk s.2.2.1 s.2.2.2.1) s.2.2.2.2.1),()):=by
  unfold Zr5;rw[Zrw _ (by omega),Zrw _ (by omega),Zrw _ (by omega),Zl1 _ (by omega),Zl1 _ (by omega)];simp only[hs.pend.1,hs.flight.1,hs.acked.1,if_true,Obs];rw[Zv (n:=Vd s.2.2.1+Vd s.2.2.2.1) (by omega) (by omega),Zv (by omega) (by omega),Zb (by unfold Qg;omega)];have:=Q4g hs hK (s.2.2.2.1++s.2.2.2.2.1) (by simp;omega) (fun x hx=>by
   rcases List.mem_append.1 hx with hx|hx
   ·exact hs.flight.2 x hx
   ·exact hs.acked.2 x hx) (Zf3 s.2.1.2.2.1 s.2.2.1 (s.2.2.2.1++s.2.2.2.2.1) ((s.2.2.2.1++s.2.2.2.2.1).length:Int) 0) 0 s.2.2.1 hs.pend (by unfold Zf3;omega) (by omega)
  simp only[Int.natCast_zero,List.drop_zero]at this;rw[this];unfold Zxo;have e:Wk s.2.2.1 (s.2.2.2.1++s.2.2.2.2.1)=Wk (Wk s.2.2.1 s.2.2.2.1) s.2.2.2.2.1:=List.foldl_append ..;rw[e];simp only[bne];cases (Vd s.2.2.1+Vd s.2.2.2.1+Vd s.2.2.2.2.1==s.2.1.2.2.1)
  ·simp
  ·simp
 have hg: ∀f,0<=s.2.2.2.2.2.2.1->s.2.2.2.2.2.2.1<=3->Zid s f=some (Zxo s (Wk (Wk s.2.2.1 s.2.2.2.1) s.2.2.2.2.1)&& ((Zx2 s.2.2.2.2.1 0==s.2.1.2.1)&& ((s.2.2.2.2.2.2.2.2.1==0)&& (hiB s.2.2.2.2.2.2.2.1 s.2.2.2.1&& (hiB s.2.2.2.2.2.2.2.1 s.2.2.2.2.1&& ((s.2.2.2.2.2.1==f)&& (s.1==stF s)))))),()):=fun f h0 h3=>by
  unfold Zid;rw[w1,Q4w _ _ (by omega),Qqu hs.flight.1 (by omega),Qqu hs.acked.1 (by omega),Zzy s h0 h3];have hq: (if rsB (-1) s.2.2.2.2.1=true/\(0:Int)<=0 then Zx2 s.2.2.2.2.1 0 else-1)=Zx2 s.2.2.2.2.1 0:=if_pos ⟨hs.acked.1,Int.le_refl _⟩;rw[hq];simp only[Obs];generalize Zxo s (Wk (Wk s.2.2.1 s.2.2.2.1) s.2.2.2.2.1)=b1;cases b1
  ·rfl
  simp only[Oct,Obs,Ota];generalize (Zx2 s.2.2.2.2.1 0==s.2.1.2.1)=b2;cases b2
  ·rfl
  simp only[Oct,Obs,Ota];generalize hiB s.2.2.2.2.2.2.2.1 s.2.2.2.1=b3;generalize hiB s.2.2.2.2.2.2.2.1 s.2.2.2.2.1=b4;generalize (s.2.2.2.2.2.2.2.2.1==0)=b5;generalize (s.2.2.2.2.2.1==f)=b6;cases b3<;>cases b4<;>cases b5<;>cases b6<;>rfl
 unfold Znx Xv;rw[Q3i _ (by have:=hs.cells;omega),hr,Zg2 _ (by omega),Zg2 _ (by omega),Zg2 _ (by omega),Zul _ (by omega),Zul _ (by omega),Zul _ (by omega),s1];have e2:Qi s.2.2.2.2.2.2.2.2.1=some (decide (s.2.2.2.2.2.2.2.2.1>=0)&&decide (s.2.2.2.2.2.2.2.2.1<=4611686018427387903),()):=rfl;have e3:Xo s.2.2.2.2.2.2.2.2.1=some (decide (s.2.2.2.2.2.2.2.2.1>=0)&&decide (s.2.2.2.2.2.2.2.2.1<=4611686018427387903),()):=rfl;simp only[hs.pend.1,hs.flight.1,hs.acked.1,e2,e3,Zwa,Znj,Obs];generalize Zrd s.2.1=b1;cases b1
 ·rfl
 simp only[Ont,Ocf,Obs,Bool.false_or];generalize (decide (s.2.2.2.2.2.2.2.1>=0)&&decide (s.2.2.2.2.2.2.2.1<=s.2.1.2.2.1))=b2;cases b2
 ·rfl
 simp only[Ont,Ocf,Obs,Bool.false_or];generalize (decide (s.2.2.2.2.2.2.2.2.1>=0)&&decide (s.2.2.2.2.2.2.2.2.1<=4611686018427387903))=b3;cases b3
 ·rfl
 simp only[Ont,Ocf,Obs,Bool.false_or];by_cases hf:0<=s.2.2.2.2.2.2.1/\s.2.2.2.2.2.2.1<=3
 ·rw[hg _ hf.1 hf.2,hg _ hf.1 hf.2,show(decide (s.2.2.2.2.2.2.1>=0)&&decide (s.2.2.2.2.2.2.1<=3))=true by simp only[Oba,decide_eq_true_eq];exact hf];simp only[Ont,Ocf];cases (s.1==(4:Int))|| (s.1==(5:Int))
  ·simp only[Ocf];have e0:=hs.e0;have:Qh4 s=(bif s.2.2.2.2.2.2.1==0 then s.2.2.2.2.2.1== -1 else s.2.2.2.2.2.1==s.2.1.2.2.1):=by
    unfold Qh4;cases hz:s.2.2.2.2.2.2.1==0
    ·by_cases h1:s.2.2.2.2.2.1= -1
     ·rw[h1];simp;omega
     ·have: (s.2.2.2.2.2.1== -1)=false:=by simpa using h1
      simp[this,bne]
    ·by_cases h1:s.2.2.2.2.2.1= -1
     ·rw[h1];simp
     ·have: (s.2.2.2.2.2.1== -1)=false:=by simpa using h1
      simp[this]
   rw[this];cases s.2.2.2.2.2.2.1==0<;>rfl
  ·simp only[Oct];congr 2
   ac_rfl
 ·rw[show(decide (s.2.2.2.2.2.2.1>=0)&&decide (s.2.2.2.2.2.2.1<=3))=false by rw[Bool.and_eq_false_iff,decide_eq_false_iff_not,decide_eq_false_iff_not];omega];rfl
theorem Q6e(l:List Vg)(hl:l.length<=1048576)(ht:Zof l<=1000000): ∀(N i:Nat) (e:Int),l.length-i<N->i<=l.length-> -1<=e->e<=4611686018427387903->Zib N (e+1) l (l.length:Int) (i:Int)=some (ckB e (l.drop i),())
 |0,_,_,h,_,_,_=>by omega
 |N+1,i,e,hN,hi,h0,h1=>by
  rw[Zib];by_cases hh:i<l.length
  ·have hm:=Qom (Z2 (l:=l) (d:=Yb) hh);rw[Zp (Zm (by omega)),Zb (by omega),Zr hh (by omega),show(i:Int).toNat=i from rfl,Xj (d:=Yb) hh];generalize hc:l.getD i Yb=c at hm;have e1: (((c.2.1.length:Int)==0)||decide (c.1<e+1))=(decide (c.1<=e)|| (c.2.1==([]:List UInt8))):=by
    rw[Bool.eq_iff_iff];simp only[Bool.or_eq_true,beq_iff_eq,decide_eq_true_eq];rw[<-List.length_eq_zero_iff];omega
   simp only[ckB];rw[e1,Zv (n:=4611686018427387903- (c.2.1.length:Int)) (by omega) (by omega)];cases hx: ((decide (c.1<=e)|| (c.2.1==([]:List UInt8)))||decide (c.1>4611686018427387903- (c.2.1.length:Int)))
   ·simp only[Bool.or_eq_false_iff,decide_eq_false_iff_not]at hx;rw[Ocf];unfold Zpz;rw[Obs];simp only;rw[Zv (n:=c.1+ (c.2.1.length:Int)) (by omega) (by omega),Zv (by omega) (by omega),Q6e l hl ht N (i+1) (c.1+ (c.2.1.length:Int)) (by omega) (by omega) (by omega) (by omega)];simp
   ·rfl
  ·rw[Zl (Zj (by omega)),List.drop_eq_nil_of_le (by omega)];rfl
theorem Qoa(n:Int):Xo n=some (Zn6 n,()):=rfl
theorem Qid{K:Nat}{b:Z3}(h:Zo3 K b)(hK:K<=1000000):Zkr b=some (Z6p b,()):=by
 have hl:=h.len;have ht:=h.tot;unfold Zkr Z6p;rw[Qoa,Obs];cases hq:Zn6 b.1
 ·simp
 ·have hq:=Zgn.1 hq;rw[Zv (n:=b.1-1) (by omega) (by omega)];have:=Q6e b.2.1 (by omega) (by omega) (Zf2 b.1 b.2.1 (b.2.1.length:Int) 0) 0 (b.1-1) (by unfold Zf2;omega) (by omega) (by omega) (by omega);simp only[Int.natCast_zero,List.drop_zero,Int.sub_add_cancel]at this;rw[Ont,Ocf,this,Bool.and_true]
theorem Xb4{K:Nat}{b:Z3}(h:Zo3 K b)(hK:K<=1000000):Zz3 b=Zrp b:=by
 have hl:=h.len;unfold Zz3 Zrp;rw[Qid h hK,Zn1 b (by omega),Obs];cases hz: ((b.2.1.length:Int)==0)
 ·cases Z6p b
  ·rfl
  ·rfl
 ·cases Z6p b<;>rfl
theorem Qzg{K:Nat}{b:Z3}(h:Zo3 K b)(hK:K<=1000000):Zol b=Zal b:=by
 have hl:=h.len;unfold Zol Zal;rw[Qid h hK,Zn1 b (by omega)]
theorem Qyq{K:Nat}{r:Qe}(h:Zo3 K r.2.1)(hK:K<=1000000):Zoj r=X4 r:=by
 have hl:=h.len;obtain⟨v,hv⟩:=Q6z h hK;unfold Zoj X4 Zxd;rw[Qid h hK,Zn1 _ (by omega),Xb4 h hK,hv,Qzg h hK,Zvl _ (by omega)];simp only[Qoa,Wr,Znj,Obs];generalize Z6p r.2.1=b1;cases b1
 ·cases r.2.2.1 !=(-1:Int)<;>rfl
 simp only[Ont,Ocf,Obs,Bool.false_or];cases hq:Zn6 r.2.2.2.1
 ·by_cases h1:v>r.2.2.2.1
  ·rw[Zm h1];cases r.2.2.1 !=(-1:Int)<;>rfl
  ·rw[Zj h1];cases r.2.2.1 !=(-1:Int)<;>rfl
 have hq:=Zgn.1 hq;simp only[Ont,Ocf,Obs,Bool.false_or];by_cases h1:v>r.2.2.2.1
 ·rw[Zm h1];cases r.2.2.1 !=(-1:Int)<;>rfl
 rw[Zj h1];simp only[Ocf,Obs,Bool.false_or];cases hc:Zn6 r.2.2.2.2.1
 ·cases r.2.2.1 !=(-1:Int)<;>rfl
 simp only[Ont,Ocf,Obs,Bool.false_or];have e: ((r.2.2.1 != -1)&& (!(decide (r.2.2.1>=r.2.2.2.1)&&decide (r.2.2.1<=4611686018427387903))))=((((r.2.2.1 != -1)&& (decide (r.2.2.1<r.2.2.2.1)))|| (decide (r.2.2.1>4611686018427387903)))|| (decide (r.2.2.1< -1))):=by
  rw[Bool.eq_iff_iff];simp only[Oba,bne_iff_ne,ne_eq,Bool.not_eq_true',Bool.and_eq_false_iff,decide_eq_false_iff_not,Bool.or_eq_true,decide_eq_true_eq];omega
 by_cases hf:r.2.2.1= -1
 ·rw[hf];have e2: ((-1:Int)==r.2.2.2.1)=false:=by rw[beq_eq_false_iff_ne];omega
  have j: ∀b,Vr r b=Yt r b:=fun b=>by
   unfold Vr Yt;rw[hf,e2];rfl
  simp only[j];rfl
 ·have hn: (r.2.2.1 != -1)=true:=by simpa using hf
  rw[hn]at e⊢;simp only[Oct,Obs,Ota]at e⊢;rw[e];have j: ∀b,Vr r b=Yt r b:=fun b=>by
   unfold Vr Yt;rw[hn];have: (r.2.2.1==r.2.2.2.1)=(r.2.2.2.1==r.2.2.1):=by rw[Bool.eq_iff_iff];simp only[beq_iff_eq];exact eq_comm
   rw[this];rfl
  simp only[j];generalize ((((decide (r.2.2.1<r.2.2.2.1)))|| (decide (r.2.2.1>4611686018427387903)))|| (decide (r.2.2.1< -1)))=c;cases c
  ·simp only[Ocf];congr 1;congr 1;congr 1;congr 1;congr 2
   ac_rfl
  ·rfl
theorem Qie(c:X7):Zb0 c=Yd c:=rfl
theorem Qul(w:Qt):Zny w=Vl w:=rfl
theorem Qyp(p:Q9):Zj2 p=Vo p:=rfl
theorem bO{β:Type}{c b:Bool}{f:Bool×Unit->Option β}:Option.bind (bif c then some (false,())else some (b,())) f=f (!c&&b,()):=by cases c<;>rfl
theorem bO2{c b:Bool}: (c|| !(!c&&b))=(c|| !b):=by cases c<;>rfl
theorem bA{β:Type}{c b:Bool}{f:Bool×Unit->Option β}:Option.bind (bif c then some (b,())else some (false,())) f=f (c&&b,()):=by cases c<;>rfl
theorem bA2{c b:Bool}: (c&& (c&&b))=(c&&b):=by cases c<;>rfl
theorem Quk{K:Nat}{s:Zh}(h:Vy K s)(hK:K<=1000000):Zrz s=Zb9 s:=by
 obtain⟨b1,e1,-⟩:=Zkt h.snd (by omega);obtain⟨b2,e2⟩:=Z37 s.2.2.1;obtain⟨b3,e3⟩:=Zmd h.rcv hK;obtain⟨b4,e4⟩:=Zyi s.2.2.2.2.1;obtain⟨b5,e5⟩:=Qar s.2.2.2.2.2.1;unfold Zrz Zb9;simp only[Qif h.snd (by omega),Qyq h.rcv hK,Qie,Qul,Qyp,e1,e2,e3,e4,e5,Wr,Qoa,Obs,bO,bO2];have n1: (s.2.1.1 !=0)= !(s.2.1.1==0):=rfl;have n2: (s.2.1.2.1.2.2.1 !=0)= !(s.2.1.2.1.2.2.1==0):=rfl;have n3: (s.2.1.2.2.2.2.2.1 != -1)= !(s.2.1.2.2.2.2.2.1== -1):=rfl;rw[n1,n2,n3];generalize Zn6 s.1=q1;generalize Zn6 _=q2;generalize (s.2.1.1==0)=x1;generalize (s.2.1.2.1.2.2.1==0)=x2;generalize (s.2.1.2.2.2.2.2.1== -1)=x3;generalize decide (s.2.1.2.2.2.2.2.2.2.1>s.2.2.1.2.1)=a1;generalize decide (s.2.2.2.1.2.2.2.1>s.2.2.2.2.1.2.2.2.1)=a2;generalize (s.2.2.2.2.2.2.2.2.1&& (s.2.1.1 !=4))=a3;generalize (s.2.2.2.2.2.2.2.2.2.1&& !s.2.2.2.2.2.2.2.2.2.2.2.1)=a4;generalize ((s.2.2.2.2.2.2.2.2.2.2.2.2.1 !=0)&& !s.2.2.2.2.2.2.2.2.2.2.2.1)=a5;generalize (((s.2.2.2.1.1==0)&& (s.2.2.2.1.2.2.2.1==0))&& !s.2.2.2.2.2.2.2.2.2.2.2.1)=a6;generalize s.2.2.2.2.2.2.1=cs;generalize s.2.2.2.2.2.2.2.1=cr;cases q1
 ·rfl
 cases b1
 ·cases q2<;>rfl
 cases b2
 ·cases q2<;>rfl
 cases b3
 ·cases q2<;>rfl
 cases b4
 ·cases q2<;>rfl
 cases b5
 ·cases q2<;>rfl
 cases q2
 ·rfl
 clear e1 e2 e3 e4 e5 n1 n2 n3 h;revert x1 x2 x3 a1 a2 a3 a4 a5 a6 cs cr;decide
theorem Q9u(c:Zq7):Zsu c=V8 c:=by
 unfold Zsu V8 Zj6 Zel;have e1:decide (c.1>=1)=decide (c.1>0):=by congr 1
 simp only[Znj,Zwa,Obs,bA,bA2,e1];congr 2
 ac_rfl
theorem Q7g(c:Ze8):Zt2 c=Zb7 c:=rfl
theorem Qyo(c:X7):Zp0 c=J4 c:=rfl
theorem Qo0{K:Nat}{l:List Zh}(h:Zmy K l)(hK:K<=1000000)(h24:l.length<=24): ∀(N i:Nat),l.length-i<N->i<=l.length->Vp N l l (l.length:Int) (i:Int)=X6 N l (i:Int)
 |0,_,h,_=>by omega
 |N+1,i,hN,hi=>by
  rw[Vp,X6];by_cases hh:i<l.length
  ·have g: ∀{a:Prop},a->decide ((i:Int)>0)=true->0<=IntKind.i64.wrap ((i:Int)-1)/\IntKind.i64.wrap ((i:Int)-1)< (l.length:Int):=fun _ h=>by
    have:=Ode h;rw[Zv (by omega) (by omega)];omega
   obtain⟨b,e⟩:=Z38 (h.all _ (Z2 (d:=Zn) hh)) hK;rw[Zp (Zm (p:=(i:Int)< (l.length:Int)) (by omega)),Zp (Zm (p:=(i:Int)< (l.length:Int)) (by omega)),Zb (by omega),Zb (by omega),show(i:Int).toNat=i from rfl,Quk (h.all _ (Z2 (d:=Zn) hh)) hK,Zj (p:=(i:Int)>=24) (by omega),Ocf,e,Obs,Obs];simp only[Bool.false_or];rw[Zb (fun h h2=>g h h2),Zb (fun h h2=>g h h2),Zb (fun _ _=>by omega),Zr hh (by omega),Qo0 h hK h24 N (i+1) (by omega) (by omega)]
  ·rw[Zl (Zj (by omega)),Zl (Zj (by omega)),Zm (by omega)]
theorem Qxv{K:Nat}{l:List Zh}(h:Zmy K l)(hK:K<=1000000)(h24:24<l.length): ∀(N i:Nat),24-i<N->i<=24->Vp N l l (l.length:Int) (i:Int)=some (false,())
 |0,_,h,_=>by omega
 |N+1,i,hN,hi=>by
  have hl:=h.len;rw[Vp,Zp (Zm (by omega)),Zb (by omega)];have hh:i<l.length:=by omega
  have g: ∀{a:Prop},a->decide ((i:Int)>0)=true->0<=IntKind.i64.wrap ((i:Int)-1)/\IntKind.i64.wrap ((i:Int)-1)< (l.length:Int):=fun _ h=>by
   have:=Ode h;rw[Zv (by omega) (by omega)];omega
  by_cases h4:i=24
  ·rw[Zm (p:=(i:Int)>=24) (by omega),Oct,Obs];simp only[Bool.true_or];rw[Zb (fun h h2=>g h h2),Oct]
  ·obtain⟨b,e⟩:=Z38 (h.all _ (Z2 (d:=Zn) hh)) hK;rw[show(i:Int).toNat=i from rfl,Zj (p:=(i:Int)>=24) (by omega),Ocf,Quk (h.all _ (Z2 (d:=Zn) hh)) hK,e,Obs,Zr hh (by omega),Qxv h hK h24 N (i+1) (by omega) (by omega)];simp only[Bool.false_or];rw[Zb (fun h h2=>g h h2)];generalize (!b||_)=c;cases c<;>rfl
theorem Z23{K:Nat}{l:List Zh}(h:Zmy K l)(hK:K<=1000000):Zdr l=Y2 l:=by
 by_cases h24:l.length<=24
 ·unfold Zdr Y2;exact Qo0 h hK h24 _ 0 (by unfold Zc6;omega) (by omega)
 ·obtain⟨⟨b,u⟩,e,hb⟩:=Qkm h hK;have:b=false:=by
   cases b
   ·rfl
   ·exact absurd (hb rfl) h24
  rw[e,this];unfold Zdr;exact Qxv h hK (by omega) _ 0 (by unfold Zc6;omega) (by omega)
theorem Q1y{K:Nat}{l:List Zh}(h:Zmy K l)(hK:K<=1000000):Zp6 l=Zcv l:=by
 obtain⟨b,e⟩:=Zuq h hK;have hl:=h.len;have lp:b=true-> ∀(N i:Nat) (n:Int),l.length-i<N->i<=l.length-> ∃v,Y4 N () n l (l.length:Int) (i:Int)=some (v,())/\Y8 N l n (i:Int)=some (v,()):=by
  intro hb N
  induction N with
  |zero=>intro i n h;omega
  |succ N ih=>
   intro i n hN hi;rw[Y4,Y8,e,hb];by_cases hh:i<l.length
   ·rw[Zm (by omega),Oct,Oct,Obs,Zb (by omega)];simp only[Bool.and_self,Oct];rw[Zb (by omega),Zr hh (by omega)];exact ih (i+1) _ (by omega) (by omega)
   ·rw[Zj (by omega)];exact⟨n,rfl,rfl⟩
 unfold Zp6 Zeg Zcv;rw[Z23 h hK,e];cases b
 ·rw[Yo,Y8,e];by_cases hh:0<l.length
  ·rw[Zm (by omega)];rfl
  ·rw[Zj (by omega)];rfl
 ·obtain⟨v,h1,h2⟩:=lp rfl (Yo l 0 0) 0 0 (by unfold Yo;omega) (by omega);obtain⟨v',h3,h4⟩:=lp rfl (Xu () 0 l (l.length:Int) 0) 0 0 (by unfold Xu;omega) (by omega);have e2:Xu () 0 l (l.length:Int) 0=Yo l 0 0:=rfl;rw[Int.natCast_zero]at h1 h2 h3 h4;rw[e2]at h3⊢;simp only[Obs,Ont,Ocf,h1,h2]
theorem Q1x{K:Nat}{l:List Zh}(h:Zmy K l)(hK:K<=1000000):Zp5 l=Zcu l:=by
 obtain⟨b,e⟩:=Zuq h hK;have hl:=h.len;have lp:b=true-> ∀(N i:Nat) (n:Int),l.length-i<N->i<=l.length-> ∃v,Y3 N () n l (l.length:Int) (i:Int)=some (v,())/\Y7 N l n (i:Int)=some (v,()):=by
  intro hb N
  induction N with
  |zero=>intro i n h;omega
  |succ N ih=>
   intro i n hN hi;rw[Y3,Y7,e,hb];by_cases hh:i<l.length
   ·rw[Zm (by omega),Oct,Oct,Obs,Zb (by omega)];simp only[Bool.and_self,Oct];rw[Zb (by omega),Zr hh (by omega)];exact ih (i+1) _ (by omega) (by omega)
   ·rw[Zj (by omega)];exact⟨n,rfl,rfl⟩
 unfold Zp5 Zef Zcu;rw[Z23 h hK,e];cases b
 ·rw[Yn,Y7,e];by_cases hh:0<l.length
  ·rw[Zm (by omega)];rfl
  ·rw[Zj (by omega)];rfl
 ·obtain⟨v,h1,h2⟩:=lp rfl (Yn l 0 0) 0 0 (by unfold Yn;omega) (by omega);have e2:Vi () 0 l (l.length:Int) 0=Yn l 0 0:=rfl;rw[Int.natCast_zero]at h1 h2;rw[e2];simp only[Obs,Ont,Ocf,h1,h2]
theorem Qui{l:List Zf}(h:Qot l)(u:Unit): ∀(N i:Nat),l.length-i<N->i<=l.length-> ∃k b,Qc N l u (l.length:Int) (i:Int)=some (k,())/\decide (k>=0)= !b/\Jf N l (i:Int)=some (b,())
 |0,_,h,_=>by omega
 |N+1,i,hN,hi=>by
  have hl:=h.1;rw[Qc,Jf];by_cases hh:i<l.length
  ·have hm:=h.2 _ (Z2 (d:=Qq) hh);unfold FOK at hm;unfold Zp7;rw[Zp (Zm (by omega)),Zp (Zm (by omega)),Zb (by omega),Zb (by omega),show(i:Int).toNat=i from rfl,Zz4 _ (by omega),Zua _ (by omega),Obs,Obs,Obs,Zr hh (by omega)];obtain⟨k,b,h1,h2,h3⟩:=Qui h () N (i+1) (by omega) (by omega);cases hc:Wl (l.getD i Qq)
   ·exact⟨_,false,rfl,by simp,rfl⟩
   ·exact⟨k,b,h1,h2,h3⟩
  ·rw[Zl (Zj (by omega)),Zl (Zj (by omega))];exact⟨_,true,rfl,by simp,rfl⟩
theorem Q9k{l:List Zf}(h:Qot l): ∃b,Qo l=some (!b,())/\Zcw l=some (b,()):=by
 unfold Qo Xk Zcw;obtain⟨k,b,h1,h2,h3⟩:=Qui h () (Ki l 0) 0 (by unfold Ki;omega) (by omega);have e2:Q6 l () (l.length:Int) 0=Ki l 0:=rfl;rw[Int.natCast_zero]at h1 h3;exact⟨b,by rw[e2,h1,Obs,h2],h3⟩
theorem Qn9{K:Nat}{c:Ze}(h:Xx K c)(hK:K<=1000000):Zl5 c=Yy c:=by
 obtain⟨sv,es⟩:=Qvc h.str hK;obtain⟨nv,en⟩:=Qvb h.str hK;have hl:=h.pk.1;obtain⟨r1,w1⟩: ∃r,Z4 c.2.2.2.2.2.2.2.2.2.2.2.2.2.1 (-1) 4611686018427387903=some (r,()):=⟨_,rfl⟩
 obtain⟨r2,w2⟩: ∃r,Z4 c.2.2.2.2.2.2.2.2.2.2.2.2.2.2.1 0 1000000=some (r,()):=⟨_,rfl⟩
 obtain⟨r3,w3⟩: ∃r,Z4 c.2.2.2.2.2.2.2.2.2.2.2.2.2.2.2.2.1 0 1000000=some (r,()):=⟨_,rfl⟩
 obtain⟨r4,w4⟩: ∃r,Z4 c.2.2.2.2.2.2.2.2.2.2.2.2.2.2.2.2.2.1 0 255=some (r,()):=⟨_,rfl⟩
 have v1:Zz c.2.2.2.2.2.2.2.2.2.2.2.2.2.1 (-1) 4611686018427387903=some (r1,()):=w1;have v2:Zz c.2.2.2.2.2.2.2.2.2.2.2.2.2.2.1 0 1000000=some (r2,()):=w2;have v3:Zz c.2.2.2.2.2.2.2.2.2.2.2.2.2.2.2.2.1 0 1000000=some (r3,()):=w3;have v4:Zz c.2.2.2.2.2.2.2.2.2.2.2.2.2.2.2.2.2.1 0 255=some (r4,()):=w4;have lp: ∀(N i:Nat),c.2.2.2.2.2.2.2.2.2.2.2.2.2.2.2.1.length-i<N->i<=c.2.2.2.2.2.2.2.2.2.2.2.2.2.2.2.1.length-> ∃p,Zfg N c.2.2.2.2.2.2.2.2.2.2.2.2.2.2.2.1 c.2.2.2.2.2.2.2.2.2.2.2.2.2.2.1 c.2.2.2.2.2.2.2.2.2.2.2.2.2.2.2.1 (c.2.2.2.2.2.2.2.2.2.2.2.2.2.2.2.1.length:Int) (i:Int)=some (p,())/\
   Wx N c (i:Int)=some (p&& (((((r1&&r2)&&r3)&&r4)&&decide (sv<=c.2.2.2.2.1.2.1))&&decide (nv<=c.2.2.2.2.2.1.2.2.2.1)),()):=by
  intro N
  induction N with
  |zero=>intro i h;omega
  |succ N ih=>
   intro i hN hi;rw[Zfg,Wx];by_cases hh:i<c.2.2.2.2.2.2.2.2.2.2.2.2.2.2.2.1.length
   ·have g: ∀{a:Prop},a->decide ((i:Int)>0)=true->0<=IntKind.i64.wrap ((i:Int)-1)/\IntKind.i64.wrap ((i:Int)-1)< (c.2.2.2.2.2.2.2.2.2.2.2.2.2.2.2.1.length:Int):=fun _ h=>by
     have:=Ode h;rw[Zv (by omega) (by omega)];omega
    obtain⟨b,f1,f2⟩:=Q9k (h.pk.2 _ (Z2 (d:=Qj) hh));rw[Zp (Zm (by omega)),Zp (Zm (by omega)),Zb (by omega),Zb (by omega),show(i:Int).toNat=i from rfl,Znj,Zwa,f1,f2,Obs,Obs,Zb (fun h h2=>g h h2),Zb (fun _ _=>by omega),Zb (fun h h2=>g h h2)];simp only;rw[Zb (fun _=>by omega),Zr hh (by omega)];obtain⟨p,k1,k2⟩:=ih (i+1) (by omega) (by omega);rw[k1,k2];generalize (!(_&&_)||_:Bool)=q;cases q
    ·cases b
     ·exact⟨false,rfl,rfl⟩
     ·exact⟨p,rfl,rfl⟩
    ·exact⟨false,rfl,rfl⟩
   ·rw[Zl (Zj (by omega)),Zl (Zj (by omega))];refine⟨true,rfl,?_⟩;simp only[w1,w2,w3,w4,Obs,bA,bA2,es,en,Ota];generalize (((r1&&r2)&&r3)&&r4)=q;cases q
    ·rfl
    ·simp only[Oct,Obs,Ota];by_cases hs:sv<=c.2.2.2.2.1.2.1
     ·rw[Zm hs];rfl
     ·rw[Zj hs];rfl
 obtain⟨p,k1,k2⟩:=lp (Kx c 0) 0 (by unfold Kx;omega) (by omega);have e2:Zig c.2.2.2.2.2.2.2.2.2.2.2.2.2.2.2.1 c.2.2.2.2.2.2.2.2.2.2.2.2.2.2.1 c.2.2.2.2.2.2.2.2.2.2.2.2.2.2.2.1 (c.2.2.2.2.2.2.2.2.2.2.2.2.2.2.2.1.length:Int) 0=Kx c 0:=rfl;rw[Int.natCast_zero]at k1 k2;obtain⟨b1,e1⟩:=Zz9 c.2.1;obtain⟨b2,e2'⟩:=Zz9 c.2.2.1;obtain⟨b3,e3⟩:=Zuq h.str hK;obtain⟨b4,e4⟩:=Z37 c.2.2.2.2.1;obtain⟨b5,e5⟩:=Zyi c.2.2.2.2.2.1;obtain⟨b6,e6⟩:=Z6c c.2.2.2.2.2.2.1;obtain⟨b7,e7⟩:=Z6c c.2.2.2.2.2.2.2.1;obtain⟨b8,e8⟩:=Qem c.2.2.2.2.2.2.2.2.1;obtain⟨b9,e9⟩:=Qem c.2.2.2.2.2.2.2.2.2.1;unfold Zl5 Yy Zta;simp only[Q9u,Z23 h.str hK,Qie,Qul,Q7g,Qyo,Q1y h.str hK,Q1x h.str hK,e1,e2',e3,e4,e5,e6,e7,e8,e9,e2,k1,k2,es,en,v1,v2,v3,v4,Obs,bO,bO2];cases b1
 ·rfl
 cases b2
 ·rfl
 cases b3
 ·rfl
 cases b4
 ·rfl
 cases b5
 ·rfl
 cases b6
 ·rfl
 cases b7
 ·rfl
 cases b8
 ·rfl
 cases b9
 ·rfl
 simp only[Ont,Bool.or_self,Ocf];cases p
 ·cases r1<;>cases r2<;>cases r3<;>cases r4<;>rfl
 simp only[Oct,Obs,Ota];by_cases hs:sv<=c.2.2.2.2.1.2.1
 ·rw[Zm hs];cases r1<;>cases r2<;>cases r3<;>cases r4<;>rfl
 ·rw[Zj hs];cases r1<;>cases r2<;>cases r3<;>cases r4<;>rfl
theorem Qkv(c:X7):Zj1 c=Zkb c:=rfl
theorem Xfo(c:X7):T (Yd c) fun r=>r.1=true->0<=c.2.1/\c.2.1<=c.1/\c.1<=4611686018427387903:=by
 unfold Yd;simp only[Wr,Zwa,Obs,bA,bA2];refine T.pure fun h=> ?_;simp only[Oba,Zgn,decide_eq_true_eq]at h;omega
theorem Xf1(n:Int): -9223372036854775808<=IntKind.i64.wrap n/\IntKind.i64.wrap n<=9223372036854775807:=by
 simp only[IntKind.wrap,IntKind.bits,IntKind.signed,Ota];split<;>rename_i h<;>simp at h<;>omega
def inB(n a b:Int):Bool:=decide (n>=a)&&decide (n<=b)
theorem Zg0{n a b:Int}:inB n a b=true↔a<=n/\n<=b:=by unfold inB;simp
theorem inQ(n a b:Int):Z4 n a b=some (inB n a b,()):=rfl
def Zsj(c:X7):Bool:=((Zn6 c.1&&inB c.2.1 0 c.1)&&inB c.2.2.1 (-1) c.1)&&inB c.2.2.2.1 (-1) c.1
theorem Qx6(c:X7):Yd c=some (Zsj c,()):=by
 unfold Yd;simp only[Wr,inQ,Obs,bA,bA2];rfl
structure Qz6(c:X7):Prop where
 lim:c.1<=4611686018427387903
 use0:0<=c.2.1
 use:c.2.1<=c.1
 blk0: -1<=c.2.2.1
 blk:c.2.2.1<=c.1
 told0: -1<=c.2.2.2.1
 told:c.2.2.2.1<=c.1
theorem Z3c{c:X7}:Zsj c=true↔Qz6 c:=by
 unfold Zsj;simp only[Oba,Zgn,Zg0];exact⟨fun h=>⟨by omega,by omega,by omega,by omega,by omega,by omega,by omega⟩,fun h=>by obtain⟨_,_,_,_,_,_,_⟩:=h;omega⟩
def Qxt(w:Qt):Bool:=(((((inB w.2.1 1 4096&&inB w.1 1 w.2.1)&&inB w.2.2.1 1 4611686018427387903)&&inB w.2.2.2.1 0 w.2.2.1)&&inB w.2.2.2.2.1 0 w.2.2.2.1)&&decide (w.2.2.1<=IntKind.i64.wrap (w.2.2.2.2.1+w.1)))&&inB w.2.2.2.2.2.1 0 1000000
theorem Xaq(w:Qt):Vl w=some (Qxt w,()):=by
 unfold Vl;simp only[inQ,Obs,bA,bA2];rfl
structure Q54(w:Qt):Prop where
 most:1<=w.2.1/\w.2.1<=4096
 size:1<=w.1/\w.1<=w.2.1
 lim:1<=w.2.2.1/\w.2.2.1<=4611686018427387903
 seen:0<=w.2.2.2.1/\w.2.2.2.1<=w.2.2.1
 read:0<=w.2.2.2.2.1/\w.2.2.2.2.1<=w.2.2.2.1
 lr:w.2.2.1<=w.2.2.2.2.1+w.1
 since:0<=w.2.2.2.2.2.1/\w.2.2.2.2.2.1<=1000000
theorem Q8p{w:Qt}:Qxt w=true↔Q54 w:=by
 unfold Qxt;simp only[Oba,Zg0,decide_eq_true_eq];constructor
 ·rintro⟨⟨⟨⟨⟨⟨h1,h2⟩,h3⟩,h4⟩,h5⟩,h6⟩,h7⟩;rw[Zv (by omega) (by omega)]at h6;exact⟨h1,h2,h3,h4,h5,h6,h7⟩
 ·rintro⟨h1,h2,h3,h4,h5,h6,h7⟩;rw[Zv (by omega) (by omega)];exact⟨⟨⟨⟨⟨⟨h1,h2⟩,h3⟩,h4⟩,h5⟩,h6⟩,h7⟩
def prB(p:Q9):Bool:=inB p.1 0 7
theorem prE(p:Q9):Vo p=some (prB p,()):=rfl
def Qsz(c:Ze8):Bool:=(inB c.1 0 1152921504606846976&&inB c.2.1 0 c.1)&&inB c.2.2.1 (-1) c.1
theorem Xd6(c:Ze8):Zb7 c=some (Qsz c,()):=by
 unfold Zb7;simp only[inQ,Obs,bA,bA2];rfl
theorem Q0h{c:Ze8}:Qsz c=true↔(0<=c.1/\c.1<=1152921504606846976)/\(0<=c.2.1/\c.2.1<=c.1)/\ -1<=c.2.2.1/\c.2.2.1<=c.1:=by
 unfold Qsz;simp only[Oba,Zg0,and_assoc]
def Qsv(a:Qr):Bool:=(((inB a.1 0 1000&&inB a.2.1 a.1 1152921504606846976)&&inB a.2.2.1 0 a.2.1)&&inB a.2.2.2.1 0 a.2.2.1)&&decide (a.2.1<=IntKind.i64.wrap (a.2.2.2.1+a.1))
theorem Q83(a:Qr):J4 a=some (Qsv a,()):=by
 unfold J4;simp only[inQ,Obs,bA,bA2];rfl
structure Q8v(a:Qr):Prop where
 most:0<=a.1/\a.1<=1000
 lim:a.1<=a.2.1/\a.2.1<=1152921504606846976
 seen:0<=a.2.2.1/\a.2.2.1<=a.2.1
 clo:0<=a.2.2.2.1/\a.2.2.2.1<=a.2.2.1
 lc:a.2.1<=a.2.2.2.1+a.1
theorem Q0a{a:Qr}:Qsv a=true↔Q8v a:=by
 unfold Qsv;simp only[Oba,Zg0,decide_eq_true_eq];constructor
 ·rintro⟨⟨⟨⟨h1,h2⟩,h3⟩,h4⟩,h5⟩;rw[Zv (by omega) (by omega)]at h5;exact⟨h1,h2,h3,h4,h5⟩
 ·rintro⟨h1,h2,h3,h4,h5⟩;rw[Zv (by omega) (by omega)];exact⟨⟨⟨⟨h1,h2⟩,h3⟩,h4⟩,h5⟩
noncomputable def cfB(c:Zq7):Bool:=match V8 c with|some (b,_)=>b|none=>false
theorem cfE(c:Zq7):V8 c=some (cfB c,()):=by
 obtain⟨b,e⟩:=Zz9 c;unfold cfB;rw[e]
structure Xfq(s:Zo):Prop where
 whole:Zxo s (Wk (Wk s.2.2.1 s.2.2.2.1) s.2.2.2.2.1)=true
 gap:Zx2 s.2.2.2.2.1 0=s.2.1.2.1
 code:s.2.2.2.2.2.2.2.2.1=0
 fl:hiB s.2.2.2.2.2.2.2.1 s.2.2.2.1=true
 ac:hiB s.2.2.2.2.2.2.2.1 s.2.2.2.2.1=true
 fin:Qh4 s=true
 st:s.1=stF s
structure Qxu(s:Zo):Prop where
 ring:Zrd s.2.1=true
 pr:rsB (-1) s.2.2.1=true
 fr:rsB (-1) s.2.2.2.1=true
 ar:rsB (-1) s.2.2.2.2.1=true
 sent:0<=s.2.2.2.2.2.2.2.1/\s.2.2.2.2.2.2.2.1<=s.2.1.2.2.1
 code:0<=s.2.2.2.2.2.2.2.2.1/\s.2.2.2.2.2.2.2.2.1<=4611686018427387903
 fin:0<=s.2.2.2.2.2.2.1/\s.2.2.2.2.2.2.1<=3
 rst:s.1=4\/s.1=5->s.2.1.2.1=s.2.1.2.2.1/\s.2.2.1=[]/\s.2.2.2.1=[]/\s.2.2.2.2.1=[]/\s.2.2.2.2.2.1=s.2.2.2.2.2.2.2.1/\s.2.2.2.2.2.2.1=0/\s.2.2.2.2.2.2.2.1=s.2.1.2.2.1
 no: ¬(s.1=4\/s.1=5)->Xfq s
noncomputable def Ztn(s:Zo):Bool:=match Xv s with|some (b,_)=>b|none=>false
theorem Q5v{K:Int}{s:Zo}(hs:Kk K s)(hK:K<=1000000):Xv s=some (Ztn s,()):=by
 obtain⟨b,e,-⟩:=Zkt hs hK;unfold Ztn;rw[e]
theorem Qnu{K:Int}{s:Zo}(hs:Kk K s)(hK:K<=1000000):Ztn s=true↔Qxu s:=by
 have l1:=Qz hs.pend hs.e0 hs.eK hK;have l2:=Qz hs.flight hs.e0 hs.eK hK;have l3:=Qz hs.acked hs.e0 hs.eK hK;have hr:=(Zxe s.2.1 (by have:=hs.cells;omega)).1;have s1:=Xcw hs hK (Yz s s.2.2.1 0) 0 s.2.2.1 hs.pend (by unfold Yz;omega) (by omega);simp only[Int.natCast_zero,List.drop_zero]at s1;unfold Ztn Xv;rw[hr,Zg2 _ (by omega),Zg2 _ (by omega),Zg2 _ (by omega)];simp only[Wr,inQ,Obs,bO,bO2,hs.pend.1,hs.flight.1,hs.acked.1,Ont,Bool.or_false,s1];by_cases hc: (((!Zrd s.2.1|| !inB s.2.2.2.2.2.2.2.1 0 s.2.1.2.2.1)|| !Zn6 s.2.2.2.2.2.2.2.2.1)|| !inB s.2.2.2.2.2.2.1 0 3)=true
 ·rw[hc,Oct];refine⟨fun h=>Bool.noConfusion h,fun h=> ?_⟩;have a:=h.ring;have b:=Zg0.2 h.sent;have c:=Zgn.2 h.code;have d:=Zg0.2 h.fin;rw[a,b,c,d]at hc;simp at hc
 ·have hc: (((!Zrd s.2.1|| !inB s.2.2.2.2.2.2.2.1 0 s.2.1.2.2.1)|| !Zn6 s.2.2.2.2.2.2.2.2.1)|| !inB s.2.2.2.2.2.2.1 0 3)=false:=by simpa using hc
  rw[hc,Ocf];simp only[Bool.or_eq_false_iff,Bool.not_eq_false']at hc;obtain⟨⟨⟨a,b⟩,c⟩,d⟩:=hc;by_cases hst:s.1=4\/s.1=5
  ·have: ((s.1==4)|| (s.1==5))=true:=by simpa using hst
   rw[this,Oct];simp only[Oba,beq_iff_eq];constructor
   ·rintro⟨⟨⟨⟨⟨⟨h1,h2⟩,h3⟩,h4⟩,h5⟩,h6⟩,h7⟩;exact⟨a,hs.pend.1,hs.flight.1,hs.acked.1,Zg0.1 b,Zgn.1 c,Zg0.1 d,fun _=>⟨h1,List.length_eq_zero_iff.1 (by omega),List.length_eq_zero_iff.1 (by omega),List.length_eq_zero_iff.1 (by omega),h5,h6,h7⟩,fun h=>absurd hst h⟩
   ·intro h;obtain⟨h1,h2,h3,h4,h5,h6,h7⟩:=h.rst hst;exact⟨⟨⟨⟨⟨⟨h1,by rw[h2];rfl⟩,by rw[h3];rfl⟩,by rw[h4];rfl⟩,h5⟩,h6⟩,h7⟩
  ·have: ((s.1==4)|| (s.1==5))=false:=by simpa using hst
   rw[this,Ocf];simp only[Oba,beq_iff_eq];constructor
   ·rintro⟨h1,h2,h3,h4,h5,h6,h7⟩;exact⟨a,hs.pend.1,hs.flight.1,hs.acked.1,Zg0.1 b,Zgn.1 c,Zg0.1 d,fun h=>absurd h hst,fun _=>⟨h1,h2,h3,h4,h5,h6,h7⟩⟩
   ·intro h;obtain⟨h1,h2,h3,h4,h5,h6,h7⟩:=h.no hst;exact⟨h1,h2,h3,h4,h5,h6,h7⟩
noncomputable def Q5j(r:Qe):Bool:=match X4 r with|some (b,_)=>b|none=>false
theorem Xe5{K:Nat}{r:Qe}(h:Zo3 K r.2.1)(hK:K<=1000000):X4 r=some (Q5j r,()):=by
 obtain⟨b,e⟩:=Zmd h hK;unfold Q5j;rw[e]
theorem Xf7{K:Nat}{r:Qe}(h:Zo3 K r.2.1)(hK:K<=1000000)(hb:Q5j r=true):0<=r.1:=by
 have e:=Xe5 h hK;rw[hb]at e;unfold X4 at e;have hl:=h.len;obtain⟨v,k⟩:=Q6z h hK;rw[Zn1 _ (by omega),Zvl _ (by omega),k]at e;simp only[Obs,Wr,Yv]at e;by_cases h0:0<=r.1
 ·exact h0
 ·exfalso;have a: (r.1==0)=false:=by simp;omega
  have b: (r.1==1)=false:=by simp;omega
  have c: (r.1==2)=false:=by simp;omega
  have d: (r.1==3)=false:=by simp;omega
  have f: (r.1==4)=false:=by simp;omega
  have g: (r.1==5)=false:=by simp;omega
  rw[a,b,c,d,f,g]at e;simp only[Ocf,Yt]at e;revert e;generalize (_||decide (r.2.2.1< -1))=x;cases x<;>simp
noncomputable def stB(s:Zh):Bool:=((((((((Zn6 s.1&&Ztn s.2.1)&&Zsj s.2.2.1)&&Q5j s.2.2.2.1)&&Qxt s.2.2.2.2.1)&&prB s.2.2.2.2.2.1)&&Zn6 s.2.2.2.2.2.2.2.2.2.2.2.2.1)&& (s.2.2.2.2.2.2.1||s.2.2.2.2.2.2.2.1))&&!(((((decide (s.2.1.2.2.2.2.2.2.2.1>s.2.2.1.2.1))|| (decide (s.2.2.2.1.2.2.2.1>s.2.2.2.2.1.2.2.2.1)))|| (s.2.2.2.2.2.2.2.2.1&& (s.2.1.1 !=(4:Int))))|| (s.2.2.2.2.2.2.2.2.2.1&& (!s.2.2.2.2.2.2.2.2.2.2.2.1)))|| ((s.2.2.2.2.2.2.2.2.2.2.2.2.1 !=(0:Int))&& (!s.2.2.2.2.2.2.2.2.2.2.2.1))))&&((s.2.2.2.2.2.2.1|| (((s.2.1.1==(0:Int))&& (s.2.1.2.1.2.2.1==(0:Int)))&& (s.2.1.2.2.2.2.2.1==(-1:Int))))&& (s.2.2.2.2.2.2.2.1|| (((s.2.2.2.1.1==(0:Int))&& (s.2.2.2.1.2.2.2.1==(0:Int)))&& (!s.2.2.2.2.2.2.2.2.2.2.2.1))))
theorem st3{q a b:Bool}: (bif q then some (false,())else bif a then some (false,())else some (b,()))=some ((!q&& !a)&&b,()):=by cases q<;>cases a<;>rfl
theorem stE{K:Nat}{s:Zh}(h:Vy K s)(hK:K<=1000000):Zb9 s=some (stB s,()):=by
 unfold Zb9 stB;simp only[Q5v h.snd (by omega),Xe5 h.rcv hK,Qx6,Xaq,prE,Wr,Obs,bO,bO2];rw[st3];congr 4;cases Zn6 s.1<;>cases Ztn s.2.1<;>cases Zsj s.2.2.1<;>cases Q5j s.2.2.2.1<;>cases Qxt s.2.2.2.2.1<;>cases prB s.2.2.2.2.2.1<;>cases Zn6 s.2.2.2.2.2.2.2.2.2.2.2.2.1<;>cases s.2.2.2.2.2.2.1<;>cases s.2.2.2.2.2.2.2.1<;>rfl
noncomputable def sB:Option Int->List Zh->Bool
 |_,[]=>true
 |p,x::r=>(stB x&& (match p with|none=>true|some q=>decide (q<x.1)))&&sB (some x.1) r
theorem Q76: ∀{l:List Zh} {p:Option Int},sB p l=true↔(∀s∈l,stB s=true)/\l.Pairwise (fun a b=>a.1<b.1)/\ ∀q,p=some q-> ∀s∈l,q<s.1
 | [],p=>by simp[sB]
 |x::r,p=>by
  have h1: (match p with|none=>true|some q=>decide (q<x.1))=true↔ ∀q,p=some q->q<x.1:=by cases p<;>simp
  simp only[sB,Oba,h1,Q76 (l:=r),List.pairwise_cons,List.mem_cons,forall_eq_or_imp];constructor
  ·rintro⟨⟨a,b⟩,c,d,e⟩;exact⟨⟨a,c⟩,⟨e _ rfl,d⟩,fun q hq=>⟨b q hq,fun s hs=>by have:=b q hq;have:=e _ rfl s hs;omega⟩⟩
  ·rintro⟨⟨a,c⟩,⟨e,d⟩,b⟩;exact⟨⟨a,fun q hq=>(b q hq).1⟩,c,d,fun q hq=>by cases hq;exact e⟩
def pvS(l:List Zh)(i:Nat):Option Int:=if i=0 then none else some (l.getD (i-1) Zn).1
theorem Q6b{K:Nat}{l:List Zh}(h:Zmy K l)(hK:K<=1000000): ∀(N i:Nat),l.length-i<N->i<=l.length->X6 N l (i:Int)=some (sB (pvS l i) (l.drop i)&&decide ((l.length:Int)<=24),())
 |0,_,h,_=>by omega
 |N+1,i,hN,hi=>by
  have hlen:=h.len;rw[X6];by_cases hh:i<l.length
  ·have g: ∀{a:Prop},a->decide ((i:Int)>0)=true->0<=IntKind.i64.wrap ((i:Int)-1)/\IntKind.i64.wrap ((i:Int)-1)< (l.length:Int):=fun _ h=>by
    have:=Ode h;rw[Zv (by omega) (by omega)];omega
   rw[Zp (Zm (by omega)),Zb (by omega),show(i:Int).toNat=i from rfl,stE (h.all _ (Z2 (d:=Zn) hh)) hK,Obs,Zb (fun _ _=>by omega),Zb (fun h h2=>g h h2),Zr hh (by omega),Q6b h hK N (i+1) (by omega) (by omega),Xj (d:=Zn) hh];have e:pvS l (i+1)=some (l.getD i Zn).1:=by unfold pvS;rw[if_neg (by omega)];rfl
   rw[e];simp only[sB];by_cases h0:i=0
   ·subst h0;have e2:pvS l 0=none:=rfl;rw[e2,Zj (p:=((0:Nat):Int)>0) (by omega)];generalize stB (l.getD 0 Zn)=b;cases b<;>simp
   ·have e2:pvS l i=some (l.getD (i-1) Zn).1:=by unfold pvS;rw[if_neg h0]
    have e3: (IntKind.i64.wrap ((i:Int)-1)).toNat=i-1:=by rw[Zv (by omega) (by omega)];omega
    rw[e2,Zm (p:=(i:Int)>0) (by omega),e3];have e4:decide ((l.getD i Zn).1<=(l.getD (i-1) Zn).1)= !decide ((l.getD (i-1) Zn).1< (l.getD i Zn).1):=by
     rw[Bool.eq_iff_iff];simp
    rw[e4];dsimp only;generalize stB (l.getD i Zn)=b;generalize decide ((l.getD (i-1) Zn).1< (l.getD i Zn).1)=q;generalize sB (some (l.getD i Zn).1) (List.drop (i+1) l)=y;cases b<;>cases q<;>cases y<;>rfl
  ·rw[Zl (Zj (by omega)),List.drop_eq_nil_of_le (by omega)];simp[sB]
structure Q8z(l:List Zh):Prop where
 all: ∀s∈l,stB s=true
 srt:l.Pairwise fun a b=>a.1<b.1
 len:l.length<=24
noncomputable def Qxl(l:List Zh):Bool:=sB none l&&decide ((l.length:Int)<=24)
theorem Xc1{K:Nat}{l:List Zh}(h:Zmy K l)(hK:K<=1000000):Y2 l=some (Qxl l,()):=by
 unfold Y2;exact Q6b h hK _ 0 (by unfold V5;omega) (by omega)
theorem Qgl{l:List Zh}:Qxl l=true↔Q8z l:=by
 unfold Qxl;simp only[Oba,Q76,decide_eq_true_eq];constructor
 ·rintro⟨⟨h1,h2,-⟩,h3⟩;exact⟨h1,h2,by omega⟩
 ·rintro⟨h1,h2,h3⟩;exact⟨⟨h1,h2,fun q h=>by cases h⟩,by omega⟩
def Zqs(f:Zh->Int):List Zh->Int->Int| [],n=>n|x::r,n=>Zqs f r (min (IntKind.i64.wrap (n+f x)) 4611686018427387904)
def Zhf(f:Zh->Int):List Zh->Int| []=>0|x::r=>f x+Zhf f r
theorem Qxg{f:Zh->Int}: ∀{l:List Zh} {n:Int},(∀s∈l,0<=f s/\f s<=4611686018427387903)->0<=n->n<=4611686018427387904->Zqs f l n=min (n+Zhf f l) 4611686018427387904/\0<=Zhf f l
 | [],n,_,h0,h1=>by simp only[Zqs,Zhf];omega
 |x::r,n,h,h0,h1=>by
  have hx:=h x (List.mem_cons_self);simp only[Zqs,Zhf];rw[Zv (by omega) (by omega)];obtain⟨a,b⟩:=Qxg (f:=f) (l:=r) (n:=min (n+f x) 4611686018427387904) (fun s hs=>h s (List.mem_cons_of_mem _ hs)) (by omega) (by omega);rw[a];omega
def Zpw(s:Zh):Int:=s.2.1.2.2.2.2.2.2.2.1
def Qna(s:Zh):Int:=s.2.2.2.1.2.2.2.1
theorem Xe9{K:Nat}{l:List Zh}(h:Zmy K l)(hK:K<=1000000)(hb:Qxl l=true):Zcv l=some (Zqs Zpw l 0,()):=by
 have hlen:=h.len;have lp: ∀(N i:Nat) (n:Int),l.length-i<N->i<=l.length->Y8 N l n (i:Int)=some (Zqs Zpw (l.drop i) n,()):=by
  intro N
  induction N with
  |zero=>intro i n h;omega
  |succ N ih=>
   intro i n hN hi;unfold Y8;rw[Xc1 h hK,hb,Yv,Obs];by_cases hh:i<l.length
   ·rw[Zm (by omega)];simp only[Oct,Bool.and_self];rw[Zb (by omega),Zr hh (by omega),ih (i+1) _ (by omega) (by omega),Xj (d:=Zn) hh];rfl
   ·rw[Zj (by omega),List.drop_eq_nil_of_le (by omega)];rfl
 unfold Zcv;exact lp _ 0 0 (by unfold Yo;omega) (by omega)
theorem Xe7{K:Nat}{l:List Zh}(h:Zmy K l)(hK:K<=1000000)(hb:Qxl l=true):Zcu l=some (Zqs Qna l 0,()):=by
 have hlen:=h.len;have lp: ∀(N i:Nat) (n:Int),l.length-i<N->i<=l.length->Y7 N l n (i:Int)=some (Zqs Qna (l.drop i) n,()):=by
  intro N
  induction N with
  |zero=>intro i n h;omega
  |succ N ih=>
   intro i n hN hi;unfold Y7;rw[Xc1 h hK,hb,Yv,Obs];by_cases hh:i<l.length
   ·rw[Zm (by omega)];simp only[Oct,Bool.and_self];rw[Zb (by omega),Zr hh (by omega),ih (i+1) _ (by omega) (by omega),Xj (d:=Zn) hh];rfl
   ·rw[Zj (by omega),List.drop_eq_nil_of_le (by omega)];rfl
 unfold Zcu;exact lp _ 0 0 (by unfold Yn;omega) (by omega)
theorem Xfz{l:List Zf}(h:Qot l):Zcw l=some (l.all Wl,()):=by
 have hlen:=h.1;have lp: ∀(N i:Nat),l.length-i<N->i<=l.length->Jf N l (i:Int)=some ((l.drop i).all Wl,()):=by
  intro N
  induction N with
  |zero=>intro i h;omega
  |succ N ih=>
   intro i hN hi;unfold Jf;by_cases hh:i<l.length
   ·have hf:FOK (l.getD i Qq):=h.2 _ (Z2 hh);unfold FOK at hf;rw[Zp (Zm (by omega)),Zb (by omega),show(i:Int).toNat=i from rfl,Zua _ (by omega),Obs,Zr hh (by omega),ih (i+1) (by omega) (by omega),Xj (d:=Qq) hh,List.all_cons];generalize Wl (l.getD i Qq)=b;cases b<;>rfl
   ·rw[Zl (Zj (by omega)),List.drop_eq_nil_of_le (by omega)];rfl
 unfold Zcw;exact lp _ 0 (by unfold Ki;omega) (by omega)
def pkB(n:Int):Option Int->List Z8->Bool
 |_,[]=>true
 |p,x::r=>((inB x.1 0 (IntKind.i64.wrap (n-1))&& (match p with|none=>true|some q=>decide (q<x.1)))&&x.2.1.all Wl)&&pkB n (some x.1) r
def pvP(l:List Z8)(i:Nat):Option Int:=if i=0 then none else some (l.getD (i-1) Qj).1
noncomputable def Z5z(c:Ze):Bool:=((((inB c.2.2.2.2.2.2.2.2.2.2.2.2.2.1 (-1) 4611686018427387903&&inB c.2.2.2.2.2.2.2.2.2.2.2.2.2.2.1 0 1000000)&&inB c.2.2.2.2.2.2.2.2.2.2.2.2.2.2.2.2.1 0 1000000)&&inB c.2.2.2.2.2.2.2.2.2.2.2.2.2.2.2.2.2.1 0 255)&&decide (Zqs Zpw c.2.2.2.1 0<=c.2.2.2.2.1.2.1))&&decide (Zqs Qna c.2.2.2.1 0<=c.2.2.2.2.2.1.2.2.2.1)
theorem Q2s{K:Nat}{c:Ze}(h:Xx K c)(hK:K<=1000000)(hb:Qxl c.2.2.2.1=true): ∀(N i:Nat),c.2.2.2.2.2.2.2.2.2.2.2.2.2.2.2.1.length-i<N->i<=c.2.2.2.2.2.2.2.2.2.2.2.2.2.2.2.1.length->
  Wx N c (i:Int)=some (pkB c.2.2.2.2.2.2.2.2.2.2.2.2.2.2.1 (pvP c.2.2.2.2.2.2.2.2.2.2.2.2.2.2.2.1 i) (c.2.2.2.2.2.2.2.2.2.2.2.2.2.2.2.1.drop i)&&Z5z c,())
 |0,_,h,_=>by omega
 |N+1,i,hN,hi=>by
  have hlen:=h.pk.1;rw[Wx];by_cases hh:i<c.2.2.2.2.2.2.2.2.2.2.2.2.2.2.2.1.length
  ·have ih:=Q2s h hK hb N (i+1) (by omega) (by omega);have hp:=h.pk.2 _ (Z2 (d:=Qj) hh);generalize c.2.2.2.2.2.2.2.2.2.2.2.2.2.2.1=n at*
   generalize c.2.2.2.2.2.2.2.2.2.2.2.2.2.2.2.1=l at*
   have g: ∀{a:Prop},a->decide ((i:Int)>0)=true->0<=IntKind.i64.wrap ((i:Int)-1)/\IntKind.i64.wrap ((i:Int)-1)< (l.length:Int):=fun _ h=>by
    have:=Ode h;rw[Zv (by omega) (by omega)];omega
   rw[Zp (Zm (by omega)),Zb (by omega),show(i:Int).toNat=i from rfl,inQ,Obs,Zb (fun _ _=>by omega),Zb (fun h h2=>g h h2),Zb (fun _=>by omega),Zr hh (by omega),ih,Xj (d:=Qj) hh,Xfz hp,Yv,Obs];have e:pvP l (i+1)=some (l.getD i Qj).1:=by unfold pvP;rw[if_neg (by omega)];rfl
   rw[e];simp only[pkB];by_cases h0:i=0
   ·subst h0;have e2:pvP l 0=none:=rfl;rw[e2,Zj (p:=((0:Nat):Int)>0) (by omega)];generalize inB (l.getD 0 Qj).1 0 (IntKind.i64.wrap (n-1))=b;generalize (l.getD 0 Qj).2.1.all Wl=d;cases b<;>cases d<;>simp
   ·have e2:pvP l i=some (l.getD (i-1) Qj).1:=by unfold pvP;rw[if_neg h0]
    have e3: (IntKind.i64.wrap ((i:Int)-1)).toNat=i-1:=by rw[Zv (by omega) (by omega)];omega
    rw[e2,Zm (p:=(i:Int)>0) (by omega),e3];have e4:decide ((l.getD i Qj).1<=(l.getD (i-1) Qj).1)= !decide ((l.getD (i-1) Qj).1< (l.getD i Qj).1):=by
     rw[Bool.eq_iff_iff];simp
    rw[e4];dsimp only;generalize inB (l.getD i Qj).1 0 (IntKind.i64.wrap (n-1))=b;generalize (l.getD i Qj).2.1.all Wl=d;generalize decide ((l.getD (i-1) Qj).1< (l.getD i Qj).1)=q;generalize pkB n (some (l.getD i Qj).1) (List.drop (i+1) l)=y;cases b<;>cases q<;>cases d<;>cases y<;>rfl
  ·rw[Zl (Zj (by omega)),List.drop_eq_nil_of_le (by omega)];simp only[pkB,Ota,inQ,Obs,bA,bA2,Xe9 h.str hK hb,Xe7 h.str hK hb];unfold Z5z;generalize inB c.2.2.2.2.2.2.2.2.2.2.2.2.2.1 (-1) 4611686018427387903=b1;generalize inB c.2.2.2.2.2.2.2.2.2.2.2.2.2.2.1 0 1000000=b2;generalize inB c.2.2.2.2.2.2.2.2.2.2.2.2.2.2.2.2.1 0 1000000=b3;generalize inB c.2.2.2.2.2.2.2.2.2.2.2.2.2.2.2.2.2.1 0 255=b4;cases b1<;>cases b2<;>cases b3<;>cases b4<;>try rfl
   simp only[Bool.and_self,Oct,Obs,Ota];generalize decide (Zqs Zpw c.2.2.2.1 0<=c.2.2.2.2.1.2.1)=b5;cases b5<;>rfl
structure Zhh(c:Ze):Prop where
 own:cfB c.2.1=true
 peer:cfB c.2.2.1=true
 sts:Qxl c.2.2.2.1=true
 tot:Zsj c.2.2.2.2.1=true
 inf:Qxt c.2.2.2.2.2.1=true
 ob:Qsz c.2.2.2.2.2.2.1=true
 ou:Qsz c.2.2.2.2.2.2.2.1=true
 ab:Qsv c.2.2.2.2.2.2.2.2.1=true
 au:Qsv c.2.2.2.2.2.2.2.2.2.1=true
 pks:pkB c.2.2.2.2.2.2.2.2.2.2.2.2.2.2.1 none c.2.2.2.2.2.2.2.2.2.2.2.2.2.2.2.1=true
 tail:Z5z c=true
noncomputable def Zc3(c:Ze):Bool:=match Yy c with|some (b,_)=>b|none=>false
theorem Qx5{K:Nat}{c:Ze}(h:Xx K c)(hK:K<=1000000):Yy c=some (Zc3 c,()):=by
 obtain⟨⟨b,u⟩,e,-⟩:=Qrc h hK;unfold Zc3;rw[e]
theorem Z3b{K:Nat}{c:Ze}(h:Xx K c)(hK:K<=1000000):Zc3 c=true↔Zhh c:=by
 unfold Zc3 Yy;simp only[cfE,Xc1 h.str hK,Qx6,Xaq,Xd6,Q83,Obs,bO,bO2];by_cases hc: ((((((((!cfB c.2.1|| !cfB c.2.2.1)|| !Qxl c.2.2.2.1)|| !Zsj c.2.2.2.2.1)|| !Qxt c.2.2.2.2.2.1)|| !Qsz c.2.2.2.2.2.2.1)|| !Qsz c.2.2.2.2.2.2.2.1)|| !Qsv c.2.2.2.2.2.2.2.2.1)|| !Qsv c.2.2.2.2.2.2.2.2.2.1)=true
 ·rw[hc,Oct];refine⟨fun h=>Bool.noConfusion h,fun h=> ?_⟩;rw[h.own,h.peer,h.sts,h.tot,h.inf,h.ob,h.ou,h.ab,h.au]at hc;simp at hc
 ·have hc: ((((((((!cfB c.2.1|| !cfB c.2.2.1)|| !Qxl c.2.2.2.1)|| !Zsj c.2.2.2.2.1)|| !Qxt c.2.2.2.2.2.1)|| !Qsz c.2.2.2.2.2.2.1)|| !Qsz c.2.2.2.2.2.2.2.1)|| !Qsv c.2.2.2.2.2.2.2.2.1)|| !Qsv c.2.2.2.2.2.2.2.2.2.1)=false:=by simpa using hc
  rw[hc,Ocf];simp only[Bool.or_eq_false_iff,Bool.not_eq_false']at hc;obtain⟨⟨⟨⟨⟨⟨⟨⟨h1,h2⟩,h3⟩,h4⟩,h5⟩,h6⟩,h7⟩,h8⟩,h9⟩:=hc;have lp:=Q2s h hK h3 (Kx c 0) 0 (by unfold Kx;omega) (by omega);simp only[Int.natCast_zero,List.drop_zero]at lp;rw[lp];simp only[Oba];exact⟨fun h=>⟨h1,h2,h3,h4,h5,h6,h7,h8,h9,h.1,h.2⟩,fun h=>⟨h.pks,h.tail⟩⟩
structure StF(s:Zh):Prop where
 id:0<=s.1/\s.1<=4611686018427387903
 snd:Qxu s.2.1
 cre:Qz6 s.2.2.1
 rcv:Q5j s.2.2.2.1=true
 win:Q54 s.2.2.2.2.1
 pr:0<=s.2.2.2.2.2.1.1/\s.2.2.2.2.2.1.1<=7
 code:0<=s.2.2.2.2.2.2.2.2.2.2.2.2.1/\s.2.2.2.2.2.2.2.2.2.2.2.2.1<=4611686018427387903
 can:s.2.2.2.2.2.2.1=true\/s.2.2.2.2.2.2.2.1=true
 su:s.2.1.2.2.2.2.2.2.2.1<=s.2.2.1.2.1
 hs:s.2.2.2.1.2.2.2.1<=s.2.2.2.2.1.2.2.2.1
 tr:s.2.2.2.2.2.2.2.2.1=true->s.2.1.1=4
 ts:s.2.2.2.2.2.2.2.2.2.1=true->s.2.2.2.2.2.2.2.2.2.2.2.1=true
 sc:s.2.2.2.2.2.2.2.2.2.2.2.2.1≠0->s.2.2.2.2.2.2.2.2.2.2.2.1=true
 cs:s.2.2.2.2.2.2.1=true\/(s.2.1.1=0/\s.2.1.2.1.2.2.1=0/\s.2.1.2.2.2.2.2.1= -1)
 cr:s.2.2.2.2.2.2.2.1=true\/(s.2.2.2.1.1=0/\s.2.2.2.1.2.2.2.1=0/\s.2.2.2.2.2.2.2.2.2.2.2.1=false)
theorem Q8h{K:Nat}{s:Zh}(h:Vy K s)(hK:K<=1000000):stB s=true↔StF s:=by
 unfold stB prB;simp only[Oba,Bool.or_eq_true,Bool.not_eq_true',Bool.or_eq_false_iff,Bool.and_eq_false_iff,decide_eq_false_iff_not,bne_eq_false_iff_eq,beq_iff_eq,Zg0,Zgn,Qnu h.snd (show(K:Int)<=1000000 by omega),Z3c,Q8p,Bool.not_eq_false'];constructor
 ·rintro⟨⟨⟨⟨⟨⟨⟨⟨⟨h1,h2⟩,h3⟩,h4⟩,h5⟩,h6⟩,h7⟩,h8⟩,⟨⟨⟨h9,h10⟩,h11⟩,h12⟩,h13⟩,h14,h15⟩;exact⟨h1,h2,h3,h4,h5,h6,h7,h8,by omega,by omega,fun h=>by rcases h11 with h'|h';rw[h]at h';cases h';exact h',fun h=>by rcases h12 with h'|h';rw[h]at h';cases h';exact h',
   fun h=>by rcases h13 with h'|h';exact absurd h' h;exact h',by rcases h14 with h| ⟨⟨a,b⟩,c⟩;exact .inl h;exact .inr ⟨a,b,c⟩,by rcases h15 with h| ⟨⟨a,b⟩,c⟩;exact .inl h;exact .inr ⟨a,b,c⟩⟩
 ·rintro⟨h1,h2,h3,h4,h5,h6,h7,h8,h9,h10,h11,h12,h13,h14,h15⟩;refine⟨⟨⟨⟨⟨⟨⟨⟨⟨h1,h2⟩,h3⟩,h4⟩,h5⟩,h6⟩,h7⟩,h8⟩,⟨⟨⟨by omega,by omega⟩,?_⟩,?_⟩,?_⟩,?_,?_⟩
  ·cases e:s.2.2.2.2.2.2.2.2.1
   ·exact .inl rfl
   ·exact .inr (h11 e)
  ·cases e:s.2.2.2.2.2.2.2.2.2.1
   ·exact .inl rfl
   ·exact .inr (h12 e)
  ·by_cases e:s.2.2.2.2.2.2.2.2.2.2.2.2.1=0
   ·exact .inl e
   ·exact .inr (h13 e)
  ·rcases h14 with h| ⟨a,b,c⟩
   ·exact .inl h
   ·exact .inr ⟨⟨a,b⟩,c⟩
  ·rcases h15 with h| ⟨a,b,c⟩
   ·exact .inl h
   ·exact .inr ⟨⟨a,b⟩,c⟩
theorem Zhh.st{K:Nat}{c:Ze}(hc:Zhh c)(h:Xx K c)(hK:K<=1000000){s:Zh}(hs:s∈c.2.2.2.1):StF s:=(Q8h (h.str.all s hs) hK).1 ((Qgl.1 hc.sts).all s hs)
theorem Zhh.num{c:Ze}(hc:Zhh c):0<=c.2.2.2.2.2.2.2.2.2.2.2.2.2.2.1/\c.2.2.2.2.2.2.2.2.2.2.2.2.2.2.1<=1000000:=by
 have:=hc.tail;unfold Z5z at this;simp only[Oba,Zg0]at this;exact this.1.1.1.1.2
theorem Zhh.last{c:Ze}(hc:Zhh c): -1<=c.2.2.2.2.2.2.2.2.2.2.2.2.2.1/\c.2.2.2.2.2.2.2.2.2.2.2.2.2.1<=4611686018427387903:=by
 have:=hc.tail;unfold Z5z at this;simp only[Oba,Zg0]at this;exact this.1.1.1.1.1
theorem Z6l: ∀{l:List Zh},(l.Pairwise fun a b=>a.1<b.1)-> ∀{x y:Zh},x∈l->y∈l->x.1=y.1->x=y
 | [],_,_,_,hx,_,_=>by cases hx
 |z::l,h,x,y,hx,hy,e=>by
  obtain⟨h1,h2⟩:=List.pairwise_cons.1 h;rcases List.mem_cons.1 hx with hx|hx
  ·rcases List.mem_cons.1 hy with hy|hy
   ·rw[hx,hy]
   ·have:=h1 _ hy;rw[hx]at e;omega
  ·rcases List.mem_cons.1 hy with hy|hy
   ·have:=h1 _ hx;rw[hy]at e;omega
   ·exact Z6l h2 hx hy e
theorem Qkt{K:Int}{s:Zo}(h:Kk K s)(hK:K<=1000000):Zj4 s=some (s,()):=by
 have l1:=Qz h.pend h.e0 h.eK hK;have l2:=Qz h.flight h.e0 h.eK hK;have l3:=Qz h.acked h.e0 h.eK hK;have l4:=h.cells;unfold Zj4 Zxc;rw[Zb (by unfold Qg;simp only[List.length_nil];omega),Zl1 _ (by omega),Zl1 _ (by omega),Zl1 _ (by omega)];rfl
theorem Qku{K:Nat}{s:Zh}(h:Vy K s)(hK:K<=1000000):Zj5 s=some (s,()):=by
 have l1:=h.rcv.len;unfold Zj5 Zp8 Ztb;rw[Qkt h.snd (by omega),Zb (by unfold Qg;simp only[List.length_nil];omega)];rfl
theorem Z8p{K:Nat}{l:List Zh}(h:Zmy K l)(hK:K<=1000000): ∀(N i:Nat),l.length-i<N->i<=l.length->Zd4 N (l.take i) l (l.length:Int) (i:Int)=some (l,())
 |0,_,h,_=>by omega
 |N+1,i,hN,hi=>by
  have hl:=h.len;unfold Zd4;by_cases hh:i<l.length
  ·rw[Zp (Zm (by omega)),Zb (by omega),show(i:Int).toNat=i from rfl,Qku (h.all _ (Z2 (d:=Zn) hh)) hK,Obs,Zb (by unfold Qg;simp only[List.length_take,List.length_singleton];omega),Zr hh (by omega)];have e:l.take i++ [l.getD i Zn]=l.take (i+1):=by
    rw[List.take_succ_eq_append_getElem hh,List.getD_eq_getElem?_getD,List.getElem?_eq_getElem hh];rfl
   rw[e];exact Z8p h hK N (i+1) (by omega) (by omega)
  ·rw[Zl (Zj (by omega)),List.take_of_length_le (by omega)]
theorem Zw4{K:Nat}{l:List Z8}(h:Qou K l)(hK:K<=1000000): ∀(N i:Nat),l.length-i<N->i<=l.length->Zd3 N (l.take i) l (l.length:Int) (i:Int)=some (l,())
 |0,_,h,_=>by omega
 |N+1,i,hN,hi=>by
  have hl:=h.1;unfold Zd3;by_cases hh:i<l.length
  ·have hm:=(h.2 _ (Z2 (d:=Qj) hh)).1;rw[Zp (Zm (by omega)),Zb (by omega),show(i:Int).toNat=i from rfl,Zb (by unfold Qg;simp only[List.length_nil];omega)];simp only[List.nil_append];rw[Zb (by unfold Qg;simp only[List.length_take,List.length_singleton];omega),Zr hh (by omega)];have e:l.take i++ [((l.getD i Qj).1,((l.getD i Qj).2.1,()))]=l.take (i+1):=by
    rw[List.take_succ_eq_append_getElem hh,List.getD_eq_getElem?_getD,List.getElem?_eq_getElem hh];rfl
   rw[e];exact Zw4 h hK N (i+1) (by omega) (by omega)
  ·rw[Zl (Zj (by omega)),List.take_of_length_le (by omega)]
theorem Z54{K:Nat}{c:Ze}(h:Xx K c)(hK:K<=1000000):Zb2 c=some (c,()):=by
 have e1:=Z8p h.str hK (Zb3 ([]:List Zh) c.2.2.2.1 (c.2.2.2.1.length:Int) (0:Int)) 0 (by unfold Zb3;omega) (by omega);have e2:=Zw4 h.pk hK (Ku ([]:List Z8) c.2.2.2.2.2.2.2.2.2.2.2.2.2.2.2.1 (c.2.2.2.2.2.2.2.2.2.2.2.2.2.2.2.1.length:Int) (0:Int)) 0 (by unfold Ku;omega) (by omega);simp only[List.take_zero,Int.natCast_zero]at e1 e2;unfold Zb2 Zrg Zii;rw[e1,e2];rfl
theorem Q26{K:Nat}{c:Ze}(h:Xx K c)(hK:K<=1000000):Ya c=some (Zc3 c&& !(c.2.2.2.2.2.2.2.2.2.2.2.2.2.2.2.2.2.1 !=(0:Int)),()):=by
 unfold Ya Zxj;rw[Qx5 h hK];cases Zc3 c<;>rfl
theorem Q4e{K:Nat}{c:Ze}(h:Xx K c)(hK:K<=1000000):Zsw c=Ya c:=by
 unfold Zsw Ya;rw[Qn9 h hK];rfl
theorem Q1e(w:Qt):Zp2 w=W2 w:=rfl
theorem Qw8(w:Qt)(n t:Int):Zif w n t=Wb w n t:=rfl
theorem Xbx(c:X7):Zlm c=Zdh c:=rfl
theorem Xet(c:X7):Zm1 c=Ze3 c:=rfl
theorem Qrj(a:Qr):Zl6 a=Zcq a:=by
 unfold Zl6 Zcq;rw[Qyo,Q83,Obs,Obs,Zb (fun _=>by decide),Zb (fun _=>by decide)];congr 2;rw[Bool.and_assoc,Bool.and_assoc,Bool.and_comm (decide (a.1>0))]
theorem Qk8(a:Qr):Zgj a=Zdv a:=by
 unfold Zgj Zdv;rw[Qrj]
theorem Q18(c:X7)(n:Int):Zl9 c n=Zfz c n:=by
 unfold Zl9 Zfz;rw[Qie,Qx6,Obs,Obs,Znj];simp only[bO,bO2];have: ((!Zsj c)|| !(decide (n>=0)&&decide (n<=IntKind.i64.wrap (c.1-c.2.1))))=(((!Zsj c)||decide (n<0))||decide (n>IntKind.i64.wrap (c.1-c.2.1))):=by
  rw[Bool.eq_iff_iff];simp only[Bool.or_eq_true,Bool.not_eq_true',Bool.and_eq_false_iff,decide_eq_false_iff_not,decide_eq_true_eq,or_assoc];exact or_congr_right (by omega)
 rw[this]
theorem Q6d{α β:Type}{m:Option α}{f g:α->Option β}(h: ∀y,f y=g y):Option.bind m f=Option.bind m g:=by
 have:f=g:=funext h;rw[this]
theorem Xbi(c:Ze)(w:Qt)(a:Bool):Zcf c w a=Option.bind (W2 w) fun t=>bif t.1 then Option.bind (Wb w c.2.2.2.2.2.2.2.2.2.2.2.2.2.2.2.2.1 c.2.1.2.2.2.2.2.2.2.1) fun r=>some (r.1.2.2.1,r.2.1,())else some (w.2.2.1,a,()):=by
 unfold Zcf;rw[Q1e];refine Q6d fun t=> ?_;cases t.1<;>rfl
theorem Xbh(a:Qr)(b:Bool):Zmc a b=Option.bind (Zcc a b) fun t=>some (t.1.2.1,t.2.1,()):=by
 unfold Zmc Zcc;rw[Qrj,Qk8];cases Zcq a with
 |none=>rfl
 |some t=>
  simp only[Obs];cases t.1
  ·rfl
  ·cases Zdv a<;>rfl
theorem Xgb(c:Ze)(s:Zh)(o:List Zf):J7 c s o=W7 c s o:=by
 unfold J7 W7 Zi5;rw[Xbi];have e: ((!s.2.2.2.2.2.2.2.1|| (s.2.2.2.1.1 !=0))||s.2.2.2.2.2.2.2.2.2.2.2.1)= !((s.2.2.2.2.2.2.2.1&& (s.2.2.2.1.1==0))&& !s.2.2.2.2.2.2.2.2.2.2.2.1):=by
  rw[bne];cases s.2.2.2.2.2.2.2.1<;>cases (s.2.2.2.1.1==0)<;>cases s.2.2.2.2.2.2.2.2.2.2.2.1<;>rfl
 rw[e];generalize ((s.2.2.2.2.2.2.2.1&& (s.2.2.2.1.1==0))&& !s.2.2.2.2.2.2.2.2.2.2.2.1)=b;cases b
 ·rfl
 ·simp only[Oct,Ont,Ocf];cases W2 s.2.2.2.2.1 with
  |none=>rfl
  |some t=>
   simp only[Obs];cases t.1
   ·rfl
   ·simp only[Oct];cases Wb s.2.2.2.2.1 c.2.2.2.2.2.2.2.2.2.2.2.2.2.2.2.2.1 c.2.1.2.2.2.2.2.2.2.1<;>rfl
theorem Xga(c:Ze)(s:Zh)(h:0<=s.2.2.2.1.1)(o:List Zf):J6 c s o=W6 c s o:=by
 unfold J6 W6 Qaq;have e:decide (s.2.2.2.1.1<2)=((s.2.2.2.1.1==0)|| (s.2.2.2.1.1==1)):=by
  rw[Bool.eq_iff_iff];simp only[decide_eq_true_eq,Bool.or_eq_true,beq_iff_eq];omega
 rw[e];simp only[bA,bA2,Xgb]
theorem Qt2(c:Ze)(s:Zh)(h:0<=s.2.2.2.1.1):Zed c s=Zi4 c s:=by
 unfold Zed Zi4;simp only[Xga c s h]
theorem Xd4{c:Ze}(h: ∀s∈c.2.2.2.1,0<=s.2.2.2.1.1)(hl:c.2.2.2.1.length<=1000000): ∀(N i:Nat) (o:List Zf),Za0 N c o c.2.2.2.1 (c.2.2.2.1.length:Int) (i:Int)=Ja N c o (i:Int)
 |0,_,_=>rfl
 |N+1,i,o=>by
  rw[Za0,Ja];by_cases hh:i<c.2.2.2.1.length
  ·rw[Zp (Zm (by omega)),Zp (Zm (by omega)),Zb (by omega),Zb (by omega),show(i:Int).toNat=i from rfl,Qt2 _ _ (h _ (Z2 (d:=Zn) hh)),Zr hh (by omega)];refine Q6d fun t=> ?_;rw[Xd4 h hl N (i+1)]
  ·rw[Zl (Zj (by omega)),Zl (Zj (by omega))];rfl
theorem Xft{c:Ze}(h: ∀s∈c.2.2.2.1,0<=s.2.2.2.1.1)(hl:c.2.2.2.1.length<=1000000)(o:List Zf):Zaz c o=K9 c o:=by
 unfold Zaz K9;exact Xd4 h hl _ 0 o
theorem Q2j{α β γ:Type}{m:Option α}{f:α->Option β}{g:β->Option γ}:Option.bind (Option.bind m f) g=Option.bind m fun y=>Option.bind (f y) g:=by cases m<;>rfl
theorem Qpm{K:Nat}{c:Ze}(h:Xx K c)(hK:K<=1000000):Zjg c=Zbo c:=by
 unfold Zjg Zbo;rw[Q4e h hK,Q26 h hK,Obs,Obs];by_cases hc:Zc3 c=true
 ·have hs: ∀s∈c.2.2.2.1,0<=s.2.2.2.1.1:=fun s hs=>Xf7 (h.str.all s hs).rcv hK (((Z3b h hK).1 hc).st h hK hs).rcv;have hl:=h.str.len;have j2: ∀o,Zay c o=K8 c o:=fun o=>by
   unfold Zay K8;simp only[Xbh,Q2j,Obs,Xft hs (by omega)]
  have j1: ∀o,Zax c o=K7 c o:=fun o=>by
   unfold Zax K7;simp only[Xbh,Q2j,Obs,j2]
  simp only[j1,Xbi,Zk1];generalize (Zc3 c&&_)=b;cases b
  ·rfl
  ·simp only[Ont,Ocf,Q2j];refine Q6d fun t=> ?_;cases t.1
   ·rfl
   ·simp only[Oct,Q2j,Obs]
 ·have hc:Zc3 c=false:=by simpa using hc
  rw[hc];rfl
def mrB(w:Qt):Bool:=(Qxt w&&decide (w.2.2.1< (4611686018427387903:Int)))&&decide ((IntKind.i64.wrap ((IntKind.i64.wrap (w.2.2.2.2.1+w.1))-w.2.2.1))>=(IntKind.i64.wrap (Int.tdiv (IntKind.i64.wrap (w.1+ (1:Int))) (2:Int))))
theorem mrE(w:Qt):W2 w=some (mrB w,()):=by
 unfold W2;rw[Xaq,Obs];exact Zb (fun _=>by decide)
def Qbz(w:Qt)(now trip:Int):Bool:=(mrB w&&inB now w.2.2.2.2.2.1 1000000)&&inB trip 1 1000
def rwZ(w:Qt)(now trip:Int):Int:=bif decide ((IntKind.i64.wrap (now-w.2.2.2.2.2.1))< (IntKind.i64.wrap ((2:Int)*trip)))then min (IntKind.i64.wrap ((2:Int)*w.1)) w.2.1 else w.1
def rwW(w:Qt)(now trip:Int):Qt:=(rwZ w now trip,(w.2.1,(min (IntKind.i64.wrap (w.2.2.2.2.1+rwZ w now trip)) (4611686018427387903:Int),(w.2.2.2.1,(w.2.2.2.2.1,(now,w.2.2.2.2.2.2))))))
def rwV(w:Qt)(now trip:Int):Qt:=bif Qbz w now trip then rwW w now trip else w
theorem rwE(w:Qt)(now trip:Int):Wb w now trip=some (rwV w now trip,Qbz w now trip,()):=by
 unfold Wb Zhx;simp only[mrE,inQ,Obs,bO,bO2];have e: ((!mrB w|| !inB now w.2.2.2.2.2.1 1000000)|| !inB trip 1 1000)= !Qbz w now trip:=by
  unfold Qbz;cases mrB w<;>cases inB now w.2.2.2.2.2.1 1000000<;>cases inB trip 1 1000<;>rfl
 rw[e];unfold rwV rwW rwZ;cases Qbz w now trip
 ·rfl
 ·simp only[Ont,Ocf,Oct];generalize decide (_<IntKind.i64.wrap (2*trip))=b;cases b<;>rfl
theorem Qxf{w:Qt}{now trip:Int}(h:mrB w=false):Qbz w now trip=false:=by unfold Qbz;rw[h];rfl
def maB(a:Qr):Bool:=(Qsv a&&decide ((IntKind.i64.wrap ((IntKind.i64.wrap (a.2.2.2.1+a.1))-a.2.1))>=(IntKind.i64.wrap (Int.tdiv (IntKind.i64.wrap (a.1+ (1:Int))) (2:Int)))))&&decide (a.1>(0:Int))
theorem maE(a:Qr):Zcq a=some (maB a,()):=by
 unfold Zcq;rw[Q83,Obs];exact Zb (fun _=>by decide)
def Qty(a:Qr):Bool:=maB a&& !decide ((IntKind.i64.wrap (a.2.2.2.1+a.1))>(1152921504606846976:Int))
def raV(a:Qr):Qr:=bif Qty a then(a.1,(IntKind.i64.wrap (a.2.2.2.1+a.1),a.2.2))else a
theorem raE(a:Qr):Zdv a=some (raV a,Qty a,()):=by
 unfold Zdv raV Qty;rw[maE,Obs];generalize decide (_>(1152921504606846976:Int))=b;cases maB a<;>cases b<;>rfl
theorem Q97{a:Qr}(h:maB a=false):Qty a=false:=by unfold Qty;rw[h];rfl
theorem alE(a:Qr)(t:Bool):Zcc a t=some (raV a,bif maB a then Qty a else t,()):=by
 unfold Zcc;rw[maE,raE,Obs];cases h:maB a
 ·unfold raV;rw[Q97 h];rfl
 ·rfl
def clB(c:X7):X7:=bif Zsj c&& (c.2.2.1 !=(-1:Int))then(c.1,(c.2.1,((-1:Int),(c.2.2.1,c.2.2.2.2))))else c
theorem clE(c:X7):Zdh c=some (clB c,()):=by
 unfold Zdh clB;rw[Qx6,Obs];exact Yv _ _ _|>.trans (by cases (Zsj c&& (c.2.2.1 !=(-1:Int)))<;>rfl)
def nbB(c:X7):X7:=bif((Zsj c&& (c.2.1==c.1))&& (c.2.2.1==(-1:Int)))&& (c.2.2.2.1 !=c.1)then(c.1,(c.2.1,(c.1,c.2.2.2)))else c
theorem nbE(c:X7):Ze3 c=some (nbB c,()):=by
 unfold Ze3 nbB;rw[Qx6,Obs];generalize (((Zsj c&& (c.2.1==c.1))&& (c.2.2.1==(-1:Int)))&& (c.2.2.2.1 !=c.1))=b;cases b<;>rfl
abbrev Zw2(c:Ze):Int:=c.2.2.2.2.2.2.2.2.2.2.2.2.2.2.2.2.1
abbrev Znv(c:Ze):Int:=c.2.1.2.2.2.2.2.2.2.1
theorem ttE(c:Ze):Zk1 c=some (rwV c.2.2.2.2.2.1 (Zw2 c) (Znv c),bif mrB c.2.2.2.2.2.1 then Qbz c.2.2.2.2.2.1 (Zw2 c) (Znv c)else c.2.2.2.2.2.2.2.2.2.2.1,()):=by
 unfold Zk1;rw[mrE,rwE,Obs];cases h:mrB c.2.2.2.2.2.1
 ·unfold rwV;rw[Qxf h];rfl
 ·rfl
def wcB(s:Zh):Bool:=(s.2.2.2.2.2.2.2.1&& (s.2.2.2.1.1==0))&& !s.2.2.2.2.2.2.2.2.2.2.2.1
theorem lwE(c:Ze)(s:Zh):Zi5 c s=some (bif wcB s then rwV s.2.2.2.2.1 (Zw2 c) (Znv c)else s.2.2.2.2.1,wcB s&& (bif mrB s.2.2.2.2.1 then Qbz s.2.2.2.2.1 (Zw2 c) (Znv c)else s.2.2.2.2.2.2.2.2.2.2.1),()):=by
 unfold Zi5;have e: ((!s.2.2.2.2.2.2.2.1|| (s.2.2.2.1.1 !=0))||s.2.2.2.2.2.2.2.2.2.2.2.1)= !wcB s:=by
  unfold wcB;rw[bne];cases s.2.2.2.2.2.2.2.1<;>cases (s.2.2.2.1.1==0)<;>cases s.2.2.2.2.2.2.2.2.2.2.2.1<;>rfl
 rw[e,mrE,rwE,Obs];cases wcB s
 ·rfl
 ·cases h:mrB s.2.2.2.2.1
  ·unfold rwV;rw[Qxf h];rfl
  ·rfl
noncomputable def Qx(l:List Zh)(n:Int):Int:=match Ko l n with|some (v,_)=>v|none=> -1
theorem Qwf{l:List Zh}(hl:l.length<=1000000)(n:Int):Ko l n=some (Qx l n,()):=by
 obtain⟨v,e,-⟩:=Qad l n hl;unfold Qx;rw[e]
theorem Zo5{l:List Zh}(hl:l.length<=1000000)(n:Int): (Qx l n<0\/Qx l n<l.length)/\(Qx l n<0-> ∀s∈l,s.1≠n)/\(0<=Qx l n->(l.getD (Qx l n).toNat Zn).1=n):=by
 obtain⟨v,e,h⟩:=Qad l n hl;have:Qx l n=v:=by unfold Qx;rw[e]
 rw[this];exact h
theorem Q25{l:List Zh}(hl:l.length<=1000000)(n:Int): ∀(N i:Nat),Qb N l (n,()) (l.length:Int) (i:Int)=Vt N l n (i:Int)
 |0,_=>rfl
 |N+1,i=>by
  rw[Qb,Vt];by_cases hh:i<l.length
  ·rw[Zp (Zm (by omega)),Zp (Zm (by omega)),Zb (by omega),Zb (by omega),Zr hh (by omega),Q25 hl n N (i+1)];rfl
  ·rw[Zl (Zj (by omega)),Zl (Zj (by omega))]
theorem Qyi{l:List Zh}(hl:l.length<=1000000)(n:Int):Jx l n=Ko l n:=by
 unfold Jx Xf;have:=Q25 hl n (V7 l n 0) 0;rw[show Q0 l (n,()) (l.length:Int) 0=V7 l n 0 from rfl];rw[Int.natCast_zero]at this;rw[this];change Option.bind (Ko l n) _=_;cases Ko l n<;>rfl
theorem Qw7{K:Nat}{l:List Zh}{s:Zh}(h:Zmy K l)(hs:Vy K s)(hK:K<=1000000)(a:Nat)(ha:a<l.length): ∀(N i:Nat),l.length-i<N->i<=l.length->Xm N l s ((l.set a s).take i) (a:Int) true (i:Int)=some (l.set a s,())
 |0,_,h,_=>by omega
 |N+1,i,hN,hi=>by
  have hl:=h.len;rw[Xm];by_cases hh:i<l.length
  ·have cap: ∀x:Zh,((l.set a s).take i).length+ [x].length<=Qg:=fun x=>by unfold Qg;simp only[List.length_take,List.length_singleton];omega
   have e: (l.set a s).take i++ [if i=a then s else l.getD i Zn]=(l.set a s).take (i+1):=by
    rw[List.take_succ_eq_append_getElem (by simp only[List.length_set];exact hh),List.getElem_set];congr 2;by_cases hia:i=a
    ·rw[if_pos hia,if_pos hia.symm]
    ·rw[if_neg hia,if_neg (fun h=>hia h.symm),List.getD_eq_getElem?_getD,List.getElem?_eq_getElem hh];rfl
   rw[Zp (Zm (by omega)),Zb (by omega),show(i:Int).toNat=i from rfl,Zt5 (h.all _ (Z2 (d:=Zn) hh)) hK,Obs];by_cases hia:i=a
   ·have: ((i:Int)==(a:Int))=true:=by simp;omega
    rw[this,Oct,Zt5 hs hK,Obs];unfold Y6;rw[Zb (cap _),Zr hh (by omega)];rw[if_pos hia]at e;rw[e];exact Qw7 h hs hK a ha N (i+1) (by omega) (by omega)
   ·have: ((i:Int)==(a:Int))=false:=by simp;omega
    rw[this,Ocf,Zb (fun h=>by cases h)];simp only[Ont,Bool.false_and,Ocf];unfold Y6;rw[Zb (cap _),Zr hh (by omega)];rw[if_neg hia]at e;rw[e];exact Qw7 h hs hK a ha N (i+1) (by omega) (by omega)
  ·rw[Zl (Zj (by omega)),List.take_of_length_le (by simp only[List.length_set];omega)];rfl
theorem Qzb{K:Nat}{l:List Zh}{s:Zh}(h:Zmy K l)(hs:Vy K s)(hK:K<=1000000)(hi:0<=Qx l s.1):Qv l s=some (l.set (Qx l s.1).toNat s,()):=by
 have hl:=h.len;obtain⟨h1,-,-⟩:=Zo5 (l:=l) (by omega) s.1;unfold Qv;rw[Qwf (by omega),Obs,Zm (by omega)];have:=Qw7 h hs hK (Qx l s.1).toNat (by omega) (W3 l s ([]:List Zh) (Qx l s.1) true 0) 0 (by unfold W3;omega) (by omega);rw[List.take_zero,Int.toNat_of_nonneg hi]at this;exact this
theorem Zun{K:Nat}{c:Ze}(h:Xx K c)(hK:K<=1000000)(n:Int):Qw c n=some (if 0<=Qx c.2.2.2.1 n then(c.2.2.2.1.getD (Qx c.2.2.2.1 n).toNat Zn,true,())else(Zn,false,())):=by
 have hl:=h.str.len;obtain⟨h1,-,-⟩:=Zo5 (l:=c.2.2.2.1) (by omega) n;unfold Qw;rw[Qwf (by omega),Obs];by_cases hi:0<=Qx c.2.2.2.1 n
 ·rw[Zl (Zj (by omega)),Zb (by omega),if_pos hi,Zt5 (h.str.all _ (Z2 (d:=Zn) (by omega))) hK];rfl
 ·rw[Zp (Zm (by omega)),if_neg hi]
theorem Q77(l:List Zh)(i:Nat):l.set i (l.getD i Zn)=l:=by
 by_cases h:i<l.length
 ·rw[List.getD_eq_getElem?_getD,List.getElem?_eq_getElem h,Option.getD_some,List.set_getElem_self]
 ·exact List.set_eq_of_length_le (by omega)
def Zh4(c:Ze)(s1:Zh)(k:Int):Zh:=bif k==(4:Int)then(s1.1,(s1.2.1,(s1.2.2.1,(s1.2.2.2.1,(s1.2.2.2.2.1,(s1.2.2.2.2.2.1,(s1.2.2.2.2.2.2.1,(s1.2.2.2.2.2.2.2.1,(false,s1.2.2.2.2.2.2.2.2.2))))))))) else bif k==(5:Int)then(s1.1,(s1.2.1,(s1.2.2.1,(s1.2.2.2.1,(s1.2.2.2.2.1,(s1.2.2.2.2.2.1,(s1.2.2.2.2.2.2.1,(s1.2.2.2.2.2.2.2.1,(s1.2.2.2.2.2.2.2.2.1,(false,s1.2.2.2.2.2.2.2.2.2.2)))))))))) else bif k==(17:Int)then(s1.1,(s1.2.1,(s1.2.2.1,(s1.2.2.2.1,((bif wcB s1 then rwV s1.2.2.2.2.1 (Zw2 c) (Znv c)else s1.2.2.2.2.1),(s1.2.2.2.2.2.1,(s1.2.2.2.2.2.2.1,(s1.2.2.2.2.2.2.2.1,(s1.2.2.2.2.2.2.2.2.1,(s1.2.2.2.2.2.2.2.2.2.1,(false,s1.2.2.2.2.2.2.2.2.2.2.2))))))))))) else bif k==(21:Int)then(s1.1,(s1.2.1,(clB s1.2.2.1,s1.2.2.2))) else s1
theorem Xd9(c:Ze)(s:Zh)(k:Int):Zuf c s k=some ((Zh4 c s k,()),()):=by
 unfold Zuf Zh4;rw[lwE,clE];cases k==(4:Int)
 ·cases k==(5:Int)
  ·cases k==(17:Int)
   ·cases k==(21:Int)<;>rfl
   ·simp only[Ocf,Oct,Obs];cases hw:wcB s
    ·rfl
    ·cases hm:mrB s.2.2.2.2.1
     ·unfold rwV;rw[Qxf hm];cases s.2.2.2.2.2.2.2.2.2.2.1<;>rfl
     ·cases ho:Qbz s.2.2.2.2.1 (Zw2 c) (Znv c)
      ·unfold rwV;rw[ho];rfl
      ·rfl
  ·rfl
 ·rfl
theorem Qn5(c:Ze)(s:Zh)(k:Int): (Zh4 c s k).1=s.1:=by
 unfold Zh4;cases k==(4:Int)<;>cases k==(5:Int)<;>cases k==(17:Int)<;>cases k==(21:Int)<;>rfl
theorem Z3e(c:Ze)(s:Zh)(k:Int): (Zh4 c s k).2.1=s.2.1:=by
 unfold Zh4;cases k==(4:Int)<;>cases k==(5:Int)<;>cases k==(17:Int)<;>cases k==(21:Int)<;>rfl
theorem Qpq(c:Ze)(s:Zh)(k:Int): (Zh4 c s k).2.2.2.1=s.2.2.2.1:=by
 unfold Zh4;cases k==(4:Int)<;>cases k==(5:Int)<;>cases k==(17:Int)<;>cases k==(21:Int)<;>rfl
theorem Qx8{K:Nat}{s:Zh}(h:Vy K s)(c:Ze)(k:Int):Vy K (Zh4 c s k):=⟨by rw[Z3e];exact h.snd,by rw[Qpq];exact h.rcv⟩
theorem Q9b(c:Ze)(s:Zh)(k:Int):wcB (Zh4 c s k)=wcB s:=by
 unfold Zh4;cases k==(4:Int)<;>cases k==(5:Int)<;>cases k==(17:Int)<;>cases k==(21:Int)<;>rfl
abbrev Qlj(c:Ze)(l:List Zh):Ze:=(c.1,(c.2.1,(c.2.2.1,(l,c.2.2.2.2))))
noncomputable def mkC(c:Ze)(f:Zf):Ze:=bif f.1==(16:Int)then(c.1,(c.2.1,(c.2.2.1,(c.2.2.2.1,(c.2.2.2.2.1,(rwV c.2.2.2.2.2.1 (Zw2 c) (Znv c),(c.2.2.2.2.2.2.1,(c.2.2.2.2.2.2.2.1,(c.2.2.2.2.2.2.2.2.1,(c.2.2.2.2.2.2.2.2.2.1,(false,c.2.2.2.2.2.2.2.2.2.2.2))))))))))) else bif f.1==(18:Int)then bif f.2.2.2.2.2.2.2.2.1 then(c.1,(c.2.1,(c.2.2.1,(c.2.2.2.1,(c.2.2.2.2.1,(c.2.2.2.2.2.1,(c.2.2.2.2.2.2.1,(c.2.2.2.2.2.2.2.1,(c.2.2.2.2.2.2.2.2.1,(raV c.2.2.2.2.2.2.2.2.2.1,(c.2.2.2.2.2.2.2.2.2.2.1,(c.2.2.2.2.2.2.2.2.2.2.2.1,(false,c.2.2.2.2.2.2.2.2.2.2.2.2.2))))))))))))) else(c.1,(c.2.1,(c.2.2.1,(c.2.2.2.1,(c.2.2.2.2.1,(c.2.2.2.2.2.1,(c.2.2.2.2.2.2.1,(c.2.2.2.2.2.2.2.1,(raV c.2.2.2.2.2.2.2.2.1,(c.2.2.2.2.2.2.2.2.2.1,(c.2.2.2.2.2.2.2.2.2.2.1,(false,c.2.2.2.2.2.2.2.2.2.2.2.2)))))))))))) else bif f.1==(20:Int)then(c.1,(c.2.1,(c.2.2.1,(c.2.2.2.1,(clB c.2.2.2.2.1,c.2.2.2.2.2))))) else bif f.1==(22:Int)then bif f.2.2.2.2.2.2.2.2.1 then(c.1,(c.2.1,(c.2.2.1,(c.2.2.2.1,(c.2.2.2.2.1,(c.2.2.2.2.2.1,(c.2.2.2.2.2.2.1,((c.2.2.2.2.2.2.2.1.1,(c.2.2.2.2.2.2.2.1.2.1,((-1:Int),c.2.2.2.2.2.2.2.1.2.2.2))),c.2.2.2.2.2.2.2.2)))))))) else(c.1,(c.2.1,(c.2.2.1,(c.2.2.2.1,(c.2.2.2.2.1,(c.2.2.2.2.2.1,((c.2.2.2.2.2.2.1.1,(c.2.2.2.2.2.2.1.2.1,((-1:Int),c.2.2.2.2.2.2.1.2.2.2))),c.2.2.2.2.2.2.2))))))) else if 0<=Qx c.2.2.2.1 f.2.1 then Qlj c (c.2.2.2.1.set (Qx c.2.2.2.1 f.2.1).toNat (Zh4 c (c.2.2.2.1.getD (Qx c.2.2.2.1 f.2.1).toNat Zn) f.1))else c
theorem mkE{K:Nat}{c:Ze}(h:Xx K c)(hK:K<=1000000)(f:Zf):Znb c f=some (bif Zc3 c then mkC c f else c,()):=by
 have hl:=h.str.len;obtain⟨h1,-,h3⟩:=Zo5 (l:=c.2.2.2.1) (by omega) f.2.1;unfold Znb mkC;rw[Zb4 h hK,Qx5 h hK,Obs,Obs];cases Zc3 c
 ·rfl
 ·simp only[Ont,Ocf,Oct,ttE,alE,clE,Obs,Zun h hK];cases f.1==(16:Int)
  ·cases f.1==(18:Int)
   ·cases f.1==(20:Int)
    ·cases f.1==(22:Int)
     ·simp only[Ocf];by_cases hi:0<=Qx c.2.2.2.1 f.2.1
      ·have hm:=h.str.all _ (Z2 (d:=Zn) (show(Qx c.2.2.2.1 f.2.1).toNat<c.2.2.2.1.length by omega));have e: (Zh4 c (c.2.2.2.1.getD (Qx c.2.2.2.1 f.2.1).toNat Zn) f.1).1=f.2.1:=by rw[Qn5];exact h3 hi
       rw[if_pos hi,if_pos hi];simp only[Oct,Xd9,Obs];rw[Qzb h.str (Qx8 hm c f.1) hK (by rw[e];exact hi),e];rfl
      ·rw[if_neg hi,if_neg hi];rfl
     ·cases f.2.2.2.2.2.2.2.2.1<;>rfl
    ·rfl
   ·cases f.2.2.2.2.2.2.2.2.1<;>rfl
  ·rfl
theorem Xbr(f:Zf):Zbg f=some ((((f.1==(4:Int))|| (f.1==(5:Int)))|| (f.1==(8:Int)))|| ((f.1==(17:Int))|| (f.1==(21:Int))),()):=by
 unfold Zbg K6;cases f.1==(4:Int)<;>cases f.1==(5:Int)<;>cases f.1==(8:Int)<;>cases f.1==(17:Int)<;>cases f.1==(21:Int)<;>rfl
theorem Qwr{K:Nat}{c:Ze}(h:Xx K c)(hK:K<=1000000)(f:Zf)(h17:f.1=17-> ∀s∈c.2.2.2.1,s.1=f.2.1->wcB s=true):Zm0 c f=some (bif Zc3 c then mkC c f else c,()):=by
 have hl:=h.str.len;obtain⟨h1,-,h3⟩:=Zo5 (l:=c.2.2.2.1) (by omega) f.2.1;unfold Zm0;simp only[Jk,Kz];rw[Z54 h hK,Obs,Qyi (by omega),Qwf (by omega),Obs];unfold Zhq Zo6;simp only[Qn9 h hK,Qx5 h hK,Obs,Xbr,bO,Jk,Kz,Qw8,Qk8,Xbx,rwE,raE,clE];cases Zc3 c
 ·rfl
 ·simp only[Ont,Bool.false_or,Oct];by_cases hi:0<=Qx c.2.2.2.1 f.2.1
  ·have hm:=Z2 (d:=Zn) (show(Qx c.2.2.2.1 f.2.1).toNat<c.2.2.2.1.length by omega);rw[Zj (p:=Qx c.2.2.2.1 f.2.1<0) (by omega),Bool.and_false,Ocf,Zb (by omega)];unfold mkC;rw[if_pos hi];generalize hj: (Qx c.2.2.2.1 f.2.1).toNat=j at*
   have hjl:j<c.2.2.2.1.length:=by omega
   have gs: ∀x:Zh,(c.2.2.2.1.set j x).getD j Zn=x:=fun x=>by
    rw[List.getD_eq_getElem?_getD,List.getElem?_set_self hjl];rfl
   by_cases e16:f.1=16
   ·rw[e16];rfl
   by_cases e18:f.1=18
   ·rw[e18];cases f.2.2.2.2.2.2.2.2.1<;>rfl
   by_cases e20:f.1=20
   ·rw[e20];rfl
   by_cases e22:f.1=22
   ·rw[e22];cases f.2.2.2.2.2.2.2.2.1<;>rfl
   simp only[beq_false_of_ne e16,beq_false_of_ne e18,beq_false_of_ne e20,beq_false_of_ne e22,Ocf];by_cases e4:f.1=4
   ·rw[e4];rfl
   by_cases e5:f.1=5
   ·rw[e5];rfl
   by_cases e17:f.1=17
   ·have hw:=h17 e17 _ hm (h3 hi);rw[e17];simp only[gs,List.set_set];unfold Zh4;rw[hw];rfl
   by_cases e21:f.1=21
   ·rw[e21];rfl
   simp only[beq_false_of_ne e4,beq_false_of_ne e5,beq_false_of_ne e17,beq_false_of_ne e21,Ocf,Zh4,Q77];cases (f.1==8)<;>rfl
  ·rw[Zm (p:=Qx c.2.2.2.1 f.2.1<0) (by omega),Bool.and_true];unfold mkC;rw[if_neg hi];by_cases e16:f.1=16
   ·rw[e16];rfl
   by_cases e18:f.1=18
   ·rw[e18];cases f.2.2.2.2.2.2.2.2.1<;>rfl
   by_cases e20:f.1=20
   ·rw[e20];rfl
   by_cases e22:f.1=22
   ·rw[e22];cases f.2.2.2.2.2.2.2.2.1<;>rfl
   simp only[beq_false_of_ne e16,beq_false_of_ne e18,beq_false_of_ne e20,beq_false_of_ne e22,Ocf];generalize ((((f.1==4)|| (f.1==5))|| (f.1==8))|| ((f.1==17)|| (f.1==21)))=b;cases b<;>rfl
theorem Xav(n:Int):Zhd n=some (Jd [IntKind.u8.wrap (bits .and .i64 n (255:Int))],()):=by
 unfold Zhd Zm7;have h:=Qvq n;generalize bits .and .i64 n (255:Int)=m at*
 rw[show Z4 1 1 7=some (true,())from rfl];simp only[Obs,Ont,Bool.false_or];rw[Zl (Zj (by omega))];show Option.bind (Y1 2 m 1 [] 0) _=_;unfold Y1;rw[Zp (by decide),Zb (by decide)];simp only;rw[Zb (by unfold Zf9 Jd;simp),Zb (by decide)];unfold Y1;have e1:Int.tmod m 256=m:=by rw[Int.tmod_eq_emod_of_nonneg h.1];omega
 have e2:Int.tdiv m 256=0:=by rw[Int.tdiv_eq_ediv_of_nonneg h.1];omega
 rw[show IntKind.i64.wrap ((0:Int)+1)=1 from rfl,Zl (by decide),e1,e2,show IntKind.i64.wrap (0:Int)=0 from rfl];simp
theorem Z9d(l:List Int): (Jd l).length=l.length:=by simp[Jd]
theorem Xd2{n:Int}(h0:0<=n)(h1:n<=255):Zhd n=some (Jd [IntKind.u8.wrap n],()):=by
 rw[Xav];have h:bits .and .i64 n 255=IntKind.i64.wrap (((BitVec.ofInt 64 n&&&BitVec.ofInt 64 255).toNat:Nat):Int):=rfl;have e: (BitVec.ofInt 64 n&&&BitVec.ofInt 64 255).toNat=n.toNat:=by
  rw[BitVec.toNat_and,BitVec.toNat_ofInt,BitVec.toNat_ofInt];have a: (n% ((2^64:Nat):Int)).toNat=n.toNat:=by omega
  have b: ((255:Int)% ((2^64:Nat):Int)).toNat=2^8-1:=by omega
  rw[a,b,Nat.and_two_pow_sub_one_eq_mod];omega
 rw[h,e,Zv (by omega) (by omega),Int.toNat_of_nonneg h0]
def qsz(n:Int):Int:=if n<0\/n>4611686018427387903 then 0 else if n<64 then 1 else if n<16384 then 2 else if n<1073741824 then 4 else 8
theorem Ke(n:Int):0<=qsz n/\qsz n<=8:=by
 unfold qsz;repeat' split
 all_goals omega
theorem Q96{n:Int}(h:fq n=true):1<=qsz n:=by
 unfold fq at h;simp only[Oba,decide_eq_true_eq]at h;unfold qsz;rw[if_neg (by omega)];repeat' split
 all_goals omega
theorem Z4v{n:Int}(h0:0<=n)(h1:n<64):qsz n=1:=by unfold qsz;rw[if_neg (by omega),if_pos h1]
theorem szS(n:Int):Zer n=some (qsz n,()):=by
 unfold Zer qsz;by_cases h:n<0\/n>4611686018427387903
 ·rw[if_pos h,Zp (by simpa using h)]
 ·rw[if_neg h,Zl (by simpa using h)];by_cases h1:n<64
  ·rw[if_pos h1,Zp (Zm h1)]
  ·rw[if_neg h1,Zl (Zj h1)];by_cases h2:n<16384
   ·rw[if_pos h2,Zp (Zm h2)]
   ·rw[if_neg h2,Zl (Zj h2)];by_cases h3:n<1073741824
    ·rw[if_pos h3,Zp (Zm h3)]
    ·rw[if_neg h3,Zl (Zj h3)]
theorem szI(n:Int):Zr2 n=some (qsz n,()):=by
 rw[<-szS];unfold Zr2 Zer;rw[Qoa,Obs];have: (!Zn6 n)=(decide (n<0)||decide (n>4611686018427387903)):=by
  unfold Zn6;rw[Bool.eq_iff_iff];simp only[Bool.not_eq_true',Bool.and_eq_false_iff,decide_eq_false_iff_not,Bool.or_eq_true,decide_eq_true_eq];omega
 rw[this]
theorem Xa0(n k:Int): ∀(N m:Nat) (s:List UInt8),m<N->m<=8->s.length+m<=8->T (Q1 N n k s ((m:Int)-1)) fun r=>r.1.length=s.length+m
 |0,_,_,h,_,_=>by omega
 |N+1,0,s,_,_,hs=>by
  unfold Q1;exact T.ite (fun h=>by simp at h) fun _=>T.pure (by simp)
 |N+1,m+1,s,hN,hm,hs=>by
  unfold Q1;have j: ∀b,T (Ys (fun v=>Q1 N v.1 v.2.1 v.2.2.1 v.2.2.2.1) n k s (((m+1:Nat):Int)-1) b) fun r=>r.1.length=s.length+ (m+1):=fun b=>by
   unfold Ys;have e2:IntKind.i64.wrap (((m+1:Nat):Int)-1-1)=(m:Int)-1:=by rw[Zv (by omega) (by omega)];omega
   rw[Xav,Obs,e2];exact T.guard (by unfold Zf9;simp only[Z9d,List.length_singleton];omega) ((Xa0 n k N m _ (by omega) (by omega) (by simp only[List.length_append,Z9d,List.length_singleton];omega)).mono fun y hy=>by simp only[List.length_append,Z9d,List.length_singleton]at hy;omega)
  exact T.ite (fun _=>T.guard (by rw[Zv (by omega) (by omega)];omega) (T.if (T.if (j _) (T.if (j _) (T.if (j _) (j _)))) (j _))) fun h=>by have:=of_decide_eq_false h;omega
theorem enS(n:Int):T (Zgr n) fun r=>(r.1.length:Int)=qsz n:=by
 unfold Zgr;rw[szS,Obs];have hq:=Ke n;obtain⟨m,hm⟩:=Int.eq_ofNat_of_zero_le hq.1;have e2:IntKind.i64.wrap (qsz n-1)=(m:Int)-1:=by rw[Zv (by omega) (by omega)];omega
 rw[e2];exact(Xa0 n _ _ m [] (by unfold Zdk;omega) (by omega) (by simp;omega)).mono fun y hy=>by simp only[List.length_nil]at hy;omega
theorem Xaz(k:Int): ∀(N m:Nat) (n:Int) (o:List Int),m<N->m<=o.length->0<o.length->o.length<=8->T (Zbe N n k o ((m:Int)-1)) fun r=>r.1.length=o.length
 |0,_,_,_,h,_,_,_=>by omega
 |N+1,0,n,o,_,_,h0,_=>by
  unfold Zbe;have j: ∀x:List Int,x.length=o.length->T (Zbd x) fun r=>r.1.length=o.length:=fun x hx=>T.pure (by simp only[Z9d];exact hx);exact T.ite (fun h=>by simp at h) fun _=>T.if (T.guard (by omega) (T.guard (by omega) (j _ (by simp)))) (T.if (T.guard (by omega) (T.guard (by omega) (j _ (by simp)))) (T.if (T.guard (by omega) (T.guard (by omega) (j _ (by simp)))) (j _ rfl)))
 |N+1,m+1,n,o,hN,hm,h0,h8=>by
  unfold Zbe;have e2:IntKind.i64.wrap (((m+1:Nat):Int)-1-1)=(m:Int)-1:=by rw[Zv (by omega) (by omega)];omega
  refine T.ite (fun _=>T.guard (by omega) (T.guard (by omega) ?_)) fun h=>by have:=of_decide_eq_false h;omega
  rw[e2];exact(Xaz k N m _ _ (by omega) (by simp only[List.length_set];omega) (by simp only[List.length_set];omega) (by simp only[List.length_set];omega)).mono fun y hy=>by rw[hy];simp
theorem enI(n:Int):T (Jw n) fun r=>(r.1.length:Int)=qsz n:=by
 unfold Jw;rw[szI,Obs];have hq:=Ke n;by_cases h0:qsz n=0
 ·have e: (qsz n==0)=true:=by simpa using h0
  rw[Zp e,h0];exact T.pure rfl
 ·have e: (qsz n==0)=false:=by simpa using h0
  rw[Zl e,Zb (by unfold Qg;omega)];obtain⟨m,hm⟩:=Int.eq_ofNat_of_zero_le hq.1;have e2:IntKind.i64.wrap (qsz n-1)=(m:Int)-1:=by rw[Zv (by omega) (by omega)];omega
  rw[e2];exact(Xaz _ _ m n _ (by unfold Zh8;omega) (by simp only[List.length_replicate];omega) (by simp only[List.length_replicate];omega) (by simp only[List.length_replicate];omega)).mono fun y hy=>by rw[hy];simp only[List.length_replicate];omega
def Znt:List Int->Int| []=>0|x::r=>qsz x+Znt r
theorem Qok: ∀l:List Int,0<=Znt l/\Znt l<=8*l.length
 | []=>by simp[Znt]
 |x::r=>by
  have:=Qok r;have:=Ke x
  simp only[Znt,List.length_cons];omega
theorem Xa3(l:List Int)(hl:l.length<=1000)(hq: ∀x∈l,fq x=true): ∀(N i:Nat) (s:List UInt8),l.length-i<N->i<=l.length->s.length<=8*i->T (Va N l s (i:Int)) fun r=>(r.1.length:Int)=s.length+Znt (l.drop i)
 |0,_,_,h,_,_=>by omega
 |N+1,i,s,hN,hi,hs=>by
  unfold Va;refine T.ite (fun hc=> ?_) fun hc=>T.pure (by have:=of_decide_eq_false hc;rw[List.drop_eq_nil_of_le (by omega)];simp[Znt]);have hc:=Ode hc;have hp:=Q96 (hq _ (Z2 (d:=0) (show i<l.length by omega)));rw[Zb (by omega),szS,Obs,show(i:Int).toNat=i from rfl];refine T.ite (fun h=>by have:=eq_of_beq h;omega) fun _=>T.guard (by omega) ((enS _).bind fun t ht=> ?_);have hz:=Ke (l.getD i 0);refine T.guard (by unfold Zf9;omega) ?_;rw[Zr (m:=l.length) (by omega) (by omega),Xj (d:=0) (show i<l.length by omega)];exact(Xa3 l hl hq N (i+1) _ (by omega) (by omega) (by simp only[List.length_append];omega)).mono fun y hy=>by rw[hy];simp only[List.length_append,Znt];omega
theorem esS(l:List Int)(hl:l.length<=1000)(hq: ∀x∈l,fq x=true):T (Xg l) fun r=>(r.1.length:Int)=Znt l:=by
 unfold Xg;exact(Xa3 l hl hq _ 0 _ (by unfold Zb6;omega) (by omega) (by simp)).mono fun y hy=>by rw[hy];simp
theorem Xa2(l:List Int)(hl:l.length<=1000)(hq: ∀x∈l,fq x=true): ∀(N i:Nat) (s:List UInt8),l.length-i<N->i<=l.length->s.length<=8*i->T (Zd1 N s l (l.length:Int) (i:Int)) fun r=>(r.1.length:Int)=s.length+Znt (l.drop i)
 |0,_,_,h,_,_=>by omega
 |N+1,i,s,hN,hi,hs=>by
  unfold Zd1;refine T.ite (fun hc=> ?_) fun hc=>T.pure (by have:=of_decide_eq_false hc;rw[List.drop_eq_nil_of_le (by omega)];simp[Znt]);have hc:=Ode hc;have hf:=hq _ (Z2 (d:=0) (show i<l.length by omega));rw[Zb (by omega),Qu2,Obs,show(i:Int).toNat=i from rfl,hf];refine T.ite (fun h=>by cases h) fun _=>((enI _).bind fun t ht=> ?_)
  have hz:=Ke (l.getD i 0);refine T.guard (by unfold Zf9;omega) ?_;rw[Zr (m:=l.length) (by omega) (by omega),Xj (d:=0) (show i<l.length by omega)];exact(Xa2 l hl hq N (i+1) _ (by omega) (by omega) (by simp only[List.length_append];omega)).mono fun y hy=>by rw[hy];simp only[List.length_append,Znt];omega
theorem esI(l:List Int)(hl:l.length<=1000)(hq: ∀x∈l,fq x=true):T (Zbf l) fun r=>(r.1.length:Int)=Znt l:=by
 unfold Zbf;exact(Xa2 l hl hq _ 0 _ (by unfold Zhj;omega) (by omega) (by simp)).mono fun y hy=>by rw[hy];simp
def fsz(f:Zf):Int:=if Wl f=true then 1+ (if f.1=4 then qsz f.2.1+qsz f.2.2.2.2.2.1+qsz f.2.2.2.2.2.2.2.1 else if f.1=5 then qsz f.2.1+qsz f.2.2.2.2.2.1 else if f.1=8 then qsz f.2.1+ (if f.2.2.1=0 then 0 else qsz f.2.2.1)+qsz f.2.2.2.1.length+f.2.2.2.1.length else if f.1=17\/f.1=21 then qsz f.2.1+qsz f.2.2.2.2.2.2.1 else qsz f.2.2.2.2.2.2.1)else 0
structure FrF(f:Zf):Prop where
 kind:f.1=4\/f.1=5\/f.1=8\/f.1=16\/f.1=17\/f.1=18\/f.1=20\/f.1=21\/f.1=22
 st:fq f.2.1=true
 off:fq f.2.2.1=true
 code:fq f.2.2.2.2.2.1=true
 lim:fq f.2.2.2.2.2.2.1=true
 fin:fq f.2.2.2.2.2.2.2.1=true
 len:f.2.2.2.1.length<=400
theorem frF{f:Zf}(h:Wl f=true):FrF f:=by
 unfold Wl at h;simp only[Oba,decide_eq_true_eq]at h;obtain⟨⟨⟨⟨⟨⟨⟨h1,h2⟩,h3⟩,h4⟩,h5⟩,h6⟩,h7⟩,-⟩:=h;have hk:=Qbr h1;simp only[Bool.or_eq_true,beq_iff_eq]at hk;exact⟨by omega,h2,h3,h4,h5,h6,h7⟩
theorem Qyk{n:Int}(h0:0<=n)(h1:n<=100000):fq n=true:=by unfold fq;simp;omega
theorem Qvl{a b:Int}(ha:fq a=true)(hb:fq b=true): ∀x∈[a,b],fq x=true:=by simp[ha,hb]
theorem Qsu{a b c:Int}(ha:fq a=true)(hb:fq b=true)(hc:fq c=true): ∀x∈[a,b,c],fq x=true:=by simp[ha,hb,hc]
theorem Xdz{a b c d:Int}(ha:fq a=true)(hb:fq b=true)(hc:fq c=true)(hd:fq d=true): ∀x∈[a,b,c,d],fq x=true:=by simp[ha,hb,hc,hd]
theorem Xf0{f:Zf}(h:FOK f):T (Zbp f) fun r=>(r.1.length:Int)=fsz f:=by
 have h':=h;unfold FOK at h';unfold Zbp fsz;rw[Zua _ (by omega),Obs];by_cases hf:Wl f=true
 ·have F:=frF hf;rw[if_pos hf,hf];simp only[Ont,Ocf];have b1: ∀{n:Int},0<=n->n<64-> ∀r,Znt (n::r)=1+Znt r:=fun h0 h1 r=>by simp only[Znt];rw[Z4v h0 h1]
  have q0: ∀{n:Int},0<=n->n<64->fq n=true:=fun a b=>Qyk a (by omega);rcases F.kind with e|e|e|e|e|e|e|e|e
  ·rw[e];exact(esS _ (by simp) (Xdz (q0 (by omega) (by omega)) F.st F.code F.fin)).bind fun t ht=>T.pure (by rw[ht,b1 (by omega) (by omega)];simp[Znt];omega)
  ·rw[e];exact(esS _ (by simp) (Qsu (q0 (by omega) (by omega)) F.st F.code)).bind fun t ht=>T.pure (by rw[ht,b1 (by omega) (by omega)];simp[Znt])
  ·have j: ∀k:Int,0<=k->k<50->T (Zab f k) fun r=>(r.1.length:Int)=1+ (qsz f.2.1+ (if f.2.2.1=0 then 0 else qsz f.2.2.1)+qsz f.2.2.2.1.length+f.2.2.2.1.length):=fun k h0 h1=>by
    unfold Zab;have hL:fq (f.2.2.2.1.length:Int)=true:=Qyk (by omega) (by omega);refine T.ite (fun h=> ?_) fun h=> ?_
    ·refine(esS _ (by simp) (Qsu (q0 h0 (by omega)) F.st hL)).bind fun t ht=> ?_;have hb:=Qok [k,f.2.1,(f.2.2.2.1.length:Int)];simp only[List.length_cons,List.length_nil]at hb;refine T.guard (by unfold Zf9;omega) (T.pure ?_);rw[if_pos (eq_of_beq h)];simp only[List.length_append];rw[b1 h0 (by omega)]at ht;simp only[Znt]at ht;omega
    ·have hk:IntKind.i64.wrap (k+4)=k+4:=Zv (by omega) (by omega);rw[hk];refine(esS _ (by simp) (Xdz (q0 (n:=k+4) (by omega) (by omega)) F.st F.off hL)).bind fun t ht=> ?_;have hb:=Qok [k+4,f.2.1,f.2.2.1,(f.2.2.2.1.length:Int)];simp only[List.length_cons,List.length_nil]at hb;refine T.guard (by unfold Zf9;omega) (T.pure ?_);rw[if_neg (fun hh=>by rw[hh]at h;cases h)];simp only[List.length_append];rw[b1 (by omega) (by omega)]at ht;simp only[Znt]at ht;omega
   rw[e];simp only[Int.reduceBEq,Int.reduceEq,Ocf,Oct,if_false,if_true];exact T.if (j _ (by decide) (by decide)) (j _ (by decide) (by decide))
  ·rw[e];unfold Yc;exact(esS _ (by simp) (Qvl (by rw[e];rfl) F.lim)).bind fun t ht=>T.pure (by rw[ht,e,b1 (by omega) (by omega)];simp[Znt])
  ·rw[e];unfold Yc Kw;exact(esS _ (by simp) (Qsu (by rw[e];rfl) F.st F.lim)).bind fun t ht=>T.pure (by rw[ht,e,b1 (by omega) (by omega)];simp[Znt])
  ·rw[e];unfold Yc Kw Zac;simp only[Int.reduceBEq,Ocf];refine T.if ?_ ?_
   ·rw[e];exact(esS _ (by simp) (Qvl (by rfl) F.lim)).bind fun t ht=>T.pure (by rw[ht,b1 (by decide) (by decide)];simp[Znt])
   ·exact(esS _ (by simp) (Qvl (by rw[e];rfl) F.lim)).bind fun t ht=>T.pure (by rw[ht,e,b1 (by omega) (by omega)];simp[Znt])
  ·rw[e];unfold Yc;exact(esS _ (by simp) (Qvl (by rw[e];rfl) F.lim)).bind fun t ht=>T.pure (by rw[ht,e,b1 (by omega) (by omega)];simp[Znt])
  ·rw[e];unfold Yc Kw;exact(esS _ (by simp) (Qsu (by rw[e];rfl) F.st F.lim)).bind fun t ht=>T.pure (by rw[ht,e,b1 (by omega) (by omega)];simp[Znt])
  ·rw[e];unfold Yc Kw Zac;simp only[Int.reduceBEq,Ocf];refine T.if ?_ ?_
   ·rw[e];exact(esS _ (by simp) (Qvl (by rfl) F.lim)).bind fun t ht=>T.pure (by rw[ht,b1 (by decide) (by decide)];simp[Znt])
   ·exact(esS _ (by simp) (Qvl (by rw[e];rfl) F.lim)).bind fun t ht=>T.pure (by rw[ht,e,b1 (by omega) (by omega)];simp[Znt])
 ·rw[if_neg hf];have hf:Wl f=false:=by simpa using hf
  rw[hf];exact T.pure rfl
theorem ap2{a b:List UInt8}{x y z:Int}(hz:x+y=z)(ha: (a.length:Int)=x)(hb: (b.length:Int)=y): (((a++b:List UInt8)).length:Int)=z:=by rw[List.length_append];omega
theorem Xeh{f:Zf}(h:FOK f):T (Zh7 f) fun r=>(r.1.length:Int)=fsz f:=by
 have h':=h;unfold FOK at h';unfold Zh7 fsz;rw[Zz4 _ (by omega),Obs];by_cases hf:Wl f=true
 ·have F:=frF hf;rw[if_pos hf,hf];simp only[Ont,Ocf,Jk];have k1: ∀k:Int,T (Yq k) fun r=>(r.1.length:Int)=1:=fun k=>T.pure rfl;have cap: ∀{a b:List UInt8} {x y:Int},(a.length:Int)=x->(b.length:Int)=y->x+y<=1000->a.length+b.length<=Zf9:=fun h1 h2 h3=>by unfold Zf9;omega
  have two: ∀(k:Int) (l:List Int),l.length<=4->(∀x∈l,fq x=true)->T (Option.bind (Yq k) fun t=>Option.bind (Zbf l) fun t2=>Zi (t.1.length+t2.1.length<=Zf9)<|some (t.1++t2.1,())) fun r=>(r.1.length:Int)=1+Znt l:=fun k l hl hq=>by
   have hb:=Qok l;exact(k1 k).bind fun t ht=>(esI l (by omega) hq).bind fun t2 ht2=>T.guard (cap ht ht2 (by omega)) (T.pure (ap2 rfl ht ht2))
  have one: ∀(k n:Int),T (Option.bind (Yq k) fun t=>Option.bind (Jw n) fun t2=>Zi (t.1.length+t2.1.length<=Zf9)<|some (t.1++t2.1,())) fun r=>(r.1.length:Int)=1+qsz n:=fun k n=>by
   have hb:=Ke n;exact(k1 k).bind fun t ht=>(enI n).bind fun t2 ht2=>T.guard (cap ht ht2 (by omega)) (T.pure (ap2 rfl ht ht2))
  have oneO: ∀b:Bool,TT (Zmb b):=fun b=>by cases b<;>exact T.tt
  rcases F.kind with e|e|e|e|e|e|e|e|e
  ·rw[e];exact(two _ _ (by simp) (Qsu F.st F.code F.fin)).mono fun y hy=>by rw[hy];simp[Znt];omega
  ·rw[e];exact(two _ _ (by simp) (Qvl F.st F.code)).mono fun y hy=>by rw[hy];simp[Znt]
  ·rw[e];simp only[Int.reduceBEq,Int.reduceEq,Ocf,Oct,if_false,if_true];have q1:=Ke f.2.1;have q2:=Ke f.2.2.1;have q3:=Ke (f.2.2.2.1.length:Int);have hlen:=F.len;have j: ∀(o:List UInt8) (x:Int),(o.length:Int)=x->x<=100->T (Zd0 f o) fun r=>(r.1.length:Int)=x+qsz f.2.2.2.1.length+f.2.2.2.1.length:=fun o x ho hx=>by
    unfold Zd0;refine(enI _).bind fun t ht=>T.guard (cap ho ht (by omega)) (T.guard ?_ (T.pure ?_))
    ·unfold Zf9;rw[List.length_append];omega
    ·exact ap2 rfl (ap2 rfl ho ht) rfl
   refine(oneO _).bind fun _ _=>(oneO _).bind fun _ _=>(k1 _).bind fun t ht=>(enI _).bind fun t2 ht2=>T.guard (cap ht ht2 (by omega)) ?_;refine T.ite (fun h=> ?_) fun h=> ?_
   ·have h0:f.2.2.1≠0:=by simpa using h
    rw[if_neg h0];refine(enI _).bind fun t3 ht3=>T.guard (cap (ap2 rfl ht ht2) ht3 (by omega)) ((j _ _ (ap2 rfl (ap2 rfl ht ht2) ht3) (by omega)).mono fun y hy=>by rw[hy];omega)
   ·have h0:f.2.2.1=0:=by simpa using h
    rw[if_pos h0];exact(j _ _ (ap2 rfl ht ht2) (by omega)).mono fun y hy=>by rw[hy];omega
  ·rw[e];unfold Y0;exact(one _ _).mono fun y hy=>by rw[hy];simp
  ·rw[e];unfold Y0 J9;simp only[Int.reduceBEq,Ocf,Oct,Jk];exact(two _ _ (by simp) (Qvl F.st F.lim)).mono fun y hy=>by rw[hy];simp[Znt]
  ·rw[e];unfold Y0 J9;simp only[Int.reduceBEq,Ocf];exact(oneO _).bind fun _ _=>(one _ _).mono fun y hy=>by rw[hy];simp
  ·rw[e];unfold Y0;exact(one _ _).mono fun y hy=>by rw[hy];simp
  ·rw[e];unfold Y0 J9;simp only[Int.reduceBEq,Ocf,Oct,Jk];exact(two _ _ (by simp) (Qvl F.st F.lim)).mono fun y hy=>by rw[hy];simp[Znt]
  ·rw[e];unfold Y0 J9;simp only[Int.reduceBEq,Ocf];exact(oneO _).bind fun _ _=>(one _ _).mono fun y hy=>by rw[hy];simp
 ·rw[if_neg hf];have hf:Wl f=false:=by simpa using hf
  rw[hf];exact T.pure rfl
theorem Q79{f:Zf}(h:FOK f):Zfp f=some (fsz f,()):=by
 obtain⟨⟨y,u⟩,e,hy⟩:=Xf0 h;unfold Zfp;rw[e,Obs,hy]
theorem Q78{f:Zf}(h:FOK f):Zia f=some (fsz f,()):=by
 obtain⟨⟨y,u⟩,e,hy⟩:=Xeh h;unfold Zia;rw[e,Obs,hy]
theorem Q9n{f:Zf}(h:Wl f=true):1<=fsz f:=by
 have F:=frF h;unfold fsz;rw[if_pos h];have a:=Ke f.2.1;have b:=Ke f.2.2.1;have c:=Ke f.2.2.2.2.2.1;have d:=Ke f.2.2.2.2.2.2.1;have e:=Ke f.2.2.2.2.2.2.2.1;have g:=Ke f.2.2.2.1.length
 repeat' split
 all_goals omega
theorem Q9d{l:List Zf}(h:Qot l):TT (Zjh l):=by
 have lp: ∀(N i:Nat) (s:List UInt8),l.length-i<N->i<=l.length->s.length<=400->TT (Za1 N s l (l.length:Int) (i:Int)):=by
  intro N
  induction N with
  |zero=>intro i s h;omega
  |succ N ih=>
   intro i s hN hi hs;have hl:=h.1;unfold Za1;refine T.ite (fun hc=> ?_) fun _=>T.tt;have hc:=Ode hc;have hf:FOK (l.getD i Qq):=h.2 _ (Z2 (by omega));have hf':=hf;unfold FOK at hf';rw[Zb (by omega),show(i:Int).toNat=i from rfl,Zz4 _ (by omega),Obs];refine T.if T.tt ((Xeh hf).bind fun t ht=> ?_);have hz:fsz (l.getD i Qq)<=1100:=by
    have a:=Ke (l.getD i Qq).2.1;have b:=Ke (l.getD i Qq).2.2.1;have c:=Ke (l.getD i Qq).2.2.2.2.2.1;have d:=Ke (l.getD i Qq).2.2.2.2.2.2.1;have e:=Ke (l.getD i Qq).2.2.2.2.2.2.2.1;have g:=Ke (l.getD i Qq).2.2.2.1.length;unfold fsz
    repeat' split
    all_goals omega
   refine T.guard (by unfold Zf9;omega) (T.ite (fun _=>T.tt) fun h4=> ?_);have h4:=of_decide_eq_false h4;rw[Zr (m:=l.length) (by omega) (by omega)];exact ih (i+1) _ (by omega) (by omega) (by omega)
 unfold Zjh;exact lp _ 0 _ (by unfold Zfd;omega) (by omega) (by simp)
theorem Qj9(s:Zo):0<=stF s/\stF s<=3:=by
 have e:=Qj8 s;unfold J5 at e;revert e;generalize stF s=k;intro e;cases hA: (s.2.2.2.2.2.2.1==3)&& (s.2.1.2.1==s.2.1.2.2.1)
 ·revert e;rw[hA];simp only[Ocf]
  repeat' (rw[Bool.cond_eq_ite];split)
  all_goals intro e;cases e;omega
 ·rw[hA]at e;cases e;omega
theorem Qxu.st{s:Zo}(h:Qxu s):0<=s.1/\s.1<=5:=by
 by_cases hc:s.1=4\/s.1=5
 ·omega
 ·have:=(h.no hc).st;have:=Qj9 s;omega
def pkD(r:Xz)(o:Int):Nat->List Int|0=>[]|n+1=>pkD r o n++ [IntKind.u8.wrap (r.2.2.2.1.getD (Int.tmod (o+n) r.1).toNat 0)]
theorem Qfm(r:Xz)(o:Int): ∀n,(pkD r o n).length=n
 |0=>rfl
 |n+1=>by simp[pkD,Qfm r o n]
theorem Q4p(a b:List Int):Jd (a++b)=Jd a++Jd b:=by simp[Jd]
structure Xbp(r:Xz):Prop where
 size:0<r.1/\r.1<=64
 len: (r.2.2.2.1.length:Int)=r.1
 b0:0<=r.2.1
 be:r.2.1<=r.2.2.1
 sz:r.2.2.1-r.2.1<=r.1
 eM:r.2.2.1<=4611686018427387903
 cell: ∀j,j<r.2.2.2.1.length->0<=r.2.2.2.1.getD j 0/\r.2.2.2.1.getD j 0<=255
theorem Q5n{r:Xz}(hl:r.2.2.2.1.length<=1048576)(h:Zrd r=true):Xbp r:=by
 obtain⟨h1,h2,h3,h4,h5,h6,h7⟩:=(Zxe r hl).2 h;exact⟨h1,h2,h3,h4,h5,h6,h7⟩
theorem Xba{r:Xz}(h:Xbp r)(o n:Nat)(ho: (o:Int)+n<=4611686018427387903)(hn:n<=64): ∀(N i:Nat),n-i<N->i<=n->Ziy N (o:Int) (n:Int) r (Jd (pkD r o i)) (i:Int)=some (Jd (pkD r o n),true,())
 |0,_,h,_=>by omega
 |N+1,i,hN,hi=>by
  unfold Ziy;by_cases hh:i<n
  ·have hm:=Qol (x:=(o:Int)+ (i:Int)) (n:=r.1) (by omega) h.size.1;have hl:=h.len;have hc:=h.cell (Int.tmod ((o:Int)+ (i:Int)) r.1).toNat (by omega)
   rw[Zp (Zm (by omega)),Zb (by have:=h.size;omega),Zv (by omega) (by omega)];simp only;rw[Zb (by omega),Xd2 hc.1 hc.2,Obs,Zb (by unfold Zf9;simp only[Z9d,Qfm,List.length_singleton];omega),Zr hh (by omega),<-Q4p];exact Xba h o n ho hn N (i+1) (by omega) (by omega)
  ·have:i=n:=by omega
   rw[Zl (Zj (by omega)),this]
theorem Xa9{r:Xz}(h:Xbp r)(o n:Nat)(ho: (o:Int)+n<=4611686018427387903)(hn:n<=64): ∀(N i:Nat),n-i<N->i<=n->Zie N (o:Int) r (pkD r o i) (n:Int) (i:Int)=some (Jd (pkD r o n),true,())
 |0,_,h,_=>by omega
 |N+1,i,hN,hi=>by
  unfold Zie;by_cases hh:i<n
  ·have hm:=Qol (x:=(o:Int)+ (i:Int)) (n:=r.1) (by omega) h.size.1;have hl:=h.len;rw[Zp (Zm (by omega)),Zb (by have:=h.size;omega),Zv (by omega) (by omega)];simp only;rw[Zb (by omega),Zb (by unfold Qg;simp only[Qfm,List.length_singleton];omega),Zr hh (by omega)];exact Xa9 h o n ho hn N (i+1) (by omega) (by omega)
  ·have:i=n:=by omega
   rw[Zl (Zj (by omega)),this]
theorem Qyr{r:Xz}(hl:r.2.2.2.1.length<=1048576):Zph r=some (Zrd r,()):=by rw[Q3i r hl,(Zxe r hl).1]
theorem Xe0{r:Xz}(hl:r.2.2.2.1.length<=1048576)(h:Zrd r=true){o n:Int}(h1:r.2.1<=o)(h2:0<=n)(h3:o+n<=r.2.2.1):Zk0 r o n=some (Jd (pkD r o n.toNat),true,()):=by
 have F:=Q5n hl h;have:=F.b0;have:=F.sz;have:=F.eM;have:=F.size
 unfold Zk0;rw[(Zxe r hl).1,h,Obs,Zj (p:=o<r.2.1) (by omega),Zj (p:=n<0) (by omega),Zj (p:=o>r.2.2.1) (by omega),Zv (by omega) (by omega),Zj (p:=n>r.2.2.1-o) (by omega)];obtain⟨a,rfl⟩:=Int.eq_ofNat_of_zero_le (show 0<=o by omega);obtain⟨b,rfl⟩:=Int.eq_ofNat_of_zero_le h2;exact Xba F a b (by omega) (by omega) _ 0 (by unfold Zlf;omega) (by omega)
theorem Xez{r:Xz}(hl:r.2.2.2.1.length<=1048576)(h:Zrd r=true){o n:Int}(h1:r.2.1<=o)(h2:0<=n)(h3:o+n<=r.2.2.1):Zks r o n=some (Jd (pkD r o n.toNat),true,()):=by
 have F:=Q5n hl h;have:=F.b0;have:=F.sz;have:=F.eM;have:=F.size
 unfold Zks;rw[Qyr hl,h,Obs,Zj (p:=n<0) (by omega),Znj,Zv (by omega) (by omega),Zj (p:=n>r.2.2.1-o) (by omega),Zm (p:=o>=r.2.1) (by omega),Zm (p:=o<=r.2.2.1) (by omega)];obtain⟨a,rfl⟩:=Int.eq_ofNat_of_zero_le (show 0<=o by omega);obtain⟨b,rfl⟩:=Int.eq_ofNat_of_zero_le h2;exact Xa9 F a b (by omega) (by omega) _ 0 (by unfold Zk7;omega) (by omega)
abbrev Kb(s:Zo):Zc:=s.2.2.1.getD 0 Zw
noncomputable def Z7d(s:Zo)(limit:Int):Prop:=(Ztn s=true/\s.1<=2)/\((s.2.2.1=[]/\s.2.2.2.2.2.2.1=1)\/(s.2.2.1≠[]/\(Kb s).1<min (Kb s).2.1 limit))
def npN(s:Zo)(most limit:Int):Int:=min most (min (Kb s).2.1 limit- (Kb s).1)
def pkV(r:Xz)(o:Int)(n:Nat):List UInt8:=if r.2.1<=o then Jd (pkD r o n)else[]
theorem Q3w(r:Xz)(o:Int)(n:Nat): (pkV r o n).length<=n:=by
 unfold pkV;split
 ·rw[Z9d,Qfm];omega
 ·simp
theorem Xcm{r:Xz}(hl:r.2.2.2.1.length<=1048576)(h:Zrd r=true){o n:Int}(h2:0<=n)(h3:o+n<=r.2.2.1): ∃b,Zk0 r o n=some (pkV r o n.toNat,b,()):=by
 unfold pkV;by_cases h1:r.2.1<=o
 ·rw[if_pos h1];exact⟨_,Xe0 hl h h1 h2 h3⟩
 ·rw[if_neg h1];unfold Zk0;rw[(Zxe r hl).1,h,Obs,Zm (p:=o<r.2.1) (by omega)];simp
theorem Xcl{r:Xz}(hl:r.2.2.2.1.length<=1048576)(h:Zrd r=true){o n:Int}(h2:0<=n)(h3:o+n<=r.2.2.1): ∃b,Zks r o n=some (pkV r o n.toNat,b,()):=by
 unfold pkV;by_cases h1:r.2.1<=o
 ·rw[if_pos h1];exact⟨_,Xez hl h h1 h2 h3⟩
 ·rw[if_neg h1];unfold Zks;rw[Qyr hl,h,Obs,Zj (p:=n<0) (by omega),Znj,Zj (p:=o>=r.2.1) (by omega)];simp
noncomputable def npP(s:Zo)(most limit:Int):Z9:=if s.2.2.1=[]then(s.2.2.2.2.2.1,([],(true,())))else((Kb s).1,(pkV s.2.1 (Kb s).1 (npN s most limit).toNat,((s.2.2.2.2.2.2.1==(1:Int))&& ((Kb s).1+npN s most limit==s.2.2.2.2.2.1),())))
theorem Qk6{K:Int}{s:Zo}(h:Kk K s)(hp:s.2.2.1≠[]):0<=(Kb s).1/\(Kb s).1< (Kb s).2.1/\(Kb s).2.1<=s.2.1.2.2.1:=by
 have hl:0<s.2.2.1.length:=List.length_pos_iff.2 hp;have hm:Kb s∈s.2.2.1:=Z2 (d:=Zw) hl;have:=Qs.1 (Zoq h.pend.1 _ hm).2;have:=h.pend.2 _ hm;exact⟨by omega,by omega,this⟩
open Classical in
noncomputable def npR(s:Zo)(most limit:Int):Z9×Bool×Unit:=if Z7d s limit then(npP s most limit,true,())else(Zc2,false,())
theorem Xer{K:Int}{s:Zo}(h:Kk K s)(hK:K<=1000000){most limit:Int}(hm:1<=most)(hl:0<=limit):Zqw s most limit=some (npR s most limit):=by
 have hc:=h.cells;unfold Zqw npR;rw[Q5v h hK,Obs];by_cases ha:Ztn s=true/\s.1<=2
 ·have F:=(Qnu h hK).1 ha.1;rw[ha.1,Zj (p:=s.1>2) (by omega)];simp only[Ont,Bool.or_self,Ocf];by_cases hp:s.2.2.1=[]
  ·rw[hp];simp only[List.length_nil,Int.natCast_zero,gt_iff_lt,Int.lt_irrefl,decide_false,Ocf];by_cases hf:s.2.2.2.2.2.2.1=1
   ·rw[if_pos ⟨ha,.inl ⟨hp,hf⟩⟩];unfold npP;rw[if_pos hp,hf];rfl
   ·rw[if_neg (fun hn=>by rcases hn.2 with hn|hn;exact hf hn.2;exact hn.1 hp),beq_false_of_ne hf];rfl
  ·have hlen:0<s.2.2.1.length:=List.length_pos_iff.2 hp;obtain⟨p0,p1,p2⟩:=Qk6 h hp;have hr:=(Q5n (by omega) F.ring).eM;have z1: (Kb s).1=(s.2.2.1.getD 0 Zw).1:=rfl;have z2: (Kb s).2.1=(s.2.2.1.getD 0 Zw).2.1:=rfl;rw[Zp (Zm (by omega)),Zb (by omega),show(0:Int).toNat=0 from rfl];by_cases hlo:min (Kb s).2.1 limit<=(Kb s).1
   ·rw[Zp (Zm hlo),if_neg (fun hn=>by rcases hn.2 with hn|hn;exact hp hn.1;have:=hn.2;omega)]
   ·rw[Zl (Zj hlo),if_pos ⟨ha,.inr ⟨hp,by omega⟩⟩];have j: ∀hi:Int,hi=(Kb s).1+npN s most limit->Zha s Zc2 (s.2.2.2.2.2.1,(([]:List UInt8),(s.2.2.2.2.2.2.1==(1:Int),()))) (Kb s) hi=some (npP s most limit,true,()):=fun hi e=>by
     have hn:1<=npN s most limit/\(Kb s).1+npN s most limit<=(Kb s).2.1:=by unfold npN;omega
     unfold Zha;rw[Zl (Zj (by omega)),Zv (by omega) (by omega),show hi- (Kb s).1=npN s most limit by omega];obtain⟨b,eb⟩:=Xcm (r:=s.2.1) (by omega) F.ring (o:=(Kb s).1) (n:=npN s most limit) (by omega) (by omega);rw[eb,Obs];unfold npP;rw[if_neg hp,e]
    by_cases hb:most<min (Kb s).2.1 limit- (Kb s).1
    ·rw[Zv (by omega) (by omega),Zp (Zm hb),Zv (by omega) (by omega)];exact j _ (by unfold npN;omega)
    ·rw[Zv (by omega) (by omega),Zl (Zj hb)];exact j _ (by unfold npN;omega)
 ·rw[if_neg (fun hn=>ha hn.1)];have: (!Ztn s||decide (s.1>2))=true:=by
   cases hb:Ztn s
   ·rfl
   ·have: ¬s.1<=2:=fun h=>ha ⟨hb,h⟩;rw[Zm (by omega)];rfl
  rw[this];rfl
theorem Xeq{K:Int}{s:Zo}(h:Kk K s)(hK:K<=1000000){most limit:Int}(hm:1<=most)(hl:0<=limit)(hM:most<=1000):Zp3 s most limit=some (npR s most limit):=by
 have hc:=h.cells;unfold Zp3 Zn0 npR;rw[Qif h hK,Q5v h hK,Obs];simp only[Znj,bA,bA2,Obs];by_cases ha:Ztn s=true/\s.1<=2
 ·have F:=(Qnu h hK).1 ha.1;rw[ha.1,Zm (p:=s.1<=2) (by omega),Zm (p:=s.1>=0) F.st.1];simp only[Bool.and_self,Ont,Ocf];by_cases hp:s.2.2.1=[]
  ·rw[hp];simp only[List.length_nil,Int.natCast_zero,BEq.rfl,Oct];by_cases hf:s.2.2.2.2.2.2.1=1
   ·have hfin:=(F.no (by omega)).fin;unfold Qh4 at hfin;have h0:0<=s.2.2.2.2.2.1/\s.2.2.2.2.2.1<=K:=by
     simp only[hf,Bool.not_or,Bool.not_not,Oba,Bool.not_eq_true',Bool.and_eq_false_iff,bne_eq_false_iff_eq,beq_iff_eq]at hfin;obtain⟨a,b⟩:=hfin;have he:=h.eK;have h0:=h.e0
     rcases b with b|b
     ·rw[b]at a;cases a
     ·omega
    rw[if_pos ⟨ha,.inl ⟨hp,hf⟩⟩];unfold npP;rw[if_pos hp,hf];simp only[Zmb,BEq.rfl,Oct,Obs];rw[Zv (by omega) (by omega),show max s.2.2.2.2.2.1 0*1=s.2.2.2.2.2.1 by omega]
   ·rw[if_neg (fun hn=>by rcases hn.2 with hn|hn;exact hf hn.2;exact hn.1 hp),beq_false_of_ne hf];simp only[Zmb,Ocf,Obs,Int.mul_zero];rfl
  ·have hlen:0<s.2.2.1.length:=List.length_pos_iff.2 hp;obtain⟨p0,p1,p2⟩:=Qk6 h hp;have hr:=(Q5n (by omega) F.ring).eM;have z1: (Kb s).1=(s.2.2.1.getD 0 Zw).1:=rfl;have z2: (Kb s).2.1=(s.2.2.1.getD 0 Zw).2.1:=rfl;have hz: (((s.2.2.1.length:Nat):Int)==0)=false:=by simp;exact hp
   rw[Zl hz,Zb (by omega),show(0:Int).toNat=0 from rfl,Zv (n:=(s.2.2.1.getD 0 Zw).2.1- (s.2.2.1.getD 0 Zw).1) (by omega) (by omega)];by_cases hlo:limit<=(Kb s).1
   ·rw[Zp (Zm hlo),if_neg (fun hn=>by rcases hn.2 with hn|hn;exact hp hn.1;have:=hn.2;omega)]
   ·rw[Zl (Zj hlo),if_pos ⟨ha,.inr ⟨hp,by omega⟩⟩];have j: ∀n:Int,n=npN s most limit->Zgx s Zc2 (Kb s) n=some (npP s most limit,true,()):=fun n e=>by
     have hn:1<=npN s most limit/\(Kb s).1+npN s most limit<=(Kb s).2.1:=by unfold npN;omega
     subst e;unfold Zgx;rw[Zl (Zj (by omega)),Zv (by omega) (by omega)];obtain⟨b,eb⟩:=Xcl (r:=s.2.1) (by omega) F.ring (o:=(Kb s).1) (n:=npN s most limit) (by omega) (by omega);rw[eb,Obs];unfold npP;rw[if_neg hp]
    by_cases hb:limit< (Kb s).1+min ((Kb s).2.1- (Kb s).1) most
    ·rw[Zv (by omega) (by omega),Zp (Zm hb),Zv (by omega) (by omega)];exact j _ (by unfold npN;omega)
    ·rw[Zv (by omega) (by omega),Zl (Zj hb)];exact j _ (by unfold npN;omega)
 ·rw[if_neg (fun hn=>ha hn.1)];have: (!(Ztn s&& (decide (s.1>=0)&&decide (s.1<=2))))=true:=by
   cases hb:Ztn s
   ·rfl
   ·have: ¬s.1<=2:=fun h=>ha ⟨hb,h⟩;rw[Zj (p:=s.1<=2) (by omega),Bool.and_false];rfl
  rw[this];rfl
theorem Z6f{s:Zo}{most limit:Int}(hm:most<=60): (npP s most limit).2.1.length<=60:=by
 unfold npP;split
 ·simp
 ·have:=Q3w s.2.1 (Kb s).1 (npN s most limit).toNat
  have:npN s most limit<=most:=by unfold npN;omega
  simp only;omega
abbrev pfF(id:Int)(p:Z9):Zf:=((8:Int),(id,(p.1,(p.2.1,(p.2.2.1,((0:Int),((0:Int),((0:Int),(false,())))))))))
theorem Xcn{K:Int}{s:Zo}(h:Kk K s)(hK:K<=1000000){id most limit:Int}(hi:0<=id/\id<=4611686018427387903)(hm:1<=most/\most<=60)(hn:Z7d s limit):Wl (pfF id (npP s most limit))=true:=by
 have F:=(Qnu h hK).1 hn.1.1;have hc:=h.cells;have hr:=(Q5n (by omega) F.ring).eM;have hq:fq id=true:=by unfold fq;simp;omega
 have hlen:=Z6f (s:=s) (limit:=limit) hm.2;have ho:0<=(npP s most limit).1/\(npP s most limit).1+ (npP s most limit).2.1.length<=4611686018427387903:=by
  unfold npP;by_cases hp:s.2.2.1=[]
  ·rw[if_pos hp];rcases hn.2 with⟨-,hf⟩| ⟨hx,-⟩
   ·have hfin:=(F.no (by have:=hn.1.2;omega)).fin;unfold Qh4 at hfin;simp only[hf,Bool.not_or,Bool.not_not,Oba,Bool.not_eq_true',Bool.and_eq_false_iff,bne_eq_false_iff_eq,beq_iff_eq]at hfin;obtain⟨a,b⟩:=hfin;have he:=h.eK;have h0:=h.e0
    rcases b with b|b
    ·rw[b]at a;cases a
    ·simp only[List.length_nil];omega
   ·exact absurd hp hx
  ·rw[if_neg hp];obtain⟨p0,p1,p2⟩:=Qk6 h hp;have a:=Q3w s.2.1 (Kb s).1 (npN s most limit).toNat
   have b:npN s most limit<=(Kb s).2.1- (Kb s).1/\npN s most limit<=most:=by unfold npN;omega
   rcases hn.2 with⟨hx,-⟩| ⟨-,hx⟩
   ·exact absurd hx hp
   ·have c:1<=npN s most limit:=by unfold npN;omega
    simp only;omega
 unfold Wl Xn fq;simp;omega
noncomputable def pfL(s:Zo)(id room limit:Int):Nat->Z9×Bool×Unit|0=>(Zc2,false,())|m+1=>if fsz (pfF id (npP s ((m+1:Nat):Int) limit))<=room then(npP s ((m+1:Nat):Int) limit,true,())else pfL s id room limit m
open Classical in
noncomputable def pfR(s:Zo)(id room limit:Int)(m:Nat):Z9×Bool×Unit:=if Z7d s limit then pfL s id room limit m else(Zc2,false,())
theorem Q3v{K:Nat}{s:Zh}(h:Vy K s)(hK:K<=1000000){id room limit:Int}(hi:0<=id/\id<=4611686018427387903)(hl:0<=limit)(t:Z9): ∀(N m:Nat),m<N->m<=60->Ze4 N id room t s limit (m:Int)=some (pfR s.2.1 id room limit m)
 |0,_,h,_=>by omega
 |N+1,0,_,_=>by
  unfold Ze4 pfR;rw[Zl (Zj (by omega))];split<;>rfl
 |N+1,m+1,hN,hm=>by
  unfold Ze4;rw[Zp (Zm (by omega)),Xer h.snd (by omega) (by omega) hl,Obs];have ih:=Q3v h hK hi hl t N m (by omega) (by omega) (room:=room);unfold npR pfR;by_cases hn:Z7d s.2.1 limit
  ·rw[if_pos hn,if_pos hn];have hs:FOK (pfF id (npP s.2.1 ((m+1:Nat):Int) limit)):=by unfold FOK;have:=Z6f (s:=s.2.1) (limit:=limit) (show((m+1:Nat):Int)<=60 by omega);simp only;omega
   simp only[Ont,Ocf,Zkd,Obs];rw[Q79 hs,Obs,pfL];by_cases hr:fsz (pfF id (npP s.2.1 ((m+1:Nat):Int) limit))<=room
   ·rw[Zp (Zm hr),if_pos hr]
   ·rw[Zl (Zj hr),if_neg hr,show IntKind.i64.wrap (((m+1:Nat):Int)-1)=(m:Int) by rw[Zv (by omega) (by omega)];omega,ih];unfold pfR;rw[if_pos hn]
  ·rw[if_neg hn,if_neg hn];rfl
theorem Q3u{K:Nat}{s:Zh}(h:Vy K s)(hK:K<=1000000){id room limit:Int}(hi:0<=id/\id<=4611686018427387903)(hl:0<=limit)(t:Z9): ∀(N m:Nat),m<N->m<=60->Zev N id room t s limit (m:Int)=some (pfR s.2.1 id room limit m)
 |0,_,h,_=>by omega
 |N+1,0,_,_=>by
  unfold Zev pfR;rw[Zl (Zj (by omega))];split<;>rfl
 |N+1,m+1,hN,hm=>by
  unfold Zev;rw[Zp (Zm (by omega)),Xeq h.snd (by omega) (by omega) hl (by omega),Obs];have ih:=Q3u h hK hi hl t N m (by omega) (by omega) (room:=room);have e1:IntKind.i64.wrap (((m+1:Nat):Int)-1)=(m:Int):=by rw[Zv (by omega) (by omega)];omega
  unfold npR pfR;by_cases hn:Z7d s.2.1 limit
  ·rw[if_pos hn,if_pos hn];have hs:FOK (pfF id (npP s.2.1 ((m+1:Nat):Int) limit)):=by unfold FOK;have:=Z6f (s:=s.2.1) (limit:=limit) (show((m+1:Nat):Int)<=60 by omega);simp only;omega
   have hp:=Q9n (Xcn h.snd (by omega) hi (most:=((m+1:Nat):Int)) (by omega) hn);simp only[Oct,Zgi,Obs];rw[Q78 hs,Obs,Znj,Obs,pfL,Zm (p:=fsz _>=1) (by omega)];by_cases hr:fsz (pfF id (npP s.2.1 ((m+1:Nat):Int) limit))<=room
   ·rw[Zm hr,if_pos hr];rfl
   ·rw[Zj hr,if_neg hr,e1,ih];unfold pfR;rw[if_pos hn];rfl
  ·rw[if_neg hn,if_neg hn,e1,ih];unfold pfR;rw[if_neg hn];rfl
theorem Qpo(c:X7):Zkb c=some (bif Zsj c then c.1-c.2.1 else 0,()):=by
 unfold Zkb;rw[Qx6,Obs];cases h:Zsj c
 ·rfl
 ·obtain⟨h1,h2,h3,-,-,-,-⟩:=Z3c.1 h;simp only[Ont,Ocf,Oct];rw[Zv (by omega) (by omega)]
def Zly(c:Ze)(s:Zh):Int:=min s.2.2.1.1 (s.2.1.2.2.2.2.2.2.2.1+ (c.2.2.2.2.1.1-c.2.2.2.2.1.2.1))
open Classical in
noncomputable def pcR(c:Ze)(id room:Int):Z9×Bool×Unit:=if(Zc3 c=true/\0<=Qx c.2.2.2.1 id)/\(c.2.2.2.1.getD (Qx c.2.2.2.1 id).toNat Zn).2.2.2.2.2.2.1=true/\3<=room then pfR (c.2.2.2.1.getD (Qx c.2.2.2.1 id).toNat Zn).2.1 id room (Zly c (c.2.2.2.1.getD (Qx c.2.2.2.1 id).toNat Zn)) (min room 60).toNat else(Zc2,false,())
theorem Q3k{K:Nat}{c:Ze}(h:Xx K c)(hK:K<=1000000)(hc:Zc3 c=true){s:Zh}(hs:s∈c.2.2.2.1):0<=Zly c s/\IntKind.i64.wrap (s.2.1.2.2.2.2.2.2.2.1+ (c.2.2.2.2.1.1-c.2.2.2.2.1.2.1))=s.2.1.2.2.2.2.2.2.2.1+ (c.2.2.2.2.1.1-c.2.2.2.2.1.2.1):=by
 have C:=(Z3b h hK).1 hc;have S:=C.st h hK hs;obtain⟨h1,h2,h3,-,-,-,-⟩:=Z3c.1 C.tot;obtain⟨g1,g2,g3,-,-,-,-⟩:=S.cre;have a:=S.snd.sent;have b:=(h.str.all _ hs).snd.eK;unfold Zly;exact⟨by omega,Zv (by omega) (by omega)⟩
theorem Q5h{K:Nat}{c:Ze}(h:Xx K c)(hK:K<=1000000)(id room:Int):Zsc c id room=some (pcR c id room):=by
 have hl:=h.str.len;obtain⟨h1,-,h3⟩:=Zo5 (l:=c.2.2.2.1) (by omega) id;unfold Zsc pcR;rw[Zun h hK,Obs,Qx5 h hK,Obs];by_cases hi:0<=Qx c.2.2.2.1 id
 ·rw[if_pos hi];have hm:=Z2 (d:=Zn) (show(Qx c.2.2.2.1 id).toNat<c.2.2.2.1.length by omega);have h3:=h3 hi;generalize c.2.2.2.1.getD (Qx c.2.2.2.1 id).toNat Zn=s at*
  by_cases hc: (Zc3 c=true/\0<=Qx c.2.2.2.1 id)/\s.2.2.2.2.2.2.1=true/\3<=room
  ·obtain⟨l1,l2⟩:=Q3k h hK hc.1.1 hm;have S:=((Z3b h hK).1 hc.1.1).st h hK hm;have hid:=S.id;rw[if_pos hc,hc.1.1,hc.2.1,Zj (p:=room<3) (by omega),Qpo,Obs,((Z3b h hK).1 hc.1.1).tot];simp only[Ont,Bool.or_self,Ocf,Oct];rw[l2,show min room (60:Int)=((min room 60).toNat:Int) by omega];exact Q3v (h.str.all _ hm) hK (by omega) l1 _ _ _ (by unfold Zlg;omega) (by omega)
  ·rw[if_neg hc];have: (((!Zc3 c|| !true)|| !s.2.2.2.2.2.2.1)||decide (room<3))=true:=by
    cases hA:Zc3 c
    ·rfl
    ·cases hB:s.2.2.2.2.2.2.1
     ·rfl
     ·have: ¬3<=room:=fun h=>hc ⟨⟨hA,hi⟩,hB,h⟩;rw[Zm (by omega)];rfl
   simp only;rw[this];rfl
 ·rw[if_neg hi,if_neg (fun h=>hi h.1.2)];simp
theorem Q5g{K:Nat}{c:Ze}(h:Xx K c)(hK:K<=1000000)(id room:Int):Zr1 c id room=some (pcR c id room):=by
 have hl:=h.str.len;obtain⟨h1,-,h3⟩:=Zo5 (l:=c.2.2.2.1) (by omega) id;unfold Zr1 pcR;rw[Qyi (by omega),Qwf (by omega),Obs,Qn9 h hK,Qx5 h hK,Obs];by_cases hi:0<=Qx c.2.2.2.1 id
 ·rw[Zj (p:=Qx c.2.2.2.1 id<0) (by omega)];have hm:=Z2 (d:=Zn) (show(Qx c.2.2.2.1 id).toNat<c.2.2.2.1.length by omega);have h3:=h3 hi;simp only;rw[Zb (fun _=>by omega)];generalize c.2.2.2.1.getD (Qx c.2.2.2.1 id).toNat Zn=s at*
  by_cases hc: (Zc3 c=true/\0<=Qx c.2.2.2.1 id)/\s.2.2.2.2.2.2.1=true/\3<=room
  ·obtain⟨l1,l2⟩:=Q3k h hK hc.1.1 hm;have S:=((Z3b h hK).1 hc.1.1).st h hK hm;have hid:=S.id;rw[if_pos hc,hc.1.1,hc.2.1,Zj (p:=room<3) (by omega),Qkv,Qpo,Obs,((Z3b h hK).1 hc.1.1).tot];simp only[Ont,Bool.or_self,Ocf,Oct];rw[Zb (by omega),l2,show min (60:Int) room=((min room 60).toNat:Int) by omega];exact Q3u (h.str.all _ hm) hK (by omega) l1 _ _ _ (by unfold Zk8;omega) (by omega)
  ·rw[if_neg hc];have: (((!Zc3 c||false)|| !s.2.2.2.2.2.2.1)||decide (room<3))=true:=by
    cases hA:Zc3 c
    ·rfl
    ·cases hB:s.2.2.2.2.2.2.1
     ·rfl
     ·have: ¬3<=room:=fun h=>hc ⟨⟨hA,hi⟩,hB,h⟩;rw[Zm (by omega)];rfl
   rw[this];rfl
 ·rw[if_neg (fun h=>hi h.1.2),Zm (p:=Qx c.2.2.2.1 id<0) (by omega)];simp only[Bool.or_true];rw[Zb (fun h=>by cases h)];simp
theorem Q0i(r:Zc): ∀(N:Nat) (pre rest:List Zc) (out:List Zc),(pre++rest).length<=1048576->rest.length<N->out.length<=pre.length->
  V0 N [r] out (pre++rest) ((pre++rest).length:Int) (pre.length:Int)=some (out++rest.flatMap fun x=>[r].flatMap (Zvs x),())
 |0,_,_,_,_,h,_=>by omega
 |N+1,pre,[],out,hl,hN,ho=>by
  unfold V0;rw[Zl (by simp)];simp
 |N+1,pre,x::rest,out,hl,hN,ho=>by
  have hlen: (pre++x::rest).length=pre.length+rest.length+1:=by simp;omega
  simp only[List.length_cons]at hN;have es: (pre++ [x])++rest=pre++x::rest:=by simp
  have el: ((pre++ [x]).length:Int)=((pre.length+1:Nat):Int):=by simp
  have hs:IntKind.i64.wrap ((pre.length:Int)+1)=((pre.length+1:Nat):Int):=Zr (m:=pre.length+1) (by omega) (by omega);unfold V0;rw[Zp (Zm (by rw[hlen];omega)),Zb (by rw[hlen];omega),Vh];rw[show Zgd [r] out x (pre++x::rest) ((pre++x::rest).length:Int) (pre.length:Int) [r] (([r]:List Zc).length:Int) 0=2 from rfl];unfold Jm;rw[Zp (Zm (by simp)),Zb (by simp)];have hz: ([r]:List Zc).getD (0:Int).toNat Zw=r:=rfl;simp only[hz];have w1:IntKind.i64.wrap ((0:Int)+1)=1:=rfl;by_cases h:max x.1 r.1<min x.2.1 r.2.1
  ·rw[Zp (Zm h),Zb (by unfold Qg;simp only[List.length_singleton];omega),w1];unfold Jm;rw[Zl (Zj (by simp))];simp only[hs];have ih:=Q0i r N (pre++ [x]) rest (out++ [(max x.1 r.1,min x.2.1 r.2.1,())]) (by simp;omega) (by omega) (by simp;omega);rw[es,el]at ih;have hc:Zvs x r=[(max x.1 r.1,min x.2.1 r.2.1,())]:=if_pos h;rw[ih];simp[hc]
  ·rw[Zl (Zj h),w1];unfold Jm;rw[Zl (Zj (by simp))];simp only[hs];have ih:=Q0i r N (pre++ [x]) rest out (by simp;omega) (by omega) (by simp;omega);rw[es,el]at ih;have hc:Zvs x r=[]:=if_neg h;rw[ih];simp[hc]
def Zxt(l:List Zc)(r:Zc):List Zc:=if rsB (-1) l=true/\rsB (-1) [r]=true then l.flatMap fun x=>[r].flatMap (Zvs x)else[]
theorem Xfv(l:List Zc)(r:Zc)(hl:l.length<=1048576):Wu l [r]=some (Zxt l r,()):=Ztw l [r] hl (by simp)
theorem Xfu(l:List Zc)(r:Zc)(hl:l.length<=1048576):Zgw l [r]=some (Zxt l r,()):=by
 unfold Zgw Zxt;rw[Zul l hl,Zul [r] (by simp),Obs];cases h1:rsB (-1) l
 ·simp
 ·cases h2:rsB (-1) [r]
  ·simp
  ·simp only[Ont,Ocf,Obs,Bool.or_self,and_self,if_true];have:=Q0i r (Zar [r] [] l (l.length:Int) 0) [] l [] (by simpa using hl) (by unfold Zar;omega) (by simp);simpa using this
def eq1(l:List Zc)(r:Zc):Bool:=((l.length:Int)==1)&&eqV (Zt) (l.getD 0 Zw) r
theorem Xfy(l:List Zc)(r:Zc):Zh9 l [r]=some (eq1 l r,()):=by
 unfold Zh9 Vs eq1;by_cases h: (l.length:Int)=1
 ·have e1: ((l.length:Int) !=(([r]:List Zc).length:Int))=false:=by simp;omega
  rw[e1,h];simp only[Ocf,BEq.rfl,Ota];rw[show Kg l [r] 1 0=2 from rfl];unfold Yw;rw[Zp (by decide),Zb (by omega),Zb (by simp),show(0:Int).toNat=0 from rfl,show([r]:List Zc).getD 0 Zw=r from rfl];cases eqV (Zt) (l.getD 0 Zw) r
  ·rfl
  ·rfl
 ·have e1: ((l.length:Int) !=(([r]:List Zc).length:Int))=true:=by simp;omega
  rw[e1,beq_false_of_ne h];rfl
def Q1q(l:List Zc)(r:Zc):List Zc:=if rsB (-1) l=true/\Zdf r=true then Zs0 r l else l
def Q81(l:List Zc)(r:Zc):List Zc:=if rsB (-1) l=true/\Zdf r=true then Zh3 l r else l
theorem Qjo: ∀(N:Nat) (pre rest:List Zc) (r:Zc) (out:List Zc),(pre++rest).length<=1048576->rest.length<N->out.length<=2*pre.length->
  Kv N r out (pre++rest) ((pre++rest).length:Int) (pre.length:Int)=some (out++Zs0 r rest,())
 |0,_,_,_,_,_,h,_=>by omega
 |N+1,pre,[],r,out,hl,hN,ho=>by
  unfold Kv;rw[Zl (by simp)];simp[Zs0]
 |N+1,pre,x::rest,r,out,hl,hN,ho=>by
  have hlen: (pre++x::rest).length=pre.length+rest.length+1:=by simp;omega
  simp only[List.length_cons]at hN;have es: (pre++ [x])++rest=pre++x::rest:=by simp
  have el: ((pre++ [x]).length:Int)=((pre.length+1:Nat):Int):=by simp
  have j1: ∀out1:List Zc,out1.length<=2*pre.length+1->Zd2 (fun v=>Kv N v.1 v.2.1 v.2.2.1 v.2.2.2.1 v.2.2.2.2.1) r out1 x (pre++x::rest) ((pre++x::rest).length:Int) (pre.length:Int)=some (out1++ (if max x.1 r.2.1<x.2.1 then[(max x.1 r.2.1,x.2.1,())]else[])++Zs0 r rest,()):=by
   intro out1 ho1;unfold Zd2;rw[Zr (m:=pre.length+1) (by omega) (by omega)];by_cases h:max x.1 r.2.1<x.2.1
   ·rw[Zp (Zm h),if_pos h,Zb (by unfold Qg;simp;omega)];have ih:=Qjo N (pre++ [x]) rest r (out1++ [(max x.1 r.2.1,x.2.1,())]) (by simp;omega) (by omega) (by simp;omega);rw[es,el]at ih;simp only[ih]
   ·rw[Zl (Zj h),if_neg h];have ih:=Qjo N (pre++ [x]) rest r out1 (by simp;omega) (by omega) (by simp;omega);rw[es,el]at ih;simp only[ih];simp
  unfold Kv;rw[Zp (Zm (by rw[hlen];omega)),Zb (by rw[hlen];omega),Vh];by_cases h:x.1<min x.2.1 r.1
  ·rw[Zp (Zm h),Zb (by unfold Qg;simp;omega),j1 _ (by simp;omega)];simp[Zs0,Qx7,h]
  ·rw[Zl (Zj h),j1 _ (by omega)];simp[Zs0,Qx7,h]
theorem Qxd(l:List Zc)(r:Zc)(hl:l.length<=1048576):Zm3 l r=some (Q1q l r,()):=by
 unfold Zm3 Q1q;rw[Zul l hl,Obs];cases h1:rsB (-1) l
 ·simp[Zl1 l hl]
 ·simp only[Ont,Ocf,Qbw,Obs,Bool.false_or];cases h2:Zdf r
  ·simp[Zl1 l hl]
  ·have:=Qjo (Zb1 r [] l (l.length:Int) 0) [] l r [] (by simpa using hl) (by unfold Zb1;omega) (by simp);simp only[Ont,Ocf,and_self,if_true];exact this
def Qib(s:Zo)(p:Z9):Bool:=(((decide (p.1>=(0:Int)))&& (decide (p.1<=s.2.1.2.2.1)))&& (decide ((p.2.1.length:Int)<=(IntKind.i64.wrap (s.2.1.2.2.1-p.1)))))&& ((!p.2.2.1)|| ((s.2.2.2.2.2.1 !=(-1:Int))&& ((IntKind.i64.wrap (p.1+ (p.2.1.length:Int)))==s.2.2.2.2.2.1)))
theorem Xf3(s:Zo)(p:Z9):Zni s p=some (Qib s p,()):=rfl
theorem Xf2{K:Int}{s:Zo}(h:Kk K s)(hK:K<=1000000)(p:Z9):Zr6 s p=some (Qib s p,()):=by
 have h0:=h.e0;have h1:=h.eK
 unfold Zr6 Qib;by_cases a:0<=p.1
 ·by_cases b:p.1<=s.2.1.2.2.1
  ·by_cases c: (p.2.1.length:Int)<=s.2.1.2.2.1-p.1
   ·have hw:IntKind.i64.wrap (p.1+ (p.2.1.length:Int))=p.1+ (p.2.1.length:Int):=Zv (by omega) (by omega);rw[Zv (n:=s.2.1.2.2.1-p.1) (by omega) (by omega),hw,Zj (p:=p.1<0) (by omega),Zj (p:=p.1>s.2.1.2.2.1) (by omega),Zj (p:=(p.2.1.length:Int)>s.2.1.2.2.1-p.1) (by omega),Zm (p:=p.1>=0) a,Zm b,Zm c];simp only[Bool.or_self,Ocf,Bool.and_self,Ota];by_cases d:p.1+ (p.2.1.length:Int)=s.2.2.2.2.2.1
    ·have: (s.2.2.2.2.2.1 != -1)=true:=by simp;omega
     rw[this,Ota]
    ·rw[beq_false_of_ne d,Bool.and_false]
   ·rw[Zv (n:=s.2.1.2.2.1-p.1) (by omega) (by omega),Zj c,Zm (p:=(p.2.1.length:Int)>s.2.1.2.2.1-p.1) (by omega)];simp
  ·rw[Zj (p:=p.1<=s.2.1.2.2.1) b,Zm (p:=p.1>s.2.1.2.2.1) (by omega)];simp
 ·rw[Zj (p:=p.1>=0) a,Zm (p:=p.1<0) (by omega)];simp
abbrev rgP(p:Z9):Zc:=(p.1,(IntKind.i64.wrap (p.1+ (p.2.1.length:Int)),()))
noncomputable def spG(s:Zo)(p:Z9):Bool:=(((Ztn s&&decide (s.1<=2))&&Qib s p)&& !((p.2.1==([]:List UInt8))&& (!p.2.2.1)))&& !(p.2.2.1&& (s.2.2.2.2.2.2.1 !=(1:Int)))
noncomputable def Zt8(s:Zo)(p:Z9):Bool:=spG s p&& ((p.2.1==([]:List UInt8))||eq1 (Zxt s.2.2.1 (rgP p)) (rgP p))
noncomputable def spY(s:Zo)(p:Z9):Zo:=bif p.2.1==([]:List UInt8)then s else(s.1,(s.2.1,(Q1q s.2.2.1 (rgP p),(Q81 s.2.2.2.1 (rgP p),(s.2.2.2.2.1,(s.2.2.2.2.2.1,(s.2.2.2.2.2.2.1,(max s.2.2.2.2.2.2.2.1 (rgP p).2.1,s.2.2.2.2.2.2.2.2))))))))
noncomputable def spZ(s:Zo)(p:Z9):Zo:=bif p.2.2.1 then((spY s p).1,((spY s p).2.1,((spY s p).2.2.1,((spY s p).2.2.2.1,((spY s p).2.2.2.2.1,((spY s p).2.2.2.2.2.1,((2:Int),(spY s p).2.2.2.2.2.2.2)))))))else spY s p
noncomputable def spS(s:Zo)(p:Z9):Zo:=(stF (spZ s p),(spZ s p).2)
theorem Qxk(s:Zo)(p:Z9): (spY s p).2.2.2.2.2.2.1=s.2.2.2.2.2.2.1:=by unfold spY;cases p.2.1==([]:List UInt8)<;>rfl
theorem Xbe{K:Int}{s:Zo}(h:Kk K s)(hK:K<=1000000)(p:Z9):Ziz s p=some (bif Zt8 s p then spS s p else s,Zt8 s p,()):=by
 have l1:=Qz h.pend h.e0 h.eK hK;have l2:=Qz h.flight h.e0 h.eK hK;unfold Ziz;rw[Zme h hK,Obs,Q5v h hK,Obs];simp only[Xf3,bO];have e: (((((!Ztn s)||decide (s.1>2))|| !(!((!Ztn s)||decide (s.1>2))&&Qib s p))|| ((p.2.1==([]:List UInt8))&& (!p.2.2.1)))|| (p.2.2.1&& (s.2.2.2.2.2.2.1 !=(1:Int))))= !spG s p:=by
  have:decide (s.1>2)= !decide (s.1<=2):=by rw[Bool.eq_iff_iff];simp
  rw[this];unfold spG;cases Ztn s<;>cases decide (s.1<=2)<;>cases Qib s p<;>cases (p.2.1==([]:List UInt8))<;>cases p.2.2.1<;>cases (s.2.2.2.2.2.2.1 !=(1:Int))<;>rfl
 rw[e];have fin: ∀y:Zo,y=spY s p->W4 p We y=some (spS s p,true,()):=fun y hy=>by
  unfold W4 Zdp spS spZ;rw[hy];cases p.2.2.1
  ·simp only[Ocf,Qj8,Obs]
  ·simp only[Oct,Qj8,Obs]
 unfold Zt8;cases hg:spG s p
 ·rfl
 ·simp only[Ont,Ocf,Ota];cases hd:p.2.1==([]:List UInt8)
  ·simp only[Bool.not_false,Oct,Zjz,Obs,Bool.false_or];rw[Xfv _ _ (by omega),Obs];have hg0: (((Zxt s.2.2.1 (rgP p)).length:Int) !=(1:Int))=false->(0<=(0:Int)/\(0:Int)< (Zxt s.2.2.1 (rgP p)).length):=fun h=>by simp at h;omega
   rw[Zb hg0,show(0:Int).toNat=0 from rfl];have e2: ((((Zxt s.2.2.1 (rgP p)).length:Int) !=(1:Int))|| (!(eqV (Zt) ((Zxt s.2.2.1 (rgP p)).getD 0 Zw) (rgP p))))= !eq1 (Zxt s.2.2.1 (rgP p)) (rgP p):=by
    unfold eq1;rw[bne,Bool.not_and]
   rw[e2];cases eq1 (Zxt s.2.2.1 (rgP p)) (rgP p)
   ·rfl
   ·simp only[Ont,Ocf,Oct];rw[Zws _ _ (by omega),Obs,Znu _ _ (by omega),Obs];exact fin _ (by unfold spY;rw[hd];rfl)
  ·exact fin _ (by unfold spY;rw[hd];rfl)
theorem Xe8{K:Int}{s:Zo}(h:Kk K s)(hK:K<=1000000)(p:Z9):Zl8 s p=some (bif Zt8 s p then spS s p else s,Zt8 s p,()):=by
 have l1:=Qz h.pend h.e0 h.eK hK;have l2:=Qz h.flight h.e0 h.eK hK;unfold Zl8 Zn0;rw[Qkt h hK,Obs,Qif h hK,Q5v h hK,Obs];simp only[Znj,bA,bA2,Obs,Xf2 h hK,bO];have es: (Ztn s&& (decide (s.1>=0)&&decide (s.1<=2)))=(Ztn s&&decide (s.1<=2)):=by
  cases hb:Ztn s
  ·rfl
  ·have:=((Qnu h hK).1 hb).st.1;rw[Zm (p:=s.1>=0) (by omega),Ota]
 rw[es];have e: ((((!(Ztn s&&decide (s.1<=2)))|| !(!(!(Ztn s&&decide (s.1<=2)))&&Qib s p))|| (p.2.2.1&& (s.2.2.2.2.2.2.1 !=(1:Int))))|| ((p.2.1==([]:List UInt8))&& (!p.2.2.1)))= !spG s p:=by
  unfold spG;cases Ztn s<;>cases decide (s.1<=2)<;>cases Qib s p<;>cases (p.2.1==([]:List UInt8))<;>cases p.2.2.1<;>cases (s.2.2.2.2.2.2.1 !=(1:Int))<;>rfl
 rw[e];unfold Zt8;cases hg:spG s p
 ·rfl
 ·have hgf:0<=s.2.2.2.2.2.2.1/\s.2.2.2.2.2.2.1<=3:=by
   unfold spG at hg;simp only[Oba]at hg;exact((Qnu h hK).1 hg.1.1.1.1).fin
  have fin: ∀y:Zo,y=spY s p->Zgy p We y=some (spS s p,true,()):=fun y hy=>by
   unfold Zgy Zlo spS spZ;rw[hy];have hf:=Qxk s p;cases p.2.2.1
   ·simp only[Ocf];rw[Zzy _ (by rw[hf];exact hgf.1) (by rw[hf];exact hgf.2),Obs]
   ·simp only[Oct];rw[Zzy _ (by simp only;omega) (by simp only;omega),Obs]
  simp only[Ont,Ocf,Ota];cases hd:p.2.1==([]:List UInt8)
  ·simp only[Bool.not_false,Oct,Jk,Kz,Bool.false_or];rw[Xfu _ _ (by omega),Obs,Xfy,Obs];unfold Zlp;cases eq1 (Zxt s.2.2.1 (rgP p)) (rgP p)
   ·rfl
   ·simp only[Ont,Ocf,Oct];rw[Qxd _ _ (by omega),Obs,Qt5 _ _ (by omega),Obs];exact fin _ (by unfold spY;rw[hd];rfl)
  ·exact fin _ (by unfold spY;rw[hd];rfl)
theorem Qoj{K:Int}{s:Zo}(h:Kk K s)(hK:K<=1000000)(p:Z9)(ho:Zt8 s p=true):Kk K (spS s p):=by
 obtain⟨x,ok,e,hx⟩:=Q5s h p hK;rw[Xbe h hK,ho]at e;cases e;exact hx
theorem Xd1{α:Type}{c:Bool}{x y:α}: (bif c then some x else some y)=some (bif c then x else y):=by cases c<;>rfl
theorem Xd0{α β:Type}{c:Bool}{x y:α×β}: (bif c then x else y).1=bif c then x.1 else y.1:=by cases c<;>rfl
theorem Znw{α:Type}(d:α)(pre:List α)(x:α)(rest:List α): (pre++x::rest).getD ((pre.length:Int).toNat) d=x:=by
 rw[show(pre.length:Int).toNat=pre.length from rfl,List.getD_eq_getElem?_getD,List.getElem?_append_right (Nat.le_refl _)];simp
theorem Qsw{α:Type}(pre:List α)(x:α)(rest:List α):pre++x::rest=(pre++ [x])++rest:=by simp
theorem Zrs{α:Type}(pre:List α)(x:α)(rest:List α)(h: (pre++x::rest).length<=100000):IntKind.i64.wrap ((pre.length:Int)+1)=(((pre++ [x]).length:Nat):Int):=by
 rw[Zv (by omega) (by simp at h;omega)];simp
theorem inb{α:Type}(pre:List α)(x:α)(rest:List α):0<=(pre.length:Int)/\(pre.length:Int)< ((pre++x::rest).length:Int):=by simp;omega
theorem Zr7{α:Type}(pre:List α)(x:α)(rest:List α):decide ((pre.length:Int)< ((pre++x::rest).length:Int))=true:=Zm (inb pre x rest).2
theorem Zn3{α:Type}(pre:List α):decide ((pre.length:Int)< ((pre++ ([]:List α)).length:Int))=false:=Zj (by simp)
def vC(x:Zk):Bool:=(decide (0<=x.1)&&decide (x.1<=4611686018427387903))&& (decide (0<=x.2.1.1)&&decide (x.2.1.1<=7))
def acF:Option Int->List Zk->Bool
 |_,[]=>true
 |p,x::r=>vC x&& (match p with|none=>true|some q=>decide (q<x.1))&&acF (some x.1) r
abbrev ac(l:List Zk):Bool:=acF none l
theorem Zxq(p:Option Int)(x:Zk)(r:List Zk):acF p (x::r)=(vC x&& (match p with|none=>true|some q=>decide (q<x.1))&&acF (some x.1) r):=by cases p<;>rfl
def Zxi(pre:List Zk):Option Int:=pre.getLast?.map (·.1)
theorem Qu1(pre:List Zk)(x:Zk):Zxi (pre++ [x])=some x.1:=by simp[Zxi]
theorem Qza(pre:List Zk)(x:Zk)(rest:List Zk)(h:0<pre.length)(hl:pre.length<=100000):0<=IntKind.i64.wrap ((pre.length:Int)-1)/\IntKind.i64.wrap ((pre.length:Int)-1)< ((pre++x::rest).length:Int)/\
  Zxi pre=some ((pre++x::rest).getD (IntKind.i64.wrap ((pre.length:Int)-1)).toNat Z5).1:=by
 rw[Zv (by omega) (by omega)];refine⟨by omega,by simp;omega,?_⟩;have e: ((pre.length:Int)-1).toNat=pre.length-1:=by omega
 rw[e,List.getD_eq_getElem?_getD,List.getElem?_append_left (by omega)];unfold Zxi;rw[List.getLast?_eq_getElem?];cases hx:pre[pre.length-1]? with
 |none=>rw[List.getElem?_eq_none_iff]at hx;omega
 |some y=>rfl
theorem Q37: ∀(N:Nat) (pre rest:List Zk),(pre++rest).length<=100000->rest.length<N->Vf N (pre++rest) (pre.length:Int)=some (acF (Zxi pre) rest,())
 |0,_,_,_,h=>by omega
 |N+1,pre,[],hl,hN=>by
  unfold Vf;rw[Zl (Zn3 pre)];rfl
 |N+1,pre,x::rest,hl,hN=>by
  have hp:pre.length<=100000:=by simp at hl;omega
  unfold Vf Qi Vo Z4;rw[Zp (Zr7 pre x rest),Zb (inb pre x rest)];simp only[Znw,Obs];rw[Zb (fun _=>inb pre x rest)];have ih:=Q37 N (pre++ [x]) rest (by simpa using hl) (by simp at hN;omega);rw[<-Qsw,Qu1]at ih;simp only[Xd1,Xd0,Obs];by_cases h0:0<pre.length
  ·obtain⟨g1,g2,g3⟩:=Qza pre x rest h0 hp;by_cases hv:vC x=true
   ·have hv':=hv;simp only[vC,Oba,decide_eq_true_eq]at hv';simp only[ge_iff_le,hv'.1.1,hv'.1.2,hv'.2.1,hv'.2.2,decide_true,Bool.and_self,Ont,Ocf,Bool.or_self,Bool.false_or];rw[Zb (fun _ _=>inb pre x rest),Zb (fun _ _=>⟨g1,g2⟩)];rw[Zm (show(pre.length:Int)>0 by omega),Ota];have hd:decide (x.1<=((pre++x::rest).getD (IntKind.i64.wrap ((pre.length:Int)-1)).toNat Z5).1)= !(decide (((pre++x::rest).getD (IntKind.i64.wrap ((pre.length:Int)-1)).toNat Z5).1<x.1)):=by
     rw[Bool.eq_iff_iff];simp
    rw[hd,Zxq,g3,hv,Zrs pre x rest hl,ih];generalize ((pre++x::rest).getD (IntKind.i64.wrap ((pre.length:Int)-1)).toNat Z5).1=y;by_cases hy:y<x.1<;>simp[hy]
   ·have hv2:vC x=false:=by simpa using hv
    have hv3: ((!((decide (x.1>=0))&& (decide (x.1<=4611686018427387903))))|| (!(bif !((decide (x.1>=0))&& (decide (x.1<=4611686018427387903)))then false else((decide (x.2.1.1>=0))&& (decide (x.2.1.1<=7))))))=true:=by
     simp only[vC,ge_iff_le]at hv2⊢;revert hv2;cases (decide (0<=x.1)&&decide (x.1<=4611686018427387903))<;>cases (decide (0<=x.2.1.1)&&decide (x.2.1.1<=7))<;>simp
    rw[Zb (fun h=>by rw[hv3]at h;cases h),Zb (fun h=>by rw[hv3]at h;cases h),hv3,Bool.true_or,Zp rfl,Zxq,hv2];simp
  ·have hpe:pre=[]:=List.eq_nil_of_length_eq_zero (by omega);subst hpe;rw[Zb (fun _ h=>by simp at h),Zb (fun _ h=>by simp at h)];have hd0:decide (((([]:List Zk).length:Nat):Int)>0)=false:=Zj (by simp);rw[hd0,Bool.false_and,Bool.or_false];have hv3: ((!((decide (x.1>=0))&& (decide (x.1<=4611686018427387903))))|| (!(bif !((decide (x.1>=0))&& (decide (x.1<=4611686018427387903)))then false else((decide (x.2.1.1>=0))&& (decide (x.2.1.1<=7))))))= !vC x:=by
    simp only[vC,ge_iff_le];cases (decide (0<=x.1)&&decide (x.1<=4611686018427387903))<;>cases (decide (0<=x.2.1.1)&&decide (x.2.1.1<=7))<;>simp
   rw[hv3,Zrs [] x rest hl];rw[ih,Zxq];cases hv:vC x
   ·simp
   ·simp[Zxi]
theorem Q3e: ∀(N:Nat) (pre rest:List Zk),(pre++rest).length<=100000->rest.length<N->Ve N (pre++rest) (pre++rest) ((pre++rest).length:Int) (pre.length:Int)=some (acF (Zxi pre) rest,())
 |0,_,_,_,h=>by omega
 |N+1,pre,[],hl,hN=>by
  unfold Ve;rw[Zl (Zn3 pre)];rfl
 |N+1,pre,x::rest,hl,hN=>by
  have hp:pre.length<=100000:=by simp at hl;omega
  unfold Ve Xo Zj2 Zz;rw[Zp (Zr7 pre x rest),Zb (inb pre x rest)];simp only[Znw,Obs];have ih:=Q3e N (pre++ [x]) rest (by simpa using hl) (by simp at hN;omega);rw[<-Qsw,Qu1]at ih;simp only[Xd1,Xd0,Obs];have hv3: ((!((decide (0<=x.1))&& (decide (x.1<=4611686018427387903))))|| (!(bif !((decide (0<=x.1))&& (decide (x.1<=4611686018427387903)))then false else((decide (0<=x.2.1.1))&& (decide (x.2.1.1<=7))))))= !vC x:=by
   simp only[vC];cases (decide (0<=x.1)&&decide (x.1<=4611686018427387903))<;>cases (decide (0<=x.2.1.1)&&decide (x.2.1.1<=7))<;>simp
  simp only[hv3];by_cases h0:0<pre.length
  ·obtain⟨g1,g2,g3⟩:=Qza pre x rest h0 hp;rw[Zb (fun _ _=>⟨g1,g2⟩),Zm (show(pre.length:Int)>0 by omega),Ota];have hd:decide (((pre++x::rest).getD (IntKind.i64.wrap ((pre.length:Int)-1)).toNat Z5).1>=x.1)= !(decide (((pre++x::rest).getD (IntKind.i64.wrap ((pre.length:Int)-1)).toNat Z5).1<x.1)):=by
    rw[Bool.eq_iff_iff];simp
   rw[hd,Zxq,g3,Zrs pre x rest hl,ih];generalize ((pre++x::rest).getD (IntKind.i64.wrap ((pre.length:Int)-1)).toNat Z5).1=y;cases vC x<;>by_cases hy:y<x.1<;>simp[hy]
  ·have hpe:pre=[]:=List.eq_nil_of_length_eq_zero (by omega);subst hpe;rw[Zb (fun _ h=>by simp at h)];have hd0:decide (((([]:List Zk).length:Nat):Int)>0)=false:=Zj (by simp);rw[hd0,Bool.false_and,Bool.or_false,Zrs [] x rest hl,ih,Zxq];cases hv:vC x
   ·simp
   ·simp[Zxi]
theorem Qzq(l:List Zk)(h:l.length<=100000):Zjm l=some (ac l,()):=by
 have:=Q37 (Wt l 0) [] l (by simpa using h) (by unfold Wt;omega);simpa[Zjm,Zxi]using this
theorem Qyn(l:List Zk)(h:l.length<=100000):Zfb l=some (ac l,()):=by
 have:=Q3e (Wm l l (l.length:Int) 0) [] l (by simpa using h) (by unfold Wm;omega);simpa[Zfb,Zxi]using this
theorem Zxr: ∀(l:List Zk) (p:Option Int),acF p l=true->(∀x,x∈l->0<=x.1/\0<=x.2.1.1/\x.2.1.1<=7/\ ∀q,p=some q->q<x.1)/\l.Pairwise (fun a b=>a.1<b.1)
 | [],_,_=>⟨by simp,List.Pairwise.nil⟩
 |x::r,p,h=>by
  simp only[acF,Oba]at h;obtain⟨⟨h1,h2⟩,h3⟩:=h;obtain⟨k1,k2⟩:=Zxr r (some x.1) h3;simp only[vC,Oba,decide_eq_true_eq]at h1;refine⟨fun y hy=> ?_,List.Pairwise.cons (fun y hy=>(k1 y hy).2.2.2 _ rfl) k2⟩;rcases List.mem_cons.1 hy with rfl|hy
  ·refine⟨h1.1.1,h1.2.1,h1.2.2,fun q hq=> ?_⟩;subst hq;simpa using h2
  ·obtain⟨g1,g2,g3,g4⟩:=k1 y hy;refine⟨g1,g2,g3,fun q hq=> ?_⟩;subst hq;have:=g4 _ rfl;have h2:q<x.1:=by simpa using h2
   omega
theorem Qgv(f:Zk->Bool): ∀(l:List Zk) (p:Option Int),acF p l=true->acF p (l.filter f)=true
 | [],_,_=>rfl
 |x::r,p,h=>by
  simp only[acF,Oba]at h;obtain⟨⟨h1,h2⟩,h3⟩:=h;have ih:=Qgv f r (some x.1) h3;simp only[List.filter_cons];split
  ·simp only[acF,Oba];exact⟨⟨h1,h2⟩,ih⟩
  ·
   have weak: ∀(l:List Zk) (a:Int) (p:Option Int),(∀q,p=some q->q<=a)->acF (some a) l=true->acF p l=true:=by
    intro l a p hp hl;cases l with
    |nil=>rfl
    |cons y l=>
     simp only[acF,Oba,decide_eq_true_eq]at hl⊢;refine⟨⟨hl.1.1,?_⟩,hl.2⟩;cases p with
     |none=>rfl
     |some q=>have:=hp q rfl;have:=hl.1.2;simp;omega
   refine weak _ x.1 p (fun q hq=> ?_) ih;subst hq;have h2:q<x.1:=by simpa using h2
   omega
def lst(b:Int)(l:List Zk):Int:=l.foldl (fun b x=>min b x.2.1.1) b
def isU(b:Int)(x:Zk):Bool:=x.2.1.1==b
abbrev urg(l:List Zk):List Zk:=l.filter (isU (lst 7 l))
abbrev ids(l:List Zk):List Int:=l.map (fun x=>x.1)
def Qkl(L:List Int)(last:Int):Int:=match L.find? (fun x=>decide (x>last))with|some x=>x|none=>L.headD (-1)
theorem Qxp(b:Int): ∀(N:Nat) (out pre rest:List Zk),(pre++rest).length<=100000->out.length+rest.length<=100000->rest.length<N->
  Zch N b out (pre++rest) ((pre++rest).length:Int) (pre.length:Int)=some (out++rest.filter (isU b),())
 |0,_,_,_,_,_,h=>by omega
 |N+1,out,pre,[],hl,ho,hN=>by
  unfold Zch;rw[Zl (Zn3 pre)];simp
 |N+1,out,pre,x::rest,hl,ho,hN=>by
  have hN':rest.length<N:=by simp at hN;omega
  have ho':out.length+1+rest.length<=100000:=by simp at ho;omega
  unfold Zch;rw[Zp (Zr7 pre x rest),Zb (inb pre x rest)];simp only[Znw];rw[Zrs pre x rest hl,Zb (by unfold Qg;simp;omega)];have e:=Qsw pre x rest;by_cases h:isU b x=true
  ·rw[Zp (show(x.2.1.1==b)=true from h),e,Qxp b N (out++ [x]) (pre++ [x]) rest (by simpa using hl) (by simp;omega) hN'];simp[h]
  ·have h:isU b x=false:=by simpa using h
   rw[Zl (show(x.2.1.1==b)=false from h),e,Qxp b N out (pre++ [x]) rest (by simpa using hl) (by omega) hN'];simp[h]
theorem Q4d(l0:List Zk): ∀(N:Nat) (b:Int) (out pre rest:List Zk),(pre++rest).length<=100000->rest.length<N->
  Zij N l0 b out (pre++rest) ((pre++rest).length:Int) (pre.length:Int)=Zch (Zd5 (lst b rest) out l0 (l0.length:Int) (0:Int)) (lst b rest) out l0 (l0.length:Int) (0:Int)
 |0,_,_,_,_,_,h=>by omega
 |N+1,b,out,pre,[],hl,hN=>by
  unfold Zij;rw[Zl (Zn3 pre)];rfl
 |N+1,b,out,pre,x::rest,hl,hN=>by
  unfold Zij;rw[Zp (Zr7 pre x rest),Zb (inb pre x rest)];simp only[Znw];rw[Zrs pre x rest hl,Qsw pre x rest,Q4d l0 N _ out (pre++ [x]) rest (by simpa using hl) (by simp at hN;omega)];rfl
theorem Q5y(l:List Zk)(h:l.length<=100000):Zv9 l=some (urg l,()):=by
 have h1:=Q4d l (Zhr l 7 [] l (l.length:Int) 0) 7 [] [] l (by simpa using h) (by unfold Zhr;omega);have h2:=Qxp (lst 7 l) (Zd5 (lst 7 l) [] l (l.length:Int) 0) [] [] l (by simpa using h) (by simpa using h) (by unfold Zd5;omega);simp only[List.nil_append,List.length_nil]at h1 h2;unfold Zv9;exact h1.trans h2
def Z1f(l:List Zk):List Int:=bif ac l then ids (urg l)else[]
theorem Zqc: ∀(N:Nat) (out:List Int) (b:Int) (pre rest:List Zk),(pre++rest).length<=100000->ac (pre++rest)=true->out=ids (pre.filter (isU b))->(∀x,x∈pre->b<=x.2.1.1)->rest.length<N->
  Js N (pre++rest) out b (pre.length:Int)=some (ids ((pre++rest).filter (isU (lst b rest))),())
 |0,_,_,_,_,_,_,_,_,h=>by omega
 |N+1,out,b,pre,[],hl,ha,ho,hb,hN=>by
  unfold Js;simp only[Zn3 pre,Ocf,Obs,Bool.false_and];simp[ho,lst]
 |N+1,out,b,pre,x::rest,hl,ha,ho,hb,hN=>by
  have hN':rest.length<N:=by simp at hN;omega
  have hp:pre.length<=100000:=by simp at hl;omega
  have hol:out.length<=100000:=by rw[ho,List.length_map];exact Nat.le_trans (List.length_filter_le _ _) hp
  unfold Js Zju Zjt;simp only[Zr7 pre x rest,Oct,Qzq _ hl,Obs,ha,Bool.and_self,Znw];rw[Zb (inb pre x rest)];have e:=Qsw pre x rest;by_cases h:x.2.1.1<b
  ·rw[Zp (Zm h),Zb (inb pre x rest),Zb (inb pre x rest),Zp (by simp),Zb (inb pre x rest),Zb (by unfold Qg;simp),List.nil_append,Zrs pre x rest hl,e,
    Zqc N [x.1] x.2.1.1 (pre++ [x]) rest (by simpa using hl) (by rw[<-e];exact ha) ?_ ?_ hN']
   ·have:lst b (x::rest)=lst x.2.1.1 rest:=by simp only[lst,List.foldl_cons];rw[Int.min_eq_right (by omega)]
    rw[this]
   ·have hf:pre.filter (isU x.2.1.1)=[]:=List.filter_eq_nil_iff.2 fun y hy=>by have:=hb y hy;simp[isU];omega
    simp[List.filter_append,hf,isU]
   ·intro y hy;rcases List.mem_append.1 hy with hy|hy
    ·have:=hb y hy;omega
    ·simp at hy;rw[hy];exact Int.le_refl _
  ·rw[Zl (Zj h),Zb (inb pre x rest)];have hm:lst b (x::rest)=lst b rest:=by simp only[lst,List.foldl_cons];rw[Int.min_eq_left (by omega)]
   have hb': ∀y,y∈pre++ [x]->b<=y.2.1.1:=fun y hy=>by
    rcases List.mem_append.1 hy with hy|hy
    ·exact hb y hy
    ·simp at hy;rw[hy];omega
   by_cases hx:isU b x=true
   ·rw[Zp (show(x.2.1.1==b)=true from hx),Zb (inb pre x rest),Zb (by unfold Qg;simp;omega),Zrs pre x rest hl,e,hm,
     Zqc N (out++ [x.1]) b (pre++ [x]) rest (by simpa using hl) (by rw[<-e];exact ha) (by simp[List.filter_append,hx,ho]) hb' hN']
   ·have hx:isU b x=false:=by simpa using hx
    rw[Zl (show(x.2.1.1==b)=false from hx),Zrs pre x rest hl,e,hm,Zqc N out b (pre++ [x]) rest (by simpa using hl) (by rw[<-e];exact ha) (by simp[List.filter_append,hx,ho]) hb' hN']
theorem Xel(l:List Zk)(h:ac l=true):l.filter (isU (lst 8 l))=urg l:=by
 cases l with
 |nil=>rfl
 |cons x r=>
  have:=(Zxr _ _ h).1 x (by simp);have e:lst 8 (x::r)=lst 7 (x::r):=by simp only[lst,List.foldl_cons];rw[Int.min_eq_right (by omega),Int.min_eq_right (by omega)]
  rw[e]
theorem Q45(l:List Zk)(h:l.length<=100000):Zox l=some (Z1f l,()):=by
 unfold Zox Z1f;by_cases ha:ac l=true
 ·have:=Zqc (Wa l [] 8 0) [] 8 [] l (by simpa using h) ha rfl (by simp) (by unfold Wa;omega);simp only[List.nil_append,List.length_nil]at this;rw[show((0:Nat):Int)=0 from rfl]at this;rw[this,ha,Xel l ha];rfl
 ·have ha:ac l=false:=by simpa using ha
  unfold Wa Js;rw[Qzq l h,ha];cases decide ((0:Int)< (l.length:Int))<;>rfl
theorem Qow(last:Int): ∀(N:Nat) (pre rest:List Int),(pre++rest).length<=100000->rest.length<N->Ze7 N (pre++rest) last (pre.length:Int)=some ((match rest.find? (fun x=>decide (x>last))with|some x=>x|none=>(pre++rest).headD (-1)),())
 |0,_,_,_,h=>by omega
 |N+1,pre,[],hl,hN=>by
  unfold Ze7;rw[Zl (Zn3 pre)];cases pre with
  |nil=>rfl
  |cons y pre=>
   rw[Zl (beq_eq_false_iff_ne.2 (by simp only[List.append_nil,List.length_cons];omega)),Zb ⟨Int.le_refl 0,by simp only[List.append_nil,List.length_cons];omega⟩];rfl
 |N+1,pre,x::rest,hl,hN=>by
  unfold Ze7;rw[Zp (Zr7 pre x rest),Zb (inb pre x rest)];simp only[Znw,List.find?_cons];rw[Zrs pre x rest hl];by_cases h:x>last
  ·rw[Zp (Zm h),Zb (inb pre x rest),Zm h]
  ·rw[Zl (Zj h),Zj h,Qsw pre x rest,Qow last N (pre++ [x]) rest (by simpa using hl) (by simp at hN;omega)]
theorem Q58(l:List Int)(last:Int)(h:l.length<=100000):Zse l last=some (Qkl l last,()):=by
 have:=Qow last (Zf8 l last 0) [] l (by simpa using h) (by unfold Zf8;omega);simpa[Zse,Qkl]using this
theorem Z1n(l0:List Zk)(last:Int)(h0:0<l0.length): ∀(N:Nat) (pre rest:List Zk),(pre++rest).length<=100000->rest.length<N->
  Zdb N l0 last (pre++rest) ((pre++rest).length:Int) (pre.length:Int)=some ((match(ids rest).find? (fun x=>decide (x>last))with|some x=>x|none=>(ids l0).headD (-1)),())
 |0,_,_,_,h=>by omega
 |N+1,pre,[],hl,hN=>by
  unfold Zdb;rw[Zl (Zn3 pre),Zb (by omega)];cases l0 with
  |nil=>simp at h0
  |cons y l0=>rfl
 |N+1,pre,x::rest,hl,hN=>by
  unfold Zdb;rw[Zp (Zr7 pre x rest),Zb (inb pre x rest)];simp only[Znw,List.map_cons,List.find?_cons];rw[Zrs pre x rest hl];by_cases h:x.1>last
  ·rw[Zp (Zm h),Zm h]
  ·rw[Zl (Zj h),Zj h,Qsw pre x rest,Z1n l0 last h0 N (pre++ [x]) rest (by simpa using hl) (by simp at hN;omega)]
def Qw4(l:List Zk)(last:Int):Int:=bif ac l then Qkl (ids l) last else-1
theorem Q1m(l:List Zk)(last:Int)(h:l.length<=100000):Zp4 l last=some (Qw4 l last,()):=by
 unfold Zp4 Qw4;by_cases h0:l.length=0
 ·have:=List.eq_nil_of_length_eq_zero h0;subst this;rfl
 ·have hz: ((l.length:Int)==0)=false:=beq_eq_false_iff_ne.2 (by omega);simp only[hz,Ocf,Qyn l h,Obs,Bool.false_or];cases ac l
  ·rfl
  ·have:=Z1n l last (by omega) (Zee l last l (l.length:Int) 0) [] l (by simpa using h) (by unfold Zee;omega);simpa[Qkl]using this
def Qra(x:Zk):Bool:=x.2.1.2.1
def Wg(l:List Zk)(last:Int):Int:=bif ac l then(match(urg l).find? (fun x=> !Qra x)with|some x=>x.1|none=>Qkl (ids (urg l)) last)else-1
theorem Z4b(last:Int): ∀(N:Nat) (pre rest:List Zk),(pre++rest).length<=100000->rest.length<N->
  Zbh N last (pre++rest) ((pre++rest).length:Int) (pre.length:Int)=some ((match rest.find? (fun x=> !Qra x)with|some x=>x.1|none=>Qw4 (pre++rest) last),())
 |0,_,_,_,h=>by omega
 |N+1,pre,[],hl,hN=>by
  unfold Zbh;rw[Zl (Zn3 pre),Q1m _ _ hl];rfl
 |N+1,pre,x::rest,hl,hN=>by
  unfold Zbh;rw[Zp (Zr7 pre x rest),Zb (inb pre x rest)];simp only[Znw,List.find?_cons];rw[Zrs pre x rest hl];cases h:Qra x
  ·rw[Zp (by show(!Qra x)=true;rw[h];rfl)];rfl
  ·rw[Zl (by show(!Qra x)=false;rw[h];rfl),Qsw pre x rest,Z4b last N (pre++ [x]) rest (by simpa using hl) (by simp at hN;omega)];rfl
theorem Q48(l:List Zk)(last:Int)(h:l.length<=100000):Zok l last=some (Wg l last,()):=by
 unfold Zok Wg;by_cases h0:l.length=0
 ·have:=List.eq_nil_of_length_eq_zero h0;subst this;rfl
 ·have hz: ((l.length:Int)==0)=false:=beq_eq_false_iff_ne.2 (by omega);simp only[hz,Ocf,Qyn l h,Obs,Bool.false_or];cases ha:ac l
  ·rfl
  ·rw[Ont,Zl rfl,Q5y l h,Obs];have hu: (urg l).length<=100000:=Nat.le_trans (List.length_filter_le _ _) h;have:=Z4b last (Zda last (urg l) ((urg l).length:Int) 0) [] (urg l) (by simpa using hu) (by unfold Zda;omega);simp only[List.nil_append,List.length_nil]at this;rw[show((0:Nat):Int)=0 from rfl]at this;rw[this];have hau:ac (urg l)=true:=Qgv _ l none ha;unfold Qw4;rw[hau];rfl
theorem Qrp(K1: (List Zk×Int×List Int×List Int×Int×Unit)->Option (Int×Unit))(l:List Zk)(last:Int)(i:Nat)(hi:i<l.length)(hl:l.length<=100000):
  ∀(N:Nat) (some0 preM restM:List Int),(preM++restM).length<=100000->some0.length+restM.length<=200000->restM.Nodup->restM.length<N->
  Vw K1 N l last (preM++restM) some0 (i:Int) (preM.length:Int)=
   bif decide ((l.getD (i:Int).toNat Z5).1∈restM)&& !Qra (l.getD (i:Int).toNat Z5)then some ((l.getD (i:Int).toNat Z5).1,())
   else K1 (l,last,preM++restM,some0++ (if(l.getD (i:Int).toNat Z5).1∈restM then[(l.getD (i:Int).toNat Z5).1]else[]),((i+1:Nat):Int),())
 |0,_,_,_,_,_,_,h=>by omega
 |N+1,some0,preM,[],hm,hs,hn,hN=>by
  unfold Vw;rw[Zl (Zn3 preM),Zr hi (by omega)];simp
 |N+1,some0,preM,y::restM,hm,hs,hn,hN=>by
  have hN':restM.length<N:=by simp at hN;omega
  have hn':=List.nodup_cons.1 hn;unfold Vw Zjv;rw[Zp (Zr7 preM y restM),Zb (inb preM y restM),Zb (by omega)];simp only[Znw];rw[Zb (fun _=>by omega)];generalize hx:l.getD (i:Int).toNat Z5=x;have e:=Qsw preM y restM;have ih:=fun some0 h=>Qrp K1 l last i hi hl N some0 (preM++ [y]) restM (by simpa using hm) h hn'.2 hN';rw[hx,<-e]at ih;rw[Zrs preM y restM hm,Zb (inb preM y restM),Zb (by omega),Zb (by omega),Zb (by omega),Zb (by unfold Qg;simp;omega)];by_cases hy:y=x.1
  ·subst hy;simp only[beq_self_eq_true,Ota,List.mem_cons,true_or,decide_true];cases hxi:Qra x
   ·rw[Zp (by show(!Qra x)=true;rw[hxi];rfl)];rfl
   ·rw[Zl (by show(!Qra x)=false;rw[hxi];rfl),Zp rfl];rw[ih _ (by simp at hs⊢;omega)];simp[hn'.1]
  ·have hb: (y==x.1)=false:=by simpa using hy
   rw[hb,Bool.false_and,Zl rfl,Zl rfl,ih some0 (by simp at hs;omega)];have: (x.1∈y::restM)↔x.1∈restM:=by simp[Ne.symm hy]
   simp only[this]
def inU(m:List Int)(x:Zk):Bool:=decide (x.1∈m)
theorem Qro(last:Int)(m:List Int)(hmn:m.Nodup)(hml:m.length<=100000): ∀(N:Nat) (some0:List Int) (pre rest:List Zk),(pre++rest).length<=100000->some0.length+rest.length<=100000->rest.length<N->
  Vv N (pre++rest) last m some0 (pre.length:Int)=some ((match(rest.filter (inU m)).find? (fun x=> !Qra x)with|some x=>x.1|none=>Qkl (some0++ids (rest.filter (inU m))) last),())
 |0,_,_,_,_,_,h=>by omega
 |N+1,some0,pre,[],hl,hs,hN=>by
  unfold Vv;rw[Zl (Zn3 pre),Q58 _ _ (by simp at hs;omega)];simp
 |N+1,some0,pre,x::rest,hl,hs,hN=>by
  have hN':rest.length<N:=by simp at hN;omega
  have hi:pre.length< (pre++x::rest).length:=by simp
  unfold Vv;rw[Zp (Zr7 pre x rest)];have h2:=Qrp (fun v=>Vv N v.1 v.2.1 v.2.2.1 v.2.2.2.1 v.2.2.2.2.1) (pre++x::rest) last pre.length hi hl (Zdo (pre++x::rest) last m some0 (pre.length:Int) 0) some0 [] m (by simpa using hml) (by simp at hs;omega) hmn (by unfold Zdo;omega);simp only[List.nil_append,List.length_nil,Znw]at h2;rw[show((0:Nat):Int)=0 from rfl]at h2;rw[h2];have e:=Qsw pre x rest;have hL: ((pre.length+1:Nat):Int)=(((pre++ [x]).length:Nat):Int):=by simp
  have ih:=fun some0 h=>Qro last m hmn hml N some0 (pre++ [x]) rest (by simpa using hl) h hN';rw[<-e]at ih;rw[hL];by_cases hx:x.1∈m
  ·have hf: (x::rest).filter (inU m)=x::rest.filter (inU m):=by simp[inU,hx]
   rw[hf];cases hi:Qra x
   ·simp[hx,hi]
   ·simp only[hx,decide_true,Ont,Bool.and_false,Ocf,if_true];rw[ih _ (by simp at hs⊢;omega)];simp[hi]
  ·have hf: (x::rest).filter (inU m)=rest.filter (inU m):=by simp[inU,hx]
   rw[hf];simp only[hx,decide_false,Bool.false_and,Ocf,if_false,List.append_nil];rw[ih _ (by simp at hs;omega)]
theorem Q71: ∀{l:List Zk},l.Pairwise (fun a b=>a.1<b.1)-> ∀{x y:Zk},x∈l->y∈l->x.1=y.1->x=y
 | [],_,_,_,h,_,_=>by cases h
 |z::l,hp,x,y,hx,hy,e=>by
  obtain⟨h1,h2⟩:=List.pairwise_cons.1 hp;rcases List.mem_cons.1 hx with hx'|hx'<;>rcases List.mem_cons.1 hy with hy'|hy'
  ·rw[hx',hy']
  ·have:=h1 y hy';rw[<-hx']at this;omega
  ·have:=h1 x hx';rw[<-hy']at this;omega
  ·exact Q71 h2 hx' hy' e
theorem Q04{l:List Zk}(h:l.Pairwise (fun a b=>a.1<b.1)): (ids l).Pairwise (· < ·):=List.pairwise_map.2 h
theorem Q17{l:List Zk}(h:ac l=true): (ids (urg l)).Pairwise (· < ·):=Q04 ((Zxr _ _ h).2.filter _)
theorem Qy0(l:List Zk): (Z1f l).Nodup:=by
 unfold Z1f;cases h:ac l
 ·exact List.nodup_nil
 ·exact(Q17 h).imp (fun h=>by omega)
theorem Q9z{l:List Zk}(h:ac l=true){x:Zk}(hx:x∈l):x.1∈ids (urg l)↔isU (lst 7 l) x=true:=by
 constructor
 ·intro hm;obtain⟨y,hy,e⟩:=List.mem_map.1 hm;obtain⟨hy1,hy2⟩:=List.mem_filter.1 hy;have:=Q71 (Zxr _ _ h).2 hx hy1 e.symm;rw[this];exact hy2
 ·intro hu;exact List.mem_map.2 ⟨x,List.mem_filter.2 ⟨hx,hu⟩,rfl⟩
theorem Q49(l:List Zk)(last:Int)(h:l.length<=100000):Zoy l last=some (Wg l last,()):=by
 unfold Zoy Wg;rw[Q45 l h,Obs];have hml: (Z1f l).length<=100000:=by
  unfold Z1f;cases ac l
  ·simp
  ·simp only[Oct,List.length_map];exact Nat.le_trans (List.length_filter_le _ _) h
 have:=Qro last (Z1f l) (Qy0 l) hml (Zdn l last (Z1f l) [] 0) [] [] l (by simpa using h) (by simpa using h) (by unfold Zdn;omega);simp only[List.nil_append,List.length_nil]at this;rw[show((0:Nat):Int)=0 from rfl]at this;simp only[];rw[this];cases ha:ac l
 ·have hf:l.filter (inU (Z1f l))=[]:=List.filter_eq_nil_iff.2 fun x _=>by simp[inU,Z1f,ha]
  rw[hf];rfl
 ·have hf:l.filter (inU (Z1f l))=urg l:=List.filter_congr fun x hx=>by
   rw[Bool.eq_iff_iff];simp only[inU,Z1f,ha,Oct,decide_eq_true_eq];exact Q9z ha hx
  rw[hf];rfl
theorem Q1a(b:Int): ∀(l:List Zk) (b:Int),lst b l<=b/\ ∀x,x∈l->lst b l<=x.2.1.1
 | [],b=>⟨Int.le_refl _,by simp⟩
 |y::l,b=>by
  obtain⟨h1,h2⟩:=Q1a b l (min b y.2.1.1);have e:lst b (y::l)=lst (min b y.2.1.1) l:=rfl;rw[e];refine⟨by omega,fun x hx=> ?_⟩;rcases List.mem_cons.1 hx with rfl|hx
  ·omega
  ·exact h2 x hx
theorem Q3o: ∀(l:List Zk) (b:Int),lst b l=b\/ ∃x,x∈l/\x.2.1.1=lst b l
 | [],b=> .inl rfl
 |y::l,b=>by
  have e:lst b (y::l)=lst (min b y.2.1.1) l:=rfl;rw[e];rcases Q3o l (min b y.2.1.1)with h| ⟨x,hx,h⟩
  ·by_cases hy:y.2.1.1<=b
   ·exact .inr ⟨y,by simp,by omega⟩
   ·exact .inl (by omega)
  ·exact .inr ⟨x,by simp[hx],h⟩
theorem Xdr{l:List Zk}(h:ac l=true)(h0:l≠[]):urg l≠[]:=by
 obtain⟨h1,h2⟩:=Q1a 7 l 7;have hm: ∃x,x∈l/\x.2.1.1=lst 7 l:=by
  rcases Q3o l 7 with e|e
  ·cases l with
   |nil=>exact absurd rfl h0
   |cons x l=>
    have:=((Zxr _ _ h).1 x (by simp)).2.2.1;have:=h2 x (by simp);exact⟨x,by simp,by omega⟩
  ·exact e
 obtain⟨x,hx,e⟩:=hm;intro hn;have:=List.filter_eq_nil_iff.1 hn x hx;simp[isU,e]at this
theorem Q4n{L:List Int}(h:L≠[])(last:Int):Qkl L last∈L:=by
 unfold Qkl;split
 ·rename_i x hx;exact List.mem_of_find?_eq_some hx
 ·cases L with
  |nil=>exact absurd rfl h
  |cons y L=>simp
theorem Quu{l:List Zk}(h:ac l=true)(h0:l≠[])(last:Int):Wg l last∈ids (urg l):=by
 unfold Wg;rw[h,Oct];split
 ·rename_i x hx;exact List.mem_map.2 ⟨x,List.mem_of_find?_eq_some hx,rfl⟩
 ·exact Q4n (fun e=>Xdr h h0 (List.map_eq_nil_iff.1 e)) last
theorem Q47(last:Int):Wg [] last= -1:=rfl
theorem Qsr{l:List Zk}(h:ac l=true){i:Int}(hi:i∈ids (urg l)):0<=i:=by
 obtain⟨x,hx,rfl⟩:=List.mem_map.1 hi;exact((Zxr _ _ h).1 x (List.mem_filter.1 hx).1).1
def Zxn(s:Zh):Bool:=(s.2.2.2.2.2.2.1&&decide (s.2.1.1< (3:Int)))&& (decide ((s.2.1.2.2.1.length:Int)>(0:Int))|| (s.2.1.2.2.2.2.2.2.1==(1:Int)))
abbrev Zpg(s:Zh):Zk:=(s.1,(s.2.2.2.2.2.1,()))
def Qt4(c:Ze):List Zk:=(c.2.2.2.1.filter Zxn).map Zpg
def Zil(sk:List Int)(x:Zk):Bool:=sk.all fun i=>x.1 !=i
def Zhg(c:Ze)(sk:List Int):List Zk:=(Qt4 c).filter (Zil sk)
theorem Qz2(c:Ze): (Qt4 c).length<=c.2.2.2.1.length:=by
 unfold Qt4;rw[List.length_map];exact List.length_filter_le _ _
theorem Xgg{c:Ze}(hl:c.2.2.2.1.length<=1000000):Zo2 c=some (Qt4 c,()):=by
 have lp: ∀(N i:Nat),c.2.2.2.1.length-i<N->i<=c.2.2.2.1.length-> ∀o:List Zk,o.length<=i->Zby N c o (i:Int)=some (o++ ((c.2.2.2.1.drop i).filter Zxn).map Zpg,()):=by
  intro N
  induction N with
  |zero=>intro i h;omega
  |succ N ih=>
   intro i hN hi o ho;unfold Zby;by_cases hh:i<c.2.2.2.1.length
   ·rw[Zp (Zm (by omega)),Zb (by omega),show(i:Int).toNat=i from rfl,Xj (d:=Zn) hh];unfold Zjx;simp only;rw[Zr hh (by omega)];by_cases hw:Zxn (c.2.2.2.1.getD i Zn)=true
    ·have hw':=hw;unfold Zxn at hw;rw[Zp hw,Zb (by unfold Qg;simp only[List.length_singleton];omega),ih (i+1) (by omega) (by omega) _ (by simp;omega),List.filter_cons_of_pos hw'];simp
    ·have hw':=hw;have hw:Zxn (c.2.2.2.1.getD i Zn)=false:=by simpa using hw
     unfold Zxn at hw;rw[Zl hw,ih (i+1) (by omega) (by omega) _ (by omega),List.filter_cons_of_neg hw']
   ·rw[Zl (Zj (by omega)),List.drop_eq_nil_of_le (by omega)];simp
 unfold Zo2;have:=lp (Zdq c [] 0) 0 (by unfold Zdq;omega) (by omega) [] (by simp);unfold Qt4;simpa using this
theorem Q8q{l:List Zk}(hl:l.length<=1000000)(n:Int):Zgu l n=some (l.filter (fun x=>x.1 !=n),()):=by
 have lp: ∀(N i:Nat),l.length-i<N->i<=l.length-> ∀o:List Zk,o.length<=i->Kj N l n o (i:Int)=some (o++ (l.drop i).filter (fun x=>x.1 !=n),()):=by
  intro N
  induction N with
  |zero=>intro i h;omega
  |succ N ih=>
   intro i hN hi o ho;unfold Kj;by_cases hh:i<l.length
   ·rw[Zp (Zm (by omega)),Zb (by omega),show(i:Int).toNat=i from rfl,Xj (d:=Z5) hh];unfold Zbz;simp only;rw[Zr hh (by omega)];by_cases hw: ((l.getD i Z5).1 !=n)=true
    ·rw[Zp hw,Zb (by omega),Zb (by unfold Qg;simp only[List.length_singleton];omega),ih (i+1) (by omega) (by omega) _ (by simp;omega),List.filter_cons_of_pos (p:=fun x:Zk=>x.1 !=n) hw];simp
    ·have hw': ((l.getD i Z5).1 !=n)=false:=by simpa using hw
     rw[Zl hw',ih (i+1) (by omega) (by omega) _ (by omega),List.filter_cons_of_neg (p:=fun x:Zk=>x.1 !=n) hw]
   ·rw[Zl (Zj (by omega)),List.drop_eq_nil_of_le (by omega)];simp
 unfold Zgu;have:=lp (Wd l n [] 0) 0 (by unfold Wd;omega) (by omega) [] (by simp);simpa using this
theorem Qks(l:List Int)(hl:l.length<=1000000)(n:Int): ∀(N i:Nat),l.length-i<N->i<=l.length-> ∃v,V3 N l n (l.length:Int) (i:Int)=some (v,())/\decide (v>=0)= !(l.drop i).all fun i=>n !=i
 |0,_,h,_=>by omega
 |N+1,i,hN,hi=>by
  unfold V3;by_cases hh:i<l.length
  ·rw[Zp (Zm (by omega)),Zb (by omega),show(i:Int).toNat=i from rfl,Xj (d:=0) hh,Zr hh (by omega)];by_cases hw:n=l.getD i 0
   ·refine⟨(i:Int),by rw[Zp (by simpa using hw)],?_⟩;rw[Zm (by omega),List.all_cons,<-hw];simp
   ·obtain⟨v,h1,h2⟩:=Qks l hl n N (i+1) (by omega) (by omega);refine⟨v,by rw[Zl (beq_false_of_ne hw),h1],?_⟩;rw[h2,List.all_cons,bne,beq_false_of_ne hw];rfl
  ·refine⟨-1,by rw[Zl (Zj (by omega))],?_⟩;rw[List.drop_eq_nil_of_le (by omega)];rfl
theorem Q4s{l:List Int}(hl:l.length<=1000000)(n:Int):Zdg l n=some (!(l.all fun i=>n !=i),()):=by
 unfold Zdg Zmj;obtain⟨v,h1,h2⟩:=Qks l hl n (Vn l n (l.length:Int) 0) 0 (by unfold Vn;omega) (by omega);rw[List.drop_zero]at h2;rw[Int.natCast_zero]at h1;rw[h1,Obs,h2]
theorem Xgf{c:Ze}(hl:c.2.2.2.1.length<=1000000)(h0: ∀s∈c.2.2.2.1,0<=s.2.1.1){sk:List Int}(hk:sk.length<=1000000):Zt3 c sk=some (Zhg c sk,()):=by
 have lp: ∀(N i:Nat),c.2.2.2.1.length-i<N->i<=c.2.2.2.1.length-> ∀o:List Zk,o.length<=i->Zgk N sk o c.2.2.2.1 (c.2.2.2.1.length:Int) (i:Int)=some (o++ (((c.2.2.2.1.drop i).filter Zxn).map Zpg).filter (Zil sk),()):=by
  intro N
  induction N with
  |zero=>intro i h;omega
  |succ N ih=>
   intro i hN hi o ho;unfold Zgk;by_cases hh:i<c.2.2.2.1.length
   ·rw[Zp (Zm (by omega)),Zb (by omega),show(i:Int).toNat=i from rfl,Xj (d:=Zn) hh,Zr hh (by omega)];have hp:=h0 _ (Z2 (d:=Zn) hh);generalize c.2.2.2.1.getD i Zn=s at*
    simp only[Znj,Q4s hk,bA,bA2];rw[Zm (p:=s.2.1.1>=0) (by omega),Ota];have e3:decide (s.2.1.1<=2)=decide (s.2.1.1<3):=by congr 1;exact propext ⟨fun h=>by omega,fun h=>by omega⟩
    rw[e3];have ew: ((s.2.2.2.2.2.2.1&&decide (s.2.1.1<3))&& (decide ((s.2.1.2.2.1.length:Int)>0)|| (s.2.1.2.2.2.2.2.2.1==1)))=Zxn s:=rfl;rw[ew];by_cases hw:Zxn s=true
    ·have hf: (s::List.drop (i+1) c.2.2.2.1).filter Zxn=s:: (List.drop (i+1) c.2.2.2.1).filter Zxn:=List.filter_cons_of_pos hw;rw[hf,List.map_cons,hw,Ota,Ota,Bool.not_not];by_cases hn:Zil sk (Zpg s)=true
     ·have hn': (sk.all fun i=>s.1 !=i)=true:=hn;rw[hn',Oct,Zb (by unfold Qg;simp only[List.length_singleton];omega),ih (i+1) (by omega) (by omega) _ (by simp;omega),List.filter_cons_of_pos hn];simp
     ·have hn': (sk.all fun i=>s.1 !=i)=false:=by simpa[Zil]using hn
      rw[hn',Ocf,ih (i+1) (by omega) (by omega) _ (by omega),List.filter_cons_of_neg hn]
    ·have hf: (s::List.drop (i+1) c.2.2.2.1).filter Zxn=(List.drop (i+1) c.2.2.2.1).filter Zxn:=List.filter_cons_of_neg hw;have hw:Zxn s=false:=by simpa using hw
     rw[hf,hw,Bool.false_and,Ocf,ih (i+1) (by omega) (by omega) _ (by omega)]
   ·rw[Zl (Zj (by omega)),List.drop_eq_nil_of_le (by omega)];simp
 unfold Zt3;have:=lp (Zgz sk [] c.2.2.2.1 (c.2.2.2.1.length:Int) 0) 0 (by unfold Zgz;omega) (by omega) [] (by simp);unfold Zhg Qt4;simpa using this
theorem Qrn{l:List Zk}{last:Int}(h:0<=Wg l last):ac l=true/\ ∃x∈urg l,x.1=Wg l last:=by
 have ha:ac l=true:=by
  cases e:ac l
  ·unfold Wg at h;rw[e]at h;simp at h
  ·rfl
 have h0:l≠[]:=fun e=>by rw[e,Q47]at h;omega
 have:=Quu ha h0 last;obtain⟨x,hx,e⟩:=List.mem_map.1 this;exact⟨ha,x,hx,e⟩
theorem Qor{c:Ze}{sk:List Int}{x:Zk}(h:x∈Zhg c sk): (∃s∈c.2.2.2.1,Zxn s=true/\x=Zpg s)/\Zil sk x=true:=by
 unfold Zhg Qt4 at h;obtain⟨h1,h2⟩:=List.mem_filter.1 h;obtain⟨s,hs,e⟩:=List.mem_map.1 h1;obtain⟨h3,h4⟩:=List.mem_filter.1 hs;exact⟨⟨s,h3,h4,e.symm⟩,h2⟩
theorem Zyj{c:Ze}(hl:c.2.2.2.1.length<=1000000){sk:List Int}{last:Int}(h:0<=Wg (Zhg c sk) last):0<=Qx c.2.2.2.1 (Wg (Zhg c sk) last):=by
 obtain⟨-,x,hx,e⟩:=Qrn h;obtain⟨⟨s,hs,-,es⟩,-⟩:=Qor (List.mem_filter.1 hx).1;rw[<-e,es];by_cases hi:0<=Qx c.2.2.2.1 (Zpg s).1
 ·exact hi
 ·exact absurd rfl ((Zo5 hl (Zpg s).1).2.1 (by omega) s hs)
noncomputable def blC(c:Ze)(id:Int):Ze:=(c.1,(c.2.1,(c.2.2.1,(c.2.2.2.1.set (Qx c.2.2.2.1 id).toNat ((c.2.2.2.1.getD (Qx c.2.2.2.1 id).toNat Zn).1,((c.2.2.2.1.getD (Qx c.2.2.2.1 id).toNat Zn).2.1,(nbB (c.2.2.2.1.getD (Qx c.2.2.2.1 id).toNat Zn).2.2.1,(c.2.2.2.1.getD (Qx c.2.2.2.1 id).toNat Zn).2.2.2))),(nbB c.2.2.2.2.1,c.2.2.2.2.2)))))
theorem Zmy.set{K:Nat}{l:List Zh}(h:Zmy K l){s:Zh}(hs:Vy K s)(i:Nat):Zmy K (l.set i s):=⟨by rw[List.length_set];exact h.len,fun x hx=>by
 rcases List.mem_or_eq_of_mem_set hx with h1|h1
 ·exact h.all x h1
 ·rw[h1];exact hs⟩
theorem Qg0{K:Nat}{c:Ze}(h:Xx K c)(hK:K<=1000000){id:Int}(hi:0<=Qx c.2.2.2.1 id):Zsg c id=some ((),(blC c id,()))/\Xx K (blC c id):=by
 have hl:=h.str.len;obtain⟨h1,-,h3⟩:=Zo5 (l:=c.2.2.2.1) (by omega) id;have hm:=h.str.all _ (Z2 (d:=Zn) (show(Qx c.2.2.2.1 id).toNat<c.2.2.2.1.length by omega));have hs:Vy K ((c.2.2.2.1.getD (Qx c.2.2.2.1 id).toNat Zn).1,((c.2.2.2.1.getD (Qx c.2.2.2.1 id).toNat Zn).2.1,(nbB (c.2.2.2.1.getD (Qx c.2.2.2.1 id).toNat Zn).2.2.1,(c.2.2.2.1.getD (Qx c.2.2.2.1 id).toNat Zn).2.2.2))):=⟨hm.snd,hm.rcv⟩
 refine⟨?_,⟨h.str.set hs _,h.pk⟩⟩;unfold Zsg;rw[Zun h hK,if_pos hi];simp only[Obs,nbE];rw[Qzb h.str hs hK (by simp only;rw[h3 hi];exact hi)];simp only[Obs];rw[h3 hi];unfold blC;rw[h3 hi]
def Z50(c:X7)(n:Int):Bool:= !(((!Zsj c)||decide (n<0))||decide (n>IntKind.i64.wrap (c.1-c.2.1)))
def ucC(c:X7)(n:Int):X7:=bif Z50 c n then(c.1,(IntKind.i64.wrap (c.2.1+n),c.2.2))else c
theorem ucE(c:X7)(n:Int):Zfz c n=some (ucC c n,Z50 c n,()):=by
 unfold Zfz ucC Z50;rw[Qx6,Obs];cases (((!Zsj c)||decide (n<0))||decide (n>IntKind.i64.wrap (c.1-c.2.1)))<;>rfl
noncomputable abbrev atS(c:Ze)(id:Int):Zh:=c.2.2.2.1.getD (Qx c.2.2.2.1 id).toNat Zn
noncomputable def spV(s:Zo)(p:Z9):Zo:=bif Zt8 s p then spS s p else s
noncomputable def Zga(c:Ze)(id:Int)(p:Z9):Int:=IntKind.i64.wrap ((spV (atS c id).2.1 p).2.2.2.2.2.2.2.1- (atS c id).2.1.2.2.2.2.2.2.2.1)
noncomputable def Zn4(c:Ze)(id:Int)(p:Z9):Bool:=((Zc3 c&&decide (0<=Qx c.2.2.2.1 id))&& (atS c id).2.2.2.2.2.2.1)&& ((Zt8 (atS c id).2.1 p&&Z50 (atS c id).2.2.1 (Zga c id p))&&Z50 c.2.2.2.2.1 (Zga c id p))
noncomputable def mpC(c:Ze)(id:Int)(p:Z9):Ze:=(c.1,(c.2.1,(c.2.2.1,(c.2.2.2.1.set (Qx c.2.2.2.1 id).toNat ((atS c id).1,(spS (atS c id).2.1 p,(ucC (atS c id).2.2.1 (Zga c id p),(atS c id).2.2.2))),(ucC c.2.2.2.2.1 (Zga c id p),(c.2.2.2.2.2.1,(c.2.2.2.2.2.2.1,(c.2.2.2.2.2.2.2.1,(c.2.2.2.2.2.2.2.2.1,(c.2.2.2.2.2.2.2.2.2.1,(c.2.2.2.2.2.2.2.2.2.2.1,(c.2.2.2.2.2.2.2.2.2.2.2.1,(c.2.2.2.2.2.2.2.2.2.2.2.2.1,(id,c.2.2.2.2.2.2.2.2.2.2.2.2.2.2))))))))))))))
theorem Qav{K:Nat}{c:Ze}(h:Xx K c)(hK:K<=1000000){id:Int}{p:Z9}(ho:Zn4 c id p=true):Xx K (mpC c id p):=by
 have hl:=h.str.len;obtain⟨h1,-,h3⟩:=Zo5 (l:=c.2.2.2.1) (by omega) id;unfold Zn4 at ho;simp only[Oba,decide_eq_true_eq]at ho;obtain⟨⟨⟨-,hi⟩,-⟩,⟨hs,-⟩,-⟩:=ho;have hm:=h.str.all _ (Z2 (d:=Zn) (show(Qx c.2.2.2.1 id).toNat<c.2.2.2.1.length by omega));exact⟨h.str.set (by exact⟨Qoj hm.snd (by omega) p hs,hm.rcv⟩) _,h.pk⟩
theorem Q1c{K:Nat}{c:Ze}(h:Xx K c)(hK:K<=1000000)(id:Int)(p:Z9):Zmm c id p=some (bif Zn4 c id p then mpC c id p else c,Zn4 c id p,()):=by
 have hl:=h.str.len;obtain⟨h1,-,h3⟩:=Zo5 (l:=c.2.2.2.1) (by omega) id;unfold Zmm;rw[Zb4 h hK,Obs,Zun h hK,Obs,Qx5 h hK,Obs];by_cases hi:0<=Qx c.2.2.2.1 id
 ·rw[if_pos hi];have hm:=h.str.all _ (Z2 (d:=Zn) (show(Qx c.2.2.2.1 id).toNat<c.2.2.2.1.length by omega));have e0:Zn4 c id p=((Zc3 c&& (atS c id).2.2.2.2.2.2.1)&& ((Zt8 (atS c id).2.1 p&&Z50 (atS c id).2.2.1 (Zga c id p))&&Z50 c.2.2.2.2.1 (Zga c id p))):=by
   unfold Zn4;rw[Zm hi,Bool.and_true]
  rw[e0];simp only[Ont,Bool.or_false];cases hc:Zc3 c
  ·rfl
  ·cases hcs: (atS c id).2.2.2.2.2.2.1
   ·simp only[Ont,Bool.not_false,Bool.or_true,Oct,Bool.and_false,Bool.false_and,Ocf]
   ·simp only[Ont,Bool.or_self,Ocf,Bool.and_self,Ota];rw[Xbe hm.snd (by omega),Obs];simp only[ucE,Obs];have ev: (bif Zt8 (atS c id).2.1 p then spS (atS c id).2.1 p else(atS c id).2.1)=spV (atS c id).2.1 p:=rfl;have en:IntKind.i64.wrap ((spV (atS c id).2.1 p).2.2.2.2.2.2.2.1- (atS c id).2.1.2.2.2.2.2.2.2.1)=Zga c id p:=rfl;rw[ev,en];cases ho:Zt8 (atS c id).2.1 p
    ·rfl
    ·cases hu:Z50 (atS c id).2.2.1 (Zga c id p)
     ·rfl
     ·cases hv:Z50 c.2.2.2.2.1 (Zga c id p)
      ·rfl
      ·simp only[Ont,Bool.or_self,Ocf,Bool.and_self,Oct];have hx:Vy K ((atS c id).1,(spS (atS c id).2.1 p,(ucC (atS c id).2.2.1 (Zga c id p),(atS c id).2.2.2))):=⟨Qoj hm.snd (by omega) p ho,hm.rcv⟩
       have esv:spV (atS c id).2.1 p=spS (atS c id).2.1 p:=by unfold spV;rw[ho];rfl
       rw[esv,Qzb h.str hx hK (by simp only;rw[h3 hi];exact hi),Obs];have h3': (atS c id).1=id:=h3 hi;unfold mpC;rw[h3']
 ·rw[if_neg hi];have e0:Zn4 c id p=false:=by unfold Zn4;rw[Zj hi,Bool.and_false];rfl
  rw[e0];simp
theorem Q1b{K:Nat}{c:Ze}(h:Xx K c)(hK:K<=1000000)(id:Int)(p:Z9):Zp1 c id p=some (bif Zn4 c id p then mpC c id p else c,Zn4 c id p,()):=by
 have hl:=h.str.len;obtain⟨h1,-,h3⟩:=Zo5 (l:=c.2.2.2.1) (by omega) id;unfold Zp1;simp only[Jk,Kz];rw[Z54 h hK,Obs,Qyi (by omega),Qwf (by omega),Obs];unfold Zln;simp only[Jk,Kz];rw[Qn9 h hK,Qx5 h hK,Obs];by_cases hi:0<=Qx c.2.2.2.1 id
 ·rw[Zj (p:=Qx c.2.2.2.1 id<0) (by omega),Zb (fun _=>by omega)];have hm:=h.str.all _ (Z2 (d:=Zn) (show(Qx c.2.2.2.1 id).toNat<c.2.2.2.1.length by omega));have e0:Zn4 c id p=((Zc3 c&& (atS c id).2.2.2.2.2.2.1)&& ((Zt8 (atS c id).2.1 p&&Z50 (atS c id).2.2.1 (Zga c id p))&&Z50 c.2.2.2.2.1 (Zga c id p))):=by
   unfold Zn4;rw[Zm hi,Bool.and_true]
  rw[e0];simp only[Bool.or_false];cases hc:Zc3 c
  ·rfl
  ·cases hcs: (atS c id).2.2.2.2.2.2.1
   ·simp only[Ont,Bool.not_false,Bool.or_true,Oct,Bool.and_false,Bool.false_and,Ocf]
   ·simp only[Ont,Bool.or_self,Ocf,Bool.and_self,Ota];rw[Zb (by omega),Xe8 hm.snd (by omega),Obs];unfold Yk;simp only[Q18,ucE,Obs];have ev: (bif Zt8 (atS c id).2.1 p then spS (atS c id).2.1 p else(atS c id).2.1)=spV (atS c id).2.1 p:=rfl;have en:IntKind.i64.wrap ((spV (atS c id).2.1 p).2.2.2.2.2.2.2.1- (atS c id).2.1.2.2.2.2.2.2.2.1)=Zga c id p:=rfl;rw[ev,en,Z54 h hK,Obs];cases ho:Zt8 (atS c id).2.1 p
    ·rfl
    ·cases hu:Z50 (atS c id).2.2.1 (Zga c id p)
     ·rfl
     ·cases hv:Z50 c.2.2.2.2.1 (Zga c id p)
      ·rfl
      ·simp only[Ont,Bool.or_self,Ocf,Bool.and_self,Oct];have esv:spV (atS c id).2.1 p=spS (atS c id).2.1 p:=by unfold spV;rw[ho];rfl
       have gs: ∀x:Zh,(c.2.2.2.1.set (Qx c.2.2.2.1 id).toNat x).getD (Qx c.2.2.2.1 id).toNat Zn=x:=fun x=>by
        rw[List.getD_eq_getElem?_getD,List.getElem?_set_self (by omega)];rfl
       rw[esv,gs,List.set_set];rfl
 ·rw[Zm (p:=Qx c.2.2.2.1 id<0) (by omega)];have e0:Zn4 c id p=false:=by unfold Zn4;rw[Zj hi,Bool.and_false];rfl
  rw[e0];simp only[Bool.or_true];rw[Zb (fun h=>by cases h)];simp
def mtB(c:X7):Bool:=Zsj c&& (c.2.2.1==c.1)
theorem mtE(c:X7):Zob c=some (mtB c,()):=by
 unfold Zob;rw[Qx6];rfl
abbrev frK(k st lim:Int)(uni:Bool):Zf:=(k,(st,((0:Int),(([]:List UInt8),(false,((0:Int),(lim,((0:Int),(uni,())))))))))
abbrev frR(s:Zh):Zf:=((4:Int),(s.1,((0:Int),(([]:List UInt8),(false,(s.2.1.2.2.2.2.2.2.2.2.1,((0:Int),(s.2.1.2.2.2.2.2.2.2.1,(false,())))))))))
abbrev frT(s:Zh):Zf:=((5:Int),(s.1,((0:Int),(([]:List UInt8),(false,(s.2.2.2.2.2.2.2.2.2.2.2.2.1,((0:Int),((0:Int),(false,())))))))))
def lwW(c:Ze)(s:Zh):Qt:=bif wcB s then rwV s.2.2.2.2.1 (Zw2 c) (Znv c)else s.2.2.2.2.1
def lwT(c:Ze)(s:Zh):Bool:=wcB s&& (bif mrB s.2.2.2.2.1 then Qbz s.2.2.2.2.1 (Zw2 c) (Znv c)else s.2.2.2.2.2.2.2.2.2.2.1)
def sdB(s:Zh):Bool:=(mtB s.2.2.1&&s.2.2.2.2.2.2.1)&&decide ((s.2.1.2.2.1.length:Int)>(0:Int))
def sfL(c:Ze)(s:Zh):List Zf:=(bif s.2.2.2.2.2.2.2.2.1 then[frR s]else[])++ (bif s.2.2.2.2.2.2.2.2.2.1&&decide (s.2.2.2.1.1< (2:Int))then[frT s]else[])++ (bif lwT c s then[frK 17 s.1 (lwW c s).2.2.1 false]else[])++ (bif sdB s then[frK 21 s.1 s.2.2.1.1 false]else[])
theorem Qpb{a b:List Zf}(h:a.length+b.length<=1000000):a.length+b.length<=Qg:=by unfold Qg;omega
theorem sfE(c:Ze)(s:Zh):Zi4 c s=some (sfL c s,()):=by
 have j3: ∀o:List Zf,o.length<=10->Zhc s o=some (o++ (bif sdB s then[frK 21 s.1 s.2.2.1.1 false]else[]),()):=fun o ho=>by
  unfold Zhc;rw[mtE,Obs];cases h:sdB s
  ·unfold sdB at h;rw[Zl h,Ocf,List.append_nil]
  ·unfold sdB at h;rw[Zp h,Oct];exact Zb (Qpb (by simp;omega))
 have j2: ∀o:List Zf,o.length<=9->W7 c s o=some (o++ (bif lwT c s then[frK 17 s.1 (lwW c s).2.2.1 false]else[])++ (bif sdB s then[frK 21 s.1 s.2.2.1.1 false]else[]),()):=fun o ho=>by
  unfold W7;rw[lwE,Obs];cases h:lwT c s
  ·unfold lwT at h;rw[Zl h,j3 _ (by omega),Ocf,List.append_nil]
  ·unfold lwT at h;rw[Zp h,Oct];simp only;rw[Zb (Qpb (by simp;omega)),j3 _ (by simp;omega)];rfl
 have j1: ∀o:List Zf,o.length<=8->W6 c s o=some (o++ (bif s.2.2.2.2.2.2.2.2.2.1&&decide (s.2.2.2.1.1< (2:Int))then[frT s]else[])++ (bif lwT c s then[frK 17 s.1 (lwW c s).2.2.1 false]else[])++ (bif sdB s then[frK 21 s.1 s.2.2.1.1 false]else[]),()):=fun o ho=>by
  unfold W6;cases h:s.2.2.2.2.2.2.2.2.2.1&&decide (s.2.2.2.1.1< (2:Int))
  ·rw[Ocf,Ocf,j2 _ (by omega),List.append_nil]
  ·rw[Oct,Oct];simp only;rw[Zb (Qpb (by simp;omega)),j2 _ (by simp;omega)]
 unfold Zi4 sfL;cases s.2.2.2.2.2.2.2.2.1
 ·rw[Ocf,Ocf,j1 _ (by simp)]
 ·rw[Oct,Oct];simp only;rw[Zb (Qpb (by simp)),j1 _ (by simp)];rfl
theorem Q34(c:Ze)(s:Zh): (sfL c s).length<=4:=by
 unfold sfL;cases s.2.2.2.2.2.2.2.2.1<;>cases s.2.2.2.2.2.2.2.2.2.1&&decide (s.2.2.2.1.1< (2:Int))<;>cases lwT c s<;>cases sdB s<;>simp
def ttT(c:Ze):Bool:=bif mrB c.2.2.2.2.2.1 then Qbz c.2.2.2.2.2.1 (Zw2 c) (Znv c)else c.2.2.2.2.2.2.2.2.2.2.1
def alT(a:Qr)(t:Bool):Bool:=bif maB a then Qty a else t
def cfH(c:Ze):List Zf:=(bif ttT c then[frK 16 0 (rwV c.2.2.2.2.2.1 (Zw2 c) (Znv c)).2.2.1 false]else[])++ (bif alT c.2.2.2.2.2.2.2.2.1 c.2.2.2.2.2.2.2.2.2.2.2.1 then[frK 18 0 (raV c.2.2.2.2.2.2.2.2.1).2.1 false]else[])++ (bif alT c.2.2.2.2.2.2.2.2.2.1 c.2.2.2.2.2.2.2.2.2.2.2.2.1 then[frK 18 0 (raV c.2.2.2.2.2.2.2.2.2.1).2.1 true]else[])
def cfT(c:Ze):List Zf:=(bif mtB c.2.2.2.2.1 then[frK 20 0 c.2.2.2.2.1.1 false]else[])++ (bif c.2.2.2.2.2.2.1.2.2.1==c.2.2.2.2.2.2.1.1 then[frK 22 0 c.2.2.2.2.2.2.1.1 false]else[])++ (bif c.2.2.2.2.2.2.2.1.2.2.1==c.2.2.2.2.2.2.2.1.1 then[frK 22 0 c.2.2.2.2.2.2.2.1.1 true]else[])
noncomputable def cfL(c:Ze):List Zf:=bif Zc3 c&& !(c.2.2.2.2.2.2.2.2.2.2.2.2.2.2.2.2.2.1 !=(0:Int))then cfH c++c.2.2.2.1.flatMap (sfL c)++cfT c else[]
theorem Xd5{K:Nat}{c:Ze}(h:Xx K c)(hK:K<=100000):Zbo c=some (cfL c,()):=by
 have hl:=h.str.len;unfold Zbo cfL;rw[Q26 h (by omega),Obs];cases hc:Zc3 c&& !(c.2.2.2.2.2.2.2.2.2.2.2.2.2.2.2.2.2.1 !=(0:Int))
 ·rfl
 ·simp only[Ont,Ocf,Oct];have j5: ∀o:List Zf,o.length<=900005->Za5 c o=some (o++ (bif c.2.2.2.2.2.2.2.1.2.2.1==c.2.2.2.2.2.2.2.1.1 then[frK 22 0 c.2.2.2.2.2.2.2.1.1 true]else[]),()):=fun o ho=>by
   unfold Za5;cases c.2.2.2.2.2.2.2.1.2.2.1==c.2.2.2.2.2.2.2.1.1
   ·rw[Ocf,Ocf,List.append_nil]
   ·rw[Oct,Oct];exact Zb (Qpb (by simp;omega))
  have j4: ∀o:List Zf,o.length<=900004->Za4 c o=some (o++ (bif c.2.2.2.2.2.2.1.2.2.1==c.2.2.2.2.2.2.1.1 then[frK 22 0 c.2.2.2.2.2.2.1.1 false]else[])++ (bif c.2.2.2.2.2.2.2.1.2.2.1==c.2.2.2.2.2.2.2.1.1 then[frK 22 0 c.2.2.2.2.2.2.2.1.1 true]else[]),()):=fun o ho=>by
   unfold Za4;cases c.2.2.2.2.2.2.1.2.2.1==c.2.2.2.2.2.2.1.1
   ·rw[Ocf,Ocf,j5 _ (by omega),List.append_nil]
   ·rw[Oct,Oct];simp only;rw[Zb (Qpb (by simp;omega)),j5 _ (by simp;omega)]
  have lp: ∀(N i:Nat) (o:List Zf),c.2.2.2.1.length-i<N->i<=c.2.2.2.1.length->o.length<=4*i+3->Ja N c o (i:Int)=some (o++ (c.2.2.2.1.drop i).flatMap (sfL c)++cfT c,()):=by
   intro N
   induction N with
   |zero=>intro i o h;omega
   |succ N ih=>
    intro i o hN hi ho;unfold Ja;by_cases hh:i<c.2.2.2.1.length
    ·have hs:=Q34 c (c.2.2.2.1.getD i Zn);rw[Zp (Zm (by omega)),Zb (by omega),show(i:Int).toNat=i from rfl,sfE,Obs,Zb (Qpb (by dsimp only;omega)),Zr hh (by omega),ih (i+1) _ (by omega) (by omega) (by simp only[List.length_append];omega),Xj (d:=Zn) hh,List.flatMap_cons,List.append_assoc o]
    ·rw[Zl (Zj (by omega)),List.drop_eq_nil_of_le (by omega),mtE,Obs,List.flatMap_nil,List.append_nil];unfold cfT;cases mtB c.2.2.2.2.1
     ·rw[Ocf,Ocf,j4 _ (by omega)];simp
     ·rw[Oct,Oct];simp only;rw[Zb (Qpb (by simp;omega)),j4 _ (by simp;omega)];simp
  have j3: ∀o:List Zf,o.length<=3->K9 c o=some (o++c.2.2.2.1.flatMap (sfL c)++cfT c,()):=fun o ho=>by
   unfold K9;have:=lp (Wv c o 0) 0 o (by unfold Wv;omega) (by omega) (by omega);simpa using this
  have j2: ∀o:List Zf,o.length<=2->K8 c o=some (o++ (bif alT c.2.2.2.2.2.2.2.2.2.1 c.2.2.2.2.2.2.2.2.2.2.2.2.1 then[frK 18 0 (raV c.2.2.2.2.2.2.2.2.2.1).2.1 true]else[])++c.2.2.2.1.flatMap (sfL c)++cfT c,()):=fun o ho=>by
   unfold K8;rw[alE,Obs];change (bif alT _ _ then _ else _)=_;cases alT c.2.2.2.2.2.2.2.2.2.1 c.2.2.2.2.2.2.2.2.2.2.2.2.1
   ·rw[Ocf,Ocf,j3 _ (by omega),List.append_nil]
   ·rw[Oct,Oct];simp only;rw[Zb (Qpb (by simp;omega)),j3 _ (by simp;omega)]
  have j1: ∀o:List Zf,o.length<=1->K7 c o=some (o++ (bif alT c.2.2.2.2.2.2.2.2.1 c.2.2.2.2.2.2.2.2.2.2.2.1 then[frK 18 0 (raV c.2.2.2.2.2.2.2.2.1).2.1 false]else[])++ (bif alT c.2.2.2.2.2.2.2.2.2.1 c.2.2.2.2.2.2.2.2.2.2.2.2.1 then[frK 18 0 (raV c.2.2.2.2.2.2.2.2.2.1).2.1 true]else[])++c.2.2.2.1.flatMap (sfL c)++cfT c,()):=fun o ho=>by
   unfold K7;rw[alE,Obs];change (bif alT _ _ then _ else _)=_;cases alT c.2.2.2.2.2.2.2.2.1 c.2.2.2.2.2.2.2.2.2.2.2.1
   ·rw[Ocf,Ocf,j2 _ (by omega),List.append_nil]
   ·rw[Oct,Oct];simp only;rw[Zb (Qpb (by simp;omega)),j2 _ (by simp;omega)]
  rw[ttE,Obs];change (bif ttT c then _ else _)=_;unfold cfH;cases ttT c
  ·rw[Ocf,Ocf,j1 _ (by simp)]
  ·rw[Oct,Oct];simp only;rw[Zb (Qpb (by simp)),j1 _ (by simp)];rfl
theorem Qyj(c:Ze): ∀l:List Zh,(l.flatMap (sfL c)).length<=4*l.length
 | []=>by simp
 |x::l=>by
  have:=Qyj c l;have:=Q34 c x;rw[List.flatMap_cons,List.length_append,List.length_cons];omega
theorem Q2p(c:Ze): (cfL c).length<=4*c.2.2.2.1.length+6:=by
 unfold cfL;cases Zc3 c&& !(c.2.2.2.2.2.2.2.2.2.2.2.2.2.2.2.2.2.1 !=(0:Int))
 ·simp
 ·have h1: (cfH c).length<=3:=by
   unfold cfH;cases ttT c<;>cases alT c.2.2.2.2.2.2.2.2.1 c.2.2.2.2.2.2.2.2.2.2.2.1<;>cases alT c.2.2.2.2.2.2.2.2.2.1 c.2.2.2.2.2.2.2.2.2.2.2.2.1<;>simp
  have h2: (cfT c).length<=3:=by
   unfold cfT;cases mtB c.2.2.2.2.1<;>cases c.2.2.2.2.2.2.1.2.2.1==c.2.2.2.2.2.2.1.1<;>cases c.2.2.2.2.2.2.2.1.2.2.1==c.2.2.2.2.2.2.2.1.1<;>simp
  have h3:=Qyj c c.2.2.2.1;rw[Oct,List.length_append,List.length_append];omega
theorem Q0f{c:Ze}{f:Zf}(h:f∈cfL c):Zc3 c=true/\(f∈cfH c\/(∃s∈c.2.2.2.1,f∈sfL c s)\/f∈cfT c):=by
 unfold cfL at h;cases hc:Zc3 c&& !(c.2.2.2.2.2.2.2.2.2.2.2.2.2.2.2.2.2.1 !=(0:Int))
 ·rw[hc]at h;cases h
 ·rw[hc,Oct]at h;rw[Oba]at hc;refine⟨hc.1,?_⟩;rcases List.mem_append.1 h with h|h
  ·rcases List.mem_append.1 h with h|h
   ·exact .inl h
   ·exact .inr (.inl (List.mem_flatMap.1 h))
  ·exact .inr (.inr h)
theorem Zhn{α:Type}{b:Bool}{x y:α}(h:x∈(bif b then[y]else[])):b=true/\x=y:=by
 cases b
 ·cases h
 ·exact⟨rfl,List.mem_singleton.1 h⟩
theorem Q11{c:Ze}{s:Zh}{f:Zf}(h:f∈sfL c s): (s.2.2.2.2.2.2.2.2.1=true/\f=frR s)\/(s.2.2.2.2.2.2.2.2.2.1=true/\f=frT s)\/(lwT c s=true/\f=frK 17 s.1 (lwW c s).2.2.1 false)\/(sdB s=true/\f=frK 21 s.1 s.2.2.1.1 false):=by
 unfold sfL at h;rcases List.mem_append.1 h with h|h
 ·rcases List.mem_append.1 h with h|h
  ·rcases List.mem_append.1 h with h|h
   ·exact .inl (Zhn h)
   ·obtain⟨h1,h2⟩:=Zhn h;rw[Oba]at h1;exact .inr (.inl ⟨h1.1,h2⟩)
  ·exact .inr (.inr (.inl (Zhn h)))
 ·exact .inr (.inr (.inr (Zhn h)))
theorem Q2q{c:Ze}{f:Zf}(h:f∈cfH c):f.1=16\/f.1=18:=by
 unfold cfH at h;rcases List.mem_append.1 h with h|h
 ·rcases List.mem_append.1 h with h|h
  ·exact .inl (by rw[(Zhn h).2])
  ·exact .inr (by rw[(Zhn h).2])
 ·exact .inr (by rw[(Zhn h).2])
theorem Q2t{c:Ze}{f:Zf}(h:f∈cfT c):f.1=20\/f.1=22:=by
 unfold cfT at h;rcases List.mem_append.1 h with h|h
 ·rcases List.mem_append.1 h with h|h
  ·exact .inl (by rw[(Zhn h).2])
  ·exact .inr (by rw[(Zhn h).2])
 ·exact .inr (by rw[(Zhn h).2])
theorem Xd3{K:Nat}{c:Ze}(h:Xx K c)(hK:K<=1000000){f:Zf}(hf:f∈cfL c)(h17:f.1=17): ∀s∈c.2.2.2.1,s.1=f.2.1->wcB s=true:=by
 obtain⟨hc,hm⟩:=Q0f hf;have C:=(Z3b h hK).1 hc;rcases hm with hm| ⟨s,hs,hm⟩|hm
 ·have:=Q2q hm;omega
 ·rcases Q11 hm with⟨-,e⟩| ⟨-,e⟩| ⟨ht,e⟩| ⟨-,e⟩
  ·rw[e]at h17;cases h17
  ·rw[e]at h17;cases h17
  ·intro s2 hs2 e2;have:s2=s:=Z6l (Qgl.1 C.sts).srt hs2 hs (by rw[e2,e]);rw[this];unfold lwT at ht;rw[Oba]at ht;exact ht.1
  ·rw[e]at h17;cases h17
 ·have:=Q2t hm;omega
theorem Q6l{c:Ze}{f:Zf}(hf:f∈cfL c):f.2.2.2.1=[]:=by
 obtain⟨-,hm⟩:=Q0f hf;rcases hm with hm| ⟨s,hs,hm⟩|hm
 ·unfold cfH at hm;rcases List.mem_append.1 hm with h|h
  ·rcases List.mem_append.1 h with h|h
   ·rw[(Zhn h).2]
   ·rw[(Zhn h).2]
  ·rw[(Zhn h).2]
 ·rcases Q11 hm with⟨-,e⟩| ⟨-,e⟩| ⟨-,e⟩| ⟨-,e⟩<;>rw[e]
 ·unfold cfT at hm;rcases List.mem_append.1 hm with h|h
  ·rcases List.mem_append.1 h with h|h
   ·rw[(Zhn h).2]
   ·rw[(Zhn h).2]
  ·rw[(Zhn h).2]
def Zgv:List Zf->List Int| []=>[]|f::r=>if f.1=8 then f.2.1::Zgv r else Zgv r
theorem Zx0: ∀l:List Zf,(Zgv l).length<=l.length
 | []=>by simp[Zgv]
 |f::r=>by have:=Zx0 r;unfold Zgv;split<;>simp<;>omega
theorem Qbq: ∀(N:Nat) (pre rest:List Zf) (out:List Int),(pre++rest).length<=1048576->out.length+rest.length<=1048576->rest.length<N->
  Zdu N (pre++rest) out (pre.length:Int)=some (out++Zgv rest,())
 |0,_,_,_,_,_,h=>by omega
 |N+1,pre,[],out,_,_,_=>by
  unfold Zdu;rw[Zl (Zj (by simp))];simp[Zgv]
 |N+1,pre,f::rest,out,h1,h2,h3=>by
  unfold Zdu;simp only[List.length_append,List.length_cons]at h1 h2 h3;rw[Zp (Zm (by simp;omega)),Zb (by simp;omega)];simp only[Vh,Zoz];have e:=Q2g pre f rest;by_cases h:f.1=8
  ·rw[Zp (by simp[h]),Zb (by simp;omega),Zb (by unfold Qg;simp;omega),Zr (m:=(pre++f::rest).length) (by simp) (by simp;omega)];have:=Qbq N (pre++ [f]) rest (out++ [f.2.1]) (by simp;omega) (by simp;omega) (by omega);rw[<-e]at this;simp only[List.length_append,List.length_cons,List.length_nil,Nat.zero_add]at this;rw[this];simp[Zgv,h]
  ·rw[Zl (by simpa using h),Zr (m:=(pre++f::rest).length) (by simp) (by simp;omega)];have:=Qbq N (pre++ [f]) rest out (by simp;omega) (by omega) (by omega);rw[<-e]at this;simp only[List.length_append,List.length_cons,List.length_nil,Nat.zero_add]at this;rw[this];simp[Zgv,h]
theorem Qbp: ∀(N:Nat) (pre rest:List Zf) (out:List Int),(pre++rest).length<=1048576->out.length+rest.length<=1048576->rest.length<N->
  Zds N out (pre++rest) ((pre++rest).length:Int) (pre.length:Int)=some (out++Zgv rest,())
 |0,_,_,_,_,_,h=>by omega
 |N+1,pre,[],out,_,_,_=>by
  unfold Zds;rw[Zl (Zj (by simp))];simp[Zgv]
 |N+1,pre,f::rest,out,h1,h2,h3=>by
  unfold Zds;simp only[List.length_append,List.length_cons]at h1 h2 h3;rw[Zp (Zm (by simp;omega)),Zb (by simp;omega)];simp only[Vh];have e:=Q2g pre f rest;by_cases h:f.1=8
  ·rw[Zp (by simp[h]),Zb (by unfold Qg;simp;omega),Zr (m:=(pre++f::rest).length) (by simp) (by simp;omega)];have:=Qbp N (pre++ [f]) rest (out++ [f.2.1]) (by simp;omega) (by simp;omega) (by omega);rw[<-e]at this;simp only[List.length_append,List.length_cons,List.length_nil,Nat.zero_add]at this⊢;rw[this];simp[Zgv,h]
  ·rw[Zl (by simpa using h),Zr (m:=(pre++f::rest).length) (by simp) (by simp;omega)];have:=Qbp N (pre++ [f]) rest out (by simp;omega) (by omega) (by omega);rw[<-e]at this;simp only[List.length_append,List.length_cons,List.length_nil,Nat.zero_add]at this⊢;rw[this];simp[Zgv,h]
theorem Qrz(l:List Zf)(h:l.length<=1048576):Zqx l=some (Zgv l,())/\Zm2 l=some (Zgv l,()):=by
 constructor
 ·have:=Qbq (((l.length:Int)-0).toNat+1) [] l [] (by simpa using h) (by simpa using h) (by omega);simpa[Zqx,Zmn]using this
 ·have:=Qbp (((l.length:Int)-0).toNat+1) [] l [] (by simpa using h) (by simpa using h) (by omega);simpa[Zm2,Zl7]using this
theorem Quz(s:Zo)(id room limit:Int): ∀m:Nat,m<=60->(pfL s id room limit m).1.2.1.length<=60
 |0,_=>Nat.zero_le _
 |m+1,hm=>by
  unfold pfL;split
  ·exact Z6f (by omega)
  ·exact Quz s id room limit m (by omega)
theorem Qjk(c:Ze)(id room:Int): (pcR c id room).1.2.1.length<=60:=by
 unfold pcR;split
 ·unfold pfR;split
  ·exact Quz _ _ _ _ _ (by omega)
  ·exact Nat.zero_le _
 ·exact Nat.zero_le _
abbrev Zcd(c:Ze):Int:=c.2.2.2.2.2.2.2.2.2.2.2.2.2.1
abbrev Zxs(c:Ze):Int:=c.2.2.2.2.2.2.2.2.2.2.2.2.2.2.1
noncomputable def Zem:Nat->Ze->List Zf->Int->List Int->List Zf×Ze|0,c,fr,_,_=>(fr,c)|n+1,c,fr,room,sk=>if Wg (Zhg c sk) (Zcd c)<0 then(fr,c) else bif(pcR c (Wg (Zhg c sk) (Zcd c)) room).2.1 then (bif Zn4 c (Wg (Zhg c sk) (Zcd c)) (pcR c (Wg (Zhg c sk) (Zcd c)) room).1 then Zem n (mpC c (Wg (Zhg c sk) (Zcd c)) (pcR c (Wg (Zhg c sk) (Zcd c)) room).1) (fr++ [pfF (Wg (Zhg c sk) (Zcd c)) (pcR c (Wg (Zhg c sk) (Zcd c)) room).1]) (IntKind.i64.wrap (room-fsz (pfF (Wg (Zhg c sk) (Zcd c)) (pcR c (Wg (Zhg c sk) (Zcd c)) room).1))) sk else(fr,c)) else Zem n (blC c (Wg (Zhg c sk) (Zcd c))) fr room (sk++ [Wg (Zhg c sk) (Zcd c)])
theorem Qz1{K:Nat}{c:Ze}(h:Xx K c)(sk:List Int): (Zhg c sk).length<=K:=by
 unfold Zhg;have:=List.length_filter_le (Zil sk) (Qt4 c);have:=Qz2 c;have:=h.str.len;omega
theorem Q5a(l:List Zk):l.filter (Zil [])=l:=by
 rw[List.filter_eq_self];intro x _;rfl
theorem Q1j(l:List Zk)(i:Int)(sk:List Int): (l.filter (fun x=>x.1 !=i)).filter (Zil sk)=l.filter (Zil (i::sk)):=by
 rw[List.filter_filter];congr 1;funext x;unfold Zil;rw[List.all_cons,Bool.and_comm]
theorem Xa5{K:Nat}(hK:K<=90000): ∀(n N i:Nat) (x:Ze) (fr:List Zf) (room:Int) (sk:List Int),i+n=200->n<N->Xx K x->fr.length<=1000000+i->sk.length<=i->
  Zdy N x fr room sk (i:Int)=some (((Zem n x fr room sk).1,()),((Zem n x fr room sk).2,()))
 |_,0,_,_,_,_,_,_,h,_,_,_=>by omega
 |0,N+1,i,x,fr,room,sk,hi,hN,hx,hf,hs=>by
  unfold Zdy;rw[Zl (Zj (by omega))];rfl
 |n+1,N+1,i,x,fr,room,sk,hi,hN,hx,hf,hs=>by
  have hl:=hx.str.len;have hi':i<200:=by omega
  unfold Zdy;rw[Zp (Zm (by omega)),Xgg (by omega),Obs];have ih:=fun x fr room sk hx hf hs=>Xa5 hK n N (i+1) x fr room sk (by omega) (by omega) hx hf hs;have l2: ∀(M k:Nat) (l:List Zk),sk.length-k<M->k<=sk.length->l.length<=K->l.filter (Zil (sk.drop k))=Zhg x sk->
    Zkk (fun v=>Zdy N v.1 v.2.1 v.2.2.1 v.2.2.2.1 v.2.2.2.2.1) M x fr room sk (i:Int) l (k:Int)=some (((Zem (n+1) x fr room sk).1,()),((Zem (n+1) x fr room sk).2,())):=by
   intro M
   induction M with
   |zero=>intro k l h;omega
   |succ M ihM=>
    intro k l hM hk hl2 he;unfold Zkk;by_cases hh:k<sk.length
    ·rw[Zp (Zm (by omega)),Zb (by omega),show(k:Int).toNat=k from rfl,Q8q (by omega),Obs,Zr hh (by omega)];refine ihM (k+1) _ (by omega) (by omega) (Nat.le_trans (List.length_filter_le _ _) hl2) ?_;rw[Q1j,<-Xj (d:=0) hh];exact he
    ·rw[List.drop_eq_nil_of_le (by omega),Q5a]at he;rw[Zl (Zj (by omega)),he,Q49 _ _ (by have:=Qz1 hx sk;omega),Obs];simp only[Jk,Kz];rw[Zem];by_cases hn:Wg (Zhg x sk) (Zcd x)<0
     ·rw[Zp (Zm hn),if_pos hn]
     ·have hidx:=Zyj (c:=x) (by omega) (sk:=sk) (last:=Zcd x) (by omega);rw[Zl (Zj hn),if_neg hn];generalize Wg (Zhg x sk) (Zcd x)=id at*
      rw[Q5h hx (by omega),Obs];have hsm:=Qjk x id room;cases hp: (pcR x id room).2.1
      ·obtain⟨e1,e2⟩:=Qg0 hx (by omega) hidx;rw[e1,Obs];simp only[Bool.not_false,Oct,Ocf];rw[Zb (by unfold Qg;simp only[List.length_singleton];omega)];unfold Zkj;rw[Zr hi' (by omega)];exact ih (blC x id) fr room (sk++ [id]) e2 (by omega) (by simp;omega)
      ·simp only[Ont,Oct,Ocf];rw[Q1c hx (by omega),Obs];unfold Kq;cases hm:Zn4 x id (pcR x id room).1
       ·rfl
       ·simp only[Ont,Oct,Ocf,Zkd,Obs];rw[Zb (by unfold Qg;simp only[List.length_singleton];omega),Q79 (by unfold FOK;simp only;omega),Obs];unfold Zkj;rw[Zr hi' (by omega)];exact ih (mpC x id (pcR x id room).1) (fr++ [pfF id (pcR x id room).1]) _ sk (Qav hx (by omega) hm) (by simp;omega) (by omega)
  have hw:=Qz2 x;exact l2 _ 0 (Qt4 x) (by unfold Zmv;omega) (by omega) (by omega) (by rw[List.drop_zero];rfl)
def stN(c:Ze):Prop:= ∀s∈c.2.2.2.1,0<=s.2.1.1
theorem Q38{c:Ze}(h:stN c){i:Nat}{s:Zh}(hs:0<=s.2.1.1): ∀x∈c.2.2.2.1.set i s,0<=x.2.1.1:=fun x hx=>by
 rcases List.mem_or_eq_of_mem_set hx with h1|h1
 ·exact h x h1
 ·rw[h1];exact hs
theorem Xcz{c:Ze}(h:stN c)(hl:c.2.2.2.1.length<=1000000){id:Int}(hi:0<=Qx c.2.2.2.1 id):stN (blC c id):=by
 have h1:=(Zo5 hl id).1;have hm:=h _ (Z2 (d:=Zn) (show(Qx c.2.2.2.1 id).toNat<c.2.2.2.1.length by omega));exact Q38 h hm
theorem Xc0{c:Ze}(h:stN c)(id:Int)(p:Z9):stN (mpC c id p):=Q38 h (Qj9 _).1
theorem Xa4{K:Nat}(hK:K<=90000)(t:Ze): ∀(n N i:Nat) (x:Ze) (fr:List Zf) (room:Int) (sk:List Int),i+n=200->n<N->Xx K x->stN x->fr.length<=1000000+i->sk.length<=i->
  Jn N t x fr sk room (i:Int)=Vq t (Zem n x fr room sk).2 (Zem n x fr room sk).1
 |_,0,_,_,_,_,_,_,h,_,_,_,_=>by omega
 |0,N+1,i,x,fr,room,sk,hi,hN,hx,hst,hf,hs=>by
  unfold Jn;rw[Zl (Zj (by omega))];rfl
 |n+1,N+1,i,x,fr,room,sk,hi,hN,hx,hst,hf,hs=>by
  have hl:=hx.str.len;have hi':i<200:=by omega
  have ih:=fun x fr room sk hx hst hf hs=>Xa4 hK t n N (i+1) x fr room sk (by omega) (by omega) hx hst hf hs;unfold Jn;rw[Zp (Zm (by omega)),Xgf (by omega) hst (by omega),Obs,Q48 (Zhg x sk) _ (by have:=Qz1 hx sk;omega),Obs,Zem];by_cases hn:Wg (Zhg x sk) (Zcd x)<0
  ·rw[Zp (Zm hn),if_pos hn]
  ·have hidx:=Zyj (c:=x) (by omega) (sk:=sk) (last:=Zcd x) (by omega);rw[Zl (Zj hn),if_neg hn];generalize Wg (Zhg x sk) (Zcd x)=id at*
   rw[Q5g hx (by omega),Obs];have hsm:=Qjk x id room;have h1:=(Zo5 (l:=x.2.2.2.1) (by omega) id).1;cases hp: (pcR x id room).2.1
   ·obtain⟨e1,e2⟩:=Qg0 hx (by omega) hidx;simp only[Bool.not_false,Oct,Ocf];rw[Qyi (by omega),Qwf (by omega),Obs,Zb (by omega)];simp only[Xet,nbE,Obs];rw[Zb (by unfold Qg;simp only[List.length_singleton];omega),Zr hi' (by omega)];exact ih (blC x id) _ _ _ e2 (Xcz hst (by omega) hidx) (by omega) (by simp;omega)
   ·simp only[Ont,Oct,Ocf];rw[Q1b hx (by omega),Obs];cases hm:Zn4 x id (pcR x id room).1
    ·rfl
    ·simp only[Ont,Oct,Ocf,Zgi,Obs];rw[Zb (by unfold Qg;simp only[List.length_singleton];omega),Q78 (by unfold FOK;simp only;omega),Obs,Zr hi' (by omega)];exact ih (mpC x id (pcR x id room).1) (fr++ [pfF id (pcR x id room).1]) _ sk (Qav hx (by omega) hm) (Xc0 hst _ _) (by simp;omega) (by omega)
noncomputable def mkV(c:Ze)(f:Zf):Ze:=bif Zc3 c then mkC c f else c
theorem Qwv{c:Ze}(hl:c.2.2.2.1.length<=1000000)(f:Zf): (mkC c f).2.2.2.1=c.2.2.2.1\/(0<=Qx c.2.2.2.1 f.2.1/\(mkC c f).2.2.2.1=c.2.2.2.1.set (Qx c.2.2.2.1 f.2.1).toNat (Zh4 c (atS c f.2.1) f.1)):=by
 unfold mkC;cases f.1==(16:Int)<;>cases f.1==(18:Int)<;>cases f.1==(20:Int)<;>cases f.1==(22:Int)<;>cases f.2.2.2.2.2.2.2.2.1<;>first
  |exact .inl rfl
  | (simp only[Ocf];exact(Classical.em (0<=Qx c.2.2.2.1 f.2.1)).elim (fun hi=>by rw[if_pos hi];exact .inr ⟨hi,rfl⟩) (fun hi=>by rw[if_neg hi];exact .inl rfl))
theorem Xeo(c:Ze)(f:Zf): (mkC c f).2.2.2.2.2.2.2.2.2.2.2.2.2=c.2.2.2.2.2.2.2.2.2.2.2.2.2:=by
 unfold mkC;cases f.1==(16:Int)<;>cases f.1==(18:Int)<;>cases f.1==(20:Int)<;>cases f.1==(22:Int)<;>cases f.2.2.2.2.2.2.2.2.1<;>first
  |rfl
  | (simp only[Ocf];split<;>rfl)
theorem Q7q(c:Ze)(f:Zf): (mkV c f).2.2.2.2.2.2.2.2.2.2.2.2.2=c.2.2.2.2.2.2.2.2.2.2.2.2.2:=by
 unfold mkV;cases Zc3 c
 ·rfl
 ·exact Xeo c f
theorem Qwu{c:Ze}(hl:c.2.2.2.1.length<=1000000)(f:Zf){x:Zh}(hx:x∈(mkV c f).2.2.2.1): ∃s∈c.2.2.2.1,x.1=s.1/\x.2.1=s.2.1/\x.2.2.2.1=s.2.2.2.1/\wcB x=wcB s:=by
 unfold mkV at hx;cases hc:Zc3 c
 ·rw[hc]at hx;exact⟨x,hx,rfl,rfl,rfl,rfl⟩
 ·rw[hc,Oct]at hx;rcases Qwv hl f with e| ⟨hi,e⟩
  ·rw[e]at hx;exact⟨x,hx,rfl,rfl,rfl,rfl⟩
  ·rw[e]at hx;rcases List.mem_or_eq_of_mem_set hx with h1|h1
   ·exact⟨x,h1,rfl,rfl,rfl,rfl⟩
   ·have h2:=(Zo5 hl f.2.1).1;refine⟨atS c f.2.1,Z2 (d:=Zn) (by omega),?_⟩;rw[h1];exact⟨Qn5 _ _ _,Z3e _ _ _,Qpq _ _ _,Q9b _ _ _⟩
theorem Zwc{K:Nat}{c:Ze}(h:Xx K c)(hK:K<=1000000)(f:Zf):Xx K (mkV c f):=by
 have hl:=h.str.len;refine⟨⟨?_,fun x hx=> ?_⟩,?_⟩
 ·unfold mkV;cases Zc3 c
  ·exact hl
  ·rcases Qwv (c:=c) (by omega) f with e| ⟨-,e⟩
   ·rw[Oct,e];exact hl
   ·rw[Oct,e,List.length_set];exact hl
 ·obtain⟨s,hs,-,e1,e2,-⟩:=Qwu (by omega) f hx;have:=h.str.all s hs;exact⟨by rw[e1];exact this.snd,by rw[e2];exact this.rcv⟩
 ·rw[show(mkV c f).2.2.2.2.2.2.2.2.2.2.2.2.2.2.2.1=c.2.2.2.2.2.2.2.2.2.2.2.2.2.2.2.1 from congrArg (fun z=>z.2.2.1) (Q7q c f)];exact h.pk
noncomputable def Zc4:List Zf->Ze->List Zf->Int->Ze×List Zf×Int| [],c,fr,room=>(c,fr,room)|f::r,c,fr,room=>if fsz f<=room then Zc4 r (mkV c f) (fr++ [f]) (IntKind.i64.wrap (room-fsz f))else Zc4 r c fr room
theorem Qn2{K:Nat}(hK:K<=1000000): ∀(l:List Zf) (c:Ze) (fr:List Zf) (room:Int),Xx K c->Xx K (Zc4 l c fr room).1
 | [],_,_,_,h=>h
 |f::r,c,fr,room,h=>by
  unfold Zc4;split
  ·exact Qn2 hK r _ _ _ (Zwc h hK f)
  ·exact Qn2 hK r _ _ _ h
theorem Q0j{K:Nat}(hK:K<=1000000): ∀(l:List Zf) (c:Ze) (fr:List Zf) (room:Int),Xx K c->stN c->stN (Zc4 l c fr room).1
 | [],_,_,_,_,h=>h
 |f::r,c,fr,room,h,hs=>by
  have hl:=h.str.len;unfold Zc4;split
  ·exact Q0j hK r _ _ _ (Zwc h hK f) fun x hx=>by
    obtain⟨s,hs2,-,e,-,-⟩:=Qwu (by omega) f hx;rw[e];exact hs s hs2
  ·exact Q0j hK r _ _ _ h hs
theorem Qvy: ∀(l:List Zf) (c:Ze) (fr:List Zf) (room:Int),(Zc4 l c fr room).1.2.2.2.2.2.2.2.2.2.2.2.2.2=c.2.2.2.2.2.2.2.2.2.2.2.2.2
 | [],_,_,_=>rfl
 |f::r,c,fr,room=>by
  unfold Zc4;split
  ·rw[Qvy r,Q7q]
  ·exact Qvy r _ _ _
theorem Qn3: ∀(l:List Zf) (c:Ze) (fr:List Zf) (room:Int),(Zc4 l c fr room).2.1.length<=fr.length+l.length
 | [],_,_,_=>by simp[Zc4]
 |f::r,c,fr,room=>by
  unfold Zc4;split
  ·have:=Qn3 r (mkV c f) (fr++ [f]) (IntKind.i64.wrap (room-fsz f));simp only[List.length_append,List.length_cons,List.length_nil]at*;omega
  ·have:=Qn3 r c fr room;simp only[List.length_cons];omega
theorem Qn7: ∀(n:Nat) (c:Ze) (fr:List Zf) (room:Int) (sk:List Int),(Zem n c fr room sk).2.2.2.2.2.2.2.2.2.2.2.2.2.2.2=c.2.2.2.2.2.2.2.2.2.2.2.2.2.2
 |0,_,_,_,_=>rfl
 |n+1,c,fr,room,sk=>by
  unfold Zem;split
  ·rfl
  ·generalize Wg (Zhg c sk) (Zcd c)=id;cases (pcR c id room).2.1
   ·rw[Ocf,Qn7 n];rfl
   ·rw[Oct];cases Zn4 c id (pcR c id room).1
    ·rfl
    ·rw[Oct,Qn7 n];rfl
theorem Qqz: ∀(n:Nat) (c:Ze) (fr:List Zf) (room:Int) (sk:List Int),(Zem n c fr room sk).1.length<=fr.length+n
 |0,_,_,_,_=>by simp[Zem]
 |n+1,c,fr,room,sk=>by
  unfold Zem;split
  ·simp
  ·generalize Wg (Zhg c sk) (Zcd c)=id;cases (pcR c id room).2.1
   ·rw[Ocf];have:=Qqz n (blC c id) fr room (sk++ [id]);omega
   ·rw[Oct];cases Zn4 c id (pcR c id room).1
    ·simp
    ·rw[Oct];have:=Qqz n (mpC c id (pcR c id room).1) (fr++ [pfF id (pcR c id room).1]) (IntKind.i64.wrap (room-fsz (pfF id (pcR c id room).1))) sk;simp only[List.length_append,List.length_cons,List.length_nil]at*;omega
theorem Qqy{K:Nat}(hK:K<=1000000): ∀(n:Nat) (c:Ze) (fr:List Zf) (room:Int) (sk:List Int),Xx K c->Xx K (Zem n c fr room sk).2
 |0,_,_,_,_,h=>h
 |n+1,c,fr,room,sk,h=>by
  have hl:=h.str.len;unfold Zem;split
  ·exact h
  ·rename_i hn;have hidx:=Zyj (c:=c) (by omega) (sk:=sk) (last:=Zcd c) (by omega);generalize Wg (Zhg c sk) (Zcd c)=id at*
   cases (pcR c id room).2.1
   ·rw[Ocf];exact Qqy hK n _ _ _ _ (Qg0 h hK hidx).2
   ·rw[Oct];cases hm:Zn4 c id (pcR c id room).1
    ·exact h
    ·rw[Oct];exact Qqy hK n _ _ _ _ (Qav h hK hm)
theorem Qqx: ∀(n:Nat) (c:Ze) (fr:List Zf) (room:Int) (sk:List Int),(∀f∈fr,FOK f)-> ∀f∈(Zem n c fr room sk).1,FOK f
 |0,_,_,_,_,h=>h
 |n+1,c,fr,room,sk,h=>by
  unfold Zem;split
  ·exact h
  ·generalize Wg (Zhg c sk) (Zcd c)=id;cases (pcR c id room).2.1
   ·rw[Ocf];exact Qqx n _ _ _ _ h
   ·rw[Oct];cases Zn4 c id (pcR c id room).1
    ·exact h
    ·rw[Oct];refine Qqx n _ _ _ _ fun f hf=> ?_;rcases List.mem_append.1 hf with hf|hf
     ·exact h f hf
     ·have:=Qjk c id room;rw[List.mem_singleton.1 hf];unfold FOK;simp only;omega
theorem Qvw: ∀(l:List Zf) (c:Ze) (fr:List Zf) (room:Int),(∀f∈l,FOK f)->(∀f∈fr,FOK f)-> ∀f∈(Zc4 l c fr room).2.1,FOK f
 | [],_,_,_,_,h=>h
 |g::r,c,fr,room,h1,h=>by
  unfold Zc4;split
  ·refine Qvw r _ _ _ (fun f hf=>h1 f (List.mem_cons_of_mem _ hf)) fun f hf=> ?_;rcases List.mem_append.1 hf with hf|hf
   ·exact h f hf
   ·rw[List.mem_singleton.1 hf];exact h1 g List.mem_cons_self
  ·exact Qvw r _ _ _ (fun f hf=>h1 f (List.mem_cons_of_mem _ hf)) h
end Go.Proofs.YtdhchdiikmnmeaaGreat

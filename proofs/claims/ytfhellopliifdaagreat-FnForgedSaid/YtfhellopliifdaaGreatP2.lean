/- FnForged: the plain law, part 2. No condition. -/
import Derived.Test.YtfhellopliifdaaGreatP1
set_option linter.all false
namespace Go.Proofs.YtfhellopliifdaaGreat
open Go.Am
set_option maxRecDepth 100000
def inB(n a b:Int):Bool:=decide (n>=a)&&decide (n<=b)
theorem Zh8{n a b:Int}:inB n a b=true↔a<=n/\n<=b:=by unfold inB;simp
theorem inQ(n a b:Int):Z8 n a b=some (inB n a b,()):=rfl
def Qaf(c:Xy):Bool:=((Zd5 c.1&&inB c.2.1 0 c.1)&&inB c.2.2.1 (-1) c.1)&&inB c.2.2.2.1 (-1) c.1
theorem Qqf(c:Xy):Kp c=some (Qaf c,()):=by
 unfold Kp;simp only[Kz,inQ,Obs,bA,bA2];rfl
structure Q40(c:Xy):Prop where
 lim:c.1<=4611686018427387903
 use0:0<=c.2.1
 use:c.2.1<=c.1
 blk0: -1<=c.2.2.1
 blk:c.2.2.1<=c.1
 told0: -1<=c.2.2.2.1
 told:c.2.2.2.1<=c.1
theorem Qnm{c:Xy}:Qaf c=true↔Q40 c:=by
 unfold Qaf;simp only[Oba,Km,Zh8];exact⟨λh=>⟨by omega,by omega,by omega,by omega,by omega,by omega,by omega⟩,λh=>by obtain⟨_,_,_,_,_,_,_⟩:=h;omega⟩
def Z7h(w:Qg):Bool:=(((((inB w.2.1 1 4096&&inB w.1 1 w.2.1)&&inB w.2.2.1 1 4611686018427387903)&&inB w.2.2.2.1 0 w.2.2.1)&&inB w.2.2.2.2.1 0 w.2.2.2.1)&&decide (w.2.2.1<=IntKind.i64.wrap (w.2.2.2.2.1+w.1)))&&inB w.2.2.2.2.2.1 0 1000000
theorem Qxv(w:Qg):V0 w=some (Z7h w,()):=by
 unfold V0;simp only[inQ,Obs,bA,bA2];rfl
structure Qp8(w:Qg):Prop where
 most:1<=w.2.1/\w.2.1<=4096
 size:1<=w.1/\w.1<=w.2.1
 lim:1<=w.2.2.1/\w.2.2.1<=4611686018427387903
 seen:0<=w.2.2.2.1/\w.2.2.2.1<=w.2.2.1
 read:0<=w.2.2.2.2.1/\w.2.2.2.2.1<=w.2.2.2.1
 lr:w.2.2.1<=w.2.2.2.2.1+w.1
 since:0<=w.2.2.2.2.2.1/\w.2.2.2.2.2.1<=1000000
theorem Z1u{w:Qg}:Z7h w=true↔Qp8 w:=by
 unfold Z7h;simp only[Oba,Zh8,decide_eq_true_eq];constructor
 ·rintro⟨⟨⟨⟨⟨⟨b,c⟩,d⟩,e⟩,f⟩,a⟩,g⟩;rw[Zs]at a;exact⟨b,c,d,e,f,a,g⟩
 ·rintro⟨b,c,d,e,f,a,g⟩
  grind[Zs]
def prB(p:X8):Bool:=inB p.1 0 7
theorem prE(p:X8):Zbs p=some (prB p,()):=rfl
def Qcj(c:Ze2):Bool:=(inB c.1 0 1152921504606846976&&inB c.2.1 0 c.1)&&inB c.2.2.1 (-1) c.1
theorem Xdw(c:Ze2):Zf0 c=some (Qcj c,()):=by
 unfold Zf0;simp only[inQ,Obs,bA,bA2];rfl
theorem Xg8{c:Ze2}:Qcj c=true↔(0<=c.1/\c.1<=1152921504606846976)/\(0<=c.2.1/\c.2.1<=c.1)/\ -1<=c.2.2.1/\c.2.2.1<=c.1:=by
 simp_all[Qcj,Zh8,and_assoc]
def Z7j(a:Qt):Bool:=(((inB a.1 0 1000&&inB a.2.1 a.1 1152921504606846976)&&inB a.2.2.1 0 a.2.1)&&inB a.2.2.2.1 0 a.2.2.1)&&decide (a.2.1<=IntKind.i64.wrap (a.2.2.2.1+a.1))
theorem Q5a(a:Qt):Zas a=some (Z7j a,()):=by
 unfold Zas;simp only[inQ,Obs,bA,bA2];rfl
structure Q2x(a:Qt):Prop where
 most:0<=a.1/\a.1<=1000
 lim:a.1<=a.2.1/\a.2.1<=1152921504606846976
 seen:0<=a.2.2.1/\a.2.2.1<=a.2.1
 clo:0<=a.2.2.2.1/\a.2.2.2.1<=a.2.2.1
 lc:a.2.1<=a.2.2.2.1+a.1
theorem Qca{a:Qt}:Z7j a=true↔Q2x a:=by
 unfold Z7j;simp only[Oba,Zh8,decide_eq_true_eq];constructor
 ·rintro⟨⟨⟨⟨c,d⟩,e⟩,f⟩,b⟩;rw[Zs]at b;exact⟨c,d,e,f,b⟩
 ·rintro⟨c,d,e,f,b⟩
  grind[Zs]
noncomputable def cfB(c:Zic):Bool:=match Za9 c with|some (b,_)=>b|none=>false
theorem cfE(c:Zic):Za9 c=some (cfB c,()):=by
 obtain⟨b,e⟩:=Zw7 c
 grind[cfB]
structure Xjz(s:Zp):Prop where
 whole:Qeh s (Zvf (Zvf s.2.2.1 s.2.2.2.1) s.2.2.2.2.1)=true
 gap:Qe7 s.2.2.2.2.1 0=s.2.1.2.1
 code:s.2.2.2.2.2.2.2.2.1=0
 fl:hiB s.2.2.2.2.2.2.2.1 s.2.2.2.1=true
 ac:hiB s.2.2.2.2.2.2.2.1 s.2.2.2.2.1=true
 fin:Qn1 s=true
 st:s.1=stF s
structure Q43(s:Zp):Prop where
 ring:Zuy s.2.1=true
 pr:rsB (-1) s.2.2.1=true
 fr:rsB (-1) s.2.2.2.1=true
 ar:rsB (-1) s.2.2.2.2.1=true
 sent:0<=s.2.2.2.2.2.2.2.1/\s.2.2.2.2.2.2.2.1<=s.2.1.2.2.1
 code:0<=s.2.2.2.2.2.2.2.2.1/\s.2.2.2.2.2.2.2.2.1<=4611686018427387903
 fin:0<=s.2.2.2.2.2.2.1/\s.2.2.2.2.2.2.1<=3
 rst:s.1=4\/s.1=5->s.2.1.2.1=s.2.1.2.2.1/\s.2.2.1=[]/\s.2.2.2.1=[]/\s.2.2.2.2.1=[]/\s.2.2.2.2.2.1=s.2.2.2.2.2.2.2.1/\s.2.2.2.2.2.2.1=0/\s.2.2.2.2.2.2.2.1=s.2.1.2.2.1
 no:¬(s.1=4\/s.1=5)->Xjz s
noncomputable def Z9h(s:Zp):Bool:=match Y5 s with|some (b,_)=>b|none=>false
theorem Qz4{K:Int}{s:Zp}(hs:Zbd K s)(hK:K<=1000000):Y5 s=some (Z9h s,()):=by
 grind[Zkq,Z9h]
theorem Qxh{K:Int}{s:Zp}(hs:Zbd K s)(hK:K<=1000000):Z9h s=true↔Q43 s:=by
 have q:=Q4 hs.pend hs.e0 hs.eK hK;have r:=Q4 hs.flight hs.e0 hs.eK hK;have t:=Q4 hs.acked hs.e0 hs.eK hK;have p:=(Zw8 s.2.1 (by have:=hs.cells;omega)).1;have o:=Xfj hs hK (Jn s s.2.2.1 0) 0 s.2.2.1 hs.pend (by simp[Jn]) (by omega);simp only[Int.natCast_zero,List.drop_zero]at o;unfold Z9h Y5;rw[p,Zes _,Zes _,Zes _];simp only[Kz,inQ,Obs,bO,bO2,hs.pend.1,hs.flight.1,hs.acked.1,Ont,Bool.or_false,o];by_cases f:(((!Zuy s.2.1|| !inB s.2.2.2.2.2.2.2.1 0 s.2.1.2.2.1)|| !Zd5 s.2.2.2.2.2.2.2.2.1)|| !inB s.2.2.2.2.2.2.1 0 3)=true
 ·rw[f,Oct];refine⟨λh=>Bool.noConfusion h,λh=>?_⟩;have a:=h.ring;have b:=Zh8.2 h.sent;have c:=Km.2 h.code;have d:=Zh8.2 h.fin;simp_all
 ·have f:(((!Zuy s.2.1|| !inB s.2.2.2.2.2.2.2.1 0 s.2.1.2.2.1)|| !Zd5 s.2.2.2.2.2.2.2.2.1)|| !inB s.2.2.2.2.2.2.1 0 3)=false:=by simpa using f
  rw[f,Ocf];simp only[Bool.or_eq_false_iff,Bool.not_eq_false']at f;obtain⟨⟨⟨a,b⟩,c⟩,d⟩:=f;by_cases e:s.1=4\/s.1=5
  ·have:((s.1==4)||(s.1==5))=true:=by simpa using e
   rw[this,Oct];simp only[Oba,beq_iff_eq];constructor
   ·rintro⟨⟨⟨⟨⟨⟨g,l⟩,m⟩,n⟩,i⟩,j⟩,k⟩;exact⟨a,hs.pend.1,hs.flight.1,hs.acked.1,Zh8.1 b,Km.1 c,Zh8.1 d,λ_=>⟨g,List.length_eq_zero_iff.1 (by omega),List.length_eq_zero_iff.1 (by omega),List.length_eq_zero_iff.1 (by omega),i,j,k⟩,λh=>absurd e h⟩
   ·intro h;obtain⟨g,l,m,n,i,j,k⟩:=h.rst e;simp_all
  ·have:((s.1==4)||(s.1==5))=false:=by simpa using e
   rw[this,Ocf];simp only[Oba,beq_iff_eq];constructor
   ·rintro⟨g,l,m,n,i,j,k⟩;exact⟨a,hs.pend.1,hs.flight.1,hs.acked.1,Zh8.1 b,Km.1 c,Zh8.1 d,λh=>absurd h e,λ_=>⟨g,l,m,n,i,j,k⟩⟩
   ·intro h;obtain⟨g,l,m,n,i,j,k⟩:=h.no e;simp_all
noncomputable def Qpg(r:Zx):Bool:=match Xq r with|some (b,_)=>b|none=>false
theorem Qqq{K:Nat}{r:Zx}(h:Zhn K r.2.1)(hK:K<=1000000:=by omega):Xq r=some (Qpg r,()):=by
 grind[Zol,Qpg]
theorem Xfd{K:Nat}{r:Zx}(h:Zhn K r.2.1)(hK:K<=1000000)(hb:Qpg r=true):0<=r.1:=by
 have e:=Qqq h hK;rw[hb]at e;unfold Xq at e;have j:=h.len;obtain⟨v,k⟩:=Q55 h hK;rw[Zjh _,Zrb _,k]at e;simp only[Obs,Kz,Ju]at e;by_cases i:0<=r.1
 ·exact i
 ·exfalso;have a:(r.1==0)=false:=by simp;omega
  have b:(r.1==1)=false:=by simp;omega
  have c:(r.1==2)=false:=by simp;omega
  have d:(r.1==3)=false:=by simp;omega
  have f:(r.1==4)=false:=by simp;omega
  have g:(r.1==5)=false:=by simp;omega
  simp_all[Ke]
noncomputable def stB(s:Zg):Bool:=((((((((Zd5 s.1&&Z9h s.2.1)&&Qaf s.2.2.1)&&Qpg s.2.2.2.1)&&Z7h s.2.2.2.2.1)&&prB s.2.2.2.2.2.1)&&Zd5 s.2.2.2.2.2.2.2.2.2.2.2.2.1)&&(s.2.2.2.2.2.2.1||s.2.2.2.2.2.2.2.1))&&!(((((decide (s.2.1.2.2.2.2.2.2.2.1>s.2.2.1.2.1))||(decide (s.2.2.2.1.2.2.2.1>s.2.2.2.2.1.2.2.2.1)))||(s.2.2.2.2.2.2.2.2.1&&(s.2.1.1 !=(4:Int))))||(s.2.2.2.2.2.2.2.2.2.1&&(!s.2.2.2.2.2.2.2.2.2.2.2.1)))||((s.2.2.2.2.2.2.2.2.2.2.2.2.1 !=(0:Int))&&(!s.2.2.2.2.2.2.2.2.2.2.2.1))))&&((s.2.2.2.2.2.2.1||(((s.2.1.1==(0:Int))&&(s.2.1.2.1.2.2.1==(0:Int)))&&(s.2.1.2.2.2.2.2.1==(-1:Int))))&&(s.2.2.2.2.2.2.2.1||(((s.2.2.2.1.1==(0:Int))&&(s.2.2.2.1.2.2.2.1==(0:Int)))&&(!s.2.2.2.2.2.2.2.2.2.2.2.1))))
theorem stE{K:Nat}{s:Zg}(h:Xl K s)(hK:K<=1000000):Zbl s=some (stB s,()):=by
 unfold Zbl stB;simp only[Qz4 h.snd (by omega),Qqq h.rcv hK,Qqf,Qxv,prE,Kz,Obs,bO,bO2]
 grind
noncomputable def sB:Option Int->List Zg->Bool
 |_,[]=>true
 |p,x::r=>(stB x&&(match p with|none=>true|some q=>decide (q<x.1)))&&sB (some x.1) r
theorem Q79:∀{l:List Zg}{p:Option Int},sB p l=true↔(∀s∈l,stB s=true)/\l.Pairwise (λa b=>a.1<b.1)/\ ∀q,p=some q-> ∀s∈l,q<s.1
 |[],p=>by simp[sB]
 |x::r,p=>by
  have c:(match p with|none=>true|some q=>decide (q<x.1))=true↔ ∀q,p=some q->q<x.1:=by cases p<;>simp
  simp only[sB,Oba,c,Q79 (l:=r),List.pairwise_cons,List.mem_cons,forall_eq_or_imp]
  grind
def pvS(l:List Zg)(i:Nat):Option Int:=if i=0 then none else some (l.getD (i-1) Zj).1
theorem Q5c{K:Nat}{l:List Zg}(h:Zg7 K l)(hK:K<=1000000):∀(N i:Nat),l.length-i<N->i<=l.length->Kc N l (i:Int)=some (sB (pvS l i) (l.drop i)&&decide ((l.length:Int)<=24),())
 |0,_,h,_=>by omega
 |N+1,i,n,o=>by
  have c:=h.len;rw[Kc];by_cases b:i<l.length
  ·have g:∀{a:Prop},a->decide ((i:Int)>0)=true->0<=IntKind.i64.wrap ((i:Int)-1)/\IntKind.i64.wrap ((i:Int)-1)<(l.length:Int):=λ_ h=>by
    have:=Ode h;grind[Zs]
   rw[Zm (Zl),Zb,show(i:Int).toNat=i from rfl,stE (h.all _ (Z5 (d:=Zj) b)) hK,Obs,Zb (λ_ _=>by omega),Zb (λh j=>g h j),Zr b,Q5c h hK N (i+1) (by omega) (by omega),Xh (d:=Zj) b];have e:pvS l (i+1)=some (l.getD i Zj).1:=by rfl
   rw[e];simp only[sB];by_cases k:i=0
   ·subst k;have f:pvS l 0=none:=rfl
    grind
   ·have f:pvS l i=some (l.getD (i-1) Zj).1:=by simp_all[pvS]
    have m:(IntKind.i64.wrap ((i:Int)-1)).toNat=i-1:=by grind[Zs]
    rw[f,Zl (p:=(i:Int)>0),m]
    grind
  simp_all[Zn,List.drop_eq_nil_of_le,sB]
structure Q87(l:List Zg):Prop where
 all:∀s∈l,stB s=true
 srt:l.Pairwise λa b=>a.1<b.1
 len:l.length<=24
noncomputable def Qus(l:List Zg):Bool:=sB none l&&decide ((l.length:Int)<=24)
theorem Xfn{K:Nat}{l:List Zg}(h:Zg7 K l)(hK:K<=1000000):Jt l=some (Qus l,()):=by
 unfold Jt;exact Q5c h hK _ 0 (by simp[Zcm]) (by omega)
theorem Qqy{l:List Zg}:Qus l=true↔Q87 l:=by
 unfold Qus;simp only[Oba,Q79,decide_eq_true_eq];constructor
 ·rintro⟨⟨a,b,-⟩,c⟩;exact⟨a,b,by omega⟩
 ·rintro⟨a,b,c⟩
  grind
def Qqv(f:Zg->Int):List Zg->Int->Int|[],n=>n|x::r,n=>Qqv f r (min (IntKind.i64.wrap (n+f x)) 4611686018427387904)
def Z5b(f:Zg->Int):List Zg->Int|[]=>0|x::r=>f x+Z5b f r
theorem Qg7{f:Zg->Int}:∀{l:List Zg}{n:Int},(∀s∈l,0<=f s/\f s<=4611686018427387903)->0<=n->n<=4611686018427387904->Qqv f l n=min (n+Z5b f l) 4611686018427387904/\0<=Z5b f l
 |[],n,_,c,d=>by grind[Qqv,Z5b]
 |x::r,n,h,c,d=>by
  have hx:=h x (List.mem_cons_self);simp only[Qqv,Z5b];rw[Zs];obtain⟨a,b⟩:=Qg7 (f:=f) (l:=r) (n:=min (n+f x) 4611686018427387904) (λs e=>h s (List.mem_cons_of_mem _ e)) (by omega) (by omega);rw[a];omega
def Z6h(s:Zg):Int:=s.2.1.2.2.2.2.2.2.2.1
def Z5q(s:Zg):Int:=s.2.2.2.1.2.2.2.1
theorem Xip{K:Nat}{l:List Zg}(h:Zg7 K l)(hK:K<=1000000)(hb:Qus l=true):Zgi l=some (Qqv Z6h l 0,()):=by
 have a:=h.len;have e:∀(N i:Nat)(n:Int),l.length-i<N->i<=l.length->J2 N l n (i:Int)=some (Qqv Z6h (l.drop i) n,()):=by
  intro N
  induction N with
  |zero=>omega
  |succ N c=>
   intro i n f g;unfold J2;rw[Xfn h hK,hb,Ju,Obs];by_cases b:i<l.length
   ·rw[Zl];simp only[Oct,Bool.and_self];rw[Zb,Zr b,c (i+1) _ (by omega) (by omega),Xh (d:=Zj) b];rfl
   ·rw[Zn,List.drop_eq_nil_of_le (by omega)];rfl
 grind[Zgi,Ja]
theorem Xio{K:Nat}{l:List Zg}(h:Zg7 K l)(hK:K<=1000000)(hb:Qus l=true):Zgh l=some (Qqv Z5q l 0,()):=by
 have a:=h.len;have e:∀(N i:Nat)(n:Int),l.length-i<N->i<=l.length->J1 N l n (i:Int)=some (Qqv Z5q (l.drop i) n,()):=by
  intro N
  induction N with
  |zero=>omega
  |succ N c=>
   intro i n f g;unfold J1;rw[Xfn h hK,hb,Ju,Obs];by_cases b:i<l.length
   ·rw[Zl];simp only[Oct,Bool.and_self];rw[Zb,Zr b,c (i+1) _ (by omega) (by omega),Xh (d:=Zj) b];rfl
   ·rw[Zn,List.drop_eq_nil_of_le (by omega)];rfl
 grind[Zgh,K9]
theorem Xkh{l:List Zf}(h:Qek l):Zgj l=some (l.all Xz,()):=by
 have c:=h.1;have g:∀(N i:Nat),l.length-i<N->i<=l.length->Wj N l (i:Int)=some ((l.drop i).all Xz,()):=by
  intro N
  induction N with
  |zero=>intro i h;omega
  |succ N e=>
   intro i j k;unfold Wj;by_cases a:i<l.length
   ·have f:FOK (l.getD i Qk):=h.2 _ (Z5 a);unfold FOK at f;rw[Zm (Zl),Zb,show(i:Int).toNat=i from rfl,Zwo _,Obs,Zr a,e (i+1) (by omega) (by omega),Xh (d:=Qk) a,List.all_cons];generalize Xz (l.getD i Qk)=b;cases b<;>rfl
   grind
 grind[Zgj,Vi]
def pkB(n:Int):Option Int->List Qb->Bool
 |_,[]=>true
 |p,x::r=>((inB x.1 0 (IntKind.i64.wrap (n-1))&&(match p with|none=>true|some q=>decide (q<x.1)))&&x.2.1.all Xz)&&pkB n (some x.1) r
def pvP(l:List Qb)(i:Nat):Option Int:=if i=0 then none else some (l.getD (i-1) Q6).1
noncomputable def Z9m(c:Zc):Bool:=((((inB c.2.2.2.2.2.2.2.2.2.2.2.2.2.1 (-1) 4611686018427387903&&inB c.2.2.2.2.2.2.2.2.2.2.2.2.2.2.1 0 1000000)&&inB c.2.2.2.2.2.2.2.2.2.2.2.2.2.2.2.2.1 0 1000000)&&inB c.2.2.2.2.2.2.2.2.2.2.2.2.2.2.2.2.2.1 0 255)&&decide (Qqv Z6h c.2.2.2.1 0<=c.2.2.2.2.1.2.1))&&decide (Qqv Z5q c.2.2.2.1 0<=c.2.2.2.2.2.1.2.2.2.1)
theorem Q0q{K:Nat}{c:Zc}(h:Z4 K c)(hK:K<=1000000)(hb:Qus c.2.2.2.1=true):∀(N i:Nat),c.2.2.2.2.2.2.2.2.2.2.2.2.2.2.2.1.length-i<N->i<=c.2.2.2.2.2.2.2.2.2.2.2.2.2.2.2.1.length->
  Zac N c (i:Int)=some (pkB c.2.2.2.2.2.2.2.2.2.2.2.2.2.2.1 (pvP c.2.2.2.2.2.2.2.2.2.2.2.2.2.2.2.1 i) (c.2.2.2.2.2.2.2.2.2.2.2.2.2.2.2.1.drop i)&&Z9m c,())
 |0,_,h,_=>by omega
 |N+1,i,q,r=>by
  have f:=h.pk.1;rw[Zac];by_cases b:i<c.2.2.2.2.2.2.2.2.2.2.2.2.2.2.2.1.length
  ·have j:=Q0q h hK hb N (i+1) (by omega) (by omega);have k:=h.pk.2 _ (Z5 (d:=Q6) b);generalize c.2.2.2.2.2.2.2.2.2.2.2.2.2.2.1=n at*
   generalize c.2.2.2.2.2.2.2.2.2.2.2.2.2.2.2.1=l at*
   have g:∀{a:Prop},a->decide ((i:Int)>0)=true->0<=IntKind.i64.wrap ((i:Int)-1)/\IntKind.i64.wrap ((i:Int)-1)<(l.length:Int):=λ_ h=>by
    have:=Ode h;grind[Zs]
   rw[Zm (Zl),Zb,show(i:Int).toNat=i from rfl,inQ,Obs,Zb (λ_ _=>by omega),Zb (λh m=>g h m),Zb (λ_=>by omega),Zr b,j,Xh (d:=Q6) b,Xkh k,Ju,Obs];have e:pvP l (i+1)=some (l.getD i Q6).1:=by rfl
   rw[e];simp only[pkB];by_cases o:i=0
   ·subst o;have p:pvP l 0=none:=rfl
    grind
   ·have p:pvP l i=some (l.getD (i-1) Q6).1:=by simp_all[pvP]
    have s:(IntKind.i64.wrap ((i:Int)-1)).toNat=i-1:=by grind[Zs]
    grind
  ·rw[Zo (Zn),List.drop_eq_nil_of_le (by omega)];simp only[pkB,Ota,inQ,Obs,bA,bA2,Xip h.str hK hb,Xio h.str hK hb];unfold Z9m
   grind
structure Zsp(c:Zc):Prop where
 own:cfB c.2.1=true
 peer:cfB c.2.2.1=true
 sts:Qus c.2.2.2.1=true
 tot:Qaf c.2.2.2.2.1=true
 inf:Z7h c.2.2.2.2.2.1=true
 ob:Qcj c.2.2.2.2.2.2.1=true
 ou:Qcj c.2.2.2.2.2.2.2.1=true
 ab:Z7j c.2.2.2.2.2.2.2.2.1=true
 au:Z7j c.2.2.2.2.2.2.2.2.2.1=true
 pks:pkB c.2.2.2.2.2.2.2.2.2.2.2.2.2.2.1 none c.2.2.2.2.2.2.2.2.2.2.2.2.2.2.2.1=true
 tail:Z9m c=true
noncomputable def Zbx(c:Zc):Bool:=match X9 c with|some (b,_)=>b|none=>false
theorem Z0k{K:Nat}{c:Zc}(h:Z4 K c)(hK:K<=1000000:=by omega):X9 c=some (Zbx c,()):=by
 obtain⟨⟨b,u⟩,e,-⟩:=Z3o h hK
 grind[Zbx]
theorem Z7v{K:Nat}{c:Zc}(h:Z4 K c)(hK:K<=1000000:=by omega):Zbx c=true↔Zsp c:=by
 unfold Zbx X9;simp only[cfE,Xfn h.str hK,Qqf,Qxv,Xdw,Q5a,Obs,bO,bO2];by_cases a:((((((((!cfB c.2.1|| !cfB c.2.2.1)|| !Qus c.2.2.2.1)|| !Qaf c.2.2.2.2.1)|| !Z7h c.2.2.2.2.2.1)|| !Qcj c.2.2.2.2.2.2.1)|| !Qcj c.2.2.2.2.2.2.2.1)|| !Z7j c.2.2.2.2.2.2.2.2.1)|| !Z7j c.2.2.2.2.2.2.2.2.2.1)=true
 ·rw[a,Oct];refine⟨λh=>Bool.noConfusion h,λh=>?_⟩;rw[h.own,h.peer,h.sts,h.tot,h.inf,h.ob,h.ou,h.ab,h.au]at a;simp at a
 ·have a:((((((((!cfB c.2.1|| !cfB c.2.2.1)|| !Qus c.2.2.2.1)|| !Qaf c.2.2.2.2.1)|| !Z7h c.2.2.2.2.2.1)|| !Qcj c.2.2.2.2.2.2.1)|| !Qcj c.2.2.2.2.2.2.2.1)|| !Z7j c.2.2.2.2.2.2.2.2.1)|| !Z7j c.2.2.2.2.2.2.2.2.2.1)=false:=by simpa using a
  rw[a,Ocf];simp only[Bool.or_eq_false_iff,Bool.not_eq_false']at a;obtain⟨⟨⟨⟨⟨⟨⟨⟨e,f⟩,b⟩,g⟩,i⟩,j⟩,k⟩,l⟩,m⟩:=a;have d:=Q0q h hK b (Js c 0) 0 (by simp[Js]) (by omega);simp only[Int.natCast_zero,List.drop_zero]at d;rw[d];simp only[Oba];exact⟨λh=>⟨e,f,b,g,i,j,k,l,m,h.1,h.2⟩,λh=>⟨h.pks,h.tail⟩⟩
structure StF(s:Zg):Prop where
 id:0<=s.1/\s.1<=4611686018427387903
 snd:Q43 s.2.1
 cre:Q40 s.2.2.1
 rcv:Qpg s.2.2.2.1=true
 win:Qp8 s.2.2.2.2.1
 pr:0<=s.2.2.2.2.2.1.1/\s.2.2.2.2.2.1.1<=7
 code:0<=s.2.2.2.2.2.2.2.2.2.2.2.2.1/\s.2.2.2.2.2.2.2.2.2.2.2.2.1<=4611686018427387903
 can:s.2.2.2.2.2.2.1=true\/s.2.2.2.2.2.2.2.1=true
 su:s.2.1.2.2.2.2.2.2.2.1<=s.2.2.1.2.1
 hs:s.2.2.2.1.2.2.2.1<=s.2.2.2.2.1.2.2.2.1
 tr:s.2.2.2.2.2.2.2.2.1=true->s.2.1.1=4
 ts:s.2.2.2.2.2.2.2.2.2.1=true->s.2.2.2.2.2.2.2.2.2.2.2.1=true
 sc:s.2.2.2.2.2.2.2.2.2.2.2.2.1≠0->s.2.2.2.2.2.2.2.2.2.2.2.1=true
 cs:s.2.2.2.2.2.2.1=true\/(s.2.1.1=0/\s.2.1.2.1.2.2.1=0/\s.2.1.2.2.2.2.2.1= -1)
 cr:s.2.2.2.2.2.2.2.1=true\/(s.2.2.2.1.1=0/\s.2.2.2.1.2.2.2.1=0/\s.2.2.2.2.2.2.2.2.2.2.2.1=false)
theorem Xi8{K:Nat}{s:Zg}(h:Xl K s)(hK:K<=1000000):stB s=true↔StF s:=by
 unfold stB prB;simp only[Oba,Bool.or_eq_true,Bool.not_eq_true',Bool.or_eq_false_iff,Bool.and_eq_false_iff,decide_eq_false_iff_not,bne_eq_false_iff_eq,beq_iff_eq,Zh8,Km,Qxh h.snd (show(K:Int)<=1000000 by omega),Qnm,Z1u,Bool.not_eq_false'];constructor
 ·rintro⟨⟨⟨⟨⟨⟨⟨⟨⟨g,i⟩,j⟩,k⟩,l⟩,m⟩,n⟩,o⟩,⟨⟨⟨p,a⟩,b⟩,c⟩,d⟩,e,f⟩;exact⟨g,i,j,k,l,m,n,o,by omega,by omega,λh=>by simp_all,λh=>by simp_all,
   λh=>by simp_all,by grind,by grind⟩
 ·rintro⟨g,i,j,k,l,m,n,o,p,a,b,c,d,e,f⟩
  grind
theorem Zsp.st{K:Nat}{c:Zc}(hc:Zsp c)(h:Z4 K c)(hK:K<=1000000){s:Zg}(hs:s∈c.2.2.2.1):StF s:=(Xi8 (h.str.all s hs) hK).1 ((Qqy.1 hc.sts).all s hs)
theorem Zsp.num{c:Zc}(hc:Zsp c):0<=c.2.2.2.2.2.2.2.2.2.2.2.2.2.2.1/\c.2.2.2.2.2.2.2.2.2.2.2.2.2.2.1<=1000000:=by
 have:=hc.tail;simp_all[Z9m,Zh8]
theorem Zsp.last{c:Zc}(hc:Zsp c): -1<=c.2.2.2.2.2.2.2.2.2.2.2.2.2.1/\c.2.2.2.2.2.2.2.2.2.2.2.2.2.1<=4611686018427387903:=by
 have:=hc.tail;simp_all[Z9m,Zh8]
theorem Q2l:∀{l:List Zg},(l.Pairwise λa b=>a.1<b.1)-> ∀{x y:Zg},x∈l->y∈l->x.1=y.1->x=y
 |[],_,_,_,hx,_,_=>by cases hx
 |z::l,h,x,y,hx,hy,e=>by
  obtain⟨d,c⟩:=List.pairwise_cons.1 h;rcases List.mem_cons.1 hx with hx|hx
  ·grind
  ·rcases List.mem_cons.1 hy with hy|hy
   ·grind
   ·exact Q2l c hx hy e
theorem Z7w{K:Int}{s:Zp}(h:Zbd K s)(hK:K<=1000000):Zkl s=some (s,()):=by
 have a:=Q4 h.pend h.e0 h.eK hK;have b:=Q4 h.flight h.e0 h.eK hK;have c:=Q4 h.acked h.e0 h.eK hK;have d:=h.cells;unfold Zkl Z3n
 grind[Zb,Qd,Zuo]
theorem Z7x{K:Nat}{s:Zg}(h:Xl K s)(hK:K<=1000000):Zkm s=some (s,()):=by
 have a:=h.rcv.len;unfold Zkm Zda Zkk;rw[Z7w h.snd (by omega),Zb (by grind[Qd])];rfl
theorem Zxn{K:Nat}{l:List Zg}(h:Zg7 K l)(hK:K<=1000000):∀(N i:Nat),l.length-i<N->i<=l.length->Zhw N (l.take i) l (l.length:Int) (i:Int)=some (l,())
 |0,_,h,_=>by omega
 |N+1,i,b,c=>by
  have f:=h.len;unfold Zhw;by_cases a:i<l.length
  ·rw[Zm (Zl),Zb,show(i:Int).toNat=i from rfl,Z7x (h.all _ (Z5 (d:=Zj) a)) hK,Obs,Zb (by grind[Qd]),Zr a];have e:l.take i++[l.getD i Zj]=l.take (i+1):=by
    simp_all
   rw[e];exact Zxn h hK N (i+1) (by omega) (by omega)
  grind
theorem Qbp{K:Nat}{l:List Qb}(h:Qk4 K l)(hK:K<=1000000):∀(N i:Nat),l.length-i<N->i<=l.length->Zhv N (l.take i) l (l.length:Int) (i:Int)=some (l,())
 |0,_,h,_=>by omega
 |N+1,i,b,c=>by
  have f:=h.1;unfold Zhv;by_cases a:i<l.length
  ·have g:=(h.2 _ (Z5 (d:=Q6) a)).1;rw[Zm (Zl),Zb,show(i:Int).toNat=i from rfl,Zb (by grind[Qd])];simp only[List.nil_append];rw[Zb (by grind[Qd]),Zr a];have e:l.take i++[((l.getD i Q6).1,(l.getD i Q6).2.1,())]=l.take (i+1):=by
    grind[List.take_succ_eq_append_getElem]
   rw[e];exact Qbp h hK N (i+1) (by omega) (by omega)
  grind
theorem Zkg{K:Nat}{c:Zc}(h:Z4 K c)(hK:K<=1000000:=by omega):Qf c=some (c,()):=by
 have a:=Zxn h.str hK (Vx ([]:List Zg) c.2.2.2.1 (c.2.2.2.1.length:Int) (0:Int)) 0 (by simp[Vx]) (by omega);have b:=Qbp h.pk hK (Zfv ([]:List Qb) c.2.2.2.2.2.2.2.2.2.2.2.2.2.2.2.1 (c.2.2.2.2.2.2.2.2.2.2.2.2.2.2.2.1.length:Int) (0:Int)) 0 (by simp[Zfv]) (by omega);simp_all[Qf,Zcf,Zw6]
theorem Qn3{K:Nat}{c:Zc}(h:Z4 K c)(hK:K<=1000000:=by omega):Y4 c=some (Zbx c&& !(c.2.2.2.2.2.2.2.2.2.2.2.2.2.2.2.2.2.1 !=(0:Int)),()):=by
 grind[Y4,Zfz,Z0k]
theorem Qms{K:Nat}{c:Zc}(h:Z4 K c)(hK:K<=1000000:=by omega):Zut c=Y4 c:=by
 unfold Zut Y4;rw[Zv1 h hK];rfl
theorem Qy7(w:Qg):Zvr w=Zad w:=rfl
theorem Qub(w:Qg)(n t:Int):Zit w n t=V5 w n t:=rfl
theorem Xdu(c:Xy):Zk6 c=Za7 c:=rfl
theorem Xh3(c:Xy):Zr1 c=Zcv c:=rfl
theorem Qop(a:Qt):Zqz a=Zbm a:=by
 grind[Zqz,Zbm,Qoi]
theorem Qku(a:Qt):Zkj a=Zbt a:=by
 simp[Zkj,Zbt,Qop]
theorem Q0c(c:Xy)(n:Int):Zq0 c n=Zdj c n:=by
 unfold Zq0 Zdj;rw[Z93,Qqf,Obs,Obs,Zel]
 grind
def Pc{α:Type}(m:Option α)(Q:α->Prop):Prop:= ∀y,m=some y->Q y
section
variable {α β:Type}{m n:Option α}{f:α->Option β}{Q:α->Prop}{R:β->Prop}
theorem Pc.bind(h:Pc m Q)(k:∀y,Q y->Pc (f y) R):Pc (Option.bind m f) R:=λy e=>by
 cases hm:m with
 |none=>simp_all
 |some x=>rw[hm]at e;exact k x (h x hm) y e
theorem Pc.any:Pc m λ_=>True:=λ_ _=>trivial
theorem Pc.skip(k:∀y,Pc (f y) R):Pc (Option.bind m f) R:=Pc.any.bind λy _=>k y
theorem Pc.pure{y:α}(h:Q y):Pc (some y) Q:=λz e=>by cases e;exact h
theorem Pc.ite{c:Bool}(h1:c=true->Pc m Q)(h2:c=false->Pc n Q):Pc (bif c then m else n) Q:=by
 grind
theorem Pc.guard{p:Prop}(h:Pc m Q):Pc (Ze p m) Q:=λy e=>by
 by_cases a:p
 ·rw[Zb a]at e;exact h y e
 simp_all[Ze]
end
theorem T.pc{α:Type}{m:Option α}{Q R:α->Prop}(h:T m Q)(k:Pc m R):T m λy=>Q y/\R y:=by
 obtain⟨y,e,a⟩:=h;exact⟨y,e,a,k y e⟩
theorem Pc.if{α:Type}{m n:Option α}{Q:α->Prop}{c:Bool}(h1:Pc m Q)(h2:Pc n Q):Pc (bif c then m else n) Q:=Pc.ite (λ_=>h1) λ_=>h2
theorem Pc.none{α:Type}{Q:α->Prop}:Pc (none:Option α) Q:=λ_ e=>by cases e
def Zmh(v:Bool)(s:Zg):Prop:=(s.2.2.2.2.2.2.1=false/\s.2.2.2.2.2.2.2.1=false)\/(K0 v s.1=some (s.2.2.2.2.2.2.1,())/\Xv v s.1=some (s.2.2.2.2.2.2.2.1,()))
structure KC(v:Bool)(c:Zc):Prop where
 sv:c.1=v
 str:∀s∈c.2.2.2.1,Zmh v s
section
variable {v:Bool}
theorem Xge:Zmh v Zj:=.inl ⟨rfl,rfl⟩
theorem Xeg{l:List Zg}(h:∀s∈l,Zmh v s)(i:Nat):Zmh v (l.getD i Zj):=by
 grind[Z5,Xge]
theorem Qq7{s:Zg}(h:Zmh v s):Pc (Zdm s) λr=>Zmh v r.1:=by
 unfold Zdm;exact Pc.skip λt=>Pc.skip λa=>Pc.pure h
theorem Q9a{l:List Zg}{s:Zg}(h:∀x∈l,Zmh v x)(hs:Zmh v s):∀x∈l++[s],Zmh v x:=λx hx=>by
 grind
theorem Q7v{l:List Zg}{s:Zg}(h:∀x∈l,Zmh v x)(hs:Zmh v s)(a:Int):∀(N:Nat)(out:List Zg)(p:Bool)(i:Int),(∀x∈out,Zmh v x)->Pc (Xd N l s out a p i) λr=> ∀x∈r.1,Zmh v x
 |0,_,_,_,_=>Pc.none
 |N+1,out,p,i,c=>by
  unfold Xd;have j:∀o q x,(∀x∈o,Zmh v x)->Zmh v x->Pc (Yl (λv=>Xd N v.1 v.2.1 v.2.2.1 v.2.2.2.1 v.2.2.2.2.1 v.2.2.2.2.2.1) l s o a q i x) λr=> ∀x∈r.1,Zmh v x:=λo q x f b=>by
   unfold Yl;exact Pc.guard (Q7v h hs a N _ _ _ (Q9a f b))
  exact Pc.if (Pc.guard ((Qq7 (Xeg h _)).bind λt d=>Pc.if ((Qq7 hs).bind λe b=>j _ _ _ c b) (Pc.guard (Pc.if ((Qq7 hs).bind λe b=>Pc.guard (j _ _ _ (Q9a c b) d)) (j _ _ _ c d))))) (Pc.if ((Qq7 hs).bind λe b=>Pc.guard (Pc.pure (Q9a c b))) (Pc.pure c))
theorem Xa5{l:List Zg}{s:Zg}(h:∀x∈l,Zmh v x)(hs:Zmh v s):Pc (Q0 l s) λr=> ∀x∈r.1,Zmh v x:=by
 grind[Q0,Pc.skip,Q7v]
theorem KC.put{c:Zc}(h:KC v c){s:Zg}(hs:Zmh v s):Pc (Q0 c.2.2.2.1 s) λr=> ∀x∈r.1,Zmh v x:=Xa5 h.str hs
theorem Zqm{c:Zc}(h:KC v c)(i:Int):Pc (Xf c i) λr=>Zmh v r.1:=by
 unfold Xf;exact Pc.skip λt=>Pc.if (Pc.pure Xge) (Pc.guard ((Qq7 (Xeg h.str _)).bind λb a=>Pc.pure a))
theorem Xcg{c:Zc}(h:KC v c)(t:Zc):∀(N:Nat)(x:Zc)(i:Int),KC v x->Pc (Zhf N c t x i) λr=>KC v r.1
 |0,_,_,_=>Pc.none
 |N+1,x,i,hx=>by
  unfold Zhf;exact Pc.if (Pc.guard ((Qq7 (Xeg h.str _)).bind λb a=>Pc.guard (Xcg h t N _ _ ⟨hx.sv,Q9a hx.str a⟩))) (Pc.skip λd=>Pc.pure ⟨hx.sv,hx.str⟩)
theorem cpK{c:Zc}(h:KC v c):Pc (Z9 c) λr=>KC v r.1:=by
 unfold Z9;exact Xcg h _ _ _ _ ⟨h.sv,by simp⟩
theorem Qor(id:Int)(o p:Zic):Pc (K7 v id o p) λr=>Zmh v r.1:=by
 unfold K7;exact Pc.skip λd=>Pc.skip λf=>Pc.skip λg=>Pc.if (Pc.pure Xge) (Pc.skip λh=>Pc.skip λi=>Pc.bind (Q:=λy=>K0 v id=some y) (λy e=>e) λj a=>Pc.bind (Q:=λy=>Xv v id=some y) (λy e=>e) λk b=>Pc.skip λl=>Pc.skip λm=>Pc.skip λc=>Pc.pure (.inr ⟨a,b⟩))
theorem Xh5{c:Zc}(h:KC v c)(u:Bool):Pc (Zkz c u) λr=>KC v r.2.1:=by
 have d:∀u t x i b,KC v x->Pc (Zb9 u c t x i b) λr=>KC v r.2.1:=λu t x i b hx=>by
  unfold Zb9;rw[h.sv];exact Pc.if (Pc.pure hx) (Pc.skip λe=>(Qor _ _ _).bind λg j=>(hx.put j).bind λl k=>Pc.pure ⟨hx.sv,k⟩)
 have f:∀u t x n,KC v x->Pc (Zb8 u c t x n) λr=>KC v r.2.1:=λu t x n hx=>by
  unfold Zb8;exact Pc.skip λe=>Pc.if (d _ _ _ _ _ ⟨hx.sv,hx.str⟩) (d _ _ _ _ _ ⟨hx.sv,hx.str⟩)
 unfold Zkz;exact(cpK h).bind λe a=>Pc.skip λg=>Pc.if (Pc.pure a) (Pc.if (f _ _ _ _ a) (f _ _ _ _ a))
theorem Xgd{c:Zc}(h:KC v c)(i:Int)(d:List UInt8):Pc (Zi5 c i d) λr=>KC v r.2.1:=by
 unfold Zi5;exact(cpK h).bind λf a=>(Zqm h i).bind λs b=>Pc.skip λg=>Pc.if (Pc.pure a) (Pc.skip λj=>(a.put (by exact b)).bind λk e=>Pc.pure ⟨a.sv,e⟩)
theorem Q90{c:Zc}(h:KC v c)(i:Int):Pc (Zg2 c i) λr=>KC v r.1:=by
 unfold Zg2;exact(cpK h).bind λe a=>(Zqm h i).bind λs b=>Pc.skip λf=>Pc.if (Pc.pure a) (Pc.skip λg=>Pc.if (Pc.pure a) ((a.put (by exact b)).bind λj d=>Pc.pure ⟨a.sv,d⟩))
theorem Q7z{x:Zc}{s:Zg}(h:KC v x)(hs:Zmh v s)(n:Int):Pc (Zlt x s n) λr=>KC v r.2.1/\Zmh v r.2.2.1:=by
 unfold Zlt;exact Pc.skip λa=>Pc.skip λb=>Pc.pure ⟨⟨h.sv,h.str⟩,hs⟩
theorem Xh7{x:Zc}{s:Zg}(h:KC v x)(hs:Zmh v s):Pc (Zot x s) λr=>KC v r.2.1/\Zmh v r.2.2.1:=by
 unfold Zot;exact Pc.skip λb=>Pc.skip λc=>Pc.if (Pc.pure ⟨h,hs⟩) (Pc.skip λd=>Pc.if (Pc.skip λa=>Pc.pure ⟨⟨h.sv,h.str⟩,hs⟩) (Pc.skip λa=>Pc.pure ⟨⟨h.sv,h.str⟩,hs⟩))
theorem Qr9{x:Zc}{s:Zg}(h:KC v x)(hs:Zmh v s):Pc (Wk x s) λr=>KC v r.2.1:=by
 unfold Wk;exact(Xh7 h hs).bind λc a=>(a.1.put a.2).bind λd b=>Pc.pure ⟨a.1.sv,b⟩
theorem Xij{c:Zc}(h:KC v c)(i m:Int):Pc (Zk0 c i m) λr=>KC v r.1.2.2.1:=by
 have j:∀t x s d r,KC v x->Zmh v s->Pc (Zca t x s d r) λr=>KC v r.1.2.2.1:=λt x s d r hx a=>by
  unfold Zca;exact(Qr9 hx a).bind λf g=>Pc.pure g
 unfold Zk0;exact(cpK h).bind λk b=>(Zqm h i).bind λs a=>Pc.skip λl=>Pc.if (Pc.pure b) (Pc.skip λf=>Pc.if ((Q7z b (by exact a) _).bind λn e=>j _ _ _ _ _ e.1 e.2) (j _ _ _ _ _ b (by exact a)))
theorem Xff{c:Zc}(h:KC v c)(i k:Int):Pc (Zi3 c i k) λr=>KC v r.1.1:=by
 unfold Zi3;exact(cpK h).bind λe a=>(Zqm h i).bind λs b=>Pc.skip λf=>Pc.if (Pc.pure a) (Pc.skip λg=>Pc.if (Pc.pure a) ((Qr9 a (by exact b)).bind λj d=>Pc.pure d))
theorem Xku{c:Zc}(h:KC v c)(i:Int)(d:List UInt8):Pc (Zi4 c i d) λr=>KC v r.1:=by
 unfold Zi4;exact(cpK h).bind λf a=>(Zqm h i).bind λs b=>Pc.skip λg=>Pc.if (Pc.pure a) (Pc.skip λj=>(a.put (by exact b)).bind λk e=>Pc.pure ⟨a.sv,e⟩)
end
section
variable {v:Bool}
theorem Xhg{s:Zg}(hs:Zmh v s)(c:Zc)(k:Int):Pc (Zlu c s k) λr=>Zmh v r.1.1:=by
 unfold Zlu;exact Pc.if (Pc.pure hs) (Pc.if (Pc.pure hs) (Pc.if (Pc.skip λt=>Pc.if (Pc.pure hs) (Pc.pure hs)) (Pc.if (Pc.skip λt=>Pc.pure hs) (Pc.pure hs))))
theorem Qtz{c:Zc}(h:KC v c)(f:Zf):Pc (Zcs c f) λr=>KC v r.1:=by
 unfold Zcs;exact(cpK h).bind λg a=>Pc.skip λi=>Pc.if (Pc.pure a) (Pc.if (Pc.skip λt=>Pc.pure ⟨a.sv,a.str⟩) (Pc.if (Pc.if (Pc.skip λt=>Pc.pure ⟨a.sv,a.str⟩) (Pc.skip λt=>Pc.pure ⟨a.sv,a.str⟩)) (Pc.if (Pc.skip λt=>Pc.pure ⟨a.sv,a.str⟩) (Pc.if (Pc.if (Pc.pure ⟨a.sv,a.str⟩) (Pc.pure ⟨a.sv,a.str⟩)) ((Zqm h _).bind λs b=>Pc.if ((Xhg b _ _).bind λj d=>(a.put d).bind λk e=>Pc.pure ⟨a.sv,e⟩) (Pc.pure a))))))
theorem Qy2{c:Zc}(h:KC v c)(i:Int)(p:Qy):Pc (Zge c i p) λr=>KC v r.1:=by
 unfold Zge;exact(cpK h).bind λe a=>(Zqm h i).bind λs b=>Pc.skip λf=>Pc.if (Pc.pure a) (Pc.skip λg=>Pc.skip λj=>Pc.skip λk=>Pc.if (Pc.pure a) ((a.put (by exact b)).bind λl d=>Pc.pure ⟨a.sv,d⟩))
theorem Z5g{c:Zc}(h:KC v c)(i:Int):Pc (Zin c i) λr=>KC v r.2.1:=by
 unfold Zin;exact(Zqm h i).bind λs a=>Pc.skip λd=>Pc.skip λe=>(h.put (by exact a)).bind λf b=>Pc.pure ⟨h.sv,b⟩
theorem Q6d(K1:(Zc×List Zf×Int×List Int×Int×Unit)->Option ((List Zf×Unit)×(Zc×Unit)))(hk:∀y,KC v y.1->Pc (K1 y) λr=>KC v r.2.1){x:Zc}(h:KC v x):∀(N:Nat)(fr:List Zf)(room:Int)(sk:List Int)(i:Int)(l:List Zk)(k:Int),Pc (Zbv K1 N x fr room sk i l k) λr=>KC v r.2.1
 |0,_,_,_,_,_,_=>Pc.none
 |N+1,fr,room,sk,i,l,k=>by
  have c:∀x fr room sk i,KC v x->Pc (Zbu K1 x fr room sk i) λr=>KC v r.2.1:=λx fr room sk i hx=>by
   grind[Zbu]
  have e:∀fr room sk i d p y b,KC v y->Pc (Zhi K1 x fr room sk i d p y b) λr=>KC v r.2.1:=λfr room sk i d p y b f=>by
   unfold Zhi;exact Pc.if (Pc.pure h) (Pc.skip λt=>Pc.guard (Pc.skip λg=>c _ _ _ _ _ f))
  unfold Zbv;simp only[X4];exact Pc.if (Pc.guard (Pc.skip λt=>Q6d K1 hk h N _ _ _ _ _ _)) (Pc.skip λt=>Pc.if (Pc.pure h) (Pc.skip λg=>Pc.if ((Z5g h _).bind λj a=>Pc.guard (c _ _ _ _ _ a)) ((Qy2 h _ _).bind λj a=>e _ _ _ _ _ _ _ _ a)))
theorem Q6c:∀(N:Nat)(x:Zc)(fr:List Zf)(room:Int)(sk:List Int)(i:Int),KC v x->Pc (Y9 N x fr room sk i) λr=>KC v r.2.1
 |0,_,_,_,_,_,_=>Pc.none
 |N+1,x,fr,room,sk,i,h=>by
  unfold Y9;exact Pc.if (Pc.skip λt=>Q6d _ (λy a=>Q6c N _ _ _ _ _ a) h _ _ _ _ _ _ _) (Pc.pure h)
theorem Q0z(c t:Zc):∀(N:Nat)(x:Zc)(fr:List Zf)(room:Int)(l:List Zf)(i:Int),KC v x->Pc (Xj N c t x fr room l i) λr=>KC v r.1.2.2.1
 |0,_,_,_,_,_,_=>Pc.none
 |N+1,x,fr,room,l,i,h=>by
  have j:∀x fr room l i,KC v x->Pc (W8 (λv=>Xj N v.1 v.2.1 v.2.2.1 v.2.2.2.1 v.2.2.2.2.1 v.2.2.2.2.2.1 v.2.2.2.2.2.2.1) c t x fr room l i) λr=>KC v r.1.2.2.1:=λx fr room l i hx=>by
   unfold W8;exact Q0z c t N _ _ _ _ _ hx
  unfold Xj Zou;exact Pc.if (Pc.guard (Pc.skip λt=>Pc.if (Pc.guard (Pc.skip λd=>Pc.guard ((Qtz h _).bind λb a=>Pc.guard (Pc.guard (j _ _ _ _ _ a))))) (j _ _ _ _ _ h))) ((Q6c _ _ _ _ _ _ h).bind λb a=>Pc.if (Pc.pure a) (Pc.guard (Pc.skip λe=>Pc.pure ⟨a.sv,a.str⟩)))
theorem Xhi{c:Zc}(h:KC v c)(b:Int):Pc (Vu c b) λr=>KC v r.1.2.2.1:=by
 unfold Vu;exact(cpK h).bind λd a=>Pc.skip λe=>Pc.skip λf=>Pc.if (Pc.pure a) (Pc.skip λg=>Q0z _ _ _ _ _ _ _ _ a)
theorem Xc1(id:Int):∀(N:Nat)(x:Zc)(i:Int),KC v x->Pc (Y8 N x id i) λr=>KC v r.2.1
 |0,_,_,_=>Pc.none
 |N+1,x,i,h=>by
  have j:∀i s,Zmh v s->Pc (Zhg (λv=>Y8 N v.1 v.2.1 v.2.2.1) x id i s) λr=>KC v r.2.1:=λi s b=>by
   unfold Zhg;exact(h.put b).bind λt a=>Xc1 id N _ _ ⟨h.sv,a⟩
  unfold Y8;simp only[X4,h.sv];exact Pc.if ((Qor _ _ _).bind λt a=>j _ _ a) (Pc.pure h)
theorem Qe1{c:Zc}(h:KC v c)(id:Int):Pc (K5 c id) λr=>KC v r.1:=by
 have e:∀id t x n,KC v x->Pc (K6 id t x n) λr=>KC v r.1:=λid t x n hx=>by
  unfold K6 Zls;exact(Xc1 _ _ _ _ hx).bind λt g=>Pc.pure g
 have j:∀id t x b n i,KC v x->Pc (J7 id c t x b n i) λr=>KC v r.1:=λid t x b n i hx=>by
  unfold J7;exact Pc.if (Pc.pure hx) (Pc.skip λt=>Pc.if (e _ _ _ _ ⟨hx.sv,hx.str⟩) (e _ _ _ _ ⟨hx.sv,hx.str⟩))
 have f:∀id t x a,KC v x->Pc (X7 id c t x a) λr=>KC v r.1:=λid t x a hx=>by
  grind[X7,X4,Kt,Pc.skip]
 unfold K5;exact(cpK h).bind λk d=>Pc.skip λl=>Pc.skip λm=>Pc.if (Pc.pure d) (Pc.skip λo=>Pc.if (Pc.pure d) (Pc.skip λp=>Pc.if (Pc.pure d) (Pc.skip λq=>Pc.if (f _ _ _ _ d) (f _ _ _ _ d))))
theorem Xcs{x:Zc}{s:Zg}(h:KC v x)(hs:Zmh v s)(e:Int):Pc (Zib x s e) λr=>KC v r.2.1/\Zmh v r.2.2.1:=by
 unfold Zib;exact Pc.skip λa=>Pc.if (Pc.pure ⟨h,hs⟩) (Pc.skip λb=>Pc.skip λc=>Pc.if (Pc.pure ⟨h,hs⟩) (Pc.pure ⟨⟨h.sv,h.str⟩,hs⟩))
theorem Qhw{c:Zc}(h:KC v c)(n:Int):Pc (Option.bind (Z9 c) λt=>some ((t.1,n,()),())) λr=>KC v r.1.1:=(cpK h).bind λt a=>Pc.pure a
theorem Xhd{c:Zc}(h:KC v c)(f:Zf):Pc (Zd6 c f) λr=>KC v r.1.1:=by
 unfold Zd6;exact Pc.skip λe=>Pc.skip λg=>Pc.if (Qhw h _) (Pc.skip λi=>Pc.if (Qhw h _) ((Qe1 h _).bind λx hx=>Pc.if (Qhw h _) ((Zqm hx _).bind λs b=>Pc.skip λr=>(Xcs hx b _).bind λy a=>Pc.if (Qhw h _) (Pc.if (Qhw h _) ((Qr9 a.1 (by exact a.2)).bind λz d=>Pc.pure d)))))
theorem Xk0{c:Zc}(h:KC v c)(f:Zf):Pc (Zcq c f) λr=>KC v r.1.1:=by
 have j:∀t x s r,KC v x->Zmh v s->Pc (Wc t x s r) λr=>KC v r.1.1:=λt x s r hx d=>by
  unfold Wc;exact(Qr9 hx (by exact d)).bind λz a=>Pc.pure a
 unfold Zcq;exact Pc.skip λe=>Pc.skip λg=>Pc.if (Qhw h _) (Pc.skip λi=>Pc.if (Qhw h _) ((Qe1 h _).bind λx hx=>Pc.if (Qhw h _) ((Zqm hx _).bind λs d=>Pc.skip λr=>(Xcs hx d _).bind λy b=>Pc.if (Qhw h _) (Pc.if (Qhw h _) (Pc.if ((Q7z b.1 b.2 _).bind λz a=>j _ _ _ _ a.1 a.2) (j _ _ _ _ b.1 b.2))))))
theorem Xk6{c:Zc}(h:KC v c)(f:Zf):Pc (Zd7 c f) λr=>KC v r.1.1:=by
 have j:∀t x s,KC v x->Zmh v s->Pc (Zaa t x s) λr=>KC v r.1.1:=λt x s hx a=>by
  unfold Zaa;exact(Qr9 hx a).bind λz b=>Pc.pure b
 unfold Zd7;exact Pc.skip λd=>Pc.skip λe=>Pc.if (Qhw h _) (Pc.skip λg=>Pc.if (Qhw h _) ((Qe1 h _).bind λx hx=>Pc.if (Qhw h _) ((Zqm hx _).bind λs a=>Pc.skip λr=>Pc.if (j _ _ _ hx (by exact a)) (j _ _ _ hx a))))
theorem Xkr{c:Zc}(h:KC v c)(f:Zf):Pc (Zcp c f) λr=>KC v r.1:=by
 have e:∀t,Pc (Zcy c f Yi t) λr=>KC v r.1:=λt=>by
  unfold Zcy Zi6;exact Pc.if ((cpK h).bind λt d=>Pc.pure d) ((Qe1 h _).bind λx hx=>Pc.if ((cpK h).bind λt d=>Pc.pure d) (Pc.if ((Zqm hx _).bind λs j=>Pc.skip λt=>(hx.put (by exact j)).bind λl m=>Pc.pure ⟨hx.sv,m⟩) (Pc.pure hx)))
 have n:Pc (Zme c f) λr=>KC v r.1:=by
  unfold Zme;exact Pc.skip λt=>Pc.if (Pc.skip λo=>e _) (e _)
 have g:∀t x b,KC v x->Pc (Wb c f t x b) λr=>KC v r.1:=λt x b hx=>by
  unfold Wb;exact Pc.if (n.bind λt d=>Pc.pure d) (Pc.pure hx)
 have i:∀t x k b,KC v x->Pc (Wa c f t x k b) λr=>KC v r.1:=λt x k b hx=>by
  unfold Wa;exact Pc.if (Pc.pure hx) (Pc.if (g _ _ _ hx) (g _ _ _ hx))
 unfold Zcp Zdy;exact(cpK h).bind λp a=>Pc.skip λo=>Pc.skip λl=>Pc.if (Pc.pure a) (Pc.if (Pc.skip λt=>Pc.pure ⟨a.sv,a.str⟩) (Pc.if (Pc.if (Pc.skip λt=>Pc.pure ⟨a.sv,a.str⟩) (Pc.skip λt=>Pc.pure ⟨a.sv,a.str⟩)) (Pc.if (i _ _ _ _ a) (i _ _ _ _ a))))
theorem Q6k{c:Zc}(h:KC v c)(f:Zf):Pc (Zar c f) λr=>KC v r.1.1:=by
 unfold Zar V9;exact Pc.skip λt=>Pc.if ((Xhd h f).bind λt a=>Pc.pure a) (Pc.if ((Xk0 h f).bind λt a=>Pc.pure a) (Pc.if ((Xk6 h f).bind λt a=>Pc.pure a) ((Xkr h f).bind λt a=>Pc.pure a)))
theorem Q0x:∀(N:Nat)(x:Zc)(n:Int)(o:List Qb)(i:Int),KC v x->Pc (Zak N x n o i) λr=>KC v r.2.1
 |0,_,_,_,_,_=>Pc.none
 |N+1,x,n,o,i,h=>by
  have j:∀x n o i,KC v x->Pc (Zhm (λv=>Zak N v.1 v.2.1 v.2.2.1 v.2.2.2.1) x n o i) λr=>KC v r.2.1:=λx n o i h=>by
   unfold Zhm;exact Q0x N _ _ _ _ h
  unfold Zak;exact Pc.if (Pc.guard (Pc.if (Pc.guard (Pc.guard (j _ _ _ _ h))) (j _ _ _ _ h))) (Pc.pure ⟨h.sv,h.str⟩)
theorem Xci{x:Zc}(h:KC v x)(n:Int):Pc (Zov x n) λr=>KC v r.2.1:=by
 simp_all[Zov,Q0x]
theorem Xet{x:Zc}(h:KC v x)(f:Zf):Pc (Zsm x f) λr=>KC v r.2.1:=by
 have c:∀s,Zmh v s->Pc (Zal x s) λr=>KC v r.2.1:=λs a=>by
  unfold Zal;exact(h.put a).bind λt d=>Pc.pure ⟨h.sv,d⟩
 have e:∀s b,Zmh v s->Pc (Zk3 x f s b) λr=>KC v r.2.1:=λs b a=>by
  unfold Zk3;exact Pc.skip λt=>Pc.if (Pc.pure h) (Pc.if (Pc.skip λt=>Pc.skip λg=>c _ (by exact a)) (Pc.if (c _ (by exact a)) (Pc.if (c _ (by exact a)) (Pc.if (c _ (by exact a)) (c _ a)))))
 unfold Zsm;simp only[X4];exact Pc.if (Pc.pure ⟨h.sv,h.str⟩) (Pc.if (Pc.if (Pc.pure ⟨h.sv,h.str⟩) (Pc.pure ⟨h.sv,h.str⟩)) ((Zqm h _).bind λs a=>e _ _ a))
theorem Xgu{x:Zc}(h:KC v x)(f:Zf):Pc (Zu4 x f) λr=>KC v r.2.1:=by
 have c:∀s,Zmh v s->Pc (Zbo x s) λr=>KC v r.2.1:=λs a=>by
  unfold Zbo;exact(Qr9 h a).bind λt d=>Pc.pure d
 have e:∀s b,Zmh v s->Pc (Zn2 x f s b) λr=>KC v r.2.1:=λs b a=>by
  unfold Zn2;exact Pc.skip λt=>Pc.if (Pc.pure h) (Pc.if (Pc.skip λt=>Pc.skip λg=>c _ (by exact a)) (Pc.if (Pc.skip λt=>Pc.if (c _ (by exact a)) (c _ (by exact a))) (Pc.if (c _ (by exact a)) (c _ a))))
 unfold Zu4;simp only[X4];exact(Zqm h _).bind λs a=>e _ _ a
theorem Q1u:∀(N:Nat)(t x:Zc)(p:Qb)(i:Int),KC v x->Pc (Zb7 N t x p i) λr=>KC v r.1.1
 |0,_,_,_,_,_=>Pc.none
 |N+1,t,x,p,i,h=>by
  unfold Zb7;exact Pc.if (Pc.guard ((Xet h _).bind λy a=>Q1u N _ _ _ _ a)) (Pc.pure h)
theorem Q44:∀(N:Nat)(t x:Zc)(p:Qb)(i:Int),KC v x->Pc (Zdd N t x p i) λr=>KC v r.1.1
 |0,_,_,_,_,_=>Pc.none
 |N+1,t,x,p,i,h=>by
  unfold Zdd;exact Pc.if (Pc.guard ((Xgu h _).bind λy a=>Q44 N _ _ _ _ a)) (Pc.pure h)
theorem Xhu{c:Zc}(h:KC v c)(n:Int):Pc (Zkw c n) λr=>KC v r.1.1:=by
 unfold Zkw;exact(cpK h).bind λd a=>Pc.skip λe=>Pc.skip λf=>Pc.if (Pc.pure a) ((Xci a _).bind λg b=>Q1u _ _ _ _ _ b)
theorem Xj0{c:Zc}(h:KC v c)(n:Int):Pc (Zno c n) λr=>KC v r.1.1:=by
 unfold Zno;exact(cpK h).bind λd a=>Pc.skip λe=>Pc.skip λf=>Pc.if (Pc.pure a) ((Xci a _).bind λg b=>Q44 _ _ _ _ _ b)
theorem Q68{x:Zc}(h:KC v x)(c:Qc):Pc (Zsl c x) λr=>KC v r.1.1:=by
 have j:∀c x t y n b,KC v x->KC v y->Pc (Zhl c x t y n b) λr=>KC v r.1.1:=λc x t y n b h f=>by
  unfold Zhl;exact Pc.if (Pc.skip λt=>(Xhi h _).bind λe a=>Pc.pure a) (Pc.if (Pc.skip λt=>(Q6k h _).bind λe a=>Pc.if (Pc.pure a) (Pc.pure f)) (Pc.if (Pc.if (Pc.skip λt=>Pc.guard (Pc.skip λe=>Pc.if ((Xhu h _).bind λg d=>Pc.pure d) ((Xj0 h _).bind λg d=>Pc.pure d))) (Pc.pure f)) (Pc.pure f)))
 have k:∀c x t i y n b,KC v x->KC v y->Pc (Zhk c x t i y n b) λr=>KC v r.1.1:=λc x t i y n b h f=>by
  unfold Zhk;exact Pc.if (Pc.skip λt=>(Xgd h _ _).bind λe a=>Pc.pure a) (Pc.if (Pc.skip λt=>Pc.if ((Q90 h _).bind λe a=>Pc.pure a) (Pc.pure f)) (Pc.if (Pc.skip λt=>(Xij h _ _).bind λe a=>Pc.pure a) (Pc.if (Pc.skip λt=>Pc.if (Pc.skip λe=>(Xff h _ _).bind λg d=>Pc.pure d) (Pc.skip λe=>(Xku h _ _).bind λg d=>Pc.pure d)) (Pc.if (j _ _ _ _ _ _ h f) (j _ _ _ _ _ _ h f)))))
 have l:∀c x t i,KC v x->Pc (Zhj c x t i) λr=>KC v r.1.1:=λc x t i h=>by
  unfold Zhj;exact Pc.skip λt=>Pc.if (Pc.skip λe=>(Xh5 h _).bind λg d=>Pc.pure d) (Pc.if (k _ _ _ _ _ _ _ h h) (k _ _ _ _ _ _ _ h h))
 unfold Zsl;exact Pc.if (Pc.skip λt=>Pc.guard (l _ _ _ _ h)) (l _ _ _ _ h)
theorem Q0r:∀(N:Nat)(c:Qc)(t x:Zc)(n:Int),KC v x->Pc (Zhh N c t x n) λr=>KC v r.1.1
 |0,_,_,_,_,_=>Pc.none
 |N+1,c,t,x,n,h=>by
  unfold Zhh;exact Pc.if ((Q68 h _).bind λy a=>Q0r N _ _ _ _ a) (Pc.pure h)
end
theorem Q7k(s:Bool)(o p:Zic):Pc (Zsg s o p) λr=>KC r.1.1 r.1:=by
 unfold Zsg;exact Pc.skip λa=>Pc.skip λb=>Pc.if (Pc.pure ⟨rfl,λ_ h=>absurd h List.not_mem_nil⟩) (Pc.skip λc=>Pc.skip λd=>Pc.skip λe=>Pc.skip λf=>Pc.skip λg=>Pc.skip λi=>Pc.pure ⟨rfl,λ_ h=>absurd h List.not_mem_nil⟩)
theorem Xha(c:Qc):Pc (Zsk c) λr=> ∃v,KC v r.1.1:=by
 unfold Zsk;exact Pc.skip λb=>Pc.skip λd=>Pc.skip λf=>(Q7k _ _ _).bind λg a=>Pc.skip λh=>λy e=>⟨_,Q0r _ _ _ _ _ a y e⟩
theorem Xj3(c:Qc):Pc (Zrr c) λr=> ∃v,KC v r.1.1:=by
 unfold Zrr;exact(Xha c).bind λt b=>Pc.skip λd=>by
  obtain⟨v,hv⟩:=b;exact Pc.if (Pc.skip λa=>Pc.pure ⟨v,hv.sv,hv.str⟩) (Pc.if (Pc.skip λa=>Pc.pure ⟨v,hv.sv,hv.str⟩) (Pc.if (Pc.skip λa=>Pc.pure ⟨v,hv.sv,hv.str⟩) (Pc.if (Pc.skip λa=>Pc.pure ⟨v,hv.sv,hv.str⟩) (Pc.pure ⟨v,hv⟩))))
theorem Q5e{α β:Type}{m:Option α}{f g:α->Option β}(h:∀y,f y=g y):Option.bind m f=Option.bind m g:=by
 have:f=g:=funext h;rw[this]
theorem Xdg(c:Zc)(w:Qg)(a:Bool):Zf4 c w a=Option.bind (Zad w) λt=>bif t.1 then Option.bind (V5 w c.2.2.2.2.2.2.2.2.2.2.2.2.2.2.2.2.1 c.2.1.2.2.2.2.2.2.2.1) λr=>some (r.1.2.2.1,r.2.1,())else some (w.2.2.1,a,()):=by
 unfold Zf4;rw[Qy7];refine Q5e λt=>?_;cases t.1<;>rfl
theorem Xdf(a:Qt)(b:Bool):Zq2 a b=Option.bind (Zbn a b) λt=>some (t.1.2.1,t.2.1,()):=by
 unfold Zq2 Zbn;rw[Qop,Qku];cases Zbm a with
 |none=>rfl
 |some t=>
  simp only[Obs];cases t.1
  ·rfl
  ·cases Zbt a<;>rfl
theorem Xk3(c:Zc)(s:Zg)(o:List Zf):Za1 c s o=Wm c s o:=by
 unfold Za1 Wm Zgn;rw[Xdg];have e:((!s.2.2.2.2.2.2.2.1||(s.2.2.2.1.1 !=0))||s.2.2.2.2.2.2.2.2.2.2.2.1)= !((s.2.2.2.2.2.2.2.1&&(s.2.2.2.1.1==0))&& !s.2.2.2.2.2.2.2.2.2.2.2.1):=by
  grind
 rw[e];generalize ((s.2.2.2.2.2.2.2.1&&(s.2.2.2.1.1==0))&& !s.2.2.2.2.2.2.2.2.2.2.2.1)=b;cases b
 ·rfl
 ·simp only[Oct,Ont,Ocf];cases Zad s.2.2.2.2.1 with
  |none=>rfl
  |some t=>
   simp only[Obs];cases t.1
   ·rfl
   ·simp only[Oct];cases V5 s.2.2.2.2.1 c.2.2.2.2.2.2.2.2.2.2.2.2.2.2.2.2.1 c.2.1.2.2.2.2.2.2.2.1<;>rfl
theorem Xk2(c:Zc)(s:Zg)(h:0<=s.2.2.2.1.1)(o:List Zf):Za0 c s o=Wl c s o:=by
 unfold Za0 Wl Zt6;have e:decide (s.2.2.2.1.1<2)=((s.2.2.2.1.1==0)||(s.2.2.2.1.1==1)):=by
  grind
 simp_all[bA,Xk3]
theorem Qqx(c:Zc)(s:Zg)(h:0<=s.2.2.2.1.1):Zh3 c s=Zgm c s:=by
 simp_all[Zh3,Zgm,Xk2]
theorem Xg6{c:Zc}(h:∀s∈c.2.2.2.1,0<=s.2.2.2.1.1)(hl:c.2.2.2.1.length<=1000000):∀(N i:Nat)(o:List Zf),Zep N c o c.2.2.2.1 (c.2.2.2.1.length:Int) (i:Int)=Kj N c o (i:Int)
 |0,_,_=>rfl
 |N+1,i,o=>by
  rw[Zep,Kj];by_cases a:i<c.2.2.2.1.length
  ·rw[Zm (Zl),Zm (Zl),Zb,Zb,show(i:Int).toNat=i from rfl,Qqx _ _ (h _ (Z5 (d:=Zj) a)),Zr a];refine Q5e λt=>?_;rw[Xg6 h hl N (i+1)]
  ·rw[Zo (Zn),Zo (Zn)];rfl
theorem Xj5{c:Zc}(h:∀s∈c.2.2.2.1,0<=s.2.2.2.1.1)(hl:c.2.2.2.1.length<=1000000)(o:List Zf):Zeo c o=Ki c o:=by
 unfold Zeo Ki;exact Xg6 h hl _ 0 o
theorem Xca{α β γ:Type}{m:Option α}{f:α->Option β}{g:β->Option γ}:Option.bind (Option.bind m f) g=Option.bind m λy=>Option.bind (f y) g:=by cases m<;>rfl
theorem Qnl{K:Nat}{c:Zc}(h:Z4 K c)(hK:K<=1000000):Zoh c=W5 c:=by
 unfold Zoh W5;rw[Qms h hK,Qn3 h hK,Obs,Obs];by_cases d:Zbx c=true
 ·have a:∀s∈c.2.2.2.1,0<=s.2.2.2.1.1:=λs a=>Xfd (h.str.all s a).rcv hK (((Z7v h hK).1 d).st h hK a).rcv;have f:=h.str.len;have g:∀o,Zen c o=Kh c o:=λo=>by
   grind[Zen,Kh,Xdf,Xj5]
  have e:∀o,Zem c o=Kg c o:=λo=>by
   grind[Zem,Kg,Xdf]
  simp only[e,Xdg,Zio];generalize (Zbx c&&_)=b;cases b
  ·rfl
  ·simp only[Ont,Ocf,Xca];refine Q5e λt=>?_;cases t.1
   all_goals simp[Xca]
 simp_all
def mrB(w:Qg):Bool:=(Z7h w&&decide (w.2.2.1<(4611686018427387903:Int)))&&decide ((IntKind.i64.wrap ((IntKind.i64.wrap (w.2.2.2.2.1+w.1))-w.2.2.1))>=(IntKind.i64.wrap (Int.tdiv (IntKind.i64.wrap (w.1+(1:Int))) (2:Int))))
theorem mrE(w:Qg):Zad w=some (mrB w,()):=by
 unfold Zad;rw[Qxv,Obs];exact Zb (λ_=>by decide)
def Qpp(w:Qg)(now trip:Int):Bool:=(mrB w&&inB now w.2.2.2.2.2.1 1000000)&&inB trip 1 1000
def rwZ(w:Qg)(now trip:Int):Int:=bif decide ((IntKind.i64.wrap (now-w.2.2.2.2.2.1))<(IntKind.i64.wrap ((2:Int)*trip)))then min (IntKind.i64.wrap ((2:Int)*w.1)) w.2.1 else w.1
def rwW(w:Qg)(now trip:Int):Qg:=(rwZ w now trip,w.2.1,min (IntKind.i64.wrap (w.2.2.2.2.1+rwZ w now trip)) (4611686018427387903:Int),w.2.2.2.1,w.2.2.2.2.1,now,w.2.2.2.2.2.2)
def rwV(w:Qg)(now trip:Int):Qg:=bif Qpp w now trip then rwW w now trip else w
theorem rwE(w:Qg)(now trip:Int):V5 w now trip=some (rwV w now trip,Qpp w now trip,()):=by
 unfold V5 Zhz;simp only[mrE,inQ,Obs,bO,bO2];have e:((!mrB w|| !inB now w.2.2.2.2.2.1 1000000)|| !inB trip 1 1000)= !Qpp w now trip:=by
  simp_all[Qpp]
 rw[e];unfold rwV rwW rwZ
 grind
theorem Quk{w:Qg}{now trip:Int}(h:mrB w=false):Qpp w now trip=false:=by simp_all[Qpp]
def maB(a:Qt):Bool:=(Z7j a&&decide ((IntKind.i64.wrap ((IntKind.i64.wrap (a.2.2.2.1+a.1))-a.2.1))>=(IntKind.i64.wrap (Int.tdiv (IntKind.i64.wrap (a.1+(1:Int))) (2:Int)))))&&decide (a.1>(0:Int))
theorem maE(a:Qt):Zbm a=some (maB a,()):=by
 unfold Zbm;rw[Q5a,Obs];exact Zb (λ_=>by decide)
def Qzo(a:Qt):Bool:=maB a&& !decide ((IntKind.i64.wrap (a.2.2.2.1+a.1))>(1152921504606846976:Int))
def raV(a:Qt):Qt:=bif Qzo a then(a.1,IntKind.i64.wrap (a.2.2.2.1+a.1),a.2.2)else a
theorem raE(a:Qt):Zbt a=some (raV a,Qzo a,()):=by
 grind[Zbt,raV,Qzo,maE]
theorem Xba{a:Qt}(h:maB a=false):Qzo a=false:=by simp_all[Qzo]
theorem alE(a:Qt)(t:Bool):Zbn a t=some (raV a,bif maB a then Qzo a else t,()):=by
 grind[Zbn,maE,raE,raV,Xba]
def clB(c:Xy):Xy:=bif Qaf c&&(c.2.2.1 !=(-1:Int))then(c.1,c.2.1,(-1:Int),c.2.2.1,c.2.2.2.2)else c
theorem clE(c:Xy):Za7 c=some (clB c,()):=by
 unfold Za7 clB;rw[Qqf,Obs]
 grind
def nbB(c:Xy):Xy:=bif((Qaf c&&(c.2.1==c.1))&&(c.2.2.1==(-1:Int)))&&(c.2.2.2.1 !=c.1)then(c.1,c.2.1,c.1,c.2.2.2)else c
theorem nbE(c:Xy):Zcv c=some (nbB c,()):=by
 grind[Zcv,nbB,Qqf]
abbrev Qna(c:Zc):Int:=c.2.2.2.2.2.2.2.2.2.2.2.2.2.2.2.2.1
abbrev Z7q(c:Zc):Int:=c.2.1.2.2.2.2.2.2.2.1
theorem ttE(c:Zc):Zio c=some (rwV c.2.2.2.2.2.1 (Qna c) (Z7q c),bif mrB c.2.2.2.2.2.1 then Qpp c.2.2.2.2.2.1 (Qna c) (Z7q c)else c.2.2.2.2.2.2.2.2.2.2.1,()):=by
 grind[Zio,mrE,rwE,rwV,Quk]
def wcB(s:Zg):Bool:=(s.2.2.2.2.2.2.2.1&&(s.2.2.2.1.1==0))&& !s.2.2.2.2.2.2.2.2.2.2.2.1
theorem lwE(c:Zc)(s:Zg):Zgn c s=some (bif wcB s then rwV s.2.2.2.2.1 (Qna c) (Z7q c)else s.2.2.2.2.1,wcB s&&(bif mrB s.2.2.2.2.1 then Qpp s.2.2.2.2.1 (Qna c) (Z7q c)else s.2.2.2.2.2.2.2.2.2.2.1),()):=by
 grind[Zgn,wcB,mrE,rwE,rwV,Quk]
noncomputable def Q7(l:List Zg)(n:Int):Int:=match Ys l n with|some (v,_)=>v|none=> -1
theorem Z65{l:List Zg}(hl:l.length<=1000000)(n:Int):Ys l n=some (Q7 l n,()):=by
 obtain⟨v,e,-⟩:=Z0r l n hl
 grind[Q7]
theorem Zz3{l:List Zg}(hl:l.length<=1000000)(n:Int):(Q7 l n<0\/Q7 l n<l.length)/\(Q7 l n<0-> ∀s∈l,s.1≠n)/\(0<=Q7 l n->(l.getD (Q7 l n).toNat Zj).1=n):=by
 obtain⟨v,e,h⟩:=Z0r l n hl
 grind[Q7]
theorem Q02{l:List Zg}(hl:l.length<=1000000)(n:Int):∀(N i:Nat),Qr N l (n,()) (l.length:Int) (i:Int)=Yt N l n (i:Int)
 |0,_=>rfl
 |N+1,i=>by
  rw[Qr,Yt];by_cases a:i<l.length
  ·rw[Zm (Zl),Zm (Zl),Zb,Zb,Zr a,Q02 hl n N (i+1)];rfl
  grind
theorem Z39{l:List Zg}(hl:l.length<=1000000)(n:Int):Q8 l n=Ys l n:=by
 unfold Q8 Yb;have:=Q02 hl n (Kn l n 0) 0;rw[show Xi l (n,()) (l.length:Int) 0=Kn l n 0 from rfl];rw[Int.natCast_zero]at this;rw[this];change Option.bind (Ys l n) _=_;cases Ys l n<;>rfl
theorem Qt9{K:Nat}{l:List Zg}{s:Zg}(h:Zg7 K l)(hs:Xl K s)(hK:K<=1000000)(a:Nat)(ha:a<l.length):∀(N i:Nat),l.length-i<N->i<=l.length->Xd N l s ((l.set a s).take i) (a:Int) true (i:Int)=some (l.set a s,())
 |0,_,h,_=>by omega
 |N+1,i,g,j=>by
  have k:=h.len;rw[Xd];by_cases f:i<l.length
  ·have c:∀x:Zg,((l.set a s).take i).length+[x].length<=Qd:=λx=>by grind[Qd]
   have e:(l.set a s).take i++[if i=a then s else l.getD i Zj]=(l.set a s).take (i+1):=by
    rw[List.take_succ_eq_append_getElem (by simp_all),List.getElem_set];congr 2;by_cases b:i=a
    ·simp_all
    ·rw[if_neg b,if_neg (λh=>b h.symm),List.getD_eq_getElem?_getD,List.getElem?_eq_getElem f];rfl
   rw[Zm (Zl),Zb,show(i:Int).toNat=i from rfl,Ztq (h.all _ (Z5 (d:=Zj) f)) hK,Obs];by_cases b:i=a
   ·have:((i:Int)==(a:Int))=true:=by simp;omega
    rw[this,Oct,Ztq hs hK,Obs];unfold Yl;rw[Zb (c _),Zr f];rw[if_pos b]at e;rw[e];exact Qt9 h hs hK a ha N (i+1) (by omega) (by omega)
   ·have:((i:Int)==(a:Int))=false:=by simp;omega
    rw[this,Ocf,Zb (λh=>by cases h)];simp only[Ont,Bool.false_and,Ocf];unfold Yl;rw[Zb (c _),Zr f];rw[if_neg b]at e;rw[e];exact Qt9 h hs hK a ha N (i+1) (by omega) (by omega)
  simp_all[Zn,List.take_of_length_le]
theorem Q15{K:Nat}{l:List Zg}{s:Zg}(h:Zg7 K l)(hs:Xl K s)(hK:K<=1000000)(hi:0<=Q7 l s.1):Q0 l s=some (l.set (Q7 l s.1).toNat s,()):=by
 have a:=h.len;obtain⟨b,-,-⟩:=Zz3 (l:=l) (by omega) s.1;unfold Q0;rw[Z65 (by omega),Obs,Zl];have:=Qt9 h hs hK (Q7 l s.1).toNat (by omega) (Zav l s ([]:List Zg) (Q7 l s.1) true 0) 0 (by simp[Zav]) (by omega)
 grind
theorem Zu7{K:Nat}{c:Zc}(h:Z4 K c)(hK:K<=1000000)(n:Int):Xf c n=some (if 0<=Q7 c.2.2.2.1 n then(c.2.2.2.1.getD (Q7 c.2.2.2.1 n).toNat Zj,true,())else(Zj,false,())):=by
 have b:=h.str.len;obtain⟨e,-,-⟩:=Zz3 (l:=c.2.2.2.1) (by omega) n;unfold Xf;rw[Z65 (by omega),Obs];by_cases a:0<=Q7 c.2.2.2.1 n
 ·rw[Zo (Zn),Zb,if_pos a,Ztq (h.str.all _ (Z5 (d:=Zj))) hK];rfl
 simp_all
theorem Qxc(l:List Zg)(i:Nat):l.set i (l.getD i Zj)=l:=by
 grind[List.set_getElem_self,List.set_eq_of_length_le]
def Jb(c:Z6):Int:=c.1+(c.2.1.length:Int)
def Qce:Int->List Z6->Prop|_,[]=>True|e,c::l=>e<c.1/\c.2.1≠[]/\Qce (Jb c) l
def atC:List Z6->Int->Option UInt8|[],_=>none|c::l,n=>if c.1<=n/\n<Jb c then c.2.1[(n-c.1).toNat]? else atC l n
theorem Zzw{c:Z6}(h:c.2.1≠[]):c.1<Jb c:=by
 grind[Jb,List.length_pos_iff]
theorem Z9s:∀{l:List Z6}{e n:Int},Qce e l->n<=e->atC l n=none
 |[],_,_,_,_=>rfl
 |c::l,e,n,⟨d,a,b⟩,f=>by
  unfold atC;rw[if_neg (by omega)];exact Z9s b (by have:=Zzw a;omega)
theorem Qeo{c:Z6}{l:List Z6}{e:Int}(h:Qce e (c::l)):atC (c::l) c.1≠none:=by
 have:=Zzw h.2.1;unfold atC;rw[if_pos ⟨Int.le_refl _,this⟩,Int.sub_self];have a:=List.length_pos_iff.2 h.2.1;simp_all
theorem Q9c{c:Z6}{l:List Z6}{e:Int}(h:Qce e (c::l)):atC (c::l) (Jb c)=none:=by
 unfold atC;rw[if_neg (by omega)];exact Z9s h.2.2 (Int.le_refl _)
theorem Qsu{c:Z6}{l:List Z6}{n:Int}(h1:c.1<=n)(h2:n<Jb c):atC (c::l) n=c.2.1[(n-c.1).toNat]? :=by
 simp_all[atC]
theorem Qu3{c:Z6}{l:List Z6}{n:Int}(h1:c.1<=n)(h2:n<Jb c):atC (c::l) n≠none:=by
 grind[Qsu,Jb]
theorem Qu8:∀{l m:List Z6}{e e':Int},Qce e l->Qce e' m->(∀n,atC l n=atC m n)->l=m
 |[],[],_,_,_,_,_=>rfl
 |[],d::m,_,_,_,h,b=>absurd (b d.1).symm (Qeo h)
 |c::l,[],_,_,h,_,b=>absurd (b c.1) (Qeo h)
 |c::l,d::m,e,e',h,f,b=>by
  have i:c.1=d.1:=by
   rcases Int.lt_trichotomy c.1 d.1 with a|a|a
   ·have:=Qeo h;rw[b,Z9s (e:=c.1) (l:=d::m) ⟨a,f.2⟩ (Int.le_refl _)]at this;simp_all
   ·exact a
   ·have:=Qeo f;rw[<-b,Z9s (e:=d.1) (l:=c::l) ⟨a,h.2⟩ (Int.le_refl _)]at this;simp_all
  have k:Jb c=Jb d:=by
   grind[Jb,Q9c,Qu3]
  have o:c.2.1=d.2.1:=by
   have p:c.2.1.length=d.2.1.length:=by grind[Jb]
   refine List.ext_getElem? λj=>?_;by_cases q:j<c.2.1.length
   ·have:=b (c.1+(j:Int))
    grind[Qsu,Jb]
   simp_all
  have g:c=d:=by
   grind
  subst g;refine congrArg (c:: ·) (Qu8 h.2.2 f.2.2 λn=>?_);by_cases r:n<Jb c
  ·rw[Z9s h.2.2 (by omega),Z9s f.2.2 (by omega)]
  ·have:=b n;simp_all[atC,if_neg]
theorem Qeu:∀{l:List Z6}{e:Int},ckB e l=true-> -1<=e->(∀c∈l,c.2.1.length<=1000000)->Qce e l/\ ∀c∈l,0<=c.1/\Jb c<=4611686018427387903
 |[],_,_,_,_=>⟨trivial,λ_ h=>by cases h⟩
 |c::l,e,h,j,a=>by
  simp only[ckB,Oba,Bool.not_eq_true',Bool.or_eq_false_iff,decide_eq_false_iff_not,beq_eq_false_iff_ne]at h;have d:=a c List.mem_cons_self;obtain⟨⟨⟨k,f⟩,g⟩,b⟩:=h;rw[Zs]at g;have m:Jb c<=4611686018427387903:=by grind[Jb]
  rw[Zs]at b;obtain⟨i,n⟩:=Qeu b (by omega) λx hx=>a x (List.mem_cons_of_mem _ hx);refine⟨⟨by omega,f,i⟩,λx hx=>?_⟩
  grind
def Qbh:Int->List Z6->Prop|_,[]=>True|e,c::l=>e<=c.1/\c.2.1≠[]/\Qbh (Jb c) l
theorem Q36{e e':Int}(h:e'<=e):∀{l:List Z6},Qbh e l->Qbh e' l
 |[],_=>trivial
 |c::l,⟨d,a,b⟩=>⟨by omega,a,b⟩
def Qfi(c:Z6):List Z6->List Z6|[]=>[c]|d::l=>if Jb c=d.1 then Qfi (c.1,c.2.1++d.2.1,()) l else c::Qfi d l
theorem Qh6:∀{l:List Z6}{c:Z6}{e:Int},e<c.1->c.2.1≠[]->Qbh (Jb c) l->Qce e (Qfi c l)
 |[],c,e,a,b,_=>⟨a,b,trivial⟩
 |d::l,c,e,a,b,⟨i,f,g⟩=>by
  unfold Qfi;split
  ·rename_i h;refine Qh6 (l:=l) (c:=(c.1,c.2.1++d.2.1,())) a (by simp[b]) ?_
   grind[Jb]
  ·rename_i h;exact⟨a,b,Qh6 (by omega) f g⟩
theorem Q0i:∀{l:List Z6}{e n:Int},Qbh e l->n<e->atC l n=none
 |[],_,_,_,_=>rfl
 |c::l,e,n,⟨d,a,b⟩,f=>by
  unfold atC;rw[if_neg (by omega)];exact Q0i b (by have:=Zzw a;omega)
theorem Qoj:∀{l:List Z6}{c:Z6},c.2.1≠[]->Qbh (Jb c) l-> ∀n,atC (Qfi c l) n=atC (c::l) n
 |[],c,_,_,n=>rfl
 |d::l,c,e,⟨i,f,g⟩,n=>by
  unfold Qfi;split
  ·rename_i j;have h:Jb (c.1,c.2.1++d.2.1,())=Jb d:=by
    grind[Jb]
   rw[Qoj (l:=l) (c:=(c.1,c.2.1++d.2.1,())) (by simp[e]) (by rw[h];exact g) n];have k:=Zzw e;have m:=Zzw f;unfold atC;rw[h];by_cases a:c.1<=n/\n<Jb c
   ·rw[if_pos (by simp only;omega),if_pos a]
    grind[Jb]
   ·rw[if_neg a];by_cases b:d.1<=n/\n<Jb d
    ·rw[if_pos (by simp only;omega)];unfold atC;rw[if_pos b]
     grind[Jb]
    ·rw[if_neg (by simp only;omega)];simp_all[atC,if_neg]
  ·unfold atC;rw[Qoj f g n]
theorem Qu9{c:Z6}(h:0<=c.1)(h2:Jb c<=4611686018427387903):Zf3 c=some (Jb c,()):=by
 unfold Jb at*
 show some (IntKind.i64.wrap (c.1+(c.2.1.length:Int)),())=_
 grind[Zs]
theorem Q3s(pre:List Z6)(c:Z6):(pre++[c]).getD pre.length Qx=c:=by
 simp[List.getD]
theorem Q69(pre:List Z6)(c d:Z6):(pre++[c]).set pre.length d=pre++[d]:=by
 simp_all
theorem Q4p{t:List Z6}{i:Nat}(hi:i<t.length):Zkf (t.drop i)=(t.getD i Qx).2.1.length+Zkf (t.drop (i+1)):=by
 rw[Xh (d:=Qx) hi];rfl
theorem Qto{t:List Z6}(ht:t.length<=4000000)(hb:∀c∈t,0<=c.1/\Jb c<=4611686018427387903):∀(N i:Nat)(pre:List Z6)(c:Z6),t.length-i<N->i<=t.length->pre.length+1<=i->0<=c.1->Jb c<=4611686018427387903->c.2.1.length+Zkf (t.drop i)<=1000000000->
  Zjg N (pre++[c]) t (t.length:Int) (i:Int)=some (pre++Qfi c (t.drop i),())
 |0,_,_,_,h,_,_,_,_,_=>by omega
 |N+1,i,pre,c,m,n,o,g,k,q=>by
  unfold Zjg;by_cases b:i<t.length
  ·have j:=hb _ (Z5 (d:=Qx) b);have l:=Q4p b;have a:(pre++[c]).length=pre.length+1:=by simp
   have f:IntKind.i64.wrap (((pre++[c]).length:Int)-1)=(pre.length:Int):=by grind[Zs]
   rw[Zm (Zl),Zb];simp only[f];rw[Zb,Zl (p:=(pre.length:Int)>=0),Oct,Int.toNat_natCast,Q3s,Qu9 g k,Obs,Ota];rw[show(i:Int).toNat=i from rfl,Zr b];rw[Xh (d:=Qx) b];generalize t.getD i Qx=d at*
   unfold Qfi;by_cases e:Jb c=d.1
   ·rw[if_pos e,beq_iff_eq.2 e,Oct,Zb (by rw[a];omega),Zb (by grind[Yh]),Zb (by rw[a];omega),Q69];have r:Jb (c.1,c.2.1++d.2.1,c.2.2)=Jb d:=by
     grind[Jb]
    exact Qto ht hb N (i+1) pre _ (by omega) (by omega) (by omega) g (by omega) (by grind)
   ·rw[if_neg e,beq_false_of_ne e,Ocf,Zb (by grind[Qd])];have:=Qto ht hb N (i+1) (pre++[c]) d (by omega) (by omega) (by rw[a];omega) j.1 j.2 (by omega);simp_all
  ·rw[Zo (Zn),List.drop_of_length_le (by omega)];rfl
def Qok:List Z6->List Z6|[]=>[]|c::l=>Qfi c l
theorem Xhs{t:List Z6}(ht:t.length<=4000000)(hb:∀c∈t,0<=c.1/\Jb c<=4611686018427387903)(hs:Zkf t<=1000000000):Zus t=some (Qok t,()):=by
 unfold Zus;cases t with
 |nil=>rfl
 |cons c l=>
  have b:Zsw ([]:List Z6) (c::l) ((c::l).length:Int) (0:Int)=l.length+2:=by
   rfl
  rw[b];have h:=hb c List.mem_cons_self;have d:Zkf (c::l)=c.2.1.length+Zkf l:=rfl;unfold Zjg;rw[Zm (Zl (by simp_all)),Zb (by simp_all)];have a:IntKind.i64.wrap ((([]:List Z6).length:Int)-1)= -1:=by decide
  simp only[a];rw[Zb (by simp_all),Zn (p:=(-1:Int)>=0),Ocf,Obs,Bool.false_and,Ocf,Zb (by simp[Qd])];have:=Qto ht hb (l.length+1) 1 [] c (by simp_all) (by simp_all) (Nat.le_refl _) h.1 h.2 (by simp_all);exact this
def Zzv(o:Int)(d:List UInt8)(a b:Int):List Z6:=if a<b then[(a,(d.drop (a-o).toNat).take ((b-o).toNat- (a-o).toNat),())]else[]
def Zfc(o:Int)(d:List UInt8)(e:Int):Int->List Z6->List Z6|f,[]=>Zzv o d f e|f,c::l=>Zzv o d f (min c.1 e)++c::Zfc o d e (max f (Jb c)) l
theorem Qry{o:Int}{d:List UInt8}{a b:Int}(h1:o<=a)(h2:a<b)(h3:b<=o+(d.length:Int)):(((d.drop (a-o).toNat).take ((b-o).toNat- (a-o).toNat)).length:Int)=b-a:=by
 grind
theorem Z98{o:Int}{d:List UInt8}{a b:Int}(h1:o<=a)(h2:a<b)(h3:b<=o+(d.length:Int)):Jb (a,(d.drop (a-o).toNat).take ((b-o).toNat- (a-o).toNat),())=b:=by
 grind[Jb]
theorem Qwu{o:Int}{d:List UInt8}{a b:Int}(h1:o<=a)(h2:a<b)(h3:b<=o+(d.length:Int)):(d.drop (a-o).toNat).take ((b-o).toNat- (a-o).toNat)≠[]:=λh=>by
 grind[Qry]
theorem Qd5{o:Int}{d:List UInt8}:∀{l:List Z6}{f L:Int},o<=f->L<=f->Qbh L l->Qbh L (Zfc o d (o+(d.length:Int)) f l)
 |[],f,L,a,b,_=>by
  unfold Zfc Zzv;split
  ·rename_i h;exact⟨b,Qwu a h (Int.le_refl _),trivial⟩
  ·trivial
 |c::l,f,L,a,b,⟨i,e,j⟩=>by
  have g:=Qd5 (o:=o) (l:=l) (f:=max f (Jb c)) (L:=Jb c) (d:=d) (by omega) (by omega) j;unfold Zfc Zzv;split
  ·rename_i h;have k:=Z98 (d:=d) a h (by omega);exact⟨b,Qwu a h (by omega),by rw[k];omega,e,g⟩
  ·exact⟨i,e,g⟩
theorem Q4b{o:Int}{d:List UInt8}:∀{l:List Z6}{f L:Int},o<=f->Qbh L l-> ∀n,atC (Zfc o d (o+(d.length:Int)) f l) n=match atC l n with|some v=>some v|none=>if f<=n/\n<o+(d.length:Int)then d[(n-o).toNat]? else none:=by
 have k:∀{a b n:Int}{r:List Z6},o<=a->b<=o+(d.length:Int)->atC (Zzv o d a b++r) n=if a<=n/\n<b then d[(n-o).toNat]? else atC r n:=by
  intro a b n r e m;unfold Zzv;split
  ·rename_i h;rw[List.singleton_append];unfold atC;rw[Z98 e h m];simp only;by_cases i:a<=n/\n<b
   ·grind
   ·rw[if_neg i,if_neg i];cases r<;>rfl
  grind
 intro l
 induction l with
 |nil=>
  intro f L e _ n;unfold Zfc;have:=k (a:=f) (b:=o+(d.length:Int)) (n:=n) (r:=[]) e (Int.le_refl _);rw[List.append_nil]at this;rw[this];rfl
 |cons c l s=>
  intro f L e h n;obtain⟨m,t,p⟩:=h;have u:=Zzw t;unfold Zfc;rw[k e (by omega)];have j:=s (f:=max f (Jb c)) (L:=Jb c) (by omega) p n;by_cases g:c.1<=n/\n<Jb c
  ·rw[if_neg (by omega),Qsu g.1 g.2,Qsu g.1 g.2]
   grind[Jb]
  ·have q:∀r:List Z6,atC (c::r) n=atC r n:=λr=>by
    rw[atC,if_neg g]
   rw[q,q,j];by_cases i:n<c.1
   ·have w:atC l n=none:=Q0i p (by omega)
    grind
   grind
theorem Qo5:∀{l:List Z6}{e:Int},Qbh e l->l.Pairwise (λx y=>x.1<y.1)/\ ∀c∈l,e<=c.1
 |[],_,_=>⟨List.Pairwise.nil,λ_ h=>by cases h⟩
 |c::l,e,⟨f,a,b⟩=>by
  obtain⟨d,g⟩:=Qo5 b;have i:=Zzw a;refine⟨List.Pairwise.cons (λy j=>by grind) d,λx hx=>?_⟩
  grind
theorem Xi4{l:List Z6}{e:Int}(h:Qbh e l)(h0:0<=e)(hb:∀c∈l,c.1<=4611686018427387904)(hl:l.length<=4000000):Zpb l=some ((),l):=by
 obtain⟨a,f⟩:=Qo5 h;have b:(l.map λx=>x.1).Nodup:=by
  grind
 have d:l.mergeSort (λx y=>decide (x.1<=y.1))=l:=List.mergeSort_of_pairwise (a.imp λh=>decide_eq_true (Int.le_of_lt h))
 grind[Zpb,Qsh,Zb]
theorem Qyt{b:Zv}{o:Int}{d:List UInt8}{t6:Zv}{t X:List Z6}(ht:t.length<=1000000)(hb:∀c∈t,0<=c.1/\Jb c<=4611686018427387903)(ho:0<=o)(he:o+(d.length:Int)<=4611686018427387903)
  (hX:Qbh 0 X) (hXb:∀c∈X,0<=c.1/\Jb c<=4611686018427387903) (hXl:X.length<=4000000) (hXs:Zkf X<=1000000000):∀(N i:Nat)(f:Int)(l:List Z6),t.length-i<N->i<=t.length->o<=f->f<=4611686018427387903->l++Zfc o d (o+(d.length:Int)) f (t.drop i)=X->
  Ze8 N b o d t6 f (o+(d.length:Int)) l t (t.length:Int) (i:Int)=some ((b.1,Qok X,()),())
 |0,_,_,_,h,_,_,_,_=>by omega
 |N+1,i,f,l,v,w,x,s,hx=>by
  have a:=congrArg List.length hx;rw[List.length_append]at a;have fin:∀Y:List Z6,Y=X->Option.bind (Zpb Y) (λj=>Option.bind (Zus j.2) λk=>some ((b.1,k.1,()),()))=some ((b.1,Qok X,()),()):=by
   rintro Y rfl;rw[Xi4 hX (Int.le_refl _) (λc m=>by grind[Jb]) hXl,Obs,Xhs hXl hXb hXs,Obs]
  unfold Ze8;by_cases n:i<t.length
  ·have m:=hb _ (Z5 (d:=Qx) n);rw[Xh (d:=Qx) n]at hx a;rw[Zm (Zl),Zb,show(i:Int).toNat=i from rfl,Zr n];have p:=Qu9 m.1 m.2;generalize t.getD i Qx=c at*
   rw[Zfc]at hx a;simp only[List.length_append,List.length_cons]at a;have u:c.1<=Jb c:=by grind[Jb]
   by_cases e:f<min c.1 (o+(d.length:Int))
   ·have q:IntKind.i64.wrap (min c.1 (o+(d.length:Int))-o)=min c.1 (o+(d.length:Int))-o:=Zs;have r:IntKind.i64.wrap (f-o)=f-o:=Zs;have g:Zzv o d f (min c.1 (o+(d.length:Int)))=[(f,(d.drop (f-o).toNat).take ((min c.1 (o+(d.length:Int))-o).toNat- (f-o).toNat),())]:=if_pos e;rw[Zm (Zl e)];simp only[q,r];rw[g]at hx a;simp only[List.length_singleton]at a;rw[Zb,Zb (by grind[Qd]),Zb (by grind[Qd]),p,Obs];exact Qyt ht hb ho he hX hXb hXl hXs N (i+1) _ _ (by omega) (by omega) (by omega) (by omega) (by simp_all)
   ·have g:Zzv o d f (min c.1 (o+(d.length:Int)))=[]:=if_neg e;rw[Zo (Zn e)];rw[g]at hx a;rw[Zb (by grind[Qd]),p,Obs];exact Qyt ht hb ho he hX hXb hXl hXs N (i+1) _ _ (by omega) (by omega) (by omega) (by omega) (by simp_all)
  ·rw[Zo (Zn),Int.min_self];rw[List.drop_of_length_le (by omega),Zfc]at hx a;by_cases e:f<o+(d.length:Int)
   ·have q:IntKind.i64.wrap (o+(d.length:Int)-o)=o+(d.length:Int)-o:=Zs;have r:IntKind.i64.wrap (f-o)=f-o:=Zs;have g:Zzv o d f (o+(d.length:Int))=[(f,(d.drop (f-o).toNat).take ((o+(d.length:Int)-o).toNat- (f-o).toNat),())]:=if_pos e;rw[Zm (Zl e)]
    grind[Zb,Qd]
   simp_all[Zzv,Zn]
theorem Qo8(o:Int)(d:List UInt8)(e:Int):∀(l:List Z6)(f:Int),(Zfc o d e f l).length<=2*l.length+1
 |[],f=>by
  grind[Zfc,Zzv]
 |c::l,f=>by
  have:=Qo8 o d e l (max f (Jb c))
  grind[Zfc,Zzv]
theorem Qo9{o:Int}{d:List UInt8}:∀{l:List Z6}{f:Int},o<=f->(∀c∈l,c.1<=Jb c)->(Zkf (Zfc o d (o+(d.length:Int)) f l):Int)<=Zkf l+max 0 (o+(d.length:Int)-f)
 |[],f,h,_=>by
  unfold Zfc Zzv;split
  ·rename_i a;have:=Qry (d:=d) h a (Int.le_refl _)
   grind[Zkf]
  omega
 |c::l,f,h,b=>by
  have e:=Qo9 (o:=o) (d:=d) (l:=l) (f:=max f (Jb c)) (by omega) λx hx=>b x (List.mem_cons_of_mem _ hx)
  grind[Zfc,Zzv,Zkf]
theorem Qwv{o:Int}{d:List UInt8}(h0:0<=o)(he:o+(d.length:Int)<=4611686018427387903):∀{l:List Z6}{f:Int},o<=f->(∀c∈l,0<=c.1/\Jb c<=4611686018427387903)-> ∀c∈Zfc o d (o+(d.length:Int)) f l,0<=c.1/\Jb c<=4611686018427387903
 |[],f,h,_,c,hc=>by
  unfold Zfc Zzv at hc;split at hc
  ·rename_i a;rw[List.mem_singleton.1 hc,Z98 h a (Int.le_refl _)];omega
  ·cases hc
 |x::l,f,h,b,c,hc=>by
  unfold Zfc Zzv at hc;rcases List.mem_append.1 hc with hc|hc
  ·grind[Z98]
  ·rcases List.mem_cons.1 hc with rfl|hc
   ·simp_all
   ·exact Qwv h0 he (by omega) (λy e=>b y (List.mem_cons_of_mem _ e)) c hc
theorem Ql4{e:Int}:∀{l:List Z6}{e:Int},Qce e l->Qbh e l
 |[],_,_=>trivial
 |_::_,_,⟨c,a,b⟩=>⟨by omega,a,Ql4 (e:=e) b⟩
noncomputable def Qh3(b:Zv)(o:Int)(d:List UInt8):Zv:=bif(((!Zoz b||(d==([]:List UInt8)))||decide (o<0))||decide (o>4611686018427387903- (d.length:Int)))||decide (o+(d.length:Int)<=b.1)then b else(b.1,Qok (Zfc o d (o+(d.length:Int)) (max o b.1) b.2.1),())
theorem Zun{K:Nat}{b:Zv}(h:Zhn K b)(hK:K<=1000000):Zkk b=some (b,()):=by
 have:=h.len
 grind[Zkk,Zb,Qd]
theorem Qv7{K:Nat}{b:Zv}(h:Zhn K b)(o:Int)(d:List UInt8)(hK:K+d.length<=1000000)(hoB:o<=4611686018427387904):Ztm b o d=some (Qh3 b o d,()):=by
 have t:=h.len;have u:=h.tot;unfold Ztm Qh3;rw[Z92 h (by omega),Obs];simp only;cases hb:Zoz b
 ·grind[Zun]
 simp only[Ont,Bool.false_or];rw[Zs];by_cases g:(d==([]:List UInt8))=true
 ·grind[Zun]
 rw[Bool.not_eq_true]at g;rw[g];simp only[Bool.false_or];by_cases k:o<0
 ·grind[Zun]
 rw[Zn k,Bool.false_or];by_cases m:o>4611686018427387903- (d.length:Int)
 ·grind[Zun]
 rw[Zn m,Bool.false_or,Zs];by_cases n:o+(d.length:Int)<=b.1
 ·grind[Zun]
 rw[Zn n];simp only[Bool.or_self,Ocf,X4];unfold Zoz at hb;simp only[Oba,Km]at hb;rw[Zs]at hb;obtain⟨i,j⟩:=Qeu hb.1 (by omega) λc p=>by have:=Z3d p;omega
 have a:∀c∈b.2.1,c.1<=Jb c:=λc _=>by grind[Jb]
 unfold Zt5 Zm7;have q:Qbh 0 (Zfc o d (o+(d.length:Int)) (max o b.1) b.2.1):=by
  refine Qd5 (by omega) (by omega) ?_;have:=Ql4 (e:=0) i;cases hbl:b.2.1 with
  |nil=>trivial
  |cons c l=>
   rw[hbl]at i this;exact⟨by simp_all,this.2⟩
 have r:=Qo9 (o:=o) (d:=d) (l:=b.2.1) (f:=max o b.1) (by omega) a;have s:=Qo8 o d (o+(d.length:Int)) b.2.1 (max o b.1);exact Qyt (by omega) j (by omega) (by omega) q (Qwv (by omega) (by omega) (by omega) j) (by omega) (by omega) _ 0 _ [] (by omega) (by omega) (by omega) (by omega) rfl
def bv:Option UInt8->Int|some v=>(v.toNat:Int)|none=> -1
theorem Qq3{b:Zv}{n:Int}(h0:0<=n)(h1:n<=4611686018427387903)(hl:b.2.1.length<=1000000)(hq:∀c∈b.2.1,0<=c.1/\Jb c<=4611686018427387903):∀(N i:Nat),b.2.1.length-i<N->i<=b.2.1.length->
  Zga N n b (i:Int)=some (bv (atC (b.2.1.drop i) n),())
 |0,_,h,_=>by omega
 |N+1,i,l,m=>by
  unfold Zga;by_cases a:i<b.2.1.length
  ·have j:=hq _ (Z5 (d:=Qx) a);rw[Zm (Zl),Zb,show(i:Int).toNat=i from rfl,Zr a,Xh (d:=Qx) a,Qq3 h0 h1 hl hq N (i+1) (by omega) (by omega)];generalize b.2.1.getD i Qx=c at*
   have k:c.1<=Jb c:=by grind[Jb]
   rw[Zs];simp only;rw[Zb (by intro _;omega),Zb (by intro _;omega),Zl (p:=n>=0) h0,Zl (p:=c.1>=0) j.1,Ota,Ota,atC];by_cases g:c.1<=n/\n<Jb c
   ·have f:n-c.1<(c.2.1.length:Int):=by grind[Jb]
    have hk:(n-c.1).toNat<c.2.1.length:=by omega
    rw[if_pos g,Zl (p:=n-c.1>=0),Zl (p:=n-c.1<(c.2.1.length:Int)) f,Ota,Oct,Zb,Zb,List.getElem?_eq_getElem hk];have:c.2.1.getD (n-c.1).toNat 0=c.2.1[(n-c.1).toNat]:=by simp_all
    rw[this];have hv:=UInt8.toNat_lt c.2.1[(n-c.1).toNat];rw[Zs];rfl
   ·rw[if_neg g];have e:(decide (n-c.1>=0)&&decide (n-c.1<(c.2.1.length:Int)))=false:=by
     grind[Jb]
    grind
  ·rw[Zo (Zn),List.drop_of_length_le (by omega)];rfl
theorem Q9e{b:Zv}{n:Int}(h0:0<=n)(h1:n<=4611686018427387903)(hl:b.2.1.length<=1000000)(hq:∀c∈b.2.1,0<=c.1/\Jb c<=4611686018427387903):Zu1 b n=some (bv (atC b.2.1 n),()):=by
 grind[Zu1,Qq3,Zmt]
set_option maxRecDepth 100000 in
theorem Xg2:∀k:Fin 256,bits .and .i64 ((k.val:Nat):Int) 255=((k.val:Nat):Int):=by decide
theorem Xav(v:UInt8):Zd9 (v.toNat:Int)=some ([v],()):=by
 have hv:=UInt8.toNat_lt v;have a:bits .and .i64 (v.toNat:Int) 255=(v.toNat:Int):=Xg2 ⟨v.toNat,by omega⟩;unfold Zd9 Znv;rw[a,show Z8 1 1 7=some (true,())from rfl];simp only[Obs,Ont,Bool.false_or];rw[Zo (Zn)];show Option.bind (Yd 2 (v.toNat:Int) 1 [] 0) _=_;unfold Yd;rw[Zm (by decide),Zb (by decide)];simp only;rw[Zb (by simp[Yh,Qj]),Zb (by decide)];unfold Yd;have b:Int.tdiv (v.toNat:Int) 256=0:=Int.tdiv_eq_zero_of_lt (by omega) (by omega);have c:Int.tmod (v.toNat:Int) 256=(v.toNat:Int):=Int.tmod_eq_of_lt (by omega) (by omega);rw[show IntKind.i64.wrap ((0:Int)+1)=1 from rfl,Zo (by decide),b,c,show IntKind.i64.wrap 0=0 from rfl,Zn (p:=(0:Int)>0),Ocf,Obs];have d:IntKind.u8.wrap (v.toNat:Int)=(v.toNat:Int):=by grind[IntKind.wrap,IntKind.bits,IntKind.signed]
 simp_all[Qj]
def Qyu(b:Zv)(o:Int)(d:List UInt8)(n:Int):UInt8:=match atC b.2.1 n with|some v=>v|none=>d.getD (n-o).toNat 0
def Z7g(b:Zv)(o:Int)(d:List UInt8):Int->Nat->List UInt8|_,0=>[]|a,m+1=>Qyu b o d a::Z7g b o d (a+1) m
theorem Qhb(b:Zv)(o:Int)(d:List UInt8):∀(m:Nat)(a:Int),(Z7g b o d a m).length=m
 |0,_=>rfl
 |m+1,a=>by rw[Z7g,List.length_cons,Qhb b o d m]
theorem Qxn(b:Zv)(o:Int)(d:List UInt8):∀(m:Nat)(a:Int)(j:Nat),j<m->(Z7g b o d a m)[j]? =some (Qyu b o d (a+(j:Int)))
 |0,_,_,h=>by omega
 |m+1,a,0,_=>by rw[Z7g];simp
 |m+1,a,j+1,h=>by
  rw[Z7g,List.getElem?_cons_succ,Qxn b o d m (a+1) j (by omega)];congr 2;omega
theorem Xai{b:Zv}(hbl:b.2.1.length<=1000000)(hq:∀c∈b.2.1,0<=c.1/\Jb c<=4611686018427387903)(K1:(Int×List UInt8×Zv×Zv×Zv×List Zi×Int×Unit)->Option (Zv×Unit)){o:Int}(ho:0<=o){d:List UInt8}(t x:Zv)(l:List Zi){i:Nat}(hi:i<l.length){r:Zi}(hr:l.getD i Zz=r)
  (h0:0<=r.1) (hH:r.2.1<=4611686018427387903) (hx:x.2.1.length<=1000000) (hin:∀n,r.1<=n->n<r.2.1->atC b.2.1 n≠none\/(o<=n/\n<o+(d.length:Int))):
  ∀(N m:Nat)(s:List UInt8),(m:Int)<=r.2.1-r.1->m<N->(s.length:Int)+m<=4000000->
   Yu K1 N o d b t x l (i:Int) s (r.2.1- (m:Int))=K1 (o,d,b,t,(x.1,x.2.1++[(r.1,s++Z7g b o d (r.2.1- (m:Int)) m,())],x.2.2),l,IntKind.i64.wrap ((i:Int)+1),()):=by
 intro N
 induction N with
 |zero=>omega
 |succ N g=>
 intro m s j k p;cases m with
 |zero=>
  unfold Yu;rw[Zb,show(i:Int).toNat=i from rfl,hr,Zo (Zn),Zb]
  grind[Zb,Qd,Z7g]
 |succ m=>
  have e:r.2.1- ((m+1:Nat):Int)+1=r.2.1- (m:Int):=by omega
  have a:∀v:UInt8,v=Qyu b o d (r.2.1- ((m+1:Nat):Int))->Zb6 K1 (λv=>Yu K1 N v.1 v.2.1 v.2.2.1 v.2.2.2.1 v.2.2.2.2.1 v.2.2.2.2.2.1 v.2.2.2.2.2.2.1 v.2.2.2.2.2.2.2.1 v.2.2.2.2.2.2.2.2.1) o d b t x l (i:Int) s (r.2.1- ((m+1:Nat):Int)) (v.toNat:Int)=
    K1 (o,d,b,t,(x.1,x.2.1++[(r.1,s++Z7g b o d (r.2.1- ((m+1:Nat):Int)) (m+1),())],x.2.2),l,IntKind.i64.wrap ((i:Int)+1),()):=by
   grind[Zb6,Xav,Zb,Yh,Zs,Z7g]
  unfold Yu;rw[Zb,show(i:Int).toNat=i from rfl,hr,Zm (Zl),Q9e (by omega) (by omega) hbl hq,Obs];have f:=hin (r.2.1- ((m+1:Nat):Int)) (by omega) (by omega);cases ha:atC b.2.1 (r.2.1- ((m+1:Nat):Int))with
  |none=>
   rw[ha]at f;have f:=f.resolve_left (λh=>h rfl);rw[show decide ((bv (none:Option UInt8),()).1<(0:Int))=true from rfl,Oct,Zs (n:=r.2.1- ((m+1:Nat):Int)-o),Zb];have hv:=UInt8.toNat_lt (d.getD (r.2.1- ((m+1:Nat):Int)-o).toNat 0);rw[Zs];simp_all[Qyu]
  |some v=>
   rw[show decide ((bv (some v),()).1<(0:Int))=false from Zn (show ¬((v.toNat:Int)<0) by omega),Ocf];exact a v (by simp_all[Qyu])
theorem Qtn(n:Int):¬inR n []:=λ⟨x,hx,_⟩=>by cases hx
theorem Z4g{n:Int}{x:Zi}{l:List Zi}:inR n (x::l)↔(x.1<=n/\n<x.2.1)\/inR n l:=by
 constructor
 ·rintro⟨y,hy,h⟩;rcases List.mem_cons.1 hy with rfl|hy
  ·exact .inl h
  ·exact .inr ⟨y,hy,h⟩
 ·rintro(h|⟨y,hy,h⟩)
  ·exact⟨x,List.mem_cons_self,h⟩
  ·exact⟨y,List.mem_cons_of_mem _ hy,h⟩
theorem Xae{n:Int}:∀{l:List Zi}{r:Zi},inR n (Zk4 l r)↔inR n l\/(r.1<=n/\n<r.2.1)
 |l,r=>⟨Qft,in_addR' l r⟩
where in_addR' {n:Int}:∀(l:List Zi)(r:Zi),inR n l\/(r.1<=n/\n<r.2.1)->inR n (Zk4 l r)
 |[],r,h=>⟨r,by simp[Zk4],h.resolve_left (Qtn n)⟩
 |x::l,r,h=>by
  unfold Zk4;split
  ·refine Z4g.2 ?_;rcases h with h|h
   ·rcases Z4g.1 h with h|h
    ·exact .inl h
    ·exact .inr (in_addR' l r (.inl h))
   ·exact .inr (in_addR' l r (.inr h))
  ·split
   ·grind[Z4g]
   ·refine in_addR' l _ ?_
    grind[Z4g]
def rgS(b:Zv)(o:Int)(d:List UInt8)(r:Zi):Z6:=(r.1,Z7g b o d r.1 (r.2.1-r.1).toNat,())
theorem Qui(b:Zv)(o:Int)(d:List UInt8){r:Zi}(h:r.1<=r.2.1:=by omega):Jb (rgS b o d r)=r.2.1:=by
 grind[Jb,rgS,Qhb]
theorem Q1g{b:Zv}(hbl:b.2.1.length<=1000000)(hq:∀c∈b.2.1,0<=c.1/\Jb c<=4611686018427387903){o:Int}(ho:0<=o){d:List UInt8}(t:Zv){l:List Zi}(hl:l.length<=1000000)(hf:∀r∈l,Zf9 r=true)(hc:∀r∈l,r.2.1-r.1<=2000000)
  (hin:∀n,inR n l->atC b.2.1 n≠none\/(o<=n/\n<o+(d.length:Int))):∀(N i:Nat)(x:Zv),l.length-i<N->i<=l.length->x.2.1.length<=i->
   Vh N o d b t x l (i:Int)=some ((x.1,x.2.1++(l.drop i).map (rgS b o d),x.2.2),())
 |0,_,_,h,_,_=>by omega
 |N+1,i,x,p,s,hx=>by
  unfold Vh;by_cases h:i<l.length
  ·have a:=Z5 (d:=Zz) h;have e:=Q5.1 (hf _ a);have j:=hc _ a;rw[Zm (Zl),Zb,show(i:Int).toNat=i from rfl,Xh (d:=Zz) h,List.map_cons];generalize m:l.getD i Zz=r at*
   have k:=Xai hbl hq (λv=>Vh N v.1 v.2.1 v.2.2.1 v.2.2.2.1 v.2.2.2.2.1 v.2.2.2.2.2.1 v.2.2.2.2.2.2.1) ho t x l h m e.1 (by omega) (by omega) (λn f g=>hin n ⟨r,a,f,g⟩) (Wp o d b t x l (i:Int) [] r.1) (r.2.1-r.1).toNat [] (by omega)
    (by simp_all[Wp]) (by grind)
   rw[show r.2.1- (((r.2.1-r.1).toNat:Nat):Int)=r.1 by omega]at k;rw[k,Zr h];have q:=Q1g hbl hq ho (d:=d) t hl hf hc hin N (i+1) (x.1,x.2.1++[rgS b o d r],x.2.2) (by omega) (by omega) (by simp_all);refine Eq.trans q ?_;simp_all
  grind
theorem Q2a(b:Zv)(o:Int)(d:List UInt8):∀{l:List Zi}{e:Int},rsB e l=true->Qce e (l.map (rgS b o d))
 |[],_,_=>trivial
 |r::l,e,h=>by
  simp only[rsB,Oba,decide_eq_true_eq]at h;have c:=Q5.1 h.1.1;refine⟨h.1.2,?_,?_⟩
  ·intro a;have:=congrArg List.length a
   grind[rgS,Qhb]
  ·rw[Qui b o d];exact Q2a b o d h.2
theorem Q73(b:Zv)(o:Int)(d:List UInt8):∀{l:List Zi}{n:Int},(∀r∈l,Zf9 r=true)->(inR n l->atC (l.map (rgS b o d)) n=some (Qyu b o d n))/\(¬inR n l->atC (l.map (rgS b o d)) n=none)
 |[],n,_=>⟨λh=>absurd h (Qtn n),λ_=>rfl⟩
 |r::l,n,h=>by
  have c:=Q5.1 (h r List.mem_cons_self);obtain⟨e,f⟩:=Q73 b o d (l:=l) (n:=n) λx hx=>h x (List.mem_cons_of_mem _ hx);rw[List.map_cons,atC,Qui b o d];show(_->(if r.1<=n/\n<r.2.1 then(Z7g b o d r.1 (r.2.1-r.1).toNat)[(n-r.1).toNat]? else _)=_)/\(_->(if r.1<=n/\n<r.2.1 then(Z7g b o d r.1 (r.2.1-r.1).toNat)[(n-r.1).toNat]? else _)=_)
  by_cases a:r.1<=n/\n<r.2.1
  ·rw[if_pos a,Qxn b o d _ _ _ (by omega),show r.1+(((n-r.1).toNat:Nat):Int)=n by omega];exact⟨λ_=>rfl,λh=>absurd ⟨r,List.mem_cons_self,a⟩ h⟩
  ·rw[if_neg a]
   grind[Z4g]
theorem Q0h:∀{l:List Z6}{n:Int},atC l n≠none↔inR n (l.map rgC)
 |[],n=>⟨λh=>absurd rfl h,λh=>absurd h (Qtn n)⟩
 |c::l,n=>by
  rw[List.map_cons,Z4g,<-Q0h (l:=l)];unfold rgC;simp only;by_cases a:c.1<=n/\n<Jb c
  ·have:c.1<=n/\n<c.1+(c.2.1.length:Int):=a;simp_all[Qu3]
  ·have b:¬(c.1<=n/\n<c.1+(c.2.1.length:Int)):=a;rw[atC,if_neg a]
   grind
theorem Xcx{K:Nat}{b:Zv}(h:Zhn K b)(o:Int)(d:List UInt8)(hK:K+d.length+1<=1000000)(hb:Zoz b=true)(hdl:0<d.length)(h1:¬o<0)(h2:¬o>4611686018427387903- (d.length:Int))(h3:¬o+(d.length:Int)<=b.1):
  rsB (b.1-1) (Zk4 (b.2.1.map rgC) (max o b.1,o+(d.length:Int),()))=true/\(∀n,inR n (Zk4 (b.2.1.map rgC) (max o b.1,o+(d.length:Int),()))↔atC b.2.1 n≠none\/(max o b.1<=n/\n<o+(d.length:Int)))/\
  (Zk4 (b.2.1.map rgC) (max o b.1,o+(d.length:Int),())).map (rgS b o d)=Qok (Zfc o d (o+(d.length:Int)) (max o b.1) b.2.1):=by
 have A:=h.len;have B:=h.tot;obtain⟨C,D,p⟩:=Zw2 (by omega) hb;have j:rsB (-1) (b.2.1.map rgC)=true:=Z49 p (by omega);have i:Zf9 (max o b.1,o+(d.length:Int),())=true:=Q5.2 (by simp only;omega);have f:=Z9r j i (by simp only;omega);have a:=hb;unfold Zoz at a;simp only[Oba]at a;rw[Zs]at a;obtain⟨k,E⟩:=Qeu a.1 (by omega) λc u=>by have:=Z3d u;omega
 have v:∀r∈Zk4 (b.2.1.map rgC) (max o b.1,o+(d.length:Int),()),Zf9 r=true:=λr w=>(Zqe f r w).2;have q:∀n,inR n (Zk4 (b.2.1.map rgC) (max o b.1,o+(d.length:Int),()))↔atC b.2.1 n≠none\/(max o b.1<=n/\n<o+(d.length:Int)):=λn=>by rw[Xae,Q0h]
 refine⟨Z9r p i (by simp only;omega),q,?_⟩;have x:∀c∈b.2.1,c.1<=Jb c:=λc _=>by grind[Jb]
 have g:Qbh 0 (Zfc o d (o+(d.length:Int)) (max o b.1) b.2.1):=by
  refine Qd5 (by omega) (by omega) ?_;have:=Ql4 (e:=0) k;cases hbl:b.2.1 with
  |nil=>trivial
  |cons c l=>
   rw[hbl]at k this;exact⟨by simp_all,this.2⟩
 have s:Qce (-1) (Qok (Zfc o d (o+(d.length:Int)) (max o b.1) b.2.1))/\ ∀n,atC (Qok (Zfc o d (o+(d.length:Int)) (max o b.1) b.2.1)) n=atC (Zfc o d (o+(d.length:Int)) (max o b.1) b.2.1) n:=by
  generalize Zfc o d (o+(d.length:Int)) (max o b.1) b.2.1=P at g;cases P with
  |nil=>exact⟨trivial,λ_=>rfl⟩
  |cons c l=>exact⟨Qh6 (by have:=g.1;omega) g.2.1 g.2.2,Qoj g.2.1 g.2.2⟩
 have m:Qbh (-1) b.2.1:=Q36 (by omega) (Ql4 (e:=0) k);refine Qu8 (Q2a b o d f) s.1 λn=>?_;obtain⟨y,F⟩:=Q73 b o d v (n:=n);rw[s.2,Q4b (by omega) m];by_cases t:inR n (Zk4 (b.2.1.map rgC) (max o b.1,o+(d.length:Int),()))
 ·rw[y t];have z:=(q n).1 t;unfold Qyu
  grind
 grind
theorem Z79{K:Nat}{b:Zv}(h:Zhn K b)(o:Int)(d:List UInt8)(hK:K+d.length+1<=1000000)(hoB:o<=4611686018427387904):Zkv b o d=some (Qh3 b o d,()):=by
 have I:=h.len;have J:=h.tot;unfold Zkv Qh3;rw[Zjh b,Obs];simp only;cases hb:Zoz b
 ·grind[Z0z]
 simp only[Ont,Bool.false_or];rw[Zs (n:=4611686018427387903- (d.length:Int))];by_cases v:(d==([]:List UInt8))=true
 ·grind[Z0z]
 rw[Bool.not_eq_true]at v;have m:0<d.length:=List.length_pos_iff.2 λe=>by simp_all
 rw[v];simp only[Bool.false_or];by_cases w:o<0
 ·grind[Z0z]
 rw[Zn w,Bool.false_or];by_cases y:o>4611686018427387903- (d.length:Int)
 ·grind[Z0z]
 rw[Zn y,Bool.false_or,Ocf,Zs];obtain⟨L,M,A⟩:=Zw2 (by omega) hb;by_cases p:o+(d.length:Int)<=b.1
 ·rw[Zl p,Zm (Zl),Z0z h];rfl
 rw[Zn p,Ocf,Zo (Zn),Qeq h,Obs,hb];simp only[if_true];have q:(b.2.1.map rgC).length<=1048576:=by grind
 rw[Zqn _ _ q,Obs];have g:rsB (-1) (b.2.1.map rgC)=true:=Z49 A (by omega);have s:Zf9 (max o b.1,o+(d.length:Int),())=true:=Q5.2 (by simp only;omega);simp only[g,s,and_self,if_true];have t:=Qel (l:=b.2.1.map rgC) (r:=((max o b.1,o+(d.length:Int),()):Zi));rw[List.length_map]at t;have i:=Z7t (l:=b.2.1.map rgC) (r:=((max o b.1,o+(d.length:Int),()):Zi)) (λx hx=>by
  have:=Q5.1 (Zqe g x hx).2;omega) (by simp only;omega)
 rw[Ql5]at i;simp only at i;obtain⟨f,B,N⟩:=Xcx h o d hK hb m w y p;have j:=Z49 f (show(-1:Int)<=b.1-1 by omega);have a:=hb;unfold Zoz at a;simp only[Oba]at a;rw[Zs]at a;obtain⟨O,C⟩:=Qeu a.1 (by omega) λc D=>by have:=Z3d D;omega
 have E:∀r∈Zk4 (b.2.1.map rgC) (max o b.1,o+(d.length:Int),()),Zf9 r=true:=λr k=>(Zqe j r k).2;have F:∀{l:List Zi},(∀r∈l,Zf9 r=true)->0<=Zc1 l/\ ∀r∈l,r.2.1-r.1<=Zc1 l:=by
  intro l
  induction l with
  |nil=>simp_all[Zc1]
  |cons r l G=>
   intro z;have k:=Q5.1 (z r List.mem_cons_self);obtain⟨P,Q⟩:=G λr k=>z r (List.mem_cons_of_mem _ k);simp only[Zc1]
   grind
 have u:=Q1g (b:=b) (by omega) C (o:=o) (by omega) (d:=d) Qmv (l:=Zk4 (b.2.1.map rgC) (max o b.1,o+(d.length:Int),())) (by omega) E (λr k=>by grind)
  (λn H=>((B n).1 H).imp id λh=>by omega) (Wo o d b Qmv (b.1,[],()) (Zk4 (b.2.1.map rgC) (max o b.1,o+(d.length:Int),())) 0) 0 (b.1,[],()) (by simp[Wo]) (by omega) (by simp)
 refine Eq.trans u ?_;simp_all
theorem Qv5{K:Nat}{b:Zv}(h:Zhn K b)(o:Int)(d:List UInt8)(hK:K+d.length+1<=1000000)(hoB:o<=4611686018427387904):Zhn (K+d.length+1) (Qh3 b o d):=by
 obtain⟨y,e,a⟩:=Qoh h o d hK;rw[Z79 h o d hK hoB]at e;simp_all
theorem Qbq{K:Nat}{r:Zx}(h:Zhn K r.2.1)(hK:K<=1000000:=by omega):Zda r=some (r,()):=by
 grind[Zda,Zun]
theorem Qmd{K:Nat}{r:Zx}(h:Zhn K r.2.1)(hK:K<=1000000:=by omega):Zlx r=some (r,()):=by
 grind[Zlx,Z0z]
noncomputable def Qbn(r:Zx)(e:Int)(fin:Bool):Bool:=((r.2.2.1 !=(-1:Int))&&(decide (e>r.2.2.1)))||(fin&&(((r.2.2.1 !=(-1:Int))&&(e !=r.2.2.1))||(decide (e<r.2.2.2.1))))
theorem Q0s(r:Zx)(e:Int)(fin:Bool):Zr5 r e fin=some (Qbn r e fin,()):=rfl
theorem Qhz(r:Zx)(e:Int)(fin:Bool):Zow r e fin=some (bif Qbn r e fin then 6 else 0,()):=by
 grind[Zow,Qbn]
theorem Q8q{r:Zx}(h:0<=r.1):Zt6 r=some (!decide (r.1>1),()):=by
 unfold Zt6;congr 2
 grind
theorem Q71{K:Nat}{r:Zx}(h:Zhn K r.2.1)(o:Int)(d:List UInt8)(fin:Bool)(hK:K+d.length+1<=900000)(hoB:o<=4611686018427387904):Zr2 r o d fin=Ym r o d fin:=by
 unfold Zr2 Ym;rw[Qbq h,Qmd h,Zyl h,Qqq h];simp only[Obs];cases hb:Qpg r
 ·rfl
 have c:=Xfd h (by omega) hb;simp only[Ont,Bool.false_or];rw[Q0s,Qhz,Q8q c];simp only[Obs];generalize (decide (o<0)||decide (o>IntKind.i64.wrap (4611686018427387903- (d.length:Int))))=a;cases a
 rotate_left
 ·rfl
 rw[Ocf,Ocf];cases Qbn r (IntKind.i64.wrap (o+(d.length:Int))) fin
 rotate_left
 ·rfl
 rw[Ocf,Ocf];cases decide (r.1>1)
 rotate_left
 ·rfl
 have b:=Qv5 h o d (by omega) hoB;have j:∀x:Zx,Zht o d r Zso x=Yy o d r Zso x:=λx=>by
  unfold Zht Yy Zta;rw[Qv7 h o d (by omega) hoB,Z79 h o d (by omega) hoB];simp only[Obs];rw[Qky b (by omega),Zrb _ (by have:=b.len;omega)];cases x.2.2.1 !=(-1:Int)
  ·rfl
  ·rfl
 simp_all
theorem Qqt{K:Nat}{r:Zx}(h:Zhn K r.2.1)(code final:Int)(hK:K<=900000):Zqa r code final=K8 r code final:=by
 unfold Zqa K8;rw[Qbq h,Qmd h,Zyl h,Qqq h];simp only[Obs];cases hb:Qpg r
 ·rfl
 have a:=Xfd h (by omega) hb;rw[Q0s,Qhz,Q8q a];simp only[Obs,Ont,Bool.false_or,Ocf,Z5w,Kz]
 grind
def Qag(s:Zg):List Zg->List Zg|[]=>[s]|x::r=>if x.1>s.1 then s::x::r else x::Qag s r
theorem Xc7{K:Nat}{l:List Zg}{s:Zg}(h:Zg7 K l)(hK:K<=500000):∀(N i:Nat)(out:List Zg),l.length-i<N->i<=l.length->out.length<=i+1->Xd N l s out (-1) true (i:Int)=some (out++l.drop i,())
 |0,_,_,h,_,_=>by omega
 |N+1,i,out,b,c,e=>by
  have f:=h.len;rw[Xd];by_cases a:i<l.length
  ·rw[Zm (Zl),Zb,show(i:Int).toNat=i from rfl,Ztq (h.all _ (Z5 (d:=Zj) a)),Obs];have:((i:Int)==(-1:Int))=false:=by simp
   rw[this,Ocf,Zb (λh=>by cases h)];simp only[Ont,Bool.false_and,Ocf];unfold Yl;rw[Zb (by grind[Qd]),Zr a];refine Eq.trans (Xc7 h hK N (i+1) (out++[l.getD i Zj]) (by omega) (by omega) (by simp_all)) ?_;simp_all
  grind
theorem Xc6{K:Nat}{l:List Zg}{s:Zg}(h:Zg7 K l)(hs:Xl K s)(hK:K<=500000):∀(N i:Nat)(out:List Zg),l.length-i<N->i<=l.length->out.length<=i->Xd N l s out (-1) false (i:Int)=some (out++Qag s (l.drop i),())
 |0,_,_,h,_,_=>by omega
 |N+1,i,out,c,e,f=>by
  have g:=h.len;rw[Xd];by_cases a:i<l.length
  ·rw[Zm (Zl),Zb,show(i:Int).toNat=i from rfl,Ztq (h.all _ (Z5 (d:=Zj) a)),Obs];have:((i:Int)==(-1:Int))=false:=by simp
   rw[this,Ocf,Zb (λ_=>by omega),Xh (d:=Zj) a];simp only[Bool.not_false,Ota];unfold Qag;by_cases b:(l.getD i Zj).1>s.1
   ·rw[Zl b,Oct,if_pos b,Ztq hs,Obs,Zb (by grind[Qd])];unfold Yl;rw[Zb (by grind[Qd]),Zr a];refine Eq.trans (Xc7 h hK N (i+1) (out++[s]++[l.getD i Zj]) (by omega) (by omega) (by simp_all)) ?_;simp_all
   ·rw[Zn b,Ocf,if_neg b];unfold Yl;rw[Zb (by grind[Qd]),Zr a];refine Eq.trans (Xc6 h hs hK N (i+1) (out++[l.getD i Zj]) (by omega) (by omega) (by simp_all)) ?_;simp_all
  ·rw[Zo (Zn),List.drop_of_length_le (by omega)];simp only[Bool.not_false,Oct];rw[Ztq hs,Obs,Zb (by grind[Qd])];rfl
def gtS(s:Zg):List Zg->Option Nat|[]=>none|x::r=>if x.1>s.1 then some 0 else(gtS s r).map (· +1)
theorem Qmc(s:Zg):∀l:List Zg,Qag s l=match gtS s l with|none=>l++[s]|some p=>l.take p++[s]++l.drop p
 |[]=>rfl
 |x::r=>by
  unfold Qag gtS;by_cases a:x.1>s.1
  ·simp_all
  ·rw[if_neg a,if_neg a,Qmc s r]
   grind
theorem Q6o{s:Zg}:∀{l:List Zg}{p:Nat},gtS s l=some p->p<l.length
 |[],_,h=>by cases h
 |x::r,p,h=>by
  unfold gtS at h;split at h
  ·cases h;simp
  ·cases hr:gtS s r with
   |none=>simp_all
   |some q=>
    rw[hr]at h;cases h;have:=Q6o hr;simp_all
theorem Xcv{l:List Zg}(s:Zg)(hl:l.length<=1000000):∀(N i:Nat),l.length-i<N->i<=l.length->Qv N l (s,()) (l.length:Int) (i:Int)=some (match gtS s (l.drop i)with|none=> -1|some p=>((i+p:Nat):Int),())
 |0,_,h,_=>by omega
 |N+1,i,b,c=>by
  unfold Qv;by_cases a:i<l.length
  ·rw[Zm (Zl),Zb,show(i:Int).toNat=i from rfl,Zr a,Xh (d:=Zj) a,Xcv s hl N (i+1) (by omega) (by omega)];show Option.bind (some (decide ((l.getD i Zj).1>s.1),())) _=_;rw[Obs,gtS]
   grind
  ·rw[Zo (Zn),List.drop_of_length_le (by omega)];rfl
theorem gtI{l:List Zg}(s:Zg)(hl:l.length<=1000000):Xc l (s,())=some (match gtS s l with|none=> -1|some p=>(p:Int),()):=by
 unfold Xc;refine Eq.trans (Xcv s hl _ 0 (by simp[Xn]) (by omega)) ?_;simp_all
theorem Xa7{K:Nat}{l:List Zg}{s:Zg}(h:Zg7 K l)(hs:Xl K s)(hK:K<=500000)(hi:Q7 l s.1= -1):Q0 l s=some (Qag s l,()):=by
 have a:=h.len;unfold Q0;rw[Z65 (by omega),Obs,hi];have e:decide ((-1:Int)>=0)=false:=rfl;simp only[e];refine Eq.trans (Xc6 h hs hK _ 0 [] (by simp[Zav]) (by omega) (by simp)) ?_;simp
theorem Xa6{K:Nat}{l:List Zg}{s:Zg}(h:Zg7 K l)(hs:Xl K s)(hK:K<=500000)(hi:Q7 l s.1= -1):Znc l s=some (Qag s l,()):=by
 have c:=h.len;have a:Zcf l=some (l,()):=by
  unfold Zcf;exact Zxn h (by omega) _ 0 (by simp[Vx]) (by omega)
 have b:∀p:Nat,p<=l.length->Zla s l (p:Int)=some (l.take p++[s]++l.drop p,()):=λp d=>by
  grind[Zla,Qb8,Q6s,Z7x,Zb,Qd]
 unfold Znc;rw[a,Obs,Z39 (by omega),Z65 (by omega),Obs,hi];have e:decide ((-1:Int)>=0)=false:=rfl;simp only[e,Ocf];rw[gtI s (by omega),Obs,Qmc];cases hg:gtS s l with
 |none=>
  simp_all
 |some p=>
  simp only;rw[Zo (Zn),b p (Nat.le_of_lt (Q6o hg))]
def Q4t(m:Option (Bool×Unit)):Bool:=match m with|some (b,_)=>b|none=>false
theorem Q8w{m:Option (Bool×Unit)}(h:TT m):m=some (Q4t m,()):=by
 obtain⟨⟨b,u⟩,e,-⟩:=h;rw[e];rfl
theorem Xjh(n:Int):Zvo n=Zau n:=rfl
theorem Xh8(v:Bool)(n:Int):Zjd v n=Zhc v n:=rfl
theorem Xdc(v:Bool)(n:Int):Zqs v n=K0 v n:=rfl
theorem Q72(v:Bool)(n:Int):Zgr v n=Xv v n:=rfl
theorem Qsl(n:Int):Zbp n=some (Zd5 n,()):=rfl
theorem Z0x{f:Zf}(h:FOK f):Zat f=some (Xz f,()):=Zwo f (by grind[FOK])
theorem Z4j{f:Zf}(h:FOK f):Wi f=some (Xz f,()):=Zz4 f (by grind[FOK])
def idV(n:Int):Int:=bif Zd5 n then n/4 else-1
theorem Xek(n:Int):Zoq n=some (idV n,()):=by
 unfold Zoq idV;rw[Kz,Obs];have a:(2:Int)^ (min (2:Int).toNat IntKind.i64.bits)=4:=by
  rfl
 cases hq:Zd5 n
 all_goals simp_all[Zb,Int.fdiv_eq_ediv_of_nonneg]
theorem Xej(n:Int):Zh4 n=some (idV n,()):=by
 unfold Zh4 idV;rw[Qsl,Obs];cases hq:Zd5 n
 ·rfl
 ·have h:=Km.1 hq;rw[Ont,Ocf,Oct,Zb,Int.tdiv_eq_ediv_of_nonneg h.1,Zs]
theorem Qzb(n:Int):Z0t n=Zdg n:=by
 rfl
theorem Qzd(v:Bool)(n:Int)(o p:Zic):Zvs v n o p=K7 v n o p:=by
 unfold Zvs K7;simp only[Q1i,Qzb,Qsl,Kz,Obs];rfl
def Z1r(a:Qt)(n:Int):Bool:=Z7j a&&(decide (0<=n)&&decide (n<a.2.1))
def siN(a:Qt)(n:Int):Int:=max 0 (n+1-a.2.2.1)
def siV(a:Qt)(n:Int):Qt:=(a.1,a.2.1,a.2.2.1+siN a n,a.2.2.2)
theorem Q2g{a:Qt}{n:Int}(h:Z1r a n=true):IntKind.i64.wrap (IntKind.i64.wrap (n+1)-a.2.2.1)=n+1-a.2.2.1/\IntKind.i64.wrap (a.2.2.1+siN a n)=a.2.2.1+siN a n:=by
 unfold Z1r at h;simp only[Oba,decide_eq_true_eq]at h;have g:=Qca.1 h.1;have:=g.lim;have:=g.seen;have:=g.most
 unfold siN;rw[Zs (n:=n+1),Zs,Zs];omega
theorem Q4j(a:Qt)(n:Int):Zmd a n=some (bif Z1r a n then siV a n else a,bif Z1r a n then siN a n else 0,Z1r a n,()):=by
 unfold Zmd;rw[Q5a,Obs];have e:(((!Z7j a)||(decide (n<0)))||(decide (n>=a.2.1)))= !Z1r a n:=by
  have d:decide (n<0)= !decide (0<=n):=by grind
  have f:decide (n>=a.2.1)= !decide (n<a.2.1):=by grind
  grind[Z1r]
 rw[e];cases h:Z1r a n
 ·rfl
 ·obtain⟨c,b⟩:=Q2g h;simp only[Ont,Ocf,Oct];rw[c];unfold siN at b;rw[b];rfl
theorem Qsb(a:Qt)(n:Int):Zfu a n=some (bif Z1r a n then siV a n else a,bif Z1r a n then siN a n else 0,Z1r a n,()):=by
 unfold Zfu;rw[Qoi,Q5a,Obs];simp only[Zel,bO,bO2];have e:((!Z7j a)|| !(decide (n>=0)&&decide (n<=IntKind.i64.wrap (a.2.1-1))))= !Z1r a n:=by
  unfold Z1r;cases ha:Z7j a
  ·rfl
  ·have g:=Qca.1 ha;have:=g.lim;have:=g.most
   rw[Zs,show decide (n<=a.2.1-1)=decide (n<a.2.1)from decide_eq_decide.2 (by omega)];rfl
 rw[e];cases h:Z1r a n
 ·rfl
 ·obtain⟨c,b⟩:=Q2g h;simp only[Ont,Ocf,Oct];rw[c,Int.max_comm];unfold siN at b;rw[b];rfl
def Z6g(w:Qg)(n:Int):Bool:=Z7h w&&(decide (0<=n)&&decide (n<=w.2.2.1-w.2.2.2.1))
def snV(w:Qg)(n:Int):Qg:=bif Z6g w n then(w.1,w.2.1,w.2.2.1,w.2.2.2.1+n,w.2.2.2.2)else w
theorem Xin(w:Qg)(n:Int):Zmc w n=some (snV w n,Z6g w n,()):=by
 unfold Zmc snV;rw[Qxv,Obs];cases hw:Z7h w
 ·simp_all[Z6g]
 ·have g:=Z1u.1 hw;have:=g.lim;have:=g.seen
  rw[Zs (n:=w.2.2.1-w.2.2.2.1)];by_cases a:0<=n/\n<=w.2.2.1-w.2.2.2.1
  ·have e:Z6g w n=true:=by simp_all[Z6g]
   rw[e,Zo (by simp_all),Zs];rfl
  ·have e:Z6g w n=false:=by simp_all[Z6g]
   grind
theorem Xbh(w:Qg)(n:Int):Zl5 w n=some (snV w n,Z6g w n,()):=by
 unfold Zl5 snV;rw[Z4k,Qxv,Obs];simp only[Zel,bO,bO2];cases hw:Z7h w
 ·simp_all[Z6g]
 ·have g:=Z1u.1 hw;have:=g.lim;have:=g.seen
  rw[Zs (n:=w.2.2.1-w.2.2.2.1)];have e:(!true|| !(decide (n>=0)&&decide (n<=w.2.2.1-w.2.2.2.1)))= !Z6g w n:=by simp_all[Z6g]
  rw[e];cases h:Z6g w n
  ·rfl
  ·unfold Z6g at h;simp only[Oba,decide_eq_true_eq]at h;rw[Ont,Ocf,Oct,Zs]
theorem Q1q(w:Qg):Zok w=some (bif Z7h w then w.2.2.1-w.2.2.2.1 else 0,()):=by
 unfold Zok;rw[Z4k,Qxv,Obs];cases hw:Z7h w
 ·rfl
 ·have g:=Z1u.1 hw;have:=g.lim;have:=g.seen
  rw[Ont,Ocf,Oct,Zs]
def Qbi(w:Qg)(n:Int):Bool:=Z7h w&&(decide (0<=n)&&decide (n<=w.2.2.2.1-w.2.2.2.2.1))
def rdV(w:Qg)(n:Int):Qg:=bif Qbi w n then(w.1,w.2.1,w.2.2.1,w.2.2.2.1,w.2.2.2.2.1+n,w.2.2.2.2.2)else w
theorem Xik(w:Qg)(n:Int):Zju w n=some (rdV w n,Qbi w n,()):=by
 unfold Zju rdV;rw[Qxv,Obs];cases hw:Z7h w
 ·simp_all[Qbi]
 ·have g:=Z1u.1 hw;have:=g.lim;have:=g.seen;have:=g.read
  rw[Zs (n:=w.2.2.2.1-w.2.2.2.2.1)];by_cases a:0<=n/\n<=w.2.2.2.1-w.2.2.2.2.1
  ·have e:Qbi w n=true:=by simp_all[Qbi]
   rw[e,Zo (by simp_all),Zs];rfl
  ·have e:Qbi w n=false:=by simp_all[Qbi]
   grind
theorem Xii(w:Qg)(n:Int):Zje w n=some (rdV w n,Qbi w n,()):=by
 unfold Zje rdV;rw[Z4k,Qxv,Obs];simp only[Zel,bO,bO2];cases hw:Z7h w
 ·simp_all[Qbi]
 ·have g:=Z1u.1 hw;have:=g.lim;have:=g.seen;have:=g.read
  rw[Zs (n:=w.2.2.2.1-w.2.2.2.2.1)];have e:(!true|| !(decide (n>=0)&&decide (n<=w.2.2.2.1-w.2.2.2.2.1)))= !Qbi w n:=by simp_all[Qbi]
  rw[e];cases h:Qbi w n
  ·rfl
  ·unfold Qbi at h;simp only[Oba,decide_eq_true_eq]at h;rw[Ont,Ocf,Oct,Zs]
def coV(a:Qt):Qt:=bif Z7j a&& !(a.2.2.2.1==a.2.2.1)then(a.1,a.2.1,a.2.2.1,a.2.2.2.1+1,a.2.2.2.2)else a
theorem Q5s(a:Qt):T (Zfx a) λr=>r.1=coV a:=by
 unfold Zfx coV;rw[Q5a,Obs];cases ha:Z7j a
 ·exact T.pure rfl
 ·have g:=Qca.1 ha;have:=g.lim;have:=g.seen;have:=g.clo
  cases a.2.2.2.1==a.2.2.1
  ·exact T.pure (by simp only[Bool.not_false,Bool.and_self,Oct];grind[Zs])
  ·exact T.pure rfl
theorem Xdv(a:Qt):Q1 a=Zfx a:=rfl
noncomputable def nbV(r:Zx)(e:Int):Int:=bif Qpg r&&Zd5 e then max 0 (IntKind.i64.wrap (e-r.2.2.2.1))else 0
theorem Q3w{K:Nat}{r:Zx}(h:Zhn K r.2.1)(hK:K<=1000000)(e:Int):Zpn r e=some (nbV r e,()):=by
 grind[Zpn,nbV,Qqq,Kz]
theorem Qrq{K:Nat}{r:Zx}(h:Zhn K r.2.1)(hK:K<=1000000)(e:Int):Zs8 r e=some (nbV r e,()):=by
 grind[Zs8,nbV,Zyl,Qqq,Z5w]
def rlV(c:Xy)(n:Int):Xy:=bif(Qaf c&&decide (n>c.1))&&decide (n<=4611686018427387903)then(n,c.2.1,(-1:Int),c.2.2.2)else c
theorem Xfb(c:Xy)(n:Int):Zo3 c n=some (rlV c n,()):=by
 grind[Zo3,rlV,Z93,Qqf]
theorem Xfc(c:Xy)(n:Int):Zhe c n=some (rlV c n,()):=by
 unfold Zhe rlV;rw[Qqf,Obs];simp only[Kz,bO,bO2];cases hc:Qaf c
 ·rfl
 ·have g:=Qnm.1 hc;have:=g.use0;have:=g.use
  by_cases h:n>c.1/\n<=4611686018427387903
  ·grind[Km]
  ·rw[Zm,Zo]
   ·simp_all
   grind[Km]
def rcV(c:Ze2)(n:Int):Ze2:=bif(Qcj c&&decide (n>c.1))&&decide (n<=1152921504606846976)then(n,c.2.1,(-1:Int),c.2.2.2)else c
theorem Xbb(c:Ze2)(n:Int):Zo2 c n=some (rcV c n,()):=by
 grind[Zo2,rcV,Qv9,Xdw]
theorem Xbc(c:Ze2)(n:Int):Zhd c n=some (rcV c n,()):=by
 unfold Zhd rcV;rw[Xdw,Obs]
 grind
theorem Q1d{l:List Zg}(hl:l.length<=1000000)(n:Int)(h:Q7 l n<0):Q7 l n= -1:=by
 have b:∀(N i:Nat),l.length-i<N->i<=l.length-> ∃v,Yt N l n (i:Int)=some (v,())/\(v<0->v= -1):=by
  intro N
  induction N with
  |zero=>intro i h;omega
  |succ N c=>
   intro i g j;unfold Yt;by_cases d:i<l.length
   ·rw[Zm (Zl),Zb,Zr d];obtain⟨v,a,f⟩:=c (i+1) (by omega) (by omega);cases ((l.getD (i:Int).toNat Zj).1==n)
    all_goals simp_all
   grind
 obtain⟨v,a,f⟩:=b (Kn l n 0) 0 (by simp[Kn]) (by omega);have e:Ys l n=some (v,()):=a;simp_all[Z65]
theorem Xad{l:List Zg}(hl:l.length<=1000000){n:Int}(h:∃s∈l,s.1=n):0<=Q7 l n:=by
 grind[Zz3]
noncomputable def Z3v(l:List Zg)(s:Zg):List Zg:=if 0<=Q7 l s.1 then l.set (Q7 l s.1).toNat s else Qag s l
theorem Qua{K:Nat}{l:List Zg}{s:Zg}(h:Zg7 K l)(hs:Xl K s)(hK:K<=500000:=by omega):Q0 l s=some (Z3v l s,()):=by
 have b:=h.len;unfold Z3v;by_cases a:0<=Q7 l s.1
 ·rw[if_pos a];grind[Q15]
 ·rw[if_neg a];grind[Xa7,Q1d]
theorem Xkv{K:Nat}{l:List Zg}{s:Zg}(h:Zg7 K l)(hs:Xl K s)(hK:K<=500000):Znc l s=some (Z3v l s,()):=by
 have c:=h.len;unfold Z3v;by_cases a:0<=Q7 l s.1
 ·have d:=(Zz3 (l:=l) (by omega) s.1).1;rw[if_pos a];unfold Znc;have b:Zcf l=some (l,()):=by
   unfold Zcf;exact Zxn h (by omega) _ 0 (by simp[Vx]) (by omega)
  rw[b,Obs,Z39 (by omega),Z65 (by omega),Obs,Zm (Zl),Z7x hs (by omega),Obs,Zb ⟨a,by simp only;omega⟩]
 ·rw[if_neg a];grind[Xa6,Q1d]
theorem Q6t(s:Zg):∀l:List Zg,(Qag s l).length=l.length+1:=λl=>by
 grind[Qmc]
theorem Qog{s x:Zg}:∀{l:List Zg},x∈Qag s l↔x=s\/x∈l:=λ{l}=>by
 rw[Qmc];cases h:gtS s l with
 |none=>simp[or_comm]
 |some p=>
  grind[List.take_append_drop]
theorem Z1l(l:List Zg)(s:Zg):(Z3v l s).length<=l.length+1:=by
 grind[Z3v,Q6t]
theorem Qwx{l:List Zg}{s x:Zg}(h:x∈Z3v l s):x=s\/x∈l:=by
 grind[Z3v,Qog]
theorem Xa8{l:List Zg}(hl:l.length<=1000000)(s:Zg):s∈Z3v l s:=by
 unfold Z3v;split
 ·rename_i h;have:=(Zz3 hl s.1).1
  grind[List.mem_set]
 simp_all[Qog]
theorem Qgx{K:Nat}{l:List Zg}{s:Zg}(h:Zg7 K l)(hs:Xl K s)(hl:l.length+1<=K:=by omega):Zg7 K (Z3v l s):=⟨by grind[Z1l],λx hx=>by
 rcases Qwx hx with e|e
 ·rw[e];exact hs
 ·exact h.all x e⟩
noncomputable def nsV(v:Bool)(id:Int)(o p:Zic):Zg:=match K7 v id o p with|some (s,_)=>s|none=>Zj
theorem Q7m(v:Bool)(id:Int)(o p:Zic):∃b,K7 v id o p=some (nsV v id o p,b,())/\Xl 0 (nsV v id o p):=by
 obtain⟨⟨s,b,u⟩,e,h⟩:=Qcx v id o p;simp_all[nsV]
abbrev Qlz(c:Zc)(l:List Zg):Zc:=(c.1,c.2.1,c.2.2.1,l,c.2.2.2.2)
noncomputable def mkL(v:Bool)(o p:Zic)(id:Int):Nat->List Zg->List Zg|0,l=>l|m+1,l=>mkL v o p id m (Z3v l (nsV v (IntKind.i64.wrap (id-IntKind.i64.wrap (4*(m:Int)))) o p))
theorem Q1z(v:Bool)(o p:Zic)(id:Int):∀(m:Nat)(l:List Zg),(mkL v o p id m l).length<=l.length+m
 |0,_=>Nat.le_refl _
 |m+1,l=>by
  have:=Q1z v o p id m (Z3v l (nsV v (IntKind.i64.wrap (id-IntKind.i64.wrap (4*(m:Int)))) o p))
  grind[Z1l,mkL]
theorem Q1y(id:Int){K:Nat}(h25:25<=K)(hK:K<=400000):∀(N m:Nat)(c:Zc),m<N->c.2.2.2.1.length+m<=24->Zg7 K c.2.2.2.1->Y8 N c id ((m:Int)-1)=some ((),Qlz c (mkL c.1 c.2.1 c.2.2.1 id m c.2.2.2.1),())
 |0,m,_,h,_,_=>by omega
 |N+1,0,c,_,_,_=>by
  rfl
 |N+1,m+1,c,d,f,h=>by
  unfold Y8;simp only[X4];rw[Zm (Zl),show((m+1:Nat):Int)-1=(m:Int) by omega];obtain⟨b,e,a⟩:=Q7m c.1 (IntKind.i64.wrap (id-IntKind.i64.wrap (4*(m:Int)))) c.2.1 c.2.2.1;have g:=Z1l c.2.2.2.1 (nsV c.1 (IntKind.i64.wrap (id-IntKind.i64.wrap (4*(m:Int)))) c.2.1 c.2.2.1);rw[e,Obs];unfold Zhg;rw[Qua h (a.mono (Nat.zero_le _)),Obs];simp only;rw[Zs (n:=(m:Int)-1),Q1y id h25 hK N m _ (by omega) (by simp only;omega) (Qgx h (a.mono (Nat.zero_le _)))];rfl
theorem Q1x(id:Int){K:Nat}(h25:25<=K)(hK:K<=400000):∀(N m:Nat)(c:Zc),m<N->c.2.2.2.1.length+m<=24->Zg7 K c.2.2.2.1->Zdt N c id ((m:Int)-1)=some (((0:Int),()),Qlz c (mkL c.1 c.2.1 c.2.2.1 id m c.2.2.2.1),())
 |0,m,_,h,_,_=>by omega
 |N+1,0,c,_,d,_=>by
  unfold Zdt;rw[Zo (Zn),Zo (Zn)];rfl
 |N+1,m+1,c,f,d,h=>by
  unfold Zdt;simp only[X4];rw[Zm (Zl),show((m+1:Nat):Int)-1=(m:Int) by omega];obtain⟨b,e,a⟩:=Q7m c.1 (IntKind.i64.wrap (id-IntKind.i64.wrap (4*(m:Int)))) c.2.1 c.2.2.1;have g:=Z1l c.2.2.2.1 (nsV c.1 (IntKind.i64.wrap (id-IntKind.i64.wrap (4*(m:Int)))) c.2.1 c.2.2.1);rw[Qzd,e,Obs];unfold Zss;rw[Xkv h (a.mono (Nat.zero_le _)) (by omega),Obs];simp only;rw[Zs (n:=(m:Int)-1),Q1x id h25 hK N m _ (by omega) (by simp only;omega) (Qgx h (a.mono (Nat.zero_le _)))];rfl
noncomputable def Qjd(v:Bool)(n:Int):Bool:=Q4t (Zhc v n)
theorem Q7q(v:Bool)(n:Int):Zhc v n=some (Qjd v n,()):=Q8w (Xe3 v n)
noncomputable def Z5c(n:Int):Bool:=Q4t (Zau n)
theorem Q4r(n:Int):Zau n=some (Z5c n,()):=Q8w (Xb0 n)
noncomputable def Zaz(c:Zc)(id:Int):Qt:=bif Z5c id then c.2.2.2.2.2.2.2.2.2.1 else c.2.2.2.2.2.2.2.2.1
noncomputable def Qly(c:Zc)(id:Int)(a:Qt):Zc:=bif Z5c id then(c.1,c.2.1,c.2.2.1,c.2.2.2.1,c.2.2.2.2.1,c.2.2.2.2.2.1,c.2.2.2.2.2.2.1,c.2.2.2.2.2.2.2.1,c.2.2.2.2.2.2.2.2.1,a,c.2.2.2.2.2.2.2.2.2.2)else(c.1,c.2.1,c.2.2.1,c.2.2.2.1,c.2.2.2.2.1,c.2.2.2.2.2.1,c.2.2.2.2.2.2.1,c.2.2.2.2.2.2.2.1,a,c.2.2.2.2.2.2.2.2.2)
noncomputable def Z3k(c:Zc)(id:Int):Bool:=(Z1r (Zaz c id) (idV id)&& !(siN (Zaz c id) (idV id)==0))&&decide ((c.2.2.2.1.length:Int)+siN (Zaz c id) (idV id)<=24)
noncomputable def Qtd(c:Zc)(id:Int):Zc:=Qlz (Qly c id (siV (Zaz c id) (idV id))) (mkL c.1 c.2.1 c.2.2.1 id (siN (Zaz c id) (idV id)).toNat c.2.2.2.1)
noncomputable def Zg8(c:Zc)(id:Int):Int×Zc:=bif decide (0<=Q7 c.2.2.2.1 id)then(0,c)else bif Qjd c.1 id then(5,c)else bif Z3k c id then(0,Qtd c id)else(4,c)
theorem Qz2(a:Qt)(n:Int):0<=siN a n:=by unfold siN;omega
theorem Qnw{c:Zc}{id:Int}(h:Z3k c id=true):c.2.2.2.1.length+(siN (Zaz c id) (idV id)).toNat<=24/\1<=siN (Zaz c id) (idV id):=by
 unfold Z3k at h;simp only[Oba,decide_eq_true_eq,Bool.not_eq_true',beq_eq_false_iff_ne]at h;have:=Qz2 (Zaz c id) (idV id);omega
theorem Z9w{K:Nat}{c:Zc}(h:Z4 K c)(hc:Zbx c=true)(h25:25<=K)(hK:K<=400000){id:Int}(hq:Zd5 id=true):K5 c id=some ((Zg8 c id).2,(Zg8 c id).1,()):=by
 have a:=(Z7v h).1 hc;have b:=(Qqy.1 a.sts).len;have k:∀(t x:Zc)(n:Int),0<=n->x.2.2.2.1=c.2.2.2.1->c.2.2.2.1.length+n.toNat<=24->K6 id t x n=some (Qlz x (mkL x.1 x.2.1 x.2.2.1 id n.toNat x.2.2.2.1),(0:Int),()):=λt x n l hx d=>by
  unfold K6 Zls;rw[Zs,show n-1=((n.toNat:Nat):Int)-1 by omega,Q1y id h25 hK _ n.toNat x (by grind[Zgk]) (by rw[hx];exact d) (by rw[hx];exact h.str)];rfl
 have e:∀t,X7 id c t c (Zaz c id)=some (bif Z3k c id then(Qtd c id,(0:Int),())else(c,(4:Int),())):=λt=>by
  unfold X7;simp only[X4,Kt];rw[Xek,Obs,Q4j,Obs];unfold J7;simp only;have m:=Qz2 (Zaz c id) (idV id);cases hs:Z1r (Zaz c id) (idV id)
  ·grind[Z3k]
  ·simp only[Oct,Ont,Bool.false_or];have o:siN (Zaz c id) (idV id)<=1152921504606846976:=by
    unfold Z1r at hs;simp only[Oba,decide_eq_true_eq]at hs;have g:=Qca.1 hs.1;have:=g.lim;have:=g.seen;unfold siN;omega
   have f:IntKind.i64.wrap ((c.2.2.2.1.length:Int)+siN (Zaz c id) (idV id))=(c.2.2.2.1.length:Int)+siN (Zaz c id) (idV id):=Zs;simp only[f];have i:((siN (Zaz c id) (idV id)==0)||decide ((c.2.2.2.1.length:Int)+siN (Zaz c id) (idV id)>24))= !Z3k c id:=by
    unfold Z3k
    grind
   rw[i];cases hG:Z3k c id
   ·rfl
   ·have p:=Qnw hG;rw[Ont,Ocf,Q4r,Obs,Oct];unfold Qtd Qly;cases Z5c id
    ·grind
    grind
 unfold K5 Zg8;rw[Jg h,Obs,Z0k h,hc,Obs,Kz,hq];simp only[Ont,Ocf,Bool.or_self,Obs];rw[Z65 (by omega),Obs];simp only[ge_iff_le];cases decide (0<=Q7 c.2.2.2.1 id)
 ·rw[Ocf,Ocf,Q7q,Obs];simp only;cases Qjd c.1 id
  ·have j:(bif Z5c id then X7 id c Yi c c.2.2.2.2.2.2.2.2.2.1 else X7 id c Yi c c.2.2.2.2.2.2.2.2.1)=X7 id c Yi c (Zaz c id):=by grind[Zaz]
   rw[Ocf,Ocf,Q4r,Obs];simp only;rw[j,e];cases Z3k c id<;>rfl
  ·rfl
 ·rfl
theorem Qma{K:Nat}{c:Zc}(h:Z4 K c)(hc:Zbx c=true)(h25:25<=K)(hK:K<=400000)(id:Int):Zcd c id=some (((Zg8 c id).1,()),(Zg8 c id).2,()):=by
 have i:=(Z7v h).1 hc;have j:=(Qqy.1 i.sts).len;have b:∀(x:Zc)(n:Int),0<=n->x.2.2.2.1=c.2.2.2.1->c.2.2.2.1.length+n.toNat<=24->Zhq x id n=some (((0:Int),()),Qlz x (mkL x.1 x.2.1 x.2.2.1 id n.toNat x.2.2.2.1),()):=λx n o hx k=>by
  unfold Zhq;rw[Zs,show n-1=((n.toNat:Nat):Int)-1 by omega,Q1x id h25 hK _ n.toNat x (by grind[Zl1]) (by rw[hx];exact k) (by rw[hx];exact h.str)]
 have d:∀n,Qa c n=some (Z5c n,c,()):=λn=>by
  unfold Qa;rw[Xjh,Q4r,Obs];cases Z5c n<;>rfl
 have e:Jo c id (bif Z1r (Zaz c id) (idV id)then siV (Zaz c id) (idV id)else Zaz c id) (bif Z1r (Zaz c id) (idV id)then siN (Zaz c id) (idV id)else 0) (Z1r (Zaz c id) (idV id))=some (bif Z3k c id then(((0:Int),()),Qtd c id,())else(((4:Int),()),c,())):=by
  unfold Jo;have f:=Qz2 (Zaz c id) (idV id);cases hs:Z1r (Zaz c id) (idV id)
  ·have:Z3k c id=false:=by unfold Z3k;rw[hs];rfl
   rw[this];rfl
  ·simp only[Oct,Ont,Bool.false_or];have l:IntKind.i64.wrap (24- (c.2.2.2.1.length:Int))=24- (c.2.2.2.1.length:Int):=Zs;simp only[l];have m:((siN (Zaz c id) (idV id)==0)||decide (siN (Zaz c id) (idV id)>24- (c.2.2.2.1.length:Int)))= !Z3k c id:=by
    unfold Z3k;rw[hs,show decide (siN (Zaz c id) (idV id)>24- (c.2.2.2.1.length:Int))= !decide ((c.2.2.2.1.length:Int)+siN (Zaz c id) (idV id)<=24) by grind];simp
   rw[m];cases hG:Z3k c id
   ·rfl
   ·have g:=Qnw hG;rw[Ont,Ocf,d,Obs,Oct];unfold Qtd Qly;cases Z5c id
    ·exact b _ _ f rfl g.1
    ·exact b _ _ f rfl g.1
 have p:=h.str.len;unfold Zcd Zg8;simp only[X4,Kt];rw[Z39 (by omega),Z65 (by omega),Obs];simp only[ge_iff_le];cases decide (0<=Q7 c.2.2.2.1 id)
 ·rw[Ocf,Ocf,Xh8,Q7q,Obs];simp only;cases Qjd c.1 id
  ·rw[Ocf,Ocf,d,Obs,Xej];have a:Zaz c id=(bif Z5c id then c.2.2.2.2.2.2.2.2.2.1 else c.2.2.2.2.2.2.2.2.1):=rfl;cases hu:Z5c id
   ·rw[hu,Ocf]at a;simp only[Ocf,Obs];rw[Qsb,Obs];simp only;rw[<-a,e];cases Z3k c id<;>rfl
   ·rw[hu,Oct]at a;simp only[Oct,Obs];rw[Qsb,Obs];simp only;rw[<-a,e];cases Z3k c id<;>rfl
  ·rfl
 ·rfl
theorem Qq5:∀{l:List Z6}{e:Int},Qce e l->l≠[]->(∀c∈l,Jb c<=Jb (l.getD (l.length-1) Qx))/\e<Jb (l.getD (l.length-1) Qx)
 |[],_,_,h=>absurd rfl h
 |[c],e,h,_=>by
  have:=Zzw h.2.1;have:=h.1
  grind
 |c::d::l,e,h,_=>by
  obtain⟨b,f⟩:=Qq5 (l:=d::l) h.2.2 (by simp);have a:(c::d::l).getD ((c::d::l).length-1) Qx=(d::l).getD ((d::l).length-1) Qx:=rfl;rw[a];have:=Zzw h.2.1;have:=h.1
  grind
theorem Q25{b:Zv}(ht:Zkf b.2.1<=1000000)(hb:Zoz b=true):(0<=b.1/\b.1<=4611686018427387903)/\Qce (b.1-1) b.2.1/\ ∀c∈b.2.1,0<=c.1/\Jb c<=4611686018427387903:=by
 obtain⟨d,e,-⟩:=Zw2 ht hb;unfold Zoz at hb;simp only[Oba]at hb;rw[Zs]at hb;obtain⟨f,g⟩:=Qeu hb.1 (by omega) λc a=>by have:=Z3d a;omega
 grind
theorem Xkc{K:Nat}{b:Zv}(h:Zhn K b)(hK:K<=1000000)(hb:Zoz b=true):∃v,Zri b=some (v,())/\ ∀H:Int,v<=H↔b.1<=H/\ ∀c∈b.2.1,Jb c<=H:=by
 have j:=h.len;have k:=h.tot;obtain⟨l,e,f⟩:=Q25 (by omega) hb;unfold Zri;by_cases a:b.2.1=[]
 ·simp_all
 ·have m:0<b.2.1.length:=List.length_pos_iff.2 a;have g:((b.2.1.length:Int)==0)=false:=by simp;exact a
  obtain⟨n,o⟩:=Qq5 e a;have i:=Z5 (d:=Qx) (show b.2.1.length-1<b.2.1.length by omega);have p:=f _ i;simp only[g,Ocf];rw[Zjh _,hb,Obs];simp only[Ont,Bool.or_self,Ocf];rw[Zs,Zb,show((b.2.1.length:Int)-1).toNat=b.2.1.length-1 by omega,Zs (by omega) (by grind[Jb])];refine⟨_,rfl,λH=>?_⟩
  grind[Jb]
theorem Qr4{K:Nat}{b:Zv}(h:Zhn K b)(hK:K<=1000000)(hb:Zoz b=true):0<=Zed b/\b.1+Zed b<=4611686018427387903/\(Zed b=0\/ ∃c∈b.2.1,b.1+Zed b=Jb c):=by
 obtain⟨a,d,e⟩:=Q25 (by have:=h.tot;omega) hb;unfold Zed;split
 ·grind[Jb]
 omega
structure Q2z(r:Zx):Prop where
 buf:Zoz r.2.1=true
 hq:0<=r.2.2.2.1/\r.2.2.2.1<=4611686018427387903
 e0:r.2.1.1<=r.2.2.2.1
 ec:∀c∈r.2.1.2.1,Jb c<=r.2.2.2.1
 code:0<=r.2.2.2.2.1/\r.2.2.2.2.1<=4611686018427387903
 fin:r.2.2.1= -1\/(r.2.2.2.1<=r.2.2.1/\r.2.2.1<=4611686018427387903)
 st:(r.1=0/\r.2.2.1= -1/\r.2.2.2.2.1=0)\/(r.1=1/\r.2.2.1≠ -1/\r.2.1.1+Zed r.2.1≠r.2.2.1/\r.2.2.2.2.1=0)\/(r.1=2/\r.2.2.1≠ -1/\r.2.1.1+Zed r.2.1=r.2.2.1/\r.2.2.2.2.1=0)\/(r.1=3/\r.2.2.1≠ -1/\r.2.1.1+Zed r.2.1=r.2.2.1/\r.2.1.2.1=[]/\r.2.2.2.2.1=0)\/((r.1=4\/r.1=5)/\r.2.2.1≠ -1/\r.2.2.2.1=r.2.2.1/\r.2.1.2.1=[])
def rcS(r:Zx):Bool:=bif r.1==(0:Int)then(r.2.2.1==(-1:Int))&&(r.2.2.2.2.1==(0:Int))else bif r.1==(1:Int)then((r.2.2.1 !=(-1:Int))&&(!((r.2.2.1 !=(-1:Int))&&((r.2.1.1+Zed r.2.1)==r.2.2.1))))&&(r.2.2.2.2.1==(0:Int))else bif r.1==(2:Int)then((r.2.2.1 !=(-1:Int))&&((r.2.1.1+Zed r.2.1)==r.2.2.1))&&(r.2.2.2.2.1==(0:Int))else bif r.1==(3:Int)then(((r.2.2.1 !=(-1:Int))&&((r.2.1.1+Zed r.2.1)==r.2.2.1))&&((r.2.1.2.1.length:Int)==(0:Int)))&&(r.2.2.2.2.1==(0:Int))else bif(r.1==(4:Int))||(r.1==(5:Int))then((r.2.2.1 !=(-1:Int))&&(r.2.2.2.1==r.2.2.1))&&((r.2.1.2.1.length:Int)==(0:Int))else false
def rcP(r:Zx)(v:Int):Bool:=((Zd5 r.2.2.2.1&& !decide (v>r.2.2.2.1))&&Zd5 r.2.2.2.2.1)&& !((((r.2.2.1 !=(-1:Int))&&(decide (r.2.2.1<r.2.2.2.1)))||(decide (r.2.2.1>(4611686018427387903:Int))))||(decide (r.2.2.1<(-1:Int))))
theorem rcE{K:Nat}{r:Zx}(h:Zhn K r.2.1)(hK:K<=1000000)(hb:Zoz r.2.1=true):∃v,(∀H:Int,v<=H↔r.2.1.1<=H/\ ∀c∈r.2.1.2.1,Jb c<=H)/\Qpg r=(rcP r v&&rcS r):=by
 obtain⟨v,k,hv⟩:=Xkc h hK hb;refine⟨v,hv,?_⟩;have l:=h.len;have e:=Qqq h hK;unfold Xq Ke at e;rw[Zjh _,hb,Obs,Zrb _]at e;obtain⟨m,n,-⟩:=Qr4 h hK hb;obtain⟨o,-,-⟩:=Q25 (by have:=h.tot;omega) hb;have i:IntKind.i64.wrap (r.2.1.1+Zed r.2.1)=r.2.1.1+Zed r.2.1:=Zs;simp only[Kz,Ont,Bool.false_or,Ocf,Obs]at e;have f:=e.symm;have g:∀{a b:Bool},some (a,())=some (b,())->a=b:=λh=>by simpa using h
 unfold rcP rcS;cases h1:Zd5 r.2.2.2.1
 ·grind
 rw[h1,k]at f;simp only[Ont,Bool.false_or,Ocf,Obs]at f;cases h2:decide (v>r.2.2.2.1)
 ·rw[h2]at f;simp only[Bool.false_or,Ocf,Obs]at f;cases h3:Zd5 r.2.2.2.2.1
  ·grind
  rw[h3]at f;simp only[Ont,Bool.false_or]at f;cases h4:(((r.2.2.1 !=(-1:Int))&&(decide (r.2.2.1<r.2.2.2.1)))||(decide (r.2.2.1>(4611686018427387903:Int))))||(decide (r.2.2.1<(-1:Int)))
  ·rw[h4]at f;simp only[Ocf,Bool.not_false,Bool.and_self,Ota]at f⊢;have j:∀{β:Type}(k:Int×Unit->Option β),(∀x y,r.2.2.1= -1->k x=k y)->Option.bind (bif r.2.2.1 !=(-1:Int)then some (Zed r.2.1,())else some ((0:Int),())) k=k (Zed r.2.1,()):=λk hk=>by
    grind
   rw[j _ λx y d=>by rw[d];rfl]at f;simp only[i]at f
   grind
  grind
 grind
theorem Qd9{K:Nat}{r:Zx}(h:Zhn K r.2.1)(hK:K<=1000000:=by omega):Qpg r=true↔Q2z r:=by
 cases hb:Zoz r.2.1
 ·have e:=Qqq h hK;unfold Xq at e;rw[Zjh _ (by have:=h.len;omega),hb]at e;have f:Qpg r=false:=by simp_all
  rw[f];exact⟨λh=>Bool.noConfusion h,λh=>by have:=h.buf;simp_all⟩
 ·obtain⟨v,hv,e⟩:=rcE h hK hb;rw[e,Oba];have g:rcP r v=true↔((0<=r.2.2.2.1/\r.2.2.2.1<=4611686018427387903)/\v<=r.2.2.2.1)/\(0<=r.2.2.2.2.1/\r.2.2.2.2.1<=4611686018427387903)/\(r.2.2.1= -1\/(r.2.2.2.1<=r.2.2.1/\r.2.2.1<=4611686018427387903)):=by
   unfold rcP;simp only[Oba,Km,Bool.not_eq_true',decide_eq_false_iff_not,Bool.or_eq_false_iff,Bool.and_eq_false_iff,bne_eq_false_iff_eq];omega
  have i:rcS r=true↔((r.1=0/\r.2.2.1= -1/\r.2.2.2.2.1=0)\/(r.1=1/\r.2.2.1≠ -1/\r.2.1.1+Zed r.2.1≠r.2.2.1/\r.2.2.2.2.1=0)\/(r.1=2/\r.2.2.1≠ -1/\r.2.1.1+Zed r.2.1=r.2.2.1/\r.2.2.2.2.1=0)\/(r.1=3/\r.2.2.1≠ -1/\r.2.1.1+Zed r.2.1=r.2.2.1/\r.2.1.2.1=[]/\r.2.2.2.2.1=0)\/((r.1=4\/r.1=5)/\r.2.2.1≠ -1/\r.2.2.2.1=r.2.2.1/\r.2.1.2.1=[])):=by
   have j:((r.2.1.2.1.length:Int)==0)=true↔r.2.1.2.1=[]:=by
    simp_all
   unfold rcS;by_cases k:r.1=0
   ·simp_all
   rw[show(r.1==(0:Int))=false by simp[k],Ocf];by_cases l:r.1=1
   ·grind
   rw[show(r.1==(1:Int))=false by simp[l],Ocf];by_cases m:r.1=2
   ·grind
   rw[show(r.1==(2:Int))=false by simp[m],Ocf];by_cases n:r.1=3
   ·grind
   grind
  rw[g,i];constructor
  ·rintro⟨⟨⟨a,b⟩,c,d⟩,s⟩;have:=(hv _).1 b;exact⟨hb,a,this.1,this.2,c,d,s⟩
  ·intro R;exact⟨⟨⟨R.hq,(hv _).2 ⟨R.e0,R.ec⟩⟩,R.code,R.fin⟩,R.st⟩
theorem Q74(b:Zv)(o:Int)(d:List UInt8):∀{l:List Zi}{e:Int},rsB e l=true->(∀r∈l,r.2.1-r.1<=4000000)->ckB e (l.map (rgS b o d))=true
 |[],_,_,_=>rfl
 |r::l,e,h,a=>by
  obtain⟨c,j,f⟩:=Zeu.1 h;have c:=Q5.1 c;have k:=a r List.mem_cons_self;have g:(Z7g b o d r.1 (r.2.1-r.1).toNat).length=(r.2.1-r.1).toNat:=Qhb b o d _ _;have i:(Z7g b o d r.1 (r.2.1-r.1).toNat==([]:List UInt8))=false:=by
   grind
  change (!(((decide (r.1<=e))||(Z7g b o d r.1 (r.2.1-r.1).toNat==([]:List UInt8)))||(decide (r.1>(IntKind.i64.wrap ((4611686018427387903:Int)- ((Z7g b o d r.1 (r.2.1-r.1).toNat).length:Int))))))&&ckB (IntKind.i64.wrap (r.1+((Z7g b o d r.1 (r.2.1-r.1).toNat).length:Int))) (l.map (rgS b o d)))=true;rw[g,i,Zn,Zs,Zn,Zs,show r.1+((r.2.1-r.1).toNat:Int)=r.2.1 by omega];rw[Q74 b o d f λx hx=>a x (List.mem_cons_of_mem _ hx)];rfl
theorem Xah{K:Nat}{b:Zv}(h:Zhn K b)(o:Int)(d:List UInt8)(hK:K+d.length+1<=1000000)(hb:Zoz b=true){E:Int}(hE:∀c∈b.2.1,Jb c<=E)(hE2:o+(d.length:Int)<=E):
  Zoz (Qh3 b o d)=true/\(Qh3 b o d).1=b.1/\ ∀c∈(Qh3 b o d).2.1,Jb c<=E:=by
 unfold Qh3;by_cases g:(((!Zoz b||(d==([]:List UInt8)))||decide (o<0))||decide (o>4611686018427387903- (d.length:Int)))||decide (o+(d.length:Int)<=b.1)
 ·grind
 ·rw[Bool.not_eq_true]at g;rw[Zo g];simp only[Bool.or_eq_false_iff,decide_eq_false_iff_not]at g;obtain⟨⟨⟨⟨-,v⟩,p⟩,q⟩,s⟩:=g;have j:0<d.length:=List.length_pos_iff.2 λe=>by simp_all
  obtain⟨k,-,t⟩:=Xcx h o d hK hb j p q s;obtain⟨w,y,z⟩:=Q25 (by have:=h.tot;omega) hb;have A:=h.tot;have f:=Z7t (l:=b.2.1.map rgC) (r:=((max o b.1,o+(d.length:Int),()):Zi)) (λx hx=>by
   obtain⟨c,i,rfl⟩:=List.mem_map.1 hx
   grind[rgC]) (by simp only;omega)
  rw[Ql5]at f;simp only at f;have m:∀{l:List Zi},(∀r∈l,Zf9 r=true)->0<=Zc1 l/\ ∀r∈l,r.2.1-r.1<=Zc1 l:=by
   intro l
   induction l with
   |nil=>simp_all[Zc1]
   |cons r l u=>
    intro n;have a:=Q5.1 (n r List.mem_cons_self);obtain⟨k,B⟩:=u λr a=>n r (List.mem_cons_of_mem _ a);simp only[Zc1]
    grind
  have C:=(m λr a=>(Zqe k r a).2).2;rw[<-t];refine⟨?_,rfl,λc i=>?_⟩
  ·grind[Zoz,Zs,Q74]
  ·obtain⟨r,a,rfl⟩:=List.mem_map.1 i;have D:=Q5.1 (Zqe k r a).2;rw[Qui b o d];refine Z9q (E:=E) (l:=b.2.1.map rgC) (r:=(max o b.1,o+(d.length:Int),())) (λx hx=>?_) hE2 r a;obtain⟨c,i,rfl⟩:=List.mem_map.1 hx;exact hE c i
theorem Q5t{r:Zx}{e:Int}{fin:Bool}(h:Qbn r e fin=false):(r.2.2.1= -1\/e<=r.2.2.1)/\(fin=true->(r.2.2.1= -1\/e=r.2.2.1)/\r.2.2.2.1<=e):=by
 grind[Qbn]
theorem Xbd{K:Nat}{r:Zx}(h:Zhn K r.2.1){o:Int}{d:List UInt8}(fin:Bool)(hK:K+d.length+1<=900000)(R:Q2z r)(ho:0<=o)(hE:o+(d.length:Int)<=4611686018427387903):
  Pc (Ym r o d fin) λy=>y.2.1=0->Q2z y.1/\y.1.2.2.2.1<=r.2.2.2.1+nbV r (o+(d.length:Int)):=by
 have i:=(Qd9 h).2 R;have p:nbV r (o+(d.length:Int))=max 0 (o+(d.length:Int)-r.2.2.2.1):=by
  unfold nbV;have:=R.hq
  grind[Km,Zs]
 have g:=Qv5 h o d (by omega) (by omega);obtain⟨f,q,u⟩:=Xah h o d (by omega) R.buf (E:=max r.2.2.2.1 (o+(d.length:Int))) (λc b=>by have:=R.ec c b;omega) (by omega);obtain⟨v,w,-⟩:=Qr4 g (by omega) f;have z:∀t x,x.2.1=r.2.1->x.2.2.2.1=max r.2.2.2.1 (o+(d.length:Int))->x.2.2.2.2.1=0->((x.1=0/\x.2.2.1= -1)\/(x.1=1/\max r.2.2.2.1 (o+(d.length:Int))<=x.2.2.1/\x.2.2.1<=4611686018427387903))->
   Pc (Yy o d r t x) λy=>y.2.1=0->Q2z y.1/\y.1.2.2.2.1<=r.2.2.2.1+nbV r (o+(d.length:Int)):=λt x j k e a=>by
  unfold Yy Zdz;rw[Z79 h o d (by omega) (by omega),Obs,Zrb _ (by have:=g.len;simp only;omega)];have:=R.hq;have:=R.e0
  have l:x.2.2.1= -1\/x.2.2.1≠ -1:=by omega
  rcases l with s|s
  ·rw[show(x.2.2.1 !=(-1:Int))=false by simp[s]];refine Pc.pure λ_=>⟨⟨f,by grind,by grind,λc b=>by simp_all,by simp_all,.inl s,.inl ⟨?_,s,e⟩⟩,?_⟩
   all_goals grind
  ·rw[show(x.2.2.1 !=(-1:Int))=true by simp[s],Oct,Obs];have m:IntKind.i64.wrap ((Qh3 r.2.1 o d).1+Zed (Qh3 r.2.1 o d))=(Qh3 r.2.1 o d).1+Zed (Qh3 r.2.1 o d):=Zs (by have:=(Q25 (by have:=g.tot;omega) f).1;omega);simp only[m,Ota];have a:=a.resolve_left λh=>s h.2;refine Pc.ite (λb=>Pc.pure λ_=>⟨⟨f,by grind,by grind,λc b=>by simp_all,by simp_all,.inr ⟨by simp_all,a.2.2⟩,.inr (.inr (.inl ⟨rfl,s,by simpa using b,e⟩))⟩,?_⟩) λb=>Pc.pure λ_=>⟨⟨f,by grind,by grind,λc b=>by simp_all,by simp_all,.inr ⟨by simp_all,a.2.2⟩,.inr (.inl ⟨a.1,s,by simpa using b,e⟩)⟩,?_⟩
   all_goals grind
 unfold Ym;rw[Qmd h,Obs,Qqq h,i,Obs];refine Pc.ite (λ_=>Pc.pure λh=>by cases h) λ_=>?_;simp only;rw[Zs (n:=o+(d.length:Int)),Qhz,Obs];cases b:Qbn r (o+(d.length:Int)) fin
 ·obtain⟨A,B⟩:=Q5t b;have C:=R.fin;have D:=R.st
  refine Pc.ite (λ_=>Pc.pure λ_=>⟨R,by grind⟩) λF=>?_
  grind
 simp[Pc.pure]
theorem Q7x{K:Nat}{r:Zx}(h:Zhn K r.2.1)(hK:K<=900000)(R:Q2z r)(code final:Int):
  Pc (K8 r code final) λy=>y.2.1=0->Q2z y.1/\y.1.2.2.2.1<=r.2.2.2.1+nbV r final:=by
 have e:=(Qd9 h).2 R;unfold K8;rw[Qmd h,Obs,Qqq h,e,Obs];simp only[Ont,Ocf,Kz,Obs,Bool.false_or,bO,Bool.not_not];cases hq1:Zd5 code
 ·simp_all[Pc.pure]
 cases hq2:Zd5 final
 ·simp_all[Pc.pure]
 refine Pc.ite (λh=>by cases h) λ_=>?_;have f:=Km.1 hq1;have b:=Km.1 hq2;have g:nbV r final=max 0 (final-r.2.2.2.1):=by
  unfold nbV;have:=R.hq
  grind[Zs]
 rw[Qhz,Obs];cases a:Qbn r final true
 ·obtain⟨i,d⟩:=Q5t a;have d:=d rfl;refine Pc.ite (λ_=>Pc.pure λ_=>⟨R,by grind⟩) λj=>Pc.pure λ_=>⟨⟨?_,b,?_,λc a=>(by cases a),f,.inr ⟨Int.le_refl _,b.2⟩,.inr (.inr (.inr (.inr ⟨.inl rfl,?_,rfl,rfl⟩)))⟩,?_⟩
  ·have:=(Q25 (by have:=h.tot;omega) R.buf).1;unfold Zoz;simp only;rw[Km.2 this];rfl
  ·have:=R.e0;simp only;omega
  all_goals grind
 simp_all[Pc.pure]
theorem Zz8{α β:Type}{g:α->β}{s d:α}:∀{l:List α}{i:Nat},g s=g (l.getD i d)->(l.set i s).map g=l.map g
 |[],_,_=>rfl
 |x::l,0,h=>by
  simp_all
 |x::l,i+1,h=>by
  rw[List.set_cons_succ,List.map_cons,List.map_cons,Zz8 (l:=l) (i:=i) h]
theorem Z9l{f:Zg->Int}{s:Zg}:∀{l:List Zg}{i:Nat},i<l.length->Z5b f (l.set i s)=Z5b f l+f s-f (l.getD i Zj)
 |[],_,h=>absurd h (by simp)
 |x::l,0,_=>by
  rw[List.set_cons_zero];simp only[Z5b]
  grind
 |x::l,i+1,h=>by
  rw[List.set_cons_succ];simp only[Z5b];rw[Z9l (l:=l) (i:=i) (by simp at h;omega),show(x::l).getD (i+1) Zj=l.getD i Zj from rfl];omega
theorem Q87.set{l:List Zg}(h:Q87 l){i:Nat}{s:Zg}(hs:stB s=true)(hi:s.1=(l.getD i Zj).1):Q87 (l.set i s):=by
 refine⟨λx hx=>?_,?_,by rw[List.length_set];exact h.len⟩
 ·rcases List.mem_or_eq_of_mem_set hx with h1|h1
  ·exact h.all x h1
  simp_all
 ·have e:=Zz8 (g:=λs:Zg=>s.1) (s:=s) (l:=l) (i:=i) hi;have:=List.pairwise_map.2 h.srt
  grind
theorem cfF{c:Zic}(h:cfB c=true):Vl c.1=some (true,())/\(1<=c.2.1/\c.2.1<=c.2.2.1)/\c.2.2.1<=4096:=by
 have e:=cfE c;rw[h]at e;unfold Za9 at e;obtain⟨p,a⟩:=Qpa c.1;simp_all[inQ,bA,Zh8]
theorem Xdb{n m:Int}(h:Vl n=some (true,()))(h0:0<=m)(h1:m<=4611686018427387903):Zuy (n,m,m,List.replicate n.toNat (0:Int),())=true/\0<n/\n<=64:=by
 obtain⟨⟨b,u⟩,g,a⟩:=Xid n;have c:=a (by simp_all);refine⟨?_,c⟩;have d:(List.replicate n.toNat (0:Int)).length=n.toNat:=List.length_replicate;have e:=(Zw8 (n,m,m,List.replicate n.toNat (0:Int),()) (by grind)).1;have:Zba (n,m,m,List.replicate n.toNat (0:Int),())=some (true,()):=by
  unfold Zba;rw[h,Obs];have f:((((((!true)||(((List.replicate n.toNat (0:Int)).length:Int) !=n))||(decide (m<(0:Int))))||(decide (m<m)))||(decide ((IntKind.i64.wrap (m-m))>n)))||(decide (m>(4611686018427387903:Int))))=false:=by
   rw[d,Zs]
   grind
  simp only;rw[f,Ocf]
  grind[Q76,Za6,Qkc]
 simp_all
theorem Q9f(v:Bool){id:Int}(hq:Zd5 id=true):∃s1 s2,K0 v id=some (s1,())/\Xv v id=some (s2,())/\(s1=true\/s2=true):=by
 unfold K0 Xv;simp only[Kz,hq,Obs,Oct,Q4r,Q7q];cases Z5c id<;>cases Qjd v id
 all_goals simp_all
theorem Xhy(v:Bool){id:Int}{o p:Zic}(ho:cfB o=true)(hp:cfB p=true)(hq:Zd5 id=true):StF (nsV v id o p)/\(nsV v id o p).1=id/\Z6h (nsV v id o p)=0/\Z5q (nsV v id o p)=0:=by
 obtain⟨i,t,u⟩:=cfF ho;obtain⟨w,x,y⟩:=cfF hp;obtain⟨j,z⟩:=Xdb i (Int.le_refl 0) (by decide);obtain⟨b,e,k⟩:=Q7m v id o p;have f:=Km.1 hq;have a:Zdg o.1=some (((0:Int),(o.1,(0:Int),(0:Int),List.replicate o.1.toNat (0:Int),()),([]:List Zi),([]:List Zi),([]:List Zi),(-1:Int),Zzk),true,()):=by
  unfold Zdg Zwl;rw[i,Obs];simp only[Ont,Ocf]
  grind[Zb,Qd]
 have c:Zgf p.2.1=some ((p.2.1,(0:Int),(-1:Int),(-1:Int),()),true,()):=by
  grind[Zgf,Kz,Km]
 have d:Zgg o.2.1 o.2.2.1=some ((o.2.1,o.2.2.1,o.2.1,Zzk),true,()):=by
  grind[Zgg,inQ,Zh8]
 obtain⟨l,m,n,q,r⟩:=Q9f v hq;have g:=e;unfold K7 W7 Zsh at g;simp only[Kz,hq,cfE,ho,hp,Obs,Ont,Ocf,Bool.or_self,a,c,d,n,q,Osi,Opi]at g;have s:nsV v id o p=(id,((0:Int),(o.1,(0:Int),(0:Int),List.replicate o.1.toNat (0:Int),()),([]:List Zi),([]:List Zi),([]:List Zi),(-1:Int),Zzk),(p.2.1,(0:Int),(-1:Int),(-1:Int),()),((0:Int),((0:Int),([]:List Z6),()),(-1:Int),(0:Int),(0:Int),()),(o.2.1,o.2.2.1,o.2.1,Zzk),((3:Int),false,()),l,m,false,false,false,false,(0:Int),false,()):=g.1.symm;rw[s]at k⊢;refine⟨⟨f,?_,⟨by simp only;omega,Int.le_refl _,by simp only;omega,by simp only;omega,by simp only;omega,by simp only;omega,by simp only;omega⟩,?_,⟨by simp only;omega,by simp only;omega,by simp only;omega,?_,?_,?_,?_⟩,⟨by simp only;omega,by simp only;omega⟩,⟨by simp only;omega,by simp only;omega⟩,r,Int.le_refl _,Int.le_refl _,λh=>(by cases h),λh=>(by cases h),λh=>absurd rfl h,.inr ⟨rfl,rfl,rfl⟩,.inr ⟨rfl,rfl,rfl⟩⟩,rfl,rfl,rfl⟩
 ·exact {ring:=j,pr:=rfl,fr:=rfl,ar:=rfl,sent:=⟨Int.le_refl _,Int.le_refl _⟩,code:=⟨Int.le_refl _,by simp_all[Zzk]⟩,fin:=⟨Int.le_refl _,by simp_all[Zzk]⟩,rst:=λh=>by simp at h,no:=λ_=>{whole:=rfl,gap:=rfl,code:=rfl,fl:=rfl,ac:=rfl,fin:=rfl,st:=rfl}}
 ·rfl
 all_goals grind[Zzk]
theorem Qv6{s:Zg}:∀{l:List Zg},(l.Pairwise λa b=>a.1<b.1)->(∀x∈l,x.1≠s.1)->(Qag s l).Pairwise λa b=>a.1<b.1
 |[],_,_=>by simp[Qag]
 |x::r,h,c=>by
  have hx:=c x List.mem_cons_self;obtain⟨f,e⟩:=List.pairwise_cons.1 h;unfold Qag;by_cases d:x.1>s.1
  ·rw[if_pos d];refine List.pairwise_cons.2 ⟨λy hy=>?_,h⟩
   grind
  ·rw[if_neg d];refine List.pairwise_cons.2 ⟨λy hy=>?_,Qv6 e λy hy=>c y (List.mem_cons_of_mem _ hy)⟩;rcases Qog.1 hy with rfl|hy
   all_goals grind
theorem Qpy{f:Zg->Int}{s:Zg}:∀{l:List Zg},Z5b f (Qag s l)=Z5b f l+f s
 |[]=>by simp_all[Qag,Z5b]
 |x::r=>by
  unfold Qag;by_cases a:x.1>s.1
  ·rw[if_pos a];grind[Z5b]
  ·rw[if_neg a];simp only[Z5b];rw[Qpy];omega
structure LF(K:Nat)(S H:Int)(l:List Zg):Prop where
 inv:Zg7 K l
 all:∀s∈l,StF s
 srt:l.Pairwise λa b=>a.1<b.1
 snt:Z5b Z6h l<=S
 hgh:Z5b Z5q l<=H
theorem StF.nn{K:Nat}{s:Zg}(F:StF s)(h:Xl K s)(hK:K<=1000000):(0<=Z6h s/\Z6h s<=4611686018427387903)/\0<=Z5q s/\Z5q s<=4611686018427387903:=by
 have a:=F.snd.sent;have b:=h.snd.eK;have c:=((Qd9 h.rcv hK).1 F.rcv).hq
 grind[Z6h,Z5q]
theorem LF.nn{K:Nat}{S H:Int}{l:List Zg}(L:LF K S H l)(hK:K<=1000000):∀s∈l,(0<=Z6h s/\Z6h s<=4611686018427387903)/\0<=Z5q s/\Z5q s<=4611686018427387903:=λs a=>(L.all s a).nn (L.inv.all s a) hK
theorem LF.put0{K:Nat}{S H:Int}{l:List Zg}(L:LF K S H l)(hK:K<=1000000){s:Zg}(F:StF s)(h:Xl K s)(h1:Z6h s=0)(h2:Z5q s=0)(hl:l.length+1<=K):LF K S H (Z3v l s):=by
 have c:=L.nn hK;have a:l.length<=1000000:=by omega
 refine⟨Qgx L.inv h hl,λx hx=>?_,?_,?_,?_⟩
 ·rcases Qwx hx with e|e
  ·rw[e];exact F
  ·exact L.all x e
 ·unfold Z3v;split
  ·rename_i b;have e:=Zz8 (g:=λs:Zg=>s.1) (s:=s) (l:=l) (i:=(Q7 l s.1).toNat) (d:=Zj) ((Zz3 a s.1).2.2 b).symm;exact List.pairwise_map.1 (by rw[e];exact List.pairwise_map.2 L.srt)
  ·rename_i b;exact Qv6 L.srt ((Zz3 a s.1).2.1 (by omega))
 ·unfold Z3v;split
  ·rename_i b;have hx:=(Zz3 a s.1).1;rw[Z9l (by omega),h1];have:=(c _ (Z5 (d:=Zj) (show(Q7 l s.1).toNat<l.length by omega))).1.1;have:=L.snt;omega
  ·rw[Qpy,h1];have:=L.snt;omega
 ·unfold Z3v;split
  ·rename_i b;have hx:=(Zz3 a s.1).1;rw[Z9l (by omega),h2];have:=(c _ (Z5 (d:=Zj) (show(Q7 l s.1).toNat<l.length by omega))).2.1;have:=L.hgh;omega
  ·rw[Qpy,h2];have:=L.hgh;omega
theorem Q7f{K:Nat}{S H:Int}(h25:25<=K)(hK:K<=1000000)(v:Bool){o p:Zic}(ho:cfB o=true)(hp:cfB p=true){id:Int}(hq:Zd5 id=true):∀(m:Nat){l:List Zg},LF K S H l->l.length+m<=24->4*(m:Int)<=id+4->LF K S H (mkL v o p id m l)
 |0,_,L,_,_=>L
 |m+1,l,L,g,h=>by
  have a:=Km.1 hq;have c:IntKind.i64.wrap (id-IntKind.i64.wrap (4*(m:Int)))=id-4*(m:Int):=by grind[Zs]
  obtain⟨F,i,d,e⟩:=Xhy v ho hp (id:=id-4*(m:Int)) (Km.2 (by omega));obtain⟨b,-,f⟩:=Q7m v (id-4*(m:Int)) o p;have:=Z1l l (nsV v (id-4*(m:Int)) o p);unfold mkL;rw[c];exact Q7f h25 hK v ho hp hq m (L.put0 hK F (f.mono (Nat.zero_le K)) d e (by omega)) (by omega) (by omega)
theorem Q7g(v:Bool){o p:Zic}(ho:cfB o=true)(hp:cfB p=true){id:Int}(hq:Zd5 id=true):∀(m:Nat){l:List Zg},l.length+m<24-> ∃s∈mkL v o p id (m+1) l,s.1=id
 |0,l,a=>by
  grind[Km,Zs,Xhy,mkL,Xa8]
 |m+1,l,a=>by
  have:=Z1l l (nsV v (IntKind.i64.wrap (id-IntKind.i64.wrap (4*((m+1:Nat):Int)))) o p);unfold mkL;exact Q7g v ho hp hq m (by omega)
theorem Zsp.LF{K:Nat}{c:Zc}(hc:Zsp c)(h:Z4 K c)(hK:K<=1000000):LF K c.2.2.2.2.1.2.1 c.2.2.2.2.2.1.2.2.2.1 c.2.2.2.1:=by
 have b:∀s∈c.2.2.2.1,StF s:=λs a=>hc.st h hK a;have d:∀s∈c.2.2.2.1,(0<=Z6h s/\Z6h s<=4611686018427387903)/\0<=Z5q s/\Z5q s<=4611686018427387903:=λs a=>(b s a).nn (h.str.all s a) hK;have t:=hc.tail;unfold Z9m at t;simp only[Oba,decide_eq_true_eq]at t;have e:=(Qg7 (f:=Z6h) (n:=0) (λs a=>(d s a).1) (Int.le_refl _) (by decide)).1;have g:=(Qg7 (f:=Z5q) (n:=0) (λs a=>(d s a).2) (Int.le_refl _) (by decide)).1;have u:=Qnm.1 hc.tot;have u1:=u.lim;have u2:=u.use
 have w:=Z1u.1 hc.inf;have k:=w.lim;have l:=w.seen
 have i:=t.1.2;have j:=t.2
 rw[e]at i;rw[g]at j;exact⟨h.str,b,(Qqy.1 hc.sts).srt,by omega,by omega⟩
theorem Qkr{K:Nat}{c c':Zc}(hc:Zsp c)(hK:K<=1000000)(e1:c'.2.1=c.2.1)(e2:c'.2.2.1=c.2.2.1)(L:LF K c'.2.2.2.2.1.2.1 c'.2.2.2.2.2.1.2.2.2.1 c'.2.2.2.1)(hl:c'.2.2.2.1.length<=24)
  (ht:Q40 c'.2.2.2.2.1) (hi:Qp8 c'.2.2.2.2.2.1) (hob:Qcj c'.2.2.2.2.2.2.1=true) (hou:Qcj c'.2.2.2.2.2.2.2.1=true) (hab:Q2x c'.2.2.2.2.2.2.2.2.1) (hau:Q2x c'.2.2.2.2.2.2.2.2.2.1)
  (et:c'.2.2.2.2.2.2.2.2.2.2.2.2.2=c.2.2.2.2.2.2.2.2.2.2.2.2.2):Zsp c':=by
 have t:=hc.tail;unfold Z9m at t;simp only[Oba,decide_eq_true_eq]at t;have b:=L.nn hK;have d:=(Qg7 (f:=Z6h) (n:=0) (λs a=>(b s a).1) (Int.le_refl _) (by decide)).1;have e:=(Qg7 (f:=Z5q) (n:=0) (λs a=>(b s a).2) (Int.le_refl _) (by decide)).1;refine⟨by rw[e1];exact hc.own,by rw[e2];exact hc.peer,Qqy.2 ⟨λs a=>(Xi8 (L.inv.all s a) hK).2 (L.all s a),L.srt,hl⟩,Qnm.2 ht,Z1u.2 hi,hob,hou,Qca.2 hab,Qca.2 hau,by rw[et];exact hc.pks,?_⟩;unfold Z9m;rw[et,d,e];simp only[Oba,decide_eq_true_eq];have:=L.snt;have:=L.hgh
 grind
theorem Zz0{K:Nat}{c:Zc}(h:Z4 K c)(hc:Zbx c=true)(h25:25<=K)(hK:K<=400000){id:Int}(hq:Zd5 id=true):Z4 K (Zg8 c id).2:=by
 obtain⟨y,e,a⟩:=Zvl h h25 hK id
 grind[Z9w]
theorem Q9t{K:Nat}{v:Bool}{c:Zc}(h:Z4 K c)(hc:Zbx c=true)(h25:25<=K)(hK:K<=400000){id:Int}(hq:Zd5 id=true)(k:KC v c):KC v (Zg8 c id).2:=Qe1 k id _ (Z9w h hc h25 hK hq)
theorem Zzz{K:Nat}{c:Zc}(h:Z4 K c)(hc:Zbx c=true)(h25:25<=K)(hK:K<=400000){id:Int}(hq:Zd5 id=true)(h0:(Zg8 c id).1=0):Zsp (Zg8 c id).2/\0<=Q7 (Zg8 c id).2.2.2.2.1 id/\(Zg8 c id).2.1=c.1:=by
 have a:=(Z7v h).1 hc;have v:=h.str.len;unfold Zg8 at h0⊢;by_cases k:0<=Q7 c.2.2.2.1 id
 ·simp_all
 rw[Zo (Zn k)]at h0⊢;cases ho:Qjd c.1 id
 ·rw[ho,Ocf]at h0;rw[Ocf];cases hg:Z3k c id
  ·simp_all
  rw[Oct];have x:=Qnw hg;have m:=Km.1 hq;have g:idV id=id/4:=by simp_all[idV]
  have n:Z1r (Zaz c id) (idV id)=true:=by
   simp_all[Z3k]
  have b:=n;unfold Z1r at b;simp only[Oba,decide_eq_true_eq]at b;have d:=Qca.1 b.1;have y:siN (Zaz c id) (idV id)=idV id+1- (Zaz c id).2.2.1:=by grind[siN]
  have i:Q2x (siV (Zaz c id) (idV id)):=by
   have o:=d.most;have p:=d.lim;have z:=d.seen;have A:=d.clo;have q:=d.lc
   unfold siV;exact⟨o,p,by simp only;omega,by simp only;omega,q⟩
  have L:=Q7f h25 (by omega) c.1 a.own a.peer hq (siN (Zaz c id) (idV id)).toNat (a.LF h (by omega)) (by omega) (by have:=d.seen;omega)
  have j:=Q1z c.1 c.2.1 c.2.2.1 id (siN (Zaz c id) (idV id)).toNat c.2.2.2.1;obtain⟨s,e,f⟩:=Q7g c.1 a.own a.peer hq ((siN (Zaz c id) (idV id)).toNat-1) (l:=c.2.2.2.1) (by omega);rw[show(siN (Zaz c id) (idV id)).toNat-1+1=(siN (Zaz c id) (idV id)).toNat by omega]at e;have hx:(Qtd c id).2.2.2.1=mkL c.1 c.2.1 c.2.2.1 id (siN (Zaz c id) (idV id)).toNat c.2.2.2.1:=rfl;refine⟨?_,by rw[hx];exact Xad (by omega) ⟨s,e,f⟩,by unfold Qtd Qly;cases Z5c id<;>rfl⟩;have u:=Qnm.1 a.tot;have w:=Z1u.1 a.inf;have r:=Qca.1 a.ab;have t:=Qca.1 a.au;unfold Qtd Qly;cases Z5c id
  ·exact Qkr a (by omega) rfl rfl L (by simp only;omega) u w a.ob a.ou i t rfl
  ·exact Qkr a (by omega) rfl rfl L (by simp only;omega) u w a.ob a.ou r i rfl
 simp_all
theorem Qvq{l l':List Zg}(n:Int)(hl:l.length=l'.length)(h:∀j,(l.getD j Zj).1=(l'.getD j Zj).1):∀(N:Nat)(i:Int),Yt N l n i=Yt N l' n i
 |0,_=>rfl
 |N+1,i=>by
  unfold Yt;rw[hl,h,Qvq n hl h N]
theorem Qfa{l:List Zg}{s:Zg}{i:Nat}(n:Int)(h:s.1=(l.getD i Zj).1):Q7 (l.set i s) n=Q7 l n:=by
 have e:Ys (l.set i s) n=Ys l n:=by
  unfold Ys Kn;rw[List.length_set];refine Qvq n (List.length_set) (λj=>?_) _ _;by_cases a:j=i
  ·subst a;by_cases b:j<l.length
   all_goals simp_all
  grind
 simp_all[Q7]
theorem Z71{l:List Zg}{s:Zg}{i:Nat}(h:i<l.length):(l.set i s).getD i Zj=s:=by
 simp_all
noncomputable abbrev atV(x:Zc)(id:Int):Zg:=x.2.2.2.1.getD (Q7 x.2.2.2.1 id).toNat Zj
noncomputable abbrev Z3x(x:Zc)(id:Int)(s:Zg):Zc:=Qlz x (x.2.2.2.1.set (Q7 x.2.2.2.1 id).toNat s)
abbrev Zyq(x:Zc)(w:Qg):Zc:=(x.1,x.2.1,x.2.2.1,x.2.2.2.1,x.2.2.2.2.1,w,x.2.2.2.2.2.2)
abbrev Qhv(s:Zg):Zg:=(s.1,s.2.1,s.2.2.1,s.2.2.2.1,s.2.2.2.2.1,s.2.2.2.2.2.1,s.2.2.2.2.2.2.1,s.2.2.2.2.2.2.2.1,s.2.2.2.2.2.2.2.2.1,s.2.2.2.2.2.2.2.2.2.1,s.2.2.2.2.2.2.2.2.2.2.1,s.2.2.2.2.2.2.2.2.2.2.2.1,s.2.2.2.2.2.2.2.2.2.2.2.2.1,true,s.2.2.2.2.2.2.2.2.2.2.2.2.2.2)
abbrev Qv8(s:Zg):Bool:=s.2.2.2.2.2.2.2.2.2.2.2.2.2.1
noncomputable def Qyv(s:Zg):Bool:=Q4t (Zrk s)
theorem Xc3{K:Nat}{s:Zg}(h:Xl K s)(hK:K<=1000000):Zrk s=some (Qyv s,()):=Q8w (Q60 h hK)
theorem Xh6{K:Nat}{s:Zg}(h:Xl K s)(hK:K<=1000000):Zk8 s=some (Qyv s,()):=by
 rw[<-Xc3 h hK];unfold Zk8 Zrk;rw[Qh5 h hK];have e:Ztn s=Zpd s:=by
  unfold Ztn Zpd Zy4 Zpc;rw[Zyl h.rcv hK]
 simp_all[Zy5,Zty]
noncomputable def ovB(v:Bool)(s:Zg):Bool:= !(Qv8 s||Qjd v s.1)&&Qyv s
noncomputable def fin(x:Zc)(id:Int):Zc:=bif ovB x.1 (atV x id)then Qly (Z3x x id (Qhv (atV x id))) id (coV (Zaz x id))else x
theorem Q2e{K:Nat}{x:Zc}{s:Zg}{id:Int}(h:Z4 K x)(hs:Xl K s)(hK:K<=500000)(hid:s.1=id)(hi:0<=Q7 x.2.2.2.1 id):Wk x s=some ((),fin (Z3x x id s) id,()):=by
 subst hid;have r:=h.str.len;obtain⟨t,-,i⟩:=Zz3 (l:=x.2.2.2.1) (by omega) s.1;have j:s.1=(x.2.2.2.1.getD (Q7 x.2.2.2.1 s.1).toNat Zj).1:=by rw[i hi]
 have c:Q7 (x.2.2.2.1.set (Q7 x.2.2.2.1 s.1).toNat s) s.1=Q7 x.2.2.2.1 s.1:=Qfa s.1 j;have d:atV (Z3x x s.1 s) s.1=s:=by
  show(x.2.2.2.1.set (Q7 x.2.2.2.1 s.1).toNat s).getD (Q7 (x.2.2.2.1.set (Q7 x.2.2.2.1 s.1).toNat s) s.1).toNat Zj=s;rw[c];exact Z71 (by omega)
 have k:Xl K (Qhv s):=⟨hs.snd,hs.rcv⟩
 have m:Q0 x.2.2.2.1 s=some (x.2.2.2.1.set (Q7 x.2.2.2.1 s.1).toNat s,()):=by
  rw[Qua h.str hs hK];unfold Z3v;rw[if_pos hi]
 have f:Q0 x.2.2.2.1 (Qhv s)=some (x.2.2.2.1.set (Q7 x.2.2.2.1 s.1).toNat (Qhv s),()):=by
  rw[Qua h.str k hK];unfold Z3v;rw[if_pos hi]
 have g:∀a,∃b,Zfx a=some (coV a,b,()):=λa=>by
  obtain⟨⟨y,b,u⟩,e,v⟩:=Q5s a;exact⟨b,by grind⟩
 unfold Wk Zot fin;rw[d,Q7q,Xc3 hs (by omega)];simp only[bO,bO2];have e:((Qv8 s||(!Qv8 s&&Qjd x.1 s.1))|| !Qyv s)= !ovB x.1 s:=by
  unfold ovB;cases Qv8 s<;>cases Qjd x.1 s.1<;>cases Qyv s<;>rfl
 rw[e];have n:(Z3x x s.1 s).1=x.1:=rfl;rw[n];cases ovB x.1 s
 ·rw[Bool.not_false,Oct,Ocf,Obs,m];rfl
 ·rw[Ont,Ocf,Oct,Q4r,Obs];obtain⟨w,o⟩:=g x.2.2.2.2.2.2.2.2.2.1;obtain⟨z,p⟩:=g x.2.2.2.2.2.2.2.2.1;rw[o,p];have q:Z3x (Z3x x s.1 s) s.1 (Qhv s)=Qlz x (x.2.2.2.1.set (Q7 x.2.2.2.1 s.1).toNat (Qhv s)):=by
   show Qlz x ((x.2.2.2.1.set (Q7 x.2.2.2.1 s.1).toNat s).set (Q7 (x.2.2.2.1.set (Q7 x.2.2.2.1 s.1).toNat s) s.1).toNat (Qhv s))=_;rw[c,List.set_set]
  rw[q];unfold Qly Zaz;cases Z5c s.1
  ·simp only[Ocf,Obs];rw[show(s.1,s.2.1,s.2.2.1,s.2.2.2.1,s.2.2.2.2.1,s.2.2.2.2.2.1,s.2.2.2.2.2.2.1,s.2.2.2.2.2.2.2.1,s.2.2.2.2.2.2.2.2.1,s.2.2.2.2.2.2.2.2.2.1,s.2.2.2.2.2.2.2.2.2.2.1,s.2.2.2.2.2.2.2.2.2.2.2.1,s.2.2.2.2.2.2.2.2.2.2.2.2.1,true,s.2.2.2.2.2.2.2.2.2.2.2.2.2.2)=Qhv s from rfl,f];rfl
  ·simp only[Oct,Obs];rw[show(s.1,s.2.1,s.2.2.1,s.2.2.2.1,s.2.2.2.2.1,s.2.2.2.2.2.1,s.2.2.2.2.2.2.1,s.2.2.2.2.2.2.2.1,s.2.2.2.2.2.2.2.2.1,s.2.2.2.2.2.2.2.2.2.1,s.2.2.2.2.2.2.2.2.2.2.1,s.2.2.2.2.2.2.2.2.2.2.2.1,s.2.2.2.2.2.2.2.2.2.2.2.2.1,true,s.2.2.2.2.2.2.2.2.2.2.2.2.2.2)=Qhv s from rfl,f];rfl
noncomputable def Qzz(x:Zc)(id:Int):Option (Zc×Int×Unit):=Option.bind (Q8 x.2.2.2.1 id) λt14=>Ze (0<=t14.1/\t14.1<x.2.2.2.1.length)<|Option.bind (Zjd x.1 id) λt13=>Option.bind (bif t13.1||Qv8 (x.2.2.2.1.getD t14.1.toNat Zj)then some (false,())else(Zk8 (x.2.2.2.1.getD t14.1.toNat Zj))) λt24=>bif(t13.1||Qv8 (x.2.2.2.1.getD t14.1.toNat Zj))||(!t24.1)then some (x,(0:Int),()) else Option.bind (Qa (Qlz x (x.2.2.2.1.set t14.1.toNat (Qhv (x.2.2.2.1.getD t14.1.toNat Zj)))) id) λt33=>bif t33.1 then Option.bind (Qa t33.2.1 id) λt36=>bif t36.1 then Option.bind (Q1 t36.2.1.2.2.2.2.2.2.2.2.2.1) λt39=>some ((t36.2.1.1,t36.2.1.2.1,t36.2.1.2.2.1,t36.2.1.2.2.2.1,t36.2.1.2.2.2.2.1,t36.2.1.2.2.2.2.2.1,t36.2.1.2.2.2.2.2.2.1,t36.2.1.2.2.2.2.2.2.2.1,t36.2.1.2.2.2.2.2.2.2.2.1,t39.1,t36.2.1.2.2.2.2.2.2.2.2.2.2),(0:Int),()) else Option.bind (Q1 t36.2.1.2.2.2.2.2.2.2.2.1) λt39=>some ((t36.2.1.1,t36.2.1.2.1,t36.2.1.2.2.1,t36.2.1.2.2.2.1,t36.2.1.2.2.2.2.1,t36.2.1.2.2.2.2.2.1,t36.2.1.2.2.2.2.2.2.1,t36.2.1.2.2.2.2.2.2.2.1,t36.2.1.2.2.2.2.2.2.2.2.1,t39.1,t36.2.1.2.2.2.2.2.2.2.2.2.2),(0:Int),()) else Option.bind (Qa t33.2.1 id) λt36=>bif t36.1 then Option.bind (Q1 t36.2.1.2.2.2.2.2.2.2.2.2.1) λt39=>some ((t36.2.1.1,t36.2.1.2.1,t36.2.1.2.2.1,t36.2.1.2.2.2.1,t36.2.1.2.2.2.2.1,t36.2.1.2.2.2.2.2.1,t36.2.1.2.2.2.2.2.2.1,t36.2.1.2.2.2.2.2.2.2.1,t39.1,t36.2.1.2.2.2.2.2.2.2.2.2),(0:Int),()) else Option.bind (Q1 t36.2.1.2.2.2.2.2.2.2.2.1) λt39=>some ((t36.2.1.1,t36.2.1.2.1,t36.2.1.2.2.1,t36.2.1.2.2.2.1,t36.2.1.2.2.2.2.1,t36.2.1.2.2.2.2.2.1,t36.2.1.2.2.2.2.2.2.1,t36.2.1.2.2.2.2.2.2.2.1,t39.1,t36.2.1.2.2.2.2.2.2.2.2.2),(0:Int),())
theorem Xbi{K:Nat}{x:Zc}{id:Int}(h:Zg7 K x.2.2.2.1)(hK:K<=500000)(hi:0<=Q7 x.2.2.2.1 id):Qzz x id=some (fin x id,(0:Int),()):=by
 have j:=h.len;obtain⟨k,-,f⟩:=Zz3 (l:=x.2.2.2.1) (by omega) id;have g:=h.all _ (Z5 (d:=Zj) (show(Q7 x.2.2.2.1 id).toNat<x.2.2.2.1.length by omega));have i:∀x n,Qa x n=some (Z5c n,x,()):=λx n=>by
  unfold Qa;rw[Xjh,Q4r,Obs];cases Z5c n<;>rfl
 have c:∀a,∃b,Q1 a=some (coV a,b,()):=λa=>by
  obtain⟨⟨y,b,u⟩,e,m⟩:=Q5s a
  grind[Xdv]
 unfold Qzz fin;rw[Z39 (by omega),Z65 (by omega),Obs];simp only;rw[Zb,Xh8,Q7q,Obs,Xh6 g (by omega)];simp only[bO,bO2];have e:((Qjd x.1 id||Qv8 (atV x id))|| !Qyv (atV x id))= !ovB x.1 (atV x id):=by
  unfold ovB;rw[f hi];cases Qv8 (atV x id)<;>cases Qjd x.1 id<;>cases Qyv (atV x id)<;>rfl
 rw[e];cases ovB x.1 (atV x id)
 ·rfl
 ·rw[Ont,Ocf,Oct,i,Obs];obtain⟨o,p⟩:=c x.2.2.2.2.2.2.2.2.2.1;obtain⟨q,r⟩:=c x.2.2.2.2.2.2.2.2.1;unfold Qly Zaz;cases hu:Z5c id
  ·grind
  grind
theorem Q8g(w:Qg):snV w 0=w:=by
 simp_all[snV]
abbrev lft(w:Qg):Int:=w.2.2.1-w.2.2.2.1
def flB(x:Zc)(s:Zg)(n:Int):Bool:=decide (n<=lft s.2.2.2.2.1)&&decide (n<=lft x.2.2.2.2.2.1)
abbrev Zzi(s:Zg)(w:Qg):Zg:=(s.1,s.2.1,s.2.2.1,s.2.2.2.1,w,s.2.2.2.2.2)
abbrev Zxi(s:Zg)(r:Zx):Zg:=(s.1,s.2.1,s.2.2.1,r,s.2.2.2.2)
theorem Qy9(r:Zx)(e:Int):0<=nbV r e:=by
 unfold nbV
 grind
theorem Xct{K:Nat}{x:Zc}{s:Zg}(hs:Xl K s)(hK:K<=1000000)(w1:Z7h s.2.2.2.2.1=true)(w2:Z7h x.2.2.2.2.2.1=true)(e:Int):Zib x s e=some (bif flB x s (nbV s.2.2.2.1 e)then(((0:Int),()),Zyq x (snV x.2.2.2.2.2.1 (nbV s.2.2.2.1 e)),Zzi s (snV s.2.2.2.2.1 (nbV s.2.2.2.1 e)),())else(((3:Int),()),x,s,())):=by
 have a:=Z1u.1 w1;have b:=Z1u.1 w2;have h:=a.seen;have i:=b.seen
 have j:0<=lft s.2.2.2.2.1:=by unfold lft;omega
 have k:0<=lft x.2.2.2.2.2.1:=by unfold lft;omega
 have c:=Qy9 s.2.2.2.1 e;unfold Zib;rw[Q3w hs.rcv hK,Obs];generalize nbV s.2.2.2.1 e=n at c⊢;simp only;by_cases d:n=0
 ·simp_all[flB,Q8g]
 ·rw[Zo (by simpa using d),Xin,Xin];have f:Z6g s.2.2.2.2.1 n=decide (n<=lft s.2.2.2.2.1):=by simp_all[Z6g]
  have g:Z6g x.2.2.2.2.2.1 n=decide (n<=lft x.2.2.2.2.2.1):=by simp_all[Z6g]
  simp only[Obs];rw[f,g];unfold flB;cases decide (n<=lft s.2.2.2.2.1)<;>cases decide (n<=lft x.2.2.2.2.2.1)<;>rfl
theorem okF{f:Zf}(h:Xz f=true):Zd5 f.2.1=true/\(0<=f.2.2.1/\f.2.2.1<=4611686018427387903)/\(f.1=8->f.2.2.1+(f.2.2.2.1.length:Int)<=4611686018427387903)/\f.2.2.2.1.length<=400:=by
 unfold Xz fq at h;simp only[Oba,decide_eq_true_eq]at h;obtain⟨⟨⟨⟨⟨⟨⟨-,b⟩,c⟩,-⟩,-⟩,-⟩,a⟩,d⟩:=h;refine⟨Km.2 (by omega),by omega,λe=>?_,a⟩
 grind
theorem Zg7.set{K:Nat}{l:List Zg}(h:Zg7 K l){s:Zg}(hs:Xl K s)(i:Nat):Zg7 K (l.set i s):=⟨by rw[List.length_set];exact h.len,λx hx=>by
 rcases List.mem_or_eq_of_mem_set hx with h1|h1
 ·exact h.all x h1
 simp_all⟩
noncomputable def pre(c:Zc)(f:Zf)(g can:Bool)(k:Zc->Zc×Int×Unit):Zc×Int×Unit:=bif(Zbx c&&Xz f)&&g then bif can then bif(Zg8 c f.2.1).1==0 then k (Zg8 c f.2.1).2 else(c,(Zg8 c f.2.1).1,())else(c,5,())else(c,7,())
noncomputable def Qpv(v:Bool)(n:Int):Bool:=Q4t (K0 v n)
theorem Qxi(v:Bool)(n:Int):K0 v n=some (Qpv v n,()):=Q8w (Q8m v n)
noncomputable def Z9c(v:Bool)(n:Int):Bool:=Q4t (Xv v n)
theorem Qph(v:Bool)(n:Int):Xv v n=some (Z9c v n,()):=Q8w (Q2n v n)
noncomputable def Qp6(m:Option (Zx×Int×Unit)):Zx×Int×Unit:=match m with|some y=>y|none=>(Zso,0,())
noncomputable def Qbr(c:Zc)(f:Zf)(x:Zc):Zc×Int×Unit:=bif flB x (atV x f.2.1) (nbV (atV x f.2.1).2.2.2.1 (IntKind.i64.wrap (f.2.2.1+(f.2.2.2.1.length:Int))))then bif(Qp6 (Ym (atV x f.2.1).2.2.2.1 f.2.2.1 f.2.2.2.1 f.2.2.2.2.1)).2.1==0 then (fin (Z3x (Zyq x (snV x.2.2.2.2.2.1 (nbV (atV x f.2.1).2.2.2.1 (IntKind.i64.wrap (f.2.2.1+(f.2.2.2.1.length:Int)))))) f.2.1 (Zxi (Zzi (atV x f.2.1) (snV (atV x f.2.1).2.2.2.2.1 (nbV (atV x f.2.1).2.2.2.1 (IntKind.i64.wrap (f.2.2.1+(f.2.2.2.1.length:Int)))))) (Qp6 (Ym (atV x f.2.1).2.2.2.1 f.2.2.1 f.2.2.2.1 f.2.2.2.2.1)).1)) f.2.1,0,()) else(c,(Qp6 (Ym (atV x f.2.1).2.2.2.1 f.2.2.1 f.2.2.2.1 f.2.2.2.2.1)).2.1,()) else(c,3,())
structure EnF(K:Nat)(x:Zc)(id:Int):Prop where
 inv:Z4 K x
 con:Zsp x
 idx:0<=Q7 x.2.2.2.1 id
theorem EnF.mem{K:Nat}{x:Zc}{id:Int}(h:EnF K x id)(hK:K<=1000000):atV x id∈x.2.2.2.1/\(Q7 x.2.2.2.1 id).toNat<x.2.2.2.1.length/\(atV x id).1=id:=by
 have c:=h.inv.str.len;obtain⟨e,-,a⟩:=Zz3 (l:=x.2.2.2.1) (by omega) id;have b:=h.idx;exact⟨Z5 (d:=Zj),by omega,a b⟩
theorem Xhe{K:Nat}{c:Zc}{f:Zf}(h:Z4 K c)(hf:FOK f)(h25:25<=K)(hK:K<=390000):Zd6 c f=some (pre c f (f.1==8) (Z9c c.1 f.2.1) (Qbr c f),()):=by
 unfold FOK at hf;unfold Zd6 pre;simp only[Z0k h,Z0x hf,Jg h,bO,bO2,Obs,Qph];cases hc:Zbx c
 ·rfl
 cases hk:Xz f
 ·rfl
 rw[bne];cases hg:f.1==8
 ·rfl
 simp only[Ont,Bool.or_self,Ocf,Bool.and_self,Oct];cases Z9c c.1 f.2.1
 ·rfl
 simp only[Ont,Ocf,Oct];obtain⟨a,o,p,q⟩:=okF hk;rw[Z9w h hc h25 (by omega) a,Obs,bne];cases h0:(Zg8 c f.2.1).1==0
 ·rfl
 have E:EnF K (Zg8 c f.2.1).2 f.2.1:=by
  have e:=Zzz h hc h25 (by omega) a (by simpa using h0);exact⟨Zz0 h hc h25 (by omega) a,e.1,e.2.1⟩
 simp only[Ont,Ocf,Oct];generalize (Zg8 c f.2.1).2=x at E⊢;obtain⟨g,s,i⟩:=E.mem (by omega);have b:=E.inv.str.all _ g;have F:=E.con.st E.inv (by omega) g;rw[Zu7 E.inv (by omega),if_pos E.idx,Obs];obtain⟨r,v,e,j⟩:=Z26 b.rcv f.2.2.1 f.2.2.2.1 f.2.2.2.2.1;simp only;unfold Qbr;rw[e,Obs,Xct b (by omega) (Z1u.2 F.win) E.con.inf,Obs];cases flB x (atV x f.2.1) (nbV (atV x f.2.1).2.2.2.1 (IntKind.i64.wrap (f.2.2.1+(f.2.2.2.1.length:Int))))
 ·rfl
 simp only[Oct,show((0:Int) !=0)=false from rfl,Ocf,Qp6];rw[bne];cases v==0
 ·rfl
 simp only[Ont,Ocf,Oct];generalize nbV (atV x f.2.1).2.2.2.1 (IntKind.i64.wrap (f.2.2.1+(f.2.2.2.1.length:Int)))=n;have k:Xl (K+f.2.2.2.1.length+1) (Zxi (Zzi (atV x f.2.1) (snV (atV x f.2.1).2.2.2.2.1 n)) r):=⟨b.snd.mono (by omega),j⟩
 have l:=Q2e (x:=Zyq x (snV x.2.2.2.2.2.1 n)) (id:=f.2.1) (K:=K+f.2.2.2.1.length+1) ⟨E.inv.str.mono (by omega),E.inv.pk.mono (by omega)⟩ k (by omega) i E.idx;exact Eq.trans (congrArg (λm:Option (Unit×Zc×Unit)=>Option.bind m λd=>some ((d.2.1,(0:Int),()),())) l) rfl
theorem Xhc{K:Nat}{c:Zc}{f:Zf}(h:Z4 K c)(hf:FOK f)(h25:25<=K)(hK:K<=390000):Ztk c f=some (pre c f (f.1==8) (Z9c c.1 f.2.1) (Qbr c f)):=by
 unfold FOK at hf;unfold Ztk pre;simp only[Zv1 h,Z0k h,Z4j hf,Zkg h,bO,bO2,X4,Obs,Q72,Qph];cases hc:Zbx c
 ·rfl
 cases hk:Xz f
 ·rfl
 cases hg:f.1==8
 ·rfl
 simp only[Ont,Bool.or_self,Ocf,Bool.and_self,Oct];cases Z9c c.1 f.2.1
 ·rfl
 simp only[Ont,Ocf,Oct];obtain⟨b,k,l,m⟩:=okF hk;rw[Qma h hc h25 (by omega),Obs,bne];cases h0:(Zg8 c f.2.1).1==0
 ·rfl
 have E:EnF K (Zg8 c f.2.1).2 f.2.1:=by
  have e:=Zzz h hc h25 (by omega) b (by simpa using h0);exact⟨Zz0 h hc h25 (by omega) b,e.1,e.2.1⟩
 simp only[Ont,Ocf,Oct];generalize (Zg8 c f.2.1).2=x at E⊢;obtain⟨d,g,o⟩:=E.mem (by omega);have a:=E.inv.str.all _ d;have F:=E.con.st E.inv (by omega) d;have p:=E.inv.str.len;have q:=E.idx;rw[Z39 (by omega),Z65 (by omega),Obs];simp only;rw[Zb,Qrq a.rcv (by omega),Obs,Q1q,Obs,Q1q,Z1u.2 F.win,E.con.inf];obtain⟨r,v,e,i⟩:=Z26 a.rcv f.2.2.1 f.2.2.2.1 f.2.2.2.2.1;unfold Qbr flB;simp only[Oct];rw[show decide (nbV (atV x f.2.1).2.2.2.1 (IntKind.i64.wrap (f.2.2.1+(f.2.2.2.1.length:Int)))>lft (atV x f.2.1).2.2.2.2.1)= !decide (nbV (atV x f.2.1).2.2.2.1 (IntKind.i64.wrap (f.2.2.1+(f.2.2.2.1.length:Int)))<=lft (atV x f.2.1).2.2.2.2.1) by grind];cases decide (nbV (atV x f.2.1).2.2.2.1 (IntKind.i64.wrap (f.2.2.1+(f.2.2.2.1.length:Int)))<=lft (atV x f.2.1).2.2.2.2.1)
 ·rfl
 simp only[Ont,Ocf,Obs,Bool.false_or,Ota];rw[show decide (nbV (atV x f.2.1).2.2.2.1 (IntKind.i64.wrap (f.2.2.1+(f.2.2.2.1.length:Int)))>lft x.2.2.2.2.2.1)= !decide (nbV (atV x f.2.1).2.2.2.1 (IntKind.i64.wrap (f.2.2.1+(f.2.2.2.1.length:Int)))<=lft x.2.2.2.2.2.1) by grind];cases decide (nbV (atV x f.2.1).2.2.2.1 (IntKind.i64.wrap (f.2.2.1+(f.2.2.2.1.length:Int)))<=lft x.2.2.2.2.2.1)
 ·rfl
 simp only[Ont,Ocf,Oct];rw[Q71 a.rcv _ _ _ (by omega) (by omega),e,Obs];simp only[Qp6];rw[bne];cases v==0
 ·rfl
 simp only[Ont,Ocf,Oct];rw[Xbh,Xbh,Obs,Obs];simp only[Z71 g,List.set_set];generalize s:nbV (atV x f.2.1).2.2.2.1 (IntKind.i64.wrap (f.2.2.1+(f.2.2.2.1.length:Int)))=n;have j:Xl (K+f.2.2.2.1.length+1) (Zxi (Zzi (atV x f.2.1) (snV (atV x f.2.1).2.2.2.2.1 n)) r):=⟨a.snd.mono (by omega),i⟩
 refine Eq.trans ?_ (Xbi (K:=K+f.2.2.2.1.length+1) (x:=Z3x (Zyq x (snV x.2.2.2.2.2.1 n)) f.2.1 (Zxi (Zzi (atV x f.2.1) (snV (atV x f.2.1).2.2.2.2.1 n)) r)) (id:=f.2.1) ?_ (by omega) ?_)
 ·rfl
 ·exact(E.inv.str.mono (by omega)).set j _
 ·show 0<=Q7 (x.2.2.2.1.set (Q7 x.2.2.2.1 f.2.1).toNat (Zxi (Zzi (atV x f.2.1) (snV (atV x f.2.1).2.2.2.2.1 n)) r)) f.2.1;rw[show Q7 (x.2.2.2.1.set (Q7 x.2.2.2.1 f.2.1).toNat (Zxi (Zzi (atV x f.2.1) (snV (atV x f.2.1).2.2.2.2.1 n)) r)) f.2.1=Q7 x.2.2.2.1 f.2.1 from Qfa _ rfl];exact E.idx
theorem Q7y(w:Qg):rdV w 0=w:=by
 simp_all[rdV]
theorem Xbe(w:Qg)(n:Int):rdV w (max 0 n)=rdV w n:=by
 by_cases h:0<=n
 ·grind
 ·rw[Int.max_eq_left (by omega),Q7y];simp_all[Qbi,Zn,rdV]
noncomputable def Z10(x:Zc)(f:Zf):Int:=nbV (atV x f.2.1).2.2.2.1 f.2.2.2.2.2.2.2.1
noncomputable def Qg4(x:Zc)(f:Zf):Zx×Int×Unit:=Qp6 (K8 (atV x f.2.1).2.2.2.1 f.2.2.2.2.2.1 f.2.2.2.2.2.2.2.1)
noncomputable def Xfh(x:Zc)(f:Zf):Int:=IntKind.i64.wrap (f.2.2.2.2.2.2.2.1- (snV (atV x f.2.1).2.2.2.2.1 (Z10 x f)).2.2.2.2.1)
noncomputable def Qqu(c:Zc)(f:Zf)(x:Zc):Zc×Int×Unit:=bif flB x (atV x f.2.1) (Z10 x f)then bif(Qg4 x f).2.1==0 then bif((Qg4 x f).1.1==4)&&((atV x f.2.1).2.2.2.1.1 !=4)then (fin (Z3x (Zyq x (rdV (snV x.2.2.2.2.2.1 (Z10 x f)) (Xfh x f))) f.2.1 (Zxi (Zzi (atV x f.2.1) (rdV (snV (atV x f.2.1).2.2.2.2.1 (Z10 x f)) (Xfh x f))) (Qg4 x f).1)) f.2.1,0,()) else(fin (Z3x (Zyq x (snV x.2.2.2.2.2.1 (Z10 x f))) f.2.1 (Zxi (Zzi (atV x f.2.1) (snV (atV x f.2.1).2.2.2.2.1 (Z10 x f))) (Qg4 x f).1)) f.2.1,0,()) else(c,(Qg4 x f).2.1,()) else(c,3,())
theorem Xk1{K:Nat}{c:Zc}{f:Zf}(h:Z4 K c)(hf:FOK f)(h25:25<=K)(hK:K<=390000):Zcq c f=some (pre c f (f.1==4) (Z9c c.1 f.2.1) (Qqu c f),()):=by
 unfold FOK at hf;unfold Zcq Wc pre;simp only[Z0k h,Z0x hf,Jg h,bO,bO2,Obs,Qph];cases hc:Zbx c
 ·rfl
 cases hk:Xz f
 ·rfl
 rw[bne];cases hg:f.1==4
 ·rfl
 simp only[Ont,Bool.or_self,Ocf,Bool.and_self,Oct];cases Z9c c.1 f.2.1
 ·rfl
 simp only[Ont,Ocf,Oct];obtain⟨g,p,q,s⟩:=okF hk;rw[Z9w h hc h25 (by omega) g,Obs,bne];cases h0:(Zg8 c f.2.1).1==0
 ·rfl
 have E:EnF K (Zg8 c f.2.1).2 f.2.1:=by
  have e:=Zzz h hc h25 (by omega) g (by simpa using h0);exact⟨Zz0 h hc h25 (by omega) g,e.1,e.2.1⟩
 simp only[Ont,Ocf,Oct];generalize (Zg8 c f.2.1).2=x at E⊢;obtain⟨k,t,l⟩:=E.mem (by omega);have i:=E.inv.str.all _ k;have F:=E.con.st E.inv (by omega) k;rw[Zu7 E.inv (by omega),if_pos E.idx,Obs];obtain⟨r,v,e,m⟩:=Z0d i.rcv (by omega) f.2.2.2.2.2.1 f.2.2.2.2.2.2.2.1;have n:Qg4 x f=(r,v,()):=by unfold Qg4;rw[e];rfl
 simp only;unfold Qqu;rw[e,Obs,Xct i (by omega) (Z1u.2 F.win) E.con.inf,Obs,n];rw[show nbV (atV x f.2.1).2.2.2.1 f.2.2.2.2.2.2.2.1=Z10 x f from rfl];cases flB x (atV x f.2.1) (Z10 x f)
 ·rfl
 simp only[Oct,show((0:Int) !=0)=false from rfl,Ocf];rw[bne];cases v==0
 ·rfl
 simp only[Ont,Ocf,Oct];have a:∀b d,Option.bind (Wk (Zyq x b) (Zxi (Zzi (atV x f.2.1) d) r)) (λj=>some ((j.2.1,(0:Int),()),()))=some ((fin (Z3x (Zyq x b) f.2.1 (Zxi (Zzi (atV x f.2.1) d) r)) f.2.1,0,()),()):=λb d=>by
  have o:Xl K (Zxi (Zzi (atV x f.2.1) d) r):=⟨i.snd,m⟩
  rw[Q2e (x:=Zyq x b) (id:=f.2.1) (K:=K) ⟨E.inv.str,E.inv.pk⟩ o (by omega) l E.idx];rfl
 cases ((r.1==4)&&((atV x f.2.1).2.2.2.1.1 !=4))
 ·exact a _ _
 ·simp only[Oct];unfold Zlt;simp only[Xik,Xbe,Obs];exact a _ _
noncomputable def Xim(x:Zc)(f:Zf)(i:Nat)(l:List Zg)(w:Qg)(r:Zx):Option (Zc×Int×Unit):=bif(r.1==(4:Int))&&((l.getD i Zj).2.2.2.1.1 !=(4:Int))then Option.bind (Zje ((l.set i (Zxi (l.getD i Zj) r)).getD i Zj).2.2.2.2.1 (IntKind.i64.wrap (f.2.2.2.2.2.2.2.1- ((l.set i (Zxi (l.getD i Zj) r)).getD i Zj).2.2.2.2.1.2.2.2.2.1))) λt21=>Option.bind (Zje w (IntKind.i64.wrap (f.2.2.2.2.2.2.2.1- ((l.set i (Zxi (l.getD i Zj) r)).getD i Zj).2.2.2.2.1.2.2.2.2.1))) λt33=>Qzz (Qlz (Zyq x t33.1) ((l.set i (Zxi (l.getD i Zj) r)).set i (Zzi ((l.set i (Zxi (l.getD i Zj) r)).getD i Zj) t21.1))) f.2.1 else Qzz (Qlz (Zyq x w) (l.set i (Zxi (l.getD i Zj) r))) f.2.1
set_option maxHeartbeats 2000000 in
theorem Xkz{K:Nat}{c:Zc}{f:Zf}(h:Z4 K c)(hf:FOK f)(h25:25<=K)(hK:K<=390000):Zrz c f=some (pre c f (f.1==4) (Z9c c.1 f.2.1) (Qqu c f)):=by
 unfold FOK at hf;unfold Zrz pre;simp only[Zv1 h,Z0k h,Z4j hf,Zkg h,bO,bO2,X4,Obs,Q72,Qph];cases hc:Zbx c
 ·rfl
 cases hk:Xz f
 ·rfl
 cases hg:f.1==4
 ·rfl
 simp only[Ont,Bool.or_self,Ocf,Bool.and_self,Oct];cases Z9c c.1 f.2.1
 ·rfl
 simp only[Ont,Ocf,Oct];obtain⟨i,p,q,s⟩:=okF hk;rw[Qma h hc h25 (by omega),Obs,bne];cases h0:(Zg8 c f.2.1).1==0
 ·rfl
 have E:EnF K (Zg8 c f.2.1).2 f.2.1:=by
  have e:=Zzz h hc h25 (by omega) i (by simpa using h0);exact⟨Zz0 h hc h25 (by omega) i,e.1,e.2.1⟩
 simp only[Ont,Ocf,Oct];generalize (Zg8 c f.2.1).2=x at E⊢;obtain⟨j,k,t⟩:=E.mem (by omega);have d:=E.inv.str.all _ j;have F:=E.con.st E.inv (by omega) j;have u:=E.inv.str.len;have w:=E.idx;rw[Z39 (by omega),Z65 (by omega),Obs];simp only;rw[Zb,Qrq d.rcv (by omega),Obs,Q1q,Obs,Q1q,Z1u.2 F.win,E.con.inf];obtain⟨r,v,e,l⟩:=Z0d d.rcv (by omega) f.2.2.2.2.2.1 f.2.2.2.2.2.2.2.1;have m:Qg4 x f=(r,v,()):=by unfold Qg4;rw[e];rfl
 unfold Qqu flB;rw[m];simp only[Oct];rw[show nbV (atV x f.2.1).2.2.2.1 f.2.2.2.2.2.2.2.1=Z10 x f from rfl];rw[show decide (Z10 x f>lft (atV x f.2.1).2.2.2.2.1)= !decide (Z10 x f<=lft (atV x f.2.1).2.2.2.2.1) by grind];cases decide (Z10 x f<=lft (atV x f.2.1).2.2.2.2.1)
 ·rfl
 simp only[Ont,Ocf,Obs,Bool.false_or,Ota];rw[show decide (Z10 x f>lft x.2.2.2.2.2.1)= !decide (Z10 x f<=lft x.2.2.2.2.2.1) by grind];cases decide (Z10 x f<=lft x.2.2.2.2.2.1)
 ·rfl
 simp only[Ont,Ocf,Oct];rw[Qqt d.rcv _ _ (by omega),e,Obs];simp only;rw[bne];cases v==0
 ·rfl
 simp only[Ont,Ocf,Oct];have b:∀g a,Qzz (Z3x (Zyq x g) f.2.1 (Zxi (Zzi (atV x f.2.1) a) r)) f.2.1=some (fin (Z3x (Zyq x g) f.2.1 (Zxi (Zzi (atV x f.2.1) a) r)) f.2.1,(0:Int),()):=λg a=>by
  have n:Xl K (Zxi (Zzi (atV x f.2.1) a) r):=⟨d.snd,l⟩
  refine Xbi (K:=K) (E.inv.str.set n _) (by omega) ?_;show 0<=Q7 (x.2.2.2.1.set (Q7 x.2.2.2.1 f.2.1).toNat (Zxi (Zzi (atV x f.2.1) a) r)) f.2.1;rw[show Q7 (x.2.2.2.1.set (Q7 x.2.2.2.1 f.2.1).toNat (Zxi (Zzi (atV x f.2.1) a) r)) f.2.1=Q7 x.2.2.2.1 f.2.1 from Qfa _ rfl];exact E.idx
 rw[Xbh,Xbh,Obs,Obs];refine Eq.trans (show _=Xim x f (Q7 x.2.2.2.1 f.2.1).toNat (x.2.2.2.1.set (Q7 x.2.2.2.1 f.2.1).toNat (Zzi (atV x f.2.1) (snV (atV x f.2.1).2.2.2.2.1 (Z10 x f)))) (snV x.2.2.2.2.2.1 (Z10 x f)) r from rfl) ?_;unfold Xim;have o:(Q7 x.2.2.2.1 f.2.1).toNat<(x.2.2.2.1.set (Q7 x.2.2.2.1 f.2.1).toNat (Zzi (atV x f.2.1) (snV (atV x f.2.1).2.2.2.2.1 (Z10 x f)))).length:=by simp_all
 rw[Z71 k,Z71 o];simp only[List.set_set];cases ((r.1==4)&&((atV x f.2.1).2.2.2.1.1 !=4))
 ·exact b _ _
 ·simp only[Oct,Xii,Obs];exact b _ _
theorem Qsj(s:Zp):0<=stF s/\stF s<=3:=by
 have e:=Quo s;unfold Zdq at e
 grind
theorem Q43.st{s:Zp}(h:Q43 s):0<=s.1/\s.1<=5:=by
 by_cases a:s.1=4\/s.1=5
 ·omega
 ·have:=(h.no a).st;have:=Qsj s;omega
theorem Quh{K:Int}{s:Zp}(h:Zbd K s)(hK:K<=1000000)(code:Int):Zr4 s code=V6 s code:=by
 have a:=h.cells;unfold Zr4 V6 Zl6;rw[Z94 h hK,Qz4 h hK,Obs,Z7w h hK,Zw9 h hK];simp only[Zel,Z5w,Kz,Obs,bO,bO2,bA,bA2,X4,Kt];cases hs:Z9h s
 ·rfl
 ·have g:=((Qxh h hK).1 hs).st;have e:(decide (s.1>=0)&&decide (s.1<=2))= !decide (s.1>2):=by
   grind
  rw[e];cases decide (s.1>2)<;>cases Zd5 code<;>rfl
noncomputable def Xla(m:Option (Zp×Bool×Unit)):Zp×Bool×Unit:=match m with|some y=>y|none=>(Zaw,false,())
noncomputable def Quq(x:Zc)(f:Zf):Zp×Bool×Unit:=Xla (V6 (atV x f.2.1).2.1 f.2.2.2.2.2.1)
abbrev Qul(s:Zg)(d:Zp):Zg:=(s.1,d,s.2.2)
abbrev Qhd(s:Zg):Zg:=(s.1,s.2.1,s.2.2.1,s.2.2.2.1,s.2.2.2.2.1,s.2.2.2.2.2.1,s.2.2.2.2.2.2.1,s.2.2.2.2.2.2.2.1,true,s.2.2.2.2.2.2.2.2.2)
noncomputable def Qur(f:Zf)(x:Zc):Zc×Int×Unit:=bif(Quq x f).2.1 then(fin (Z3x x f.2.1 (Qhd (Qul (atV x f.2.1) (Quq x f).1))) f.2.1,0,())else(fin x f.2.1,0,())
theorem Xk7{K:Nat}{c:Zc}{f:Zf}(h:Z4 K c)(hf:FOK f)(h25:25<=K)(hK:K<=390000):Zd7 c f=some (pre c f (f.1==5) (Qpv c.1 f.2.1) (Qur f),()):=by
 unfold FOK at hf;unfold Zd7 Zaa pre;simp only[Z0k h,Z0x hf,Jg h,bO,bO2,Obs,Qxi];cases hc:Zbx c
 ·rfl
 cases hk:Xz f
 ·rfl
 rw[bne];cases hg:f.1==5
 ·rfl
 simp only[Ont,Bool.or_self,Ocf,Bool.and_self,Oct];cases Qpv c.1 f.2.1
 ·rfl
 simp only[Ont,Ocf,Oct];obtain⟨a,p,q,r⟩:=okF hk;rw[Z9w h hc h25 (by omega) a,Obs,bne];cases h0:(Zg8 c f.2.1).1==0
 ·rfl
 have E:EnF K (Zg8 c f.2.1).2 f.2.1:=by
  have e:=Zzz h hc h25 (by omega) a (by simpa using h0);exact⟨Zz0 h hc h25 (by omega) a,e.1,e.2.1⟩
 simp only[Ont,Ocf,Oct];generalize (Zg8 c f.2.1).2=x at E⊢;obtain⟨i,s,j⟩:=E.mem (by omega);have b:=E.inv.str.all _ i;have F:=E.con.st E.inv (by omega) i;rw[Zu7 E.inv (by omega),if_pos E.idx,Obs];obtain⟨d,v,e,l⟩:=Zyp b.snd f.2.2.2.2.2.1;have n:Quq x f=(d,v,()):=by unfold Quq;rw[e];rfl
 simp only;unfold Qur;rw[e,Obs,n];cases v
 ·have hx:Z3x x f.2.1 (atV x f.2.1)=x:=by
   show(x.1,x.2.1,x.2.2.1,x.2.2.2.1.set (Q7 x.2.2.2.1 f.2.1).toNat (x.2.2.2.1.getD (Q7 x.2.2.2.1 f.2.1).toNat Zj),x.2.2.2.2)=x;rw[Qxc]
  have k:=Q2e (x:=x) (id:=f.2.1) (K:=K) E.inv b (by omega) j E.idx;simp_all
 ·have o:Xl K (Qhd (Qul (atV x f.2.1) d)):=⟨l,b.rcv⟩
  have k:=Q2e (x:=x) (id:=f.2.1) (K:=K) E.inv o (by omega) j E.idx;exact Eq.trans (congrArg (λm:Option (Unit×Zc×Unit)=>Option.bind m λg=>some ((g.2.1,(0:Int),()),())) k) rfl
set_option maxHeartbeats 2000000 in
theorem Xk5{K:Nat}{c:Zc}{f:Zf}(h:Z4 K c)(hf:FOK f)(h25:25<=K)(hK:K<=390000):Ztl c f=some (pre c f (f.1==5) (Qpv c.1 f.2.1) (Qur f)):=by
 unfold FOK at hf;unfold Ztl pre;simp only[Zv1 h,Z0k h,Z4j hf,Zkg h,bO,bO2,X4,Obs,Xdc,Qxi];cases hc:Zbx c
 ·rfl
 cases hk:Xz f
 ·rfl
 cases hg:f.1==5
 ·rfl
 simp only[Ont,Bool.or_self,Ocf,Bool.and_self,Oct];cases Qpv c.1 f.2.1
 ·rfl
 simp only[Ont,Ocf,Oct];obtain⟨b,n,o,p⟩:=okF hk;rw[Qma h hc h25 (by omega),Obs,bne];cases h0:(Zg8 c f.2.1).1==0
 ·rfl
 have E:EnF K (Zg8 c f.2.1).2 f.2.1:=by
  have e:=Zzz h hc h25 (by omega) b (by simpa using h0);exact⟨Zz0 h hc h25 (by omega) b,e.1,e.2.1⟩
 simp only[Ont,Ocf,Oct];generalize (Zg8 c f.2.1).2=x at E⊢;obtain⟨g,i,q⟩:=E.mem (by omega);have a:=E.inv.str.all _ g;have F:=E.con.st E.inv (by omega) g;have r:=E.inv.str.len;have s:=E.idx;rw[Z39 (by omega),Z65 (by omega),Obs];simp only;rw[Zb];obtain⟨d,v,e,j⟩:=Zyp a.snd f.2.2.2.2.2.1;have k:Quq x f=(d,v,()):=by unfold Quq;rw[e];rfl
 unfold Qur;rw[Quh a.snd (by omega),e,Obs,k];cases v
 ·have hx:=Xbi (K:=K) (x:=x) E.inv.str (by omega) E.idx;unfold Qzz at hx;rw[Z39 (by omega),Z65 (by omega)]at hx;simp only[Ocf];exact hx
 ·have m:Xl K (Qhd (Qul (atV x f.2.1) d)):=⟨j,a.rcv⟩
  refine Eq.trans (show _=(λl:List Zg=>Qzz (Qlz x (l.set (Q7 x.2.2.2.1 f.2.1).toNat (Qhd (l.getD (Q7 x.2.2.2.1 f.2.1).toNat Zj)))) f.2.1) (x.2.2.2.1.set (Q7 x.2.2.2.1 f.2.1).toNat (Qul (atV x f.2.1) d))from rfl) ?_;simp only[Z71 i,List.set_set];refine Xbi (K:=K) (x:=Z3x x f.2.1 (Qhd (Qul (atV x f.2.1) d))) (E.inv.str.set m _) (by omega) ?_;show 0<=Q7 (x.2.2.2.1.set (Q7 x.2.2.2.1 f.2.1).toNat (Qhd (Qul (atV x f.2.1) d))) f.2.1;rw[show Q7 (x.2.2.2.1.set (Q7 x.2.2.2.1 f.2.1).toNat (Qhd (Qul (atV x f.2.1) d))) f.2.1=Q7 x.2.2.2.1 f.2.1 from Qfa _ rfl];exact E.idx
abbrev Qpq(s:Zg)(c:Xy):Zg:=(s.1,s.2.1,c,s.2.2.2)
noncomputable def mlX(f:Zf)(x:Zc):Zc×Int×Unit:=(Z3x x f.2.1 (Qpq (atV x f.2.1) (rlV (atV x f.2.1).2.2.1 f.2.2.2.2.2.2.1)),0,())
def Xk9(c:Zc)(n:Int):Zc:=(c.1,c.2.1,c.2.2.1,c.2.2.2.1,rlV c.2.2.2.2.1 n,c.2.2.2.2.2)
def Qx6(c:Zc)(u:Bool)(n:Int):Zc:=bif u then(c.1,c.2.1,c.2.2.1,c.2.2.2.1,c.2.2.2.2.1,c.2.2.2.2.2.1,c.2.2.2.2.2.2.1,rcV c.2.2.2.2.2.2.2.1 n,c.2.2.2.2.2.2.2.2)else(c.1,c.2.1,c.2.2.1,c.2.2.2.1,c.2.2.2.2.1,c.2.2.2.2.2.1,rcV c.2.2.2.2.2.2.1 n,c.2.2.2.2.2.2.2)
noncomputable def Qqi(c:Zc)(f:Zf):Zc×Int×Unit:=bif f.1==17 then pre c f true (Qpv c.1 f.2.1) (mlX f)else bif f.1==21 then pre c f true (Z9c c.1 f.2.1) (λx=>(x,0,()))else bif Zbx c&&Xz f then bif f.1==16 then(Xk9 c f.2.2.2.2.2.2.1,0,())else bif f.1==18 then(Qx6 c f.2.2.2.2.2.2.2.2.1 f.2.2.2.2.2.2.1,0,())else bif(f.1==20)||(f.1==22)then(c,0,())else(c,7,()) else(c,7,())
theorem Q63{f:Zf}(h:Xz f=true):f.1=4\/f.1=5\/f.1=8\/f.1=17\/f.1=21\/f.1=18\/f.1=22\/f.1=16\/f.1=20:=by
 unfold Xz Yq at h
 grind
theorem Xks{K:Nat}{c:Zc}{f:Zf}(h:Z4 K c)(hf:FOK f)(h25:25<=K)(hK:K<=390000):Zcp c f=some (Qqi c f):=by
 unfold FOK at hf;unfold Zcp Zdy Wa Wb Zme Zcy Zi6 Qqi pre;simp only[Jg h (show K<=1000000 by omega),Z0k h (show K<=1000000 by omega),Z0x hf,bO,bO2,Obs,Qxi,Qph,Xfc,Xbc];cases hc:Zbx c
 ·simp_all
 cases hk:Xz f
 ·simp_all
 obtain⟨d,q,r,s⟩:=okF hk;rw[Z9w h hc h25 (by omega) d];have E:(Zg8 c f.2.1).1=0->EnF K (Zg8 c f.2.1).2 f.2.1:=λb=>by
  have e:=Zzz h hc h25 (by omega) d b;exact⟨Zz0 h hc h25 (by omega) d,e.1,e.2.1⟩
 rcases Q63 hk with k|k|k|k|k|k|k|k|k<;>rw[k]<;>simp only[Int.reduceBEq,Oct,Ocf,Ont,Bool.or_self,Bool.and_self,Bool.or_true,Bool.or_false,Obs,bne]
 ·cases Qpv c.1 f.2.1
  ·rfl
  cases b:(Zg8 c f.2.1).1==0
  ·rfl
  have E:=E (by simpa using b);simp only[Ont,Ocf,Oct];generalize (Zg8 c f.2.1).2=x at E⊢;obtain⟨l,t,n⟩:=E.mem (by omega);have i:=E.inv.str.all _ l;rw[Zu7 E.inv (by omega),if_pos E.idx,Obs];have o:Xl K (Qpq (atV x f.2.1) (rlV (atV x f.2.1).2.2.1 f.2.2.2.2.2.2.1)):=⟨i.snd,i.rcv⟩
  have j:=Qua E.inv.str o;have p:Z3v x.2.2.2.1 (Qpq (atV x f.2.1) (rlV (atV x f.2.1).2.2.1 f.2.2.2.2.2.2.1))=x.2.2.2.1.set (Q7 x.2.2.2.1 f.2.1).toNat (Qpq (atV x f.2.1) (rlV (atV x f.2.1).2.2.1 f.2.2.2.2.2.2.1)):=by
   unfold Z3v;rw[show(Qpq (atV x f.2.1) (rlV (atV x f.2.1).2.2.1 f.2.2.2.2.2.2.1)).1=f.2.1 from n,if_pos E.idx]
  rw[p]at j;exact Eq.trans (congrArg (λm:Option (List Zg×Unit)=>Option.bind (Option.bind m λg=>(some ((x.1,x.2.1,x.2.2.1,g.1,x.2.2.2.2),(0:Int),()):Option (Zc×Int×Unit))) λa=>some (a.1,a.2.1,())) j) rfl
 ·cases Z9c c.1 f.2.1
  ·rfl
  cases b:(Zg8 c f.2.1).1==0
  ·rfl
  ·rfl
 ·unfold Qx6;cases f.2.2.2.2.2.2.2.2.1<;>rfl
 ·rfl
theorem Xkq{K:Nat}{c:Zc}{f:Zf}(h:Z4 K c)(hf:FOK f)(h25:25<=K)(hK:K<=390000):Zry c f=some (Qqi c f):=by
 unfold FOK at hf;have d:∀x u,Ze4 x u=some (u,x,()):=λx u=>by grind[Ze4]
 unfold Zry Qqi pre;simp only[Zkg h (show K<=1000000 by omega),Zv1 h (show K<=1000000 by omega),Z0k h (show K<=1000000 by omega),Z4j hf,bO,bO2,Obs,Xdc,Q72,Qxi,Qph,Xfb,Xbb,d];cases hc:Zbx c
 ·cases f.1==17<;>cases f.1==21<;>rfl
 cases hk:Xz f
 ·cases f.1==17<;>cases f.1==21<;>rfl
 obtain⟨b,g,i,j⟩:=okF hk;simp only[Qma h hc h25 (show K<=400000 by omega)];have E:(Zg8 c f.2.1).1=0->EnF K (Zg8 c f.2.1).2 f.2.1:=λa=>by
  have e:=Zzz h hc h25 (by omega) b a;exact⟨Zz0 h hc h25 (by omega) b,e.1,e.2.1⟩
 rcases Q63 hk with k|k|k|k|k|k|k|k|k<;>rw[k]<;>simp only[Int.reduceBEq,Oct,Ocf,Ont,Bool.not_false,Bool.or_self,Bool.and_self,Bool.or_true,Bool.or_false,Obs,bne,Bool.and_false,Bool.and_true]
 ·cases Qpv c.1 f.2.1
  ·rfl
  cases a:(Zg8 c f.2.1).1==0
  ·rfl
  have E:=E (by simpa using a);simp only[Ont,Ocf,Oct];generalize (Zg8 c f.2.1).2=x at E⊢;obtain⟨l,m,n⟩:=E.mem (by omega);have o:=E.inv.str.len;have p:=E.idx;rw[Z39 (by omega),Z65 (by omega),Obs];simp only;rw[Zb];rfl
 ·cases Z9c c.1 f.2.1
  ·rfl
  cases a:(Zg8 c f.2.1).1==0
  ·rfl
  ·rfl
 ·unfold Qx6;cases f.2.2.2.2.2.2.2.2.1<;>rfl
 ·rfl
noncomputable def Z1y(c:Zc)(f:Zf):Zc×Int×Unit:=bif f.1==8 then pre c f (f.1==8) (Z9c c.1 f.2.1) (Qbr c f)else bif f.1==4 then pre c f (f.1==4) (Z9c c.1 f.2.1) (Qqu c f)else bif f.1==5 then pre c f (f.1==5) (Qpv c.1 f.2.1) (Qur f)else Qqi c f
theorem Xed{K:Nat}{c:Zc}{f:Zf}(h:Z4 K c)(hf:FOK f)(h25:25<=K)(hK:K<=390000:=by omega):Zar c f=some (Z1y c f,()):=by
 unfold Zar V9 Z1y;rw[Jg h,Obs,Xhe h hf h25 hK,Xk1 h hf h25 hK,Xk7 h hf h25 hK,Xks h hf h25 hK];cases f.1==8<;>cases f.1==4<;>cases f.1==5<;>rfl
theorem Xkg{K:Nat}{c:Zc}{f:Zf}(h:Z4 K c)(hf:FOK f)(h25:25<=K)(hK:K<=390000):Zrx c f=some (Z1y c f):=by
 unfold Zrx Z1y;rw[Xhc h hf h25 hK,Xkz h hf h25 hK,Xk5 h hf h25 hK,Xkq h hf h25 hK];cases f.1==8<;>cases f.1==4<;>cases f.1==5<;>rfl
theorem LF.mono{K:Nat}{S S' H H':Int}{l:List Zg}(L:LF K S H l)(h1:S<=S')(h2:H<=H'):LF K S' H' l:=⟨L.inv,L.all,L.srt,Int.le_trans L.snt h1,Int.le_trans L.hgh h2⟩
theorem LF.set{K K':Nat}{S H d:Int}{l:List Zg}(L:LF K S H l)(hk:K<=K'){i:Nat}(hi:i<l.length){s:Zg}(hs:Xl K' s)(F:StF s)(e:s.1=(l.getD i Zj).1)(h1:Z6h s<=Z6h (l.getD i Zj))(h2:Z5q s<=Z5q (l.getD i Zj)+d):LF K' S (H+d) (l.set i s):=by
 refine⟨(L.inv.mono hk).set hs i,λx hx=>?_,?_,?_,?_⟩
 ·rcases List.mem_or_eq_of_mem_set hx with h|h
  ·exact L.all x h
  simp_all
 ·have e:=Zz8 (g:=λs:Zg=>s.1) (s:=s) (l:=l) (i:=i) (d:=Zj) e;exact List.pairwise_map.1 (by rw[e];exact List.pairwise_map.2 L.srt)
 ·rw[Z9l hi];have:=L.snt;omega
 ·rw[Z9l hi];have:=L.hgh;omega
theorem EnF.set{K K':Nat}{x:Zc}{id:Int}(h:EnF K x id)(hk:K<=K')(hK:K'<=900000){w:Qg}{s:Zg}{d:Int}(hs:Xl K' s)(F:StF s)(e:s.1=id)(h1:Z6h s<=Z6h (atV x id))(h2:Z5q s<=Z5q (atV x id)+d)(W:Qp8 w)(hw:w.2.2.2.1=x.2.2.2.2.2.1.2.2.2.1+d):EnF K' (Z3x (Zyq x w) id s) id:=by
 obtain⟨c,b,f⟩:=h.mem (by omega);have L:=(h.con.LF h.inv (by omega)).set (d:=d) hk b hs F (by simp_all) h1 h2;have a:Q7 (x.2.2.2.1.set (Q7 x.2.2.2.1 id).toNat s) id=Q7 x.2.2.2.1 id:=Qfa id (by simp_all);have g:=(Qqy.1 h.con.sts).len;exact⟨⟨L.inv,h.inv.pk.mono hk⟩,Qkr h.con (by omega) rfl rfl (L.mono (Int.le_refl _) (by simp only;omega)) (by simp_all) (Qnm.1 h.con.tot) W h.con.ob h.con.ou (Qca.1 h.con.ab) (Qca.1 h.con.au) rfl,by show 0<=Q7 (x.2.2.2.1.set (Q7 x.2.2.2.1 id).toNat s) id;rw[a];exact h.idx⟩
theorem Q0f{a:Qt}(h:Q2x a):Q2x (coV a):=by
 unfold coV;cases hc:Z7j a&& !(a.2.2.2.1==a.2.2.1)
 ·exact h
 ·simp only[Oba,Bool.not_eq_true',beq_eq_false_iff_ne]at hc;have:=h.clo;have:=h.lc
  exact⟨h.most,h.lim,h.seen,by grind,by grind⟩
theorem EnF.settled{K:Nat}{x:Zc}{id:Int}(h:EnF K x id)(hK:K<=900000):Zsp (fin x id):=by
 unfold fin;cases ovB x.1 (atV x id)
 ·exact h.con
 rw[Oct];obtain⟨a,f,i⟩:=h.mem (by omega);have b:=h.inv.str.all _ a;have F:=h.con.st h.inv (by omega) a;have g:StF (Qhv (atV x id)):=⟨F.id,F.snd,F.cre,F.rcv,F.win,F.pr,F.code,F.can,F.su,F.hs,F.tr,F.ts,F.sc,F.cs,F.cr⟩
 have L:=(h.con.LF h.inv (by omega)).set (d:=0) (Nat.le_refl K) f (s:=Qhv (atV x id)) ⟨b.snd,b.rcv⟩ g rfl (Int.le_refl _) (Int.le_of_eq (Int.add_zero _).symm);have L:=L.mono (Int.le_refl _) (Int.le_of_eq (Int.add_zero _));have j:=(Qqy.1 h.con.sts).len;have c:=Qca.1 h.con.ab;have e:=Qca.1 h.con.au;unfold Qly Zaz;cases Z5c id
 ·exact Qkr h.con (by omega) rfl rfl L (by simp_all) (Qnm.1 h.con.tot) (Z1u.1 h.con.inf) h.con.ob h.con.ou (Q0f c) e rfl
 ·exact Qkr h.con (by omega) rfl rfl L (by simp_all) (Qnm.1 h.con.tot) (Z1u.1 h.con.inf) h.con.ob h.con.ou c (Q0f e) rfl
theorem Qhj{w:Qg}(W:Qp8 w){n:Int}(h0:0<=n)(h1:n<=lft w):Qp8 (snV w n)/\(snV w n).2.2.2.1=w.2.2.2.1+n:=by
 have a:Z6g w n=true:=by simp_all[Z6g,Z1u]
 have e:snV w n=(w.1,w.2.1,w.2.2.1,w.2.2.2.1+n,w.2.2.2.2):=by simp_all[snV]
 rw[e];unfold lft at h1;have:=W.seen;have:=W.read
 exact⟨⟨W.most,W.size,W.lim,by simp only;omega,by simp only;omega,W.lr,W.since⟩,rfl⟩
theorem Qsp{w:Qg}(W:Qp8 w)(n:Int):Qp8 (rdV w n)/\(rdV w n).2.2.2.1=w.2.2.2.1:=by
 unfold rdV;cases h:Qbi w n
 ·simp_all
 ·unfold Qbi at h;simp only[Oba,decide_eq_true_eq]at h;have:=W.seen;have:=W.read;have:=W.lr
  exact⟨⟨W.most,W.size,W.lim,W.seen,by grind,by grind,W.since⟩,rfl⟩
theorem Xht{v:Bool}{s:Zg}(k:Zmh v s)(F:StF s)(h:Z9c v s.1=true):s.2.2.2.2.2.2.2.1=true:=by
 rcases k with⟨a,b⟩|⟨-,b⟩
 ·rcases F.can with c|c
  all_goals simp_all
 simp_all[Qph]
theorem Xkm{v:Bool}{s:Zg}(k:Zmh v s)(F:StF s)(h:Qpv v s.1=true):s.2.2.2.2.2.2.1=true:=by
 rcases k with⟨a,b⟩|⟨b,-⟩
 ·rcases F.can with c|c
  all_goals simp_all
 simp_all[Qxi]
theorem Q03{x:Zc}{s:Zg}{n:Int}:flB x s n=true↔n<=lft s.2.2.2.2.1/\n<=lft x.2.2.2.2.2.1:=by
 simp_all[flB]
theorem Q5z{K:Nat}{v:Bool}{c x:Zc}{f:Zf}(E:EnF K x f.2.1)(k:KC v x)(hK:K<=390000)(hk:Xz f=true)(h8:f.1=8)(hr:Z9c v f.2.1=true)(h0:(Qbr c f x).2.1=0):Zsp (Qbr c f x).1:=by
 obtain⟨C,m,h,D⟩:=okF hk;have h:=h h8;obtain⟨i,G,j⟩:=E.mem (by omega);have b:=E.inv.str.all _ i;have F:=E.con.st E.inv (by omega) i;have o:IntKind.i64.wrap (f.2.2.1+(f.2.2.2.1.length:Int))=f.2.2.1+(f.2.2.2.1.length:Int):=Zs;obtain⟨r,w,e,a⟩:=Z26 b.rcv f.2.2.1 f.2.2.2.1 f.2.2.2.2.1;have R:=(Qd9 b.rcv).1 F.rcv;have g:=Xbd b.rcv f.2.2.2.2.1 (by omega) R m.1 h _ e;have l:=Qy9 (atV x f.2.1).2.2.2.1 (f.2.2.1+(f.2.2.2.1.length:Int));unfold Qbr at h0⊢;rw[o,e]at h0⊢;simp only[Qp6]at h0⊢;generalize nbV (atV x f.2.1).2.2.2.1 (f.2.2.1+(f.2.2.2.1.length:Int))=n at*
 cases hf:flB x (atV x f.2.1) n
 ·simp_all
 rw[hf]at h0;cases hw0:w==0
 ·simp_all
 have g:=g (by simpa using hw0);obtain⟨p,q⟩:=Q03.1 hf;obtain⟨s,t⟩:=Qhj F.win l p;obtain⟨u,y⟩:=Qhj (Z1u.1 E.con.inf) l q;have z:=Xht (k.str _ i) F (by rw[j];exact hr);have A:StF (Zxi (Zzi (atV x f.2.1) (snV (atV x f.2.1).2.2.2.2.1 n)) r):=⟨F.id,F.snd,F.cre,(Qd9 (K:=K+f.2.2.2.1.length+1) a).2 g.1,s,F.pr,F.code,F.can,F.su,by have H:r.2.2.2.1<=(atV x f.2.1).2.2.2.1.2.2.2.1+n:=g.2;have:=F.hs;simp only;rw[t];omega,F.tr,F.ts,F.sc,F.cs,.inl z⟩
 have B:Xl (K+f.2.2.2.1.length+1) (Zxi (Zzi (atV x f.2.1) (snV (atV x f.2.1).2.2.2.2.1 n)) r):=⟨b.snd.mono (by omega),a⟩
 exact(E.set (K':=K+f.2.2.2.1.length+1) (by omega) (by omega) (d:=n) B A j (Int.le_refl _) g.2 u y).settled (by omega)
theorem Xbg{K:Nat}{v:Bool}{c x:Zc}{f:Zf}(E:EnF K x f.2.1)(k:KC v x)(hK:K<=390000)(hr:Z9c v f.2.1=true)(h0:(Qqu c f x).2.1=0):Zsp (Qqu c f x).1:=by
 obtain⟨l,P,o⟩:=E.mem (by omega);have i:=E.inv.str.all _ l;have F:=E.con.st E.inv (by omega) l;obtain⟨r,w,e,b⟩:=Z0d i.rcv (by omega) f.2.2.2.2.2.1 f.2.2.2.2.2.2.2.1;have R:=(Qd9 i.rcv).1 F.rcv;have g:=Q7x i.rcv (by omega) R f.2.2.2.2.2.1 f.2.2.2.2.2.2.2.1 _ e;have p:0<=Z10 x f:=Qy9 _ _;have y:Qg4 x f=(r,w,()):=by unfold Qg4;rw[e];rfl
 unfold Qqu at h0⊢;rw[y]at h0⊢;rw[show nbV (atV x f.2.1).2.2.2.1 f.2.2.2.2.2.2.2.1=Z10 x f from rfl]at g;simp only at h0⊢;generalize Xfh x f=m at*
 generalize Z10 x f=n at*
 cases hf:flB x (atV x f.2.1) n
 ·simp_all
 rw[hf]at h0;cases hw0:w==0
 ·simp_all
 have g:=g (by simpa using hw0);obtain⟨z,A⟩:=Q03.1 hf;obtain⟨q,s⟩:=Qhj F.win p z;obtain⟨t,u⟩:=Qhj (Z1u.1 E.con.inf) p A;obtain⟨B,C⟩:=Qsp q m;obtain⟨D,G⟩:=Qsp t m;have H:=Xht (k.str _ l) F (by rw[o];exact hr);have h:∀j a,Qp8 j->Qp8 a->j.2.2.2.1=x.2.2.2.2.2.1.2.2.2.1+n->a.2.2.2.1=(atV x f.2.1).2.2.2.2.1.2.2.2.1+n->Zsp (fin (Z3x (Zyq x j) f.2.1 (Zxi (Zzi (atV x f.2.1) a) r)) f.2.1):=λj a I J L M=>by
  have N:StF (Zxi (Zzi (atV x f.2.1) a) r):=⟨F.id,F.snd,F.cre,(Qd9 b).2 g.1,J,F.pr,F.code,F.can,F.su,by have Q:r.2.2.2.1<=(atV x f.2.1).2.2.2.1.2.2.2.1+n:=g.2;have:=F.hs;simp only;rw[M];omega,F.tr,F.ts,F.sc,F.cs,.inl H⟩
  have O:Xl K (Zxi (Zzi (atV x f.2.1) a) r):=⟨i.snd,b⟩
  exact(E.set (Nat.le_refl K) (by omega) (d:=n) O N o (Int.le_refl _) g.2 I L).settled (by omega)
 simp only[Oct];cases ((r.1==4)&&((atV x f.2.1).2.2.2.1.1 !=4))
 ·exact h _ _ t q u s
 ·exact h _ _ D B (by rw[G];exact u) (by rw[C];exact s)
theorem Q77{r:Xu}(hl:r.2.2.2.1.length<=1048576)(h:Zuy r=true):Vl r.1=some (true,()):=by
 have e:=(Zw8 r hl).1;rw[h]at e;unfold Zba at e;obtain⟨p,a⟩:=Qpa r.1
 grind
theorem Xil{K:Int}{s:Zp}(h:Zbd K s)(hK:K<=1000000)(code:Int):Pc (V6 s code) λr=>r.2.1=true->Q43 r.1/\r.1.1=4/\r.1.2.2.2.2.2.2.2.1=s.2.2.2.2.2.2.2.1:=by
 unfold V6 Zmw;rw[Qz4 h hK,Obs,Zw9 h hK];simp only[X4,Kt,Kz,bO,bO2];refine Pc.ite (λ_=>Pc.pure λh=>by cases h) λa=>Pc.guard (Pc.pure λ_=>?_);simp only[Bool.or_eq_false_iff,Bool.not_eq_false',decide_eq_false_iff_not]at a;obtain⟨⟨c,g⟩,d⟩:=a;have F:=(Qxh h hK).1 c;have e:=h.cells;have b:=F.sent;have i:=h.eK;have f:=Xdb (m:=s.2.2.2.2.2.2.2.1) (Q77 (by omega) F.ring) b.1 (by omega);refine⟨{ring:=f.1,pr:=rfl,fr:=rfl,ar:=rfl,sent:=⟨b.1,Int.le_refl _⟩,code:=Km.1 d,fin:=⟨Int.le_refl _,by simp only;omega⟩,rst:=λ_=>⟨rfl,rfl,rfl,rfl,rfl,rfl,rfl⟩,no:=λh=>absurd (.inl rfl) h},rfl,rfl⟩
theorem Xbm{K:Nat}{v:Bool}{x:Zc}{f:Zf}(E:EnF K x f.2.1)(k:KC v x)(hK:K<=390000)(hr:Qpv v f.2.1=true):Zsp (Qur f x).1:=by
 obtain⟨a,r,c⟩:=E.mem (by omega);have b:=E.inv.str.all _ a;have F:=E.con.st E.inv (by omega) a;obtain⟨d,w,e,h⟩:=Zyp b.snd f.2.2.2.2.2.1;have g:=Xil b.snd (by omega) f.2.2.2.2.2.1 _ e;have i:Quq x f=(d,w,()):=by unfold Quq;rw[e];rfl
 unfold Qur;rw[i];cases w
 ·exact E.settled (by omega)
 obtain⟨j,l,m⟩:=g rfl;have n:=Xkm (k.str _ a) F (by rw[c];exact hr);have o:StF (Qhd (Qul (atV x f.2.1) d)):=⟨F.id,j,F.cre,F.rcv,F.win,F.pr,F.code,F.can,by have:=F.su;simp_all,F.hs,λ_=>l,F.ts,F.sc,.inl n,F.cr⟩
 have p:Xl K (Qhd (Qul (atV x f.2.1) d)):=⟨h,b.rcv⟩
 have q:=E.set (Nat.le_refl K) (by omega) (w:=x.2.2.2.2.2.1) (d:=0) p o c (Int.le_of_eq m) (Int.le_of_eq (Int.add_zero _).symm) (Z1u.1 E.con.inf) (Int.add_zero _).symm;exact q.settled (by omega)
theorem Qnn{c:Xy}(h:Q40 c)(n:Int):Q40 (rlV c n)/\(rlV c n).2.1=c.2.1:=by
 unfold rlV;cases hc:(Qaf c&&decide (n>c.1))&&decide (n<=4611686018427387903)
 ·simp_all
 ·simp only[Oba,decide_eq_true_eq]at hc;have a:=h.use0;have d:=h.use;have b:=h.told0;have e:=h.told
  exact⟨⟨hc.2,a,by grind,by simp_all,by grind,b,by grind⟩,rfl⟩
theorem Qnh{c:Ze2}(h:Qcj c=true)(n:Int):Qcj (rcV c n)=true:=by
 unfold rcV;cases hc:(Qcj c&&decide (n>c.1))&&decide (n<=1152921504606846976)
 ·exact h
 ·simp only[Oba,decide_eq_true_eq]at hc;have a:=Xg8.1 h;exact Xg8.2 (by grind)
theorem Xex{K:Nat}{x:Zc}{f:Zf}(E:EnF K x f.2.1)(hK:K<=390000):Zsp (mlX f x).1:=by
 obtain⟨a,i,c⟩:=E.mem (by omega);have b:=E.inv.str.all _ a;have F:=E.con.st E.inv (by omega) a;obtain⟨e,j⟩:=Qnn F.cre f.2.2.2.2.2.2.1;have g:StF (Qpq (atV x f.2.1) (rlV (atV x f.2.1).2.2.1 f.2.2.2.2.2.2.1)):=⟨F.id,F.snd,e,F.rcv,F.win,F.pr,F.code,F.can,by have:=F.su;simp_all,F.hs,F.tr,F.ts,F.sc,F.cs,F.cr⟩
 have h:Xl K (Qpq (atV x f.2.1) (rlV (atV x f.2.1).2.2.1 f.2.2.2.2.2.2.1)):=⟨b.snd,b.rcv⟩
 exact(E.set (Nat.le_refl K) (by omega) (w:=x.2.2.2.2.2.1) (d:=0) h g c (Int.le_refl _) (Int.le_of_eq (Int.add_zero _).symm) (Z1u.1 E.con.inf) (Int.add_zero _).symm).con
def plT:Ty->Bool|.unit=>true|.int _=>true|.bool=>true|.str=>true|.pair a b=>plT a&&plT b|_=>false
theorem Zbh:∀{T:Ty},plT T=true-> ∀x:T.den,eqV T x x=true:=λ{T}=>by
 induction T with
 |int k=>simp_all[eqV]
 |bool=>simp_all[eqV]
 |str=>simp_all[eqV]
 |unit=>intro _ x;rfl
 |pair a b c d=>
  simp_all[plT,eqV]
 |_=>intro h;cases h
theorem Xd3(r:Xu)(hl:r.2.2.2.1.length<=1048576):Ztv r r=some (true,()):=by
 have b:∀(N i:Nat),r.2.2.2.1.length-i<N->i<=r.2.2.2.1.length->Zjq N r r (i:Int)=some (true,()):=by
  intro N
  induction N with
  |zero=>intro i h;omega
  |succ N c=>
   intro i d e;unfold Zjq;by_cases a:i<r.2.2.2.1.length
   ·rw[Zm (Zl),Zb,Zb,bne_self_eq_false,Ocf,Zr a]
    grind
   grind
 unfold Ztv;simp only[bne_self_eq_false,Bool.or_self,Ocf]
 grind[Znw]
theorem Qnx(l:List Zi)(hl:l.length<=1048576):Zi0 l l=some (true,()):=by
 have b:∀(N i:Nat),l.length-i<N->i<=l.length->Zhx N l l (i:Int)=some (true,()):=by
  intro N
  induction N with
  |zero=>intro i h;omega
  |succ N c=>
   intro i d e;unfold Zhx;by_cases a:i<l.length
   ·rw[Zm (Zl),Zb,Zb,Zbh rfl,Ont,Ocf,Zr a]
    grind
   grind
 unfold Zi0;simp only[bne_self_eq_false,Ocf]
 grind[Zl8]
theorem Xhl(b:Zv)(hl:b.2.1.length<=1048576):Zqh b b=some (true,()):=by
 have c:∀(N i:Nat),b.2.1.length-i<N->i<=b.2.1.length->Zgc N b b (i:Int)=some (true,()):=by
  intro N
  induction N with
  |zero=>intro i h;omega
  |succ N d=>
   intro i e f;unfold Zgc;by_cases a:i<b.2.1.length
   ·rw[Zm (Zl),Zb,Zb,Zbh rfl,Ont,Ocf,Zr a]
    grind
   grind
 unfold Zqh;simp only[bne_self_eq_false,Bool.or_self,Ocf]
 grind[Zkd]
theorem Q58{K:Nat}{s:Zg}(h:Xl K s)(hK:K<=1000000):Zqj s s=some (true,()):=by
 have g:=h.snd;have a:=g.e0;have b:=g.eK;have e:=g.cells
 have c:Zqi s.2.1 s.2.1=some (true,()):=by
  unfold Zqi;simp only[beq_self_eq_true,Oct,Xd3 _ (show s.2.1.2.1.2.2.2.1.length<=1048576 by omega),Bool.and_self,Obs,Qnx _ (Nat.le_trans (Q4 g.pend a b (show(K:Int)<=1000000 by omega)) (by omega)),Qnx _ (Nat.le_trans (Q4 g.flight a b (show(K:Int)<=1000000 by omega)) (by omega)),Qnx _ (Nat.le_trans (Q4 g.acked a b (show(K:Int)<=1000000 by omega)) (by omega))]
 have d:Zmu s.2.2.2.1 s.2.2.2.1=some (true,()):=by
  unfold Zmu;simp only[beq_self_eq_true,Oct,Xhl _ (show s.2.2.2.1.2.1.2.1.length<=1048576 by have:=h.rcv.len;omega),Bool.and_self,Obs]
 unfold Zqj;simp only[beq_self_eq_true,Oct,c,d,Zbh (T:=Qq) rfl,Zbh (T:=Xr) rfl,Zbh (T:=Kf) rfl,Bool.and_self,Obs]
theorem Xhm{K:Nat}{l:List Zg}(h:Zg7 K l)(hK:K<=1000000):Zsf l l=some (true,()):=by
 have b:=h.len;have c:∀(N i:Nat),l.length-i<N->i<=l.length->Zhy N l l (i:Int)=some (true,()):=by
  intro N
  induction N with
  |zero=>intro i h;omega
  |succ N e=>
   intro i f g;unfold Zhy;by_cases a:i<l.length
   ·rw[Zm (Zl),Zb,Zb,Q58 (h.all _ (Z5 (d:=Zj) (show(i:Int).toNat<l.length by omega))) hK,Obs,Ont,Ocf,Zr a]
    grind
   grind
 unfold Zsf;simp only[bne_self_eq_false,Ocf]
 grind[Zl9]
theorem Xcm{l:List Qb}(hl:l.length<=1000000)(K1:(List Qb×List Qb×Int×Unit)->Option (Bool×Unit))(i:Nat)(hi:i<l.length)(hf:(l.getD i Q6).2.1.length<=1000):∀(N k:Nat),(l.getD i Q6).2.1.length-k<N->k<=(l.getD i Q6).2.1.length->Zdo K1 N l l (i:Int) (k:Int)=K1 (l,l,((i+1:Nat):Int),())
 |0,_,h,_=>by omega
 |N+1,k,c,hk=>by
  unfold Zdo;have a:(i:Int).toNat=i:=rfl;rw[Zb,a];by_cases b:k<(l.getD i Q6).2.1.length
  ·rw[Zm (Zl),Zb,Zb,Zb,Zb,Zbh rfl,Ont,Ocf,Zr b];exact Xcm hl K1 i hi hf N (k+1) (by omega) (by omega)
  ·rw[Zo (Zn),Zr hi]
theorem Xke{K:Nat}{l:List Qb}(h:Qk4 K l)(hK:K<=1000000):Zmz l l=some (true,()):=by
 have e:=h.1;have f:∀(N i:Nat),l.length-i<N->i<=l.length->Zdn N l l (i:Int)=some (true,()):=by
  intro N
  induction N with
  |zero=>intro i h;omega
  |succ N b=>
   intro i g j;unfold Zdn;by_cases a:i<l.length
   ·have c:=(h.2 _ (Z5 (d:=Q6) a)).1;rw[Zm (Zl),Zb,Zb];simp only[bne_self_eq_false];rw[Zb (λ_=>by omega),Zb (λ_=>by omega),Bool.or_self,Ocf];exact Eq.trans (Xcm (by omega) _ i a c (Zc0 l l (i:Int) 0) 0 (by simp_all[Zc0]) (by omega)) (b (i+1) (by omega) (by omega))
   grind
 unfold Zmz;simp only[bne_self_eq_false,Ocf]
 grind[Zia]
theorem Q57{K:Nat}{c:Zc}(h:Z4 K c)(hK:K<=1000000):Zku c c=some (true,()):=by
 unfold Zku;simp only[beq_self_eq_true,Zbh (T:=Qq) rfl,Zbh (T:=Xr) rfl,Zbh (T:=Zmg) rfl,Zbh (T:=Zdr) rfl,Bool.and_self,Oct,Xhm h.str hK,Xke h.pk hK,Obs]
theorem orQ{a b:Int}{n:Nat}(hn:n<=62)(ha:0<=a)(ha':a<(2^n:Nat))(hb:0<=b)(hb':b<(2^n:Nat)):0<=bits .or .i64 a b/\bits .or .i64 a b<(2^n:Nat):=by
 have h:bits .or .i64 a b=IntKind.i64.wrap (((BitVec.ofInt 64 a|||BitVec.ofInt 64 b).toNat:Nat):Int):=rfl;have c:2^n<=2^62:=Nat.pow_le_pow_right (by omega) hn;have e:∀x:Int,0<=x->x<(2^n:Nat)->(BitVec.ofInt 64 x).toNat=x.toNat:=λx d f=>by
  grind
 have g:(BitVec.ofInt 64 a|||BitVec.ofInt 64 b).toNat<2^n:=by
  simp_all[Nat.or_lt_two_pow]
 grind[Zs]
theorem Xgx(b:UInt8):0<=IntKind.i64.wrap (bits .and .u8 (b.toNat:Int) 63)/\IntKind.i64.wrap (bits .and .u8 (b.toNat:Int) 63)<64:=by
 have h:bits .and .u8 (b.toNat:Int) 63=IntKind.u8.wrap (((BitVec.ofInt 8 (b.toNat:Int)&&&BitVec.ofInt 8 63).toNat:Nat):Int):=rfl;have a:(BitVec.ofInt 8 (b.toNat:Int)&&&BitVec.ofInt 8 63).toNat<=63:=by
  simp_all[Nat.and_le_right]
 have c:IntKind.u8.wrap (((BitVec.ofInt 8 (b.toNat:Int)&&&BitVec.ofInt 8 63).toNat:Nat):Int)=(((BitVec.ofInt 8 (b.toNat:Int)&&&BitVec.ofInt 8 63).toNat:Nat):Int):=by
  simp only[IntKind.wrap,IntKind.bits,IntKind.signed,Bool.false_and,Bool.false_eq_true,if_false];omega
 grind[Zs]
def QR(s:List UInt8)(at':Int)(r:Int×Int×Bool×Unit):Prop:=r.2.2.1=true->0<=r.1/\r.1<4611686018427387904/\at'<r.2.1/\r.2.1<=s.length
theorem Q50(s:List UInt8)(hs:s.length<=1000000)(a k:Nat)(hk:k<=8)(h1:1<=k)(ha:a+k<=s.length):∀(N i:Nat)(n:Int),k-i<N->1<=i->i<=k->0<=n->n<(2^ (8*i-2):Nat)->T (Zb4 N s (a:Int) (k:Int) n (i:Int)) (QR s a)
 |0,_,_,h,_,_,_,_=>by omega
 |N+1,i,n,p,q,g,r,t=>by
  unfold Zb4;refine T.ite (λc=>?_) λc=>T.pure λ_=>?_
  ·have c:=Ode c;have e:IntKind.i64.wrap ((a:Int)+i)=((a+i:Nat):Int):=by grind[Zs]
   have j:IntKind.i64.wrap ((i:Int)+1)=((i+1:Nat):Int):=by grind[Zs]
   rw[e,j];refine T.guard (by omega) (T.guard (by omega) ?_);have u:=(s.getD (a+i) 0).toNat_lt;have v:2^ (8*(i+1)-2)=2^ (8*i-2)*256:=by rw[show 8*(i+1)-2=8*i-2+8 by omega,Nat.pow_add]
   have l:2^14<=2^ (8*(i+1)-2):=Nat.pow_le_pow_right (by omega) (by omega);have d:2^ (8*(i+1)-2)<=2^62:=Nat.pow_le_pow_right (by omega) (by omega);have m:IntKind.i64.wrap (n*2^ (min (8:Int).toNat IntKind.i64.bits))=n*256:=by
    rw[show(min (8:Int).toNat IntKind.i64.bits)=8 from rfl,show(2:Int)^8=256 from rfl]
    grind[Zs]
   have f:IntKind.i64.wrap ((s.getD ((a+i:Nat):Int).toNat 0).toNat:Int)=((s.getD (a+i) 0).toNat:Int):=by
    rw[show((a+i:Nat):Int).toNat=a+i from rfl]
    grind[Zs]
   rw[m,f];have o:=orQ (a:=n*256) (b:=((s.getD (a+i) 0).toNat:Int)) (n:=8*(i+1)-2) (by omega) (by omega) (by omega) (by omega) (by omega);exact Q50 s hs a k hk h1 ha N (i+1) _ (by omega) (by omega) (by omega) o.1 o.2
  ·have c:=of_decide_eq_false c;have d:2^ (8*i-2)<=2^62:=Nat.pow_le_pow_right (by omega) (by omega)
   grind[Zs]
theorem Q3d(s:List UInt8)(hs:s.length<=1000000)(a:Int)(ha: -1000000<=a/\a<=1000000:=by omega):T (Xp s a) (QR s a):=by
 unfold Xp;refine T.ite (λ_=>T.pure (by unfold QR;simp)) λe=>?_;simp at e;obtain⟨a,rfl⟩:=Int.eq_ofNat_of_zero_le e.1;refine T.guard (by omega) (T.guard (by omega) ?_);have j:=(s.getD a 0).toNat_lt;have g:((2:Int)^ (min (6:Int).toNat IntKind.u8.bits))=64:=rfl;simp only[g,show(a:Int).toNat=a from rfl];have i:((s.getD a 0).toNat:Int).fdiv 64=(((s.getD a 0).toNat/64:Nat):Int):=by
  grind
 rw[i];have f:(s.getD a 0).toNat/64<=3:=by omega
 obtain⟨k,b,c,hk⟩:∃k:Nat,1<=k/\k<=8/\IntKind.i64.wrap (1*2^ (min (((s.getD a 0).toNat/64:Nat):Int).toNat IntKind.i64.bits))=(k:Int):=by
  generalize (s.getD a 0).toNat/64=q at f
  match q,f with
  |0,_=>exact⟨1,by omega,by omega,rfl⟩
  |1,_=>exact⟨2,by omega,by omega,rfl⟩
  |2,_=>exact⟨4,by omega,by omega,rfl⟩
  |3,_=>exact⟨8,by omega,by omega,rfl⟩
  |n+4,h=>omega
 refine T.guard (by omega) ?_;rw[hk];refine T.ite (λ_=>T.pure (by unfold QR;simp)) λd=>T.guard (by omega) ?_;have d:=of_decide_eq_false d;rw[Zs]at d;have m:=Xgx (s.getD a 0);exact Q50 s hs a k c b (by omega) _ 1 _ (by simp[Znt]) (by omega) b m.1 (by simpa using m.2)
def RR(s:List UInt8)(a:Int)(n:Nat)(r:List Int×Int×Bool×Unit):Prop:=0<r.1.length/\r.1.length<=3/\(r.2.2.1=true->a<r.2.1/\r.2.1<=s.length/\r.1.length=n)
theorem Q70(s:List UInt8)(hs:s.length<=1000000)(a:Int)(n:Nat)(h1:1<=n)(h3:n<=3):∀(N i:Nat)(b:Int)(out:List Int),n-i<N->i<=n->out.length=i->(-1000000<=b/\b<=1000000)->(i=0->b=a)->(0<i->a<b/\b<=s.length)->T (Zaf N s b (n:Int) out (i:Int)) (RR s a n)
 |0,_,_,_,h,_,_,_,_,_=>by omega
 |N+1,i,b,out,j,k,l,e,f,g=>by
  unfold Zaf;refine T.ite (λc=>?_) λc=>T.pure ⟨by grind,by simp only;omega,λ_=>?_⟩
  ·have c:=Ode c;refine(Q3d s hs b e).bind λr d=>T.ite (λ_=>T.pure ⟨by simp,by simp,by simp⟩) λhk=>T.guard (by grind[Qd]) ?_;have d:=d (by simpa using hk);rw[Zs (n:=(i:Int)+1)];exact Q70 s hs a n h1 h3 N (i+1) _ _ (by omega) (by omega) (by simp;omega) (by omega) (by omega) (λ_=>by
    omega)
  grind
theorem Zbw(s:List UInt8)(hs:s.length<=1000000)(a:Int)(ha: -1000000<=a/\a<=1000000)(n:Nat)(h1:1<=n)(h3:n<=3):T (Zcz s a (n:Int)) (RR s a n):=by
 unfold Zcz;exact Q70 s hs a n h1 h3 _ 0 a [] (by simp[Zd0]) (by omega) rfl ha (λ_=>rfl) (by omega)
def FR(s:List UInt8)(a:Int)(r:Zf×Int×Bool×Unit):Prop:=r.2.2.1=true->a<r.2.1/\r.2.1<=s.length/\(r.1.2.2.2.1.length:Int)+1<=r.2.1-a
theorem FR.no{s:List UInt8}{a:Int}{f:Zf}{i:Int}:FR s a (f,i,false,()):=by unfold FR;simp
theorem Qwg(s:List UInt8)(hs:s.length<=1000)(a:Int)(ha:0<=a/\a<=s.length)(k:Int):T (Zmf s a k) (FR s a):=by
 have h:∀(t f:Zf)(n z:Int),a<n->0<=z->n+z<=s.length->T (Zfr s t f n z) (FR s a):=λt f n z c d i=>by
  unfold Zfr;rw[Zs (n:=n+z)];have j:(((s.drop n.toNat).take ((n+z).toNat-n.toNat)).length:Int)<=z:=by grind
  exact T.guard (by omega) ((Z2o (by grind[FOK])).bind λr _=>T.if (T.pure FR.no) (T.pure λ_=>by simp only;omega))
 have e:∀(t f:Zf)(n:Int),a<n->n<=s.length->T (Zfq s k t f n) (FR s a):=λt f n c d=>by
  unfold Zfq;refine T.if ((Q3d s (by omega) n).bind λr b=>T.ite (λ_=>T.pure FR.no) λhk=>?_) ?_
  ·simp at hk;have b:=b hk.1
   grind[Zs]
  grind[Zs]
 have g:∀(t f:Zf)(n:Nat),1<=n->n<=2->T (Zi7 s a k t f (n:Int)) (FR s a):=λt f n c d=>by
  unfold Zi7;refine(Zbw s (by omega) a (by omega) n c (by omega)).bind λr b=>T.ite (λ_=>T.pure FR.no) λhk=>T.guard (by have:=b.1;omega) ?_;have q:=b.2.2 (by simpa using hk);refine T.ite (λl=>T.guard ?_ (e _ _ _ q.1 q.2.1)) λ_=>e _ _ _ q.1 q.2.1
  grind
 unfold Zmf;exact T.if (g _ _ 2 (by omega) (by omega)) (g _ _ 1 (by omega) (by omega))
theorem Qhe{k:Int}(h:0<=k){n:Nat}(hn:0<n):0<=Int.tmod k (n:Int)/\Int.tmod k (n:Int)<n:=
 ⟨Int.tmod_nonneg _ h,Int.tmod_lt_of_pos _ (by omega)⟩
theorem Qvj(s:List UInt8)(hs:s.length<=1000)(a:Int)(ha:0<=a/\a<s.length:=by omega):T (Ziz s a) (FR s a):=by
 have e:∀(t f:Zf)(n:Int)(b:Bool),f.2.2.2.1=[]->(b=true->a<n/\n<=s.length)->T (Xx t f n b) (FR s a):=λt f n b c h=>by
  unfold Xx;refine T.bind (Q:=λ_=>True) (T.if T.tt (Z2o (by simp_all[FOK]))) λr _=>T.ite (λ_=>T.pure FR.no) λhk=>T.pure λ_=>?_
  grind
 have m:∀(t f:Zf)(l:List Int)(n:Int)(b q:Bool),f.2.2.2.1=[]->0<l.length->(b=true->a<n/\n<=s.length)->T (Zdu t f l n b q) (FR s a):=λt f l n b q c d h=>by
  unfold Zdu;exact T.if (T.guard (by omega) (T.guard (by omega) (T.guard (Qhe (by omega) d) (e _ _ _ _ c h)))) (T.guard (by omega) (e _ _ _ _ c h))
 have g:∀(t f:Zf)(n:Nat),1<=n->n<=3->f.2.2.2.1=[]->T (Jr s a t f (n:Int)) (FR s a):=λt f n u v c=>by
  unfold Jr;rw[Zs];refine(Zbw s (by omega) _ (by omega) n u v).bind λr i=>?_;have d:=i.1;have h:r.2.2.1=true->a<r.2.1/\r.2.1<=s.length:=λhk=>by have:=i.2.2 hk;omega
  have o:=Qhe (k:=1) (by omega) d;have w:=Qhe (k:=2) (by omega) d;exact T.if (T.guard (by omega) (T.guard (by omega) (T.guard o (T.guard (by omega) (T.guard w (e _ _ _ _ c h)))))) (T.if (T.guard (by omega) (T.guard (by omega) (T.guard o (e _ _ _ _ c h)))) (T.if (m _ _ _ _ _ _ c d h) (m _ _ _ _ _ _ c d h)))
 have p:∀(t f:Zf)(k:Int)(q:Bool),f.2.2.2.1=[]->T (Zdv s a t k f 1 q) (FR s a):=λt f k q c=>by
  unfold Zdv;exact T.if (g _ _ 1 (by omega) (by omega) c) (g _ _ 1 (by omega) (by omega) c)
 have j:∀(t f:Zf)(k x:Int)(q:Bool),f.2.2.2.1=[]->T (Za4 s a t k f 1 x q) (FR s a):=λt f k x q c=>by
  unfold Za4;exact T.if (g _ _ 2 (by omega) (by omega) c) (T.if (p _ _ _ _ c) (p _ _ _ _ c))
 unfold Ziz;refine T.guard (λ_=>by omega) (T.if (T.pure FR.no) (T.guard (by omega) (T.if ?_ (T.if (g _ _ 3 (by omega) (by omega) rfl) (T.if (j _ _ _ _ _ rfl) (T.if (j _ _ _ _ _ rfl) (j _ _ _ _ _ rfl)))))));rw[Zs (n:=a+1)];refine(Qwg s hs _ (by omega) _).bind λr i=>T.pure λhk=>?_;have:=i hk;simp only;omega
def gr(l:List Zf):Nat:=(l.map λf=>f.2.2.2.1.length+2).sum
theorem Xeh(l:List Zf)(f:Zf):gr (l++[f])=gr l+f.2.2.2.1.length+2:=by simp[gr];omega
theorem Qnr(s:List UInt8)(hs:s.length<=1000):∀(N a:Nat)(out:List Zf),s.length-a<N->a<=s.length->out.length<=a->gr out<=2*a->(∀f∈out,FOK f)->T (Jm N s out (a:Int)) λr=>gr r.1<=2*s.length/\r.1.length<=s.length/\ ∀f∈r.1,FOK f
 |0,_,_,h,_,_,_,_=>by omega
 |N+1,a,out,i,j,k,l,d=>by
  unfold Jm;refine T.ite (λc=>?_) λc=>(tIn _ _ _).bind λt _=>T.pure ⟨by simp only;omega,by simp only;omega,d⟩;have c:=Ode c;refine T.guard (by omega) (T.if ?_ ?_)
  ·rw[show IntKind.i64.wrap ((a:Int)+1)=((a+1:Nat):Int) by grind[Zs]];exact Qnr s hs N (a+1) out (by omega) (by omega) (by omega) (by omega) d
  ·refine(Qvj s hs a).bind λr e=>T.ite (λ_=>T.pure ⟨by simp[gr],by simp,by simp⟩) λhk=>T.guard (by grind[Qd]) ?_;have e:=e (by simpa using hk);obtain⟨b,g⟩:=Int.eq_ofNat_of_zero_le (show 0<=r.2.1 by omega);rw[g];refine Qnr s hs N b _ (by omega) (by omega) (by simp;omega) (by rw[Xeh];omega) λf h=>?_
   grind[FOK]
theorem Qyb(s:List UInt8)(hs:s.length<=1000):T (Kd s) λr=>gr r.1<=2*s.length/\r.1.length<=s.length/\ ∀f∈r.1,FOK f:=by
 grind[Kd,Qnr,Zjm,gr]
theorem T.and{α:Type}{m:Option α}{Q R:α->Prop}(h1:T m Q)(h2:T m R):T m λy=>Q y/\R y:=by
 obtain⟨y,e,b⟩:=h1;obtain⟨z,a,c⟩:=h2;rw[e]at a;cases a;exact⟨y,e,b,c⟩
theorem Qhs{K:Nat}{c:Zc}(h:Z4 K c)(hK:K<=1000000)(n:Int):T (Zgb c n) λr=>Z4 K r.1:=by
 unfold Zgb;rw[Jg h hK,Obs];exact T.bind (Q:=λ_=>True) (T.if (tIn _ _ _) T.tt) λt _=>T.if (T.pure ⟨h.str,h.pk⟩) (T.pure h)
theorem Qkj(l:List Zf)(hf:∀f∈l,FOK f)(hl:l.length<=1000):∀(N i K:Nat)(t x:Zc),l.length-i<N->i<=l.length->Z4 K x->25<=K->K+gr (l.drop i)<=390000->T (Wf N t x l (i:Int)) λr=>Z4 (K+gr (l.drop i)) r.1.1
 |0,_,_,_,_,h,_,_,_,_=>by omega
 |N+1,i,K,t,x,k,m,hx,a,n=>by
  unfold Wf;simp only[X4,Kt];refine T.ite (λb=>?_) λb=>T.pure (hx.mono (by omega));have b:=Ode b;have e:i<l.length:=by omega
  have g:=hf _ (Z5 (d:=Qk) e);have o:gr (l.drop i)=(l.getD i Qk).2.2.2.1.length+2+gr (l.drop (i+1)):=by grind[Xh,gr]
  refine T.guard (by omega) ((Z72 hx g a).bind λr c=>?_);unfold Zj5;refine T.if ((Qhs hx (by omega) _).bind λt j=>T.pure (j.mono (by omega))) ?_;rw[Zr e];exact(Qkj l hf hl N (i+1) (K+(l.getD i Qk).2.2.2.1.length+2) _ _ (by omega) (by omega) c (by omega) (by omega)).mono λr c=>c.mono (by omega)
theorem Q3m{K:Nat}{c:Zc}(h:Z4 K c)(h25:25<=K)(s:List UInt8)(hs:s.length<=1000)(hK:K+2*s.length<=390000):T (Zb5 c s) λr=>Z4 (K+2*s.length) r.1.1:=by
 unfold Zb5;rw[Jg h,Obs];refine(Z3o h).bind λt _=>T.bind (Q:=λ_=>True) (T.if T.tt T.tt) λt _=>T.if (T.pure (h.mono (by omega))) ((Qyb s hs).bind λr a=>T.if ((Qhs h (by omega) _).bind λt b=>T.pure (b.mono (by omega))) ?_);exact(Qkj r.1 a.2.2 (by omega) _ 0 K _ _ (by simp[W9]) (by omega) h h25 (by grind)).mono λy d=>d.mono (by simp_all)
theorem Xi9(c:Qc)(h:Y7 c):T (Zae c) λr=>Y7 r.2.1:=by
 obtain⟨x,b,e,a,-⟩:=Z0l c h;exact⟨_,e,a⟩
theorem Qq4(l:List Int):(Qj l).length=l.length:=by simp[Qj]
theorem Xem(c:Qc)(hc:Y7 c)(m:Nat)(hm:m<=200):T (Z3a c (m:Int)) λr=>Y7 r.2.1/\r.1.1.length<=m:=by
 have h:∀(N n:Nat)(c:Qc)(o:List Int)(y:Int),Y7 c->n<N->n<=1000->o.length+n<=m->T (Zgl N c o y (n:Int)) λr=>Y7 r.2.1/\r.1.1.length<=m:=by
  intro N
  induction N with
  |zero=>omega
  |succ N i=>
   intro n c o y hc j g k;unfold Zgl;refine T.ite (λd=>(Xi9 c hc).bind λt a=>?_) λ_=>T.pure ⟨hc,by rw[Qq4];omega⟩;have d:=Ode d;have e:∀c b,Y7 c->T (Zrq (λv=>Zgl N v.1 v.2.1 v.2.2.1 v.2.2.2.1) c o y (n:Int) b) λr=>Y7 r.2.1/\r.1.1.length<=m:=λc b hc=>by
    unfold Zrq;rw[show IntKind.i64.wrap ((n:Int)-1)=((n-1:Nat):Int) by grind[Zs]]
    grind[T.guard,Qd]
   have f:∀c b,Y7 c->T (Zrp (λv=>Zgl N v.1 v.2.1 v.2.2.1 v.2.2.2.1) c o y (n:Int) b) λr=>Y7 r.2.1/\r.1.1.length<=m:=λc b hc=>by
    unfold Zrp;exact T.if (T.guard (by omega) (e _ _ hc)) (e _ _ hc)
   exact T.if (T.guard (by omega) (f _ _ a)) (f _ _ a)
 unfold Z3a;refine(Zke c 4 hc).bind λt a=>(Zke _ _ a.1).bind λl p=>?_
 grind[Zs,Zs0]
theorem Xao(c:Qc)(hc:Y7 c)(s:List UInt8)(hs:s.length<=1000000):T (Z0f c s) λr=>Y7 r.2.1/\r.1.1.length<=s.length+3:=by
 unfold Z0f;refine T.ite (λ_=>(Xem c hc 3 (by omega)).bind λt j=>T.pure ⟨j.1,by simp only;omega⟩) λl=>?_;have l:0<s.length:=by
  grind
 refine(Zke c _ hc).bind λm d=>(Zke _ 4 d.1).bind λf a=>?_;have hk:=d.2.2 (by omega);have g:=d.2.1;generalize m.1.1=k at hk g;obtain⟨n,rfl⟩:=Int.eq_ofNat_of_zero_le g;have e:IntKind.i64.wrap ((n:Int)+1)=((n+1:Nat):Int):=by grind[Zs]
 obtain⟨y,h,o,p,-⟩:=Z0l f.2.1 a.1;obtain⟨z,i,q,u,-⟩:=Zw3 f.2.1 255 a.1;rw[e];have v:(0:Int)<=0/\0<=(n:Int)/\(n:Int)<=(s.length:Int):=by omega
 have w:(0:Int)<=((n+1:Nat):Int)/\((n+1:Nat):Int)<=(s.length:Int)/\(s.length:Int)<=(s.length:Int):=by omega
 have x:(0:Int)<=(n:Int)/\(n:Int)<=(s.length:Int)/\(s.length:Int)<=(s.length:Int):=by omega
 have C:(0:Int)<=(n:Int)/\(n:Int)<(s.length:Int):=by omega
 simp only[o,q,Obs,Zb v,Zb w,Zb x,Zb C,X4];have E:((s.drop (0:Int).toNat).take ((n:Int).toNat- (0:Int).toNat)).length<=n:=by simp_all
 have F:((s.drop ((n+1:Nat):Int).toNat).take ((s.length:Int).toNat- ((n+1:Nat):Int).toNat)).length<=s.length-n-1:=by grind
 have G:((s.drop (n:Int).toNat).take ((s.length:Int).toNat- (n:Int).toNat)).length<=s.length-n:=by simp_all
 generalize (s.drop (0:Int).toNat).take ((n:Int).toNat- (0:Int).toNat)=A at E;generalize (s.drop ((n+1:Nat):Int).toNat).take ((s.length:Int).toNat- ((n+1:Nat):Int).toNat)=B at F;generalize (s.drop (n:Int).toNat).take ((s.length:Int).toNat- (n:Int).toNat)=D at G;have M:∀b:Int,(Qj [b]).length=1:=λb=>Qq4 _;have H:A.length+B.length<=Yh:=by grind[Yh]
 have I:∀b:Int,A.length+(Qj [b]).length<=Yh:=λb=>by grind[Yh]
 have h:∀b:Int,(A++Qj [b]).length+D.length<=Yh:=λb=>by grind[Yh]
 have i:∀b:Int,(A++Qj [b]).length+B.length<=Yh:=λb=>by grind[Yh]
 simp only[Zb H,Zb (I _),Zb (h _),Zb (i _),Kt];refine T.if (T.pure ⟨a.1,by grind⟩) (T.if (T.pure ⟨p,by grind⟩) (T.if (T.pure ⟨a.1,by simp only;omega⟩) (T.pure ⟨u,by grind⟩)))
theorem Q0v(s:List UInt8)(a k:Int):∀(N:Nat)(n i:Int),Zi9 N s a k n i=Zb4 N s a k n i
 |0,_,_=>rfl
 |N+1,n,i=>by
  unfold Zi9 Zb4;rw[Q0v s a k N]
theorem Q0u(s:List UInt8)(hs:s.length<=1000000)(a:Int):X5 s a=Xp s a:=by
 unfold X5 Xp;rw[Zel,Obs];have e:(!(decide (a>=0)&&decide (a<=IntKind.i64.wrap ((s.length:Int)-1))))=(decide (a<0)||decide (a>=(s.length:Int))):=by
  rw[Zs,show decide (a<0)= !decide (a>=0) by grind,show decide (a>=(s.length:Int))= !decide (a<=(s.length:Int)-1) by grind];simp_all
 simp only;rw[e];simp only[Q0v];rfl
theorem Qjh(s:List UInt8)(a:Int)(n:Int)(out:List Int)(i:Int)(N:Nat)(h:i<n)(hl:out.length<=10)(hi:0<=i/\i<=10:=by omega):Zaf (N+1) s a n out i=Option.bind (Xp s a) λt=>bif t.2.2.1 then Zaf N s t.2.1 n (out++[t.1]) (i+1)else some ([(0:Int),(0:Int),(0:Int)],(0:Int),false,()):=by
 rw[Zaf];rw[Zm (Zl h)]
 grind[Zb,Qd,Zs]
theorem rd1(s:List UInt8)(a:Int):Zcz s a 1=Option.bind (Xp s a) λt=>bif t.2.2.1 then some ([t.1],t.2.1,true,())else some ([(0:Int),(0:Int),(0:Int)],(0:Int),false,()):=by
 unfold Zcz;rw[show Zd0 s a 1 ([]:List Int) 0=1+1 from rfl,Qjh s a 1 [] 0 1 (by omega) (by simp)];congr 1
theorem rd2(s:List UInt8)(a:Int):Zcz s a 2=Option.bind (Xp s a) λt=>bif t.2.2.1 then Option.bind (Xp s t.2.1) λu=>bif u.2.2.1 then some ([t.1,u.1],u.2.1,true,())else some ([(0:Int),(0:Int),(0:Int)],(0:Int),false,())else some ([(0:Int),(0:Int),(0:Int)],(0:Int),false,()):=by
 unfold Zcz;rw[show Zd0 s a 2 ([]:List Int) 0=2+1 from rfl,Qjh s a 2 [] 0 2 (by omega) (by simp)];congr 1;funext t;rw[Qjh s _ 2 _ _ 1 (by omega) (by simp)];rfl
theorem rd3(s:List UInt8)(a:Int):Zcz s a 3=Option.bind (Xp s a) λt=>bif t.2.2.1 then Option.bind (Xp s t.2.1) λu=>bif u.2.2.1 then Option.bind (Xp s u.2.1) λv=>bif v.2.2.1 then some ([t.1,u.1,v.1],v.2.1,true,())else some ([(0:Int),(0:Int),(0:Int)],(0:Int),false,())else some ([(0:Int),(0:Int),(0:Int)],(0:Int),false,())else some ([(0:Int),(0:Int),(0:Int)],(0:Int),false,()):=by
 unfold Zcz;rw[show Zd0 s a 3 ([]:List Int) 0=3+1 from rfl,Qjh s a 3 [] 0 3 (by omega) (by simp)];congr 1;funext t;rw[Qjh s _ 3 _ _ 2 (by omega) (by simp)];have e:∀u:Int×Int×Bool×Unit,(bif u.2.2.1 then Zaf 2 s u.2.1 3 (([]++[t.1])++[u.1]) (0+1+1)else some ([(0:Int),(0:Int),(0:Int)],(0:Int),false,()))=(bif u.2.2.1 then Option.bind (Xp s u.2.1) λv=>bif v.2.2.1 then some ([t.1,u.1,v.1],v.2.1,true,())else some ([(0:Int),(0:Int),(0:Int)],(0:Int),false,())else some ([(0:Int),(0:Int),(0:Int)],(0:Int),false,())):=λu=>by
  rw[Qjh s _ 3 _ _ 1 (by omega) (by simp)];rfl
 simp only[e]
theorem Q06{f:Zf}(h:f.2.2.2.1=[]):FOK f:=by simp_all[FOK]
theorem Z3h(f:Zf)(n:Int)(h:f.2.2.2.1=[])(t:Zf):Option.bind (bif !true then some (false,())else(Wi f)) (λt21=>bif(!true)||(!t21.1)then some (Qk,(0:Int),false,())else some (f,n,true,()))=Xx t f n true:=by
 simp_all[Xx,Z4j,Q06,Z0x]
theorem Xg3(s:List UInt8)(i:Nat):IntKind.i64.wrap ((s.getD i 0).toNat:Int)=((s.getD i 0).toNat:Int)/\((s.getD i 0).toNat:Int)<=255:=by
 have:=(s.getD i 0).toNat_lt
 grind[Zs]
noncomputable abbrev Q51(r:Zf×Int×Bool×Unit):Option (Zf×Int×Bool×Unit):=Option.bind (bif !r.2.2.1 then some (false,())else(Wi r.1)) λt21=>bif(!r.2.2.1)||(!t21.1)then some (Qk,(0:Int),false,())else some (r.1,r.2.1,true,())
theorem Xi7(s:List UInt8)(hs:s.length<=1000)(f t:Zf){x z:Int}(hx:0<=x/\x<=s.length)(hz:0<=z/\z<=(s.length:Int)-x):Option.bind (Ww s x t f z true) Q51=Zfr s t f x z:=by
 unfold Ww Zfr;rw[Zs (n:=(s.length:Int)-x),Zs (n:=x+z),Ont,Bool.false_or,Zo (Zn),Zb,Zb,Obs];have a:FOK (f.1,f.2.1,f.2.2.1,(s.drop x.toNat).take ((x+z).toNat-x.toNat),f.2.2.2.2):=by grind[FOK]
 simp_all[Q51,Z4j,Z0x]
theorem Xi6(s:List UInt8)(hs:s.length<=1000)(f t:Zf)(k:Int){x:Int}(hx:0<=x/\x<=s.length):Option.bind (Va s x k t f 0 true) Q51=Zfq s k t f x:=by
 unfold Va Zfq;simp only[Ont,Ocf];rw[Zs (n:=(s.length:Int)-x)];cases (bits .and .i64 k (2:Int))==(2:Int)
 ·simp_all[Xi7]
 ·rw[Oct,Oct,Q0u s (by omega)];obtain⟨⟨n,y,c,u⟩,e,h⟩:=Q3d s (by omega) x;rw[e];cases c
  ·rfl
  ·have h:=h rfl;simp only at h;simp only[Obs,Ont,Ocf,Bool.false_or];rw[Zs (n:=(s.length:Int)-y)];by_cases a:n>(s.length:Int)-y
   ·rw[Zm (Zl a)];unfold Ww;rw[Zs (n:=(s.length:Int)-y),Zm (by simp_all)];rfl
   ·rw[Zo (Zn a)]
    grind[Xi7]
theorem Xk8(s:List UInt8)(hs:s.length<=1000)(k:Int){x:Int}(hx:0<=x/\x<=s.length):Option.bind (Zo4 s x k) Q51=Zmf s x k:=by
 unfold Zo4 Zmf Zi7;rw[Q0u s (by omega),rd1,rd2];obtain⟨⟨n,y,c,u⟩,e,h⟩:=Q3d s (by omega) x;rw[e];simp only[Obs];cases c
 ·cases (bits .and .i64 k (4:Int))==(4:Int)<;>rfl
 ·have h:=h rfl;simp only at h;simp only[Ont,Ocf,Oct,Ota];cases (bits .and .i64 k (4:Int))==(4:Int)
  ·simp only[Ocf,Obs,Ont];rw[Zb (by simp),Zo (by decide)]
   grind[Xi6]
  ·simp only[Oct];rw[Q0u s (by omega)];obtain⟨⟨f,g,b,u2⟩,d,a⟩:=Q3d s (by omega) y;rw[d];simp only[Obs];cases b
   ·rfl
   ·have a:=a rfl;simp only at a;simp only[Ont,Ocf,Oct,Obs];rw[Zb (by simp),Zm (by decide),Zb (by simp)]
    grind[Xi6]
def fld(f:Zf)(l:List Int):Zf:=bif f.1==(4:Int)then(f.1,l.getD (0:Int).toNat (0:Int),f.2.2.1,f.2.2.2.1,f.2.2.2.2.1,l.getD (Int.tmod (1:Int) (l.length:Int)).toNat (0:Int),f.2.2.2.2.2.2.1,l.getD (Int.tmod (2:Int) (l.length:Int)).toNat (0:Int),f.2.2.2.2.2.2.2.2)else bif f.1==(5:Int)then(f.1,l.getD (0:Int).toNat (0:Int),f.2.2.1,f.2.2.2.1,f.2.2.2.2.1,l.getD (Int.tmod (1:Int) (l.length:Int)).toNat (0:Int),f.2.2.2.2.2.2)else bif(f.1==(17:Int))||(f.1==(21:Int))then(f.1,l.getD (0:Int).toNat (0:Int),f.2.2.1,f.2.2.2.1,f.2.2.2.2.1,f.2.2.2.2.2.1,l.getD (Int.tmod (1:Int) (l.length:Int)).toNat (0:Int),f.2.2.2.2.2.2.2)else (f.1,f.2.1,f.2.2.1,f.2.2.2.1,f.2.2.2.2.1,f.2.2.2.2.2.1,l.getD (0:Int).toNat (0:Int),f.2.2.2.2.2.2.2)
theorem Xcr(f:Zf)(l:List Int):(fld f l).1=f.1/\(fld f l).2.2.2.1=f.2.2.2.1:=by
 unfold fld
 grind
theorem j1E{s:List UInt8}{a:Int}{n:Int}{l:List Int}{x:Int}{c:Bool}(t f:Zf)(e:Zcz s (IntKind.i64.wrap (a+1)) n=some (l,x,c,()))(hl:0<l.length):Jr s a t f n=Xx t (fld f l) x c:=by
 have b:=Qhe (k:=1) (by omega) hl;have d:=Qhe (k:=2) (by omega) hl;unfold Jr Zdu fld;rw[e,Obs];simp only;cases h4:f.1==(4:Int)
 ·cases h5:f.1==(5:Int)
  ·cases h17:f.1==(17:Int)
   ·cases h21:f.1==(21:Int)
    ·simp_all[Zb]
    ·simp only[Ocf,Oct,Bool.or_true]
     grind[Zb]
   ·simp only[Ocf,Oct,Bool.true_or]
    grind[Zb]
  ·simp only[Ocf,Oct]
   grind[Zb]
 ·simp only[Oct]
  grind[Zb]
theorem Q3c(s:List UInt8)(hs:s.length<=1000)(a:Int)(ha:0<=a/\a<s.length):Zrw s a=Ziz s a:=by
 obtain⟨V,W⟩:=Xg3 s a.toNat
 have j:IntKind.i64.wrap (a+1)=a+1:=Zs;have X:∀b:Int,X5 s b=Xp s b:=Q0u s (by omega);have Y:∀b:Int,0<=b->b<=1000-> ∃n x c,Xp s b=some (n,x,c,())/\(c=true->(0<=n/\n<4611686018427387904)/\b<x/\x<=s.length):=λb Z h1=>by
  obtain⟨⟨n,x,c,u⟩,e,h⟩:=Q3d s (by omega) b;exact⟨n,x,c,e,λhc=>by have:=h hc;simp_all⟩
 unfold Zrw Z0u Ziz;rw[Zel,Obs,Zs (n:=(s.length:Int)-1),Zl (p:=a>=0) ha.1,Zl (p:=a<=(s.length:Int)-1),Zn (p:=a<0),Zn (p:=a>=(s.length:Int))];simp only[Bool.and_self,Ont,Ocf,Bool.false_or,Bool.or_self];rw[Zb,Zb (λ_=>by omega),V,j];generalize hk:((s.getD a.toNat 0).toNat:Int)=k at W;have aa:0<=k:=by omega
 by_cases K:k>23
 ·rw[Zm (b:=decide (k>23)) (Zl K)];have O:(k==4)=false:=by simp;omega
  have P:(k==5)=false:=by simp;omega
  have w:(k==16)=false:=by simp;omega
  have y:(k==20)=false:=by simp;omega
  have z:(k==17)=false:=by simp;omega
  have A:(k==21)=false:=by simp;omega
  have B:(k==18)=false:=by simp;omega
  have C:(k==19)=false:=by simp;omega
  have D:(k==22)=false:=by simp;omega
  have E:(k==23)=false:=by simp;omega
  unfold Zlc Zld Zdb Q9;simp only[O,P,w,y,z,A,B,C,D,E,Ocf,Zel,Obs,Zl (show k>=8 by omega),Zn (show ¬k<=15 by omega),Bool.and_false];rfl
 rw[Zo (b:=decide (k>23)) (Zn K),Zb];have J:∀b:Int,0<=b->b<=s.length-> ∃n x c,Xp s b=some (n,x,c,())/\(c=true->b<x/\x<=s.length):=λb Z h1=>by
  grind
 obtain⟨L,M,g,m,v⟩:=J (a+1) (by omega) (by omega);have Q:∀(f t:Zf)(n:Int)(b:Bool),(f.1≠4/\f.1≠5/\f.1≠8/\f.1≠17/\f.1≠21/\f.1≠18/\f.1≠22/\f.1≠16/\f.1≠20)->f.2.2.2.1=[]->Xx t f n b=some (Qk,(0:Int),false,()):=λf t n b hf hd=>by
  grind[Xx,Z0x,Q06,Q63]
 have S:k=4\/k=5\/k=16\/k=20\/k=17\/k=21\/k=18\/k=19\/k=22\/k=23\/(8<=k/\k<=15)\/(k=0\/k=1\/k=2\/k=3\/k=6\/k=7):=by omega
 unfold Zlc Zld Zdb Q9 Zs9;unfold Za4 Zdv;simp only[X,j,m,Obs];have o:∃l,Zcz s (IntKind.i64.wrap (a+1)) 1=some (l,bif g then M else 0,g,())/\0<l.length/\(g=true->l=[L]):=by
  rw[j,rd1,m];cases g
  all_goals simp
 obtain⟨l1,o,d,i⟩:=o;rcases S with h|h|h|h|h|h|h|h|h|h|h|h
 ·subst h;simp only[Int.reduceBEq,Oct,Ocf,Int.reduceGE,Int.reduceLT,decide_false,decide_true,Bool.false_and];cases g
  ·rw[j1E (l:=[0,0,0]) (x:=0) (c:=false) _ _ (by grind[rd3]) (by simp)];rfl
  have v:=v rfl;obtain⟨F,G,H,I,N⟩:=J M (by omega) (by omega);simp only[Ont,Ocf,I,Obs];cases H
  ·rw[j1E (l:=[0,0,0]) (x:=0) (c:=false) _ _ (by rw[j,rd3,m];grind) (by simp)];rfl
  have N:=N rfl;obtain⟨n3,x3,c3,e3,g3⟩:=J G (by omega) (by omega);simp only[Ont,Ocf,e3,Obs];cases c3
  ·rw[j1E (l:=[0,0,0]) (x:=0) (c:=false) _ _ (by rw[j,rd3,m];grind) (by simp)];rfl
  ·rw[j1E (l:=[L,F,n3]) (x:=x3) (c:=true) _ _ (by rw[j,rd3,m];grind) (by simp)];exact Z3h _ _ (by rfl) _
 ·subst h;simp only[Int.reduceBEq,Oct,Ocf,Int.reduceGE,Int.reduceLT,decide_false,decide_true,Bool.false_and,Bool.and_false];cases g
  ·rw[j1E (l:=[0,0,0]) (x:=0) (c:=false) _ _ (by grind[rd2]) (by simp)];rfl
  have v:=v rfl;obtain⟨F,G,H,I,N⟩:=J M (by omega) (by omega);simp only[Ont,Ocf,I,Obs];cases H
  ·rw[j1E (l:=[0,0,0]) (x:=0) (c:=false) _ _ (by rw[j,rd2,m];grind) (by simp)];rfl
  ·rw[j1E (l:=[L,F]) (x:=G) (c:=true) _ _ (by rw[j,rd2,m];grind) (by simp)];exact Z3h _ _ (by rfl) _
 ·subst h;simp only[Int.reduceBEq,Oct,Ocf,Int.reduceGE,Int.reduceLT,decide_false,decide_true,Bool.false_and,Bool.and_false];rw[j1E _ _ o d];cases g
  ·rfl
  ·rw[i rfl];exact Z3h _ _ (by rfl) _
 ·subst h;simp only[Int.reduceBEq,Oct,Ocf,Int.reduceGE,Int.reduceLT,decide_false,decide_true,Bool.false_and,Bool.and_false];rw[j1E _ _ o d];cases g
  ·rfl
  ·rw[i rfl];exact Z3h _ _ (by rfl) _
 ·subst h;simp only[Int.reduceBEq,Oct,Ocf,Int.reduceGE,Int.reduceLT,decide_false,decide_true,Bool.false_and,Bool.and_false];cases g
  ·rw[j1E (l:=[0,0,0]) (x:=0) (c:=false) _ _ (by grind[rd2]) (by simp)];rfl
  have v:=v rfl;obtain⟨F,G,H,I,N⟩:=J M (by omega) (by omega);simp only[Ont,Ocf,I,Obs];cases H
  ·rw[j1E (l:=[0,0,0]) (x:=0) (c:=false) _ _ (by rw[j,rd2,m];grind) (by simp)];rfl
  ·rw[j1E (l:=[L,F]) (x:=G) (c:=true) _ _ (by rw[j,rd2,m];grind) (by simp)];exact Z3h _ _ (by rfl) _
 ·subst h;simp only[Int.reduceBEq,Oct,Ocf,Int.reduceGE,Int.reduceLT,decide_false,decide_true,Bool.false_and,Bool.and_false];cases g
  ·rw[j1E (l:=[0,0,0]) (x:=0) (c:=false) _ _ (by grind[rd2]) (by simp)];rfl
  have v:=v rfl;obtain⟨F,G,H,I,N⟩:=J M (by omega) (by omega);simp only[Ont,Ocf,I,Obs];cases H
  ·rw[j1E (l:=[0,0,0]) (x:=0) (c:=false) _ _ (by rw[j,rd2,m];grind) (by simp)];rfl
  ·rw[j1E (l:=[L,F]) (x:=G) (c:=true) _ _ (by rw[j,rd2,m];grind) (by simp)];exact Z3h _ _ (by rfl) _
 ·subst h;simp only[Int.reduceBEq,Oct,Ocf,Int.reduceGE,Int.reduceLT,decide_false,decide_true,Bool.false_and,Bool.and_false];rw[j1E _ _ o d,Zb (by decide)];cases g
  ·rfl
  ·rw[i rfl];exact Z3h _ _ (by rfl) _
 ·subst h;simp only[Int.reduceBEq,Oct,Ocf,Int.reduceGE,Int.reduceLT,decide_false,decide_true,Bool.false_and,Bool.and_false];rw[j1E _ _ o d,Zb (by decide)];cases g
  ·rfl
  ·rw[i rfl];exact Z3h _ _ (by rfl) _
 ·subst h;simp only[Int.reduceBEq,Oct,Ocf,Int.reduceGE,Int.reduceLT,decide_false,decide_true,Bool.false_and,Bool.and_false];rw[j1E _ _ o d,Zb (by decide)];cases g
  ·rfl
  ·rw[i rfl];exact Z3h _ _ (by rfl) _
 ·subst h;simp only[Int.reduceBEq,Oct,Ocf,Int.reduceGE,Int.reduceLT,decide_false,decide_true,Bool.false_and,Bool.and_false];rw[j1E _ _ o d,Zb (by decide)];cases g
  ·rfl
  ·rw[i rfl];exact Z3h _ _ (by rfl) _
 ·have O:(k==4)=false:=by simp;omega
  have P:(k==5)=false:=by simp;omega
  have w:(k==16)=false:=by simp;omega
  have y:(k==20)=false:=by simp;omega
  have z:(k==17)=false:=by simp;omega
  have A:(k==21)=false:=by simp;omega
  have B:(k==18)=false:=by simp;omega
  have C:(k==19)=false:=by simp;omega
  have D:(k==22)=false:=by simp;omega
  have E:(k==23)=false:=by simp;omega
  simp only[O,P,w,y,z,A,B,C,D,E,Ocf,Zel,Obs,Zl (show k>=8 by omega),Zl (show k<=15 by omega),Zl (show k<16 by omega),Bool.and_self,Oct];have e:=Xk8 s hs k (x:=a+1) (by omega);rw[<-e];obtain⟨r,U⟩:∃r,Zmf s (a+1) k=some r:=by
   obtain⟨r,U,-⟩:=Qwg s hs (a+1) (by omega) k;exact⟨r,U⟩
  rw[e,U];cases hr:Zo4 s (a+1) k with
  |none=>grind
  |some q=>
   grind
 ·rcases h with h|h|h|h|h|h<;>subst h<;>simp only[Int.reduceBEq,Ocf,Int.reduceGE,Int.reduceLT,decide_false,decide_true,Bool.false_and,Bool.and_false,Zel,Obs,Int.reduceLE]<;>(rw[j1E _ _ o d];exact(Q _ _ _ _ (by rw[(Xcr _ _).1];simp) (Xcr _ _).2).symm)
end Go.Proofs.YtfhellopliifdaaGreat

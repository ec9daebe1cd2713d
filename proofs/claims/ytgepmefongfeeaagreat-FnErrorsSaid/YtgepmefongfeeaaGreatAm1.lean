/- The abstract machine, part 1: what a piece of Go code does, as plain data, and that it does so. No condition. -/
import Derived.WalkKit
namespace Go.Am
theorem Obs{α β:Type _}(a:α)(f:α->Option β):(some a).bind f=f a:=rfl
theorem Osi{α:Type _}(a b:α):(some a=some b)=(a=b):=Option.some.injEq a b
theorem Oba(a b:Bool):((a&&b)=true)=(a=true/\b=true):=Bool.and_eq_true a b
theorem Onb{n m:Nat}(h:Nat.beq n m=true):n=m:=Nat.eq_of_beq_eq_true h
theorem Ode{p:Prop}[Decidable p](h:decide p=true):p:=of_decide_eq_true h
theorem Opi{α β:Type _}(a:α)(b:β)(c:α)(d:β):((a,b)=(c,d))=(a=c/\b=d):=Prod.mk.injEq a b c d
theorem Oct{α:Type _}(a b:α):cond true a b=a:=rfl
theorem Ocf{α:Type _}(a b:α):cond false a b=b:=rfl
theorem Ont:(!true)=false:=rfl
theorem Ota(b:Bool):(true&&b)=b:=Bool.true_and b
inductive Ty where
 |unit|int (k:IntKind)|bool|str|slice (e:TypeId) (t:Ty)|pair (a b:Ty)|arr (n:Nat) (t:Ty)|fnc (f:FuncId)|err|hid (t:Ty)|sptr (e:TypeId) (t:Ty)|clo (f:FuncId) (t:Ty)
 deriving DecidableEq
@[reducible] def Ty.den:Ty->Type| .unit=>Unit| .int _=>Int| .bool=>Bool| .str=>List UInt8| .slice _ t=>List t.den| .pair a b=>a.den×b.den| .arr _ t=>List t.den| .fnc _=>Unit| .err=>Bool| .hid _=>Unit| .sptr _ t=>t.den| .clo _ t=>t.den
def Ty.size:Ty->Nat| .unit=>0| .pair a b=>a.size+b.size| .arr n t=>n*t.size|_=>1
def Ty.flat:Ty->Bool| .slice .. =>false| .pair a b=>a.flat&&b.flat| .arr _ t=>t.flat| .hid t=>t.flat| .sptr .. =>false| .clo .. =>false|_=>true
def Ty.plain:Ty->Bool| .sptr .. =>false| .clo .. =>false| .pair a b=>a.plain&&b.plain| .arr _ t=>t.plain| .hid t=>Nat.beq t.size 1&&t.plain|_=>true
def Xz(T:Ty)(vs:List Value):Value:=
 match T with
 | .unit| .pair .. | .arr .. => .agg vs.toArray
 |_=>vs.headD undef
def Zaj{α:Type}(r:α->List Value->List Nat->Prop):List α->List Value->List Nat->Prop| [],vs,S=>vs=[]/\S=[]|x::xs,vs,S=> ∃v1 v2 S1 S2,vs=v1++v2/\S=S1++S2/\r x v1 S1/\Zaj r xs v2 S2
def hdr(w:World)(X:Nat->Prop)(B:Nat)(own:Bool)(e:TypeId)(sz n:Nat)(v:Value)(xs:List Value)(S:List Nat):Prop:=
 match own with
 |true=>w.ownsRow B e sz v n xs/\S=v.ownBlock.toList
 |false=>S=[]/\xs.length=n*sz/\ ∃a cap,v= .slice a n cap/\n<=cap/\cap<=maxLen/\
   ((a=none/\n=0/\cap=0)\/ ∃ad,a=some ad/\(n=0\/X ad.block)/\ ∀j u,xs[j]? =some u->w.cell? (ad.add j)=some u)
def rd(w:World)(X:Nat->Prop)(B:Nat)(own:Bool): (T:Ty)->T.den->List Value->List Nat->Prop| .unit,_,vs,S=>vs=[]/\S=[]| .int k,x,vs,S=>vs=[.int k x]/\S=[]| .bool,x,vs,S=>vs=[.bool x]/\S=[]| .fnc f,_,vs,S=>vs=[.func (.func f) #[] #[]]/\S=[]| .str,x,vs,S=>vs=[.string ⟨⟨x⟩⟩]/\S=[]| .slice e t,x,vs,S=> ∃v xs S1 S2,vs=[v]/\S=S1++S2/\hdr w X B own e t.size x.length v xs S1/\Zaj (rd w X B own t) x xs S2| .pair a b,x,vs,S=> ∃v1 v2 S1 S2,vs=v1++v2/\S=S1++S2/\rd w X B own a x.1 v1 S1/\rd w X B own b x.2 v2 S2| .arr n t,x,vs,S=>x.length=n/\Zaj (rd w X B own t) x vs S| .err,x,vs,S=>(∃v,vs=[v]/\v.oneCell'=true/\((x=true/\v= .nilIface)\/(x=false/\ ∃t u,v= .iface t u)))/\S=[]| .hid t,_,vs,S=>vs.length=1/\ ∃y,rd w X B own t y vs S| .sptr e t,x,vs,S=>S=[]/\own=false/\ ∃b c,vs=[.pointer (some ⟨b,0,none⟩)]/\X b/\w.heap[b]? =some (.cells c e (0,0))/\rd w X B own t x c.toList []| .clo f t,x,vs,S=>S=[]/\ ∃cs:List Value,vs=[.func (.func f) #[] cs.toArray]/\rd w X B own t x cs []
inductive Fl where
 |u (own:Bool)|p (a b:Fl)|d
def rdF(w:World)(X:Nat->Prop)(B:Nat): (T:Ty)->Fl->T.den->List Value->List Nat->Prop|T,.d,_,vs,S=>vs.length=T.size/\(∀u∈vs,u.oneCell'=true)/\S=[]|T,.u b,x,vs,S=>rd w X B b T x vs S| .pair a b,.p f g,x,vs,S=> ∃v1 v2 S1 S2,vs=v1++v2/\S=S1++S2/\rdF w X B a f x.1 v1 S1/\rdF w X B b g x.2 v2 S2| .slice e t,.p (.u true) (.u false),x,vs,S=> ∃v xs,vs=[v]/\hdr w X B true e t.size x.length v xs S/\Zaj (rd w X B false t) x xs []|_,.p ..,_,_,_=>False
theorem Zg0{w:World}{X:Nat->Prop}{B:Nat}{e:TypeId}{t:Ty}{f g:Fl}{x:List t.den}{vs:List Value}{S:List Nat}(h:rdF w X B (.slice e t) (.p f g) x vs S):
  f= .u true/\g= .u false/\ ∃v xs,vs=[v]/\hdr w X B true e t.size x.length v xs S/\Zaj (rd w X B false t) x xs []:=by
 cases f with
 |u b=>cases b with
  |true=>cases g with
   |u c=>cases c with
    |false=>exact⟨rfl,rfl,h⟩
    |true=>exact h.elim
   |p _ _=>exact h.elim
   |d=>exact h.elim
  |false=>exact h.elim
 |p _ _=>exact h.elim
 |d=>exact h.elim
section
variable {w w':World} {X X':Nat->Prop} {B:Nat} {own:Bool}
theorem Kq{α:Type}{r r':α->List Value->List Nat->Prop}: ∀{xs:List α} {vs:List Value} {S:List Nat},
  Zaj r xs vs S->(∀x v T,x∈xs->(∀b∈T,b∈S)->r x v T->r' x v T)->Zaj r' xs vs S
 | [],_,_,h,_=>h
 |x::xs,_,_,⟨d,f,e,g,i,a,j,l⟩,k=>
  ⟨d,f,e,g,i,a,k x d e (by simp) (by rw[a];intro b c;simp[c]) j,
   Kq l fun y v T m n=>k y v T (by simp[m]) (by rw[a];intro b c;simp[n b c])⟩
theorem Zrb{α:Type}{r:α->List Value->List Nat->Prop}{n:Nat}(hr: ∀x v S,r x v S->v.length=n): ∀{xs:List α} {vs:List Value} {S:List Nat},
  Zaj r xs vs S->vs.length=xs.length*n
 | [],_,_,⟨e,_⟩=>by simp[e]
 |x::xs,_,_,⟨d,f,g,h,a,_,b,c⟩=>by
  rw[a,List.length_append,hr _ _ _ b,Zrb hr c,List.length_cons,Nat.add_mul];omega
theorem Q9i{e:TypeId}{sz n:Nat}{v:Value}{xs:List Value}{S:List Nat}(h:hdr w X B own e sz n v xs S):xs.length=n*sz:=by
 cases own
 ·exact h.2.1
 ·exact h.1.1
theorem X5: ∀{T:Ty} {x:T.den} {vs:List Value} {S:List Nat},rd w X B own T x vs S->vs.length=T.size
 | .unit,_,_,_,h=>by simp[h.1,Ty.size]
 | .int _,_,_,_,h=>by simp[h.1,Ty.size]
 | .bool,_,_,_,h=>by simp[h.1,Ty.size]
 | .fnc _,_,_,_,h=>by simp[h.1,Ty.size]
 | .str,_,_,_,h=>by simp[h.1,Ty.size]
 | .slice _ _,_,_,_,⟨_,_,_,_,e,_⟩=>by simp[e,Ty.size]
 | .pair a b,_,_,_,⟨g,i,j,k,e,_,c,d⟩=>by simp[e,Ty.size,X5 c,X5 d]
 | .arr n t,_,_,_,⟨h,f⟩=>by rw[Zrb (n:=t.size) (fun _ _ _ h=>X5 h) f,h];rfl
 | .err,_,_,_,⟨⟨_,e,_⟩,_⟩=>by simp[e,Ty.size]
 | .hid _,_,_,_,⟨h,_⟩=>h
 | .sptr ..,_,_,_,⟨_,_,_,_,e,_⟩=>by simp[e,Ty.size]
 | .clo ..,_,_,_,⟨_,_,e,_⟩=>by simp[e,Ty.size]
theorem X8: ∀{T:Ty} {f:Fl} {x:T.den} {vs:List Value} {S:List Nat},rdF w X B T f x vs S->vs.length=T.size
 |T,.d,_,_,_,h=>by unfold rdF at h;exact h.1
 |T,.u b,_,_,_,h=>by unfold rdF at h;exact X5 h
 | .pair a b,.p f g,_,_,_,⟨k,l,m,n,e,_,c,i⟩=>by simp[e,Ty.size,X8 c,X8 i]
 | .slice e t,.p f g,_,_,_,h=>by obtain⟨_,_,v,o,j,_⟩:=Zg0 h;simp[j,Ty.size]
 | .unit,.p ..,_,_,_,h| .int _,.p ..,_,_,_,h| .bool,.p ..,_,_,_,h| .fnc _,.p ..,_,_,_,h| .str,.p ..,_,_,_,h| .err,.p ..,_,_,_,h| .hid _,.p ..,_,_,_,h| .sptr ..,.p ..,_,_,_,h| .clo ..,.p ..,_,_,_,h| .arr ..,.p ..,_,_,_,h=>by simp[rdF]at h
theorem Qev{e:TypeId}{sz n:Nat}{v:Value}{xs:List Value}{S:List Nat}(h:hdr w X B own e sz n v xs S)
  (hX: ∀b,X b->X' b) (hw: ∀b,X b->w'.heap[b]? =w.heap[b]?) (hS: ∀b∈S,w'.heap[b]? =w.heap[b]?):hdr w' X' B own e sz n v xs S:=by
 cases own
 ·obtain⟨i,d,a,c,k,r,s,l⟩:=h;refine⟨i,d,a,c,k,r,s,?_⟩;rcases l with l| ⟨m,t,h8,x⟩
  ·exact .inl l
  ·refine .inr ⟨m,t,h8.imp id (hX _),fun j u q=> ?_⟩;rcases h8 with h8|h8
   ·subst h8;have:xs=[]:=List.eq_nil_of_length_eq_zero (by simpa using d);subst this;simp at q
   ·have o: (m.add j).block=m.block:=by unfold Addr.add;split<;>rfl
    rw[World.cell?_of_block (w:=w) (by rw[o];exact hw _ h8)];exact x j u q
 ·obtain⟨i,d⟩:=h;refine⟨⟨i.1,?_⟩,d⟩;rcases i.2 with k| ⟨g,c,p,rfl,o,y,f⟩
  ·exact .inl k
  ·exact .inr ⟨g,c,p,rfl,o,by rw[hS g (by rw[d];simp[Value.ownBlock])];exact y,f⟩
theorem Zdd(hX: ∀b,X b->X' b)(hw: ∀b,X b->w'.heap[b]? =w.heap[b]?): ∀{T:Ty} {x:T.den} {vs:List Value} {S:List Nat},
  rd w X B own T x vs S->(∀b∈S,w'.heap[b]? =w.heap[b]?)->rd w' X' B own T x vs S
 | .unit,_,_,_,h,_=>h
 | .int _,_,_,_,h,_=>h
 | .bool,_,_,_,h,_=>h
 | .fnc _,_,_,_,h,_=>h
 | .str,_,_,_,h,_=>h
 | .slice _ _,_,_,_,⟨v,p,k,l,e,i,j,g⟩,d=>
  ⟨v,p,k,l,e,i,Qev j hX hw fun b f=>d b (by rw[i];simp[f]),
   Kq g fun _ _ _ _ m h=>Zdd hX hw h fun b f=>d b (by rw[i];simp[m b f])⟩
 | .pair a b,_,_,_,⟨q,r,k,l,e,i,j,g⟩,d=>
  ⟨q,r,k,l,e,i,Zdd hX hw j fun b f=>d b (by rw[i];simp[f]),Zdd hX hw g fun b f=>d b (by rw[i];simp[f])⟩
 | .arr n t,_,_,_,⟨h,s⟩,d=>⟨h,Kq s fun _ _ _ _ m h=>Zdd hX hw h fun b f=>d b (m b f)⟩
 | .err,_,_,_,h,_=>h
 | .hid _,_,_,_,⟨e,y,h⟩,d=>⟨e,y,Zdd hX hw h d⟩
 | .sptr ..,_,_,_,⟨e,o,b,c,j,g,u,z⟩,_=>⟨e,o,b,c,j,hX b g,by rw[hw b g];exact u,Zdd hX hw z (by simp)⟩
 | .clo ..,_,_,_,⟨e,A,j,g⟩,_=>⟨e,A,j,Zdd hX hw g (by simp)⟩
theorem Zq6(hX: ∀b,X b->X' b)(hw: ∀b,X b->w'.heap[b]? =w.heap[b]?): ∀{T:Ty} {f:Fl} {x:T.den} {vs:List Value} {S:List Nat},
  rdF w X B T f x vs S->(∀b∈S,w'.heap[b]? =w.heap[b]?)->rdF w' X' B T f x vs S
 |T,.d,_,_,_,h,_=>by unfold rdF at*;exact h
 |T,.u b,_,_,_,h,c=>by unfold rdF at*;exact Zdd hX hw h c
 | .pair a b,.p f g,_,_,_,⟨m,n,o,q,e,j,k,l⟩,c=>
  ⟨m,n,o,q,e,j,Zq6 hX hw k fun b i=>c b (by rw[j];simp[i]),Zq6 hX hw l fun b i=>c b (by rw[j];simp[i])⟩
 | .slice e t,.p f g,_,_,_,h,c=>by
  obtain⟨rfl,rfl,v,r,s,k,l⟩:=Zg0 h;exact⟨v,r,s,Qev k hX hw c,Kq l fun _ _ _ _ y h=>Zdd hX hw h fun b i=>absurd (y b i) (by simp)⟩
 | .unit,.p ..,_,_,_,h,_| .int _,.p ..,_,_,_,h,_| .bool,.p ..,_,_,_,h,_| .fnc _,.p ..,_,_,_,h,_| .str,.p ..,_,_,_,h,_| .err,.p ..,_,_,_,h,_| .hid _,.p ..,_,_,_,h,_| .sptr ..,.p ..,_,_,_,h,_| .clo ..,.p ..,_,_,_,h,_| .arr ..,.p ..,_,_,_,h,_=>by simp[rdF]at h
end
end Go.Am
namespace Go.Am
section
variable {w w':World} {X X':Nat->Prop} {B:Nat} {own:Bool}
theorem Z42{α:Type}{r:α->List Value->List Nat->Prop}{p:Nat->Prop}(hr: ∀x v S,r x v S-> ∀b∈S,p b): ∀{xs:List α} {vs:List Value} {S:List Nat},
  Zaj r xs vs S-> ∀b∈S,p b
 | [],_,_,⟨_,e⟩=>by simp[e]
 |x::xs,_,_,⟨d,f,g,h,_,e,a,c⟩=>by
  intro b hb;rw[e]at hb;rcases List.mem_append.1 hb with hb|hb
  ·exact hr _ _ _ a b hb
  ·exact Z42 hr c b hb
theorem Q2m{e:TypeId}{sz n:Nat}{v:Value}{xs:List Value}{S:List Nat}(h:hdr w X B own e sz n v xs S): ∀b∈S,B<=b/\b<w.heap.size:=by
 cases own
 ·intro b a;rw[h.1]at a;cases a
 ·intro b a;rw[h.2]at a;exact h.1.lt b (by simpa using a)
theorem Zt7: ∀{T:Ty} {x:T.den} {vs:List Value} {S:List Nat},rd w X B own T x vs S-> ∀b∈S,B<=b/\b<w.heap.size
 | .unit,_,_,_,h| .int _,_,_,_,h| .bool,_,_,_,h| .fnc _,_,_,_,h| .str,_,_,_,h=>by simp[h.2]
 | .slice _ _,_,_,_,⟨_,_,_,_,_,e,c,d⟩=>by
  intro b hb;rw[e]at hb;rcases List.mem_append.1 hb with hb|hb
  ·exact Q2m c b hb
  ·exact Z42 (fun _ _ _ h=>Zt7 h) d b hb
 | .pair a b,_,_,_,⟨g,i,j,k,_,e,c,d⟩=>by
  intro b hb;rw[e]at hb;rcases List.mem_append.1 hb with hb|hb
  ·exact Zt7 c b hb
  ·exact Zt7 d b hb
 | .arr n t,_,_,_,⟨_,f⟩=>Z42 (fun _ _ _ h=>Zt7 h) f
 | .err,_,_,_,h=>by simp[h.2]
 | .hid _,_,_,_,⟨_,_,h⟩=>Zt7 h
 | .sptr ..,_,_,_,h=>by simp[h.1]
 | .clo ..,_,_,_,h=>by simp[h.1]
theorem Qw1: ∀{T:Ty} {f:Fl} {x:T.den} {vs:List Value} {S:List Nat},rdF w X B T f x vs S-> ∀b∈S,B<=b/\b<w.heap.size
 |T,.d,_,_,_,h=>by unfold rdF at h;simp[h.2.2]
 |T,.u b,_,_,_,h=>by unfold rdF at h;exact Zt7 h
 | .pair a b,.p f g,_,_,_,⟨j,k,l,m,_,e,c,i⟩=>by
  intro b hb;rw[e]at hb;rcases List.mem_append.1 hb with hb|hb
  ·exact Qw1 c b hb
  ·exact Qw1 i b hb
 | .slice e t,.p f g,_,_,_,h=>by
  obtain⟨_,_,v,n,_,c,_⟩:=Zg0 h;exact Q2m c
 | .unit,.p ..,_,_,_,h| .int _,.p ..,_,_,_,h| .bool,.p ..,_,_,_,h| .fnc _,.p ..,_,_,_,h| .str,.p ..,_,_,_,h| .err,.p ..,_,_,_,h| .hid _,.p ..,_,_,_,h| .sptr ..,.p ..,_,_,_,h| .clo ..,.p ..,_,_,_,h| .arr ..,.p ..,_,_,_,h=>by simp[rdF]at h
theorem Zc8{e:TypeId}{sz n:Nat}{v:Value}{xs:List Value}{S:List Nat}(h:hdr w X B own e sz n v xs S):
  ∃a cap,v= .slice a n cap/\n<=cap/\cap<=maxLen/\((a=none/\n=0/\cap=0)\/ ∃ad,a=some ad/\(n=0\/X ad.block\/ad.block∈S)/\ ∀j u,xs[j]? =some u->w.cell? (ad.add j)=some u):=by
 cases own
 ·obtain⟨_,_,a,cap,d,f,i,k⟩:=h;refine⟨a,cap,d,f,i,k.imp id ?_⟩;rintro⟨ad,l,m,o⟩;exact⟨ad,l,m.imp id .inl,o⟩
 ·obtain⟨b,p⟩:=h;rcases b.2 with⟨rfl,rfl⟩| ⟨g,cap,q,rfl,t,x,r,s,c⟩
  ·exact⟨none,0,rfl,Nat.le_refl _,by simp[maxLen],.inl ⟨rfl,rfl,rfl⟩⟩
  ·exact⟨_,cap,rfl,r,s,.inr ⟨_,rfl,.inr (.inr (by rw[p];simp[Value.ownBlock])),b.cells (g:=g) rfl⟩⟩
theorem Qqx{e:TypeId}{sz n:Nat}{v:Value}{xs:List Value}{S:List Nat}(h:hdr w X B own e sz n v xs S)(hX: ∀b,X b->X' b)(hS: ∀b∈S,X' b):
  hdr w X' B false e sz n v xs []:=by
 have d:=Q9i h;obtain⟨a,c,f,g,i,j⟩:=Zc8 h;refine⟨rfl,d,a,c,f,g,i,j.imp id ?_⟩;rintro⟨k,l,m,o⟩;exact⟨k,l,m.imp id (fun h=>h.elim (hX _) (hS _)),o⟩
theorem Zp3{α:Type}{r r':α->List Value->List Nat->Prop}: ∀{xs:List α} {vs:List Value} {S:List Nat},
  Zaj r xs vs S->(∀x v T,x∈xs->(∀b∈T,b∈S)->r x v T->r' x v [])->Zaj r' xs vs []
 | [],_,_,h,_=>⟨h.1,rfl⟩
 |x::xs,_,_,⟨c,e,f,n,g,d,i,j⟩,k=>
  ⟨c,e,[],[],g,rfl,k x c f (by simp) (by rw[d];intro b a;simp[a]) i,
   Zp3 j fun y v T l m=>k y v T (by simp[l]) (by rw[d];intro b a;simp[m b a])⟩
theorem Zgf(hX: ∀b,X b->X' b): ∀{T:Ty} {x:T.den} {vs:List Value} {S:List Nat},
  rd w X B own T x vs S->(∀b∈S,X' b)->rd w X' B false T x vs []
 | .unit,_,_,_,h,_| .int _,_,_,_,h,_| .bool,_,_,_,h,_| .fnc _,_,_,_,h,_| .str,_,_,_,h,_=>⟨h.1,rfl⟩
 | .slice _ _,_,_,_,⟨v,l,m,o,e,j,g,i⟩,d=>
  ⟨v,l,[],[],e,rfl,Qqx g hX fun b f=>d b (by rw[j];simp[f]),
   Zp3 i fun _ _ _ _ k h=>Zgf hX h fun b f=>d b (by rw[j];simp[k b f])⟩
 | .pair a b,_,_,_,⟨p,q,m,o,e,j,g,i⟩,d=>
  ⟨p,q,[],[],e,rfl,Zgf hX g fun b f=>d b (by rw[j];simp[f]),Zgf hX i fun b f=>d b (by rw[j];simp[f])⟩
 | .arr n t,_,_,_,⟨h,r⟩,d=>⟨h,Zp3 r fun _ _ _ _ k h=>Zgf hX h fun b f=>d b (k b f)⟩
 | .err,_,_,_,h,_=>⟨h.1,rfl⟩
 | .hid _,_,_,_,⟨e,y,h⟩,d=>⟨e,y,Zgf hX h d⟩
 | .sptr ..,_,_,_,⟨_,_,b,c,g,i,s,u⟩,_=>⟨rfl,rfl,b,c,g,hX b i,s,Zgf hX u (by simp)⟩
 | .clo ..,_,_,_,⟨_,z,g,i⟩,_=>⟨rfl,z,g,Zgf hX i (by simp)⟩
def Fl.live:Fl->Bool| .u _=>true| .p a b=>a.live&&b.live| .d=>false
theorem K6(hX: ∀b,X b->X' b): ∀{T:Ty} {f:Fl} {x:T.den} {vs:List Value} {S:List Nat},
  f.live=true->rdF w X B T f x vs S->(∀b∈S,X' b)->rd w X' B false T x vs []
 |T,.d,_,_,_,i,_,_=>by simp[Fl.live]at i
 |T,.u b,_,_,_,_,h,c=>by unfold rdF at h;exact Zgf hX h c
 | .pair a b,.p f g,_,_,_,i,⟨n,o,y,z,e,m,k,l⟩,c=>by
  simp only[Fl.live,Oba]at i;exact⟨n,o,[],[],e,rfl,K6 hX i.1 k fun b j=>c b (by rw[m];simp[j]),K6 hX i.2 l fun b j=>c b (by rw[m];simp[j])⟩
 | .slice e t,.p f g,_,_,_,_,h,c=>by
  obtain⟨_,_,v,q,r,k,l⟩:=Zg0 h;exact⟨v,q,[],[],r,rfl,Qqx k hX c,Zp3 l fun _ _ _ _ s h=>Zgf hX h fun b j=>absurd (s b j) (by simp)⟩
 | .unit,.p ..,_,_,_,_,h,_| .int _,.p ..,_,_,_,_,h,_| .bool,.p ..,_,_,_,_,h,_| .fnc _,.p ..,_,_,_,_,h,_| .str,.p ..,_,_,_,_,h,_| .err,.p ..,_,_,_,_,h,_| .hid _,.p ..,_,_,_,_,h,_| .sptr ..,.p ..,_,_,_,_,h,_| .clo ..,.p ..,_,_,_,_,h,_| .arr ..,.p ..,_,_,_,_,h,_=>by simp[rdF]at h
theorem Zeq{α:Type}{r r':α->List Value->List Nat->Prop}(hr: ∀x v S,r x v S->S=[]/\r' x v []): ∀{xs:List α} {vs:List Value} {S:List Nat},
  Zaj r xs vs S->S=[]/\Zaj r' xs vs []
 | [],_,_,h=>⟨h.2,h.1,rfl⟩
 |x::xs,_,_,⟨a,b,j,k,c,d,e,f⟩=>by
  obtain⟨rfl,g⟩:=hr _ _ _ e;obtain⟨rfl,i⟩:=Zeq hr f;exact⟨by simp[d],a,b,[],[],c,rfl,g,i⟩
theorem Zdc{own':Bool}{w':World}: ∀{T:Ty} {x:T.den} {vs:List Value} {S:List Nat},T.flat=true->
  rd w X B own T x vs S->S=[]/\rd w' X' B own' T x vs []
 | .unit,_,_,_,_,h| .int _,_,_,_,_,h| .bool,_,_,_,_,h| .fnc _,_,_,_,_,h| .str,_,_,_,_,h=>⟨h.2,h.1,rfl⟩
 | .slice _ _,_,_,_,c,_=>by simp[Ty.flat]at c
 | .pair a b,_,_,_,c,⟨d,f,q,r,e,g,i,j⟩=>by
  simp only[Ty.flat,Oba]at c;obtain⟨rfl,m⟩:=Zdc c.1 i;obtain⟨rfl,o⟩:=Zdc c.2 j;exact⟨by simp[g],d,f,[],[],e,rfl,m,o⟩
 | .arr n t,_,_,_,c,⟨h,p⟩=>by
  obtain⟨e,k⟩:=Zeq (r':=rd w' X' B own' t) (fun x v S h=>Zdc (by simpa[Ty.flat]using c) h) p;exact⟨e,h,k⟩
 | .err,_,_,_,_,h=>⟨h.2,h.1,rfl⟩
 | .hid _,_,_,_,c,⟨l,y,h⟩=>let⟨e,k⟩:=Zdc (by simpa[Ty.flat]using c) h;⟨e,l,y,k⟩
 | .sptr ..,_,_,_,c,_=>by simp[Ty.flat]at c
 | .clo ..,_,_,_,c,_=>by simp[Ty.flat]at c
theorem Zv2{α:Type}{r:α->List Value->List Nat->Prop}(hr: ∀x v S,r x v S-> ∀u∈v,u.oneCell'=true): ∀{xs:List α} {vs:List Value} {S:List Nat},
  Zaj r xs vs S-> ∀u∈vs,u.oneCell'=true
 | [],_,_,⟨e,_⟩=>by simp[e]
 |x::xs,_,_,⟨c,d,f,g,e,_,a,b⟩=>by
  intro u hu;rw[e]at hu;rcases List.mem_append.1 hu with hu|hu
  ·exact hr _ _ _ a u hu
  ·exact Zv2 hr b u hu
theorem Zkc: ∀{T:Ty} {x:T.den} {vs:List Value} {S:List Nat},rd w X B own T x vs S-> ∀u∈vs,u.oneCell'=true
 | .unit,_,_,_,h| .int _,_,_,_,h| .bool,_,_,_,h| .fnc _,_,_,_,h| .str,_,_,_,h=>by simp[h.1,Value.oneCell']
 | .slice _ _,_,_,_,⟨v,_,_,_,e,_,c,_⟩=>by
  obtain⟨a,d,hv,_⟩:=Zc8 c;simp[e,hv,Value.oneCell']
 | .pair a b,_,_,_,⟨i,j,k,l,e,_,c,f⟩=>by
  intro u hu;rw[e]at hu;rcases List.mem_append.1 hu with hu|hu
  ·exact Zkc c u hu
  ·exact Zkc f u hu
 | .arr n t,_,_,_,⟨_,g⟩=>Zv2 (fun _ _ _ h=>Zkc h) g
 | .err,_,_,_,⟨⟨v,e,h,_⟩,_⟩=>by simp[e,h]
 | .hid _,_,_,_,⟨_,_,h⟩=>Zkc h
 | .sptr ..,_,_,_,⟨_,_,_,_,e,_⟩=>by simp[e,Value.oneCell']
 | .clo ..,_,_,_,⟨_,_,e,_⟩=>by simp[e,Value.oneCell']
theorem Zh2: ∀{T:Ty} {f:Fl} {x:T.den} {vs:List Value} {S:List Nat},rdF w X B T f x vs S-> ∀u∈vs,u.oneCell'=true
 |T,.d,_,_,_,h=>by unfold rdF at h;exact h.2.1
 |T,.u b,_,_,_,h=>by unfold rdF at h;exact Zkc h
 | .pair a b,.p f g,_,_,_,⟨l,m,n,o,e,_,c,i⟩=>by
  intro u hu;rw[e]at hu;rcases List.mem_append.1 hu with hu|hu
  ·exact Zh2 c u hu
  ·exact Zh2 i u hu
 | .slice e t,.p f g,_,_,_,h=>by
  obtain⟨_,_,v,q,j,c,_⟩:=Zg0 h;obtain⟨a,k,hv,_⟩:=Zc8 c;simp[j,hv,Value.oneCell']
 | .unit,.p ..,_,_,_,h| .int _,.p ..,_,_,_,h| .bool,.p ..,_,_,_,h| .fnc _,.p ..,_,_,_,h| .str,.p ..,_,_,_,h| .err,.p ..,_,_,_,h| .hid _,.p ..,_,_,_,h| .sptr ..,.p ..,_,_,_,h| .clo ..,.p ..,_,_,_,h| .arr ..,.p ..,_,_,_,h=>by simp[rdF]at h
abbrev TV:=(T:Ty)×T.den
def fld: (T:Ty)->T.den->Nat->Option TV| .pair a _,x,0=>some ⟨a,x.1⟩| .pair _ b,x,i+1=>fld b x.2 i|_,_,_=>none
def Ze2:Ty->Nat->Nat| .pair a b,i+1=>a.size+Ze2 b i|_,_=>0
def Zx8:Ty->Nat->Option Ty| .pair a _,0=>some a| .pair _ b,i+1=>Zx8 b i|_,_=>none
def Ky(U:Ty)(T:Ty)(x:T.den):Option U.den:=if h:T=U then some (h▸x)else none
def Zt8: (T:Ty)->T.den->Nat->TV->Option T.den| .pair a _,x,0,y=>(Ky a y.1 y.2).map fun z=>(z,x.2)| .pair _ b,x,i+1,y=>(Zt8 b x.2 i y).map fun z=>(x.1,z)|_,_,_,_=>none
def Fl.snd:Fl->Fl| .p _ g=>g|f=>f
def Zuj:Fl->Nat->Fl| .p a _,0=>a| .p _ b,i+1=>Zuj b i|f,_=>f
def Zqb:Fl->Nat->Fl->Fl| .p _ b,0,g=> .p g b| .p a b,i+1,g=> .p a (Zqb b i g)|f,0,g=> .p g f|f,i+1,g=> .p f (Zqb f i g)
theorem Zb5{U T:Ty}{x:T.den}{y:U.den}(h:Ky U T x=some y): (⟨T,x⟩:TV)=⟨U,y⟩:=by
 unfold Ky at h;split at h
 ·rename_i e;subst e;simp at h;subst h;rfl
 ·cases h
theorem Zq7{a b:Ty}{f:Fl}{x: (Ty.pair a b).den}{vs:List Value}{S:List Nat}(h:rdF w X B (.pair a b) f x vs S):
  ∃v1 v2 S1 S2,vs=v1++v2/\S=S1++S2/\rdF w X B a (Zuj f 0) x.1 v1 S1/\rdF w X B b f.snd x.2 v2 S2:=by
 cases f with
 |u o=>
  unfold rdF at h;obtain⟨v1,v2,S1,S2,e,k,c,i⟩:=h;exact⟨v1,v2,S1,S2,e,k,by unfold rdF Zuj;exact c,by unfold rdF;exact i⟩
 |p f g=>exact h
 |d=>
  unfold rdF at h;obtain⟨c,i,l⟩:=h;refine⟨vs.take a.size,vs.drop a.size,[],[],by simp,by simp[l],?_,?_⟩
  ·unfold rdF Zuj;exact⟨by simp[c,Ty.size],fun u j=>i u (List.mem_of_mem_take j),rfl⟩
  ·unfold rdF;exact⟨by simp[c,Ty.size],fun u j=>i u (List.mem_of_mem_drop j),rfl⟩
theorem Qoh: ∀{T:Ty} {f:Fl} {x:T.den} {i:Nat} {y:TV} {vs:List Value} {S:List Nat},fld T x i=some y->rdF w X B T f x vs S->
  ∃pre mid post S1 S2 S3,vs=pre++ (mid++post)/\S=S1++ (S2++S3)/\pre.length=Ze2 T i/\rdF w X B y.1 (Zuj f i) y.2 mid S2/\
   ∀(g:Fl) (y':TV) (mid':List Value) (S2':List Nat) (x':T.den),Zt8 T x i y'=some x'->rdF w X B y'.1 g y'.2 mid' S2'->
    rdF w X B T (Zqb f i g) x' (pre++ (mid'++post)) (S1++ (S2'++S3))
 | .pair a b,f,x,0,y,vs,S,c,h=>by
  obtain⟨j,l,S1,S2,e,m,k,n⟩:=Zq7 h;simp only[fld,Osi]at c;subst c;refine⟨[],j,l,[],S1,S2,by simpa using e,by simpa using m,by simp[Ze2],k,?_⟩;intro g y' mid' S2' x' d o;simp only[Zt8,Option.map_eq_some_iff]at d;obtain⟨z,q,rfl⟩:=d;obtain⟨F,G⟩:=y';have:=Zb5 q;cases this;have:Zqb f 0 g= .p g f.snd:=by cases f<;>rfl
  rw[this];exact⟨mid',l,S2',S2,by simp,by simp,o,n⟩
 | .pair a b,f,x,i+1,y,vs,S,c,h=>by
  obtain⟨j,l,S1,S2,e,m,k,n⟩:=Zq7 h;simp only[fld]at c;obtain⟨pre,mid,post,r,s,t,u,v,A,C,D⟩:=Qoh c n;refine⟨j++pre,mid,post,S1++r,s,t,by rw[e,u];simp,by rw[m,v];simp,by simp[Ze2,X8 k,A],?_,?_⟩
  ·have:Zuj f (i+1)=Zuj f.snd i:=by cases f<;>simp[Zuj]<;>(cases i<;>rfl)
   rw[this];exact C
  ·intro g y' mid' S2' x' d o;simp only[Zt8,Option.map_eq_some_iff]at d;obtain⟨z,q,rfl⟩:=d;have:=D g y' mid' S2' z q o;have E:Zqb f (i+1) g= .p (Zuj f 0) (Zqb f.snd i g):=by cases f<;>rfl
   rw[E];exact⟨j,_,S1,_,by simp,by simp,k,this⟩
 | .unit,_,_,_,_,_,_,c,_| .int _,_,_,_,_,_,_,c,_| .bool,_,_,_,_,_,_,c,_| .fnc _,_,_,_,_,_,_,c,_| .str,_,_,_,_,_,_,c,_| .slice ..,_,_,_,_,_,_,c,_| .err,_,_,_,_,_,_,c,_| .hid _,_,_,_,_,_,_,c,_| .sptr ..,_,_,_,_,_,_,c,_| .clo ..,_,_,_,_,_,_,c,_| .arr ..,_,_,_,_,_,_,c,_=>by simp[fld]at c
def Zdx: (T:Ty)->T.den->List Nat->Option TV
 |T,x,[]=>some ⟨T,x⟩
 |T,x,i::p=>match fld T x i with|some y=>Zdx y.1 y.2 p|none=>none
def J1:Ty->List Nat->Nat
 |_,[]=>0
 |T,i::p=>Ze2 T i+ (match Zx8 T i with|some U=>J1 U p|none=>0)
def Z8a: (T:Ty)->T.den->List Nat->TV->Option T.den
 |T,_,[],y=>Ky T y.1 y.2
 |T,x,i::p,y=>match fld T x i with
  |some z=>match Z8a z.1 z.2 p y with|some z'=>Zt8 T x i ⟨z.1,z'⟩|none=>none
  |none=>none
def Zkq:Fl->List Nat->Fl|f,[]=>f|f,i::p=>Zkq (Zuj f i) p
def Zp4:Fl->List Nat->Fl->Fl|_,[],g=>g|f,i::p,g=>Zqb f i (Zp4 (Zuj f i) p g)
theorem Z58{T:Ty}{x:T.den}{i:Nat}{y:TV}(h:fld T x i=some y):Zx8 T i=some y.1:=by
 induction T generalizing i y with
 |pair a b d c=>
  cases i with
  |zero=>simp only[fld,Osi]at h;subst h;rfl
  |succ i=>exact c (x:=x.2) h
 |_=>simp[fld]at h
theorem Zfc: ∀{p:List Nat} {T:Ty} {f:Fl} {x:T.den} {y:TV} {vs:List Value} {S:List Nat},Zdx T x p=some y->rdF w X B T f x vs S->
  ∃pre mid post S1 S2 S3,vs=pre++ (mid++post)/\S=S1++ (S2++S3)/\pre.length=J1 T p/\rdF w X B y.1 (Zkq f p) y.2 mid S2/\
   ∀(g:Fl) (y':TV) (mid':List Value) (S2':List Nat) (x':T.den),Z8a T x p y'=some x'->rdF w X B y'.1 g y'.2 mid' S2'->
    rdF w X B T (Zp4 f p g) x' (pre++ (mid'++post)) (S1++ (S2'++S3))
 | [],T,f,x,y,vs,S,a,h=>by
  simp only[Zdx,Osi]at a;subst a;refine⟨[],vs,[],[],S,[],by simp,by simp,by simp[J1],h,?_⟩;intro g y' mid' S2' x' b e;simp only[Z8a]at b;obtain⟨E,F⟩:=y';cases Zb5 b;simpa[Zp4]using e
 |i::p,T,f,x,y,vs,S,a,h=>by
  simp only[Zdx]at a;cases hz:fld T x i with
  |none=>rw[hz]at a;cases a
  |some z=>
   rw[hz]at a;obtain⟨pre,mid,post,S1,S2,S3,k,l,n,o,q⟩:=Qoh hz h;obtain⟨d,mid',c,r,s,t,u,v,A,C,D⟩:=Zfc a o;refine⟨pre++d,mid',c++post,S1++r,s,t++S3,by rw[k,u];simp,by rw[l,v];simp,by simp[J1,Z58 hz,n,A],C,?_⟩;intro g y' m S2' x' b e;simp only[Z8a,hz]at b;cases hq:Z8a z.1 z.2 p y' with
   |none=>rw[hq]at b;cases b
   |some j=>
    rw[hq]at b;have:=q (Zp4 (Zuj f i) p g) ⟨z.1,j⟩ _ _ x' b (D g y' m S2' j hq e);simpa[Zp4]using this
theorem Q6m: ∀{T:Ty} {x x':T.den} {i:Nat} {y:TV},fld T x i=some y-> ∃y',fld T x' i=some y'/\y'.1=y.1:=by
 intro T
 induction T with
 |pair a b d c=>
  intro x x' i y h;cases i with
  |zero=>simp only[fld,Osi]at h;subst h;exact⟨⟨a,x'.1⟩,rfl,rfl⟩
  |succ i=>exact c (x':=x'.2) h
 |_=>intro x x' i y h;simp[fld]at h
theorem Z57: ∀{p:List Nat} {T:Ty} {x x':T.den} {y:TV},Zdx T x p=some y-> ∃y',Zdx T x' p=some y'/\y'.1=y.1
 | [],T,x,x',y,h=>by simp only[Zdx,Osi]at h;subst h;exact⟨⟨T,x'⟩,rfl,rfl⟩
 |i::p,T,x,x',y,h=>by
  simp only[Zdx]at h⊢;cases hz:fld T x i with
  |none=>rw[hz]at h;cases h
  |some z=>
   rw[hz]at h;obtain⟨b,c,a⟩:=Q6m (x':=x') hz;rw[c];obtain⟨Z,e⟩:=z;obtain⟨f,d⟩:=b;simp only at a;subst a;exact Z57 h
theorem Q28{n:Nat}{t:Ty}{f:Fl}{x: (Ty.arr n t).den}{vs:List Value}{S:List Nat}(h:rdF w X B (.arr n t) f x vs S)(hl:f.live=true): ∃c,f= .u c:=by
 cases f with
 |u c=>exact⟨c,rfl⟩
 |p a b=>simp[rdF]at h
 |d=>simp[Fl.live]at hl
end
theorem Zra{α:Type}{r:α->List Value->List Nat->Prop}{sz:Nat}(hr: ∀x v S,r x v S->v.length=sz): ∀{l:List α} {vs:List Value} {S:List Nat} {i:Nat} (hi:i<l.length),
  Zaj r l vs S-> ∃pre mid post S1 S2 S3,vs=pre++ (mid++post)/\S=S1++ (S2++S3)/\pre.length=i*sz/\r l[i] mid S2/\
   Zaj r (l.take i) pre S1/\Zaj r (l.drop (i+1)) post S3
 | [],_,_,_,hi,_=>by simp at hi
 |x::l,vs,S,0,_,⟨a,f,S1,S2,c,d,b,e⟩=>⟨[],a,f,[],S1,S2,by simp[c],by simp[d],by simp,b,⟨rfl,rfl⟩,e⟩
 |x::l,vs,S,i+1,hi,⟨a,f,S1,S2,c,d,b,e⟩=>by
  obtain⟨pre,mid,post,g,h,j,k,m,n,o,p,q⟩:=Zra hr (i:=i) (by simpa using hi) e;exact⟨a++pre,mid,post,S1++g,h,j,by simp[c,k],by simp[d,m],by simp[hr _ _ _ b,n,Nat.add_mul];omega,by simpa using o,
   ⟨a,pre,S1,g,rfl,rfl,b,p⟩,by simpa using q⟩
end Go.Am
namespace Go.Am
open Go.RowKit
inductive Tm where
 |junk|tup
 |val (T:Ty) (f:Fl) (x:T.den)
 |box (e:TypeId) (T:Ty) (f:Fl) (x:T.den)
 |ptr (r:Nat) (p:List Nat)
 |shp (T:Ty) (x:T.den)
 |bor (r:Nat) (p:List Nat)
 |elp (r:Nat) (p:List Nat) (i:Int) (q:List Nat)
 |gd (g:Nat) (want:Bool) (t:Tm)
 |aep (r:Nat) (p:List Nat) (i:Int)
 |pls (h:Bool) (l:List (Nat×List Nat))
 |bel (r:Nat) (p:List Nat) (i:Int) (q:List Nat)
 |cl (f:FuncId) (l:List Nat)
inductive Key where
 |m (t:Nat)|c (t i:Nat)
def Key.beq:Key->Key->Bool
 | .m t,.m u=>Nat.beq t u
 | .c t i,.c u j=>match Nat.beq t u with|true=>Nat.beq i j|false=>false
 |_,_=>false
theorem Key.beq_true{k j:Key}:Key.beq k j=true↔k=j:=by
 cases k<;>cases j<;>simp[Key.beq]
 case c.c t i u j=>
  cases h:Nat.beq t u
  ·simp;intro e;rw[e,Nat.beq_refl]at h;cases h
  ·simp[Onb h]
instance:DecidableEq Key:=fun k j=>match h:Key.beq k j with
 |true=>isTrue (Key.beq_true.1 h)
 |false=>isFalse fun e=>by rw[Key.beq_true.2 e]at h;cases h
structure St where
 env:List (Key×Tm)
 dirty:List Nat
 lent:List Nat:=[]
structure K9 where
 G:World->Prop
 GB:Nat->Prop
 lt: ∀w b,G w->GB b->b<w.heap.size
 stays: ∀w w',G w->(∀b,GB b->w'.heap[b]? =w.heap[b]?)->G w'
 soft:Bool:=false
def K9.none:K9:={G:=fun _=>True,GB:=fun _=>False,lt:=fun _ _ _ h=>h.elim,stays:=fun _ _ h _=>h}
def Zza(u v:Value):Prop:=u=v\/(∃k x y,u= .int k x/\v= .int k y)\/(∃x y,u= .bool x/\v= .bool y)\/(∃x y,u= .string x/\v= .string y)
theorem Zza.refl(u:Value):Zza u u:= .inl rfl
theorem Zza.trans{u v x:Value}(h:Zza u v)(h':Zza v x):Zza u x:=by
 rcases h with rfl| ⟨k,a,b,rfl,rfl⟩| ⟨a,b,rfl,rfl⟩| ⟨a,b,rfl,rfl⟩
 ·exact h'
 ·rcases h' with rfl| ⟨_,_,c,e,rfl⟩| ⟨_,_,e,_⟩| ⟨_,_,e,_⟩
  ·exact .inr (.inl ⟨_,_,_,rfl,rfl⟩)
  ·simp only[Value.int.injEq]at e;obtain⟨rfl,rfl⟩:=e;exact .inr (.inl ⟨_,_,_,rfl,rfl⟩)
  ·cases e
  ·cases e
 ·rcases h' with rfl| ⟨_,_,c,e,rfl⟩| ⟨_,_,e,rfl⟩| ⟨_,_,e,_⟩
  ·exact .inr (.inr (.inl ⟨_,_,rfl,rfl⟩))
  ·cases e
  ·exact .inr (.inr (.inl ⟨_,_,rfl,rfl⟩))
  ·cases e
 ·rcases h' with rfl| ⟨_,_,c,e,rfl⟩| ⟨_,_,e,_⟩| ⟨_,_,e,rfl⟩
  ·exact .inr (.inr (.inr ⟨_,_,rfl,rfl⟩))
  ·cases e
  ·cases e
  ·exact .inr (.inr (.inr ⟨_,_,rfl,rfl⟩))
def Zn4(L:Nat->Prop)(w w':World):Prop:= ∀ad u,L ad.block->w.cell? ad=some u-> ∃u',w'.cell? ad=some u'/\Zza u u'
theorem Zn4.trans{L:Nat->Prop}{w w' w2:World}(h:Zn4 L w w')(h':Zn4 L w' w2):Zn4 L w w2:=fun a u b c=>by
 obtain⟨d,e,f⟩:=h a u b c;obtain⟨g,i,j⟩:=h' a d b e;exact⟨g,i,f.trans j⟩
def Zt6(w:World)(b:Nat):Prop:= ∃c e,w.heap[b]? =some (.cells c e (0,0))
theorem Zt6.lt{w:World}{b:Nat}(h:Zt6 w b):b<w.heap.size:=by
 obtain⟨c,e,h⟩:=h;exact(Array.getElem?_eq_some_iff.1 h).1
def Zth(w0:World)(L:Nat->Prop):K9 where
 G w:=Zn4 L w0 w/\ ∀b,L b->Zt6 w b
 GB:=L
 lt _ b h hb:=(h.2 b hb).lt
 stays w w' h hL:=⟨h.1.trans fun ad u hb hu=>⟨u,by rw[World.cell?_of_block (w:=w) (hL _ hb)];exact hu,Zza.refl u⟩,fun b hb=>by
  obtain⟨c,e,hc⟩:=h.2 b hb;exact⟨c,e,by rw[hL b hb];exact hc⟩⟩
 soft:=true
def big:Nat:=1048576
def Zlw(gh:Nat->Value)(a:Act)(t:Nat):Value:=match a.tmps[t]? with|some v=>v|none=>gh t
def Qp(gh:Nat->Value)(a:Act):Key->Value
 | .m t=>Zlw gh a t
 | .c t i=>match Zlw gh a t with
  | .tuple vs=>vs.getD i undef
  |_=>undef
structure Zam(g:K9) where
 W:World
 B:Nat
 Y:Nat->Prop
 L:Nat->Prop
 X0:Nat->Prop
 fix:List (Nat×Value)
 bB:B<=W.heap.size
 yW: ∀k,Y k->k<W.heap.size
 yL: ∀k,Y k-> ¬L k
 fr:g.soft=true-> ∀k,g.GB k-> ¬Y k
 gh:Nat->Value:=fun _=>undef
 ghU: ∀t,t<big->gh t=undef:=by intro _ _;rfl
def Zam.mine{g:K9}(z:Zam g)(k:Nat):Prop:=z.W.heap.size<=k\/z.L k
theorem Zam.sep{g:K9}(z:Zam g){k b:Nat}(h:z.Y k)(hb:z.mine b):k≠b:=fun e=>by
 subst e;rcases hb with hb|hb
 ·have:=z.yW k h;omega
 ·exact z.yL k h hb
structure Zam.below{g:K9}(z:Zam g)(w:World):Prop where
 os:w.os=z.W.os
 tape:w.tape=z.W.tape
 output:w.output=z.W.output
 size:z.W.heap.size<=w.heap.size
 block: ∀k,z.Y k->w.heap[k]? =z.W.heap[k]?
theorem Zam.below.sizeB{g:K9}{z:Zam g}{w:World}(h:z.below w):z.B<=w.heap.size:=Nat.le_trans z.bB h.size
theorem Zam.below.new{g:K9}{z:Zam g}{w:World}(h:z.below w):z.mine w.heap.size:= .inl h.size
theorem Zam.below.step{g:K9}{z:Zam g}{w w':World}(h:z.below w)(hb:Below w.heap.size w w'):z.below w':=
 ⟨hb.os.trans h.os,hb.tape.trans h.tape,hb.output.trans h.output,Nat.le_trans h.size hb.size,fun k hk=>(hb.block k (Nat.lt_of_lt_of_le (z.yW k hk) h.size)).trans (h.block k hk)⟩
def Zam.plain(g:K9)(w:World)(hs:g.soft=false):Zam g:={fr:=fun h=>Bool.noConfusion (hs.symm.trans h),W:=w,B:=w.heap.size,Y:=(· <w.heap.size),L:=fun _=>False,X0:=(· <w.heap.size),fix:=[],bB:=Nat.le_refl _,yW:=fun _ h=>h,yL:=fun _ _ h=>h}
def Zf8:List (Key×Tm)->Key->Tm
 | [],_=> .junk
 | (k,t)::r,j=>match Key.beq k j with
  |true=>t
  |false=>Zf8 r j
def St.get(s:St)(k:Key):Tm:=Zf8 s.env k
def St.foul(s:St)(r:Nat):Bool:=s.dirty.any (Nat.beq r)
def Zkx(r:Nat):Nat:=r+1099511627776
def Z88(r:Nat):Nat:=r+2199023255552
def Z87(r i:Nat):Nat:=r+ (i+3)*1099511627776
def St.bad(s:St)(r:Nat):List Nat->Bool| []=>s.foul r||s.foul (Z88 r)|i::_=>s.foul r||s.foul (Z87 r i)
theorem St.bad_foul{s:St}{r:Nat}: ∀{p:List Nat},s.bad r p=false->s.foul r=false
 | [],h=>by simp only[St.bad,Bool.or_eq_false_iff]at h;exact h.1
 |_::_,h=>by simp only[St.bad,Bool.or_eq_false_iff]at h;exact h.1
theorem Z2(k:Key)(t:Tm)(s:List (Key×Tm))(j:Key):Zf8 ((k,t)::s) j=if k=j then t else Zf8 s j:=by
 simp only[Zf8];cases h:Key.beq k j
 ·have:k≠j:=fun e=>by rw[Key.beq_true.2 e]at h;cases h
  simp[this]
 ·simp[Key.beq_true.1 h]
def Key.t:Key->Nat| .m t=>t| .c t _=>t
theorem Zmm{gh:Nat->Value}{a:Act}{d:Nat}{v:Value}(h:d<a.tmps.size):Qp gh (a.put (some d) v) (.m d)=v:=by
 simp[Qp,Zlw,Act.put,h]
theorem Zcm{gh:Nat->Value}{a:Act}{d:Nat}{v:Value}{k:Key}(h:k.t≠d):Qp gh (a.put (some d) v) k=Qp gh a k:=by
 have: (a.tmps.setIfInBounds d v)[k.t]? =a.tmps[k.t]? :=by rw[Array.getElem?_setIfInBounds];simp[Ne.symm h]
 cases k<;>simp only[Key.t]at this<;>simp[Qp,Zlw,Act.put,this]
def Xi(gh:Nat->Value)(w:World)(s:St)(F:Key->List Nat)(a:Act)(r:Nat)(p:List Nat)(v:Value)(U:Ty):Prop:=
 match s.get (.m r)with
 | .val T _ _=>p=[]/\U=T/\v=Qp gh a (.m r)
 | .box e T _ x=> ∃b c S y,F (.m r)=b::S/\w.heap[b]? =some (.cells c e (0,0))/\Zdx T x p=some y/\U=y.1/\v=Xz y.1 ((c.toList.drop (J1 T p)).take y.1.size)
 |_=>False
def atP(s:St)(F:Key->List Nat)(r:Nat)(p:List Nat)(v:Value):Prop:=∃e T f x b S',s.get (.m r)= .box e T f x/\F (.m r)=b::S'/\v= .pointer (some ⟨b,J1 T p,none⟩)
def Xcx(w:World)(X:Nat->Prop)(s:St)(F:Key->List Nat)(h:Bool)(l:List (Nat×List Nat))(v:Value):Prop:=
 ∃(ad:Addr) (us:List Value),X ad.block/\(∀j u,us[j]? =some u->w.cell? (ad.add j)=some u)/\us.length=l.length/\(∀(j:Nat) (q:Nat×List Nat),l[j]? =some q-> ∃u,us[j]? =some u/\atP s F q.1 q.2 u)/\
  (match h with|true=>v= .slice (some ad) l.length l.length/\l.length<=maxLen|false=>v= .pointer (some ad))
def clV(s:St)(F:Key->List Nat)(f:FuncId)(l:List Nat)(v:Value):Prop:=∃us:List Value,v= .func (.func f) #[] us.toArray/\us.length=l.length/\ ∀(j:Nat) (q:Nat),l[j]? =some q-> ∃u,us[j]? =some u/\atP s F q [] u
def vt(gh:Nat->Value)(w:World)(X:Nat->Prop)(B:Nat)(s:St)(F:Key->List Nat)(a:Act)(v:Value)(S:List Nat):Tm->Prop| .junk| .tup=>S=[]| .val T f x=> ∃vs,v=Xz T vs/\rdF w X B T f x vs S| .box e T f x=> ∃b c S',v= .pointer (some ⟨b,0,none⟩)/\S=b::S'/\w.heap[b]? =some (.cells c e (0,0))/\rdF w X B T f x c.toList S'| .ptr r p=>S=[]/\ ∃e T f x b S',s.get (.m r)= .box e T f x/\F (.m r)=b::S'/\v= .pointer (some ⟨b,J1 T p,none⟩)| .shp T x=>S=[]/\ ∃ad vs,v= .pointer (some ad)/\X ad.block/\(∀j u,vs[j]? =some u->w.cell? (ad.add j)=some u)/\rd w X B false T x vs []| .bor r p=>S=[]/\(s.bad r p=false-> ∃U,Xi gh w s F a r p v U)| .elp r p i q=>S=[]/\(s.bad r p=false-> ∃e t ad n cap,Xi gh w s F a r p (.slice (some ad) n cap) (.slice e t)/\0<=i/\i<n/\ v= .pointer (some (ad.add (i.toNat*t.size+J1 t q))))| .aep r p i=>S=[]/\ ∃e T f x b S' n t y,s.get (.m r)= .box e T f x/\F (.m r)=b::S'/\Zdx T x p=some ⟨.arr n t,y⟩/\0<=i/\i<n/\v= .pointer (some ⟨b,J1 T p+i.toNat*t.size,none⟩)| .pls h l=>S=[]/\Xcx w X s F h l v| .bel r p i q=>S=[]/\(s.bad r p=false->s.foul (Zkx r)=false-> ∃e t ad n cap x0 y cs,Xi gh w s F a r p (.slice (some ad) n cap) (.slice e t)/\0<=i/\i<n/\ ad.block∈F (.m r)/\Zdx t x0 q=some y/\v=Xz y.1 cs/\cs.length=y.1.size/\ ∀(j:Nat) u,cs[j]? =some u->w.cell? (ad.add (i.toNat*t.size+J1 t q+j))=some u)| .cl f l=>S=[]/\clV s F f l v| .gd g want t=>s.foul g=false->s.get (.m g)≠ .junk/\(Qp gh a (.m g)= .bool want->vt gh w X B s F a v S t)/\(Qp gh a (.m g)≠ .bool want->S=[]/\v=undef)
structure R{g:K9}(n:Nat)(W0:Zam g)(w:World)(X:Nat->Prop)(F:Key->List Nat)(H:List Nat)(s:St)(a:Act):Prop where
 size:a.tmps.size=n
 defers:a.defers=[]
 below:W0.below w
 glob:g.G w
 gx: ∀b,g.GB b->X b
 xs:g.soft=true-> ∀b,X b->g.GB b
 fix: ∀p,p∈W0.fix->p.1∈s.lent/\Qp W0.gh a (.m p.1)=p.2
 xlt: ∀b,X b->b<w.heap.size
 xin: ∀b,X b->W0.X0 b\/W0.mine b
 x0: ∀b,W0.X0 b->X b
 own: ∀k b,b∈F k->W0.mine b/\b<w.heap.size/\ ¬X b
 nodup: ∀k,(F k).Nodup
 disj: ∀k k' b,b∈F k->b∈F k'->k=k'
 hown: ∀b,b∈H->W0.mine b/\b<w.heap.size/\ ¬X b
 hnodup:H.Nodup
 hdisj: ∀k b,b∈F k->b∉H
 comps: ∀d i,s.get (.c d i)≠ .junk->s.get (.m d)= .tup/\ ∃vs,Qp W0.gh a (.m d)= .tuple vs/\i<vs.size
 slots: ∀k,vt W0.gh w X W0.B s F a (Qp W0.gh a k) (F k) (s.get k)
section
variable {g:K9} {W0:Zam g} {w w':World} {X X':Nat->Prop} {B n:Nat} {own:Bool} {s:St} {F:Key->List Nat} {a:Act} {H:List Nat} {gh:Nat->Value}
theorem Zj7{r:Nat}{p:List Nat}{v:Value}{U:Ty}(h:Xi gh w s F a r p v U)(hF: ∀b∈F (.m r),w'.heap[b]? =w.heap[b]?):Xi gh w' s F a r p v U:=by
 unfold Xi at*
 split at h
 ·exact h
 ·obtain⟨b,c,S,y,d,e,f⟩:=h;exact⟨b,c,S,y,d,by rw[hF b (by rw[d];simp)];exact e,f⟩
 ·exact h
theorem Zr7{s2:St}{F2:Key->List Nat}(hX: ∀b,X b->X' b)(hw: ∀b,X b->w'.heap[b]? =w.heap[b]?)(ha: ∀r p v,atP s F r p v->atP s2 F2 r p v){h:Bool}{l:List (Nat×List Nat)}{v:Value}
  (hv:Xcx w X s F h l v):Xcx w' X' s2 F2 h l v:=by
 obtain⟨a,d,c,e,f,g,i⟩:=hv;refine⟨a,d,hX _ c,fun j u k=> ?_,f,fun j q m=> ?_,i⟩
 ·have n: (a.add j).block=a.block:=by unfold Addr.add;split<;>rfl
  rw[World.cell?_of_block (w:=w) (by rw[n];exact hw _ c)];exact e j u k
 ·obtain⟨u,o,t⟩:=g j q m;exact⟨u,o,ha _ _ _ t⟩
theorem Zjy(hX: ∀b,X b->X' b)(hw: ∀b,X b->w'.heap[b]? =w.heap[b]?)(hF: ∀k b,b∈F k->w'.heap[b]? =w.heap[b]?){v:Value}{S:List Nat}(hS: ∀b∈S,w'.heap[b]? =w.heap[b]?): ∀{t:Tm},
  vt gh w X B s F a v S t->vt gh w' X' B s F a v S t
 | .junk,h| .tup,h=>h
 | .val T f x,⟨C,d,o⟩=>⟨C,d,Zq6 hX hw o hS⟩
 | .box e T f x,⟨b,c,K,d,o,D,E⟩=>
  ⟨b,c,K,d,o,by rw[hS b (by rw[o];simp)];exact D,Zq6 hX hw E fun L G=>hS L (by rw[o];simp[G])⟩
 | .ptr r p,h=>h
 | .aep r p i,h=>h
 | .pls _ _,⟨l,h⟩=>⟨l,Zr7 hX hw (fun _ _ _ h=>h) h⟩
 | .cl _ _,h=>h
 | .bel r p i q,⟨l,d⟩=>⟨l,fun A M=>let⟨e,t,z,n,cap,x0,y,cs,h,k1,k2,k3,k4,k5,k6,k7⟩:=d A M;⟨e,t,z,n,cap,x0,y,cs,Zj7 h (hF (.m r)),k1,k2,k3,k4,k5,k6,fun j u H=>by
   have I: ∀m,(z.add m).block=z.block:=fun m=>by unfold Addr.add;split<;>rfl
   rw[World.cell?_of_block (w:=w) (by rw[I];exact hF (.m r) _ k3)];exact k7 j u H⟩⟩
 | .shp T x,⟨l,z,C,d,o,D,E⟩=>
  ⟨l,z,C,d,hX _ o,fun j u H=>by
   have I: (z.add j).block=z.block:=by unfold Addr.add;split<;>rfl
   rw[World.cell?_of_block (w:=w) (by rw[I];exact hw _ o)];exact D j u H,Zdd hX hw E (by simp)⟩
 | .bor r p,⟨l,d⟩=>⟨l,fun A=>let⟨U,h⟩:=d A;⟨U,Zj7 h (hF (.m r))⟩⟩
 | .elp r p i q,⟨l,d⟩=>⟨l,fun A=>let⟨e,t,z,n,cap,h,h'⟩:=d A;⟨e,t,z,n,cap,Zj7 h (hF (.m r)),h'⟩⟩
 | .gd g J t,h=>fun A=>let⟨l,d,o⟩:=h A;⟨l,fun N=>Zjy hX hw hF hS (d N),o⟩
theorem R.world(h:R n W0 w X F H s a)(hb:W0.below w')(hs:w.heap.size<=w'.heap.size)(hX: ∀b,X b->w'.heap[b]? =w.heap[b]?)
  (hF: ∀k b,b∈F k->w'.heap[b]? =w.heap[b]?):R n W0 w' X F H s a:=
 {h with
  below:=hb
  glob:=g.stays _ _ h.glob fun b hb=>hX b (h.gx b hb)
  xlt:=fun b c=>Nat.lt_of_lt_of_le (h.xlt b c) hs
  own:=fun k b c=>let⟨h1,h2,h3⟩:=h.own k b c;⟨h1,Nat.lt_of_lt_of_le h2 hs,h3⟩
  hown:=fun b c=>let⟨h1,h2,h3⟩:=h.hown b c;⟨h1,Nat.lt_of_lt_of_le h2 hs,h3⟩
  slots:=fun k=>Zjy (fun _ h=>h) hX hF (hF k) (h.slots k)}
theorem R.drop{S:List Nat}(h:R n W0 w X F (S++H) s a):R n W0 w X F H s a:=
 {h with
  hown:=fun b c=>h.hown b (by simp[c])
  hnodup:=(List.nodup_append.1 h.hnodup).2.1
  hdisj:=fun k b c d=>h.hdisj k b c (by simp[d])}
theorem R.hand{S:List Nat}(h:R n W0 w X F H s a)(hS: ∀b∈S,W0.mine b/\b<w.heap.size/\ ¬X b)(hn:S.Nodup)(hF: ∀k b,b∈F k->b∉S)(hH: ∀b∈S,b∉H):
  R n W0 w X F (S++H) s a:=
 {h with
  hown:=fun b c=>(List.mem_append.1 c).elim (hS b) (h.hown b)
  hnodup:=List.nodup_append.2 ⟨hn,h.hnodup,fun x hx y d e=>hH x hx (by rw[e];exact d)⟩
  hdisj:=fun k b c f=>(List.mem_append.1 f).elim (hF k b c) (h.hdisj k b c)}
theorem R.give{S:List Nat}(hs:g.soft=false)(h:R n W0 w X F (S++H) s a):R n W0 w (fun b=>X b\/b∈S) F H s a:=
 {h.drop with
  gx:=fun b c=> .inl (h.gx b c)
  xs:=fun e=>by rw[hs]at e;cases e
  xlt:=fun b c=>c.elim (h.xlt b) fun c=>(h.hown b (by simp[c])).2.1
  xin:=fun b c=>c.elim (h.xin b) fun c=> .inr (h.hown b (by simp[c])).1
  x0:=fun b c=> .inl (h.x0 b c)
  own:=fun k b c=>let⟨h1,h2,h3⟩:=h.own k b c;⟨h1,h2,fun hx=>hx.elim h3 fun d=>h.hdisj k b c (by simp[d])⟩
  hown:=fun b c=>let⟨h1,h2,h3⟩:=h.hown b (by simp[c]);⟨h1,h2,fun hx=>hx.elim h3 fun d=>(List.nodup_append.1 h.hnodup).2.2 b d b c rfl⟩
  slots:=fun k=>Zjy (fun _ h=> .inl h) (fun _ _=>rfl) (fun _ _ _=>rfl) (fun _ _=>rfl) (h.slots k)}
def St.free(s:St)(d:Nat):Bool:= !(s.lent.any (Nat.beq d))
def Jy(s:St)(d:Nat):Bool:=
 match s.get (.m d)with
 | .box .. | .tup=>false
 |_=>s.free d
theorem Qpj{s:St}{d:Nat}(h:Jy s d=true):d∉s.lent:=by
 intro e;have:s.free d=false:=by simp only[St.free,Bool.not_eq_false',List.any_eq_true];exact⟨d,e,Nat.beq_refl d⟩
 unfold Jy at h;split at h
 ·cases h
 ·cases h
 ·rw[this]at h;cases h
def Y2(s:St)(d:Nat)(t:Tm):St:=
 {env:=(.m d,t)::s.env,dirty:=match s.get (.m d)with| .junk=>s.dirty|_=>d::s.dirty,lent:=s.lent}
theorem Zk0(s:St)(d:Nat)(t:Tm)(k:Key): (Y2 s d t).get k=if Key.m d=k then t else s.get k:=Z2 _ _ _ _
theorem Zsm(s:St)(d:Nat)(t:Tm): (Y2 s d t).get (.m d)=t:=by rw[Zk0];simp
theorem Z6k{s:St}{d:Nat}{t:Tm}{r:Nat}(h: (Y2 s d t).foul r=false):s.foul r=false/\(r=d->s.get (.m r)= .junk):=by
 unfold Y2 St.foul at*
 simp only at h;split at h
 ·rename_i a;exact⟨h,fun e=>by rw[e];exact a⟩
 ·simp only[List.any_cons,Bool.or_eq_false_iff]at h;refine⟨h.2,fun e=> ?_⟩;subst e;rw[Nat.beq_refl]at h;cases h.1
theorem Zxg{s s2:St}(h: ∀r,s2.foul r=false->s.foul r=false){r:Nat}: ∀{p:List Nat},s2.bad r p=false->s.bad r p=false
 | [],a=>by simp only[St.bad,Bool.or_eq_false_iff]at a⊢;exact⟨h _ a.1,h _ a.2⟩
 |_::_,a=>by simp only[St.bad,Bool.or_eq_false_iff]at a⊢;exact⟨h _ a.1,h _ a.2⟩
theorem Qrw{s:St}{d:Nat}{t:Tm}{r:Nat}{p:List Nat}(h: (Y2 s d t).bad r p=false):s.bad r p=false/\(r=d->s.get (.m r)= .junk):=
 ⟨Zxg (fun _ h=>(Z6k h).1) h,(Z6k (St.bad_foul h)).2⟩
abbrev Qg(F:Key->List Nat)(k:Key)(S:List Nat):Key->List Nat:=fun j=>if j=k then S else F j
theorem Qkt{d:Nat}{t:Tm}{v u:Value}{S:List Nat}{r:Nat}{p:List Nat}{U:Ty}(hr:r≠d)
  (h:Xi gh w s F a r p u U):Xi gh w (Y2 s d t) (Qg F (.m d) S) (a.put (some d) v) r p u U:=by
 have e: (Y2 s d t).get (.m r)=s.get (.m r):=by rw[Zk0];simp[Ne.symm hr]
 unfold Xi at*
 rw[e];cases hg:s.get (.m r)<;>rw[hg]at h<;>simp only at h⊢
 ·rw[Zcm (by simpa[Key.t]using hr)];exact h
 ·simpa[Qg,hr]using h
theorem Qcy{r:Nat}{p:List Nat}{v:Value}{U:Ty}(h:Xi gh w s F a r p v U):s.get (.m r)≠ .junk:=by
 intro e;unfold Xi at h;rw[e]at h;exact h
theorem Q10{d:Nat}{t:Tm}{S0:List Nat}(hd:Jy s d=true){r:Nat}{p:List Nat}{v:Value}(hu:atP s F r p v):atP (Y2 s d t) (Qg F (.m d) S0) r p v:=by
 obtain⟨e,T,f,x,b,g,a,h,i⟩:=hu;have c:r≠d:=fun j=>by subst j;simp[Jy,a]at hd
 refine⟨e,T,f,x,b,g,?_,by simp[Qg,c,h],i⟩;rw[Zk0];simp[Ne.symm c,a]
theorem Z3e{s2:St}{F2:Key->List Nat}(ha: ∀r p v,atP s F r p v->atP s2 F2 r p v){f:FuncId}{l:List Nat}{v:Value}(hv:clV s F f l v):clV s2 F2 f l v:=by
 obtain⟨a,b,c,d⟩:=hv;refine⟨a,b,c,fun j q e=> ?_⟩;obtain⟨u,g,h⟩:=d j q e;exact⟨u,g,ha _ _ _ h⟩
theorem Q1q{d:Nat}{t:Tm}{v0:Value}{S0:List Nat}(hd:Jy s d=true){v:Value}{S:List Nat}: ∀{u:Tm},
  vt gh w X B s F a v S u->vt gh w X B (Y2 s d t) (Qg F (.m d) S0) (a.put (some d) v0) v S u:=by
 intro u c
 induction u with
 |junk=>exact c
 |tup=>exact c
 |val T f x=>exact c
 |box e T f x=>exact c
 |shp T x=>exact c
 |ptr r p=>
  obtain⟨o,e,T,f,x,b,H,k,A,E⟩:=c;have z:r≠d:=fun I=>by subst I;simp[Jy,k]at hd
  refine⟨o,e,T,f,x,b,H,?_,by simp[Qg,z,A],E⟩;rw[Zk0];simp[Ne.symm z,k]
 |aep r p i=>
  obtain⟨o,e,T,f,x,b,H,n,G,y,k,A,E⟩:=c;have z:r≠d:=fun I=>by subst I;simp[Jy,k]at hd
  refine⟨o,e,T,f,x,b,H,n,G,y,?_,by simp[Qg,z,A],E⟩;rw[Zk0];simp[Ne.symm z,k]
 |bor r p=>
  obtain⟨o,k⟩:=c;refine⟨o,fun j=> ?_⟩;obtain⟨j,C⟩:=Qrw j;obtain⟨U,h⟩:=k j;have z:r≠d:=fun e=>Qcy h (C e);exact⟨U,Qkt z h⟩
 |elp r p i q=>
  obtain⟨o,k⟩:=c;refine⟨o,fun j=> ?_⟩;obtain⟨j,C⟩:=Qrw j;obtain⟨e,G,J,n,D,h,A,E,N⟩:=k j;have z:r≠d:=fun e=>Qcy h (C e);exact⟨e,G,J,n,D,Qkt z h,A,E,N⟩
 |bel r p i q=>
  obtain⟨o,k⟩:=c;refine⟨o,fun j O=> ?_⟩;obtain⟨j,C⟩:=Qrw j;obtain⟨e,G,J,n,D,P,y,Q,h,V,W,Y,Z⟩:=k j (Z6k O).1;have z:r≠d:=fun e=>Qcy h (C e);exact⟨e,G,J,n,D,P,y,Q,Qkt z h,V,W,by simpa[Qg,z]using Y,Z⟩
 |cl f l=>exact⟨c.1,Z3e (fun _ _ _ h=>Q10 hd h) c.2⟩
 |pls h l=>exact⟨c.1,Zr7 (fun _ h=>h) (fun _ _=>rfl) (fun _ _ _ h=>Q10 hd h) c.2⟩
 |gd g L u ih=>
  intro j;obtain⟨j,C⟩:=Z6k j;obtain⟨o,k,A⟩:=c j;have M:g≠d:=fun e=>o (C e);have hv:Qp gh (a.put (some d) v0) (.m g)=Qp gh a (.m g):=Zcm (by simpa[Key.t]using M);exact⟨by rw[Zk0];simpa[Ne.symm M]using o,fun K=>ih (k (by rw[<-hv];exact K)),fun K=>A (by rw[<-hv];exact K)⟩
theorem R.put{d:Nat}{t:Tm}{v:Value}{S:List Nat}(h:R n W0 w X F (S++H) s a)(hd:Jy s d=true)(hn:d<n)
  (hr:vt W0.gh w X W0.B s F a v S t):
  R n W0 w X (Qg F (.m d) S) H (Y2 s d t) (a.put (some d) v) where
 size:=by simp[Act.put,h.size]
 defers:=by simp[Act.put,h.defers]
 below:=h.below
 glob:=h.glob
 gx:=h.gx
 xs:=h.xs
 fix:=fun p o=>⟨(h.fix p o).1,by
  have:=Qpj hd;have q:p.1≠d:=fun e=>this (e▸(h.fix p o).1);rw[Zcm (by simpa[Key.t]using q)];exact(h.fix p o).2⟩
 xlt:=h.xlt
 xin:=h.xin
 x0:=h.x0
 own:=fun k b f=>by
  simp only[Qg]at f;split at f
  ·exact h.hown b (by simp[f])
  ·exact h.own k b f
 nodup:=fun k=>by
  simp only[Qg];split
  ·exact(List.nodup_append.1 h.hnodup).1
  ·exact h.nodup k
 disj:=fun k u b f g=>by
  simp only[Qg]at f g;split at f<;>split at g
  ·rename_i y z;rw[y,z]
  ·exact absurd (by simp[f]) (h.hdisj u b g)
  ·exact absurd (by simp[g]) (h.hdisj k b f)
  ·exact h.disj k u b f g
 hown:=h.drop.hown
 hnodup:=h.drop.hnodup
 hdisj:=fun k b f=>by
  simp only[Qg]at f;split at f
  ·exact fun A=>(List.nodup_append.1 h.hnodup).2.2 b f b A rfl
  ·exact h.drop.hdisj k b f
 comps:=fun r i l=>by
  rw[Zk0]at l⊢;simp only[reduceCtorEq,if_false]at l;obtain⟨x,C⟩:=h.comps r i l;by_cases e:d=r
  ·subst e;simp[Jy,x]at hd
  ·refine⟨by simpa[e]using x,?_⟩;rw[Zcm (a:=a) (v:=v) (k:= .m r) (d:=d) (by simpa[Key.t]using Ne.symm e)];exact C
 slots:=fun k=>by
  by_cases hk:k= .m d
  ·subst hk;rw[Zsm,Zmm (by rw[h.size];exact hn)];have:=Q1q (t:=t) (v0:=v) (S0:=S) hd hr;simpa[Qg]using this
  ·have e:Qg F (.m d) S k=F k:=by simp[Qg,hk]
   rw[Zk0,e];simp only[Ne.symm hk,if_false];by_cases j:k.t=d
   ·cases k with
    |m t=>simp[Key.t]at j;subst j;exact absurd rfl hk
    |c t i=>
     simp[Key.t]at j;subst j;have D:s.get (.c t i)= .junk:=Classical.byContradiction fun l=>by
      have:=(h.comps t i l).1;simp[Jy,this]at hd
     have:=h.slots (.c t i);rw[D]at this⊢;exact this
   ·rw[Zcm j];exact Q1q hd (h.slots k)
def Y6(s:St)(r:Nat)(t:Tm):St:={env:=(.m r,t)::s.env,dirty:=r::s.dirty,lent:=s.lent}
theorem Yp(s:St)(r:Nat)(t:Tm)(k:Key): (Y6 s r t).get k=if Key.m r=k then t else s.get k:=Z2 _ _ _ _
theorem Zqa{r' r:Nat}{t:Tm}(h: (Y6 s r t).foul r'=false):s.foul r'=false/\r'≠r:=by
 unfold Y6 St.foul at*
 simp only[List.any_cons,Bool.or_eq_false_iff]at h;refine⟨h.2,fun e=> ?_⟩;subst e;rw[Nat.beq_refl]at h;cases h.1
def Xdw(gh:Nat->Value)(w w':World)(s s2:St)(F F2:Key->List Nat)(a:Act)(d:Nat):Prop:=s2.get (.m d)≠ .junk/\ ∀p v U,Xi gh w s F a d p v U->Xi gh w' s2 F2 a d p v U
structure Z1g(gh:Nat->Value)(w w':World)(s s2:St)(F F2:Key->List Nat)(a:Act)(d:Nat)(t:Tm):Prop where
 lent:s2.lent=s.lent
 get: ∀k,s2.get k=if Key.m d=k then t else s.get k
 foul: ∀r,s2.foul r=false->s.foul r=false/\(r=d->s2.get (.m d)≠ .junk)
 bad: ∀r p,s2.bad r p=false->s.bad r p=false/\(r=d-> ∀v U,Xi gh w s F a d p v U->Xi gh w' s2 F2 a d p v U)
 el: ∀r,s2.foul r=false->s2.foul (Zkx r)=false->s.foul (Zkx r)=false/\r≠d
theorem Qkr{d:Nat}{t:Tm}{F2:Key->List Nat}:Z1g gh w w' s (Y6 s d t) F F2 a d t where
 lent:=rfl
 get:=Yp s d t
 foul _ h:=⟨(Zqa h).1,fun e=>absurd e (Zqa h).2⟩
 bad _ _ h:=⟨Zxg (fun _ h=>(Zqa h).1) h,fun e=>absurd e (Zqa (St.bad_foul h)).2⟩
 el _ h he:=⟨(Zqa he).1,(Zqa h).2⟩
theorem Qsm{s2:St}{d:Nat}{t:Tm}{u:Value}{S:List Nat}{r:Nat}{p:List Nat}{U:Ty}(ht:Z1g gh w w' s s2 F (Qg F (.m d) S) a d t)(hr:r≠d)
  (hF: ∀b∈F (.m r),w'.heap[b]? =w.heap[b]?) (h:Xi gh w s F a r p u U):Xi gh w' s2 (Qg F (.m d) S) a r p u U:=by
 have e:s2.get (.m r)=s.get (.m r):=by rw[ht.get];simp[Ne.symm hr]
 have h:=Zj7 h hF;unfold Xi at*
 rw[e];cases hg:s.get (.m r)<;>rw[hg]at h<;>simp only at h⊢
 ·exact h
 ·simpa[Qg,hr]using h
theorem Qon{s2:St}{d:Nat}{t:Tm}{S0:List Nat}{v:Value}{S:List Nat}(ht:Z1g gh w w' s s2 F (Qg F (.m d) S0) a d t)(hX: ∀b,X b->X' b)(hw: ∀b,X b->w'.heap[b]? =w.heap[b]?)
  (hF: ∀k b,k≠ .m d->b∈F k->w'.heap[b]? =w.heap[b]?) (hS: ∀b∈S,w'.heap[b]? =w.heap[b]?)
  (same: ∀e T f x b S',s.get (.m d)= .box e T f x->F (.m d)=b::S'-> ∃f' x' S'',t= .box e T f' x'/\S0=b::S''): ∀{u:Tm},
  vt gh w X B s F a v S u->vt gh w' X' B s2 (Qg F (.m d) S0) a v S u:=by
 intro u A;have M: ∀{r:Nat} {p:List Nat} {v:Value} {U:Ty},(r=d-> ∀v U,Xi gh w s F a d p v U->Xi gh w' s2 (Qg F (.m d) S0) a d p v U)->Xi gh w s F a r p v U->Xi gh w' s2 (Qg F (.m d) S0) a r p v U:=by
  intro r p v U hk hv;by_cases c:r=d
  ·subst c;exact hk rfl _ _ hv
  ·exact Qsm ht c (fun b=>hF (.m r) b (by simpa using c)) hv
 induction u with
 |junk=>exact A
 |tup=>exact A
 |val T f x=>exact Zjy (s:=s) (F:=fun _=>[]) (a:=a) (v:=v) (t:= .val T f x) hX hw (by simp) hS (show vt gh w X B s (fun _=>[]) a v S (.val T f x)from A)
 |box e T f x=>exact Zjy (s:=s) (F:=fun _=>[]) (a:=a) (v:=v) (t:= .box e T f x) hX hw (by simp) hS (show vt gh w X B s (fun _=>[]) a v S (.box e T f x)from A)
 |shp T x=>exact Zjy (s:=s) (F:=fun _=>[]) (a:=a) (v:=v) (t:= .shp T x) hX hw (by simp) hS (show vt gh w X B s (fun _=>[]) a v S (.shp T x)from A)
 |ptr r p=>
  obtain⟨D,e,T,f,x,b,S',o,C,E⟩:=A;by_cases c:d=r
  ·subst c;obtain⟨f',x',S'',rfl,rfl⟩:=same e T f x b S' o C;exact⟨D,e,T,f',x',b,S'',by rw[ht.get];simp,by simp[Qg],E⟩
  ·exact⟨D,e,T,f,x,b,S',by rw[ht.get];simp[c,o],by simp[Qg,Ne.symm c,C],E⟩
 |aep r p i=>
  obtain⟨D,e,T,f,x,b,S',n,I,y,o,C,E,K⟩:=A;by_cases c:d=r
  ·subst c;obtain⟨f',x',S'',rfl,rfl⟩:=same e T f x b S' o C;obtain⟨⟨T2,Z⟩,N,L⟩:=Z57 (x':=x') E;simp only at L;subst L;exact⟨D,e,T,f',x',b,S'',n,I,Z,by rw[ht.get];simp,by simp[Qg],N,K⟩
  ·exact⟨D,e,T,f,x,b,S',n,I,y,by rw[ht.get];simp[c,o],by simp[Qg,Ne.symm c,C],E,K⟩
 |bor r p=>
  obtain⟨D,o⟩:=A;refine⟨D,fun z=> ?_⟩;obtain⟨z,G⟩:=ht.bad r p z;obtain⟨U,h⟩:=o z;exact⟨U,M G h⟩
 |elp r p i q=>
  obtain⟨D,o⟩:=A;refine⟨D,fun z=> ?_⟩;obtain⟨z,G⟩:=ht.bad r p z;obtain⟨e,I,J,n,H,h,C,E,K⟩:=o z;exact⟨e,I,J,n,H,M G h,C,E,K⟩
 |bel r p i q=>
  obtain⟨D,o⟩:=A;refine⟨D,fun z O=> ?_⟩;obtain⟨O,c⟩:=ht.el r (St.bad_foul z) O;obtain⟨z,G⟩:=ht.bad r p z;obtain⟨e,I,J,n,H,x0,y,cs,h,N,L,V,k4,k5,k6,k7⟩:=o z O;have P: ∀m,(J.add m).block=J.block:=fun m=>by unfold Addr.add;split<;>rfl
  exact⟨e,I,J,n,H,x0,y,cs,M G h,N,L,by simpa[Qg,c]using V,k4,k5,k6,fun j u G=>by
   rw[World.cell?_of_block (w:=w) (by rw[P];exact hF (.m r) _ (by simpa using c) V)];exact k7 j u G⟩
 |cl f l=>
  refine⟨A.1,Z3e (fun r p v Q=> ?_) A.2⟩;obtain⟨e,T,f,x,b,S',o,C,E⟩:=Q;by_cases c:d=r
  ·subst c;obtain⟨f',x',S'',rfl,rfl⟩:=same e T f x b S' o C;exact⟨e,T,f',x',b,S'',by rw[ht.get];simp,by simp[Qg],E⟩
  ·exact⟨e,T,f,x,b,S',by rw[ht.get];simp[c,o],by simp[Qg,Ne.symm c,C],E⟩
 |pls hh l=>
  refine⟨A.1,Zr7 hX hw (fun r p v Q=> ?_) A.2⟩;obtain⟨e,T,f,x,b,S',o,C,E⟩:=Q;by_cases c:d=r
  ·subst c;obtain⟨f',x',S'',rfl,rfl⟩:=same e T f x b S' o C;exact⟨e,T,f',x',b,S'',by rw[ht.get];simp,by simp[Qg],E⟩
  ·exact⟨e,T,f,x,b,S',by rw[ht.get];simp[c,o],by simp[Qg,Ne.symm c,C],E⟩
 |gd g W u ih=>
  intro z;obtain⟨z,G⟩:=ht.foul g z;obtain⟨D,o,C⟩:=A z;refine⟨?_,fun P=>ih (o P),C⟩;by_cases Y:g=d
  ·subst Y;exact G rfl
  ·rw[ht.get];simpa[Ne.symm Y]using D
theorem R.turn'{s2:St}{r:Nat}{t:Tm}{S' H':List Nat}(h:R n W0 w X F H s a)(hT:Z1g W0.gh w w' s s2 F (Qg F (.m r) S') a r t)
  (hb:W0.below w') (hs:w.heap.size<=w'.heap.size) (hX: ∀b,X b->w'.heap[b]? =w.heap[b]?)
  (hF: ∀k b,k≠ .m r->b∈F k->w'.heap[b]? =w.heap[b]?)
  (hin: ∀b,b∈S'++H'->b∈F (.m r)++H) (hn: (S'++H').Nodup) (ht:s.get (.m r)≠ .tup)
  (same: ∀e T f x b S,s.get (.m r)= .box e T f x->F (.m r)=b::S-> ∃f' x' S'',t= .box e T f' x'/\S'=b::S'')
  (hr:vt W0.gh w' X W0.B s2 (Qg F (.m r) S') a (Qp W0.gh a (.m r)) S' t):
  R n W0 w' X (Qg F (.m r) S') H' s2 a:=by
 have j: ∀b,b∈S'++H'->W0.mine b/\b<w.heap.size/\ ¬X b:=fun b hb=>
  (List.mem_append.1 (hin b hb)).elim (h.own _ b) (h.hown b)
 have d: ∀k b,k≠ .m r->b∈F k->b∉S'++H':=fun k b hk hb c=>
  (List.mem_append.1 (hin b c)).elim (fun c=>hk (h.disj _ _ b hb c)) (h.hdisj k b hb)
 exact
 {size:=h.size
  defers:=h.defers
  below:=hb
  glob:=g.stays _ _ h.glob fun b hb=>hX b (h.gx b hb)
  gx:=h.gx
  xs:=h.xs
  fix:=fun p A=>⟨by rw[hT.lent];exact(h.fix p A).1,(h.fix p A).2⟩
  xlt:=fun b hb=>Nat.lt_of_lt_of_le (h.xlt b hb) hs
  xin:=h.xin
  x0:=h.x0
  own:=fun k b hb=>by
   simp only[Qg]at hb;split at hb
   ·obtain⟨l,o,u⟩:=j b (by simp[hb]);exact⟨l,Nat.lt_of_lt_of_le o hs,u⟩
   ·obtain⟨l,o,u⟩:=h.own k b hb;exact⟨l,Nat.lt_of_lt_of_le o hs,u⟩
  nodup:=fun k=>by
   simp only[Qg];split
   ·exact(List.nodup_append.1 hn).1
   ·exact h.nodup k
  disj:=fun k C b hb c=>by
   simp only[Qg]at hb c;split at hb<;>split at c
   ·rename_i q v;rw[q,v]
   ·rename_i q v;exact absurd (by simp[hb]) (d C b v c)
   ·rename_i q v;exact absurd (by simp[c]) (d k b q hb)
   ·exact h.disj k C b hb c
  hown:=fun b hb=>by obtain⟨l,o,u⟩:=j b (by simp[hb]);exact⟨l,Nat.lt_of_lt_of_le o hs,u⟩
  hnodup:=(List.nodup_append.1 hn).2.1
  hdisj:=fun k b hb=>by
   simp only[Qg]at hb;split at hb
   ·exact fun y=>(List.nodup_append.1 hn).2.2 b hb b y rfl
   ·rename_i q;exact fun y=>d k b q hb (by simp[y])
  comps:=fun D i z=>by
   rw[hT.get]at z⊢;simp only[reduceCtorEq,if_false]at z;obtain⟨l,o⟩:=h.comps D i z;by_cases e:r=D
   ·subst e;exact absurd l ht
   ·exact⟨by simpa[e]using l,o⟩
  slots:=fun k=>by
   by_cases hk:k= .m r
   ·subst hk;rw[hT.get];simpa[Qg]using hr
   ·have e:Qg F (.m r) S' k=F k:=by simp[Qg,hk]
    rw[hT.get,e];simp only[Ne.symm hk,if_false];exact Qon hT (fun _ h=>h) hX hF (fun b=>hF k b hk) same (h.slots k)}
theorem R.turn{r:Nat}{t:Tm}{S' H':List Nat}(h:R n W0 w X F H s a)
  (hb:W0.below w') (hs:w.heap.size<=w'.heap.size) (hX: ∀b,X b->w'.heap[b]? =w.heap[b]?)
  (hF: ∀k b,k≠ .m r->b∈F k->w'.heap[b]? =w.heap[b]?)
  (hin: ∀b,b∈S'++H'->b∈F (.m r)++H) (hn: (S'++H').Nodup) (ht:s.get (.m r)≠ .tup)
  (same: ∀e T f x b S,s.get (.m r)= .box e T f x->F (.m r)=b::S-> ∃f' x' S'',t= .box e T f' x'/\S'=b::S'')
  (hr:vt W0.gh w' X W0.B (Y6 s r t) (Qg F (.m r) S') a (Qp W0.gh a (.m r)) S' t):
  R n W0 w' X (Qg F (.m r) S') H' (Y6 s r t) a:=
 h.turn' Qkr hb hs hX hF hin hn ht same hr
def Zua(s:St)(r:Nat)(t:Tm):St:={env:=(.m r,t)::s.env,dirty:=Zkx r::s.dirty,lent:=s.lent}
theorem Kr(s:St)(r:Nat)(t:Tm)(k:Key): (Zua s r t).get k=if Key.m r=k then t else s.get k:=Z2 _ _ _ _
theorem Zk9{s:St}{e:List (Key×Tm)}{m:List Nat}{l:List Nat}{r:Nat}(h:St.foul {env:=e,dirty:=m++s.dirty,lent:=l} r=false):s.foul r=false/\r∉m:=by
 unfold St.foul at*
 simp only[List.any_append,Bool.or_eq_false_iff]at h;refine⟨h.2,fun a=> ?_⟩;have:=h.1;rw[List.any_eq_false]at this;exact this r a (Nat.beq_refl r)
theorem Zpv{d:Nat}{t:Tm}{F2:Key->List Nat}(h:Xdw gh w w' s (Zua s d t) F F2 a d):Z1g gh w w' s (Zua s d t) F F2 a d t where
 lent:=rfl
 get:=Kr s d t
 foul _ h':=⟨(Zk9 (m:=[Zkx d]) h').1,fun _=>h.1⟩
 bad _ _ h':=⟨Zxg (fun _ h=>(Zk9 (m:=[Zkx d]) h).1) h',fun _ v U hv=>h.2 _ v U hv⟩
 el _ _ he:=⟨(Zk9 (m:=[Zkx d]) he).1,fun e=>(Zk9 (m:=[Zkx d]) he).2 (by simp[e])⟩
def Xat(s:St)(r i:Nat)(t:Tm):St:={env:=(.m r,t)::s.env,dirty:=Zkx r::Z88 r::Z87 r i::s.dirty,lent:=s.lent}
theorem Qsj(s:St)(r i:Nat)(t:Tm)(k:Key): (Xat s r i t).get k=if Key.m r=k then t else s.get k:=Z2 _ _ _ _
theorem Q1o{d i:Nat}{t:Tm}{F2:Key->List Nat}(h1:t≠ .junk)(h2: ∀j p v U,j≠i->Xi gh w s F a d (j::p) v U->Xi gh w' (Xat s d i t) F2 a d (j::p) v U):Z1g gh w w' s (Xat s d i t) F F2 a d t where
 lent:=rfl
 get:=Qsj s d i t
 foul _ h':=⟨(Zk9 (m:=[Zkx d,Z88 d,Z87 d i]) h').1,fun _=>by rw[Qsj];simpa using h1⟩
 bad r p h':=⟨Zxg (fun _ h=>(Zk9 (m:=[Zkx d,Z88 d,Z87 d i]) h).1) h',fun e v U hv=>by
  subst e;cases p with
  |nil=>
   simp only[St.bad,Bool.or_eq_false_iff]at h';exact absurd (by simp) (Zk9 (m:=[Zkx r,Z88 r,Z87 r i]) h'.2).2
  |cons j p=>
   refine h2 j p v U (fun e=> ?_) hv;subst e;simp only[St.bad,Bool.or_eq_false_iff]at h';exact absurd (by simp) (Zk9 (m:=[Zkx r,Z88 r,Z87 r j]) h'.2).2⟩
 el _ _ he:=⟨(Zk9 (m:=[Zkx d,Z88 d,Z87 d i]) he).1,fun e=>(Zk9 (m:=[Zkx d,Z88 d,Z87 d i]) he).2 (by simp[e])⟩
end
end Go.Am
namespace Go.Am
open Go.RowKit
def Q7p{α:Type}(f:List Value->Option (α×List Value)):Nat->List Value->Option (List α×List Value)
 |0,vs=>some ([],vs)
 |n+1,vs=>match f vs with
  |some (x,r)=>match Q7p f n r with
   |some (xs,r')=>some (x::xs,r')
   |none=>none
  |none=>none
def ofC: (T:Ty)->List Value->Option (T.den×List Value)
 | .unit,vs=>some ((),vs)
 | .int k,vs=>match vs with| .int k' n::r=>if k'=k then some (n,r)else none|_=>none
 | .bool,vs=>match vs with| .bool b::r=>some (b,r)|_=>none
 | .fnc _,_=>none
 | .str,vs=>match vs with| .string s::r=>some (s.data.toList,r)|_=>none
 | .slice _ _,vs=>match vs with| .slice none 0 0::r=>some ([],r)|_=>none
 | .pair a b,vs=>match ofC a vs with
  |some (x,r)=>match ofC b r with
   |some (y,r')=>some ((x,y),r')
   |none=>none
  |none=>none
 | .arr n t,vs=>Q7p (ofC t) n vs
 | .err,vs=>match vs with| .nilIface::r=>some (true,r)|_=>none
 | .hid _,_=>none
 | .sptr ..,_=>none
 | .clo ..,_=>none
def Z6h(T:Ty)(v:Value):Option T.den:=
 match(match T with
  | .unit| .pair .. | .arr .. =>(match v with| .agg cs=>some cs.toList|_=>none)
  |_=>some [v])with
 |some vs=>match ofC T vs with
  |some (x,[])=>some x
  |_=>none
 |none=>none
def zero: (T:Ty)->T.den| .unit=>()| .int _=>(0:Int)| .bool=>false| .fnc _=>()| .str=>[]| .slice _ _=>[]| .pair a b=>(zero a,zero b)| .arr n t=>List.replicate n (zero t)| .err=>true| .hid _=>()| .sptr _ t=>zero t| .clo _ t=>zero t
def Vh:Ty->List Value| .unit=>[]| .int k=>[.int k 0]| .bool=>[.bool false]| .fnc f=>[.func (.func f) #[] #[]]| .str=>[.string ⟨#[]⟩]| .slice _ _=>[.slice none 0 0]| .pair a b=>Vh a++Vh b| .arr n t=>(List.replicate n (Vh t)).flatten| .err=>[.nilIface]| .hid t=>(Vh t).take 1| .sptr .. =>[.pointer none]| .clo f _=>[.func (.func f) #[] #[]]
section
variable {g:K9} {W0:Zam g} {w w':World} {X X':Nat->Prop} {B n:Nat} {own:Bool} {s:St} {F:Key->List Nat} {a:Act} {H:List Nat} {gh:Nat->Value}
theorem Q2l(e:TypeId)(sz:Nat):hdr w X B own e sz 0 (.slice none 0 0) [] []:=by
 cases own
 ·exact⟨rfl,by simp,none,0,rfl,Nat.le_refl _,by simp[maxLen],.inl ⟨rfl,rfl,rfl⟩⟩
 ·exact⟨World.ownsRow_nil _ _ _ _,rfl⟩
theorem Q26{α:Type}{f:List Value->Option (α×List Value)}{r:α->List Value->List Nat->Prop}(hf: ∀vs x q,f vs=some (x,q)-> ∃v1,vs=v1++q/\r x v1 []):
  ∀{n:Nat} {vs:List Value} {xs:List α} {q:List Value},Q7p f n vs=some (xs,q)-> ∃v1,vs=v1++q/\xs.length=n/\Zaj r xs v1 []
 |0,vs,xs,q,h=>by simp only[Q7p,Osi,Opi]at h;obtain⟨rfl,rfl⟩:=h;exact⟨[],rfl,rfl,rfl,rfl⟩
 |n+1,vs,xs,q,h=>by
  simp only[Q7p]at h;split at h
  ·rename_i x j b;split at h
   ·rename_i c k d;simp only[Osi,Opi]at h;obtain⟨rfl,rfl⟩:=h;obtain⟨v1,rfl,e⟩:=hf _ _ _ b;obtain⟨a,rfl,g,i⟩:=Q26 hf d;exact⟨v1++a,by simp,by simp[g],v1,a,[],[],rfl,rfl,e,i⟩
   ·cases h
  ·cases h
theorem Xcu: ∀{T:Ty} {vs:List Value} {x:T.den} {q:List Value},ofC T vs=some (x,q)-> ∃v1,vs=v1++q/\rd w X B own T x v1 []:=by
 intro T
 induction T with
 |unit=>intro vs x q h;simp only[ofC,Osi,Opi]at h;obtain⟨_,rfl⟩:=h;exact⟨[],rfl,rfl,rfl⟩
 |int k=>
  intro vs x q h;simp only[ofC]at h;split at h
  ·rename_i u m r;split at h
   ·rename_i e;subst e;simp only[Osi,Opi]at h;obtain⟨rfl,rfl⟩:=h;exact⟨[_],rfl,rfl,rfl⟩
   ·cases h
  ·cases h
 |bool=>
  intro vs x q h;simp only[ofC]at h;split at h
  ·simp only[Osi,Opi]at h;obtain⟨rfl,rfl⟩:=h;exact⟨[_],rfl,rfl,rfl⟩
  ·cases h
 |fnc f=>intro vs x q h;simp[ofC]at h
 |hid t=>intro vs x q h;simp[ofC]at h
 |sptr e t=>intro vs x q h;simp[ofC]at h
 |clo f t=>intro vs x q h;simp[ofC]at h
 |err=>
  intro vs x q h;simp only[ofC]at h;split at h
  ·simp only[Osi,Opi]at h;obtain⟨rfl,rfl⟩:=h;exact⟨[_],rfl,⟨_,rfl,rfl,by simp⟩,rfl⟩
  ·cases h
 |str=>
  intro vs x q h;simp only[ofC]at h;split at h
  ·simp only[Osi,Opi]at h;obtain⟨rfl,rfl⟩:=h;exact⟨[_],rfl,rfl,rfl⟩
  ·cases h
 |slice e t j=>
  intro vs x q h;simp only[ofC]at h;split at h
  ·simp only[Osi,Opi]at h;obtain⟨rfl,rfl⟩:=h;exact⟨[_],rfl,_,[],[],[],rfl,rfl,Q2l _ _,rfl,rfl⟩
  ·cases h
 |pair a b c d=>
  intro vs x q h;simp only[ofC]at h;split at h
  ·rename_i v y g;split at h
   ·rename_i z A i;simp only[Osi,Opi]at h;obtain⟨rfl,rfl⟩:=h;obtain⟨v1,rfl,o⟩:=c g;obtain⟨l,rfl,p⟩:=d i;exact⟨v1++l,by simp,v1,l,[],[],rfl,rfl,o,p⟩
   ·cases h
  ·cases h
 |arr n t j=>
  intro vs x q h;obtain⟨v1,g,i,s⟩:=Q26 (r:=rd w X B own t) (fun vs x q h=>j h) h;exact⟨v1,g,i,s⟩
theorem Zvi{T:Ty}{v:Value}{x:T.den}(h:Z6h T v=some x): ∃vs,v=Xz T vs/\rd w X B own T x vs []:=by
 unfold Z6h at h;split at h
 ·rename_i vs hv;split at h
  ·rename_i y b;simp only[Osi]at h;subst h;obtain⟨d,a,c⟩:=Xcu (w:=w) (X:=X) (B:=B) (own:=own) b;simp only[List.append_nil]at a;subst a;refine⟨vs,?_,c⟩;cases T<;>simp only[Xz]at hv⊢
   all_goals first
    | (simp only[Osi]at hv;subst hv;rfl)
    | (split at hv<;>first| (simp only[Osi]at hv;subst hv;simp)|cases hv)
  ·cases h
 ·cases h
theorem Zv3{α:Type}{r:α->List Value->List Nat->Prop}{z:α}{c:List Value}(h:r z c []): ∀n:Nat,Zaj r (List.replicate n z) (List.replicate n c).flatten []
 |0=>⟨rfl,rfl⟩
 |n+1=>⟨c,(List.replicate n c).flatten,[],[],by simp[List.replicate_succ],rfl,h,Zv3 h n⟩
theorem Zsz: ∀{T:Ty},T.plain=true->rd w X B own T (zero T) (Vh T) []
 | .unit,_=>⟨rfl,rfl⟩
 | .int _,_=>⟨rfl,rfl⟩
 | .bool,_=>⟨rfl,rfl⟩
 | .fnc _,_=>⟨rfl,rfl⟩
 | .str,_=>⟨rfl,rfl⟩
 | .slice _ _,_=>⟨_,[],[],[],rfl,rfl,Q2l _ _,rfl,rfl⟩
 | .pair a b,h=>by
  simp only[Ty.plain,Oba]at h;exact⟨_,_,[],[],rfl,rfl,Zsz h.1,Zsz h.2⟩
 | .arr n t,h=>⟨by simp[zero],Zv3 (Zsz (by simpa[Ty.plain]using h)) n⟩
 | .err,_=>⟨⟨_,rfl,rfl,.inl ⟨rfl,rfl⟩⟩,rfl⟩
 | .hid t,h=>by
  simp only[Ty.plain,Oba]at h;have c:=Zsz h.2;have d:=(X5 c).trans (Onb h.1);have e: (Vh t).take 1=Vh t:=List.take_of_length_le (by omega);show _/\_;simp only[Vh,e];exact⟨d,zero t,c⟩
 | .sptr ..,h=>by simp[Ty.plain]at h
 | .clo ..,h=>by simp[Ty.plain]at h
inductive Op1 where
 |cst (v:Value)|fn (f:FuncId)|tm (k:Nat) (t:Tm)|bad
abbrev Xo:=List (Nat×Bool)
def Xo.has(tg:Xo)(g:Nat)(b:Bool):Bool:=tg.any fun p=>Nat.beq p.1 g&& (match p.2,b with|true,true=>true|false,false=>true|_,_=>false)
def Zxd(s:St)(tg:Xo):Tm->Tm
 | .gd g b t=>match s.foul g with
  |true=> .junk
  |false=>match tg.has g b with|true=>t|false=> .junk
 |t=>t
def op1(s:St)(tg:Xo):Operand->Op1
 | .const v=> .cst v
 | .func f=> .fn f
 | .tmp k=>match Nat.blt k 1048576 with|true=> .tm k (Zxd s tg (s.get (.m k)))|false=> .bad
 | .global _=> .bad
def Xo.ok(tg:Xo)(gh:Nat->Value)(a:Act):Prop:= ∀p∈tg,Qp gh a (.m p.1)= .bool p.2
theorem Xo.has_ok{tg:Xo}{gh:Nat->Value}{a:Act}(h:tg.ok gh a){g:Nat}{b:Bool}(hh:tg.has g b=true):Qp gh a (.m g)= .bool b:=by
 unfold Xo.has at hh;rw[List.any_eq_true]at hh;obtain⟨⟨j,d⟩,e,c⟩:=hh;simp only[Oba]at c;obtain⟨f,i⟩:=c;have:=h _ e;simp only[Onb f]at this;cases d<;>cases b<;>first|exact this|simp at i
theorem Q8a{gh:Nat->Value}{tg:Xo}(ht:tg.ok gh a){v:Value}{S:List Nat}{t:Tm}(h:vt gh w X B s F a v S t)(hj:Zxd s tg t≠ .junk):vt gh w X B s F a v S (Zxd s tg t):=by
 cases t with
 |gd g b t=>
  simp only[Zxd]at hj⊢;cases hf:s.foul g<;>simp only[hf]at hj⊢
  ·cases hh:tg.has g b<;>simp only[hh]at hj⊢
   ·exact absurd rfl hj
   ·exact(h hf).2.1 (Xo.has_ok ht hh)
  ·exact absurd rfl hj
 |_=>exact h
theorem Ye(W0:Zam g)(a:Act){k:Nat}(hk:Nat.blt k 1048576=true):Qp W0.gh a (.m k)=a.eval (.tmp k):=by
 show Zlw _ _ _=a.tmps.getD k undef;unfold Zlw;rw[Array.getD_eq_getD_getElem?];cases a.tmps[k]? with
 |none=>exact W0.ghU k (by simpa[big,Nat.blt_eq]using hk)
 |some v=>rfl
theorem Zlh{tg:Xo}{x:Operand}{k:Nat}{t:Tm}(hx:op1 s tg x= .tm k t):x= .tmp k/\Nat.blt k 1048576=true/\t=Zxd s tg (s.get (.m k)):=by
 cases x with
 |tmp j=>simp only[op1]at hx;split at hx<;>cases hx;rename_i h;exact⟨rfl,h,rfl⟩
 |_=>cases hx
theorem Zw4{tg:Xo}{x:Operand}{v:Value}(hx:op1 s tg x= .cst v):x= .const v:=by
 cases x with
 |tmp j=>simp only[op1]at hx;split at hx<;>cases hx
 |const u=>cases hx;rfl
 |_=>cases hx
theorem Qwv{tg:Xo}{x:Operand}{f:FuncId}(hx:op1 s tg x= .fn f):x= .func f:=by
 cases x with
 |tmp j=>simp only[op1]at hx;split at hx<;>cases hx
 |func u=>cases hx;rfl
 |_=>cases hx
theorem Kp(h:R n W0 w X F H s a){tg:Xo}(ht:tg.ok W0.gh a){x:Operand}{k:Nat}{t:Tm}(hx:op1 s tg x= .tm k t)(hj:t≠ .junk):
  x= .tmp k/\vt W0.gh w X W0.B s F a (a.eval x) (F (.m k)) t:=by
 obtain⟨rfl,b,rfl⟩:=Zlh hx;refine⟨rfl,?_⟩;rw[<-Ye W0 a b];exact Q8a ht (h.slots (.m _)) hj
def Q2z(s:St)(r:Nat)(p:List Nat):Option ((T:Ty)×Fl×T.den):=
 match s.get (.m r)with
 | .val T f x=>match p,f.live with| [],true=>some ⟨T,f,x⟩|_,_=>none
 | .box _ T f x=>match Zdx T x p with
  |some y=>match(Zkq f p).live with|true=>some ⟨y.1,Zkq f p,y.2⟩|false=>none
  |none=>none
 |_=>none
def Ztc(s:St):Op1->Option ((T:Ty)×Fl×T.den)
 | .tm _ (.val T f x)=>match f.live with|true=>some ⟨T,f,x⟩|false=>none
 | .tm _ (.bel r p i q)=>match s.bad r p||s.foul (Zkx r)with
  |true=>none
  |false=>match Q2z s r p with
   |some ⟨.slice _ t,.u true,l⟩=>match Zdx t (l.getD i.toNat (zero t)) q with
    |some y=>some ⟨y.1,.u true,y.2⟩
    |none=>none
   |_=>none
 | .tm _ (.bor r p)=>match s.bad r p with
  |true=>none
  |false=>match s.get (.m r)with
   | .val T f x=>match p,f.live with| [],true=>some ⟨T,f,x⟩|_,_=>none
   | .box _ T f x=>match Zdx T x p with
    |some y=>match(Zkq f p).live with|true=>some ⟨y.1,Zkq f p,y.2⟩|false=>none
    |none=>none
   |_=>none
 | .fn f=>some ⟨.fnc f,.u true,()⟩
 |_=>none
def Wi(s:St)(o:Op1)(T:Ty):Option T.den:=
 match o with
 | .cst v=>Z6h T v
 |o=>match Ztc s o with
  |some ⟨U,_,x⟩=>Ky T U x
  |none=>none
theorem Zzr{vs pre mid post:List Value}(h:vs=pre++ (mid++post)){k m:Nat}(hk:pre.length=k)(hm:mid.length=m): (vs.drop k).take m=mid:=by
 subst h;subst hk;subst hm;simp
theorem Qym(h:R n W0 w X F H s a){r:Nat}{p:List Nat}{v:Value}{U T:Ty}{f:Fl}{y:T.den}(hv:Xi W0.gh w s F a r p v U)(hl:Q2z s r p=some ⟨T,f,y⟩):
  T=U/\f.live=true/\ ∃vs S,v=Xz T vs/\rdF w X W0.B T f y vs S/\S.Sublist (F (.m r)):=by
 unfold Q2z at hl;unfold Xi at hv;have d:=h.slots (.m r);split at hl
 ·rename_i A C D i;rw[i]at hv d;obtain⟨rfl,rfl,hv⟩:=hv;split at hl
  ·rename_i j;simp only[Osi,Sigma.mk.injEq]at hl;obtain⟨rfl,hl⟩:=hl;simp only[heq_eq_eq,Opi]at hl;obtain⟨rfl,rfl⟩:=hl;obtain⟨vs,g,k⟩:=d;exact⟨rfl,j,vs,_,hv.trans g,k,List.Sublist.refl _⟩
  ·cases hl
 ·rename_i e A C D i;rw[i]at hv d;obtain⟨b,c,S,O,g,k,q,E,G⟩:=hv;obtain⟨P,Q,V,W,t,l,I⟩:=d;rw[g]at t;obtain⟨rfl,rfl⟩:=List.cons.inj t;rw[k]at l;simp only[Osi,Obj.cells.injEq]at l;obtain⟨rfl,_⟩:=l;rw[q]at hl;simp only at hl;split at hl
  ·rename_i j;simp only[Osi,Sigma.mk.injEq]at hl;obtain⟨rfl,hl⟩:=hl;simp only[heq_eq_eq,Opi]at hl;obtain⟨rfl,rfl⟩:=hl;obtain⟨pre,o,u,J,x,K,L,M,N,z,_⟩:=Zfc q I;refine⟨E.symm,j,o,x,?_,z,by rw[g,M];exact List.Sublist.cons _ ((List.sublist_append_left x K).trans (List.sublist_append_right J _))⟩;rw[G,Zzr L N (X8 z)]
  ·cases hl
 ·cases hl
theorem Qtz(h:R n W0 w X F H s a){v:Value}{r:Nat}{p:List Nat}{i:Int}{q:List Nat}{S0:List Nat}(hv:vt W0.gh w X W0.B s F a v S0 (.bel r p i q))(h1:s.bad r p=false)(h2:s.foul (Zkx r)=false)
  {e:TypeId} {t:Ty} {l:List t.den} (hl:Q2z s r p=some ⟨.slice e t,.u true,l⟩) {y:TV} (hy:Zdx t (l.getD i.toNat (zero t)) q=some y):
  ∃vs S,v=Xz y.1 vs/\rd w X W0.B true y.1 y.2 vs S/\S.Sublist (F (.m r)):=by
 obtain⟨e',t',V,W,z,x0,y0,J,Y,k2,k3,k4,Z,k6,K,k8⟩:=hv.2 h1 h2;obtain⟨hT,_,vs,S,A,L,m3⟩:=Qym h Y hl;cases hT;unfold rdF at L;obtain⟨v',xs,S1,S2,rfl,rfl,q1,q2⟩:=L;have A:Value.slice (some V) W z=v':=A;subst A;obtain⟨a0,M,g,aa,_,C⟩:=Zc8 q1;simp only[Value.slice.injEq]at g;obtain⟨rfl,rfl,rfl⟩:=g;rcases C with⟨x,_⟩| ⟨ab,x,_,C⟩
 ·cases x
 simp only[Osi]at x;subst x;have d:i.toNat<l.length:=by omega
 obtain⟨pre,D,N,T1,T2,T3,n1,n2,n3,n4,_⟩:=Zra (fun _ _ _ h=>X5 h) (i:=i.toNat) d q2;have e4:l.getD i.toNat (zero t)=l[i.toNat]'d:=by rw[List.getD_eq_getElem?_getD,List.getElem?_eq_getElem d];rfl
 rw[e4]at hy;have E:rdF w X W0.B t (.u true) l[i.toNat] D T2:=by unfold rdF;exact n4
 obtain⟨b,c,G,U1,O,U3,P,o2,o3,k,_⟩:=Zfc hy E;obtain⟨y1,Q,I⟩:=Z57 (x':=l[i.toNat]) Z;rw[hy]at Q;cases Q;have hf:Zkq (.u true) q= .u true:=by
  have: ∀q:List Nat,Zkq (.u true) q= .u true:=fun q=>by
   induction q with
   |nil=>rfl
   |cons j q ih=>simpa[Zkq,Zuj]using ih
  exact this q
 rw[hf]at k;unfold rdF at k;refine⟨c,O,?_,k,List.Sublist.trans ?_ m3⟩
 rotate_left
 ·rw[n2,o2];exact((List.sublist_append_left O U3).trans (List.sublist_append_right U1 _)).trans (((List.sublist_append_left _ T3).trans (List.sublist_append_right T1 _)).trans (List.sublist_append_right _ _))
 rw[k6,<-I];congr 1;apply List.ext_getElem?;intro j;rcases Nat.lt_or_ge j y.1.size with hj|hj
 ·have o:j<J.length:=by rw[K,<-I];exact hj
  have f:j<c.length:=by rw[X5 k];exact hj
  have g1:=k8 j J[j] (List.getElem?_eq_getElem o);have U:=C (i.toNat*t.size+J1 t q+j) c[j] (by
   rw[n1,<-n3,<-o3,List.getElem?_append_right (by omega),show pre.length+b.length+j-pre.length=b.length+j from by omega,
    List.getElem?_append_left (by rw[P];simp;omega),P,List.getElem?_append_right (by omega),show b.length+j-b.length=j from by omega,List.getElem?_append_left f,List.getElem?_eq_getElem f])
  rw[g1]at U;rw[List.getElem?_eq_getElem o,List.getElem?_eq_getElem f];exact U
 ·rw[List.getElem?_eq_none (by rw[K,<-I];exact hj),List.getElem?_eq_none (by rw[X5 k];exact hj)]
theorem Zfa(h:R n W0 w X F H s a){tg:Xo}(ht:tg.ok W0.gh a){x:Operand}{T:Ty}{f:Fl}{y:T.den}(hl:Ztc s (op1 s tg x)=some ⟨T,f,y⟩):
  f.live=true/\ ∃vs S,a.eval x=Xz T vs/\rdF w X W0.B T f y vs S/\(∀b∈S,∃k,b∈F k):=by
 generalize A:op1 s tg x=o at hl;unfold Ztc at hl;split at hl
 ·rename_i k N O P;obtain⟨_,vs,E,Z⟩:=Kp h ht A (by simp);split at hl
  ·rename_i u;simp only[Osi,Sigma.mk.injEq]at hl;obtain⟨rfl,hl⟩:=hl;simp only[heq_eq_eq,Opi]at hl;obtain⟨rfl,rfl⟩:=hl;exact⟨u,vs,_,E,Z,fun b d=>⟨_,d⟩⟩
  ·cases hl
 ·rename_i k r p i q;obtain⟨_,hv⟩:=Kp h ht A (by simp);split at hl
  ·cases hl
  ·rename_i d;simp only[Bool.or_eq_false_iff]at d;split at hl
   ·rename_i e t l G;split at hl
    ·rename_i z hz;simp only[Osi,Sigma.mk.injEq]at hl;obtain⟨rfl,hl⟩:=hl;simp only[heq_eq_eq,Opi]at hl;obtain⟨rfl,rfl⟩:=hl;obtain⟨vs,S,g1,g2,g3⟩:=Qtz h hv d.1 d.2 G hz;exact⟨rfl,vs,S,g1,by unfold rdF;exact g2,fun b d=>⟨_,g3.subset d⟩⟩
    ·cases hl
   ·cases hl
 ·rename_i k r p;obtain⟨_,h0,E⟩:=Kp h ht A (by simp);split at hl
  ·cases hl
  ·rename_i j;obtain⟨U,v⟩:=E j;unfold Xi at v;have C:=h.slots (.m r);split at hl
   ·rename_i N O P I;rw[I]at v C;obtain⟨rfl,rfl,hv⟩:=v;split at hl
    ·rename_i u;simp only[Osi,Sigma.mk.injEq]at hl;obtain⟨rfl,hl⟩:=hl;simp only[heq_eq_eq,Opi]at hl;obtain⟨rfl,rfl⟩:=hl;obtain⟨vs,D,J⟩:=C;exact⟨u,vs,_,hv.trans D,J,fun b d=>⟨_,d⟩⟩
    ·cases hl
   ·rename_i e N O P I;rw[I]at v C;obtain⟨b,c,S,y',D,J,Q,k4,k5⟩:=v;obtain⟨b',c',S',l1,V,K,l4⟩:=C;rw[D]at V;obtain⟨rfl,rfl⟩:=List.cons.inj V;rw[J]at K;simp only[Osi,Obj.cells.injEq]at K;obtain⟨rfl,_⟩:=K;rw[Q]at hl;simp only at hl;split at hl
    ·rename_i u;simp only[Osi,Sigma.mk.injEq]at hl;obtain⟨rfl,hl⟩:=hl;simp only[heq_eq_eq,Opi]at hl;obtain⟨rfl,rfl⟩:=hl;obtain⟨pre,L,W,S1,S2,S3,m1,m2,m3,Y,_⟩:=Zfc Q l4;refine⟨u,L,S2,?_,Y,fun b' M=>⟨.m r,by rw[D,m2];simp[M]⟩⟩;rw[k5,Zzr m1 m3 (X8 Y)]
    ·cases hl
   ·cases hl
 ·rename_i g;simp only[Osi,Sigma.mk.injEq]at hl;obtain⟨rfl,hl⟩:=hl;simp only[heq_eq_eq,Opi]at hl;obtain⟨rfl,_⟩:=hl;obtain rfl:=Qwv A;exact⟨rfl,[.func (.func g) #[] #[]],[],rfl,by unfold rdF;exact⟨rfl,rfl⟩,by simp⟩
 ·cases hl
theorem Zy4{tg:Xo}{k:Nat}{T:Ty}{y:T.den}(hr:Wi s (op1 s tg (.tmp k)) T=some y):Nat.blt k 1048576=true:=by
 cases hb:Nat.blt k 1048576 with
 |true=>rfl
 |false=>simp only[op1,hb,Wi,Ztc]at hr;cases hr
theorem W5(h:R n W0 w X F H s a){tg:Xo}(ht:tg.ok W0.gh a){x:Operand}{T:Ty}{y:T.den}(hr:Wi s (op1 s tg x) T=some y):
  ∃vs,a.eval x=Xz T vs/\rd w (· <w.heap.size) W0.B false T y vs []:=by
 unfold Wi at hr;split at hr
 ·rename_i v hv;obtain rfl:=Zw4 hv;exact Zvi hr
 ·split at hr
  ·rename_i U f l d;obtain⟨e,vs,S,g,i,j⟩:=Zfa h ht d;cases Zb5 hr;exact⟨vs,g,K6 (fun b c=>h.xlt b c) e i fun b c=>let⟨k,hk⟩:=j b c;(h.own k b hk).2.1⟩
  ·cases hr
def Znv:Fl->Ty->Bool| .u false,_=>true| .u true,T=>T.flat| .p f g,.pair a b=>Znv f a&&Znv g b|_,_=>false
theorem Zgg: ∀{T:Ty} {x:T.den} {vs:List Value} {S:List Nat},rd w X B false T x vs S->S=[]
 | .unit,_,_,_,h| .int _,_,_,_,h| .bool,_,_,_,h| .fnc _,_,_,_,h| .str,_,_,_,h=>h.2
 | .slice _ t,_,_,_,⟨_,_,g,f,_,e,c,d⟩=>by
  have:f=[]:=(Zeq (r:=rd w X B false t) (r':=fun _ _ _=>True) (fun x v S h=>⟨Zgg h,trivial⟩) d).1;rw[e,c.1,this];rfl
 | .pair a b,_,_,_,⟨j,k,g,f,_,e,c,d⟩=>by rw[e,Zgg c,Zgg d];rfl
 | .arr n t,_,_,_,⟨_,i⟩=>(Zeq (r:=rd w X B false t) (r':=fun _ _ _=>True) (fun x v S h=>⟨Zgg h,trivial⟩) i).1
 | .err,_,_,_,h=>h.2
 | .hid _,_,_,_,⟨_,_,h⟩=>Zgg h
 | .sptr ..,_,_,_,h=>h.1
 | .clo ..,_,_,_,h=>h.1
theorem Zi0: ∀{T:Ty} {f:Fl} {x:T.den} {vs:List Value} {S:List Nat},Znv f T=true->rdF w X B T f x vs S->S=[]
 |T,.d,_,_,_,c,_=>by simp[Znv]at c
 |T,.u false,_,_,_,_,h=>by unfold rdF at h;exact Zgg h
 |T,.u true,_,_,_,c,h=>by unfold rdF at h;exact(Zdc (X':=X) (own':=true) (w':=w) (by simpa[Znv]using c) h).1
 | .pair a b,.p f g,_,_,_,c,⟨k,l,m,n,_,e,i,j⟩=>by
  simp only[Znv,Oba]at c;rw[e,Zi0 c.1 i,Zi0 c.2 j];rfl
 | .slice ..,.p ..,_,_,_,c,_=>by simp[Znv]at c
 | .unit,.p ..,_,_,_,_,h| .int _,.p ..,_,_,_,_,h| .bool,.p ..,_,_,_,_,h| .fnc _,.p ..,_,_,_,_,h| .str,.p ..,_,_,_,_,h| .err,.p ..,_,_,_,_,h| .hid _,.p ..,_,_,_,_,h| .sptr ..,.p ..,_,_,_,_,h| .clo ..,.p ..,_,_,_,_,h| .arr ..,.p ..,_,_,_,_,h=>by simp[rdF]at h
structure Q3u where
 T:Ty
 f:Fl
 x:T.den
 s:St
 moved:Bool
def Qg9(s:St)(o:Op1):Option Q3u:=
 match Ztc s o with
 |some ⟨T,f,x⟩=>match Znv f T with
  |true=>some ⟨T,f,x,s,false⟩
  |false=>match o with
   | .tm k (.val _ _ _)=>match s.get (.m k)with
    | .val _ _ _=>some ⟨T,f,x,Y6 s k .junk,true⟩
    |_=>none
   | .tm _ (.bor r p)=>match s.get (.m r)with
    | .val _ _ _=>some ⟨T,f,x,Y6 s r .junk,true⟩
    | .box e U g z=>some ⟨T,f,x,Y6 s r (.box e U (Zp4 g p .d) z),true⟩
    |_=>none
   | .tm _ (.bel r _ _ _)=>match s.get (.m r)with
    | .val _ _ _=>some ⟨T,f,x,Y6 s r .junk,true⟩
    |_=>none
   |_=>none
 |none=>none
def Ztj(s:St)(o:Op1)(T:Ty):Option Q3u:=
 match o with
 | .cst v=>match Z6h T v with|some x=>some ⟨T,.u true,x,s,false⟩|none=>none
 |o=>match Qg9 s o with
  |some t=>if t.T=T then some t else none
  |none=>none
theorem R.takeM(h:R n W0 w X F H s a){k:Nat}{T:Ty}{f:Fl}{x:T.den}(hg:s.get (.m k)= .val T f x):
  R n W0 w X (Qg F (.m k) []) (F (.m k)++H) (Y6 s k .junk) a:=
 h.turn (S':=[]) h.below (Nat.le_refl _) (fun _ _=>rfl) (fun _ _ _ _=>rfl) (by simp) (by
  simp only[List.nil_append];exact List.nodup_append.2 ⟨h.nodup _,h.hnodup,fun x hx y d e=>h.hdisj _ x hx (by rw[e];exact d)⟩) (by rw[hg];simp)
  (fun e T f x b S c=>by rw[hg]at c;cases c) rfl
theorem Qu8: ∀{p:List Nat} {T:Ty} {x:T.den} {y:TV},Zdx T x p=some y->Z8a T x p y=some x:=by
 have c: ∀{T:Ty} {x:T.den} {i:Nat} {z:TV},fld T x i=some z->Zt8 T x i z=some x:=by
  intro T
  induction T with
  |pair a b e d=>
   intro x i z h;cases i with
   |zero=>simp only[fld,Osi]at h;subst h;simp[Zt8,Ky]
   |succ i=>simp only[fld]at h;simp[Zt8,d h]
  |_=>intro x i z h;simp[fld]at h
 intro p
 induction p with
 |nil=>intro T x y h;simp only[Zdx,Osi]at h;subst h;simp[Z8a,Ky]
 |cons i p f=>
  intro T x y h;simp only[Zdx]at h;cases hz:fld T x i with
  |none=>rw[hz]at h;cases h
  |some z=>
   rw[hz]at h;simp only[Z8a,hz,f h];exact c hz
theorem R.hsub{H':List Nat}(h:R n W0 w X F H s a)(hs:H'.Sublist H):R n W0 w X F H' s a:=
 {h with
  hown:=fun b c=>h.hown b (hs.subset c)
  hnodup:=h.hnodup.sublist hs
  hdisj:=fun k b c d=>h.hdisj k b c (hs.subset d)}
theorem Zxe(h:R n W0 w X F H s a){tg:Xo}(ht:tg.ok W0.gh a){x:Operand}{t:Q3u}(hk:Qg9 s (op1 s tg x)=some t):
  ∃F' S vs,a.eval x=Xz t.T vs/\rdF w X W0.B t.T t.f t.x vs S/\R n W0 w X F' (S++H) t.s a/\(t.moved=false->t.s=s/\F'=F/\S=[])/\t.f.live=true:=by
 unfold Qg9 at hk;split at hk
 ·rename_i T f y g;obtain⟨V,vs,S,h1,h2,h3⟩:=Zfa h ht g;split at hk
  ·rename_i hn;simp only[Osi]at hk;subst hk;have hS:=Zi0 hn h2;subst hS;exact⟨F,[],vs,h1,h2,h,fun _=>⟨rfl,rfl,rfl⟩,V⟩
  ·rename_i hn;generalize A:op1 s tg x=o at hk g;split at hk
   ·rename_i k T' f' W;split at hk
    ·rename_i T2 f2 x2 v;simp only[Osi]at hk;subst hk;have hx:=Kp h ht A (by simp);obtain⟨rfl,_⟩:=hx;have aa:=(Zlh A).2.1;have A:=(Zlh A).2.2;rw[v]at A;simp only[Zxd]at A;cases A;simp only[Ztc]at g;split at g
     ·simp only[Osi,Sigma.mk.injEq]at g;obtain⟨rfl,g⟩:=g;simp only[heq_eq_eq,Opi]at g;obtain⟨rfl,rfl⟩:=g;have D:=h.slots (.m k);rw[v]at D;obtain⟨E,C,I⟩:=D;exact⟨_,F (.m k),E,(Ye W0 a aa).symm.trans C,I,h.takeM v,by simp,V⟩
     ·cases g
    ·cases hk
   ·rename_i k r p;obtain⟨_,h0,K⟩:=Kp h ht A (by simp);simp only[Ztc]at g;split at g
    ·cases g
    ·rename_i G;obtain⟨U,J⟩:=K G;have D:=h.slots (.m r);split at hk
     ·rename_i T' f' W v;simp only[v]at g;unfold Xi at J;rw[v]at J D;obtain⟨rfl,rfl,hv⟩:=J;split at g
      ·simp only[Osi,Sigma.mk.injEq]at g;obtain⟨rfl,g⟩:=g;simp only[heq_eq_eq,Opi]at g;obtain⟨rfl,rfl⟩:=g;simp only[Osi]at hk;subst hk;obtain⟨E,C,I⟩:=D;exact⟨_,F (.m r),E,hv.trans C,I,h.takeM v,by simp,V⟩
      ·cases g
     ·rename_i e T' f' W v;simp only[v]at g;unfold Xi at J;rw[v]at J D;obtain⟨b,c,S0,y',C,I,k3,k4,k5⟩:=J;obtain⟨b',c',S',l1,l2,l3,l4⟩:=D;rw[C]at l2;obtain⟨rfl,rfl⟩:=List.cons.inj l2;rw[I]at l3;simp only[Osi,Obj.cells.injEq]at l3;obtain⟨rfl,_⟩:=l3;rw[k3]at g;simp only at g;split at g
      ·simp only[Osi,Sigma.mk.injEq]at g;obtain⟨rfl,g⟩:=g;simp only[heq_eq_eq,Opi]at g;obtain⟨rfl,rfl⟩:=g;simp only[Osi]at hk;subst hk;obtain⟨pre,L,ac,M,Y,N,m1,m2,m3,Z,m5⟩:=Zfc k3 l4;have O:=h.nodup (.m r);rw[C,m2]at O;have j:=m5 .d y' L [] W (Qu8 k3) (by unfold rdF;exact⟨X8 Z,Zh2 Z,rfl⟩);rw[<-m1]at j;simp only[List.nil_append]at j;refine⟨_,Y,L,by rw[k5,Zzr m1 m3 (X8 Z)],Z,
        h.turn (S':=b:: (M++N)) h.below (Nat.le_refl _) (fun _ _=>rfl) (fun _ _ _ _=>rfl) ?_ ?_ (by rw[v];simp) ?_ ⟨b,c,M++N,l1,rfl,I,j⟩,by simp,V⟩
       ·intro z hz;rw[C,m2];simp only[List.mem_append,List.mem_cons]at hz⊢;rcases hz with(hz|hz|hz)|hz|hz
        ·exact .inl (.inl hz)
        ·exact .inl (.inr (.inl hz))
        ·exact .inl (.inr (.inr (.inr hz)))
        ·exact .inl (.inr (.inr (.inl hz)))
        ·exact .inr hz
       ·have h1: (b:: (M++N)++Y).Nodup:=by
         have hp: (b:: (M++N)++Y).Perm (b:: (M++ (Y++N))):=by
          simp only[List.cons_append];refine List.Perm.cons _ ?_;rw[List.append_assoc];exact List.Perm.append_left _ List.perm_append_comm
         exact hp.nodup_iff.2 O
        rw[<-List.append_assoc];refine List.nodup_append.2 ⟨h1,h.hnodup,fun z hz u hu e=> ?_⟩;subst e;refine h.hdisj (.m r) z ?_ hu;rw[C,m2];simp only[List.mem_append,List.mem_cons]at hz⊢;rcases hz with(hz|hz|hz)|hz
        ·exact .inl hz
        ·exact .inr (.inl hz)
        ·exact .inr (.inr (.inr hz))
        ·exact .inr (.inr (.inl hz))
       ·intro e2 T2 f2 x2 b2 ad P Q;rw[v]at P;cases P;rw[C]at Q;obtain⟨rfl,_⟩:=List.cons.inj Q;exact⟨_,_,_,rfl,rfl⟩
      ·cases g
     ·cases hk
   ·rename_i k r p i q;obtain⟨_,hv⟩:=Kp h ht A (by simp);split at hk
    ·rename_i T' f' W v;simp only[Osi]at hk;subst hk;simp only[Ztc]at g;split at g
     ·cases g
     ·rename_i K;simp only[Bool.or_eq_false_iff]at K;split at g
      ·rename_i e t l ab;split at g
       ·rename_i z hz;simp only[Osi,Sigma.mk.injEq]at g;obtain⟨rfl,g⟩:=g;simp only[heq_eq_eq,Opi]at g;obtain⟨rfl,rfl⟩:=g;obtain⟨vs,S,g1,g2,g3⟩:=Qtz h hv K.1 K.2 ab hz;exact⟨_,S,vs,g1,by unfold rdF;exact g2,(h.takeM v).hsub (g3.append (List.Sublist.refl _)),by simp,rfl⟩
       ·cases g
      ·cases g
    ·cases hk
   ·cases hk
 ·cases hk
theorem Zbg(h:R n W0 w X F H s a){tg:Xo}(ht:tg.ok W0.gh a){x:Operand}{T:Ty}{t:Q3u}(hk:Ztj s (op1 s tg x) T=some t):
  t.T=T/\ ∃F' S vs,a.eval x=Xz t.T vs/\rdF w X W0.B t.T t.f t.x vs S/\R n W0 w X F' (S++H) t.s a/\(t.moved=false->t.s=s/\F'=F/\S=[])/\t.f.live=true:=by
 unfold Ztj at hk;split at hk
 ·rename_i v hv;split at hk
  ·rename_i y c;simp only[Osi]at hk;subst hk;obtain rfl:=Zw4 hv;obtain⟨vs,d,g⟩:=Zvi (w:=w) (X:=X) (B:=W0.B) (own:=true) c;exact⟨rfl,F,[],vs,d,by unfold rdF;exact g,h,fun _=>⟨rfl,rfl,rfl⟩,rfl⟩
  ·cases hk
 ·split at hk
  ·rename_i i b;split at hk
   ·rename_i e;simp only[Osi]at hk;subst hk;exact⟨e,Zxe h ht b⟩
   ·cases hk
  ·cases hk
def St.isBox(s:St)(r:Nat):Prop:= ∃e T f x,s.get (.m r)= .box e T f x
theorem Q47{o:Op1}{t:Q3u}(hk:Qg9 s o=some t){r:Nat}(hb:s.isBox r):t.s.isBox r:=by
 obtain⟨e,T,f,x,hb⟩:=hb;have a: ∀{k:Nat} {d g h},s.get (.m k)= .val d g h->(Y6 s k .junk).isBox r:=by
  intro k d g h hk;have:k≠r:=fun c=>by subst c;rw[hb]at hk;cases hk
  exact⟨e,T,f,x,by rw[Yp];simp[this,hb]⟩
 unfold Qg9 at hk;split at hk
 ·split at hk
  ·simp only[Osi]at hk;subst hk;exact⟨e,T,f,x,hb⟩
  ·split at hk
   ·split at hk
    ·rename_i b;simp only[Osi]at hk;subst hk;exact a b
    ·cases hk
   ·rename_i k p _;split at hk
    ·rename_i b;simp only[Osi]at hk;subst hk;exact a b
    ·simp only[Osi]at hk;subst hk;by_cases c:k=r
     ·subst c;exact⟨_,_,_,_,by rw[Yp,if_pos rfl]⟩
     ·exact⟨e,T,f,x,by rw[Yp];simp[c,hb]⟩
    ·cases hk
   ·split at hk
    ·rename_i b;simp only[Osi]at hk;subst hk;exact a b
    ·cases hk
   ·cases hk
 ·cases hk
theorem Zp9{o:Op1}{T:Ty}{t:Q3u}(hk:Ztj s o T=some t){r:Nat}(hb:s.isBox r):t.s.isBox r:=by
 unfold Ztj at hk;split at hk
 ·split at hk
  ·simp only[Osi]at hk;subst hk;exact hb
  ·cases hk
 ·split at hk
  ·rename_i b a;split at hk
   ·simp only[Osi]at hk;subst hk;exact Q47 a hb
   ·cases hk
  ·cases hk
theorem R.boxIn(h:R n W0 w X F H s a){r b:Nat}(hb:s.isBox r)(hv:Qp W0.gh a (.m r)= .pointer (some ⟨b,0,none⟩)): ∃S,F (.m r)=b::S:=by
 obtain⟨e,T,f,x,hb⟩:=hb;have g:=h.slots (.m r);rw[hb]at g;obtain⟨k,c,i,d,j,_⟩:=g;rw[hv]at d;simp only[Value.pointer.injEq,Osi,Addr.mk.injEq,and_true]at d;exact⟨i,by rw[j,d]⟩
end
def Wz:Ty->Fl->Fl->Bool|_,.d,.d=>true|_,.u true,.u true=>true|_,.u false,.u false=>true|T,.u _,.u _=>T.flat| .pair A B,.p f1 f2,.p g1 g2=>Wz A f1 g1&&Wz B f2 g2| .pair A B,.u b,.p g1 g2=>Wz A (.u b) g1&&Wz B (.u b) g2| .pair A B,.p f1 f2,.u b=>Wz A f1 (.u b)&&Wz B f2 (.u b)| .slice _ _,.p (.u true) (.u false),.p (.u true) (.u false)=>true|_,_,_=>false
section
variable {w:World} {X:Nat->Prop} {B:Nat}
theorem Zh3: ∀{T:Ty} {f g:Fl} {x:T.den} {vs:List Value} {S:List Nat},Wz T f g=true->rdF w X B T f x vs S->rdF w X B T g x vs S
 |T,.d,.d,_,_,_,_,h=>h
 |T,.u true,.u true,_,_,_,_,h=>h
 |T,.u false,.u false,_,_,_,_,h=>h
 |T,.u true,.u false,x,vs,S,a,h=>by
  unfold rdF at h⊢;have r:T.flat=true:=by simpa[Wz]using a
  obtain⟨rfl,i⟩:=Zdc (X':=X) (own':=false) (w':=w) r h;exact i
 |T,.u false,.u true,x,vs,S,a,h=>by
  unfold rdF at h⊢;have r:T.flat=true:=by simpa[Wz]using a
  obtain⟨rfl,i⟩:=Zdc (X':=X) (own':=true) (w':=w) r h;exact i
 | .pair A B,.p y z,.p s v,x,vs,S,a,⟨j,k,l,m,n,o,q,i⟩=>by
  simp only[Wz,Oba]at a;exact⟨j,k,l,m,n,o,Zh3 a.1 q,Zh3 a.2 i⟩
 | .pair A B,.u b,.p s v,x,vs,S,a,h=>by
  unfold rdF at h;obtain⟨j,k,l,m,n,o,q,i⟩:=h;simp only[Wz,Oba]at a;exact⟨j,k,l,m,n,o,Zh3 a.1 (by unfold rdF;exact q),Zh3 a.2 (by unfold rdF;exact i)⟩
 | .pair A B,.p y z,.u b,x,vs,S,a,⟨j,k,l,m,n,o,q,i⟩=>by
  simp only[Wz,Oba]at a;have C:=Zh3 a.1 q;have D:=Zh3 a.2 i;unfold rdF at C D⊢;exact⟨j,k,l,m,n,o,C,D⟩
 |T,.d,.u _,_,_,_,a,_=>by cases T<;>simp[Wz]at a
 |T,.d,.p ..,_,_,_,a,_=>by cases T<;>simp[Wz]at a
 |T,.u b,.d,_,_,_,a,_=>by cases T<;>cases b<;>simp[Wz]at a
 |T,.p ..,.d,_,_,_,a,_=>by cases T<;>simp[Wz]at a
 | .unit,.p ..,.u _,_,_,_,a,_| .int _,.p ..,.u _,_,_,_,a,_| .bool,.p ..,.u _,_,_,_,a,_| .fnc _,.p ..,.u _,_,_,_,a,_| .str,.p ..,.u _,_,_,_,a,_| .slice ..,.p ..,.u _,_,_,_,a,_| .err,.p ..,.u _,_,_,_,a,_| .hid _,.p ..,.u _,_,_,_,a,_| .sptr ..,.p ..,.u _,_,_,_,a,_| .clo ..,.p ..,.u _,_,_,_,a,_| .arr ..,.p ..,.u _,_,_,_,a,_=>by simp[Wz]at a
 | .slice e t,.p y z,.p s v,_,_,_,a,h=>by
  obtain⟨rfl,rfl,i⟩:=Zg0 h;cases s with
  |u b=>cases b with
   |true=>cases v with
    |u c=>cases c with
     |false=>exact h
     |true=>simp[Wz]at a
    |p _ _=>simp[Wz]at a
    |d=>simp[Wz]at a
   |false=>simp[Wz]at a
  |p _ _=>simp[Wz]at a
  |d=>simp[Wz]at a
 | .unit,.p ..,.p ..,_,_,_,a,_| .int _,.p ..,.p ..,_,_,_,a,_| .bool,.p ..,.p ..,_,_,_,a,_| .fnc _,.p ..,.p ..,_,_,_,a,_| .str,.p ..,.p ..,_,_,_,a,_| .err,.p ..,.p ..,_,_,_,a,_| .hid _,.p ..,.p ..,_,_,_,a,_| .sptr ..,.p ..,.p ..,_,_,_,a,_| .clo ..,.p ..,.p ..,_,_,_,a,_| .arr ..,.p ..,.p ..,_,_,_,a,_=>by simp[Wz]at a
 | .unit,.u b,.p ..,_,_,_,a,_| .int _,.u b,.p ..,_,_,_,a,_| .bool,.u b,.p ..,_,_,_,a,_| .fnc _,.u b,.p ..,_,_,_,a,_| .str,.u b,.p ..,_,_,_,a,_| .slice ..,.u b,.p ..,_,_,_,a,_| .err,.u b,.p ..,_,_,_,a,_| .hid _,.u b,.p ..,_,_,_,a,_| .sptr ..,.u b,.p ..,_,_,_,a,_| .clo ..,.u b,.p ..,_,_,_,a,_| .arr ..,.u b,.p ..,_,_,_,a,_=>by cases b<;>simp[Wz]at a
theorem Qy1{T:Ty}{f g:Fl}{x:T.den}{vs:List Value}{S:List Nat}(hs:f=g\/Wz T f g=true)(h:rdF w X B T f x vs S):rdF w X B T g x vs S:=by
 rcases hs with rfl|hs
 ·exact h
 ·exact Zh3 hs h
end
end Go.Am
namespace Go.Am
open Go.RowKit
def Ztg(P:Program)(e:TypeId)(T:Ty):Bool:=
 match P.info? e with
 |some i=>(Nat.beq i.size T.size&&T.plain)&&Nat.ble i.bytes 8192
 |none=>false
def Zlr(P:Program):List Field->Ty->Nat->Bool| [],.unit,_=>true|f::fs,.pair a b,off=>Nat.beq f.offset off&&Ztg P f.type a&&Nat.blt 0 a.size&&Zlr P fs b (off+a.size)|_,_,_=>false
def Q5l(P:Program)(e:TypeId)(T:Ty):Bool:=
 match P.underlying e,T with
 |some (.struct _),.unit|some (.struct _),.pair .. |some (.array ..),.arr .. =>true
 |some (.struct _),_|some (.array ..),_=>false
 |some _,.unit|some _,.pair .. |some _,.arr .. =>false
 |some _,_=>true
 |none,_=>false
def Zrc(P:Program)(e:TypeId)(T:Ty):Bool:=
 Ztg P e T&&match T with
  | .int k=>(match P.underlying e with|some (.int k')=>decide (k=k')|_=>false)
  | .bool=>(match P.underlying e with|some .bool=>true|_=>false)
  | .str=>(match P.underlying e with|some .string=>true|_=>false)
  | .slice e' t=>Nat.blt 0 t.size&& (match P.underlying e with|some (.slice e2)=>Nat.beq e' e2|_=>false)
  | .arr n t=>Nat.blt 0 t.size&& (match P.underlying e with|some (.array m e2)=>Nat.beq n m&& (Ztg P e2 t&&Q5l P e2 t)|_=>false)
  |T=>(match P.underlying e with|some (.struct fs)=>Zlr P fs.toList T 0|_=>false)
structure TOK(P:Program)(e:TypeId)(T:Ty):Prop where
 zero: (P.info? e).map (·.zero)=some (some (Xz T (Vh T)))
 shape:Zrc P e T=true
abbrev Tab:=TypeId->Option Ty
def Tab.ok(τ:Tab)(P:Program):Prop:= ∀e T,τ e=some T->TOK P e T
theorem Zml{P:Program}{e:TypeId}{T:Ty}(h:Ztg P e T=true): ∃i,P.info? e=some i/\i.size=T.size/\i.bytes<=8192:=by
 unfold Ztg at h;split at h
 ·rename_i i a;simp only[Oba,Nat.ble_eq]at h;exact⟨i,a,Onb h.1.1,h.2⟩
 ·cases h
section
variable {P:Program} {e:TypeId} {T:Ty}
theorem TOK.size(h:TOK P e T): ∃i,P.info? e=some i/\i.size=T.size/\i.bytes<=8192/\i.zero=some (Xz T (Vh T)):=by
 have a:=h.shape;unfold Zrc at a;rw[Oba]at a;obtain⟨i,b,c,d⟩:=Zml a.1;have:=h.zero;rw[b]at this;exact⟨i,b,c,d,by simpa using this⟩
theorem TOK.plain(h:TOK P e T):T.plain=true:=by
 have b:=h.shape;unfold Zrc at b;rw[Oba]at b;have a:=b.1;unfold Ztg at a;split at a
 ·simp only[Oba]at a;exact a.1.2
 ·cases a
theorem TOK.int{k:IntKind}(h:TOK P e (.int k)):P.underlying e=some (.int k):=by
 have b:=h.shape;unfold Zrc at b;rw[Oba]at b;have a:=b.2;simp only at a;split at a
 ·rename_i c hk;rw[hk];simp at a;rw[a]
 ·cases a
theorem TOK.bool(h:TOK P e .bool):P.underlying e=some .bool:=by
 have a:=h.shape;unfold Zrc at a;rw[Oba]at a;have b:=a.2;simp only at b;split at b
 ·assumption
 ·cases b
theorem TOK.str(h:TOK P e .str):P.underlying e=some .string:=by
 have a:=h.shape;unfold Zrc at a;rw[Oba]at a;have b:=a.2;simp only at b;split at b
 ·assumption
 ·cases b
theorem TOK.slice{e':TypeId}{t:Ty}(h:TOK P e (.slice e' t)):P.underlying e=some (.slice e')/\0<t.size:=by
 have b:=h.shape;unfold Zrc at b;rw[Oba]at b;have a:=b.2;simp only[Oba,Nat.blt_eq]at a;refine⟨?_,a.1⟩;have a:=a.2;split at a
 ·rename_i d c;rw[c,Onb a]
 ·cases a
theorem TOK.arr'{n:Nat}{t:Ty}(h:TOK P e (.arr n t)):0<t.size/\ ∃e2,P.underlying e=some (.array n e2)/\Ztg P e2 t=true/\Q5l P e2 t=true:=by
 have b:=h.shape;unfold Zrc at b;rw[Oba]at b;have a:=b.2;simp only[Oba,Nat.blt_eq]at a;refine⟨a.1,?_⟩;have a:=a.2;split at a
 ·rename_i m e2 c;simp only[Oba]at a;exact⟨e2,by rw[c,Onb a.1],a.2⟩
 ·cases a
theorem TOK.arr{n:Nat}{t:Ty}(h:TOK P e (.arr n t)):0<t.size/\ ∃e2,P.underlying e=some (.array n e2)/\Ztg P e2 t=true:=
 let⟨h1,e2,h2,h3,_⟩:=h.arr';⟨h1,e2,h2,h3⟩
def Ty.isStruct:Ty->Bool| .unit| .pair .. =>true|_=>false
def Ty.isAgg:Ty->Bool| .unit| .pair .. | .arr .. =>true|_=>false
theorem TOK.struct(h:TOK P e T)(hs:T.isStruct=true): ∃fs,P.underlying e=some (.struct fs)/\Zlr P fs.toList T 0=true:=by
 have b:=h.shape;unfold Zrc at b;rw[Oba]at b;have a:=b.2;cases T<;>simp[Ty.isStruct]at hs<;>simp only at a
 all_goals
  split at a
  ·rename_i fs c;exact⟨fs,c,a⟩
  ·cases a
theorem Qxy: ∀{fs:List Field} {T:Ty} {off i:Nat} {U:Ty},Zlr P fs T off=true->Zx8 T i=some U->
  ∃f,fs[i]? =some f/\f.offset=off+Ze2 T i/\Ztg P f.type U=true/\0<U.size:=by
 intro fs
 induction fs with
 |nil=>
  intro T off i U h c;cases T<;>simp[Zlr]at h
  simp[Zx8]at c
 |cons f fs d=>
  intro T off i U h c;cases T<;>simp only[Zlr]at h<;>first|cases h|skip
  rename_i a b;simp only[Oba,Nat.blt_eq]at h;obtain⟨⟨⟨e,g⟩,j⟩,k⟩:=h;cases i with
  |zero=>
   simp only[Zx8,Osi]at c;subst c;exact⟨f,rfl,by simp[Ze2,Onb e],g,j⟩
  |succ i=>
   obtain⟨l,m,n,o⟩:=d k c;exact⟨l,by simpa using m,by rw[n];simp[Ze2];omega,o⟩
theorem TOK.nofnc{f:FuncId}(h:TOK P e (.fnc f)):False:=by
 have:=h.shape;unfold Zrc at this;simp only[Oba]at this;obtain⟨_,a⟩:=this;split at a
 ·rename_i b _;cases hf:b.toList<;>rw[hf]at a<;>simp[Zlr]at a
 ·cases a
theorem TOK.noerr(h:TOK P e .err):False:=by
 have:=h.shape;unfold Zrc at this;simp only[Oba]at this;obtain⟨_,a⟩:=this;split at a
 ·rename_i b _;cases hf:b.toList<;>rw[hf]at a<;>simp[Zlr]at a
 ·cases a
theorem TOK.nohid{t:Ty}(h:TOK P e (.hid t)):False:=by
 have:=h.shape;unfold Zrc at this;simp only[Oba]at this;obtain⟨_,a⟩:=this;split at a
 ·rename_i b _;cases hf:b.toList<;>rw[hf]at a<;>simp[Zlr]at a
 ·cases a
theorem TOK.nosptr{e2:TypeId}{t:Ty}(h:TOK P e (.sptr e2 t)):False:=by
 have:=h.shape;unfold Zrc at this;simp only[Oba]at this;obtain⟨_,a⟩:=this;split at a
 ·rename_i b _;cases hf:b.toList<;>rw[hf]at a<;>simp[Zlr]at a
 ·cases a
theorem TOK.noclo{f:FuncId}{t:Ty}(h:TOK P e (.clo f t)):False:=by
 have:=h.shape;unfold Zrc at this;simp only[Oba]at this;obtain⟨_,a⟩:=this;split at a
 ·rename_i b _;cases hf:b.toList<;>rw[hf]at a<;>simp[Zlr]at a
 ·cases a
theorem TOK.isAgg(h:TOK P e T)(w:World): (isAgg e).run P w= .ok T.isAgg w:=by
 cases T with
 |int k=>simp[Go.isAgg,run_underlying h.int,Ty.isAgg]
 |bool=>simp[Go.isAgg,run_underlying h.bool,Ty.isAgg]
 |str=>simp[Go.isAgg,run_underlying h.str,Ty.isAgg]
 |fnc f=>exact h.nofnc.elim
 |err=>exact h.noerr.elim
 |hid t=>exact h.nohid.elim
 |sptr e t=>exact h.nosptr.elim
 |clo f t=>exact h.noclo.elim
 |slice g t=>simp[Go.isAgg,run_underlying h.slice.1,Ty.isAgg]
 |arr n t=>obtain⟨_,i,c,_⟩:=h.arr;simp[Go.isAgg,run_underlying c,Ty.isAgg]
 |unit=>obtain⟨d,c,_⟩:=h.struct rfl;simp[Go.isAgg,run_underlying c,Ty.isAgg]
 |pair a b=>obtain⟨d,c,_⟩:=h.struct rfl;simp[Go.isAgg,run_underlying c,Ty.isAgg]
theorem Q5m(h:Q5l P e T=true)(w:World): (Go.isAgg e).run P w= .ok T.isAgg w:=by
 unfold Q5l at h;cases hu:P.underlying e with
 |none=>rw[hu]at h;cases T<;>simp at h
 |some d=>
  rw[hu]at h;cases d<;>cases T<;>simp at h<;>simp[Go.isAgg,run_underlying hu,Ty.isAgg]
theorem TOK.sizeOf(h:TOK P e T)(w:World): (sizeOf e).run P w= .ok T.size w:=by
 obtain⟨i,a,b,_⟩:=h.size;simp[Go.sizeOf,typeInfo,a,b]
theorem Qgn(h:T.isAgg=false):T.size=1:=by cases T<;>simp[Ty.isAgg]at h<;>rfl
theorem TOK.load(h:TOK P e T){w:World}{ad:Addr}{vs:List Value}(hl:vs.length=T.size)(hc: ∀j u,vs[j]? =some u->w.cell? (ad.add j)=some u):
  (loadVar e ad).run P w= .ok (Xz T vs) w:=by
 unfold loadVar;simp only[Sem.run_bind,h.isAgg w,Result.andThen_ok];cases ha:T.isAgg
 ·have a:=Qgn ha;rw[a]at hl;obtain⟨v,rfl⟩:=List.length_eq_one_iff.1 hl;have:=hc 0 v rfl;simp only[Addr.add_zero']at this;have b:Xz T [v]=v:=by cases T<;>simp[Ty.isAgg]at ha<;>rfl
  simp[this,b]
 ·simp only[if_true,Sem.run_bind,h.sizeOf w,Result.andThen_ok];have:=run_loadCells_list (P:=P) (w:=w) ad vs hc;rw[hl]at this;rw[this];cases T<;>simp[Ty.isAgg]at ha<;>rfl
theorem Z0t{vs:List Value}(h1: ∀u∈vs,u.oneCell'=true)(hl:vs.length=T.size): (Xz T vs).cells.toList=vs:=by
 cases ha:T.isAgg
 ·rw[Qgn ha]at hl;obtain⟨v,rfl⟩:=List.length_eq_one_iff.1 hl;have a:Xz T [v]=v:=by cases T<;>simp[Ty.isAgg]at ha<;>rfl
  rw[a];have:=h1 v (by simp);cases v<;>simp[Value.oneCell']at this<;>rfl
 ·cases T<;>simp[Ty.isAgg]at ha<;>simp[Xz,Value.cells]
end
abbrev Ob:=Option Prop
def Ob.ok:Ob->Prop|none=>True|some p=>p
structure Res where
 t:Tm
 s:St
 moved:Bool
 obl:Ob
def Old(w w':World):Prop:= ∀k,k<w.heap.size->w'.heap[k]? =w.heap[k]?
theorem Old.refl(w:World):Old w w:=fun _ _=>rfl
theorem Old.cell{w w':World}(h:Old w w'){ad:Addr}{u:Value}(hc:w.cell? ad=some u):w'.cell? ad=some u:=by
 have a:ad.block<w.heap.size:=by
  unfold World.cell? at hc;cases hk:w.heap[ad.block]? with
  |none=>rw[hk]at hc;cases hc
  |some o=>exact(Array.getElem?_eq_some_iff.1 hk).1
 rw[World.cell?_of_block (w:=w) (h _ a)];exact hc
theorem Old.alloc(w:World)(ob:Obj):Old w (w.alloc ob):=fun k hk=>by
 show(w.heap.push ob)[k]? =w.heap[k]?;rw[Array.getElem?_push,if_neg (Nat.ne_of_lt hk)]
def Qlu(gh:Nat->Value)(X:Nat->Prop)(s:St)(a:Act)(tgt:Option Nat)(w w':World):Prop:=∀b,(X b\/ ∃r,s.isBox r/\tgt≠some r/\Qp gh a (.m r)= .pointer (some ⟨b,0,none⟩))->w'.heap[b]? =w.heap[b]?
theorem R.kept{g:K9}{n:Nat}{W0:Zam g}{w w':World}{X:Nat->Prop}{F:Key->List Nat}{H:List Nat}{s:St}{a:Act}(h:R n W0 w X F H s a)(ho:Old w w'){tgt:Option Nat}:Qlu W0.gh X s a tgt w w':=fun b c=>ho b (by
 rcases c with c| ⟨r,d,_,e⟩
 ·exact h.xlt b c
 ·obtain⟨S,f⟩:=h.boxIn d e;exact(h.own (.m r) b (by rw[f];simp)).2.1)
def Q01:Op->Bool| .store .. =>false| .call {callee:= .builtin .append,..}=>false|_=>true
def Zqd(P:Program){g:K9}(n:Nat)(W0:Zam g)(w:World)(X:Nat->Prop)(H:List Nat)(s:St)(a:Act)(o:Oper)(r:Res):Prop:=r.obl.ok-> ∀(K:Act->World->Prop) (Q:Exit->Act->World->Prop),(∀v X' F' S w',(∀b,X b->X' b)->R n W0 w' X' F' (S++H) r.s a->vt W0.gh w' X' W0.B r.s F' a v S r.t->(r.moved=false->r.s=s)->(Q01 o.op=true->Old w w')/\Qlu W0.gh X s a none w w'->K (a.put o.dst v) w')->o.wp P a w K Q
section
variable {P:Program} {g:K9} {W0:Zam g} {w w':World} {X X':Nat->Prop} {B n:Nat} {own:Bool} {s:St} {F:Key->List Nat} {a:Act} {H:List Nat} {o:Oper} {tg:Xo} {τ:Tab} {gh:Nat->Value}
def Q7h(τ:Tab):Op->Bool
 | .load .. =>true
 | .convert e _ _=>match τ e with|some (.slice _ _)=>true|_=>false
 |_=>false
def Zwg(s:St):Op->Option (Option Nat)
 | .load _ (.tmp k)=>
  let rec go:Tm->Option (Option Nat)
   | .ptr r _=>some (some r)
   | .aep r _ _=>some (some r)
   | .pls _ _=>some none
   | .shp _ _=>some none
   | .gd _ _ t=>go t
   | .box _ _ _ _=>some (some k)
   |_=>none
  go (s.get (.m k))
 |_=>none
theorem Zl5{s:St}{tg:Xo}{e:TypeId}{k k':Nat}{t:Tm}(h:op1 s tg (.tmp k)= .tm k' t)(hj:t≠ .junk):Zwg s (.load e (.tmp k))=Zwg.go k t:=by
 obtain⟨e,_,h⟩:=Zlh h;cases e;have h:=h.symm;simp only[Zwg];cases hg:s.get (.m k)<;>rw[hg]at h<;>simp only[Zxd]at h<;>first| (subst h;rfl)|skip
 split at h
 ·exact absurd h.symm hj
 ·split at h
  ·subst h;rfl
  ·exact absurd h.symm hj
def Dep(gh:Nat->Value)(τ:Tab)(X:Nat->Prop)(s:St)(a:Act)(o:Oper)(w w':World):Prop:=Q7h τ o.op=true->match Zwg s o.op with
 |some (some r)=> ∀b,b<w.heap.size->Qp gh a (.m r)= .pointer (some ⟨b,0,none⟩)->w'.heap[b]? =w.heap[b]?
 |some none=> ∀b,b<w.heap.size->X b->w'.heap[b]? =w.heap[b]?
 |none=>Old w w'
theorem Dep.refl(gh:Nat->Value)(τ:Tab)(X:Nat->Prop)(s:St)(a:Act)(o:Oper)(w:World):Dep gh τ X s a o w w:=by
 intro _;split
 ·exact fun _ _ _=>rfl
 ·exact fun _ _ _=>rfl
 ·exact Old.refl w
def Zbh(P:Program)(τ:Tab){g:K9}(W0:Zam g)(w:World)(X:Nat->Prop)(F:Key->List Nat)(s:St)(a:Act)(o:Oper)(r:Res):Prop:=r.s=s/\(r.obl.ok-> ∃v,(∀w',Dep W0.gh τ X s a o w w'->(execOp a.eval o).run P w'= .ok (.value v) w')/\vt W0.gh w X W0.B s F a v [] r.t)
theorem Yr{r:Res}(hs:r.s=s)(hr:r.obl.ok-> ∃v,(∀w',Dep W0.gh τ X s a o w w'->(execOp a.eval o).run P w'= .ok (.value v) w')/\vt W0.gh w X W0.B s F a v [] r.t):Zbh P τ W0 w X F s a o r:=⟨hs,hr⟩
theorem Zps{r:Res}(h:R n W0 w X F H s a)(hs:r.s=s)(hr:r.obl.ok-> ∃v,(execOp a.eval o).run P w= .ok (.value v) w/\vt W0.gh w X W0.B s F a v [] r.t):Zqd P n W0 w X H s a o r:=by
 intro b K Q c;obtain⟨v,d,e⟩:=hr b;unfold Oper.wp;rw[d];exact c v X F [] w (fun _ h=>h) (by rw[hs];exact h) (by rw[hs];exact e) (fun _=>hs) ⟨fun _=>Old.refl w,h.kept (Old.refl w)⟩
theorem Zbh.sound{r:Res}(hp:Zbh P τ W0 w X F s a o r)(h:R n W0 w X F H s a):Zqd P n W0 w X H s a o r:=Zps h hp.1 fun b=>let⟨v,h1,h2⟩:=hp.2 b;⟨v,h1 w (Dep.refl _ _ _ _ _ _ w),h2⟩
def Z54(s:St)(k:Nat)(t:Tm):Option Res:=
 match t with
 | .val T f x=>match f.live,Znv f T with
  |true,true=>some ⟨.val T f x,s,false,none⟩
  |true,false=>match s.get (.m k)with
   | .val _ _ _=>some ⟨.bor k [],s,false,none⟩
   |_=>none
  |_,_=>none
 | .box _ _ _ _=>match s.get (.m k)with
  | .box _ _ _ _=>some ⟨.ptr k [],s,false,none⟩
  |_=>none
 | .ptr r p=>some ⟨.ptr r p,s,false,none⟩
 | .shp T x=>some ⟨.shp T x,s,false,none⟩
 | .bor r p=>some ⟨.bor r p,s,false,none⟩
 | .elp r p i q=>some ⟨.elp r p i q,s,false,none⟩
 | .aep r p i=>some ⟨.aep r p i,s,false,none⟩
 | .pls h l=>some ⟨.pls h l,s,false,none⟩
 | .bel r p i q=>some ⟨.bel r p i q,s,false,none⟩
 | .cl f l=>some ⟨.cl f l,s,false,none⟩
 |_=>none
def Q64:Value->Bool| .pointer none=>true|_=>false
def Qvq(τ:Tab)(s:St)(e:TypeId)(v:Value):Option Res:=
 match Q64 v with
 |true=>some ⟨.junk,s,false,none⟩
 |false=>match τ e with
  |some T=>match Z6h T v with
   |some x=>some ⟨.val T (.u true) x,s,false,none⟩
   |none=>none
  |none=>none
theorem Zz0{e:TypeId}{v:Value}{r:Res}(hr:Qvq τ s e v=some r):r.s=s/\vt gh w X B s F a v [] r.t:=by
 unfold Qvq at hr;split at hr
 ·simp only[Osi]at hr;subst hr;exact⟨rfl,rfl⟩
 ·split at hr
  ·split at hr
   ·rename_i T _ x hx;simp only[Osi]at hr;subst hr;obtain⟨b,c,d⟩:=Zvi (w:=w) (X:=X) (B:=B) (own:=true) hx;exact⟨rfl,b,c,by unfold rdF;exact d⟩
   ·cases hr
  ·cases hr
theorem Qzp(_h:R n W0 w X F H s a){k:Nat}{T:Ty}{f:Fl}{x:T.den}(hg:s.get (.m k)= .val T f x):Xi W0.gh w s F a k [] (Qp W0.gh a (.m k)) T:=by
 unfold Xi;rw[hg];exact⟨rfl,rfl,rfl⟩
theorem Zsc(h:R n W0 w X F H s a)(ht:tg.ok W0.gh a){x:Operand}{k:Nat}{t:Tm}(hx:op1 s tg x= .tm k t){r:Res}(hr:Z54 s k t=some r):
  r.s=s/\vt W0.gh w X W0.B s F a (a.eval x) [] r.t:=by
 have j:t≠ .junk:=by intro e;subst e;simp[Z54]at hr
 obtain⟨rfl,hv⟩:=Kp h ht hx j;unfold Z54 at hr;split at hr
 ·rename_i T f y;split at hr
  ·rename_i _ _ l;simp only[Osi]at hr;subst hr;obtain⟨m,i,d⟩:=hv;have:=Zi0 l d;rw[this]at d;exact⟨rfl,m,i,d⟩
  ·split at hr
   ·rename_i g;simp only[Osi]at hr;subst hr;exact⟨rfl,rfl,fun _=>⟨_,(Ye W0 a (Zlh hx).2.1)▸Qzp h g⟩⟩
   ·cases hr
  ·cases hr
 ·rename_i e T f y;split at hr
  ·rename_i o p q u g;simp only[Osi]at hr;subst hr;have hx:=(Zlh hx).2.2;simp only[g,Zxd]at hx;cases hx;obtain⟨b,c,S,i,d,v,z⟩:=hv;exact⟨rfl,rfl,_,_,_,_,b,S,g,d,i⟩
  ·cases hr
 ·simp only[Osi]at hr;subst hr;exact⟨rfl,hv.1▸hv⟩
 ·simp only[Osi]at hr;subst hr;exact⟨rfl,hv.1▸hv⟩
 ·simp only[Osi]at hr;subst hr;exact⟨rfl,hv.1▸hv⟩
 ·simp only[Osi]at hr;subst hr;exact⟨rfl,hv.1▸hv⟩
 ·simp only[Osi]at hr;subst hr;exact⟨rfl,hv.1▸hv⟩
 ·simp only[Osi]at hr;subst hr;exact⟨rfl,hv.1▸hv⟩
 ·simp only[Osi]at hr;subst hr;exact⟨rfl,hv.1▸hv⟩
 ·simp only[Osi]at hr;subst hr;exact⟨rfl,hv.1▸hv⟩
 ·cases hr
def Z0n(τ:Tab)(s:St)(tg:Xo)(e:TypeId)(x:Operand):Option Res:=
 match op1 s tg x with
 | .cst v=>Qvq τ s e v
 | .fn f=>some ⟨.val (.fnc f) (.u true) (),s,false,none⟩
 | .tm k t=>Z54 s k t
 |_=>none
theorem Qxe(f:FuncId):vt gh w X B s F a (.func (.func f) #[] #[]) [] (.val (.fnc f) (.u own) ()):=⟨[_],rfl,by unfold rdF;exact⟨rfl,rfl⟩⟩
theorem Q7l(h:R n W0 w X F H s a)(ht:tg.ok W0.gh a){e:TypeId}{x:Operand}{r:Res}(hr:Z0n τ s tg e x=some r):r.s=s/\vt W0.gh w X W0.B s F a (a.eval x) [] r.t:=by
 unfold Z0n at hr;split at hr
 ·rename_i v hv;obtain rfl:=Zw4 hv;exact Zz0 hr
 ·rename_i f hv;obtain rfl:=Qwv hv;simp only[Osi]at hr;subst hr;exact⟨rfl,Qxe f⟩
 ·rename_i k t hx;exact Zsc h ht hx hr
 ·cases hr
theorem Zxu(h:R n W0 w X F H s a)(ht:tg.ok W0.gh a){x:Operand}(ho:o.op= .move x){r:Res}(hr:Z0n τ s tg o.type x=some r):Zbh P τ W0 w X F s a o r:=by
 have b:=Q7l h ht hr;exact Yr b.1 fun _=>⟨_,fun c _=>by simp[execOp,ho],b.2⟩
def Zuw(τ:Tab)(s:St)(tg:Xo)(e:TypeId)(x:Operand):Option Res:=
 match op1 s tg x with
 | .cst v=>Qvq τ s e v
 | .fn f=>some ⟨.val (.fnc f) (.u true) (),s,false,none⟩
 | .tm k t=>match t with
  | .val _ _ _| .bor _ _=>match Qg9 s (.tm k t)with
   |some u=>some ⟨.val u.T u.f u.x,u.s,u.moved,none⟩
   |none=>none
  |_=>Z54 s k t
 |_=>none
theorem Qlw(h:R n W0 w X F H s a)(ht:tg.ok W0.gh a){x:Operand}(ho:o.op= .assign x){r:Res}(hr:Zuw τ s tg o.type x=some r):Zqd P n W0 w X H s a o r:=by
 unfold Zuw at hr;have b: ∀{k t u},op1 s tg x= .tm k t->Qg9 s (.tm k t)=some u->Zqd P n W0 w X H s a o ⟨.val u.T u.f u.x,u.s,u.moved,none⟩:=by
  intro k t u hx c;rw[<-hx]at c;obtain⟨g,S,i,d,e,j,l,_⟩:=Zxe h ht c;intro _ K Q m;unfold Oper.wp;simp only[execOp,ho,Sem.run_pure];exact m _ X g S w (fun _ h=>h) j ⟨i,d,e⟩ (fun p=>(l p).1) ⟨fun _=>Old.refl w,h.kept (Old.refl w)⟩
 split at hr
 ·rename_i v hv;obtain rfl:=Zw4 hv;obtain⟨d,e⟩:=Zz0 (w:=w) (X:=X) (B:=W0.B) (s:=s) (F:=F) (a:=a) hr;exact Zps h d fun _=>⟨_,by simp[execOp,ho,Act.eval],e⟩
 ·rename_i f hv;obtain rfl:=Qwv hv;simp only[Osi]at hr;subst hr;exact Zps h rfl fun _=>⟨_,by simp[execOp,ho,Act.eval],Qxe f⟩
 ·rename_i k t hx;split at hr
  ·split at hr
   ·rename_i u c;simp only[Osi]at hr;subst hr;exact b hx c
   ·cases hr
  ·split at hr
   ·rename_i u c;simp only[Osi]at hr;subst hr;exact b hx c
   ·cases hr
  ·obtain⟨d,e⟩:=Zsc h ht hx hr;exact Zps h d fun _=>⟨_,by simp[execOp,ho],e⟩
 ·cases hr
def Qoe(τ:Tab)(s:St)(tg:Xo)(e:TypeId)(c x y:Operand):Option Res:=
 match τ e,c with
 |some T,.tmp k=>match T.flat,Wi s (op1 s tg c) .bool,Wi s (op1 s ((k,true)::tg) x) T,Wi s (op1 s ((k,false)::tg) y) T with
  |true,some b,some u,some v=>some ⟨.val T (.u false) (match b with|true=>u|false=>v),s,false,none⟩
  |_,_,_,_=>none
 |_,_=>none
theorem Z9b(h:R n W0 w X F H s a)(ht:tg.ok W0.gh a){c x y:Operand}(ho:o.op= .pick c x y){r:Res}(hr:Qoe τ s tg o.type c x y=some r):Zbh P τ W0 w X F s a o r:=by
 unfold Qoe at hr;split at hr
 ·rename_i T k _;split at hr
  ·rename_i b u v j l q hv;simp only[Osi]at hr;subst hr;refine Yr rfl fun _=> ?_;obtain⟨e,f,t⟩:=W5 h ht l;obtain⟨rfl,_⟩:=t;have z:Qp W0.gh a (.m k)= .bool b:=(Ye W0 a (Zy4 l)).trans f;have d:Xo.ok ((k,b)::tg) W0.gh a:=fun p hp=>by
    rcases List.mem_cons.1 hp with rfl|hp
    ·exact z
    ·exact ht p hp
   cases b
   ·obtain⟨e,g,i⟩:=W5 h d hv;exact⟨_,fun A _=>by simp[execOp,ho,f,Xz,g,asBool],e,rfl,by unfold rdF;exact(Zdc j i).2⟩
   ·obtain⟨e,g,i⟩:=W5 h d q;exact⟨_,fun A _=>by simp[execOp,ho,f,Xz,g,asBool],e,rfl,by unfold rdF;exact(Zdc j i).2⟩
  ·cases hr
 ·cases hr
def Ka:Nat:=4611686018427387904
def Qo:Nat:=17179869184
def Q62(op:BinOp)(k:IntKind)(x y:Int):Option (TV×Ob):=
 match op with
 | .add=>some (⟨.int k,k.wrap (x+y)⟩,none)
 | .sub=>some (⟨.int k,k.wrap (x-y)⟩,none)
 | .mul=>some (⟨.int k,k.wrap (x*y)⟩,none)
 | .quo=>some (⟨.int k,k.wrap (x.tdiv y)⟩,some (y≠0))
 | .rem=>some (⟨.int k,x.tmod y⟩,some (y≠0))
 | .and=>some (⟨.int k,bits .and k x y⟩,none)
 | .or=>some (⟨.int k,bits .or k x y⟩,none)
 | .xor=>some (⟨.int k,bits .xor k x y⟩,none)
 | .andNot=>some (⟨.int k,bits .andNot k x y⟩,none)
 | .eql=>some (⟨.bool,x==y⟩,none)
 | .neq=>some (⟨.bool,x !=y⟩,none)
 | .lss=>some (⟨.bool,decide (x<y)⟩,none)
 | .leq=>some (⟨.bool,decide (x<=y)⟩,none)
 | .gtr=>some (⟨.bool,decide (x>y)⟩,none)
 | .geq=>some (⟨.bool,decide (x>=y)⟩,none)
 |_=>none
def Q78(op:BinOp)(x y:List UInt8):Option (TV×Ob):=
 match op with
 | .add=>some (⟨.str,x++y⟩,some (x.length+y.length<=Ka))
 | .eql=>some (⟨.bool,x==y⟩,none)
 | .neq=>some (⟨.bool,!(x==y)⟩,none)
 | .lss=>some (⟨.bool,Op.bytesLess x y⟩,none)
 | .leq=>some (⟨.bool,Op.bytesLess x y||x==y⟩,none)
 | .gtr=>some (⟨.bool,!(Op.bytesLess x y||x==y)⟩,none)
 | .geq=>some (⟨.bool,!(Op.bytesLess x y)⟩,none)
 |_=>none
def Q12(op:BinOp)(x y:Bool):Option (TV×Ob):=
 match op with
 | .eql=>some (⟨.bool,x==y⟩,none)
 | .neq=>some (⟨.bool,!(x==y)⟩,none)
 |_=>none
def Qze(op:BinOp)(k:IntKind)(x y:Int):Option (TV×Ob):=
 match op with
 | .shl=>some (⟨.int k,k.wrap (x*2^ (min y.toNat k.bits))⟩,some (0<=y))
 | .shr=>some (⟨.int k,x.fdiv (2^ (min y.toNat k.bits))⟩,some (0<=y))
 |_=>none
def BinOp.isShift:BinOp->Bool| .shl| .shr=>true|_=>false
def Qvl(τ:Tab)(s:St)(tg:Xo)(op:BinOp)(e:TypeId)(x y:Operand)(e2:TypeId):Option Res:=
 match τ e with
 |some (.int k)=>match BinOp.isShift op with
  |true=>match τ e2 with
   |some (.int k2)=>match Wi s (op1 s tg x) (.int k),Wi s (op1 s tg y) (.int k2)with
    |some u,some v=>match Qze op k u v with
     |some (z,p)=>some ⟨.val z.1 (.u false) z.2,s,false,p⟩
     |none=>none
    |_,_=>none
   |_=>none
  |false=>match Wi s (op1 s tg x) (.int k),Wi s (op1 s tg y) (.int k)with
   |some u,some v=>match Q62 op k u v with
    |some (z,p)=>some ⟨.val z.1 (.u false) z.2,s,false,p⟩
    |none=>none
   |_,_=>none
 |some .str=>match Wi s (op1 s tg x) .str,Wi s (op1 s tg y) .str with
  |some u,some v=>match Q78 op u v with
   |some (z,p)=>some ⟨.val z.1 (.u false) z.2,s,false,p⟩
   |none=>none
  |_,_=>none
 |some .bool=>match Wi s (op1 s tg x) .bool,Wi s (op1 s tg y) .bool with
  |some u,some v=>match Q12 op u v with
   |some (z,p)=>some ⟨.val z.1 (.u false) z.2,s,false,p⟩
   |none=>none
  |_,_=>none
 |_=>none
theorem Zx2(k:IntKind)(x:Int):vt gh w X B s F a (.int k x) [] (.val (.int k) (.u own) x):=⟨[.int k x],rfl,by unfold rdF;exact⟨rfl,rfl⟩⟩
theorem Zsy(x:Bool):vt gh w X B s F a (.bool x) [] (.val .bool (.u own) x):=⟨[.bool x],rfl,by unfold rdF;exact⟨rfl,rfl⟩⟩
theorem Qxf(x:List UInt8):vt gh w X B s F a (.string ⟨⟨x⟩⟩) [] (.val .str (.u own) x):=⟨[.string ⟨⟨x⟩⟩],rfl,by unfold rdF;exact⟨rfl,rfl⟩⟩
theorem Zp2(h:R n W0 w X F H s a)(ht:tg.ok W0.gh a){x:Operand}{k:IntKind}{y:Int}(hr:Wi s (op1 s tg x) (.int k)=some y):a.eval x= .int k y:=by
 obtain⟨d,b,c,_⟩:=W5 h ht hr;rw[b,c];rfl
theorem Zkd(h:R n W0 w X F H s a)(ht:tg.ok W0.gh a){x:Operand}{y:Bool}(hr:Wi s (op1 s tg x) .bool=some y):a.eval x= .bool y:=by
 obtain⟨d,b,c,_⟩:=W5 h ht hr;rw[b,c];rfl
theorem Zuz(h:R n W0 w X F H s a)(ht:tg.ok W0.gh a){x:Operand}{y:List UInt8}(hr:Wi s (op1 s tg x) .str=some y):a.eval x= .string ⟨⟨y⟩⟩:=by
 obtain⟨d,b,c,_⟩:=W5 h ht hr;rw[b,c];rfl
theorem Q1n(x y:List UInt8): (ByteArray.mk ⟨x⟩)++ (ByteArray.mk ⟨y⟩)=ByteArray.mk ⟨x++y⟩:=by
 apply ByteArray.ext;simp
theorem Qc6(h:R n W0 w X F H s a)(ht:tg.ok W0.gh a)(hτ:τ.ok P){op:BinOp}{e e2:TypeId}{x y:Operand}(ho:o.op= .binOp op e x y e2){r:Res}(hr:Qvl τ s tg op e x y e2=some r):
  Zbh P τ W0 w X F s a o r:=by
 unfold Qvl at hr;split at hr
 ·rename_i k i;split at hr
  ·split at hr
   ·split at hr
    ·rename_i m _ _ _ u v f hv;split at hr
     ·rename_i z p b;simp only[Osi]at hr;subst hr;refine Yr rfl fun c=> ?_;have d:=Zp2 h ht f;have e2:=Zp2 h ht hv;cases op<;>simp only[Qze]at b<;>first|cases b|skip
      all_goals
       have j: ¬v<0:=Int.not_lt.mpr (show(0:Int)<=v from c)
       (refine⟨_,fun g _=> ?_,Zx2 _ _⟩;simp only[execOp,ho,d,e2];simp[go_sem,Op.shift,j])
     ·cases hr
    ·cases hr
   ·cases hr
  ·split at hr
   ·rename_i u v f hv;split at hr
    ·rename_i z p b;simp only[Osi]at hr;subst hr;refine Yr rfl fun c=> ?_;have d:=Zp2 h ht f;have e2:=Zp2 h ht hv;cases op<;>simp only[Q62]at b<;>first|cases b|skip
     all_goals first
      | (refine⟨_,fun g _=> ?_,Zx2 _ _⟩;simp only[execOp,ho,d,e2];simp[go_sem,Op.intArith];done)
      | (refine⟨_,fun g _=> ?_,Zsy _⟩;simp only[execOp,ho,d,e2];first| (simp[go_sem];done)| (simp[go_sem,binOp,Op.stringOp];done))
      | (have c:v≠0:=c;refine⟨_,fun g _=> ?_,Zx2 _ _⟩;simp only[execOp,ho,d,e2];simp[go_sem,Op.intDiv,c])
    ·cases hr
   ·cases hr
 ·split at hr
  ·rename_i u v f hv;split at hr
   ·rename_i z p b;simp only[Osi]at hr;subst hr;refine Yr rfl fun c=> ?_;have d:=Zuz h ht f;have e2:=Zuz h ht hv;cases op<;>simp only[Q78]at b<;>first|cases b|skip
    ·refine⟨.string ⟨⟨u++v⟩⟩,fun g _=> ?_,Qxf _⟩;have c:u.length+v.length<=Ka:=c;unfold Ka at c;simp only[execOp,ho,d,e2];simp[go_sem,binOp,Op.stringOp,Q1n];have:IntKind.i64.max=9223372036854775807:=rfl;omega
    all_goals (refine⟨_,fun g _=> ?_,Zsy _⟩;simp only[execOp,ho,d,e2];first| (simp[go_sem];done)| (simp[go_sem,binOp,Op.stringOp];done))
   ·cases hr
  ·cases hr
 ·rename_i i;split at hr
  ·rename_i u v f hv;split at hr
   ·rename_i z p b;simp only[Osi]at hr;subst hr;refine Yr rfl fun c=> ?_;have d:=Zkd h ht f;have e2:=Zkd h ht hv;have l:=(hτ _ _ i).bool;cases op<;>simp only[Q12]at b<;>first|cases b|skip
    all_goals (refine⟨_,fun g _=> ?_,Zsy _⟩;simp only[execOp,ho,d,e2];simp[go_sem,binOp,run_equal_bool g e u v l])
   ·cases hr
  ·cases hr
 ·cases hr
end
end Go.Am
namespace Go.Am
open Go.RowKit
section
variable {P:Program} {g:K9} {W0:Zam g} {w w':World} {X X':Nat->Prop} {B n:Nat} {own:Bool} {s:St} {F:Key->List Nat} {a:Act} {H:List Nat} {o:Oper} {tg:Xo} {τ:Tab} {gh:Nat->Value}
theorem Qb7(h:R n W0 w X F H s a){k r:Nat}{p:List Nat}{T:Ty}{f:Fl}{y:T.den}(hl:Ztc s (.tm k (.bor r p))=some ⟨T,f,y⟩){v:Value}{U:Ty}(hU:Xi W0.gh w s F a r p v U):
  s.bad r p=false/\T=U/\f.live=true/\ ∃vs S,v=Xz T vs/\rdF w X W0.B T f y vs S/\(∀b∈S,b∈F (.m r)):=by
 simp only[Ztc]at hl;split at hl
 ·cases hl
 ·rename_i d;refine⟨d,?_⟩;unfold Xi at hU;have g:=h.slots (.m r);split at hl
  ·rename_i D E G j;rw[j]at hU g;obtain⟨rfl,rfl,hv⟩:=hU;split at hl
   ·rename_i l;simp only[Osi,Sigma.mk.injEq]at hl;obtain⟨rfl,hl⟩:=hl;simp only[heq_eq_eq,Opi]at hl;obtain⟨rfl,rfl⟩:=hl;obtain⟨vs,i,o⟩:=g;exact⟨rfl,l,vs,_,hv.trans i,o,fun b I=>I⟩
   ·cases hl
  ·rename_i e D E G j;rw[j]at hU g;obtain⟨b,c,S,V,i,o,x,J,K⟩:=hU;obtain⟨L,W,Y,Z,z,q,M⟩:=g;rw[i]at z;obtain⟨rfl,rfl⟩:=List.cons.inj z;rw[o]at q;simp only[Osi,Obj.cells.injEq]at q;obtain⟨rfl,_⟩:=q;rw[x]at hl;simp only at hl;split at hl
   ·rename_i l;simp only[Osi,Sigma.mk.injEq]at hl;obtain⟨rfl,hl⟩:=hl;simp only[heq_eq_eq,Opi]at hl;obtain⟨rfl,rfl⟩:=hl;obtain⟨pre,t,A,S1,N,S3,O,P,Q,C,_⟩:=Zfc x M;refine⟨J.symm,l,t,N,?_,C,fun L u=>by rw[i,P];simp[u]⟩;rw[K,Zzr O Q (X8 C)]
   ·cases hl
  ·cases hl
def Zq9(s:St)(x:Op1):Option (IntKind×Int):=
 match x with
 | .cst (.int k n)=>some (k,n)
 | .cst _=>none
 |x=>match Ztc s x with
  |some ⟨.int k,_,n⟩=>some (k,n)
  |_=>none
theorem Zej(h:R n W0 w X F H s a)(ht:tg.ok W0.gh a){x:Operand}{k:IntKind}{y:Int}(hr:Zq9 s (op1 s tg x)=some (k,y)):a.eval x= .int k y:=by
 unfold Zq9 at hr;split at hr
 ·rename_i v hv;simp only[Osi,Opi]at hr;obtain⟨rfl,rfl⟩:=hr;obtain rfl:=Zw4 hv;rfl
 ·cases hr
 ·split at hr
  ·rename_i j f l e;simp only[Osi,Opi]at hr;obtain⟨rfl,rfl⟩:=hr;obtain⟨_,m,S,i,c,_⟩:=Zfa h ht e;cases f with
   |u b=>unfold rdF at c;rw[i,c.1];rfl
   |p f g=>exact c.elim
   |d=>simp[Fl.live]at*
  ·cases hr
def Z4z(s:St)(x:Op1):Option ((_:TypeId)×(t:Ty)×Bool×List t.den):=
 match Ztc s x with
 |some ⟨.slice e t,.u b,l⟩=>some ⟨e,t,b,l⟩
 |_=>none
theorem Zur(h:R n W0 w X F H s a)(ht:tg.ok W0.gh a){x:Operand}{e:TypeId}{t:Ty}{b:Bool}{l:List t.den}(hr:Z4z s (op1 s tg x)=some ⟨e,t,b,l⟩):
  ∃v xs S1 S2,a.eval x=v/\hdr w X W0.B b e t.size l.length v xs S1/\Zaj (rd w X W0.B b t) l xs S2/\ ∀b'∈S1++S2,∃k,b'∈F k:=by
 unfold Z4z at hr;split at hr
 ·rename_i m o b' p d;simp only[Osi,Sigma.mk.injEq]at hr;obtain⟨rfl,hr⟩:=hr;simp only[heq_eq_eq,Sigma.mk.injEq]at hr;obtain⟨rfl,hr⟩:=hr;simp only[heq_eq_eq,Opi]at hr;obtain⟨rfl,rfl⟩:=hr;obtain⟨_,q,S,f,c,g⟩:=Zfa h ht d;unfold rdF at c;obtain⟨v,xs,S1,S2,rfl,rfl,i,j⟩:=c;exact⟨v,xs,S1,S2,f,i,j,g⟩
 ·cases hr
def Q3p(τ:Tab)(s:St)(tg:Xo)(op:UnOp)(e:TypeId)(x:Operand):Option Res:=
 match op,τ e with
 | .not,some .bool=>match Wi s (op1 s tg x) .bool with
  |some u=>some ⟨.val .bool (.u false) (!u),s,false,none⟩
  |none=>none
 | .neg,some (.int k)=>match Wi s (op1 s tg x) (.int k)with
  |some u=>some ⟨.val (.int k) (.u false) (k.wrap (0-u)),s,false,none⟩
  |none=>none
 |_,_=>none
theorem Qlr(h:R n W0 w X F H s a)(ht:tg.ok W0.gh a){op:UnOp}{e:TypeId}{x:Operand}(ho:o.op= .unOp op e x){r:Res}(hr:Q3p τ s tg op e x=some r):Zbh P τ W0 w X F s a o r:=by
 unfold Q3p at hr;split at hr
 ·split at hr
  ·rename_i u b;simp only[Osi]at hr;subst hr;have c:=Zkd h ht b;refine Yr rfl fun _=>⟨_,fun d _=> ?_,Zsy _⟩
   simp only[execOp,ho,c];simp[Op.unary]
  ·cases hr
 ·split at hr
  ·rename_i k _ _ u b;simp only[Osi]at hr;subst hr;have c:=Zp2 h ht b;refine Yr rfl fun _=>⟨_,fun d _=> ?_,Zx2 _ _⟩
   simp only[execOp,ho,c];simp[Op.unary,Op.intArith]
  ·cases hr
 ·cases hr
def Qq(l:List Int):List UInt8:=l.map fun n=>UInt8.ofNat n.toNat
def Qn7(τ:Tab)(s:St)(tg:Xo)(src dst:TypeId)(x:Operand):Option Res:=
 match τ src,τ dst with
 |some (.int k),some (.int k2)=>match Wi s (op1 s tg x) (.int k)with
  |some u=>some ⟨.val (.int k2) (.u false) (k2.wrap u),s,false,none⟩
  |none=>none
 |some (.slice e' (.int .u8)),some .str=>match Z4z s (op1 s tg x),τ e' with
  |some ⟨_,.int .u8,_,l⟩,some (.int .u8)=>some ⟨.val .str (.u false) (Qq l),s,false,none⟩
  |_,_=>none
 |some .str,some .str=>match Wi s (op1 s tg x) .str with
  |some u=>some ⟨.val .str (.u false) u,s,false,none⟩
  |none=>none
 |_,_=>none
theorem Qu0{k:IntKind}: ∀{l:List Int} {xs:List Value} {S:List Nat},Zaj (rd w X B own (.int k)) l xs S->xs=l.map (Value.int k)/\S=[]
 | [],_,_,⟨a,b⟩=>⟨a,b⟩
 |x::l,_,_,⟨e,f,g,h,c,d,a,b⟩=>by
  obtain⟨rfl,rfl⟩:=a;obtain⟨rfl,rfl⟩:=Qu0 b;exact⟨by rw[c];rfl,by rw[d];rfl⟩
theorem Z1k: ∀(l:List Int) (r:ByteArray),l.foldl (fun r n=>r.push (UInt8.ofNat n.toNat)) r=⟨r.data++ (Qq l).toArray⟩
 | [],r=>by simp[Qq]
 |b::l,r=>by
  simp only[List.foldl_cons];rw[Z1k l];simp[ByteArray.push,Qq]
theorem Z8v(h:R n W0 w X F H s a)(ht:tg.ok W0.gh a)(hτ:τ.ok P){e e2:TypeId}{x:Operand}(ho:o.op= .convert e e2 x){r:Res}(hr:Qn7 τ s tg e e2 x=some r):Zbh P τ W0 w X F s a o r:=by
 unfold Qn7 at hr;split at hr
 ·rename_i k B f i;split at hr
  ·rename_i u q;simp only[Osi]at hr;subst hr;have t:=Zp2 h ht q;refine Yr rfl fun _=>⟨_,fun g c=> ?_,Zx2 _ _⟩
   simp only[execOp,ho,t];simp[convert,run_underlying (hτ _ _ f).int,run_underlying (hτ _ _ i).int,Conv.intToInt]
  ·cases hr
 ·rename_i D f i;split at hr
  ·rename_i J b l p d;simp only[Osi]at hr;subst hr;have d:=hτ _ _ d;obtain⟨v,K,L,M,hv,E,B,_⟩:=Zur h ht p;obtain⟨rfl,rfl⟩:=Qu0 B;obtain⟨G,m,rfl,_,_,y⟩:=Zc8 E;refine Yr rfl fun _=>⟨_,fun g c=> ?_,Qxf _⟩
   simp only[execOp,ho,hv];rw[Sem.run_bind,run_convert_bytes_string g e e2 D G _ m (hτ _ _ f).slice.1 d.int (hτ _ _ i).str];rcases y with⟨rfl,z,_⟩| ⟨C,rfl,_,y⟩
   ·have:l=[]:=List.eq_nil_of_length_eq_zero z;subst this;simp[Conv.bytesToString,Qq];rfl
   ·have p:=run_loadCells_list (P:=P) g C (l.map (Value.int .u8)) (fun j u I=>(show Old w g by
     have:=c (by rw[ho];simp[Q7h,f]);rw[ho]at this;exact this).cell (y j u I))
    simp only[List.length_map]at p;rw[run_bytesToString g C l.length m l p,Z1k];have A:ByteArray.empty.data= #[]:=rfl;rw[A];simp
  ·cases hr
 ·rename_i f i;split at hr
  ·rename_i u q;simp only[Osi]at hr;subst hr;have t:=Zuz h ht q;refine Yr rfl fun _=>⟨_,fun g c=> ?_,Qxf _⟩
   simp only[execOp,ho,t];simp[convert,run_underlying (hτ _ _ f).str,run_underlying (hτ _ _ i).str]
  ·cases hr
 ·cases hr
theorem Xa1(u:List UInt8): (ByteArray.mk ⟨u⟩).size=u.length:=rfl
theorem Xcr(u v:Int): (if v<u then v else u)=min u v:=by rw[Int.min_def];split<;>split<;>omega
theorem Xcp(u v:Int): (if u<v then v else u)=max u v:=by rw[Int.max_def];split<;>split<;>omega
def Qwm(τ:Tab)(s:St)(tg:Xo)(e:TypeId)(x:Operand):Option Res:=
 match τ e with
 |some .str=>match Wi s (op1 s tg x) .str with
  |some u=>some ⟨.val (.int .i64) (.u false) (u.length:Int),s,false,none⟩
  |none=>none
 |some (.slice _ _)=>match Z4z s (op1 s tg x)with
  |some ⟨_,_,_,l⟩=>some ⟨.val (.int .i64) (.u false) (l.length:Int),s,false,none⟩
  |none=>none
 |_=>none
theorem Qfa(h:R n W0 w X F H s a)(ht:tg.ok W0.gh a)(hτ:τ.ok P){e:TypeId}{x:Operand}(ho:o.op= .call {callee:= .builtin .len,args:= #[x],argTypes:= #[e]}){r:Res}(hr:Qwm τ s tg e x=some r):Zbh P τ W0 w X F s a o r:=by
 unfold Qwm at hr;split at hr
 ·rename_i c;split at hr
  ·rename_i u d;simp only[Osi]at hr;subst hr;have f:=Zuz h ht d;refine Yr rfl fun _=>⟨_,fun g _=> ?_,Zx2 _ _⟩
   simp only[execOp,ho];simp[resolve,invoke,builtin,f,Builtin.len_,run_underlying (hτ _ _ c).str,goInt,Xa1]
  ·cases hr
 ·rename_i c;split at hr
  ·rename_i m t b l i;simp only[Osi]at hr;subst hr;obtain⟨v,p,q,y,hv,j,z,_⟩:=Zur h ht i;obtain⟨A,k,rfl,_,_,B⟩:=Zc8 j;refine Yr rfl fun _=>⟨_,fun g _=> ?_,Zx2 _ _⟩
   simp only[execOp,ho];simp[resolve,invoke,builtin,hv,Builtin.len_,run_underlying (hτ _ _ c).slice.1,goInt]
  ·cases hr
 ·cases hr
def Qi1(s:St)(tg:Xo)(e:TypeId)(τ:Tab)(x y:Operand)(mx:Bool):Option Res:=
 match τ e with
 |some (.int k)=>match Wi s (op1 s tg x) (.int k),Wi s (op1 s tg y) (.int k)with
  |some u,some v=>some ⟨.val (.int k) (.u false) (match mx with|true=>(max u v:Int)|false=>(min u v:Int)),s,false,none⟩
  |_,_=>none
 |_=>none
theorem Zup(h:R n W0 w X F H s a)(ht:tg.ok W0.gh a){e e2:TypeId}{x y:Operand}{mx:Bool}(ho:o.op= .call {callee:= .builtin (match mx with|true=> .max|false=> .min),args:= #[x,y],argTypes:= #[e,e2]}){r:Res}(hr:Qi1 s tg e τ x y mx=some r):
  Zbh P τ W0 w X F s a o r:=by
 unfold Qi1 at hr;split at hr
 ·split at hr
  ·rename_i u v c hv;simp only[Osi]at hr;subst hr;have b:=Zp2 h ht c;have e2:=Zp2 h ht hv;refine Yr rfl fun _=>⟨_,fun d _=> ?_,Zx2 _ _⟩
   simp only[execOp,ho];cases mx
   ·simp[resolve,invoke,builtin,b,e2,Builtin.min_,Builtin.min2,Xcr]
   ·simp[resolve,invoke,builtin,b,e2,Builtin.max_,Builtin.max2,Xcp]
  ·cases hr
 ·cases hr
theorem Q4y{T:Ty}{e:TypeId}(h1:Ztg P e T=true)(h2:Q5l P e T=true)(w:World){xs:Array Value}{off:Nat}{pre u post:List Value}(hx:xs.toList=pre++ (u++post))(ho:pre.length=off)(hu:u.length=T.size):
  (part e xs off).run P w= .ok (Xz T u) w:=by
 obtain⟨i,b,c,_⟩:=Zml h1;unfold part;simp only[Sem.run_bind,Q5m h2 w,Result.andThen_ok];cases ha:T.isAgg
 ·have h1:=Qgn ha;rw[h1]at hu;obtain⟨v,rfl⟩:=List.length_eq_one_iff.1 hu;have:xs[off]? =some v:=by
   rw[<-Array.getElem?_toList,hx,<-ho];simp
  have a:Xz T [v]=v:=by cases T<;>simp[Ty.isAgg]at ha<;>rfl
  simp[this,a]
 ·simp only[if_true,Sem.run_bind,Go.sizeOf,typeInfo,Sem.run_pure];have d:xs.extract off (off+T.size)=u.toArray:=by
   apply Array.toList_inj.mp;rw[Array.toList_extract,hx,<-ho,<-hu];simp
  have a:Xz T u= .agg u.toArray:=by cases T<;>simp[Ty.isAgg]at ha<;>rfl
  simp[b,c,d,a]
def Qe2(τ:Tab)(s:St)(tg:Xo)(e:TypeId)(x i:Operand):Option Res:=
 match τ e with
 |some .str=>match Wi s (op1 s tg x) .str,Zq9 s (op1 s tg i)with
  |some u,some (_,j)=>some ⟨.val (.int .u8) (.u false) ((u.getD j.toNat 0).toNat:Int),s,false,some (0<=j/\j<u.length)⟩
  |_,_=>none
 |some (.arr n t)=>match t.flat,Wi s (op1 s tg x) (.arr n t),Zq9 s (op1 s tg i)with
  |true,some l,some (_,j)=>some ⟨.val t (.u false) (l.getD j.toNat (zero t)),s,false,some (0<=j/\j<n)⟩
  |_,_,_=>none
 |_=>none
theorem Z39(h:R n W0 w X F H s a)(ht:tg.ok W0.gh a)(hτ:τ.ok P){e:TypeId}{x i:Operand}(ho:o.op= .index e x i){r:Res}(hr:Qe2 τ s tg e x i=some r):Zbh P τ W0 w X F s a o r:=by
 unfold Qe2 at hr;split at hr
 ·rename_i p;split at hr
  ·rename_i u k j q v;simp only[Osi]at hr;subst hr;have L:=Zuz h ht q;have y:=Zej h ht v;refine Yr rfl fun g=>⟨_,fun G _=> ?_,Zx2 _ _⟩
   have g:0<=j/\j<u.length:=g;have z:j.toNat<u.length:=by omega
   have A:0<=j/\j< (ByteArray.mk ⟨u⟩).size:=by simpa[ByteArray.size]using g
   simp only[execOp,ho,L,y,Sem.run_bind];rw[run_index_string _ _ _ _ _ (hτ _ _ p).str,dif_pos A];simp[List.getD_eq_getElem?_getD,z];rfl
  ·cases hr
 ·rename_i n t M;split at hr
  ·rename_i l k j B N v;simp only[Osi]at hr;subst hr;obtain⟨I,p,O⟩:=W5 h ht N;have y:=Zej h ht v;obtain⟨b,c⟩:=O;have b:l.length=n:=b;obtain⟨_,V,q,J,C⟩:=(hτ _ _ M).arr';obtain⟨W,D,E,_⟩:=Zml J;by_cases d:0<=j/\j<n
   ·have m:j.toNat<l.length:=by omega
    obtain⟨pre,f,post,Y,Z,T3,Q,n2,S,K,_⟩:=Zra (fun _ _ _ h=>X5 h) m c;have U:l.getD j.toNat (zero t)=l[j.toNat]:=by rw[List.getD_eq_getElem?_getD,List.getElem?_eq_getElem m];rfl
    refine Yr rfl fun _=>⟨Xz t f,fun G _=> ?_,f,rfl,by rw[U];unfold rdF;exact(Zdc B K).2⟩
    have hx:a.eval x= .agg I.toArray:=p;simp only[execOp,ho,hx,y,Instr.index,Sem.run_bind,asIntOf,Sem.run_pure,Result.andThen_ok,run_underlying q,Go.sizeOf,typeInfo];simp only[d.1,d.2,and_self,if_true,Sem.run_bind];simp[D,E,Q4y J C G (xs:=I.toArray) (off:=j.toNat*t.size) (pre:=pre) (u:=f) (post:=post) (by simpa using Q) S (X5 K)]
   ·exact Yr rfl fun g=>absurd g d
  ·cases hr
 ·cases hr
end
end Go.Am

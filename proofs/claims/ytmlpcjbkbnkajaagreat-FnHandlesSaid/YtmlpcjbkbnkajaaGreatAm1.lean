/- The abstract machine, part 1: what a piece of Go code does, as plain data, and that it does so. No condition. -/
import Derived.WalkKit
namespace Go.Am
theorem Obs{α β:Type _}(a:α)(f:α->Option β):(some a).bind f=f a:=rfl
theorem Osi{α:Type _}(a b:α):(some a=some b)=(a=b):=Option.some.injEq a b
theorem Oba(a b:Bool):((a&&b)=true)=(a=true/\b=true):=Bool.and_eq_true a b
theorem Onb{n m:Nat}(h:Nat.beq n m=true):n=m:=Nat.eq_of_beq_eq_true h
theorem Ode{p:Prop}[Decidable p](h:decide p=true):p:=of_decide_eq_true h
theorem Opi{α β:Type _}(a:α)(b:β)(c:α)(d:β):((a,b)=(c,d))=(a=c/\b=d):=Prod.mk.injEq a b c d
theorem Oct{α:Type _}(a b:α):cond true a b=a:=rfl
theorem Ocf{α:Type _}(a b:α):cond false a b=b:=rfl
theorem Ont:(!true)=false:=rfl
theorem Ota(b:Bool):(true&&b)=b:=Bool.true_and b
inductive Ty where
 |unit|int (k:IntKind)|bool|str|slice (e:TypeId) (t:Ty)|pair (a b:Ty)|arr (n:Nat) (t:Ty)|fnc (f:FuncId)|err|hid (t:Ty)|sptr (e:TypeId) (t:Ty)|clo (f:FuncId) (t:Ty)
 deriving DecidableEq
@[reducible] def Ty.den:Ty->Type| .unit=>Unit| .int _=>Int| .bool=>Bool| .str=>List UInt8| .slice _ t=>List t.den| .pair a b=>a.den×b.den| .arr _ t=>List t.den| .fnc _=>Unit| .err=>Bool| .hid _=>Unit| .sptr _ t=>t.den| .clo _ t=>t.den
def Ty.size:Ty->Nat| .unit=>0| .pair a b=>a.size+b.size| .arr n t=>n*t.size|_=>1
def Ty.flat:Ty->Bool| .slice .. =>false| .pair a b=>a.flat&&b.flat| .arr _ t=>t.flat| .hid t=>t.flat| .sptr .. =>false| .clo .. =>false|_=>true
def Ty.plain:Ty->Bool| .sptr .. =>false| .clo .. =>false| .pair a b=>a.plain&&b.plain| .arr _ t=>t.plain| .hid t=>Nat.beq t.size 1&&t.plain|_=>true
def Xt(T:Ty)(vs:List Value):Value:=
 match T with
 | .unit| .pair .. | .arr .. => .agg vs.toArray
 |_=>vs.headD undef
def Ww{α:Type}(r:α->List Value->List Nat->Prop):List α->List Value->List Nat->Prop| [],vs,S=>vs=[]/\S=[]|x::xs,vs,S=> ∃v1 v2 S1 S2,vs=v1++v2/\S=S1++S2/\r x v1 S1/\Ww r xs v2 S2
def hdr(w:World)(X:Nat->Prop)(B:Nat)(own:Bool)(e:TypeId)(sz n:Nat)(v:Value)(xs:List Value)(S:List Nat):Prop:=
 match own with
 |true=>w.ownsRow B e sz v n xs/\S=v.ownBlock.toList
 |false=>S=[]/\xs.length=n*sz/\ ∃a cap,v= .slice a n cap/\n<=cap/\cap<=maxLen/\
   ((a=none/\n=0/\cap=0)\/ ∃ad,a=some ad/\(n=0\/X ad.block)/\ ∀j u,xs[j]? =some u->w.cell? (ad.add j)=some u)
def rd(w:World)(X:Nat->Prop)(B:Nat)(own:Bool): (T:Ty)->T.den->List Value->List Nat->Prop| .unit,_,vs,S=>vs=[]/\S=[]| .int k,x,vs,S=>vs=[.int k x]/\S=[]| .bool,x,vs,S=>vs=[.bool x]/\S=[]| .fnc f,_,vs,S=>vs=[.func (.func f) #[] #[]]/\S=[]| .str,x,vs,S=>vs=[.string ⟨⟨x⟩⟩]/\S=[]| .slice e t,x,vs,S=> ∃v xs S1 S2,vs=[v]/\S=S1++S2/\hdr w X B own e t.size x.length v xs S1/\Ww (rd w X B own t) x xs S2| .pair a b,x,vs,S=> ∃v1 v2 S1 S2,vs=v1++v2/\S=S1++S2/\rd w X B own a x.1 v1 S1/\rd w X B own b x.2 v2 S2| .arr n t,x,vs,S=>x.length=n/\Ww (rd w X B own t) x vs S| .err,x,vs,S=>(∃v,vs=[v]/\v.oneCell'=true/\((x=true/\v= .nilIface)\/(x=false/\ ∃t u,v= .iface t u)))/\S=[]| .hid t,_,vs,S=>vs.length=1/\ ∃y,rd w X B own t y vs S| .sptr e t,x,vs,S=>S=[]/\own=false/\ ∃b c,vs=[.pointer (some ⟨b,0,none⟩)]/\X b/\w.heap[b]? =some (.cells c e (0,0))/\rd w X B own t x c.toList []| .clo f t,x,vs,S=>S=[]/\ ∃cs:List Value,vs=[.func (.func f) #[] cs.toArray]/\rd w X B own t x cs []
inductive Fl where
 |u (own:Bool)|p (a b:Fl)|d
def rdF(w:World)(X:Nat->Prop)(B:Nat): (T:Ty)->Fl->T.den->List Value->List Nat->Prop|T,.d,_,vs,S=>vs.length=T.size/\(∀u∈vs,u.oneCell'=true)/\S=[]|T,.u b,x,vs,S=>rd w X B b T x vs S| .pair a b,.p f g,x,vs,S=> ∃v1 v2 S1 S2,vs=v1++v2/\S=S1++S2/\rdF w X B a f x.1 v1 S1/\rdF w X B b g x.2 v2 S2| .slice e t,.p (.u true) (.u false),x,vs,S=> ∃v xs,vs=[v]/\hdr w X B true e t.size x.length v xs S/\Ww (rd w X B false t) x xs []|_,.p ..,_,_,_=>False
theorem Zfz{w:World}{X:Nat->Prop}{B:Nat}{e:TypeId}{t:Ty}{f g:Fl}{x:List t.den}{vs:List Value}{S:List Nat}(h:rdF w X B (.slice e t) (.p f g) x vs S):
  f= .u true/\g= .u false/\ ∃v xs,vs=[v]/\hdr w X B true e t.size x.length v xs S/\Ww (rd w X B false t) x xs []:=by
 cases f with
 |u b=>cases b with
  |true=>cases g with
   |u c=>cases c with
    |false=>exact⟨rfl,rfl,h⟩
    |true=>exact h.elim
   |p _ _=>exact h.elim
   |d=>exact h.elim
  |false=>exact h.elim
 |p _ _=>exact h.elim
 |d=>exact h.elim
section
variable {w w':World} {X X':Nat->Prop} {B:Nat} {own:Bool}
theorem Kf{α:Type}{r r':α->List Value->List Nat->Prop}: ∀{xs:List α} {vs:List Value} {S:List Nat},
  Ww r xs vs S->(∀x v T,x∈xs->(∀b∈T,b∈S)->r x v T->r' x v T)->Ww r' xs vs S
 | [],_,_,h,_=>h
 |x::xs,_,_,⟨v1,v2,S1,S2,e1,e2,h1,h2⟩,k=>
  ⟨v1,v2,S1,S2,e1,e2,k x v1 S1 (by simp) (by rw[e2];intro b hb;simp[hb]) h1,
   Kf h2 fun y v T hy hT=>k y v T (by simp[hy]) (by rw[e2];intro b hb;simp[hT b hb])⟩
theorem Zpy{α:Type}{r:α->List Value->List Nat->Prop}{n:Nat}(hr: ∀x v S,r x v S->v.length=n): ∀{xs:List α} {vs:List Value} {S:List Nat},
  Ww r xs vs S->vs.length=xs.length*n
 | [],_,_,⟨e,_⟩=>by simp[e]
 |x::xs,_,_,⟨v1,v2,S1,S2,e1,_,h1,h2⟩=>by
  rw[e1,List.length_append,hr _ _ _ h1,Zpy hr h2,List.length_cons,Nat.add_mul];omega
theorem Q50{e:TypeId}{sz n:Nat}{v:Value}{xs:List Value}{S:List Nat}(h:hdr w X B own e sz n v xs S):xs.length=n*sz:=by
 cases own
 ·exact h.2.1
 ·exact h.1.1
theorem Xv: ∀{T:Ty} {x:T.den} {vs:List Value} {S:List Nat},rd w X B own T x vs S->vs.length=T.size
 | .unit,_,_,_,h=>by simp[h.1,Ty.size]
 | .int _,_,_,_,h=>by simp[h.1,Ty.size]
 | .bool,_,_,_,h=>by simp[h.1,Ty.size]
 | .fnc _,_,_,_,h=>by simp[h.1,Ty.size]
 | .str,_,_,_,h=>by simp[h.1,Ty.size]
 | .slice _ _,_,_,_,⟨_,_,_,_,e,_⟩=>by simp[e,Ty.size]
 | .pair a b,_,_,_,⟨v1,v2,S1,S2,e,_,h1,h2⟩=>by simp[e,Ty.size,Xv h1,Xv h2]
 | .arr n t,_,_,_,⟨h,h'⟩=>by rw[Zpy (n:=t.size) (fun _ _ _ h=>Xv h) h',h];rfl
 | .err,_,_,_,⟨⟨_,e,_⟩,_⟩=>by simp[e,Ty.size]
 | .hid _,_,_,_,⟨h,_⟩=>h
 | .sptr ..,_,_,_,⟨_,_,_,_,e,_⟩=>by simp[e,Ty.size]
 | .clo ..,_,_,_,⟨_,_,e,_⟩=>by simp[e,Ty.size]
theorem Xx: ∀{T:Ty} {f:Fl} {x:T.den} {vs:List Value} {S:List Nat},rdF w X B T f x vs S->vs.length=T.size
 |T,.d,_,_,_,h=>by unfold rdF at h;exact h.1
 |T,.u b,_,_,_,h=>by unfold rdF at h;exact Xv h
 | .pair a b,.p f g,_,_,_,⟨v1,v2,S1,S2,e,_,h1,h2⟩=>by simp[e,Ty.size,Xx h1,Xx h2]
 | .slice e t,.p f g,_,_,_,h=>by obtain⟨_,_,v,xs,e1,_⟩:=Zfz h;simp[e1,Ty.size]
 | .unit,.p ..,_,_,_,h| .int _,.p ..,_,_,_,h| .bool,.p ..,_,_,_,h| .fnc _,.p ..,_,_,_,h| .str,.p ..,_,_,_,h| .err,.p ..,_,_,_,h| .hid _,.p ..,_,_,_,h| .sptr ..,.p ..,_,_,_,h| .clo ..,.p ..,_,_,_,h| .arr ..,.p ..,_,_,_,h=>by simp[rdF]at h
theorem Qcb{e:TypeId}{sz n:Nat}{v:Value}{xs:List Value}{S:List Nat}(h:hdr w X B own e sz n v xs S)
  (hX: ∀b,X b->X' b) (hw: ∀b,X b->w'.heap[b]? =w.heap[b]?) (hS: ∀b∈S,w'.heap[b]? =w.heap[b]?):hdr w' X' B own e sz n v xs S:=by
 cases own
 ·obtain⟨h1,h2,a,cap,h3,h4,h5,h6⟩:=h;refine⟨h1,h2,a,cap,h3,h4,h5,?_⟩;rcases h6 with h6| ⟨ad,h7,h8,h9⟩
  ·exact .inl h6
  ·refine .inr ⟨ad,h7,h8.imp id (hX _),fun j u hj=> ?_⟩;rcases h8 with h8|h8
   ·subst h8;have:xs=[]:=List.eq_nil_of_length_eq_zero (by simpa using h2);subst this;simp at hj
   ·have hb: (ad.add j).block=ad.block:=by unfold Addr.add;split<;>rfl
    rw[World.cell?_of_block (w:=w) (by rw[hb];exact hw _ h8)];exact h9 j u hj
 ·obtain⟨h1,h2⟩:=h;refine⟨⟨h1.1,?_⟩,h2⟩;rcases h1.2 with h3| ⟨g,cap,cur,rfl,hb,hg,rest⟩
  ·exact .inl h3
  ·exact .inr ⟨g,cap,cur,rfl,hb,by rw[hS g (by rw[h2];simp[Value.ownBlock])];exact hg,rest⟩
theorem Zcp(hX: ∀b,X b->X' b)(hw: ∀b,X b->w'.heap[b]? =w.heap[b]?): ∀{T:Ty} {x:T.den} {vs:List Value} {S:List Nat},
  rd w X B own T x vs S->(∀b∈S,w'.heap[b]? =w.heap[b]?)->rd w' X' B own T x vs S
 | .unit,_,_,_,h,_=>h
 | .int _,_,_,_,h,_=>h
 | .bool,_,_,_,h,_=>h
 | .fnc _,_,_,_,h,_=>h
 | .str,_,_,_,h,_=>h
 | .slice _ _,_,_,_,⟨v,xs,S1,S2,e,e2,h1,h2⟩,hS=>
  ⟨v,xs,S1,S2,e,e2,Qcb h1 hX hw fun b hb=>hS b (by rw[e2];simp[hb]),
   Kf h2 fun _ _ _ _ hT h=>Zcp hX hw h fun b hb=>hS b (by rw[e2];simp[hT b hb])⟩
 | .pair a b,_,_,_,⟨v1,v2,S1,S2,e,e2,h1,h2⟩,hS=>
  ⟨v1,v2,S1,S2,e,e2,Zcp hX hw h1 fun b hb=>hS b (by rw[e2];simp[hb]),Zcp hX hw h2 fun b hb=>hS b (by rw[e2];simp[hb])⟩
 | .arr n t,_,_,_,⟨h,h'⟩,hS=>⟨h,Kf h' fun _ _ _ _ hT h=>Zcp hX hw h fun b hb=>hS b (hT b hb)⟩
 | .err,_,_,_,h,_=>h
 | .hid _,_,_,_,⟨e,y,h⟩,hS=>⟨e,y,Zcp hX hw h hS⟩
 | .sptr ..,_,_,_,⟨e,o,b,c,h1,h2,h3,h4⟩,_=>⟨e,o,b,c,h1,hX b h2,by rw[hw b h2];exact h3,Zcp hX hw h4 (by simp)⟩
 | .clo ..,_,_,_,⟨e,cs,h1,h2⟩,_=>⟨e,cs,h1,Zcp hX hw h2 (by simp)⟩
theorem Zpt(hX: ∀b,X b->X' b)(hw: ∀b,X b->w'.heap[b]? =w.heap[b]?): ∀{T:Ty} {f:Fl} {x:T.den} {vs:List Value} {S:List Nat},
  rdF w X B T f x vs S->(∀b∈S,w'.heap[b]? =w.heap[b]?)->rdF w' X' B T f x vs S
 |T,.d,_,_,_,h,_=>by unfold rdF at*;exact h
 |T,.u b,_,_,_,h,hS=>by unfold rdF at*;exact Zcp hX hw h hS
 | .pair a b,.p f g,_,_,_,⟨v1,v2,S1,S2,e,e2,h1,h2⟩,hS=>
  ⟨v1,v2,S1,S2,e,e2,Zpt hX hw h1 fun b hb=>hS b (by rw[e2];simp[hb]),Zpt hX hw h2 fun b hb=>hS b (by rw[e2];simp[hb])⟩
 | .slice e t,.p f g,_,_,_,h,hS=>by
  obtain⟨rfl,rfl,v,xs,e1,h1,h2⟩:=Zfz h;exact⟨v,xs,e1,Qcb h1 hX hw hS,Kf h2 fun _ _ _ _ hT h=>Zcp hX hw h fun b hb=>absurd (hT b hb) (by simp)⟩
 | .unit,.p ..,_,_,_,h,_| .int _,.p ..,_,_,_,h,_| .bool,.p ..,_,_,_,h,_| .fnc _,.p ..,_,_,_,h,_| .str,.p ..,_,_,_,h,_| .err,.p ..,_,_,_,h,_| .hid _,.p ..,_,_,_,h,_| .sptr ..,.p ..,_,_,_,h,_| .clo ..,.p ..,_,_,_,h,_| .arr ..,.p ..,_,_,_,h,_=>by simp[rdF]at h
end
end Go.Am
namespace Go.Am
section
variable {w w':World} {X X':Nat->Prop} {B:Nat} {own:Bool}
theorem Z28{α:Type}{r:α->List Value->List Nat->Prop}{p:Nat->Prop}(hr: ∀x v S,r x v S-> ∀b∈S,p b): ∀{xs:List α} {vs:List Value} {S:List Nat},
  Ww r xs vs S-> ∀b∈S,p b
 | [],_,_,⟨_,e⟩=>by simp[e]
 |x::xs,_,_,⟨v1,v2,S1,S2,_,e,h1,h2⟩=>by
  intro b hb;rw[e]at hb;rcases List.mem_append.1 hb with hb|hb
  ·exact hr _ _ _ h1 b hb
  ·exact Z28 hr h2 b hb
theorem Qzh{e:TypeId}{sz n:Nat}{v:Value}{xs:List Value}{S:List Nat}(h:hdr w X B own e sz n v xs S): ∀b∈S,B<=b/\b<w.heap.size:=by
 cases own
 ·intro b hb;rw[h.1]at hb;cases hb
 ·intro b hb;rw[h.2]at hb;exact h.1.lt b (by simpa using hb)
theorem Zsp: ∀{T:Ty} {x:T.den} {vs:List Value} {S:List Nat},rd w X B own T x vs S-> ∀b∈S,B<=b/\b<w.heap.size
 | .unit,_,_,_,h| .int _,_,_,_,h| .bool,_,_,_,h| .fnc _,_,_,_,h| .str,_,_,_,h=>by simp[h.2]
 | .slice _ _,_,_,_,⟨_,_,_,_,_,e,h1,h2⟩=>by
  intro b hb;rw[e]at hb;rcases List.mem_append.1 hb with hb|hb
  ·exact Qzh h1 b hb
  ·exact Z28 (fun _ _ _ h=>Zsp h) h2 b hb
 | .pair a b,_,_,_,⟨v1,v2,S1,S2,_,e,h1,h2⟩=>by
  intro b hb;rw[e]at hb;rcases List.mem_append.1 hb with hb|hb
  ·exact Zsp h1 b hb
  ·exact Zsp h2 b hb
 | .arr n t,_,_,_,⟨_,h'⟩=>Z28 (fun _ _ _ h=>Zsp h) h'
 | .err,_,_,_,h=>by simp[h.2]
 | .hid _,_,_,_,⟨_,_,h⟩=>Zsp h
 | .sptr ..,_,_,_,h=>by simp[h.1]
 | .clo ..,_,_,_,h=>by simp[h.1]
theorem Qt8: ∀{T:Ty} {f:Fl} {x:T.den} {vs:List Value} {S:List Nat},rdF w X B T f x vs S-> ∀b∈S,B<=b/\b<w.heap.size
 |T,.d,_,_,_,h=>by unfold rdF at h;simp[h.2.2]
 |T,.u b,_,_,_,h=>by unfold rdF at h;exact Zsp h
 | .pair a b,.p f g,_,_,_,⟨v1,v2,S1,S2,_,e,h1,h2⟩=>by
  intro b hb;rw[e]at hb;rcases List.mem_append.1 hb with hb|hb
  ·exact Qt8 h1 b hb
  ·exact Qt8 h2 b hb
 | .slice e t,.p f g,_,_,_,h=>by
  obtain⟨_,_,v,xs,_,h1,_⟩:=Zfz h;exact Qzh h1
 | .unit,.p ..,_,_,_,h| .int _,.p ..,_,_,_,h| .bool,.p ..,_,_,_,h| .fnc _,.p ..,_,_,_,h| .str,.p ..,_,_,_,h| .err,.p ..,_,_,_,h| .hid _,.p ..,_,_,_,h| .sptr ..,.p ..,_,_,_,h| .clo ..,.p ..,_,_,_,h| .arr ..,.p ..,_,_,_,h=>by simp[rdF]at h
theorem Zck{e:TypeId}{sz n:Nat}{v:Value}{xs:List Value}{S:List Nat}(h:hdr w X B own e sz n v xs S):
  ∃a cap,v= .slice a n cap/\n<=cap/\cap<=maxLen/\((a=none/\n=0/\cap=0)\/ ∃ad,a=some ad/\(n=0\/X ad.block\/ad.block∈S)/\ ∀j u,xs[j]? =some u->w.cell? (ad.add j)=some u):=by
 cases own
 ·obtain⟨_,_,a,cap,h3,h4,h5,h6⟩:=h;refine⟨a,cap,h3,h4,h5,h6.imp id ?_⟩;rintro⟨ad,h7,h8,h9⟩;exact⟨ad,h7,h8.imp id .inl,h9⟩
 ·obtain⟨h1,h2⟩:=h;rcases h1.2 with⟨rfl,rfl⟩| ⟨g,cap,cur,rfl,hb,hg,hn,hm,rest⟩
  ·exact⟨none,0,rfl,Nat.le_refl _,by simp[maxLen],.inl ⟨rfl,rfl,rfl⟩⟩
  ·exact⟨_,cap,rfl,hn,hm,.inr ⟨_,rfl,.inr (.inr (by rw[h2];simp[Value.ownBlock])),h1.cells (g:=g) rfl⟩⟩
theorem Qn1{e:TypeId}{sz n:Nat}{v:Value}{xs:List Value}{S:List Nat}(h:hdr w X B own e sz n v xs S)(hX: ∀b,X b->X' b)(hS: ∀b∈S,X' b):
  hdr w X' B false e sz n v xs []:=by
 have hl:=Q50 h;obtain⟨a,cap,h3,h4,h5,h6⟩:=Zck h;refine⟨rfl,hl,a,cap,h3,h4,h5,h6.imp id ?_⟩;rintro⟨ad,h7,h8,h9⟩;exact⟨ad,h7,h8.imp id (fun h=>h.elim (hX _) (hS _)),h9⟩
theorem Zot{α:Type}{r r':α->List Value->List Nat->Prop}: ∀{xs:List α} {vs:List Value} {S:List Nat},
  Ww r xs vs S->(∀x v T,x∈xs->(∀b∈T,b∈S)->r x v T->r' x v [])->Ww r' xs vs []
 | [],_,_,h,_=>⟨h.1,rfl⟩
 |x::xs,_,_,⟨v1,v2,S1,S2,e1,e2,h1,h2⟩,k=>
  ⟨v1,v2,[],[],e1,rfl,k x v1 S1 (by simp) (by rw[e2];intro b hb;simp[hb]) h1,
   Zot h2 fun y v T hy hT=>k y v T (by simp[hy]) (by rw[e2];intro b hb;simp[hT b hb])⟩
theorem Zff(hX: ∀b,X b->X' b): ∀{T:Ty} {x:T.den} {vs:List Value} {S:List Nat},
  rd w X B own T x vs S->(∀b∈S,X' b)->rd w X' B false T x vs []
 | .unit,_,_,_,h,_| .int _,_,_,_,h,_| .bool,_,_,_,h,_| .fnc _,_,_,_,h,_| .str,_,_,_,h,_=>⟨h.1,rfl⟩
 | .slice _ _,_,_,_,⟨v,xs,S1,S2,e,e2,h1,h2⟩,hS=>
  ⟨v,xs,[],[],e,rfl,Qn1 h1 hX fun b hb=>hS b (by rw[e2];simp[hb]),
   Zot h2 fun _ _ _ _ hT h=>Zff hX h fun b hb=>hS b (by rw[e2];simp[hT b hb])⟩
 | .pair a b,_,_,_,⟨v1,v2,S1,S2,e,e2,h1,h2⟩,hS=>
  ⟨v1,v2,[],[],e,rfl,Zff hX h1 fun b hb=>hS b (by rw[e2];simp[hb]),Zff hX h2 fun b hb=>hS b (by rw[e2];simp[hb])⟩
 | .arr n t,_,_,_,⟨h,h'⟩,hS=>⟨h,Zot h' fun _ _ _ _ hT h=>Zff hX h fun b hb=>hS b (hT b hb)⟩
 | .err,_,_,_,h,_=>⟨h.1,rfl⟩
 | .hid _,_,_,_,⟨e,y,h⟩,hS=>⟨e,y,Zff hX h hS⟩
 | .sptr ..,_,_,_,⟨_,_,b,c,h1,h2,h3,h4⟩,_=>⟨rfl,rfl,b,c,h1,hX b h2,h3,Zff hX h4 (by simp)⟩
 | .clo ..,_,_,_,⟨_,cs,h1,h2⟩,_=>⟨rfl,cs,h1,Zff hX h2 (by simp)⟩
def Fl.live:Fl->Bool| .u _=>true| .p a b=>a.live&&b.live| .d=>false
theorem Ko(hX: ∀b,X b->X' b): ∀{T:Ty} {f:Fl} {x:T.den} {vs:List Value} {S:List Nat},
  f.live=true->rdF w X B T f x vs S->(∀b∈S,X' b)->rd w X' B false T x vs []
 |T,.d,_,_,_,hf,_,_=>by simp[Fl.live]at hf
 |T,.u b,_,_,_,_,h,hS=>by unfold rdF at h;exact Zff hX h hS
 | .pair a b,.p f g,_,_,_,hf,⟨v1,v2,S1,S2,e,e2,h1,h2⟩,hS=>by
  simp only[Fl.live,Oba]at hf;exact⟨v1,v2,[],[],e,rfl,Ko hX hf.1 h1 fun b hb=>hS b (by rw[e2];simp[hb]),Ko hX hf.2 h2 fun b hb=>hS b (by rw[e2];simp[hb])⟩
 | .slice e t,.p f g,_,_,_,_,h,hS=>by
  obtain⟨_,_,v,xs,e1,h1,h2⟩:=Zfz h;exact⟨v,xs,[],[],e1,rfl,Qn1 h1 hX hS,Zot h2 fun _ _ _ _ hT h=>Zff hX h fun b hb=>absurd (hT b hb) (by simp)⟩
 | .unit,.p ..,_,_,_,_,h,_| .int _,.p ..,_,_,_,_,h,_| .bool,.p ..,_,_,_,_,h,_| .fnc _,.p ..,_,_,_,_,h,_| .str,.p ..,_,_,_,_,h,_| .err,.p ..,_,_,_,_,h,_| .hid _,.p ..,_,_,_,_,h,_| .sptr ..,.p ..,_,_,_,_,h,_| .clo ..,.p ..,_,_,_,_,h,_| .arr ..,.p ..,_,_,_,_,h,_=>by simp[rdF]at h
theorem Zdy{α:Type}{r r':α->List Value->List Nat->Prop}(hr: ∀x v S,r x v S->S=[]/\r' x v []): ∀{xs:List α} {vs:List Value} {S:List Nat},
  Ww r xs vs S->S=[]/\Ww r' xs vs []
 | [],_,_,h=>⟨h.2,h.1,rfl⟩
 |x::xs,_,_,⟨v1,v2,S1,S2,e1,e2,h1,h2⟩=>by
  obtain⟨rfl,k1⟩:=hr _ _ _ h1;obtain⟨rfl,k2⟩:=Zdy hr h2;exact⟨by simp[e2],v1,v2,[],[],e1,rfl,k1,k2⟩
theorem Zco{own':Bool}{w':World}: ∀{T:Ty} {x:T.den} {vs:List Value} {S:List Nat},T.flat=true->
  rd w X B own T x vs S->S=[]/\rd w' X' B own' T x vs []
 | .unit,_,_,_,_,h| .int _,_,_,_,_,h| .bool,_,_,_,_,h| .fnc _,_,_,_,_,h| .str,_,_,_,_,h=>⟨h.2,h.1,rfl⟩
 | .slice _ _,_,_,_,hf,_=>by simp[Ty.flat]at hf
 | .pair a b,_,_,_,hf,⟨v1,v2,S1,S2,e,e2,h1,h2⟩=>by
  simp only[Ty.flat,Oba]at hf;obtain⟨rfl,k1⟩:=Zco hf.1 h1;obtain⟨rfl,k2⟩:=Zco hf.2 h2;exact⟨by simp[e2],v1,v2,[],[],e,rfl,k1,k2⟩
 | .arr n t,_,_,_,hf,⟨h,h'⟩=>by
  obtain⟨e,k⟩:=Zdy (r':=rd w' X' B own' t) (fun x v S h=>Zco (by simpa[Ty.flat]using hf) h) h';exact⟨e,h,k⟩
 | .err,_,_,_,_,h=>⟨h.2,h.1,rfl⟩
 | .hid _,_,_,_,hf,⟨l,y,h⟩=>let⟨e,k⟩:=Zco (by simpa[Ty.flat]using hf) h;⟨e,l,y,k⟩
 | .sptr ..,_,_,_,hf,_=>by simp[Ty.flat]at hf
 | .clo ..,_,_,_,hf,_=>by simp[Ty.flat]at hf
theorem Zuu{α:Type}{r:α->List Value->List Nat->Prop}(hr: ∀x v S,r x v S-> ∀u∈v,u.oneCell'=true): ∀{xs:List α} {vs:List Value} {S:List Nat},
  Ww r xs vs S-> ∀u∈vs,u.oneCell'=true
 | [],_,_,⟨e,_⟩=>by simp[e]
 |x::xs,_,_,⟨v1,v2,S1,S2,e,_,h1,h2⟩=>by
  intro u hu;rw[e]at hu;rcases List.mem_append.1 hu with hu|hu
  ·exact hr _ _ _ h1 u hu
  ·exact Zuu hr h2 u hu
theorem Zjf: ∀{T:Ty} {x:T.den} {vs:List Value} {S:List Nat},rd w X B own T x vs S-> ∀u∈vs,u.oneCell'=true
 | .unit,_,_,_,h| .int _,_,_,_,h| .bool,_,_,_,h| .fnc _,_,_,_,h| .str,_,_,_,h=>by simp[h.1,Value.oneCell']
 | .slice _ _,_,_,_,⟨v,_,_,_,e,_,h1,_⟩=>by
  obtain⟨a,cap,hv,_⟩:=Zck h1;simp[e,hv,Value.oneCell']
 | .pair a b,_,_,_,⟨v1,v2,S1,S2,e,_,h1,h2⟩=>by
  intro u hu;rw[e]at hu;rcases List.mem_append.1 hu with hu|hu
  ·exact Zjf h1 u hu
  ·exact Zjf h2 u hu
 | .arr n t,_,_,_,⟨_,h'⟩=>Zuu (fun _ _ _ h=>Zjf h) h'
 | .err,_,_,_,⟨⟨v,e,h,_⟩,_⟩=>by simp[e,h]
 | .hid _,_,_,_,⟨_,_,h⟩=>Zjf h
 | .sptr ..,_,_,_,⟨_,_,_,_,e,_⟩=>by simp[e,Value.oneCell']
 | .clo ..,_,_,_,⟨_,_,e,_⟩=>by simp[e,Value.oneCell']
theorem Zg3: ∀{T:Ty} {f:Fl} {x:T.den} {vs:List Value} {S:List Nat},rdF w X B T f x vs S-> ∀u∈vs,u.oneCell'=true
 |T,.d,_,_,_,h=>by unfold rdF at h;exact h.2.1
 |T,.u b,_,_,_,h=>by unfold rdF at h;exact Zjf h
 | .pair a b,.p f g,_,_,_,⟨v1,v2,S1,S2,e,_,h1,h2⟩=>by
  intro u hu;rw[e]at hu;rcases List.mem_append.1 hu with hu|hu
  ·exact Zg3 h1 u hu
  ·exact Zg3 h2 u hu
 | .slice e t,.p f g,_,_,_,h=>by
  obtain⟨_,_,v,xs,e1,h1,_⟩:=Zfz h;obtain⟨a,cap,hv,_⟩:=Zck h1;simp[e1,hv,Value.oneCell']
 | .unit,.p ..,_,_,_,h| .int _,.p ..,_,_,_,h| .bool,.p ..,_,_,_,h| .fnc _,.p ..,_,_,_,h| .str,.p ..,_,_,_,h| .err,.p ..,_,_,_,h| .hid _,.p ..,_,_,_,h| .sptr ..,.p ..,_,_,_,h| .clo ..,.p ..,_,_,_,h| .arr ..,.p ..,_,_,_,h=>by simp[rdF]at h
abbrev TV:=(T:Ty)×T.den
def fld: (T:Ty)->T.den->Nat->Option TV| .pair a _,x,0=>some ⟨a,x.1⟩| .pair _ b,x,i+1=>fld b x.2 i|_,_,_=>none
def Zd8:Ty->Nat->Nat| .pair a b,i+1=>a.size+Zd8 b i|_,_=>0
def Zwt:Ty->Nat->Option Ty| .pair a _,0=>some a| .pair _ b,i+1=>Zwt b i|_,_=>none
def Km(U:Ty)(T:Ty)(x:T.den):Option U.den:=if h:T=U then some (h▸x)else none
def Zsq: (T:Ty)->T.den->Nat->TV->Option T.den| .pair a _,x,0,y=>(Km a y.1 y.2).map fun z=>(z,x.2)| .pair _ b,x,i+1,y=>(Zsq b x.2 i y).map fun z=>(x.1,z)|_,_,_,_=>none
def Fl.snd:Fl->Fl| .p _ g=>g|f=>f
def Zs9:Fl->Nat->Fl| .p a _,0=>a| .p _ b,i+1=>Zs9 b i|f,_=>f
def Zo1:Fl->Nat->Fl->Fl| .p _ b,0,g=> .p g b| .p a b,i+1,g=> .p a (Zo1 b i g)|f,0,g=> .p g f|f,i+1,g=> .p f (Zo1 f i g)
theorem Zbn{U T:Ty}{x:T.den}{y:U.den}(h:Km U T x=some y): (⟨T,x⟩:TV)=⟨U,y⟩:=by
 unfold Km at h;split at h
 ·rename_i e;subst e;simp at h;subst h;rfl
 ·cases h
theorem Zpu{a b:Ty}{f:Fl}{x: (Ty.pair a b).den}{vs:List Value}{S:List Nat}(h:rdF w X B (.pair a b) f x vs S):
  ∃v1 v2 S1 S2,vs=v1++v2/\S=S1++S2/\rdF w X B a (Zs9 f 0) x.1 v1 S1/\rdF w X B b f.snd x.2 v2 S2:=by
 cases f with
 |u o=>
  unfold rdF at h;obtain⟨v1,v2,S1,S2,e,e2,h1,h2⟩:=h;exact⟨v1,v2,S1,S2,e,e2,by unfold rdF Zs9;exact h1,by unfold rdF;exact h2⟩
 |p f g=>exact h
 |d=>
  unfold rdF at h;obtain⟨h1,h2,h3⟩:=h;refine⟨vs.take a.size,vs.drop a.size,[],[],by simp,by simp[h3],?_,?_⟩
  ·unfold rdF Zs9;exact⟨by simp[h1,Ty.size],fun u hu=>h2 u (List.mem_of_mem_take hu),rfl⟩
  ·unfold rdF;exact⟨by simp[h1,Ty.size],fun u hu=>h2 u (List.mem_of_mem_drop hu),rfl⟩
theorem Qlo: ∀{T:Ty} {f:Fl} {x:T.den} {i:Nat} {y:TV} {vs:List Value} {S:List Nat},fld T x i=some y->rdF w X B T f x vs S->
  ∃pre mid post S1 S2 S3,vs=pre++ (mid++post)/\S=S1++ (S2++S3)/\pre.length=Zd8 T i/\rdF w X B y.1 (Zs9 f i) y.2 mid S2/\
   ∀(g:Fl) (y':TV) (mid':List Value) (S2':List Nat) (x':T.den),Zsq T x i y'=some x'->rdF w X B y'.1 g y'.2 mid' S2'->
    rdF w X B T (Zo1 f i g) x' (pre++ (mid'++post)) (S1++ (S2'++S3))
 | .pair a b,f,x,0,y,vs,S,hy,h=>by
  obtain⟨v1,v2,S1,S2,e,e2,h1,h2⟩:=Zpu h;simp only[fld,Osi]at hy;subst hy;refine⟨[],v1,v2,[],S1,S2,by simpa using e,by simpa using e2,by simp[Zd8],h1,?_⟩;intro g y' mid' S2' x' hs hr;simp only[Zsq,Option.map_eq_some_iff]at hs;obtain⟨z,hz,rfl⟩:=hs;obtain⟨T',yv⟩:=y';have:=Zbn hz;cases this;have:Zo1 f 0 g= .p g f.snd:=by cases f<;>rfl
  rw[this];exact⟨mid',v2,S2',S2,by simp,by simp,hr,h2⟩
 | .pair a b,f,x,i+1,y,vs,S,hy,h=>by
  obtain⟨v1,v2,S1,S2,e,e2,h1,h2⟩:=Zpu h;simp only[fld]at hy;obtain⟨pre,mid,post,T1,T2,T3,k1,k2,k3,k4,k5⟩:=Qlo hy h2;refine⟨v1++pre,mid,post,S1++T1,T2,T3,by rw[e,k1];simp,by rw[e2,k2];simp,by simp[Zd8,Xx h1,k3],?_,?_⟩
  ·have:Zs9 f (i+1)=Zs9 f.snd i:=by cases f<;>simp[Zs9]<;>(cases i<;>rfl)
   rw[this];exact k4
  ·intro g y' mid' S2' x' hs hr;simp only[Zsq,Option.map_eq_some_iff]at hs;obtain⟨z,hz,rfl⟩:=hs;have:=k5 g y' mid' S2' z hz hr;have e3:Zo1 f (i+1) g= .p (Zs9 f 0) (Zo1 f.snd i g):=by cases f<;>rfl
   rw[e3];exact⟨v1,_,S1,_,by simp,by simp,h1,this⟩
 | .unit,_,_,_,_,_,_,hy,_| .int _,_,_,_,_,_,_,hy,_| .bool,_,_,_,_,_,_,hy,_| .fnc _,_,_,_,_,_,_,hy,_| .str,_,_,_,_,_,_,hy,_| .slice ..,_,_,_,_,_,_,hy,_| .err,_,_,_,_,_,_,hy,_| .hid _,_,_,_,_,_,_,hy,_| .sptr ..,_,_,_,_,_,_,hy,_| .clo ..,_,_,_,_,_,_,hy,_| .arr ..,_,_,_,_,_,_,hy,_=>by simp[fld]at hy
def Zc9: (T:Ty)->T.den->List Nat->Option TV
 |T,x,[]=>some ⟨T,x⟩
 |T,x,i::p=>match fld T x i with|some y=>Zc9 y.1 y.2 p|none=>none
def J3:Ty->List Nat->Nat
 |_,[]=>0
 |T,i::p=>Zd8 T i+ (match Zwt T i with|some U=>J3 U p|none=>0)
def Z57: (T:Ty)->T.den->List Nat->TV->Option T.den
 |T,_,[],y=>Km T y.1 y.2
 |T,x,i::p,y=>match fld T x i with
  |some z=>match Z57 z.1 z.2 p y with|some z'=>Zsq T x i ⟨z.1,z'⟩|none=>none
  |none=>none
def Zjv:Fl->List Nat->Fl|f,[]=>f|f,i::p=>Zjv (Zs9 f i) p
def Zou:Fl->List Nat->Fl->Fl|_,[],g=>g|f,i::p,g=>Zo1 f i (Zou (Zs9 f i) p g)
theorem Z4h{T:Ty}{x:T.den}{i:Nat}{y:TV}(h:fld T x i=some y):Zwt T i=some y.1:=by
 induction T generalizing i y with
 |pair a b iha ihb=>
  cases i with
  |zero=>simp only[fld,Osi]at h;subst h;rfl
  |succ i=>exact ihb (x:=x.2) h
 |_=>simp[fld]at h
theorem Zeg: ∀{p:List Nat} {T:Ty} {f:Fl} {x:T.den} {y:TV} {vs:List Value} {S:List Nat},Zc9 T x p=some y->rdF w X B T f x vs S->
  ∃pre mid post S1 S2 S3,vs=pre++ (mid++post)/\S=S1++ (S2++S3)/\pre.length=J3 T p/\rdF w X B y.1 (Zjv f p) y.2 mid S2/\
   ∀(g:Fl) (y':TV) (mid':List Value) (S2':List Nat) (x':T.den),Z57 T x p y'=some x'->rdF w X B y'.1 g y'.2 mid' S2'->
    rdF w X B T (Zou f p g) x' (pre++ (mid'++post)) (S1++ (S2'++S3))
 | [],T,f,x,y,vs,S,hy,h=>by
  simp only[Zc9,Osi]at hy;subst hy;refine⟨[],vs,[],[],S,[],by simp,by simp,by simp[J3],h,?_⟩;intro g y' mid' S2' x' hs hr;simp only[Z57]at hs;obtain⟨T',yv⟩:=y';cases Zbn hs;simpa[Zou]using hr
 |i::p,T,f,x,y,vs,S,hy,h=>by
  simp only[Zc9]at hy;cases hz:fld T x i with
  |none=>rw[hz]at hy;cases hy
  |some z=>
   rw[hz]at hy;obtain⟨pre,mid,post,S1,S2,S3,k1,k2,k3,k4,k5⟩:=Qlo hz h;obtain⟨pre',mid',post',T1,T2,T3,l1,l2,l3,l4,l5⟩:=Zeg hy k4;refine⟨pre++pre',mid',post'++post,S1++T1,T2,T3++S3,by rw[k1,l1];simp,by rw[k2,l2];simp,by simp[J3,Z4h hz,k3,l3],l4,?_⟩;intro g y' m S2' x' hs hr;simp only[Z57,hz]at hs;cases hq:Z57 z.1 z.2 p y' with
   |none=>rw[hq]at hs;cases hs
   |some z'=>
    rw[hq]at hs;have:=k5 (Zou (Zs9 f i) p g) ⟨z.1,z'⟩ _ _ x' hs (l5 g y' m S2' z' hq hr);simpa[Zou]using this
theorem Q3g: ∀{T:Ty} {x x':T.den} {i:Nat} {y:TV},fld T x i=some y-> ∃y',fld T x' i=some y'/\y'.1=y.1:=by
 intro T
 induction T with
 |pair a b iha ihb=>
  intro x x' i y h;cases i with
  |zero=>simp only[fld,Osi]at h;subst h;exact⟨⟨a,x'.1⟩,rfl,rfl⟩
  |succ i=>exact ihb (x':=x'.2) h
 |_=>intro x x' i y h;simp[fld]at h
theorem Z4g: ∀{p:List Nat} {T:Ty} {x x':T.den} {y:TV},Zc9 T x p=some y-> ∃y',Zc9 T x' p=some y'/\y'.1=y.1
 | [],T,x,x',y,h=>by simp only[Zc9,Osi]at h;subst h;exact⟨⟨T,x'⟩,rfl,rfl⟩
 |i::p,T,x,x',y,h=>by
  simp only[Zc9]at h⊢;cases hz:fld T x i with
  |none=>rw[hz]at h;cases h
  |some z=>
   rw[hz]at h;obtain⟨z',h1,h2⟩:=Q3g (x':=x') hz;rw[h1];obtain⟨Z,zv⟩:=z;obtain⟨Z',zv'⟩:=z';simp only at h2;subst h2;exact Z4g h
theorem Qz1{n:Nat}{t:Ty}{f:Fl}{x: (Ty.arr n t).den}{vs:List Value}{S:List Nat}(h:rdF w X B (.arr n t) f x vs S)(hl:f.live=true): ∃c,f= .u c:=by
 cases f with
 |u c=>exact⟨c,rfl⟩
 |p a b=>simp[rdF]at h
 |d=>simp[Fl.live]at hl
end
theorem Zpx{α:Type}{r:α->List Value->List Nat->Prop}{sz:Nat}(hr: ∀x v S,r x v S->v.length=sz): ∀{l:List α} {vs:List Value} {S:List Nat} {i:Nat} (hi:i<l.length),
  Ww r l vs S-> ∃pre mid post S1 S2 S3,vs=pre++ (mid++post)/\S=S1++ (S2++S3)/\pre.length=i*sz/\r l[i] mid S2/\
   Ww r (l.take i) pre S1/\Ww r (l.drop (i+1)) post S3
 | [],_,_,_,hi,_=>by simp at hi
 |x::l,vs,S,0,_,⟨v1,v2,S1,S2,e1,e2,h1,h2⟩=>⟨[],v1,v2,[],S1,S2,by simp[e1],by simp[e2],by simp,h1,⟨rfl,rfl⟩,h2⟩
 |x::l,vs,S,i+1,hi,⟨v1,v2,S1,S2,e1,e2,h1,h2⟩=>by
  obtain⟨pre,mid,post,T1,T2,T3,k1,k2,k3,k4,k5,k6⟩:=Zpx hr (i:=i) (by simpa using hi) h2;exact⟨v1++pre,mid,post,S1++T1,T2,T3,by simp[e1,k1],by simp[e2,k2],by simp[hr _ _ _ h1,k3,Nat.add_mul];omega,by simpa using k4,
   ⟨v1,pre,S1,T1,rfl,rfl,h1,k5⟩,by simpa using k6⟩
end Go.Am
namespace Go.Am
open Go.RowKit
inductive Tm where
 |junk|tup
 |val (T:Ty) (f:Fl) (x:T.den)
 |box (e:TypeId) (T:Ty) (f:Fl) (x:T.den)
 |ptr (r:Nat) (p:List Nat)
 |shp (T:Ty) (x:T.den)
 |bor (r:Nat) (p:List Nat)
 |elp (r:Nat) (p:List Nat) (i:Int) (q:List Nat)
 |gd (g:Nat) (want:Bool) (t:Tm)
 |aep (r:Nat) (p:List Nat) (i:Int)
 |pls (h:Bool) (l:List (Nat×List Nat))
 |bel (r:Nat) (p:List Nat) (i:Int) (q:List Nat)
 |cl (f:FuncId) (l:List Nat)
inductive Key where
 |m (t:Nat)|c (t i:Nat)
def Key.beq:Key->Key->Bool
 | .m t,.m u=>Nat.beq t u
 | .c t i,.c u j=>match Nat.beq t u with|true=>Nat.beq i j|false=>false
 |_,_=>false
theorem Key.beq_true{k j:Key}:Key.beq k j=true↔k=j:=by
 cases k<;>cases j<;>simp[Key.beq]
 case c.c t i u j=>
  cases h:Nat.beq t u
  ·simp;intro e;rw[e,Nat.beq_refl]at h;cases h
  ·simp[Onb h]
instance:DecidableEq Key:=fun k j=>match h:Key.beq k j with
 |true=>isTrue (Key.beq_true.1 h)
 |false=>isFalse fun e=>by rw[Key.beq_true.2 e]at h;cases h
structure St where
 env:List (Key×Tm)
 dirty:List Nat
 lent:List Nat:=[]
structure Kr where
 G:World->Prop
 GB:Nat->Prop
 lt: ∀w b,G w->GB b->b<w.heap.size
 stays: ∀w w',G w->(∀b,GB b->w'.heap[b]? =w.heap[b]?)->G w'
 soft:Bool:=false
def Kr.none:Kr:={G:=fun _=>True,GB:=fun _=>False,lt:=fun _ _ _ h=>h.elim,stays:=fun _ _ h _=>h}
def Zxs(u v:Value):Prop:=u=v\/(∃k x y,u= .int k x/\v= .int k y)\/(∃x y,u= .bool x/\v= .bool y)\/(∃x y,u= .string x/\v= .string y)
theorem Zxs.refl(u:Value):Zxs u u:= .inl rfl
theorem Zxs.trans{u v x:Value}(h:Zxs u v)(h':Zxs v x):Zxs u x:=by
 rcases h with rfl| ⟨k,a,b,rfl,rfl⟩| ⟨a,b,rfl,rfl⟩| ⟨a,b,rfl,rfl⟩
 ·exact h'
 ·rcases h' with rfl| ⟨_,_,c,e,rfl⟩| ⟨_,_,e,_⟩| ⟨_,_,e,_⟩
  ·exact .inr (.inl ⟨_,_,_,rfl,rfl⟩)
  ·simp only[Value.int.injEq]at e;obtain⟨rfl,rfl⟩:=e;exact .inr (.inl ⟨_,_,_,rfl,rfl⟩)
  ·cases e
  ·cases e
 ·rcases h' with rfl| ⟨_,_,c,e,rfl⟩| ⟨_,_,e,rfl⟩| ⟨_,_,e,_⟩
  ·exact .inr (.inr (.inl ⟨_,_,rfl,rfl⟩))
  ·cases e
  ·exact .inr (.inr (.inl ⟨_,_,rfl,rfl⟩))
  ·cases e
 ·rcases h' with rfl| ⟨_,_,c,e,rfl⟩| ⟨_,_,e,_⟩| ⟨_,_,e,rfl⟩
  ·exact .inr (.inr (.inr ⟨_,_,rfl,rfl⟩))
  ·cases e
  ·cases e
  ·exact .inr (.inr (.inr ⟨_,_,rfl,rfl⟩))
def Zm1(L:Nat->Prop)(w w':World):Prop:= ∀ad u,L ad.block->w.cell? ad=some u-> ∃u',w'.cell? ad=some u'/\Zxs u u'
theorem Zm1.trans{L:Nat->Prop}{w w' w2:World}(h:Zm1 L w w')(h':Zm1 L w' w2):Zm1 L w w2:=fun ad u hL hu=>by
 obtain⟨u',h1,h2⟩:=h ad u hL hu;obtain⟨u2,h3,h4⟩:=h' ad u' hL h1;exact⟨u2,h3,h2.trans h4⟩
def Zso(w:World)(b:Nat):Prop:= ∃c e,w.heap[b]? =some (.cells c e (0,0))
theorem Zso.lt{w:World}{b:Nat}(h:Zso w b):b<w.heap.size:=by
 obtain⟨c,e,h⟩:=h;exact(Array.getElem?_eq_some_iff.1 h).1
def Zrz(w0:World)(L:Nat->Prop):Kr where
 G w:=Zm1 L w0 w/\ ∀b,L b->Zso w b
 GB:=L
 lt _ b h hb:=(h.2 b hb).lt
 stays w w' h hL:=⟨h.1.trans fun ad u hb hu=>⟨u,by rw[World.cell?_of_block (w:=w) (hL _ hb)];exact hu,Zxs.refl u⟩,fun b hb=>by
  obtain⟨c,e,hc⟩:=h.2 b hb;exact⟨c,e,by rw[hL b hb];exact hc⟩⟩
 soft:=true
def big:Nat:=1048576
def Zkz(gh:Nat->Value)(a:Act)(t:Nat):Value:=match a.tmps[t]? with|some v=>v|none=>gh t
def Qk(gh:Nat->Value)(a:Act):Key->Value
 | .m t=>Zkz gh a t
 | .c t i=>match Zkz gh a t with
  | .tuple vs=>vs.getD i undef
  |_=>undef
structure Wz(g:Kr) where
 W:World
 B:Nat
 Y:Nat->Prop
 L:Nat->Prop
 X0:Nat->Prop
 fix:List (Nat×Value)
 bB:B<=W.heap.size
 yW: ∀k,Y k->k<W.heap.size
 yL: ∀k,Y k-> ¬L k
 fr:g.soft=true-> ∀k,g.GB k-> ¬Y k
 gh:Nat->Value:=fun _=>undef
 ghU: ∀t,t<big->gh t=undef:=by intro _ _;rfl
def Wz.mine{g:Kr}(z:Wz g)(k:Nat):Prop:=z.W.heap.size<=k\/z.L k
theorem Wz.sep{g:Kr}(z:Wz g){k b:Nat}(h:z.Y k)(hb:z.mine b):k≠b:=fun e=>by
 subst e;rcases hb with hb|hb
 ·have:=z.yW k h;omega
 ·exact z.yL k h hb
structure Wz.below{g:Kr}(z:Wz g)(w:World):Prop where
 os:w.os=z.W.os
 tape:w.tape=z.W.tape
 output:w.output=z.W.output
 size:z.W.heap.size<=w.heap.size
 block: ∀k,z.Y k->w.heap[k]? =z.W.heap[k]?
theorem Wz.below.sizeB{g:Kr}{z:Wz g}{w:World}(h:z.below w):z.B<=w.heap.size:=Nat.le_trans z.bB h.size
theorem Wz.below.new{g:Kr}{z:Wz g}{w:World}(h:z.below w):z.mine w.heap.size:= .inl h.size
theorem Wz.below.step{g:Kr}{z:Wz g}{w w':World}(h:z.below w)(hb:Below w.heap.size w w'):z.below w':=
 ⟨hb.os.trans h.os,hb.tape.trans h.tape,hb.output.trans h.output,Nat.le_trans h.size hb.size,fun k hk=>(hb.block k (Nat.lt_of_lt_of_le (z.yW k hk) h.size)).trans (h.block k hk)⟩
def Wz.plain(g:Kr)(w:World)(hs:g.soft=false):Wz g:={fr:=fun h=>Bool.noConfusion (hs.symm.trans h),W:=w,B:=w.heap.size,Y:=(· <w.heap.size),L:=fun _=>False,X0:=(· <w.heap.size),fix:=[],bB:=Nat.le_refl _,yW:=fun _ h=>h,yL:=fun _ _ h=>h}
def Ze8:List (Key×Tm)->Key->Tm
 | [],_=> .junk
 | (k,t)::r,j=>match Key.beq k j with
  |true=>t
  |false=>Ze8 r j
def St.get(s:St)(k:Key):Tm:=Ze8 s.env k
def St.foul(s:St)(r:Nat):Bool:=s.dirty.any (Nat.beq r)
def Zj2(r:Nat):Nat:=r+1099511627776
def Z64(r:Nat):Nat:=r+2199023255552
def Z63(r i:Nat):Nat:=r+ (i+3)*1099511627776
def St.bad(s:St)(r:Nat):List Nat->Bool| []=>s.foul r||s.foul (Z64 r)|i::_=>s.foul r||s.foul (Z63 r i)
theorem St.bad_foul{s:St}{r:Nat}: ∀{p:List Nat},s.bad r p=false->s.foul r=false
 | [],h=>by simp only[St.bad,Bool.or_eq_false_iff]at h;exact h.1
 |_::_,h=>by simp only[St.bad,Bool.or_eq_false_iff]at h;exact h.1
theorem Z1(k:Key)(t:Tm)(s:List (Key×Tm))(j:Key):Ze8 ((k,t)::s) j=if k=j then t else Ze8 s j:=by
 simp only[Ze8];cases h:Key.beq k j
 ·have:k≠j:=fun e=>by rw[Key.beq_true.2 e]at h;cases h
  simp[this]
 ·simp[Key.beq_true.1 h]
def Key.t:Key->Nat| .m t=>t| .c t _=>t
theorem Zlo{gh:Nat->Value}{a:Act}{d:Nat}{v:Value}(h:d<a.tmps.size):Qk gh (a.put (some d) v) (.m d)=v:=by
 simp[Qk,Zkz,Act.put,h]
theorem Zb0{gh:Nat->Value}{a:Act}{d:Nat}{v:Value}{k:Key}(h:k.t≠d):Qk gh (a.put (some d) v) k=Qk gh a k:=by
 have: (a.tmps.setIfInBounds d v)[k.t]? =a.tmps[k.t]? :=by rw[Array.getElem?_setIfInBounds];simp[Ne.symm h]
 cases k<;>simp only[Key.t]at this<;>simp[Qk,Zkz,Act.put,this]
def Xb(gh:Nat->Value)(w:World)(s:St)(F:Key->List Nat)(a:Act)(r:Nat)(p:List Nat)(v:Value)(U:Ty):Prop:=
 match s.get (.m r)with
 | .val T _ _=>p=[]/\U=T/\v=Qk gh a (.m r)
 | .box e T _ x=> ∃b c S y,F (.m r)=b::S/\w.heap[b]? =some (.cells c e (0,0))/\Zc9 T x p=some y/\U=y.1/\v=Xt y.1 ((c.toList.drop (J3 T p)).take y.1.size)
 |_=>False
def atP(s:St)(F:Key->List Nat)(r:Nat)(p:List Nat)(v:Value):Prop:=∃e T f x b S',s.get (.m r)= .box e T f x/\F (.m r)=b::S'/\v= .pointer (some ⟨b,J3 T p,none⟩)
def Q9h(w:World)(X:Nat->Prop)(s:St)(F:Key->List Nat)(h:Bool)(l:List (Nat×List Nat))(v:Value):Prop:=
 ∃(ad:Addr) (us:List Value),X ad.block/\(∀j u,us[j]? =some u->w.cell? (ad.add j)=some u)/\us.length=l.length/\(∀(j:Nat) (q:Nat×List Nat),l[j]? =some q-> ∃u,us[j]? =some u/\atP s F q.1 q.2 u)/\
  (match h with|true=>v= .slice (some ad) l.length l.length/\l.length<=maxLen|false=>v= .pointer (some ad))
def clV(s:St)(F:Key->List Nat)(f:FuncId)(l:List Nat)(v:Value):Prop:=∃us:List Value,v= .func (.func f) #[] us.toArray/\us.length=l.length/\ ∀(j:Nat) (q:Nat),l[j]? =some q-> ∃u,us[j]? =some u/\atP s F q [] u
def vt(gh:Nat->Value)(w:World)(X:Nat->Prop)(B:Nat)(s:St)(F:Key->List Nat)(a:Act)(v:Value)(S:List Nat):Tm->Prop| .junk| .tup=>S=[]| .val T f x=> ∃vs,v=Xt T vs/\rdF w X B T f x vs S| .box e T f x=> ∃b c S',v= .pointer (some ⟨b,0,none⟩)/\S=b::S'/\w.heap[b]? =some (.cells c e (0,0))/\rdF w X B T f x c.toList S'| .ptr r p=>S=[]/\ ∃e T f x b S',s.get (.m r)= .box e T f x/\F (.m r)=b::S'/\v= .pointer (some ⟨b,J3 T p,none⟩)| .shp T x=>S=[]/\ ∃ad vs,v= .pointer (some ad)/\X ad.block/\(∀j u,vs[j]? =some u->w.cell? (ad.add j)=some u)/\rd w X B false T x vs []| .bor r p=>S=[]/\(s.bad r p=false-> ∃U,Xb gh w s F a r p v U)| .elp r p i q=>S=[]/\(s.bad r p=false-> ∃e t ad n cap,Xb gh w s F a r p (.slice (some ad) n cap) (.slice e t)/\0<=i/\i<n/\ v= .pointer (some (ad.add (i.toNat*t.size+J3 t q))))| .aep r p i=>S=[]/\ ∃e T f x b S' n t y,s.get (.m r)= .box e T f x/\F (.m r)=b::S'/\Zc9 T x p=some ⟨.arr n t,y⟩/\0<=i/\i<n/\v= .pointer (some ⟨b,J3 T p+i.toNat*t.size,none⟩)| .pls h l=>S=[]/\Q9h w X s F h l v| .bel r p i q=>S=[]/\(s.bad r p=false->s.foul (Zj2 r)=false-> ∃e t ad n cap x0 y cs,Xb gh w s F a r p (.slice (some ad) n cap) (.slice e t)/\0<=i/\i<n/\ ad.block∈F (.m r)/\Zc9 t x0 q=some y/\v=Xt y.1 cs/\cs.length=y.1.size/\ ∀(j:Nat) u,cs[j]? =some u->w.cell? (ad.add (i.toNat*t.size+J3 t q+j))=some u)| .cl f l=>S=[]/\clV s F f l v| .gd g want t=>s.foul g=false->s.get (.m g)≠ .junk/\(Qk gh a (.m g)= .bool want->vt gh w X B s F a v S t)/\(Qk gh a (.m g)≠ .bool want->S=[]/\v=undef)
structure R{g:Kr}(n:Nat)(W0:Wz g)(w:World)(X:Nat->Prop)(F:Key->List Nat)(H:List Nat)(s:St)(a:Act):Prop where
 size:a.tmps.size=n
 defers:a.defers=[]
 below:W0.below w
 glob:g.G w
 gx: ∀b,g.GB b->X b
 xs:g.soft=true-> ∀b,X b->g.GB b
 fix: ∀p,p∈W0.fix->p.1∈s.lent/\Qk W0.gh a (.m p.1)=p.2
 xlt: ∀b,X b->b<w.heap.size
 xin: ∀b,X b->W0.X0 b\/W0.mine b
 x0: ∀b,W0.X0 b->X b
 own: ∀k b,b∈F k->W0.mine b/\b<w.heap.size/\ ¬X b
 nodup: ∀k,(F k).Nodup
 disj: ∀k k' b,b∈F k->b∈F k'->k=k'
 hown: ∀b,b∈H->W0.mine b/\b<w.heap.size/\ ¬X b
 hnodup:H.Nodup
 hdisj: ∀k b,b∈F k->b∉H
 comps: ∀d i,s.get (.c d i)≠ .junk->s.get (.m d)= .tup/\ ∃vs,Qk W0.gh a (.m d)= .tuple vs/\i<vs.size
 slots: ∀k,vt W0.gh w X W0.B s F a (Qk W0.gh a k) (F k) (s.get k)
section
variable {g:Kr} {W0:Wz g} {w w':World} {X X':Nat->Prop} {B n:Nat} {own:Bool} {s:St} {F:Key->List Nat} {a:Act} {H:List Nat} {gh:Nat->Value}
theorem Zi9{r:Nat}{p:List Nat}{v:Value}{U:Ty}(h:Xb gh w s F a r p v U)(hF: ∀b∈F (.m r),w'.heap[b]? =w.heap[b]?):Xb gh w' s F a r p v U:=by
 unfold Xb at*
 split at h
 ·exact h
 ·obtain⟨b,c,S,y,h1,h2,h3⟩:=h;exact⟨b,c,S,y,h1,by rw[hF b (by rw[h1];simp)];exact h2,h3⟩
 ·exact h
theorem Zqp{s2:St}{F2:Key->List Nat}(hX: ∀b,X b->X' b)(hw: ∀b,X b->w'.heap[b]? =w.heap[b]?)(ha: ∀r p v,atP s F r p v->atP s2 F2 r p v){h:Bool}{l:List (Nat×List Nat)}{v:Value}
  (hv:Q9h w X s F h l v):Q9h w' X' s2 F2 h l v:=by
 obtain⟨ad,us,h1,h2,h3,h4,h5⟩:=hv;refine⟨ad,us,hX _ h1,fun j u hj=> ?_,h3,fun j q hq=> ?_,h5⟩
 ·have hb: (ad.add j).block=ad.block:=by unfold Addr.add;split<;>rfl
  rw[World.cell?_of_block (w:=w) (by rw[hb];exact hw _ h1)];exact h2 j u hj
 ·obtain⟨u,hu,ht⟩:=h4 j q hq;exact⟨u,hu,ha _ _ _ ht⟩
theorem Zi1(hX: ∀b,X b->X' b)(hw: ∀b,X b->w'.heap[b]? =w.heap[b]?)(hF: ∀k b,b∈F k->w'.heap[b]? =w.heap[b]?){v:Value}{S:List Nat}(hS: ∀b∈S,w'.heap[b]? =w.heap[b]?): ∀{t:Tm},
  vt gh w X B s F a v S t->vt gh w' X' B s F a v S t
 | .junk,h| .tup,h=>h
 | .val T f x,⟨vs,h1,h2⟩=>⟨vs,h1,Zpt hX hw h2 hS⟩
 | .box e T f x,⟨b,c,S',h1,h2,h3,h4⟩=>
  ⟨b,c,S',h1,h2,by rw[hS b (by rw[h2];simp)];exact h3,Zpt hX hw h4 fun b' hb'=>hS b' (by rw[h2];simp[hb'])⟩
 | .ptr r p,h=>h
 | .aep r p i,h=>h
 | .pls _ _,⟨h0,h⟩=>⟨h0,Zqp hX hw (fun _ _ _ h=>h) h⟩
 | .cl _ _,h=>h
 | .bel r p i q,⟨h0,h1⟩=>⟨h0,fun hc he=>let⟨e,t,ad,n,cap,x0,y,cs,h,k1,k2,k3,k4,k5,k6,k7⟩:=h1 hc he;⟨e,t,ad,n,cap,x0,y,cs,Zi9 h (hF (.m r)),k1,k2,k3,k4,k5,k6,fun j u hj=>by
   have hb: ∀m,(ad.add m).block=ad.block:=fun m=>by unfold Addr.add;split<;>rfl
   rw[World.cell?_of_block (w:=w) (by rw[hb];exact hF (.m r) _ k3)];exact k7 j u hj⟩⟩
 | .shp T x,⟨h0,ad,vs,h1,h2,h3,h4⟩=>
  ⟨h0,ad,vs,h1,hX _ h2,fun j u hj=>by
   have hb: (ad.add j).block=ad.block:=by unfold Addr.add;split<;>rfl
   rw[World.cell?_of_block (w:=w) (by rw[hb];exact hw _ h2)];exact h3 j u hj,Zcp hX hw h4 (by simp)⟩
 | .bor r p,⟨h0,h1⟩=>⟨h0,fun hc=>let⟨U,h⟩:=h1 hc;⟨U,Zi9 h (hF (.m r))⟩⟩
 | .elp r p i q,⟨h0,h1⟩=>⟨h0,fun hc=>let⟨e,t,ad,n,cap,h,h'⟩:=h1 hc;⟨e,t,ad,n,cap,Zi9 h (hF (.m r)),h'⟩⟩
 | .gd g want t,h=>fun hc=>let⟨h0,h1,h2⟩:=h hc;⟨h0,fun hg=>Zi1 hX hw hF hS (h1 hg),h2⟩
theorem R.world(h:R n W0 w X F H s a)(hb:W0.below w')(hs:w.heap.size<=w'.heap.size)(hX: ∀b,X b->w'.heap[b]? =w.heap[b]?)
  (hF: ∀k b,b∈F k->w'.heap[b]? =w.heap[b]?):R n W0 w' X F H s a:=
 {h with
  below:=hb
  glob:=g.stays _ _ h.glob fun b hb=>hX b (h.gx b hb)
  xlt:=fun b hb'=>Nat.lt_of_lt_of_le (h.xlt b hb') hs
  own:=fun k b hb'=>let⟨h1,h2,h3⟩:=h.own k b hb';⟨h1,Nat.lt_of_lt_of_le h2 hs,h3⟩
  hown:=fun b hb'=>let⟨h1,h2,h3⟩:=h.hown b hb';⟨h1,Nat.lt_of_lt_of_le h2 hs,h3⟩
  slots:=fun k=>Zi1 (fun _ h=>h) hX hF (hF k) (h.slots k)}
theorem R.drop{S:List Nat}(h:R n W0 w X F (S++H) s a):R n W0 w X F H s a:=
 {h with
  hown:=fun b hb=>h.hown b (by simp[hb])
  hnodup:=(List.nodup_append.1 h.hnodup).2.1
  hdisj:=fun k b hb hh=>h.hdisj k b hb (by simp[hh])}
theorem R.hand{S:List Nat}(h:R n W0 w X F H s a)(hS: ∀b∈S,W0.mine b/\b<w.heap.size/\ ¬X b)(hn:S.Nodup)(hF: ∀k b,b∈F k->b∉S)(hH: ∀b∈S,b∉H):
  R n W0 w X F (S++H) s a:=
 {h with
  hown:=fun b hb=>(List.mem_append.1 hb).elim (hS b) (h.hown b)
  hnodup:=List.nodup_append.2 ⟨hn,h.hnodup,fun x hx y hy e=>hH x hx (by rw[e];exact hy)⟩
  hdisj:=fun k b hb hh=>(List.mem_append.1 hh).elim (hF k b hb) (h.hdisj k b hb)}
theorem R.give{S:List Nat}(hs:g.soft=false)(h:R n W0 w X F (S++H) s a):R n W0 w (fun b=>X b\/b∈S) F H s a:=
 {h.drop with
  gx:=fun b hb=> .inl (h.gx b hb)
  xs:=fun e=>by rw[hs]at e;cases e
  xlt:=fun b hb=>hb.elim (h.xlt b) fun hb=>(h.hown b (by simp[hb])).2.1
  xin:=fun b hb=>hb.elim (h.xin b) fun hb=> .inr (h.hown b (by simp[hb])).1
  x0:=fun b hb=> .inl (h.x0 b hb)
  own:=fun k b hb=>let⟨h1,h2,h3⟩:=h.own k b hb;⟨h1,h2,fun hx=>hx.elim h3 fun hS=>h.hdisj k b hb (by simp[hS])⟩
  hown:=fun b hb=>let⟨h1,h2,h3⟩:=h.hown b (by simp[hb]);⟨h1,h2,fun hx=>hx.elim h3 fun hS=>(List.nodup_append.1 h.hnodup).2.2 b hS b hb rfl⟩
  slots:=fun k=>Zi1 (fun _ h=> .inl h) (fun _ _=>rfl) (fun _ _ _=>rfl) (fun _ _=>rfl) (h.slots k)}
def St.free(s:St)(d:Nat):Bool:= !(s.lent.any (Nat.beq d))
def Jm(s:St)(d:Nat):Bool:=
 match s.get (.m d)with
 | .box .. | .tup=>false
 |_=>s.free d
theorem Qmp{s:St}{d:Nat}(h:Jm s d=true):d∉s.lent:=by
 intro e;have:s.free d=false:=by simp only[St.free,Bool.not_eq_false',List.any_eq_true];exact⟨d,e,Nat.beq_refl d⟩
 unfold Jm at h;split at h
 ·cases h
 ·cases h
 ·rw[this]at h;cases h
def Yx(s:St)(d:Nat)(t:Tm):St:=
 {env:=(.m d,t)::s.env,dirty:=match s.get (.m d)with| .junk=>s.dirty|_=>d::s.dirty,lent:=s.lent}
theorem Zj6(s:St)(d:Nat)(t:Tm)(k:Key): (Yx s d t).get k=if Key.m d=k then t else s.get k:=Z1 _ _ _ _
theorem Zq5(s:St)(d:Nat)(t:Tm): (Yx s d t).get (.m d)=t:=by rw[Zj6];simp
theorem Z4u{s:St}{d:Nat}{t:Tm}{r:Nat}(h: (Yx s d t).foul r=false):s.foul r=false/\(r=d->s.get (.m r)= .junk):=by
 unfold Yx St.foul at*
 simp only at h;split at h
 ·rename_i hj;exact⟨h,fun e=>by rw[e];exact hj⟩
 ·simp only[List.any_cons,Bool.or_eq_false_iff]at h;refine⟨h.2,fun e=> ?_⟩;subst e;rw[Nat.beq_refl]at h;cases h.1
theorem Zv4{s s2:St}(h: ∀r,s2.foul r=false->s.foul r=false){r:Nat}: ∀{p:List Nat},s2.bad r p=false->s.bad r p=false
 | [],hb=>by simp only[St.bad,Bool.or_eq_false_iff]at hb⊢;exact⟨h _ hb.1,h _ hb.2⟩
 |_::_,hb=>by simp only[St.bad,Bool.or_eq_false_iff]at hb⊢;exact⟨h _ hb.1,h _ hb.2⟩
theorem Qo2{s:St}{d:Nat}{t:Tm}{r:Nat}{p:List Nat}(h: (Yx s d t).bad r p=false):s.bad r p=false/\(r=d->s.get (.m r)= .junk):=
 ⟨Zv4 (fun _ h=>(Z4u h).1) h,(Z4u (St.bad_foul h)).2⟩
abbrev Qd(F:Key->List Nat)(k:Key)(S:List Nat):Key->List Nat:=fun j=>if j=k then S else F j
theorem Qh5{d:Nat}{t:Tm}{v u:Value}{S:List Nat}{r:Nat}{p:List Nat}{U:Ty}(hr:r≠d)
  (h:Xb gh w s F a r p u U):Xb gh w (Yx s d t) (Qd F (.m d) S) (a.put (some d) v) r p u U:=by
 have e: (Yx s d t).get (.m r)=s.get (.m r):=by rw[Zj6];simp[Ne.symm hr]
 unfold Xb at*
 rw[e];cases hg:s.get (.m r)<;>rw[hg]at h<;>simp only at h⊢
 ·rw[Zb0 (by simpa[Key.t]using hr)];exact h
 ·simpa[Qd,hr]using h
theorem Qah{r:Nat}{p:List Nat}{v:Value}{U:Ty}(h:Xb gh w s F a r p v U):s.get (.m r)≠ .junk:=by
 intro e;unfold Xb at h;rw[e]at h;exact h
theorem Qyz{d:Nat}{t:Tm}{S0:List Nat}(hd:Jm s d=true){r:Nat}{p:List Nat}{v:Value}(hu:atP s F r p v):atP (Yx s d t) (Qd F (.m d) S0) r p v:=by
 obtain⟨e,T,f,x,b,S',h1,h2,h3⟩:=hu;have hr:r≠d:=fun e'=>by subst e';simp[Jm,h1]at hd
 refine⟨e,T,f,x,b,S',?_,by simp[Qd,hr,h2],h3⟩;rw[Zj6];simp[Ne.symm hr,h1]
theorem Z1t{s2:St}{F2:Key->List Nat}(ha: ∀r p v,atP s F r p v->atP s2 F2 r p v){f:FuncId}{l:List Nat}{v:Value}(hv:clV s F f l v):clV s2 F2 f l v:=by
 obtain⟨us,h1,h2,h3⟩:=hv;refine⟨us,h1,h2,fun j q hq=> ?_⟩;obtain⟨u,hu,ht⟩:=h3 j q hq;exact⟨u,hu,ha _ _ _ ht⟩
theorem Qyp{d:Nat}{t:Tm}{v0:Value}{S0:List Nat}(hd:Jm s d=true){v:Value}{S:List Nat}: ∀{u:Tm},
  vt gh w X B s F a v S u->vt gh w X B (Yx s d t) (Qd F (.m d) S0) (a.put (some d) v0) v S u:=by
 intro u hu
 induction u with
 |junk=>exact hu
 |tup=>exact hu
 |val T f x=>exact hu
 |box e T f x=>exact hu
 |shp T x=>exact hu
 |ptr r p=>
  obtain⟨h0,e,T,f,x,b,S',h1,h2,h3⟩:=hu;have hr:r≠d:=fun e'=>by subst e';simp[Jm,h1]at hd
  refine⟨h0,e,T,f,x,b,S',?_,by simp[Qd,hr,h2],h3⟩;rw[Zj6];simp[Ne.symm hr,h1]
 |aep r p i=>
  obtain⟨h0,e,T,f,x,b,S',n,t',y,h1,h2,h3⟩:=hu;have hr:r≠d:=fun e'=>by subst e';simp[Jm,h1]at hd
  refine⟨h0,e,T,f,x,b,S',n,t',y,?_,by simp[Qd,hr,h2],h3⟩;rw[Zj6];simp[Ne.symm hr,h1]
 |bor r p=>
  obtain⟨h0,h1⟩:=hu;refine⟨h0,fun hc=> ?_⟩;obtain⟨hc,hj⟩:=Qo2 hc;obtain⟨U,h⟩:=h1 hc;have hr:r≠d:=fun e=>Qah h (hj e);exact⟨U,Qh5 hr h⟩
 |elp r p i q=>
  obtain⟨h0,h1⟩:=hu;refine⟨h0,fun hc=> ?_⟩;obtain⟨hc,hj⟩:=Qo2 hc;obtain⟨e,t',ad,n,cap,h,h2,h3,h4⟩:=h1 hc;have hr:r≠d:=fun e=>Qah h (hj e);exact⟨e,t',ad,n,cap,Qh5 hr h,h2,h3,h4⟩
 |bel r p i q=>
  obtain⟨h0,h1⟩:=hu;refine⟨h0,fun hc he=> ?_⟩;obtain⟨hc,hj⟩:=Qo2 hc;obtain⟨e,t',ad,n,cap,x0,y,cs,h,k1,k2,k3,k4⟩:=h1 hc (Z4u he).1;have hr:r≠d:=fun e=>Qah h (hj e);exact⟨e,t',ad,n,cap,x0,y,cs,Qh5 hr h,k1,k2,by simpa[Qd,hr]using k3,k4⟩
 |cl f l=>exact⟨hu.1,Z1t (fun _ _ _ h=>Qyz hd h) hu.2⟩
 |pls h l=>exact⟨hu.1,Zqp (fun _ h=>h) (fun _ _=>rfl) (fun _ _ _ h=>Qyz hd h) hu.2⟩
 |gd g want u ih=>
  intro hc;obtain⟨hc,hj⟩:=Z4u hc;obtain⟨h0,h1,h2⟩:=hu hc;have hg:g≠d:=fun e=>h0 (hj e);have hv:Qk gh (a.put (some d) v0) (.m g)=Qk gh a (.m g):=Zb0 (by simpa[Key.t]using hg);exact⟨by rw[Zj6];simpa[Ne.symm hg]using h0,fun hb=>ih (h1 (by rw[<-hv];exact hb)),fun hb=>h2 (by rw[<-hv];exact hb)⟩
theorem R.put{d:Nat}{t:Tm}{v:Value}{S:List Nat}(h:R n W0 w X F (S++H) s a)(hd:Jm s d=true)(hn:d<n)
  (hr:vt W0.gh w X W0.B s F a v S t):
  R n W0 w X (Qd F (.m d) S) H (Yx s d t) (a.put (some d) v) where
 size:=by simp[Act.put,h.size]
 defers:=by simp[Act.put,h.defers]
 below:=h.below
 glob:=h.glob
 gx:=h.gx
 xs:=h.xs
 fix:=fun p hp=>⟨(h.fix p hp).1,by
  have:=Qmp hd;have hne:p.1≠d:=fun e=>this (e▸(h.fix p hp).1);rw[Zb0 (by simpa[Key.t]using hne)];exact(h.fix p hp).2⟩
 xlt:=h.xlt
 xin:=h.xin
 x0:=h.x0
 own:=fun k b hb=>by
  simp only[Qd]at hb;split at hb
  ·exact h.hown b (by simp[hb])
  ·exact h.own k b hb
 nodup:=fun k=>by
  simp only[Qd];split
  ·exact(List.nodup_append.1 h.hnodup).1
  ·exact h.nodup k
 disj:=fun k k' b hb hb'=>by
  simp only[Qd]at hb hb';split at hb<;>split at hb'
  ·rename_i e1 e2;rw[e1,e2]
  ·exact absurd (by simp[hb]) (h.hdisj k' b hb')
  ·exact absurd (by simp[hb']) (h.hdisj k b hb)
  ·exact h.disj k k' b hb hb'
 hown:=h.drop.hown
 hnodup:=h.drop.hnodup
 hdisj:=fun k b hb=>by
  simp only[Qd]at hb;split at hb
  ·exact fun hh=>(List.nodup_append.1 h.hnodup).2.2 b hb b hh rfl
  ·exact h.drop.hdisj k b hb
 comps:=fun d' i hc=>by
  rw[Zj6]at hc⊢;simp only[reduceCtorEq,if_false]at hc;obtain⟨h1,h2⟩:=h.comps d' i hc;by_cases e:d=d'
  ·subst e;simp[Jm,h1]at hd
  ·refine⟨by simpa[e]using h1,?_⟩;rw[Zb0 (a:=a) (v:=v) (k:= .m d') (d:=d) (by simpa[Key.t]using Ne.symm e)];exact h2
 slots:=fun k=>by
  by_cases hk:k= .m d
  ·subst hk;rw[Zq5,Zlo (by rw[h.size];exact hn)];have:=Qyp (t:=t) (v0:=v) (S0:=S) hd hr;simpa[Qd]using this
  ·have e:Qd F (.m d) S k=F k:=by simp[Qd,hk]
   rw[Zj6,e];simp only[Ne.symm hk,if_false];by_cases hk2:k.t=d
   ·cases k with
    |m t=>simp[Key.t]at hk2;subst hk2;exact absurd rfl hk
    |c t i=>
     simp[Key.t]at hk2;subst hk2;have hj:s.get (.c t i)= .junk:=Classical.byContradiction fun hc=>by
      have:=(h.comps t i hc).1;simp[Jm,this]at hd
     have:=h.slots (.c t i);rw[hj]at this⊢;exact this
   ·rw[Zb0 hk2];exact Qyp hd (h.slots k)
def Y0(s:St)(r:Nat)(t:Tm):St:={env:=(.m r,t)::s.env,dirty:=r::s.dirty,lent:=s.lent}
theorem Yg(s:St)(r:Nat)(t:Tm)(k:Key): (Y0 s r t).get k=if Key.m r=k then t else s.get k:=Z1 _ _ _ _
theorem Zo0{r' r:Nat}{t:Tm}(h: (Y0 s r t).foul r'=false):s.foul r'=false/\r'≠r:=by
 unfold Y0 St.foul at*
 simp only[List.any_cons,Bool.or_eq_false_iff]at h;refine⟨h.2,fun e=> ?_⟩;subst e;rw[Nat.beq_refl]at h;cases h.1
def Xah(gh:Nat->Value)(w w':World)(s s2:St)(F F2:Key->List Nat)(a:Act)(d:Nat):Prop:=s2.get (.m d)≠ .junk/\ ∀p v U,Xb gh w s F a d p v U->Xb gh w' s2 F2 a d p v U
structure Zzy(gh:Nat->Value)(w w':World)(s s2:St)(F F2:Key->List Nat)(a:Act)(d:Nat)(t:Tm):Prop where
 lent:s2.lent=s.lent
 get: ∀k,s2.get k=if Key.m d=k then t else s.get k
 foul: ∀r,s2.foul r=false->s.foul r=false/\(r=d->s2.get (.m d)≠ .junk)
 bad: ∀r p,s2.bad r p=false->s.bad r p=false/\(r=d-> ∀v U,Xb gh w s F a d p v U->Xb gh w' s2 F2 a d p v U)
 el: ∀r,s2.foul r=false->s2.foul (Zj2 r)=false->s.foul (Zj2 r)=false/\r≠d
theorem Qh3{d:Nat}{t:Tm}{F2:Key->List Nat}:Zzy gh w w' s (Y0 s d t) F F2 a d t where
 lent:=rfl
 get:=Yg s d t
 foul _ h:=⟨(Zo0 h).1,fun e=>absurd e (Zo0 h).2⟩
 bad _ _ h:=⟨Zv4 (fun _ h=>(Zo0 h).1) h,fun e=>absurd e (Zo0 (St.bad_foul h)).2⟩
 el _ h he:=⟨(Zo0 he).1,(Zo0 h).2⟩
theorem Qpr{s2:St}{d:Nat}{t:Tm}{u:Value}{S:List Nat}{r:Nat}{p:List Nat}{U:Ty}(ht:Zzy gh w w' s s2 F (Qd F (.m d) S) a d t)(hr:r≠d)
  (hF: ∀b∈F (.m r),w'.heap[b]? =w.heap[b]?) (h:Xb gh w s F a r p u U):Xb gh w' s2 (Qd F (.m d) S) a r p u U:=by
 have e:s2.get (.m r)=s.get (.m r):=by rw[ht.get];simp[Ne.symm hr]
 have h:=Zi9 h hF;unfold Xb at*
 rw[e];cases hg:s.get (.m r)<;>rw[hg]at h<;>simp only at h⊢
 ·exact h
 ·simpa[Qd,hr]using h
theorem Qlv{s2:St}{d:Nat}{t:Tm}{S0:List Nat}{v:Value}{S:List Nat}(ht:Zzy gh w w' s s2 F (Qd F (.m d) S0) a d t)(hX: ∀b,X b->X' b)(hw: ∀b,X b->w'.heap[b]? =w.heap[b]?)
  (hF: ∀k b,k≠ .m d->b∈F k->w'.heap[b]? =w.heap[b]?) (hS: ∀b∈S,w'.heap[b]? =w.heap[b]?)
  (same: ∀e T f x b S',s.get (.m d)= .box e T f x->F (.m d)=b::S'-> ∃f' x' S'',t= .box e T f' x'/\S0=b::S''): ∀{u:Tm},
  vt gh w X B s F a v S u->vt gh w' X' B s2 (Qd F (.m d) S0) a v S u:=by
 intro u hu;have vA: ∀{r:Nat} {p:List Nat} {v:Value} {U:Ty},(r=d-> ∀v U,Xb gh w s F a d p v U->Xb gh w' s2 (Qd F (.m d) S0) a d p v U)->Xb gh w s F a r p v U->Xb gh w' s2 (Qd F (.m d) S0) a r p v U:=by
  intro r p v U hk hv;by_cases hr:r=d
  ·subst hr;exact hk rfl _ _ hv
  ·exact Qpr ht hr (fun b=>hF (.m r) b (by simpa using hr)) hv
 induction u with
 |junk=>exact hu
 |tup=>exact hu
 |val T f x=>exact Zi1 (s:=s) (F:=fun _=>[]) (a:=a) (v:=v) (t:= .val T f x) hX hw (by simp) hS (show vt gh w X B s (fun _=>[]) a v S (.val T f x)from hu)
 |box e T f x=>exact Zi1 (s:=s) (F:=fun _=>[]) (a:=a) (v:=v) (t:= .box e T f x) hX hw (by simp) hS (show vt gh w X B s (fun _=>[]) a v S (.box e T f x)from hu)
 |shp T x=>exact Zi1 (s:=s) (F:=fun _=>[]) (a:=a) (v:=v) (t:= .shp T x) hX hw (by simp) hS (show vt gh w X B s (fun _=>[]) a v S (.shp T x)from hu)
 |ptr r p=>
  obtain⟨h0,e,T,f,x,b,S',h1,h2,h3⟩:=hu;by_cases hr:d=r
  ·subst hr;obtain⟨f',x',S'',rfl,rfl⟩:=same e T f x b S' h1 h2;exact⟨h0,e,T,f',x',b,S'',by rw[ht.get];simp,by simp[Qd],h3⟩
  ·exact⟨h0,e,T,f,x,b,S',by rw[ht.get];simp[hr,h1],by simp[Qd,Ne.symm hr,h2],h3⟩
 |aep r p i=>
  obtain⟨h0,e,T,f,x,b,S',n,t',y,h1,h2,h3,h4⟩:=hu;by_cases hr:d=r
  ·subst hr;obtain⟨f',x',S'',rfl,rfl⟩:=same e T f x b S' h1 h2;obtain⟨⟨T2,y2⟩,k1,k2⟩:=Z4g (x':=x') h3;simp only at k2;subst k2;exact⟨h0,e,T,f',x',b,S'',n,t',y2,by rw[ht.get];simp,by simp[Qd],k1,h4⟩
  ·exact⟨h0,e,T,f,x,b,S',n,t',y,by rw[ht.get];simp[hr,h1],by simp[Qd,Ne.symm hr,h2],h3,h4⟩
 |bor r p=>
  obtain⟨h0,h1⟩:=hu;refine⟨h0,fun hc=> ?_⟩;obtain⟨hc,hj⟩:=ht.bad r p hc;obtain⟨U,h⟩:=h1 hc;exact⟨U,vA hj h⟩
 |elp r p i q=>
  obtain⟨h0,h1⟩:=hu;refine⟨h0,fun hc=> ?_⟩;obtain⟨hc,hj⟩:=ht.bad r p hc;obtain⟨e,t',ad,n,cap,h,h2,h3,h4⟩:=h1 hc;exact⟨e,t',ad,n,cap,vA hj h,h2,h3,h4⟩
 |bel r p i q=>
  obtain⟨h0,h1⟩:=hu;refine⟨h0,fun hc he=> ?_⟩;obtain⟨he,hr⟩:=ht.el r (St.bad_foul hc) he;obtain⟨hc,hj⟩:=ht.bad r p hc;obtain⟨e,t',ad,n,cap,x0,y,cs,h,k1,k2,k3,k4,k5,k6,k7⟩:=h1 hc he;have hb: ∀m,(ad.add m).block=ad.block:=fun m=>by unfold Addr.add;split<;>rfl
  exact⟨e,t',ad,n,cap,x0,y,cs,vA hj h,k1,k2,by simpa[Qd,hr]using k3,k4,k5,k6,fun j u hj=>by
   rw[World.cell?_of_block (w:=w) (by rw[hb];exact hF (.m r) _ (by simpa using hr) k3)];exact k7 j u hj⟩
 |cl f l=>
  refine⟨hu.1,Z1t (fun r p v ha=> ?_) hu.2⟩;obtain⟨e,T,f,x,b,S',h1,h2,h3⟩:=ha;by_cases hr:d=r
  ·subst hr;obtain⟨f',x',S'',rfl,rfl⟩:=same e T f x b S' h1 h2;exact⟨e,T,f',x',b,S'',by rw[ht.get];simp,by simp[Qd],h3⟩
  ·exact⟨e,T,f,x,b,S',by rw[ht.get];simp[hr,h1],by simp[Qd,Ne.symm hr,h2],h3⟩
 |pls hh l=>
  refine⟨hu.1,Zqp hX hw (fun r p v ha=> ?_) hu.2⟩;obtain⟨e,T,f,x,b,S',h1,h2,h3⟩:=ha;by_cases hr:d=r
  ·subst hr;obtain⟨f',x',S'',rfl,rfl⟩:=same e T f x b S' h1 h2;exact⟨e,T,f',x',b,S'',by rw[ht.get];simp,by simp[Qd],h3⟩
  ·exact⟨e,T,f,x,b,S',by rw[ht.get];simp[hr,h1],by simp[Qd,Ne.symm hr,h2],h3⟩
 |gd g want u ih=>
  intro hc;obtain⟨hc,hj⟩:=ht.foul g hc;obtain⟨h0,h1,h2⟩:=hu hc;refine⟨?_,fun hb=>ih (h1 hb),h2⟩;by_cases hg:g=d
  ·subst hg;exact hj rfl
  ·rw[ht.get];simpa[Ne.symm hg]using h0
theorem R.turn'{s2:St}{r:Nat}{t:Tm}{S' H':List Nat}(h:R n W0 w X F H s a)(hT:Zzy W0.gh w w' s s2 F (Qd F (.m r) S') a r t)
  (hb:W0.below w') (hs:w.heap.size<=w'.heap.size) (hX: ∀b,X b->w'.heap[b]? =w.heap[b]?)
  (hF: ∀k b,k≠ .m r->b∈F k->w'.heap[b]? =w.heap[b]?)
  (hin: ∀b,b∈S'++H'->b∈F (.m r)++H) (hn: (S'++H').Nodup) (ht:s.get (.m r)≠ .tup)
  (same: ∀e T f x b S,s.get (.m r)= .box e T f x->F (.m r)=b::S-> ∃f' x' S'',t= .box e T f' x'/\S'=b::S'')
  (hr:vt W0.gh w' X W0.B s2 (Qd F (.m r) S') a (Qk W0.gh a (.m r)) S' t):
  R n W0 w' X (Qd F (.m r) S') H' s2 a:=by
 have hin': ∀b,b∈S'++H'->W0.mine b/\b<w.heap.size/\ ¬X b:=fun b hb=>
  (List.mem_append.1 (hin b hb)).elim (h.own _ b) (h.hown b)
 have hsep: ∀k b,k≠ .m r->b∈F k->b∉S'++H':=fun k b hk hb hb'=>
  (List.mem_append.1 (hin b hb')).elim (fun hb'=>hk (h.disj _ _ b hb hb')) (h.hdisj k b hb)
 exact
 {size:=h.size
  defers:=h.defers
  below:=hb
  glob:=g.stays _ _ h.glob fun b hb=>hX b (h.gx b hb)
  gx:=h.gx
  xs:=h.xs
  fix:=fun p hp=>⟨by rw[hT.lent];exact(h.fix p hp).1,(h.fix p hp).2⟩
  xlt:=fun b hb=>Nat.lt_of_lt_of_le (h.xlt b hb) hs
  xin:=h.xin
  x0:=h.x0
  own:=fun k b hb=>by
   simp only[Qd]at hb;split at hb
   ·obtain⟨h1,h2,h3⟩:=hin' b (by simp[hb]);exact⟨h1,Nat.lt_of_lt_of_le h2 hs,h3⟩
   ·obtain⟨h1,h2,h3⟩:=h.own k b hb;exact⟨h1,Nat.lt_of_lt_of_le h2 hs,h3⟩
  nodup:=fun k=>by
   simp only[Qd];split
   ·exact(List.nodup_append.1 hn).1
   ·exact h.nodup k
  disj:=fun k k' b hb hb'=>by
   simp only[Qd]at hb hb';split at hb<;>split at hb'
   ·rename_i e1 e2;rw[e1,e2]
   ·rename_i e1 e2;exact absurd (by simp[hb]) (hsep k' b e2 hb')
   ·rename_i e1 e2;exact absurd (by simp[hb']) (hsep k b e1 hb)
   ·exact h.disj k k' b hb hb'
  hown:=fun b hb=>by obtain⟨h1,h2,h3⟩:=hin' b (by simp[hb]);exact⟨h1,Nat.lt_of_lt_of_le h2 hs,h3⟩
  hnodup:=(List.nodup_append.1 hn).2.1
  hdisj:=fun k b hb=>by
   simp only[Qd]at hb;split at hb
   ·exact fun hh=>(List.nodup_append.1 hn).2.2 b hb b hh rfl
   ·rename_i e1;exact fun hh=>hsep k b e1 hb (by simp[hh])
  comps:=fun d' i hc=>by
   rw[hT.get]at hc⊢;simp only[reduceCtorEq,if_false]at hc;obtain⟨h1,h2⟩:=h.comps d' i hc;by_cases e:r=d'
   ·subst e;exact absurd h1 ht
   ·exact⟨by simpa[e]using h1,h2⟩
  slots:=fun k=>by
   by_cases hk:k= .m r
   ·subst hk;rw[hT.get];simpa[Qd]using hr
   ·have e:Qd F (.m r) S' k=F k:=by simp[Qd,hk]
    rw[hT.get,e];simp only[Ne.symm hk,if_false];exact Qlv hT (fun _ h=>h) hX hF (fun b=>hF k b hk) same (h.slots k)}
theorem R.turn{r:Nat}{t:Tm}{S' H':List Nat}(h:R n W0 w X F H s a)
  (hb:W0.below w') (hs:w.heap.size<=w'.heap.size) (hX: ∀b,X b->w'.heap[b]? =w.heap[b]?)
  (hF: ∀k b,k≠ .m r->b∈F k->w'.heap[b]? =w.heap[b]?)
  (hin: ∀b,b∈S'++H'->b∈F (.m r)++H) (hn: (S'++H').Nodup) (ht:s.get (.m r)≠ .tup)
  (same: ∀e T f x b S,s.get (.m r)= .box e T f x->F (.m r)=b::S-> ∃f' x' S'',t= .box e T f' x'/\S'=b::S'')
  (hr:vt W0.gh w' X W0.B (Y0 s r t) (Qd F (.m r) S') a (Qk W0.gh a (.m r)) S' t):
  R n W0 w' X (Qd F (.m r) S') H' (Y0 s r t) a:=
 h.turn' Qh3 hb hs hX hF hin hn ht same hr
def Zst(s:St)(r:Nat)(t:Tm):St:={env:=(.m r,t)::s.env,dirty:=Zj2 r::s.dirty,lent:=s.lent}
theorem Kg(s:St)(r:Nat)(t:Tm)(k:Key): (Zst s r t).get k=if Key.m r=k then t else s.get k:=Z1 _ _ _ _
theorem Zkf{s:St}{e:List (Key×Tm)}{m:List Nat}{l:List Nat}{r:Nat}(h:St.foul {env:=e,dirty:=m++s.dirty,lent:=l} r=false):s.foul r=false/\r∉m:=by
 unfold St.foul at*
 simp only[List.any_append,Bool.or_eq_false_iff]at h;refine⟨h.2,fun hm=> ?_⟩;have:=h.1;rw[List.any_eq_false]at this;exact this r hm (Nat.beq_refl r)
theorem Zom{d:Nat}{t:Tm}{F2:Key->List Nat}(h:Xah gh w w' s (Zst s d t) F F2 a d):Zzy gh w w' s (Zst s d t) F F2 a d t where
 lent:=rfl
 get:=Kg s d t
 foul _ h':=⟨(Zkf (m:=[Zj2 d]) h').1,fun _=>h.1⟩
 bad _ _ h':=⟨Zv4 (fun _ h=>(Zkf (m:=[Zj2 d]) h).1) h',fun _ v U hv=>h.2 _ v U hv⟩
 el _ _ he:=⟨(Zkf (m:=[Zj2 d]) he).1,fun e=>(Zkf (m:=[Zj2 d]) he).2 (by simp[e])⟩
def Q7i(s:St)(r i:Nat)(t:Tm):St:={env:=(.m r,t)::s.env,dirty:=Zj2 r::Z64 r::Z63 r i::s.dirty,lent:=s.lent}
theorem Qpo(s:St)(r i:Nat)(t:Tm)(k:Key): (Q7i s r i t).get k=if Key.m r=k then t else s.get k:=Z1 _ _ _ _
theorem Qyn{d i:Nat}{t:Tm}{F2:Key->List Nat}(h1:t≠ .junk)(h2: ∀j p v U,j≠i->Xb gh w s F a d (j::p) v U->Xb gh w' (Q7i s d i t) F2 a d (j::p) v U):Zzy gh w w' s (Q7i s d i t) F F2 a d t where
 lent:=rfl
 get:=Qpo s d i t
 foul _ h':=⟨(Zkf (m:=[Zj2 d,Z64 d,Z63 d i]) h').1,fun _=>by rw[Qpo];simpa using h1⟩
 bad r p h':=⟨Zv4 (fun _ h=>(Zkf (m:=[Zj2 d,Z64 d,Z63 d i]) h).1) h',fun e v U hv=>by
  subst e;cases p with
  |nil=>
   simp only[St.bad,Bool.or_eq_false_iff]at h';exact absurd (by simp) (Zkf (m:=[Zj2 r,Z64 r,Z63 r i]) h'.2).2
  |cons j p=>
   refine h2 j p v U (fun e=> ?_) hv;subst e;simp only[St.bad,Bool.or_eq_false_iff]at h';exact absurd (by simp) (Zkf (m:=[Zj2 r,Z64 r,Z63 r j]) h'.2).2⟩
 el _ _ he:=⟨(Zkf (m:=[Zj2 d,Z64 d,Z63 d i]) he).1,fun e=>(Zkf (m:=[Zj2 d,Z64 d,Z63 d i]) he).2 (by simp[e])⟩
end
end Go.Am
namespace Go.Am
open Go.RowKit
def Q4e{α:Type}(f:List Value->Option (α×List Value)):Nat->List Value->Option (List α×List Value)
 |0,vs=>some ([],vs)
 |n+1,vs=>match f vs with
  |some (x,r)=>match Q4e f n r with
   |some (xs,r')=>some (x::xs,r')
   |none=>none
  |none=>none
def ofC: (T:Ty)->List Value->Option (T.den×List Value)
 | .unit,vs=>some ((),vs)
 | .int k,vs=>match vs with| .int k' n::r=>if k'=k then some (n,r)else none|_=>none
 | .bool,vs=>match vs with| .bool b::r=>some (b,r)|_=>none
 | .fnc _,_=>none
 | .str,vs=>match vs with| .string s::r=>some (s.data.toList,r)|_=>none
 | .slice _ _,vs=>match vs with| .slice none 0 0::r=>some ([],r)|_=>none
 | .pair a b,vs=>match ofC a vs with
  |some (x,r)=>match ofC b r with
   |some (y,r')=>some ((x,y),r')
   |none=>none
  |none=>none
 | .arr n t,vs=>Q4e (ofC t) n vs
 | .err,vs=>match vs with| .nilIface::r=>some (true,r)|_=>none
 | .hid _,_=>none
 | .sptr ..,_=>none
 | .clo ..,_=>none
def Z4r(T:Ty)(v:Value):Option T.den:=
 match(match T with
  | .unit| .pair .. | .arr .. =>(match v with| .agg cs=>some cs.toList|_=>none)
  |_=>some [v])with
 |some vs=>match ofC T vs with
  |some (x,[])=>some x
  |_=>none
 |none=>none
def zero: (T:Ty)->T.den| .unit=>()| .int _=>(0:Int)| .bool=>false| .fnc _=>()| .str=>[]| .slice _ _=>[]| .pair a b=>(zero a,zero b)| .arr n t=>List.replicate n (zero t)| .err=>true| .hid _=>()| .sptr _ t=>zero t| .clo _ t=>zero t
def Jy:Ty->List Value| .unit=>[]| .int k=>[.int k 0]| .bool=>[.bool false]| .fnc f=>[.func (.func f) #[] #[]]| .str=>[.string ⟨#[]⟩]| .slice _ _=>[.slice none 0 0]| .pair a b=>Jy a++Jy b| .arr n t=>(List.replicate n (Jy t)).flatten| .err=>[.nilIface]| .hid t=>(Jy t).take 1| .sptr .. =>[.pointer none]| .clo f _=>[.func (.func f) #[] #[]]
section
variable {g:Kr} {W0:Wz g} {w w':World} {X X':Nat->Prop} {B n:Nat} {own:Bool} {s:St} {F:Key->List Nat} {a:Act} {H:List Nat} {gh:Nat->Value}
theorem Qzg(e:TypeId)(sz:Nat):hdr w X B own e sz 0 (.slice none 0 0) [] []:=by
 cases own
 ·exact⟨rfl,by simp,none,0,rfl,Nat.le_refl _,by simp[maxLen],.inl ⟨rfl,rfl,rfl⟩⟩
 ·exact⟨World.ownsRow_nil _ _ _ _,rfl⟩
theorem Qz0{α:Type}{f:List Value->Option (α×List Value)}{r:α->List Value->List Nat->Prop}(hf: ∀vs x q,f vs=some (x,q)-> ∃v1,vs=v1++q/\r x v1 []):
  ∀{n:Nat} {vs:List Value} {xs:List α} {q:List Value},Q4e f n vs=some (xs,q)-> ∃v1,vs=v1++q/\xs.length=n/\Ww r xs v1 []
 |0,vs,xs,q,h=>by simp only[Q4e,Osi,Opi]at h;obtain⟨rfl,rfl⟩:=h;exact⟨[],rfl,rfl,rfl,rfl⟩
 |n+1,vs,xs,q,h=>by
  simp only[Q4e]at h;split at h
  ·rename_i x r1 h1;split at h
   ·rename_i xs' r2 h2;simp only[Osi,Opi]at h;obtain⟨rfl,rfl⟩:=h;obtain⟨v1,rfl,k1⟩:=hf _ _ _ h1;obtain⟨v2,rfl,k2,k3⟩:=Qz0 hf h2;exact⟨v1++v2,by simp,by simp[k2],v1,v2,[],[],rfl,rfl,k1,k3⟩
   ·cases h
  ·cases h
theorem Q9e: ∀{T:Ty} {vs:List Value} {x:T.den} {q:List Value},ofC T vs=some (x,q)-> ∃v1,vs=v1++q/\rd w X B own T x v1 []:=by
 intro T
 induction T with
 |unit=>intro vs x q h;simp only[ofC,Osi,Opi]at h;obtain⟨_,rfl⟩:=h;exact⟨[],rfl,rfl,rfl⟩
 |int k=>
  intro vs x q h;simp only[ofC]at h;split at h
  ·rename_i k' m r;split at h
   ·rename_i e;subst e;simp only[Osi,Opi]at h;obtain⟨rfl,rfl⟩:=h;exact⟨[_],rfl,rfl,rfl⟩
   ·cases h
  ·cases h
 |bool=>
  intro vs x q h;simp only[ofC]at h;split at h
  ·simp only[Osi,Opi]at h;obtain⟨rfl,rfl⟩:=h;exact⟨[_],rfl,rfl,rfl⟩
  ·cases h
 |fnc f=>intro vs x q h;simp[ofC]at h
 |hid t=>intro vs x q h;simp[ofC]at h
 |sptr e t=>intro vs x q h;simp[ofC]at h
 |clo f t=>intro vs x q h;simp[ofC]at h
 |err=>
  intro vs x q h;simp only[ofC]at h;split at h
  ·simp only[Osi,Opi]at h;obtain⟨rfl,rfl⟩:=h;exact⟨[_],rfl,⟨_,rfl,rfl,by simp⟩,rfl⟩
  ·cases h
 |str=>
  intro vs x q h;simp only[ofC]at h;split at h
  ·simp only[Osi,Opi]at h;obtain⟨rfl,rfl⟩:=h;exact⟨[_],rfl,rfl,rfl⟩
  ·cases h
 |slice e t ih=>
  intro vs x q h;simp only[ofC]at h;split at h
  ·simp only[Osi,Opi]at h;obtain⟨rfl,rfl⟩:=h;exact⟨[_],rfl,_,[],[],[],rfl,rfl,Qzg _ _,rfl,rfl⟩
  ·cases h
 |pair a b iha ihb=>
  intro vs x q h;simp only[ofC]at h;split at h
  ·rename_i x1 r1 h1;split at h
   ·rename_i x2 r2 h2;simp only[Osi,Opi]at h;obtain⟨rfl,rfl⟩:=h;obtain⟨v1,rfl,k1⟩:=iha h1;obtain⟨v2,rfl,k2⟩:=ihb h2;exact⟨v1++v2,by simp,v1,v2,[],[],rfl,rfl,k1,k2⟩
   ·cases h
  ·cases h
 |arr n t ih=>
  intro vs x q h;obtain⟨v1,h1,h2,h3⟩:=Qz0 (r:=rd w X B own t) (fun vs x q h=>ih h) h;exact⟨v1,h1,h2,h3⟩
theorem Zt6{T:Ty}{v:Value}{x:T.den}(h:Z4r T v=some x): ∃vs,v=Xt T vs/\rd w X B own T x vs []:=by
 unfold Z4r at h;split at h
 ·rename_i vs hv;split at h
  ·rename_i y hy;simp only[Osi]at h;subst h;obtain⟨v1,h1,h2⟩:=Q9e (w:=w) (X:=X) (B:=B) (own:=own) hy;simp only[List.append_nil]at h1;subst h1;refine⟨vs,?_,h2⟩;cases T<;>simp only[Xt]at hv⊢
   all_goals first
    | (simp only[Osi]at hv;subst hv;rfl)
    | (split at hv<;>first| (simp only[Osi]at hv;subst hv;simp)|cases hv)
  ·cases h
 ·cases h
theorem Zuv{α:Type}{r:α->List Value->List Nat->Prop}{z:α}{c:List Value}(h:r z c []): ∀n:Nat,Ww r (List.replicate n z) (List.replicate n c).flatten []
 |0=>⟨rfl,rfl⟩
 |n+1=>⟨c,(List.replicate n c).flatten,[],[],by simp[List.replicate_succ],rfl,h,Zuv h n⟩
theorem Zrh: ∀{T:Ty},T.plain=true->rd w X B own T (zero T) (Jy T) []
 | .unit,_=>⟨rfl,rfl⟩
 | .int _,_=>⟨rfl,rfl⟩
 | .bool,_=>⟨rfl,rfl⟩
 | .fnc _,_=>⟨rfl,rfl⟩
 | .str,_=>⟨rfl,rfl⟩
 | .slice _ _,_=>⟨_,[],[],[],rfl,rfl,Qzg _ _,rfl,rfl⟩
 | .pair a b,h=>by
  simp only[Ty.plain,Oba]at h;exact⟨_,_,[],[],rfl,rfl,Zrh h.1,Zrh h.2⟩
 | .arr n t,h=>⟨by simp[zero],Zuv (Zrh (by simpa[Ty.plain]using h)) n⟩
 | .err,_=>⟨⟨_,rfl,rfl,.inl ⟨rfl,rfl⟩⟩,rfl⟩
 | .hid t,h=>by
  simp only[Ty.plain,Oba]at h;have h2:=Zrh h.2;have h3:=(Xv h2).trans (Onb h.1);have e: (Jy t).take 1=Jy t:=List.take_of_length_le (by omega);show _/\_;simp only[Jy,e];exact⟨h3,zero t,h2⟩
 | .sptr ..,h=>by simp[Ty.plain]at h
 | .clo ..,h=>by simp[Ty.plain]at h
inductive Op1 where
 |cst (v:Value)|fn (f:FuncId)|tm (k:Nat) (t:Tm)|bad
abbrev Xi:=List (Nat×Bool)
def Xi.has(tg:Xi)(g:Nat)(b:Bool):Bool:=tg.any fun p=>Nat.beq p.1 g&& (match p.2,b with|true,true=>true|false,false=>true|_,_=>false)
def Zv1(s:St)(tg:Xi):Tm->Tm
 | .gd g b t=>match s.foul g with
  |true=> .junk
  |false=>match tg.has g b with|true=>t|false=> .junk
 |t=>t
def op1(s:St)(tg:Xi):Operand->Op1
 | .const v=> .cst v
 | .func f=> .fn f
 | .tmp k=>match Nat.blt k 1048576 with|true=> .tm k (Zv1 s tg (s.get (.m k)))|false=> .bad
 | .global _=> .bad
def Xi.ok(tg:Xi)(gh:Nat->Value)(a:Act):Prop:= ∀p∈tg,Qk gh a (.m p.1)= .bool p.2
theorem Xi.has_ok{tg:Xi}{gh:Nat->Value}{a:Act}(h:tg.ok gh a){g:Nat}{b:Bool}(hh:tg.has g b=true):Qk gh a (.m g)= .bool b:=by
 unfold Xi.has at hh;rw[List.any_eq_true]at hh;obtain⟨⟨g',b'⟩,hp,he⟩:=hh;simp only[Oba]at he;obtain⟨h1,h2⟩:=he;have:=h _ hp;simp only[Onb h1]at this;cases b'<;>cases b<;>first|exact this|simp at h2
theorem Q4z{gh:Nat->Value}{tg:Xi}(ht:tg.ok gh a){v:Value}{S:List Nat}{t:Tm}(h:vt gh w X B s F a v S t)(hj:Zv1 s tg t≠ .junk):vt gh w X B s F a v S (Zv1 s tg t):=by
 cases t with
 |gd g b t=>
  simp only[Zv1]at hj⊢;cases hf:s.foul g<;>simp only[hf]at hj⊢
  ·cases hh:tg.has g b<;>simp only[hh]at hj⊢
   ·exact absurd rfl hj
   ·exact(h hf).2.1 (Xi.has_ok ht hh)
  ·exact absurd rfl hj
 |_=>exact h
theorem Yh(W0:Wz g)(a:Act){k:Nat}(hk:Nat.blt k 1048576=true):Qk W0.gh a (.m k)=a.eval (.tmp k):=by
 show Zkz _ _ _=a.tmps.getD k undef;unfold Zkz;rw[Array.getD_eq_getD_getElem?];cases a.tmps[k]? with
 |none=>exact W0.ghU k (by simpa[big,Nat.blt_eq]using hk)
 |some v=>rfl
theorem Zli{tg:Xi}{x:Operand}{k:Nat}{t:Tm}(hx:op1 s tg x= .tm k t):x= .tmp k/\Nat.blt k 1048576=true/\t=Zv1 s tg (s.get (.m k)):=by
 cases x with
 |tmp j=>simp only[op1]at hx;split at hx<;>cases hx;rename_i h;exact⟨rfl,h,rfl⟩
 |_=>cases hx
theorem Zvu{tg:Xi}{x:Operand}{v:Value}(hx:op1 s tg x= .cst v):x= .const v:=by
 cases x with
 |tmp j=>simp only[op1]at hx;split at hx<;>cases hx
 |const u=>cases hx;rfl
 |_=>cases hx
theorem Qt2{tg:Xi}{x:Operand}{f:FuncId}(hx:op1 s tg x= .fn f):x= .func f:=by
 cases x with
 |tmp j=>simp only[op1]at hx;split at hx<;>cases hx
 |func u=>cases hx;rfl
 |_=>cases hx
theorem Ke(h:R n W0 w X F H s a){tg:Xi}(ht:tg.ok W0.gh a){x:Operand}{k:Nat}{t:Tm}(hx:op1 s tg x= .tm k t)(hj:t≠ .junk):
  x= .tmp k/\vt W0.gh w X W0.B s F a (a.eval x) (F (.m k)) t:=by
 obtain⟨rfl,hb,rfl⟩:=Zli hx;refine⟨rfl,?_⟩;rw[<-Yh W0 a hb];exact Q4z ht (h.slots (.m _)) hj
def Qzt(s:St)(r:Nat)(p:List Nat):Option ((T:Ty)×Fl×T.den):=
 match s.get (.m r)with
 | .val T f x=>match p,f.live with| [],true=>some ⟨T,f,x⟩|_,_=>none
 | .box _ T f x=>match Zc9 T x p with
  |some y=>match(Zjv f p).live with|true=>some ⟨y.1,Zjv f p,y.2⟩|false=>none
  |none=>none
 |_=>none
def Zrt(s:St):Op1->Option ((T:Ty)×Fl×T.den)
 | .tm _ (.val T f x)=>match f.live with|true=>some ⟨T,f,x⟩|false=>none
 | .tm _ (.bel r p i q)=>match s.bad r p||s.foul (Zj2 r)with
  |true=>none
  |false=>match Qzt s r p with
   |some ⟨.slice _ t,.u true,l⟩=>match Zc9 t (l.getD i.toNat (zero t)) q with
    |some y=>some ⟨y.1,.u true,y.2⟩
    |none=>none
   |_=>none
 | .tm _ (.bor r p)=>match s.bad r p with
  |true=>none
  |false=>match s.get (.m r)with
   | .val T f x=>match p,f.live with| [],true=>some ⟨T,f,x⟩|_,_=>none
   | .box _ T f x=>match Zc9 T x p with
    |some y=>match(Zjv f p).live with|true=>some ⟨y.1,Zjv f p,y.2⟩|false=>none
    |none=>none
   |_=>none
 | .fn f=>some ⟨.fnc f,.u true,()⟩
 |_=>none
def Zaa(s:St)(o:Op1)(T:Ty):Option T.den:=
 match o with
 | .cst v=>Z4r T v
 |o=>match Zrt s o with
  |some ⟨U,_,x⟩=>Km T U x
  |none=>none
theorem Zx5{vs pre mid post:List Value}(h:vs=pre++ (mid++post)){k m:Nat}(hk:pre.length=k)(hm:mid.length=m): (vs.drop k).take m=mid:=by
 subst h;subst hk;subst hm;simp
theorem Qvs(h:R n W0 w X F H s a){r:Nat}{p:List Nat}{v:Value}{U T:Ty}{f:Fl}{y:T.den}(hv:Xb W0.gh w s F a r p v U)(hl:Qzt s r p=some ⟨T,f,y⟩):
  T=U/\f.live=true/\ ∃vs S,v=Xt T vs/\rdF w X W0.B T f y vs S/\S.Sublist (F (.m r)):=by
 unfold Qzt at hl;unfold Xb at hv;have hs:=h.slots (.m r);split at hl
 ·rename_i T' f' x' hg;rw[hg]at hv hs;obtain⟨rfl,rfl,hv⟩:=hv;split at hl
  ·rename_i hf;simp only[Osi,Sigma.mk.injEq]at hl;obtain⟨rfl,hl⟩:=hl;simp only[heq_eq_eq,Opi]at hl;obtain⟨rfl,rfl⟩:=hl;obtain⟨vs,k1,k2⟩:=hs;exact⟨rfl,hf,vs,_,hv.trans k1,k2,List.Sublist.refl _⟩
  ·cases hl
 ·rename_i e T' f' x' hg;rw[hg]at hv hs;obtain⟨b,c,S,y',k1,k2,k3,k4,k5⟩:=hv;obtain⟨b',c',S',l1,l2,l3,l4⟩:=hs;rw[k1]at l2;obtain⟨rfl,rfl⟩:=List.cons.inj l2;rw[k2]at l3;simp only[Osi,Obj.cells.injEq]at l3;obtain⟨rfl,_⟩:=l3;rw[k3]at hl;simp only at hl;split at hl
  ·rename_i hf;simp only[Osi,Sigma.mk.injEq]at hl;obtain⟨rfl,hl⟩:=hl;simp only[heq_eq_eq,Opi]at hl;obtain⟨rfl,rfl⟩:=hl;obtain⟨pre,mid,post,S1,S2,S3,m1,m2,m3,m4,_⟩:=Zeg k3 l4;refine⟨k4.symm,hf,mid,S2,?_,m4,by rw[k1,m2];exact List.Sublist.cons _ ((List.sublist_append_left S2 S3).trans (List.sublist_append_right S1 _))⟩;rw[k5,Zx5 m1 m3 (Xx m4)]
  ·cases hl
 ·cases hl
theorem Qq7(h:R n W0 w X F H s a){v:Value}{r:Nat}{p:List Nat}{i:Int}{q:List Nat}{S0:List Nat}(hv:vt W0.gh w X W0.B s F a v S0 (.bel r p i q))(h1:s.bad r p=false)(h2:s.foul (Zj2 r)=false)
  {e:TypeId} {t:Ty} {l:List t.den} (hl:Qzt s r p=some ⟨.slice e t,.u true,l⟩) {y:TV} (hy:Zc9 t (l.getD i.toNat (zero t)) q=some y):
  ∃vs S,v=Xt y.1 vs/\rd w X W0.B true y.1 y.2 vs S/\S.Sublist (F (.m r)):=by
 obtain⟨e',t',ad,n',cap,x0,y0,cs,k1,k2,k3,k4,k5,k6,k7,k8⟩:=hv.2 h1 h2;obtain⟨hT,_,vs,S,m1,m2,m3⟩:=Qvs h k1 hl;cases hT;unfold rdF at m2;obtain⟨v',xs,S1,S2,rfl,rfl,q1,q2⟩:=m2;have m1:Value.slice (some ad) n' cap=v':=m1;subst m1;obtain⟨a0,cap',hv',hle,_,hc⟩:=Zck q1;simp only[Value.slice.injEq]at hv';obtain⟨rfl,rfl,rfl⟩:=hv';rcases hc with⟨e0,_⟩| ⟨ad',e0,_,hc⟩
 ·cases e0
 simp only[Osi]at e0;subst e0;have hil:i.toNat<l.length:=by omega
 obtain⟨pre,mid,post,T1,T2,T3,n1,n2,n3,n4,_⟩:=Zpx (fun _ _ _ h=>Xv h) (i:=i.toNat) hil q2;have e4:l.getD i.toNat (zero t)=l[i.toNat]'hil:=by rw[List.getD_eq_getElem?_getD,List.getElem?_eq_getElem hil];rfl
 rw[e4]at hy;have n4':rdF w X W0.B t (.u true) l[i.toNat] mid T2:=by unfold rdF;exact n4
 obtain⟨pre',mid',post',U1,U2,U3,o1,o2,o3,o4,_⟩:=Zeg hy n4';obtain⟨y1,z1,z2⟩:=Z4g (x':=l[i.toNat]) k5;rw[hy]at z1;cases z1;have hf:Zjv (.u true) q= .u true:=by
  have: ∀q:List Nat,Zjv (.u true) q= .u true:=fun q=>by
   induction q with
   |nil=>rfl
   |cons j q ih=>simpa[Zjv,Zs9]using ih
  exact this q
 rw[hf]at o4;unfold rdF at o4;refine⟨mid',U2,?_,o4,List.Sublist.trans ?_ m3⟩
 rotate_left
 ·rw[n2,o2];exact((List.sublist_append_left U2 U3).trans (List.sublist_append_right U1 _)).trans (((List.sublist_append_left _ T3).trans (List.sublist_append_right T1 _)).trans (List.sublist_append_right _ _))
 rw[k6,<-z2];congr 1;apply List.ext_getElem?;intro j;rcases Nat.lt_or_ge j y.1.size with hj|hj
 ·have hj1:j<cs.length:=by rw[k7,<-z2];exact hj
  have hj2:j<mid'.length:=by rw[Xv o4];exact hj
  have g1:=k8 j cs[j] (List.getElem?_eq_getElem hj1);have g2:=hc (i.toNat*t.size+J3 t q+j) mid'[j] (by
   rw[n1,<-n3,<-o3,List.getElem?_append_right (by omega),show pre.length+pre'.length+j-pre.length=pre'.length+j from by omega,
    List.getElem?_append_left (by rw[o1];simp;omega),o1,List.getElem?_append_right (by omega),show pre'.length+j-pre'.length=j from by omega,List.getElem?_append_left hj2,List.getElem?_eq_getElem hj2])
  rw[g1]at g2;rw[List.getElem?_eq_getElem hj1,List.getElem?_eq_getElem hj2];exact g2
 ·rw[List.getElem?_eq_none (by rw[k7,<-z2];exact hj),List.getElem?_eq_none (by rw[Xv o4];exact hj)]
theorem Zee(h:R n W0 w X F H s a){tg:Xi}(ht:tg.ok W0.gh a){x:Operand}{T:Ty}{f:Fl}{y:T.den}(hl:Zrt s (op1 s tg x)=some ⟨T,f,y⟩):
  f.live=true/\ ∃vs S,a.eval x=Xt T vs/\rdF w X W0.B T f y vs S/\(∀b∈S,∃k,b∈F k):=by
 generalize ho:op1 s tg x=o at hl;unfold Zrt at hl;split at hl
 ·rename_i k T' f' x';obtain⟨_,vs,h1,h2⟩:=Ke h ht ho (by simp);split at hl
  ·rename_i hf;simp only[Osi,Sigma.mk.injEq]at hl;obtain⟨rfl,hl⟩:=hl;simp only[heq_eq_eq,Opi]at hl;obtain⟨rfl,rfl⟩:=hl;exact⟨hf,vs,_,h1,h2,fun b hb=>⟨_,hb⟩⟩
  ·cases hl
 ·rename_i k r p i q;obtain⟨_,hv⟩:=Ke h ht ho (by simp);split at hl
  ·cases hl
  ·rename_i hb;simp only[Bool.or_eq_false_iff]at hb;split at hl
   ·rename_i e t l hlk;split at hl
    ·rename_i z hz;simp only[Osi,Sigma.mk.injEq]at hl;obtain⟨rfl,hl⟩:=hl;simp only[heq_eq_eq,Opi]at hl;obtain⟨rfl,rfl⟩:=hl;obtain⟨vs,S,g1,g2,g3⟩:=Qq7 h hv hb.1 hb.2 hlk hz;exact⟨rfl,vs,S,g1,by unfold rdF;exact g2,fun b hb=>⟨_,g3.subset hb⟩⟩
    ·cases hl
   ·cases hl
 ·rename_i k r p;obtain⟨_,h0,h1⟩:=Ke h ht ho (by simp);split at hl
  ·cases hl
  ·rename_i hfoul;obtain⟨U,hU⟩:=h1 hfoul;unfold Xb at hU;have hs:=h.slots (.m r);split at hl
   ·rename_i T' f' x' hg;rw[hg]at hU hs;obtain⟨rfl,rfl,hv⟩:=hU;split at hl
    ·rename_i hf;simp only[Osi,Sigma.mk.injEq]at hl;obtain⟨rfl,hl⟩:=hl;simp only[heq_eq_eq,Opi]at hl;obtain⟨rfl,rfl⟩:=hl;obtain⟨vs,k1,k2⟩:=hs;exact⟨hf,vs,_,hv.trans k1,k2,fun b hb=>⟨_,hb⟩⟩
    ·cases hl
   ·rename_i e T' f' x' hg;rw[hg]at hU hs;obtain⟨b,c,S,y',k1,k2,k3,k4,k5⟩:=hU;obtain⟨b',c',S',l1,l2,l3,l4⟩:=hs;rw[k1]at l2;obtain⟨rfl,rfl⟩:=List.cons.inj l2;rw[k2]at l3;simp only[Osi,Obj.cells.injEq]at l3;obtain⟨rfl,_⟩:=l3;rw[k3]at hl;simp only at hl;split at hl
    ·rename_i hf;simp only[Osi,Sigma.mk.injEq]at hl;obtain⟨rfl,hl⟩:=hl;simp only[heq_eq_eq,Opi]at hl;obtain⟨rfl,rfl⟩:=hl;obtain⟨pre,mid,post,S1,S2,S3,m1,m2,m3,m4,_⟩:=Zeg k3 l4;refine⟨hf,mid,S2,?_,m4,fun b' hb'=>⟨.m r,by rw[k1,m2];simp[hb']⟩⟩;rw[k5,Zx5 m1 m3 (Xx m4)]
    ·cases hl
   ·cases hl
 ·rename_i g;simp only[Osi,Sigma.mk.injEq]at hl;obtain⟨rfl,hl⟩:=hl;simp only[heq_eq_eq,Opi]at hl;obtain⟨rfl,_⟩:=hl;obtain rfl:=Qt2 ho;exact⟨rfl,[.func (.func g) #[] #[]],[],rfl,by unfold rdF;exact⟨rfl,rfl⟩,by simp⟩
 ·cases hl
theorem Zxp{tg:Xi}{k:Nat}{T:Ty}{y:T.den}(hr:Zaa s (op1 s tg (.tmp k)) T=some y):Nat.blt k 1048576=true:=by
 cases hb:Nat.blt k 1048576 with
 |true=>rfl
 |false=>simp only[op1,hb,Zaa,Zrt]at hr;cases hr
theorem Wl(h:R n W0 w X F H s a){tg:Xi}(ht:tg.ok W0.gh a){x:Operand}{T:Ty}{y:T.den}(hr:Zaa s (op1 s tg x) T=some y):
  ∃vs,a.eval x=Xt T vs/\rd w (· <w.heap.size) W0.B false T y vs []:=by
 unfold Zaa at hr;split at hr
 ·rename_i v hv;obtain rfl:=Zvu hv;exact Zt6 hr
 ·split at hr
  ·rename_i U f y' hl;obtain⟨hf,vs,S,h1,h2,h3⟩:=Zee h ht hl;cases Zbn hr;exact⟨vs,h1,Ko (fun b hb=>h.xlt b hb) hf h2 fun b hb=>let⟨k,hk⟩:=h3 b hb;(h.own k b hk).2.1⟩
  ·cases hr
def Zmu:Fl->Ty->Bool| .u false,_=>true| .u true,T=>T.flat| .p f g,.pair a b=>Zmu f a&&Zmu g b|_,_=>false
theorem Zfg: ∀{T:Ty} {x:T.den} {vs:List Value} {S:List Nat},rd w X B false T x vs S->S=[]
 | .unit,_,_,_,h| .int _,_,_,_,h| .bool,_,_,_,h| .fnc _,_,_,_,h| .str,_,_,_,h=>h.2
 | .slice _ t,_,_,_,⟨_,_,S1,S2,_,e,h1,h2⟩=>by
  have:S2=[]:=(Zdy (r:=rd w X B false t) (r':=fun _ _ _=>True) (fun x v S h=>⟨Zfg h,trivial⟩) h2).1;rw[e,h1.1,this];rfl
 | .pair a b,_,_,_,⟨v1,v2,S1,S2,_,e,h1,h2⟩=>by rw[e,Zfg h1,Zfg h2];rfl
 | .arr n t,_,_,_,⟨_,h'⟩=>(Zdy (r:=rd w X B false t) (r':=fun _ _ _=>True) (fun x v S h=>⟨Zfg h,trivial⟩) h').1
 | .err,_,_,_,h=>h.2
 | .hid _,_,_,_,⟨_,_,h⟩=>Zfg h
 | .sptr ..,_,_,_,h=>h.1
 | .clo ..,_,_,_,h=>h.1
theorem Zh5: ∀{T:Ty} {f:Fl} {x:T.den} {vs:List Value} {S:List Nat},Zmu f T=true->rdF w X B T f x vs S->S=[]
 |T,.d,_,_,_,hn,_=>by simp[Zmu]at hn
 |T,.u false,_,_,_,_,h=>by unfold rdF at h;exact Zfg h
 |T,.u true,_,_,_,hn,h=>by unfold rdF at h;exact(Zco (X':=X) (own':=true) (w':=w) (by simpa[Zmu]using hn) h).1
 | .pair a b,.p f g,_,_,_,hn,⟨v1,v2,S1,S2,_,e,h1,h2⟩=>by
  simp only[Zmu,Oba]at hn;rw[e,Zh5 hn.1 h1,Zh5 hn.2 h2];rfl
 | .slice ..,.p ..,_,_,_,hn,_=>by simp[Zmu]at hn
 | .unit,.p ..,_,_,_,_,h| .int _,.p ..,_,_,_,_,h| .bool,.p ..,_,_,_,_,h| .fnc _,.p ..,_,_,_,_,h| .str,.p ..,_,_,_,_,h| .err,.p ..,_,_,_,_,h| .hid _,.p ..,_,_,_,_,h| .sptr ..,.p ..,_,_,_,_,h| .clo ..,.p ..,_,_,_,_,h| .arr ..,.p ..,_,_,_,_,h=>by simp[rdF]at h
structure Q0k where
 T:Ty
 f:Fl
 x:T.den
 s:St
 moved:Bool
def Qeu(s:St)(o:Op1):Option Q0k:=
 match Zrt s o with
 |some ⟨T,f,x⟩=>match Zmu f T with
  |true=>some ⟨T,f,x,s,false⟩
  |false=>match o with
   | .tm k (.val _ _ _)=>match s.get (.m k)with
    | .val _ _ _=>some ⟨T,f,x,Y0 s k .junk,true⟩
    |_=>none
   | .tm _ (.bor r p)=>match s.get (.m r)with
    | .val _ _ _=>some ⟨T,f,x,Y0 s r .junk,true⟩
    | .box e U g z=>some ⟨T,f,x,Y0 s r (.box e U (Zou g p .d) z),true⟩
    |_=>none
   | .tm _ (.bel r _ _ _)=>match s.get (.m r)with
    | .val _ _ _=>some ⟨T,f,x,Y0 s r .junk,true⟩
    |_=>none
   |_=>none
 |none=>none
def Zr1(s:St)(o:Op1)(T:Ty):Option Q0k:=
 match o with
 | .cst v=>match Z4r T v with|some x=>some ⟨T,.u true,x,s,false⟩|none=>none
 |o=>match Qeu s o with
  |some t=>if t.T=T then some t else none
  |none=>none
theorem R.takeM(h:R n W0 w X F H s a){k:Nat}{T:Ty}{f:Fl}{x:T.den}(hg:s.get (.m k)= .val T f x):
  R n W0 w X (Qd F (.m k) []) (F (.m k)++H) (Y0 s k .junk) a:=
 h.turn (S':=[]) h.below (Nat.le_refl _) (fun _ _=>rfl) (fun _ _ _ _=>rfl) (by simp) (by
  simp only[List.nil_append];exact List.nodup_append.2 ⟨h.nodup _,h.hnodup,fun x hx y hy e=>h.hdisj _ x hx (by rw[e];exact hy)⟩) (by rw[hg];simp)
  (fun e T f x b S hb=>by rw[hg]at hb;cases hb) rfl
theorem Qsd: ∀{p:List Nat} {T:Ty} {x:T.den} {y:TV},Zc9 T x p=some y->Z57 T x p y=some x:=by
 have step: ∀{T:Ty} {x:T.den} {i:Nat} {z:TV},fld T x i=some z->Zsq T x i z=some x:=by
  intro T
  induction T with
  |pair a b iha ihb=>
   intro x i z h;cases i with
   |zero=>simp only[fld,Osi]at h;subst h;simp[Zsq,Km]
   |succ i=>simp only[fld]at h;simp[Zsq,ihb h]
  |_=>intro x i z h;simp[fld]at h
 intro p
 induction p with
 |nil=>intro T x y h;simp only[Zc9,Osi]at h;subst h;simp[Z57,Km]
 |cons i p ih=>
  intro T x y h;simp only[Zc9]at h;cases hz:fld T x i with
  |none=>rw[hz]at h;cases h
  |some z=>
   rw[hz]at h;simp only[Z57,hz,ih h];exact step hz
theorem R.hsub{H':List Nat}(h:R n W0 w X F H s a)(hs:H'.Sublist H):R n W0 w X F H' s a:=
 {h with
  hown:=fun b hb=>h.hown b (hs.subset hb)
  hnodup:=h.hnodup.sublist hs
  hdisj:=fun k b hb hh=>h.hdisj k b hb (hs.subset hh)}
theorem Zv2(h:R n W0 w X F H s a){tg:Xi}(ht:tg.ok W0.gh a){x:Operand}{t:Q0k}(hk:Qeu s (op1 s tg x)=some t):
  ∃F' S vs,a.eval x=Xt t.T vs/\rdF w X W0.B t.T t.f t.x vs S/\R n W0 w X F' (S++H) t.s a/\(t.moved=false->t.s=s/\F'=F/\S=[])/\t.f.live=true:=by
 unfold Qeu at hk;split at hk
 ·rename_i T f y hl;obtain⟨hf,vs,S,h1,h2,h3⟩:=Zee h ht hl;split at hk
  ·rename_i hn;simp only[Osi]at hk;subst hk;have hS:=Zh5 hn h2;subst hS;exact⟨F,[],vs,h1,h2,h,fun _=>⟨rfl,rfl,rfl⟩,hf⟩
  ·rename_i hn;generalize ho:op1 s tg x=o at hk hl;split at hk
   ·rename_i k T' f' x';split at hk
    ·rename_i T2 f2 x2 hg;simp only[Osi]at hk;subst hk;have hx:=Ke h ht ho (by simp);obtain⟨rfl,_⟩:=hx;have hkb:=(Zli ho).2.1;have ho:=(Zli ho).2.2;rw[hg]at ho;simp only[Zv1]at ho;cases ho;simp only[Zrt]at hl;split at hl
     ·simp only[Osi,Sigma.mk.injEq]at hl;obtain⟨rfl,hl⟩:=hl;simp only[heq_eq_eq,Opi]at hl;obtain⟨rfl,rfl⟩:=hl;have hs:=h.slots (.m k);rw[hg]at hs;obtain⟨vs',k1,k2⟩:=hs;exact⟨_,F (.m k),vs',(Yh W0 a hkb).symm.trans k1,k2,h.takeM hg,by simp,hf⟩
     ·cases hl
    ·cases hk
   ·rename_i k r p;obtain⟨_,h0,hb⟩:=Ke h ht ho (by simp);simp only[Zrt]at hl;split at hl
    ·cases hl
    ·rename_i hfoul;obtain⟨U,hU⟩:=hb hfoul;have hs:=h.slots (.m r);split at hk
     ·rename_i T' f' x' hg;simp only[hg]at hl;unfold Xb at hU;rw[hg]at hU hs;obtain⟨rfl,rfl,hv⟩:=hU;split at hl
      ·simp only[Osi,Sigma.mk.injEq]at hl;obtain⟨rfl,hl⟩:=hl;simp only[heq_eq_eq,Opi]at hl;obtain⟨rfl,rfl⟩:=hl;simp only[Osi]at hk;subst hk;obtain⟨vs',k1,k2⟩:=hs;exact⟨_,F (.m r),vs',hv.trans k1,k2,h.takeM hg,by simp,hf⟩
      ·cases hl
     ·rename_i e T' f' x' hg;simp only[hg]at hl;unfold Xb at hU;rw[hg]at hU hs;obtain⟨b,c,S0,y',k1,k2,k3,k4,k5⟩:=hU;obtain⟨b',c',S',l1,l2,l3,l4⟩:=hs;rw[k1]at l2;obtain⟨rfl,rfl⟩:=List.cons.inj l2;rw[k2]at l3;simp only[Osi,Obj.cells.injEq]at l3;obtain⟨rfl,_⟩:=l3;rw[k3]at hl;simp only at hl;split at hl
      ·simp only[Osi,Sigma.mk.injEq]at hl;obtain⟨rfl,hl⟩:=hl;simp only[heq_eq_eq,Opi]at hl;obtain⟨rfl,rfl⟩:=hl;simp only[Osi]at hk;subst hk;obtain⟨pre,mid,post,S1,S2,S3,m1,m2,m3,m4,m5⟩:=Zeg k3 l4;have hnd:=h.nodup (.m r);rw[k1,m2]at hnd;have hdead:=m5 .d y' mid [] x' (Qsd k3) (by unfold rdF;exact⟨Xx m4,Zg3 m4,rfl⟩);rw[<-m1]at hdead;simp only[List.nil_append]at hdead;refine⟨_,S2,mid,by rw[k5,Zx5 m1 m3 (Xx m4)],m4,
        h.turn (S':=b:: (S1++S3)) h.below (Nat.le_refl _) (fun _ _=>rfl) (fun _ _ _ _=>rfl) ?_ ?_ (by rw[hg];simp) ?_ ⟨b,c,S1++S3,l1,rfl,k2,hdead⟩,by simp,hf⟩
       ·intro z hz;rw[k1,m2];simp only[List.mem_append,List.mem_cons]at hz⊢;rcases hz with(hz|hz|hz)|hz|hz
        ·exact .inl (.inl hz)
        ·exact .inl (.inr (.inl hz))
        ·exact .inl (.inr (.inr (.inr hz)))
        ·exact .inl (.inr (.inr (.inl hz)))
        ·exact .inr hz
       ·have h1: (b:: (S1++S3)++S2).Nodup:=by
         have hp: (b:: (S1++S3)++S2).Perm (b:: (S1++ (S2++S3))):=by
          simp only[List.cons_append];refine List.Perm.cons _ ?_;rw[List.append_assoc];exact List.Perm.append_left _ List.perm_append_comm
         exact hp.nodup_iff.2 hnd
        rw[<-List.append_assoc];refine List.nodup_append.2 ⟨h1,h.hnodup,fun z hz u hu e=> ?_⟩;subst e;refine h.hdisj (.m r) z ?_ hu;rw[k1,m2];simp only[List.mem_append,List.mem_cons]at hz⊢;rcases hz with(hz|hz|hz)|hz
        ·exact .inl hz
        ·exact .inr (.inl hz)
        ·exact .inr (.inr (.inr hz))
        ·exact .inr (.inr (.inl hz))
       ·intro e2 T2 f2 x2 b2 S2' hb2 hF2;rw[hg]at hb2;cases hb2;rw[k1]at hF2;obtain⟨rfl,_⟩:=List.cons.inj hF2;exact⟨_,_,_,rfl,rfl⟩
      ·cases hl
     ·cases hk
   ·rename_i k r p i q;obtain⟨_,hv⟩:=Ke h ht ho (by simp);split at hk
    ·rename_i T' f' x' hg;simp only[Osi]at hk;subst hk;simp only[Zrt]at hl;split at hl
     ·cases hl
     ·rename_i hb;simp only[Bool.or_eq_false_iff]at hb;split at hl
      ·rename_i e t l hlk;split at hl
       ·rename_i z hz;simp only[Osi,Sigma.mk.injEq]at hl;obtain⟨rfl,hl⟩:=hl;simp only[heq_eq_eq,Opi]at hl;obtain⟨rfl,rfl⟩:=hl;obtain⟨vs,S,g1,g2,g3⟩:=Qq7 h hv hb.1 hb.2 hlk hz;exact⟨_,S,vs,g1,by unfold rdF;exact g2,(h.takeM hg).hsub (g3.append (List.Sublist.refl _)),by simp,rfl⟩
       ·cases hl
      ·cases hl
    ·cases hk
   ·cases hk
 ·cases hk
theorem Zav(h:R n W0 w X F H s a){tg:Xi}(ht:tg.ok W0.gh a){x:Operand}{T:Ty}{t:Q0k}(hk:Zr1 s (op1 s tg x) T=some t):
  t.T=T/\ ∃F' S vs,a.eval x=Xt t.T vs/\rdF w X W0.B t.T t.f t.x vs S/\R n W0 w X F' (S++H) t.s a/\(t.moved=false->t.s=s/\F'=F/\S=[])/\t.f.live=true:=by
 unfold Zr1 at hk;split at hk
 ·rename_i v hv;split at hk
  ·rename_i y hy;simp only[Osi]at hk;subst hk;obtain rfl:=Zvu hv;obtain⟨vs,h1,h2⟩:=Zt6 (w:=w) (X:=X) (B:=W0.B) (own:=true) hy;exact⟨rfl,F,[],vs,h1,by unfold rdF;exact h2,h,fun _=>⟨rfl,rfl,rfl⟩,rfl⟩
  ·cases hk
 ·split at hk
  ·rename_i t' ht';split at hk
   ·rename_i e;simp only[Osi]at hk;subst hk;exact⟨e,Zv2 h ht ht'⟩
   ·cases hk
  ·cases hk
def St.isBox(s:St)(r:Nat):Prop:= ∃e T f x,s.get (.m r)= .box e T f x
theorem Q1w{o:Op1}{t:Q0k}(hk:Qeu s o=some t){r:Nat}(hb:s.isBox r):t.s.isBox r:=by
 obtain⟨e,T,f,x,hb⟩:=hb;have junk: ∀{k:Nat} {T' f' x'},s.get (.m k)= .val T' f' x'->(Y0 s k .junk).isBox r:=by
  intro k T' f' x' hk;have:k≠r:=fun he=>by subst he;rw[hb]at hk;cases hk
  exact⟨e,T,f,x,by rw[Yg];simp[this,hb]⟩
 unfold Qeu at hk;split at hk
 ·split at hk
  ·simp only[Osi]at hk;subst hk;exact⟨e,T,f,x,hb⟩
  ·split at hk
   ·split at hk
    ·rename_i hg;simp only[Osi]at hk;subst hk;exact junk hg
    ·cases hk
   ·rename_i k p _;split at hk
    ·rename_i hg;simp only[Osi]at hk;subst hk;exact junk hg
    ·simp only[Osi]at hk;subst hk;by_cases he:k=r
     ·subst he;exact⟨_,_,_,_,by rw[Yg,if_pos rfl]⟩
     ·exact⟨e,T,f,x,by rw[Yg];simp[he,hb]⟩
    ·cases hk
   ·split at hk
    ·rename_i hg;simp only[Osi]at hk;subst hk;exact junk hg
    ·cases hk
   ·cases hk
 ·cases hk
theorem Zoz{o:Op1}{T:Ty}{t:Q0k}(hk:Zr1 s o T=some t){r:Nat}(hb:s.isBox r):t.s.isBox r:=by
 unfold Zr1 at hk;split at hk
 ·split at hk
  ·simp only[Osi]at hk;subst hk;exact hb
  ·cases hk
 ·split at hk
  ·rename_i t' ht';split at hk
   ·simp only[Osi]at hk;subst hk;exact Q1w ht' hb
   ·cases hk
  ·cases hk
theorem R.boxIn(h:R n W0 w X F H s a){r b:Nat}(hb:s.isBox r)(hv:Qk W0.gh a (.m r)= .pointer (some ⟨b,0,none⟩)): ∃S,F (.m r)=b::S:=by
 obtain⟨e,T,f,x,hb⟩:=hb;have hs:=h.slots (.m r);rw[hb]at hs;obtain⟨b',c,S',h1,h2,_⟩:=hs;rw[hv]at h1;simp only[Value.pointer.injEq,Osi,Addr.mk.injEq,and_true]at h1;exact⟨S',by rw[h2,h1]⟩
end
def Wh:Ty->Fl->Fl->Bool|_,.d,.d=>true|_,.u true,.u true=>true|_,.u false,.u false=>true|T,.u _,.u _=>T.flat| .pair A B,.p f1 f2,.p g1 g2=>Wh A f1 g1&&Wh B f2 g2| .pair A B,.u b,.p g1 g2=>Wh A (.u b) g1&&Wh B (.u b) g2| .pair A B,.p f1 f2,.u b=>Wh A f1 (.u b)&&Wh B f2 (.u b)| .slice _ _,.p (.u true) (.u false),.p (.u true) (.u false)=>true|_,_,_=>false
section
variable {w:World} {X:Nat->Prop} {B:Nat}
theorem Zg4: ∀{T:Ty} {f g:Fl} {x:T.den} {vs:List Value} {S:List Nat},Wh T f g=true->rdF w X B T f x vs S->rdF w X B T g x vs S
 |T,.d,.d,_,_,_,_,h=>h
 |T,.u true,.u true,_,_,_,_,h=>h
 |T,.u false,.u false,_,_,_,_,h=>h
 |T,.u true,.u false,x,vs,S,hs,h=>by
  unfold rdF at h⊢;have hf:T.flat=true:=by simpa[Wh]using hs
  obtain⟨rfl,h2⟩:=Zco (X':=X) (own':=false) (w':=w) hf h;exact h2
 |T,.u false,.u true,x,vs,S,hs,h=>by
  unfold rdF at h⊢;have hf:T.flat=true:=by simpa[Wh]using hs
  obtain⟨rfl,h2⟩:=Zco (X':=X) (own':=true) (w':=w) hf h;exact h2
 | .pair A B,.p f1 f2,.p g1 g2,x,vs,S,hs,⟨v1,v2,S1,S2,e1,e2,h1,h2⟩=>by
  simp only[Wh,Oba]at hs;exact⟨v1,v2,S1,S2,e1,e2,Zg4 hs.1 h1,Zg4 hs.2 h2⟩
 | .pair A B,.u b,.p g1 g2,x,vs,S,hs,h=>by
  unfold rdF at h;obtain⟨v1,v2,S1,S2,e1,e2,h1,h2⟩:=h;simp only[Wh,Oba]at hs;exact⟨v1,v2,S1,S2,e1,e2,Zg4 hs.1 (by unfold rdF;exact h1),Zg4 hs.2 (by unfold rdF;exact h2)⟩
 | .pair A B,.p f1 f2,.u b,x,vs,S,hs,⟨v1,v2,S1,S2,e1,e2,h1,h2⟩=>by
  simp only[Wh,Oba]at hs;have k1:=Zg4 hs.1 h1;have k2:=Zg4 hs.2 h2;unfold rdF at k1 k2⊢;exact⟨v1,v2,S1,S2,e1,e2,k1,k2⟩
 |T,.d,.u _,_,_,_,hs,_=>by cases T<;>simp[Wh]at hs
 |T,.d,.p ..,_,_,_,hs,_=>by cases T<;>simp[Wh]at hs
 |T,.u b,.d,_,_,_,hs,_=>by cases T<;>cases b<;>simp[Wh]at hs
 |T,.p ..,.d,_,_,_,hs,_=>by cases T<;>simp[Wh]at hs
 | .unit,.p ..,.u _,_,_,_,hs,_| .int _,.p ..,.u _,_,_,_,hs,_| .bool,.p ..,.u _,_,_,_,hs,_| .fnc _,.p ..,.u _,_,_,_,hs,_| .str,.p ..,.u _,_,_,_,hs,_| .slice ..,.p ..,.u _,_,_,_,hs,_| .err,.p ..,.u _,_,_,_,hs,_| .hid _,.p ..,.u _,_,_,_,hs,_| .sptr ..,.p ..,.u _,_,_,_,hs,_| .clo ..,.p ..,.u _,_,_,_,hs,_| .arr ..,.p ..,.u _,_,_,_,hs,_=>by simp[Wh]at hs
 | .slice e t,.p f1 f2,.p g1 g2,_,_,_,hs,h=>by
  obtain⟨rfl,rfl,h2⟩:=Zfz h;cases g1 with
  |u b=>cases b with
   |true=>cases g2 with
    |u c=>cases c with
     |false=>exact h
     |true=>simp[Wh]at hs
    |p _ _=>simp[Wh]at hs
    |d=>simp[Wh]at hs
   |false=>simp[Wh]at hs
  |p _ _=>simp[Wh]at hs
  |d=>simp[Wh]at hs
 | .unit,.p ..,.p ..,_,_,_,hs,_| .int _,.p ..,.p ..,_,_,_,hs,_| .bool,.p ..,.p ..,_,_,_,hs,_| .fnc _,.p ..,.p ..,_,_,_,hs,_| .str,.p ..,.p ..,_,_,_,hs,_| .err,.p ..,.p ..,_,_,_,hs,_| .hid _,.p ..,.p ..,_,_,_,hs,_| .sptr ..,.p ..,.p ..,_,_,_,hs,_| .clo ..,.p ..,.p ..,_,_,_,hs,_| .arr ..,.p ..,.p ..,_,_,_,hs,_=>by simp[Wh]at hs
 | .unit,.u b,.p ..,_,_,_,hs,_| .int _,.u b,.p ..,_,_,_,hs,_| .bool,.u b,.p ..,_,_,_,hs,_| .fnc _,.u b,.p ..,_,_,_,hs,_| .str,.u b,.p ..,_,_,_,hs,_| .slice ..,.u b,.p ..,_,_,_,hs,_| .err,.u b,.p ..,_,_,_,hs,_| .hid _,.u b,.p ..,_,_,_,hs,_| .sptr ..,.u b,.p ..,_,_,_,hs,_| .clo ..,.u b,.p ..,_,_,_,hs,_| .arr ..,.u b,.p ..,_,_,_,hs,_=>by cases b<;>simp[Wh]at hs
theorem Qv5{T:Ty}{f g:Fl}{x:T.den}{vs:List Value}{S:List Nat}(hs:f=g\/Wh T f g=true)(h:rdF w X B T f x vs S):rdF w X B T g x vs S:=by
 rcases hs with rfl|hs
 ·exact h
 ·exact Zg4 hs h
end
end Go.Am
namespace Go.Am
open Go.RowKit
def Zry(P:Program)(e:TypeId)(T:Ty):Bool:=
 match P.info? e with
 |some i=>(Nat.beq i.size T.size&&T.plain)&&Nat.ble i.bytes 8192
 |none=>false
def Zku(P:Program):List Field->Ty->Nat->Bool| [],.unit,_=>true|f::fs,.pair a b,off=>Nat.beq f.offset off&&Zry P f.type a&&Nat.blt 0 a.size&&Zku P fs b (off+a.size)|_,_,_=>false
def Q2c(P:Program)(e:TypeId)(T:Ty):Bool:=
 match P.underlying e,T with
 |some (.struct _),.unit|some (.struct _),.pair .. |some (.array ..),.arr .. =>true
 |some (.struct _),_|some (.array ..),_=>false
 |some _,.unit|some _,.pair .. |some _,.arr .. =>false
 |some _,_=>true
 |none,_=>false
def Zpz(P:Program)(e:TypeId)(T:Ty):Bool:=
 Zry P e T&&match T with
  | .int k=>(match P.underlying e with|some (.int k')=>decide (k=k')|_=>false)
  | .bool=>(match P.underlying e with|some .bool=>true|_=>false)
  | .str=>(match P.underlying e with|some .string=>true|_=>false)
  | .slice e' t=>Nat.blt 0 t.size&& (match P.underlying e with|some (.slice e2)=>Nat.beq e' e2|_=>false)
  | .arr n t=>Nat.blt 0 t.size&& (match P.underlying e with|some (.array m e2)=>Nat.beq n m&& (Zry P e2 t&&Q2c P e2 t)|_=>false)
  |T=>(match P.underlying e with|some (.struct fs)=>Zku P fs.toList T 0|_=>false)
structure TOK(P:Program)(e:TypeId)(T:Ty):Prop where
 zero: (P.info? e).map (·.zero)=some (some (Xt T (Jy T)))
 shape:Zpz P e T=true
abbrev Tab:=TypeId->Option Ty
def Tab.ok(τ:Tab)(P:Program):Prop:= ∀e T,τ e=some T->TOK P e T
theorem Zln{P:Program}{e:TypeId}{T:Ty}(h:Zry P e T=true): ∃i,P.info? e=some i/\i.size=T.size/\i.bytes<=8192:=by
 unfold Zry at h;split at h
 ·rename_i i hi;simp only[Oba,Nat.ble_eq]at h;exact⟨i,hi,Onb h.1.1,h.2⟩
 ·cases h
section
variable {P:Program} {e:TypeId} {T:Ty}
theorem TOK.size(h:TOK P e T): ∃i,P.info? e=some i/\i.size=T.size/\i.bytes<=8192/\i.zero=some (Xt T (Jy T)):=by
 have h1:=h.shape;unfold Zpz at h1;rw[Oba]at h1;obtain⟨i,hi,hs,hb⟩:=Zln h1.1;have:=h.zero;rw[hi]at this;exact⟨i,hi,hs,hb,by simpa using this⟩
theorem TOK.plain(h:TOK P e T):T.plain=true:=by
 have h1:=h.shape;unfold Zpz at h1;rw[Oba]at h1;have h2:=h1.1;unfold Zry at h2;split at h2
 ·simp only[Oba]at h2;exact h2.1.2
 ·cases h2
theorem TOK.int{k:IntKind}(h:TOK P e (.int k)):P.underlying e=some (.int k):=by
 have h1:=h.shape;unfold Zpz at h1;rw[Oba]at h1;have h2:=h1.2;simp only at h2;split at h2
 ·rename_i k' hk;rw[hk];simp at h2;rw[h2]
 ·cases h2
theorem TOK.bool(h:TOK P e .bool):P.underlying e=some .bool:=by
 have h1:=h.shape;unfold Zpz at h1;rw[Oba]at h1;have h2:=h1.2;simp only at h2;split at h2
 ·assumption
 ·cases h2
theorem TOK.str(h:TOK P e .str):P.underlying e=some .string:=by
 have h1:=h.shape;unfold Zpz at h1;rw[Oba]at h1;have h2:=h1.2;simp only at h2;split at h2
 ·assumption
 ·cases h2
theorem TOK.slice{e':TypeId}{t:Ty}(h:TOK P e (.slice e' t)):P.underlying e=some (.slice e')/\0<t.size:=by
 have h1:=h.shape;unfold Zpz at h1;rw[Oba]at h1;have h2:=h1.2;simp only[Oba,Nat.blt_eq]at h2;refine⟨?_,h2.1⟩;have h2:=h2.2;split at h2
 ·rename_i e2 he;rw[he,Onb h2]
 ·cases h2
theorem TOK.arr'{n:Nat}{t:Ty}(h:TOK P e (.arr n t)):0<t.size/\ ∃e2,P.underlying e=some (.array n e2)/\Zry P e2 t=true/\Q2c P e2 t=true:=by
 have h1:=h.shape;unfold Zpz at h1;rw[Oba]at h1;have h2:=h1.2;simp only[Oba,Nat.blt_eq]at h2;refine⟨h2.1,?_⟩;have h2:=h2.2;split at h2
 ·rename_i m e2 he;simp only[Oba]at h2;exact⟨e2,by rw[he,Onb h2.1],h2.2⟩
 ·cases h2
theorem TOK.arr{n:Nat}{t:Ty}(h:TOK P e (.arr n t)):0<t.size/\ ∃e2,P.underlying e=some (.array n e2)/\Zry P e2 t=true:=
 let⟨h1,e2,h2,h3,_⟩:=h.arr';⟨h1,e2,h2,h3⟩
def Ty.isStruct:Ty->Bool| .unit| .pair .. =>true|_=>false
def Ty.isAgg:Ty->Bool| .unit| .pair .. | .arr .. =>true|_=>false
theorem TOK.struct(h:TOK P e T)(hs:T.isStruct=true): ∃fs,P.underlying e=some (.struct fs)/\Zku P fs.toList T 0=true:=by
 have h1:=h.shape;unfold Zpz at h1;rw[Oba]at h1;have h2:=h1.2;cases T<;>simp[Ty.isStruct]at hs<;>simp only at h2
 all_goals
  split at h2
  ·rename_i fs he;exact⟨fs,he,h2⟩
  ·cases h2
theorem Qu8: ∀{fs:List Field} {T:Ty} {off i:Nat} {U:Ty},Zku P fs T off=true->Zwt T i=some U->
  ∃f,fs[i]? =some f/\f.offset=off+Zd8 T i/\Zry P f.type U=true/\0<U.size:=by
 intro fs
 induction fs with
 |nil=>
  intro T off i U h hU;cases T<;>simp[Zku]at h
  simp[Zwt]at hU
 |cons f fs ih=>
  intro T off i U h hU;cases T<;>simp only[Zku]at h<;>first|cases h|skip
  rename_i a b;simp only[Oba,Nat.blt_eq]at h;obtain⟨⟨⟨h1,h2⟩,h3⟩,h4⟩:=h;cases i with
  |zero=>
   simp only[Zwt,Osi]at hU;subst hU;exact⟨f,rfl,by simp[Zd8,Onb h1],h2,h3⟩
  |succ i=>
   obtain⟨f',k1,k2,k3⟩:=ih h4 hU;exact⟨f',by simpa using k1,by rw[k2];simp[Zd8];omega,k3⟩
theorem TOK.nofnc{f:FuncId}(h:TOK P e (.fnc f)):False:=by
 have:=h.shape;unfold Zpz at this;simp only[Oba]at this;obtain⟨_,h2⟩:=this;split at h2
 ·rename_i fs _;cases hf:fs.toList<;>rw[hf]at h2<;>simp[Zku]at h2
 ·cases h2
theorem TOK.noerr(h:TOK P e .err):False:=by
 have:=h.shape;unfold Zpz at this;simp only[Oba]at this;obtain⟨_,h2⟩:=this;split at h2
 ·rename_i fs _;cases hf:fs.toList<;>rw[hf]at h2<;>simp[Zku]at h2
 ·cases h2
theorem TOK.nohid{t:Ty}(h:TOK P e (.hid t)):False:=by
 have:=h.shape;unfold Zpz at this;simp only[Oba]at this;obtain⟨_,h2⟩:=this;split at h2
 ·rename_i fs _;cases hf:fs.toList<;>rw[hf]at h2<;>simp[Zku]at h2
 ·cases h2
theorem TOK.nosptr{e2:TypeId}{t:Ty}(h:TOK P e (.sptr e2 t)):False:=by
 have:=h.shape;unfold Zpz at this;simp only[Oba]at this;obtain⟨_,h2⟩:=this;split at h2
 ·rename_i fs _;cases hf:fs.toList<;>rw[hf]at h2<;>simp[Zku]at h2
 ·cases h2
theorem TOK.noclo{f:FuncId}{t:Ty}(h:TOK P e (.clo f t)):False:=by
 have:=h.shape;unfold Zpz at this;simp only[Oba]at this;obtain⟨_,h2⟩:=this;split at h2
 ·rename_i fs _;cases hf:fs.toList<;>rw[hf]at h2<;>simp[Zku]at h2
 ·cases h2
theorem TOK.isAgg(h:TOK P e T)(w:World): (isAgg e).run P w= .ok T.isAgg w:=by
 cases T with
 |int k=>simp[Go.isAgg,run_underlying h.int,Ty.isAgg]
 |bool=>simp[Go.isAgg,run_underlying h.bool,Ty.isAgg]
 |str=>simp[Go.isAgg,run_underlying h.str,Ty.isAgg]
 |fnc f=>exact h.nofnc.elim
 |err=>exact h.noerr.elim
 |hid t=>exact h.nohid.elim
 |sptr e t=>exact h.nosptr.elim
 |clo f t=>exact h.noclo.elim
 |slice e' t=>simp[Go.isAgg,run_underlying h.slice.1,Ty.isAgg]
 |arr n t=>obtain⟨_,e2,he,_⟩:=h.arr;simp[Go.isAgg,run_underlying he,Ty.isAgg]
 |unit=>obtain⟨fs,he,_⟩:=h.struct rfl;simp[Go.isAgg,run_underlying he,Ty.isAgg]
 |pair a b=>obtain⟨fs,he,_⟩:=h.struct rfl;simp[Go.isAgg,run_underlying he,Ty.isAgg]
theorem Q2d(h:Q2c P e T=true)(w:World): (Go.isAgg e).run P w= .ok T.isAgg w:=by
 unfold Q2c at h;cases hu:P.underlying e with
 |none=>rw[hu]at h;cases T<;>simp at h
 |some d=>
  rw[hu]at h;cases d<;>cases T<;>simp at h<;>simp[Go.isAgg,run_underlying hu,Ty.isAgg]
theorem TOK.sizeOf(h:TOK P e T)(w:World): (sizeOf e).run P w= .ok T.size w:=by
 obtain⟨i,hi,hs,_⟩:=h.size;simp[Go.sizeOf,typeInfo,hi,hs]
theorem Qd6(h:T.isAgg=false):T.size=1:=by cases T<;>simp[Ty.isAgg]at h<;>rfl
theorem TOK.load(h:TOK P e T){w:World}{ad:Addr}{vs:List Value}(hl:vs.length=T.size)(hc: ∀j u,vs[j]? =some u->w.cell? (ad.add j)=some u):
  (loadVar e ad).run P w= .ok (Xt T vs) w:=by
 unfold loadVar;simp only[Sem.run_bind,h.isAgg w,Result.andThen_ok];cases ha:T.isAgg
 ·have h1:=Qd6 ha;rw[h1]at hl;obtain⟨v,rfl⟩:=List.length_eq_one_iff.1 hl;have:=hc 0 v rfl;simp only[Addr.add_zero']at this;have hp:Xt T [v]=v:=by cases T<;>simp[Ty.isAgg]at ha<;>rfl
  simp[this,hp]
 ·simp only[if_true,Sem.run_bind,h.sizeOf w,Result.andThen_ok];have:=run_loadCells_list (P:=P) (w:=w) ad vs hc;rw[hl]at this;rw[this];cases T<;>simp[Ty.isAgg]at ha<;>rfl
theorem Zza{vs:List Value}(h1: ∀u∈vs,u.oneCell'=true)(hl:vs.length=T.size): (Xt T vs).cells.toList=vs:=by
 cases ha:T.isAgg
 ·rw[Qd6 ha]at hl;obtain⟨v,rfl⟩:=List.length_eq_one_iff.1 hl;have hp:Xt T [v]=v:=by cases T<;>simp[Ty.isAgg]at ha<;>rfl
  rw[hp];have:=h1 v (by simp);cases v<;>simp[Value.oneCell']at this<;>rfl
 ·cases T<;>simp[Ty.isAgg]at ha<;>simp[Xt,Value.cells]
end
abbrev Ob:=Option Prop
def Ob.ok:Ob->Prop|none=>True|some p=>p
structure Res where
 t:Tm
 s:St
 moved:Bool
 obl:Ob
def Old(w w':World):Prop:= ∀k,k<w.heap.size->w'.heap[k]? =w.heap[k]?
theorem Old.refl(w:World):Old w w:=fun _ _=>rfl
theorem Old.cell{w w':World}(h:Old w w'){ad:Addr}{u:Value}(hc:w.cell? ad=some u):w'.cell? ad=some u:=by
 have hb:ad.block<w.heap.size:=by
  unfold World.cell? at hc;cases hk:w.heap[ad.block]? with
  |none=>rw[hk]at hc;cases hc
  |some o=>exact(Array.getElem?_eq_some_iff.1 hk).1
 rw[World.cell?_of_block (w:=w) (h _ hb)];exact hc
theorem Old.alloc(w:World)(ob:Obj):Old w (w.alloc ob):=fun k hk=>by
 show(w.heap.push ob)[k]? =w.heap[k]?;rw[Array.getElem?_push,if_neg (Nat.ne_of_lt hk)]
def Qi7(gh:Nat->Value)(X:Nat->Prop)(s:St)(a:Act)(tgt:Option Nat)(w w':World):Prop:=∀b,(X b\/ ∃r,s.isBox r/\tgt≠some r/\Qk gh a (.m r)= .pointer (some ⟨b,0,none⟩))->w'.heap[b]? =w.heap[b]?
theorem R.kept{g:Kr}{n:Nat}{W0:Wz g}{w w':World}{X:Nat->Prop}{F:Key->List Nat}{H:List Nat}{s:St}{a:Act}(h:R n W0 w X F H s a)(ho:Old w w'){tgt:Option Nat}:Qi7 W0.gh X s a tgt w w':=fun b hb=>ho b (by
 rcases hb with hb| ⟨r,h1,_,h2⟩
 ·exact h.xlt b hb
 ·obtain⟨S,h3⟩:=h.boxIn h1 h2;exact(h.own (.m r) b (by rw[h3];simp)).2.1)
def Qx4:Op->Bool| .store .. =>false| .call {callee:= .builtin .append,..}=>false|_=>true
def Zo2(P:Program){g:Kr}(n:Nat)(W0:Wz g)(w:World)(X:Nat->Prop)(H:List Nat)(s:St)(a:Act)(o:Oper)(r:Res):Prop:=r.obl.ok-> ∀(K:Act->World->Prop) (Q:Exit->Act->World->Prop),(∀v X' F' S w',(∀b,X b->X' b)->R n W0 w' X' F' (S++H) r.s a->vt W0.gh w' X' W0.B r.s F' a v S r.t->(r.moved=false->r.s=s)->(Qx4 o.op=true->Old w w')/\Qi7 W0.gh X s a none w w'->K (a.put o.dst v) w')->o.wp P a w K Q
section
variable {P:Program} {g:Kr} {W0:Wz g} {w w':World} {X X':Nat->Prop} {B n:Nat} {own:Bool} {s:St} {F:Key->List Nat} {a:Act} {H:List Nat} {o:Oper} {tg:Xi} {τ:Tab} {gh:Nat->Value}
def Q37(τ:Tab):Op->Bool
 | .load .. =>true
 | .convert e _ _=>match τ e with|some (.slice _ _)=>true|_=>false
 |_=>false
def Zva(s:St):Op->Option (Option Nat)
 | .load _ (.tmp k)=>
  let rec go:Tm->Option (Option Nat)
   | .ptr r _=>some (some r)
   | .aep r _ _=>some (some r)
   | .pls _ _=>some none
   | .shp _ _=>some none
   | .gd _ _ t=>go t
   | .box _ _ _ _=>some (some k)
   |_=>none
  go (s.get (.m k))
 |_=>none
theorem Zk8{s:St}{tg:Xi}{e:TypeId}{k k':Nat}{t:Tm}(h:op1 s tg (.tmp k)= .tm k' t)(hj:t≠ .junk):Zva s (.load e (.tmp k))=Zva.go k t:=by
 obtain⟨e,_,h⟩:=Zli h;cases e;have h:=h.symm;simp only[Zva];cases hg:s.get (.m k)<;>rw[hg]at h<;>simp only[Zv1]at h<;>first| (subst h;rfl)|skip
 split at h
 ·exact absurd h.symm hj
 ·split at h
  ·subst h;rfl
  ·exact absurd h.symm hj
def Dep(gh:Nat->Value)(τ:Tab)(X:Nat->Prop)(s:St)(a:Act)(o:Oper)(w w':World):Prop:=Q37 τ o.op=true->match Zva s o.op with
 |some (some r)=> ∀b,b<w.heap.size->Qk gh a (.m r)= .pointer (some ⟨b,0,none⟩)->w'.heap[b]? =w.heap[b]?
 |some none=> ∀b,b<w.heap.size->X b->w'.heap[b]? =w.heap[b]?
 |none=>Old w w'
theorem Dep.refl(gh:Nat->Value)(τ:Tab)(X:Nat->Prop)(s:St)(a:Act)(o:Oper)(w:World):Dep gh τ X s a o w w:=by
 intro _;split
 ·exact fun _ _ _=>rfl
 ·exact fun _ _ _=>rfl
 ·exact Old.refl w
def Zaw(P:Program)(τ:Tab){g:Kr}(W0:Wz g)(w:World)(X:Nat->Prop)(F:Key->List Nat)(s:St)(a:Act)(o:Oper)(r:Res):Prop:=r.s=s/\(r.obl.ok-> ∃v,(∀w',Dep W0.gh τ X s a o w w'->(execOp a.eval o).run P w'= .ok (.value v) w')/\vt W0.gh w X W0.B s F a v [] r.t)
theorem Yi{r:Res}(hs:r.s=s)(hr:r.obl.ok-> ∃v,(∀w',Dep W0.gh τ X s a o w w'->(execOp a.eval o).run P w'= .ok (.value v) w')/\vt W0.gh w X W0.B s F a v [] r.t):Zaw P τ W0 w X F s a o r:=⟨hs,hr⟩
theorem Zok{r:Res}(h:R n W0 w X F H s a)(hs:r.s=s)(hr:r.obl.ok-> ∃v,(execOp a.eval o).run P w= .ok (.value v) w/\vt W0.gh w X W0.B s F a v [] r.t):Zo2 P n W0 w X H s a o r:=by
 intro hobl K Q hK;obtain⟨v,h1,h2⟩:=hr hobl;unfold Oper.wp;rw[h1];exact hK v X F [] w (fun _ h=>h) (by rw[hs];exact h) (by rw[hs];exact h2) (fun _=>hs) ⟨fun _=>Old.refl w,h.kept (Old.refl w)⟩
theorem Zaw.sound{r:Res}(hp:Zaw P τ W0 w X F s a o r)(h:R n W0 w X F H s a):Zo2 P n W0 w X H s a o r:=Zok h hp.1 fun ho=>let⟨v,h1,h2⟩:=hp.2 ho;⟨v,h1 w (Dep.refl _ _ _ _ _ _ w),h2⟩
def Z4b(s:St)(k:Nat)(t:Tm):Option Res:=
 match t with
 | .val T f x=>match f.live,Zmu f T with
  |true,true=>some ⟨.val T f x,s,false,none⟩
  |true,false=>match s.get (.m k)with
   | .val _ _ _=>some ⟨.bor k [],s,false,none⟩
   |_=>none
  |_,_=>none
 | .box _ _ _ _=>match s.get (.m k)with
  | .box _ _ _ _=>some ⟨.ptr k [],s,false,none⟩
  |_=>none
 | .ptr r p=>some ⟨.ptr r p,s,false,none⟩
 | .shp T x=>some ⟨.shp T x,s,false,none⟩
 | .bor r p=>some ⟨.bor r p,s,false,none⟩
 | .elp r p i q=>some ⟨.elp r p i q,s,false,none⟩
 | .aep r p i=>some ⟨.aep r p i,s,false,none⟩
 | .pls h l=>some ⟨.pls h l,s,false,none⟩
 | .bel r p i q=>some ⟨.bel r p i q,s,false,none⟩
 | .cl f l=>some ⟨.cl f l,s,false,none⟩
 |_=>none
def Q3v:Value->Bool| .pointer none=>true|_=>false
def Qsv(τ:Tab)(s:St)(e:TypeId)(v:Value):Option Res:=
 match Q3v v with
 |true=>some ⟨.junk,s,false,none⟩
 |false=>match τ e with
  |some T=>match Z4r T v with
   |some x=>some ⟨.val T (.u true) x,s,false,none⟩
   |none=>none
  |none=>none
theorem Zyd{e:TypeId}{v:Value}{r:Res}(hr:Qsv τ s e v=some r):r.s=s/\vt gh w X B s F a v [] r.t:=by
 unfold Qsv at hr;split at hr
 ·simp only[Osi]at hr;subst hr;exact⟨rfl,rfl⟩
 ·split at hr
  ·split at hr
   ·rename_i T _ x hx;simp only[Osi]at hr;subst hr;obtain⟨vs,h1,h2⟩:=Zt6 (w:=w) (X:=X) (B:=B) (own:=true) hx;exact⟨rfl,vs,h1,by unfold rdF;exact h2⟩
   ·cases hr
  ·cases hr
theorem Qwu(_h:R n W0 w X F H s a){k:Nat}{T:Ty}{f:Fl}{x:T.den}(hg:s.get (.m k)= .val T f x):Xb W0.gh w s F a k [] (Qk W0.gh a (.m k)) T:=by
 unfold Xb;rw[hg];exact⟨rfl,rfl,rfl⟩
theorem Zqw(h:R n W0 w X F H s a)(ht:tg.ok W0.gh a){x:Operand}{k:Nat}{t:Tm}(hx:op1 s tg x= .tm k t){r:Res}(hr:Z4b s k t=some r):
  r.s=s/\vt W0.gh w X W0.B s F a (a.eval x) [] r.t:=by
 have hj:t≠ .junk:=by intro e;subst e;simp[Z4b]at hr
 obtain⟨rfl,hv⟩:=Ke h ht hx hj;unfold Z4b at hr;split at hr
 ·rename_i T f y;split at hr
  ·rename_i _ _ hn;simp only[Osi]at hr;subst hr;obtain⟨vs,h1,h2⟩:=hv;have:=Zh5 hn h2;rw[this]at h2;exact⟨rfl,vs,h1,h2⟩
  ·split at hr
   ·rename_i hg;simp only[Osi]at hr;subst hr;exact⟨rfl,rfl,fun _=>⟨_,(Yh W0 a (Zli hx).2.1)▸Qwu h hg⟩⟩
   ·cases hr
  ·cases hr
 ·rename_i e T f y;split at hr
  ·rename_i e' T' f' y' hg;simp only[Osi]at hr;subst hr;have hx:=(Zli hx).2.2;simp only[hg,Zv1]at hx;cases hx;obtain⟨b,c,S,h1,h2,h3,h4⟩:=hv;exact⟨rfl,rfl,_,_,_,_,b,S,hg,h2,h1⟩
  ·cases hr
 ·simp only[Osi]at hr;subst hr;exact⟨rfl,hv.1▸hv⟩
 ·simp only[Osi]at hr;subst hr;exact⟨rfl,hv.1▸hv⟩
 ·simp only[Osi]at hr;subst hr;exact⟨rfl,hv.1▸hv⟩
 ·simp only[Osi]at hr;subst hr;exact⟨rfl,hv.1▸hv⟩
 ·simp only[Osi]at hr;subst hr;exact⟨rfl,hv.1▸hv⟩
 ·simp only[Osi]at hr;subst hr;exact⟨rfl,hv.1▸hv⟩
 ·simp only[Osi]at hr;subst hr;exact⟨rfl,hv.1▸hv⟩
 ·simp only[Osi]at hr;subst hr;exact⟨rfl,hv.1▸hv⟩
 ·cases hr
def Zy3(τ:Tab)(s:St)(tg:Xi)(e:TypeId)(x:Operand):Option Res:=
 match op1 s tg x with
 | .cst v=>Qsv τ s e v
 | .fn f=>some ⟨.val (.fnc f) (.u true) (),s,false,none⟩
 | .tm k t=>Z4b s k t
 |_=>none
theorem Quo(f:FuncId):vt gh w X B s F a (.func (.func f) #[] #[]) [] (.val (.fnc f) (.u own) ()):=⟨[_],rfl,by unfold rdF;exact⟨rfl,rfl⟩⟩
theorem Q4a(h:R n W0 w X F H s a)(ht:tg.ok W0.gh a){e:TypeId}{x:Operand}{r:Res}(hr:Zy3 τ s tg e x=some r):r.s=s/\vt W0.gh w X W0.B s F a (a.eval x) [] r.t:=by
 unfold Zy3 at hr;split at hr
 ·rename_i v hv;obtain rfl:=Zvu hv;exact Zyd hr
 ·rename_i f hv;obtain rfl:=Qt2 hv;simp only[Osi]at hr;subst hr;exact⟨rfl,Quo f⟩
 ·rename_i k t hx;exact Zqw h ht hx hr
 ·cases hr
theorem Zwe(h:R n W0 w X F H s a)(ht:tg.ok W0.gh a){x:Operand}(ho:o.op= .move x){r:Res}(hr:Zy3 τ s tg o.type x=some r):Zaw P τ W0 w X F s a o r:=by
 have key:=Q4a h ht hr;exact Yi key.1 fun _=>⟨_,fun w' _=>by simp[execOp,ho],key.2⟩
def Ztl(τ:Tab)(s:St)(tg:Xi)(e:TypeId)(x:Operand):Option Res:=
 match op1 s tg x with
 | .cst v=>Qsv τ s e v
 | .fn f=>some ⟨.val (.fnc f) (.u true) (),s,false,none⟩
 | .tm k t=>match t with
  | .val _ _ _| .bor _ _=>match Qeu s (.tm k t)with
   |some u=>some ⟨.val u.T u.f u.x,u.s,u.moved,none⟩
   |none=>none
  |_=>Z4b s k t
 |_=>none
theorem Qi9(h:R n W0 w X F H s a)(ht:tg.ok W0.gh a){x:Operand}(ho:o.op= .assign x){r:Res}(hr:Ztl τ s tg o.type x=some r):Zo2 P n W0 w X H s a o r:=by
 unfold Ztl at hr;have take: ∀{k t u},op1 s tg x= .tm k t->Qeu s (.tm k t)=some u->Zo2 P n W0 w X H s a o ⟨.val u.T u.f u.x,u.s,u.moved,none⟩:=by
  intro k t u hx hu;rw[<-hx]at hu;obtain⟨F',S,vs,h1,h2,h3,h4,_⟩:=Zv2 h ht hu;intro _ K Q hK;unfold Oper.wp;simp only[execOp,ho,Sem.run_pure];exact hK _ X F' S w (fun _ h=>h) h3 ⟨vs,h1,h2⟩ (fun hm=>(h4 hm).1) ⟨fun _=>Old.refl w,h.kept (Old.refl w)⟩
 split at hr
 ·rename_i v hv;obtain rfl:=Zvu hv;obtain⟨h1,h2⟩:=Zyd (w:=w) (X:=X) (B:=W0.B) (s:=s) (F:=F) (a:=a) hr;exact Zok h h1 fun _=>⟨_,by simp[execOp,ho,Act.eval],h2⟩
 ·rename_i f hv;obtain rfl:=Qt2 hv;simp only[Osi]at hr;subst hr;exact Zok h rfl fun _=>⟨_,by simp[execOp,ho,Act.eval],Quo f⟩
 ·rename_i k t hx;split at hr
  ·split at hr
   ·rename_i u hu;simp only[Osi]at hr;subst hr;exact take hx hu
   ·cases hr
  ·split at hr
   ·rename_i u hu;simp only[Osi]at hr;subst hr;exact take hx hu
   ·cases hr
  ·obtain⟨h1,h2⟩:=Zqw h ht hx hr;exact Zok h h1 fun _=>⟨_,by simp[execOp,ho],h2⟩
 ·cases hr
def Qll(τ:Tab)(s:St)(tg:Xi)(e:TypeId)(c x y:Operand):Option Res:=
 match τ e,c with
 |some T,.tmp k=>match T.flat,Zaa s (op1 s tg c) .bool,Zaa s (op1 s ((k,true)::tg) x) T,Zaa s (op1 s ((k,false)::tg) y) T with
  |true,some b,some u,some v=>some ⟨.val T (.u false) (match b with|true=>u|false=>v),s,false,none⟩
  |_,_,_,_=>none
 |_,_=>none
theorem Z67(h:R n W0 w X F H s a)(ht:tg.ok W0.gh a){c x y:Operand}(ho:o.op= .pick c x y){r:Res}(hr:Qll τ s tg o.type c x y=some r):Zaw P τ W0 w X F s a o r:=by
 unfold Qll at hr;split at hr
 ·rename_i T k _;split at hr
  ·rename_i b u v hT hb hu hv;simp only[Osi]at hr;subst hr;refine Yi rfl fun _=> ?_;obtain⟨vs,h1,h2⟩:=Wl h ht hb;obtain⟨rfl,_⟩:=h2;have hc:Qk W0.gh a (.m k)= .bool b:=(Yh W0 a (Zxp hb)).trans h1;have hok:Xi.ok ((k,b)::tg) W0.gh a:=fun p hp=>by
    rcases List.mem_cons.1 hp with rfl|hp
    ·exact hc
    ·exact ht p hp
   cases b
   ·obtain⟨vs,k1,k2⟩:=Wl h hok hv;exact⟨_,fun w' _=>by simp[execOp,ho,h1,Xt,k1,asBool],vs,rfl,by unfold rdF;exact(Zco hT k2).2⟩
   ·obtain⟨vs,k1,k2⟩:=Wl h hok hu;exact⟨_,fun w' _=>by simp[execOp,ho,h1,Xt,k1,asBool],vs,rfl,by unfold rdF;exact(Zco hT k2).2⟩
  ·cases hr
 ·cases hr
def Zqi:Nat:=4611686018427387904
def Qo:Nat:=17179869184
def Q3t(op:BinOp)(k:IntKind)(x y:Int):Option (TV×Ob):=
 match op with
 | .add=>some (⟨.int k,k.wrap (x+y)⟩,none)
 | .sub=>some (⟨.int k,k.wrap (x-y)⟩,none)
 | .mul=>some (⟨.int k,k.wrap (x*y)⟩,none)
 | .quo=>some (⟨.int k,k.wrap (x.tdiv y)⟩,some (y≠0))
 | .rem=>some (⟨.int k,x.tmod y⟩,some (y≠0))
 | .and=>some (⟨.int k,bits .and k x y⟩,none)
 | .or=>some (⟨.int k,bits .or k x y⟩,none)
 | .xor=>some (⟨.int k,bits .xor k x y⟩,none)
 | .andNot=>some (⟨.int k,bits .andNot k x y⟩,none)
 | .eql=>some (⟨.bool,x==y⟩,none)
 | .neq=>some (⟨.bool,x !=y⟩,none)
 | .lss=>some (⟨.bool,decide (x<y)⟩,none)
 | .leq=>some (⟨.bool,decide (x<=y)⟩,none)
 | .gtr=>some (⟨.bool,decide (x>y)⟩,none)
 | .geq=>some (⟨.bool,decide (x>=y)⟩,none)
 |_=>none
def Q4x(op:BinOp)(x y:List UInt8):Option (TV×Ob):=
 match op with
 | .add=>some (⟨.str,x++y⟩,some (x.length+y.length<=Zqi))
 | .eql=>some (⟨.bool,x==y⟩,none)
 | .neq=>some (⟨.bool,!(x==y)⟩,none)
 | .lss=>some (⟨.bool,Op.bytesLess x y⟩,none)
 | .leq=>some (⟨.bool,Op.bytesLess x y||x==y⟩,none)
 | .gtr=>some (⟨.bool,!(Op.bytesLess x y||x==y)⟩,none)
 | .geq=>some (⟨.bool,!(Op.bytesLess x y)⟩,none)
 |_=>none
def Qy1(op:BinOp)(x y:Bool):Option (TV×Ob):=
 match op with
 | .eql=>some (⟨.bool,x==y⟩,none)
 | .neq=>some (⟨.bool,!(x==y)⟩,none)
 |_=>none
def Qwh(op:BinOp)(k:IntKind)(x y:Int):Option (TV×Ob):=
 match op with
 | .shl=>some (⟨.int k,k.wrap (x*2^ (min y.toNat k.bits))⟩,some (0<=y))
 | .shr=>some (⟨.int k,x.fdiv (2^ (min y.toNat k.bits))⟩,some (0<=y))
 |_=>none
def BinOp.isShift:BinOp->Bool| .shl| .shr=>true|_=>false
def Qsq(τ:Tab)(s:St)(tg:Xi)(op:BinOp)(e:TypeId)(x y:Operand)(e2:TypeId):Option Res:=
 match τ e with
 |some (.int k)=>match BinOp.isShift op with
  |true=>match τ e2 with
   |some (.int k2)=>match Zaa s (op1 s tg x) (.int k),Zaa s (op1 s tg y) (.int k2)with
    |some u,some v=>match Qwh op k u v with
     |some (z,p)=>some ⟨.val z.1 (.u false) z.2,s,false,p⟩
     |none=>none
    |_,_=>none
   |_=>none
  |false=>match Zaa s (op1 s tg x) (.int k),Zaa s (op1 s tg y) (.int k)with
   |some u,some v=>match Q3t op k u v with
    |some (z,p)=>some ⟨.val z.1 (.u false) z.2,s,false,p⟩
    |none=>none
   |_,_=>none
 |some .str=>match Zaa s (op1 s tg x) .str,Zaa s (op1 s tg y) .str with
  |some u,some v=>match Q4x op u v with
   |some (z,p)=>some ⟨.val z.1 (.u false) z.2,s,false,p⟩
   |none=>none
  |_,_=>none
 |some .bool=>match Zaa s (op1 s tg x) .bool,Zaa s (op1 s tg y) .bool with
  |some u,some v=>match Qy1 op u v with
   |some (z,p)=>some ⟨.val z.1 (.u false) z.2,s,false,p⟩
   |none=>none
  |_,_=>none
 |_=>none
theorem Zwm(k:IntKind)(x:Int):vt gh w X B s F a (.int k x) [] (.val (.int k) (.u own) x):=⟨[.int k x],rfl,by unfold rdF;exact⟨rfl,rfl⟩⟩
theorem Zrf(x:Bool):vt gh w X B s F a (.bool x) [] (.val .bool (.u own) x):=⟨[.bool x],rfl,by unfold rdF;exact⟨rfl,rfl⟩⟩
theorem Qup(x:List UInt8):vt gh w X B s F a (.string ⟨⟨x⟩⟩) [] (.val .str (.u own) x):=⟨[.string ⟨⟨x⟩⟩],rfl,by unfold rdF;exact⟨rfl,rfl⟩⟩
theorem Zos(h:R n W0 w X F H s a)(ht:tg.ok W0.gh a){x:Operand}{k:IntKind}{y:Int}(hr:Zaa s (op1 s tg x) (.int k)=some y):a.eval x= .int k y:=by
 obtain⟨vs,h1,h2,_⟩:=Wl h ht hr;rw[h1,h2];rfl
theorem Zjg(h:R n W0 w X F H s a)(ht:tg.ok W0.gh a){x:Operand}{y:Bool}(hr:Zaa s (op1 s tg x) .bool=some y):a.eval x= .bool y:=by
 obtain⟨vs,h1,h2,_⟩:=Wl h ht hr;rw[h1,h2];rfl
theorem Zto(h:R n W0 w X F H s a)(ht:tg.ok W0.gh a){x:Operand}{y:List UInt8}(hr:Zaa s (op1 s tg x) .str=some y):a.eval x= .string ⟨⟨y⟩⟩:=by
 obtain⟨vs,h1,h2,_⟩:=Wl h ht hr;rw[h1,h2];rfl
theorem Qym(x y:List UInt8): (ByteArray.mk ⟨x⟩)++ (ByteArray.mk ⟨y⟩)=ByteArray.mk ⟨x++y⟩:=by
 apply ByteArray.ext;simp
theorem Qao(h:R n W0 w X F H s a)(ht:tg.ok W0.gh a)(hτ:τ.ok P){op:BinOp}{e e2:TypeId}{x y:Operand}(ho:o.op= .binOp op e x y e2){r:Res}(hr:Qsq τ s tg op e x y e2=some r):
  Zaw P τ W0 w X F s a o r:=by
 unfold Qsq at hr;split at hr
 ·rename_i k hT;split at hr
  ·split at hr
   ·split at hr
    ·rename_i k2 _ _ _ u v hu hv;split at hr
     ·rename_i z p hz;simp only[Osi]at hr;subst hr;refine Yi rfl fun hp=> ?_;have e1:=Zos h ht hu;have e2:=Zos h ht hv;cases op<;>simp only[Qwh]at hz<;>first|cases hz|skip
      all_goals
       have hn: ¬v<0:=Int.not_lt.mpr (show(0:Int)<=v from hp)
       (refine⟨_,fun w' _=> ?_,Zwm _ _⟩;simp only[execOp,ho,e1,e2];simp[go_sem,Op.shift,hn])
     ·cases hr
    ·cases hr
   ·cases hr
  ·split at hr
   ·rename_i u v hu hv;split at hr
    ·rename_i z p hz;simp only[Osi]at hr;subst hr;refine Yi rfl fun hp=> ?_;have e1:=Zos h ht hu;have e2:=Zos h ht hv;cases op<;>simp only[Q3t]at hz<;>first|cases hz|skip
     all_goals first
      | (refine⟨_,fun w' _=> ?_,Zwm _ _⟩;simp only[execOp,ho,e1,e2];simp[go_sem,Op.intArith];done)
      | (refine⟨_,fun w' _=> ?_,Zrf _⟩;simp only[execOp,ho,e1,e2];first| (simp[go_sem];done)| (simp[go_sem,binOp,Op.stringOp];done))
      | (have hp:v≠0:=hp;refine⟨_,fun w' _=> ?_,Zwm _ _⟩;simp only[execOp,ho,e1,e2];simp[go_sem,Op.intDiv,hp])
    ·cases hr
   ·cases hr
 ·split at hr
  ·rename_i u v hu hv;split at hr
   ·rename_i z p hz;simp only[Osi]at hr;subst hr;refine Yi rfl fun hp=> ?_;have e1:=Zto h ht hu;have e2:=Zto h ht hv;cases op<;>simp only[Q4x]at hz<;>first|cases hz|skip
    ·refine⟨.string ⟨⟨u++v⟩⟩,fun w' _=> ?_,Qup _⟩;have hp:u.length+v.length<=Zqi:=hp;unfold Zqi at hp;simp only[execOp,ho,e1,e2];simp[go_sem,binOp,Op.stringOp,Qym];have:IntKind.i64.max=9223372036854775807:=rfl;omega
    all_goals (refine⟨_,fun w' _=> ?_,Zrf _⟩;simp only[execOp,ho,e1,e2];first| (simp[go_sem];done)| (simp[go_sem,binOp,Op.stringOp];done))
   ·cases hr
  ·cases hr
 ·rename_i hT;split at hr
  ·rename_i u v hu hv;split at hr
   ·rename_i z p hz;simp only[Osi]at hr;subst hr;refine Yi rfl fun hp=> ?_;have e1:=Zjg h ht hu;have e2:=Zjg h ht hv;have hb:=(hτ _ _ hT).bool;cases op<;>simp only[Qy1]at hz<;>first|cases hz|skip
    all_goals (refine⟨_,fun w' _=> ?_,Zrf _⟩;simp only[execOp,ho,e1,e2];simp[go_sem,binOp,run_equal_bool w' e u v hb])
   ·cases hr
  ·cases hr
 ·cases hr
end
end Go.Am
namespace Go.Am
open Go.RowKit
section
variable {P:Program} {g:Kr} {W0:Wz g} {w w':World} {X X':Nat->Prop} {B n:Nat} {own:Bool} {s:St} {F:Key->List Nat} {a:Act} {H:List Nat} {o:Oper} {tg:Xi} {τ:Tab} {gh:Nat->Value}
theorem Z9u(h:R n W0 w X F H s a){k r:Nat}{p:List Nat}{T:Ty}{f:Fl}{y:T.den}(hl:Zrt s (.tm k (.bor r p))=some ⟨T,f,y⟩){v:Value}{U:Ty}(hU:Xb W0.gh w s F a r p v U):
  s.bad r p=false/\T=U/\f.live=true/\ ∃vs S,v=Xt T vs/\rdF w X W0.B T f y vs S/\(∀b∈S,b∈F (.m r)):=by
 simp only[Zrt]at hl;split at hl
 ·cases hl
 ·rename_i hfoul;refine⟨hfoul,?_⟩;unfold Xb at hU;have hs:=h.slots (.m r);split at hl
  ·rename_i T' f' x' hg;rw[hg]at hU hs;obtain⟨rfl,rfl,hv⟩:=hU;split at hl
   ·rename_i hf;simp only[Osi,Sigma.mk.injEq]at hl;obtain⟨rfl,hl⟩:=hl;simp only[heq_eq_eq,Opi]at hl;obtain⟨rfl,rfl⟩:=hl;obtain⟨vs,k1,k2⟩:=hs;exact⟨rfl,hf,vs,_,hv.trans k1,k2,fun b hb=>hb⟩
   ·cases hl
  ·rename_i e T' f' x' hg;rw[hg]at hU hs;obtain⟨b,c,S,y',k1,k2,k3,k4,k5⟩:=hU;obtain⟨b',c',S',l1,l2,l3,l4⟩:=hs;rw[k1]at l2;obtain⟨rfl,rfl⟩:=List.cons.inj l2;rw[k2]at l3;simp only[Osi,Obj.cells.injEq]at l3;obtain⟨rfl,_⟩:=l3;rw[k3]at hl;simp only at hl;split at hl
   ·rename_i hf;simp only[Osi,Sigma.mk.injEq]at hl;obtain⟨rfl,hl⟩:=hl;simp only[heq_eq_eq,Opi]at hl;obtain⟨rfl,rfl⟩:=hl;obtain⟨pre,mid,post,S1,S2,S3,m1,m2,m3,m4,_⟩:=Zeg k3 l4;refine⟨k4.symm,hf,mid,S2,?_,m4,fun b' hb'=>by rw[k1,m2];simp[hb']⟩;rw[k5,Zx5 m1 m3 (Xx m4)]
   ·cases hl
  ·cases hl
def Zpw(s:St)(x:Op1):Option (IntKind×Int):=
 match x with
 | .cst (.int k n)=>some (k,n)
 | .cst _=>none
 |x=>match Zrt s x with
  |some ⟨.int k,_,n⟩=>some (k,n)
  |_=>none
theorem Zds(h:R n W0 w X F H s a)(ht:tg.ok W0.gh a){x:Operand}{k:IntKind}{y:Int}(hr:Zpw s (op1 s tg x)=some (k,y)):a.eval x= .int k y:=by
 unfold Zpw at hr;split at hr
 ·rename_i v hv;simp only[Osi,Opi]at hr;obtain⟨rfl,rfl⟩:=hr;obtain rfl:=Zvu hv;rfl
 ·cases hr
 ·split at hr
  ·rename_i k' f y' hl;simp only[Osi,Opi]at hr;obtain⟨rfl,rfl⟩:=hr;obtain⟨_,vs,S,h1,h2,_⟩:=Zee h ht hl;cases f with
   |u b=>unfold rdF at h2;rw[h1,h2.1];rfl
   |p f g=>exact h2.elim
   |d=>simp[Fl.live]at*
  ·cases hr
def Z26(s:St)(x:Op1):Option ((_:TypeId)×(t:Ty)×Bool×List t.den):=
 match Zrt s x with
 |some ⟨.slice e t,.u b,l⟩=>some ⟨e,t,b,l⟩
 |_=>none
theorem Zth(h:R n W0 w X F H s a)(ht:tg.ok W0.gh a){x:Operand}{e:TypeId}{t:Ty}{b:Bool}{l:List t.den}(hr:Z26 s (op1 s tg x)=some ⟨e,t,b,l⟩):
  ∃v xs S1 S2,a.eval x=v/\hdr w X W0.B b e t.size l.length v xs S1/\Ww (rd w X W0.B b t) l xs S2/\ ∀b'∈S1++S2,∃k,b'∈F k:=by
 unfold Z26 at hr;split at hr
 ·rename_i e' t' b' l' hl;simp only[Osi,Sigma.mk.injEq]at hr;obtain⟨rfl,hr⟩:=hr;simp only[heq_eq_eq,Sigma.mk.injEq]at hr;obtain⟨rfl,hr⟩:=hr;simp only[heq_eq_eq,Opi]at hr;obtain⟨rfl,rfl⟩:=hr;obtain⟨_,vs,S,h1,h2,h3⟩:=Zee h ht hl;unfold rdF at h2;obtain⟨v,xs,S1,S2,rfl,rfl,k1,k2⟩:=h2;exact⟨v,xs,S1,S2,h1,k1,k2,h3⟩
 ·cases hr
def Q0e(τ:Tab)(s:St)(tg:Xi)(op:UnOp)(e:TypeId)(x:Operand):Option Res:=
 match op,τ e with
 | .not,some .bool=>match Zaa s (op1 s tg x) .bool with
  |some u=>some ⟨.val .bool (.u false) (!u),s,false,none⟩
  |none=>none
 | .neg,some (.int k)=>match Zaa s (op1 s tg x) (.int k)with
  |some u=>some ⟨.val (.int k) (.u false) (k.wrap (0-u)),s,false,none⟩
  |none=>none
 |_,_=>none
theorem Qi5(h:R n W0 w X F H s a)(ht:tg.ok W0.gh a){op:UnOp}{e:TypeId}{x:Operand}(ho:o.op= .unOp op e x){r:Res}(hr:Q0e τ s tg op e x=some r):Zaw P τ W0 w X F s a o r:=by
 unfold Q0e at hr;split at hr
 ·split at hr
  ·rename_i u hu;simp only[Osi]at hr;subst hr;have e1:=Zjg h ht hu;refine Yi rfl fun _=>⟨_,fun w' _=> ?_,Zrf _⟩
   simp only[execOp,ho,e1];simp[Op.unary]
  ·cases hr
 ·split at hr
  ·rename_i k _ _ u hu;simp only[Osi]at hr;subst hr;have e1:=Zos h ht hu;refine Yi rfl fun _=>⟨_,fun w' _=> ?_,Zwm _ _⟩
   simp only[execOp,ho,e1];simp[Op.unary,Op.intArith]
  ·cases hr
 ·cases hr
def Zl6(l:List Int):List UInt8:=l.map fun n=>UInt8.ofNat n.toNat
def Qle(τ:Tab)(s:St)(tg:Xi)(src dst:TypeId)(x:Operand):Option Res:=
 match τ src,τ dst with
 |some (.int k),some (.int k2)=>match Zaa s (op1 s tg x) (.int k)with
  |some u=>some ⟨.val (.int k2) (.u false) (k2.wrap u),s,false,none⟩
  |none=>none
 |some (.slice e' (.int .u8)),some .str=>match Z26 s (op1 s tg x),τ e' with
  |some ⟨_,.int .u8,_,l⟩,some (.int .u8)=>some ⟨.val .str (.u false) (Zl6 l),s,false,none⟩
  |_,_=>none
 |some .str,some .str=>match Zaa s (op1 s tg x) .str with
  |some u=>some ⟨.val .str (.u false) u,s,false,none⟩
  |none=>none
 |_,_=>none
theorem Qr5{k:IntKind}: ∀{l:List Int} {xs:List Value} {S:List Nat},Ww (rd w X B own (.int k)) l xs S->xs=l.map (Value.int k)/\S=[]
 | [],_,_,⟨h1,h2⟩=>⟨h1,h2⟩
 |x::l,_,_,⟨v1,v2,S1,S2,e1,e2,h1,h2⟩=>by
  obtain⟨rfl,rfl⟩:=h1;obtain⟨rfl,rfl⟩:=Qr5 h2;exact⟨by rw[e1];rfl,by rw[e2];rfl⟩
theorem Zz2: ∀(l:List Int) (r:ByteArray),l.foldl (fun r n=>r.push (UInt8.ofNat n.toNat)) r=⟨r.data++ (Zl6 l).toArray⟩
 | [],r=>by simp[Zl6]
 |b::l,r=>by
  simp only[List.foldl_cons];rw[Zz2 l];simp[ByteArray.push,Zl6]
theorem Z6s(h:R n W0 w X F H s a)(ht:tg.ok W0.gh a)(hτ:τ.ok P){e e2:TypeId}{x:Operand}(ho:o.op= .convert e e2 x){r:Res}(hr:Qle τ s tg e e2 x=some r):Zaw P τ W0 w X F s a o r:=by
 unfold Qle at hr;split at hr
 ·rename_i k k2 h1 h2;split at hr
  ·rename_i u hu;simp only[Osi]at hr;subst hr;have e1:=Zos h ht hu;refine Yi rfl fun _=>⟨_,fun w' hw'=> ?_,Zwm _ _⟩
   simp only[execOp,ho,e1];simp[convert,run_underlying (hτ _ _ h1).int,run_underlying (hτ _ _ h2).int,Conv.intToInt]
  ·cases hr
 ·rename_i e' h1 h2;split at hr
  ·rename_i e3 b l hl hu8;simp only[Osi]at hr;subst hr;have hu8:=hτ _ _ hu8;obtain⟨v,xs,S1,S2,hv,k1,k2,_⟩:=Zth h ht hl;obtain⟨rfl,rfl⟩:=Qr5 k2;obtain⟨ad,cap,rfl,_,_,hc⟩:=Zck k1;refine Yi rfl fun _=>⟨_,fun w' hw'=> ?_,Qup _⟩
   simp only[execOp,ho,hv];rw[Sem.run_bind,run_convert_bytes_string w' e e2 e' ad _ cap (hτ _ _ h1).slice.1 hu8.int (hτ _ _ h2).str];rcases hc with⟨rfl,hl0,_⟩| ⟨a0,rfl,_,hc⟩
   ·have:l=[]:=List.eq_nil_of_length_eq_zero hl0;subst this;simp[Conv.bytesToString,Zl6];rfl
   ·have hl:=run_loadCells_list (P:=P) w' a0 (l.map (Value.int .u8)) (fun j u hj=>(show Old w w' by
     have:=hw' (by rw[ho];simp[Q37,h1]);rw[ho]at this;exact this).cell (hc j u hj))
    simp only[List.length_map]at hl;rw[run_bytesToString w' a0 l.length cap l hl,Zz2];have he0:ByteArray.empty.data= #[]:=rfl;rw[he0];simp
  ·cases hr
 ·rename_i h1 h2;split at hr
  ·rename_i u hu;simp only[Osi]at hr;subst hr;have e1:=Zto h ht hu;refine Yi rfl fun _=>⟨_,fun w' hw'=> ?_,Qup _⟩
   simp only[execOp,ho,e1];simp[convert,run_underlying (hτ _ _ h1).str,run_underlying (hτ _ _ h2).str]
  ·cases hr
 ·cases hr
theorem Q7p(u:List UInt8): (ByteArray.mk ⟨u⟩).size=u.length:=rfl
theorem Q9b(u v:Int): (if v<u then v else u)=min u v:=by rw[Int.min_def];split<;>split<;>omega
theorem Q89(u v:Int): (if u<v then v else u)=max u v:=by rw[Int.max_def];split<;>split<;>omega
def Qtt(τ:Tab)(s:St)(tg:Xi)(e:TypeId)(x:Operand):Option Res:=
 match τ e with
 |some .str=>match Zaa s (op1 s tg x) .str with
  |some u=>some ⟨.val (.int .i64) (.u false) (u.length:Int),s,false,none⟩
  |none=>none
 |some (.slice _ _)=>match Z26 s (op1 s tg x)with
  |some ⟨_,_,_,l⟩=>some ⟨.val (.int .i64) (.u false) (l.length:Int),s,false,none⟩
  |none=>none
 |_=>none
theorem Qcs(h:R n W0 w X F H s a)(ht:tg.ok W0.gh a)(hτ:τ.ok P){e:TypeId}{x:Operand}(ho:o.op= .call {callee:= .builtin .len,args:= #[x],argTypes:= #[e]}){r:Res}(hr:Qtt τ s tg e x=some r):Zaw P τ W0 w X F s a o r:=by
 unfold Qtt at hr;split at hr
 ·rename_i h1;split at hr
  ·rename_i u hu;simp only[Osi]at hr;subst hr;have e1:=Zto h ht hu;refine Yi rfl fun _=>⟨_,fun w' _=> ?_,Zwm _ _⟩
   simp only[execOp,ho];simp[resolve,invoke,builtin,e1,Builtin.len_,run_underlying (hτ _ _ h1).str,goInt,Q7p]
  ·cases hr
 ·rename_i h1;split at hr
  ·rename_i e' t b l hl;simp only[Osi]at hr;subst hr;obtain⟨v,xs,S1,S2,hv,k1,k2,_⟩:=Zth h ht hl;obtain⟨ad,cap,rfl,_,_,hc⟩:=Zck k1;refine Yi rfl fun _=>⟨_,fun w' _=> ?_,Zwm _ _⟩
   simp only[execOp,ho];simp[resolve,invoke,builtin,hv,Builtin.len_,run_underlying (hτ _ _ h1).slice.1,goInt]
  ·cases hr
 ·cases hr
def Qgl(s:St)(tg:Xi)(e:TypeId)(τ:Tab)(x y:Operand)(mx:Bool):Option Res:=
 match τ e with
 |some (.int k)=>match Zaa s (op1 s tg x) (.int k),Zaa s (op1 s tg y) (.int k)with
  |some u,some v=>some ⟨.val (.int k) (.u false) (match mx with|true=>(max u v:Int)|false=>(min u v:Int)),s,false,none⟩
  |_,_=>none
 |_=>none
theorem Ztf(h:R n W0 w X F H s a)(ht:tg.ok W0.gh a){e e2:TypeId}{x y:Operand}{mx:Bool}(ho:o.op= .call {callee:= .builtin (match mx with|true=> .max|false=> .min),args:= #[x,y],argTypes:= #[e,e2]}){r:Res}(hr:Qgl s tg e τ x y mx=some r):
  Zaw P τ W0 w X F s a o r:=by
 unfold Qgl at hr;split at hr
 ·split at hr
  ·rename_i u v hu hv;simp only[Osi]at hr;subst hr;have e1:=Zos h ht hu;have e2:=Zos h ht hv;refine Yi rfl fun _=>⟨_,fun w' _=> ?_,Zwm _ _⟩
   simp only[execOp,ho];cases mx
   ·simp[resolve,invoke,builtin,e1,e2,Builtin.min_,Builtin.min2,Q9b]
   ·simp[resolve,invoke,builtin,e1,e2,Builtin.max_,Builtin.max2,Q89]
  ·cases hr
 ·cases hr
theorem Q1o{T:Ty}{e:TypeId}(h1:Zry P e T=true)(h2:Q2c P e T=true)(w:World){xs:Array Value}{off:Nat}{pre u post:List Value}(hx:xs.toList=pre++ (u++post))(ho:pre.length=off)(hu:u.length=T.size):
  (part e xs off).run P w= .ok (Xt T u) w:=by
 obtain⟨i,hi,hs,_⟩:=Zln h1;unfold part;simp only[Sem.run_bind,Q2d h2 w,Result.andThen_ok];cases ha:T.isAgg
 ·have h1:=Qd6 ha;rw[h1]at hu;obtain⟨v,rfl⟩:=List.length_eq_one_iff.1 hu;have:xs[off]? =some v:=by
   rw[<-Array.getElem?_toList,hx,<-ho];simp
  have hp:Xt T [v]=v:=by cases T<;>simp[Ty.isAgg]at ha<;>rfl
  simp[this,hp]
 ·simp only[if_true,Sem.run_bind,Go.sizeOf,typeInfo,Sem.run_pure];have he:xs.extract off (off+T.size)=u.toArray:=by
   apply Array.toList_inj.mp;rw[Array.toList_extract,hx,<-ho,<-hu];simp
  have hp:Xt T u= .agg u.toArray:=by cases T<;>simp[Ty.isAgg]at ha<;>rfl
  simp[hi,hs,he,hp]
def Qci(τ:Tab)(s:St)(tg:Xi)(e:TypeId)(x i:Operand):Option Res:=
 match τ e with
 |some .str=>match Zaa s (op1 s tg x) .str,Zpw s (op1 s tg i)with
  |some u,some (_,j)=>some ⟨.val (.int .u8) (.u false) ((u.getD j.toNat 0).toNat:Int),s,false,some (0<=j/\j<u.length)⟩
  |_,_=>none
 |some (.arr n t)=>match t.flat,Zaa s (op1 s tg x) (.arr n t),Zpw s (op1 s tg i)with
  |true,some l,some (_,j)=>some ⟨.val t (.u false) (l.getD j.toNat (zero t)),s,false,some (0<=j/\j<n)⟩
  |_,_,_=>none
 |_=>none
theorem Z2i(h:R n W0 w X F H s a)(ht:tg.ok W0.gh a)(hτ:τ.ok P){e:TypeId}{x i:Operand}(ho:o.op= .index e x i){r:Res}(hr:Qci τ s tg e x i=some r):Zaw P τ W0 w X F s a o r:=by
 unfold Qci at hr;split at hr
 ·rename_i h1;split at hr
  ·rename_i u k j hu hj;simp only[Osi]at hr;subst hr;have e1:=Zto h ht hu;have e2:=Zds h ht hj;refine Yi rfl fun hp=>⟨_,fun w' _=> ?_,Zwm _ _⟩
   have hp:0<=j/\j<u.length:=hp;have hlt:j.toNat<u.length:=by omega
   have hsz:0<=j/\j< (ByteArray.mk ⟨u⟩).size:=by simpa[ByteArray.size]using hp
   simp only[execOp,ho,e1,e2,Sem.run_bind];rw[run_index_string _ _ _ _ _ (hτ _ _ h1).str,dif_pos hsz];simp[List.getD_eq_getElem?_getD,hlt];rfl
  ·cases hr
 ·rename_i n t hT;split at hr
  ·rename_i l k j hfl hl hj;simp only[Osi]at hr;subst hr;obtain⟨vs,h1,h2⟩:=Wl h ht hl;have e2:=Zds h ht hj;obtain⟨hlen,hrows⟩:=h2;have hlen:l.length=n:=hlen;obtain⟨_,et,hu,hs,hag⟩:=(hτ _ _ hT).arr';obtain⟨i2,hi2,hs2,_⟩:=Zln hs;by_cases hob:0<=j/\j<n
   ·have hil:j.toNat<l.length:=by omega
    obtain⟨pre,mid,post,T1,T2,T3,n1,n2,n3,n4,_⟩:=Zpx (fun _ _ _ h=>Xv h) hil hrows;have e4:l.getD j.toNat (zero t)=l[j.toNat]:=by rw[List.getD_eq_getElem?_getD,List.getElem?_eq_getElem hil];rfl
    refine Yi rfl fun _=>⟨Xt t mid,fun w' _=> ?_,mid,rfl,by rw[e4];unfold rdF;exact(Zco hfl n4).2⟩
    have hx:a.eval x= .agg vs.toArray:=h1;simp only[execOp,ho,hx,e2,Instr.index,Sem.run_bind,asIntOf,Sem.run_pure,Result.andThen_ok,run_underlying hu,Go.sizeOf,typeInfo];simp only[hob.1,hob.2,and_self,if_true,Sem.run_bind];simp[hi2,hs2,Q1o hs hag w' (xs:=vs.toArray) (off:=j.toNat*t.size) (pre:=pre) (u:=mid) (post:=post) (by simpa using n1) n3 (Xv n4)]
   ·exact Yi rfl fun hp=>absurd hp hob
  ·cases hr
 ·cases hr
end
end Go.Am

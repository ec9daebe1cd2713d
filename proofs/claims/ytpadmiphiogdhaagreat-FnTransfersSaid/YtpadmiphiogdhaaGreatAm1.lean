/- The abstract machine, part 1: what a piece of Go code does, as plain data, and that it does so. No condition. -/
import Derived.WalkKit
namespace Go.Am
inductive Ty where
 |unit|int (k:IntKind)|bool|str|slice (e:TypeId) (t:Ty)|pair (a b:Ty)|arr (n:Nat) (t:Ty)|fnc (f:FuncId)|err|hid (t:Ty)|sptr (e:TypeId) (t:Ty)|clo (f:FuncId) (t:Ty)
 deriving DecidableEq
@[reducible] def Ty.den:Ty→Type
 | .unit=>Unit
 | .int _=>Int
 | .bool=>Bool
 | .str=>List UInt8
 | .slice _ t=>List t.den
 | .pair a b=>a.den×b.den
 | .arr _ t=>List t.den
 | .fnc _=>Unit
 | .err=>Bool
 | .hid _=>Unit
 | .sptr _ t=>t.den
 | .clo _ t=>t.den
def Ty.size:Ty→Nat
 | .unit=>0
 | .pair a b=>a.size+b.size
 | .arr n t=>n*t.size
 |_=>1
def Ty.flat:Ty→Bool
 | .slice .. =>false
 | .pair a b=>a.flat&&b.flat
 | .arr _ t=>t.flat
 | .hid t=>t.flat
 | .sptr .. =>false
 | .clo .. =>false
 |_=>true
def Ty.plain:Ty→Bool
 | .sptr .. =>false
 | .clo .. =>false
 | .pair a b=>a.plain&&b.plain
 | .arr _ t=>t.plain
 | .hid t=>Nat.beq t.size 1&&t.plain
 |_=>true
def Xz(T:Ty)(vs:List Value):Value:=
 match T with
 | .unit| .pair .. | .arr .. => .agg vs.toArray
 |_=>vs.headD undef
def Zbf{α:Type}(r:α→List Value→List Nat→Prop):List α→List Value→List Nat→Prop
 | [],vs,S=>vs=[]∧S=[]
 |x::xs,vs,S=> ∃v1 v2 S1 S2,vs=v1++v2∧S=S1++S2∧r x v1 S1∧Zbf r xs v2 S2
def hdr(w:World)(X:Nat→Prop)(B:Nat)(own:Bool)(e:TypeId)(sz n:Nat)(v:Value)(xs:List Value)(S:List Nat):Prop:=
 match own with
 |true=>w.ownsRow B e sz v n xs∧S=v.ownBlock.toList
 |false=>S=[]∧xs.length=n*sz∧ ∃a cap,v= .slice a n cap∧n≤cap∧cap≤maxLen∧
   ((a=none∧n=0∧cap=0)∨ ∃ad,a=some ad∧(n=0∨X ad.block)∧ ∀j u,xs[j]? =some u→w.cell? (ad.add j)=some u)
def rd(w:World)(X:Nat→Prop)(B:Nat)(own:Bool): (T:Ty)→T.den→List Value→List Nat→Prop
 | .unit,_,vs,S=>vs=[]∧S=[]
 | .int k,x,vs,S=>vs=[.int k x]∧S=[]
 | .bool,x,vs,S=>vs=[.bool x]∧S=[]
 | .fnc f,_,vs,S=>vs=[.func (.func f) #[] #[]]∧S=[]
 | .str,x,vs,S=>vs=[.string ⟨⟨x⟩⟩]∧S=[]
 | .slice e t,x,vs,S=> ∃v xs S1 S2,vs=[v]∧S=S1++S2∧hdr w X B own e t.size x.length v xs S1∧Zbf (rd w X B own t) x xs S2
 | .pair a b,x,vs,S=> ∃v1 v2 S1 S2,vs=v1++v2∧S=S1++S2∧rd w X B own a x.1 v1 S1∧rd w X B own b x.2 v2 S2
 | .arr n t,x,vs,S=>x.length=n∧Zbf (rd w X B own t) x vs S
 | .err,x,vs,S=>(∃v,vs=[v]∧v.oneCell'=true∧((x=true∧v= .nilIface)∨(x=false∧ ∃t u,v= .iface t u)))∧S=[]
 | .hid t,_,vs,S=>vs.length=1∧ ∃y,rd w X B own t y vs S
 | .sptr e t,x,vs,S=>S=[]∧own=false∧ ∃b c,vs=[.pointer (some ⟨b,0,none⟩)]∧X b∧w.heap[b]? =some (.cells c e (0,0))∧rd w X B own t x c.toList []
 | .clo f t,x,vs,S=>S=[]∧ ∃cs:List Value,vs=[.func (.func f) #[] cs.toArray]∧rd w X B own t x cs []
inductive Fl where
 |u (own:Bool)|p (a b:Fl)|d
def rdF(w:World)(X:Nat→Prop)(B:Nat): (T:Ty)→Fl→T.den→List Value→List Nat→Prop
 |T,.d,_,vs,S=>vs.length=T.size∧(∀u∈vs,u.oneCell'=true)∧S=[]
 |T,.u b,x,vs,S=>rd w X B b T x vs S
 | .pair a b,.p f g,x,vs,S=> ∃v1 v2 S1 S2,vs=v1++v2∧S=S1++S2∧rdF w X B a f x.1 v1 S1∧rdF w X B b g x.2 v2 S2
 | .slice e t,.p (.u true) (.u false),x,vs,S=> ∃v xs,vs=[v]∧hdr w X B true e t.size x.length v xs S∧Zbf (rd w X B false t) x xs []
 |_,.p ..,_,_,_=>False
theorem Zfd{w:World}{X:Nat→Prop}{B:Nat}{e:TypeId}{t:Ty}{f g:Fl}{x:List t.den}{vs:List Value}{S:List Nat}(h:rdF w X B (.slice e t) (.p f g) x vs S):
  f= .u true∧g= .u false∧ ∃v xs,vs=[v]∧hdr w X B true e t.size x.length v xs S∧Zbf (rd w X B false t) x xs []:=by
 cases f with
 |u b=>cases b with
  |true=>cases g with
   |u c=>cases c with
    |false=>exact⟨rfl,rfl,h⟩
    |true=>exact h.elim
   |p _ _=>exact h.elim
   |d=>exact h.elim
  |false=>exact h.elim
 |p _ _=>exact h.elim
 |d=>exact h.elim
section
variable {w w':World} {X X':Nat→Prop} {B:Nat} {own:Bool}
theorem Kt{α:Type}{r r':α→List Value→List Nat→Prop}: ∀{xs:List α} {vs:List Value} {S:List Nat},
  Zbf r xs vs S→(∀x v T,x∈xs→(∀b∈T,b∈S)→r x v T→r' x v T)→Zbf r' xs vs S
 | [],_,_,h,_=>h
 |x::xs,_,_,⟨v1,v2,S1,S2,e1,e2,h1,h2⟩,k=>
  ⟨v1,v2,S1,S2,e1,e2,k x v1 S1 (by simp) (by rw[e2];intro b hb;simp[hb]) h1,
   Kt h2 fun y v T hy hT=>k y v T (by simp[hy]) (by rw[e2];intro b hb;simp[hT b hb])⟩
theorem Zpl{α:Type}{r:α→List Value→List Nat→Prop}{n:Nat}(hr: ∀x v S,r x v S→v.length=n): ∀{xs:List α} {vs:List Value} {S:List Nat},
  Zbf r xs vs S→vs.length=xs.length*n
 | [],_,_,⟨e,_⟩=>by simp[e]
 |x::xs,_,_,⟨v1,v2,S1,S2,e1,_,h1,h2⟩=>by
  rw[e1,List.length_append,hr _ _ _ h1,Zpl hr h2,List.length_cons,Nat.add_mul];omega
theorem Q4z{e:TypeId}{sz n:Nat}{v:Value}{xs:List Value}{S:List Nat}(h:hdr w X B own e sz n v xs S):xs.length=n*sz:=by
 cases own
 ·exact h.2.1
 ·exact h.1.1
theorem Yj: ∀{T:Ty} {x:T.den} {vs:List Value} {S:List Nat},rd w X B own T x vs S→vs.length=T.size
 | .unit,_,_,_,h=>by simp[h.1,Ty.size]
 | .int _,_,_,_,h=>by simp[h.1,Ty.size]
 | .bool,_,_,_,h=>by simp[h.1,Ty.size]
 | .fnc _,_,_,_,h=>by simp[h.1,Ty.size]
 | .str,_,_,_,h=>by simp[h.1,Ty.size]
 | .slice _ _,_,_,_,⟨_,_,_,_,e,_⟩=>by simp[e,Ty.size]
 | .pair a b,_,_,_,⟨v1,v2,S1,S2,e,_,h1,h2⟩=>by simp[e,Ty.size,Yj h1,Yj h2]
 | .arr n t,_,_,_,⟨h,h'⟩=>by rw[Zpl (n:=t.size) (fun _ _ _ h=>Yj h) h',h];rfl
 | .err,_,_,_,⟨⟨_,e,_⟩,_⟩=>by simp[e,Ty.size]
 | .hid _,_,_,_,⟨h,_⟩=>h
 | .sptr ..,_,_,_,⟨_,_,_,_,e,_⟩=>by simp[e,Ty.size]
 | .clo ..,_,_,_,⟨_,_,e,_⟩=>by simp[e,Ty.size]
theorem Yp: ∀{T:Ty} {f:Fl} {x:T.den} {vs:List Value} {S:List Nat},rdF w X B T f x vs S→vs.length=T.size
 |T,.d,_,_,_,h=>by unfold rdF at h;exact h.1
 |T,.u b,_,_,_,h=>by unfold rdF at h;exact Yj h
 | .pair a b,.p f g,_,_,_,⟨v1,v2,S1,S2,e,_,h1,h2⟩=>by simp[e,Ty.size,Yp h1,Yp h2]
 | .slice e t,.p f g,_,_,_,h=>by obtain⟨_,_,v,xs,e1,_⟩:=Zfd h;simp[e1,Ty.size]
 | .unit,.p ..,_,_,_,h| .int _,.p ..,_,_,_,h| .bool,.p ..,_,_,_,h| .fnc _,.p ..,_,_,_,h| .str,.p ..,_,_,_,h| .err,.p ..,_,_,_,h| .hid _,.p ..,_,_,_,h| .sptr ..,.p ..,_,_,_,h| .clo ..,.p ..,_,_,_,h| .arr ..,.p ..,_,_,_,h=>by simp[rdF]at h
theorem Qb3{e:TypeId}{sz n:Nat}{v:Value}{xs:List Value}{S:List Nat}(h:hdr w X B own e sz n v xs S)
  (hX: ∀b,X b→X' b) (hw: ∀b,X b→w'.heap[b]? =w.heap[b]?) (hS: ∀b∈S,w'.heap[b]? =w.heap[b]?):hdr w' X' B own e sz n v xs S:=by
 cases own
 ·obtain⟨h1,h2,a,cap,h3,h4,h5,h6⟩:=h
  refine⟨h1,h2,a,cap,h3,h4,h5,?_⟩
  rcases h6 with h6| ⟨ad,h7,h8,h9⟩
  ·exact .inl h6
  ·refine .inr ⟨ad,h7,h8.imp id (hX _),fun j u hj=> ?_⟩
   rcases h8 with h8|h8
   ·subst h8
    have:xs=[]:=List.eq_nil_of_length_eq_zero (by simpa using h2)
    subst this;simp at hj
   ·have hb: (ad.add j).block=ad.block:=by unfold Addr.add;split<;>rfl
    rw[World.cell?_of_block (w:=w) (by rw[hb];exact hw _ h8)]
    exact h9 j u hj
 ·obtain⟨h1,h2⟩:=h
  refine⟨⟨h1.1,?_⟩,h2⟩
  rcases h1.2 with h3| ⟨g,cap,cur,rfl,hb,hg,rest⟩
  ·exact .inl h3
  ·exact .inr ⟨g,cap,cur,rfl,hb,by rw[hS g (by rw[h2];simp[Value.ownBlock])];exact hg,rest⟩
theorem Zfe(hX: ∀b,X b→X' b)(hw: ∀b,X b→w'.heap[b]? =w.heap[b]?): ∀{T:Ty} {x:T.den} {vs:List Value} {S:List Nat},
  rd w X B own T x vs S→(∀b∈S,w'.heap[b]? =w.heap[b]?)→rd w' X' B own T x vs S
 | .unit,_,_,_,h,_=>h
 | .int _,_,_,_,h,_=>h
 | .bool,_,_,_,h,_=>h
 | .fnc _,_,_,_,h,_=>h
 | .str,_,_,_,h,_=>h
 | .slice _ _,_,_,_,⟨v,xs,S1,S2,e,e2,h1,h2⟩,hS=>
  ⟨v,xs,S1,S2,e,e2,Qb3 h1 hX hw fun b hb=>hS b (by rw[e2];simp[hb]),
   Kt h2 fun _ _ _ _ hT h=>Zfe hX hw h fun b hb=>hS b (by rw[e2];simp[hT b hb])⟩
 | .pair a b,_,_,_,⟨v1,v2,S1,S2,e,e2,h1,h2⟩,hS=>
  ⟨v1,v2,S1,S2,e,e2,Zfe hX hw h1 fun b hb=>hS b (by rw[e2];simp[hb]),Zfe hX hw h2 fun b hb=>hS b (by rw[e2];simp[hb])⟩
 | .arr n t,_,_,_,⟨h,h'⟩,hS=>⟨h,Kt h' fun _ _ _ _ hT h=>Zfe hX hw h fun b hb=>hS b (hT b hb)⟩
 | .err,_,_,_,h,_=>h
 | .hid _,_,_,_,⟨e,y,h⟩,hS=>⟨e,y,Zfe hX hw h hS⟩
 | .sptr ..,_,_,_,⟨e,o,b,c,h1,h2,h3,h4⟩,_=>⟨e,o,b,c,h1,hX b h2,by rw[hw b h2];exact h3,Zfe hX hw h4 (by simp)⟩
 | .clo ..,_,_,_,⟨e,cs,h1,h2⟩,_=>⟨e,cs,h1,Zfe hX hw h2 (by simp)⟩
theorem Zph(hX: ∀b,X b→X' b)(hw: ∀b,X b→w'.heap[b]? =w.heap[b]?): ∀{T:Ty} {f:Fl} {x:T.den} {vs:List Value} {S:List Nat},
  rdF w X B T f x vs S→(∀b∈S,w'.heap[b]? =w.heap[b]?)→rdF w' X' B T f x vs S
 |T,.d,_,_,_,h,_=>by unfold rdF at*;exact h
 |T,.u b,_,_,_,h,hS=>by unfold rdF at*;exact Zfe hX hw h hS
 | .pair a b,.p f g,_,_,_,⟨v1,v2,S1,S2,e,e2,h1,h2⟩,hS=>
  ⟨v1,v2,S1,S2,e,e2,Zph hX hw h1 fun b hb=>hS b (by rw[e2];simp[hb]),Zph hX hw h2 fun b hb=>hS b (by rw[e2];simp[hb])⟩
 | .slice e t,.p f g,_,_,_,h,hS=>by
  obtain⟨rfl,rfl,v,xs,e1,h1,h2⟩:=Zfd h
  exact⟨v,xs,e1,Qb3 h1 hX hw hS,Kt h2 fun _ _ _ _ hT h=>Zfe hX hw h fun b hb=>absurd (hT b hb) (by simp)⟩
 | .unit,.p ..,_,_,_,h,_| .int _,.p ..,_,_,_,h,_| .bool,.p ..,_,_,_,h,_| .fnc _,.p ..,_,_,_,h,_| .str,.p ..,_,_,_,h,_| .err,.p ..,_,_,_,h,_| .hid _,.p ..,_,_,_,h,_| .sptr ..,.p ..,_,_,_,h,_| .clo ..,.p ..,_,_,_,h,_| .arr ..,.p ..,_,_,_,h,_=>by simp[rdF]at h
end
end Go.Am
namespace Go.Am
section
variable {w w':World} {X X':Nat→Prop} {B:Nat} {own:Bool}
theorem Z19{α:Type}{r:α→List Value→List Nat→Prop}{p:Nat→Prop}(hr: ∀x v S,r x v S→ ∀b∈S,p b): ∀{xs:List α} {vs:List Value} {S:List Nat},
  Zbf r xs vs S→ ∀b∈S,p b
 | [],_,_,⟨_,e⟩=>by simp[e]
 |x::xs,_,_,⟨v1,v2,S1,S2,_,e,h1,h2⟩=>by
  intro b hb
  rw[e]at hb
  rcases List.mem_append.1 hb with hb|hb
  ·exact hr _ _ _ h1 b hb
  ·exact Z19 hr h2 b hb
theorem Qzn{e:TypeId}{sz n:Nat}{v:Value}{xs:List Value}{S:List Nat}(h:hdr w X B own e sz n v xs S): ∀b∈S,B≤b∧b<w.heap.size:=by
 cases own
 ·intro b hb;rw[h.1]at hb;cases hb
 ·intro b hb
  rw[h.2]at hb
  exact h.1.lt b (by simpa using hb)
theorem Zsj: ∀{T:Ty} {x:T.den} {vs:List Value} {S:List Nat},rd w X B own T x vs S→ ∀b∈S,B≤b∧b<w.heap.size
 | .unit,_,_,_,h| .int _,_,_,_,h| .bool,_,_,_,h| .fnc _,_,_,_,h| .str,_,_,_,h=>by simp[h.2]
 | .slice _ _,_,_,_,⟨_,_,_,_,_,e,h1,h2⟩=>by
  intro b hb
  rw[e]at hb
  rcases List.mem_append.1 hb with hb|hb
  ·exact Qzn h1 b hb
  ·exact Z19 (fun _ _ _ h=>Zsj h) h2 b hb
 | .pair a b,_,_,_,⟨v1,v2,S1,S2,_,e,h1,h2⟩=>by
  intro b hb
  rw[e]at hb
  rcases List.mem_append.1 hb with hb|hb
  ·exact Zsj h1 b hb
  ·exact Zsj h2 b hb
 | .arr n t,_,_,_,⟨_,h'⟩=>Z19 (fun _ _ _ h=>Zsj h) h'
 | .err,_,_,_,h=>by simp[h.2]
 | .hid _,_,_,_,⟨_,_,h⟩=>Zsj h
 | .sptr ..,_,_,_,h=>by simp[h.1]
 | .clo ..,_,_,_,h=>by simp[h.1]
theorem Qur: ∀{T:Ty} {f:Fl} {x:T.den} {vs:List Value} {S:List Nat},rdF w X B T f x vs S→ ∀b∈S,B≤b∧b<w.heap.size
 |T,.d,_,_,_,h=>by unfold rdF at h;simp[h.2.2]
 |T,.u b,_,_,_,h=>by unfold rdF at h;exact Zsj h
 | .pair a b,.p f g,_,_,_,⟨v1,v2,S1,S2,_,e,h1,h2⟩=>by
  intro b hb
  rw[e]at hb
  rcases List.mem_append.1 hb with hb|hb
  ·exact Qur h1 b hb
  ·exact Qur h2 b hb
 | .slice e t,.p f g,_,_,_,h=>by
  obtain⟨_,_,v,xs,_,h1,_⟩:=Zfd h
  exact Qzn h1
 | .unit,.p ..,_,_,_,h| .int _,.p ..,_,_,_,h| .bool,.p ..,_,_,_,h| .fnc _,.p ..,_,_,_,h| .str,.p ..,_,_,_,h| .err,.p ..,_,_,_,h| .hid _,.p ..,_,_,_,h| .sptr ..,.p ..,_,_,_,h| .clo ..,.p ..,_,_,_,h| .arr ..,.p ..,_,_,_,h=>by simp[rdF]at h
theorem Zdd{e:TypeId}{sz n:Nat}{v:Value}{xs:List Value}{S:List Nat}(h:hdr w X B own e sz n v xs S):
  ∃a cap,v= .slice a n cap∧n≤cap∧cap≤maxLen∧((a=none∧n=0∧cap=0)∨ ∃ad,a=some ad∧(n=0∨X ad.block∨ad.block∈S)∧ ∀j u,xs[j]? =some u→w.cell? (ad.add j)=some u):=by
 cases own
 ·obtain⟨_,_,a,cap,h3,h4,h5,h6⟩:=h
  refine⟨a,cap,h3,h4,h5,h6.imp id ?_⟩
  rintro⟨ad,h7,h8,h9⟩
  exact⟨ad,h7,h8.imp id .inl,h9⟩
 ·obtain⟨h1,h2⟩:=h
  rcases h1.2 with⟨rfl,rfl⟩| ⟨g,cap,cur,rfl,hb,hg,hn,hm,rest⟩
  ·exact⟨none,0,rfl,Nat.le_refl _,by simp[maxLen],.inl ⟨rfl,rfl,rfl⟩⟩
  ·exact⟨_,cap,rfl,hn,hm,.inr ⟨_,rfl,.inr (.inr (by rw[h2];simp[Value.ownBlock])),h1.cells (g:=g) rfl⟩⟩
theorem Qow{e:TypeId}{sz n:Nat}{v:Value}{xs:List Value}{S:List Nat}(h:hdr w X B own e sz n v xs S)(hX: ∀b,X b→X' b)(hS: ∀b∈S,X' b):
  hdr w X' B false e sz n v xs []:=by
 have hl:=Q4z h
 obtain⟨a,cap,h3,h4,h5,h6⟩:=Zdd h
 refine⟨rfl,hl,a,cap,h3,h4,h5,h6.imp id ?_⟩
 rintro⟨ad,h7,h8,h9⟩
 exact⟨ad,h7,h8.imp id (fun h=>h.elim (hX _) (hS _)),h9⟩
theorem Zoq{α:Type}{r r':α→List Value→List Nat→Prop}: ∀{xs:List α} {vs:List Value} {S:List Nat},
  Zbf r xs vs S→(∀x v T,x∈xs→(∀b∈T,b∈S)→r x v T→r' x v [])→Zbf r' xs vs []
 | [],_,_,h,_=>⟨h.1,rfl⟩
 |x::xs,_,_,⟨v1,v2,S1,S2,e1,e2,h1,h2⟩,k=>
  ⟨v1,v2,[],[],e1,rfl,k x v1 S1 (by simp) (by rw[e2];intro b hb;simp[hb]) h1,
   Zoq h2 fun y v T hy hT=>k y v T (by simp[hy]) (by rw[e2];intro b hb;simp[hT b hb])⟩
theorem Ze3(hX: ∀b,X b→X' b): ∀{T:Ty} {x:T.den} {vs:List Value} {S:List Nat},
  rd w X B own T x vs S→(∀b∈S,X' b)→rd w X' B false T x vs []
 | .unit,_,_,_,h,_| .int _,_,_,_,h,_| .bool,_,_,_,h,_| .fnc _,_,_,_,h,_| .str,_,_,_,h,_=>⟨h.1,rfl⟩
 | .slice _ _,_,_,_,⟨v,xs,S1,S2,e,e2,h1,h2⟩,hS=>
  ⟨v,xs,[],[],e,rfl,Qow h1 hX fun b hb=>hS b (by rw[e2];simp[hb]),
   Zoq h2 fun _ _ _ _ hT h=>Ze3 hX h fun b hb=>hS b (by rw[e2];simp[hT b hb])⟩
 | .pair a b,_,_,_,⟨v1,v2,S1,S2,e,e2,h1,h2⟩,hS=>
  ⟨v1,v2,[],[],e,rfl,Ze3 hX h1 fun b hb=>hS b (by rw[e2];simp[hb]),Ze3 hX h2 fun b hb=>hS b (by rw[e2];simp[hb])⟩
 | .arr n t,_,_,_,⟨h,h'⟩,hS=>⟨h,Zoq h' fun _ _ _ _ hT h=>Ze3 hX h fun b hb=>hS b (hT b hb)⟩
 | .err,_,_,_,h,_=>⟨h.1,rfl⟩
 | .hid _,_,_,_,⟨e,y,h⟩,hS=>⟨e,y,Ze3 hX h hS⟩
 | .sptr ..,_,_,_,⟨_,_,b,c,h1,h2,h3,h4⟩,_=>⟨rfl,rfl,b,c,h1,hX b h2,h3,Ze3 hX h4 (by simp)⟩
 | .clo ..,_,_,_,⟨_,cs,h1,h2⟩,_=>⟨rfl,cs,h1,Ze3 hX h2 (by simp)⟩
def Fl.live:Fl→Bool
 | .u _=>true
 | .p a b=>a.live&&b.live
 | .d=>false
theorem Y5(hX: ∀b,X b→X' b): ∀{T:Ty} {f:Fl} {x:T.den} {vs:List Value} {S:List Nat},
  f.live=true→rdF w X B T f x vs S→(∀b∈S,X' b)→rd w X' B false T x vs []
 |T,.d,_,_,_,hf,_,_=>by simp[Fl.live]at hf
 |T,.u b,_,_,_,_,h,hS=>by unfold rdF at h;exact Ze3 hX h hS
 | .pair a b,.p f g,_,_,_,hf,⟨v1,v2,S1,S2,e,e2,h1,h2⟩,hS=>by
  simp only[Fl.live,Bool.and_eq_true]at hf
  exact⟨v1,v2,[],[],e,rfl,Y5 hX hf.1 h1 fun b hb=>hS b (by rw[e2];simp[hb]),Y5 hX hf.2 h2 fun b hb=>hS b (by rw[e2];simp[hb])⟩
 | .slice e t,.p f g,_,_,_,_,h,hS=>by
  obtain⟨_,_,v,xs,e1,h1,h2⟩:=Zfd h
  exact⟨v,xs,[],[],e1,rfl,Qow h1 hX hS,Zoq h2 fun _ _ _ _ hT h=>Ze3 hX h fun b hb=>absurd (hT b hb) (by simp)⟩
 | .unit,.p ..,_,_,_,_,h,_| .int _,.p ..,_,_,_,_,h,_| .bool,.p ..,_,_,_,_,h,_| .fnc _,.p ..,_,_,_,_,h,_| .str,.p ..,_,_,_,_,h,_| .err,.p ..,_,_,_,_,h,_| .hid _,.p ..,_,_,_,_,h,_| .sptr ..,.p ..,_,_,_,_,h,_| .clo ..,.p ..,_,_,_,_,h,_| .arr ..,.p ..,_,_,_,_,h,_=>by simp[rdF]at h
theorem Zdg{α:Type}{r r':α→List Value→List Nat→Prop}(hr: ∀x v S,r x v S→S=[]∧r' x v []): ∀{xs:List α} {vs:List Value} {S:List Nat},
  Zbf r xs vs S→S=[]∧Zbf r' xs vs []
 | [],_,_,h=>⟨h.2,h.1,rfl⟩
 |x::xs,_,_,⟨v1,v2,S1,S2,e1,e2,h1,h2⟩=>by
  obtain⟨rfl,k1⟩:=hr _ _ _ h1
  obtain⟨rfl,k2⟩:=Zdg hr h2
  exact⟨by simp[e2],v1,v2,[],[],e1,rfl,k1,k2⟩
theorem Zbv{own':Bool}{w':World}: ∀{T:Ty} {x:T.den} {vs:List Value} {S:List Nat},T.flat=true→
  rd w X B own T x vs S→S=[]∧rd w' X' B own' T x vs []
 | .unit,_,_,_,_,h| .int _,_,_,_,_,h| .bool,_,_,_,_,h| .fnc _,_,_,_,_,h| .str,_,_,_,_,h=>⟨h.2,h.1,rfl⟩
 | .slice _ _,_,_,_,hf,_=>by simp[Ty.flat]at hf
 | .pair a b,_,_,_,hf,⟨v1,v2,S1,S2,e,e2,h1,h2⟩=>by
  simp only[Ty.flat,Bool.and_eq_true]at hf
  obtain⟨rfl,k1⟩:=Zbv hf.1 h1
  obtain⟨rfl,k2⟩:=Zbv hf.2 h2
  exact⟨by simp[e2],v1,v2,[],[],e,rfl,k1,k2⟩
 | .arr n t,_,_,_,hf,⟨h,h'⟩=>by
  obtain⟨e,k⟩:=Zdg (r':=rd w' X' B own' t) (fun x v S h=>Zbv (by simpa[Ty.flat]using hf) h) h'
  exact⟨e,h,k⟩
 | .err,_,_,_,_,h=>⟨h.2,h.1,rfl⟩
 | .hid _,_,_,_,hf,⟨l,y,h⟩=>let⟨e,k⟩:=Zbv (by simpa[Ty.flat]using hf) h;⟨e,l,y,k⟩
 | .sptr ..,_,_,_,hf,_=>by simp[Ty.flat]at hf
 | .clo ..,_,_,_,hf,_=>by simp[Ty.flat]at hf
theorem Z18{α:Type}{r:α→List Value→List Nat→Prop}(hr: ∀x v S,r x v S→ ∀u∈v,u.oneCell'=true): ∀{xs:List α} {vs:List Value} {S:List Nat},
  Zbf r xs vs S→ ∀u∈vs,u.oneCell'=true
 | [],_,_,⟨e,_⟩=>by simp[e]
 |x::xs,_,_,⟨v1,v2,S1,S2,e,_,h1,h2⟩=>by
  intro u hu
  rw[e]at hu
  rcases List.mem_append.1 hu with hu|hu
  ·exact hr _ _ _ h1 u hu
  ·exact Z18 hr h2 u hu
theorem Zku: ∀{T:Ty} {x:T.den} {vs:List Value} {S:List Nat},rd w X B own T x vs S→ ∀u∈vs,u.oneCell'=true
 | .unit,_,_,_,h| .int _,_,_,_,h| .bool,_,_,_,h| .fnc _,_,_,_,h| .str,_,_,_,h=>by simp[h.1,Value.oneCell']
 | .slice _ _,_,_,_,⟨v,_,_,_,e,_,h1,_⟩=>by
  obtain⟨a,cap,hv,_⟩:=Zdd h1
  simp[e,hv,Value.oneCell']
 | .pair a b,_,_,_,⟨v1,v2,S1,S2,e,_,h1,h2⟩=>by
  intro u hu
  rw[e]at hu
  rcases List.mem_append.1 hu with hu|hu
  ·exact Zku h1 u hu
  ·exact Zku h2 u hu
 | .arr n t,_,_,_,⟨_,h'⟩=>Z18 (fun _ _ _ h=>Zku h) h'
 | .err,_,_,_,⟨⟨v,e,h,_⟩,_⟩=>by simp[e,h]
 | .hid _,_,_,_,⟨_,_,h⟩=>Zku h
 | .sptr ..,_,_,_,⟨_,_,_,_,e,_⟩=>by simp[e,Value.oneCell']
 | .clo ..,_,_,_,⟨_,_,e,_⟩=>by simp[e,Value.oneCell']
theorem Zia: ∀{T:Ty} {f:Fl} {x:T.den} {vs:List Value} {S:List Nat},rdF w X B T f x vs S→ ∀u∈vs,u.oneCell'=true
 |T,.d,_,_,_,h=>by unfold rdF at h;exact h.2.1
 |T,.u b,_,_,_,h=>by unfold rdF at h;exact Zku h
 | .pair a b,.p f g,_,_,_,⟨v1,v2,S1,S2,e,_,h1,h2⟩=>by
  intro u hu
  rw[e]at hu
  rcases List.mem_append.1 hu with hu|hu
  ·exact Zia h1 u hu
  ·exact Zia h2 u hu
 | .slice e t,.p f g,_,_,_,h=>by
  obtain⟨_,_,v,xs,e1,h1,_⟩:=Zfd h
  obtain⟨a,cap,hv,_⟩:=Zdd h1
  simp[e1,hv,Value.oneCell']
 | .unit,.p ..,_,_,_,h| .int _,.p ..,_,_,_,h| .bool,.p ..,_,_,_,h| .fnc _,.p ..,_,_,_,h| .str,.p ..,_,_,_,h| .err,.p ..,_,_,_,h| .hid _,.p ..,_,_,_,h| .sptr ..,.p ..,_,_,_,h| .clo ..,.p ..,_,_,_,h| .arr ..,.p ..,_,_,_,h=>by simp[rdF]at h
abbrev TV:=(T:Ty)×T.den
def fld: (T:Ty)→T.den→Nat→Option TV
 | .pair a _,x,0=>some ⟨a,x.1⟩
 | .pair _ b,x,i+1=>fld b x.2 i
 |_,_,_=>none
def Zmk:Ty→Nat→Nat
 | .pair a b,i+1=>a.size+Zmk b i
 |_,_=>0
def Zwa:Ty→Nat→Option Ty
 | .pair a _,0=>some a
 | .pair _ b,i+1=>Zwa b i
 |_,_=>none
def Kq(U:Ty)(T:Ty)(x:T.den):Option U.den:=if h:T=U then some (h▸x)else none
def Zyn: (T:Ty)→T.den→Nat→TV→Option T.den
 | .pair a _,x,0,y=>(Kq a y.1 y.2).map fun z=>(z,x.2)
 | .pair _ b,x,i+1,y=>(Zyn b x.2 i y).map fun z=>(x.1,z)
 |_,_,_,_=>none
def Fl.snd:Fl→Fl
 | .p _ g=>g
 |f=>f
def Ztr:Fl→Nat→Fl
 | .p a _,0=>a
 | .p _ b,i+1=>Ztr b i
 |f,_=>f
def Zox:Fl→Nat→Fl→Fl
 | .p _ b,0,g=> .p g b
 | .p a b,i+1,g=> .p a (Zox b i g)
 |f,0,g=> .p g f
 |f,i+1,g=> .p f (Zox f i g)
theorem Zap{U T:Ty}{x:T.den}{y:U.den}(h:Kq U T x=some y): (⟨T,x⟩:TV)=⟨U,y⟩:=by
 unfold Kq at h
 split at h
 ·rename_i e;subst e;simp at h;subst h;rfl
 ·cases h
theorem Zpi{a b:Ty}{f:Fl}{x: (Ty.pair a b).den}{vs:List Value}{S:List Nat}(h:rdF w X B (.pair a b) f x vs S):
  ∃v1 v2 S1 S2,vs=v1++v2∧S=S1++S2∧rdF w X B a (Ztr f 0) x.1 v1 S1∧rdF w X B b f.snd x.2 v2 S2:=by
 cases f with
 |u o=>
  unfold rdF at h
  obtain⟨v1,v2,S1,S2,e,e2,h1,h2⟩:=h
  exact⟨v1,v2,S1,S2,e,e2,by unfold rdF Ztr;exact h1,by unfold rdF;exact h2⟩
 |p f g=>exact h
 |d=>
  unfold rdF at h
  obtain⟨h1,h2,h3⟩:=h
  refine⟨vs.take a.size,vs.drop a.size,[],[],by simp,by simp[h3],?_,?_⟩
  ·unfold rdF Ztr;exact⟨by simp[h1,Ty.size],fun u hu=>h2 u (List.mem_of_mem_take hu),rfl⟩
  ·unfold rdF;exact⟨by simp[h1,Ty.size],fun u hu=>h2 u (List.mem_of_mem_drop hu),rfl⟩
theorem Qmb: ∀{T:Ty} {f:Fl} {x:T.den} {i:Nat} {y:TV} {vs:List Value} {S:List Nat},fld T x i=some y→rdF w X B T f x vs S→
  ∃pre mid post S1 S2 S3,vs=pre++ (mid++post)∧S=S1++ (S2++S3)∧pre.length=Zmk T i∧rdF w X B y.1 (Ztr f i) y.2 mid S2∧
   ∀(g:Fl) (y':TV) (mid':List Value) (S2':List Nat) (x':T.den),Zyn T x i y'=some x'→rdF w X B y'.1 g y'.2 mid' S2'→
    rdF w X B T (Zox f i g) x' (pre++ (mid'++post)) (S1++ (S2'++S3))
 | .pair a b,f,x,0,y,vs,S,hy,h=>by
  obtain⟨v1,v2,S1,S2,e,e2,h1,h2⟩:=Zpi h
  simp only[fld,Option.some.injEq]at hy
  subst hy
  refine⟨[],v1,v2,[],S1,S2,by simpa using e,by simpa using e2,by simp[Zmk],h1,?_⟩
  intro g y' mid' S2' x' hs hr
  simp only[Zyn,Option.map_eq_some_iff]at hs
  obtain⟨z,hz,rfl⟩:=hs
  obtain⟨T',yv⟩:=y'
  have:=Zap hz
  cases this
  have:Zox f 0 g= .p g f.snd:=by cases f<;>rfl
  rw[this]
  exact⟨mid',v2,S2',S2,by simp,by simp,hr,h2⟩
 | .pair a b,f,x,i+1,y,vs,S,hy,h=>by
  obtain⟨v1,v2,S1,S2,e,e2,h1,h2⟩:=Zpi h
  simp only[fld]at hy
  obtain⟨pre,mid,post,T1,T2,T3,k1,k2,k3,k4,k5⟩:=Qmb hy h2
  refine⟨v1++pre,mid,post,S1++T1,T2,T3,by rw[e,k1];simp,by rw[e2,k2];simp,by simp[Zmk,Yp h1,k3],?_,?_⟩
  ·have:Ztr f (i+1)=Ztr f.snd i:=by cases f<;>simp[Ztr]<;>(cases i<;>rfl)
   rw[this];exact k4
  ·intro g y' mid' S2' x' hs hr
   simp only[Zyn,Option.map_eq_some_iff]at hs
   obtain⟨z,hz,rfl⟩:=hs
   have:=k5 g y' mid' S2' z hz hr
   have e3:Zox f (i+1) g= .p (Ztr f 0) (Zox f.snd i g):=by cases f<;>rfl
   rw[e3]
   exact⟨v1,_,S1,_,by simp,by simp,h1,this⟩
 | .unit,_,_,_,_,_,_,hy,_| .int _,_,_,_,_,_,_,hy,_| .bool,_,_,_,_,_,_,hy,_| .fnc _,_,_,_,_,_,_,hy,_| .str,_,_,_,_,_,_,hy,_| .slice ..,_,_,_,_,_,_,hy,_| .err,_,_,_,_,_,_,hy,_| .hid _,_,_,_,_,_,_,hy,_| .sptr ..,_,_,_,_,_,_,hy,_| .clo ..,_,_,_,_,_,_,hy,_| .arr ..,_,_,_,_,_,_,hy,_=>by simp[fld]at hy
def Zkj: (T:Ty)→T.den→List Nat→Option TV
 |T,x,[]=>some ⟨T,x⟩
 |T,x,i::p=>match fld T x i with|some y=>Zkj y.1 y.2 p|none=>none
def Zaa:Ty→List Nat→Nat
 |_,[]=>0
 |T,i::p=>Zmk T i+ (match Zwa T i with|some U=>Zaa U p|none=>0)
def Qdf: (T:Ty)→T.den→List Nat→TV→Option T.den
 |T,_,[],y=>Kq T y.1 y.2
 |T,x,i::p,y=>match fld T x i with
  |some z=>match Qdf z.1 z.2 p y with|some z'=>Zyn T x i ⟨z.1,z'⟩|none=>none
  |none=>none
def Zok:Fl→List Nat→Fl
 |f,[]=>f
 |f,i::p=>Zok (Ztr f i) p
def Zqg:Fl→List Nat→Fl→Fl
 |_,[],g=>g
 |f,i::p,g=>Zox f i (Zqg (Ztr f i) p g)
theorem Qtx{T:Ty}{x:T.den}{i:Nat}{y:TV}(h:fld T x i=some y):Zwa T i=some y.1:=by
 induction T generalizing i y with
 |pair a b iha ihb=>
  cases i with
  |zero=>simp only[fld,Option.some.injEq]at h;subst h;rfl
  |succ i=>exact ihb (x:=x.2) h
 |_=>simp[fld]at h
theorem Ziz: ∀{p:List Nat} {T:Ty} {f:Fl} {x:T.den} {y:TV} {vs:List Value} {S:List Nat},Zkj T x p=some y→rdF w X B T f x vs S→
  ∃pre mid post S1 S2 S3,vs=pre++ (mid++post)∧S=S1++ (S2++S3)∧pre.length=Zaa T p∧rdF w X B y.1 (Zok f p) y.2 mid S2∧
   ∀(g:Fl) (y':TV) (mid':List Value) (S2':List Nat) (x':T.den),Qdf T x p y'=some x'→rdF w X B y'.1 g y'.2 mid' S2'→
    rdF w X B T (Zqg f p g) x' (pre++ (mid'++post)) (S1++ (S2'++S3))
 | [],T,f,x,y,vs,S,hy,h=>by
  simp only[Zkj,Option.some.injEq]at hy
  subst hy
  refine⟨[],vs,[],[],S,[],by simp,by simp,by simp[Zaa],h,?_⟩
  intro g y' mid' S2' x' hs hr
  simp only[Qdf]at hs
  obtain⟨T',yv⟩:=y'
  cases Zap hs
  simpa[Zqg]using hr
 |i::p,T,f,x,y,vs,S,hy,h=>by
  simp only[Zkj]at hy
  cases hz:fld T x i with
  |none=>rw[hz]at hy;cases hy
  |some z=>
   rw[hz]at hy
   obtain⟨pre,mid,post,S1,S2,S3,k1,k2,k3,k4,k5⟩:=Qmb hz h
   obtain⟨pre',mid',post',T1,T2,T3,l1,l2,l3,l4,l5⟩:=Ziz hy k4
   refine⟨pre++pre',mid',post'++post,S1++T1,T2,T3++S3,by rw[k1,l1];simp,by rw[k2,l2];simp,by simp[Zaa,Qtx hz,k3,l3],l4,?_⟩
   intro g y' m S2' x' hs hr
   simp only[Qdf,hz]at hs
   cases hq:Qdf z.1 z.2 p y' with
   |none=>rw[hq]at hs;cases hs
   |some z'=>
    rw[hq]at hs
    have:=k5 (Zqg (Ztr f i) p g) ⟨z.1,z'⟩ _ _ x' hs (l5 g y' m S2' z' hq hr)
    simpa[Zqg]using this
theorem Q2p: ∀{T:Ty} {x x':T.den} {i:Nat} {y:TV},fld T x i=some y→ ∃y',fld T x' i=some y'∧y'.1=y.1:=by
 intro T
 induction T with
 |pair a b iha ihb=>
  intro x x' i y h
  cases i with
  |zero=>simp only[fld,Option.some.injEq]at h;subst h;exact⟨⟨a,x'.1⟩,rfl,rfl⟩
  |succ i=>exact ihb (x':=x'.2) h
 |_=>intro x x' i y h;simp[fld]at h
theorem Qga: ∀{p:List Nat} {T:Ty} {x x':T.den} {y:TV},Zkj T x p=some y→ ∃y',Zkj T x' p=some y'∧y'.1=y.1
 | [],T,x,x',y,h=>by simp only[Zkj,Option.some.injEq]at h;subst h;exact⟨⟨T,x'⟩,rfl,rfl⟩
 |i::p,T,x,x',y,h=>by
  simp only[Zkj]at h⊢
  cases hz:fld T x i with
  |none=>rw[hz]at h;cases h
  |some z=>
   rw[hz]at h
   obtain⟨z',h1,h2⟩:=Q2p (x':=x') hz
   rw[h1]
   obtain⟨Z,zv⟩:=z
   obtain⟨Z',zv'⟩:=z'
   simp only at h2
   subst h2
   exact Qga h
theorem Qzw{n:Nat}{t:Ty}{f:Fl}{x: (Ty.arr n t).den}{vs:List Value}{S:List Nat}(h:rdF w X B (.arr n t) f x vs S)(hl:f.live=true): ∃c,f= .u c:=by
 cases f with
 |u c=>exact⟨c,rfl⟩
 |p a b=>simp[rdF]at h
 |d=>simp[Fl.live]at hl
end
end Go.Am
namespace Go.Am
open Go.RowKit
inductive Tm where
 |junk|tup
 |val (T:Ty) (f:Fl) (x:T.den)
 |box (e:TypeId) (T:Ty) (f:Fl) (x:T.den)
 |ptr (r:Nat) (p:List Nat)
 |shp (T:Ty) (x:T.den)
 |bor (r:Nat) (p:List Nat)
 |elp (r:Nat) (p:List Nat) (i:Int) (q:List Nat)
 |gd (g:Nat) (want:Bool) (t:Tm)
 |aep (r:Nat) (p:List Nat) (i:Int)
 |pls (h:Bool) (l:List (Nat×List Nat))
inductive Key where
 |m (t:Nat)|c (t i:Nat)
def Key.beq:Key→Key→Bool
 | .m t,.m u=>Nat.beq t u
 | .c t i,.c u j=>match Nat.beq t u with|true=>Nat.beq i j|false=>false
 |_,_=>false
theorem Key.beq_true{k j:Key}:Key.beq k j=true↔k=j:=by
 cases k<;>cases j<;>simp[Key.beq]
 case c.c t i u j=>
  cases h:Nat.beq t u
  ·simp;intro e;rw[e,Nat.beq_refl]at h;cases h
  ·simp[Nat.eq_of_beq_eq_true h]
instance:DecidableEq Key:=fun k j=>match h:Key.beq k j with
 |true=>isTrue (Key.beq_true.1 h)
 |false=>isFalse fun e=>by rw[Key.beq_true.2 e]at h;cases h
structure St where
 env:List (Key×Tm)
 dirty:List Nat
 lent:List Nat:=[]
structure Y4 where
 G:World→Prop
 GB:Nat→Prop
 lt: ∀w b,G w→GB b→b<w.heap.size
 stays: ∀w w',G w→(∀b,GB b→w'.heap[b]? =w.heap[b]?)→G w'
 soft:Bool:=false
def Y4.none:Y4:={G:=fun _=>True,GB:=fun _=>False,lt:=fun _ _ _ h=>h.elim,stays:=fun _ _ h _=>h}
def Zwz(u v:Value):Prop:=u=v∨(∃k x y,u= .int k x∧v= .int k y)∨(∃x y,u= .bool x∧v= .bool y)∨(∃x y,u= .string x∧v= .string y)
theorem Zwz.refl(u:Value):Zwz u u:= .inl rfl
theorem Zwz.trans{u v x:Value}(h:Zwz u v)(h':Zwz v x):Zwz u x:=by
 rcases h with rfl| ⟨k,a,b,rfl,rfl⟩| ⟨a,b,rfl,rfl⟩| ⟨a,b,rfl,rfl⟩
 ·exact h'
 ·rcases h' with rfl| ⟨_,_,c,e,rfl⟩| ⟨_,_,e,_⟩| ⟨_,_,e,_⟩
  ·exact .inr (.inl ⟨_,_,_,rfl,rfl⟩)
  ·simp only[Value.int.injEq]at e;obtain⟨rfl,rfl⟩:=e;exact .inr (.inl ⟨_,_,_,rfl,rfl⟩)
  ·cases e
  ·cases e
 ·rcases h' with rfl| ⟨_,_,c,e,rfl⟩| ⟨_,_,e,rfl⟩| ⟨_,_,e,_⟩
  ·exact .inr (.inr (.inl ⟨_,_,rfl,rfl⟩))
  ·cases e
  ·exact .inr (.inr (.inl ⟨_,_,rfl,rfl⟩))
  ·cases e
 ·rcases h' with rfl| ⟨_,_,c,e,rfl⟩| ⟨_,_,e,_⟩| ⟨_,_,e,rfl⟩
  ·exact .inr (.inr (.inr ⟨_,_,rfl,rfl⟩))
  ·cases e
  ·cases e
  ·exact .inr (.inr (.inr ⟨_,_,rfl,rfl⟩))
def Zmn(L:Nat→Prop)(w w':World):Prop:= ∀ad u,L ad.block→w.cell? ad=some u→ ∃u',w'.cell? ad=some u'∧Zwz u u'
theorem Zmn.trans{L:Nat→Prop}{w w' w2:World}(h:Zmn L w w')(h':Zmn L w' w2):Zmn L w w2:=fun ad u hL hu=>by
 obtain⟨u',h1,h2⟩:=h ad u hL hu
 obtain⟨u2,h3,h4⟩:=h' ad u' hL h1
 exact⟨u2,h3,h2.trans h4⟩
def Zsi(w:World)(b:Nat):Prop:= ∃c e,w.heap[b]? =some (.cells c e (0,0))
theorem Zsi.lt{w:World}{b:Nat}(h:Zsi w b):b<w.heap.size:=by
 obtain⟨c,e,h⟩:=h
 exact(Array.getElem?_eq_some_iff.1 h).1
def Zr1(w0:World)(L:Nat→Prop):Y4 where
 G w:=Zmn L w0 w∧ ∀b,L b→Zsi w b
 GB:=L
 lt _ b h hb:=(h.2 b hb).lt
 stays w w' h hL:=⟨h.1.trans fun ad u hb hu=>⟨u,by rw[World.cell?_of_block (w:=w) (hL _ hb)];exact hu,Zwz.refl u⟩,fun b hb=>by
  obtain⟨c,e,hc⟩:=h.2 b hb
  exact⟨c,e,by rw[hL b hb];exact hc⟩⟩
 soft:=true
structure Zct(g:Y4) where
 W:World
 B:Nat
 Y:Nat→Prop
 L:Nat→Prop
 X0:Nat→Prop
 fix:List (Nat×Value)
 bB:B≤W.heap.size
 yW: ∀k,Y k→k<W.heap.size
 yL: ∀k,Y k→ ¬L k
 fr:g.soft=true→ ∀k,g.GB k→ ¬Y k
def Zct.mine{g:Y4}(z:Zct g)(k:Nat):Prop:=z.W.heap.size≤k∨z.L k
theorem Zct.sep{g:Y4}(z:Zct g){k b:Nat}(h:z.Y k)(hb:z.mine b):k≠b:=fun e=>by
 subst e
 rcases hb with hb|hb
 ·have:=z.yW k h;omega
 ·exact z.yL k h hb
structure Zct.below{g:Y4}(z:Zct g)(w:World):Prop where
 os:w.os=z.W.os
 tape:w.tape=z.W.tape
 output:w.output=z.W.output
 size:z.W.heap.size≤w.heap.size
 block: ∀k,z.Y k→w.heap[k]? =z.W.heap[k]?
theorem Zct.below.sizeB{g:Y4}{z:Zct g}{w:World}(h:z.below w):z.B≤w.heap.size:=Nat.le_trans z.bB h.size
theorem Zct.below.new{g:Y4}{z:Zct g}{w:World}(h:z.below w):z.mine w.heap.size:= .inl h.size
theorem Zct.below.step{g:Y4}{z:Zct g}{w w':World}(h:z.below w)(hb:Below w.heap.size w w'):z.below w':=
 ⟨hb.os.trans h.os,hb.tape.trans h.tape,hb.output.trans h.output,Nat.le_trans h.size hb.size,fun k hk=>(hb.block k (Nat.lt_of_lt_of_le (z.yW k hk) h.size)).trans (h.block k hk)⟩
def Zct.plain(g:Y4)(w:World)(hs:g.soft=false):Zct g:={fr:=fun h=>Bool.noConfusion (hs.symm.trans h),W:=w,B:=w.heap.size,Y:=(· <w.heap.size),L:=fun _=>False,X0:=(· <w.heap.size),fix:=[],bB:=Nat.le_refl _,yW:=fun _ h=>h,yL:=fun _ _ h=>h}
def Zow:List (Key×Tm)→Key→Tm
 | [],_=> .junk
 | (k,t)::r,j=>match Key.beq k j with
  |true=>t
  |false=>Zow r j
def St.get(s:St)(k:Key):Tm:=Zow s.env k
def St.foul(s:St)(r:Nat):Bool:=s.dirty.any (Nat.beq r)
theorem Z7(k:Key)(t:Tm)(s:List (Key×Tm))(j:Key):Zow ((k,t)::s) j=if k=j then t else Zow s j:=by
 simp only[Zow]
 cases h:Key.beq k j
 ·have:k≠j:=fun e=>by rw[Key.beq_true.2 e]at h;cases h
  simp[this]
 ·simp[Key.beq_true.1 h]
def Qi(a:Act):Key→Value
 | .m t=>a.tmps.getD t undef
 | .c t i=>match a.tmps.getD t undef with
  | .tuple vs=>vs.getD i undef
  |_=>undef
def Key.t:Key→Nat
 | .m t=>t
 | .c t _=>t
theorem Zkw{a:Act}{d:Nat}{v:Value}(h:d<a.tmps.size):Qi (a.put (some d) v) (.m d)=v:=by
 simp[Qi,Act.put,Array.getD,h]
theorem Za2{a:Act}{d:Nat}{v:Value}{k:Key}(h:k.t≠d):Qi (a.put (some d) v) k=Qi a k:=by
 have: (a.tmps.setIfInBounds d v)[k.t]? =a.tmps[k.t]? :=by rw[Array.getElem?_setIfInBounds];simp[Ne.symm h]
 cases k<;>simp only[Key.t]at this<;>simp[Qi,Act.put,Array.getD_eq_getD_getElem?,this]
def Yn(w:World)(s:St)(F:Key→List Nat)(a:Act)(r:Nat)(p:List Nat)(v:Value)(U:Ty):Prop:=
 match s.get (.m r)with
 | .val T _ _=>p=[]∧U=T∧v=Qi a (.m r)
 | .box e T _ x=> ∃b c S y,F (.m r)=b::S∧w.heap[b]? =some (.cells c e (0,0))∧Zkj T x p=some y∧U=y.1∧v=Xz y.1 ((c.toList.drop (Zaa T p)).take y.1.size)
 |_=>False
def atP(s:St)(F:Key→List Nat)(r:Nat)(p:List Nat)(v:Value):Prop:=
 ∃e T f x b S',s.get (.m r)= .box e T f x∧F (.m r)=b::S'∧v= .pointer (some ⟨b,Zaa T p,none⟩)
def Q7n(w:World)(X:Nat→Prop)(s:St)(F:Key→List Nat)(h:Bool)(l:List (Nat×List Nat))(v:Value):Prop:=
 ∃(ad:Addr) (us:List Value),X ad.block∧(∀j u,us[j]? =some u→w.cell? (ad.add j)=some u)∧us.length=l.length∧(∀(j:Nat) (q:Nat×List Nat),l[j]? =some q→ ∃u,us[j]? =some u∧atP s F q.1 q.2 u)∧
  (match h with|true=>v= .slice (some ad) l.length l.length∧l.length≤maxLen|false=>v= .pointer (some ad))
def vt(w:World)(X:Nat→Prop)(B:Nat)(s:St)(F:Key→List Nat)(a:Act)(v:Value)(S:List Nat):Tm→Prop
 | .junk| .tup=>S=[]
 | .val T f x=> ∃vs,v=Xz T vs∧rdF w X B T f x vs S
 | .box e T f x=> ∃b c S',v= .pointer (some ⟨b,0,none⟩)∧S=b::S'∧w.heap[b]? =some (.cells c e (0,0))∧rdF w X B T f x c.toList S'
 | .ptr r p=>S=[]∧ ∃e T f x b S',s.get (.m r)= .box e T f x∧F (.m r)=b::S'∧v= .pointer (some ⟨b,Zaa T p,none⟩)
 | .shp T x=>S=[]∧ ∃ad vs,v= .pointer (some ad)∧X ad.block∧(∀j u,vs[j]? =some u→w.cell? (ad.add j)=some u)∧rd w X B false T x vs []
 | .bor r p=>S=[]∧(s.foul r=false→ ∃U,Yn w s F a r p v U)
 | .elp r p i q=>S=[]∧(s.foul r=false→ ∃e t ad n cap,Yn w s F a r p (.slice (some ad) n cap) (.slice e t)∧0≤i∧i<n∧
   v= .pointer (some (ad.add (i.toNat*t.size+Zaa t q))))
 | .aep r p i=>S=[]∧ ∃e T f x b S' n t y,s.get (.m r)= .box e T f x∧F (.m r)=b::S'∧Zkj T x p=some ⟨.arr n t,y⟩∧0≤i∧i<n∧v= .pointer (some ⟨b,Zaa T p+i.toNat*t.size,none⟩)
 | .pls h l=>S=[]∧Q7n w X s F h l v
 | .gd g want t=>s.foul g=false→s.get (.m g)≠ .junk∧(Qi a (.m g)= .bool want→vt w X B s F a v S t)∧(Qi a (.m g)≠ .bool want→S=[]∧v=undef)
structure R{g:Y4}(n:Nat)(W0:Zct g)(w:World)(X:Nat→Prop)(F:Key→List Nat)(H:List Nat)(s:St)(a:Act):Prop where
 size:a.tmps.size=n
 defers:a.defers=[]
 below:W0.below w
 glob:g.G w
 gx: ∀b,g.GB b→X b
 xs:g.soft=true→ ∀b,X b→g.GB b
 fix: ∀p,p∈W0.fix→p.1∈s.lent∧Qi a (.m p.1)=p.2
 xlt: ∀b,X b→b<w.heap.size
 xin: ∀b,X b→W0.X0 b∨W0.mine b
 x0: ∀b,W0.X0 b→X b
 own: ∀k b,b∈F k→W0.mine b∧b<w.heap.size∧ ¬X b
 nodup: ∀k,(F k).Nodup
 disj: ∀k k' b,b∈F k→b∈F k'→k=k'
 hown: ∀b,b∈H→W0.mine b∧b<w.heap.size∧ ¬X b
 hnodup:H.Nodup
 hdisj: ∀k b,b∈F k→b∉H
 comps: ∀d i,s.get (.c d i)≠ .junk→s.get (.m d)= .tup∧ ∃vs,a.tmps.getD d undef= .tuple vs∧i<vs.size
 slots: ∀k,vt w X W0.B s F a (Qi a k) (F k) (s.get k)
section
variable {g:Y4} {W0:Zct g} {w w':World} {X X':Nat→Prop} {B n:Nat} {own:Bool} {s:St} {F:Key→List Nat} {a:Act} {H:List Nat}
theorem Zlo{r:Nat}{p:List Nat}{v:Value}{U:Ty}(h:Yn w s F a r p v U)(hF: ∀b∈F (.m r),w'.heap[b]? =w.heap[b]?):Yn w' s F a r p v U:=by
 unfold Yn at*
 split at h
 ·exact h
 ·obtain⟨b,c,S,y,h1,h2,h3⟩:=h
  exact⟨b,c,S,y,h1,by rw[hF b (by rw[h1];simp)];exact h2,h3⟩
 ·exact h
theorem Zqk{s2:St}{F2:Key→List Nat}(hX: ∀b,X b→X' b)(hw: ∀b,X b→w'.heap[b]? =w.heap[b]?)(ha: ∀r p v,atP s F r p v→atP s2 F2 r p v){h:Bool}{l:List (Nat×List Nat)}{v:Value}
  (hv:Q7n w X s F h l v):Q7n w' X' s2 F2 h l v:=by
 obtain⟨ad,us,h1,h2,h3,h4,h5⟩:=hv
 refine⟨ad,us,hX _ h1,fun j u hj=> ?_,h3,fun j q hq=> ?_,h5⟩
 ·have hb: (ad.add j).block=ad.block:=by unfold Addr.add;split<;>rfl
  rw[World.cell?_of_block (w:=w) (by rw[hb];exact hw _ h1)];exact h2 j u hj
 ·obtain⟨u,hu,ht⟩:=h4 j q hq
  exact⟨u,hu,ha _ _ _ ht⟩
theorem Zh3(hX: ∀b,X b→X' b)(hw: ∀b,X b→w'.heap[b]? =w.heap[b]?)(hF: ∀k b,b∈F k→w'.heap[b]? =w.heap[b]?){v:Value}{S:List Nat}(hS: ∀b∈S,w'.heap[b]? =w.heap[b]?): ∀{t:Tm},
  vt w X B s F a v S t→vt w' X' B s F a v S t
 | .junk,h| .tup,h=>h
 | .val T f x,⟨vs,h1,h2⟩=>⟨vs,h1,Zph hX hw h2 hS⟩
 | .box e T f x,⟨b,c,S',h1,h2,h3,h4⟩=>
  ⟨b,c,S',h1,h2,by rw[hS b (by rw[h2];simp)];exact h3,Zph hX hw h4 fun b' hb'=>hS b' (by rw[h2];simp[hb'])⟩
 | .ptr r p,h=>h
 | .aep r p i,h=>h
 | .pls _ _,⟨h0,h⟩=>⟨h0,Zqk hX hw (fun _ _ _ h=>h) h⟩
 | .shp T x,⟨h0,ad,vs,h1,h2,h3,h4⟩=>
  ⟨h0,ad,vs,h1,hX _ h2,fun j u hj=>by
   have hb: (ad.add j).block=ad.block:=by unfold Addr.add;split<;>rfl
   rw[World.cell?_of_block (w:=w) (by rw[hb];exact hw _ h2)];exact h3 j u hj,Zfe hX hw h4 (by simp)⟩
 | .bor r p,⟨h0,h1⟩=>⟨h0,fun hc=>let⟨U,h⟩:=h1 hc;⟨U,Zlo h (hF (.m r))⟩⟩
 | .elp r p i q,⟨h0,h1⟩=>⟨h0,fun hc=>let⟨e,t,ad,n,cap,h,h'⟩:=h1 hc;⟨e,t,ad,n,cap,Zlo h (hF (.m r)),h'⟩⟩
 | .gd g want t,h=>fun hc=>let⟨h0,h1,h2⟩:=h hc;⟨h0,fun hg=>Zh3 hX hw hF hS (h1 hg),h2⟩
theorem R.world(h:R n W0 w X F H s a)(hb:W0.below w')(hs:w.heap.size≤w'.heap.size)(hX: ∀b,X b→w'.heap[b]? =w.heap[b]?)
  (hF: ∀k b,b∈F k→w'.heap[b]? =w.heap[b]?):R n W0 w' X F H s a:=
 {h with
  below:=hb
  glob:=g.stays _ _ h.glob fun b hb=>hX b (h.gx b hb)
  xlt:=fun b hb'=>Nat.lt_of_lt_of_le (h.xlt b hb') hs
  own:=fun k b hb'=>let⟨h1,h2,h3⟩:=h.own k b hb';⟨h1,Nat.lt_of_lt_of_le h2 hs,h3⟩
  hown:=fun b hb'=>let⟨h1,h2,h3⟩:=h.hown b hb';⟨h1,Nat.lt_of_lt_of_le h2 hs,h3⟩
  slots:=fun k=>Zh3 (fun _ h=>h) hX hF (hF k) (h.slots k)}
theorem R.drop{S:List Nat}(h:R n W0 w X F (S++H) s a):R n W0 w X F H s a:=
 {h with
  hown:=fun b hb=>h.hown b (by simp[hb])
  hnodup:=(List.nodup_append.1 h.hnodup).2.1
  hdisj:=fun k b hb hh=>h.hdisj k b hb (by simp[hh])}
theorem R.hand{S:List Nat}(h:R n W0 w X F H s a)(hS: ∀b∈S,W0.mine b∧b<w.heap.size∧ ¬X b)(hn:S.Nodup)(hF: ∀k b,b∈F k→b∉S)(hH: ∀b∈S,b∉H):
  R n W0 w X F (S++H) s a:=
 {h with
  hown:=fun b hb=>(List.mem_append.1 hb).elim (hS b) (h.hown b)
  hnodup:=List.nodup_append.2 ⟨hn,h.hnodup,fun x hx y hy e=>hH x hx (by rw[e];exact hy)⟩
  hdisj:=fun k b hb hh=>(List.mem_append.1 hh).elim (hF k b hb) (h.hdisj k b hb)}
theorem R.give{S:List Nat}(hs:g.soft=false)(h:R n W0 w X F (S++H) s a):R n W0 w (fun b=>X b∨b∈S) F H s a:=
 {h.drop with
  gx:=fun b hb=> .inl (h.gx b hb)
  xs:=fun e=>by rw[hs]at e;cases e
  xlt:=fun b hb=>hb.elim (h.xlt b) fun hb=>(h.hown b (by simp[hb])).2.1
  xin:=fun b hb=>hb.elim (h.xin b) fun hb=> .inr (h.hown b (by simp[hb])).1
  x0:=fun b hb=> .inl (h.x0 b hb)
  own:=fun k b hb=>let⟨h1,h2,h3⟩:=h.own k b hb;⟨h1,h2,fun hx=>hx.elim h3 fun hS=>h.hdisj k b hb (by simp[hS])⟩
  hown:=fun b hb=>let⟨h1,h2,h3⟩:=h.hown b (by simp[hb]);⟨h1,h2,fun hx=>hx.elim h3 fun hS=>(List.nodup_append.1 h.hnodup).2.2 b hS b hb rfl⟩
  slots:=fun k=>Zh3 (fun _ h=> .inl h) (fun _ _=>rfl) (fun _ _ _=>rfl) (fun _ _=>rfl) (h.slots k)}
def St.free(s:St)(d:Nat):Bool:= !(s.lent.any (Nat.beq d))
def J1(s:St)(d:Nat):Bool:=
 match s.get (.m d)with
 | .box .. | .tup=>false
 |_=>s.free d
theorem Qna{s:St}{d:Nat}(h:J1 s d=true):d∉s.lent:=by
 intro e
 have:s.free d=false:=by simp only[St.free,Bool.not_eq_false',List.any_eq_true];exact⟨d,e,Nat.beq_refl d⟩
 unfold J1 at h
 split at h
 ·cases h
 ·cases h
 ·rw[this]at h;cases h
def Yo(s:St)(d:Nat)(t:Tm):St:=
 {env:=(.m d,t)::s.env,dirty:=match s.get (.m d)with| .junk=>s.dirty|_=>d::s.dirty,lent:=s.lent}
theorem Ziy(s:St)(d:Nat)(t:Tm)(k:Key): (Yo s d t).get k=if Key.m d=k then t else s.get k:=Z7 _ _ _ _
theorem Zq6(s:St)(d:Nat)(t:Tm): (Yo s d t).get (.m d)=t:=by rw[Ziy];simp
theorem Qhm{s:St}{d:Nat}{t:Tm}{r:Nat}(h: (Yo s d t).foul r=false):s.foul r=false∧(r=d→s.get (.m r)= .junk):=by
 unfold Yo St.foul at*
 simp only at h
 split at h
 ·rename_i hj
  exact⟨h,fun e=>by rw[e];exact hj⟩
 ·simp only[List.any_cons,Bool.or_eq_false_iff]at h
  refine⟨h.2,fun e=> ?_⟩
  subst e
  rw[Nat.beq_refl]at h
  cases h.1
abbrev Qf(F:Key→List Nat)(k:Key)(S:List Nat):Key→List Nat:=fun j=>if j=k then S else F j
theorem Qs7{d:Nat}{t:Tm}{v u:Value}{S:List Nat}{r:Nat}{p:List Nat}{U:Ty}(hr:r≠d)
  (h:Yn w s F a r p u U):Yn w (Yo s d t) (Qf F (.m d) S) (a.put (some d) v) r p u U:=by
 have e: (Yo s d t).get (.m r)=s.get (.m r):=by rw[Ziy];simp[Ne.symm hr]
 unfold Yn at*
 rw[e]
 cases hg:s.get (.m r)<;>rw[hg]at h<;>simp only at h⊢
 ·rw[Za2 (by simpa[Key.t]using hr)];exact h
 ·simpa[Qf,hr]using h
theorem Qqp{r:Nat}{p:List Nat}{v:Value}{U:Ty}(h:Yn w s F a r p v U):s.get (.m r)≠ .junk:=by
 intro e;unfold Yn at h;rw[e]at h;exact h
theorem Q4i{d:Nat}{t:Tm}{S0:List Nat}(hd:J1 s d=true){r:Nat}{p:List Nat}{v:Value}(hu:atP s F r p v):atP (Yo s d t) (Qf F (.m d) S0) r p v:=by
 obtain⟨e,T,f,x,b,S',h1,h2,h3⟩:=hu
 have hr:r≠d:=fun e'=>by subst e';simp[J1,h1]at hd
 refine⟨e,T,f,x,b,S',?_,by simp[Qf,hr,h2],h3⟩
 rw[Ziy];simp[Ne.symm hr,h1]
theorem Qy3{d:Nat}{t:Tm}{v0:Value}{S0:List Nat}(hd:J1 s d=true){v:Value}{S:List Nat}: ∀{u:Tm},
  vt w X B s F a v S u→vt w X B (Yo s d t) (Qf F (.m d) S0) (a.put (some d) v0) v S u:=by
 intro u hu
 induction u with
 |junk=>exact hu
 |tup=>exact hu
 |val T f x=>exact hu
 |box e T f x=>exact hu
 |shp T x=>exact hu
 |ptr r p=>
  obtain⟨h0,e,T,f,x,b,S',h1,h2,h3⟩:=hu
  have hr:r≠d:=fun e'=>by subst e';simp[J1,h1]at hd
  refine⟨h0,e,T,f,x,b,S',?_,by simp[Qf,hr,h2],h3⟩
  rw[Ziy];simp[Ne.symm hr,h1]
 |aep r p i=>
  obtain⟨h0,e,T,f,x,b,S',n,t',y,h1,h2,h3⟩:=hu
  have hr:r≠d:=fun e'=>by subst e';simp[J1,h1]at hd
  refine⟨h0,e,T,f,x,b,S',n,t',y,?_,by simp[Qf,hr,h2],h3⟩
  rw[Ziy];simp[Ne.symm hr,h1]
 |bor r p=>
  obtain⟨h0,h1⟩:=hu
  refine⟨h0,fun hc=> ?_⟩
  obtain⟨hc,hj⟩:=Qhm hc
  obtain⟨U,h⟩:=h1 hc
  have hr:r≠d:=fun e=>Qqp h (hj e)
  exact⟨U,Qs7 hr h⟩
 |elp r p i q=>
  obtain⟨h0,h1⟩:=hu
  refine⟨h0,fun hc=> ?_⟩
  obtain⟨hc,hj⟩:=Qhm hc
  obtain⟨e,t',ad,n,cap,h,h2,h3,h4⟩:=h1 hc
  have hr:r≠d:=fun e=>Qqp h (hj e)
  exact⟨e,t',ad,n,cap,Qs7 hr h,h2,h3,h4⟩
 |pls h l=>exact⟨hu.1,Zqk (fun _ h=>h) (fun _ _=>rfl) (fun _ _ _ h=>Q4i hd h) hu.2⟩
 |gd g want u ih=>
  intro hc
  obtain⟨hc,hj⟩:=Qhm hc
  obtain⟨h0,h1,h2⟩:=hu hc
  have hg:g≠d:=fun e=>h0 (hj e)
  have hv:Qi (a.put (some d) v0) (.m g)=Qi a (.m g):=Za2 (by simpa[Key.t]using hg)
  exact⟨by rw[Ziy];simpa[Ne.symm hg]using h0,fun hb=>ih (h1 (by rw[←hv];exact hb)),fun hb=>h2 (by rw[←hv];exact hb)⟩
theorem R.put{d:Nat}{t:Tm}{v:Value}{S:List Nat}(h:R n W0 w X F (S++H) s a)(hd:J1 s d=true)(hn:d<n)
  (hr:vt w X W0.B s F a v S t):
  R n W0 w X (Qf F (.m d) S) H (Yo s d t) (a.put (some d) v) where
 size:=by simp[Act.put,h.size]
 defers:=by simp[Act.put,h.defers]
 below:=h.below
 glob:=h.glob
 gx:=h.gx
 xs:=h.xs
 fix:=fun p hp=>⟨(h.fix p hp).1,by
  have:=Qna hd
  have hne:p.1≠d:=fun e=>this (e▸(h.fix p hp).1)
  rw[Za2 (by simpa[Key.t]using hne)]
  exact(h.fix p hp).2⟩
 xlt:=h.xlt
 xin:=h.xin
 x0:=h.x0
 own:=fun k b hb=>by
  simp only[Qf]at hb
  split at hb
  ·exact h.hown b (by simp[hb])
  ·exact h.own k b hb
 nodup:=fun k=>by
  simp only[Qf]
  split
  ·exact(List.nodup_append.1 h.hnodup).1
  ·exact h.nodup k
 disj:=fun k k' b hb hb'=>by
  simp only[Qf]at hb hb'
  split at hb<;>split at hb'
  ·rename_i e1 e2;rw[e1,e2]
  ·exact absurd (by simp[hb]) (h.hdisj k' b hb')
  ·exact absurd (by simp[hb']) (h.hdisj k b hb)
  ·exact h.disj k k' b hb hb'
 hown:=h.drop.hown
 hnodup:=h.drop.hnodup
 hdisj:=fun k b hb=>by
  simp only[Qf]at hb
  split at hb
  ·exact fun hh=>(List.nodup_append.1 h.hnodup).2.2 b hb b hh rfl
  ·exact h.drop.hdisj k b hb
 comps:=fun d' i hc=>by
  rw[Ziy]at hc⊢
  simp only[reduceCtorEq,if_false]at hc
  obtain⟨h1,h2⟩:=h.comps d' i hc
  by_cases e:d=d'
  ·subst e;simp[J1,h1]at hd
  ·refine⟨by simpa[e]using h1,?_⟩
   have:=Za2 (a:=a) (v:=v) (k:= .m d') (d:=d) (by simpa[Key.t]using Ne.symm e)
   simp only[Qi]at this
   rw[this];exact h2
 slots:=fun k=>by
  by_cases hk:k= .m d
  ·subst hk
   rw[Zq6,Zkw (by rw[h.size];exact hn)]
   have:=Qy3 (t:=t) (v0:=v) (S0:=S) hd hr
   simpa[Qf]using this
  ·have e:Qf F (.m d) S k=F k:=by simp[Qf,hk]
   rw[Ziy,e]
   simp only[Ne.symm hk,if_false]
   by_cases hk2:k.t=d
   ·cases k with
    |m t=>simp[Key.t]at hk2;subst hk2;exact absurd rfl hk
    |c t i=>
     simp[Key.t]at hk2
     subst hk2
     have hj:s.get (.c t i)= .junk:=Classical.byContradiction fun hc=>by
      have:=(h.comps t i hc).1
      simp[J1,this]at hd
     have:=h.slots (.c t i)
     rw[hj]at this⊢
     exact this
   ·rw[Za2 hk2]
    exact Qy3 hd (h.slots k)
def Ka(s:St)(r:Nat)(t:Tm):St:={env:=(.m r,t)::s.env,dirty:=r::s.dirty,lent:=s.lent}
theorem Ym(s:St)(r:Nat)(t:Tm)(k:Key): (Ka s r t).get k=if Key.m r=k then t else s.get k:=Z7 _ _ _ _
theorem Zxf{r' r:Nat}{t:Tm}(h: (Ka s r t).foul r'=false):s.foul r'=false∧r'≠r:=by
 unfold Ka St.foul at*
 simp only[List.any_cons,Bool.or_eq_false_iff]at h
 refine⟨h.2,fun e=> ?_⟩
 subst e
 rw[Nat.beq_refl]at h
 cases h.1
theorem Q8s{d:Nat}{t:Tm}{u:Value}{S:List Nat}{r:Nat}{p:List Nat}{U:Ty}(hr:r≠d)
  (hF: ∀b∈F (.m r),w'.heap[b]? =w.heap[b]?) (h:Yn w s F a r p u U):Yn w' (Ka s d t) (Qf F (.m d) S) a r p u U:=by
 have e: (Ka s d t).get (.m r)=s.get (.m r):=by rw[Ym];simp[Ne.symm hr]
 have h:=Zlo h hF
 unfold Yn at*
 rw[e]
 cases hg:s.get (.m r)<;>rw[hg]at h<;>simp only at h⊢
 ·exact h
 ·simpa[Qf,hr]using h
def Qy7(w w':World)(s s2:St)(F F2:Key→List Nat)(a:Act)(d:Nat):Prop:=s2.get (.m d)≠ .junk∧ ∀p v U,Yn w s F a d p v U→Yn w' s2 F2 a d p v U
structure Z5x(w w':World)(s s2:St)(F F2:Key→List Nat)(a:Act)(d:Nat)(t:Tm):Prop where
 lent:s2.lent=s.lent
 get: ∀k,s2.get k=if Key.m d=k then t else s.get k
 foul: ∀r,s2.foul r=false→s.foul r=false∧(r=d→Qy7 w w' s s2 F F2 a d)
theorem Qs4{d:Nat}{t:Tm}{F2:Key→List Nat}:Z5x w w' s (Ka s d t) F F2 a d t:=⟨rfl,Ym s d t,fun _ h=>⟨(Zxf h).1,fun e=>absurd e (Zxf h).2⟩⟩
theorem Qqq{s2:St}{d:Nat}{t:Tm}{u:Value}{S:List Nat}{r:Nat}{p:List Nat}{U:Ty}(ht:Z5x w w' s s2 F (Qf F (.m d) S) a d t)(hr:r≠d)
  (hF: ∀b∈F (.m r),w'.heap[b]? =w.heap[b]?) (h:Yn w s F a r p u U):Yn w' s2 (Qf F (.m d) S) a r p u U:=by
 have e:s2.get (.m r)=s.get (.m r):=by rw[ht.get];simp[Ne.symm hr]
 have h:=Zlo h hF
 unfold Yn at*
 rw[e]
 cases hg:s.get (.m r)<;>rw[hg]at h<;>simp only at h⊢
 ·exact h
 ·simpa[Qf,hr]using h
theorem Qmh{s2:St}{d:Nat}{t:Tm}{S0:List Nat}{v:Value}{S:List Nat}(ht:Z5x w w' s s2 F (Qf F (.m d) S0) a d t)(hX: ∀b,X b→X' b)(hw: ∀b,X b→w'.heap[b]? =w.heap[b]?)
  (hF: ∀k b,k≠ .m d→b∈F k→w'.heap[b]? =w.heap[b]?) (hS: ∀b∈S,w'.heap[b]? =w.heap[b]?)
  (same: ∀e T f x b S',s.get (.m d)= .box e T f x→F (.m d)=b::S'→ ∃f' x' S'',t= .box e T f' x'∧S0=b::S''): ∀{u:Tm},
  vt w X B s F a v S u→vt w' X' B s2 (Qf F (.m d) S0) a v S u:=by
 intro u hu
 have vA: ∀{r:Nat} {p:List Nat} {v:Value} {U:Ty},(r=d→Qy7 w w' s s2 F (Qf F (.m d) S0) a d)→Yn w s F a r p v U→Yn w' s2 (Qf F (.m d) S0) a r p v U:=by
  intro r p v U hk hv
  by_cases hr:r=d
  ·subst hr;exact(hk rfl).2 _ _ _ hv
  ·exact Qqq ht hr (fun b=>hF (.m r) b (by simpa using hr)) hv
 induction u with
 |junk=>exact hu
 |tup=>exact hu
 |val T f x=>exact Zh3 (s:=s) (F:=fun _=>[]) (a:=a) (v:=v) (t:= .val T f x) hX hw (by simp) hS (show vt w X B s (fun _=>[]) a v S (.val T f x)from hu)
 |box e T f x=>exact Zh3 (s:=s) (F:=fun _=>[]) (a:=a) (v:=v) (t:= .box e T f x) hX hw (by simp) hS (show vt w X B s (fun _=>[]) a v S (.box e T f x)from hu)
 |shp T x=>exact Zh3 (s:=s) (F:=fun _=>[]) (a:=a) (v:=v) (t:= .shp T x) hX hw (by simp) hS (show vt w X B s (fun _=>[]) a v S (.shp T x)from hu)
 |ptr r p=>
  obtain⟨h0,e,T,f,x,b,S',h1,h2,h3⟩:=hu
  by_cases hr:d=r
  ·subst hr
   obtain⟨f',x',S'',rfl,rfl⟩:=same e T f x b S' h1 h2
   exact⟨h0,e,T,f',x',b,S'',by rw[ht.get];simp,by simp[Qf],h3⟩
  ·exact⟨h0,e,T,f,x,b,S',by rw[ht.get];simp[hr,h1],by simp[Qf,Ne.symm hr,h2],h3⟩
 |aep r p i=>
  obtain⟨h0,e,T,f,x,b,S',n,t',y,h1,h2,h3,h4⟩:=hu
  by_cases hr:d=r
  ·subst hr
   obtain⟨f',x',S'',rfl,rfl⟩:=same e T f x b S' h1 h2
   obtain⟨⟨T2,y2⟩,k1,k2⟩:=Qga (x':=x') h3
   simp only at k2
   subst k2
   exact⟨h0,e,T,f',x',b,S'',n,t',y2,by rw[ht.get];simp,by simp[Qf],k1,h4⟩
  ·exact⟨h0,e,T,f,x,b,S',n,t',y,by rw[ht.get];simp[hr,h1],by simp[Qf,Ne.symm hr,h2],h3,h4⟩
 |bor r p=>
  obtain⟨h0,h1⟩:=hu
  refine⟨h0,fun hc=> ?_⟩
  obtain⟨hc,hj⟩:=ht.foul r hc
  obtain⟨U,h⟩:=h1 hc
  exact⟨U,vA hj h⟩
 |elp r p i q=>
  obtain⟨h0,h1⟩:=hu
  refine⟨h0,fun hc=> ?_⟩
  obtain⟨hc,hj⟩:=ht.foul r hc
  obtain⟨e,t',ad,n,cap,h,h2,h3,h4⟩:=h1 hc
  exact⟨e,t',ad,n,cap,vA hj h,h2,h3,h4⟩
 |pls hh l=>
  refine⟨hu.1,Zqk hX hw (fun r p v ha=> ?_) hu.2⟩
  obtain⟨e,T,f,x,b,S',h1,h2,h3⟩:=ha
  by_cases hr:d=r
  ·subst hr
   obtain⟨f',x',S'',rfl,rfl⟩:=same e T f x b S' h1 h2
   exact⟨e,T,f',x',b,S'',by rw[ht.get];simp,by simp[Qf],h3⟩
  ·exact⟨e,T,f,x,b,S',by rw[ht.get];simp[hr,h1],by simp[Qf,Ne.symm hr,h2],h3⟩
 |gd g want u ih=>
  intro hc
  obtain⟨hc,hj⟩:=ht.foul g hc
  obtain⟨h0,h1,h2⟩:=hu hc
  refine⟨?_,fun hb=>ih (h1 hb),h2⟩
  by_cases hg:g=d
  ·subst hg;exact(hj rfl).1
  ·rw[ht.get];simpa[Ne.symm hg]using h0
theorem R.turn'{s2:St}{r:Nat}{t:Tm}{S' H':List Nat}(h:R n W0 w X F H s a)(hT:Z5x w w' s s2 F (Qf F (.m r) S') a r t)
  (hb:W0.below w') (hs:w.heap.size≤w'.heap.size) (hX: ∀b,X b→w'.heap[b]? =w.heap[b]?)
  (hF: ∀k b,k≠ .m r→b∈F k→w'.heap[b]? =w.heap[b]?)
  (hin: ∀b,b∈S'++H'→b∈F (.m r)++H) (hn: (S'++H').Nodup) (ht:s.get (.m r)≠ .tup)
  (same: ∀e T f x b S,s.get (.m r)= .box e T f x→F (.m r)=b::S→ ∃f' x' S'',t= .box e T f' x'∧S'=b::S'')
  (hr:vt w' X W0.B s2 (Qf F (.m r) S') a (Qi a (.m r)) S' t):
  R n W0 w' X (Qf F (.m r) S') H' s2 a:=by
 have hin': ∀b,b∈S'++H'→W0.mine b∧b<w.heap.size∧ ¬X b:=fun b hb=>
  (List.mem_append.1 (hin b hb)).elim (h.own _ b) (h.hown b)
 have hsep: ∀k b,k≠ .m r→b∈F k→b∉S'++H':=fun k b hk hb hb'=>
  (List.mem_append.1 (hin b hb')).elim (fun hb'=>hk (h.disj _ _ b hb hb')) (h.hdisj k b hb)
 exact
 {size:=h.size
  defers:=h.defers
  below:=hb
  glob:=g.stays _ _ h.glob fun b hb=>hX b (h.gx b hb)
  gx:=h.gx
  xs:=h.xs
  fix:=fun p hp=>⟨by rw[hT.lent];exact(h.fix p hp).1,(h.fix p hp).2⟩
  xlt:=fun b hb=>Nat.lt_of_lt_of_le (h.xlt b hb) hs
  xin:=h.xin
  x0:=h.x0
  own:=fun k b hb=>by
   simp only[Qf]at hb
   split at hb
   ·obtain⟨h1,h2,h3⟩:=hin' b (by simp[hb]);exact⟨h1,Nat.lt_of_lt_of_le h2 hs,h3⟩
   ·obtain⟨h1,h2,h3⟩:=h.own k b hb;exact⟨h1,Nat.lt_of_lt_of_le h2 hs,h3⟩
  nodup:=fun k=>by
   simp only[Qf]
   split
   ·exact(List.nodup_append.1 hn).1
   ·exact h.nodup k
  disj:=fun k k' b hb hb'=>by
   simp only[Qf]at hb hb'
   split at hb<;>split at hb'
   ·rename_i e1 e2;rw[e1,e2]
   ·rename_i e1 e2;exact absurd (by simp[hb]) (hsep k' b e2 hb')
   ·rename_i e1 e2;exact absurd (by simp[hb']) (hsep k b e1 hb)
   ·exact h.disj k k' b hb hb'
  hown:=fun b hb=>by obtain⟨h1,h2,h3⟩:=hin' b (by simp[hb]);exact⟨h1,Nat.lt_of_lt_of_le h2 hs,h3⟩
  hnodup:=(List.nodup_append.1 hn).2.1
  hdisj:=fun k b hb=>by
   simp only[Qf]at hb
   split at hb
   ·exact fun hh=>(List.nodup_append.1 hn).2.2 b hb b hh rfl
   ·rename_i e1;exact fun hh=>hsep k b e1 hb (by simp[hh])
  comps:=fun d' i hc=>by
   rw[hT.get]at hc⊢
   simp only[reduceCtorEq,if_false]at hc
   obtain⟨h1,h2⟩:=h.comps d' i hc
   by_cases e:r=d'
   ·subst e;exact absurd h1 ht
   ·exact⟨by simpa[e]using h1,h2⟩
  slots:=fun k=>by
   by_cases hk:k= .m r
   ·subst hk;rw[hT.get];simpa[Qf]using hr
   ·have e:Qf F (.m r) S' k=F k:=by simp[Qf,hk]
    rw[hT.get,e]
    simp only[Ne.symm hk,if_false]
    exact Qmh hT (fun _ h=>h) hX hF (fun b=>hF k b hk) same (h.slots k)}
theorem R.turn{r:Nat}{t:Tm}{S' H':List Nat}(h:R n W0 w X F H s a)
  (hb:W0.below w') (hs:w.heap.size≤w'.heap.size) (hX: ∀b,X b→w'.heap[b]? =w.heap[b]?)
  (hF: ∀k b,k≠ .m r→b∈F k→w'.heap[b]? =w.heap[b]?)
  (hin: ∀b,b∈S'++H'→b∈F (.m r)++H) (hn: (S'++H').Nodup) (ht:s.get (.m r)≠ .tup)
  (same: ∀e T f x b S,s.get (.m r)= .box e T f x→F (.m r)=b::S→ ∃f' x' S'',t= .box e T f' x'∧S'=b::S'')
  (hr:vt w' X W0.B (Ka s r t) (Qf F (.m r) S') a (Qi a (.m r)) S' t):
  R n W0 w' X (Qf F (.m r) S') H' (Ka s r t) a:=
 h.turn' Qs4 hb hs hX hF hin hn ht same hr
def Zuo(s:St)(r:Nat)(t:Tm):St:={env:=(.m r,t)::s.env,dirty:=s.dirty,lent:=s.lent}
theorem Kp(s:St)(r:Nat)(t:Tm)(k:Key): (Zuo s r t).get k=if Key.m r=k then t else s.get k:=Z7 _ _ _ _
theorem Zqr{d:Nat}{t:Tm}{F2:Key→List Nat}(h:Qy7 w w' s (Zuo s d t) F F2 a d):Z5x w w' s (Zuo s d t) F F2 a d t:=⟨rfl,Kp s d t,fun _ h'=>⟨h',fun _=>h⟩⟩
end
end Go.Am
namespace Go.Am
open Go.RowKit
def Q3l{α:Type}(f:List Value→Option (α×List Value)):Nat→List Value→Option (List α×List Value)
 |0,vs=>some ([],vs)
 |n+1,vs=>match f vs with
  |some (x,r)=>match Q3l f n r with
   |some (xs,r')=>some (x::xs,r')
   |none=>none
  |none=>none
def ofC: (T:Ty)→List Value→Option (T.den×List Value)
 | .unit,vs=>some ((),vs)
 | .int k,vs=>match vs with| .int k' n::r=>if k'=k then some (n,r)else none|_=>none
 | .bool,vs=>match vs with| .bool b::r=>some (b,r)|_=>none
 | .fnc _,_=>none
 | .str,vs=>match vs with| .string s::r=>some (s.data.toList,r)|_=>none
 | .slice _ _,vs=>match vs with| .slice none 0 0::r=>some ([],r)|_=>none
 | .pair a b,vs=>match ofC a vs with
  |some (x,r)=>match ofC b r with
   |some (y,r')=>some ((x,y),r')
   |none=>none
  |none=>none
 | .arr n t,vs=>Q3l (ofC t) n vs
 | .err,vs=>match vs with| .nilIface::r=>some (true,r)|_=>none
 | .hid _,_=>none
 | .sptr ..,_=>none
 | .clo ..,_=>none
def Z3n(T:Ty)(v:Value):Option T.den:=
 match(match T with
  | .unit| .pair .. | .arr .. =>(match v with| .agg cs=>some cs.toList|_=>none)
  |_=>some [v])with
 |some vs=>match ofC T vs with
  |some (x,[])=>some x
  |_=>none
 |none=>none
def zero: (T:Ty)→T.den
 | .unit=>()
 | .int _=>(0:Int)
 | .bool=>false
 | .fnc _=>()
 | .str=>[]
 | .slice _ _=>[]
 | .pair a b=>(zero a,zero b)
 | .arr n t=>List.replicate n (zero t)
 | .err=>true
 | .hid _=>()
 | .sptr _ t=>zero t
 | .clo _ t=>zero t
def J7:Ty→List Value
 | .unit=>[]
 | .int k=>[.int k 0]
 | .bool=>[.bool false]
 | .fnc f=>[.func (.func f) #[] #[]]
 | .str=>[.string ⟨#[]⟩]
 | .slice _ _=>[.slice none 0 0]
 | .pair a b=>J7 a++J7 b
 | .arr n t=>(List.replicate n (J7 t)).flatten
 | .err=>[.nilIface]
 | .hid t=>(J7 t).take 1
 | .sptr .. =>[.pointer none]
 | .clo f _=>[.func (.func f) #[] #[]]
section
variable {g:Y4} {W0:Zct g} {w w':World} {X X':Nat→Prop} {B n:Nat} {own:Bool} {s:St} {F:Key→List Nat} {a:Act} {H:List Nat}
theorem Qzm(e:TypeId)(sz:Nat):hdr w X B own e sz 0 (.slice none 0 0) [] []:=by
 cases own
 ·exact⟨rfl,by simp,none,0,rfl,Nat.le_refl _,by simp[maxLen],.inl ⟨rfl,rfl,rfl⟩⟩
 ·exact⟨World.ownsRow_nil _ _ _ _,rfl⟩
theorem Qzv{α:Type}{f:List Value→Option (α×List Value)}{r:α→List Value→List Nat→Prop}(hf: ∀vs x q,f vs=some (x,q)→ ∃v1,vs=v1++q∧r x v1 []):
  ∀{n:Nat} {vs:List Value} {xs:List α} {q:List Value},Q3l f n vs=some (xs,q)→ ∃v1,vs=v1++q∧xs.length=n∧Zbf r xs v1 []
 |0,vs,xs,q,h=>by simp only[Q3l,Option.some.injEq,Prod.mk.injEq]at h;obtain⟨rfl,rfl⟩:=h;exact⟨[],rfl,rfl,rfl,rfl⟩
 |n+1,vs,xs,q,h=>by
  simp only[Q3l]at h
  split at h
  ·rename_i x r1 h1
   split at h
   ·rename_i xs' r2 h2
    simp only[Option.some.injEq,Prod.mk.injEq]at h
    obtain⟨rfl,rfl⟩:=h
    obtain⟨v1,rfl,k1⟩:=hf _ _ _ h1
    obtain⟨v2,rfl,k2,k3⟩:=Qzv hf h2
    exact⟨v1++v2,by simp,by simp[k2],v1,v2,[],[],rfl,rfl,k1,k3⟩
   ·cases h
  ·cases h
theorem Q7i: ∀{T:Ty} {vs:List Value} {x:T.den} {q:List Value},ofC T vs=some (x,q)→ ∃v1,vs=v1++q∧rd w X B own T x v1 []:=by
 intro T
 induction T with
 |unit=>intro vs x q h;simp only[ofC,Option.some.injEq,Prod.mk.injEq]at h;obtain⟨_,rfl⟩:=h;exact⟨[],rfl,rfl,rfl⟩
 |int k=>
  intro vs x q h
  simp only[ofC]at h
  split at h
  ·rename_i k' m r
   split at h
   ·rename_i e;subst e
    simp only[Option.some.injEq,Prod.mk.injEq]at h
    obtain⟨rfl,rfl⟩:=h
    exact⟨[_],rfl,rfl,rfl⟩
   ·cases h
  ·cases h
 |bool=>
  intro vs x q h
  simp only[ofC]at h
  split at h
  ·simp only[Option.some.injEq,Prod.mk.injEq]at h
   obtain⟨rfl,rfl⟩:=h
   exact⟨[_],rfl,rfl,rfl⟩
  ·cases h
 |fnc f=>intro vs x q h;simp[ofC]at h
 |hid t=>intro vs x q h;simp[ofC]at h
 |sptr e t=>intro vs x q h;simp[ofC]at h
 |clo f t=>intro vs x q h;simp[ofC]at h
 |err=>
  intro vs x q h
  simp only[ofC]at h
  split at h
  ·simp only[Option.some.injEq,Prod.mk.injEq]at h
   obtain⟨rfl,rfl⟩:=h
   exact⟨[_],rfl,⟨_,rfl,rfl,by simp⟩,rfl⟩
  ·cases h
 |str=>
  intro vs x q h
  simp only[ofC]at h
  split at h
  ·simp only[Option.some.injEq,Prod.mk.injEq]at h
   obtain⟨rfl,rfl⟩:=h
   exact⟨[_],rfl,rfl,rfl⟩
  ·cases h
 |slice e t ih=>
  intro vs x q h
  simp only[ofC]at h
  split at h
  ·simp only[Option.some.injEq,Prod.mk.injEq]at h
   obtain⟨rfl,rfl⟩:=h
   exact⟨[_],rfl,_,[],[],[],rfl,rfl,Qzm _ _,rfl,rfl⟩
  ·cases h
 |pair a b iha ihb=>
  intro vs x q h
  simp only[ofC]at h
  split at h
  ·rename_i x1 r1 h1
   split at h
   ·rename_i x2 r2 h2
    simp only[Option.some.injEq,Prod.mk.injEq]at h
    obtain⟨rfl,rfl⟩:=h
    obtain⟨v1,rfl,k1⟩:=iha h1
    obtain⟨v2,rfl,k2⟩:=ihb h2
    exact⟨v1++v2,by simp,v1,v2,[],[],rfl,rfl,k1,k2⟩
   ·cases h
  ·cases h
 |arr n t ih=>
  intro vs x q h
  obtain⟨v1,h1,h2,h3⟩:=Qzv (r:=rd w X B own t) (fun vs x q h=>ih h) h
  exact⟨v1,h1,h2,h3⟩
theorem Q9b{T:Ty}{v:Value}(h:match T with| .unit| .pair .. | .arr .. =>False|_=>True):Xz T [v]=v:=by
 cases T<;>first|rfl|exact h.elim
theorem Ztw{T:Ty}{v:Value}{x:T.den}(h:Z3n T v=some x): ∃vs,v=Xz T vs∧rd w X B own T x vs []:=by
 unfold Z3n at h
 split at h
 ·rename_i vs hv
  split at h
  ·rename_i y hy
   simp only[Option.some.injEq]at h
   subst h
   obtain⟨v1,h1,h2⟩:=Q7i (w:=w) (X:=X) (B:=B) (own:=own) hy
   simp only[List.append_nil]at h1
   subst h1
   refine⟨vs,?_,h2⟩
   cases T<;>simp only[Xz]at hv⊢
   all_goals first
    | (simp only[Option.some.injEq]at hv;subst hv;rfl)
    | (split at hv<;>first| (simp only[Option.some.injEq]at hv;subst hv;simp)|cases hv)
  ·cases h
 ·cases h
theorem Zuj{α:Type}{r:α→List Value→List Nat→Prop}{z:α}{c:List Value}(h:r z c []): ∀n:Nat,Zbf r (List.replicate n z) (List.replicate n c).flatten []
 |0=>⟨rfl,rfl⟩
 |n+1=>⟨c,(List.replicate n c).flatten,[],[],by simp[List.replicate_succ],rfl,h,Zuj h n⟩
theorem Zro: ∀{T:Ty},T.plain=true→rd w X B own T (zero T) (J7 T) []
 | .unit,_=>⟨rfl,rfl⟩
 | .int _,_=>⟨rfl,rfl⟩
 | .bool,_=>⟨rfl,rfl⟩
 | .fnc _,_=>⟨rfl,rfl⟩
 | .str,_=>⟨rfl,rfl⟩
 | .slice _ _,_=>⟨_,[],[],[],rfl,rfl,Qzm _ _,rfl,rfl⟩
 | .pair a b,h=>by
  simp only[Ty.plain,Bool.and_eq_true]at h
  exact⟨_,_,[],[],rfl,rfl,Zro h.1,Zro h.2⟩
 | .arr n t,h=>⟨by simp[zero],Zuj (Zro (by simpa[Ty.plain]using h)) n⟩
 | .err,_=>⟨⟨_,rfl,rfl,.inl ⟨rfl,rfl⟩⟩,rfl⟩
 | .hid t,h=>by
  simp only[Ty.plain,Bool.and_eq_true]at h
  have h2:=Zro h.2
  have h3:=(Yj h2).trans (Nat.eq_of_beq_eq_true h.1)
  have e: (J7 t).take 1=J7 t:=List.take_of_length_le (by omega)
  show _∧_
  simp only[J7,e]
  exact⟨h3,zero t,h2⟩
 | .sptr ..,h=>by simp[Ty.plain]at h
 | .clo ..,h=>by simp[Ty.plain]at h
inductive Op1 where
 |cst (v:Value)|fn (f:FuncId)|tm (k:Nat) (t:Tm)|bad
abbrev Xm:=List (Nat×Bool)
def Xm.has(tg:Xm)(g:Nat)(b:Bool):Bool:=tg.any fun p=>Nat.beq p.1 g&& (match p.2,b with|true,true=>true|false,false=>true|_,_=>false)
def Zvt(s:St)(tg:Xm):Tm→Tm
 | .gd g b t=>match s.foul g with
  |true=> .junk
  |false=>match tg.has g b with|true=>t|false=> .junk
 |t=>t
def op1(s:St)(tg:Xm):Operand→Op1
 | .const v=> .cst v
 | .func f=> .fn f
 | .tmp k=> .tm k (Zvt s tg (s.get (.m k)))
 | .global _=> .bad
def Xm.ok(tg:Xm)(a:Act):Prop:= ∀p∈tg,Qi a (.m p.1)= .bool p.2
theorem Xm.has_ok{tg:Xm}{a:Act}(h:tg.ok a){g:Nat}{b:Bool}(hh:tg.has g b=true):Qi a (.m g)= .bool b:=by
 unfold Xm.has at hh
 rw[List.any_eq_true]at hh
 obtain⟨⟨g',b'⟩,hp,he⟩:=hh
 simp only[Bool.and_eq_true]at he
 obtain⟨h1,h2⟩:=he
 have:=h _ hp
 simp only[Nat.eq_of_beq_eq_true h1]at this
 cases b'<;>cases b<;>first|exact this|simp at h2
theorem Q31{tg:Xm}(ht:tg.ok a){v:Value}{S:List Nat}{t:Tm}(h:vt w X B s F a v S t)(hj:Zvt s tg t≠ .junk):vt w X B s F a v S (Zvt s tg t):=by
 cases t with
 |gd g b t=>
  simp only[Zvt]at hj⊢
  cases hf:s.foul g<;>simp only[hf]at hj⊢
  ·cases hh:tg.has g b<;>simp only[hh]at hj⊢
   ·exact absurd rfl hj
   ·exact(h hf).2.1 (Xm.has_ok ht hh)
  ·exact absurd rfl hj
 |_=>exact h
theorem Q7q(a:Act)(k:Nat):Qi a (.m k)=a.eval (.tmp k):=rfl
theorem Kr(h:R n W0 w X F H s a){tg:Xm}(ht:tg.ok a){x:Operand}{k:Nat}{t:Tm}(hx:op1 s tg x= .tm k t)(hj:t≠ .junk):
  x= .tmp k∧vt w X W0.B s F a (a.eval x) (F (.m k)) t:=by
 cases x<;>simp only[op1]at hx<;>first|cases hx|skip
 exact⟨rfl,Q31 ht (h.slots (.m _)) hj⟩
def Zs5(s:St):Op1→Option ((T:Ty)×Fl×T.den)
 | .tm _ (.val T f x)=>match f.live with|true=>some ⟨T,f,x⟩|false=>none
 | .tm _ (.bor r p)=>match s.foul r with
  |true=>none
  |false=>match s.get (.m r)with
   | .val T f x=>match p,f.live with| [],true=>some ⟨T,f,x⟩|_,_=>none
   | .box _ T f x=>match Zkj T x p with
    |some y=>match(Zok f p).live with|true=>some ⟨y.1,Zok f p,y.2⟩|false=>none
    |none=>none
   |_=>none
 | .fn f=>some ⟨.fnc f,.u true,()⟩
 |_=>none
def V3(s:St)(o:Op1)(T:Ty):Option T.den:=
 match o with
 | .cst v=>Z3n T v
 |o=>match Zs5 s o with
  |some ⟨U,_,x⟩=>Kq T U x
  |none=>none
theorem Z3e{vs pre mid post:List Value}(h:vs=pre++ (mid++post)){k m:Nat}(hk:pre.length=k)(hm:mid.length=m): (vs.drop k).take m=mid:=by
 subst h;subst hk;subst hm;simp
theorem Zdo(h:R n W0 w X F H s a){tg:Xm}(ht:tg.ok a){x:Operand}{T:Ty}{f:Fl}{y:T.den}(hl:Zs5 s (op1 s tg x)=some ⟨T,f,y⟩):
  f.live=true∧ ∃vs S,a.eval x=Xz T vs∧rdF w X W0.B T f y vs S∧(∀b∈S,∃k,b∈F k):=by
 generalize ho:op1 s tg x=o at hl
 unfold Zs5 at hl
 split at hl
 ·rename_i k T' f' x'
  obtain⟨_,vs,h1,h2⟩:=Kr h ht ho (by simp)
  split at hl
  ·rename_i hf
   simp only[Option.some.injEq,Sigma.mk.injEq]at hl
   obtain⟨rfl,hl⟩:=hl
   simp only[heq_eq_eq,Prod.mk.injEq]at hl
   obtain⟨rfl,rfl⟩:=hl
   exact⟨hf,vs,_,h1,h2,fun b hb=>⟨_,hb⟩⟩
  ·cases hl
 ·rename_i k r p
  obtain⟨_,h0,h1⟩:=Kr h ht ho (by simp)
  split at hl
  ·cases hl
  ·rename_i hfoul
   obtain⟨U,hU⟩:=h1 hfoul
   unfold Yn at hU
   have hs:=h.slots (.m r)
   split at hl
   ·rename_i T' f' x' hg
    rw[hg]at hU hs
    obtain⟨rfl,rfl,hv⟩:=hU
    split at hl
    ·rename_i hf
     simp only[Option.some.injEq,Sigma.mk.injEq]at hl
     obtain⟨rfl,hl⟩:=hl
     simp only[heq_eq_eq,Prod.mk.injEq]at hl
     obtain⟨rfl,rfl⟩:=hl
     obtain⟨vs,k1,k2⟩:=hs
     exact⟨hf,vs,_,hv.trans k1,k2,fun b hb=>⟨_,hb⟩⟩
    ·cases hl
   ·rename_i e T' f' x' hg
    rw[hg]at hU hs
    obtain⟨b,c,S,y',k1,k2,k3,k4,k5⟩:=hU
    obtain⟨b',c',S',l1,l2,l3,l4⟩:=hs
    rw[k1]at l2
    obtain⟨rfl,rfl⟩:=List.cons.inj l2
    rw[k2]at l3
    simp only[Option.some.injEq,Obj.cells.injEq]at l3
    obtain⟨rfl,_⟩:=l3
    rw[k3]at hl
    simp only at hl
    split at hl
    ·rename_i hf
     simp only[Option.some.injEq,Sigma.mk.injEq]at hl
     obtain⟨rfl,hl⟩:=hl
     simp only[heq_eq_eq,Prod.mk.injEq]at hl
     obtain⟨rfl,rfl⟩:=hl
     obtain⟨pre,mid,post,S1,S2,S3,m1,m2,m3,m4,_⟩:=Ziz k3 l4
     refine⟨hf,mid,S2,?_,m4,fun b' hb'=>⟨.m r,by rw[k1,m2];simp[hb']⟩⟩
     rw[k5,Z3e m1 m3 (Yp m4)]
    ·cases hl
   ·cases hl
 ·rename_i g
  simp only[Option.some.injEq,Sigma.mk.injEq]at hl
  obtain⟨rfl,hl⟩:=hl
  simp only[heq_eq_eq,Prod.mk.injEq]at hl
  obtain⟨rfl,_⟩:=hl
  cases x<;>simp only[op1]at ho<;>first|cases ho|skip
  exact⟨rfl,[.func (.func g) #[] #[]],[],rfl,by unfold rdF;exact⟨rfl,rfl⟩,by simp⟩
 ·cases hl
theorem Vt(h:R n W0 w X F H s a){tg:Xm}(ht:tg.ok a){x:Operand}{T:Ty}{y:T.den}(hr:V3 s (op1 s tg x) T=some y):
  ∃vs,a.eval x=Xz T vs∧rd w (· <w.heap.size) W0.B false T y vs []:=by
 unfold V3 at hr
 split at hr
 ·rename_i v hv
  cases x<;>simp only[op1]at hv<;>cases hv
  exact Ztw hr
 ·split at hr
  ·rename_i U f y' hl
   obtain⟨hf,vs,S,h1,h2,h3⟩:=Zdo h ht hl
   cases Zap hr
   exact⟨vs,h1,Y5 (fun b hb=>h.xlt b hb) hf h2 fun b hb=>let⟨k,hk⟩:=h3 b hb;(h.own k b hk).2.1⟩
  ·cases hr
def Zmf:Fl→Ty→Bool
 | .u false,_=>true
 | .u true,T=>T.flat
 | .p f g,.pair a b=>Zmf f a&&Zmf g b
 |_,_=>false
theorem Ze4: ∀{T:Ty} {x:T.den} {vs:List Value} {S:List Nat},rd w X B false T x vs S→S=[]
 | .unit,_,_,_,h| .int _,_,_,_,h| .bool,_,_,_,h| .fnc _,_,_,_,h| .str,_,_,_,h=>h.2
 | .slice _ t,_,_,_,⟨_,_,S1,S2,_,e,h1,h2⟩=>by
  have:S2=[]:=(Zdg (r:=rd w X B false t) (r':=fun _ _ _=>True) (fun x v S h=>⟨Ze4 h,trivial⟩) h2).1
  rw[e,h1.1,this];rfl
 | .pair a b,_,_,_,⟨v1,v2,S1,S2,_,e,h1,h2⟩=>by rw[e,Ze4 h1,Ze4 h2];rfl
 | .arr n t,_,_,_,⟨_,h'⟩=>(Zdg (r:=rd w X B false t) (r':=fun _ _ _=>True) (fun x v S h=>⟨Ze4 h,trivial⟩) h').1
 | .err,_,_,_,h=>h.2
 | .hid _,_,_,_,⟨_,_,h⟩=>Ze4 h
 | .sptr ..,_,_,_,h=>h.1
 | .clo ..,_,_,_,h=>h.1
theorem Zgu: ∀{T:Ty} {f:Fl} {x:T.den} {vs:List Value} {S:List Nat},Zmf f T=true→rdF w X B T f x vs S→S=[]
 |T,.d,_,_,_,hn,_=>by simp[Zmf]at hn
 |T,.u false,_,_,_,_,h=>by unfold rdF at h;exact Ze4 h
 |T,.u true,_,_,_,hn,h=>by unfold rdF at h;exact(Zbv (X':=X) (own':=true) (w':=w) (by simpa[Zmf]using hn) h).1
 | .pair a b,.p f g,_,_,_,hn,⟨v1,v2,S1,S2,_,e,h1,h2⟩=>by
  simp only[Zmf,Bool.and_eq_true]at hn
  rw[e,Zgu hn.1 h1,Zgu hn.2 h2];rfl
 | .slice ..,.p ..,_,_,_,hn,_=>by simp[Zmf]at hn
 | .unit,.p ..,_,_,_,_,h| .int _,.p ..,_,_,_,_,h| .bool,.p ..,_,_,_,_,h| .fnc _,.p ..,_,_,_,_,h| .str,.p ..,_,_,_,_,h| .err,.p ..,_,_,_,_,h| .hid _,.p ..,_,_,_,_,h| .sptr ..,.p ..,_,_,_,_,h| .clo ..,.p ..,_,_,_,_,h| .arr ..,.p ..,_,_,_,_,h=>by simp[rdF]at h
structure Q0b where
 T:Ty
 f:Fl
 x:T.den
 s:St
 moved:Bool
def Qjh(s:St)(o:Op1):Option Q0b:=
 match Zs5 s o with
 |some ⟨T,f,x⟩=>match Zmf f T with
  |true=>some ⟨T,f,x,s,false⟩
  |false=>match o with
   | .tm k (.val _ _ _)=>match s.get (.m k)with
    | .val _ _ _=>some ⟨T,f,x,Ka s k .junk,true⟩
    |_=>none
   | .tm _ (.bor r p)=>match s.get (.m r)with
    | .val _ _ _=>some ⟨T,f,x,Ka s r .junk,true⟩
    | .box e U g z=>some ⟨T,f,x,Ka s r (.box e U (Zqg g p .d) z),true⟩
    |_=>none
   |_=>none
 |none=>none
def Zr4(s:St)(o:Op1)(T:Ty):Option Q0b:=
 match o with
 | .cst v=>match Z3n T v with|some x=>some ⟨T,.u true,x,s,false⟩|none=>none
 |o=>match Qjh s o with
  |some t=>if t.T=T then some t else none
  |none=>none
theorem R.takeM(h:R n W0 w X F H s a){k:Nat}{T:Ty}{f:Fl}{x:T.den}(hg:s.get (.m k)= .val T f x):
  R n W0 w X (Qf F (.m k) []) (F (.m k)++H) (Ka s k .junk) a:=
 h.turn (S':=[]) h.below (Nat.le_refl _) (fun _ _=>rfl) (fun _ _ _ _=>rfl) (by simp) (by
  simp only[List.nil_append]
  exact List.nodup_append.2 ⟨h.nodup _,h.hnodup,fun x hx y hy e=>h.hdisj _ x hx (by rw[e];exact hy)⟩) (by rw[hg];simp)
  (fun e T f x b S hb=>by rw[hg]at hb;cases hb) rfl
theorem Qsy: ∀{p:List Nat} {T:Ty} {x:T.den} {y:TV},Zkj T x p=some y→Qdf T x p y=some x:=by
 have step: ∀{T:Ty} {x:T.den} {i:Nat} {z:TV},fld T x i=some z→Zyn T x i z=some x:=by
  intro T
  induction T with
  |pair a b iha ihb=>
   intro x i z h
   cases i with
   |zero=>simp only[fld,Option.some.injEq]at h;subst h;simp[Zyn,Kq]
   |succ i=>simp only[fld]at h;simp[Zyn,ihb h]
  |_=>intro x i z h;simp[fld]at h
 intro p
 induction p with
 |nil=>intro T x y h;simp only[Zkj,Option.some.injEq]at h;subst h;simp[Qdf,Kq]
 |cons i p ih=>
  intro T x y h
  simp only[Zkj]at h
  cases hz:fld T x i with
  |none=>rw[hz]at h;cases h
  |some z=>
   rw[hz]at h
   simp only[Qdf,hz,ih h]
   exact step hz
theorem Z3d(h:R n W0 w X F H s a){tg:Xm}(ht:tg.ok a){x:Operand}{t:Q0b}(hk:Qjh s (op1 s tg x)=some t):
  ∃F' S vs,a.eval x=Xz t.T vs∧rdF w X W0.B t.T t.f t.x vs S∧R n W0 w X F' (S++H) t.s a∧(t.moved=false→t.s=s∧F'=F∧S=[])∧t.f.live=true:=by
 unfold Qjh at hk
 split at hk
 ·rename_i T f y hl
  obtain⟨hf,vs,S,h1,h2,h3⟩:=Zdo h ht hl
  split at hk
  ·rename_i hn
   simp only[Option.some.injEq]at hk
   subst hk
   have hS:=Zgu hn h2
   subst hS
   exact⟨F,[],vs,h1,h2,h,fun _=>⟨rfl,rfl,rfl⟩,hf⟩
  ·rename_i hn
   generalize ho:op1 s tg x=o at hk hl
   split at hk
   ·rename_i k T' f' x'
    split at hk
    ·rename_i T2 f2 x2 hg
     simp only[Option.some.injEq]at hk
     subst hk
     have hx:=Kr h ht ho (by simp)
     obtain⟨rfl,_⟩:=hx
     simp only[op1,Op1.tm.injEq,true_and]at ho
     rw[hg]at ho
     simp only[Zvt]at ho
     cases ho
     simp only[Zs5]at hl
     split at hl
     ·simp only[Option.some.injEq,Sigma.mk.injEq]at hl
      obtain⟨rfl,hl⟩:=hl
      simp only[heq_eq_eq,Prod.mk.injEq]at hl
      obtain⟨rfl,rfl⟩:=hl
      have hs:=h.slots (.m k)
      rw[hg]at hs
      obtain⟨vs',k1,k2⟩:=hs
      exact⟨_,F (.m k),vs',k1,k2,h.takeM hg,by simp,hf⟩
     ·cases hl
    ·cases hk
   ·rename_i k r p
    obtain⟨_,h0,hb⟩:=Kr h ht ho (by simp)
    simp only[Zs5]at hl
    split at hl
    ·cases hl
    ·rename_i hfoul
     obtain⟨U,hU⟩:=hb hfoul
     have hs:=h.slots (.m r)
     split at hk
     ·rename_i T' f' x' hg
      simp only[hg]at hl
      unfold Yn at hU
      rw[hg]at hU hs
      obtain⟨rfl,rfl,hv⟩:=hU
      split at hl
      ·simp only[Option.some.injEq,Sigma.mk.injEq]at hl
       obtain⟨rfl,hl⟩:=hl
       simp only[heq_eq_eq,Prod.mk.injEq]at hl
       obtain⟨rfl,rfl⟩:=hl
       simp only[Option.some.injEq]at hk
       subst hk
       obtain⟨vs',k1,k2⟩:=hs
       exact⟨_,F (.m r),vs',hv.trans k1,k2,h.takeM hg,by simp,hf⟩
      ·cases hl
     ·rename_i e T' f' x' hg
      simp only[hg]at hl
      unfold Yn at hU
      rw[hg]at hU hs
      obtain⟨b,c,S0,y',k1,k2,k3,k4,k5⟩:=hU
      obtain⟨b',c',S',l1,l2,l3,l4⟩:=hs
      rw[k1]at l2
      obtain⟨rfl,rfl⟩:=List.cons.inj l2
      rw[k2]at l3
      simp only[Option.some.injEq,Obj.cells.injEq]at l3
      obtain⟨rfl,_⟩:=l3
      rw[k3]at hl
      simp only at hl
      split at hl
      ·simp only[Option.some.injEq,Sigma.mk.injEq]at hl
       obtain⟨rfl,hl⟩:=hl
       simp only[heq_eq_eq,Prod.mk.injEq]at hl
       obtain⟨rfl,rfl⟩:=hl
       simp only[Option.some.injEq]at hk
       subst hk
       obtain⟨pre,mid,post,S1,S2,S3,m1,m2,m3,m4,m5⟩:=Ziz k3 l4
       have hnd:=h.nodup (.m r)
       rw[k1,m2]at hnd
       have hdead:=m5 .d y' mid [] x' (Qsy k3) (by unfold rdF;exact⟨Yp m4,Zia m4,rfl⟩)
       rw[←m1]at hdead
       simp only[List.nil_append]at hdead
       refine⟨_,S2,mid,by rw[k5,Z3e m1 m3 (Yp m4)],m4,
        h.turn (S':=b:: (S1++S3)) h.below (Nat.le_refl _) (fun _ _=>rfl) (fun _ _ _ _=>rfl) ?_ ?_ (by rw[hg];simp) ?_ ⟨b,c,S1++S3,l1,rfl,k2,hdead⟩,by simp,hf⟩
       ·intro z hz
        rw[k1,m2]
        simp only[List.mem_append,List.mem_cons]at hz⊢
        rcases hz with(hz|hz|hz)|hz|hz
        ·exact .inl (.inl hz)
        ·exact .inl (.inr (.inl hz))
        ·exact .inl (.inr (.inr (.inr hz)))
        ·exact .inl (.inr (.inr (.inl hz)))
        ·exact .inr hz
       ·have h1: (b:: (S1++S3)++S2).Nodup:=by
         have hp: (b:: (S1++S3)++S2).Perm (b:: (S1++ (S2++S3))):=by
          simp only[List.cons_append]
          refine List.Perm.cons _ ?_
          rw[List.append_assoc]
          exact List.Perm.append_left _ List.perm_append_comm
         exact hp.nodup_iff.2 hnd
        rw[←List.append_assoc]
        refine List.nodup_append.2 ⟨h1,h.hnodup,fun z hz u hu e=> ?_⟩
        subst e
        refine h.hdisj (.m r) z ?_ hu
        rw[k1,m2]
        simp only[List.mem_append,List.mem_cons]at hz⊢
        rcases hz with(hz|hz|hz)|hz
        ·exact .inl hz
        ·exact .inr (.inl hz)
        ·exact .inr (.inr (.inr hz))
        ·exact .inr (.inr (.inl hz))
       ·intro e2 T2 f2 x2 b2 S2' hb2 hF2
        rw[hg]at hb2
        cases hb2
        rw[k1]at hF2
        obtain⟨rfl,_⟩:=List.cons.inj hF2
        exact⟨_,_,_,rfl,rfl⟩
      ·cases hl
     ·cases hk
   ·cases hk
 ·cases hk
theorem Wz(h:R n W0 w X F H s a){tg:Xm}(ht:tg.ok a){x:Operand}{T:Ty}{t:Q0b}(hk:Zr4 s (op1 s tg x) T=some t):
  t.T=T∧ ∃F' S vs,a.eval x=Xz t.T vs∧rdF w X W0.B t.T t.f t.x vs S∧R n W0 w X F' (S++H) t.s a∧(t.moved=false→t.s=s∧F'=F∧S=[])∧t.f.live=true:=by
 unfold Zr4 at hk
 split at hk
 ·rename_i v hv
  split at hk
  ·rename_i y hy
   simp only[Option.some.injEq]at hk
   subst hk
   cases x<;>simp only[op1]at hv<;>cases hv
   obtain⟨vs,h1,h2⟩:=Ztw (w:=w) (X:=X) (B:=W0.B) (own:=true) hy
   exact⟨rfl,F,[],vs,h1,by unfold rdF;exact h2,h,fun _=>⟨rfl,rfl,rfl⟩,rfl⟩
  ·cases hk
 ·split at hk
  ·rename_i t' ht'
   split at hk
   ·rename_i e
    simp only[Option.some.injEq]at hk
    subst hk
    exact⟨e,Z3d h ht ht'⟩
   ·cases hk
  ·cases hk
def St.isBox(s:St)(r:Nat):Prop:= ∃e T f x,s.get (.m r)= .box e T f x
theorem Q1k{o:Op1}{t:Q0b}(hk:Qjh s o=some t){r:Nat}(hb:s.isBox r):t.s.isBox r:=by
 obtain⟨e,T,f,x,hb⟩:=hb
 have junk: ∀{k:Nat} {T' f' x'},s.get (.m k)= .val T' f' x'→(Ka s k .junk).isBox r:=by
  intro k T' f' x' hk
  have:k≠r:=fun he=>by subst he;rw[hb]at hk;cases hk
  exact⟨e,T,f,x,by rw[Ym];simp[this,hb]⟩
 unfold Qjh at hk
 split at hk
 ·split at hk
  ·simp only[Option.some.injEq]at hk;subst hk;exact⟨e,T,f,x,hb⟩
  ·split at hk
   ·split at hk
    ·rename_i hg
     simp only[Option.some.injEq]at hk;subst hk;exact junk hg
    ·cases hk
   ·rename_i k p _
    split at hk
    ·rename_i hg
     simp only[Option.some.injEq]at hk;subst hk;exact junk hg
    ·simp only[Option.some.injEq]at hk;subst hk
     by_cases he:k=r
     ·subst he;exact⟨_,_,_,_,by rw[Ym,if_pos rfl]⟩
     ·exact⟨e,T,f,x,by rw[Ym];simp[he,hb]⟩
    ·cases hk
   ·cases hk
 ·cases hk
theorem Zov{o:Op1}{T:Ty}{t:Q0b}(hk:Zr4 s o T=some t){r:Nat}(hb:s.isBox r):t.s.isBox r:=by
 unfold Zr4 at hk
 split at hk
 ·split at hk
  ·simp only[Option.some.injEq]at hk;subst hk;exact hb
  ·cases hk
 ·split at hk
  ·rename_i t' ht'
   split at hk
   ·simp only[Option.some.injEq]at hk;subst hk;exact Q1k ht' hb
   ·cases hk
  ·cases hk
theorem R.boxIn(h:R n W0 w X F H s a){r b:Nat}(hb:s.isBox r)(hv:Qi a (.m r)= .pointer (some ⟨b,0,none⟩)): ∃S,F (.m r)=b::S:=by
 obtain⟨e,T,f,x,hb⟩:=hb
 have hs:=h.slots (.m r)
 rw[hb]at hs
 obtain⟨b',c,S',h1,h2,_⟩:=hs
 rw[hv]at h1
 simp only[Value.pointer.injEq,Option.some.injEq,Addr.mk.injEq,and_true]at h1
 exact⟨S',by rw[h2,h1]⟩
end
def Vq:Ty→Fl→Fl→Bool
 |_,.d,.d=>true
 |_,.u true,.u true=>true
 |_,.u false,.u false=>true
 |T,.u _,.u _=>T.flat
 | .pair A B,.p f1 f2,.p g1 g2=>Vq A f1 g1&&Vq B f2 g2
 | .pair A B,.u b,.p g1 g2=>Vq A (.u b) g1&&Vq B (.u b) g2
 | .pair A B,.p f1 f2,.u b=>Vq A f1 (.u b)&&Vq B f2 (.u b)
 | .slice _ _,.p (.u true) (.u false),.p (.u true) (.u false)=>true
 |_,_,_=>false
section
variable {w:World} {X:Nat→Prop} {B:Nat}
theorem Zf7: ∀{T:Ty} {f g:Fl} {x:T.den} {vs:List Value} {S:List Nat},Vq T f g=true→rdF w X B T f x vs S→rdF w X B T g x vs S
 |T,.d,.d,_,_,_,_,h=>h
 |T,.u true,.u true,_,_,_,_,h=>h
 |T,.u false,.u false,_,_,_,_,h=>h
 |T,.u true,.u false,x,vs,S,hs,h=>by
  unfold rdF at h⊢
  have hf:T.flat=true:=by simpa[Vq]using hs
  obtain⟨rfl,h2⟩:=Zbv (X':=X) (own':=false) (w':=w) hf h
  exact h2
 |T,.u false,.u true,x,vs,S,hs,h=>by
  unfold rdF at h⊢
  have hf:T.flat=true:=by simpa[Vq]using hs
  obtain⟨rfl,h2⟩:=Zbv (X':=X) (own':=true) (w':=w) hf h
  exact h2
 | .pair A B,.p f1 f2,.p g1 g2,x,vs,S,hs,⟨v1,v2,S1,S2,e1,e2,h1,h2⟩=>by
  simp only[Vq,Bool.and_eq_true]at hs
  exact⟨v1,v2,S1,S2,e1,e2,Zf7 hs.1 h1,Zf7 hs.2 h2⟩
 | .pair A B,.u b,.p g1 g2,x,vs,S,hs,h=>by
  unfold rdF at h
  obtain⟨v1,v2,S1,S2,e1,e2,h1,h2⟩:=h
  simp only[Vq,Bool.and_eq_true]at hs
  exact⟨v1,v2,S1,S2,e1,e2,Zf7 hs.1 (by unfold rdF;exact h1),Zf7 hs.2 (by unfold rdF;exact h2)⟩
 | .pair A B,.p f1 f2,.u b,x,vs,S,hs,⟨v1,v2,S1,S2,e1,e2,h1,h2⟩=>by
  simp only[Vq,Bool.and_eq_true]at hs
  have k1:=Zf7 hs.1 h1
  have k2:=Zf7 hs.2 h2
  unfold rdF at k1 k2⊢
  exact⟨v1,v2,S1,S2,e1,e2,k1,k2⟩
 |T,.d,.u _,_,_,_,hs,_=>by cases T<;>simp[Vq]at hs
 |T,.d,.p ..,_,_,_,hs,_=>by cases T<;>simp[Vq]at hs
 |T,.u b,.d,_,_,_,hs,_=>by cases T<;>cases b<;>simp[Vq]at hs
 |T,.p ..,.d,_,_,_,hs,_=>by cases T<;>simp[Vq]at hs
 | .unit,.p ..,.u _,_,_,_,hs,_| .int _,.p ..,.u _,_,_,_,hs,_| .bool,.p ..,.u _,_,_,_,hs,_| .fnc _,.p ..,.u _,_,_,_,hs,_| .str,.p ..,.u _,_,_,_,hs,_| .slice ..,.p ..,.u _,_,_,_,hs,_| .err,.p ..,.u _,_,_,_,hs,_| .hid _,.p ..,.u _,_,_,_,hs,_| .sptr ..,.p ..,.u _,_,_,_,hs,_| .clo ..,.p ..,.u _,_,_,_,hs,_| .arr ..,.p ..,.u _,_,_,_,hs,_=>by simp[Vq]at hs
 | .slice e t,.p f1 f2,.p g1 g2,_,_,_,hs,h=>by
  obtain⟨rfl,rfl,h2⟩:=Zfd h
  cases g1 with
  |u b=>cases b with
   |true=>cases g2 with
    |u c=>cases c with
     |false=>exact h
     |true=>simp[Vq]at hs
    |p _ _=>simp[Vq]at hs
    |d=>simp[Vq]at hs
   |false=>simp[Vq]at hs
  |p _ _=>simp[Vq]at hs
  |d=>simp[Vq]at hs
 | .unit,.p ..,.p ..,_,_,_,hs,_| .int _,.p ..,.p ..,_,_,_,hs,_| .bool,.p ..,.p ..,_,_,_,hs,_| .fnc _,.p ..,.p ..,_,_,_,hs,_| .str,.p ..,.p ..,_,_,_,hs,_| .err,.p ..,.p ..,_,_,_,hs,_| .hid _,.p ..,.p ..,_,_,_,hs,_| .sptr ..,.p ..,.p ..,_,_,_,hs,_| .clo ..,.p ..,.p ..,_,_,_,hs,_| .arr ..,.p ..,.p ..,_,_,_,hs,_=>by simp[Vq]at hs
 | .unit,.u b,.p ..,_,_,_,hs,_| .int _,.u b,.p ..,_,_,_,hs,_| .bool,.u b,.p ..,_,_,_,hs,_| .fnc _,.u b,.p ..,_,_,_,hs,_| .str,.u b,.p ..,_,_,_,hs,_| .slice ..,.u b,.p ..,_,_,_,hs,_| .err,.u b,.p ..,_,_,_,hs,_| .hid _,.u b,.p ..,_,_,_,hs,_| .sptr ..,.u b,.p ..,_,_,_,hs,_| .clo ..,.u b,.p ..,_,_,_,hs,_| .arr ..,.u b,.p ..,_,_,_,hs,_=>by cases b<;>simp[Vq]at hs
theorem Qwq{T:Ty}{f g:Fl}{x:T.den}{vs:List Value}{S:List Nat}(hs:f=g∨Vq T f g=true)(h:rdF w X B T f x vs S):rdF w X B T g x vs S:=by
 rcases hs with rfl|hs
 ·exact h
 ·exact Zf7 hs h
end
end Go.Am
namespace Go.Am
open Go.RowKit
def Zr0(P:Program)(e:TypeId)(T:Ty):Bool:=
 match P.info? e with
 |some i=>(Nat.beq i.size T.size&&T.plain)&&Nat.ble i.bytes 8192
 |none=>false
def Zj2(P:Program):List Field→Ty→Nat→Bool
 | [],.unit,_=>true
 |f::fs,.pair a b,off=>Nat.beq f.offset off&&Zr0 P f.type a&&Nat.blt 0 a.size&&Zj2 P fs b (off+a.size)
 |_,_,_=>false
def Q1u(P:Program)(e:TypeId)(T:Ty):Bool:=
 match P.underlying e,T with
 |some (.struct _),.unit|some (.struct _),.pair .. |some (.array ..),.arr .. =>true
 |some (.struct _),_|some (.array ..),_=>false
 |some _,.unit|some _,.pair .. |some _,.arr .. =>false
 |some _,_=>true
 |none,_=>false
def Zpm(P:Program)(e:TypeId)(T:Ty):Bool:=
 Zr0 P e T&&match T with
  | .int k=>(match P.underlying e with|some (.int k')=>decide (k=k')|_=>false)
  | .bool=>(match P.underlying e with|some .bool=>true|_=>false)
  | .str=>(match P.underlying e with|some .string=>true|_=>false)
  | .slice e' t=>Nat.blt 0 t.size&& (match P.underlying e with|some (.slice e2)=>Nat.beq e' e2|_=>false)
  | .arr n t=>Nat.blt 0 t.size&& (match P.underlying e with|some (.array m e2)=>Nat.beq n m&& (Zr0 P e2 t&&Q1u P e2 t)|_=>false)
  |T=>(match P.underlying e with|some (.struct fs)=>Zj2 P fs.toList T 0|_=>false)
structure TOK(P:Program)(e:TypeId)(T:Ty):Prop where
 zero: (P.info? e).map (·.zero)=some (some (Xz T (J7 T)))
 shape:Zpm P e T=true
abbrev Tab:=TypeId→Option Ty
def Tab.ok(τ:Tab)(P:Program):Prop:= ∀e T,τ e=some T→TOK P e T
theorem Zkv{P:Program}{e:TypeId}{T:Ty}(h:Zr0 P e T=true): ∃i,P.info? e=some i∧i.size=T.size∧i.bytes≤8192:=by
 unfold Zr0 at h
 split at h
 ·rename_i i hi
  simp only[Bool.and_eq_true,Nat.ble_eq]at h
  exact⟨i,hi,Nat.eq_of_beq_eq_true h.1.1,h.2⟩
 ·cases h
section
variable {P:Program} {e:TypeId} {T:Ty}
theorem TOK.size(h:TOK P e T): ∃i,P.info? e=some i∧i.size=T.size∧i.bytes≤8192∧i.zero=some (Xz T (J7 T)):=by
 have h1:=h.shape
 unfold Zpm at h1
 rw[Bool.and_eq_true]at h1
 obtain⟨i,hi,hs,hb⟩:=Zkv h1.1
 have:=h.zero
 rw[hi]at this
 exact⟨i,hi,hs,hb,by simpa using this⟩
theorem TOK.plain(h:TOK P e T):T.plain=true:=by
 have h1:=h.shape
 unfold Zpm at h1
 rw[Bool.and_eq_true]at h1
 have h2:=h1.1
 unfold Zr0 at h2
 split at h2
 ·simp only[Bool.and_eq_true]at h2
  exact h2.1.2
 ·cases h2
theorem TOK.int{k:IntKind}(h:TOK P e (.int k)):P.underlying e=some (.int k):=by
 have h1:=h.shape
 unfold Zpm at h1
 rw[Bool.and_eq_true]at h1
 have h2:=h1.2
 simp only at h2
 split at h2
 ·rename_i k' hk;rw[hk];simp at h2;rw[h2]
 ·cases h2
theorem TOK.bool(h:TOK P e .bool):P.underlying e=some .bool:=by
 have h1:=h.shape
 unfold Zpm at h1
 rw[Bool.and_eq_true]at h1
 have h2:=h1.2
 simp only at h2
 split at h2
 ·assumption
 ·cases h2
theorem TOK.str(h:TOK P e .str):P.underlying e=some .string:=by
 have h1:=h.shape
 unfold Zpm at h1
 rw[Bool.and_eq_true]at h1
 have h2:=h1.2
 simp only at h2
 split at h2
 ·assumption
 ·cases h2
theorem TOK.slice{e':TypeId}{t:Ty}(h:TOK P e (.slice e' t)):P.underlying e=some (.slice e')∧0<t.size:=by
 have h1:=h.shape
 unfold Zpm at h1
 rw[Bool.and_eq_true]at h1
 have h2:=h1.2
 simp only[Bool.and_eq_true,Nat.blt_eq]at h2
 refine⟨?_,h2.1⟩
 have h2:=h2.2
 split at h2
 ·rename_i e2 he;rw[he,Nat.eq_of_beq_eq_true h2]
 ·cases h2
theorem TOK.arr'{n:Nat}{t:Ty}(h:TOK P e (.arr n t)):0<t.size∧ ∃e2,P.underlying e=some (.array n e2)∧Zr0 P e2 t=true∧Q1u P e2 t=true:=by
 have h1:=h.shape
 unfold Zpm at h1
 rw[Bool.and_eq_true]at h1
 have h2:=h1.2
 simp only[Bool.and_eq_true,Nat.blt_eq]at h2
 refine⟨h2.1,?_⟩
 have h2:=h2.2
 split at h2
 ·rename_i m e2 he
  simp only[Bool.and_eq_true]at h2
  exact⟨e2,by rw[he,Nat.eq_of_beq_eq_true h2.1],h2.2⟩
 ·cases h2
theorem TOK.arr{n:Nat}{t:Ty}(h:TOK P e (.arr n t)):0<t.size∧ ∃e2,P.underlying e=some (.array n e2)∧Zr0 P e2 t=true:=
 let⟨h1,e2,h2,h3,_⟩:=h.arr';⟨h1,e2,h2,h3⟩
def Ty.isStruct:Ty→Bool
 | .unit| .pair .. =>true
 |_=>false
def Ty.isAgg:Ty→Bool
 | .unit| .pair .. | .arr .. =>true
 |_=>false
theorem TOK.struct(h:TOK P e T)(hs:T.isStruct=true): ∃fs,P.underlying e=some (.struct fs)∧Zj2 P fs.toList T 0=true:=by
 have h1:=h.shape
 unfold Zpm at h1
 rw[Bool.and_eq_true]at h1
 have h2:=h1.2
 cases T<;>simp[Ty.isStruct]at hs<;>simp only at h2
 all_goals
  split at h2
  ·rename_i fs he;exact⟨fs,he,h2⟩
  ·cases h2
theorem Qvw: ∀{fs:List Field} {T:Ty} {off i:Nat} {U:Ty},Zj2 P fs T off=true→Zwa T i=some U→
  ∃f,fs[i]? =some f∧f.offset=off+Zmk T i∧Zr0 P f.type U=true∧0<U.size:=by
 intro fs
 induction fs with
 |nil=>
  intro T off i U h hU
  cases T<;>simp[Zj2]at h
  simp[Zwa]at hU
 |cons f fs ih=>
  intro T off i U h hU
  cases T<;>simp only[Zj2]at h<;>first|cases h|skip
  rename_i a b
  simp only[Bool.and_eq_true,Nat.blt_eq]at h
  obtain⟨⟨⟨h1,h2⟩,h3⟩,h4⟩:=h
  cases i with
  |zero=>
   simp only[Zwa,Option.some.injEq]at hU
   subst hU
   exact⟨f,rfl,by simp[Zmk,Nat.eq_of_beq_eq_true h1],h2,h3⟩
  |succ i=>
   obtain⟨f',k1,k2,k3⟩:=ih h4 hU
   exact⟨f',by simpa using k1,by rw[k2];simp[Zmk];omega,k3⟩
theorem TOK.nofnc{f:FuncId}(h:TOK P e (.fnc f)):False:=by
 have:=h.shape
 unfold Zpm at this
 simp only[Bool.and_eq_true]at this
 obtain⟨_,h2⟩:=this
 split at h2
 ·rename_i fs _
  cases hf:fs.toList<;>rw[hf]at h2<;>simp[Zj2]at h2
 ·cases h2
theorem TOK.noerr(h:TOK P e .err):False:=by
 have:=h.shape
 unfold Zpm at this
 simp only[Bool.and_eq_true]at this
 obtain⟨_,h2⟩:=this
 split at h2
 ·rename_i fs _
  cases hf:fs.toList<;>rw[hf]at h2<;>simp[Zj2]at h2
 ·cases h2
theorem TOK.nohid{t:Ty}(h:TOK P e (.hid t)):False:=by
 have:=h.shape
 unfold Zpm at this
 simp only[Bool.and_eq_true]at this
 obtain⟨_,h2⟩:=this
 split at h2
 ·rename_i fs _
  cases hf:fs.toList<;>rw[hf]at h2<;>simp[Zj2]at h2
 ·cases h2
theorem TOK.nosptr{e2:TypeId}{t:Ty}(h:TOK P e (.sptr e2 t)):False:=by
 have:=h.shape
 unfold Zpm at this
 simp only[Bool.and_eq_true]at this
 obtain⟨_,h2⟩:=this
 split at h2
 ·rename_i fs _
  cases hf:fs.toList<;>rw[hf]at h2<;>simp[Zj2]at h2
 ·cases h2
theorem TOK.noclo{f:FuncId}{t:Ty}(h:TOK P e (.clo f t)):False:=by
 have:=h.shape
 unfold Zpm at this
 simp only[Bool.and_eq_true]at this
 obtain⟨_,h2⟩:=this
 split at h2
 ·rename_i fs _
  cases hf:fs.toList<;>rw[hf]at h2<;>simp[Zj2]at h2
 ·cases h2
theorem TOK.isAgg(h:TOK P e T)(w:World): (isAgg e).run P w= .ok T.isAgg w:=by
 cases T with
 |int k=>simp[Go.isAgg,run_underlying h.int,Ty.isAgg]
 |bool=>simp[Go.isAgg,run_underlying h.bool,Ty.isAgg]
 |str=>simp[Go.isAgg,run_underlying h.str,Ty.isAgg]
 |fnc f=>exact h.nofnc.elim
 |err=>exact h.noerr.elim
 |hid t=>exact h.nohid.elim
 |sptr e t=>exact h.nosptr.elim
 |clo f t=>exact h.noclo.elim
 |slice e' t=>simp[Go.isAgg,run_underlying h.slice.1,Ty.isAgg]
 |arr n t=>obtain⟨_,e2,he,_⟩:=h.arr;simp[Go.isAgg,run_underlying he,Ty.isAgg]
 |unit=>obtain⟨fs,he,_⟩:=h.struct rfl;simp[Go.isAgg,run_underlying he,Ty.isAgg]
 |pair a b=>obtain⟨fs,he,_⟩:=h.struct rfl;simp[Go.isAgg,run_underlying he,Ty.isAgg]
theorem Q1v(h:Q1u P e T=true)(w:World): (Go.isAgg e).run P w= .ok T.isAgg w:=by
 unfold Q1u at h
 cases hu:P.underlying e with
 |none=>rw[hu]at h;cases T<;>simp at h
 |some d=>
  rw[hu]at h
  cases d<;>cases T<;>simp at h<;>simp[Go.isAgg,run_underlying hu,Ty.isAgg]
theorem TOK.sizeOf(h:TOK P e T)(w:World): (sizeOf e).run P w= .ok T.size w:=by
 obtain⟨i,hi,hs,_⟩:=h.size
 simp[Go.sizeOf,typeInfo,hi,hs]
theorem Qdh(h:T.isAgg=false):T.size=1:=by cases T<;>simp[Ty.isAgg]at h<;>rfl
theorem TOK.load(h:TOK P e T){w:World}{ad:Addr}{vs:List Value}(hl:vs.length=T.size)(hc: ∀j u,vs[j]? =some u→w.cell? (ad.add j)=some u):
  (loadVar e ad).run P w= .ok (Xz T vs) w:=by
 unfold loadVar
 simp only[Sem.run_bind,h.isAgg w,Result.andThen_ok]
 cases ha:T.isAgg
 ·have h1:=Qdh ha
  rw[h1]at hl
  obtain⟨v,rfl⟩:=List.length_eq_one_iff.1 hl
  have:=hc 0 v rfl
  simp only[Addr.add_zero']at this
  have hp:Xz T [v]=v:=by cases T<;>simp[Ty.isAgg]at ha<;>rfl
  simp[this,hp]
 ·simp only[if_true,Sem.run_bind,h.sizeOf w,Result.andThen_ok]
  have:=run_loadCells_list (P:=P) (w:=w) ad vs hc
  rw[hl]at this
  rw[this]
  cases T<;>simp[Ty.isAgg]at ha<;>rfl
theorem Zyd{vs:List Value}(h1: ∀u∈vs,u.oneCell'=true)(hl:vs.length=T.size): (Xz T vs).cells.toList=vs:=by
 cases ha:T.isAgg
 ·rw[Qdh ha]at hl
  obtain⟨v,rfl⟩:=List.length_eq_one_iff.1 hl
  have hp:Xz T [v]=v:=by cases T<;>simp[Ty.isAgg]at ha<;>rfl
  rw[hp]
  have:=h1 v (by simp)
  cases v<;>simp[Value.oneCell']at this<;>rfl
 ·cases T<;>simp[Ty.isAgg]at ha<;>simp[Xz,Value.cells]
end
abbrev Ob:=Option Prop
def Ob.ok:Ob→Prop
 |none=>True
 |some p=>p
structure Res where
 t:Tm
 s:St
 moved:Bool
 obl:Ob
def Old(w w':World):Prop:= ∀k,k<w.heap.size→w'.heap[k]? =w.heap[k]?
theorem Old.refl(w:World):Old w w:=fun _ _=>rfl
theorem Old.cell{w w':World}(h:Old w w'){ad:Addr}{u:Value}(hc:w.cell? ad=some u):w'.cell? ad=some u:=by
 have hb:ad.block<w.heap.size:=by
  unfold World.cell? at hc
  cases hk:w.heap[ad.block]? with
  |none=>rw[hk]at hc;cases hc
  |some o=>exact(Array.getElem?_eq_some_iff.1 hk).1
 rw[World.cell?_of_block (w:=w) (h _ hb)];exact hc
theorem Old.alloc(w:World)(ob:Obj):Old w (w.alloc ob):=fun k hk=>by
 show(w.heap.push ob)[k]? =w.heap[k]?
 rw[Array.getElem?_push,if_neg (Nat.ne_of_lt hk)]
def Qjm(X:Nat→Prop)(s:St)(a:Act)(tgt:Option Nat)(w w':World):Prop:=
 ∀b,(X b∨ ∃r,s.isBox r∧tgt≠some r∧Qi a (.m r)= .pointer (some ⟨b,0,none⟩))→w'.heap[b]? =w.heap[b]?
theorem R.kept{g:Y4}{n:Nat}{W0:Zct g}{w w':World}{X:Nat→Prop}{F:Key→List Nat}{H:List Nat}{s:St}{a:Act}(h:R n W0 w X F H s a)(ho:Old w w'){tgt:Option Nat}:Qjm X s a tgt w w':=fun b hb=>ho b (by
 rcases hb with hb| ⟨r,h1,_,h2⟩
 ·exact h.xlt b hb
 ·obtain⟨S,h3⟩:=h.boxIn h1 h2
  exact(h.own (.m r) b (by rw[h3];simp)).2.1)
def Qyo:Op→Bool
 | .store .. =>false
 | .call {callee:= .builtin .append,..}=>false
 |_=>true
def Zoz(P:Program){g:Y4}(n:Nat)(W0:Zct g)(w:World)(X:Nat→Prop)(H:List Nat)(s:St)(a:Act)(o:Oper)(r:Res):Prop:=
 r.obl.ok→ ∀(K:Act→World→Prop) (Q:Exit→Act→World→Prop),
  (∀v X' F' S w',(∀b,X b→X' b)→R n W0 w' X' F' (S++H) r.s a→vt w' X' W0.B r.s F' a v S r.t→(r.moved=false→r.s=s)→(Qyo o.op=true→Old w w')∧Qjm X s a none w w'→K (a.put o.dst v) w')→o.wp P a w K Q
section
variable {P:Program} {g:Y4} {W0:Zct g} {w w':World} {X X':Nat→Prop} {B n:Nat} {own:Bool} {s:St} {F:Key→List Nat} {a:Act} {H:List Nat} {o:Oper} {tg:Xm} {τ:Tab}
def Q3j(τ:Tab):Op→Bool
 | .load .. =>true
 | .convert e _ _=>match τ e with|some (.slice _ _)=>true|_=>false
 |_=>false
def Zuv(s:St):Op→Option (Option Nat)
 | .load _ (.tmp k)=>
  let rec go:Tm→Option (Option Nat)
   | .ptr r _=>some (some r)
   | .aep r _ _=>some (some r)
   | .pls _ _=>some none
   | .shp _ _=>some none
   | .gd _ _ t=>go t
   | .box _ _ _ _=>some (some k)
   |_=>none
  go (s.get (.m k))
 |_=>none
theorem Zoi{s:St}{tg:Xm}{e:TypeId}{k k':Nat}{t:Tm}(h:op1 s tg (.tmp k)= .tm k' t)(hj:t≠ .junk):Zuv s (.load e (.tmp k))=Zuv.go k t:=by
 simp only[op1,Op1.tm.injEq]at h
 obtain⟨rfl,h⟩:=h
 simp only[Zuv]
 cases hg:s.get (.m k)<;>rw[hg]at h<;>simp only[Zvt]at h<;>first| (subst h;rfl)|skip
 split at h
 ·exact absurd h.symm hj
 ·split at h
  ·subst h;rfl
  ·exact absurd h.symm hj
def Dep(τ:Tab)(X:Nat→Prop)(s:St)(a:Act)(o:Oper)(w w':World):Prop:=Q3j τ o.op=true→match Zuv s o.op with
 |some (some r)=> ∀b,b<w.heap.size→Qi a (.m r)= .pointer (some ⟨b,0,none⟩)→w'.heap[b]? =w.heap[b]?
 |some none=> ∀b,b<w.heap.size→X b→w'.heap[b]? =w.heap[b]?
 |none=>Old w w'
theorem Dep.refl(τ:Tab)(X:Nat→Prop)(s:St)(a:Act)(o:Oper)(w:World):Dep τ X s a o w w:=by
 intro _
 split
 ·exact fun _ _ _=>rfl
 ·exact fun _ _ _=>rfl
 ·exact Old.refl w
def W1(P:Program)(τ:Tab){g:Y4}(W0:Zct g)(w:World)(X:Nat→Prop)(F:Key→List Nat)(s:St)(a:Act)(o:Oper)(r:Res):Prop:=
 r.s=s∧(r.obl.ok→ ∃v,(∀w',Dep τ X s a o w w'→(execOp a.eval o).run P w'= .ok (.value v) w')∧vt w X W0.B s F a v [] r.t)
theorem Yk{r:Res}(hs:r.s=s)(hr:r.obl.ok→ ∃v,(∀w',Dep τ X s a o w w'→(execOp a.eval o).run P w'= .ok (.value v) w')∧vt w X W0.B s F a v [] r.t):W1 P τ W0 w X F s a o r:=⟨hs,hr⟩
theorem Zog{r:Res}(h:R n W0 w X F H s a)(hs:r.s=s)(hr:r.obl.ok→ ∃v,(execOp a.eval o).run P w= .ok (.value v) w∧vt w X W0.B s F a v [] r.t):Zoz P n W0 w X H s a o r:=by
 intro hobl K Q hK
 obtain⟨v,h1,h2⟩:=hr hobl
 unfold Oper.wp
 rw[h1]
 exact hK v X F [] w (fun _ h=>h) (by rw[hs];exact h) (by rw[hs];exact h2) (fun _=>hs) ⟨fun _=>Old.refl w,h.kept (Old.refl w)⟩
theorem W1.sound{r:Res}(hp:W1 P τ W0 w X F s a o r)(h:R n W0 w X F H s a):Zoz P n W0 w X H s a o r:=Zog h hp.1 fun ho=>let⟨v,h1,h2⟩:=hp.2 ho;⟨v,h1 w (Dep.refl _ _ _ _ _ w),h2⟩
def Z3k(s:St)(k:Nat)(t:Tm):Option Res:=
 match t with
 | .val T f x=>match f.live,Zmf f T with
  |true,true=>some ⟨.val T f x,s,false,none⟩
  |true,false=>match s.get (.m k)with
   | .val _ _ _=>some ⟨.bor k [],s,false,none⟩
   |_=>none
  |_,_=>none
 | .box _ _ _ _=>match s.get (.m k)with
  | .box _ _ _ _=>some ⟨.ptr k [],s,false,none⟩
  |_=>none
 | .ptr r p=>some ⟨.ptr r p,s,false,none⟩
 | .shp T x=>some ⟨.shp T x,s,false,none⟩
 | .bor r p=>some ⟨.bor r p,s,false,none⟩
 | .elp r p i q=>some ⟨.elp r p i q,s,false,none⟩
 | .aep r p i=>some ⟨.aep r p i,s,false,none⟩
 | .pls h l=>some ⟨.pls h l,s,false,none⟩
 |_=>none
def Q24:Value→Bool
 | .pointer none=>true
 |_=>false
def Qtm(τ:Tab)(s:St)(e:TypeId)(v:Value):Option Res:=
 match Q24 v with
 |true=>some ⟨.junk,s,false,none⟩
 |false=>match τ e with
  |some T=>match Z3n T v with
   |some x=>some ⟨.val T (.u true) x,s,false,none⟩
   |none=>none
  |none=>none
theorem Zxj{e:TypeId}{v:Value}{r:Res}(hr:Qtm τ s e v=some r):r.s=s∧vt w X B s F a v [] r.t:=by
 unfold Qtm at hr
 split at hr
 ·simp only[Option.some.injEq]at hr
  subst hr
  exact⟨rfl,rfl⟩
 ·split at hr
  ·split at hr
   ·rename_i T _ x hx
    simp only[Option.some.injEq]at hr
    subst hr
    obtain⟨vs,h1,h2⟩:=Ztw (w:=w) (X:=X) (B:=B) (own:=true) hx
    exact⟨rfl,vs,h1,by unfold rdF;exact h2⟩
   ·cases hr
  ·cases hr
theorem Qxc(_h:R n W0 w X F H s a){k:Nat}{T:Ty}{f:Fl}{x:T.den}(hg:s.get (.m k)= .val T f x):Yn w s F a k [] (Qi a (.m k)) T:=by
 unfold Yn;rw[hg];exact⟨rfl,rfl,rfl⟩
theorem Zqt(h:R n W0 w X F H s a)(ht:tg.ok a){x:Operand}{k:Nat}{t:Tm}(hx:op1 s tg x= .tm k t){r:Res}(hr:Z3k s k t=some r):
  r.s=s∧vt w X W0.B s F a (a.eval x) [] r.t:=by
 have hj:t≠ .junk:=by intro e;subst e;simp[Z3k]at hr
 obtain⟨rfl,hv⟩:=Kr h ht hx hj
 unfold Z3k at hr
 split at hr
 ·rename_i T f y
  split at hr
  ·rename_i _ _ hn
   simp only[Option.some.injEq]at hr
   subst hr
   obtain⟨vs,h1,h2⟩:=hv
   have:=Zgu hn h2
   rw[this]at h2
   exact⟨rfl,vs,h1,h2⟩
  ·split at hr
   ·rename_i hg
    simp only[Option.some.injEq]at hr
    subst hr
    exact⟨rfl,rfl,fun _=>⟨_,Qxc h hg⟩⟩
   ·cases hr
  ·cases hr
 ·rename_i e T f y
  split at hr
  ·rename_i e' T' f' y' hg
   simp only[Option.some.injEq]at hr
   subst hr
   simp only[op1,hg,Zvt,Op1.tm.injEq,true_and]at hx
   cases hx
   obtain⟨b,c,S,h1,h2,h3,h4⟩:=hv
   exact⟨rfl,rfl,_,_,_,_,b,S,hg,h2,h1⟩
  ·cases hr
 ·simp only[Option.some.injEq]at hr;subst hr;exact⟨rfl,hv.1▸hv⟩
 ·simp only[Option.some.injEq]at hr;subst hr;exact⟨rfl,hv.1▸hv⟩
 ·simp only[Option.some.injEq]at hr;subst hr;exact⟨rfl,hv.1▸hv⟩
 ·simp only[Option.some.injEq]at hr;subst hr;exact⟨rfl,hv.1▸hv⟩
 ·simp only[Option.some.injEq]at hr;subst hr;exact⟨rfl,hv.1▸hv⟩
 ·simp only[Option.some.injEq]at hr;subst hr;exact⟨rfl,hv.1▸hv⟩
 ·cases hr
def Qch(τ:Tab)(s:St)(tg:Xm)(e:TypeId)(x:Operand):Option Res:=
 match op1 s tg x with
 | .cst v=>Qtm τ s e v
 | .fn f=>some ⟨.val (.fnc f) (.u true) (),s,false,none⟩
 | .tm k t=>Z3k s k t
 |_=>none
theorem Qu1(f:FuncId):vt w X B s F a (.func (.func f) #[] #[]) [] (.val (.fnc f) (.u own) ()):=⟨[_],rfl,by unfold rdF;exact⟨rfl,rfl⟩⟩
theorem Zv2(h:R n W0 w X F H s a)(ht:tg.ok a){x:Operand}(ho:o.op= .move x){r:Res}(hr:Qch τ s tg o.type x=some r):W1 P τ W0 w X F s a o r:=by
 have key:r.s=s∧vt w X W0.B s F a (a.eval x) [] r.t:=by
  unfold Qch at hr
  split at hr
  ·rename_i v hv
   cases x<;>simp only[op1]at hv<;>cases hv
   exact Zxj hr
  ·rename_i f hv
   cases x<;>simp only[op1]at hv<;>cases hv
   simp only[Option.some.injEq]at hr
   subst hr
   exact⟨rfl,Qu1 f⟩
  ·rename_i k t hx
   exact Zqt h ht hx hr
  ·cases hr
 exact Yk key.1 fun _=>⟨_,fun w' _=>by simp[execOp,ho],key.2⟩
def Ztl(τ:Tab)(s:St)(tg:Xm)(e:TypeId)(x:Operand):Option Res:=
 match op1 s tg x with
 | .cst v=>Qtm τ s e v
 | .fn f=>some ⟨.val (.fnc f) (.u true) (),s,false,none⟩
 | .tm k t=>match t with
  | .val _ _ _| .bor _ _=>match Qjh s (.tm k t)with
   |some u=>some ⟨.val u.T u.f u.x,u.s,u.moved,none⟩
   |none=>none
  |_=>Z3k s k t
 |_=>none
theorem Qjo(h:R n W0 w X F H s a)(ht:tg.ok a){x:Operand}(ho:o.op= .assign x){r:Res}(hr:Ztl τ s tg o.type x=some r):Zoz P n W0 w X H s a o r:=by
 unfold Ztl at hr
 have take: ∀{k t u},op1 s tg x= .tm k t→Qjh s (.tm k t)=some u→Zoz P n W0 w X H s a o ⟨.val u.T u.f u.x,u.s,u.moved,none⟩:=by
  intro k t u hx hu
  rw[←hx]at hu
  obtain⟨F',S,vs,h1,h2,h3,h4,_⟩:=Z3d h ht hu
  intro _ K Q hK
  unfold Oper.wp
  simp only[execOp,ho,Sem.run_pure]
  exact hK _ X F' S w (fun _ h=>h) h3 ⟨vs,h1,h2⟩ (fun hm=>(h4 hm).1) ⟨fun _=>Old.refl w,h.kept (Old.refl w)⟩
 split at hr
 ·rename_i v hv
  cases x<;>simp only[op1]at hv<;>cases hv
  obtain⟨h1,h2⟩:=Zxj (w:=w) (X:=X) (B:=W0.B) (s:=s) (F:=F) (a:=a) hr
  exact Zog h h1 fun _=>⟨_,by simp[execOp,ho,Act.eval],h2⟩
 ·rename_i f hv
  cases x<;>simp only[op1]at hv<;>cases hv
  simp only[Option.some.injEq]at hr
  subst hr
  exact Zog h rfl fun _=>⟨_,by simp[execOp,ho,Act.eval],Qu1 f⟩
 ·rename_i k t hx
  split at hr
  ·split at hr
   ·rename_i u hu
    simp only[Option.some.injEq]at hr
    subst hr
    exact take hx hu
   ·cases hr
  ·split at hr
   ·rename_i u hu
    simp only[Option.some.injEq]at hr
    subst hr
    exact take hx hu
   ·cases hr
  ·obtain⟨h1,h2⟩:=Zqt h ht hx hr
   exact Zog h h1 fun _=>⟨_,by simp[execOp,ho],h2⟩
 ·cases hr
def Ql8(τ:Tab)(s:St)(tg:Xm)(e:TypeId)(c x y:Operand):Option Res:=
 match τ e,c with
 |some T,.tmp k=>match T.flat,V3 s (op1 s tg c) .bool,V3 s (op1 s ((k,true)::tg) x) T,V3 s (op1 s ((k,false)::tg) y) T with
  |true,some b,some u,some v=>some ⟨.val T (.u false) (match b with|true=>u|false=>v),s,false,none⟩
  |_,_,_,_=>none
 |_,_=>none
theorem Z6e(h:R n W0 w X F H s a)(ht:tg.ok a){c x y:Operand}(ho:o.op= .pick c x y){r:Res}(hr:Ql8 τ s tg o.type c x y=some r):W1 P τ W0 w X F s a o r:=by
 unfold Ql8 at hr
 split at hr
 ·rename_i T k _
  split at hr
  ·rename_i b u v hT hb hu hv
   simp only[Option.some.injEq]at hr
   subst hr
   refine Yk rfl fun _=> ?_
   obtain⟨vs,h1,h2⟩:=Vt h ht hb
   obtain⟨rfl,_⟩:=h2
   have hc:Qi a (.m k)= .bool b:=h1
   have hok:Xm.ok ((k,b)::tg) a:=fun p hp=>by
    rcases List.mem_cons.1 hp with rfl|hp
    ·exact hc
    ·exact ht p hp
   cases b
   ·obtain⟨vs,k1,k2⟩:=Vt h hok hv
    exact⟨_,fun w' _=>by simp[execOp,ho,h1,Xz,k1,asBool],vs,rfl,by unfold rdF;exact(Zbv hT k2).2⟩
   ·obtain⟨vs,k1,k2⟩:=Vt h hok hu
    exact⟨_,fun w' _=>by simp[execOp,ho,h1,Xz,k1,asBool],vs,rfl,by unfold rdF;exact(Zbv hT k2).2⟩
  ·cases hr
 ·cases hr
def W9:Nat:=4611686018427387904
def Qv:Nat:=17179869184
def Q20(op:BinOp)(k:IntKind)(x y:Int):Option (TV×Ob):=
 match op with
 | .add=>some (⟨.int k,k.wrap (x+y)⟩,none)
 | .sub=>some (⟨.int k,k.wrap (x-y)⟩,none)
 | .mul=>some (⟨.int k,k.wrap (x*y)⟩,none)
 | .quo=>some (⟨.int k,k.wrap (x.tdiv y)⟩,some (y≠0))
 | .rem=>some (⟨.int k,x.tmod y⟩,some (y≠0))
 | .and=>some (⟨.int k,bits .and k x y⟩,none)
 | .or=>some (⟨.int k,bits .or k x y⟩,none)
 | .xor=>some (⟨.int k,bits .xor k x y⟩,none)
 | .andNot=>some (⟨.int k,bits .andNot k x y⟩,none)
 | .eql=>some (⟨.bool,x==y⟩,none)
 | .neq=>some (⟨.bool,x !=y⟩,none)
 | .lss=>some (⟨.bool,decide (x<y)⟩,none)
 | .leq=>some (⟨.bool,decide (x≤y)⟩,none)
 | .gtr=>some (⟨.bool,decide (x>y)⟩,none)
 | .geq=>some (⟨.bool,decide (x≥y)⟩,none)
 |_=>none
def Q3z(op:BinOp)(x y:List UInt8):Option (TV×Ob):=
 match op with
 | .add=>some (⟨.str,x++y⟩,some (x.length+y.length≤W9))
 | .eql=>some (⟨.bool,x==y⟩,none)
 | .neq=>some (⟨.bool,!(x==y)⟩,none)
 | .lss=>some (⟨.bool,Op.bytesLess x y⟩,none)
 | .leq=>some (⟨.bool,Op.bytesLess x y||x==y⟩,none)
 | .gtr=>some (⟨.bool,!(Op.bytesLess x y||x==y)⟩,none)
 | .geq=>some (⟨.bool,!(Op.bytesLess x y)⟩,none)
 |_=>none
def Qza(op:BinOp)(x y:Bool):Option (TV×Ob):=
 match op with
 | .eql=>some (⟨.bool,x==y⟩,none)
 | .neq=>some (⟨.bool,!(x==y)⟩,none)
 |_=>none
def Qw5(op:BinOp)(k:IntKind)(x y:Int):Option (TV×Ob):=
 match op with
 | .shl=>some (⟨.int k,k.wrap (x*2^ (min y.toNat k.bits))⟩,some (0≤y))
 | .shr=>some (⟨.int k,x.fdiv (2^ (min y.toNat k.bits))⟩,some (0≤y))
 |_=>none
def BinOp.isShift:BinOp→Bool
 | .shl| .shr=>true
 |_=>false
def Qte(τ:Tab)(s:St)(tg:Xm)(op:BinOp)(e:TypeId)(x y:Operand)(e2:TypeId):Option Res:=
 match τ e with
 |some (.int k)=>match BinOp.isShift op with
  |true=>match τ e2 with
   |some (.int k2)=>match V3 s (op1 s tg x) (.int k),V3 s (op1 s tg y) (.int k2)with
    |some u,some v=>match Qw5 op k u v with
     |some (z,p)=>some ⟨.val z.1 (.u false) z.2,s,false,p⟩
     |none=>none
    |_,_=>none
   |_=>none
  |false=>match V3 s (op1 s tg x) (.int k),V3 s (op1 s tg y) (.int k)with
   |some u,some v=>match Q20 op k u v with
    |some (z,p)=>some ⟨.val z.1 (.u false) z.2,s,false,p⟩
    |none=>none
   |_,_=>none
 |some .str=>match V3 s (op1 s tg x) .str,V3 s (op1 s tg y) .str with
  |some u,some v=>match Q3z op u v with
   |some (z,p)=>some ⟨.val z.1 (.u false) z.2,s,false,p⟩
   |none=>none
  |_,_=>none
 |some .bool=>match V3 s (op1 s tg x) .bool,V3 s (op1 s tg y) .bool with
  |some u,some v=>match Qza op u v with
   |some (z,p)=>some ⟨.val z.1 (.u false) z.2,s,false,p⟩
   |none=>none
  |_,_=>none
 |_=>none
theorem Zv5(k:IntKind)(x:Int):vt w X B s F a (.int k x) [] (.val (.int k) (.u own) x):=⟨[.int k x],rfl,by unfold rdF;exact⟨rfl,rfl⟩⟩
theorem Zrn(x:Bool):vt w X B s F a (.bool x) [] (.val .bool (.u own) x):=⟨[.bool x],rfl,by unfold rdF;exact⟨rfl,rfl⟩⟩
theorem Qu2(x:List UInt8):vt w X B s F a (.string ⟨⟨x⟩⟩) [] (.val .str (.u own) x):=⟨[.string ⟨⟨x⟩⟩],rfl,by unfold rdF;exact⟨rfl,rfl⟩⟩
theorem Zop(h:R n W0 w X F H s a)(ht:tg.ok a){x:Operand}{k:IntKind}{y:Int}(hr:V3 s (op1 s tg x) (.int k)=some y):a.eval x= .int k y:=by
 obtain⟨vs,h1,h2,_⟩:=Vt h ht hr
 rw[h1,h2];rfl
theorem Zof(h:R n W0 w X F H s a)(ht:tg.ok a){x:Operand}{y:Bool}(hr:V3 s (op1 s tg x) .bool=some y):a.eval x= .bool y:=by
 obtain⟨vs,h1,h2,_⟩:=Vt h ht hr
 rw[h1,h2];rfl
theorem Zto(h:R n W0 w X F H s a)(ht:tg.ok a){x:Operand}{y:List UInt8}(hr:V3 s (op1 s tg x) .str=some y):a.eval x= .string ⟨⟨y⟩⟩:=by
 obtain⟨vs,h1,h2,_⟩:=Vt h ht hr
 rw[h1,h2];rfl
theorem Qyz(x y:List UInt8): (ByteArray.mk ⟨x⟩)++ (ByteArray.mk ⟨y⟩)=ByteArray.mk ⟨x++y⟩:=by
 apply ByteArray.ext;simp
theorem Z97(h:R n W0 w X F H s a)(ht:tg.ok a)(hτ:τ.ok P){op:BinOp}{e e2:TypeId}{x y:Operand}(ho:o.op= .binOp op e x y e2){r:Res}(hr:Qte τ s tg op e x y e2=some r):
  W1 P τ W0 w X F s a o r:=by
 unfold Qte at hr
 split at hr
 ·rename_i k hT
  split at hr
  ·split at hr
   ·split at hr
    ·rename_i k2 _ _ _ u v hu hv
     split at hr
     ·rename_i z p hz
      simp only[Option.some.injEq]at hr
      subst hr
      refine Yk rfl fun hp=> ?_
      have e1:=Zop h ht hu
      have e2:=Zop h ht hv
      cases op<;>simp only[Qw5]at hz<;>first|cases hz|skip
      all_goals
       have hn: ¬v<0:=Int.not_lt.mpr (show(0:Int)≤v from hp)
       (refine⟨_,fun w' _=> ?_,Zv5 _ _⟩;simp only[execOp,ho,e1,e2];simp[go_sem,Op.shift,hn])
     ·cases hr
    ·cases hr
   ·cases hr
  ·split at hr
   ·rename_i u v hu hv
    split at hr
    ·rename_i z p hz
     simp only[Option.some.injEq]at hr
     subst hr
     refine Yk rfl fun hp=> ?_
     have e1:=Zop h ht hu
     have e2:=Zop h ht hv
     cases op<;>simp only[Q20]at hz<;>first|cases hz|skip
     all_goals first
      | (refine⟨_,fun w' _=> ?_,Zv5 _ _⟩;simp only[execOp,ho,e1,e2];simp[go_sem,Op.intArith];done)
      | (refine⟨_,fun w' _=> ?_,Zrn _⟩;simp only[execOp,ho,e1,e2];first| (simp[go_sem];done)| (simp[go_sem,binOp,Op.stringOp];done))
      | (have hp:v≠0:=hp;refine⟨_,fun w' _=> ?_,Zv5 _ _⟩;simp only[execOp,ho,e1,e2];simp[go_sem,Op.intDiv,hp])
    ·cases hr
   ·cases hr
 ·split at hr
  ·rename_i u v hu hv
   split at hr
   ·rename_i z p hz
    simp only[Option.some.injEq]at hr
    subst hr
    refine Yk rfl fun hp=> ?_
    have e1:=Zto h ht hu
    have e2:=Zto h ht hv
    cases op<;>simp only[Q3z]at hz<;>first|cases hz|skip
    ·refine⟨.string ⟨⟨u++v⟩⟩,fun w' _=> ?_,Qu2 _⟩
     have hp:u.length+v.length≤W9:=hp
     unfold W9 at hp
     simp only[execOp,ho,e1,e2]
     simp[go_sem,binOp,Op.stringOp,Qyz]
     have:IntKind.i64.max=9223372036854775807:=rfl
     omega
    all_goals (refine⟨_,fun w' _=> ?_,Zrn _⟩;simp only[execOp,ho,e1,e2];first| (simp[go_sem];done)| (simp[go_sem,binOp,Op.stringOp];done))
   ·cases hr
  ·cases hr
 ·rename_i hT
  split at hr
  ·rename_i u v hu hv
   split at hr
   ·rename_i z p hz
    simp only[Option.some.injEq]at hr
    subst hr
    refine Yk rfl fun hp=> ?_
    have e1:=Zof h ht hu
    have e2:=Zof h ht hv
    have hb:=(hτ _ _ hT).bool
    cases op<;>simp only[Qza]at hz<;>first|cases hz|skip
    all_goals (refine⟨_,fun w' _=> ?_,Zrn _⟩;simp only[execOp,ho,e1,e2];simp[go_sem,binOp,run_equal_bool w' e u v hb])
   ·cases hr
  ·cases hr
 ·cases hr
end
end Go.Am
namespace Go.Am
open Go.RowKit
section
variable {P:Program} {g:Y4} {W0:Zct g} {w w':World} {X X':Nat→Prop} {B n:Nat} {own:Bool} {s:St} {F:Key→List Nat} {a:Act} {H:List Nat} {o:Oper} {tg:Xm} {τ:Tab}
theorem Z86(h:R n W0 w X F H s a){k r:Nat}{p:List Nat}{T:Ty}{f:Fl}{y:T.den}(hl:Zs5 s (.tm k (.bor r p))=some ⟨T,f,y⟩){v:Value}{U:Ty}(hU:Yn w s F a r p v U):
  s.foul r=false∧T=U∧f.live=true∧ ∃vs S,v=Xz T vs∧rdF w X W0.B T f y vs S∧(∀b∈S,b∈F (.m r)):=by
 simp only[Zs5]at hl
 split at hl
 ·cases hl
 ·rename_i hfoul
  refine⟨hfoul,?_⟩
  unfold Yn at hU
  have hs:=h.slots (.m r)
  split at hl
  ·rename_i T' f' x' hg
   rw[hg]at hU hs
   obtain⟨rfl,rfl,hv⟩:=hU
   split at hl
   ·rename_i hf
    simp only[Option.some.injEq,Sigma.mk.injEq]at hl
    obtain⟨rfl,hl⟩:=hl
    simp only[heq_eq_eq,Prod.mk.injEq]at hl
    obtain⟨rfl,rfl⟩:=hl
    obtain⟨vs,k1,k2⟩:=hs
    exact⟨rfl,hf,vs,_,hv.trans k1,k2,fun b hb=>hb⟩
   ·cases hl
  ·rename_i e T' f' x' hg
   rw[hg]at hU hs
   obtain⟨b,c,S,y',k1,k2,k3,k4,k5⟩:=hU
   obtain⟨b',c',S',l1,l2,l3,l4⟩:=hs
   rw[k1]at l2
   obtain⟨rfl,rfl⟩:=List.cons.inj l2
   rw[k2]at l3
   simp only[Option.some.injEq,Obj.cells.injEq]at l3
   obtain⟨rfl,_⟩:=l3
   rw[k3]at hl
   simp only at hl
   split at hl
   ·rename_i hf
    simp only[Option.some.injEq,Sigma.mk.injEq]at hl
    obtain⟨rfl,hl⟩:=hl
    simp only[heq_eq_eq,Prod.mk.injEq]at hl
    obtain⟨rfl,rfl⟩:=hl
    obtain⟨pre,mid,post,S1,S2,S3,m1,m2,m3,m4,_⟩:=Ziz k3 l4
    refine⟨k4.symm,hf,mid,S2,?_,m4,fun b' hb'=>by rw[k1,m2];simp[hb']⟩
    rw[k5,Z3e m1 m3 (Yp m4)]
   ·cases hl
  ·cases hl
def Zpk(s:St)(x:Op1):Option (IntKind×Int):=
 match x with
 | .cst (.int k n)=>some (k,n)
 | .cst _=>none
 |x=>match Zs5 s x with
  |some ⟨.int k,_,n⟩=>some (k,n)
  |_=>none
theorem Zc7(h:R n W0 w X F H s a)(ht:tg.ok a){x:Operand}{k:IntKind}{y:Int}(hr:Zpk s (op1 s tg x)=some (k,y)):a.eval x= .int k y:=by
 unfold Zpk at hr
 split at hr
 ·rename_i v hv
  simp only[Option.some.injEq,Prod.mk.injEq]at hr
  obtain⟨rfl,rfl⟩:=hr
  cases x<;>simp only[op1]at hv<;>cases hv
  rfl
 ·cases hr
 ·split at hr
  ·rename_i k' f y' hl
   simp only[Option.some.injEq,Prod.mk.injEq]at hr
   obtain⟨rfl,rfl⟩:=hr
   obtain⟨_,vs,S,h1,h2,_⟩:=Zdo h ht hl
   cases f with
   |u b=>unfold rdF at h2;rw[h1,h2.1];rfl
   |p f g=>exact h2.elim
   |d=>simp[Fl.live]at*
  ·cases hr
def Z14(s:St)(x:Op1):Option ((_:TypeId)×(t:Ty)×Bool×List t.den):=
 match Zs5 s x with
 |some ⟨.slice e t,.u b,l⟩=>some ⟨e,t,b,l⟩
 |_=>none
theorem Zs8(h:R n W0 w X F H s a)(ht:tg.ok a){x:Operand}{e:TypeId}{t:Ty}{b:Bool}{l:List t.den}(hr:Z14 s (op1 s tg x)=some ⟨e,t,b,l⟩):
  ∃v xs S1 S2,a.eval x=v∧hdr w X W0.B b e t.size l.length v xs S1∧Zbf (rd w X W0.B b t) l xs S2∧ ∀b'∈S1++S2,∃k,b'∈F k:=by
 unfold Z14 at hr
 split at hr
 ·rename_i e' t' b' l' hl
  simp only[Option.some.injEq,Sigma.mk.injEq]at hr
  obtain⟨rfl,hr⟩:=hr
  simp only[heq_eq_eq,Sigma.mk.injEq]at hr
  obtain⟨rfl,hr⟩:=hr
  simp only[heq_eq_eq,Prod.mk.injEq]at hr
  obtain⟨rfl,rfl⟩:=hr
  obtain⟨_,vs,S,h1,h2,h3⟩:=Zdo h ht hl
  unfold rdF at h2
  obtain⟨v,xs,S1,S2,rfl,rfl,k1,k2⟩:=h2
  exact⟨v,xs,S1,S2,h1,k1,k2,h3⟩
 ·cases hr
def Qz6(τ:Tab)(s:St)(tg:Xm)(op:UnOp)(e:TypeId)(x:Operand):Option Res:=
 match op,τ e with
 | .not,some .bool=>match V3 s (op1 s tg x) .bool with
  |some u=>some ⟨.val .bool (.u false) (!u),s,false,none⟩
  |none=>none
 | .neg,some (.int k)=>match V3 s (op1 s tg x) (.int k)with
  |some u=>some ⟨.val (.int k) (.u false) (k.wrap (0-u)),s,false,none⟩
  |none=>none
 |_,_=>none
theorem Qjj(h:R n W0 w X F H s a)(ht:tg.ok a){op:UnOp}{e:TypeId}{x:Operand}(ho:o.op= .unOp op e x){r:Res}(hr:Qz6 τ s tg op e x=some r):W1 P τ W0 w X F s a o r:=by
 unfold Qz6 at hr
 split at hr
 ·split at hr
  ·rename_i u hu
   simp only[Option.some.injEq]at hr
   subst hr
   have e1:=Zof h ht hu
   refine Yk rfl fun _=>⟨_,fun w' _=> ?_,Zrn _⟩
   simp only[execOp,ho,e1];simp[Op.unary]
  ·cases hr
 ·split at hr
  ·rename_i k _ _ u hu
   simp only[Option.some.injEq]at hr
   subst hr
   have e1:=Zop h ht hu
   refine Yk rfl fun _=>⟨_,fun w' _=> ?_,Zv5 _ _⟩
   simp only[execOp,ho,e1];simp[Op.unary,Op.intArith]
  ·cases hr
 ·cases hr
def Zaz(l:List Int):List UInt8:=l.map fun n=>UInt8.ofNat n.toNat
def Ql3(τ:Tab)(s:St)(tg:Xm)(src dst:TypeId)(x:Operand):Option Res:=
 match τ src,τ dst with
 |some (.int k),some (.int k2)=>match V3 s (op1 s tg x) (.int k)with
  |some u=>some ⟨.val (.int k2) (.u false) (k2.wrap u),s,false,none⟩
  |none=>none
 |some (.slice e' (.int .u8)),some .str=>match Z14 s (op1 s tg x),τ e' with
  |some ⟨_,.int .u8,_,l⟩,some (.int .u8)=>some ⟨.val .str (.u false) (Zaz l),s,false,none⟩
  |_,_=>none
 |some .str,some .str=>match V3 s (op1 s tg x) .str with
  |some u=>some ⟨.val .str (.u false) u,s,false,none⟩
  |none=>none
 |_,_=>none
theorem Qsv{k:IntKind}: ∀{l:List Int} {xs:List Value} {S:List Nat},Zbf (rd w X B own (.int k)) l xs S→xs=l.map (Value.int k)∧S=[]
 | [],_,_,⟨h1,h2⟩=>⟨h1,h2⟩
 |x::l,_,_,⟨v1,v2,S1,S2,e1,e2,h1,h2⟩=>by
  obtain⟨rfl,rfl⟩:=h1
  obtain⟨rfl,rfl⟩:=Qsv h2
  exact⟨by rw[e1];rfl,by rw[e2];rfl⟩
theorem Zy9: ∀(l:List Int) (r:ByteArray),l.foldl (fun r n=>r.push (UInt8.ofNat n.toNat)) r=⟨r.data++ (Zaz l).toArray⟩
 | [],r=>by simp[Zaz]
 |b::l,r=>by
  simp only[List.foldl_cons]
  rw[Zy9 l]
  simp[ByteArray.push,Zaz]
theorem Z52(h:R n W0 w X F H s a)(ht:tg.ok a)(hτ:τ.ok P){e e2:TypeId}{x:Operand}(ho:o.op= .convert e e2 x){r:Res}(hr:Ql3 τ s tg e e2 x=some r):W1 P τ W0 w X F s a o r:=by
 unfold Ql3 at hr
 split at hr
 ·rename_i k k2 h1 h2
  split at hr
  ·rename_i u hu
   simp only[Option.some.injEq]at hr
   subst hr
   have e1:=Zop h ht hu
   refine Yk rfl fun _=>⟨_,fun w' hw'=> ?_,Zv5 _ _⟩
   simp only[execOp,ho,e1]
   simp[convert,run_underlying (hτ _ _ h1).int,run_underlying (hτ _ _ h2).int,Conv.intToInt]
  ·cases hr
 ·rename_i e' h1 h2
  split at hr
  ·rename_i e3 b l hl hu8
   simp only[Option.some.injEq]at hr
   subst hr
   have hu8:=hτ _ _ hu8
   obtain⟨v,xs,S1,S2,hv,k1,k2,_⟩:=Zs8 h ht hl
   obtain⟨rfl,rfl⟩:=Qsv k2
   obtain⟨ad,cap,rfl,_,_,hc⟩:=Zdd k1
   refine Yk rfl fun _=>⟨_,fun w' hw'=> ?_,Qu2 _⟩
   simp only[execOp,ho,hv]
   rw[Sem.run_bind,run_convert_bytes_string w' e e2 e' ad _ cap (hτ _ _ h1).slice.1 hu8.int (hτ _ _ h2).str]
   rcases hc with⟨rfl,hl0,_⟩| ⟨a0,rfl,_,hc⟩
   ·have:l=[]:=List.eq_nil_of_length_eq_zero hl0
    subst this
    simp[Conv.bytesToString,Zaz]
    rfl
   ·have hl:=run_loadCells_list (P:=P) w' a0 (l.map (Value.int .u8)) (fun j u hj=>(show Old w w' by
     have:=hw' (by rw[ho];simp[Q3j,h1])
     rw[ho]at this
     exact this).cell (hc j u hj))
    simp only[List.length_map]at hl
    rw[run_bytesToString w' a0 l.length cap l hl,Zy9]
    have he0:ByteArray.empty.data= #[]:=rfl
    rw[he0]
    simp
  ·cases hr
 ·rename_i h1 h2
  split at hr
  ·rename_i u hu
   simp only[Option.some.injEq]at hr
   subst hr
   have e1:=Zto h ht hu
   refine Yk rfl fun _=>⟨_,fun w' hw'=> ?_,Qu2 _⟩
   simp only[execOp,ho,e1]
   simp[convert,run_underlying (hτ _ _ h1).str,run_underlying (hτ _ _ h2).str]
  ·cases hr
 ·cases hr
theorem Q6a(u:List UInt8): (ByteArray.mk ⟨u⟩).size=u.length:=rfl
theorem Q7g(u v:Int): (if v<u then v else u)=min u v:=by rw[Int.min_def];split<;>split<;>omega
theorem Q7e(u v:Int): (if u<v then v else u)=max u v:=by rw[Int.max_def];split<;>split<;>omega
def Quf(τ:Tab)(s:St)(tg:Xm)(e:TypeId)(x:Operand):Option Res:=
 match τ e with
 |some .str=>match V3 s (op1 s tg x) .str with
  |some u=>some ⟨.val (.int .i64) (.u false) (u.length:Int),s,false,none⟩
  |none=>none
 |some (.slice _ _)=>match Z14 s (op1 s tg x)with
  |some ⟨_,_,_,l⟩=>some ⟨.val (.int .i64) (.u false) (l.length:Int),s,false,none⟩
  |none=>none
 |_=>none
theorem Qca(h:R n W0 w X F H s a)(ht:tg.ok a)(hτ:τ.ok P){e:TypeId}{x:Operand}(ho:o.op= .call {callee:= .builtin .len,args:= #[x],argTypes:= #[e]}){r:Res}(hr:Quf τ s tg e x=some r):W1 P τ W0 w X F s a o r:=by
 unfold Quf at hr
 split at hr
 ·rename_i h1
  split at hr
  ·rename_i u hu
   simp only[Option.some.injEq]at hr
   subst hr
   have e1:=Zto h ht hu
   refine Yk rfl fun _=>⟨_,fun w' _=> ?_,Zv5 _ _⟩
   simp only[execOp,ho]
   simp[resolve,invoke,builtin,e1,Builtin.len_,run_underlying (hτ _ _ h1).str,goInt,Q6a]
  ·cases hr
 ·rename_i h1
  split at hr
  ·rename_i e' t b l hl
   simp only[Option.some.injEq]at hr
   subst hr
   obtain⟨v,xs,S1,S2,hv,k1,k2,_⟩:=Zs8 h ht hl
   obtain⟨ad,cap,rfl,_,_,hc⟩:=Zdd k1
   refine Yk rfl fun _=>⟨_,fun w' _=> ?_,Zv5 _ _⟩
   simp only[execOp,ho]
   simp[resolve,invoke,builtin,hv,Builtin.len_,run_underlying (hτ _ _ h1).slice.1,goInt]
  ·cases hr
 ·cases hr
def Qgj(s:St)(tg:Xm)(e:TypeId)(τ:Tab)(x y:Operand)(mx:Bool):Option Res:=
 match τ e with
 |some (.int k)=>match V3 s (op1 s tg x) (.int k),V3 s (op1 s tg y) (.int k)with
  |some u,some v=>some ⟨.val (.int k) (.u false) (match mx with|true=>(max u v:Int)|false=>(min u v:Int)),s,false,none⟩
  |_,_=>none
 |_=>none
theorem Zs6(h:R n W0 w X F H s a)(ht:tg.ok a){e e2:TypeId}{x y:Operand}{mx:Bool}(ho:o.op= .call {callee:= .builtin (match mx with|true=> .max|false=> .min),args:= #[x,y],argTypes:= #[e,e2]}){r:Res}(hr:Qgj s tg e τ x y mx=some r):
  W1 P τ W0 w X F s a o r:=by
 unfold Qgj at hr
 split at hr
 ·split at hr
  ·rename_i u v hu hv
   simp only[Option.some.injEq]at hr
   subst hr
   have e1:=Zop h ht hu
   have e2:=Zop h ht hv
   refine Yk rfl fun _=>⟨_,fun w' _=> ?_,Zv5 _ _⟩
   simp only[execOp,ho]
   cases mx
   ·simp[resolve,invoke,builtin,e1,e2,Builtin.min_,Builtin.min2,Q7g]
   ·simp[resolve,invoke,builtin,e1,e2,Builtin.max_,Builtin.max2,Q7e]
  ·cases hr
 ·cases hr
theorem Zui{α:Type}{r:α→List Value→List Nat→Prop}{sz:Nat}(hr: ∀x v S,r x v S→v.length=sz): ∀{l:List α} {vs:List Value} {S:List Nat} {i:Nat} (hi:i<l.length),
  Zbf r l vs S→ ∃pre mid post S1 S2 S3,vs=pre++ (mid++post)∧S=S1++ (S2++S3)∧pre.length=i*sz∧r l[i] mid S2∧
   Zbf r (l.take i) pre S1∧Zbf r (l.drop (i+1)) post S3
 | [],_,_,_,hi,_=>by simp at hi
 |x::l,vs,S,0,_,⟨v1,v2,S1,S2,e1,e2,h1,h2⟩=>⟨[],v1,v2,[],S1,S2,by simp[e1],by simp[e2],by simp,h1,⟨rfl,rfl⟩,h2⟩
 |x::l,vs,S,i+1,hi,⟨v1,v2,S1,S2,e1,e2,h1,h2⟩=>by
  obtain⟨pre,mid,post,T1,T2,T3,k1,k2,k3,k4,k5,k6⟩:=Zui hr (i:=i) (by simpa using hi) h2
  exact⟨v1++pre,mid,post,S1++T1,T2,T3,by simp[e1,k1],by simp[e2,k2],by simp[hr _ _ _ h1,k3,Nat.add_mul];omega,by simpa using k4,
   ⟨v1,pre,S1,T1,rfl,rfl,h1,k5⟩,by simpa using k6⟩
theorem Q1e{T:Ty}{e:TypeId}(h1:Zr0 P e T=true)(h2:Q1u P e T=true)(w:World){xs:Array Value}{off:Nat}{pre u post:List Value}(hx:xs.toList=pre++ (u++post))(ho:pre.length=off)(hu:u.length=T.size):
  (part e xs off).run P w= .ok (Xz T u) w:=by
 obtain⟨i,hi,hs,_⟩:=Zkv h1
 unfold part
 simp only[Sem.run_bind,Q1v h2 w,Result.andThen_ok]
 cases ha:T.isAgg
 ·have h1:=Qdh ha
  rw[h1]at hu
  obtain⟨v,rfl⟩:=List.length_eq_one_iff.1 hu
  have:xs[off]? =some v:=by
   rw[←Array.getElem?_toList,hx,←ho];simp
  have hp:Xz T [v]=v:=by cases T<;>simp[Ty.isAgg]at ha<;>rfl
  simp[this,hp]
 ·simp only[if_true,Sem.run_bind,Go.sizeOf,typeInfo,Sem.run_pure]
  have he:xs.extract off (off+T.size)=u.toArray:=by
   apply Array.toList_inj.mp
   rw[Array.toList_extract,hx,←ho,←hu]
   simp
  have hp:Xz T u= .agg u.toArray:=by cases T<;>simp[Ty.isAgg]at ha<;>rfl
  simp[hi,hs,he,hp]
def Qb6(τ:Tab)(s:St)(tg:Xm)(e:TypeId)(x i:Operand):Option Res:=
 match τ e with
 |some .str=>match V3 s (op1 s tg x) .str,Zpk s (op1 s tg i)with
  |some u,some (_,j)=>some ⟨.val (.int .u8) (.u false) ((u.getD j.toNat 0).toNat:Int),s,false,some (0≤j∧j<u.length)⟩
  |_,_=>none
 |some (.arr n t)=>match t.flat,V3 s (op1 s tg x) (.arr n t),Zpk s (op1 s tg i)with
  |true,some l,some (_,j)=>some ⟨.val t (.u false) (l.getD j.toNat (zero t)),s,false,some (0≤j∧j<n)⟩
  |_,_,_=>none
 |_=>none
theorem Z1e(h:R n W0 w X F H s a)(ht:tg.ok a)(hτ:τ.ok P){e:TypeId}{x i:Operand}(ho:o.op= .index e x i){r:Res}(hr:Qb6 τ s tg e x i=some r):W1 P τ W0 w X F s a o r:=by
 unfold Qb6 at hr
 split at hr
 ·rename_i h1
  split at hr
  ·rename_i u k j hu hj
   simp only[Option.some.injEq]at hr
   subst hr
   have e1:=Zto h ht hu
   have e2:=Zc7 h ht hj
   refine Yk rfl fun hp=>⟨_,fun w' _=> ?_,Zv5 _ _⟩
   have hp:0≤j∧j<u.length:=hp
   have hlt:j.toNat<u.length:=by omega
   have hsz:0≤j∧j< (ByteArray.mk ⟨u⟩).size:=by simpa[ByteArray.size]using hp
   simp only[execOp,ho,e1,e2,Sem.run_bind]
   rw[run_index_string _ _ _ _ _ (hτ _ _ h1).str,dif_pos hsz]
   simp[List.getD_eq_getElem?_getD,hlt]
   rfl
  ·cases hr
 ·rename_i n t hT
  split at hr
  ·rename_i l k j hfl hl hj
   simp only[Option.some.injEq]at hr
   subst hr
   obtain⟨vs,h1,h2⟩:=Vt h ht hl
   have e2:=Zc7 h ht hj
   obtain⟨hlen,hrows⟩:=h2
   have hlen:l.length=n:=hlen
   obtain⟨_,et,hu,hs,hag⟩:=(hτ _ _ hT).arr'
   obtain⟨i2,hi2,hs2,_⟩:=Zkv hs
   by_cases hob:0≤j∧j<n
   ·have hil:j.toNat<l.length:=by omega
    obtain⟨pre,mid,post,T1,T2,T3,n1,n2,n3,n4,_⟩:=Zui (fun _ _ _ h=>Yj h) hil hrows
    have e4:l.getD j.toNat (zero t)=l[j.toNat]:=by rw[List.getD_eq_getElem?_getD,List.getElem?_eq_getElem hil];rfl
    refine Yk rfl fun _=>⟨Xz t mid,fun w' _=> ?_,mid,rfl,by rw[e4];unfold rdF;exact(Zbv hfl n4).2⟩
    have hx:a.eval x= .agg vs.toArray:=h1
    simp only[execOp,ho,hx,e2,Instr.index,Sem.run_bind,asIntOf,Sem.run_pure,Result.andThen_ok,run_underlying hu,Go.sizeOf,typeInfo]
    simp only[hob.1,hob.2,and_self,if_true,Sem.run_bind]
    simp[hi2,hs2,Q1e hs hag w' (xs:=vs.toArray) (off:=j.toNat*t.size) (pre:=pre) (u:=mid) (post:=post) (by simpa using n1) n3 (Yj n4)]
   ·exact Yk rfl fun hp=>absurd hp hob
  ·cases hr
 ·cases hr
end
end Go.Am

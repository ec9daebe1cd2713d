/- The abstract machine, part 1: what a piece of Go code does, as plain data, and that it does so. No condition. -/
import Derived.WalkKit
set_option linter.all false
namespace Go.Am
open Go.RowKit
theorem Obs{α β:Type _}(a:α)(f:α->Option β):(some a).bind f=f a:=rfl
theorem Osi{α:Type _}(a b:α):(some a=some b)=(a=b):=Option.some.injEq a b
theorem Oba(a b:Bool):((a&&b)=true)=(a=true/\b=true):=Bool.and_eq_true a b
theorem Onb{n m:Nat}(h:Nat.beq n m=true):n=m:=Nat.eq_of_beq_eq_true h
theorem Ode{p:Prop}[Decidable p](h:decide p=true):p:=of_decide_eq_true h
theorem Opi{α β:Type _}(a:α)(b:β)(c:α)(d:β):((a,b)=(c,d))=(a=c/\b=d):=Prod.mk.injEq a b c d
theorem Oct{α:Type _}(a b:α):cond true a b=a:=rfl
theorem Ocf{α:Type _}(a b:α):cond false a b=b:=rfl
theorem Ont:(!true)=false:=rfl
theorem Ota(b:Bool):(true&&b)=b:=Bool.true_and b
inductive Ty where
 |unit|int (k:IntKind)|bool|str|slice (e:TypeId) (t:Ty)|pair (a b:Ty)|arr (n:Nat) (t:Ty)|fnc (f:FuncId)|err|hid (t:Ty)|sptr (e:TypeId) (t:Ty)|clo (f:FuncId) (t:Ty)
 deriving DecidableEq
@[reducible] def Ty.den:Ty->Type|.unit=>Unit|.int _=>Int|.bool=>Bool|.str=>List UInt8|.slice _ t=>List t.den|.pair a b=>a.den×b.den|.arr _ t=>List t.den|.fnc _=>Unit|.err=>Bool|.hid _=>Unit|.sptr _ t=>t.den|.clo _ t=>t.den
def Ty.size:Ty->Nat|.unit=>0|.pair a b=>a.size+b.size|.arr n t=>n*t.size|_=>1
def Ty.flat:Ty->Bool|.slice .. =>false|.pair a b=>a.flat&&b.flat|.arr _ t=>t.flat|.hid t=>t.flat|.sptr .. =>false|.clo .. =>false|_=>true
def Ty.plain:Ty->Bool|.sptr .. =>false|.clo .. =>false|.pair a b=>a.plain&&b.plain|.arr _ t=>t.plain|.hid t=>Nat.beq t.size 1&&t.plain|_=>true
def Yz(T:Ty)(vs:List Value):Value:=
 match T with
 |.unit|.pair .. |.arr .. =>.agg vs.toArray
 |_=>vs.headD undef
def Zc2{α:Type}(r:α->List Value->List Nat->Prop):List α->List Value->List Nat->Prop|[],vs,S=>vs=[]/\S=[]|x::xs,vs,S=> ∃v1 v2 S1 S2,vs=v1++v2/\S=S1++S2/\r x v1 S1/\Zc2 r xs v2 S2
def hdr(w:World)(X:Nat->Prop)(B:Nat)(own:Bool)(e:TypeId)(sz n:Nat)(v:Value)(xs:List Value)(S:List Nat):Prop:=
 match own with
 |true=>w.ownsRow B e sz v n xs/\S=v.ownBlock.toList
 |false=>S=[]/\xs.length=n*sz/\ ∃a cap,v=.slice a n cap/\n<=cap/\cap<=maxLen/\
   ((a=none/\n=0/\cap=0)\/ ∃ad,a=some ad/\(n=0\/X ad.block)/\ ∀j u,xs[j]? =some u->w.cell? (ad.add j)=some u)
def rd(w:World)(X:Nat->Prop)(B:Nat)(own:Bool):(T:Ty)->T.den->List Value->List Nat->Prop|.unit,_,vs,S=>vs=[]/\S=[]|.int k,x,vs,S=>vs=[.int k x]/\S=[]|.bool,x,vs,S=>vs=[.bool x]/\S=[]|.fnc f,_,vs,S=>vs=[.func (.func f) #[] #[]]/\S=[]|.str,x,vs,S=>vs=[.string ⟨⟨x⟩⟩]/\S=[]|.slice e t,x,vs,S=> ∃v xs S1 S2,vs=[v]/\S=S1++S2/\hdr w X B own e t.size x.length v xs S1/\Zc2 (rd w X B own t) x xs S2|.pair a b,x,vs,S=> ∃v1 v2 S1 S2,vs=v1++v2/\S=S1++S2/\rd w X B own a x.1 v1 S1/\rd w X B own b x.2 v2 S2|.arr n t,x,vs,S=>x.length=n/\Zc2 (rd w X B own t) x vs S|.err,x,vs,S=>(∃v,vs=[v]/\v.oneCell'=true/\((x=true/\v=.nilIface)\/(x=false/\ ∃t u,v=.iface t u)))/\S=[]|.hid t,_,vs,S=>vs.length=1/\ ∃y,rd w X B own t y vs S|.sptr e t,x,vs,S=>S=[]/\own=false/\ ∃b c,vs=[.pointer (some ⟨b,0,none⟩)]/\X b/\w.heap[b]? =some (.cells c e (0,0))/\rd w X B own t x c.toList []|.clo f t,x,vs,S=>S=[]/\ ∃cs:List Value,vs=[.func (.func f) #[] cs.toArray]/\rd w X B own t x cs []
inductive Fl where
 |u (own:Bool)|p (a b:Fl)|d
def rdF(w:World)(X:Nat->Prop)(B:Nat):(T:Ty)->Fl->T.den->List Value->List Nat->Prop|T,.d,_,vs,S=>vs.length=T.size/\(∀u∈vs,u.oneCell'=true)/\S=[]|T,.u b,x,vs,S=>rd w X B b T x vs S|.pair a b,.p f g,x,vs,S=> ∃v1 v2 S1 S2,vs=v1++v2/\S=S1++S2/\rdF w X B a f x.1 v1 S1/\rdF w X B b g x.2 v2 S2|.slice e t,.p (.u true) (.u false),x,vs,S=> ∃v xs,vs=[v]/\hdr w X B true e t.size x.length v xs S/\Zc2 (rd w X B false t) x xs []|_,.p ..,_,_,_=>False
theorem Zlj{w:World}{X:Nat->Prop}{B:Nat}{e:TypeId}{t:Ty}{f g:Fl}{x:List t.den}{vs:List Value}{S:List Nat}(h:rdF w X B (.slice e t) (.p f g) x vs S):
  f=.u true/\g=.u false/\ ∃v xs,vs=[v]/\hdr w X B true e t.size x.length v xs S/\Zc2 (rd w X B false t) x xs []:=by
 cases f with
 |u b=>cases b with
  |true=>cases g with
   |u c=>cases c with
    |false=>exact⟨rfl,rfl,h⟩
    |true=>exact h.elim
   |p _ _=>exact h.elim
   |d=>exact h.elim
  |false=>exact h.elim
 |p _ _=>exact h.elim
 |d=>exact h.elim
variable {w w':World}{X X':Nat->Prop}{B:Nat}{own:Bool}
theorem Jy{α:Type}{r r':α->List Value->List Nat->Prop}:∀{xs:List α}{vs:List Value}{S:List Nat},
  Zc2 r xs vs S->(∀x v T,x∈xs->(∀b∈T,b∈S)->r x v T->r' x v T)->Zc2 r' xs vs S
 |[],_,_,h,_=>h
 |x::xs,_,_,⟨a,d,c,e,f,g,i,j⟩,k=>
  ⟨a,d,c,e,f,g,k x a c (by simp) (by simp_all) i,
   Jy j λy v T l m=>k y v T (by simp[l]) (by simp_all)⟩
theorem Zwh{α:Type}{r:α->List Value->List Nat->Prop}{n:Nat}(hr:∀x v S,r x v S->v.length=n):∀{xs:List α}{vs:List Value}{S:List Nat},
  Zc2 r xs vs S->vs.length=xs.length*n
 |[],_,_,⟨e,_⟩=>by simp[e]
 |x::xs,_,_,⟨d,f,g,h,a,_,b,c⟩=>by
  rw[a,List.length_append,hr _ _ _ b,Zwh hr c,List.length_cons,Nat.add_mul];omega
theorem Xaa{e:TypeId}{sz n:Nat}{v:Value}{xs:List Value}{S:List Nat}(h:hdr w X B own e sz n v xs S):xs.length=n*sz:=by
 cases own
 ·exact h.2.1
 ·exact h.1.1
theorem Y6:∀{T:Ty}{x:T.den}{vs:List Value}{S:List Nat},rd w X B own T x vs S->vs.length=T.size
 |.unit,_,_,_,h=>by simp[h.1,Ty.size]
 |.int _,_,_,_,h=>by simp[h.1,Ty.size]
 |.bool,_,_,_,h=>by simp[h.1,Ty.size]
 |.fnc _,_,_,_,h=>by simp[h.1,Ty.size]
 |.str,_,_,_,h=>by simp[h.1,Ty.size]
 |.slice _ _,_,_,_,⟨_,_,_,_,e,_⟩=>by simp[e,Ty.size]
 |.pair a b,_,_,_,⟨g,i,j,k,e,_,c,d⟩=>by simp[e,Ty.size,Y6 c,Y6 d]
 |.arr n t,_,_,_,⟨h,f⟩=>by rw[Zwh (n:=t.size) (λ_ _ _ h=>Y6 h) f,h];rfl
 |.err,_,_,_,⟨⟨_,e,_⟩,_⟩=>by simp[e,Ty.size]
 |.hid _,_,_,_,⟨h,_⟩=>h
 |.sptr ..,_,_,_,⟨_,_,_,_,e,_⟩=>by simp[e,Ty.size]
 |.clo ..,_,_,_,⟨_,_,e,_⟩=>by simp[e,Ty.size]
theorem Y2:∀{T:Ty}{f:Fl}{x:T.den}{vs:List Value}{S:List Nat},rdF w X B T f x vs S->vs.length=T.size
 |T,.d,_,_,_,h=>by simp_all[rdF]
 |T,.u b,_,_,_,h=>by grind[rdF,Y6]
 |.pair a b,.p f g,_,_,_,⟨j,k,l,m,e,_,c,i⟩=>by simp[e,Ty.size,Y2 c,Y2 i]
 |.slice e t,.p f g,_,_,_,h=>by grind[Zlj,Ty.size]
 |.unit,.p ..,_,_,_,h|.int _,.p ..,_,_,_,h|.bool,.p ..,_,_,_,h|.fnc _,.p ..,_,_,_,h|.str,.p ..,_,_,_,h|.err,.p ..,_,_,_,h|.hid _,.p ..,_,_,_,h|.sptr ..,.p ..,_,_,_,h|.clo ..,.p ..,_,_,_,h|.arr ..,.p ..,_,_,_,h=>by simp[rdF]at h
theorem Qe8{e:TypeId}{sz n:Nat}{v:Value}{xs:List Value}{S:List Nat}(h:hdr w X B own e sz n v xs S)
  (hX:∀b,X b->X' b) (hw:∀b,X b->w'.heap[b]? =w.heap[b]?) (hS:∀b∈S,w'.heap[b]? =w.heap[b]?):hdr w' X' B own e sz n v xs S:=by
 cases own
 ·obtain⟨f,i,a,c,j,l,m,p⟩:=h;refine⟨f,i,a,c,j,l,m,?_⟩
  grind[Addr.add,World.cell?_of_block]
 ·obtain⟨f,i⟩:=h;refine⟨⟨f.1,?_⟩,i⟩;rcases f.2 with j|⟨g,c,k,rfl,o,q,d⟩
  ·exact .inl j
  ·exact .inr ⟨g,c,k,rfl,o,by simp_all[Value.ownBlock],d⟩
theorem Zgz(hX:∀b,X b->X' b)(hw:∀b,X b->w'.heap[b]? =w.heap[b]?):∀{T:Ty}{x:T.den}{vs:List Value}{S:List Nat},
  rd w X B own T x vs S->(∀b∈S,w'.heap[b]? =w.heap[b]?)->rd w' X' B own T x vs S
 |.unit,_,_,_,h,_=>h
 |.int _,_,_,_,h,_=>h
 |.bool,_,_,_,h,_=>h
 |.fnc _,_,_,_,h,_=>h
 |.str,_,_,_,h,_=>h
 |.slice _ _,_,_,_,⟨v,p,j,k,e,l,f,g⟩,d=>
  ⟨v,p,j,k,e,l,Qe8 f hX hw λb i=>d b (by simp_all),
   Jy g λ_ _ _ _ m h=>Zgz hX hw h λb i=>d b (by simp_all)⟩
 |.pair a b,_,_,_,⟨q,r,j,k,e,l,f,g⟩,d=>
  ⟨q,r,j,k,e,l,Zgz hX hw f λb i=>d b (by simp_all),Zgz hX hw g λb i=>d b (by simp_all)⟩
 |.arr n t,_,_,_,⟨h,s⟩,d=>⟨h,Jy s λ_ _ _ _ m h=>Zgz hX hw h λb i=>d b (m b i)⟩
 |.err,_,_,_,h,_=>h
 |.hid _,_,_,_,⟨e,y,h⟩,d=>⟨e,y,Zgz hX hw h d⟩
 |.sptr ..,_,_,_,⟨e,o,b,c,f,g,A,u⟩,_=>⟨e,o,b,c,f,hX b g,by simp_all,Zgz hX hw u (by simp)⟩
 |.clo ..,_,_,_,⟨e,z,f,g⟩,_=>⟨e,z,f,Zgz hX hw g (by simp)⟩
theorem Zwc(hX:∀b,X b->X' b)(hw:∀b,X b->w'.heap[b]? =w.heap[b]?):∀{T:Ty}{f:Fl}{x:T.den}{vs:List Value}{S:List Nat},
  rdF w X B T f x vs S->(∀b∈S,w'.heap[b]? =w.heap[b]?)->rdF w' X' B T f x vs S
 |T,.d,_,_,_,h,_=>by simp_all[rdF]
 |T,.u b,_,_,_,h,c=>by grind[rdF,Zgz]
 |.pair a b,.p f g,_,_,_,⟨l,m,n,o,e,q,i,j⟩,c=>
  ⟨l,m,n,o,e,q,Zwc hX hw i λb k=>c b (by simp_all),Zwc hX hw j λb k=>c b (by simp_all)⟩
 |.slice e t,.p f g,_,_,_,h,c=>by
  obtain⟨rfl,rfl,v,r,s,i,j⟩:=Zlj h;exact⟨v,r,s,Qe8 i hX hw c,Jy j λ_ _ _ _ y h=>Zgz hX hw h λb k=>absurd (y b k) (by simp)⟩
 |.unit,.p ..,_,_,_,h,_|.int _,.p ..,_,_,_,h,_|.bool,.p ..,_,_,_,h,_|.fnc _,.p ..,_,_,_,h,_|.str,.p ..,_,_,_,h,_|.err,.p ..,_,_,_,h,_|.hid _,.p ..,_,_,_,h,_|.sptr ..,.p ..,_,_,_,h,_|.clo ..,.p ..,_,_,_,h,_|.arr ..,.p ..,_,_,_,h,_=>by simp[rdF]at h
theorem Z9g{α:Type}{r:α->List Value->List Nat->Prop}{p:Nat->Prop}(hr:∀x v S,r x v S-> ∀b∈S,p b):∀{xs:List α}{vs:List Value}{S:List Nat},
  Zc2 r xs vs S-> ∀b∈S,p b
 |[],_,_,⟨_,e⟩=>by simp[e]
 |x::xs,_,_,⟨c,d,f,g,_,e,h,a⟩=>by
  intro b hb;rw[e]at hb;rcases List.mem_append.1 hb with hb|hb
  ·grind
  ·exact Z9g hr a b hb
theorem Q1c{e:TypeId}{sz n:Nat}{v:Value}{xs:List Value}{S:List Nat}(h:hdr w X B own e sz n v xs S):∀b∈S,B<=b/\b<w.heap.size:=by
 cases own
 ·intro b a;rw[h.1]at a;cases a
 ·intro b a;rw[h.2]at a;exact h.1.lt b (by simpa using a)
theorem Zzg:∀{T:Ty}{x:T.den}{vs:List Value}{S:List Nat},rd w X B own T x vs S-> ∀b∈S,B<=b/\b<w.heap.size
 |.unit,_,_,_,h|.int _,_,_,_,h|.bool,_,_,_,h|.fnc _,_,_,_,h|.str,_,_,_,h=>by simp[h.2]
 |.slice _ _,_,_,_,⟨_,_,_,_,_,e,c,d⟩=>by
  intro b hb;rw[e]at hb;rcases List.mem_append.1 hb with hb|hb
  ·exact Q1c c b hb
  ·exact Z9g (λ_ _ _ h=>Zzg h) d b hb
 |.pair a b,_,_,_,⟨g,i,j,k,_,e,c,d⟩=>by
  intro b hb;rw[e]at hb;rcases List.mem_append.1 hb with hb|hb
  ·exact Zzg c b hb
  ·exact Zzg d b hb
 |.arr n t,_,_,_,⟨_,f⟩=>Z9g (λ_ _ _ h=>Zzg h) f
 |.err,_,_,_,h=>by simp[h.2]
 |.hid _,_,_,_,⟨_,_,h⟩=>Zzg h
 |.sptr ..,_,_,_,h=>by simp[h.1]
 |.clo ..,_,_,_,h=>by simp[h.1]
theorem Qud:∀{T:Ty}{f:Fl}{x:T.den}{vs:List Value}{S:List Nat},rdF w X B T f x vs S-> ∀b∈S,B<=b/\b<w.heap.size
 |T,.d,_,_,_,h=>by simp_all[rdF]
 |T,.u b,_,_,_,h=>by unfold rdF at h;exact Zzg h
 |.pair a b,.p f g,_,_,_,⟨j,k,l,m,_,e,c,i⟩=>by
  intro b hb;rw[e]at hb;rcases List.mem_append.1 hb with hb|hb
  ·exact Qud c b hb
  ·exact Qud i b hb
 |.slice e t,.p f g,_,_,_,h=>by
  obtain⟨_,_,v,n,_,c,_⟩:=Zlj h;exact Q1c c
 |.unit,.p ..,_,_,_,h|.int _,.p ..,_,_,_,h|.bool,.p ..,_,_,_,h|.fnc _,.p ..,_,_,_,h|.str,.p ..,_,_,_,h|.err,.p ..,_,_,_,h|.hid _,.p ..,_,_,_,h|.sptr ..,.p ..,_,_,_,h|.clo ..,.p ..,_,_,_,h|.arr ..,.p ..,_,_,_,h=>by simp[rdF]at h
theorem Zgp{e:TypeId}{sz n:Nat}{v:Value}{xs:List Value}{S:List Nat}(h:hdr w X B own e sz n v xs S):
  ∃a cap,v=.slice a n cap/\n<=cap/\cap<=maxLen/\((a=none/\n=0/\cap=0)\/ ∃ad,a=some ad/\(n=0\/X ad.block\/ad.block∈S)/\ ∀j u,xs[j]? =some u->w.cell? (ad.add j)=some u):=by
 cases own
 ·obtain⟨_,_,a,cap,k,l,m,o⟩:=h
  grind
 ·obtain⟨b,p⟩:=h;rcases b.2 with⟨rfl,rfl⟩|⟨g,cap,d,rfl,q,r,f,i,c⟩
  ·grind
  ·exact⟨_,cap,rfl,f,i,.inr ⟨_,rfl,.inr (.inr (by simp_all[Value.ownBlock])),b.cells (g:=g) rfl⟩⟩
theorem Qoc{e:TypeId}{sz n:Nat}{v:Value}{xs:List Value}{S:List Nat}(h:hdr w X B own e sz n v xs S)(hX:∀b,X b->X' b)(hS:∀b∈S,X' b):
  hdr w X' B false e sz n v xs []:=by
 have d:=Xaa h;obtain⟨a,c,f,g,i,j⟩:=Zgp h;refine⟨rfl,d,a,c,f,g,i,j.imp id ?_⟩
 grind
theorem Zuz{α:Type}{r r':α->List Value->List Nat->Prop}:∀{xs:List α}{vs:List Value}{S:List Nat},
  Zc2 r xs vs S->(∀x v T,x∈xs->(∀b∈T,b∈S)->r x v T->r' x v [])->Zc2 r' xs vs []
 |[],_,_,h,_=>⟨h.1,rfl⟩
 |x::xs,_,_,⟨a,c,d,j,e,l,f,g⟩,k=>
  ⟨a,c,[],[],e,rfl,k x a d (by simp) (by simp_all) f,
   Zuz g λy v T i m=>k y v T (by simp[i]) (by simp_all)⟩
theorem Zks(hX:∀b,X b->X' b):∀{T:Ty}{x:T.den}{vs:List Value}{S:List Nat},
  rd w X B own T x vs S->(∀b∈S,X' b)->rd w X' B false T x vs []
 |.unit,_,_,_,h,_|.int _,_,_,_,h,_|.bool,_,_,_,h,_|.fnc _,_,_,_,h,_|.str,_,_,_,h,_=>⟨h.1,rfl⟩
 |.slice _ _,_,_,_,⟨v,k,l,m,e,o,f,g⟩,d=>
  ⟨v,k,[],[],e,rfl,Qoc f hX λb i=>d b (by simp_all),
   Zuz g λ_ _ _ _ j h=>Zks hX h λb i=>d b (by simp_all)⟩
 |.pair a b,_,_,_,⟨p,q,l,m,e,o,f,g⟩,d=>
  ⟨p,q,[],[],e,rfl,Zks hX f λb i=>d b (by simp_all),Zks hX g λb i=>d b (by simp_all)⟩
 |.arr n t,_,_,_,⟨h,r⟩,d=>⟨h,Zuz r λ_ _ _ _ j h=>Zks hX h λb i=>d b (j b i)⟩
 |.err,_,_,_,h,_=>⟨h.1,rfl⟩
 |.hid _,_,_,_,⟨e,y,h⟩,d=>⟨e,y,Zks hX h d⟩
 |.sptr ..,_,_,_,⟨_,_,b,c,f,g,s,u⟩,_=>⟨rfl,rfl,b,c,f,hX b g,s,Zks hX u (by simp)⟩
 |.clo ..,_,_,_,⟨_,z,f,g⟩,_=>⟨rfl,z,f,Zks hX g (by simp)⟩
def Fl.live:Fl->Bool|.u _=>true|.p a b=>a.live&&b.live|.d=>false
theorem Vc(hX:∀b,X b->X' b):∀{T:Ty}{f:Fl}{x:T.den}{vs:List Value}{S:List Nat},
  f.live=true->rdF w X B T f x vs S->(∀b∈S,X' b)->rd w X' B false T x vs []
 |T,.d,_,_,_,i,_,_=>by grind[Fl.live]
 |T,.u b,_,_,_,_,h,c=>by grind[rdF,Zks]
 |.pair a b,.p f g,_,_,_,i,⟨m,n,s,y,e,z,j,k⟩,c=>by
  simp only[Fl.live,Oba]at i;exact⟨m,n,[],[],e,rfl,Vc hX i.1 j λb l=>c b (by simp_all),Vc hX i.2 k λb l=>c b (by simp_all)⟩
 |.slice e t,.p f g,_,_,_,_,h,c=>by
  obtain⟨_,_,v,o,q,j,k⟩:=Zlj h;exact⟨v,o,[],[],q,rfl,Qoc j hX c,Zuz k λ_ _ _ _ r h=>Zks hX h λb l=>absurd (r b l) (by simp)⟩
 |.unit,.p ..,_,_,_,_,h,_|.int _,.p ..,_,_,_,_,h,_|.bool,.p ..,_,_,_,_,h,_|.fnc _,.p ..,_,_,_,_,h,_|.str,.p ..,_,_,_,_,h,_|.err,.p ..,_,_,_,_,h,_|.hid _,.p ..,_,_,_,_,h,_|.sptr ..,.p ..,_,_,_,_,h,_|.clo ..,.p ..,_,_,_,_,h,_|.arr ..,.p ..,_,_,_,_,h,_=>by simp[rdF]at h
theorem Ziy{α:Type}{r r':α->List Value->List Nat->Prop}(hr:∀x v S,r x v S->S=[]/\r' x v []):∀{xs:List α}{vs:List Value}{S:List Nat},
  Zc2 r xs vs S->S=[]/\Zc2 r' xs vs []
 |[],_,_,h=>⟨h.2,h.1,rfl⟩
 |x::xs,_,_,⟨a,b,j,k,c,d,e,f⟩=>by
  obtain⟨rfl,g⟩:=hr _ _ _ e;obtain⟨rfl,i⟩:=Ziy hr f;exact⟨by simp[d],a,b,[],[],c,rfl,g,i⟩
theorem Zgy{own':Bool}{w':World}:∀{T:Ty}{x:T.den}{vs:List Value}{S:List Nat},T.flat=true->
  rd w X B own T x vs S->S=[]/\rd w' X' B own' T x vs []
 |.unit,_,_,_,_,h|.int _,_,_,_,_,h|.bool,_,_,_,_,h|.fnc _,_,_,_,_,h|.str,_,_,_,_,h=>⟨h.2,h.1,rfl⟩
 |.slice _ _,_,_,_,c,_=>by grind[Ty.flat]
 |.pair a b,_,_,_,c,⟨d,f,q,r,e,g,i,j⟩=>by
  simp only[Ty.flat,Oba]at c;obtain⟨rfl,m⟩:=Zgy c.1 i;obtain⟨rfl,o⟩:=Zgy c.2 j;exact⟨by simp[g],d,f,[],[],e,rfl,m,o⟩
 |.arr n t,_,_,_,c,⟨h,p⟩=>by
  obtain⟨e,k⟩:=Ziy (r':=rd w' X' B own' t) (λx v S h=>Zgy (by simp_all[Ty.flat]) h) p;exact⟨e,h,k⟩
 |.err,_,_,_,_,h=>⟨h.2,h.1,rfl⟩
 |.hid _,_,_,_,c,⟨l,y,h⟩=>let⟨e,k⟩:=Zgy (by simp_all[Ty.flat]) h;⟨e,l,y,k⟩
 |.sptr ..,_,_,_,c,_=>by grind[Ty.flat]
 |.clo ..,_,_,_,c,_=>by grind[Ty.flat]
theorem Z1p{α:Type}{r:α->List Value->List Nat->Prop}(hr:∀x v S,r x v S-> ∀u∈v,u.oneCell'=true):∀{xs:List α}{vs:List Value}{S:List Nat},
  Zc2 r xs vs S-> ∀u∈vs,u.oneCell'=true
 |[],_,_,⟨e,_⟩=>by simp[e]
 |x::xs,_,_,⟨b,c,d,f,e,_,g,a⟩=>by
  intro u hu;rw[e]at hu;rcases List.mem_append.1 hu with hu|hu
  ·grind
  ·exact Z1p hr a u hu
theorem Zon:∀{T:Ty}{x:T.den}{vs:List Value}{S:List Nat},rd w X B own T x vs S-> ∀u∈vs,u.oneCell'=true
 |.unit,_,_,_,h|.int _,_,_,_,h|.bool,_,_,_,h|.fnc _,_,_,_,h|.str,_,_,_,h=>by simp[h.1,Value.oneCell']
 |.slice _ _,_,_,_,⟨v,_,_,_,e,_,c,_⟩=>by
  grind[Zgp,Value.oneCell']
 |.pair a b,_,_,_,⟨g,i,j,k,e,_,c,d⟩=>by
  intro u hu;rw[e]at hu;rcases List.mem_append.1 hu with hu|hu
  ·exact Zon c u hu
  ·exact Zon d u hu
 |.arr n t,_,_,_,⟨_,f⟩=>Z1p (λ_ _ _ h=>Zon h) f
 |.err,_,_,_,⟨⟨v,e,h,_⟩,_⟩=>by simp[e,h]
 |.hid _,_,_,_,⟨_,_,h⟩=>Zon h
 |.sptr ..,_,_,_,⟨_,_,_,_,e,_⟩=>by simp[e,Value.oneCell']
 |.clo ..,_,_,_,⟨_,_,e,_⟩=>by simp[e,Value.oneCell']
theorem Zmr:∀{T:Ty}{f:Fl}{x:T.den}{vs:List Value}{S:List Nat},rdF w X B T f x vs S-> ∀u∈vs,u.oneCell'=true
 |T,.d,_,_,_,h=>by simp_all[rdF]
 |T,.u b,_,_,_,h=>by grind[rdF,Zon]
 |.pair a b,.p f g,_,_,_,⟨j,k,l,m,e,_,c,i⟩=>by
  intro u hu;rw[e]at hu;rcases List.mem_append.1 hu with hu|hu
  ·exact Zmr c u hu
  ·exact Zmr i u hu
 |.slice e t,.p f g,_,_,_,h=>by
  grind[Zlj,Zgp,Value.oneCell']
 |.unit,.p ..,_,_,_,h|.int _,.p ..,_,_,_,h|.bool,.p ..,_,_,_,h|.fnc _,.p ..,_,_,_,h|.str,.p ..,_,_,_,h|.err,.p ..,_,_,_,h|.hid _,.p ..,_,_,_,h|.sptr ..,.p ..,_,_,_,h|.clo ..,.p ..,_,_,_,h|.arr ..,.p ..,_,_,_,h=>by simp[rdF]at h
abbrev TV:=(T:Ty)×T.den
def fld:(T:Ty)->T.den->Nat->Option TV|.pair a _,x,0=>some ⟨a,x.1⟩|.pair _ b,x,i+1=>fld b x.2 i|_,_,_=>none
def Zj9:Ty->Nat->Nat|.pair a b,i+1=>a.size+Zj9 b i|_,_=>0
def Z4a:Ty->Nat->Option Ty|.pair a _,0=>some a|.pair _ b,i+1=>Z4a b i|_,_=>none
def J8(U:Ty)(T:Ty)(x:T.den):Option U.den:=if h:T=U then some (h▸x)else none
def Zzh:(T:Ty)->T.den->Nat->TV->Option T.den|.pair a _,x,0,y=>(J8 a y.1 y.2).map λz=>(z,x.2)|.pair _ b,x,i+1,y=>(Zzh b x.2 i y).map λz=>(x.1,z)|_,_,_,_=>none
def Fl.snd:Fl->Fl|.p _ g=>g|f=>f
def Zz1:Fl->Nat->Fl|.p a _,0=>a|.p _ b,i+1=>Zz1 b i|f,_=>f
def Zvb:Fl->Nat->Fl->Fl|.p _ b,0,g=>.p g b|.p a b,i+1,g=>.p a (Zvb b i g)|f,0,g=>.p g f|f,i+1,g=>.p f (Zvb f i g)
theorem Ze3{U T:Ty}{x:T.den}{y:U.den}(h:J8 U T x=some y):(⟨T,x⟩:TV)=⟨U,y⟩:=by
 grind[J8]
theorem Zwd{a b:Ty}{f:Fl}{x:(Ty.pair a b).den}{vs:List Value}{S:List Nat}(h:rdF w X B (.pair a b) f x vs S):
  ∃v1 v2 S1 S2,vs=v1++v2/\S=S1++S2/\rdF w X B a (Zz1 f 0) x.1 v1 S1/\rdF w X B b f.snd x.2 v2 S2:=by
 cases f with
 |u o=>
  unfold rdF at h;obtain⟨v1,v2,S1,S2,e,k,i,c⟩:=h;exact⟨v1,v2,S1,S2,e,k,by simp_all[rdF,Zz1],by unfold rdF;exact c⟩
 |p f g=>exact h
 |d=>
  unfold rdF at h;obtain⟨i,c,l⟩:=h;refine⟨vs.take a.size,vs.drop a.size,[],[],by simp,by simp[l],?_,?_⟩
  ·unfold rdF Zz1;exact⟨by simp[i,Ty.size],λu j=>c u (List.mem_of_mem_take j),rfl⟩
  ·unfold rdF;exact⟨by simp[i,Ty.size],λu j=>c u (List.mem_of_mem_drop j),rfl⟩
theorem Qmm:∀{T:Ty}{f:Fl}{x:T.den}{i:Nat}{y:TV}{vs:List Value}{S:List Nat},fld T x i=some y->rdF w X B T f x vs S->
  ∃pre mid post S1 S2 S3,vs=pre++(mid++post)/\S=S1++(S2++S3)/\pre.length=Zj9 T i/\rdF w X B y.1 (Zz1 f i) y.2 mid S2/\
   ∀(g:Fl)(y':TV)(mid':List Value)(S2':List Nat)(x':T.den),Zzh T x i y'=some x'->rdF w X B y'.1 g y'.2 mid' S2'->
    rdF w X B T (Zvb f i g) x' (pre++(mid'++post)) (S1++(S2'++S3))
 |.pair a b,f,x,0,y,vs,S,c,h=>by
  obtain⟨j,k,S1,S2,e,l,m,n⟩:=Zwd h;simp only[fld,Osi]at c;subst c;refine⟨[],j,k,[],S1,S2,by simpa using e,by simpa using l,by simp[Zj9],m,?_⟩;intro g y' mid' S2' x' d o;simp only[Zzh,Option.map_eq_some_iff]at d;obtain⟨z,q,rfl⟩:=d;obtain⟨D,E⟩:=y';have:=Ze3 q;cases this;have:Zvb f 0 g=.p g f.snd:=by cases f<;>rfl
  rw[this];exact⟨mid',k,S2',S2,by simp,by simp,o,n⟩
 |.pair a b,f,x,i+1,y,vs,S,c,h=>by
  obtain⟨j,k,S1,S2,e,l,m,n⟩:=Zwd h;simp only[fld]at c;obtain⟨pre,mid,post,r,s,t,u,v,F,G,A⟩:=Qmm c n;refine⟨j++pre,mid,post,S1++r,s,t,by rw[e,u];simp,by rw[l,v];simp,by grind[Zj9,Y2],?_,?_⟩
  ·have:Zz1 f (i+1)=Zz1 f.snd i:=by cases f<;>simp[Zz1]<;>(cases i<;>rfl)
   simp_all
  ·intro g y' mid' S2' x' d o;simp only[Zzh,Option.map_eq_some_iff]at d;obtain⟨z,q,rfl⟩:=d;have:=A g y' mid' S2' z q o;have C:Zvb f (i+1) g=.p (Zz1 f 0) (Zvb f.snd i g):=by cases f<;>rfl
   rw[C];exact⟨j,_,S1,_,by simp,by simp,m,this⟩
 |.unit,_,_,_,_,_,_,c,_|.int _,_,_,_,_,_,_,c,_|.bool,_,_,_,_,_,_,c,_|.fnc _,_,_,_,_,_,_,c,_|.str,_,_,_,_,_,_,c,_|.slice ..,_,_,_,_,_,_,c,_|.err,_,_,_,_,_,_,c,_|.hid _,_,_,_,_,_,_,c,_|.sptr ..,_,_,_,_,_,_,c,_|.clo ..,_,_,_,_,_,_,c,_|.arr ..,_,_,_,_,_,_,c,_=>by simp[fld]at c
def Zh2:(T:Ty)->T.den->List Nat->Option TV
 |T,x,[]=>some ⟨T,x⟩
 |T,x,i::p=>match fld T x i with|some y=>Zh2 y.1 y.2 p|none=>none
def Wr:Ty->List Nat->Nat
 |_,[]=>0
 |T,i::p=>Zj9 T i+(match Z4a T i with|some U=>Wr U p|none=>0)
def Qbk:(T:Ty)->T.den->List Nat->TV->Option T.den
 |T,_,[],y=>J8 T y.1 y.2
 |T,x,i::p,y=>match fld T x i with
  |some z=>match Qbk z.1 z.2 p y with|some z'=>Zzh T x i ⟨z.1,z'⟩|none=>none
  |none=>none
def Zo0:Fl->List Nat->Fl|f,[]=>f|f,i::p=>Zo0 (Zz1 f i) p
def Zu0:Fl->List Nat->Fl->Fl|_,[],g=>g|f,i::p,g=>Zvb f i (Zu0 (Zz1 f i) p g)
theorem Z9z{T:Ty}{x:T.den}{i:Nat}{y:TV}(h:fld T x i=some y):Z4a T i=some y.1:=by
 induction T generalizing i y with
 |pair a b d c=>
  cases i with
  |zero=>simp only[fld,Osi]at h;subst h;rfl
  |succ i=>exact c (x:=x.2) h
 |_=>simp[fld]at h
theorem Zjk:∀{p:List Nat}{T:Ty}{f:Fl}{x:T.den}{y:TV}{vs:List Value}{S:List Nat},Zh2 T x p=some y->rdF w X B T f x vs S->
  ∃pre mid post S1 S2 S3,vs=pre++(mid++post)/\S=S1++(S2++S3)/\pre.length=Wr T p/\rdF w X B y.1 (Zo0 f p) y.2 mid S2/\
   ∀(g:Fl)(y':TV)(mid':List Value)(S2':List Nat)(x':T.den),Qbk T x p y'=some x'->rdF w X B y'.1 g y'.2 mid' S2'->
    rdF w X B T (Zu0 f p g) x' (pre++(mid'++post)) (S1++(S2'++S3))
 |[],T,f,x,y,vs,S,b,h=>by
  simp only[Zh2,Osi]at b;subst b;refine⟨[],vs,[],[],S,[],by simp,by simp,by simp[Wr],h,?_⟩;intro g y' mid' S2' x' c e;simp only[Qbk]at c;obtain⟨C,D⟩:=y';cases Ze3 c;simp_all[Zu0]
 |i::p,T,f,x,y,vs,S,b,h=>by
  simp only[Zh2]at b;cases hz:fld T x i with
  |none=>simp_all
  |some z=>
   rw[hz]at b;obtain⟨pre,mid,post,S1,S2,S3,k,l,E,n,o⟩:=Qmm hz h;obtain⟨d,mid',a,q,r,s,t,u,F,v,A⟩:=Zjk b n;refine⟨pre++d,mid',a++post,S1++q,r,s++S3,by rw[k,t];simp,by rw[l,u];simp,by grind[Wr,Z9z],v,?_⟩;intro g y' m S2' x' c e;simp only[Qbk,hz]at c;cases hq:Qbk z.1 z.2 p y' with
   |none=>simp_all
   |some j=>
    rw[hq]at c;have:=o (Zu0 (Zz1 f i) p g) ⟨z.1,j⟩ _ _ x' c (A g y' m S2' j hq e);simp_all[Zu0]
theorem Q6h:∀{T:Ty}{x x':T.den}{i:Nat}{y:TV},fld T x i=some y-> ∃y',fld T x' i=some y'/\y'.1=y.1:=by
 intro T
 induction T with
 |pair a b d c=>
  intro x x' i y h;cases i with
  |zero=>simp only[fld,Osi]at h;subst h;exact⟨⟨a,x'.1⟩,rfl,rfl⟩
  |succ i=>exact c (x':=x'.2) h
 |_=>intro x x' i y h;simp[fld]at h
theorem Z9y:∀{p:List Nat}{T:Ty}{x x':T.den}{y:TV},Zh2 T x p=some y-> ∃y',Zh2 T x' p=some y'/\y'.1=y.1
 |[],T,x,x',y,h=>by simp only[Zh2,Osi]at h;subst h;exact⟨⟨T,x'⟩,rfl,rfl⟩
 |i::p,T,x,x',y,h=>by
  simp only[Zh2]at h⊢;cases hz:fld T x i with
  |none=>simp_all
  |some z=>
   rw[hz]at h;obtain⟨b,c,a⟩:=Q6h (x':=x') hz;rw[c];obtain⟨Z,e⟩:=z;obtain⟨f,d⟩:=b;simp only at a;subst a;exact Z9y h
theorem Q16{n:Nat}{t:Ty}{f:Fl}{x:(Ty.arr n t).den}{vs:List Value}{S:List Nat}(h:rdF w X B (.arr n t) f x vs S)(hl:f.live=true):∃c,f=.u c:=by
 cases f with
 |u c=>simp_all
 |p a b=>simp[rdF]at h
 |d=>grind[Fl.live]
theorem Zwg{α:Type}{r:α->List Value->List Nat->Prop}{sz:Nat}(hr:∀x v S,r x v S->v.length=sz):∀{l:List α}{vs:List Value}{S:List Nat}{i:Nat} (hi:i<l.length),
  Zc2 r l vs S-> ∃pre mid post S1 S2 S3,vs=pre++(mid++post)/\S=S1++(S2++S3)/\pre.length=i*sz/\r l[i] mid S2/\
   Zc2 r (l.take i) pre S1/\Zc2 r (l.drop (i+1)) post S3
 |[],_,_,_,hi,_=>by simp at hi
 |x::l,vs,S,0,_,⟨a,f,S1,S2,b,c,d,e⟩=>⟨[],a,f,[],S1,S2,by simp[b],by simp[c],by simp,d,⟨rfl,rfl⟩,e⟩
 |x::l,vs,S,i+1,hi,⟨a,f,S1,S2,b,c,d,e⟩=>by
  obtain⟨pre,mid,post,g,h,j,k,m,q,n,o,p⟩:=Zwg hr (i:=i) (by simpa using hi) e;exact⟨a++pre,mid,post,S1++g,h,j,by simp[b,k],by simp[c,m],by grind,by simpa using n,
   ⟨a,pre,S1,g,rfl,rfl,d,o⟩,by simpa using p⟩
inductive Tm where
 |junk|tup
 |val (T:Ty) (f:Fl) (x:T.den)
 |box (e:TypeId) (T:Ty) (f:Fl) (x:T.den)
 |ptr (r:Nat) (p:List Nat)
 |shp (T:Ty) (x:T.den)
 |bor (r:Nat) (p:List Nat)
 |elp (r:Nat) (p:List Nat) (i:Int) (q:List Nat)
 |gd (g:Nat) (want:Bool) (t:Tm)
 |aep (r:Nat) (p:List Nat) (i:Int)
 |pls (h:Bool) (l:List (Nat×List Nat))
 |bel (r:Nat) (p:List Nat) (i:Int) (q:List Nat)
 |cl (f:FuncId) (l:List Nat)
inductive Key where
 |m (t:Nat)|c (t i:Nat)
def Key.beq:Key->Key->Bool
 |.m t,.m u=>Nat.beq t u
 |.c t i,.c u j=>match Nat.beq t u with|true=>Nat.beq i j|false=>false
 |_,_=>false
theorem Key.beq_true{k j:Key}:Key.beq k j=true↔k=j:=by
 cases k<;>cases j<;>simp[Key.beq]
 grind[Nat.beq_refl,Onb]
instance:DecidableEq Key:=λk j=>match h:Key.beq k j with
 |true=>isTrue (Key.beq_true.1 h)
 |false=>isFalse λe=>by grind[Key.beq_true]
structure St where
 env:List (Key×Tm)
 dirty:List Nat
 lent:List Nat:=[]
structure Kx where
 G:World->Prop
 GB:Nat->Prop
 lt:∀w b,G w->GB b->b<w.heap.size
 stays:∀w w',G w->(∀b,GB b->w'.heap[b]? =w.heap[b]?)->G w'
 soft:Bool:=false
def Kx.none:Kx:={G:=λ_=>True,GB:=λ_=>False,lt:=λ_ _ _ h=>h.elim,stays:=λ_ _ h _=>h}
def Z5a(u v:Value):Prop:=u=v\/(∃k x y,u=.int k x/\v=.int k y)\/(∃x y,u=.bool x/\v=.bool y)\/(∃x y,u=.string x/\v=.string y)
theorem Z5a.refl(u:Value):Z5a u u:=.inl rfl
theorem Z5a.trans{u v x:Value}(h:Z5a u v)(h':Z5a v x):Z5a u x:=by
 rcases h with rfl|⟨k,a,b,rfl,rfl⟩|⟨a,b,rfl,rfl⟩|⟨a,b,rfl,rfl⟩
 ·exact h'
 ·rcases h' with rfl|⟨_,_,c,e,rfl⟩|⟨_,_,e,_⟩|⟨_,_,e,_⟩
  ·exact .inr (.inl ⟨_,_,_,rfl,rfl⟩)
  ·simp only[Value.int.injEq]at e;obtain⟨rfl,rfl⟩:=e;exact .inr (.inl ⟨_,_,_,rfl,rfl⟩)
  all_goals simp_all
 ·rcases h' with rfl|⟨_,_,c,e,rfl⟩|⟨_,_,e,rfl⟩|⟨_,_,e,_⟩
  ·exact .inr (.inr (.inl ⟨_,_,rfl,rfl⟩))
  ·cases e
  ·exact .inr (.inr (.inl ⟨_,_,rfl,rfl⟩))
  ·cases e
 ·rcases h' with rfl|⟨_,_,c,e,rfl⟩|⟨_,_,e,_⟩|⟨_,_,e,rfl⟩
  ·exact .inr (.inr (.inr ⟨_,_,rfl,rfl⟩))
  ·cases e
  ·cases e
  ·exact .inr (.inr (.inr ⟨_,_,rfl,rfl⟩))
def Zsz(L:Nat->Prop)(w w':World):Prop:= ∀ad u,L ad.block->w.cell? ad=some u-> ∃u',w'.cell? ad=some u'/\Z5a u u'
theorem Zsz.trans{L:Nat->Prop}{w w' w2:World}(h:Zsz L w w')(h':Zsz L w' w2):Zsz L w w2:=λa u b c=>by
 obtain⟨d,e,f⟩:=h a u b c;obtain⟨u2,g,i⟩:=h' a d b e;exact⟨u2,g,f.trans i⟩
def Zzf(w:World)(b:Nat):Prop:= ∃c e,w.heap[b]? =some (.cells c e (0,0))
theorem Zzf.lt{w:World}{b:Nat}(h:Zzf w b):b<w.heap.size:=by
 obtain⟨c,e,h⟩:=h
 grind
def Zys(w0:World)(L:Nat->Prop):Kx where
 G w:=Zsz L w0 w/\ ∀b,L b->Zzf w b
 GB:=L
 lt _ b h hb:=(h.2 b hb).lt
 stays w w' h hL:=⟨h.1.trans λad u hb hu=>⟨u,by grind[World.cell?_of_block],Z5a.refl u⟩,λb hb=>by
  obtain⟨c,e,hc⟩:=h.2 b hb;exact⟨c,e,by simp_all⟩⟩
 soft:=true
def big:Nat:=1048576
def Zqf(gh:Nat->Value)(a:Act)(t:Nat):Value:=match a.tmps[t]? with|some v=>v|none=>gh t
def Q2(gh:Nat->Value)(a:Act):Key->Value
 |.m t=>Zqf gh a t
 |.c t i=>match Zqf gh a t with
  |.tuple vs=>vs.getD i undef
  |_=>undef
structure Zc6(g:Kx) where
 W:World
 B:Nat
 Y:Nat->Prop
 L:Nat->Prop
 X0:Nat->Prop
 fix:List (Nat×Value)
 bB:B<=W.heap.size
 yW:∀k,Y k->k<W.heap.size
 yL:∀k,Y k-> ¬L k
 fr:g.soft=true-> ∀k,g.GB k-> ¬Y k
 gh:Nat->Value:=λ_=>undef
 ghU:∀t,t<big->gh t=undef:=by intro _ _;rfl
def Zc6.mine{g:Kx}(z:Zc6 g)(k:Nat):Prop:=z.W.heap.size<=k\/z.L k
theorem Zc6.sep{g:Kx}(z:Zc6 g){k b:Nat}(h:z.Y k)(hb:z.mine b):k≠b:=λe=>by
 subst e;rcases hb with hb|hb
 ·have:=z.yW k h;omega
 ·exact z.yL k h hb
structure Zc6.below{g:Kx}(z:Zc6 g)(w:World):Prop where
 os:w.os=z.W.os
 tape:w.tape=z.W.tape
 output:w.output=z.W.output
 size:z.W.heap.size<=w.heap.size
 block:∀k,z.Y k->w.heap[k]? =z.W.heap[k]?
theorem Zc6.below.sizeB{g:Kx}{z:Zc6 g}{w:World}(h:z.below w):z.B<=w.heap.size:=Nat.le_trans z.bB h.size
theorem Zc6.below.new{g:Kx}{z:Zc6 g}{w:World}(h:z.below w):z.mine w.heap.size:=.inl h.size
theorem Zc6.below.step{g:Kx}{z:Zc6 g}{w w':World}(h:z.below w)(hb:Below w.heap.size w w'):z.below w':=
 ⟨hb.os.trans h.os,hb.tape.trans h.tape,hb.output.trans h.output,Nat.le_trans h.size hb.size,λk hk=>(hb.block k (Nat.lt_of_lt_of_le (z.yW k hk) h.size)).trans (h.block k hk)⟩
def Zc6.plain(g:Kx)(w:World)(hs:g.soft=false):Zc6 g:={fr:=λh=>Bool.noConfusion (hs.symm.trans h),W:=w,B:=w.heap.size,Y:=(· <w.heap.size),L:=λ_=>False,X0:=(· <w.heap.size),fix:=[],bB:=Nat.le_refl _,yW:=λ_ h=>h,yL:=λ_ _ h=>h}
def Zka:List (Key×Tm)->Key->Tm
 |[],_=>.junk
 |(k,t)::r,j=>match Key.beq k j with
  |true=>t
  |false=>Zka r j
def St.get(s:St)(k:Key):Tm:=Zka s.env k
def St.foul(s:St)(r:Nat):Bool:=s.dirty.any (Nat.beq r)
def Zo6(r:Nat):Nat:=r+1099511627776
def Qb3(r:Nat):Nat:=r+2199023255552
def Qb2(r i:Nat):Nat:=r+(i+3)*1099511627776
def St.bad(s:St)(r:Nat):List Nat->Bool|[]=>s.foul r||s.foul (Qb3 r)|i::_=>s.foul r||s.foul (Qb2 r i)
theorem St.bad_foul{s:St}{r:Nat}:∀{p:List Nat},s.bad r p=false->s.foul r=false
 |[],h=>by simp_all[St.bad]
 |_::_,h=>by simp_all[St.bad]
theorem Z7(k:Key)(t:Tm)(s:List (Key×Tm))(j:Key):Zka ((k,t)::s) j=if k=j then t else Zka s j:=by
 grind[Zka,Key.beq_true]
def Key.t:Key->Nat|.m t=>t|.c t _=>t
theorem Zrg{gh:Nat->Value}{a:Act}{d:Nat}{v:Value}(h:d<a.tmps.size):Q2 gh (a.put (some d) v) (.m d)=v:=by
 simp[Q2,Zqf,Act.put,h]
theorem Zfw{gh:Nat->Value}{a:Act}{d:Nat}{v:Value}{k:Key}(h:k.t≠d):Q2 gh (a.put (some d) v) k=Q2 gh a k:=by
 have:(a.tmps.setIfInBounds d v)[k.t]? =a.tmps[k.t]? :=by grind
 cases k<;>simp only[Key.t]at this<;>simp[Q2,Zqf,Act.put,this]
def Xw(gh:Nat->Value)(w:World)(s:St)(F:Key->List Nat)(a:Act)(r:Nat)(p:List Nat)(v:Value)(U:Ty):Prop:=
 match s.get (.m r)with
 |.val T _ _=>p=[]/\U=T/\v=Q2 gh a (.m r)
 |.box e T _ x=> ∃b c S y,F (.m r)=b::S/\w.heap[b]? =some (.cells c e (0,0))/\Zh2 T x p=some y/\U=y.1/\v=Yz y.1 ((c.toList.drop (Wr T p)).take y.1.size)
 |_=>False
def atP(s:St)(F:Key->List Nat)(r:Nat)(p:List Nat)(v:Value):Prop:=∃e T f x b S',s.get (.m r)=.box e T f x/\F (.m r)=b::S'/\v=.pointer (some ⟨b,Wr T p,none⟩)
def Xe8(w:World)(X:Nat->Prop)(s:St)(F:Key->List Nat)(h:Bool)(l:List (Nat×List Nat))(v:Value):Prop:=
 ∃(ad:Addr) (us:List Value),X ad.block/\(∀j u,us[j]? =some u->w.cell? (ad.add j)=some u)/\us.length=l.length/\(∀(j:Nat)(q:Nat×List Nat),l[j]? =some q-> ∃u,us[j]? =some u/\atP s F q.1 q.2 u)/\
  (match h with|true=>v=.slice (some ad) l.length l.length/\l.length<=maxLen|false=>v=.pointer (some ad))
def clV(s:St)(F:Key->List Nat)(f:FuncId)(l:List Nat)(v:Value):Prop:=∃us:List Value,v=.func (.func f) #[] us.toArray/\us.length=l.length/\ ∀(j:Nat)(q:Nat),l[j]? =some q-> ∃u,us[j]? =some u/\atP s F q [] u
def vt(gh:Nat->Value)(w:World)(X:Nat->Prop)(B:Nat)(s:St)(F:Key->List Nat)(a:Act)(v:Value)(S:List Nat):Tm->Prop|.junk|.tup=>S=[]|.val T f x=> ∃vs,v=Yz T vs/\rdF w X B T f x vs S|.box e T f x=> ∃b c S',v=.pointer (some ⟨b,0,none⟩)/\S=b::S'/\w.heap[b]? =some (.cells c e (0,0))/\rdF w X B T f x c.toList S'|.ptr r p=>S=[]/\ ∃e T f x b S',s.get (.m r)=.box e T f x/\F (.m r)=b::S'/\v=.pointer (some ⟨b,Wr T p,none⟩)|.shp T x=>S=[]/\ ∃ad vs,v=.pointer (some ad)/\X ad.block/\(∀j u,vs[j]? =some u->w.cell? (ad.add j)=some u)/\rd w X B false T x vs []|.bor r p=>S=[]/\(s.bad r p=false-> ∃U,Xw gh w s F a r p v U)|.elp r p i q=>S=[]/\(s.bad r p=false-> ∃e t ad n cap,Xw gh w s F a r p (.slice (some ad) n cap) (.slice e t)/\0<=i/\i<n/\ v=.pointer (some (ad.add (i.toNat*t.size+Wr t q))))|.aep r p i=>S=[]/\ ∃e T f x b S' n t y,s.get (.m r)=.box e T f x/\F (.m r)=b::S'/\Zh2 T x p=some ⟨.arr n t,y⟩/\0<=i/\i<n/\v=.pointer (some ⟨b,Wr T p+i.toNat*t.size,none⟩)|.pls h l=>S=[]/\Xe8 w X s F h l v|.bel r p i q=>S=[]/\(s.bad r p=false->s.foul (Zo6 r)=false-> ∃e t ad n cap x0 y cs,Xw gh w s F a r p (.slice (some ad) n cap) (.slice e t)/\0<=i/\i<n/\ ad.block∈F (.m r)/\Zh2 t x0 q=some y/\v=Yz y.1 cs/\cs.length=y.1.size/\ ∀(j:Nat) u,cs[j]? =some u->w.cell? (ad.add (i.toNat*t.size+Wr t q+j))=some u)|.cl f l=>S=[]/\clV s F f l v|.gd g want t=>s.foul g=false->s.get (.m g)≠ .junk/\(Q2 gh a (.m g)=.bool want->vt gh w X B s F a v S t)/\(Q2 gh a (.m g)≠ .bool want->S=[]/\v=undef)
structure R{g:Kx}(n:Nat)(W0:Zc6 g)(w:World)(X:Nat->Prop)(F:Key->List Nat)(H:List Nat)(s:St)(a:Act):Prop where
 size:a.tmps.size=n
 defers:a.defers=[]
 below:W0.below w
 glob:g.G w
 gx:∀b,g.GB b->X b
 xs:g.soft=true-> ∀b,X b->g.GB b
 fix:∀p,p∈W0.fix->p.1∈s.lent/\Q2 W0.gh a (.m p.1)=p.2
 xlt:∀b,X b->b<w.heap.size
 xin:∀b,X b->W0.X0 b\/W0.mine b
 x0:∀b,W0.X0 b->X b
 own:∀k b,b∈F k->W0.mine b/\b<w.heap.size/\ ¬X b
 nodup:∀k,(F k).Nodup
 disj:∀k k' b,b∈F k->b∈F k'->k=k'
 hown:∀b,b∈H->W0.mine b/\b<w.heap.size/\ ¬X b
 hnodup:H.Nodup
 hdisj:∀k b,b∈F k->b∉H
 comps:∀d i,s.get (.c d i)≠ .junk->s.get (.m d)=.tup/\ ∃vs,Q2 W0.gh a (.m d)=.tuple vs/\i<vs.size
 slots:∀k,vt W0.gh w X W0.B s F a (Q2 W0.gh a k) (F k) (s.get k)
variable {g:Kx}{W0:Zc6 g}{n:Nat}{s:St}{F:Key->List Nat}{a:Act}{H:List Nat}{gh:Nat->Value}
theorem Zly{r:Nat}{p:List Nat}{v:Value}{U:Ty}(h:Xw gh w s F a r p v U)(hF:∀b∈F (.m r),w'.heap[b]? =w.heap[b]?):Xw gh w' s F a r p v U:=by
 grind[Xw]
theorem Zxg{s2:St}{F2:Key->List Nat}(hX:∀b,X b->X' b)(hw:∀b,X b->w'.heap[b]? =w.heap[b]?)(ha:∀r p v,atP s F r p v->atP s2 F2 r p v){h:Bool}{l:List (Nat×List Nat)}{v:Value}
  (hv:Xe8 w X s F h l v):Xe8 w' X' s2 F2 h l v:=by
 obtain⟨a,c,d,g,e,i,f⟩:=hv;refine⟨a,c,hX _ d,λj u k=>?_,e,λj q m=>?_,f⟩
 all_goals grind[Addr.add,World.cell?_of_block]
theorem Zn7(hX:∀b,X b->X' b)(hw:∀b,X b->w'.heap[b]? =w.heap[b]?)(hF:∀k b,b∈F k->w'.heap[b]? =w.heap[b]?){v:Value}{S:List Nat}(hS:∀b∈S,w'.heap[b]? =w.heap[b]?):∀{t:Tm},
  vt gh w X B s F a v S t->vt gh w' X' B s F a v S t
 |.junk,h|.tup,h=>h
 |.val T f x,⟨C,d,o⟩=>⟨C,d,Zwc hX hw o hS⟩
 |.box e T f x,⟨b,c,G,d,o,H,D⟩=>
  ⟨b,c,G,d,o,by simp_all,Zwc hX hw D λI J=>hS I (by simp_all)⟩
 |.ptr r p,h=>h
 |.aep r p i,h=>h
 |.pls _ _,⟨l,h⟩=>⟨l,Zxg hX hw (λ_ _ _ h=>h) h⟩
 |.cl _ _,h=>h
 |.bel r p i q,⟨l,d⟩=>⟨l,λz K=>let⟨e,t,A,n,cap,x0,y,cs,h,k1,k2,k3,k4,k5,k6,k7⟩:=d z K;⟨e,t,A,n,cap,x0,y,cs,Zly h (hF (.m r)),k1,k2,k3,k4,k5,k6,λj u L=>by
   grind[Addr.add,World.cell?_of_block]⟩⟩
 |.shp T x,⟨l,A,C,d,o,H,D⟩=>
  ⟨l,A,C,d,hX _ o,λj u L=>by
   grind[Addr.add,World.cell?_of_block],Zgz hX hw D (by simp)⟩
 |.bor r p,⟨l,d⟩=>⟨l,λz=>let⟨U,h⟩:=d z;⟨U,Zly h (hF (.m r))⟩⟩
 |.elp r p i q,⟨l,d⟩=>⟨l,λz=>let⟨e,t,A,n,cap,h,h'⟩:=d z;⟨e,t,A,n,cap,Zly h (hF (.m r)),h'⟩⟩
 |.gd g E t,h=>λz=>let⟨l,d,o⟩:=h z;⟨l,λM=>Zn7 hX hw hF hS (d M),o⟩
theorem R.world(h:R n W0 w X F H s a)(hb:W0.below w')(hs:w.heap.size<=w'.heap.size)(hX:∀b,X b->w'.heap[b]? =w.heap[b]?)
  (hF:∀k b,b∈F k->w'.heap[b]? =w.heap[b]?):R n W0 w' X F H s a:=
 {h with
  below:=hb
  glob:=g.stays _ _ h.glob λb hb=>hX b (h.gx b hb)
  xlt:=λb c=>Nat.lt_of_lt_of_le (h.xlt b c) hs
  own:=λk b c=>let⟨h1,h2,h3⟩:=h.own k b c;⟨h1,Nat.lt_of_lt_of_le h2 hs,h3⟩
  hown:=λb c=>let⟨h1,h2,h3⟩:=h.hown b c;⟨h1,Nat.lt_of_lt_of_le h2 hs,h3⟩
  slots:=λk=>Zn7 (λ_ h=>h) hX hF (hF k) (h.slots k)}
theorem R.drop{S:List Nat}(h:R n W0 w X F (S++H) s a):R n W0 w X F H s a:=
 {h with
  hown:=λb c=>h.hown b (by simp[c])
  hnodup:=(List.nodup_append.1 h.hnodup).2.1
  hdisj:=λk b c d=>h.hdisj k b c (by simp[d])}
theorem R.hand{S:List Nat}(h:R n W0 w X F H s a)(hS:∀b∈S,W0.mine b/\b<w.heap.size/\ ¬X b)(hn:S.Nodup)(hF:∀k b,b∈F k->b∉S)(hH:∀b∈S,b∉H):
  R n W0 w X F (S++H) s a:=
 {h with
  hown:=λb c=>(List.mem_append.1 c).elim (hS b) (h.hown b)
  hnodup:=List.nodup_append.2 ⟨hn,h.hnodup,λx hx y d e=>hH x hx (by rw[e];exact d)⟩
  hdisj:=λk b c f=>(List.mem_append.1 f).elim (hF k b c) (h.hdisj k b c)}
theorem R.give{S:List Nat}(hs:g.soft=false)(h:R n W0 w X F (S++H) s a):R n W0 w (λb=>X b\/b∈S) F H s a:=
 {h.drop with
  gx:=λb c=>.inl (h.gx b c)
  xs:=λe=>by simp_all
  xlt:=λb c=>c.elim (h.xlt b) λc=>(h.hown b (by simp[c])).2.1
  xin:=λb c=>c.elim (h.xin b) λc=>.inr (h.hown b (by simp[c])).1
  x0:=λb c=>.inl (h.x0 b c)
  own:=λk b c=>let⟨h1,h2,h3⟩:=h.own k b c;⟨h1,h2,λhx=>hx.elim h3 λd=>h.hdisj k b c (by simp[d])⟩
  hown:=λb c=>let⟨h1,h2,h3⟩:=h.hown b (by simp[c]);⟨h1,h2,λhx=>hx.elim h3 λd=>(List.nodup_append.1 h.hnodup).2.2 b d b c rfl⟩
  slots:=λk=>Zn7 (λ_ h=>.inl h) (λ_ _=>rfl) (λ_ _ _=>rfl) (λ_ _=>rfl) (h.slots k)}
def St.free(s:St)(d:Nat):Bool:= !(s.lent.any (Nat.beq d))
def Wn(s:St)(d:Nat):Bool:=
 match s.get (.m d)with
 |.box .. |.tup=>false
 |_=>s.free d
theorem Qns{s:St}{d:Nat}(h:Wn s d=true):d∉s.lent:=by
 grind[St.free,Nat.beq_refl,Wn]
def Jd(s:St)(d:Nat)(t:Tm):St:=
 {env:=(.m d,t)::s.env,dirty:=match s.get (.m d)with|.junk=>s.dirty|_=>d::s.dirty,lent:=s.lent}
theorem Zpa(s:St)(d:Nat)(t:Tm)(k:Key):(Jd s d t).get k=if Key.m d=k then t else s.get k:=Z7 _ _ _ _
theorem Zx0(s:St)(d:Nat)(t:Tm):(Jd s d t).get (.m d)=t:=by rw[Zpa];simp
theorem Z99{s:St}{d:Nat}{t:Tm}{r:Nat}(h:(Jd s d t).foul r=false):s.foul r=false/\(r=d->s.get (.m r)=.junk):=by
 grind[Jd,St.foul,Nat.beq_refl]
theorem Z3f{s s2:St}(h:∀r,s2.foul r=false->s.foul r=false){r:Nat}:∀{p:List Nat},s2.bad r p=false->s.bad r p=false
 |[],a=>by simp_all[St.bad]
 |_::_,a=>by simp_all[St.bad]
theorem Qpf{s:St}{d:Nat}{t:Tm}{r:Nat}{p:List Nat}(h:(Jd s d t).bad r p=false):s.bad r p=false/\(r=d->s.get (.m r)=.junk):=
 ⟨Z3f (λ_ h=>(Z99 h).1) h,(Z99 (St.bad_foul h)).2⟩
abbrev Xb(F:Key->List Nat)(k:Key)(S:List Nat):Key->List Nat:=λj=>if j=k then S else F j
theorem Qjy{d:Nat}{t:Tm}{v u:Value}{S:List Nat}{r:Nat}{p:List Nat}{U:Ty}(hr:r≠d)
  (h:Xw gh w s F a r p u U):Xw gh w (Jd s d t) (Xb F (.m d) S) (a.put (some d) v) r p u U:=by
 have e:(Jd s d t).get (.m r)=s.get (.m r):=by simp_all[Zpa,Ne.symm]
 unfold Xw at*
 rw[e];cases hg:s.get (.m r)<;>rw[hg]at h<;>simp only at h⊢
 ·grind[Zfw,Key.t]
 grind
theorem Qeg{r:Nat}{p:List Nat}{v:Value}{U:Ty}(h:Xw gh w s F a r p v U):s.get (.m r)≠ .junk:=by
 grind[Xw]
theorem Q0j{d:Nat}{t:Tm}{S0:List Nat}(hd:Wn s d=true){r:Nat}{p:List Nat}{v:Value}(hu:atP s F r p v):atP (Jd s d t) (Xb F (.m d) S0) r p v:=by
 obtain⟨e,T,f,x,b,a,g,h,c⟩:=hu;have i:r≠d:=λj=>by simp_all[Wn]
 refine⟨e,T,f,x,b,a,?_,by grind,c⟩;simp_all[Zpa,Ne.symm]
theorem Z7s{s2:St}{F2:Key->List Nat}(ha:∀r p v,atP s F r p v->atP s2 F2 r p v){f:FuncId}{l:List Nat}{v:Value}(hv:clV s F f l v):clV s2 F2 f l v:=by
 obtain⟨a,b,c,d⟩:=hv;refine⟨a,b,c,λj q e=>?_⟩
 grind
theorem Q0d{d:Nat}{t:Tm}{v0:Value}{S0:List Nat}(hd:Wn s d=true){v:Value}{S:List Nat}:∀{u:Tm},
  vt gh w X B s F a v S u->vt gh w X B (Jd s d t) (Xb F (.m d) S0) (a.put (some d) v0) v S u:=by
 intro u c
 induction u with
 |junk=>exact c
 |tup=>exact c
 |val T f x=>exact c
 |box e T f x=>exact c
 |shp T x=>exact c
 |ptr r p=>
  obtain⟨k,e,T,f,x,b,H,o,G,D⟩:=c;have z:r≠d:=λK=>by simp_all[Wn]
  refine⟨k,e,T,f,x,b,H,?_,by grind,D⟩;simp_all[Zpa,Ne.symm]
 |aep r p i=>
  obtain⟨k,e,T,f,x,b,H,n,E,y,o,G,D⟩:=c;have z:r≠d:=λK=>by simp_all[Wn]
  refine⟨k,e,T,f,x,b,H,n,E,y,?_,by grind,D⟩;simp_all[Zpa,Ne.symm]
 |bor r p=>
  obtain⟨k,o⟩:=c;refine⟨k,λj=>?_⟩;obtain⟨j,A⟩:=Qpf j;obtain⟨U,h⟩:=o j;have z:r≠d:=λe=>Qeg h (A e);exact⟨U,Qjy z h⟩
 |elp r p i q=>
  obtain⟨k,o⟩:=c;refine⟨k,λj=>?_⟩;obtain⟨j,A⟩:=Qpf j;obtain⟨e,E,I,n,C,h,G,D,L⟩:=o j;have z:r≠d:=λe=>Qeg h (A e);exact⟨e,E,I,n,C,Qjy z h,G,D,L⟩
 |bel r p i q=>
  obtain⟨k,o⟩:=c;refine⟨k,λj M=>?_⟩;obtain⟨j,A⟩:=Qpf j;obtain⟨e,E,I,n,C,N,y,O,h,P,Q,W,V⟩:=o j (Z99 M).1;have z:r≠d:=λe=>Qeg h (A e);exact⟨e,E,I,n,C,N,y,O,Qjy z h,P,Q,by grind,V⟩
 |cl f l=>exact⟨c.1,Z7s (λ_ _ _ h=>Q0j hd h) c.2⟩
 |pls h l=>exact⟨c.1,Zxg (λ_ h=>h) (λ_ _=>rfl) (λ_ _ _ h=>Q0j hd h) c.2⟩
 |gd g J u Y=>
  intro j;obtain⟨j,A⟩:=Z99 j;obtain⟨k,o,G⟩:=c j;have Z:g≠d:=λe=>k (A e);have hv:Q2 gh (a.put (some d) v0) (.m g)=Q2 gh a (.m g):=Zfw (by simp_all[Key.t]);simp_all[Zpa,Ne.symm]
theorem R.put{d:Nat}{t:Tm}{v:Value}{S:List Nat}(h:R n W0 w X F (S++H) s a)(hd:Wn s d=true)(hn:d<n)
  (hr:vt W0.gh w X W0.B s F a v S t):
  R n W0 w X (Xb F (.m d) S) H (Jd s d t) (a.put (some d) v) where
 size:=by simp[Act.put,h.size]
 defers:=by simp[Act.put,h.defers]
 below:=h.below
 glob:=h.glob
 gx:=h.gx
 xs:=h.xs
 fix:=λp o=>⟨(h.fix p o).1,by
  have:=Qns hd;have u:p.1≠d:=λe=>this (e▸(h.fix p o).1);rw[Zfw (by simp_all[Key.t])];exact(h.fix p o).2⟩
 xlt:=h.xlt
 xin:=h.xin
 x0:=h.x0
 own:=λk b f=>by
  simp only[Xb]at f;split at f
  ·exact h.hown b (by simp[f])
  ·exact h.own k b f
 nodup:=λk=>by
  simp only[Xb];split
  ·exact(List.nodup_append.1 h.hnodup).1
  ·exact h.nodup k
 disj:=λk r b f g=>by
  simp only[Xb]at f g;split at f<;>split at g
  ·simp_all
  ·exact absurd (by simp[f]) (h.hdisj r b g)
  ·exact absurd (by simp[g]) (h.hdisj k b f)
  ·exact h.disj k r b f g
 hown:=h.drop.hown
 hnodup:=h.drop.hnodup
 hdisj:=λk b f=>by
  simp only[Xb]at f;split at f
  ·exact λx=>(List.nodup_append.1 h.hnodup).2.2 b f b x rfl
  ·exact h.drop.hdisj k b f
 comps:=λq i l=>by
  rw[Zpa]at l⊢;simp only[reduceCtorEq,if_false]at l;obtain⟨A,y⟩:=h.comps q i l;by_cases e:d=q
  ·simp_all[Wn]
  ·refine⟨by simp_all,?_⟩;rw[Zfw (a:=a) (v:=v) (k:=.m q) (d:=d) (by simp_all[Key.t,Ne.symm])];exact y
 slots:=λk=>by
  by_cases hk:k=.m d
  ·subst hk;rw[Zx0,Zrg (by rw[h.size];exact hn)];simp_all[Q0d,Xb]
  ·have e:Xb F (.m d) S k=F k:=by simp[Xb,hk]
   rw[Zpa,e];simp only[Ne.symm hk,if_false];by_cases j:k.t=d
   ·cases k with
    |m t=>simp_all[Key.t]
    |c t i=>
     simp[Key.t]at j;subst j;have z:s.get (.c t i)=.junk:=Classical.byContradiction λl=>by
      have:=(h.comps t i l).1;simp_all[Wn]
     have:=h.slots (.c t i);rw[z]at this⊢;exact this
   ·rw[Zfw j];exact Q0d hd (h.slots k)
def Vv(s:St)(r:Nat)(t:Tm):St:={env:=(.m r,t)::s.env,dirty:=r::s.dirty,lent:=s.lent}
theorem Ks(s:St)(r:Nat)(t:Tm)(k:Key):(Vv s r t).get k=if Key.m r=k then t else s.get k:=Z7 _ _ _ _
theorem Zva{r' r:Nat}{t:Tm}(h:(Vv s r t).foul r'=false):s.foul r'=false/\r'≠r:=by
 grind[Vv,St.foul,Nat.beq_refl]
def Xgr(gh:Nat->Value)(w w':World)(s s2:St)(F F2:Key->List Nat)(a:Act)(d:Nat):Prop:=s2.get (.m d)≠ .junk/\ ∀p v U,Xw gh w s F a d p v U->Xw gh w' s2 F2 a d p v U
structure Z6n(gh:Nat->Value)(w w':World)(s s2:St)(F F2:Key->List Nat)(a:Act)(d:Nat)(t:Tm):Prop where
 lent:s2.lent=s.lent
 get:∀k,s2.get k=if Key.m d=k then t else s.get k
 foul:∀r,s2.foul r=false->s.foul r=false/\(r=d->s2.get (.m d)≠ .junk)
 bad:∀r p,s2.bad r p=false->s.bad r p=false/\(r=d-> ∀v U,Xw gh w s F a d p v U->Xw gh w' s2 F2 a d p v U)
 el:∀r,s2.foul r=false->s2.foul (Zo6 r)=false->s.foul (Zo6 r)=false/\r≠d
theorem Qju{d:Nat}{t:Tm}{F2:Key->List Nat}:Z6n gh w w' s (Vv s d t) F F2 a d t where
 lent:=rfl
 get:=Ks s d t
 foul _ h:=⟨(Zva h).1,λe=>absurd e (Zva h).2⟩
 bad _ _ h:=⟨Z3f (λ_ h=>(Zva h).1) h,λe=>absurd e (Zva (St.bad_foul h)).2⟩
 el _ h he:=⟨(Zva he).1,(Zva h).2⟩
theorem Qp5{s2:St}{d:Nat}{t:Tm}{u:Value}{S:List Nat}{r:Nat}{p:List Nat}{U:Ty}(ht:Z6n gh w w' s s2 F (Xb F (.m d) S) a d t)(hr:r≠d)
  (hF:∀b∈F (.m r),w'.heap[b]? =w.heap[b]?) (h:Xw gh w s F a r p u U):Xw gh w' s2 (Xb F (.m d) S) a r p u U:=by
 have e:s2.get (.m r)=s.get (.m r):=by rw[ht.get];simp[Ne.symm hr]
 have h:=Zly h hF;simp_all[Xw,Xb]
theorem Qmu{s2:St}{d:Nat}{t:Tm}{S0:List Nat}{v:Value}{S:List Nat}(ht:Z6n gh w w' s s2 F (Xb F (.m d) S0) a d t)(hX:∀b,X b->X' b)(hw:∀b,X b->w'.heap[b]? =w.heap[b]?)
  (hF:∀k b,k≠ .m d->b∈F k->w'.heap[b]? =w.heap[b]?) (hS:∀b∈S,w'.heap[b]? =w.heap[b]?)
  (same:∀e T f x b S',s.get (.m d)=.box e T f x->F (.m d)=b::S'-> ∃f' x' S'',t=.box e T f' x'/\S0=b::S''):∀{u:Tm},
  vt gh w X B s F a v S u->vt gh w' X' B s2 (Xb F (.m d) S0) a v S u:=by
 intro u o;have V:∀{r:Nat}{p:List Nat}{v:Value}{U:Ty},(r=d-> ∀v U,Xw gh w s F a d p v U->Xw gh w' s2 (Xb F (.m d) S0) a d p v U)->Xw gh w s F a r p v U->Xw gh w' s2 (Xb F (.m d) S0) a r p v U:=by
  intro r p v U hk hv;by_cases z:r=d
  ·simp_all
  ·exact Qp5 ht z (λb=>hF (.m r) b (by simpa using z)) hv
 induction u with
 |junk=>exact o
 |tup=>exact o
 |val T f x=>exact Zn7 (s:=s) (F:=λ_=>[]) (a:=a) (v:=v) (t:=.val T f x) hX hw (by simp) hS (show vt gh w X B s (λ_=>[]) a v S (.val T f x)from o)
 |box e T f x=>exact Zn7 (s:=s) (F:=λ_=>[]) (a:=a) (v:=v) (t:=.box e T f x) hX hw (by simp) hS (show vt gh w X B s (λ_=>[]) a v S (.box e T f x)from o)
 |shp T x=>exact Zn7 (s:=s) (F:=λ_=>[]) (a:=a) (v:=v) (t:=.shp T x) hX hw (by simp) hS (show vt gh w X B s (λ_=>[]) a v S (.shp T x)from o)
 |ptr r p=>
  obtain⟨C,e,T,f,x,b,S',c,E,D⟩:=o;by_cases z:d=r
  ·subst z;obtain⟨f',x',S'',rfl,rfl⟩:=same e T f x b S' c E;exact⟨C,e,T,f',x',b,S'',by rw[ht.get];simp,by simp[Xb],D⟩
  ·exact⟨C,e,T,f,x,b,S',by rw[ht.get];simp[z,c],by grind,D⟩
 |aep r p i=>
  obtain⟨C,e,T,f,x,b,S',n,H,y,c,E,D,O⟩:=o;by_cases z:d=r
  ·subst z;obtain⟨f',x',S'',rfl,rfl⟩:=same e T f x b S' c E;obtain⟨⟨T2,W⟩,J,I⟩:=Z9y (x':=x') D;simp only at I;subst I;exact⟨C,e,T,f',x',b,S'',n,H,W,by rw[ht.get];simp,by simp[Xb],J,O⟩
  ·exact⟨C,e,T,f,x,b,S',n,H,y,by rw[ht.get];simp[z,c],by grind,D,O⟩
 |bor r p=>
  obtain⟨C,c⟩:=o;refine⟨C,λA=>?_⟩;obtain⟨A,G⟩:=ht.bad r p A
  grind
 |elp r p i q=>
  obtain⟨C,c⟩:=o;refine⟨C,λA=>?_⟩;obtain⟨A,G⟩:=ht.bad r p A
  grind
 |bel r p i q=>
  obtain⟨C,c⟩:=o;refine⟨C,λA K=>?_⟩;obtain⟨K,z⟩:=ht.el r (St.bad_foul A) K;obtain⟨A,G⟩:=ht.bad r p A;obtain⟨e,H,L,n,M,Y,y,Z,h,J,I,k3,k4,k5,k6,k7⟩:=c A K;have P:∀m,(L.add m).block=L.block:=λm=>by grind[Addr.add]
  exact⟨e,H,L,n,M,Y,y,Z,V G h,J,I,by grind,k4,k5,k6,λj u G=>by
   grind[World.cell?_of_block]⟩
 |cl f l=>
  refine⟨o.1,Z7s (λr p v N=>?_) o.2⟩;obtain⟨e,T,f,x,b,S',c,E,D⟩:=N;by_cases z:d=r
  ·subst z;obtain⟨f',x',S'',rfl,rfl⟩:=same e T f x b S' c E;exact⟨e,T,f',x',b,S'',by rw[ht.get];simp,by simp[Xb],D⟩
  ·exact⟨e,T,f,x,b,S',by rw[ht.get];simp[z,c],by grind,D⟩
 |pls hh l=>
  refine⟨o.1,Zxg hX hw (λr p v N=>?_) o.2⟩;obtain⟨e,T,f,x,b,S',c,E,D⟩:=N;by_cases z:d=r
  ·subst z;obtain⟨f',x',S'',rfl,rfl⟩:=same e T f x b S' c E;exact⟨e,T,f',x',b,S'',by rw[ht.get];simp,by simp[Xb],D⟩
  ·exact⟨e,T,f,x,b,S',by rw[ht.get];simp[z,c],by grind,D⟩
 |gd g Q u ih=>
  intro A;obtain⟨A,G⟩:=ht.foul g A;obtain⟨C,c,E⟩:=o A;refine⟨?_,λP=>ih (c P),E⟩;by_cases hg:g=d
  ·simp_all
  ·rw[ht.get];grind
theorem R.turn'{s2:St}{r:Nat}{t:Tm}{S' H':List Nat}(h:R n W0 w X F H s a)(hT:Z6n W0.gh w w' s s2 F (Xb F (.m r) S') a r t)
  (hb:W0.below w') (hs:w.heap.size<=w'.heap.size) (hX:∀b,X b->w'.heap[b]? =w.heap[b]?)
  (hF:∀k b,k≠ .m r->b∈F k->w'.heap[b]? =w.heap[b]?)
  (hin:∀b,b∈S'++H'->b∈F (.m r)++H) (hn:(S'++H').Nodup) (ht:s.get (.m r)≠ .tup)
  (same:∀e T f x b S,s.get (.m r)=.box e T f x->F (.m r)=b::S-> ∃f' x' S'',t=.box e T f' x'/\S'=b::S'')
  (hr:vt W0.gh w' X W0.B s2 (Xb F (.m r) S') a (Q2 W0.gh a (.m r)) S' t):
  R n W0 w' X (Xb F (.m r) S') H' s2 a:=by
 have j:∀b,b∈S'++H'->W0.mine b/\b<w.heap.size/\ ¬X b:=λb hb=>
  (List.mem_append.1 (hin b hb)).elim (h.own _ b) (h.hown b)
 have l:∀k b,k≠ .m r->b∈F k->b∉S'++H':=λk b hk hb c=>
  (List.mem_append.1 (hin b c)).elim (λc=>hk (h.disj _ _ b hb c)) (h.hdisj k b hb)
 exact
 {size:=h.size
  defers:=h.defers
  below:=hb
  glob:=g.stays _ _ h.glob λb hb=>hX b (h.gx b hb)
  gx:=h.gx
  xs:=h.xs
  fix:=λp o=>⟨by rw[hT.lent];exact(h.fix p o).1,(h.fix p o).2⟩
  xlt:=λb hb=>Nat.lt_of_lt_of_le (h.xlt b hb) hs
  xin:=h.xin
  x0:=h.x0
  own:=λk b hb=>by
   simp only[Xb]at hb;split at hb
   ·grind
   ·obtain⟨q,u,z⟩:=h.own k b hb;grind
  nodup:=λk=>by
   simp only[Xb];split
   ·grind
   ·exact h.nodup k
  disj:=λk v b hb c=>by
   simp only[Xb]at hb c;split at hb<;>split at c
   ·simp_all
   ·grind
   ·grind
   ·exact h.disj k v b hb c
  hown:=λb hb=>by grind
  hnodup:=(List.nodup_append.1 hn).2.1
  hdisj:=λk b hb=>by
   grind
  comps:=λy i d=>by
   rw[hT.get]at d⊢;simp only[reduceCtorEq,if_false]at d;obtain⟨q,u⟩:=h.comps y i d
   grind
  slots:=λk=>by
   by_cases hk:k=.m r
   ·subst hk;rw[hT.get];grind
   ·have e:Xb F (.m r) S' k=F k:=by simp[Xb,hk]
    rw[hT.get,e];simp only[Ne.symm hk,if_false];exact Qmu hT (λ_ h=>h) hX hF (λb=>hF k b hk) same (h.slots k)}
theorem R.turn{r:Nat}{t:Tm}{S' H':List Nat}(h:R n W0 w X F H s a)
  (hb:W0.below w') (hs:w.heap.size<=w'.heap.size) (hX:∀b,X b->w'.heap[b]? =w.heap[b]?)
  (hF:∀k b,k≠ .m r->b∈F k->w'.heap[b]? =w.heap[b]?)
  (hin:∀b,b∈S'++H'->b∈F (.m r)++H) (hn:(S'++H').Nodup) (ht:s.get (.m r)≠ .tup)
  (same:∀e T f x b S,s.get (.m r)=.box e T f x->F (.m r)=b::S-> ∃f' x' S'',t=.box e T f' x'/\S'=b::S'')
  (hr:vt W0.gh w' X W0.B (Vv s r t) (Xb F (.m r) S') a (Q2 W0.gh a (.m r)) S' t):
  R n W0 w' X (Xb F (.m r) S') H' (Vv s r t) a:=
 h.turn' Qju hb hs hX hF hin hn ht same hr
def Zzj(s:St)(r:Nat)(t:Tm):St:={env:=(.m r,t)::s.env,dirty:=Zo6 r::s.dirty,lent:=s.lent}
theorem Jz(s:St)(r:Nat)(t:Tm)(k:Key):(Zzj s r t).get k=if Key.m r=k then t else s.get k:=Z7 _ _ _ _
theorem Zpk{s:St}{e:List (Key×Tm)}{m:List Nat}{l:List Nat}{r:Nat}(h:St.foul {env:=e,dirty:=m++s.dirty,lent:=l} r=false):s.foul r=false/\r∉m:=by
 grind[St.foul,Nat.beq_refl]
theorem Zum{d:Nat}{t:Tm}{F2:Key->List Nat}(h:Xgr gh w w' s (Zzj s d t) F F2 a d):Z6n gh w w' s (Zzj s d t) F F2 a d t where
 lent:=rfl
 get:=Jz s d t
 foul _ h':=⟨(Zpk (m:=[Zo6 d]) h').1,λ_=>h.1⟩
 bad _ _ h':=⟨Z3f (λ_ h=>(Zpk (m:=[Zo6 d]) h).1) h',λ_ v U hv=>h.2 _ v U hv⟩
 el _ _ he:=⟨(Zpk (m:=[Zo6 d]) he).1,λe=>(Zpk (m:=[Zo6 d]) he).2 (by simp[e])⟩
def Xb1(s:St)(r i:Nat)(t:Tm):St:={env:=(.m r,t)::s.env,dirty:=Zo6 r::Qb3 r::Qb2 r i::s.dirty,lent:=s.lent}
theorem Qp2(s:St)(r i:Nat)(t:Tm)(k:Key):(Xb1 s r i t).get k=if Key.m r=k then t else s.get k:=Z7 _ _ _ _
theorem Qz9{d i:Nat}{t:Tm}{F2:Key->List Nat}(h1:t≠ .junk)(h2:∀j p v U,j≠i->Xw gh w s F a d (j::p) v U->Xw gh w' (Xb1 s d i t) F2 a d (j::p) v U):Z6n gh w w' s (Xb1 s d i t) F F2 a d t where
 lent:=rfl
 get:=Qp2 s d i t
 foul _ h':=⟨(Zpk (m:=[Zo6 d,Qb3 d,Qb2 d i]) h').1,λ_=>by simp_all[Qp2]⟩
 bad r p h':=⟨Z3f (λ_ h=>(Zpk (m:=[Zo6 d,Qb3 d,Qb2 d i]) h).1) h',λe v U hv=>by
  subst e;cases p with
  |nil=>
   simp only[St.bad,Bool.or_eq_false_iff]at h';exact absurd (by simp) (Zpk (m:=[Zo6 r,Qb3 r,Qb2 r i]) h'.2).2
  |cons j p=>
   refine h2 j p v U (λe=>?_) hv;subst e;simp only[St.bad,Bool.or_eq_false_iff]at h';exact absurd (by simp) (Zpk (m:=[Zo6 r,Qb3 r,Qb2 r j]) h'.2).2⟩
 el _ _ he:=⟨(Zpk (m:=[Zo6 d,Qb3 d,Qb2 d i]) he).1,λe=>(Zpk (m:=[Zo6 d,Qb3 d,Qb2 d i]) he).2 (by simp[e])⟩
def Q7o{α:Type}(f:List Value->Option (α×List Value)):Nat->List Value->Option (List α×List Value)
 |0,vs=>some ([],vs)
 |n+1,vs=>match f vs with
  |some (x,r)=>match Q7o f n r with
   |some (xs,r')=>some (x::xs,r')
   |none=>none
  |none=>none
def ofC:(T:Ty)->List Value->Option (T.den×List Value)
 |.unit,vs=>some ((),vs)
 |.int k,vs=>match vs with|.int k' n::r=>if k'=k then some (n,r)else none|_=>none
 |.bool,vs=>match vs with|.bool b::r=>some (b,r)|_=>none
 |.fnc _,_=>none
 |.str,vs=>match vs with|.string s::r=>some (s.data.toList,r)|_=>none
 |.slice _ _,vs=>match vs with|.slice none 0 0::r=>some ([],r)|_=>none
 |.pair a b,vs=>match ofC a vs with
  |some (x,r)=>match ofC b r with
   |some (y,r')=>some ((x,y),r')
   |none=>none
  |none=>none
 |.arr n t,vs=>Q7o (ofC t) n vs
 |.err,vs=>match vs with|.nilIface::r=>some (true,r)|_=>none
 |.hid _,_=>none
 |.sptr ..,_=>none
 |.clo ..,_=>none
def Z97(T:Ty)(v:Value):Option T.den:=
 match(match T with
  |.unit|.pair .. |.arr .. =>(match v with|.agg cs=>some cs.toList|_=>none)
  |_=>some [v])with
 |some vs=>match ofC T vs with
  |some (x,[])=>some x
  |_=>none
 |none=>none
def zero:(T:Ty)->T.den|.unit=>()|.int _=>(0:Int)|.bool=>false|.fnc _=>()|.str=>[]|.slice _ _=>[]|.pair a b=>(zero a,zero b)|.arr n t=>List.replicate n (zero t)|.err=>true|.hid _=>()|.sptr _ t=>zero t|.clo _ t=>zero t
def Zax:Ty->List Value|.unit=>[]|.int k=>[.int k 0]|.bool=>[.bool false]|.fnc f=>[.func (.func f) #[] #[]]|.str=>[.string ⟨#[]⟩]|.slice _ _=>[.slice none 0 0]|.pair a b=>Zax a++Zax b|.arr n t=>(List.replicate n (Zax t)).flatten|.err=>[.nilIface]|.hid t=>(Zax t).take 1|.sptr .. =>[.pointer none]|.clo f _=>[.func (.func f) #[] #[]]
theorem Q1b(e:TypeId)(sz:Nat):hdr w X B own e sz 0 (.slice none 0 0) [] []:=by
 cases own
 ·exact⟨rfl,by simp,none,0,rfl,Nat.le_refl _,by simp[maxLen],.inl ⟨rfl,rfl,rfl⟩⟩
 ·exact⟨World.ownsRow_nil _ _ _ _,rfl⟩
theorem Q10{α:Type}{f:List Value->Option (α×List Value)}{r:α->List Value->List Nat->Prop}(hf:∀vs x q,f vs=some (x,q)-> ∃v1,vs=v1++q/\r x v1 []):
  ∀{n:Nat}{vs:List Value}{xs:List α}{q:List Value},Q7o f n vs=some (xs,q)-> ∃v1,vs=v1++q/\xs.length=n/\Zc2 r xs v1 []
 |0,vs,xs,q,h=>by simp only[Q7o,Osi,Opi]at h;obtain⟨rfl,rfl⟩:=h;exact⟨[],rfl,rfl,rfl,rfl⟩
 |n+1,vs,xs,q,h=>by
  simp only[Q7o]at h;split at h
  ·rename_i x j b;split at h
   ·rename_i c k d;simp only[Osi,Opi]at h;obtain⟨rfl,rfl⟩:=h;obtain⟨v1,rfl,e⟩:=hf _ _ _ b;obtain⟨a,rfl,g,i⟩:=Q10 hf d;exact⟨v1++a,by simp,by simp[g],v1,a,[],[],rfl,rfl,e,i⟩
   ·cases h
  ·cases h
theorem Xez:∀{T:Ty}{vs:List Value}{x:T.den}{q:List Value},ofC T vs=some (x,q)-> ∃v1,vs=v1++q/\rd w X B own T x v1 []:=by
 intro T
 induction T with
 |unit=>intro vs x q h;simp only[ofC,Osi,Opi]at h;obtain⟨_,rfl⟩:=h;exact⟨[],rfl,rfl,rfl⟩
 |int k=>
  intro vs x q h;simp only[ofC]at h;split at h
  ·rename_i u m r;split at h
   ·rename_i e;subst e;simp only[Osi,Opi]at h;obtain⟨rfl,rfl⟩:=h;exact⟨[_],rfl,rfl,rfl⟩
   ·cases h
  ·cases h
 |bool=>
  intro vs x q h;simp only[ofC]at h;split at h
  ·simp only[Osi,Opi]at h;obtain⟨rfl,rfl⟩:=h;exact⟨[_],rfl,rfl,rfl⟩
  ·cases h
 |fnc f=>simp_all[ofC]
 |hid t=>simp_all[ofC]
 |sptr e t=>simp_all[ofC]
 |clo f t=>simp_all[ofC]
 |err=>
  intro vs x q h;simp only[ofC]at h;split at h
  ·simp only[Osi,Opi]at h;obtain⟨rfl,rfl⟩:=h;exact⟨[_],rfl,⟨_,rfl,rfl,by simp⟩,rfl⟩
  ·cases h
 |str=>
  intro vs x q h;simp only[ofC]at h;split at h
  ·simp only[Osi,Opi]at h;obtain⟨rfl,rfl⟩:=h;exact⟨[_],rfl,rfl,rfl⟩
  ·cases h
 |slice e t j=>
  intro vs x q h;simp only[ofC]at h;split at h
  ·simp only[Osi,Opi]at h;obtain⟨rfl,rfl⟩:=h;exact⟨[_],rfl,_,[],[],[],rfl,rfl,Q1b _ _,rfl,rfl⟩
  ·cases h
 |pair a b c d=>
  intro vs x q h;simp only[ofC]at h;split at h
  ·rename_i v y g;split at h
   ·rename_i z A i;simp only[Osi,Opi]at h;obtain⟨rfl,rfl⟩:=h;obtain⟨v1,rfl,o⟩:=c g;obtain⟨l,rfl,p⟩:=d i;exact⟨v1++l,by simp,v1,l,[],[],rfl,rfl,o,p⟩
   ·cases h
  ·cases h
 |arr n t j=>
  intro vs x q h;obtain⟨v1,g,i,s⟩:=Q10 (r:=rd w X B own t) (λvs x q h=>j h) h;exact⟨v1,g,i,s⟩
theorem Z00{T:Ty}{v:Value}{x:T.den}(h:Z97 T v=some x):∃vs,v=Yz T vs/\rd w X B own T x vs []:=by
 unfold Z97 at h;split at h
 ·rename_i vs hv;split at h
  ·rename_i y b;simp only[Osi]at h;subst h;obtain⟨d,a,c⟩:=Xez (w:=w) (X:=X) (B:=B) (own:=own) b;simp only[List.append_nil]at a;subst a;refine⟨vs,?_,c⟩;cases T<;>simp only[Yz]at hv⊢
   all_goals first
    |(simp only[Osi]at hv;subst hv;rfl)
    |(split at hv<;>first|(simp only[Osi]at hv;subst hv;simp)|cases hv)
  ·cases h
 ·cases h
theorem Z1q{α:Type}{r:α->List Value->List Nat->Prop}{z:α}{c:List Value}(h:r z c []):∀n:Nat,Zc2 r (List.replicate n z) (List.replicate n c).flatten []
 |0=>⟨rfl,rfl⟩
 |n+1=>⟨c,(List.replicate n c).flatten,[],[],by rfl,rfl,h,Z1q h n⟩
theorem Zx9:∀{T:Ty},T.plain=true->rd w X B own T (zero T) (Zax T) []
 |.unit,_=>⟨rfl,rfl⟩
 |.int _,_=>⟨rfl,rfl⟩
 |.bool,_=>⟨rfl,rfl⟩
 |.fnc _,_=>⟨rfl,rfl⟩
 |.str,_=>⟨rfl,rfl⟩
 |.slice _ _,_=>⟨_,[],[],[],rfl,rfl,Q1b _ _,rfl,rfl⟩
 |.pair a b,h=>by
  simp only[Ty.plain,Oba]at h;exact⟨_,_,[],[],rfl,rfl,Zx9 h.1,Zx9 h.2⟩
 |.arr n t,h=>⟨by simp[zero],Z1q (Zx9 (by simp_all[Ty.plain])) n⟩
 |.err,_=>⟨⟨_,rfl,rfl,.inl ⟨rfl,rfl⟩⟩,rfl⟩
 |.hid t,h=>by
  simp only[Ty.plain,Oba]at h;have c:=Zx9 h.2;have d:=(Y6 c).trans (Onb h.1);have e:(Zax t).take 1=Zax t:=List.take_of_length_le (by omega);show _/\_
  grind[Zax]
 |.sptr ..,h=>by simp[Ty.plain]at h
 |.clo ..,h=>by simp[Ty.plain]at h
inductive Op1 where
 |cst (v:Value)|fn (f:FuncId)|tm (k:Nat) (t:Tm)|bad
abbrev Ye:=List (Nat×Bool)
def Ye.has(tg:Ye)(g:Nat)(b:Bool):Bool:=tg.any λp=>Nat.beq p.1 g&&(match p.2,b with|true,true=>true|false,false=>true|_,_=>false)
def Z3b(s:St)(tg:Ye):Tm->Tm
 |.gd g b t=>match s.foul g with
  |true=>.junk
  |false=>match tg.has g b with|true=>t|false=>.junk
 |t=>t
def op1(s:St)(tg:Ye):Operand->Op1
 |.const v=>.cst v
 |.func f=>.fn f
 |.tmp k=>match Nat.blt k 1048576 with|true=>.tm k (Z3b s tg (s.get (.m k)))|false=>.bad
 |.global _=>.bad
def Ye.ok(tg:Ye)(gh:Nat->Value)(a:Act):Prop:= ∀p∈tg,Q2 gh a (.m p.1)=.bool p.2
theorem Ye.has_ok{tg:Ye}{gh:Nat->Value}{a:Act}(h:tg.ok gh a){g:Nat}{b:Bool}(hh:tg.has g b=true):Q2 gh a (.m g)=.bool b:=by
 unfold Ye.has at hh;rw[List.any_eq_true]at hh;obtain⟨⟨e,f⟩,d,c⟩:=hh;simp only[Oba]at c;obtain⟨i,j⟩:=c;have:=h _ d
 grind[Onb]
theorem Q8l{gh:Nat->Value}{tg:Ye}(ht:tg.ok gh a){v:Value}{S:List Nat}{t:Tm}(h:vt gh w X B s F a v S t)(hj:Z3b s tg t≠ .junk):vt gh w X B s F a v S (Z3b s tg t):=by
 cases t with
 |gd g b t=>
  simp only[Z3b]at hj⊢;cases hf:s.foul g<;>simp only[hf]at hj⊢
  ·cases hh:tg.has g b<;>simp only[hh]at hj⊢
   ·simp_all
   ·exact(h hf).2.1 (Ye.has_ok ht hh)
  simp_all
 |_=>exact h
theorem Yr(W0:Zc6 g)(a:Act){k:Nat}(hk:Nat.blt k 1048576=true):Q2 W0.gh a (.m k)=a.eval (.tmp k):=by
 show Zqf _ _ _=a.tmps.getD k undef;unfold Zqf;rw[Array.getD_eq_getD_getElem?];cases a.tmps[k]? with
 |none=>exact W0.ghU k (by simp_all[big])
 |some v=>rfl
theorem Zpx{tg:Ye}{x:Operand}{k:Nat}{t:Tm}(hx:op1 s tg x=.tm k t):x=.tmp k/\Nat.blt k 1048576=true/\t=Z3b s tg (s.get (.m k)):=by
 cases x with
 |tmp j=>simp only[op1]at hx;grind
 |_=>cases hx
theorem Z23{tg:Ye}{x:Operand}{v:Value}(hx:op1 s tg x=.cst v):x=.const v:=by
 cases x with
 |tmp j=>grind[op1]
 |const u=>cases hx;rfl
 |_=>cases hx
theorem Qt4{tg:Ye}{x:Operand}{f:FuncId}(hx:op1 s tg x=.fn f):x=.func f:=by
 cases x with
 |tmp j=>grind[op1]
 |func u=>cases hx;rfl
 |_=>cases hx
theorem Jx(h:R n W0 w X F H s a){tg:Ye}(ht:tg.ok W0.gh a){x:Operand}{k:Nat}{t:Tm}(hx:op1 s tg x=.tm k t)(hj:t≠ .junk):
  x=.tmp k/\vt W0.gh w X W0.B s F a (a.eval x) (F (.m k)) t:=by
 obtain⟨rfl,b,rfl⟩:=Zpx hx;refine⟨rfl,?_⟩;rw[<-Yr W0 a b];exact Q8l ht (h.slots (.m _)) hj
def Q1s(s:St)(r:Nat)(p:List Nat):Option ((T:Ty)×Fl×T.den):=
 match s.get (.m r)with
 |.val T f x=>match p,f.live with|[],true=>some ⟨T,f,x⟩|_,_=>none
 |.box _ T f x=>match Zh2 T x p with
  |some y=>match(Zo0 f p).live with|true=>some ⟨y.1,Zo0 f p,y.2⟩|false=>none
  |none=>none
 |_=>none
def Zxa(s:St):Op1->Option ((T:Ty)×Fl×T.den)
 |.tm _ (.val T f x)=>match f.live with|true=>some ⟨T,f,x⟩|false=>none
 |.tm _ (.bel r p i q)=>match s.bad r p||s.foul (Zo6 r)with
  |true=>none
  |false=>match Q1s s r p with
   |some ⟨.slice _ t,.u true,l⟩=>match Zh2 t (l.getD i.toNat (zero t)) q with
    |some y=>some ⟨y.1,.u true,y.2⟩
    |none=>none
   |_=>none
 |.tm _ (.bor r p)=>match s.bad r p with
  |true=>none
  |false=>match s.get (.m r)with
   |.val T f x=>match p,f.live with|[],true=>some ⟨T,f,x⟩|_,_=>none
   |.box _ T f x=>match Zh2 T x p with
    |some y=>match(Zo0 f p).live with|true=>some ⟨y.1,Zo0 f p,y.2⟩|false=>none
    |none=>none
   |_=>none
 |.fn f=>some ⟨.fnc f,.u true,()⟩
 |_=>none
def Zbw(s:St)(o:Op1)(T:Ty):Option T.den:=
 match o with
 |.cst v=>Z97 T v
 |o=>match Zxa s o with
  |some ⟨U,_,x⟩=>J8 T U x
  |none=>none
theorem Q8p{vs pre mid post:List Value}(h:vs=pre++(mid++post)){k m:Nat}(hk:pre.length=k)(hm:mid.length=m):(vs.drop k).take m=mid:=by
 simp_all
theorem Qwl(h:R n W0 w X F H s a){r:Nat}{p:List Nat}{v:Value}{U T:Ty}{f:Fl}{y:T.den}(hv:Xw W0.gh w s F a r p v U)(hl:Q1s s r p=some ⟨T,f,y⟩):
  T=U/\f.live=true/\ ∃vs S,v=Yz T vs/\rdF w X W0.B T f y vs S/\S.Sublist (F (.m r)):=by
 unfold Q1s at hl;unfold Xw at hv;have d:=h.slots (.m r);split at hl
 ·rename_i o q t g;rw[g]at hv d;obtain⟨rfl,rfl,hv⟩:=hv;split at hl
  ·rename_i u;simp only[Osi,Sigma.mk.injEq]at hl;obtain⟨rfl,hl⟩:=hl;simp only[heq_eq_eq,Opi]at hl;obtain⟨rfl,rfl⟩:=hl;obtain⟨vs,j,k⟩:=d
   grind
  ·cases hl
 ·rename_i e o q t g;rw[g]at hv d;obtain⟨b,c,S,z,j,k,x,A,C⟩:=hv;obtain⟨D,E,G,I,l,i,J⟩:=d;rw[j]at l;obtain⟨rfl,rfl⟩:=List.cons.inj l;rw[k]at i;simp only[Osi,Obj.cells.injEq]at i;obtain⟨rfl,_⟩:=i;rw[x]at hl;simp only at hl;split at hl
  ·rename_i u;simp only[Osi,Sigma.mk.injEq]at hl;obtain⟨rfl,hl⟩:=hl;simp only[heq_eq_eq,Opi]at hl;obtain⟨rfl,rfl⟩:=hl
   grind[Zjk,Y2]
  ·cases hl
 ·cases hl
theorem Qq2(h:R n W0 w X F H s a){v:Value}{r:Nat}{p:List Nat}{i:Int}{q:List Nat}{S0:List Nat}(hv:vt W0.gh w X W0.B s F a v S0 (.bel r p i q))(h1:s.bad r p=false)(h2:s.foul (Zo6 r)=false)
  {e:TypeId}{t:Ty}{l:List t.den} (hl:Q1s s r p=some ⟨.slice e t,.u true,l⟩) {y:TV} (hy:Zh2 t (l.getD i.toNat (zero t)) q=some y):
  ∃vs S,v=Yz y.1 vs/\rd w X W0.B true y.1 y.2 vs S/\S.Sublist (F (.m r)):=by
 obtain⟨e',t',N,O,o,x0,y0,I,P,k2,k3,k4,Q,U,k7,V⟩:=hv.2 h1 h2;obtain⟨W,_,vs,S,x,J,Y⟩:=Qwl h P hl;cases W;unfold rdF at J;obtain⟨Z,xs,S1,S2,rfl,rfl,q1,q2⟩:=J;have x:Value.slice (some N) O o=Z:=x;subst x;obtain⟨a0,K,d,aa,_,z⟩:=Zgp q1;simp only[Value.slice.injEq]at d;obtain⟨rfl,rfl,rfl⟩:=d;rcases z with⟨k,_⟩|⟨ab,k,_,z⟩
 ·cases k
 simp only[Osi]at k;subst k;have f:i.toNat<l.length:=by omega
 obtain⟨pre,A,L,T1,T2,T3,n1,n2,n3,n4,_⟩:=Zwg (λ_ _ _ h=>Y6 h) (i:=i.toNat) f q2;have e4:l.getD i.toNat (zero t)=l[i.toNat]'f:=by grind
 rw[e4]at hy;have C:rdF w X W0.B t (.u true) l[i.toNat] A T2:=by grind[rdF]
 obtain⟨b,c,D,U1,U2,U3,o1,o2,o3,E,_⟩:=Zjk hy C;obtain⟨y1,M,z2⟩:=Z9y (x':=l[i.toNat]) Q;rw[hy]at M;cases M;have hf:Zo0 (.u true) q=.u true:=by
  have:∀q:List Nat,Zo0 (.u true) q=.u true:=λq=>by
   induction q with
   |nil=>rfl
   |cons j q ih=>grind[Zo0,Zz1]
  exact this q
 rw[hf]at E;unfold rdF at E;refine⟨c,U2,?_,E,List.Sublist.trans ?_ Y⟩
 rotate_left
 ·grind
 rw[U,<-z2];congr 1;apply List.ext_getElem?;intro j;rcases Nat.lt_or_ge j y.1.size with hj|hj
 ·have G:j<I.length:=by grind
  have g:j<c.length:=by grind[Y6]
  have g1:=V j I[j] (List.getElem?_eq_getElem G);have g2:=z (i.toNat*t.size+Wr t q+j) c[j] (by
   rw[n1,<-n3,<-o3,List.getElem?_append_right (by omega),show pre.length+b.length+j-pre.length=b.length+j from by omega,
    List.getElem?_append_left (by grind),o1,List.getElem?_append_right (by omega),show b.length+j-b.length=j from by omega,List.getElem?_append_left g,List.getElem?_eq_getElem g])
  grind
 grind[Y6]
theorem Zji(h:R n W0 w X F H s a){tg:Ye}(ht:tg.ok W0.gh a){x:Operand}{T:Ty}{f:Fl}{y:T.den}(hl:Zxa s (op1 s tg x)=some ⟨T,f,y⟩):
  f.live=true/\ ∃vs S,a.eval x=Yz T vs/\rdF w X W0.B T f y vs S/\(∀b∈S,∃k,b∈F k):=by
 generalize v:op1 s tg x=o at hl;unfold Zxa at hl;split at hl
 ·rename_i k G I J;obtain⟨_,vs,K,Y⟩:=Jx h ht v (by simp)
  grind
 ·rename_i k r p i q;obtain⟨_,hv⟩:=Jx h ht v (by simp);split at hl
  ·cases hl
  ·rename_i j;simp only[Bool.or_eq_false_iff]at j;split at hl
   ·rename_i e t l C;split at hl
    ·rename_i z O;simp only[Osi,Sigma.mk.injEq]at hl;obtain⟨rfl,hl⟩:=hl;simp only[heq_eq_eq,Opi]at hl;obtain⟨rfl,rfl⟩:=hl;obtain⟨vs,S,P,Z,Q⟩:=Qq2 h hv j.1 j.2 C O;exact⟨rfl,vs,S,P,by simp_all[rdF],λb j=>⟨_,Q.subset j⟩⟩
    ·cases hl
   ·cases hl
 ·rename_i k r p;obtain⟨_,h0,K⟩:=Jx h ht v (by simp);split at hl
  ·cases hl
  ·rename_i d;obtain⟨U,u⟩:=K d;unfold Xw at u;have A:=h.slots (.m r);split at hl
   ·rename_i G I J D;rw[D]at u A;obtain⟨rfl,rfl,hv⟩:=u;split at hl
    ·rename_i V;simp only[Osi,Sigma.mk.injEq]at hl;obtain⟨rfl,hl⟩:=hl;simp only[heq_eq_eq,Opi]at hl;obtain⟨rfl,rfl⟩:=hl;obtain⟨vs,L,M⟩:=A
     grind
    ·cases hl
   ·rename_i e G I J D;rw[D]at u A;obtain⟨b,c,S,y',L,M,W,k4,k5⟩:=u;obtain⟨b',c',S',l1,N,E,l4⟩:=A;rw[L]at N;obtain⟨rfl,rfl⟩:=List.cons.inj N;rw[M]at E;simp only[Osi,Obj.cells.injEq]at E;obtain⟨rfl,_⟩:=E;rw[W]at hl;simp only at hl;split at hl
    ·rename_i V;simp only[Osi,Sigma.mk.injEq]at hl;obtain⟨rfl,hl⟩:=hl;simp only[heq_eq_eq,Opi]at hl;obtain⟨rfl,rfl⟩:=hl
     grind[Zjk,Y2]
    ·cases hl
   ·cases hl
 ·rename_i g;simp only[Osi,Sigma.mk.injEq]at hl;obtain⟨rfl,hl⟩:=hl;simp only[heq_eq_eq,Opi]at hl;obtain⟨rfl,_⟩:=hl;obtain rfl:=Qt4 v;exact⟨rfl,[.func (.func g) #[] #[]],[],rfl,by unfold rdF;exact⟨rfl,rfl⟩,by simp⟩
 ·cases hl
theorem Z48{tg:Ye}{k:Nat}{T:Ty}{y:T.den}(hr:Zbw s (op1 s tg (.tmp k)) T=some y):Nat.blt k 1048576=true:=by
 grind[op1,Zbw,Zxa]
theorem Zci(h:R n W0 w X F H s a){tg:Ye}(ht:tg.ok W0.gh a){x:Operand}{T:Ty}{y:T.den}(hr:Zbw s (op1 s tg x) T=some y):
  ∃vs,a.eval x=Yz T vs/\rd w (· <w.heap.size) W0.B false T y vs []:=by
 unfold Zbw at hr;split at hr
 ·rename_i v hv;obtain rfl:=Z23 hv;exact Z00 hr
 ·split at hr
  ·rename_i U f l d;obtain⟨e,vs,S,g,i,j⟩:=Zji h ht d;cases Ze3 hr;exact⟨vs,g,Vc (λb c=>h.xlt b c) e i λb c=>let⟨k,hk⟩:=j b c;(h.own k b hk).2.1⟩
  ·cases hr
def Zq4:Fl->Ty->Bool|.u false,_=>true|.u true,T=>T.flat|.p f g,.pair a b=>Zq4 f a&&Zq4 g b|_,_=>false
theorem Znn:∀{T:Ty}{x:T.den}{vs:List Value}{S:List Nat},rd w X B false T x vs S->S=[]
 |.unit,_,_,_,h|.int _,_,_,_,h|.bool,_,_,_,h|.fnc _,_,_,_,h|.str,_,_,_,h=>h.2
 |.slice _ t,_,_,_,⟨_,_,g,f,_,e,c,d⟩=>by
  have:f=[]:=(Ziy (r:=rd w X B false t) (r':=λ_ _ _=>True) (λx v S h=>⟨Znn h,trivial⟩) d).1;rw[e,c.1,this];rfl
 |.pair a b,_,_,_,⟨j,k,g,f,_,e,c,d⟩=>by rw[e,Znn c,Znn d];rfl
 |.arr n t,_,_,_,⟨_,i⟩=>(Ziy (r:=rd w X B false t) (r':=λ_ _ _=>True) (λx v S h=>⟨Znn h,trivial⟩) i).1
 |.err,_,_,_,h=>h.2
 |.hid _,_,_,_,⟨_,_,h⟩=>Znn h
 |.sptr ..,_,_,_,h=>h.1
 |.clo ..,_,_,_,h=>h.1
theorem Znm:∀{T:Ty}{f:Fl}{x:T.den}{vs:List Value}{S:List Nat},Zq4 f T=true->rdF w X B T f x vs S->S=[]
 |T,.d,_,_,_,c,_=>by grind[Zq4]
 |T,.u false,_,_,_,_,h=>by grind[rdF,Znn]
 |T,.u true,_,_,_,c,h=>by unfold rdF at h;exact(Zgy (X':=X) (own':=true) (w':=w) (by simp_all[Zq4]) h).1
 |.pair a b,.p f g,_,_,_,c,⟨k,l,m,n,_,e,i,j⟩=>by
  simp only[Zq4,Oba]at c;rw[e,Znm c.1 i,Znm c.2 j];rfl
 |.slice ..,.p ..,_,_,_,c,_=>by grind[Zq4]
 |.unit,.p ..,_,_,_,_,h|.int _,.p ..,_,_,_,_,h|.bool,.p ..,_,_,_,_,h|.fnc _,.p ..,_,_,_,_,h|.str,.p ..,_,_,_,_,h|.err,.p ..,_,_,_,_,h|.hid _,.p ..,_,_,_,_,h|.sptr ..,.p ..,_,_,_,_,h|.clo ..,.p ..,_,_,_,_,h|.arr ..,.p ..,_,_,_,_,h=>by simp[rdF]at h
structure Q20 where
 T:Ty
 f:Fl
 x:T.den
 s:St
 moved:Bool
def Qhc(s:St)(o:Op1):Option Q20:=
 match Zxa s o with
 |some ⟨T,f,x⟩=>match Zq4 f T with
  |true=>some ⟨T,f,x,s,false⟩
  |false=>match o with
   |.tm k (.val _ _ _)=>match s.get (.m k)with
    |.val _ _ _=>some ⟨T,f,x,Vv s k .junk,true⟩
    |_=>none
   |.tm _ (.bor r p)=>match s.get (.m r)with
    |.val _ _ _=>some ⟨T,f,x,Vv s r .junk,true⟩
    |.box e U g z=>some ⟨T,f,x,Vv s r (.box e U (Zu0 g p .d) z),true⟩
    |_=>none
   |.tm _ (.bel r _ _ _)=>match s.get (.m r)with
    |.val _ _ _=>some ⟨T,f,x,Vv s r .junk,true⟩
    |_=>none
   |_=>none
 |none=>none
def Zyu(s:St)(o:Op1)(T:Ty):Option Q20:=
 match o with
 |.cst v=>match Z97 T v with|some x=>some ⟨T,.u true,x,s,false⟩|none=>none
 |o=>match Qhc s o with
  |some t=>if t.T=T then some t else none
  |none=>none
theorem R.takeM(h:R n W0 w X F H s a){k:Nat}{T:Ty}{f:Fl}{x:T.den}(hg:s.get (.m k)=.val T f x):
  R n W0 w X (Xb F (.m k) []) (F (.m k)++H) (Vv s k .junk) a:=
 h.turn (S':=[]) h.below (Nat.le_refl _) (λ_ _=>rfl) (λ_ _ _ _=>rfl) (by simp) (by
  simp only[List.nil_append];exact List.nodup_append.2 ⟨h.nodup _,h.hnodup,λx hx y c e=>h.hdisj _ x hx (by rw[e];exact c)⟩) (by rw[hg];simp)
  (λe T f x b S d=>by simp_all) rfl
theorem Qse:∀{p:List Nat}{T:Ty}{x:T.den}{y:TV},Zh2 T x p=some y->Qbk T x p y=some x:=by
 have c:∀{T:Ty}{x:T.den}{i:Nat}{z:TV},fld T x i=some z->Zzh T x i z=some x:=by
  intro T
  induction T with
  |pair a b d e=>
   intro x i z h;cases i with
   |zero=>grind[fld,Zzh,J8]
   |succ i=>simp_all[fld,Zzh]
  |_=>intro x i z h;simp[fld]at h
 intro p
 induction p with
 |nil=>simp_all[Zh2,Qbk,J8]
 |cons i p f=>
  grind[Zh2,Qbk]
theorem R.hsub{H':List Nat}(h:R n W0 w X F H s a)(hs:H'.Sublist H):R n W0 w X F H' s a:=
 {h with
  hown:=λb c=>h.hown b (hs.subset c)
  hnodup:=h.hnodup.sublist hs
  hdisj:=λk b c d=>h.hdisj k b c (hs.subset d)}
theorem Z3c(h:R n W0 w X F H s a){tg:Ye}(ht:tg.ok W0.gh a){x:Operand}{t:Q20}(hk:Qhc s (op1 s tg x)=some t):
  ∃F' S vs,a.eval x=Yz t.T vs/\rdF w X W0.B t.T t.f t.x vs S/\R n W0 w X F' (S++H) t.s a/\(t.moved=false->t.s=s/\F'=F/\S=[])/\t.f.live=true:=by
 unfold Qhc at hk;split at hk
 ·rename_i T f y g;obtain⟨Q,vs,S,h1,h2,h3⟩:=Zji h ht g;split at hk
  ·rename_i hn;simp only[Osi]at hk;subst hk;have hS:=Znm hn h2
   grind
  ·rename_i hn;generalize A:op1 s tg x=o at hk g;split at hk
   ·rename_i k V W O;split at hk
    ·rename_i T2 f2 x2 v;simp only[Osi]at hk;subst hk;have hx:=Jx h ht A (by simp);obtain⟨rfl,_⟩:=hx;have Y:=(Zpx A).2.1;have A:=(Zpx A).2.2;rw[v]at A;simp only[Z3b]at A;cases A;simp only[Zxa]at g;split at g
     ·simp only[Osi,Sigma.mk.injEq]at g;obtain⟨rfl,g⟩:=g;simp only[heq_eq_eq,Opi]at g;obtain⟨rfl,rfl⟩:=g;have C:=h.slots (.m k);rw[v]at C;obtain⟨D,G,I⟩:=C;exact⟨_,F (.m k),D,(Yr W0 a Y).symm.trans G,I,h.takeM v,by simp,Q⟩
     ·cases g
    ·cases hk
   ·rename_i k r p;obtain⟨_,h0,K⟩:=Jx h ht A (by simp);simp only[Zxa]at g;split at g
    ·cases g
    ·rename_i E;obtain⟨U,J⟩:=K E;have C:=h.slots (.m r);split at hk
     ·rename_i V W O v;simp only[v]at g;unfold Xw at J;rw[v]at J C;obtain⟨rfl,rfl,hv⟩:=J;split at g
      ·simp only[Osi,Sigma.mk.injEq]at g;obtain⟨rfl,g⟩:=g;simp only[heq_eq_eq,Opi]at g;obtain⟨rfl,rfl⟩:=g;simp only[Osi]at hk;subst hk;obtain⟨D,G,I⟩:=C;exact⟨_,F (.m r),D,hv.trans G,I,h.takeM v,by simp,Q⟩
      ·cases g
     ·rename_i e V W O v;simp only[v]at g;unfold Xw at J;rw[v]at J C;obtain⟨b,c,S0,y',G,I,Z,k4,k5⟩:=J;obtain⟨b',c',S',l1,l2,l3,l4⟩:=C;rw[G]at l2;obtain⟨rfl,rfl⟩:=List.cons.inj l2;rw[I]at l3;simp only[Osi,Obj.cells.injEq]at l3;obtain⟨rfl,_⟩:=l3;rw[Z]at g;simp only at g;split at g
      ·simp only[Osi,Sigma.mk.injEq]at g;obtain⟨rfl,g⟩:=g;simp only[heq_eq_eq,Opi]at g;obtain⟨rfl,rfl⟩:=g;simp only[Osi]at hk;subst hk;obtain⟨pre,L,ad,M,P,N,m1,m2,m3,m4,m5⟩:=Zjk Z l4;have aa:=h.nodup (.m r);rw[G,m2]at aa;have j:=m5 .d y' L [] O (Qse Z) (by unfold rdF;exact⟨Y2 m4,Zmr m4,rfl⟩);rw[<-m1]at j;simp only[List.nil_append]at j;refine⟨_,P,L,by grind[Y2],m4,
        h.turn (S':=b:: (M++N)) h.below (Nat.le_refl _) (λ_ _=>rfl) (λ_ _ _ _=>rfl) ?_ ?_ (by rw[v];simp) ?_ ⟨b,c,M++N,l1,rfl,I,j⟩,by simp,Q⟩
       ·grind
       ·have h1:(b:: (M++N)++P).Nodup:=by
         have hp:(b:: (M++N)++P).Perm (b:: (M++(P++N))):=by
          grind
         grind
        rw[<-List.append_assoc];refine List.nodup_append.2 ⟨h1,h.hnodup,λz hz u hu e=>?_⟩;subst e;refine h.hdisj (.m r) z ?_ hu
        grind
       grind
      ·cases g
     ·cases hk
   ·rename_i k r p i q;obtain⟨_,hv⟩:=Jx h ht A (by simp);split at hk
    ·rename_i V W O v;simp only[Osi]at hk;subst hk;simp only[Zxa]at g;split at g
     ·cases g
     ·rename_i K;simp only[Bool.or_eq_false_iff]at K;split at g
      ·rename_i e t l ab;split at g
       ·rename_i z hz;simp only[Osi,Sigma.mk.injEq]at g;obtain⟨rfl,g⟩:=g;simp only[heq_eq_eq,Opi]at g;obtain⟨rfl,rfl⟩:=g;obtain⟨vs,S,g1,g2,g3⟩:=Qq2 h hv K.1 K.2 ab hz;exact⟨_,S,vs,g1,by simp_all[rdF],(h.takeM v).hsub (g3.append (List.Sublist.refl _)),by simp,rfl⟩
       ·cases g
      ·cases g
    ·cases hk
   ·cases hk
 ·cases hk
theorem Zea(h:R n W0 w X F H s a){tg:Ye}(ht:tg.ok W0.gh a){x:Operand}{T:Ty}{t:Q20}(hk:Zyu s (op1 s tg x) T=some t):
  t.T=T/\ ∃F' S vs,a.eval x=Yz t.T vs/\rdF w X W0.B t.T t.f t.x vs S/\R n W0 w X F' (S++H) t.s a/\(t.moved=false->t.s=s/\F'=F/\S=[])/\t.f.live=true:=by
 unfold Zyu at hk;split at hk
 ·rename_i v hv;split at hk
  ·rename_i y b;simp only[Osi]at hk;subst hk;obtain rfl:=Z23 hv;obtain⟨vs,c,d⟩:=Z00 (w:=w) (X:=X) (B:=W0.B) (own:=true) b;exact⟨rfl,F,[],vs,c,by simp_all[rdF],h,λ_=>⟨rfl,rfl,rfl⟩,rfl⟩
  ·cases hk
 grind[Z3c]
def St.isBox(s:St)(r:Nat):Prop:= ∃e T f x,s.get (.m r)=.box e T f x
theorem Q4n{o:Op1}{t:Q20}(hk:Qhc s o=some t){r:Nat}(hb:s.isBox r):t.s.isBox r:=by
 obtain⟨e,T,f,x,hb⟩:=hb;have a:∀{k:Nat}{b c d},s.get (.m k)=.val b c d->(Vv s k .junk).isBox r:=by
  intro k b c d hk;have:k≠r:=λg=>by simp_all
  exact⟨e,T,f,x,by simp_all[Ks]⟩
 unfold Qhc at hk;split at hk
 ·split at hk
  ·simp only[Osi]at hk;subst hk;exact⟨e,T,f,x,hb⟩
  ·split at hk
   ·grind
   ·rename_i k p _;split at hk
    ·grind
    ·simp only[Osi]at hk;subst hk;by_cases g:k=r
     ·subst g;exact⟨_,_,_,_,by rw[Ks,if_pos rfl]⟩
     ·exact⟨e,T,f,x,by simp_all[Ks]⟩
    ·cases hk
   all_goals grind
 ·cases hk
theorem Zu8{o:Op1}{T:Ty}{t:Q20}(hk:Zyu s o T=some t){r:Nat}(hb:s.isBox r):t.s.isBox r:=by
 unfold Zyu at hk
 grind[Q4n]
theorem R.boxIn(h:R n W0 w X F H s a){r b:Nat}(hb:s.isBox r)(hv:Q2 W0.gh a (.m r)=.pointer (some ⟨b,0,none⟩)):∃S,F (.m r)=b::S:=by
 obtain⟨e,T,f,x,hb⟩:=hb;have d:=h.slots (.m r);rw[hb]at d;obtain⟨g,c,i,j,k,_⟩:=d;simp_all
def Zcb:Ty->Fl->Fl->Bool|_,.d,.d=>true|_,.u true,.u true=>true|_,.u false,.u false=>true|T,.u _,.u _=>T.flat|.pair A B,.p f1 f2,.p g1 g2=>Zcb A f1 g1&&Zcb B f2 g2|.pair A B,.u b,.p g1 g2=>Zcb A (.u b) g1&&Zcb B (.u b) g2|.pair A B,.p f1 f2,.u b=>Zcb A f1 (.u b)&&Zcb B f2 (.u b)|.slice _ _,.p (.u true) (.u false),.p (.u true) (.u false)=>true|_,_,_=>false
theorem Zms:∀{T:Ty}{f g:Fl}{x:T.den}{vs:List Value}{S:List Nat},Zcb T f g=true->rdF w X B T f x vs S->rdF w X B T g x vs S
 |T,.d,.d,_,_,_,_,h=>h
 |T,.u true,.u true,_,_,_,_,h=>h
 |T,.u false,.u false,_,_,_,_,h=>h
 |T,.u true,.u false,x,vs,S,a,h=>by
  unfold rdF at h⊢;have r:T.flat=true:=by simp_all[Zcb]
  obtain⟨rfl,i⟩:=Zgy (X':=X) (own':=false) (w':=w) r h;exact i
 |T,.u false,.u true,x,vs,S,a,h=>by
  unfold rdF at h⊢;have r:T.flat=true:=by simp_all[Zcb]
  obtain⟨rfl,i⟩:=Zgy (X':=X) (own':=true) (w':=w) r h;exact i
 |.pair A B,.p y z,.p s v,x,vs,S,a,⟨j,k,l,m,n,o,q,i⟩=>by
  simp only[Zcb,Oba]at a;exact⟨j,k,l,m,n,o,Zms a.1 q,Zms a.2 i⟩
 |.pair A B,.u b,.p s v,x,vs,S,a,h=>by
  unfold rdF at h;obtain⟨j,k,l,m,n,o,q,i⟩:=h;simp only[Zcb,Oba]at a;exact⟨j,k,l,m,n,o,Zms a.1 (by simp_all[rdF]),Zms a.2 (by simp_all[rdF])⟩
 |.pair A B,.p y z,.u b,x,vs,S,a,⟨j,k,l,m,n,o,q,i⟩=>by
  simp only[Zcb,Oba]at a;have C:=Zms a.1 q;have D:=Zms a.2 i;unfold rdF at C D⊢;exact⟨j,k,l,m,n,o,C,D⟩
 |T,.d,.u _,_,_,_,a,_=>by simp_all[Zcb]
 |T,.d,.p ..,_,_,_,a,_=>by simp_all[Zcb]
 |T,.u b,.d,_,_,_,a,_=>by simp_all[Zcb]
 |T,.p ..,.d,_,_,_,a,_=>by simp_all[Zcb]
 |.unit,.p ..,.u _,_,_,_,a,_|.int _,.p ..,.u _,_,_,_,a,_|.bool,.p ..,.u _,_,_,_,a,_|.fnc _,.p ..,.u _,_,_,_,a,_|.str,.p ..,.u _,_,_,_,a,_|.slice ..,.p ..,.u _,_,_,_,a,_|.err,.p ..,.u _,_,_,_,a,_|.hid _,.p ..,.u _,_,_,_,a,_|.sptr ..,.p ..,.u _,_,_,_,a,_|.clo ..,.p ..,.u _,_,_,_,a,_|.arr ..,.p ..,.u _,_,_,_,a,_=>by simp[Zcb]at a
 |.slice e t,.p y z,.p s v,_,_,_,a,h=>by
  obtain⟨rfl,rfl,i⟩:=Zlj h;cases s with
  |u b=>cases b with
   |true=>cases v with
    |u c=>cases c with
     |false=>exact h
     |true=>grind[Zcb]
    |p _ _=>grind[Zcb]
    |d=>grind[Zcb]
   |false=>grind[Zcb]
  |p _ _=>grind[Zcb]
  |d=>grind[Zcb]
 |.unit,.p ..,.p ..,_,_,_,a,_|.int _,.p ..,.p ..,_,_,_,a,_|.bool,.p ..,.p ..,_,_,_,a,_|.fnc _,.p ..,.p ..,_,_,_,a,_|.str,.p ..,.p ..,_,_,_,a,_|.err,.p ..,.p ..,_,_,_,a,_|.hid _,.p ..,.p ..,_,_,_,a,_|.sptr ..,.p ..,.p ..,_,_,_,a,_|.clo ..,.p ..,.p ..,_,_,_,a,_|.arr ..,.p ..,.p ..,_,_,_,a,_=>by simp[Zcb]at a
 |.unit,.u b,.p ..,_,_,_,a,_|.int _,.u b,.p ..,_,_,_,a,_|.bool,.u b,.p ..,_,_,_,a,_|.fnc _,.u b,.p ..,_,_,_,a,_|.str,.u b,.p ..,_,_,_,a,_|.slice ..,.u b,.p ..,_,_,_,a,_|.err,.u b,.p ..,_,_,_,a,_|.hid _,.u b,.p ..,_,_,_,a,_|.sptr ..,.u b,.p ..,_,_,_,a,_|.clo ..,.u b,.p ..,_,_,_,a,_|.arr ..,.u b,.p ..,_,_,_,a,_=>by cases b<;>simp[Zcb]at a
theorem Qwz{T:Ty}{f g:Fl}{x:T.den}{vs:List Value}{S:List Nat}(hs:f=g\/Zcb T f g=true)(h:rdF w X B T f x vs S):rdF w X B T g x vs S:=by
 rcases hs with rfl|hs
 all_goals grind[Zms]
def Zyr(P:Program)(e:TypeId)(T:Ty):Bool:=
 match P.info? e with
 |some i=>(Nat.beq i.size T.size&&T.plain)&&Nat.ble i.bytes 8192
 |none=>false
def Zp4(P:Program):List Field->Ty->Nat->Bool|[],.unit,_=>true|f::fs,.pair a b,off=>Nat.beq f.offset off&&Zyr P f.type a&&Nat.blt 0 a.size&&Zp4 P fs b (off+a.size)|_,_,_=>false
def Q48(P:Program)(e:TypeId)(T:Ty):Bool:=
 match P.underlying e,T with
 |some (.struct _),.unit|some (.struct _),.pair .. |some (.array ..),.arr .. =>true
 |some (.struct _),_|some (.array ..),_=>false
 |some _,.unit|some _,.pair .. |some _,.arr .. =>false
 |some _,_=>true
 |none,_=>false
def Zwi(P:Program)(e:TypeId)(T:Ty):Bool:=
 Zyr P e T&&match T with
  |.int k=>(match P.underlying e with|some (.int k')=>decide (k=k')|_=>false)
  |.bool=>(match P.underlying e with|some .bool=>true|_=>false)
  |.str=>(match P.underlying e with|some .string=>true|_=>false)
  |.slice e' t=>Nat.blt 0 t.size&&(match P.underlying e with|some (.slice e2)=>Nat.beq e' e2|_=>false)
  |.arr n t=>Nat.blt 0 t.size&&(match P.underlying e with|some (.array m e2)=>Nat.beq n m&&(Zyr P e2 t&&Q48 P e2 t)|_=>false)
  |T=>(match P.underlying e with|some (.struct fs)=>Zp4 P fs.toList T 0|_=>false)
structure TOK(P:Program)(e:TypeId)(T:Ty):Prop where
 zero:(P.info? e).map (·.zero)=some (some (Yz T (Zax T)))
 shape:Zwi P e T=true
abbrev Tab:=TypeId->Option Ty
def Tab.ok(τ:Tab)(P:Program):Prop:= ∀e T,τ e=some T->TOK P e T
theorem Zre{P:Program}{e:TypeId}{T:Ty}(h:Zyr P e T=true):∃i,P.info? e=some i/\i.size=T.size/\i.bytes<=8192:=by
 unfold Zyr at h;split at h
 all_goals simp_all
variable {P:Program}{e:TypeId}{T:Ty}
theorem TOK.size(h:TOK P e T):∃i,P.info? e=some i/\i.size=T.size/\i.bytes<=8192/\i.zero=some (Yz T (Zax T)):=by
 have a:=h.shape;unfold Zwi at a;rw[Oba]at a;obtain⟨i,b,c,d⟩:=Zre a.1;have:=h.zero;simp_all
theorem TOK.plain(h:TOK P e T):T.plain=true:=by
 have a:=h.shape;unfold Zwi at a;rw[Oba]at a;have b:=a.1;unfold Zyr at b
 grind
theorem TOK.int{k:IntKind}(h:TOK P e (.int k)):P.underlying e=some (.int k):=by
 have a:=h.shape;unfold Zwi at a
 grind
theorem TOK.bool(h:TOK P e .bool):P.underlying e=some .bool:=by
 have a:=h.shape;unfold Zwi at a
 grind
theorem TOK.str(h:TOK P e .str):P.underlying e=some .string:=by
 have a:=h.shape;unfold Zwi at a
 grind
theorem TOK.slice{e':TypeId}{t:Ty}(h:TOK P e (.slice e' t)):P.underlying e=some (.slice e')/\0<t.size:=by
 have a:=h.shape;unfold Zwi at a;rw[Oba]at a;have b:=a.2;simp only[Oba,Nat.blt_eq]at b
 grind[Onb]
theorem TOK.arr'{n:Nat}{t:Ty}(h:TOK P e (.arr n t)):0<t.size/\ ∃e2,P.underlying e=some (.array n e2)/\Zyr P e2 t=true/\Q48 P e2 t=true:=by
 have b:=h.shape;unfold Zwi at b;rw[Oba]at b;have a:=b.2;simp only[Oba,Nat.blt_eq]at a;refine⟨a.1,?_⟩;have a:=a.2;split at a
 all_goals simp_all
theorem TOK.arr{n:Nat}{t:Ty}(h:TOK P e (.arr n t)):0<t.size/\ ∃e2,P.underlying e=some (.array n e2)/\Zyr P e2 t=true:=
 let⟨h1,e2,h2,h3,_⟩:=h.arr';⟨h1,e2,h2,h3⟩
def Ty.isStruct:Ty->Bool|.unit|.pair .. =>true|_=>false
def Ty.isAgg:Ty->Bool|.unit|.pair .. |.arr .. =>true|_=>false
theorem TOK.struct(h:TOK P e T)(hs:T.isStruct=true):∃fs,P.underlying e=some (.struct fs)/\Zp4 P fs.toList T 0=true:=by
 have a:=h.shape;unfold Zwi at a;rw[Oba]at a
 grind[Ty.isStruct]
theorem Qvp:∀{fs:List Field}{T:Ty}{off i:Nat}{U:Ty},Zp4 P fs T off=true->Z4a T i=some U->
  ∃f,fs[i]? =some f/\f.offset=off+Zj9 T i/\Zyr P f.type U=true/\0<U.size:=by
 intro fs
 induction fs with
 |nil=>
  grind[Zp4,Z4a]
 |cons f fs c=>
  intro T off i U h d;cases T<;>simp only[Zp4]at h<;>first|cases h|skip
  rename_i a b;simp only[Oba,Nat.blt_eq]at h;obtain⟨⟨⟨g,j⟩,k⟩,e⟩:=h;cases i with
  |zero=>
   simp_all[Z4a,Zj9]
  |succ i=>
   obtain⟨l,m,n,o⟩:=c e d
   grind[Zj9]
theorem TOK.nofnc{f:FuncId}(h:TOK P e (.fnc f)):False:=by
 have:=h.shape;unfold Zwi at this;simp only[Oba]at this
 grind[Zp4]
theorem TOK.noerr(h:TOK P e .err):False:=by
 have:=h.shape;unfold Zwi at this;simp only[Oba]at this
 grind[Zp4]
theorem TOK.nohid{t:Ty}(h:TOK P e (.hid t)):False:=by
 have:=h.shape;unfold Zwi at this;simp only[Oba]at this
 grind[Zp4]
theorem TOK.nosptr{e2:TypeId}{t:Ty}(h:TOK P e (.sptr e2 t)):False:=by
 have:=h.shape;unfold Zwi at this;simp only[Oba]at this
 grind[Zp4]
theorem TOK.noclo{f:FuncId}{t:Ty}(h:TOK P e (.clo f t)):False:=by
 have:=h.shape;unfold Zwi at this;simp only[Oba]at this
 grind[Zp4]
theorem TOK.isAgg(h:TOK P e T)(w:World):(isAgg e).run P w=.ok T.isAgg w:=by
 cases T with
 |int k=>simp[Go.isAgg,run_underlying h.int,Ty.isAgg]
 |bool=>simp[Go.isAgg,run_underlying h.bool,Ty.isAgg]
 |str=>simp[Go.isAgg,run_underlying h.str,Ty.isAgg]
 |fnc f=>exact h.nofnc.elim
 |err=>exact h.noerr.elim
 |hid t=>exact h.nohid.elim
 |sptr e t=>exact h.nosptr.elim
 |clo f t=>exact h.noclo.elim
 |slice g t=>simp[Go.isAgg,run_underlying h.slice.1,Ty.isAgg]
 |arr n t=>obtain⟨_,i,c,_⟩:=h.arr;simp[Go.isAgg,run_underlying c,Ty.isAgg]
 |unit=>obtain⟨d,c,_⟩:=h.struct rfl;simp[Go.isAgg,run_underlying c,Ty.isAgg]
 |pair a b=>obtain⟨d,c,_⟩:=h.struct rfl;simp[Go.isAgg,run_underlying c,Ty.isAgg]
theorem Q49(h:Q48 P e T=true)(w:World):(Go.isAgg e).run P w=.ok T.isAgg w:=by
 unfold Q48 at h;cases hu:P.underlying e with
 |none=>simp_all
 |some d=>
  rw[hu]at h;cases d<;>cases T<;>simp at h<;>simp[Go.isAgg,run_underlying hu,Ty.isAgg]
theorem TOK.sizeOf(h:TOK P e T)(w:World):(sizeOf e).run P w=.ok T.size w:=by
 obtain⟨i,a,b,_⟩:=h.size;simp_all[Go.sizeOf,typeInfo]
theorem Qg9(h:T.isAgg=false):T.size=1:=by cases T<;>simp[Ty.isAgg]at h<;>rfl
theorem TOK.load(h:TOK P e T){w:World}{ad:Addr}{vs:List Value}(hl:vs.length=T.size)(hc:∀j u,vs[j]? =some u->w.cell? (ad.add j)=some u):
  (loadVar e ad).run P w=.ok (Yz T vs) w:=by
 unfold loadVar;simp only[Sem.run_bind,h.isAgg w,Result.andThen_ok];cases ha:T.isAgg
 ·have a:=Qg9 ha;rw[a]at hl;obtain⟨v,rfl⟩:=List.length_eq_one_iff.1 hl;have:=hc 0 v rfl;simp only[Addr.add_zero']at this;have b:Yz T [v]=v:=by cases T<;>simp[Ty.isAgg]at ha<;>rfl
  simp[this,b]
 ·simp only[if_true,Sem.run_bind,h.sizeOf w,Result.andThen_ok];have:=run_loadCells_list (P:=P) (w:=w) ad vs hc;rw[hl]at this;rw[this];cases T<;>simp[Ty.isAgg]at ha<;>rfl
theorem Z56{vs:List Value}(h1:∀u∈vs,u.oneCell'=true)(hl:vs.length=T.size):(Yz T vs).cells.toList=vs:=by
 cases ha:T.isAgg
 ·rw[Qg9 ha]at hl;obtain⟨v,rfl⟩:=List.length_eq_one_iff.1 hl;have a:Yz T [v]=v:=by cases T<;>simp[Ty.isAgg]at ha<;>rfl
  rw[a];have:=h1 v (by simp);cases v<;>simp[Value.oneCell']at this<;>rfl
 ·cases T<;>simp[Ty.isAgg]at ha<;>simp[Yz,Value.cells]
abbrev Ob:=Option Prop
def Ob.ok:Ob->Prop|none=>True|some p=>p
structure Res where
 t:Tm
 s:St
 moved:Bool
 obl:Ob
def Old(w w':World):Prop:= ∀k,k<w.heap.size->w'.heap[k]? =w.heap[k]?
theorem Old.refl(w:World):Old w w:=λ_ _=>rfl
theorem Old.cell{w w':World}(h:Old w w'){ad:Addr}{u:Value}(hc:w.cell? ad=some u):w'.cell? ad=some u:=by
 have a:ad.block<w.heap.size:=by
  grind[World.cell?]
 rw[World.cell?_of_block (w:=w) (h _ a)];exact hc
theorem Old.alloc(w:World)(ob:Obj):Old w (w.alloc ob):=λk hk=>by
 show(w.heap.push ob)[k]? =w.heap[k]?
 grind
def Qk3(gh:Nat->Value)(X:Nat->Prop)(s:St)(a:Act)(tgt:Option Nat)(w w':World):Prop:=∀b,(X b\/ ∃r,s.isBox r/\tgt≠some r/\Q2 gh a (.m r)=.pointer (some ⟨b,0,none⟩))->w'.heap[b]? =w.heap[b]?
theorem R.kept{g:Kx}{n:Nat}{W0:Zc6 g}{w w':World}{X:Nat->Prop}{F:Key->List Nat}{H:List Nat}{s:St}{a:Act}(h:R n W0 w X F H s a)(ho:Old w w'){tgt:Option Nat}:Qk3 W0.gh X s a tgt w w':=λb c=>ho b (by
 rcases c with c|⟨r,d,_,e⟩
 ·exact h.xlt b c
 ·obtain⟨S,f⟩:=h.boxIn d e;exact(h.own (.m r) b (by rw[f];simp)).2.1)
def Qzn:Op->Bool|.store .. =>false|.call {callee:=.builtin .append,..}=>false|_=>true
def Zve(P:Program){g:Kx}(n:Nat)(W0:Zc6 g)(w:World)(X:Nat->Prop)(H:List Nat)(s:St)(a:Act)(o:Oper)(r:Res):Prop:=r.obl.ok-> ∀(K:Act->World->Prop)(Q:Exit->Act->World->Prop),(∀v X' F' S w',(∀b,X b->X' b)->R n W0 w' X' F' (S++H) r.s a->vt W0.gh w' X' W0.B r.s F' a v S r.t->(r.moved=false->r.s=s)->(Qzn o.op=true->Old w w')/\Qk3 W0.gh X s a none w w'->K (a.put o.dst v) w')->o.wp P a w K Q
variable {o:Oper}{tg:Ye}{τ:Tab}
def Q7e(τ:Tab):Op->Bool
 |.load .. =>true
 |.convert e _ _=>match τ e with|some (.slice _ _)=>true|_=>false
 |_=>false
def Z14(s:St):Op->Option (Option Nat)
 |.load _ (.tmp k)=>
  let rec go:Tm->Option (Option Nat)
   |.ptr r _=>some (some r)
   |.aep r _ _=>some (some r)
   |.pls _ _=>some none
   |.shp _ _=>some none
   |.gd _ _ t=>go t
   |.box _ _ _ _=>some (some k)
   |_=>none
  go (s.get (.m k))
 |_=>none
theorem Zqp{s:St}{tg:Ye}{e:TypeId}{k k':Nat}{t:Tm}(h:op1 s tg (.tmp k)=.tm k' t)(hj:t≠ .junk):Z14 s (.load e (.tmp k))=Z14.go k t:=by
 obtain⟨e,_,h⟩:=Zpx h;cases e;have h:=h.symm;simp only[Z14];cases hg:s.get (.m k)<;>rw[hg]at h<;>simp only[Z3b]at h<;>first|(subst h;rfl)|skip
 split at h
 ·simp_all
 ·split at h
  ·subst h;rfl
  simp_all
def Dep(gh:Nat->Value)(τ:Tab)(X:Nat->Prop)(s:St)(a:Act)(o:Oper)(w w':World):Prop:=Q7e τ o.op=true->match Z14 s o.op with
 |some (some r)=> ∀b,b<w.heap.size->Q2 gh a (.m r)=.pointer (some ⟨b,0,none⟩)->w'.heap[b]? =w.heap[b]?
 |some none=> ∀b,b<w.heap.size->X b->w'.heap[b]? =w.heap[b]?
 |none=>Old w w'
theorem Dep.refl(gh:Nat->Value)(τ:Tab)(X:Nat->Prop)(s:St)(a:Act)(o:Oper)(w:World):Dep gh τ X s a o w w:=by
 intro _;split
 all_goals simp_all[Old.refl]
def Zeb(P:Program)(τ:Tab){g:Kx}(W0:Zc6 g)(w:World)(X:Nat->Prop)(F:Key->List Nat)(s:St)(a:Act)(o:Oper)(r:Res):Prop:=r.s=s/\(r.obl.ok-> ∃v,(∀w',Dep W0.gh τ X s a o w w'->(execOp a.eval o).run P w'=.ok (.value v) w')/\vt W0.gh w X W0.B s F a v [] r.t)
theorem Ku{r:Res}(hs:r.s=s)(hr:r.obl.ok-> ∃v,(∀w',Dep W0.gh τ X s a o w w'->(execOp a.eval o).run P w'=.ok (.value v) w')/\vt W0.gh w X W0.B s F a v [] r.t):Zeb P τ W0 w X F s a o r:=⟨hs,hr⟩
theorem Zui{r:Res}(h:R n W0 w X F H s a)(hs:r.s=s)(hr:r.obl.ok-> ∃v,(execOp a.eval o).run P w=.ok (.value v) w/\vt W0.gh w X W0.B s F a v [] r.t):Zve P n W0 w X H s a o r:=by
 intro b K Q c;obtain⟨v,d,e⟩:=hr b;unfold Oper.wp;rw[d];exact c v X F [] w (λ_ h=>h) (by rw[hs];exact h) (by rw[hs];exact e) (λ_=>hs) ⟨λ_=>Old.refl w,h.kept (Old.refl w)⟩
theorem Zeb.sound{r:Res}(hp:Zeb P τ W0 w X F s a o r)(h:R n W0 w X F H s a):Zve P n W0 w X H s a o r:=Zui h hp.1 λb=>let⟨v,h1,h2⟩:=hp.2 b;⟨v,h1 w (Dep.refl _ _ _ _ _ _ w),h2⟩
def Z9u(s:St)(k:Nat)(t:Tm):Option Res:=
 match t with
 |.val T f x=>match f.live,Zq4 f T with
  |true,true=>some ⟨.val T f x,s,false,none⟩
  |true,false=>match s.get (.m k)with
   |.val _ _ _=>some ⟨.bor k [],s,false,none⟩
   |_=>none
  |_,_=>none
 |.box _ _ _ _=>match s.get (.m k)with
  |.box _ _ _ _=>some ⟨.ptr k [],s,false,none⟩
  |_=>none
 |.ptr r p=>some ⟨.ptr r p,s,false,none⟩
 |.shp T x=>some ⟨.shp T x,s,false,none⟩
 |.bor r p=>some ⟨.bor r p,s,false,none⟩
 |.elp r p i q=>some ⟨.elp r p i q,s,false,none⟩
 |.aep r p i=>some ⟨.aep r p i,s,false,none⟩
 |.pls h l=>some ⟨.pls h l,s,false,none⟩
 |.bel r p i q=>some ⟨.bel r p i q,s,false,none⟩
 |.cl f l=>some ⟨.cl f l,s,false,none⟩
 |_=>none
def Q6z:Value->Bool|.pointer none=>true|_=>false
def Qs3(τ:Tab)(s:St)(e:TypeId)(v:Value):Option Res:=
 match Q6z v with
 |true=>some ⟨.junk,s,false,none⟩
 |false=>match τ e with
  |some T=>match Z97 T v with
   |some x=>some ⟨.val T (.u true) x,s,false,none⟩
   |none=>none
  |none=>none
theorem Z5i{e:TypeId}{v:Value}{r:Res}(hr:Qs3 τ s e v=some r):r.s=s/\vt gh w X B s F a v [] r.t:=by
 unfold Qs3 at hr;split at hr
 ·simp only[Osi]at hr;subst hr;exact⟨rfl,rfl⟩
 ·split at hr
  ·split at hr
   ·rename_i T _ x hx;simp only[Osi]at hr;subst hr;obtain⟨b,c,d⟩:=Z00 (w:=w) (X:=X) (B:=B) (own:=true) hx;exact⟨rfl,b,c,by simp_all[rdF]⟩
   ·cases hr
  ·cases hr
theorem Qxs(_h:R n W0 w X F H s a){k:Nat}{T:Ty}{f:Fl}{x:T.den}(hg:s.get (.m k)=.val T f x):Xw W0.gh w s F a k [] (Q2 W0.gh a (.m k)) T:=by
 simp_all[Xw]
theorem Zxm(h:R n W0 w X F H s a)(ht:tg.ok W0.gh a){x:Operand}{k:Nat}{t:Tm}(hx:op1 s tg x=.tm k t){r:Res}(hr:Z9u s k t=some r):
  r.s=s/\vt W0.gh w X W0.B s F a (a.eval x) [] r.t:=by
 have j:t≠ .junk:=by grind[Z9u]
 obtain⟨rfl,hv⟩:=Jx h ht hx j;unfold Z9u at hr;split at hr
 ·rename_i T f y;split at hr
  ·rename_i _ _ l;simp only[Osi]at hr;subst hr;obtain⟨m,i,d⟩:=hv;have:=Znm l d;rw[this]at d;exact⟨rfl,m,i,d⟩
  ·split at hr
   ·rename_i g;simp only[Osi]at hr;subst hr;exact⟨rfl,rfl,λ_=>⟨_,(Yr W0 a (Zpx hx).2.1)▸Qxs h g⟩⟩
   ·cases hr
  ·cases hr
 ·rename_i e T f y;split at hr
  ·rename_i o p q u g;simp only[Osi]at hr;subst hr;have hx:=(Zpx hx).2.2;simp only[g,Z3b]at hx;cases hx;obtain⟨b,c,S,i,d,v,z⟩:=hv;exact⟨rfl,rfl,_,_,_,_,b,S,g,d,i⟩
  ·cases hr
 ·simp only[Osi]at hr;subst hr;exact⟨rfl,hv.1▸hv⟩
 ·simp only[Osi]at hr;subst hr;exact⟨rfl,hv.1▸hv⟩
 ·simp only[Osi]at hr;subst hr;exact⟨rfl,hv.1▸hv⟩
 ·simp only[Osi]at hr;subst hr;exact⟨rfl,hv.1▸hv⟩
 ·simp only[Osi]at hr;subst hr;exact⟨rfl,hv.1▸hv⟩
 ·simp only[Osi]at hr;subst hr;exact⟨rfl,hv.1▸hv⟩
 ·simp only[Osi]at hr;subst hr;exact⟨rfl,hv.1▸hv⟩
 ·simp only[Osi]at hr;subst hr;exact⟨rfl,hv.1▸hv⟩
 ·cases hr
def Z5z(τ:Tab)(s:St)(tg:Ye)(e:TypeId)(x:Operand):Option Res:=
 match op1 s tg x with
 |.cst v=>Qs3 τ s e v
 |.fn f=>some ⟨.val (.fnc f) (.u true) (),s,false,none⟩
 |.tm k t=>Z9u s k t
 |_=>none
theorem Qux(f:FuncId):vt gh w X B s F a (.func (.func f) #[] #[]) [] (.val (.fnc f) (.u own) ()):=⟨[_],rfl,by unfold rdF;exact⟨rfl,rfl⟩⟩
theorem Q7j(h:R n W0 w X F H s a)(ht:tg.ok W0.gh a){e:TypeId}{x:Operand}{r:Res}(hr:Z5z τ s tg e x=some r):r.s=s/\vt W0.gh w X W0.B s F a (a.eval x) [] r.t:=by
 unfold Z5z at hr;split at hr
 ·rename_i v hv;obtain rfl:=Z23 hv;exact Z5i hr
 ·rename_i f hv;obtain rfl:=Qt4 hv;simp only[Osi]at hr;subst hr;exact⟨rfl,Qux f⟩
 all_goals grind[Zxm]
theorem Z3q(h:R n W0 w X F H s a)(ht:tg.ok W0.gh a){x:Operand}(ho:o.op=.move x){r:Res}(hr:Z5z τ s tg o.type x=some r):Zeb P τ W0 w X F s a o r:=by
 have b:=Q7j h ht hr;exact Ku b.1 λ_=>⟨_,λc _=>by simp[execOp,ho],b.2⟩
def Z0i(τ:Tab)(s:St)(tg:Ye)(e:TypeId)(x:Operand):Option Res:=
 match op1 s tg x with
 |.cst v=>Qs3 τ s e v
 |.fn f=>some ⟨.val (.fnc f) (.u true) (),s,false,none⟩
 |.tm k t=>match t with
  |.val _ _ _|.bor _ _=>match Qhc s (.tm k t)with
   |some u=>some ⟨.val u.T u.f u.x,u.s,u.moved,none⟩
   |none=>none
  |_=>Z9u s k t
 |_=>none
theorem Qk6(h:R n W0 w X F H s a)(ht:tg.ok W0.gh a){x:Operand}(ho:o.op=.assign x){r:Res}(hr:Z0i τ s tg o.type x=some r):Zve P n W0 w X H s a o r:=by
 unfold Z0i at hr;have d:∀{k t u},op1 s tg x=.tm k t->Qhc s (.tm k t)=some u->Zve P n W0 w X H s a o ⟨.val u.T u.f u.x,u.s,u.moved,none⟩:=by
  intro k t u hx e;rw[<-hx]at e;obtain⟨g,S,i,b,c,j,l,_⟩:=Z3c h ht e;intro _ K Q m;unfold Oper.wp;simp only[execOp,ho,Sem.run_pure];exact m _ X g S w (λ_ h=>h) j ⟨i,b,c⟩ (λp=>(l p).1) ⟨λ_=>Old.refl w,h.kept (Old.refl w)⟩
 split at hr
 ·rename_i v hv;obtain rfl:=Z23 hv;obtain⟨b,c⟩:=Z5i (w:=w) (X:=X) (B:=W0.B) (s:=s) (F:=F) (a:=a) hr;exact Zui h b λ_=>⟨_,by simp[execOp,ho,Act.eval],c⟩
 ·rename_i f hv;obtain rfl:=Qt4 hv;simp only[Osi]at hr;subst hr;exact Zui h rfl λ_=>⟨_,by simp[execOp,ho,Act.eval],Qux f⟩
 ·rename_i k t hx;split at hr
  ·grind
  ·grind
  ·obtain⟨b,c⟩:=Zxm h ht hx hr;exact Zui h b λ_=>⟨_,by simp[execOp,ho],c⟩
 ·cases hr
def Qmi(τ:Tab)(s:St)(tg:Ye)(e:TypeId)(c x y:Operand):Option Res:=
 match τ e,c with
 |some T,.tmp k=>match T.flat,Zbw s (op1 s tg c) .bool,Zbw s (op1 s ((k,true)::tg) x) T,Zbw s (op1 s ((k,false)::tg) y) T with
  |true,some b,some u,some v=>some ⟨.val T (.u false) (match b with|true=>u|false=>v),s,false,none⟩
  |_,_,_,_=>none
 |_,_=>none
theorem Qb5(h:R n W0 w X F H s a)(ht:tg.ok W0.gh a){c x y:Operand}(ho:o.op=.pick c x y){r:Res}(hr:Qmi τ s tg o.type c x y=some r):Zeb P τ W0 w X F s a o r:=by
 unfold Qmi at hr;split at hr
 ·rename_i T k _;split at hr
  ·rename_i b u v A f g hv;simp only[Osi]at hr;subst hr;refine Ku rfl λ_=>?_;obtain⟨e,i,j⟩:=Zci h ht f;obtain⟨rfl,_⟩:=j;have l:Q2 W0.gh a (.m k)=.bool b:=(Yr W0 a (Z48 f)).trans i;have d:Ye.ok ((k,b)::tg) W0.gh a:=λp hp=>by
    rcases List.mem_cons.1 hp with rfl|hp
    ·exact l
    ·exact ht p hp
   cases b
   ·obtain⟨e,q,t⟩:=Zci h d hv;exact⟨_,λz _=>by simp_all[execOp,Yz,asBool],e,rfl,by grind[rdF,Zgy]⟩
   ·obtain⟨e,q,t⟩:=Zci h d g;exact⟨_,λz _=>by simp_all[execOp,Yz,asBool],e,rfl,by grind[rdF,Zgy]⟩
  ·cases hr
 ·cases hr
def Yh:Nat:=4611686018427387904
def Qd:Nat:=17179869184
def Q6x(op:BinOp)(k:IntKind)(x y:Int):Option (TV×Ob):=
 match op with
 |.add=>some (⟨.int k,k.wrap (x+y)⟩,none)
 |.sub=>some (⟨.int k,k.wrap (x-y)⟩,none)
 |.mul=>some (⟨.int k,k.wrap (x*y)⟩,none)
 |.quo=>some (⟨.int k,k.wrap (x.tdiv y)⟩,some (y≠0))
 |.rem=>some (⟨.int k,x.tmod y⟩,some (y≠0))
 |.and=>some (⟨.int k,bits .and k x y⟩,none)
 |.or=>some (⟨.int k,bits .or k x y⟩,none)
 |.xor=>some (⟨.int k,bits .xor k x y⟩,none)
 |.andNot=>some (⟨.int k,bits .andNot k x y⟩,none)
 |.eql=>some (⟨.bool,x==y⟩,none)
 |.neq=>some (⟨.bool,x !=y⟩,none)
 |.lss=>some (⟨.bool,decide (x<y)⟩,none)
 |.leq=>some (⟨.bool,decide (x<=y)⟩,none)
 |.gtr=>some (⟨.bool,decide (x>y)⟩,none)
 |.geq=>some (⟨.bool,decide (x>=y)⟩,none)
 |_=>none
def Q8j(op:BinOp)(x y:List UInt8):Option (TV×Ob):=
 match op with
 |.add=>some (⟨.str,x++y⟩,some (x.length+y.length<=Yh))
 |.eql=>some (⟨.bool,x==y⟩,none)
 |.neq=>some (⟨.bool,!(x==y)⟩,none)
 |.lss=>some (⟨.bool,Op.bytesLess x y⟩,none)
 |.leq=>some (⟨.bool,Op.bytesLess x y||x==y⟩,none)
 |.gtr=>some (⟨.bool,!(Op.bytesLess x y||x==y)⟩,none)
 |.geq=>some (⟨.bool,!(Op.bytesLess x y)⟩,none)
 |_=>none
def Q0l(op:BinOp)(x y:Bool):Option (TV×Ob):=
 match op with
 |.eql=>some (⟨.bool,x==y⟩,none)
 |.neq=>some (⟨.bool,!(x==y)⟩,none)
 |_=>none
def Qxe(op:BinOp)(k:IntKind)(x y:Int):Option (TV×Ob):=
 match op with
 |.shl=>some (⟨.int k,k.wrap (x*2^ (min y.toNat k.bits))⟩,some (0<=y))
 |.shr=>some (⟨.int k,x.fdiv (2^ (min y.toNat k.bits))⟩,some (0<=y))
 |_=>none
def BinOp.isShift:BinOp->Bool|.shl|.shr=>true|_=>false
def Qsw(τ:Tab)(s:St)(tg:Ye)(op:BinOp)(e:TypeId)(x y:Operand)(e2:TypeId):Option Res:=
 match τ e with
 |some (.int k)=>match BinOp.isShift op with
  |true=>match τ e2 with
   |some (.int k2)=>match Zbw s (op1 s tg x) (.int k),Zbw s (op1 s tg y) (.int k2)with
    |some u,some v=>match Qxe op k u v with
     |some (z,p)=>some ⟨.val z.1 (.u false) z.2,s,false,p⟩
     |none=>none
    |_,_=>none
   |_=>none
  |false=>match Zbw s (op1 s tg x) (.int k),Zbw s (op1 s tg y) (.int k)with
   |some u,some v=>match Q6x op k u v with
    |some (z,p)=>some ⟨.val z.1 (.u false) z.2,s,false,p⟩
    |none=>none
   |_,_=>none
 |some .str=>match Zbw s (op1 s tg x) .str,Zbw s (op1 s tg y) .str with
  |some u,some v=>match Q8j op u v with
   |some (z,p)=>some ⟨.val z.1 (.u false) z.2,s,false,p⟩
   |none=>none
  |_,_=>none
 |some .bool=>match Zbw s (op1 s tg x) .bool,Zbw s (op1 s tg y) .bool with
  |some u,some v=>match Q0l op u v with
   |some (z,p)=>some ⟨.val z.1 (.u false) z.2,s,false,p⟩
   |none=>none
  |_,_=>none
 |_=>none
theorem Z30(k:IntKind)(x:Int):vt gh w X B s F a (.int k x) [] (.val (.int k) (.u own) x):=⟨[.int k x],rfl,by unfold rdF;exact⟨rfl,rfl⟩⟩
theorem Zx8(x:Bool):vt gh w X B s F a (.bool x) [] (.val .bool (.u own) x):=⟨[.bool x],rfl,by unfold rdF;exact⟨rfl,rfl⟩⟩
theorem Quy(x:List UInt8):vt gh w X B s F a (.string ⟨⟨x⟩⟩) [] (.val .str (.u own) x):=⟨[.string ⟨⟨x⟩⟩],rfl,by unfold rdF;exact⟨rfl,rfl⟩⟩
theorem Zux(h:R n W0 w X F H s a)(ht:tg.ok W0.gh a){x:Operand}{k:IntKind}{y:Int}(hr:Zbw s (op1 s tg x) (.int k)=some y):a.eval x=.int k y:=by
 obtain⟨d,b,c,_⟩:=Zci h ht hr;rw[b,c];rfl
theorem Zoo(h:R n W0 w X F H s a)(ht:tg.ok W0.gh a){x:Operand}{y:Bool}(hr:Zbw s (op1 s tg x) .bool=some y):a.eval x=.bool y:=by
 obtain⟨d,b,c,_⟩:=Zci h ht hr;rw[b,c];rfl
theorem Z0j(h:R n W0 w X F H s a)(ht:tg.ok W0.gh a){x:Operand}{y:List UInt8}(hr:Zbw s (op1 s tg x) .str=some y):a.eval x=.string ⟨⟨y⟩⟩:=by
 obtain⟨d,b,c,_⟩:=Zci h ht hr;rw[b,c];rfl
theorem Qz7(x y:List UInt8):(ByteArray.mk ⟨x⟩)++(ByteArray.mk ⟨y⟩)=ByteArray.mk ⟨x++y⟩:=by
 rfl
theorem Qep(h:R n W0 w X F H s a)(ht:tg.ok W0.gh a)(hτ:τ.ok P){op:BinOp}{e e2:TypeId}{x y:Operand}(ho:o.op=.binOp op e x y e2){r:Res}(hr:Qsw τ s tg op e x y e2=some r):
  Zeb P τ W0 w X F s a o r:=by
 unfold Qsw at hr;split at hr
 ·rename_i k i;split at hr
  ·split at hr
   ·split at hr
    ·rename_i m _ _ _ u v f hv;split at hr
     ·rename_i z p b;simp only[Osi]at hr;subst hr;refine Ku rfl λc=>?_;have d:=Zux h ht f;have e2:=Zux h ht hv;cases op<;>simp only[Qxe]at b<;>first|cases b|skip
      all_goals
       have j:¬v<0:=Int.not_lt.mpr (show(0:Int)<=v from c)
       (refine⟨_,λg _=>?_,Z30 _ _⟩;simp only[execOp,ho,d,e2];simp[go_sem,Op.shift,j])
     ·cases hr
    ·cases hr
   ·cases hr
  ·split at hr
   ·rename_i u v f hv;split at hr
    ·rename_i z p b;simp only[Osi]at hr;subst hr;refine Ku rfl λc=>?_;have d:=Zux h ht f;have e2:=Zux h ht hv;cases op<;>simp only[Q6x]at b<;>first|cases b|skip
     all_goals first
      |(refine⟨_,λg _=>?_,Z30 _ _⟩;simp only[execOp,ho,d,e2];simp[go_sem,Op.intArith];done)
      |(refine⟨_,λg _=>?_,Zx8 _⟩;simp only[execOp,ho,d,e2];first|(simp[go_sem];done)|(simp[go_sem,binOp,Op.stringOp];done))
      |(have c:v≠0:=c;refine⟨_,λg _=>?_,Z30 _ _⟩;simp only[execOp,ho,d,e2];simp[go_sem,Op.intDiv,c])
    ·cases hr
   ·cases hr
 ·split at hr
  ·rename_i u v f hv;split at hr
   ·rename_i z p b;simp only[Osi]at hr;subst hr;refine Ku rfl λc=>?_;have d:=Z0j h ht f;have e2:=Z0j h ht hv;cases op<;>simp only[Q8j]at b<;>first|cases b|skip
    ·refine⟨.string ⟨⟨u++v⟩⟩,λg _=>?_,Quy _⟩;have c:u.length+v.length<=Yh:=c;unfold Yh at c;simp only[execOp,ho,d,e2];simp[go_sem,binOp,Op.stringOp,Qz7];omega
    all_goals (refine⟨_,λg _=>?_,Zx8 _⟩;simp only[execOp,ho,d,e2];first|(simp[go_sem];done)|(simp[go_sem,binOp,Op.stringOp];done))
   ·cases hr
  ·cases hr
 ·rename_i i;split at hr
  ·rename_i u v f hv;split at hr
   ·rename_i z p b;simp only[Osi]at hr;subst hr;refine Ku rfl λc=>?_;have d:=Zoo h ht f;have e2:=Zoo h ht hv;have l:=(hτ _ _ i).bool;cases op<;>simp only[Q0l]at b<;>first|cases b|skip
    all_goals (refine⟨_,λg _=>?_,Zx8 _⟩;simp only[execOp,ho,d,e2];simp[go_sem,binOp,run_equal_bool g e u v l])
   ·cases hr
  ·cases hr
 ·cases hr
theorem Qec(h:R n W0 w X F H s a){k r:Nat}{p:List Nat}{T:Ty}{f:Fl}{y:T.den}(hl:Zxa s (.tm k (.bor r p))=some ⟨T,f,y⟩){v:Value}{U:Ty}(hU:Xw W0.gh w s F a r p v U):
  s.bad r p=false/\T=U/\f.live=true/\ ∃vs S,v=Yz T vs/\rdF w X W0.B T f y vs S/\(∀b∈S,b∈F (.m r)):=by
 simp only[Zxa]at hl;split at hl
 ·cases hl
 ·rename_i d;refine⟨d,?_⟩;unfold Xw at hU;have g:=h.slots (.m r);split at hl
  ·rename_i t u x i;rw[i]at hU g;obtain⟨rfl,rfl,hv⟩:=hU;split at hl
   ·rename_i z;simp only[Osi,Sigma.mk.injEq]at hl;obtain⟨rfl,hl⟩:=hl;simp only[heq_eq_eq,Opi]at hl;obtain⟨rfl,rfl⟩:=hl;obtain⟨vs,l,o⟩:=g
    grind
   ·cases hl
  ·rename_i e t u x i;rw[i]at hU g;obtain⟨b,c,S,C,l,o,A,D,E⟩:=hU;obtain⟨G,I,J,K,q,j,L⟩:=g;rw[l]at q;obtain⟨rfl,rfl⟩:=List.cons.inj q;rw[o]at j;simp only[Osi,Obj.cells.injEq]at j;obtain⟨rfl,_⟩:=j;rw[A]at hl;simp only at hl;split at hl
   ·rename_i z;simp only[Osi,Sigma.mk.injEq]at hl;obtain⟨rfl,hl⟩:=hl;simp only[heq_eq_eq,Opi]at hl;obtain⟨rfl,rfl⟩:=hl
    grind[Zjk,Y2]
   ·cases hl
  ·cases hl
def Zwf(s:St)(x:Op1):Option (IntKind×Int):=
 match x with
 |.cst (.int k n)=>some (k,n)
 |.cst _=>none
 |x=>match Zxa s x with
  |some ⟨.int k,_,n⟩=>some (k,n)
  |_=>none
theorem Zih(h:R n W0 w X F H s a)(ht:tg.ok W0.gh a){x:Operand}{k:IntKind}{y:Int}(hr:Zwf s (op1 s tg x)=some (k,y)):a.eval x=.int k y:=by
 unfold Zwf at hr;split at hr
 ·rename_i v hv;simp only[Osi,Opi]at hr;obtain⟨rfl,rfl⟩:=hr;obtain rfl:=Z23 hv;rfl
 ·cases hr
 ·split at hr
  ·rename_i j f l e;simp only[Osi,Opi]at hr;obtain⟨rfl,rfl⟩:=hr;obtain⟨_,m,S,i,c,_⟩:=Zji h ht e;cases f with
   |u b=>unfold rdF at c;rw[i,c.1];rfl
   |p f g=>exact c.elim
   |d=>simp[Fl.live]at*
  ·cases hr
def Z9f(s:St)(x:Op1):Option ((_:TypeId)×(t:Ty)×Bool×List t.den):=
 match Zxa s x with
 |some ⟨.slice e t,.u b,l⟩=>some ⟨e,t,b,l⟩
 |_=>none
theorem Z0c(h:R n W0 w X F H s a)(ht:tg.ok W0.gh a){x:Operand}{e:TypeId}{t:Ty}{b:Bool}{l:List t.den}(hr:Z9f s (op1 s tg x)=some ⟨e,t,b,l⟩):
  ∃v xs S1 S2,a.eval x=v/\hdr w X W0.B b e t.size l.length v xs S1/\Zc2 (rd w X W0.B b t) l xs S2/\ ∀b'∈S1++S2,∃k,b'∈F k:=by
 unfold Z9f at hr;split at hr
 ·rename_i m o b' p d;simp only[Osi,Sigma.mk.injEq]at hr;obtain⟨rfl,hr⟩:=hr;simp only[heq_eq_eq,Sigma.mk.injEq]at hr;obtain⟨rfl,hr⟩:=hr;simp only[heq_eq_eq,Opi]at hr;obtain⟨rfl,rfl⟩:=hr;obtain⟨_,q,S,f,c,g⟩:=Zji h ht d;unfold rdF at c;obtain⟨v,xs,S1,S2,rfl,rfl,i,j⟩:=c;exact⟨v,xs,S1,S2,f,i,j,g⟩
 ·cases hr
def Q2r(τ:Tab)(s:St)(tg:Ye)(op:UnOp)(e:TypeId)(x:Operand):Option Res:=
 match op,τ e with
 |.not,some .bool=>match Zbw s (op1 s tg x) .bool with
  |some u=>some ⟨.val .bool (.u false) (!u),s,false,none⟩
  |none=>none
 |.neg,some (.int k)=>match Zbw s (op1 s tg x) (.int k)with
  |some u=>some ⟨.val (.int k) (.u false) (k.wrap (0-u)),s,false,none⟩
  |none=>none
 |_,_=>none
theorem Qk1(h:R n W0 w X F H s a)(ht:tg.ok W0.gh a){op:UnOp}{e:TypeId}{x:Operand}(ho:o.op=.unOp op e x){r:Res}(hr:Q2r τ s tg op e x=some r):Zeb P τ W0 w X F s a o r:=by
 unfold Q2r at hr;split at hr
 ·split at hr
  ·rename_i u b;simp only[Osi]at hr;subst hr;have c:=Zoo h ht b;refine Ku rfl λ_=>⟨_,λd _=>?_,Zx8 _⟩
   simp_all[execOp,Op.unary]
  ·cases hr
 ·split at hr
  ·rename_i k _ _ u b;simp only[Osi]at hr;subst hr;have c:=Zux h ht b;refine Ku rfl λ_=>⟨_,λd _=>?_,Z30 _ _⟩
   simp_all[execOp,Op.unary,Op.intArith]
  ·cases hr
 ·cases hr
def Qj(l:List Int):List UInt8:=l.map λn=>UInt8.ofNat n.toNat
def Ql6(τ:Tab)(s:St)(tg:Ye)(src dst:TypeId)(x:Operand):Option Res:=
 match τ src,τ dst with
 |some (.int k),some (.int k2)=>match Zbw s (op1 s tg x) (.int k)with
  |some u=>some ⟨.val (.int k2) (.u false) (k2.wrap u),s,false,none⟩
  |none=>none
 |some (.slice e' (.int .u8)),some .str=>match Z9f s (op1 s tg x),τ e' with
  |some ⟨_,.int .u8,_,l⟩,some (.int .u8)=>some ⟨.val .str (.u false) (Qj l),s,false,none⟩
  |_,_=>none
 |some .str,some .str=>match Zbw s (op1 s tg x) .str with
  |some u=>some ⟨.val .str (.u false) u,s,false,none⟩
  |none=>none
 |_,_=>none
theorem Qr7{k:IntKind}:∀{l:List Int}{xs:List Value}{S:List Nat},Zc2 (rd w X B own (.int k)) l xs S->xs=l.map (Value.int k)/\S=[]
 |[],_,_,⟨a,b⟩=>⟨a,b⟩
 |x::l,_,_,⟨c,d,e,f,g,h,a,b⟩=>by
  obtain⟨rfl,rfl⟩:=a;obtain⟨rfl,rfl⟩:=Qr7 b;simp_all
theorem Z6s:∀(l:List Int)(r:ByteArray),l.foldl (λr n=>r.push (UInt8.ofNat n.toNat)) r=⟨r.data++(Qj l).toArray⟩
 |[],r=>by simp[Qj]
 |b::l,r=>by
  simp only[List.foldl_cons];rw[Z6s l];simp[ByteArray.push,Qj]
theorem Qbo(h:R n W0 w X F H s a)(ht:tg.ok W0.gh a)(hτ:τ.ok P){e e2:TypeId}{x:Operand}(ho:o.op=.convert e e2 x){r:Res}(hr:Ql6 τ s tg e e2 x=some r):Zeb P τ W0 w X F s a o r:=by
 unfold Ql6 at hr;split at hr
 ·rename_i k A g i;split at hr
  ·rename_i u q;simp only[Osi]at hr;subst hr;have t:=Zux h ht q;refine Ku rfl λ_=>⟨_,λf c=>?_,Z30 _ _⟩
   simp only[execOp,ho,t];simp[convert,run_underlying (hτ _ _ g).int,run_underlying (hτ _ _ i).int,Conv.intToInt]
  ·cases hr
 ·rename_i C g i;split at hr
  ·rename_i I b l p d;simp only[Osi]at hr;subst hr;have d:=hτ _ _ d;obtain⟨v,J,K,L,hv,D,A,_⟩:=Z0c h ht p;obtain⟨rfl,rfl⟩:=Qr7 A;obtain⟨E,m,rfl,_,_,y⟩:=Zgp D;refine Ku rfl λ_=>⟨_,λf c=>?_,Quy _⟩
   simp only[execOp,ho,hv];rw[Sem.run_bind,run_convert_bytes_string f e e2 C E _ m (hτ _ _ g).slice.1 d.int (hτ _ _ i).str];rcases y with⟨rfl,z,_⟩|⟨B,rfl,_,y⟩
   ·have:l=[]:=List.eq_nil_of_length_eq_zero z;subst this;rfl
   ·have p:=run_loadCells_list (P:=P) f B (l.map (Value.int .u8)) (λj u G=>(show Old w f by
     have:=c (by simp_all[Q7e]);rw[ho]at this;exact this).cell (y j u G))
    simp only[List.length_map]at p;rw[run_bytesToString f B l.length m l p,Z6s];simp_all
  ·cases hr
 ·rename_i g i;split at hr
  ·rename_i u q;simp only[Osi]at hr;subst hr;have t:=Z0j h ht q;refine Ku rfl λ_=>⟨_,λf c=>?_,Quy _⟩
   simp only[execOp,ho,t];simp[convert,run_underlying (hτ _ _ g).str,run_underlying (hτ _ _ i).str]
  ·cases hr
 ·cases hr
theorem Xcb(u:List UInt8):(ByteArray.mk ⟨u⟩).size=u.length:=rfl
theorem Xew(u v:Int):(if v<u then v else u)=min u v:=by omega
theorem Xeu(u v:Int):(if u<v then v else u)=max u v:=by omega
def Qtu(τ:Tab)(s:St)(tg:Ye)(e:TypeId)(x:Operand):Option Res:=
 match τ e with
 |some .str=>match Zbw s (op1 s tg x) .str with
  |some u=>some ⟨.val (.int .i64) (.u false) (u.length:Int),s,false,none⟩
  |none=>none
 |some (.slice _ _)=>match Z9f s (op1 s tg x)with
  |some ⟨_,_,_,l⟩=>some ⟨.val (.int .i64) (.u false) (l.length:Int),s,false,none⟩
  |none=>none
 |_=>none
theorem Qfl(h:R n W0 w X F H s a)(ht:tg.ok W0.gh a)(hτ:τ.ok P){e:TypeId}{x:Operand}(ho:o.op=.call {callee:=.builtin .len,args:= #[x],argTypes:= #[e]}){r:Res}(hr:Qtu τ s tg e x=some r):Zeb P τ W0 w X F s a o r:=by
 unfold Qtu at hr;split at hr
 ·rename_i c;split at hr
  ·rename_i u d;simp only[Osi]at hr;subst hr;have f:=Z0j h ht d;refine Ku rfl λ_=>⟨_,λg _=>?_,Z30 _ _⟩
   simp only[execOp,ho];simp[resolve,invoke,builtin,f,Builtin.len_,run_underlying (hτ _ _ c).str,goInt,Xcb]
  ·cases hr
 ·rename_i c;split at hr
  ·rename_i m t b l i;simp only[Osi]at hr;subst hr;obtain⟨v,p,q,y,hv,j,z,_⟩:=Z0c h ht i;obtain⟨A,k,rfl,_,_,B⟩:=Zgp j;refine Ku rfl λ_=>⟨_,λg _=>?_,Z30 _ _⟩
   simp only[execOp,ho];simp[resolve,invoke,builtin,hv,Builtin.len_,run_underlying (hτ _ _ c).slice.1,goInt]
  ·cases hr
 ·cases hr
def Qh9(s:St)(tg:Ye)(e:TypeId)(τ:Tab)(x y:Operand)(mx:Bool):Option Res:=
 match τ e with
 |some (.int k)=>match Zbw s (op1 s tg x) (.int k),Zbw s (op1 s tg y) (.int k)with
  |some u,some v=>some ⟨.val (.int k) (.u false) (match mx with|true=>(max u v:Int)|false=>(min u v:Int)),s,false,none⟩
  |_,_=>none
 |_=>none
theorem Zz9(h:R n W0 w X F H s a)(ht:tg.ok W0.gh a){e e2:TypeId}{x y:Operand}{mx:Bool}(ho:o.op=.call {callee:=.builtin (match mx with|true=>.max|false=>.min),args:= #[x,y],argTypes:= #[e,e2]}){r:Res}(hr:Qh9 s tg e τ x y mx=some r):
  Zeb P τ W0 w X F s a o r:=by
 unfold Qh9 at hr;split at hr
 ·split at hr
  ·rename_i u v b hv;simp only[Osi]at hr;subst hr;have c:=Zux h ht b;have e2:=Zux h ht hv;refine Ku rfl λ_=>⟨_,λd _=>?_,Z30 _ _⟩
   simp only[execOp,ho];cases mx
   ·simp_all[resolve,invoke,builtin,Builtin.min_,Builtin.min2,Xew]
   simp_all[resolve,invoke,builtin,Builtin.max_,Builtin.max2,Xeu]
  ·cases hr
 ·cases hr
theorem Q4i{T:Ty}{e:TypeId}(h1:Zyr P e T=true)(h2:Q48 P e T=true)(w:World){xs:Array Value}{off:Nat}{pre u post:List Value}(hx:xs.toList=pre++(u++post))(ho:pre.length=off)(hu:u.length=T.size):
  (part e xs off).run P w=.ok (Yz T u) w:=by
 obtain⟨i,b,c,_⟩:=Zre h1;unfold part;simp only[Sem.run_bind,Q49 h2 w,Result.andThen_ok];cases ha:T.isAgg
 ·have h1:=Qg9 ha;rw[h1]at hu;obtain⟨v,rfl⟩:=List.length_eq_one_iff.1 hu;have:xs[off]? =some v:=by
   rw[<-Array.getElem?_toList,hx,<-ho];simp
  have a:Yz T [v]=v:=by cases T<;>simp[Ty.isAgg]at ha<;>rfl
  simp[this,a]
 ·simp only[if_true,Sem.run_bind,Go.sizeOf,typeInfo,Sem.run_pure];have d:xs.extract off (off+T.size)=u.toArray:=by
   grind[Array.toList_extract]
  have a:Yz T u=.agg u.toArray:=by cases T<;>simp[Ty.isAgg]at ha<;>rfl
  simp_all
def Qfe(τ:Tab)(s:St)(tg:Ye)(e:TypeId)(x i:Operand):Option Res:=
 match τ e with
 |some .str=>match Zbw s (op1 s tg x) .str,Zwf s (op1 s tg i)with
  |some u,some (_,j)=>some ⟨.val (.int .u8) (.u false) ((u.getD j.toNat 0).toNat:Int),s,false,some (0<=j/\j<u.length)⟩
  |_,_=>none
 |some (.arr n t)=>match t.flat,Zbw s (op1 s tg x) (.arr n t),Zwf s (op1 s tg i)with
  |true,some l,some (_,j)=>some ⟨.val t (.u false) (l.getD j.toNat (zero t)),s,false,some (0<=j/\j<n)⟩
  |_,_,_=>none
 |_=>none
theorem Z78(h:R n W0 w X F H s a)(ht:tg.ok W0.gh a)(hτ:τ.ok P){e:TypeId}{x i:Operand}(ho:o.op=.index e x i){r:Res}(hr:Qfe τ s tg e x i=some r):Zeb P τ W0 w X F s a o r:=by
 unfold Qfe at hr;split at hr
 ·rename_i m;split at hr
  ·rename_i u k j p q;simp only[Osi]at hr;subst hr;have J:=Z0j h ht p;have v:=Zih h ht q;refine Ku rfl λg=>⟨_,λE _=>?_,Z30 _ _⟩
   have g:0<=j/\j<u.length:=g;have y:j.toNat<u.length:=by omega
   have z:0<=j/\j<(ByteArray.mk ⟨u⟩).size:=by simp_all[ByteArray.size]
   simp only[execOp,ho,J,v,Sem.run_bind];rw[run_index_string _ _ _ _ _ (hτ _ _ m).str,dif_pos z];simp[List.getD_eq_getElem?_getD,y];rfl
  ·cases hr
 ·rename_i n t K;split at hr
  ·rename_i l k j L M q;simp only[Osi]at hr;subst hr;obtain⟨G,m,N⟩:=Zci h ht M;have v:=Zih h ht q;obtain⟨b,c⟩:=N;have b:l.length=n:=b;obtain⟨_,U,p,I,A⟩:=(hτ _ _ K).arr';obtain⟨V,B,C,_⟩:=Zre I;by_cases d:0<=j/\j<n
   ·have D:j.toNat<l.length:=by omega
    obtain⟨pre,f,post,W,Y,Z,O,n2,Q,S,_⟩:=Zwg (λ_ _ _ h=>Y6 h) D c;have e4:l.getD j.toNat (zero t)=l[j.toNat]:=by simp_all
    refine Ku rfl λ_=>⟨Yz t f,λE _=>?_,f,rfl,by grind[rdF,Zgy]⟩
    have hx:a.eval x=.agg G.toArray:=m;simp only[execOp,ho,hx,v,Instr.index,Sem.run_bind,asIntOf,Sem.run_pure,Result.andThen_ok,run_underlying p,Go.sizeOf,typeInfo];simp only[d.1,d.2,and_self,if_true,Sem.run_bind];simp[B,C,Q4i I A E (xs:=G.toArray) (off:=j.toNat*t.size) (pre:=pre) (u:=f) (post:=post) (by simpa using O) Q (Y6 S)]
   ·exact Ku rfl λg=>absurd g d
  ·cases hr
 ·cases hr
end Go.Am

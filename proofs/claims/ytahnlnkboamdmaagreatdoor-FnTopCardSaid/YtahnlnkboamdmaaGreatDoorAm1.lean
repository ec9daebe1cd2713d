/- No condition. -/
import Derived.WalkKit
set_option linter.all false
namespace Go.Am
open Option renaming some→K1,none→K2,map_eq_some_iff→Mh
open Bool renaming false→K3,true→La,or_eq_false_iff→Lz
open Go renaming Value→K4,World→Lb,TypeId→Lc,Operand→Le,Program→Lh,isAgg→Li,Addr→Lj,IntKind→Lk,FuncId→Lo,Builtin→Lq,sizeOf→L5
open Sigma.mk renaming injEq→Ld
open Nat renaming beq→Lf,blt→Lp,beq_refl→Lw,lt_of_lt_of_le→Lx,le_refl→L1,blt_eq→L7,le_trans→Mg
open List renaming mem_append→Lg,nodup_append→Lm,replicate→Lv,length_eq_one_iff→L6,getElem?_append_left→Mc,getElem?_append_right→Md,getElem?_eq_getElem→Me,nil_append→Mf
open Ne renaming symm→Ll
open Sem renaming run_bind→Ln,run_pure→L9
open Value renaming oneCell'→Lr,int→Ma,ownBlock→Mj
open World renaming cell?_of_block→Ls
open Decidable renaming decide→Lt
open Addr renaming add→Lu
open Act renaming put→Ly
open List.cons renaming inj→L0
open Obj.cells renaming injEq→L2
open Op renaming bytesLess→L3,stringOp→L8
open Result renaming andThen_ok→L4
open Builtin renaming len_→Mb
open UInt8 renaming ofNat→Mi
open List.Sublist renaming refl→Mk
def Aa{p:Prop}(h:p:=by omega):p:=h
def Ab{p:Prop}(h:p:=by simp only;omega):p:=h
def Ac{p:Prop}(h:p:=by simp_all):p:=h
def Ae{p:Prop}(h:p:=by simp):p:=h
def Af{p:Prop}(h:p:=by simp;omega):p:=h
def Ag{p:Prop}(h:p:=by grind):p:=h
def Ah{p:Prop}(h:p:=by kernel_rfl):p:=h
def Ai{p:Prop}(h:p:=by decide):p:=h
def Aj{p:Prop}(h:p:=by grind[Qp]):p:=h
def Ak{p:Prop}(h:p:=by simp_all[rdF]):p:=h
def Al{p:Prop}(h:p:=by grind[Jv]):p:=h
def Ao{p:Prop}(h:p:=by grind[Zr]):p:=h
def Ap{p:Prop}(h:p:=by grind[aC]):p:=h
def Aq{p:Prop}(h:p:=by simp_all[yh]):p:=h
def Ar{p:Prop}(h:p:=by simp_all[Vr]):p:=h
def As{p:Prop}(h:p:=by grind[FOK]):p:=h
def At{p:Prop}(h:p:=by simp_all[Zgi]):p:=h
def Au{p:Prop}(h:p:=by grind[Jo]):p:=h
def Av{p:Prop}(h:p:=by grind[rdF]):p:=h
def Aw{p:Prop}(h:p:=by simp_all[cK]):p:=h
def Ax{p:Prop}(h:p:=by simp_all[Zg3]):p:=h
def Ay{p:Prop}(h:p:=by grind[Jx]):p:=h
def Az{p:Prop}(h:p:=by grind[K0]):p:=h
def AA{p:Prop}(h:p:=by simp_all[qq]):p:=h
def AB{p:Prop}(h:p:=by simp_all[mY]):p:=h
def AC{p:Prop}(h:p:=by simp_all[aX]):p:=h
variable{a:Act}{f:Lo}{S p S0 l S' H':List Nat}{vs xs post:List K4}{n m sz i b d:Nat}{X:Nat->Prop}{gh:Nat->K4}{x y:Le}{α β:Type _}{e2:Lc}{v u:K4}{w w':Lb}
instance{α:Type}:CoeOut (List α) Nat:=⟨λl=>l.length⟩
instance{α:Type}:CoeOut (List α) Int:=⟨λl=>(l.length:Int)⟩
open Go.RowKit
def pA(a:α)(f:α->Option β):(K1 a).bind f=f a:=rfl
theorem pB(a b:α):(K1 a=K1 b)=(a=b):=Option.some.injEq a b
def pC(a b:Bool):((a&&b)=La)=(a=La/\b=La):=Bool.and_eq_true a b
theorem pD(h:Lf n m=La):n=m:=Nat.eq_of_beq_eq_true h
def pE{p:Prop}[Decidable p](h:decide p=La):p:=of_decide_eq_true h
def pF(a:α)(b:β)(c:α)(d:β):((a,b)=(c,d))=(a=c/\b=d):=Prod.mk.injEq a b c d
def pG(a b:α):cond La a b=a:=rfl
def pH(a b:α):cond K3 a b=b:=rfl
def pI:(!La)=false:=rfl
def pJ(b:Bool):(La&&b)=b:=Bool.true_and b
inductive Ty where
 |unit|int (k:Lk)|bool|str|slice (e:Lc) (t:Ty)|pair (a b:Ty)|arr (n:Nat) (t:Ty)|fnc (f:Lo)|err|hid (t:Ty)|sptr (e:Lc) (t:Ty)|clo (f:Lo) (t:Ty)
 deriving DecidableEq
@[reducible] def Ty.den:Ty->Type|.unit=>Unit|.int _=>Int|.bool=>Bool|.str=>List UInt8|.slice _ t=>List t.den|.pair a b=>a.den×b.den|.arr _ t=>List t.den|.fnc _=>Unit|.err=>Bool|.hid _=>Unit|.sptr _ t=>t.den|.clo _ t=>t.den
def Ty.size:Ty->Nat|.unit=>0|.pair a b=>a.size+b.size|.arr n t=>n*t.size|_=>1
def Ty.flat:Ty->Bool|.slice .. =>K3|.pair a b=>a.flat&&b.flat|.arr _ t=>t.flat|.hid t=>t.flat|.sptr .. =>K3|.clo .. =>K3|_=>La
def Ty.plain:Ty->Bool|.sptr .. =>K3|.clo .. =>K3|.pair a b=>a.plain&&b.plain|.arr _ t=>t.plain|.hid t=>Lf t.size 1&&t.plain|_=>La
def Jd(T:Ty)(vs:List K4):K4:=
 match T with
 |.unit|.pair .. |.arr .. =>.agg vs.toArray
 |_=>vs.headD undef
def eh{α:Type}(r:α->List K4->List Nat->Prop):List α->List K4->List Nat->Prop|[],vs,S=>vs=[]/\S=[]|x::xs,vs,S=> ∃v1 v2 S1 S2,vs=v1++v2/\S=S1++S2/\r x v1 S1/\eh r xs v2 S2
def hdr(w:Lb)(X:Nat->Prop)(B:Nat)(own:Bool)(e:Lc)(sz n:Nat)(v:K4)(xs:List K4)(S:List Nat):Prop:=
 match own with
 |true=>w.ownsRow B e sz v n xs/\S=v.ownBlock.toList
 |false=>S=[]/\xs.length=n*sz/\ ∃a cap,v=.slice a n cap/\n<=cap/\cap<=maxLen/\
   ((a=K2/\n=0/\cap=0)\/ ∃ad,a=K1 ad/\(n=0\/X ad.block)/\ ∀j u,xs[j]? =K1 u->w.cell? (ad.add j)=K1 u)
def rd(w:Lb)(X:Nat->Prop)(B:Nat)(own:Bool):(T:Ty)->T.den->List K4->List Nat->Prop|.unit,_,vs,S=>vs=[]/\S=[]|.int k,x,vs,S=>vs=[.int k x]/\S=[]|.bool,x,vs,S=>vs=[.bool x]/\S=[]|.fnc f,_,vs,S=>vs=[.func (.func f) #[] #[]]/\S=[]|.str,x,vs,S=>vs=[.string ⟨⟨x⟩⟩]/\S=[]|.slice e t,x,vs,S=> ∃v xs S1 S2,vs=[v]/\S=S1++S2/\hdr w X B own e t.size x.length v xs S1/\eh (rd w X B own t) x xs S2|.pair a b,x,vs,S=> ∃v1 v2 S1 S2,vs=v1++v2/\S=S1++S2/\rd w X B own a x.1 v1 S1/\rd w X B own b x.2 v2 S2|.arr n t,x,vs,S=>x.length=n/\eh (rd w X B own t) x vs S|.err,x,vs,S=>(∃v,vs=[v]/\v.oneCell'=La/\((x=La/\v=.nilIface)\/(x=K3/\ ∃t u,v=.iface t u)))/\S=[]|.hid t,_,vs,S=>vs.length=1/\ ∃y,rd w X B own t y vs S|.sptr e t,x,vs,S=>S=[]/\own=K3/\ ∃b c,vs=[.pointer (K1 ⟨b,0,K2⟩)]/\X b/\w.heap[b]? =K1 (.cells c e (0,0))/\rd w X B own t x c.toList []|.clo f t,x,vs,S=>S=[]/\ ∃cs:List K4,vs=[.func (.func f) #[] cs.toArray]/\rd w X B own t x cs []
inductive Fl where
 |u (own:Bool)|p (a b:Fl)|d
def rdF(w:Lb)(X:Nat->Prop)(B:Nat):(T:Ty)->Fl->T.den->List K4->List Nat->Prop|T,.d,_,vs,S=>vs.length=T.size/\(∀u∈vs,u.oneCell'=La)/\S=[]|T,.u b,x,vs,S=>rd w X B b T x vs S|.pair a b,.p f g,x,vs,S=> ∃v1 v2 S1 S2,vs=v1++v2/\S=S1++S2/\rdF w X B a f x.1 v1 S1/\rdF w X B b g x.2 v2 S2|.slice e t,.p (.u La) (.u K3),x,vs,S=> ∃v xs,vs=[v]/\hdr w X B La e t.size x.length v xs S/\eh (rd w X B K3 t) x xs []|_,.p ..,_,_,_=>False
theorem nC{B:Nat}{e:Lc}{t:Ty}{f g:Fl}{x:List t.den}(h:rdF w X B (.slice e t) (.p f g) x vs S):
  f=.u La/\g=.u K3/\ ∃v xs,vs=[v]/\hdr w X B La e t.size x.length v xs S/\eh (rd w X B K3 t) x xs []:=by
 cases f with
 |u b=>cases b with
  |true=>cases g with
   |u c=>cases c with
    |false=>exact⟨rfl,rfl,h⟩
    |true=>exact h.elim
   |p _ _=>exact h.elim
   |d=>exact h.elim
  |false=>exact h.elim
 |p _ _=>exact h.elim
 |d=>exact h.elim
variable {w w':Lb}{X X':Nat->Prop}{B:Nat}{own:Bool}
def J6{α:Type}{r r':α->List K4->List Nat->Prop}:∀{xs:List α}{vs:List K4}{S:List Nat},
  eh r xs vs S->(∀x v T,x∈xs->(∀b∈T,b∈S)->r x v T->r' x v T)->eh r' xs vs S
 |[],_,_,h,_=>h
 |x::xs,_,_,⟨a,d,c,e,f,g,i,j⟩,k=>
  ⟨a,d,c,e,f,g,k x a c Ae Ac i,
   J6 j λy v T l m=>k y v T (by simp[l]) Ac⟩
theorem XT{α:Type}{r:α->List K4->List Nat->Prop}{n:Nat}(hr:∀x v S,r x v S->v.length=n):∀{xs:List α}{vs:List K4}{S:List Nat},
  eh r xs vs S->vs.length=xs.length*n
 |[],_,_,⟨e,_⟩=>by simp[e]
 |x::xs,_,_,⟨d,f,g,h,a,_,b,c⟩=>by
  rw[a,List.length_append,hr _ _ _ b,XT hr c,List.length_cons,Nat.add_mul];omega
def Qmo{e:Lc}(h:hdr w X B own e sz n v xs S):xs.length=n*sz:=by
 cases own
 ·exact h.2.1
 ·exact h.1.1
theorem Jx:∀{T:Ty}{x:T.den}{vs:List K4}{S:List Nat},rd w X B own T x vs S->vs.length=T.size
 |.unit,_,_,_,h=>by simp[h.1,Ty.size]
 |.int _,_,_,_,h=>by simp[h.1,Ty.size]
 |.bool,_,_,_,h=>by simp[h.1,Ty.size]
 |.fnc _,_,_,_,h=>by simp[h.1,Ty.size]
 |.str,_,_,_,h=>by simp[h.1,Ty.size]
 |.slice _ _,_,_,_,⟨_,_,_,_,e,_⟩=>by simp[e,Ty.size]
 |.pair a b,_,_,_,⟨g,i,j,k,e,_,c,d⟩=>by simp[e,Ty.size,Jx c,Jx d]
 |.arr n t,_,_,_,⟨h,f⟩=>by rw[XT (n:=t.size) (λ_ _ _ h=>Jx h) f,h];rfl
 |.err,_,_,_,⟨⟨_,e,_⟩,_⟩=>by simp[e,Ty.size]
 |.hid _,_,_,_,⟨h,_⟩=>h
 |.sptr ..,_,_,_,⟨_,_,_,_,e,_⟩=>by simp[e,Ty.size]
 |.clo ..,_,_,_,⟨_,_,e,_⟩=>by simp[e,Ty.size]
theorem K0:∀{T:Ty}{f:Fl}{x:T.den}{vs:List K4}{S:List Nat},rdF w X B T f x vs S->vs.length=T.size
 |T,.d,_,_,_,h=>Ak
 |T,.u b,_,_,_,h=>by grind[rdF,Jx]
 |.pair a b,.p f g,_,_,_,⟨j,k,l,m,e,_,c,i⟩=>by simp[e,Ty.size,K0 c,K0 i]
 |.slice e t,.p f g,_,_,_,h=>by grind[nC,Ty.size]
 |.unit,.p ..,_,_,_,h|.int _,.p ..,_,_,_,h|.bool,.p ..,_,_,_,h|.fnc _,.p ..,_,_,_,h|.str,.p ..,_,_,_,h|.err,.p ..,_,_,_,h|.hid _,.p ..,_,_,_,h|.sptr ..,.p ..,_,_,_,h|.clo ..,.p ..,_,_,_,h|.arr ..,.p ..,_,_,_,h=>by simp[rdF]at h
def Zjd{e:Lc}(h:hdr w X B own e sz n v xs S)
  (hX:∀b,X b->X' b) (hw:∀b,X b->w'.heap[b]? =w.heap[b]?) (hS:∀b∈S,w'.heap[b]? =w.heap[b]?):hdr w' X' B own e sz n v xs S:=by
 cases own
 ·obtain⟨f,i,a,c,j,l,m,p⟩:=h;refine⟨f,i,a,c,j,l,m,?_⟩
  grind[Lu,Ls]
 ·obtain⟨f,i⟩:=h;refine⟨⟨f.1,?_⟩,i⟩;rcases f.2 with j|⟨g,c,k,rfl,o,q,d⟩
  ·exact .inl j
  ·exact .inr ⟨g,c,k,rfl,o,by simp_all[Mj],d⟩
theorem eU(hX:∀b,X b->X' b)(hw:∀b,X b->w'.heap[b]? =w.heap[b]?):∀{T:Ty}{x:T.den}{vs:List K4}{S:List Nat},
  rd w X B own T x vs S->(∀b∈S,w'.heap[b]? =w.heap[b]?)->rd w' X' B own T x vs S
 |.unit,_,_,_,h,_=>h
 |.int _,_,_,_,h,_=>h
 |.bool,_,_,_,h,_=>h
 |.fnc _,_,_,_,h,_=>h
 |.str,_,_,_,h,_=>h
 |.slice _ _,_,_,_,⟨v,p,j,k,e,l,f,g⟩,d=>
  ⟨v,p,j,k,e,l,Zjd f hX hw λb i=>d b Ac,
   J6 g λ_ _ _ _ m h=>eU hX hw h λb i=>d b Ac⟩
 |.pair a b,_,_,_,⟨q,r,j,k,e,l,f,g⟩,d=>
  ⟨q,r,j,k,e,l,eU hX hw f λb i=>d b Ac,eU hX hw g λb i=>d b Ac⟩
 |.arr n t,_,_,_,⟨h,s⟩,d=>⟨h,J6 s λ_ _ _ _ m h=>eU hX hw h λb i=>d b (m b i)⟩
 |.err,_,_,_,h,_=>h
 |.hid _,_,_,_,⟨e,y,h⟩,d=>⟨e,y,eU hX hw h d⟩
 |.sptr ..,_,_,_,⟨e,o,b,c,f,g,A,u⟩,_=>⟨e,o,b,c,f,hX b g,Ac,eU hX hw u Ae⟩
 |.clo ..,_,_,_,⟨e,z,f,g⟩,_=>⟨e,z,f,eU hX hw g Ae⟩
def XQ(hX:∀b,X b->X' b)(hw:∀b,X b->w'.heap[b]? =w.heap[b]?):∀{T:Ty}{f:Fl}{x:T.den}{vs:List K4}{S:List Nat},
  rdF w X B T f x vs S->(∀b∈S,w'.heap[b]? =w.heap[b]?)->rdF w' X' B T f x vs S
 |T,.d,_,_,_,h,_=>Ak
 |T,.u b,_,_,_,h,c=>by grind[rdF,eU]
 |.pair a b,.p f g,_,_,_,⟨l,m,n,o,e,q,i,j⟩,c=>
  ⟨l,m,n,o,e,q,XQ hX hw i λb k=>c b Ac,XQ hX hw j λb k=>c b Ac⟩
 |.slice e t,.p f g,_,_,_,h,c=>by
  obtain⟨rfl,rfl,v,r,s,i,j⟩:=nC h;exact⟨v,r,s,Zjd i hX hw c,J6 j λ_ _ _ _ y h=>eU hX hw h λb k=>absurd (y b k) Ae⟩
 |.unit,.p ..,_,_,_,h,_|.int _,.p ..,_,_,_,h,_|.bool,.p ..,_,_,_,h,_|.fnc _,.p ..,_,_,_,h,_|.str,.p ..,_,_,_,h,_|.err,.p ..,_,_,_,h,_|.hid _,.p ..,_,_,_,h,_|.sptr ..,.p ..,_,_,_,h,_|.clo ..,.p ..,_,_,_,h,_|.arr ..,.p ..,_,_,_,h,_=>by simp[rdF]at h
def Z1q{α:Type}{r:α->List K4->List Nat->Prop}{p:Nat->Prop}(hr:∀x v S,r x v S-> ∀b∈S,p b):∀{xs:List α}{vs:List K4}{S:List Nat},
  eh r xs vs S-> ∀b∈S,p b
 |[],_,_,⟨_,e⟩=>by simp[e]
 |x::xs,_,_,⟨c,d,f,g,_,e,h,a⟩=>by
  intro b hb;rw[e]at hb;rcases Lg.1 hb with hb|hb
  ·grind
  ·exact Z1q hr a b hb
def Qdp{e:Lc}(h:hdr w X B own e sz n v xs S):∀b∈S,B<=b/\b<w.heap.size:=by
 cases own
 ·intro b a;rw[h.1]at a;cases a
 ·intro b a;rw[h.2]at a;exact h.1.lt b (by simpa using a)
theorem Zgy:∀{T:Ty}{x:T.den}{vs:List K4}{S:List Nat},rd w X B own T x vs S-> ∀b∈S,B<=b/\b<w.heap.size
 |.unit,_,_,_,h|.int _,_,_,_,h|.bool,_,_,_,h|.fnc _,_,_,_,h|.str,_,_,_,h=>by simp[h.2]
 |.slice _ _,_,_,_,⟨_,_,_,_,_,e,c,d⟩=>by
  intro b hb;rw[e]at hb;rcases Lg.1 hb with hb|hb
  ·exact Qdp c b hb
  ·exact Z1q (λ_ _ _ h=>Zgy h) d b hb
 |.pair a b,_,_,_,⟨g,i,j,k,_,e,c,d⟩=>by
  intro b hb;rw[e]at hb;rcases Lg.1 hb with hb|hb
  ·exact Zgy c b hb
  ·exact Zgy d b hb
 |.arr n t,_,_,_,⟨_,f⟩=>Z1q (λ_ _ _ h=>Zgy h) f
 |.err,_,_,_,h=>by simp[h.2]
 |.hid _,_,_,_,⟨_,_,h⟩=>Zgy h
 |.sptr ..,_,_,_,h=>by simp[h.1]
 |.clo ..,_,_,_,h=>by simp[h.1]
theorem Zx9:∀{T:Ty}{f:Fl}{x:T.den}{vs:List K4}{S:List Nat},rdF w X B T f x vs S-> ∀b∈S,B<=b/\b<w.heap.size
 |T,.d,_,_,_,h=>Ak
 |T,.u b,_,_,_,h=>by unfold rdF at h;exact Zgy h
 |.pair a b,.p f g,_,_,_,⟨j,k,l,m,_,e,c,i⟩=>by
  intro b hb;rw[e]at hb;rcases Lg.1 hb with hb|hb
  ·exact Zx9 c b hb
  ·exact Zx9 i b hb
 |.slice e t,.p f g,_,_,_,h=>by
  obtain⟨_,_,v,n,_,c,_⟩:=nC h;exact Qdp c
 |.unit,.p ..,_,_,_,h|.int _,.p ..,_,_,_,h|.bool,.p ..,_,_,_,h|.fnc _,.p ..,_,_,_,h|.str,.p ..,_,_,_,h|.err,.p ..,_,_,_,h|.hid _,.p ..,_,_,_,h|.sptr ..,.p ..,_,_,_,h|.clo ..,.p ..,_,_,_,h|.arr ..,.p ..,_,_,_,h=>by simp[rdF]at h
theorem fI{e:Lc}(h:hdr w X B own e sz n v xs S):
  ∃a cap,v=.slice a n cap/\n<=cap/\cap<=maxLen/\((a=K2/\n=0/\cap=0)\/ ∃ad,a=K1 ad/\(n=0\/X ad.block\/ad.block∈S)/\ ∀j u,xs[j]? =K1 u->w.cell? (ad.add j)=K1 u):=by
 cases own
 ·obtain⟨_,_,a,cap,k,l,m,o⟩:=h
  grind
 ·obtain⟨b,p⟩:=h;rcases b.2 with⟨rfl,rfl⟩|⟨g,cap,d,rfl,q,r,f,i,c⟩
  ·grind
  ·exact⟨_,cap,rfl,f,i,.inr ⟨_,rfl,.inr (.inr (by simp_all[Mj])),b.cells (g:=g) rfl⟩⟩
def Zz0{e:Lc}(h:hdr w X B own e sz n v xs S)(hX:∀b,X b->X' b)(hS:∀b∈S,X' b):
  hdr w X' B K3 e sz n v xs []:=by
 have d:=Qmo h;obtain⟨a,c,f,g,i,j⟩:=fI h;refine⟨rfl,d,a,c,f,g,i,j.imp id ?_⟩
 grind
def wk{α:Type}{r r':α->List K4->List Nat->Prop}:∀{xs:List α}{vs:List K4}{S:List Nat},
  eh r xs vs S->(∀x v T,x∈xs->(∀b∈T,b∈S)->r x v T->r' x v [])->eh r' xs vs []
 |[],_,_,h,_=>⟨h.1,rfl⟩
 |x::xs,_,_,⟨a,c,d,j,e,l,f,g⟩,k=>
  ⟨a,c,[],[],e,rfl,k x a d Ae Ac f,
   wk g λy v T i m=>k y v T (by simp[i]) Ac⟩
theorem mH(hX:∀b,X b->X' b):∀{T:Ty}{x:T.den}{vs:List K4}{S:List Nat},
  rd w X B own T x vs S->(∀b∈S,X' b)->rd w X' B K3 T x vs []
 |.unit,_,_,_,h,_|.int _,_,_,_,h,_|.bool,_,_,_,h,_|.fnc _,_,_,_,h,_|.str,_,_,_,h,_=>⟨h.1,rfl⟩
 |.slice _ _,_,_,_,⟨v,k,l,m,e,o,f,g⟩,d=>
  ⟨v,k,[],[],e,rfl,Zz0 f hX λb i=>d b Ac,
   wk g λ_ _ _ _ j h=>mH hX h λb i=>d b Ac⟩
 |.pair a b,_,_,_,⟨p,q,l,m,e,o,f,g⟩,d=>
  ⟨p,q,[],[],e,rfl,mH hX f λb i=>d b Ac,mH hX g λb i=>d b Ac⟩
 |.arr n t,_,_,_,⟨h,r⟩,d=>⟨h,wk r λ_ _ _ _ j h=>mH hX h λb i=>d b (j b i)⟩
 |.err,_,_,_,h,_=>⟨h.1,rfl⟩
 |.hid _,_,_,_,⟨e,y,h⟩,d=>⟨e,y,mH hX h d⟩
 |.sptr ..,_,_,_,⟨_,_,b,c,f,g,s,u⟩,_=>⟨rfl,rfl,b,c,f,hX b g,s,mH hX u Ae⟩
 |.clo ..,_,_,_,⟨_,z,f,g⟩,_=>⟨rfl,z,f,mH hX g Ae⟩
def Fl.live:Fl->Bool|.u _=>La|.p a b=>a.live&&b.live|.d=>K3
theorem Vo(hX:∀b,X b->X' b):∀{T:Ty}{f:Fl}{x:T.den}{vs:List K4}{S:List Nat},
  f.live=La->rdF w X B T f x vs S->(∀b∈S,X' b)->rd w X' B K3 T x vs []
 |T,.d,_,_,_,i,_,_=>by grind[Fl.live]
 |T,.u b,_,_,_,_,h,c=>by grind[rdF,mH]
 |.pair a b,.p f g,_,_,_,i,⟨m,n,s,y,e,z,j,k⟩,c=>by
  simp only[Fl.live,pC]at i;exact⟨m,n,[],[],e,rfl,Vo hX i.1 j λb l=>c b Ac,Vo hX i.2 k λb l=>c b Ac⟩
 |.slice e t,.p f g,_,_,_,_,h,c=>by
  obtain⟨_,_,v,o,q,j,k⟩:=nC h;exact⟨v,o,[],[],q,rfl,Zz0 j hX c,wk k λ_ _ _ _ r h=>mH hX h λb l=>absurd (r b l) Ae⟩
 |.unit,.p ..,_,_,_,_,h,_|.int _,.p ..,_,_,_,_,h,_|.bool,.p ..,_,_,_,_,h,_|.fnc _,.p ..,_,_,_,_,h,_|.str,.p ..,_,_,_,_,h,_|.err,.p ..,_,_,_,_,h,_|.hid _,.p ..,_,_,_,_,h,_|.sptr ..,.p ..,_,_,_,_,h,_|.clo ..,.p ..,_,_,_,_,h,_|.arr ..,.p ..,_,_,_,_,h,_=>by simp[rdF]at h
def px{α:Type}{r r':α->List K4->List Nat->Prop}(hr:∀x v S,r x v S->S=[]/\r' x v []):∀{xs:List α}{vs:List K4}{S:List Nat},
  eh r xs vs S->S=[]/\eh r' xs vs []
 |[],_,_,h=>⟨h.2,h.1,rfl⟩
 |x::xs,_,_,⟨a,b,j,k,c,d,e,f⟩=>by
  obtain⟨rfl,g⟩:=hr _ _ _ e;obtain⟨rfl,i⟩:=px hr f;exact⟨by simp[d],a,b,[],[],c,rfl,g,i⟩
theorem iU{own':Bool}{w':Lb}:∀{T:Ty}{x:T.den}{vs:List K4}{S:List Nat},T.flat=La->
  rd w X B own T x vs S->S=[]/\rd w' X' B own' T x vs []
 |.unit,_,_,_,_,h|.int _,_,_,_,_,h|.bool,_,_,_,_,h|.fnc _,_,_,_,_,h|.str,_,_,_,_,h=>⟨h.2,h.1,rfl⟩
 |.slice _ _,_,_,_,c,_=>by grind[Ty.flat]
 |.pair a b,_,_,_,c,⟨d,f,q,r,e,g,i,j⟩=>by
  simp only[Ty.flat,pC]at c;obtain⟨rfl,m⟩:=iU c.1 i;obtain⟨rfl,o⟩:=iU c.2 j;exact⟨by simp[g],d,f,[],[],e,rfl,m,o⟩
 |.arr n t,_,_,_,c,⟨h,p⟩=>by
  obtain⟨e,k⟩:=px (r':=rd w' X' B own' t) (λx v S h=>iU (by simp_all[Ty.flat]) h) p;exact⟨e,h,k⟩
 |.err,_,_,_,_,h=>⟨h.2,h.1,rfl⟩
 |.hid _,_,_,_,c,⟨l,y,h⟩=>let⟨e,k⟩:=iU (by simp_all[Ty.flat]) h;⟨e,l,y,k⟩
 |.sptr ..,_,_,_,c,_=>by grind[Ty.flat]
 |.clo ..,_,_,_,c,_=>by grind[Ty.flat]
def J'{α:Type}{r:α->List K4->List Nat->Prop}(hr:∀x v S,r x v S-> ∀u∈v,u.oneCell'=La):∀{xs:List α}{vs:List K4}{S:List Nat},
  eh r xs vs S-> ∀u∈vs,u.oneCell'=La
 |[],_,_,⟨e,_⟩=>by simp[e]
 |x::xs,_,_,⟨b,c,d,f,e,_,g,a⟩=>by
  intro u hu;rw[e]at hu;rcases Lg.1 hu with hu|hu
  ·grind
  ·exact J' hr a u hu
theorem zZ:∀{T:Ty}{x:T.den}{vs:List K4}{S:List Nat},rd w X B own T x vs S-> ∀u∈vs,u.oneCell'=La
 |.unit,_,_,_,h|.int _,_,_,_,h|.bool,_,_,_,h|.fnc _,_,_,_,h|.str,_,_,_,h=>by simp[h.1,Lr]
 |.slice _ _,_,_,_,⟨v,_,_,_,e,_,c,_⟩=>by
  grind[fI,Lr]
 |.pair a b,_,_,_,⟨g,i,j,k,e,_,c,d⟩=>by
  intro u hu;rw[e]at hu;rcases Lg.1 hu with hu|hu
  ·exact zZ c u hu
  ·exact zZ d u hu
 |.arr n t,_,_,_,⟨_,f⟩=>J' (λ_ _ _ h=>zZ h) f
 |.err,_,_,_,⟨⟨v,e,h,_⟩,_⟩=>by simp[e,h]
 |.hid _,_,_,_,⟨_,_,h⟩=>zZ h
 |.sptr ..,_,_,_,⟨_,_,_,_,e,_⟩=>by simp[e,Lr]
 |.clo ..,_,_,_,⟨_,_,e,_⟩=>by simp[e,Lr]
theorem oH:∀{T:Ty}{f:Fl}{x:T.den}{vs:List K4}{S:List Nat},rdF w X B T f x vs S-> ∀u∈vs,u.oneCell'=La
 |T,.d,_,_,_,h=>Ak
 |T,.u b,_,_,_,h=>by grind[rdF,zZ]
 |.pair a b,.p f g,_,_,_,⟨j,k,l,m,e,_,c,i⟩=>by
  intro u hu;rw[e]at hu;rcases Lg.1 hu with hu|hu
  ·exact oH c u hu
  ·exact oH i u hu
 |.slice e t,.p f g,_,_,_,h=>by
  grind[nC,fI,Lr]
 |.unit,.p ..,_,_,_,h|.int _,.p ..,_,_,_,h|.bool,.p ..,_,_,_,h|.fnc _,.p ..,_,_,_,h|.str,.p ..,_,_,_,h|.err,.p ..,_,_,_,h|.hid _,.p ..,_,_,_,h|.sptr ..,.p ..,_,_,_,h|.clo ..,.p ..,_,_,_,h|.arr ..,.p ..,_,_,_,h=>by simp[rdF]at h
abbrev TV:=(T:Ty)×T.den
def fld:(T:Ty)->T.den->Nat->Option TV|.pair a _,x,0=>K1 ⟨a,x.1⟩|.pair _ b,x,i+1=>fld b x.2 i|_,_,_=>K2
def mn:Ty->Nat->Nat|.pair a b,i+1=>a.size+mn b i|_,_=>0
def Zep:Ty->Nat->Option Ty|.pair a _,0=>K1 a|.pair _ b,i+1=>Zep b i|_,_=>K2
def ay(U:Ty)(T:Ty)(x:T.den):Option U.den:=if h:T=U then K1 (h▸x)else K2
def VW:(T:Ty)->T.den->Nat->TV->Option T.den|.pair a _,x,0,y=>(ay a y.1 y.2).map λz=>(z,x.2)|.pair _ b,x,i+1,y=>(VW b x.2 i y).map λz=>(x.1,z)|_,_,_,_=>K2
def Fl.snd:Fl->Fl|.p _ g=>g|f=>f
def WQ:Fl->Nat->Fl|.p a _,0=>a|.p _ b,i+1=>WQ b i|f,_=>f
def ZT:Fl->Nat->Fl->Fl|.p _ b,0,g=>.p g b|.p a b,i+1,g=>.p a (ZT b i g)|f,0,g=>.p g f|f,i+1,g=>.p f (ZT f i g)
def fG{U T:Ty}{x:T.den}{y:U.den}(h:ay U T x=K1 y):(⟨T,x⟩:TV)=⟨U,y⟩:=by
 grind[ay]
def XR{a b:Ty}{f:Fl}{x:(Ty.pair a b).den}(h:rdF w X B (.pair a b) f x vs S):
  ∃v1 v2 S1 S2,vs=v1++v2/\S=S1++S2/\rdF w X B a (WQ f 0) x.1 v1 S1/\rdF w X B b f.snd x.2 v2 S2:=by
 cases f with
 |u o=>
  unfold rdF at h;obtain⟨v1,v2,S1,S2,e,k,i,c⟩:=h;exact⟨v1,v2,S1,S2,e,k,by simp_all[rdF,WQ],by unfold rdF;exact c⟩
 |p f g=>exact h
 |d=>
  unfold rdF at h;obtain⟨i,c,l⟩:=h;refine⟨vs.take a.size,vs.drop a.size,[],[],Ae,by simp[l],?_,?_⟩
  ·unfold rdF WQ;exact⟨by simp[i,Ty.size],λu j=>c u (List.mem_of_mem_take j),rfl⟩
  ·unfold rdF;exact⟨by simp[i,Ty.size],λu j=>c u (List.mem_of_mem_drop j),rfl⟩
def Zx8:∀{T:Ty}{f:Fl}{x:T.den}{i:Nat}{y:TV}{vs:List K4}{S:List Nat},fld T x i=K1 y->rdF w X B T f x vs S->
  ∃pre mid post S1 S2 S3,vs=pre++(mid++post)/\S=S1++(S2++S3)/\pre.length=mn T i/\rdF w X B y.1 (WQ f i) y.2 mid S2/\
   ∀(g:Fl)(y':TV)(mid':List K4)(S2':List Nat)(x':T.den),VW T x i y'=K1 x'->rdF w X B y'.1 g y'.2 mid' S2'->
    rdF w X B T (ZT f i g) x' (pre++(mid'++post)) (S1++(S2'++S3))
 |.pair a b,f,x,0,y,vs,S,c,h=>by
  obtain⟨d,j,S1,S2,e,k,l,m⟩:=XR h;simp only[fld,pB]at c;subst c;refine⟨[],d,j,[],S1,S2,by simpa using e,by simpa using k,by simp[mn],l,?_⟩;intro g y' mid' S2' x' hs n;simp only[VW,Mh]at hs;obtain⟨z,o,rfl⟩:=hs;obtain⟨C,D⟩:=y';have:=fG o;cases this;have:ZT f 0 g=.p g f.snd:=by cases f<;>rfl
  rw[this];exact⟨mid',j,S2',S2,Ae,Ae,n,m⟩
 |.pair a b,f,x,i+1,y,vs,S,c,h=>by
  obtain⟨d,j,S1,S2,e,k,l,m⟩:=XR h;simp only[fld]at c;obtain⟨pre,mid,post,q,r,s,t,u,E,F,v⟩:=Zx8 c m;refine⟨d++pre,mid,post,S1++q,r,s,by rw[e,t];simp,by rw[k,u];simp,by grind[mn,K0],?_,?_⟩
  ·have:WQ f (i+1)=WQ f.snd i:=by cases f<;>simp[WQ]<;>(cases i<;>rfl)
   simp_all
  ·intro g y' mid' S2' x' hs n;simp only[VW,Mh]at hs;obtain⟨z,o,rfl⟩:=hs;have:=v g y' mid' S2' z o n;have A:ZT f (i+1) g=.p (WQ f 0) (ZT f.snd i g):=by cases f<;>rfl
   rw[A];exact⟨d,_,S1,_,Ae,Ae,l,this⟩
 |.unit,_,_,_,_,_,_,c,_|.int _,_,_,_,_,_,_,c,_|.bool,_,_,_,_,_,_,c,_|.fnc _,_,_,_,_,_,_,c,_|.str,_,_,_,_,_,_,c,_|.slice ..,_,_,_,_,_,_,c,_|.err,_,_,_,_,_,_,c,_|.hid _,_,_,_,_,_,_,c,_|.sptr ..,_,_,_,_,_,_,c,_|.clo ..,_,_,_,_,_,_,c,_|.arr ..,_,_,_,_,_,_,c,_=>by simp[fld]at c
def kd:(T:Ty)->T.den->List Nat->Option TV
 |T,x,[]=>K1 ⟨T,x⟩
 |T,x,i::p=>match fld T x i with|some y=>kd y.1 y.2 p|none=>K2
def aB:Ty->List Nat->Nat
 |_,[]=>0
 |T,i::p=>mn T i+(match Zep T i with|some U=>aB U p|none=>0)
def YH:(T:Ty)->T.den->List Nat->TV->Option T.den
 |T,_,[],y=>ay T y.1 y.2
 |T,x,i::p,y=>match fld T x i with
  |some z=>match YH z.1 z.2 p y with|some z'=>VW T x i ⟨z.1,z'⟩|none=>K2
  |none=>K2
def mW:Fl->List Nat->Fl|f,[]=>f|f,i::p=>mW (WQ f i) p
def ZI:Fl->List Nat->Fl->Fl|_,[],g=>g|f,i::p,g=>ZT f i (ZI (WQ f i) p g)
theorem Zk8{T:Ty}{x:T.den}{y:TV}(h:fld T x i=K1 y):Zep T i=K1 y.1:=by
 induction T generalizing i y with
 |pair a b d c=>
  cases i with
  |zero=>simp only[fld,pB]at h;subst h;rfl
  |succ i=>exact c (x:=x.2) h
 |_=>simp[fld]at h
theorem jz:∀{p:List Nat}{T:Ty}{f:Fl}{x:T.den}{y:TV}{vs:List K4}{S:List Nat},kd T x p=K1 y->rdF w X B T f x vs S->
  ∃pre mid post S1 S2 S3,vs=pre++(mid++post)/\S=S1++(S2++S3)/\pre.length=aB T p/\rdF w X B y.1 (mW f p) y.2 mid S2/\
   ∀(g:Fl)(y':TV)(mid':List K4)(S2':List Nat)(x':T.den),YH T x p y'=K1 x'->rdF w X B y'.1 g y'.2 mid' S2'->
    rdF w X B T (ZI f p g) x' (pre++(mid'++post)) (S1++(S2'++S3))
 |[],T,f,x,y,vs,S,b,h=>by
  simp only[kd,pB]at b;subst b;refine⟨[],vs,[],[],S,[],Ae,Ae,by simp[aB],h,?_⟩;intro g y' mid' S2' x' hs d;simp only[YH]at hs;obtain⟨A,C⟩:=y';cases fG hs;simp_all[ZI]
 |i::p,T,f,x,y,vs,S,b,h=>by
  simp only[kd]at b;cases hz:fld T x i with
  |none=>simp_all
  |some z=>
   rw[hz]at b;obtain⟨pre,mid,post,S1,S2,S3,j,k,D,l,n⟩:=Zx8 hz h;obtain⟨c,mid',a,o,q,r,s,t,E,u,v⟩:=jz b l;refine⟨pre++c,mid',a++post,S1++o,q,r++S3,by rw[j,s];simp,by rw[k,t];simp,by grind[aB,Zk8],u,?_⟩;intro g y' m S2' x' hs d;simp only[YH,hz]at hs;cases hq:YH z.1 z.2 p y' with
   |none=>simp_all
   |some e=>
    rw[hq]at hs;have:=n (ZI (WQ f i) p g) ⟨z.1,e⟩ _ _ x' hs (v g y' m S2' e hq d);simp_all[ZI]
def Qij:∀{T:Ty}{x x':T.den}{i:Nat}{y:TV},fld T x i=K1 y-> ∃y',fld T x' i=K1 y'/\y'.1=y.1:=by
 intro T
 induction T with
 |pair a b d c=>
  intro x x' i y h;cases i with
  |zero=>simp only[fld,pB]at h;subst h;exact⟨⟨a,x'.1⟩,rfl,rfl⟩
  |succ i=>exact c (x':=x'.2) h
 |_=>intro x x' i y h;simp[fld]at h
def Zk7:∀{p:List Nat}{T:Ty}{x x':T.den}{y:TV},kd T x p=K1 y-> ∃y',kd T x' p=K1 y'/\y'.1=y.1
 |[],T,x,x',y,h=>by simp only[kd,pB]at h;subst h;exact⟨⟨T,x'⟩,rfl,rfl⟩
 |i::p,T,x,x',y,h=>by
  simp only[kd]at h⊢;cases hz:fld T x i with
  |none=>simp_all
  |some z=>
   rw[hz]at h;obtain⟨b,c,a⟩:=Qij (x':=x') hz;rw[c];obtain⟨Z,e⟩:=z;obtain⟨f,d⟩:=b;simp only at a;subst a;exact Zk7 h
def Qej{t:Ty}{f:Fl}{x:(Ty.arr n t).den}(h:rdF w X B (.arr n t) f x vs S)(hl:f.live=La):∃c,f=.u c:=by
 cases f with
 |u c=>simp_all
 |p a b=>simp[rdF]at h
 |d=>grind[Fl.live]
def yz{α:Type}{r:α->List K4->List Nat->Prop}{sz:Nat}(hr:∀x v S,r x v S->v.length=sz):∀{l:List α}{vs:List K4}{S:List Nat}{i:Nat} (hi:i<l.length),
  eh r l vs S-> ∃pre mid post S1 S2 S3,vs=pre++(mid++post)/\S=S1++(S2++S3)/\pre.length=i*sz/\r l[i] mid S2/\
   eh r (l.take i) pre S1/\eh r (l.drop (i+1)) post S3
 |[],_,_,_,hi,_=>by simp at hi
 |x::l,vs,S,0,_,⟨a,f,S1,S2,b,c,d,e⟩=>⟨[],a,f,[],S1,S2,by simp[b],by simp[c],Ae,d,⟨rfl,rfl⟩,e⟩
 |x::l,vs,S,i+1,hi,⟨a,f,S1,S2,b,c,d,e⟩=>by
  obtain⟨pre,mid,post,g,h,j,k,m,q,n,o,p⟩:=yz hr (i:=i) (by simpa using hi) e;exact⟨a++pre,mid,post,S1++g,h,j,by simp[b,k],by simp[c,m],Ag,by simpa using n,
   ⟨a,pre,S1,g,rfl,rfl,d,o⟩,by simpa using p⟩
inductive Tm where
 |pR|tup
 |val (T:Ty) (f:Fl) (x:T.den)
 |box (e:Lc) (T:Ty) (f:Fl) (x:T.den)
 |ptr (r:Nat) (p:List Nat)
 |shp (T:Ty) (x:T.den)
 |bor (r:Nat) (p:List Nat)
 |elp (r:Nat) (p:List Nat) (i:Int) (q:List Nat)
 |gd (g:Nat) (want:Bool) (t:Tm)
 |aep (r:Nat) (p:List Nat) (i:Int)
 |pls (h:Bool) (l:List (Nat×List Nat))
 |bel (r:Nat) (p:List Nat) (i:Int) (q:List Nat)
 |cl (f:Lo) (l:List Nat)
inductive Key where
 |m (t:Nat)|c (t i:Nat)
def Key.beq:Key->Key->Bool
 |.m t,.m u=>Lf t u
 |.c t i,.c u j=>match Lf t u with|true=>Lf i j|false=>K3
 |_,_=>K3
theorem Key.beq_true{k j:Key}:Key.beq k j=La↔k=j:=by
 cases k<;>cases j<;>simp[Key.beq]
 grind[Lw,pD]
instance:DecidableEq Key:=λk j=>match h:Key.beq k j with
 |true=>isTrue (Key.beq_true.1 h)
 |false=>isFalse λe=>by rw[Key.beq_true.2 e]at h;cases h
structure St where
 env:List (Key×Tm)
 pP:List Nat
 pQ:List Nat:=[]
structure Vc where
 G:Lb->Prop
 GB:Nat->Prop
 lt:∀w b,G w->GB b->b<w.heap.size
 stays:∀w w',G w->(∀b,GB b->w'.heap[b]? =w.heap[b]?)->G w'
 soft:Bool:=K3
def Z1z(u v:K4):Prop:=u=v\/(∃k x y,u=.int k x/\v=.int k y)\/(∃x y,u=.bool x/\v=.bool y)\/(∃x y,u=.string x/\v=.string y)
theorem Z1z.refl(u:K4):Z1z u u:=.inl rfl
theorem Z1z.trans{x:K4}(h:Z1z u v)(h':Z1z v x):Z1z u x:=by
 rcases h with rfl|⟨k,a,b,rfl,rfl⟩|⟨a,b,rfl,rfl⟩|⟨a,b,rfl,rfl⟩
 ·exact h'
 ·rcases h' with rfl|⟨_,_,c,e,rfl⟩|⟨_,_,e,_⟩|⟨_,_,e,_⟩
  ·exact .inr (.inl ⟨_,_,_,rfl,rfl⟩)
  ·simp only[Ma.injEq]at e;obtain⟨rfl,rfl⟩:=e;exact .inr (.inl ⟨_,_,_,rfl,rfl⟩)
  all_goals simp_all
 ·rcases h' with rfl|⟨_,_,c,e,rfl⟩|⟨_,_,e,rfl⟩|⟨_,_,e,_⟩
  ·exact .inr (.inr (.inl ⟨_,_,rfl,rfl⟩))
  ·cases e
  ·exact .inr (.inr (.inl ⟨_,_,rfl,rfl⟩))
  ·cases e
 ·rcases h' with rfl|⟨_,_,c,e,rfl⟩|⟨_,_,e,_⟩|⟨_,_,e,rfl⟩
  ·exact .inr (.inr (.inr ⟨_,_,rfl,rfl⟩))
  ·cases e
  ·cases e
  ·exact .inr (.inr (.inr ⟨_,_,rfl,rfl⟩))
def Z68(L:Nat->Prop)(w w':Lb):Prop:= ∀ad u,L ad.block->w.cell? ad=K1 u-> ∃u',w'.cell? ad=K1 u'/\Z1z u u'
theorem Z68.trans{L:Nat->Prop}{w w' w2:Lb}(h:Z68 L w w')(h':Z68 L w' w2):Z68 L w w2:=λa u b c=>by
 obtain⟨d,e,f⟩:=h a u b c;obtain⟨u2,g,i⟩:=h' a d b e;exact⟨u2,g,f.trans i⟩
def Qj4(w:Lb)(b:Nat):Prop:= ∃c e,w.heap[b]? =K1 (.cells c e (0,0))
def Qj4.lt{w:Lb}(h:Qj4 w b):b<w.heap.size:=by
 obtain⟨c,e,h⟩:=h
 grind
def big:Nat:=1048576
def xQ(gh:Nat->K4)(a:Act)(t:Nat):K4:=match a.tmps[t]? with|some v=>v|none=>gh t
def Xj(gh:Nat->K4)(a:Act):Key->K4
 |.m t=>xQ gh a t
 |.c t i=>match xQ gh a t with
  |.tuple vs=>vs.getD i undef
  |_=>undef
structure fF(g:Vc) where
 W:Lb
 B:Nat
 Y:Nat->Prop
 L:Nat->Prop
 X0:Nat->Prop
 fix:List (Nat×K4)
 bB:B<=W.heap.size
 yW:∀k,Y k->k<W.heap.size
 yL:∀k,Y k-> ¬L k
 fr:g.soft=La-> ∀k,g.GB k-> ¬Y k
 gh:Nat->K4:=λ_=>undef
 ghU:∀t,t<big->gh t=undef:=by intro _ _;rfl
def fF.mine{g:Vc}(z:fF g)(k:Nat):Prop:=z.W.heap.size<=k\/z.L k
def fF.sep{g:Vc}(z:fF g){k:Nat}(h:z.Y k)(hb:z.mine b):k≠b:=λe=>by
 subst e;rcases hb with hb|hb
 ·have:=z.yW k h;omega
 ·exact z.yL k h hb
structure fF.below{g:Vc}(z:fF g)(w:Lb):Prop where
 os:w.os=z.W.os
 tape:w.tape=z.W.tape
 output:w.output=z.W.output
 size:z.W.heap.size<=w.heap.size
 block:∀k,z.Y k->w.heap[k]? =z.W.heap[k]?
def fF.below.sizeB{g:Vc}{z:fF g}{w:Lb}(h:z.below w):z.B<=w.heap.size:=Mg z.bB h.size
def fF.below.new{g:Vc}{z:fF g}{w:Lb}(h:z.below w):z.mine w.heap.size:=.inl h.size
def fF.below.step{g:Vc}{z:fF g}{w w':Lb}(h:z.below w)(hb:Below w.heap.size w w'):z.below w':=
 ⟨hb.os.trans h.os,hb.tape.trans h.tape,hb.output.trans h.output,Mg h.size hb.size,λk hk=>(hb.block k (Lx (z.yW k hk) h.size)).trans (h.block k hk)⟩
def fF.plain(g:Vc)(w:Lb)(hs:g.soft=K3):fF g:={fr:=λh=>Bool.noConfusion (hs.symm.trans h),W:=w,B:=w.heap.size,Y:=(· <w.heap.size),L:=λ_=>False,X0:=(· <w.heap.size),fix:=[],bB:=L1 _,yW:=λ_ h=>h,yL:=λ_ _ h=>h}
def mX:List (Key×Tm)->Key->Tm
 |[],_=>.pR
 |(k,t)::r,j=>match Key.beq k j with
  |true=>t
  |false=>mX r j
def St.get(s:St)(k:Key):Tm:=mX s.env k
def St.pN(s:St)(r:Nat):Bool:=s.pP.any (Lf r)
def sl(r:Nat):Nat:=r+1099511627776
def Zne(r:Nat):Nat:=r+2199023255552
def Znd(r i:Nat):Nat:=r+(i+3)*1099511627776
def St.bad(s:St)(r:Nat):List Nat->Bool|[]=>s.pN r||s.pN (Zne r)|i::_=>s.pN r||s.pN (Znd r i)
theorem St.bad_foul{s:St}{r:Nat}:∀{p:List Nat},s.bad r p=K3->s.pN r=K3
 |[],h=>by simp_all[St.bad]
 |_::_,h=>by simp_all[St.bad]
theorem Qg(k:Key)(t:Tm)(s:List (Key×Tm))(j:Key):mX ((k,t)::s) j=ite (k=j) t (mX s j):=by
 grind[mX,Key.beq_true]
def Key.t:Key->Nat|.m t=>t|.c t _=>t
def wq(h:d<a.tmps.size):Xj gh (a.put (K1 d) v) (.m d)=v:=by
 simp[Xj,xQ,Ly,h]
theorem gt{k:Key}(h:k.t≠d):Xj gh (a.put (K1 d) v) k=Xj gh a k:=by
 have:(a.tmps.setIfInBounds d v)[k.t]? =a.tmps[k.t]? :=Ag
 cases k<;>simp only[Key.t]at this<;>simp[Xj,xQ,Ly,this]
def Yv(gh:Nat->K4)(w:Lb)(s:St)(F:Key->List Nat)(a:Act)(r:Nat)(p:List Nat)(v:K4)(U:Ty):Prop:=
 match s.get (.m r)with
 |.val T _ _=>p=[]/\U=T/\v=Xj gh a (.m r)
 |.box e T _ x=> ∃b c S y,F (.m r)=b::S/\w.heap[b]? =K1 (.cells c e (0,0))/\kd T x p=K1 y/\U=y.1/\v=Jd y.1 ((c.toList.drop (aB T p)).take y.1.size)
 |_=>False
def atP(s:St)(F:Key->List Nat)(r:Nat)(p:List Nat)(v:K4):Prop:=∃e T f x b S',s.get (.m r)=.box e T f x/\F (.m r)=b::S'/\v=.pointer (K1 ⟨b,aB T p,K2⟩)
def Qsc(w:Lb)(X:Nat->Prop)(s:St)(F:Key->List Nat)(h:Bool)(l:List (Nat×List Nat))(v:K4):Prop:=
 ∃(ad:Lj) (us:List K4),X ad.block/\(∀j u,us[j]? =K1 u->w.cell? (ad.add j)=K1 u)/\us.length=l.length/\(∀(j:Nat)(q:Nat×List Nat),l[j]? =K1 q-> ∃u,us[j]? =K1 u/\atP s F q.1 q.2 u)/\
  (match h with|true=>v=.slice (K1 ad) l.length l.length/\l.length<=maxLen|false=>v=.pointer (K1 ad))
def clV(s:St)(F:Key->List Nat)(f:Lo)(l:List Nat)(v:K4):Prop:=∃us:List K4,v=.func (.func f) #[] us.toArray/\us.length=l.length/\ ∀(j:Nat)(q:Nat),l[j]? =K1 q-> ∃u,us[j]? =K1 u/\atP s F q [] u
def vt(gh:Nat->K4)(w:Lb)(X:Nat->Prop)(B:Nat)(s:St)(F:Key->List Nat)(a:Act)(v:K4)(S:List Nat):Tm->Prop|.pR|.tup=>S=[]|.val T f x=> ∃vs,v=Jd T vs/\rdF w X B T f x vs S|.box e T f x=> ∃b c S',v=.pointer (K1 ⟨b,0,K2⟩)/\S=b::S'/\w.heap[b]? =K1 (.cells c e (0,0))/\rdF w X B T f x c.toList S'|.ptr r p=>S=[]/\ ∃e T f x b S',s.get (.m r)=.box e T f x/\F (.m r)=b::S'/\v=.pointer (K1 ⟨b,aB T p,K2⟩)|.shp T x=>S=[]/\ ∃ad vs,v=.pointer (K1 ad)/\X ad.block/\(∀j u,vs[j]? =K1 u->w.cell? (ad.add j)=K1 u)/\rd w X B K3 T x vs []|.bor r p=>S=[]/\(s.bad r p=K3-> ∃U,Yv gh w s F a r p v U)|.elp r p i q=>S=[]/\(s.bad r p=K3-> ∃e t ad n cap,Yv gh w s F a r p (.slice (K1 ad) n cap) (.slice e t)/\0<=i/\i<n/\ v=.pointer (K1 (ad.add (i.toNat*t.size+aB t q))))|.aep r p i=>S=[]/\ ∃e T f x b S' n t y,s.get (.m r)=.box e T f x/\F (.m r)=b::S'/\kd T x p=K1 ⟨.arr n t,y⟩/\0<=i/\i<n/\v=.pointer (K1 ⟨b,aB T p+i.toNat*t.size,K2⟩)|.pls h l=>S=[]/\Qsc w X s F h l v|.bel r p i q=>S=[]/\(s.bad r p=K3->s.pN (sl r)=K3-> ∃e t ad n cap x0 y cs,Yv gh w s F a r p (.slice (K1 ad) n cap) (.slice e t)/\0<=i/\i<n/\ ad.block∈F (.m r)/\kd t x0 q=K1 y/\v=Jd y.1 cs/\cs.length=y.1.size/\ ∀(j:Nat) u,cs[j]? =K1 u->w.cell? (ad.add (i.toNat*t.size+aB t q+j))=K1 u)|.cl f l=>S=[]/\clV s F f l v|.gd g want t=>s.pN g=K3->s.get (.m g)≠ .pR/\(Xj gh a (.m g)=.bool want->vt gh w X B s F a v S t)/\(Xj gh a (.m g)≠ .bool want->S=[]/\v=undef)
structure R{g:Vc}(n:Nat)(W0:fF g)(w:Lb)(X:Nat->Prop)(F:Key->List Nat)(H:List Nat)(s:St)(a:Act):Prop where
 size:a.tmps.size=n
 defers:a.defers=[]
 below:W0.below w
 glob:g.G w
 gx:∀b,g.GB b->X b
 xs:g.soft=La-> ∀b,X b->g.GB b
 fix:∀p,p∈W0.fix->p.1∈s.pQ/\Xj W0.gh a (.m p.1)=p.2
 xlt:∀b,X b->b<w.heap.size
 xin:∀b,X b->W0.X0 b\/W0.mine b
 x0:∀b,W0.X0 b->X b
 own:∀k b,b∈F k->W0.mine b/\b<w.heap.size/\ ¬X b
 nodup:∀k,(F k).Nodup
 pS:∀k k' b,b∈F k->b∈F k'->k=k'
 hown:∀b,b∈H->W0.mine b/\b<w.heap.size/\ ¬X b
 pK:H.Nodup
 pL:∀k b,b∈F k->b∉H
 pM:∀d i,s.get (.c d i)≠ .pR->s.get (.m d)=.tup/\ ∃vs,Xj W0.gh a (.m d)=.tuple vs/\i<vs.size
 slots:∀k,vt W0.gh w X W0.B s F a (Xj W0.gh a k) (F k) (s.get k)
variable {g:Vc}{W0:fF g}{n:Nat}{s:St}{F:Key->List Nat}{a:Act}{H:List Nat}{gh:Nat->K4}
def VD{r:Nat}{U:Ty}(h:Yv gh w s F a r p v U)(hF:∀b∈F (.m r),w'.heap[b]? =w.heap[b]?):Yv gh w' s F a r p v U:=by
 grind[Yv]
def KF{s2:St}{F2:Key->List Nat}(hX:∀b,X b->X' b)(hw:∀b,X b->w'.heap[b]? =w.heap[b]?)(ha:∀r p v,atP s F r p v->atP s2 F2 r p v){h:Bool}{l:List (Nat×List Nat)}
  (hv:Qsc w X s F h l v):Qsc w' X' s2 F2 h l v:=by
 obtain⟨a,c,d,g,e,i,f⟩:=hv;refine⟨a,c,hX _ d,λj u k=>?_,e,λj q m=>?_,f⟩
 all_goals grind[Lu,Ls]
def qp(hX:∀b,X b->X' b)(hw:∀b,X b->w'.heap[b]? =w.heap[b]?)(hF:∀k b,b∈F k->w'.heap[b]? =w.heap[b]?){v:K4}{S:List Nat}(hS:∀b∈S,w'.heap[b]? =w.heap[b]?):∀{t:Tm},
  vt gh w X B s F a v S t->vt gh w' X' B s F a v S t
 |.pR,h|.tup,h=>h
 |.val T f x,⟨C,d,o⟩=>⟨C,d,XQ hX hw o hS⟩
 |.box e T f x,⟨b,c,G,d,o,H,D⟩=>
  ⟨b,c,G,d,o,Ac,XQ hX hw D λI J=>hS I Ac⟩
 |.ptr r p,h=>h
 |.aep r p i,h=>h
 |.pls _ _,⟨l,h⟩=>⟨l,KF hX hw (λ_ _ _ h=>h) h⟩
 |.cl _ _,h=>h
 |.bel r p i q,⟨l,d⟩=>⟨l,λz K=>let⟨e,t,A,n,cap,x0,y,cs,h,k1,k2,k3,k4,k5,k6,k7⟩:=d z K;⟨e,t,A,n,cap,x0,y,cs,VD h (hF (.m r)),k1,k2,k3,k4,k5,k6,λj u L=>by
   grind[Lu,Ls]⟩⟩
 |.shp T x,⟨l,A,C,d,o,H,D⟩=>
  ⟨l,A,C,d,hX _ o,λj u L=>by
   grind[Lu,Ls],eU hX hw D Ae⟩
 |.bor r p,⟨l,d⟩=>⟨l,λz=>let⟨U,h⟩:=d z;⟨U,VD h (hF (.m r))⟩⟩
 |.elp r p i q,⟨l,d⟩=>⟨l,λz=>let⟨e,t,A,n,cap,h,h'⟩:=d z;⟨e,t,A,n,cap,VD h (hF (.m r)),h'⟩⟩
 |.gd g E t,h=>λz=>let⟨l,d,o⟩:=h z;⟨l,λM=>qp hX hw hF hS (d M),o⟩
def R.world(h:R n W0 w X F H s a)(hb:W0.below w')(hs:w.heap.size<=w'.heap.size)(hX:∀b,X b->w'.heap[b]? =w.heap[b]?)
  (hF:∀k b,b∈F k->w'.heap[b]? =w.heap[b]?):R n W0 w' X F H s a:=
 {h with
  below:=hb
  glob:=g.stays _ _ h.glob λb hb=>hX b (h.gx b hb)
  xlt:=λb c=>Lx (h.xlt b c) hs
  own:=λk b c=>let⟨h1,h2,h3⟩:=h.own k b c;⟨h1,Lx h2 hs,h3⟩
  hown:=λb c=>let⟨h1,h2,h3⟩:=h.hown b c;⟨h1,Lx h2 hs,h3⟩
  slots:=λk=>qp (λ_ h=>h) hX hF (hF k) (h.slots k)}
def R.drop(h:R n W0 w X F (S++H) s a):R n W0 w X F H s a:=
 {h with
  hown:=λb c=>h.hown b (by simp[c])
  pK:=(Lm.1 h.pK).2.1
  pL:=λk b c d=>h.pL k b c (by simp[d])}
def R.hand(h:R n W0 w X F H s a)(hS:∀b∈S,W0.mine b/\b<w.heap.size/\ ¬X b)(hn:S.Nodup)(hF:∀k b,b∈F k->b∉S)(hH:∀b∈S,b∉H):
  R n W0 w X F (S++H) s a:=
 {h with
  hown:=λb c=>(Lg.1 c).elim (hS b) (h.hown b)
  pK:=Lm.2 ⟨hn,h.pK,λx hx y d e=>hH x hx (by rw[e];exact d)⟩
  pL:=λk b c f=>(Lg.1 f).elim (hF k b c) (h.pL k b c)}
def R.give(hs:g.soft=K3)(h:R n W0 w X F (S++H) s a):R n W0 w (λb=>X b\/b∈S) F H s a:=
 {h.drop with
  gx:=λb c=>.inl (h.gx b c)
  xs:=λe=>Ac
  xlt:=λb c=>c.elim (h.xlt b) λc=>(h.hown b (by simp[c])).2.1
  xin:=λb c=>c.elim (h.xin b) λc=>.inr (h.hown b (by simp[c])).1
  x0:=λb c=>.inl (h.x0 b c)
  own:=λk b c=>let⟨h1,h2,h3⟩:=h.own k b c;⟨h1,h2,λhx=>hx.elim h3 λd=>h.pL k b c (by simp[d])⟩
  hown:=λb c=>let⟨h1,h2,h3⟩:=h.hown b (by simp[c]);⟨h1,h2,λhx=>hx.elim h3 λd=>(Lm.1 h.pK).2.2 b d b c rfl⟩
  slots:=λk=>qp (λ_ h=>.inl h) (λ_ _=>rfl) (λ_ _ _=>rfl) (λ_ _=>rfl) (h.slots k)}
def St.free(s:St)(d:Nat):Bool:= !(s.pQ.any (Lf d))
def aX(s:St)(d:Nat):Bool:=
 match s.get (.m d)with
 |.box .. |.tup=>K3
 |_=>s.free d
def Zzj{s:St}(h:aX s d=La):d∉s.pQ:=by
 grind[St.free,Lw,aX]
def Wc(s:St)(d:Nat)(t:Tm):St:=
 {env:=(.m d,t)::s.env,pP:=match s.get (.m d)with|.pR=>s.pP|_=>d::s.pP,pQ:=s.pQ}
theorem s5(s:St)(d:Nat)(t:Tm)(k:Key):(Wc s d t).get k=ite (Key.m d=k) t (s.get k):=Qg _ _ _ _
def JB(s:St)(d:Nat)(t:Tm):(Wc s d t).get (.m d)=t:=by rw[s5];simp
def Zlh{s:St}{t:Tm}{r:Nat}(h:(Wc s d t).pN r=K3):s.pN r=K3/\(r=d->s.get (.m r)=.pR):=by
 grind[Wc,St.pN,Lw]
def Zdu{s s2:St}(h:∀r,s2.pN r=K3->s.pN r=K3){r:Nat}:∀{p:List Nat},s2.bad r p=K3->s.bad r p=K3
 |[],a=>by simp_all[St.bad]
 |_::_,a=>by simp_all[St.bad]
def Z1h{s:St}{t:Tm}{r:Nat}(h:(Wc s d t).bad r p=K3):s.bad r p=K3/\(r=d->s.get (.m r)=.pR):=
 ⟨Zdu (λ_ h=>(Zlh h).1) h,(Zlh (St.bad_foul h)).2⟩
abbrev Xm(F:Key->List Nat)(k:Key)(S:List Nat):Key->List Nat:=λj=>ite (j=k) S (F j)
def Zvf{t:Tm}{r:Nat}{U:Ty}(hr:r≠d)
  (h:Yv gh w s F a r p u U):Yv gh w (Wc s d t) (Xm F (.m d) S) (a.put (K1 d) v) r p u U:=by
 have e:(Wc s d t).get (.m r)=s.get (.m r):=by simp_all[s5,Ll]
 unfold Yv at*
 rw[e];cases hg:s.get (.m r)<;>rw[hg]at h<;>simp only at h⊢
 ·grind[gt,Key.t]
 grind
def Zpr{r:Nat}{U:Ty}(h:Yv gh w s F a r p v U):s.get (.m r)≠ .pR:=by
 grind[Yv]
def Qcx{t:Tm}(hd:aX s d=La){r:Nat}(hu:atP s F r p v):atP (Wc s d t) (Xm F (.m d) S0) r p v:=by
 obtain⟨e,T,f,x,b,a,g,h,c⟩:=hu;have i:r≠d:=λj=>AC
 refine⟨e,T,f,x,b,a,?_,Ag,c⟩;simp_all[s5,Ll]
def Ziz{s2:St}{F2:Key->List Nat}(ha:∀r p v,atP s F r p v->atP s2 F2 r p v)(hv:clV s F f l v):clV s2 F2 f l v:=by
 obtain⟨a,b,c,d⟩:=hv;refine⟨a,b,c,λj q e=>?_⟩
 grind
def Qcq{t:Tm}{v0:K4}(hd:aX s d=La):∀{u:Tm},
  vt gh w X B s F a v S u->vt gh w X B (Wc s d t) (Xm F (.m d) S0) (a.put (K1 d) v0) v S u:=by
 intro u c
 induction u with
 |pR=>exact c
 |tup=>exact c
 |val T f x=>exact c
 |box e T f x=>exact c
 |shp T x=>exact c
 |ptr r p=>
  obtain⟨k,e,T,f,x,b,H,o,G,D⟩:=c;have z:r≠d:=λK=>AC
  refine⟨k,e,T,f,x,b,H,?_,Ag,D⟩;simp_all[s5,Ll]
 |aep r p i=>
  obtain⟨k,e,T,f,x,b,H,n,E,y,o,G,D⟩:=c;have z:r≠d:=λK=>AC
  refine⟨k,e,T,f,x,b,H,n,E,y,?_,Ag,D⟩;simp_all[s5,Ll]
 |bor r p=>
  obtain⟨k,o⟩:=c;refine⟨k,λj=>?_⟩;obtain⟨j,A⟩:=Z1h j;obtain⟨U,h⟩:=o j;have z:r≠d:=λe=>Zpr h (A e);exact⟨U,Zvf z h⟩
 |elp r p i q=>
  obtain⟨k,o⟩:=c;refine⟨k,λj=>?_⟩;obtain⟨j,A⟩:=Z1h j;obtain⟨e,E,I,n,C,h,G,D,L⟩:=o j;have z:r≠d:=λe=>Zpr h (A e);exact⟨e,E,I,n,C,Zvf z h,G,D,L⟩
 |bel r p i q=>
  obtain⟨k,o⟩:=c;refine⟨k,λj M=>?_⟩;obtain⟨j,A⟩:=Z1h j;obtain⟨e,E,I,n,C,N,y,O,h,P,Q,W,V⟩:=o j (Zlh M).1;have z:r≠d:=λe=>Zpr h (A e);exact⟨e,E,I,n,C,N,y,O,Zvf z h,P,Q,Ag,V⟩
 |cl f l=>exact⟨c.1,Ziz (λ_ _ _ h=>Qcx hd h) c.2⟩
 |pls h l=>exact⟨c.1,KF (λ_ h=>h) (λ_ _=>rfl) (λ_ _ _ h=>Qcx hd h) c.2⟩
 |gd g J u Y=>
  intro j;obtain⟨j,A⟩:=Zlh j;obtain⟨k,o,G⟩:=c j;have Z:g≠d:=λe=>k (A e);have hv:Xj gh (a.put (K1 d) v0) (.m g)=Xj gh a (.m g):=gt (by simp_all[Key.t]);simp_all[s5,Ll]
def R.put{d:Nat}{t:Tm}{v:K4}{S:List Nat}(h:R n W0 w X F (S++H) s a)(hd:aX s d=La)(hn:d<n)
  (hr:vt W0.gh w X W0.B s F a v S t):
  R n W0 w X (Xm F (.m d) S) H (Wc s d t) (a.put (K1 d) v) where
 size:=by simp[Ly,h.size]
 defers:=by simp[Ly,h.defers]
 below:=h.below
 glob:=h.glob
 gx:=h.gx
 xs:=h.xs
 fix:=λp o=>⟨(h.fix p o).1,by
  have:=Zzj hd;have u:p.1≠d:=λe=>this (e▸(h.fix p o).1);rw[gt (by simp_all[Key.t])];exact(h.fix p o).2⟩
 xlt:=h.xlt
 xin:=h.xin
 x0:=h.x0
 own:=λk b f=>by
  simp only[Xm]at f;split at f
  ·exact h.hown b (by simp[f])
  ·exact h.own k b f
 nodup:=λk=>by
  simp only[Xm];split
  ·exact(Lm.1 h.pK).1
  ·exact h.nodup k
 pS:=λk r b f g=>by
  simp only[Xm]at f g;split at f<;>split at g
  ·simp_all
  ·exact absurd (by simp[f]) (h.pL r b g)
  ·exact absurd (by simp[g]) (h.pL k b f)
  ·exact h.pS k r b f g
 hown:=h.drop.hown
 pK:=h.drop.pK
 pL:=λk b f=>by
  simp only[Xm]at f;split at f
  ·exact λx=>(Lm.1 h.pK).2.2 b f b x rfl
  ·exact h.drop.pL k b f
 pM:=λq i l=>by
  rw[s5]at l⊢;simp only[reduceCtorEq,if_false]at l;obtain⟨A,y⟩:=h.pM q i l;by_cases e:d=q
  ·simp_all[aX]
  ·refine⟨Ac,?_⟩;rw[gt (a:=a) (v:=v) (k:=.m q) (d:=d) (by simp_all[Key.t,Ll])];exact y
 slots:=λk=>by
  by_cases hk:k=.m d
  ·subst hk;rw[JB,wq (by rw[h.size];exact hn)];simp_all[Qcq,Xm]
  ·have e:Xm F (.m d) S k=F k:=by simp[Xm,hk]
   rw[s5,e];simp only[Ll hk,if_false];by_cases j:k.t=d
   ·cases k with
    |m t=>simp_all[Key.t]
    |c t i=>
     simp[Key.t]at j;subst j;have z:s.get (.c t i)=.pR:=Classical.byContradiction λl=>by
      have:=(h.pM t i l).1;simp_all[aX]
     have:=h.slots (.c t i);rw[z]at this⊢;exact this
   ·rw[gt j];exact Qcq hd (h.slots k)
def bY(s:St)(r:Nat)(t:Tm):St:={env:=(.m r,t)::s.env,pP:=r::s.pP,pQ:=s.pQ}
theorem Vr(s:St)(r:Nat)(t:Tm)(k:Key):(bY s r t).get k=ite (Key.m r=k) t (s.get k):=Qg _ _ _ _
theorem ZQ{r' r:Nat}{t:Tm}(h:(bY s r t).pN r'=K3):s.pN r'=K3/\r'≠r:=by
 grind[bY,St.pN,Lw]
def Qtn(gh:Nat->K4)(w w':Lb)(s s2:St)(F F2:Key->List Nat)(a:Act)(d:Nat):Prop:=s2.get (.m d)≠ .pR/\ ∀p v U,Yv gh w s F a d p v U->Yv gh w' s2 F2 a d p v U
structure Zee(gh:Nat->K4)(w w':Lb)(s s2:St)(F F2:Key->List Nat)(a:Act)(d:Nat)(t:Tm):Prop where
 pQ:s2.pQ=s.pQ
 get:∀k,s2.get k=ite (Key.m d=k) t (s.get k)
 pN:∀r,s2.pN r=K3->s.pN r=K3/\(r=d->s2.get (.m d)≠ .pR)
 bad:∀r p,s2.bad r p=K3->s.bad r p=K3/\(r=d-> ∀v U,Yv gh w s F a d p v U->Yv gh w' s2 F2 a d p v U)
 el:∀r,s2.pN r=K3->s2.pN (sl r)=K3->s.pN (sl r)=K3/\r≠d
def Zvd{t:Tm}{F2:Key->List Nat}:Zee gh w w' s (bY s d t) F F2 a d t where
 pQ:=rfl
 get:=Vr s d t
 pN _ h:=⟨(ZQ h).1,λe=>absurd e (ZQ h).2⟩
 bad _ _ h:=⟨Zdu (λ_ h=>(ZQ h).1) h,λe=>absurd e (ZQ (St.bad_foul h)).2⟩
 el _ h he:=⟨(ZQ he).1,(ZQ h).2⟩
def Z2g{s2:St}{t:Tm}{r:Nat}{U:Ty}(ht:Zee gh w w' s s2 F (Xm F (.m d) S) a d t)(hr:r≠d)
  (hF:∀b∈F (.m r),w'.heap[b]? =w.heap[b]?) (h:Yv gh w s F a r p u U):Yv gh w' s2 (Xm F (.m d) S) a r p u U:=by
 have e:s2.get (.m r)=s.get (.m r):=by rw[ht.get];simp[Ll hr]
 have h:=VD h hF;simp_all[Yv,Xm]
def Zsy{s2:St}{t:Tm}(ht:Zee gh w w' s s2 F (Xm F (.m d) S0) a d t)(hX:∀b,X b->X' b)(hw:∀b,X b->w'.heap[b]? =w.heap[b]?)
  (hF:∀k b,k≠ .m d->b∈F k->w'.heap[b]? =w.heap[b]?) (hS:∀b∈S,w'.heap[b]? =w.heap[b]?)
  (same:∀e T f x b S',s.get (.m d)=.box e T f x->F (.m d)=b::S'-> ∃f' x' S'',t=.box e T f' x'/\S0=b::S''):∀{u:Tm},
  vt gh w X B s F a v S u->vt gh w' X' B s2 (Xm F (.m d) S0) a v S u:=by
 intro u o;have V:∀{r:Nat}{p:List Nat}{v:K4}{U:Ty},(r=d-> ∀v U,Yv gh w s F a d p v U->Yv gh w' s2 (Xm F (.m d) S0) a d p v U)->Yv gh w s F a r p v U->Yv gh w' s2 (Xm F (.m d) S0) a r p v U:=by
  intro r p v U hk hv;by_cases z:r=d
  ·simp_all
  ·exact Z2g ht z (λb=>hF (.m r) b (by simpa using z)) hv
 induction u with
 |pR=>exact o
 |tup=>exact o
 |val T f x=>exact qp (s:=s) (F:=λ_=>[]) (a:=a) (v:=v) (t:=.val T f x) hX hw Ae hS (show vt gh w X B s (λ_=>[]) a v S (.val T f x)from o)
 |box e T f x=>exact qp (s:=s) (F:=λ_=>[]) (a:=a) (v:=v) (t:=.box e T f x) hX hw Ae hS (show vt gh w X B s (λ_=>[]) a v S (.box e T f x)from o)
 |shp T x=>exact qp (s:=s) (F:=λ_=>[]) (a:=a) (v:=v) (t:=.shp T x) hX hw Ae hS (show vt gh w X B s (λ_=>[]) a v S (.shp T x)from o)
 |ptr r p=>
  obtain⟨C,e,T,f,x,b,S',c,E,D⟩:=o;by_cases z:d=r
  ·subst z;obtain⟨f',x',S'',rfl,rfl⟩:=same e T f x b S' c E;exact⟨C,e,T,f',x',b,S'',by rw[ht.get];simp,by simp[Xm],D⟩
  ·exact⟨C,e,T,f,x,b,S',by rw[ht.get];simp[z,c],Ag,D⟩
 |aep r p i=>
  obtain⟨C,e,T,f,x,b,S',n,H,y,c,E,D,O⟩:=o;by_cases z:d=r
  ·subst z;obtain⟨f',x',S'',rfl,rfl⟩:=same e T f x b S' c E;obtain⟨⟨T2,W⟩,J,I⟩:=Zk7 (x':=x') D;simp only at I;subst I;exact⟨C,e,T,f',x',b,S'',n,H,W,by rw[ht.get];simp,by simp[Xm],J,O⟩
  ·exact⟨C,e,T,f,x,b,S',n,H,y,by rw[ht.get];simp[z,c],Ag,D,O⟩
 |bor r p=>
  obtain⟨C,c⟩:=o;refine⟨C,λA=>?_⟩;obtain⟨A,G⟩:=ht.bad r p A
  grind
 |elp r p i q=>
  obtain⟨C,c⟩:=o;refine⟨C,λA=>?_⟩;obtain⟨A,G⟩:=ht.bad r p A
  grind
 |bel r p i q=>
  obtain⟨C,c⟩:=o;refine⟨C,λA K=>?_⟩;obtain⟨K,z⟩:=ht.el r (St.bad_foul A) K;obtain⟨A,G⟩:=ht.bad r p A;obtain⟨e,H,L,n,M,Y,y,Z,h,J,I,k3,k4,k5,k6,k7⟩:=c A K;have P:∀m,(L.add m).block=L.block:=λm=>by grind[Lu]
  exact⟨e,H,L,n,M,Y,y,Z,V G h,J,I,Ag,k4,k5,k6,λj u G=>by
   grind[Ls]⟩
 |cl f l=>
  refine⟨o.1,Ziz (λr p v N=>?_) o.2⟩;obtain⟨e,T,f,x,b,S',c,E,D⟩:=N;by_cases z:d=r
  ·subst z;obtain⟨f',x',S'',rfl,rfl⟩:=same e T f x b S' c E;exact⟨e,T,f',x',b,S'',by rw[ht.get];simp,by simp[Xm],D⟩
  ·exact⟨e,T,f,x,b,S',by rw[ht.get];simp[z,c],Ag,D⟩
 |pls hh l=>
  refine⟨o.1,KF hX hw (λr p v N=>?_) o.2⟩;obtain⟨e,T,f,x,b,S',c,E,D⟩:=N;by_cases z:d=r
  ·subst z;obtain⟨f',x',S'',rfl,rfl⟩:=same e T f x b S' c E;exact⟨e,T,f',x',b,S'',by rw[ht.get];simp,by simp[Xm],D⟩
  ·exact⟨e,T,f,x,b,S',by rw[ht.get];simp[z,c],Ag,D⟩
 |gd g Q u ih=>
  intro A;obtain⟨A,G⟩:=ht.pN g A;obtain⟨C,c,E⟩:=o A;refine⟨?_,λP=>ih (c P),E⟩;by_cases hg:g=d
  ·simp_all
  ·rw[ht.get];grind
def R.turn'{s2:St}{r:Nat}{t:Tm}(h:R n W0 w X F H s a)(hT:Zee W0.gh w w' s s2 F (Xm F (.m r) S') a r t)
  (hb:W0.below w') (hs:w.heap.size<=w'.heap.size) (hX:∀b,X b->w'.heap[b]? =w.heap[b]?)
  (hF:∀k b,k≠ .m r->b∈F k->w'.heap[b]? =w.heap[b]?)
  (hin:∀b,b∈S'++H'->b∈F (.m r)++H) (hn:(S'++H').Nodup) (ht:s.get (.m r)≠ .tup)
  (same:∀e T f x b S,s.get (.m r)=.box e T f x->F (.m r)=b::S-> ∃f' x' S'',t=.box e T f' x'/\S'=b::S'')
  (hr:vt W0.gh w' X W0.B s2 (Xm F (.m r) S') a (Xj W0.gh a (.m r)) S' t):
  R n W0 w' X (Xm F (.m r) S') H' s2 a:=by
 have j:∀b,b∈S'++H'->W0.mine b/\b<w.heap.size/\ ¬X b:=λb hb=>
  (Lg.1 (hin b hb)).elim (h.own _ b) (h.hown b)
 have l:∀k b,k≠ .m r->b∈F k->b∉S'++H':=λk b hk hb c=>
  (Lg.1 (hin b c)).elim (λc=>hk (h.pS _ _ b hb c)) (h.pL k b hb)
 exact
 {size:=h.size
  defers:=h.defers
  below:=hb
  glob:=g.stays _ _ h.glob λb hb=>hX b (h.gx b hb)
  gx:=h.gx
  xs:=h.xs
  fix:=λp o=>⟨by rw[hT.pQ];exact(h.fix p o).1,(h.fix p o).2⟩
  xlt:=λb hb=>Lx (h.xlt b hb) hs
  xin:=h.xin
  x0:=h.x0
  own:=λk b hb=>by
   simp only[Xm]at hb;split at hb
   ·grind
   ·obtain⟨q,u,z⟩:=h.own k b hb;grind
  nodup:=λk=>by
   simp only[Xm];split
   ·grind
   ·exact h.nodup k
  pS:=λk v b hb c=>by
   simp only[Xm]at hb c;split at hb<;>split at c
   ·simp_all
   ·grind
   ·grind
   ·exact h.pS k v b hb c
  hown:=λb hb=>Ag
  pK:=(Lm.1 hn).2.1
  pL:=λk b hb=>by
   grind
  pM:=λy i d=>by
   rw[hT.get]at d⊢;simp only[reduceCtorEq,if_false]at d;obtain⟨q,u⟩:=h.pM y i d
   grind
  slots:=λk=>by
   by_cases hk:k=.m r
   ·subst hk;rw[hT.get];grind
   ·have e:Xm F (.m r) S' k=F k:=by simp[Xm,hk]
    rw[hT.get,e];simp only[Ll hk,if_false];exact Zsy hT (λ_ h=>h) hX hF (λb=>hF k b hk) same (h.slots k)}
def R.turn{r:Nat}{t:Tm}(h:R n W0 w X F H s a)
  (hb:W0.below w') (hs:w.heap.size<=w'.heap.size) (hX:∀b,X b->w'.heap[b]? =w.heap[b]?)
  (hF:∀k b,k≠ .m r->b∈F k->w'.heap[b]? =w.heap[b]?)
  (hin:∀b,b∈S'++H'->b∈F (.m r)++H) (hn:(S'++H').Nodup) (ht:s.get (.m r)≠ .tup)
  (same:∀e T f x b S,s.get (.m r)=.box e T f x->F (.m r)=b::S-> ∃f' x' S'',t=.box e T f' x'/\S'=b::S'')
  (hr:vt W0.gh w' X W0.B (bY s r t) (Xm F (.m r) S') a (Xj W0.gh a (.m r)) S' t):
  R n W0 w' X (Xm F (.m r) S') H' (bY s r t) a:=
 h.turn' Zvd hb hs hX hF hin hn ht same hr
def KJ(s:St)(r:Nat)(t:Tm):St:={env:=(.m r,t)::s.env,pP:=sl r::s.pP,pQ:=s.pQ}
theorem Ja(s:St)(r:Nat)(t:Tm)(k:Key):(KJ s r t).get k=ite (Key.m r=k) t (s.get k):=Qg _ _ _ _
def tk{s:St}{e:List (Key×Tm)}{m:List Nat}{r:Nat}(h:St.pN {env:=e,pP:=m++s.pP,pQ:=l} r=K3):s.pN r=K3/\r∉m:=by
 grind[St.pN,Lw]
def xc{t:Tm}{F2:Key->List Nat}(h:Qtn gh w w' s (KJ s d t) F F2 a d):Zee gh w w' s (KJ s d t) F F2 a d t where
 pQ:=rfl
 get:=Ja s d t
 pN _ h':=⟨(tk (m:=[sl d]) h').1,λ_=>h.1⟩
 bad _ _ h':=⟨Zdu (λ_ h=>(tk (m:=[sl d]) h).1) h',λ_ v U hv=>h.2 _ v U hv⟩
 el _ _ he:=⟨(tk (m:=[sl d]) he).1,λe=>(tk (m:=[sl d]) he).2 (by simp[e])⟩
def Qn8(s:St)(r i:Nat)(t:Tm):St:={env:=(.m r,t)::s.env,pP:=sl r::Zne r::Znd r i::s.pP,pQ:=s.pQ}
def Z2e(s:St)(r i:Nat)(t:Tm)(k:Key):(Qn8 s r i t).get k=ite (Key.m r=k) t (s.get k):=Qg _ _ _ _
def Qcl{t:Tm}{F2:Key->List Nat}(h1:t≠ .pR)(h2:∀j p v U,j≠i->Yv gh w s F a d (j::p) v U->Yv gh w' (Qn8 s d i t) F2 a d (j::p) v U):Zee gh w w' s (Qn8 s d i t) F F2 a d t where
 pQ:=rfl
 get:=Z2e s d i t
 pN _ h':=⟨(tk (m:=[sl d,Zne d,Znd d i]) h').1,λ_=>by simp_all[Z2e]⟩
 bad r p h':=⟨Zdu (λ_ h=>(tk (m:=[sl d,Zne d,Znd d i]) h).1) h',λe v U hv=>by
  subst e;cases p with
  |nil=>
   simp only[St.bad,Lz]at h';exact absurd Ae (tk (m:=[sl r,Zne r,Znd r i]) h'.2).2
  |cons j p=>
   refine h2 j p v U (λe=>?_) hv;subst e;simp only[St.bad,Lz]at h';exact absurd Ae (tk (m:=[sl r,Zne r,Znd r j]) h'.2).2⟩
 el _ _ he:=⟨(tk (m:=[sl d,Zne d,Znd d i]) he).1,λe=>(tk (m:=[sl d,Zne d,Znd d i]) he).2 (by simp[e])⟩
def Qjt{α:Type}(f:List K4->Option (α×List K4)):Nat->List K4->Option (List α×List K4)
 |0,vs=>K1 ([],vs)
 |n+1,vs=>match f vs with
  |some (x,r)=>match Qjt f n r with
   |some (xs,r')=>K1 (x::xs,r')
   |none=>K2
  |none=>K2
def ofC:(T:Ty)->List K4->Option (T.den×List K4)
 |.unit,vs=>K1 ((),vs)
 |.int k,vs=>match vs with|.int k' n::r=>ite (k'=k) (K1 (n,r)) K2|_=>K2
 |.bool,vs=>match vs with|.bool b::r=>K1 (b,r)|_=>K2
 |.fnc _,_=>K2
 |.str,vs=>match vs with|.string s::r=>K1 (s.data.toList,r)|_=>K2
 |.slice _ _,vs=>match vs with|.slice K2 0 0::r=>K1 ([],r)|_=>K2
 |.pair a b,vs=>match ofC a vs with
  |some (x,r)=>match ofC b r with
   |some (y,r')=>K1 ((x,y),r')
   |none=>K2
  |none=>K2
 |.arr n t,vs=>Qjt (ofC t) n vs
 |.err,vs=>match vs with|.nilIface::r=>K1 (La,r)|_=>K2
 |.hid _,_=>K2
 |.sptr ..,_=>K2
 |.clo ..,_=>K2
def Zlf(T:Ty)(v:K4):Option T.den:=
 match(match T with
  |.unit|.pair .. |.arr .. =>(match v with|.agg cs=>K1 cs.toList|_=>K2)
  |_=>K1 [v])with
 |some vs=>match ofC T vs with
  |some (x,[])=>K1 x
  |_=>K2
 |none=>K2
def zero:(T:Ty)->T.den|.unit=>()|.int _=>(0:Int)|.bool=>K3|.fnc _=>()|.str=>[]|.slice _ _=>[]|.pair a b=>(zero a,zero b)|.arr n t=>Lv n (zero t)|.err=>La|.hid _=>()|.sptr _ t=>zero t|.clo _ t=>zero t
def al:Ty->List K4|.unit=>[]|.int k=>[.int k 0]|.bool=>[.bool K3]|.fnc f=>[.func (.func f) #[] #[]]|.str=>[.string ⟨#[]⟩]|.slice _ _=>[.slice K2 0 0]|.pair a b=>al a++al b|.arr n t=>(Lv n (al t)).flatten|.err=>[.nilIface]|.hid t=>(al t).take 1|.sptr .. =>[.pointer K2]|.clo f _=>[.func (.func f) #[] #[]]
def Qdo(e:Lc)(sz:Nat):hdr w X B own e sz 0 (.slice K2 0 0) [] []:=by
 cases own
 ·exact⟨rfl,Ae,K2,0,rfl,L1 _,by simp[maxLen],.inl ⟨rfl,rfl,rfl⟩⟩
 ·exact⟨Lb.ownsRow_nil _ _ _ _,rfl⟩
def Qeb{α:Type}{f:List K4->Option (α×List K4)}{r:α->List K4->List Nat->Prop}(hf:∀vs x q,f vs=K1 (x,q)-> ∃v1,vs=v1++q/\r x v1 []):
  ∀{n:Nat}{vs:List K4}{xs:List α}{q:List K4},Qjt f n vs=K1 (xs,q)-> ∃v1,vs=v1++q/\xs.length=n/\eh r xs v1 []
 |0,vs,xs,q,h=>by simp only[Qjt,pB,pF]at h;obtain⟨rfl,rfl⟩:=h;exact⟨[],rfl,rfl,rfl,rfl⟩
 |n+1,vs,xs,q,h=>by
  simp only[Qjt]at h;split at h
  ·rename_i x j b;split at h
   ·rename_i c k d;simp only[pB,pF]at h;obtain⟨rfl,rfl⟩:=h;obtain⟨v1,rfl,e⟩:=hf _ _ _ b;obtain⟨a,rfl,g,i⟩:=Qeb hf d;exact⟨v1++a,Ae,by simp[g],v1,a,[],[],rfl,rfl,e,i⟩
   ·cases h
  ·cases h
def Qr1:∀{T:Ty}{vs:List K4}{x:T.den}{q:List K4},ofC T vs=K1 (x,q)-> ∃v1,vs=v1++q/\rd w X B own T x v1 []:=by
 intro T
 induction T with
 |unit=>intro vs x q h;simp only[ofC,pB,pF]at h;obtain⟨_,rfl⟩:=h;exact⟨[],rfl,rfl,rfl⟩
 |int k=>
  intro vs x q h;simp only[ofC]at h;split at h
  ·rename_i u m r;split at h
   ·rename_i e;subst e;simp only[pB,pF]at h;obtain⟨rfl,rfl⟩:=h;exact⟨[_],rfl,rfl,rfl⟩
   ·cases h
  ·cases h
 |bool=>
  intro vs x q h;simp only[ofC]at h;split at h
  ·simp only[pB,pF]at h;obtain⟨rfl,rfl⟩:=h;exact⟨[_],rfl,rfl,rfl⟩
  ·cases h
 |fnc f=>simp_all[ofC]
 |hid t=>simp_all[ofC]
 |sptr e t=>simp_all[ofC]
 |clo f t=>simp_all[ofC]
 |err=>
  intro vs x q h;simp only[ofC]at h;split at h
  ·simp only[pB,pF]at h;obtain⟨rfl,rfl⟩:=h;exact⟨[_],rfl,⟨_,rfl,rfl,Ae⟩,rfl⟩
  ·cases h
 |str=>
  intro vs x q h;simp only[ofC]at h;split at h
  ·simp only[pB,pF]at h;obtain⟨rfl,rfl⟩:=h;exact⟨[_],rfl,rfl,rfl⟩
  ·cases h
 |slice e t j=>
  intro vs x q h;simp only[ofC]at h;split at h
  ·simp only[pB,pF]at h;obtain⟨rfl,rfl⟩:=h;exact⟨[_],rfl,_,[],[],[],rfl,rfl,Qdo _ _,rfl,rfl⟩
  ·cases h
 |pair a b c d=>
  intro vs x q h;simp only[ofC]at h;split at h
  ·rename_i v y g;split at h
   ·rename_i z A i;simp only[pB,pF]at h;obtain⟨rfl,rfl⟩:=h;obtain⟨v1,rfl,o⟩:=c g;obtain⟨l,rfl,p⟩:=d i;exact⟨v1++l,Ae,v1,l,[],[],rfl,rfl,o,p⟩
   ·cases h
  ·cases h
 |arr n t j=>
  intro vs x q h;obtain⟨v1,g,i,s⟩:=Qeb (r:=rd w X B own t) (λvs x q h=>j h) h;exact⟨v1,g,i,s⟩
def Za8{T:Ty}{x:T.den}(h:Zlf T v=K1 x):∃vs,v=Jd T vs/\rd w X B own T x vs []:=by
 unfold Zlf at h;split at h
 ·rename_i vs hv;split at h
  ·rename_i y b;simp only[pB]at h;subst h;obtain⟨d,a,c⟩:=Qr1 (w:=w) (X:=X) (B:=B) (own:=own) b;simp only[List.append_nil]at a;subst a;refine⟨vs,?_,c⟩;cases T<;>simp only[Jd]at hv⊢
   all_goals first
    |(simp only[pB]at hv;subst hv;rfl)
    |(split at hv<;>first|(simp only[pB]at hv;subst hv;simp)|cases hv)
  ·cases h
 ·cases h
def Zbv{α:Type}{r:α->List K4->List Nat->Prop}{z:α}{c:List K4}(h:r z c []):∀n:Nat,eh r (Lv n z) (Lv n c).flatten []
 |0=>⟨rfl,rfl⟩
 |n+1=>⟨c,(Lv n c).flatten,[],[],by rfl,rfl,h,Zbv h n⟩
def JH:∀{T:Ty},T.plain=La->rd w X B own T (zero T) (al T) []
 |.unit,_=>⟨rfl,rfl⟩
 |.int _,_=>⟨rfl,rfl⟩
 |.bool,_=>⟨rfl,rfl⟩
 |.fnc _,_=>⟨rfl,rfl⟩
 |.str,_=>⟨rfl,rfl⟩
 |.slice _ _,_=>⟨_,[],[],[],rfl,rfl,Qdo _ _,rfl,rfl⟩
 |.pair a b,h=>by
  simp only[Ty.plain,pC]at h;exact⟨_,_,[],[],rfl,rfl,JH h.1,JH h.2⟩
 |.arr n t,h=>⟨by simp[zero],Zbv (JH (by simp_all[Ty.plain])) n⟩
 |.err,_=>⟨⟨_,rfl,rfl,.inl ⟨rfl,rfl⟩⟩,rfl⟩
 |.hid t,h=>by
  simp only[Ty.plain,pC]at h;have c:=JH h.2;have d:=(Jx c).trans (pD h.1);have e:(al t).take 1=al t:=List.take_of_length_le Aa;show _/\_
  grind[al]
 |.sptr ..,h=>by simp[Ty.plain]at h
 |.clo ..,h=>by simp[Ty.plain]at h
inductive Op1 where
 |cst (v:K4)|fn (f:Lo)|tm (k:Nat) (t:Tm)|bad
abbrev Kd:=List (Nat×Bool)
def Kd.has(tg:Kd)(g:Nat)(b:Bool):Bool:=tg.any λp=>Lf p.1 g&&(match p.2,b with|true,La=>La|false,K3=>La|_,_=>K3)
def Zds(s:St)(tg:Kd):Tm->Tm
 |.gd g b t=>match s.pN g with
  |true=>.pR
  |false=>match tg.has g b with|true=>t|false=>.pR
 |t=>t
def op1(s:St)(tg:Kd):Le->Op1
 |.const v=>.cst v
 |.func f=>.fn f
 |.tmp k=>match Lp k 1048576 with|true=>.tm k (Zds s tg (s.get (.m k)))|false=>.bad
 |.global _=>.bad
def Kd.ok(tg:Kd)(gh:Nat->K4)(a:Act):Prop:= ∀p∈tg,Xj gh a (.m p.1)=.bool p.2
def Kd.has_ok{tg:Kd}{gh:Nat->K4}{a:Act}(h:tg.ok gh a){g:Nat}{b:Bool}(hh:tg.has g b=La):Xj gh a (.m g)=.bool b:=by
 unfold Kd.has at hh;rw[List.any_eq_true]at hh;obtain⟨⟨e,f⟩,d,c⟩:=hh;simp only[pC]at c;obtain⟨i,j⟩:=c;have:=h _ d
 grind[pD]
def Qkz{gh:Nat->K4}{tg:Kd}(ht:tg.ok gh a){t:Tm}(h:vt gh w X B s F a v S t)(hj:Zds s tg t≠ .pR):vt gh w X B s F a v S (Zds s tg t):=by
 cases t with
 |gd g b t=>
  simp only[Zds]at hj⊢;cases hf:s.pN g<;>simp only[hf]at hj⊢
  ·cases hh:tg.has g b<;>simp only[hh]at hj⊢
   ·simp_all
   ·exact(h hf).2.1 (Kd.has_ok ht hh)
  simp_all
 |_=>exact h
theorem Jf(W0:fF g)(a:Act){k:Nat}(hk:Lp k 1048576=La):Xj W0.gh a (.m k)=a.eval (.tmp k):=by
 show xQ _ _ _=a.tmps.getD k undef;unfold xQ;rw[Array.getD_eq_getD_getElem?];cases a.tmps[k]? with
 |none=>exact W0.ghU k (by simp_all[big])
 |some v=>rfl
def wh{tg:Kd}{k:Nat}{t:Tm}(hx:op1 s tg x=.tm k t):x=.tmp k/\Lp k 1048576=La/\t=Zds s tg (s.get (.m k)):=by
 cases x with
 |tmp j=>simp only[op1]at hx;grind
 |_=>cases hx
def Zdm{tg:Kd}(hx:op1 s tg x=.cst v):x=.const v:=by
 cases x with
 |tmp j=>grind[op1]
 |const u=>cases hx;rfl
 |_=>cases hx
def Z6o{tg:Kd}(hx:op1 s tg x=.fn f):x=.func f:=by
 cases x with
 |tmp j=>grind[op1]
 |func u=>cases hx;rfl
 |_=>cases hx
def V0(h:R n W0 w X F H s a){tg:Kd}(ht:tg.ok W0.gh a){k:Nat}{t:Tm}(hx:op1 s tg x=.tm k t)(hj:t≠ .pR):
  x=.tmp k/\vt W0.gh w X W0.B s F a (a.eval x) (F (.m k)) t:=by
 obtain⟨rfl,b,rfl⟩:=wh hx;refine⟨rfl,?_⟩;rw[<-Jf W0 a b];exact Qkz ht (h.slots (.m _)) hj
def Qd3(s:St)(r:Nat)(p:List Nat):Option ((T:Ty)×Fl×T.den):=
 match s.get (.m r)with
 |.val T f x=>match p,f.live with|[],La=>K1 ⟨T,f,x⟩|_,_=>K2
 |.box _ T f x=>match kd T x p with
  |some y=>match(mW f p).live with|true=>K1 ⟨y.1,mW f p,y.2⟩|false=>K2
  |none=>K2
 |_=>K2
def ZS(s:St):Op1->Option ((T:Ty)×Fl×T.den)
 |.tm _ (.val T f x)=>match f.live with|true=>K1 ⟨T,f,x⟩|false=>K2
 |.tm _ (.bel r p i q)=>match s.bad r p||s.pN (sl r)with
  |true=>K2
  |false=>match Qd3 s r p with
   |some ⟨.slice _ t,.u La,l⟩=>match kd t (l.getD i.toNat (zero t)) q with
    |some y=>K1 ⟨y.1,.u La,y.2⟩
    |none=>K2
   |_=>K2
 |.tm _ (.bor r p)=>match s.bad r p with
  |true=>K2
  |false=>match s.get (.m r)with
   |.val T f x=>match p,f.live with|[],La=>K1 ⟨T,f,x⟩|_,_=>K2
   |.box _ T f x=>match kd T x p with
    |some y=>match(mW f p).live with|true=>K1 ⟨y.1,mW f p,y.2⟩|false=>K2
    |none=>K2
   |_=>K2
 |.fn f=>K1 ⟨.fnc f,.u La,()⟩
 |_=>K2
def cT(s:St)(o:Op1)(T:Ty):Option T.den:=
 match o with
 |.cst v=>Zlf T v
 |o=>match ZS s o with
  |some ⟨U,_,x⟩=>ay T U x
  |none=>K2
def Qk7{pre mid:List K4}(h:vs=pre++(mid++post)){k:Nat}(hk:pre.length=k)(hm:mid.length=m):(vs.drop k).take m=mid:=by
 simp_all
def Z84(h:R n W0 w X F H s a){r:Nat}{U T:Ty}{f:Fl}{y:T.den}(hv:Yv W0.gh w s F a r p v U)(hl:Qd3 s r p=K1 ⟨T,f,y⟩):
  T=U/\f.live=La/\ ∃vs S,v=Jd T vs/\rdF w X W0.B T f y vs S/\S.Sublist (F (.m r)):=by
 unfold Qd3 at hl;unfold Yv at hv;have hs:=h.slots (.m r);split at hl
 ·rename_i l o q d;rw[d]at hv hs;obtain⟨rfl,rfl,hv⟩:=hv;split at hl
  ·rename_i t;simp only[pB,Ld]at hl;obtain⟨rfl,hl⟩:=hl;simp only[heq_eq_eq,pF]at hl;obtain⟨rfl,rfl⟩:=hl;obtain⟨vs,i,j⟩:=hs
   grind
  ·cases hl
 ·rename_i e l o q d;rw[d]at hv hs;obtain⟨b,c,S,x,i,j,u,z,A⟩:=hv;obtain⟨C,D,E,G,k,g,I⟩:=hs;rw[i]at k;obtain⟨rfl,rfl⟩:=L0 k;rw[j]at g;simp only[pB,L2]at g;obtain⟨rfl,_⟩:=g;rw[u]at hl;simp only at hl;split at hl
  ·rename_i t;simp only[pB,Ld]at hl;obtain⟨rfl,hl⟩:=hl;simp only[heq_eq_eq,pF]at hl;obtain⟨rfl,rfl⟩:=hl
   grind[jz,K0]
  ·cases hl
 ·cases hl
def Z3g(h:R n W0 w X F H s a){r:Nat}{i:Int}{q:List Nat}(hv:vt W0.gh w X W0.B s F a v S0 (.bel r p i q))(h1:s.bad r p=K3)(h2:s.pN (sl r)=K3)
  {e:Lc}{t:Ty}{l:List t.den} (hl:Qd3 s r p=K1 ⟨.slice e t,.u La,l⟩) {y:TV} (hy:kd t (l.getD i.toNat (zero t)) q=K1 y):
  ∃vs S,v=Jd y.1 vs/\rd w X W0.B La y.1 y.2 vs S/\S.Sublist (F (.m r)):=by
 obtain⟨e',t',N,O,o,x0,y0,I,P,k2,k3,k4,Q,U,k7,V⟩:=hv.2 h1 h2;obtain⟨W,_,vs,S,x,J,Y⟩:=Z84 h P hl;cases W;unfold rdF at J;obtain⟨Z,xs,S1,S2,rfl,rfl,q1,q2⟩:=J;have x:K4.slice (K1 N) O o=Z:=x;subst x;obtain⟨a0,K,d,ab,_,z⟩:=fI q1;simp only[K4.slice.injEq]at d;obtain⟨rfl,rfl,rfl⟩:=d;rcases z with⟨k,_⟩|⟨am,k,_,z⟩
 ·cases k
 simp only[pB]at k;subst k;have f:i.toNat<l.length:=Aa
 obtain⟨pre,A,L,T1,T2,T3,n1,n2,n3,n4,_⟩:=yz (λ_ _ _ h=>Jx h) (i:=i.toNat) f q2;have e4:l.getD i.toNat (zero t)=l[i.toNat]'f:=Ag
 rw[e4]at hy;have C:rdF w X W0.B t (.u La) l[i.toNat] A T2:=Av
 obtain⟨b,c,D,U1,U2,U3,o1,o2,o3,E,_⟩:=jz hy C;obtain⟨y1,M,z2⟩:=Zk7 (x':=l[i.toNat]) Q;rw[hy]at M;cases M;have hf:mW (.u La) q=.u true:=by
  have:∀q:List Nat,mW (.u La) q=.u true:=λq=>by
   induction q with
   |nil=>rfl
   |cons j q ih=>grind[mW,WQ]
  exact this q
 rw[hf]at E;unfold rdF at E;refine⟨c,U2,?_,E,List.Sublist.trans ?_ Y⟩
 rotate_left
 ·grind
 rw[U,<-z2];congr 1;apply List.ext_getElem?;intro j;rcases Nat.lt_or_ge j y.1.size with hj|hj
 ·have G:j<I.length:=Ag
  have g:j<c.length:=Ay
  have g1:=V j I[j] (Me G);have g2:=z (i.toNat*t.size+aB t q+j) c[j] (by
   rw[n1,<-n3,<-o3,Md Aa,show pre.length+b.length+j-pre.length=b.length+j from by omega,
    Mc Ag,o1,Md Aa,show b.length+j-b.length=j from by omega,Mc g,Me g])
  grind
 grind[Jx]
def lJ(h:R n W0 w X F H s a){tg:Kd}(ht:tg.ok W0.gh a){T:Ty}{f:Fl}{y:T.den}(hl:ZS s (op1 s tg x)=K1 ⟨T,f,y⟩):
  f.live=La/\ ∃vs S,a.eval x=Jd T vs/\rdF w X W0.B T f y vs S/\(∀b∈S,∃k,b∈F k):=by
 generalize v:op1 s tg x=o at hl;unfold ZS at hl;split at hl
 ·rename_i k E G I;obtain⟨_,vs,J,W⟩:=V0 h ht v Ae
  grind
 ·rename_i k r p i q;obtain⟨_,hv⟩:=V0 h ht v Ae;split at hl
  ·cases hl
  ·rename_i j;simp only[Lz]at j;split at hl
   ·rename_i e t l A;split at hl
    ·rename_i z N;simp only[pB,Ld]at hl;obtain⟨rfl,hl⟩:=hl;simp only[heq_eq_eq,pF]at hl;obtain⟨rfl,rfl⟩:=hl;obtain⟨vs,S,O,Y,P⟩:=Z3g h hv j.1 j.2 A N;exact⟨rfl,vs,S,O,Ak,λb j=>⟨_,P.subset j⟩⟩
    ·cases hl
   ·cases hl
 ·rename_i k r p;obtain⟨_,Z,J⟩:=V0 h ht v Ae;split at hl
  ·cases hl
  ·rename_i d;obtain⟨U,u⟩:=J d;unfold Yv at u;have hs:=h.slots (.m r);split at hl
   ·rename_i E G I C;rw[C]at u hs;obtain⟨rfl,rfl,hv⟩:=u;split at hl
    ·rename_i Q;simp only[pB,Ld]at hl;obtain⟨rfl,hl⟩:=hl;simp only[heq_eq_eq,pF]at hl;obtain⟨rfl,rfl⟩:=hl;obtain⟨vs,K,L⟩:=hs
     grind
    ·cases hl
   ·rename_i e E G I C;rw[C]at u hs;obtain⟨b,c,S,y',K,L,V,k4,k5⟩:=u;obtain⟨b',c',S',l1,M,D,l4⟩:=hs;rw[K]at M;obtain⟨rfl,rfl⟩:=L0 M;rw[L]at D;simp only[pB,L2]at D;obtain⟨rfl,_⟩:=D;rw[V]at hl;simp only at hl;split at hl
    ·rename_i Q;simp only[pB,Ld]at hl;obtain⟨rfl,hl⟩:=hl;simp only[heq_eq_eq,pF]at hl;obtain⟨rfl,rfl⟩:=hl
     grind[jz,K0]
    ·cases hl
   ·cases hl
 ·rename_i g;simp only[pB,Ld]at hl;obtain⟨rfl,hl⟩:=hl;simp only[heq_eq_eq,pF]at hl;obtain⟨rfl,_⟩:=hl;obtain rfl:=Z6o v;exact⟨rfl,[.func (.func g) #[] #[]],[],rfl,by unfold rdF;exact⟨rfl,rfl⟩,Ae⟩
 ·cases hl
theorem Zft{tg:Kd}{k:Nat}{T:Ty}{y:T.den}(hr:cT s (op1 s tg (.tmp k)) T=K1 y):Lp k 1048576=true:=by
 grind[op1,cT,ZS]
def eD(h:R n W0 w X F H s a){tg:Kd}(ht:tg.ok W0.gh a){T:Ty}{y:T.den}(hr:cT s (op1 s tg x) T=K1 y):
  ∃vs,a.eval x=Jd T vs/\rd w (· <w.heap.size) W0.B K3 T y vs []:=by
 unfold cT at hr;split at hr
 ·rename_i v hv;obtain rfl:=Zdm hv;exact Za8 hr
 ·split at hr
  ·rename_i U f l d;obtain⟨e,vs,S,g,i,j⟩:=lJ h ht d;cases fG hr;exact⟨vs,g,Vo (λb c=>h.xlt b c) e i λb c=>let⟨k,hk⟩:=j b c;(h.own k b hk).2.1⟩
  ·cases hr
def so:Fl->Ty->Bool|.u K3,_=>La|.u La,T=>T.flat|.p f g,.pair a b=>so f a&&so g b|_,_=>K3
theorem mI:∀{T:Ty}{x:T.den}{vs:List K4}{S:List Nat},rd w X B K3 T x vs S->S=[]
 |.unit,_,_,_,h|.int _,_,_,_,h|.bool,_,_,_,h|.fnc _,_,_,_,h|.str,_,_,_,h=>h.2
 |.slice _ t,_,_,_,⟨_,_,g,f,_,e,c,d⟩=>by
  have:f=[]:=(px (r:=rd w X B K3 t) (r':=λ_ _ _=>True) (λx v S h=>⟨mI h,trivial⟩) d).1;rw[e,c.1,this];rfl
 |.pair a b,_,_,_,⟨j,k,g,f,_,e,c,d⟩=>by rw[e,mI c,mI d];rfl
 |.arr n t,_,_,_,⟨_,i⟩=>(px (r:=rd w X B K3 t) (r':=λ_ _ _=>True) (λx v S h=>⟨mI h,trivial⟩) i).1
 |.err,_,_,_,h=>h.2
 |.hid _,_,_,_,⟨_,_,h⟩=>mI h
 |.sptr ..,_,_,_,h=>h.1
 |.clo ..,_,_,_,h=>h.1
theorem kK:∀{T:Ty}{f:Fl}{x:T.den}{vs:List K4}{S:List Nat},so f T=La->rdF w X B T f x vs S->S=[]
 |T,.d,_,_,_,c,_=>by grind[so]
 |T,.u K3,_,_,_,_,h=>by grind[rdF,mI]
 |T,.u La,_,_,_,c,h=>by unfold rdF at h;exact(iU (X':=X) (own':=La) (w':=w) (by simp_all[so]) h).1
 |.pair a b,.p f g,_,_,_,c,⟨k,l,m,n,_,e,i,j⟩=>by
  simp only[so,pC]at c;rw[e,kK c.1 i,kK c.2 j];rfl
 |.slice ..,.p ..,_,_,_,c,_=>by grind[so]
 |.unit,.p ..,_,_,_,_,h|.int _,.p ..,_,_,_,_,h|.bool,.p ..,_,_,_,_,h|.fnc _,.p ..,_,_,_,_,h|.str,.p ..,_,_,_,_,h|.err,.p ..,_,_,_,_,h|.hid _,.p ..,_,_,_,_,h|.sptr ..,.p ..,_,_,_,_,h|.clo ..,.p ..,_,_,_,_,h|.arr ..,.p ..,_,_,_,_,h=>by simp[rdF]at h
structure Qfa where
 T:Ty
 f:Fl
 x:T.den
 s:St
 moved:Bool
def Zss(s:St)(o:Op1):Option Qfa:=
 match ZS s o with
 |some ⟨T,f,x⟩=>match so f T with
  |true=>K1 ⟨T,f,x,s,K3⟩
  |false=>match o with
   |.tm k (.val _ _ _)=>match s.get (.m k)with
    |.val _ _ _=>K1 ⟨T,f,x,bY s k .pR,La⟩
    |_=>K2
   |.tm _ (.bor r p)=>match s.get (.m r)with
    |.val _ _ _=>K1 ⟨T,f,x,bY s r .pR,La⟩
    |.box e U g z=>K1 ⟨T,f,x,bY s r (.box e U (ZI g p .d) z),La⟩
    |_=>K2
   |.tm _ (.bel r _ _ _)=>match s.get (.m r)with
    |.val _ _ _=>K1 ⟨T,f,x,bY s r .pR,La⟩
    |_=>K2
   |_=>K2
 |none=>K2
def VC(s:St)(o:Op1)(T:Ty):Option Qfa:=
 match o with
 |.cst v=>match Zlf T v with|some x=>K1 ⟨T,.u La,x,s,K3⟩|none=>K2
 |o=>match Zss s o with
  |some t=>ite (t.T=T) (K1 t) K2
  |none=>K2
def R.takeM(h:R n W0 w X F H s a){k:Nat}{T:Ty}{f:Fl}{x:T.den}(hg:s.get (.m k)=.val T f x):
  R n W0 w X (Xm F (.m k) []) (F (.m k)++H) (bY s k .pR) a:=
 h.turn (S':=[]) h.below (L1 _) (λ_ _=>rfl) (λ_ _ _ _=>rfl) Ae (by
  simp only[Mf];exact Lm.2 ⟨h.nodup _,h.pK,λx hx y c e=>h.pL _ x hx (by rw[e];exact c)⟩) (by rw[hg];simp)
  (λe T f x b S d=>Ac) rfl
def Z4n:∀{p:List Nat}{T:Ty}{x:T.den}{y:TV},kd T x p=K1 y->YH T x p y=K1 x:=by
 have c:∀{T:Ty}{x:T.den}{i:Nat}{z:TV},fld T x i=K1 z->VW T x i z=K1 x:=by
  intro T
  induction T with
  |pair a b d e=>
   intro x i z h;cases i with
   |zero=>grind[fld,VW,ay]
   |succ i=>simp_all[fld,VW]
  |_=>intro x i z h;simp[fld]at h
 intro p
 induction p with
 |nil=>simp_all[kd,YH,ay]
 |cons i p f=>
  grind[kd,YH]
def R.hsub(h:R n W0 w X F H s a)(hs:H'.Sublist H):R n W0 w X F H' s a:=
 {h with
  hown:=λb c=>h.hown b (hs.subset c)
  pK:=h.pK.sublist hs
  pL:=λk b c d=>h.pL k b c (hs.subset d)}
theorem Zdt(h:R n W0 w X F H s a){tg:Kd}(ht:tg.ok W0.gh a){t:Qfa}(hk:Zss s (op1 s tg x)=K1 t):
  ∃F' S vs,a.eval x=Jd t.T vs/\rdF w X W0.B t.T t.f t.x vs S/\R n W0 w X F' (S++H) t.s a/\(t.moved=K3->t.s=s/\F'=F/\S=[])/\t.f.live=true:=by
 unfold Zss at hk;split at hk
 ·rename_i T f y g;obtain⟨P,vs,S,h1,h2,h3⟩:=lJ h ht g;split at hk
  ·rename_i hn;simp only[pB]at hk;subst hk;have hS:=kK hn h2
   grind
  ·rename_i hn;generalize A:op1 s tg x=o at hk g;split at hk
   ·rename_i k Q V N;split at hk
    ·rename_i T2 f2 x2 v;simp only[pB]at hk;subst hk;have hx:=V0 h ht A Ae;obtain⟨rfl,_⟩:=hx;have W:=(wh A).2.1;have A:=(wh A).2.2;rw[v]at A;simp only[Zds]at A;cases A;simp only[ZS]at g;split at g
     ·simp only[pB,Ld]at g;obtain⟨rfl,g⟩:=g;simp only[heq_eq_eq,pF]at g;obtain⟨rfl,rfl⟩:=g;have hs:=h.slots (.m k);rw[v]at hs;obtain⟨C,E,G⟩:=hs;exact⟨_,F (.m k),C,(Jf W0 a W).symm.trans E,G,h.takeM v,Ae,P⟩
     ·cases g
    ·cases hk
   ·rename_i k r p;obtain⟨_,h0,J⟩:=V0 h ht A Ae;simp only[ZS]at g;split at g
    ·cases g
    ·rename_i D;obtain⟨U,I⟩:=J D;have hs:=h.slots (.m r);split at hk
     ·rename_i Q V N v;simp only[v]at g;unfold Yv at I;rw[v]at I hs;obtain⟨rfl,rfl,hv⟩:=I;split at g
      ·simp only[pB,Ld]at g;obtain⟨rfl,g⟩:=g;simp only[heq_eq_eq,pF]at g;obtain⟨rfl,rfl⟩:=g;simp only[pB]at hk;subst hk;obtain⟨C,E,G⟩:=hs;exact⟨_,F (.m r),C,hv.trans E,G,h.takeM v,Ae,P⟩
      ·cases g
     ·rename_i e Q V N v;simp only[v]at g;unfold Yv at I;rw[v]at I hs;obtain⟨b,c,S0,y',E,G,Y,k4,k5⟩:=I;obtain⟨b',c',S',l1,l2,Z,l4⟩:=hs;rw[E]at l2;obtain⟨rfl,rfl⟩:=L0 l2;rw[G]at Z;simp only[pB,L2]at Z;obtain⟨rfl,_⟩:=Z;rw[Y]at g;simp only at g;split at g
      ·simp only[pB,Ld]at g;obtain⟨rfl,g⟩:=g;simp only[heq_eq_eq,pF]at g;obtain⟨rfl,rfl⟩:=g;simp only[pB]at hk;subst hk;obtain⟨pre,K,am,L,O,M,m1,m2,m3,m4,m5⟩:=jz Y l4;have ab:=h.nodup (.m r);rw[E,m2]at ab;have j:=m5 .d y' K [] N (Z4n Y) (by unfold rdF;exact⟨K0 m4,oH m4,rfl⟩);rw[<-m1]at j;simp only[Mf]at j;refine⟨_,O,K,Az,m4,
        h.turn (S':=b:: (L++M)) h.below (L1 _) (λ_ _=>rfl) (λ_ _ _ _=>rfl) ?_ ?_ (by rw[v];simp) ?_ ⟨b,c,L++M,l1,rfl,G,j⟩,Ae,P⟩
       ·grind
       ·have h1:(b:: (L++M)++O).Nodup:=by
         have hp:(b:: (L++M)++O).Perm (b:: (L++(O++M))):=by
          grind
         grind
        rw[<-List.append_assoc];refine Lm.2 ⟨h1,h.pK,λz hz u hu e=>?_⟩;subst e;refine h.pL (.m r) z ?_ hu
        grind
       grind
      ·cases g
     ·cases hk
   ·rename_i k r p i q;obtain⟨_,hv⟩:=V0 h ht A Ae;split at hk
    ·rename_i Q V N v;simp only[pB]at hk;subst hk;simp only[ZS]at g;split at g
     ·cases g
     ·rename_i J;simp only[Lz]at J;split at g
      ·rename_i e t l ad;split at g
       ·rename_i z hz;simp only[pB,Ld]at g;obtain⟨rfl,g⟩:=g;simp only[heq_eq_eq,pF]at g;obtain⟨rfl,rfl⟩:=g;obtain⟨vs,S,g1,g2,g3⟩:=Z3g h hv J.1 J.2 ad hz;exact⟨_,S,vs,g1,Ak,(h.takeM v).hsub (g3.append (Mk _)),Ae,rfl⟩
       ·cases g
      ·cases g
    ·cases hk
   ·cases hk
 ·cases hk
def eL(h:R n W0 w X F H s a){tg:Kd}(ht:tg.ok W0.gh a){T:Ty}{t:Qfa}(hk:VC s (op1 s tg x) T=K1 t):
  t.T=T/\ ∃F' S vs,a.eval x=Jd t.T vs/\rdF w X W0.B t.T t.f t.x vs S/\R n W0 w X F' (S++H) t.s a/\(t.moved=K3->t.s=s/\F'=F/\S=[])/\t.f.live=true:=by
 unfold VC at hk;split at hk
 ·rename_i v hv;split at hk
  ·rename_i y b;simp only[pB]at hk;subst hk;obtain rfl:=Zdm hv;obtain⟨vs,c,d⟩:=Za8 (w:=w) (X:=X) (B:=W0.B) (own:=La) b;exact⟨rfl,F,[],vs,c,Ak,h,λ_=>⟨rfl,rfl,rfl⟩,rfl⟩
  ·cases hk
 grind[Zdt]
def St.isBox(s:St)(r:Nat):Prop:= ∃e T f x,s.get (.m r)=.box e T f x
theorem Qgv{o:Op1}{t:Qfa}(hk:Zss s o=K1 t){r:Nat}(hb:s.isBox r):t.s.isBox r:=by
 obtain⟨e,T,f,x,hb⟩:=hb;have a:∀{k:Nat}{b c d},s.get (.m k)=.val b c d->(bY s k .pR).isBox r:=by
  intro k b c d hk;have:k≠r:=λg=>Ac
  exact⟨e,T,f,x,Ar⟩
 unfold Zss at hk;split at hk
 ·split at hk
  ·simp only[pB]at hk;subst hk;exact⟨e,T,f,x,hb⟩
  ·split at hk
   ·grind
   ·rename_i k p _;split at hk
    ·grind
    ·simp only[pB]at hk;subst hk;by_cases g:k=r
     ·subst g;exact⟨_,_,_,_,by rw[Vr,if_pos rfl]⟩
     ·exact⟨e,T,f,x,Ar⟩
    ·cases hk
   all_goals grind
 ·cases hk
def ZO{o:Op1}{T:Ty}{t:Qfa}(hk:VC s o T=K1 t){r:Nat}(hb:s.isBox r):t.s.isBox r:=by
 unfold VC at hk
 grind[Qgv]
def R.boxIn(h:R n W0 w X F H s a){r:Nat}(hb:s.isBox r)(hv:Xj W0.gh a (.m r)=.pointer (K1 ⟨b,0,K2⟩)):∃S,F (.m r)=b::S:=by
 obtain⟨e,T,f,x,hb⟩:=hb;have hs:=h.slots (.m r);rw[hb]at hs;obtain⟨d,c,g,i,j,_⟩:=hs;simp_all
def cK:Ty->Fl->Fl->Bool|_,.d,.d=>La|_,.u La,.u La=>La|_,.u K3,.u K3=>La|T,.u _,.u _=>T.flat|.pair A B,.p f1 f2,.p g1 g2=>cK A f1 g1&&cK B f2 g2|.pair A B,.u b,.p g1 g2=>cK A (.u b) g1&&cK B (.u b) g2|.pair A B,.p f1 f2,.u b=>cK A f1 (.u b)&&cK B f2 (.u b)|.slice _ _,.p (.u La) (.u K3),.p (.u La) (.u K3)=>La|_,_,_=>K3
theorem oI:∀{T:Ty}{f g:Fl}{x:T.den}{vs:List K4}{S:List Nat},cK T f g=La->rdF w X B T f x vs S->rdF w X B T g x vs S
 |T,.d,.d,_,_,_,_,h=>h
 |T,.u La,.u La,_,_,_,_,h=>h
 |T,.u K3,.u K3,_,_,_,_,h=>h
 |T,.u La,.u K3,x,vs,S,hs,h=>by
  unfold rdF at h⊢;have q:T.flat=true:=Aw
  obtain⟨rfl,a⟩:=iU (X':=X) (own':=K3) (w':=w) q h;exact a
 |T,.u K3,.u La,x,vs,S,hs,h=>by
  unfold rdF at h⊢;have q:T.flat=true:=Aw
  obtain⟨rfl,a⟩:=iU (X':=X) (own':=La) (w':=w) q h;exact a
 |.pair A B,.p v y,.p r s,x,vs,S,hs,⟨i,j,k,l,m,n,o,a⟩=>by
  simp only[cK,pC]at hs;exact⟨i,j,k,l,m,n,oI hs.1 o,oI hs.2 a⟩
 |.pair A B,.u b,.p r s,x,vs,S,hs,h=>by
  unfold rdF at h;obtain⟨i,j,k,l,m,n,o,a⟩:=h;simp only[cK,pC]at hs;exact⟨i,j,k,l,m,n,oI hs.1 Ak,oI hs.2 Ak⟩
 |.pair A B,.p v y,.u b,x,vs,S,hs,⟨i,j,k,l,m,n,o,a⟩=>by
  simp only[cK,pC]at hs;have z:=oI hs.1 o;have C:=oI hs.2 a;unfold rdF at z C⊢;exact⟨i,j,k,l,m,n,z,C⟩
 |T,.d,.u _,_,_,_,hs,_=>Aw
 |T,.d,.p ..,_,_,_,hs,_=>Aw
 |T,.u b,.d,_,_,_,hs,_=>Aw
 |T,.p ..,.d,_,_,_,hs,_=>Aw
 |.unit,.p ..,.u _,_,_,_,hs,_|.int _,.p ..,.u _,_,_,_,hs,_|.bool,.p ..,.u _,_,_,_,hs,_|.fnc _,.p ..,.u _,_,_,_,hs,_|.str,.p ..,.u _,_,_,_,hs,_|.slice ..,.p ..,.u _,_,_,_,hs,_|.err,.p ..,.u _,_,_,_,hs,_|.hid _,.p ..,.u _,_,_,_,hs,_|.sptr ..,.p ..,.u _,_,_,_,hs,_|.clo ..,.p ..,.u _,_,_,_,hs,_|.arr ..,.p ..,.u _,_,_,_,hs,_=>by simp[cK]at hs
 |.slice e t,.p v y,.p r s,_,_,_,hs,h=>by
  obtain⟨rfl,rfl,a⟩:=nC h;cases r with
  |u b=>cases b with
   |true=>cases s with
    |u c=>cases c with
     |false=>exact h
     |true=>grind[cK]
    |p _ _=>grind[cK]
    |d=>grind[cK]
   |false=>grind[cK]
  |p _ _=>grind[cK]
  |d=>grind[cK]
 |.unit,.p ..,.p ..,_,_,_,hs,_|.int _,.p ..,.p ..,_,_,_,hs,_|.bool,.p ..,.p ..,_,_,_,hs,_|.fnc _,.p ..,.p ..,_,_,_,hs,_|.str,.p ..,.p ..,_,_,_,hs,_|.err,.p ..,.p ..,_,_,_,hs,_|.hid _,.p ..,.p ..,_,_,_,hs,_|.sptr ..,.p ..,.p ..,_,_,_,hs,_|.clo ..,.p ..,.p ..,_,_,_,hs,_|.arr ..,.p ..,.p ..,_,_,_,hs,_=>by simp[cK]at hs
 |.unit,.u b,.p ..,_,_,_,hs,_|.int _,.u b,.p ..,_,_,_,hs,_|.bool,.u b,.p ..,_,_,_,hs,_|.fnc _,.u b,.p ..,_,_,_,hs,_|.str,.u b,.p ..,_,_,_,hs,_|.slice ..,.u b,.p ..,_,_,_,hs,_|.err,.u b,.p ..,_,_,_,hs,_|.hid _,.u b,.p ..,_,_,_,hs,_|.sptr ..,.u b,.p ..,_,_,_,hs,_|.clo ..,.u b,.p ..,_,_,_,hs,_|.arr ..,.u b,.p ..,_,_,_,hs,_=>by cases b<;>simp[cK]at hs
def Z9o{T:Ty}{f g:Fl}{x:T.den}(hs:f=g\/cK T f g=La)(h:rdF w X B T f x vs S):rdF w X B T g x vs S:=by
 rcases hs with rfl|hs
 all_goals grind[oI]
def VA(P:Lh)(e:Lc)(T:Ty):Bool:=
 match P.info? e with
 |some i=>(Lf i.size T.size&&T.plain)&&Nat.ble i.bytes 8192
 |none=>K3
def uB(P:Lh):List Field->Ty->Nat->Bool|[],.unit,_=>La|f::fs,.pair a b,off=>Lf f.offset off&&VA P f.type a&&Lp 0 a.size&&uB P fs b (off+a.size)|_,_,_=>K3
def Qha(P:Lh)(e:Lc)(T:Ty):Bool:=
 match P.underlying e,T with
 |some (.struct _),.unit|some (.struct _),.pair .. |some (.array ..),.arr .. =>La
 |some (.struct _),_|some (.array ..),_=>K3
 |some _,.unit|some _,.pair .. |some _,.arr .. =>K3
 |some _,_=>La
 |none,_=>K3
def XV(P:Lh)(e:Lc)(T:Ty):Bool:=
 VA P e T&&match T with
  |.int k=>(match P.underlying e with|some (.int k')=>Lt (k=k')|_=>K3)
  |.bool=>(match P.underlying e with|some .bool=>La|_=>K3)
  |.str=>(match P.underlying e with|some .string=>La|_=>K3)
  |.slice e' t=>Lp 0 t.size&&(match P.underlying e with|some (.slice e2)=>Lf e' e2|_=>K3)
  |.arr n t=>Lp 0 t.size&&(match P.underlying e with|some (.array m e2)=>Lf n m&&(VA P e2 t&&Qha P e2 t)|_=>K3)
  |T=>(match P.underlying e with|some (.struct fs)=>uB P fs.toList T 0|_=>K3)
structure TOK(P:Lh)(e:Lc)(T:Ty):Prop where
 zero:(P.info? e).map (·.zero)=K1 (K1 (Jd T (al T)))
 shape:XV P e T=La
abbrev Tab:=Lc->Option Ty
def Tab.ok(τ:Tab)(P:Lh):Prop:= ∀e T,τ e=K1 T->TOK P e T
theorem wn{P:Lh}{e:Lc}{T:Ty}(h:VA P e T=La):∃i,P.info? e=K1 i/\i.size=T.size/\i.bytes<=8192:=by
 unfold VA at h;split at h
 all_goals simp_all
variable {P:Lh}{e:Lc}{T:Ty}
theorem TOK.size(h:TOK P e T):∃i,P.info? e=K1 i/\i.size=T.size/\i.bytes<=8192/\i.zero=K1 (Jd T (al T)):=by
 have a:=h.shape;unfold XV at a;rw[pC]at a;obtain⟨i,b,hs,c⟩:=wn a.1;have:=h.zero;simp_all
def TOK.plain(h:TOK P e T):T.plain=true:=by
 have a:=h.shape;unfold XV at a;rw[pC]at a;have b:=a.1;unfold VA at b
 grind
def TOK.int{k:Lk}(h:TOK P e (.int k)):P.underlying e=K1 (.int k):=by
 have a:=h.shape;unfold XV at a
 grind
def TOK.bool(h:TOK P e .bool):P.underlying e=K1 .bool:=by
 have a:=h.shape;unfold XV at a
 grind
def TOK.str(h:TOK P e .str):P.underlying e=K1 .string:=by
 have a:=h.shape;unfold XV at a
 grind
def TOK.slice{e':Lc}{t:Ty}(h:TOK P e (.slice e' t)):P.underlying e=K1 (.slice e')/\0<t.size:=by
 have a:=h.shape;unfold XV at a;rw[pC]at a;have b:=a.2;simp only[pC,L7]at b
 grind[pD]
def TOK.arr'{n:Nat}{t:Ty}(h:TOK P e (.arr n t)):0<t.size/\ ∃e2,P.underlying e=K1 (.array n e2)/\VA P e2 t=La/\Qha P e2 t=true:=by
 have b:=h.shape;unfold XV at b;rw[pC]at b;have a:=b.2;simp only[pC,L7]at a;refine⟨a.1,?_⟩;have a:=a.2;split at a
 all_goals simp_all
def TOK.arr{n:Nat}{t:Ty}(h:TOK P e (.arr n t)):0<t.size/\ ∃e2,P.underlying e=K1 (.array n e2)/\VA P e2 t=true:=
 let⟨h1,e2,h2,h3,_⟩:=h.arr';⟨h1,e2,h2,h3⟩
def Ty.isStruct:Ty->Bool|.unit|.pair .. =>La|_=>K3
def Ty.isAgg:Ty->Bool|.unit|.pair .. |.arr .. =>La|_=>K3
def TOK.struct(h:TOK P e T)(hs:T.isStruct=La):∃fs,P.underlying e=K1 (.struct fs)/\uB P fs.toList T 0=true:=by
 have a:=h.shape;unfold XV at a;rw[pC]at a
 grind[Ty.isStruct]
def Z8f:∀{fs:List Field}{T:Ty}{off i:Nat}{U:Ty},uB P fs T off=La->Zep T i=K1 U->
  ∃f,fs[i]? =K1 f/\f.offset=off+mn T i/\VA P f.type U=La/\0<U.size:=by
 intro fs
 induction fs with
 |nil=>
  grind[uB,Zep]
 |cons f fs c=>
  intro T off i U h d;cases T<;>simp only[uB]at h<;>first|cases h|skip
  rename_i a b;simp only[pC,L7]at h;obtain⟨⟨⟨g,j⟩,k⟩,e⟩:=h;cases i with
  |zero=>
   simp_all[Zep,mn]
  |succ i=>
   obtain⟨l,m,n,o⟩:=c e d
   grind[mn]
def TOK.nofnc(h:TOK P e (.fnc f)):False:=by
 have:=h.shape;unfold XV at this;simp only[pC]at this
 grind[uB]
def TOK.noerr(h:TOK P e .err):False:=by
 have:=h.shape;unfold XV at this;simp only[pC]at this
 grind[uB]
def TOK.nohid{t:Ty}(h:TOK P e (.hid t)):False:=by
 have:=h.shape;unfold XV at this;simp only[pC]at this
 grind[uB]
def TOK.nosptr{t:Ty}(h:TOK P e (.sptr e2 t)):False:=by
 have:=h.shape;unfold XV at this;simp only[pC]at this
 grind[uB]
def TOK.noclo{t:Ty}(h:TOK P e (.clo f t)):False:=by
 have:=h.shape;unfold XV at this;simp only[pC]at this
 grind[uB]
def TOK.isAgg(h:TOK P e T)(w:Lb):(isAgg e).run P w=.ok T.isAgg w:=by
 cases T with
 |int k=>simp[Li,run_underlying h.int,Ty.isAgg]
 |bool=>simp[Li,run_underlying h.bool,Ty.isAgg]
 |str=>simp[Li,run_underlying h.str,Ty.isAgg]
 |fnc f=>exact h.nofnc.elim
 |err=>exact h.noerr.elim
 |hid t=>exact h.nohid.elim
 |sptr e t=>exact h.nosptr.elim
 |clo f t=>exact h.noclo.elim
 |slice g t=>simp[Li,run_underlying h.slice.1,Ty.isAgg]
 |arr n t=>obtain⟨_,i,c,_⟩:=h.arr;simp[Li,run_underlying c,Ty.isAgg]
 |unit=>obtain⟨d,c,_⟩:=h.struct rfl;simp[Li,run_underlying c,Ty.isAgg]
 |pair a b=>obtain⟨d,c,_⟩:=h.struct rfl;simp[Li,run_underlying c,Ty.isAgg]
def Qhb(h:Qha P e T=La)(w:Lb):(Li e).run P w=.ok T.isAgg w:=by
 unfold Qha at h;cases hu:P.underlying e with
 |none=>simp_all
 |some d=>
  rw[hu]at h;cases d<;>cases T<;>simp at h<;>simp[Li,run_underlying hu,Ty.isAgg]
def TOK.sizeOf(h:TOK P e T)(w:Lb):(sizeOf e).run P w=.ok T.size w:=by
 obtain⟨i,a,hs,_⟩:=h.size;simp_all[L5,typeInfo]
def Zsk(h:T.isAgg=K3):T.size=1:=by cases T<;>simp[Ty.isAgg]at h<;>rfl
def TOK.load(h:TOK P e T){w:Lb}{ad:Lj}(hl:vs.length=T.size)(hc:∀j u,vs[j]? =K1 u->w.cell? (ad.add j)=K1 u):
  (loadVar e ad).run P w=.ok (Jd T vs) w:=by
 unfold loadVar;simp only[Ln,h.isAgg w,L4];cases ha:T.isAgg
 ·have a:=Zsk ha;rw[a]at hl;obtain⟨v,rfl⟩:=L6.1 hl;have:=hc 0 v rfl;simp only[Lj.add_zero']at this;have b:Jd T [v]=v:=by cases T<;>simp[Ty.isAgg]at ha<;>rfl
  simp[this,b]
 ·simp only[if_true,Ln,h.sizeOf w,L4];have:=run_loadCells_list (P:=P) (w:=w) ad vs hc;rw[hl]at this;rw[this];cases T<;>simp[Ty.isAgg]at ha<;>rfl
theorem Zgv(h1:∀u∈vs,u.oneCell'=La)(hl:vs.length=T.size):(Jd T vs).cells.toList=vs:=by
 cases ha:T.isAgg
 ·rw[Zsk ha]at hl;obtain⟨v,rfl⟩:=L6.1 hl;have a:Jd T [v]=v:=by cases T<;>simp[Ty.isAgg]at ha<;>rfl
  rw[a];have:=h1 v Ae;cases v<;>simp[Lr]at this<;>rfl
 ·cases T<;>simp[Ty.isAgg]at ha<;>simp[Jd,K4.cells]
abbrev Ob:=Option Prop
def Ob.ok:Ob->Prop|none=>True|some p=>p
structure Res where
 t:Tm
 s:St
 moved:Bool
 obl:Ob
def Old(w w':Lb):Prop:= ∀k,k<w.heap.size->w'.heap[k]? =w.heap[k]?
theorem Old.refl(w:Lb):Old w w:=λ_ _=>rfl
theorem Old.cell{w w':Lb}(h:Old w w'){ad:Lj}{u:K4}(hc:w.cell? ad=K1 u):w'.cell? ad=K1 u:=by
 have a:ad.block<w.heap.size:=by
  grind[Lb.cell?]
 rw[Ls (w:=w) (h _ a)];exact hc
def Old.alloc(w:Lb)(ob:Obj):Old w (w.alloc ob):=λk hk=>by
 show(w.heap.push ob)[k]? =w.heap[k]?
 grind
def Zwo(gh:Nat->K4)(X:Nat->Prop)(s:St)(a:Act)(tgt:Option Nat)(w w':Lb):Prop:=∀b,(X b\/ ∃r,s.isBox r/\tgt≠K1 r/\Xj gh a (.m r)=.pointer (K1 ⟨b,0,K2⟩))->w'.heap[b]? =w.heap[b]?
def R.kept{g:Vc}{n:Nat}{W0:fF g}{w w':Lb}{X:Nat->Prop}{F:Key->List Nat}{H:List Nat}{s:St}{a:Act}(h:R n W0 w X F H s a)(ho:Old w w'){tgt:Option Nat}:Zwo W0.gh X s a tgt w w':=λb c=>ho b (by
 rcases c with c|⟨r,d,_,e⟩
 ·exact h.xlt b c
 ·obtain⟨S,f⟩:=h.boxIn d e;exact(h.own (.m r) b (by rw[f];simp)).2.1)
def Qb4:Op->Bool|.store .. =>K3|.call {callee:=.builtin .append,..}=>K3|_=>La
def ZW(P:Lh){g:Vc}(n:Nat)(W0:fF g)(w:Lb)(X:Nat->Prop)(H:List Nat)(s:St)(a:Act)(o:Oper)(r:Res):Prop:=r.obl.ok-> ∀(K:Act->Lb->Prop)(Q:Exit->Act->Lb->Prop),(∀v X' F' S w',(∀b,X b->X' b)->R n W0 w' X' F' (S++H) r.s a->vt W0.gh w' X' W0.B r.s F' a v S r.t->(r.moved=K3->r.s=s)->(Qb4 o.op=La->Old w w')/\Zwo W0.gh X s a K2 w w'->K (a.put o.dst v) w')->o.wp P a w K Q
variable {o:Oper}{tg:Kd}{τ:Tab}
def Qjl(τ:Tab):Op->Bool
 |.load .. =>La
 |.convert e _ _=>match τ e with|some (.slice _ _)=>La|_=>K3
 |_=>K3
def Zcc(s:St):Op->Option (Option Nat)
 |.load _ (.tmp k)=>
  let rec go:Tm->Option (Option Nat)
   |.ptr r _=>K1 (K1 r)
   |.aep r _ _=>K1 (K1 r)
   |.pls _ _=>K1 K2
   |.shp _ _=>K1 K2
   |.gd _ _ t=>go t
   |.box _ _ _ _=>K1 (K1 k)
   |_=>K2
  go (s.get (.m k))
 |_=>K2
def qx{s:St}{tg:Kd}{e:Lc}{k k':Nat}{t:Tm}(h:op1 s tg (.tmp k)=.tm k' t)(hj:t≠ .pR):Zcc s (.load e (.tmp k))=Zcc.go k t:=by
 obtain⟨e,_,h⟩:=wh h;cases e;have h:=h.symm;simp only[Zcc];cases hg:s.get (.m k)<;>rw[hg]at h<;>simp only[Zds]at h<;>first|(subst h;rfl)|skip
 split at h
 ·simp_all
 ·split at h
  ·subst h;rfl
  simp_all
def Dep(gh:Nat->K4)(τ:Tab)(X:Nat->Prop)(s:St)(a:Act)(o:Oper)(w w':Lb):Prop:=Qjl τ o.op=La->match Zcc s o.op with
 |some (K1 r)=> ∀b,b<w.heap.size->Xj gh a (.m r)=.pointer (K1 ⟨b,0,K2⟩)->w'.heap[b]? =w.heap[b]?
 |some K2=> ∀b,b<w.heap.size->X b->w'.heap[b]? =w.heap[b]?
 |none=>Old w w'
theorem Dep.refl(gh:Nat->K4)(τ:Tab)(X:Nat->Prop)(s:St)(a:Act)(o:Oper)(w:Lb):Dep gh τ X s a o w w:=by
 intro _;split
 all_goals simp_all[Old.refl]
def dz(P:Lh)(τ:Tab){g:Vc}(W0:fF g)(w:Lb)(X:Nat->Prop)(F:Key->List Nat)(s:St)(a:Act)(o:Oper)(r:Res):Prop:=r.s=s/\(r.obl.ok-> ∃v,(∀w',Dep W0.gh τ X s a o w w'->(execOp a.eval o).run P w'=.ok (.value v) w')/\vt W0.gh w X W0.B s F a v [] r.t)
def Jg{r:Res}(hs:r.s=s)(hr:r.obl.ok-> ∃v,(∀w',Dep W0.gh τ X s a o w w'->(execOp a.eval o).run P w'=.ok (.value v) w')/\vt W0.gh w X W0.B s F a v [] r.t):dz P τ W0 w X F s a o r:=⟨hs,hr⟩
def z0{r:Res}(h:R n W0 w X F H s a)(hs:r.s=s)(hr:r.obl.ok-> ∃v,(execOp a.eval o).run P w=.ok (.value v) w/\vt W0.gh w X W0.B s F a v [] r.t):ZW P n W0 w X H s a o r:=by
 intro b K Q c;obtain⟨v,d,e⟩:=hr b;unfold Oper.wp;rw[d];exact c v X F [] w (λ_ h=>h) (by rw[hs];exact h) (by rw[hs];exact e) (λ_=>hs) ⟨λ_=>Old.refl w,h.kept (Old.refl w)⟩
def dz.sound{r:Res}(hp:dz P τ W0 w X F s a o r)(h:R n W0 w X F H s a):ZW P n W0 w X H s a o r:=z0 h hp.1 λb=>let⟨v,h1,h2⟩:=hp.2 b;⟨v,h1 w (Dep.refl _ _ _ _ _ _ w),h2⟩
def Zk4(s:St)(k:Nat)(t:Tm):Option Res:=
 match t with
 |.val T f x=>match f.live,so f T with
  |true,La=>K1 ⟨.val T f x,s,K3,K2⟩
  |true,K3=>match s.get (.m k)with
   |.val _ _ _=>K1 ⟨.bor k [],s,K3,K2⟩
   |_=>K2
  |_,_=>K2
 |.box _ _ _ _=>match s.get (.m k)with
  |.box _ _ _ _=>K1 ⟨.ptr k [],s,K3,K2⟩
  |_=>K2
 |.ptr r p=>K1 ⟨.ptr r p,s,K3,K2⟩
 |.shp T x=>K1 ⟨.shp T x,s,K3,K2⟩
 |.bor r p=>K1 ⟨.bor r p,s,K3,K2⟩
 |.elp r p i q=>K1 ⟨.elp r p i q,s,K3,K2⟩
 |.aep r p i=>K1 ⟨.aep r p i,s,K3,K2⟩
 |.pls h l=>K1 ⟨.pls h l,s,K3,K2⟩
 |.bel r p i q=>K1 ⟨.bel r p i q,s,K3,K2⟩
 |.cl f l=>K1 ⟨.cl f l,s,K3,K2⟩
 |_=>K2
def Qi6:K4->Bool|.pointer K2=>La|_=>K3
def Z5e(τ:Tab)(s:St)(e:Lc)(v:K4):Option Res:=
 match Qi6 v with
 |true=>K1 ⟨.pR,s,K3,K2⟩
 |false=>match τ e with
  |some T=>match Zlf T v with
   |some x=>K1 ⟨.val T (.u La) x,s,K3,K2⟩
   |none=>K2
  |none=>K2
def Zf4{e:Lc}{r:Res}(hr:Z5e τ s e v=K1 r):r.s=s/\vt gh w X B s F a v [] r.t:=by
 unfold Z5e at hr;split at hr
 ·simp only[pB]at hr;subst hr;exact⟨rfl,rfl⟩
 ·split at hr
  ·split at hr
   ·rename_i T _ x hx;simp only[pB]at hr;subst hr;obtain⟨b,c,d⟩:=Za8 (w:=w) (X:=X) (B:=B) (own:=La) hx;exact⟨rfl,b,c,Ak⟩
   ·cases hr
  ·cases hr
def Qad(_h:R n W0 w X F H s a){k:Nat}{T:Ty}{f:Fl}{x:T.den}(hg:s.get (.m k)=.val T f x):Yv W0.gh w s F a k [] (Xj W0.gh a (.m k)) T:=by
 simp_all[Yv]
theorem KN(h:R n W0 w X F H s a)(ht:tg.ok W0.gh a){k:Nat}{t:Tm}(hx:op1 s tg x=.tm k t){r:Res}(hr:Zk4 s k t=K1 r):
  r.s=s/\vt W0.gh w X W0.B s F a (a.eval x) [] r.t:=by
 have j:t≠ .pR:=by grind[Zk4]
 obtain⟨rfl,hv⟩:=V0 h ht hx j;unfold Zk4 at hr;split at hr
 ·rename_i T f y;split at hr
  ·rename_i _ _ l;simp only[pB]at hr;subst hr;obtain⟨m,i,d⟩:=hv;have:=kK l d;rw[this]at d;exact⟨rfl,m,i,d⟩
  ·split at hr
   ·rename_i g;simp only[pB]at hr;subst hr;exact⟨rfl,rfl,λ_=>⟨_,(Jf W0 a (wh hx).2.1)▸Qad h g⟩⟩
   ·cases hr
  ·cases hr
 ·rename_i e T f y;split at hr
  ·rename_i o p q u g;simp only[pB]at hr;subst hr;have hx:=(wh hx).2.2;simp only[g,Zds]at hx;cases hx;obtain⟨b,c,S,i,d,v,z⟩:=hv;exact⟨rfl,rfl,_,_,_,_,b,S,g,d,i⟩
  ·cases hr
 ·simp only[pB]at hr;subst hr;exact⟨rfl,hv.1▸hv⟩
 ·simp only[pB]at hr;subst hr;exact⟨rfl,hv.1▸hv⟩
 ·simp only[pB]at hr;subst hr;exact⟨rfl,hv.1▸hv⟩
 ·simp only[pB]at hr;subst hr;exact⟨rfl,hv.1▸hv⟩
 ·simp only[pB]at hr;subst hr;exact⟨rfl,hv.1▸hv⟩
 ·simp only[pB]at hr;subst hr;exact⟨rfl,hv.1▸hv⟩
 ·simp only[pB]at hr;subst hr;exact⟨rfl,hv.1▸hv⟩
 ·simp only[pB]at hr;subst hr;exact⟨rfl,hv.1▸hv⟩
 ·cases hr
def Zgo(τ:Tab)(s:St)(tg:Kd)(e:Lc)(x:Le):Option Res:=
 match op1 s tg x with
 |.cst v=>Z5e τ s e v
 |.fn f=>K1 ⟨.val (.fnc f) (.u La) (),s,K3,K2⟩
 |.tm k t=>Zk4 s k t
 |_=>K2
def Z7k(f:Lo):vt gh w X B s F a (.func (.func f) #[] #[]) [] (.val (.fnc f) (.u own) ()):=⟨[_],rfl,by unfold rdF;exact⟨rfl,rfl⟩⟩
def Qjq(h:R n W0 w X F H s a)(ht:tg.ok W0.gh a){e:Lc}{r:Res}(hr:Zgo τ s tg e x=K1 r):r.s=s/\vt W0.gh w X W0.B s F a (a.eval x) [] r.t:=by
 unfold Zgo at hr;split at hr
 ·rename_i v hv;obtain rfl:=Zdm hv;exact Zf4 hr
 ·rename_i f hv;obtain rfl:=Z6o hv;simp only[pB]at hr;subst hr;exact⟨rfl,Z7k f⟩
 all_goals grind[KN]
theorem Zd9(h:R n W0 w X F H s a)(ht:tg.ok W0.gh a)(ho:o.op=.move x){r:Res}(hr:Zgo τ s tg o.type x=K1 r):dz P τ W0 w X F s a o r:=by
 have b:=Qjq h ht hr;exact Jg b.1 λ_=>⟨_,λc _=>by simp[execOp,ho],b.2⟩
def Zal(τ:Tab)(s:St)(tg:Kd)(e:Lc)(x:Le):Option Res:=
 match op1 s tg x with
 |.cst v=>Z5e τ s e v
 |.fn f=>K1 ⟨.val (.fnc f) (.u La) (),s,K3,K2⟩
 |.tm k t=>match t with
  |.val _ _ _|.bor _ _=>match Zss s (.tm k t)with
   |some u=>K1 ⟨.val u.T u.f u.x,u.s,u.moved,K2⟩
   |none=>K2
  |_=>Zk4 s k t
 |_=>K2
theorem Zwu(h:R n W0 w X F H s a)(ht:tg.ok W0.gh a)(ho:o.op=.assign x){r:Res}(hr:Zal τ s tg o.type x=K1 r):ZW P n W0 w X H s a o r:=by
 unfold Zal at hr;have d:∀{k t u},op1 s tg x=.tm k t->Zss s (.tm k t)=K1 u->ZW P n W0 w X H s a o ⟨.val u.T u.f u.x,u.s,u.moved,K2⟩:=by
  intro k t u hx e;rw[<-hx]at e;obtain⟨g,S,i,b,c,j,l,_⟩:=Zdt h ht e;intro _ K Q m;unfold Oper.wp;simp only[execOp,ho,L9];exact m _ X g S w (λ_ h=>h) j ⟨i,b,c⟩ (λp=>(l p).1) ⟨λ_=>Old.refl w,h.kept (Old.refl w)⟩
 split at hr
 ·rename_i v hv;obtain rfl:=Zdm hv;obtain⟨b,c⟩:=Zf4 (w:=w) (X:=X) (B:=W0.B) (s:=s) (F:=F) (a:=a) hr;exact z0 h b λ_=>⟨_,by simp[execOp,ho,Act.eval],c⟩
 ·rename_i f hv;obtain rfl:=Z6o hv;simp only[pB]at hr;subst hr;exact z0 h rfl λ_=>⟨_,by simp[execOp,ho,Act.eval],Z7k f⟩
 ·rename_i k t hx;split at hr
  ·grind
  ·grind
  ·obtain⟨b,c⟩:=KN h ht hx hr;exact z0 h b λ_=>⟨_,by simp[execOp,ho],c⟩
 ·cases hr
def Zx4(τ:Tab)(s:St)(tg:Kd)(e:Lc)(c x y:Le):Option Res:=
 match τ e,c with
 |some T,.tmp k=>match T.flat,cT s (op1 s tg c) .bool,cT s (op1 s ((k,La)::tg) x) T,cT s (op1 s ((k,K3)::tg) y) T with
  |true,K1 b,K1 u,K1 v=>K1 ⟨.val T (.u K3) (match b with|true=>u|false=>v),s,K3,K2⟩
  |_,_,_,_=>K2
 |_,_=>K2
theorem Zng(h:R n W0 w X F H s a)(ht:tg.ok W0.gh a){c:Le}(ho:o.op=.pick c x y){r:Res}(hr:Zx4 τ s tg o.type c x y=K1 r):dz P τ W0 w X F s a o r:=by
 unfold Zx4 at hr;split at hr
 ·rename_i T k _;split at hr
  ·rename_i b u v A f g hv;simp only[pB]at hr;subst hr;refine Jg rfl λ_=>?_;obtain⟨e,i,j⟩:=eD h ht f;obtain⟨rfl,_⟩:=j;have l:Xj W0.gh a (.m k)=.bool b:=(Jf W0 a (Zft f)).trans i;have d:Kd.ok ((k,b)::tg) W0.gh a:=λp hp=>by
    rcases List.mem_cons.1 hp with rfl|hp
    ·exact l
    ·exact ht p hp
   cases b
   ·obtain⟨e,q,t⟩:=eD h d hv;exact⟨_,λz _=>by simp_all[execOp,Jd,asBool],e,rfl,by grind[rdF,iU]⟩
   ·obtain⟨e,q,t⟩:=eD h d g;exact⟨_,λz _=>by simp_all[execOp,Jd,asBool],e,rfl,by grind[rdF,iU]⟩
  ·cases hr
 ·cases hr
def Jv:Nat:=4611686018427387904
def Qp:Nat:=17179869184
def Qi4(op:BinOp)(k:Lk)(x y:Int):Option (TV×Ob):=
 match op with
 |.add=>K1 (⟨.int k,k.wrap (x+y)⟩,K2)
 |.sub=>K1 (⟨.int k,k.wrap (x-y)⟩,K2)
 |.mul=>K1 (⟨.int k,k.wrap (x*y)⟩,K2)
 |.quo=>K1 (⟨.int k,k.wrap (x.tdiv y)⟩,K1 (y≠0))
 |.rem=>K1 (⟨.int k,x.tmod y⟩,K1 (y≠0))
 |.and=>K1 (⟨.int k,bits .and k x y⟩,K2)
 |.or=>K1 (⟨.int k,bits .or k x y⟩,K2)
 |.xor=>K1 (⟨.int k,bits .xor k x y⟩,K2)
 |.andNot=>K1 (⟨.int k,bits .andNot k x y⟩,K2)
 |.eql=>K1 (⟨.bool,x==y⟩,K2)
 |.neq=>K1 (⟨.bool,x !=y⟩,K2)
 |.lss=>K1 (⟨.bool,Lt (x<y)⟩,K2)
 |.leq=>K1 (⟨.bool,Lt (x<=y)⟩,K2)
 |.gtr=>K1 (⟨.bool,Lt (x>y)⟩,K2)
 |.geq=>K1 (⟨.bool,Lt (x>=y)⟩,K2)
 |_=>K2
def Qkx(op:BinOp)(x y:List UInt8):Option (TV×Ob):=
 match op with
 |.add=>K1 (⟨.str,x++y⟩,K1 (x.length+y.length<=Jv))
 |.eql=>K1 (⟨.bool,x==y⟩,K2)
 |.neq=>K1 (⟨.bool,!(x==y)⟩,K2)
 |.lss=>K1 (⟨.bool,L3 x y⟩,K2)
 |.leq=>K1 (⟨.bool,L3 x y||x==y⟩,K2)
 |.gtr=>K1 (⟨.bool,!(L3 x y||x==y)⟩,K2)
 |.geq=>K1 (⟨.bool,!(L3 x y)⟩,K2)
 |_=>K2
def Qcy(op:BinOp)(x y:Bool):Option (TV×Ob):=
 match op with
 |.eql=>K1 (⟨.bool,x==y⟩,K2)
 |.neq=>K1 (⟨.bool,!(x==y)⟩,K2)
 |_=>K2
def Z9x(op:BinOp)(k:Lk)(x y:Int):Option (TV×Ob):=
 match op with
 |.shl=>K1 (⟨.int k,k.wrap (x*2^ (min y.toNat k.bits))⟩,K1 (0<=y))
 |.shr=>K1 (⟨.int k,x.fdiv (2^ (min y.toNat k.bits))⟩,K1 (0<=y))
 |_=>K2
def BinOp.isShift:BinOp->Bool|.shl|.shr=>La|_=>K3
def Z45(τ:Tab)(s:St)(tg:Kd)(op:BinOp)(e:Lc)(x y:Le)(e2:Lc):Option Res:=
 match τ e with
 |some (.int k)=>match BinOp.isShift op with
  |true=>match τ e2 with
   |some (.int k2)=>match cT s (op1 s tg x) (.int k),cT s (op1 s tg y) (.int k2)with
    |some u,K1 v=>match Z9x op k u v with
     |some (z,p)=>K1 ⟨.val z.1 (.u K3) z.2,s,K3,p⟩
     |none=>K2
    |_,_=>K2
   |_=>K2
  |false=>match cT s (op1 s tg x) (.int k),cT s (op1 s tg y) (.int k)with
   |some u,K1 v=>match Qi4 op k u v with
    |some (z,p)=>K1 ⟨.val z.1 (.u K3) z.2,s,K3,p⟩
    |none=>K2
   |_,_=>K2
 |some .str=>match cT s (op1 s tg x) .str,cT s (op1 s tg y) .str with
  |some u,K1 v=>match Qkx op u v with
   |some (z,p)=>K1 ⟨.val z.1 (.u K3) z.2,s,K3,p⟩
   |none=>K2
  |_,_=>K2
 |some .bool=>match cT s (op1 s tg x) .bool,cT s (op1 s tg y) .bool with
  |some u,K1 v=>match Qcy op u v with
   |some (z,p)=>K1 ⟨.val z.1 (.u K3) z.2,s,K3,p⟩
   |none=>K2
  |_,_=>K2
 |_=>K2
def Zed(k:Lk)(x:Int):vt gh w X B s F a (.int k x) [] (.val (.int k) (.u own) x):=⟨[.int k x],rfl,by unfold rdF;exact⟨rfl,rfl⟩⟩
def JG(x:Bool):vt gh w X B s F a (.bool x) [] (.val .bool (.u own) x):=⟨[.bool x],rfl,by unfold rdF;exact⟨rfl,rfl⟩⟩
def Z7l(x:List UInt8):vt gh w X B s F a (.string ⟨⟨x⟩⟩) [] (.val .str (.u own) x):=⟨[.string ⟨⟨x⟩⟩],rfl,by unfold rdF;exact⟨rfl,rfl⟩⟩
def ZG(h:R n W0 w X F H s a)(ht:tg.ok W0.gh a){k:Lk}{y:Int}(hr:cT s (op1 s tg x) (.int k)=K1 y):a.eval x=.int k y:=by
 obtain⟨d,b,c,_⟩:=eD h ht hr;rw[b,c];rfl
def rH(h:R n W0 w X F H s a)(ht:tg.ok W0.gh a){y:Bool}(hr:cT s (op1 s tg x) .bool=K1 y):a.eval x=.bool y:=by
 obtain⟨d,b,c,_⟩:=eD h ht hr;rw[b,c];rfl
def Zam(h:R n W0 w X F H s a)(ht:tg.ok W0.gh a){y:List UInt8}(hr:cT s (op1 s tg x) .str=K1 y):a.eval x=.string ⟨⟨y⟩⟩:=by
 obtain⟨d,b,c,_⟩:=eD h ht hr;rw[b,c];rfl
def Qch(x y:List UInt8):(ByteArray.mk ⟨x⟩)++(ByteArray.mk ⟨y⟩)=ByteArray.mk ⟨x++y⟩:=by
 rfl
def Zp2(h:R n W0 w X F H s a)(ht:tg.ok W0.gh a)(hτ:τ.ok P){op:BinOp}{e:Lc}(ho:o.op=.binOp op e x y e2){r:Res}(hr:Z45 τ s tg op e x y e2=K1 r):
  dz P τ W0 w X F s a o r:=by
 unfold Z45 at hr;split at hr
 ·rename_i k i;split at hr
  ·split at hr
   ·split at hr
    ·rename_i m _ _ _ u v f hv;split at hr
     ·rename_i z p b;simp only[pB]at hr;subst hr;refine Jg rfl λc=>?_;have d:=ZG h ht f;have e2:=ZG h ht hv;cases op<;>simp only[Z9x]at b<;>first|cases b|skip
      all_goals
       have j:¬v<0:=Int.not_lt.mpr (show(0:Int)<=v from c)
       (refine⟨_,λg _=>?_,Zed _ _⟩;simp only[execOp,ho,d,e2];simp[go_sem,Op.shift,j])
     ·cases hr
    ·cases hr
   ·cases hr
  ·split at hr
   ·rename_i u v f hv;split at hr
    ·rename_i z p b;simp only[pB]at hr;subst hr;refine Jg rfl λc=>?_;have d:=ZG h ht f;have e2:=ZG h ht hv;cases op<;>simp only[Qi4]at b<;>first|cases b|skip
     all_goals first
      |(refine⟨_,λg _=>?_,Zed _ _⟩;simp only[execOp,ho,d,e2];simp[go_sem,Op.intArith];done)
      |(refine⟨_,λg _=>?_,JG _⟩;simp only[execOp,ho,d,e2];first|(simp[go_sem];done)|(simp[go_sem,binOp,L8];done))
      |(have c:v≠0:=c;refine⟨_,λg _=>?_,Zed _ _⟩;simp only[execOp,ho,d,e2];simp[go_sem,Op.intDiv,c])
    ·cases hr
   ·cases hr
 ·split at hr
  ·rename_i u v f hv;split at hr
   ·rename_i z p b;simp only[pB]at hr;subst hr;refine Jg rfl λc=>?_;have d:=Zam h ht f;have e2:=Zam h ht hv;cases op<;>simp only[Qkx]at b<;>first|cases b|skip
    ·refine⟨.string ⟨⟨u++v⟩⟩,λg _=>?_,Z7l _⟩;have c:u.length+v.length<=Jv:=c;unfold Jv at c;simp only[execOp,ho,d,e2];simp[go_sem,binOp,L8,Qch];omega
    all_goals (refine⟨_,λg _=>?_,JG _⟩;simp only[execOp,ho,d,e2];first|(simp[go_sem];done)|(simp[go_sem,binOp,L8];done))
   ·cases hr
  ·cases hr
 ·rename_i i;split at hr
  ·rename_i u v f hv;split at hr
   ·rename_i z p b;simp only[pB]at hr;subst hr;refine Jg rfl λc=>?_;have d:=rH h ht f;have e2:=rH h ht hv;have l:=(hτ _ _ i).bool;cases op<;>simp only[Qcy]at b<;>first|cases b|skip
    all_goals (refine⟨_,λg _=>?_,JG _⟩;simp only[execOp,ho,d,e2];simp[go_sem,binOp,run_equal_bool g e u v l])
   ·cases hr
  ·cases hr
 ·cases hr
def Zbt(h:R n W0 w X F H s a){k r:Nat}{T:Ty}{f:Fl}{y:T.den}(hl:ZS s (.tm k (.bor r p))=K1 ⟨T,f,y⟩){U:Ty}(hU:Yv W0.gh w s F a r p v U):
  s.bad r p=K3/\T=U/\f.live=La/\ ∃vs S,v=Jd T vs/\rdF w X W0.B T f y vs S/\(∀b∈S,b∈F (.m r)):=by
 simp only[ZS]at hl;split at hl
 ·cases hl
 ·rename_i d;refine⟨d,?_⟩;unfold Yv at hU;have hs:=h.slots (.m r);split at hl
  ·rename_i q t u g;rw[g]at hU hs;obtain⟨rfl,rfl,hv⟩:=hU;split at hl
   ·rename_i x;simp only[pB,Ld]at hl;obtain⟨rfl,hl⟩:=hl;simp only[heq_eq_eq,pF]at hl;obtain⟨rfl,rfl⟩:=hl;obtain⟨vs,j,l⟩:=hs
    grind
   ·cases hl
  ·rename_i e q t u g;rw[g]at hU hs;obtain⟨b,c,S,A,j,l,z,C,D⟩:=hU;obtain⟨E,G,I,J,o,i,K⟩:=hs;rw[j]at o;obtain⟨rfl,rfl⟩:=L0 o;rw[l]at i;simp only[pB,L2]at i;obtain⟨rfl,_⟩:=i;rw[z]at hl;simp only at hl;split at hl
   ·rename_i x;simp only[pB,Ld]at hl;obtain⟨rfl,hl⟩:=hl;simp only[heq_eq_eq,pF]at hl;obtain⟨rfl,rfl⟩:=hl
    grind[jz,K0]
   ·cases hl
  ·cases hl
def ze(s:St)(x:Op1):Option (Lk×Int):=
 match x with
 |.cst (.int k n)=>K1 (k,n)
 |.cst _=>K2
 |x=>match ZS s x with
  |some ⟨.int k,_,n⟩=>K1 (k,n)
  |_=>K2
def gq(h:R n W0 w X F H s a)(ht:tg.ok W0.gh a){k:Lk}{y:Int}(hr:ze s (op1 s tg x)=K1 (k,y)):a.eval x=.int k y:=by
 unfold ze at hr;split at hr
 ·rename_i v hv;simp only[pB,pF]at hr;obtain⟨rfl,rfl⟩:=hr;obtain rfl:=Zdm hv;rfl
 ·cases hr
 ·split at hr
  ·rename_i j f l e;simp only[pB,pF]at hr;obtain⟨rfl,rfl⟩:=hr;obtain⟨_,m,S,i,c,_⟩:=lJ h ht e;cases f with
   |u b=>unfold rdF at c;rw[i,c.1];rfl
   |p f g=>exact c.elim
   |d=>simp[Fl.live]at*
  ·cases hr
def Zkp(s:St)(x:Op1):Option ((_:Lc)×(t:Ty)×Bool×List t.den):=
 match ZS s x with
 |some ⟨.slice e t,.u b,l⟩=>K1 ⟨e,t,b,l⟩
 |_=>K2
def WZ(h:R n W0 w X F H s a)(ht:tg.ok W0.gh a){e:Lc}{t:Ty}{b:Bool}{l:List t.den}(hr:Zkp s (op1 s tg x)=K1 ⟨e,t,b,l⟩):
  ∃v xs S1 S2,a.eval x=v/\hdr w X W0.B b e t.size l.length v xs S1/\eh (rd w X W0.B b t) l xs S2/\ ∀b'∈S1++S2,∃k,b'∈F k:=by
 unfold Zkp at hr;split at hr
 ·rename_i m o b' p d;simp only[pB,Ld]at hr;obtain⟨rfl,hr⟩:=hr;simp only[heq_eq_eq,Ld]at hr;obtain⟨rfl,hr⟩:=hr;simp only[heq_eq_eq,pF]at hr;obtain⟨rfl,rfl⟩:=hr;obtain⟨_,q,S,f,c,g⟩:=lJ h ht d;unfold rdF at c;obtain⟨v,xs,S1,S2,rfl,rfl,i,j⟩:=c;exact⟨v,xs,S1,S2,f,i,j,g⟩
 ·cases hr
def Qe4(τ:Tab)(s:St)(tg:Kd)(op:UnOp)(e:Lc)(x:Le):Option Res:=
 match op,τ e with
 |.not,K1 .bool=>match cT s (op1 s tg x) .bool with
  |some u=>K1 ⟨.val .bool (.u K3) (!u),s,K3,K2⟩
  |none=>K2
 |.neg,K1 (.int k)=>match cT s (op1 s tg x) (.int k)with
  |some u=>K1 ⟨.val (.int k) (.u K3) (k.wrap (0-u)),s,K3,K2⟩
  |none=>K2
 |_,_=>K2
theorem Zwk(h:R n W0 w X F H s a)(ht:tg.ok W0.gh a){op:UnOp}{e:Lc}(ho:o.op=.unOp op e x){r:Res}(hr:Qe4 τ s tg op e x=K1 r):dz P τ W0 w X F s a o r:=by
 unfold Qe4 at hr;split at hr
 ·split at hr
  ·rename_i u b;simp only[pB]at hr;subst hr;have c:=rH h ht b;refine Jg rfl λ_=>⟨_,λd _=>?_,JG _⟩
   simp_all[execOp,Op.unary]
  ·cases hr
 ·split at hr
  ·rename_i k _ _ u b;simp only[pB]at hr;subst hr;have c:=ZG h ht b;refine Jg rfl λ_=>⟨_,λd _=>?_,Zed _ _⟩
   simp_all[execOp,Op.unary,Op.intArith]
  ·cases hr
 ·cases hr
def Xx(l:List Int):List UInt8:=l.map λn=>Mi n.toNat
def Zxq(τ:Tab)(s:St)(tg:Kd)(src dst:Lc)(x:Le):Option Res:=
 match τ src,τ dst with
 |some (.int k),K1 (.int k2)=>match cT s (op1 s tg x) (.int k)with
  |some u=>K1 ⟨.val (.int k2) (.u K3) (k2.wrap u),s,K3,K2⟩
  |none=>K2
 |some (.slice e' (.int .u8)),K1 .str=>match Zkp s (op1 s tg x),τ e' with
  |some ⟨_,.int .u8,_,l⟩,K1 (.int .u8)=>K1 ⟨.val .str (.u K3) (Xx l),s,K3,K2⟩
  |_,_=>K2
 |some .str,K1 .str=>match cT s (op1 s tg x) .str with
  |some u=>K1 ⟨.val .str (.u K3) u,s,K3,K2⟩
  |none=>K2
 |_,_=>K2
def Z4g{k:Lk}:∀{l:List Int}{xs:List K4}{S:List Nat},eh (rd w X B own (.int k)) l xs S->xs=l.map (Ma k)/\S=[]
 |[],_,_,⟨a,b⟩=>⟨a,b⟩
 |x::l,_,_,⟨c,d,e,f,g,h,a,b⟩=>by
  obtain⟨rfl,rfl⟩:=a;obtain⟨rfl,rfl⟩:=Z4g b;simp_all
def Zhj:∀(l:List Int)(r:ByteArray),l.foldl (λr n=>r.push (Mi n.toNat)) r=⟨r.data++(Xx l).toArray⟩
 |[],r=>by simp[Xx]
 |b::l,r=>by
  simp only[List.foldl_cons];rw[Zhj l];simp[ByteArray.push,Xx]
def Zm5(h:R n W0 w X F H s a)(ht:tg.ok W0.gh a)(hτ:τ.ok P){e:Lc}(ho:o.op=.convert e e2 x){r:Res}(hr:Zxq τ s tg e e2 x=K1 r):dz P τ W0 w X F s a o r:=by
 unfold Zxq at hr;split at hr
 ·rename_i k A g i;split at hr
  ·rename_i u q;simp only[pB]at hr;subst hr;have t:=ZG h ht q;refine Jg rfl λ_=>⟨_,λf c=>?_,Zed _ _⟩
   simp only[execOp,ho,t];simp[convert,run_underlying (hτ _ _ g).int,run_underlying (hτ _ _ i).int,Conv.intToInt]
  ·cases hr
 ·rename_i C g i;split at hr
  ·rename_i I b l p d;simp only[pB]at hr;subst hr;have d:=hτ _ _ d;obtain⟨v,J,K,L,hv,D,A,_⟩:=WZ h ht p;obtain⟨rfl,rfl⟩:=Z4g A;obtain⟨E,m,rfl,_,_,y⟩:=fI D;refine Jg rfl λ_=>⟨_,λf c=>?_,Z7l _⟩
   simp only[execOp,ho,hv];rw[Ln,run_convert_bytes_string f e e2 C E _ m (hτ _ _ g).slice.1 d.int (hτ _ _ i).str];rcases y with⟨rfl,z,_⟩|⟨B,rfl,_,y⟩
   ·have:l=[]:=List.eq_nil_of_length_eq_zero z;subst this;rfl
   ·have p:=run_loadCells_list (P:=P) f B (l.map (Ma .u8)) (λj u G=>(show Old w f by
     have:=c (by simp_all[Qjl]);rw[ho]at this;exact this).cell (y j u G))
    simp only[List.length_map]at p;rw[run_bytesToString f B l.length m l p,Zhj];simp_all
  ·cases hr
 ·rename_i g i;split at hr
  ·rename_i u q;simp only[pB]at hr;subst hr;have t:=Zam h ht q;refine Jg rfl λ_=>⟨_,λf c=>?_,Z7l _⟩
   simp only[execOp,ho,t];simp[convert,run_underlying (hτ _ _ g).str,run_underlying (hτ _ _ i).str]
  ·cases hr
 ·cases hr
def Qop(u:List UInt8):(ByteArray.mk ⟨u⟩).size=u.length:=rfl
def Qrz(u v:Int):(ite (v<u) v u)=min u v:=Aa
def Qrv(u v:Int):(ite (u<v) v u)=max u v:=Aa
def Z6b(τ:Tab)(s:St)(tg:Kd)(e:Lc)(x:Le):Option Res:=
 match τ e with
 |some .str=>match cT s (op1 s tg x) .str with
  |some u=>K1 ⟨.val (.int .i64) (.u K3) (u.length:Int),s,K3,K2⟩
  |none=>K2
 |some (.slice _ _)=>match Zkp s (op1 s tg x)with
  |some ⟨_,_,_,l⟩=>K1 ⟨.val (.int .i64) (.u K3) (l.length:Int),s,K3,K2⟩
  |none=>K2
 |_=>K2
def Zqv(h:R n W0 w X F H s a)(ht:tg.ok W0.gh a)(hτ:τ.ok P){e:Lc}(ho:o.op=.call {callee:=.builtin .len,args:= #[x],argTypes:= #[e]}){r:Res}(hr:Z6b τ s tg e x=K1 r):dz P τ W0 w X F s a o r:=by
 unfold Z6b at hr;split at hr
 ·rename_i c;split at hr
  ·rename_i u d;simp only[pB]at hr;subst hr;have f:=Zam h ht d;refine Jg rfl λ_=>⟨_,λg _=>?_,Zed _ _⟩
   simp only[execOp,ho];simp[resolve,invoke,builtin,f,Mb,run_underlying (hτ _ _ c).str,goInt,Qop]
  ·cases hr
 ·rename_i c;split at hr
  ·rename_i m t b l i;simp only[pB]at hr;subst hr;obtain⟨v,p,q,y,hv,j,z,_⟩:=WZ h ht i;obtain⟨A,k,rfl,_,_,B⟩:=fI j;refine Jg rfl λ_=>⟨_,λg _=>?_,Zed _ _⟩
   simp only[execOp,ho];simp[resolve,invoke,builtin,hv,Mb,run_underlying (hτ _ _ c).slice.1,goInt]
  ·cases hr
 ·cases hr
def Ztu(s:St)(tg:Kd)(e:Lc)(τ:Tab)(x y:Le)(mx:Bool):Option Res:=
 match τ e with
 |some (.int k)=>match cT s (op1 s tg x) (.int k),cT s (op1 s tg y) (.int k)with
  |some u,K1 v=>K1 ⟨.val (.int k) (.u K3) (match mx with|true=>(max u v:Int)|false=>(min u v:Int)),s,K3,K2⟩
  |_,_=>K2
 |_=>K2
def WW(h:R n W0 w X F H s a)(ht:tg.ok W0.gh a){e:Lc}{mx:Bool}(ho:o.op=.call {callee:=.builtin (match mx with|true=>.max|false=>.min),args:= #[x,y],argTypes:= #[e,e2]}){r:Res}(hr:Ztu s tg e τ x y mx=K1 r):
  dz P τ W0 w X F s a o r:=by
 unfold Ztu at hr;split at hr
 ·split at hr
  ·rename_i u v b hv;simp only[pB]at hr;subst hr;have c:=ZG h ht b;have e2:=ZG h ht hv;refine Jg rfl λ_=>⟨_,λd _=>?_,Zed _ _⟩
   simp only[execOp,ho];cases mx
   ·simp_all[resolve,invoke,builtin,Lq.min_,Lq.min2,Qrz]
   simp_all[resolve,invoke,builtin,Lq.max_,Lq.max2,Qrv]
  ·cases hr
 ·cases hr
def Qgo{T:Ty}{e:Lc}(h1:VA P e T=La)(h2:Qha P e T=La)(w:Lb){xs:Array K4}{off:Nat}{pre u:List K4}(hx:xs.toList=pre++(u++post))(ho:pre.length=off)(hu:u.length=T.size):
  (part e xs off).run P w=.ok (Jd T u) w:=by
 obtain⟨i,b,hs,_⟩:=wn h1;unfold part;simp only[Ln,Qhb h2 w,L4];cases ha:T.isAgg
 ·have h1:=Zsk ha;rw[h1]at hu;obtain⟨v,rfl⟩:=L6.1 hu;have:xs[off]? =K1 v:=by
   rw[<-Array.getElem?_toList,hx,<-ho];simp
  have a:Jd T [v]=v:=by cases T<;>simp[Ty.isAgg]at ha<;>rfl
  simp[this,a]
 ·simp only[if_true,Ln,L5,typeInfo,L9];have c:xs.extract off (off+T.size)=u.toArray:=by
   grind[Array.toList_extract]
  have a:Jd T u=.agg u.toArray:=by cases T<;>simp[Ty.isAgg]at ha<;>rfl
  simp_all
def Zqm(τ:Tab)(s:St)(tg:Kd)(e:Lc)(x i:Le):Option Res:=
 match τ e with
 |some .str=>match cT s (op1 s tg x) .str,ze s (op1 s tg i)with
  |some u,K1 (_,j)=>K1 ⟨.val (.int .u8) (.u K3) ((u.getD j.toNat 0).toNat:Int),s,K3,K1 (0<=j/\j<u.length)⟩
  |_,_=>K2
 |some (.arr n t)=>match t.flat,cT s (op1 s tg x) (.arr n t),ze s (op1 s tg i)with
  |true,K1 l,K1 (_,j)=>K1 ⟨.val t (.u K3) (l.getD j.toNat (zero t)),s,K3,K1 (0<=j/\j<n)⟩
  |_,_,_=>K2
 |_=>K2
def Zjj(h:R n W0 w X F H s a)(ht:tg.ok W0.gh a)(hτ:τ.ok P){e:Lc}{i:Le}(ho:o.op=.index e x i){r:Res}(hr:Zqm τ s tg e x i=K1 r):dz P τ W0 w X F s a o r:=by
 unfold Zqm at hr;split at hr
 ·rename_i m;split at hr
  ·rename_i u k j p q;simp only[pB]at hr;subst hr;have I:=Zam h ht p;have v:=gq h ht q;refine Jg rfl λg=>⟨_,λE _=>?_,Zed _ _⟩
   have g:0<=j/\j<u.length:=g;have y:j.toNat<u.length:=Aa
   have z:0<=j/\j<(ByteArray.mk ⟨u⟩).size:=by simp_all[ByteArray.size]
   simp only[execOp,ho,I,v,Ln];rw[run_index_string _ _ _ _ _ (hτ _ _ m).str,dif_pos z];simp[List.getD_eq_getElem?_getD,y];rfl
  ·cases hr
 ·rename_i n t J;split at hr
  ·rename_i l k j K L q;simp only[pB]at hr;subst hr;obtain⟨G,m,M⟩:=eD h ht L;have v:=gq h ht q;obtain⟨b,c⟩:=M;have b:l.length=n:=b;obtain⟨_,S,p,hs,A⟩:=(hτ _ _ J).arr';obtain⟨U,B,C,_⟩:=wn hs;by_cases d:0<=j/\j<n
   ·have D:j.toNat<l.length:=Aa
    obtain⟨pre,f,post,V,W,Y,N,Z,O,Q,_⟩:=yz (λ_ _ _ h=>Jx h) D c;have e4:l.getD j.toNat (zero t)=l[j.toNat]:=Ac
    refine Jg rfl λ_=>⟨Jd t f,λE _=>?_,f,rfl,by grind[rdF,iU]⟩
    have hx:a.eval x=.agg G.toArray:=m;simp only[execOp,ho,hx,v,Instr.index,Ln,asIntOf,L9,L4,run_underlying p,L5,typeInfo];simp only[d.1,d.2,and_self,if_true,Ln];simp[B,C,Qgo hs A E (xs:=G.toArray) (off:=j.toNat*t.size) (pre:=pre) (u:=f) (post:=post) (by simpa using N) O (Jx Q)]
   ·exact Jg rfl λg=>absurd g d
  ·cases hr
 ·cases hr
end Go.Am

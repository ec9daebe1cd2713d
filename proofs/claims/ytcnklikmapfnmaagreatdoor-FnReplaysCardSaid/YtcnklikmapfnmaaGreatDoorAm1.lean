/- No condition. -/
import Derived.WalkKit
import Derived.Great.BuildSlice
set_option linter.all false
namespace Go.Am
open Option renaming some→K1,none→K2,map_eq_some_iff→Mn,map_none→Np
open Bool renaming false→K3,true→K4,or_eq_false_iff→Mf
open Go renaming Value→La,TypeId→Lb,World→Lc,Operand→Ld,Addr→Le,Oper→Lj,Result→Lk,Builtin→Lq,sizeOf→Lr,IntKind→Lx,Program→Ly,isAgg→L1,FuncId→L4
open Decidable renaming decide→Lf
open List renaming nodup_append→Lg,mem_append→Ll,getElem?_append_left→Lt,getElem?_append_right→Lu,replicate→Lw,getElem?_eq_some_iff→Mb,append_assoc→Mj,nodup_iff_count→Mk,count_append→Ms,eq_nil_of_length_eq_zero→Mt,ext_getElem?→Mu,length_append→Mv,length_eq_one_iff→Mw,mem_singleton→Mx,append_inj→M7,append_nil→M8,count_cons→M9,count_pos_iff→Na,drop_left'→Nb,foldl_cons→Nc,getElem?_eq_getElem→Nd,length_take→Nf,mem_cons→Ng,nil_append→Nh,nodup_cons→Ni,set_eq_take_append_cons_drop→Nj,take_append_drop→Nk
open Sem renaming run_bind→Lh,run_pure→Lp
open Sigma.mk renaming injEq→Li
open Addr renaming add→Lm
open Nat renaming beq→Ln,le_refl→Lz,blt→L3,lt_of_lt_of_le→L5,beq_refl→Mc,le_trans→Md,blt_eq→Ml,lt_irrefl→My,add_mul→Nl,min_eq_left→Nm,mul_le_mul_right→Nn
open Result renaming andThen_ok→Lo
open Oper renaming wp→Ls
open List.cons renaming inj→Lv
open Ne renaming symm→L0
open World renaming cell?_of_block→L2,setRow→Ma,cell?→Ns
open Instr renaming fill→L6,sliceBounds→Mh,sureAddr→Mi,build→Mp,indexAt→Mq,sliceBound→Mr,fieldAt→M5,sliceAt→M6
open Obj.cells renaming injEq→L7
open Value renaming oneCell'→L8,ownBlock→L9,int→M0,slice→M1
open Act renaming put→Me
open Builtin renaming append_→Mg,firstCells→M2,lenOf→M3,len_→M4
open Op renaming bytesLess→Mm,stringOp→Mz
open Value.slice renaming injEq→Mo
open Result.ok renaming injEq→Nq
open UInt8 renaming ofNat→Nr
open List.Sublist renaming refl→Nt
def Aa{p:Prop}(h:p:=by omega):p:=h
def Ab{p:Prop}(h:p:=by kernel_rfl):p:=h
def Ac{p:Prop}(h:p:=by simp):p:=h
def Ae{p:Prop}(h:p:=by simp;omega):p:=h
def Af{p:Prop}(h:p:=by simp_all):p:=h
def Ag{p:Prop}(h:p:=by simp only;omega):p:=h
def Ah{p:Prop}(h:p:=by decide):p:=h
def Ai{p:Prop}(h:p:=by grind):p:=h
def Aj{p:Prop}(h:p:=by grind[Qd]):p:=h
def Ak{p:Prop}(h:p:=by grind[Z6]):p:=h
def Al{p:Prop}(h:p:=by grind[Zs]):p:=h
def Ao{p:Prop}(h:p:=by simp_all[TZ]):p:=h
def Ap{p:Prop}(h:p:=by grind[RH]):p:=h
def Aq{p:Prop}(h:p:=by grind[al]):p:=h
def Ar{p:Prop}(h:p:=by simp_all[zX]):p:=h
def As{p:Prop}(h:p:=by simp_all[Vp]):p:=h
def At{p:Prop}(h:p:=by grind[J3]):p:=h
def Au{p:Prop}(h:p:=by grind[TZ]):p:=h
def Av{p:Prop}(h:p:=by simp_all[cQ]):p:=h
def Aw{p:Prop}(h:p:=by grind[Jm]):p:=h
def Ax{p:Prop}(h:p:=by simp_all[Fz]):p:=h
def Ay{p:Prop}(h:p:=by grind[Kp]):p:=h
def Az{p:Prop}(h:p:=by simp_all[aX]):p:=h
variable{a:Act}{ad:Le}{parts:Array (Nat×Ld)}{eo:Bool}{f:L4}{j:Int}{S p S0 l S' H' q Sy:List Nat}{vs xs mid post ys:List La}{n m sz i b d g off len:Nat}{X:Nat->Prop}{gh:Nat->La}{x y:Ld}{α β:Type _}{e2 e':Lb}{v u ve:La}{w w':Lc}
instance{α:Type}:CoeOut (List α) Nat:=⟨λl=>l.length⟩
instance{α:Type}:CoeOut (List α) Int:=⟨λl=>(l.length:Int)⟩
open Go.RowKit
def pA(a:α)(f:α->Option β):(K1 a).bind f=f a:=rfl
theorem pB(a b:α):(K1 a=K1 b)=(a=b):=Option.some.injEq a b
def pC(a b:Bool):((a&&b)=K4)=(a=K4/\b=K4):=Bool.and_eq_true a b
theorem pD(h:Ln n m=K4):n=m:=Nat.eq_of_beq_eq_true h
def pE{p:Prop}[Decidable p](h:decide p=K4):p:=of_decide_eq_true h
def pF(a:α)(b:β)(c:α)(d:β):((a,b)=(c,d))=(a=c/\b=d):=Prod.mk.injEq a b c d
def pG(a b:α):cond K4 a b=a:=rfl
def pH(a b:α):cond K3 a b=b:=rfl
def pI:(!K4)=false:=rfl
def pJ(b:Bool):(K4&&b)=b:=Bool.true_and b
inductive Ty where
 |unit|int (k:Lx)|bool|str|slice (e:Lb) (t:Ty)|pair (a b:Ty)|arr (n:Nat) (t:Ty)|fnc (f:L4)|err|hid (t:Ty)|sptr (e:Lb) (t:Ty)|clo (f:L4) (t:Ty)
 deriving DecidableEq
@[reducible] def Ty.den:Ty->Type|.unit=>Unit|.int _=>Int|.bool=>Bool|.str=>List UInt8|.slice _ t=>List t.den|.pair a b=>a.den×b.den|.arr _ t=>List t.den|.fnc _=>Unit|.err=>Bool|.hid _=>Unit|.sptr _ t=>t.den|.clo _ t=>t.den
def Ty.size:Ty->Nat|.unit=>0|.pair a b=>a.size+b.size|.arr n t=>n*t.size|_=>1
def Ty.flat:Ty->Bool|.slice .. =>K3|.pair a b=>a.flat&&b.flat|.arr _ t=>t.flat|.hid t=>t.flat|.sptr .. =>K3|.clo .. =>K3|_=>K4
def Ty.plain:Ty->Bool|.sptr .. =>K3|.clo .. =>K3|.pair a b=>a.plain&&b.plain|.arr _ t=>t.plain|.hid t=>Ln t.size 1&&t.plain|_=>K4
def Kx(T:Ty)(vs:List La):La:=
 match T with
 |.unit|.pair .. |.arr .. =>.agg vs.toArray
 |_=>vs.headD undef
def dY{α:Type}(r:α->List La->List Nat->Prop):List α->List La->List Nat->Prop|[],vs,S=>vs=[]/\S=[]|x::xs,vs,S=> ∃v1 v2 S1 S2,vs=v1++v2/\S=S1++S2/\r x v1 S1/\dY r xs v2 S2
def HW(w:Lc)(X:Nat->Prop)(B:Nat)(own:Bool)(e:Lb)(sz n:Nat)(v:La)(xs:List La)(S:List Nat):Prop:=
 match own with
 |true=>w.ownsRow B e sz v n xs/\S=v.ownBlock.toList
 |false=>S=[]/\xs.length=n*sz/\ ∃a cap,v=.slice a n cap/\n<=cap/\cap<=maxLen/\
   ((a=K2/\n=0/\cap=0)\/ ∃ad,a=K1 ad/\(n=0\/X ad.block)/\ ∀j u,xs[j]? =K1 u->w.cell? (ad.add j)=K1 u)
def rd(w:Lc)(X:Nat->Prop)(B:Nat)(own:Bool):(T:Ty)->T.den->List La->List Nat->Prop|.unit,_,vs,S=>vs=[]/\S=[]|.int k,x,vs,S=>vs=[.int k x]/\S=[]|.bool,x,vs,S=>vs=[.bool x]/\S=[]|.fnc f,_,vs,S=>vs=[.func (.func f) #[] #[]]/\S=[]|.str,x,vs,S=>vs=[.string ⟨⟨x⟩⟩]/\S=[]|.slice e t,x,vs,S=> ∃v xs S1 S2,vs=[v]/\S=S1++S2/\HW w X B own e t.size x.length v xs S1/\dY (rd w X B own t) x xs S2|.pair a b,x,vs,S=> ∃v1 v2 S1 S2,vs=v1++v2/\S=S1++S2/\rd w X B own a x.1 v1 S1/\rd w X B own b x.2 v2 S2|.arr n t,x,vs,S=>x.length=n/\dY (rd w X B own t) x vs S|.err,x,vs,S=>(∃v,vs=[v]/\v.oneCell'=K4/\((x=K4/\v=.nilIface)\/(x=K3/\ ∃t u,v=.iface t u)))/\S=[]|.hid t,_,vs,S=>vs.length=1/\ ∃y,rd w X B own t y vs S|.sptr e t,x,vs,S=>S=[]/\own=K3/\ ∃b c,vs=[.pointer (K1 ⟨b,0,K2⟩)]/\X b/\w.heap[b]? =K1 (.cells c e (0,0))/\rd w X B own t x c.toList []|.clo f t,x,vs,S=>S=[]/\ ∃cs:List La,vs=[.func (.func f) #[] cs.toArray]/\rd w X B own t x cs []
inductive Fl where
 |u (own:Bool)|p (a b:Fl)|d
def TZ(w:Lc)(X:Nat->Prop)(B:Nat):(T:Ty)->Fl->T.den->List La->List Nat->Prop|T,.d,_,vs,S=>vs.length=T.size/\(∀u∈vs,u.oneCell'=K4)/\S=[]|T,.u b,x,vs,S=>rd w X B b T x vs S|.pair a b,.p f g,x,vs,S=> ∃v1 v2 S1 S2,vs=v1++v2/\S=S1++S2/\TZ w X B a f x.1 v1 S1/\TZ w X B b g x.2 v2 S2|.slice e t,.p (.u K4) (.u K3),x,vs,S=> ∃v xs,vs=[v]/\HW w X B K4 e t.size x.length v xs S/\dY (rd w X B K3 t) x xs []|_,.p ..,_,_,_=>False
theorem oX{B:Nat}{e:Lb}{t:Ty}{f g:Fl}{x:List t.den}(h:TZ w X B (.slice e t) (.p f g) x vs S):
  f=.u K4/\g=.u K3/\ ∃v xs,vs=[v]/\HW w X B K4 e t.size x.length v xs S/\dY (rd w X B K3 t) x xs []:=by
 cases f with
 |u b=>cases b with
  |true=>cases g with
   |u c=>cases c with
    |false=>exact⟨rfl,rfl,h⟩
    |true=>exact h.elim
   |p _ _=>exact h.elim
   |d=>exact h.elim
  |false=>exact h.elim
 |p _ _=>exact h.elim
 |d=>exact h.elim
variable {w w':Lc}{X X':Nat->Prop}{B:Nat}{own:Bool}
def J0{α:Type}{r r':α->List La->List Nat->Prop}:∀{xs:List α}{vs:List La}{S:List Nat},
  dY r xs vs S->(∀x v T,x∈xs->(∀b∈T,b∈S)->r x v T->r' x v T)->dY r' xs vs S
 |[],_,_,h,_=>h
 |x::xs,_,_,⟨a,d,c,e,f,g,i,j⟩,k=>
  ⟨a,d,c,e,f,g,k x a c Ac Af i,
   J0 j λy v T l m=>k y v T (by simp[l]) Af⟩
theorem JR{α:Type}{r:α->List La->List Nat->Prop}{n:Nat}(hr:∀x v S,r x v S->v.length=n):∀{xs:List α}{vs:List La}{S:List Nat},
  dY r xs vs S->vs.length=xs.length*n
 |[],_,_,⟨e,_⟩=>by simp[e]
 |x::xs,_,_,⟨d,f,g,h,a,_,b,c⟩=>by
  rw[a,Mv,hr _ _ _ b,JR hr c,List.length_cons,Nl];omega
def Qsf{e:Lb}(h:HW w X B own e sz n v xs S):xs.length=n*sz:=by
 cases own
 ·exact h.2.1
 ·exact h.1.1
theorem Jm:∀{T:Ty}{x:T.den}{vs:List La}{S:List Nat},rd w X B own T x vs S->vs.length=T.size
 |.unit,_,_,_,h=>by simp[h.1,Ty.size]
 |.int _,_,_,_,h=>by simp[h.1,Ty.size]
 |.bool,_,_,_,h=>by simp[h.1,Ty.size]
 |.fnc _,_,_,_,h=>by simp[h.1,Ty.size]
 |.str,_,_,_,h=>by simp[h.1,Ty.size]
 |.slice _ _,_,_,_,⟨_,_,_,_,e,_⟩=>by simp[e,Ty.size]
 |.pair a b,_,_,_,⟨g,i,j,k,e,_,c,d⟩=>by simp[e,Ty.size,Jm c,Jm d]
 |.arr n t,_,_,_,⟨h,f⟩=>by rw[JR (n:=t.size) (λ_ _ _ h=>Jm h) f,h];rfl
 |.err,_,_,_,⟨⟨_,e,_⟩,_⟩=>by simp[e,Ty.size]
 |.hid _,_,_,_,⟨h,_⟩=>h
 |.sptr ..,_,_,_,⟨_,_,_,_,e,_⟩=>by simp[e,Ty.size]
 |.clo ..,_,_,_,⟨_,_,e,_⟩=>by simp[e,Ty.size]
theorem Kp:∀{T:Ty}{f:Fl}{x:T.den}{vs:List La}{S:List Nat},TZ w X B T f x vs S->vs.length=T.size
 |T,.d,_,_,_,h=>Ao
 |T,.u b,_,_,_,h=>by grind[TZ,Jm]
 |.pair a b,.p f g,_,_,_,⟨j,k,l,m,e,_,c,i⟩=>by simp[e,Ty.size,Kp c,Kp i]
 |.slice e t,.p f g,_,_,_,h=>by grind[oX,Ty.size]
 |.unit,.p ..,_,_,_,h|.int _,.p ..,_,_,_,h|.bool,.p ..,_,_,_,h|.fnc _,.p ..,_,_,_,h|.str,.p ..,_,_,_,h|.err,.p ..,_,_,_,h|.hid _,.p ..,_,_,_,h|.sptr ..,.p ..,_,_,_,h|.clo ..,.p ..,_,_,_,h|.arr ..,.p ..,_,_,_,h=>by simp[TZ]at h
def ID{e:Lb}(h:HW w X B own e sz n v xs S)
  (hX:∀b,X b->X' b) (hw:∀b,X b->w'.heap[b]? =w.heap[b]?) (hS:∀b∈S,w'.heap[b]? =w.heap[b]?):HW w' X' B own e sz n v xs S:=by
 cases own
 ·obtain⟨f,i,a,c,j,l,m,p⟩:=h;refine⟨f,i,a,c,j,l,m,?_⟩
  grind[Lm,L2]
 ·obtain⟨f,i⟩:=h;refine⟨⟨f.1,?_⟩,i⟩;rcases f.2 with j|⟨g,c,k,rfl,o,q,d⟩
  ·exact .inl j
  ·exact .inr ⟨g,c,k,rfl,o,by simp_all[L9],d⟩
theorem fx(hX:∀b,X b->X' b)(hw:∀b,X b->w'.heap[b]? =w.heap[b]?):∀{T:Ty}{x:T.den}{vs:List La}{S:List Nat},
  rd w X B own T x vs S->(∀b∈S,w'.heap[b]? =w.heap[b]?)->rd w' X' B own T x vs S
 |.unit,_,_,_,h,_=>h
 |.int _,_,_,_,h,_=>h
 |.bool,_,_,_,h,_=>h
 |.fnc _,_,_,_,h,_=>h
 |.str,_,_,_,h,_=>h
 |.slice _ _,_,_,_,⟨v,p,j,k,e,l,f,g⟩,d=>
  ⟨v,p,j,k,e,l,ID f hX hw λb i=>d b Af,
   J0 g λ_ _ _ _ m h=>fx hX hw h λb i=>d b Af⟩
 |.pair a b,_,_,_,⟨q,r,j,k,e,l,f,g⟩,d=>
  ⟨q,r,j,k,e,l,fx hX hw f λb i=>d b Af,fx hX hw g λb i=>d b Af⟩
 |.arr n t,_,_,_,⟨h,s⟩,d=>⟨h,J0 s λ_ _ _ _ m h=>fx hX hw h λb i=>d b (m b i)⟩
 |.err,_,_,_,h,_=>h
 |.hid _,_,_,_,⟨e,y,h⟩,d=>⟨e,y,fx hX hw h d⟩
 |.sptr ..,_,_,_,⟨e,o,b,c,f,g,A,u⟩,_=>⟨e,o,b,c,f,hX b g,Af,fx hX hw u Ac⟩
 |.clo ..,_,_,_,⟨e,z,f,g⟩,_=>⟨e,z,f,fx hX hw g Ac⟩
def JO(hX:∀b,X b->X' b)(hw:∀b,X b->w'.heap[b]? =w.heap[b]?):∀{T:Ty}{f:Fl}{x:T.den}{vs:List La}{S:List Nat},
  TZ w X B T f x vs S->(∀b∈S,w'.heap[b]? =w.heap[b]?)->TZ w' X' B T f x vs S
 |T,.d,_,_,_,h,_=>Ao
 |T,.u b,_,_,_,h,c=>by grind[TZ,fx]
 |.pair a b,.p f g,_,_,_,⟨l,m,n,o,e,q,i,j⟩,c=>
  ⟨l,m,n,o,e,q,JO hX hw i λb k=>c b Af,JO hX hw j λb k=>c b Af⟩
 |.slice e t,.p f g,_,_,_,h,c=>by
  obtain⟨rfl,rfl,v,r,s,i,j⟩:=oX h;exact⟨v,r,s,ID i hX hw c,J0 j λ_ _ _ _ y h=>fx hX hw h λb k=>absurd (y b k) Ac⟩
 |.unit,.p ..,_,_,_,h,_|.int _,.p ..,_,_,_,h,_|.bool,.p ..,_,_,_,h,_|.fnc _,.p ..,_,_,_,h,_|.str,.p ..,_,_,_,h,_|.err,.p ..,_,_,_,h,_|.hid _,.p ..,_,_,_,h,_|.sptr ..,.p ..,_,_,_,h,_|.clo ..,.p ..,_,_,_,h,_|.arr ..,.p ..,_,_,_,h,_=>by simp[TZ]at h
def zF{α:Type}{r:α->List La->List Nat->Prop}{p:Nat->Prop}(hr:∀x v S,r x v S-> ∀b∈S,p b):∀{xs:List α}{vs:List La}{S:List Nat},
  dY r xs vs S-> ∀b∈S,p b
 |[],_,_,⟨_,e⟩=>by simp[e]
 |x::xs,_,_,⟨c,d,f,g,_,e,h,a⟩=>by
  intro b hb;rw[e]at hb;rcases Ll.1 hb with hb|hb
  ·grind
  ·exact zF hr a b hb
def Iy{e:Lb}(h:HW w X B own e sz n v xs S):∀b∈S,B<=b/\b<w.heap.size:=by
 cases own
 ·intro b a;rw[h.1]at a;cases a
 ·intro b a;rw[h.2]at a;exact h.1.lt b (by simpa using a)
theorem ni:∀{T:Ty}{x:T.den}{vs:List La}{S:List Nat},rd w X B own T x vs S-> ∀b∈S,B<=b/\b<w.heap.size
 |.unit,_,_,_,h|.int _,_,_,_,h|.bool,_,_,_,h|.fnc _,_,_,_,h|.str,_,_,_,h=>by simp[h.2]
 |.slice _ _,_,_,_,⟨_,_,_,_,_,e,c,d⟩=>by
  intro b hb;rw[e]at hb;rcases Ll.1 hb with hb|hb
  ·exact Iy c b hb
  ·exact zF (λ_ _ _ h=>ni h) d b hb
 |.pair a b,_,_,_,⟨g,i,j,k,_,e,c,d⟩=>by
  intro b hb;rw[e]at hb;rcases Ll.1 hb with hb|hb
  ·exact ni c b hb
  ·exact ni d b hb
 |.arr n t,_,_,_,⟨_,f⟩=>zF (λ_ _ _ h=>ni h) f
 |.err,_,_,_,h=>by simp[h.2]
 |.hid _,_,_,_,⟨_,_,h⟩=>ni h
 |.sptr ..,_,_,_,h=>by simp[h.1]
 |.clo ..,_,_,_,h=>by simp[h.1]
theorem In:∀{T:Ty}{f:Fl}{x:T.den}{vs:List La}{S:List Nat},TZ w X B T f x vs S-> ∀b∈S,B<=b/\b<w.heap.size
 |T,.d,_,_,_,h=>Ao
 |T,.u b,_,_,_,h=>by unfold TZ at h;exact ni h
 |.pair a b,.p f g,_,_,_,⟨j,k,l,m,_,e,c,i⟩=>by
  intro b hb;rw[e]at hb;rcases Ll.1 hb with hb|hb
  ·exact In c b hb
  ·exact In i b hb
 |.slice e t,.p f g,_,_,_,h=>by
  obtain⟨_,_,v,n,_,c,_⟩:=oX h;exact Iy c
 |.unit,.p ..,_,_,_,h|.int _,.p ..,_,_,_,h|.bool,.p ..,_,_,_,h|.fnc _,.p ..,_,_,_,h|.str,.p ..,_,_,_,h|.err,.p ..,_,_,_,h|.hid _,.p ..,_,_,_,h|.sptr ..,.p ..,_,_,_,h|.clo ..,.p ..,_,_,_,h|.arr ..,.p ..,_,_,_,h=>by simp[TZ]at h
theorem fY{e:Lb}(h:HW w X B own e sz n v xs S):
  ∃a cap,v=.slice a n cap/\n<=cap/\cap<=maxLen/\((a=K2/\n=0/\cap=0)\/ ∃ad,a=K1 ad/\(n=0\/X ad.block\/ad.block∈S)/\ ∀j u,xs[j]? =K1 u->w.cell? (ad.add j)=K1 u):=by
 cases own
 ·obtain⟨_,_,a,cap,k,l,m,o⟩:=h
  grind
 ·obtain⟨b,p⟩:=h;rcases b.2 with⟨rfl,rfl⟩|⟨g,cap,d,rfl,q,r,f,i,c⟩
  ·grind
  ·exact⟨_,cap,rfl,f,i,.inr ⟨_,rfl,.inr (.inr (by simp_all[L9])),b.cells (g:=g) rfl⟩⟩
def It{e:Lb}(h:HW w X B own e sz n v xs S)(hX:∀b,X b->X' b)(hS:∀b∈S,X' b):
  HW w X' B K3 e sz n v xs []:=by
 have d:=Qsf h;obtain⟨a,c,f,g,i,j⟩:=fY h;refine⟨rfl,d,a,c,f,g,i,j.imp id ?_⟩
 grind
def yx{α:Type}{r r':α->List La->List Nat->Prop}:∀{xs:List α}{vs:List La}{S:List Nat},
  dY r xs vs S->(∀x v T,x∈xs->(∀b∈T,b∈S)->r x v T->r' x v [])->dY r' xs vs []
 |[],_,_,h,_=>⟨h.1,rfl⟩
 |x::xs,_,_,⟨a,c,d,j,e,l,f,g⟩,k=>
  ⟨a,c,[],[],e,rfl,k x a d Ac Af f,
   yx g λy v T i m=>k y v T (by simp[i]) Af⟩
theorem nM(hX:∀b,X b->X' b):∀{T:Ty}{x:T.den}{vs:List La}{S:List Nat},
  rd w X B own T x vs S->(∀b∈S,X' b)->rd w X' B K3 T x vs []
 |.unit,_,_,_,h,_|.int _,_,_,_,h,_|.bool,_,_,_,h,_|.fnc _,_,_,_,h,_|.str,_,_,_,h,_=>⟨h.1,rfl⟩
 |.slice _ _,_,_,_,⟨v,k,l,m,e,o,f,g⟩,d=>
  ⟨v,k,[],[],e,rfl,It f hX λb i=>d b Af,
   yx g λ_ _ _ _ j h=>nM hX h λb i=>d b Af⟩
 |.pair a b,_,_,_,⟨p,q,l,m,e,o,f,g⟩,d=>
  ⟨p,q,[],[],e,rfl,nM hX f λb i=>d b Af,nM hX g λb i=>d b Af⟩
 |.arr n t,_,_,_,⟨h,r⟩,d=>⟨h,yx r λ_ _ _ _ j h=>nM hX h λb i=>d b (j b i)⟩
 |.err,_,_,_,h,_=>⟨h.1,rfl⟩
 |.hid _,_,_,_,⟨e,y,h⟩,d=>⟨e,y,nM hX h d⟩
 |.sptr ..,_,_,_,⟨_,_,b,c,f,g,s,u⟩,_=>⟨rfl,rfl,b,c,f,hX b g,s,nM hX u Ac⟩
 |.clo ..,_,_,_,⟨_,z,f,g⟩,_=>⟨rfl,z,f,nM hX g Ac⟩
def Fl.live:Fl->Bool|.u _=>K4|.p a b=>a.live&&b.live|.d=>K3
theorem Vn(hX:∀b,X b->X' b):∀{T:Ty}{f:Fl}{x:T.den}{vs:List La}{S:List Nat},
  f.live=K4->TZ w X B T f x vs S->(∀b∈S,X' b)->rd w X' B K3 T x vs []
 |T,.d,_,_,_,i,_,_=>by grind[Fl.live]
 |T,.u b,_,_,_,_,h,c=>by grind[TZ,nM]
 |.pair a b,.p f g,_,_,_,i,⟨m,n,s,y,e,z,j,k⟩,c=>by
  simp only[Fl.live,pC]at i;exact⟨m,n,[],[],e,rfl,Vn hX i.1 j λb l=>c b Af,Vn hX i.2 k λb l=>c b Af⟩
 |.slice e t,.p f g,_,_,_,_,h,c=>by
  obtain⟨_,_,v,o,q,j,k⟩:=oX h;exact⟨v,o,[],[],q,rfl,It j hX c,yx k λ_ _ _ _ r h=>nM hX h λb l=>absurd (r b l) Ac⟩
 |.unit,.p ..,_,_,_,_,h,_|.int _,.p ..,_,_,_,_,h,_|.bool,.p ..,_,_,_,_,h,_|.fnc _,.p ..,_,_,_,_,h,_|.str,.p ..,_,_,_,_,h,_|.err,.p ..,_,_,_,_,h,_|.hid _,.p ..,_,_,_,_,h,_|.sptr ..,.p ..,_,_,_,_,h,_|.clo ..,.p ..,_,_,_,_,h,_|.arr ..,.p ..,_,_,_,_,h,_=>by simp[TZ]at h
def sb{α:Type}{r r':α->List La->List Nat->Prop}(hr:∀x v S,r x v S->S=[]/\r' x v []):∀{xs:List α}{vs:List La}{S:List Nat},
  dY r xs vs S->S=[]/\dY r' xs vs []
 |[],_,_,h=>⟨h.2,h.1,rfl⟩
 |x::xs,_,_,⟨a,b,j,k,c,d,e,f⟩=>by
  obtain⟨rfl,g⟩:=hr _ _ _ e;obtain⟨rfl,i⟩:=sb hr f;exact⟨by simp[d],a,b,[],[],c,rfl,g,i⟩
theorem kc{own':Bool}{w':Lc}:∀{T:Ty}{x:T.den}{vs:List La}{S:List Nat},T.flat=K4->
  rd w X B own T x vs S->S=[]/\rd w' X' B own' T x vs []
 |.unit,_,_,_,_,h|.int _,_,_,_,_,h|.bool,_,_,_,_,h|.fnc _,_,_,_,_,h|.str,_,_,_,_,h=>⟨h.2,h.1,rfl⟩
 |.slice _ _,_,_,_,c,_=>by grind[Ty.flat]
 |.pair a b,_,_,_,c,⟨d,f,q,r,e,g,i,j⟩=>by
  simp only[Ty.flat,pC]at c;obtain⟨rfl,m⟩:=kc c.1 i;obtain⟨rfl,o⟩:=kc c.2 j;exact⟨by simp[g],d,f,[],[],e,rfl,m,o⟩
 |.arr n t,_,_,_,c,⟨h,p⟩=>by
  obtain⟨e,k⟩:=sb (r':=rd w' X' B own' t) (λx v S h=>kc (by simp_all[Ty.flat]) h) p;exact⟨e,h,k⟩
 |.err,_,_,_,_,h=>⟨h.2,h.1,rfl⟩
 |.hid _,_,_,_,c,⟨l,y,h⟩=>let⟨e,k⟩:=kc (by simp_all[Ty.flat]) h;⟨e,l,y,k⟩
 |.sptr ..,_,_,_,c,_=>by grind[Ty.flat]
 |.clo ..,_,_,_,c,_=>by grind[Ty.flat]
def Dv{α:Type}{r:α->List La->List Nat->Prop}(hr:∀x v S,r x v S-> ∀u∈v,u.oneCell'=K4):∀{xs:List α}{vs:List La}{S:List Nat},
  dY r xs vs S-> ∀u∈vs,u.oneCell'=K4
 |[],_,_,⟨e,_⟩=>by simp[e]
 |x::xs,_,_,⟨b,c,d,f,e,_,g,a⟩=>by
  intro u hu;rw[e]at hu;rcases Ll.1 hu with hu|hu
  ·grind
  ·exact Dv hr a u hu
theorem XQ:∀{T:Ty}{x:T.den}{vs:List La}{S:List Nat},rd w X B own T x vs S-> ∀u∈vs,u.oneCell'=K4
 |.unit,_,_,_,h|.int _,_,_,_,h|.bool,_,_,_,h|.fnc _,_,_,_,h|.str,_,_,_,h=>by simp[h.1,L8]
 |.slice _ _,_,_,_,⟨v,_,_,_,e,_,c,_⟩=>by
  grind[fY,L8]
 |.pair a b,_,_,_,⟨g,i,j,k,e,_,c,d⟩=>by
  intro u hu;rw[e]at hu;rcases Ll.1 hu with hu|hu
  ·exact XQ c u hu
  ·exact XQ d u hu
 |.arr n t,_,_,_,⟨_,f⟩=>Dv (λ_ _ _ h=>XQ h) f
 |.err,_,_,_,⟨⟨v,e,h,_⟩,_⟩=>by simp[e,h]
 |.hid _,_,_,_,⟨_,_,h⟩=>XQ h
 |.sptr ..,_,_,_,⟨_,_,_,_,e,_⟩=>by simp[e,L8]
 |.clo ..,_,_,_,⟨_,_,e,_⟩=>by simp[e,L8]
theorem rc:∀{T:Ty}{f:Fl}{x:T.den}{vs:List La}{S:List Nat},TZ w X B T f x vs S-> ∀u∈vs,u.oneCell'=K4
 |T,.d,_,_,_,h=>Ao
 |T,.u b,_,_,_,h=>by grind[TZ,XQ]
 |.pair a b,.p f g,_,_,_,⟨j,k,l,m,e,_,c,i⟩=>by
  intro u hu;rw[e]at hu;rcases Ll.1 hu with hu|hu
  ·exact rc c u hu
  ·exact rc i u hu
 |.slice e t,.p f g,_,_,_,h=>by
  grind[oX,fY,L8]
 |.unit,.p ..,_,_,_,h|.int _,.p ..,_,_,_,h|.bool,.p ..,_,_,_,h|.fnc _,.p ..,_,_,_,h|.str,.p ..,_,_,_,h|.err,.p ..,_,_,_,h|.hid _,.p ..,_,_,_,h|.sptr ..,.p ..,_,_,_,h|.clo ..,.p ..,_,_,_,h|.arr ..,.p ..,_,_,_,h=>by simp[TZ]at h
abbrev TV:=(T:Ty)×T.den
def fld:(T:Ty)->T.den->Nat->Option TV|.pair a _,x,0=>K1 ⟨a,x.1⟩|.pair _ b,x,i+1=>fld b x.2 i|_,_,_=>K2
def nj:Ty->Nat->Nat|.pair a b,i+1=>a.size+nj b i|_,_=>0
def SE:Ty->Nat->Option Ty|.pair a _,0=>K1 a|.pair _ b,i+1=>SE b i|_,_=>K2
def aa(U:Ty)(T:Ty)(x:T.den):Option U.den:=if h:T=U then K1 (h▸x)else K2
def gZ:(T:Ty)->T.den->Nat->TV->Option T.den|.pair a _,x,0,y=>(aa a y.1 y.2).map λz=>(z,x.2)|.pair _ b,x,i+1,y=>(gZ b x.2 i y).map λz=>(x.1,z)|_,_,_,_=>K2
def Fl.snd:Fl->Fl|.p _ g=>g|f=>f
def jA:Fl->Nat->Fl|.p a _,0=>a|.p _ b,i+1=>jA b i|f,_=>f
def YR:Fl->Nat->Fl->Fl|.p _ b,0,g=>.p g b|.p a b,i+1,g=>.p a (YR b i g)|f,0,g=>.p g f|f,i+1,g=>.p f (YR f i g)
def fX{U T:Ty}{x:T.den}{y:U.den}(h:aa U T x=K1 y):(⟨T,x⟩:TV)=⟨U,y⟩:=by grind[aa]
def JP{a b:Ty}{f:Fl}{x:(Ty.pair a b).den}(h:TZ w X B (.pair a b) f x vs S):
  ∃v1 v2 S1 S2,vs=v1++v2/\S=S1++S2/\TZ w X B a (jA f 0) x.1 v1 S1/\TZ w X B b f.snd x.2 v2 S2:=by
 cases f with
 |u o=>
  unfold TZ at h;obtain⟨v1,v2,S1,S2,e,k,i,c⟩:=h;exact⟨v1,v2,S1,S2,e,k,by simp_all[TZ,jA],by unfold TZ;exact c⟩
 |p f g=>exact h
 |d=>
  unfold TZ at h;obtain⟨i,c,l⟩:=h;refine⟨vs.take a.size,vs.drop a.size,[],[],Ac,by simp[l],?_,?_⟩
  ·unfold TZ jA;exact⟨by simp[i,Ty.size],λu j=>c u (List.mem_of_mem_take j),rfl⟩
  ·unfold TZ;exact⟨by simp[i,Ty.size],λu j=>c u (List.mem_of_mem_drop j),rfl⟩
def Ck:∀{T:Ty}{f:Fl}{x:T.den}{i:Nat}{y:TV}{vs:List La}{S:List Nat},fld T x i=K1 y->TZ w X B T f x vs S->
  ∃pre mid post S1 S2 S3,vs=pre++(mid++post)/\S=S1++(S2++S3)/\pre.length=nj T i/\TZ w X B y.1 (jA f i) y.2 mid S2/\
   ∀(g:Fl)(y':TV)(mid':List La)(S2':List Nat)(x':T.den),gZ T x i y'=K1 x'->TZ w X B y'.1 g y'.2 mid' S2'->
    TZ w X B T (YR f i g) x' (pre++(mid'++post)) (S1++(S2'++S3))
 |.pair a b,f,x,0,y,vs,S,c,h=>by
  obtain⟨j,k,S1,S2,e,l,m,n⟩:=JP h;simp only[fld,pB]at c;subst c;refine⟨[],j,k,[],S1,S2,by simpa using e,by simpa using l,by simp[nj],m,?_⟩;intro g y' mid' S2' x' d o;simp only[gZ,Mn]at d;obtain⟨z,q,rfl⟩:=d;obtain⟨D,E⟩:=y';have:=fX q;cases this;have:YR f 0 g=.p g f.snd:=by cases f<;>rfl
  rw[this];exact⟨mid',k,S2',S2,Ac,Ac,o,n⟩
 |.pair a b,f,x,i+1,y,vs,S,c,h=>by
  obtain⟨j,k,S1,S2,e,l,m,n⟩:=JP h;simp only[fld]at c;obtain⟨pre,mid,post,r,s,t,u,v,F,G,A⟩:=Ck c n;refine⟨j++pre,mid,post,S1++r,s,t,by rw[e,u];simp,by rw[l,v];simp,by grind[nj,Kp],?_,?_⟩
  ·have:jA f (i+1)=jA f.snd i:=by cases f<;>simp[jA]<;>(cases i<;>rfl)
   simp_all
  ·intro g y' mid' S2' x' d o;simp only[gZ,Mn]at d;obtain⟨z,q,rfl⟩:=d;have:=A g y' mid' S2' z q o;have C:YR f (i+1) g=.p (jA f 0) (YR f.snd i g):=by cases f<;>rfl
   rw[C];exact⟨j,_,S1,_,Ac,Ac,m,this⟩
 |.unit,_,_,_,_,_,_,c,_|.int _,_,_,_,_,_,_,c,_|.bool,_,_,_,_,_,_,c,_|.fnc _,_,_,_,_,_,_,c,_|.str,_,_,_,_,_,_,c,_|.slice ..,_,_,_,_,_,_,c,_|.err,_,_,_,_,_,_,c,_|.hid _,_,_,_,_,_,_,c,_|.sptr ..,_,_,_,_,_,_,c,_|.clo ..,_,_,_,_,_,_,c,_|.arr ..,_,_,_,_,_,_,c,_=>by simp[fld]at c
def kV:(T:Ty)->T.den->List Nat->Option TV
 |T,x,[]=>K1 ⟨T,x⟩
 |T,x,i::p=>match fld T x i with|some y=>kV y.1 y.2 p|none=>K2
def ai:Ty->List Nat->Nat
 |_,[]=>0
 |T,i::p=>nj T i+(match SE T i with|some U=>ai U p|none=>0)
def WJ:(T:Ty)->T.den->List Nat->TV->Option T.den
 |T,_,[],y=>aa T y.1 y.2
 |T,x,i::p,y=>match fld T x i with
  |some z=>match WJ z.1 z.2 p y with|some z'=>gZ T x i ⟨z.1,z'⟩|none=>K2
  |none=>K2
def oo:Fl->List Nat->Fl|f,[]=>f|f,i::p=>oo (jA f i) p
def YH:Fl->List Nat->Fl->Fl|_,[],g=>g|f,i::p,g=>YR f i (YH (jA f i) p g)
theorem Gl{T:Ty}{x:T.den}{y:TV}(h:fld T x i=K1 y):SE T i=K1 y.1:=by
 induction T generalizing i y with
 |pair a b d c=>
  cases i with
  |zero=>simp only[fld,pB]at h;subst h;rfl
  |succ i=>exact c (x:=x.2) h
 |_=>simp[fld]at h
theorem kJ:∀{p:List Nat}{T:Ty}{f:Fl}{x:T.den}{y:TV}{vs:List La}{S:List Nat},kV T x p=K1 y->TZ w X B T f x vs S->
  ∃pre mid post S1 S2 S3,vs=pre++(mid++post)/\S=S1++(S2++S3)/\pre.length=ai T p/\TZ w X B y.1 (oo f p) y.2 mid S2/\
   ∀(g:Fl)(y':TV)(mid':List La)(S2':List Nat)(x':T.den),WJ T x p y'=K1 x'->TZ w X B y'.1 g y'.2 mid' S2'->
    TZ w X B T (YH f p g) x' (pre++(mid'++post)) (S1++(S2'++S3))
 |[],T,f,x,y,vs,S,b,h=>by
  simp only[kV,pB]at b;subst b;refine⟨[],vs,[],[],S,[],Ac,Ac,by simp[ai],h,?_⟩;intro g y' mid' S2' x' c e;simp only[WJ]at c;obtain⟨C,D⟩:=y';cases fX c;simp_all[YH]
 |i::p,T,f,x,y,vs,S,b,h=>by
  simp only[kV]at b;cases hz:fld T x i with
  |none=>simp_all
  |some z=>
   rw[hz]at b;obtain⟨pre,mid,post,S1,S2,S3,k,l,E,n,o⟩:=Ck hz h;obtain⟨d,mid',a,q,r,s,t,u,F,v,A⟩:=kJ b n;refine⟨pre++d,mid',a++post,S1++q,r,s++S3,by rw[k,t];simp,by rw[l,u];simp,by grind[ai,Gl],v,?_⟩;intro g y' m S2' x' c e;simp only[WJ,hz]at c;cases hq:WJ z.1 z.2 p y' with
   |none=>simp_all
   |some j=>
    rw[hq]at c;have:=o (YH (jA f i) p g) ⟨z.1,j⟩ _ _ x' c (A g y' m S2' j hq e);simp_all[YH]
def Qob:∀{T:Ty}{x x':T.den}{i:Nat}{y:TV},fld T x i=K1 y-> ∃y',fld T x' i=K1 y'/\y'.1=y.1:=by
 intro T
 induction T with
 |pair a b d c=>
  intro x x' i y h;cases i with
  |zero=>simp only[fld,pB]at h;subst h;exact⟨⟨a,x'.1⟩,rfl,rfl⟩
  |succ i=>exact c (x':=x'.2) h
 |_=>intro x x' i y h;simp[fld]at h
def r9:∀{p:List Nat}{T:Ty}{x x':T.den}{y:TV},kV T x p=K1 y-> ∃y',kV T x' p=K1 y'/\y'.1=y.1
 |[],T,x,x',y,h=>by simp only[kV,pB]at h;subst h;exact⟨⟨T,x'⟩,rfl,rfl⟩
 |i::p,T,x,x',y,h=>by
  simp only[kV]at h⊢;cases hz:fld T x i with
  |none=>simp_all
  |some z=>
   rw[hz]at h;obtain⟨b,c,a⟩:=Qob (x':=x') hz;rw[c];obtain⟨Z,e⟩:=z;obtain⟨f,d⟩:=b;simp only at a;subst a;exact r9 h
def qO{t:Ty}{f:Fl}{x:(Ty.arr n t).den}(h:TZ w X B (.arr n t) f x vs S)(hl:f.live=K4):∃c,f=.u c:=by
 cases f with
 |u c=>simp_all
 |p a b=>simp[TZ]at h
 |d=>grind[Fl.live]
def ZJ{α:Type}{r:α->List La->List Nat->Prop}{sz:Nat}(hr:∀x v S,r x v S->v.length=sz):∀{l:List α}{vs:List La}{S:List Nat}{i:Nat} (hi:i<l.length),
  dY r l vs S-> ∃pre mid post S1 S2 S3,vs=pre++(mid++post)/\S=S1++(S2++S3)/\pre.length=i*sz/\r l[i] mid S2/\
   dY r (l.take i) pre S1/\dY r (l.drop (i+1)) post S3
 |[],_,_,_,hi,_=>by simp at hi
 |x::l,vs,S,0,_,⟨a,f,S1,S2,b,c,d,e⟩=>⟨[],a,f,[],S1,S2,by simp[b],by simp[c],Ac,d,⟨rfl,rfl⟩,e⟩
 |x::l,vs,S,i+1,hi,⟨a,f,S1,S2,b,c,d,e⟩=>by
  obtain⟨pre,mid,post,g,h,j,k,m,q,n,o,p⟩:=ZJ hr (i:=i) (by simpa using hi) e;exact⟨a++pre,mid,post,S1++g,h,j,by simp[b,k],by simp[c,m],Ai,by simpa using n,
   ⟨a,pre,S1,g,rfl,rfl,d,o⟩,by simpa using p⟩
inductive Tm where
 |pR|tup
 |val (T:Ty) (f:Fl) (x:T.den)
 |box (e:Lb) (T:Ty) (f:Fl) (x:T.den)
 |ptr (r:Nat) (p:List Nat)
 |shp (T:Ty) (x:T.den)
 |bor (r:Nat) (p:List Nat)
 |elp (r:Nat) (p:List Nat) (i:Int) (q:List Nat)
 |gd (g:Nat) (want:Bool) (t:Tm)
 |aep (r:Nat) (p:List Nat) (i:Int)
 |pls (h:Bool) (l:List (Nat×List Nat))
 |bel (r:Nat) (p:List Nat) (i:Int) (q:List Nat)
 |cl (f:L4) (l:List Nat)
inductive Bk where
 |m (t:Nat)|c (t i:Nat)
def Bk.beq:Bk->Bk->Bool
 |.m t,.m u=>Ln t u
 |.c t i,.c u j=>match Ln t u with|true=>Ln i j|false=>K3
 |_,_=>K3
theorem Bk.beq_true{k j:Bk}:Bk.beq k j=K4↔k=j:=by
 cases k<;>cases j<;>simp[Bk.beq]
 grind[Mc,pD]
instance:DecidableEq Bk:=λk j=>match h:Bk.beq k j with
 |true=>isTrue (Bk.beq_true.1 h)
 |false=>isFalse λe=>by rw[Bk.beq_true.2 e]at h;cases h
structure St where
 env:List (Bk×Tm)
 pP:List Nat
 pQ:List Nat:=[]
structure Jh where
 G:Lc->Prop
 GB:Nat->Prop
 lt:∀w b,G w->GB b->b<w.heap.size
 stays:∀w w',G w->(∀b,GB b->w'.heap[b]? =w.heap[b]?)->G w'
 soft:Bool:=K3
def jN(u v:La):Prop:=u=v\/(∃k x y,u=.int k x/\v=.int k y)\/(∃x y,u=.bool x/\v=.bool y)\/(∃x y,u=.string x/\v=.string y)
def jN.refl(u:La):jN u u:=.inl rfl
theorem jN.trans{x:La}(h:jN u v)(h':jN v x):jN u x:=by
 rcases h with rfl|⟨k,a,b,rfl,rfl⟩|⟨a,b,rfl,rfl⟩|⟨a,b,rfl,rfl⟩
 ·exact h'
 ·rcases h' with rfl|⟨_,_,c,e,rfl⟩|⟨_,_,e,_⟩|⟨_,_,e,_⟩
  ·exact .inr (.inl ⟨_,_,_,rfl,rfl⟩)
  ·simp only[M0.injEq]at e;obtain⟨rfl,rfl⟩:=e;exact .inr (.inl ⟨_,_,_,rfl,rfl⟩)
  all_goals simp_all
 ·rcases h' with rfl|⟨_,_,c,e,rfl⟩|⟨_,_,e,rfl⟩|⟨_,_,e,_⟩
  ·exact .inr (.inr (.inl ⟨_,_,rfl,rfl⟩))
  ·cases e
  ·exact .inr (.inr (.inl ⟨_,_,rfl,rfl⟩))
  ·cases e
 ·rcases h' with rfl|⟨_,_,c,e,rfl⟩|⟨_,_,e,_⟩|⟨_,_,e,rfl⟩
  ·exact .inr (.inr (.inr ⟨_,_,rfl,rfl⟩))
  ·cases e
  ·cases e
  ·exact .inr (.inr (.inr ⟨_,_,rfl,rfl⟩))
def Um(L:Nat->Prop)(w w':Lc):Prop:= ∀ad u,L ad.block->w.cell? ad=K1 u-> ∃u',w'.cell? ad=K1 u'/\jN u u'
theorem Um.trans{L:Nat->Prop}{w w' w2:Lc}(h:Um L w w')(h':Um L w' w2):Um L w w2:=λa u b c=>by
 obtain⟨d,e,f⟩:=h a u b c;obtain⟨u2,g,i⟩:=h' a d b e;exact⟨u2,g,f.trans i⟩
def Up(w:Lc)(b:Nat):Prop:= ∃c e,w.heap[b]? =K1 (.cells c e (0,0))
def Up.lt{w:Lc}(h:Up w b):b<w.heap.size:=by
 obtain⟨c,e,h⟩:=h
 grind
def UM:Nat:=1048576
def zD(gh:Nat->La)(a:Act)(t:Nat):La:=match a.tmps[t]? with|some v=>v|none=>gh t
def Xj(gh:Nat->La)(a:Act):Bk->La
 |.m t=>zD gh a t
 |.c t i=>match zD gh a t with
  |.tuple vs=>vs.getD i undef
  |_=>undef
structure fW(g:Jh) where
 W:Lc
 B:Nat
 Y:Nat->Prop
 L:Nat->Prop
 X0:Nat->Prop
 fix:List (Nat×La)
 bB:B<=W.heap.size
 yW:∀k,Y k->k<W.heap.size
 yL:∀k,Y k-> ¬L k
 fr:g.soft=K4-> ∀k,g.GB k-> ¬Y k
 gh:Nat->La:=λ_=>undef
 ghU:∀t,t<UM->gh t=undef:=by intro _ _;rfl
def fW.mine{g:Jh}(z:fW g)(k:Nat):Prop:=z.W.heap.size<=k\/z.L k
def fW.sep{g:Jh}(z:fW g){k:Nat}(h:z.Y k)(hb:z.mine b):k≠b:=λe=>by
 subst e;rcases hb with hb|hb
 ·have:=z.yW k h;omega
 ·exact z.yL k h hb
structure fW.below{g:Jh}(z:fW g)(w:Lc):Prop where
 os:w.os=z.W.os
 tape:w.tape=z.W.tape
 output:w.output=z.W.output
 size:z.W.heap.size<=w.heap.size
 block:∀k,z.Y k->w.heap[k]? =z.W.heap[k]?
def fW.below.sizeB{g:Jh}{z:fW g}{w:Lc}(h:z.below w):z.B<=w.heap.size:=Md z.bB h.size
def fW.below.new{g:Jh}{z:fW g}{w:Lc}(h:z.below w):z.mine w.heap.size:=.inl h.size
def fW.below.step{g:Jh}{z:fW g}{w w':Lc}(h:z.below w)(hb:Below w.heap.size w w'):z.below w':=⟨hb.os.trans h.os,hb.tape.trans h.tape,hb.output.trans h.output,Md h.size hb.size,λk hk=>(hb.block k (L5 (z.yW k hk) h.size)).trans (h.block k hk)⟩
def fW.plain(g:Jh)(w:Lc)(hs:g.soft=K3):fW g:={fr:=λh=>Bool.noConfusion (hs.symm.trans h),W:=w,B:=w.heap.size,Y:=(· <w.heap.size),L:=λ_=>False,X0:=(· <w.heap.size),fix:=[],bB:=Lz _,yW:=λ_ h=>h,yL:=λ_ _ h=>h}
def oq:List (Bk×Tm)->Bk->Tm
 |[],_=>.pR
 |(k,t)::r,j=>match Bk.beq k j with
  |true=>t
  |false=>oq r j
def St.get(s:St)(k:Bk):Tm:=oq s.env k
def St.pN(s:St)(r:Nat):Bool:=s.pP.any (Ln r)
def vd(r:Nat):Nat:=r+1099511627776
def CT(r:Nat):Nat:=r+2199023255552
def Bq(r i:Nat):Nat:=r+(i+3)*1099511627776
def St.bad(s:St)(r:Nat):List Nat->Bool|[]=>s.pN r||s.pN (CT r)|i::_=>s.pN r||s.pN (Bq r i)
theorem St.bad_foul{s:St}{r:Nat}:∀{p:List Nat},s.bad r p=K3->s.pN r=K3
 |[],h=>by simp_all[St.bad]
 |_::_,h=>by simp_all[St.bad]
theorem Ql(k:Bk)(t:Tm)(s:List (Bk×Tm))(j:Bk):oq ((k,t)::s) j=ite (k=j) t (oq s j):=by grind[oq,Bk.beq_true]
def Bk.t:Bk->Nat|.m t=>t|.c t _=>t
def yA(h:d<a.tmps.size):Xj gh (a.put (K1 d) v) (.m d)=v:=by simp[Xj,zD,Me,h]
theorem iF{k:Bk}(h:k.t≠d):Xj gh (a.put (K1 d) v) k=Xj gh a k:=by
 have:(a.tmps.setIfInBounds d v)[k.t]? =a.tmps[k.t]? :=Ai
 cases k<;>simp only[Bk.t]at this<;>simp[Xj,zD,Me,this]
def Yl(gh:Nat->La)(w:Lc)(s:St)(F:Bk->List Nat)(a:Act)(r:Nat)(p:List Nat)(v:La)(U:Ty):Prop:=
 match s.get (.m r)with
 |.val T _ _=>p=[]/\U=T/\v=Xj gh a (.m r)
 |.box e T _ x=> ∃b c S y,F (.m r)=b::S/\w.heap[b]? =K1 (.cells c e (0,0))/\kV T x p=K1 y/\U=y.1/\v=Kx y.1 ((c.toList.drop (ai T p)).take y.1.size)
 |_=>False
def Rs(s:St)(F:Bk->List Nat)(r:Nat)(p:List Nat)(v:La):Prop:=∃e T f x b S',s.get (.m r)=.box e T f x/\F (.m r)=b::S'/\v=.pointer (K1 ⟨b,ai T p,K2⟩)
def Bu(w:Lc)(X:Nat->Prop)(s:St)(F:Bk->List Nat)(h:Bool)(l:List (Nat×List Nat))(v:La):Prop:=
 ∃(ad:Le) (us:List La),X ad.block/\(∀j u,us[j]? =K1 u->w.cell? (ad.add j)=K1 u)/\us.length=l.length/\(∀(j:Nat)(q:Nat×List Nat),l[j]? =K1 q-> ∃u,us[j]? =K1 u/\Rs s F q.1 q.2 u)/\
  (match h with|true=>v=.slice (K1 ad) l.length l.length/\l.length<=maxLen|false=>v=.pointer (K1 ad))
def clV(s:St)(F:Bk->List Nat)(f:L4)(l:List Nat)(v:La):Prop:=∃us:List La,v=.func (.func f) #[] us.toArray/\us.length=l.length/\ ∀(j:Nat)(q:Nat),l[j]? =K1 q-> ∃u,us[j]? =K1 u/\Rs s F q [] u
def vt(gh:Nat->La)(w:Lc)(X:Nat->Prop)(B:Nat)(s:St)(F:Bk->List Nat)(a:Act)(v:La)(S:List Nat):Tm->Prop|.pR|.tup=>S=[]|.val T f x=> ∃vs,v=Kx T vs/\TZ w X B T f x vs S|.box e T f x=> ∃b c S',v=.pointer (K1 ⟨b,0,K2⟩)/\S=b::S'/\w.heap[b]? =K1 (.cells c e (0,0))/\TZ w X B T f x c.toList S'|.ptr r p=>S=[]/\ ∃e T f x b S',s.get (.m r)=.box e T f x/\F (.m r)=b::S'/\v=.pointer (K1 ⟨b,ai T p,K2⟩)|.shp T x=>S=[]/\ ∃ad vs,v=.pointer (K1 ad)/\X ad.block/\(∀j u,vs[j]? =K1 u->w.cell? (ad.add j)=K1 u)/\rd w X B K3 T x vs []|.bor r p=>S=[]/\(s.bad r p=K3-> ∃U,Yl gh w s F a r p v U)|.elp r p i q=>S=[]/\(s.bad r p=K3-> ∃e t ad n cap,Yl gh w s F a r p (.slice (K1 ad) n cap) (.slice e t)/\0<=i/\i<n/\ v=.pointer (K1 (ad.add (i.toNat*t.size+ai t q))))|.aep r p i=>S=[]/\ ∃e T f x b S' n t y,s.get (.m r)=.box e T f x/\F (.m r)=b::S'/\kV T x p=K1 ⟨.arr n t,y⟩/\0<=i/\i<n/\v=.pointer (K1 ⟨b,ai T p+i.toNat*t.size,K2⟩)|.pls h l=>S=[]/\Bu w X s F h l v|.bel r p i q=>S=[]/\(s.bad r p=K3->s.pN (vd r)=K3-> ∃e t ad n cap x0 y cs,Yl gh w s F a r p (.slice (K1 ad) n cap) (.slice e t)/\0<=i/\i<n/\ ad.block∈F (.m r)/\kV t x0 q=K1 y/\v=Kx y.1 cs/\cs.length=y.1.size/\ ∀(j:Nat) u,cs[j]? =K1 u->w.cell? (ad.add (i.toNat*t.size+ai t q+j))=K1 u)|.cl f l=>S=[]/\clV s F f l v|.gd g want t=>s.pN g=K3->s.get (.m g)≠ .pR/\(Xj gh a (.m g)=.bool want->vt gh w X B s F a v S t)/\(Xj gh a (.m g)≠ .bool want->S=[]/\v=undef)
structure R{g:Jh}(n:Nat)(W0:fW g)(w:Lc)(X:Nat->Prop)(F:Bk->List Nat)(H:List Nat)(s:St)(a:Act):Prop where
 size:a.tmps.size=n
 defers:a.defers=[]
 below:W0.below w
 glob:g.G w
 gx:∀b,g.GB b->X b
 xs:g.soft=K4-> ∀b,X b->g.GB b
 fix:∀p,p∈W0.fix->p.1∈s.pQ/\Xj W0.gh a (.m p.1)=p.2
 xlt:∀b,X b->b<w.heap.size
 xin:∀b,X b->W0.X0 b\/W0.mine b
 x0:∀b,W0.X0 b->X b
 own:∀k b,b∈F k->W0.mine b/\b<w.heap.size/\ ¬X b
 nodup:∀k,(F k).Nodup
 pS:∀k k' b,b∈F k->b∈F k'->k=k'
 hown:∀b,b∈H->W0.mine b/\b<w.heap.size/\ ¬X b
 pK:H.Nodup
 pL:∀k b,b∈F k->b∉H
 pM:∀d i,s.get (.c d i)≠ .pR->s.get (.m d)=.tup/\ ∃vs,Xj W0.gh a (.m d)=.tuple vs/\i<vs.size
 slots:∀k,vt W0.gh w X W0.B s F a (Xj W0.gh a k) (F k) (s.get k)
variable {g:Jh}{W0:fW g}{n:Nat}{s:St}{F:Bk->List Nat}{a:Act}{H:List Nat}{gh:Nat->La}
def Po{r:Nat}{U:Ty}(h:Yl gh w s F a r p v U)(hF:∀b∈F (.m r),w'.heap[b]? =w.heap[b]?):Yl gh w' s F a r p v U:=by grind[Yl]
def WH{s2:St}{F2:Bk->List Nat}(hX:∀b,X b->X' b)(hw:∀b,X b->w'.heap[b]? =w.heap[b]?)(ha:∀r p v,Rs s F r p v->Rs s2 F2 r p v){h:Bool}{l:List (Nat×List Nat)}
  (hv:Bu w X s F h l v):Bu w' X' s2 F2 h l v:=by
 obtain⟨a,c,d,g,e,i,f⟩:=hv;refine⟨a,c,hX _ d,λj u k=>?_,e,λj q m=>?_,f⟩
 all_goals grind[Lm,L2]
def th(hX:∀b,X b->X' b)(hw:∀b,X b->w'.heap[b]? =w.heap[b]?)(hF:∀k b,b∈F k->w'.heap[b]? =w.heap[b]?){v:La}{S:List Nat}(hS:∀b∈S,w'.heap[b]? =w.heap[b]?):∀{t:Tm},
  vt gh w X B s F a v S t->vt gh w' X' B s F a v S t
 |.pR,h|.tup,h=>h
 |.val T f x,⟨C,d,o⟩=>⟨C,d,JO hX hw o hS⟩
 |.box e T f x,⟨b,c,G,d,o,H,D⟩=>
  ⟨b,c,G,d,o,Af,JO hX hw D λI J=>hS I Af⟩
 |.ptr r p,h=>h
 |.aep r p i,h=>h
 |.pls _ _,⟨l,h⟩=>⟨l,WH hX hw (λ_ _ _ h=>h) h⟩
 |.cl _ _,h=>h
 |.bel r p i q,⟨l,d⟩=>⟨l,λz K=>let⟨e,t,A,n,cap,x0,y,cs,h,k1,k2,k3,k4,k5,k6,k7⟩:=d z K;⟨e,t,A,n,cap,x0,y,cs,Po h (hF (.m r)),k1,k2,k3,k4,k5,k6,λj u L=>by
   grind[Lm,L2]⟩⟩
 |.shp T x,⟨l,A,C,d,o,H,D⟩=>
  ⟨l,A,C,d,hX _ o,λj u L=>by
   grind[Lm,L2],fx hX hw D Ac⟩
 |.bor r p,⟨l,d⟩=>⟨l,λz=>let⟨U,h⟩:=d z;⟨U,Po h (hF (.m r))⟩⟩
 |.elp r p i q,⟨l,d⟩=>⟨l,λz=>let⟨e,t,A,n,cap,h,h'⟩:=d z;⟨e,t,A,n,cap,Po h (hF (.m r)),h'⟩⟩
 |.gd g E t,h=>λz=>let⟨l,d,o⟩:=h z;⟨l,λM=>th hX hw hF hS (d M),o⟩
def R.world(h:R n W0 w X F H s a)(hb:W0.below w')(hs:w.heap.size<=w'.heap.size)(hX:∀b,X b->w'.heap[b]? =w.heap[b]?)
  (hF:∀k b,b∈F k->w'.heap[b]? =w.heap[b]?):R n W0 w' X F H s a:=
 {h with
  below:=hb
  glob:=g.stays _ _ h.glob λb hb=>hX b (h.gx b hb)
  xlt:=λb c=>L5 (h.xlt b c) hs
  own:=λk b c=>let⟨h1,h2,h3⟩:=h.own k b c;⟨h1,L5 h2 hs,h3⟩
  hown:=λb c=>let⟨h1,h2,h3⟩:=h.hown b c;⟨h1,L5 h2 hs,h3⟩
  slots:=λk=>th (λ_ h=>h) hX hF (hF k) (h.slots k)}
def R.drop(h:R n W0 w X F (S++H) s a):R n W0 w X F H s a:=
 {h with
  hown:=λb c=>h.hown b (by simp[c])
  pK:=(Lg.1 h.pK).2.1
  pL:=λk b c d=>h.pL k b c (by simp[d])}
def R.hand(h:R n W0 w X F H s a)(hS:∀b∈S,W0.mine b/\b<w.heap.size/\ ¬X b)(hn:S.Nodup)(hF:∀k b,b∈F k->b∉S)(hH:∀b∈S,b∉H):
  R n W0 w X F (S++H) s a:=
 {h with
  hown:=λb c=>(Ll.1 c).elim (hS b) (h.hown b)
  pK:=Lg.2 ⟨hn,h.pK,λx hx y d e=>hH x hx (by rw[e];exact d)⟩
  pL:=λk b c f=>(Ll.1 f).elim (hF k b c) (h.pL k b c)}
def R.give(hs:g.soft=K3)(h:R n W0 w X F (S++H) s a):R n W0 w (λb=>X b\/b∈S) F H s a:=
 {h.drop with
  gx:=λb c=>.inl (h.gx b c)
  xs:=λe=>Af
  xlt:=λb c=>c.elim (h.xlt b) λc=>(h.hown b (by simp[c])).2.1
  xin:=λb c=>c.elim (h.xin b) λc=>.inr (h.hown b (by simp[c])).1
  x0:=λb c=>.inl (h.x0 b c)
  own:=λk b c=>let⟨h1,h2,h3⟩:=h.own k b c;⟨h1,h2,λhx=>hx.elim h3 λd=>h.pL k b c (by simp[d])⟩
  hown:=λb c=>let⟨h1,h2,h3⟩:=h.hown b (by simp[c]);⟨h1,h2,λhx=>hx.elim h3 λd=>(Lg.1 h.pK).2.2 b d b c rfl⟩
  slots:=λk=>th (λ_ h=>.inl h) (λ_ _=>rfl) (λ_ _ _=>rfl) (λ_ _=>rfl) (h.slots k)}
def St.free(s:St)(d:Nat):Bool:= !(s.pQ.any (Ln d))
def aX(s:St)(d:Nat):Bool:=
 match s.get (.m d)with
 |.box .. |.tup=>K3
 |_=>s.free d
def OC{s:St}(h:aX s d=K4):d∉s.pQ:=by grind[St.free,Mc,aX]
def Jt(s:St)(d:Nat)(t:Tm):St:={env:=(.m d,t)::s.env,pP:=match s.get (.m d)with|.pR=>s.pP|_=>d::s.pP,pQ:=s.pQ}
theorem vk(s:St)(d:Nat)(t:Tm)(k:Bk):(Jt s d t).get k=ite (Bk.m d=k) t (s.get k):=Ql _ _ _ _
def OT(s:St)(d:Nat)(t:Tm):(Jt s d t).get (.m d)=t:=by rw[vk];simp
def wX{s:St}{t:Tm}{r:Nat}(h:(Jt s d t).pN r=K3):s.pN r=K3/\(r=d->s.get (.m r)=.pR):=by grind[Jt,St.pN,Mc]
def TF{s s2:St}(h:∀r,s2.pN r=K3->s.pN r=K3){r:Nat}:∀{p:List Nat},s2.bad r p=K3->s.bad r p=K3
 |[],a=>by simp_all[St.bad]
 |_::_,a=>by simp_all[St.bad]
def Df{s:St}{t:Tm}{r:Nat}(h:(Jt s d t).bad r p=K3):s.bad r p=K3/\(r=d->s.get (.m r)=.pR):=⟨TF (λ_ h=>(wX h).1) h,(wX (St.bad_foul h)).2⟩
abbrev Xp(F:Bk->List Nat)(k:Bk)(S:List Nat):Bk->List Nat:=λj=>ite (j=k) S (F j)
def vN{t:Tm}{r:Nat}{U:Ty}(hr:r≠d)
  (h:Yl gh w s F a r p u U):Yl gh w (Jt s d t) (Xp F (.m d) S) (a.put (K1 d) v) r p u U:=by
 have e:(Jt s d t).get (.m r)=s.get (.m r):=by simp_all[vk,L0]
 unfold Yl at*
 rw[e];cases hg:s.get (.m r)<;>rw[hg]at h<;>simp only at h⊢
 ·grind[iF,Bk.t]
 grind
def IQ{r:Nat}{U:Ty}(h:Yl gh w s F a r p v U):s.get (.m r)≠ .pR:=by grind[Yl]
def Dy{t:Tm}(hd:aX s d=K4){r:Nat}(hu:Rs s F r p v):Rs (Jt s d t) (Xp F (.m d) S0) r p v:=by
 obtain⟨e,T,f,x,b,a,g,h,c⟩:=hu;have i:r≠d:=λj=>Az
 refine⟨e,T,f,x,b,a,?_,Ai,c⟩;simp_all[vk,L0]
def E7{s2:St}{F2:Bk->List Nat}(ha:∀r p v,Rs s F r p v->Rs s2 F2 r p v)(hv:clV s F f l v):clV s2 F2 f l v:=by
 obtain⟨a,b,c,d⟩:=hv;refine⟨a,b,c,λj q e=>?_⟩
 grind
def CD{t:Tm}{v0:La}(hd:aX s d=K4):∀{u:Tm},
  vt gh w X B s F a v S u->vt gh w X B (Jt s d t) (Xp F (.m d) S0) (a.put (K1 d) v0) v S u:=by
 intro u c
 induction u with
 |pR=>exact c
 |tup=>exact c
 |val T f x=>exact c
 |box e T f x=>exact c
 |shp T x=>exact c
 |ptr r p=>
  obtain⟨k,e,T,f,x,b,H,o,G,D⟩:=c;have z:r≠d:=λK=>Az
  refine⟨k,e,T,f,x,b,H,?_,Ai,D⟩;simp_all[vk,L0]
 |aep r p i=>
  obtain⟨k,e,T,f,x,b,H,n,E,y,o,G,D⟩:=c;have z:r≠d:=λK=>Az
  refine⟨k,e,T,f,x,b,H,n,E,y,?_,Ai,D⟩;simp_all[vk,L0]
 |bor r p=>
  obtain⟨k,o⟩:=c;refine⟨k,λj=>?_⟩;obtain⟨j,A⟩:=Df j;obtain⟨U,h⟩:=o j;have z:r≠d:=λe=>IQ h (A e);exact⟨U,vN z h⟩
 |elp r p i q=>
  obtain⟨k,o⟩:=c;refine⟨k,λj=>?_⟩;obtain⟨j,A⟩:=Df j;obtain⟨e,E,I,n,C,h,G,D,L⟩:=o j;have z:r≠d:=λe=>IQ h (A e);exact⟨e,E,I,n,C,vN z h,G,D,L⟩
 |bel r p i q=>
  obtain⟨k,o⟩:=c;refine⟨k,λj M=>?_⟩;obtain⟨j,A⟩:=Df j;obtain⟨e,E,I,n,C,N,y,O,h,P,Q,W,V⟩:=o j (wX M).1;have z:r≠d:=λe=>IQ h (A e);exact⟨e,E,I,n,C,N,y,O,vN z h,P,Q,Ai,V⟩
 |cl f l=>exact⟨c.1,E7 (λ_ _ _ h=>Dy hd h) c.2⟩
 |pls h l=>exact⟨c.1,WH (λ_ h=>h) (λ_ _=>rfl) (λ_ _ _ h=>Dy hd h) c.2⟩
 |gd g J u Y=>
  intro j;obtain⟨j,A⟩:=wX j;obtain⟨k,o,G⟩:=c j;have Z:g≠d:=λe=>k (A e);have hv:Xj gh (a.put (K1 d) v0) (.m g)=Xj gh a (.m g):=iF (by simp_all[Bk.t]);simp_all[vk,L0]
def R.put{d:Nat}{t:Tm}{v:La}{S:List Nat}(h:R n W0 w X F (S++H) s a)(hd:aX s d=K4)(hn:d<n)
  (hr:vt W0.gh w X W0.B s F a v S t):
  R n W0 w X (Xp F (.m d) S) H (Jt s d t) (a.put (K1 d) v) where
 size:=by simp[Me,h.size]
 defers:=by simp[Me,h.defers]
 below:=h.below
 glob:=h.glob
 gx:=h.gx
 xs:=h.xs
 fix:=λp o=>⟨(h.fix p o).1,by
  have:=OC hd;have u:p.1≠d:=λe=>this (e▸(h.fix p o).1);rw[iF (by simp_all[Bk.t])];exact(h.fix p o).2⟩
 xlt:=h.xlt
 xin:=h.xin
 x0:=h.x0
 own:=λk b f=>by
  simp only[Xp]at f;split at f
  ·exact h.hown b (by simp[f])
  ·exact h.own k b f
 nodup:=λk=>by
  simp only[Xp];split
  ·exact(Lg.1 h.pK).1
  ·exact h.nodup k
 pS:=λk r b f g=>by
  simp only[Xp]at f g;split at f<;>split at g
  ·simp_all
  ·exact absurd (by simp[f]) (h.pL r b g)
  ·exact absurd (by simp[g]) (h.pL k b f)
  ·exact h.pS k r b f g
 hown:=h.drop.hown
 pK:=h.drop.pK
 pL:=λk b f=>by
  simp only[Xp]at f;split at f
  ·exact λx=>(Lg.1 h.pK).2.2 b f b x rfl
  ·exact h.drop.pL k b f
 pM:=λq i l=>by
  rw[vk]at l⊢;simp only[reduceCtorEq,if_false]at l;obtain⟨A,y⟩:=h.pM q i l;by_cases e:d=q
  ·simp_all[aX]
  ·refine⟨Af,?_⟩;rw[iF (a:=a) (v:=v) (k:=.m q) (d:=d) (by simp_all[Bk.t,L0])];exact y
 slots:=λk=>by
  by_cases hk:k=.m d
  ·subst hk;rw[OT,yA (by rw[h.size];exact hn)];simp_all[CD,Xp]
  ·have e:Xp F (.m d) S k=F k:=by simp[Xp,hk]
   rw[vk,e];simp only[L0 hk,if_false];by_cases j:k.t=d
   ·cases k with
    |m t=>simp_all[Bk.t]
    |c t i=>
     simp[Bk.t]at j;subst j;have z:s.get (.c t i)=.pR:=Classical.byContradiction λl=>by
      have:=(h.pM t i l).1;simp_all[aX]
     have:=h.slots (.c t i);rw[z]at this⊢;exact this
   ·rw[iF j];exact CD hd (h.slots k)
def ch(s:St)(r:Nat)(t:Tm):St:={env:=(.m r,t)::s.env,pP:=r::s.pP,pQ:=s.pQ}
theorem Vp(s:St)(r:Nat)(t:Tm)(k:Bk):(ch s r t).get k=ite (Bk.m r=k) t (s.get k):=Ql _ _ _ _
theorem YP{r' r:Nat}{t:Tm}(h:(ch s r t).pN r'=K3):s.pN r'=K3/\r'≠r:=by grind[ch,St.pN,Mc]
def Qzd(gh:Nat->La)(w w':Lc)(s s2:St)(F F2:Bk->List Nat)(a:Act)(d:Nat):Prop:=s2.get (.m d)≠ .pR/\ ∀p v U,Yl gh w s F a d p v U->Yl gh w' s2 F2 a d p v U
structure qQ(gh:Nat->La)(w w':Lc)(s s2:St)(F F2:Bk->List Nat)(a:Act)(d:Nat)(t:Tm):Prop where
 pQ:s2.pQ=s.pQ
 get:∀k,s2.get k=ite (Bk.m d=k) t (s.get k)
 pN:∀r,s2.pN r=K3->s.pN r=K3/\(r=d->s2.get (.m d)≠ .pR)
 bad:∀r p,s2.bad r p=K3->s.bad r p=K3/\(r=d-> ∀v U,Yl gh w s F a d p v U->Yl gh w' s2 F2 a d p v U)
 el:∀r,s2.pN r=K3->s2.pN (vd r)=K3->s.pN (vd r)=K3/\r≠d
def Ig{t:Tm}{F2:Bk->List Nat}:qQ gh w w' s (ch s d t) F F2 a d t where
 pQ:=rfl
 get:=Vp s d t
 pN _ h:=⟨(YP h).1,λe=>absurd e (YP h).2⟩
 bad _ _ h:=⟨TF (λ_ h=>(YP h).1) h,λe=>absurd e (YP (St.bad_foul h)).2⟩
 el _ h he:=⟨(YP he).1,(YP h).2⟩
def Dc{s2:St}{t:Tm}{r:Nat}{U:Ty}(ht:qQ gh w w' s s2 F (Xp F (.m d) S) a d t)(hr:r≠d)
  (hF:∀b∈F (.m r),w'.heap[b]? =w.heap[b]?) (h:Yl gh w s F a r p u U):Yl gh w' s2 (Xp F (.m d) S) a r p u U:=by
 have e:s2.get (.m r)=s.get (.m r):=by rw[ht.get];simp[L0 hr]
 have h:=Po h hF;simp_all[Yl,Xp]
def Oo{s2:St}{t:Tm}(ht:qQ gh w w' s s2 F (Xp F (.m d) S0) a d t)(hX:∀b,X b->X' b)(hw:∀b,X b->w'.heap[b]? =w.heap[b]?)
  (hF:∀k b,k≠ .m d->b∈F k->w'.heap[b]? =w.heap[b]?) (hS:∀b∈S,w'.heap[b]? =w.heap[b]?)
  (same:∀e T f x b S',s.get (.m d)=.box e T f x->F (.m d)=b::S'-> ∃f' x' S'',t=.box e T f' x'/\S0=b::S''):∀{u:Tm},
  vt gh w X B s F a v S u->vt gh w' X' B s2 (Xp F (.m d) S0) a v S u:=by
 intro u o;have V:∀{r:Nat}{p:List Nat}{v:La}{U:Ty},(r=d-> ∀v U,Yl gh w s F a d p v U->Yl gh w' s2 (Xp F (.m d) S0) a d p v U)->Yl gh w s F a r p v U->Yl gh w' s2 (Xp F (.m d) S0) a r p v U:=by
  intro r p v U hk hv;by_cases z:r=d
  ·simp_all
  ·exact Dc ht z (λb=>hF (.m r) b (by simpa using z)) hv
 induction u with
 |pR=>exact o
 |tup=>exact o
 |val T f x=>exact th (s:=s) (F:=λ_=>[]) (a:=a) (v:=v) (t:=.val T f x) hX hw Ac hS (show vt gh w X B s (λ_=>[]) a v S (.val T f x)from o)
 |box e T f x=>exact th (s:=s) (F:=λ_=>[]) (a:=a) (v:=v) (t:=.box e T f x) hX hw Ac hS (show vt gh w X B s (λ_=>[]) a v S (.box e T f x)from o)
 |shp T x=>exact th (s:=s) (F:=λ_=>[]) (a:=a) (v:=v) (t:=.shp T x) hX hw Ac hS (show vt gh w X B s (λ_=>[]) a v S (.shp T x)from o)
 |ptr r p=>
  obtain⟨C,e,T,f,x,b,S',c,E,D⟩:=o;by_cases z:d=r
  ·subst z;obtain⟨f',x',S'',rfl,rfl⟩:=same e T f x b S' c E;exact⟨C,e,T,f',x',b,S'',by rw[ht.get];simp,by simp[Xp],D⟩
  ·exact⟨C,e,T,f,x,b,S',by rw[ht.get];simp[z,c],Ai,D⟩
 |aep r p i=>
  obtain⟨C,e,T,f,x,b,S',n,H,y,c,E,D,O⟩:=o;by_cases z:d=r
  ·subst z;obtain⟨f',x',S'',rfl,rfl⟩:=same e T f x b S' c E;obtain⟨⟨T2,W⟩,J,I⟩:=r9 (x':=x') D;simp only at I;subst I;exact⟨C,e,T,f',x',b,S'',n,H,W,by rw[ht.get];simp,by simp[Xp],J,O⟩
  ·exact⟨C,e,T,f,x,b,S',n,H,y,by rw[ht.get];simp[z,c],Ai,D,O⟩
 |bor r p=>
  obtain⟨C,c⟩:=o;refine⟨C,λA=>?_⟩;obtain⟨A,G⟩:=ht.bad r p A
  grind
 |elp r p i q=>
  obtain⟨C,c⟩:=o;refine⟨C,λA=>?_⟩;obtain⟨A,G⟩:=ht.bad r p A
  grind
 |bel r p i q=>
  obtain⟨C,c⟩:=o;refine⟨C,λA K=>?_⟩;obtain⟨K,z⟩:=ht.el r (St.bad_foul A) K;obtain⟨A,G⟩:=ht.bad r p A;obtain⟨e,H,L,n,M,Y,y,Z,h,J,I,k3,k4,k5,k6,k7⟩:=c A K;have P:∀m,(L.add m).block=L.block:=λm=>by grind[Lm]
  exact⟨e,H,L,n,M,Y,y,Z,V G h,J,I,Ai,k4,k5,k6,λj u G=>by
   grind[L2]⟩
 |cl f l=>
  refine⟨o.1,E7 (λr p v N=>?_) o.2⟩;obtain⟨e,T,f,x,b,S',c,E,D⟩:=N;by_cases z:d=r
  ·subst z;obtain⟨f',x',S'',rfl,rfl⟩:=same e T f x b S' c E;exact⟨e,T,f',x',b,S'',by rw[ht.get];simp,by simp[Xp],D⟩
  ·exact⟨e,T,f,x,b,S',by rw[ht.get];simp[z,c],Ai,D⟩
 |pls hh l=>
  refine⟨o.1,WH hX hw (λr p v N=>?_) o.2⟩;obtain⟨e,T,f,x,b,S',c,E,D⟩:=N;by_cases z:d=r
  ·subst z;obtain⟨f',x',S'',rfl,rfl⟩:=same e T f x b S' c E;exact⟨e,T,f',x',b,S'',by rw[ht.get];simp,by simp[Xp],D⟩
  ·exact⟨e,T,f,x,b,S',by rw[ht.get];simp[z,c],Ai,D⟩
 |gd g Q u ih=>
  intro A;obtain⟨A,G⟩:=ht.pN g A;obtain⟨C,c,E⟩:=o A;refine⟨?_,λP=>ih (c P),E⟩;by_cases hg:g=d
  ·simp_all
  ·rw[ht.get];grind
def R.turn'{s2:St}{r:Nat}{t:Tm}(h:R n W0 w X F H s a)(hT:qQ W0.gh w w' s s2 F (Xp F (.m r) S') a r t)
  (hb:W0.below w') (hs:w.heap.size<=w'.heap.size) (hX:∀b,X b->w'.heap[b]? =w.heap[b]?)
  (hF:∀k b,k≠ .m r->b∈F k->w'.heap[b]? =w.heap[b]?)
  (hin:∀b,b∈S'++H'->b∈F (.m r)++H) (hn:(S'++H').Nodup) (ht:s.get (.m r)≠ .tup)
  (same:∀e T f x b S,s.get (.m r)=.box e T f x->F (.m r)=b::S-> ∃f' x' S'',t=.box e T f' x'/\S'=b::S'')
  (hr:vt W0.gh w' X W0.B s2 (Xp F (.m r) S') a (Xj W0.gh a (.m r)) S' t):
  R n W0 w' X (Xp F (.m r) S') H' s2 a:=by
 have j:∀b,b∈S'++H'->W0.mine b/\b<w.heap.size/\ ¬X b:=λb hb=>
  (Ll.1 (hin b hb)).elim (h.own _ b) (h.hown b)
 have l:∀k b,k≠ .m r->b∈F k->b∉S'++H':=λk b hk hb c=>
  (Ll.1 (hin b c)).elim (λc=>hk (h.pS _ _ b hb c)) (h.pL k b hb)
 exact
 {size:=h.size
  defers:=h.defers
  below:=hb
  glob:=g.stays _ _ h.glob λb hb=>hX b (h.gx b hb)
  gx:=h.gx
  xs:=h.xs
  fix:=λp o=>⟨by rw[hT.pQ];exact(h.fix p o).1,(h.fix p o).2⟩
  xlt:=λb hb=>L5 (h.xlt b hb) hs
  xin:=h.xin
  x0:=h.x0
  own:=λk b hb=>by
   simp only[Xp]at hb;split at hb
   ·grind
   ·obtain⟨q,u,z⟩:=h.own k b hb;grind
  nodup:=λk=>by
   simp only[Xp];split
   ·grind
   ·exact h.nodup k
  pS:=λk v b hb c=>by
   simp only[Xp]at hb c;split at hb<;>split at c
   ·simp_all
   ·grind
   ·grind
   ·exact h.pS k v b hb c
  hown:=λb hb=>Ai
  pK:=(Lg.1 hn).2.1
  pL:=λk b hb=>by
   grind
  pM:=λy i d=>by
   rw[hT.get]at d⊢;simp only[reduceCtorEq,if_false]at d;obtain⟨q,u⟩:=h.pM y i d
   grind
  slots:=λk=>by
   by_cases hk:k=.m r
   ·subst hk;rw[hT.get];grind
   ·have e:Xp F (.m r) S' k=F k:=by simp[Xp,hk]
    rw[hT.get,e];simp only[L0 hk,if_false];exact Oo hT (λ_ h=>h) hX hF (λb=>hF k b hk) same (h.slots k)}
def R.turn{r:Nat}{t:Tm}(h:R n W0 w X F H s a)
  (hb:W0.below w') (hs:w.heap.size<=w'.heap.size) (hX:∀b,X b->w'.heap[b]? =w.heap[b]?)
  (hF:∀k b,k≠ .m r->b∈F k->w'.heap[b]? =w.heap[b]?)
  (hin:∀b,b∈S'++H'->b∈F (.m r)++H) (hn:(S'++H').Nodup) (ht:s.get (.m r)≠ .tup)
  (same:∀e T f x b S,s.get (.m r)=.box e T f x->F (.m r)=b::S-> ∃f' x' S'',t=.box e T f' x'/\S'=b::S'')
  (hr:vt W0.gh w' X W0.B (ch s r t) (Xp F (.m r) S') a (Xj W0.gh a (.m r)) S' t):
  R n W0 w' X (Xp F (.m r) S') H' (ch s r t) a:=
 h.turn' Ig hb hs hX hF hin hn ht same hr
def WL(s:St)(r:Nat)(t:Tm):St:={env:=(.m r,t)::s.env,pP:=vd r::s.pP,pQ:=s.pQ}
theorem Kt(s:St)(r:Nat)(t:Tm)(k:Bk):(WL s r t).get k=ite (Bk.m r=k) t (s.get k):=Ql _ _ _ _
def v9{s:St}{e:List (Bk×Tm)}{m:List Nat}{r:Nat}(h:St.pN {env:=e,pP:=m++s.pP,pQ:=l} r=K3):s.pN r=K3/\r∉m:=by grind[St.pN,Mc]
def yS{t:Tm}{F2:Bk->List Nat}(h:Qzd gh w w' s (WL s d t) F F2 a d):qQ gh w w' s (WL s d t) F F2 a d t where
 pQ:=rfl
 get:=Kt s d t
 pN _ h':=⟨(v9 (m:=[vd d]) h').1,λ_=>h.1⟩
 bad _ _ h':=⟨TF (λ_ h=>(v9 (m:=[vd d]) h).1) h',λ_ v U hv=>h.2 _ v U hv⟩
 el _ _ he:=⟨(v9 (m:=[vd d]) he).1,λe=>(v9 (m:=[vd d]) he).2 (by simp[e])⟩
def FZ(s:St)(r i:Nat)(t:Tm):St:={env:=(.m r,t)::s.env,pP:=vd r::CT r::Bq r i::s.pP,pQ:=s.pQ}
def S9(s:St)(r i:Nat)(t:Tm)(k:Bk):(FZ s r i t).get k=ite (Bk.m r=k) t (s.get k):=Ql _ _ _ _
def Qie{t:Tm}{F2:Bk->List Nat}(h1:t≠ .pR)(h2:∀j p v U,j≠i->Yl gh w s F a d (j::p) v U->Yl gh w' (FZ s d i t) F2 a d (j::p) v U):qQ gh w w' s (FZ s d i t) F F2 a d t where
 pQ:=rfl
 get:=S9 s d i t
 pN _ h':=⟨(v9 (m:=[vd d,CT d,Bq d i]) h').1,λ_=>by simp_all[S9]⟩
 bad r p h':=⟨TF (λ_ h=>(v9 (m:=[vd d,CT d,Bq d i]) h).1) h',λe v U hv=>by
  subst e;cases p with
  |nil=>
   simp only[St.bad,Mf]at h';exact absurd Ac (v9 (m:=[vd r,CT r,Bq r i]) h'.2).2
  |cons j p=>
   refine h2 j p v U (λe=>?_) hv;subst e;simp only[St.bad,Mf]at h';exact absurd Ac (v9 (m:=[vd r,CT r,Bq r j]) h'.2).2⟩
 el _ _ he:=⟨(v9 (m:=[vd d,CT d,Bq d i]) he).1,λe=>(v9 (m:=[vd d,CT d,Bq d i]) he).2 (by simp[e])⟩
def gT{α:Type}(f:List La->Option (α×List La)):Nat->List La->Option (List α×List La)
 |0,vs=>K1 ([],vs)
 |n+1,vs=>match f vs with
  |some (x,r)=>match gT f n r with
   |some (xs,r')=>K1 (x::xs,r')
   |none=>K2
  |none=>K2
def BJ:(T:Ty)->List La->Option (T.den×List La)
 |.unit,vs=>K1 ((),vs)
 |.int k,vs=>match vs with|.int k' n::r=>ite (k'=k) (K1 (n,r)) K2|_=>K2
 |.bool,vs=>match vs with|.bool b::r=>K1 (b,r)|_=>K2
 |.fnc _,_=>K2
 |.str,vs=>match vs with|.string s::r=>K1 (s.data.toList,r)|_=>K2
 |.slice _ _,vs=>match vs with|.slice K2 0 0::r=>K1 ([],r)|_=>K2
 |.pair a b,vs=>match BJ a vs with
  |some (x,r)=>match BJ b r with
   |some (y,r')=>K1 ((x,y),r')
   |none=>K2
  |none=>K2
 |.arr n t,vs=>gT (BJ t) n vs
 |.err,vs=>match vs with|.nilIface::r=>K1 (K4,r)|_=>K2
 |.hid _,_=>K2
 |.sptr ..,_=>K2
 |.clo ..,_=>K2
def Uz(T:Ty)(v:La):Option T.den:=
 match(match T with
  |.unit|.pair .. |.arr .. =>(match v with|.agg cs=>K1 cs.toList|_=>K2)
  |_=>K1 [v])with
 |some vs=>match BJ T vs with
  |some (x,[])=>K1 x
  |_=>K2
 |none=>K2
def zero:(T:Ty)->T.den|.unit=>()|.int _=>(0:Int)|.bool=>K3|.fnc _=>()|.str=>[]|.slice _ _=>[]|.pair a b=>(zero a,zero b)|.arr n t=>Lw n (zero t)|.err=>K4|.hid _=>()|.sptr _ t=>zero t|.clo _ t=>zero t
def Wz:Ty->List La|.unit=>[]|.int k=>[.int k 0]|.bool=>[.bool K3]|.fnc f=>[.func (.func f) #[] #[]]|.str=>[.string ⟨#[]⟩]|.slice _ _=>[.slice K2 0 0]|.pair a b=>Wz a++Wz b|.arr n t=>(Lw n (Wz t)).flatten|.err=>[.nilIface]|.hid t=>(Wz t).take 1|.sptr .. =>[.pointer K2]|.clo f _=>[.func (.func f) #[] #[]]
def Pr(e:Lb)(sz:Nat):HW w X B own e sz 0 (.slice K2 0 0) [] []:=by
 cases own
 ·exact⟨rfl,Ac,K2,0,rfl,Lz _,by simp[maxLen],.inl ⟨rfl,rfl,rfl⟩⟩
 ·exact⟨Lc.ownsRow_nil _ _ _ _,rfl⟩
def AU{α:Type}{f:List La->Option (α×List La)}{r:α->List La->List Nat->Prop}(hf:∀vs x q,f vs=K1 (x,q)-> ∃v1,vs=v1++q/\r x v1 []):
  ∀{n:Nat}{vs:List La}{xs:List α}{q:List La},gT f n vs=K1 (xs,q)-> ∃v1,vs=v1++q/\xs.length=n/\dY r xs v1 []
 |0,vs,xs,q,h=>by simp only[gT,pB,pF]at h;obtain⟨rfl,rfl⟩:=h;exact⟨[],rfl,rfl,rfl,rfl⟩
 |n+1,vs,xs,q,h=>by
  simp only[gT]at h;split at h
  ·rename_i x j b;split at h
   ·rename_i c k d;simp only[pB,pF]at h;obtain⟨rfl,rfl⟩:=h;obtain⟨v1,rfl,e⟩:=hf _ _ _ b;obtain⟨a,rfl,g,i⟩:=AU hf d;exact⟨v1++a,Ac,by simp[g],v1,a,[],[],rfl,rfl,e,i⟩
   ·cases h
  ·cases h
def Qxu:∀{T:Ty}{vs:List La}{x:T.den}{q:List La},BJ T vs=K1 (x,q)-> ∃v1,vs=v1++q/\rd w X B own T x v1 []:=by
 intro T
 induction T with
 |unit=>intro vs x q h;simp only[BJ,pB,pF]at h;obtain⟨_,rfl⟩:=h;exact⟨[],rfl,rfl,rfl⟩
 |int k=>
  intro vs x q h;simp only[BJ]at h;split at h
  ·rename_i u m r;split at h
   ·rename_i e;subst e;simp only[pB,pF]at h;obtain⟨rfl,rfl⟩:=h;exact⟨[_],rfl,rfl,rfl⟩
   ·cases h
  ·cases h
 |bool=>
  intro vs x q h;simp only[BJ]at h;split at h
  ·simp only[pB,pF]at h;obtain⟨rfl,rfl⟩:=h;exact⟨[_],rfl,rfl,rfl⟩
  ·cases h
 |fnc f=>simp_all[BJ]
 |hid t=>simp_all[BJ]
 |sptr e t=>simp_all[BJ]
 |clo f t=>simp_all[BJ]
 |err=>
  intro vs x q h;simp only[BJ]at h;split at h
  ·simp only[pB,pF]at h;obtain⟨rfl,rfl⟩:=h;exact⟨[_],rfl,⟨_,rfl,rfl,Ac⟩,rfl⟩
  ·cases h
 |str=>
  intro vs x q h;simp only[BJ]at h;split at h
  ·simp only[pB,pF]at h;obtain⟨rfl,rfl⟩:=h;exact⟨[_],rfl,rfl,rfl⟩
  ·cases h
 |slice e t j=>
  intro vs x q h;simp only[BJ]at h;split at h
  ·simp only[pB,pF]at h;obtain⟨rfl,rfl⟩:=h;exact⟨[_],rfl,_,[],[],[],rfl,rfl,Pr _ _,rfl,rfl⟩
  ·cases h
 |pair a b c d=>
  intro vs x q h;simp only[BJ]at h;split at h
  ·rename_i v y g;split at h
   ·rename_i z A i;simp only[pB,pF]at h;obtain⟨rfl,rfl⟩:=h;obtain⟨v1,rfl,o⟩:=c g;obtain⟨l,rfl,p⟩:=d i;exact⟨v1++l,Ac,v1,l,[],[],rfl,rfl,o,p⟩
   ·cases h
  ·cases h
 |arr n t j=>
  intro vs x q h;obtain⟨v1,g,i,s⟩:=AU (r:=rd w X B own t) (λvs x q h=>j h) h;exact⟨v1,g,i,s⟩
def IN{T:Ty}{x:T.den}(h:Uz T v=K1 x):∃vs,v=Kx T vs/\rd w X B own T x vs []:=by
 unfold Uz at h;split at h
 ·rename_i vs hv;split at h
  ·rename_i y b;simp only[pB]at h;subst h;obtain⟨d,a,c⟩:=Qxu (w:=w) (X:=X) (B:=B) (own:=own) b;simp only[M8]at a;subst a;refine⟨vs,?_,c⟩;cases T<;>simp only[Kx]at hv⊢
   all_goals first
    |(simp only[pB]at hv;subst hv;rfl)
    |(split at hv<;>first|(simp only[pB]at hv;subst hv;simp)|cases hv)
  ·cases h
 ·cases h
def Om{α:Type}{r:α->List La->List Nat->Prop}{z:α}{c:List La}(h:r z c []):∀n:Nat,dY r (Lw n z) (Lw n c).flatten []
 |0=>⟨rfl,rfl⟩
 |n+1=>⟨c,(Lw n c).flatten,[],[],by rfl,rfl,h,Om h n⟩
def LV:∀{T:Ty},T.plain=K4->rd w X B own T (zero T) (Wz T) []
 |.unit,_=>⟨rfl,rfl⟩
 |.int _,_=>⟨rfl,rfl⟩
 |.bool,_=>⟨rfl,rfl⟩
 |.fnc _,_=>⟨rfl,rfl⟩
 |.str,_=>⟨rfl,rfl⟩
 |.slice _ _,_=>⟨_,[],[],[],rfl,rfl,Pr _ _,rfl,rfl⟩
 |.pair a b,h=>by
  simp only[Ty.plain,pC]at h;exact⟨_,_,[],[],rfl,rfl,LV h.1,LV h.2⟩
 |.arr n t,h=>⟨by simp[zero],Om (LV (by simp_all[Ty.plain])) n⟩
 |.err,_=>⟨⟨_,rfl,rfl,.inl ⟨rfl,rfl⟩⟩,rfl⟩
 |.hid t,h=>by
  simp only[Ty.plain,pC]at h;have c:=LV h.2;have d:=(Jm c).trans (pD h.1);have e:(Wz t).take 1=Wz t:=List.take_of_length_le Aa;show _/\_
  grind[Wz]
 |.sptr ..,h=>by simp[Ty.plain]at h
 |.clo ..,h=>by simp[Ty.plain]at h
inductive VH where
 |cst (v:La)|fn (f:L4)|tm (k:Nat) (t:Tm)|bad
abbrev Y7:=List (Nat×Bool)
def Y7.has(tg:Y7)(g:Nat)(b:Bool):Bool:=tg.any λp=>Ln p.1 g&&(match p.2,b with|true,K4=>K4|false,K3=>K4|_,_=>K3)
def jT(s:St)(tg:Y7):Tm->Tm
 |.gd g b t=>match s.pN g with
  |true=>.pR
  |false=>match tg.has g b with|true=>t|false=>.pR
 |t=>t
def Gj(s:St)(tg:Y7):Ld->VH
 |.const v=>.cst v
 |.func f=>.fn f
 |.tmp k=>match L3 k 1048576 with|true=>.tm k (jT s tg (s.get (.m k)))|false=>.bad
 |.global _=>.bad
def Y7.ok(tg:Y7)(gh:Nat->La)(a:Act):Prop:= ∀p∈tg,Xj gh a (.m p.1)=.bool p.2
def Y7.has_ok{tg:Y7}{gh:Nat->La}{a:Act}(h:tg.ok gh a){g:Nat}{b:Bool}(hh:tg.has g b=K4):Xj gh a (.m g)=.bool b:=by
 unfold Y7.has at hh;rw[List.any_eq_true]at hh;obtain⟨⟨e,f⟩,d,c⟩:=hh;simp only[pC]at c;obtain⟨i,j⟩:=c;have:=h _ d
 grind[pD]
def Qqo{gh:Nat->La}{tg:Y7}(ht:tg.ok gh a){t:Tm}(h:vt gh w X B s F a v S t)(hj:jT s tg t≠ .pR):vt gh w X B s F a v S (jT s tg t):=by
 cases t with
 |gd g b t=>
  simp only[jT]at hj⊢;cases hf:s.pN g<;>simp only[hf]at hj⊢
  ·cases hh:tg.has g b<;>simp only[hh]at hj⊢
   ·simp_all
   ·exact(h hf).2.1 (Y7.has_ok ht hh)
  simp_all
 |_=>exact h
theorem Kz(W0:fW g)(a:Act){k:Nat}(hk:L3 k 1048576=K4):Xj W0.gh a (.m k)=a.eval (.tmp k):=by
 show zD _ _ _=a.tmps.getD k undef;unfold zD;rw[Array.getD_eq_getD_getElem?];cases a.tmps[k]? with
 |none=>exact W0.ghU k (by simp_all[UM])
 |some v=>rfl
def yu{tg:Y7}{k:Nat}{t:Tm}(hx:Gj s tg x=.tm k t):x=.tmp k/\L3 k 1048576=K4/\t=jT s tg (s.get (.m k)):=by
 cases x with
 |tmp j=>simp only[Gj]at hx;grind
 |_=>cases hx
def B3{tg:Y7}(hx:Gj s tg x=.cst v):x=.const v:=by
 cases x with
 |tmp j=>grind[Gj]
 |const u=>cases hx;rfl
 |_=>cases hx
def RK{tg:Y7}(hx:Gj s tg x=.fn f):x=.func f:=by
 cases x with
 |tmp j=>grind[Gj]
 |func u=>cases hx;rfl
 |_=>cases hx
def Vu(h:R n W0 w X F H s a){tg:Y7}(ht:tg.ok W0.gh a){k:Nat}{t:Tm}(hx:Gj s tg x=.tm k t)(hj:t≠ .pR):
  x=.tmp k/\vt W0.gh w X W0.B s F a (a.eval x) (F (.m k)) t:=by
 obtain⟨rfl,b,rfl⟩:=yu hx;refine⟨rfl,?_⟩;rw[<-Kz W0 a b];exact Qqo ht (h.slots (.m _)) hj
def S5(s:St)(r:Nat)(p:List Nat):Option ((T:Ty)×Fl×T.den):=
 match s.get (.m r)with
 |.val T f x=>match p,f.live with|[],K4=>K1 ⟨T,f,x⟩|_,_=>K2
 |.box _ T f x=>match kV T x p with
  |some y=>match(oo f p).live with|true=>K1 ⟨y.1,oo f p,y.2⟩|false=>K2
  |none=>K2
 |_=>K2
def YQ(s:St):VH->Option ((T:Ty)×Fl×T.den)
 |.tm _ (.val T f x)=>match f.live with|true=>K1 ⟨T,f,x⟩|false=>K2
 |.tm _ (.bel r p i q)=>match s.bad r p||s.pN (vd r)with
  |true=>K2
  |false=>match S5 s r p with
   |some ⟨.slice _ t,.u K4,l⟩=>match kV t (l.getD i.toNat (zero t)) q with
    |some y=>K1 ⟨y.1,.u K4,y.2⟩
    |none=>K2
   |_=>K2
 |.tm _ (.bor r p)=>match s.bad r p with
  |true=>K2
  |false=>match s.get (.m r)with
   |.val T f x=>match p,f.live with|[],K4=>K1 ⟨T,f,x⟩|_,_=>K2
   |.box _ T f x=>match kV T x p with
    |some y=>match(oo f p).live with|true=>K1 ⟨y.1,oo f p,y.2⟩|false=>K2
    |none=>K2
   |_=>K2
 |.fn f=>K1 ⟨.fnc f,.u K4,()⟩
 |_=>K2
def de(s:St)(o:VH)(T:Ty):Option T.den:=
 match o with
 |.cst v=>Uz T v
 |o=>match YQ s o with
  |some ⟨U,_,x⟩=>aa T U x
  |none=>K2
def Qqs{pre:List La}(h:vs=pre++(mid++post)){k:Nat}(hk:pre.length=k)(hm:mid.length=m):(vs.drop k).take m=mid:=by simp_all
def Qee(h:R n W0 w X F H s a){r:Nat}{U T:Ty}{f:Fl}{y:T.den}(hv:Yl W0.gh w s F a r p v U)(hl:S5 s r p=K1 ⟨T,f,y⟩):
  T=U/\f.live=K4/\ ∃vs S,v=Kx T vs/\TZ w X W0.B T f y vs S/\S.Sublist (F (.m r)):=by
 unfold S5 at hl;unfold Yl at hv;have d:=h.slots (.m r);split at hl
 ·rename_i o q t g;rw[g]at hv d;obtain⟨rfl,rfl,hv⟩:=hv;split at hl
  ·rename_i u;simp only[pB,Li]at hl;obtain⟨rfl,hl⟩:=hl;simp only[heq_eq_eq,pF]at hl;obtain⟨rfl,rfl⟩:=hl;obtain⟨vs,j,k⟩:=d
   grind
  ·cases hl
 ·rename_i e o q t g;rw[g]at hv d;obtain⟨b,c,S,z,j,k,x,A,C⟩:=hv;obtain⟨D,E,G,I,l,i,J⟩:=d;rw[j]at l;obtain⟨rfl,rfl⟩:=Lv l;rw[k]at i;simp only[pB,L7]at i;obtain⟨rfl,_⟩:=i;rw[x]at hl;simp only at hl;split at hl
  ·rename_i u;simp only[pB,Li]at hl;obtain⟨rfl,hl⟩:=hl;simp only[heq_eq_eq,pF]at hl;obtain⟨rfl,rfl⟩:=hl
   grind[kJ,Kp]
  ·cases hl
 ·cases hl
def Ic(h:R n W0 w X F H s a){r:Nat}{i:Int}(hv:vt W0.gh w X W0.B s F a v S0 (.bel r p i q))(h1:s.bad r p=K3)(h2:s.pN (vd r)=K3)
  {e:Lb}{t:Ty}{l:List t.den} (hl:S5 s r p=K1 ⟨.slice e t,.u K4,l⟩) {y:TV} (hy:kV t (l.getD i.toNat (zero t)) q=K1 y):
  ∃vs S,v=Kx y.1 vs/\rd w X W0.B K4 y.1 y.2 vs S/\S.Sublist (F (.m r)):=by
 obtain⟨e',t',N,O,o,x0,y0,I,P,k2,k3,k4,Q,U,k7,V⟩:=hv.2 h1 h2;obtain⟨W,_,vs,S,x,J,Y⟩:=Qee h P hl;cases W;unfold TZ at J;obtain⟨Z,xs,S1,S2,rfl,rfl,q1,q2⟩:=J;have x:M1 (K1 N) O o=Z:=x;subst x;obtain⟨a0,K,d,ab,_,z⟩:=fY q1;simp only[Mo]at d;obtain⟨rfl,rfl,rfl⟩:=d;rcases z with⟨k,_⟩|⟨ar,k,_,z⟩
 ·cases k
 simp only[pB]at k;subst k;have f:i.toNat<l.length:=Aa
 obtain⟨pre,A,L,T1,T2,T3,n1,n2,n3,n4,_⟩:=ZJ (λ_ _ _ h=>Jm h) (i:=i.toNat) f q2;have e4:l.getD i.toNat (zero t)=l[i.toNat]'f:=Ai
 rw[e4]at hy;have C:TZ w X W0.B t (.u K4) l[i.toNat] A T2:=Au
 obtain⟨b,c,D,U1,U2,U3,o1,o2,o3,E,_⟩:=kJ hy C;obtain⟨y1,M,z2⟩:=r9 (x':=l[i.toNat]) Q;rw[hy]at M;cases M;have hf:oo (.u K4) q=.u true:=by
  have:∀q:List Nat,oo (.u K4) q=.u true:=λq=>by
   induction q with
   |nil=>rfl
   |cons j q ih=>grind[oo,jA]
  exact this q
 rw[hf]at E;unfold TZ at E;refine⟨c,U2,?_,E,List.Sublist.trans ?_ Y⟩
 rotate_left
 ·grind
 rw[U,<-z2];congr 1;apply Mu;intro j;rcases Nat.lt_or_ge j y.1.size with hj|hj
 ·have G:j<I.length:=Ai
  have g:j<c.length:=Aw
  have g1:=V j I[j] (Nd G);have g2:=z (i.toNat*t.size+ai t q+j) c[j] (by
   rw[n1,<-n3,<-o3,Lu Aa,show pre.length+b.length+j-pre.length=b.length+j from by omega,
    Lt Ai,o1,Lu Aa,show b.length+j-b.length=j from by omega,Lt g,Nd g])
  grind
 grind[Jm]
def mE(h:R n W0 w X F H s a){tg:Y7}(ht:tg.ok W0.gh a){T:Ty}{f:Fl}{y:T.den}(hl:YQ s (Gj s tg x)=K1 ⟨T,f,y⟩):
  f.live=K4/\ ∃vs S,a.eval x=Kx T vs/\TZ w X W0.B T f y vs S/\(∀b∈S,∃k,b∈F k):=by
 generalize v:Gj s tg x=o at hl;unfold YQ at hl;split at hl
 ·rename_i k G I J;obtain⟨_,vs,K,Y⟩:=Vu h ht v Ac
  grind
 ·rename_i k r p i q;obtain⟨_,hv⟩:=Vu h ht v Ac;split at hl
  ·cases hl
  ·rename_i j;simp only[Mf]at j;split at hl
   ·rename_i e t l C;split at hl
    ·rename_i z O;simp only[pB,Li]at hl;obtain⟨rfl,hl⟩:=hl;simp only[heq_eq_eq,pF]at hl;obtain⟨rfl,rfl⟩:=hl;obtain⟨vs,S,P,Z,Q⟩:=Ic h hv j.1 j.2 C O;exact⟨rfl,vs,S,P,Ao,λb j=>⟨_,Q.subset j⟩⟩
    ·cases hl
   ·cases hl
 ·rename_i k r p;obtain⟨_,h0,K⟩:=Vu h ht v Ac;split at hl
  ·cases hl
  ·rename_i d;obtain⟨U,u⟩:=K d;unfold Yl at u;have A:=h.slots (.m r);split at hl
   ·rename_i G I J D;rw[D]at u A;obtain⟨rfl,rfl,hv⟩:=u;split at hl
    ·rename_i V;simp only[pB,Li]at hl;obtain⟨rfl,hl⟩:=hl;simp only[heq_eq_eq,pF]at hl;obtain⟨rfl,rfl⟩:=hl;obtain⟨vs,L,M⟩:=A
     grind
    ·cases hl
   ·rename_i e G I J D;rw[D]at u A;obtain⟨b,c,S,y',L,M,W,k4,k5⟩:=u;obtain⟨b',c',S',l1,N,E,l4⟩:=A;rw[L]at N;obtain⟨rfl,rfl⟩:=Lv N;rw[M]at E;simp only[pB,L7]at E;obtain⟨rfl,_⟩:=E;rw[W]at hl;simp only at hl;split at hl
    ·rename_i V;simp only[pB,Li]at hl;obtain⟨rfl,hl⟩:=hl;simp only[heq_eq_eq,pF]at hl;obtain⟨rfl,rfl⟩:=hl
     grind[kJ,Kp]
    ·cases hl
   ·cases hl
 ·rename_i g;simp only[pB,Li]at hl;obtain⟨rfl,hl⟩:=hl;simp only[heq_eq_eq,pF]at hl;obtain⟨rfl,_⟩:=hl;obtain rfl:=RK v;exact⟨rfl,[.func (.func g) #[] #[]],[],rfl,by unfold TZ;exact⟨rfl,rfl⟩,Ac⟩
 ·cases hl
theorem NN{tg:Y7}{k:Nat}{T:Ty}{y:T.den}(hr:de s (Gj s tg (.tmp k)) T=K1 y):L3 k 1048576=true:=by grind[Gj,de,YQ]
def fa(h:R n W0 w X F H s a){tg:Y7}(ht:tg.ok W0.gh a){T:Ty}{y:T.den}(hr:de s (Gj s tg x) T=K1 y):
  ∃vs,a.eval x=Kx T vs/\rd w (· <w.heap.size) W0.B K3 T y vs []:=by
 unfold de at hr;split at hr
 ·rename_i v hv;obtain rfl:=B3 hv;exact IN hr
 ·split at hr
  ·rename_i U f l d;obtain⟨e,vs,S,g,i,j⟩:=mE h ht d;cases fX hr;exact⟨vs,g,Vn (λb c=>h.xlt b c) e i λb c=>let⟨k,hk⟩:=j b c;(h.own k b hk).2.1⟩
  ·cases hr
def vf:Fl->Ty->Bool|.u K3,_=>K4|.u K4,T=>T.flat|.p f g,.pair a b=>vf f a&&vf g b|_,_=>K3
theorem nN:∀{T:Ty}{x:T.den}{vs:List La}{S:List Nat},rd w X B K3 T x vs S->S=[]
 |.unit,_,_,_,h|.int _,_,_,_,h|.bool,_,_,_,h|.fnc _,_,_,_,h|.str,_,_,_,h=>h.2
 |.slice _ t,_,_,_,⟨_,_,g,f,_,e,c,d⟩=>by
  have:f=[]:=(sb (r:=rd w X B K3 t) (r':=λ_ _ _=>True) (λx v S h=>⟨nN h,trivial⟩) d).1;rw[e,c.1,this];rfl
 |.pair a b,_,_,_,⟨j,k,g,f,_,e,c,d⟩=>by rw[e,nN c,nN d];rfl
 |.arr n t,_,_,_,⟨_,i⟩=>(sb (r:=rd w X B K3 t) (r':=λ_ _ _=>True) (λx v S h=>⟨nN h,trivial⟩) i).1
 |.err,_,_,_,h=>h.2
 |.hid _,_,_,_,⟨_,_,h⟩=>nN h
 |.sptr ..,_,_,_,h=>h.1
 |.clo ..,_,_,_,h=>h.1
theorem mc:∀{T:Ty}{f:Fl}{x:T.den}{vs:List La}{S:List Nat},vf f T=K4->TZ w X B T f x vs S->S=[]
 |T,.d,_,_,_,c,_=>by grind[vf]
 |T,.u K3,_,_,_,_,h=>by grind[TZ,nN]
 |T,.u K4,_,_,_,c,h=>by unfold TZ at h;exact(kc (X':=X) (own':=K4) (w':=w) (by simp_all[vf]) h).1
 |.pair a b,.p f g,_,_,_,c,⟨k,l,m,n,_,e,i,j⟩=>by
  simp only[vf,pC]at c;rw[e,mc c.1 i,mc c.2 j];rfl
 |.slice ..,.p ..,_,_,_,c,_=>by grind[vf]
 |.unit,.p ..,_,_,_,_,h|.int _,.p ..,_,_,_,_,h|.bool,.p ..,_,_,_,_,h|.fnc _,.p ..,_,_,_,_,h|.str,.p ..,_,_,_,_,h|.err,.p ..,_,_,_,_,h|.hid _,.p ..,_,_,_,_,h|.sptr ..,.p ..,_,_,_,_,h|.clo ..,.p ..,_,_,_,_,h|.arr ..,.p ..,_,_,_,_,h=>by simp[TZ]at h
structure TO where
 T:Ty
 f:Fl
 x:T.den
 s:St
 moved:Bool
def FW(s:St)(o:VH):Option TO:=
 match YQ s o with
 |some ⟨T,f,x⟩=>match vf f T with
  |true=>K1 ⟨T,f,x,s,K3⟩
  |false=>match o with
   |.tm k (.val _ _ _)=>match s.get (.m k)with
    |.val _ _ _=>K1 ⟨T,f,x,ch s k .pR,K4⟩
    |_=>K2
   |.tm _ (.bor r p)=>match s.get (.m r)with
    |.val _ _ _=>K1 ⟨T,f,x,ch s r .pR,K4⟩
    |.box e U g z=>K1 ⟨T,f,x,ch s r (.box e U (YH g p .d) z),K4⟩
    |_=>K2
   |.tm _ (.bel r _ _ _)=>match s.get (.m r)with
    |.val _ _ _=>K1 ⟨T,f,x,ch s r .pR,K4⟩
    |_=>K2
   |_=>K2
 |none=>K2
def ST(s:St)(o:VH)(T:Ty):Option TO:=
 match o with
 |.cst v=>match Uz T v with|some x=>K1 ⟨T,.u K4,x,s,K3⟩|none=>K2
 |o=>match FW s o with
  |some t=>ite (t.T=T) (K1 t) K2
  |none=>K2
def R.takeM(h:R n W0 w X F H s a){k:Nat}{T:Ty}{f:Fl}{x:T.den}(hg:s.get (.m k)=.val T f x):
  R n W0 w X (Xp F (.m k) []) (F (.m k)++H) (ch s k .pR) a:=
 h.turn (S':=[]) h.below (Lz _) (λ_ _=>rfl) (λ_ _ _ _=>rfl) Ac (by
  simp only[Nh];exact Lg.2 ⟨h.nodup _,h.pK,λx hx y c e=>h.pL _ x hx (by rw[e];exact c)⟩) (by rw[hg];simp)
  (λe T f x b S d=>Af) rfl
def I0:∀{p:List Nat}{T:Ty}{x:T.den}{y:TV},kV T x p=K1 y->WJ T x p y=K1 x:=by
 have c:∀{T:Ty}{x:T.den}{i:Nat}{z:TV},fld T x i=K1 z->gZ T x i z=K1 x:=by
  intro T
  induction T with
  |pair a b d e=>
   intro x i z h;cases i with
   |zero=>grind[fld,gZ,aa]
   |succ i=>simp_all[fld,gZ]
  |_=>intro x i z h;simp[fld]at h
 intro p
 induction p with
 |nil=>simp_all[kV,WJ,aa]
 |cons i p f=>
  grind[kV,WJ]
def R.hsub(h:R n W0 w X F H s a)(hs:H'.Sublist H):R n W0 w X F H' s a:=
 {h with
  hown:=λb c=>h.hown b (hs.subset c)
  pK:=h.pK.sublist hs
  pL:=λk b c d=>h.pL k b c (hs.subset d)}
theorem GZ(h:R n W0 w X F H s a){tg:Y7}(ht:tg.ok W0.gh a){t:TO}(hk:FW s (Gj s tg x)=K1 t):
  ∃F' S vs,a.eval x=Kx t.T vs/\TZ w X W0.B t.T t.f t.x vs S/\R n W0 w X F' (S++H) t.s a/\(t.moved=K3->t.s=s/\F'=F/\S=[])/\t.f.live=true:=by
 unfold FW at hk;split at hk
 ·rename_i T f y g;obtain⟨Q,vs,S,h1,h2,h3⟩:=mE h ht g;split at hk
  ·rename_i hn;simp only[pB]at hk;subst hk;have hS:=mc hn h2
   grind
  ·rename_i hn;generalize A:Gj s tg x=o at hk g;split at hk
   ·rename_i k V W O;split at hk
    ·rename_i T2 f2 x2 v;simp only[pB]at hk;subst hk;have hx:=Vu h ht A Ac;obtain⟨rfl,_⟩:=hx;have Y:=(yu A).2.1;have A:=(yu A).2.2;rw[v]at A;simp only[jT]at A;cases A;simp only[YQ]at g;split at g
     ·simp only[pB,Li]at g;obtain⟨rfl,g⟩:=g;simp only[heq_eq_eq,pF]at g;obtain⟨rfl,rfl⟩:=g;have C:=h.slots (.m k);rw[v]at C;obtain⟨D,G,I⟩:=C;exact⟨_,F (.m k),D,(Kz W0 a Y).symm.trans G,I,h.takeM v,Ac,Q⟩
     ·cases g
    ·cases hk
   ·rename_i k r p;obtain⟨_,h0,K⟩:=Vu h ht A Ac;simp only[YQ]at g;split at g
    ·cases g
    ·rename_i E;obtain⟨U,J⟩:=K E;have C:=h.slots (.m r);split at hk
     ·rename_i V W O v;simp only[v]at g;unfold Yl at J;rw[v]at J C;obtain⟨rfl,rfl,hv⟩:=J;split at g
      ·simp only[pB,Li]at g;obtain⟨rfl,g⟩:=g;simp only[heq_eq_eq,pF]at g;obtain⟨rfl,rfl⟩:=g;simp only[pB]at hk;subst hk;obtain⟨D,G,I⟩:=C;exact⟨_,F (.m r),D,hv.trans G,I,h.takeM v,Ac,Q⟩
      ·cases g
     ·rename_i e V W O v;simp only[v]at g;unfold Yl at J;rw[v]at J C;obtain⟨b,c,S0,y',G,I,Z,k4,k5⟩:=J;obtain⟨b',c',S',l1,l2,l3,l4⟩:=C;rw[G]at l2;obtain⟨rfl,rfl⟩:=Lv l2;rw[I]at l3;simp only[pB,L7]at l3;obtain⟨rfl,_⟩:=l3;rw[Z]at g;simp only at g;split at g
      ·simp only[pB,Li]at g;obtain⟨rfl,g⟩:=g;simp only[heq_eq_eq,pF]at g;obtain⟨rfl,rfl⟩:=g;simp only[pB]at hk;subst hk;obtain⟨pre,L,ar,M,P,N,m1,m2,m3,m4,m5⟩:=kJ Z l4;have ab:=h.nodup (.m r);rw[G,m2]at ab;have j:=m5 .d y' L [] O (I0 Z) (by unfold TZ;exact⟨Kp m4,rc m4,rfl⟩);rw[<-m1]at j;simp only[Nh]at j;refine⟨_,P,L,Ay,m4,
        h.turn (S':=b:: (M++N)) h.below (Lz _) (λ_ _=>rfl) (λ_ _ _ _=>rfl) ?_ ?_ (by rw[v];simp) ?_ ⟨b,c,M++N,l1,rfl,I,j⟩,Ac,Q⟩
       ·grind
       ·have h1:(b:: (M++N)++P).Nodup:=by
         have hp:(b:: (M++N)++P).Perm (b:: (M++(P++N))):=by
          grind
         grind
        rw[<-Mj];refine Lg.2 ⟨h1,h.pK,λz hz u hu e=>?_⟩;subst e;refine h.pL (.m r) z ?_ hu
        grind
       grind
      ·cases g
     ·cases hk
   ·rename_i k r p i q;obtain⟨_,hv⟩:=Vu h ht A Ac;split at hk
    ·rename_i V W O v;simp only[pB]at hk;subst hk;simp only[YQ]at g;split at g
     ·cases g
     ·rename_i K;simp only[Mf]at K;split at g
      ·rename_i e t l ad;split at g
       ·rename_i z hz;simp only[pB,Li]at g;obtain⟨rfl,g⟩:=g;simp only[heq_eq_eq,pF]at g;obtain⟨rfl,rfl⟩:=g;obtain⟨vs,S,g1,g2,g3⟩:=Ic h hv K.1 K.2 ad hz;exact⟨_,S,vs,g1,Ao,(h.takeM v).hsub (g3.append (Nt _)),Ac,rfl⟩
       ·cases g
      ·cases g
    ·cases hk
   ·cases hk
 ·cases hk
def ff(h:R n W0 w X F H s a){tg:Y7}(ht:tg.ok W0.gh a){T:Ty}{t:TO}(hk:ST s (Gj s tg x) T=K1 t):
  t.T=T/\ ∃F' S vs,a.eval x=Kx t.T vs/\TZ w X W0.B t.T t.f t.x vs S/\R n W0 w X F' (S++H) t.s a/\(t.moved=K3->t.s=s/\F'=F/\S=[])/\t.f.live=true:=by
 unfold ST at hk;split at hk
 ·rename_i v hv;split at hk
  ·rename_i y b;simp only[pB]at hk;subst hk;obtain rfl:=B3 hv;obtain⟨vs,c,d⟩:=IN (w:=w) (X:=X) (B:=W0.B) (own:=K4) b;exact⟨rfl,F,[],vs,c,Ao,h,λ_=>⟨rfl,rfl,rfl⟩,rfl⟩
  ·cases hk
 grind[GZ]
def St.isBox(s:St)(r:Nat):Prop:= ∃e T f x,s.get (.m r)=.box e T f x
theorem Qmo{o:VH}{t:TO}(hk:FW s o=K1 t){r:Nat}(hb:s.isBox r):t.s.isBox r:=by
 obtain⟨e,T,f,x,hb⟩:=hb;have a:∀{k:Nat}{b c d},s.get (.m k)=.val b c d->(ch s k .pR).isBox r:=by
  intro k b c d hk;have:k≠r:=λg=>Af
  exact⟨e,T,f,x,As⟩
 unfold FW at hk;split at hk
 ·split at hk
  ·simp only[pB]at hk;subst hk;exact⟨e,T,f,x,hb⟩
  ·split at hk
   ·grind
   ·rename_i k p _;split at hk
    ·grind
    ·simp only[pB]at hk;subst hk;by_cases g:k=r
     ·subst g;exact⟨_,_,_,_,by rw[Vp,if_pos rfl]⟩
     ·exact⟨e,T,f,x,As⟩
    ·cases hk
   all_goals grind
 ·cases hk
def YN{o:VH}{T:Ty}{t:TO}(hk:ST s o T=K1 t){r:Nat}(hb:s.isBox r):t.s.isBox r:=by
 unfold ST at hk
 grind[Qmo]
def R.boxIn(h:R n W0 w X F H s a){r:Nat}(hb:s.isBox r)(hv:Xj W0.gh a (.m r)=.pointer (K1 ⟨b,0,K2⟩)):∃S,F (.m r)=b::S:=by obtain⟨e,T,f,x,hb⟩:=hb;have d:=h.slots (.m r);rw[hb]at d;obtain⟨g,c,i,j,k,_⟩:=d;simp_all
def cQ:Ty->Fl->Fl->Bool|_,.d,.d=>K4|_,.u K4,.u K4=>K4|_,.u K3,.u K3=>K4|T,.u _,.u _=>T.flat|.pair A B,.p f1 f2,.p g1 g2=>cQ A f1 g1&&cQ B f2 g2|.pair A B,.u b,.p g1 g2=>cQ A (.u b) g1&&cQ B (.u b) g2|.pair A B,.p f1 f2,.u b=>cQ A f1 (.u b)&&cQ B f2 (.u b)|.slice _ _,.p (.u K4) (.u K3),.p (.u K4) (.u K3)=>K4|_,_,_=>K3
theorem re:∀{T:Ty}{f g:Fl}{x:T.den}{vs:List La}{S:List Nat},cQ T f g=K4->TZ w X B T f x vs S->TZ w X B T g x vs S
 |T,.d,.d,_,_,_,_,h=>h
 |T,.u K4,.u K4,_,_,_,_,h=>h
 |T,.u K3,.u K3,_,_,_,_,h=>h
 |T,.u K4,.u K3,x,vs,S,a,h=>by
  unfold TZ at h⊢;have r:T.flat=true:=Av
  obtain⟨rfl,i⟩:=kc (X':=X) (own':=K3) (w':=w) r h;exact i
 |T,.u K3,.u K4,x,vs,S,a,h=>by
  unfold TZ at h⊢;have r:T.flat=true:=Av
  obtain⟨rfl,i⟩:=kc (X':=X) (own':=K4) (w':=w) r h;exact i
 |.pair A B,.p y z,.p s v,x,vs,S,a,⟨j,k,l,m,n,o,q,i⟩=>by
  simp only[cQ,pC]at a;exact⟨j,k,l,m,n,o,re a.1 q,re a.2 i⟩
 |.pair A B,.u b,.p s v,x,vs,S,a,h=>by
  unfold TZ at h;obtain⟨j,k,l,m,n,o,q,i⟩:=h;simp only[cQ,pC]at a;exact⟨j,k,l,m,n,o,re a.1 Ao,re a.2 Ao⟩
 |.pair A B,.p y z,.u b,x,vs,S,a,⟨j,k,l,m,n,o,q,i⟩=>by
  simp only[cQ,pC]at a;have C:=re a.1 q;have D:=re a.2 i;unfold TZ at C D⊢;exact⟨j,k,l,m,n,o,C,D⟩
 |T,.d,.u _,_,_,_,a,_=>Av
 |T,.d,.p ..,_,_,_,a,_=>Av
 |T,.u b,.d,_,_,_,a,_=>Av
 |T,.p ..,.d,_,_,_,a,_=>Av
 |.unit,.p ..,.u _,_,_,_,a,_|.int _,.p ..,.u _,_,_,_,a,_|.bool,.p ..,.u _,_,_,_,a,_|.fnc _,.p ..,.u _,_,_,_,a,_|.str,.p ..,.u _,_,_,_,a,_|.slice ..,.p ..,.u _,_,_,_,a,_|.err,.p ..,.u _,_,_,_,a,_|.hid _,.p ..,.u _,_,_,_,a,_|.sptr ..,.p ..,.u _,_,_,_,a,_|.clo ..,.p ..,.u _,_,_,_,a,_|.arr ..,.p ..,.u _,_,_,_,a,_=>by simp[cQ]at a
 |.slice e t,.p y z,.p s v,_,_,_,a,h=>by
  obtain⟨rfl,rfl,i⟩:=oX h;cases s with
  |u b=>cases b with
   |true=>cases v with
    |u c=>cases c with
     |false=>exact h
     |true=>grind[cQ]
    |p _ _=>grind[cQ]
    |d=>grind[cQ]
   |false=>grind[cQ]
  |p _ _=>grind[cQ]
  |d=>grind[cQ]
 |.unit,.p ..,.p ..,_,_,_,a,_|.int _,.p ..,.p ..,_,_,_,a,_|.bool,.p ..,.p ..,_,_,_,a,_|.fnc _,.p ..,.p ..,_,_,_,a,_|.str,.p ..,.p ..,_,_,_,a,_|.err,.p ..,.p ..,_,_,_,a,_|.hid _,.p ..,.p ..,_,_,_,a,_|.sptr ..,.p ..,.p ..,_,_,_,a,_|.clo ..,.p ..,.p ..,_,_,_,a,_|.arr ..,.p ..,.p ..,_,_,_,a,_=>by simp[cQ]at a
 |.unit,.u b,.p ..,_,_,_,a,_|.int _,.u b,.p ..,_,_,_,a,_|.bool,.u b,.p ..,_,_,_,a,_|.fnc _,.u b,.p ..,_,_,_,a,_|.str,.u b,.p ..,_,_,_,a,_|.slice ..,.u b,.p ..,_,_,_,a,_|.err,.u b,.p ..,_,_,_,a,_|.hid _,.u b,.p ..,_,_,_,a,_|.sptr ..,.u b,.p ..,_,_,_,a,_|.clo ..,.u b,.p ..,_,_,_,a,_|.arr ..,.u b,.p ..,_,_,_,a,_=>by cases b<;>simp[cQ]at a
def vh{T:Ty}{f g:Fl}{x:T.den}(hs:f=g\/cQ T f g=K4)(h:TZ w X B T f x vs S):TZ w X B T g x vs S:=by
 rcases hs with rfl|hs
 all_goals grind[re]
def Of(P:Ly)(e:Lb)(T:Ty):Bool:=
 match P.info? e with
 |some i=>(Ln i.size T.size&&T.plain)&&Nat.ble i.bytes 8192
 |none=>K3
def xo(P:Ly):List Field->Ty->Nat->Bool|[],.unit,_=>K4|f::fs,.pair a b,off=>Ln f.offset off&&Of P f.type a&&L3 0 a.size&&xo P fs b (off+a.size)|_,_,_=>K3
def HJ(P:Ly)(e:Lb)(T:Ty):Bool:=
 match P.underlying e,T with
 |some (.struct _),.unit|some (.struct _),.pair .. |some (.array ..),.arr .. =>K4
 |some (.struct _),_|some (.array ..),_=>K3
 |some _,.unit|some _,.pair .. |some _,.arr .. =>K3
 |some _,_=>K4
 |none,_=>K3
def JS(P:Ly)(e:Lb)(T:Ty):Bool:=
 Of P e T&&match T with
  |.int k=>(match P.underlying e with|some (.int k')=>Lf (k=k')|_=>K3)
  |.bool=>(match P.underlying e with|some .bool=>K4|_=>K3)
  |.str=>(match P.underlying e with|some .string=>K4|_=>K3)
  |.slice e' t=>L3 0 t.size&&(match P.underlying e with|some (.slice e2)=>Ln e' e2|_=>K3)
  |.arr n t=>L3 0 t.size&&(match P.underlying e with|some (.array m e2)=>Ln n m&&(Of P e2 t&&HJ P e2 t)|_=>K3)
  |T=>(match P.underlying e with|some (.struct fs)=>xo P fs.toList T 0|_=>K3)
structure Uy(P:Ly)(e:Lb)(T:Ty):Prop where
 zero:(P.info? e).map (·.zero)=K1 (K1 (Kx T (Wz T)))
 shape:JS P e T=K4
abbrev nR:=Lb->Option Ty
def nR.ok(τ:nR)(P:Ly):Prop:= ∀e T,τ e=K1 T->Uy P e T
theorem yy{P:Ly}{e:Lb}{T:Ty}(h:Of P e T=K4):∃i,P.info? e=K1 i/\i.size=T.size/\i.bytes<=8192:=by
 unfold Of at h;split at h
 all_goals simp_all
variable {P:Ly}{e:Lb}{T:Ty}
theorem Uy.size(h:Uy P e T):∃i,P.info? e=K1 i/\i.size=T.size/\i.bytes<=8192/\i.zero=K1 (Kx T (Wz T)):=by have a:=h.shape;unfold JS at a;rw[pC]at a;obtain⟨i,b,c,d⟩:=yy a.1;have:=h.zero;simp_all
def Uy.plain(h:Uy P e T):T.plain=true:=by
 have a:=h.shape;unfold JS at a;rw[pC]at a;have b:=a.1;unfold Of at b
 grind
def Uy.int{k:Lx}(h:Uy P e (.int k)):P.underlying e=K1 (.int k):=by
 have a:=h.shape;unfold JS at a
 grind
def Uy.bool(h:Uy P e .bool):P.underlying e=K1 .bool:=by
 have a:=h.shape;unfold JS at a
 grind
def Uy.str(h:Uy P e .str):P.underlying e=K1 .string:=by
 have a:=h.shape;unfold JS at a
 grind
def Uy.slice{e':Lb}{t:Ty}(h:Uy P e (.slice e' t)):P.underlying e=K1 (.slice e')/\0<t.size:=by
 have a:=h.shape;unfold JS at a;rw[pC]at a;have b:=a.2;simp only[pC,Ml]at b
 grind[pD]
def Uy.arr'{n:Nat}{t:Ty}(h:Uy P e (.arr n t)):0<t.size/\ ∃e2,P.underlying e=K1 (.array n e2)/\Of P e2 t=K4/\HJ P e2 t=true:=by
 have b:=h.shape;unfold JS at b;rw[pC]at b;have a:=b.2;simp only[pC,Ml]at a;refine⟨a.1,?_⟩;have a:=a.2;split at a
 all_goals simp_all
def Uy.arr{n:Nat}{t:Ty}(h:Uy P e (.arr n t)):0<t.size/\ ∃e2,P.underlying e=K1 (.array n e2)/\Of P e2 t=true:=let⟨h1,e2,h2,h3,_⟩:=h.arr';⟨h1,e2,h2,h3⟩
def Ty.isStruct:Ty->Bool|.unit|.pair .. =>K4|_=>K3
def Ty.isAgg:Ty->Bool|.unit|.pair .. |.arr .. =>K4|_=>K3
def Uy.struct(h:Uy P e T)(hs:T.isStruct=K4):∃fs,P.underlying e=K1 (.struct fs)/\xo P fs.toList T 0=true:=by
 have a:=h.shape;unfold JS at a;rw[pC]at a
 grind[Ty.isStruct]
def Qdn:∀{fs:List Field}{T:Ty}{off i:Nat}{U:Ty},xo P fs T off=K4->SE T i=K1 U->
  ∃f,fs[i]? =K1 f/\f.offset=off+nj T i/\Of P f.type U=K4/\0<U.size:=by
 intro fs
 induction fs with
 |nil=>
  grind[xo,SE]
 |cons f fs c=>
  intro T off i U h d;cases T<;>simp only[xo]at h<;>first|cases h|skip
  rename_i a b;simp only[pC,Ml]at h;obtain⟨⟨⟨g,j⟩,k⟩,e⟩:=h;cases i with
  |zero=>
   simp_all[SE,nj]
  |succ i=>
   obtain⟨l,m,n,o⟩:=c e d
   grind[nj]
def Uy.nofnc(h:Uy P e (.fnc f)):False:=by
 have:=h.shape;unfold JS at this;simp only[pC]at this
 grind[xo]
def Uy.noerr(h:Uy P e .err):False:=by
 have:=h.shape;unfold JS at this;simp only[pC]at this
 grind[xo]
def Uy.nohid{t:Ty}(h:Uy P e (.hid t)):False:=by
 have:=h.shape;unfold JS at this;simp only[pC]at this
 grind[xo]
def Uy.nosptr{t:Ty}(h:Uy P e (.sptr e2 t)):False:=by
 have:=h.shape;unfold JS at this;simp only[pC]at this
 grind[xo]
def Uy.noclo{t:Ty}(h:Uy P e (.clo f t)):False:=by
 have:=h.shape;unfold JS at this;simp only[pC]at this
 grind[xo]
def Uy.isAgg(h:Uy P e T)(w:Lc):(isAgg e).run P w=.ok T.isAgg w:=by
 cases T with
 |int k=>simp[L1,run_underlying h.int,Ty.isAgg]
 |bool=>simp[L1,run_underlying h.bool,Ty.isAgg]
 |str=>simp[L1,run_underlying h.str,Ty.isAgg]
 |fnc f=>exact h.nofnc.elim
 |err=>exact h.noerr.elim
 |hid t=>exact h.nohid.elim
 |sptr e t=>exact h.nosptr.elim
 |clo f t=>exact h.noclo.elim
 |slice g t=>simp[L1,run_underlying h.slice.1,Ty.isAgg]
 |arr n t=>obtain⟨_,i,c,_⟩:=h.arr;simp[L1,run_underlying c,Ty.isAgg]
 |unit=>obtain⟨d,c,_⟩:=h.struct rfl;simp[L1,run_underlying c,Ty.isAgg]
 |pair a b=>obtain⟨d,c,_⟩:=h.struct rfl;simp[L1,run_underlying c,Ty.isAgg]
def Qm5(h:HJ P e T=K4)(w:Lc):(L1 e).run P w=.ok T.isAgg w:=by
 unfold HJ at h;cases hu:P.underlying e with
 |none=>simp_all
 |some d=>
  rw[hu]at h;cases d<;>cases T<;>simp at h<;>simp[L1,run_underlying hu,Ty.isAgg]
def Uy.sizeOf(h:Uy P e T)(w:Lc):(sizeOf e).run P w=.ok T.size w:=by obtain⟨i,a,b,_⟩:=h.size;simp_all[Lr,typeInfo]
def Dz(h:T.isAgg=K3):T.size=1:=by cases T<;>simp[Ty.isAgg]at h<;>rfl
def Uy.load(h:Uy P e T){w:Lc}(hl:vs.length=T.size)(hc:∀j u,vs[j]? =K1 u->w.cell? (ad.add j)=K1 u):
  (loadVar e ad).run P w=.ok (Kx T vs) w:=by
 unfold loadVar;simp only[Lh,h.isAgg w,Lo];cases ha:T.isAgg
 ·have a:=Dz ha;rw[a]at hl;obtain⟨v,rfl⟩:=Mw.1 hl;have:=hc 0 v rfl;simp only[Le.add_zero']at this;have b:Kx T [v]=v:=by cases T<;>simp[Ty.isAgg]at ha<;>rfl
  simp[this,b]
 ·simp only[if_true,Lh,h.sizeOf w,Lo];have:=run_loadCells_list (P:=P) (w:=w) ad vs hc;rw[hl]at this;rw[this];cases T<;>simp[Ty.isAgg]at ha<;>rfl
theorem Bx(h1:∀u∈vs,u.oneCell'=K4)(hl:vs.length=T.size):(Kx T vs).cells.toList=vs:=by
 cases ha:T.isAgg
 ·rw[Dz ha]at hl;obtain⟨v,rfl⟩:=Mw.1 hl;have a:Kx T [v]=v:=by cases T<;>simp[Ty.isAgg]at ha<;>rfl
  rw[a];have:=h1 v Ac;cases v<;>simp[L8]at this<;>rfl
 ·cases T<;>simp[Ty.isAgg]at ha<;>simp[Kx,La.cells]
abbrev Ob:=Option Prop
def Ob.ok:Ob->Prop|none=>True|some p=>p
structure Oe where
 t:Tm
 s:St
 moved:Bool
 obl:Ob
def H6(w w':Lc):Prop:= ∀k,k<w.heap.size->w'.heap[k]? =w.heap[k]?
def H6.refl(w:Lc):H6 w w:=λ_ _=>rfl
theorem H6.cell{w w':Lc}(h:H6 w w'){ad:Le}{u:La}(hc:w.cell? ad=K1 u):w'.cell? ad=K1 u:=by
 have a:ad.block<w.heap.size:=by
  grind[Ns]
 rw[L2 (w:=w) (h _ a)];exact hc
def H6.alloc(w:Lc)(ob:Obj):H6 w (w.alloc ob):=λk hk=>by
 show(w.heap.push ob)[k]? =w.heap[k]?
 grind
def C1(gh:Nat->La)(X:Nat->Prop)(s:St)(a:Act)(tgt:Option Nat)(w w':Lc):Prop:=∀b,(X b\/ ∃r,s.isBox r/\tgt≠K1 r/\Xj gh a (.m r)=.pointer (K1 ⟨b,0,K2⟩))->w'.heap[b]? =w.heap[b]?
def R.kept{g:Jh}{n:Nat}{W0:fW g}{w w':Lc}{X:Nat->Prop}{F:Bk->List Nat}{H:List Nat}{s:St}{a:Act}(h:R n W0 w X F H s a)(ho:H6 w w'){tgt:Option Nat}:C1 W0.gh X s a tgt w w':=λb c=>ho b (by
 rcases c with c|⟨r,d,_,e⟩
 ·exact h.xlt b c
 ·obtain⟨S,f⟩:=h.boxIn d e;exact(h.own (.m r) b (by rw[f];simp)).2.1)
def D4:Op->Bool|.store .. =>K3|.call {callee:=.builtin .append,..}=>K3|_=>K4
def YU(P:Ly){g:Jh}(n:Nat)(W0:fW g)(w:Lc)(X:Nat->Prop)(H:List Nat)(s:St)(a:Act)(o:Lj)(r:Oe):Prop:=r.obl.ok-> ∀(K:Act->Lc->Prop)(Q:Exit->Act->Lc->Prop),(∀v X' F' S w',(∀b,X b->X' b)->R n W0 w' X' F' (S++H) r.s a->vt W0.gh w' X' W0.B r.s F' a v S r.t->(r.moved=K3->r.s=s)->(D4 o.op=K4->H6 w w')/\C1 W0.gh X s a K2 w w'->K (a.put o.dst v) w')->o.wp P a w K Q
variable {o:Lj}{tg:Y7}{τ:nR}
def EG(τ:nR):Op->Bool
 |.load .. =>K4
 |.convert e _ _=>match τ e with|some (.slice _ _)=>K4|_=>K3
 |_=>K3
def zv(s:St):Op->Option (Option Nat)
 |.load _ (.tmp k)=>
  let rec go:Tm->Option (Option Nat)
   |.ptr r _=>K1 (K1 r)
   |.aep r _ _=>K1 (K1 r)
   |.pls _ _=>K1 K2
   |.shp _ _=>K1 K2
   |.gd _ _ t=>go t
   |.box _ _ _ _=>K1 (K1 k)
   |_=>K2
  go (s.get (.m k))
 |_=>K2
def tn{s:St}{tg:Y7}{e:Lb}{k k':Nat}{t:Tm}(h:Gj s tg (.tmp k)=.tm k' t)(hj:t≠ .pR):zv s (.load e (.tmp k))=zv.go k t:=by
 obtain⟨e,_,h⟩:=yu h;cases e;have h:=h.symm;simp only[zv];cases hg:s.get (.m k)<;>rw[hg]at h<;>simp only[jT]at h<;>first|(subst h;rfl)|skip
 split at h
 ·simp_all
 ·split at h
  ·subst h;rfl
  simp_all
def Bp(gh:Nat->La)(τ:nR)(X:Nat->Prop)(s:St)(a:Act)(o:Lj)(w w':Lc):Prop:=EG τ o.op=K4->match zv s o.op with
 |some (K1 r)=> ∀b,b<w.heap.size->Xj gh a (.m r)=.pointer (K1 ⟨b,0,K2⟩)->w'.heap[b]? =w.heap[b]?
 |some K2=> ∀b,b<w.heap.size->X b->w'.heap[b]? =w.heap[b]?
 |none=>H6 w w'
def Bp.refl(gh:Nat->La)(τ:nR)(X:Nat->Prop)(s:St)(a:Act)(o:Lj)(w:Lc):Bp gh τ X s a o w w:=by
 intro _;split
 all_goals simp_all[H6.refl]
def dP(P:Ly)(τ:nR){g:Jh}(W0:fW g)(w:Lc)(X:Nat->Prop)(F:Bk->List Nat)(s:St)(a:Act)(o:Lj)(r:Oe):Prop:=r.s=s/\(r.obl.ok-> ∃v,(∀w',Bp W0.gh τ X s a o w w'->(execOp a.eval o).run P w'=.ok (.value v) w')/\vt W0.gh w X W0.B s F a v [] r.t)
def K0{r:Oe}(hs:r.s=s)(hr:r.obl.ok-> ∃v,(∀w',Bp W0.gh τ X s a o w w'->(execOp a.eval o).run P w'=.ok (.value v) w')/\vt W0.gh w X W0.B s F a v [] r.t):dP P τ W0 w X F s a o r:=⟨hs,hr⟩
def XS{r:Oe}(h:R n W0 w X F H s a)(hs:r.s=s)(hr:r.obl.ok-> ∃v,(execOp a.eval o).run P w=.ok (.value v) w/\vt W0.gh w X W0.B s F a v [] r.t):YU P n W0 w X H s a o r:=by intro b K Q c;obtain⟨v,d,e⟩:=hr b;unfold Ls;rw[d];exact c v X F [] w (λ_ h=>h) (by rw[hs];exact h) (by rw[hs];exact e) (λ_=>hs) ⟨λ_=>H6.refl w,h.kept (H6.refl w)⟩
def dP.sound{r:Oe}(hp:dP P τ W0 w X F s a o r)(h:R n W0 w X F H s a):YU P n W0 w X H s a o r:=XS h hp.1 λb=>let⟨v,h1,h2⟩:=hp.2 b;⟨v,h1 w (Bp.refl _ _ _ _ _ _ w),h2⟩
def CB(s:St)(k:Nat)(t:Tm):Option Oe:=
 match t with
 |.val T f x=>match f.live,vf f T with
  |true,K4=>K1 ⟨.val T f x,s,K3,K2⟩
  |true,K3=>match s.get (.m k)with
   |.val _ _ _=>K1 ⟨.bor k [],s,K3,K2⟩
   |_=>K2
  |_,_=>K2
 |.box _ _ _ _=>match s.get (.m k)with
  |.box _ _ _ _=>K1 ⟨.ptr k [],s,K3,K2⟩
  |_=>K2
 |.ptr r p=>K1 ⟨.ptr r p,s,K3,K2⟩
 |.shp T x=>K1 ⟨.shp T x,s,K3,K2⟩
 |.bor r p=>K1 ⟨.bor r p,s,K3,K2⟩
 |.elp r p i q=>K1 ⟨.elp r p i q,s,K3,K2⟩
 |.aep r p i=>K1 ⟨.aep r p i,s,K3,K2⟩
 |.pls h l=>K1 ⟨.pls h l,s,K3,K2⟩
 |.bel r p i q=>K1 ⟨.bel r p i q,s,K3,K2⟩
 |.cl f l=>K1 ⟨.cl f l,s,K3,K2⟩
 |_=>K2
def Qor:La->Bool|.pointer K2=>K4|_=>K3
def S8(τ:nR)(s:St)(e:Lb)(v:La):Option Oe:=
 match Qor v with
 |true=>K1 ⟨.pR,s,K3,K2⟩
 |false=>match τ e with
  |some T=>match Uz T v with
   |some x=>K1 ⟨.val T (.u K4) x,s,K3,K2⟩
   |none=>K2
  |none=>K2
def B0{e:Lb}{r:Oe}(hr:S8 τ s e v=K1 r):r.s=s/\vt gh w X B s F a v [] r.t:=by
 unfold S8 at hr;split at hr
 ·simp only[pB]at hr;subst hr;exact⟨rfl,rfl⟩
 ·split at hr
  ·split at hr
   ·rename_i T _ x hx;simp only[pB]at hr;subst hr;obtain⟨b,c,d⟩:=IN (w:=w) (X:=X) (B:=B) (own:=K4) hx;exact⟨rfl,b,c,Ao⟩
   ·cases hr
  ·cases hr
def Qfs(_h:R n W0 w X F H s a){k:Nat}{T:Ty}{f:Fl}{x:T.den}(hg:s.get (.m k)=.val T f x):Yl W0.gh w s F a k [] (Xj W0.gh a (.m k)) T:=by simp_all[Yl]
theorem WP(h:R n W0 w X F H s a)(ht:tg.ok W0.gh a){k:Nat}{t:Tm}(hx:Gj s tg x=.tm k t){r:Oe}(hr:CB s k t=K1 r):
  r.s=s/\vt W0.gh w X W0.B s F a (a.eval x) [] r.t:=by
 have j:t≠ .pR:=by grind[CB]
 obtain⟨rfl,hv⟩:=Vu h ht hx j;unfold CB at hr;split at hr
 ·rename_i T f y;split at hr
  ·rename_i _ _ l;simp only[pB]at hr;subst hr;obtain⟨m,i,d⟩:=hv;have:=mc l d;rw[this]at d;exact⟨rfl,m,i,d⟩
  ·split at hr
   ·rename_i g;simp only[pB]at hr;subst hr;exact⟨rfl,rfl,λ_=>⟨_,(Kz W0 a (yu hx).2.1)▸Qfs h g⟩⟩
   ·cases hr
  ·cases hr
 ·rename_i e T f y;split at hr
  ·rename_i o p q u g;simp only[pB]at hr;subst hr;have hx:=(yu hx).2.2;simp only[g,jT]at hx;cases hx;obtain⟨b,c,S,i,d,v,z⟩:=hv;exact⟨rfl,rfl,_,_,_,_,b,S,g,d,i⟩
  ·cases hr
 ·simp only[pB]at hr;subst hr;exact⟨rfl,hv.1▸hv⟩
 ·simp only[pB]at hr;subst hr;exact⟨rfl,hv.1▸hv⟩
 ·simp only[pB]at hr;subst hr;exact⟨rfl,hv.1▸hv⟩
 ·simp only[pB]at hr;subst hr;exact⟨rfl,hv.1▸hv⟩
 ·simp only[pB]at hr;subst hr;exact⟨rfl,hv.1▸hv⟩
 ·simp only[pB]at hr;subst hr;exact⟨rfl,hv.1▸hv⟩
 ·simp only[pB]at hr;subst hr;exact⟨rfl,hv.1▸hv⟩
 ·simp only[pB]at hr;subst hr;exact⟨rfl,hv.1▸hv⟩
 ·cases hr
def GP(τ:nR)(s:St)(tg:Y7)(e:Lb)(x:Ld):Option Oe:=
 match Gj s tg x with
 |.cst v=>S8 τ s e v
 |.fn f=>K1 ⟨.val (.fnc f) (.u K4) (),s,K3,K2⟩
 |.tm k t=>CB s k t
 |_=>K2
def gX(f:L4):vt gh w X B s F a (.func (.func f) #[] #[]) [] (.val (.fnc f) (.u own) ()):=⟨[_],rfl,by unfold TZ;exact⟨rfl,rfl⟩⟩
def MF(h:R n W0 w X F H s a)(ht:tg.ok W0.gh a){e:Lb}{r:Oe}(hr:GP τ s tg e x=K1 r):r.s=s/\vt W0.gh w X W0.B s F a (a.eval x) [] r.t:=by
 unfold GP at hr;split at hr
 ·rename_i v hv;obtain rfl:=B3 hv;exact B0 hr
 ·rename_i f hv;obtain rfl:=RK hv;simp only[pB]at hr;subst hr;exact⟨rfl,gX f⟩
 all_goals grind[WP]
theorem UR(h:R n W0 w X F H s a)(ht:tg.ok W0.gh a)(ho:o.op=.move x){r:Oe}(hr:GP τ s tg o.type x=K1 r):dP P τ W0 w X F s a o r:=by have b:=MF h ht hr;exact K0 b.1 λ_=>⟨_,λc _=>by simp[execOp,ho],b.2⟩
def HY(τ:nR)(s:St)(tg:Y7)(e:Lb)(x:Ld):Option Oe:=
 match Gj s tg x with
 |.cst v=>S8 τ s e v
 |.fn f=>K1 ⟨.val (.fnc f) (.u K4) (),s,K3,K2⟩
 |.tm k t=>match t with
  |.val _ _ _|.bor _ _=>match FW s (.tm k t)with
   |some u=>K1 ⟨.val u.T u.f u.x,u.s,u.moved,K2⟩
   |none=>K2
  |_=>CB s k t
 |_=>K2
theorem Z0x(h:R n W0 w X F H s a)(ht:tg.ok W0.gh a)(ho:o.op=.assign x){r:Oe}(hr:HY τ s tg o.type x=K1 r):YU P n W0 w X H s a o r:=by
 unfold HY at hr;have d:∀{k t u},Gj s tg x=.tm k t->FW s (.tm k t)=K1 u->YU P n W0 w X H s a o ⟨.val u.T u.f u.x,u.s,u.moved,K2⟩:=by
  intro k t u hx e;rw[<-hx]at e;obtain⟨g,S,i,b,c,j,l,_⟩:=GZ h ht e;intro _ K Q m;unfold Ls;simp only[execOp,ho,Lp];exact m _ X g S w (λ_ h=>h) j ⟨i,b,c⟩ (λp=>(l p).1) ⟨λ_=>H6.refl w,h.kept (H6.refl w)⟩
 split at hr
 ·rename_i v hv;obtain rfl:=B3 hv;obtain⟨b,c⟩:=B0 (w:=w) (X:=X) (B:=W0.B) (s:=s) (F:=F) (a:=a) hr;exact XS h b λ_=>⟨_,by simp[execOp,ho,Act.eval],c⟩
 ·rename_i f hv;obtain rfl:=RK hv;simp only[pB]at hr;subst hr;exact XS h rfl λ_=>⟨_,by simp[execOp,ho,Act.eval],gX f⟩
 ·rename_i k t hx;split at hr
  ·grind
  ·grind
  ·obtain⟨b,c⟩:=WP h ht hx hr;exact XS h b λ_=>⟨_,by simp[execOp,ho],c⟩
 ·cases hr
def Fk(τ:nR)(s:St)(tg:Y7)(e:Lb)(c x y:Ld):Option Oe:=
 match τ e,c with
 |some T,.tmp k=>match T.flat,de s (Gj s tg c) .bool,de s (Gj s ((k,K4)::tg) x) T,de s (Gj s ((k,K3)::tg) y) T with
  |true,K1 b,K1 u,K1 v=>K1 ⟨.val T (.u K3) (match b with|true=>u|false=>v),s,K3,K2⟩
  |_,_,_,_=>K2
 |_,_=>K2
theorem O0(h:R n W0 w X F H s a)(ht:tg.ok W0.gh a){c:Ld}(ho:o.op=.pick c x y){r:Oe}(hr:Fk τ s tg o.type c x y=K1 r):dP P τ W0 w X F s a o r:=by
 unfold Fk at hr;split at hr
 ·rename_i T k _;split at hr
  ·rename_i b u v A f g hv;simp only[pB]at hr;subst hr;refine K0 rfl λ_=>?_;obtain⟨e,i,j⟩:=fa h ht f;obtain⟨rfl,_⟩:=j;have l:Xj W0.gh a (.m k)=.bool b:=(Kz W0 a (NN f)).trans i;have d:Y7.ok ((k,b)::tg) W0.gh a:=λp hp=>by
    rcases Ng.1 hp with rfl|hp
    ·exact l
    ·exact ht p hp
   cases b
   ·obtain⟨e,q,t⟩:=fa h d hv;exact⟨_,λz _=>by simp_all[execOp,Kx,asBool],e,rfl,by grind[TZ,kc]⟩
   ·obtain⟨e,q,t⟩:=fa h d g;exact⟨_,λz _=>by simp_all[execOp,Kx,asBool],e,rfl,by grind[TZ,kc]⟩
  ·cases hr
 ·cases hr
def Z6:Nat:=4611686018427387904
def Qd:Nat:=17179869184
def AE(op:BinOp)(k:Lx)(x y:Int):Option (TV×Ob):=
 match op with
 |.add=>K1 (⟨.int k,k.wrap (x+y)⟩,K2)
 |.sub=>K1 (⟨.int k,k.wrap (x-y)⟩,K2)
 |.mul=>K1 (⟨.int k,k.wrap (x*y)⟩,K2)
 |.quo=>K1 (⟨.int k,k.wrap (x.tdiv y)⟩,K1 (y≠0))
 |.rem=>K1 (⟨.int k,x.tmod y⟩,K1 (y≠0))
 |.and=>K1 (⟨.int k,bits .and k x y⟩,K2)
 |.or=>K1 (⟨.int k,bits .or k x y⟩,K2)
 |.xor=>K1 (⟨.int k,bits .xor k x y⟩,K2)
 |.andNot=>K1 (⟨.int k,bits .andNot k x y⟩,K2)
 |.eql=>K1 (⟨.bool,x==y⟩,K2)
 |.neq=>K1 (⟨.bool,x !=y⟩,K2)
 |.lss=>K1 (⟨.bool,Lf (x<y)⟩,K2)
 |.leq=>K1 (⟨.bool,Lf (x<=y)⟩,K2)
 |.gtr=>K1 (⟨.bool,Lf (x>y)⟩,K2)
 |.geq=>K1 (⟨.bool,Lf (x>=y)⟩,K2)
 |_=>K2
def RR(op:BinOp)(x y:List UInt8):Option (TV×Ob):=
 match op with
 |.add=>K1 (⟨.str,x++y⟩,K1 (x.length+y.length<=Z6))
 |.eql=>K1 (⟨.bool,x==y⟩,K2)
 |.neq=>K1 (⟨.bool,!(x==y)⟩,K2)
 |.lss=>K1 (⟨.bool,Mm x y⟩,K2)
 |.leq=>K1 (⟨.bool,Mm x y||x==y⟩,K2)
 |.gtr=>K1 (⟨.bool,!(Mm x y||x==y)⟩,K2)
 |.geq=>K1 (⟨.bool,!(Mm x y)⟩,K2)
 |_=>K2
def ZL(op:BinOp)(x y:Bool):Option (TV×Ob):=
 match op with
 |.eql=>K1 (⟨.bool,x==y⟩,K2)
 |.neq=>K1 (⟨.bool,!(x==y)⟩,K2)
 |_=>K2
def SB(op:BinOp)(k:Lx)(x y:Int):Option (TV×Ob):=
 match op with
 |.shl=>K1 (⟨.int k,k.wrap (x*2^ (min y.toNat k.bits))⟩,K1 (0<=y))
 |.shr=>K1 (⟨.int k,x.fdiv (2^ (min y.toNat k.bits))⟩,K1 (0<=y))
 |_=>K2
def BinOp.isShift:BinOp->Bool|.shl|.shr=>K4|_=>K3
def Cn(τ:nR)(s:St)(tg:Y7)(op:BinOp)(e:Lb)(x y:Ld)(e2:Lb):Option Oe:=
 match τ e with
 |some (.int k)=>match BinOp.isShift op with
  |true=>match τ e2 with
   |some (.int k2)=>match de s (Gj s tg x) (.int k),de s (Gj s tg y) (.int k2)with
    |some u,K1 v=>match SB op k u v with
     |some (z,p)=>K1 ⟨.val z.1 (.u K3) z.2,s,K3,p⟩
     |none=>K2
    |_,_=>K2
   |_=>K2
  |false=>match de s (Gj s tg x) (.int k),de s (Gj s tg y) (.int k)with
   |some u,K1 v=>match AE op k u v with
    |some (z,p)=>K1 ⟨.val z.1 (.u K3) z.2,s,K3,p⟩
    |none=>K2
   |_,_=>K2
 |some .str=>match de s (Gj s tg x) .str,de s (Gj s tg y) .str with
  |some u,K1 v=>match RR op u v with
   |some (z,p)=>K1 ⟨.val z.1 (.u K3) z.2,s,K3,p⟩
   |none=>K2
  |_,_=>K2
 |some .bool=>match de s (Gj s tg x) .bool,de s (Gj s tg y) .bool with
  |some u,K1 v=>match ZL op u v with
   |some (z,p)=>K1 ⟨.val z.1 (.u K3) z.2,s,K3,p⟩
   |none=>K2
  |_,_=>K2
 |_=>K2
def UO(k:Lx)(x:Int):vt gh w X B s F a (.int k x) [] (.val (.int k) (.u own) x):=⟨[.int k x],rfl,by unfold TZ;exact⟨rfl,rfl⟩⟩
def Rh(x:Bool):vt gh w X B s F a (.bool x) [] (.val .bool (.u own) x):=⟨[.bool x],rfl,by unfold TZ;exact⟨rfl,rfl⟩⟩
def MV(x:List UInt8):vt gh w X B s F a (.string ⟨⟨x⟩⟩) [] (.val .str (.u own) x):=⟨[.string ⟨⟨x⟩⟩],rfl,by unfold TZ;exact⟨rfl,rfl⟩⟩
def YF(h:R n W0 w X F H s a)(ht:tg.ok W0.gh a){k:Lx}{y:Int}(hr:de s (Gj s tg x) (.int k)=K1 y):a.eval x=.int k y:=by obtain⟨d,b,c,_⟩:=fa h ht hr;rw[b,c];rfl
def uA(h:R n W0 w X F H s a)(ht:tg.ok W0.gh a){y:Bool}(hr:de s (Gj s tg x) .bool=K1 y):a.eval x=.bool y:=by obtain⟨d,b,c,_⟩:=fa h ht hr;rw[b,c];rfl
def RM(h:R n W0 w X F H s a)(ht:tg.ok W0.gh a){y:List UInt8}(hr:de s (Gj s tg x) .str=K1 y):a.eval x=.string ⟨⟨y⟩⟩:=by obtain⟨d,b,c,_⟩:=fa h ht hr;rw[b,c];rfl
def Qh8(x y:List UInt8):(ByteArray.mk ⟨x⟩)++(ByteArray.mk ⟨y⟩)=ByteArray.mk ⟨x++y⟩:=by rfl
def Ez(h:R n W0 w X F H s a)(ht:tg.ok W0.gh a)(hτ:τ.ok P){op:BinOp}{e:Lb}(ho:o.op=.binOp op e x y e2){r:Oe}(hr:Cn τ s tg op e x y e2=K1 r):
  dP P τ W0 w X F s a o r:=by
 unfold Cn at hr;split at hr
 ·rename_i k i;split at hr
  ·split at hr
   ·split at hr
    ·rename_i m _ _ _ u v f hv;split at hr
     ·rename_i z p b;simp only[pB]at hr;subst hr;refine K0 rfl λc=>?_;have d:=YF h ht f;have e2:=YF h ht hv;cases op<;>simp only[SB]at b<;>first|cases b|skip
      all_goals
       have j:¬v<0:=Int.not_lt.mpr (show(0:Int)<=v from c)
       (refine⟨_,λg _=>?_,UO _ _⟩;simp only[execOp,ho,d,e2];simp[go_sem,Op.shift,j])
     ·cases hr
    ·cases hr
   ·cases hr
  ·split at hr
   ·rename_i u v f hv;split at hr
    ·rename_i z p b;simp only[pB]at hr;subst hr;refine K0 rfl λc=>?_;have d:=YF h ht f;have e2:=YF h ht hv;cases op<;>simp only[AE]at b<;>first|cases b|skip
     all_goals first
      |(refine⟨_,λg _=>?_,UO _ _⟩;simp only[execOp,ho,d,e2];simp[go_sem,Op.intArith];done)
      |(refine⟨_,λg _=>?_,Rh _⟩;simp only[execOp,ho,d,e2];first|(simp[go_sem];done)|(simp[go_sem,binOp,Mz];done))
      |(have c:v≠0:=c;refine⟨_,λg _=>?_,UO _ _⟩;simp only[execOp,ho,d,e2];simp[go_sem,Op.intDiv,c])
    ·cases hr
   ·cases hr
 ·split at hr
  ·rename_i u v f hv;split at hr
   ·rename_i z p b;simp only[pB]at hr;subst hr;refine K0 rfl λc=>?_;have d:=RM h ht f;have e2:=RM h ht hv;cases op<;>simp only[RR]at b<;>first|cases b|skip
    ·refine⟨.string ⟨⟨u++v⟩⟩,λg _=>?_,MV _⟩;have c:u.length+v.length<=Z6:=c;unfold Z6 at c;simp only[execOp,ho,d,e2];simp[go_sem,binOp,Mz,Qh8];omega
    all_goals (refine⟨_,λg _=>?_,Rh _⟩;simp only[execOp,ho,d,e2];first|(simp[go_sem];done)|(simp[go_sem,binOp,Mz];done))
   ·cases hr
  ·cases hr
 ·rename_i i;split at hr
  ·rename_i u v f hv;split at hr
   ·rename_i z p b;simp only[pB]at hr;subst hr;refine K0 rfl λc=>?_;have d:=uA h ht f;have e2:=uA h ht hv;have l:=(hτ _ _ i).bool;cases op<;>simp only[ZL]at b<;>first|cases b|skip
    all_goals (refine⟨_,λg _=>?_,Rh _⟩;simp only[execOp,ho,d,e2];simp[go_sem,binOp,run_equal_bool g e u v l])
   ·cases hr
  ·cases hr
 ·cases hr
def IE(h:R n W0 w X F H s a){k r:Nat}{T:Ty}{f:Fl}{y:T.den}(hl:YQ s (.tm k (.bor r p))=K1 ⟨T,f,y⟩){U:Ty}(hU:Yl W0.gh w s F a r p v U):
  s.bad r p=K3/\T=U/\f.live=K4/\ ∃vs S,v=Kx T vs/\TZ w X W0.B T f y vs S/\(∀b∈S,b∈F (.m r)):=by
 simp only[YQ]at hl;split at hl
 ·cases hl
 ·rename_i d;refine⟨d,?_⟩;unfold Yl at hU;have g:=h.slots (.m r);split at hl
  ·rename_i t u x i;rw[i]at hU g;obtain⟨rfl,rfl,hv⟩:=hU;split at hl
   ·rename_i z;simp only[pB,Li]at hl;obtain⟨rfl,hl⟩:=hl;simp only[heq_eq_eq,pF]at hl;obtain⟨rfl,rfl⟩:=hl;obtain⟨vs,l,o⟩:=g
    grind
   ·cases hl
  ·rename_i e t u x i;rw[i]at hU g;obtain⟨b,c,S,C,l,o,A,D,E⟩:=hU;obtain⟨G,I,J,K,q,j,L⟩:=g;rw[l]at q;obtain⟨rfl,rfl⟩:=Lv q;rw[o]at j;simp only[pB,L7]at j;obtain⟨rfl,_⟩:=j;rw[A]at hl;simp only at hl;split at hl
   ·rename_i z;simp only[pB,Li]at hl;obtain⟨rfl,hl⟩:=hl;simp only[heq_eq_eq,pF]at hl;obtain⟨rfl,rfl⟩:=hl
    grind[kJ,Kp]
   ·cases hl
  ·cases hl
def QM(s:St)(x:VH):Option (Lx×Int):=
 match x with
 |.cst (.int k n)=>K1 (k,n)
 |.cst _=>K2
 |x=>match YQ s x with
  |some ⟨.int k,_,n⟩=>K1 (k,n)
  |_=>K2
def iE(h:R n W0 w X F H s a)(ht:tg.ok W0.gh a){k:Lx}{y:Int}(hr:QM s (Gj s tg x)=K1 (k,y)):a.eval x=.int k y:=by
 unfold QM at hr;split at hr
 ·rename_i v hv;simp only[pB,pF]at hr;obtain⟨rfl,rfl⟩:=hr;obtain rfl:=B3 hv;rfl
 ·cases hr
 ·split at hr
  ·rename_i j f l e;simp only[pB,pF]at hr;obtain⟨rfl,rfl⟩:=hr;obtain⟨_,m,S,i,c,_⟩:=mE h ht e;cases f with
   |u b=>unfold TZ at c;rw[i,c.1];rfl
   |p f g=>exact c.elim
   |d=>simp[Fl.live]at*
  ·cases hr
def Ek(s:St)(x:VH):Option ((_:Lb)×(t:Ty)×Bool×List t.den):=
 match YQ s x with
 |some ⟨.slice e t,.u b,l⟩=>K1 ⟨e,t,b,l⟩
 |_=>K2
def Tk(h:R n W0 w X F H s a)(ht:tg.ok W0.gh a){e:Lb}{t:Ty}{b:Bool}{l:List t.den}(hr:Ek s (Gj s tg x)=K1 ⟨e,t,b,l⟩):
  ∃v xs S1 S2,a.eval x=v/\HW w X W0.B b e t.size l.length v xs S1/\dY (rd w X W0.B b t) l xs S2/\ ∀b'∈S1++S2,∃k,b'∈F k:=by
 unfold Ek at hr;split at hr
 ·rename_i m o b' p d;simp only[pB,Li]at hr;obtain⟨rfl,hr⟩:=hr;simp only[heq_eq_eq,Li]at hr;obtain⟨rfl,hr⟩:=hr;simp only[heq_eq_eq,pF]at hr;obtain⟨rfl,rfl⟩:=hr;obtain⟨_,q,S,f,c,g⟩:=mE h ht d;unfold TZ at c;obtain⟨v,xs,S1,S2,rfl,rfl,i,j⟩:=c;exact⟨v,xs,S1,S2,f,i,j,g⟩
 ·cases hr
def l7(τ:nR)(s:St)(tg:Y7)(op:UnOp)(e:Lb)(x:Ld):Option Oe:=
 match op,τ e with
 |.not,K1 .bool=>match de s (Gj s tg x) .bool with
  |some u=>K1 ⟨.val .bool (.u K3) (!u),s,K3,K2⟩
  |none=>K2
 |.neg,K1 (.int k)=>match de s (Gj s tg x) (.int k)with
  |some u=>K1 ⟨.val (.int k) (.u K3) (k.wrap (0-u)),s,K3,K2⟩
  |none=>K2
 |_,_=>K2
theorem CO(h:R n W0 w X F H s a)(ht:tg.ok W0.gh a){op:UnOp}{e:Lb}(ho:o.op=.unOp op e x){r:Oe}(hr:l7 τ s tg op e x=K1 r):dP P τ W0 w X F s a o r:=by
 unfold l7 at hr;split at hr
 ·split at hr
  ·rename_i u b;simp only[pB]at hr;subst hr;have c:=uA h ht b;refine K0 rfl λ_=>⟨_,λd _=>?_,Rh _⟩
   simp_all[execOp,Op.unary]
  ·cases hr
 ·split at hr
  ·rename_i k _ _ u b;simp only[pB]at hr;subst hr;have c:=YF h ht b;refine K0 rfl λ_=>⟨_,λd _=>?_,UO _ _⟩
   simp_all[execOp,Op.unary,Op.intArith]
  ·cases hr
 ·cases hr
def Qb(l:List Int):List UInt8:=l.map λn=>Nr n.toNat
def CS(τ:nR)(s:St)(tg:Y7)(src dst:Lb)(x:Ld):Option Oe:=
 match τ src,τ dst with
 |some (.int k),K1 (.int k2)=>match de s (Gj s tg x) (.int k)with
  |some u=>K1 ⟨.val (.int k2) (.u K3) (k2.wrap u),s,K3,K2⟩
  |none=>K2
 |some (.slice e' (.int .u8)),K1 .str=>match Ek s (Gj s tg x),τ e' with
  |some ⟨_,.int .u8,_,l⟩,K1 (.int .u8)=>K1 ⟨.val .str (.u K3) (Qb l),s,K3,K2⟩
  |_,_=>K2
 |some .str,K1 .str=>match de s (Gj s tg x) .str with
  |some u=>K1 ⟨.val .str (.u K3) u,s,K3,K2⟩
  |none=>K2
 |_,_=>K2
def AN{k:Lx}:∀{l:List Int}{xs:List La}{S:List Nat},dY (rd w X B own (.int k)) l xs S->xs=l.map (M0 k)/\S=[]
 |[],_,_,⟨a,b⟩=>⟨a,b⟩
 |x::l,_,_,⟨c,d,e,f,g,h,a,b⟩=>by
  obtain⟨rfl,rfl⟩:=a;obtain⟨rfl,rfl⟩:=AN b;simp_all
def EY:∀(l:List Int)(r:ByteArray),l.foldl (λr n=>r.push (Nr n.toNat)) r=⟨r.data++(Qb l).toArray⟩
 |[],r=>by simp[Qb]
 |b::l,r=>by
  simp only[Nc];rw[EY l];simp[ByteArray.push,Qb]
def ET(h:R n W0 w X F H s a)(ht:tg.ok W0.gh a)(hτ:τ.ok P){e:Lb}(ho:o.op=.convert e e2 x){r:Oe}(hr:CS τ s tg e e2 x=K1 r):dP P τ W0 w X F s a o r:=by
 unfold CS at hr;split at hr
 ·rename_i k A g i;split at hr
  ·rename_i u q;simp only[pB]at hr;subst hr;have t:=YF h ht q;refine K0 rfl λ_=>⟨_,λf c=>?_,UO _ _⟩
   simp only[execOp,ho,t];simp[convert,run_underlying (hτ _ _ g).int,run_underlying (hτ _ _ i).int,Conv.intToInt]
  ·cases hr
 ·rename_i C g i;split at hr
  ·rename_i I b l p d;simp only[pB]at hr;subst hr;have d:=hτ _ _ d;obtain⟨v,J,K,L,hv,D,A,_⟩:=Tk h ht p;obtain⟨rfl,rfl⟩:=AN A;obtain⟨E,m,rfl,_,_,y⟩:=fY D;refine K0 rfl λ_=>⟨_,λf c=>?_,MV _⟩
   simp only[execOp,ho,hv];rw[Lh,run_convert_bytes_string f e e2 C E _ m (hτ _ _ g).slice.1 d.int (hτ _ _ i).str];rcases y with⟨rfl,z,_⟩|⟨B,rfl,_,y⟩
   ·have:l=[]:=Mt z;subst this;rfl
   ·have p:=run_loadCells_list (P:=P) f B (l.map (M0 .u8)) (λj u G=>(show H6 w f by
     have:=c (by simp_all[EG]);rw[ho]at this;exact this).cell (y j u G))
    simp only[List.length_map]at p;rw[run_bytesToString f B l.length m l p,EY];simp_all
  ·cases hr
 ·rename_i g i;split at hr
  ·rename_i u q;simp only[pB]at hr;subst hr;have t:=RM h ht q;refine K0 rfl λ_=>⟨_,λf c=>?_,MV _⟩
   simp only[execOp,ho,t];simp[convert,run_underlying (hτ _ _ g).str,run_underlying (hτ _ _ i).str]
  ·cases hr
 ·cases hr
def TL(u:List UInt8):(ByteArray.mk ⟨u⟩).size=u.length:=rfl
def Qxr(u v:Int):(ite (v<u) v u)=min u v:=Aa
def Qxo(u v:Int):(ite (u<v) v u)=max u v:=Aa
def wV(τ:nR)(s:St)(tg:Y7)(e:Lb)(x:Ld):Option Oe:=
 match τ e with
 |some .str=>match de s (Gj s tg x) .str with
  |some u=>K1 ⟨.val (.int .i64) (.u K3) (u.length:Int),s,K3,K2⟩
  |none=>K2
 |some (.slice _ _)=>match Ek s (Gj s tg x)with
  |some ⟨_,_,_,l⟩=>K1 ⟨.val (.int .i64) (.u K3) (l.length:Int),s,K3,K2⟩
  |none=>K2
 |_=>K2
def P9(h:R n W0 w X F H s a)(ht:tg.ok W0.gh a)(hτ:τ.ok P){e:Lb}(ho:o.op=.call {callee:=.builtin .len,args:= #[x],argTypes:= #[e]}){r:Oe}(hr:wV τ s tg e x=K1 r):dP P τ W0 w X F s a o r:=by
 unfold wV at hr;split at hr
 ·rename_i c;split at hr
  ·rename_i u d;simp only[pB]at hr;subst hr;have f:=RM h ht d;refine K0 rfl λ_=>⟨_,λg _=>?_,UO _ _⟩
   simp only[execOp,ho];simp[resolve,invoke,builtin,f,M4,run_underlying (hτ _ _ c).str,goInt,TL]
  ·cases hr
 ·rename_i c;split at hr
  ·rename_i m t b l i;simp only[pB]at hr;subst hr;obtain⟨v,p,q,y,hv,j,z,_⟩:=Tk h ht i;obtain⟨A,k,rfl,_,_,B⟩:=fY j;refine K0 rfl λ_=>⟨_,λg _=>?_,UO _ _⟩
   simp only[execOp,ho];simp[resolve,invoke,builtin,hv,M4,run_underlying (hτ _ _ c).slice.1,goInt]
  ·cases hr
 ·cases hr
def PH(s:St)(tg:Y7)(e:Lb)(τ:nR)(x y:Ld)(mx:Bool):Option Oe:=
 match τ e with
 |some (.int k)=>match de s (Gj s tg x) (.int k),de s (Gj s tg y) (.int k)with
  |some u,K1 v=>K1 ⟨.val (.int k) (.u K3) (match mx with|true=>(max u v:Int)|false=>(min u v:Int)),s,K3,K2⟩
  |_,_=>K2
 |_=>K2
def U5(h:R n W0 w X F H s a)(ht:tg.ok W0.gh a){e:Lb}{mx:Bool}(ho:o.op=.call {callee:=.builtin (match mx with|true=>.max|false=>.min),args:= #[x,y],argTypes:= #[e,e2]}){r:Oe}(hr:PH s tg e τ x y mx=K1 r):
  dP P τ W0 w X F s a o r:=by
 unfold PH at hr;split at hr
 ·split at hr
  ·rename_i u v b hv;simp only[pB]at hr;subst hr;have c:=YF h ht b;have e2:=YF h ht hv;refine K0 rfl λ_=>⟨_,λd _=>?_,UO _ _⟩
   simp only[execOp,ho];cases mx
   ·simp_all[resolve,invoke,builtin,Lq.min_,Lq.min2,Qxr]
   simp_all[resolve,invoke,builtin,Lq.max_,Lq.max2,Qxo]
  ·cases hr
 ·cases hr
def Qmh{T:Ty}{e:Lb}(h1:Of P e T=K4)(h2:HJ P e T=K4)(w:Lc){xs:Array La}{pre u:List La}(hx:xs.toList=pre++(u++post))(ho:pre.length=off)(hu:u.length=T.size):
  (part e xs off).run P w=.ok (Kx T u) w:=by
 obtain⟨i,b,c,_⟩:=yy h1;unfold part;simp only[Lh,Qm5 h2 w,Lo];cases ha:T.isAgg
 ·have h1:=Dz ha;rw[h1]at hu;obtain⟨v,rfl⟩:=Mw.1 hu;have:xs[off]? =K1 v:=by
   rw[<-Array.getElem?_toList,hx,<-ho];simp
  have a:Kx T [v]=v:=by cases T<;>simp[Ty.isAgg]at ha<;>rfl
  simp[this,a]
 ·simp only[if_true,Lh,Lr,typeInfo,Lp];have d:xs.extract off (off+T.size)=u.toArray:=by
   grind[Array.toList_extract]
  have a:Kx T u=.agg u.toArray:=by cases T<;>simp[Ty.isAgg]at ha<;>rfl
  simp_all
def BF(τ:nR)(s:St)(tg:Y7)(e:Lb)(x i:Ld):Option Oe:=
 match τ e with
 |some .str=>match de s (Gj s tg x) .str,QM s (Gj s tg i)with
  |some u,K1 (_,j)=>K1 ⟨.val (.int .u8) (.u K3) ((u.getD j.toNat 0).toNat:Int),s,K3,K1 (0<=j/\j<u.length)⟩
  |_,_=>K2
 |some (.arr n t)=>match t.flat,de s (Gj s tg x) (.arr n t),QM s (Gj s tg i)with
  |true,K1 l,K1 (_,j)=>K1 ⟨.val t (.u K3) (l.getD j.toNat (zero t)),s,K3,K1 (0<=j/\j<n)⟩
  |_,_,_=>K2
 |_=>K2
def OR(h:R n W0 w X F H s a)(ht:tg.ok W0.gh a)(hτ:τ.ok P){e:Lb}{i:Ld}(ho:o.op=.index e x i){r:Oe}(hr:BF τ s tg e x i=K1 r):dP P τ W0 w X F s a o r:=by
 unfold BF at hr;split at hr
 ·rename_i m;split at hr
  ·rename_i u k j p q;simp only[pB]at hr;subst hr;have J:=RM h ht p;have v:=iE h ht q;refine K0 rfl λg=>⟨_,λE _=>?_,UO _ _⟩
   have g:0<=j/\j<u.length:=g;have y:j.toNat<u.length:=Aa
   have z:0<=j/\j<(ByteArray.mk ⟨u⟩).size:=by simp_all[ByteArray.size]
   simp only[execOp,ho,J,v,Lh];rw[run_index_string _ _ _ _ _ (hτ _ _ m).str,dif_pos z];simp[List.getD_eq_getElem?_getD,y];rfl
  ·cases hr
 ·rename_i n t K;split at hr
  ·rename_i l k j L M q;simp only[pB]at hr;subst hr;obtain⟨G,m,N⟩:=fa h ht M;have v:=iE h ht q;obtain⟨b,c⟩:=N;have b:l.length=n:=b;obtain⟨_,U,p,I,A⟩:=(hτ _ _ K).arr';obtain⟨V,B,C,_⟩:=yy I;by_cases d:0<=j/\j<n
   ·have D:j.toNat<l.length:=Aa
    obtain⟨pre,f,post,W,Y,Z,O,n2,Q,S,_⟩:=ZJ (λ_ _ _ h=>Jm h) D c;have e4:l.getD j.toNat (zero t)=l[j.toNat]:=Af
    refine K0 rfl λ_=>⟨Kx t f,λE _=>?_,f,rfl,by grind[TZ,kc]⟩
    have hx:a.eval x=.agg G.toArray:=m;simp only[execOp,ho,hx,v,Instr.index,Lh,asIntOf,Lp,Lo,run_underlying p,Lr,typeInfo];simp only[d.1,d.2,and_self,if_true,Lh];simp[B,C,Qmh I A E (xs:=G.toArray) (off:=j.toNat*t.size) (pre:=pre) (u:=f) (post:=post) (by simpa using O) Q (Jm S)]
   ·exact K0 rfl λg=>absurd g d
  ·cases hr
 ·cases hr
theorem Le.add_add'(a:Le)(m j:Nat):(a.add m).add j=a.add (m+j):=by grind[Lm]
def p6(w:Lc){c:Array La}{e:Lb}{fr:Nat×Nat}(h:w.heap[b]? =K1 (.cells c e fr))(o j:Nat):w.cell? ((⟨b,o,K2⟩:Le).add j)=c[o+j]? :=by grind[Lm,Ns]
def r7:∀{p:List Nat}{T:Ty}{x:T.den}{y:TV}{i:Nat},kV T x p=K1 y->kV T x (p++[i])=fld y.1 y.2 i/\(∀U,SE y.1 i=K1 U->ai T (p++[i])=ai T p+nj y.1 i)
 |[],T,x,y,i,h=>by
  grind[kV,ai]
 |j::p,T,x,y,i,h=>by
  simp only[kV]at h;cases hz:fld T x j with
  |none=>simp_all
  |some z=>
   rw[hz]at h;obtain⟨a,b⟩:=r7 (i:=i) h
   grind[kV,ai,Gl]
def Qoa:∀{T:Ty}{x:T.den}{i:Nat}{U:Ty},SE T i=K1 U-> ∃y,fld T x i=K1 ⟨U,y⟩:=by
 intro T
 induction T with
 |pair a b d c=>
  intro x i U h;cases i with
  |zero=>simp only[SE,pB]at h;subst h;exact⟨x.1,rfl⟩
  |succ i=>exact c (x:=x.2) h
 |_=>intro x i U h;cases i<;>cases h
def Uy.fieldAt{e:Lb}{T U:Ty}(h:Uy P e T){i:Nat}(hU:SE T i=K1 U)(ad:Le)(w:Lc):(M5 e (.pointer (K1 ad)) i).run P w=.ok (.pointer (K1 (ad.add (nj T i)))) w:=by
 have a:T.isStruct=true:=by cases T<;>first|rfl|(cases i<;>cases hU)
 obtain⟨k,l,b⟩:=h.struct a;obtain⟨f,m,n,c,o⟩:=Qdn b hU;obtain⟨j,p,d,_⟩:=yy c;have g:¬j.size=0:=Aa
 simp_all[M5,run_underlying,Mi,fieldPlace,Lr,typeInfo]
def FN(τ:nR)(s:St)(tg:Y7)(e:Lb)(x:Ld)(i:Nat):Option Oe:=
 match τ e,Gj s tg x with
 |some T,.tm k (.box _ U _ _)=>match s.get (.m k),Lf (T=U),SE T i with
  |.box _ _ _ _,K4,K1 _=>K1 ⟨.ptr k [i],s,K3,K2⟩
  |_,_,_=>K2
 |some T,.tm _ (.ptr r p)=>match s.get (.m r)with
  |.box _ U _ y=>match kV U y p with
   |some z=>match Lf (T=z.1),SE T i with
    |true,K1 _=>K1 ⟨.ptr r (p++[i]),s,K3,K2⟩
    |_,_=>K2
   |none=>K2
  |_=>K2
 |some T,.tm _ (.shp U y)=>match Lf (T=U),fld U y i with
  |true,K1 z=>K1 ⟨.shp z.1 z.2,s,K3,K2⟩
  |_,_=>K2
 |some T,.tm k (.elp r p j q)=>match YQ s (.tm k (.bor r p))with
  |some ⟨.slice _ t,_,_⟩=>match kV t (zero t) q with
   |some z=>match Lf (T=z.1),SE T i with
    |true,K1 _=>K1 ⟨.elp r p j (q++[i]),s,K3,K2⟩
    |_,_=>K2
   |none=>K2
  |_=>K2
 |_,_=>K2
def Ui(h:R n W0 w X F H s a)(ht:tg.ok W0.gh a)(hτ:τ.ok P){e:Lb}(ho:o.op=.fieldAddr e x i){r:Oe}(hr:FN τ s tg e x i=K1 r):dP P τ W0 w X F s a o r:=by
 unfold FN at hr;have g:∀{A:Le}{T U:Ty},τ e=K1 T->SE T i=K1 U->a.eval x=.pointer (K1 A)-> ∀G,Bp W0.gh τ X s a o w G->(execOp a.eval o).run P G=.ok (.value (.pointer (K1 (A.add (nj T i))))) G:=by
  intro A T U m hU hx G _;simp only[execOp,ho,hx,Lh,(hτ _ _ m).fieldAt hU A G,Lo,Lp]
 split at hr
 ·rename_i T k e' U f y m hx;split at hr
  ·rename_i _ _ _ W U2 f2 y2 V I C J;simp only[pB]at hr;subst hr;have d:T=U:=pE C;subst d;obtain⟨rfl,b,c,S,v,K,L,h4⟩:=Vu h ht hx Ac;have hx:=(yu hx).2.2;simp only[I,jT]at hx;cases hx;refine K0 rfl λ_=>⟨_,g m J v,rfl,_,_,_,_,b,S,I,K,?_⟩
   simp_all[ai,Lm]
  ·cases hr
 ·rename_i T k Y p m hx;split at hr
  ·rename_i W U f y I;split at hr
   ·rename_i z E;split at hr
    ·rename_i V C J;simp only[pB]at hr;subst hr;have d:T=z.1:=pE C;obtain⟨rfl,Z,e3,U3,f3,y3,b,S,v,K,L⟩:=Vu h ht hx Ac;rw[I]at v;cases v;refine K0 rfl λ_=>⟨_,g m J L,rfl,_,_,_,_,b,S,I,K,?_⟩
     rw[(r7 E).2 V Af,d];simp_all[Lm]
    ·cases hr
   ·cases hr
  ·cases hr
 ·rename_i T k U y m hx;split at hr
  ·rename_i z C E;simp only[pB]at hr;subst hr;have d:T=U:=pE C;subst d;obtain⟨rfl,Z,A,vs,v,K,L,h4⟩:=Vu h ht hx Ac;have M:TZ w X W0.B T (.u K3) y vs []:=Ao
   obtain⟨pre,N,ab,S1,S2,S3,m1,m2,m3,m4,_⟩:=Ck E M;refine K0 rfl λ_=>⟨_,g m (Gl E) v,rfl,_,N,rfl,?_,?_,?_⟩
   ·grind[Lm]
   ·intro j u hj;rw[Le.add_add',<-m3]
    grind
   simp_all[jA,TZ]
  ·cases hr
 ·rename_i T k Y p j q m hx;split at hr
  ·rename_i W t f l hl;split at hr
   ·rename_i z E;split at hr
    ·rename_i V C J;simp only[pB]at hr;subst hr;have d:T=z.1:=pE C;obtain⟨rfl,Z,v⟩:=Vu h ht hx Ac;have D:s.bad Y p=false:=by
      grind[YQ]
     obtain⟨e3,t3,A,nn,O,k1,k2,k3,k4⟩:=v D;obtain⟨_,Q,_⟩:=IE h hl k1;cases Q;refine K0 rfl λ_=>⟨_,g m J k4,rfl,λ_=>⟨_,_,A,nn,O,k1,k2,k3,?_⟩⟩
     rw[Le.add_add',(r7 E).2 V Af,d,Nat.add_assoc]
    ·cases hr
   ·cases hr
  ·cases hr
 ·cases hr
def tv{α:Type}{r:α->List La->List Nat->Prop}:∀{l l':List α}{vs vs':List La}{S S':List Nat},dY r l vs S->dY r l' vs' S'->dY r (l++l') (vs++vs') (S++S')
 |[],_,_,_,_,_,⟨a,b⟩,h=>Af
 |x::l,_,_,_,_,_,⟨c,d,e,f,a,b,g,i⟩,h=>⟨c,d++_,e,f++_,by simp[a],by simp[b],g,tv i h⟩
def Uq(s:St)(tg:Y7)(n:Nat)(t:Ty)(x i:Ld):Option Oe:=
 let at' (r:Nat) (p:List Nat):Option Oe:=match s.get (.m r),QM s (Gj s tg i)with
  |.box _ U _ y,K1 (_,j)=>match kV U y p with
   |some ⟨.arr n' t',_⟩=>match Lf (n'=n/\t'=t)with
    |true=>K1 ⟨.aep r p j,s,K3,K1 (0<=j/\j<n)⟩
    |false=>K2
   |_=>K2
  |_,_=>K2
 match Gj s tg x with
 |.tm k (.box _ _ _ _)=>at' k []
 |.tm _ (.ptr r p)=>at' r p
 |_=>K2
def DF(τ:nR)(s:St)(tg:Y7)(e:Lb)(x i:Ld):Option Oe:=
 match τ e,Ek s (Gj s tg x),QM s (Gj s tg i)with
 |some (.slice e' t'),K1 ⟨_,t,b,l⟩,K1 (_,j)=>match τ e',Lf (t'=t),b,Gj s tg x with
  |some t2,K4,K3,_=>match Lf (t2=t)||(Lf (t=.hid t2)&&Ln t2.size 1)with
   |true=>K1 ⟨.shp t (l.getD j.toNat (zero t)),s,K3,K1 (0<=j/\j<l.length)⟩
   |false=>K2
  |some t2,K4,K4,.tm k (.val _ _ _)=>match Lf (t2=t),s.get (.m k)with
   |true,.val _ _ _=>K1 ⟨.elp k [] j [],s,K3,K1 (0<=j/\j<l.length)⟩
   |_,_=>K2
  |some t2,K4,K4,.tm _ (.bor r p)=>match Lf (t2=t)with
   |true=>K1 ⟨.elp r p j [],s,K3,K1 (0<=j/\j<l.length)⟩
   |false=>K2
  |_,_,_,_=>K2
 |_,_,_=>K2
def GM(τ:nR)(s:St)(tg:Y7)(e:Lb)(x i:Ld):Option Oe:=
 match Gj s tg x with
 |.tm k (.bor r p)=>match YQ s (.tm k (.bor r p)),τ e,QM s (Gj s tg i)with
  |some ⟨.slice _ t,.p (.u K4) (.u K3),l⟩,K1 (.slice e' t'),K1 (_,j)=>match τ e',Lf (t'=t)with
   |some t2,K4=>match Lf (t2=t)with
    |true=>K1 ⟨.elp r p j [],s,K3,K1 (0<=j/\j<l.length)⟩
    |false=>K2
   |_,_=>K2
  |_,_,_=>K2
 |_=>K2
def LA(τ:nR)(s:St)(tg:Y7)(e:Lb)(x i:Ld):Option Oe:=
 match τ e with
 |some (.arr n t)=>Uq s tg n t x i
 |_=>match GM τ s tg e x i with
  |some r=>K1 r
  |none=>DF τ s tg e x i
def Ex{e:Lb}{t:Ty}{t2:Ty}(h:Uy P e (.slice e' t))(h':Uy P e' t2)(hsz:t2.size=t.size){cap:Nat}{k:Lx}(h0:0<=j)(h1:j<len)(w:Lc):
  (Mq e (.slice (K1 ad) len cap) (.int k j)).run P w=.ok (.pointer (K1 (ad.add (j.toNat*t.size)))) w:=by
 simp only[Mq,Lh,asIntOf,Lp,Lo,run_underlying h.slice.1];simp[h0,h1,h'.sizeOf w,hsz]
def Zt3(h:R n W0 w X F H s a)(ht:tg.ok W0.gh a){e:Lb}{t:Ty}(hT:Uy P e (.arr m t)){i:Ld}(ho:o.op=.indexAddr e x i){r:Oe}(hr:Uq s tg m t x i=K1 r):dP P τ W0 w X F s a o r:=by
 have q:∀{k p},(∃u U f y b S,s.get (.m k)=.box u U f y/\F (.m k)=b::S/\a.eval x=.pointer (K1 ⟨b,ai U p,K2⟩))->
   (match s.get (.m k),QM s (Gj s tg i)with
    |.box _ U _ y,K1 (_,j)=>match kV U y p with
     |some ⟨.arr z g,_⟩=>match Lf (z=m/\g=t)with
      |true=>K1 (⟨.aep k p j,s,K3,K1 (0<=j/\j<m)⟩:Oe)
      |false=>K2
     |_=>K2
    |_,_=>K2)=K1 r->dP P τ W0 w X F s a o r:=by
  clear hr;intro k p ⟨u,U,f,y,b,S,v,hF,hx⟩ hr;rw[v]at hr;split at hr
  ·rename_i L M;cases L;rename_i ik j;have N:=iE h ht M;split at hr
   ·rename_i z g l O;split at hr
    ·rename_i Q;obtain⟨rfl,rfl⟩:=pE Q;simp only[pB]at hr;subst hr;refine K0 rfl λd=>?_;have d:0<=j/\j<z:=d;refine⟨.pointer (K1 ⟨b,ai U p+j.toNat*g.size,K2⟩),λw' _=>?_,rfl,u,U,f,y,b,S,z,g,l,v,hF,O,d.1,d.2,rfl⟩;obtain⟨_,A,V,W⟩:=hT.arr;obtain⟨i2,Y,Z,_⟩:=yy W;have E:(⟨b,ai U p,K2⟩:Le).add (j.toNat*g.size)=⟨b,ai U p+j.toNat*g.size,K2⟩:=by
      simp_all[Lm]
     simp only[execOp,ho,hx,N,Lh,Mq,asIntOf,Lp,Lo,run_underlying V,Mi];simp_all[Lr,typeInfo]
    ·cases hr
   ·cases hr
  ·cases hr
 unfold Uq at hr;simp only at hr;split at hr
 ·rename_i k u U f y hx;obtain⟨rfl,b,c,S,B,C,G,h4⟩:=Vu h ht hx Ac;refine q (p:=[]) ?_ hr;have D:∃A I J K,s.get (.m k)=.box A I J K:=by
   grind
  obtain⟨A,I,J,K,v⟩:=D;have hx:=(yu hx).2.2;simp only[v,jT]at hx;cases hx;exact⟨u,U,f,y,b,S,v,C,B⟩
 ·rename_i k r' p hx;obtain⟨rfl,h0,e3,U3,f3,y3,b,S,B,C,G⟩:=Vu h ht hx Ac;exact q ⟨e3,U3,f3,y3,b,S,B,C,G⟩ hr
 ·cases hr
theorem Zt2(h:R n W0 w X F H s a)(ht:tg.ok W0.gh a)(hτ:τ.ok P){e:Lb}{i:Ld}(ho:o.op=.indexAddr e x i){r:Oe}(hr:DF τ s tg e x i=K1 r):dP P τ W0 w X F s a o r:=by
 unfold DF at hr;split at hr
 ·rename_i e' t' e2 t b l k j hT g hj;have e3:=iE h ht hj;obtain⟨v,xs,S,S2,hv,V,k2,k3⟩:=Tk h ht g;have m:=fY V;have y:∀{C},τ e'=K1 C->t'=t->C.size=t.size->0<=j/\j<l.length-> ∃d c,a.eval x=.slice (K1 d) l.length c/\(X d.block\/d.block∈S)/\(∀j u,xs[j]? =K1 u->w.cell? (d.add j)=K1 u)/\
    ∀D,Bp W0.gh τ X s a o w D->(execOp a.eval o).run P D=.ok (.value (.pointer (K1 (d.add (j.toNat*t.size))))) D:=by
   intro C z h2 h3 W;subst h2;obtain⟨ar,c,E,_,_,K⟩:=m;rcases K with⟨_,au,_⟩|⟨d,rfl,L,K⟩
   ·omega
   ·refine⟨d,c,hv.trans E,L.resolve_left Aa,K,λD _=>?_⟩;simp only[execOp,ho,hv,E,e3,Lh,Ex (hτ _ _ hT) (hτ _ _ z) h3 W.1 W.2 D,Lo,Lp]
  split at hr
  ·rename_i C z G;split at hr
   ·rename_i hd2;simp only[pB]at hr;subst hr;refine K0 rfl λf=>?_;have f:0<=j/\j<l.length:=f;obtain⟨d,c,Y,M,Z,I⟩:=y z (pE G) (by
     rcases(Bool.or_eq_true _ _).mp hd2 with hd2|hd2
     ·simp_all
     ·simp only[pC,decide_eq_true_eq]at hd2;rw[hd2.1,pD hd2.2];rfl) f
    obtain⟨pre,N,ab,T1,T2,T3,m1,m2,m3,m4,_⟩:=ZJ (λ_ _ _ h=>Jm h) (i:=j.toNat) Aa k2;refine⟨_,I,rfl,_,N,rfl,?_,?_,?_⟩
    ·have:(d.add (j.toNat*t.size)).block=d.block:=by grind[Lm]
     rw[this];refine M.resolve_right ?_;rw[show S=[]from V.1];simp
    ·intro q u hq;rw[Le.add_add',<-m3]
     grind
    grind[nN]
   ·cases hr
  ·rename_i C k' T3 f3 x3 z G hx;split at hr
   ·rename_i T4 O x4 hd2 hg;simp only[pB]at hr;subst hr;refine K0 rfl λf=>?_;have f:0<=j/\j<l.length:=f;obtain⟨d,c,Y,M,Z,I⟩:=y z (pE G) (congrArg Ty.size (pE hd2)) f;obtain⟨rfl,_⟩:=Vu h ht hx Ac;have a0:=hx;have a1:=(yu hx).2.1;have hx:=(yu hx).2.2;simp only[hg,jT]at hx;cases hx;have Q:∃J,T3=.slice J t:=by
     unfold Ek at g;split at g
     ·rename_i J t4 b4 l4 hk;simp only[pB,Li]at g;obtain⟨rfl,g⟩:=g;simp only[heq_eq_eq,Li]at g;obtain⟨rfl,g⟩:=g
      grind[YQ]
     ·cases g
    obtain⟨J,rfl⟩:=Q;refine⟨_,I,rfl,λ_=>⟨J,t,d,l.length,c,?_,f.1,f.2,by simp[ai]⟩⟩;simp_all[Yl,Kz]
   ·cases hr
  ·rename_i C k' r' p z G hx;split at hr
   ·rename_i hd2;simp only[pB]at hr;subst hr;refine K0 rfl λf=>?_;have f:0<=j/\j<l.length:=f;obtain⟨d,c,Y,M,Z,I⟩:=y z (pE G) (congrArg Ty.size (pE hd2)) f;obtain⟨rfl,h0,L⟩:=Vu h ht hx Ac;refine⟨_,I,rfl,λA=>?_⟩;obtain⟨U,hU⟩:=L A;have B:∃O,YQ s (.tm k' (.bor r' p))=K1 ⟨.slice e2 t,O,l⟩:=by
     grind[Ek]
    obtain⟨O,B⟩:=B;obtain⟨_,a2,_⟩:=IE h B hU
    grind[ai]
   ·cases hr
  ·cases hr
 ·cases hr
theorem EP(b:Bool):∀q:List Nat,oo (.u b) q=.u b
 |[]=>rfl
 |i::q=>by
  have:jA (.u b) i=.u b:=by cases i<;>rfl
  rw[oo,this];exact EP b q
def p9(τ:nR)(s:St)(tg:Y7)(e:Lb)(x:Ld):Option Oe:=
 match τ e with
 |none=>K2
 |some T=>
  let fromBox (r:Nat) (p:List Nat):Option Oe:=match s.get (.m r)with
   |.box _ U f y=>match kV U y p with
    |some z=>match(oo f p).live,Lf (z.1=T)with
     |true,K4=>match vf (oo f p) z.1 with
      |true=>K1 ⟨.val z.1 (oo f p) z.2,s,K3,K2⟩
      |false=>K1 ⟨.bor r p,s,K3,K2⟩
     |_,_=>K2
    |none=>K2
   |_=>K2
  match Gj s tg x with
  |.tm k (.box _ _ _ _)=>fromBox k []
  |.tm _ (.ptr r p)=>fromBox r p
  |.tm _ (.shp U y)=>match Lf (U=T)with
   |true=>K1 ⟨.val U (.u K3) y,s,K3,K2⟩
   |false=>K2
  |.tm _ (.aep r p i)=>match s.get (.m r)with
   |.box _ U f y=>match kV U y p with
    |some ⟨.arr _ t,l⟩=>match(oo f p).live,Lf (t=T),t.flat with
     |true,K4,K4=>K1 ⟨.val t (.u K3) (l.getD i.toNat (zero t)),s,K3,K2⟩
     |_,_,_=>K2
    |_=>K2
   |_=>K2
  |.tm k (.elp r p j q)=>match YQ s (.tm k (.bor r p))with
   |some ⟨.slice _ t,.u b,l⟩=>match kV t (l.getD j.toNat (zero t)) q with
    |some z=>match Lf (z.1=T),z.1.flat,b with
     |true,K4,_=>K1 ⟨.val z.1 (.u K3) z.2,s,K3,K2⟩
     |true,K3,K4=>K1 ⟨.bel r p j q,s,K3,K2⟩
     |_,_,_=>K2
    |none=>K2
   |some ⟨.slice _ t,.p (.u K4) (.u K3),l⟩=>match kV t (l.getD j.toNat (zero t)) q with
    |some z=>match Lf (z.1=T)with
     |true=>K1 ⟨.val z.1 (.u K3) z.2,s,K3,K2⟩
     |false=>K2
    |none=>K2
   |_=>K2
  |_=>K2
def AC(h:R n W0 w X F H s a)(ht:tg.ok W0.gh a)(hτ:τ.ok P){e:Lb}(ho:o.op=.load e x){r:Oe}(hr:p9 τ s tg e x=K1 r):dP P τ W0 w X F s a o r:=by
 unfold p9 at hr;split at hr
 ·cases hr
 ·rename_i T hT;have M:∀{N:Le}{vs:List La},a.eval x=.pointer (K1 N)->vs.length=T.size->(∀C,Bp W0.gh τ X s a o w C-> ∀j u,vs[j]? =K1 u->C.cell? (N.add j)=K1 u)-> ∀C,Bp W0.gh τ X s a o w C->(execOp a.eval o).run P C=.ok (.value (Kx T vs)) C:=by
   intro N vs hx hl Y C a6;simp only[execOp,ho,hx,Lh,Instr.loadAt,Mi,Lp,Lo,(hτ _ _ hT).load hl (Y C a6)]
  have G:∀{C},Bp W0.gh τ X s a o w C->match zv s (.load e x)with
    |some (K1 r)=> ∀b,b<w.heap.size->Xj W0.gh a (.m r)=.pointer (K1 ⟨b,0,K2⟩)->C.heap[b]? =w.heap[b]?
    |some K2=> ∀b,b<w.heap.size->X b->C.heap[b]? =w.heap[b]?
    |none=>H6 w C:=λ{C} g=>by
   have:=g (by rw[ho];rfl)
   grind
  have a3:∀{k p},zv s (.load e x)=K1 (K1 k)->(∃e' U f y b S,s.get (.m k)=.box e' U f y/\F (.m k)=b::S/\a.eval x=.pointer (K1 ⟨b,ai U p,K2⟩))->
    (match s.get (.m k)with
     |.box _ U f y=>match kV U y p with
      |some z=>match(oo f p).live,Lf (z.1=T)with
       |true,K4=>match vf (oo f p) z.1 with
        |true=>K1 (⟨.val z.1 (oo f p) z.2,s,K3,K2⟩:Oe)
        |false=>K1 ⟨.bor k p,s,K3,K2⟩
       |_,_=>K2
      |none=>K2
     |_=>K2)=K1 r->dP P τ W0 w X F s a o r:=by
   intro k p HW ⟨e',U,f,y,b,S,hg,hF,hx⟩ hr;rw[hg]at hr;simp only at hr;have hs:=h.slots (.m k);rw[hg]at hs;obtain⟨b',c,S',l1,l2,l3,l4⟩:=hs;rw[hF]at l2;obtain⟨rfl,rfl⟩:=Lv l2;split at hr
   ·rename_i z O;obtain⟨pre,D,L,S1,S2,S3,Z,m2,m3,m4,_⟩:=kJ O l4;split at hr
    ·rename_i Q g;have E:z.1=T:=pE g;have I:∀j u,D[j]? =K1 u->w.cell? ((⟨b,ai U p,K2⟩:Le).add j)=K1 u:=by
      intro j u hj;rw[p6 w l3,<-Array.getElem?_toList,Z,<-m3,Lu Aa,show pre.length+j-pre.length=j from by omega,Lt (Mb.1 hj).1];exact hj
     have ab:=M hx (by rw[Kp m4,E]) (λC g j u hj=>by
      have g:=G g;rw[HW]at g;rw[L2 (w:=w) (by
       have hb:((⟨b,ai U p,K2⟩:Le).add j).block=b:=by unfold Lm;split<;>rfl
       grind)]
      grind)
     split at hr
     ·rename_i hn;simp only[pB]at hr;subst hr;have:=mc hn m4;subst this;exact K0 rfl λ_=>⟨_,ab,D,by rw[E],m4⟩
     ·simp only[pB]at hr;subst hr;refine K0 rfl λ_=>⟨_,ab,rfl,λ_=>⟨z.1,?_⟩⟩
      unfold Yl;rw[hg];exact⟨b,c,S,z,hF,l3,O,rfl,Ay⟩
    ·cases hr
   ·cases hr
  simp only at hr;split at hr
  ·rename_i k e' U f y hx;obtain⟨rfl,b,c,S,V,h2,h3,h4⟩:=Vu h ht hx Ac;refine a3 (p:=[]) (tn hx Ac) ?_ hr;cases hg:s.get (.m k)<;>rw[hg]at hr<;>simp only at hr<;>first|cases hr|skip
   have hx:=(yu hx).2.2;simp only[hg,jT]at hx;cases hx;exact⟨e',U,f,y,b,S,rfl,h2,V⟩
  ·rename_i k r' p hx;obtain⟨rfl,h0,e3,U3,f3,y3,b,S,V,h2,h3⟩:=Vu h ht hx Ac;exact a3 (tn hx Ac) ⟨e3,U3,f3,y3,b,S,V,h2,h3⟩ hr
  ·rename_i k U y hx;obtain⟨rfl,h0,N,vs,V,h2,h3,h4⟩:=Vu h ht hx Ac;split at hr
   ·rename_i g;simp only[pB]at hr;subst hr;have hU:U=T:=pE g;subst hU;refine K0 rfl λ_=>⟨_,M V (Jm h4) (λC g j u hj=>?_),vs,rfl,Au⟩
    have g:=G g;have HW:zv s (.load e (.tmp k))=K1 none:=tn hx Ac;rw[HW]at g;rw[L2 (w:=w) (by
     have hb:(N.add j).block=N.block:=by grind[Lm]
     rw[hb];exact g _ (h.xlt _ h2) h2)]
    exact h3 j u hj
   ·cases hr
  ·rename_i k r' p i hx;obtain⟨rfl,h0,e3,U3,f3,y3,b,S,nn,t3,z3,V,h2,h3,h4,h5,h6⟩:=Vu h ht hx Ac;rw[V]at hr;simp only[h3]at hr;split at hr
   ·rename_i Q g a4;simp only[pB]at hr;subst hr;have E:t3=T:=pE g;subst E;have hs:=h.slots (.m r');rw[V]at hs;obtain⟨b',c,S',l1,l2,l3,l4⟩:=hs;rw[h2]at l2;obtain⟨rfl,rfl⟩:=Lv l2;obtain⟨pre,D,L,S1,S2,S3,Z,m2,m3,m4,_⟩:=kJ h3 l4;have m5:=Vn (X':=λb=>X b\/b∈S2) (λ_ h=>.inl h) Q m4 (λ_ h=>.inr h);obtain⟨ar,au⟩:=m5;have ar:z3.length=nn:=ar;have a7:i.toNat<z3.length:=Aa
    obtain⟨d,A,J,T1,T2,T3,n1,n2,n3,n4,_⟩:=ZJ (λ_ _ _ h=>Jm h) a7 au;have e4:z3.getD i.toNat (zero t3)=z3[i.toNat]:=Ai
    have I:∀j u,A[j]? =K1 u->w.cell? ((⟨b,ai U3 p+i.toNat*t3.size,K2⟩:Le).add j)=K1 u:=by
     intro j u hj;have bl:=(Mb.1 hj).1;rw[p6 w l3,<-Array.getElem?_toList,Z,n1,<-m3,<-n3];rw[Lu Aa,Lt Ae,Lu Aa,Lt Aa]
     grind
    refine K0 rfl λ_=>⟨_,M h6 (Jm n4) (λC g j u hj=>?_),A,rfl,?_⟩
    ·have g:=G g;rw[tn hx Ac]at g;rw[L2 (w:=w) (by
      have hb:((⟨b,ai U3 p+i.toNat*t3.size,K2⟩:Le).add j).block=b:=by grind[Lm]
      rw[hb];exact g b (Array.getElem?_eq_some_iff.1 l3).1 l1)]
     grind
    grind[TZ,kc]
   ·cases hr
  ·rename_i k r' p j q hx;obtain⟨rfl,h0,V⟩:=Vu h ht hx Ac;split at hr
   ·rename_i e2 t b l hl;have K:s.bad r' p=false:=by
     grind[YQ]
    obtain⟨e3,t3,N,nn,a1,k1,k2,k3,k4⟩:=V K;obtain⟨_,a2,_,vs,S,g1,g2,g3⟩:=IE h hl k1;cases a2;unfold TZ at g2;obtain⟨v,xs,S1,S2,rfl,rfl,q1,q2⟩:=g2;have g1:M1 (K1 N) nn a1=v:=g1;subst g1;obtain⟨a0,a5,hv,a8,_,Y⟩:=fY q1;simp only[Mo]at hv;obtain⟨rfl,rfl,rfl⟩:=hv;rcases Y with⟨e0,_⟩|⟨be,e0,_,Y⟩
    ·cases e0
    ·simp only[pB]at e0;subst e0;split at hr
     ·rename_i z O;split at hr
      ·rename_i g a4 _;simp only[pB]at hr;subst hr;have E:z.1=T:=pE g;obtain⟨pre,D,L,T1,T2,T3,Z,m2,m3,m4,_⟩:=ZJ (λ_ _ _ h=>Jm h) (i:=j.toNat) Aa q2;have e4:l.getD j.toNat (zero t)=l[j.toNat]' Aa:=Ai
       rw[e4]at O;have mk:∀{own:Bool},rd w X W0.B own t l[j.toNat] D T2->TZ w X W0.B t (.u own) l[j.toNat] D T2:=λh=>Au
       have W:=mk m4;obtain⟨d,A,J,U1,U2,U3,n1,n2,n3,n4,_⟩:=kJ O W;refine K0 rfl λ_=>⟨_,M k4 (vs:=A) Ay ?_,A,by rw[E],?_⟩
       ·intro C g i u hi;have g:=G g;rw[tn hx Ac]at g;refine H6.cell (show H6 w C from g) ?_;rw[Le.add_add',<-m3,<-n3];apply Y;have hm:=(Mb.1 hi).1;rw[Z,Lu Aa,show pre.length+d.length+i-pre.length=d.length+i from by omega,
         Lt Ai,n1,Lu Aa,show d.length+i-d.length=i from by omega,Lt hm]
        exact hi
       grind[EP,TZ,kc]
      ·rename_i g a4 _;simp only[pB]at hr;subst hr;have E:z.1=T:=pE g;have bk:=O;obtain⟨pre,D,L,T1,T2,T3,Z,m2,m3,m4,_⟩:=ZJ (λ_ _ _ h=>Jm h) (i:=j.toNat) Aa q2;have e4:l.getD j.toNat (zero t)=l[j.toNat]' Aa:=Ai
       rw[e4]at O;have W:TZ w X W0.B t (.u K4) l[j.toNat] D T2:=Au
       obtain⟨d,A,J,U1,U2,U3,n1,n2,n3,n4,_⟩:=kJ O W;have I:∀(i:Nat) u,A[i]? =K1 u->w.cell? (N.add (j.toNat*t.size+ai t q+i))=K1 u:=λi u hi=>by
        rw[<-m3,<-n3];apply Y;have hm:=(Mb.1 hi).1;rw[Z,Lu Aa,show pre.length+d.length+i-pre.length=d.length+i from by omega,
         Lt Ai,n1,Lu Aa,show d.length+i-d.length=i from by omega,Lt hm]
        exact hi
       refine K0 rfl λ_=>⟨_,M k4 (vs:=A) Ay ?_,rfl,λ_ _=>⟨_,t,N,_,_,_,z,A,k1,k2,k3,g3 _ ?_,bk,by rw[E],Kp n4,I⟩⟩
       ·intro C g i u hi;have g:=G g;rw[tn hx Ac]at g;refine H6.cell (show H6 w C from g) ?_
        grind[Le.add_add']
       ·rw[q1.2];simp[L9]
      ·cases hr
     ·cases hr
   ·rename_i e2 t l hl;have K:s.bad r' p=false:=by
     grind[YQ]
    obtain⟨e3,t3,N,nn,a1,k1,k2,k3,k4⟩:=V K;obtain⟨_,a2,_,vs,S,g1,g2,g3⟩:=IE h hl k1;cases a2;obtain⟨v,xs,rfl,q1,q2⟩:=g2;have g1:M1 (K1 N) nn a1=v:=g1;subst g1;obtain⟨a0,a5,hv,a8,_,Y⟩:=fY q1;simp only[Mo]at hv;obtain⟨rfl,rfl,rfl⟩:=hv;rcases Y with⟨e0,_⟩|⟨be,e0,_,Y⟩
    ·cases e0
    ·simp only[pB]at e0;subst e0;split at hr
     ·rename_i z O;split at hr
      ·rename_i g;simp only[pB]at hr;subst hr;have E:z.1=T:=pE g;obtain⟨pre,D,L,T1,T2,T3,Z,m2,m3,m4,_⟩:=ZJ (λ_ _ _ h=>Jm h) (i:=j.toNat) Aa q2;have e4:l.getD j.toNat (zero t)=l[j.toNat]' Aa:=Ai
       rw[e4]at O;have W:TZ w X W0.B t (.u K3) l[j.toNat] D T2:=Au
       obtain⟨d,A,J,U1,U2,U3,n1,n2,n3,n4,_⟩:=kJ O W;refine K0 rfl λ_=>⟨_,M k4 (vs:=A) Ay ?_,A,by rw[E],?_⟩
       ·intro C g i u hi;have g:=G g;rw[tn hx Ac]at g;refine H6.cell (show H6 w C from g) ?_;rw[Le.add_add',<-m3,<-n3];apply Y;have hm:=(Mb.1 hi).1;rw[Z,Lu Aa,show pre.length+d.length+i-pre.length=d.length+i from by omega,
         Lt Ai,n1,Lu Aa,show d.length+i-d.length=i from by omega,Lt hm]
        exact hi
       ·rw[EP]at n4;have:=mc (f:=.u K3) rfl n4
        grind
      ·cases hr
     ·cases hr
   ·cases hr
  ·cases hr
theorem Zwx(h:R n W0 w X F H s a)(ht:tg.ok W0.gh a)(hτ:τ.ok P){e:Lb}{i:Ld}(ho:o.op=.indexAddr e x i){r:Oe}(hr:GM τ s tg e x i=K1 r):dP P τ W0 w X F s a o r:=by
 unfold GM at hr;split at hr
 ·rename_i k B p hx;split at hr
  ·rename_i C t l V W Y j D E G;have I:=iE h ht G;split at hr
   ·rename_i u J g;split at hr
    ·rename_i b;simp only[pB]at hr;subst hr;have g:=pE g;have b:=pE b;subst g b;refine K0 rfl λd=>?_;have d:0<=j/\j<l.length:=d;obtain⟨rfl,Z,y⟩:=Vu h ht hx Ac;have c:s.bad B p=false:=by
      grind[YQ]
     obtain⟨U,K⟩:=y c;obtain⟨_,m,_,vs,S,q,L,g3⟩:=IE h D K;subst m;obtain⟨v,xs,rfl,M,q2⟩:=L;have q:a.eval (.tmp k)=v:=q;obtain⟨a0,f,hv,N,_,z⟩:=fY M;rcases z with⟨_,O,_⟩|⟨A,rfl,y,z⟩
     ·omega
     ·refine⟨.pointer (K1 (A.add (j.toNat*u.size))),λQ _=>?_,rfl,λ_=>⟨C,u,A,l.length,f,?_,d.1,d.2,by simp[ai]⟩⟩
      ·simp only[execOp,ho,q,hv,I,Lh,Ex (hτ _ _ E) (hτ _ _ J) rfl d.1 d.2 Q,Lo,Lp]
      grind
    ·cases hr
   ·cases hr
  ·cases hr
 ·cases hr
def FP(h:R n W0 w X F H s a)(ht:tg.ok W0.gh a)(hτ:τ.ok P){e:Lb}{i:Ld}(ho:o.op=.indexAddr e x i){r:Oe}(hr:LA τ s tg e x i=K1 r):dP P τ W0 w X F s a o r:=by
 unfold LA at hr;split at hr
 ·rename_i n t b;exact Zt3 h ht (hτ _ _ b) ho hr
 grind[Zwx,Zt2]
def Ft(s:St)(o:VH):Option ((T:Ty)×T.den×St):=
 match YQ s o with
 |some ⟨T,f,x⟩=>match vf f T with
  |true=>K1 ⟨T,x,s⟩
  |false=>match o with
   |.tm k (.val _ _ _)=>match s.get (.m k)with
    |.val U _ y=>K1 ⟨T,x,ch s k (.val U (.u K3) y)⟩
    |_=>K2
   |.tm _ (.bor r [])=>match s.get (.m r)with
    |.val U _ y=>K1 ⟨T,x,ch s r (.val U (.u K3) y)⟩
    |_=>K2
   |_=>K2
 |none=>K2
def RN(s:St)(o:VH):Bool:=match YQ s o with
 |some ⟨T,f,_⟩=>vf f T
 |none=>K3
def Qdr{s s':St}{o:VH}{T:Ty}{y:T.den}(hk:Ft s o=K1 ⟨T,y,s'⟩)(h:RN s o=K4):s'=s:=by
 unfold Ft at hk;unfold RN at h
 grind
def R.freezeM(hs:g.soft=K3)(h:R n W0 w X F H s a){k:Nat}{T:Ty}{f:Fl}{x:T.den}(hg:s.get (.m k)=.val T f x)(hf:f.live=K4):
  R n W0 w (λb=>X b\/b∈F (.m k)) (Xp F (.m k) []) H (ch s k (.val T (.u K3) x)) a/\ ∃vs,Xj W0.gh a (.m k)=Kx T vs/\rd w (λb=>X b\/b∈F (.m k)) W0.B K3 T x vs []:=by
 have hs:=h.slots (.m k);rw[hg]at hs;obtain⟨vs,Z,h2⟩:=hs;have ab:rd w (λb=>X b\/b∈F (.m k)) W0.B K3 T x vs []:=Vn (λ_ h=>.inl h) hf h2 (λ_ h=>.inr h);have V:=R.give hs (h.takeM hg);have e1:Xp (Xp F (.m k) []) (.m k) []=Xp F (.m k) []:=Ai
 have N:=V.turn (r:=k) (t:=.val T (.u K3) x) (S':=[]) (H':=H) V.below (Lz _) (λ_ _=>rfl) (λ_ _ _ _=>rfl) (by simp[Xp]) (by simpa using h.pK)
  (by rw[Vp];simp) (λe T f x b S hb=>Ai) ⟨vs,Z,Ao⟩
 rw[e1]at N;have h5:R n W0 w (λb=>X b\/b∈F (.m k)) (Xp F (.m k) []) H (ch s k (.val T (.u K3) x)) a:=
  {N with
   pM:=λd i A=>by
    obtain⟨o,C⟩:=N.pM d i As;simp_all[Vp]
   slots:=λj=>by
    have c:=N.slots j;have e2:(ch (ch s k .pR) k (.val T (.u K3) x)).get j=(ch s k (.val T (.u K3) x)).get j:=As
    rw[e2]at c;have L:∀r,(ch s k (.val T (.u K3) x)).pN r=K3->(ch (ch s k .pR) k (.val T (.u K3) x)).pN r=false:=λr A=>by
     simp_all[ch,St.pN]
    generalize (ch s k (.val T (.u K3) x)).get j=u at c
    induction u with
    |bor r p=>
     refine⟨c.1,λA=>?_⟩;obtain⟨U,W⟩:=c.2 (TF L A);refine⟨U,?_⟩
     grind[Yl,Vp]
    |elp r p i q=>
     refine⟨c.1,λA=>?_⟩;obtain⟨e,t,O,M,E,W,z⟩:=c.2 (TF L A);refine⟨e,t,O,M,E,?_,z⟩
     grind[Yl,Vp]
    |bel r p i q=>
     refine⟨c.1,λA he=>?_⟩;obtain⟨e,t,O,M,E,x0,y,cs,W,z⟩:=c.2 (TF L A) (L _ he);refine⟨e,t,O,M,E,x0,y,cs,?_,z⟩
     grind[Yl,Vp]
    |cl f l=>
     refine⟨c.1,E7 (λr p v P=>?_) c.2⟩;obtain⟨e,G,I,J,b,S',o,C,D⟩:=P;have K:(ch (ch s k .pR) k (.val T (.u K3) x)).get (.m r)=(ch s k (.val T (.u K3) x)).get (.m r):=As
     rw[K]at o;exact⟨e,G,I,J,b,S',o,C,D⟩
    |ptr r p=>
     obtain⟨Q,e,G,I,J,b,S',o,C,D⟩:=c;have K:(ch (ch s k .pR) k (.val T (.u K3) x)).get (.m r)=(ch s k (.val T (.u K3) x)).get (.m r):=As
     rw[K]at o;exact⟨Q,e,G,I,J,b,S',o,C,D⟩
    |aep r p i=>
     obtain⟨Q,e,G,I,J,b,S',M,t2,y2,o,C,D⟩:=c;have K:(ch (ch s k .pR) k (.val T (.u K3) x)).get (.m r)=(ch s k (.val T (.u K3) x)).get (.m r):=As
     rw[K]at o;exact⟨Q,e,G,I,J,b,S',M,t2,y2,o,C,D⟩
    |pls hh l=>
     refine⟨c.1,WH (λ_ h=>h) (λ_ _=>rfl) (λr p v P=>?_) c.2⟩;obtain⟨e,G,I,J,b,S',o,C,D⟩:=P;have K:(ch (ch s k .pR) k (.val T (.u K3) x)).get (.m r)=(ch s k (.val T (.u K3) x)).get (.m r):=As
     rw[K]at o;exact⟨e,G,I,J,b,S',o,C,D⟩
    |gd g Y t ih=>
     intro A;obtain⟨o,C,D⟩:=c (L _ A)
     grind[Vp]
    |pR=>exact c
    |tup=>exact c
    |val T f x=>exact c
    |box e T f x=>exact c
    |shp T x=>exact c}
 grind
def Qa2(hs:g.soft=K3)(h:R n W0 w X F H s a)(ht:tg.ok W0.gh a){T:Ty}{y:T.den}{s':St}(hk:Ft s (Gj s tg x)=K1 ⟨T,y,s'⟩):
  ∃X' F' vs,(∀b,X b->X' b)/\a.eval x=Kx T vs/\rd w X' W0.B K3 T y vs []/\R n W0 w X' F' H s' a:=by
 unfold Ft at hk;split at hk
 ·rename_i E f G c;obtain⟨j,vs,S,p,o,I⟩:=mE h ht c;split at hk
  ·rename_i q;simp only[pB,Li]at hk;obtain⟨rfl,hk⟩:=hk;simp only[heq_eq_eq,pF]at hk;obtain⟨rfl,rfl⟩:=hk;have:=mc q o;subst this;exact⟨X,F,vs,λ_ h=>h,p,Vn (λ_ h=>h) j o Ac,h⟩
  ·generalize d:Gj s tg x=o1 at hk c;split at hk
   ·rename_i k J K L;split at hk
    ·rename_i U t u i;simp only[pB,Li]at hk;obtain⟨rfl,hk⟩:=hk;simp only[heq_eq_eq,pF]at hk;obtain⟨rfl,rfl⟩:=hk;obtain⟨rfl,_⟩:=Vu h ht d Ac;have v:=(yu d).2.1;have d:=(yu d).2.2;simp only[i,jT]at d;cases d;simp only[YQ]at c;split at c
     ·simp only[pB,Li]at c;obtain⟨rfl,c⟩:=c;simp only[heq_eq_eq,pF]at c;obtain⟨rfl,rfl⟩:=c;obtain⟨z,l,A,C⟩:=R.freezeM hs h i j
      grind[Kz]
     ·cases c
    ·cases hk
   ·rename_i k r;obtain⟨_,M,D⟩:=Vu h ht d Ac;split at hk
    ·rename_i U t u i;simp only[pB,Li]at hk;obtain⟨rfl,hk⟩:=hk;simp only[heq_eq_eq,pF]at hk;obtain⟨rfl,rfl⟩:=hk;simp only[YQ,i]at c;split at c
     ·cases c
     ·rename_i e;obtain⟨N,m⟩:=D e;unfold Yl at m;rw[i]at m;obtain⟨_,_,hv⟩:=m;split at c
      ·simp only[pB,Li]at c;obtain⟨rfl,c⟩:=c;simp only[heq_eq_eq,pF]at c;obtain⟨rfl,rfl⟩:=c;obtain⟨z,l,A,C⟩:=R.freezeM hs h i j
       grind
      ·cases c
    ·cases hk
   ·cases hk
 ·cases hk
def Qnb(u:List UInt8)(i j:Nat):(ByteArray.mk ⟨u⟩).extract i j=⟨⟨(u.drop i).take (j-i)⟩⟩:=by apply ByteArray.ext;simp_all
def Cj(s:St)(tg:Y7)(x:Option Ld)(d:Int):Option Int:=
 match x with
 |none=>K1 d
 |some x=>match QM s (Gj s tg x)with
  |some (_,j)=>K1 j
  |none=>K2
def Es(τ:nR)(s:St)(tg:Y7)(e:Lb)(x:Ld)(lo hi:Option Ld):Option Oe:=
 match τ e with
 |some .str=>match de s (Gj s tg x) .str with
  |some u=>match Cj s tg lo 0,Cj s tg hi (u.length:Int)with
   |some i,K1 j=>K1 ⟨.val .str (.u K3) ((u.drop i.toNat).take (j.toNat-i.toNat)),s,K3,K1 (0<=i/\i<=j/\j<=u.length)⟩
   |_,_=>K2
  |none=>K2
 |some (.slice e' t')=>match Ft s (Gj s tg x)with
  |some ⟨.slice e2 t,l,s'⟩=>match Cj s tg lo 0,Cj s tg hi (l.length:Int),Lf (t'=t),τ e' with
   |some i,K1 j,K4,K1 t2=>match Lf (t2=t)with
    |true=>K1 ⟨.val (.slice e2 t) (.u K3) ((l.drop i.toNat).take (j.toNat-i.toNat)),s',!RN s (Gj s tg x),K1 (0<=i/\i<=j/\j<=l.length)⟩
    |false=>K2
   |_,_,_,_=>K2
  |_=>K2
 |_=>K2
def WO(h:R n W0 w X F H s a)(ht:tg.ok W0.gh a){x:Option Ld}{d:Int}(hb:Cj s tg x d=K1 j):(x=K2/\j=d)\/ ∃y k,x=K1 y/\a.eval y=.int k j:=by
 unfold Cj at hb;split at hb
 ·simp_all
 ·rename_i y;split at hb
  ·rename_i k i hk;simp only[pB]at hb;subst hb;exact .inr ⟨y,k,rfl,iE h ht hk⟩
  ·cases hb
def p0(isS:Bool){cap:Nat}(hlc:len<=cap){lo hi:Option La}{i:Int}(h0:0<=i)(h1:i<=j)(h2:j<=len)
  (hl:(lo=K2/\i=0)\/ ∃k,lo=K1 (.int k i)) (hh:(hi=K2/\j=len)\/ ∃k,hi=K1 (.int k j)) (w:Lc):
  (Mh isS len cap lo hi K2).run P w=.ok (i.toNat,j.toNat,cap) w:=by
 rcases hl with⟨rfl,rfl⟩|⟨b,rfl⟩<;>rcases hh with⟨rfl,rfl⟩|⟨c,rfl⟩
 ·rfl
 ·have:j<=(cap:Int):=Aa
  simp_all[Mh,Mr,asIntOf]
 ·simp_all[Mh,Mr,asIntOf]
 ·have:j<=(cap:Int):=Aa
  have a:0<=j:=Aa
  simp[Mh,Mr,asIntOf,a,this,h0];intro hh;omega
def Qhs{α:Type}{r:α->List La->List Nat->Prop}(hr:∀x v S,r x v S->v.length=sz/\S=[]){l:List α}{j:Nat}(hij:i<=j)(hj:j<=l.length)
  (h:dY r l vs S):∃pre mid post,vs=pre++(mid++post)/\pre.length=i*sz/\dY r ((l.drop i).take (j-i)) mid []/\mid.length=(j-i)*sz:=by
 have split:∀{b c:List α}{vs:List La}{S:List Nat},dY r (b++c) vs S-> ∃a d,vs=a++d/\dY r b a []/\dY r c d []:=by
  intro b
  induction b with
  |nil=>
   intro c vs S h;have:S=[]:=(sb (r':=λ_ _ _=>True) (λx v S h=>⟨(hr x v S h).2,trivial⟩) h).1;subst this;exact⟨[],vs,rfl,⟨rfl,rfl⟩,h⟩
  |cons x b o=>
   intro c vs S ⟨a,d,S1,S2,e1,e2,h1,k⟩;obtain⟨u1,u2,rfl,f,g⟩:=o k;have:=(hr _ _ _ h1).2;subst this;exact⟨a++u1,u2,by simp[e1],⟨a,u1,[],[],rfl,rfl,h1,f⟩,g⟩
 have e:l=l.take i++((l.drop i).take (j-i)++l.drop j):=by
  have k:l.drop j=(l.drop i).drop (j-i):=Af
  grind[Nk]
 rw[e]at h;obtain⟨a,d,rfl,f,g⟩:=split h;obtain⟨p,q,rfl,m,s⟩:=split g;refine⟨a,p,q,rfl,?_,m,?_⟩
 ·rw[JR (n:=sz) (λx v S h=>(hr x v S h).1) f,Nf,Nm Aa]
 ·rw[JR (n:=sz) (λx v S h=>(hr x v S h).1) m,Nf,List.length_drop,Nm Aa]
def Z6e(hs:g.soft=K3)(h:R n W0 w X F H s a)(ht:tg.ok W0.gh a)(hτ:τ.ok P){e:Lb}{lo hi:Option Ld}(ho:o.op=.slice e x lo hi K2){r:Oe}(hr:Es τ s tg e x lo hi=K1 r):YU P n W0 w X H s a o r:=by
 unfold Es at hr;split at hr
 ·rename_i A;split at hr
  ·rename_i u hu;split at hr
   ·rename_i i j f m;simp only[pB]at hr;subst hr;have e1:=RM h ht hu;refine XS h rfl λB=>⟨_,?_,MV _⟩
    obtain⟨C,D,E⟩:0<=i/\i<=j/\j<=u.length:=B;have G:=p0 (P:=P) K3 (len:=u.length) (cap:=u.length) (Lz _) (lo:=lo.map a.eval) (hi:=hi.map a.eval) C D E
     ((WO h ht f).imp (λ⟨b,c⟩=>⟨by simp[b],c⟩) λ⟨y,k,b,c⟩=>⟨k,by simp[b,c]⟩)
     ((WO h ht m).imp (λ⟨b,c⟩=>⟨by simp[b],c⟩) λ⟨y,k,b,c⟩=>⟨k,by simp[b,c]⟩) w
    simp only[execOp,ho,e1,Lh,M6,run_underlying (hτ _ _ A).str,Lo,Instr.slice,Np,TL,Lp];simp[G,Qnb]
   ·cases hr
  ·cases hr
 ·rename_i e' t' A;split at hr
  ·rename_i e2 t l s' W;split at hr
   ·rename_i i j z f m hd I;split at hr
    ·rename_i J;simp only[pB]at hr;subst hr;have L:t'=t:=pE hd;have M:z=t:=pE J;subst L;subst M;obtain⟨X',F',vs,hX,b,c,h3⟩:=Qa2 hs h ht W;obtain⟨v,xs,S1,S2,rfl,hS,k1,k2⟩:=c;intro B K Q hK;obtain⟨C,D,E⟩:0<=i/\i<=j/\j<=l.length:=B;obtain⟨ar,Y,N,cap,rfl,O,au,Z⟩:=k1;have G:=p0 (P:=P) K4 (len:=l.length) (cap:=cap) O (lo:=lo.map a.eval) (hi:=hi.map a.eval) C D E
      ((WO h ht f).imp (λ⟨b,c⟩=>⟨by simp[b],c⟩) λ⟨y,k,b,c⟩=>⟨k,by simp[b,c]⟩)
      ((WO h ht m).imp (λ⟨b,c⟩=>⟨by simp[b],c⟩) λ⟨y,k,b,c⟩=>⟨k,by simp[b,c]⟩) w
     have hx:a.eval x=.slice N l.length cap:=b;have p:(execOp a.eval o).run P w=.ok (.value (.slice (ite (cap=i.toNat) N (N.map (·.add (i.toNat*z.size)))) (j.toNat-i.toNat) (cap-i.toNat))) w:=by
      simp only[execOp,ho,hx,Lh,M6,run_underlying (hτ _ _ A).slice.1,Lo,Instr.slice,Np,G,(hτ _ _ I).sizeOf w,Lp]
     unfold Ls;rw[p];refine hK _ X' F' [] w hX h3 ⟨[_],rfl,?_⟩ (λhm=>Qdr W (by simpa using hm)) ⟨λ_=>H6.refl w,h.kept (H6.refl w)⟩;unfold TZ;obtain⟨pre,U,ab,m1,m2,m3,m4⟩:=Qhs (sz:=z.size) (i:=i.toNat) (j:=j.toNat) (λx v S h=>⟨Jm h,nN h⟩) Aa Aa k2;have d:((l.drop i.toNat).take (j.toNat-i.toNat)).length=j.toNat-i.toNat:=Ae
     refine⟨_,U,[],[],rfl,rfl,⟨rfl,by rw[m4,d],_,_,by rw[d],by rw[d];omega,Aa,?_⟩,m3⟩;rcases Z with⟨rfl,a1,rfl⟩|⟨ad,rfl,a2,Z⟩
     ·grind
     ·by_cases V:cap=i.toNat
      ·grind
      ·refine .inr ⟨ad.add (i.toNat*z.size),by simp[V],?_,λq u hq=>?_⟩
       ·grind[Lm]
       ·rw[Le.add_add',<-m2]
        grind
    ·cases hr
   ·cases hr
  ·cases hr
 ·cases hr
variable {H':List Nat}
def R.sub(h:R n W0 w X F H s a)(hin:∀b∈H',b∈H)(hn:H'.Nodup):R n W0 w X F H' s a:=
 {h with
  hown:=λb c=>h.hown b (hin b c)
  pK:=hn
  pL:=λk b c d=>h.pL k b c (hin b d)}
def hold(w:Lc)(ob:Obj)(b:Nat)(h:b<w.heap.size):(w.alloc ob).heap[b]? =w.heap[b]? :=by
 show(w.heap.push ob)[b]? =w.heap[b]?
 grind
theorem RY(w:Lc)(ob:Obj):(w.alloc ob).heap[w.heap.size]? =K1 ob:=by show(w.heap.push ob)[w.heap.size]? =_;simp
def R.alloc(h:R n W0 w X F H s a)(ob:Obj):R n W0 (w.alloc ob) X F (w.heap.size::H) s a:=by
 have d:∀b,b<w.heap.size->(w.alloc ob).heap[b]? =w.heap[b]? :=λb c=>hold w ob b c;have f:=h.world (w':=w.alloc ob) (h.below.step ((Below.refl _ w).alloc (Lz _) ob)) Ac (λb c=>d b (h.xlt b c)) (λk b c=>d b (h.own k b c).2.1);exact f.hand (S:=[w.heap.size]) (by
   intro b c;simp only[Mx]at c;subst c;exact⟨h.below.new,Ac,λhx=>My _ (h.xlt _ hx)⟩) Ac
  (by intro k b c e;simp only[Mx]at e;subst e;exact My _ (h.own k _ c).2.1)
  (by intro b c e;simp only[Mx]at c;subst c;exact My _ (h.hown _ e).2.1)
def Qmd{T:Ty}{f:Fl}{x:T.den}(h:TZ w X B T f x vs S)(hX:∀b,X b->b<w.heap.size)(hS:∀b∈S,b<w.heap.size)(ob:Obj):TZ (w.alloc ob) X B T f x vs S:=JO (λ_ h=>h) (λb a=>hold w ob b (hX b a)) h (λb a=>hold w ob b (hS b a))
def VK{T:Ty}(h:T.plain=K4):∀u∈Wz T,u.oneCell'=true:=XQ (w:=default) (X:=λ_=>False) (B:=0) (own:=K3) (LV h)
def WN{T:Ty}(h:T.plain=K4):(Wz T).length=T.size:=Jm (w:=default) (X:=λ_=>False) (B:=0) (own:=K3) (LV h)
theorem A9{T:Ty}(h1:∀u∈vs,u.oneCell'=K4)(hl:vs.length=T.size):(Kx T vs).cells=vs.toArray:=by grind[Bx]
def WG{T:Ty}(h:T.plain=K4):(Kx T (Wz T)).cells=(Wz T).toArray:=A9 (VK h) (WN h)
def Pn(s:St)(x:Ld)(i:Nat):Option Oe:=
 match x with
 |.tmp t=>match L3 t 1048576 with
  |false=>K2
  |true=>match s.get (.c t i)with
   |.val T f y=>match f.live,vf f T with
    |true,K4=>K1 ⟨.val T f y,s,K3,K2⟩
    |true,K3=>K1 ⟨.val T f y,{s with env:=(.c t i,.pR)::s.env},K4,K2⟩
    |_,_=>K2
   |_=>K2
 |_=>K2
def s9{t:Nat}{u:Tm}:∀{z:Tm},vt gh w X B s F a v S z->vt gh w X B {s with env:=(.c t i,u)::s.env} (Xp F (.c t i) S0) a v S z:=by
 have g:∀r,St.get {s with env:=(Bk.c t i,u)::s.env} (.m r)=s.get (.m r):=λr=>by rfl
 have C:∀r,Xp F (.c t i) S0 (.m r)=F (.m r):=λr=>by simp[Xp]
 have E:∀{r p v U},Yl gh w s F a r p v U->Yl gh w {s with env:=(Bk.c t i,u)::s.env} (Xp F (.c t i) S0) a r p v U:=by
  grind[Yl]
 intro z h
 induction z with
 |pR=>exact h
 |tup=>exact h
 |val T f x=>exact h
 |box e T f x=>exact h
 |shp T x=>exact h
 |ptr r p=>
  obtain⟨D,e,T,f,x,b,k,d,j,o⟩:=h;exact⟨D,e,T,f,x,b,k,by rw[g];exact d,by rw[C];exact j,o⟩
 |aep r p i=>
  obtain⟨D,e,T,f,x,b,k,n,I,y,d,j,o⟩:=h;exact⟨D,e,T,f,x,b,k,n,I,y,by rw[g];exact d,by rw[C];exact j,o⟩
 |bor r p=>exact⟨h.1,λA=>let⟨U,hU⟩:=h.2 A;⟨U,E hU⟩⟩
 |elp r p i q=>exact⟨h.1,λA=>let⟨e,t,ad,nn,cap,hU,rest⟩:=h.2 A;⟨e,t,ad,nn,cap,E hU,rest⟩⟩
 |pls M l=>
  refine⟨h.1,WH (λ_ h=>h) (λ_ _=>rfl) (λr p v G=>?_) h.2⟩;obtain⟨e,T,f,x,b,k,d,j,o⟩:=G;exact⟨e,T,f,x,b,k,by rw[g];exact d,by rw[C];exact j,o⟩
 |bel r p i q=>exact⟨h.1,λA J=>let⟨e,t,ad,nn,cap,x0,y,cs,hU,k1,k2,k3,rest⟩:=h.2 A J;⟨e,t,ad,nn,cap,x0,y,cs,E hU,k1,k2,by rw[C];exact k3,rest⟩⟩
 |cl f l=>
  refine⟨h.1,E7 (λr p v G=>?_) h.2⟩;obtain⟨e,T,f,x,b,k,d,j,o⟩:=G;exact⟨e,T,f,x,b,k,by rw[g];exact d,by rw[C];exact j,o⟩
 |gd N H t K=>exact λA=>let⟨D,d,j⟩:=h A;⟨by rw[g];exact D,λL=>K (d L),j⟩
def R.takeC(h:R n W0 w X F H s a){t:Nat}:R n W0 w X (Xp F (.c t i) []) (F (.c t i)++H) {s with env:=(.c t i,.pR)::s.env} a where
 size:=h.size
 defers:=h.defers
 below:=h.below
 glob:=h.glob
 gx:=h.gx
 xs:=h.xs
 fix:=h.fix
 xlt:=h.xlt
 xin:=h.xin
 x0:=h.x0
 own:=λk b f=>by
  simp only[Xp]at f;split at f
  ·cases f
  ·exact h.own k b f
 nodup:=λk=>by
  simp only[Xp];split
  ·simp
  ·exact h.nodup k
 pS:=λk o b f g=>by
  simp only[Xp]at f g;split at f
  ·cases f
  ·split at g
   ·cases g
   ·exact h.pS k o b f g
 hown:=λb f=>(Ll.1 f).elim (h.own _ b) (h.hown b)
 pK:=Lg.2 ⟨h.nodup _,h.pK,λx hx y p e=>h.pL _ x hx (by rw[e];exact p)⟩
 pL:=λk b f l=>by
  simp only[Xp]at f;split at f
  ·cases f
  ·rename_i hk;exact(Ll.1 l).elim (λl=>hk (h.pS _ _ b f l)) (h.pL k b f)
 pM:=λd j m=>by
  simp only[St.get,Ql]at m⊢;split at m
  ·simp_all
  ·simpa[St.get]using h.pM d j m
 slots:=λk=>by
  by_cases hk:k=.c t i
  ·simp_all[St.get,Ql,vt]
  ·have q:St.get {s with env:=(Bk.c t i,Tm.pR)::s.env} k=s.get k:=by simp[St.get,Ql,L0 hk]
   have r:Xp F (.c t i) [] k=F k:=by simp[Xp,hk]
   rw[q,r];exact s9 (h.slots k)
theorem Zwp(h:R n W0 w X F H s a)(ho:o.op=.extract x i){r:Oe}(hr:Pn s x i=K1 r):YU P n W0 w X H s a o r:=by
 unfold Pn at hr;split at hr
 ·rename_i t;split at hr
  ·cases hr
  rename_i l;split at hr
  ·rename_i T f y e;have g:=h.slots (.c t i);rw[e]at g;obtain⟨j,k,d⟩:=g;obtain⟨_,m,u,v⟩:=h.pM t i (by rw[e];simp);have hv:m[i]? =K1 (Xj W0.gh a (.c t i)):=by
    simp_all[Xj]
   have b:(execOp a.eval o).run P w=.ok (.value (Xj W0.gh a (.c t i))) w:=by
    simp_all[Kz,execOp,Instr.extract]
   split at hr
   ·rename_i p;simp only[pB]at hr;subst hr;have:=mc p d;rw[this]at d;exact XS h rfl λ_=>⟨_,b,j,k,d⟩
   ·simp only[pB]at hr;subst hr;intro _ K Q q;unfold Ls;rw[b];exact q _ X _ (F (.c t i)) w (λ_ h=>h) h.takeC ⟨j,k,d⟩ Ac ⟨λ_=>H6.refl w,h.kept (H6.refl w)⟩
   ·cases hr
  ·cases hr
 ·cases hr
def MW(τ:nR)(s:St)(e:Lb):Option Oe:=
 match τ e with
 |some T=>K1 ⟨.box e T (.u K4) (zero T),s,K3,K2⟩
 |none=>K2
def Z2v(h:R n W0 w X F H s a)(hτ:τ.ok P){e:Lb}(ho:o.op=.alloc e){r:Oe}(hr:MW τ s e=K1 r):YU P n W0 w X H s a o r:=by
 unfold MW at hr;split at hr
 ·rename_i T c;simp only[pB]at hr;subst hr;intro _ K Q d;obtain⟨i,f,_,_,g⟩:=(hτ _ _ c).size;have b:(execOp a.eval o).run P w=.ok (.value (.pointer (K1 ⟨w.heap.size,0,K2⟩))) (w.alloc (.cells (Wz T).toArray e)):=by
   simp[execOp,ho,Instr.alloc,zeroValue,typeInfo,f,g,newVar,newRow,WG (hτ _ _ c).plain]
  unfold Ls;rw[b];exact d _ X F [w.heap.size] _ (λ_ h=>h) (h.alloc _) ⟨w.heap.size,_,[],rfl,rfl,RY _ _,by unfold TZ;exact LV (hτ _ _ c).plain⟩ (λ_=>rfl) ⟨λ_=>H6.alloc _ _,h.kept (H6.alloc _ _)⟩
 ·cases hr
def OV(τ:nR)(s:St)(tg:Y7)(e:Lb)(x:Ld):Option Oe:=
 match τ e with
 |some T=>match ST s (Gj s tg x) T with
  |some t=>K1 ⟨.box e t.T t.f t.x,t.s,t.moved,K2⟩
  |none=>K2
 |none=>K2
theorem Z91(h:R n W0 w X F H s a)(ht:tg.ok W0.gh a){e:Lb}(ho:o.op=.box e x){r:Oe}(hr:OV τ s tg e x=K1 r):YU P n W0 w X H s a o r:=by
 unfold OV at hr;split at hr
 ·rename_i T p;split at hr
  ·rename_i t hk;simp only[pB]at hr;subst hr;obtain⟨_,g,S,d,q,i,f,j,_⟩:=ff h ht hk;intro _ K Q k;have u:(a.eval x).cells=d.toArray:=by
    grind[A9,rc,Kp]
   have c:(execOp a.eval o).run P w=.ok (.value (.pointer (K1 ⟨w.heap.size,0,K2⟩))) (w.alloc (.cells d.toArray e)):=by
    simp_all[execOp,Instr.box,newVar,newRow]
   unfold Ls;rw[c];refine k _ X g (w.heap.size::S) _ (λ_ h=>h) (f.alloc _) ⟨w.heap.size,_,S,rfl,rfl,RY _ _,?_⟩ (λl=>(j l).1) ⟨λ_=>H6.alloc _ _,h.kept (H6.alloc _ _)⟩;exact Qmd i h.xlt (λb m=>(f.hown b (by simp[m])).2.1) _
  ·cases hr
 ·cases hr
def Pa(off:Nat):∀(ls:List La)(k:Nat)(arr:Array La)(A M C:List La),arr.toList=A++(M++C)->A.length=off+k->M.length=ls.length->
  ((ls.zipIdx k).foldl (λcs (x:La×Nat)=>cs.setIfInBounds (off+x.2) x.1) arr).toList=A++(ls++C)
 |[],k,arr,A,M,C,h,_,a=>by
  simp_all
 |v::ls,k,arr,A,M,C,h,b,a=>by
  cases M with
  |nil=>simp at a
  |cons m M=>
   simp only[List.zipIdx_cons,Nc];have:=Pa off ls (k+1) (arr.setIfInBounds (off+k) v) (A++[v]) M C (by
    simp_all) (by simp[b];omega) (by simpa using a)
   rw[this];simp
def lB{place:Nat->Option (Nat×Nat)}{cs:Array La}{size:Nat}{rest:List (Nat×La)}{pre:List La}(hp:place i=K1 (off,size))
  (hcs:cs.toList=pre++(mid++post)) (hoff:pre.length=off) (hmid:mid.length=size) (hv:v.cells.size=size):
  ∃cs',cs'.toList=pre++(v.cells.toList++post)/\L6 place cs ((i,v)::rest)=L6 place cs' rest:=by
 have a:cs.size=pre.length+(mid.length+post.length):=by grind[Array.length_toList]
 refine⟨v.cells.zipIdx.foldl (λcs (x:La×Nat)=>cs.setIfInBounds (off+x.2) x.1) cs,?_,?_⟩
 ·have:=Pa off v.cells.toList 0 cs pre mid post hcs Aa Af;rw[<-this];congr 1;rw[<-Array.foldl_toList];simp
 simp_all[L6,if_neg]
def LS(tg:Y7):List (Nat×Ld)->(T:Ty)->Fl->T.den->St->Bool->Option (Fl×T.den×St×Bool)
 |[],_,f,x,s,mv=>K1 (f,x,s,mv)
 |(i,y)::r,T,f,x,s,mv=>match SE T i with
  |some U=>match ST s (Gj s tg y) U with
   |some t=>match gZ T x i ⟨t.T,t.x⟩with
    |some x'=>LS tg r T (YR f i t.f) x' t.s (mv||t.moved)
    |none=>K2
   |none=>K2
  |none=>K2
def G6(ht:tg.ok W0.gh a){place:Nat->Option (Nat×Nat)}:∀{parts:List (Nat×Ld)}{T:Ty}{f:Fl}{x:T.den}{s:St}{mv:Bool}{f':Fl}{x':T.den}{s':St}{mv':Bool}{F:Bk->List Nat}{S:List Nat}{cs:Array La},
  (∀i U,SE T i=K1 U->place i=K1 (nj T i,U.size))->R n W0 w X F (S++H) s a->TZ w X W0.B T f x cs.toList S->LS tg parts T f x s mv=K1 (f',x',s',mv')->
  ∃F' S' cs',L6 place cs (parts.map λp=>(p.1,a.eval p.2))=K1 cs'/\R n W0 w X F' (S'++H) s' a/\TZ w X W0.B T f' x' cs'.toList S'/\(mv'=K3->s'=s)
 |[],T,f,x,s,mv,f',x',s',mv',F,S,cs,_,k,d,b=>by
  simp only[LS,pB,pF]at b;obtain⟨rfl,rfl,rfl,rfl⟩:=b;exact⟨F,S,cs,rfl,k,d,λ_=>rfl⟩
 |(i,y)::r,T,f,x,s,mv,f',x',s',mv',F,S,cs,e,k,d,b=>by
  simp only[LS]at b;split at b
  ·rename_i U q;split at b
   ·rename_i t hk;split at b
    ·rename_i D g;obtain⟨l,E,u,G,I,m,v,h4,_⟩:=ff k ht hk;subst l;obtain⟨z,J⟩:=Qoa (x:=x) q;obtain⟨pre,K,A,L,S2,M,N,O,P,Q,V⟩:=Ck J d;have c:=Bx (rc m) (Kp m);have h:(a.eval y).cells.size=t.T.size:=by grind[Array.length_toList,Kp]
     obtain⟨W,C,g2⟩:=lB (rest:=r.map λp=>(p.1,a.eval p.2)) (e i _ q) N P (Kp Q) h;rw[I,c]at C;have RY:=V t.f ⟨t.T,t.x⟩ G u D g m;rw[<-C]at RY;have o:R n W0 w X E ((L++(u++M))++H) t.s a:=by
      refine v.sub ?_ ?_
      ·grind
      ·have:=v.pK;rw[O]at this;simp only[Lg,Ll]at this⊢
       grind
     obtain⟨F',S',cs',k1,Y,Z,k4⟩:=G6 ht e o RY b;refine⟨F',S',cs',Af,Y,Z,λhm=>?_⟩;have ab:(mv||t.moved)=false:=by
      have j:∀{r:List (Nat×Ld)}{T:Ty}{f:Fl}{x:T.den}{s:St}{mv:Bool} {f' x' s' mv'},LS tg r T f x s mv=K1 (f',x',s',mv')->mv'=K3->mv=false:=by
       intro r
       induction r with
       |nil=>simp_all[LS]
       |cons p r ih=>
        grind[LS]
      exact j b hm
     simp_all
    ·cases b
   ·cases b
  ·cases b
def ED(τ:nR)(s:St)(tg:Y7)(e:Lb)(parts:Array (Nat×Ld)):Option Oe:=
 match τ e with
 |some T=>match T.isStruct with
  |true=>match LS tg parts.toList T (.u K4) (zero T) s K3 with
   |some (f,x,s',mv)=>K1 ⟨.val T f x,s',mv,K2⟩
   |none=>K2
  |false=>K2
 |none=>K2
def Qeh{fs:List Field}{w:Lc}:∀{T:Ty}{off:Nat},xo P fs T off=K4->
  ∃ps:List (Nat×Nat),(fs.mapM λf=>(Prod.mk f.offset<$>Lr f.type:Sem (Nat×Nat))).run P w=.ok ps w/\ ∀i U,SE T i=K1 U->ps[i]? =K1 (off+nj T i,U.size):=by
 induction fs with
 |nil=>
  intro T off h;cases T<;>simp[xo]at h
  simp_all[SE]
 |cons f fs e=>
  intro T off h;cases T<;>simp only[xo]at h<;>first|cases h|skip
  rename_i a b;simp only[pC,Ml]at h;obtain⟨⟨⟨g,k⟩,m⟩,l⟩:=h;obtain⟨ps,n,o⟩:=e l;obtain⟨j,p,c,_⟩:=yy k;refine⟨(f.offset,j.size)::ps,?_,?_⟩
  ·simp_all[Lr,typeInfo]
  ·intro i U d;cases i with
   |zero=>simp only[SE,pB]at d;subst d;simp[nj,pD g,c]
   |succ i=>grind[SE,nj]
def Z26(h:R n W0 w X F H s a)(ht:tg.ok W0.gh a)(hτ:τ.ok P){e:Lb}(ho:o.op=.build e parts){r:Oe}(hr:ED τ s tg e parts=K1 r):YU P n W0 w X H s a o r:=by
 unfold ED at hr;split at hr
 ·rename_i T g;split at hr
  ·rename_i b;split at hr
   ·rename_i f x I J p;simp only[pB]at hr;subst hr;obtain⟨q,t,j⟩:=(hτ _ _ g).struct b;obtain⟨i,v,_,_,y⟩:=(hτ _ _ g).size;obtain⟨l,L,M⟩:=Qeh (P:=P) (w:=w) j;have k:TZ w X W0.B T (.u K4) (zero T) (Wz T).toArray.toList []:=by unfold TZ;exact LV (hτ _ _ g).plain
    obtain⟨z,A,c,N,C,D,E⟩:=G6 (H:=H) (S:=[]) ht (place:=(l.toArray[·]?)) (λi U O=>Af) (by simpa using h) k p;intro _ K Q G;have m:(q.mapM λf=>(Prod.mk f.offset<$>Lr f.type:Sem (Nat×Nat))).run P w=.ok l.toArray w:=by
     simp_all[Array.mapM_eq_mapM_toList]
    have d:(execOp a.eval o).run P w=.ok (.value (.agg c)) w:=by
     simp only[execOp,ho,Lh,Mp,zeroValue,typeInfo,Lp,run_underlying t,Lo];simp[v,y,WG (hτ _ _ g).plain];simp_all
    unfold Ls;rw[d];refine G _ X z A w (λ_ h=>h) C ⟨c.toList,?_,D⟩ E ⟨λ_=>H6.refl w,h.kept (H6.refl w)⟩;cases T<;>simp[Ty.isStruct]at b<;>simp[Kx]
   ·cases hr
  ·cases hr
 ·cases hr
def G8:∀{T:Ty}{x:T.den}{i:Nat}{y:TV},fld T x i=K1 y->nj T i+y.1.size<=T.size
 |.pair a b,x,0,y,h=>by simp only[fld,pB]at h;subst h;simp[nj,Ty.size]
 |.pair a b,x,i+1,y,h=>by
  simp only[fld]at h;have:=G8 h
  grind[nj,Ty.size]
def CC:∀{T:Ty}{x:T.den}{i j:Nat}{u v:TV},fld T x i=K1 u->fld T x j=K1 v->i<j->nj T i+u.1.size<=nj T j
 |.pair a b,x,0,j+1,u,v,h,_,_=>by simp only[fld,pB]at h;subst h;simp[nj]
 |.pair a b,x,i+1,j+1,u,v,h,c,d=>by
  simp only[fld]at h c;have:=CC h c Aa
  grind[nj]
def Gf:∀{p:List Nat}{T:Ty}{x:T.den}{y:TV},kV T x p=K1 y->ai T p+y.1.size<=T.size
 |[],T,x,y,h=>by grind[kV,ai]
 |i::p,T,x,y,h=>by
  simp only[kV]at h;split at h
  ·rename_i z a;have b:=Gf h;have c:=G8 a
   grind[ai,Gl]
  ·cases h
theorem AR:∀{T:Ty}{x x':T.den}{i j:Nat}{y:TV},gZ T x i y=K1 x'->j≠i->fld T x' j=fld T x j
 |.pair a b,x,x',0,j,y,h,c=>by
  simp only[gZ,Mn]at h;obtain⟨z,_,rfl⟩:=h;cases j with
  |zero=>omega
  |succ j=>rfl
 |.pair a b,x,x',i+1,j,y,h,c=>by
  simp only[gZ,Mn]at h;obtain⟨z,d,rfl⟩:=h;cases j with
  |zero=>rfl
  |succ j=>exact AR (T:=b) d Aa
theorem Qti{T:Ty}{x x':T.den}{j:Nat}{y:TV}(h:WJ T x (i::p) y=K1 x')(hj:j≠i):kV T x' (j::q)=kV T x (j::q):=by grind[WJ,kV,AR]
theorem Qaf{α:Type}{pre mid vs post:List α}{k:Nat}(hl:mid.length=vs.length)(hk:k+m<=pre.length\/pre.length+mid.length<=k):((pre++(vs++post)).drop k).take m=((pre++(mid++post)).drop k).take m:=by
 apply Mu
 grind
def OE(s:St)(r:Nat)(p:List Nat)(t:Tm):St:=
 match p with
 |[]=>ch s r t
 |i::_=>FZ s r i t
def Zvz(s:St)(r:Nat)(p:List Nat)(f:Fl)(y:TV):Option St:=
 match s.get (.m r)with
 |.box e U g z=>match kV U z p with
  |some u=>match Lf (u.1=y.1),WJ U z p y with
   |true,K1 z'=>K1 (OE s r p (.box e U (YH g p f) z'))
   |_,_=>K2
  |none=>K2
 |_=>K2
def R.setRoot(h:R n W0 w X F H s a){r:Nat}{f:Fl}{y:TV}{s':St}(hs:Zvz s r p f y=K1 s')(hH:H=S++H')
  (hv:TZ w X W0.B y.1 f y.2 vs S)  (hb:∃S0,F (.m r)=b::S0) {e:Lb}{U:Ty}{g:Fl}{z:U.den} (hg:s.get (.m r)=.box e U g z):
  ∃w' F',(storeCells ⟨b,ai U p,K2⟩ vs).run P w=.ok () w'/\R n W0 w' X F' H' s' a/\ ∀k,k≠b->w'.heap[k]? =w.heap[k]? :=by
 unfold Go.Am.Zvz at hs;rw[hg]at hs;simp only at hs;split at hs
 ·rename_i u hu;split at hs
  ·rename_i z' hd hz;simp only[pB]at hs;subst hs;have E:=h.slots (.m r);rw[hg]at E;obtain⟨l,c,S',l1,l2,N,l4⟩:=E;obtain⟨S0,O⟩:=hb;rw[O]at l2;obtain⟨rfl,rfl⟩:=Lv l2;have V:u.1=y.1:=pE hd;have t:b∈F (.m r):=by rw[O];simp
   have W:∀k l,k≠Bk.m r->l∈F k->l≠b:=λk l hk o e=>hk (h.pS k (.m r) l o (by rw[e];exact t));have Y:∀l∈H,l≠b:=λl o e=>h.pL (.m r) b t Af;generalize Z:(c.toList.take (ai U p+0)++vs++c.toList.drop (ai U p+0+vs.length)).toArray=cc;have d:∀k,k≠b->(w.setRow b cc).heap[k]? =w.heap[k]? :=λk hk=>setRow_other w b k _ hk;have ab:TZ (w.setRow b cc) X W0.B U g z c.toList S0:=
    JO (λ_ h=>h) (λl o=>d l λe=>(h.own _ b t).2.2 Af) l4
     (λl o=>d l λe=>by
      have:=h.nodup (.m r);simp_all)
   have au:TZ (w.setRow b cc) X W0.B y.1 f y.2 vs S:=
    JO (λ_ h=>h) (λl o=>d l λe=>(h.own _ b t).2.2 Af) hv (λl o=>d l (Y l Af))
   obtain⟨pre,G,A,I,S2,J,m1,m2,m3,m4,m5⟩:=kJ hu ab;have ar:G.length=vs.length:=by rw[Kp m4,Kp hv,V]
   have a0:c.size=pre.length+(G.length+A.length):=Ai
   have K:=run_storeCells_at P b (ai U p) e vs 0 c w N Aa (rc hv);rw[Z]at K;have e1:cc=(pre++(vs++A)).toArray:=by
    grind
   have L:=h.nodup (.m r);rw[O,m2]at L;have ad:W0.below (w.setRow b cc):=
    ⟨h.below.os,h.below.tape,h.below.output,by simpa[Ma]using h.below.size,λk hk=>(d k (W0.sep hk (h.own _ b t).1)).trans (h.below.block k hk)⟩
   refine⟨w.setRow b cc,Xp F (.m r) (b:: (I++(S++J))),K,?_,d⟩;have hT:qQ W0.gh w (w.setRow b cc) s (OE s r p (.box e U (YH g p f) z')) F (Xp F (.m r) (b:: (I++(S++J)))) a r (.box e U (YH g p f) z'):=by
    cases p with
    |nil=>exact Ig
    |cons i p=>
     refine Qie Ac λj q v U' hj hv=>?_;unfold Yl at hv⊢;rw[hg]at hv;rw[S9];simp only[if_true];obtain⟨b2,c2,a3,y2,k1,k2,Q,k4,k5⟩:=hv;rw[O]at k1;obtain⟨rfl,_⟩:=Lv k1;rw[N]at k2;simp only[pB,L7]at k2;obtain⟨rfl,_⟩:=k2;refine⟨b,cc,I++(S++J),y2,by simp[Xp],setRow_heap w b c _ e _ N,by grind[Qti],k4,?_⟩;rw[k5,e1,m1];congr 1;have ho:∀{u':TV},kV U z (i::p)=K1 u'->ai U (j::q)+y2.1.size<=ai U (i::p)\/ai U (i::p)+u'.1.size<=ai U (j::q):=λ{u'} x=>by
      simp only[kV]at x Q;split at x
      ·rename_i a1 C;split at Q
       ·rename_i a2 D;have g1:=Gf x;have g2:=Gf Q;simp only[ai,Gl C,Gl D];rcases Nat.lt_or_gt_of_ne hj with hlt|hlt
        ·have:=CC D C hlt;omega
        ·have:=CC C D hlt;omega
       ·cases Q
      ·cases x
     grind[Kp,Qaf]
   refine h.turn' hT ad Af (λl o=>d l λe=>(h.own _ b t).2.2 Af)
    (λk l hk o=>d l (W k l hk o)) ?_ ?_ (by rw[hg];simp) ?_ ⟨b,_,I++(S++J),l1,rfl,setRow_heap w b c _ e _ N,?_⟩
   ·grind
   ·have hn:=h.pK;rw[hH]at hn;have M:∀q,q∈b:: (I++(S2++J))->q∉S++H':=λq hq=>by rw[<-hH];exact h.pL (.m r) q Af
    simp only[Lg,Ni,Ll,Ng,List.cons_append]at hn L M⊢
    grind
   all_goals grind
  ·cases hs
 ·cases hs
def Fl.allU(b:Bool):Fl->Bool
 |.u c=>match b,c with|true,K4=>K4|false,K3=>K4|_,_=>K3
 |.p f g=>f.allU b&&g.allU b
 |.d=>K3
theorem TE{b:Bool}:∀{T:Ty}{f:Fl}{x:T.den}{vs:List La}{S:List Nat},f.allU b=K4->TZ w X B T f x vs S->rd w X B b T x vs S
 |T,.d,_,_,_,h,_=>by simp[Fl.allU]at h
 |T,.u c,_,_,_,h,i=>by
  unfold TZ at i;have:c=b:=by cases b<;>cases c<;>simp[Fl.allU]at h<;>rfl
  simp_all
 |.pair a s,.p f g,_,_,_,h,⟨j,k,l,m,n,o,q,r⟩=>by
  simp only[Fl.allU,pC]at h;exact⟨j,k,l,m,n,o,TE h.1 q,TE h.2 r⟩
 |.slice e t,.p f g,_,_,_,h,i=>by
  obtain⟨rfl,rfl,_⟩:=oX i
  grind[Fl.allU]
 |.unit,.p ..,_,_,_,_,h|.int _,.p ..,_,_,_,_,h|.bool,.p ..,_,_,_,_,h|.fnc _,.p ..,_,_,_,_,h|.str,.p ..,_,_,_,_,h|.err,.p ..,_,_,_,_,h|.hid _,.p ..,_,_,_,_,h|.sptr ..,.p ..,_,_,_,_,h|.clo ..,.p ..,_,_,_,_,h|.arr ..,.p ..,_,_,_,_,h=>by simp[TZ]at h
def Qmk{b:Bool}:∀{f g:Fl}(i:Nat),f.allU b=K4->g.allU b=K4->(YR f i g).allU b=true:=by
 intro f;have e:∀(f g:Fl)(i:Nat),f.allU b=K4->g.allU b=K4->(∀a c,f≠ .p a c)->(YR f i g).allU b=true:=by
  intro f g i h j k
  induction i with
  |zero=>simp_all[YR,Fl.allU]
  |succ i n=>simp_all[YR,Fl.allU]
 induction f with
 |u c=>simp_all
 |d=>simp_all
 |p x y l m=>
  intro g i h j;simp only[Fl.allU,pC]at h;cases i with
  |zero=>simp_all[YR,Fl.allU]
  |succ i=>simp_all[YR,Fl.allU]
def Qlf{b:Bool}:∀{f:Fl}(i:Nat),f.allU b=K4->(jA f i).allU b=true:=by
 intro f
 induction f with
 |u c=>intro i h;cases i<;>exact h
 |d=>simp_all[Fl.allU]
 |p x y e a=>
  intro i h;simp only[Fl.allU,pC]at h;cases i with
  |zero=>exact h.1
  |succ i=>exact a i h.2
def RC{b:Bool}:∀{f g:Fl},f.allU b=K4->g.allU b=K4-> ∀p:List Nat,(YH f p g).allU b=K4
 |_,_,_,a,[]=>a
 |_,_,c,a,i::p=>Qmk i c (RC (Qlf i c) a p)
def wT:Fl->Option Bool|.u K4=>K1 K4|.p (.u K4) (.u K3)=>K1 K3|_=>K2
def UW(w:Lc)(X:Nat->Prop)(B:Nat)(eo:Bool)(e:Lb)(t:Ty)(l:List t.den)(v:La)(S:List Nat):Prop:=∃xs S1 S2,S=S1++S2/\HW w X B K4 e t.size l.length v xs S1/\dY (rd w X B eo t) l xs S2
def Ff{t:Ty}:∀{l:List t.den}{vs:List La}{S:List Nat},dY (rd w X B K3 t) l vs S->S=[]
 |[],_,_,h=>h.2
 |_::_,_,_,⟨_,_,_,_,_,e,a,b⟩=>by rw[e,nN a,Ff b];rfl
def Cu{f:Fl}(h:wT f=K1 eo){e:Lb}{t:Ty}{l:List t.den}:TZ w X B (.slice e t) f l vs S↔ ∃v,vs=[v]/\UW w X B eo e t l v S:=by
 unfold wT at h;split at h
 ·cases h;unfold TZ;exact⟨λ⟨v,b,i,j,c,g,d,a⟩=>⟨v,c,b,i,j,g,d,a⟩,λ⟨v,c,b,i,j,g,d,a⟩=>⟨v,b,i,j,c,g,d,a⟩⟩
 ·cases h;exact⟨λ⟨v,b,c,d,a⟩=>⟨v,c,b,S,[],Ac,d,a⟩,λ⟨v,c,b,i,j,g,d,a⟩=>by
   have:=Ff a;subst this;rw[M8]at g;subst g;exact⟨v,b,c,d,a⟩⟩
 ·cases h
def B6{e:Lb}{t:Ty}{l:List t.den}{g n' cap:Nat}(h:UW w X B eo e t l v S)(hv:v=.slice (K1 ad) n' cap)(hX:¬X ad.block)(hnd:S.Nodup){j:Nat}(hj:j<l.length)
  {u:TV} (hu:kV t l[j] q=K1 u) {y:TV} (hy:u.1=y.1) {z':t.den} (hz:WJ t l[j] q y=K1 z')  (hyv:rd w X B eo y.1 y.2 vs Sy) (hndy:(S++Sy).Nodup) (hg:ad.block=g):
  ∃cc S',(storeCells (ad.add (j*t.size+ai t q)) vs).run P w=.ok () (w.setRow g cc)/\g∈S/\(∀b,b≠g->(w.setRow g cc).heap[b]? =w.heap[b]?)/\UW (w.setRow g cc) X B eo e t (l.set j z') v S'/\S'.Nodup/\(∀b∈S',b∈S++Sy):=by
 obtain⟨K,A,S2,M,h1,h2⟩:=h;obtain⟨r,C⟩:=h1;rcases r.2 with⟨rfl,a5⟩|⟨m,a2,i,s,hB,hh,N,O,a6,Q⟩
 ·cases hv
 ·rw[hv]at s;simp only[Mo,pB]at s;obtain⟨rfl,rfl,rfl⟩:=s;simp only at hg hX;subst hg;have hS:A=[m]:=by rw[C,hv];rfl
  have a3:(⟨m,0,K2⟩:Le).add (j*t.size+ai t q)=⟨m,j*t.size+ai t q,K2⟩:=by simp_all[Lm]
  generalize D:(i.toList.take (j*t.size+ai t q+0)++vs++i.toList.drop (j*t.size+ai t q+0+vs.length)).toArray=cc;have a:∀b,b≠m->(w.setRow m cc).heap[b]? =w.heap[b]? :=λb n=>setRow_other w m b _ n;have E:∀b∈S2,b≠m:=λb n e=>by
   grind
  have U:dY (rd (w.setRow m cc) X B eo t) l K S2:=J0 h2 λx v T _ hT hr=>
   fx (λ_ h=>h) (λb n=>a b λe=>hX Af) hr λb n=>a b (E b (hT b n))
  obtain⟨pre,V,k,W,T2,L,m1,m2,m3,m4,m5,m6⟩:=ZJ (λ_ _ _ h=>Jm h) hj U;have Y:TZ (w.setRow m cc) X B t (.u eo) l[j] V T2:=Ao
  obtain⟨c,o,d,Z,U2,U3,n1,n2,n3,n4,n5⟩:=kJ hu Y;have F:∀b∈Sy,b≠m:=λb n e=>by
   grind
  have a4:rd (w.setRow m cc) X B eo y.1 y.2 vs Sy:=fx (λ_ h=>h) (λb n=>a b λe=>hX Af) hyv λb n=>a b (F b n);have ab:=n5 (.u eo) y vs Sy z' hz Ao;have p:o.length=vs.length:=by rw[Kp n4,Jm hyv,hy]
  have ar:K.length=l.length*t.size:=r.1;have a7:i.toList=K++i.toList.drop (l.length*t.size):=by rw[<-Q];simp
  have au:j*t.size+ai t q+0+vs.length<=i.size:=by
   grind[Mv]
  have a0:=run_storeCells_at P m (j*t.size+ai t q) e vs 0 i w hh au (XQ hyv);rw[D]at a0;have G:i.toList=(pre++c)++(o++(d++(k++i.toList.drop (l.length*t.size)))):=by
   grind
  have a1:(pre++c).length=j*t.size+ai t q:=by simp[m3,n3]
  have H:cc=((pre++(c++(vs++d)++k))++i.toList.drop (l.length*t.size)).toArray:=by
   rw[<-D];congr 1
   conv=>lhs;rw[G]
   rw[Nat.add_zero,<-a1,List.take_left,<-p,<-Mj (pre++c) o,Nb Ae];simp
  have I:∀b,b∈A++(W++((Z++(Sy++U3))++L))->b∈S++Sy:=by
   intro b n;rw[M,m2,n2];simp only[Ll]at n⊢
   grind
  have J:(A++(W++((Z++(Sy++U3))++L))).Nodup:=by
   rw[M,m2,n2]at hndy;rw[Mk]at hndy⊢;intro z;have:=hndy z;simp only[Ms]at this⊢;omega
  refine⟨cc,A++(W++((Z++(Sy++U3))++L)),Ai,by rw[M,hS];simp,a,⟨pre++(c++(vs++d)++k),A,_,rfl,?_,?_⟩,J,I⟩
  ·refine⟨⟨?_,.inr ⟨m,cap,cc,?_,hB,setRow_heap w m i _ e _ hh,by simpa using N,O,?_,?_⟩⟩,C⟩
   ·have:(pre++(c++(vs++d)++k)).length=K.length:=by rw[m1,n1];simp[p]
    grind
   ·rw[hv];simp
   ·grind[Mv]
   ·rw[H];have:(pre++(c++(vs++d)++k)).length=(l.set j z').length*t.size:=by
     rw[List.length_set,<-ar,m1,n1];simp[p]
    grind
  ·have e4:l.set j z'=l.take j++(z'::l.drop (j+1)):=by grind[Nj]
   rw[e4];exact tv m5 ⟨_,k,_,L,rfl,rfl,TE (RC (f:=.u eo) (g:=.u eo) (by cases eo<;>rfl) (by cases eo<;>rfl) q) (by simpa using ab),m6⟩
def Qml:∀(f:Fl)(i:Nat)(g g':Fl),YR (YR f i g) i g'=YR f i g':=by
 intro f;have e:∀(f g g':Fl)(i:Nat),(∀a c,f≠ .p a c)->YR (YR f i g) i g'=YR f i g':=by
  intro f g g' i h
  induction i with
  |zero=>simp_all[YR]
  |succ i k=>simp_all[YR]
 induction f with
 |u c=>simp_all
 |d=>simp_all
 |p x y j b=>
  intro i g g';cases i with
  |zero=>simp[YR]
  |succ i=>simp[YR,b]
def Qlg:∀(f:Fl)(i:Nat)(g:Fl),jA (YR f i g) i=g:=by
 intro f;have b:∀(f g:Fl)(i:Nat),(∀a c,f≠ .p a c)->jA (YR f i g) i=g:=by
  intro f g i e
  induction i with
  |zero=>simp_all[YR,jA]
  |succ i k=>simp_all[YR,jA]
 induction f with
 |u c=>simp_all
 |d=>simp_all
 |p x y h j=>
  intro i g;cases i with
  |zero=>simp[YR,jA]
  |succ i=>grind[YR,jA]
def A1:∀(p:List Nat)(f g g':Fl),YH (YH f p g) p g'=YH f p g'
 |[],_,_,_=>rfl
 |i::p,f,g,g'=>by simp only[YH,Qlg,Qml,A1 p]
def i6(s:St)(r:Nat)(p:List Nat):Bool:=match s.get (.m r)with
 |.box _ _ f _=>match wT (oo f p)with
  |some b=>b
  |none=>K4
 |_=>K4
def Z2j(s:St)(r:Nat)(p:List Nat)(j:Int)(q:List Nat)(fy:Fl)(y:TV):Option St:=
 match s.bad r p with
 |true=>K2
 |false=>match(match i6 s r p with|true=>fy.allU K4||y.1.flat|false=>vf fy y.1)with
  |false=>K2
  |true=>match s.get (.m r)with
   |.val (.slice e t) (.u K4) l=>match p,kV t (l.getD j.toNat (zero t)) q with
    |[],K1 u=>match Lf (u.1=y.1),WJ t (l.getD j.toNat (zero t)) q y with
     |true,K1 z=>K1 (WL s r (.val (.slice e t) (.u K4) (l.set j.toNat z)))
     |_,_=>K2
    |_,_=>K2
   |.box e0 U f x=>match kV U x p,wT (oo f p)with
    |some ⟨.slice e t,l⟩,K1 _=>match kV t (l.getD j.toNat (zero t)) q with
     |some u=>match Lf (u.1=y.1),WJ t (l.getD j.toNat (zero t)) q y with
      |true,K1 z=>match WJ U x p ⟨.slice e t,l.set j.toNat z⟩with
       |some x'=>K1 (WL s r (.box e0 U (YH f p (oo f p)) x'))
       |none=>K2
      |_,_=>K2
     |none=>K2
    |_,_=>K2
   |_=>K2
def G5{α:Type}{l:List α}{d:α}(h:i<l.length):l.getD i d=l[i]:=by simp_all
def R.setElem(h:R n W0 w X F (Sy++H) s a){r:Nat}{fy:Fl}{y:TV}{s':St}(hs:Z2j s r p j q fy y=K1 s')(hv:rd w X W0.B (i6 s r p) y.1 y.2 vs Sy)
   (he:vt W0.gh w X W0.B s F a ve [] (.elp r p j q)):
  ∃ad w' F',ve=.pointer (K1 ad)/\(storeCells ad vs).run P w=.ok () w'/\R n W0 w' X F' H s' a/\ ∀b,(X b\/ ∃r,s.isBox r/\Xj W0.gh a (.m r)=.pointer (K1 ⟨b,0,K2⟩))->w'.heap[b]? =w.heap[b]? :=by
 unfold Go.Am.Z2j at hs;split at hs
 ·cases hs
 ·rename_i Z;obtain⟨_,he⟩:=he;obtain⟨e0,t0,ad,n0,a5,g,c2,c4,a6⟩:=he Z;split at hs
  ·cases hs
  ·rename_i c5;have J:=h.slots (.m r);unfold Yl at g;split at hs
   ·rename_i e t l hg;rw[hg]at g J;obtain⟨rfl,hT,cb⟩:=g;cases hT;split at hs
    ·rename_i u hp hu;split at hs
     ·rename_i z hd hz;simp only[pB]at hs;subst hs;obtain⟨us,O,k2⟩:=J;have ab:∀p,i6 s r p=true:=λp=>by simp_all[i6]
      rw[ab]at hv;obtain⟨v',rfl,a7⟩:=(Cu (f:=.u K4) rfl).1 k2;have k3:=a7;obtain⟨xs,S1,S2,e2,I,h2⟩:=k3;have v:v'=.slice (K1 ad) n0 a5:=by rw[<-cb]at O;exact O.symm
      have K:n0=l.length:=by
       grind[fY]
      have A:j.toNat<l.length:=Aa
      rw[G5 A]at hu hz;have C:=h.nodup (.m r);have i:(F (.m r)++Sy).Nodup:=Lg.2 ⟨C,(Lg.1 h.pK).1,λx hx y Q e=>h.pL _ x hx (by rw[e];simp[Q])⟩;have o:¬X ad.block:=by
       have hm:ad.block∈F (.m r):=by rw[e2,I.2,v];simp[L9]
       exact(h.own _ _ hm).2.2
      obtain⟨cc,V,g1,g2,D,g4,g5,g6⟩:=B6 (P:=P) a7 v o C A hu (pE hd) hz hv i rfl;have ar:W0.below (w.setRow ad.block cc):=
       ⟨h.below.os,h.below.tape,h.below.output,by simpa[Ma]using h.below.size,λk hk=>(D k (W0.sep hk (h.own _ _ g2).1)).trans (h.below.block k hk)⟩
      have au:∀b,(X b\/ ∃r,s.isBox r/\Xj W0.gh a (.m r)=.pointer (K1 ⟨b,0,K2⟩))->(w.setRow ad.block cc).heap[b]? =w.heap[b]? :=by
       intro b E;refine D b λe=>?_;subst e;rcases E with E|⟨r2,I,h2⟩
       ·exact o E
       ·obtain⟨S,h3⟩:=h.boxIn I h2;have:=h.pS (.m r2) (.m r) ad.block (by rw[h3];simp) g2
        grind
      refine⟨_,w.setRow ad.block cc,Xp F (.m r) V,a6,g1,?_,au⟩;refine h.turn' (S':=V) (H':=H) (yS ⟨?_,?_⟩) ar (by simp[Ma]) (λb E=>D b λe=>o Ai)
       (λk b hk E=>D b λe=>hk (h.pS k (.m r) b E (by rw[e];exact g2))) (λb E=>?_) (Lg.2 ⟨g5,(Lg.1 h.pK).2.1,λx hx y Q e=>?_⟩)
       (by rw[hg];simp) (λe T f x b S E=>Af) ⟨[v'],O,(Cu (f:=.u K4) rfl).2 ⟨_,rfl,g4⟩⟩
      ·rw[Kt];simp
      ·grind[Yl,Kt]
      ·grind
      ·subst e;have:=g6 x hx;rcases Ll.1 this with h'|h'
       ·exact h.pL _ x h' (by simp[Q])
       ·exact(Lg.1 h.pK).2.2 x h' x Q rfl
     ·cases hs
    ·cases hs
   ·rename_i e1 U f x hg;rw[hg]at g J;obtain⟨b,c,S,y',O,k2,k3,k4,k5⟩:=g;obtain⟨b',c',S',l1,l2,l3,l4⟩:=J;rw[O]at l2;obtain⟨rfl,rfl⟩:=Lv l2;rw[k2]at l3;simp only[pB,L7]at l3;obtain⟨rfl,_⟩:=l3;rw[k3]at hs;split at hs
    ·rename_i e t l eo a8 hf;have ab:i6 s r p=eo:=by simp_all[i6]
     rw[ab]at hv;simp only[pB]at a8;subst a8;cases k4;split at hs
     ·rename_i u hu;split at hs
      ·rename_i z hd hz;split at hs
       ·rename_i x' cl;simp only[pB]at hs;subst hs;obtain⟨pre,c6,be,S1,S2,S3,m1,m2,m3,m4,m5⟩:=kJ k3 l4;have bk:=Qqs m1 m3 (Kp m4);rw[bk]at k5;have cm:=m4;obtain⟨v',rfl,bl⟩:=(Cu hf).1 m4;have m6:=bl;obtain⟨xs,T1,T2,e2,I,h2⟩:=m6;have v:v'=.slice (K1 ad) n0 a5:=k5.symm;have K:n0=l.length:=by
         grind[fY]
        have A:j.toNat<l.length:=Aa
        rw[G5 A]at hu hz;have C:=h.nodup (.m r);have i:(F (.m r)++Sy).Nodup:=Lg.2 ⟨C,(Lg.1 h.pK).1,λx hx y Q e=>h.pL _ x hx (by rw[e];simp[Q])⟩;rw[O,m2]at C i;have cr:ad.block∈S2:=by rw[e2,I.2,v];simp[L9]
        have L:ad.block∈F (.m r):=Ai
        have o:¬X ad.block:=(h.own _ _ L).2.2;have bx:S2.Nodup:=by
         grind
        have a0:(S2++Sy).Nodup:=by
         rw[Mk]at i⊢;intro z;have:=i z
         grind
        obtain⟨cc,V,g1,g2,D,g4,g5,g6⟩:=B6 (P:=P) bl v o bx A hu (pE hd) hz hv a0 rfl;have c0:b≠ad.block:=λe=>by
         grind
        have ar:W0.below (w.setRow ad.block cc):=
         ⟨h.below.os,h.below.tape,h.below.output,by simpa[Ma]using h.below.size,λk hk=>(D k (W0.sep hk (h.own _ _ L).1)).trans (h.below.block k hk)⟩
        have b0:∀q,q∈S1\/q∈S3->q≠ad.block:=by
         grind
        have a1:TZ w X W0.B U (YH f p .d) x c.toList (S1++([]++S3)):=by
         have:=m5 .d ⟨.slice e0 t0,l⟩ [v'] [] x (I0 k3) (by unfold TZ;exact⟨rfl,rc cm,rfl⟩)
         grind
        have M:TZ (w.setRow ad.block cc) X W0.B U (YH f p .d) x c.toList (S1++([]++S3)):=
         JO (λ_ h=>h) (λb' b1=>D b' λe=>o Ai) a1 (λb' b1=>D b' (b0 b' (by simpa using b1)))
        obtain⟨W,c1,a2,a3,cp,a4,q1,q2,q3,q4,q5⟩:=kJ k3 M;have b4:W=pre/\a2=be:=by
         have e1:W.length=pre.length:=by rw[q3,m3]
         have e2:=q1.symm.trans m1;have e3:=M7 e2 e1
         grind[Kp,M7]
        obtain⟨rfl,rfl⟩:=b4;have Y:=q5 (oo f p) ⟨.slice e0 t0,l.set j.toNat z⟩ [v'] V x' cl ((Cu hf).2 ⟨_,rfl,g4⟩);rw[<-m1,A1]at Y;have b5:∀z,a3.count z+a4.count z<=S1.count z+S3.count z:=λz=>by
         have:=congrArg (List.count z) q2
         grind
        have b6:∀z,V.count z<=S2.count z+Sy.count z:=λz=>by
         have I:=Mk.1 g5 z;by_cases hz:z∈V
         ·have:=Na.2 (g6 z hz)
          grind
         grind
        have b7:∀z,(F (.m r)).count z=(b:: (S1++(S2++S3))).count z:=λz=>by rw[O,m2]
        have b8:((b:: (a3++(V++a4)))++H).Nodup:=by
         have K:(F (.m r)++(Sy++H)).Nodup:=Lg.2 ⟨h.nodup _,h.pK,λx hx y Q e=>h.pL _ x hx (by rw[e];exact Q)⟩;rw[Mk]at K⊢;intro z;have I:=K z;have h2:=b5 z;have h3:=b6 z;have h4:=b7 z;simp only[Ms,M9]at I h4⊢;omega
        have b9:=h.turn' (t:=.box e1 U (YH f p (oo f p)) x') (S':=b:: (a3++(V++a4))) (H':=H) (yS ⟨?_,?_⟩) ar (by simp[Ma]) (λb E=>D b λe=>o Ai)
         (λk b hk E=>D b λe=>hk (h.pS k (.m r) b E (by rw[e];exact L))) (λq hq=>?_) b8
         (by rw[hg];simp) (λe2 T2 f2 x2 b2 cp G c7=>by
          grind) ⟨b,c,_,l1,rfl,Ai,Y⟩
        ·refine⟨_,_,_,a6,g1,b9,λb2 G=>D b2 λe=>?_⟩;rw[e]at G;rcases G with G|⟨r2,I,h2⟩
         ·exact o G
         ·obtain⟨S,h3⟩:=h.boxIn I h2;have:=h.pS (.m r2) (.m r) ad.block (by rw[h3];simp) L
          grind
        ·rw[Kt];simp
        ·intro p' v2 U2 N;unfold Yl at N⊢;rw[hg]at N;rw[Kt];simp only[if_true]at N⊢;obtain⟨b3,c3,S3,y3,o1,o2,o3,o4,o5⟩:=N;rw[O]at o1;obtain⟨rfl,_⟩:=Lv o1;obtain⟨y4,o6,o7⟩:=r9 (x':=x') o3
         grind
        ·rw[<-Na]at hq⊢;have h2:=b5 q;have h3:=b6 q;have h4:=b7 q;simp only[Ms,M9]at hq h4⊢;omega
       ·cases hs
      ·cases hs
     ·cases hs
    ·cases hs
   ·cases hs
def Qhx(s:St)(r:Nat)(p:List Nat)(i:Int)(fy:Fl)(y:TV):Option St:=
 match s.get (.m r)with
 |.box e U f x=>match kV U x p with
  |some ⟨.arr n t,l⟩=>match(oo f p).live,Lf (y.1=t),t.flat,fy.live with
   |true,K4,K4,K4=>match aa t y.1 y.2 with
    |some z=>match WJ U x p ⟨.arr n t,l.set i.toNat z⟩with
     |some x'=>K1 (ch s r (.box e U (YH f p (oo f p)) x'))
     |none=>K2
    |none=>K2
   |_,_,_,_=>K2
  |_=>K2
 |_=>K2
def R.setArr(h:R n W0 w X F H s a){r:Nat}{i:Int}{fy:Fl}{y:TV}{s':St}(hs:Qhx s r p i fy y=K1 s')(hv:TZ w X W0.B y.1 fy y.2 vs S)
   (he:vt W0.gh w X W0.B s F a ve [] (.aep r p i)):
  ∃b ad w' F',ve=.pointer (K1 ad)/\(storeCells ad vs).run P w=.ok () w'/\R n W0 w' X F' H s' a/\b∈F (.m r)/\ ∀k,k≠b->w'.heap[k]? =w.heap[k]? :=by
 obtain⟨_,e0,O,Q,x0,b,S0,N,t0,A,g1,g2,g3,g4,g5,g6⟩:=he;unfold Go.Am.Qhx at hs;rw[g1]at hs;simp only[g3]at hs;split at hs
 ·rename_i o hd C ar;split at hs
  ·rename_i z hz;split at hs
   ·rename_i x' au;simp only[pB]at hs;subst hs;have U:y.1=t0:=pE hd;obtain⟨t,I⟩:=y;simp only at U;subst U;have a0:I=z:=by have:=fX hz;cases this;rfl
    subst a0;have V:=h.slots (.m r);rw[g1]at V;obtain⟨D,c,S',l1,l2,l3,l4⟩:=V;rw[g2]at l2;obtain⟨rfl,rfl⟩:=Lv l2;have E:b∈F (.m r):=by rw[g2];simp
    obtain⟨pre,a7,j,S1,S2,S3,m1,m2,m3,m4,m5⟩:=kJ g3 l4;have a1:=Vn (X':=λb=>X b\/b∈S2) (λ_ h=>.inl h) o m4 (λ_ h=>.inr h);obtain⟨J,K⟩:=a1;have J:A.length=N:=J;have a2:i.toNat<A.length:=Aa
    obtain⟨f,l,d,T1,T2,T3,n1,n2,n3,n4,n5,n6⟩:=ZJ (λ_ _ _ h=>Jm h) a2 K;have a8:vs.length=t.size:=Kp hv;have a3:l.length=vs.length:=Aw
    generalize W:(c.toList.take (ai O p+i.toNat*t.size+0)++vs++c.toList.drop (ai O p+i.toNat*t.size+0+vs.length)).toArray=cc;have g:∀k,k≠b->(w.setRow b cc).heap[k]? =w.heap[k]? :=λk hk=>setRow_other w b k _ hk;have be:c.size=pre.length+(f.length+(l.length+d.length)+j.length):=Ai
    have Y:=run_storeCells_at P b (ai O p+i.toNat*t.size) e0 vs 0 c w l3 Aa (rc hv);rw[W]at Y;have e1:cc.toList=pre++((f++(vs++d))++j):=by
     rw[<-W,m1,n1,<-m3,<-n3];have h1:List.take (pre.length+f.length+0) (pre++((f++(l++d))++j))=pre++f:=by
      grind
     have h2:List.drop (pre.length+f.length+0+vs.length) (pre++((f++(l++d))++j))=d++j:=by
      rw[Nat.add_zero,<-a3,show pre++((f++(l++d))++j)=(pre++f++l)++(d++j) by simp,Nb Ae]
     rw[h1,h2];simp
    have a4:S2=[]:=by
     have:(Ty.arr N t).flat=true:=by simp_all[Ty.flat]
     have hn:vf (oo Q p) (.arr N t)=true:=by
      obtain⟨c,hc⟩:=qO m4 o;rw[hc];cases c<;>simp[vf,this]
     exact mc hn m4
    have RY:TZ w X W0.B (.arr N t) (oo Q p) (A.set i.toNat I) (f++(vs++d)) []:=by
     have hx:rd w X W0.B K4 t I vs []:=(kc C (Vn (X':=λb=>X b\/b∈S) (λ_ h=>.inl h) ar hv (λ_ h=>.inr h))).2;have hr:∀u,rd w X W0.B u (.arr N t) (A.set i.toNat I) (f++(vs++d)) []:=λu=>by
      refine⟨Af,?_⟩;have e4:A.set i.toNat I=A.take i.toNat++(I::A.drop (i.toNat+1)):=by simp_all[Nj]
      rw[e4];have q1:=(sb (r':=rd w X W0.B u t) (λx v S h=>kc C h) n5).2;have q2:=(sb (r':=rd w X W0.B u t) (λx v S h=>kc C h) n6).2;show dY (rd w X W0.B u t) (A.take i.toNat++(I::A.drop (i.toNat+1))) (f++(vs++d)) ([]++([]++[]));exact tv q1 ⟨vs,d,[],[],rfl,rfl,(kc C hx).2,q2⟩
     obtain⟨c,hc⟩:=qO m4 o
     grind[TZ]
    have Z:=m5 (oo Q p) ⟨.arr N t,A.set i.toNat I⟩ (f++(vs++d)) [] x' au RY;have L:=h.nodup (.m r);rw[g2,m2,a4]at L;have a5:b∉S1++([]++S3):=(Ni.1 L).1;have ab:¬X b:=(h.own _ b E).2.2;have a6:W0.below (w.setRow b cc):=
     ⟨h.below.os,h.below.tape,h.below.output,by simpa[Ma]using h.below.size,λk hk=>(g k (W0.sep hk (h.own _ b E).1)).trans (h.below.block k hk)⟩
    have M:TZ (w.setRow b cc) X W0.B O (YH Q p (oo Q p)) x' cc.toList (S1++([]++S3)):=by
     rw[e1];exact JO (λ_ h=>h) (λD G=>g D λe=>ab Af) Z (λD G=>g D λe=>a5 Af)
    refine⟨b,⟨b,ai O p+i.toNat*t.size,K2⟩,w.setRow b cc,Xp F (.m r) (b:: (S1++([]++S3))),g6,Y,?_,E,g⟩;refine h.turn (S':=b:: (S1++([]++S3))) a6 Af (λD G=>g D λe=>ab Af)
     (λk D hk G=>g D λe=>hk (h.pS k (.m r) D G (by rw[e];exact E))) (λq hq=>Af) (Lg.2 ⟨L,h.pK,λx hx y hy e=>h.pL (.m r) x Af (by rw[e];exact hy)⟩) (by rw[g1];simp) ?_ ⟨b,_,_,l1,rfl,setRow_heap w b c _ e0 _ l3,by simpa using M⟩
    grind
   ·cases hs
  ·cases hs
 ·cases hs
def Gv(τ:nR)(s:St)(tg:Y7)(e:Lb)(x v:Ld):Option St:=
 match τ e with
 |none=>K2
 |some T=>match ST s (Gj s tg v) T with
  |none=>K2
  |some t=>match Gj t.s tg x with
   |.tm k (.box _ _ _ _)=>Zvz t.s k [] t.f ⟨t.T,t.x⟩
   |.tm _ (.ptr r p)=>Zvz t.s r p t.f ⟨t.T,t.x⟩
   |.tm _ (.elp r p j q)=>Z2j t.s r p j q t.f ⟨t.T,t.x⟩
   |.tm _ (.aep r p i)=>Qhx t.s r p i t.f ⟨t.T,t.x⟩
   |_=>K2
def Ec(τ:nR)(s:St)(o:Lj):Option Nat:=
 match o.op with
 |.store e x v=>match τ e with
  |none=>K2
  |some T=>match ST s (Gj s [] v) T with
   |none=>K2
   |some t=>match Gj t.s [] x with
    |.tm k (.box _ _ _ _)=>K1 k
    |.tm _ (.ptr r _)=>K1 r
    |.tm _ (.aep r _ _)=>K1 r
    |_=>K2
 |_=>K2
def Z6m(h:R n W0 w X F H s a)(hτ:τ.ok P){e:Lb}{v:Ld}(ho:o.op=.store e x v)(hd:o.dst=K2){s':St}(hr:Gv τ s [] e x v=K1 s')
  {K:Act->Lc->Prop}{Q:Exit->Act->Lc->Prop} (hK:∀w' F',R n W0 w' X F' H s' a->C1 W0.gh X s a (Ec τ s o) w w'->K a w'):o.wp P a w K Q:=by
 have M:Y7.ok [] W0.gh a:=λp hp=>by cases hp
 unfold Gv at hr;split at hr
 ·cases hr
 ·rename_i T hT;split at hr
  ·cases hr
  ·rename_i t hk;obtain⟨ab,Z,S,vs,h1,D,g,_,l⟩:=ff h M hk;subst ab;have C:=A9 (rc D) (Kp D);have fin:∀{N:Le}{w':Lc},a.eval x=.pointer (K1 N)->(storeCells N vs).run P w=.ok () w'->(execOp a.eval o).run P w=.ok .skip w':=by
    intro N w' hx ar;simp only[execOp,ho,hx,h1,Instr.storeAt,Mi,storeVar,C,Lh,Lp,Lo,(hτ _ _ hT).sizeOf w];simp[Kp D,ar]
   have u:∀{w'},(execOp a.eval o).run P w=.ok .skip w'->(∃F',R n W0 w' X F' H s' a/\C1 W0.gh X s a (Ec τ s o) w w')->o.wp P a w K Q:=by
    intro w' O ⟨F',hR,hkept⟩;unfold Ls;rw[O];show K (a.put o.dst undef) w';rw[hd];exact hK w' F' hR hkept
   have z:∀{r b:Nat}{w':Lc},Ec τ s o=K1 r->b∈Z (.m r)->(∀k,k≠b->w'.heap[k]? =w.heap[k]?)->C1 W0.gh X s a (Ec τ s o) w w':=by
    intro r b w' d V hq b2 G;refine hq b2 λe=>?_;subst e;rcases G with G|⟨r2,z1,z2,z3⟩
    ·exact(g.own _ _ V).2.2 G
    ·obtain⟨S2,h4⟩:=g.boxIn (YN hk z1) z3;have:=g.pS (.m r2) (.m r) b2 (by rw[h4];simp) V;simp_all
   split at hr
   ·rename_i k e' U f y hx;obtain⟨rfl,b,c,S',g1,W,g3,g4⟩:=Vu g M hx Ac;have hg:∃e2 U2 f2 y2,t.s.get (.m k)=.box e2 U2 f2 y2:=by
     grind[Go.Am.Zvz]
    obtain⟨e2,U2,f2,y2,hg⟩:=hg;obtain⟨w',F',Y,J,L⟩:=g.setRoot (P:=P) hr rfl D ⟨_,W⟩ hg;have d:Ec τ s o=K1 k:=by simp_all[Ec]
    exact u (fin g1 (by simp_all[ai])) ⟨F',J,z d (by rw[W];simp) L⟩
   ·rename_i k r p hx;obtain⟨rfl,h0,e2,U2,f2,y2,b,S',g1,W,g3⟩:=Vu g M hx Ac;obtain⟨w',F',Y,J,L⟩:=g.setRoot (P:=P) hr rfl D ⟨_,W⟩ g1;have d:Ec τ s o=K1 r:=by simp_all[Ec]
    exact u (fin g3 Y) ⟨F',J,z d (by rw[W];simp) L⟩
   ·rename_i k r p j q hx;obtain⟨rfl,I⟩:=Vu g M hx Ac;have E:(match i6 t.s r p with|true=>t.f.allU K4||t.T.flat|false=>vf t.f t.T)=true:=by
     grind[Go.Am.Z2j]
    have A:vt W0.gh w X W0.B t.s Z a (a.eval (.tmp k)) [] (.elp r p j q):=⟨rfl,I.2⟩
    have au:∃Sy,rd w X W0.B (i6 t.s r p) t.T t.x vs Sy/\R n W0 w X Z (Sy++H) t.s a:=by
     cases hel0:i6 t.s r p<;>simp only[hel0]at E
     ·exact⟨[],Vn (λ_ h=>h) l D (λb V=>by grind[mc]),g.drop⟩
     rcases Bool.or_eq_true_iff.1 E with ho|hfl
     ·grind[TE]
     ·exact⟨[],(kc hfl (Vn (X':=λb=>X b\/b∈S) (λ_ h=>.inl h) l D (λ_ h=>.inr h))).2,g.drop⟩
    obtain⟨Sy,hv,a0⟩:=au;obtain⟨N,w',F',q0,Y,J,L⟩:=a0.setElem (P:=P) hr hv A;exact u (fin q0 Y) ⟨F',J,λb V=>L b (V.imp id λ⟨r2,z1,_,z2⟩=>⟨r2,YN hk z1,z2⟩)⟩
   ·rename_i k r p i hx;obtain⟨rfl,I⟩:=Vu g M hx Ac;have d:Ec τ s o=K1 r:=by simp_all[Ec]
    have A:vt W0.gh w X W0.B t.s Z a (a.eval (.tmp k)) [] (.aep r p i):=⟨rfl,I.2⟩
    obtain⟨b,N,w',F',q0,Y,J,L,q4⟩:=(g.drop).setArr (P:=P) hr D A
    grind
   ·cases hr
def SL(s:St)(x:VH)(t:Ty):Option (t.den×St×Bool):=
 match ST s x t with
 |some u=>match u.T,u.f,u.x,t.flat with
  |T,_,y,K4=>match aa t T y with|some z=>K1 (z,u.s,u.moved)|none=>K2
  |T,f,y,K3=>match cQ T f (.u K4),aa t T y with|true,K1 z=>K1 (z,u.s,u.moved)|_,_=>K2
 |none=>K2
def Qfp(h:R n W0 w X F H s a)(ht:tg.ok W0.gh a){t:Ty}{z:t.den}{s':St}{mv:Bool}(hk:SL s (Gj s tg x) t=K1 (z,s',mv)):
  ∃F' S vs,a.eval x=Kx t vs/\rd w X W0.B K4 t z vs S/\R n W0 w X F' (S++H) s' a/\(mv=K3->s'=s):=by
 unfold SL at hk;split at hk
 ·rename_i u r;obtain⟨k,F',S,vs,l,f,m,o,v⟩:=ff h ht r;split at hk
  ·rename_i g;split at hk
   ·rename_i p i;simp only[pB,pF]at hk;obtain⟨rfl,rfl,rfl⟩:=hk;have e:=fX i;have d:u.T.flat=true:=Af
    have y:rd w (λb=>X b\/b∈S) W0.B K3 u.T u.x vs []:=Vn (λ_ h=>.inl h) v f (λ_ h=>.inr h);have A:=(kc (X':=X) (own':=K4) (w':=w) d y).2;refine⟨F',[],vs,by rw[l,k],?_,m.drop,λj=>(o j).1⟩
    grind
   ·cases hk
  ·rename_i g;split at hk
   ·rename_i p c i;simp only[pB,pF]at hk;obtain⟨rfl,rfl,rfl⟩:=hk;have e:=fX i;refine⟨F',S,vs,by rw[l,k],?_,m,λj=>(o j).1⟩;have q:(⟨u.T,u.x⟩:TV)=⟨t,p⟩:=e;cases u with
    |mk C D E G I=>simp only at q f c;cases q;have:=re c f;simp_all[TZ]
   ·cases hk
 ·cases hk
def Sn(tg:Y7)(t:Ty):Nat->List (Nat×Ld)->St->Bool->Option (List t.den×St×Bool)
 |_,[],s,mv=>K1 ([],s,mv)
 |k,(i,y)::r,s,mv=>match Ln i k with
  |false=>K2
  |true=>match SL s (Gj s tg y) t with
   |some (z,s1,m1)=>match Sn tg t (k+1) r s1 (mv||m1)with
    |some (l,s2,m2)=>K1 (z::l,s2,m2)
    |none=>K2
   |none=>K2
theorem BI:∀{r:List (Nat×Ld)}{t:Ty}{k:Nat}{s:St}{mv:Bool}{l:List t.den}{s':St}{mv':Bool},Sn tg t k r s mv=K1 (l,s',mv')->mv'=K3->mv=K3
 |[],t,k,s,mv,l,s',mv',h,a=>by simp_all[Sn]
 |(i,y)::r,t,k,s,mv,l,s',mv',h,a=>by
  simp only[Sn]at h;split at h
  ·cases h
  ·split at h
   ·split at h
    ·rename_i b;simp only[pB,pF]at h;obtain⟨_,_,rfl⟩:=h;have:=BI b a;simp_all
    ·cases h
   ·cases h
def jQ(ht:tg.ok W0.gh a){t:Ty}:∀{parts:List (Nat×Ld)}{k:Nat}{s:St}{mv:Bool}{l:List t.den}{s':St}{mv':Bool}{F:Bk->List Nat}{H:List Nat}{cs:Array La}{A M C:List La},
  R n W0 w X F H s a->cs.toList=A++(M++C)->A.length=k*t.size->M.length=parts.length*t.size->Sn tg t k parts s mv=K1 (l,s',mv')->
  ∃F' S vs cs',L6 (λi=>K1 (i*t.size,t.size)) cs (parts.map λp=>(p.1,a.eval p.2))=K1 cs'/\cs'.toList=A++(vs++C)/\dY (rd w X W0.B K4 t) l vs S/\l.length=parts.length/\
   R n W0 w X F' (S++H) s' a/\(mv'=K3->s'=s)
 |[],k,s,mv,l,s',mv',F,H,cs,A,M,C,h,d,u,x,b=>by
  simp only[Sn,pB,pF]at b;obtain⟨rfl,rfl,rfl⟩:=b;have:M=[]:=Mt (by simpa using x);subst this;exact⟨F,[],[],cs,rfl,d,⟨rfl,rfl⟩,rfl,h,λ_=>rfl⟩
 |(i,y)::r,k,s,mv,l,s',mv',F,H,cs,A,M,C,h,d,u,x,b=>by
  simp only[Sn]at b;split at b
  ·cases b
  ·rename_i e;have e:=pD e;subst e;split at b
   ·rename_i z P Q I;split at b
    ·rename_i U V W j;simp only[pB,pF]at b;obtain⟨rfl,rfl,rfl⟩:=b;obtain⟨Y,D,vs,J,m,K,Z⟩:=Qfp h ht I;have c:=Bx (XQ m) (Jm m);have f:(a.eval y).cells.size=t.size:=by grind[Array.length_toList,Jm]
     have o:M.length=t.size+r.length*t.size:=Ai
     obtain⟨q,E,g2⟩:=lB (place:=λi=>K1 (i*t.size,t.size)) (i:=i) (rest:=r.map λp=>(p.1,a.eval p.2)) (v:=a.eval y) rfl (pre:=A) (mid:=M.take t.size) (post:=M.drop t.size++C)
      (by rw[d,<-Mj (M.take _),Nk]) u Ae f
     rw[J,c]at E;obtain⟨F',S,g,cs',k1,L,N,O,G,k6⟩:=jQ ht (k:=i+1) (cs:=q) (A:=A++vs) (M:=M.drop t.size) (C:=C) K (by rw[E];simp) Ai (by simp[o]) j;refine⟨F',D++S,vs++g,cs',Af,by rw[L];simp,⟨vs,g,D,S,rfl,rfl,m,N⟩,by simp[O],?_,λhm=>?_⟩
     ·refine G.sub ?_ ?_
      ·grind
      ·have:=G.pK
       grind
     grind[BI]
    ·cases b
   ·cases b
def Fg(τ:nR)(s:St)(tg:Y7)(e:Lb)(len:Nat)(parts:Array (Nat×Ld)):Option Oe:=
 match τ e with
 |some (.slice e' t)=>match τ e' with
  |some t2=>match Lf (t2=t),Ln parts.size len&&Nat.ble (len*t.size) 16777216 with
   |true,K4=>match Sn tg t 0 parts.toList s K3 with
    |some (l,s',mv)=>K1 ⟨.val (.slice e' t) (.u K4) l,s',mv,K2⟩
    |none=>K2
   |_,_=>K2
  |none=>K2
 |_=>K2
def Zoz(h:R n W0 w X F H s a)(ht:tg.ok W0.gh a)(hτ:τ.ok P){e:Lb}(ho:o.op=.buildSlice e len parts){r:Oe}(hr:Fg τ s tg e len parts=K1 r):YU P n W0 w X H s a o r:=by
 unfold Fg at hr;split at hr
 ·rename_i J t u;split at hr
  ·rename_i d y;split at hr
   ·rename_i L f;split at hr
    ·rename_i l s' mv j;simp only[pB]at hr;subst hr;have:=pE L;subst this;simp only[pC,Nat.ble_eq]at f;have D:=pD f.1;obtain⟨hu,m⟩:=(hτ _ _ u).slice;obtain⟨i,hi,N,_,hz⟩:=(hτ _ _ y).size;intro _ K Q O;obtain⟨c,E⟩:∃c:Array La,c=(Array.range (len*i.size)).map ((Kx d (Wz d)).cells[· % (Kx d (Wz d)).cells.size]!):=⟨_,rfl⟩
     have G:c.toList.length=len*d.size:=Af
     obtain⟨U,S,z,g,k1,V,W,k4,I,Y⟩:=jQ ht (k:=0) (cs:=c) (A:=[]) (M:=c.toList) (C:=[]) h Ac Ac Af j;have p:l.length=len:=Af
     have q:(execOp a.eval o).run P w=.ok (.value (.slice (K1 ⟨w.heap.size,0,K2⟩) len len)) (w.alloc (.cells g J)):=by
      simp only[execOp,ho,Lh];by_cases Z:len*i.size=0
      ·have ab:len=0:=by
        grind[Nat.mul_eq_zero]
       simp_all[Instr.buildSlice,run_underlying,Lr,typeInfo,newRow,Array.range_zero']
      simp_all[run_buildSlice]
     unfold Ls;rw[q];have ad:g.toList=z:=by simpa using V
     refine O _ X U (w.heap.size::S) _ (λ_ h=>h) (I.alloc _) ⟨[_],rfl,?_⟩ Y ⟨λ_=>H6.alloc _ _,h.kept (H6.alloc _ _)⟩;unfold TZ;have B:z.length=len*d.size:=by grind[JR,Jm]
     refine⟨_,z,[w.heap.size],S,rfl,rfl,⟨⟨by rw[B,p],.inr ⟨w.heap.size,len,g,by rw[p],h.below.sizeB,RY _ _,Aa,?_,?_,?_⟩⟩,rfl⟩,?_⟩
     ·have:=f.2;have h2:len<=len*d.size:=Nat.le_mul_of_pos_right _ m
      grind[maxLen]
     ·grind
     ·grind
     ·exact J0 W λx v T _ u hr=>fx (λ_ h=>h) (λb j=>hold w _ b (h.xlt b j)) hr λb j=>hold w _ b (I.hown b (by simp[u b j])).2.1
    ·cases hr
   ·cases hr
  ·cases hr
 ·cases hr
def HZ(τ:nR)(s:St)(tg:Y7)(e:Lb)(parts:Array (Nat×Ld)):Option Oe:=
 match τ e with
 |some (.arr n t)=>match parts.toList with
  |[]=>K1 ⟨.val (.arr n t) (.u K4) (Lw n (zero t)),s,K3,K2⟩
  |p::ps=>match Ln (p::ps).length n,Sn tg t 0 (p::ps) s K3 with
   |true,K1 (l,s',mv)=>K1 ⟨.val (.arr n t) (.u K4) l,s',mv,K2⟩
   |_,_=>K2
 |_=>K2
def Ztk(h:R n W0 w X F H s a)(ht:tg.ok W0.gh a)(hτ:τ.ok P){e:Lb}(ho:o.op=.build e parts){r:Oe}(hr:HZ τ s tg e parts=K1 r):YU P n W0 w X H s a o r:=by
 unfold HZ at hr;split at hr
 ·rename_i m t f;obtain⟨y,W,z,g⟩:=(hτ _ _ f).arr;obtain⟨i,Y,B,_,Z⟩:=(hτ _ _ f).size;obtain⟨j,hj,D,_⟩:=yy g;have E:(Kx (.arr m t) (Wz (.arr m t))).cells=(Wz (.arr m t)).toArray:=rfl;split at hr
  ·rename_i q;simp only[pB]at hr;subst hr;intro _ K Q u;have c:(execOp a.eval o).run P w=.ok (.value (.agg (Wz (.arr m t)).toArray)) w:=by
    simp_all[execOp,Mp,zeroValue,typeInfo,run_underlying,Lr,L6]
   unfold Ls;rw[c];refine u _ X F [] w (λ_ h=>h) (by simpa using h) ⟨Wz (.arr m t),rfl,?_⟩ (λ_=>rfl) ⟨λ_=>H6.refl w,h.kept (H6.refl w)⟩;unfold TZ;exact LV (hτ _ _ f).plain
  ·rename_i p ps q;split at hr
   ·rename_i l s' mv b G;simp only[pB]at hr;subst hr;have b:=pD b;intro _ K Q u;have v:(Wz (.arr m t)).length=m*t.size:=WN (hτ _ _ f).plain;obtain⟨I,S,J,d,k1,L,N,O,U,V⟩:=jQ ht (k:=0) (cs:=(Wz (.arr m t)).toArray) (A:=[]) (M:=Wz (.arr m t)) (C:=[]) h Ac Ac (by rw[v,b]) G;have c:(execOp a.eval o).run P w=.ok (.value (.agg d)) w:=by
     simp only[execOp,ho,Lh,Mp,zeroValue,typeInfo,Lp,run_underlying z,Lo];simp_all[Lr,typeInfo]
    unfold Ls;rw[c];have x:d.toList=J:=by simpa using L
    refine u _ X I S w (λ_ h=>h) U ⟨d.toList,by simp[Kx],?_⟩ V ⟨λ_=>H6.refl w,h.kept (H6.refl w)⟩;unfold TZ;rw[x];exact⟨by rw[O,b],N⟩
   ·cases hr
 ·cases hr
def VC(z:List La):∀(m j:Nat),j<m*z.length->(Lw m z).flatten[j]? =z[j%z.length]?
 |0,j,h=>by simp at h
 |m+1,j,h=>by
  rw[List.replicate_succ,List.flatten_cons];by_cases a:j<z.length
  ·rw[Lt a,Nat.mod_eq_of_lt a]
  ·rw[Lu Aa,VC z m (j-z.length) Ai];simp_all[Nat.mod_eq_sub_mod]
theorem Z4x(z:Array La){l c:Nat}(hlc:l<=c):(madeCells z (c*z.size)).toList.take (l*z.size)=(Lw l z.toList).flatten:=by
 apply Mu;intro j;have d:(Lw l z.toList).flatten.length=l*z.size:=Ac
 by_cases a:j<l*z.size
 ·have b:j<c*z.size:=L5 a (Nn _ hlc);have f:0<z.size:=Nat.pos_of_ne_zero λe=>Af
  rw[List.getElem?_take,if_pos a,VC _ _ _ (by simpa using a)];simp_all[Nat.mod_lt,madeCells]
 grind
def UH(τ:nR)(s:St)(tg:Y7)(e:Lb)(x y:Ld):Option Oe:=
 match τ e with
 |some (.slice e' t)=>match τ e',QM s (Gj s tg x),QM s (Gj s tg y)with
  |some t2,K1 (_,l),K1 (_,c)=>match Lf (t2=t)with
   |true=>K1 ⟨.val (.slice e' t) (.u K4) (Lw l.toNat (zero t)),s,K3,K1 (0<=l/\l<=c/\c<=Qd)⟩
   |false=>K2
  |_,_,_=>K2
 |_=>K2
def Z7e(h:R n W0 w X F H s a)(ht:tg.ok W0.gh a)(hτ:τ.ok P){e:Lb}(ho:o.op=.makeSlice e x y){r:Oe}(hr:UH τ s tg e x y=K1 r):YU P n W0 w X H s a o r:=by
 unfold UH at hr;split at hr
 ·rename_i j t m;split at hr
  ·rename_i f p l q c b u v;split at hr
   ·rename_i z;simp only[pB]at hr;subst hr;have:=pE z;subst this;obtain⟨A,k⟩:=(hτ _ _ m).slice;obtain⟨i,B,C,D,E⟩:=(hτ _ _ b).size;intro G K Q I;obtain⟨J,L,M⟩:0<=l/\l<=c/\c<=Qd:=G;have g:c<=17179869184:=M;have N:=iE h ht u;have O:=iE h ht v;have S:(i.bytes:Int)*c<=281474976710656:=by
     have:(i.bytes:Int)*c<=8192*17179869184:=Int.mul_le_mul Aa g Aa Aa;omega
    have d:(execOp a.eval o).run P w=.ok (.value (.slice (K1 ⟨w.heap.size,0,K2⟩) l.toNat c.toNat)) (w.alloc (.cells (madeCells (Wz f).toArray (c.toNat*i.size)) j)):=by
     simp only[execOp,ho,N,O,Lh,run_make w e j i _ A B E p q l c J L S Aa,Lo,Lp,WG (hτ _ _ b).plain]
    unfold Ls;rw[d];refine I _ X F [w.heap.size] _ (λ_ h=>h) (h.alloc _) ⟨[_],rfl,?_⟩ (λ_=>rfl) ⟨λ_=>H6.alloc _ _,h.kept (H6.alloc _ _)⟩;unfold TZ;have U:(Wz f).toArray.size=f.size:=by simp[WN (hτ _ _ b).plain]
    refine⟨_,(Lw l.toNat (Wz f)).flatten,[w.heap.size],[],rfl,rfl,⟨⟨Af,.inr ⟨w.heap.size,c.toNat,_,Ac,h.below.sizeB,RY _ _,Ae,by grind[maxLen],?_,?_⟩⟩,rfl⟩,Om (LV (hτ _ _ b).plain) _⟩
    all_goals grind[size_madeCells,Z4x]
   ·cases hr
  ·cases hr
 ·cases hr
def Em(τ:nR)(s:St)(tg:Y7)(e:Lb)(x y:Ld):Option Oe:=
 match τ e with
 |some (.slice e' t)=>match τ e' with
  |some t2=>match Lf (t2=t),ST s (Gj s tg x) (.slice e' t)with
   |true,K1 ⟨.slice e1 t1,.u K4,l,s1,_⟩=>match Lf (e1=e'/\t1=t)with
    |true=>match t.flat,Ek s1 (Gj s1 tg y)with
     |true,K1 ⟨_,t3,_,l3⟩=>match aa (.slice e' t1) (.slice e' t3) l3 with
      |some l4=>K1 ⟨.val (.slice e' t1) (.u K4) (l++l4),s1,K4,K1 (l.length+l4.length<=Qd)⟩
      |none=>K2
     |false,_=>match ST s1 (Gj s1 tg y) (.slice e' t)with
      |some ⟨.slice e3 t3,.u K4,l3,s2,_⟩=>match aa (.slice e' t1) (.slice e3 t3) l3 with
       |some l4=>K1 ⟨.val (.slice e' t1) (.u K4) (l++l4),s2,K4,K1 (l.length+l4.length<=Qd)⟩
       |none=>K2
      |_=>K2
     |_,_=>K2
    |false=>K2
   |_,_=>K2
  |none=>K2
 |_=>K2
def jP{e:Lb}{t:Ty}(hT:Uy P e (.slice e' t))(hT2:Uy P e' t){vy:La}{l l4:List t.den}
  (hown:w.ownsRow B e' t.size v l.length xs) (hy:∃ad cap,vy=.slice ad l4.length cap/\l4.length<=cap/\((ad=K2/\l4.length=0/\cap=0)\/ ∃a0,ad=K1 a0/\ ∀j u,ys[j]? =K1 u->w.cell? (a0.add j)=K1 u)) (hyl:ys.length=l4.length*t.size)
  (h1:∀u∈ys,u.oneCell'=K4) (hp:l.length+l4.length<=Qd) (hB:B<=w.heap.size):
  ∃v' w',(Mg #[e,e] e #[v,vy]).run P w=.ok v' w'/\w'.ownsRow B e' t.size v' (l.length+l4.length) (xs++ys)/\w.grownBy w' v.ownBlock/\(v'.ownBlock=v.ownBlock\/ ∀b,v'.ownBlock=K1 b->w.heap.size<=b):=by
 obtain⟨o,f⟩:=hT.slice;obtain⟨i,p,a,E,F⟩:=hT2.size;have r:(Kx t (Wz t)).cells.size=t.size:=by rw[WG hT2.plain];simp[WN hT2.plain]
 have G:l.length+l4.length<=17179869184:=hp;obtain⟨ad,cap,rfl,Q,q⟩:=hy;rcases q with⟨rfl,s,rfl⟩|⟨a0,rfl,q⟩
 ·have H:ys=[]:=Mt Af;subst H;have x:=hown.2;rcases x with⟨rfl,N⟩|⟨g,cap,h,rfl,I,O,y,J,z,K⟩
  ·refine⟨.slice K2 0 0,w,?_,Af,⟨rfl,rfl,rfl,Lz _,λ_ _ _=>rfl⟩,.inl rfl⟩;rw[s];simp[Mg,run_underlying o,Lr,typeInfo,p,M3,M2]
  ·refine⟨.slice (K1 ⟨g,0,K2⟩) l.length cap,w,?_,Af,⟨rfl,rfl,rfl,Lz _,λ_ _ _=>rfl⟩,.inl rfl⟩;rw[s];simp[Mg,run_underlying o,Lr,typeInfo,p,M3,M2,y,storeCells]
 ·have k:(l.length+l4.length)*i.bytes<=140737488355328:=by
   have:(l.length+l4.length)*i.bytes<=17179869184*8192:=Nat.mul_le_mul G E;omega
  have A:l.length+l4.length<=maxLen:=by grind[maxLen]
  obtain⟨v',w',L,S,U,_⟩:=run_append_own (P:=P) w B e e e' i _ t.size i.bytes o p F a rfl r f v l.length xs hown a0 l4.length cap ys hyl q h1 A k hB;refine⟨v',w',L,S,U,?_⟩;rcases hown.2 with⟨rfl,N⟩|⟨g,c,h,rfl,I,O,y,J,z,K⟩
  ·have m:w.ownsRow w.heap.size e' t.size (.slice K2 0 0) l.length xs:=⟨hown.1,.inl ⟨rfl,N⟩⟩
   obtain⟨W,X,M,V,_⟩:=run_append_own (P:=P) w w.heap.size e e e' i _ t.size i.bytes o p F a rfl r f _ l.length xs m a0 l4.length cap ys hyl q h1 A k (Lz _);rw[L]at M;simp only[Nq]at M;obtain⟨rfl,rfl⟩:=M;exact .inr λb I=>(V.lt b I).1
  ·by_cases d:l.length+l4.length<=c
   ·have C:l.length*i.size+ys.length<=h.size:=by rw[hyl,z,a,<-Nl];exact Nn _ d
    have D:=run_append_room (P:=P) w e e e' i o p g l.length c h O a0 l4.length cap ys (by rw[hyl,a]) q h1 d C;rw[L]at D;simp only[Nq]at D;exact .inl (by rw[D.1];rfl)
   ·have n:∀j u,xs[j]? =K1 u->w.cell? ((⟨g,0,K2⟩:Le).add j)=K1 u:=hown.cells (g:=g) rfl;have D:=run_append_grow (P:=P) w e e e' i _ o p F ⟨g,0,K2⟩ l.length c xs (by rw[hown.1,a]) n a0 l4.length cap ys (by rw[hyl,a]) q Aa Aa (growslice_fits Aa k)
    grind[L9]
def DZ{B':Nat}{e:Lb}{nn:Nat}(h:w.ownsRow B e sz v nn xs)(hB:B'<=B):w.ownsRow B' e sz v nn xs:=⟨h.1,h.2.imp id λ⟨g,a,b,c,d,f⟩=>⟨g,a,b,c,Md hB d,f⟩⟩
def Z9w{S1 S2 S4:List Nat}(h:R n W0 w X F (S1++(S2++(S4++H))) s a){t:Ty}{v':La}{l l4:List t.den}
  (h1:HW w X W0.B K4 e' t.size l.length v xs S1) (h2:dY (rd w X W0.B K4 t) l xs S2) (h4:dY (rd w X W0.B K4 t) l4 ys S4)
  (g2:w'.ownsRow W0.B e' t.size v' (l.length+l4.length) (xs++ys)) (g3:w.grownBy w' v.ownBlock) (g4:v'.ownBlock=v.ownBlock\/ ∀b,v'.ownBlock=K1 b->w.heap.size<=b):
  ∃S,R n W0 w' X F (S++H) s a/\rd w' X W0.B K4 (.slice e' t) (l++l4) [v'] S/\(∀b,X b->w'.heap[b]? =w.heap[b]?)/\ ∀k b,b∈F k->w'.heap[b]? =w.heap[b]? :=by
 have j:S1=v.ownBlock.toList:=h1.2;have d:∀b,b<w.heap.size->b∉S1->w'.heap[b]? =w.heap[b]? :=λb c z=>g3.block b c (λe=>z Af);have i:=h.pK;have m:∀b,X b->w'.heap[b]? =w.heap[b]? :=λb c=>d b (h.xlt b c) λf=>(h.hown b (by simp[f])).2.2 c;have r:∀k b,b∈F k->w'.heap[b]? =w.heap[b]? :=λk b c=>d b (h.own k b c).2.1 λf=>h.pL k b c (by simp[f]);have g:∀b,b∈S2++(S4++H)->b∉S1:=λb c f=>(Lg.1 i).2.2 b f b c rfl;have A:∀b,b∈S2++(S4++H)->w'.heap[b]? =w.heap[b]? :=λb c=>d b (h.hown b Af).2.1 (g b c);have o:W0.below w':=⟨g3.os.trans h.below.os,g3.tape.trans h.below.tape,g3.output.trans h.below.output,Md h.below.size g3.size,λk hk=>
  (d k (L5 (W0.yW k hk) h.below.size) λf=>W0.sep hk (h.hown k (by simp[f])).1 rfl).trans (h.below.block k hk)⟩
 have u:=(h.drop).world o g3.size m r;have p:=g2.lt;have C:R n W0 w' X F (v'.ownBlock.toList++(S2++(S4++H))) s a:=by
  rcases g4 with g4|g4
  ·rw[g4,<-j];refine u.hand (λb c=>?_) (Lg.1 i).1 (λk b c f=>h.pL k b c (by simp[f])) (λb c f=>g b f c);obtain⟨I,J,K⟩:=h.hown b (by simp[c]);simp_all
  ·refine u.hand (λb c=>?_) Ai (λk b c f=>?_) (λb c f=>?_)
   ·have c:v'.ownBlock=K1 b:=by simpa using c
    exact⟨.inl (Md h.below.size (g4 b c)),(p b c).2,λhx=>Ai⟩
   all_goals grind
 have y:∀{l:List t.den}{xs:List La}{S:List Nat},dY (rd w X W0.B K4 t) l xs S->(∀b∈S,b∈S2++(S4++H))->dY (rd w' X W0.B K4 t) l xs S:=λD E=>
  J0 D λx v T _ G q=>fx (λ_ h=>h) m q λb c=>A b (E b (G b c))
 refine⟨v'.ownBlock.toList++(S2++S4),Af,⟨v',xs++ys,v'.ownBlock.toList,S2++S4,rfl,rfl,⟨by simpa using g2,rfl⟩,?_⟩,m,r⟩;simp_all[tv]
def Z0w(h:R n W0 w X F H s a)(ht:tg.ok W0.gh a)(hτ:τ.ok P){e:Lb}(ho:o.op=.call {callee:=.builtin .append,args:= #[x,y],argTypes:= #[e,e]}){r:Oe}(hr:Em τ s tg e x y=K1 r):YU P n W0 w X H s a o r:=by
 unfold Em at hr;split at hr
 ·rename_i e' t hT;split at hr
  ·rename_i t2 O;split at hr
   ·rename_i e1 U l s1 m1 hd hx;have:=pE hd;subst this;obtain⟨_,F1,S,vs,q1,V,I,_,_⟩:=ff h ht hx;split at hr
    ·rename_i W;obtain⟨rfl,rfl⟩:=pE W;simp only at q1 V I;unfold TZ at V;obtain⟨v,xs,Y,Z,rfl,rfl,k1,k2⟩:=V;have fin:∀{i m S4 z f}{p:La}{r:Oe},R n W0 w X m (S4++((Y++Z)++H)) i a->(∀r,s.isBox r->i.isBox r)->a.eval y=p->
       (∃A d,p=.slice A f.length d/\f.length<=d/\((A=K2/\f.length=0/\d=0)\/ ∃J,A=K1 J/\ ∀j u,z[j]? =K1 u->w.cell? (J.add j)=K1 u))->
       dY (rd w X W0.B K4 U) f z S4->r=⟨.val (.slice e1 U) (.u K4) (l++f),i,K4,K1 (l.length+f.length<=Qd)⟩->YU P n W0 w X H s a o r:=by
      intro i m S4 z f p r hR ab q hc c ar;subst ar;intro L K Q hK;obtain⟨v',M,g1,N,C,g4⟩:=jP (P:=P) (hτ _ _ hT) (hτ _ _ O) k1.1 hc (JR (λ_ _ _ h=>Jm h) c) (Dv (λ_ _ _ h=>XQ h) c) L h.below.sizeB;have au:R n W0 w X m (Y++(Z++(S4++H))) i a:=hR.sub (λb g=>Ai) (by
       have:=hR.pK;simp only[Lg,Ll]at this⊢
       grind)
      obtain⟨S',z1,z2,z3,z4⟩:=Z9w au k1 k2 c N C g4;have a1:a.eval x=v:=q1;have D:(execOp a.eval o).run P w=.ok (.value v') M:=by
       simp only[execOp,ho];have a2:(Mg #[e,e] o.type #[v,p]).run P w=.ok v' M:=g1;simp[resolve,invoke,builtin,a1,q,a2]
      have E:C1 W0.gh X s a K2 w M:=by
       intro b g;rcases g with g|⟨r,h1,_,h2⟩
       ·exact z3 b g
       ·obtain⟨S,h3⟩:=hR.boxIn (ab r h1) h2
        grind
      unfold Ls;rw[D];exact hK _ X m S' M (λ_ h=>h) z1 ⟨[v'],rfl,Au⟩ Ac ⟨λL=>(by rw[ho]at L;cases L),E⟩
     split at hr
     ·rename_i e3 t3 b3 l3 G q;split at hr
      ·rename_i f k;simp only[pB]at hr;have:=fX k;cases this;obtain⟨p,z,T1,T2,g1,N,C,g4⟩:=Tk I ht q;have g5:=sb (r':=rd w X W0.B K4 U) (λx v S h=>kc G h) C;refine fin (S4:=[]) (by simpa using I) (λr g=>YN hx g) g1 ?_ g5.2 hr.symm
       grind[fY]
      ·cases hr
     ·rename_i G;split at hr
      ·rename_i e3 t3 l3 i m2 q;split at hr
       ·rename_i f k;simp only[pB]at hr;have:=fX k;cases this;obtain⟨_,m,S4,a4,u1,u2,u3,_,_⟩:=ff I ht q;simp only at u1 u2 u3;unfold TZ at u2;obtain⟨p,z,T1,T2,rfl,rfl,N,C⟩:=u2;have a3:R n W0 w X m (T2++((Y++Z)++H)) i a:=by
         rw[Mj]at u3;exact u3.drop
        refine fin a3 (λr g=>YN q (YN hx g)) u1 ?_ C hr.symm;obtain⟨A,d,z1,z2,_,z3⟩:=fY N;exact⟨A,d,z1,z2,z3.imp id λ⟨J,u1,_,u2⟩=>⟨J,u1,u2⟩⟩
       ·cases hr
      ·cases hr
     ·cases hr
    ·cases hr
   ·cases hr
  ·cases hr
 ·cases hr
end Go.Am

/- No condition. -/
import Derived.WalkKit
import Derived.Great.BuildSlice
set_option linter.all false
namespace Go.Am
open Option renaming some→K1,none→K2,map_eq_some_iff→Mq,map_none→M5
open Go renaming Value→K3,TypeId→Lb,World→Lc,Addr→Ld,Operand→Le,Oper→Lk,Result→Ll,Builtin→Lq,sizeOf→Ls,IntKind→Ly,Program→Lz,isAgg→L2,FuncId→L5
open Bool renaming false→K4,true→La,or_eq_false_iff→Mh,or_eq_true→M8,or_eq_true_iff→M9
open Decidable renaming decide→Lf
open List renaming nodup_append→Lg,mem_append→Lm,getElem?_append_left→Lt,getElem?_append_right→Lu,replicate→Lw,getElem?_eq_some_iff→L8,eq_nil_of_length_eq_zero→Mc,append_assoc→Ml,nodup_iff_count→Mm,count_append→Mw,ext_getElem?→Mx,length_append→My,length_eq_one_iff→Mz,length_take→M0,mem_singleton→M1,take_append_drop→M2,append_inj→Nf,append_nil→Ng,count_cons→Nh,count_pos_iff→Ni,drop_left'→Nj,foldl_cons→Nk,getElem?_eq_getElem→Nl,mem_cons→Nm,nil_append→Nn,nodup_cons→Np,set_eq_take_append_cons_drop→Nq,take_of_length_le→Nr
open Sem renaming run_bind→Lh,run_pure→Lp
open Sigma.mk renaming injEq→Li
open Addr renaming add→Lj
open Result renaming andThen_ok→Ln
open Nat renaming beq→Lo,le_refl→Lx,blt→L4,lt_of_lt_of_le→L6,beq_refl→Md,le_trans→Me,add_mul→Mn,blt_eq→Mo,lt_irrefl→M3,add_zero→Ns,min_eq_left→Nt,mul_le_mul_right→Nu
open Oper renaming wp→Lr
open List.cons renaming inj→Lv
open Ne renaming symm→L0
open Value renaming ownBlock→L1,oneCell'→Ma,slice→M7,int→Nx
open World renaming cell?_of_block→L3,setRow→Mb,cell?→Ny
open Instr renaming fill→L7,sliceBounds→Mj,sureAddr→Mk,build→Mr,indexAt→Ms,slice→Mt,sliceAt→Mu,sliceBound→Mv,fieldAt→Nd
open Obj.cells renaming injEq→L9
open Value.slice renaming injEq→Mf
open Act renaming put→Mg
open Builtin renaming append_→Mi,firstCells→Na,lenOf→Nb,len_→Nc
open Op renaming bytesLess→Mp,stringOp→M4
open Prod renaming mk→M6
open Result.ok renaming injEq→Nv
open UInt8 renaming ofNat→Nw
open List.Sublist renaming refl→Nz
def Aa{p:Prop}(h:p:=by omega):p:=h
def Ab{p:Prop}(h:p:=by kernel_rfl):p:=h
def Ac{p:Prop}(h:p:=by simp):p:=h
def Ae{p:Prop}(h:p:=by simp;omega):p:=h
def Af{p:Prop}(h:p:=by simp_all):p:=h
def Ag{p:Prop}(h:p:=by grind):p:=h
def Ah{p:Prop}(h:p:=by decide):p:=h
def Ai{p:Prop}(h:p:=by simp only;omega):p:=h
def Aj{p:Prop}(h:p:=by grind[Qg]):p:=h
def Ak{p:Prop}(h:p:=by simp_all[Pr]):p:=h
def Al{p:Prop}(h:p:=by grind[Ym]):p:=h
def Ao{p:Prop}(h:p:=by grind[Zr]):p:=h
def Ap{p:Prop}(h:p:=by grind[W3]):p:=h
def Aq{p:Prop}(h:p:=by grind[Pr]):p:=h
def Ar{p:Prop}(h:p:=by simp_all[xW]):p:=h
def As{p:Prop}(h:p:=by simp_all[Ye]):p:=h
def At{p:Prop}(h:p:=by grind[T6]):p:=h
def Au{p:Prop}(h:p:=by grind[uj]):p:=h
def Av{p:Prop}(h:p:=by grind[X9]):p:=h
def Aw{p:Prop}(h:p:=by grind[Jo]):p:=h
def Ax{p:Prop}(h:p:=by simp_all[Dc]):p:=h
def Ay{p:Prop}(h:p:=by grind[Kh]):p:=h
def Az{p:Prop}(h:p:=by simp_all[Wb]):p:=h
def AA{p:Prop}(h:p:=by simp_all[Wa]):p:=h
variable{a:Act}{ad:Ld}{parts:Array (Nat×Le)}{f:L5}{j:Int}{S p S0 l S' H' q:List Nat}{xs vs mid post ys:List K3}{n m B sz i b d g off len cap n':Nat}{X:Nat->Prop}{gh:Nat->K3}{x y:Le}{lo:Option Le}{α β:Type _}{e2 e':Lb}{v u ve:K3}{w w':Lc}
instance{α:Type}:CoeOut (List α) Nat:=⟨λl=>l.length⟩
instance{α:Type}:CoeOut (List α) Int:=⟨λl=>(l.length:Int)⟩
open Go.RowKit
def pA(a:α)(f:α->Option β):(K1 a).bind f=f a:=rfl
theorem pB(a b:α):(K1 a=K1 b)=(a=b):=Option.some.injEq a b
def pC(a b:Bool):((a&&b)=La)=(a=La/\b=La):=Bool.and_eq_true a b
theorem pD(h:Lo n m=La):n=m:=Nat.eq_of_beq_eq_true h
def pE{p:Prop}[Decidable p](h:decide p=La):p:=of_decide_eq_true h
def pF(a:α)(b:β)(c:α)(d:β):((a,b)=(c,d))=(a=c/\b=d):=M6.injEq a b c d
def pG(a b:α):cond La a b=a:=rfl
def pH(a b:α):cond K4 a b=b:=rfl
def pI:(!La)=false:=rfl
def pJ(b:Bool):(La&&b)=b:=Bool.true_and b
inductive Ty where
 |unit|int (k:Ly)|bool|str|slice (e:Lb) (t:Ty)|pair (a b:Ty)|arr (n:Nat) (t:Ty)|fnc (f:L5)|err|hid (t:Ty)|sptr (e:Lb) (t:Ty)|clo (f:L5) (t:Ty)
 deriving DecidableEq
@[reducible] def Ty.den:Ty->Type|.unit=>Unit|.int _=>Int|.bool=>Bool|.str=>List UInt8|.slice _ t=>List t.den|.pair a b=>a.den×b.den|.arr _ t=>List t.den|.fnc _=>Unit|.err=>Bool|.hid _=>Unit|.sptr _ t=>t.den|.clo _ t=>t.den
def Ty.size:Ty->Nat|.unit=>0|.pair a b=>a.size+b.size|.arr n t=>n*t.size|_=>1
def Ty.flat:Ty->Bool|.slice .. =>K4|.pair a b=>a.flat&&b.flat|.arr _ t=>t.flat|.hid t=>t.flat|.sptr .. =>K4|.clo .. =>K4|_=>La
def Ty.plain:Ty->Bool|.sptr .. =>K4|.clo .. =>K4|.pair a b=>a.plain&&b.plain|.arr _ t=>t.plain|.hid t=>Lo t.size 1&&t.plain|_=>La
def Yh(T:Ty)(vs:List K3):K3:=
 match T with
 |.unit|.pair .. |.arr .. =>.agg vs.toArray
 |_=>vs.headD undef
def cS{α:Type}(r:α->List K3->List Nat->Prop):List α->List K3->List Nat->Prop|[],vs,S=>vs=[]/\S=[]|x::xs,vs,S=> ∃v1 v2 S1 S2,vs=v1++v2/\S=S1++S2/\r x v1 S1/\cS r xs v2 S2
inductive Ow where
 |sh|ow|an
 deriving DecidableEq
def ep(w:Lc)(X:Nat->Prop)(B:Nat)(own:Ow)(e:Lb)(sz n:Nat)(v:K3)(xs:List K3)(S:List Nat):Prop:=
 match own with
 |.ow=>w.ownsRow B e sz v n xs/\S=v.ownBlock.toList
 |.an=>xs.length=n*sz/\S=v.ownBlock.toList/\((v=.slice K2 0 0/\n=0)\/
   ∃g o cap cur,v=.slice (K1 ⟨g,o,K2⟩) n cap/\B<=g/\w.heap[g]? =K1 (.cells cur e (0,0))/\n<=cap/\cap<=maxLen/\o+cap*sz<=cur.size/\(cur.toList.drop o).take (n*sz)=xs)
 |.sh=>S=[]/\xs.length=n*sz/\ ∃a cap,v=.slice a n cap/\n<=cap/\cap<=maxLen/\
   ((a=K2/\n=0/\cap=0)\/ ∃ad,a=K1 ad/\(n=0\/X ad.block)/\ ∀j u,xs[j]? =K1 u->w.cell? (ad.add j)=K1 u)
def Ow.mine:Ow->Bool|.sh=>K4|_=>La
def Ow.mine_sh{b:Ow}(h:b.mine=K4):b=.sh:=by cases b<;>first|rfl|cases h
def SD{b:Ow}(hb:b.mine=La){e:Lb}(h:ep w X B b e sz n v xs S):S=v.ownBlock.toList:=by
 cases b
 ·cases hb
 ·exact h.2
 ·exact h.2.1
def rd(w:Lc)(X:Nat->Prop)(B:Nat)(own:Ow):(T:Ty)->T.den->List K3->List Nat->Prop|.unit,_,vs,S=>vs=[]/\S=[]|.int k,x,vs,S=>vs=[.int k x]/\S=[]|.bool,x,vs,S=>vs=[.bool x]/\S=[]|.fnc f,_,vs,S=>vs=[.func (.func f) #[] #[]]/\S=[]|.str,x,vs,S=>vs=[.string ⟨⟨x⟩⟩]/\S=[]|.slice e t,x,vs,S=> ∃v xs S1 S2,vs=[v]/\S=S1++S2/\ep w X B own e t.size x.length v xs S1/\cS (rd w X B own t) x xs S2|.pair a b,x,vs,S=> ∃v1 v2 S1 S2,vs=v1++v2/\S=S1++S2/\rd w X B own a x.1 v1 S1/\rd w X B own b x.2 v2 S2|.arr n t,x,vs,S=>x.length=n/\cS (rd w X B own t) x vs S|.err,x,vs,S=>(∃v,vs=[v]/\v.oneCell'=La/\((x=La/\v=.nilIface)\/(x=K4/\ ∃t u,v=.iface t u)))/\S=[]|.hid t,_,vs,S=>vs.length=1/\ ∃y,rd w X B own t y vs S|.sptr e t,x,vs,S=>S=[]/\own=.sh/\ ∃b c,vs=[.pointer (K1 ⟨b,0,K2⟩)]/\X b/\w.heap[b]? =K1 (.cells c e (0,0))/\rd w X B own t x c.toList []|.clo f t,x,vs,S=>S=[]/\ ∃cs:List K3,vs=[.func (.func f) #[] cs.toArray]/\rd w X B own t x cs []
inductive Fl where
 |u (own:Ow)|p (a b:Fl)|d
def Pr(w:Lc)(X:Nat->Prop)(B:Nat):(T:Ty)->Fl->T.den->List K3->List Nat->Prop|T,.d,_,vs,S=>vs.length=T.size/\(∀u∈vs,u.oneCell'=La)/\S=[]|T,.u b,x,vs,S=>rd w X B b T x vs S|.pair a b,.p f g,x,vs,S=> ∃v1 v2 S1 S2,vs=v1++v2/\S=S1++S2/\Pr w X B a f x.1 v1 S1/\Pr w X B b g x.2 v2 S2|.slice e t,.p (.u .ow) (.u .sh),x,vs,S=> ∃v xs,vs=[v]/\ep w X B .ow e t.size x.length v xs S/\cS (rd w X B .sh t) x xs []|_,.p ..,_,_,_=>False
theorem nB{e:Lb}{t:Ty}{f g:Fl}{x:List t.den}(h:Pr w X B (.slice e t) (.p f g) x vs S):
  f=.u .ow/\g=.u .sh/\ ∃v xs,vs=[v]/\ep w X B .ow e t.size x.length v xs S/\cS (rd w X B .sh t) x xs []:=by
 cases f with
 |u b=>cases b with
  |ow=>cases g with
   |u c=>cases c with
    |sh=>exact⟨rfl,rfl,h⟩
    |ow=>exact h.elim
    |an=>exact h.elim
   |p _ _=>exact h.elim
   |d=>exact h.elim
  |sh=>exact h.elim
  |an=>exact h.elim
 |p _ _=>exact h.elim
 |d=>exact h.elim
variable {w w':Lc}{X X':Nat->Prop}{B:Nat}{own:Ow}
def Yt{α:Type}{r r':α->List K3->List Nat->Prop}:∀{xs:List α}{vs:List K3}{S:List Nat},
  cS r xs vs S->(∀x v T,x∈xs->(∀b∈T,b∈S)->r x v T->r' x v T)->cS r' xs vs S
 |[],_,_,h,_=>h
 |x::xs,_,_,⟨a,d,c,e,f,g,i,j⟩,k=>
  ⟨a,d,c,e,f,g,k x a c Ac Af i,
   Yt j λy v T l m=>k y v T (by simp[l]) Af⟩
theorem XJ{α:Type}{r:α->List K3->List Nat->Prop}{n:Nat}(hr:∀x v S,r x v S->v.length=n):∀{xs:List α}{vs:List K3}{S:List Nat},
  cS r xs vs S->vs.length=xs.length*n
 |[],_,_,⟨e,_⟩=>by simp[e]
 |x::xs,_,_,⟨d,f,g,h,a,_,b,c⟩=>by
  rw[a,My,hr _ _ _ b,XJ hr c,List.length_cons,Mn];omega
def O4{e:Lb}(h:ep w X B own e sz n v xs S):xs.length=n*sz:=by
 cases own
 ·exact h.2.1
 ·exact h.1.1
 ·exact h.1
theorem X9:∀{T:Ty}{x:T.den}{vs:List K3}{S:List Nat},rd w X B own T x vs S->vs.length=T.size
 |.unit,_,_,_,h=>by simp[h.1,Ty.size]
 |.int _,_,_,_,h=>by simp[h.1,Ty.size]
 |.bool,_,_,_,h=>by simp[h.1,Ty.size]
 |.fnc _,_,_,_,h=>by simp[h.1,Ty.size]
 |.str,_,_,_,h=>by simp[h.1,Ty.size]
 |.slice _ _,_,_,_,⟨_,_,_,_,e,_⟩=>by simp[e,Ty.size]
 |.pair a b,_,_,_,⟨g,i,j,k,e,_,c,d⟩=>by simp[e,Ty.size,X9 c,X9 d]
 |.arr n t,_,_,_,⟨h,f⟩=>by rw[XJ (n:=t.size) (λ_ _ _ h=>X9 h) f,h];rfl
 |.err,_,_,_,⟨⟨_,e,_⟩,_⟩=>by simp[e,Ty.size]
 |.hid _,_,_,_,⟨h,_⟩=>h
 |.sptr ..,_,_,_,⟨_,_,_,_,e,_⟩=>by simp[e,Ty.size]
 |.clo ..,_,_,_,⟨_,_,e,_⟩=>by simp[e,Ty.size]
theorem Kh:∀{T:Ty}{f:Fl}{x:T.den}{vs:List K3}{S:List Nat},Pr w X B T f x vs S->vs.length=T.size
 |T,.d,_,_,_,h=>Ak
 |T,.u b,_,_,_,h=>by grind[Pr,X9]
 |.pair a b,.p f g,_,_,_,⟨j,k,l,m,e,_,c,i⟩=>by simp[e,Ty.size,Kh c,Kh i]
 |.slice e t,.p f g,_,_,_,h=>by grind[nB,Ty.size]
 |.unit,.p ..,_,_,_,h|.int _,.p ..,_,_,_,h|.bool,.p ..,_,_,_,h|.fnc _,.p ..,_,_,_,h|.str,.p ..,_,_,_,h|.err,.p ..,_,_,_,h|.hid _,.p ..,_,_,_,h|.sptr ..,.p ..,_,_,_,h|.clo ..,.p ..,_,_,_,h|.arr ..,.p ..,_,_,_,h=>by simp[Pr]at h
def Cc{e:Lb}(h:ep w X B own e sz n v xs S)
  (hX:∀b,X b->X' b) (hw:∀b,X b->w'.heap[b]? =w.heap[b]?) (hS:∀b∈S,w'.heap[b]? =w.heap[b]?):ep w' X' B own e sz n v xs S:=by
 cases own
 ·obtain⟨j,f,a,c,k,p,q,r⟩:=h;refine⟨j,f,a,c,k,p,q,?_⟩
  grind[Lj,L3]
 ·obtain⟨j,f⟩:=h;refine⟨⟨j.1,?_⟩,f⟩;rcases j.2 with k|⟨g,c,i,rfl,l,m,d⟩
  ·exact .inl k
  ·exact .inr ⟨g,c,i,rfl,l,by rw[hS g (by rw[f];simp[L1])];exact m,d⟩
 ·obtain⟨j,f,k⟩:=h;refine⟨j,f,k.imp id ?_⟩;rintro⟨g,o,c,i,rfl,l,m,d⟩;exact⟨g,o,c,i,rfl,l,by rw[hS g (by rw[f];simp[L1])];exact m,d⟩
theorem Wy(hX:∀b,X b->X' b)(hw:∀b,X b->w'.heap[b]? =w.heap[b]?):∀{T:Ty}{x:T.den}{vs:List K3}{S:List Nat},
  rd w X B own T x vs S->(∀b∈S,w'.heap[b]? =w.heap[b]?)->rd w' X' B own T x vs S
 |.unit,_,_,_,h,_=>h
 |.int _,_,_,_,h,_=>h
 |.bool,_,_,_,h,_=>h
 |.fnc _,_,_,_,h,_=>h
 |.str,_,_,_,h,_=>h
 |.slice _ _,_,_,_,⟨v,p,j,k,e,l,f,g⟩,d=>
  ⟨v,p,j,k,e,l,Cc f hX hw λb i=>d b Af,
   Yt g λ_ _ _ _ m h=>Wy hX hw h λb i=>d b Af⟩
 |.pair a b,_,_,_,⟨q,r,j,k,e,l,f,g⟩,d=>
  ⟨q,r,j,k,e,l,Wy hX hw f λb i=>d b Af,Wy hX hw g λb i=>d b Af⟩
 |.arr n t,_,_,_,⟨h,s⟩,d=>⟨h,Yt s λ_ _ _ _ m h=>Wy hX hw h λb i=>d b (m b i)⟩
 |.err,_,_,_,h,_=>h
 |.hid _,_,_,_,⟨e,y,h⟩,d=>⟨e,y,Wy hX hw h d⟩
 |.sptr ..,_,_,_,⟨e,o,b,c,f,g,A,u⟩,_=>⟨e,o,b,c,f,hX b g,Af,Wy hX hw u Ac⟩
 |.clo ..,_,_,_,⟨e,z,f,g⟩,_=>⟨e,z,f,Wy hX hw g Ac⟩
def vv(hX:∀b,X b->X' b)(hw:∀b,X b->w'.heap[b]? =w.heap[b]?):∀{T:Ty}{f:Fl}{x:T.den}{vs:List K3}{S:List Nat},
  Pr w X B T f x vs S->(∀b∈S,w'.heap[b]? =w.heap[b]?)->Pr w' X' B T f x vs S
 |T,.d,_,_,_,h,_=>Ak
 |T,.u b,_,_,_,h,c=>by grind[Pr,Wy]
 |.pair a b,.p f g,_,_,_,⟨l,m,n,o,e,q,i,j⟩,c=>
  ⟨l,m,n,o,e,q,vv hX hw i λb k=>c b Af,vv hX hw j λb k=>c b Af⟩
 |.slice e t,.p f g,_,_,_,h,c=>by
  obtain⟨rfl,rfl,v,r,s,i,j⟩:=nB h;exact⟨v,r,s,Cc i hX hw c,Yt j λ_ _ _ _ y h=>Wy hX hw h λb k=>absurd (y b k) Ac⟩
 |.unit,.p ..,_,_,_,h,_|.int _,.p ..,_,_,_,h,_|.bool,.p ..,_,_,_,h,_|.fnc _,.p ..,_,_,_,h,_|.str,.p ..,_,_,_,h,_|.err,.p ..,_,_,_,h,_|.hid _,.p ..,_,_,_,h,_|.sptr ..,.p ..,_,_,_,h,_|.clo ..,.p ..,_,_,_,h,_|.arr ..,.p ..,_,_,_,h,_=>by simp[Pr]at h
def OI{α:Type}{r:α->List K3->List Nat->Prop}{p:Nat->Prop}(hr:∀x v S,r x v S-> ∀b∈S,p b):∀{xs:List α}{vs:List K3}{S:List Nat},
  cS r xs vs S-> ∀b∈S,p b
 |[],_,_,⟨_,e⟩=>by simp[e]
 |x::xs,_,_,⟨c,d,f,g,_,e,h,a⟩=>by
  intro b hb;rw[e]at hb;rcases Lm.1 hb with hb|hb
  ·grind
  ·exact OI hr a b hb
def PT{e:Lb}(h:ep w X B own e sz n v xs S):∀b∈S,B<=b/\b<w.heap.size:=by
 cases own
 ·intro b a;rw[h.1]at a;cases a
 ·intro b a;rw[h.2]at a;exact h.1.lt b (by simpa using a)
 ·obtain⟨_,c,d⟩:=h;intro b a;rw[c]at a;rcases d with⟨rfl,_⟩|⟨g,o,f,i,rfl,j,k,_⟩
  all_goals grind[L1]
theorem xR:∀{T:Ty}{x:T.den}{vs:List K3}{S:List Nat},rd w X B own T x vs S-> ∀b∈S,B<=b/\b<w.heap.size
 |.unit,_,_,_,h|.int _,_,_,_,h|.bool,_,_,_,h|.fnc _,_,_,_,h|.str,_,_,_,h=>by simp[h.2]
 |.slice _ _,_,_,_,⟨_,_,_,_,_,e,c,d⟩=>by
  intro b hb;rw[e]at hb;rcases Lm.1 hb with hb|hb
  ·exact PT c b hb
  ·exact OI (λ_ _ _ h=>xR h) d b hb
 |.pair a b,_,_,_,⟨g,i,j,k,_,e,c,d⟩=>by
  intro b hb;rw[e]at hb;rcases Lm.1 hb with hb|hb
  ·exact xR c b hb
  ·exact xR d b hb
 |.arr n t,_,_,_,⟨_,f⟩=>OI (λ_ _ _ h=>xR h) f
 |.err,_,_,_,h=>by simp[h.2]
 |.hid _,_,_,_,⟨_,_,h⟩=>xR h
 |.sptr ..,_,_,_,h=>by simp[h.1]
 |.clo ..,_,_,_,h=>by simp[h.1]
theorem T8:∀{T:Ty}{f:Fl}{x:T.den}{vs:List K3}{S:List Nat},Pr w X B T f x vs S-> ∀b∈S,B<=b/\b<w.heap.size
 |T,.d,_,_,_,h=>Ak
 |T,.u b,_,_,_,h=>by unfold Pr at h;exact xR h
 |.pair a b,.p f g,_,_,_,⟨j,k,l,m,_,e,c,i⟩=>by
  intro b hb;rw[e]at hb;rcases Lm.1 hb with hb|hb
  ·exact T8 c b hb
  ·exact T8 i b hb
 |.slice e t,.p f g,_,_,_,h=>by
  obtain⟨_,_,v,n,_,c,_⟩:=nB h;exact PT c
 |.unit,.p ..,_,_,_,h|.int _,.p ..,_,_,_,h|.bool,.p ..,_,_,_,h|.fnc _,.p ..,_,_,_,h|.str,.p ..,_,_,_,h|.err,.p ..,_,_,_,h|.hid _,.p ..,_,_,_,h|.sptr ..,.p ..,_,_,_,h|.clo ..,.p ..,_,_,_,h|.arr ..,.p ..,_,_,_,h=>by simp[Pr]at h
theorem aw{e:Lb}(h:ep w X B own e sz n v xs S):
  ∃a cap,v=.slice a n cap/\n<=cap/\cap<=maxLen/\((a=K2/\n=0/\cap=0)\/ ∃ad,a=K1 ad/\(n=0\/X ad.block\/ad.block∈S)/\ ∀j u,xs[j]? =K1 u->w.cell? (ad.add j)=K1 u):=by
 cases own
 ·obtain⟨_,_,a,cap,i,s,t,x⟩:=h
  grind
 ·obtain⟨c,m⟩:=h;rcases c.2 with⟨rfl,rfl⟩|⟨g,cap,b,rfl,p,q,d,f,k⟩
  ·grind
  ·exact⟨_,cap,rfl,d,f,.inr ⟨_,rfl,.inr (.inr (by simp_all[L1])),c.cells (g:=g) rfl⟩⟩
 ·obtain⟨c,m,i⟩:=h;rcases i with⟨rfl,rfl⟩|⟨g,o,cap,b,rfl,p,q,d,f,y,hx⟩
  ·grind
  ·refine⟨_,cap,rfl,d,f,.inr ⟨_,rfl,.inr (.inr (by simp_all[L1])),λj u z=>?_⟩⟩;have r:b[o+j]? =K1 u:=by
    grind
   have l:(⟨g,o,K2⟩:Ld).add j=⟨g,o+j,K2⟩:=by simp_all[Lj]
   grind[cell_of_row]
def Dd{e:Lb}(h:ep w X B own e sz n v xs S)(hX:∀b,X b->X' b)(hS:∀b∈S,X' b):
  ep w X' B .sh e sz n v xs []:=by
 have d:=O4 h;obtain⟨a,c,f,g,i,j⟩:=aw h;refine⟨rfl,d,a,c,f,g,i,j.imp id ?_⟩
 grind
def vz{α:Type}{r r':α->List K3->List Nat->Prop}:∀{xs:List α}{vs:List K3}{S:List Nat},
  cS r xs vs S->(∀x v T,x∈xs->(∀b∈T,b∈S)->r x v T->r' x v [])->cS r' xs vs []
 |[],_,_,h,_=>⟨h.1,rfl⟩
 |x::xs,_,_,⟨a,c,d,j,e,l,f,g⟩,k=>
  ⟨a,c,[],[],e,rfl,k x a d Ac Af f,
   vz g λy v T i m=>k y v T (by simp[i]) Af⟩
theorem mw(hX:∀b,X b->X' b):∀{T:Ty}{x:T.den}{vs:List K3}{S:List Nat},
  rd w X B own T x vs S->(∀b∈S,X' b)->rd w X' B .sh T x vs []
 |.unit,_,_,_,h,_|.int _,_,_,_,h,_|.bool,_,_,_,h,_|.fnc _,_,_,_,h,_|.str,_,_,_,h,_=>⟨h.1,rfl⟩
 |.slice _ _,_,_,_,⟨v,k,l,m,e,o,f,g⟩,d=>
  ⟨v,k,[],[],e,rfl,Dd f hX λb i=>d b Af,
   vz g λ_ _ _ _ j h=>mw hX h λb i=>d b Af⟩
 |.pair a b,_,_,_,⟨p,q,l,m,e,o,f,g⟩,d=>
  ⟨p,q,[],[],e,rfl,mw hX f λb i=>d b Af,mw hX g λb i=>d b Af⟩
 |.arr n t,_,_,_,⟨h,r⟩,d=>⟨h,vz r λ_ _ _ _ j h=>mw hX h λb i=>d b (j b i)⟩
 |.err,_,_,_,h,_=>⟨h.1,rfl⟩
 |.hid _,_,_,_,⟨e,y,h⟩,d=>⟨e,y,mw hX h d⟩
 |.sptr ..,_,_,_,⟨_,_,b,c,f,g,s,u⟩,_=>⟨rfl,rfl,b,c,f,hX b g,s,mw hX u Ac⟩
 |.clo ..,_,_,_,⟨_,z,f,g⟩,_=>⟨rfl,z,f,mw hX g Ac⟩
def Fl.live:Fl->Bool|.u _=>La|.p a b=>a.live&&b.live|.d=>K4
theorem J3(hX:∀b,X b->X' b):∀{T:Ty}{f:Fl}{x:T.den}{vs:List K3}{S:List Nat},
  f.live=La->Pr w X B T f x vs S->(∀b∈S,X' b)->rd w X' B .sh T x vs []
 |T,.d,_,_,_,i,_,_=>by grind[Fl.live]
 |T,.u b,_,_,_,_,h,c=>by grind[Pr,mw]
 |.pair a b,.p f g,_,_,_,i,⟨m,n,s,y,e,z,j,k⟩,c=>by
  simp only[Fl.live,pC]at i;exact⟨m,n,[],[],e,rfl,J3 hX i.1 j λb l=>c b Af,J3 hX i.2 k λb l=>c b Af⟩
 |.slice e t,.p f g,_,_,_,_,h,c=>by
  obtain⟨_,_,v,o,q,j,k⟩:=nB h;exact⟨v,o,[],[],q,rfl,Dd j hX c,vz k λ_ _ _ _ r h=>mw hX h λb l=>absurd (r b l) Ac⟩
 |.unit,.p ..,_,_,_,_,h,_|.int _,.p ..,_,_,_,_,h,_|.bool,.p ..,_,_,_,_,h,_|.fnc _,.p ..,_,_,_,_,h,_|.str,.p ..,_,_,_,_,h,_|.err,.p ..,_,_,_,_,h,_|.hid _,.p ..,_,_,_,_,h,_|.sptr ..,.p ..,_,_,_,_,h,_|.clo ..,.p ..,_,_,_,_,h,_|.arr ..,.p ..,_,_,_,_,h,_=>by simp[Pr]at h
def iP{α:Type}{r r':α->List K3->List Nat->Prop}(hr:∀x v S,r x v S->S=[]/\r' x v []):∀{xs:List α}{vs:List K3}{S:List Nat},
  cS r xs vs S->S=[]/\cS r' xs vs []
 |[],_,_,h=>⟨h.2,h.1,rfl⟩
 |x::xs,_,_,⟨a,b,j,k,c,d,e,f⟩=>by
  obtain⟨rfl,g⟩:=hr _ _ _ e;obtain⟨rfl,i⟩:=iP hr f;exact⟨by simp[d],a,b,[],[],c,rfl,g,i⟩
theorem ez{own':Ow}{w':Lc}:∀{T:Ty}{x:T.den}{vs:List K3}{S:List Nat},T.flat=La->
  rd w X B own T x vs S->S=[]/\rd w' X' B own' T x vs []
 |.unit,_,_,_,_,h|.int _,_,_,_,_,h|.bool,_,_,_,_,h|.fnc _,_,_,_,_,h|.str,_,_,_,_,h=>⟨h.2,h.1,rfl⟩
 |.slice _ _,_,_,_,c,_=>by grind[Ty.flat]
 |.pair a b,_,_,_,c,⟨d,f,q,r,e,g,i,j⟩=>by
  simp only[Ty.flat,pC]at c;obtain⟨rfl,m⟩:=ez c.1 i;obtain⟨rfl,o⟩:=ez c.2 j;exact⟨by simp[g],d,f,[],[],e,rfl,m,o⟩
 |.arr n t,_,_,_,c,⟨h,p⟩=>by
  obtain⟨e,k⟩:=iP (r':=rd w' X' B own' t) (λx v S h=>ez (by simp_all[Ty.flat]) h) p;exact⟨e,h,k⟩
 |.err,_,_,_,_,h=>⟨h.2,h.1,rfl⟩
 |.hid _,_,_,_,c,⟨l,y,h⟩=>let⟨e,k⟩:=ez (by simp_all[Ty.flat]) h;⟨e,l,y,k⟩
 |.sptr ..,_,_,_,c,_=>by grind[Ty.flat]
 |.clo ..,_,_,_,c,_=>by grind[Ty.flat]
def XK{α:Type}{r:α->List K3->List Nat->Prop}(hr:∀x v S,r x v S-> ∀u∈v,u.oneCell'=La):∀{xs:List α}{vs:List K3}{S:List Nat},
  cS r xs vs S-> ∀u∈vs,u.oneCell'=La
 |[],_,_,⟨e,_⟩=>by simp[e]
 |x::xs,_,_,⟨b,c,d,f,e,_,g,a⟩=>by
  intro u hu;rw[e]at hu;rcases Lm.1 hu with hu|hu
  ·grind
  ·exact XK hr a u hu
theorem kd:∀{T:Ty}{x:T.den}{vs:List K3}{S:List Nat},rd w X B own T x vs S-> ∀u∈vs,u.oneCell'=La
 |.unit,_,_,_,h|.int _,_,_,_,h|.bool,_,_,_,h|.fnc _,_,_,_,h|.str,_,_,_,h=>by simp[h.1,Ma]
 |.slice _ _,_,_,_,⟨v,_,_,_,e,_,c,_⟩=>by
  grind[aw,Ma]
 |.pair a b,_,_,_,⟨g,i,j,k,e,_,c,d⟩=>by
  intro u hu;rw[e]at hu;rcases Lm.1 hu with hu|hu
  ·exact kd c u hu
  ·exact kd d u hu
 |.arr n t,_,_,_,⟨_,f⟩=>XK (λ_ _ _ h=>kd h) f
 |.err,_,_,_,⟨⟨v,e,h,_⟩,_⟩=>by simp[e,h]
 |.hid _,_,_,_,⟨_,_,h⟩=>kd h
 |.sptr ..,_,_,_,⟨_,_,_,_,e,_⟩=>by simp[e,Ma]
 |.clo ..,_,_,_,⟨_,_,e,_⟩=>by simp[e,Ma]
theorem nA:∀{T:Ty}{f:Fl}{x:T.den}{vs:List K3}{S:List Nat},Pr w X B T f x vs S-> ∀u∈vs,u.oneCell'=La
 |T,.d,_,_,_,h=>Ak
 |T,.u b,_,_,_,h=>by grind[Pr,kd]
 |.pair a b,.p f g,_,_,_,⟨j,k,l,m,e,_,c,i⟩=>by
  intro u hu;rw[e]at hu;rcases Lm.1 hu with hu|hu
  ·exact nA c u hu
  ·exact nA i u hu
 |.slice e t,.p f g,_,_,_,h=>by
  grind[nB,aw,Ma]
 |.unit,.p ..,_,_,_,h|.int _,.p ..,_,_,_,h|.bool,.p ..,_,_,_,h|.fnc _,.p ..,_,_,_,h|.str,.p ..,_,_,_,h|.err,.p ..,_,_,_,h|.hid _,.p ..,_,_,_,h|.sptr ..,.p ..,_,_,_,h|.clo ..,.p ..,_,_,_,h|.arr ..,.p ..,_,_,_,h=>by simp[Pr]at h
abbrev TV:=(T:Ty)×T.den
def fld:(T:Ty)->T.den->Nat->Option TV|.pair a _,x,0=>K1 ⟨a,x.1⟩|.pair _ b,x,i+1=>fld b x.2 i|_,_,_=>K2
def jz:Ty->Nat->Nat|.pair a b,i+1=>a.size+jz b i|_,_=>0
def UL:Ty->Nat->Option Ty|.pair a _,0=>K1 a|.pair _ b,i+1=>UL b i|_,_=>K2
def Jz(U:Ty)(T:Ty)(x:T.den):Option U.den:=if h:T=U then K1 (h▸x)else K2
def xT:(T:Ty)->T.den->Nat->TV->Option T.den|.pair a _,x,0,y=>(Jz a y.1 y.2).map λz=>(z,x.2)|.pair _ b,x,i+1,y=>(xT b x.2 i y).map λz=>(x.1,z)|_,_,_,_=>K2
def Fl.snd:Fl->Fl|.p _ g=>g|f=>f
def ZD:Fl->Nat->Fl|.p a _,0=>a|.p _ b,i+1=>ZD b i|f,_=>f
def xo:Fl->Nat->Fl->Fl|.p _ b,0,g=>.p g b|.p a b,i+1,g=>.p a (xo b i g)|f,0,g=>.p g f|f,i+1,g=>.p f (xo f i g)
theorem Wu{U T:Ty}{x:T.den}{y:U.den}(h:Jz U T x=K1 y):(⟨T,x⟩:TV)=⟨U,y⟩:=by grind[Jz]
def XH{a b:Ty}{f:Fl}{x:(Ty.pair a b).den}(h:Pr w X B (.pair a b) f x vs S):
  ∃v1 v2 S1 S2,vs=v1++v2/\S=S1++S2/\Pr w X B a (ZD f 0) x.1 v1 S1/\Pr w X B b f.snd x.2 v2 S2:=by
 cases f with
 |u o=>
  unfold Pr at h;obtain⟨v1,v2,S1,S2,e,k,i,c⟩:=h;exact⟨v1,v2,S1,S2,e,k,by simp_all[Pr,ZD],by unfold Pr;exact c⟩
 |p f g=>exact h
 |d=>
  unfold Pr at h;obtain⟨i,c,l⟩:=h;refine⟨vs.take a.size,vs.drop a.size,[],[],Ac,by simp[l],?_,?_⟩
  ·unfold Pr ZD;exact⟨by simp[i,Ty.size],λu j=>c u (List.mem_of_mem_take j),rfl⟩
  ·unfold Pr;exact⟨by simp[i,Ty.size],λu j=>c u (List.mem_of_mem_drop j),rfl⟩
def Du:∀{T:Ty}{f:Fl}{x:T.den}{i:Nat}{y:TV}{vs:List K3}{S:List Nat},fld T x i=K1 y->Pr w X B T f x vs S->
  ∃pre mid post S1 S2 S3,vs=pre++(mid++post)/\S=S1++(S2++S3)/\pre.length=jz T i/\Pr w X B y.1 (ZD f i) y.2 mid S2/\
   ∀(g:Fl)(y':TV)(mid':List K3)(S2':List Nat)(x':T.den),xT T x i y'=K1 x'->Pr w X B y'.1 g y'.2 mid' S2'->
    Pr w X B T (xo f i g) x' (pre++(mid'++post)) (S1++(S2'++S3))
 |.pair a b,f,x,0,y,vs,S,c,h=>by
  obtain⟨j,k,S1,S2,e,l,m,n⟩:=XH h;simp only[fld,pB]at c;subst c;refine⟨[],j,k,[],S1,S2,by simpa using e,by simpa using l,by simp[jz],m,?_⟩;intro g y' mid' S2' x' d o;simp only[xT,Mq]at d;obtain⟨z,q,rfl⟩:=d;obtain⟨D,E⟩:=y';have:=Wu q;cases this;have:xo f 0 g=.p g f.snd:=by cases f<;>rfl
  rw[this];exact⟨mid',k,S2',S2,Ac,Ac,o,n⟩
 |.pair a b,f,x,i+1,y,vs,S,c,h=>by
  obtain⟨j,k,S1,S2,e,l,m,n⟩:=XH h;simp only[fld]at c;obtain⟨pre,mid,post,r,s,t,u,v,F,G,A⟩:=Du c n;refine⟨j++pre,mid,post,S1++r,s,t,by rw[e,u];simp,by rw[l,v];simp,by grind[jz,Kh],?_,?_⟩
  ·have:ZD f (i+1)=ZD f.snd i:=by cases f<;>simp[ZD]<;>(cases i<;>rfl)
   simp_all
  ·intro g y' mid' S2' x' d o;simp only[xT,Mq]at d;obtain⟨z,q,rfl⟩:=d;have:=A g y' mid' S2' z q o;have C:xo f (i+1) g=.p (ZD f 0) (xo f.snd i g):=by cases f<;>rfl
   rw[C];exact⟨j,_,S1,_,Ac,Ac,m,this⟩
 |.unit,_,_,_,_,_,_,c,_|.int _,_,_,_,_,_,_,c,_|.bool,_,_,_,_,_,_,c,_|.fnc _,_,_,_,_,_,_,c,_|.str,_,_,_,_,_,_,c,_|.slice ..,_,_,_,_,_,_,c,_|.err,_,_,_,_,_,_,c,_|.hid _,_,_,_,_,_,_,c,_|.sptr ..,_,_,_,_,_,_,c,_|.clo ..,_,_,_,_,_,_,c,_|.arr ..,_,_,_,_,_,_,c,_=>by simp[fld]at c
def ap:(T:Ty)->T.den->List Nat->Option TV
 |T,x,[]=>K1 ⟨T,x⟩
 |T,x,i::p=>match fld T x i with|some y=>ap y.1 y.2 p|none=>K2
def Yn:Ty->List Nat->Nat
 |_,[]=>0
 |T,i::p=>jz T i+(match UL T i with|some U=>Yn U p|none=>0)
def v6:(T:Ty)->T.den->List Nat->TV->Option T.den
 |T,_,[],y=>Jz T y.1 y.2
 |T,x,i::p,y=>match fld T x i with
  |some z=>match v6 z.1 z.2 p y with|some z'=>xT T x i ⟨z.1,z'⟩|none=>K2
  |none=>K2
def cd:Fl->List Nat->Fl|f,[]=>f|f,i::p=>cd (ZD f i) p
def Vz:Fl->List Nat->Fl->Fl|_,[],g=>g|f,i::p,g=>xo f i (Vz (ZD f i) p g)
theorem D7{T:Ty}{x:T.den}{y:TV}(h:fld T x i=K1 y):UL T i=K1 y.1:=by
 induction T generalizing i y with
 |pair a b d c=>
  cases i with
  |zero=>simp only[fld,pB]at h;subst h;rfl
  |succ i=>exact c (x:=x.2) h
 |_=>simp[fld]at h
theorem Vf:∀{p:List Nat}{T:Ty}{f:Fl}{x:T.den}{y:TV}{vs:List K3}{S:List Nat},ap T x p=K1 y->Pr w X B T f x vs S->
  ∃pre mid post S1 S2 S3,vs=pre++(mid++post)/\S=S1++(S2++S3)/\pre.length=Yn T p/\Pr w X B y.1 (cd f p) y.2 mid S2/\
   ∀(g:Fl)(y':TV)(mid':List K3)(S2':List Nat)(x':T.den),v6 T x p y'=K1 x'->Pr w X B y'.1 g y'.2 mid' S2'->
    Pr w X B T (Vz f p g) x' (pre++(mid'++post)) (S1++(S2'++S3))
 |[],T,f,x,y,vs,S,b,h=>by
  simp only[ap,pB]at b;subst b;refine⟨[],vs,[],[],S,[],Ac,Ac,by simp[Yn],h,?_⟩;intro g y' mid' S2' x' c e;simp only[v6]at c;obtain⟨C,D⟩:=y';cases Wu c;simp_all[Vz]
 |i::p,T,f,x,y,vs,S,b,h=>by
  simp only[ap]at b;cases hz:fld T x i with
  |none=>simp_all
  |some z=>
   rw[hz]at b;obtain⟨pre,mid,post,S1,S2,S3,k,l,E,n,o⟩:=Du hz h;obtain⟨d,mid',a,q,r,s,t,u,F,v,A⟩:=Vf b n;refine⟨pre++d,mid',a++post,S1++q,r,s++S3,by rw[k,t];simp,by rw[l,u];simp,by grind[Yn,D7],v,?_⟩;intro g y' m S2' x' c e;simp only[v6,hz]at c;cases hq:v6 z.1 z.2 p y' with
   |none=>simp_all
   |some j=>
    rw[hq]at c;have:=o (Vz (ZD f i) p g) ⟨z.1,j⟩ _ _ x' c (A g y' m S2' j hq e);simp_all[Vz]
def Qls:∀{T:Ty}{x x':T.den}{i:Nat}{y:TV},fld T x i=K1 y-> ∃y',fld T x' i=K1 y'/\y'.1=y.1:=by
 intro T
 induction T with
 |pair a b d c=>
  intro x x' i y h;cases i with
  |zero=>simp only[fld,pB]at h;subst h;exact⟨⟨a,x'.1⟩,rfl,rfl⟩
  |succ i=>exact c (x':=x'.2) h
 |_=>intro x x' i y h;simp[fld]at h
def Pu:∀{p:List Nat}{T:Ty}{x x':T.den}{y:TV},ap T x p=K1 y-> ∃y',ap T x' p=K1 y'/\y'.1=y.1
 |[],T,x,x',y,h=>by simp only[ap,pB]at h;subst h;exact⟨⟨T,x'⟩,rfl,rfl⟩
 |i::p,T,x,x',y,h=>by
  simp only[ap]at h⊢;cases hz:fld T x i with
  |none=>simp_all
  |some z=>
   rw[hz]at h;obtain⟨b,c,a⟩:=Qls (x':=x') hz;rw[c];obtain⟨Z,e⟩:=z;obtain⟨f,d⟩:=b;simp only at a;subst a;exact Pu h
def Do{t:Ty}{f:Fl}{x:(Ty.arr n t).den}(h:Pr w X B (.arr n t) f x vs S)(hl:f.live=La):∃c,f=.u c:=by
 cases f with
 |u c=>simp_all
 |p a b=>simp[Pr]at h
 |d=>grind[Fl.live]
def rZ{α:Type}{r:α->List K3->List Nat->Prop}{sz:Nat}(hr:∀x v S,r x v S->v.length=sz):∀{l:List α}{vs:List K3}{S:List Nat}{i:Nat} (hi:i<l.length),
  cS r l vs S-> ∃pre mid post S1 S2 S3,vs=pre++(mid++post)/\S=S1++(S2++S3)/\pre.length=i*sz/\r l[i] mid S2/\
   cS r (l.take i) pre S1/\cS r (l.drop (i+1)) post S3
 |[],_,_,_,hi,_=>by simp at hi
 |x::l,vs,S,0,_,⟨a,f,S1,S2,b,c,d,e⟩=>⟨[],a,f,[],S1,S2,by simp[b],by simp[c],Ac,d,⟨rfl,rfl⟩,e⟩
 |x::l,vs,S,i+1,hi,⟨a,f,S1,S2,b,c,d,e⟩=>by
  obtain⟨pre,mid,post,g,h,j,k,m,q,n,o,p⟩:=rZ hr (i:=i) (by simpa using hi) e;exact⟨a++pre,mid,post,S1++g,h,j,by simp[b,k],by simp[c,m],Ag,by simpa using n,
   ⟨a,pre,S1,g,rfl,rfl,d,o⟩,by simpa using p⟩
inductive Tm where
 |pR|tup
 |val (T:Ty) (f:Fl) (x:T.den)
 |box (e:Lb) (T:Ty) (f:Fl) (x:T.den)
 |ptr (r:Nat) (p:List Nat)
 |shp (T:Ty) (x:T.den)
 |bor (r:Nat) (p:List Nat)
 |elp (r:Nat) (p:List Nat) (i:Int) (q:List Nat)
 |gd (g:Nat) (want:Bool) (t:Tm)
 |aep (r:Nat) (p:List Nat) (i:Int)
 |pls (h:Bool) (l:List (Nat×List Nat))
 |bel (r:Nat) (p:List Nat) (i:Int) (q:List Nat)
 |cl (f:L5) (l:List Nat)
inductive A4 where
 |m (t:Nat)|c (t i:Nat)
def A4.beq:A4->A4->Bool
 |.m t,.m u=>Lo t u
 |.c t i,.c u j=>match Lo t u with|true=>Lo i j|false=>K4
 |_,_=>K4
theorem A4.beq_true{k j:A4}:A4.beq k j=La↔k=j:=by
 cases k<;>cases j<;>simp[A4.beq]
 grind[Md,pD]
instance:DecidableEq A4:=λk j=>match h:A4.beq k j with
 |true=>isTrue (A4.beq_true.1 h)
 |false=>isFalse λe=>by rw[A4.beq_true.2 e]at h;cases h
structure St where
 env:List (A4×Tm)
 pP:List Nat
 pQ:List Nat:=[]
structure Kf where
 G:Lc->Prop
 GB:Nat->Prop
 lt:∀w b,G w->GB b->b<w.heap.size
 stays:∀w w',G w->(∀b,GB b->w'.heap[b]? =w.heap[b]?)->G w'
 soft:Bool:=K4
def FD:Nat:=1048576
def uI(gh:Nat->K3)(a:Act)(t:Nat):K3:=match a.tmps[t]? with|some v=>v|none=>gh t
def Qw(gh:Nat->K3)(a:Act):A4->K3
 |.m t=>uI gh a t
 |.c t i=>match uI gh a t with
  |.tuple vs=>vs.getD i undef
  |_=>undef
structure bu(g:Kf) where
 W:Lc
 B:Nat
 Y:Nat->Prop
 L:Nat->Prop
 X0:Nat->Prop
 fix:List (Nat×K3)
 bB:B<=W.heap.size
 yW:∀k,Y k->k<W.heap.size
 yL:∀k,Y k-> ¬L k
 fr:g.soft=La-> ∀k,g.GB k-> ¬Y k
 gh:Nat->K3:=λ_=>undef
 ghU:∀t,t<FD->gh t=undef:=by intro _ _;rfl
def bu.mine{g:Kf}(z:bu g)(k:Nat):Prop:=z.W.heap.size<=k\/z.L k
def bu.sep{g:Kf}(z:bu g){k:Nat}(h:z.Y k)(hb:z.mine b):k≠b:=λe=>by
 subst e;rcases hb with hb|hb
 ·have:=z.yW k h;omega
 ·exact z.yL k h hb
structure bu.below{g:Kf}(z:bu g)(w:Lc):Prop where
 os:w.os=z.W.os
 tape:w.tape=z.W.tape
 output:w.output=z.W.output
 size:z.W.heap.size<=w.heap.size
 block:∀k,z.Y k->w.heap[k]? =z.W.heap[k]?
def bu.below.sizeB{g:Kf}{z:bu g}{w:Lc}(h:z.below w):z.B<=w.heap.size:=Me z.bB h.size
def bu.below.new{g:Kf}{z:bu g}{w:Lc}(h:z.below w):z.mine w.heap.size:=.inl h.size
def bu.below.step{g:Kf}{z:bu g}{w w':Lc}(h:z.below w)(hb:Below w.heap.size w w'):z.below w':=⟨hb.os.trans h.os,hb.tape.trans h.tape,hb.output.trans h.output,Me h.size hb.size,λk hk=>(hb.block k (L6 (z.yW k hk) h.size)).trans (h.block k hk)⟩
def bu.plain(g:Kf)(w:Lc)(hs:g.soft=K4):bu g:={fr:=λh=>Bool.noConfusion (hs.symm.trans h),W:=w,B:=w.heap.size,Y:=(· <w.heap.size),L:=λ_=>False,X0:=(· <w.heap.size),fix:=[],bB:=Lx _,yW:=λ_ h=>h,yL:=λ_ _ h=>h}
def ma:List (A4×Tm)->A4->Tm
 |[],_=>.pR
 |(k,t)::r,j=>match A4.beq k j with
  |true=>t
  |false=>ma r j
def St.get(s:St)(k:A4):Tm:=ma s.env k
def St.pN(s:St)(r:Nat):Bool:=s.pP.any (Lo r)
def om(r:Nat):Nat:=r+1099511627776
def jV(r:Nat):Nat:=r+2199023255552
def dW(r i:Nat):Nat:=r+(i+3)*1099511627776
def St.bad(s:St)(r:Nat):List Nat->Bool|[]=>s.pN r||s.pN (jV r)|i::_=>s.pN r||s.pN (dW r i)
theorem St.bad_foul{s:St}{r:Nat}:∀{p:List Nat},s.bad r p=K4->s.pN r=K4
 |[],h=>by simp_all[St.bad]
 |_::_,h=>by simp_all[St.bad]
theorem Qd(k:A4)(t:Tm)(s:List (A4×Tm))(j:A4):ma ((k,t)::s) j=ite (k=j) t (ma s j):=by grind[ma,A4.beq_true]
def A4.t:A4->Nat|.m t=>t|.c t _=>t
def wc(h:d<a.tmps.size):Qw gh (a.put (K1 d) v) (.m d)=v:=by simp[Qw,uI,Mg,h]
theorem dh{k:A4}(h:k.t≠d):Qw gh (a.put (K1 d) v) k=Qw gh a k:=by
 have:(a.tmps.setIfInBounds d v)[k.t]? =a.tmps[k.t]? :=Ag
 cases k<;>simp only[A4.t]at this<;>simp[Qw,uI,Mg,this]
def X4(gh:Nat->K3)(w:Lc)(s:St)(F:A4->List Nat)(a:Act)(r:Nat)(p:List Nat)(v:K3)(U:Ty):Prop:=
 match s.get (.m r)with
 |.val T _ _=>p=[]/\U=T/\v=Qw gh a (.m r)
 |.box e T _ x=> ∃b c S y,F (.m r)=b::S/\w.heap[b]? =K1 (.cells c e (0,0))/\ap T x p=K1 y/\U=y.1/\v=Yh y.1 ((c.toList.drop (Yn T p)).take y.1.size)
 |_=>False
def qY(s:St)(F:A4->List Nat)(r:Nat)(p:List Nat)(v:K3):Prop:=∃e T f x b S',s.get (.m r)=.box e T f x/\F (.m r)=b::S'/\v=.pointer (K1 ⟨b,Yn T p,K2⟩)
def DC(w:Lc)(X:Nat->Prop)(s:St)(F:A4->List Nat)(h:Bool)(l:List (Nat×List Nat))(v:K3):Prop:=
 ∃(ad:Ld) (us:List K3),X ad.block/\(∀j u,us[j]? =K1 u->w.cell? (ad.add j)=K1 u)/\us.length=l.length/\(∀(j:Nat)(q:Nat×List Nat),l[j]? =K1 q-> ∃u,us[j]? =K1 u/\qY s F q.1 q.2 u)/\
  (match h with|true=>v=.slice (K1 ad) l.length l.length/\l.length<=maxLen|false=>v=.pointer (K1 ad))
def clV(s:St)(F:A4->List Nat)(f:L5)(l:List Nat)(v:K3):Prop:=∃us:List K3,v=.func (.func f) #[] us.toArray/\us.length=l.length/\ ∀(j:Nat)(q:Nat),l[j]? =K1 q-> ∃u,us[j]? =K1 u/\qY s F q [] u
def vt(gh:Nat->K3)(w:Lc)(X:Nat->Prop)(B:Nat)(s:St)(F:A4->List Nat)(a:Act)(v:K3)(S:List Nat):Tm->Prop|.pR|.tup=>S=[]|.val T f x=> ∃vs,v=Yh T vs/\Pr w X B T f x vs S|.box e T f x=> ∃b c S',v=.pointer (K1 ⟨b,0,K2⟩)/\S=b::S'/\w.heap[b]? =K1 (.cells c e (0,0))/\Pr w X B T f x c.toList S'|.ptr r p=>S=[]/\ ∃e T f x b S',s.get (.m r)=.box e T f x/\F (.m r)=b::S'/\v=.pointer (K1 ⟨b,Yn T p,K2⟩)|.shp T x=>S=[]/\ ∃ad vs,v=.pointer (K1 ad)/\X ad.block/\(∀j u,vs[j]? =K1 u->w.cell? (ad.add j)=K1 u)/\rd w X B .sh T x vs []|.bor r p=>S=[]/\(s.bad r p=K4-> ∃U,X4 gh w s F a r p v U)|.elp r p i q=>S=[]/\(s.bad r p=K4-> ∃e t ad n cap,X4 gh w s F a r p (.slice (K1 ad) n cap) (.slice e t)/\0<=i/\i<n/\ v=.pointer (K1 (ad.add (i.toNat*t.size+Yn t q))))|.aep r p i=>S=[]/\ ∃e T f x b S' n t y,s.get (.m r)=.box e T f x/\F (.m r)=b::S'/\ap T x p=K1 ⟨.arr n t,y⟩/\0<=i/\i<n/\v=.pointer (K1 ⟨b,Yn T p+i.toNat*t.size,K2⟩)|.pls h l=>S=[]/\DC w X s F h l v|.bel r p i q=>S=[]/\(s.bad r p=K4->s.pN (om r)=K4-> ∃e t ad n cap x0 y cs,X4 gh w s F a r p (.slice (K1 ad) n cap) (.slice e t)/\0<=i/\i<n/\ ad.block∈F (.m r)/\ap t x0 q=K1 y/\v=Yh y.1 cs/\cs.length=y.1.size/\ ∀(j:Nat) u,cs[j]? =K1 u->w.cell? (ad.add (i.toNat*t.size+Yn t q+j))=K1 u)|.cl f l=>S=[]/\clV s F f l v|.gd g want t=>s.pN g=K4->s.get (.m g)≠ .pR/\(Qw gh a (.m g)=.bool want->vt gh w X B s F a v S t)/\(Qw gh a (.m g)≠ .bool want->S=[]/\v=undef)
structure R{g:Kf}(n:Nat)(W0:bu g)(w:Lc)(X:Nat->Prop)(F:A4->List Nat)(H:List Nat)(s:St)(a:Act):Prop where
 size:a.tmps.size=n
 defers:a.defers=[]
 below:W0.below w
 glob:g.G w
 gx:∀b,g.GB b->X b
 xs:g.soft=La-> ∀b,X b->g.GB b
 fix:∀p,p∈W0.fix->p.1∈s.pQ/\Qw W0.gh a (.m p.1)=p.2
 xlt:∀b,X b->b<w.heap.size
 xin:∀b,X b->W0.X0 b\/W0.mine b
 x0:∀b,W0.X0 b->X b
 own:∀k b,b∈F k->W0.mine b/\b<w.heap.size/\ ¬X b
 nodup:∀k,(F k).Nodup
 pS:∀k k' b,b∈F k->b∈F k'->k=k'
 hown:∀b,b∈H->W0.mine b/\b<w.heap.size/\ ¬X b
 pK:H.Nodup
 pL:∀k b,b∈F k->b∉H
 pM:∀d i,s.get (.c d i)≠ .pR->s.get (.m d)=.tup/\ ∃vs,Qw W0.gh a (.m d)=.tuple vs/\i<vs.size
 slots:∀k,vt W0.gh w X W0.B s F a (Qw W0.gh a k) (F k) (s.get k)
variable {g:Kf}{W0:bu g}{n:Nat}{s:St}{F:A4->List Nat}{a:Act}{H:List Nat}{gh:Nat->K3}
def VK{r:Nat}{U:Ty}(h:X4 gh w s F a r p v U)(hF:∀b∈F (.m r),w'.heap[b]? =w.heap[b]?):X4 gh w' s F a r p v U:=by grind[X4]
def KG{s2:St}{F2:A4->List Nat}(hX:∀b,X b->X' b)(hw:∀b,X b->w'.heap[b]? =w.heap[b]?)(ha:∀r p v,qY s F r p v->qY s2 F2 r p v){h:Bool}{l:List (Nat×List Nat)}
  (hv:DC w X s F h l v):DC w' X' s2 F2 h l v:=by
 obtain⟨a,c,d,g,e,i,f⟩:=hv;refine⟨a,c,hX _ d,λj u k=>?_,e,λj q m=>?_,f⟩
 all_goals grind[Lj,L3]
def qp(hX:∀b,X b->X' b)(hw:∀b,X b->w'.heap[b]? =w.heap[b]?)(hF:∀k b,b∈F k->w'.heap[b]? =w.heap[b]?){v:K3}{S:List Nat}(hS:∀b∈S,w'.heap[b]? =w.heap[b]?):∀{t:Tm},
  vt gh w X B s F a v S t->vt gh w' X' B s F a v S t
 |.pR,h|.tup,h=>h
 |.val T f x,⟨C,d,o⟩=>⟨C,d,vv hX hw o hS⟩
 |.box e T f x,⟨b,c,G,d,o,H,D⟩=>
  ⟨b,c,G,d,o,Af,vv hX hw D λI J=>hS I Af⟩
 |.ptr r p,h=>h
 |.aep r p i,h=>h
 |.pls _ _,⟨l,h⟩=>⟨l,KG hX hw (λ_ _ _ h=>h) h⟩
 |.cl _ _,h=>h
 |.bel r p i q,⟨l,d⟩=>⟨l,λz K=>let⟨e,t,A,n,cap,x0,y,cs,h,k1,k2,k3,k4,k5,k6,k7⟩:=d z K;⟨e,t,A,n,cap,x0,y,cs,VK h (hF (.m r)),k1,k2,k3,k4,k5,k6,λj u L=>by
   grind[Lj,L3]⟩⟩
 |.shp T x,⟨l,A,C,d,o,H,D⟩=>
  ⟨l,A,C,d,hX _ o,λj u L=>by
   grind[Lj,L3],Wy hX hw D Ac⟩
 |.bor r p,⟨l,d⟩=>⟨l,λz=>let⟨U,h⟩:=d z;⟨U,VK h (hF (.m r))⟩⟩
 |.elp r p i q,⟨l,d⟩=>⟨l,λz=>let⟨e,t,A,n,cap,h,h'⟩:=d z;⟨e,t,A,n,cap,VK h (hF (.m r)),h'⟩⟩
 |.gd g E t,h=>λz=>let⟨l,d,o⟩:=h z;⟨l,λM=>qp hX hw hF hS (d M),o⟩
def R.world(h:R n W0 w X F H s a)(hb:W0.below w')(hs:w.heap.size<=w'.heap.size)(hX:∀b,X b->w'.heap[b]? =w.heap[b]?)
  (hF:∀k b,b∈F k->w'.heap[b]? =w.heap[b]?):R n W0 w' X F H s a:=
 {h with
  below:=hb
  glob:=g.stays _ _ h.glob λb hb=>hX b (h.gx b hb)
  xlt:=λb c=>L6 (h.xlt b c) hs
  own:=λk b c=>let⟨h1,h2,h3⟩:=h.own k b c;⟨h1,L6 h2 hs,h3⟩
  hown:=λb c=>let⟨h1,h2,h3⟩:=h.hown b c;⟨h1,L6 h2 hs,h3⟩
  slots:=λk=>qp (λ_ h=>h) hX hF (hF k) (h.slots k)}
def R.drop(h:R n W0 w X F (S++H) s a):R n W0 w X F H s a:=
 {h with
  hown:=λb c=>h.hown b (by simp[c])
  pK:=(Lg.1 h.pK).2.1
  pL:=λk b c d=>h.pL k b c (by simp[d])}
def R.hand(h:R n W0 w X F H s a)(hS:∀b∈S,W0.mine b/\b<w.heap.size/\ ¬X b)(hn:S.Nodup)(hF:∀k b,b∈F k->b∉S)(hH:∀b∈S,b∉H):
  R n W0 w X F (S++H) s a:=
 {h with
  hown:=λb c=>(Lm.1 c).elim (hS b) (h.hown b)
  pK:=Lg.2 ⟨hn,h.pK,λx hx y d e=>hH x hx (by rw[e];exact d)⟩
  pL:=λk b c f=>(Lm.1 f).elim (hF k b c) (h.pL k b c)}
def R.give(hs:g.soft=K4)(h:R n W0 w X F (S++H) s a):R n W0 w (λb=>X b\/b∈S) F H s a:=
 {h.drop with
  gx:=λb c=>.inl (h.gx b c)
  xs:=λe=>Af
  xlt:=λb c=>c.elim (h.xlt b) λc=>(h.hown b (by simp[c])).2.1
  xin:=λb c=>c.elim (h.xin b) λc=>.inr (h.hown b (by simp[c])).1
  x0:=λb c=>.inl (h.x0 b c)
  own:=λk b c=>let⟨h1,h2,h3⟩:=h.own k b c;⟨h1,h2,λhx=>hx.elim h3 λd=>h.pL k b c (by simp[d])⟩
  hown:=λb c=>let⟨h1,h2,h3⟩:=h.hown b (by simp[c]);⟨h1,h2,λhx=>hx.elim h3 λd=>(Lg.1 h.pK).2.2 b d b c rfl⟩
  slots:=λk=>qp (λ_ h=>.inl h) (λ_ _=>rfl) (λ_ _ _=>rfl) (λ_ _=>rfl) (h.slots k)}
def St.free(s:St)(d:Nat):Bool:= !(s.pQ.any (Lo d))
def Wa(s:St)(d:Nat):Bool:=
 match s.get (.m d)with
 |.box .. |.tup=>K4
 |_=>s.free d
def Tr{s:St}(h:Wa s d=La):d∉s.pQ:=by grind[St.free,Md,Wa]
def Jb(s:St)(d:Nat)(t:Tm):St:={env:=(.m d,t)::s.env,pP:=match s.get (.m d)with|.pR=>s.pP|_=>d::s.pP,pQ:=s.pQ}
theorem px(s:St)(d:Nat)(t:Tm)(k:A4):(Jb s d t).get k=ite (A4.m d=k) t (s.get k):=Qd _ _ _ _
def JE(s:St)(d:Nat)(t:Tm):(Jb s d t).get (.m d)=t:=by rw[px];simp
def OL{s:St}{t:Tm}{r:Nat}(h:(Jb s d t).pN r=K4):s.pN r=K4/\(r=d->s.get (.m r)=.pR):=by grind[Jb,St.pN,Md]
def FY{s s2:St}(h:∀r,s2.pN r=K4->s.pN r=K4){r:Nat}:∀{p:List Nat},s2.bad r p=K4->s.bad r p=K4
 |[],a=>by simp_all[St.bad]
 |_::_,a=>by simp_all[St.bad]
def DL{s:St}{t:Tm}{r:Nat}(h:(Jb s d t).bad r p=K4):s.bad r p=K4/\(r=d->s.get (.m r)=.pR):=⟨FY (λ_ h=>(OL h).1) h,(OL (St.bad_foul h)).2⟩
abbrev Q6(F:A4->List Nat)(k:A4)(S:List Nat):A4->List Nat:=λj=>ite (j=k) S (F j)
def OR{t:Tm}{r:Nat}{U:Ty}(hr:r≠d)
  (h:X4 gh w s F a r p u U):X4 gh w (Jb s d t) (Q6 F (.m d) S) (a.put (K1 d) v) r p u U:=by
 have e:(Jb s d t).get (.m r)=s.get (.m r):=by simp_all[px,L0]
 unfold X4 at*
 rw[e];cases hg:s.get (.m r)<;>rw[hg]at h<;>simp only at h⊢
 ·grind[dh,A4.t]
 grind
def C1{r:Nat}{U:Ty}(h:X4 gh w s F a r p v U):s.get (.m r)≠ .pR:=by grind[X4]
def RG{t:Tm}(hd:Wa s d=La){r:Nat}(hu:qY s F r p v):qY (Jb s d t) (Q6 F (.m d) S0) r p v:=by
 obtain⟨e,T,f,x,b,a,g,h,c⟩:=hu;have i:r≠d:=λj=>AA
 refine⟨e,T,f,x,b,a,?_,Ag,c⟩;simp_all[px,L0]
def Tb{s2:St}{F2:A4->List Nat}(ha:∀r p v,qY s F r p v->qY s2 F2 r p v)(hv:clV s F f l v):clV s2 F2 f l v:=by
 obtain⟨a,b,c,d⟩:=hv;refine⟨a,b,c,λj q e=>?_⟩
 grind
def wT{t:Tm}{v0:K3}(hd:Wa s d=La):∀{u:Tm},
  vt gh w X B s F a v S u->vt gh w X B (Jb s d t) (Q6 F (.m d) S0) (a.put (K1 d) v0) v S u:=by
 intro u c
 induction u with
 |pR=>exact c
 |tup=>exact c
 |val T f x=>exact c
 |box e T f x=>exact c
 |shp T x=>exact c
 |ptr r p=>
  obtain⟨k,e,T,f,x,b,H,o,G,D⟩:=c;have z:r≠d:=λK=>AA
  refine⟨k,e,T,f,x,b,H,?_,Ag,D⟩;simp_all[px,L0]
 |aep r p i=>
  obtain⟨k,e,T,f,x,b,H,n,E,y,o,G,D⟩:=c;have z:r≠d:=λK=>AA
  refine⟨k,e,T,f,x,b,H,n,E,y,?_,Ag,D⟩;simp_all[px,L0]
 |bor r p=>
  obtain⟨k,o⟩:=c;refine⟨k,λj=>?_⟩;obtain⟨j,A⟩:=DL j;obtain⟨U,h⟩:=o j;have z:r≠d:=λe=>C1 h (A e);exact⟨U,OR z h⟩
 |elp r p i q=>
  obtain⟨k,o⟩:=c;refine⟨k,λj=>?_⟩;obtain⟨j,A⟩:=DL j;obtain⟨e,E,I,n,C,h,G,D,L⟩:=o j;have z:r≠d:=λe=>C1 h (A e);exact⟨e,E,I,n,C,OR z h,G,D,L⟩
 |bel r p i q=>
  obtain⟨k,o⟩:=c;refine⟨k,λj M=>?_⟩;obtain⟨j,A⟩:=DL j;obtain⟨e,E,I,n,C,N,y,O,h,P,Q,W,V⟩:=o j (OL M).1;have z:r≠d:=λe=>C1 h (A e);exact⟨e,E,I,n,C,N,y,O,OR z h,P,Q,Ag,V⟩
 |cl f l=>exact⟨c.1,Tb (λ_ _ _ h=>RG hd h) c.2⟩
 |pls h l=>exact⟨c.1,KG (λ_ h=>h) (λ_ _=>rfl) (λ_ _ _ h=>RG hd h) c.2⟩
 |gd g J u Y=>
  intro j;obtain⟨j,A⟩:=OL j;obtain⟨k,o,G⟩:=c j;have Z:g≠d:=λe=>k (A e);have hv:Qw gh (a.put (K1 d) v0) (.m g)=Qw gh a (.m g):=dh (by simp_all[A4.t]);simp_all[px,L0]
def R.put{d:Nat}{t:Tm}{v:K3}{S:List Nat}(h:R n W0 w X F (S++H) s a)(hd:Wa s d=La)(hn:d<n)
  (hr:vt W0.gh w X W0.B s F a v S t):
  R n W0 w X (Q6 F (.m d) S) H (Jb s d t) (a.put (K1 d) v) where
 size:=by simp[Mg,h.size]
 defers:=by simp[Mg,h.defers]
 below:=h.below
 glob:=h.glob
 gx:=h.gx
 xs:=h.xs
 fix:=λp o=>⟨(h.fix p o).1,by
  have:=Tr hd;have u:p.1≠d:=λe=>this (e▸(h.fix p o).1);rw[dh (by simp_all[A4.t])];exact(h.fix p o).2⟩
 xlt:=h.xlt
 xin:=h.xin
 x0:=h.x0
 own:=λk b f=>by
  simp only[Q6]at f;split at f
  ·exact h.hown b (by simp[f])
  ·exact h.own k b f
 nodup:=λk=>by
  simp only[Q6];split
  ·exact(Lg.1 h.pK).1
  ·exact h.nodup k
 pS:=λk r b f g=>by
  simp only[Q6]at f g;split at f<;>split at g
  ·simp_all
  ·exact absurd (by simp[f]) (h.pL r b g)
  ·exact absurd (by simp[g]) (h.pL k b f)
  ·exact h.pS k r b f g
 hown:=h.drop.hown
 pK:=h.drop.pK
 pL:=λk b f=>by
  simp only[Q6]at f;split at f
  ·exact λx=>(Lg.1 h.pK).2.2 b f b x rfl
  ·exact h.drop.pL k b f
 pM:=λq i l=>by
  rw[px]at l⊢;simp only[reduceCtorEq,if_false]at l;obtain⟨A,y⟩:=h.pM q i l;by_cases e:d=q
  ·simp_all[Wa]
  ·refine⟨Af,?_⟩;rw[dh (a:=a) (v:=v) (k:=.m q) (d:=d) (by simp_all[A4.t,L0])];exact y
 slots:=λk=>by
  by_cases hk:k=.m d
  ·subst hk;rw[JE,wc (by rw[h.size];exact hn)];simp_all[wT,Q6]
  ·have e:Q6 F (.m d) S k=F k:=by simp[Q6,hk]
   rw[px,e];simp only[L0 hk,if_false];by_cases j:k.t=d
   ·cases k with
    |m t=>simp_all[A4.t]
    |c t i=>
     simp[A4.t]at j;subst j;have z:s.get (.c t i)=.pR:=Classical.byContradiction λl=>by
      have:=(h.pM t i l).1;simp_all[Wa]
     have:=h.slots (.c t i);rw[z]at this⊢;exact this
   ·rw[dh j];exact wT hd (h.slots k)
def Y7(s:St)(r:Nat)(t:Tm):St:={env:=(.m r,t)::s.env,pP:=r::s.pP,pQ:=s.pQ}
theorem Ye(s:St)(r:Nat)(t:Tm)(k:A4):(Y7 s r t).get k=ite (A4.m r=k) t (s.get k):=Qd _ _ _ _
theorem ZC{r' r:Nat}{t:Tm}(h:(Y7 s r t).pN r'=K4):s.pN r'=K4/\r'≠r:=by grind[Y7,St.pN,Md]
def Qv1(gh:Nat->K3)(w w':Lc)(s s2:St)(F F2:A4->List Nat)(a:Act)(d:Nat):Prop:=s2.get (.m d)≠ .pR/\ ∀p v U,X4 gh w s F a d p v U->X4 gh w' s2 F2 a d p v U
structure Td(gh:Nat->K3)(w w':Lc)(s s2:St)(F F2:A4->List Nat)(a:Act)(d:Nat)(t:Tm):Prop where
 pQ:s2.pQ=s.pQ
 get:∀k,s2.get k=ite (A4.m d=k) t (s.get k)
 pN:∀r,s2.pN r=K4->s.pN r=K4/\(r=d->s2.get (.m d)≠ .pR)
 bad:∀r p,s2.bad r p=K4->s.bad r p=K4/\(r=d-> ∀v U,X4 gh w s F a d p v U->X4 gh w' s2 F2 a d p v U)
 el:∀r,s2.pN r=K4->s2.pN (om r)=K4->s.pN (om r)=K4/\r≠d
def Pi{t:Tm}{F2:A4->List Nat}:Td gh w w' s (Y7 s d t) F F2 a d t where
 pQ:=rfl
 get:=Ye s d t
 pN _ h:=⟨(ZC h).1,λe=>absurd e (ZC h).2⟩
 bad _ _ h:=⟨FY (λ_ h=>(ZC h).1) h,λe=>absurd e (ZC (St.bad_foul h)).2⟩
 el _ h he:=⟨(ZC he).1,(ZC h).2⟩
def Fv{s2:St}{t:Tm}{r:Nat}{U:Ty}(ht:Td gh w w' s s2 F (Q6 F (.m d) S) a d t)(hr:r≠d)
  (hF:∀b∈F (.m r),w'.heap[b]? =w.heap[b]?) (h:X4 gh w s F a r p u U):X4 gh w' s2 (Q6 F (.m d) S) a r p u U:=by
 have e:s2.get (.m r)=s.get (.m r):=by rw[ht.get];simp[L0 hr]
 have h:=VK h hF;simp_all[X4,Q6]
def RE{s2:St}{t:Tm}(ht:Td gh w w' s s2 F (Q6 F (.m d) S0) a d t)(hX:∀b,X b->X' b)(hw:∀b,X b->w'.heap[b]? =w.heap[b]?)
  (hF:∀k b,k≠ .m d->b∈F k->w'.heap[b]? =w.heap[b]?) (hS:∀b∈S,w'.heap[b]? =w.heap[b]?)
  (same:∀e T f x b S',s.get (.m d)=.box e T f x->F (.m d)=b::S'-> ∃f' x' S'',t=.box e T f' x'/\S0=b::S''):∀{u:Tm},
  vt gh w X B s F a v S u->vt gh w' X' B s2 (Q6 F (.m d) S0) a v S u:=by
 intro u o;have V:∀{r:Nat}{p:List Nat}{v:K3}{U:Ty},(r=d-> ∀v U,X4 gh w s F a d p v U->X4 gh w' s2 (Q6 F (.m d) S0) a d p v U)->X4 gh w s F a r p v U->X4 gh w' s2 (Q6 F (.m d) S0) a r p v U:=by
  intro r p v U hk hv;by_cases z:r=d
  ·simp_all
  ·exact Fv ht z (λb=>hF (.m r) b (by simpa using z)) hv
 induction u with
 |pR=>exact o
 |tup=>exact o
 |val T f x=>exact qp (s:=s) (F:=λ_=>[]) (a:=a) (v:=v) (t:=.val T f x) hX hw Ac hS (show vt gh w X B s (λ_=>[]) a v S (.val T f x)from o)
 |box e T f x=>exact qp (s:=s) (F:=λ_=>[]) (a:=a) (v:=v) (t:=.box e T f x) hX hw Ac hS (show vt gh w X B s (λ_=>[]) a v S (.box e T f x)from o)
 |shp T x=>exact qp (s:=s) (F:=λ_=>[]) (a:=a) (v:=v) (t:=.shp T x) hX hw Ac hS (show vt gh w X B s (λ_=>[]) a v S (.shp T x)from o)
 |ptr r p=>
  obtain⟨C,e,T,f,x,b,S',c,E,D⟩:=o;by_cases z:d=r
  ·subst z;obtain⟨f',x',S'',rfl,rfl⟩:=same e T f x b S' c E;exact⟨C,e,T,f',x',b,S'',by rw[ht.get];simp,by simp[Q6],D⟩
  ·exact⟨C,e,T,f,x,b,S',by rw[ht.get];simp[z,c],Ag,D⟩
 |aep r p i=>
  obtain⟨C,e,T,f,x,b,S',n,H,y,c,E,D,O⟩:=o;by_cases z:d=r
  ·subst z;obtain⟨f',x',S'',rfl,rfl⟩:=same e T f x b S' c E;obtain⟨⟨T2,W⟩,J,I⟩:=Pu (x':=x') D;simp only at I;subst I;exact⟨C,e,T,f',x',b,S'',n,H,W,by rw[ht.get];simp,by simp[Q6],J,O⟩
  ·exact⟨C,e,T,f,x,b,S',n,H,y,by rw[ht.get];simp[z,c],Ag,D,O⟩
 |bor r p=>
  obtain⟨C,c⟩:=o;refine⟨C,λA=>?_⟩;obtain⟨A,G⟩:=ht.bad r p A
  grind
 |elp r p i q=>
  obtain⟨C,c⟩:=o;refine⟨C,λA=>?_⟩;obtain⟨A,G⟩:=ht.bad r p A
  grind
 |bel r p i q=>
  obtain⟨C,c⟩:=o;refine⟨C,λA K=>?_⟩;obtain⟨K,z⟩:=ht.el r (St.bad_foul A) K;obtain⟨A,G⟩:=ht.bad r p A;obtain⟨e,H,L,n,M,Y,y,Z,h,J,I,k3,k4,k5,k6,k7⟩:=c A K;have P:∀m,(L.add m).block=L.block:=λm=>by grind[Lj]
  exact⟨e,H,L,n,M,Y,y,Z,V G h,J,I,Ag,k4,k5,k6,λj u G=>by
   grind[L3]⟩
 |cl f l=>
  refine⟨o.1,Tb (λr p v N=>?_) o.2⟩;obtain⟨e,T,f,x,b,S',c,E,D⟩:=N;by_cases z:d=r
  ·subst z;obtain⟨f',x',S'',rfl,rfl⟩:=same e T f x b S' c E;exact⟨e,T,f',x',b,S'',by rw[ht.get];simp,by simp[Q6],D⟩
  ·exact⟨e,T,f,x,b,S',by rw[ht.get];simp[z,c],Ag,D⟩
 |pls hh l=>
  refine⟨o.1,KG hX hw (λr p v N=>?_) o.2⟩;obtain⟨e,T,f,x,b,S',c,E,D⟩:=N;by_cases z:d=r
  ·subst z;obtain⟨f',x',S'',rfl,rfl⟩:=same e T f x b S' c E;exact⟨e,T,f',x',b,S'',by rw[ht.get];simp,by simp[Q6],D⟩
  ·exact⟨e,T,f,x,b,S',by rw[ht.get];simp[z,c],Ag,D⟩
 |gd g Q u ih=>
  intro A;obtain⟨A,G⟩:=ht.pN g A;obtain⟨C,c,E⟩:=o A;refine⟨?_,λP=>ih (c P),E⟩;by_cases hg:g=d
  ·simp_all
  ·rw[ht.get];grind
def R.turn'{s2:St}{r:Nat}{t:Tm}(h:R n W0 w X F H s a)(hT:Td W0.gh w w' s s2 F (Q6 F (.m r) S') a r t)
  (hb:W0.below w') (hs:w.heap.size<=w'.heap.size) (hX:∀b,X b->w'.heap[b]? =w.heap[b]?)
  (hF:∀k b,k≠ .m r->b∈F k->w'.heap[b]? =w.heap[b]?)
  (hin:∀b,b∈S'++H'->b∈F (.m r)++H) (hn:(S'++H').Nodup) (ht:s.get (.m r)≠ .tup)
  (same:∀e T f x b S,s.get (.m r)=.box e T f x->F (.m r)=b::S-> ∃f' x' S'',t=.box e T f' x'/\S'=b::S'')
  (hr:vt W0.gh w' X W0.B s2 (Q6 F (.m r) S') a (Qw W0.gh a (.m r)) S' t):
  R n W0 w' X (Q6 F (.m r) S') H' s2 a:=by
 have j:∀b,b∈S'++H'->W0.mine b/\b<w.heap.size/\ ¬X b:=λb hb=>
  (Lm.1 (hin b hb)).elim (h.own _ b) (h.hown b)
 have l:∀k b,k≠ .m r->b∈F k->b∉S'++H':=λk b hk hb c=>
  (Lm.1 (hin b c)).elim (λc=>hk (h.pS _ _ b hb c)) (h.pL k b hb)
 exact
 {size:=h.size
  defers:=h.defers
  below:=hb
  glob:=g.stays _ _ h.glob λb hb=>hX b (h.gx b hb)
  gx:=h.gx
  xs:=h.xs
  fix:=λp o=>⟨by rw[hT.pQ];exact(h.fix p o).1,(h.fix p o).2⟩
  xlt:=λb hb=>L6 (h.xlt b hb) hs
  xin:=h.xin
  x0:=h.x0
  own:=λk b hb=>by
   simp only[Q6]at hb;split at hb
   ·grind
   ·obtain⟨q,u,z⟩:=h.own k b hb;grind
  nodup:=λk=>by
   simp only[Q6];split
   ·grind
   ·exact h.nodup k
  pS:=λk v b hb c=>by
   simp only[Q6]at hb c;split at hb<;>split at c
   ·simp_all
   ·grind
   ·grind
   ·exact h.pS k v b hb c
  hown:=λb hb=>Ag
  pK:=(Lg.1 hn).2.1
  pL:=λk b hb=>by
   grind
  pM:=λy i d=>by
   rw[hT.get]at d⊢;simp only[reduceCtorEq,if_false]at d;obtain⟨q,u⟩:=h.pM y i d
   grind
  slots:=λk=>by
   by_cases hk:k=.m r
   ·subst hk;rw[hT.get];grind
   ·have e:Q6 F (.m r) S' k=F k:=by simp[Q6,hk]
    rw[hT.get,e];simp only[L0 hk,if_false];exact RE hT (λ_ h=>h) hX hF (λb=>hF k b hk) same (h.slots k)}
def R.turn{r:Nat}{t:Tm}(h:R n W0 w X F H s a)
  (hb:W0.below w') (hs:w.heap.size<=w'.heap.size) (hX:∀b,X b->w'.heap[b]? =w.heap[b]?)
  (hF:∀k b,k≠ .m r->b∈F k->w'.heap[b]? =w.heap[b]?)
  (hin:∀b,b∈S'++H'->b∈F (.m r)++H) (hn:(S'++H').Nodup) (ht:s.get (.m r)≠ .tup)
  (same:∀e T f x b S,s.get (.m r)=.box e T f x->F (.m r)=b::S-> ∃f' x' S'',t=.box e T f' x'/\S'=b::S'')
  (hr:vt W0.gh w' X W0.B (Y7 s r t) (Q6 F (.m r) S') a (Qw W0.gh a (.m r)) S' t):
  R n W0 w' X (Q6 F (.m r) S') H' (Y7 s r t) a:=
 h.turn' Pi hb hs hX hF hin hn ht same hr
def KJ(s:St)(r:Nat)(t:Tm):St:={env:=(.m r,t)::s.env,pP:=om r::s.pP,pQ:=s.pQ}
theorem Kn(s:St)(r:Nat)(t:Tm)(k:A4):(KJ s r t).get k=ite (A4.m r=k) t (s.get k):=Qd _ _ _ _
def sw{s:St}{e:List (A4×Tm)}{m:List Nat}{r:Nat}(h:St.pN {env:=e,pP:=m++s.pP,pQ:=l} r=K4):s.pN r=K4/\r∉m:=by grind[St.pN,Md]
def wq{t:Tm}{F2:A4->List Nat}(h:Qv1 gh w w' s (KJ s d t) F F2 a d):Td gh w w' s (KJ s d t) F F2 a d t where
 pQ:=rfl
 get:=Kn s d t
 pN _ h':=⟨(sw (m:=[om d]) h').1,λ_=>h.1⟩
 bad _ _ h':=⟨FY (λ_ h=>(sw (m:=[om d]) h).1) h',λ_ v U hv=>h.2 _ v U hv⟩
 el _ _ he:=⟨(sw (m:=[om d]) he).1,λe=>(sw (m:=[om d]) he).2 (by simp[e])⟩
def FP(s:St)(r i:Nat)(t:Tm):St:={env:=(.m r,t)::s.env,pP:=om r::jV r::dW r i::s.pP,pQ:=s.pQ}
def BU(s:St)(r i:Nat)(t:Tm)(k:A4):(FP s r i t).get k=ite (A4.m r=k) t (s.get k):=Qd _ _ _ _
def Qfl{t:Tm}{F2:A4->List Nat}(h1:t≠ .pR)(h2:∀j p v U,j≠i->X4 gh w s F a d (j::p) v U->X4 gh w' (FP s d i t) F2 a d (j::p) v U):Td gh w w' s (FP s d i t) F F2 a d t where
 pQ:=rfl
 get:=BU s d i t
 pN _ h':=⟨(sw (m:=[om d,jV d,dW d i]) h').1,λ_=>by simp_all[BU]⟩
 bad r p h':=⟨FY (λ_ h=>(sw (m:=[om d,jV d,dW d i]) h).1) h',λe v U hv=>by
  subst e;cases p with
  |nil=>
   simp only[St.bad,Mh]at h';exact absurd Ac (sw (m:=[om r,jV r,dW r i]) h'.2).2
  |cons j p=>
   refine h2 j p v U (λe=>?_) hv;subst e;simp only[St.bad,Mh]at h';exact absurd Ac (sw (m:=[om r,jV r,dW r j]) h'.2).2⟩
 el _ _ he:=⟨(sw (m:=[om d,jV d,dW d i]) he).1,λe=>(sw (m:=[om d,jV d,dW d i]) he).2 (by simp[e])⟩
def C9{α:Type}(f:List K3->Option (α×List K3)):Nat->List K3->Option (List α×List K3)
 |0,vs=>K1 ([],vs)
 |n+1,vs=>match f vs with
  |some (x,r)=>match C9 f n r with
   |some (xs,r')=>K1 (x::xs,r')
   |none=>K2
  |none=>K2
def cF:(T:Ty)->List K3->Option (T.den×List K3)
 |.unit,vs=>K1 ((),vs)
 |.int k,vs=>match vs with|.int k' n::r=>ite (k'=k) (K1 (n,r)) K2|_=>K2
 |.bool,vs=>match vs with|.bool b::r=>K1 (b,r)|_=>K2
 |.fnc _,_=>K2
 |.str,vs=>match vs with|.string s::r=>K1 (s.data.toList,r)|_=>K2
 |.slice _ _,vs=>match vs with|.slice K2 0 0::r=>K1 ([],r)|_=>K2
 |.pair a b,vs=>match cF a vs with
  |some (x,r)=>match cF b r with
   |some (y,r')=>K1 ((x,y),r')
   |none=>K2
  |none=>K2
 |.arr n t,vs=>C9 (cF t) n vs
 |.err,vs=>match vs with|.nilIface::r=>K1 (La,r)|_=>K2
 |.hid _,_=>K2
 |.sptr ..,_=>K2
 |.clo ..,_=>K2
def G2(T:Ty)(v:K3):Option T.den:=
 match(match T with
  |.unit|.pair .. |.arr .. =>(match v with|.agg cs=>K1 cs.toList|_=>K2)
  |_=>K1 [v])with
 |some vs=>match cF T vs with
  |some (x,[])=>K1 x
  |_=>K2
 |none=>K2
def zero:(T:Ty)->T.den|.unit=>()|.int _=>(0:Int)|.bool=>K4|.fnc _=>()|.str=>[]|.slice _ _=>[]|.pair a b=>(zero a,zero b)|.arr n t=>Lw n (zero t)|.err=>La|.hid _=>()|.sptr _ t=>zero t|.clo _ t=>zero t
def Jk:Ty->List K3|.unit=>[]|.int k=>[.int k 0]|.bool=>[.bool K4]|.fnc f=>[.func (.func f) #[] #[]]|.str=>[.string ⟨#[]⟩]|.slice _ _=>[.slice K2 0 0]|.pair a b=>Jk a++Jk b|.arr n t=>(Lw n (Jk t)).flatten|.err=>[.nilIface]|.hid t=>(Jk t).take 1|.sptr .. =>[.pointer K2]|.clo f _=>[.func (.func f) #[] #[]]
def Pa(e:Lb)(sz:Nat):ep w X B own e sz 0 (.slice K2 0 0) [] []:=by
 cases own
 ·exact⟨rfl,Ac,K2,0,rfl,Lx _,by simp[maxLen],.inl ⟨rfl,rfl,rfl⟩⟩
 ·exact⟨Lc.ownsRow_nil _ _ _ _,rfl⟩
 ·exact⟨Ac,rfl,.inl ⟨rfl,rfl⟩⟩
def Si{α:Type}{f:List K3->Option (α×List K3)}{r:α->List K3->List Nat->Prop}(hf:∀vs x q,f vs=K1 (x,q)-> ∃v1,vs=v1++q/\r x v1 []):
  ∀{n:Nat}{vs:List K3}{xs:List α}{q:List K3},C9 f n vs=K1 (xs,q)-> ∃v1,vs=v1++q/\xs.length=n/\cS r xs v1 []
 |0,vs,xs,q,h=>by simp only[C9,pB,pF]at h;obtain⟨rfl,rfl⟩:=h;exact⟨[],rfl,rfl,rfl,rfl⟩
 |n+1,vs,xs,q,h=>by
  simp only[C9]at h;split at h
  ·rename_i x j b;split at h
   ·rename_i c k d;simp only[pB,pF]at h;obtain⟨rfl,rfl⟩:=h;obtain⟨v1,rfl,e⟩:=hf _ _ _ b;obtain⟨a,rfl,g,i⟩:=Si hf d;exact⟨v1++a,Ac,by simp[g],v1,a,[],[],rfl,rfl,e,i⟩
   ·cases h
  ·cases h
def Qun:∀{T:Ty}{vs:List K3}{x:T.den}{q:List K3},cF T vs=K1 (x,q)-> ∃v1,vs=v1++q/\rd w X B own T x v1 []:=by
 intro T
 induction T with
 |unit=>intro vs x q h;simp only[cF,pB,pF]at h;obtain⟨_,rfl⟩:=h;exact⟨[],rfl,rfl,rfl⟩
 |int k=>
  intro vs x q h;simp only[cF]at h;split at h
  ·rename_i u m r;split at h
   ·rename_i e;subst e;simp only[pB,pF]at h;obtain⟨rfl,rfl⟩:=h;exact⟨[_],rfl,rfl,rfl⟩
   ·cases h
  ·cases h
 |bool=>
  intro vs x q h;simp only[cF]at h;split at h
  ·simp only[pB,pF]at h;obtain⟨rfl,rfl⟩:=h;exact⟨[_],rfl,rfl,rfl⟩
  ·cases h
 |fnc f=>simp_all[cF]
 |hid t=>simp_all[cF]
 |sptr e t=>simp_all[cF]
 |clo f t=>simp_all[cF]
 |err=>
  intro vs x q h;simp only[cF]at h;split at h
  ·simp only[pB,pF]at h;obtain⟨rfl,rfl⟩:=h;exact⟨[_],rfl,⟨_,rfl,rfl,Ac⟩,rfl⟩
  ·cases h
 |str=>
  intro vs x q h;simp only[cF]at h;split at h
  ·simp only[pB,pF]at h;obtain⟨rfl,rfl⟩:=h;exact⟨[_],rfl,rfl,rfl⟩
  ·cases h
 |slice e t j=>
  intro vs x q h;simp only[cF]at h;split at h
  ·simp only[pB,pF]at h;obtain⟨rfl,rfl⟩:=h;exact⟨[_],rfl,_,[],[],[],rfl,rfl,Pa _ _,rfl,rfl⟩
  ·cases h
 |pair a b c d=>
  intro vs x q h;simp only[cF]at h;split at h
  ·rename_i v y g;split at h
   ·rename_i z A i;simp only[pB,pF]at h;obtain⟨rfl,rfl⟩:=h;obtain⟨v1,rfl,o⟩:=c g;obtain⟨l,rfl,p⟩:=d i;exact⟨v1++l,Ac,v1,l,[],[],rfl,rfl,o,p⟩
   ·cases h
  ·cases h
 |arr n t j=>
  intro vs x q h;obtain⟨v1,g,i,s⟩:=Si (r:=rd w X B own t) (λvs x q h=>j h) h;exact⟨v1,g,i,s⟩
def zR{T:Ty}{x:T.den}(h:G2 T v=K1 x):∃vs,v=Yh T vs/\rd w X B own T x vs []:=by
 unfold G2 at h;split at h
 ·rename_i vs hv;split at h
  ·rename_i y b;simp only[pB]at h;subst h;obtain⟨d,a,c⟩:=Qun (w:=w) (X:=X) (B:=B) (own:=own) b;simp only[Ng]at a;subst a;refine⟨vs,?_,c⟩;cases T<;>simp only[Yh]at hv⊢
   all_goals first
    |(simp only[pB]at hv;subst hv;rfl)
    |(split at hv<;>first|(simp only[pB]at hv;subst hv;simp)|cases hv)
  ·cases h
 ·cases h
def zL{α:Type}{r:α->List K3->List Nat->Prop}{z:α}{c:List K3}(h:r z c []):∀n:Nat,cS r (Lw n z) (Lw n c).flatten []
 |0=>⟨rfl,rfl⟩
 |n+1=>⟨c,(Lw n c).flatten,[],[],by rfl,rfl,h,zL h n⟩
def JL:∀{T:Ty},T.plain=La->rd w X B own T (zero T) (Jk T) []
 |.unit,_=>⟨rfl,rfl⟩
 |.int _,_=>⟨rfl,rfl⟩
 |.bool,_=>⟨rfl,rfl⟩
 |.fnc _,_=>⟨rfl,rfl⟩
 |.str,_=>⟨rfl,rfl⟩
 |.slice _ _,_=>⟨_,[],[],[],rfl,rfl,Pa _ _,rfl,rfl⟩
 |.pair a b,h=>by
  simp only[Ty.plain,pC]at h;exact⟨_,_,[],[],rfl,rfl,JL h.1,JL h.2⟩
 |.arr n t,h=>⟨by simp[zero],zL (JL (by simp_all[Ty.plain])) n⟩
 |.err,_=>⟨⟨_,rfl,rfl,.inl ⟨rfl,rfl⟩⟩,rfl⟩
 |.hid t,h=>by
  simp only[Ty.plain,pC]at h;have c:=JL h.2;have d:=(X9 c).trans (pD h.1);have e:(Jk t).take 1=Jk t:=Nr Aa;show _/\_
  grind[Jk]
 |.sptr ..,h=>by simp[Ty.plain]at h
 |.clo ..,h=>by simp[Ty.plain]at h
inductive TB where
 |cst (v:K3)|fn (f:L5)|tm (k:Nat) (t:Tm)|bad
abbrev Yl:=List (Nat×Bool)
def Yl.has(tg:Yl)(g:Nat)(b:Bool):Bool:=tg.any λp=>Lo p.1 g&&(match p.2,b with|true,La=>La|false,K4=>La|_,_=>K4)
def DB(s:St)(tg:Yl):Tm->Tm
 |.gd g b t=>match s.pN g with
  |true=>.pR
  |false=>match tg.has g b with|true=>t|false=>.pR
 |t=>t
def RO(s:St)(tg:Yl):Le->TB
 |.const v=>.cst v
 |.func f=>.fn f
 |.tmp k=>match L4 k 1048576 with|true=>.tm k (DB s tg (s.get (.m k)))|false=>.bad
 |.global _=>.bad
def Yl.ok(tg:Yl)(gh:Nat->K3)(a:Act):Prop:= ∀p∈tg,Qw gh a (.m p.1)=.bool p.2
def Yl.has_ok{tg:Yl}{gh:Nat->K3}{a:Act}(h:tg.ok gh a){g:Nat}{b:Bool}(hh:tg.has g b=La):Qw gh a (.m g)=.bool b:=by
 unfold Yl.has at hh;rw[List.any_eq_true]at hh;obtain⟨⟨e,f⟩,d,c⟩:=hh;simp only[pC]at c;obtain⟨i,j⟩:=c;have:=h _ d
 grind[pD]
def Qn9{gh:Nat->K3}{tg:Yl}(ht:tg.ok gh a){t:Tm}(h:vt gh w X B s F a v S t)(hj:DB s tg t≠ .pR):vt gh w X B s F a v S (DB s tg t):=by
 cases t with
 |gd g b t=>
  simp only[DB]at hj⊢;cases hf:s.pN g<;>simp only[hf]at hj⊢
  ·cases hh:tg.has g b<;>simp only[hh]at hj⊢
   ·simp_all
   ·exact(h hf).2.1 (Yl.has_ok ht hh)
  simp_all
 |_=>exact h
theorem Y4(W0:bu g)(a:Act){k:Nat}(hk:L4 k 1048576=La):Qw W0.gh a (.m k)=a.eval (.tmp k):=by
 show uI _ _ _=a.tmps.getD k undef;unfold uI;rw[Array.getD_eq_getD_getElem?];cases a.tmps[k]? with
 |none=>exact W0.ghU k (by simp_all[FD])
 |some v=>rfl
def ug{tg:Yl}{k:Nat}{t:Tm}(hx:RO s tg x=.tm k t):x=.tmp k/\L4 k 1048576=La/\t=DB s tg (s.get (.m k)):=by
 cases x with
 |tmp j=>simp only[RO]at hx;grind
 |_=>cases hx
def Cq{tg:Yl}(hx:RO s tg x=.cst v):x=.const v:=by
 cases x with
 |tmp j=>grind[RO]
 |const u=>cases hx;rfl
 |_=>cases hx
def EU{tg:Yl}(hx:RO s tg x=.fn f):x=.func f:=by
 cases x with
 |tmp j=>grind[RO]
 |func u=>cases hx;rfl
 |_=>cases hx
def Ji(h:R n W0 w X F H s a){tg:Yl}(ht:tg.ok W0.gh a){k:Nat}{t:Tm}(hx:RO s tg x=.tm k t)(hj:t≠ .pR):
  x=.tmp k/\vt W0.gh w X W0.B s F a (a.eval x) (F (.m k)) t:=by
 obtain⟨rfl,b,rfl⟩:=ug hx;refine⟨rfl,?_⟩;rw[<-Y4 W0 a b];exact Qn9 ht (h.slots (.m _)) hj
def Cm(s:St)(r:Nat)(p:List Nat):Option ((T:Ty)×Fl×T.den):=
 match s.get (.m r)with
 |.val T f x=>match p,f.live with|[],La=>K1 ⟨T,f,x⟩|_,_=>K2
 |.box _ T f x=>match ap T x p with
  |some y=>match(cd f p).live with|true=>K1 ⟨y.1,cd f p,y.2⟩|false=>K2
  |none=>K2
 |_=>K2
def xK(s:St):TB->Option ((T:Ty)×Fl×T.den)
 |.tm _ (.val T f x)=>match f.live with|true=>K1 ⟨T,f,x⟩|false=>K2
 |.tm _ (.bel r p i q)=>match s.bad r p||s.pN (om r)with
  |true=>K2
  |false=>match Cm s r p with
   |some ⟨.slice _ t,.u b,l⟩=>match ap t (l.getD i.toNat (zero t)) q with
    |some y=>K1 ⟨y.1,.u b,y.2⟩
    |none=>K2
   |_=>K2
 |.tm _ (.bor r p)=>match s.bad r p with
  |true=>K2
  |false=>match s.get (.m r)with
   |.val T f x=>match p,f.live with|[],La=>K1 ⟨T,f,x⟩|_,_=>K2
   |.box _ T f x=>match ap T x p with
    |some y=>match(cd f p).live with|true=>K1 ⟨y.1,cd f p,y.2⟩|false=>K2
    |none=>K2
   |_=>K2
 |.fn f=>K1 ⟨.fnc f,.u .ow,()⟩
 |_=>K2
def cu(s:St)(o:TB)(T:Ty):Option T.den:=
 match o with
 |.cst v=>G2 T v
 |o=>match xK s o with
  |some ⟨U,_,x⟩=>Jz T U x
  |none=>K2
def D4{pre:List K3}(h:vs=pre++(mid++post)){k:Nat}(hk:pre.length=k)(hm:mid.length=m):(vs.drop k).take m=mid:=by simp_all
def FS(h:R n W0 w X F H s a){r:Nat}{U T:Ty}{f:Fl}{y:T.den}(hv:X4 W0.gh w s F a r p v U)(hl:Cm s r p=K1 ⟨T,f,y⟩):
  T=U/\f.live=La/\ ∃vs S,v=Yh T vs/\Pr w X W0.B T f y vs S/\S.Sublist (F (.m r)):=by
 unfold Cm at hl;unfold X4 at hv;have d:=h.slots (.m r);split at hl
 ·rename_i o q t g;rw[g]at hv d;obtain⟨rfl,rfl,hv⟩:=hv;split at hl
  ·rename_i u;simp only[pB,Li]at hl;obtain⟨rfl,hl⟩:=hl;simp only[heq_eq_eq,pF]at hl;obtain⟨rfl,rfl⟩:=hl;obtain⟨vs,j,k⟩:=d
   grind
  ·cases hl
 ·rename_i e o q t g;rw[g]at hv d;obtain⟨b,c,S,z,j,k,x,A,C⟩:=hv;obtain⟨D,E,G,I,l,i,J⟩:=d;rw[j]at l;obtain⟨rfl,rfl⟩:=Lv l;rw[k]at i;simp only[pB,L9]at i;obtain⟨rfl,_⟩:=i;rw[x]at hl;simp only at hl;split at hl
  ·rename_i u;simp only[pB,Li]at hl;obtain⟨rfl,hl⟩:=hl;simp only[heq_eq_eq,pF]at hl;obtain⟨rfl,rfl⟩:=hl
   grind[Vf,Kh]
  ·cases hl
 ·cases hl
def CT(h:R n W0 w X F H s a){r:Nat}{i:Int}(hv:vt W0.gh w X W0.B s F a v S0 (.bel r p i q))(h1:s.bad r p=K4)(h2:s.pN (om r)=K4)
  {e:Lb}{t:Ty}{b:Ow}{l:List t.den} (hl:Cm s r p=K1 ⟨.slice e t,.u b,l⟩) {y:TV} (hy:ap t (l.getD i.toNat (zero t)) q=K1 y):
  ∃vs S,v=Yh y.1 vs/\rd w X W0.B b y.1 y.2 vs S/\S.Sublist (F (.m r)):=by
 obtain⟨e',t',O,P,x,x0,y0,J,Q,k2,k3,k4,U,V,k7,W⟩:=hv.2 h1 h2;obtain⟨Y,_,vs,S,z,K,m3⟩:=FS h Q hl;cases Y;unfold Pr at K;obtain⟨Z,xs,S1,S2,rfl,rfl,q1,q2⟩:=K;have z:M7 (K1 O) P x=Z:=z;subst z;obtain⟨a0,L,f,ab,_,A⟩:=aw q1;simp only[Mf]at f;obtain⟨rfl,rfl,rfl⟩:=f;rcases A with⟨o,_⟩|⟨ar,o,_,A⟩
 ·cases o
 simp only[pB]at o;subst o;have g:i.toNat<l.length:=Aa
 obtain⟨pre,C,M,T1,T2,T3,n1,n2,n3,n4,_⟩:=rZ (λ_ _ _ h=>X9 h) (i:=i.toNat) g q2;have e4:l.getD i.toNat (zero t)=l[i.toNat]'g:=Ag
 rw[e4]at hy;have D:Pr w X W0.B t (.u b) l[i.toNat] C T2:=Aq
 obtain⟨c,d,E,U1,U2,U3,o1,o2,o3,G,_⟩:=Vf hy D;obtain⟨y1,N,z2⟩:=Pu (x':=l[i.toNat]) U;rw[hy]at N;cases N;have hf:cd (.u b) q=.u b:=by
  have:∀q:List Nat,cd (.u b) q=.u b:=λq=>by
   induction q with
   |nil=>rfl
   |cons j q ih=>grind[cd,ZD]
  exact this q
 rw[hf]at G;unfold Pr at G;refine⟨d,U2,?_,G,List.Sublist.trans ?_ m3⟩
 rotate_left
 ·grind
 rw[V,<-z2];congr 1;apply Mx;intro j;rcases Nat.lt_or_ge j y.1.size with hj|hj
 ·have I:j<J.length:=Ag
  have k:j<d.length:=Av
  have g1:=W j J[j] (Nl I);have g2:=A (i.toNat*t.size+Yn t q+j) d[j] (by
   rw[n1,<-n3,<-o3,Lu Aa,show pre.length+c.length+j-pre.length=c.length+j from by omega,
    Lt Ag,o1,Lu Aa,show c.length+j-c.length=j from by omega,Lt k,Nl k])
  grind
 grind[X9]
def lx(h:R n W0 w X F H s a){tg:Yl}(ht:tg.ok W0.gh a){T:Ty}{f:Fl}{y:T.den}(hl:xK s (RO s tg x)=K1 ⟨T,f,y⟩):
  f.live=La/\ ∃vs S,a.eval x=Yh T vs/\Pr w X W0.B T f y vs S/\(∀b∈S,∃k,b∈F k):=by
 generalize v:RO s tg x=o at hl;unfold xK at hl;split at hl
 ·rename_i k G I J;obtain⟨_,vs,K,Y⟩:=Ji h ht v Ac
  grind
 ·rename_i k r p i q;obtain⟨_,hv⟩:=Ji h ht v Ac;split at hl
  ·cases hl
  ·rename_i j;simp only[Mh]at j;split at hl
   ·rename_i e t b l C;split at hl
    ·rename_i z O;simp only[pB,Li]at hl;obtain⟨rfl,hl⟩:=hl;simp only[heq_eq_eq,pF]at hl;obtain⟨rfl,rfl⟩:=hl;obtain⟨vs,S,P,Z,Q⟩:=CT h hv j.1 j.2 C O;exact⟨rfl,vs,S,P,Ak,λb j=>⟨_,Q.subset j⟩⟩
    ·cases hl
   ·cases hl
 ·rename_i k r p;obtain⟨_,h0,K⟩:=Ji h ht v Ac;split at hl
  ·cases hl
  ·rename_i d;obtain⟨U,u⟩:=K d;unfold X4 at u;have A:=h.slots (.m r);split at hl
   ·rename_i G I J D;rw[D]at u A;obtain⟨rfl,rfl,hv⟩:=u;split at hl
    ·rename_i V;simp only[pB,Li]at hl;obtain⟨rfl,hl⟩:=hl;simp only[heq_eq_eq,pF]at hl;obtain⟨rfl,rfl⟩:=hl;obtain⟨vs,L,M⟩:=A
     grind
    ·cases hl
   ·rename_i e G I J D;rw[D]at u A;obtain⟨b,c,S,y',L,M,W,k4,k5⟩:=u;obtain⟨b',c',S',l1,N,E,l4⟩:=A;rw[L]at N;obtain⟨rfl,rfl⟩:=Lv N;rw[M]at E;simp only[pB,L9]at E;obtain⟨rfl,_⟩:=E;rw[W]at hl;simp only at hl;split at hl
    ·rename_i V;simp only[pB,Li]at hl;obtain⟨rfl,hl⟩:=hl;simp only[heq_eq_eq,pF]at hl;obtain⟨rfl,rfl⟩:=hl
     grind[Vf,Kh]
    ·cases hl
   ·cases hl
 ·rename_i g;simp only[pB,Li]at hl;obtain⟨rfl,hl⟩:=hl;simp only[heq_eq_eq,pF]at hl;obtain⟨rfl,_⟩:=hl;obtain rfl:=EU v;exact⟨rfl,[.func (.func g) #[] #[]],[],rfl,by unfold Pr;exact⟨rfl,rfl⟩,Ac⟩
 ·cases hl
theorem DF{tg:Yl}{k:Nat}{T:Ty}{y:T.den}(hr:cu s (RO s tg (.tmp k)) T=K1 y):L4 k 1048576=true:=by grind[RO,cu,xK]
def ea(h:R n W0 w X F H s a){tg:Yl}(ht:tg.ok W0.gh a){T:Ty}{y:T.den}(hr:cu s (RO s tg x) T=K1 y):
  ∃vs,a.eval x=Yh T vs/\rd w (· <w.heap.size) W0.B .sh T y vs []:=by
 unfold cu at hr;split at hr
 ·rename_i v hv;obtain rfl:=Cq hv;exact zR hr
 ·split at hr
  ·rename_i U f l d;obtain⟨e,vs,S,g,i,j⟩:=lx h ht d;cases Wu hr;exact⟨vs,g,J3 (λb c=>h.xlt b c) e i λb c=>let⟨k,hk⟩:=j b c;(h.own k b hk).2.1⟩
  ·cases hr
def rV:Fl->Ty->Bool|.u .sh,_=>La|.u .ow,T=>T.flat|.u .an,T=>T.flat|.p f g,.pair a b=>rV f a&&rV g b|_,_=>K4
theorem kJ:∀{T:Ty}{x:T.den}{vs:List K3}{S:List Nat},rd w X B .sh T x vs S->S=[]
 |.unit,_,_,_,h|.int _,_,_,_,h|.bool,_,_,_,h|.fnc _,_,_,_,h|.str,_,_,_,h=>h.2
 |.slice _ t,_,_,_,⟨_,_,g,f,_,e,c,d⟩=>by
  have:f=[]:=(iP (r:=rd w X B .sh t) (r':=λ_ _ _=>True) (λx v S h=>⟨kJ h,trivial⟩) d).1;rw[e,c.1,this];rfl
 |.pair a b,_,_,_,⟨j,k,g,f,_,e,c,d⟩=>by rw[e,kJ c,kJ d];rfl
 |.arr n t,_,_,_,⟨_,i⟩=>(iP (r:=rd w X B .sh t) (r':=λ_ _ _=>True) (λx v S h=>⟨kJ h,trivial⟩) i).1
 |.err,_,_,_,h=>h.2
 |.hid _,_,_,_,⟨_,_,h⟩=>kJ h
 |.sptr ..,_,_,_,h=>h.1
 |.clo ..,_,_,_,h=>h.1
def kI:∀{T:Ty}{f:Fl}{x:T.den}{vs:List K3}{S:List Nat},rV f T=La->Pr w X B T f x vs S->S=[]
 |T,.d,_,_,_,c,_=>by grind[rV]
 |T,.u .sh,_,_,_,_,h=>by grind[Pr,kJ]
 |T,.u .ow,_,_,_,c,h=>by unfold Pr at h;exact(ez (X':=X) (own':=.ow) (w':=w) (by simp_all[rV]) h).1
 |T,.u .an,_,_,_,c,h=>by unfold Pr at h;exact(ez (X':=X) (own':=.ow) (w':=w) (by simp_all[rV]) h).1
 |.pair a b,.p f g,_,_,_,c,⟨k,l,m,n,_,e,i,j⟩=>by
  simp only[rV,pC]at c;rw[e,kI c.1 i,kI c.2 j];rfl
 |.slice ..,.p ..,_,_,_,c,_=>by grind[rV]
 |.unit,.p ..,_,_,_,_,h|.int _,.p ..,_,_,_,_,h|.bool,.p ..,_,_,_,_,h|.fnc _,.p ..,_,_,_,_,h|.str,.p ..,_,_,_,_,h|.err,.p ..,_,_,_,_,h|.hid _,.p ..,_,_,_,_,h|.sptr ..,.p ..,_,_,_,_,h|.clo ..,.p ..,_,_,_,_,h|.arr ..,.p ..,_,_,_,_,h=>by simp[Pr]at h
structure EJ where
 T:Ty
 f:Fl
 x:T.den
 s:St
 moved:Bool
def ER(s:St)(o:TB):Option EJ:=
 match xK s o with
 |some ⟨T,f,x⟩=>match rV f T with
  |true=>K1 ⟨T,f,x,s,K4⟩
  |false=>match o with
   |.tm k (.val _ _ _)=>match s.get (.m k)with
    |.val _ _ _=>K1 ⟨T,f,x,Y7 s k .pR,La⟩
    |_=>K2
   |.tm _ (.bor r p)=>match s.get (.m r)with
    |.val _ _ _=>K1 ⟨T,f,x,Y7 s r .pR,La⟩
    |.box e U g z=>K1 ⟨T,f,x,Y7 s r (.box e U (Vz g p .d) z),La⟩
    |_=>K2
   |.tm _ (.bel r _ _ _)=>match s.get (.m r)with
    |.val _ _ _=>K1 ⟨T,f,x,Y7 s r .pR,La⟩
    |_=>K2
   |_=>K2
 |none=>K2
def xB(s:St)(o:TB)(T:Ty):Option EJ:=
 match o with
 |.cst v=>match G2 T v with|some x=>K1 ⟨T,.u .ow,x,s,K4⟩|none=>K2
 |o=>match ER s o with
  |some t=>ite (t.T=T) (K1 t) K2
  |none=>K2
def R.takeM(h:R n W0 w X F H s a){k:Nat}{T:Ty}{f:Fl}{x:T.den}(hg:s.get (.m k)=.val T f x):
  R n W0 w X (Q6 F (.m k) []) (F (.m k)++H) (Y7 s k .pR) a:=
 h.turn (S':=[]) h.below (Lx _) (λ_ _=>rfl) (λ_ _ _ _=>rfl) Ac (by
  simp only[Nn];exact Lg.2 ⟨h.nodup _,h.pK,λx hx y c e=>h.pL _ x hx (by rw[e];exact c)⟩) (by rw[hg];simp)
  (λe T f x b S d=>Af) rfl
def Ch:∀{p:List Nat}{T:Ty}{x:T.den}{y:TV},ap T x p=K1 y->v6 T x p y=K1 x:=by
 have c:∀{T:Ty}{x:T.den}{i:Nat}{z:TV},fld T x i=K1 z->xT T x i z=K1 x:=by
  intro T
  induction T with
  |pair a b d e=>
   intro x i z h;cases i with
   |zero=>grind[fld,xT,Jz]
   |succ i=>simp_all[fld,xT]
  |_=>intro x i z h;simp[fld]at h
 intro p
 induction p with
 |nil=>simp_all[ap,v6,Jz]
 |cons i p f=>
  grind[ap,v6]
def R.hsub(h:R n W0 w X F H s a)(hs:H'.Sublist H):R n W0 w X F H' s a:=
 {h with
  hown:=λb c=>h.hown b (hs.subset c)
  pK:=h.pK.sublist hs
  pL:=λk b c d=>h.pL k b c (hs.subset d)}
theorem VJ(h:R n W0 w X F H s a){tg:Yl}(ht:tg.ok W0.gh a){t:EJ}(hk:ER s (RO s tg x)=K1 t):
  ∃F' S vs,a.eval x=Yh t.T vs/\Pr w X W0.B t.T t.f t.x vs S/\R n W0 w X F' (S++H) t.s a/\(t.moved=K4->t.s=s/\F'=F/\S=[])/\t.f.live=true:=by
 unfold ER at hk;split at hk
 ·rename_i T f y g;obtain⟨Q,vs,S,h1,h2,h3⟩:=lx h ht g;split at hk
  ·rename_i hn;simp only[pB]at hk;subst hk;have hS:=kI hn h2
   grind
  ·rename_i hn;generalize A:RO s tg x=o at hk g;split at hk
   ·rename_i k V W O;split at hk
    ·rename_i T2 f2 x2 v;simp only[pB]at hk;subst hk;have hx:=Ji h ht A Ac;obtain⟨rfl,_⟩:=hx;have Y:=(ug A).2.1;have A:=(ug A).2.2;rw[v]at A;simp only[DB]at A;cases A;simp only[xK]at g;split at g
     ·simp only[pB,Li]at g;obtain⟨rfl,g⟩:=g;simp only[heq_eq_eq,pF]at g;obtain⟨rfl,rfl⟩:=g;have C:=h.slots (.m k);rw[v]at C;obtain⟨D,G,I⟩:=C;exact⟨_,F (.m k),D,(Y4 W0 a Y).symm.trans G,I,h.takeM v,Ac,Q⟩
     ·cases g
    ·cases hk
   ·rename_i k r p;obtain⟨_,h0,K⟩:=Ji h ht A Ac;simp only[xK]at g;split at g
    ·cases g
    ·rename_i E;obtain⟨U,J⟩:=K E;have C:=h.slots (.m r);split at hk
     ·rename_i V W O v;simp only[v]at g;unfold X4 at J;rw[v]at J C;obtain⟨rfl,rfl,hv⟩:=J;split at g
      ·simp only[pB,Li]at g;obtain⟨rfl,g⟩:=g;simp only[heq_eq_eq,pF]at g;obtain⟨rfl,rfl⟩:=g;simp only[pB]at hk;subst hk;obtain⟨D,G,I⟩:=C;exact⟨_,F (.m r),D,hv.trans G,I,h.takeM v,Ac,Q⟩
      ·cases g
     ·rename_i e V W O v;simp only[v]at g;unfold X4 at J;rw[v]at J C;obtain⟨b,c,S0,y',G,I,Z,k4,k5⟩:=J;obtain⟨b',c',S',l1,l2,l3,l4⟩:=C;rw[G]at l2;obtain⟨rfl,rfl⟩:=Lv l2;rw[I]at l3;simp only[pB,L9]at l3;obtain⟨rfl,_⟩:=l3;rw[Z]at g;simp only at g;split at g
      ·simp only[pB,Li]at g;obtain⟨rfl,g⟩:=g;simp only[heq_eq_eq,pF]at g;obtain⟨rfl,rfl⟩:=g;simp only[pB]at hk;subst hk;obtain⟨pre,L,ar,M,P,N,m1,m2,m3,m4,m5⟩:=Vf Z l4;have ab:=h.nodup (.m r);rw[G,m2]at ab;have j:=m5 .d y' L [] O (Ch Z) (by unfold Pr;exact⟨Kh m4,nA m4,rfl⟩);rw[<-m1]at j;simp only[Nn]at j;refine⟨_,P,L,Ay,m4,
        h.turn (S':=b:: (M++N)) h.below (Lx _) (λ_ _=>rfl) (λ_ _ _ _=>rfl) ?_ ?_ (by rw[v];simp) ?_ ⟨b,c,M++N,l1,rfl,I,j⟩,Ac,Q⟩
       ·grind
       ·have h1:(b:: (M++N)++P).Nodup:=by
         have hp:(b:: (M++N)++P).Perm (b:: (M++(P++N))):=by
          grind
         grind
        rw[<-Ml];refine Lg.2 ⟨h1,h.pK,λz hz u hu e=>?_⟩;subst e;refine h.pL (.m r) z ?_ hu
        grind
       grind
      ·cases g
     ·cases hk
   ·rename_i k r p i q;obtain⟨_,hv⟩:=Ji h ht A Ac;split at hk
    ·rename_i V W O v;simp only[pB]at hk;subst hk;simp only[xK]at g;split at g
     ·cases g
     ·rename_i K;simp only[Mh]at K;split at g
      ·rename_i e t l ad;split at g
       ·rename_i z hz;simp only[pB,Li]at g;obtain⟨rfl,g⟩:=g;simp only[heq_eq_eq,pF]at g;obtain⟨rfl,rfl⟩:=g;obtain⟨vs,S,g1,g2,g3⟩:=CT h hv K.1 K.2 ad hz;exact⟨_,S,vs,g1,Ak,(h.takeM v).hsub (g3.append (Nz _)),Ac,rfl⟩
       ·cases g
      ·cases g
    ·cases hk
   ·cases hk
 ·cases hk
def cP(h:R n W0 w X F H s a){tg:Yl}(ht:tg.ok W0.gh a){T:Ty}{t:EJ}(hk:xB s (RO s tg x) T=K1 t):
  t.T=T/\ ∃F' S vs,a.eval x=Yh t.T vs/\Pr w X W0.B t.T t.f t.x vs S/\R n W0 w X F' (S++H) t.s a/\(t.moved=K4->t.s=s/\F'=F/\S=[])/\t.f.live=true:=by
 unfold xB at hk;split at hk
 ·rename_i v hv;split at hk
  ·rename_i y b;simp only[pB]at hk;subst hk;obtain rfl:=Cq hv;obtain⟨vs,c,d⟩:=zR (w:=w) (X:=X) (B:=W0.B) (own:=.ow) b;exact⟨rfl,F,[],vs,c,Ak,h,λ_=>⟨rfl,rfl,rfl⟩,rfl⟩
  ·cases hk
 grind[VJ]
def St.isBox(s:St)(r:Nat):Prop:= ∃e T f x,s.get (.m r)=.box e T f x
theorem Qjz{o:TB}{t:EJ}(hk:ER s o=K1 t){r:Nat}(hb:s.isBox r):t.s.isBox r:=by
 obtain⟨e,T,f,x,hb⟩:=hb;have a:∀{k:Nat}{b c d},s.get (.m k)=.val b c d->(Y7 s k .pR).isBox r:=by
  intro k b c d hk;have:k≠r:=λg=>Af
  exact⟨e,T,f,x,As⟩
 unfold ER at hk;split at hk
 ·split at hk
  ·simp only[pB]at hk;subst hk;exact⟨e,T,f,x,hb⟩
  ·split at hk
   ·grind
   ·rename_i k p _;split at hk
    ·grind
    ·simp only[pB]at hk;subst hk;by_cases g:k=r
     ·subst g;exact⟨_,_,_,_,by rw[Ye,if_pos rfl]⟩
     ·exact⟨e,T,f,x,As⟩
    ·cases hk
   all_goals grind
 ·cases hk
def ZA{o:TB}{T:Ty}{t:EJ}(hk:xB s o T=K1 t){r:Nat}(hb:s.isBox r):t.s.isBox r:=by
 unfold xB at hk
 grind[Qjz]
def R.boxIn(h:R n W0 w X F H s a){r:Nat}(hb:s.isBox r)(hv:Qw W0.gh a (.m r)=.pointer (K1 ⟨b,0,K2⟩)):∃S,F (.m r)=b::S:=by obtain⟨e,T,f,x,hb⟩:=hb;have d:=h.slots (.m r);rw[hb]at d;obtain⟨g,c,i,j,k,_⟩:=d;simp_all
def Ow.le:Ow->Ow->Bool|.ow,.ow=>La|.sh,.sh=>La|.an,.an=>La|.ow,.an=>La|_,_=>K4
def Wb:Ty->Fl->Fl->Bool|_,.d,.d=>La|T,.u b,.u c=>b.le c||T.flat|.pair A B,.p f1 f2,.p g1 g2=>Wb A f1 g1&&Wb B f2 g2|.pair A B,.u b,.p g1 g2=>Wb A (.u b) g1&&Wb B (.u b) g2|.pair A B,.p f1 f2,.u b=>Wb A f1 (.u b)&&Wb B f2 (.u b)|.slice _ _,.p (.u .ow) (.u .sh),.p (.u .ow) (.u .sh)=>La|_,_,_=>K4
def Qt4{e:Lb}{n:Nat}{b c:Ow}(hb:b.le c=La)(h:ep w X B b e sz n v xs S):ep w X B c e sz n v xs S:=by
 cases b<;>cases c<;>first|exact h|(simp[Ow.le]at hb;done)|skip
 obtain⟨⟨f,i⟩,j⟩:=h;refine⟨f,j,i.imp id ?_⟩;rintro⟨g,a,d,rfl,hb,k,l,m,o,hx⟩;exact⟨g,0,a,d,rfl,hb,k,l,m,Aa,by simpa using hx⟩
theorem D6{b c:Ow}(hb:b.le c=La):∀{T:Ty}{x:T.den}{vs:List K3}{S:List Nat},rd w X B b T x vs S->rd w X B c T x vs S
 |.unit,_,_,_,h|.int _,_,_,_,h|.bool,_,_,_,h|.fnc _,_,_,_,h|.str,_,_,_,h|.err,_,_,_,h=>h
 |.slice _ _,_,_,_,⟨v,m,g,i,e,j,d,f⟩=>
  ⟨v,m,g,i,e,j,Qt4 hb d,Yt f λ_ _ _ _ _ h=>D6 hb h⟩
 |.pair a b,_,_,_,⟨p,q,g,i,e,j,d,f⟩=>⟨p,q,g,i,e,j,D6 hb d,D6 hb f⟩
 |.arr n t,_,_,_,⟨h,r⟩=>⟨h,Yt r λ_ _ _ _ _ h=>D6 hb h⟩
 |.hid _,_,_,_,⟨l,y,h⟩=>⟨l,y,D6 hb h⟩
 |.sptr ..,_,_,_,⟨e,o,s,k,d,f,u,z⟩=>by
  subst o;have:c=.sh:=by grind[Ow.le]
  subst this;exact⟨e,rfl,s,k,d,f,u,z⟩
 |.clo ..,_,_,_,⟨e,k,d,f⟩=>⟨e,k,d,D6 hb f⟩
theorem bD:∀{T:Ty}{f g:Fl}{x:T.den}{vs:List K3}{S:List Nat},Wb T f g=La->Pr w X B T f x vs S->Pr w X B T g x vs S
 |T,.d,.d,_,_,_,_,h=>h
 |T,.u b,.u c,x,vs,S,hs,h=>by
  unfold Pr at h⊢;simp only[Wb,M8]at hs;rcases hs with hs|hs
  ·exact D6 hs h
  ·obtain⟨rfl,a⟩:=ez (X':=X) (own':=c) (w':=w) hs h;exact a
 |.pair A B,.p s v,.p q r,x,vs,S,hs,⟨i,j,k,l,m,n,o,a⟩=>by
  simp only[Wb,pC]at hs;exact⟨i,j,k,l,m,n,bD hs.1 o,bD hs.2 a⟩
 |.pair A B,.u b,.p q r,x,vs,S,hs,h=>by
  unfold Pr at h;obtain⟨i,j,k,l,m,n,o,a⟩:=h;simp only[Wb,pC]at hs;exact⟨i,j,k,l,m,n,bD hs.1 Ak,bD hs.2 Ak⟩
 |.pair A B,.p s v,.u b,x,vs,S,hs,⟨i,j,k,l,m,n,o,a⟩=>by
  simp only[Wb,pC]at hs;have y:=bD hs.1 o;have z:=bD hs.2 a;unfold Pr at y z⊢;exact⟨i,j,k,l,m,n,y,z⟩
 |T,.d,.u _,_,_,_,hs,_=>Az
 |T,.d,.p ..,_,_,_,hs,_=>Az
 |T,.u b,.d,_,_,_,hs,_=>Az
 |T,.p ..,.d,_,_,_,hs,_=>Az
 |.unit,.p ..,.u _,_,_,_,hs,_|.int _,.p ..,.u _,_,_,_,hs,_|.bool,.p ..,.u _,_,_,_,hs,_|.fnc _,.p ..,.u _,_,_,_,hs,_|.str,.p ..,.u _,_,_,_,hs,_|.slice ..,.p ..,.u _,_,_,_,hs,_|.err,.p ..,.u _,_,_,_,hs,_|.hid _,.p ..,.u _,_,_,_,hs,_|.sptr ..,.p ..,.u _,_,_,_,hs,_|.clo ..,.p ..,.u _,_,_,_,hs,_|.arr ..,.p ..,.u _,_,_,_,hs,_=>by simp[Wb]at hs
 |.slice e t,.p s v,.p q r,_,_,_,hs,h=>by
  obtain⟨rfl,rfl,a⟩:=nB h;cases q with
  |u b=>cases b with
   |ow=>cases r with
    |u c=>cases c with
     |sh=>exact h
     |ow=>grind[Wb]
     |an=>grind[Wb]
    |p _ _=>grind[Wb]
    |d=>grind[Wb]
   |sh=>grind[Wb]
   |an=>grind[Wb]
  |p _ _=>grind[Wb]
  |d=>grind[Wb]
 |.unit,.p ..,.p ..,_,_,_,hs,_|.int _,.p ..,.p ..,_,_,_,hs,_|.bool,.p ..,.p ..,_,_,_,hs,_|.fnc _,.p ..,.p ..,_,_,_,hs,_|.str,.p ..,.p ..,_,_,_,hs,_|.err,.p ..,.p ..,_,_,_,hs,_|.hid _,.p ..,.p ..,_,_,_,hs,_|.sptr ..,.p ..,.p ..,_,_,_,hs,_|.clo ..,.p ..,.p ..,_,_,_,hs,_|.arr ..,.p ..,.p ..,_,_,_,hs,_=>by simp[Wb]at hs
 |.unit,.u b,.p ..,_,_,_,hs,_|.int _,.u b,.p ..,_,_,_,hs,_|.bool,.u b,.p ..,_,_,_,hs,_|.fnc _,.u b,.p ..,_,_,_,hs,_|.str,.u b,.p ..,_,_,_,hs,_|.slice ..,.u b,.p ..,_,_,_,hs,_|.err,.u b,.p ..,_,_,_,hs,_|.hid _,.u b,.p ..,_,_,_,hs,_|.sptr ..,.u b,.p ..,_,_,_,hs,_|.clo ..,.u b,.p ..,_,_,_,hs,_|.arr ..,.u b,.p ..,_,_,_,hs,_=>by cases b<;>simp[Wb]at hs
def s8{T:Ty}{f g:Fl}{x:T.den}(hs:f=g\/Wb T f g=La)(h:Pr w X B T f x vs S):Pr w X B T g x vs S:=by
 rcases hs with rfl|hs
 all_goals grind[bD]
def VG(P:Lz)(e:Lb)(T:Ty):Bool:=
 match P.info? e with
 |some i=>(Lo i.size T.size&&T.plain)&&Nat.ble i.bytes 8192
 |none=>K4
def uu(P:Lz):List Field->Ty->Nat->Bool|[],.unit,_=>La|f::fs,.pair a b,off=>Lo f.offset off&&VG P f.type a&&L4 0 a.size&&uu P fs b (off+a.size)|_,_,_=>K4
def RJ(P:Lz)(e:Lb)(T:Ty):Bool:=
 match P.underlying e,T with
 |some (.struct _),.unit|some (.struct _),.pair .. |some (.array ..),.arr .. =>La
 |some (.struct _),_|some (.array ..),_=>K4
 |some _,.unit|some _,.pair .. |some _,.arr .. =>K4
 |some _,_=>La
 |none,_=>K4
def XM(P:Lz)(e:Lb)(T:Ty):Bool:=
 VG P e T&&match T with
  |.int k=>(match P.underlying e with|some (.int k')=>Lf (k=k')|_=>K4)
  |.bool=>(match P.underlying e with|some .bool=>La|_=>K4)
  |.str=>(match P.underlying e with|some .string=>La|_=>K4)
  |.slice e' t=>L4 0 t.size&&(match P.underlying e with|some (.slice e2)=>Lo e' e2|_=>K4)
  |.arr n t=>L4 0 t.size&&(match P.underlying e with|some (.array m e2)=>Lo n m&&(VG P e2 t&&RJ P e2 t)|_=>K4)
  |T=>(match P.underlying e with|some (.struct fs)=>uu P fs.toList T 0|_=>K4)
structure Fs(P:Lz)(e:Lb)(T:Ty):Prop where
 zero:(P.info? e).map (·.zero)=K1 (K1 (Yh T (Jk T)))
 shape:XM P e T=La
abbrev vJ:=Lb->Option Ty
def vJ.ok(τ:vJ)(P:Lz):Prop:= ∀e T,τ e=K1 T->Fs P e T
theorem v7{P:Lz}{e:Lb}{T:Ty}(h:VG P e T=La):∃i,P.info? e=K1 i/\i.size=T.size/\i.bytes<=8192:=by
 unfold VG at h;split at h
 all_goals simp_all
variable {P:Lz}{e:Lb}{T:Ty}
theorem Fs.size(h:Fs P e T):∃i,P.info? e=K1 i/\i.size=T.size/\i.bytes<=8192/\i.zero=K1 (Yh T (Jk T)):=by have a:=h.shape;unfold XM at a;rw[pC]at a;obtain⟨i,b,c,d⟩:=v7 a.1;have:=h.zero;simp_all
def Fs.plain(h:Fs P e T):T.plain=true:=by
 have a:=h.shape;unfold XM at a;rw[pC]at a;have b:=a.1;unfold VG at b
 grind
def Fs.int{k:Ly}(h:Fs P e (.int k)):P.underlying e=K1 (.int k):=by
 have a:=h.shape;unfold XM at a
 grind
def Fs.bool(h:Fs P e .bool):P.underlying e=K1 .bool:=by
 have a:=h.shape;unfold XM at a
 grind
def Fs.str(h:Fs P e .str):P.underlying e=K1 .string:=by
 have a:=h.shape;unfold XM at a
 grind
def Fs.slice{e':Lb}{t:Ty}(h:Fs P e (.slice e' t)):P.underlying e=K1 (.slice e')/\0<t.size:=by
 have a:=h.shape;unfold XM at a;rw[pC]at a;have b:=a.2;simp only[pC,Mo]at b
 grind[pD]
def Fs.arr'{n:Nat}{t:Ty}(h:Fs P e (.arr n t)):0<t.size/\ ∃e2,P.underlying e=K1 (.array n e2)/\VG P e2 t=La/\RJ P e2 t=true:=by
 have b:=h.shape;unfold XM at b;rw[pC]at b;have a:=b.2;simp only[pC,Mo]at a;refine⟨a.1,?_⟩;have a:=a.2;split at a
 all_goals simp_all
def Fs.arr{n:Nat}{t:Ty}(h:Fs P e (.arr n t)):0<t.size/\ ∃e2,P.underlying e=K1 (.array n e2)/\VG P e2 t=true:=let⟨h1,e2,h2,h3,_⟩:=h.arr';⟨h1,e2,h2,h3⟩
def Ty.isStruct:Ty->Bool|.unit|.pair .. =>La|_=>K4
def Ty.isAgg:Ty->Bool|.unit|.pair .. |.arr .. =>La|_=>K4
def Fs.struct(h:Fs P e T)(hs:T.isStruct=La):∃fs,P.underlying e=K1 (.struct fs)/\uu P fs.toList T 0=true:=by
 have a:=h.shape;unfold XM at a;rw[pC]at a
 grind[Ty.isStruct]
def Qay:∀{fs:List Field}{T:Ty}{off i:Nat}{U:Ty},uu P fs T off=La->UL T i=K1 U->
  ∃f,fs[i]? =K1 f/\f.offset=off+jz T i/\VG P f.type U=La/\0<U.size:=by
 intro fs
 induction fs with
 |nil=>
  grind[uu,UL]
 |cons f fs c=>
  intro T off i U h d;cases T<;>simp only[uu]at h<;>first|cases h|skip
  rename_i a b;simp only[pC,Mo]at h;obtain⟨⟨⟨g,j⟩,k⟩,e⟩:=h;cases i with
  |zero=>
   simp_all[UL,jz]
  |succ i=>
   obtain⟨l,m,n,o⟩:=c e d
   grind[jz]
def Fs.nofnc(h:Fs P e (.fnc f)):False:=by
 have:=h.shape;unfold XM at this;simp only[pC]at this
 grind[uu]
def Fs.noerr(h:Fs P e .err):False:=by
 have:=h.shape;unfold XM at this;simp only[pC]at this
 grind[uu]
def Fs.nohid{t:Ty}(h:Fs P e (.hid t)):False:=by
 have:=h.shape;unfold XM at this;simp only[pC]at this
 grind[uu]
def Fs.nosptr{t:Ty}(h:Fs P e (.sptr e2 t)):False:=by
 have:=h.shape;unfold XM at this;simp only[pC]at this
 grind[uu]
def Fs.noclo{t:Ty}(h:Fs P e (.clo f t)):False:=by
 have:=h.shape;unfold XM at this;simp only[pC]at this
 grind[uu]
def Fs.isAgg(h:Fs P e T)(w:Lc):(isAgg e).run P w=.ok T.isAgg w:=by
 cases T with
 |int k=>simp[L2,run_underlying h.int,Ty.isAgg]
 |bool=>simp[L2,run_underlying h.bool,Ty.isAgg]
 |str=>simp[L2,run_underlying h.str,Ty.isAgg]
 |fnc f=>exact h.nofnc.elim
 |err=>exact h.noerr.elim
 |hid t=>exact h.nohid.elim
 |sptr e t=>exact h.nosptr.elim
 |clo f t=>exact h.noclo.elim
 |slice g t=>simp[L2,run_underlying h.slice.1,Ty.isAgg]
 |arr n t=>obtain⟨_,i,c,_⟩:=h.arr;simp[L2,run_underlying c,Ty.isAgg]
 |unit=>obtain⟨d,c,_⟩:=h.struct rfl;simp[L2,run_underlying c,Ty.isAgg]
 |pair a b=>obtain⟨d,c,_⟩:=h.struct rfl;simp[L2,run_underlying c,Ty.isAgg]
def Qkl(h:RJ P e T=La)(w:Lc):(L2 e).run P w=.ok T.isAgg w:=by
 unfold RJ at h;cases hu:P.underlying e with
 |none=>simp_all
 |some d=>
  rw[hu]at h;cases d<;>cases T<;>simp at h<;>simp[L2,run_underlying hu,Ty.isAgg]
def Fs.sizeOf(h:Fs P e T)(w:Lc):(sizeOf e).run P w=.ok T.size w:=by obtain⟨i,a,b,_⟩:=h.size;simp_all[Ls,typeInfo]
def GC(h:T.isAgg=K4):T.size=1:=by cases T<;>simp[Ty.isAgg]at h<;>rfl
def Fs.load(h:Fs P e T){w:Lc}(hl:vs.length=T.size)(hc:∀j u,vs[j]? =K1 u->w.cell? (ad.add j)=K1 u):
  (loadVar e ad).run P w=.ok (Yh T vs) w:=by
 unfold loadVar;simp only[Lh,h.isAgg w,Ln];cases ha:T.isAgg
 ·have a:=GC ha;rw[a]at hl;obtain⟨v,rfl⟩:=Mz.1 hl;have:=hc 0 v rfl;simp only[Ld.add_zero']at this;have b:Yh T [v]=v:=by cases T<;>simp[Ty.isAgg]at ha<;>rfl
  simp[this,b]
 ·simp only[if_true,Lh,h.sizeOf w,Ln];have:=run_loadCells_list (P:=P) (w:=w) ad vs hc;rw[hl]at this;rw[this];cases T<;>simp[Ty.isAgg]at ha<;>rfl
theorem RU(h1:∀u∈vs,u.oneCell'=La)(hl:vs.length=T.size):(Yh T vs).cells.toList=vs:=by
 cases ha:T.isAgg
 ·rw[GC ha]at hl;obtain⟨v,rfl⟩:=Mz.1 hl;have a:Yh T [v]=v:=by cases T<;>simp[Ty.isAgg]at ha<;>rfl
  rw[a];have:=h1 v Ac;cases v<;>simp[Ma]at this<;>rfl
 ·cases T<;>simp[Ty.isAgg]at ha<;>simp[Yh,K3.cells]
abbrev Ob:=Option Prop
def Ob.ok:Ob->Prop|none=>True|some p=>p
structure I8 where
 t:Tm
 s:St
 moved:Bool
 obl:Ob
def Bq(w w':Lc):Prop:= ∀k,k<w.heap.size->w'.heap[k]? =w.heap[k]?
def Bq.refl(w:Lc):Bq w w:=λ_ _=>rfl
theorem Bq.cell{w w':Lc}(h:Bq w w'){ad:Ld}{u:K3}(hc:w.cell? ad=K1 u):w'.cell? ad=K1 u:=by
 have a:ad.block<w.heap.size:=by
  grind[Ny]
 rw[L3 (w:=w) (h _ a)];exact hc
def Bq.alloc(w:Lc)(ob:Obj):Bq w (w.alloc ob):=λk hk=>by
 show(w.heap.push ob)[k]? =w.heap[k]?
 grind
def vT(gh:Nat->K3)(X:Nat->Prop)(s:St)(a:Act)(tgt:Option Nat)(w w':Lc):Prop:=∀b,(X b\/ ∃r,s.isBox r/\tgt≠K1 r/\Qw gh a (.m r)=.pointer (K1 ⟨b,0,K2⟩))->w'.heap[b]? =w.heap[b]?
def R.kept{g:Kf}{n:Nat}{W0:bu g}{w w':Lc}{X:Nat->Prop}{F:A4->List Nat}{H:List Nat}{s:St}{a:Act}(h:R n W0 w X F H s a)(ho:Bq w w'){tgt:Option Nat}:vT W0.gh X s a tgt w w':=λb c=>ho b (by
 rcases c with c|⟨r,d,_,e⟩
 ·exact h.xlt b c
 ·obtain⟨S,f⟩:=h.boxIn d e;exact(h.own (.m r) b (by rw[f];simp)).2.1)
def A1:Op->Bool|.store .. =>K4|.call {callee:=.builtin .append,..}=>K4|_=>La
def zG(P:Lz){g:Kf}(n:Nat)(W0:bu g)(w:Lc)(X:Nat->Prop)(H:List Nat)(s:St)(a:Act)(o:Lk)(r:I8):Prop:=r.obl.ok-> ∀(K:Act->Lc->Prop)(Q:Exit->Act->Lc->Prop),(∀v X' F' S w',(∀b,X b->X' b)->R n W0 w' X' F' (S++H) r.s a->vt W0.gh w' X' W0.B r.s F' a v S r.t->(r.moved=K4->r.s=s)->(A1 o.op=La->Bq w w')/\vT W0.gh X s a K2 w w'->K (a.put o.dst v) w')->o.wp P a w K Q
variable {o:Lk}{tg:Yl}{τ:vJ}
def LB(τ:vJ):Op->Bool
 |.load .. =>La
 |.convert e _ _=>match τ e with|some (.slice _ _)=>La|_=>K4
 |_=>K4
def Rk(s:St):Op->Option (Option Nat)
 |.load _ (.tmp k)=>
  let rec go:Tm->Option (Option Nat)
   |.ptr r _=>K1 (K1 r)
   |.aep r _ _=>K1 (K1 r)
   |.pls _ _=>K1 K2
   |.shp _ _=>K1 K2
   |.gd _ _ t=>go t
   |.box _ _ _ _=>K1 (K1 k)
   |_=>K2
  go (s.get (.m k))
 |_=>K2
def qs{s:St}{tg:Yl}{e:Lb}{k k':Nat}{t:Tm}(h:RO s tg (.tmp k)=.tm k' t)(hj:t≠ .pR):Rk s (.load e (.tmp k))=Rk.go k t:=by
 obtain⟨e,_,h⟩:=ug h;cases e;have h:=h.symm;simp only[Rk];cases hg:s.get (.m k)<;>rw[hg]at h<;>simp only[DB]at h<;>first|(subst h;rfl)|skip
 split at h
 ·simp_all
 ·split at h
  ·subst h;rfl
  simp_all
def Ra(gh:Nat->K3)(τ:vJ)(X:Nat->Prop)(s:St)(a:Act)(o:Lk)(w w':Lc):Prop:=LB τ o.op=La->match Rk s o.op with
 |some (K1 r)=> ∀b,b<w.heap.size->Qw gh a (.m r)=.pointer (K1 ⟨b,0,K2⟩)->w'.heap[b]? =w.heap[b]?
 |some K2=> ∀b,b<w.heap.size->X b->w'.heap[b]? =w.heap[b]?
 |none=>Bq w w'
def Ra.refl(gh:Nat->K3)(τ:vJ)(X:Nat->Prop)(s:St)(a:Act)(o:Lk)(w:Lc):Ra gh τ X s a o w w:=by
 intro _;split
 all_goals simp_all[Bq.refl]
def cX(P:Lz)(τ:vJ){g:Kf}(W0:bu g)(w:Lc)(X:Nat->Prop)(F:A4->List Nat)(s:St)(a:Act)(o:Lk)(r:I8):Prop:=r.s=s/\(r.obl.ok-> ∃v,(∀w',Ra W0.gh τ X s a o w w'->(execOp a.eval o).run P w'=.ok (.value v) w')/\vt W0.gh w X W0.B s F a v [] r.t)
def Kr{r:I8}(hs:r.s=s)(hr:r.obl.ok-> ∃v,(∀w',Ra W0.gh τ X s a o w w'->(execOp a.eval o).run P w'=.ok (.value v) w')/\vt W0.gh w X W0.B s F a v [] r.t):cX P τ W0 w X F s a o r:=⟨hs,hr⟩
def zD{r:I8}(h:R n W0 w X F H s a)(hs:r.s=s)(hr:r.obl.ok-> ∃v,(execOp a.eval o).run P w=.ok (.value v) w/\vt W0.gh w X W0.B s F a v [] r.t):zG P n W0 w X H s a o r:=by intro b K Q c;obtain⟨v,d,e⟩:=hr b;unfold Lr;rw[d];exact c v X F [] w (λ_ h=>h) (by rw[hs];exact h) (by rw[hs];exact e) (λ_=>hs) ⟨λ_=>Bq.refl w,h.kept (Bq.refl w)⟩
def cX.sound{r:I8}(hp:cX P τ W0 w X F s a o r)(h:R n W0 w X F H s a):zG P n W0 w X H s a o r:=zD h hp.1 λb=>let⟨v,h1,h2⟩:=hp.2 b;⟨v,h1 w (Ra.refl _ _ _ _ _ _ w),h2⟩
def vg(s:St)(k:Nat)(t:Tm):Option I8:=
 match t with
 |.val T f x=>match f.live,rV f T with
  |true,La=>K1 ⟨.val T f x,s,K4,K2⟩
  |true,K4=>match s.get (.m k)with
   |.val _ _ _=>K1 ⟨.bor k [],s,K4,K2⟩
   |_=>K2
  |_,_=>K2
 |.box _ _ _ _=>match s.get (.m k)with
  |.box _ _ _ _=>K1 ⟨.ptr k [],s,K4,K2⟩
  |_=>K2
 |.ptr r p=>K1 ⟨.ptr r p,s,K4,K2⟩
 |.shp T x=>K1 ⟨.shp T x,s,K4,K2⟩
 |.bor r p=>K1 ⟨.bor r p,s,K4,K2⟩
 |.elp r p i q=>K1 ⟨.elp r p i q,s,K4,K2⟩
 |.aep r p i=>K1 ⟨.aep r p i,s,K4,K2⟩
 |.pls h l=>K1 ⟨.pls h l,s,K4,K2⟩
 |.bel r p i q=>K1 ⟨.bel r p i q,s,K4,K2⟩
 |.cl f l=>K1 ⟨.cl f l,s,K4,K2⟩
 |_=>K2
def Qmc:K3->Bool|.pointer K2=>La|_=>K4
def PZ(τ:vJ)(s:St)(e:Lb)(v:K3):Option I8:=
 match Qmc v with
 |true=>K1 ⟨.pR,s,K4,K2⟩
 |false=>match τ e with
  |some T=>match G2 T v with
   |some x=>K1 ⟨.val T (.u .ow) x,s,K4,K2⟩
   |none=>K2
  |none=>K2
def UC{e:Lb}{r:I8}(hr:PZ τ s e v=K1 r):r.s=s/\vt gh w X B s F a v [] r.t:=by
 unfold PZ at hr;split at hr
 ·simp only[pB]at hr;subst hr;exact⟨rfl,rfl⟩
 ·split at hr
  ·split at hr
   ·rename_i T _ x hx;simp only[pB]at hr;subst hr;obtain⟨b,c,d⟩:=zR (w:=w) (X:=X) (B:=B) (own:=.ow) hx;exact⟨rfl,b,c,Ak⟩
   ·cases hr
  ·cases hr
def Qcy(_h:R n W0 w X F H s a){k:Nat}{T:Ty}{f:Fl}{x:T.den}(hg:s.get (.m k)=.val T f x):X4 W0.gh w s F a k [] (Qw W0.gh a (.m k)) T:=by simp_all[X4]
theorem KM(h:R n W0 w X F H s a)(ht:tg.ok W0.gh a){k:Nat}{t:Tm}(hx:RO s tg x=.tm k t){r:I8}(hr:vg s k t=K1 r):
  r.s=s/\vt W0.gh w X W0.B s F a (a.eval x) [] r.t:=by
 have j:t≠ .pR:=by grind[vg]
 obtain⟨rfl,hv⟩:=Ji h ht hx j;unfold vg at hr;split at hr
 ·rename_i T f y;split at hr
  ·rename_i _ _ l;simp only[pB]at hr;subst hr;obtain⟨m,i,d⟩:=hv;have:=kI l d;rw[this]at d;exact⟨rfl,m,i,d⟩
  ·split at hr
   ·rename_i g;simp only[pB]at hr;subst hr;exact⟨rfl,rfl,λ_=>⟨_,(Y4 W0 a (ug hx).2.1)▸Qcy h g⟩⟩
   ·cases hr
  ·cases hr
 ·rename_i e T f y;split at hr
  ·rename_i o p q u g;simp only[pB]at hr;subst hr;have hx:=(ug hx).2.2;simp only[g,DB]at hx;cases hx;obtain⟨b,c,S,i,d,v,z⟩:=hv;exact⟨rfl,rfl,_,_,_,_,b,S,g,d,i⟩
  ·cases hr
 ·simp only[pB]at hr;subst hr;exact⟨rfl,hv.1▸hv⟩
 ·simp only[pB]at hr;subst hr;exact⟨rfl,hv.1▸hv⟩
 ·simp only[pB]at hr;subst hr;exact⟨rfl,hv.1▸hv⟩
 ·simp only[pB]at hr;subst hr;exact⟨rfl,hv.1▸hv⟩
 ·simp only[pB]at hr;subst hr;exact⟨rfl,hv.1▸hv⟩
 ·simp only[pB]at hr;subst hr;exact⟨rfl,hv.1▸hv⟩
 ·simp only[pB]at hr;subst hr;exact⟨rfl,hv.1▸hv⟩
 ·simp only[pB]at hr;subst hr;exact⟨rfl,hv.1▸hv⟩
 ·cases hr
def Tz(τ:vJ)(s:St)(tg:Yl)(e:Lb)(x:Le):Option I8:=
 match RO s tg x with
 |.cst v=>PZ τ s e v
 |.fn f=>K1 ⟨.val (.fnc f) (.u .ow) (),s,K4,K2⟩
 |.tm k t=>vg s k t
 |_=>K2
def Ce(f:L5):vt gh w X B s F a (.func (.func f) #[] #[]) [] (.val (.fnc f) (.u own) ()):=⟨[_],rfl,by unfold Pr;exact⟨rfl,rfl⟩⟩
def Co(h:R n W0 w X F H s a)(ht:tg.ok W0.gh a){e:Lb}{r:I8}(hr:Tz τ s tg e x=K1 r):r.s=s/\vt W0.gh w X W0.B s F a (a.eval x) [] r.t:=by
 unfold Tz at hr;split at hr
 ·rename_i v hv;obtain rfl:=Cq hv;exact UC hr
 ·rename_i f hv;obtain rfl:=EU hv;simp only[pB]at hr;subst hr;exact⟨rfl,Ce f⟩
 all_goals grind[KM]
theorem IQ(h:R n W0 w X F H s a)(ht:tg.ok W0.gh a)(ho:o.op=.move x){r:I8}(hr:Tz τ s tg o.type x=K1 r):cX P τ W0 w X F s a o r:=by have b:=Co h ht hr;exact Kr b.1 λ_=>⟨_,λc _=>by simp[execOp,ho],b.2⟩
def Ru(τ:vJ)(s:St)(tg:Yl)(e:Lb)(x:Le):Option I8:=
 match RO s tg x with
 |.cst v=>PZ τ s e v
 |.fn f=>K1 ⟨.val (.fnc f) (.u .ow) (),s,K4,K2⟩
 |.tm k t=>match t with
  |.val _ _ _|.bor _ _=>match ER s (.tm k t)with
   |some u=>K1 ⟨.val u.T u.f u.x,u.s,u.moved,K2⟩
   |none=>K2
  |_=>vg s k t
 |_=>K2
theorem Zy8(h:R n W0 w X F H s a)(ht:tg.ok W0.gh a)(ho:o.op=.assign x){r:I8}(hr:Ru τ s tg o.type x=K1 r):zG P n W0 w X H s a o r:=by
 unfold Ru at hr;have d:∀{k t u},RO s tg x=.tm k t->ER s (.tm k t)=K1 u->zG P n W0 w X H s a o ⟨.val u.T u.f u.x,u.s,u.moved,K2⟩:=by
  intro k t u hx e;rw[<-hx]at e;obtain⟨g,S,i,b,c,j,l,_⟩:=VJ h ht e;intro _ K Q m;unfold Lr;simp only[execOp,ho,Lp];exact m _ X g S w (λ_ h=>h) j ⟨i,b,c⟩ (λp=>(l p).1) ⟨λ_=>Bq.refl w,h.kept (Bq.refl w)⟩
 split at hr
 ·rename_i v hv;obtain rfl:=Cq hv;obtain⟨b,c⟩:=UC (w:=w) (X:=X) (B:=W0.B) (s:=s) (F:=F) (a:=a) hr;exact zD h b λ_=>⟨_,by simp[execOp,ho,Act.eval],c⟩
 ·rename_i f hv;obtain rfl:=EU hv;simp only[pB]at hr;subst hr;exact zD h rfl λ_=>⟨_,by simp[execOp,ho,Act.eval],Ce f⟩
 ·rename_i k t hx;split at hr
  ·grind
  ·grind
  ·obtain⟨b,c⟩:=KM h ht hx hr;exact zD h b λ_=>⟨_,by simp[execOp,ho],c⟩
 ·cases hr
def KD(τ:vJ)(s:St)(tg:Yl)(e:Lb)(c x y:Le):Option I8:=
 match τ e,c with
 |some T,.tmp k=>match T.flat,cu s (RO s tg c) .bool,cu s (RO s ((k,La)::tg) x) T,cu s (RO s ((k,K4)::tg) y) T with
  |true,K1 b,K1 u,K1 v=>K1 ⟨.val T (.u .sh) (match b with|true=>u|false=>v),s,K4,K2⟩
  |_,_,_,_=>K2
 |_,_=>K2
theorem gV(h:R n W0 w X F H s a)(ht:tg.ok W0.gh a){c:Le}(ho:o.op=.pick c x y){r:I8}(hr:KD τ s tg o.type c x y=K1 r):cX P τ W0 w X F s a o r:=by
 unfold KD at hr;split at hr
 ·rename_i T k _;split at hr
  ·rename_i b u v A f g hv;simp only[pB]at hr;subst hr;refine Kr rfl λ_=>?_;obtain⟨e,i,j⟩:=ea h ht f;obtain⟨rfl,_⟩:=j;have l:Qw W0.gh a (.m k)=.bool b:=(Y4 W0 a (DF f)).trans i;have d:Yl.ok ((k,b)::tg) W0.gh a:=λp hp=>by
    rcases Nm.1 hp with rfl|hp
    ·exact l
    ·exact ht p hp
   cases b
   ·obtain⟨e,q,t⟩:=ea h d hv;exact⟨_,λz _=>by simp_all[execOp,Yh,asBool],e,rfl,by grind[Pr,ez]⟩
   ·obtain⟨e,q,t⟩:=ea h d g;exact⟨_,λz _=>by simp_all[execOp,Yh,asBool],e,rfl,by grind[Pr,ez]⟩
  ·cases hr
 ·cases hr
def Ym:Nat:=4611686018427387904
def Qg:Nat:=17179869184
def Gc(op:BinOp)(k:Ly)(x y:Int):Option (TV×Ob):=
 match op with
 |.add=>K1 (⟨.int k,k.wrap (x+y)⟩,K2)
 |.sub=>K1 (⟨.int k,k.wrap (x-y)⟩,K2)
 |.mul=>K1 (⟨.int k,k.wrap (x*y)⟩,K2)
 |.quo=>K1 (⟨.int k,k.wrap (x.tdiv y)⟩,K1 (y≠0))
 |.rem=>K1 (⟨.int k,x.tmod y⟩,K1 (y≠0))
 |.and=>K1 (⟨.int k,bits .and k x y⟩,K2)
 |.or=>K1 (⟨.int k,bits .or k x y⟩,K2)
 |.xor=>K1 (⟨.int k,bits .xor k x y⟩,K2)
 |.andNot=>K1 (⟨.int k,bits .andNot k x y⟩,K2)
 |.eql=>K1 (⟨.bool,x==y⟩,K2)
 |.neq=>K1 (⟨.bool,x !=y⟩,K2)
 |.lss=>K1 (⟨.bool,Lf (x<y)⟩,K2)
 |.leq=>K1 (⟨.bool,Lf (x<=y)⟩,K2)
 |.gtr=>K1 (⟨.bool,Lf (x>y)⟩,K2)
 |.geq=>K1 (⟨.bool,Lf (x>=y)⟩,K2)
 |_=>K2
def Gu(op:BinOp)(x y:List UInt8):Option (TV×Ob):=
 match op with
 |.add=>K1 (⟨.str,x++y⟩,K1 (x.length+y.length<=Ym))
 |.eql=>K1 (⟨.bool,x==y⟩,K2)
 |.neq=>K1 (⟨.bool,!(x==y)⟩,K2)
 |.lss=>K1 (⟨.bool,Mp x y⟩,K2)
 |.leq=>K1 (⟨.bool,Mp x y||x==y⟩,K2)
 |.gtr=>K1 (⟨.bool,!(Mp x y||x==y)⟩,K2)
 |.geq=>K1 (⟨.bool,!(Mp x y)⟩,K2)
 |_=>K2
def Be(op:BinOp)(x y:Bool):Option (TV×Ob):=
 match op with
 |.eql=>K1 (⟨.bool,x==y⟩,K2)
 |.neq=>K1 (⟨.bool,!(x==y)⟩,K2)
 |_=>K2
def Uj(op:BinOp)(k:Ly)(x y:Int):Option (TV×Ob):=
 match op with
 |.shl=>K1 (⟨.int k,k.wrap (x*2^ (min y.toNat k.bits))⟩,K1 (0<=y))
 |.shr=>K1 (⟨.int k,x.fdiv (2^ (min y.toNat k.bits))⟩,K1 (0<=y))
 |_=>K2
def BinOp.isShift:BinOp->Bool|.shl|.shr=>La|_=>K4
def Ex(τ:vJ)(s:St)(tg:Yl)(op:BinOp)(e:Lb)(x y:Le)(e2:Lb):Option I8:=
 match τ e with
 |some (.int k)=>match BinOp.isShift op with
  |true=>match τ e2 with
   |some (.int k2)=>match cu s (RO s tg x) (.int k),cu s (RO s tg y) (.int k2)with
    |some u,K1 v=>match Uj op k u v with
     |some (z,p)=>K1 ⟨.val z.1 (.u .sh) z.2,s,K4,p⟩
     |none=>K2
    |_,_=>K2
   |_=>K2
  |false=>match cu s (RO s tg x) (.int k),cu s (RO s tg y) (.int k)with
   |some u,K1 v=>match Gc op k u v with
    |some (z,p)=>K1 ⟨.val z.1 (.u .sh) z.2,s,K4,p⟩
    |none=>K2
   |_,_=>K2
 |some .str=>match cu s (RO s tg x) .str,cu s (RO s tg y) .str with
  |some u,K1 v=>match Gu op u v with
   |some (z,p)=>K1 ⟨.val z.1 (.u .sh) z.2,s,K4,p⟩
   |none=>K2
  |_,_=>K2
 |some .bool=>match cu s (RO s tg x) .bool,cu s (RO s tg y) .bool with
  |some u,K1 v=>match Be op u v with
   |some (z,p)=>K1 ⟨.val z.1 (.u .sh) z.2,s,K4,p⟩
   |none=>K2
  |_,_=>K2
 |_=>K2
def Di(k:Ly)(x:Int):vt gh w X B s F a (.int k x) [] (.val (.int k) (.u own) x):=⟨[.int k x],rfl,by unfold Pr;exact⟨rfl,rfl⟩⟩
def JK(x:Bool):vt gh w X B s F a (.bool x) [] (.val .bool (.u own) x):=⟨[.bool x],rfl,by unfold Pr;exact⟨rfl,rfl⟩⟩
def Dg(x:List UInt8):vt gh w X B s F a (.string ⟨⟨x⟩⟩) [] (.val .str (.u own) x):=⟨[.string ⟨⟨x⟩⟩],rfl,by unfold Pr;exact⟨rfl,rfl⟩⟩
def zZ(h:R n W0 w X F H s a)(ht:tg.ok W0.gh a){k:Ly}{y:Int}(hr:cu s (RO s tg x) (.int k)=K1 y):a.eval x=.int k y:=by obtain⟨d,b,c,_⟩:=ea h ht hr;rw[b,c];rfl
def rm(h:R n W0 w X F H s a)(ht:tg.ok W0.gh a){y:Bool}(hr:cu s (RO s tg x) .bool=K1 y):a.eval x=.bool y:=by obtain⟨d,b,c,_⟩:=ea h ht hr;rw[b,c];rfl
def Tk(h:R n W0 w X F H s a)(ht:tg.ok W0.gh a){y:List UInt8}(hr:cu s (RO s tg x) .str=K1 y):a.eval x=.string ⟨⟨y⟩⟩:=by obtain⟨d,b,c,_⟩:=ea h ht hr;rw[b,c];rfl
def Qfe(x y:List UInt8):(ByteArray.mk ⟨x⟩)++(ByteArray.mk ⟨y⟩)=ByteArray.mk ⟨x++y⟩:=by rfl
def A6(h:R n W0 w X F H s a)(ht:tg.ok W0.gh a)(hτ:τ.ok P){op:BinOp}{e:Lb}(ho:o.op=.binOp op e x y e2){r:I8}(hr:Ex τ s tg op e x y e2=K1 r):
  cX P τ W0 w X F s a o r:=by
 unfold Ex at hr;split at hr
 ·rename_i k i;split at hr
  ·split at hr
   ·split at hr
    ·rename_i m _ _ _ u v f hv;split at hr
     ·rename_i z p b;simp only[pB]at hr;subst hr;refine Kr rfl λc=>?_;have d:=zZ h ht f;have e2:=zZ h ht hv;cases op<;>simp only[Uj]at b<;>first|cases b|skip
      all_goals
       have j:¬v<0:=Int.not_lt.mpr (show(0:Int)<=v from c)
       (refine⟨_,λg _=>?_,Di _ _⟩;simp only[execOp,ho,d,e2];simp[go_sem,Op.shift,j])
     ·cases hr
    ·cases hr
   ·cases hr
  ·split at hr
   ·rename_i u v f hv;split at hr
    ·rename_i z p b;simp only[pB]at hr;subst hr;refine Kr rfl λc=>?_;have d:=zZ h ht f;have e2:=zZ h ht hv;cases op<;>simp only[Gc]at b<;>first|cases b|skip
     all_goals first
      |(refine⟨_,λg _=>?_,Di _ _⟩;simp only[execOp,ho,d,e2];simp[go_sem,Op.intArith];done)
      |(refine⟨_,λg _=>?_,JK _⟩;simp only[execOp,ho,d,e2];first|(simp[go_sem];done)|(simp[go_sem,binOp,M4];done))
      |(have c:v≠0:=c;refine⟨_,λg _=>?_,Di _ _⟩;simp only[execOp,ho,d,e2];simp[go_sem,Op.intDiv,c])
    ·cases hr
   ·cases hr
 ·split at hr
  ·rename_i u v f hv;split at hr
   ·rename_i z p b;simp only[pB]at hr;subst hr;refine Kr rfl λc=>?_;have d:=Tk h ht f;have e2:=Tk h ht hv;cases op<;>simp only[Gu]at b<;>first|cases b|skip
    ·refine⟨.string ⟨⟨u++v⟩⟩,λg _=>?_,Dg _⟩;have c:u.length+v.length<=Ym:=c;unfold Ym at c;simp only[execOp,ho,d,e2];simp[go_sem,binOp,M4,Qfe];omega
    all_goals (refine⟨_,λg _=>?_,JK _⟩;simp only[execOp,ho,d,e2];first|(simp[go_sem];done)|(simp[go_sem,binOp,M4];done))
   ·cases hr
  ·cases hr
 ·rename_i i;split at hr
  ·rename_i u v f hv;split at hr
   ·rename_i z p b;simp only[pB]at hr;subst hr;refine Kr rfl λc=>?_;have d:=rm h ht f;have e2:=rm h ht hv;have l:=(hτ _ _ i).bool;cases op<;>simp only[Be]at b<;>first|cases b|skip
    all_goals (refine⟨_,λg _=>?_,JK _⟩;simp only[execOp,ho,d,e2];simp[go_sem,binOp,run_equal_bool g e u v l])
   ·cases hr
  ·cases hr
 ·cases hr
def ET(h:R n W0 w X F H s a){k r:Nat}{T:Ty}{f:Fl}{y:T.den}(hl:xK s (.tm k (.bor r p))=K1 ⟨T,f,y⟩){U:Ty}(hU:X4 W0.gh w s F a r p v U):
  s.bad r p=K4/\T=U/\f.live=La/\ ∃vs S,v=Yh T vs/\Pr w X W0.B T f y vs S/\(∀b∈S,b∈F (.m r)):=by
 simp only[xK]at hl;split at hl
 ·cases hl
 ·rename_i d;refine⟨d,?_⟩;unfold X4 at hU;have g:=h.slots (.m r);split at hl
  ·rename_i t u x i;rw[i]at hU g;obtain⟨rfl,rfl,hv⟩:=hU;split at hl
   ·rename_i z;simp only[pB,Li]at hl;obtain⟨rfl,hl⟩:=hl;simp only[heq_eq_eq,pF]at hl;obtain⟨rfl,rfl⟩:=hl;obtain⟨vs,l,o⟩:=g
    grind
   ·cases hl
  ·rename_i e t u x i;rw[i]at hU g;obtain⟨b,c,S,C,l,o,A,D,E⟩:=hU;obtain⟨G,I,J,K,q,j,L⟩:=g;rw[l]at q;obtain⟨rfl,rfl⟩:=Lv q;rw[o]at j;simp only[pB,L9]at j;obtain⟨rfl,_⟩:=j;rw[A]at hl;simp only at hl;split at hl
   ·rename_i z;simp only[pB,Li]at hl;obtain⟨rfl,hl⟩:=hl;simp only[heq_eq_eq,pF]at hl;obtain⟨rfl,rfl⟩:=hl
    grind[Vf,Kh]
   ·cases hl
  ·cases hl
def uH(s:St)(x:TB):Option (Ly×Int):=
 match x with
 |.cst (.int k n)=>K1 (k,n)
 |.cst _=>K2
 |x=>match xK s x with
  |some ⟨.int k,_,n⟩=>K1 (k,n)
  |_=>K2
def bo(h:R n W0 w X F H s a)(ht:tg.ok W0.gh a){k:Ly}{y:Int}(hr:uH s (RO s tg x)=K1 (k,y)):a.eval x=.int k y:=by
 unfold uH at hr;split at hr
 ·rename_i v hv;simp only[pB,pF]at hr;obtain⟨rfl,rfl⟩:=hr;obtain rfl:=Cq hv;rfl
 ·cases hr
 ·split at hr
  ·rename_i j f l e;simp only[pB,pF]at hr;obtain⟨rfl,rfl⟩:=hr;obtain⟨_,m,S,i,c,_⟩:=lx h ht e;cases f with
   |u b=>unfold Pr at c;rw[i,c.1];rfl
   |p f g=>exact c.elim
   |d=>simp[Fl.live]at*
  ·cases hr
def YH(s:St)(x:TB):Option ((_:Lb)×(t:Ty)×Ow×List t.den):=
 match xK s x with
 |some ⟨.slice e t,.u b,l⟩=>K1 ⟨e,t,b,l⟩
 |_=>K2
def E1(h:R n W0 w X F H s a)(ht:tg.ok W0.gh a){e:Lb}{t:Ty}{b:Ow}{l:List t.den}(hr:YH s (RO s tg x)=K1 ⟨e,t,b,l⟩):
  ∃v xs S1 S2,a.eval x=v/\ep w X W0.B b e t.size l.length v xs S1/\cS (rd w X W0.B b t) l xs S2/\ ∀b'∈S1++S2,∃k,b'∈F k:=by
 unfold YH at hr;split at hr
 ·rename_i m o b' p d;simp only[pB,Li]at hr;obtain⟨rfl,hr⟩:=hr;simp only[heq_eq_eq,Li]at hr;obtain⟨rfl,hr⟩:=hr;simp only[heq_eq_eq,pF]at hr;obtain⟨rfl,rfl⟩:=hr;obtain⟨_,q,S,f,c,g⟩:=lx h ht d;unfold Pr at c;obtain⟨v,xs,S1,S2,rfl,rfl,i,j⟩:=c;exact⟨v,xs,S1,S2,f,i,j,g⟩
 ·cases hr
def Dy(τ:vJ)(s:St)(tg:Yl)(op:UnOp)(e:Lb)(x:Le):Option I8:=
 match op,τ e with
 |.not,K1 .bool=>match cu s (RO s tg x) .bool with
  |some u=>K1 ⟨.val .bool (.u .sh) (!u),s,K4,K2⟩
  |none=>K2
 |.neg,K1 (.int k)=>match cu s (RO s tg x) (.int k)with
  |some u=>K1 ⟨.val (.int k) (.u .sh) (k.wrap (0-u)),s,K4,K2⟩
  |none=>K2
 |_,_=>K2
theorem JP(h:R n W0 w X F H s a)(ht:tg.ok W0.gh a){op:UnOp}{e:Lb}(ho:o.op=.unOp op e x){r:I8}(hr:Dy τ s tg op e x=K1 r):cX P τ W0 w X F s a o r:=by
 unfold Dy at hr;split at hr
 ·split at hr
  ·rename_i u b;simp only[pB]at hr;subst hr;have c:=rm h ht b;refine Kr rfl λ_=>⟨_,λd _=>?_,JK _⟩
   simp_all[execOp,Op.unary]
  ·cases hr
 ·split at hr
  ·rename_i k _ _ u b;simp only[pB]at hr;subst hr;have c:=zZ h ht b;refine Kr rfl λ_=>⟨_,λd _=>?_,Di _ _⟩
   simp_all[execOp,Op.unary,Op.intArith]
  ·cases hr
 ·cases hr
def Xf(l:List Int):List UInt8:=l.map λn=>Nw n.toNat
def SP(τ:vJ)(s:St)(tg:Yl)(src dst:Lb)(x:Le):Option I8:=
 match τ src,τ dst with
 |some (.int k),K1 (.int k2)=>match cu s (RO s tg x) (.int k)with
  |some u=>K1 ⟨.val (.int k2) (.u .sh) (k2.wrap u),s,K4,K2⟩
  |none=>K2
 |some (.slice e' (.int .u8)),K1 .str=>match YH s (RO s tg x),τ e' with
  |some ⟨_,.int .u8,_,l⟩,K1 (.int .u8)=>K1 ⟨.val .str (.u .sh) (Xf l),s,K4,K2⟩
  |_,_=>K2
 |some .str,K1 .str=>match cu s (RO s tg x) .str with
  |some u=>K1 ⟨.val .str (.u .sh) u,s,K4,K2⟩
  |none=>K2
 |_,_=>K2
def MP{k:Ly}:∀{l:List Int}{xs:List K3}{S:List Nat},cS (rd w X B own (.int k)) l xs S->xs=l.map (Nx k)/\S=[]
 |[],_,_,⟨a,b⟩=>⟨a,b⟩
 |x::l,_,_,⟨c,d,e,f,g,h,a,b⟩=>by
  obtain⟨rfl,rfl⟩:=a;obtain⟨rfl,rfl⟩:=MP b;simp_all
def TW:∀(l:List Int)(r:ByteArray),l.foldl (λr n=>r.push (Nw n.toNat)) r=⟨r.data++(Xf l).toArray⟩
 |[],r=>by simp[Xf]
 |b::l,r=>by
  simp only[Nk];rw[TW l];simp[ByteArray.push,Xf]
def Ge(h:R n W0 w X F H s a)(ht:tg.ok W0.gh a)(hτ:τ.ok P){e:Lb}(ho:o.op=.convert e e2 x){r:I8}(hr:SP τ s tg e e2 x=K1 r):cX P τ W0 w X F s a o r:=by
 unfold SP at hr;split at hr
 ·rename_i k A g i;split at hr
  ·rename_i u q;simp only[pB]at hr;subst hr;have t:=zZ h ht q;refine Kr rfl λ_=>⟨_,λf c=>?_,Di _ _⟩
   simp only[execOp,ho,t];simp[convert,run_underlying (hτ _ _ g).int,run_underlying (hτ _ _ i).int,Conv.intToInt]
  ·cases hr
 ·rename_i C g i;split at hr
  ·rename_i I b l p d;simp only[pB]at hr;subst hr;have d:=hτ _ _ d;obtain⟨v,J,K,L,hv,D,A,_⟩:=E1 h ht p;obtain⟨rfl,rfl⟩:=MP A;obtain⟨E,m,rfl,_,_,y⟩:=aw D;refine Kr rfl λ_=>⟨_,λf c=>?_,Dg _⟩
   simp only[execOp,ho,hv];rw[Lh,run_convert_bytes_string f e e2 C E _ m (hτ _ _ g).slice.1 d.int (hτ _ _ i).str];rcases y with⟨rfl,z,_⟩|⟨B,rfl,_,y⟩
   ·have:l=[]:=Mc z;subst this;rfl
   ·have p:=run_loadCells_list (P:=P) f B (l.map (Nx .u8)) (λj u G=>(show Bq w f by
     have:=c (by simp_all[LB]);rw[ho]at this;exact this).cell (y j u G))
    simp only[List.length_map]at p;rw[run_bytesToString f B l.length m l p,TW];simp_all
  ·cases hr
 ·rename_i g i;split at hr
  ·rename_i u q;simp only[pB]at hr;subst hr;have t:=Tk h ht q;refine Kr rfl λ_=>⟨_,λf c=>?_,Dg _⟩
   simp only[execOp,ho,t];simp[convert,run_underlying (hτ _ _ g).str,run_underlying (hτ _ _ i).str]
  ·cases hr
 ·cases hr
def Sq(u:List UInt8):(ByteArray.mk ⟨u⟩).size=u.length:=rfl
def Quk(u v:Int):(ite (v<u) v u)=min u v:=Aa
def Qug(u v:Int):(ite (u<v) v u)=max u v:=Aa
def R8(τ:vJ)(s:St)(tg:Yl)(e:Lb)(x:Le):Option I8:=
 match τ e with
 |some .str=>match cu s (RO s tg x) .str with
  |some u=>K1 ⟨.val (.int .i64) (.u .sh) (u.length:Int),s,K4,K2⟩
  |none=>K2
 |some (.slice _ _)=>match YH s (RO s tg x)with
  |some ⟨_,_,_,l⟩=>K1 ⟨.val (.int .i64) (.u .sh) (l.length:Int),s,K4,K2⟩
  |none=>K2
 |_=>K2
def G7(h:R n W0 w X F H s a)(ht:tg.ok W0.gh a)(hτ:τ.ok P){e:Lb}(ho:o.op=.call {callee:=.builtin .len,args:= #[x],argTypes:= #[e]}){r:I8}(hr:R8 τ s tg e x=K1 r):cX P τ W0 w X F s a o r:=by
 unfold R8 at hr;split at hr
 ·rename_i c;split at hr
  ·rename_i u d;simp only[pB]at hr;subst hr;have f:=Tk h ht d;refine Kr rfl λ_=>⟨_,λg _=>?_,Di _ _⟩
   simp only[execOp,ho];simp[resolve,invoke,builtin,f,Nc,run_underlying (hτ _ _ c).str,goInt,Sq]
  ·cases hr
 ·rename_i c;split at hr
  ·rename_i m t b l i;simp only[pB]at hr;subst hr;obtain⟨v,p,q,y,hv,j,z,_⟩:=E1 h ht i;obtain⟨A,k,rfl,_,_,B⟩:=aw j;refine Kr rfl λ_=>⟨_,λg _=>?_,Di _ _⟩
   simp only[execOp,ho];simp[resolve,invoke,builtin,hv,Nc,run_underlying (hτ _ _ c).slice.1,goInt]
  ·cases hr
 ·cases hr
def YF(s:St)(tg:Yl)(e:Lb)(τ:vJ)(x y:Le)(mx:Bool):Option I8:=
 match τ e with
 |some (.int k)=>match cu s (RO s tg x) (.int k),cu s (RO s tg y) (.int k)with
  |some u,K1 v=>K1 ⟨.val (.int k) (.u .sh) (match mx with|true=>(max u v:Int)|false=>(min u v:Int)),s,K4,K2⟩
  |_,_=>K2
 |_=>K2
def Dh(h:R n W0 w X F H s a)(ht:tg.ok W0.gh a){e:Lb}{mx:Bool}(ho:o.op=.call {callee:=.builtin (match mx with|true=>.max|false=>.min),args:= #[x,y],argTypes:= #[e,e2]}){r:I8}(hr:YF s tg e τ x y mx=K1 r):
  cX P τ W0 w X F s a o r:=by
 unfold YF at hr;split at hr
 ·split at hr
  ·rename_i u v b hv;simp only[pB]at hr;subst hr;have c:=zZ h ht b;have e2:=zZ h ht hv;refine Kr rfl λ_=>⟨_,λd _=>?_,Di _ _⟩
   simp only[execOp,ho];cases mx
   ·simp_all[resolve,invoke,builtin,Lq.min_,Lq.min2,Quk]
   simp_all[resolve,invoke,builtin,Lq.max_,Lq.max2,Qug]
  ·cases hr
 ·cases hr
def Qjr{T:Ty}{e:Lb}(h1:VG P e T=La)(h2:RJ P e T=La)(w:Lc){xs:Array K3}{pre u:List K3}(hx:xs.toList=pre++(u++post))(ho:pre.length=off)(hu:u.length=T.size):
  (part e xs off).run P w=.ok (Yh T u) w:=by
 obtain⟨i,b,c,_⟩:=v7 h1;unfold part;simp only[Lh,Qkl h2 w,Ln];cases ha:T.isAgg
 ·have h1:=GC ha;rw[h1]at hu;obtain⟨v,rfl⟩:=Mz.1 hu;have:xs[off]? =K1 v:=by
   rw[<-Array.getElem?_toList,hx,<-ho];simp
  have a:Yh T [v]=v:=by cases T<;>simp[Ty.isAgg]at ha<;>rfl
  simp[this,a]
 ·simp only[if_true,Lh,Ls,typeInfo,Lp];have d:xs.extract off (off+T.size)=u.toArray:=by
   grind[Array.toList_extract]
  have a:Yh T u=.agg u.toArray:=by cases T<;>simp[Ty.isAgg]at ha<;>rfl
  simp_all
def MT(τ:vJ)(s:St)(tg:Yl)(e:Lb)(x i:Le):Option I8:=
 match τ e with
 |some .str=>match cu s (RO s tg x) .str,uH s (RO s tg i)with
  |some u,K1 (_,j)=>K1 ⟨.val (.int .u8) (.u .sh) ((u.getD j.toNat 0).toNat:Int),s,K4,K1 (0<=j/\j<u.length)⟩
  |_,_=>K2
 |some (.arr n t)=>match t.flat,cu s (RO s tg x) (.arr n t),uH s (RO s tg i)with
  |true,K1 l,K1 (_,j)=>K1 ⟨.val t (.u .sh) (l.getD j.toNat (zero t)),s,K4,K1 (0<=j/\j<n)⟩
  |_,_,_=>K2
 |_=>K2
def Tq(h:R n W0 w X F H s a)(ht:tg.ok W0.gh a)(hτ:τ.ok P){e:Lb}{i:Le}(ho:o.op=.index e x i){r:I8}(hr:MT τ s tg e x i=K1 r):cX P τ W0 w X F s a o r:=by
 unfold MT at hr;split at hr
 ·rename_i m;split at hr
  ·rename_i u k j p q;simp only[pB]at hr;subst hr;have J:=Tk h ht p;have v:=bo h ht q;refine Kr rfl λg=>⟨_,λE _=>?_,Di _ _⟩
   have g:0<=j/\j<u.length:=g;have y:j.toNat<u.length:=Aa
   have z:0<=j/\j<(ByteArray.mk ⟨u⟩).size:=by simp_all[ByteArray.size]
   simp only[execOp,ho,J,v,Lh];rw[run_index_string _ _ _ _ _ (hτ _ _ m).str,dif_pos z];simp[List.getD_eq_getElem?_getD,y];rfl
  ·cases hr
 ·rename_i n t K;split at hr
  ·rename_i l k j L M q;simp only[pB]at hr;subst hr;obtain⟨G,m,N⟩:=ea h ht M;have v:=bo h ht q;obtain⟨b,c⟩:=N;have b:l.length=n:=b;obtain⟨_,U,p,I,A⟩:=(hτ _ _ K).arr';obtain⟨V,B,C,_⟩:=v7 I;by_cases d:0<=j/\j<n
   ·have D:j.toNat<l.length:=Aa
    obtain⟨pre,f,post,W,Y,Z,O,n2,Q,S,_⟩:=rZ (λ_ _ _ h=>X9 h) D c;have e4:l.getD j.toNat (zero t)=l[j.toNat]:=Af
    refine Kr rfl λ_=>⟨Yh t f,λE _=>?_,f,rfl,by grind[Pr,ez]⟩
    have hx:a.eval x=.agg G.toArray:=m;simp only[execOp,ho,hx,v,Instr.index,Lh,asIntOf,Lp,Ln,run_underlying p,Ls,typeInfo];simp only[d.1,d.2,and_self,if_true,Lh];simp[B,C,Qjr I A E (xs:=G.toArray) (off:=j.toNat*t.size) (pre:=pre) (u:=f) (post:=post) (by simpa using O) Q (X9 S)]
   ·exact Kr rfl λg=>absurd g d
  ·cases hr
 ·cases hr
theorem Ld.add_add'(a:Ld)(m j:Nat):(a.add m).add j=a.add (m+j):=by grind[Lj]
def cY(w:Lc){c:Array K3}{e:Lb}{fr:Nat×Nat}(h:w.heap[b]? =K1 (.cells c e fr))(o j:Nat):w.cell? ((⟨b,o,K2⟩:Ld).add j)=c[o+j]? :=by grind[Lj,Ny]
def Bo:∀{p:List Nat}{T:Ty}{x:T.den}{y:TV}{i:Nat},ap T x p=K1 y->ap T x (p++[i])=fld y.1 y.2 i/\(∀U,UL y.1 i=K1 U->Yn T (p++[i])=Yn T p+jz y.1 i)
 |[],T,x,y,i,h=>by
  grind[ap,Yn]
 |j::p,T,x,y,i,h=>by
  simp only[ap]at h;cases hz:fld T x j with
  |none=>simp_all
  |some z=>
   rw[hz]at h;obtain⟨a,b⟩:=Bo (i:=i) h
   grind[ap,Yn,D7]
def Qlr:∀{T:Ty}{x:T.den}{i:Nat}{U:Ty},UL T i=K1 U-> ∃y,fld T x i=K1 ⟨U,y⟩:=by
 intro T
 induction T with
 |pair a b d c=>
  intro x i U h;cases i with
  |zero=>simp only[UL,pB]at h;subst h;exact⟨x.1,rfl⟩
  |succ i=>exact c (x:=x.2) h
 |_=>intro x i U h;cases i<;>cases h
def Fs.fieldAt{e:Lb}{T U:Ty}(h:Fs P e T){i:Nat}(hU:UL T i=K1 U)(ad:Ld)(w:Lc):(Nd e (.pointer (K1 ad)) i).run P w=.ok (.pointer (K1 (ad.add (jz T i)))) w:=by
 have a:T.isStruct=true:=by cases T<;>first|rfl|(cases i<;>cases hU)
 obtain⟨k,l,b⟩:=h.struct a;obtain⟨f,m,n,c,o⟩:=Qay b hU;obtain⟨j,p,d,_⟩:=v7 c;have g:¬j.size=0:=Aa
 simp_all[Nd,run_underlying,Mk,fieldPlace,Ls,typeInfo]
def NT(τ:vJ)(s:St)(tg:Yl)(e:Lb)(x:Le)(i:Nat):Option I8:=
 match τ e,RO s tg x with
 |some T,.tm k (.box _ U _ _)=>match s.get (.m k),Lf (T=U),UL T i with
  |.box _ _ _ _,La,K1 _=>K1 ⟨.ptr k [i],s,K4,K2⟩
  |_,_,_=>K2
 |some T,.tm _ (.ptr r p)=>match s.get (.m r)with
  |.box _ U _ y=>match ap U y p with
   |some z=>match Lf (T=z.1),UL T i with
    |true,K1 _=>K1 ⟨.ptr r (p++[i]),s,K4,K2⟩
    |_,_=>K2
   |none=>K2
  |_=>K2
 |some T,.tm _ (.shp U y)=>match Lf (T=U),fld U y i with
  |true,K1 z=>K1 ⟨.shp z.1 z.2,s,K4,K2⟩
  |_,_=>K2
 |some T,.tm k (.elp r p j q)=>match xK s (.tm k (.bor r p))with
  |some ⟨.slice _ t,_,_⟩=>match ap t (zero t) q with
   |some z=>match Lf (T=z.1),UL T i with
    |true,K1 _=>K1 ⟨.elp r p j (q++[i]),s,K4,K2⟩
    |_,_=>K2
   |none=>K2
  |_=>K2
 |_,_=>K2
def IC(h:R n W0 w X F H s a)(ht:tg.ok W0.gh a)(hτ:τ.ok P){e:Lb}(ho:o.op=.fieldAddr e x i){r:I8}(hr:NT τ s tg e x i=K1 r):cX P τ W0 w X F s a o r:=by
 unfold NT at hr;have g:∀{A:Ld}{T U:Ty},τ e=K1 T->UL T i=K1 U->a.eval x=.pointer (K1 A)-> ∀G,Ra W0.gh τ X s a o w G->(execOp a.eval o).run P G=.ok (.value (.pointer (K1 (A.add (jz T i))))) G:=by
  intro A T U m hU hx G _;simp only[execOp,ho,hx,Lh,(hτ _ _ m).fieldAt hU A G,Ln,Lp]
 split at hr
 ·rename_i T k e' U f y m hx;split at hr
  ·rename_i _ _ _ Y U2 f2 y2 V I C J;simp only[pB]at hr;subst hr;have d:T=U:=pE C;subst d;obtain⟨rfl,b,c,S,v,L,M,Z⟩:=Ji h ht hx Ac;have hx:=(ug hx).2.2;simp only[I,DB]at hx;cases hx;refine Kr rfl λ_=>⟨_,g m J v,rfl,_,_,_,_,b,S,I,L,?_⟩
   simp_all[Yn,Lj]
  ·cases hr
 ·rename_i T k r' p m hx;split at hr
  ·rename_i Y U f y I;split at hr
   ·rename_i z E;split at hr
    ·rename_i V C J;simp only[pB]at hr;subst hr;have d:T=z.1:=pE C;obtain⟨rfl,h0,e3,U3,f3,y3,b,S,v,L,M⟩:=Ji h ht hx Ac;rw[I]at v;cases v;refine Kr rfl λ_=>⟨_,g m J M,rfl,_,_,_,_,b,S,I,L,?_⟩
     rw[(Bo E).2 V Af,d];simp_all[Lj]
    ·cases hr
   ·cases hr
  ·cases hr
 ·rename_i T k U y m hx;split at hr
  ·rename_i z C E;simp only[pB]at hr;subst hr;have d:T=U:=pE C;subst d;obtain⟨rfl,h0,A,vs,v,L,M,Z⟩:=Ji h ht hx Ac;have N:Pr w X W0.B T (.u .sh) y vs []:=by unfold Pr;exact Z
   obtain⟨pre,O,ab,S1,S2,S3,m1,m2,m3,K,_⟩:=Du E N;refine Kr rfl λ_=>⟨_,g m (D7 E) v,rfl,_,O,rfl,?_,?_,?_⟩
   ·grind[Lj]
   ·intro j u hj;rw[Ld.add_add',<-m3];apply M;rw[m1,Lu Aa,show pre.length+j-pre.length=j from by omega,Lt (L8.1 hj).1];exact hj
   ·have:ZD (.u .sh) i=.u .sh:=by cases i<;>rfl
    rw[this]at K;unfold Pr at K;have e:=kJ K;rw[e]at K;exact K
  ·cases hr
 ·rename_i T k r' p j q m hx;split at hr
  ·rename_i Y t f l hl;split at hr
   ·rename_i z E;split at hr
    ·rename_i V C J;simp only[pB]at hr;subst hr;have d:T=z.1:=pE C;obtain⟨rfl,h0,v⟩:=Ji h ht hx Ac;have D:s.bad r' p=false:=by
      grind[xK]
     obtain⟨e3,t3,A,nn,Q,k1,k2,k3,k4⟩:=v D;obtain⟨_,W,_⟩:=ET h hl k1;cases W;refine Kr rfl λ_=>⟨_,g m J k4,rfl,λ_=>⟨_,_,A,nn,Q,k1,k2,k3,?_⟩⟩
     rw[Ld.add_add',(Bo E).2 V Af,d,Nat.add_assoc]
    ·cases hr
   ·cases hr
  ·cases hr
 ·cases hr
def nD{α:Type}{r:α->List K3->List Nat->Prop}:∀{l l':List α}{vs vs':List K3}{S S':List Nat},cS r l vs S->cS r l' vs' S'->cS r (l++l') (vs++vs') (S++S')
 |[],_,_,_,_,_,⟨a,b⟩,h=>Af
 |x::l,_,_,_,_,_,⟨c,d,e,f,a,b,g,i⟩,h=>⟨c,d++_,e,f++_,by simp[a],by simp[b],g,nD i h⟩
def FU(s:St)(tg:Yl)(n:Nat)(t:Ty)(x i:Le):Option I8:=
 let at' (r:Nat) (p:List Nat):Option I8:=match s.get (.m r),uH s (RO s tg i)with
  |.box _ U _ y,K1 (_,j)=>match ap U y p with
   |some ⟨.arr n' t',_⟩=>match Lf (n'=n/\t'=t)with
    |true=>K1 ⟨.aep r p j,s,K4,K1 (0<=j/\j<n)⟩
    |false=>K2
   |_=>K2
  |_,_=>K2
 match RO s tg x with
 |.tm k (.box _ _ _ _)=>at' k []
 |.tm _ (.ptr r p)=>at' r p
 |_=>K2
def BF(τ:vJ)(s:St)(tg:Yl)(e:Lb)(x i:Le):Option I8:=
 match τ e,YH s (RO s tg x),uH s (RO s tg i)with
 |some (.slice e' t'),K1 ⟨_,t,b,l⟩,K1 (_,j)=>match τ e',Lf (t'=t),b.mine,RO s tg x with
  |some t2,La,K4,_=>match Lf (t2=t)||(Lf (t=.hid t2)&&Lo t2.size 1)with
   |true=>K1 ⟨.shp t (l.getD j.toNat (zero t)),s,K4,K1 (0<=j/\j<l.length)⟩
   |false=>K2
  |some t2,La,La,.tm k (.val _ _ _)=>match Lf (t2=t),s.get (.m k)with
   |true,.val _ _ _=>K1 ⟨.elp k [] j [],s,K4,K1 (0<=j/\j<l.length)⟩
   |_,_=>K2
  |some t2,La,La,.tm _ (.bor r p)=>match Lf (t2=t)with
   |true=>K1 ⟨.elp r p j [],s,K4,K1 (0<=j/\j<l.length)⟩
   |false=>K2
  |_,_,_,_=>K2
 |_,_,_=>K2
def OP(τ:vJ)(s:St)(tg:Yl)(e:Lb)(x i:Le):Option I8:=
 match RO s tg x with
 |.tm k (.bor r p)=>match xK s (.tm k (.bor r p)),τ e,uH s (RO s tg i)with
  |some ⟨.slice _ t,.p (.u .ow) (.u .sh),l⟩,K1 (.slice e' t'),K1 (_,j)=>match τ e',Lf (t'=t)with
   |some t2,La=>match Lf (t2=t)with
    |true=>K1 ⟨.elp r p j [],s,K4,K1 (0<=j/\j<l.length)⟩
    |false=>K2
   |_,_=>K2
  |_,_,_=>K2
 |_=>K2
def UI(τ:vJ)(s:St)(tg:Yl)(e:Lb)(x i:Le):Option I8:=
 match τ e with
 |some (.arr n t)=>FU s tg n t x i
 |_=>match OP τ s tg e x i with
  |some r=>K1 r
  |none=>BF τ s tg e x i
def I5{e:Lb}{t:Ty}{t2:Ty}(h:Fs P e (.slice e' t))(h':Fs P e' t2)(hsz:t2.size=t.size){k:Ly}(h0:0<=j)(h1:j<len)(w:Lc):
  (Ms e (.slice (K1 ad) len cap) (.int k j)).run P w=.ok (.pointer (K1 (ad.add (j.toNat*t.size)))) w:=by
 simp only[Ms,Lh,asIntOf,Lp,Ln,run_underlying h.slice.1];simp[h0,h1,h'.sizeOf w,hsz]
def Zsh(h:R n W0 w X F H s a)(ht:tg.ok W0.gh a){e:Lb}{t:Ty}(hT:Fs P e (.arr m t)){i:Le}(ho:o.op=.indexAddr e x i){r:I8}(hr:FU s tg m t x i=K1 r):cX P τ W0 w X F s a o r:=by
 have q:∀{k p},(∃u U f y b S,s.get (.m k)=.box u U f y/\F (.m k)=b::S/\a.eval x=.pointer (K1 ⟨b,Yn U p,K2⟩))->
   (match s.get (.m k),uH s (RO s tg i)with
    |.box _ U _ y,K1 (_,j)=>match ap U y p with
     |some ⟨.arr z g,_⟩=>match Lf (z=m/\g=t)with
      |true=>K1 (⟨.aep k p j,s,K4,K1 (0<=j/\j<m)⟩:I8)
      |false=>K2
     |_=>K2
    |_,_=>K2)=K1 r->cX P τ W0 w X F s a o r:=by
  clear hr;intro k p ⟨u,U,f,y,b,S,v,hF,hx⟩ hr;rw[v]at hr;split at hr
  ·rename_i L M;cases L;rename_i ik j;have N:=bo h ht M;split at hr
   ·rename_i z g l O;split at hr
    ·rename_i Q;obtain⟨rfl,rfl⟩:=pE Q;simp only[pB]at hr;subst hr;refine Kr rfl λd=>?_;have d:0<=j/\j<z:=d;refine⟨.pointer (K1 ⟨b,Yn U p+j.toNat*g.size,K2⟩),λw' _=>?_,rfl,u,U,f,y,b,S,z,g,l,v,hF,O,d.1,d.2,rfl⟩;obtain⟨_,A,V,W⟩:=hT.arr;obtain⟨i2,Y,Z,_⟩:=v7 W;have E:(⟨b,Yn U p,K2⟩:Ld).add (j.toNat*g.size)=⟨b,Yn U p+j.toNat*g.size,K2⟩:=by
      simp_all[Lj]
     simp only[execOp,ho,hx,N,Lh,Ms,asIntOf,Lp,Ln,run_underlying V,Mk];simp_all[Ls,typeInfo]
    ·cases hr
   ·cases hr
  ·cases hr
 unfold FU at hr;simp only at hr;split at hr
 ·rename_i k u U f y hx;obtain⟨rfl,b,c,S,B,C,G,h4⟩:=Ji h ht hx Ac;refine q (p:=[]) ?_ hr;have D:∃A I J K,s.get (.m k)=.box A I J K:=by
   grind
  obtain⟨A,I,J,K,v⟩:=D;have hx:=(ug hx).2.2;simp only[v,DB]at hx;cases hx;exact⟨u,U,f,y,b,S,v,C,B⟩
 ·rename_i k r' p hx;obtain⟨rfl,h0,e3,U3,f3,y3,b,S,B,C,G⟩:=Ji h ht hx Ac;exact q ⟨e3,U3,f3,y3,b,S,B,C,G⟩ hr
 ·cases hr
theorem Zsg(h:R n W0 w X F H s a)(ht:tg.ok W0.gh a)(hτ:τ.ok P){e:Lb}{i:Le}(ho:o.op=.indexAddr e x i){r:I8}(hr:BF τ s tg e x i=K1 r):cX P τ W0 w X F s a o r:=by
 unfold BF at hr;split at hr
 ·rename_i e' t' e2 t b l k j hT g hj;have e3:=bo h ht hj;obtain⟨v,xs,V,S2,hv,W,k2,k3⟩:=E1 h ht g;have m:=aw W;have y:∀{C},τ e'=K1 C->t'=t->C.size=t.size->0<=j/\j<l.length-> ∃d c,a.eval x=.slice (K1 d) l.length c/\(X d.block\/d.block∈V)/\(∀j u,xs[j]? =K1 u->w.cell? (d.add j)=K1 u)/\
    ∀D,Ra W0.gh τ X s a o w D->(execOp a.eval o).run P D=.ok (.value (.pointer (K1 (d.add (j.toNat*t.size))))) D:=by
   intro C z h2 h3 Y;subst h2;obtain⟨ar,c,E,_,_,K⟩:=m;rcases K with⟨_,au,_⟩|⟨d,rfl,L,K⟩
   ·omega
   ·refine⟨d,c,hv.trans E,L.resolve_left Aa,K,λD _=>?_⟩;simp only[execOp,ho,hv,E,e3,Lh,I5 (hτ _ _ hT) (hτ _ _ z) h3 Y.1 Y.2 D,Ln,Lp]
  split at hr
  ·rename_i C z G M;obtain rfl:=Ow.mine_sh M;split at hr
   ·rename_i hd2;simp only[pB]at hr;subst hr;refine Kr rfl λf=>?_;have f:0<=j/\j<l.length:=f;obtain⟨d,c,Z,N,g3,I⟩:=y z (pE G) (by
     rcases(M8 _ _).mp hd2 with hd2|hd2
     ·simp_all
     ·simp only[pC,decide_eq_true_eq]at hd2;rw[hd2.1,pD hd2.2];rfl) f
    obtain⟨pre,O,ab,T1,T2,T3,m1,m2,m3,m4,_⟩:=rZ (λ_ _ _ h=>X9 h) (i:=j.toNat) Aa k2;refine⟨_,I,rfl,_,O,rfl,?_,?_,?_⟩
    ·have:(d.add (j.toNat*t.size)).block=d.block:=by grind[Lj]
     rw[this];refine N.resolve_right ?_;rw[show V=[]from W.1];simp
    ·intro q u hq;rw[Ld.add_add',<-m3]
     grind
    grind[kJ]
   ·cases hr
  ·rename_i C k' T3 f3 x3 z G _ hx;split at hr
   ·rename_i T4 Q x4 hd2 hg;simp only[pB]at hr;subst hr;refine Kr rfl λf=>?_;have f:0<=j/\j<l.length:=f;obtain⟨d,c,Z,N,g3,I⟩:=y z (pE G) (congrArg Ty.size (pE hd2)) f;obtain⟨rfl,_⟩:=Ji h ht hx Ac;have a0:=hx;have a1:=(ug hx).2.1;have hx:=(ug hx).2.2;simp only[hg,DB]at hx;cases hx;have S:∃J,T3=.slice J t:=by
     unfold YH at g;split at g
     ·rename_i J t4 b4 l4 hk;simp only[pB,Li]at g;obtain⟨rfl,g⟩:=g;simp only[heq_eq_eq,Li]at g;obtain⟨rfl,g⟩:=g
      grind[xK]
     ·cases g
    obtain⟨J,rfl⟩:=S;refine⟨_,I,rfl,λ_=>⟨J,t,d,l.length,c,?_,f.1,f.2,by simp[Yn]⟩⟩;simp_all[X4,Y4]
   ·cases hr
  ·rename_i C k' r' p z G _ hx;split at hr
   ·rename_i hd2;simp only[pB]at hr;subst hr;refine Kr rfl λf=>?_;have f:0<=j/\j<l.length:=f;obtain⟨d,c,Z,N,g3,I⟩:=y z (pE G) (congrArg Ty.size (pE hd2)) f;obtain⟨rfl,h0,L⟩:=Ji h ht hx Ac;refine⟨_,I,rfl,λA=>?_⟩;obtain⟨U,hU⟩:=L A;have B:∃Q,xK s (.tm k' (.bor r' p))=K1 ⟨.slice e2 t,Q,l⟩:=by
     grind[YH]
    obtain⟨Q,B⟩:=B;obtain⟨_,a2,_⟩:=ET h B hU
    grind[Yn]
   ·cases hr
  ·cases hr
 ·cases hr
theorem NG(b:Ow):∀q:List Nat,cd (.u b) q=.u b
 |[]=>rfl
 |i::q=>by
  have:ZD (.u b) i=.u b:=by cases i<;>rfl
  rw[cd,this];exact NG b q
def Hq(τ:vJ)(s:St)(tg:Yl)(e:Lb)(x:Le):Option I8:=
 match τ e with
 |none=>K2
 |some T=>
  let fromBox (r:Nat) (p:List Nat):Option I8:=match s.get (.m r)with
   |.box _ U f y=>match ap U y p with
    |some z=>match(cd f p).live,Lf (z.1=T)with
     |true,La=>match rV (cd f p) z.1 with
      |true=>K1 ⟨.val z.1 (cd f p) z.2,s,K4,K2⟩
      |false=>K1 ⟨.bor r p,s,K4,K2⟩
     |_,_=>K2
    |none=>K2
   |_=>K2
  match RO s tg x with
  |.tm k (.box _ _ _ _)=>fromBox k []
  |.tm _ (.ptr r p)=>fromBox r p
  |.tm _ (.shp U y)=>match Lf (U=T)with
   |true=>K1 ⟨.val U (.u .sh) y,s,K4,K2⟩
   |false=>K2
  |.tm _ (.aep r p i)=>match s.get (.m r)with
   |.box _ U f y=>match ap U y p with
    |some ⟨.arr _ t,l⟩=>match(cd f p).live,Lf (t=T),t.flat with
     |true,La,La=>K1 ⟨.val t (.u .sh) (l.getD i.toNat (zero t)),s,K4,K2⟩
     |_,_,_=>K2
    |_=>K2
   |_=>K2
  |.tm k (.elp r p j q)=>match xK s (.tm k (.bor r p))with
   |some ⟨.slice _ t,.u b,l⟩=>match ap t (l.getD j.toNat (zero t)) q with
    |some z=>match Lf (z.1=T),z.1.flat,b.mine with
     |true,La,_=>K1 ⟨.val z.1 (.u .sh) z.2,s,K4,K2⟩
     |true,K4,La=>K1 ⟨.bel r p j q,s,K4,K2⟩
     |_,_,_=>K2
    |none=>K2
   |some ⟨.slice _ t,.p (.u .ow) (.u .sh),l⟩=>match ap t (l.getD j.toNat (zero t)) q with
    |some z=>match Lf (z.1=T)with
     |true=>K1 ⟨.val z.1 (.u .sh) z.2,s,K4,K2⟩
     |false=>K2
    |none=>K2
   |_=>K2
  |_=>K2
def rn(h:R n W0 w X F H s a)(ht:tg.ok W0.gh a)(hτ:τ.ok P){e:Lb}(ho:o.op=.load e x){r:I8}(hr:Hq τ s tg e x=K1 r):cX P τ W0 w X F s a o r:=by
 unfold Hq at hr;split at hr
 ·cases hr
 ·rename_i T hT;have M:∀{N:Ld}{vs:List K3},a.eval x=.pointer (K1 N)->vs.length=T.size->(∀C,Ra W0.gh τ X s a o w C-> ∀j u,vs[j]? =K1 u->C.cell? (N.add j)=K1 u)-> ∀C,Ra W0.gh τ X s a o w C->(execOp a.eval o).run P C=.ok (.value (Yh T vs)) C:=by
   intro N vs hx hl Y C a6;simp only[execOp,ho,hx,Lh,Instr.loadAt,Mk,Lp,Ln,(hτ _ _ hT).load hl (Y C a6)]
  have G:∀{C},Ra W0.gh τ X s a o w C->match Rk s (.load e x)with
    |some (K1 r)=> ∀b,b<w.heap.size->Qw W0.gh a (.m r)=.pointer (K1 ⟨b,0,K2⟩)->C.heap[b]? =w.heap[b]?
    |some K2=> ∀b,b<w.heap.size->X b->C.heap[b]? =w.heap[b]?
    |none=>Bq w C:=λ{C} g=>by
   have:=g (by rw[ho];rfl)
   grind
  have a3:∀{k p},Rk s (.load e x)=K1 (K1 k)->(∃e' U f y b S,s.get (.m k)=.box e' U f y/\F (.m k)=b::S/\a.eval x=.pointer (K1 ⟨b,Yn U p,K2⟩))->
    (match s.get (.m k)with
     |.box _ U f y=>match ap U y p with
      |some z=>match(cd f p).live,Lf (z.1=T)with
       |true,La=>match rV (cd f p) z.1 with
        |true=>K1 (⟨.val z.1 (cd f p) z.2,s,K4,K2⟩:I8)
        |false=>K1 ⟨.bor k p,s,K4,K2⟩
       |_,_=>K2
      |none=>K2
     |_=>K2)=K1 r->cX P τ W0 w X F s a o r:=by
   intro k p ep ⟨e',U,f,y,b,S,hg,hF,hx⟩ hr;rw[hg]at hr;simp only at hr;have hs:=h.slots (.m k);rw[hg]at hs;obtain⟨b',c,S',l1,l2,l3,l4⟩:=hs;rw[hF]at l2;obtain⟨rfl,rfl⟩:=Lv l2;split at hr
   ·rename_i z O;obtain⟨pre,D,L,S1,S2,S3,Z,m2,m3,m4,_⟩:=Vf O l4;split at hr
    ·rename_i Q g;have E:z.1=T:=pE g;have I:∀j u,D[j]? =K1 u->w.cell? ((⟨b,Yn U p,K2⟩:Ld).add j)=K1 u:=by
      intro j u hj;rw[cY w l3,<-Array.getElem?_toList,Z,<-m3,Lu Aa,show pre.length+j-pre.length=j from by omega,Lt (L8.1 hj).1];exact hj
     have ab:=M hx (by rw[Kh m4,E]) (λC g j u hj=>by
      have g:=G g;rw[ep]at g;rw[L3 (w:=w) (by
       have hb:((⟨b,Yn U p,K2⟩:Ld).add j).block=b:=by unfold Lj;split<;>rfl
       grind)]
      grind)
     split at hr
     ·rename_i hn;simp only[pB]at hr;subst hr;have:=kI hn m4;subst this;exact Kr rfl λ_=>⟨_,ab,D,by rw[E],m4⟩
     ·simp only[pB]at hr;subst hr;refine Kr rfl λ_=>⟨_,ab,rfl,λ_=>⟨z.1,?_⟩⟩
      unfold X4;rw[hg];exact⟨b,c,S,z,hF,l3,O,rfl,Ay⟩
    ·cases hr
   ·cases hr
  simp only at hr;split at hr
  ·rename_i k e' U f y hx;obtain⟨rfl,b,c,S,V,h2,h3,h4⟩:=Ji h ht hx Ac;refine a3 (p:=[]) (qs hx Ac) ?_ hr;cases hg:s.get (.m k)<;>rw[hg]at hr<;>simp only at hr<;>first|cases hr|skip
   have hx:=(ug hx).2.2;simp only[hg,DB]at hx;cases hx;exact⟨e',U,f,y,b,S,rfl,h2,V⟩
  ·rename_i k r' p hx;obtain⟨rfl,h0,e3,U3,f3,y3,b,S,V,h2,h3⟩:=Ji h ht hx Ac;exact a3 (qs hx Ac) ⟨e3,U3,f3,y3,b,S,V,h2,h3⟩ hr
  ·rename_i k U y hx;obtain⟨rfl,h0,N,vs,V,h2,h3,h4⟩:=Ji h ht hx Ac;split at hr
   ·rename_i g;simp only[pB]at hr;subst hr;have hU:U=T:=pE g;subst hU;refine Kr rfl λ_=>⟨_,M V (X9 h4) (λC g j u hj=>?_),vs,rfl,Aq⟩
    have g:=G g;have ep:Rk s (.load e (.tmp k))=K1 none:=qs hx Ac;rw[ep]at g;rw[L3 (w:=w) (by
     have hb:(N.add j).block=N.block:=by grind[Lj]
     rw[hb];exact g _ (h.xlt _ h2) h2)]
    exact h3 j u hj
   ·cases hr
  ·rename_i k r' p i hx;obtain⟨rfl,h0,e3,U3,f3,y3,b,S,nn,t3,z3,V,h2,h3,h4,h5,h6⟩:=Ji h ht hx Ac;rw[V]at hr;simp only[h3]at hr;split at hr
   ·rename_i Q g a4;simp only[pB]at hr;subst hr;have E:t3=T:=pE g;subst E;have hs:=h.slots (.m r');rw[V]at hs;obtain⟨b',c,S',l1,l2,l3,l4⟩:=hs;rw[h2]at l2;obtain⟨rfl,rfl⟩:=Lv l2;obtain⟨pre,D,L,S1,S2,S3,Z,m2,m3,m4,_⟩:=Vf h3 l4;have m5:=J3 (X':=λb=>X b\/b∈S2) (λ_ h=>.inl h) Q m4 (λ_ h=>.inr h);obtain⟨ar,au⟩:=m5;have ar:z3.length=nn:=ar;have a7:i.toNat<z3.length:=Aa
    obtain⟨d,A,J,T1,T2,T3,n1,n2,n3,n4,_⟩:=rZ (λ_ _ _ h=>X9 h) a7 au;have e4:z3.getD i.toNat (zero t3)=z3[i.toNat]:=Ag
    have I:∀j u,A[j]? =K1 u->w.cell? ((⟨b,Yn U3 p+i.toNat*t3.size,K2⟩:Ld).add j)=K1 u:=by
     intro j u hj;have b0:=(L8.1 hj).1;rw[cY w l3,<-Array.getElem?_toList,Z,n1,<-m3,<-n3];rw[Lu Aa,Lt Ae,Lu Aa,Lt Aa]
     grind
    refine Kr rfl λ_=>⟨_,M h6 (X9 n4) (λC g j u hj=>?_),A,rfl,?_⟩
    ·have g:=G g;rw[qs hx Ac]at g;rw[L3 (w:=w) (by
      have hb:((⟨b,Yn U3 p+i.toNat*t3.size,K2⟩:Ld).add j).block=b:=by grind[Lj]
      rw[hb];exact g b (Array.getElem?_eq_some_iff.1 l3).1 l1)]
     grind
    grind[Pr,ez]
   ·cases hr
  ·rename_i k r' p j q hx;obtain⟨rfl,h0,V⟩:=Ji h ht hx Ac;split at hr
   ·rename_i e2 t b l hl;have K:s.bad r' p=false:=by
     grind[xK]
    obtain⟨e3,t3,N,nn,a1,k1,k2,k3,k4⟩:=V K;obtain⟨_,a2,_,vs,S,g1,g2,g3⟩:=ET h hl k1;cases a2;unfold Pr at g2;obtain⟨v,xs,S1,S2,rfl,rfl,q1,q2⟩:=g2;have g1:M7 (K1 N) nn a1=v:=g1;subst g1;obtain⟨a0,a5,hv,a8,_,Y⟩:=aw q1;simp only[Mf]at hv;obtain⟨rfl,rfl,rfl⟩:=hv;rcases Y with⟨e0,_⟩|⟨be,e0,_,Y⟩
    ·cases e0
    ·simp only[pB]at e0;subst e0;split at hr
     ·rename_i z O;split at hr
      ·rename_i g a4;simp only[pB]at hr;subst hr;have E:z.1=T:=pE g;obtain⟨pre,D,L,T1,T2,T3,Z,m2,m3,m4,_⟩:=rZ (λ_ _ _ h=>X9 h) (i:=j.toNat) Aa q2;have e4:l.getD j.toNat (zero t)=l[j.toNat]' Aa:=Ag
       rw[e4]at O;have mk:∀{own:Ow},rd w X W0.B own t l[j.toNat] D T2->Pr w X W0.B t (.u own) l[j.toNat] D T2:=λh=>Aq
       have W:=mk m4;obtain⟨d,A,J,U1,U2,U3,n1,n2,n3,n4,_⟩:=Vf O W;refine Kr rfl λ_=>⟨_,M k4 (vs:=A) Ay ?_,A,by rw[E],?_⟩
       ·intro C g i u hi;have g:=G g;rw[qs hx Ac]at g;refine Bq.cell (show Bq w C from g) ?_;rw[Ld.add_add',<-m3,<-n3];apply Y;have hm:=(L8.1 hi).1;rw[Z,Lu Aa,show pre.length+d.length+i-pre.length=d.length+i from by omega,
         Lt Ag,n1,Lu Aa,show d.length+i-d.length=i from by omega,Lt hm]
        exact hi
       grind[NG,Pr,ez]
      ·rename_i g a4 bl;simp only[pB]at hr;subst hr;have E:z.1=T:=pE g;have bx:=O;obtain⟨pre,D,L,T1,T2,T3,Z,m2,m3,m4,_⟩:=rZ (λ_ _ _ h=>X9 h) (i:=j.toNat) Aa q2;have e4:l.getD j.toNat (zero t)=l[j.toNat]' Aa:=Ag
       rw[e4]at O;have W:Pr w X W0.B t (.u b) l[j.toNat] D T2:=Aq
       obtain⟨d,A,J,U1,U2,U3,n1,n2,n3,n4,_⟩:=Vf O W;have I:∀(i:Nat) u,A[i]? =K1 u->w.cell? (N.add (j.toNat*t.size+Yn t q+i))=K1 u:=λi u hi=>by
        rw[<-m3,<-n3];apply Y;have hm:=(L8.1 hi).1;rw[Z,Lu Aa,show pre.length+d.length+i-pre.length=d.length+i from by omega,
         Lt Ag,n1,Lu Aa,show d.length+i-d.length=i from by omega,Lt hm]
        exact hi
       refine Kr rfl λ_=>⟨_,M k4 (vs:=A) Ay ?_,rfl,λ_ _=>⟨_,t,N,_,_,_,z,A,k1,k2,k3,g3 _ ?_,bx,by rw[E],Kh n4,I⟩⟩
       ·intro C g i u hi;have g:=G g;rw[qs hx Ac]at g;refine Bq.cell (show Bq w C from g) ?_
        grind[Ld.add_add']
       ·rw[SD bl q1];simp[L1]
      ·cases hr
     ·cases hr
   ·rename_i e2 t l hl;have K:s.bad r' p=false:=by
     grind[xK]
    obtain⟨e3,t3,N,nn,a1,k1,k2,k3,k4⟩:=V K;obtain⟨_,a2,_,vs,S,g1,g2,g3⟩:=ET h hl k1;cases a2;obtain⟨v,xs,rfl,q1,q2⟩:=g2;have g1:M7 (K1 N) nn a1=v:=g1;subst g1;obtain⟨a0,a5,hv,a8,_,Y⟩:=aw q1;simp only[Mf]at hv;obtain⟨rfl,rfl,rfl⟩:=hv;rcases Y with⟨e0,_⟩|⟨be,e0,_,Y⟩
    ·cases e0
    ·simp only[pB]at e0;subst e0;split at hr
     ·rename_i z O;split at hr
      ·rename_i g;simp only[pB]at hr;subst hr;have E:z.1=T:=pE g;obtain⟨pre,D,L,T1,T2,T3,Z,m2,m3,m4,_⟩:=rZ (λ_ _ _ h=>X9 h) (i:=j.toNat) Aa q2;have e4:l.getD j.toNat (zero t)=l[j.toNat]' Aa:=Ag
       rw[e4]at O;have W:Pr w X W0.B t (.u .sh) l[j.toNat] D T2:=Aq
       obtain⟨d,A,J,U1,U2,U3,n1,n2,n3,n4,_⟩:=Vf O W;refine Kr rfl λ_=>⟨_,M k4 (vs:=A) Ay ?_,A,by rw[E],?_⟩
       ·intro C g i u hi;have g:=G g;rw[qs hx Ac]at g;refine Bq.cell (show Bq w C from g) ?_;rw[Ld.add_add',<-m3,<-n3];apply Y;have hm:=(L8.1 hi).1;rw[Z,Lu Aa,show pre.length+d.length+i-pre.length=d.length+i from by omega,
         Lt Ag,n1,Lu Aa,show d.length+i-d.length=i from by omega,Lt hm]
        exact hi
       ·rw[NG]at n4;have:=kI (f:=.u .sh) rfl n4
        grind
      ·cases hr
     ·cases hr
   ·cases hr
  ·cases hr
theorem Zvc(h:R n W0 w X F H s a)(ht:tg.ok W0.gh a)(hτ:τ.ok P){e:Lb}{i:Le}(ho:o.op=.indexAddr e x i){r:I8}(hr:OP τ s tg e x i=K1 r):cX P τ W0 w X F s a o r:=by
 unfold OP at hr;split at hr
 ·rename_i k B p hx;split at hr
  ·rename_i C t l V W Y j D E G;have I:=bo h ht G;split at hr
   ·rename_i u J g;split at hr
    ·rename_i b;simp only[pB]at hr;subst hr;have g:=pE g;have b:=pE b;subst g b;refine Kr rfl λd=>?_;have d:0<=j/\j<l.length:=d;obtain⟨rfl,Z,y⟩:=Ji h ht hx Ac;have c:s.bad B p=false:=by
      grind[xK]
     obtain⟨U,K⟩:=y c;obtain⟨_,m,_,vs,S,q,L,g3⟩:=ET h D K;subst m;obtain⟨v,xs,rfl,M,q2⟩:=L;have q:a.eval (.tmp k)=v:=q;obtain⟨a0,f,hv,N,_,z⟩:=aw M;rcases z with⟨_,O,_⟩|⟨A,rfl,y,z⟩
     ·omega
     ·refine⟨.pointer (K1 (A.add (j.toNat*u.size))),λQ _=>?_,rfl,λ_=>⟨C,u,A,l.length,f,?_,d.1,d.2,by simp[Yn]⟩⟩
      ·simp only[execOp,ho,q,hv,I,Lh,I5 (hτ _ _ E) (hτ _ _ J) rfl d.1 d.2 Q,Ln,Lp]
      grind
    ·cases hr
   ·cases hr
  ·cases hr
 ·cases hr
def PJ(h:R n W0 w X F H s a)(ht:tg.ok W0.gh a)(hτ:τ.ok P){e:Lb}{i:Le}(ho:o.op=.indexAddr e x i){r:I8}(hr:UI τ s tg e x i=K1 r):cX P τ W0 w X F s a o r:=by
 unfold UI at hr;split at hr
 ·rename_i n t b;exact Zsh h ht (hτ _ _ b) ho hr
 grind[Zvc,Zsg]
def SR(s:St)(o:TB):Option ((T:Ty)×T.den×St):=
 match xK s o with
 |some ⟨T,f,x⟩=>match rV f T with
  |true=>K1 ⟨T,x,s⟩
  |false=>match o with
   |.tm k (.val _ _ _)=>match s.get (.m k)with
    |.val U _ y=>K1 ⟨T,x,Y7 s k (.val U (.u .sh) y)⟩
    |_=>K2
   |.tm _ (.bor r [])=>match s.get (.m r)with
    |.val U _ y=>K1 ⟨T,x,Y7 s r (.val U (.u .sh) y)⟩
    |_=>K2
   |_=>K2
 |none=>K2
def Bh(s:St)(o:TB):Bool:=match xK s o with
 |some ⟨T,f,_⟩=>rV f T
 |none=>K4
def Qa2{s s':St}{o:TB}{T:Ty}{y:T.den}(hk:SR s o=K1 ⟨T,y,s'⟩)(h:Bh s o=La):s'=s:=by
 unfold SR at hk;unfold Bh at h
 grind
def R.freezeM(hs:g.soft=K4)(h:R n W0 w X F H s a){k:Nat}{T:Ty}{f:Fl}{x:T.den}(hg:s.get (.m k)=.val T f x)(hf:f.live=La):
  R n W0 w (λb=>X b\/b∈F (.m k)) (Q6 F (.m k) []) H (Y7 s k (.val T (.u .sh) x)) a/\ ∃vs,Qw W0.gh a (.m k)=Yh T vs/\rd w (λb=>X b\/b∈F (.m k)) W0.B .sh T x vs []:=by
 have hs:=h.slots (.m k);rw[hg]at hs;obtain⟨vs,Z,h2⟩:=hs;have ab:rd w (λb=>X b\/b∈F (.m k)) W0.B .sh T x vs []:=J3 (λ_ h=>.inl h) hf h2 (λ_ h=>.inr h);have V:=R.give hs (h.takeM hg);have e1:Q6 (Q6 F (.m k) []) (.m k) []=Q6 F (.m k) []:=Ag
 have N:=V.turn (r:=k) (t:=.val T (.u .sh) x) (S':=[]) (H':=H) V.below (Lx _) (λ_ _=>rfl) (λ_ _ _ _=>rfl) (by simp[Q6]) (by simpa using h.pK)
  (by rw[Ye];simp) (λe T f x b S hb=>Ag) ⟨vs,Z,Ak⟩
 rw[e1]at N;have h5:R n W0 w (λb=>X b\/b∈F (.m k)) (Q6 F (.m k) []) H (Y7 s k (.val T (.u .sh) x)) a:=
  {N with
   pM:=λd i A=>by
    obtain⟨o,C⟩:=N.pM d i As;simp_all[Ye]
   slots:=λj=>by
    have c:=N.slots j;have e2:(Y7 (Y7 s k .pR) k (.val T (.u .sh) x)).get j=(Y7 s k (.val T (.u .sh) x)).get j:=As
    rw[e2]at c;have L:∀r,(Y7 s k (.val T (.u .sh) x)).pN r=K4->(Y7 (Y7 s k .pR) k (.val T (.u .sh) x)).pN r=false:=λr A=>by
     simp_all[Y7,St.pN]
    generalize (Y7 s k (.val T (.u .sh) x)).get j=u at c
    induction u with
    |bor r p=>
     refine⟨c.1,λA=>?_⟩;obtain⟨U,W⟩:=c.2 (FY L A);refine⟨U,?_⟩
     grind[X4,Ye]
    |elp r p i q=>
     refine⟨c.1,λA=>?_⟩;obtain⟨e,t,O,M,E,W,z⟩:=c.2 (FY L A);refine⟨e,t,O,M,E,?_,z⟩
     grind[X4,Ye]
    |bel r p i q=>
     refine⟨c.1,λA he=>?_⟩;obtain⟨e,t,O,M,E,x0,y,cs,W,z⟩:=c.2 (FY L A) (L _ he);refine⟨e,t,O,M,E,x0,y,cs,?_,z⟩
     grind[X4,Ye]
    |cl f l=>
     refine⟨c.1,Tb (λr p v P=>?_) c.2⟩;obtain⟨e,G,I,J,b,S',o,C,D⟩:=P;have K:(Y7 (Y7 s k .pR) k (.val T (.u .sh) x)).get (.m r)=(Y7 s k (.val T (.u .sh) x)).get (.m r):=As
     rw[K]at o;exact⟨e,G,I,J,b,S',o,C,D⟩
    |ptr r p=>
     obtain⟨Q,e,G,I,J,b,S',o,C,D⟩:=c;have K:(Y7 (Y7 s k .pR) k (.val T (.u .sh) x)).get (.m r)=(Y7 s k (.val T (.u .sh) x)).get (.m r):=As
     rw[K]at o;exact⟨Q,e,G,I,J,b,S',o,C,D⟩
    |aep r p i=>
     obtain⟨Q,e,G,I,J,b,S',M,t2,y2,o,C,D⟩:=c;have K:(Y7 (Y7 s k .pR) k (.val T (.u .sh) x)).get (.m r)=(Y7 s k (.val T (.u .sh) x)).get (.m r):=As
     rw[K]at o;exact⟨Q,e,G,I,J,b,S',M,t2,y2,o,C,D⟩
    |pls hh l=>
     refine⟨c.1,KG (λ_ h=>h) (λ_ _=>rfl) (λr p v P=>?_) c.2⟩;obtain⟨e,G,I,J,b,S',o,C,D⟩:=P;have K:(Y7 (Y7 s k .pR) k (.val T (.u .sh) x)).get (.m r)=(Y7 s k (.val T (.u .sh) x)).get (.m r):=As
     rw[K]at o;exact⟨e,G,I,J,b,S',o,C,D⟩
    |gd g Y t ih=>
     intro A;obtain⟨o,C,D⟩:=c (L _ A)
     grind[Ye]
    |pR=>exact c
    |tup=>exact c
    |val T f x=>exact c
    |box e T f x=>exact c
    |shp T x=>exact c}
 grind
def Z8g(hs:g.soft=K4)(h:R n W0 w X F H s a)(ht:tg.ok W0.gh a){T:Ty}{y:T.den}{s':St}(hk:SR s (RO s tg x)=K1 ⟨T,y,s'⟩):
  ∃X' F' vs,(∀b,X b->X' b)/\a.eval x=Yh T vs/\rd w X' W0.B .sh T y vs []/\R n W0 w X' F' H s' a:=by
 unfold SR at hk;split at hk
 ·rename_i E f G c;obtain⟨j,vs,S,p,o,I⟩:=lx h ht c;split at hk
  ·rename_i q;simp only[pB,Li]at hk;obtain⟨rfl,hk⟩:=hk;simp only[heq_eq_eq,pF]at hk;obtain⟨rfl,rfl⟩:=hk;have:=kI q o;subst this;exact⟨X,F,vs,λ_ h=>h,p,J3 (λ_ h=>h) j o Ac,h⟩
  ·generalize d:RO s tg x=o1 at hk c;split at hk
   ·rename_i k J K L;split at hk
    ·rename_i U t u i;simp only[pB,Li]at hk;obtain⟨rfl,hk⟩:=hk;simp only[heq_eq_eq,pF]at hk;obtain⟨rfl,rfl⟩:=hk;obtain⟨rfl,_⟩:=Ji h ht d Ac;have v:=(ug d).2.1;have d:=(ug d).2.2;simp only[i,DB]at d;cases d;simp only[xK]at c;split at c
     ·simp only[pB,Li]at c;obtain⟨rfl,c⟩:=c;simp only[heq_eq_eq,pF]at c;obtain⟨rfl,rfl⟩:=c;obtain⟨z,l,A,C⟩:=R.freezeM hs h i j
      grind[Y4]
     ·cases c
    ·cases hk
   ·rename_i k r;obtain⟨_,M,D⟩:=Ji h ht d Ac;split at hk
    ·rename_i U t u i;simp only[pB,Li]at hk;obtain⟨rfl,hk⟩:=hk;simp only[heq_eq_eq,pF]at hk;obtain⟨rfl,rfl⟩:=hk;simp only[xK,i]at c;split at c
     ·cases c
     ·rename_i e;obtain⟨N,m⟩:=D e;unfold X4 at m;rw[i]at m;obtain⟨_,_,hv⟩:=m;split at c
      ·simp only[pB,Li]at c;obtain⟨rfl,c⟩:=c;simp only[heq_eq_eq,pF]at c;obtain⟨rfl,rfl⟩:=c;obtain⟨z,l,A,C⟩:=R.freezeM hs h i j
       grind
      ·cases c
    ·cases hk
   ·cases hk
 ·cases hk
def Qkq(u:List UInt8)(i j:Nat):(ByteArray.mk ⟨u⟩).extract i j=⟨⟨(u.drop i).take (j-i)⟩⟩:=by apply ByteArray.ext;simp_all
def EB(s:St)(tg:Yl)(x:Option Le)(d:Int):Option Int:=
 match x with
 |none=>K1 d
 |some x=>match uH s (RO s tg x)with
  |some (_,j)=>K1 j
  |none=>K2
def Uo(τ:vJ)(s:St)(tg:Yl)(e:Lb)(x:Le)(lo hi:Option Le):Option I8:=
 match τ e with
 |some .str=>match cu s (RO s tg x) .str with
  |some u=>match EB s tg lo 0,EB s tg hi (u.length:Int)with
   |some i,K1 j=>K1 ⟨.val .str (.u .sh) ((u.drop i.toNat).take (j.toNat-i.toNat)),s,K4,K1 (0<=i/\i<=j/\j<=u.length)⟩
   |_,_=>K2
  |none=>K2
 |some (.slice e' t')=>match SR s (RO s tg x)with
  |some ⟨.slice e2 t,l,s'⟩=>match EB s tg lo 0,EB s tg hi (l.length:Int),Lf (t'=t),τ e' with
   |some i,K1 j,La,K1 t2=>match Lf (t2=t)with
    |true=>K1 ⟨.val (.slice e2 t) (.u .sh) ((l.drop i.toNat).take (j.toNat-i.toNat)),s',!Bh s (RO s tg x),K1 (0<=i/\i<=j/\j<=l.length)⟩
    |false=>K2
   |_,_,_,_=>K2
  |_=>K2
 |_=>K2
def xX(h:R n W0 w X F H s a)(ht:tg.ok W0.gh a){x:Option Le}{d:Int}(hb:EB s tg x d=K1 j):(x=K2/\j=d)\/ ∃y k,x=K1 y/\a.eval y=.int k j:=by
 unfold EB at hb;split at hb
 ·simp_all
 ·rename_i y;split at hb
  ·rename_i k i hk;simp only[pB]at hb;subst hb;exact .inr ⟨y,k,rfl,bo h ht hk⟩
  ·cases hb
def O8(isS:Bool)(hlc:len<=cap){lo hi:Option K3}{i:Int}(h0:0<=i)(h1:i<=j)(h2:j<=len)
  (hl:(lo=K2/\i=0)\/ ∃k,lo=K1 (.int k i)) (hh:(hi=K2/\j=len)\/ ∃k,hi=K1 (.int k j)) (w:Lc):
  (Mj isS len cap lo hi K2).run P w=.ok (i.toNat,j.toNat,cap) w:=by
 rcases hl with⟨rfl,rfl⟩|⟨b,rfl⟩<;>rcases hh with⟨rfl,rfl⟩|⟨c,rfl⟩
 ·rfl
 ·have:j<=(cap:Int):=Aa
  simp_all[Mj,Mv,asIntOf]
 ·simp_all[Mj,Mv,asIntOf]
 ·have:j<=(cap:Int):=Aa
  have a:0<=j:=Aa
  simp[Mj,Mv,asIntOf,a,this,h0];intro hh;omega
def ne{α:Type}{r:α->List K3->List Nat->Prop}(hr:∀x v S,r x v S->v.length=sz/\S=[]){l:List α}{j:Nat}(hij:i<=j)(hj:j<=l.length)
  (h:cS r l vs S):∃pre mid post,vs=pre++(mid++post)/\pre.length=i*sz/\cS r ((l.drop i).take (j-i)) mid []/\mid.length=(j-i)*sz:=by
 have split:∀{b c:List α}{vs:List K3}{S:List Nat},cS r (b++c) vs S-> ∃a d,vs=a++d/\cS r b a []/\cS r c d []:=by
  intro b
  induction b with
  |nil=>
   intro c vs S h;have:S=[]:=(iP (r':=λ_ _ _=>True) (λx v S h=>⟨(hr x v S h).2,trivial⟩) h).1;subst this;exact⟨[],vs,rfl,⟨rfl,rfl⟩,h⟩
  |cons x b o=>
   intro c vs S ⟨a,d,S1,S2,e1,e2,h1,k⟩;obtain⟨u1,u2,rfl,f,g⟩:=o k;have:=(hr _ _ _ h1).2;subst this;exact⟨a++u1,u2,by simp[e1],⟨a,u1,[],[],rfl,rfl,h1,f⟩,g⟩
 have e:l=l.take i++((l.drop i).take (j-i)++l.drop j):=by
  have k:l.drop j=(l.drop i).drop (j-i):=Af
  grind[M2]
 rw[e]at h;obtain⟨a,d,rfl,f,g⟩:=split h;obtain⟨p,q,rfl,m,s⟩:=split g;refine⟨a,p,q,rfl,?_,m,?_⟩
 ·rw[XJ (n:=sz) (λx v S h=>(hr x v S h).1) f,M0,Nt Aa]
 ·rw[XJ (n:=sz) (λx v S h=>(hr x v S h).1) m,M0,List.length_drop,Nt Aa]
def Z4g(hs:g.soft=K4)(h:R n W0 w X F H s a)(ht:tg.ok W0.gh a)(hτ:τ.ok P){e:Lb}{hi:Option Le}(ho:o.op=.slice e x lo hi K2){r:I8}(hr:Uo τ s tg e x lo hi=K1 r):zG P n W0 w X H s a o r:=by
 unfold Uo at hr;split at hr
 ·rename_i A;split at hr
  ·rename_i u hu;split at hr
   ·rename_i i j f m;simp only[pB]at hr;subst hr;have e1:=Tk h ht hu;refine zD h rfl λB=>⟨_,?_,Dg _⟩
    obtain⟨C,D,E⟩:0<=i/\i<=j/\j<=u.length:=B;have G:=O8 (P:=P) K4 (len:=u.length) (cap:=u.length) (Lx _) (lo:=lo.map a.eval) (hi:=hi.map a.eval) C D E
     ((xX h ht f).imp (λ⟨b,c⟩=>⟨by simp[b],c⟩) λ⟨y,k,b,c⟩=>⟨k,by simp[b,c]⟩)
     ((xX h ht m).imp (λ⟨b,c⟩=>⟨by simp[b],c⟩) λ⟨y,k,b,c⟩=>⟨k,by simp[b,c]⟩) w
    simp only[execOp,ho,e1,Lh,Mu,run_underlying (hτ _ _ A).str,Ln,Mt,M5,Sq,Lp];simp[G,Qkq]
   ·cases hr
  ·cases hr
 ·rename_i e' t' A;split at hr
  ·rename_i e2 t l s' W;split at hr
   ·rename_i i j z f m hd I;split at hr
    ·rename_i J;simp only[pB]at hr;subst hr;have L:t'=t:=pE hd;have M:z=t:=pE J;subst L;subst M;obtain⟨X',F',vs,hX,b,c,h3⟩:=Z8g hs h ht W;obtain⟨v,xs,S1,S2,rfl,hS,k1,k2⟩:=c;intro B K Q hK;obtain⟨C,D,E⟩:0<=i/\i<=j/\j<=l.length:=B;obtain⟨ar,Y,N,cap,rfl,O,au,Z⟩:=k1;have G:=O8 (P:=P) La (len:=l.length) (cap:=cap) O (lo:=lo.map a.eval) (hi:=hi.map a.eval) C D E
      ((xX h ht f).imp (λ⟨b,c⟩=>⟨by simp[b],c⟩) λ⟨y,k,b,c⟩=>⟨k,by simp[b,c]⟩)
      ((xX h ht m).imp (λ⟨b,c⟩=>⟨by simp[b],c⟩) λ⟨y,k,b,c⟩=>⟨k,by simp[b,c]⟩) w
     have hx:a.eval x=.slice N l.length cap:=b;have p:(execOp a.eval o).run P w=.ok (.value (.slice (ite (cap=i.toNat) N (N.map (·.add (i.toNat*z.size)))) (j.toNat-i.toNat) (cap-i.toNat))) w:=by
      simp only[execOp,ho,hx,Lh,Mu,run_underlying (hτ _ _ A).slice.1,Ln,Mt,M5,G,(hτ _ _ I).sizeOf w,Lp]
     unfold Lr;rw[p];refine hK _ X' F' [] w hX h3 ⟨[_],rfl,?_⟩ (λhm=>Qa2 W (by simpa using hm)) ⟨λ_=>Bq.refl w,h.kept (Bq.refl w)⟩;unfold Pr;obtain⟨pre,U,ab,m1,m2,m3,m4⟩:=ne (sz:=z.size) (i:=i.toNat) (j:=j.toNat) (λx v S h=>⟨X9 h,kJ h⟩) Aa Aa k2;have d:((l.drop i.toNat).take (j.toNat-i.toNat)).length=j.toNat-i.toNat:=Ae
     refine⟨_,U,[],[],rfl,rfl,⟨rfl,by rw[m4,d],_,_,by rw[d],by rw[d];omega,Aa,?_⟩,m3⟩;rcases Z with⟨rfl,a1,rfl⟩|⟨ad,rfl,a2,Z⟩
     ·grind
     ·by_cases V:cap=i.toNat
      ·grind
      ·refine .inr ⟨ad.add (i.toNat*z.size),by simp[V],?_,λq u hq=>?_⟩
       ·grind[Lj]
       ·rw[Ld.add_add',<-m2]
        grind
    ·cases hr
   ·cases hr
  ·cases hr
 ·cases hr
variable {H':List Nat}
def R.sub(h:R n W0 w X F H s a)(hin:∀b∈H',b∈H)(hn:H'.Nodup):R n W0 w X F H' s a:=
 {h with
  hown:=λb c=>h.hown b (hin b c)
  pK:=hn
  pL:=λk b c d=>h.pL k b c (hin b d)}
theorem hold(w:Lc)(ob:Obj)(b:Nat)(h:b<w.heap.size):(w.alloc ob).heap[b]? =w.heap[b]? :=by
 show(w.heap.push ob)[b]? =w.heap[b]?
 grind
theorem qX(w:Lc)(ob:Obj):(w.alloc ob).heap[w.heap.size]? =K1 ob:=by show(w.heap.push ob)[w.heap.size]? =_;simp
def R.alloc(h:R n W0 w X F H s a)(ob:Obj):R n W0 (w.alloc ob) X F (w.heap.size::H) s a:=by
 have d:∀b,b<w.heap.size->(w.alloc ob).heap[b]? =w.heap[b]? :=λb c=>hold w ob b c;have f:=h.world (w':=w.alloc ob) (h.below.step ((Below.refl _ w).alloc (Lx _) ob)) Ac (λb c=>d b (h.xlt b c)) (λk b c=>d b (h.own k b c).2.1);exact f.hand (S:=[w.heap.size]) (by
   intro b c;simp only[M1]at c;subst c;exact⟨h.below.new,Ac,λhx=>M3 _ (h.xlt _ hx)⟩) Ac
  (by intro k b c e;simp only[M1]at e;subst e;exact M3 _ (h.own k _ c).2.1)
  (by intro b c e;simp only[M1]at c;subst c;exact M3 _ (h.hown _ e).2.1)
def Qjo{T:Ty}{f:Fl}{x:T.den}(h:Pr w X B T f x vs S)(hX:∀b,X b->b<w.heap.size)(hS:∀b∈S,b<w.heap.size)(ob:Obj):Pr (w.alloc ob) X B T f x vs S:=vv (λ_ h=>h) (λb a=>hold w ob b (hX b a)) h (λb a=>hold w ob b (hS b a))
def DH{T:Ty}(h:T.plain=La):∀u∈Jk T,u.oneCell'=true:=kd (w:=default) (X:=λ_=>False) (B:=0) (own:=.sh) (JL h)
def zF{T:Ty}(h:T.plain=La):(Jk T).length=T.size:=X9 (w:=default) (X:=λ_=>False) (B:=0) (own:=.sh) (JL h)
theorem OE{T:Ty}(h1:∀u∈vs,u.oneCell'=La)(hl:vs.length=T.size):(Yh T vs).cells=vs.toArray:=by grind[RU]
def zY{T:Ty}(h:T.plain=La):(Yh T (Jk T)).cells=(Jk T).toArray:=OE (DH h) (zF h)
def gX(s:St)(x:Le)(i:Nat):Option I8:=
 match x with
 |.tmp t=>match L4 t 1048576 with
  |false=>K2
  |true=>match s.get (.c t i)with
   |.val T f y=>match f.live,rV f T with
    |true,La=>K1 ⟨.val T f y,s,K4,K2⟩
    |true,K4=>K1 ⟨.val T f y,{s with env:=(.c t i,.pR)::s.env},La,K2⟩
    |_,_=>K2
   |_=>K2
 |_=>K2
def TS{t:Nat}{u:Tm}:∀{z:Tm},vt gh w X B s F a v S z->vt gh w X B {s with env:=(.c t i,u)::s.env} (Q6 F (.c t i) S0) a v S z:=by
 have g:∀r,St.get {s with env:=(A4.c t i,u)::s.env} (.m r)=s.get (.m r):=λr=>by rfl
 have C:∀r,Q6 F (.c t i) S0 (.m r)=F (.m r):=λr=>by simp[Q6]
 have E:∀{r p v U},X4 gh w s F a r p v U->X4 gh w {s with env:=(A4.c t i,u)::s.env} (Q6 F (.c t i) S0) a r p v U:=by
  grind[X4]
 intro z h
 induction z with
 |pR=>exact h
 |tup=>exact h
 |val T f x=>exact h
 |box e T f x=>exact h
 |shp T x=>exact h
 |ptr r p=>
  obtain⟨D,e,T,f,x,b,k,d,j,o⟩:=h;exact⟨D,e,T,f,x,b,k,by rw[g];exact d,by rw[C];exact j,o⟩
 |aep r p i=>
  obtain⟨D,e,T,f,x,b,k,n,I,y,d,j,o⟩:=h;exact⟨D,e,T,f,x,b,k,n,I,y,by rw[g];exact d,by rw[C];exact j,o⟩
 |bor r p=>exact⟨h.1,λA=>let⟨U,hU⟩:=h.2 A;⟨U,E hU⟩⟩
 |elp r p i q=>exact⟨h.1,λA=>let⟨e,t,ad,nn,cap,hU,rest⟩:=h.2 A;⟨e,t,ad,nn,cap,E hU,rest⟩⟩
 |pls M l=>
  refine⟨h.1,KG (λ_ h=>h) (λ_ _=>rfl) (λr p v G=>?_) h.2⟩;obtain⟨e,T,f,x,b,k,d,j,o⟩:=G;exact⟨e,T,f,x,b,k,by rw[g];exact d,by rw[C];exact j,o⟩
 |bel r p i q=>exact⟨h.1,λA J=>let⟨e,t,ad,nn,cap,x0,y,cs,hU,k1,k2,k3,rest⟩:=h.2 A J;⟨e,t,ad,nn,cap,x0,y,cs,E hU,k1,k2,by rw[C];exact k3,rest⟩⟩
 |cl f l=>
  refine⟨h.1,Tb (λr p v G=>?_) h.2⟩;obtain⟨e,T,f,x,b,k,d,j,o⟩:=G;exact⟨e,T,f,x,b,k,by rw[g];exact d,by rw[C];exact j,o⟩
 |gd N H t K=>exact λA=>let⟨D,d,j⟩:=h A;⟨by rw[g];exact D,λL=>K (d L),j⟩
def R.takeC(h:R n W0 w X F H s a){t:Nat}:R n W0 w X (Q6 F (.c t i) []) (F (.c t i)++H) {s with env:=(.c t i,.pR)::s.env} a where
 size:=h.size
 defers:=h.defers
 below:=h.below
 glob:=h.glob
 gx:=h.gx
 xs:=h.xs
 fix:=h.fix
 xlt:=h.xlt
 xin:=h.xin
 x0:=h.x0
 own:=λk b f=>by
  simp only[Q6]at f;split at f
  ·cases f
  ·exact h.own k b f
 nodup:=λk=>by
  simp only[Q6];split
  ·simp
  ·exact h.nodup k
 pS:=λk o b f g=>by
  simp only[Q6]at f g;split at f
  ·cases f
  ·split at g
   ·cases g
   ·exact h.pS k o b f g
 hown:=λb f=>(Lm.1 f).elim (h.own _ b) (h.hown b)
 pK:=Lg.2 ⟨h.nodup _,h.pK,λx hx y p e=>h.pL _ x hx (by rw[e];exact p)⟩
 pL:=λk b f l=>by
  simp only[Q6]at f;split at f
  ·cases f
  ·rename_i hk;exact(Lm.1 l).elim (λl=>hk (h.pS _ _ b f l)) (h.pL k b f)
 pM:=λd j m=>by
  simp only[St.get,Qd]at m⊢;split at m
  ·simp_all
  ·simpa[St.get]using h.pM d j m
 slots:=λk=>by
  by_cases hk:k=.c t i
  ·simp_all[St.get,Qd,vt]
  ·have q:St.get {s with env:=(A4.c t i,Tm.pR)::s.env} k=s.get k:=by simp[St.get,Qd,L0 hk]
   have r:Q6 F (.c t i) [] k=F k:=by simp[Q6,hk]
   rw[q,r];exact TS (h.slots k)
theorem Zu7(h:R n W0 w X F H s a)(ho:o.op=.extract x i){r:I8}(hr:gX s x i=K1 r):zG P n W0 w X H s a o r:=by
 unfold gX at hr;split at hr
 ·rename_i t;split at hr
  ·cases hr
  rename_i l;split at hr
  ·rename_i T f y e;have g:=h.slots (.c t i);rw[e]at g;obtain⟨j,k,d⟩:=g;obtain⟨_,m,u,v⟩:=h.pM t i (by rw[e];simp);have hv:m[i]? =K1 (Qw W0.gh a (.c t i)):=by
    simp_all[Qw]
   have b:(execOp a.eval o).run P w=.ok (.value (Qw W0.gh a (.c t i))) w:=by
    simp_all[Y4,execOp,Instr.extract]
   split at hr
   ·rename_i p;simp only[pB]at hr;subst hr;have:=kI p d;rw[this]at d;exact zD h rfl λ_=>⟨_,b,j,k,d⟩
   ·simp only[pB]at hr;subst hr;intro _ K Q q;unfold Lr;rw[b];exact q _ X _ (F (.c t i)) w (λ_ h=>h) h.takeC ⟨j,k,d⟩ Ac ⟨λ_=>Bq.refl w,h.kept (Bq.refl w)⟩
   ·cases hr
  ·cases hr
 ·cases hr
def Hv(τ:vJ)(s:St)(e:Lb):Option I8:=
 match τ e with
 |some T=>K1 ⟨.box e T (.u .ow) (zero T),s,K4,K2⟩
 |none=>K2
def Z1a(h:R n W0 w X F H s a)(hτ:τ.ok P){e:Lb}(ho:o.op=.alloc e){r:I8}(hr:Hv τ s e=K1 r):zG P n W0 w X H s a o r:=by
 unfold Hv at hr;split at hr
 ·rename_i T c;simp only[pB]at hr;subst hr;intro _ K Q d;obtain⟨i,f,_,_,g⟩:=(hτ _ _ c).size;have b:(execOp a.eval o).run P w=.ok (.value (.pointer (K1 ⟨w.heap.size,0,K2⟩))) (w.alloc (.cells (Jk T).toArray e)):=by
   simp[execOp,ho,Instr.alloc,zeroValue,typeInfo,f,g,newVar,newRow,zY (hτ _ _ c).plain]
  unfold Lr;rw[b];exact d _ X F [w.heap.size] _ (λ_ h=>h) (h.alloc _) ⟨w.heap.size,_,[],rfl,rfl,qX _ _,by unfold Pr;exact JL (hτ _ _ c).plain⟩ (λ_=>rfl) ⟨λ_=>Bq.alloc _ _,h.kept (Bq.alloc _ _)⟩
 ·cases hr
def vV(τ:vJ)(s:St)(tg:Yl)(e:Lb)(x:Le):Option I8:=
 match τ e with
 |some T=>match xB s (RO s tg x) T with
  |some t=>K1 ⟨.box e t.T t.f t.x,t.s,t.moved,K2⟩
  |none=>K2
 |none=>K2
theorem Z7q(h:R n W0 w X F H s a)(ht:tg.ok W0.gh a){e:Lb}(ho:o.op=.box e x){r:I8}(hr:vV τ s tg e x=K1 r):zG P n W0 w X H s a o r:=by
 unfold vV at hr;split at hr
 ·rename_i T p;split at hr
  ·rename_i t hk;simp only[pB]at hr;subst hr;obtain⟨_,g,S,d,q,i,f,j,_⟩:=cP h ht hk;intro _ K Q k;have u:(a.eval x).cells=d.toArray:=by
    grind[OE,nA,Kh]
   have c:(execOp a.eval o).run P w=.ok (.value (.pointer (K1 ⟨w.heap.size,0,K2⟩))) (w.alloc (.cells d.toArray e)):=by
    simp_all[execOp,Instr.box,newVar,newRow]
   unfold Lr;rw[c];refine k _ X g (w.heap.size::S) _ (λ_ h=>h) (f.alloc _) ⟨w.heap.size,_,S,rfl,rfl,qX _ _,?_⟩ (λl=>(j l).1) ⟨λ_=>Bq.alloc _ _,h.kept (Bq.alloc _ _)⟩;exact Qjo i h.xlt (λb m=>(f.hown b (by simp[m])).2.1) _
  ·cases hr
 ·cases hr
def H4(off:Nat):∀(ls:List K3)(k:Nat)(arr:Array K3)(A M C:List K3),arr.toList=A++(M++C)->A.length=off+k->M.length=ls.length->
  ((ls.zipIdx k).foldl (λcs (x:K3×Nat)=>cs.setIfInBounds (off+x.2) x.1) arr).toList=A++(ls++C)
 |[],k,arr,A,M,C,h,_,a=>by
  simp_all
 |v::ls,k,arr,A,M,C,h,b,a=>by
  cases M with
  |nil=>simp at a
  |cons m M=>
   simp only[List.zipIdx_cons,Nk];have:=H4 off ls (k+1) (arr.setIfInBounds (off+k) v) (A++[v]) M C (by
    simp_all) (by simp[b];omega) (by simpa using a)
   rw[this];simp
def zJ{place:Nat->Option (Nat×Nat)}{cs:Array K3}{size:Nat}{rest:List (Nat×K3)}{pre:List K3}(hp:place i=K1 (off,size))
  (hcs:cs.toList=pre++(mid++post)) (hoff:pre.length=off) (hmid:mid.length=size) (hv:v.cells.size=size):
  ∃cs',cs'.toList=pre++(v.cells.toList++post)/\L7 place cs ((i,v)::rest)=L7 place cs' rest:=by
 have a:cs.size=pre.length+(mid.length+post.length):=by grind[Array.length_toList]
 refine⟨v.cells.zipIdx.foldl (λcs (x:K3×Nat)=>cs.setIfInBounds (off+x.2) x.1) cs,?_,?_⟩
 ·have:=H4 off v.cells.toList 0 cs pre mid post hcs Aa Af;rw[<-this];congr 1;rw[<-Array.foldl_toList];simp
 simp_all[L7,if_neg]
def NH(tg:Yl):List (Nat×Le)->(T:Ty)->Fl->T.den->St->Bool->Option (Fl×T.den×St×Bool)
 |[],_,f,x,s,mv=>K1 (f,x,s,mv)
 |(i,y)::r,T,f,x,s,mv=>match UL T i with
  |some U=>match xB s (RO s tg y) U with
   |some t=>match xT T x i ⟨t.T,t.x⟩with
    |some x'=>NH tg r T (xo f i t.f) x' t.s (mv||t.moved)
    |none=>K2
   |none=>K2
  |none=>K2
def MG(ht:tg.ok W0.gh a){place:Nat->Option (Nat×Nat)}:∀{parts:List (Nat×Le)}{T:Ty}{f:Fl}{x:T.den}{s:St}{mv:Bool}{f':Fl}{x':T.den}{s':St}{mv':Bool}{F:A4->List Nat}{S:List Nat}{cs:Array K3},
  (∀i U,UL T i=K1 U->place i=K1 (jz T i,U.size))->R n W0 w X F (S++H) s a->Pr w X W0.B T f x cs.toList S->NH tg parts T f x s mv=K1 (f',x',s',mv')->
  ∃F' S' cs',L7 place cs (parts.map λp=>(p.1,a.eval p.2))=K1 cs'/\R n W0 w X F' (S'++H) s' a/\Pr w X W0.B T f' x' cs'.toList S'/\(mv'=K4->s'=s)
 |[],T,f,x,s,mv,f',x',s',mv',F,S,cs,_,k,d,b=>by
  simp only[NH,pB,pF]at b;obtain⟨rfl,rfl,rfl,rfl⟩:=b;exact⟨F,S,cs,rfl,k,d,λ_=>rfl⟩
 |(i,y)::r,T,f,x,s,mv,f',x',s',mv',F,S,cs,e,k,d,b=>by
  simp only[NH]at b;split at b
  ·rename_i U q;split at b
   ·rename_i t hk;split at b
    ·rename_i D g;obtain⟨l,E,u,G,I,m,v,h4,_⟩:=cP k ht hk;subst l;obtain⟨z,J⟩:=Qlr (x:=x) q;obtain⟨pre,K,A,L,S2,M,N,O,m3,P,Q⟩:=Du J d;have c:=RU (nA m) (Kh m);have h:(a.eval y).cells.size=t.T.size:=by grind[Array.length_toList,Kh]
     obtain⟨V,C,g2⟩:=zJ (rest:=r.map λp=>(p.1,a.eval p.2)) (e i _ q) N m3 (Kh P) h;rw[I,c]at C;have qX:=Q t.f ⟨t.T,t.x⟩ G u D g m;rw[<-C]at qX;have o:R n W0 w X E ((L++(u++M))++H) t.s a:=by
      refine v.sub ?_ ?_
      ·grind
      ·have:=v.pK;rw[O]at this;simp only[Lg,Lm]at this⊢
       grind
     obtain⟨F',S',cs',k1,W,Y,k4⟩:=MG ht e o qX b;refine⟨F',S',cs',Af,W,Y,λZ=>?_⟩;have ab:(mv||t.moved)=false:=by
      have j:∀{r:List (Nat×Le)}{T:Ty}{f:Fl}{x:T.den}{s:St}{mv:Bool} {f' x' s' mv'},NH tg r T f x s mv=K1 (f',x',s',mv')->mv'=K4->mv=false:=by
       intro r
       induction r with
       |nil=>simp_all[NH]
       |cons p r ih=>
        grind[NH]
      exact j b Z
     simp_all
    ·cases b
   ·cases b
  ·cases b
def UQ(τ:vJ)(s:St)(tg:Yl)(e:Lb)(parts:Array (Nat×Le)):Option I8:=
 match τ e with
 |some T=>match T.isStruct with
  |true=>match NH tg parts.toList T (.u .ow) (zero T) s K4 with
   |some (f,x,s',mv)=>K1 ⟨.val T f x,s',mv,K2⟩
   |none=>K2
  |false=>K2
 |none=>K2
def Uh{fs:List Field}{w:Lc}:∀{T:Ty}{off:Nat},uu P fs T off=La->
  ∃ps:List (Nat×Nat),(fs.mapM λf=>(M6 f.offset<$>Ls f.type:Sem (Nat×Nat))).run P w=.ok ps w/\ ∀i U,UL T i=K1 U->ps[i]? =K1 (off+jz T i,U.size):=by
 induction fs with
 |nil=>
  intro T off h;cases T<;>simp[uu]at h
  simp_all[UL]
 |cons f fs e=>
  intro T off h;cases T<;>simp only[uu]at h<;>first|cases h|skip
  rename_i a b;simp only[pC,Mo]at h;obtain⟨⟨⟨g,k⟩,m⟩,l⟩:=h;obtain⟨ps,n,o⟩:=e l;obtain⟨j,p,c,_⟩:=v7 k;refine⟨(f.offset,j.size)::ps,?_,?_⟩
  ·simp_all[Ls,typeInfo]
  ·intro i U d;cases i with
   |zero=>simp only[UL,pB]at d;subst d;simp[jz,pD g,c]
   |succ i=>grind[UL,jz]
def Z1k(h:R n W0 w X F H s a)(ht:tg.ok W0.gh a)(hτ:τ.ok P){e:Lb}(ho:o.op=.build e parts){r:I8}(hr:UQ τ s tg e parts=K1 r):zG P n W0 w X H s a o r:=by
 unfold UQ at hr;split at hr
 ·rename_i T g;split at hr
  ·rename_i b;split at hr
   ·rename_i f x I J p;simp only[pB]at hr;subst hr;obtain⟨q,t,j⟩:=(hτ _ _ g).struct b;obtain⟨i,v,_,_,y⟩:=(hτ _ _ g).size;obtain⟨l,L,M⟩:=Uh (P:=P) (w:=w) j;have k:Pr w X W0.B T (.u .ow) (zero T) (Jk T).toArray.toList []:=by unfold Pr;exact JL (hτ _ _ g).plain
    obtain⟨z,A,c,N,C,D,E⟩:=MG (H:=H) (S:=[]) ht (place:=(l.toArray[·]?)) (λi U O=>Af) (by simpa using h) k p;intro _ K Q G;have m:(q.mapM λf=>(M6 f.offset<$>Ls f.type:Sem (Nat×Nat))).run P w=.ok l.toArray w:=by
     simp_all[Array.mapM_eq_mapM_toList]
    have d:(execOp a.eval o).run P w=.ok (.value (.agg c)) w:=by
     simp only[execOp,ho,Lh,Mr,zeroValue,typeInfo,Lp,run_underlying t,Ln];simp[v,y,zY (hτ _ _ g).plain];simp_all
    unfold Lr;rw[d];refine G _ X z A w (λ_ h=>h) C ⟨c.toList,?_,D⟩ E ⟨λ_=>Bq.refl w,h.kept (Bq.refl w)⟩;cases T<;>simp[Ty.isStruct]at b<;>simp[Yh]
   ·cases hr
  ·cases hr
 ·cases hr
def OH:∀{T:Ty}{x:T.den}{i:Nat}{y:TV},fld T x i=K1 y->jz T i+y.1.size<=T.size
 |.pair a b,x,0,y,h=>by simp only[fld,pB]at h;subst h;simp[jz,Ty.size]
 |.pair a b,x,i+1,y,h=>by
  simp only[fld]at h;have:=OH h
  grind[jz,Ty.size]
def LX:∀{T:Ty}{x:T.den}{i j:Nat}{u v:TV},fld T x i=K1 u->fld T x j=K1 v->i<j->jz T i+u.1.size<=jz T j
 |.pair a b,x,0,j+1,u,v,h,_,_=>by simp only[fld,pB]at h;subst h;simp[jz]
 |.pair a b,x,i+1,j+1,u,v,h,c,d=>by
  simp only[fld]at h c;have:=LX h c Aa
  grind[jz]
def Gt:∀{p:List Nat}{T:Ty}{x:T.den}{y:TV},ap T x p=K1 y->Yn T p+y.1.size<=T.size
 |[],T,x,y,h=>by grind[ap,Yn]
 |i::p,T,x,y,h=>by
  simp only[ap]at h;split at h
  ·rename_i z a;have b:=Gt h;have c:=OH a
   grind[Yn,D7]
  ·cases h
theorem BX:∀{T:Ty}{x x':T.den}{i j:Nat}{y:TV},xT T x i y=K1 x'->j≠i->fld T x' j=fld T x j
 |.pair a b,x,x',0,j,y,h,c=>by
  simp only[xT,Mq]at h;obtain⟨z,_,rfl⟩:=h;cases j with
  |zero=>omega
  |succ j=>rfl
 |.pair a b,x,x',i+1,j,y,h,c=>by
  simp only[xT,Mq]at h;obtain⟨z,d,rfl⟩:=h;cases j with
  |zero=>rfl
  |succ j=>exact BX (T:=b) d Aa
theorem FM{T:Ty}{x x':T.den}{j:Nat}{y:TV}(h:v6 T x (i::p) y=K1 x')(hj:j≠i):ap T x' (j::q)=ap T x (j::q):=by grind[v6,ap,BX]
theorem Z75{α:Type}{pre mid vs post:List α}{k:Nat}(hl:mid.length=vs.length)(hk:k+m<=pre.length\/pre.length+mid.length<=k):((pre++(vs++post)).drop k).take m=((pre++(mid++post)).drop k).take m:=by
 apply Mx
 grind
def Fk(s:St)(r:Nat)(p:List Nat)(t:Tm):St:=
 match p with
 |[]=>Y7 s r t
 |i::_=>FP s r i t
def Za0(s:St)(r:Nat)(p:List Nat)(f:Fl)(y:TV):Option St:=
 match s.get (.m r)with
 |.box e U g z=>match ap U z p with
  |some u=>match Lf (u.1=y.1),v6 U z p y with
   |true,K1 z'=>K1 (Fk s r p (.box e U (Vz g p f) z'))
   |_,_=>K2
  |none=>K2
 |_=>K2
def R.setRoot(h:R n W0 w X F H s a){r:Nat}{f:Fl}{y:TV}{s':St}(hs:Za0 s r p f y=K1 s')(hH:H=S++H')
  (hv:Pr w X W0.B y.1 f y.2 vs S)  (hb:∃S0,F (.m r)=b::S0) {e:Lb}{U:Ty}{g:Fl}{z:U.den} (hg:s.get (.m r)=.box e U g z):
  ∃w' F',(storeCells ⟨b,Yn U p,K2⟩ vs).run P w=.ok () w'/\R n W0 w' X F' H' s' a/\ ∀k,k≠b->w'.heap[k]? =w.heap[k]? :=by
 unfold Go.Am.Za0 at hs;rw[hg]at hs;simp only at hs;split at hs
 ·rename_i u hu;split at hs
  ·rename_i z' hd hz;simp only[pB]at hs;subst hs;have E:=h.slots (.m r);rw[hg]at E;obtain⟨l,c,S',l1,l2,N,l4⟩:=E;obtain⟨S0,O⟩:=hb;rw[O]at l2;obtain⟨rfl,rfl⟩:=Lv l2;have V:u.1=y.1:=pE hd;have t:b∈F (.m r):=by rw[O];simp
   have W:∀k l,k≠A4.m r->l∈F k->l≠b:=λk l hk o e=>hk (h.pS k (.m r) l o (by rw[e];exact t));have Y:∀l∈H,l≠b:=λl o e=>h.pL (.m r) b t Af;generalize Z:(c.toList.take (Yn U p+0)++vs++c.toList.drop (Yn U p+0+vs.length)).toArray=cc;have d:∀k,k≠b->(w.setRow b cc).heap[k]? =w.heap[k]? :=λk hk=>setRow_other w b k _ hk;have ab:Pr (w.setRow b cc) X W0.B U g z c.toList S0:=
    vv (λ_ h=>h) (λl o=>d l λe=>(h.own _ b t).2.2 Af) l4
     (λl o=>d l λe=>by
      have:=h.nodup (.m r);simp_all)
   have au:Pr (w.setRow b cc) X W0.B y.1 f y.2 vs S:=
    vv (λ_ h=>h) (λl o=>d l λe=>(h.own _ b t).2.2 Af) hv (λl o=>d l (Y l Af))
   obtain⟨pre,G,A,I,S2,J,m1,m2,m3,m4,m5⟩:=Vf hu ab;have ar:G.length=vs.length:=by rw[Kh m4,Kh hv,V]
   have a0:c.size=pre.length+(G.length+A.length):=Ag
   have K:=run_storeCells_at P b (Yn U p) e vs 0 c w N Aa (nA hv);rw[Z]at K;have e1:cc=(pre++(vs++A)).toArray:=by
    grind
   have L:=h.nodup (.m r);rw[O,m2]at L;have ad:W0.below (w.setRow b cc):=
    ⟨h.below.os,h.below.tape,h.below.output,by simpa[Mb]using h.below.size,λk hk=>(d k (W0.sep hk (h.own _ b t).1)).trans (h.below.block k hk)⟩
   refine⟨w.setRow b cc,Q6 F (.m r) (b:: (I++(S++J))),K,?_,d⟩;have hT:Td W0.gh w (w.setRow b cc) s (Fk s r p (.box e U (Vz g p f) z')) F (Q6 F (.m r) (b:: (I++(S++J)))) a r (.box e U (Vz g p f) z'):=by
    cases p with
    |nil=>exact Pi
    |cons i p=>
     refine Qfl Ac λj q v U' hj hv=>?_;unfold X4 at hv⊢;rw[hg]at hv;rw[BU];simp only[if_true];obtain⟨b2,c2,a3,y2,k1,k2,Q,k4,k5⟩:=hv;rw[O]at k1;obtain⟨rfl,_⟩:=Lv k1;rw[N]at k2;simp only[pB,L9]at k2;obtain⟨rfl,_⟩:=k2;refine⟨b,cc,I++(S++J),y2,by simp[Q6],setRow_heap w b c _ e _ N,by grind[FM],k4,?_⟩;rw[k5,e1,m1];congr 1;have ho:∀{u':TV},ap U z (i::p)=K1 u'->Yn U (j::q)+y2.1.size<=Yn U (i::p)\/Yn U (i::p)+u'.1.size<=Yn U (j::q):=λ{u'} x=>by
      simp only[ap]at x Q;split at x
      ·rename_i a1 C;split at Q
       ·rename_i a2 D;have g1:=Gt x;have g2:=Gt Q;simp only[Yn,D7 C,D7 D];rcases Nat.lt_or_gt_of_ne hj with hlt|hlt
        ·have:=LX D C hlt;omega
        ·have:=LX C D hlt;omega
       ·cases Q
      ·cases x
     grind[Kh,Z75]
   refine h.turn' hT ad Af (λl o=>d l λe=>(h.own _ b t).2.2 Af)
    (λk l hk o=>d l (W k l hk o)) ?_ ?_ (by rw[hg];simp) ?_ ⟨b,_,I++(S++J),l1,rfl,setRow_heap w b c _ e _ N,?_⟩
   ·grind
   ·have hn:=h.pK;rw[hH]at hn;have M:∀q,q∈b:: (I++(S2++J))->q∉S++H':=λq hq=>by rw[<-hH];exact h.pL (.m r) q Af
    simp only[Lg,Np,Lm,Nm,List.cons_append]at hn L M⊢
    grind
   all_goals grind
  ·cases hs
 ·cases hs
def Fl.allU(b:Ow):Fl->Bool|.u c=>c.le b|.p f g=>f.allU b&&g.allU b|.d=>K4
def AZ{b:Ow}:∀{T:Ty}{f:Fl}{x:T.den}{vs:List K3}{S:List Nat},f.allU b=La->Pr w X B T f x vs S->rd w X B b T x vs S
 |T,.d,_,_,_,h,_=>by simp[Fl.allU]at h
 |T,.u c,_,_,_,h,i=>by
  grind[Pr,D6,Fl.allU]
 |.pair a s,.p f g,_,_,_,h,⟨j,k,l,m,n,o,q,r⟩=>by
  simp only[Fl.allU,pC]at h;exact⟨j,k,l,m,n,o,AZ h.1 q,AZ h.2 r⟩
 |.slice e t,.p f g,_,_,_,h,i=>by
  obtain⟨rfl,rfl,_⟩:=nB i
  grind[Fl.allU,Ow.le]
 |.unit,.p ..,_,_,_,_,h|.int _,.p ..,_,_,_,_,h|.bool,.p ..,_,_,_,_,h|.fnc _,.p ..,_,_,_,_,h|.str,.p ..,_,_,_,_,h|.err,.p ..,_,_,_,_,h|.hid _,.p ..,_,_,_,_,h|.sptr ..,.p ..,_,_,_,_,h|.clo ..,.p ..,_,_,_,_,h|.arr ..,.p ..,_,_,_,_,h=>by simp[Pr]at h
def Qjv{b:Ow}:∀{f g:Fl}(i:Nat),f.allU b=La->g.allU b=La->(xo f i g).allU b=true:=by
 intro f;have e:∀(f g:Fl)(i:Nat),f.allU b=La->g.allU b=La->(∀a c,f≠ .p a c)->(xo f i g).allU b=true:=by
  intro f g i h j k
  induction i with
  |zero=>simp_all[xo,Fl.allU]
  |succ i n=>simp_all[xo,Fl.allU]
 induction f with
 |u c=>simp_all
 |d=>simp_all
 |p x y l m=>
  intro g i h j;simp only[Fl.allU,pC]at h;cases i with
  |zero=>simp_all[xo,Fl.allU]
  |succ i=>simp_all[xo,Fl.allU]
def Qir{b:Ow}:∀{f:Fl}(i:Nat),f.allU b=La->(ZD f i).allU b=true:=by
 intro f
 induction f with
 |u c=>intro i h;cases i<;>exact h
 |d=>simp_all[Fl.allU]
 |p x y e a=>
  intro i h;simp only[Fl.allU,pC]at h;cases i with
  |zero=>exact h.1
  |succ i=>exact a i h.2
def EE{b:Ow}:∀{f g:Fl},f.allU b=La->g.allU b=La-> ∀p:List Nat,(Vz f p g).allU b=La
 |_,_,_,a,[]=>a
 |_,_,c,a,i::p=>Qjv i c (EE (Qir i c) a p)
def yr:Fl->Option Ow|.u .ow=>K1 .ow|.p (.u .ow) (.u .sh)=>K1 .sh|_=>K2
def Ol(w:Lc)(X:Nat->Prop)(B:Nat)(ho eo:Ow)(e:Lb)(t:Ty)(l:List t.den)(v:K3)(S:List Nat):Prop:=∃xs S1 S2,S=S1++S2/\ep w X B ho e t.size l.length v xs S1/\cS (rd w X B eo t) l xs S2
def CF(f fy:Fl)(T:Ty):Option (Fl×Ow×Ow):=
 match f with
 |.u .ow=>match Wb T fy (.u .ow)||T.flat with
  |true=>K1 (.u .ow,.ow,.ow)
  |false=>match Wb T fy (.u .an)with
   |true=>K1 (.u .an,.an,.an)
   |false=>K2
 |.u .an=>match Wb T fy (.u .an)||T.flat with
  |true=>K1 (.u .an,.an,.an)
  |false=>K2
 |.p (.u .ow) (.u .sh)=>match rV fy T with
  |true=>K1 (.p (.u .ow) (.u .sh),.ow,.sh)
  |false=>K2
 |_=>K2
def IA{t:Ty}:∀{l:List t.den}{vs:List K3}{S:List Nat},cS (rd w X B .sh t) l vs S->S=[]
 |[],_,_,h=>h.2
 |_::_,_,_,⟨_,_,_,_,_,e,a,b⟩=>by rw[e,kJ a,IA b];rfl
def JO{f:Fl}{eo:Ow}(h:yr f=K1 eo){e:Lb}{t:Ty}{l:List t.den}:Pr w X B (.slice e t) f l vs S↔ ∃v,vs=[v]/\Ol w X B .ow eo e t l v S:=by
 unfold yr at h;split at h
 ·cases h;unfold Pr;exact⟨λ⟨v,b,i,j,c,g,d,a⟩=>⟨v,c,b,i,j,g,d,a⟩,λ⟨v,c,b,i,j,g,d,a⟩=>⟨v,b,i,j,c,g,d,a⟩⟩
 ·cases h;exact⟨λ⟨v,b,c,d,a⟩=>⟨v,c,b,S,[],Ac,d,a⟩,λ⟨v,c,b,i,j,g,d,a⟩=>by
   have:=IA a;subst this;rw[Ng]at g;subst g;exact⟨v,b,c,d,a⟩⟩
 ·cases h
def vG{f fy f':Fl}{T:Ty}{ho eo:Ow}(h:CF f fy T=K1 (f',ho,eo)):ho.mine=La/\ ∀{e:Lb}{t:Ty},
  (∀{w:Lc}{l:List t.den}{vs:List K3}{S:List Nat},Pr w X B (.slice e t) f l vs S-> ∃v,vs=[v]/\Ol w X B ho eo e t l v S)/\
  (∀{w:Lc}{l:List t.den}{v:K3}{S:List Nat},Ol w X B ho eo e t l v S->Pr w X B (.slice e t) f' l [v] S):=by
 have a:∀{e:Lb}{t:Ty}{w:Lc}{b:Ow}{l:List t.den}{v:K3}{S:List Nat},Ol w X B b b e t l v S->Pr w X B (.slice e t) (.u b) l [v] S:=λ⟨c,d,g,i,j,k⟩=>by unfold Pr;exact⟨_,c,d,g,rfl,i,j,k⟩
 have m:∀{e:Lb}{t:Ty}{w:Lc}{b:Ow}{l:List t.den}{vs:List K3}{S:List Nat},Pr w X B (.slice e t) (.u b) l vs S-> ∃v,vs=[v]/\Ol w X B b b e t l v S:=λh=>by
  unfold Pr at h;obtain⟨v,c,d,g,n,i,j,k⟩:=h;exact⟨v,n,c,d,g,i,j,k⟩
 unfold CF at h;split at h
 ·split at h
  ·cases h;exact⟨rfl,λh=>m h,λh=>a h⟩
  ·split at h
   ·cases h;refine⟨rfl,λh=>m (bD (f:=.u .ow) (by rfl) h),λh=>a h⟩
   ·cases h
 ·split at h
  ·cases h;exact⟨rfl,λh=>m h,λh=>a h⟩
  ·cases h
 ·split at h
  ·cases h;exact⟨rfl,λh=>(JO (f:=.p (.u .ow) (.u .sh)) rfl).1 h,λh=>(JO (f:=.p (.u .ow) (.u .sh)) rfl).2 ⟨_,rfl,h⟩⟩
  ·cases h
 ·cases h
def Iy{f fy f':Fl}{T:Ty}{ho eo:Ow}(h:CF f fy T=K1 (f',ho,eo)){x:T.den}(hl:fy.live=La)(hr:Pr w X B T fy x vs S):∃Sy,rd w X B eo T x vs Sy/\(Sy=S\/Sy=[]):=by
 have a:∀{eo:Ow},T.flat=La-> ∃Sy,rd w X B eo T x vs Sy/\(Sy=S\/Sy=[]):=λc=>
  ⟨[],(ez c (J3 (X':=λb=>X b\/b∈S) (λ_ h=>.inl h) hl hr (λ_ h=>.inr h))).2,.inr rfl⟩
 unfold CF at h;split at h
 ·split at h
  ·rename_i hc;cases h;rcases M9.1 hc with hc|hc
   ·exact⟨S,(by have:=bD hc hr;simp_all[Pr]),.inl rfl⟩
   ·exact a hc
  ·split at h
   ·rename_i hc;cases h;exact⟨S,(by have:=bD hc hr;simp_all[Pr]),.inl rfl⟩
   ·cases h
 ·split at h
  ·rename_i hc;cases h;rcases M9.1 hc with hc|hc
   ·exact⟨S,(by have:=bD hc hr;simp_all[Pr]),.inl rfl⟩
   ·exact a hc
  ·cases h
 ·split at h
  ·rename_i hc;cases h;have:=kI hc hr;subst this;exact⟨[],J3 (λ_ h=>h) hl hr (λb d=>by cases d),.inl rfl⟩
  ·cases h
 ·cases h
def Ql2{ho:Ow}(hm:ho.mine=La){e:Lb}{n:Nat}(h:ep w X B ho e sz n (.slice (K1 ad) n' cap) xs S):
  ∃g o cur,ad=⟨g,o,K2⟩/\n'=n/\B<=g/\w.heap[g]? =K1 (.cells cur e (0,0))/\n<=cap/\o+cap*sz<=cur.size/\(cur.toList.drop o).take (n*sz)=xs/\S=[g]/\
   ∀{w':Lc}{cc:Array K3}{xs':List K3},w'.heap[g]? =K1 (.cells cc e (0,0))->cc.size=cur.size->(cc.toList.drop o).take (n*sz)=xs'->xs'.length=n*sz->ep w' X B ho e sz n (.slice (K1 ad) n' cap) xs' S:=by
 cases ho
 ·cases hm
 ·obtain⟨⟨q,a⟩,b⟩:=h;rcases a with⟨a,_⟩|⟨g,c,cur,hv,d,i,f,j,p,hx⟩
  ·cases a
  ·simp only[Mf,pB]at hv;obtain⟨rfl,rfl,rfl⟩:=hv;exact⟨g,0,cur,rfl,rfl,d,i,f,Aa,by simpa using hx,by rw[b];rfl,λk r l m=>⟨⟨m,.inr ⟨g,cap,_,rfl,d,k,f,j,Aa,by simpa using l⟩⟩,b⟩⟩
 ·obtain⟨q,a,b⟩:=h;rcases b with⟨b,_⟩|⟨g,o,c,cur,hv,d,i,f,j,p,hx⟩
  ·cases b
  ·simp only[Mf,pB]at hv;obtain⟨rfl,rfl,rfl⟩:=hv;exact⟨g,o,cur,rfl,rfl,d,i,f,p,hx,by rw[a];rfl,λk r l m=>⟨m,a,.inr ⟨g,o,cap,_,rfl,d,k,f,j,Aa,l⟩⟩⟩
def Hw{e:Lb}{t:Ty}{l:List t.den}{g:Nat}{ho eo:Ow}(hm:ho.mine=La)(h:Ol w X B ho eo e t l v S)(hv:v=.slice (K1 ad) n' cap)(hX:¬X ad.block)(hnd:S.Nodup){j:Nat}(hj:j<l.length)
  {u:TV} (hu:ap t l[j] q=K1 u) {y:TV} (hy:u.1=y.1) {z':t.den} (hz:v6 t l[j] q y=K1 z') {Sy:List Nat} (hyv:rd w X B eo y.1 y.2 vs Sy) (hndy:(S++Sy).Nodup) (hg:ad.block=g):
  ∃cc S',(storeCells (ad.add (j*t.size+Yn t q)) vs).run P w=.ok () (w.setRow g cc)/\g∈S/\(∀b,b≠g->(w.setRow g cc).heap[b]? =w.heap[b]?)/\Ol (w.setRow g cc) X B ho eo e t (l.set j z') v S'/\S'.Nodup/\(∀b∈S',b∈S++Sy):=by
 obtain⟨L,J,S2,M,h1,h2⟩:=h;subst hv;obtain⟨m,o,d,rfl,rfl,hB,hh,a3,a4,a5,hS,qX⟩:=Ql2 hm h1;have C:=O4 h1
 ·simp only at hg hX;subst hg;have a1:(⟨m,o,K2⟩:Ld).add (j*t.size+Yn t q)=⟨m,o+(j*t.size+Yn t q),K2⟩:=by simp_all[Lj]
  generalize D:(d.toList.take (o+(j*t.size+Yn t q)+0)++vs++d.toList.drop (o+(j*t.size+Yn t q)+0+vs.length)).toArray=cc;have a:∀b,b≠m->(w.setRow m cc).heap[b]? =w.heap[b]? :=λb n=>setRow_other w m b _ n;have E:∀b∈S2,b≠m:=λb n e=>by
   grind
  have N:cS (rd (w.setRow m cc) X B eo t) l L S2:=Yt h2 λx v T _ hT hr=>
   Wy (λ_ h=>h) (λb n=>a b λe=>hX Af) hr λb n=>a b (E b (hT b n))
  obtain⟨pre,O,k,Q,T2,K,m1,m2,m3,m4,m5,m6⟩:=rZ (λ_ _ _ h=>X9 h) hj N;have U:Pr (w.setRow m cc) X B t (.u eo) l[j] O T2:=Ak
  obtain⟨c,p,i,V,U2,W,n1,n2,n3,n4,n5⟩:=Vf hu U;have F:∀b∈Sy,b≠m:=λb n e=>by
   grind
  have a2:rd (w.setRow m cc) X B eo y.1 y.2 vs Sy:=Wy (λ_ h=>h) (λb n=>a b λe=>hX Af) hyv λb n=>a b (F b n);have Y:=n5 (.u eo) y vs Sy z' hz Ak;have r:p.length=vs.length:=by rw[Kh n4,X9 hyv,hy]
  have a6:L.length=l.length*t.size:=C;generalize hA:d.toList.take o=A at*
  generalize hZ:(d.toList.drop o).drop (l.length*t.size)=Z at*
  have a7:d.toList=A++(L++Z):=by grind[M2]
  have a8:A.length=o:=by rw[<-hA,M0,Array.length_toList];omega
  have ab:o+(j*t.size+Yn t q)+0+vs.length<=d.size:=by
   grind[My]
  have ar:=run_storeCells_at P m (o+(j*t.size+Yn t q)) e vs 0 d w hh ab (kd hyv);rw[D]at ar;have s:d.toList=(A++(pre++c))++(p++(i++(k++Z))):=by
   simp_all
  have au:(A++(pre++c)).length=o+(j*t.size+Yn t q):=Af
  have G:cc=(A++((pre++(c++(vs++i)++k))++Z)).toArray:=by
   rw[<-D];congr 1
   conv=>lhs;rw[s]
   rw[Ns,<-au,List.take_left,<-r,<-Ml (A++(pre++c)) p,Nj Ae];simp
  have H:∀b,b∈J++(Q++((V++(Sy++W))++K))->b∈S++Sy:=by
   intro b n;rw[M,m2,n2];simp only[Lm]at n⊢
   grind
  have I:(J++(Q++((V++(Sy++W))++K))).Nodup:=by
   rw[M,m2,n2]at hndy;rw[Mm]at hndy⊢;intro z;have:=hndy z;simp only[Mw]at this⊢;omega
  refine⟨cc,J++(Q++((V++(Sy++W))++K)),Af,by rw[M,hS];simp,a,⟨pre++(c++(vs++i)++k),J,_,rfl,?_,?_⟩,I,H⟩
  ·have a0:(pre++(c++(vs++i)++k)).length=l.length*t.size:=by
    simp_all
   rw[List.length_set];refine qX (setRow_heap w m d _ e _ hh) ?_ ?_ a0
   ·rw[<-Array.length_toList,<-Array.length_toList,G,s];simp[r]
   grind
  ·have e4:l.set j z'=l.take j++(z'::l.drop (j+1)):=by simp_all[Nq]
   rw[e4];exact nD m5 ⟨_,k,_,K,rfl,rfl,AZ (EE (f:=.u eo) (g:=.u eo) (by cases eo<;>rfl) (by cases eo<;>rfl) q) (by simpa using Y),m6⟩
def Qjw:∀(f:Fl)(i:Nat)(g g':Fl),xo (xo f i g) i g'=xo f i g':=by
 intro f;have e:∀(f g g':Fl)(i:Nat),(∀a c,f≠ .p a c)->xo (xo f i g) i g'=xo f i g':=by
  intro f g g' i h
  induction i with
  |zero=>simp_all[xo]
  |succ i k=>simp_all[xo]
 induction f with
 |u c=>simp_all
 |d=>simp_all
 |p x y j b=>
  intro i g g';cases i with
  |zero=>simp[xo]
  |succ i=>simp[xo,b]
def S6:∀(f:Fl)(i:Nat)(g:Fl),ZD (xo f i g) i=g:=by
 intro f;have b:∀(f g:Fl)(i:Nat),(∀a c,f≠ .p a c)->ZD (xo f i g) i=g:=by
  intro f g i e
  induction i with
  |zero=>simp_all[xo,ZD]
  |succ i k=>simp_all[xo,ZD]
 induction f with
 |u c=>simp_all
 |d=>simp_all
 |p x y h j=>
  intro i g;cases i with
  |zero=>simp[xo,ZD]
  |succ i=>grind[xo,ZD]
def I0:∀(p:List Nat)(f g g':Fl),Vz (Vz f p g) p g'=Vz f p g'
 |[],_,_,_=>rfl
 |i::p,f,g,g'=>by simp only[Vz,S6,Qjw,I0 p]
def Z9j(s:St)(r:Nat)(p:List Nat)(j:Int)(q:List Nat)(fy:Fl)(y:TV):Option St:=
 match s.bad r p with
 |true=>K2
 |false=>match s.get (.m r)with
  |.val (.slice e t) f l=>match p,CF f fy y.1,ap t (l.getD j.toNat (zero t)) q with
   |[],K1 (f',_),K1 u=>match Lf (u.1=y.1),v6 t (l.getD j.toNat (zero t)) q y with
    |true,K1 z=>K1 (KJ s r (.val (.slice e t) f' (l.set j.toNat z)))
    |_,_=>K2
   |_,_,_=>K2
  |.box e0 U f x=>match ap U x p,CF (cd f p) fy y.1 with
   |some ⟨.slice e t,l⟩,K1 (f',_)=>match ap t (l.getD j.toNat (zero t)) q with
    |some u=>match Lf (u.1=y.1),v6 t (l.getD j.toNat (zero t)) q y with
     |true,K1 z=>match v6 U x p ⟨.slice e t,l.set j.toNat z⟩with
      |some x'=>K1 (KJ s r (.box e0 U (Vz f p f') x'))
      |none=>K2
     |_,_=>K2
    |none=>K2
   |_,_=>K2
  |_=>K2
def SI{α:Type}{l:List α}{d:α}(h:i<l.length):l.getD i d=l[i]:=by simp_all
def R.setElem{Sy0:List Nat}(h:R n W0 w X F (Sy0++H) s a){r:Nat}{fy:Fl}{y:TV}{s':St}(hs:Z9j s r p j q fy y=K1 s')(hfy:fy.live=La)(hv:Pr w X W0.B y.1 fy y.2 vs Sy0)
   (he:vt W0.gh w X W0.B s F a ve [] (.elp r p j q)):
  ∃ad w' F',ve=.pointer (K1 ad)/\(storeCells ad vs).run P w=.ok () w'/\R n W0 w' X F' H s' a/\ ∀b,(X b\/ ∃r,s.isBox r/\Qw W0.gh a (.m r)=.pointer (K1 ⟨b,0,K2⟩))->w'.heap[b]? =w.heap[b]? :=by
 unfold Go.Am.Z9j at hs;split at hs
 ·cases hs
 ·rename_i au;obtain⟨_,he⟩:=he;obtain⟨e0,t0,ad,n0,a8,g,c8,c9,be⟩:=he au
  ·have M:=h.slots (.m r);unfold X4 at g;split at hs
   ·rename_i e t f l hg;rw[hg]at g M;obtain⟨rfl,hT,c0⟩:=g;cases hT;split at hs
    ·rename_i f' oo u hp bl hu;obtain⟨ho,eo⟩:=oo;obtain⟨hm,a0⟩:=vG bl;obtain⟨v,A⟩:=a0;obtain⟨W,hv,C⟩:=Iy bl hfy hv;have h:R n W0 w X F (W++H) s a:=by
      rcases C with rfl|rfl
      ·exact h
      ·exact h.drop
     clear C;split at hs
     ·rename_i z hd hz;simp only[pB]at hs;subst hs;obtain⟨us,Y,k2⟩:=M;obtain⟨v',rfl,bx⟩:=v k2;have k3:=bx;obtain⟨xs,S1,S2,e2,L,h2⟩:=k3;have D:v'=.slice (K1 ad) n0 a8:=by rw[<-c0]at Y;exact Y.symm
      have N:n0=l.length:=by
       grind[aw]
      have E:j.toNat<l.length:=Aa
      rw[SI E]at hu hz;have G:=h.nodup (.m r);have i:(F (.m r)++W).Nodup:=Lg.2 ⟨G,(Lg.1 h.pK).1,λx hx y Z e=>h.pL _ x hx (by rw[e];simp[Z])⟩;have o:¬X ad.block:=by
       have hm:ad.block∈F (.m r):=by rw[e2,SD hm L,D];simp[L1]
       exact(h.own _ _ hm).2.2
      obtain⟨cc,S9,g1,g2,I,g4,g5,g6⟩:=Hw (P:=P) hm bx D o G E hu (pE hd) hz hv i rfl;have a1:W0.below (w.setRow ad.block cc):=
       ⟨h.below.os,h.below.tape,h.below.output,by simpa[Mb]using h.below.size,λk hk=>(I k (W0.sep hk (h.own _ _ g2).1)).trans (h.below.block k hk)⟩
      have a2:∀b,(X b\/ ∃r,s.isBox r/\Qw W0.gh a (.m r)=.pointer (K1 ⟨b,0,K2⟩))->(w.setRow ad.block cc).heap[b]? =w.heap[b]? :=by
       intro b J;refine I b λe=>?_;subst e;rcases J with J|⟨r2,L,h2⟩
       ·exact o J
       ·obtain⟨S,h3⟩:=h.boxIn L h2;have:=h.pS (.m r2) (.m r) ad.block (by rw[h3];simp) g2
        grind
      refine⟨_,w.setRow ad.block cc,Q6 F (.m r) S9,be,g1,?_,a2⟩;refine h.turn' (S':=S9) (H':=H) (wq ⟨?_,?_⟩) a1 (by simp[Mb]) (λb J=>I b λe=>o Ag)
       (λk b hk J=>I b λe=>hk (h.pS k (.m r) b J (by rw[e];exact g2))) (λb J=>?_) (Lg.2 ⟨g5,(Lg.1 h.pK).2.1,λx hx y Z e=>?_⟩)
       (by rw[hg];simp) (λe T f x b S J=>Af) ⟨[v'],Y,A g4⟩
      ·rw[Kn];simp
      ·grind[X4,Kn]
      ·grind
      ·subst e;have:=g6 x hx;rcases Lm.1 this with h'|h'
       ·exact h.pL _ x h' (by simp[Z])
       ·exact(Lg.1 h.pK).2.2 x h' x Z rfl
     ·cases hs
    ·cases hs
   ·rename_i e1 U f x hg;rw[hg]at g M;obtain⟨b,c,S,y',Y,k2,k3,k4,k5⟩:=g;obtain⟨b',c',S',l1,l2,l3,l4⟩:=M;rw[Y]at l2;obtain⟨rfl,rfl⟩:=Lv l2;rw[k2]at l3;simp only[pB,L9]at l3;obtain⟨rfl,_⟩:=l3;rw[k3]at hs;split at hs
    ·rename_i e t l f' oo b0 hf;obtain⟨ho,eo⟩:=oo;obtain⟨hm,a0⟩:=vG hf;obtain⟨v,A⟩:=a0;obtain⟨W,hv,C⟩:=Iy hf hfy hv;have h:R n W0 w X F (W++H) s a:=by
      rcases C with rfl|rfl
      ·exact h
      ·exact h.drop
     clear C;simp only[pB]at b0;subst b0;cases k4;split at hs
     ·rename_i u hu;split at hs
      ·rename_i z hd hz;split at hs
       ·rename_i x' c1;simp only[pB]at hs;subst hs;obtain⟨pre,dc,b1,S1,S2,S3,m1,m2,m3,m4,m5⟩:=Vf k3 l4;have b4:=D4 m1 m3 (Kh m4);rw[b4]at k5;have c2:=m4;obtain⟨v',rfl,b5⟩:=v m4;have m6:=b5;obtain⟨xs,T1,T2,e2,L,h2⟩:=m6;have D:v'=.slice (K1 ad) n0 a8:=k5.symm;have N:n0=l.length:=by
         grind[aw]
        have E:j.toNat<l.length:=Aa
        rw[SI E]at hu hz;have G:=h.nodup (.m r);have i:(F (.m r)++W).Nodup:=Lg.2 ⟨G,(Lg.1 h.pK).1,λx hx y Z e=>h.pL _ x hx (by rw[e];simp[Z])⟩;rw[Y,m2]at G i;have c5:ad.block∈S2:=by rw[e2,SD hm L,D];simp[L1]
        have O:ad.block∈F (.m r):=Ag
        have o:¬X ad.block:=(h.own _ _ O).2.2;have b6:S2.Nodup:=by
         grind
        have a3:(S2++W).Nodup:=by
         rw[Mm]at i⊢;intro z;have:=i z
         grind
        obtain⟨cc,S9,g1,g2,I,g4,g5,g6⟩:=Hw (P:=P) hm b5 D o b6 E hu (pE hd) hz hv a3 rfl;have c6:b≠ad.block:=λe=>by
         grind
        have a1:W0.below (w.setRow ad.block cc):=
         ⟨h.below.os,h.below.tape,h.below.output,by simpa[Mb]using h.below.size,λk hk=>(I k (W0.sep hk (h.own _ _ O).1)).trans (h.below.block k hk)⟩
        have b7:∀q,q∈S1\/q∈S3->q≠ad.block:=by
         grind
        have a4:Pr w X W0.B U (Vz f p .d) x c.toList (S1++([]++S3)):=by
         have:=m5 .d ⟨.slice e0 t0,l⟩ [v'] [] x (Ch k3) (by unfold Pr;exact⟨rfl,nA c2,rfl⟩)
         grind
        have Q:Pr (w.setRow ad.block cc) X W0.B U (Vz f p .d) x c.toList (S1++([]++S3)):=
         vv (λ_ h=>h) (λb' b8=>I b' λe=>o Ag) a4 (λb' b8=>I b' (b7 b' (by simpa using b8)))
        obtain⟨ab,c7,a5,a6,c4,a7,q1,q2,q3,q4,q5⟩:=Vf k3 Q;have b9:ab=pre/\a5=b1:=by
         have e1:ab.length=pre.length:=by rw[q3,m3]
         have e2:=q1.symm.trans m1;have e3:=Nf e2 e1
         grind[Kh,Nf]
        obtain⟨rfl,rfl⟩:=b9;have ar:=q5 f' ⟨.slice e0 t0,l.set j.toNat z⟩ [v'] S9 x' c1 (A g4);rw[<-m1,I0]at ar;have cb:∀z,a6.count z+a7.count z<=S1.count z+S3.count z:=λz=>by
         have:=congrArg (List.count z) q2
         grind
        have cl:∀z,S9.count z<=S2.count z+W.count z:=λz=>by
         have L:=Mm.1 g5 z;by_cases hz:z∈S9
         ·have:=Ni.2 (g6 z hz)
          grind
         grind
        have cm:∀z,(F (.m r)).count z=(b:: (S1++(S2++S3))).count z:=λz=>by rw[Y,m2]
        have cp:((b:: (a6++(S9++a7)))++H).Nodup:=by
         have N:(F (.m r)++(W++H)).Nodup:=Lg.2 ⟨h.nodup _,h.pK,λx hx y Z e=>h.pL _ x hx (by rw[e];exact Z)⟩;rw[Mm]at N⊢;intro z;have L:=N z;have h2:=cb z;have h3:=cl z;have h4:=cm z;simp only[Mw,Nh]at L h4⊢;omega
        have cr:=h.turn' (t:=.box e1 U (Vz f p f') x') (S':=b:: (a6++(S9++a7))) (H':=H) (wq ⟨?_,?_⟩) a1 (by simp[Mb]) (λb J=>I b λe=>o Ag)
         (λk b hk J=>I b λe=>hk (h.pS k (.m r) b J (by rw[e];exact O))) (λq hq=>?_) cp
         (by rw[hg];simp) (λe2 T2 f2 x2 b2 c4 K dk=>by
          grind) ⟨b,c,_,l1,rfl,Ag,ar⟩
        ·refine⟨_,_,_,be,g1,cr,λb2 K=>I b2 λe=>?_⟩;rw[e]at K;rcases K with K|⟨r2,L,h2⟩
         ·exact o K
         ·obtain⟨S,h3⟩:=h.boxIn L h2;have:=h.pS (.m r2) (.m r) ad.block (by rw[h3];simp) O
          grind
        ·rw[Kn];simp
        ·intro p' v2 U2 V;unfold X4 at V⊢;rw[hg]at V;rw[Kn];simp only[if_true]at V⊢;obtain⟨b3,c3,S3,y3,o1,o2,o3,o4,o5⟩:=V;rw[Y]at o1;obtain⟨rfl,_⟩:=Lv o1;obtain⟨y4,o6,o7⟩:=Pu (x':=x') o3
         grind
        ·rw[<-Ni]at hq⊢;have h2:=cb q;have h3:=cl q;have h4:=cm q;simp only[Mw,Nh]at hq h4⊢;omega
       ·cases hs
      ·cases hs
     ·cases hs
    ·cases hs
   ·cases hs
def Qe4(s:St)(r:Nat)(p:List Nat)(i:Int)(fy:Fl)(y:TV):Option St:=
 match s.get (.m r)with
 |.box e U f x=>match ap U x p with
  |some ⟨.arr n t,l⟩=>match(cd f p).live,Lf (y.1=t),t.flat,fy.live with
   |true,La,La,La=>match Jz t y.1 y.2 with
    |some z=>match v6 U x p ⟨.arr n t,l.set i.toNat z⟩with
     |some x'=>K1 (Y7 s r (.box e U (Vz f p (cd f p)) x'))
     |none=>K2
    |none=>K2
   |_,_,_,_=>K2
  |_=>K2
 |_=>K2
def R.setArr(h:R n W0 w X F H s a){r:Nat}{i:Int}{fy:Fl}{y:TV}{s':St}(hs:Qe4 s r p i fy y=K1 s')(hv:Pr w X W0.B y.1 fy y.2 vs S)
   (he:vt W0.gh w X W0.B s F a ve [] (.aep r p i)):
  ∃b ad w' F',ve=.pointer (K1 ad)/\(storeCells ad vs).run P w=.ok () w'/\R n W0 w' X F' H s' a/\b∈F (.m r)/\ ∀k,k≠b->w'.heap[k]? =w.heap[k]? :=by
 obtain⟨_,e0,O,Q,x0,b,S0,N,t0,A,g1,g2,g3,g4,g5,g6⟩:=he;unfold Go.Am.Qe4 at hs;rw[g1]at hs;simp only[g3]at hs;split at hs
 ·rename_i o hd C ar;split at hs
  ·rename_i z hz;split at hs
   ·rename_i x' au;simp only[pB]at hs;subst hs;have U:y.1=t0:=pE hd;obtain⟨t,I⟩:=y;simp only at U;subst U;have a0:I=z:=by have:=Wu hz;cases this;rfl
    subst a0;have V:=h.slots (.m r);rw[g1]at V;obtain⟨D,c,S',l1,l2,l3,l4⟩:=V;rw[g2]at l2;obtain⟨rfl,rfl⟩:=Lv l2;have E:b∈F (.m r):=by rw[g2];simp
    obtain⟨pre,a7,j,S1,S2,S3,m1,m2,m3,m4,m5⟩:=Vf g3 l4;have a1:=J3 (X':=λb=>X b\/b∈S2) (λ_ h=>.inl h) o m4 (λ_ h=>.inr h);obtain⟨J,K⟩:=a1;have J:A.length=N:=J;have a2:i.toNat<A.length:=Aa
    obtain⟨f,l,d,T1,T2,T3,n1,n2,n3,n4,n5,n6⟩:=rZ (λ_ _ _ h=>X9 h) a2 K;have a8:vs.length=t.size:=Kh hv;have a3:l.length=vs.length:=Av
    generalize W:(c.toList.take (Yn O p+i.toNat*t.size+0)++vs++c.toList.drop (Yn O p+i.toNat*t.size+0+vs.length)).toArray=cc;have g:∀k,k≠b->(w.setRow b cc).heap[k]? =w.heap[k]? :=λk hk=>setRow_other w b k _ hk;have be:c.size=pre.length+(f.length+(l.length+d.length)+j.length):=Ag
    have Y:=run_storeCells_at P b (Yn O p+i.toNat*t.size) e0 vs 0 c w l3 Aa (nA hv);rw[W]at Y;have e1:cc.toList=pre++((f++(vs++d))++j):=by
     rw[<-W,m1,n1,<-m3,<-n3];have h1:List.take (pre.length+f.length+0) (pre++((f++(l++d))++j))=pre++f:=by
      grind
     have h2:List.drop (pre.length+f.length+0+vs.length) (pre++((f++(l++d))++j))=d++j:=by
      rw[Ns,<-a3,show pre++((f++(l++d))++j)=(pre++f++l)++(d++j) by simp,Nj Ae]
     rw[h1,h2];simp
    have a4:S2=[]:=by
     have:(Ty.arr N t).flat=true:=by simp_all[Ty.flat]
     have hn:rV (cd Q p) (.arr N t)=true:=by
      obtain⟨c,hc⟩:=Do m4 o;rw[hc];cases c<;>simp[rV,this]
     exact kI hn m4
    have qX:Pr w X W0.B (.arr N t) (cd Q p) (A.set i.toNat I) (f++(vs++d)) []:=by
     have hx:rd w X W0.B .ow t I vs []:=(ez C (J3 (X':=λb=>X b\/b∈S) (λ_ h=>.inl h) ar hv (λ_ h=>.inr h))).2;have hr:∀u,rd w X W0.B u (.arr N t) (A.set i.toNat I) (f++(vs++d)) []:=λu=>by
      refine⟨Af,?_⟩;have e4:A.set i.toNat I=A.take i.toNat++(I::A.drop (i.toNat+1)):=by simp_all[Nq]
      rw[e4];have q1:=(iP (r':=rd w X W0.B u t) (λx v S h=>ez C h) n5).2;have q2:=(iP (r':=rd w X W0.B u t) (λx v S h=>ez C h) n6).2;show cS (rd w X W0.B u t) (A.take i.toNat++(I::A.drop (i.toNat+1))) (f++(vs++d)) ([]++([]++[]));exact nD q1 ⟨vs,d,[],[],rfl,rfl,(ez C hx).2,q2⟩
     obtain⟨c,hc⟩:=Do m4 o
     grind[Pr]
    have Z:=m5 (cd Q p) ⟨.arr N t,A.set i.toNat I⟩ (f++(vs++d)) [] x' au qX;have L:=h.nodup (.m r);rw[g2,m2,a4]at L;have a5:b∉S1++([]++S3):=(Np.1 L).1;have ab:¬X b:=(h.own _ b E).2.2;have a6:W0.below (w.setRow b cc):=
     ⟨h.below.os,h.below.tape,h.below.output,by simpa[Mb]using h.below.size,λk hk=>(g k (W0.sep hk (h.own _ b E).1)).trans (h.below.block k hk)⟩
    have M:Pr (w.setRow b cc) X W0.B O (Vz Q p (cd Q p)) x' cc.toList (S1++([]++S3)):=by
     rw[e1];exact vv (λ_ h=>h) (λD G=>g D λe=>ab Af) Z (λD G=>g D λe=>a5 Af)
    refine⟨b,⟨b,Yn O p+i.toNat*t.size,K2⟩,w.setRow b cc,Q6 F (.m r) (b:: (S1++([]++S3))),g6,Y,?_,E,g⟩;refine h.turn (S':=b:: (S1++([]++S3))) a6 Af (λD G=>g D λe=>ab Af)
     (λk D hk G=>g D λe=>hk (h.pS k (.m r) D G (by rw[e];exact E))) (λq hq=>Af) (Lg.2 ⟨L,h.pK,λx hx y hy e=>h.pL (.m r) x Af (by rw[e];exact hy)⟩) (by rw[g1];simp) ?_ ⟨b,_,_,l1,rfl,setRow_heap w b c _ e0 _ l3,by simpa using M⟩
    grind
   ·cases hs
  ·cases hs
 ·cases hs
def qJ(τ:vJ)(s:St)(tg:Yl)(e:Lb)(x v:Le):Option St:=
 match τ e with
 |none=>K2
 |some T=>match xB s (RO s tg v) T with
  |none=>K2
  |some t=>match RO t.s tg x with
   |.tm k (.box _ _ _ _)=>Za0 t.s k [] t.f ⟨t.T,t.x⟩
   |.tm _ (.ptr r p)=>Za0 t.s r p t.f ⟨t.T,t.x⟩
   |.tm _ (.elp r p j q)=>Z9j t.s r p j q t.f ⟨t.T,t.x⟩
   |.tm _ (.aep r p i)=>Qe4 t.s r p i t.f ⟨t.T,t.x⟩
   |_=>K2
def O7(τ:vJ)(s:St)(o:Lk):Option Nat:=
 match o.op with
 |.store e x v=>match τ e with
  |none=>K2
  |some T=>match xB s (RO s [] v) T with
   |none=>K2
   |some t=>match RO t.s [] x with
    |.tm k (.box _ _ _ _)=>K1 k
    |.tm _ (.ptr r _)=>K1 r
    |.tm _ (.aep r _ _)=>K1 r
    |_=>K2
 |_=>K2
def Z4n(h:R n W0 w X F H s a)(hτ:τ.ok P){e:Lb}{v:Le}(ho:o.op=.store e x v)(hd:o.dst=K2){s':St}(hr:qJ τ s [] e x v=K1 s')
  {K:Act->Lc->Prop}{Q:Exit->Act->Lc->Prop} (hK:∀w' F',R n W0 w' X F' H s' a->vT W0.gh X s a (O7 τ s o) w w'->K a w'):o.wp P a w K Q:=by
 have L:Yl.ok [] W0.gh a:=λp hp=>by cases hp
 unfold qJ at hr;split at hr
 ·cases hr
 ·rename_i T hT;split at hr
  ·cases hr
  ·rename_i t hk;obtain⟨Y,Z,S,vs,h1,C,g,_,D⟩:=cP h L hk;subst Y;have A:=OE (nA C) (Kh C);have fin:∀{M:Ld}{w':Lc},a.eval x=.pointer (K1 M)->(storeCells M vs).run P w=.ok () w'->(execOp a.eval o).run P w=.ok .skip w':=by
    intro M w' hx ab;simp only[execOp,ho,hx,h1,Instr.storeAt,Mk,storeVar,A,Lh,Lp,Ln,(hτ _ _ hT).sizeOf w];simp[Kh C,ab]
   have l:∀{w'},(execOp a.eval o).run P w=.ok .skip w'->(∃F',R n W0 w' X F' H s' a/\vT W0.gh X s a (O7 τ s o) w w')->o.wp P a w K Q:=by
    intro w' N ⟨F',hR,hkept⟩;unfold Lr;rw[N];show K (a.put o.dst undef) w';rw[hd];exact hK w' F' hR hkept
   have u:∀{r b:Nat}{w':Lc},O7 τ s o=K1 r->b∈Z (.m r)->(∀k,k≠b->w'.heap[k]? =w.heap[k]?)->vT W0.gh X s a (O7 τ s o) w w':=by
    intro r b w' d W hq b2 E;refine hq b2 λe=>?_;subst e;rcases E with E|⟨r2,z1,z2,z3⟩
    ·exact(g.own _ _ W).2.2 E
    ·obtain⟨S2,h4⟩:=g.boxIn (ZA hk z1) z3;have:=g.pS (.m r2) (.m r) b2 (by rw[h4];simp) W;simp_all
   split at hr
   ·rename_i k e' U f y hx;obtain⟨rfl,b,c,S',g1,O,g3,g4⟩:=Ji g L hx Ac;have hg:∃e2 U2 f2 y2,t.s.get (.m k)=.box e2 U2 f2 y2:=by
     grind[Go.Am.Za0]
    obtain⟨e2,U2,f2,y2,hg⟩:=hg;obtain⟨w',F',V,I,J⟩:=g.setRoot (P:=P) hr rfl C ⟨_,O⟩ hg;have d:O7 τ s o=K1 k:=by simp_all[O7]
    exact l (fin g1 (by simp_all[Yn])) ⟨F',I,u d (by rw[O];simp) J⟩
   ·rename_i k r p hx;obtain⟨rfl,h0,e2,U2,f2,y2,b,S',g1,O,g3⟩:=Ji g L hx Ac;obtain⟨w',F',V,I,J⟩:=g.setRoot (P:=P) hr rfl C ⟨_,O⟩ g1;have d:O7 τ s o=K1 r:=by simp_all[O7]
    exact l (fin g3 V) ⟨F',I,u d (by rw[O];simp) J⟩
   ·rename_i k r p j q hx;obtain⟨rfl,G⟩:=Ji g L hx Ac;have z:vt W0.gh w X W0.B t.s Z a (a.eval (.tmp k)) [] (.elp r p j q):=⟨rfl,G.2⟩
    obtain⟨M,w',F',q0,V,I,J⟩:=g.setElem (P:=P) hr D C z;exact l (fin q0 V) ⟨F',I,λb W=>J b (W.imp id λ⟨r2,z1,_,z2⟩=>⟨r2,ZA hk z1,z2⟩)⟩
   ·rename_i k r p i hx;obtain⟨rfl,G⟩:=Ji g L hx Ac;have d:O7 τ s o=K1 r:=by simp_all[O7]
    have z:vt W0.gh w X W0.B t.s Z a (a.eval (.tmp k)) [] (.aep r p i):=⟨rfl,G.2⟩
    obtain⟨b,M,w',F',q0,V,I,J,q4⟩:=(g.drop).setArr (P:=P) hr C z
    grind
   ·cases hr
theorem Qki(g o k:Nat):(⟨g,o,K2⟩:Ld).add k=⟨g,o+k,K2⟩:=by simp_all[Lj]
def Ds(τ:vJ)(s:St)(tg:Yl)(e:Lb)(x:Le)(lo:Option Le):Option I8:=
 match τ e with
 |some (.slice e' t')=>match ER s (RO s tg x)with
  |some ⟨.slice e2 t,f,l,s',_⟩=>match EB s tg lo 0,f.allU .an,t.flat,Lf (t'=t),τ e' with
   |some i,La,La,La,K1 t2=>match Lf (t2=t)with
    |true=>K1 ⟨.val (.slice e2 t) (.u .an) (l.drop i.toNat),s',La,K1 (0<=i/\i<=l.length)⟩
    |false=>K2
   |_,_,_,_,_=>K2
  |_=>K2
 |_=>K2
def Z70(h:R n W0 w X F H s a)(ht:tg.ok W0.gh a)(hτ:τ.ok P){e:Lb}(ho:o.op=.slice e x lo K2 K2){r:I8}(hr:Ds τ s tg e x lo=K1 r):zG P n W0 w X H s a o r:=by
 unfold Ds at hr;split at hr
 ·rename_i e' t' hT;split at hr
  ·rename_i e2 t f l s' mv hk;split at hr
   ·rename_i i c hi hf u hd I;split at hr
    ·rename_i J;simp only[pB]at hr;subst hr;have L:t'=t:=pE hd;have M:c=t:=pE J;subst L;subst M;obtain⟨F',S,vs,z,m,h3,h4,_⟩:=VJ h ht hk;have m:=AZ hf m;obtain⟨v,xs,V,S2,rfl,rfl,k1,k2⟩:=m;obtain⟨rfl,k3⟩:=iP (r':=rd w X W0.B .an c) (λx v S h=>ez u h) k2;intro hp K Q hK;obtain⟨p1,p2⟩:0<=i/\i<=l.length:=hp;obtain⟨A,hS,hv⟩:=k1;have hx:a.eval x=v:=z;simp only at A hv hS;have fin:∀{a0:Option Ld}{cap:Nat},v=.slice a0 l.length cap->l.length<=cap->
       (execOp a.eval o).run P w=.ok (.value (.slice (ite (cap=i.toNat) a0 (a0.map (·.add (i.toNat*c.size)))) (l.length-i.toNat) (cap-i.toNat))) w:=by
      intro a0 cap e1 N;have hb:=O8 (P:=P) La (len:=l.length) (cap:=cap) N (lo:=lo.map a.eval) (hi:=K2) (i:=i) (j:=l.length) p1 p2 (Int.le_refl _)
       ((xX h ht hi).imp (λ⟨z,m⟩=>⟨by simp[z],m⟩) λ⟨y,k,z,m⟩=>⟨k,by simp[z,m]⟩) (.inl ⟨rfl,rfl⟩) w
      rw[e1]at hx;simp only[execOp,ho,hx,Lh,Mu,run_underlying (hτ _ _ hT).slice.1,Ln,Mt,M5,hb,(hτ _ _ I).sizeOf w,Lp,Int.toNat_natCast]
     have b:(l.drop i.toNat).length=l.length-i.toNat:=Ac
     obtain⟨pre,p,C,m1,m2,m3,O⟩:=ne (sz:=c.size) (i:=i.toNat) (j:=l.length) (λx v S h=>⟨X9 h,(ez (X':=X) (own':=.an) (w':=w) u h).1⟩) Aa (Lx _) k3;have U:(l.drop i.toNat).take (l.length-i.toNat)=l.drop i.toNat:=Nr Ac;rw[U]at m3;have q:C=[]:=Mc (by
      have:=congrArg List.length m1;simp only[My,A,m2,O]at this;have h5:i.toNat*c.size+(l.length-i.toNat)*c.size=l.length*c.size:=by rw[<-Mn];congr 1;omega
      omega)
     subst q;have done:∀{D:K3},(execOp a.eval o).run P w=.ok (.value D) w->ep w X W0.B .an e2 c.size (l.drop i.toNat).length D p V->o.wp P a w K Q:=by
      intro D E hh;unfold Lr;rw[E];exact hK _ X F' _ w (λ_ h=>h) h3 ⟨[D],rfl,by unfold Pr;exact⟨D,p,V,[],rfl,rfl,hh,m3⟩⟩ Ac ⟨λ_=>Bq.refl w,h.kept (Bq.refl w)⟩
     rcases hv with⟨rfl,d⟩|⟨g,W,cap,G,rfl,Y,Z,hn,hm,hs,ab⟩
     ·have d:l.length=0:=d;have h6:i.toNat=0:=Aa
      refine done (fin (a0:=K2) (cap:=0) (by rw[d]) Aa) ⟨by rw[O,b],Ag,.inl ⟨?_,by rw[b];omega⟩⟩;simp[h6,d]
     ·refine done (fin rfl hn) ⟨by rw[O,b],?_,.inr ?_⟩
      ·grind[L1,Lj]
      ·by_cases hc:cap=i.toNat
       ·refine⟨g,W,0,G,by simp[hc,b],Y,Z,by rw[b];omega,by simp[maxLen],Aa,?_⟩;have:p=[]:=Mc Ag
        grind
       ·refine⟨g,W+i.toNat*c.size,cap-i.toNat,G,?_,Y,Z,by rw[b];omega,Aa,?_,?_⟩
        ·grind[Qki]
        ·have h7:i.toNat*c.size+(cap-i.toNat)*c.size=cap*c.size:=by rw[<-Mn];congr 1;omega
         omega
        grind[List.drop_left,List.drop_take,List.drop_drop]
    ·cases hr
   ·cases hr
  ·cases hr
 ·cases hr
def wV(s:St)(x:TB)(t:Ty):Option (t.den×St×Bool):=
 match xB s x t with
 |some u=>match u.T,u.f,u.x,t.flat with
  |T,_,y,La=>match Jz t T y with|some z=>K1 (z,u.s,u.moved)|none=>K2
  |T,f,y,K4=>match Wb T f (.u .ow),Jz t T y with|true,K1 z=>K1 (z,u.s,u.moved)|_,_=>K2
 |none=>K2
def Qct(h:R n W0 w X F H s a)(ht:tg.ok W0.gh a){t:Ty}{z:t.den}{s':St}{mv:Bool}(hk:wV s (RO s tg x) t=K1 (z,s',mv)):
  ∃F' S vs,a.eval x=Yh t vs/\rd w X W0.B .ow t z vs S/\R n W0 w X F' (S++H) s' a/\(mv=K4->s'=s):=by
 unfold wV at hk;split at hk
 ·rename_i u r;obtain⟨k,F',S,vs,l,f,m,o,v⟩:=cP h ht r;split at hk
  ·rename_i g;split at hk
   ·rename_i p i;simp only[pB,pF]at hk;obtain⟨rfl,rfl,rfl⟩:=hk;have e:=Wu i;have d:u.T.flat=true:=Af
    have y:rd w (λb=>X b\/b∈S) W0.B .sh u.T u.x vs []:=J3 (λ_ h=>.inl h) v f (λ_ h=>.inr h);have A:=(ez (X':=X) (own':=.ow) (w':=w) d y).2;refine⟨F',[],vs,by rw[l,k],?_,m.drop,λj=>(o j).1⟩
    grind
   ·cases hk
  ·rename_i g;split at hk
   ·rename_i p c i;simp only[pB,pF]at hk;obtain⟨rfl,rfl,rfl⟩:=hk;have e:=Wu i;refine⟨F',S,vs,by rw[l,k],?_,m,λj=>(o j).1⟩;have q:(⟨u.T,u.x⟩:TV)=⟨t,p⟩:=e;cases u with
    |mk C D E G I=>simp only at q f c;cases q;have:=bD c f;simp_all[Pr]
   ·cases hk
 ·cases hk
def gQ(tg:Yl)(t:Ty):Nat->List (Nat×Le)->St->Bool->Option (List t.den×St×Bool)
 |_,[],s,mv=>K1 ([],s,mv)
 |k,(i,y)::r,s,mv=>match Lo i k with
  |false=>K2
  |true=>match wV s (RO s tg y) t with
   |some (z,s1,m1)=>match gQ tg t (k+1) r s1 (mv||m1)with
    |some (l,s2,m2)=>K1 (z::l,s2,m2)
    |none=>K2
   |none=>K2
theorem Cf:∀{r:List (Nat×Le)}{t:Ty}{k:Nat}{s:St}{mv:Bool}{l:List t.den}{s':St}{mv':Bool},gQ tg t k r s mv=K1 (l,s',mv')->mv'=K4->mv=K4
 |[],t,k,s,mv,l,s',mv',h,a=>by simp_all[gQ]
 |(i,y)::r,t,k,s,mv,l,s',mv',h,a=>by
  simp only[gQ]at h;split at h
  ·cases h
  ·split at h
   ·split at h
    ·rename_i b;simp only[pB,pF]at h;obtain⟨_,_,rfl⟩:=h;have:=Cf b a;simp_all
    ·cases h
   ·cases h
def Gp(ht:tg.ok W0.gh a){t:Ty}:∀{parts:List (Nat×Le)}{k:Nat}{s:St}{mv:Bool}{l:List t.den}{s':St}{mv':Bool}{F:A4->List Nat}{H:List Nat}{cs:Array K3}{A M C:List K3},
  R n W0 w X F H s a->cs.toList=A++(M++C)->A.length=k*t.size->M.length=parts.length*t.size->gQ tg t k parts s mv=K1 (l,s',mv')->
  ∃F' S vs cs',L7 (λi=>K1 (i*t.size,t.size)) cs (parts.map λp=>(p.1,a.eval p.2))=K1 cs'/\cs'.toList=A++(vs++C)/\cS (rd w X W0.B .ow t) l vs S/\l.length=parts.length/\
   R n W0 w X F' (S++H) s' a/\(mv'=K4->s'=s)
 |[],k,s,mv,l,s',mv',F,H,cs,A,M,C,h,d,u,x,b=>by
  simp only[gQ,pB,pF]at b;obtain⟨rfl,rfl,rfl⟩:=b;have:M=[]:=Mc (by simpa using x);subst this;exact⟨F,[],[],cs,rfl,d,⟨rfl,rfl⟩,rfl,h,λ_=>rfl⟩
 |(i,y)::r,k,s,mv,l,s',mv',F,H,cs,A,M,C,h,d,u,x,b=>by
  simp only[gQ]at b;split at b
  ·cases b
  ·rename_i e;have e:=pD e;subst e;split at b
   ·rename_i z P Q I;split at b
    ·rename_i U V W j;simp only[pB,pF]at b;obtain⟨rfl,rfl,rfl⟩:=b;obtain⟨Y,D,vs,J,m,K,Z⟩:=Qct h ht I;have c:=RU (kd m) (X9 m);have f:(a.eval y).cells.size=t.size:=by grind[Array.length_toList,X9]
     have o:M.length=t.size+r.length*t.size:=Ag
     obtain⟨q,E,g2⟩:=zJ (place:=λi=>K1 (i*t.size,t.size)) (i:=i) (rest:=r.map λp=>(p.1,a.eval p.2)) (v:=a.eval y) rfl (pre:=A) (mid:=M.take t.size) (post:=M.drop t.size++C)
      (by rw[d,<-Ml (M.take _),M2]) u Ae f
     rw[J,c]at E;obtain⟨F',S,g,cs',k1,L,N,O,G,k6⟩:=Gp ht (k:=i+1) (cs:=q) (A:=A++vs) (M:=M.drop t.size) (C:=C) K (by rw[E];simp) Ag (by simp[o]) j;refine⟨F',D++S,vs++g,cs',Af,by rw[L];simp,⟨vs,g,D,S,rfl,rfl,m,N⟩,by simp[O],?_,λhm=>?_⟩
     ·refine G.sub ?_ ?_
      ·grind
      ·have:=G.pK
       grind
     grind[Cf]
    ·cases b
   ·cases b
def HL(τ:vJ)(s:St)(tg:Yl)(e:Lb)(len:Nat)(parts:Array (Nat×Le)):Option I8:=
 match τ e with
 |some (.slice e' t)=>match τ e' with
  |some t2=>match Lf (t2=t),Lo parts.size len&&Nat.ble (len*t.size) 16777216 with
   |true,La=>match gQ tg t 0 parts.toList s K4 with
    |some (l,s',mv)=>K1 ⟨.val (.slice e' t) (.u .ow) l,s',mv,K2⟩
    |none=>K2
   |_,_=>K2
  |none=>K2
 |_=>K2
def Zms(h:R n W0 w X F H s a)(ht:tg.ok W0.gh a)(hτ:τ.ok P){e:Lb}(ho:o.op=.buildSlice e len parts){r:I8}(hr:HL τ s tg e len parts=K1 r):zG P n W0 w X H s a o r:=by
 unfold HL at hr;split at hr
 ·rename_i J t u;split at hr
  ·rename_i d y;split at hr
   ·rename_i L f;split at hr
    ·rename_i l s' mv j;simp only[pB]at hr;subst hr;have:=pE L;subst this;simp only[pC,Nat.ble_eq]at f;have D:=pD f.1;obtain⟨hu,m⟩:=(hτ _ _ u).slice;obtain⟨i,hi,N,_,hz⟩:=(hτ _ _ y).size;intro _ K Q O;obtain⟨c,E⟩:∃c:Array K3,c=(Array.range (len*i.size)).map ((Yh d (Jk d)).cells[· % (Yh d (Jk d)).cells.size]!):=⟨_,rfl⟩
     have G:c.toList.length=len*d.size:=Af
     obtain⟨U,S,z,g,k1,V,W,k4,I,Y⟩:=Gp ht (k:=0) (cs:=c) (A:=[]) (M:=c.toList) (C:=[]) h Ac Ac Af j;have p:l.length=len:=Af
     have q:(execOp a.eval o).run P w=.ok (.value (.slice (K1 ⟨w.heap.size,0,K2⟩) len len)) (w.alloc (.cells g J)):=by
      simp only[execOp,ho,Lh];by_cases Z:len*i.size=0
      ·have ab:len=0:=by
        grind[Nat.mul_eq_zero]
       simp_all[Instr.buildSlice,run_underlying,Ls,typeInfo,newRow,Array.range_zero']
      simp_all[run_buildSlice]
     unfold Lr;rw[q];have ad:g.toList=z:=by simpa using V
     refine O _ X U (w.heap.size::S) _ (λ_ h=>h) (I.alloc _) ⟨[_],rfl,?_⟩ Y ⟨λ_=>Bq.alloc _ _,h.kept (Bq.alloc _ _)⟩;unfold Pr;have B:z.length=len*d.size:=by grind[XJ,X9]
     refine⟨_,z,[w.heap.size],S,rfl,rfl,⟨⟨by rw[B,p],.inr ⟨w.heap.size,len,g,by rw[p],h.below.sizeB,qX _ _,Aa,?_,?_,?_⟩⟩,rfl⟩,?_⟩
     ·have:=f.2;have h2:len<=len*d.size:=Nat.le_mul_of_pos_right _ m
      grind[maxLen]
     ·grind
     ·grind
     ·exact Yt W λx v T _ u hr=>Wy (λ_ h=>h) (λb j=>hold w _ b (h.xlt b j)) hr λb j=>hold w _ b (I.hown b (by simp[u b j])).2.1
    ·cases hr
   ·cases hr
  ·cases hr
 ·cases hr
def DD(τ:vJ)(s:St)(tg:Yl)(e:Lb)(parts:Array (Nat×Le)):Option I8:=
 match τ e with
 |some (.arr n t)=>match parts.toList with
  |[]=>K1 ⟨.val (.arr n t) (.u .ow) (Lw n (zero t)),s,K4,K2⟩
  |p::ps=>match Lo (p::ps).length n,gQ tg t 0 (p::ps) s K4 with
   |true,K1 (l,s',mv)=>K1 ⟨.val (.arr n t) (.u .ow) l,s',mv,K2⟩
   |_,_=>K2
 |_=>K2
def Zrz(h:R n W0 w X F H s a)(ht:tg.ok W0.gh a)(hτ:τ.ok P){e:Lb}(ho:o.op=.build e parts){r:I8}(hr:DD τ s tg e parts=K1 r):zG P n W0 w X H s a o r:=by
 unfold DD at hr;split at hr
 ·rename_i m t f;obtain⟨y,W,z,g⟩:=(hτ _ _ f).arr;obtain⟨i,Y,B,_,Z⟩:=(hτ _ _ f).size;obtain⟨j,hj,D,_⟩:=v7 g;have E:(Yh (.arr m t) (Jk (.arr m t))).cells=(Jk (.arr m t)).toArray:=rfl;split at hr
  ·rename_i q;simp only[pB]at hr;subst hr;intro _ K Q u;have c:(execOp a.eval o).run P w=.ok (.value (.agg (Jk (.arr m t)).toArray)) w:=by
    simp_all[execOp,Mr,zeroValue,typeInfo,run_underlying,Ls,L7]
   unfold Lr;rw[c];refine u _ X F [] w (λ_ h=>h) (by simpa using h) ⟨Jk (.arr m t),rfl,?_⟩ (λ_=>rfl) ⟨λ_=>Bq.refl w,h.kept (Bq.refl w)⟩;unfold Pr;exact JL (hτ _ _ f).plain
  ·rename_i p ps q;split at hr
   ·rename_i l s' mv b G;simp only[pB]at hr;subst hr;have b:=pD b;intro _ K Q u;have v:(Jk (.arr m t)).length=m*t.size:=zF (hτ _ _ f).plain;obtain⟨I,S,J,d,k1,L,N,O,U,V⟩:=Gp ht (k:=0) (cs:=(Jk (.arr m t)).toArray) (A:=[]) (M:=Jk (.arr m t)) (C:=[]) h Ac Ac (by rw[v,b]) G;have c:(execOp a.eval o).run P w=.ok (.value (.agg d)) w:=by
     simp only[execOp,ho,Lh,Mr,zeroValue,typeInfo,Lp,run_underlying z,Ln];simp_all[Ls,typeInfo]
    unfold Lr;rw[c];have x:d.toList=J:=by simpa using L
    refine u _ X I S w (λ_ h=>h) U ⟨d.toList,by simp[Yh],?_⟩ V ⟨λ_=>Bq.refl w,h.kept (Bq.refl w)⟩;unfold Pr;rw[x];exact⟨by rw[O,b],N⟩
   ·cases hr
 ·cases hr
def YB(z:List K3):∀(m j:Nat),j<m*z.length->(Lw m z).flatten[j]? =z[j%z.length]?
 |0,j,h=>by simp at h
 |m+1,j,h=>by
  rw[List.replicate_succ,List.flatten_cons];by_cases a:j<z.length
  ·rw[Lt a,Nat.mod_eq_of_lt a]
  ·rw[Lu Aa,YB z m (j-z.length) Ag];simp_all[Nat.mod_eq_sub_mod]
theorem Z23(z:Array K3){l c:Nat}(hlc:l<=c):(madeCells z (c*z.size)).toList.take (l*z.size)=(Lw l z.toList).flatten:=by
 apply Mx;intro j;have d:(Lw l z.toList).flatten.length=l*z.size:=Ac
 by_cases a:j<l*z.size
 ·have b:j<c*z.size:=L6 a (Nu _ hlc);have f:0<z.size:=Nat.pos_of_ne_zero λe=>Af
  rw[List.getElem?_take,if_pos a,YB _ _ _ (by simpa using a)];simp_all[Nat.mod_lt,madeCells]
 grind
def Es(τ:vJ)(s:St)(tg:Yl)(e:Lb)(x y:Le):Option I8:=
 match τ e with
 |some (.slice e' t)=>match τ e',uH s (RO s tg x),uH s (RO s tg y)with
  |some t2,K1 (_,l),K1 (_,c)=>match Lf (t2=t)with
   |true=>K1 ⟨.val (.slice e' t) (.u .ow) (Lw l.toNat (zero t)),s,K4,K1 (0<=l/\l<=c/\c<=Qg)⟩
   |false=>K2
  |_,_,_=>K2
 |_=>K2
def Z5b(h:R n W0 w X F H s a)(ht:tg.ok W0.gh a)(hτ:τ.ok P){e:Lb}(ho:o.op=.makeSlice e x y){r:I8}(hr:Es τ s tg e x y=K1 r):zG P n W0 w X H s a o r:=by
 unfold Es at hr;split at hr
 ·rename_i j t m;split at hr
  ·rename_i f p l q c b u v;split at hr
   ·rename_i z;simp only[pB]at hr;subst hr;have:=pE z;subst this;obtain⟨A,k⟩:=(hτ _ _ m).slice;obtain⟨i,B,C,D,E⟩:=(hτ _ _ b).size;intro G K Q I;obtain⟨J,L,M⟩:0<=l/\l<=c/\c<=Qg:=G;have g:c<=17179869184:=M;have N:=bo h ht u;have O:=bo h ht v;have S:(i.bytes:Int)*c<=281474976710656:=by
     have:(i.bytes:Int)*c<=8192*17179869184:=Int.mul_le_mul Aa g Aa Aa;omega
    have d:(execOp a.eval o).run P w=.ok (.value (.slice (K1 ⟨w.heap.size,0,K2⟩) l.toNat c.toNat)) (w.alloc (.cells (madeCells (Jk f).toArray (c.toNat*i.size)) j)):=by
     simp only[execOp,ho,N,O,Lh,run_make w e j i _ A B E p q l c J L S Aa,Ln,Lp,zY (hτ _ _ b).plain]
    unfold Lr;rw[d];refine I _ X F [w.heap.size] _ (λ_ h=>h) (h.alloc _) ⟨[_],rfl,?_⟩ (λ_=>rfl) ⟨λ_=>Bq.alloc _ _,h.kept (Bq.alloc _ _)⟩;unfold Pr;have U:(Jk f).toArray.size=f.size:=by simp[zF (hτ _ _ b).plain]
    refine⟨_,(Lw l.toNat (Jk f)).flatten,[w.heap.size],[],rfl,rfl,⟨⟨Af,.inr ⟨w.heap.size,c.toNat,_,Ac,h.below.sizeB,qX _ _,Ae,by grind[maxLen],?_,?_⟩⟩,rfl⟩,zL (JL (hτ _ _ b).plain) _⟩
    all_goals grind[size_madeCells,Z23]
   ·cases hr
  ·cases hr
 ·cases hr
def YP(τ:vJ)(s:St)(tg:Yl)(e:Lb)(x y:Le):Option I8:=
 match τ e with
 |some (.slice e' t)=>match τ e' with
  |some t2=>match Lf (t2=t),xB s (RO s tg x) (.slice e' t)with
   |true,K1 ⟨.slice e1 t1,.u .ow,l,s1,_⟩=>match Lf (e1=e'/\t1=t)with
    |true=>match t.flat,YH s1 (RO s1 tg y)with
     |true,K1 ⟨_,t3,_,l3⟩=>match Jz (.slice e' t1) (.slice e' t3) l3 with
      |some l4=>K1 ⟨.val (.slice e' t1) (.u .ow) (l++l4),s1,La,K1 (l.length+l4.length<=Qg)⟩
      |none=>K2
     |false,_=>match xB s1 (RO s1 tg y) (.slice e' t)with
      |some ⟨.slice e3 t3,.u .ow,l3,s2,_⟩=>match Jz (.slice e' t1) (.slice e3 t3) l3 with
       |some l4=>K1 ⟨.val (.slice e' t1) (.u .ow) (l++l4),s2,La,K1 (l.length+l4.length<=Qg)⟩
       |none=>K2
      |_=>K2
     |_,_=>K2
    |false=>K2
   |_,_=>K2
  |none=>K2
 |_=>K2
def OX{e:Lb}{t:Ty}(hT:Fs P e (.slice e' t))(hT2:Fs P e' t){vy:K3}{l l4:List t.den}
  (hown:w.ownsRow B e' t.size v l.length xs) (hy:∃ad cap,vy=.slice ad l4.length cap/\l4.length<=cap/\((ad=K2/\l4.length=0/\cap=0)\/ ∃a0,ad=K1 a0/\ ∀j u,ys[j]? =K1 u->w.cell? (a0.add j)=K1 u)) (hyl:ys.length=l4.length*t.size)
  (h1:∀u∈ys,u.oneCell'=La) (hp:l.length+l4.length<=Qg) (hB:B<=w.heap.size):
  ∃v' w',(Mi #[e,e] e #[v,vy]).run P w=.ok v' w'/\w'.ownsRow B e' t.size v' (l.length+l4.length) (xs++ys)/\w.grownBy w' v.ownBlock/\(v'.ownBlock=v.ownBlock\/ ∀b,v'.ownBlock=K1 b->w.heap.size<=b):=by
 obtain⟨o,f⟩:=hT.slice;obtain⟨i,p,a,E,F⟩:=hT2.size;have r:(Yh t (Jk t)).cells.size=t.size:=by rw[zY hT2.plain];simp[zF hT2.plain]
 have G:l.length+l4.length<=17179869184:=hp;obtain⟨ad,cap,rfl,Q,q⟩:=hy;rcases q with⟨rfl,s,rfl⟩|⟨a0,rfl,q⟩
 ·have H:ys=[]:=Mc Af;subst H;have x:=hown.2;rcases x with⟨rfl,N⟩|⟨g,cap,h,rfl,I,O,y,J,z,K⟩
  ·refine⟨.slice K2 0 0,w,?_,Af,⟨rfl,rfl,rfl,Lx _,λ_ _ _=>rfl⟩,.inl rfl⟩;rw[s];simp[Mi,run_underlying o,Ls,typeInfo,p,Nb,Na]
  ·refine⟨.slice (K1 ⟨g,0,K2⟩) l.length cap,w,?_,Af,⟨rfl,rfl,rfl,Lx _,λ_ _ _=>rfl⟩,.inl rfl⟩;rw[s];simp[Mi,run_underlying o,Ls,typeInfo,p,Nb,Na,y,storeCells]
 ·have k:(l.length+l4.length)*i.bytes<=140737488355328:=by
   have:(l.length+l4.length)*i.bytes<=17179869184*8192:=Nat.mul_le_mul G E;omega
  have A:l.length+l4.length<=maxLen:=by grind[maxLen]
  obtain⟨v',w',L,S,U,_⟩:=run_append_own (P:=P) w B e e e' i _ t.size i.bytes o p F a rfl r f v l.length xs hown a0 l4.length cap ys hyl q h1 A k hB;refine⟨v',w',L,S,U,?_⟩;rcases hown.2 with⟨rfl,N⟩|⟨g,c,h,rfl,I,O,y,J,z,K⟩
  ·have m:w.ownsRow w.heap.size e' t.size (.slice K2 0 0) l.length xs:=⟨hown.1,.inl ⟨rfl,N⟩⟩
   obtain⟨W,X,M,V,_⟩:=run_append_own (P:=P) w w.heap.size e e e' i _ t.size i.bytes o p F a rfl r f _ l.length xs m a0 l4.length cap ys hyl q h1 A k (Lx _);rw[L]at M;simp only[Nv]at M;obtain⟨rfl,rfl⟩:=M;exact .inr λb I=>(V.lt b I).1
  ·by_cases d:l.length+l4.length<=c
   ·have C:l.length*i.size+ys.length<=h.size:=by rw[hyl,z,a,<-Mn];exact Nu _ d
    have D:=run_append_room (P:=P) w e e e' i o p g l.length c h O a0 l4.length cap ys (by rw[hyl,a]) q h1 d C;rw[L]at D;simp only[Nv]at D;exact .inl (by rw[D.1];rfl)
   ·have n:∀j u,xs[j]? =K1 u->w.cell? ((⟨g,0,K2⟩:Ld).add j)=K1 u:=hown.cells (g:=g) rfl;have D:=run_append_grow (P:=P) w e e e' i _ o p F ⟨g,0,K2⟩ l.length c xs (by rw[hown.1,a]) n a0 l4.length cap ys (by rw[hyl,a]) q Aa Aa (growslice_fits Aa k)
    grind[L1]
def C2{B':Nat}{e:Lb}{nn:Nat}(h:w.ownsRow B e sz v nn xs)(hB:B'<=B):w.ownsRow B' e sz v nn xs:=⟨h.1,h.2.imp id λ⟨g,a,b,c,d,f⟩=>⟨g,a,b,c,Me hB d,f⟩⟩
def mh{S1 S2 S4:List Nat}(h:R n W0 w X F (S1++(S2++(S4++H))) s a){t:Ty}{v':K3}{l l4:List t.den}
  (h1:ep w X W0.B .ow e' t.size l.length v xs S1) (h2:cS (rd w X W0.B .ow t) l xs S2) (h4:cS (rd w X W0.B .ow t) l4 ys S4)
  (g2:w'.ownsRow W0.B e' t.size v' (l.length+l4.length) (xs++ys)) (g3:w.grownBy w' v.ownBlock) (g4:v'.ownBlock=v.ownBlock\/ ∀b,v'.ownBlock=K1 b->w.heap.size<=b):
  ∃S,R n W0 w' X F (S++H) s a/\rd w' X W0.B .ow (.slice e' t) (l++l4) [v'] S/\(∀b,X b->w'.heap[b]? =w.heap[b]?)/\ ∀k b,b∈F k->w'.heap[b]? =w.heap[b]? :=by
 have j:S1=v.ownBlock.toList:=h1.2;have d:∀b,b<w.heap.size->b∉S1->w'.heap[b]? =w.heap[b]? :=λb c z=>g3.block b c (λe=>z Af);have i:=h.pK;have m:∀b,X b->w'.heap[b]? =w.heap[b]? :=λb c=>d b (h.xlt b c) λf=>(h.hown b (by simp[f])).2.2 c;have r:∀k b,b∈F k->w'.heap[b]? =w.heap[b]? :=λk b c=>d b (h.own k b c).2.1 λf=>h.pL k b c (by simp[f]);have g:∀b,b∈S2++(S4++H)->b∉S1:=λb c f=>(Lg.1 i).2.2 b f b c rfl;have A:∀b,b∈S2++(S4++H)->w'.heap[b]? =w.heap[b]? :=λb c=>d b (h.hown b Af).2.1 (g b c);have o:W0.below w':=⟨g3.os.trans h.below.os,g3.tape.trans h.below.tape,g3.output.trans h.below.output,Me h.below.size g3.size,λk hk=>
  (d k (L6 (W0.yW k hk) h.below.size) λf=>W0.sep hk (h.hown k (by simp[f])).1 rfl).trans (h.below.block k hk)⟩
 have u:=(h.drop).world o g3.size m r;have p:=g2.lt;have C:R n W0 w' X F (v'.ownBlock.toList++(S2++(S4++H))) s a:=by
  rcases g4 with g4|g4
  ·rw[g4,<-j];refine u.hand (λb c=>?_) (Lg.1 i).1 (λk b c f=>h.pL k b c (by simp[f])) (λb c f=>g b f c);obtain⟨I,J,K⟩:=h.hown b (by simp[c]);simp_all
  ·refine u.hand (λb c=>?_) Ag (λk b c f=>?_) (λb c f=>?_)
   ·have c:v'.ownBlock=K1 b:=by simpa using c
    exact⟨.inl (Me h.below.size (g4 b c)),(p b c).2,λhx=>Ag⟩
   all_goals grind
 have y:∀{l:List t.den}{xs:List K3}{S:List Nat},cS (rd w X W0.B .ow t) l xs S->(∀b∈S,b∈S2++(S4++H))->cS (rd w' X W0.B .ow t) l xs S:=λD E=>
  Yt D λx v T _ G q=>Wy (λ_ h=>h) m q λb c=>A b (E b (G b c))
 refine⟨v'.ownBlock.toList++(S2++S4),Af,⟨v',xs++ys,v'.ownBlock.toList,S2++S4,rfl,rfl,⟨by simpa using g2,rfl⟩,?_⟩,m,r⟩;simp_all[nD]
def Zy7(h:R n W0 w X F H s a)(ht:tg.ok W0.gh a)(hτ:τ.ok P){e:Lb}(ho:o.op=.call {callee:=.builtin .append,args:= #[x,y],argTypes:= #[e,e]}){r:I8}(hr:YP τ s tg e x y=K1 r):zG P n W0 w X H s a o r:=by
 unfold YP at hr;split at hr
 ·rename_i e' t hT;split at hr
  ·rename_i t2 O;split at hr
   ·rename_i e1 U l s1 m1 hd hx;have:=pE hd;subst this;obtain⟨_,F1,S,vs,q1,V,I,_,_⟩:=cP h ht hx;split at hr
    ·rename_i W;obtain⟨rfl,rfl⟩:=pE W;simp only at q1 V I;unfold Pr at V;obtain⟨v,xs,Y,Z,rfl,rfl,k1,k2⟩:=V;have fin:∀{i m S4 z f}{p:K3}{r:I8},R n W0 w X m (S4++((Y++Z)++H)) i a->(∀r,s.isBox r->i.isBox r)->a.eval y=p->
       (∃A d,p=.slice A f.length d/\f.length<=d/\((A=K2/\f.length=0/\d=0)\/ ∃J,A=K1 J/\ ∀j u,z[j]? =K1 u->w.cell? (J.add j)=K1 u))->
       cS (rd w X W0.B .ow U) f z S4->r=⟨.val (.slice e1 U) (.u .ow) (l++f),i,La,K1 (l.length+f.length<=Qg)⟩->zG P n W0 w X H s a o r:=by
      intro i m S4 z f p r hR ab q hc c ar;subst ar;intro L K Q hK;obtain⟨v',M,g1,N,C,g4⟩:=OX (P:=P) (hτ _ _ hT) (hτ _ _ O) k1.1 hc (XJ (λ_ _ _ h=>X9 h) c) (XK (λ_ _ _ h=>kd h) c) L h.below.sizeB;have au:R n W0 w X m (Y++(Z++(S4++H))) i a:=hR.sub (λb g=>Ag) (by
       have:=hR.pK;simp only[Lg,Lm]at this⊢
       grind)
      obtain⟨S',z1,z2,z3,z4⟩:=mh au k1 k2 c N C g4;have a1:a.eval x=v:=q1;have D:(execOp a.eval o).run P w=.ok (.value v') M:=by
       simp only[execOp,ho];have a2:(Mi #[e,e] o.type #[v,p]).run P w=.ok v' M:=g1;simp[resolve,invoke,builtin,a1,q,a2]
      have E:vT W0.gh X s a K2 w M:=by
       intro b g;rcases g with g|⟨r,h1,_,h2⟩
       ·exact z3 b g
       ·obtain⟨S,h3⟩:=hR.boxIn (ab r h1) h2
        grind
      unfold Lr;rw[D];exact hK _ X m S' M (λ_ h=>h) z1 ⟨[v'],rfl,Aq⟩ Ac ⟨λL=>(by rw[ho]at L;cases L),E⟩
     split at hr
     ·rename_i e3 t3 b3 l3 G q;split at hr
      ·rename_i f k;simp only[pB]at hr;have:=Wu k;cases this;obtain⟨p,z,T1,T2,g1,N,C,g4⟩:=E1 I ht q;have g5:=iP (r':=rd w X W0.B .ow U) (λx v S h=>ez G h) C;refine fin (S4:=[]) (by simpa using I) (λr g=>ZA hx g) g1 ?_ g5.2 hr.symm
       grind[aw]
      ·cases hr
     ·rename_i G;split at hr
      ·rename_i e3 t3 l3 i m2 q;split at hr
       ·rename_i f k;simp only[pB]at hr;have:=Wu k;cases this;obtain⟨_,m,S4,a4,u1,u2,u3,_,_⟩:=cP I ht q;simp only at u1 u2 u3;unfold Pr at u2;obtain⟨p,z,T1,T2,rfl,rfl,N,C⟩:=u2;have a3:R n W0 w X m (T2++((Y++Z)++H)) i a:=by
         rw[Ml]at u3;exact u3.drop
        refine fin a3 (λr g=>ZA q (ZA hx g)) u1 ?_ C hr.symm;obtain⟨A,d,z1,z2,_,z3⟩:=aw N;exact⟨A,d,z1,z2,z3.imp id λ⟨J,u1,_,u2⟩=>⟨J,u1,u2⟩⟩
       ·cases hr
      ·cases hr
     ·cases hr
    ·cases hr
   ·cases hr
  ·cases hr
 ·cases hr
end Go.Am

/- No condition. -/
import Derived.Test.YtcnklikmapfnmaaGreatDoorAm1
import Derived.Great.BuildSlice
import Derived.WalkKit
import Derived.Laws.StructEq
import Derived.ChangeKeysEq
import Derived.Still
set_option linter.all false
namespace Go.Am
noncomputable section
open Go.RowKit
open Option renaming some→K1,none→K2,bind_eq_some_iff→Lx,map_eq_some_iff→Mr
open Bool renaming true→K3,false→K4,not_eq_true'→Lw,or_eq_true→Mw
open Go renaming Value→La,Oper→Lb,Operand→Lc,TypeId→Ld,World→Le,FuncId→Lg,Program→Lh,Result→Ln,Addr→Lz,isAgg→L3,binOp→Mb,sizeOf→Mx
open Nat renaming beq→Lf,blt→Lj,le_refl→Ll,blt_eq→Lo,le_trans→Ls,lt_or_ge→L0,zero_le→L6,lt_of_lt_of_le→Mc,ble→Mo,zero_add→Mp,add_right_comm→M4,beq_refl→M5
open Region renaming wanted→Li,ready→L1,binds→L2
open List renaming nodup_append→Lk,all_eq_true→Lv,mem_cons→L4,nodup_cons→L5,append_assoc→Mf,append_eq_nil_iff→Mg,getElem?_cons_zero→Mh,mem_of_getElem?→Mi,length_eq_one_iff→Mm,mem_singleton→Mn,any_eq_true→Mz,cons_append→M1,getElem?_map→M2,mem_cons_of_mem→M3,eq_nil_of_length_eq_zero→Nc,find?_some→Nd,getElem?_eq_getElem→Nf,getElem?_of_mem→Ng,length_cons→Nh,mem_cons_self→Ni,mem_of_find?_eq_some→Nj,mem_range→Nk,nodup_nil→Nl,range→Nm
open Oper renaming wp→Lm,upon→Lr,upon_enter→Mj,apart_spec→Nn
open Ne renaming symm→Lp
open Result renaming andThen_ok→Lq
open Sem renaming run_bind→Lt,run_pure→L8
open List.cons renaming inj→Lu,injEq→M0
open Decidable renaming decide→Ly
open Op renaming equalIn→L7,equal→Mq,eqFields→M6
open Act renaming put_comm→L9,eval→Mu
open Deferred renaming ofValue→Ma
open Addr renaming add→Md
open List.Sublist renaming refl→Me
open Classical renaming byContradiction→Mk
open Instr renaming extract→Ml,makeFunc→My,fill→Na,indexAt→Nb
open Sigma.mk renaming injEq→Ms
open World renaming cell?_of_block→Mt
open Addr.mk renaming injEq→Mv
open Value.pointer renaming injEq→M7
open Builtin renaming append_→M8
open ByteArray renaming toList_eq→M9
open Program renaming fieldsOf→Np
open Value renaming ownBlock→Nq,pointer→Nr
variable{a' a:Act}{K:Act->Le->Prop}{parts:Array (Nat×Lc)}{listed:Array Bool}{ops:Array Lb}{xs:Array Lc}{ats:Array Ld}{op:BinOp}{b:Bool}{Q:Exit->Act->Le->Prop}{fn:Func}{fs:List Field}{S:List Nat}{rv:List ResultVar}{ts:List Tm}{vs:List La}{d k j B sz n len m off:Nat}{X Sh:Nat->Prop}{o oi oj:Lb}{fo:Lc}{P:Lh}{s:St}{U:TV}{ρ:Type}{e2:Ld}{w w':Le}{I:Le->Prop}{tg:Y7}
@[reducible] def dJ:List Ty->Type|[]=>Unit|t::ts=>t.den×dJ ts
def GC(w:Le)(X:Nat->Prop)(B:Nat):(ts:List Ty)->dJ ts->List La->Prop|[],_,vs=>vs=[]|t::ts,x,vs=> ∃cs us,vs=Kx t cs::us/\rd w X B K4 t x.1 cs []/\GC w X B ts x.2 us
def xG(w:Le)(B:Nat):(ts:List Ty)->dJ ts->List La->List Nat->Prop|[],_,vs,S=>vs=[]/\S=[]|t::ts,x,vs,S=> ∃cs us S1 S2,vs=Kx t cs::us/\S=S1++S2/\rd w (λ_=>False) B K3 t x.1 cs S1/\xG w B ts x.2 us S2
def ak(vs:List La):La:=
 match vs with
 |[v]=>v
 |vs=>.tuple vs.toArray
structure P3 where
 f:Lg
 args:List Ty
 res:List Ty
 F:dJ args->Option (dJ res)
structure bQ(P:Lh)(g:Jh)(e:P3):Prop where
 enters:∀args w,(callFunc e.f args).run P w=.ok (.enter e.f args) w
 calls:∀(w:Le)(xs:dJ e.args)(r:dJ e.res)(vals:List La),g.G w->GC w (· <w.heap.size) 0 e.args xs vals->e.F xs=K1 r->
  Calls P e.f vals.toArray w λen w'=> ∃rs S,en=.returned (ak rs)/\xG w' w.heap.size e.res r rs S/\S.Nodup/\Below w.heap.size w w'
abbrev IC:=List P3
def IC.find(Γ:IC)(f:Lg):Option P3:=
 match Γ with
 |[]=>K2
 |e::r=>match Lf e.f f with|true=>K1 e|false=>IC.find r f
def IC.ok(Γ:IC)(P:Lh)(g:Jh):Prop:= ∀e∈Γ,bQ P g e
def IC.find_ok{Γ:IC}{g:Jh}(h:Γ.ok P g){f:Lg}{e:P3}(he:Γ.find f=K1 e):e.f=f/\bQ P g e:=by
 induction Γ with
 |nil=>cases he
 |cons x r a=>
  simp only[IC.find]at he;split at he
  ·rename_i b;simp only[pB]at he;subst he;exact⟨pD b,h _ Ac⟩
  ·exact a (λe he=>h e (by simp[he])) he
variable {P:Lh}{g:Jh}{W0:fW g}{w w':Le}{X X':Nat->Prop}{B B' n:Nat}{own:Bool}{s:St}{F:Bk->List Nat}{a:Act}{H H':List Nat}{o:Lb}{tg:Y7}{τ:nR}{gh:Nat->La}
theorem lu(hB:B'<=B)(hX:∀b,X b->X' b):∀{T:Ty}{x:T.den}{vs:List La}{S:List Nat},rd w X B own T x vs S->rd w X' B' own T x vs S
 |.unit,_,_,_,h|.int _,_,_,_,h|.bool,_,_,_,h|.fnc _,_,_,_,h|.str,_,_,_,h=>h
 |.slice _ _,_,_,_,⟨v,l,g,i,e,j,d,f⟩=>by
  refine⟨v,l,g,i,e,j,?_,J0 f λ_ _ _ _ _ h=>lu hB hX h⟩;cases own
  ·obtain⟨m,p,a,k,q,r,s,u⟩:=d;exact⟨m,p,a,k,q,r,s,u.imp id λ⟨z,A,C,D⟩=>⟨z,A,C.imp id (hX _),D⟩⟩
  ·exact⟨DZ d.1 hB,d.2⟩
 |.pair a b,_,_,_,⟨E,F,g,i,e,j,d,f⟩=>⟨E,F,g,i,e,j,lu hB hX d,lu hB hX f⟩
 |.arr n t,_,_,_,⟨h,G⟩=>⟨h,J0 G λ_ _ _ _ _ h=>lu hB hX h⟩
 |.err,_,_,_,h=>h
 |.hid _,_,_,_,⟨e,y,h⟩=>⟨e,y,lu hB hX h⟩
 |.sptr ..,_,_,_,⟨e,o,b,c,d,f,H,I⟩=>⟨e,o,b,c,d,hX b f,H,lu hB hX I⟩
 |.clo ..,_,_,_,⟨e,J,d,f⟩=>⟨e,J,d,lu hB hX f⟩
def JQ(s:St)(tg:Y7):(ts:List Ty)->List Lc->Option (dJ ts)
 |[],[]=>K1 ()
 |t::ts,x::xs=>match de s (Gj s tg x) t,JQ s tg ts xs with
  |some u,K1 us=>K1 (u,us)
  |_,_=>K2
 |_,_=>K2
def UV(h:R n W0 w X F H s a)(ht:tg.ok W0.gh a):∀{ts:List Ty}{xs:List Lc}{us:dJ ts},JQ s tg ts xs=K1 us->GC w (· <w.heap.size) 0 ts us (xs.map a.eval)
 |[],[],us,_=>rfl
 |t::ts,x::xs,us,b=>by
  simp only[JQ]at b;split at b
  ·rename_i u d e c;simp only[pB]at b;subst b;obtain⟨f,g,i⟩:=fa h ht e;exact⟨f,_,by simp[g],lu (L6 _) (λ_ h=>h) i,UV h ht c⟩
  ·cases b
 |[],_::_,_,b=>by grind[JQ]
 |_::_,[],_,b=>by grind[JQ]
def MJ(d:Nat):(ts:List Ty)->dJ ts->Nat->List (Bk×Tm)->List (Bk×Tm)|[],_,_,r=>r|t::ts,x,i,r=>MJ d ts x.2 (i+1) ((.c d i,.val t (.u K3) x.1)::r)
def Bn(d:Nat)(s:St):(ts:List Ty)->dJ ts->St|[t],r=>Jt s d (.val t (.u K3) r.1)|[],r=>{env:=MJ d [] r 0 (Jt s d .tup).env,pP:=(Jt s d .tup).pP,pQ:=s.pQ}|t::u::ts,r=>{env:=MJ d (t::u::ts) r 0 (Jt s d .tup).env,pP:=(Jt s d .tup).pP,pQ:=s.pQ}
def NL{ρ:Type}(Γ:IC)(n:Nat)(s:St)(tg:Y7)(dst:Option Nat)(f:Lg)(xs:List Lc)(k:St->Option ρ):Option ρ:=
 match Γ.find f with
 |none=>K2
 |some e=>match JQ s tg e.args xs with
  |none=>K2
  |some us=>match dst with
   |none=>(e.F us).bind λ_=>k s
   |some d=>match aX s d&&Lj d n with
    |false=>K2
    |true=>(e.F us).bind λr=>k (Bn d s e.res r)
def R.below'(h:R n W0 w X F H s a)(hb:Below w.heap.size w w'):R n W0 w' X F H s a:=h.world (h.below.step hb) hb.size (λb c=>hb.block b (h.xlt b c)) (λk b c=>hb.block b (h.own k b c).2.1)
def Tx:∀{ts:List Ty}{x:dJ ts}{rs:List La}{S:List Nat},xG w B ts x rs S->rs.length=ts.length
 |[],_,_,_,h=>by simp[h.1]
 |t::ts,_,_,_,⟨_,_,_,_,e,_,_,h⟩=>by simp[e,Tx h]
def XP{rs:List La}(h:rs.length≠1):ak rs=.tuple rs.toArray:=by
 unfold ak
 grind
def R.putTup{ts:List Ty}{x:dJ ts}(h:R n W0 w X F (S++H) s a)(hd:aX s d=K3)(hn:d<n)(hx:xG w W0.B ts x vs S):
  ∃F',R n W0 w X F' H {env:=MJ d ts x 0 (Jt s d .tup).env,pP:=(Jt s d .tup).pP,pQ:=s.pQ} (a.put (K1 d) (.tuple vs.toArray)):=by
 have Q:R n W0 w X (Xp F (.m d) []) (S++H) (Jt s d .tup) (a.put (K1 d) (.tuple vs.toArray)):=(by simpa using h:R n W0 w X F ([]++(S++H)) s a).put hd hn rfl;have q:zD W0.gh (a.put (K1 d) (.tuple vs.toArray)) d=.tuple vs.toArray:=yA (a:=a) (by rw[h.size];exact hn);have G:∀i,(Jt s d .tup).get (.c d i)=.pR:=λi=>by
  rw[vk];simp only[reduceCtorEq,if_false];exact Mk λv=>by have:=(h.pM d i v).1;simp_all[aX]
 suffices hs:∀(ts:List Ty)(x:dJ ts)(E:List La)(i:Nat)(S:List Nat)(F:Bk->List Nat)(r:List (Bk×Tm))(pre:List La),vs=pre++E->pre.length=i->xG w W0.B ts x E S->
   R n W0 w X F (S++H) {env:=r,pP:=(Jt s d .tup).pP,pQ:=s.pQ} (a.put (K1 d) (.tuple vs.toArray))->oq r (.m d)=.tup->(∀j,i<=j->oq r (.c d j)=.pR)->
   ∃F',R n W0 w X F' H {env:=MJ d ts x i r,pP:=(Jt s d .tup).pP,pQ:=s.pQ} (a.put (K1 d) (.tuple vs.toArray)) by
  obtain⟨F',y⟩:=hs ts x vs 0 S _ (Jt s d .tup).env [] rfl rfl hx Q (OT _ _ _) (λj _=>G j)
  grind
 intro ts
 induction ts with
 |nil=>
  intro x E i S F r pre _ _ hx f _ _;obtain⟨rfl,rfl⟩:=hx;exact⟨F,f⟩
 |cons t ts U=>
  intro x E i S F r pre I z hx f A o;obtain⟨J,K,N,O,rfl,rfl,L,M⟩:=hx
  have p:Xj W0.gh (a.put (K1 d) (.tuple vs.toArray)) (.c d i)=Kx t J:=by
   simp_all[Xj]
  have C:R n W0 w X (Xp F (.c d i) N) (O++H) {env:=(.c d i,.val t (.u K3) x.1)::r,pP:=(Jt s d .tup).pP,pQ:=s.pQ} (a.put (K1 d) (.tuple vs.toArray)):=by
   have V:F (.c d i)=[]:=by
    have:=f.slots (.c d i);simp only[St.get,o i (Ll _)]at this;exact this
   have D:=f.pK;rw[Mf]at D;exact
   {size:=f.size
    defers:=f.defers
    below:=f.below
    glob:=f.glob
    gx:=f.gx
    xs:=f.xs
    fix:=f.fix
    xlt:=f.xlt
    xin:=f.xin
    x0:=f.x0
    own:=λk b g=>by
     simp only[Xp]at g;split at g
     ·exact f.hown b (by simp[g])
     ·exact f.own k b g
    nodup:=λk=>by
     simp only[Xp];split
     ·grind
     ·exact f.nodup k
    pS:=λk P b g l=>by
     simp only[Xp]at g l;split at g<;>split at l
     ·simp_all
     ·exact absurd (by simp[g]) (f.pL P b l)
     ·exact absurd (by simp[l]) (f.pL k b g)
     ·exact f.pS k P b g l
    hown:=λb g=>f.hown b Af
    pK:=(Lk.1 D).2.1
    pL:=λk b g hh=>by
     simp only[Xp]at g;split at g
     ·grind
     ·exact f.pL k b g Af
    pM:=λW j v=>by
     simp only[St.get,Ql]at v⊢;simp only[reduceCtorEq,if_false];split at v
     ·rename_i e;simp only[Bk.c.injEq]at e;obtain⟨rfl,rfl⟩:=e;refine⟨A,vs.toArray,q,?_⟩;simp_all
     ·exact f.pM W j v
    slots:=λk=>by
     by_cases hk:k=.c d i
     ·subst hk;simp only[St.get,Ql,if_true,Xp];exact⟨J,p,by unfold TZ;exact lu (Ll _) (λ_ h=>h.elim) L⟩
     ·have Y:St.get {env:=(Bk.c d i,Tm.val t (.u K3) x.1)::r,pP:=(Jt s d .tup).pP,pQ:=s.pQ} k=St.get {env:=r,pP:=(Jt s d .tup).pP,pQ:=s.pQ} k:=by simp[St.get,Ql,Lp hk]
      have Z:Xp F (.c d i) N k=F k:=by simp[Xp,hk]
      rw[Y,Z];exact s9 (s:={env:=r,pP:=(Jt s d .tup).pP,pQ:=s.pQ}) (f.slots k)}
  obtain⟨F',y⟩:=U x.2 K (i+1) O _ _ (pre++[Kx t J]) (by rw[I];simp) (by simp[z]) M C (by simp_all[Ql]) (λj hj=>by
   rw[Ql,if_neg Ae];grind)
  exact⟨F',y⟩
def R.putRes{rs:List La}:∀{ts:List Ty}{x:dJ ts}{S:List Nat},R n W0 w X F (S++H) s a->aX s d=K3->d<n->xG w W0.B ts x rs S->
  ∃F',R n W0 w X F' H (Bn d s ts x) (a.put (K1 d) (ak rs))
 |[],x,S,h,b,c,hx=>by
  rw[XP (by rw[Tx hx];simp)];exact h.putTup b c hx
 |[t],x,S,h,b,c,hx=>by
  obtain⟨e,f,i,j,rfl,rfl,g,rfl,rfl⟩:=hx;exact⟨_,h.put b c ⟨e,rfl,by unfold TZ;exact lu (Ll _) (λ_ (h:False)=>h.elim) (by simpa using g)⟩⟩
 |t::u::ts,x,S,h,b,c,hx=>by
  rw[XP (by rw[Tx hx];simp)];exact h.putTup b c hx
def LD(s:St)(tg:Y7)(x:Lc):Option Lg:=
 match YQ s (Gj s tg x)with
 |some ⟨.fnc f,_,_⟩=>K1 f
 |_=>K2
def XB(h:R n W0 w X F H s a)(ht:tg.ok W0.gh a){x:Lc}{f:Lg}(hf:LD s tg x=K1 f):a.eval x=.func (.func f) #[] #[]:=by
 unfold LD at hf;split at hf
 ·rename_i g k y d;simp only[pB]at hf;subst hf;obtain⟨c,l,S,e,i,_⟩:=mE h ht d;have j:=Vn (X':=λb=>X b\/b∈S) (λ_ h=>.inl h) c i (λ_ h=>.inr h);rw[e,j.1];rfl
 ·cases hf
def Rn{Γ:IC}(hΓ:Γ.ok P g)(h:R n W0 w X F H s a)(ht:tg.ok W0.gh a){f:Lg}(hfo:a.eval fo=.func (.func f) #[] #[])(ho:o.op=.call {callee:=.value fo,args:=xs,argTypes:=ats}){e:P3}(he:Γ.find f=K1 e)
  {us:dJ e.args} (hus:JQ s tg e.args xs.toList=K1 us) {rv:dJ e.res} (hpre:e.F us=K1 rv) 
  (hK:∀rs S w',R n W0 w' X F (S++H) s a->xG w' W0.B e.res rv rs S->H6 w w'->K (a.put o.dst (ak rs)) w'):o.wp P a w K Q:=by
 obtain⟨z,l⟩:=IC.find_ok hΓ he;subst z;have A:=l.calls w us rv (xs.toList.map a.eval) h.glob (UV h ht hus) hpre;have m:(execOp a.eval o).run P w=.ok (.enter e.f (xs.toList.map a.eval).toArray) w:=by
  have:execOp a.eval o=callFunc e.f (xs.map a.eval):=by
   simp_all[execOp,resolve,Ma,invoke]
  rw[this,l.enters];congr 2
  grind
 unfold Lm;rw[m,Mj];refine A.mono λE w' ⟨rs,S,u,p,v,q⟩=>?_;subst u;show K (a.put o.dst (ak rs)) w';have r:∀{i:List Ty}{x:dJ i}{rs:List La}{S:List Nat},xG w' w.heap.size i x rs S->(∀b∈S,w.heap.size<=b/\b<w'.heap.size)/\xG w' W0.B i x rs S:=by
  intro i
  induction i with
  |nil=>intro x rs S h;exact⟨by simp[h.2],h⟩
  |cons t i C=>
   intro x rs S ⟨cs,us,S1,S2,e1,e2,g1,g2⟩;obtain⟨G,D⟩:=C g2;refine⟨λb j=>?_,cs,us,S1,S2,e1,e2,lu h.below.sizeB (λ_ h=>h) g1,D⟩
   grind[ni]
 obtain⟨c,d⟩:=r p;exact hK rs S w' ((h.below' q).hand (λb j=>⟨.inl (Ls h.below.size (c b j).1),(c b j).2,λhx=>by have:=h.xlt b hx;grind⟩) v
  (λk b j y=>by have:=(h.own k b j).2.1;grind) (λb j y=>by have:=(h.hown b y).2.1;grind)) d (λk hk=>q.block k hk)
def Qcz{Γ:IC}(hΓ:Γ.ok P g)(h:R n W0 w X F H s a)(ht:tg.ok W0.gh a){f:Lg}(hfo:a.eval fo=.func (.func f) #[] #[])(ho:o.op=.call {callee:=.value fo,args:=xs,argTypes:=ats}){k:St->Option ρ}{r:ρ}(hr:NL Γ n s tg o.dst f xs.toList k=K1 r)
   (hK:∀v w' F' s',k s'=K1 r->R n W0 w' X F' H s' (a.put o.dst v)->H6 w w'->K (a.put o.dst v) w'):o.wp P a w K Q:=by
 unfold NL at hr;split at hr
 ·cases hr
 ·rename_i e p;split at hr
  ·cases hr
  ·rename_i x j;cases hd:o.dst with
   |none=>
    rw[hd]at hr;simp only[Lx]at hr;obtain⟨t,c,hk⟩:=hr;refine Rn hΓ h ht hfo ho p j c λq S w' m b hold=>?_;have l:=hK (ak q) w' F s hk;rw[hd]at l⊢;exact l m.drop hold
   |some d=>
    rw[hd]at hr;simp only at hr;split at hr
    ·cases hr
    ·rename_i i;simp only[pC,Lo]at i;simp only[Lx]at hr;obtain⟨t,c,hk⟩:=hr;refine Rn hΓ h ht hfo ho p j c λq S w' m b hold=>?_;obtain⟨F',u⟩:=m.putRes i.1 i.2 b
     grind
def Fj(k d:Nat):List (Bk×Tm)->List (Bk×Tm)
 |[]=>[]
 |(.c t i,x)::r=>match Lf t k with
  |true=>(.c d i,x)::Fj k d r
  |false=>match Lf t d with
   |true=>Fj k d r
   |false=>(.c t i,x)::Fj k d r
 |(.m t,x)::r=>(.m t,x)::Fj k d r
def Hi(k d t:Nat):∀l,oq (Fj k d l) (.m t)=oq l (.m t)
 |[]=>rfl
 |(.c a i,x)::r=>by
  simp only[Fj];split
  ·simp only[Ql,reduceCtorEq,if_false,Hi k d t r]
  ·split
   ·simp only[Ql,reduceCtorEq,if_false,Hi k d t r]
   ·simp only[Ql,reduceCtorEq,if_false,Hi k d t r]
 |(.m a,x)::r=>by simp only[Fj,Ql,Hi k d t r]
def Ef{k d:Nat}(hkd:k≠d)(t i:Nat):∀l,oq (Fj k d l) (.c t i)=ite (t=d) (oq l (.c k i)) (ite (t=k) (.pR) (oq l (.c t i)))
 |[]=>by simp[Fj,oq]
 |(.c a j,x)::r=>by
  have b:=Ef hkd t i r;simp only[Fj];split
  ·rename_i h;have h:=pD h;subst h;simp only[Ql,b,Bk.c.injEq]
   grind
  ·rename_i h;have f:a≠k:=λe=>Af
   split
   ·simp_all[Ql,Lp]
   grind[M5,Ql]
 |(.m a,x)::r=>by simp only[Fj,Ql,reduceCtorEq,if_false,Ef hkd t i r]
def Z0n(s:St)(k d:Nat):St:={env:=Fj k d ((.m d,.tup)::s.env),pP:=(Jt s d .tup).pP,pQ:=s.pQ}
variable {s1 s2:St}{F1 F2:Bk->List Nat}
def Q2k(hg:∀t,s2.get (.m t)=s1.get (.m t))(hd:s2.pP=s1.pP)(hF:∀t,F2 (.m t)=F1 (.m t)){v:La}:∀{u:Tm},vt gh w X B s1 F1 a v S u->vt gh w X B s2 F2 a v S u:=by
 have s:∀r,s2.pN r=s1.pN r:=λr=>by simp_all[St.pN]
 have hv:∀{r p v U},Yl gh w s1 F1 a r p v U->Yl gh w s2 F2 a r p v U:=by
  simp_all[Yl]
 intro u h
 induction u with
 |pR=>exact h
 |tup=>exact h
 |val=>exact h
 |box=>exact h
 |shp=>exact h
 |ptr r p=>
  obtain⟨z,e,T,f,x,b,j,c,d,k⟩:=h;exact⟨z,e,T,f,x,b,j,by rw[hg];exact c,by rw[hF];exact d,k⟩
 |aep r p i=>
  obtain⟨z,e,T,f,x,b,j,n,D,y,c,d,k⟩:=h;exact⟨z,e,T,f,x,b,j,n,D,y,by rw[hg];exact c,by rw[hF];exact d,k⟩
 |bor r p=>exact⟨h.1,λo=>let⟨U,hU⟩:=h.2 (TF (λr h=>(s r).symm.trans h) o);⟨U,hv hU⟩⟩
 |elp r p i q=>exact⟨h.1,λo=>let⟨e,t,ad,m,cap,c,d⟩:=h.2 (TF (λr h=>(s r).symm.trans h) o);⟨e,t,ad,m,cap,hv c,d⟩⟩
 |bel r p i q=>exact⟨h.1,λo E=>let⟨e,t,ad,m,cap,x0,y,cs,c,k1,k2,k3,d⟩:=h.2 (TF (λr h=>(s r).symm.trans h) o) ((s _).symm.trans E);⟨e,t,ad,m,cap,x0,y,cs,hv c,k1,k2,by rw[hF];exact k3,d⟩⟩
 |cl f l=>
  refine⟨h.1,E7 (λr p v A=>?_) h.2⟩;obtain⟨e,T,f,x,b,j,c,d,k⟩:=A;exact⟨e,T,f,x,b,j,by rw[hg];exact c,by rw[hF];exact d,k⟩
 |pls F l=>
  refine⟨h.1,WH (λ_ h=>h) (λ_ _=>rfl) (λr p v A=>?_) h.2⟩;obtain⟨e,T,f,x,b,j,c,d,k⟩:=A;exact⟨e,T,f,x,b,j,by rw[hg];exact c,by rw[hF];exact d,k⟩
 |gd g C u G=>
  intro o;obtain⟨z,c,d⟩:=h Af;simp_all
def I7(k d:Nat):Bk->Option Bk|.m t=>ite (t=d) K2 (K1 (.m t))|.c t i=>ite (t=d) (K1 (.c k i)) (ite (t=k) K2 (K1 (.c t i)))
theorem Qqk{x y j:Bk}(hx:I7 k d x=K1 j)(hy:I7 k d y=K1 j):x=y:=by
 cases x with
 |m t=>
  simp only[I7]at hx;split at hx
  ·cases hx
  ·cases hx;cases y with
   |m u=>
    simp_all[I7]
   |c u i=>
    grind[I7]
 |c t i=>
  cases y with
  |m u=>
   grind[I7]
  |c u a=>
   simp only[I7]at hx hy
   grind
def R.tupTo(h:R n W0 w X F [] s a)(hk:s.get (.m k)=.tup)(hd:aX s d=K3)(hn:d<n):
  ∃F',R n W0 w X F' [] (Z0n s k d) (a.put (K1 d) (Xj W0.gh a (.m k))):=by
 have K:k≠d:=λe=>Az
 let F':Bk->List Nat:=λx=>match I7 k d x with|some j=>F j|none=>[]
 have E:∀t,(Go.Am.Z0n s k d).get (.m t)=ite (d=t) (.tup) (s.get (.m t)):=λt=>by
  simp_all[Go.Am.Z0n,St.get,Hi,Ql]
 have G:∀t i,(Go.Am.Z0n s k d).get (.c t i)=ite (t=d) (s.get (.c k i)) (ite (t=k) (.pR) (s.get (.c t i))):=λt i=>by
  simp_all[Go.Am.Z0n,St.get,Ef,Ql]
 have l:∀{x b},b∈F' x-> ∃j,I7 k d x=K1 j/\b∈F j:=by
  grind
 have g:∀{v S u},vt W0.gh w X W0.B s F a v S u->vt W0.gh w X W0.B (Go.Am.Z0n s k d) F' (a.put (K1 d) (Xj W0.gh a (.m k))) v S u:=by
  intro v S u hv;refine Q2k (s1:=Jt s d .tup) (s2:=Go.Am.Z0n s k d) (F1:=Xp F (.m d) []) (F2:=F') (λt=>?_) rfl (λt=>?_) (CD (t:=.tup) (v0:=Xj W0.gh a (.m k)) (S0:=[]) hd hv)
  ·grind[vk]
  ·simp only[F',I7,Xp,Bk.m.injEq]
   grind
 have H:Xj W0.gh (a.put (K1 d) (Xj W0.gh a (.m k))) (.m d)=Xj W0.gh a (.m k):=yA (a:=a) (by rw[h.size];exact hn);have o:∀i,Xj W0.gh (a.put (K1 d) (Xj W0.gh a (.m k))) (.c d i)=Xj W0.gh a (.c k i):=λi=>by
  simp_all[Xj]
 refine⟨F',?_⟩;exact
  {size:=by simp[Act.put,h.size]
   defers:=by simp[Act.put,h.defers]
   below:=h.below
   glob:=h.glob
   gx:=h.gx
   xs:=h.xs
   fix:=λp z=>⟨(h.fix p z).1,by
    have:=OC hd;have f:p.1≠d:=λe=>this (e▸(h.fix p z).1);rw[iF (by simp_all[Bk.t])];exact(h.fix p z).2⟩
   xlt:=h.xlt
   xin:=h.xin
   x0:=h.x0
   own:=λx b A=>let⟨j,_,hj⟩:=l A;h.own j b hj
   nodup:=λx=>by
    simp only[F'];split
    ·exact h.nodup _
    ·simp
   pS:=λx y b A C=>by
    obtain⟨j,I,q⟩:=l A;obtain⟨L,N,M⟩:=l C;have:=h.pS j L b q M
    grind[Qqk]
   hown:=Ac
   pK:=Ac
   pL:=Ac
   pM:=λD i f=>by
    rw[G]at f;rw[E];by_cases e:D=d
    ·subst e;simp only[if_true]at f⊢;obtain⟨_,J,I,q⟩:=h.pM k i f;simp_all
    ·by_cases r:D=k
     ·simp_all
     ·simp only[e,r,if_false]at f;obtain⟨O,J,I,q⟩:=h.pM D i f;refine⟨Af,J,?_,q⟩
      grind[iF,Bk.t]
   slots:=λx=>by
    cases x with
    |m t=>
     rw[E];by_cases e:d=t
     ·subst e;simp only[if_true,F',I7];rfl
     ·have:F' (.m t)=F (.m t):=by simp[F',I7,Lp e]
      rw[this,iF (by simp_all[Bk.t,Lp])];simp only[e,if_false];exact g (h.slots (.m t))
    |c t i=>
     rw[G];by_cases e:t=d
     ·subst e;have:F' (.c t i)=F (.c k i):=by simp[F',I7]
      rw[this,o];simp only[if_true];exact g (h.slots (.c k i))
     ·by_cases r:t=k
      ·subst r;have:F' (.c t i)=[]:=by grind[I7]
       rw[this];simp only[e,if_false,if_true];rfl
      ·have:F' (.c t i)=F (.c t i):=by grind[I7]
       rw[this,iF (by simp_all[Bk.t])];simp only[e,r,if_false];exact g (h.slots (.c t i))}
structure Hl where
 f:Lg
 e:Ld
 t:Ty
 args:List Ty
 res:List Ty
 F:List t.den->dJ args->Option (dJ res×List t.den)
structure Pb(P:Lh)(g:Jh)(e:Hl):Prop where
 flat:e.t.flat=K3
 enters:∀args w,(callFunc e.f args).run P w=.ok (.enter e.f args) w
 calls:∀(w:Le)(X:Nat->Prop)(L:List Nat)(l l':List e.t.den)(xs:dJ e.args)(r:dJ e.res)(v:La)(vals:List La),g.G w->(∀b,g.GB b->X b)->(∀b,X b->b<w.heap.size)->(∀b∈L,¬X b)->L.Nodup->
  rd w X 0 K3 (.slice e.e e.t) l [v] L->GC w X 0 e.args xs vals->e.F l xs=K1 (r,l')->
  Calls P e.f (v::vals).toArray w λen w'=> ∃rs S,en=.returned (ak rs)/\xG w' w.heap.size e.res r rs S/\S.Nodup/\(∃X',rd w' X' 0 K3 (.slice e.e e.t) l' [v] L)/\
   w'.os=w.os/\w'.tape=w.tape/\w'.output=w.output/\w.heap.size<=w'.heap.size/\ ∀b,b<w.heap.size->b∉L->w'.heap[b]? =w.heap[b]?
abbrev qK:=List Hl
def qK.find(Γ:qK)(f:Lg):Option Hl:=
 match Γ with
 |[]=>K2
 |e::r=>match Lf e.f f with|true=>K1 e|false=>qK.find r f
def qK.ok(Γ:qK)(P:Lh)(g:Jh):Prop:= ∀e∈Γ,Pb P g e
def qK.find_ok{Γ:qK}{P:Lh}{g:Jh}(h:Γ.ok P g){f:Lg}{e:Hl}(he:Γ.find f=K1 e):e.f=f/\Pb P g e:=by
 induction Γ with
 |nil=>cases he
 |cons x r a=>
  simp only[qK.find]at he;split at he
  ·rename_i b;simp only[pB]at he;subst he;exact⟨pD b,h _ Ac⟩
  ·exact a (λe he=>h e (by simp[he])) he
def Oq(s:St):VH->Option Nat
 |.tm k (.val _ _ _)=>K1 k
 |.tm _ (.bor r [])=>match s.bad r []with|false=>K1 r|true=>K2
 |_=>K2
def ML(ts:List Ty):Bool:=ts.all Ty.flat
def B8(e:Hl):Tm->Option (List e.t.den×(List e.t.den->Tm))
 |.val T (.u K3) y=>match aa (.slice e.e e.t) T y with|some l=>K1 (l,λz=>.val (.slice e.e e.t) (.u K3) z)|none=>K2
 |.box k T (.u K3) y=>match aa (.slice e.e e.t) T y with|some l=>K1 (l,λz=>.box k (.slice e.e e.t) (.u K3) z)|none=>K2
 |_=>K2
def EZ{ρ:Type}(Γ:qK)(n:Nat)(s:St)(dst:Option Nat)(f:Lg)(xs:List Lc)(k:St->Option ρ):Option ρ:=
 match Γ.find f,xs with
 |some e,x0::rest=>match Oq s (Gj s [] x0)with
  |some q=>match B8 e (s.get (.m q)),JQ s [] e.args rest,ML e.args with
   |some lm,K1 us,K3=>match dst with
    |none=>(e.F lm.1 us).bind λz=>k (WL s q (lm.2 z.2))
    |some d=>match aX (WL s q (lm.2 lm.1)) d&&Lj d n with
     |true=>(e.F lm.1 us).bind λz=>k (Bn d (WL s q (lm.2 z.2)) e.res z.1)
     |false=>K2
   |_,_,_=>K2
  |none=>K2
 |_,_=>K2
def C8:∀{ts:List Ty}{xs:dJ ts}{vs:List La},ML ts=K3->GC w X B ts xs vs->GC w X' B ts xs vs
 |[],_,_,_,h=>h
 |t::ts,xs,vs,a,⟨b,c,d,e,f⟩=>by
  simp only[ML,List.all_cons,pC]at a;exact⟨b,c,d,(kc a.1 e).2,C8 a.2 f⟩
def vK{own':Bool}{w w':Le}{X X':Nat->Prop}{B B':Nat}{own:Bool}:∀{T:Ty}{x:T.den}{vs:List La}{S:List Nat},T.flat=K3->
  rd w X B own T x vs S->S=[]/\rd w' X' B' own' T x vs []
 |.unit,_,_,_,_,h|.int _,_,_,_,_,h|.bool,_,_,_,_,h|.fnc _,_,_,_,_,h|.str,_,_,_,_,h=>⟨h.2,h.1,rfl⟩
 |.slice _ _,_,_,_,c,_=>by grind[Ty.flat]
 |.pair a b,_,_,_,c,⟨d,f,q,r,e,g,i,j⟩=>by
  simp only[Ty.flat,pC]at c;obtain⟨rfl,m⟩:=vK c.1 i;obtain⟨rfl,o⟩:=vK c.2 j;exact⟨by simp[g],d,f,[],[],e,rfl,m,o⟩
 |.arr n t,_,_,_,c,⟨h,p⟩=>by
  obtain⟨e,k⟩:=sb (r':=rd w' X' B' own' t) (λx v S h=>vK (by simp_all[Ty.flat]) h) p;exact⟨e,h,k⟩
 |.err,_,_,_,_,h=>⟨h.2,h.1,rfl⟩
 |.hid _,_,_,_,c,⟨l,y,h⟩=>let⟨e,k⟩:=vK (by simp_all[Ty.flat]) h;⟨e,l,y,k⟩
 |.sptr ..,_,_,_,c,_=>by grind[Ty.flat]
 |.clo ..,_,_,_,c,_=>by grind[Ty.flat]
def Qbq{w w':Le}{B:Nat}{e:Ld}{nn nn':Nat}{v:La}{xs xs':List La}(h:w.ownsRow B e sz v nn xs)(h':w'.ownsRow 0 e sz v nn' xs'):w'.ownsRow B e sz v nn' xs':=by
 refine⟨h'.1,h'.2.imp id λ⟨b,a,c,g,k,i⟩=>⟨b,a,c,g,?_,i⟩⟩;rcases h.2 with⟨j,_⟩|⟨l,d,f,j,m,_⟩
 all_goals simp_all
def Qtd{w w':Le}{X X' X'':Nat->Prop}{B:Nat}{e:Ld}{t:Ty}{l l':List t.den}{v:La}{L L':List Nat}(hf:t.flat=K3)(h:rd w X B K3 (.slice e t) l [v] L)(h':rd w' X' 0 K3 (.slice e t) l' [v] L'):rd w' X'' B K3 (.slice e t) l' [v] L':=by obtain⟨p,f,q,r,b,s,g,u⟩:=h;obtain⟨y,a,i,j,c,k,d,m⟩:=h';simp only[M0,and_true]at b c;subst b;subst c;obtain⟨n,o⟩:=sb (r':=rd w' X'' B K3 t) (λx v S h=>vK hf h) m;exact⟨_,a,i,j,rfl,k,⟨Qbq g.1 d.1,d.2⟩,by rw[n];exact o⟩
def Qb2(h:R n W0 w X F H s a){x:Lc}{q:Nat}(hq:Oq s (Gj s [] x)=K1 q){T:Ty}{f:Fl}{y:T.den}(hg:s.get (.m q)=.val T f y):a.eval x=Xj W0.gh a (.m q):=by
 unfold Oq at hq;split at hq
 ·rename_i k c d e hx;simp only[pB]at hq;subst hq;obtain⟨rfl,g,_⟩:=yu hx;simp_all[Kz]
 ·rename_i k r hx;obtain⟨rfl,_,i⟩:=Vu h (tg:=[]) (λp b=>by cases b) hx Ac
  grind[Yl]
 ·cases hq
def Qed(h:R n W0 w X F H s a){e:Hl}(_hf:e.t.flat=K3){x:Lc}{q:Nat}(hq:Oq s (Gj s [] x)=K1 q){lm:List e.t.den×(List e.t.den->Tm)}(hl:B8 e (s.get (.m q))=K1 lm):
  ∃v L,a.eval x=v/\rd w X W0.B K3 (.slice e.e e.t) lm.1 [v] L/\(∀b∈L,b∈F (.m q))/\L.Nodup/\s.get (.m q)≠ .tup/\
   (∀z e T f x b S,s.get (.m q)=.box e T f x->F (.m q)=b::S-> ∃f' x' S'',lm.2 z=.box e T f' x'/\F (.m q)=b::S'')/\
   (∀z d,aX (WL s q (lm.2 lm.1)) d=K3->aX (WL s q (lm.2 z)) d=K3)/\
   ∀z w',(∀b,b<w.heap.size->b∉L->w'.heap[b]? =w.heap[b]?)->qQ W0.gh w w' s (WL s q (lm.2 z)) F F a q (lm.2 z)/\
    (rd w' X W0.B K3 (.slice e.e e.t) z [v] L->vt W0.gh w' X W0.B (WL s q (lm.2 z)) F a (Xj W0.gh a (.m q)) (F (.m q)) (lm.2 z)):=by
 have o:∀{T:Ty}{y:T.den}{l:List e.t.den},aa (.slice e.e e.t) T y=K1 l->T=.slice e.e e.t/\HEq y l:=by
  simp_all[aa]
 have O:=h.slots (.m q);unfold B8 at hl;split at hl
 ·rename_i T y A;split at hl
  ·rename_i l V;obtain⟨rfl,j⟩:=o V;have j:=eq_of_heq j;subst j;simp only[pB]at hl;subst hl;rw[A]at O;obtain⟨vs,hv,g⟩:=O;unfold TZ at g;obtain⟨v,rfl⟩:∃v,vs=[v]:=Mm.1 (Jm g);have hv:Xj W0.gh a (.m q)=v:=hv;refine⟨v,F (.m q),(Qb2 h hq A).trans hv,g,λ_ P=>P,h.nodup _,by rw[A];simp,(λz e T f x b S P=>Af),λz d u=>?_,λz w' _=>⟨yS ⟨by rw[Kt];simp,λp v U hv=>?_⟩,λhr=>⟨[v],by rw[hv];rfl,Au⟩⟩⟩
   ·unfold aX at u⊢;rw[Kt]at u⊢;by_cases C:Bk.m q=Bk.m d
    ·rw[if_pos C]at u⊢;exact u
    ·rw[if_neg C]at u⊢;exact u
   grind[Yl,Kt]
  ·cases hl
 ·rename_i k T y A;split at hl
  ·rename_i l V;obtain⟨rfl,j⟩:=o V;have j:=eq_of_heq j;subst j;simp only[pB]at hl;subst hl;rw[A]at O;obtain⟨b,c,Q,hv,G,P,g⟩:=O;unfold TZ at g;obtain⟨v,I⟩:∃v,c.toList=[v]:=Mm.1 (Jm g);rw[I]at g;have ab:b∉Q:=λhm=>by have:=h.nodup (.m q);simp_all
   have ad:b<w.heap.size:=(h.own (.m q) b (by rw[G];simp)).2.1;have W:a.eval x=v:=by
    unfold Oq at hq;split at hq
    ·rename_i k' T' f' y' hx;simp only[pB]at hq;subst hq;obtain⟨_,_,J⟩:=yu hx;rw[A]at J;cases J
    ·rename_i k' r hx;obtain⟨rfl,_,h2⟩:=Vu h (tg:=[]) (λp hp=>by cases hp) hx Ac;split at hq
     ·rename_i D;simp only[pB]at hq;subst hq;obtain⟨U,Y⟩:=h2 D;unfold Yl at Y;rw[A]at Y;obtain⟨b',c',S'',y',E,K,M,rfl,Z⟩:=Y;rw[G]at E;simp only[M0]at E;obtain⟨rfl,rfl⟩:=E;rw[P]at K;simp only[pB,Obj.cells.injEq,and_true]at K;simp only[kV,pB]at M;subst M;rw[Z,<-K,I];rfl
     ·cases hq
    ·cases hq
   refine⟨v,Q,W,g,λb' ar=>Af,by have:=h.nodup (.m q);simp_all,by rw[A];simp,λz K T f x b2 S N au=>?_,λz d u=>?_,λz w' hw=>⟨yS ⟨by rw[Kt];simp,λp v U hv=>?_⟩,λhr=>⟨b,c,Q,hv,G,Af,Ao⟩⟩⟩
   ·rw[A]at N;cases N;simp_all
   ·unfold aX at u⊢;rw[Kt]at u⊢;by_cases C:Bk.m q=Bk.m d
    ·simp_all
    ·rw[if_neg C]at u⊢;exact u
   ·unfold Yl at hv⊢;rw[A]at hv;rw[Kt];simp only[if_true];obtain⟨b',c',S'',y',E,K,M,Z,e5⟩:=hv;rw[G]at E;simp only[M0]at E;obtain⟨rfl,rfl⟩:=E;cases p with
    |nil=>
     simp only[kV,pB]at M;subst M;exact⟨b,c',Q,_,G,Af,rfl,Z,e5⟩
    |cons i p=>grind[kV,fld]
  ·cases hl
 ·cases hl
def Qec{Γ:qK}(hΓ:Γ.ok P g)(h:R n W0 w X F [] s a){f:Lg}(hfo:a.eval fo=.func (.func f) #[] #[])(ho:o.op=.call {callee:=.value fo,args:=xs,argTypes:=ats}){k:St->Option ρ}{r:ρ}(hr:EZ Γ n s o.dst f xs.toList k=K1 r)
   (hK:∀v w' X' F' s',k s'=K1 r->R n W0 w' X' F' [] s' (a.put o.dst v)->K (a.put o.dst v) w'):o.wp P a w K Q:=by
 unfold EZ at hr;split at hr
 ·rename_i e x0 u he a7;obtain⟨rfl,y⟩:=qK.find_ok hΓ he;split at hr
  ·rename_i q hq;split at hr
   ·rename_i lm us hl ad ar;obtain⟨v,L,hv,N,A,au,O,E,U,RY⟩:=Qed h y.flat hq hl;have a8:∀b∈L,b<w.heap.size:=λb c=>(h.own _ _ (A b c)).2.1
    have call:∀{z},e.F lm.1 us=K1 z-> ∀{K':Act->Le->Prop},(∀l S w',R n W0 w' X F (S++[]) (WL s q (lm.2 z.2)) a->xG w' W0.B e.res z.1 l S->K' (a.put o.dst (ak l)) w')->o.wp P a w K' Q:=by
     intro z V K' D;have a0:xs.toList.map a.eval=v::u.map a.eval:=Af
     have hc:=y.calls w (λb=>b<w.heap.size/\b∉L) L lm.1 z.2 us z.1 v (u.map a.eval) h.glob (λb c=>⟨h.xlt b (h.gx b c),λC=>(h.own _ _ (A b C)).2.2 (h.gx b c)⟩) (λb c=>c.1) (λb c hx=>hx.2 c) au
      (by
       obtain⟨v1,a1,S1,S2,e1,e2,h1,h2⟩:=N;obtain⟨e5,I⟩:=sb (r':=rd w (λb=>b<w.heap.size/\b∉L) 0 K3 e.t) (λx v S h=>vK y.flat h) h2;exact⟨v1,a1,S1,S2,e1,e2,⟨DZ h1.1 (L6 _),h1.2⟩,by rw[e5];exact I⟩)
      (C8 ar (UV h (tg:=[]) (λp hp=>by cases hp) ad)) V
     have W:(execOp a.eval o).run P w=.ok (.enter e.f (v::u.map a.eval).toArray) w:=by
      have:execOp a.eval o=callFunc e.f (xs.map a.eval):=by
       simp_all[execOp,resolve,Ma,invoke]
      rw[this,y.enters];congr 2
      grind
     unfold Lm;rw[W,Mj];refine hc.mono λen w' ⟨l,S,a2,i,a3,⟨X2,Y⟩,h1,h2,h3,h4,I⟩=>?_;subst a2;show K' (a.put o.dst (ak l)) w';have Z:∀{J:List Ty}{x:dJ J}{l:List La}{S:List Nat},xG w' w.heap.size J x l S->(∀b∈S,w.heap.size<=b/\b<w'.heap.size)/\xG w' W0.B J x l S:=by
      intro J
      induction J with
      |nil=>intro x l S h;exact⟨by simp[h.2],h⟩
      |cons t J ih=>
       intro x l S ⟨cs,us,S1,S2,e1,e2,g1,g2⟩;obtain⟨k1,k2⟩:=ih g2;refine⟨λb c=>?_,cs,us,S1,S2,e1,e2,lu h.below.sizeB (λ_ h=>h) g1,k2⟩
       grind[ni]
     obtain⟨j,G⟩:=Z i;have a6:rd w' X W0.B K3 (.slice e.e e.t) z.2 [v] L:=Qtd y.flat N Y;have a4:W0.below w':=⟨h1.trans h.below.os,h2.trans h.below.tape,h3.trans h.below.output,Ls h.below.size h4,λb c=>
      (I b (Mc (W0.yW b c) h.below.size) λC=>W0.sep c (h.own _ _ (A b C)).1 rfl).trans (h.below.block b c)⟩
     have ab:Xp F (.m q) (F (.m q))=F:=Ai
     obtain⟨a5,be⟩:=RY z.2 w' I;have M:=h.turn' (w':=w') (S':=F (.m q)) (by rw[ab];exact a5) a4 h4 (λb c=>I b (h.xlt b c) λC=>(h.own _ _ (A b C)).2.2 c)
      (λk b hk c=>I b (h.own k b c).2.1 λC=>hk (h.pS _ _ b c (A b C))) (H':=[]) (λb c=>by simpa using c) (by simpa using h.nodup (.m q)) O (E z.2)
      Af
     rw[ab]at M;exact D l S w' (M.hand (λb c=>⟨.inl (Ls h.below.size (j b c).1),(j b c).2,λhx=>by have:=h.xlt b hx;grind⟩) a3
      (λk b c C=>by have:=(h.own k b c).2.1;grind) (λb c C=>by cases C)) G
    split at hr
    ·rename_i hd;simp only[Lx]at hr;obtain⟨z,V,hk⟩:=hr;refine call V λl S w' M i=>?_;have D:=hK (ak l) w' X F _ hk;rw[hd]at D⊢;exact D M.drop
    ·rename_i d hd;split at hr
     ·rename_i H;simp only[pC,Lo]at H;simp only[Lx]at hr;obtain⟨z,V,hk⟩:=hr;refine call V λl S w' M i=>?_;obtain⟨F',bk⟩:=M.putRes (U z.2 d H.1) H.2 i
      grind
     ·cases hr
   ·cases hr
  ·cases hr
 ·cases hr
inductive AK where
 |sh (T:Ty)
 |bx (e:Ld) (T:Ty) (o:Fl)
 |mv (T:Ty) (f:Fl)
@[reducible] def Sf:List AK->Type|[]=>Unit|.sh T::r=>T.den×Sf r|.bx _ T _::r=>T.den×Sf r|.mv T _::r=>T.den×Sf r
@[reducible] def BS:List AK->Type|[]=>Unit|.sh _::r=>BS r|.bx _ T _::r=>T.den×BS r|.mv .. ::r=>BS r
inductive RS where
 |vals (ts:List Ty)
 |newb (e:Ld) (T:Ty)
 |shr (ts:List Ty)
 |flg (ts:List (Ty×Fl))
 |fp (T:Ty) (j:Nat) (p1 p2:List Nat)
@[reducible] def cF:List (Ty×Fl)->Type|[]=>Unit|t::r=>t.1.den×cF r
@[reducible] def IZ:RS->Type|.vals ts=>dJ ts|.newb _ T=>T.den|.shr ts=>dJ ts|.flg ts=>cF ts|.fp .. =>Bool
def vD(w:Le)(X:Nat->Prop)(B:Nat):(ts:List (Ty×Fl))->cF ts->List La->List Nat->Prop|[],_,vs,S=>vs=[]/\S=[]|t::ts,x,vs,S=> ∃cs us S1 S2,vs=Kx t.1 cs::us/\S=S1++S2/\TZ w X B t.1 t.2 x.1 cs S1/\vD w X B ts x.2 us S2
def Og(w:Le)(X:Nat->Prop):(ts:List Ty)->dJ ts->List La->Prop|[],_,vs=>vs=[]|t::ts,x,vs=> ∃cs us,vs=Kx t cs::us/\rd w X 0 K4 t x.1 cs []/\Og w X ts x.2 us
def Hq(w:Le)(X:Nat->Prop):(as:List AK)->Sf as->List La->List Nat->Prop|[],_,vs,L=>vs=[]/\L=[]|.sh t::r,x,vs,L=> ∃cs us,vs=Kx t cs::us/\rd w X 0 K4 t x.1 cs []/\Hq w X r x.2 us L|.bx e t o::r,x,vs,L=> ∃b c S us L',vs=.pointer (K1 ⟨b,0,K2⟩)::us/\L=b:: (S++L')/\w.heap[b]? =K1 (.cells c e (0,0))/\TZ w X 0 t o x.1 c.toList S/\Hq w X r x.2 us L'|.mv t f::r,x,vs,L=> ∃cs S us L',vs=Kx t cs::us/\L=S++L'/\TZ w X 0 t f x.1 cs S/\Hq w X r x.2 us L'
def G3(w:Le)(X:Nat->Prop):(as:List AK)->BS as->List La->List Nat->List Nat->Prop|[],_,vs,BL,C=>vs=[]/\BL=[]/\C=[]|.sh _::r,x,vs,BL,C=> ∃v us,vs=v::us/\G3 w X r x us BL C|.bx e t o::r,x,vs,BL,C=> ∃b c S us BL' C',vs=.pointer (K1 ⟨b,0,K2⟩)::us/\BL=b::BL'/\C=S++C'/\w.heap[b]? =K1 (.cells c e (0,0))/\TZ w X 0 t o x.1 c.toList S/\G3 w X r x.2 us BL' C'|.mv .. ::r,x,vs,BL,C=> ∃v us,vs=v::us/\G3 w X r x us BL C
def Ie(w:Le)(X:Nat->Prop):(r:RS)->IZ r->List La->List Nat->Prop|.vals ts,x,vs,S=>xG w 0 ts x vs S|.newb e T,x,vs,S=> ∃b c,vs=[.pointer (K1 ⟨b,0,K2⟩)]/\S=[b]/\w.heap[b]? =K1 (.cells c e (0,0))/\rd w X 0 K4 T x c.toList []|.shr ts,x,vs,S=>S=[]/\Og w X ts x vs|.flg ts,x,vs,S=>vD w X 0 ts x vs S|.fp ..,_,_,S=>S=[]
def U8:(r:RS)->IZ r->List La->List Nat->Prop|.fp T j p1 p2,x,vs,BL=> ∃b,BL[j]? =K1 b/\vs=[.pointer (K1 ⟨b,ai T (cond x p1 p2),K2⟩)]|.vals _,_,_,_|.newb ..,_,_,_|.shr _,_,_,_|.flg _,_,_,_=>True
structure BW where
 f:Lg
 args:List AK
 res:RS
 F:Sf args->Option (IZ res×BS args)
structure MX(w w':Le)(X X':Nat->Prop)(L N:List Nat):Prop where
 os:w'.os=w.os
 tape:w'.tape=w.tape
 output:w'.output=w.output
 size:w.heap.size<=w'.heap.size
 xx:∀b,X b->X' b
 xlt:∀b,X' b->b<w'.heap.size
 xin:∀b,X' b->X b\/w.heap.size<=b\/b∈L
 nd:N.Nodup
 nin:∀b,b∈N->(w.heap.size<=b\/b∈L)/\b<w'.heap.size/\ ¬X' b
 block:∀b,b<w.heap.size->b∉L->w'.heap[b]? =w.heap[b]?
structure zY(P:Lh)(g:Jh)(e:BW):Prop where
 enters:∀args w,(callFunc e.f args).run P w=.ok (.enter e.f args) w
 calls:∀(w:Le)(X:Nat->Prop)(L:List Nat)(xs:Sf e.args)(r:IZ e.res×BS e.args)(vals:List La),g.G w->(∀b,g.GB b->X b)->(∀b,X b->b<w.heap.size)->(∀b,b∈L-> ¬X b/\b<w.heap.size)->L.Nodup->
  Hq w X e.args xs vals L->e.F xs=K1 r->
  Calls P e.f vals.toArray w λen w'=> ∃rs S BL C X',en=.returned (ak rs)/\MX w w' X X' L (S++(BL++C))/\Ie w' X' e.res r.1 rs S/\G3 w' X' e.args r.2 vals BL C/\U8 e.res r.1 rs BL
abbrev Il:=List BW
def Il.find(Γ:Il)(f:Lg):Option BW:=
 match Γ with
 |[]=>K2
 |e::r=>match Lf e.f f with|true=>K1 e|false=>Il.find r f
def Il.ok(Γ:Il)(P:Lh)(g:Jh):Prop:= ∀e∈Γ,zY P g e
def Il.find_ok{Γ:Il}{P:Lh}{g:Jh}(h:Γ.ok P g){f:Lg}{e:BW}(he:Γ.find f=K1 e):e.f=f/\zY P g e:=by
 induction Γ with
 |nil=>cases he
 |cons x r a=>
  simp only[Il.find]at he;split at he
  ·rename_i b;simp only[pB]at he;subst he;exact⟨pD b,h _ Ac⟩
  ·exact a (λe he=>h e (by simp[he])) he
def HH:Fl->Fl->Ty->Bool|.u K3,f,T=>cQ T f (.u K3)|.u K4,f,T=>vf f T|.p a b,f,.pair A B=>HH a (jA f 0) A&&HH b f.snd B|o,f,T=>cQ T f o
def SP:VH->Option Nat|.tm k (.box _ _ _ _)=>K1 k|.tm _ (.ptr r [])=>K1 r|_=>K2
def NA(s:St)(o:VH)(T:Ty):Option T.den:=
 match o with
 |.cst v=>Uz T v
 |o=>match YQ s o with
  |some ⟨U,f,x⟩=>match vf f U with
   |true=>aa T U x
   |false=>K2
  |none=>K2
def Ut:St->List AK->List Lc->Option (List TV×St)
 |s,.mv t f::as,x::xs=>match ST s (Gj s [] x) t with
  |some u=>match cQ u.T u.f f,Ut u.s as xs with
   |true,K1 (l,s')=>K1 (⟨u.T,u.x⟩::l,s')
   |_,_=>K2
  |none=>K2
 |s,.sh _::as,_::xs=>Ut s as xs
 |s,.bx _ _ _::as,_::xs=>Ut s as xs
 |s,_,_=>K1 ([],s)
def AI(s:St):List TV->(as:List AK)->List Lc->Option (Sf as×List Nat)
 |_,[],[]=>K1 ((),[])
 |m,.sh t::as,x::xs=>match NA s (Gj s [] x) t,AI s m as xs with
  |some u,K1 (us,rs)=>K1 ((u,us),rs)
  |_,_=>K2
 |m,.bx e t o::as,x::xs=>match SP (Gj s [] x)with
  |some q=>match s.get (.m q)with
   |.box e' U f y=>match Lf e' e&&HH o f U,aa t U y,AI s m as xs with
    |true,K1 u,K1 (us,rs)=>K1 ((u,us),q::rs)
    |_,_,_=>K2
   |_=>K2
  |none=>K2
 |z::m,.mv t _::as,_::xs=>match aa t z.1 z.2,AI s m as xs with
  |some u,K1 (us,rs)=>K1 ((u,us),rs)
  |_,_=>K2
 |_,_,_=>K2
def Bg:List Nat->Bool|[]=>K3|x::xs=> !(xs.any (Lf x))&&Bg xs
def xp:List AK->List Lc->St->St
 |.sh t::as,x::xs,s=>match t.flat with
  |true=>xp as xs s
  |false=>match Oq s (Gj s [] x)with
   |some q=>match s.get (.m q)with
    |.val U f y=>match vf f U,f.live with
     |false,K3=>xp as xs (WL s q (.val U (.u K4) y))
     |_,_=>xp as xs s
    |_=>xp as xs s
   |none=>xp as xs s
 |.bx _ _ _::as,_::xs,s=>xp as xs s
 |.mv .. ::as,_::xs,s=>xp as xs s
 |_,_,s=>s
def ZR:List Nat->St->St
 |[],s=>s
 |q::rs,s=>match s.get (.m q)with
  |.box e T _ y=>ZR rs (ch s q (.box e T .d y))
  |_=>ZR rs s
def Ri:(as:List AK)->BS as->List Nat->St->St|[],_,_,s=>s|.sh _::r,x,rs,s=>Ri r x rs s|.bx e T o::r,x,q::rs,s=>Ri r x.2 rs (ch s q (.box e T o x.1))|.bx _ _ _::_,_,[],s=>s|.mv .. ::r,x,rs,s=>Ri r x rs s
def Tc(d:Nat):(ts:List Ty)->dJ ts->Nat->List (Bk×Tm)->List (Bk×Tm)|[],_,_,r=>r|t::ts,x,i,r=>Tc d ts x.2 (i+1) ((.c d i,.val t (.u K4) x.1)::r)
def Qvm(d:Nat)(s:St):(ts:List Ty)->dJ ts->St|[t],r=>Jt s d (.val t (.u K4) r.1)|[],r=>{env:=Tc d [] r 0 (Jt s d .tup).env,pP:=(Jt s d .tup).pP,pQ:=s.pQ}|t::u::ts,r=>{env:=Tc d (t::u::ts) r 0 (Jt s d .tup).env,pP:=(Jt s d .tup).pP,pQ:=s.pQ}
def FK(d:Nat):(ts:List (Ty×Fl))->cF ts->Nat->List (Bk×Tm)->List (Bk×Tm)|[],_,_,r=>r|t::ts,x,i,r=>FK d ts x.2 (i+1) ((.c d i,.val t.1 t.2 x.1)::r)
def Qx6(d:Nat)(s:St):(ts:List (Ty×Fl))->cF ts->St|[t],r=>Jt s d (.val t.1 t.2 r.1)|[],r=>{env:=FK d [] r 0 (Jt s d .tup).env,pP:=(Jt s d .tup).pP,pQ:=s.pQ}|t::u::ts,r=>{env:=FK d (t::u::ts) r 0 (Jt s d .tup).env,pP:=(Jt s d .tup).pP,pQ:=s.pQ}
def Z7j(d:Nat)(s:St):(r:RS)->IZ r->St|.vals ts,x=>Bn d s ts x|.newb e T,x=>Jt s d (.box e T (.u K4) x)|.shr ts,x=>Qvm d s ts x|.flg ts,x=>Qx6 d s ts x|.fp ..,_=>s
def N9{ρ:Type}(d:Nat)(rs:List Nat)(s:St):(r:RS)->IZ r->(St->Option ρ)->Option ρ
 |.fp T j p1 p2,x,k=>match rs[j]? with
  |some q=>match s.get (.m q)with
   |.box _ U _ _=>match Ly (U=T)with
    |true=>cond x (k (Jt s d (.ptr q p1))) (k (Jt s d (.ptr q p2)))
    |false=>K2
   |_=>K2
  |none=>K2
 |.vals ts,x,k=>k (Z7j d s (.vals ts) x)
 |.newb e T,x,k=>k (Z7j d s (.newb e T) x)
 |.shr ts,x,k=>k (Z7j d s (.shr ts) x)
 |.flg ts,x,k=>k (Z7j d s (.flg ts) x)
def Ua{ρ:Type}(Γ:Il)(n:Nat)(s:St)(dst:Option Nat)(f:Lg)(xs:List Lc)(k:St->Option ρ):Option ρ:=
 match Γ.find f with
 |none=>K2
 |some e=>match Ut (xp e.args xs s) e.args xs with
  |none=>K2
  |some (m,s2)=>match AI s2 m e.args xs with
   |none=>K2
   |some (us,rs)=>match Bg rs with
    |false=>K2
    |true=>match dst with
     |none=>(e.F us).bind λz=>k (Ri e.args z.2 rs (ZR rs s2))
     |some d=>match aX (ZR rs s2) d&&Lj d n&& !(rs.any (Lf d))with
      |false=>K2
      |true=>(e.F us).bind λz=>N9 d rs (Ri e.args z.2 rs (ZR rs s2)) e.res z.1 k
theorem SO{x:Nat}{l:List Nat}(h:(l.any (Lf x))=K4):x∉l:=λhx=>by
 grind[Lf,Mz,M5]
def P7:∀{l:List Nat},Bg l=K3->l.Nodup
 |[],_=>Nl
 |x::a,h=>by
  simp only[Bg,pC,Lw]at h;exact L5.2 ⟨SO h.1,P7 h.2⟩
theorem dd:∀{T:Ty}{x:T.den}{vs:List La}{S:List Nat},rd w X B own T x vs S->(∀b,b∈S->B'<=b)->rd w X B' own T x vs S
 |.unit,_,_,_,h,_|.int _,_,_,_,h,_|.bool,_,_,_,h,_|.fnc _,_,_,_,h,_|.str,_,_,_,h,_=>h
 |.slice _ _,_,_,_,⟨v,u,k,l,e,m,f,g⟩,d=>by
  refine⟨v,u,k,l,e,m,?_,J0 g λ_ _ _ _ s h=>dd h λb i=>d b Af⟩;cases own
  ·exact f
  ·obtain⟨j,p⟩:=f;refine⟨⟨j.1,j.2.imp id λ⟨b,q,r,z,G,A⟩=>⟨b,q,r,z,d b ?_,A⟩⟩,p⟩;simp_all[Nq]
 |.pair a b,_,_,_,⟨C,D,k,l,e,m,f,g⟩,d=>
  ⟨C,D,k,l,e,m,dd f λb i=>d b Af,dd g λb i=>d b Af⟩
 |.arr n t,_,_,_,⟨h,E⟩,d=>⟨h,J0 E λ_ _ _ _ s h=>dd h λb i=>d b (s b i)⟩
 |.err,_,_,_,h,_=>h
 |.hid _,_,_,_,⟨e,y,h⟩,d=>⟨e,y,dd h d⟩
 |.sptr ..,_,_,_,⟨e,o,b,c,f,g,j,p⟩,_=>⟨e,o,b,c,f,g,j,dd p Ac⟩
 |.clo ..,_,_,_,⟨e,F,f,g⟩,_=>⟨e,F,f,dd g Ac⟩
def GF:∀{ts:List Ty}{x:dJ ts}{vs:List La}{S:List Nat},xG w B ts x vs S->(∀b,b∈S->B'<=b)->xG w B' ts x vs S
 |[],_,_,_,h,_=>h
 |t::ts,x,vs,S,⟨c,d,e,f,g,i,j,k⟩,a=>
  ⟨c,d,e,f,g,i,dd j λb l=>a b Af,GF k λb l=>a b Af⟩
def Qoh{e:Ld}{n:Nat}{v:La}{xs:List La}(hB:B'<=B)(hX:∀b,X b->X' b)(h:HW w X B own e sz n v xs S):HW w X' B' own e sz n v xs S:=by
 cases own
 ·obtain⟨g,i,a,c,j,k,l,m⟩:=h;exact⟨g,i,a,c,j,k,l,m.imp id λ⟨o,p,q,r⟩=>⟨o,p,q.imp id (hX _),r⟩⟩
 ·obtain⟨f,s⟩:=h;exact⟨⟨f.1,f.2.imp id λ⟨b,c,d,t,u,x⟩=>⟨b,c,d,t,Ls hB u,x⟩⟩,s⟩
def Qgr{e:Ld}{n:Nat}{v:La}{xs:List La}(h1:HW w X B own e sz n v xs S)(hS:∀b,b∈S->B'<=b):HW w X B' own e sz n v xs S:=by
 cases own
 ·exact h1
 ·obtain⟨d,f⟩:=h1;refine⟨⟨d.1,d.2.imp id λ⟨b,a,c,g,i,h⟩=>⟨b,a,c,g,hS b ?_,h⟩⟩,f⟩;simp_all[Nq]
def JN(hB:B'<=B)(hX:∀b,X b->X' b):∀{T:Ty}{f:Fl}{x:T.den}{vs:List La}{S:List Nat},TZ w X B T f x vs S->TZ w X' B' T f x vs S
 |T,.d,_,_,_,h=>Ao
 |T,.u b,_,_,_,h=>by grind[TZ,lu]
 |.pair a b,.p f g,_,_,_,⟨j,k,l,m,e,n,c,i⟩=>⟨j,k,l,m,e,n,JN hB hX c,JN hB hX i⟩
 |.slice e t,.p f g,_,_,_,h=>by
  obtain⟨rfl,rfl,v,o,q,c,i⟩:=oX h;exact⟨v,o,q,Qoh hB hX c,J0 i λ_ _ _ _ _ h=>lu hB hX h⟩
 |.unit,.p ..,_,_,_,h|.int _,.p ..,_,_,_,h|.bool,.p ..,_,_,_,h|.fnc _,.p ..,_,_,_,h|.str,.p ..,_,_,_,h|.err,.p ..,_,_,_,h|.hid _,.p ..,_,_,_,h|.sptr ..,.p ..,_,_,_,h|.clo ..,.p ..,_,_,_,h|.arr ..,.p ..,_,_,_,h=>by simp[TZ]at h
theorem A2:∀{T:Ty}{f:Fl}{x:T.den}{vs:List La}{S:List Nat},TZ w X B T f x vs S->(∀b,b∈S->B'<=b)->TZ w X B' T f x vs S
 |T,.d,_,_,_,h,_=>Ao
 |T,.u b,_,_,_,h,c=>by grind[TZ,dd]
 |.pair a b,.p f g,_,_,_,⟨l,m,n,o,e,q,i,j⟩,c=>⟨l,m,n,o,e,q,A2 i λb k=>c b Af,A2 j λb k=>c b Af⟩
 |.slice e t,.p f g,_,_,_,h,c=>by
  obtain⟨rfl,rfl,v,r,s,i,j⟩:=oX h;exact⟨v,r,s,Qgr i c,J0 j λ_ _ _ _ y h=>dd h λb k=>absurd (y b k) Ac⟩
 |.unit,.p ..,_,_,_,h,_|.int _,.p ..,_,_,_,h,_|.bool,.p ..,_,_,_,h,_|.fnc _,.p ..,_,_,_,h,_|.str,.p ..,_,_,_,h,_|.err,.p ..,_,_,_,h,_|.hid _,.p ..,_,_,_,h,_|.sptr ..,.p ..,_,_,_,h,_|.clo ..,.p ..,_,_,_,h,_|.arr ..,.p ..,_,_,_,h,_=>by simp[TZ]at h
theorem LX:∀{o f:Fl}{T:Ty}{x:T.den}{vs:List La}{S:List Nat},HH o f T=K3->TZ w X B T f x vs S->TZ w X B T o x vs S
 |.u K3,f,T,x,vs,S,h,c=>by grind[HH,re]
 |.u K4,f,T,x,vs,S,h,c=>by
  unfold HH at h;have e:=mc h c;subst e;have:∀{f:Fl}{T:Ty},vf f T=K3->f.live=true:=by
   intro f
   induction f with
   |u b=>intro T _;rfl
   |d=>simp_all[vf]
   |p s t g i=>
    intro T h;cases T<;>simp[vf]at h
    grind[Fl.live]
  unfold TZ;exact Vn (λ_ h=>h) (this h) c Ac
 |.p a b,f,.pair A v,x,vs,S,h,c=>by
  unfold HH at h;simp only[pC]at h;obtain⟨j,k,l,m,e,n,q,r⟩:=JP c;exact⟨j,k,l,m,e,n,LX h.1 q,LX h.2 r⟩
 |.p a b,f,.slice ..,x,vs,S,h,c|.p a b,f,.unit,x,vs,S,h,c|.p a b,f,.int _,x,vs,S,h,c|.p a b,f,.bool,x,vs,S,h,c|.p a b,f,.str,x,vs,S,h,c|.p a b,f,.arr ..,x,vs,S,h,c|.p a b,f,.fnc _,x,vs,S,h,c|.p a b,f,.err,x,vs,S,h,c|.p a b,f,.hid _,x,vs,S,h,c|.p a b,f,.sptr ..,x,vs,S,h,c|.p a b,f,.clo ..,x,vs,S,h,c=>by unfold HH at h;exact re h c
 |.d,f,T,x,vs,S,h,c=>by grind[HH,re]
def Bb(h:R n W0 w X F H s a){x:Lc}{T:Ty}{y:T.den}(hr:NA s (Gj s [] x) T=K1 y):
  ∃vs,a.eval x=Kx T vs/\rd w X 0 K4 T y vs []:=by
 unfold NA at hr;split at hr
 ·rename_i v hv;obtain rfl:=B3 hv;obtain⟨vs,c,b⟩:=IN (w:=w) (X:=X) (B:=0) (own:=K4) hr;exact⟨vs,c,b⟩
 ·split at hr
  ·rename_i U f k d;obtain⟨g,vs,S,c,b,l⟩:=mE h (tg:=[]) (λp i=>by cases i) d;split at hr
   ·rename_i j;cases fX hr;have e:=mc j b;subst e;exact⟨vs,c,lu (L6 _) (λ_ h=>h) (Vn (λ_ h=>h) g b Ac)⟩
   ·cases hr
  ·cases hr
def RU(F:Bk->List Nat)(s:St):List AK->List Nat->List La->Prop|[],rs,vs=>rs=[]/\vs=[]|.sh _::as,rs,vs=> ∃v us,vs=v::us/\RU F s as rs us|.bx e T _::as,rs,vs=> ∃q rs' b S us f y,rs=q::rs'/\vs=.pointer (K1 ⟨b,0,K2⟩)::us/\F (.m q)=b::S/\s.get (.m q)=.box e T f y/\RU F s as rs' us|.mv .. ::as,rs,vs=> ∃v us,vs=v::us/\RU F s as rs us
theorem Si(h:R n W0 w X F H s a){x:Lc}{q:Nat}(hq:SP (Gj s [] x)=K1 q){e:Ld}{T:Ty}{f:Fl}{y:T.den}(hg:s.get (.m q)=.box e T f y):a.eval x=Xj W0.gh a (.m q):=by
 unfold SP at hq;split at hq
 ·rename_i k i j l o hx;simp only[pB]at hq;subst hq;obtain⟨rfl,v,_⟩:=yu hx;simp_all[Kz]
 ·rename_i k r hx;simp only[pB]at hq;subst hq;obtain⟨rfl,_,i,j,l,o,b,S,z,t,A⟩:=Vu h (tg:=[]) (λp u=>by cases u) hx Ac;have d:=h.slots (.m r);rw[hg]at d;obtain⟨B,c,C,D,g,_⟩:=d;rw[t]at g;obtain⟨rfl,_⟩:=Lu g;simp_all[ai]
 ·cases hq
def RA(w:Le)(X:Nat->Prop)(ev:Lc->La):List TV->List AK->List Lc->List Nat->Prop|z::m,.mv t f::as,x::xs,M=> ∃vs S M',M=S++M'/\ev x=Kx z.1 vs/\TZ w X 0 z.1 f z.2 vs S/\t=z.1/\RA w X ev m as xs M'|m,.sh _::as,_::xs,M=>RA w X ev m as xs M|m,.bx _ _ _::as,_::xs,M=>RA w X ev m as xs M|_,_,_,_=>True
def R.perm(h:R n W0 w X F H s a)(hp:H'.Perm H):R n W0 w X F H' s a:=
 {h with
  hown:=λb c=>h.hown b (hp.mem_iff.1 c)
  pK:=hp.nodup_iff.2 h.pK
  pL:=λk b c d=>h.pL k b c (hp.mem_iff.1 d)}
def EU:∀{as:List AK}{xs:List Lc}{s s2:St}{m:List TV}{F:Bk->List Nat}{H:List Nat},R n W0 w X F H s a->Ut s as xs=K1 (m,s2)->
  ∃M F',R n W0 w X F' (M++H) s2 a/\(∀b,b∈M->W0.B<=b)/\RA w X a.eval m as xs M/\(∀q,s.isBox q->s2.isBox q)
 |.mv t f::as,x::xs,s,s2,m,F,H,h,c=>by
  simp only[Ut]at c;split at c
  ·rename_i u o;split at c
   ·rename_i l J v y;simp only[pB,pF]at c;obtain⟨rfl,rfl⟩:=c;obtain⟨z,K,S,A,C,D,E,_,_⟩:=ff h (tg:=[]) (λp G=>by cases G) o;have r:=re v D;obtain⟨M,d,e,g,i,j⟩:=EU E y;refine⟨S++M,d,e.perm ?_,λb k=>(List.mem_append.1 k).elim (λk=>(In r b k).1) (g b),⟨A,S,M,rfl,C,JN (L6 _) (λ_ h=>h) r,z.symm,i⟩,λq I=>j q (YN o I)⟩
    grind
   ·cases c
  ·cases c
 |.sh t::as,x::xs,s,s2,m,F,H,h,c=>by
  simp only[Ut]at c;obtain⟨M,d,e,g,i,j⟩:=EU h c;exact⟨M,d,e,g,by cases m<;>exact i,j⟩
 |.bx _ _ _::as,x::xs,s,s2,m,F,H,h,c=>by
  simp only[Ut]at c;obtain⟨M,d,e,g,i,j⟩:=EU h c;exact⟨M,d,e,g,by cases m<;>exact i,j⟩
 |[],xs,s,s2,m,F,H,h,c=>by
  simp only[Ut,pB,pF]at c;obtain⟨rfl,rfl⟩:=c;exact⟨[],F,h,Ac,by cases xs<;>trivial,λ_ h=>h⟩
 |.mv .. ::_,[],s,s2,m,F,H,h,c|.sh _::_,[],s,s2,m,F,H,h,c|.bx _ _ _::_,[],s,s2,m,F,H,h,c=>by
  simp only[Ut,pB,pF]at c;obtain⟨rfl,rfl⟩:=c;exact⟨[],F,h,Ac,trivial,λ_ h=>h⟩
def VE(h:R n W0 w X F H s a):∀{m:List TV}{as:List AK}{xs:List Lc}{us:Sf as}{rs:List Nat}{M:List Nat},RA w X a.eval m as xs M->M.Nodup->(∀k b,b∈F k->b∉M)->AI s m as xs=K1 (us,rs)->Bg rs=K3->
  ∃L,Hq w X as us (xs.map a.eval) L/\RU F s as rs (xs.map a.eval)/\L.Nodup/\(∀b,b∈L->(∃q,q∈rs/\b∈F (.m q))\/b∈M)
 |m,[],[],us,rs,M,p,g,i,d,r=>by
  simp only[AI,pB,pF]at d;obtain⟨_,rfl⟩:=d;exact⟨[],⟨rfl,rfl⟩,⟨rfl,rfl⟩,Nl,Ac⟩
 |m,.sh t::as,x::xs,us,rs,M,p,g,i,d,r=>by
  have v:RA w X a.eval m as xs M:=by cases m<;>exact p
  simp only[AI]at d;split at d
  ·rename_i u B l C j;simp only[pB,pF]at d;obtain⟨rfl,rfl⟩:=d;obtain⟨cs,P,W⟩:=Bb h C;obtain⟨L,D,E,G,N⟩:=VE (as:=as) (xs:=xs) h v g i j r;exact⟨L,⟨cs,_,by simp[P],W,D⟩,⟨_,_,rfl,E⟩,G,N⟩
  ·cases d
 |m,.bx e t o::as,x::xs,us,rs,M,p,g,i,d,r=>by
  have v:RA w X a.eval m as xs M:=by cases m<;>exact p
  simp only[AI]at d;split at d
  ·rename_i q hq;split at d
   ·rename_i e' U f y Q;split at d
    ·rename_i u B l A C j;simp only[pB,pF]at d;obtain⟨rfl,rfl⟩:=d;simp only[pC]at A;have he:=pD A.1;subst he;cases fX C;simp only[Bg,pC,Lw]at r;obtain⟨L,D,E,G,N⟩:=VE (as:=as) (xs:=xs) h v g i j r.2;have I:=Si h hq Q;have Y:=h.slots (.m q);rw[Q]at Y;obtain⟨b,c,S,O,J,Z,g4⟩:=Y;have ab:q∉l:=SO r.1;refine⟨b:: (S++L),⟨b,c,S,_,L,by simp[I,O],rfl,Z,?_,D⟩,⟨q,l,b,S,_,f,_,rfl,by simp[I,O],J,Q,E⟩,?_,?_⟩
     ·exact JN (L6 _) (λ_ h=>h) (LX A.2 g4)
     ·have K:=h.nodup (.m q);rw[J]at K;have:(b::S++L).Nodup:=Lk.2 ⟨K,G,λx hx y hy e=>by
       subst e;rcases N x hy with⟨q',ad,V⟩|hM
       ·have:=h.pS (.m q) (.m q') x (by rw[J];exact hx) V;simp_all
       grind⟩
      simpa using this
     grind
    ·cases d
   ·cases d
  ·cases d
 |z::m,.mv t f::as,x::xs,us,rs,M,p,g,i,d,r=>by
  simp only[AI]at d;split at d
  ·rename_i u B l C j;simp only[pB,pF]at d;obtain⟨rfl,rfl⟩:=d;obtain⟨vs,S,M',rfl,P,W,rfl,h3⟩:=p;have ar:=fX C;have au:z.2=u:=Af
   obtain⟨O,J,Z⟩:=Lk.1 g;obtain⟨L,D,E,G,N⟩:=VE h h3 J (λk b hb p=>i k b hb (by simp[p])) j r;refine⟨S++L,⟨vs,S,_,L,by simp[P],rfl,Af,D⟩,⟨_,_,rfl,E⟩,Lk.2 ⟨O,G,λy hy y' a0 e=>?_⟩,λb hb=>?_⟩
   all_goals grind
  ·cases d
 |[],.mv .. ::_,_,_,_,_,_,_,_,d,_=>by grind[AI]
 |_::_,.mv .. ::_,[],_,_,_,_,_,_,d,_=>by grind[AI]
 |_,[],_::_,_,_,_,_,_,_,d,_=>by grind[AI]
 |_,.sh _::_,[],_,_,_,_,_,_,d,_|_,.bx .. ::_,[],_,_,_,_,_,_,d,_=>by simp[AI]at d
def R.frz(hs0:g.soft=K4)(h:R n W0 w X F H s a){T:Ty}{f:Fl}{x:T.den}(hg:s.get (.m k)=.val T f x)(hf:f.live=K3):
  R n W0 w (λb=>X b\/b∈F (.m k)) (Xp F (.m k) []) H (WL s k (.val T (.u K4) x)) a:=by
 have A:qQ W0.gh w w s (WL s k (.val T (.u K4) x)) F (Xp F (.m k) []) a k (.val T (.u K4) x):=yS ⟨by rw[Kt];simp,λp v U hv=>by
  simp_all[Yl,Kt]⟩
 exact
 {size:=h.size
  defers:=h.defers
  below:=h.below
  glob:=h.glob
  gx:=λb c=>.inl (h.gx b c)
  xs:=λe=>Af
  fix:=h.fix
  xlt:=λb c=>c.elim (h.xlt b) λc=>(h.own _ b c).2.1
  xin:=λb c=>c.elim (h.xin b) λc=>.inr (h.own _ b c).1
  x0:=λb c=>.inl (h.x0 b c)
  own:=λj b c=>by
   simp only[Xp]at c;split at c
   ·cases c
   ·rename_i q;obtain⟨o,r,t⟩:=h.own j b c;exact⟨o,r,λhx=>hx.elim t λhk=>q (h.pS j (.m k) b c hk)⟩
  nodup:=λj=>by
   simp only[Xp];split
   ·simp
   ·exact h.nodup j
  pS:=λj B b c l=>by
   simp only[Xp]at c l;split at c
   ·cases c
   ·split at l
    ·cases l
    ·exact h.pS j B b c l
  hown:=λb c=>let⟨o,r,t⟩:=h.hown b c;⟨o,r,λhx=>hx.elim t λhk=>h.pL _ b hk c⟩
  pK:=h.pK
  pL:=λj b c=>by
   simp only[Xp]at c;split at c
   ·cases c
   ·exact h.pL j b c
  pM:=λd i y=>by
   rw[Kt]at y⊢;simp only[reduceCtorEq,if_false]at y;obtain⟨o,r⟩:=h.pM d i y
   grind
  slots:=λj=>by
   by_cases q:j=.m k
   ·subst q;have z:=h.slots (.m k);rw[hg]at z;obtain⟨C,o,r⟩:=z;rw[Kt];simp only[if_true,Xp];exact⟨C,o,by grind[TZ,Vn]⟩
   ·have e:Xp F (.m k) [] j=F j:=by simp[Xp,q]
    rw[Kt,e];simp only[Lp q,if_false];exact Oo A (λ_ h=>.inl h) (λ_ _=>rfl) (λ_ _ _ _=>rfl) (λ_ _=>rfl) (λe D E G b S c=>Af) (h.slots j)}
def lD(hs0:g.soft=K4):∀{as:List AK}{xs:List Lc}{s:St}{X:Nat->Prop}{F:Bk->List Nat},R n W0 w X F H s a-> ∃X' F',R n W0 w X' F' H (xp as xs s) a/\(∀b,X b->X' b)/\ ∀q,s.isBox q->(xp as xs s).isBox q
 |[],_,s,X,F,h=>⟨X,F,h,λ_ h=>h,λ_ h=>h⟩
 |.sh t::as,[],s,X,F,h=>⟨X,F,h,λ_ h=>h,λ_ h=>h⟩
 |.bx _ _ _::as,[],s,X,F,h=>⟨X,F,h,λ_ h=>h,λ_ h=>h⟩
 |.mv .. ::as,[],s,X,F,h=>⟨X,F,h,λ_ h=>h,λ_ h=>h⟩
 |.mv .. ::as,_::xs,s,X,F,h=>lD hs0 (as:=as) (xs:=xs) h
 |.bx _ _ _::as,_::xs,s,X,F,h=>lD hs0 (as:=as) (xs:=xs) h
 |.sh t::as,x::xs,s,X,F,h=>by
  simp only[xp];split
  ·exact lD hs0 h
  ·split
   ·split
    ·rename_i U f y d;split
     ·rename_i i;obtain⟨X',F',j,k,l⟩:=lD hs0 (as:=as) (xs:=xs) (R.frz hs0 h d i);refine⟨X',F',j,λb m=>k b (.inl m),λq c=>l q ?_⟩;obtain⟨e,T,o,p,c⟩:=c;refine⟨e,T,o,p,?_⟩;rw[Kt,if_neg]
      all_goals grind
     ·exact lD hs0 h
    ·exact lD hs0 h
   ·exact lD hs0 h
def R.xup(hs0:g.soft=K4)(h:R n W0 w X F H s a)(hX:∀b,X b->X' b)(hlt:∀b,X' b->b<w.heap.size)(hin:∀b,X' b->W0.X0 b\/W0.mine b)(hF:∀k b,b∈F k-> ¬X' b)(hH:∀b,b∈H-> ¬X' b):R n W0 w X' F H s a:=
 {h with
  gx:=λb c=>hX b (h.gx b c)
  xs:=λe=>Af
  xlt:=hlt
  xin:=hin
  x0:=λb c=>hX b (h.x0 b c)
  own:=λk b c=>let⟨h1,h2,_⟩:=h.own k b c;⟨h1,h2,hF k b c⟩
  hown:=λb c=>let⟨h1,h2,_⟩:=h.hown b c;⟨h1,h2,hH b c⟩
  slots:=λk=>th hX (λ_ _=>rfl) (λ_ _ _=>rfl) (λ_ _=>rfl) (h.slots k)}
def FX(s:St)(k:Nat)(e:Ld)(T:Ty)(x:T.den):St:=ch (ch s k (.box e T .d x)) k (.box e T (.u K4) x)
theorem R.frzX(hs0:g.soft=K4)(h:R n W0 w X F H s a){e:Ld}{T:Ty}{f:Fl}{x:T.den}(hg:s.get (.m k)=.box e T f x)(hf:f.live=K3):
  ∃X' F',R n W0 w X' F' H (FX s k e T x) a/\ ∀b,X b->X' b:=by
 have q:=h.slots (.m k);rw[hg]at q;obtain⟨b,c,S,r,t,u,v⟩:=q;have o:=h.nodup (.m k);rw[t]at o;have A:∀j∈b::S,j∉H:=λj i=>h.pL (.m k) j Af;have l:∀j∈S,j∈F (.m k):=λj i=>Af
 have B:R n W0 w X (Xp F (.m k) [b]) (S++H) (ch s k (.box e T .d x)) a:=by
  refine h.turn (S':=[b]) (H':=S++H) h.below (Ll _) (λ_ _=>rfl) (λ_ _ _ _=>rfl) ?_ ?_ (by rw[hg];simp) ?_ ?_
  ·simp_all
  ·refine Lk.2 ⟨Ac,Lk.2 ⟨(L5.1 o).2,h.pK,λx hx y p e=>A x (by simp[hx]) (by rw[e];exact p)⟩,λx hx y p e=>?_⟩;simp_all
  ·grind
  ·exact⟨b,c,[],r,rfl,u,by unfold TZ;exact⟨Kp v,rc v,rfl⟩⟩
 have z:R n W0 w (λj=>X j\/j∈S) (Xp F (.m k) [b]) H (ch s k (.box e T .d x)) a:=by
  refine R.xup hs0 B.drop (λ_ h=>.inl h) (λj i=>i.elim (h.xlt j) λi=>(h.own _ j (l j i)).2.1) (λj i=>i.elim (h.xin j) λi=>.inr (h.own _ j (l j i)).1) (λC j i hx=>?_) (λj i hx=>?_)
  ·simp only[Xp]at i;split at i
   ·simp only[Mn]at i;subst i;rcases hx with hx|hx
    ·exact(h.own (.m k) j (by rw[t];simp)).2.2 hx
    simp_all
   ·rename_i hk;rcases hx with hx|hx
    ·exact(h.own C j i).2.2 hx
    ·exact hk (h.pS _ _ j i (l j hx))
  ·rcases hx with hx|hx
   ·exact(h.hown j i).2.2 hx
   simp_all
 refine⟨λj=>X j\/j∈S,Xp (Xp F (.m k) [b]) (.m k) [b],?_,λ_ h=>.inl h⟩;have D:Xp F (.m k) [b] (.m k)=[b]:=by simp[Xp]
 refine z.turn (S':=[b]) (H':=H) z.below (Ll _) (λ_ _=>rfl) (λ_ _ _ _=>rfl) ?_ ?_ (by rw[Vp];simp) ?_ ?_
 ·grind
 ·exact Lk.2 ⟨Ac,h.pK,λx hx y p e=>by
   simp_all⟩
 ·grind[Vp]
 ·exact⟨b,c,[],r,rfl,u,by grind[TZ,Vn]⟩
def AT(s:St)(k:Nat):St:=match s.get (.m k)with
 |.val U f y=>match f.live with
  |true=>WL s k (.val U (.u K4) y)
  |false=>s
 |.box e T f x=>match f.live with
  |true=>FX s k e T x
  |false=>s
 |_=>s
def Qgm(hs0:g.soft=K4)(h:R n W0 w X F H s a)(k:Nat):∃X' F',R n W0 w X' F' H (AT s k) a:=by
 unfold AT;split
 ·rename_i U f y b;split
  ·rename_i c;exact⟨_,_,R.frz hs0 h b c⟩
  grind
 all_goals grind[R.frzX]
def TA:Fl->Ty->Fl->Fl
 |.u K4,_,f=>match f.live with
  |true=>.u K4
  |false=>f
 |.u K3,_,f=>f
 |.d,_,f=>f
 |.p a b,.pair A B,f=>.p (TA a A (jA f 0)) (TA b B f.snd)
 |.p (.u K3) (.u K4),.slice _ _,.u K3=>.p (.u K3) (.u K4)
 |.p _ _,_,f=>f
def NG:∀{o:Fl}{T:Ty}{f:Fl}{x:T.den}{vs:List La}{S:List Nat},S.Nodup->TZ w X B T f x vs S->
  ∃S',S'.Sublist S/\ ∀X':Nat->Prop,(∀b,X b->X' b)->(∀b,b∈S->b∉S'->X' b)->TZ w X' B T (TA o T f) x vs S'
 |.u K4,T,f,x,vs,S,c,h=>by
  cases hl:f.live
  ·refine⟨S,Me _,λX' g _=>?_⟩;simp only[TA,hl];exact JN (Ll _) g h
  ·refine⟨[],List.nil_sublist _,λX' g j=>?_⟩
   grind[TA,TZ,Vn]
 |.u K3,T,f,x,vs,S,c,h=>⟨S,Me _,λX' g _=>by unfold TA;exact JN (Ll _) g h⟩
 |.d,T,f,x,vs,S,c,h=>⟨S,Me _,λX' g _=>by unfold TA;exact JN (Ll _) g h⟩
 |.p a b,.pair A N,f,x,vs,S,c,h=>by
  obtain⟨C,D,r,E,e,F,l,m⟩:=JP h;subst F;have k:=Lk.1 c;obtain⟨s,G,H⟩:=NG (o:=a) k.1 l;obtain⟨y,I,J⟩:=NG (o:=b) k.2.1 m;refine⟨s++y,List.Sublist.append G I,λX' g j=>?_⟩;refine⟨C,D,s,y,e,rfl,H X' g λb i n=>j b (by simp[i]) λq=>?_,J X' g λb i n=>j b (by simp[i]) λq=>?_⟩
  all_goals grind
 |.p a b,.slice e t,f,x,vs,S,c,h=>by
  by_cases K:a=.u K3/\b=.u K4/\f=.u K3
  ·obtain⟨rfl,rfl,rfl⟩:=K;unfold TZ at h;obtain⟨v,L,r,E,M,rfl,l,m⟩:=h;refine⟨r,Ac,λX' g j=>?_⟩;exact⟨v,L,M,ID l g (λ_ _=>rfl) (λ_ _=>rfl),yx m λ_ _ T _ z h=>nM g h λb i=>j b (by simp[z b i]) λq=>(Lk.1 c).2.2 b q b (z b i) rfl⟩
  ·have e:TA (.p a b) (.slice e t) f=f:=by
    unfold TA
    grind
   refine⟨S,Me _,λX' g _=>?_⟩;rw[e];exact JN (Ll _) g h
 |.p _ _,.unit,f,x,vs,S,c,h|.p _ _,.int _,f,x,vs,S,c,h|.p _ _,.bool,f,x,vs,S,c,h|.p _ _,.str,f,x,vs,S,c,h|.p _ _,.arr ..,f,x,vs,S,c,h|.p _ _,.fnc _,f,x,vs,S,c,h|.p _ _,.err,f,x,vs,S,c,h|.p _ _,.hid _,f,x,vs,S,c,h|.p _ _,.sptr ..,f,x,vs,S,c,h|.p _ _,.clo ..,f,x,vs,S,c,h=>
  ⟨S,Me _,λX' g _=>by unfold TA;exact JN (Ll _) g h⟩
def Qr9(s:St)(k:Nat)(o:Fl):St:=match s.get (.m k)with
 |.box e T f x=>WL s k (.box e T (TA o T f) x)
 |_=>s
def R.frzP(hs0:g.soft=K4)(h:R n W0 w X F H s a)(k:Nat)(o:Fl):∃X' F',R n W0 w X' F' H (Go.Am.Qr9 s k o) a:=by
 unfold Go.Am.Qr9;split
 ·rename_i e T f x E;have G:=h.slots (.m k);rw[E]at G;obtain⟨b,c,S,K,L,M,N⟩:=G;have u:=h.nodup (.m k);rw[L]at u;have O:=(L5.1 u).1;obtain⟨r,y,P⟩:=NG (o:=o) (L5.1 u).2 N;have Q:∀b,b∈r->b∈S:=λb q=>y.subset q;have V:qQ W0.gh w w s (WL s k (.box e T (TA o T f) x)) F (Xp F (.m k) (b::r)) a k (.box e T (TA o T f) x):=yS ⟨by rw[Kt];simp,λp v U hv=>by
   unfold Yl at hv⊢;rw[E]at hv;rw[Kt]
   grind⟩
  have hk:∀l,l∈b::S->l∈F (.m k):=λl t=>Af
  refine⟨λl=>X l\/(l∈S/\l∉r),Xp F (.m k) (b::r),
  {size:=h.size
   defers:=h.defers
   below:=h.below
   glob:=h.glob
   gx:=λb q=>.inl (h.gx b q)
   xs:=λe=>Af
   fix:=h.fix
   xlt:=λl q=>q.elim (h.xlt l) λq=>(h.own _ l (hk l (by simp[q.1]))).2.1
   xin:=λl q=>q.elim (h.xin l) λq=>.inr (h.own _ l (hk l (by simp[q.1]))).1
   x0:=λb q=>.inl (h.x0 b q)
   own:=λj l q=>?_
   nodup:=λj=>?_
   pS:=λj I l q t=>?_
   hown:=λl q=>let⟨z,A,C⟩:=h.hown l q;⟨z,A,λhx=>hx.elim C λhx=>h.pL _ l (hk l (by simp[hx.1])) q⟩
   pK:=h.pK
   pL:=λj l q=>?_
   pM:=λd i D=>?_
   slots:=λj=>?_}⟩
  ·simp only[Xp]at q;split at q
   ·have W:l∈b::S:=Ai
    obtain⟨z,A,C⟩:=h.own _ l (hk l W)
    grind
   ·rename_i B;obtain⟨z,A,C⟩:=h.own j l q;exact⟨z,A,λhx=>hx.elim C λhx=>B (h.pS j (.m k) l q (hk l (by simp[hx.1])))⟩
  ·simp only[Xp];split
   ·grind
   ·exact h.nodup j
  ·have J:∀j,l∈Xp F (.m k) (b::r) j->l∈F j:=λj q=>by
    grind
   exact h.pS j I l (J j q) (J I t)
  ·simp only[Xp]at q;split at q
   ·exact h.pL (.m k) l (hk l Ai)
   ·exact h.pL j l q
  ·rw[Kt]at D⊢;simp only[reduceCtorEq,if_false]at D;obtain⟨z,A⟩:=h.pM d i D
   grind
  ·by_cases B:j=.m k
   ·subst B;rw[Kt];simp only[if_true];rw[show Xp F (.m k) (b::r) (.m k)=b::r from by simp[Xp]];exact⟨b,c,r,K,rfl,M,P _ (λ_ h=>.inl h) λb q t=>.inr ⟨q,t⟩⟩
   ·have Y:Xp F (.m k) (b::r) j=F j:=by simp[Xp,B]
    rw[Kt,Y];simp only[Lp B,if_false];exact Oo V (λ_ h=>.inl h) (λ_ _=>rfl) (λ_ _ _ _=>rfl) (λ_ _=>rfl) (λe' T' f' x' b2 S2 q Z=>by
     grind) (h.slots j)
 grind
def I6(s:St)(k:Nat):Fl->St|.u K3=>s|.u K4=>AT s k|o=>Qr9 s k o
def MG(hs0:g.soft=K4)(h:R n W0 w X F H s a)(k:Nat)(o:Fl):∃X' F',R n W0 w X' F' H (I6 s k o) a:=by
 unfold I6;split
 ·grind
 ·exact Qgm hs0 h k
 ·exact R.frzP hs0 h k _
def x9:List (Nat×Fl)->St->St|[],s=>s|(k,o)::r,s=>x9 r (I6 s k o)
def RI(hs0:g.soft=K4):∀{L:List (Nat×Fl)}{s:St}{X:Nat->Prop}{F:Bk->List Nat},R n W0 w X F H s a-> ∃X' F',R n W0 w X' F' H (x9 L s) a
 |[],s,X,F,h=>⟨X,F,h⟩
 |(k,o)::r,s,X,F,h=>by
  obtain⟨c,d,b⟩:=MG hs0 h k o;exact RI hs0 (L:=r) b
theorem ON:∀{rs:List Nat}{s:St}{k:Bk},(∀q,q∈rs->k≠ .m q)->(ZR rs s).get k=s.get k
 |[],s,k,_=>rfl
 |q::rs,s,k,h=>by
  simp only[ZR];split
  ·rw[ON λq a=>h q (by simp[a]),Vp,if_neg (Lp (h q Ac))]
  ·exact ON λq a=>h q (by simp[a])
theorem wZ:∀{rs:List Nat}{s:St}{r:Nat},s.pN r=K3->(ZR rs s).pN r=K3
 |[],s,r,h=>h
 |q::rs,s,r,h=>by
  simp only[ZR];split
  ·refine wZ ?_
   grind[ch,YP]
  ·exact wZ h
theorem Z6w(s:St)(q:Nat)(t:Tm):(ch s q t).pN q=true:=by
 cases hc:(ch s q t).pN q
 ·exact absurd rfl (YP hc).2
 ·rfl
def R.wreck:∀{rs:List Nat}{s:St}{F:Bk->List Nat},R n W0 w X F H s a->rs.Nodup->(∀q,q∈rs->s.isBox q)->
  ∃F',R n W0 w X F' H (Go.Am.ZR rs s) a/\(∀k,(∀q,q∈rs->k≠ .m q)->F' k=F k)/\
   ∀q,q∈rs-> ∃e T f y b S,s.get (.m q)=.box e T f y/\F (.m q)=b::S/\(Go.Am.ZR rs s).get (.m q)=.box e T .d y/\F' (.m q)=[b]/\(Go.Am.ZR rs s).pN q=K3
 |[],s,F,h,_,_=>⟨F,h,λ_ _=>rfl,Ac⟩
 |q::rs,s,F,h,u,j=>by
  obtain⟨e,T,f,y,l⟩:=j q Ac;have o:=h.slots (.m q);rw[l]at o;obtain⟨b,c,S,v,z,A,p⟩:=o;have i:=L5.1 u;have B:R n W0 w X (Xp F (.m q) [b]) H (ch s q (.box e T .d y)) a:=by
   refine h.turn h.below (Ll _) (λ_ _=>rfl) (λ_ _ _ _=>rfl) ?_ ?_ (by rw[l];simp) ?_ ?_
   ·simp_all
   ·refine Lk.2 ⟨Ac,h.pK,λx hx y C e=>?_⟩;simp only[Mn]at hx;subst hx;subst e;exact h.pL (.m q) x (by rw[z];simp) C
   ·grind
   ·exact⟨b,c,[],v,rfl,A,by unfold TZ;exact⟨Kp p,rc p,rfl⟩⟩
  have r:∀g,g∈rs->(ch s q (.box e T .d y)).get (.m g)=s.get (.m g):=λg hq'=>by
   rw[Vp,if_neg]
   grind
  obtain⟨F',D,M,N⟩:=R.wreck B i.2 (λg hq'=>by
   obtain⟨E,G,I,J,K⟩:=j g (by simp[hq']);exact⟨E,G,I,J,Af⟩)
  have t:Go.Am.ZR (q::rs) s=Go.Am.ZR rs (ch s q (.box e T .d y)):=by simp_all[Go.Am.ZR]
  have L:∀g,g∈rs->Bk.m q≠ .m g:=λg hq' e=>Af
  refine⟨F',by rw[t];exact D,λk hk=>?_,λg hq'=>?_⟩
  ·simp_all
  ·rw[t];rcases L4.1 hq' with rfl|hq'
   all_goals grind[wZ,Z6w,ON,Vp]
def R.worldD{rs:List Nat}(h:R n W0 w X F H s a)(hb:W0.below w')(hs:w.heap.size<=w'.heap.size)(hX:∀b,X b->w'.heap[b]? =w.heap[b]?)
  (hr:∀q,q∈rs->s.pN q=K3/\ ∃e T y b c,s.get (.m q)=.box e T .d y/\F (.m q)=[b]/\w'.heap[b]? =K1 (.cells c e (0,0))/\c.toList.length=T.size/\ ∀u∈c.toList,u.oneCell'=K3)
  (hF:∀k,(∀q,q∈rs->k≠ .m q)-> ∀b∈F k,w'.heap[b]? =w.heap[b]?):R n W0 w' X F H s a:=
 {h with
  below:=hb
  glob:=g.stays _ _ h.glob λb hb=>hX b (h.gx b hb)
  xlt:=λb z=>Mc (h.xlt b z) hs
  own:=λk b z=>let⟨D,C,E⟩:=h.own k b z;⟨D,Mc C hs,E⟩
  hown:=λb z=>let⟨D,C,E⟩:=h.hown b z;⟨D,Mc C hs,E⟩
  slots:=λk=>by
   by_cases hk:∃q,q∈rs/\k=.m q
   ·obtain⟨q,G,rfl⟩:=hk;obtain⟨_,e,T,y,b,c,D,C,E,P,Q⟩:=hr q G;have hv:=h.slots (.m q);rw[D]at hv⊢;obtain⟨V,W,Y,M,K,_⟩:=hv;rw[C]at K;obtain⟨rfl,rfl⟩:=Lu K;exact⟨b,c,[],M,C,E,Ao⟩
   ·have hk:∀q,q∈rs->k≠ .m q:=λq G e=>hk ⟨q,G,e⟩;have I:=hF k hk;have J:∀{r:Nat}{p:List Nat}{v:La}{U:Ty},s.pN r=K4->Yl W0.gh w s F a r p v U->Yl W0.gh w' s F a r p v U:=λ{r p v U} A hv=>
     Po hv (hF (.m r) λq G e=>by
      simp_all)
    have o:=h.slots k;generalize s.get k=u at o;generalize Xj W0.gh a k=v at o⊢;generalize F k=S at o I⊢
    induction u with
    |pR=>exact o
    |tup=>exact o
    |val T f x=>exact th (s:=s) (F:=λ_=>[]) (a:=a) (v:=v) (t:=.val T f x) (λ_ h=>h) hX Ac I (show vt W0.gh w X W0.B s (λ_=>[]) a v S (.val T f x)from o)
    |box e T f x=>exact th (s:=s) (F:=λ_=>[]) (a:=a) (v:=v) (t:=.box e T f x) (λ_ h=>h) hX Ac I (show vt W0.gh w X W0.B s (λ_=>[]) a v S (.box e T f x)from o)
    |shp T x=>exact th (s:=s) (F:=λ_=>[]) (a:=a) (v:=v) (t:=.shp T x) (λ_ h=>h) hX Ac I (show vt W0.gh w X W0.B s (λ_=>[]) a v S (.shp T x)from o)
    |ptr r p=>exact o
    |aep r p i=>exact o
    |pls Z l=>exact⟨o.1,WH (λ_ h=>h) hX (λ_ _ _ h=>h) o.2⟩
    |bor r p=>exact⟨o.1,λA=>let⟨U,h⟩:=o.2 A;⟨U,J (St.bad_foul A) h⟩⟩
    |elp r p i q=>exact⟨o.1,λA=>let⟨e,t',ad,n,cap,h,h'⟩:=o.2 A;⟨e,t',ad,n,cap,J (St.bad_foul A) h,h'⟩⟩
    |bel r p i q=>exact⟨o.1,λA N=>let⟨e,t',ad,n,cap,x0,y,cs,h,k1,k2,k3,k4,k5,k6,k7⟩:=o.2 A N;⟨e,t',ad,n,cap,x0,y,cs,J (St.bad_foul A) h,k1,k2,k3,k4,k5,k6,λj u hj=>by
      grind[Md,Mt,Bk.m.injEq,St.bad_foul]⟩⟩
    |cl f l=>exact o
    |gd g L u O=>exact λA=>let⟨h0,D,C⟩:=o A;⟨h0,λhb=>O (D hb),C⟩}
def SK(F:Bk->List Nat)(s:St):List AK->List Nat->List Nat->Prop|[],rs,BL=>rs=[]/\BL=[]|.sh _::as,rs,BL=>SK F s as rs BL|.bx e T _::as,rs,BL=> ∃q rs' b BL' y,rs=q::rs'/\BL=b::BL'/\F (.m q)=[b]/\s.get (.m q)=.box e T .d y/\SK F s as rs' BL'|.mv .. ::as,rs,BL=>SK F s as rs BL
def SI(h:R n W0 w X F H s a):∀{as:List AK}{rs BL:List Nat},SK F s as rs BL-> ∀{j q b:Nat},rs[j]? =K1 q->BL[j]? =K1 b->Xj W0.gh a (.m q)=.pointer (K1 ⟨b,0,K2⟩)
 |[],_,_,⟨v,x⟩,j,q,b,d,_=>Af
 |.sh _::as,_,_,g,j,q,b,d,f=>SI h (as:=as) g d f
 |.mv .. ::as,_,_,g,j,q,b,d,f=>SI h (as:=as) g d f
 |.bx e T _::as,rs,BL,⟨k,l,z,o,y,p,r,A,t,u⟩,j,q,b,d,f=>by
  subst p;subst r;cases j with
  |zero=>
   simp only[Mh,pB]at d f;subst d;subst f;have i:=h.slots (.m k);rw[t]at i;obtain⟨B,c,S,C,D,_⟩:=i;simp_all
  |succ j=>exact SI h (as:=as) u (by simpa using d) (by simpa using f)
def jI{t:Tm}{q:Nat}{b:Nat}:∀{as:List AK}{rs BL:List Nat},q∉rs->SK F s as rs BL-> ∀{S:List Nat},SK (Xp F (.m q) S) (ch s q t) as rs BL
 |[],_,_,_,h,_=>h
 |.sh _::as,rs,BL,a,h,_=>jI (b:=b) (as:=as) a h
 |.mv .. ::as,rs,BL,a,h,_=>jI (b:=b) (as:=as) a h
 |.bx e T _::as,rs,BL,a,⟨f,c,g,d,y,i,j,o,p,k⟩,S=>by
  subst i;have l:f≠q:=λe=>a (by simp[e]);exact⟨f,c,g,d,y,rfl,j,Ai,As,jI (b:=b) (λn=>a (by simp[n])) k⟩
def If:∀{as:List AK}{x:BS as}{vals:List La}{BL C rs:List Nat}{s:St}{F:Bk->List Nat},R n W0 w X F (C++H) s a->G3 w X as x vals BL C->SK F s as rs BL->rs.Nodup->(∀b,b∈C->W0.B<=b)->
  ∃F',R n W0 w X F' H (Ri as x rs s) a
 |[],x,vals,BL,C,rs,s,F,h,⟨_,_,e⟩,_,_,_=>by subst e;exact⟨F,h⟩
 |.sh _::as,x,vals,BL,C,rs,s,F,h,⟨v,t,_,i⟩,j,d,f=>If (as:=as) h i j d f
 |.mv .. ::as,x,vals,BL,C,rs,s,F,h,⟨v,t,_,i⟩,j,d,f=>If (as:=as) h i j d f
 |.bx e T o::as,x,vals,BL,C,rs,s,F,h,⟨b,c,S,t,K,u,Y,L,M,z,Z,N⟩,⟨q,k,b2,O,y,P,A,D,E,Q⟩,d,f=>by
  subst P;subst M;rw[L]at A;obtain⟨rfl,rfl⟩:=Lu A;have g:=L5.1 d;have G:=h.slots (.m q);rw[E]at G;obtain⟨I,c',S',U,J,V,_⟩:=G;rw[D]at J;obtain⟨rfl,rfl⟩:=Lu J;rw[z]at V;have l:=h.pK;rw[Mf]at l;have W:b∉(S++u)++H:=h.pL (.m q) b (by rw[D];simp);have p:R n W0 w X (Xp F (.m q) (b::S)) (u++H) (ch s q (.box e T o x.1)) a:=by
   refine h.turn h.below (Ll _) (λ_ _=>rfl) (λ_ _ _ _=>rfl) ?_ ?_ (by rw[E];simp) ?_ ?_
   ·simp_all
   ·simp_all
   ·grind
   ·refine⟨b,c,S,U,rfl,z,?_⟩
    grind[A2]
  show ∃F',R n W0 w X F' H (Ri as x.2 k (ch s q (.box e T o x.1))) a;exact If (as:=as) p N (jI (b:=b) g.1 Q) g.2 λI r=>f I (by simp[r])
def GA:∀{as:List AK}{rs:List Nat}{vals:List La}{x:BS as}{BL C:List Nat},RU F s as rs vals->G3 w' X' as x vals BL C-> ∀q,q∈rs->
  ∃e T f y b S c,s.get (.m q)=.box e T f y/\F (.m q)=b::S/\b∈BL/\w'.heap[b]? =K1 (.cells c e (0,0))/\c.toList.length=T.size/\ ∀u∈c.toList,u.oneCell'=K3
 |[],_,_,_,_,_,⟨h,_⟩,_,q,hq=>by subst h;cases hq
 |.sh _::as,rs,vals,x,BL,C,⟨v,k,d,g⟩,⟨n,j,a,i⟩,q,hq=>by
  rw[d]at a;obtain⟨rfl,rfl⟩:=Lu a;exact GA (as:=as) g i q hq
 |.mv .. ::as,rs,vals,x,BL,C,⟨v,k,d,g⟩,⟨n,j,a,i⟩,q,hq=>by
  rw[d]at a;obtain⟨rfl,rfl⟩:=Lu a;exact GA (as:=as) g i q hq
 |.bx e T o::as,rs,vals,x,BL,C,⟨A,p,b,S,k,f,y,d,g,B,D,r⟩,⟨E,c,G,t,w,H,a,i,I,J,K,z⟩,q,hq=>by
  rw[g]at a;obtain⟨l,rfl⟩:=Lu a;simp only[M7,pB,Mv,and_true]at l;subst l;subst d;rcases L4.1 hq with rfl|hq
  ·grind[Kp,rc]
  ·obtain⟨L,M,N,O,P,Q,U,V,W,X,Y⟩:=GA r z q hq
   grind
def TI{s2:St}{F2:Bk->List Nat}:∀{as:List AK}{rs:List Nat}{vals:List La}{x:BS as}{BL C:List Nat},RU F s as rs vals->G3 w' X' as x vals BL C->
  (∀q,q∈rs-> ∀e T f y b S,s.get (.m q)=.box e T f y->F (.m q)=b::S->s2.get (.m q)=.box e T .d y/\F2 (.m q)=[b])->SK F2 s2 as rs BL
 |[],_,_,_,_,_,⟨h,_⟩,⟨_,g,_⟩,_=>⟨h,g⟩
 |.sh _::as,rs,vals,x,BL,C,⟨v,p,i,g⟩,⟨u,k,a,j⟩,hk=>by
  rw[i]at a;obtain⟨rfl,rfl⟩:=Lu a;exact TI (as:=as) g j hk
 |.mv .. ::as,rs,vals,x,BL,C,⟨v,p,i,g⟩,⟨u,k,a,j⟩,hk=>by
  rw[i]at a;obtain⟨rfl,rfl⟩:=Lu a;exact TI (as:=as) g j hk
 |.bx e T o::as,rs,vals,x,BL,C,⟨r,l,b,S,p,f,y,i,g,w,z,A⟩,⟨I,c,J,B,n,K,a,j,L,M,N,D⟩,hk=>by
  rw[g]at a;obtain⟨t,rfl⟩:=Lu a;simp only[M7,pB,Mv,and_true]at t;subst t;subst i;obtain⟨E,G⟩:=hk r Ac _ _ _ _ _ _ z w;exact⟨r,l,b,n,y,rfl,j,G,E,TI A D λq H=>hk q (by simp[H])⟩
def FC:∀{as:List AK}{rs:List Nat}{vals:List La},RU F s as rs vals-> ∀q,q∈rs->s.isBox q
 |[],_,_,⟨h,_⟩,q,hq=>by subst h;cases hq
 |.sh _::as,rs,vals,⟨v,d,c,a⟩,q,hq=>FC a q hq
 |.mv .. ::as,rs,vals,⟨v,d,c,a⟩,q,hq=>FC a q hq
 |.bx e T o::as,rs,vals,⟨k,g,b,S,d,f,y,c,a,l,i,j⟩,q,hq=>by
  subst c;rcases L4.1 hq with rfl|hq
  ·exact⟨e,T,f,y,i⟩
  ·exact FC j q hq
def Qld{q:Nat}{t:Tm}(h:aX s d=K3)(hq:q≠d):aX (ch s q t) d=true:=by
 unfold aX at*
 rw[Vp,if_neg (by simpa using hq)];exact h
def Ch{d:Nat}:∀{as:List AK}{x:BS as}{rs:List Nat}{s:St},aX s d=K3->d∉rs->aX (Ri as x rs s) d=K3
 |[],_,_,_,h,_=>h
 |.sh _::as,x,rs,s,h,a=>Ch (as:=as) h a
 |.mv .. ::as,x,rs,s,h,a=>Ch (as:=as) h a
 |.bx e T o::as,x,q::rs,s,h,a=>Ch (as:=as) (Qld h λe=>a (by simp[e])) λb=>a (by simp[b])
 |.bx .. ::_,x,[],s,h,_=>h
def BM:∀{ts:List Ty}{x:dJ ts}{rs:List La},Og w X ts x rs->rs.length=ts.length
 |[],_,_,h=>by simp_all[Og]
 |t::ts,_,_,⟨_,_,e,_,h⟩=>by simp[e,BM h]
def R.putTupSh{ts:List Ty}{x:dJ ts}(h:R n W0 w X F H s a)(hd:aX s d=K3)(hn:d<n)(hx:Og w X ts x vs):
  ∃F',R n W0 w X F' H {env:=Tc d ts x 0 (Jt s d .tup).env,pP:=(Jt s d .tup).pP,pQ:=s.pQ} (a.put (K1 d) (.tuple vs.toArray)):=by
 have I:R n W0 w X (Xp F (.m d) []) H (Jt s d .tup) (a.put (K1 d) (.tuple vs.toArray)):=(by simpa using h:R n W0 w X F ([]++H) s a).put hd hn rfl;have l:zD W0.gh (a.put (K1 d) (.tuple vs.toArray)) d=.tuple vs.toArray:=yA (a:=a) (by rw[h.size];exact hn);have A:∀i,(Jt s d .tup).get (.c d i)=.pR:=λi=>by
  rw[vk];simp only[reduceCtorEq,if_false];exact Mk λo=>by have:=(h.pM d i o).1;simp_all[aX]
 suffices hs:∀(ts:List Ty)(x:dJ ts)(z:List La)(i:Nat)(F:Bk->List Nat)(r:List (Bk×Tm))(pre:List La),vs=pre++z->pre.length=i->Og w X ts x z->
   R n W0 w X F H {env:=r,pP:=(Jt s d .tup).pP,pQ:=s.pQ} (a.put (K1 d) (.tuple vs.toArray))->oq r (.m d)=.tup->(∀j,i<=j->oq r (.c d j)=.pR)->
   ∃F',R n W0 w X F' H {env:=Tc d ts x i r,pP:=(Jt s d .tup).pP,pQ:=s.pQ} (a.put (K1 d) (.tuple vs.toArray)) by
  obtain⟨F',p⟩:=hs ts x vs 0 _ (Jt s d .tup).env [] rfl rfl hx I (OT _ _ _) (λj _=>A j)
  grind
 intro ts
 induction ts with
 |nil=>
  intro x z i F r pre _ _ hx g _ _;exact⟨F,g⟩
 |cons t ts J=>
  intro x z i F r pre B q hx g v b;obtain⟨C,D,rfl,K,E⟩:=hx;have f:Xj W0.gh (a.put (K1 d) (.tuple vs.toArray)) (.c d i)=Kx t C:=by
   simp_all[Xj,Array.getD_eq_getD_getElem?]
  have G:F (.c d i)=[]:=by
   have:=g.slots (.c d i);simp only[St.get,b i (Ll _)]at this;exact this
  have y:R n W0 w X F H {env:=(.c d i,.val t (.u K4) x.1)::r,pP:=(Jt s d .tup).pP,pQ:=s.pQ} (a.put (K1 d) (.tuple vs.toArray)):=
   {g with
    pM:=λL j o=>by
     simp only[St.get,Ql]at o⊢;simp only[reduceCtorEq,if_false];split at o
     ·rename_i e;simp only[Bk.c.injEq]at e;obtain⟨rfl,rfl⟩:=e;refine⟨v,vs.toArray,l,?_⟩;simp_all
     ·exact g.pM L j o
    slots:=λk=>by
     by_cases hk:k=.c d i
     ·subst hk;simp only[St.get,Ql,if_true];rw[G];exact⟨C,f,by grind[TZ,dd]⟩
     ·have M:St.get {env:=(Bk.c d i,Tm.val t (.u K4) x.1)::r,pP:=(Jt s d .tup).pP,pQ:=s.pQ} k=St.get {env:=r,pP:=(Jt s d .tup).pP,pQ:=s.pQ} k:=by simp[St.get,Ql,Lp hk]
      rw[M];have:=s9 (s:={env:=r,pP:=(Jt s d .tup).pP,pQ:=s.pQ}) (t:=d) (i:=i) (u:=Tm.val t (.u K4) x.1) (S0:=[]) (g.slots k);have N:Xp F (.c d i) []=F:=by
       grind
      simp_all}
  obtain⟨F',p⟩:=J x.2 D (i+1) _ _ (pre++[Kx t C]) (by rw[B];simp) (by simp[q]) E y (by simp_all[Ql]) (λj O=>by
   rw[Ql,if_neg Ae];grind)
  exact⟨F',p⟩
def R.putSh{rs:List La}:∀{ts:List Ty}{x:dJ ts},R n W0 w X F H s a->aX s d=K3->d<n->Og w X ts x rs->
  ∃F',R n W0 w X F' H (Go.Am.Qvm d s ts x) (a.put (K1 d) (ak rs))
 |[],x,h,b,c,hx=>by
  rw[XP (by rw[BM hx];simp)];exact h.putTupSh b c hx
 |[t],x,h,b,c,hx=>by
  obtain⟨e,f,rfl,g,rfl⟩:=hx;exact⟨_,(by simpa using h:R n W0 w X F ([]++H) s a).put b c ⟨e,rfl,by grind[TZ,dd]⟩⟩
 |t::u::ts,x,h,b,c,hx=>by
  rw[XP (by rw[BM hx];simp)];exact h.putTupSh b c hx
def Iz:∀{ts:List (Ty×Fl)}{x:cF ts}{rs:List La}{S:List Nat},vD w X B ts x rs S->rs.length=ts.length
 |[],_,_,_,h=>by simp[h.1]
 |t::ts,_,_,_,⟨_,_,_,_,e,_,_,h⟩=>by simp[e,Iz h]
def Hc:∀{ts:List (Ty×Fl)}{x:cF ts}{rs:List La}{S:List Nat},vD w X B ts x rs S->(∀b,b∈S->B'<=b)->vD w X B' ts x rs S
 |[],_,_,_,h,_=>h
 |t::ts,_,_,_,⟨c,d,f,g,e,i,j,k⟩,a=>⟨c,d,f,g,e,i,A2 j λb l=>a b Af,Hc k λb l=>a b Af⟩
def R.putTupF{ts:List (Ty×Fl)}{x:cF ts}(h:R n W0 w X F (S++H) s a)(hd:aX s d=K3)(hn:d<n)(hx:vD w X W0.B ts x vs S):
  ∃F',R n W0 w X F' H {env:=FK d ts x 0 (Jt s d .tup).env,pP:=(Jt s d .tup).pP,pQ:=s.pQ} (a.put (K1 d) (.tuple vs.toArray)):=by
 have P:R n W0 w X (Xp F (.m d) []) (S++H) (Jt s d .tup) (a.put (K1 d) (.tuple vs.toArray)):=(by simpa using h:R n W0 w X F ([]++(S++H)) s a).put hd hn rfl;have q:zD W0.gh (a.put (K1 d) (.tuple vs.toArray)) d=.tuple vs.toArray:=yA (a:=a) (by rw[h.size];exact hn);have E:∀i,(Jt s d .tup).get (.c d i)=.pR:=λi=>by
  rw[vk];simp only[reduceCtorEq,if_false];exact Mk λu=>by have:=(h.pM d i u).1;simp_all[aX]
 suffices hs:∀(ts:List (Ty×Fl))(x:cF ts)(D:List La)(i:Nat)(S:List Nat)(F:Bk->List Nat)(r:List (Bk×Tm))(pre:List La),vs=pre++D->pre.length=i->vD w X W0.B ts x D S->
   R n W0 w X F (S++H) {env:=r,pP:=(Jt s d .tup).pP,pQ:=s.pQ} (a.put (K1 d) (.tuple vs.toArray))->oq r (.m d)=.tup->(∀j,i<=j->oq r (.c d j)=.pR)->
   ∃F',R n W0 w X F' H {env:=FK d ts x i r,pP:=(Jt s d .tup).pP,pQ:=s.pQ} (a.put (K1 d) (.tuple vs.toArray)) by
  obtain⟨F',v⟩:=hs ts x vs 0 S _ (Jt s d .tup).env [] rfl rfl hx P (OT _ _ _) (λj _=>E j)
  grind
 intro ts
 induction ts with
 |nil=>
  intro x D i S F r pre _ _ hx f _ _;obtain⟨rfl,rfl⟩:=hx;exact⟨F,f⟩
 |cons t ts Q=>
  intro x D i S F r pre G y hx f z o;obtain⟨I,J,M,N,rfl,rfl,K,L⟩:=hx
  have p:Xj W0.gh (a.put (K1 d) (.tuple vs.toArray)) (.c d i)=Kx t.1 I:=by
   simp_all[Xj,Array.getD_eq_getD_getElem?]
  have A:R n W0 w X (Xp F (.c d i) M) (N++H) {env:=(.c d i,.val t.1 t.2 x.1)::r,pP:=(Jt s d .tup).pP,pQ:=s.pQ} (a.put (K1 d) (.tuple vs.toArray)):=by
   have U:F (.c d i)=[]:=by
    have:=f.slots (.c d i);simp only[St.get,o i (Ll _)]at this;exact this
   have C:=f.pK;rw[Mf]at C;exact
   {size:=f.size
    defers:=f.defers
    below:=f.below
    glob:=f.glob
    gx:=f.gx
    xs:=f.xs
    fix:=f.fix
    xlt:=f.xlt
    xin:=f.xin
    x0:=f.x0
    own:=λk b g=>by
     simp only[Xp]at g;split at g
     ·exact f.hown b (by simp[g])
     ·exact f.own k b g
    nodup:=λk=>by
     simp only[Xp];split
     ·grind
     ·exact f.nodup k
    pS:=λk O b g l=>by
     simp only[Xp]at g l;split at g<;>split at l
     ·simp_all
     ·exact absurd (by simp[g]) (f.pL O b l)
     ·exact absurd (by simp[l]) (f.pL k b g)
     ·exact f.pS k O b g l
    hown:=λb g=>f.hown b Af
    pK:=(Lk.1 C).2.1
    pL:=λk b g Z=>by
     simp only[Xp]at g;split at g
     ·grind
     ·exact f.pL k b g Af
    pM:=λV j u=>by
     simp only[St.get,Ql]at u⊢;simp only[reduceCtorEq,if_false];split at u
     ·rename_i e;simp only[Bk.c.injEq]at e;obtain⟨rfl,rfl⟩:=e;refine⟨z,vs.toArray,q,?_⟩;simp_all
     ·exact f.pM V j u
    slots:=λk=>by
     by_cases hk:k=.c d i
     ·subst hk;simp only[St.get,Ql,if_true,Xp];exact⟨I,p,K⟩
     ·have W:St.get {env:=(Bk.c d i,Tm.val t.1 t.2 x.1)::r,pP:=(Jt s d .tup).pP,pQ:=s.pQ} k=St.get {env:=r,pP:=(Jt s d .tup).pP,pQ:=s.pQ} k:=by simp[St.get,Ql,Lp hk]
      have Y:Xp F (.c d i) M k=F k:=by simp[Xp,hk]
      rw[W,Y];exact s9 (s:={env:=r,pP:=(Jt s d .tup).pP,pQ:=s.pQ}) (f.slots k)}
  obtain⟨F',v⟩:=Q x.2 J (i+1) N _ _ (pre++[Kx t.1 I]) (by rw[G];simp) (by simp[y]) L A (by simp_all[Ql]) (λj hj=>by
   rw[Ql,if_neg Ae];grind)
  exact⟨F',v⟩
def R.putF{rs:List La}:∀{ts:List (Ty×Fl)}{x:cF ts}{S:List Nat},R n W0 w X F (S++H) s a->aX s d=K3->d<n->vD w X W0.B ts x rs S->
  ∃F',R n W0 w X F' H (Go.Am.Qx6 d s ts x) (a.put (K1 d) (ak rs))
 |[],x,S,h,b,c,hx=>by
  rw[XP (by rw[Iz hx];simp)];exact h.putTupF b c hx
 |[t],x,S,h,b,c,hx=>by
  obtain⟨e,f,i,j,rfl,rfl,g,rfl,rfl⟩:=hx;exact⟨_,h.put b c ⟨e,rfl,by simpa using g⟩⟩
 |t::u::ts,x,S,h,b,c,hx=>by
  rw[XP (by rw[Iz hx];simp)];exact h.putTupF b c hx
def AW(gh:Nat->La)(X:Nat->Prop)(s:St)(a:Act)(rs:List Nat)(w w':Le):Prop:=∀b,(X b\/ ∃r,s.isBox r/\r∉rs/\Xj gh a (.m r)=.pointer (K1 ⟨b,0,K2⟩))->w'.heap[b]? =w.heap[b]?
def EI(Γ:Il)(s:St)(f:Lg)(xs:List Lc):List Nat:=
 match Γ.find f with
 |some e=>match Ut (xp e.args xs s) e.args xs with
  |some (m,s2)=>match AI s2 m e.args xs with
   |some (_,rs)=>rs
   |none=>[]
  |none=>[]
 |none=>[]
def Rx{Γ:Il}(hs0:g.soft=K4)(hΓ:Γ.ok P g)(h:R n W0 w X F [] s a){f:Lg}(hfo:a.eval fo=.func (.func f) #[] #[])(ho:o.op=.call {callee:=.value fo,args:=xs,argTypes:=ats}){k:St->Option ρ}{r:ρ}(hr:Ua Γ n s o.dst f xs.toList k=K1 r)
   (hK:∀v w' X' F' s',k s'=K1 r->R n W0 w' X' F' [] s' (a.put o.dst v)->(∀b,X b->X' b)->AW W0.gh X s a (EI Γ s f xs.toList) w w'->K (a.put o.dst v) w'):o.wp P a w K Q:=by
 have i:∀e m s2 W rs,Γ.find f=K1 e->Ut (xp e.args xs.toList s) e.args xs.toList=K1 (m,s2)->AI s2 m e.args xs.toList=K1 (W,rs)->EI Γ s f xs.toList=rs:=λe m s2 W rs l h3 h2=>by
  simp_all[EI]
 unfold Ua at hr;split at hr
 ·cases hr
 ·rename_i e he;obtain⟨rfl,a6⟩:=Il.find_ok hΓ he;obtain⟨X1,F1,l,ar,D⟩:=lD hs0 (as:=e.args) (xs:=xs.toList) h;have i:=λm s2 W rs=>i e m s2 W rs he;generalize xp e.args xs.toList s=s1 at hr l D i;split at hr
  ·cases hr
  rename_i m s2 a7;obtain⟨M,F1,l,b6,b7,a8⟩:=EU l a7;have D:=λq p=>a8 q (D q p);have i:=λW rs=>i m s2 W rs a7;generalize s2=s1 at hr l D i;split at hr
  ·cases hr
  ·rename_i W rs be;split at hr
   ·cases hr
   ·rename_i hn;rw[i W rs be]at hK;obtain⟨L,a1,a2,a3,a4⟩:=VE l b7 (Lk.1 l.pK).1 (λk b hb E=>l.pL k b hb (by simp[E])) be hn;have au:=P7 hn;have hL:∀b,b∈L->W0.mine b/\b<w.heap.size/\ ¬X1 b:=λb hb=>by
     rcases a4 b hb with⟨q,_,p⟩|hb
     ·exact l.own _ b p
     ·exact l.hown b (by simp[hb])
    have call:∀{z},e.F W=K1 z-> ∀{K':Act->Le->Prop},(∀Y S X' F' w',R n W0 w' X' F' (S++[]) (Ri e.args z.2 rs (ZR rs s1)) a->Ie w' X' e.res z.1 Y S->(∃Z:List Nat,U8 e.res z.1 Y Z/\ ∀(j q b:Nat),rs[j]? =K1 q->Z[j]? =K1 b->Xj W0.gh a (.m q)=.pointer (K1 ⟨b,0,K2⟩))->(∀b,b∈S->W0.B<=b)->(∀b,X b->X' b)->AW W0.gh X s a rs w w'->K' (a.put o.dst (ak Y)) w')->o.wp P a w K' Q:=by
     intro z hz K' ab;have hc:=a6.calls w X1 L W z (xs.toList.map a.eval) l.glob l.gx l.xlt (λb hb=>⟨(hL b hb).2.2,(hL b hb).2.1⟩) a3 a1 hz;have bk:(execOp a.eval o).run P w=.ok (.enter e.f (xs.toList.map a.eval).toArray) w:=by
      have:execOp a.eval o=callFunc e.f (xs.map a.eval):=by
       grind[execOp,resolve,Ma,invoke]
      rw[this,a6.enters];congr 2
      grind
     unfold Lm;rw[bk,Mj];refine hc.mono λen w' ⟨Y,S,Z,C,X',b8,u,N,hO,hP⟩=>?_;subst b8;show K' (a.put o.dst (ak Y)) w';obtain⟨J,h2,b9,a0⟩:=R.wreck l au (FC a2);have bl:=GA a2 hO;have cb:W0.below w':=⟨u.os.trans l.below.os,u.tape.trans l.below.tape,u.output.trans l.below.output,Ls l.below.size u.size,λb hb=>
      (u.block b (Mc (W0.yW b hb) l.below.size) λE=>W0.sep hb (hL b E).1 rfl).trans (l.below.block b hb)⟩
     have O:∀q,q∈rs-> ∃b,J (.m q)=[b]/\b∈Z:=λq p=>by
      obtain⟨e1,T1,f1,y1,b1,S1,m1,m2,m3,m4,m5⟩:=a0 q p
      grind
     have t:∀k,(∀q,q∈rs->k≠ .m q)-> ∀b,b∈J k->b<w.heap.size/\b∉L/\ ¬X1 b:=λk hk b hb=>by
      rw[b9 k hk]at hb;obtain⟨_,G,g3⟩:=l.own k b hb;refine⟨G,λE=>?_,g3⟩;rcases a4 b E with⟨q,p,hb'⟩|hb'
      ·exact hk q p (l.pS _ _ b hb hb')
      ·exact l.pL _ b hb (by simp[hb'])
     have bx:∀b,b∈S++(Z++C)->W0.mine b/\b<w'.heap.size/\ ¬X' b:=λb hb=>by
      obtain⟨I,G,g3⟩:=u.nin b hb;exact⟨I.elim (λg=>.inl (Ls l.below.size g)) λg=>(hL b g).1,G,g3⟩
     have ad:∀b,b∈S++C->W0.B<=b:=λb hb=>by
      have hb':b∈S++(Z++C):=Ai
      rcases(u.nin b hb').1 with g|g
      ·exact Ls l.below.sizeB g
      ·rcases a4 b g with⟨q,p,hbq⟩|hbM
       rotate_left
       ·exact b6 b hbM
       obtain⟨e2,T2,f2,y2,b2,S2,c2,p1,p2,p3,_⟩:=bl q p;rw[p2]at hbq;rcases L4.1 hbq with rfl|hbq
       ·exfalso;have au:=u.nd
        grind
       ·have hs:=l.slots (.m q);rw[p1]at hs;obtain⟨b3,c3,S3,I,G,g3,g4⟩:=hs;rw[p2]at G;obtain⟨rfl,rfl⟩:=Lu G
        grind[In]
     have h3:R n W0 w' X1 J [] (ZR rs s1) a:=h2.drop.worldD (rs:=rs) cb u.size (λb hb=>u.block b (l.xlt b hb) λE=>(hL b E).2.2 hb)
      (λq p=>by
       obtain⟨e1,T1,f1,y1,b1,S1,m1,m2,m3,m4,m5⟩:=a0 q p
       grind)
      (λk hk b hb=>u.block b (t k hk b hb).1 (t k hk b hb).2.1)
     have h4:R n W0 w' X' J [] (ZR rs s1) a:=R.xup hs0 h3 u.xx u.xlt
      (λb hb=>(u.xin b hb).elim (l.xin b) λg=>.inr (g.elim (λg=>.inl (Ls l.below.size g)) λg=>(hL b g).1))
      (λk b hb hx=>by
       by_cases hk:∃q,q∈rs/\k=.m q
       ·obtain⟨q,p,rfl⟩:=hk;obtain⟨b1,I,G⟩:=O q p
        grind
       ·obtain⟨I,G,g3⟩:=t k (λq p e=>hk ⟨q,p,e⟩) b hb;rcases u.xin b hx with g|g|g
        ·exact g3 g
        all_goals grind) (λb hb=>by cases hb)
     have V:=Lk.1 u.nd;have b0:=Lk.1 V.2.1;have h5:R n W0 w' X' J (C++(S++[])) (ZR rs s1) a:=by
      have:=h4.hand (S:=C++S) (λb hb=>bx b Ai)
       (Lk.2 ⟨b0.2.1,V.1,λx hx y hy e=>V.2.2 y hy x (by simp[hx]) e.symm⟩)
       (λk b hb E=>by
        have cr:b∈S++C:=Ai
        by_cases hk:∃q,q∈rs/\k=.m q
        ·obtain⟨q,p,rfl⟩:=hk;obtain⟨b1,I,G⟩:=O q p
         grind
        ·obtain⟨I,G,g3⟩:=t k (λq p e=>hk ⟨q,p,e⟩) b hb;have cc:b∈S++(Z++C):=Ai
         rcases(u.nin b cc).1 with g|g
         all_goals grind) (λb _ E=>by cases E)
      simpa using this
     have E:SK J (ZR rs s1) e.args rs Z:=TI a2 hO λq p e1 T1 f1 y1 b1 S1 I G=>by
      obtain⟨e2,T2,f2,y2,b2,S2,m1,m2,m3,m4,m5⟩:=a0 q p
      grind
     obtain⟨F6,h6⟩:=If h5 hO E au λb hb=>ad b (by simp[hb]);refine ab Y S X' F6 w' h6 N ⟨Z,hP,λj q b=>SI h5 E⟩ (λb hb=>ad b (by simp[hb])) (λb hb=>u.xx b (ar b hb)) λb hb=>?_;rcases hb with hb|⟨q,p,c0,hv⟩
     ·exact u.block b (l.xlt b (ar b hb)) λE=>(hL b E).2.2 (ar b hb)
     ·obtain⟨S1,a5⟩:=l.boxIn (D q p) hv;refine u.block b (l.own (.m q) b (by rw[a5];simp)).2.1 λE=>?_;rcases a4 b E with⟨q',c1,hb'⟩|hb'
      ·have:=l.pS (.m q) (.m q') b (by rw[a5];simp) hb'
       grind
      ·exact l.pL (.m q) b (by rw[a5];simp) (by simp[hb'])
    split at hr
    ·rename_i hd;simp only[Lx]at hr;obtain⟨z,hz,hk⟩:=hr;refine call hz λY S X' F' w' hR _ _ _ b4 b5=>?_;have ab:=hK (ak Y) w' X' F' _ hk;rw[hd]at ab⊢;exact ab hR.drop b4 b5
    ·rename_i d hd;split at hr
     ·cases hr
     ·rename_i A;simp only[pC,Lo,Lw]at A;simp only[Lx]at hr;obtain⟨z,hz,hk⟩:=hr;refine call hz λY S X' F' w' hR N cl hB b4 b5=>?_;obtain⟨Z,hP,p⟩:=cl;have H:=Ch (as:=e.args) (x:=z.2) A.1.1 (SO A.2);have cp:∃F' s',k s'=K1 r/\R n W0 w' X' F' [] s' (a.put (K1 d) (ak Y)):=by
       generalize Ri e.args z.2 rs (ZR rs s1)=s3 at hR H hk;generalize z.1=zz at N hP hk;revert zz;generalize e.res=rk;intro zz N hP hk;cases rk with
       |vals ts=>
        obtain⟨J,h2⟩:=hR.putRes H A.1.2 (GF N hB);exact⟨J,_,hk,h2⟩
       |newb e2 T2=>
        obtain⟨b,c,rfl,rfl,I,G⟩:=N;exact⟨_,_,hk,hR.put H A.1.2 ⟨b,c,[],rfl,rfl,I,by grind[TZ,dd]⟩⟩
       |shr ts=>
        obtain⟨rfl,G⟩:=N;obtain⟨J,h2⟩:=R.putSh (by simpa using hR) H A.1.2 G;exact⟨J,_,hk,h2⟩
       |flg ts=>
        obtain⟨J,h2⟩:=R.putF hR H A.1.2 (Hc N hB);exact⟨J,_,hk,h2⟩
       |fp T j p1 p2=>
        have N:S=[]:=N;subst N;obtain⟨b,hb,rfl⟩:=hP;simp only[N9]at hk;split at hk
        ·rename_i q cm;split at hk
         ·rename_i e2 U f y hg;split at hk
          ·rename_i hU;have hU:=pE hU;subst hU;have hs:=hR.slots (.m q);rw[hg]at hs;obtain⟨b2,c2,S2,I,G,g3,g4⟩:=hs;have hv:=p j q b cm hb;rw[hv]at I;simp only[M7,pB,Mv,and_true]at I;subst I;cases zz with
           |true=>exact⟨_,_,hk,hR.put H A.1.2 ⟨rfl,e2,U,f,y,b,S2,hg,G,rfl⟩⟩
           |false=>exact⟨_,_,hk,hR.put H A.1.2 ⟨rfl,e2,U,f,y,b,S2,hg,G,rfl⟩⟩
          ·cases hk
         ·cases hk
        ·cases hk
      grind
def Ue(d:Nat):Tm->Bool|.ptr r _=> !(Lf r d)|.aep r _ _=> !(Lf r d)|.pls _ l=>l.all λq=> !(Lf q.1 d)|.cl _ l=>l.all λq=> !(Lf q d)|.gd _ _ t=>Ue d t|_=>K3
def G2(s:St)(d:Nat):Bool:=s.env.all λp=>Ue d (s.get p.1)
def vX:∀{l:List (Bk×Tm)}{k:Bk},oq l k=.pR\/ ∃p∈l,p.1=k
 |[],k=>.inl rfl
 |(j,t)::r,k=>by
  rw[Ql];split
  ·simp_all
  ·rcases vX (l:=r) (k:=k)with h|⟨p,a,e⟩
   all_goals grind
def Qpm{s:St}(h:G2 s d=K3)(k:Bk):Ue d (s.get k)=true:=by
 unfold G2 at h;rcases vX (l:=s.env) (k:=k)with hk|⟨p,a,rfl⟩
 ·unfold St.get;rw[hk];rfl
 grind
def RQ(q:Nat):List (Bk×Tm)->St->St
 |[],s=>s
 |(.m k,_)::r,s=>match s.get (.m k)with
  |.ptr q' _=>match Lf q' q with
   |true=>RQ q r (ch s k .pR)
   |false=>RQ q r s
  |_=>RQ q r s
 |(.c _ _,_)::r,s=>RQ q r s
def Fh{q k:Nat}{e:Ld}{T:Ty}{f:Fl}{y:T.den}:∀{l:List (Bk×Tm)}{s:St},s.get (.m k)=.box e T f y->(RQ q l s).get (.m k)=.box e T f y
 |[],s,h=>h
 |(.m j,_)::r,s,h=>by
  simp only[RQ];split
  ·rename_i a p b;split
   ·refine Fh ?_;rw[Vp,if_neg]
    all_goals grind
   ·exact Fh h
  ·exact Fh h
 |(.c _ _,_)::r,s,h=>Fh (l:=r) h
def EW:St->List Lc->Option (TV×St)
 |s,[]=>K1 (⟨.unit,()⟩,s)
 |s,x::xs=>match SP (Gj s [] x)with
  |some q=>match s.get (.m q)with
   |.box e T f y=>match f.live&&G2 (RQ q s.env s) q with
    |true=>match EW (ch (RQ q s.env s) q (.shp T y)) xs with
     |some (⟨U,u⟩,s')=>K1 (⟨.pair (.sptr e T) U,(y,u)⟩,s')
     |none=>K2
    |false=>K2
   |_=>K2
  |none=>K2
def MP:(ts:List Ty)->(T:Ty)->T.den->Option (dJ ts)
 |[],.unit,_=>K1 ()
 |.sptr e t::ts,.pair a b,x=>match aa (.sptr e t) a x.1,MP ts b x.2 with
  |some u,K1 us=>K1 (u,us)
  |_,_=>K2
 |_,_,_=>K2
def WI(s:St)(tg:Y7):(ts:List Ty)->List Lc->(T:Ty)->T.den->Option (dJ ts)
 |ts,[],T,y=>MP ts T y
 |t::ts,x::xs,T,y=>match de s (Gj s tg x) t,WI s tg ts xs T y with
  |some u,K1 us=>K1 (u,us)
  |_,_=>K2
 |[],_::_,_,_=>K2
def UT(s:St)(tg:Y7)(x:Lc):Option (Lg×TV):=
 match YQ s (Gj s tg x)with
 |some ⟨.clo f T,_,y⟩=>K1 (f,⟨T,y⟩)
 |_=>K2
def RW{ρ:Type}(Γ:IC)(n:Nat)(s:St)(tg:Y7)(dst:Option Nat)(c:Lg×TV)(xs:List Lc)(k:St->Option ρ):Option ρ:=
 match Γ.find c.1 with
 |none=>K2
 |some e=>match WI s tg e.args xs c.2.1 c.2.2 with
  |none=>K2
  |some us=>match dst with
   |none=>(e.F us).bind λ_=>k s
   |some d=>match aX s d&&Lj d n with
    |false=>K2
    |true=>(e.F us).bind λr=>k (Bn d s e.res r)
def Qqz{s2:St}{t:Tm}{S0:List Nat}{v:La}(ht:qQ gh w w' s s2 F (Xp F (.m d) S0) a d t)(hX:∀b,X b->X' b)(hw:∀b,X b->w'.heap[b]? =w.heap[b]?)
  (hF:∀k b,k≠ .m d->b∈F k->w'.heap[b]? =w.heap[b]?) (hS:∀b∈S,w'.heap[b]? =w.heap[b]?):∀{u:Tm},Ue d u=K3->
  vt gh w X B s F a v S u->vt gh w' X' B s2 (Xp F (.m d) S0) a v S u:=by
 intro u D c;have Z:∀{r:Nat}{p:List Nat}{v:La}{U:Ty},(r=d-> ∀v U,Yl gh w s F a d p v U->Yl gh w' s2 (Xp F (.m d) S0) a d p v U)->Yl gh w s F a r p v U->Yl gh w' s2 (Xp F (.m d) S0) a r p v U:=by
  intro r p v U hk hv;by_cases C:r=d
  ·simp_all
  ·exact Dc ht C (λb=>hF (.m r) b (by simpa using C)) hv
 induction u with
 |pR=>exact c
 |tup=>exact c
 |val T f x=>exact th (s:=s) (F:=λ_=>[]) (a:=a) (v:=v) (t:=.val T f x) hX hw Ac hS (show vt gh w X B s (λ_=>[]) a v S (.val T f x)from c)
 |box e T f x=>exact th (s:=s) (F:=λ_=>[]) (a:=a) (v:=v) (t:=.box e T f x) hX hw Ac hS (show vt gh w X B s (λ_=>[]) a v S (.box e T f x)from c)
 |shp T x=>exact th (s:=s) (F:=λ_=>[]) (a:=a) (v:=v) (t:=.shp T x) hX hw Ac hS (show vt gh w X B s (λ_=>[]) a v S (.shp T x)from c)
 |ptr r p=>
  obtain⟨o,e,T,f,x,b,E,A,H,G⟩:=c;have C:d≠r:=λe=>by simp_all[Ue]
  exact⟨o,e,T,f,x,b,E,by rw[ht.get];simp[C,A],Ai,G⟩
 |aep r p i=>
  obtain⟨o,e,T,f,x,b,E,n,L,y,A,H,G,M⟩:=c;have C:d≠r:=λe=>by simp_all[Ue]
  exact⟨o,e,T,f,x,b,E,n,L,y,by rw[ht.get];simp[C,A],Ai,G,M⟩
 |bor r p=>
  obtain⟨o,A⟩:=c;refine⟨o,λz=>?_⟩;obtain⟨z,I⟩:=ht.bad r p z
  grind
 |elp r p i q=>
  obtain⟨o,A⟩:=c;refine⟨o,λz=>?_⟩;obtain⟨z,I⟩:=ht.bad r p z
  grind
 |bel r p i q=>
  obtain⟨o,A⟩:=c;refine⟨o,λz N=>?_⟩;obtain⟨N,C⟩:=ht.el r (St.bad_foul z) N;obtain⟨z,I⟩:=ht.bad r p z;obtain⟨e,L,J,n,O,x0,y,cs,h,k1,k2,k3,k4,k5,k6,k7⟩:=A z N;have W:∀m,(J.add m).block=J.block:=λm=>by grind[Md]
  exact⟨e,L,J,n,O,x0,y,cs,Z I h,k1,k2,Ai,k4,k5,k6,λj u I=>by
   grind[Mt]⟩
 |cl f l=>
  obtain⟨o,P,A,H,G⟩:=c;refine⟨o,P,A,H,λj q K=>?_⟩;obtain⟨u,c,e,T,f,x,b,E,Q,g2,V⟩:=G j q K;have C:d≠q:=λe=>by
   have:=Lv.1 (show l.all (λq=> !(Lf q d))=K3 from D) q (Mi K);simp[e]at this
  exact⟨u,c,e,T,f,x,b,E,by rw[ht.get];simp[C,Q],Ai,V⟩
 |pls hh l=>
  obtain⟨o,J,P,A,H,G,M,h5⟩:=c;refine⟨o,J,P,hX _ A,λj u I=>?_,G,λj q K=>?_,h5⟩
  ·grind[Md,Mt]
  ·obtain⟨u,c,e,T,f,x,b,E,Q,g2,V⟩:=M j q K;have C:d≠q.1:=λe=>by
    have:=Lv.1 (show l.all (λq=> !(Lf q.1 d))=K3 from D) q (Mi K);simp[e]at this
   exact⟨u,c,e,T,f,x,b,E,by rw[ht.get];simp[C,Q],Ai,V⟩
 |gd g Y u ih=>
  intro z;obtain⟨z,I⟩:=ht.pN g z;obtain⟨o,A,H⟩:=c z;refine⟨?_,λW=>ih D (A W),H⟩;by_cases hg:g=d
  ·simp_all
  ·rw[ht.get];grind
def R.frzB(hs0:g.soft=K4)(h:R n W0 w X F H s a){e:Ld}{T:Ty}{f:Fl}{x:T.den}(hg:s.get (.m k)=.box e T f x)(hf:f.live=K3)(hp:G2 s k=K3):
  R n W0 w (λb=>X b\/b∈F (.m k)) (Xp F (.m k) []) H (ch s k (.shp T x)) a/\ ∃b c,Xj W0.gh a (.m k)=.pointer (K1 ⟨b,0,K2⟩)/\b∈F (.m k)/\w.heap[b]? =K1 (.cells c e (0,0))/\rd w (λb=>X b\/b∈F (.m k)) W0.B K4 T x c.toList []:=by
 have y:=h.slots (.m k);rw[hg]at y;obtain⟨b,c,D,p,r,t,A⟩:=y;have z:rd w (λb=>X b\/b∈F (.m k)) W0.B K4 T x c.toList []:=Vn (λb l=>.inl l) hf A λb l=>.inr Af;have l:b∈F (.m k):=by rw[r];simp
 refine⟨?_,b,c,p,l,t,z⟩;exact
 {size:=h.size
  defers:=h.defers
  below:=h.below
  glob:=h.glob
  gx:=λb l=>.inl (h.gx b l)
  xs:=λe=>Af
  fix:=h.fix
  xlt:=λb l=>l.elim (h.xlt b) λl=>(h.own _ b l).2.1
  xin:=λb l=>l.elim (h.xin b) λl=>.inr (h.own _ b l).1
  x0:=λb l=>.inl (h.x0 b l)
  own:=λj b l=>by
   simp only[Xp]at l;split at l
   ·cases l
   ·rename_i q;obtain⟨p,r,t⟩:=h.own j b l;exact⟨p,r,λhx=>hx.elim t λhk=>q (h.pS j (.m k) b l hk)⟩
  nodup:=λj=>by
   simp only[Xp];split
   ·simp
   ·exact h.nodup j
  pS:=λj C b l o=>by
   simp only[Xp]at l o;split at l
   ·cases l
   ·split at o
    ·cases o
    ·exact h.pS j C b l o
  hown:=λb l=>let⟨p,r,t⟩:=h.hown b l;⟨p,r,λhx=>hx.elim t λhk=>h.pL _ b hk l⟩
  pK:=h.pK
  pL:=λj b l=>by
   simp only[Xp]at l;split at l
   ·cases l
   ·exact h.pL j b l
  pM:=λd i v=>by
   rw[Vp]at v⊢;simp only[reduceCtorEq,if_false]at v;obtain⟨p,r⟩:=h.pM d i v
   grind
  slots:=λj=>by
   by_cases q:j=.m k
   ·subst q;rw[Vp];simp only[if_true,Xp];refine⟨rfl,⟨b,0,K2⟩,c.toList,p,.inr l,λj u q=>?_,dd z Ac⟩;rw[p6 w t,<-Array.getElem?_toList,Mp];exact q
   ·have e:Xp F (.m k) [] j=F j:=by simp[Xp,q]
    rw[Vp,e];simp only[Lp q,if_false];exact Qqz Ig (λ_ h=>.inl h) (λ_ _=>rfl) (λ_ _ _ _=>rfl) (λ_ _=>rfl) (Qpm hp j) (h.slots j)}
def VL{q:Nat}:∀{l:List (Bk×Tm)}{s:St}{F:Bk->List Nat},R n W0 w X F H s a-> ∃F',R n W0 w X F' H (RQ q l s) a
 |[],s,F,h=>⟨F,h⟩
 |(.m k,_)::r,s,F,h=>by
  simp only[RQ];split
  ·rename_i i p d;split
   ·exact VL (h.turn (S':=[]) (H':=H) h.below (Ll _) (λ_ _=>rfl) (λ_ _ _ _=>rfl) (λb g=>Af) (by simpa using h.pK) (by rw[d];simp) (λe T f x b S g j=>Af) rfl)
   ·exact VL h
  ·exact VL h
 |(.c _ _,_)::r,s,F,h=>VL (l:=r) h
def MB(hs0:g.soft=K4):∀{xs:List Lc}{s s':St}{X:Nat->Prop}{F:Bk->List Nat}{U:TV},R n W0 w X F H s a->EW s xs=K1 (U,s')->
  ∃X' F',R n W0 w X' F' H s' a/\(∀b,X b->X' b)/\rd w X' W0.B K4 U.1 U.2 (xs.map a.eval) []
 |[],s,s',X,F,U,h,d=>by
  simp only[EW,pB,pF]at d;obtain⟨rfl,rfl⟩:=d;exact⟨X,F,h,λ_ h=>h,rfl,rfl⟩
 |x::xs,s,s',X,F,U,h,d=>by
  simp only[EW]at d;split at d
  ·rename_i q o;split at d
   ·rename_i e T f y m;split at d
    ·rename_i i;simp only[pC]at i;split at d
     ·rename_i E G I hk;simp only[pB,pF]at d;obtain⟨rfl,rfl⟩:=d;obtain⟨J,p⟩:=VL (q:=q) (l:=s.env) h;obtain⟨r,b,c,t,u,v,z⟩:=R.frzB hs0 p (Fh m) i.1 i.2;obtain⟨X',F',A,j,C⟩:=MB hs0 r hk;refine⟨X',F',A,λb D=>j b (.inl D),?_⟩;have k:=Si h o m;exact⟨[_],_,[],[],rfl,rfl,⟨rfl,rfl,b,c,by rw[k,t],j b (.inr u),v,fx j (λ_ _=>rfl) z Ac⟩,C⟩
     ·cases d
    ·cases d
   ·cases d
  ·cases d
def Z64{X:Nat->Prop}(hX:∀b,X b->b<w.heap.size){ts:List Ty}:∀{T:Ty}{y:T.den}{us:dJ ts}{cs:List La},MP ts T y=K1 us->rd w X B K4 T y cs []->GC w (· <w.heap.size) 0 ts us cs:=by
 induction ts with
 |nil=>
  intro T y us cs c d;cases T<;>first
   |exact d.1
   |(simp[MP]at c;done)
 |cons t ts h=>
  intro T y us cs c d;cases t<;>first
   |(simp[MP]at c;done)
   |skip
  cases T<;>first
   |(simp[MP]at c;done)
   |skip
  rename_i e t a b;obtain⟨i,j,k,l,m,D,n,p⟩:=d;simp only[MP]at c;split at c
  ·rename_i u q r f;simp only[pB]at c;subst c;have:=fX r;obtain⟨E,F⟩:=y;cases this;have s:k=[]/\l=[]:=Af
   obtain⟨rfl,rfl⟩:=s;obtain⟨_,o,v,x,g,z,A,C⟩:=n;refine⟨i,j,by rw[m,g];rfl,?_,h f p⟩;exact dd (lu (L6 _) hX ⟨rfl,o,v,x,g,z,A,C⟩) Ac
  ·cases c
def Uv{Y:Nat->Prop}(hY:∀b,Y b->b<w.heap.size)(h:R n W0 w X F H s a)(ht:tg.ok W0.gh a):∀{ts:List Ty}{xs:List Lc}{T:Ty}{y:T.den}{us:dJ ts}{cs:List La},WI s tg ts xs T y=K1 us->rd w Y B K4 T y cs []->GC w (· <w.heap.size) 0 ts us (xs.map a.eval++cs)
 |ts,[],T,y,us,cs,c,d=>Z64 hY (by simp_all[WI]) d
 |t::ts,x::xs,T,y,us,cs,c,d=>by
  simp only[WI]at c;split at c
  ·rename_i u g i e;simp only[pB]at c;subst c;obtain⟨f,j,k⟩:=fa h ht i;exact⟨f,_,by simp[j],lu (L6 _) (λ_ h=>h) k,Uv hY h ht e d⟩
  ·cases c
 |[],_::_,_,_,_,_,c,_=>by grind[WI]
def Qc3(h:R n W0 w X F H s a)(ht:tg.ok W0.gh a){x:Lc}{f:Lg}(hf:UT s tg x=K1 (f,U)):∃cs:List La,a.eval x=.func (.func f) #[] cs.toArray/\ ∃S:List Nat,rd w (λb=>X b\/b∈S) W0.B K4 U.1 U.2 cs []/\ ∀b∈S,b<w.heap.size:=by
 unfold UT at hf;split at hf
 ·rename_i o T p y d;simp only[pB,pF]at hf;obtain⟨rfl,rfl⟩:=hf;obtain⟨c,q,S,e,g,i⟩:=mE h ht d;obtain⟨_,cs,j,l⟩:=Vn (X':=λb=>X b\/b∈S) (λ_ h=>.inl h) c g (λ_ h=>.inr h);exact⟨cs,by rw[e,j];rfl,S,l,λb m=>let⟨k,hk⟩:=i b m;(h.own k b hk).2.1⟩
 ·cases hf
def Cr{Γ:IC}(hΓ:Γ.ok P g)(h:R n W0 w X F H s a)(ht:tg.ok W0.gh a){f:Lg}(hfo:UT s tg fo=K1 (f,U))(ho:o.op=.call {callee:=.value fo,args:=xs,argTypes:=ats}){e:P3}(he:Γ.find f=K1 e)
  {us:dJ e.args} (hus:WI s tg e.args xs.toList U.1 U.2=K1 us) {rv:dJ e.res} (hpre:e.F us=K1 rv) 
  (hK:∀rs S w',R n W0 w' X F (S++H) s a->xG w' W0.B e.res rv rs S->H6 w w'->K (a.put o.dst (ak rs)) w'):o.wp P a w K Q:=by
 obtain⟨D,l⟩:=IC.find_ok hΓ he;subst D;obtain⟨m,hfo,J,v,y⟩:=Qc3 h ht hfo;have E:=l.calls w us rv (xs.toList.map a.eval++m) h.glob (Uv (λb d=>d.elim (h.xlt b) (y b)) h ht hus v) hpre;have p:(execOp a.eval o).run P w=.ok (.enter e.f (xs.toList.map a.eval++m).toArray) w:=by
  have:execOp a.eval o=callFunc e.f (xs.map a.eval++m.toArray):=by
   simp_all[execOp,resolve,Ma,invoke]
  rw[this,l.enters];simp_all
 unfold Lm;rw[p,Mj];refine E.mono λL w' ⟨rs,S,z,q,A,r⟩=>?_;subst z;show K (a.put o.dst (ak rs)) w';have u:∀{j:List Ty}{x:dJ j}{rs:List La}{S:List Nat},xG w' w.heap.size j x rs S->(∀b∈S,w.heap.size<=b/\b<w'.heap.size)/\xG w' W0.B j x rs S:=by
  intro j
  induction j with
  |nil=>intro x rs S h;exact⟨by simp[h.2],h⟩
  |cons t j G=>
   intro x rs S ⟨m,us,S1,S2,e1,e2,g1,g2⟩;obtain⟨M,I⟩:=G g2;refine⟨λb d=>?_,m,us,S1,S2,e1,e2,lu h.below.sizeB (λ_ h=>h) g1,I⟩
   grind[ni]
 obtain⟨c,i⟩:=u q;exact hK rs S w' ((h.below' r).hand (λb d=>⟨.inl (Ls h.below.size (c b d).1),(c b d).2,λhx=>by have:=h.xlt b hx;grind⟩) A
  (λk b d C=>by have:=(h.own k b d).2.1;grind) (λb d C=>by have:=(h.hown b C).2.1;grind)) i (λk hk=>r.block k hk)
def Qcy{Γ:IC}(hΓ:Γ.ok P g)(h:R n W0 w X F H s a)(ht:tg.ok W0.gh a){c:Lg×TV}(hfo:UT s tg fo=K1 c)(ho:o.op=.call {callee:=.value fo,args:=xs,argTypes:=ats}){k:St->Option ρ}{r:ρ}(hr:RW Γ n s tg o.dst c xs.toList k=K1 r)
   (hK:∀v w' F' s',k s'=K1 r->R n W0 w' X F' H s' (a.put o.dst v)->H6 w w'->K (a.put o.dst v) w'):o.wp P a w K Q:=by
 unfold RW at hr;split at hr
 ·cases hr
 ·rename_i e p;split at hr
  ·cases hr
  ·rename_i x j;cases hd:o.dst with
   |none=>
    rw[hd]at hr;simp only[Lx]at hr;obtain⟨t,f,hk⟩:=hr;refine Cr hΓ h ht hfo ho p j f λq S w' m b hold=>?_;have l:=hK (ak q) w' F s hk;rw[hd]at l⊢;exact l m.drop hold
   |some d=>
    rw[hd]at hr;simp only at hr;split at hr
    ·cases hr
    ·rename_i i;simp only[pC,Lo]at i;simp only[Lx]at hr;obtain⟨t,f,hk⟩:=hr;refine Cr hΓ h ht hfo ho p j f λq S w' m b hold=>?_;obtain⟨F',u⟩:=m.putRes i.1 i.2 b
     grind
def D6(P:Lh)(e e2:Ld):Bool:=
 match P.underlying e,P.info? e2,P.underlying e2 with
 |some (.slice e3),K1 i,K1 (.pointer e4)=>Lf e3 e2&&(Lf i.size 1&&(Mo i.bytes 8192&&(match i.zero with|some (.pointer K2)=>K3|_=>K4)))&&(match P.info? e4 with|some i=>Lj 0 i.size|none=>K4)
 |_,_,_=>K4
def fk(P:Lh)(e:Ld):Bool:=match P.underlying e with|some (.interface _)=>K3|_=>K4
structure xQ where
 pp:List (Ld×Ld):=[]
 er:List Ld:=[]
def xQ.elem(t:xQ)(e:Ld):Option Ld:=(t.pp.find? λp=>Lf p.1 e).map (·.2)
def xQ.isPtr(t:xQ)(e:Ld):Bool:=t.pp.any λp=>Lf p.2 e
def xQ.isErr(t:xQ)(e:Ld):Bool:=t.er.any (Lf e)
structure xQ.ok(t:xQ)(P:Lh):Prop where
 pp:∀p∈t.pp,D6 P p.1 p.2=K3
 er:∀e∈t.er,fk P e=K3
def Bm{P:Lh}{e:Ld}(h:D6 P e e2=K3):P.underlying e=K1 (.slice e2)/\(∃i,P.info? e2=K1 i/\i.size=1/\i.bytes<=8192/\i.zero=K1 (.pointer K2))/\ ∃e4 i,P.underlying e2=K1 (.pointer e4)/\P.info? e4=K1 i/\0<i.size:=by
 unfold D6 at h;split at h
 ·rename_i j i e4 a b k;simp only[pC]at h;obtain⟨⟨c,d,f,l⟩,g⟩:=h;have:=pD c;subst this;refine⟨a,⟨i,b,pD d,by simpa using f,?_⟩,?_⟩
  ·grind
  ·split at g
   all_goals simp_all
 ·cases h
def xQ.elem_ok{t:xQ}{P:Lh}(h:t.ok P){e:Ld}(he:t.elem e=K1 e2):D6 P e e2=true:=by unfold xQ.elem at he;simp only[Mr]at he;obtain⟨p,a,rfl⟩:=he;have b:=Nd a;have:=h.pp p (Nj a);simp_all
def xQ.isPtr_ok{t:xQ}{P:Lh}(h:t.ok P){e:Ld}(he:t.isPtr e=K3):∃e4 i,P.underlying e=K1 (.pointer e4)/\P.info? e4=K1 i/\0<i.size:=by unfold xQ.isPtr at he;rw[Mz]at he;obtain⟨p,a,b⟩:=he;have:=(Bm (h.pp p a)).2.2;simp_all
def xQ.isErr_ok{t:xQ}{P:Lh}(h:t.ok P){e:Ld}(he:t.isErr e=K3):∃ms,P.underlying e=K1 (.interface ms):=by
 unfold xQ.isErr at he;rw[Mz]at he;obtain⟨p,a,b⟩:=he;have:=h.er p a
 grind[pD,fk]
variable {pt:xQ}
def IR(s:St)(tg:Y7):Nat->List (Nat×Lc)->Option (List (Nat×List Nat))
 |_,[]=>K1 []
 |k,(i,y)::r=>match Lf i k,Gj s tg y with
  |true,.tm _ (.ptr q p)=>match IR s tg (k+1) r with
   |some l=>K1 ((q,p)::l)
   |none=>K2
  |true,.tm q (.box ..)=>match s.get (.m q),IR s tg (k+1) r with
   |.box ..,K1 l=>K1 ((q,[])::l)
   |_,_=>K2
  |_,_=>K2
def Rz(h:R n W0 w X F H s a)(ht:tg.ok W0.gh a):∀{parts:List (Nat×Lc)}{k:Nat}{l:List (Nat×List Nat)}{cs:Array La}{A M:List La},
  IR s tg k parts=K1 l->cs.toList=A++M->A.length=k->M.length=parts.length->
  ∃us cs',Na (λi=>K1 (i*1,1)) cs (parts.map λp=>(p.1,a.eval p.2))=K1 cs'/\cs'.toList=A++us/\us.length=l.length/\l.length=parts.length/\ ∀(j:Nat)(q:Nat×List Nat),l[j]? =K1 q-> ∃u,us[j]? =K1 u/\Rs s F q.1 q.2 u
 |[],k,l,cs,A,M,g,t,K,D=>by
  simp only[IR,pB]at g;subst g;have:M=[]:=Nc D;subst this;exact⟨[],cs,rfl,by simpa using t,rfl,rfl,Ac⟩
 |(i,y)::r,k,l,cs,A,M,g,t,K,D=>by
  simp only[IR]at g;split at g
  ·rename_i k' q p d L;have d:=pD d;subst d;split at g
   ·rename_i Z B;simp only[pB]at g;subst g;obtain⟨_,hv⟩:=Vu h ht L Ac;obtain⟨_,e,T,f,x,b,N,h1,h2,E⟩:=hv;obtain⟨z,o,rfl⟩:∃z o,M=z::o:=by
     cases M with
     |nil=>simp at D
     |cons z o=>simp_all
    have G:(a.eval y).cells= #[a.eval y]:=by rw[E];rfl
    obtain⟨C,I,g2⟩:=lB (place:=λi=>K1 (i*1,1)) (i:=i) (rest:=r.map λp=>(p.1,a.eval p.2)) (v:=a.eval y) rfl (pre:=A) (mid:=[z]) (post:=o) (by rw[t];simp) Aa rfl (by rw[G];rfl);rw[G]at I;obtain⟨us,cs',k1,O,P,Q,k5⟩:=Rz h ht (k:=i+1) (cs:=C) (A:=A++[a.eval y]) (M:=o) B (by rw[I];simp) (by simp[K]) (by simpa using D);refine⟨a.eval y::us,cs',Af,by rw[O];simp,by simp[P],by simp[Q],λj q' J=>?_⟩;cases j with
    |zero=>
     simp only[Mh,pB]at J;subst J;exact⟨_,rfl,e,T,f,x,b,N,h1,h2,E⟩
    |succ j=>simp_all
   ·cases g
  ·rename_i q e0 T0 f0 x0 d L;have d:=pD d;subst d;split at g
   ·rename_i e T f x Z W B;simp only[pB]at g;subst g;obtain⟨rfl,S,_⟩:=yu L;have Y:=h.slots (.m q);rw[W]at Y;obtain⟨b,c,N,U,V,_⟩:=Y;have ab:a.eval (.tmp q)=.pointer (K1 ⟨b,0,K2⟩):=(Kz W0 a S).symm.trans U;have E:a.eval (.tmp q)=.pointer (K1 ⟨b,ai T [],K2⟩):=by
     simp_all[ai]
    obtain⟨z,o,rfl⟩:∃z o,M=z::o:=by
     cases M with
     |nil=>simp at D
     |cons z o=>simp_all
    have G:(a.eval (.tmp q)).cells= #[a.eval (.tmp q)]:=by rw[E];rfl
    obtain⟨C,I,g2⟩:=lB (place:=λi=>K1 (i*1,1)) (i:=i) (rest:=r.map λp=>(p.1,a.eval p.2)) (v:=a.eval (.tmp q)) rfl (pre:=A) (mid:=[z]) (post:=o) (by rw[t];simp) Aa rfl (by rw[G];rfl);rw[G]at I;obtain⟨us,cs',k1,O,P,Q,k5⟩:=Rz h ht (k:=i+1) (cs:=C) (A:=A++[a.eval (.tmp q)]) (M:=o) B (by rw[I];simp) (by simp[K]) (by simpa using D);refine⟨a.eval (.tmp q)::us,cs',Af,by rw[O];simp,by simp[P],by simp[Q],λj q' J=>?_⟩;cases j with
    |zero=>
     simp only[Mh,pB]at J;subst J;exact⟨_,rfl,e,T,f,x,b,N,W,V,E⟩
    |succ j=>simp_all
   ·cases g
  ·cases g
def Rm(pt:xQ)(s:St)(tg:Y7)(e:Ld)(len:Nat)(parts:Array (Nat×Lc)):Option Oe:=
 match pt.elem e with
 |some _=>match Lf parts.size len&&(Lj 0 len&&Mo len 16777216),IR s tg 0 parts.toList with
  |true,K1 l=>K1 ⟨.pls K3 l,s,K3,K2⟩
  |_,_=>K2
 |none=>K2
def Qbv(hs:g.soft=K4)(h:R n W0 w X F H s a)(ht:tg.ok W0.gh a)(hp:pt.ok P){e:Ld}(ho:o.op=.buildSlice e len parts){r:Oe}(hr:Rm pt s tg e len parts=K1 r):YU P n W0 w X H s a o r:=by
 unfold Rm at hr;split at hr
 ·rename_i v E;split at hr
  ·rename_i l x G;simp only[pB]at hr;subst hr;simp only[pC,Nat.ble_eq]at x;obtain⟨k,m,B⟩:=x;have k:=pD k;have m:0<len:=Af
   obtain⟨I,⟨i,J,p,_,L⟩,_⟩:=Bm (xQ.elem_ok hp E);intro _ K Q N;obtain⟨f,C⟩:∃f:Array La,f=(Array.range (len*i.size)).map ((Nr K2).cells[· % (Nr K2).cells.size]!):=⟨_,rfl⟩
   obtain⟨D,d,k1,O,U,k4,V⟩:=Rz h ht (cs:=f) (A:=[]) (M:=f.toList) G rfl rfl Af;have y:l.length=len:=Af
   have t:(execOp a.eval o).run P w=.ok (.value (.slice (K1 ⟨w.heap.size,0,K2⟩) len len)) (w.alloc (.cells d v)):=by
    simp only[execOp,ho,Lt];rw[run_buildSlice w e v len _ d i _ I J L (by rw[p];omega) (by rw[p];omega) Af];simp
   unfold Lm;rw[t];have z:d.toList=D:=by simpa using O
   have W:=R.give (S:=[w.heap.size]) (H:=H) hs (h.alloc (.cells d v));refine N _ _ F [] _ (λb x=>.inl x) W ⟨rfl,⟨w.heap.size,0,K2⟩,D,.inr Ac,λj u Y=>?_,U,λj q Z=>V j q Z,by rw[y],by grind[maxLen]⟩ (λhm=>by cases hm) ⟨λ_=>H6.alloc _ _,h.kept (H6.alloc _ _)⟩;rw[p6 (c:=d) (e:=v) _ (RY _ _),<-Array.getElem?_toList,z,Mp];exact Y
  ·cases hr
 ·cases hr
def LO(pt:xQ)(s:St)(tg:Y7)(e:Ld)(x:Lc):Option Oe:=
 match pt.elem e,Gj s tg x with
 |some _,.tm _ (.pls K3 l)=>K1 ⟨.val (.int .i64) (.u K4) (l.length:Int),s,K4,K2⟩
 |_,_=>K2
def Qbd(h:R n W0 w X F H s a)(ht:tg.ok W0.gh a)(hp:pt.ok P){e:Ld}{x:Lc}(ho:o.op=.call {callee:=.builtin .len,args:= #[x],argTypes:= #[e]}){r:Oe}(hr:LO pt s tg e x=K1 r):dP P τ W0 w X F s a o r:=by
 unfold LO at hr;split at hr
 ·rename_i c k l b hx;simp only[pB]at hr;subst hr;obtain⟨_,hv⟩:=Vu h ht hx Ac;obtain⟨_,d,f,_,_,_,_,hv,_⟩:=hv;refine K0 rfl λ_=>⟨_,λg _=>?_,UO _ _⟩
  simp only[execOp,ho];simp[resolve,invoke,builtin,hv,Builtin.len_,run_underlying (Bm (xQ.elem_ok hp b)).1,goInt]
 ·cases hr
def EN(pt:xQ)(s:St)(tg:Y7)(e:Ld)(x i:Lc):Option Oe:=
 match pt.elem e,Gj s tg x,QM s (Gj s tg i)with
 |some _,.tm _ (.pls K3 l),K1 (_,j)=>match Ly (0<=j),l.drop j.toNat with
  |true,q::r=>K1 ⟨.pls K4 (q::r),s,K4,K2⟩
  |_,_=>K2
 |_,_,_=>K2
def Qa4(h:R n W0 w X F H s a)(ht:tg.ok W0.gh a)(hp:pt.ok P){e:Ld}{x i:Lc}(ho:o.op=.indexAddr e x i){r:Oe}(hr:EN pt s tg e x i=K1 r):dP P τ W0 w X F s a o r:=by
 unfold EN at hr;split at hr
 ·rename_i g k l p j t hx v;split at hr
  ·rename_i q G c I;simp only[pB]at hr;subst hr;have c:0<=j:=pE c;have J:=iE h ht v;obtain⟨_,hv⟩:=Vu h ht hx Ac;obtain⟨_,b,y,K,L,M,N,hv,z⟩:=hv;obtain⟨A,⟨O,Q,B,C,_⟩,_⟩:=Bm (xQ.elem_ok hp t);have D:j.toNat<l.length:=by
    grind[List.drop_eq_nil_of_le]
   have E:∀w,(sizeOf g).run P w=.ok 1 w:=λw=>by simp_all[sizeOf,typeInfo]
   refine K0 rfl λ_=>⟨.pointer (K1 (b.add j.toNat)),λd _=>?_,rfl,b.add j.toNat,y.drop j.toNat,?_,λm u z=>?_,Ai,λm S U=>?_,rfl⟩
   ·have f:(Nb e (.slice (K1 b) l.length l.length) (.int p j)).run P d=.ok (.pointer (K1 (b.add j.toNat))) d:=by
     simp only[Nb,Lt,asIntOf,L8,Lq,run_underlying A];simp_all
    simp_all[execOp]
   all_goals grind[Md]
  ·cases hr
 ·cases hr
def ZI(pt:xQ)(s:St)(tg:Y7)(e:Ld)(x:Lc):Option Oe:=
 match pt.isPtr e,Gj s tg x with
 |true,.tm _ (.pls K4 (q::_))=>K1 ⟨.ptr q.1 q.2,s,K4,K2⟩
 |_,_=>K2
def Z7d(h:R n W0 w X F H s a)(ht:tg.ok W0.gh a)(hp:pt.ok P){e:Ld}{x:Lc}(ho:o.op=.load e x){r:Oe}(hr:ZI pt s tg e x=K1 r):dP P τ W0 w X F s a o r:=by
 unfold ZI at hr;split at hr
 ·rename_i k q l j hx;simp only[pB]at hr;subst hr;obtain⟨rfl,hv⟩:=Vu h ht hx Ac;obtain⟨_,f,z,g,A,B,m,hv⟩:=hv;obtain⟨u,C,d⟩:=m 0 q rfl;obtain⟨D,E,p,t,_⟩:=xQ.isPtr_ok hp j;have v:w.cell? f=K1 u:=by grind[Md]
  refine K0 rfl λ_=>⟨u,λi c=>?_,rfl,d⟩
  have y:i.cell? f=K1 u:=by
   have c:=c (by rw[ho];rfl);rw[ho,tn hx Ac]at c;have c:∀b,b<w.heap.size->X b->i.heap[b]? =w.heap[b]? :=c;rw[Mt (w:=w) (c _ (h.xlt _ g) g)];exact v
  simp_all[isAgg,run_underlying,execOp,Instr.loadAt,Instr.sureAddr,loadVar]
 ·cases hr
def OF(pt:xQ)(s:St)(tg:Y7)(op:BinOp)(e:Ld)(x y:Lc):Option Oe:=
 match pt.isPtr e,Gj s tg x,Gj s tg y with
 |true,.tm _ (.ptr q p),.tm _ (.ptr q2 p2)=>match Lf q q2,s.get (.m q)with
  |true,.box _ T _ _=>match op with
   |.eql=>K1 ⟨.val .bool (.u K4) (Lf (ai T p) (ai T p2)),s,K4,K2⟩
   |.neq=>K1 ⟨.val .bool (.u K4) (!(Lf (ai T p) (ai T p2))),s,K4,K2⟩
   |_=>K2
  |_,_=>K2
 |_,_,_=>K2
def Z5z(h:R n W0 w X F H s a)(ht:tg.ok W0.gh a)(hp:pt.ok P){e:Ld}{x y:Lc}(ho:o.op=.binOp op e x y e2){r:Oe}(hr:OF pt s tg op e x y=K1 r):dP P τ W0 w X F s a o r:=by
 unfold OF at hr;split at hr
 ·rename_i k q p L M b v hx A;split at hr
  ·rename_i N T f z B C;have:=pD B;subst this;obtain⟨_,hv⟩:=Vu h ht hx Ac;obtain⟨_,O,Q,S,U,c,V,j,D,W⟩:=hv;obtain⟨_,g⟩:=Vu h ht A Ac;obtain⟨_,E,Y,Z,x2,b2,S2,l,m,l3⟩:=g;rw[C]at j l;cases j;cases l;rw[D]at m;obtain⟨rfl,rfl⟩:=Lu m;obtain⟨e4,G,i,I,t⟩:=xQ.isPtr_ok hp v;have u:∀w,(Mq e (.pointer (K1 ⟨c,ai T p,K2⟩)) (.pointer (K1 ⟨c,ai T b,K2⟩))).run P w=.ok (Lf (ai T p) (ai T b)) w:=λw=>by
    have h0:G.size≠0:=Aa
    have hb:((⟨c,ai T p,K2⟩:Lz)==⟨c,ai T b,K2⟩)=Lf (ai T p) (ai T b):=by
     rw[Bool.eq_iff_iff];simp[Nat.beq_eq]
    obtain⟨d,J⟩:∃d,Op.maxDepth=d+1:=⟨9999,rfl⟩
    unfold Mq;rw[J];simp only[L7,Lt,run_underlying i,Lq];simp_all[sizeOf,typeInfo,sameAddr]
   split at hr
   ·simp only[pB]at hr;subst hr;refine K0 rfl λ_=>⟨_,λK _=>?_,Rh _⟩
    simp_all[execOp,eqGuard,Mb]
   ·simp only[pB]at hr;subst hr;refine K0 rfl λ_=>⟨_,λK _=>?_,Rh _⟩
    simp_all[execOp,eqGuard,Mb]
   ·cases hr
  ·cases hr
 ·cases hr
def HC(pt:xQ)(s:St)(tg:Y7)(op:BinOp)(e:Ld)(x y:Lc):Option Oe:=
 match pt.isErr e,de s (Gj s tg x) .err,y with
 |true,K1 z,.const .nilIface=>match op with
  |.eql=>K1 ⟨.val .bool (.u K4) z,s,K4,K2⟩
  |.neq=>K1 ⟨.val .bool (.u K4) (!z),s,K4,K2⟩
  |_=>K2
 |_,_,_=>K2
def Qan(h:R n W0 w X F H s a)(ht:tg.ok W0.gh a)(hp:pt.ok P){e:Ld}{x y:Lc}(ho:o.op=.binOp op e x y e2){r:Oe}(hr:HC pt s tg op e x y=K1 r):dP P τ W0 w X F s a o r:=by
 unfold HC at hr;split at hr
 ·rename_i z i j;obtain⟨C,f⟩:=xQ.isErr_ok hp i;have hx:∃v,a.eval x=v/\((z=K3/\v=.nilIface)\/(z=K4/\ ∃t u,v=.iface t u)):=by
   obtain⟨k,l,m⟩:=fa h ht j;obtain⟨⟨v,rfl,_,p⟩,_⟩:(∃v,k=[v]/\v.oneCell'=K3/\((z=K3/\v=.nilIface)\/(z=K4/\ ∃t u,v=.iface t u)))/\_:=m;exact⟨v,l,p⟩
  obtain⟨v,hv,hk⟩:=hx;have g:∀w,(Mq e v .nilIface).run P w=.ok z w:=λw=>by
   obtain⟨d,q⟩:∃d,Op.maxDepth=d+1:=⟨9999,rfl⟩
   unfold Mq;rw[q];rcases hk with⟨rfl,rfl⟩|⟨rfl,t,u,rfl⟩
   ·simp only[L7,Lt,run_underlying f,Lq];simp
   ·simp only[L7,Lt,run_underlying f,Lq];simp
  have A:∀op w,(eqGuard op e x (.const .nilIface) v .nilIface).run P w=.ok () w:=λop w=>by
   unfold eqGuard;rcases hk with⟨rfl,rfl⟩|⟨rfl,t,u,rfl⟩<;>cases op<;>simp
  split at hr
  ·simp only[pB]at hr;subst hr;refine K0 rfl λ_=>⟨.bool z,λb _=>?_,Rh _⟩
   have B:(Mb .eql e v .nilIface).run P b=.ok (.bool z) b:=by
    simp_all[Mb]
   have c:a.eval (.const .nilIface)=.nilIface:=rfl;simp_all[execOp]
  ·simp only[pB]at hr;subst hr;refine K0 rfl λ_=>⟨.bool (!z),λb _=>?_,Rh _⟩
   have B:(Mb .neq e v .nilIface).run P b=.ok (.bool (!z)) b:=by
    simp_all[Mb]
   have c:a.eval (.const .nilIface)=.nilIface:=rfl;simp_all[execOp]
  ·cases hr
 ·cases hr
def xQ.ok_of{P:Lh}{t:xQ}(h1:(t.pp.all λp=>D6 P p.1 p.2)=K3)(h2:(t.er.all λe=>fk P e)=K3):t.ok P:=⟨λp a=>Lv.1 h1 p a,λe b=>Lv.1 h2 e b⟩
abbrev Fl.e:Fl:=.p (.u K3) (.u K4)
def FM(s:St)(o:VH)(T:Ty):Option T.den:=NA s o T
def Z7l(h:R n W0 w X F H s a)(ht:tg.ok W0.gh a){x:Lc}{T:Ty}{y:T.den}(hr:FM s (Gj s tg x) T=K1 y):
  ∃vs,a.eval x=Kx T vs/\rd w X W0.B K4 T y vs []:=by
 unfold FM NA at hr;split at hr
 ·rename_i v hv;obtain rfl:=B3 hv;obtain⟨vs,c,b⟩:=IN (w:=w) (X:=X) (B:=W0.B) (own:=K4) hr;exact⟨vs,c,b⟩
 ·split at hr
  ·rename_i U f j d;obtain⟨g,vs,S,c,b,k⟩:=mE h ht d;split at hr
   ·rename_i i;cases fX hr;have e:=mc i b;subst e;exact⟨vs,c,dd (Vn (λ_ h=>h) g b Ac) Ac⟩
   ·cases hr
  ·cases hr
def H1(s:St)(tg:Y7)(t:Ty):Nat->List (Nat×Lc)->Option (List t.den)
 |_,[]=>K1 []
 |k,(i,y)::r=>match Lf i k,FM s (Gj s tg y) t,H1 s tg t (k+1) r with
  |true,K1 z,K1 l=>K1 (z::l)
  |_,_,_=>K2
def I3(h:R n W0 w X F H s a)(ht:tg.ok W0.gh a){t:Ty}:∀{parts:List (Nat×Lc)}{k:Nat}{l:List t.den}{cs:Array La}{A M C:List La},
  cs.toList=A++(M++C)->A.length=k*t.size->M.length=parts.length*t.size->H1 s tg t k parts=K1 l->
  ∃vs cs',Na (λi=>K1 (i*t.size,t.size)) cs (parts.map λp=>(p.1,a.eval p.2))=K1 cs'/\cs'.toList=A++(vs++C)/\dY (rd w X W0.B K4 t) l vs []/\l.length=parts.length
 |[],k,l,cs,A,M,C,d,u,x,c=>by
  simp only[H1,pB]at c;subst c;have:M=[]:=Nc (by simpa using x);subst this;exact⟨[],cs,rfl,d,⟨rfl,rfl⟩,rfl⟩
 |(i,y)::r,k,l,cs,A,M,C,d,u,x,c=>by
  simp only[H1]at c;split at c
  ·rename_i z L e E j;have e:=pD e;subst e;simp only[pB]at c;subst c;obtain⟨vs,G,m⟩:=Z7l h ht E;have b:=Bx (XQ m) (Jm m);have f:(a.eval y).cells.size=t.size:=by grind[Array.length_toList,Jm]
   have o:M.length=t.size+r.length*t.size:=Ai
   obtain⟨q,D,N⟩:=lB (place:=λi=>K1 (i*t.size,t.size)) (i:=i) (rest:=r.map λp=>(p.1,a.eval p.2)) (v:=a.eval y) rfl (pre:=A) (mid:=M.take t.size) (post:=M.drop t.size++C)
    (by rw[d,<-Mf (M.take _),List.take_append_drop]) u Ae f
   rw[G,b]at D;obtain⟨g,cs',O,I,J,K⟩:=I3 h ht (k:=i+1) (cs:=q) (A:=A++vs) (M:=M.drop t.size) (C:=C) (by rw[D];simp) Ai (by simp[o]) j;exact⟨vs++g,cs',Af,by rw[I];simp,⟨vs,g,[],[],rfl,rfl,m,J⟩,by simp[K]⟩
  ·cases c
def NF(τ:nR)(s:St)(tg:Y7)(e:Ld)(len:Nat)(parts:Array (Nat×Lc)):Option Oe:=
 match τ e with
 |some (.slice e' t)=>match τ e' with
  |some t2=>match Ly (t2=t),Lf parts.size len&&Mo (len*t.size) 16777216 with
   |true,K3=>match H1 s tg t 0 parts.toList with
    |some l=>K1 ⟨.val (.slice e' t) .e l,s,K4,K2⟩
    |none=>K2
   |_,_=>K2
  |none=>K2
 |_=>K2
def Ztl(h:R n W0 w X F H s a)(ht:tg.ok W0.gh a)(hτ:τ.ok P){e:Ld}(ho:o.op=.buildSlice e len parts){r:Oe}(hr:NF τ s tg e len parts=K1 r):YU P n W0 w X H s a o r:=by
 unfold NF at hr;split at hr
 ·rename_i I t u;split at hr
  ·rename_i d y;split at hr
   ·rename_i J f;split at hr
    ·rename_i l j;simp only[pB]at hr;subst hr;have:=pE J;subst this;simp only[pC,Nat.ble_eq]at f;have D:=pD f.1;obtain⟨Y,m⟩:=(hτ _ _ u).slice;obtain⟨i,Z,L,_,hz⟩:=(hτ _ _ y).size;intro _ K Q N;obtain⟨c,E⟩:∃c:Array La,c=(Array.range (len*i.size)).map ((Kx d (Wz d)).cells[· % (Kx d (Wz d)).cells.size]!):=⟨_,rfl⟩
     have G:c.toList.length=len*d.size:=Af
     obtain⟨z,g,k1,O,S,k4⟩:=I3 h ht (k:=0) (cs:=c) (A:=[]) (M:=c.toList) (C:=[]) Ac Ac Af j;have p:l.length=len:=Af
     have q:(execOp a.eval o).run P w=.ok (.value (.slice (K1 ⟨w.heap.size,0,K2⟩) len len)) (w.alloc (.cells g I)):=by
      simp only[execOp,ho,Lt];by_cases U:len*i.size=0
      ·have V:len=0:=by
        grind[Nat.mul_eq_zero]
       simp_all[Instr.buildSlice,run_underlying,Mx,typeInfo,newRow,Array.range_zero']
      simp_all[run_buildSlice]
     unfold Lm;rw[q];have W:g.toList=z:=by simpa using O
     refine N _ X F [w.heap.size] _ (λ_ h=>h) (h.alloc _) ⟨[_],rfl,?_⟩ (λ_=>rfl) ⟨λ_=>H6.alloc _ _,h.kept (H6.alloc _ _)⟩;have B:z.length=len*d.size:=by grind[JR,Jm]
     refine⟨_,z,rfl,⟨⟨by rw[B,p],.inr ⟨w.heap.size,len,g,by rw[p],h.below.sizeB,RY _ _,Aa,?_,?_,?_⟩⟩,rfl⟩,?_⟩
     ·have:=f.2;have h2:len<=len*d.size:=Nat.le_mul_of_pos_right _ m
      grind[maxLen]
     ·grind
     ·grind
     ·exact J0 S λx v T _ u hr=>fx (λ_ h=>h) (λb j=>hold w _ b (h.xlt b j)) hr λb j=>absurd (u b j) Ac
    ·cases hr
   ·cases hr
  ·cases hr
 ·cases hr
def gP(s:St)(x:VH):Option ((_:Ld)×(t:Ty)×List t.den):=
 match YQ s x with
 |some ⟨.slice e t,.u K4,l⟩=>K1 ⟨e,t,l⟩
 |some ⟨.slice e t,.p (.u K3) (.u K4),l⟩=>K1 ⟨e,t,l⟩
 |_=>K2
def Uf(h:R n W0 w X F H s a)(ht:tg.ok W0.gh a){x:Lc}{e:Ld}{t:Ty}{l:List t.den}(hr:gP s (Gj s tg x)=K1 ⟨e,t,l⟩):
  ∃v ys,a.eval x=v/\dY (rd w X W0.B K4 t) l ys []/\ ∃ad cap,v=.slice ad l.length cap/\l.length<=cap/\((ad=K2/\l.length=0/\cap=0)\/ ∃a0,ad=K1 a0/\ ∀j u,ys[j]? =K1 u->w.cell? (a0.add j)=K1 u):=by
 unfold gP at hr;have fin:∀{own:Bool}{e:Ld}{l:List t.den}{v:La}{b:List La}{S:List Nat},HW w X W0.B own e t.size l.length v b S-> ∃ad cap,v=.slice ad l.length cap/\l.length<=cap/\((ad=K2/\l.length=0/\cap=0)\/ ∃a0,ad=K1 a0/\ ∀j u,b[j]? =K1 u->w.cell? (a0.add j)=K1 u):=by
  grind[fY]
 split at hr
 ·rename_i k m o d;simp only[pB,Ms]at hr;obtain⟨rfl,hr⟩:=hr;simp only[heq_eq_eq,Ms]at hr;obtain⟨rfl,hr⟩:=hr;cases hr;obtain⟨_,p,S,f,c,q⟩:=mE h ht d;unfold TZ at c;have r:=nN c;subst r;obtain⟨v,b,z,A,rfl,y,g,i⟩:=c;obtain⟨rfl,rfl⟩:=Mg.1 y.symm;exact⟨v,b,f,i,fin g⟩
 ·rename_i k m o d;simp only[pB,Ms]at hr;obtain⟨rfl,hr⟩:=hr;simp only[heq_eq_eq,Ms]at hr;obtain⟨rfl,hr⟩:=hr;cases hr;obtain⟨_,p,S,f,c,q⟩:=mE h ht d;obtain⟨v,b,rfl,g,i⟩:=c;exact⟨v,b,f,i,fin g⟩
 ·cases hr
def TG(τ:nR)(s:St)(tg:Y7)(e:Ld)(x y:Lc):Option Oe:=
 match τ e with
 |some (.slice e' t)=>match τ e' with
  |some t2=>match Ly (t2=t),ST s (Gj s tg x) (.slice e' t)with
   |true,K1 ⟨.slice e1 t1,.p (.u K3) (.u K4),l,s1,_⟩=>match Ly (e1=e'/\t1=t)with
    |true=>match gP s1 (Gj s1 tg y)with
     |some ⟨_,t3,l3⟩=>match aa (.slice e' t1) (.slice e' t3) l3 with
      |some l4=>K1 ⟨.val (.slice e' t1) .e (l++l4),s1,K3,K1 (l.length+l4.length<=Qd)⟩
      |none=>K2
     |none=>K2
    |false=>K2
   |_,_=>K2
  |none=>K2
 |_=>K2
def wY{S1:List Nat}(h:R n W0 w X F (S1++H) s a){e':Ld}{t:Ty}{v v':La}{xs ys:List La}{l l4:List t.den}
  (h1:HW w X W0.B K3 e' t.size l.length v xs S1) (h2:dY (rd w X W0.B K4 t) l xs []) (h4:dY (rd w X W0.B K4 t) l4 ys [])
  (g2:w'.ownsRow W0.B e' t.size v' (l.length+l4.length) (xs++ys)) (g3:w.grownBy w' v.ownBlock) (g4:v'.ownBlock=v.ownBlock\/ ∀b,v'.ownBlock=K1 b->w.heap.size<=b):
  ∃S,R n W0 w' X F (S++H) s a/\TZ w' X W0.B (.slice e' t) .e (l++l4) [v'] S/\(∀b,X b->w'.heap[b]? =w.heap[b]?)/\ ∀k b,b∈F k->w'.heap[b]? =w.heap[b]? :=by
 have m:S1=v.ownBlock.toList:=h1.2;have f:∀b,b<w.heap.size->b∉S1->w'.heap[b]? =w.heap[b]? :=λb c A=>g3.block b c (λe=>A Af);have i:=h.pK;have o:∀b,X b->w'.heap[b]? =w.heap[b]? :=λb c=>f b (h.xlt b c) λd=>(h.hown b (by simp[d])).2.2 c;have y:∀k b,b∈F k->w'.heap[b]? =w.heap[b]? :=λk b c=>f b (h.own k b c).2.1 λd=>h.pL k b c (by simp[d]);have j:∀b,b∈H->b∉S1:=λb c d=>(Lk.1 i).2.2 b d b c rfl;have p:W0.below w':=⟨g3.os.trans h.below.os,g3.tape.trans h.below.tape,g3.output.trans h.below.output,Ls h.below.size g3.size,λk hk=>
  (f k (Mc (W0.yW k hk) h.below.size) λd=>W0.sep hk (h.hown k (by simp[d])).1 rfl).trans (h.below.block k hk)⟩
 have z:=(h.drop).world p g3.size o y;have q:=g2.lt;have r:R n W0 w' X F (v'.ownBlock.toList++H) s a:=by
  rcases g4 with g4|g4
  ·rw[g4,<-m];refine z.hand (λb c=>?_) (Lk.1 i).1 (λk b c d=>h.pL k b c (by simp[d])) (λb c d=>j b d c);obtain⟨E,G,I⟩:=h.hown b (by simp[c]);simp_all
  ·refine z.hand (λb c=>?_) Ai (λk b c d=>?_) (λb c d=>?_)
   ·have c:v'.ownBlock=K1 b:=by simpa using c
    exact⟨.inl (Ls h.below.size (g4 b c)),(q b c).2,λhx=>Ai⟩
   ·grind
   ·have c:v'.ownBlock=K1 b:=by simpa using c
    have:=(h.hown b (by simp[d])).2.1;grind
 have g:∀{l:List t.den}{xs:List La},dY (rd w X W0.B K4 t) l xs []->dY (rd w' X W0.B K4 t) l xs []:=λC=>
  J0 C λx v T _ D u=>fx (λ_ h=>h) o u λb c=>absurd (D b c) Ac
 refine⟨v'.ownBlock.toList,r,⟨v',xs++ys,rfl,⟨by simpa using g2,rfl⟩,?_⟩,o,y⟩;exact tv (S:=[]) (S':=[]) (g h2) (g h4)
def Z63(h:R n W0 w X F H s a)(ht:tg.ok W0.gh a)(hτ:τ.ok P){e:Ld}{x y:Lc}(ho:o.op=.call {callee:=.builtin .append,args:= #[x,y],argTypes:= #[e,e]}){r:Oe}(hr:TG τ s tg e x y=K1 r):YU P n W0 w X H s a o r:=by
 unfold TG at hr;split at hr
 ·rename_i e' t E;split at hr
  ·rename_i t2 j;split at hr
   ·rename_i e1 t1 l s1 m1 G hx;have:=pE G;subst this;obtain⟨_,I,S,vs,B,C,f,_,_⟩:=ff h ht hx;split at hr
    ·rename_i k;obtain⟨rfl,rfl⟩:=pE k;simp only at B C f;obtain⟨v,xs,rfl,D,J⟩:=C;split at hr
     ·rename_i e3 t3 l3 L;split at hr
      ·rename_i l4 m;simp only[pB]at hr;have:=fX m;cases this;subst hr;obtain⟨M,ys,N,p,O⟩:=Uf f ht L;intro g K Q U;obtain⟨q,i,u1,u2,u3,u4⟩:=jP (P:=P) (hτ _ _ E) (hτ _ _ j) D.1 O (JR (λ_ _ _ h=>Jm h) p) (Dv (λ_ _ _ h=>XQ h) p) g h.below.sizeB;obtain⟨V,W,Y,Z,z4⟩:=wY f D J p u2 u3 u4;have u:a.eval x=v:=B;have c:(execOp a.eval o).run P w=.ok (.value q) i:=by
        simp only[execOp,ho];have z:(M8 #[e,e] o.type #[v,M]).run P w=.ok q i:=u1;simp[resolve,invoke,builtin,u,N,z]
       have d:C1 W0.gh X s a K2 w i:=by
        intro b A;rcases A with A|⟨r,h1,_,h2⟩
        ·exact Z b A
        ·obtain⟨S,h3⟩:=f.boxIn (YN hx h1) h2
         grind
       unfold Lm;rw[c];exact U _ X I V i (λ_ h=>h) W ⟨[q],rfl,Y⟩ Ac ⟨λg=>(by rw[ho]at g;cases g),d⟩
      ·cases hr
     ·cases hr
    ·cases hr
   ·cases hr
  ·cases hr
 ·cases hr
def TN(sf:Bool)(τ:nR)(s:St)(tg:Y7)(e:Ld)(x y:Lc):Option Oe:=
 match τ e,sf with
 |some (.slice e' t),K4=>match τ e' with
  |some t2=>match Ly (t2=t),ST s (Gj s tg x) (.slice e' t)with
   |true,K1 ⟨.slice e1 t1,.u K3,l,s1,_⟩=>match Ly (e1=e'/\t1=t)with
    |true=>match gP s1 (Gj s1 tg y)with
     |some ⟨_,t3,l3⟩=>match aa (.slice e' t1) (.slice e' t3) l3 with
      |some l4=>K1 ⟨.val (.slice e' t1) .e (l++l4),s1,K3,K1 (l.length+l4.length<=Qd)⟩
      |none=>K2
     |none=>K2
    |false=>K2
   |_,_=>K2
  |none=>K2
 |_,_=>K2
def Z2y(hs0:g.soft=K4)(h:R n W0 w X F H s a)(ht:tg.ok W0.gh a)(hτ:τ.ok P){e:Ld}{x y:Lc}(ho:o.op=.call {callee:=.builtin .append,args:= #[x,y],argTypes:= #[e,e]}){sf:Bool}{r:Oe}(hr:TN sf τ s tg e x y=K1 r):YU P n W0 w X H s a o r:=by
 unfold TN at hr;split at hr
 ·rename_i e' t u;split at hr
  ·rename_i t2 z;split at hr
   ·rename_i e1 V l W m1 hd hx;have:=pE hd;subst this;obtain⟨_,A,S,vs,Y,C,d,_,_⟩:=ff h ht hx;split at hr
    ·rename_i D;obtain⟨rfl,rfl⟩:=pE D;simp only at Y C d;unfold TZ at C;obtain⟨v,Z,E,G,rfl,rfl,k1,k2⟩:=C;split at hr
     ·rename_i e3 t3 l3 hy;split at hr
      ·rename_i l4 I;simp only[pB]at hr;have:=fX I;cases this;subst hr;have ab:=d.pK;have f:R n W0 w X A (E++H) W a:=d.sub (λb c=>Ai) (by
        grind)
       have J:R n W0 w (λb=>X b\/b∈G) A (E++H) W a:=by
        refine R.xup hs0 f (λ_ h=>.inl h) (λb c=>c.elim (f.xlt b) λc=>(d.hown b (by simp[c])).2.1) (λb c=>c.elim (f.xin b) λc=>.inr (d.hown b (by simp[c])).1) (λk b c hx=>?_) (λb c hx=>?_)
        ·rcases hx with hx|hx
         ·exact(f.own k b c).2.2 hx
         ·exact d.pL k b c (by simp[hx])
        ·rcases hx with hx|hx
         ·exact(f.hown b c).2.2 hx
         grind
       have i:HW w (λb=>X b\/b∈G) W0.B K3 e1 V.size l.length v Z E:=ID k1 (λ_ h=>.inl h) (λ_ _=>rfl) (λ_ _=>rfl);have L:dY (rd w (λb=>X b\/b∈G) W0.B K4 V) l Z []:=yx k2 λ_ _ _ _ u h=>nM (λ_ h=>.inl h) h λb c=>.inr (u b c);obtain⟨vy,ys,g1,M,hc⟩:=Uf J ht hy;intro p K Q hK;obtain⟨N,q,u1,u2,u3,u4⟩:=jP (P:=P) (hτ _ _ u) (hτ _ _ z) i.1 hc (JR (λ_ _ _ h=>Jm h) M) (Dv (λ_ _ _ h=>XQ h) M) p h.below.sizeB;obtain⟨S',z1,z2,z3,z4⟩:=wY J i L M u2 u3 u4;have O:a.eval x=v:=Y;have j:(execOp a.eval o).run P w=.ok (.value N) q:=by
        simp only[execOp,ho];have U:(M8 #[e,e] o.type #[v,vy]).run P w=.ok N q:=u1;simp[resolve,invoke,builtin,O,g1,U]
       have m:C1 W0.gh X s a K2 w q:=by
        intro b c;rcases c with c|⟨r,h1,_,h2⟩
        ·grind
        ·obtain⟨S,h3⟩:=J.boxIn (YN hx h1) h2
         grind
       unfold Lm;rw[j];exact hK _ _ A S' q (λ_ h=>.inl h) z1 ⟨[N],rfl,z2⟩ Ac ⟨λp=>(by rw[ho]at p;cases p),m⟩
      ·cases hr
     ·cases hr
    ·cases hr
   ·cases hr
  ·cases hr
 ·cases hr
def R.frzE(hs0:g.soft=K4)(h:R n W0 w X F H s a){e:Ld}{t:Ty}{x:List t.den}(hg:s.get (.m k)=.val (.slice e t) (.u K3) x):
  ∃X' F',R n W0 w X' F' H (WL s k (.val (.slice e t) .e x)) a:=by
 have D:=h.slots (.m k);rw[hg]at D;obtain⟨M,hv,E⟩:=D;unfold TZ at E;obtain⟨v,xs,z,G,rfl,J,K,L⟩:=E;have A:=h.nodup (.m k);rw[J]at A;have B:qQ W0.gh w w s (WL s k (.val (.slice e t) .e x)) F (Xp F (.m k) z) a k (.val (.slice e t) .e x):=yS ⟨by rw[Kt];simp,λp v U hv=>by
  simp_all[Yl,Kt]⟩
 have f:∀b∈G,b∈F (.m k):=λb c=>Af
 refine⟨λb=>X b\/b∈G,Xp F (.m k) z,?_⟩;exact
 {size:=h.size
  defers:=h.defers
  below:=h.below
  glob:=h.glob
  gx:=λb c=>.inl (h.gx b c)
  xs:=λe=>Af
  fix:=h.fix
  xlt:=λb c=>c.elim (h.xlt b) λc=>(h.own _ b (f b c)).2.1
  xin:=λb c=>c.elim (h.xin b) λc=>.inr (h.own _ b (f b c)).1
  x0:=λb c=>.inl (h.x0 b c)
  own:=λj b c=>by
   simp only[Xp]at c;split at c
   ·obtain⟨o,q,y⟩:=h.own (.m k) b Af
    grind
   ·rename_i r;obtain⟨o,q,y⟩:=h.own j b c;exact⟨o,q,λhx=>hx.elim y λhk=>r (h.pS j (.m k) b c (f b hk))⟩
  nodup:=λj=>by
   simp only[Xp];split
   ·grind
   ·exact h.nodup j
  pS:=λj I b c l=>by
   simp only[Xp]at c l;split at c<;>split at l
   ·simp_all
   ·exact absurd (h.pS (.m k) I b Af l).symm (by assumption)
   ·exact absurd (h.pS j (.m k) b c Af) (by assumption)
   ·exact h.pS j I b c l
  hown:=λb c=>let⟨o,q,y⟩:=h.hown b c;⟨o,q,λhx=>hx.elim y λhk=>h.pL _ b (f b hk) c⟩
  pK:=h.pK
  pL:=λj b c=>by
   simp only[Xp]at c;split at c
   ·exact h.pL (.m k) b Af
   ·exact h.pL j b c
  pM:=λd i C=>by
   rw[Kt]at C⊢;simp only[reduceCtorEq,if_false]at C;obtain⟨o,q⟩:=h.pM d i C
   grind
  slots:=λj=>by
   by_cases r:j=.m k
   ·subst r;rw[Kt];simp only[if_true,Xp];exact⟨[v],hv,v,xs,rfl,ID K (λ_ h=>.inl h) (λ_ _=>rfl) (λ_ _=>rfl),yx L λ_ _ _ _ B h=>nM (λ_ h=>.inl h) h λb c=>.inr (B b c)⟩
   ·have e:Xp F (.m k) z j=F j:=by simp[Xp,r]
    rw[Kt,e];simp only[Lp r,if_false];exact Oo B (λ_ h=>.inl h) (λ_ _=>rfl) (λ_ _ _ _=>rfl) (λ_ _=>rfl) (λe N O P b S c=>Af) (h.slots j)}
def Bk.up:Bk->Bk|.m t=>.m (t+UM)|.c t i=>.c (t+UM) i
def Bz:Tm->Tm|.ptr r p=>.ptr (r+UM) p|.bor r p=>.bor (r+UM) p|.elp r p i q=>.elp (r+UM) p i q|.bel r p i q=>.bel (r+UM) p i q|.aep r p i=>.aep (r+UM) p i|.pls h l=>.pls h (l.map λq=>(q.1+UM,q.2))|.cl f l=>.cl f (l.map (· +UM))|.gd g w t=>.gd (g+UM) w (Bz t)|t=>t
def Hd:List (Bk×Tm)->List (Bk×Tm)|[]=>[]|(k,t)::r=>(k.up,Bz t)::Hd r
def jG:List Tm->Nat->List (Bk×Tm)|[],_=>[]|t::ts,i=>(.m i,Bz t)::jG ts (i+1)
def Zs2(s:St)(ts:List Tm):St:={env:=jG ts 0++Hd s.env,pP:=s.pP.map (· +UM),pQ:=s.pQ.map (· +UM)}
def Bk.up_inj{k j:Bk}:k.up=j.up↔k=j:=by cases k<;>cases j<;>simp[Bk.up]
def N5:∀(l:List (Bk×Tm))(k:Bk),oq (Hd l) k.up=Bz (oq l k)
 |[],k=>rfl
 |(j,t)::r,k=>by
  simp only[Hd,Ql,Bk.up_inj];split
  ·rfl
  ·exact N5 r k
def vF:∀(l:List (Bk×Tm))(k:Bk),k.t<UM->oq (Hd l) k=.pR
 |[],_,_=>rfl
 |(j,t)::r,k,hk=>by
  simp only[Hd,Ql];rw[if_neg (λe=>by subst e;cases j<;>simp only[Bk.up,Bk.t]at hk<;>omega),vF r k hk]
def i7:∀(ts:List Tm)(i:Nat)(E:List (Bk×Tm))(k:Bk),i+ts.length<=UM->oq (jG ts i++E) k.up=oq E k.up
 |[],_,_,_,_=>rfl
 |t::ts,i,E,k,h=>by
  simp only[jG,M1,Ql];simp only[Nh]at h;rw[if_neg (λe=>by cases k<;>simp[Bk.up]at e;omega),i7 ts (i+1) E k Aa]
def Dw:∀(ts:List Tm)(i j:Nat)(E:List (Bk×Tm))(t:Tm),ts[j]? =K1 t->oq (jG ts i++E) (.m (i+j))=Bz t
 |[],_,_,_,_,h=>by simp at h
 |u::ts,i,j,E,t,h=>by
  simp only[jG,M1,Ql];cases j with
  |zero=>simp_all
  |succ j=>
   rw[if_neg Ac,show i+(j+1)=(i+1)+j from by omega];exact Dw ts (i+1) j E t (by simpa using h)
def zl:∀(ts:List Tm)(i:Nat)(E:List (Bk×Tm))(k:Bk),(∀t,k=.m t->t<i\/i+ts.length<=t)->oq (jG ts i++E) k=oq E k
 |[],_,_,_,_=>rfl
 |u::ts,i,E,k,h=>by
  simp only[jG,M1,Ql];rw[if_neg (λe=>Ai)];exact zl ts (i+1) E k λt e=>Ai
def Qre(m x c:Nat):Lf (m+c) (x+c)=Lf m x:=by
 cases h:Lf m x
 all_goals grind[pD,M5]
def GS(m c:Nat):∀l:List Nat,(l.map (· +c)).any (Lf (m+c))=l.any (Lf m)
 |[]=>rfl
 |x::l=>by simp only[List.map_cons,List.any_cons,Qre,GS m c l]
def Dm{s:St}:(Zs2 s ts).pN (m+UM)=s.pN m:=GS m UM s.pP
def CP{s:St}{r:Nat}:∀{p:List Nat},(Zs2 s ts).bad (r+UM) p=s.bad r p
 |[]=>by
  simp only[St.bad,Dm];rw[show CT (r+UM)=CT r+UM from M4 _ _ _,Dm]
 |i::_=>by
  simp only[St.bad,Dm];rw[show Bq (r+UM) i=Bq r i+UM from M4 _ _ _,Dm]
def Qoc{s:St}{r:Nat}:(Zs2 s ts).pN (vd (r+UM))=s.pN (vd r):=by rw[show vd (r+UM)=vd r+UM from M4 _ _ _,Dm]
def CA(gh:Nat->La)(a:Act)(t:Nat):La:=ite (t<UM) undef (zD gh a (t-UM))
def fW.push(z:fW g)(a:Act):fW g:=
 {z with
  gh:=CA z.gh a
  ghU:=λt ht=>by unfold CA;rw[if_pos ht]
  fix:=z.fix.map λp=>(p.1+UM,p.2)}
theorem Qsc(z:fW g)(a:Act)(t:Nat):(z.push a).gh (t+UM)=zD z.gh a t:=by
 have b:¬(t+UM<UM):=Aa
 have c:(z.push a).gh=CA z.gh a:=rfl;simp_all[CA,if_neg]
def JT(ha:a'.tmps.size<=UM)(t:Nat):zD (W0.push a).gh a' (t+UM)=zD W0.gh a t:=by grind[zD,Qsc]
def xZ(ha:a'.tmps.size<=UM)(k:Bk):Xj (W0.push a).gh a' k.up=Xj W0.gh a k:=by
 cases k with
 |m t=>exact JT ha t
 |c t i=>simp_all[Bk.up,Xj,JT]
def Ud(F:Bk->List Nat):Bk->List Nat|.m t=>ite (t<UM) [] (F (.m (t-UM)))|.c t i=>ite (t<UM) [] (F (.c (t-UM) i))
def PY(k:Bk):Ud F k.up=F k:=by
 cases k with
 |m t=>simp_all[Ud,Bk.up,if_neg]
 |c t i=>simp_all[Ud,Bk.up,if_neg]
def VF{k:Bk}{b:Nat}(h:b∈Ud F k):∃j:Bk,k=j.up/\b∈F j:=by
 cases k with
 |m t=>
  grind[Ud,Bk.up]
 |c t i=>
  grind[Ud,Bk.up]
def Uh(hts:ts.length<=UM)(ha:a'.tmps.size<=UM){v:La}:∀{t:Tm},vt W0.gh w X B s F a v S t->
  vt (W0.push a).gh w X B (Zs2 s ts) (Ud F) a' v S (Bz t):=by
 have z:∀r,(Zs2 s ts).get (.m (r+UM))=Bz (s.get (.m r)):=λr=>by
  show oq (jG ts 0++Hd s.env) (Bk.up (.m r))=_;rw[i7 _ _ _ _ Aa,N5];rfl
 have A:∀r,Ud F (.m (r+UM))=F (.m r):=λr=>PY (.m r);have K:∀{r p v},Rs s F r p v->Rs (Zs2 s ts) (Ud F) (r+UM) p v:=λ{r p v} ⟨e,T,f,x,b,D,c,d,n⟩=>
  ⟨e,T,f,x,b,D,by rw[z,c];rfl,by rw[A];exact d,n⟩
 have hv:∀{r p v U},Yl W0.gh w s F a r p v U->Yl (W0.push a).gh w (Zs2 s ts) (Ud F) a' (r+UM) p v U:=λ{r p v U} h=>by
  unfold Yl at h⊢;rw[z,A];cases E:s.get (.m r)<;>rw[E]at h<;>simp only[Bz]at h⊢
  ·exact⟨h.1,h.2.1,h.2.2.trans (JT ha r).symm⟩
  ·exact h
 intro t h
 induction t with
 |pR=>exact h
 |tup=>exact h
 |val T f x=>exact h
 |box e T f x=>exact h
 |shp T x=>exact h
 |ptr r p=>exact⟨h.1,K h.2⟩
 |bor r p=>exact⟨h.1,λg=>let⟨U,hU⟩:=h.2 (CP▸g);⟨U,hv hU⟩⟩
 |elp r p i q=>exact⟨h.1,λg=>let⟨e,t,o,m,cap,k1,k2⟩:=h.2 (CP▸g);⟨e,t,o,m,cap,hv k1,k2⟩⟩
 |bel r p i q=>exact⟨h.1,λg E=>let⟨e,t,o,m,cap,x0,y,cs,k1,k2,k3,k4,k5⟩:=h.2 (CP▸g) (Qoc▸E);⟨e,t,o,m,cap,x0,y,cs,hv k1,k2,k3,by rw[A];exact k4,k5⟩⟩
 |aep r p i=>
  obtain⟨k,e,T,f,x,b,D,m,L,y,c,d,n⟩:=h;exact⟨k,e,T,f,x,b,D,m,L,y,by rw[z,c];rfl,by rw[A];exact d,n⟩
 |pls P l=>
  obtain⟨k,o,G,c,d,n,Q,M⟩:=h;refine⟨k,o,G,c,d,by simpa using n,λj q N=>?_,by simpa using M⟩
  grind
 |cl f l=>
  obtain⟨k,G,c,d,n⟩:=h;refine⟨k,G,c,by simpa using d,λj q N=>?_⟩
  grind
 |gd C I t O=>
  intro g;rw[Dm]at g;obtain⟨k,c,d⟩:=h g;have J:Xj (W0.push a).gh a' (.m (C+UM))=Xj W0.gh a (.m C):=JT ha C;refine⟨?_,λH=>O (c (J▸H)),λH=>d (J▸H)⟩;rw[z];generalize s.get (.m C)=u at k;cases u<;>simp[Bz]at k⊢
def R.push(h:R n W0 w X F [] s a){ts:List Tm}{vs:List La}{m:Nat}(hl:ts.length=vs.length)(hm:ts.length<=m)(hb:m<=UM)(hts:∀(i:Nat) t,ts[i]? =K1 t-> ∃v,vs[i]? =K1 v/\vt W0.gh w X W0.B s F a v [] t):
  R m (W0.push a) w X (Ud F) [] (Go.Am.Zs2 s ts) {tmps:=vs.toArray++Array.replicate (m-vs.toArray.size) undef,defers:=[]}:=by
 generalize H:({tmps:=vs.toArray++Array.replicate (m-vs.toArray.size) undef,defers:=[]}:Act)=a';have r:a'.tmps.size=m:=Ai
 have o:ts.length<=UM:=Aa
 have f:∀k:Bk,(Go.Am.Zs2 s ts).get k.up=Bz (s.get k):=λk=>by
  show oq (jG ts 0++Hd s.env) k.up=_;rw[i7 _ _ _ _ Aa,N5];rfl
 have g:∀k:Bk,k.t<UM\/ ∃j:Bk,k=j.up:=λk=>by
  cases k with
  |m t=>
   rcases L0 t UM with h|h
   ·exact .inl h
   ·exact .inr ⟨.m (t-UM),by simp_all[Bk.up]⟩
  |c t i=>
   rcases L0 t UM with h|h
   ·exact .inl h
   ·exact .inr ⟨.c (t-UM) i,by simp_all[Bk.up]⟩
 exact
 {size:=r
  defers:=by rw[<-H]
  below:=⟨h.below.os,h.below.tape,h.below.output,h.below.size,h.below.block⟩
  glob:=h.glob
  gx:=h.gx
  xs:=h.xs
  fix:=λp C=>by
   simp only[fW.push,List.mem_map]at C;obtain⟨q,I,rfl⟩:=C;obtain⟨D,u⟩:=h.fix q I;exact⟨by simp_all[Go.Am.Zs2],(JT Aa q.1).trans u⟩
  xlt:=h.xlt
  xin:=h.xin
  x0:=h.x0
  own:=λk b hb=>by obtain⟨j,_,l⟩:=VF hb;exact h.own j b l
  nodup:=λk=>by
   rcases g k with hk|⟨j,rfl⟩
   ·have:Ud F k=[]:=by cases k<;>simp only[Ud,Bk.t]at hk⊢ <;>rw[if_pos hk]
    rw[this];simp
   ·rw[PY];exact h.nodup j
  pS:=λk N b hb x=>by
   obtain⟨j,rfl,l⟩:=VF hb;obtain⟨J,rfl,y⟩:=VF x;rw[h.pS j J b l y]
  hown:=Ac
  pK:=Ac
  pL:=Ac
  pM:=λd i z=>by
   rcases g (.c d i)with hk|⟨j,l⟩
   ·exfalso;apply z;show oq (jG ts 0++Hd s.env) _=_;simp_all[zl,vF]
   ·cases j with
    |m t=>grind[Bk.up]
    |c t O=>
     simp only[Bk.up,Bk.c.injEq]at l;obtain⟨rfl,rfl⟩:=l;have E:=f (.c t i);have G:=f (.m t);simp only[Bk.up]at E G;rw[E]at z;obtain⟨D,K,u,L⟩:=h.pM t i (λe=>z (by rw[e];rfl));exact⟨by rw[G,D];rfl,K,(JT Aa t).trans u,L⟩
  slots:=λk=>by
   rcases g k with hk|⟨j,rfl⟩
   ·have M:Ud F k=[]:=by cases k<;>simp only[Ud,Bk.t]at hk⊢ <;>rw[if_pos hk]
    rw[M];cases k with
    |c t i=>
     have:(Go.Am.Zs2 s ts).get (.c t i)=.pR:=by
      show oq (jG ts 0++Hd s.env) _=_;simp_all[zl,vF]
     rw[this];rfl
    |m t=>
     rcases L0 t ts.length with ht|ht
     ·have e:(Go.Am.Zs2 s ts).get (.m t)=Bz ts[t]:=by
       have:=Dw ts 0 t (Hd s.env) ts[t] (Nf ht);rw[Mp]at this;exact this
      rw[e];obtain⟨v,hv,A⟩:=hts t ts[t] (Nf ht);have:Xj (W0.push a).gh a' (.m t)=v:=by
       show zD _ _ _=_
       grind[zD]
      rw[this];exact Uh o Aa A
     ·have:(Go.Am.Zs2 s ts).get (.m t)=.pR:=by
       show oq (jG ts 0++Hd s.env) _=_;simp_all[zl,vF]
      rw[this];rfl
   ·rw[f,PY,xZ Aa];exact Uh o Aa (h.slots j)}
def wP(r:Nat):Bool:=Mo UM r
def LN(s:St):Tm->Tm
 |.ptr r p=>match wP r with|true=>.ptr (r-UM) p|false=>.pR
 |.bor r p=>match wP r&& !(s.bad r p)with|true=>.bor (r-UM) p|false=>.pR
 |.elp r p i q=>match wP r&& !(s.bad r p)with|true=>.elp (r-UM) p i q|false=>.pR
 |.bel r p i q=>match wP r&& !(s.bad r p)&& !(s.pN (vd r))with|true=>.bel (r-UM) p i q|false=>.pR
 |.aep r p i=>match wP r with|true=>.aep (r-UM) p i|false=>.pR
 |.pls h l=>match l.all λq=>wP q.1 with|true=>.pls h (l.map λq=>(q.1-UM,q.2))|false=>.pR
 |.cl f l=>match l.all wP with|true=>.cl f (l.map (· -UM))|false=>.pR
 |.gd _ _ _=>.pR
 |t=>t
def Ry(s:St):List (Bk×Tm)->List (Bk×Tm)
 |[]=>[]
 |(.m t,u)::r=>match wP t with|true=>(.m (t-UM),LN s u)::Ry s r|false=>Ry s r
 |(.c t i,u)::r=>match wP t with|true=>(.c (t-UM) i,LN s u)::Ry s r|false=>Ry s r
def x8:List Nat->List Nat
 |[]=>[]
 |r::l=>match wP r with|true=>(r-UM)::x8 l|false=>x8 l
def pop(s:St):St:={env:=Ry s s.env,pP:=[],pQ:=x8 s.pQ}
theorem ru{r:Nat}:wP r=K3↔UM<=r:=by simp[wP]
def Uu(s:St):∀(l:List (Bk×Tm))(k:Bk),oq (Ry s l) k=LN s (oq l k.up)
 |[],k=>rfl
 |(.m t,u)::r,k=>by
  simp only[Ry];cases hb:wP t
  ·have:¬UM<=t:=λh=>by grind[ru]
   simp only[Ql];rw[if_neg (λe=>by cases k<;>simp[Bk.up]at e;omega),Uu s r k]
  ·have:=ru.1 hb;simp only[Ql];by_cases hk:k=.m (t-UM)
   ·simp_all[Bk.up]
   ·rw[if_neg (Lp hk),if_neg (λe=>hk (by cases k<;>simp[Bk.up]at e;simp;omega)),Uu s r k]
 |(.c t i,u)::r,k=>by
  simp only[Ry];cases hb:wP t
  ·have:¬UM<=t:=λh=>by grind[ru]
   simp only[Ql];rw[if_neg (λe=>by cases k<;>simp[Bk.up]at e;omega),Uu s r k]
  ·have:=ru.1 hb;simp only[Ql];by_cases hk:k=.c (t-UM) i
   ·simp_all[Bk.up]
   ·rw[if_neg (Lp hk),if_neg (λe=>hk (by cases k<;>simp[Bk.up]at e;simp;omega)),Uu s r k]
def DD:∀{l:List Nat}{r:Nat},r+UM∈l->r∈x8 l
 |x::l,r,h=>by
  simp only[x8];rcases L4.1 h with e|h
  ·grind[ru]
  ·cases wP x
   ·exact DD h
   ·exact M3 _ (DD h)
def TR(s:St)(F:Bk->List Nat):Bk->List Nat:=λk=>match(pop s).get k with|.pR=>[]|_=>F k.up
theorem vS{k:Bk}(h:(pop s).get k≠ .pR):TR s F k=F k.up:=by simp_all[TR]
def Sv{k:Bk}{b:Nat}(h:b∈TR s F k):b∈F k.up:=by grind[TR]
def ND(ha:a'.tmps.size<=UM){v:La}:∀{t:Tm},vt (W0.push a).gh w X B s F a' v S t->LN s t≠ .pR->
  vt W0.gh w X B (pop s) (TR s F) a v S (LN s t):=by
 have H:∀r,(pop s).get (.m r)=LN s (s.get (.m (r+UM))):=λr=>Uu s s.env (.m r);have d:∀{r:Nat},UM<=r->r-UM+UM=r:=λh=>Aa
 have O:∀{r p v},UM<=r->Rs s F r p v->Rs (pop s) (TR s F) (r-UM) p v:=λ{r p v} g ⟨e,T,f,x,b,I,k,C,n⟩=>by
  have o:(pop s).get (.m (r-UM))=.box e T f x:=by rw[H,d g,k];rfl
  exact⟨e,T,f,x,b,I,o,by simp_all[vS,Bk.up],n⟩
 have Q:∀{r p v U},UM<=r->Yl (W0.push a).gh w s F a' r p v U->TR s F (.m (r-UM))=F (.m r):=λ{r p v U} g h=>by
  grind[Yl,LN,vS,Bk.up]
 have hv:∀{r p v U},UM<=r->Yl (W0.push a).gh w s F a' r p v U->Yl W0.gh w (pop s) (TR s F) a (r-UM) p v U:=λ{r p v U} g h=>by
  have J:=Q g h;unfold Yl at h⊢;rw[H,d g,J];cases he:s.get (.m r)<;>rw[he]at h<;>simp only[LN]at h⊢
  ·refine⟨h.1,h.2.1,h.2.2.trans ?_⟩;have:=JT (W0:=W0) (a:=a) ha (r-UM);rw[d g]at this;exact this
  ·exact h
 intro t h c;cases t with
 |pR=>exact h
 |tup=>exact h
 |val T f x=>exact h
 |box e T f x=>exact h
 |shp T x=>exact h
 |ptr r p=>
  simp only[LN]at c⊢;cases hb:wP r<;>simp only[hb]at c⊢
  ·simp_all
  ·exact⟨h.1,O (ru.1 hb) h.2⟩
 |bor r p=>
  simp only[LN]at c⊢;cases hb:(wP r&& !(s.bad r p))<;>simp only[hb]at c⊢
  ·simp_all
  ·simp only[pC,Lw]at hb;obtain⟨U,V⟩:=h.2 hb.2;exact⟨h.1,λ_=>⟨U,hv (ru.1 hb.1) V⟩⟩
 |elp r p i q=>
  simp only[LN]at c⊢;cases hb:(wP r&& !(s.bad r p))<;>simp only[hb]at c⊢
  ·simp_all
  ·simp only[pC,Lw]at hb;obtain⟨e,t,D,m,z,K,L⟩:=h.2 hb.2;exact⟨h.1,λ_=>⟨e,t,D,m,z,hv (ru.1 hb.1) K,L⟩⟩
 |bel r p i q=>
  simp only[LN]at c⊢;cases hb:(wP r&& !(s.bad r p)&& !(s.pN (vd r)))<;>simp only[hb]at c⊢
  ·simp_all
  ·simp only[pC,Lw]at hb;obtain⟨e,t,D,m,z,W,y,Y,K,L,Z,k4,k5⟩:=h.2 hb.1.2 hb.2;exact⟨h.1,λ_ _=>⟨e,t,D,m,z,W,y,Y,hv (ru.1 hb.1.1) K,L,Z,by grind[ru],k5⟩⟩
 |aep r p i=>
  simp only[LN]at c⊢;cases hb:wP r<;>simp only[hb]at c⊢
  ·simp_all
  ·obtain⟨E,e,T,f,x,b,I,m,t',y,k,C,n⟩:=h;have g:=ru.1 hb;have o:(pop s).get (.m (r-UM))=.box e T f x:=by rw[H,d g,k];rfl
   exact⟨E,e,T,f,x,b,I,m,t',y,o,by simp_all[vS,Bk.up],n⟩
 |pls hh l=>
  simp only[LN]at c⊢;cases hb:(l.all λq=>wP q.1)<;>simp only[hb]at c⊢
  ·simp_all
  ·obtain⟨E,D,M,k,C,n,h4,h5⟩:=h;refine⟨E,D,M,k,C,by simpa using n,λj q G=>?_,by simpa using h5⟩;simp only[M2,Mr]at G;obtain⟨N,A,rfl⟩:=G
   grind[ru]
 |cl f l=>
  simp only[LN]at c⊢;cases hb:l.all wP<;>simp only[hb]at c⊢
  ·simp_all
  ·obtain⟨E,M,k,C,n⟩:=h;refine⟨E,M,k,by simpa using C,λj q G=>?_⟩;simp only[M2,Mr]at G;obtain⟨N,A,rfl⟩:=G;obtain⟨u,hu,ht⟩:=n j N A;exact⟨u,hu,O (ru.1 (Lv.1 hb N (Mi A))) ht⟩
 |gd gk P t=>exact absurd rfl c
def R.pop{m:Nat}{a':Act}(h:R m (W0.push a) w X F H s a')(hm:m<=UM)(hsz:a.tmps.size=n)(hd:a.defers=[]):R n W0 w X (TR s F) H (Go.Am.pop s) a:=by
 have g:a'.tmps.size<=UM:=by rw[h.size];exact hm
 have q:∀k:Bk,(Go.Am.pop s).get k=LN s (s.get k.up):=λk=>Uu s s.env k;exact
 {size:=hsz
  defers:=hd
  below:=⟨h.below.os,h.below.tape,h.below.output,h.below.size,h.below.block⟩
  glob:=h.glob
  gx:=h.gx
  xs:=h.xs
  fix:=λp x=>by
   obtain⟨j,l⟩:=h.fix (p.1+UM,p.2) (by simp_all[fW.push]);exact⟨DD j,(JT g p.1).symm.trans l⟩
  xlt:=h.xlt
  xin:=h.xin
  x0:=h.x0
  own:=λk b c=>h.own _ b (Sv c)
  nodup:=λk=>by
   unfold TR;split
   ·simp
   ·exact h.nodup _
  pS:=λk y b c o=>Bk.up_inj.1 (h.pS _ _ b (Sv c) (Sv o))
  hown:=h.hown
  pK:=h.pK
  pL:=λk b c=>h.pL _ b (Sv c)
  pM:=λd i r=>by
   rw[q]at r⊢;obtain⟨j,u,l,v⟩:=h.pM (d+UM) i (λe=>r (by simp only[Bk.up];rw[e];rfl));exact⟨by simp only[Bk.up];rw[j];rfl,u,(JT g d).symm.trans l,v⟩
  slots:=λk=>by
   by_cases f:(Go.Am.pop s).get k=.pR
   ·rw[f];unfold TR;rw[f];rfl
   ·rw[vS f];have t:=h.slots k.up;rw[xZ g]at t;rw[q]at f⊢;exact ND g t f}
def xH(a:Act):ResultVar->Sem La
 |.tmp t=>pure (a.tmps.getD t undef)
 |.cell d t=>do loadVar t (<-asAddr (a.tmps.getD d undef))
def Db(τ:nR):List ResultVar->St->Option (((ts:List (Ty×Fl))×cF ts)×St)
 |[],s=>K1 (⟨[],()⟩,s)
 |.tmp k::rs,s=>match FW s (Gj s [] (.tmp k))with
  |some q=>match Db τ rs q.s with
   |some (z,s')=>K1 (⟨(q.T,q.f)::z.1,(q.x,z.2)⟩,s')
   |none=>K2
  |none=>K2
 |.cell k e::rs,s=>match s.get (.m k),τ e with
  |.box e0 U f y,K1 U'=>match(Lj k 1048576&&Ly (U=U'))&&f.live with
   |true=>match Db τ rs (ch s k (.box e0 U .d y))with
    |some (z,s')=>K1 (⟨(U,f)::z.1,(y,z.2)⟩,s')
    |none=>K2
   |false=>K2
  |_,_=>K2
def N6(rv:List ResultVar)(s:St):Option Tm:=
 match rv with
 |[.tmp k]=>match Gj s [] (.tmp k)with
  |.tm _ (.ptr r p)=>match wP r with|true=>K1 (.ptr r p)|false=>K2
  |.tm _ (.elp r p i q)=>match wP r&& !(s.bad r p)with|true=>K1 (.elp r p i q)|false=>K2
  |_=>K2
 |_=>K2
def NI{ρ:Type}(τ:nR)(n:Nat)(rv:List ResultVar)(s:St)(dst:Option Nat)(k:St->Option ρ):Option ρ:=
 match N6 rv s with
 |some t=>match dst with
  |some d=>match aX (pop s) d&&Lj d n with
   |true=>k (Jt (pop s) d (LN s t))
   |false=>K2
  |none=>K2
 |none=>match Db τ rv s with
  |some (z,s2)=>match dst with
   |none=>k (pop s2)
   |some d=>match aX (pop s2) d&&Lj d n with
    |true=>k (Qx6 d (pop s2) z.1 z.2)
    |false=>K2
  |none=>K2
structure py where
 f:Lg
 n:Nat
 np:Nat
 rv:List ResultVar
 run:List Nat->{ρ:Type}->(Exit->St->Option ρ)->St->Option ρ
structure Yx(P:Lh)(g:Jh)(E:py):Prop where
 enters:∀args w,(callFunc E.f args).run P w=.ok (.enter E.f args) w
 le:E.np<=E.n/\E.n<=1048576
 code:∃fn c,P.funcs[E.f]? =K1 fn/\fn.body=K1 c/\fn.ntmps=E.n/\fn.results.toList=E.rv/\
  ∀{ρ:Type}{k:Exit->St->Option ρ}{r:ρ}{ln:List Nat}{W0:fW g}{w:Le}{X:Nat->Prop}{F:Bk->List Nat}{s:St}{a:Act},
   E.run ln k s=K1 r->(∀p,p∈W0.fix->p.1∈ln)->R E.n W0 w X F [] s a->c.wp P (λe a' w'=> ∃s' X' F',k e s'=K1 r/\R E.n W0 w' X' F' [] s' a') a w
abbrev Tl:=List py
def Tl.find(Γ:Tl)(f:Lg):Option py:=
 match Γ with
 |[]=>K2
 |e::r=>match Lf e.f f with|true=>K1 e|false=>Tl.find r f
def Tl.ok(Γ:Tl)(P:Lh)(g:Jh):Prop:= ∀e∈Γ,Yx P g e
def Tl.find_ok{Γ:Tl}{P:Lh}{g:Jh}(h:Γ.ok P g){f:Lg}{e:py}(he:Γ.find f=K1 e):e.f=f/\Yx P g e:=by
 induction Γ with
 |nil=>cases he
 |cons x r a=>
  simp only[Tl.find]at he;split at he
  ·rename_i b;simp only[pB]at he;subst he;exact⟨pD b,h _ Ac⟩
  ·exact a (λe he=>h e (by simp[he])) he
def RD{ρ:Type}(τ:nR)(n:Nat)(s:St)(dst:Option Nat)(E:py)(ts:List Tm)(k:St->Option ρ):Option ρ:=
 match Lf ts.length E.np with
 |true=>E.run (Zs2 s ts).pQ (λe s'=>match e with|.normal|.ret=>NI τ n E.rv s' dst k|_=>K2) (Zs2 s ts)
 |false=>K2
def I8(τ:nR)(s:St):List Lc->List Ld->Option (List Tm)
 |[],_=>K1 []
 |x::xs,e::es=>match GP τ s [] e x,I8 τ s xs es with
  |some r,K1 ts=>K1 (r.t::ts)
  |_,_=>K2
 |_::_,[]=>K2
theorem DV(h:(fn.results.toList.mapM (xH a)).run P w=.ok vs w):(results fn a.tmps).run P w=.ok (ak vs) w:=by
 have e:(fn.results.mapM (xH a)).run P w=.ok vs.toArray w:=by
  simp_all[Array.mapM_eq_mapM_toList]
 unfold results;rw[Lt];have b:(fn.results.mapM fun
  |.tmp t=>pure (a.tmps.getD t undef)
  |.cell d t=>do loadVar t (<-asAddr (a.tmps.getD d undef)))=fn.results.mapM (xH a):=by
  congr 1
 erw [b,e];simp only[Lq,L8];congr 1;by_cases c:vs.length=1
 ·obtain⟨v,rfl⟩:=Mm.1 c;rfl
 simp_all[XP]
def SD(hτ:τ.ok P):∀{rs:List ResultVar}{s:St}{F:Bk->List Nat}{H:List Nat}{z:(ts:List (Ty×Fl))×cF ts}{s':St},R n W0 w X F H s a->Db τ rs s=K1 (z,s')->
  ∃vs S F',(rs.mapM (xH a)).run P w=.ok vs w/\vD w X W0.B z.1 z.2 vs S/\R n W0 w X F' (S++H) s' a
 |[],s,F,H,z,s',h,g=>by
  simp only[Db,pB,pF]at g;obtain⟨rfl,rfl⟩:=g;exact⟨[],[],F,Ac,⟨rfl,rfl⟩,h⟩
 |.tmp k::rs,s,F,H,z,s',h,g=>by
  simp only[Db]at g;split at g
  ·rename_i q Y;split at g
   ·rename_i Z s2 r;simp only[pB,pF]at g;obtain⟨rfl,rfl⟩:=g;obtain⟨F1,i,v,h1,h2,D,_,_⟩:=GZ h (tg:=[]) (λp l=>by cases l) Y;obtain⟨vs,S,F',k1,E,o⟩:=SD hτ D r;refine⟨_,i++S,F',?_,⟨v,vs,i,S,rfl,rfl,h2,E⟩,?_⟩
    ·have G:(a.tmps.getD k undef)=Kx q.T v:=h1;simp_all[xH]
    ·have l:(i++S++H).Perm (S++(i++H)):=Ai
     exact {o with
      hown:=λb t=>o.hown b (l.mem_iff.1 t)
      pK:=l.nodup_iff.2 o.pK
      pL:=λk b t I=>o.pL k b t (l.mem_iff.1 I)}
   ·cases g
  ·cases g
 |.cell k e::rs,s,F,H,z,s',h,g=>by
  simp only[Db]at g;split at g
  ·rename_i e' U f y U' N hU;split at g
   ·rename_i J;split at g
    ·rename_i Z s2 r;simp only[pC,decide_eq_true_eq]at J;obtain⟨⟨K,rfl⟩,J⟩:=J;simp only[pB,pF]at g;obtain⟨rfl,rfl⟩:=g;have O:=h.slots (.m k);rw[N]at O;obtain⟨b,c,i,Q,g2,V,C⟩:=O;have A:=h.nodup (.m k);rw[g2]at A;have D:R n W0 w X (Xp F (.m k) [b]) (i++H) (ch s k (.box e' U .d y)) a:=by
      refine h.turn (S':=[b]) (H':=i++H) h.below (Ll _) (λ_ _=>rfl) (λ_ _ _ _=>rfl) ?_ ?_ (by rw[N];simp) ?_ ?_
      ·simp_all
      ·have hd:∀L∈b::i,L∉H:=λL ab=>h.pL (.m k) L Af;refine Lk.2 ⟨Ac,Lk.2 ⟨(L5.1 A).2,h.pK,λx hx y W e=>hd x (by simp[hx]) (by rw[e];exact W)⟩,λx hx y W e=>?_⟩;simp_all
      ·grind
      ·exact⟨b,c,[],Q,rfl,V,by unfold TZ;exact⟨Kp C,rc C,rfl⟩⟩
     obtain⟨vs,S,F',k1,E,o⟩:=SD hτ D r;refine⟨_,i++S,F',?_,⟨c.toList,vs,i,S,rfl,rfl,C,E⟩,?_⟩
     ·have G:(a.tmps.getD k undef)=.pointer (K1 ⟨b,0,K2⟩):=(Kz W0 a K).symm.trans Q;have M:=(hτ _ _ hU).load (w:=w) (ad:=⟨b,0,K2⟩) (vs:=c.toList) (Kp C) (λj u hj=>by
       rw[p6 w V,<-Array.getElem?_toList,Mp];exact hj)
      simp_all[xH,asAddr]
     ·have l:(i++S++H).Perm (S++(i++H)):=Ai
      exact {o with
       hown:=λb t=>o.hown b (l.mem_iff.1 t)
       pK:=l.nodup_iff.2 o.pK
       pL:=λk b t I=>o.pL k b t (l.mem_iff.1 I)}
    ·cases g
   ·cases g
  ·cases g
def Qhr{t:Tm}(h:R m (W0.push a) w X F [] s a')(hr:N6 rv s=K1 t):
  ∃k S,rv=[.tmp k]/\LN s t≠ .pR/\vt (W0.push a).gh w X W0.B s F a' (a'.eval (.tmp k)) S t/\S=[]:=by
 unfold N6 at hr;split at hr
 ·rename_i k;split at hr
  ·rename_i j r p hx;split at hr
   ·rename_i c;cases hr;obtain⟨_,hv⟩:=Vu h (tg:=[]) (λp b=>by cases b) hx Ac;exact⟨k,_,rfl,by simp[LN,c],hv,hv.1⟩
   ·cases hr
  ·rename_i j r p i q hx;split at hr
   ·rename_i c;cases hr;obtain⟨_,hv⟩:=Vu h (tg:=[]) (λp b=>by cases b) hx Ac;exact⟨k,_,rfl,by simp_all[LN],hv,hv.1⟩
   ·cases hr
  ·cases hr
 ·cases hr
def Qhq{r:ρ}(hτ:τ.ok P)(h:R m (W0.push a) w X F [] s a')(hm:m<=1048576)(hsz:a.tmps.size=n)(hd:a.defers=[])(hrv:fn.results.toList=rv){dst:Option Nat}{k:St->Option ρ}(hk:NI τ n rv s dst k=K1 r):
  ∃v s2 F2,(results fn a'.tmps).run P w=.ok v w/\k s2=K1 r/\R n W0 w X F2 [] s2 (a.put dst v):=by
 unfold NI at hk;split at hk
 ·rename_i t i;obtain⟨j,S,rfl,l,hv,rfl⟩:=Qhr h i;split at hk
  ·rename_i d;split at hk
   ·rename_i b;simp only[pC,Lo]at b;have e:=h.pop hm hsz hd;have f:=ND (by rw[h.size];exact hm) hv l;have g:=(by simpa using e:R n W0 w X (TR s F) ([]++[]) (pop s) a).put b.1 b.2 f;have c:(fn.results.toList.mapM (xH a')).run P w=.ok [a'.eval (.tmp j)] w:=by simp_all[xH,Mu]
    exact⟨ak [a'.eval (.tmp j)],_,_,DV (a:=a') c,hk,g⟩
   ·cases hk
  ·cases hk
 ·split at hk
  ·rename_i z s2 o;obtain⟨p,S,x,y,q,u⟩:=SD hτ h o;have e:=u.pop hm hsz hd;split at hk
   ·exact⟨ak p,_,_,DV (a:=a') Af,hk,e.drop⟩
   ·rename_i d;split at hk
    ·rename_i b;simp only[pC,Lo]at b;obtain⟨F2,A⟩:=R.putF e b.1 b.2 q
     grind[DV]
    ·cases hk
  ·cases hk
def Eg{r:ρ}(hτ:τ.ok P){E:py}(hE:Yx P g E)(h:R n W0 w X F [] s a)(hl:ts.length=vs.length)(hts:∀(i:Nat) t,ts[i]? =K1 t-> ∃v,vs[i]? =K1 v/\vt W0.gh w X W0.B s F a v [] t)
  (hrun:(execOp a.eval o).run P w=.ok (.enter E.f vs.toArray) w) {k:St->Option ρ} (hr:RD τ n s o.dst E ts k=K1 r)
   (hK:∀v w' X' F' s',k s'=K1 r->R n W0 w' X' F' [] s' (a.put o.dst v)->K (a.put o.dst v) w'):o.wp P a w K Q:=by
 unfold RD at hr;split at hr
 ·rename_i b;have b:=pD b;obtain⟨x,c,y,z,A,j,d⟩:=hE.code;have l:=h.push (m:=E.n) hl (by rw[b];exact hE.le.1) hE.le.2 hts;unfold Lm;rw[hrun,Mj];refine calls_of_wp y z ?_;rw[A];refine wp_mono (d hr (λp C=>(l.fix p C).1) l) λe q w' ⟨s',X',F',hk,u⟩=>?_;have fin:NI τ n E.rv s' o.dst k=K1 r->q.defers=[]/\ ∃v,(results x q.tmps).run P w'=.ok v w'/\K (a.put o.dst v) w':=λhk=>by
   obtain⟨v,D,G,H,I,J⟩:=Qhq hτ u hE.le.2 h.size h.defers j hk;exact⟨u.defers,v,H,hK v w' X' G D I J⟩
  cases e with
  |normal=>exact fin hk
  |ret=>exact fin hk
  |_=>cases hk
 ·cases hr
def E8(h:R n W0 w X F H s a):∀{xs:List Lc}{es:List Ld}{ts:List Tm},I8 τ s xs es=K1 ts->
  ts.length=xs.length/\ ∀(i:Nat) t,ts[i]? =K1 t-> ∃v,(xs.map a.eval)[i]? =K1 v/\vt W0.gh w X W0.B s F a v [] t
 |[],es,ts,b=>by
  simp_all[I8]
 |x::xs,[],ts,b=>by grind[I8]
 |x::xs,e::es,ts,b=>by
  simp only[I8]at b;split at b
  ·rename_i r k d f;simp only[pB]at b;subst b;obtain⟨g,l⟩:=E8 h f;refine⟨by simp[g],λi t c=>?_⟩;cases i with
   |zero=>
    simp only[Mh,pB]at c;subst c;exact⟨a.eval x,Ac,(MF h (tg:=[]) (λp j=>by cases j) d).2⟩
   |succ i=>simp_all
  ·cases b
def Pv{α:Type}(f:α->α->Bool):List α->List α->Bool|[],[]=>K3|x::xs,y::ys=>f x y&&Pv f xs ys|_,_=>K4
def A7:(T:Ty)->T.den->T.den->Bool|.unit,_,_=>K3|.int _,x,y=>Ly ((x:Int)=y)|.bool,x,y=>(x:Bool)==y|.fnc _,_,_=>K4|.str,x,y=>(x:List UInt8)==y|.pair a b,x,y=>A7 a x.1 y.1&&A7 b x.2 y.2|.arr _ t,x,y=>Pv (A7 t) x y|.slice _ _,_,_=>K4|.err,_,_=>K4|.hid _,_,_=>K4|.sptr ..,_,_=>K4|.clo ..,_,_=>K4
structure II(P:Lh)(e:Ld)(T:Ty):Prop where
 guard:∀(w:Le)(op:BinOp)(p q:Lc)(u v:List La),(eqGuard op e p q (Kx T u) (Kx T v)).run P w=.ok () w
 eql:∀(w w2 w3:Le)(X Y:Nat->Prop)(B:Nat)(x y:T.den)(u v:List La),rd w2 X B K4 T x u []->rd w3 Y B K4 T y v []->(binOp .eql e (Kx T u) (Kx T v)).run P w=.ok (.bool (A7 T x y)) w
 neq:∀(w w2 w3:Le)(X Y:Nat->Prop)(B:Nat)(x y:T.den)(u v:List La),rd w2 X B K4 T x u []->rd w3 Y B K4 T y v []->(binOp .neq e (Kx T u) (Kx T v)).run P w=.ok (.bool (!(A7 T x y))) w
structure DL where
 τ:nR
 eq:Ld->Bool
 Γ:IC
 pQ:List Nat:=[]
 ΓL:qK:=[]
 ΓB:Il:=[]
 soft:Bool:=K4
 pt:xQ:={}
 inl:Tl:=[]
structure DL.ok(C:DL)(P:Lh)(g:Jh):Prop where
 τ:C.τ.ok P
 eq:∀e T,C.eq e=K3->C.τ e=K1 T->II P e T
 Γ:C.Γ.ok P g
 follows:P.follows .mixedOrders=K3
 ΓL:C.ΓL.ok P g
 ΓB:C.ΓB.ok P g
 soft:g.soft=C.soft
 pt:C.pt.ok P
 inl:C.inl.ok P g
variable {C:DL}
def WB(C:DL)(s:St)(tg:Y7)(op:BinOp)(e:Ld)(x y:Lc):Option Oe:=
 match C.eq e,C.τ e with
 |true,K1 T=>match de s (Gj s tg x) T,de s (Gj s tg y) T with
  |some u,K1 v=>match op with
   |.eql=>K1 ⟨.val .bool (.u K4) (A7 T u v),s,K4,K2⟩
   |.neq=>K1 ⟨.val .bool (.u K4) (!(A7 T u v)),s,K4,K2⟩
   |_=>K2
  |_,_=>K2
 |_,_=>K2
theorem Rb(h:R n W0 w X F H s a)(ht:tg.ok W0.gh a)(hC:C.ok P g){e:Ld}{x y:Lc}(ho:o.op=.binOp op e x y e2){r:Oe}(hr:WB C s tg op e x y=K1 r):dP P C.τ W0 w X F s a o r:=by
 unfold WB at hr;split at hr
 ·rename_i T m p;split at hr
  ·rename_i u v q hv;obtain⟨d,f,i⟩:=fa h ht q;obtain⟨j,k,l⟩:=fa h ht hv;have b:=hC.eq e T m p;split at hr
   ·simp only[pB]at hr;subst hr;refine K0 rfl λ_=>⟨_,λc _=>?_,Rh _⟩
    simp only[execOp,ho,f,k,Lt,b.guard,Lq,b.eql c w w _ _ _ u v d j i l,L8]
   ·simp only[pB]at hr;subst hr;refine K0 rfl λ_=>⟨_,λc _=>?_,Rh _⟩
    simp only[execOp,ho,f,k,Lt,b.guard,Lq,b.neq c w w _ _ _ u v d j i l,L8]
   ·cases hr
  ·cases hr
 ·cases hr
def IB(s:St)(tg:Y7)(x:Lc):Option Oe:=
 match Gj s tg x with
 |.tm k t=>match CB s k t with
  |some r=>match r.t with
   |.ptr _ _|.shp _ _=>K1 r
   |.elp q p _ _=>match s.bad q p with|false=>K1 r|true=>K2
   |_=>K2
  |none=>K2
 |_=>K2
theorem B5(h:R n W0 w X F H s a)(ht:tg.ok W0.gh a){x:Lc}(ho:o.op=.nilCheck x){r:Oe}(hr:IB s tg x=K1 r):dP P τ W0 w X F s a o r:=by
 unfold IB at hr;split at hr
 ·rename_i k t hx;split at hr
  ·rename_i u j;obtain⟨v,d⟩:=WP h ht hx j;have l:u=r/\ ∃g,a.eval x=.pointer (K1 g):=by
    split at hr
    ·rename_i q p c;rw[c]at d;obtain⟨_,e,T,f,y,b,C,_,_,m⟩:=d;simp_all
    ·rename_i T y c;rw[c]at d;obtain⟨_,g,D,m,_⟩:=d;simp_all
    ·rename_i q p i z c;rw[c]at d;split at hr
     ·rename_i A;obtain⟨e,E,g,G,B,_,_,_,m⟩:=d.2 A;simp_all
     ·cases hr
    ·cases hr
   obtain⟨rfl,g,I⟩:=l;refine K0 v λ_=>⟨_,λJ _=>?_,d⟩
   simp_all[execOp]
  ·cases hr
 ·cases hr
def AS(C:DL)(s:St)(tg:Y7)(o:Lb):Option Oe:=
 match o.op with
 |.move x=>GP C.τ s tg o.type x
 |.assign x=>HY C.τ s tg o.type x
 |.pick c x y=>Fk C.τ s tg o.type c x y
 |.alloc e=>MW C.τ s e
 |.box e x=>OV C.τ s tg e x
 |.build e ps=>match C.τ e with
  |some (.arr _ _)=>HZ C.τ s tg e ps
  |_=>ED C.τ s tg e ps
 |.buildSlice e n ps=>match C.τ e,C.soft with
  |none,K4=>Rm C.pt s tg e n ps
  |_,_=>match Fg C.τ s tg e n ps with
   |some r=>K1 r
   |none=>NF C.τ s tg e n ps
 |.load e x=>match C.τ e with
  |none=>ZI C.pt s tg e x
  |some _=>p9 C.τ s tg e x
 |.binOp op e x y e2=>match C.τ e with
  |some (.pair _ _)|some (.arr _ _)=>WB C s tg op e x y
  |none=>match C.pt.isPtr e with
   |true=>OF C.pt s tg op e x y
   |false=>HC C.pt s tg op e x y
  |_=>Cn C.τ s tg op e x y e2
 |.unOp op e x=>l7 C.τ s tg op e x
 |.convert e e2 x=>CS C.τ s tg e e2 x
 |.makeSlice e x y=>UH C.τ s tg e x y
 |.slice e x lo hi K2=>match C.soft with
  |true=>K2
  |false=>Es C.τ s tg e x lo hi
 |.nilCheck x=>IB s tg x
 |.fieldAddr e x i=>FN C.τ s tg e x i
 |.indexAddr e x i=>match C.τ e with
  |none=>EN C.pt s tg e x i
  |some _=>LA C.τ s tg e x i
 |.index e x i=>BF C.τ s tg e x i
 |.extract x i=>Pn s x i
 |.makeFunc (.func f) ⟨[]⟩ ⟨[]⟩=>K1 ⟨.val (.fnc f) (.u K3) (),s,K4,K2⟩
 |.call {callee:=.builtin .len,args:=⟨[x]⟩,argTypes:=⟨[e]⟩}=>match C.τ e with
  |none=>LO C.pt s tg e x
  |some _=>wV C.τ s tg e x
 |.call {callee:=.builtin .min,args:=⟨[x,y]⟩,argTypes:=⟨[e,_]⟩}=>PH s tg e C.τ x y K4
 |.call {callee:=.builtin .max,args:=⟨[x,y]⟩,argTypes:=⟨[e,_]⟩}=>PH s tg e C.τ x y K3
 |.call {callee:=.builtin .append,args:=⟨[x,y]⟩,argTypes:=⟨[e,e2]⟩}=>match Lf e e2 with
  |true=>match Em C.τ s tg e x y with
   |some r=>K1 r
   |none=>match TG C.τ s tg e x y with
    |some r=>K1 r
    |none=>TN C.soft C.τ s tg e x y
  |false=>K2
 |_=>K2
def Hz(h:R n W0 w X F H s a)(ht:tg.ok W0.gh a)(hC:C.ok P g){r:Oe}(hr:AS C s tg o=K1 r):YU P n W0 w X H s a o r:=by
 unfold AS at hr;split at hr
 ·rename_i b;exact(UR h ht b hr).sound h
 ·grind[Z0x]
 ·rename_i b;exact(O0 h ht b hr).sound h
 ·rename_i b;exact Z2v h hC.τ b hr
 ·grind[Z91]
 ·rename_i b;split at hr
  ·exact Ztk h ht hC.τ b hr
  ·exact Z26 h ht hC.τ b hr
 ·rename_i b;split at hr
  ·rename_i _ c;exact Qbv (hC.soft.trans c) h ht hC.pt b hr
  ·split at hr
   ·rename_i d;cases hr;exact Zoz h ht hC.τ b d
   ·exact Ztl h ht hC.τ b hr
 ·rename_i b;split at hr
  ·exact(Z7d (τ:=C.τ) h ht hC.pt b hr).sound h
  ·exact(AC h ht hC.τ b hr).sound h
 ·rename_i b;split at hr
  ·exact(Rb h ht hC b hr).sound h
  ·exact(Rb h ht hC b hr).sound h
  ·split at hr
   ·exact(Z5z (τ:=C.τ) h ht hC.pt b hr).sound h
   ·exact(Qan (τ:=C.τ) h ht hC.pt b hr).sound h
  ·exact(Ez h ht hC.τ b hr).sound h
 ·rename_i b;exact(CO h ht b hr).sound h
 ·rename_i b;exact(ET h ht hC.τ b hr).sound h
 ·rename_i b;exact Z7e h ht hC.τ b hr
 ·rename_i b;split at hr
  ·cases hr
  ·rename_i c;exact Z6e (hC.soft.trans c) h ht hC.τ b hr
 ·rename_i b;exact(B5 (τ:=C.τ) h ht b hr).sound h
 ·rename_i b;exact(Ui h ht hC.τ b hr).sound h
 ·rename_i b;split at hr
  ·exact(Qa4 (τ:=C.τ) h ht hC.pt b hr).sound h
  ·exact(FP h ht hC.τ b hr).sound h
 ·rename_i b;exact(OR h ht hC.τ b hr).sound h
 ·grind[Zwp]
 ·rename_i f b;simp only[pB]at hr;subst hr;exact XS h rfl λ_=>⟨_,by simp[execOp,b,My],gX f⟩
 ·rename_i b;split at hr
  ·exact(Qbd (τ:=C.τ) h ht hC.pt b hr).sound h
  ·exact(P9 h ht hC.τ b hr).sound h
 ·rename_i b;exact(U5 h ht (mx:=K4) b hr).sound h
 ·rename_i b;exact(U5 h ht (mx:=K3) b hr).sound h
 ·rename_i e j b;split at hr
  ·rename_i i;have:=pD i;subst this;split at hr
   ·rename_i d;cases hr;exact Z0w h ht hC.τ b d
   ·split at hr
    ·rename_i d;cases hr;exact Z63 h ht hC.τ b d
    ·cases c:C.soft with
     |false=>exact Z2y (hC.soft.trans c) h ht hC.τ b hr
     |true=>simp_all[TN]
  ·cases hr
 ·cases hr
def CW(s:St):Nat->Nat->Bool->Option Y7
 |0,_,_=>K2
 |d+1,g,b=>match s.pN g with
  |true=>K2
  |false=>match s.get (.m g)with
   |.gd g2 b2 _=>match CW s d g2 b2 with
    |some tg=>K1 ((g,b)::tg)
    |none=>K2
   |.val .bool _ _=>K1 [(g,b)]
   |_=>K2
def Ci(s:St):Y7->Prop->Option Prop
 |[],p=>K1 p
 |(g,b)::tg,p=>match de s (Gj s tg (.tmp g)) .bool with
  |some c=>Ci s tg (c=b->p)
  |none=>K2
def Zd{ρ:Type}(p:Prop)(m:Option ρ):Option ρ:=by classical exact ite p m K2
def ot{p:Prop}{m:Option ρ}{r:ρ}:Zd p m=K1 r↔p/\m=K1 r:=by simp_all[Zd]
theorem Zb{p:Prop}{m:Option ρ}(h:p:=by omega):Zd p m=m:=by unfold Zd;rw[if_pos h]
def F8{ρ:Type}(o:Ob)(m:Option ρ):Option ρ:=
 match o with
 |none=>m
 |some p=>Zd p m
def HV{o:Ob}{m:Option ρ}{r:ρ}:F8 o m=K1 r↔o.ok/\m=K1 r:=by
 cases o with
 |none=>simp[F8,Ob.ok]
 |some p=>exact ot
def SM{ρ:Type}(s:St)(tg:Y7)(o:Ob)(m:Option ρ):Option ρ:=
 match o with
 |none=>m
 |some p=>match Ci s tg p with
  |some q=>Zd q m
  |none=>K2
def YE(s:St):Y7->Option (List (Bool×Bool))
 |[]=>K1 []
 |(g,b)::tg=>match de s (Gj s tg (.tmp g)) .bool,YE s tg with
  |some c,K1 r=>K1 ((c,b)::r)
  |_,_=>K2
def HN{α:Type}(d:α)(m:Option α):List (Bool×Bool)->Option α|[]=>m|(c,K3)::r=>cond c (HN d m r) (K1 d)|(c,K4)::r=>cond c (K1 d) (HN d m r)
def F7(h:R n W0 w X F H s a):∀{d g:Nat}{b:Bool}{tg:Y7},CW s d g b=K1 tg->Xj W0.gh a (.m g)=.bool b->tg.ok W0.gh a
 |0,_,_,_,c,_=>by cases c
 |d+1,g,b,tg,c,k=>by
  simp only[CW]at c;split at c
  ·cases c
  ·rename_i y;split at c
   ·rename_i l r t u;split at c
    ·rename_i v e;simp only[pB]at c;subst c;have o:=h.slots (.m g);rw[u]at o;have f:s.pN l=false:=by
      cases d with
      |zero=>cases e
      |succ d=>
       grind[CW]
     obtain⟨_,_,x⟩:=o f;have i:Xj W0.gh a (.m l)=.bool r:=Mk λj=>by
      obtain⟨_,q⟩:=x j;rw[k]at q;cases q
     intro p hp;rcases L4.1 hp with rfl|hp
     ·exact k
     ·exact F7 h e i p hp
    ·cases c
   ·simp only[pB]at c;subst c;intro p hp;simp_all
   ·cases c
def Ph(h:R n W0 w X F H s a):∀{tg:Y7}{p q:Prop},Ci s tg p=K1 q->q->Y7.ok tg W0.gh a->p
 |[],p,q,d,f,_=>by simp_all[Ci]
 |(g,b)::tg,p,q,d,f,i=>by
  simp only[Ci]at d;split at d
  ·rename_i c j;have e:Y7.ok tg W0.gh a:=λp k=>i p (M3 _ k);have m:=uA h e j;have o:=i (g,b) (Ni ..);have l:c=b:=by
    grind[Kz,NN]
   exact Ph h d f e l
  ·cases d
def HB(h:R n W0 w X F H s a){tg:Y7}{o:Ob}{m:Option ρ}{r:ρ}(hu:SM s tg o m=K1 r):m=K1 r/\(Y7.ok tg W0.gh a->o.ok):=by
 unfold SM at hu;split at hu
 ·exact⟨hu,λ_=>trivial⟩
 ·split at hu
  ·rename_i d b;rw[ot]at hu;exact⟨hu.2,λc=>Ph h b hu.1 c⟩
  ·cases hu
def SG(h:R n W0 w X F H s a):∀{tg:Y7}{cs:List (Bool×Bool)},YE s tg=K1 cs->Y7.ok tg W0.gh a-> ∀{α:Type}(d:α)(m:Option α),HN d m cs=m
 |[],cs,f,_,_,d,m=>by simp only[YE,pB]at f;subst f;rfl
 |(g,b)::tg,cs,f,k,_,d,m=>by
  simp only[YE]at f;split at f
  ·rename_i c r i o;simp only[pB]at f;subst f;have j:Y7.ok tg W0.gh a:=λp q=>k p (M3 _ q);have t:Xj W0.gh a (.m g)=.bool c:=(Kz W0 a (NN i)).trans (uA h j i);have l:=k (g,b) (Ni ..);rw[t]at l;injection l with e
   simp only at e;subst e;have u:=SG h o j d m;cases c<;>simp[HN,u]
  ·cases f
def E5:(ts:List Ty)->dJ ts->Option TV|[t],r=>K1 ⟨t,r.1⟩|_,_=>K2
def Qh1:∀{ts:List Ty}{r:dJ ts}{v:TV}{rs:List La}{S:List Nat},E5 ts r=K1 v->xG w B ts r rs S-> ∃cs,ak rs=Kx v.1 cs/\rd w (λ_=>False) B K3 v.1 v.2 cs S
 |[t],r,v,rs,S,h,hx=>by
  simp only[E5,pB]at h;subst h;obtain⟨cs,a,c,d,rfl,rfl,b,rfl,rfl⟩:=hx;exact⟨cs,rfl,by simpa using b⟩
 |[],_,_,_,_,h,_=>by simp[E5]at h
 |_::_::_,_,_,_,_,h,_=>by simp[E5]at h
def dG:Y7.ok [] W0.gh a:=λp b=>by cases b
def p8{g:Nat}{tg:Y7}(hc:CW s d g b=K1 tg):s.get (.m g)≠ .pR:=by
 cases d with
 |zero=>cases hc
 |succ d=>
  grind[CW]
def H3:(ts:List Ty)->dJ ts|[]=>()|t::ts=>(zero t,H3 ts)
def Fu{ρ:Type}(C:DL)(o:Lb)(s:St)(tg:Y7)(g:Nat)(b:Bool)(d:Nat)(k:St->Option ρ):Option ρ:=
 match o.op with
 |.call {callee:=.value fo,args:=xs,..}=>match(LD s tg fo).bind C.Γ.find with
  |some e=>match JQ s tg e.args xs.toList,YE s tg,E5 e.res (H3 e.res)with
   |some us,K1 cs,K1 _=>(HN (H3 e.res) (e.F us) cs).bind λr=>match E5 e.res r with
    |some v=>k (Jt s d (.gd g b (.val v.1 (.u K3) v.2)))
    |none=>K2
   |_,_,_=>K2
  |none=>K2
 |_=>match AS C s tg o with
  |some r=>match r.moved with
   |false=>SM s tg r.obl (k (Jt s d (.gd g b r.t)))
   |true=>K2
  |none=>K2
def Rf(s:St):List Lc->Option (List Nat)
 |[]=>K1 []
 |x::xs=>match SP (Gj s [] x),Rf s xs with
  |some q,K1 l=>match s.get (.m q)with
   |.box .. =>K1 (q::l)
   |_=>K2
  |_,_=>K2
def Id(h:R n W0 w X F H s a):∀{xs:List Lc}{l:List Nat},Rf s xs=K1 l->(xs.map a.eval).length=l.length/\ ∀(j:Nat)(q:Nat),l[j]? =K1 q-> ∃u,(xs.map a.eval)[j]? =K1 u/\Rs s F q [] u
 |[],l,d=>by simp_all[Rf]
 |x::xs,l,d=>by
  simp only[Rf]at d;split at d
  ·rename_i q v z g;split at d
   ·rename_i e T f y i;simp only[pB]at d;subst d;obtain⟨p,A⟩:=Id h g;refine⟨by simpa using p,λj B k=>?_⟩;cases j with
    |zero=>
     simp only[Mh,pB]at k;subst k;have o:=h.slots (.m q);rw[i]at o;obtain⟨b,c,r,C,t,_⟩:=o;refine⟨a.eval x,Ac,e,T,f,y,b,r,i,t,?_⟩
     grind[Si,ai]
    |succ j=>simp_all
   ·cases d
  ·cases d
def UK{ρ:Type}(C:DL)(n:Nat)(ops:Array Lb)(o:Lb)(s:St)(k:St->Option ρ):Option ρ:=
 match o.guard with
 |none=>match o.op with
  |.store e x v=>match o.dst with
   |none=>match Gv C.τ s [] e x v with
    |some s'=>k s'
    |none=>K2
   |some _=>K2
  |.call {callee:=.value fo,args:=xs,..}=>match LD s [] fo with
   |some f=>NL C.Γ n s [] o.dst f xs.toList k
   |none=>match UT s [] fo with
    |some c=>RW C.Γ n s [] o.dst c xs.toList k
    |none=>K2
  |.makeFunc (.func f) ⟨[]⟩ ⟨c::cs⟩=>match C.inl.find f with
   |some _=>match Rf s (c::cs),o.dst with
    |some l,K1 d=>match aX s d&&Lj d n with
     |true=>k (Jt s d (.cl f l))
     |false=>K2
    |_,_=>K2
   |none=>match C.soft,EW s (c::cs),o.dst with
    |false,K1 (U,s'),K1 d=>match aX s' d&&Lj d n with
     |true=>k (Jt s' d (.val (.clo f U.1) (.u K4) U.2))
     |false=>K2
    |_,_,_=>K2
  |.move (.tmp q)=>match s.get (.m q),o.dst with
   |.tup,K1 d=>match aX s d&&Lj d n&&Lj q 1048576 with
    |true=>k (Z0n s q d)
    |false=>K2
   |_,_=>match GP C.τ s [] o.type (.tmp q),o.dst with
    |some r,K1 d=>match aX r.s d&&Lj d n with
     |true=>F8 r.obl (k (Jt r.s d r.t))
     |false=>K2
    |_,_=>K2
  |_=>match AS C s [] o,o.dst with
   |some r,K1 d=>match aX r.s d&&Lj d n with
    |true=>F8 r.obl (k (Jt r.s d r.t))
    |false=>K2
   |_,_=>K2
 |some (j,b)=>match(ops[j]?).bind (·.dst),o.dst with
  |some g,K1 d=>match CW s 8 g b,aX s d&&Lj d n&&Lj g 1048576 with
   |some tg,K3=>Fu C o s tg g b d k
   |_,_=>K2
  |_,_=>K2
structure TQ(gh:Nat->La)(C:DL)(o:Lb)(X X':Nat->Prop)(s:St)(a a':Act)(w w':Le):Prop where
 more:∀b,X b->X' b
 pres:D4 o.op=K3->H6 w w'
 kept:C1 gh X s a (Ec C.τ s o) w w'
 put:∃v,a'=a.put o.dst v
def R.fact(h:R n W0 w X F H s a){o:Lb}{v:La}(hold:H6 w w'):TQ W0.gh C o X X s a (a.put o.dst v) w w':=⟨λ_ h=>h,λ_=>hold,h.kept hold,v,rfl⟩
def C1.any{tgt:Option Nat}(h:C1 W0.gh X s a K2 w w'):C1 W0.gh X s a tgt w w':=λb c=>h b (c.imp id λ⟨r,d,_,e⟩=>⟨r,d,Ac,e⟩)
def Qli(hC:C.ok P g)(h:R n W0 w X F [] s a){g:Nat}(hd:o.dst=K1 d)(hch:CW s 8 g b=K1 tg)(hdn:aX s d=K3/\d<n){k:St->Option ρ}{r:ρ}(hs:Fu C o s tg g b d k=K1 r)
   (hK:∀w' a' X' F' s',k s'=K1 r->R n W0 w' X' F' [] s' a'->TQ W0.gh C o X X' s a a' w w'->K a' w'):
  (Xj W0.gh a (.m g)=.bool b->o.wp P a w K Q)/\(Xj W0.gh a (.m g)≠ .bool b->K (a.put o.dst undef) w):=by
 have j:=p8 hch;have skip:∀{t:Tm},Xj W0.gh a (.m g)≠ .bool b->k (Jt s d (.gd g b t))=K1 r->K (a.put o.dst undef) w:=by
  intro t c y;rw[hd];exact hK w _ X _ _ y ((by simpa using h:R n W0 w X F ([]++[]) s a).put (S:=[]) hdn.1 hdn.2 λ_=>⟨j,λi=>absurd i c,λ_=>⟨rfl,rfl⟩⟩) (by rw[<-hd];exact h.fact (H6.refl w))
 unfold Fu at hs;split at hs
 ·rename_i W Y I J;split at hs
  ·rename_i e z;obtain⟨f,L,y⟩:=Lx.1 z;split at hs
   ·rename_i Z H v0 A B M;rw[Lx]at hs;obtain⟨rv,p,hk⟩:=hs;split at hk
    ·rename_i v hv;refine⟨λi=>?_,λi=>skip i hk⟩;have l:=F7 h hch i;rw[SG h B l]at p;refine Rn hC.Γ h l (XB h l L) J y A p λrs S w' x q hold=>?_;obtain⟨H,N,O⟩:=Qh1 hv q;rw[hd];exact hK w' _ X _ _ hk (x.put hdn.1 hdn.2 λ_=>⟨j,λ_=>⟨H,N,by unfold TZ;exact lu (Ll _) (λ_ (h:False)=>h.elim) O⟩,λc=>absurd i c⟩) (by rw[<-hd];exact h.fact hold)
    ·cases hk
   ·cases hs
  ·cases hs
 ·split at hs
  ·rename_i r0 hv;split at hs
   ·rename_i U;obtain⟨hk,D⟩:=HB h hs;refine⟨λi=>?_,λi=>skip i hk⟩;have l:=F7 h hch i;refine Hz h l hC hv (D l) K Q λv X' F' S w' V x u E hold=>?_;have G:=E U;rw[G]at x u;rw[hd];exact hK w' _ X' _ _ hk (x.put hdn.1 hdn.2 λ_=>⟨j,λ_=>u,λc=>absurd i c⟩) (by rw[<-hd];exact⟨V,hold.1,hold.2.any,_,rfl⟩)
   ·cases hs
  ·cases hs
def Ed(hC:C.ok P g)(h:R n W0 w X F [] s a){k:St->Option ρ}{r:ρ}(hs:UK C n ops o s k=K1 r)
  (hK:∀w' a' X' F' s',k s'=K1 r->R n W0 w' X' F' [] s' a'->TQ W0.gh C o X X' s a a' w w'->K a' w'):ite (Li o (yielded ops a.tmps)) (o.wp P a w K Q) (K (a.put o.dst undef) w):=by
 unfold UK at hs;split at hs
 ·rename_i I;rw[if_pos (by simp[Li,I])];split at hs
  ·rename_i e x v y;split at hs
   ·rename_i p;split at hs
    ·rename_i s' J;exact Z6m h hC.τ y p J λw' F' A D=>hK w' a X F' s' hs A ⟨λ_ h=>h,λZ=>(by rw[y]at Z;cases Z),D,undef,by rw[p];rfl⟩
    ·cases hs
   ·cases hs
  ·rename_i fo xs ad y;split at hs
   ·rename_i f hf;exact Qcz hC.Γ h dG (XB h dG hf) y hs λv w' F' s' hk A hold=>hK w' _ X F' s' hk A (h.fact hold)
   ·split at hs
    ·rename_i c hc;exact Qcy hC.Γ h dG hc y hs λv w' F' s' hk A hold=>hK w' _ X F' s' hk A (h.fact hold)
    ·cases hs
  ·rename_i f c cs y;split at hs
   ·split at hs
    ·rename_i l d z p;split at hs
     ·rename_i i;simp only[pC,Lo]at i;obtain⟨L,M⟩:=Id h z;unfold Lm;simp only[execOp,y,My,Lr];rw[p];refine hK w _ X _ _ hs ((by simpa using h:R n W0 w X F ([]++[]) s a).put i.1 i.2 (t:=.cl f l) ⟨rfl,(c::cs).map a.eval,Ac,L,M⟩) (by rw[<-p];exact h.fact (H6.refl w))
     ·cases hs
    ·cases hs
   ·split at hs
    ·rename_i U s' d N z p;split at hs
     ·rename_i i;simp only[pC,Lo]at i;obtain⟨X',F',L,M,g3⟩:=MB (hC.soft.trans N) h z;unfold Lm;simp only[execOp,y,My,Lr];rw[p];refine hK w _ X' _ _ hs ((by simpa using L:R n W0 w X' F' ([]++[]) s' a).put i.1 i.2 (t:=.val (.clo f U.1) (.u K4) U.2) ⟨[.func (.func f) #[] (List.map a.eval (c::cs)).toArray],by simp[Kx],by unfold TZ;exact⟨rfl,_,rfl,g3⟩⟩) (by rw[<-p];exact⟨M,λ_=>H6.refl w,h.kept (H6.refl w),_,rfl⟩)
     ·cases hs
    ·cases hs
  ·rename_i q y;split at hs
   ·rename_i d hq p;split at hs
    ·rename_i i;have O:Lj q 1048576=true:=Af
     simp only[pC,Lo]at i;obtain⟨F',G⟩:=h.tupTo hq i.1.1 i.1.2;rw[Kz W0 a O]at G;unfold Lm;simp only[execOp,y,L8,Lr];rw[p];exact hK w _ X F' _ hs G (by rw[<-p];exact h.fact (H6.refl w))
    ·cases hs
   ·split at hs
    ·rename_i r0 d hv p;split at hs
     ·rename_i i;simp only[pC,Lo]at i;rw[HV]at hs;refine(UR h dG y hv).sound h hs.1 K Q λv X' F' S w' V A E _ hold=>?_;rw[p];exact hK w' _ X' _ _ hs.2 (A.put i.1 i.2 E) (by rw[<-p];exact⟨V,hold.1,hold.2.any,_,rfl⟩)
     ·cases hs
    ·cases hs
  ·split at hs
   ·rename_i r0 d hv p;split at hs
    ·rename_i i;simp only[pC,Lo]at i;rw[HV]at hs;refine Hz h dG hC hv hs.1 K Q λv X' F' S w' V A E _ hold=>?_;rw[p];exact hK w' _ X' _ _ hs.2 (A.put i.1 i.2 E) (by rw[<-p];exact⟨V,hold.1,hold.2.any,_,rfl⟩)
    ·cases hs
   ·cases hs
 ·rename_i j b I;split at hs
  ·rename_i g d hj p;split at hs
   ·rename_i tg W i;have H:Lj g 1048576=true:=Af
    simp only[pC,Lo]at i;have ar:=Qli (Q:=Q) hC h p W i.1 hs hK;by_cases hb:Xj W0.gh a (.m g)=.bool b
    ·have ab:g<a.tmps.size:=by
      have B:a.tmps.getD g undef=.bool b:=(Kz W0 a H).symm.trans hb;rcases L0 g a.tmps.size with h'|h'
      ·exact h'
      ·rw[Array.getD_eq_getD_getElem?,Array.getElem?_eq_none h']at B;cases B
     have Y:Li o (yielded ops a.tmps)=true:=by
      have B:a.tmps[g]? =K1 (.bool b):=by
       have B:a.tmps.getD g undef=.bool b:=(Kz W0 a H).symm.trans hb;simp_all
      simp_all[Li,yielded]
     simp_all
    ·have Y:¬Li o (yielded ops a.tmps)=true:=by
      intro Y;simp only[Li,I,yielded,hj,pA,beq_iff_eq]at Y
      grind[Xj,zD]
     simp_all
   ·cases hs
  ·cases hs
def qv:Ty->Nat|.pair a b=>max (qv a+1) (qv b)|.arr _ t=>qv t+1|_=>1
def RO(P:Lh):Ty->Ld->List Field->Nat->Bool->Bool
 |.int _,e,_,_,K3=>match P.underlying e with|some (.int _)=>Of P e (.int .i64)|_=>K4
 |.bool,e,_,_,K3=>match P.underlying e with|some .bool=>Of P e .bool|_=>K4
 |.str,e,_,_,K3=>match P.underlying e with|some .string=>Of P e .str|_=>K4
 |.unit,e,_,_,K3=>match P.underlying e with|some (.struct fs)=>fs.toList.isEmpty&& !P.stoodInHeld e&&Of P e .unit|_=>K4
 |.pair a b,e,_,_,K3=>match P.underlying e with
  |some (.struct fs)=>match fs.toList with
   | f :: r => !P.stoodInHeld e && Of P e (.pair a b) && f.name != "_" && Lf f.offset 0 && RO P a f.type [] 0 K3 && RO P b 0 r a.size K4
   |[]=>K4
  |_=>K4
 |.arr n t,e,_,_,K3=>match P.underlying e with
  |some (.array m e2)=>Lf m n&&Of P e (.arr n t)&&RO P t e2 [] 0 K3
  |_=>K4
 |.unit,_,fs,_,K4=>fs.isEmpty
 |.pair a b,_,fs,off,K4=>match fs with
  | f :: r => f.name != "_" && Lf f.offset off && RO P a f.type [] 0 K3 && RO P b 0 r (off + a.size) K4
  |[]=>K4
 |_,_,_,_,_=>K4
def h9{T:Ty}{e:Ld}(h:RO P T e fs off K3=K3):∃i,P.info? e=K1 i/\i.size=T.size:=by
 have a:∀U:Ty,U.size=T.size->Of P e U=K3-> ∃i,P.info? e=K1 i/\i.size=T.size:=λU b c=>by
  grind[yy]
 cases T<;>simp only[RO]at h
 case int k=>split at h<;>first|exact a _ rfl h|cases h
 all_goals grind
def Qrz{T:Ty}{e:Ld}(h:RO P T e fs off K3=K3)(w:Le):(L3 e).run P w=.ok T.isAgg w:=by
 cases T<;>simp only[RO]at h
 case int k=>split at h<;>first|(rename_i c;simp[L3,run_underlying c,Ty.isAgg])|cases h
 case bool=>split at h<;>first|(rename_i c;simp[L3,run_underlying c,Ty.isAgg])|cases h
 case str=>split at h<;>first|(rename_i c;simp[L3,run_underlying c,Ty.isAgg])|cases h
 case unit=>split at h<;>first|(rename_i c;simp[L3,run_underlying c,Ty.isAgg])|cases h
 case pair a b=>split at h<;>first|(rename_i c;simp[L3,run_underlying c,Ty.isAgg])|cases h
 case arr n t=>split at h<;>first|(rename_i c;simp[L3,run_underlying c,Ty.isAgg])|cases h
 all_goals simp_all
def Qgf{T:Ty}{e:Ld}(h:RO P T e fs off K3=K3)(w:Le):(Mx e).run P w=.ok T.size w:=by obtain⟨i,a,b⟩:=h9 h;simp_all[Mx,typeInfo]
def Ru{T:Ty}{e:Ld}{off':Nat}(h:RO P T e fs off' K3=K3)(w:Le){xs:Array La}{pre u post:List La}(hx:xs.toList=pre++(u++post))(ho:pre.length=off)(hu:u.length=T.size):
  (part e xs off).run P w=.ok (Kx T u) w:=by
 unfold part;simp only[Lt,Qrz h w,Lq];cases ha:T.isAgg
 ·have b:=Dz ha;rw[b]at hu;obtain⟨v,rfl⟩:=Mm.1 hu;have:xs[off]? =K1 v:=by
   rw[<-Array.getElem?_toList,hx,<-ho];simp
  have a:Kx T [v]=v:=by cases T<;>simp[Ty.isAgg]at ha<;>rfl
  simp[this,a]
 ·simp only[if_true,Lt,Qgf h w,Lq,L8];have c:xs.extract off (off+T.size)=u.toArray:=by
   grind[Array.toList_extract]
  have a:Kx T u=.agg u.toArray:=by cases T<;>simp[Ty.isAgg]at ha<;>rfl
  rw[c,a]
def Cs{X Y:Nat->Prop}{B:Nat}{w2 w3:Le}:∀(T:Ty),
  (∀(e:Ld)(fs:List Field)(off d:Nat)(w:Le)(x y:T.den)(u v:List La),RO P T e fs off K3=K3->qv T<=d+1->rd w2 X B K4 T x u []->rd w3 Y B K4 T y v []->
   (L7 (d+1) e (Kx T u) (Kx T v)).run P w=.ok (A7 T x y) w)/\
  (∀(e:Ld)(fs:List Field)(off d:Nat)(w:Le)(x y:T.den)(u v pu pv:List La),RO P T e fs off K4=K3->qv T<=d+1->rd w2 X B K4 T x u []->rd w3 Y B K4 T y v []->pu.length=off->pv.length=off->
   (M6 d (pu++u).toArray (pv++v).toArray fs).run P w=.ok (A7 T x y) w)
 |.int k=>by
   refine⟨λe fs off d w x y u v h _ hx c=>?_,λe fs off d w x y u v pu pv h=>by simp[RO]at h⟩;simp only[RO]at h;split at h
   ·rename_i k' g;rw[hx.1,c.1];exact run_equalIn_int w d e k k' x y g
   ·cases h
 |.bool=>by
   refine⟨λe fs off d w x y u v h _ hx c=>?_,λe fs off d w x y u v pu pv h=>by simp[RO]at h⟩;simp only[RO]at h;split at h
   ·rename_i g;rw[hx.1,c.1];exact run_equalIn_bool' w d e x y g
   ·cases h
 |.str=>by
   refine⟨λe fs off d w x y u v h _ hx c=>?_,λe fs off d w x y u v pu pv h=>by simp[RO]at h⟩;simp only[RO]at h;split at h
   ·rename_i g;rw[hx.1,c.1];have:=run_equalIn_string w d e ⟨⟨x⟩⟩ ⟨⟨y⟩⟩ g;rw[M9,M9]at this;exact this
   ·cases h
 |.unit=>by
   refine⟨λe fs off d w x y u v h _ hx c=>?_,λe fs off d w x y u v pu pv h _ hx c _ _=>?_⟩
   ·simp only[RO]at h;split at h
    ·rename_i fs g;simp only[pC,Lw]at h;have G:P.fieldsOf e=fs:=by simp_all[Np]
     rw[hx.1,c.1];show(L7 (d+1) e (.agg #[]) (.agg #[])).run P w=_;rw[run_equalIn_struct w d e #[] #[] (by rw[G];exact g) h.1.2,G];have:fs.toList=[]:=by simpa using h.1.1
     rw[this];rfl
    ·cases h
   ·have:fs=[]:=by simp_all[RO]
    rw[this];rfl
 |.pair a b=>by
   have q : ∀ (f : Field) (r : List Field) (off d : Nat) (w : Le) (x y : (Ty.pair a b).den) (u v pu pv : List La), f.name ≠ "_" -> f.offset = off -> RO P a f.type [] 0 K3 = K3 -> RO P b 0 r (off + a.size) K4 = K3 ->
     qv (.pair a b)<=d+1->rd w2 X B K4 (.pair a b) x u []->rd w3 Y B K4 (.pair a b) y v []->pu.length=off->pv.length=off->
     (M6 d (pu++u).toArray (pv++v).toArray (f::r)).run P w=.ok (A7 (.pair a b) x y) w:=by
    intro f r off d w x y u v pu pv H h2 p O C hx c s z;obtain⟨u1,u2,S1,S2,rfl,I,j,D⟩:=hx;obtain⟨E,J,T1,T2,rfl,K,o,F⟩:=c;have I:=Mg.1 I.symm;have K:=Mg.1 K.symm;obtain⟨rfl,rfl⟩:=I;obtain⟨rfl,rfl⟩:=K;simp only[qv]at C;have ab:qv a+1<=d+1:=Ls (Nat.le_max_left _ _) C;have Q:qv b<=d+1:=Ls (Nat.le_max_right _ _) C;cases d with
    |zero=>
     have:1<=qv a:=by cases a<;>simp[qv];omega
     omega
    |succ d=>
     simp only[M6,H,ne_eq,not_false_eq_true,if_true,Lt,h2];rw[Ru p w (u:=u1) (pre:=pu) (post:=u2) Ac s (Jm j)];simp only[Lq];rw[Ru p w (u:=E) (pre:=pv) (post:=J) Ac z (Jm o)];simp only[Lq];rw[(Cs a).1 f.type [] 0 d w x.1 y.1 u1 E p Aa j o];simp only[Lq];cases he:A7 a x.1 y.1
     ·simp[A7,he]
     ·have:=(Cs b).2 0 r (off+a.size) (d+1) w x.2 y.2 u2 J (pu++u1) (pv++E) O Q D F Aw Aw
      grind[A7]
   refine⟨λe fs off d w x y u v h C hx c=>?_,λe fs off d w x y u v pu pv h C hx c s z=>?_⟩
   ·simp only[RO]at h;split at h
    ·rename_i fs g;split at h
     ·rename_i f r S;simp only[pC,Lw,bne_iff_ne,ne_eq]at h;obtain⟨⟨⟨⟨⟨H,_⟩,p⟩,O⟩,h5⟩,h6⟩:=h;have G:P.fieldsOf e=fs:=by simp_all[Np]
      show(L7 (d+1) e (.agg u.toArray) (.agg v.toArray)).run P w=_;rw[run_equalIn_struct w d e u.toArray v.toArray (by rw[G];exact g) H,G,S];exact q f r 0 d w x y u v [] [] p (pD O) h5 (by simpa using h6) C hx c rfl rfl
     ·cases h
    ·cases h
   ·simp only[RO]at h;split at h
    ·rename_i f r;simp only[pC,bne_iff_ne,ne_eq]at h
     grind[pD]
    ·cases h
 |.arr n t=>by
   refine⟨λe fs off d w x y u v h C hx c=>?_,λe fs off d w x y u v pu pv h=>by simp[RO]at h⟩;simp only[RO]at h;split at h
   ·rename_i m U g;simp only[pC]at h;obtain⟨⟨H,_⟩,p⟩:=h;have:=pD H;subst this;obtain⟨i,hi,hs⟩:=h9 p;have hc:P.cellsOf U=t.size:=by grind[Lh.cellsOf]
    show(L7 (d+1) e (.agg u.toArray) (.agg v.toArray)).run P w=_;rw[run_equalIn_array w d u.toArray v.toArray g hi,hc];cases d with
    |zero=>
     have:1<=qv t:=by cases t<;>simp[qv];omega
     simp_all[qv]
    |succ d=>
     simp only[qv]at C;have V:∀(l A:List t.den)(k:Nat)(pu pv L M:List La),l.length=A.length->pu.length=k*t.size->pv.length=k*t.size->dY (rd w2 X B K4 t) l L []->dY (rd w3 Y B K4 t) A M []->
       (Op.eqItems (d+1) U t.size (pu++L).toArray (pv++M).toArray (List.range' k l.length)).run P w=.ok (Pv (A7 t) l A) w:=by
      intro l
      induction l with
      |nil=>intro A k pu pv L M N _ _ _ _;cases A with
       |nil=>rfl
       |cons=>simp at N
      |cons a l ih=>
       intro A k pu pv L M N s z W Z;cases A with
       |nil=>simp at N
       |cons b A=>
        obtain⟨u1,u2,S1,S2,rfl,I,j,D⟩:=W;obtain⟨E,J,T1,T2,rfl,K,o,F⟩:=Z;obtain⟨rfl,rfl⟩:=Mg.1 I.symm;obtain⟨rfl,rfl⟩:=Mg.1 K.symm;simp only[Nh,List.range'_succ,Op.eqItems,Lt];rw[Ru p w (u:=u1) (pre:=pu) (post:=u2) Ac s (Jm j)];simp only[Lq];rw[Ru p w (u:=E) (pre:=pv) (post:=J) Ac z (Jm o)];simp only[Lq];rw[(Cs t).1 U [] 0 d w a b u1 E p Aa j o];simp only[Lq];cases he:A7 t a b
        ·simp[Pv,he]
        ·have:=ih A (k+1) (pu++u1) (pv++E) u2 J (by simpa using N) Aw Aw D F;simp only[Mf]at this;simp[Pv,he,this]
     have:=V x y 0 [] [] u v (by rw[hx.1,c.1]) Ac Ac hx.2 c.2;rw[hx.1]at this;rw[List.range_eq_range'];exact this
   ·cases h
 |.slice _ _=>⟨λe fs off d w x y u v h=>by simp[RO]at h,λe fs off d w x y u v pu pv h=>by simp[RO]at h⟩
 |.fnc _=>⟨λe fs off d w x y u v h=>by simp[RO]at h,λe fs off d w x y u v pu pv h=>by simp[RO]at h⟩
 |.err=>⟨λe fs off d w x y u v h=>by simp[RO]at h,λe fs off d w x y u v pu pv h=>by simp[RO]at h⟩
 |.hid _=>⟨λe fs off d w x y u v h=>by simp[RO]at h,λe fs off d w x y u v pu pv h=>by simp[RO]at h⟩
 |.sptr .. =>⟨λe fs off d w x y u v h=>by simp[RO]at h,λe fs off d w x y u v pu pv h=>by simp[RO]at h⟩
 |.clo .. =>⟨λe fs off d w x y u v h=>by simp[RO]at h,λe fs off d w x y u v pu pv h=>by simp[RO]at h⟩
def II.of{e:Ld}{T:Ty}(h1:RO P T e [] 0 K3=K3)(h2:P.eqGuardType P.depth e=K4)(h3:T.isAgg=K3)(h4:qv T<=10000):II P e T:=by
 have b:∀u:List La,Kx T u=.agg u.toArray:=λu=>by cases T<;>simp[Ty.isAgg]at h3<;>rfl
 refine⟨λw c p q u v=>?_,λw w2 w3 X Y B x y u v hx a=>?_,λw w2 w3 X Y B x y u v hx a=>?_⟩
 ·simp_all[run_eqGuard_agg]
 ·have:=(Cs (P:=P) (X:=X) (Y:=Y) (B:=B) (w2:=w2) (w3:=w3) T).1 e [] 0 9999 w x y u v h1 Aa hx a;simp_all[run_eql_struct]
 ·have:=(Cs (P:=P) (X:=X) (Y:=Y) (B:=B) (w2:=w2) (w3:=w3) T).1 e [] 0 9999 w x y u v h1 Aa hx a;simp_all[run_neq_struct]
inductive KT(s s':St):Tm->Tm->Prop where
 |pR (t):KT s s' t .pR
 |tup:KT s s' .tup .tup
 |val {T f g x}:(f=g\/cQ T f g=K3)->KT s s' (.val T f x) (.val T g x)
 |box {e T f g x}:(f=g\/cQ T f g=K3)->KT s s' (.box e T f x) (.box e T g x)
 |shp {T x}:KT s s' (.shp T x) (.shp T x)
 |ptr {r p}:(∃e T f x,s'.get (.m r)=.box e T f x)->KT s s' (.ptr r p) (.ptr r p)
 |aep {r p i}:(∃e T f x,s'.get (.m r)=.box e T f x)->KT s s' (.aep r p i) (.aep r p i)
 |pls {h l}:(∀q∈l,∃e T f x,s'.get (.m q.1)=.box e T f x)->KT s s' (.pls h l) (.pls h l)
 |bor {r p}:s.bad r p=K4->s'.get (.m r)≠ .pR->KT s s' (.bor r p) (.bor r p)
 |elp {r p i q}:s.bad r p=K4->s'.get (.m r)≠ .pR->KT s s' (.elp r p i q) (.elp r p i q)
 |bel {r p i q}:s.bad r p=K4->s.pN (vd r)=K4->s'.get (.m r)≠ .pR->KT s s' (.bel r p i q) (.bel r p i q)
 |cl {f l}:(∀q∈l,∃e T f x,s'.get (.m q)=.box e T f x)->KT s s' (.cl f l) (.cl f l)
variable {s':St}
def R.weak(h:R n W0 w X F H s a)(hk:∀k,KT s s' (s.get k) (s'.get k))(hc:∀d i,s'.get (.c d i)≠ .pR->s'.get (.m d)=.tup)
  (hl:∀p,p∈W0.fix->p.1∈s'.pQ):∃F',R n W0 w X F' H s' a:=by
 classical
 let F':Bk->List Nat:=λk=>ite (s'.get k=.pR) [] (F k)
 have I:∀k b,b∈F' k->b∈F k:=λk b O=>Ai
 have D:∀{k},s'.get k≠ .pR->F' k=F k:=λhk=>by simp[F',hk]
 have L:∀{r p v U},s'.get (.m r)≠ .pR->Yl W0.gh w s F a r p v U->Yl W0.gh w s' F' a r p v U:=by
  intro r p v U z hv;have g:=hk (.m r);unfold Yl at hv⊢;split at hv
  ·rename_i T f x V;rw[V]at g;generalize W:s'.get (.m r)=t at g z;cases g with
   |pR=>simp_all
   |val C=>exact hv
  ·rename_i e T f x V;rw[V]at g;have:=D z;generalize W:s'.get (.m r)=t at g z;cases g with
   |pR=>simp_all
   |box C=>
    simp_all
  ·exact hv.elim
 refine⟨F',{h with fix:=λp hp=>⟨hl p hp,(h.fix p hp).2⟩,own:=λk b O=>h.own k b (I k b O),nodup:=λk=>?_,pS:=λk k' b O Y=>h.pS k k' b (I k b O) (I k' b Y),pL:=λk b O=>h.pL k b (I k b O),pM:=λd i z=>?_,slots:=λk=>?_}⟩
 ·simp only[F'];split
  ·simp
  ·exact h.nodup k
 ·refine⟨hc d i z,(h.pM d i λZ=>?_).2⟩;have:=hk (.c d i);rw[Z]at this;generalize W:s'.get (.c d i)=t at this z;cases this;exact z rfl
 ·have C:=h.slots k;have M:=hk k;by_cases z:s'.get k=.pR
  ·rw[z];simp only[F',z,if_true];rfl
  ·rw[D z];generalize ab:s'.get k=t' at M z;generalize W:s.get k=t at M C;cases M with
   |pR=>simp_all
   |tup=>exact C
   |val A=>obtain⟨vs,B,E⟩:=C;exact⟨vs,B,vh A E⟩
   |box A=>obtain⟨b,c,J,B,E,K,h4⟩:=C;exact⟨b,c,J,B,E,K,vh A h4⟩
   |shp=>exact C
   | @ptr r p o=>
    obtain⟨e',T',g',x',o⟩:=o;obtain⟨G,e,T,f,x,b,J,B,E,K⟩:=C;have g:=hk (.m r);rw[B,o]at g;have:=D (k:=.m r) (by rw[o];simp);cases g with
    |box A=>exact⟨G,_,_,_,_,b,J,o,Af,K⟩
   | @aep r p i o=>
    obtain⟨e',T',g',x',o⟩:=o;obtain⟨G,e,T,f,x,b,J,nn,t2,y,B,E,K⟩:=C;have g:=hk (.m r);rw[B,o]at g;have:=D (k:=.m r) (by rw[o];simp);cases g with
    |box A=>exact⟨G,_,_,_,_,b,J,nn,t2,y,o,Af,K⟩
   | @pls hh l o=>
    obtain⟨G,P,us,B,E,K,h4,h5⟩:=C;refine⟨G,P,us,B,E,K,λj q Q=>?_,h5⟩;obtain⟨u,hu,e,T,f,x,b,J,g1,g2,g3⟩:=h4 j q Q;obtain⟨e',T',g',x',o⟩:=o q (Mi Q);have g:=hk (.m q.1);rw[g1,o]at g;have:=D (k:=.m q.1) (by rw[o];simp);cases g with
    |box A=>exact⟨u,hu,_,_,_,_,b,J,o,Af,g3⟩
   |bor S o=>
    obtain⟨G,B⟩:=C;obtain⟨U,B⟩:=B S;exact⟨G,λ_=>⟨U,L o B⟩⟩
   |elp S o=>
    obtain⟨G,B⟩:=C;obtain⟨e,t,P,m,N,B,E⟩:=B S;exact⟨G,λ_=>⟨e,t,P,m,N,L o B,E⟩⟩
   |bel S Z o=>
    obtain⟨G,B⟩:=C;obtain⟨e,t,P,m,N,x0,y,cs,B,k1,k2,k3,E⟩:=B S Z;exact⟨G,λ_ _=>⟨e,t,P,m,N,x0,y,cs,L o B,k1,k2,Af,E⟩⟩
   | @cl f l o=>
    obtain⟨G,us,B,E,K⟩:=C;refine⟨G,us,B,E,λj q Q=>?_⟩;obtain⟨u,hu,e,T,f,x,b,J,g1,g2,g3⟩:=K j q Q;obtain⟨e',T',g',x',o⟩:=o q (Mi Q);have g:=hk (.m q);rw[g1,o]at g;have:=D (k:=.m q) (by rw[o];simp);cases g with
    |box A=>exact⟨u,hu,_,_,_,_,b,J,o,Af,g3⟩
def vZ(s:St):Tm->Tm
 |.bor r p=>match s.bad r p with|true=>.pR|false=>.bor r p
 |.elp r p i q=>match s.bad r p with|true=>.pR|false=>.elp r p i q
 |.bel r p i q=>match s.bad r p||s.pN (vd r)with|true=>.pR|false=>.bel r p i q
 |.gd _ _ _=>.pR
 |t=>t
def US(s:St):List (Bk×Tm)->List (Bk×Tm)|[]=>[]|(k,t)::r=>(k,vZ s t)::US s r
def Zzn(s:St):St:={env:=US s s.env,pP:=[],pQ:=s.pQ}
def Ew(s:St)(k:Bk):∀l,oq (US s l) k=vZ s (oq l k)
 |[]=>rfl
 |(j,t)::r=>by
  simp only[US,Ql,Ew s k r];split<;>rfl
def R.clean(h:R n W0 w X F H s a):∃F',R n W0 w X F' H (Zzn s) a:=by
 have A:∀k,(Go.Am.Zzn s).get k=vZ s (s.get k):=λk=>Ew s k s.env;have c:∀{r p v U},Yl W0.gh w s F a r p v U->(Go.Am.Zzn s).get (.m r)≠ .pR:=by
  grind[Yl,vZ]
 refine h.weak (λk=>?_) (λd i z=>?_) (λp K=>(h.fix p K).1)
 ·rw[A];have g:=h.slots k;cases ht:s.get k with
  |pR=>exact .pR _
  |tup=>exact .tup
  |val=>exact .val (.inl rfl)
  |box=>exact .box (.inl rfl)
  |shp=>exact .shp
  |ptr r p=>
   rw[ht]at g;obtain⟨C,e,T,f,x,b,D,o,E,B⟩:=g;exact .ptr ⟨e,T,f,x,by rw[A,o];rfl⟩
  |aep r p i=>
   rw[ht]at g;obtain⟨C,e,T,f,x,b,D,n,S,y,o,E,B⟩:=g;exact .aep ⟨e,T,f,x,by rw[A,o];rfl⟩
  |pls V l=>
   rw[ht]at g;obtain⟨C,W,L,o,E,B,M,Y⟩:=g;refine .pls λq G=>?_;obtain⟨j,I⟩:=Ng G;obtain⟨u,N,e,T,f,x,b,D,J,O,P⟩:=M j q I;exact⟨e,T,f,x,by rw[A,J];rfl⟩
  |bor r p=>
   rw[ht]at g;simp only[vZ];split
   ·exact .pR _
   ·rename_i t;obtain⟨U,o⟩:=g.2 t;exact .bor t (c o)
  |elp r p i q=>
   rw[ht]at g;simp only[vZ];split
   ·exact .pR _
   ·rename_i t;obtain⟨_,_,_,_,_,o,_⟩:=g.2 t;exact .elp t (c o)
  |bel r p i q=>
   rw[ht]at g;simp only[vZ];split
   ·exact .pR _
   ·rename_i t;simp only[Bool.or_eq_false_iff]at t;obtain⟨_,_,_,_,_,_,_,_,o,_⟩:=g.2 t.1 t.2;exact .bel t.1 t.2 (c o)
  |cl f l=>
   rw[ht]at g;obtain⟨C,L,o,E,B⟩:=g;refine .cl λq G=>?_;obtain⟨j,I⟩:=Ng G;obtain⟨u,N,e,T,f,x,b,D,J,O,P⟩:=B j q I;exact⟨e,T,f,x,by rw[A,J];rfl⟩
  |gd=>exact .pR _
 ·rw[A]at z⊢;have:=(h.pM d i λQ=>by rw[Q]at z;exact z rfl).1;rw[this];rfl
theorem Z23(h:R n W0 w X F H s a)(ht:tg.ok W0.gh a){x:Lc}(ho:o.op=.assign x){r:Oe}(hr:HY τ s tg o.type x=K1 r)(hm:r.moved=K4):dP P τ W0 w X F s a o r:=by
 unfold HY at hr;have e:∀{k t u},Gj s tg x=.tm k t->FW s (.tm k t)=K1 u->u.moved=K4->dP P τ W0 w X F s a o ⟨.val u.T u.f u.x,u.s,u.moved,K2⟩:=by
  intro k t u hx g hm;rw[<-hx]at g;obtain⟨p,S,i,b,c,q,j,_⟩:=GZ h ht g;obtain⟨l,y,m⟩:=j hm;subst m;exact K0 l λ_=>⟨_,λd _=>by simp[execOp,ho],i,b,c⟩
 split at hr
 ·rename_i v hv;obtain rfl:=B3 hv;obtain⟨b,c⟩:=B0 (w:=w) (X:=X) (B:=W0.B) (s:=s) (F:=F) (a:=a) hr;exact K0 b λ_=>⟨_,λd _=>by simp[execOp,ho,Mu],c⟩
 ·rename_i f hv;obtain rfl:=RK hv;simp only[pB]at hr;subst hr;exact K0 rfl λ_=>⟨_,λd _=>by simp[execOp,ho,Mu],gX f⟩
 ·rename_i k t hx;split at hr
  ·grind
  ·grind
  ·obtain⟨b,c⟩:=WP h ht hx hr;exact K0 b λ_=>⟨_,λd _=>by simp[execOp,ho],c⟩
 ·cases hr
def Ho(C:DL)(s:St)(tg:Y7)(o:Lb):Option Oe:=
 match o.op with
 |.move x=>GP C.τ s tg o.type x
 |.assign x=>match HY C.τ s tg o.type x with
  |some r=>match r.moved with|false=>K1 r|true=>K2
  |none=>K2
 |.pick c x y=>Fk C.τ s tg o.type c x y
 |.load e x=>p9 C.τ s tg e x
 |.binOp op e x y e2=>match C.τ e with
  |some (.pair _ _)|some (.arr _ _)=>WB C s tg op e x y
  |_=>Cn C.τ s tg op e x y e2
 |.unOp op e x=>l7 C.τ s tg op e x
 |.convert e e2 x=>CS C.τ s tg e e2 x
 |.nilCheck x=>IB s tg x
 |.fieldAddr e x i=>FN C.τ s tg e x i
 |.indexAddr e x i=>LA C.τ s tg e x i
 |.index e x i=>BF C.τ s tg e x i
 |.call {callee:=.builtin .len,args:=⟨[x]⟩,argTypes:=⟨[e]⟩}=>wV C.τ s tg e x
 |.call {callee:=.builtin .min,args:=⟨[x,y]⟩,argTypes:=⟨[e,_]⟩}=>PH s tg e C.τ x y K4
 |.call {callee:=.builtin .max,args:=⟨[x,y]⟩,argTypes:=⟨[e,_]⟩}=>PH s tg e C.τ x y K3
 |_=>K2
def GE(h:R n W0 w X F H s a)(ht:tg.ok W0.gh a)(hC:C.ok P g){r:Oe}(hr:Ho C s tg o=K1 r):dP P C.τ W0 w X F s a o r:=by
 unfold Ho at hr;split at hr
 ·grind[UR]
 ·grind[Z23]
 ·grind[O0]
 ·rename_i b;exact AC h ht hC.τ b hr
 ·rename_i b;split at hr
  ·grind[Rb]
  ·grind[Rb]
  ·exact Ez h ht hC.τ b hr
 ·grind[CO]
 ·rename_i b;exact ET h ht hC.τ b hr
 ·grind[B5]
 ·rename_i b;exact Ui h ht hC.τ b hr
 ·rename_i b;exact FP h ht hC.τ b hr
 ·rename_i b;exact OR h ht hC.τ b hr
 ·rename_i b;exact P9 h ht hC.τ b hr
 ·rename_i b;exact U5 h ht (mx:=K4) b hr
 ·rename_i b;exact U5 h ht (mx:=K3) b hr
 ·cases hr
def Hr{ρ:Type}(C:DL)(n:Nat)(ops:Array Lb)(o:Lb)(s:St)(k:St->Option ρ):Option ρ:=
 match o.guard with
 |none=>match Ho C s [] o,o.dst with
  |some r,K1 d=>match aX s d&&Lj d n with
   |true=>F8 r.obl (k (Jt s d r.t))
   |false=>K2
  |_,_=>K2
 |some (j,b)=>match(ops[j]?).bind (·.dst),o.dst with
  |some g,K1 d=>match CW s 8 g b,aX s d&&Lj d n&&Lj g 1048576 with
   |some tg,K3=>match Ho C s tg o with
    |some r=>SM s tg r.obl (k (Jt s d (.gd g b r.t)))
    |none=>K2
   |_,_=>K2
  |_,_=>K2
variable {ops:Array Lb}
def QF:Exit->Act->Le->Prop:=λ_ _ _=>False
def Q1l{o:Lb}{a:Act}{w:Le}(h:o.wp P a w K QF):o.wp P a w K Q:=by
 unfold Lm at*
 generalize (execOp a.eval o).run P w=r at*
 cases r with
 |ok n d=>
  cases n<;>simp only[Lr]at h⊢ <;>first
   |exact h
   |(
    refine Calls.mono h λe f b=>?_;cases e with
    |returned v=>exact b
    |panicked c=>exact b.elim
    |outgrown=>obtain⟨_,_,h⟩:=b;exact h.elim)
 |halt x d=>cases x<;>simp only[Lr]at h⊢ <;>exact h.elim
def xn(P:Lh)(ops:Array Lb)(I:Le->Prop)(o:Lb)(v:La)(a:Act):Prop:=(Li o (yielded ops a.tmps)=K3/\ ∀w,I w->(execOp a.eval o).run P w=.ok (.value v) w)\/(Li o (yielded ops a.tmps)=K4/\v=undef)
def xn.same{o:Lb}{v:La}{a:Act}(hy:xn P ops I o v a)(he:execOp a'.eval o=execOp a.eval o)
  (hw:Li o (yielded ops a'.tmps)=Li o (yielded ops a.tmps)):xn P ops I o v a':=by
 simp_all[xn]
def xn.go{o:Lb}{v:La}{a:Act}{w:Le}{i:Nat}(hi:ops[i]? =K1 o)(hy:xn P ops I o v a)(hI:I w)(h:K (a.put o.dst v) w):
  wpOp P ops QF i K a w:=by
 unfold wpOp;simp only[hi];rcases hy with⟨b,hv⟩|⟨b,rfl⟩
 all_goals simp_all[if_true,Lm,Lr,Bool.false_eq_true,if_false]
def Qea{v:La}(hj:ops[j]? =K1 oj)(hap:oi.apart ops oj=K3)(hsi:∀cs b,oi.op≠ .select cs b)(hsj:∀cs b,oj.op≠ .select cs b)
  {a:Act}{w:Le} (hy:xn P ops I oi v a) (h:wpOp P ops QF j K (a.put oi.dst v) w):
  wpOp P ops QF j (λa' w'=>xn P ops I oi v a'/\K (a'.put oi.dst v) w') a w:=by
 obtain⟨i,p,k⟩:=Nn hap;have g:∀a:Act,xn P ops I oi v a-> ∀u,xn P ops I oi v (a.put oj.dst u):=λa hy u=>hy.same (execOp_put oi hsi a oj.dst u k) (wanted_put oi a oj.dst u k);unfold wpOp at*
 simp only[hj]at*
 rw[wanted_put oj a oi.dst v i]at h;split
 ·rename_i m;simp only[m,if_true]at h;rcases h with h|⟨_,_,_,h⟩
  ·refine .inl ?_;unfold Lm at*
   rw[execOp_put oj hsj a oi.dst v i]at h;generalize (execOp a.eval oj).run P w=r at*
   cases r with
   |ok n w'=>
    cases n<;>simp only[Lr]at h⊢
    case value u=>grind[L9]
    case skip=>grind[L9,undef]
    case defer d=>
     refine⟨g {a with defers:=d::a.defers} (hy.same rfl rfl) _,?_⟩
     grind[L9,undef,Act.put_defers]
    case enter f args=>
     refine Calls.mono h λe o l=>?_;cases e with
     |returned u=>grind[L9]
     |panicked c=>exact l.elim
     |outgrown=>exact l
    grind[Rows.mono,L9]
   |halt x w'=>cases x<;>simp only[Lr]at h⊢ <;>exact h.elim
  ·exact h.elim
 grind[L9,undef]
def EA(C:DL):Op->Bool
 |.call {callee:=.value fo,..}=>match fo with
  |.func f=>match C.ΓB.find f with|some _=>K4|none=>K3
  |_=>match C.ΓB with|[]=>K3|_::_=>K4
 |_=>K3
def qX(C:DL)(op:Op):Bool:=D4 op&&EA C op
def RZ(C:DL)(ops:Array Lb)(i:Nat):Bool:=match ops[i]? with|some o=>qX C o.op|none=>K3
def gU(gh:Nat->La)(bx:List Nat)(Sh:Nat->Prop)(a:Act)(w w':Le):Prop:= ∀b,(Sh b\/ ∃r∈bx,Xj gh a (.m r)=.pointer (K1 ⟨b,0,K2⟩))->w'.heap[b]? =w.heap[b]?
structure CE(gh:Nat->La)(pr:Nat->Bool)(bx:Nat->List Nat)(Sh:Nat->Prop)(i:Nat)(a:Act)(w w':Le):Prop where
 pres:pr i=K3->H6 w w'
 hold:gU gh (bx i) Sh a w w'
def R9(gh:Nat->La)(ops:Array Lb)(i:Nat)(a a':Act):Prop:= ∀k,(ops[i]?).bind (·.dst)≠K1 k->Xj gh a' (.m k)=Xj gh a (.m k)
theorem qE{a:Act}{d:Option Nat}{v:La}(h:d≠K1 k):Xj gh (a.put d v) (.m k)=Xj gh a (.m k):=by
 cases d with
 |none=>rfl
 |some d=>grind[iF,Bk.t]
def Qms{i:Nat}{a:Act}{w:Le}(h:wpOp P ops QF i K a w):wpOp P ops QF i (λa' w'=>R9 gh ops i a a'/\K a' w') a w:=by
 unfold wpOp at*
 split
 ·rename_i b;simp only[b]at h;exact⟨λ_ _=>rfl,h⟩
 ·rename_i o b;have c:∀v,R9 gh ops i a (a.put o.dst v):=λv k hk=>qE Af;simp only[b]at h;split
  ·rename_i e;simp only[e,if_true]at h;rcases h with h|⟨_,_,_,h⟩
   ·refine .inl ?_;unfold Lm at*
    generalize (execOp a.eval o).run P w=r at*
    cases r with
    |ok n w'=>
     cases n<;>simp only[Lr]at h⊢
     case value u=>simp_all
     case skip=>simp_all
     case defer d=>exact⟨λk hk=>(qE (a:={a with defers:=d::a.defers}) (d:=o.dst) Af).trans rfl,h⟩
     all_goals simp_all
    |halt x w'=>cases x<;>simp only[Lr]at h⊢ <;>exact h.elim
   ·exact h.elim
  simp_all
def Di(ops:Array Lb):Nat->Nat->Nat->Bool
 |0,_,_=>K4
 |f+1,j,i=>match ops[j]? with
  |some o=>o.after.any λe=>L2 .any e&&(Lf e.on i||Di ops f e.on i)
  |none=>K4
def Cv(ops:Array Lb)(j:Nat):Bool:=(Nm ops.size).all λi=>Lf i j||Di ops ops.size j i
def qG(ops:Array Lb)(listed:Array Bool):Prop:= ∀(m:Nat)(o:Lb),ops[m]? =K1 o->listed.getD m K4=K3-> ∀e∈o.after,L2 .any e=K3->listed.getD e.on K4=K3
def Qhz{i:Nat}(h:listed.getD k K4=K3):(listed.setIfInBounds i K3).getD k K4=true:=by
 by_cases hk:i=k
 ·subst hk;have:i<listed.size:=by
   grind
  simp_all
 simp_all
def qF(h:qG ops listed){i:Nat}(hi:i∈L1 .any ops listed):qG ops (listed.setIfInBounds i K3):=by
 intro m o d b e f g;refine Qhz ?_;obtain⟨_,k,j,c⟩:=mem_ready.1 hi;by_cases a:i=m
 ·simp_all
 ·rw[getD_set_ne K4 a]at b;exact h m o d b e f g
theorem CK{listed:Array Bool}(h:qG ops listed){i:Nat}:∀{f j:Nat},Di ops f j i=K3->(∀o,ops[j]? =K1 o-> ∀e∈o.after,L2 .any e=K3->listed.getD e.on K4=K3)->listed.getD i K4=K3
 |0,_,a,_=>by cases a
 |f+1,j,a,b=>by
  simp only[Di]at a;split at a
  ·rename_i o k;rw[Array.any_eq_true']at a;obtain⟨e,l,a⟩:=a;simp only[pC,Mw]at a;have m:=b o k e l a.1;rcases a.2 with hd2|hd2
   ·grind[pD]
   ·exact CK h hd2 λn c p d g=>h e.on n c m p d g
  ·cases a
def ww(gh:Nat->La)(P:Lh)(ops:Array Lb)(Qn:Act->Le->Prop)(pr:Nat->Bool)(bx:Nat->List Nat)(Sh:Nat->Prop):Nat->Array Bool->Act->Le->Prop|0,listed,a,w=>L1 .any ops listed=[]/\Qn a w|fuel+1,listed,a,w=>(L1 .any ops listed=[]->Qn a w)/\ ∀i∈L1 .any ops listed,wpOp P ops QF i (λa' w'=>(Cv ops i=K3\/CE gh pr bx Sh i a w w')/\ww gh P ops Qn pr bx Sh fuel (listed.setIfInBounds i K3) a' w') a w
def BN{Qn:Act->Le->Prop}{pr:Nat->Bool}{bx:Nat->List Nat}{Sh Sh':Nat->Prop}(hs:∀b,Sh b->Sh' b):∀(fuel:Nat)(listed:Array Bool)(a:Act)(w:Le),ww gh P ops Qn pr bx Sh' fuel listed a w->ww gh P ops Qn pr bx Sh fuel listed a w
 |0,_,_,_,h=>h
 |fuel+1,_,_,_,h=>⟨h.1,λi d=>wpOp_mono (λe f ⟨c,g⟩=>⟨c.imp id λc=>⟨c.pres,λb j=>c.hold b (j.imp (hs b) id)⟩,BN hs fuel _ e f g⟩) (h.2 i d)⟩
def IF{Qn:Act->Le->Prop}{pr:Nat->Bool}{bx:Nat->List Nat}{Sh:Nat->Prop}{Q:Exit->Act->Le->Prop}(hq:∀a w,Qn a w->Q .normal a w):∀(fuel:Nat)(listed:Array Bool)(a:Act)(w:Le),ww gh P ops Qn pr bx Sh fuel listed a w->wpAny P .any ops Q fuel listed a w
 |0,_,_,_,h=>⟨h.1,hq _ _ h.2⟩
 |fuel+1,listed,a,w,h=>⟨λc=>hq _ _ (h.1 c),λi d=>by
  have e:=h.2 i d;have b:wpOp P ops QF i (wpAny P .any ops Q fuel (listed.setIfInBounds i K3)) a w:=wpOp_mono (λf g h=>IF hq fuel _ f g h.2) e;unfold wpOp at b⊢;split
  ·simp_all
  ·rename_i o j;simp only[j]at b;split
   ·rename_i k;simp only[k,if_true]at b;rcases b with b|⟨_,_,_,b⟩
    ·simp_all[Q1l]
    ·exact b.elim
   simp_all⟩
def LG{I:Le->Prop}{J:Act->Prop}{pr:Nat->Bool}{bx:Nat->List Nat}{Sh:Nat->Prop}{i:Nat}{oi:Lb}{v:La}{Qn:Act->Le->Prop}(hi:ops[i]? =K1 oi)(hsel:∀(j:Nat)(o:Lb) cs b,ops[j]? =K1 o->o.op≠ .select cs b)
  (hdi:∀j,∀r∈bx j,oi.dst≠K1 r):
  ∀(fuel:Nat)(listed:Array Bool)(a:Act)(w:Le),qG ops listed->I w->J a->
   (∀j oj,ops[j]? =K1 oj->j≠i->listed.getD j K3=K4->(∀e∈oj.after,L2 .any e=K3->e.on≠i)->oi.apart ops oj=K3/\ ∀a a' w w',J a->I w->CE gh pr bx Sh j a w w'->R9 gh ops j a a'->I w'/\J a')->
   i∈L1 .any ops listed->xn P ops I oi v a->
   ww gh P ops Qn pr bx Sh fuel (listed.setIfInBounds i K3) (a.put oi.dst v) w->ww gh P ops Qn pr bx Sh (fuel+1) listed a w
 |0,_,_,w,_,z,q,c,M,A,H=>by
  refine⟨λh=>Af,λj s=>?_⟩;by_cases d:j=i
  ·subst d;exact A.go hi z ⟨.inr ⟨λ_=>H6.refl w,λ_ _=>rfl⟩,H⟩
  ·have:=ready_mono s d;rw[H.1]at this;cases this
 |fuel+1,listed,a,w,B,z,q,c,M,A,H=>by
  refine⟨λh=>Af,λj s=>?_⟩;by_cases d:j=i
  ·subst d;exact A.go hi z ⟨.inr ⟨λ_=>H6.refl w,λ_ _=>rfl⟩,H⟩
  ·have C:=H.2 j (ready_mono s d);obtain⟨t,oj,m,N⟩:=mem_ready.1 s;have u:∀e∈oj.after,L2 .any e=K3->e.on≠i:=λe he O V=>by
    grind[mem_ready,L0,Array.getElem?_eq_none]
   obtain⟨x,n⟩:=c j oj m d t u;obtain⟨Q,S,_⟩:=Nn x;have U:=Qea m x (λcs b=>hsel i oi cs b hi) (λcs b=>hsel j oj cs b m) A C;have f:∀k y,ops[k]? =K1 y->k≠i->(listed.setIfInBounds j K3).getD k K3=K4->(∀e∈y.after,L2 .any e=K3->e.on≠i)->
     oi.apart ops y=K3/\ ∀a a' w w',J a->I w->CE gh pr bx Sh k a w w'->R9 gh ops k a a'->I w'/\J a':=λk y hk D W E=>by
    refine c k y hk D ?_ E;by_cases X:j=k
    ·simp_all
    simp_all
   refine wpOp_mono (λa' w' ⟨p,F,g,Y⟩=>?_) (Qms (gh:=gh) U);have g:=g.resolve_left λG=>by
    unfold Cv at G;rw[Lv]at G;have Z:=G i (Nk.2 (Array.getElem?_eq_some_iff.1 hi).1);simp only[Mw]at Z
    grind[pD,CK,mem_ready,L0,Array.getD_eq_getD_getElem?,Array.getElem?_eq_none]
   have l:CE gh pr bx Sh j a w w':=⟨g.pres,λb O=>g.hold b (O.imp id λ⟨r,C,U⟩=>⟨r,C,by grind[qE]⟩)⟩
   obtain⟨K,L⟩:=n a a' w w' q z l p;refine⟨.inr l,LG hi hsel hdi fuel (listed.setIfInBounds j K3) a' w' (qF B s) K L f (ready_mono M (Lp d)) F ?_⟩
   grind[Array.setIfInBounds_comm]
theorem H6.trans{a b c:Le}(h:H6 a b)(k:H6 b c):H6 a c:=λi d=>by
 have e:i<b.heap.size:=by
  have:=h i d
  grind
 rw[k i e,h i d]
def Tp(C:DL)(ops:Array Lb)(listed:Array Bool)(any:Nat->Bool)(i:Nat):Bool:=
 (Nm ops.size).all λj=>Lf j i||listed.getD j K3||(match ops[i]?,ops[j]? with
  |some oi,K1 oj=>(oj.after.any λe=>L2 .any e&&Lf e.on i)||(oi.apart ops oj&&(any j||qX C oj.op))
  |_,_=>K4)
def Qgl{C:DL}{any:Nat->Bool}{i:Nat}(h:Tp C ops listed any i=K3)(hi:ops[i]? =K1 oi)(hj:ops[j]? =K1 oj)(hne:j≠i)(hl:listed.getD j K3=K4)
  (hno:∀e∈oj.after,L2 .any e=K3->e.on≠i):oi.apart ops oj=K3/\(any j=K3\/qX C oj.op=K3):=by
 unfold Tp at h;rw[Lv]at h;have:=h j (Nk.2 (Array.getElem?_eq_some_iff.1 hj).1);simp only[hi,hj,hl,Bool.or_false,Mw,pC]at this;rcases this with h1|h1|h1
 ·simp_all
 ·rw[Array.any_eq_true']at h1;obtain⟨e,b,a⟩:=h1;simp only[pC]at a
  grind[absurd,pD]
 omega
def Qx5(ops:Array Lb)(i:Nat):Bool:=
 match ops[i]? with
 |some o=>match o.op with
  |.move _|.assign _|.pick .. |.load .. |.binOp .. |.unOp .. |.convert .. |.nilCheck .. |.fieldAddr .. |.indexAddr .. |.index .. =>K3
  |.call {callee:=.builtin .len,..}|.call {callee:=.builtin .min,..}|.call {callee:=.builtin .max,..}=>K3
  |_=>K4
 |none=>K4
def MT(s:St)(o:Lb):Bool:=(match o.guard with|none=>K3|some _=>K4)&&(match o.op with
 |.move (.tmp q)=>match s.get (.m q)with
  |.tup=>K3
  |_=>K4
 |.extract _ _=>K3
 |_=>K4)
def Q1h(s:St)(ops:Array Lb)(i:Nat):Bool:=match ops[i]? with|some o=>MT s o|none=>K4
def Q0h(s:St)(ops:Array Lb)(i:Nat):Bool:=
 match ops[i]? with
 |some o=>match o.op with
  |.move (.tmp q)=>match s.get (.m q)with
   |.tup=>K4
   |_=>K3
  |_=>K3
 |none=>K4
def U0(τ:nR)(bx:List Nat)(s:St)(o:Lb):Bool:=match EG τ o.op with
 |false=>K3
 |true=>match zv s o.op with
  |some (K1 r)=>bx.any (Lf r)
  |some K2=>K3
  |none=>K4
def DR(s:St)(r:Nat):Bool:=match s.get (.m r)with|.box _ _ _ _=>K3|_=>K4
theorem BO{s:St}{r:Nat}(h:DR s r=K3):s.isBox r:=by
 unfold DR at h;split at h
 ·rename_i e T f x a;exact⟨e,T,f,x,a⟩
 ·cases h
def Ul(τ:nR)(s:St)(bx:List Nat)(o:Lb):Bool:=bx.all λr=>DR s r&&(match Ec τ s o with|some q=> !(Lf q r)|none=>K3)
def Dq(ops:Array Lb):Nat->Nat->Nat
 |0,k=>k
 |f+1,k=>match ops.toList.find? (λo=>match o.dst with|some d=>Lf d k|none=>K4)with
  |some o=>match o.op with
   |.fieldAddr _ (.tmp j) _=>Dq ops f j
   |.indexAddr _ (.tmp j) _=>Dq ops f j
   |.move (.tmp j)=>Dq ops f j
   |.nilCheck (.tmp j)=>Dq ops f j
   |.call {callee:=.value _,args:=xs,..}=>match xs.toList with|.tmp j::_=>Dq ops f j|_=>k
   |_=>k
  |none=>k
def DH(s:St)(ops:Array Lb):List Nat:=
 let bs:=s.env.filterMap λp=>match p.1,p.2 with
  |.m r,.box _ _ _ _=>ite (DR s r) (K1 r) K2
  |_,_=>K2
 bs.filter λr=>ops.toList.all λo=>match o.dst with|some d=> !(Lf d r)|none=>K3
def El(s:St)(ops:Array Lb)(k:Nat):Nat:=match s.get (.m (Dq ops ops.size k))with|.ptr r _=>r|.aep r _ _=>r|_=>Dq ops ops.size k
def Qyp(s:St)(ops:Array Lb)(o:Lb):List Nat:=match o.op with
 |.store _ (.tmp k) _=>[El s ops k]
 |.call {callee:=.value _,args:=xs,..}=>xs.toList.filterMap λx=>match x with|.tmp k=>K1 (El s ops k)|_=>K2
 |_=>[]
def UD(s:St)(ops:Array Lb)(j:Nat):List Nat:=
 match ops[j]? with
 |some o=>(DH s ops).filter λr=> !((Qyp s ops o).any (Lf r))
 |none=>[]
def Qnf{s:St}{ops:Array Lb}{i r:Nat}{o:Lb}(hr:r∈UD s ops i)(ho:ops[j]? =K1 o):o.dst≠K1 r:=by
 unfold UD at hr;have hr:r∈DH s ops:=by
  grind
 unfold DH at hr;have:=(List.mem_filter.1 hr).2;rw[Lv]at this;have:=this o Ai;intro e;simp_all
def ae{ρ:Type}(m1 m2:Option ρ):Option ρ:=by classical exact ite (m1=m2) m1 K2
def Qf0{m1 m2:Option ρ}{r:ρ}(h:ae m1 m2=K1 r):m1=K1 r/\m2=K1 r:=by grind[ae]
def X5(m:Option ρ):ae m m=m:=by unfold ae;rw[if_pos rfl]
def AX{ρ:Type}:List (Option ρ)->Option ρ|[]=>K2|[m]=>m|m::n::r=>ae m (AX (n::r))
theorem D0{ρ:Type}:∀{l:List (Option ρ)}{r:ρ},AX l=K1 r-> ∀m∈l,m=K1 r
 |[],r,h,m,hm=>by cases hm
 |[m],r,h,a,hm=>by simp only[Mn]at hm;subst hm;exact h
 |m::n::q,r,h,a,hm=>by
  simp only[AX]at h;obtain⟨b,c⟩:=Qf0 h;rcases L4.1 hm with rfl|hm
  ·exact b
  ·exact D0 c a hm
def Cf(C:DL)(s:St)(o:Lb):Option (Lg×Array Lc):=
 match C.soft,o.guard,o.op with
 |false,K2,.call {callee:=.value fo,args:=xs,..}=>match LD s [] fo with
  |some f=>match C.ΓB.find f with
   |some _=>K1 (f,xs)
   |none=>K2
  |none=>K2
 |_,_,_=>K2
def gV:Tm->Bool|.val .. |.ptr .. |.shp .. =>K3|_=>K4
def PZ(g:Nat)(b:Bool):List Lc->St->St
 |[],s=>s
 |.tmp k::xs,s=>match s.get (.m k)with
  |.gd g' b' t=>match Lf g' g,b'==b,s.pN g,gV t with
   |true,K3,K4,K3=>PZ g b xs (WL s k t)
   |_,_,_,_=>PZ g b xs s
  |_=>PZ g b xs s
 |_::xs,s=>PZ g b xs s
def Q19:RS->Option Ty|.vals [t]=>K1 t|.shr [t]=>K1 t|.flg [t]=>K1 t.1|_=>K2
def Ca(C:DL)(s:St)(ops:Array Lb)(o:Lb):Option (Nat×Bool×Nat×Lg×Array Lc):=
 match C.soft,o.guard,o.dst,o.op with
 |false,K1 (j,b),K1 d,.call {callee:=.value fo,args:=xs,..}=>match(ops[j]?).bind (·.dst),LD s [] fo with
  |some g,K1 f=>match C.ΓB.find f with
   |some _=>K1 (g,b,d,f,xs)
   |none=>K2
  |_,_=>K2
 |_,_,_,_=>K2
def yd{ρ:Type}(C:DL)(n:Nat)(o:Lb)(s:St)(g:Nat)(b:Bool)(d:Nat)(f:Lg)(xs:Array Lc)(k:St->Option ρ):Option ρ:=
 match de s (Gj s [] (.tmp g)) .bool,s.pN g,((C.ΓB.find f).bind λe=>Q19 e.res),aX s d&&Lj d n with
 |some c,K4,K1 T,K3=>match b with
  |true=>cond c (Ua C.ΓB n (PZ g b xs.toList s) o.dst f xs.toList k) (k (Jt s d (.gd g b (.val T (.u K3) (zero T)))))
  |false=>cond c (k (Jt s d (.gd g b (.val T (.u K3) (zero T))))) (Ua C.ΓB n (PZ g b xs.toList s) o.dst f xs.toList k)
 |_,_,_,_=>K2
def Sr{ρ:Type}(C:DL)(n:Nat)(ops:Array Lb)(bx:List Nat)(o:Lb)(s:St)(k:St->Option ρ):Option ρ:=
 match Ca C s ops o with
 |some (g,b,d,f,xs)=>match bx.all λr=>DR s r&& !((EI C.ΓB (PZ g b xs.toList s) f xs.toList).any (Lf r))with
  |true=>yd C n o s g b d f xs k
  |false=>K2
 |none=>match Cf C s o with
 |some (f,xs)=>match bx.all λr=>DR s r&& !((EI C.ΓB s f xs.toList).any (Lf r))with
  |true=>Ua C.ΓB n s o.dst f xs.toList k
  |false=>K2
 |none=>match Ul C.τ s bx o with
  |true=>UK C n ops o s k
  |false=>K2
def Ra(C:DL)(s:St)(o:Lb):Option (py×List Tm):=
 match o.guard,o.op with
 |none,.call {callee:=.value fo,args:=xs,argTypes:=ats}=>match Gj s [] fo with
  |.tm _ (.cl f l)=>match C.inl.find f,I8 C.τ s xs.toList ats.toList with
   |some E,K1 ts=>K1 (E,ts++l.map λq=>.ptr q [])
   |_,_=>K2
  |_=>match LD s [] fo with
   |some f=>match C.inl.find f,I8 C.τ s xs.toList ats.toList with
    |some E,K1 ts=>K1 (E,ts)
    |_,_=>K2
   |none=>K2
 |_,_=>K2
def DA{ρ:Type}(C:DL)(n:Nat)(ops:Array Lb)(bx:Nat->List Nat):Nat->Array Bool->St->(St->Option ρ)->Option ρ
 |0,listed,s,k=>match L1 .any ops listed with
  |[]=>k (Zzn s)
  |_::_=>K2
 |f+1,listed,s,k=>match L1 .any ops listed with
  |[]=>k (Zzn s)
  |[i]=>match ops[i]? with
   |some o=>match Ra C s o,L1 .any ops (listed.setIfInBounds i K3),Cv ops i with
    |some (E,ts),[],K3=>RD C.τ n s o.dst E ts λs'=>k (Zzn s')
    |_,_,_=>Sr C n ops (bx i) o s λs'=>DA C n ops bx f (listed.setIfInBounds i K3) s' k
   |none=>K2
  |i::j::rs=>match(i::j::rs).find? (λi=>((Qx5 ops i&&Q0h s ops i)||Q1h s ops i)&&(match ops[i]? with|some o=>Tp C ops listed (λj=>U0 C.τ (bx j) s o) i|none=>K4))with
   |some i=>match ops[i]? with
    |some o=>match MT s o with
     |true=>UK C n ops o s λs'=>DA C n ops bx f (listed.setIfInBounds i K3) s' k
     |false=>Hr C n ops o s λs'=>DA C n ops bx f (listed.setIfInBounds i K3) s' k
    |none=>K2
   |none=>AX ((i::j::rs).map λi=>match ops[i]? with
    |some o=>Sr C n ops (bx i) o s λs'=>DA C n ops bx f (listed.setIfInBounds i K3) s' k
    |none=>K2)
def TJ(hC:C.ok P g)(h:R n W0 w X F H s a){E:py}(hi:Ra C s o=K1 (E,ts)):
  o.guard=K2/\Yx P g E/\ ∃vs:List La,ts.length=vs.length/\(∀(i:Nat) t,ts[i]? =K1 t-> ∃v,vs[i]? =K1 v/\vt W0.gh w X W0.B s F a v [] t)/\(execOp a.eval o).run P w=.ok (.enter E.f vs.toArray) w:=by
 unfold Ra at hi;split at hi
 ·rename_i M e z r N;split at hi
  ·rename_i k f l hx;split at hi
   ·rename_i j d m c;simp only[pB,pF]at hi;obtain⟨rfl,rfl⟩:=hi;obtain⟨rfl,b⟩:=Tl.find_ok hC.inl m;obtain⟨_,_,x,O,A,D⟩:=Vu h dG hx Ac;obtain⟨p,y⟩:=E8 h c;refine⟨r,b,e.toList.map a.eval++x,by simp[p,A],λi t hi=>?_,?_⟩
    ·rcases L0 i d.length with G|hge
     ·grind
     ·rw[List.getElem?_append_right hge]at hi;simp only[M2,Mr]at hi;obtain⟨q,I,rfl⟩:=hi;obtain⟨u,Q,J⟩:=D _ q I;exact⟨u,Ai,rfl,J⟩
    ·have:execOp a.eval o=callFunc j.f (e.map a.eval++x.toArray):=by
      simp_all[execOp,resolve,Ma,invoke]
     rw[this,b.enters];simp_all
   ·cases hi
  ·split at hi
   ·rename_i f K;split at hi
    ·rename_i j d m c;simp only[pB,pF]at hi;obtain⟨rfl,rfl⟩:=hi;obtain⟨rfl,b⟩:=Tl.find_ok hC.inl m;have L:=XB h dG K;obtain⟨p,y⟩:=E8 h c;refine⟨r,b,e.toList.map a.eval,by simp[p],y,?_⟩;have:execOp a.eval o=callFunc j.f (e.map a.eval):=by
      simp_all[execOp,resolve,Ma,invoke]
     rw[this,b.enters];congr 2
     grind
    ·cases hi
   ·cases hi
 ·cases hi
theorem Z7p(hC:C.ok P g)(h:R n W0 w X F [] s a){k:St->Option ρ}{r:ρ}(hs:Hr C n ops o s k=K1 r):
  ∃v F' s',k s'=K1 r/\R n W0 w X F' [] s' (a.put o.dst v)/\xn P ops (Bp W0.gh C.τ X s a o w) o v a:=by
 unfold Hr at hs;split at hs
 ·rename_i u;split at hs
  ·rename_i G d hv t;split at hs
   ·rename_i c;simp only[pC,Lo]at c;rw[HV]at hs;obtain⟨_,x⟩:=GE h dG hC hv;obtain⟨v,y,z⟩:=x hs.1;refine⟨v,Xp F (.m d) [],_,hs.2,?_,.inl ⟨by simp[Li,u],y⟩⟩;rw[t];exact(by simpa using h:R n W0 w X F ([]++[]) s a).put c.1 c.2 z
   ·cases hs
  ·cases hs
 ·rename_i j b u;split at hs
  ·rename_i g d H t;split at hs
   ·rename_i I f c;have i:Lj g 1048576=true:=Af
    simp only[pC,Lo]at c
    replace c:=c.1
    have l:=p8 f;split at hs
    ·rename_i G hv;obtain⟨hk,A⟩:=HB h hs;by_cases p:Xj W0.gh a (.m g)=.bool b
     ·have D:=F7 h f p;have E:g<a.tmps.size:=by
       have e:a.tmps.getD g undef=.bool b:=(Kz W0 a i).symm.trans p;rcases L0 g a.tmps.size with h'|h'
       ·exact h'
       ·rw[Array.getD_eq_getD_getElem?,Array.getElem?_eq_none h']at e;cases e
      have q:Li o (yielded ops a.tmps)=true:=by
       have e:a.tmps[g]? =K1 (.bool b):=by
        have e:a.tmps.getD g undef=.bool b:=(Kz W0 a i).symm.trans p;simp_all
       simp_all[Li,yielded]
      obtain⟨_,x⟩:=GE h D hC hv;obtain⟨v,y,z⟩:=x (A D);refine⟨v,Xp F (.m d) [],_,hk,?_,.inl ⟨q,y⟩⟩;rw[t];exact(by simpa using h:R n W0 w X F ([]++[]) s a).put c.1 c.2 λ_=>⟨l,λ_=>z,λB=>absurd p B⟩
     ·have q:Li o (yielded ops a.tmps)=false:=by
       apply Bool.eq_false_iff.2;intro q;simp only[Li,u,yielded,H,pA,beq_iff_eq]at q
       grind[pB,Xj,zD]
      refine⟨undef,Xp F (.m d) [],_,hk,?_,.inr ⟨q,rfl⟩⟩;rw[t];exact(by simpa using h:R n W0 w X F ([]++[]) s a).put (S:=[]) c.1 c.2 λ_=>⟨l,λe=>absurd e p,λ_=>⟨rfl,rfl⟩⟩
    ·cases hs
   ·cases hs
  ·cases hs
def Qfr(hC:C.ok P g)(h:R n W0 w X F [] s a)(ht:MT s o=K3){k:St->Option ρ}{r:ρ}(hs:UK C n ops o s k=K1 r)(I:Le->Prop):
  ∃v X' F' s',k s'=K1 r/\(∀b,X b->X' b)/\R n W0 w X' F' [] s' (a.put o.dst v)/\xn P ops I o v a:=by
 have c:=Ed (Q:=QF) hC h hs (K:=λp e=> ∃X' F' s',k s'=K1 r/\(∀b,X b->X' b)/\R n W0 e X' F' [] s' p) λe p X' F' s' hk u y=>⟨X',F',s',hk,y.more,u⟩
 unfold MT at ht;rw[pC]at ht;obtain⟨B,t⟩:=ht;have z:o.guard=none:=by
  grind
 have f:Li o (yielded ops a.tmps)=true:=by simp[Li,z]
 rw[if_pos f]at c;unfold Lm at c;split at t
 ·rename_i q d;simp only[execOp,d,L8,Lr]at c;obtain⟨X',F',s',j,l,m⟩:=c;exact⟨_,X',F',s',j,l,m,.inl ⟨f,λe _=>by simp[execOp,d]⟩⟩
 ·rename_i x i d;cases hx:a.eval x with
  |tuple A=>
   cases hu:A[i]? with
   |none=>simp_all[execOp,Ml,Lr]
   |some v=>
    simp only[execOp,d,Ml,hx,hu,Lr]at c;obtain⟨X',F',s',j,l,m⟩:=c;exact⟨v,X',F',s',j,l,m,.inl ⟨f,λe _=>by simp_all[execOp,Ml]⟩⟩
  |_=>simp[execOp,d,Ml,hx,Lr]at c
 ·cases t
def Qk1{bx:List Nat}{o:Lb}(hb:Ul C.τ s bx o=K3)(hS:∀b,Sh b->X b)(hf:TQ W0.gh C o X X' s a a' w w'):gU W0.gh bx Sh a w w':=by intro b c;refine hf.kept b (c.imp (hS b) λ⟨r,f,g⟩=>?_);unfold Ul at hb;rw[Lv]at hb;have d:=hb r f;simp only[pC]at d;refine⟨r,BO d.1,?_,g⟩;intro e;simp_all
def R.ungd1(h:R n W0 w X F H s a){g':Nat}{t:Tm}(hg:s.get (.m k)=.gd g' b t)(hf:s.pN g'=K4)(hb:Xj W0.gh a (.m g')=.bool b)(ht:gV t=K3):R n W0 w X F H (WL s k t) a:=by
 have l:=h.slots (.m k);rw[hg]at l;obtain⟨_,o,_⟩:=l hf;have q:=o hb;have r:Xp F (.m k) (F (.m k))=F:=by
  grind
 have f:qQ W0.gh w w s (WL s k t) F (Xp F (.m k) (F (.m k))) a k t:=yS ⟨by grind[Kt,gV],λp v U hv=>by
  simp_all[Yl]⟩
 have c:∀{u:Tm}{v:La}{S:List Nat},vt W0.gh w X W0.B s F a v S u->vt W0.gh w X W0.B (WL s k t) F a v S u:=λ{u v S} x=>by
  have:=Oo f (λ_ h=>h) (λ_ _=>rfl) (λ_ _ _ _=>rfl) (λ_ _=>rfl) (λe z A C b S hb=>Af) x;simp_all
 exact
 {h with
  pM:=λd i g=>by
   rw[Kt]at g⊢;simp only[reduceCtorEq,if_false]at g;obtain⟨o,q⟩:=h.pM d i g
   grind
  slots:=λj=>by
   by_cases y:j=.m k
   ·simp_all[Kt,if_true]
   ·rw[Kt];simp only[Lp y,if_false];exact c (h.slots j)}
def PK{g':Nat}{b:Bool}(hb:Xj W0.gh a (.m g')=.bool b):∀{xs:List Lc}{s:St},R n W0 w X F H s a->R n W0 w X F H (PZ g' b xs s) a
 |[],s,h=>h
 |x::xs,s,h=>by
  cases x with
  |tmp k=>
   simp only[PZ];split
   ·rename_i j e t f;split
    ·rename_i c d g i;have c:=pD c;subst c;have d:e=b:=by simpa using d
     subst d;exact PK hb (h.ungd1 f g hb i)
    ·exact PK hb h
   ·exact PK hb h
  |_=>exact PK (xs:=xs) hb h
def GX{g':Nat}{b:Bool}{r:Nat}:∀{xs:List Lc}{s:St},s.isBox r->(PZ g' b xs s).isBox r
 |[],s,h=>h
 |x::xs,s,h=>by
  cases x with
  |tmp k=>
   simp only[PZ];split
   ·rename_i a c t d;split
    ·refine GX ?_;obtain⟨e,T,f,y,g⟩:=h;refine⟨e,T,f,y,?_⟩;rw[Kt,if_neg]
     all_goals grind
    ·exact GX h
   ·exact GX h
  |_=>exact GX (xs:=xs) h
def Fb(hC:C.ok P g){ops:Array Lb}(h:R n W0 w X F [] s a){gs:Nat}{f:Lg}(hg:Ca C s ops o=K1 (gs,b,d,f,xs)){k:St->Option ρ}{r:ρ}(hs:yd C n o s gs b d f xs k=K1 r)
   (hK:∀v w' X' F' s',k s'=K1 r->R n W0 w' X' F' [] s' (a.put o.dst v)->(∀b,X b->X' b)->AW W0.gh X s a (EI C.ΓB (PZ gs b xs.toList s) f xs.toList) w w'->K (a.put o.dst v) w'):ite (Li o (yielded ops a.tmps)) (o.wp P a w K Q) (K (a.put o.dst undef) w):=by
 unfold Ca at hg;split at hg
 ·rename_i j x M fo y N B O H U;split at hg
  ·rename_i i V hj W;split at hg
   ·simp only[pB,pF]at hg;obtain⟨rfl,rfl,rfl,rfl,rfl⟩:=hg;unfold yd at hs;split at hs
    ·rename_i c T z Y hT p;simp only[pC,Lo]at p;have hv:Xj W0.gh a (.m i)=.bool c:=(Kz W0 a (NN z)).trans (uA h dG z);have D:s.get (.m i)≠ .pR:=by
      intro e;have Z:=NN z;simp_all[Gj,jT,de,YQ]
     have I:i<a.tmps.size:=by
      have l:a.tmps.getD i undef=.bool c:=uA h dG z;rcases L0 i a.tmps.size with h'|h'
      ·exact h'
      ·rw[Array.getD_eq_getD_getElem?,Array.getElem?_eq_none h']at l;cases l
     have l:a.tmps[i]? =K1 (.bool c):=by
      have l:a.tmps.getD i undef=.bool c:=uA h dG z;simp_all
     have J:Li o (yielded ops a.tmps)=(c==x):=by
      simp_all[Li,yielded]
     have ab:c=x->Ua C.ΓB n (PZ i x y.toList s) o.dst V y.toList k=K1 r->ite (Li o (yielded ops a.tmps)) (o.wp P a w K Q) (K (a.put o.dst undef) w):=by
      intro e q;rw[J,if_pos (by simp[e])];exact Rx (hC.soft.trans B) hC.ΓB (PK (by rw[hv,e]) h) (XB h dG W) U q λv w' X' F' s' hk hR E G=>hK v w' X' F' s' hk hR E λb L=>G b (L.imp id λ⟨r,h1,h2,h3⟩=>⟨r,GX h1,h2,h3⟩)
     have no:c≠x->k (Jt s M (.gd i x (.val T (.u K3) (zero T))))=K1 r->ite (Li o (yielded ops a.tmps)) (o.wp P a w K Q) (K (a.put o.dst undef) w):=by
      intro e hk;rw[J,if_neg (by simp[e]),H];have A:=(by simpa using h:R n W0 w X F ([]++[]) s a).put (S:=[]) (t:=.gd i x (.val T (.u K3) (zero T))) (v:=undef) p.1 p.2 λ_=>⟨D,λL=>Af,λ_=>⟨rfl,rfl⟩⟩
      have:=hK undef w X _ _ hk (by rw[H];exact A) (λ_ h=>h) (λ_ _=>rfl);simp_all
     grind
    ·cases hs
   ·cases hg
  ·cases hg
 ·cases hg
def Qfk(hC:C.ok P g)(h:R n W0 w X F [] s a){bx:List Nat}(hS:∀b,Sh b->X b){k:St->Option ρ}{r:ρ}(hs:Sr C n ops bx o s k=K1 r)
  (hK:∀w' a' X' F' s',k s'=K1 r->R n W0 w' X' F' [] s' a'->(∀b,X b->X' b)->(qX C o.op=K3->H6 w w')->gU W0.gh bx Sh a w w'->K a' w'):ite (Li o (yielded ops a.tmps)) (o.wp P a w K Q) (K (a.put o.dst undef) w):=by
 unfold Sr at hs;split at hs
 ·rename_i Y b d f O e;split at hs
  ·rename_i i;refine Fb hC h e hs λv w' X' F' s' hk y q t=>hK w' _ X' F' s' hk y q (λx=>?_) λb u=>t b ?_
   ·exfalso;unfold Ca at e;split at e
    ·rename_i j Z d' B D E z N S A;split at e
     ·rename_i g' G hj p;split at e
      ·rename_i U c;simp only[qX,A,EA,pC]at x;have l:=x.2;have nil:(match C.ΓB with|[]=>K3|_::_=>K4)=K3->False:=λV=>by
        cases hg2:C.ΓB with
        |nil=>rw[hg2]at c;cases c
        |cons _ _=>simp_all
       cases B with
       |func H=>
        have I:K1 H=K1 G:=p;simp_all
       |const v=>exact nil l
       |tmp k=>exact nil l
       |global g=>exact nil l
      ·cases e
     ·cases e
    ·cases e
   ·refine u.imp (hS b) λ⟨r,J,W⟩=>?_;rw[Lv]at i;have L:=i r J;simp only[pC,Lw]at L
    grind[BO,SO]
  ·cases hs
 split at hs
 ·rename_i f O m;split at hs
  ·rename_i i;unfold Cf at m;split at m
   ·rename_i B D E z N A;split at m
    ·rename_i G p;split at m
     ·rename_i U c;simp only[pB,pF]at m;obtain⟨rfl,rfl⟩:=m;rw[if_pos (by simp[Li,N])];refine Rx (hC.soft.trans z) hC.ΓB h (XB h dG p) A hs λv w' X' F' s' hk y q t=>hK w' _ X' F' s' hk y q (λx=>?_) λb u=>t b ?_
      ·exfalso;simp only[qX,A,EA,pC]at x;have l:=x.2;have nil:(match C.ΓB with|[]=>K3|_::_=>K4)=K3->False:=λV=>by
        cases hg2:C.ΓB with
        |nil=>rw[hg2]at c;cases c
        |cons _ _=>simp_all
       cases B with
       |func H=>
        have I:K1 H=K1 G:=p;simp_all
       |const v=>exact nil l
       |tmp k=>exact nil l
       |global g=>exact nil l
      ·refine u.imp (hS b) λ⟨r,J,W⟩=>?_;rw[Lv]at i;have L:=i r J;simp only[pC,Lw]at L
       grind[BO,SO]
     ·cases m
    ·cases m
   ·cases m
  ·cases hs
 ·split at hs
  ·rename_i M;exact Ed (Q:=Q) hC h hs λw' a' X' F' s' hk y p=>hK w' a' X' F' s' hk y p.more (λx=>p.pres (by simp_all[qX,pC])) (Qk1 M hS p)
  ·cases hs
def IH{ρ:Type}(hC:C.ok P g)(hsel:∀(j:Nat)(o:Lb) cs b,ops[j]? =K1 o->o.op≠ .select cs b){bx:Nat->List Nat}(hbd:∀i,∀r∈bx i,∀(j:Nat) o,ops[j]? =K1 o->o.dst≠K1 r){k:St->Option ρ}{r:ρ}{Qn:Act->Le->Prop}
  (hK:∀w' a' X' F' s',k s'=K1 r->R n W0 w' X' F' [] s' a'->Qn a' w'):
  ∀{f:Nat}{listed:Array Bool}{s:St}{w:Le}{X:Nat->Prop}{Sh:Nat->Prop}{F:Bk->List Nat}{a:Act},qG ops listed->R n W0 w X F [] s a->(∀b,Sh b->X b)->DA C n ops bx f listed s k=K1 r->ww W0.gh P ops Qn (RZ C ops) bx Sh f listed a w
 |0,listed,s,w,X,Sh,F,a,_,h,V,d=>by
  simp only[DA]at d;split at d
  ·rename_i p;obtain⟨F',M⟩:=h.clean;exact⟨p,hK w a X F' _ d M⟩
  ·cases d
 |f+1,listed,s,w,X,Sh,F,a,D,h,V,d=>by
  have a3:∀e o,ops[e]? =K1 o->e∈L1 .any ops listed->(Sr C n ops (bx e) o s λs'=>DA C n ops bx f (listed.setIfInBounds e K3) s' k)=K1 r->
    wpOp P ops QF e (λa' w'=>(Cv ops e=K3\/CE W0.gh (RZ C ops) bx Sh e a w w')/\ww W0.gh P ops Qn (RZ C ops) bx Sh f (listed.setIfInBounds e K3) a' w') a w:=by
   intro e o A N d;unfold wpOp;simp only[A];have:=Qfk (Q:=QF) hC h V d (K:=λa' w'=>(Cv ops e=K3\/CE W0.gh (RZ C ops) bx Sh e a w w')/\ww W0.gh P ops Qn (RZ C ops) bx Sh f (listed.setIfInBounds e K3) a' w')
    (λw' a' X' F' s' hk O G W H=>⟨.inr ⟨by simp_all[RZ],H⟩,IH hC hsel hbd hK (qF D N) O (λb t=>G b (V b t)) hk⟩)
   grind
  simp only[DA]at d;split at d
  ·rename_i p;obtain⟨F',M⟩:=h.clean;exact⟨λ_=>hK w a X F' _ d M,λi B=>Af⟩
  ·rename_i i p;refine⟨λhn=>Af,λe B=>?_⟩;rw[p]at B;simp only[Mn]at B;subst B;split at d
   ·rename_i o A;split at d
    ·rename_i E ts B S Y;obtain⟨hg,hE,vs,Z,h2,h3⟩:=TJ hC h B;unfold wpOp;simp only[A];rw[if_pos (by simp[Li,hg])];refine .inl (Eg hC.τ hE h Z h2 h3 d λv w' X' F' s' hk O=>⟨.inl Y,?_⟩);obtain⟨F2,M⟩:=O.clean;cases f with
     |zero=>exact⟨S,hK w' _ X' F2 _ hk M⟩
     |succ f=>exact⟨λ_=>hK w' _ X' F2 _ hk M,λi B=>Af⟩
    grind
   ·cases d
  ·rename_i p;split at d
   ·rename_i i u;have x:=Nj u;have c:=Nd u;simp only[pC]at c;have c:=c.2;rw[<-p]at x;split at d
    ·rename_i o A;simp only[A]at c;obtain⟨v,X',F',s',hk,ab,O,hy⟩:∃v X' F' s',DA C n ops bx f (listed.setIfInBounds i K3) s' k=K1 r/\(∀b,X b->X' b)/\R n W0 w X' F' [] s' (a.put o.dst v)/\xn P ops (Bp W0.gh C.τ X s a o w) o v a:=by
      split at d
      ·rename_i ad;exact Qfr hC h ad d _
      grind[Z7p]
     refine BN V _ _ _ _ ?_;refine LG (I:=Bp W0.gh C.τ X s a o w) (J:=λa'=> ∀j,∀q∈bx j,Xj W0.gh a' (.m q)=Xj W0.gh a (.m q)) A hsel (λj q y=>hbd j q y i o A) f listed a w D (Bp.refl _ _ _ _ _ _ _) (λ_ _ _=>rfl) (λj oj hj ar l au=>?_) x hy
      (IH hC hsel hbd hK (qF D x) O ab hk)
     obtain⟨Z,h2⟩:=Qgl c A hj ar l au;refine⟨Z,λa1 a2 w1 w2 hJ z L hp=>⟨λhm=>?_,λj' q y=>?_⟩⟩
     ·have z:=z hm;rcases h2 with h2|h2
      ·unfold U0 at h2;rw[hm]at h2;simp only at h2;split at h2
       ·rename_i q y;simp only[y]at z⊢;have a0:q∈bx j:=by
         simp_all
        exact λb l t=>(L.hold b (.inr ⟨q,a0,Ai⟩)).trans (z b l t)
       ·rename_i y;simp only[y]at z⊢;exact λb l t=>(L.hold b (.inl t)).trans (z b l t)
       ·cases h2
      ·have hold:=L.pres (by simp_all[RZ]);have U:∀b,b<w.heap.size->w1.heap[b]? =w.heap[b]?->b<w1.heap.size:=λb l he=>by
        grind
       split at z
       ·rename_i q y
        try simp only[y]
        exact λb l t=>(hold b (U b l (z b l t))).trans (z b l t)
       ·rename_i y
        try simp only[y]
        exact λb l t=>(hold b (U b l (z b l t))).trans (z b l t)
       grind[H6.trans]
     ·rw[hp q Ai];exact hJ j' q y
    ·cases d
   ·refine⟨λhn=>Af,λe B=>?_⟩
    grind[D0,List.mem_map_of_mem]
end
end Go.Am

/- No condition. -/
import Derived.Test.YtglbkfajafconaaGreatDoorAm1
import Derived.Great.BuildSlice
import Derived.WalkKit
import Derived.Laws.StructEq
import Derived.ChangeKeysEq
import Derived.Still
set_option linter.all false
namespace Go.Am
noncomputable section
open Go.RowKit
open Option renaming some→K1,none→K2,bind_eq_some_iff→Lv,map_eq_some_iff→Mz
open Bool renaming true→K3,false→La,not_eq_true'→Lq,or_eq_true→M5
open Go renaming Value→K4,Oper→Lb,Operand→Lc,TypeId→Ld,World→Le,FuncId→Lg,Program→Lh,Result→Lr,Addr→L0,isAgg→L8,Calls→L9,binOp→Me,sizeOf→M6
open Nat renaming beq→Lf,blt→Li,le_refl→Lj,le_trans→Lm,blt_eq→Lp,lt_or_ge→Ly,lt_of_lt_of_le→L2,zero_le→L5,ble→Mw,zero_add→Mx,add_right_comm→Nf,beq_refl→Ng
open Region renaming wanted→Lk,ready→L3,binds→L7
open List renaming nodup_append→Ll,all_eq_true→Lx,nodup_cons→L1,mem_cons→Ma,append_assoc→Mg,getElem?_eq_getElem→Mh,length→Mi,mem_append→Mj,mem_singleton→Mk,append_eq_nil_iff→Mm,count→Mn,getElem?_append_right→Mo,getElem?_cons_zero→Mp,mem_of_getElem?→Mq,getElem?_append_left→Mu,length_eq_one_iff→Mv,any_eq_true→M8,cons_append→M9,count_append→Na,getElem?_map→Nb,map_cons→Nc,mem_cons_of_mem→Nd,eq_nil_of_length_eq_zero→Np,ext_getElem?→Nq,find?_some→Nr,getElem?_of_mem→Ns,length_cons→Nt,mem_cons_self→Nu,mem_of_find?_eq_some→Nv,mem_range→Nw,nodup_nil→Nx,perm_append_comm_assoc→Ny,range→Nz
open Oper renaming wp→Ln,upon→Lu,upon_enter→L6,apart_spec→N1
open Ne renaming symm→Lo
open List.cons renaming inj→Ls,injEq→Mt
open Result renaming andThen_ok→Lt
open Sem renaming run_bind→Lw,run_pure→Mc
open Decidable renaming decide→Lz
open Deferred renaming ofValue→L4
open Op renaming equalIn→Mb,equal→My,eqFields→Nh
open Act renaming put_comm→Md,eval→M3
open List.Sublist renaming refl→Mf
open Addr renaming add→Ml
open Classical renaming byContradiction→Mr
open Instr renaming extract→Ms,makeFunc→M7,fill→Nl,indexAt→Nm
open Sigma.mk renaming injEq→M0
open Value renaming ownBlock→M1,pointer→N3
open World renaming cell?_of_block→M2
open Addr.mk renaming injEq→M4
open Value.pointer renaming injEq→Ni
open Builtin renaming append_→Nj
open ByteArray renaming toList_eq→Nk
open Int renaming toNat_natCast→Nn
open Obj.cells renaming injEq→N0
open Program renaming fieldsOf→N2
open Value.slice renaming injEq→N4
variable{a' a:Act}{K:Act->Le->Prop}{parts:Array (Nat×Lc)}{listed:Array Bool}{ops:Array Lb}{xs:Array Lc}{ats:Array Ld}{op:BinOp}{b:Bool}{Q:Exit->Act->Le->Prop}{fn:Func}{fs:List Field}{S L L':List Nat}{rest:List Lc}{rv:List ResultVar}{ts:List Tm}{vs:List K4}{d k j B sz n len m kx off:Nat}{X Sh:Nat->Prop}{o oi oj:Lb}{fo x0:Lc}{ro:Ow}{P:Lh}{s:St}{U:TV}{ρ:Type}{e2 e':Ld}{w w':Le}{I:Le->Prop}{tg:Yl}
@[reducible] def J6:List Ty->Type|[]=>Unit|t::ts=>t.den×J6 ts
def WL(w:Le)(X:Nat->Prop)(B:Nat):(ts:List Ty)->J6 ts->List K4->Prop|[],_,vs=>vs=[]|t::ts,x,vs=> ∃cs us,vs=Yh t cs::us/\rd w X B .sh t x.1 cs []/\WL w X B ts x.2 us
def xQ(ro:Ow)(w:Le)(B:Nat):(ts:List Ty)->J6 ts->List K4->List Nat->Prop|[],_,vs,S=>vs=[]/\S=[]|t::ts,x,vs,S=> ∃cs us S1 S2,vs=Yh t cs::us/\S=S1++S2/\rd w (λ_=>False) B ro t x.1 cs S1/\xQ ro w B ts x.2 us S2
abbrev VD:=xQ .ow
def J7(vs:List K4):K4:=
 match vs with
 |[v]=>v
 |vs=>.tuple vs.toArray
structure LR where
 f:Lg
 args:List Ty
 res:List Ty
 F:J6 args->Option (J6 res)
 ro:Ow:=.ow
structure Wz(P:Lh)(g:Kf)(e:LR):Prop where
 enters:∀args w,(callFunc e.f args).run P w=.ok (.enter e.f args) w
 calls:∀(w:Le)(xs:J6 e.args)(r:J6 e.res)(vals:List K4),g.G w->WL w (· <w.heap.size) 0 e.args xs vals->e.F xs=K1 r->
  L9 P e.f vals.toArray w λen w'=> ∃rs S,en=.returned (J7 rs)/\xQ e.ro w' w.heap.size e.res r rs S/\S.Nodup/\Below w.heap.size w w'
abbrev Ur:=List LR
def Ur.find(Γ:Ur)(f:Lg):Option LR:=
 match Γ with
 |[]=>K2
 |e::r=>match Lf e.f f with|true=>K1 e|false=>Ur.find r f
def Ur.ok(Γ:Ur)(P:Lh)(g:Kf):Prop:= ∀e∈Γ,Wz P g e
def Ur.find_ok{Γ:Ur}{g:Kf}(h:Γ.ok P g){f:Lg}{e:LR}(he:Γ.find f=K1 e):e.f=f/\Wz P g e:=by
 induction Γ with
 |nil=>cases he
 |cons x r a=>
  simp only[Ur.find]at he;split at he
  ·rename_i b;simp only[pB]at he;subst he;exact⟨pD b,h _ Ac⟩
  ·exact a (λe he=>h e (by simp[he])) he
variable {P:Lh}{g:Kf}{W0:bu g}{w w':Le}{X X':Nat->Prop}{B B' n:Nat}{own:Ow}{s:St}{F:A4->List Nat}{a:Act}{H H':List Nat}{o:Lb}{tg:Yl}{τ:vJ}{gh:Nat->K4}
theorem iN(hB:B'<=B)(hX:∀b,X b->X' b):∀{T:Ty}{x:T.den}{vs:List K4}{S:List Nat},rd w X B own T x vs S->rd w X' B' own T x vs S
 |.unit,_,_,_,h|.int _,_,_,_,h|.bool,_,_,_,h|.fnc _,_,_,_,h|.str,_,_,_,h=>h
 |.slice _ _,_,_,_,⟨v,s,j,k,e,l,d,f⟩=>by
  refine⟨v,s,j,k,e,l,?_,Yt f λ_ _ _ _ _ h=>iN hB hX h⟩;cases own
  ·obtain⟨u,z,a,i,A,C,D,E⟩:=d;exact⟨u,z,a,i,A,C,D,E.imp id λ⟨F,m,p,q⟩=>⟨F,m,p.imp id (hX _),q⟩⟩
  ·exact⟨C2 d.1 hB,d.2⟩
  ·exact⟨d.1,d.2.1,d.2.2.imp id λ⟨g,o,i,r,m,p,q⟩=>⟨g,o,i,r,m,Lm hB p,q⟩⟩
 |.pair a b,_,_,_,⟨G,H,j,k,e,l,d,f⟩=>⟨G,H,j,k,e,l,iN hB hX d,iN hB hX f⟩
 |.arr n t,_,_,_,⟨h,I⟩=>⟨h,Yt I λ_ _ _ _ _ h=>iN hB hX h⟩
 |.err,_,_,_,h=>h
 |.hid _,_,_,_,⟨e,y,h⟩=>⟨e,y,iN hB hX h⟩
 |.sptr ..,_,_,_,⟨e,o,b,c,d,f,J,K⟩=>⟨e,o,b,c,d,hX b f,J,iN hB hX K⟩
 |.clo ..,_,_,_,⟨e,L,d,f⟩=>⟨e,L,d,iN hB hX f⟩
def vw(s:St)(tg:Yl):(ts:List Ty)->List Lc->Option (J6 ts)
 |[],[]=>K1 ()
 |t::ts,x::xs=>match cu s (RO s tg x) t,vw s tg ts xs with
  |some u,K1 us=>K1 (u,us)
  |_,_=>K2
 |_,_=>K2
def vx(h:R n W0 w X F H s a)(ht:tg.ok W0.gh a):∀{ts:List Ty}{xs:List Lc}{us:J6 ts},vw s tg ts xs=K1 us->WL w (· <w.heap.size) 0 ts us (xs.map a.eval)
 |[],[],us,_=>rfl
 |t::ts,x::xs,us,b=>by
  simp only[vw]at b;split at b
  ·rename_i u d e c;simp only[pB]at b;subst b;obtain⟨f,g,i⟩:=ea h ht e;exact⟨f,_,by simp[g],iN (L5 _) (λ_ h=>h) i,vx h ht c⟩
  ·cases b
 |[],_::_,_,b=>by grind[vw]
 |_::_,[],_,b=>by grind[vw]
def DR(ro:Ow)(d:Nat):(ts:List Ty)->J6 ts->Nat->List (A4×Tm)->List (A4×Tm)|[],_,_,r=>r|t::ts,x,i,r=>DR ro d ts x.2 (i+1) ((.c d i,.val t (.u ro) x.1)::r)
def WV(ro:Ow)(d:Nat)(s:St):(ts:List Ty)->J6 ts->St|[t],r=>Jb s d (.val t (.u ro) r.1)|[],r=>{env:=DR ro d [] r 0 (Jb s d .tup).env,pP:=(Jb s d .tup).pP,pQ:=s.pQ}|t::u::ts,r=>{env:=DR ro d (t::u::ts) r 0 (Jb s d .tup).env,pP:=(Jb s d .tup).pP,pQ:=s.pQ}
abbrev Ti:=WV .ow
def YQ{ρ:Type}(Γ:Ur)(n:Nat)(s:St)(tg:Yl)(dst:Option Nat)(f:Lg)(xs:List Lc)(k:St->Option ρ):Option ρ:=
 match Γ.find f with
 |none=>K2
 |some e=>match vw s tg e.args xs with
  |none=>K2
  |some us=>match dst with
   |none=>(e.F us).bind λ_=>k s
   |some d=>match Wa s d&&Li d n with
    |false=>K2
    |true=>(e.F us).bind λr=>k (WV e.ro d s e.res r)
def R.below'(h:R n W0 w X F H s a)(hb:Below w.heap.size w w'):R n W0 w' X F H s a:=h.world (h.below.step hb) hb.size (λb c=>hb.block b (h.xlt b c)) (λk b c=>hb.block b (h.own k b c).2.1)
def XG{ro:Ow}:∀{ts:List Ty}{x:J6 ts}{rs:List K4}{S:List Nat},xQ ro w B ts x rs S->rs.length=ts.length
 |[],_,_,_,h=>by simp[h.1]
 |t::ts,_,_,_,⟨_,_,_,_,e,_,_,h⟩=>by simp[e,XG h]
def zC{rs:List K4}(h:rs.length≠1):J7 rs=.tuple rs.toArray:=by
 unfold J7
 grind
def R.putTup{ts:List Ty}{x:J6 ts}(h:R n W0 w X F (S++H) s a)(hd:Wa s d=K3)(hn:d<n)(hx:xQ ro w W0.B ts x vs S):
  ∃F',R n W0 w X F' H {env:=DR ro d ts x 0 (Jb s d .tup).env,pP:=(Jb s d .tup).pP,pQ:=s.pQ} (a.put (K1 d) (.tuple vs.toArray)):=by
 have Q:R n W0 w X (Q6 F (.m d) []) (S++H) (Jb s d .tup) (a.put (K1 d) (.tuple vs.toArray)):=(by simpa using h:R n W0 w X F ([]++(S++H)) s a).put hd hn rfl;have q:uI W0.gh (a.put (K1 d) (.tuple vs.toArray)) d=.tuple vs.toArray:=wc (a:=a) (by rw[h.size];exact hn);have G:∀i,(Jb s d .tup).get (.c d i)=.pR:=λi=>by
  rw[px];simp only[reduceCtorEq,if_false];exact Mr λv=>by have:=(h.pM d i v).1;simp_all[Wa]
 suffices hs:∀(ts:List Ty)(x:J6 ts)(E:List K4)(i:Nat)(S:List Nat)(F:A4->List Nat)(r:List (A4×Tm))(pre:List K4),vs=pre++E->pre.length=i->xQ ro w W0.B ts x E S->
   R n W0 w X F (S++H) {env:=r,pP:=(Jb s d .tup).pP,pQ:=s.pQ} (a.put (K1 d) (.tuple vs.toArray))->ma r (.m d)=.tup->(∀j,i<=j->ma r (.c d j)=.pR)->
   ∃F',R n W0 w X F' H {env:=DR ro d ts x i r,pP:=(Jb s d .tup).pP,pQ:=s.pQ} (a.put (K1 d) (.tuple vs.toArray)) by
  obtain⟨F',y⟩:=hs ts x vs 0 S _ (Jb s d .tup).env [] rfl rfl hx Q (JE _ _ _) (λj _=>G j)
  grind
 intro ts
 induction ts with
 |nil=>
  intro x E i S F r pre _ _ hx f _ _;obtain⟨rfl,rfl⟩:=hx;exact⟨F,f⟩
 |cons t ts U=>
  intro x E i S F r pre I z hx f A o;obtain⟨J,K,N,O,rfl,rfl,L,M⟩:=hx
  have p:Qw W0.gh (a.put (K1 d) (.tuple vs.toArray)) (.c d i)=Yh t J:=by
   simp_all[Qw]
  have C:R n W0 w X (Q6 F (.c d i) N) (O++H) {env:=(.c d i,.val t (.u ro) x.1)::r,pP:=(Jb s d .tup).pP,pQ:=s.pQ} (a.put (K1 d) (.tuple vs.toArray)):=by
   have V:F (.c d i)=[]:=by
    have:=f.slots (.c d i);simp only[St.get,o i (Lj _)]at this;exact this
   have D:=f.pK;rw[Mg]at D;exact
   {size:=f.size
    defers:=f.defers
    below:=f.below
    glob:=f.glob
    gx:=f.gx
    xs:=f.xs
    fix:=f.fix
    xlt:=f.xlt
    xin:=f.xin
    x0:=f.x0
    own:=λk b g=>by
     simp only[Q6]at g;split at g
     ·exact f.hown b (by simp[g])
     ·exact f.own k b g
    nodup:=λk=>by
     simp only[Q6];split
     ·grind
     ·exact f.nodup k
    pS:=λk P b g l=>by
     simp only[Q6]at g l;split at g<;>split at l
     ·simp_all
     ·exact absurd (by simp[g]) (f.pL P b l)
     ·exact absurd (by simp[l]) (f.pL k b g)
     ·exact f.pS k P b g l
    hown:=λb g=>f.hown b Af
    pK:=(Ll.1 D).2.1
    pL:=λk b g hh=>by
     simp only[Q6]at g;split at g
     ·grind
     ·exact f.pL k b g Af
    pM:=λW j v=>by
     simp only[St.get,Qd]at v⊢;simp only[reduceCtorEq,if_false];split at v
     ·rename_i e;simp only[A4.c.injEq]at e;obtain⟨rfl,rfl⟩:=e;refine⟨A,vs.toArray,q,?_⟩;simp_all
     ·exact f.pM W j v
    slots:=λk=>by
     by_cases hk:k=.c d i
     ·subst hk;simp only[St.get,Qd,if_true,Q6];exact⟨J,p,by unfold Pr;exact iN (Lj _) (λ_ h=>h.elim) L⟩
     ·have Y:St.get {env:=(A4.c d i,Tm.val t (.u ro) x.1)::r,pP:=(Jb s d .tup).pP,pQ:=s.pQ} k=St.get {env:=r,pP:=(Jb s d .tup).pP,pQ:=s.pQ} k:=by simp[St.get,Qd,Lo hk]
      have Z:Q6 F (.c d i) N k=F k:=by simp[Q6,hk]
      rw[Y,Z];exact TS (s:={env:=r,pP:=(Jb s d .tup).pP,pQ:=s.pQ}) (f.slots k)}
  obtain⟨F',y⟩:=U x.2 K (i+1) O _ _ (pre++[Yh t J]) (by rw[I];simp) (by simp[z]) M C (by simp_all[Qd]) (λj hj=>by
   rw[Qd,if_neg Ae];grind)
  exact⟨F',y⟩
def R.putRes{rs:List K4}:∀{ts:List Ty}{x:J6 ts}{S:List Nat},R n W0 w X F (S++H) s a->Wa s d=K3->d<n->xQ ro w W0.B ts x rs S->
  ∃F',R n W0 w X F' H (WV ro d s ts x) (a.put (K1 d) (J7 rs))
 |[],x,S,h,b,c,hx=>by
  rw[zC (by rw[XG hx];simp)];exact h.putTup b c hx
 |[t],x,S,h,b,c,hx=>by
  obtain⟨e,f,i,j,rfl,rfl,g,rfl,rfl⟩:=hx;exact⟨_,h.put b c ⟨e,rfl,by unfold Pr;exact iN (Lj _) (λ_ (h:False)=>h.elim) (by simpa using g)⟩⟩
 |t::u::ts,x,S,h,b,c,hx=>by
  rw[zC (by rw[XG hx];simp)];exact h.putTup b c hx
def Dl(s:St)(tg:Yl)(x:Lc):Option Lg:=
 match xK s (RO s tg x)with
 |some ⟨.fnc f,_,_⟩=>K1 f
 |_=>K2
def q7(h:R n W0 w X F H s a)(ht:tg.ok W0.gh a){x:Lc}{f:Lg}(hf:Dl s tg x=K1 f):a.eval x=.func (.func f) #[] #[]:=by
 unfold Dl at hf;split at hf
 ·rename_i g k y d;simp only[pB]at hf;subst hf;obtain⟨c,l,S,e,i,_⟩:=lx h ht d;have j:=J3 (X':=λb=>X b\/b∈S) (λ_ h=>.inl h) c i (λ_ h=>.inr h);rw[e,j.1];rfl
 ·cases hf
def jW{Γ:Ur}(hΓ:Γ.ok P g)(h:R n W0 w X F H s a)(ht:tg.ok W0.gh a){f:Lg}(hfo:a.eval fo=.func (.func f) #[] #[])(ho:o.op=.call {callee:=.value fo,args:=xs,argTypes:=ats}){e:LR}(he:Γ.find f=K1 e)
  {us:J6 e.args} (hus:vw s tg e.args xs.toList=K1 us) {rv:J6 e.res} (hpre:e.F us=K1 rv) 
  (hK:∀rs S w',R n W0 w' X F (S++H) s a->xQ e.ro w' W0.B e.res rv rs S->Bq w w'->K (a.put o.dst (J7 rs)) w'):o.wp P a w K Q:=by
 obtain⟨z,l⟩:=Ur.find_ok hΓ he;subst z;have A:=l.calls w us rv (xs.toList.map a.eval) h.glob (vx h ht hus) hpre;have m:(execOp a.eval o).run P w=.ok (.enter e.f (xs.toList.map a.eval).toArray) w:=by
  have:execOp a.eval o=callFunc e.f (xs.map a.eval):=by
   simp_all[execOp,resolve,L4,invoke]
  rw[this,l.enters];congr 2
  grind
 unfold Ln;rw[m,L6];refine A.mono λE w' ⟨rs,S,u,p,v,q⟩=>?_;subst u;show K (a.put o.dst (J7 rs)) w';have r:∀{i:List Ty}{x:J6 i}{rs:List K4}{S:List Nat},xQ e.ro w' w.heap.size i x rs S->(∀b∈S,w.heap.size<=b/\b<w'.heap.size)/\xQ e.ro w' W0.B i x rs S:=by
  intro i
  induction i with
  |nil=>intro x rs S h;exact⟨by simp[h.2],h⟩
  |cons t i C=>
   intro x rs S ⟨cs,us,S1,S2,e1,e2,g1,g2⟩;obtain⟨G,D⟩:=C g2;refine⟨λb j=>?_,cs,us,S1,S2,e1,e2,iN h.below.sizeB (λ_ h=>h) g1,D⟩
   grind[xR]
 obtain⟨c,d⟩:=r p;exact hK rs S w' ((h.below' q).hand (λb j=>⟨.inl (Lm h.below.size (c b j).1),(c b j).2,λhx=>by have:=h.xlt b hx;grind⟩) v
  (λk b j y=>by have:=(h.own k b j).2.1;grind) (λb j y=>by have:=(h.hown b y).2.1;grind)) d (λk hk=>q.block k hk)
def Z99{Γ:Ur}(hΓ:Γ.ok P g)(h:R n W0 w X F H s a)(ht:tg.ok W0.gh a){f:Lg}(hfo:a.eval fo=.func (.func f) #[] #[])(ho:o.op=.call {callee:=.value fo,args:=xs,argTypes:=ats}){k:St->Option ρ}{r:ρ}(hr:YQ Γ n s tg o.dst f xs.toList k=K1 r)
   (hK:∀v w' F' s',k s'=K1 r->R n W0 w' X F' H s' (a.put o.dst v)->Bq w w'->K (a.put o.dst v) w'):o.wp P a w K Q:=by
 unfold YQ at hr;split at hr
 ·cases hr
 ·rename_i e p;split at hr
  ·cases hr
  ·rename_i x j;cases hd:o.dst with
   |none=>
    rw[hd]at hr;simp only[Lv]at hr;obtain⟨t,c,hk⟩:=hr;refine jW hΓ h ht hfo ho p j c λq S w' m b hold=>?_;have l:=hK (J7 q) w' F s hk;rw[hd]at l⊢;exact l m.drop hold
   |some d=>
    rw[hd]at hr;simp only at hr;split at hr
    ·cases hr
    ·rename_i i;simp only[pC,Lp]at i;simp only[Lv]at hr;obtain⟨t,c,hk⟩:=hr;refine jW hΓ h ht hfo ho p j c λq S w' m b hold=>?_;obtain⟨F',u⟩:=m.putRes i.1 i.2 b
     grind
def SL(k d:Nat):List (A4×Tm)->List (A4×Tm)
 |[]=>[]
 |(.c t i,x)::r=>match Lf t k with
  |true=>(.c d i,x)::SL k d r
  |false=>match Lf t d with
   |true=>SL k d r
   |false=>(.c t i,x)::SL k d r
 |(.m t,x)::r=>(.m t,x)::SL k d r
def R4(k d t:Nat):∀l,ma (SL k d l) (.m t)=ma l (.m t)
 |[]=>rfl
 |(.c a i,x)::r=>by
  simp only[SL];split
  ·simp only[Qd,reduceCtorEq,if_false,R4 k d t r]
  ·split
   ·simp only[Qd,reduceCtorEq,if_false,R4 k d t r]
   ·simp only[Qd,reduceCtorEq,if_false,R4 k d t r]
 |(.m a,x)::r=>by simp only[SL,Qd,R4 k d t r]
def Ev{k d:Nat}(hkd:k≠d)(t i:Nat):∀l,ma (SL k d l) (.c t i)=ite (t=d) (ma l (.c k i)) (ite (t=k) (.pR) (ma l (.c t i)))
 |[]=>by simp[SL,ma]
 |(.c a j,x)::r=>by
  have b:=Ev hkd t i r;simp only[SL];split
  ·rename_i h;have h:=pD h;subst h;simp only[Qd,b,A4.c.injEq]
   grind
  ·rename_i h;have f:a≠k:=λe=>Af
   split
   ·simp_all[Qd,Lo]
   grind[Ng,Qd]
 |(.m a,x)::r=>by simp only[SL,Qd,reduceCtorEq,if_false,Ev hkd t i r]
def Zy0(s:St)(k d:Nat):St:={env:=SL k d ((.m d,.tup)::s.env),pP:=(Jb s d .tup).pP,pQ:=s.pQ}
variable {s1 s2:St}{F1 F2:A4->List Nat}
def Qy7(hg:∀t,s2.get (.m t)=s1.get (.m t))(hd:s2.pP=s1.pP)(hF:∀t,F2 (.m t)=F1 (.m t)){v:K4}:∀{u:Tm},vt gh w X B s1 F1 a v S u->vt gh w X B s2 F2 a v S u:=by
 have s:∀r,s2.pN r=s1.pN r:=λr=>by simp_all[St.pN]
 have hv:∀{r p v U},X4 gh w s1 F1 a r p v U->X4 gh w s2 F2 a r p v U:=by
  simp_all[X4]
 intro u h
 induction u with
 |pR=>exact h
 |tup=>exact h
 |val=>exact h
 |box=>exact h
 |shp=>exact h
 |ptr r p=>
  obtain⟨z,e,T,f,x,b,j,c,d,k⟩:=h;exact⟨z,e,T,f,x,b,j,by rw[hg];exact c,by rw[hF];exact d,k⟩
 |aep r p i=>
  obtain⟨z,e,T,f,x,b,j,n,D,y,c,d,k⟩:=h;exact⟨z,e,T,f,x,b,j,n,D,y,by rw[hg];exact c,by rw[hF];exact d,k⟩
 |bor r p=>exact⟨h.1,λo=>let⟨U,hU⟩:=h.2 (FY (λr h=>(s r).symm.trans h) o);⟨U,hv hU⟩⟩
 |elp r p i q=>exact⟨h.1,λo=>let⟨e,t,ad,m,cap,c,d⟩:=h.2 (FY (λr h=>(s r).symm.trans h) o);⟨e,t,ad,m,cap,hv c,d⟩⟩
 |bel r p i q=>exact⟨h.1,λo E=>let⟨e,t,ad,m,cap,x0,y,cs,c,k1,k2,k3,d⟩:=h.2 (FY (λr h=>(s r).symm.trans h) o) ((s _).symm.trans E);⟨e,t,ad,m,cap,x0,y,cs,hv c,k1,k2,by rw[hF];exact k3,d⟩⟩
 |cl f l=>
  refine⟨h.1,Tb (λr p v A=>?_) h.2⟩;obtain⟨e,T,f,x,b,j,c,d,k⟩:=A;exact⟨e,T,f,x,b,j,by rw[hg];exact c,by rw[hF];exact d,k⟩
 |pls F l=>
  refine⟨h.1,KG (λ_ h=>h) (λ_ _=>rfl) (λr p v A=>?_) h.2⟩;obtain⟨e,T,f,x,b,j,c,d,k⟩:=A;exact⟨e,T,f,x,b,j,by rw[hg];exact c,by rw[hF];exact d,k⟩
 |gd g C u G=>
  intro o;obtain⟨z,c,d⟩:=h Af;simp_all
def Gm(k d:Nat):A4->Option A4|.m t=>ite (t=d) K2 (K1 (.m t))|.c t i=>ite (t=d) (K1 (.c k i)) (ite (t=k) K2 (K1 (.c t i)))
theorem Qn5{x y j:A4}(hx:Gm k d x=K1 j)(hy:Gm k d y=K1 j):x=y:=by
 cases x with
 |m t=>
  simp only[Gm]at hx;split at hx
  ·cases hx
  ·cases hx;cases y with
   |m u=>
    simp_all[Gm]
   |c u i=>
    grind[Gm]
 |c t i=>
  cases y with
  |m u=>
   grind[Gm]
  |c u a=>
   simp only[Gm]at hx hy
   grind
def R.tupTo(h:R n W0 w X F [] s a)(hk:s.get (.m k)=.tup)(hd:Wa s d=K3)(hn:d<n):
  ∃F',R n W0 w X F' [] (Zy0 s k d) (a.put (K1 d) (Qw W0.gh a (.m k))):=by
 have K:k≠d:=λe=>AA
 let F':A4->List Nat:=λx=>match Gm k d x with|some j=>F j|none=>[]
 have E:∀t,(Go.Am.Zy0 s k d).get (.m t)=ite (d=t) (.tup) (s.get (.m t)):=λt=>by
  simp_all[Go.Am.Zy0,St.get,R4,Qd]
 have G:∀t i,(Go.Am.Zy0 s k d).get (.c t i)=ite (t=d) (s.get (.c k i)) (ite (t=k) (.pR) (s.get (.c t i))):=λt i=>by
  simp_all[Go.Am.Zy0,St.get,Ev,Qd]
 have l:∀{x b},b∈F' x-> ∃j,Gm k d x=K1 j/\b∈F j:=by
  grind
 have g:∀{v S u},vt W0.gh w X W0.B s F a v S u->vt W0.gh w X W0.B (Go.Am.Zy0 s k d) F' (a.put (K1 d) (Qw W0.gh a (.m k))) v S u:=by
  intro v S u hv;refine Qy7 (s1:=Jb s d .tup) (s2:=Go.Am.Zy0 s k d) (F1:=Q6 F (.m d) []) (F2:=F') (λt=>?_) rfl (λt=>?_) (wT (t:=.tup) (v0:=Qw W0.gh a (.m k)) (S0:=[]) hd hv)
  ·grind[px]
  ·simp only[F',Gm,Q6,A4.m.injEq]
   grind
 have H:Qw W0.gh (a.put (K1 d) (Qw W0.gh a (.m k))) (.m d)=Qw W0.gh a (.m k):=wc (a:=a) (by rw[h.size];exact hn);have o:∀i,Qw W0.gh (a.put (K1 d) (Qw W0.gh a (.m k))) (.c d i)=Qw W0.gh a (.c k i):=λi=>by
  simp_all[Qw]
 refine⟨F',?_⟩;exact
  {size:=by simp[Act.put,h.size]
   defers:=by simp[Act.put,h.defers]
   below:=h.below
   glob:=h.glob
   gx:=h.gx
   xs:=h.xs
   fix:=λp z=>⟨(h.fix p z).1,by
    have:=Tr hd;have f:p.1≠d:=λe=>this (e▸(h.fix p z).1);rw[dh (by simp_all[A4.t])];exact(h.fix p z).2⟩
   xlt:=h.xlt
   xin:=h.xin
   x0:=h.x0
   own:=λx b A=>let⟨j,_,hj⟩:=l A;h.own j b hj
   nodup:=λx=>by
    simp only[F'];split
    ·exact h.nodup _
    ·simp
   pS:=λx y b A C=>by
    obtain⟨j,I,q⟩:=l A;obtain⟨L,N,M⟩:=l C;have:=h.pS j L b q M
    grind[Qn5]
   hown:=Ac
   pK:=Ac
   pL:=Ac
   pM:=λD i f=>by
    rw[G]at f;rw[E];by_cases e:D=d
    ·subst e;simp only[if_true]at f⊢;obtain⟨_,J,I,q⟩:=h.pM k i f;simp_all
    ·by_cases r:D=k
     ·simp_all
     ·simp only[e,r,if_false]at f;obtain⟨O,J,I,q⟩:=h.pM D i f;refine⟨Af,J,?_,q⟩
      grind[dh,A4.t]
   slots:=λx=>by
    cases x with
    |m t=>
     rw[E];by_cases e:d=t
     ·subst e;simp only[if_true,F',Gm];rfl
     ·have:F' (.m t)=F (.m t):=by simp[F',Gm,Lo e]
      rw[this,dh (by simp_all[A4.t,Lo])];simp only[e,if_false];exact g (h.slots (.m t))
    |c t i=>
     rw[G];by_cases e:t=d
     ·subst e;have:F' (.c t i)=F (.c k i):=by simp[F',Gm]
      rw[this,o];simp only[if_true];exact g (h.slots (.c k i))
     ·by_cases r:t=k
      ·subst r;have:F' (.c t i)=[]:=by grind[Gm]
       rw[this];simp only[e,if_false,if_true];rfl
      ·have:F' (.c t i)=F (.c t i):=by grind[Gm]
       rw[this,dh (by simp_all[A4.t])];simp only[e,r,if_false];exact g (h.slots (.c t i))}
structure GE where
 f:Lg
 e:Ld
 t:Ty
 args:List Ty
 res:List Ty
 F:List t.den->J6 args->Option (J6 res×List t.den)
structure E5(P:Lh)(g:Kf)(e:GE):Prop where
 flat:e.t.flat=K3
 enters:∀args w,(callFunc e.f args).run P w=.ok (.enter e.f args) w
 calls:∀(w:Le)(X:Nat->Prop)(L:List Nat)(l l':List e.t.den)(xs:J6 e.args)(r:J6 e.res)(v:K4)(vals:List K4),g.G w->(∀b,g.GB b->X b)->(∀b,X b->b<w.heap.size)->(∀b∈L,¬X b)->L.Nodup->
  rd w X 0 .ow (.slice e.e e.t) l [v] L->WL w X 0 e.args xs vals->e.F l xs=K1 (r,l')->
  L9 P e.f (v::vals).toArray w λen w'=> ∃rs S,en=.returned (J7 rs)/\VD w' w.heap.size e.res r rs S/\S.Nodup/\(∃X',rd w' X' 0 .ow (.slice e.e e.t) l' [v] L)/\
   w'.os=w.os/\w'.tape=w.tape/\w'.output=w.output/\w.heap.size<=w'.heap.size/\ ∀b,b<w.heap.size->b∉L->w'.heap[b]? =w.heap[b]?
abbrev la:=List GE
def la.find(Γ:la)(f:Lg):Option GE:=
 match Γ with
 |[]=>K2
 |e::r=>match Lf e.f f with|true=>K1 e|false=>la.find r f
def la.ok(Γ:la)(P:Lh)(g:Kf):Prop:= ∀e∈Γ,E5 P g e
def la.find_ok{Γ:la}{P:Lh}{g:Kf}(h:Γ.ok P g){f:Lg}{e:GE}(he:Γ.find f=K1 e):e.f=f/\E5 P g e:=by
 induction Γ with
 |nil=>cases he
 |cons x r a=>
  simp only[la.find]at he;split at he
  ·rename_i b;simp only[pB]at he;subst he;exact⟨pD b,h _ Ac⟩
  ·exact a (λe he=>h e (by simp[he])) he
def HN(s:St):TB->Option Nat
 |.tm k (.val _ _ _)=>K1 k
 |.tm _ (.bor r [])=>match s.bad r []with|false=>K1 r|true=>K2
 |_=>K2
def YL(ts:List Ty):Bool:=ts.all Ty.flat
def N5(e:GE):Tm->Option (List e.t.den×(List e.t.den->Tm))
 |.val T (.u .ow) y=>match Jz (.slice e.e e.t) T y with|some l=>K1 (l,λz=>.val (.slice e.e e.t) (.u .ow) z)|none=>K2
 |.box k T (.u .ow) y=>match Jz (.slice e.e e.t) T y with|some l=>K1 (l,λz=>.box k (.slice e.e e.t) (.u .ow) z)|none=>K2
 |_=>K2
def JW{ρ:Type}(Γ:la)(n:Nat)(s:St)(dst:Option Nat)(f:Lg)(xs:List Lc)(k:St->Option ρ):Option ρ:=
 match Γ.find f,xs with
 |some e,x0::rest=>match HN s (RO s [] x0)with
  |some q=>match N5 e (s.get (.m q)),vw s [] e.args rest,YL e.args with
   |some lm,K1 us,K3=>match dst with
    |none=>(e.F lm.1 us).bind λz=>k (KJ s q (lm.2 z.2))
    |some d=>match Wa (KJ s q (lm.2 lm.1)) d&&Li d n with
     |true=>(e.F lm.1 us).bind λz=>k (Ti d (KJ s q (lm.2 z.2)) e.res z.1)
     |false=>K2
   |_,_,_=>K2
  |none=>K2
 |_,_=>K2
def Dn:∀{ts:List Ty}{xs:J6 ts}{vs:List K4},YL ts=K3->WL w X B ts xs vs->WL w X' B ts xs vs
 |[],_,_,_,h=>h
 |t::ts,xs,vs,a,⟨b,c,d,e,f⟩=>by
  simp only[YL,List.all_cons,pC]at a;exact⟨b,c,d,(ez a.1 e).2,Dn a.2 f⟩
def XI{own':Ow}{w w':Le}{X X':Nat->Prop}{B B':Nat}{own:Ow}:∀{T:Ty}{x:T.den}{vs:List K4}{S:List Nat},T.flat=K3->
  rd w X B own T x vs S->S=[]/\rd w' X' B' own' T x vs []
 |.unit,_,_,_,_,h|.int _,_,_,_,_,h|.bool,_,_,_,_,h|.fnc _,_,_,_,_,h|.str,_,_,_,_,h=>⟨h.2,h.1,rfl⟩
 |.slice _ _,_,_,_,c,_=>by grind[Ty.flat]
 |.pair a b,_,_,_,c,⟨d,f,q,r,e,g,i,j⟩=>by
  simp only[Ty.flat,pC]at c;obtain⟨rfl,m⟩:=XI c.1 i;obtain⟨rfl,o⟩:=XI c.2 j;exact⟨by simp[g],d,f,[],[],e,rfl,m,o⟩
 |.arr n t,_,_,_,c,⟨h,p⟩=>by
  obtain⟨e,k⟩:=iP (r':=rd w' X' B' own' t) (λx v S h=>XI (by simp_all[Ty.flat]) h) p;exact⟨e,h,k⟩
 |.err,_,_,_,_,h=>⟨h.2,h.1,rfl⟩
 |.hid _,_,_,_,c,⟨l,y,h⟩=>let⟨e,k⟩:=XI (by simp_all[Ty.flat]) h;⟨e,l,y,k⟩
 |.sptr ..,_,_,_,c,_=>by grind[Ty.flat]
 |.clo ..,_,_,_,c,_=>by grind[Ty.flat]
def Z83{w w':Le}{B:Nat}{e:Ld}{nn nn':Nat}{v:K4}{xs xs':List K4}(h:w.ownsRow B e sz v nn xs)(h':w'.ownsRow 0 e sz v nn' xs'):w'.ownsRow B e sz v nn' xs':=by
 refine⟨h'.1,h'.2.imp id λ⟨b,a,c,g,k,i⟩=>⟨b,a,c,g,?_,i⟩⟩;rcases h.2 with⟨j,_⟩|⟨l,d,f,j,m,_⟩
 all_goals simp_all
def Qqp{w w':Le}{X X' X'':Nat->Prop}{B:Nat}{e:Ld}{t:Ty}{l l':List t.den}{v:K4}(hf:t.flat=K3)(h:rd w X B .ow (.slice e t) l [v] L)(h':rd w' X' 0 .ow (.slice e t) l' [v] L'):rd w' X'' B .ow (.slice e t) l' [v] L':=by obtain⟨p,f,q,r,b,s,g,u⟩:=h;obtain⟨y,a,i,j,c,k,d,m⟩:=h';simp only[Mt,and_true]at b c;subst b;subst c;obtain⟨n,o⟩:=iP (r':=rd w' X'' B .ow t) (λx v S h=>XI hf h) m;exact⟨_,a,i,j,rfl,k,⟨Z83 g.1 d.1,d.2⟩,by rw[n];exact o⟩
def nS(h:R n W0 w X F H s a){x:Lc}{q:Nat}(hq:HN s (RO s [] x)=K1 q){T:Ty}{f:Fl}{y:T.den}(hg:s.get (.m q)=.val T f y):a.eval x=Qw W0.gh a (.m q):=by
 unfold HN at hq;split at hq
 ·rename_i k c d e hx;simp only[pB]at hq;subst hq;obtain⟨rfl,g,_⟩:=ug hx;simp_all[Y4]
 ·rename_i k r hx;obtain⟨rfl,_,i⟩:=Ji h (tg:=[]) (λp b=>by cases b) hx Ac
  grind[X4]
 ·cases hq
def Qbm(h:R n W0 w X F H s a){e:GE}(_hf:e.t.flat=K3){x:Lc}{q:Nat}(hq:HN s (RO s [] x)=K1 q){lm:List e.t.den×(List e.t.den->Tm)}(hl:N5 e (s.get (.m q))=K1 lm):
  ∃v L,a.eval x=v/\rd w X W0.B .ow (.slice e.e e.t) lm.1 [v] L/\(∀b∈L,b∈F (.m q))/\L.Nodup/\s.get (.m q)≠ .tup/\
   (∀z e T f x b S,s.get (.m q)=.box e T f x->F (.m q)=b::S-> ∃f' x' S'',lm.2 z=.box e T f' x'/\F (.m q)=b::S'')/\
   (∀z d,Wa (KJ s q (lm.2 lm.1)) d=K3->Wa (KJ s q (lm.2 z)) d=K3)/\
   ∀z w',(∀b,b<w.heap.size->b∉L->w'.heap[b]? =w.heap[b]?)->Td W0.gh w w' s (KJ s q (lm.2 z)) F F a q (lm.2 z)/\
    (rd w' X W0.B .ow (.slice e.e e.t) z [v] L->vt W0.gh w' X W0.B (KJ s q (lm.2 z)) F a (Qw W0.gh a (.m q)) (F (.m q)) (lm.2 z)):=by
 have o:∀{T:Ty}{y:T.den}{l:List e.t.den},Jz (.slice e.e e.t) T y=K1 l->T=.slice e.e e.t/\HEq y l:=by
  simp_all[Jz]
 have O:=h.slots (.m q);unfold N5 at hl;split at hl
 ·rename_i T y A;split at hl
  ·rename_i l V;obtain⟨rfl,j⟩:=o V;have j:=eq_of_heq j;subst j;simp only[pB]at hl;subst hl;rw[A]at O;obtain⟨vs,hv,g⟩:=O;unfold Pr at g;obtain⟨v,rfl⟩:∃v,vs=[v]:=Mv.1 (X9 g);have hv:Qw W0.gh a (.m q)=v:=hv;refine⟨v,F (.m q),(nS h hq A).trans hv,g,λ_ P=>P,h.nodup _,by rw[A];simp,(λz e T f x b S P=>Af),λz d u=>?_,λz w' _=>⟨wq ⟨by rw[Kn];simp,λp v U hv=>?_⟩,λhr=>⟨[v],by rw[hv];rfl,Aq⟩⟩⟩
   ·unfold Wa at u⊢;rw[Kn]at u⊢;by_cases C:A4.m q=A4.m d
    ·rw[if_pos C]at u⊢;exact u
    ·rw[if_neg C]at u⊢;exact u
   grind[X4,Kn]
  ·cases hl
 ·rename_i k T y A;split at hl
  ·rename_i l V;obtain⟨rfl,j⟩:=o V;have j:=eq_of_heq j;subst j;simp only[pB]at hl;subst hl;rw[A]at O;obtain⟨b,c,Q,hv,G,P,g⟩:=O;unfold Pr at g;obtain⟨v,I⟩:∃v,c.toList=[v]:=Mv.1 (X9 g);rw[I]at g;have ab:b∉Q:=λhm=>by have:=h.nodup (.m q);simp_all
   have ad:b<w.heap.size:=(h.own (.m q) b (by rw[G];simp)).2.1;have W:a.eval x=v:=by
    unfold HN at hq;split at hq
    ·rename_i k' T' f' y' hx;simp only[pB]at hq;subst hq;obtain⟨_,_,J⟩:=ug hx;rw[A]at J;cases J
    ·rename_i k' r hx;obtain⟨rfl,_,h2⟩:=Ji h (tg:=[]) (λp hp=>by cases hp) hx Ac;split at hq
     ·rename_i D;simp only[pB]at hq;subst hq;obtain⟨U,Y⟩:=h2 D;unfold X4 at Y;rw[A]at Y;obtain⟨b',c',S'',y',E,K,M,rfl,Z⟩:=Y;rw[G]at E;simp only[Mt]at E;obtain⟨rfl,rfl⟩:=E;rw[P]at K;simp only[pB,N0,and_true]at K;simp only[ap,pB]at M;subst M;rw[Z,<-K,I];rfl
     ·cases hq
    ·cases hq
   refine⟨v,Q,W,g,λb' ar=>Af,by have:=h.nodup (.m q);simp_all,by rw[A];simp,λz K T f x b2 S N au=>?_,λz d u=>?_,λz w' hw=>⟨wq ⟨by rw[Kn];simp,λp v U hv=>?_⟩,λhr=>⟨b,c,Q,hv,G,Af,Ak⟩⟩⟩
   ·rw[A]at N;cases N;simp_all
   ·unfold Wa at u⊢;rw[Kn]at u⊢;by_cases C:A4.m q=A4.m d
    ·simp_all
    ·rw[if_neg C]at u⊢;exact u
   ·unfold X4 at hv⊢;rw[A]at hv;rw[Kn];simp only[if_true];obtain⟨b',c',S'',y',E,K,M,Z,e5⟩:=hv;rw[G]at E;simp only[Mt]at E;obtain⟨rfl,rfl⟩:=E;cases p with
    |nil=>
     simp only[ap,pB]at M;subst M;exact⟨b,c',Q,_,G,Af,rfl,Z,e5⟩
    |cons i p=>grind[ap,fld]
  ·cases hl
 ·cases hl
def Qbl{Γ:la}(hΓ:Γ.ok P g)(h:R n W0 w X F [] s a){f:Lg}(hfo:a.eval fo=.func (.func f) #[] #[])(ho:o.op=.call {callee:=.value fo,args:=xs,argTypes:=ats}){k:St->Option ρ}{r:ρ}(hr:JW Γ n s o.dst f xs.toList k=K1 r)
   (hK:∀v w' X' F' s',k s'=K1 r->R n W0 w' X' F' [] s' (a.put o.dst v)->K (a.put o.dst v) w'):o.wp P a w K Q:=by
 unfold JW at hr;split at hr
 ·rename_i e x0 u he a7;obtain⟨rfl,y⟩:=la.find_ok hΓ he;split at hr
  ·rename_i q hq;split at hr
   ·rename_i lm us hl ad ar;obtain⟨v,L,hv,N,A,au,O,E,U,qX⟩:=Qbm h y.flat hq hl;have a8:∀b∈L,b<w.heap.size:=λb c=>(h.own _ _ (A b c)).2.1
    have call:∀{z},e.F lm.1 us=K1 z-> ∀{K':Act->Le->Prop},(∀l S w',R n W0 w' X F (S++[]) (KJ s q (lm.2 z.2)) a->VD w' W0.B e.res z.1 l S->K' (a.put o.dst (J7 l)) w')->o.wp P a w K' Q:=by
     intro z V K' D;have a0:xs.toList.map a.eval=v::u.map a.eval:=Af
     have hc:=y.calls w (λb=>b<w.heap.size/\b∉L) L lm.1 z.2 us z.1 v (u.map a.eval) h.glob (λb c=>⟨h.xlt b (h.gx b c),λC=>(h.own _ _ (A b C)).2.2 (h.gx b c)⟩) (λb c=>c.1) (λb c hx=>hx.2 c) au
      (by
       obtain⟨v1,a1,S1,S2,e1,e2,h1,h2⟩:=N;obtain⟨e5,I⟩:=iP (r':=rd w (λb=>b<w.heap.size/\b∉L) 0 .ow e.t) (λx v S h=>XI y.flat h) h2;exact⟨v1,a1,S1,S2,e1,e2,⟨C2 h1.1 (L5 _),h1.2⟩,by rw[e5];exact I⟩)
      (Dn ar (vx h (tg:=[]) (λp hp=>by cases hp) ad)) V
     have W:(execOp a.eval o).run P w=.ok (.enter e.f (v::u.map a.eval).toArray) w:=by
      have:execOp a.eval o=callFunc e.f (xs.map a.eval):=by
       simp_all[execOp,resolve,L4,invoke]
      rw[this,y.enters];congr 2
      grind
     unfold Ln;rw[W,L6];refine hc.mono λen w' ⟨l,S,a2,i,a3,⟨X2,Y⟩,h1,h2,h3,h4,I⟩=>?_;subst a2;show K' (a.put o.dst (J7 l)) w';have Z:∀{J:List Ty}{x:J6 J}{l:List K4}{S:List Nat},VD w' w.heap.size J x l S->(∀b∈S,w.heap.size<=b/\b<w'.heap.size)/\VD w' W0.B J x l S:=by
      intro J
      induction J with
      |nil=>intro x l S h;exact⟨by simp[h.2],h⟩
      |cons t J ih=>
       intro x l S ⟨cs,us,S1,S2,e1,e2,g1,g2⟩;obtain⟨k1,k2⟩:=ih g2;refine⟨λb c=>?_,cs,us,S1,S2,e1,e2,iN h.below.sizeB (λ_ h=>h) g1,k2⟩
       grind[xR]
     obtain⟨j,G⟩:=Z i;have a6:rd w' X W0.B .ow (.slice e.e e.t) z.2 [v] L:=Qqp y.flat N Y;have a4:W0.below w':=⟨h1.trans h.below.os,h2.trans h.below.tape,h3.trans h.below.output,Lm h.below.size h4,λb c=>
      (I b (L2 (W0.yW b c) h.below.size) λC=>W0.sep c (h.own _ _ (A b C)).1 rfl).trans (h.below.block b c)⟩
     have ab:Q6 F (.m q) (F (.m q))=F:=Ag
     obtain⟨a5,be⟩:=qX z.2 w' I;have M:=h.turn' (w':=w') (S':=F (.m q)) (by rw[ab];exact a5) a4 h4 (λb c=>I b (h.xlt b c) λC=>(h.own _ _ (A b C)).2.2 c)
      (λk b hk c=>I b (h.own k b c).2.1 λC=>hk (h.pS _ _ b c (A b C))) (H':=[]) (λb c=>by simpa using c) (by simpa using h.nodup (.m q)) O (E z.2)
      Af
     rw[ab]at M;exact D l S w' (M.hand (λb c=>⟨.inl (Lm h.below.size (j b c).1),(j b c).2,λhx=>by have:=h.xlt b hx;grind⟩) a3
      (λk b c C=>by have:=(h.own k b c).2.1;grind) (λb c C=>by cases C)) G
    split at hr
    ·rename_i hd;simp only[Lv]at hr;obtain⟨z,V,hk⟩:=hr;refine call V λl S w' M i=>?_;have D:=hK (J7 l) w' X F _ hk;rw[hd]at D⊢;exact D M.drop
    ·rename_i d hd;split at hr
     ·rename_i H;simp only[pC,Lp]at H;simp only[Lv]at hr;obtain⟨z,V,hk⟩:=hr;refine call V λl S w' M i=>?_;obtain⟨F',bl⟩:=M.putRes (U z.2 d H.1) H.2 i
      grind
     ·cases hr
   ·cases hr
  ·cases hr
 ·cases hr
inductive AK where
 |sh (T:Ty)
 |bx (e:Ld) (T:Ty) (o:Fl)
 |mv (T:Ty) (f:Fl)
@[reducible] def Dk:List AK->Type|[]=>Unit|.sh T::r=>T.den×Dk r|.bx _ T _::r=>T.den×Dk r|.mv T _::r=>T.den×Dk r
@[reducible] def JM:List AK->Type|[]=>Unit|.sh _::r=>JM r|.bx _ T _::r=>T.den×JM r|.mv .. ::r=>JM r
inductive RS where
 |vals (ts:List Ty)
 |newb (e:Ld) (T:Ty)
 |shr (ts:List Ty)
 |flg (ts:List (Ty×Fl))
 |fp (T:Ty) (j:Nat) (p1 p2:List Nat)
@[reducible] def NV:List (Ty×Fl)->Type|[]=>Unit|t::r=>t.1.den×NV r
@[reducible] def FT:RS->Type|.vals ts=>J6 ts|.newb _ T=>T.den|.shr ts=>J6 ts|.flg ts=>NV ts|.fp .. =>Bool
def LU(w:Le)(X:Nat->Prop)(B:Nat):(ts:List (Ty×Fl))->NV ts->List K4->List Nat->Prop|[],_,vs,S=>vs=[]/\S=[]|t::ts,x,vs,S=> ∃cs us S1 S2,vs=Yh t.1 cs::us/\S=S1++S2/\Pr w X B t.1 t.2 x.1 cs S1/\LU w X B ts x.2 us S2
def qP(w:Le)(X:Nat->Prop):(ts:List Ty)->J6 ts->List K4->Prop|[],_,vs=>vs=[]|t::ts,x,vs=> ∃cs us,vs=Yh t cs::us/\rd w X 0 .sh t x.1 cs []/\qP w X ts x.2 us
def O3(w:Le)(X:Nat->Prop):(as:List AK)->Dk as->List K4->List Nat->Prop|[],_,vs,L=>vs=[]/\L=[]|.sh t::r,x,vs,L=> ∃cs us,vs=Yh t cs::us/\rd w X 0 .sh t x.1 cs []/\O3 w X r x.2 us L|.bx e t o::r,x,vs,L=> ∃b c S us L',vs=.pointer (K1 ⟨b,0,K2⟩)::us/\L=b:: (S++L')/\w.heap[b]? =K1 (.cells c e (0,0))/\Pr w X 0 t o x.1 c.toList S/\O3 w X r x.2 us L'|.mv t f::r,x,vs,L=> ∃cs S us L',vs=Yh t cs::us/\L=S++L'/\Pr w X 0 t f x.1 cs S/\O3 w X r x.2 us L'
def AV(w:Le)(X:Nat->Prop):(as:List AK)->JM as->List K4->List Nat->List Nat->Prop|[],_,vs,BL,C=>vs=[]/\BL=[]/\C=[]|.sh _::r,x,vs,BL,C=> ∃v us,vs=v::us/\AV w X r x us BL C|.bx e t o::r,x,vs,BL,C=> ∃b c S us BL' C',vs=.pointer (K1 ⟨b,0,K2⟩)::us/\BL=b::BL'/\C=S++C'/\w.heap[b]? =K1 (.cells c e (0,0))/\Pr w X 0 t o x.1 c.toList S/\AV w X r x.2 us BL' C'|.mv .. ::r,x,vs,BL,C=> ∃v us,vs=v::us/\AV w X r x us BL C
def Uy(w:Le)(X:Nat->Prop):(r:RS)->FT r->List K4->List Nat->Prop|.vals ts,x,vs,S=>VD w 0 ts x vs S|.newb e T,x,vs,S=> ∃b c,vs=[.pointer (K1 ⟨b,0,K2⟩)]/\S=[b]/\w.heap[b]? =K1 (.cells c e (0,0))/\rd w X 0 .sh T x c.toList []|.shr ts,x,vs,S=>S=[]/\qP w X ts x vs|.flg ts,x,vs,S=>LU w X 0 ts x vs S|.fp ..,_,_,S=>S=[]
def B6:(r:RS)->FT r->List K4->List Nat->Prop|.fp T j p1 p2,x,vs,BL=> ∃b,BL[j]? =K1 b/\vs=[.pointer (K1 ⟨b,Yn T (cond x p1 p2),K2⟩)]|.vals _,_,_,_|.newb ..,_,_,_|.shr _,_,_,_|.flg _,_,_,_=>True
structure A9 where
 f:Lg
 args:List AK
 res:RS
 F:Dk args->Option (FT res×JM args)
structure dg(w w':Le)(X X':Nat->Prop)(L N:List Nat):Prop where
 os:w'.os=w.os
 tape:w'.tape=w.tape
 output:w'.output=w.output
 size:w.heap.size<=w'.heap.size
 xx:∀b,X b->X' b
 xlt:∀b,X' b->b<w'.heap.size
 xin:∀b,X' b->X b\/w.heap.size<=b\/b∈L
 nd:N.Nodup
 nin:∀b,b∈N->(w.heap.size<=b\/b∈L)/\b<w'.heap.size/\ ¬X' b
 block:∀b,b<w.heap.size->b∉L->w'.heap[b]? =w.heap[b]?
structure gZ(P:Lh)(g:Kf)(e:A9):Prop where
 enters:∀args w,(callFunc e.f args).run P w=.ok (.enter e.f args) w
 calls:∀(w:Le)(X:Nat->Prop)(L:List Nat)(xs:Dk e.args)(r:FT e.res×JM e.args)(vals:List K4),g.G w->(∀b,g.GB b->X b)->(∀b,X b->b<w.heap.size)->(∀b,b∈L-> ¬X b/\b<w.heap.size)->L.Nodup->
  O3 w X e.args xs vals L->e.F xs=K1 r->
  L9 P e.f vals.toArray w λen w'=> ∃rs S BL C X',en=.returned (J7 rs)/\dg w w' X X' L (S++(BL++C))/\Uy w' X' e.res r.1 rs S/\AV w' X' e.args r.2 vals BL C/\B6 e.res r.1 rs BL
abbrev E7:=List A9
def E7.find(Γ:E7)(f:Lg):Option A9:=
 match Γ with
 |[]=>K2
 |e::r=>match Lf e.f f with|true=>K1 e|false=>E7.find r f
def E7.ok(Γ:E7)(P:Lh)(g:Kf):Prop:= ∀e∈Γ,gZ P g e
def E7.find_ok{Γ:E7}{P:Lh}{g:Kf}(h:Γ.ok P g){f:Lg}{e:A9}(he:Γ.find f=K1 e):e.f=f/\gZ P g e:=by
 induction Γ with
 |nil=>cases he
 |cons x r a=>
  simp only[E7.find]at he;split at he
  ·rename_i b;simp only[pB]at he;subst he;exact⟨pD b,h _ Ac⟩
  ·exact a (λe he=>h e (by simp[he])) he
def r9:Fl->Fl->Ty->Bool|.u .ow,f,T=>Wb T f (.u .ow)|.u .an,f,T=>Wb T f (.u .an)|.u .sh,f,T=>rV f T|.p a b,f,.pair A B=>r9 a (ZD f 0) A&&r9 b f.snd B|o,f,T=>Wb T f o
def Uz:TB->Option Nat|.tm k (.box _ _ _ _)=>K1 k|.tm _ (.ptr r [])=>K1 r|_=>K2
def CJ(s:St)(o:TB)(T:Ty):Option T.den:=
 match o with
 |.cst v=>G2 T v
 |o=>match xK s o with
  |some ⟨U,f,x⟩=>match rV f U with
   |true=>Jz T U x
   |false=>K2
  |none=>K2
def WC:St->List AK->List Lc->Option (List TV×St)
 |s,.mv t f::as,x::xs=>match xB s (RO s [] x) t with
  |some u=>match Wb u.T u.f f,WC u.s as xs with
   |true,K1 (l,s')=>K1 (⟨u.T,u.x⟩::l,s')
   |_,_=>K2
  |none=>K2
 |s,.sh _::as,_::xs=>WC s as xs
 |s,.bx _ _ _::as,_::xs=>WC s as xs
 |s,_,_=>K1 ([],s)
def TI(s:St):List TV->(as:List AK)->List Lc->Option (Dk as×List Nat)
 |_,[],[]=>K1 ((),[])
 |m,.sh t::as,x::xs=>match CJ s (RO s [] x) t,TI s m as xs with
  |some u,K1 (us,rs)=>K1 ((u,us),rs)
  |_,_=>K2
 |m,.bx e t o::as,x::xs=>match Uz (RO s [] x)with
  |some q=>match s.get (.m q)with
   |.box e' U f y=>match Lf e' e&&r9 o f U,Jz t U y,TI s m as xs with
    |true,K1 u,K1 (us,rs)=>K1 ((u,us),q::rs)
    |_,_,_=>K2
   |_=>K2
  |none=>K2
 |z::m,.mv t _::as,_::xs=>match Jz t z.1 z.2,TI s m as xs with
  |some u,K1 (us,rs)=>K1 ((u,us),rs)
  |_,_=>K2
 |_,_,_=>K2
def vY:List Nat->Bool|[]=>K3|x::xs=> !(xs.any (Lf x))&&vY xs
def uv:List AK->List Lc->St->St
 |.sh t::as,x::xs,s=>match t.flat with
  |true=>uv as xs s
  |false=>match HN s (RO s [] x)with
   |some q=>match s.get (.m q)with
    |.val U f y=>match rV f U,f.live with
     |false,K3=>uv as xs (KJ s q (.val U (.u .sh) y))
     |_,_=>uv as xs s
    |_=>uv as xs s
   |none=>uv as xs s
 |.bx _ _ _::as,_::xs,s=>uv as xs s
 |.mv .. ::as,_::xs,s=>uv as xs s
 |_,_,s=>s
def yD:List Nat->St->St
 |[],s=>s
 |q::rs,s=>match s.get (.m q)with
  |.box e T _ y=>yD rs (Y7 s q (.box e T .d y))
  |_=>yD rs s
def CQ:(as:List AK)->JM as->List Nat->St->St|[],_,_,s=>s|.sh _::r,x,rs,s=>CQ r x rs s|.bx e T o::r,x,q::rs,s=>CQ r x.2 rs (Y7 s q (.box e T o x.1))|.bx _ _ _::_,_,[],s=>s|.mv .. ::r,x,rs,s=>CQ r x rs s
def gU(d:Nat):(ts:List Ty)->J6 ts->Nat->List (A4×Tm)->List (A4×Tm)|[],_,_,r=>r|t::ts,x,i,r=>gU d ts x.2 (i+1) ((.c d i,.val t (.u .sh) x.1)::r)
def Qsm(d:Nat)(s:St):(ts:List Ty)->J6 ts->St|[t],r=>Jb s d (.val t (.u .sh) r.1)|[],r=>{env:=gU d [] r 0 (Jb s d .tup).env,pP:=(Jb s d .tup).pP,pQ:=s.pQ}|t::u::ts,r=>{env:=gU d (t::u::ts) r 0 (Jb s d .tup).env,pP:=(Jb s d .tup).pP,pQ:=s.pQ}
def Ui(d:Nat):(ts:List (Ty×Fl))->NV ts->Nat->List (A4×Tm)->List (A4×Tm)|[],_,_,r=>r|t::ts,x,i,r=>Ui d ts x.2 (i+1) ((.c d i,.val t.1 t.2 x.1)::r)
def Quz(d:Nat)(s:St):(ts:List (Ty×Fl))->NV ts->St|[t],r=>Jb s d (.val t.1 t.2 r.1)|[],r=>{env:=Ui d [] r 0 (Jb s d .tup).env,pP:=(Jb s d .tup).pP,pQ:=s.pQ}|t::u::ts,r=>{env:=Ui d (t::u::ts) r 0 (Jb s d .tup).env,pP:=(Jb s d .tup).pP,pQ:=s.pQ}
def Z5g(d:Nat)(s:St):(r:RS)->FT r->St|.vals ts,x=>Ti d s ts x|.newb e T,x=>Jb s d (.box e T (.u .sh) x)|.shr ts,x=>Qsm d s ts x|.flg ts,x=>Quz d s ts x|.fp ..,_=>s
def BQ{ρ:Type}(d:Nat)(rs:List Nat)(s:St):(r:RS)->FT r->(St->Option ρ)->Option ρ
 |.fp T j p1 p2,x,k=>match rs[j]? with
  |some q=>match s.get (.m q)with
   |.box _ U _ _=>match Lz (U=T)with
    |true=>cond x (k (Jb s d (.ptr q p1))) (k (Jb s d (.ptr q p2)))
    |false=>K2
   |_=>K2
  |none=>K2
 |.vals ts,x,k=>k (Z5g d s (.vals ts) x)
 |.newb e T,x,k=>k (Z5g d s (.newb e T) x)
 |.shr ts,x,k=>k (Z5g d s (.shr ts) x)
 |.flg ts,x,k=>k (Z5g d s (.flg ts) x)
def Fp{ρ:Type}(Γ:E7)(n:Nat)(s:St)(dst:Option Nat)(f:Lg)(xs:List Lc)(k:St->Option ρ):Option ρ:=
 match Γ.find f with
 |none=>K2
 |some e=>match WC (uv e.args xs s) e.args xs with
  |none=>K2
  |some (m,s2)=>match TI s2 m e.args xs with
   |none=>K2
   |some (us,rs)=>match vY rs with
    |false=>K2
    |true=>match dst with
     |none=>(e.F us).bind λz=>k (CQ e.args z.2 rs (yD rs s2))
     |some d=>match Wa (yD rs s2) d&&Li d n&& !(rs.any (Lf d))with
      |false=>K2
      |true=>(e.F us).bind λz=>BQ d rs (CQ e.args z.2 rs (yD rs s2)) e.res z.1 k
theorem JT{x:Nat}{l:List Nat}(h:(l.any (Lf x))=La):x∉l:=λhx=>by
 grind[Lf,M8,Ng]
def RP:∀{l:List Nat},vY l=K3->l.Nodup
 |[],_=>Nx
 |x::a,h=>by
  simp only[vY,pC,Lq]at h;exact L1.2 ⟨JT h.1,RP h.2⟩
theorem V8:∀{T:Ty}{x:T.den}{vs:List K4}{S:List Nat},rd w X B own T x vs S->(∀b,b∈S->B'<=b)->rd w X B' own T x vs S
 |.unit,_,_,_,h,_|.int _,_,_,_,h,_|.bool,_,_,_,h,_|.fnc _,_,_,_,h,_|.str,_,_,_,h,_=>h
 |.slice _ _,_,_,_,⟨v,C,s,u,e,p,f,i⟩,d=>by
  refine⟨v,C,s,u,e,p,?_,Yt i λ_ _ _ _ z h=>V8 h λb q=>d b Af⟩;cases own
  ·exact f
  ·obtain⟨m,j⟩:=f;refine⟨⟨m.1,m.2.imp id λ⟨b,k,l,r,J,D⟩=>⟨b,k,l,r,d b ?_,D⟩⟩,j⟩;rw[p,j,r];simp[M1]
  ·obtain⟨m,j,r⟩:=f;refine⟨m,j,r.imp id λ⟨g,o,k,l,A,K,E⟩=>⟨g,o,k,l,A,d g ?_,E⟩⟩;rw[p,j,A];simp[M1]
 |.pair a b,_,_,_,⟨F,G,s,u,e,p,f,i⟩,d=>
  ⟨F,G,s,u,e,p,V8 f λb q=>d b Af,V8 i λb q=>d b Af⟩
 |.arr n t,_,_,_,⟨h,H⟩,d=>⟨h,Yt H λ_ _ _ _ z h=>V8 h λb q=>d b (z b q)⟩
 |.err,_,_,_,h,_=>h
 |.hid _,_,_,_,⟨e,y,h⟩,d=>⟨e,y,V8 h d⟩
 |.sptr ..,_,_,_,⟨e,o,b,c,f,i,m,j⟩,_=>⟨e,o,b,c,f,i,m,V8 j Ac⟩
 |.clo ..,_,_,_,⟨e,I,f,i⟩,_=>⟨e,I,f,V8 i Ac⟩
def MN:∀{ts:List Ty}{x:J6 ts}{vs:List K4}{S:List Nat},VD w B ts x vs S->(∀b,b∈S->B'<=b)->VD w B' ts x vs S
 |[],_,_,_,h,_=>h
 |t::ts,x,vs,S,⟨c,d,e,f,g,i,j,k⟩,a=>
  ⟨c,d,e,f,g,i,V8 j λb l=>a b Af,MN k λb l=>a b Af⟩
def Ql1{e:Ld}{n:Nat}{v:K4}{xs:List K4}(hB:B'<=B)(hX:∀b,X b->X' b)(h:ep w X B own e sz n v xs S):ep w X' B' own e sz n v xs S:=by
 cases own
 ·obtain⟨l,m,a,c,p,q,r,s⟩:=h;exact⟨l,m,a,c,p,q,r,s.imp id λ⟨t,f,i,j⟩=>⟨t,f,i.imp id (hX _),j⟩⟩
 ·obtain⟨k,u⟩:=h;exact⟨⟨k.1,k.2.imp id λ⟨b,c,d,x,y,z⟩=>⟨b,c,d,x,Lm hB y,z⟩⟩,u⟩
 ·exact⟨h.1,h.2.1,h.2.2.imp id λ⟨g,o,c,d,f,i,j⟩=>⟨g,o,c,d,f,Lm hB i,j⟩⟩
def Qdv{e:Ld}{n:Nat}{v:K4}{xs:List K4}(h1:ep w X B own e sz n v xs S)(hS:∀b,b∈S->B'<=b):ep w X B' own e sz n v xs S:=by
 cases own
 ·exact h1
 ·obtain⟨f,d⟩:=h1;refine⟨⟨f.1,f.2.imp id λ⟨b,a,c,h,l,j⟩=>⟨b,a,c,h,hS b ?_,j⟩⟩,d⟩;rw[d,h];simp[M1]
 ·obtain⟨f,d,h⟩:=h1;refine⟨f,d,h.imp id λ⟨g,o,a,c,i,m,k⟩=>⟨g,o,a,c,i,hS g ?_,k⟩⟩;rw[d,i];simp[M1]
def yw(hB:B'<=B)(hX:∀b,X b->X' b):∀{T:Ty}{f:Fl}{x:T.den}{vs:List K4}{S:List Nat},Pr w X B T f x vs S->Pr w X' B' T f x vs S
 |T,.d,_,_,_,h=>Ak
 |T,.u b,_,_,_,h=>by grind[Pr,iN]
 |.pair a b,.p f g,_,_,_,⟨j,k,l,m,e,n,c,i⟩=>⟨j,k,l,m,e,n,yw hB hX c,yw hB hX i⟩
 |.slice e t,.p f g,_,_,_,h=>by
  obtain⟨rfl,rfl,v,o,q,c,i⟩:=nB h;exact⟨v,o,q,Ql1 hB hX c,Yt i λ_ _ _ _ _ h=>iN hB hX h⟩
 |.unit,.p ..,_,_,_,h|.int _,.p ..,_,_,_,h|.bool,.p ..,_,_,_,h|.fnc _,.p ..,_,_,_,h|.str,.p ..,_,_,_,h|.err,.p ..,_,_,_,h|.hid _,.p ..,_,_,_,h|.sptr ..,.p ..,_,_,_,h|.clo ..,.p ..,_,_,_,h|.arr ..,.p ..,_,_,_,h=>by simp[Pr]at h
theorem TK:∀{T:Ty}{f:Fl}{x:T.den}{vs:List K4}{S:List Nat},Pr w X B T f x vs S->(∀b,b∈S->B'<=b)->Pr w X B' T f x vs S
 |T,.d,_,_,_,h,_=>Ak
 |T,.u b,_,_,_,h,c=>by grind[Pr,V8]
 |.pair a b,.p f g,_,_,_,⟨l,m,n,o,e,q,i,j⟩,c=>⟨l,m,n,o,e,q,TK i λb k=>c b Af,TK j λb k=>c b Af⟩
 |.slice e t,.p f g,_,_,_,h,c=>by
  obtain⟨rfl,rfl,v,r,s,i,j⟩:=nB h;exact⟨v,r,s,Qdv i c,Yt j λ_ _ _ _ y h=>V8 h λb k=>absurd (y b k) Ac⟩
 |.unit,.p ..,_,_,_,h,_|.int _,.p ..,_,_,_,h,_|.bool,.p ..,_,_,_,h,_|.fnc _,.p ..,_,_,_,h,_|.str,.p ..,_,_,_,h,_|.err,.p ..,_,_,_,h,_|.hid _,.p ..,_,_,_,h,_|.sptr ..,.p ..,_,_,_,h,_|.clo ..,.p ..,_,_,_,h,_|.arr ..,.p ..,_,_,_,h,_=>by simp[Pr]at h
theorem Hf:∀{o f:Fl}{T:Ty}{x:T.den}{vs:List K4}{S:List Nat},r9 o f T=K3->Pr w X B T f x vs S->Pr w X B T o x vs S
 |.u .ow,f,T,x,vs,S,h,c=>by unfold r9 at h;exact bD h c
 |.u .an,f,T,x,vs,S,h,c=>by unfold r9 at h;exact bD h c
 |.u .sh,f,T,x,vs,S,h,c=>by
  unfold r9 at h;have e:=kI h c;subst e;have:∀{f:Fl}{T:Ty},rV f T=K3->f.live=true:=by
   intro f
   induction f with
   |u b=>intro T _;rfl
   |d=>simp_all[rV]
   |p s t g i=>
    intro T h;cases T<;>simp[rV]at h
    grind[Fl.live]
  unfold Pr;exact J3 (λ_ h=>h) (this h) c Ac
 |.p a b,f,.pair A v,x,vs,S,h,c=>by
  unfold r9 at h;simp only[pC]at h;obtain⟨j,k,l,m,e,n,q,r⟩:=XH c;exact⟨j,k,l,m,e,n,Hf h.1 q,Hf h.2 r⟩
 |.p a b,f,.slice ..,x,vs,S,h,c|.p a b,f,.unit,x,vs,S,h,c|.p a b,f,.int _,x,vs,S,h,c|.p a b,f,.bool,x,vs,S,h,c|.p a b,f,.str,x,vs,S,h,c|.p a b,f,.arr ..,x,vs,S,h,c|.p a b,f,.fnc _,x,vs,S,h,c|.p a b,f,.err,x,vs,S,h,c|.p a b,f,.hid _,x,vs,S,h,c|.p a b,f,.sptr ..,x,vs,S,h,c|.p a b,f,.clo ..,x,vs,S,h,c=>by unfold r9 at h;exact bD h c
 |.d,f,T,x,vs,S,h,c=>by grind[r9,bD]
def vH(h:R n W0 w X F H s a){x:Lc}{T:Ty}{y:T.den}(hr:CJ s (RO s [] x) T=K1 y):
  ∃vs,a.eval x=Yh T vs/\rd w X 0 .sh T y vs []:=by
 unfold CJ at hr;split at hr
 ·rename_i v hv;obtain rfl:=Cq hv;obtain⟨vs,c,b⟩:=zR (w:=w) (X:=X) (B:=0) (own:=.sh) hr;exact⟨vs,c,b⟩
 ·split at hr
  ·rename_i U f k d;obtain⟨g,vs,S,c,b,l⟩:=lx h (tg:=[]) (λp i=>by cases i) d;split at hr
   ·rename_i j;cases Wu hr;have e:=kI j b;subst e;exact⟨vs,c,iN (L5 _) (λ_ h=>h) (J3 (λ_ h=>h) g b Ac)⟩
   ·cases hr
  ·cases hr
def Cw(F:A4->List Nat)(s:St):List AK->List Nat->List K4->Prop|[],rs,vs=>rs=[]/\vs=[]|.sh _::as,rs,vs=> ∃v us,vs=v::us/\Cw F s as rs us|.bx e T _::as,rs,vs=> ∃q rs' b S us f y,rs=q::rs'/\vs=.pointer (K1 ⟨b,0,K2⟩)::us/\F (.m q)=b::S/\s.get (.m q)=.box e T f y/\Cw F s as rs' us|.mv .. ::as,rs,vs=> ∃v us,vs=v::us/\Cw F s as rs us
theorem Oe(h:R n W0 w X F H s a){x:Lc}{q:Nat}(hq:Uz (RO s [] x)=K1 q){e:Ld}{T:Ty}{f:Fl}{y:T.den}(hg:s.get (.m q)=.box e T f y):a.eval x=Qw W0.gh a (.m q):=by
 unfold Uz at hq;split at hq
 ·rename_i k i j l o hx;simp only[pB]at hq;subst hq;obtain⟨rfl,v,_⟩:=ug hx;simp_all[Y4]
 ·rename_i k r hx;simp only[pB]at hq;subst hq;obtain⟨rfl,_,i,j,l,o,b,S,z,t,A⟩:=Ji h (tg:=[]) (λp u=>by cases u) hx Ac;have d:=h.slots (.m r);rw[hg]at d;obtain⟨B,c,C,D,g,_⟩:=d;rw[t]at g;obtain⟨rfl,_⟩:=Ls g;simp_all[Yn]
 ·cases hq
def YK(w:Le)(X:Nat->Prop)(ev:Lc->K4):List TV->List AK->List Lc->List Nat->Prop|z::m,.mv t f::as,x::xs,M=> ∃vs S M',M=S++M'/\ev x=Yh z.1 vs/\Pr w X 0 z.1 f z.2 vs S/\t=z.1/\YK w X ev m as xs M'|m,.sh _::as,_::xs,M=>YK w X ev m as xs M|m,.bx _ _ _::as,_::xs,M=>YK w X ev m as xs M|_,_,_,_=>True
def R.perm(h:R n W0 w X F H s a)(hp:H'.Perm H):R n W0 w X F H' s a:=
 {h with
  hown:=λb c=>h.hown b (hp.mem_iff.1 c)
  pK:=hp.nodup_iff.2 h.pK
  pL:=λk b c d=>h.pL k b c (hp.mem_iff.1 d)}
def GP:∀{as:List AK}{xs:List Lc}{s s2:St}{m:List TV}{F:A4->List Nat}{H:List Nat},R n W0 w X F H s a->WC s as xs=K1 (m,s2)->
  ∃M F',R n W0 w X F' (M++H) s2 a/\(∀b,b∈M->W0.B<=b)/\YK w X a.eval m as xs M/\(∀q,s.isBox q->s2.isBox q)
 |.mv t f::as,x::xs,s,s2,m,F,H,h,c=>by
  simp only[WC]at c;split at c
  ·rename_i u o;split at c
   ·rename_i l J v y;simp only[pB,pF]at c;obtain⟨rfl,rfl⟩:=c;obtain⟨z,K,S,A,C,D,E,_,_⟩:=cP h (tg:=[]) (λp G=>by cases G) o;have r:=bD v D;obtain⟨M,d,e,g,i,j⟩:=GP E y;refine⟨S++M,d,e.perm ?_,λb k=>(Mj.1 k).elim (λk=>(T8 r b k).1) (g b),⟨A,S,M,rfl,C,yw (L5 _) (λ_ h=>h) r,z.symm,i⟩,λq I=>j q (ZA o I)⟩
    grind
   ·cases c
  ·cases c
 |.sh t::as,x::xs,s,s2,m,F,H,h,c=>by
  simp only[WC]at c;obtain⟨M,d,e,g,i,j⟩:=GP h c;exact⟨M,d,e,g,by cases m<;>exact i,j⟩
 |.bx _ _ _::as,x::xs,s,s2,m,F,H,h,c=>by
  simp only[WC]at c;obtain⟨M,d,e,g,i,j⟩:=GP h c;exact⟨M,d,e,g,by cases m<;>exact i,j⟩
 |[],xs,s,s2,m,F,H,h,c=>by
  simp only[WC,pB,pF]at c;obtain⟨rfl,rfl⟩:=c;exact⟨[],F,h,Ac,by cases xs<;>trivial,λ_ h=>h⟩
 |.mv .. ::_,[],s,s2,m,F,H,h,c|.sh _::_,[],s,s2,m,F,H,h,c|.bx _ _ _::_,[],s,s2,m,F,H,h,c=>by
  simp only[WC,pB,pF]at c;obtain⟨rfl,rfl⟩:=c;exact⟨[],F,h,Ac,trivial,λ_ h=>h⟩
def HE(h:R n W0 w X F H s a):∀{m:List TV}{as:List AK}{xs:List Lc}{us:Dk as}{rs:List Nat}{M:List Nat},YK w X a.eval m as xs M->M.Nodup->(∀k b,b∈F k->b∉M)->TI s m as xs=K1 (us,rs)->vY rs=K3->
  ∃L,O3 w X as us (xs.map a.eval) L/\Cw F s as rs (xs.map a.eval)/\L.Nodup/\(∀b,b∈L->(∃q,q∈rs/\b∈F (.m q))\/b∈M)
 |m,[],[],us,rs,M,p,g,i,d,r=>by
  simp only[TI,pB,pF]at d;obtain⟨_,rfl⟩:=d;exact⟨[],⟨rfl,rfl⟩,⟨rfl,rfl⟩,Nx,Ac⟩
 |m,.sh t::as,x::xs,us,rs,M,p,g,i,d,r=>by
  have v:YK w X a.eval m as xs M:=by cases m<;>exact p
  simp only[TI]at d;split at d
  ·rename_i u B l C j;simp only[pB,pF]at d;obtain⟨rfl,rfl⟩:=d;obtain⟨cs,P,W⟩:=vH h C;obtain⟨L,D,E,G,N⟩:=HE (as:=as) (xs:=xs) h v g i j r;exact⟨L,⟨cs,_,by simp[P],W,D⟩,⟨_,_,rfl,E⟩,G,N⟩
  ·cases d
 |m,.bx e t o::as,x::xs,us,rs,M,p,g,i,d,r=>by
  have v:YK w X a.eval m as xs M:=by cases m<;>exact p
  simp only[TI]at d;split at d
  ·rename_i q hq;split at d
   ·rename_i e' U f y Q;split at d
    ·rename_i u B l A C j;simp only[pB,pF]at d;obtain⟨rfl,rfl⟩:=d;simp only[pC]at A;have he:=pD A.1;subst he;cases Wu C;simp only[vY,pC,Lq]at r;obtain⟨L,D,E,G,N⟩:=HE (as:=as) (xs:=xs) h v g i j r.2;have I:=Oe h hq Q;have Y:=h.slots (.m q);rw[Q]at Y;obtain⟨b,c,S,O,J,Z,g4⟩:=Y;have ab:q∉l:=JT r.1;refine⟨b:: (S++L),⟨b,c,S,_,L,by simp[I,O],rfl,Z,?_,D⟩,⟨q,l,b,S,_,f,_,rfl,by simp[I,O],J,Q,E⟩,?_,?_⟩
     ·exact yw (L5 _) (λ_ h=>h) (Hf A.2 g4)
     ·have K:=h.nodup (.m q);rw[J]at K;have:(b::S++L).Nodup:=Ll.2 ⟨K,G,λx hx y hy e=>by
       subst e;rcases N x hy with⟨q',ad,V⟩|hM
       ·have:=h.pS (.m q) (.m q') x (by rw[J];exact hx) V;simp_all
       grind⟩
      simpa using this
     grind
    ·cases d
   ·cases d
  ·cases d
 |z::m,.mv t f::as,x::xs,us,rs,M,p,g,i,d,r=>by
  simp only[TI]at d;split at d
  ·rename_i u B l C j;simp only[pB,pF]at d;obtain⟨rfl,rfl⟩:=d;obtain⟨vs,S,M',rfl,P,W,rfl,h3⟩:=p;have ar:=Wu C;have au:z.2=u:=Af
   obtain⟨O,J,Z⟩:=Ll.1 g;obtain⟨L,D,E,G,N⟩:=HE h h3 J (λk b hb p=>i k b hb (by simp[p])) j r;refine⟨S++L,⟨vs,S,_,L,by simp[P],rfl,Af,D⟩,⟨_,_,rfl,E⟩,Ll.2 ⟨O,G,λy hy y' a0 e=>?_⟩,λb hb=>?_⟩
   all_goals grind
  ·cases d
 |[],.mv .. ::_,_,_,_,_,_,_,_,d,_=>by grind[TI]
 |_::_,.mv .. ::_,[],_,_,_,_,_,_,d,_=>by grind[TI]
 |_,[],_::_,_,_,_,_,_,_,d,_=>by grind[TI]
 |_,.sh _::_,[],_,_,_,_,_,_,d,_|_,.bx .. ::_,[],_,_,_,_,_,_,d,_=>by simp[TI]at d
def R.frz(hs0:g.soft=La)(h:R n W0 w X F H s a){T:Ty}{f:Fl}{x:T.den}(hg:s.get (.m k)=.val T f x)(hf:f.live=K3):
  R n W0 w (λb=>X b\/b∈F (.m k)) (Q6 F (.m k) []) H (KJ s k (.val T (.u .sh) x)) a:=by
 have A:Td W0.gh w w s (KJ s k (.val T (.u .sh) x)) F (Q6 F (.m k) []) a k (.val T (.u .sh) x):=wq ⟨by rw[Kn];simp,λp v U hv=>by
  unfold X4 at hv⊢;rw[hg]at hv;rw[Kn];simpa using hv⟩
 exact
 {size:=h.size
  defers:=h.defers
  below:=h.below
  glob:=h.glob
  gx:=λb c=>.inl (h.gx b c)
  xs:=λe=>Af
  fix:=h.fix
  xlt:=λb c=>c.elim (h.xlt b) λc=>(h.own _ b c).2.1
  xin:=λb c=>c.elim (h.xin b) λc=>.inr (h.own _ b c).1
  x0:=λb c=>.inl (h.x0 b c)
  own:=λj b c=>by
   simp only[Q6]at c;split at c
   ·cases c
   ·rename_i q;obtain⟨o,r,t⟩:=h.own j b c;exact⟨o,r,λhx=>hx.elim t λhk=>q (h.pS j (.m k) b c hk)⟩
  nodup:=λj=>by
   simp only[Q6];split
   ·simp
   ·exact h.nodup j
  pS:=λj B b c l=>by
   simp only[Q6]at c l;split at c
   ·cases c
   ·split at l
    ·cases l
    ·exact h.pS j B b c l
  hown:=λb c=>let⟨o,r,t⟩:=h.hown b c;⟨o,r,λhx=>hx.elim t λhk=>h.pL _ b hk c⟩
  pK:=h.pK
  pL:=λj b c=>by
   simp only[Q6]at c;split at c
   ·cases c
   ·exact h.pL j b c
  pM:=λd i y=>by
   rw[Kn]at y⊢;simp only[reduceCtorEq,if_false]at y;obtain⟨o,r⟩:=h.pM d i y
   grind
  slots:=λj=>by
   by_cases q:j=.m k
   ·subst q;have z:=h.slots (.m k);rw[hg]at z;obtain⟨C,o,r⟩:=z;rw[Kn];simp only[if_true,Q6];exact⟨C,o,by grind[Pr,J3]⟩
   ·have e:Q6 F (.m k) [] j=F j:=by simp[Q6,q]
    rw[Kn,e];simp only[Lo q,if_false];exact RE A (λ_ h=>.inl h) (λ_ _=>rfl) (λ_ _ _ _=>rfl) (λ_ _=>rfl) (λe D E G b S c=>Af) (h.slots j)}
def kj(hs0:g.soft=La):∀{as:List AK}{xs:List Lc}{s:St}{X:Nat->Prop}{F:A4->List Nat},R n W0 w X F H s a-> ∃X' F',R n W0 w X' F' H (uv as xs s) a/\(∀b,X b->X' b)/\ ∀q,s.isBox q->(uv as xs s).isBox q
 |[],_,s,X,F,h=>⟨X,F,h,λ_ h=>h,λ_ h=>h⟩
 |.sh t::as,[],s,X,F,h=>⟨X,F,h,λ_ h=>h,λ_ h=>h⟩
 |.bx _ _ _::as,[],s,X,F,h=>⟨X,F,h,λ_ h=>h,λ_ h=>h⟩
 |.mv .. ::as,[],s,X,F,h=>⟨X,F,h,λ_ h=>h,λ_ h=>h⟩
 |.mv .. ::as,_::xs,s,X,F,h=>kj hs0 (as:=as) (xs:=xs) h
 |.bx _ _ _::as,_::xs,s,X,F,h=>kj hs0 (as:=as) (xs:=xs) h
 |.sh t::as,x::xs,s,X,F,h=>by
  simp only[uv];split
  ·exact kj hs0 h
  ·split
   ·split
    ·rename_i U f y d;split
     ·rename_i i;obtain⟨X',F',j,k,l⟩:=kj hs0 (as:=as) (xs:=xs) (R.frz hs0 h d i);refine⟨X',F',j,λb m=>k b (.inl m),λq c=>l q ?_⟩;obtain⟨e,T,o,p,c⟩:=c;refine⟨e,T,o,p,?_⟩;rw[Kn,if_neg]
      all_goals grind
     ·exact kj hs0 h
    ·exact kj hs0 h
   ·exact kj hs0 h
def R.xup(hs0:g.soft=La)(h:R n W0 w X F H s a)(hX:∀b,X b->X' b)(hlt:∀b,X' b->b<w.heap.size)(hin:∀b,X' b->W0.X0 b\/W0.mine b)(hF:∀k b,b∈F k-> ¬X' b)(hH:∀b,b∈H-> ¬X' b):R n W0 w X' F H s a:=
 {h with
  gx:=λb c=>hX b (h.gx b c)
  xs:=λe=>Af
  xlt:=hlt
  xin:=hin
  x0:=λb c=>hX b (h.x0 b c)
  own:=λk b c=>let⟨h1,h2,_⟩:=h.own k b c;⟨h1,h2,hF k b c⟩
  hown:=λb c=>let⟨h1,h2,_⟩:=h.hown b c;⟨h1,h2,hH b c⟩
  slots:=λk=>qp hX (λ_ _=>rfl) (λ_ _ _=>rfl) (λ_ _=>rfl) (h.slots k)}
def Ee(s:St)(k:Nat)(e:Ld)(T:Ty)(x:T.den):St:=Y7 (Y7 s k (.box e T .d x)) k (.box e T (.u .sh) x)
theorem R.frzX(hs0:g.soft=La)(h:R n W0 w X F H s a){e:Ld}{T:Ty}{f:Fl}{x:T.den}(hg:s.get (.m k)=.box e T f x)(hf:f.live=K3):
  ∃X' F',R n W0 w X' F' H (Ee s k e T x) a/\ ∀b,X b->X' b:=by
 have v:=h.slots (.m k);rw[hg]at v;obtain⟨b,c,S,z,A,B,r⟩:=v;have o:=h.nodup (.m k);rw[A]at o;have C:∀j∈b::S,j∉H:=λj i=>h.pL (.m k) j Af;have l:∀j∈S,j∈F (.m k):=λj i=>Af
 have E:R n W0 w X (Q6 F (.m k) [b]) (S++H) (Y7 s k (.box e T .d x)) a:=by
  refine h.turn (S':=[b]) (H':=S++H) h.below (Lj _) (λ_ _=>rfl) (λ_ _ _ _=>rfl) ?_ ?_ (by rw[hg];simp) ?_ ?_
  ·simp_all
  ·refine Ll.2 ⟨Ac,Ll.2 ⟨(L1.1 o).2,h.pK,λx hx y q e=>C x (by simp[hx]) (by rw[e];exact q)⟩,λx hx y q e=>?_⟩;simp_all
  ·grind
  ·exact⟨b,c,[],z,rfl,B,by unfold Pr;exact⟨Kh r,nA r,rfl⟩⟩
 have D:R n W0 w (λj=>X j\/j∈S) (Q6 F (.m k) [b]) H (Y7 s k (.box e T .d x)) a:=by
  refine R.xup hs0 E.drop (λ_ h=>.inl h) (λj i=>i.elim (h.xlt j) λi=>(h.own _ j (l j i)).2.1) (λj i=>i.elim (h.xin j) λi=>.inr (h.own _ j (l j i)).1) (λG j i hx=>?_) (λj i hx=>?_)
  ·simp only[Q6]at i;split at i
   ·simp only[Mk]at i;subst i;rcases hx with hx|hx
    ·exact(h.own (.m k) j (by rw[A];simp)).2.2 hx
    simp_all
   ·rename_i hk;rcases hx with hx|hx
    ·exact(h.own G j i).2.2 hx
    ·exact hk (h.pS _ _ j i (l j hx))
  ·rcases hx with hx|hx
   ·exact(h.hown j i).2.2 hx
   simp_all
 refine⟨λj=>X j\/j∈S,Q6 (Q6 F (.m k) [b]) (.m k) [b],?_,λ_ h=>.inl h⟩;have I:Q6 F (.m k) [b] (.m k)=[b]:=by simp[Q6]
 refine D.turn (S':=[b]) (H':=H) D.below (Lj _) (λ_ _=>rfl) (λ_ _ _ _=>rfl) ?_ ?_ (by rw[Ye];simp) ?_ ?_
 ·grind
 ·exact Ll.2 ⟨Ac,h.pK,λx hx y q e=>by
   simp only[Mk]at hx;subst hx;subst e;exact C x Ac q⟩
 ·intro J K L M N O t p;rw[Ye]at t;simp only[if_true]at t;cases t;rw[I]at p;obtain⟨rfl,_⟩:=Ls p;exact⟨.u .sh,_,[],rfl,rfl⟩
 ·exact⟨b,c,[],z,rfl,B,by unfold Pr;exact J3 (λ_ h=>.inl h) hf r λ_ h=>.inr h⟩
def Ed(s:St)(k:Nat):St:=match s.get (.m k)with
 |.val U f y=>match f.live with
  |true=>KJ s k (.val U (.u .sh) y)
  |false=>s
 |.box e T f x=>match f.live with
  |true=>Ee s k e T x
  |false=>s
 |_=>s
def Qdq(hs0:g.soft=La)(h:R n W0 w X F H s a)(k:Nat):∃X' F',R n W0 w X' F' H (Ed s k) a:=by
 unfold Ed;split
 ·rename_i U f y b;split
  ·rename_i c;exact⟨_,_,R.frz hs0 h b c⟩
  grind
 all_goals grind[R.frzX]
def IX:Fl->Ty->Fl->Fl
 |.u .sh,_,f=>match f.live with
  |true=>.u .sh
  |false=>f
 |.u .ow,_,f=>f
 |.u .an,_,f=>f
 |.d,_,f=>f
 |.p a b,.pair A B,f=>.p (IX a A (ZD f 0)) (IX b B f.snd)
 |.p (.u .ow) (.u .sh),.slice _ _,.u .ow=>.p (.u .ow) (.u .sh)
 |.p _ _,_,f=>f
def LS:∀{o:Fl}{T:Ty}{f:Fl}{x:T.den}{vs:List K4}{S:List Nat},S.Nodup->Pr w X B T f x vs S->
  ∃S',S'.Sublist S/\ ∀X':Nat->Prop,(∀b,X b->X' b)->(∀b,b∈S->b∉S'->X' b)->Pr w X' B T (IX o T f) x vs S'
 |.u .sh,T,f,x,vs,S,g,h=>by
  cases hl:f.live
  ·refine⟨S,Mf _,λX' c _=>?_⟩;simp only[IX,hl];exact yw (Lj _) c h
  ·refine⟨[],List.nil_sublist _,λX' c j=>?_⟩;simp only[IX,hl];unfold Pr;exact J3 c hl h λb i=>j b i Ac
 |.u .ow,T,f,x,vs,S,g,h=>⟨S,Mf _,λX' c _=>by unfold IX;exact yw (Lj _) c h⟩
 |.u .an,T,f,x,vs,S,g,h=>⟨S,Mf _,λX' c _=>by unfold IX;exact yw (Lj _) c h⟩
 |.d,T,f,x,vs,S,g,h=>⟨S,Mf _,λX' c _=>by unfold IX;exact yw (Lj _) c h⟩
 |.p a b,.pair A N,f,x,vs,S,g,h=>by
  obtain⟨C,D,r,E,e,F,l,m⟩:=XH h;subst F;have k:=Ll.1 g;obtain⟨s,G,H⟩:=LS (o:=a) k.1 l;obtain⟨y,I,J⟩:=LS (o:=b) k.2.1 m;refine⟨s++y,List.Sublist.append G I,λX' c j=>?_⟩;refine⟨C,D,s,y,e,rfl,H X' c λb i n=>j b (by simp[i]) λq=>?_,J X' c λb i n=>j b (by simp[i]) λq=>?_⟩
  all_goals grind
 |.p a b,.slice e t,f,x,vs,S,g,h=>by
  by_cases K:a=.u .ow/\b=.u .sh/\f=.u .ow
  ·obtain⟨rfl,rfl,rfl⟩:=K;unfold Pr at h;obtain⟨v,L,r,E,M,rfl,l,m⟩:=h;refine⟨r,Ac,λX' c j=>?_⟩;exact⟨v,L,M,Cc l c (λ_ _=>rfl) (λ_ _=>rfl),vz m λ_ _ T _ z h=>mw c h λb i=>j b (by simp[z b i]) λq=>(Ll.1 g).2.2 b q b (z b i) rfl⟩
  ·have e:IX (.p a b) (.slice e t) f=f:=by
    unfold IX
    grind
   refine⟨S,Mf _,λX' c _=>?_⟩;rw[e];exact yw (Lj _) c h
 |.p _ _,.unit,f,x,vs,S,g,h|.p _ _,.int _,f,x,vs,S,g,h|.p _ _,.bool,f,x,vs,S,g,h|.p _ _,.str,f,x,vs,S,g,h|.p _ _,.arr ..,f,x,vs,S,g,h|.p _ _,.fnc _,f,x,vs,S,g,h|.p _ _,.err,f,x,vs,S,g,h|.p _ _,.hid _,f,x,vs,S,g,h|.p _ _,.sptr ..,f,x,vs,S,g,h|.p _ _,.clo ..,f,x,vs,S,g,h=>
  ⟨S,Mf _,λX' c _=>by unfold IX;exact yw (Lj _) c h⟩
def Qpr(s:St)(k:Nat)(o:Fl):St:=match s.get (.m k)with
 |.box e T f x=>KJ s k (.box e T (IX o T f) x)
 |_=>s
def R.frzP(hs0:g.soft=La)(h:R n W0 w X F H s a)(k:Nat)(o:Fl):∃X' F',R n W0 w X' F' H (Go.Am.Qpr s k o) a:=by
 unfold Go.Am.Qpr;split
 ·rename_i e T f x E;have G:=h.slots (.m k);rw[E]at G;obtain⟨b,c,S,K,L,M,N⟩:=G;have u:=h.nodup (.m k);rw[L]at u;have O:=(L1.1 u).1;obtain⟨r,y,P⟩:=LS (o:=o) (L1.1 u).2 N;have Q:∀b,b∈r->b∈S:=λb q=>y.subset q;have V:Td W0.gh w w s (KJ s k (.box e T (IX o T f) x)) F (Q6 F (.m k) (b::r)) a k (.box e T (IX o T f) x):=wq ⟨by rw[Kn];simp,λp v U hv=>by
   unfold X4 at hv⊢;rw[E]at hv;rw[Kn]
   grind⟩
  have hk:∀l,l∈b::S->l∈F (.m k):=λl t=>Af
  refine⟨λl=>X l\/(l∈S/\l∉r),Q6 F (.m k) (b::r),
  {size:=h.size
   defers:=h.defers
   below:=h.below
   glob:=h.glob
   gx:=λb q=>.inl (h.gx b q)
   xs:=λe=>Af
   fix:=h.fix
   xlt:=λl q=>q.elim (h.xlt l) λq=>(h.own _ l (hk l (by simp[q.1]))).2.1
   xin:=λl q=>q.elim (h.xin l) λq=>.inr (h.own _ l (hk l (by simp[q.1]))).1
   x0:=λb q=>.inl (h.x0 b q)
   own:=λj l q=>?_
   nodup:=λj=>?_
   pS:=λj I l q t=>?_
   hown:=λl q=>let⟨z,A,C⟩:=h.hown l q;⟨z,A,λhx=>hx.elim C λhx=>h.pL _ l (hk l (by simp[hx.1])) q⟩
   pK:=h.pK
   pL:=λj l q=>?_
   pM:=λd i D=>?_
   slots:=λj=>?_}⟩
  ·simp only[Q6]at q;split at q
   ·have W:l∈b::S:=Ag
    obtain⟨z,A,C⟩:=h.own _ l (hk l W)
    grind
   ·rename_i B;obtain⟨z,A,C⟩:=h.own j l q;exact⟨z,A,λhx=>hx.elim C λhx=>B (h.pS j (.m k) l q (hk l (by simp[hx.1])))⟩
  ·simp only[Q6];split
   ·grind
   ·exact h.nodup j
  ·have J:∀j,l∈Q6 F (.m k) (b::r) j->l∈F j:=λj q=>by
    grind
   exact h.pS j I l (J j q) (J I t)
  ·simp only[Q6]at q;split at q
   ·exact h.pL (.m k) l (hk l Ag)
   ·exact h.pL j l q
  ·rw[Kn]at D⊢;simp only[reduceCtorEq,if_false]at D;obtain⟨z,A⟩:=h.pM d i D
   grind
  ·by_cases B:j=.m k
   ·subst B;rw[Kn];simp only[if_true];rw[show Q6 F (.m k) (b::r) (.m k)=b::r from by simp[Q6]];exact⟨b,c,r,K,rfl,M,P _ (λ_ h=>.inl h) λb q t=>.inr ⟨q,t⟩⟩
   ·have Y:Q6 F (.m k) (b::r) j=F j:=by simp[Q6,B]
    rw[Kn,Y];simp only[Lo B,if_false];exact RE V (λ_ h=>.inl h) (λ_ _=>rfl) (λ_ _ _ _=>rfl) (λ_ _=>rfl) (λe' T' f' x' b2 S2 q Z=>by
     grind) (h.slots j)
 grind
def Fm(s:St)(k:Nat):Fl->St|.u .ow=>s|.u .an=>s|.u .sh=>Ed s k|o=>Qpr s k o
def UU(hs0:g.soft=La)(h:R n W0 w X F H s a)(k:Nat)(o:Fl):∃X' F',R n W0 w X' F' H (Fm s k o) a:=by
 unfold Fm;split
 ·exact⟨X,F,h⟩
 ·exact⟨X,F,h⟩
 ·exact Qdq hs0 h k
 ·exact R.frzP hs0 h k _
def vS:List (Nat×Fl)->St->St|[],s=>s|(k,o)::r,s=>vS r (Fm s k o)
def FZ(hs0:g.soft=La):∀{L:List (Nat×Fl)}{s:St}{X:Nat->Prop}{F:A4->List Nat},R n W0 w X F H s a-> ∃X' F',R n W0 w X' F' H (vS L s) a
 |[],s,X,F,h=>⟨X,F,h⟩
 |(k,o)::r,s,X,F,h=>by
  obtain⟨c,d,b⟩:=UU hs0 h k o;exact FZ hs0 (L:=r) b
theorem OG:∀{rs:List Nat}{s:St}{k:A4},(∀q,q∈rs->k≠ .m q)->(yD rs s).get k=s.get k
 |[],s,k,_=>rfl
 |q::rs,s,k,h=>by
  simp only[yD];split
  ·rw[OG λq a=>h q (by simp[a]),Ye,if_neg (Lo (h q Ac))]
  ·exact OG λq a=>h q (by simp[a])
theorem Us:∀{rs:List Nat}{s:St}{r:Nat},s.pN r=K3->(yD rs s).pN r=K3
 |[],s,r,h=>h
 |q::rs,s,r,h=>by
  simp only[yD];split
  ·refine Us ?_
   grind[Y7,ZC]
  ·exact Us h
theorem Z4x(s:St)(q:Nat)(t:Tm):(Y7 s q t).pN q=true:=by
 cases hc:(Y7 s q t).pN q
 ·exact absurd rfl (ZC hc).2
 ·rfl
def R.wreck:∀{rs:List Nat}{s:St}{F:A4->List Nat},R n W0 w X F H s a->rs.Nodup->(∀q,q∈rs->s.isBox q)->
  ∃F',R n W0 w X F' H (Go.Am.yD rs s) a/\(∀k,(∀q,q∈rs->k≠ .m q)->F' k=F k)/\
   ∀q,q∈rs-> ∃e T f y b S,s.get (.m q)=.box e T f y/\F (.m q)=b::S/\(Go.Am.yD rs s).get (.m q)=.box e T .d y/\F' (.m q)=[b]/\(Go.Am.yD rs s).pN q=K3
 |[],s,F,h,_,_=>⟨F,h,λ_ _=>rfl,Ac⟩
 |q::rs,s,F,h,u,j=>by
  obtain⟨e,T,f,y,l⟩:=j q Ac;have o:=h.slots (.m q);rw[l]at o;obtain⟨b,c,S,v,z,A,p⟩:=o;have i:=L1.1 u;have B:R n W0 w X (Q6 F (.m q) [b]) H (Y7 s q (.box e T .d y)) a:=by
   refine h.turn h.below (Lj _) (λ_ _=>rfl) (λ_ _ _ _=>rfl) ?_ ?_ (by rw[l];simp) ?_ ?_
   ·simp_all
   ·refine Ll.2 ⟨Ac,h.pK,λx hx y C e=>?_⟩;simp only[Mk]at hx;subst hx;subst e;exact h.pL (.m q) x (by rw[z];simp) C
   ·grind
   ·exact⟨b,c,[],v,rfl,A,by unfold Pr;exact⟨Kh p,nA p,rfl⟩⟩
  have r:∀g,g∈rs->(Y7 s q (.box e T .d y)).get (.m g)=s.get (.m g):=λg hq'=>by
   rw[Ye,if_neg]
   grind
  obtain⟨F',D,M,N⟩:=R.wreck B i.2 (λg hq'=>by
   obtain⟨E,G,I,J,K⟩:=j g (by simp[hq']);exact⟨E,G,I,J,Af⟩)
  have t:Go.Am.yD (q::rs) s=Go.Am.yD rs (Y7 s q (.box e T .d y)):=by simp_all[Go.Am.yD]
  have L:∀g,g∈rs->A4.m q≠ .m g:=λg hq' e=>Af
  refine⟨F',by rw[t];exact D,λk hk=>?_,λg hq'=>?_⟩
  ·simp_all
  ·rw[t];rcases Ma.1 hq' with rfl|hq'
   all_goals grind[Us,Z4x,OG,Ye]
def R.worldD{rs:List Nat}(h:R n W0 w X F H s a)(hb:W0.below w')(hs:w.heap.size<=w'.heap.size)(hX:∀b,X b->w'.heap[b]? =w.heap[b]?)
  (hr:∀q,q∈rs->s.pN q=K3/\ ∃e T y b c,s.get (.m q)=.box e T .d y/\F (.m q)=[b]/\w'.heap[b]? =K1 (.cells c e (0,0))/\c.toList.length=T.size/\ ∀u∈c.toList,u.oneCell'=K3)
  (hF:∀k,(∀q,q∈rs->k≠ .m q)-> ∀b∈F k,w'.heap[b]? =w.heap[b]?):R n W0 w' X F H s a:=
 {h with
  below:=hb
  glob:=g.stays _ _ h.glob λb hb=>hX b (h.gx b hb)
  xlt:=λb z=>L2 (h.xlt b z) hs
  own:=λk b z=>let⟨D,C,E⟩:=h.own k b z;⟨D,L2 C hs,E⟩
  hown:=λb z=>let⟨D,C,E⟩:=h.hown b z;⟨D,L2 C hs,E⟩
  slots:=λk=>by
   by_cases hk:∃q,q∈rs/\k=.m q
   ·obtain⟨q,G,rfl⟩:=hk;obtain⟨_,e,T,y,b,c,D,C,E,P,Q⟩:=hr q G;have hv:=h.slots (.m q);rw[D]at hv⊢;obtain⟨V,W,Y,M,K,_⟩:=hv;rw[C]at K;obtain⟨rfl,rfl⟩:=Ls K;exact⟨b,c,[],M,C,E,Ak⟩
   ·have hk:∀q,q∈rs->k≠ .m q:=λq G e=>hk ⟨q,G,e⟩;have I:=hF k hk;have J:∀{r:Nat}{p:List Nat}{v:K4}{U:Ty},s.pN r=La->X4 W0.gh w s F a r p v U->X4 W0.gh w' s F a r p v U:=λ{r p v U} A hv=>
     VK hv (hF (.m r) λq G e=>by
      simp_all)
    have o:=h.slots k;generalize s.get k=u at o;generalize Qw W0.gh a k=v at o⊢;generalize F k=S at o I⊢
    induction u with
    |pR=>exact o
    |tup=>exact o
    |val T f x=>exact qp (s:=s) (F:=λ_=>[]) (a:=a) (v:=v) (t:=.val T f x) (λ_ h=>h) hX Ac I (show vt W0.gh w X W0.B s (λ_=>[]) a v S (.val T f x)from o)
    |box e T f x=>exact qp (s:=s) (F:=λ_=>[]) (a:=a) (v:=v) (t:=.box e T f x) (λ_ h=>h) hX Ac I (show vt W0.gh w X W0.B s (λ_=>[]) a v S (.box e T f x)from o)
    |shp T x=>exact qp (s:=s) (F:=λ_=>[]) (a:=a) (v:=v) (t:=.shp T x) (λ_ h=>h) hX Ac I (show vt W0.gh w X W0.B s (λ_=>[]) a v S (.shp T x)from o)
    |ptr r p=>exact o
    |aep r p i=>exact o
    |pls Z l=>exact⟨o.1,KG (λ_ h=>h) hX (λ_ _ _ h=>h) o.2⟩
    |bor r p=>exact⟨o.1,λA=>let⟨U,h⟩:=o.2 A;⟨U,J (St.bad_foul A) h⟩⟩
    |elp r p i q=>exact⟨o.1,λA=>let⟨e,t',ad,n,cap,h,h'⟩:=o.2 A;⟨e,t',ad,n,cap,J (St.bad_foul A) h,h'⟩⟩
    |bel r p i q=>exact⟨o.1,λA N=>let⟨e,t',ad,n,cap,x0,y,cs,h,k1,k2,k3,k4,k5,k6,k7⟩:=o.2 A N;⟨e,t',ad,n,cap,x0,y,cs,J (St.bad_foul A) h,k1,k2,k3,k4,k5,k6,λj u hj=>by
      grind[Ml,M2,A4.m.injEq,St.bad_foul]⟩⟩
    |cl f l=>exact o
    |gd g L u O=>exact λA=>let⟨h0,D,C⟩:=o A;⟨h0,λhb=>O (D hb),C⟩}
def Cz(F:A4->List Nat)(s:St):List AK->List Nat->List Nat->Prop|[],rs,BL=>rs=[]/\BL=[]|.sh _::as,rs,BL=>Cz F s as rs BL|.bx e T _::as,rs,BL=> ∃q rs' b BL' y,rs=q::rs'/\BL=b::BL'/\F (.m q)=[b]/\s.get (.m q)=.box e T .d y/\Cz F s as rs' BL'|.mv .. ::as,rs,BL=>Cz F s as rs BL
def MQ(h:R n W0 w X F H s a):∀{as:List AK}{rs BL:List Nat},Cz F s as rs BL-> ∀{j q b:Nat},rs[j]? =K1 q->BL[j]? =K1 b->Qw W0.gh a (.m q)=.pointer (K1 ⟨b,0,K2⟩)
 |[],_,_,⟨v,x⟩,j,q,b,d,_=>Af
 |.sh _::as,_,_,g,j,q,b,d,f=>MQ h (as:=as) g d f
 |.mv .. ::as,_,_,g,j,q,b,d,f=>MQ h (as:=as) g d f
 |.bx e T _::as,rs,BL,⟨k,l,z,o,y,p,r,A,t,u⟩,j,q,b,d,f=>by
  subst p;subst r;cases j with
  |zero=>
   simp only[Mp,pB]at d f;subst d;subst f;have i:=h.slots (.m k);rw[t]at i;obtain⟨B,c,S,C,D,_⟩:=i;simp_all
  |succ j=>exact MQ h (as:=as) u (by simpa using d) (by simpa using f)
def DA{t:Tm}{q:Nat}{b:Nat}:∀{as:List AK}{rs BL:List Nat},q∉rs->Cz F s as rs BL-> ∀{S:List Nat},Cz (Q6 F (.m q) S) (Y7 s q t) as rs BL
 |[],_,_,_,h,_=>h
 |.sh _::as,rs,BL,a,h,_=>DA (b:=b) (as:=as) a h
 |.mv .. ::as,rs,BL,a,h,_=>DA (b:=b) (as:=as) a h
 |.bx e T _::as,rs,BL,a,⟨f,c,g,d,y,i,j,o,p,k⟩,S=>by
  subst i;have l:f≠q:=λe=>a (by simp[e]);exact⟨f,c,g,d,y,rfl,j,Ag,As,DA (b:=b) (λn=>a (by simp[n])) k⟩
def C6:∀{as:List AK}{x:JM as}{vals:List K4}{BL C rs:List Nat}{s:St}{F:A4->List Nat},R n W0 w X F (C++H) s a->AV w X as x vals BL C->Cz F s as rs BL->rs.Nodup->(∀b,b∈C->W0.B<=b)->
  ∃F',R n W0 w X F' H (CQ as x rs s) a
 |[],x,vals,BL,C,rs,s,F,h,⟨_,_,e⟩,_,_,_=>by subst e;exact⟨F,h⟩
 |.sh _::as,x,vals,BL,C,rs,s,F,h,⟨v,t,_,i⟩,j,d,f=>C6 (as:=as) h i j d f
 |.mv .. ::as,x,vals,BL,C,rs,s,F,h,⟨v,t,_,i⟩,j,d,f=>C6 (as:=as) h i j d f
 |.bx e T o::as,x,vals,BL,C,rs,s,F,h,⟨b,c,S,t,J,u,W,K,L,z,Y,M⟩,⟨q,k,Z,N,y,O,A,m3,D,P⟩,d,f=>by
  subst O;subst L;rw[K]at A;obtain⟨rfl,rfl⟩:=Ls A;have g:=L1.1 d;have E:=h.slots (.m q);rw[D]at E;obtain⟨G,c',S',Q,I,U,_⟩:=E;rw[m3]at I;obtain⟨rfl,rfl⟩:=Ls I;rw[z]at U;have l:=h.pK;rw[Mg]at l;have V:b∉(S++u)++H:=h.pL (.m q) b (by rw[m3];simp);have p:R n W0 w X (Q6 F (.m q) (b::S)) (u++H) (Y7 s q (.box e T o x.1)) a:=by
   refine h.turn h.below (Lj _) (λ_ _=>rfl) (λ_ _ _ _=>rfl) ?_ ?_ (by rw[D];simp) ?_ ?_
   ·simp_all
   ·simp_all
   ·grind
   ·refine⟨b,c,S,Q,rfl,z,?_⟩
    grind[TK]
  show ∃F',R n W0 w X F' H (CQ as x.2 k (Y7 s q (.box e T o x.1))) a;exact C6 (as:=as) p M (DA (b:=b) g.1 P) g.2 λG r=>f G (by simp[r])
def HM:∀{as:List AK}{rs:List Nat}{vals:List K4}{x:JM as}{BL C:List Nat},Cw F s as rs vals->AV w' X' as x vals BL C-> ∀q,q∈rs->
  ∃e T f y b S c,s.get (.m q)=.box e T f y/\F (.m q)=b::S/\b∈BL/\w'.heap[b]? =K1 (.cells c e (0,0))/\c.toList.length=T.size/\ ∀u∈c.toList,u.oneCell'=K3
 |[],_,_,_,_,_,⟨h,_⟩,_,q,hq=>by subst h;cases hq
 |.sh _::as,rs,vals,x,BL,C,⟨v,k,d,g⟩,⟨n,j,a,i⟩,q,hq=>by
  rw[d]at a;obtain⟨rfl,rfl⟩:=Ls a;exact HM (as:=as) g i q hq
 |.mv .. ::as,rs,vals,x,BL,C,⟨v,k,d,g⟩,⟨n,j,a,i⟩,q,hq=>by
  rw[d]at a;obtain⟨rfl,rfl⟩:=Ls a;exact HM (as:=as) g i q hq
 |.bx e T o::as,rs,vals,x,BL,C,⟨A,p,b,S,k,f,y,d,g,B,D,r⟩,⟨E,c,G,t,w,H,a,i,I,J,K,z⟩,q,hq=>by
  rw[g]at a;obtain⟨l,rfl⟩:=Ls a;simp only[Ni,pB,M4,and_true]at l;subst l;subst d;rcases Ma.1 hq with rfl|hq
  ·grind[Kh,nA]
  ·obtain⟨L,M,N,O,P,Q,U,V,W,m3,X⟩:=HM r z q hq
   grind
def Ey{s2:St}{F2:A4->List Nat}:∀{as:List AK}{rs:List Nat}{vals:List K4}{x:JM as}{BL C:List Nat},Cw F s as rs vals->AV w' X' as x vals BL C->
  (∀q,q∈rs-> ∀e T f y b S,s.get (.m q)=.box e T f y->F (.m q)=b::S->s2.get (.m q)=.box e T .d y/\F2 (.m q)=[b])->Cz F2 s2 as rs BL
 |[],_,_,_,_,_,⟨h,_⟩,⟨_,g,_⟩,_=>⟨h,g⟩
 |.sh _::as,rs,vals,x,BL,C,⟨v,p,i,g⟩,⟨u,k,a,j⟩,hk=>by
  rw[i]at a;obtain⟨rfl,rfl⟩:=Ls a;exact Ey (as:=as) g j hk
 |.mv .. ::as,rs,vals,x,BL,C,⟨v,p,i,g⟩,⟨u,k,a,j⟩,hk=>by
  rw[i]at a;obtain⟨rfl,rfl⟩:=Ls a;exact Ey (as:=as) g j hk
 |.bx e T o::as,rs,vals,x,BL,C,⟨r,l,b,S,p,f,y,i,g,w,z,A⟩,⟨I,c,J,B,n,K,a,j,L,M,N,D⟩,hk=>by
  rw[g]at a;obtain⟨t,rfl⟩:=Ls a;simp only[Ni,pB,M4,and_true]at t;subst t;subst i;obtain⟨E,G⟩:=hk r Ac _ _ _ _ _ _ z w;exact⟨r,l,b,n,y,rfl,j,G,E,Ey A D λq H=>hk q (by simp[H])⟩
def Sx:∀{as:List AK}{rs:List Nat}{vals:List K4},Cw F s as rs vals-> ∀q,q∈rs->s.isBox q
 |[],_,_,⟨h,_⟩,q,hq=>by subst h;cases hq
 |.sh _::as,rs,vals,⟨v,d,c,a⟩,q,hq=>Sx a q hq
 |.mv .. ::as,rs,vals,⟨v,d,c,a⟩,q,hq=>Sx a q hq
 |.bx e T o::as,rs,vals,⟨k,g,b,S,d,f,y,c,a,l,i,j⟩,q,hq=>by
  subst c;rcases Ma.1 hq with rfl|hq
  ·exact⟨e,T,f,y,i⟩
  ·exact Sx j q hq
def T7{q:Nat}{t:Tm}(h:Wa s d=K3)(hq:q≠d):Wa (Y7 s q t) d=true:=by
 unfold Wa at*
 rw[Ye,if_neg (by simpa using hq)];exact h
def Cl{d:Nat}:∀{as:List AK}{x:JM as}{rs:List Nat}{s:St},Wa s d=K3->d∉rs->Wa (CQ as x rs s) d=K3
 |[],_,_,_,h,_=>h
 |.sh _::as,x,rs,s,h,a=>Cl (as:=as) h a
 |.mv .. ::as,x,rs,s,h,a=>Cl (as:=as) h a
 |.bx e T o::as,x,q::rs,s,h,a=>Cl (as:=as) (T7 h λe=>a (by simp[e])) λb=>a (by simp[b])
 |.bx .. ::_,x,[],s,h,_=>h
def PY:∀{ts:List Ty}{x:J6 ts}{rs:List K4},qP w X ts x rs->rs.length=ts.length
 |[],_,_,h=>by simp_all[qP]
 |t::ts,_,_,⟨_,_,e,_,h⟩=>by simp[e,PY h]
def R.putTupSh{ts:List Ty}{x:J6 ts}(h:R n W0 w X F H s a)(hd:Wa s d=K3)(hn:d<n)(hx:qP w X ts x vs):
  ∃F',R n W0 w X F' H {env:=gU d ts x 0 (Jb s d .tup).env,pP:=(Jb s d .tup).pP,pQ:=s.pQ} (a.put (K1 d) (.tuple vs.toArray)):=by
 have J:R n W0 w X (Q6 F (.m d) []) H (Jb s d .tup) (a.put (K1 d) (.tuple vs.toArray)):=(by simpa using h:R n W0 w X F ([]++H) s a).put hd hn rfl;have l:uI W0.gh (a.put (K1 d) (.tuple vs.toArray)) d=.tuple vs.toArray:=wc (a:=a) (by rw[h.size];exact hn);have A:∀i,(Jb s d .tup).get (.c d i)=.pR:=λi=>by
  rw[px];simp only[reduceCtorEq,if_false];exact Mr λo=>by have:=(h.pM d i o).1;simp_all[Wa]
 suffices hs:∀(ts:List Ty)(x:J6 ts)(z:List K4)(i:Nat)(F:A4->List Nat)(r:List (A4×Tm))(pre:List K4),vs=pre++z->pre.length=i->qP w X ts x z->
   R n W0 w X F H {env:=r,pP:=(Jb s d .tup).pP,pQ:=s.pQ} (a.put (K1 d) (.tuple vs.toArray))->ma r (.m d)=.tup->(∀j,i<=j->ma r (.c d j)=.pR)->
   ∃F',R n W0 w X F' H {env:=gU d ts x i r,pP:=(Jb s d .tup).pP,pQ:=s.pQ} (a.put (K1 d) (.tuple vs.toArray)) by
  obtain⟨F',p⟩:=hs ts x vs 0 _ (Jb s d .tup).env [] rfl rfl hx J (JE _ _ _) (λj _=>A j)
  grind
 intro ts
 induction ts with
 |nil=>
  intro x z i F r pre _ _ hx g _ _;exact⟨F,g⟩
 |cons t ts K=>
  intro x z i F r pre B q hx g v b;obtain⟨C,D,rfl,E,G⟩:=hx;have f:Qw W0.gh (a.put (K1 d) (.tuple vs.toArray)) (.c d i)=Yh t C:=by
   simp_all[Qw,Array.getD_eq_getD_getElem?]
  have I:F (.c d i)=[]:=by
   have:=g.slots (.c d i);simp only[St.get,b i (Lj _)]at this;exact this
  have y:R n W0 w X F H {env:=(.c d i,.val t (.u .sh) x.1)::r,pP:=(Jb s d .tup).pP,pQ:=s.pQ} (a.put (K1 d) (.tuple vs.toArray)):=
   {g with
    pM:=λL j o=>by
     simp only[St.get,Qd]at o⊢;simp only[reduceCtorEq,if_false];split at o
     ·rename_i e;simp only[A4.c.injEq]at e;obtain⟨rfl,rfl⟩:=e;refine⟨v,vs.toArray,l,?_⟩;simp_all
     ·exact g.pM L j o
    slots:=λk=>by
     by_cases hk:k=.c d i
     ·subst hk;simp only[St.get,Qd,if_true];rw[I];exact⟨C,f,by unfold Pr;exact V8 E Ac⟩
     ·have M:St.get {env:=(A4.c d i,Tm.val t (.u .sh) x.1)::r,pP:=(Jb s d .tup).pP,pQ:=s.pQ} k=St.get {env:=r,pP:=(Jb s d .tup).pP,pQ:=s.pQ} k:=by simp[St.get,Qd,Lo hk]
      rw[M];have:=TS (s:={env:=r,pP:=(Jb s d .tup).pP,pQ:=s.pQ}) (t:=d) (i:=i) (u:=Tm.val t (.u .sh) x.1) (S0:=[]) (g.slots k);have N:Q6 F (.c d i) []=F:=by
       grind
      simp_all}
  obtain⟨F',p⟩:=K x.2 D (i+1) _ _ (pre++[Yh t C]) (by rw[B];simp) (by simp[q]) G y (by simp_all[Qd]) (λj O=>by
   rw[Qd,if_neg Ae];grind)
  exact⟨F',p⟩
def R.putSh{rs:List K4}:∀{ts:List Ty}{x:J6 ts},R n W0 w X F H s a->Wa s d=K3->d<n->qP w X ts x rs->
  ∃F',R n W0 w X F' H (Go.Am.Qsm d s ts x) (a.put (K1 d) (J7 rs))
 |[],x,h,b,c,hx=>by
  rw[zC (by rw[PY hx];simp)];exact h.putTupSh b c hx
 |[t],x,h,b,c,hx=>by
  obtain⟨e,f,rfl,g,rfl⟩:=hx;exact⟨_,(by simpa using h:R n W0 w X F ([]++H) s a).put b c ⟨e,rfl,by grind[Pr,V8]⟩⟩
 |t::u::ts,x,h,b,c,hx=>by
  rw[zC (by rw[PY hx];simp)];exact h.putTupSh b c hx
def OM:∀{ts:List (Ty×Fl)}{x:NV ts}{rs:List K4}{S:List Nat},LU w X B ts x rs S->rs.length=ts.length
 |[],_,_,_,h=>by simp[h.1]
 |t::ts,_,_,_,⟨_,_,_,_,e,_,_,h⟩=>by simp[e,OM h]
def Fe:∀{ts:List (Ty×Fl)}{x:NV ts}{rs:List K4}{S:List Nat},LU w X B ts x rs S->(∀b,b∈S->B'<=b)->LU w X B' ts x rs S
 |[],_,_,_,h,_=>h
 |t::ts,_,_,_,⟨c,d,f,g,e,i,j,k⟩,a=>⟨c,d,f,g,e,i,TK j λb l=>a b Af,Fe k λb l=>a b Af⟩
def R.putTupF{ts:List (Ty×Fl)}{x:NV ts}(h:R n W0 w X F (S++H) s a)(hd:Wa s d=K3)(hn:d<n)(hx:LU w X W0.B ts x vs S):
  ∃F',R n W0 w X F' H {env:=Ui d ts x 0 (Jb s d .tup).env,pP:=(Jb s d .tup).pP,pQ:=s.pQ} (a.put (K1 d) (.tuple vs.toArray)):=by
 have P:R n W0 w X (Q6 F (.m d) []) (S++H) (Jb s d .tup) (a.put (K1 d) (.tuple vs.toArray)):=(by simpa using h:R n W0 w X F ([]++(S++H)) s a).put hd hn rfl;have q:uI W0.gh (a.put (K1 d) (.tuple vs.toArray)) d=.tuple vs.toArray:=wc (a:=a) (by rw[h.size];exact hn);have E:∀i,(Jb s d .tup).get (.c d i)=.pR:=λi=>by
  rw[px];simp only[reduceCtorEq,if_false];exact Mr λu=>by have:=(h.pM d i u).1;simp_all[Wa]
 suffices hs:∀(ts:List (Ty×Fl))(x:NV ts)(D:List K4)(i:Nat)(S:List Nat)(F:A4->List Nat)(r:List (A4×Tm))(pre:List K4),vs=pre++D->pre.length=i->LU w X W0.B ts x D S->
   R n W0 w X F (S++H) {env:=r,pP:=(Jb s d .tup).pP,pQ:=s.pQ} (a.put (K1 d) (.tuple vs.toArray))->ma r (.m d)=.tup->(∀j,i<=j->ma r (.c d j)=.pR)->
   ∃F',R n W0 w X F' H {env:=Ui d ts x i r,pP:=(Jb s d .tup).pP,pQ:=s.pQ} (a.put (K1 d) (.tuple vs.toArray)) by
  obtain⟨F',v⟩:=hs ts x vs 0 S _ (Jb s d .tup).env [] rfl rfl hx P (JE _ _ _) (λj _=>E j)
  grind
 intro ts
 induction ts with
 |nil=>
  intro x D i S F r pre _ _ hx f _ _;obtain⟨rfl,rfl⟩:=hx;exact⟨F,f⟩
 |cons t ts Q=>
  intro x D i S F r pre G y hx f z o;obtain⟨I,J,M,N,rfl,rfl,K,L⟩:=hx
  have p:Qw W0.gh (a.put (K1 d) (.tuple vs.toArray)) (.c d i)=Yh t.1 I:=by
   simp_all[Qw,Array.getD_eq_getD_getElem?]
  have A:R n W0 w X (Q6 F (.c d i) M) (N++H) {env:=(.c d i,.val t.1 t.2 x.1)::r,pP:=(Jb s d .tup).pP,pQ:=s.pQ} (a.put (K1 d) (.tuple vs.toArray)):=by
   have U:F (.c d i)=[]:=by
    have:=f.slots (.c d i);simp only[St.get,o i (Lj _)]at this;exact this
   have C:=f.pK;rw[Mg]at C;exact
   {size:=f.size
    defers:=f.defers
    below:=f.below
    glob:=f.glob
    gx:=f.gx
    xs:=f.xs
    fix:=f.fix
    xlt:=f.xlt
    xin:=f.xin
    x0:=f.x0
    own:=λk b g=>by
     simp only[Q6]at g;split at g
     ·exact f.hown b (by simp[g])
     ·exact f.own k b g
    nodup:=λk=>by
     simp only[Q6];split
     ·grind
     ·exact f.nodup k
    pS:=λk O b g l=>by
     simp only[Q6]at g l;split at g<;>split at l
     ·simp_all
     ·exact absurd (by simp[g]) (f.pL O b l)
     ·exact absurd (by simp[l]) (f.pL k b g)
     ·exact f.pS k O b g l
    hown:=λb g=>f.hown b Af
    pK:=(Ll.1 C).2.1
    pL:=λk b g Z=>by
     simp only[Q6]at g;split at g
     ·grind
     ·exact f.pL k b g Af
    pM:=λV j u=>by
     simp only[St.get,Qd]at u⊢;simp only[reduceCtorEq,if_false];split at u
     ·rename_i e;simp only[A4.c.injEq]at e;obtain⟨rfl,rfl⟩:=e;refine⟨z,vs.toArray,q,?_⟩;simp_all
     ·exact f.pM V j u
    slots:=λk=>by
     by_cases hk:k=.c d i
     ·subst hk;simp only[St.get,Qd,if_true,Q6];exact⟨I,p,K⟩
     ·have W:St.get {env:=(A4.c d i,Tm.val t.1 t.2 x.1)::r,pP:=(Jb s d .tup).pP,pQ:=s.pQ} k=St.get {env:=r,pP:=(Jb s d .tup).pP,pQ:=s.pQ} k:=by simp[St.get,Qd,Lo hk]
      have Y:Q6 F (.c d i) M k=F k:=by simp[Q6,hk]
      rw[W,Y];exact TS (s:={env:=r,pP:=(Jb s d .tup).pP,pQ:=s.pQ}) (f.slots k)}
  obtain⟨F',v⟩:=Q x.2 J (i+1) N _ _ (pre++[Yh t.1 I]) (by rw[G];simp) (by simp[y]) L A (by simp_all[Qd]) (λj hj=>by
   rw[Qd,if_neg Ae];grind)
  exact⟨F',v⟩
def R.putF{rs:List K4}:∀{ts:List (Ty×Fl)}{x:NV ts}{S:List Nat},R n W0 w X F (S++H) s a->Wa s d=K3->d<n->LU w X W0.B ts x rs S->
  ∃F',R n W0 w X F' H (Go.Am.Quz d s ts x) (a.put (K1 d) (J7 rs))
 |[],x,S,h,b,c,hx=>by
  rw[zC (by rw[OM hx];simp)];exact h.putTupF b c hx
 |[t],x,S,h,b,c,hx=>by
  obtain⟨e,f,i,j,rfl,rfl,g,rfl,rfl⟩:=hx;exact⟨_,h.put b c ⟨e,rfl,by simpa using g⟩⟩
 |t::u::ts,x,S,h,b,c,hx=>by
  rw[zC (by rw[OM hx];simp)];exact h.putTupF b c hx
def DN(gh:Nat->K4)(X:Nat->Prop)(s:St)(a:Act)(rs:List Nat)(w w':Le):Prop:=∀b,(X b\/ ∃r,s.isBox r/\r∉rs/\Qw gh a (.m r)=.pointer (K1 ⟨b,0,K2⟩))->w'.heap[b]? =w.heap[b]?
def CV(Γ:E7)(s:St)(f:Lg)(xs:List Lc):List Nat:=
 match Γ.find f with
 |some e=>match WC (uv e.args xs s) e.args xs with
  |some (m,s2)=>match TI s2 m e.args xs with
   |some (_,rs)=>rs
   |none=>[]
  |none=>[]
 |none=>[]
def P6{Γ:E7}(hs0:g.soft=La)(hΓ:Γ.ok P g)(h:R n W0 w X F [] s a){f:Lg}(hfo:a.eval fo=.func (.func f) #[] #[])(ho:o.op=.call {callee:=.value fo,args:=xs,argTypes:=ats}){k:St->Option ρ}{r:ρ}(hr:Fp Γ n s o.dst f xs.toList k=K1 r)
   (hK:∀v w' X' F' s',k s'=K1 r->R n W0 w' X' F' [] s' (a.put o.dst v)->(∀b,X b->X' b)->DN W0.gh X s a (CV Γ s f xs.toList) w w'->K (a.put o.dst v) w'):o.wp P a w K Q:=by
 have i:∀e m s2 W rs,Γ.find f=K1 e->WC (uv e.args xs.toList s) e.args xs.toList=K1 (m,s2)->TI s2 m e.args xs.toList=K1 (W,rs)->CV Γ s f xs.toList=rs:=λe m s2 W rs l h3 h2=>by
  simp_all[CV]
 unfold Fp at hr;split at hr
 ·cases hr
 ·rename_i e he;obtain⟨rfl,a6⟩:=E7.find_ok hΓ he;obtain⟨X1,F1,l,ar,D⟩:=kj hs0 (as:=e.args) (xs:=xs.toList) h;have i:=λm s2 W rs=>i e m s2 W rs he;generalize uv e.args xs.toList s=s1 at hr l D i;split at hr
  ·cases hr
  rename_i m s2 a7;obtain⟨M,F1,l,b7,b8,a8⟩:=GP l a7;have D:=λq p=>a8 q (D q p);have i:=λW rs=>i m s2 W rs a7;generalize s2=s1 at hr l D i;split at hr
  ·cases hr
  ·rename_i W rs be;split at hr
   ·cases hr
   ·rename_i hn;rw[i W rs be]at hK;obtain⟨L,a1,a2,a3,a4⟩:=HE l b8 (Ll.1 l.pK).1 (λk b hb E=>l.pL k b hb (by simp[E])) be hn;have au:=RP hn;have hL:∀b,b∈L->W0.mine b/\b<w.heap.size/\ ¬X1 b:=λb hb=>by
     rcases a4 b hb with⟨q,_,p⟩|hb
     ·exact l.own _ b p
     ·exact l.hown b (by simp[hb])
    have call:∀{z},e.F W=K1 z-> ∀{K':Act->Le->Prop},(∀Y S X' F' w',R n W0 w' X' F' (S++[]) (CQ e.args z.2 rs (yD rs s1)) a->Uy w' X' e.res z.1 Y S->(∃Z:List Nat,B6 e.res z.1 Y Z/\ ∀(j q b:Nat),rs[j]? =K1 q->Z[j]? =K1 b->Qw W0.gh a (.m q)=.pointer (K1 ⟨b,0,K2⟩))->(∀b,b∈S->W0.B<=b)->(∀b,X b->X' b)->DN W0.gh X s a rs w w'->K' (a.put o.dst (J7 Y)) w')->o.wp P a w K' Q:=by
     intro z hz K' ab;have hc:=a6.calls w X1 L W z (xs.toList.map a.eval) l.glob l.gx l.xlt (λb hb=>⟨(hL b hb).2.2,(hL b hb).2.1⟩) a3 a1 hz;have bl:(execOp a.eval o).run P w=.ok (.enter e.f (xs.toList.map a.eval).toArray) w:=by
      have:execOp a.eval o=callFunc e.f (xs.map a.eval):=by
       grind[execOp,resolve,L4,invoke]
      rw[this,a6.enters];congr 2
      grind
     unfold Ln;rw[bl,L6];refine hc.mono λen w' ⟨Y,S,Z,C,X',b9,u,N,hO,hP⟩=>?_;subst b9;show K' (a.put o.dst (J7 Y)) w';obtain⟨J,h2,cb,a0⟩:=R.wreck l au (Sx a2);have bx:=HM a2 hO;have cc:W0.below w':=⟨u.os.trans l.below.os,u.tape.trans l.below.tape,u.output.trans l.below.output,Lm l.below.size u.size,λb hb=>
      (u.block b (L2 (W0.yW b hb) l.below.size) λE=>W0.sep hb (hL b E).1 rfl).trans (l.below.block b hb)⟩
     have O:∀q,q∈rs-> ∃b,J (.m q)=[b]/\b∈Z:=λq p=>by
      obtain⟨e1,T1,f1,y1,b1,S1,m1,m2,m3,m4,m5⟩:=a0 q p
      grind
     have t:∀k,(∀q,q∈rs->k≠ .m q)-> ∀b,b∈J k->b<w.heap.size/\b∉L/\ ¬X1 b:=λk hk b hb=>by
      rw[cb k hk]at hb;obtain⟨_,G,g3⟩:=l.own k b hb;refine⟨G,λE=>?_,g3⟩;rcases a4 b E with⟨q,p,hb'⟩|hb'
      ·exact hk q p (l.pS _ _ b hb hb')
      ·exact l.pL _ b hb (by simp[hb'])
     have b0:∀b,b∈S++(Z++C)->W0.mine b/\b<w'.heap.size/\ ¬X' b:=λb hb=>by
      obtain⟨I,G,g3⟩:=u.nin b hb;exact⟨I.elim (λg=>.inl (Lm l.below.size g)) λg=>(hL b g).1,G,g3⟩
     have ad:∀b,b∈S++C->W0.B<=b:=λb hb=>by
      have hb':b∈S++(Z++C):=Ag
      rcases(u.nin b hb').1 with g|g
      ·exact Lm l.below.sizeB g
      ·rcases a4 b g with⟨q,p,hbq⟩|hbM
       rotate_left
       ·exact b7 b hbM
       obtain⟨e2,T2,f2,y2,b2,S2,c2,p1,p2,p3,_⟩:=bx q p;rw[p2]at hbq;rcases Ma.1 hbq with rfl|hbq
       ·exfalso;have au:=u.nd
        grind
       ·have hs:=l.slots (.m q);rw[p1]at hs;obtain⟨b3,c3,S3,I,G,g3,g4⟩:=hs;rw[p2]at G;obtain⟨rfl,rfl⟩:=Ls G
        grind[T8]
     have h3:R n W0 w' X1 J [] (yD rs s1) a:=h2.drop.worldD (rs:=rs) cc u.size (λb hb=>u.block b (l.xlt b hb) λE=>(hL b E).2.2 hb)
      (λq p=>by
       obtain⟨e1,T1,f1,y1,b1,S1,m1,m2,m3,m4,m5⟩:=a0 q p
       grind)
      (λk hk b hb=>u.block b (t k hk b hb).1 (t k hk b hb).2.1)
     have h4:R n W0 w' X' J [] (yD rs s1) a:=R.xup hs0 h3 u.xx u.xlt
      (λb hb=>(u.xin b hb).elim (l.xin b) λg=>.inr (g.elim (λg=>.inl (Lm l.below.size g)) λg=>(hL b g).1))
      (λk b hb hx=>by
       by_cases hk:∃q,q∈rs/\k=.m q
       ·obtain⟨q,p,rfl⟩:=hk;obtain⟨b1,I,G⟩:=O q p
        grind
       ·obtain⟨I,G,g3⟩:=t k (λq p e=>hk ⟨q,p,e⟩) b hb;rcases u.xin b hx with g|g|g
        ·exact g3 g
        all_goals grind) (λb hb=>by cases hb)
     have V:=Ll.1 u.nd;have b4:=Ll.1 V.2.1;have h5:R n W0 w' X' J (C++(S++[])) (yD rs s1) a:=by
      have:=h4.hand (S:=C++S) (λb hb=>b0 b Ag)
       (Ll.2 ⟨b4.2.1,V.1,λx hx y hy e=>V.2.2 y hy x (by simp[hx]) e.symm⟩)
       (λk b hb E=>by
        have c0:b∈S++C:=Ag
        by_cases hk:∃q,q∈rs/\k=.m q
        ·obtain⟨q,p,rfl⟩:=hk;obtain⟨b1,I,G⟩:=O q p
         grind
        ·obtain⟨I,G,g3⟩:=t k (λq p e=>hk ⟨q,p,e⟩) b hb;have cl:b∈S++(Z++C):=Ag
         rcases(u.nin b cl).1 with g|g
         all_goals grind) (λb _ E=>by cases E)
      simpa using this
     have E:Cz J (yD rs s1) e.args rs Z:=Ey a2 hO λq p e1 T1 f1 y1 b1 S1 I G=>by
      obtain⟨e2,T2,f2,y2,b2,S2,m1,m2,m3,m4,m5⟩:=a0 q p
      grind
     obtain⟨F6,h6⟩:=C6 h5 hO E au λb hb=>ad b (by simp[hb]);refine ab Y S X' F6 w' h6 N ⟨Z,hP,λj q b=>MQ h5 E⟩ (λb hb=>ad b (by simp[hb])) (λb hb=>u.xx b (ar b hb)) λb hb=>?_;rcases hb with hb|⟨q,p,c1,hv⟩
     ·exact u.block b (l.xlt b (ar b hb)) λE=>(hL b E).2.2 (ar b hb)
     ·obtain⟨S1,a5⟩:=l.boxIn (D q p) hv;refine u.block b (l.own (.m q) b (by rw[a5];simp)).2.1 λE=>?_;rcases a4 b E with⟨q',c4,hb'⟩|hb'
      ·have:=l.pS (.m q) (.m q') b (by rw[a5];simp) hb'
       grind
      ·exact l.pL (.m q) b (by rw[a5];simp) (by simp[hb'])
    split at hr
    ·rename_i hd;simp only[Lv]at hr;obtain⟨z,hz,hk⟩:=hr;refine call hz λY S X' F' w' hR _ _ _ b5 b6=>?_;have ab:=hK (J7 Y) w' X' F' _ hk;rw[hd]at ab⊢;exact ab hR.drop b5 b6
    ·rename_i d hd;split at hr
     ·cases hr
     ·rename_i A;simp only[pC,Lp,Lq]at A;simp only[Lv]at hr;obtain⟨z,hz,hk⟩:=hr;refine call hz λY S X' F' w' hR N cm hB b5 b6=>?_;obtain⟨Z,hP,p⟩:=cm;have H:=Cl (as:=e.args) (x:=z.2) A.1.1 (JT A.2);have cr:∃F' s',k s'=K1 r/\R n W0 w' X' F' [] s' (a.put (K1 d) (J7 Y)):=by
       generalize CQ e.args z.2 rs (yD rs s1)=s3 at hR H hk;generalize z.1=zz at N hP hk;revert zz;generalize e.res=rk;intro zz N hP hk;cases rk with
       |vals ts=>
        obtain⟨J,h2⟩:=hR.putRes H A.1.2 (MN N hB);exact⟨J,_,hk,h2⟩
       |newb e2 T2=>
        obtain⟨b,c,rfl,rfl,I,G⟩:=N;exact⟨_,_,hk,hR.put H A.1.2 ⟨b,c,[],rfl,rfl,I,by grind[Pr,V8]⟩⟩
       |shr ts=>
        obtain⟨rfl,G⟩:=N;obtain⟨J,h2⟩:=R.putSh (by simpa using hR) H A.1.2 G;exact⟨J,_,hk,h2⟩
       |flg ts=>
        obtain⟨J,h2⟩:=R.putF hR H A.1.2 (Fe N hB);exact⟨J,_,hk,h2⟩
       |fp T j p1 p2=>
        have N:S=[]:=N;subst N;obtain⟨b,hb,rfl⟩:=hP;simp only[BQ]at hk;split at hk
        ·rename_i q cp;split at hk
         ·rename_i e2 U f y hg;split at hk
          ·rename_i hU;have hU:=pE hU;subst hU;have hs:=hR.slots (.m q);rw[hg]at hs;obtain⟨b2,c2,S2,I,G,g3,g4⟩:=hs;have hv:=p j q b cp hb;rw[hv]at I;simp only[Ni,pB,M4,and_true]at I;subst I;cases zz with
           |true=>exact⟨_,_,hk,hR.put H A.1.2 ⟨rfl,e2,U,f,y,b,S2,hg,G,rfl⟩⟩
           |false=>exact⟨_,_,hk,hR.put H A.1.2 ⟨rfl,e2,U,f,y,b,S2,hg,G,rfl⟩⟩
          ·cases hk
         ·cases hk
        ·cases hk
      grind
def Bp(d:Nat):Tm->Bool|.ptr r _=> !(Lf r d)|.aep r _ _=> !(Lf r d)|.pls _ l=>l.all λq=> !(Lf q.1 d)|.cl _ l=>l.all λq=> !(Lf q d)|.gd _ _ t=>Bp d t|_=>K3
def OO(s:St)(d:Nat):Bool:=s.env.all λp=>Bp d (s.get p.1)
def RX:∀{l:List (A4×Tm)}{k:A4},ma l k=.pR\/ ∃p∈l,p.1=k
 |[],k=>.inl rfl
 |(j,t)::r,k=>by
  rw[Qd];split
  ·simp_all
  ·rcases RX (l:=r) (k:=k)with h|⟨p,a,e⟩
   all_goals grind
def Qm8{s:St}(h:OO s d=K3)(k:A4):Bp d (s.get k)=true:=by
 unfold OO at h;rcases RX (l:=s.env) (k:=k)with hk|⟨p,a,rfl⟩
 ·unfold St.get;rw[hk];rfl
 grind
def qF(q:Nat):List (A4×Tm)->St->St
 |[],s=>s
 |(.m k,_)::r,s=>match s.get (.m k)with
  |.ptr q' _=>match Lf q' q with
   |true=>qF q r (Y7 s k .pR)
   |false=>qF q r s
  |_=>qF q r s
 |(.c _ _,_)::r,s=>qF q r s
def gR{q k:Nat}{e:Ld}{T:Ty}{f:Fl}{y:T.den}:∀{l:List (A4×Tm)}{s:St},s.get (.m k)=.box e T f y->(qF q l s).get (.m k)=.box e T f y
 |[],s,h=>h
 |(.m j,_)::r,s,h=>by
  simp only[qF];split
  ·rename_i a p b;split
   ·refine gR ?_;rw[Ye,if_neg]
    all_goals grind
   ·exact gR h
  ·exact gR h
 |(.c _ _,_)::r,s,h=>gR (l:=r) h
def Uw:St->List Lc->Option (TV×St)
 |s,[]=>K1 (⟨.unit,()⟩,s)
 |s,x::xs=>match Uz (RO s [] x)with
  |some q=>match s.get (.m q)with
   |.box e T f y=>match f.live&&OO (qF q s.env s) q with
    |true=>match Uw (Y7 (qF q s.env s) q (.shp T y)) xs with
     |some (⟨U,u⟩,s')=>K1 (⟨.pair (.sptr e T) U,(y,u)⟩,s')
     |none=>K2
    |false=>K2
   |_=>K2
  |none=>K2
def LQ:(ts:List Ty)->(T:Ty)->T.den->Option (J6 ts)
 |[],.unit,_=>K1 ()
 |.sptr e t::ts,.pair a b,x=>match Jz (.sptr e t) a x.1,LQ ts b x.2 with
  |some u,K1 us=>K1 (u,us)
  |_,_=>K2
 |_,_,_=>K2
def KH(s:St)(tg:Yl):(ts:List Ty)->List Lc->(T:Ty)->T.den->Option (J6 ts)
 |ts,[],T,y=>LQ ts T y
 |t::ts,x::xs,T,y=>match cu s (RO s tg x) t,KH s tg ts xs T y with
  |some u,K1 us=>K1 (u,us)
  |_,_=>K2
 |[],_::_,_,_=>K2
def ED(s:St)(tg:Yl)(x:Lc):Option (Lg×TV):=
 match xK s (RO s tg x)with
 |some ⟨.clo f T,_,y⟩=>K1 (f,⟨T,y⟩)
 |_=>K2
def De{ρ:Type}(Γ:Ur)(n:Nat)(s:St)(tg:Yl)(dst:Option Nat)(c:Lg×TV)(xs:List Lc)(k:St->Option ρ):Option ρ:=
 match Γ.find c.1 with
 |none=>K2
 |some e=>match KH s tg e.args xs c.2.1 c.2.2 with
  |none=>K2
  |some us=>match dst with
   |none=>(e.F us).bind λ_=>k s
   |some d=>match Wa s d&&Li d n with
    |false=>K2
    |true=>(e.F us).bind λr=>k (WV e.ro d s e.res r)
def Qoi{s2:St}{t:Tm}{S0:List Nat}{v:K4}(ht:Td gh w w' s s2 F (Q6 F (.m d) S0) a d t)(hX:∀b,X b->X' b)(hw:∀b,X b->w'.heap[b]? =w.heap[b]?)
  (hF:∀k b,k≠ .m d->b∈F k->w'.heap[b]? =w.heap[b]?) (hS:∀b∈S,w'.heap[b]? =w.heap[b]?):∀{u:Tm},Bp d u=K3->
  vt gh w X B s F a v S u->vt gh w' X' B s2 (Q6 F (.m d) S0) a v S u:=by
 intro u D c;have Z:∀{r:Nat}{p:List Nat}{v:K4}{U:Ty},(r=d-> ∀v U,X4 gh w s F a d p v U->X4 gh w' s2 (Q6 F (.m d) S0) a d p v U)->X4 gh w s F a r p v U->X4 gh w' s2 (Q6 F (.m d) S0) a r p v U:=by
  intro r p v U hk hv;by_cases C:r=d
  ·simp_all
  ·exact Fv ht C (λb=>hF (.m r) b (by simpa using C)) hv
 induction u with
 |pR=>exact c
 |tup=>exact c
 |val T f x=>exact qp (s:=s) (F:=λ_=>[]) (a:=a) (v:=v) (t:=.val T f x) hX hw Ac hS (show vt gh w X B s (λ_=>[]) a v S (.val T f x)from c)
 |box e T f x=>exact qp (s:=s) (F:=λ_=>[]) (a:=a) (v:=v) (t:=.box e T f x) hX hw Ac hS (show vt gh w X B s (λ_=>[]) a v S (.box e T f x)from c)
 |shp T x=>exact qp (s:=s) (F:=λ_=>[]) (a:=a) (v:=v) (t:=.shp T x) hX hw Ac hS (show vt gh w X B s (λ_=>[]) a v S (.shp T x)from c)
 |ptr r p=>
  obtain⟨o,e,T,f,x,b,E,A,H,G⟩:=c;have C:d≠r:=λe=>by simp_all[Bp]
  exact⟨o,e,T,f,x,b,E,by rw[ht.get];simp[C,A],Ag,G⟩
 |aep r p i=>
  obtain⟨o,e,T,f,x,b,E,n,L,y,A,H,G,M⟩:=c;have C:d≠r:=λe=>by simp_all[Bp]
  exact⟨o,e,T,f,x,b,E,n,L,y,by rw[ht.get];simp[C,A],Ag,G,M⟩
 |bor r p=>
  obtain⟨o,A⟩:=c;refine⟨o,λz=>?_⟩;obtain⟨z,I⟩:=ht.bad r p z
  grind
 |elp r p i q=>
  obtain⟨o,A⟩:=c;refine⟨o,λz=>?_⟩;obtain⟨z,I⟩:=ht.bad r p z
  grind
 |bel r p i q=>
  obtain⟨o,A⟩:=c;refine⟨o,λz N=>?_⟩;obtain⟨N,C⟩:=ht.el r (St.bad_foul z) N;obtain⟨z,I⟩:=ht.bad r p z;obtain⟨e,L,J,n,O,x0,y,cs,h,k1,k2,k3,k4,k5,k6,k7⟩:=A z N;have W:∀m,(J.add m).block=J.block:=λm=>by grind[Ml]
  exact⟨e,L,J,n,O,x0,y,cs,Z I h,k1,k2,Ag,k4,k5,k6,λj u I=>by
   grind[M2]⟩
 |cl f l=>
  obtain⟨o,P,A,H,G⟩:=c;refine⟨o,P,A,H,λj q K=>?_⟩;obtain⟨u,c,e,T,f,x,b,E,Q,g2,V⟩:=G j q K;have C:d≠q:=λe=>by
   have:=Lx.1 (show l.all (λq=> !(Lf q d))=K3 from D) q (Mq K);simp[e]at this
  exact⟨u,c,e,T,f,x,b,E,by rw[ht.get];simp[C,Q],Ag,V⟩
 |pls hh l=>
  obtain⟨o,J,P,A,H,G,M,h5⟩:=c;refine⟨o,J,P,hX _ A,λj u I=>?_,G,λj q K=>?_,h5⟩
  ·grind[Ml,M2]
  ·obtain⟨u,c,e,T,f,x,b,E,Q,g2,V⟩:=M j q K;have C:d≠q.1:=λe=>by
    have:=Lx.1 (show l.all (λq=> !(Lf q.1 d))=K3 from D) q (Mq K);simp[e]at this
   exact⟨u,c,e,T,f,x,b,E,by rw[ht.get];simp[C,Q],Ag,V⟩
 |gd g Y u ih=>
  intro z;obtain⟨z,I⟩:=ht.pN g z;obtain⟨o,A,H⟩:=c z;refine⟨?_,λW=>ih D (A W),H⟩;by_cases hg:g=d
  ·simp_all
  ·rw[ht.get];grind
def R.frzB(hs0:g.soft=La)(h:R n W0 w X F H s a){e:Ld}{T:Ty}{f:Fl}{x:T.den}(hg:s.get (.m k)=.box e T f x)(hf:f.live=K3)(hp:OO s k=K3):
  R n W0 w (λb=>X b\/b∈F (.m k)) (Q6 F (.m k) []) H (Y7 s k (.shp T x)) a/\ ∃b c,Qw W0.gh a (.m k)=.pointer (K1 ⟨b,0,K2⟩)/\b∈F (.m k)/\w.heap[b]? =K1 (.cells c e (0,0))/\rd w (λb=>X b\/b∈F (.m k)) W0.B .sh T x c.toList []:=by
 have y:=h.slots (.m k);rw[hg]at y;obtain⟨b,c,D,p,r,t,A⟩:=y;have z:rd w (λb=>X b\/b∈F (.m k)) W0.B .sh T x c.toList []:=J3 (λb l=>.inl l) hf A λb l=>.inr Af;have l:b∈F (.m k):=by rw[r];simp
 refine⟨?_,b,c,p,l,t,z⟩;exact
 {size:=h.size
  defers:=h.defers
  below:=h.below
  glob:=h.glob
  gx:=λb l=>.inl (h.gx b l)
  xs:=λe=>Af
  fix:=h.fix
  xlt:=λb l=>l.elim (h.xlt b) λl=>(h.own _ b l).2.1
  xin:=λb l=>l.elim (h.xin b) λl=>.inr (h.own _ b l).1
  x0:=λb l=>.inl (h.x0 b l)
  own:=λj b l=>by
   simp only[Q6]at l;split at l
   ·cases l
   ·rename_i q;obtain⟨p,r,t⟩:=h.own j b l;exact⟨p,r,λhx=>hx.elim t λhk=>q (h.pS j (.m k) b l hk)⟩
  nodup:=λj=>by
   simp only[Q6];split
   ·simp
   ·exact h.nodup j
  pS:=λj C b l o=>by
   simp only[Q6]at l o;split at l
   ·cases l
   ·split at o
    ·cases o
    ·exact h.pS j C b l o
  hown:=λb l=>let⟨p,r,t⟩:=h.hown b l;⟨p,r,λhx=>hx.elim t λhk=>h.pL _ b hk l⟩
  pK:=h.pK
  pL:=λj b l=>by
   simp only[Q6]at l;split at l
   ·cases l
   ·exact h.pL j b l
  pM:=λd i v=>by
   rw[Ye]at v⊢;simp only[reduceCtorEq,if_false]at v;obtain⟨p,r⟩:=h.pM d i v
   grind
  slots:=λj=>by
   by_cases q:j=.m k
   ·subst q;rw[Ye];simp only[if_true,Q6];refine⟨rfl,⟨b,0,K2⟩,c.toList,p,.inr l,λj u q=>?_,V8 z Ac⟩;rw[cY w t,<-Array.getElem?_toList,Mx];exact q
   ·have e:Q6 F (.m k) [] j=F j:=by simp[Q6,q]
    rw[Ye,e];simp only[Lo q,if_false];exact Qoi Pi (λ_ h=>.inl h) (λ_ _=>rfl) (λ_ _ _ _=>rfl) (λ_ _=>rfl) (Qm8 hp j) (h.slots j)}
def JN{q:Nat}:∀{l:List (A4×Tm)}{s:St}{F:A4->List Nat},R n W0 w X F H s a-> ∃F',R n W0 w X F' H (qF q l s) a
 |[],s,F,h=>⟨F,h⟩
 |(.m k,_)::r,s,F,h=>by
  simp only[qF];split
  ·rename_i i p d;split
   ·exact JN (h.turn (S':=[]) (H':=H) h.below (Lj _) (λ_ _=>rfl) (λ_ _ _ _=>rfl) (λb g=>Af) (by simpa using h.pK) (by rw[d];simp) (λe T f x b S g j=>Af) rfl)
   ·exact JN h
  ·exact JN h
 |(.c _ _,_)::r,s,F,h=>JN (l:=r) h
def Ga(hs0:g.soft=La):∀{xs:List Lc}{s s':St}{X:Nat->Prop}{F:A4->List Nat}{U:TV},R n W0 w X F H s a->Uw s xs=K1 (U,s')->
  ∃X' F',R n W0 w X' F' H s' a/\(∀b,X b->X' b)/\rd w X' W0.B .sh U.1 U.2 (xs.map a.eval) []
 |[],s,s',X,F,U,h,d=>by
  simp only[Uw,pB,pF]at d;obtain⟨rfl,rfl⟩:=d;exact⟨X,F,h,λ_ h=>h,rfl,rfl⟩
 |x::xs,s,s',X,F,U,h,d=>by
  simp only[Uw]at d;split at d
  ·rename_i q o;split at d
   ·rename_i e T f y m;split at d
    ·rename_i i;simp only[pC]at i;split at d
     ·rename_i E G I hk;simp only[pB,pF]at d;obtain⟨rfl,rfl⟩:=d;obtain⟨J,p⟩:=JN (q:=q) (l:=s.env) h;obtain⟨r,b,c,t,u,v,z⟩:=R.frzB hs0 p (gR m) i.1 i.2;obtain⟨X',F',A,j,C⟩:=Ga hs0 r hk;refine⟨X',F',A,λb D=>j b (.inl D),?_⟩;have k:=Oe h o m;exact⟨[_],_,[],[],rfl,rfl,⟨rfl,rfl,b,c,by rw[k,t],j b (.inr u),v,Wy j (λ_ _=>rfl) z Ac⟩,C⟩
     ·cases d
    ·cases d
   ·cases d
  ·cases d
def Z43{X:Nat->Prop}(hX:∀b,X b->b<w.heap.size){ts:List Ty}:∀{T:Ty}{y:T.den}{us:J6 ts}{cs:List K4},LQ ts T y=K1 us->rd w X B .sh T y cs []->WL w (· <w.heap.size) 0 ts us cs:=by
 induction ts with
 |nil=>
  intro T y us cs c d;cases T<;>first
   |exact d.1
   |(simp[LQ]at c;done)
 |cons t ts h=>
  intro T y us cs c d;cases t<;>first
   |(simp[LQ]at c;done)
   |skip
  cases T<;>first
   |(simp[LQ]at c;done)
   |skip
  rename_i e t a b;obtain⟨i,j,k,l,m,D,n,p⟩:=d;simp only[LQ]at c;split at c
  ·rename_i u q r f;simp only[pB]at c;subst c;have:=Wu r;obtain⟨E,F⟩:=y;cases this;have s:k=[]/\l=[]:=Af
   obtain⟨rfl,rfl⟩:=s;obtain⟨_,o,v,x,g,z,A,C⟩:=n;refine⟨i,j,by rw[m,g];rfl,?_,h f p⟩;exact V8 (iN (L5 _) hX ⟨rfl,o,v,x,g,z,A,C⟩) Ac
  ·cases c
def AI{Y:Nat->Prop}(hY:∀b,Y b->b<w.heap.size)(h:R n W0 w X F H s a)(ht:tg.ok W0.gh a):∀{ts:List Ty}{xs:List Lc}{T:Ty}{y:T.den}{us:J6 ts}{cs:List K4},KH s tg ts xs T y=K1 us->rd w Y B .sh T y cs []->WL w (· <w.heap.size) 0 ts us (xs.map a.eval++cs)
 |ts,[],T,y,us,cs,c,d=>Z43 hY (by simp_all[KH]) d
 |t::ts,x::xs,T,y,us,cs,c,d=>by
  simp only[KH]at c;split at c
  ·rename_i u g i e;simp only[pB]at c;subst c;obtain⟨f,j,k⟩:=ea h ht i;exact⟨f,_,by simp[j],iN (L5 _) (λ_ h=>h) k,AI hY h ht e d⟩
  ·cases c
 |[],_::_,_,_,_,_,c,_=>by grind[KH]
def Qad(h:R n W0 w X F H s a)(ht:tg.ok W0.gh a){x:Lc}{f:Lg}(hf:ED s tg x=K1 (f,U)):∃cs:List K4,a.eval x=.func (.func f) #[] cs.toArray/\ ∃S:List Nat,rd w (λb=>X b\/b∈S) W0.B .sh U.1 U.2 cs []/\ ∀b∈S,b<w.heap.size:=by
 unfold ED at hf;split at hf
 ·rename_i o T p y d;simp only[pB,pF]at hf;obtain⟨rfl,rfl⟩:=hf;obtain⟨c,q,S,e,g,i⟩:=lx h ht d;obtain⟨_,cs,j,l⟩:=J3 (X':=λb=>X b\/b∈S) (λ_ h=>.inl h) c g (λ_ h=>.inr h);exact⟨cs,by rw[e,j];rfl,S,l,λb m=>let⟨k,hk⟩:=i b m;(h.own k b hk).2.1⟩
 ·cases hf
def Ek{Γ:Ur}(hΓ:Γ.ok P g)(h:R n W0 w X F H s a)(ht:tg.ok W0.gh a){f:Lg}(hfo:ED s tg fo=K1 (f,U))(ho:o.op=.call {callee:=.value fo,args:=xs,argTypes:=ats}){e:LR}(he:Γ.find f=K1 e)
  {us:J6 e.args} (hus:KH s tg e.args xs.toList U.1 U.2=K1 us) {rv:J6 e.res} (hpre:e.F us=K1 rv) 
  (hK:∀rs S w',R n W0 w' X F (S++H) s a->xQ e.ro w' W0.B e.res rv rs S->Bq w w'->K (a.put o.dst (J7 rs)) w'):o.wp P a w K Q:=by
 obtain⟨D,l⟩:=Ur.find_ok hΓ he;subst D;obtain⟨m,hfo,J,v,y⟩:=Qad h ht hfo;have E:=l.calls w us rv (xs.toList.map a.eval++m) h.glob (AI (λb d=>d.elim (h.xlt b) (y b)) h ht hus v) hpre;have p:(execOp a.eval o).run P w=.ok (.enter e.f (xs.toList.map a.eval++m).toArray) w:=by
  have:execOp a.eval o=callFunc e.f (xs.map a.eval++m.toArray):=by
   simp_all[execOp,resolve,L4,invoke]
  rw[this,l.enters];simp_all
 unfold Ln;rw[p,L6];refine E.mono λL w' ⟨rs,S,z,q,A,r⟩=>?_;subst z;show K (a.put o.dst (J7 rs)) w';have u:∀{j:List Ty}{x:J6 j}{rs:List K4}{S:List Nat},xQ e.ro w' w.heap.size j x rs S->(∀b∈S,w.heap.size<=b/\b<w'.heap.size)/\xQ e.ro w' W0.B j x rs S:=by
  intro j
  induction j with
  |nil=>intro x rs S h;exact⟨by simp[h.2],h⟩
  |cons t j G=>
   intro x rs S ⟨m,us,S1,S2,e1,e2,g1,g2⟩;obtain⟨M,I⟩:=G g2;refine⟨λb d=>?_,m,us,S1,S2,e1,e2,iN h.below.sizeB (λ_ h=>h) g1,I⟩
   grind[xR]
 obtain⟨c,i⟩:=u q;exact hK rs S w' ((h.below' r).hand (λb d=>⟨.inl (Lm h.below.size (c b d).1),(c b d).2,λhx=>by have:=h.xlt b hx;grind⟩) A
  (λk b d C=>by have:=(h.own k b d).2.1;grind) (λb d C=>by have:=(h.hown b C).2.1;grind)) i (λk hk=>r.block k hk)
def Z98{Γ:Ur}(hΓ:Γ.ok P g)(h:R n W0 w X F H s a)(ht:tg.ok W0.gh a){c:Lg×TV}(hfo:ED s tg fo=K1 c)(ho:o.op=.call {callee:=.value fo,args:=xs,argTypes:=ats}){k:St->Option ρ}{r:ρ}(hr:De Γ n s tg o.dst c xs.toList k=K1 r)
   (hK:∀v w' F' s',k s'=K1 r->R n W0 w' X F' H s' (a.put o.dst v)->Bq w w'->K (a.put o.dst v) w'):o.wp P a w K Q:=by
 unfold De at hr;split at hr
 ·cases hr
 ·rename_i e p;split at hr
  ·cases hr
  ·rename_i x j;cases hd:o.dst with
   |none=>
    rw[hd]at hr;simp only[Lv]at hr;obtain⟨t,f,hk⟩:=hr;refine Ek hΓ h ht hfo ho p j f λq S w' m b hold=>?_;have l:=hK (J7 q) w' F s hk;rw[hd]at l⊢;exact l m.drop hold
   |some d=>
    rw[hd]at hr;simp only at hr;split at hr
    ·cases hr
    ·rename_i i;simp only[pC,Lp]at i;simp only[Lv]at hr;obtain⟨t,f,hk⟩:=hr;refine Ek hΓ h ht hfo ho p j f λq S w' m b hold=>?_;obtain⟨F',u⟩:=m.putRes i.1 i.2 b
     grind
def Hm:Tm->Option (TV×Tm)
 |.val T f y=>match Wb T f (.u .an)with
  |true=>K1 (⟨T,y⟩,.val T .d y)
  |false=>K2
 |.box e T f y=>match Wb T f (.u .an)with
  |true=>K1 (⟨T,y⟩,.box e T .d y)
  |false=>K2
 |_=>K2
def LD{w':Le}{B':Nat}(hB:B'<=B):∀{ts:List Ty}{x:J6 ts}{rs:List K4}{S:List Nat},VD w' B ts x rs S->(∀b∈S,B<=b/\b<w'.heap.size)/\VD w' B' ts x rs S:=by
 intro ts
 induction ts with
 |nil=>intro x rs S h;exact⟨by simp[h.2],h⟩
 |cons t ts a=>
  intro x rs S ⟨cs,us,S1,S2,e1,e2,g1,g2⟩;obtain⟨c,d⟩:=a g2;refine⟨λb hb=>?_,cs,us,S1,S2,e1,e2,iN hB (λ_ h=>h) g1,d⟩;rw[e2]at hb;rcases Mj.1 hb with hb|hb
  ·exact xR g1 b hb
  ·exact c b hb
def I6:∀{T:Ty}{x:T.den}{vs:List K4}{S:List Nat},rd w X B .ow T x vs S->rd w X' B .ow T x vs S
 |.unit,_,_,_,h|.int _,_,_,_,h|.bool,_,_,_,h|.fnc _,_,_,_,h|.str,_,_,_,h|.err,_,_,_,h=>h
 |.slice _ t,_,_,_,⟨v,j,f,g,e,i,c,d⟩=>⟨v,j,f,g,e,i,c,Yt d λ_ _ _ _ _ h=>I6 (T:=t) h⟩
 |.pair a b,_,_,_,⟨k,l,f,g,e,i,c,d⟩=>⟨k,l,f,g,e,i,I6 c,I6 d⟩
 |.arr n t,_,_,_,⟨h,m⟩=>⟨h,Yt m λ_ _ _ _ _ h=>I6 (T:=t) h⟩
 |.hid _,_,_,_,⟨e,y,h⟩=>⟨e,y,I6 h⟩
 |.sptr ..,_,_,_,⟨_,o,_⟩=>by simp at o
 |.clo ..,_,_,_,⟨e,p,c,d⟩=>⟨e,p,c,I6 d⟩
def vB:∀{T:Ty}{x:T.den}{vs:List K4}{S:List Nat},rd w X B .an T x vs S->rd w X' B .an T x vs S
 |.unit,_,_,_,h|.int _,_,_,_,h|.bool,_,_,_,h|.fnc _,_,_,_,h|.str,_,_,_,h|.err,_,_,_,h=>h
 |.slice _ t,_,_,_,⟨v,j,f,g,e,i,c,d⟩=>⟨v,j,f,g,e,i,c,Yt d λ_ _ _ _ _ h=>vB (T:=t) h⟩
 |.pair a b,_,_,_,⟨k,l,f,g,e,i,c,d⟩=>⟨k,l,f,g,e,i,vB c,vB d⟩
 |.arr n t,_,_,_,⟨h,m⟩=>⟨h,Yt m λ_ _ _ _ _ h=>vB (T:=t) h⟩
 |.hid _,_,_,_,⟨e,y,h⟩=>⟨e,y,vB h⟩
 |.sptr ..,_,_,_,⟨_,o,_⟩=>by simp at o
 |.clo ..,_,_,_,⟨e,p,c,d⟩=>⟨e,p,c,vB d⟩
def Qds(h:R n W0 w X F [] s a){x:Lc}{q:Nat}(hq:HN s (RO s [] x)=K1 q){T:Ty}{y:T.den}{t:Tm}(hg:Hm (s.get (.m q))=K1 (⟨T,y⟩,t)):
  ∃vs S S2,a.eval x=Yh T vs/\rd w X W0.B .an T y vs S/\(∀b∈S++S2,b∈F (.m q))/\(S++S2).Nodup/\R n W0 w X (Q6 F (.m q) S2) [] (Y7 s q t) a/\
   ((t=.val T .d y/\Qw W0.gh a (.m q)=Yh T vs/\S2=[])\/ ∃e b c,t=.box e T .d y/\S2=[b]/\Qw W0.gh a (.m q)=.pointer (K1 ⟨b,0,K2⟩)/\w.heap[b]? =K1 (.cells c e (0,0))/\c.toList=vs):=by
 cases hs:s.get (.m q)with
 |val U f z=>
  rw[hs]at hg;simp only[Hm]at hg
  ·split at hg
   ·rename_i j;simp only[pB,pF]at hg;obtain⟨A,rfl⟩:=hg;cases A;have l:=nS h hq hs;have g:=h.slots (.m q);rw[hs]at g;obtain⟨vs,hv,i⟩:=g;have i:rd w X W0.B .an T y vs (F (.m q)):=by have:=bD j i;unfold Pr at this;exact this
    refine⟨vs,F (.m q),[],by rw[l];exact hv,i,Ac,by simpa using h.nodup _,?_,.inl ⟨rfl,hv,rfl⟩⟩;exact h.turn (S':=[]) (H':=[]) h.below (Lj _) (λ_ _=>rfl) (λ_ _ _ _=>rfl) Ac Ac (by rw[hs];simp) (λe T f x b S hb=>by rw[hs]at hb;cases hb)
     ⟨vs,hv,by unfold Pr;exact⟨X9 i,kd i,rfl⟩⟩
   ·cases hg
 |box e U f z=>
  rw[hs]at hg;simp only[Hm]at hg
  ·split at hg
   ·rename_i j;simp only[pB,pF]at hg;obtain⟨A,rfl⟩:=hg;cases A;have g:=h.slots (.m q);rw[hs]at g;obtain⟨b,c,S,G,v,C,u⟩:=g;have u:rd w X W0.B .an T y c.toList S:=by have:=bD j u;unfold Pr at this;exact this
    have o:=h.nodup (.m q);rw[v]at o;have l:a.eval x=Yh T c.toList:=by
     unfold HN at hq;split at hq
     ·rename_i k P Q V hx;simp only[pB]at hq;subst hq;obtain⟨rfl,_,hx⟩:=ug hx;rw[hs]at hx;cases hx
     ·rename_i k r hx;split at hq
      ·rename_i D;simp only[pB]at hq;subst hq;obtain⟨_,_,hv⟩:=Ji h (tg:=[]) (λp M=>by cases M) hx Ac;obtain⟨U,hv⟩:=hv D;unfold X4 at hv;rw[hs]at hv;obtain⟨H,W,S',Y,I,E,J,rfl,N⟩:=hv;rw[v]at I;obtain⟨rfl,_⟩:=Ls I;rw[C]at E;simp only[pB,N0]at E;obtain⟨rfl,_⟩:=E;simp only[ap,pB]at J;subst J;rw[N];have O:Yn T []=0:=by cases T<;>rfl
       have Z:=X9 u;simp only[O,List.drop_zero];rw[List.take_of_length_le Aa]
      ·cases hq
     ·cases hq
    refine⟨c.toList,S,[b],l,u,λH hb=>by rw[v];rcases Mj.1 hb with hb|hb<;>simp at hb⊢ <;>simp[hb],?_,?_,.inr ⟨e,b,c,rfl,rfl,G,C,rfl⟩⟩
    ·refine Ll.2 ⟨(L1.1 o).2,Ac,λx hx y K e=>?_⟩;simp only[Mk]at K;subst K;subst e;exact(L1.1 o).1 hx
    ·exact h.turn (S':=[b]) (H':=[]) h.below (Lj _) (λ_ _=>rfl) (λ_ _ _ _=>rfl) (by rw[v];simp) Ac (by rw[hs];simp) (λe' T' f' x' H S' hb L=>by
      rw[hs]at hb;cases hb;rw[v]at L;obtain⟨rfl,_⟩:=Ls L;exact⟨_,_,[],rfl,rfl⟩)
      ⟨b,c,[],G,rfl,C,by unfold Pr;exact⟨X9 u,kd u,rfl⟩⟩
   ·cases hg
 |_=>rw[hs]at hg;cases hg
def Tn(P:Lh)(e e2:Ld):Bool:=
 match P.underlying e,P.info? e2,P.underlying e2 with
 |some (.slice e3),K1 i,K1 (.pointer e4)=>Lf e3 e2&&(Lf i.size 1&&(Mw i.bytes 8192&&(match i.zero with|some (.pointer K2)=>K3|_=>La)))&&(match P.info? e4 with|some i=>Li 0 i.size|none=>La)
 |_,_,_=>La
def GO(P:Lh)(e:Ld):Bool:=match P.underlying e with|some (.interface _)=>K3|_=>La
structure uN where
 pp:List (Ld×Ld):=[]
 er:List Ld:=[]
def uN.elem(t:uN)(e:Ld):Option Ld:=(t.pp.find? λp=>Lf p.1 e).map (·.2)
def uN.isPtr(t:uN)(e:Ld):Bool:=t.pp.any λp=>Lf p.2 e
def uN.isErr(t:uN)(e:Ld):Bool:=t.er.any (Lf e)
structure uN.ok(t:uN)(P:Lh):Prop where
 pp:∀p∈t.pp,Tn P p.1 p.2=K3
 er:∀e∈t.er,GO P e=K3
def sv{P:Lh}{e:Ld}(h:Tn P e e2=K3):P.underlying e=K1 (.slice e2)/\(∃i,P.info? e2=K1 i/\i.size=1/\i.bytes<=8192/\i.zero=K1 (.pointer K2))/\ ∃e4 i,P.underlying e2=K1 (.pointer e4)/\P.info? e4=K1 i/\0<i.size:=by
 unfold Tn at h;split at h
 ·rename_i j i e4 a b k;simp only[pC]at h;obtain⟨⟨c,d,f,l⟩,g⟩:=h;have:=pD c;subst this;refine⟨a,⟨i,b,pD d,by simpa using f,?_⟩,?_⟩
  ·grind
  ·split at g
   all_goals simp_all
 ·cases h
def uN.elem_ok{t:uN}{P:Lh}(h:t.ok P){e:Ld}(he:t.elem e=K1 e2):Tn P e e2=true:=by unfold uN.elem at he;simp only[Mz]at he;obtain⟨p,a,rfl⟩:=he;have b:=Nr a;have:=h.pp p (Nv a);simp_all
def uN.isPtr_ok{t:uN}{P:Lh}(h:t.ok P){e:Ld}(he:t.isPtr e=K3):∃e4 i,P.underlying e=K1 (.pointer e4)/\P.info? e4=K1 i/\0<i.size:=by unfold uN.isPtr at he;rw[M8]at he;obtain⟨p,a,b⟩:=he;have:=(sv (h.pp p a)).2.2;simp_all
def uN.isErr_ok{t:uN}{P:Lh}(h:t.ok P){e:Ld}(he:t.isErr e=K3):∃ms,P.underlying e=K1 (.interface ms):=by
 unfold uN.isErr at he;rw[M8]at he;obtain⟨p,a,b⟩:=he;have:=h.er p a
 grind[pD,GO]
variable {pt:uN}
def RB(s:St)(tg:Yl):Nat->List (Nat×Lc)->Option (List (Nat×List Nat))
 |_,[]=>K1 []
 |k,(i,y)::r=>match Lf i k,RO s tg y with
  |true,.tm _ (.ptr q p)=>match RB s tg (k+1) r with
   |some l=>K1 ((q,p)::l)
   |none=>K2
  |true,.tm q (.box ..)=>match s.get (.m q),RB s tg (k+1) r with
   |.box ..,K1 l=>K1 ((q,[])::l)
   |_,_=>K2
  |_,_=>K2
def vE(h:R n W0 w X F H s a)(ht:tg.ok W0.gh a):∀{parts:List (Nat×Lc)}{k:Nat}{l:List (Nat×List Nat)}{cs:Array K4}{A M:List K4},
  RB s tg k parts=K1 l->cs.toList=A++M->A.length=k->M.length=parts.length->
  ∃us cs',Nl (λi=>K1 (i*1,1)) cs (parts.map λp=>(p.1,a.eval p.2))=K1 cs'/\cs'.toList=A++us/\us.length=l.length/\l.length=parts.length/\ ∀(j:Nat)(q:Nat×List Nat),l[j]? =K1 q-> ∃u,us[j]? =K1 u/\qY s F q.1 q.2 u
 |[],k,l,cs,A,M,g,t,K,D=>by
  simp only[RB,pB]at g;subst g;have:M=[]:=Np D;subst this;exact⟨[],cs,rfl,by simpa using t,rfl,rfl,Ac⟩
 |(i,y)::r,k,l,cs,A,M,g,t,K,D=>by
  simp only[RB]at g;split at g
  ·rename_i k' q p d L;have d:=pD d;subst d;split at g
   ·rename_i Z B;simp only[pB]at g;subst g;obtain⟨_,hv⟩:=Ji h ht L Ac;obtain⟨_,e,T,f,x,b,N,h1,h2,E⟩:=hv;obtain⟨z,o,rfl⟩:∃z o,M=z::o:=by
     cases M with
     |nil=>simp at D
     |cons z o=>simp_all
    have G:(a.eval y).cells= #[a.eval y]:=by rw[E];rfl
    obtain⟨C,I,g2⟩:=zJ (place:=λi=>K1 (i*1,1)) (i:=i) (rest:=r.map λp=>(p.1,a.eval p.2)) (v:=a.eval y) rfl (pre:=A) (mid:=[z]) (post:=o) (by rw[t];simp) Aa rfl (by rw[G];rfl);rw[G]at I;obtain⟨us,cs',k1,O,P,Q,k5⟩:=vE h ht (k:=i+1) (cs:=C) (A:=A++[a.eval y]) (M:=o) B (by rw[I];simp) (by simp[K]) (by simpa using D);refine⟨a.eval y::us,cs',Af,by rw[O];simp,by simp[P],by simp[Q],λj q' J=>?_⟩;cases j with
    |zero=>
     simp only[Mp,pB]at J;subst J;exact⟨_,rfl,e,T,f,x,b,N,h1,h2,E⟩
    |succ j=>simp_all
   ·cases g
  ·rename_i q e0 T0 f0 x0 d L;have d:=pD d;subst d;split at g
   ·rename_i e T f x Z W B;simp only[pB]at g;subst g;obtain⟨rfl,S,_⟩:=ug L;have Y:=h.slots (.m q);rw[W]at Y;obtain⟨b,c,N,U,V,_⟩:=Y;have ab:a.eval (.tmp q)=.pointer (K1 ⟨b,0,K2⟩):=(Y4 W0 a S).symm.trans U;have E:a.eval (.tmp q)=.pointer (K1 ⟨b,Yn T [],K2⟩):=by
     simp_all[Yn]
    obtain⟨z,o,rfl⟩:∃z o,M=z::o:=by
     cases M with
     |nil=>simp at D
     |cons z o=>simp_all
    have G:(a.eval (.tmp q)).cells= #[a.eval (.tmp q)]:=by rw[E];rfl
    obtain⟨C,I,g2⟩:=zJ (place:=λi=>K1 (i*1,1)) (i:=i) (rest:=r.map λp=>(p.1,a.eval p.2)) (v:=a.eval (.tmp q)) rfl (pre:=A) (mid:=[z]) (post:=o) (by rw[t];simp) Aa rfl (by rw[G];rfl);rw[G]at I;obtain⟨us,cs',k1,O,P,Q,k5⟩:=vE h ht (k:=i+1) (cs:=C) (A:=A++[a.eval (.tmp q)]) (M:=o) B (by rw[I];simp) (by simp[K]) (by simpa using D);refine⟨a.eval (.tmp q)::us,cs',Af,by rw[O];simp,by simp[P],by simp[Q],λj q' J=>?_⟩;cases j with
    |zero=>
     simp only[Mp,pB]at J;subst J;exact⟨_,rfl,e,T,f,x,b,N,W,V,E⟩
    |succ j=>simp_all
   ·cases g
  ·cases g
def Cd(pt:uN)(s:St)(tg:Yl)(e:Ld)(len:Nat)(parts:Array (Nat×Lc)):Option I8:=
 match pt.elem e with
 |some _=>match Lf parts.size len&&(Li 0 len&&Mw len 16777216),RB s tg 0 parts.toList with
  |true,K1 l=>K1 ⟨.pls K3 l,s,K3,K2⟩
  |_,_=>K2
 |none=>K2
def Z88(hs:g.soft=La)(h:R n W0 w X F H s a)(ht:tg.ok W0.gh a)(hp:pt.ok P){e:Ld}(ho:o.op=.buildSlice e len parts){r:I8}(hr:Cd pt s tg e len parts=K1 r):zG P n W0 w X H s a o r:=by
 unfold Cd at hr;split at hr
 ·rename_i v E;split at hr
  ·rename_i l x G;simp only[pB]at hr;subst hr;simp only[pC,Nat.ble_eq]at x;obtain⟨k,m,B⟩:=x;have k:=pD k;have m:0<len:=Af
   obtain⟨I,⟨i,J,p,_,L⟩,_⟩:=sv (uN.elem_ok hp E);intro _ K Q N;obtain⟨f,C⟩:∃f:Array K4,f=(Array.range (len*i.size)).map ((N3 K2).cells[· % (N3 K2).cells.size]!):=⟨_,rfl⟩
   obtain⟨D,d,k1,O,U,k4,V⟩:=vE h ht (cs:=f) (A:=[]) (M:=f.toList) G rfl rfl Af;have y:l.length=len:=Af
   have t:(execOp a.eval o).run P w=.ok (.value (.slice (K1 ⟨w.heap.size,0,K2⟩) len len)) (w.alloc (.cells d v)):=by
    simp only[execOp,ho,Lw];rw[run_buildSlice w e v len _ d i _ I J L (by rw[p];omega) (by rw[p];omega) Af];simp
   unfold Ln;rw[t];have z:d.toList=D:=by simpa using O
   have W:=R.give (S:=[w.heap.size]) (H:=H) hs (h.alloc (.cells d v));refine N _ _ F [] _ (λb x=>.inl x) W ⟨rfl,⟨w.heap.size,0,K2⟩,D,.inr Ac,λj u Y=>?_,U,λj q Z=>V j q Z,by rw[y],by grind[maxLen]⟩ (λhm=>by cases hm) ⟨λ_=>Bq.alloc _ _,h.kept (Bq.alloc _ _)⟩;rw[cY (c:=d) (e:=v) _ (qX _ _),<-Array.getElem?_toList,z,Mx];exact Y
  ·cases hr
 ·cases hr
def J'(pt:uN)(s:St)(tg:Yl)(e:Ld)(x:Lc):Option I8:=
 match pt.elem e,RO s tg x with
 |some _,.tm _ (.pls K3 l)=>K1 ⟨.val (.int .i64) (.u .sh) (l.length:Int),s,La,K2⟩
 |_,_=>K2
def Z8p(h:R n W0 w X F H s a)(ht:tg.ok W0.gh a)(hp:pt.ok P){e:Ld}{x:Lc}(ho:o.op=.call {callee:=.builtin .len,args:= #[x],argTypes:= #[e]}){r:I8}(hr:J' pt s tg e x=K1 r):cX P τ W0 w X F s a o r:=by
 unfold J' at hr;split at hr
 ·rename_i c k l b hx;simp only[pB]at hr;subst hr;obtain⟨_,hv⟩:=Ji h ht hx Ac;obtain⟨_,d,f,_,_,_,_,hv,_⟩:=hv;refine Kr rfl λ_=>⟨_,λg _=>?_,Di _ _⟩
  simp only[execOp,ho];simp[resolve,invoke,builtin,hv,Builtin.len_,run_underlying (sv (uN.elem_ok hp b)).1,goInt]
 ·cases hr
def LG(pt:uN)(s:St)(tg:Yl)(e:Ld)(x i:Lc):Option I8:=
 match pt.elem e,RO s tg x,uH s (RO s tg i)with
 |some _,.tm _ (.pls K3 l),K1 (_,j)=>match Lz (0<=j),l.drop j.toNat with
  |true,q::r=>K1 ⟨.pls La (q::r),s,La,K2⟩
  |_,_=>K2
 |_,_,_=>K2
def Z8i(h:R n W0 w X F H s a)(ht:tg.ok W0.gh a)(hp:pt.ok P){e:Ld}{x i:Lc}(ho:o.op=.indexAddr e x i){r:I8}(hr:LG pt s tg e x i=K1 r):cX P τ W0 w X F s a o r:=by
 unfold LG at hr;split at hr
 ·rename_i g k l p j t hx v;split at hr
  ·rename_i q G c I;simp only[pB]at hr;subst hr;have c:0<=j:=pE c;have J:=bo h ht v;obtain⟨_,hv⟩:=Ji h ht hx Ac;obtain⟨_,b,y,K,L,M,N,hv,z⟩:=hv;obtain⟨A,⟨O,Q,B,C,_⟩,_⟩:=sv (uN.elem_ok hp t);have D:j.toNat<l.length:=by
    grind[List.drop_eq_nil_of_le]
   have E:∀w,(sizeOf g).run P w=.ok 1 w:=λw=>by simp_all[sizeOf,typeInfo]
   refine Kr rfl λ_=>⟨.pointer (K1 (b.add j.toNat)),λd _=>?_,rfl,b.add j.toNat,y.drop j.toNat,?_,λm u z=>?_,Ag,λm S U=>?_,rfl⟩
   ·have f:(Nm e (.slice (K1 b) l.length l.length) (.int p j)).run P d=.ok (.pointer (K1 (b.add j.toNat))) d:=by
     simp only[Nm,Lw,asIntOf,Mc,Lt,run_underlying A];simp_all
    simp_all[execOp]
   all_goals grind[Ml]
  ·cases hr
 ·cases hr
def Uv(pt:uN)(s:St)(tg:Yl)(e:Ld)(x:Lc):Option I8:=
 match pt.isPtr e,RO s tg x with
 |true,.tm _ (.pls La (q::_))=>K1 ⟨.ptr q.1 q.2,s,La,K2⟩
 |_,_=>K2
def Z5a(h:R n W0 w X F H s a)(ht:tg.ok W0.gh a)(hp:pt.ok P){e:Ld}{x:Lc}(ho:o.op=.load e x){r:I8}(hr:Uv pt s tg e x=K1 r):cX P τ W0 w X F s a o r:=by
 unfold Uv at hr;split at hr
 ·rename_i k q l j hx;simp only[pB]at hr;subst hr;obtain⟨rfl,hv⟩:=Ji h ht hx Ac;obtain⟨_,f,z,g,A,B,m,hv⟩:=hv;obtain⟨u,C,d⟩:=m 0 q rfl;obtain⟨D,E,p,t,_⟩:=uN.isPtr_ok hp j;have v:w.cell? f=K1 u:=by grind[Ml]
  refine Kr rfl λ_=>⟨u,λi c=>?_,rfl,d⟩
  have y:i.cell? f=K1 u:=by
   have c:=c (by rw[ho];rfl);rw[ho,qs hx Ac]at c;have c:∀b,b<w.heap.size->X b->i.heap[b]? =w.heap[b]? :=c;rw[M2 (w:=w) (c _ (h.xlt _ g) g)];exact v
  simp_all[isAgg,run_underlying,execOp,Instr.loadAt,Instr.sureAddr,loadVar]
 ·cases hr
def GQ(pt:uN)(s:St)(tg:Yl)(op:BinOp)(e:Ld)(x y:Lc):Option I8:=
 match pt.isPtr e,RO s tg x,RO s tg y with
 |true,.tm _ (.ptr q p),.tm _ (.ptr q2 p2)=>match Lf q q2,s.get (.m q)with
  |true,.box _ T _ _=>match op with
   |.eql=>K1 ⟨.val .bool (.u .sh) (Lf (Yn T p) (Yn T p2)),s,La,K2⟩
   |.neq=>K1 ⟨.val .bool (.u .sh) (!(Lf (Yn T p) (Yn T p2))),s,La,K2⟩
   |_=>K2
  |_,_=>K2
 |_,_,_=>K2
def Z35(h:R n W0 w X F H s a)(ht:tg.ok W0.gh a)(hp:pt.ok P){e:Ld}{x y:Lc}(ho:o.op=.binOp op e x y e2){r:I8}(hr:GQ pt s tg op e x y=K1 r):cX P τ W0 w X F s a o r:=by
 unfold GQ at hr;split at hr
 ·rename_i k q p L M b v hx A;split at hr
  ·rename_i N T f z B C;have:=pD B;subst this;obtain⟨_,hv⟩:=Ji h ht hx Ac;obtain⟨_,O,Q,S,U,c,V,j,D,W⟩:=hv;obtain⟨_,g⟩:=Ji h ht A Ac;obtain⟨_,E,Y,Z,x2,b2,S2,l,m,l3⟩:=g;rw[C]at j l;cases j;cases l;rw[D]at m;obtain⟨rfl,rfl⟩:=Ls m;obtain⟨e4,G,i,I,t⟩:=uN.isPtr_ok hp v;have u:∀w,(My e (.pointer (K1 ⟨c,Yn T p,K2⟩)) (.pointer (K1 ⟨c,Yn T b,K2⟩))).run P w=.ok (Lf (Yn T p) (Yn T b)) w:=λw=>by
    have h0:G.size≠0:=Aa
    have hb:((⟨c,Yn T p,K2⟩:L0)==⟨c,Yn T b,K2⟩)=Lf (Yn T p) (Yn T b):=by
     rw[Bool.eq_iff_iff];simp[Nat.beq_eq]
    obtain⟨d,J⟩:∃d,Op.maxDepth=d+1:=⟨9999,rfl⟩
    unfold My;rw[J];simp only[Mb,Lw,run_underlying i,Lt];simp_all[sizeOf,typeInfo,sameAddr]
   split at hr
   ·simp only[pB]at hr;subst hr;refine Kr rfl λ_=>⟨_,λK _=>?_,JK _⟩
    simp_all[execOp,eqGuard,Me]
   ·simp only[pB]at hr;subst hr;refine Kr rfl λ_=>⟨_,λK _=>?_,JK _⟩
    simp_all[execOp,eqGuard,Me]
   ·cases hr
  ·cases hr
 ·cases hr
def nv(pt:uN)(s:St)(tg:Yl)(op:BinOp)(e:Ld)(x y:Lc):Option I8:=
 match pt.isErr e,cu s (RO s tg x) .err,y with
 |true,K1 z,.const .nilIface=>match op with
  |.eql=>K1 ⟨.val .bool (.u .sh) z,s,La,K2⟩
  |.neq=>K1 ⟨.val .bool (.u .sh) (!z),s,La,K2⟩
  |_=>K2
 |_,_,_=>K2
def Z8a(h:R n W0 w X F H s a)(ht:tg.ok W0.gh a)(hp:pt.ok P){e:Ld}{x y:Lc}(ho:o.op=.binOp op e x y e2){r:I8}(hr:nv pt s tg op e x y=K1 r):cX P τ W0 w X F s a o r:=by
 unfold nv at hr;split at hr
 ·rename_i z i j;obtain⟨C,f⟩:=uN.isErr_ok hp i;have hx:∃v,a.eval x=v/\((z=K3/\v=.nilIface)\/(z=La/\ ∃t u,v=.iface t u)):=by
   obtain⟨k,l,m⟩:=ea h ht j;obtain⟨⟨v,rfl,_,p⟩,_⟩:(∃v,k=[v]/\v.oneCell'=K3/\((z=K3/\v=.nilIface)\/(z=La/\ ∃t u,v=.iface t u)))/\_:=m;exact⟨v,l,p⟩
  obtain⟨v,hv,hk⟩:=hx;have g:∀w,(My e v .nilIface).run P w=.ok z w:=λw=>by
   obtain⟨d,q⟩:∃d,Op.maxDepth=d+1:=⟨9999,rfl⟩
   unfold My;rw[q];rcases hk with⟨rfl,rfl⟩|⟨rfl,t,u,rfl⟩
   ·simp only[Mb,Lw,run_underlying f,Lt];simp
   ·simp only[Mb,Lw,run_underlying f,Lt];simp
  have A:∀op w,(eqGuard op e x (.const .nilIface) v .nilIface).run P w=.ok () w:=λop w=>by
   unfold eqGuard;rcases hk with⟨rfl,rfl⟩|⟨rfl,t,u,rfl⟩<;>cases op<;>simp
  split at hr
  ·simp only[pB]at hr;subst hr;refine Kr rfl λ_=>⟨.bool z,λb _=>?_,JK _⟩
   have B:(Me .eql e v .nilIface).run P b=.ok (.bool z) b:=by
    simp_all[Me]
   have c:a.eval (.const .nilIface)=.nilIface:=rfl;simp_all[execOp]
  ·simp only[pB]at hr;subst hr;refine Kr rfl λ_=>⟨.bool (!z),λb _=>?_,JK _⟩
   have B:(Me .neq e v .nilIface).run P b=.ok (.bool (!z)) b:=by
    simp_all[Me]
   have c:a.eval (.const .nilIface)=.nilIface:=rfl;simp_all[execOp]
  ·cases hr
 ·cases hr
def uN.ok_of{P:Lh}{t:uN}(h1:(t.pp.all λp=>Tn P p.1 p.2)=K3)(h2:(t.er.all λe=>GO P e)=K3):t.ok P:=⟨λp a=>Lx.1 h1 p a,λe b=>Lx.1 h2 e b⟩
abbrev Fl.e:Fl:=.p (.u .ow) (.u .sh)
def vI(s:St)(o:TB)(T:Ty):Option T.den:=CJ s o T
def Z5i(h:R n W0 w X F H s a)(ht:tg.ok W0.gh a){x:Lc}{T:Ty}{y:T.den}(hr:vI s (RO s tg x) T=K1 y):
  ∃vs,a.eval x=Yh T vs/\rd w X W0.B .sh T y vs []:=by
 unfold vI CJ at hr;split at hr
 ·rename_i v hv;obtain rfl:=Cq hv;obtain⟨vs,c,b⟩:=zR (w:=w) (X:=X) (B:=W0.B) (own:=.sh) hr;exact⟨vs,c,b⟩
 ·split at hr
  ·rename_i U f j d;obtain⟨g,vs,S,c,b,k⟩:=lx h ht d;split at hr
   ·rename_i i;cases Wu hr;have e:=kI i b;subst e;exact⟨vs,c,V8 (J3 (λ_ h=>h) g b Ac) Ac⟩
   ·cases hr
  ·cases hr
def Pj(s:St)(tg:Yl)(t:Ty):Nat->List (Nat×Lc)->Option (List t.den)
 |_,[]=>K1 []
 |k,(i,y)::r=>match Lf i k,vI s (RO s tg y) t,Pj s tg t (k+1) r with
  |true,K1 z,K1 l=>K1 (z::l)
  |_,_,_=>K2
def IM(h:R n W0 w X F H s a)(ht:tg.ok W0.gh a){t:Ty}:∀{parts:List (Nat×Lc)}{k:Nat}{l:List t.den}{cs:Array K4}{A M C:List K4},
  cs.toList=A++(M++C)->A.length=k*t.size->M.length=parts.length*t.size->Pj s tg t k parts=K1 l->
  ∃vs cs',Nl (λi=>K1 (i*t.size,t.size)) cs (parts.map λp=>(p.1,a.eval p.2))=K1 cs'/\cs'.toList=A++(vs++C)/\cS (rd w X W0.B .sh t) l vs []/\l.length=parts.length
 |[],k,l,cs,A,M,C,d,u,x,c=>by
  simp only[Pj,pB]at c;subst c;have:M=[]:=Np (by simpa using x);subst this;exact⟨[],cs,rfl,d,⟨rfl,rfl⟩,rfl⟩
 |(i,y)::r,k,l,cs,A,M,C,d,u,x,c=>by
  simp only[Pj]at c;split at c
  ·rename_i z L e E j;have e:=pD e;subst e;simp only[pB]at c;subst c;obtain⟨vs,G,m⟩:=Z5i h ht E;have b:=RU (kd m) (X9 m);have f:(a.eval y).cells.size=t.size:=by grind[Array.length_toList,X9]
   have o:M.length=t.size+r.length*t.size:=Ag
   obtain⟨q,D,N⟩:=zJ (place:=λi=>K1 (i*t.size,t.size)) (i:=i) (rest:=r.map λp=>(p.1,a.eval p.2)) (v:=a.eval y) rfl (pre:=A) (mid:=M.take t.size) (post:=M.drop t.size++C)
    (by rw[d,<-Mg (M.take _),List.take_append_drop]) u Ae f
   rw[G,b]at D;obtain⟨g,cs',O,I,J,K⟩:=IM h ht (k:=i+1) (cs:=q) (A:=A++vs) (M:=M.drop t.size) (C:=C) (by rw[D];simp) Ag (by simp[o]) j;exact⟨vs++g,cs',Af,by rw[I];simp,⟨vs,g,[],[],rfl,rfl,m,J⟩,by simp[K]⟩
  ·cases c
def i6(τ:vJ)(s:St)(tg:Yl)(e:Ld)(len:Nat)(parts:Array (Nat×Lc)):Option I8:=
 match τ e with
 |some (.slice e' t)=>match τ e' with
  |some t2=>match Lz (t2=t),Lf parts.size len&&Mw (len*t.size) 16777216 with
   |true,K3=>match Pj s tg t 0 parts.toList with
    |some l=>K1 ⟨.val (.slice e' t) .e l,s,La,K2⟩
    |none=>K2
   |_,_=>K2
  |none=>K2
 |_=>K2
def Zr0(h:R n W0 w X F H s a)(ht:tg.ok W0.gh a)(hτ:τ.ok P){e:Ld}(ho:o.op=.buildSlice e len parts){r:I8}(hr:i6 τ s tg e len parts=K1 r):zG P n W0 w X H s a o r:=by
 unfold i6 at hr;split at hr
 ·rename_i I t u;split at hr
  ·rename_i d y;split at hr
   ·rename_i J f;split at hr
    ·rename_i l j;simp only[pB]at hr;subst hr;have:=pE J;subst this;simp only[pC,Nat.ble_eq]at f;have D:=pD f.1;obtain⟨Y,m⟩:=(hτ _ _ u).slice;obtain⟨i,Z,L,_,hz⟩:=(hτ _ _ y).size;intro _ K Q N;obtain⟨c,E⟩:∃c:Array K4,c=(Array.range (len*i.size)).map ((Yh d (Jk d)).cells[· % (Yh d (Jk d)).cells.size]!):=⟨_,rfl⟩
     have G:c.toList.length=len*d.size:=Af
     obtain⟨z,g,k1,O,S,k4⟩:=IM h ht (k:=0) (cs:=c) (A:=[]) (M:=c.toList) (C:=[]) Ac Ac Af j;have p:l.length=len:=Af
     have q:(execOp a.eval o).run P w=.ok (.value (.slice (K1 ⟨w.heap.size,0,K2⟩) len len)) (w.alloc (.cells g I)):=by
      simp only[execOp,ho,Lw];by_cases U:len*i.size=0
      ·have V:len=0:=by
        grind[Nat.mul_eq_zero]
       simp_all[Instr.buildSlice,run_underlying,M6,typeInfo,newRow,Array.range_zero']
      simp_all[run_buildSlice]
     unfold Ln;rw[q];have W:g.toList=z:=by simpa using O
     refine N _ X F [w.heap.size] _ (λ_ h=>h) (h.alloc _) ⟨[_],rfl,?_⟩ (λ_=>rfl) ⟨λ_=>Bq.alloc _ _,h.kept (Bq.alloc _ _)⟩;have B:z.length=len*d.size:=by grind[XJ,X9]
     refine⟨_,z,rfl,⟨⟨by rw[B,p],.inr ⟨w.heap.size,len,g,by rw[p],h.below.sizeB,qX _ _,Aa,?_,?_,?_⟩⟩,rfl⟩,?_⟩
     ·have:=f.2;have h2:len<=len*d.size:=Nat.le_mul_of_pos_right _ m
      grind[maxLen]
     ·grind
     ·grind
     ·exact Yt S λx v T _ u hr=>Wy (λ_ h=>h) (λb j=>hold w _ b (h.xlt b j)) hr λb j=>absurd (u b j) Ac
    ·cases hr
   ·cases hr
  ·cases hr
 ·cases hr
def Pq(s:St)(x:TB):Option ((_:Ld)×(t:Ty)×List t.den):=
 match xK s x with
 |some ⟨.slice e t,.u .sh,l⟩=>K1 ⟨e,t,l⟩
 |some ⟨.slice e t,.p (.u .ow) (.u .sh),l⟩=>K1 ⟨e,t,l⟩
 |_=>K2
def WQ(h:R n W0 w X F H s a)(ht:tg.ok W0.gh a){x:Lc}{e:Ld}{t:Ty}{l:List t.den}(hr:Pq s (RO s tg x)=K1 ⟨e,t,l⟩):
  ∃v ys,a.eval x=v/\cS (rd w X W0.B .sh t) l ys []/\ ∃ad cap,v=.slice ad l.length cap/\l.length<=cap/\((ad=K2/\l.length=0/\cap=0)\/ ∃a0,ad=K1 a0/\ ∀j u,ys[j]? =K1 u->w.cell? (a0.add j)=K1 u):=by
 unfold Pq at hr;have fin:∀{own:Ow}{e:Ld}{l:List t.den}{v:K4}{b:List K4}{S:List Nat},ep w X W0.B own e t.size l.length v b S-> ∃ad cap,v=.slice ad l.length cap/\l.length<=cap/\((ad=K2/\l.length=0/\cap=0)\/ ∃a0,ad=K1 a0/\ ∀j u,b[j]? =K1 u->w.cell? (a0.add j)=K1 u):=by
  grind[aw]
 split at hr
 ·rename_i k m o d;simp only[pB,M0]at hr;obtain⟨rfl,hr⟩:=hr;simp only[heq_eq_eq,M0]at hr;obtain⟨rfl,hr⟩:=hr;cases hr;obtain⟨_,p,S,f,c,q⟩:=lx h ht d;unfold Pr at c;have r:=kJ c;subst r;obtain⟨v,b,z,A,rfl,y,g,i⟩:=c;obtain⟨rfl,rfl⟩:=Mm.1 y.symm;exact⟨v,b,f,i,fin g⟩
 ·rename_i k m o d;simp only[pB,M0]at hr;obtain⟨rfl,hr⟩:=hr;simp only[heq_eq_eq,M0]at hr;obtain⟨rfl,hr⟩:=hr;cases hr;obtain⟨_,p,S,f,c,q⟩:=lx h ht d;obtain⟨v,b,rfl,g,i⟩:=c;exact⟨v,b,f,i,fin g⟩
 ·cases hr
def Ox(τ:vJ)(s:St)(tg:Yl)(e:Ld)(x y:Lc):Option I8:=
 match τ e with
 |some (.slice e' t)=>match τ e' with
  |some t2=>match Lz (t2=t),xB s (RO s tg x) (.slice e' t)with
   |true,K1 ⟨.slice e1 t1,.p (.u .ow) (.u .sh),l,s1,_⟩=>match Lz (e1=e'/\t1=t)with
    |true=>match Pq s1 (RO s1 tg y)with
     |some ⟨_,t3,l3⟩=>match Jz (.slice e' t1) (.slice e' t3) l3 with
      |some l4=>K1 ⟨.val (.slice e' t1) .e (l++l4),s1,K3,K1 (l.length+l4.length<=Qg)⟩
      |none=>K2
     |none=>K2
    |false=>K2
   |_,_=>K2
  |none=>K2
 |_=>K2
def B4{S1:List Nat}(h:R n W0 w X F (S1++H) s a){t:Ty}{v v':K4}{xs ys:List K4}{l l4:List t.den}
  (h1:ep w X W0.B .ow e' t.size l.length v xs S1) (h2:cS (rd w X W0.B .sh t) l xs []) (h4:cS (rd w X W0.B .sh t) l4 ys [])
  (g2:w'.ownsRow W0.B e' t.size v' (l.length+l4.length) (xs++ys)) (g3:w.grownBy w' v.ownBlock) (g4:v'.ownBlock=v.ownBlock\/ ∀b,v'.ownBlock=K1 b->w.heap.size<=b):
  ∃S,R n W0 w' X F (S++H) s a/\Pr w' X W0.B (.slice e' t) .e (l++l4) [v'] S/\(∀b,X b->w'.heap[b]? =w.heap[b]?)/\ ∀k b,b∈F k->w'.heap[b]? =w.heap[b]? :=by
 have m:S1=v.ownBlock.toList:=h1.2;have f:∀b,b<w.heap.size->b∉S1->w'.heap[b]? =w.heap[b]? :=λb c A=>g3.block b c (λe=>A Af);have i:=h.pK;have o:∀b,X b->w'.heap[b]? =w.heap[b]? :=λb c=>f b (h.xlt b c) λd=>(h.hown b (by simp[d])).2.2 c;have y:∀k b,b∈F k->w'.heap[b]? =w.heap[b]? :=λk b c=>f b (h.own k b c).2.1 λd=>h.pL k b c (by simp[d]);have j:∀b,b∈H->b∉S1:=λb c d=>(Ll.1 i).2.2 b d b c rfl;have p:W0.below w':=⟨g3.os.trans h.below.os,g3.tape.trans h.below.tape,g3.output.trans h.below.output,Lm h.below.size g3.size,λk hk=>
  (f k (L2 (W0.yW k hk) h.below.size) λd=>W0.sep hk (h.hown k (by simp[d])).1 rfl).trans (h.below.block k hk)⟩
 have z:=(h.drop).world p g3.size o y;have q:=g2.lt;have r:R n W0 w' X F (v'.ownBlock.toList++H) s a:=by
  rcases g4 with g4|g4
  ·rw[g4,<-m];refine z.hand (λb c=>?_) (Ll.1 i).1 (λk b c d=>h.pL k b c (by simp[d])) (λb c d=>j b d c);obtain⟨E,G,I⟩:=h.hown b (by simp[c]);simp_all
  ·refine z.hand (λb c=>?_) Ag (λk b c d=>?_) (λb c d=>?_)
   ·have c:v'.ownBlock=K1 b:=by simpa using c
    exact⟨.inl (Lm h.below.size (g4 b c)),(q b c).2,λhx=>Ag⟩
   ·grind
   ·have c:v'.ownBlock=K1 b:=by simpa using c
    have:=(h.hown b (by simp[d])).2.1;grind
 have g:∀{l:List t.den}{xs:List K4},cS (rd w X W0.B .sh t) l xs []->cS (rd w' X W0.B .sh t) l xs []:=λC=>
  Yt C λx v T _ D u=>Wy (λ_ h=>h) o u λb c=>absurd (D b c) Ac
 refine⟨v'.ownBlock.toList,r,⟨v',xs++ys,rfl,⟨by simpa using g2,rfl⟩,?_⟩,o,y⟩;exact nD (S:=[]) (S':=[]) (g h2) (g h4)
def Z42(h:R n W0 w X F H s a)(ht:tg.ok W0.gh a)(hτ:τ.ok P){e:Ld}{x y:Lc}(ho:o.op=.call {callee:=.builtin .append,args:= #[x,y],argTypes:= #[e,e]}){r:I8}(hr:Ox τ s tg e x y=K1 r):zG P n W0 w X H s a o r:=by
 unfold Ox at hr;split at hr
 ·rename_i e' t E;split at hr
  ·rename_i t2 j;split at hr
   ·rename_i e1 t1 l s1 m1 G hx;have:=pE G;subst this;obtain⟨_,I,S,vs,B,C,f,_,_⟩:=cP h ht hx;split at hr
    ·rename_i k;obtain⟨rfl,rfl⟩:=pE k;simp only at B C f;obtain⟨v,xs,rfl,D,J⟩:=C;split at hr
     ·rename_i e3 t3 l3 L;split at hr
      ·rename_i l4 m;simp only[pB]at hr;have:=Wu m;cases this;subst hr;obtain⟨M,ys,N,p,O⟩:=WQ f ht L;intro g K Q U;obtain⟨q,i,u1,u2,u3,u4⟩:=OX (P:=P) (hτ _ _ E) (hτ _ _ j) D.1 O (XJ (λ_ _ _ h=>X9 h) p) (XK (λ_ _ _ h=>kd h) p) g h.below.sizeB;obtain⟨V,W,Y,Z,z4⟩:=B4 f D J p u2 u3 u4;have u:a.eval x=v:=B;have c:(execOp a.eval o).run P w=.ok (.value q) i:=by
        simp only[execOp,ho];have z:(Nj #[e,e] o.type #[v,M]).run P w=.ok q i:=u1;simp[resolve,invoke,builtin,u,N,z]
       have d:vT W0.gh X s a K2 w i:=by
        intro b A;rcases A with A|⟨r,h1,_,h2⟩
        ·exact Z b A
        ·obtain⟨S,h3⟩:=f.boxIn (ZA hx h1) h2
         grind
       unfold Ln;rw[c];exact U _ X I V i (λ_ h=>h) W ⟨[q],rfl,Y⟩ Ac ⟨λg=>(by rw[ho]at g;cases g),d⟩
      ·cases hr
     ·cases hr
    ·cases hr
   ·cases hr
  ·cases hr
 ·cases hr
def Il(sf:Bool)(τ:vJ)(s:St)(tg:Yl)(e:Ld)(x y:Lc):Option I8:=
 match τ e,sf with
 |some (.slice e' t),La=>match τ e' with
  |some t2=>match Lz (t2=t),xB s (RO s tg x) (.slice e' t)with
   |true,K1 ⟨.slice e1 t1,.u .ow,l,s1,_⟩=>match Lz (e1=e'/\t1=t)with
    |true=>match Pq s1 (RO s1 tg y)with
     |some ⟨_,t3,l3⟩=>match Jz (.slice e' t1) (.slice e' t3) l3 with
      |some l4=>K1 ⟨.val (.slice e' t1) .e (l++l4),s1,K3,K1 (l.length+l4.length<=Qg)⟩
      |none=>K2
     |none=>K2
    |false=>K2
   |_,_=>K2
  |none=>K2
 |_,_=>K2
def Z1c(hs0:g.soft=La)(h:R n W0 w X F H s a)(ht:tg.ok W0.gh a)(hτ:τ.ok P){e:Ld}{x y:Lc}(ho:o.op=.call {callee:=.builtin .append,args:= #[x,y],argTypes:= #[e,e]}){sf:Bool}{r:I8}(hr:Il sf τ s tg e x y=K1 r):zG P n W0 w X H s a o r:=by
 unfold Il at hr;split at hr
 ·rename_i e' t u;split at hr
  ·rename_i t2 z;split at hr
   ·rename_i e1 V l W m1 hd hx;have:=pE hd;subst this;obtain⟨_,A,S,vs,Y,C,d,_,_⟩:=cP h ht hx;split at hr
    ·rename_i D;obtain⟨rfl,rfl⟩:=pE D;simp only at Y C d;unfold Pr at C;obtain⟨v,Z,E,G,rfl,rfl,k1,k2⟩:=C;split at hr
     ·rename_i e3 t3 l3 hy;split at hr
      ·rename_i l4 I;simp only[pB]at hr;have:=Wu I;cases this;subst hr;have ab:=d.pK;have f:R n W0 w X A (E++H) W a:=d.sub (λb c=>Ag) (by
        grind)
       have J:R n W0 w (λb=>X b\/b∈G) A (E++H) W a:=by
        refine R.xup hs0 f (λ_ h=>.inl h) (λb c=>c.elim (f.xlt b) λc=>(d.hown b (by simp[c])).2.1) (λb c=>c.elim (f.xin b) λc=>.inr (d.hown b (by simp[c])).1) (λk b c hx=>?_) (λb c hx=>?_)
        ·rcases hx with hx|hx
         ·exact(f.own k b c).2.2 hx
         ·exact d.pL k b c (by simp[hx])
        ·rcases hx with hx|hx
         ·exact(f.hown b c).2.2 hx
         grind
       have i:ep w (λb=>X b\/b∈G) W0.B .ow e1 V.size l.length v Z E:=Cc k1 (λ_ h=>.inl h) (λ_ _=>rfl) (λ_ _=>rfl);have L:cS (rd w (λb=>X b\/b∈G) W0.B .sh V) l Z []:=vz k2 λ_ _ _ _ u h=>mw (λ_ h=>.inl h) h λb c=>.inr (u b c);obtain⟨vy,ys,g1,M,hc⟩:=WQ J ht hy;intro p K Q hK;obtain⟨N,q,u1,u2,u3,u4⟩:=OX (P:=P) (hτ _ _ u) (hτ _ _ z) i.1 hc (XJ (λ_ _ _ h=>X9 h) M) (XK (λ_ _ _ h=>kd h) M) p h.below.sizeB;obtain⟨S',z1,z2,z3,z4⟩:=B4 J i L M u2 u3 u4;have O:a.eval x=v:=Y;have j:(execOp a.eval o).run P w=.ok (.value N) q:=by
        simp only[execOp,ho];have U:(Nj #[e,e] o.type #[v,vy]).run P w=.ok N q:=u1;simp[resolve,invoke,builtin,O,g1,U]
       have m:vT W0.gh X s a K2 w q:=by
        intro b c;rcases c with c|⟨r,h1,_,h2⟩
        ·grind
        ·obtain⟨S,h3⟩:=J.boxIn (ZA hx h1) h2
         grind
       unfold Ln;rw[j];exact hK _ _ A S' q (λ_ h=>.inl h) z1 ⟨[N],rfl,z2⟩ Ac ⟨λp=>(by rw[ho]at p;cases p),m⟩
      ·cases hr
     ·cases hr
    ·cases hr
   ·cases hr
  ·cases hr
 ·cases hr
def R.frzE(hs0:g.soft=La)(h:R n W0 w X F H s a){e:Ld}{t:Ty}{x:List t.den}(hg:s.get (.m k)=.val (.slice e t) (.u .ow) x):
  ∃X' F',R n W0 w X' F' H (KJ s k (.val (.slice e t) .e x)) a:=by
 have D:=h.slots (.m k);rw[hg]at D;obtain⟨M,hv,E⟩:=D;unfold Pr at E;obtain⟨v,xs,z,G,rfl,J,K,L⟩:=E;have A:=h.nodup (.m k);rw[J]at A;have B:Td W0.gh w w s (KJ s k (.val (.slice e t) .e x)) F (Q6 F (.m k) z) a k (.val (.slice e t) .e x):=wq ⟨by rw[Kn];simp,λp v U hv=>by
  simp_all[X4,Kn]⟩
 have f:∀b∈G,b∈F (.m k):=λb c=>Af
 refine⟨λb=>X b\/b∈G,Q6 F (.m k) z,?_⟩;exact
 {size:=h.size
  defers:=h.defers
  below:=h.below
  glob:=h.glob
  gx:=λb c=>.inl (h.gx b c)
  xs:=λe=>Af
  fix:=h.fix
  xlt:=λb c=>c.elim (h.xlt b) λc=>(h.own _ b (f b c)).2.1
  xin:=λb c=>c.elim (h.xin b) λc=>.inr (h.own _ b (f b c)).1
  x0:=λb c=>.inl (h.x0 b c)
  own:=λj b c=>by
   simp only[Q6]at c;split at c
   ·obtain⟨o,q,y⟩:=h.own (.m k) b Af
    grind
   ·rename_i r;obtain⟨o,q,y⟩:=h.own j b c;exact⟨o,q,λhx=>hx.elim y λhk=>r (h.pS j (.m k) b c (f b hk))⟩
  nodup:=λj=>by
   simp only[Q6];split
   ·grind
   ·exact h.nodup j
  pS:=λj I b c l=>by
   simp only[Q6]at c l;split at c<;>split at l
   ·simp_all
   ·exact absurd (h.pS (.m k) I b Af l).symm (by assumption)
   ·exact absurd (h.pS j (.m k) b c Af) (by assumption)
   ·exact h.pS j I b c l
  hown:=λb c=>let⟨o,q,y⟩:=h.hown b c;⟨o,q,λhx=>hx.elim y λhk=>h.pL _ b (f b hk) c⟩
  pK:=h.pK
  pL:=λj b c=>by
   simp only[Q6]at c;split at c
   ·exact h.pL (.m k) b Af
   ·exact h.pL j b c
  pM:=λd i C=>by
   rw[Kn]at C⊢;simp only[reduceCtorEq,if_false]at C;obtain⟨o,q⟩:=h.pM d i C
   grind
  slots:=λj=>by
   by_cases r:j=.m k
   ·subst r;rw[Kn];simp only[if_true,Q6];exact⟨[v],hv,v,xs,rfl,Cc K (λ_ h=>.inl h) (λ_ _=>rfl) (λ_ _=>rfl),vz L λ_ _ _ _ B h=>mw (λ_ h=>.inl h) h λb c=>.inr (B b c)⟩
   ·have e:Q6 F (.m k) z j=F j:=by simp[Q6,r]
    rw[Kn,e];simp only[Lo r,if_false];exact RE B (λ_ h=>.inl h) (λ_ _=>rfl) (λ_ _ _ _=>rfl) (λ_ _=>rfl) (λe N O P b S c=>Af) (h.slots j)}
def A4.up:A4->A4|.m t=>.m (t+FD)|.c t i=>.c (t+FD) i
def EP:Tm->Tm|.ptr r p=>.ptr (r+FD) p|.bor r p=>.bor (r+FD) p|.elp r p i q=>.elp (r+FD) p i q|.bel r p i q=>.bel (r+FD) p i q|.aep r p i=>.aep (r+FD) p i|.pls h l=>.pls h (l.map λq=>(q.1+FD,q.2))|.cl f l=>.cl f (l.map (· +FD))|.gd g w t=>.gd (g+FD) w (EP t)|t=>t
def Pd:List (A4×Tm)->List (A4×Tm)|[]=>[]|(k,t)::r=>(k.up,EP t)::Pd r
def AQ:List Tm->Nat->List (A4×Tm)|[],_=>[]|t::ts,i=>(.m i,EP t)::AQ ts (i+1)
def Zrd(s:St)(ts:List Tm):St:={env:=AQ ts 0++Pd s.env,pP:=s.pP.map (· +FD),pQ:=s.pQ.map (· +FD)}
def A4.up_inj{k j:A4}:k.up=j.up↔k=j:=by cases k<;>cases j<;>simp[A4.up]
def IG:∀(l:List (A4×Tm))(k:A4),ma (Pd l) k.up=EP (ma l k)
 |[],k=>rfl
 |(j,t)::r,k=>by
  simp only[Pd,Qd,A4.up_inj];split
  ·rfl
  ·exact IG r k
def fk:∀(l:List (A4×Tm))(k:A4),k.t<FD->ma (Pd l) k=.pR
 |[],_,_=>rfl
 |(j,t)::r,k,hk=>by
  simp only[Pd,Qd];rw[if_neg (λe=>by subst e;cases j<;>simp only[A4.up,A4.t]at hk<;>omega),fk r k hk]
def PO:∀(ts:List Tm)(i:Nat)(E:List (A4×Tm))(k:A4),i+ts.length<=FD->ma (AQ ts i++E) k.up=ma E k.up
 |[],_,_,_,_=>rfl
 |t::ts,i,E,k,h=>by
  simp only[AQ,M9,Qd];simp only[Nt]at h;rw[if_neg (λe=>by cases k<;>simp[A4.up]at e;omega),PO ts (i+1) E k Aa]
def Br:∀(ts:List Tm)(i j:Nat)(E:List (A4×Tm))(t:Tm),ts[j]? =K1 t->ma (AQ ts i++E) (.m (i+j))=EP t
 |[],_,_,_,_,h=>by simp at h
 |u::ts,i,j,E,t,h=>by
  simp only[AQ,M9,Qd];cases j with
  |zero=>simp_all
  |succ j=>
   rw[if_neg Ac,show i+(j+1)=(i+1)+j from by omega];exact Br ts (i+1) j E t (by simpa using h)
def jA:∀(ts:List Tm)(i:Nat)(E:List (A4×Tm))(k:A4),(∀t,k=.m t->t<i\/i+ts.length<=t)->ma (AQ ts i++E) k=ma E k
 |[],_,_,_,_=>rfl
 |u::ts,i,E,k,h=>by
  simp only[AQ,M9,Qd];rw[if_neg (λe=>Ag)];exact jA ts (i+1) E k λt e=>Ag
def Qox(m x c:Nat):Lf (m+c) (x+c)=Lf m x:=by
 cases h:Lf m x
 all_goals grind[pD,Ng]
def NO(m c:Nat):∀l:List Nat,(l.map (· +c)).any (Lf (m+c))=l.any (Lf m)
 |[]=>rfl
 |x::l=>by simp only[Nc,List.any_cons,Qox,NO m c l]
def Ua{s:St}:(Zrd s ts).pN (m+FD)=s.pN m:=NO m FD s.pP
def uX{s:St}{r:Nat}:∀{p:List Nat},(Zrd s ts).bad (r+FD) p=s.bad r p
 |[]=>by
  simp only[St.bad,Ua];rw[show jV (r+FD)=jV r+FD from Nf _ _ _,Ua]
 |i::_=>by
  simp only[St.bad,Ua];rw[show dW (r+FD) i=dW r i+FD from Nf _ _ _,Ua]
def Qlw{s:St}{r:Nat}:(Zrd s ts).pN (om (r+FD))=s.pN (om r):=by rw[show om (r+FD)=om r+FD from Nf _ _ _,Ua]
def Fg(gh:Nat->K4)(a:Act)(t:Nat):K4:=ite (t<FD) undef (uI gh a (t-FD))
def bu.push(z:bu g)(a:Act):bu g:=
 {z with
  gh:=Fg z.gh a
  ghU:=λt ht=>by simp_all[Fg]
  fix:=z.fix.map λp=>(p.1+FD,p.2)}
theorem Qpu(z:bu g)(a:Act)(t:Nat):(z.push a).gh (t+FD)=uI z.gh a t:=by
 have b:¬(t+FD<FD):=Aa
 have c:(z.push a).gh=Fg z.gh a:=rfl;simp_all[Fg,if_neg]
def XN(ha:a'.tmps.size<=FD)(t:Nat):uI (W0.push a).gh a' (t+FD)=uI W0.gh a t:=by grind[uI,Qpu]
def HD(ha:a'.tmps.size<=FD)(k:A4):Qw (W0.push a).gh a' k.up=Qw W0.gh a k:=by
 cases k with
 |m t=>exact XN ha t
 |c t i=>simp_all[A4.up,Qw,XN]
def A3(F:A4->List Nat):A4->List Nat|.m t=>ite (t<FD) [] (F (.m (t-FD)))|.c t i=>ite (t<FD) [] (F (.c (t-FD) i))
def CB(k:A4):A3 F k.up=F k:=by
 cases k with
 |m t=>simp_all[A3,A4.up,if_neg]
 |c t i=>simp_all[A3,A4.up,if_neg]
def zK{k:A4}{b:Nat}(h:b∈A3 F k):∃j:A4,k=j.up/\b∈F j:=by
 cases k with
 |m t=>
  grind[A3,A4.up]
 |c t i=>
  grind[A3,A4.up]
def Hs(hts:ts.length<=FD)(ha:a'.tmps.size<=FD){v:K4}:∀{t:Tm},vt W0.gh w X B s F a v S t->
  vt (W0.push a).gh w X B (Zrd s ts) (A3 F) a' v S (EP t):=by
 have z:∀r,(Zrd s ts).get (.m (r+FD))=EP (s.get (.m r)):=λr=>by
  show ma (AQ ts 0++Pd s.env) (A4.up (.m r))=_;rw[PO _ _ _ _ Aa,IG];rfl
 have A:∀r,A3 F (.m (r+FD))=F (.m r):=λr=>CB (.m r);have K:∀{r p v},qY s F r p v->qY (Zrd s ts) (A3 F) (r+FD) p v:=λ{r p v} ⟨e,T,f,x,b,D,c,d,n⟩=>
  ⟨e,T,f,x,b,D,by rw[z,c];rfl,by rw[A];exact d,n⟩
 have hv:∀{r p v U},X4 W0.gh w s F a r p v U->X4 (W0.push a).gh w (Zrd s ts) (A3 F) a' (r+FD) p v U:=λ{r p v U} h=>by
  unfold X4 at h⊢;rw[z,A];cases E:s.get (.m r)<;>rw[E]at h<;>simp only[EP]at h⊢
  ·exact⟨h.1,h.2.1,h.2.2.trans (XN ha r).symm⟩
  ·exact h
 intro t h
 induction t with
 |pR=>exact h
 |tup=>exact h
 |val T f x=>exact h
 |box e T f x=>exact h
 |shp T x=>exact h
 |ptr r p=>exact⟨h.1,K h.2⟩
 |bor r p=>exact⟨h.1,λg=>let⟨U,hU⟩:=h.2 (uX▸g);⟨U,hv hU⟩⟩
 |elp r p i q=>exact⟨h.1,λg=>let⟨e,t,o,m,cap,k1,k2⟩:=h.2 (uX▸g);⟨e,t,o,m,cap,hv k1,k2⟩⟩
 |bel r p i q=>exact⟨h.1,λg E=>let⟨e,t,o,m,cap,x0,y,cs,k1,k2,k3,k4,k5⟩:=h.2 (uX▸g) (Qlw▸E);⟨e,t,o,m,cap,x0,y,cs,hv k1,k2,k3,by rw[A];exact k4,k5⟩⟩
 |aep r p i=>
  obtain⟨k,e,T,f,x,b,D,m,L,y,c,d,n⟩:=h;exact⟨k,e,T,f,x,b,D,m,L,y,by rw[z,c];rfl,by rw[A];exact d,n⟩
 |pls P l=>
  obtain⟨k,o,G,c,d,n,Q,M⟩:=h;refine⟨k,o,G,c,d,by simpa using n,λj q N=>?_,by simpa using M⟩
  grind
 |cl f l=>
  obtain⟨k,G,c,d,n⟩:=h;refine⟨k,G,c,by simpa using d,λj q N=>?_⟩
  grind
 |gd C I t O=>
  intro g;rw[Ua]at g;obtain⟨k,c,d⟩:=h g;have J:Qw (W0.push a).gh a' (.m (C+FD))=Qw W0.gh a (.m C):=XN ha C;refine⟨?_,λH=>O (c (J▸H)),λH=>d (J▸H)⟩;rw[z];generalize s.get (.m C)=u at k;cases u<;>simp[EP]at k⊢
def R.push(h:R n W0 w X F [] s a){ts:List Tm}{vs:List K4}{m:Nat}(hl:ts.length=vs.length)(hm:ts.length<=m)(hb:m<=FD)(hts:∀(i:Nat) t,ts[i]? =K1 t-> ∃v,vs[i]? =K1 v/\vt W0.gh w X W0.B s F a v [] t):
  R m (W0.push a) w X (A3 F) [] (Go.Am.Zrd s ts) {tmps:=vs.toArray++Array.replicate (m-vs.toArray.size) undef,defers:=[]}:=by
 generalize H:({tmps:=vs.toArray++Array.replicate (m-vs.toArray.size) undef,defers:=[]}:Act)=a';have r:a'.tmps.size=m:=Ag
 have o:ts.length<=FD:=Aa
 have f:∀k:A4,(Go.Am.Zrd s ts).get k.up=EP (s.get k):=λk=>by
  show ma (AQ ts 0++Pd s.env) k.up=_;rw[PO _ _ _ _ Aa,IG];rfl
 have g:∀k:A4,k.t<FD\/ ∃j:A4,k=j.up:=λk=>by
  cases k with
  |m t=>
   rcases Ly t FD with h|h
   ·exact .inl h
   ·exact .inr ⟨.m (t-FD),by simp_all[A4.up]⟩
  |c t i=>
   rcases Ly t FD with h|h
   ·exact .inl h
   ·exact .inr ⟨.c (t-FD) i,by simp_all[A4.up]⟩
 exact
 {size:=r
  defers:=by rw[<-H]
  below:=⟨h.below.os,h.below.tape,h.below.output,h.below.size,h.below.block⟩
  glob:=h.glob
  gx:=h.gx
  xs:=h.xs
  fix:=λp C=>by
   simp only[bu.push,List.mem_map]at C;obtain⟨q,I,rfl⟩:=C;obtain⟨D,u⟩:=h.fix q I;exact⟨by simp_all[Go.Am.Zrd],(XN Aa q.1).trans u⟩
  xlt:=h.xlt
  xin:=h.xin
  x0:=h.x0
  own:=λk b hb=>by obtain⟨j,_,l⟩:=zK hb;exact h.own j b l
  nodup:=λk=>by
   rcases g k with hk|⟨j,rfl⟩
   ·have:A3 F k=[]:=by cases k<;>simp only[A3,A4.t]at hk⊢ <;>rw[if_pos hk]
    rw[this];simp
   ·rw[CB];exact h.nodup j
  pS:=λk N b hb x=>by
   obtain⟨j,rfl,l⟩:=zK hb;obtain⟨J,rfl,y⟩:=zK x;rw[h.pS j J b l y]
  hown:=Ac
  pK:=Ac
  pL:=Ac
  pM:=λd i z=>by
   rcases g (.c d i)with hk|⟨j,l⟩
   ·exfalso;apply z;show ma (AQ ts 0++Pd s.env) _=_;simp_all[jA,fk]
   ·cases j with
    |m t=>grind[A4.up]
    |c t O=>
     simp only[A4.up,A4.c.injEq]at l;obtain⟨rfl,rfl⟩:=l;have E:=f (.c t i);have G:=f (.m t);simp only[A4.up]at E G;rw[E]at z;obtain⟨D,K,u,L⟩:=h.pM t i (λe=>z (by rw[e];rfl));exact⟨by rw[G,D];rfl,K,(XN Aa t).trans u,L⟩
  slots:=λk=>by
   rcases g k with hk|⟨j,rfl⟩
   ·have M:A3 F k=[]:=by cases k<;>simp only[A3,A4.t]at hk⊢ <;>rw[if_pos hk]
    rw[M];cases k with
    |c t i=>
     have:(Go.Am.Zrd s ts).get (.c t i)=.pR:=by
      show ma (AQ ts 0++Pd s.env) _=_;simp_all[jA,fk]
     rw[this];rfl
    |m t=>
     rcases Ly t ts.length with ht|ht
     ·have e:(Go.Am.Zrd s ts).get (.m t)=EP ts[t]:=by
       have:=Br ts 0 t (Pd s.env) ts[t] (Mh ht);rw[Mx]at this;exact this
      rw[e];obtain⟨v,hv,A⟩:=hts t ts[t] (Mh ht);have:Qw (W0.push a).gh a' (.m t)=v:=by
       show uI _ _ _=_
       grind[uI]
      rw[this];exact Hs o Aa A
     ·have:(Go.Am.Zrd s ts).get (.m t)=.pR:=by
       show ma (AQ ts 0++Pd s.env) _=_;simp_all[jA,fk]
      rw[this];rfl
   ·rw[f,CB,HD Aa];exact Hs o Aa (h.slots j)}
def zW(r:Nat):Bool:=Mw FD r
def j4(s:St):Tm->Tm
 |.ptr r p=>match zW r with|true=>.ptr (r-FD) p|false=>.pR
 |.bor r p=>match zW r&& !(s.bad r p)with|true=>.bor (r-FD) p|false=>.pR
 |.elp r p i q=>match zW r&& !(s.bad r p)with|true=>.elp (r-FD) p i q|false=>.pR
 |.bel r p i q=>match zW r&& !(s.bad r p)&& !(s.pN (om r))with|true=>.bel (r-FD) p i q|false=>.pR
 |.aep r p i=>match zW r with|true=>.aep (r-FD) p i|false=>.pR
 |.pls h l=>match l.all λq=>zW q.1 with|true=>.pls h (l.map λq=>(q.1-FD,q.2))|false=>.pR
 |.cl f l=>match l.all zW with|true=>.cl f (l.map (· -FD))|false=>.pR
 |.gd _ _ _=>.pR
 |t=>t
def Ct(s:St):List (A4×Tm)->List (A4×Tm)
 |[]=>[]
 |(.m t,u)::r=>match zW t with|true=>(.m (t-FD),j4 s u)::Ct s r|false=>Ct s r
 |(.c t i,u)::r=>match zW t with|true=>(.c (t-FD) i,j4 s u)::Ct s r|false=>Ct s r
def Ir:List Nat->List Nat
 |[]=>[]
 |r::l=>match zW r with|true=>(r-FD)::Ir l|false=>Ir l
def pop(s:St):St:={env:=Ct s s.env,pP:=[],pQ:=Ir s.pQ}
theorem oO{r:Nat}:zW r=K3↔FD<=r:=by simp[zW]
def Fr(s:St):∀(l:List (A4×Tm))(k:A4),ma (Ct s l) k=j4 s (ma l k.up)
 |[],k=>rfl
 |(.m t,u)::r,k=>by
  simp only[Ct];cases hb:zW t
  ·have:¬FD<=t:=λh=>by grind[oO]
   simp only[Qd];rw[if_neg (λe=>by cases k<;>simp[A4.up]at e;omega),Fr s r k]
  ·have:=oO.1 hb;simp only[Qd];by_cases hk:k=.m (t-FD)
   ·simp_all[A4.up]
   ·rw[if_neg (Lo hk),if_neg (λe=>hk (by cases k<;>simp[A4.up]at e;simp;omega)),Fr s r k]
 |(.c t i,u)::r,k=>by
  simp only[Ct];cases hb:zW t
  ·have:¬FD<=t:=λh=>by grind[oO]
   simp only[Qd];rw[if_neg (λe=>by cases k<;>simp[A4.up]at e;omega),Fr s r k]
  ·have:=oO.1 hb;simp only[Qd];by_cases hk:k=.c (t-FD) i
   ·simp_all[A4.up]
   ·rw[if_neg (Lo hk),if_neg (λe=>hk (by cases k<;>simp[A4.up]at e;simp;omega)),Fr s r k]
def TM:∀{l:List Nat}{r:Nat},r+FD∈l->r∈Ir l
 |x::l,r,h=>by
  simp only[Ir];rcases Ma.1 h with e|h
  ·grind[oO]
  ·cases zW x
   ·exact TM h
   ·exact Nd _ (TM h)
def O1(s:St)(F:A4->List Nat):A4->List Nat:=λk=>match(pop s).get k with|.pR=>[]|_=>F k.up
theorem s9{k:A4}(h:(pop s).get k≠ .pR):O1 s F k=F k.up:=by simp_all[O1]
def Re{k:A4}{b:Nat}(h:b∈O1 s F k):b∈F k.up:=by grind[O1]
def yq(ha:a'.tmps.size<=FD){v:K4}:∀{t:Tm},vt (W0.push a).gh w X B s F a' v S t->j4 s t≠ .pR->
  vt W0.gh w X B (pop s) (O1 s F) a v S (j4 s t):=by
 have H:∀r,(pop s).get (.m r)=j4 s (s.get (.m (r+FD))):=λr=>Fr s s.env (.m r);have d:∀{r:Nat},FD<=r->r-FD+FD=r:=λh=>Aa
 have O:∀{r p v},FD<=r->qY s F r p v->qY (pop s) (O1 s F) (r-FD) p v:=λ{r p v} g ⟨e,T,f,x,b,I,k,C,n⟩=>by
  have o:(pop s).get (.m (r-FD))=.box e T f x:=by rw[H,d g,k];rfl
  exact⟨e,T,f,x,b,I,o,by simp_all[s9,A4.up],n⟩
 have Q:∀{r p v U},FD<=r->X4 (W0.push a).gh w s F a' r p v U->O1 s F (.m (r-FD))=F (.m r):=λ{r p v U} g h=>by
  grind[X4,j4,s9,A4.up]
 have hv:∀{r p v U},FD<=r->X4 (W0.push a).gh w s F a' r p v U->X4 W0.gh w (pop s) (O1 s F) a (r-FD) p v U:=λ{r p v U} g h=>by
  have J:=Q g h;unfold X4 at h⊢;rw[H,d g,J];cases he:s.get (.m r)<;>rw[he]at h<;>simp only[j4]at h⊢
  ·refine⟨h.1,h.2.1,h.2.2.trans ?_⟩;have:=XN (W0:=W0) (a:=a) ha (r-FD);rw[d g]at this;exact this
  ·exact h
 intro t h c;cases t with
 |pR=>exact h
 |tup=>exact h
 |val T f x=>exact h
 |box e T f x=>exact h
 |shp T x=>exact h
 |ptr r p=>
  simp only[j4]at c⊢;cases hb:zW r<;>simp only[hb]at c⊢
  ·simp_all
  ·exact⟨h.1,O (oO.1 hb) h.2⟩
 |bor r p=>
  simp only[j4]at c⊢;cases hb:(zW r&& !(s.bad r p))<;>simp only[hb]at c⊢
  ·simp_all
  ·simp only[pC,Lq]at hb;obtain⟨U,V⟩:=h.2 hb.2;exact⟨h.1,λ_=>⟨U,hv (oO.1 hb.1) V⟩⟩
 |elp r p i q=>
  simp only[j4]at c⊢;cases hb:(zW r&& !(s.bad r p))<;>simp only[hb]at c⊢
  ·simp_all
  ·simp only[pC,Lq]at hb;obtain⟨e,t,D,m,z,K,L⟩:=h.2 hb.2;exact⟨h.1,λ_=>⟨e,t,D,m,z,hv (oO.1 hb.1) K,L⟩⟩
 |bel r p i q=>
  simp only[j4]at c⊢;cases hb:(zW r&& !(s.bad r p)&& !(s.pN (om r)))<;>simp only[hb]at c⊢
  ·simp_all
  ·simp only[pC,Lq]at hb;obtain⟨e,t,D,m,z,W,y,Y,K,L,Z,k4,k5⟩:=h.2 hb.1.2 hb.2;exact⟨h.1,λ_ _=>⟨e,t,D,m,z,W,y,Y,hv (oO.1 hb.1.1) K,L,Z,by grind[oO],k5⟩⟩
 |aep r p i=>
  simp only[j4]at c⊢;cases hb:zW r<;>simp only[hb]at c⊢
  ·simp_all
  ·obtain⟨E,e,T,f,x,b,I,m,t',y,k,C,n⟩:=h;have g:=oO.1 hb;have o:(pop s).get (.m (r-FD))=.box e T f x:=by rw[H,d g,k];rfl
   exact⟨E,e,T,f,x,b,I,m,t',y,o,by simp_all[s9,A4.up],n⟩
 |pls hh l=>
  simp only[j4]at c⊢;cases hb:(l.all λq=>zW q.1)<;>simp only[hb]at c⊢
  ·simp_all
  ·obtain⟨E,D,M,k,C,n,h4,h5⟩:=h;refine⟨E,D,M,k,C,by simpa using n,λj q G=>?_,by simpa using h5⟩;simp only[Nb,Mz]at G;obtain⟨N,A,rfl⟩:=G
   grind[oO]
 |cl f l=>
  simp only[j4]at c⊢;cases hb:l.all zW<;>simp only[hb]at c⊢
  ·simp_all
  ·obtain⟨E,M,k,C,n⟩:=h;refine⟨E,M,k,by simpa using C,λj q G=>?_⟩;simp only[Nb,Mz]at G;obtain⟨N,A,rfl⟩:=G;obtain⟨u,hu,ht⟩:=n j N A;exact⟨u,hu,O (oO.1 (Lx.1 hb N (Mq A))) ht⟩
 |gd gk P t=>exact absurd rfl c
def R.pop{m:Nat}{a':Act}(h:R m (W0.push a) w X F H s a')(hm:m<=FD)(hsz:a.tmps.size=n)(hd:a.defers=[]):R n W0 w X (O1 s F) H (Go.Am.pop s) a:=by
 have g:a'.tmps.size<=FD:=by rw[h.size];exact hm
 have q:∀k:A4,(Go.Am.pop s).get k=j4 s (s.get k.up):=λk=>Fr s s.env k;exact
 {size:=hsz
  defers:=hd
  below:=⟨h.below.os,h.below.tape,h.below.output,h.below.size,h.below.block⟩
  glob:=h.glob
  gx:=h.gx
  xs:=h.xs
  fix:=λp x=>by
   obtain⟨j,l⟩:=h.fix (p.1+FD,p.2) (by simp_all[bu.push]);exact⟨TM j,(XN g p.1).symm.trans l⟩
  xlt:=h.xlt
  xin:=h.xin
  x0:=h.x0
  own:=λk b c=>h.own _ b (Re c)
  nodup:=λk=>by
   unfold O1;split
   ·simp
   ·exact h.nodup _
  pS:=λk y b c o=>A4.up_inj.1 (h.pS _ _ b (Re c) (Re o))
  hown:=h.hown
  pK:=h.pK
  pL:=λk b c=>h.pL _ b (Re c)
  pM:=λd i r=>by
   rw[q]at r⊢;obtain⟨j,u,l,v⟩:=h.pM (d+FD) i (λe=>r (by simp only[A4.up];rw[e];rfl));exact⟨by simp only[A4.up];rw[j];rfl,u,(XN g d).symm.trans l,v⟩
  slots:=λk=>by
   by_cases f:(Go.Am.pop s).get k=.pR
   ·rw[f];unfold O1;rw[f];rfl
   ·rw[s9 f];have t:=h.slots k.up;rw[HD g]at t;rw[q]at f⊢;exact yq g t f}
def rY(a:Act):ResultVar->Sem K4
 |.tmp t=>pure (a.tmps.getD t undef)
 |.cell d t=>do loadVar t (<-asAddr (a.tmps.getD d undef))
def AJ(τ:vJ):List ResultVar->St->Option (((ts:List (Ty×Fl))×NV ts)×St)
 |[],s=>K1 (⟨[],()⟩,s)
 |.tmp k::rs,s=>match ER s (RO s [] (.tmp k))with
  |some q=>match AJ τ rs q.s with
   |some (z,s')=>K1 (⟨(q.T,q.f)::z.1,(q.x,z.2)⟩,s')
   |none=>K2
  |none=>K2
 |.cell k e::rs,s=>match s.get (.m k),τ e with
  |.box e0 U f y,K1 U'=>match(Li k 1048576&&Lz (U=U'))&&f.live with
   |true=>match AJ τ rs (Y7 s k (.box e0 U .d y))with
    |some (z,s')=>K1 (⟨(U,f)::z.1,(y,z.2)⟩,s')
    |none=>K2
   |false=>K2
  |_,_=>K2
def NN(rv:List ResultVar)(s:St):Option Tm:=
 match rv with
 |[.tmp k]=>match RO s [] (.tmp k)with
  |.tm _ (.ptr r p)=>match zW r with|true=>K1 (.ptr r p)|false=>K2
  |.tm _ (.elp r p i q)=>match zW r&& !(s.bad r p)with|true=>K1 (.elp r p i q)|false=>K2
  |_=>K2
 |_=>K2
def D3{ρ:Type}(τ:vJ)(n:Nat)(rv:List ResultVar)(s:St)(dst:Option Nat)(k:St->Option ρ):Option ρ:=
 match NN rv s with
 |some t=>match dst with
  |some d=>match Wa (pop s) d&&Li d n with
   |true=>k (Jb (pop s) d (j4 s t))
   |false=>K2
  |none=>K2
 |none=>match AJ τ rv s with
  |some (z,s2)=>match dst with
   |none=>k (pop s2)
   |some d=>match Wa (pop s2) d&&Li d n with
    |true=>k (Quz d (pop s2) z.1 z.2)
    |false=>K2
  |none=>K2
structure oq where
 f:Lg
 n:Nat
 np:Nat
 rv:List ResultVar
 run:List Nat->{ρ:Type}->(Exit->St->Option ρ)->St->Option ρ
structure Y2(P:Lh)(g:Kf)(E:oq):Prop where
 enters:∀args w,(callFunc E.f args).run P w=.ok (.enter E.f args) w
 le:E.np<=E.n/\E.n<=1048576
 code:∃fn c,P.funcs[E.f]? =K1 fn/\fn.body=K1 c/\fn.ntmps=E.n/\fn.results.toList=E.rv/\
  ∀{ρ:Type}{k:Exit->St->Option ρ}{r:ρ}{ln:List Nat}{W0:bu g}{w:Le}{X:Nat->Prop}{F:A4->List Nat}{s:St}{a:Act},
   E.run ln k s=K1 r->(∀p,p∈W0.fix->p.1∈ln)->R E.n W0 w X F [] s a->c.wp P (λe a' w'=> ∃s' X' F',k e s'=K1 r/\R E.n W0 w' X' F' [] s' a') a w
abbrev qM:=List oq
def qM.find(Γ:qM)(f:Lg):Option oq:=
 match Γ with
 |[]=>K2
 |e::r=>match Lf e.f f with|true=>K1 e|false=>qM.find r f
def qM.ok(Γ:qM)(P:Lh)(g:Kf):Prop:= ∀e∈Γ,Y2 P g e
def qM.find_ok{Γ:qM}{P:Lh}{g:Kf}(h:Γ.ok P g){f:Lg}{e:oq}(he:Γ.find f=K1 e):e.f=f/\Y2 P g e:=by
 induction Γ with
 |nil=>cases he
 |cons x r a=>
  simp only[qM.find]at he;split at he
  ·rename_i b;simp only[pB]at he;subst he;exact⟨pD b,h _ Ac⟩
  ·exact a (λe he=>h e (by simp[he])) he
def Dv{ρ:Type}(τ:vJ)(n:Nat)(s:St)(dst:Option Nat)(E:oq)(ts:List Tm)(k:St->Option ρ):Option ρ:=
 match Lf ts.length E.np with
 |true=>E.run (Zrd s ts).pQ (λe s'=>match e with|.normal|.ret=>D3 τ n E.rv s' dst k|_=>K2) (Zrd s ts)
 |false=>K2
def AM(τ:vJ)(s:St):List Lc->List Ld->Option (List Tm)
 |[],_=>K1 []
 |x::xs,e::es=>match Tz τ s [] e x,AM τ s xs es with
  |some r,K1 ts=>K1 (r.t::ts)
  |_,_=>K2
 |_::_,[]=>K2
theorem qv(h:(fn.results.toList.mapM (rY a)).run P w=.ok vs w):(results fn a.tmps).run P w=.ok (J7 vs) w:=by
 have e:(fn.results.mapM (rY a)).run P w=.ok vs.toArray w:=by
  simp_all[Array.mapM_eq_mapM_toList]
 unfold results;rw[Lw];have b:(fn.results.mapM fun
  |.tmp t=>pure (a.tmps.getD t undef)
  |.cell d t=>do loadVar t (<-asAddr (a.tmps.getD d undef)))=fn.results.mapM (rY a):=by
  congr 1
 erw [b,e];simp only[Lt,Mc];congr 1;by_cases c:vs.length=1
 ·obtain⟨v,rfl⟩:=Mv.1 c;rfl
 simp_all[zC]
def D2(hτ:τ.ok P):∀{rs:List ResultVar}{s:St}{F:A4->List Nat}{H:List Nat}{z:(ts:List (Ty×Fl))×NV ts}{s':St},R n W0 w X F H s a->AJ τ rs s=K1 (z,s')->
  ∃vs S F',(rs.mapM (rY a)).run P w=.ok vs w/\LU w X W0.B z.1 z.2 vs S/\R n W0 w X F' (S++H) s' a
 |[],s,F,H,z,s',h,g=>by
  simp only[AJ,pB,pF]at g;obtain⟨rfl,rfl⟩:=g;exact⟨[],[],F,Ac,⟨rfl,rfl⟩,h⟩
 |.tmp k::rs,s,F,H,z,s',h,g=>by
  simp only[AJ]at g;split at g
  ·rename_i q Y;split at g
   ·rename_i Z s2 r;simp only[pB,pF]at g;obtain⟨rfl,rfl⟩:=g;obtain⟨F1,i,v,h1,h2,D,_,_⟩:=VJ h (tg:=[]) (λp l=>by cases l) Y;obtain⟨vs,S,F',k1,E,o⟩:=D2 hτ D r;refine⟨_,i++S,F',?_,⟨v,vs,i,S,rfl,rfl,h2,E⟩,?_⟩
    ·have G:(a.tmps.getD k undef)=Yh q.T v:=h1;simp_all[rY]
    ·have l:(i++S++H).Perm (S++(i++H)):=Ag
     exact {o with
      hown:=λb t=>o.hown b (l.mem_iff.1 t)
      pK:=l.nodup_iff.2 o.pK
      pL:=λk b t I=>o.pL k b t (l.mem_iff.1 I)}
   ·cases g
  ·cases g
 |.cell k e::rs,s,F,H,z,s',h,g=>by
  simp only[AJ]at g;split at g
  ·rename_i e' U f y U' N hU;split at g
   ·rename_i J;split at g
    ·rename_i Z s2 r;simp only[pC,decide_eq_true_eq]at J;obtain⟨⟨K,rfl⟩,J⟩:=J;simp only[pB,pF]at g;obtain⟨rfl,rfl⟩:=g;have O:=h.slots (.m k);rw[N]at O;obtain⟨b,c,i,Q,g2,V,C⟩:=O;have A:=h.nodup (.m k);rw[g2]at A;have D:R n W0 w X (Q6 F (.m k) [b]) (i++H) (Y7 s k (.box e' U .d y)) a:=by
      refine h.turn (S':=[b]) (H':=i++H) h.below (Lj _) (λ_ _=>rfl) (λ_ _ _ _=>rfl) ?_ ?_ (by rw[N];simp) ?_ ?_
      ·simp_all
      ·have hd:∀L∈b::i,L∉H:=λL ab=>h.pL (.m k) L Af;refine Ll.2 ⟨Ac,Ll.2 ⟨(L1.1 A).2,h.pK,λx hx y W e=>hd x (by simp[hx]) (by rw[e];exact W)⟩,λx hx y W e=>?_⟩;simp_all
      ·grind
      ·exact⟨b,c,[],Q,rfl,V,by unfold Pr;exact⟨Kh C,nA C,rfl⟩⟩
     obtain⟨vs,S,F',k1,E,o⟩:=D2 hτ D r;refine⟨_,i++S,F',?_,⟨c.toList,vs,i,S,rfl,rfl,C,E⟩,?_⟩
     ·have G:(a.tmps.getD k undef)=.pointer (K1 ⟨b,0,K2⟩):=(Y4 W0 a K).symm.trans Q;have M:=(hτ _ _ hU).load (w:=w) (ad:=⟨b,0,K2⟩) (vs:=c.toList) (Kh C) (λj u hj=>by
       rw[cY w V,<-Array.getElem?_toList,Mx];exact hj)
      simp_all[rY,asAddr]
     ·have l:(i++S++H).Perm (S++(i++H)):=Ag
      exact {o with
       hown:=λb t=>o.hown b (l.mem_iff.1 t)
       pK:=l.nodup_iff.2 o.pK
       pL:=λk b t I=>o.pL k b t (l.mem_iff.1 I)}
    ·cases g
   ·cases g
  ·cases g
def Qe0{t:Tm}(h:R m (W0.push a) w X F [] s a')(hr:NN rv s=K1 t):
  ∃k S,rv=[.tmp k]/\j4 s t≠ .pR/\vt (W0.push a).gh w X W0.B s F a' (a'.eval (.tmp k)) S t/\S=[]:=by
 unfold NN at hr;split at hr
 ·rename_i k;split at hr
  ·rename_i j r p hx;split at hr
   ·rename_i c;cases hr;obtain⟨_,hv⟩:=Ji h (tg:=[]) (λp b=>by cases b) hx Ac;exact⟨k,_,rfl,by simp[j4,c],hv,hv.1⟩
   ·cases hr
  ·rename_i j r p i q hx;split at hr
   ·rename_i c;cases hr;obtain⟨_,hv⟩:=Ji h (tg:=[]) (λp b=>by cases b) hx Ac;exact⟨k,_,rfl,by simp_all[j4],hv,hv.1⟩
   ·cases hr
  ·cases hr
 ·cases hr
def Qez{r:ρ}(hτ:τ.ok P)(h:R m (W0.push a) w X F [] s a')(hm:m<=1048576)(hsz:a.tmps.size=n)(hd:a.defers=[])(hrv:fn.results.toList=rv){dst:Option Nat}{k:St->Option ρ}(hk:D3 τ n rv s dst k=K1 r):
  ∃v s2 F2,(results fn a'.tmps).run P w=.ok v w/\k s2=K1 r/\R n W0 w X F2 [] s2 (a.put dst v):=by
 unfold D3 at hk;split at hk
 ·rename_i t i;obtain⟨j,S,rfl,l,hv,rfl⟩:=Qe0 h i;split at hk
  ·rename_i d;split at hk
   ·rename_i b;simp only[pC,Lp]at b;have e:=h.pop hm hsz hd;have f:=yq (by rw[h.size];exact hm) hv l;have g:=(by simpa using e:R n W0 w X (O1 s F) ([]++[]) (pop s) a).put b.1 b.2 f;have c:(fn.results.toList.mapM (rY a')).run P w=.ok [a'.eval (.tmp j)] w:=by simp_all[rY,M3]
    exact⟨J7 [a'.eval (.tmp j)],_,_,qv (a:=a') c,hk,g⟩
   ·cases hk
  ·cases hk
 ·split at hk
  ·rename_i z s2 o;obtain⟨p,S,x,y,q,u⟩:=D2 hτ h o;have e:=u.pop hm hsz hd;split at hk
   ·exact⟨J7 p,_,_,qv (a:=a') Af,hk,e.drop⟩
   ·rename_i d;split at hk
    ·rename_i b;simp only[pC,Lp]at b;obtain⟨F2,A⟩:=R.putF e b.1 b.2 q
     grind[qv]
    ·cases hk
  ·cases hk
def H6{r:ρ}(hτ:τ.ok P){E:oq}(hE:Y2 P g E)(h:R n W0 w X F [] s a)(hl:ts.length=vs.length)(hts:∀(i:Nat) t,ts[i]? =K1 t-> ∃v,vs[i]? =K1 v/\vt W0.gh w X W0.B s F a v [] t)
  (hrun:(execOp a.eval o).run P w=.ok (.enter E.f vs.toArray) w) {k:St->Option ρ} (hr:Dv τ n s o.dst E ts k=K1 r)
   (hK:∀v w' X' F' s',k s'=K1 r->R n W0 w' X' F' [] s' (a.put o.dst v)->K (a.put o.dst v) w'):o.wp P a w K Q:=by
 unfold Dv at hr;split at hr
 ·rename_i b;have b:=pD b;obtain⟨x,c,y,z,A,j,d⟩:=hE.code;have l:=h.push (m:=E.n) hl (by rw[b];exact hE.le.1) hE.le.2 hts;unfold Ln;rw[hrun,L6];refine calls_of_wp y z ?_;rw[A];refine wp_mono (d hr (λp C=>(l.fix p C).1) l) λe q w' ⟨s',X',F',hk,u⟩=>?_;have fin:D3 τ n E.rv s' o.dst k=K1 r->q.defers=[]/\ ∃v,(results x q.tmps).run P w'=.ok v w'/\K (a.put o.dst v) w':=λhk=>by
   obtain⟨v,D,G,H,I,J⟩:=Qez hτ u hE.le.2 h.size h.defers j hk;exact⟨u.defers,v,H,hK v w' X' G D I J⟩
  cases e with
  |normal=>exact fin hk
  |ret=>exact fin hk
  |_=>cases hk
 ·cases hr
def xn(h:R n W0 w X F H s a):∀{xs:List Lc}{es:List Ld}{ts:List Tm},AM τ s xs es=K1 ts->
  ts.length=xs.length/\ ∀(i:Nat) t,ts[i]? =K1 t-> ∃v,(xs.map a.eval)[i]? =K1 v/\vt W0.gh w X W0.B s F a v [] t
 |[],es,ts,b=>by
  simp_all[AM]
 |x::xs,[],ts,b=>by grind[AM]
 |x::xs,e::es,ts,b=>by
  simp only[AM]at b;split at b
  ·rename_i r k d f;simp only[pB]at b;subst b;obtain⟨g,l⟩:=xn h f;refine⟨by simp[g],λi t c=>?_⟩;cases i with
   |zero=>
    simp only[Mp,pB]at c;subst c;exact⟨a.eval x,Ac,(Co h (tg:=[]) (λp j=>by cases j) d).2⟩
   |succ i=>simp_all
  ·cases b
structure CN where
 f:Lg
 T:Ty
 args:List Ty
 res:List Ty
 F:T.den->J6 args->Option (J6 res×T.den)
structure oL(P:Lh)(g:Kf)(e:CN):Prop where
 flatR:YL e.res=K3
 enters:∀args w,(callFunc e.f args).run P w=.ok (.enter e.f args) w
 calls:∀(w:Le)(X:Nat->Prop)(L:List Nat)(y y':e.T.den)(xs:J6 e.args)(r:J6 e.res)(vs vals:List K4),g.G w->(∀b,g.GB b->X b)->(∀b,X b->b<w.heap.size)->(∀b∈L,¬X b)->L.Nodup->
  rd w X 0 .an e.T y vs L->WL w (· <w.heap.size) 0 e.args xs vals->e.F y xs=K1 (r,y')->
  L9 P e.f (Yh e.T vs::vals).toArray w λen w'=> ∃rs L',en=.returned (J7 rs)/\VD w' 0 e.res r rs []/\rd w' X 0 .an e.T y' vs L'/\L'.Nodup/\(∀b∈L',(b∈L\/w.heap.size<=b)/\b<w'.heap.size)/\
   w'.os=w.os/\w'.tape=w.tape/\w'.output=w.output/\w.heap.size<=w'.heap.size/\ ∀b,b<w.heap.size->b∉L->w'.heap[b]? =w.heap[b]?
abbrev EI:=List CN
def EI.find(Γ:EI)(f:Lg):Option CN:=
 match Γ with
 |[]=>K2
 |e::r=>match Lf e.f f with|true=>K1 e|false=>EI.find r f
def EI.ok(Γ:EI)(P:Lh)(g:Kf):Prop:= ∀e∈Γ,oL P g e
def EI.find_ok{Γ:EI}{P:Lh}{g:Kf}(h:Γ.ok P g){f:Lg}{e:CN}(he:Γ.find f=K1 e):e.f=f/\oL P g e:=by
 induction Γ with
 |nil=>cases he
 |cons x r a=>
  simp only[EI.find]at he;split at he
  ·rename_i b;simp only[pB]at he;subst he;exact⟨pD b,h _ Ac⟩
  ·exact a (λe he=>h e (by simp[he])) he
def IK(T:Ty)(y:T.den):Tm->Tm|.box e _ _ _=>.box e T (.u .an) y|_=>.val T (.u .an) y
def na{ρ:Type}(n:Nat)(s:St)(d:Nat)(e:CN)(x0:Lc)(rest:List Lc)(k:St->Option ρ):Option ρ:=
 match HN s (RO s [] x0)with
 |some q=>match Hm (s.get (.m q))with
  |some (⟨T,y⟩,t)=>match Jz e.T T y,vw s [] e.args rest with
   |some y0,K1 us=>match Wa s d&&Li d n&& !(Lf d q)with
    |true=>(e.F y0 us).bind λz=>k (Ti d (Y7 (Y7 s q t) q (IK e.T z.2 t)) e.res z.1)
    |false=>K2
   |_,_=>K2
  |none=>K2
 |none=>K2
def Io{ρ:Type}(n:Nat)(s:St)(d:Nat)(e:CN)(r:Nat)(i:Int)(q:List Nat)(rest:List Lc)(k:St->Option ρ):Option ρ:=
 match s.get (.m r)with
 |.val (.slice e1 t1) (.u o) l=>match Wb (.slice e1 t1) (.u o) (.u .an)&& !(s.bad r [])&& !(s.pN (om r)),ap t1 (l.getD i.toNat (zero t1)) q with
  |true,K1 yv=>match Jz e.T yv.1 yv.2,vw s [] e.args rest with
   |some y0,K1 us=>match Wa s d&&Li d n&& !(Lf d r)with
    |true=>(e.F y0 us).bind λz=>match v6 t1 (l.getD i.toNat (zero t1)) q ⟨e.T,z.2⟩with
     |some x'=>k (Ti d (Y7 (Y7 s r (.val (.slice e1 t1) .d l)) r (.val (.slice e1 t1) (.u .an) (List.set l i.toNat x'))) e.res z.1)
     |none=>K2
    |false=>K2
   |_,_=>K2
  |_,_=>K2
 |_=>K2
def nK{ρ:Type}(n:Nat)(s:St)(d:Nat)(e:CN)(x0:Lc)(rest:List Lc)(k:St->Option ρ):Option ρ:=
 match RO s [] x0 with
 |.tm _ (.bel r [] i q)=>Io n s d e r i q rest k
 |_=>na n s d e x0 rest k
def R.lentBack(h:R n W0 w X F [] s a){q:Nat}{t:Tm}{S2:List Nat}(R0:R n W0 w X (Q6 F (.m q) S2) [] (Y7 s q t) a)(hL:∀b∈L,b∈F (.m q))(hLS:∀b∈L,b∉S2)
  (hn:L'.Nodup) (hin:∀b∈L',((b∈F (.m q)/\b∉S2)\/w.heap.size<=b)/\b<w'.heap.size) (h1:w'.os=w.os) (h2:w'.tape=w.tape) (h3:w'.output=w.output) (h4:w.heap.size<=w'.heap.size)
  (h5:∀b,b<w.heap.size->b∉L->w'.heap[b]? =w.heap[b]?):R n W0 w' X (Q6 F (.m q) S2) (L'++[]) (Y7 s q t) a:=by
 have f:W0.below w':=⟨h1.trans h.below.os,h2.trans h.below.tape,h3.trans h.below.output,Lm h.below.size h4,λb c=>
  (h5 b (L2 (W0.yW b c) h.below.size) λd=>W0.sep c (h.own _ _ (hL b d)).1 rfl).trans (h.below.block b c)⟩
 have g:R n W0 w' X (Q6 F (.m q) S2) [] (Y7 s q t) a:=R0.world f h4 (λb c=>h5 b (h.xlt b c) λd=>(h.own _ _ (hL b d)).2.2 c) (λk b c=>by
  have i:=R0.own k b c;refine h5 b i.2.1 λd=>?_;simp only[Q6]at c;split at c
  ·exact hLS b d c
  ·rename_i e;exact e (h.pS _ _ b c (hL b d)))
 refine g.hand (λb c=>?_) hn (λk b c d=>?_) (λb c d=>by cases d)
 ·obtain⟨h6,j⟩:=hin b c;rcases h6 with⟨h6,_⟩|h6
  ·exact⟨(h.own _ _ h6).1,j,(h.own _ _ h6).2.2⟩
  ·exact⟨.inl (Lm h.below.size h6),j,λhx=>by have:=h.xlt b hx;omega⟩
 ·obtain⟨h6,j⟩:=hin b d;rcases h6 with⟨h6,l⟩|h6
  ·simp only[Q6]at c;split at c
   ·exact l c
   ·rename_i e;exact e (h.pS _ _ b c h6)
  ·have:=(R0.own k b c).2.1;omega
def RA{f:Lg}(hen:∀args w,(callFunc f args).run P w=.ok (.enter f args) w)(hfo:a.eval fo=.func (.func f) #[] #[])(ho:o.op=.call {callee:=.value fo,args:=xs,argTypes:=ats}):
  (execOp a.eval o).run P w=.ok (.enter f (xs.toList.map a.eval).toArray) w:=by
 have:execOp a.eval o=callFunc f (xs.map a.eval):=by
  simp_all[execOp,resolve,L4,invoke]
 rw[this,hen];congr 2
 grind
theorem Qbq{e:CN}(hok:oL P g e)(h:R n W0 w X F [] s a)(hfo:a.eval fo=.func (.func e.f) #[] #[])(ho:o.op=.call {callee:=.value fo,args:=xs,argTypes:=ats})
   (hxs:xs.toList=x0::rest)  (hd:o.dst=K1 d) {k:St->Option ρ}{r:ρ} (hr:na n s d e x0 rest k=K1 r)
   (hK:∀v w' X' F' s',k s'=K1 r->R n W0 w' X' F' [] s' (a.put o.dst v)->K (a.put o.dst v) w'):o.wp P a w K Q:=by
 unfold na at hr;split at hr
 case h_2=>cases hr
 rename_i q hq;split at hr
 case h_2=>cases hr
 rename_i T y t hg;split at hr
 case h_2=>cases hr
 rename_i y0 us D ar;split at hr
 case h_2=>cases hr
 rename_i O;simp only[pC,Lq,Lp]at O;obtain⟨⟨U,V⟩,a5⟩:=O;have W:d≠q:=λe=>Af
 rw[Lv]at hr;obtain⟨z,hz,hk⟩:=hr;have a7:=Wu D;obtain⟨vs,S,S2,au,Y,i,l,a0,E⟩:=Qds h hq hg;have l:=Ll.1 l;have G:∃e':e.T=T,y=e'▸y0:=by
  grind
 obtain⟨hT,hy⟩:=G;subst hT;simp only at hy;subst hy;have Z:rd w X 0 .an e.T y vs S:=V8 Y Ac;have H:=vx h (tg:=[]) (λp hp=>by cases hp) ar;have hc:=hok.calls w X S y z.2 us z.1 vs (rest.map a.eval) h.glob h.gx h.xlt (λb j=>(h.own _ b (i b (by simp[j]))).2.2) l.1 Z H hz;unfold Ln;rw[RA hok.enters hfo ho,L6,hxs,Nc,au];refine hc.mono λen w' ⟨rs,N,a1,ab,ad,C,I,h1,h2,h3,h4,h5⟩=>?_;subst a1;show K (a.put o.dst (J7 rs)) w';have A:=h.lentBack a0 (λb j=>i b (by simp[j])) (λb j a2=>l.2.2 b j b a2 rfl) C (λb j=>⟨(I b j).1.imp (λh=>⟨i b (by simp[h]),λh2=>l.2.2 b h b h2 rfl⟩) id,(I b j).2⟩) h1 h2 h3 h4 h5;have hB:∀b∈N,W0.B<=b:=λb j=>by
  rcases(I b j).1 with h6|h6
  ·exact(xR Y b h6).1
  ·exact Lm h.below.sizeB h6
 have a6:rd w' X W0.B .an e.T z.2 vs N:=V8 ad hB
 have J:∃F',R n W0 w' X F' [] (Y7 (Y7 s q t) q (IK e.T z.2 t)) a:=by
  rcases E with⟨rfl,a3,rfl⟩|⟨e0,b,c,rfl,rfl,g1,g3,rfl⟩
  ·refine⟨_,A.turn (S':=N) (H':=[]) A.below (Lj _) (λ_ _=>rfl) (λ_ _ _ _=>rfl) Ac (by simpa using C) (by simp[Ye]) (λe T f x b S j=>Ag) ?_⟩;exact⟨vs,a3,Ak⟩
  ·have a8:b∈F (.m q):=i b Ac;have be:b∉S:=λh2=>l.2.2 b h2 b Ac rfl;refine⟨_,A.turn (S':=b::N) (H':=[]) A.below (Lj _) (λ_ _=>rfl) (λ_ _ _ _=>rfl) (by simp[Q6]) ?_ (by simp[Ye]) (λe T f x b2 S j hF=>by
    rw[Ye,if_pos rfl]at j;cases j;simp only[Q6,if_true,Mt]at hF;obtain⟨rfl,_⟩:=hF;exact⟨.u .an,z.2,N,rfl,rfl⟩) ?_⟩
   ·grind
   ·exact⟨b,c,N,g1,rfl,Ag,Ak⟩
 obtain⟨F2,a4⟩:=J;obtain⟨_,L⟩:=LD (B:=0) (Lj _) ab;have M:VD w' W0.B e.res z.1 rs []:=MN L Ac;obtain⟨F3,bl⟩:=(by simpa using a4:R n W0 w' X F2 ([]++[]) _ a).putRes (T7 (T7 U (Lo W)) (Lo W)) V M
 grind
def Eg:∀(p:List Nat)(f g:Fl),cd (Vz f p g) p=g
 |[],_,_=>rfl
 |i::p,f,g=>by simp only[Vz,cd,S6];exact Eg p _ g
theorem Qi4{e:CN}(hok:oL P g e)(h:R n W0 w X F [] s a)(hfo:a.eval fo=.func (.func e.f) #[] #[])(ho:o.op=.call {callee:=.value fo,args:=xs,argTypes:=ats})
   (hxs:xs.toList=x0::rest)  (hd:o.dst=K1 d) {rt:Nat}{i:Int}{q:List Nat} (hx:RO s [] x0=.tm kx (.bel rt [] i q)) {k:St->Option ρ}{r:ρ} (hr:Io n s d e rt i q rest k=K1 r)
   (hK:∀v w' X' F' s',k s'=K1 r->R n W0 w' X' F' [] s' (a.put o.dst v)->K (a.put o.dst v) w'):o.wp P a w K Q:=by
 unfold Io at hr;split at hr
 case h_2=>cases hr
 rename_i e1 t1 oo l hg;split at hr
 case h_2=>cases hr
 rename_i yv c hy;simp only[pC,Lq]at c;obtain⟨⟨d2,a8⟩,a1⟩:=c;split at hr
 case h_2=>cases hr
 rename_i y0 us D d3;split at hr
 case h_2=>cases hr
 rename_i be;simp only[pC,Lq,Lp]at be;obtain⟨⟨bl,bx⟩,eq⟩:=be;have b0:d≠rt:=λe=>Af
 rw[Lv]at hr;obtain⟨z,hz,hk⟩:=hr;split at hk
 case h_2=>cases hk
 rename_i x' E;have b9:=Wu D;obtain⟨yT,yx⟩:=yv;simp only at b9 D hy;cases b9
 have cb:=h.slots (.m rt);rw[hg]at cb;obtain⟨ew,N,O⟩:=cb;have O:=bD d2 O;unfold Pr at O;obtain⟨v0,xv,U,S2,rfl,hF,cc,cl⟩:=O;have N:Qw W0.gh a (.m rt)=v0:=N;obtain⟨_,d4⟩:=Ji h (tg:=[]) (λp hp=>by cases hp) hx Ac;obtain⟨_,cm⟩:=d4;obtain⟨e2,G,ad,n2,V,x2,y2,cs,b1,b2,b3,b4,b5,b6,b7,b8⟩:=cm a8 a1;have d5:v0=.slice (K1 ad) n2 V/\G=t1:=by
  grind[X4]
 obtain⟨rfl,rfl⟩:=d5;obtain⟨a0,er,cp,ex,_,hc⟩:=aw cc;simp only[N4]at cp;obtain⟨rfl,rfl,rfl⟩:=cp;rcases hc with⟨e0,_⟩|⟨e3,e0,_,hc⟩
 ·cases e0
 simp only[pB]at e0;subst e0;obtain⟨m,rfl⟩:∃m:Nat,i=m:=⟨i.toNat,Aa⟩
 have hm:m<Mi l:=Aa
 simp only[Nn]at hy E hk b8;have d6:∀x v S,rd w X W0.B .an G x v S->v.length=G.size:=λx v S h=>X9 h;obtain⟨pre,cr,c0,T1,T2,W,n1,e6,n3,n4,n5,n6⟩:=rZ d6 hm cl;have e4:l.getD m (zero G)=l[m]'hm:=Ag
 rw[e4]at hy E;have d7:Pr w X W0.B G (.u .an) l[m] cr T2:=Aq
 obtain⟨y,j,a2,U1,U2,U3,o1,o2,o3,o4,o5⟩:=Vf hy d7;have hf:cd (.u .an) q=.u .an:=NG .an q;rw[hf]at o4;unfold Pr at o4;have d8:a.eval x0=Yh e.T j:=by
  have c4:y2.1=e.T:=by
   obtain⟨y1,z1,z2⟩:=Pu (x':=l[m]) b5
   grind
  rw[b6,c4];rw[c4]at b7;congr 1;apply Nq;intro u;rcases Ly u e.T.size with hu|hu
  ·have d9:u<cs.length:=by rw[b7];exact hu
   have c5:u<j.length:=Av
   have z1:=b8 u cs[u] (Mh d9);have z2:=hc (m*G.size+Yn G q+u) j[u] (by
    rw[n1,<-n3,<-o3,Mo Aa,show pre.length+y.length+u-pre.length=y.length+u from by omega,
     Mu Ag,o1,Mo Aa,show y.length+u-y.length=u from by omega,Mu c5,Mh c5])
   grind
  grind[X9]
 have H:=h.nodup (.m rt);have Y:F (.m rt)=(U++(T1++U1))++(U2++(U3++W)):=Ag
 rw[Y]at H;have I:∀b∈U2,b∈F (.m rt):=λb c=>Ag
 have c6:∀b,b∈U\/b∈T1\/b∈U1\/b∈U3\/b∈W->b∉U2:=λb c c7=>by
  simp only[Ll,Mj]at H
  grind
 have c8:∀b,b∈F (.m rt)->b<w.heap.size:=λb c=>(h.own _ b c).2.1;have c9:U2.Nodup:=Ag
 have a3:=vx h (tg:=[]) (λp hp=>by cases hp) d3;have a4:=hok.calls w X U2 y0 z.2 us z.1 j (rest.map a.eval) h.glob h.gx h.xlt (λb c=>(h.own _ b (I b c)).2.2) c9 (V8 o4 Ac) a3 hz;unfold Ln;rw[RA hok.enters hfo ho,L6,hxs,Nc,d8];refine a4.mono λen w' ⟨rs,L',eb,dc,dk,ab,dq,h1,h2,h3,h4,h5⟩=>?_;subst eb;show K (a.put o.dst (J7 rs)) w';have hX:∀b,X b->w'.heap[b]? =w.heap[b]? :=λb c=>h5 b (h.xlt b c) λhm=>(h.own _ b (I b hm)).2.2 c;have C:∀b,b∈U\/b∈T1\/b∈U1\/b∈U3\/b∈W->w'.heap[b]? =w.heap[b]? :=λb c=>h5 b (c8 b (by rw[Y];simp only[Mj];grind)) (c6 b c)
 have J:=o5 .d ⟨e.T,y0⟩ j [] l[m] (Ch hy) (by unfold Pr;exact⟨X9 o4,kd o4,rfl⟩);rw[<-o1]at J;have Z:=vv (X':=X) (λ_ h=>h) hX J (λb c=>C b Ag);obtain⟨p2,m2,q2,V1,V2,V3,r1,r2,r3,r4,r5⟩:=Vf hy Z;rw[Eg]at r4;unfold Pr at r4;obtain⟨e7,_,rfl⟩:=r4;have hB:∀b∈L',W0.B<=b:=λb c=>by
  rcases(dq b c).1 with h6|h6
  ·exact(xR o4 b h6).1
  ·exact Lm h.below.sizeB h6
 have qX:=r5 (.u .an) ⟨e.T,z.2⟩ j L' x' E (by unfold Pr;exact V8 dk hB);rw[I0]at qX;have M:=AZ (EE (b:=.an) (f:=.u .an) (g:=.u .an) rfl rfl q) qX;have ec:p2=y/\q2=a2:=by
  have e8:p2.length=y.length:=by rw[r3,o3]
  rw[o1]at r1;have e9:m2.length=j.length:=Av
  grind[List.append_inj]
 obtain⟨rfl,rfl⟩:=ec;rw[<-o1]at M;simp only[List.nil_append]at r2;have ej:∀b,b∈V1\/b∈V3↔b∈U1\/b∈U3:=λb=>by
  have:b∈V1++V3↔b∈U1++U3:=by rw[r2]
  simpa using this
 have a5:cS (rd w' X W0.B .an G) (l.set m x') xv (T1++((V1++(L'++V3))++W)):=by
  have e5:l.set m x'=l.take m++(x'::l.drop (m+1)):=by rw[List.set_eq_take_append_cons_drop,if_pos hm]
  rw[e5,n1];refine nD (Yt n5 λx v T _ hT h=>Wy (λ_ h=>h) hX h λb c=>C b Ag) ?_;exact⟨cr,c0,_,W,rfl,rfl,M,Yt n6 λx v T _ hT h=>Wy (λ_ h=>h) hX h λb c=>C b Ag⟩
 have d0:ep w' X W0.B .an e1 G.size (l.set m x').length (.slice (K1 ad) (Mi l) V) xv U:=by
  rw[List.length_set];exact Cc cc (λ_ h=>h) hX (λb c=>C b (.inl c))
 have ar:((U++(T1++((V1++(L'++V3))++W))):List Nat).Nodup:=by
  have ev:=H;rw[List.nodup_iff_count]at H ab⊢;intro z;have c1:=H z;have c2:Mn z V1+Mn z V3=Mn z U1+Mn z U3:=by
   rw[<-Na,<-Na,r2]
  have c3:=ab z;simp only[Na]at c1⊢;by_cases ek:z∈L'
  ·rcases(dq z ek).1 with h6|h6
   ·grind
   ·have zero:∀A:List Nat,(∀b∈A,b∈F (.m rt))->Mn z A=0:=λA hA=>List.count_eq_zero.2 λhm=>Ag
    have z1:=zero U (λb c=>Ag);have z2:=zero T1 (λb c=>Ag);have z3:=zero U1 (λb c=>Ag);have z4:=zero U3 (λb c=>by rw[Y];simp[c]);have z5:=zero W (λb c=>Ag);omega
  grind
 have au:∀b,b∈U++(T1++((V1++(L'++V3))++W))->(b∈F (.m rt)\/w.heap.size<=b)/\b<w'.heap.size:=λb c=>by
  have el:b∈L'\/b∈F (.m rt):=by
   rw[Y];simp only[Mj]at c⊢
   grind
  rcases el with hk|hk
  all_goals grind
 have R0:R n W0 w X (Q6 F (.m rt) []) [] (Y7 s rt (.val (.slice e1 G) .d l)) a:=
  h.turn (S':=[]) (H':=[]) h.below (Lj _) (λ_ _=>rfl) (λ_ _ _ _=>rfl) Ac Ac (by rw[hg];simp) (λe T f x b S c=>Af)
   ⟨[.slice (K1 ad) (Mi l) V],N,by unfold Pr;exact⟨rfl,by simp[K4.oneCell'],rfl⟩⟩
 have d1:=h.lentBack R0 (L:=U2) I (λb _ c7=>by cases c7) ar (λb c=>⟨(au b c).1.imp (λh=>⟨h,Ac⟩) id,(au b c).2⟩) h1 h2 h3 h4 h5;have em:=d1.turn (r:=rt) (t:=.val (.slice e1 G) (.u .an) (List.set l m x')) (S':=U++(T1++((V1++(L'++V3))++W))) (H':=[]) d1.below (Lj _) (λ_ _=>rfl) (λ_ _ _ _=>rfl) Ac (by simpa using ar) (by simp[Ye])
  (λe T f x b S c=>Ag) ⟨[.slice (K1 ad) (Mi l) V],N,by unfold Pr;exact⟨_,xv,U,_,rfl,rfl,d0,a5⟩⟩
 obtain⟨_,a6⟩:=LD (B:=0) (Lj _) dc;have a7:VD w' W0.B e.res z.1 rs []:=MN a6 Ac;obtain⟨F3,ga⟩:=(by simpa using em:R n W0 w' X _ ([]++[]) _ a).putRes (T7 (T7 bl (Lo b0)) (Lo b0)) bx a7
 grind
def Qm4{e:CN}(hok:oL P g e)(h:R n W0 w X F [] s a)(hfo:a.eval fo=.func (.func e.f) #[] #[])(ho:o.op=.call {callee:=.value fo,args:=xs,argTypes:=ats})
   (hxs:xs.toList=x0::rest)  (hd:o.dst=K1 d) {k:St->Option ρ}{r:ρ} (hr:nK n s d e x0 rest k=K1 r)
   (hK:∀v w' X' F' s',k s'=K1 r->R n W0 w' X' F' [] s' (a.put o.dst v)->K (a.put o.dst v) w'):o.wp P a w K Q:=by
 grind[nK,Qi4,Qbq]
def eqL{α:Type}(f:α->α->Bool):List α->List α->Bool|[],[]=>K3|x::xs,y::ys=>f x y&&eqL f xs ys|_,_=>La
def TR:(T:Ty)->T.den->T.den->Bool|.unit,_,_=>K3|.int _,x,y=>Lz ((x:Int)=y)|.bool,x,y=>(x:Bool)==y|.fnc _,_,_=>La|.str,x,y=>(x:List UInt8)==y|.pair a b,x,y=>TR a x.1 y.1&&TR b x.2 y.2|.arr _ t,x,y=>eqL (TR t) x y|.slice _ _,_,_=>La|.err,_,_=>La|.hid _,_,_=>La|.sptr ..,_,_=>La|.clo ..,_,_=>La
structure EV(P:Lh)(e:Ld)(T:Ty):Prop where
 guard:∀(w:Le)(op:BinOp)(p q:Lc)(u v:List K4),(eqGuard op e p q (Yh T u) (Yh T v)).run P w=.ok () w
 eql:∀(w w2 w3:Le)(X Y:Nat->Prop)(B:Nat)(x y:T.den)(u v:List K4),rd w2 X B .sh T x u []->rd w3 Y B .sh T y v []->(binOp .eql e (Yh T u) (Yh T v)).run P w=.ok (.bool (TR T x y)) w
 neq:∀(w w2 w3:Le)(X Y:Nat->Prop)(B:Nat)(x y:T.den)(u v:List K4),rd w2 X B .sh T x u []->rd w3 Y B .sh T y v []->(binOp .neq e (Yh T u) (Yh T v)).run P w=.ok (.bool (!(TR T x y))) w
structure Sn(P:Lh)(f:Lg)(e':Ld)(t:Ty):Prop where
 enters:∀args w,(callFunc f args).run P w=.ok (.enter f args) w
 del:∀{w:Le}{v:K4}{xs:List K4}{n i j:Nat},w.ownsRow 0 e' t.size v n xs->i<=j->j<=n->(∀u∈xs,u.oneCell'=K3)->
   L9 P f #[v,.int .i64 i,.int .i64 j] w λe w'=> ∃v',e=.returned v'/\w'.ownsRow 0 e' t.size v' (n- (j-i)) (xs.take (i*t.size)++xs.drop (j*t.size))/\w.grownBy w' v.ownBlock/\v'.ownBlock=v.ownBlock
structure ML where
 τ:vJ
 eq:Ld->Bool
 Γ:Ur
 pQ:List Nat:=[]
 ΓL:la:=[]
 ΓB:E7:=[]
 soft:Bool:=La
 pt:uN:={}
 inl:qM:=[]
 cut:Ld->Bool:=λ_=>La
 del:Option (Lg×Nat×Ld×Ty):=K2
 ΓN:EI:=[]
structure ML.ok(C:ML)(P:Lh)(g:Kf):Prop where
 τ:C.τ.ok P
 eq:∀e T,C.eq e=K3->C.τ e=K1 T->EV P e T
 Γ:C.Γ.ok P g
 follows:P.follows .mixedOrders=K3
 ΓL:C.ΓL.ok P g
 ΓB:C.ΓB.ok P g
 soft:g.soft=C.soft
 pt:C.pt.ok P
 inl:C.inl.ok P g
 del:∀f k e t,C.del=K1 (f,k,e,t)->Sn P f e t
 ΓN:C.ΓN.ok P g
@[reducible] def ML.wdel(C:ML)(f:Lg)(k:Nat)(e:Ld)(t:Ty):ML:={C with del:=K1 (f,k,e,t)}
def ML.ok.wdel{P:Lh}{g:Kf}{C:ML}(h:C.ok P g){f:Lg}{k:Nat}{e:Ld}{t:Ty}(hd:Sn P f e t):(C.wdel f k e t).ok P g:={h with del:=λ_ _ _ _ a=>by cases a;exact hd}
@[reducible] def ML.wN(C:ML)(Γ:EI):ML:={C with ΓN:=Γ}
def ML.ok.wN{P:Lh}{g:Kf}{C:ML}(h:C.ok P g){Γ:EI}(hN:Γ.ok P g):(C.wN Γ).ok P g:={h with ΓN:=hN}
variable {C:ML}
def AH(C:ML)(s:St)(tg:Yl)(op:BinOp)(e:Ld)(x y:Lc):Option I8:=
 match C.eq e,C.τ e with
 |true,K1 T=>match cu s (RO s tg x) T,cu s (RO s tg y) T with
  |some u,K1 v=>match op with
   |.eql=>K1 ⟨.val .bool (.u .sh) (TR T u v),s,La,K2⟩
   |.neq=>K1 ⟨.val .bool (.u .sh) (!(TR T u v)),s,La,K2⟩
   |_=>K2
  |_,_=>K2
 |_,_=>K2
theorem En(h:R n W0 w X F H s a)(ht:tg.ok W0.gh a)(hC:C.ok P g){e:Ld}{x y:Lc}(ho:o.op=.binOp op e x y e2){r:I8}(hr:AH C s tg op e x y=K1 r):cX P C.τ W0 w X F s a o r:=by
 unfold AH at hr;split at hr
 ·rename_i T m p;split at hr
  ·rename_i u v q hv;obtain⟨d,f,i⟩:=ea h ht q;obtain⟨j,k,l⟩:=ea h ht hv;have b:=hC.eq e T m p;split at hr
   ·simp only[pB]at hr;subst hr;refine Kr rfl λ_=>⟨_,λc _=>?_,JK _⟩
    simp only[execOp,ho,f,k,Lw,b.guard,Lt,b.eql c w w _ _ _ u v d j i l,Mc]
   ·simp only[pB]at hr;subst hr;refine Kr rfl λ_=>⟨_,λc _=>?_,JK _⟩
    simp only[execOp,ho,f,k,Lw,b.guard,Lt,b.neq c w w _ _ _ u v d j i l,Mc]
   ·cases hr
  ·cases hr
 ·cases hr
def UG(s:St)(tg:Yl)(x:Lc):Option I8:=
 match RO s tg x with
 |.tm k t=>match vg s k t with
  |some r=>match r.t with
   |.ptr _ _|.shp _ _=>K1 r
   |.elp q p _ _=>match s.bad q p with|false=>K1 r|true=>K2
   |_=>K2
  |none=>K2
 |_=>K2
theorem Ic(h:R n W0 w X F H s a)(ht:tg.ok W0.gh a){x:Lc}(ho:o.op=.nilCheck x){r:I8}(hr:UG s tg x=K1 r):cX P τ W0 w X F s a o r:=by
 unfold UG at hr;split at hr
 ·rename_i k t hx;split at hr
  ·rename_i u j;obtain⟨v,d⟩:=KM h ht hx j;have l:u=r/\ ∃g,a.eval x=.pointer (K1 g):=by
    split at hr
    ·rename_i q p c;rw[c]at d;obtain⟨_,e,T,f,y,b,C,_,_,m⟩:=d;simp_all
    ·rename_i T y c;rw[c]at d;obtain⟨_,g,D,m,_⟩:=d;simp_all
    ·rename_i q p i z c;rw[c]at d;split at hr
     ·rename_i A;obtain⟨e,E,g,G,B,_,_,_,m⟩:=d.2 A;simp_all
     ·cases hr
    ·cases hr
   obtain⟨rfl,g,I⟩:=l;refine Kr v λ_=>⟨_,λJ _=>?_,d⟩
   simp_all[execOp]
  ·cases hr
 ·cases hr
def jC(C:ML)(s:St)(tg:Yl)(o:Lb):Option I8:=
 match o.op with
 |.move x=>Tz C.τ s tg o.type x
 |.assign x=>Ru C.τ s tg o.type x
 |.pick c x y=>KD C.τ s tg o.type c x y
 |.alloc e=>Hv C.τ s e
 |.box e x=>vV C.τ s tg e x
 |.build e ps=>match C.τ e with
  |some (.arr _ _)=>DD C.τ s tg e ps
  |_=>UQ C.τ s tg e ps
 |.buildSlice e n ps=>match C.τ e,C.soft with
  |none,La=>Cd C.pt s tg e n ps
  |_,_=>match HL C.τ s tg e n ps with
   |some r=>K1 r
   |none=>i6 C.τ s tg e n ps
 |.load e x=>match C.τ e with
  |none=>Uv C.pt s tg e x
  |some _=>Hq C.τ s tg e x
 |.binOp op e x y e2=>match C.τ e with
  |some (.pair _ _)|some (.arr _ _)=>AH C s tg op e x y
  |none=>match C.pt.isPtr e with
   |true=>GQ C.pt s tg op e x y
   |false=>nv C.pt s tg op e x y
  |_=>Ex C.τ s tg op e x y e2
 |.unOp op e x=>Dy C.τ s tg op e x
 |.convert e e2 x=>SP C.τ s tg e e2 x
 |.makeSlice e x y=>Es C.τ s tg e x y
 |.slice e x lo hi K2=>match C.soft with
  |true=>K2
  |false=>match C.cut e,hi with
   |true,K2=>Ds C.τ s tg e x lo
   |_,_=>Uo C.τ s tg e x lo hi
 |.nilCheck x=>UG s tg x
 |.fieldAddr e x i=>NT C.τ s tg e x i
 |.indexAddr e x i=>match C.τ e with
  |none=>LG C.pt s tg e x i
  |some _=>UI C.τ s tg e x i
 |.index e x i=>MT C.τ s tg e x i
 |.extract x i=>gX s x i
 |.makeFunc (.func f) ⟨[]⟩ ⟨[]⟩=>K1 ⟨.val (.fnc f) (.u .ow) (),s,La,K2⟩
 |.call {callee:=.builtin .len,args:=⟨[x]⟩,argTypes:=⟨[e]⟩}=>match C.τ e with
  |none=>J' C.pt s tg e x
  |some _=>R8 C.τ s tg e x
 |.call {callee:=.builtin .min,args:=⟨[x,y]⟩,argTypes:=⟨[e,_]⟩}=>YF s tg e C.τ x y La
 |.call {callee:=.builtin .max,args:=⟨[x,y]⟩,argTypes:=⟨[e,_]⟩}=>YF s tg e C.τ x y K3
 |.call {callee:=.builtin .append,args:=⟨[x,y]⟩,argTypes:=⟨[e,e2]⟩}=>match Lf e e2 with
  |true=>match YP C.τ s tg e x y with
   |some r=>K1 r
   |none=>match Ox C.τ s tg e x y with
    |some r=>K1 r
    |none=>Il C.soft C.τ s tg e x y
  |false=>K2
 |_=>K2
def OU(h:R n W0 w X F H s a)(ht:tg.ok W0.gh a)(hC:C.ok P g){r:I8}(hr:jC C s tg o=K1 r):zG P n W0 w X H s a o r:=by
 unfold jC at hr;split at hr
 ·rename_i b;exact(IQ h ht b hr).sound h
 ·grind[Zy8]
 ·rename_i b;exact(gV h ht b hr).sound h
 ·rename_i b;exact Z1a h hC.τ b hr
 ·grind[Z7q]
 ·rename_i b;split at hr
  ·exact Zrz h ht hC.τ b hr
  ·exact Z1k h ht hC.τ b hr
 ·rename_i b;split at hr
  ·rename_i _ c;exact Z88 (hC.soft.trans c) h ht hC.pt b hr
  ·split at hr
   ·rename_i d;cases hr;exact Zms h ht hC.τ b d
   ·exact Zr0 h ht hC.τ b hr
 ·rename_i b;split at hr
  ·exact(Z5a (τ:=C.τ) h ht hC.pt b hr).sound h
  ·exact(rn h ht hC.τ b hr).sound h
 ·rename_i b;split at hr
  ·exact(En h ht hC b hr).sound h
  ·exact(En h ht hC b hr).sound h
  ·split at hr
   ·exact(Z35 (τ:=C.τ) h ht hC.pt b hr).sound h
   ·exact(Z8a (τ:=C.τ) h ht hC.pt b hr).sound h
  ·exact(A6 h ht hC.τ b hr).sound h
 ·rename_i b;exact(JP h ht b hr).sound h
 ·rename_i b;exact(Ge h ht hC.τ b hr).sound h
 ·rename_i b;exact Z5b h ht hC.τ b hr
 ·rename_i b;split at hr
  ·cases hr
  ·rename_i c;split at hr
   ·exact Z70 h ht hC.τ b hr
   ·exact Z4g (hC.soft.trans c) h ht hC.τ b hr
 ·rename_i b;exact(Ic (τ:=C.τ) h ht b hr).sound h
 ·rename_i b;exact(IC h ht hC.τ b hr).sound h
 ·rename_i b;split at hr
  ·exact(Z8i (τ:=C.τ) h ht hC.pt b hr).sound h
  ·exact(PJ h ht hC.τ b hr).sound h
 ·rename_i b;exact(Tq h ht hC.τ b hr).sound h
 ·grind[Zu7]
 ·rename_i f b;simp only[pB]at hr;subst hr;exact zD h rfl λ_=>⟨_,by simp[execOp,b,M7],Ce f⟩
 ·rename_i b;split at hr
  ·exact(Z8p (τ:=C.τ) h ht hC.pt b hr).sound h
  ·exact(G7 h ht hC.τ b hr).sound h
 ·rename_i b;exact(Dh h ht (mx:=La) b hr).sound h
 ·rename_i b;exact(Dh h ht (mx:=K3) b hr).sound h
 ·rename_i e j b;split at hr
  ·rename_i i;have:=pD i;subst this;split at hr
   ·rename_i d;cases hr;exact Zy7 h ht hC.τ b d
   ·split at hr
    ·rename_i d;cases hr;exact Z42 h ht hC.τ b d
    ·cases c:C.soft with
     |false=>exact Z1c (hC.soft.trans c) h ht hC.τ b hr
     |true=>simp_all[Il]
  ·cases hr
 ·cases hr
def YO(s:St):Nat->Nat->Bool->Option Yl
 |0,_,_=>K2
 |d+1,g,b=>match s.pN g with
  |true=>K2
  |false=>match s.get (.m g)with
   |.gd g2 b2 _=>match YO s d g2 b2 with
    |some tg=>K1 ((g,b)::tg)
    |none=>K2
   |.val .bool _ _=>K1 [(g,b)]
   |_=>K2
def SQ(s:St):Yl->Prop->Option Prop
 |[],p=>K1 p
 |(g,b)::tg,p=>match cu s (RO s tg (.tmp g)) .bool with
  |some c=>SQ s tg (c=b->p)
  |none=>K2
def Ze{ρ:Type}(p:Prop)(m:Option ρ):Option ρ:=by classical exact ite p m K2
def kl{p:Prop}{m:Option ρ}{r:ρ}:Ze p m=K1 r↔p/\m=K1 r:=by simp_all[Ze]
theorem Zb{p:Prop}{m:Option ρ}(h:p:=by omega):Ze p m=m:=by unfold Ze;rw[if_pos h]
def A2{ρ:Type}(o:Ob)(m:Option ρ):Option ρ:=
 match o with
 |none=>m
 |some p=>Ze p m
def PG{o:Ob}{m:Option ρ}{r:ρ}:A2 o m=K1 r↔o.ok/\m=K1 r:=by
 cases o with
 |none=>simp[A2,Ob.ok]
 |some p=>exact kl
def RQ{ρ:Type}(s:St)(tg:Yl)(o:Ob)(m:Option ρ):Option ρ:=
 match o with
 |none=>m
 |some p=>match SQ s tg p with
  |some q=>Ze q m
  |none=>K2
def LY(s:St):Yl->Option (List (Bool×Bool))
 |[]=>K1 []
 |(g,b)::tg=>match cu s (RO s tg (.tmp g)) .bool,LY s tg with
  |some c,K1 r=>K1 ((c,b)::r)
  |_,_=>K2
def Cp{α:Type}(d:α)(m:Option α):List (Bool×Bool)->Option α|[]=>m|(c,K3)::r=>cond c (Cp d m r) (K1 d)|(c,La)::r=>cond c (K1 d) (Cp d m r)
def MY(h:R n W0 w X F H s a):∀{d g:Nat}{b:Bool}{tg:Yl},YO s d g b=K1 tg->Qw W0.gh a (.m g)=.bool b->tg.ok W0.gh a
 |0,_,_,_,c,_=>by cases c
 |d+1,g,b,tg,c,k=>by
  simp only[YO]at c;split at c
  ·cases c
  ·rename_i y;split at c
   ·rename_i l r t u;split at c
    ·rename_i v e;simp only[pB]at c;subst c;have o:=h.slots (.m g);rw[u]at o;have f:s.pN l=false:=by
      cases d with
      |zero=>cases e
      |succ d=>
       grind[YO]
     obtain⟨_,_,x⟩:=o f;have i:Qw W0.gh a (.m l)=.bool r:=Mr λj=>by
      obtain⟨_,q⟩:=x j;rw[k]at q;cases q
     intro p hp;rcases Ma.1 hp with rfl|hp
     ·exact k
     ·exact MY h e i p hp
    ·cases c
   ·simp only[pB]at c;subst c;intro p hp;simp_all
   ·cases c
def WT(h:R n W0 w X F H s a):∀{tg:Yl}{p q:Prop},SQ s tg p=K1 q->q->Yl.ok tg W0.gh a->p
 |[],p,q,d,f,_=>by simp_all[SQ]
 |(g,b)::tg,p,q,d,f,i=>by
  simp only[SQ]at d;split at d
  ·rename_i c j;have e:Yl.ok tg W0.gh a:=λp k=>i p (Nd _ k);have m:=rm h e j;have o:=i (g,b) (Nu ..);have l:c=b:=by
    grind[Y4,DF]
   exact WT h d f e l
  ·cases d
def B0(h:R n W0 w X F H s a){tg:Yl}{o:Ob}{m:Option ρ}{r:ρ}(hu:RQ s tg o m=K1 r):m=K1 r/\(Yl.ok tg W0.gh a->o.ok):=by
 unfold RQ at hu;split at hu
 ·exact⟨hu,λ_=>trivial⟩
 ·split at hu
  ·rename_i d b;rw[kl]at hu;exact⟨hu.2,λc=>WT h b hu.1 c⟩
  ·cases hu
def Rx(h:R n W0 w X F H s a):∀{tg:Yl}{cs:List (Bool×Bool)},LY s tg=K1 cs->Yl.ok tg W0.gh a-> ∀{α:Type}(d:α)(m:Option α),Cp d m cs=m
 |[],cs,f,_,_,d,m=>by simp only[LY,pB]at f;subst f;rfl
 |(g,b)::tg,cs,f,k,_,d,m=>by
  simp only[LY]at f;split at f
  ·rename_i c r i o;simp only[pB]at f;subst f;have j:Yl.ok tg W0.gh a:=λp q=>k p (Nd _ q);have t:Qw W0.gh a (.m g)=.bool c:=(Y4 W0 a (DF i)).trans (rm h j i);have l:=k (g,b) (Nu ..);rw[t]at l;injection l with e
   simp only at e;subst e;have u:=Rx h o j d m;cases c<;>simp[Cp,u]
  ·cases f
def vP:(ts:List Ty)->J6 ts->Option TV|[t],r=>K1 ⟨t,r.1⟩|_,_=>K2
def Qe8:∀{ts:List Ty}{r:J6 ts}{v:TV}{rs:List K4}{S:List Nat},vP ts r=K1 v->xQ ro w B ts r rs S-> ∃cs,J7 rs=Yh v.1 cs/\rd w (λ_=>False) B ro v.1 v.2 cs S
 |[t],r,v,rs,S,h,hx=>by
  simp only[vP,pB]at h;subst h;obtain⟨cs,a,c,d,rfl,rfl,b,rfl,rfl⟩:=hx;exact⟨cs,rfl,by simpa using b⟩
 |[],_,_,_,_,h,_=>by simp[vP]at h
 |_::_::_,_,_,_,_,h,_=>by simp[vP]at h
def aO:Yl.ok [] W0.gh a:=λp b=>by cases b
def AC{g:Nat}{tg:Yl}(hc:YO s d g b=K1 tg):s.get (.m g)≠ .pR:=by
 cases d with
 |zero=>cases hc
 |succ d=>
  grind[YO]
def BC:(ts:List Ty)->J6 ts|[]=>()|t::ts=>(zero t,BC ts)
def UA{ρ:Type}(C:ML)(o:Lb)(s:St)(tg:Yl)(g:Nat)(b:Bool)(d:Nat)(k:St->Option ρ):Option ρ:=
 match o.op with
 |.call {callee:=.value fo,args:=xs,..}=>match(Dl s tg fo).bind C.Γ.find with
  |some e=>match vw s tg e.args xs.toList,LY s tg,vP e.res (BC e.res)with
   |some us,K1 cs,K1 _=>(Cp (BC e.res) (e.F us) cs).bind λr=>match vP e.res r with
    |some v=>k (Jb s d (.gd g b (.val v.1 (.u e.ro) v.2)))
    |none=>K2
   |_,_,_=>K2
  |none=>K2
 |_=>match jC C s tg o with
  |some r=>match r.moved with
   |false=>RQ s tg r.obl (k (Jb s d (.gd g b r.t)))
   |true=>K2
  |none=>K2
def Uf(s:St):List Lc->Option (List Nat)
 |[]=>K1 []
 |x::xs=>match Uz (RO s [] x),Uf s xs with
  |some q,K1 l=>match s.get (.m q)with
   |.box .. =>K1 (q::l)
   |_=>K2
  |_,_=>K2
def vN(h:R n W0 w X F H s a):∀{xs:List Lc}{l:List Nat},Uf s xs=K1 l->(xs.map a.eval).length=l.length/\ ∀(j:Nat)(q:Nat),l[j]? =K1 q-> ∃u,(xs.map a.eval)[j]? =K1 u/\qY s F q [] u
 |[],l,d=>by simp_all[Uf]
 |x::xs,l,d=>by
  simp only[Uf]at d;split at d
  ·rename_i q v z g;split at d
   ·rename_i e T f y i;simp only[pB]at d;subst d;obtain⟨p,A⟩:=vN h g;refine⟨by simpa using p,λj B k=>?_⟩;cases j with
    |zero=>
     simp only[Mp,pB]at k;subst k;have o:=h.slots (.m q);rw[i]at o;obtain⟨b,c,r,C,t,_⟩:=o;refine⟨a.eval x,Ac,e,T,f,y,b,r,i,t,?_⟩
     grind[Oe,Yn]
    |succ j=>simp_all
   ·cases d
  ·cases d
def Sd{ρ:Type}(C:ML)(n:Nat)(ops:Array Lb)(o:Lb)(s:St)(k:St->Option ρ):Option ρ:=
 match o.guard with
 |none=>match o.op with
  |.store e x v=>match o.dst with
   |none=>match qJ C.τ s [] e x v with
    |some s'=>k s'
    |none=>K2
   |some _=>K2
  |.call {callee:=.value fo,args:=xs,..}=>match Dl s [] fo with
   |some f=>YQ C.Γ n s [] o.dst f xs.toList k
   |none=>match ED s [] fo with
    |some c=>De C.Γ n s [] o.dst c xs.toList k
    |none=>K2
  |.makeFunc (.func f) ⟨[]⟩ ⟨c::cs⟩=>match C.inl.find f with
   |some _=>match Uf s (c::cs),o.dst with
    |some l,K1 d=>match Wa s d&&Li d n with
     |true=>k (Jb s d (.cl f l))
     |false=>K2
    |_,_=>K2
   |none=>match C.soft,Uw s (c::cs),o.dst with
    |false,K1 (U,s'),K1 d=>match Wa s' d&&Li d n with
     |true=>k (Jb s' d (.val (.clo f U.1) (.u .sh) U.2))
     |false=>K2
    |_,_,_=>K2
  |.move (.tmp q)=>match s.get (.m q),o.dst with
   |.tup,K1 d=>match Wa s d&&Li d n&&Li q 1048576 with
    |true=>k (Zy0 s q d)
    |false=>K2
   |_,_=>match Tz C.τ s [] o.type (.tmp q),o.dst with
    |some r,K1 d=>match Wa r.s d&&Li d n with
     |true=>A2 r.obl (k (Jb r.s d r.t))
     |false=>K2
    |_,_=>K2
  |_=>match jC C s [] o,o.dst with
   |some r,K1 d=>match Wa r.s d&&Li d n with
    |true=>A2 r.obl (k (Jb r.s d r.t))
    |false=>K2
   |_,_=>K2
 |some (j,b)=>match(ops[j]?).bind (·.dst),o.dst with
  |some g,K1 d=>match YO s 8 g b,Wa s d&&Li d n&&Li g 1048576 with
   |some tg,K3=>UA C o s tg g b d k
   |_,_=>K2
  |_,_=>K2
structure RN(gh:Nat->K4)(C:ML)(o:Lb)(X X':Nat->Prop)(s:St)(a a':Act)(w w':Le):Prop where
 more:∀b,X b->X' b
 pres:A1 o.op=K3->Bq w w'
 kept:vT gh X s a (O7 C.τ s o) w w'
 put:∃v,a'=a.put o.dst v
def R.fact(h:R n W0 w X F H s a){o:Lb}{v:K4}(hold:Bq w w'):RN W0.gh C o X X s a (a.put o.dst v) w w':=⟨λ_ h=>h,λ_=>hold,h.kept hold,v,rfl⟩
def vT.any{tgt:Option Nat}(h:vT W0.gh X s a K2 w w'):vT W0.gh X s a tgt w w':=λb c=>h b (c.imp id λ⟨r,d,_,e⟩=>⟨r,d,Ac,e⟩)
def Qit(hC:C.ok P g)(h:R n W0 w X F [] s a){g:Nat}(hd:o.dst=K1 d)(hch:YO s 8 g b=K1 tg)(hdn:Wa s d=K3/\d<n){k:St->Option ρ}{r:ρ}(hs:UA C o s tg g b d k=K1 r)
   (hK:∀w' a' X' F' s',k s'=K1 r->R n W0 w' X' F' [] s' a'->RN W0.gh C o X X' s a a' w w'->K a' w'):
  (Qw W0.gh a (.m g)=.bool b->o.wp P a w K Q)/\(Qw W0.gh a (.m g)≠ .bool b->K (a.put o.dst undef) w):=by
 have j:=AC hch;have skip:∀{t:Tm},Qw W0.gh a (.m g)≠ .bool b->k (Jb s d (.gd g b t))=K1 r->K (a.put o.dst undef) w:=by
  intro t c y;rw[hd];exact hK w _ X _ _ y ((by simpa using h:R n W0 w X F ([]++[]) s a).put (S:=[]) hdn.1 hdn.2 λ_=>⟨j,λi=>absurd i c,λ_=>⟨rfl,rfl⟩⟩) (by rw[<-hd];exact h.fact (Bq.refl w))
 unfold UA at hs;split at hs
 ·rename_i W Y I J;split at hs
  ·rename_i e z;obtain⟨f,L,y⟩:=Lv.1 z;split at hs
   ·rename_i Z H v0 A B M;rw[Lv]at hs;obtain⟨rv,p,hk⟩:=hs;split at hk
    ·rename_i v hv;refine⟨λi=>?_,λi=>skip i hk⟩;have l:=MY h hch i;rw[Rx h B l]at p;refine jW hC.Γ h l (q7 h l L) J y A p λrs S w' x q hold=>?_;obtain⟨H,N,O⟩:=Qe8 hv q;rw[hd];exact hK w' _ X _ _ hk (x.put hdn.1 hdn.2 λ_=>⟨j,λ_=>⟨H,N,by unfold Pr;exact iN (Lj _) (λ_ (h:False)=>h.elim) O⟩,λc=>absurd i c⟩) (by rw[<-hd];exact h.fact hold)
    ·cases hk
   ·cases hs
  ·cases hs
 ·split at hs
  ·rename_i r0 hv;split at hs
   ·rename_i U;obtain⟨hk,D⟩:=B0 h hs;refine⟨λi=>?_,λi=>skip i hk⟩;have l:=MY h hch i;refine OU h l hC hv (D l) K Q λv X' F' S w' V x u E hold=>?_;have G:=E U;rw[G]at x u;rw[hd];exact hK w' _ X' _ _ hk (x.put hdn.1 hdn.2 λ_=>⟨j,λ_=>u,λc=>absurd i c⟩) (by rw[<-hd];exact⟨V,hold.1,hold.2.any,_,rfl⟩)
   ·cases hs
  ·cases hs
def gY(hC:C.ok P g)(h:R n W0 w X F [] s a){k:St->Option ρ}{r:ρ}(hs:Sd C n ops o s k=K1 r)
  (hK:∀w' a' X' F' s',k s'=K1 r->R n W0 w' X' F' [] s' a'->RN W0.gh C o X X' s a a' w w'->K a' w'):ite (Lk o (yielded ops a.tmps)) (o.wp P a w K Q) (K (a.put o.dst undef) w):=by
 unfold Sd at hs;split at hs
 ·rename_i I;rw[if_pos (by simp[Lk,I])];split at hs
  ·rename_i e x v y;split at hs
   ·rename_i p;split at hs
    ·rename_i s' J;exact Z4n h hC.τ y p J λw' F' A D=>hK w' a X F' s' hs A ⟨λ_ h=>h,λZ=>(by rw[y]at Z;cases Z),D,undef,by rw[p];rfl⟩
    ·cases hs
   ·cases hs
  ·rename_i fo xs ad y;split at hs
   ·rename_i f hf;exact Z99 hC.Γ h aO (q7 h aO hf) y hs λv w' F' s' hk A hold=>hK w' _ X F' s' hk A (h.fact hold)
   ·split at hs
    ·rename_i c hc;exact Z98 hC.Γ h aO hc y hs λv w' F' s' hk A hold=>hK w' _ X F' s' hk A (h.fact hold)
    ·cases hs
  ·rename_i f c cs y;split at hs
   ·split at hs
    ·rename_i l d z p;split at hs
     ·rename_i i;simp only[pC,Lp]at i;obtain⟨L,M⟩:=vN h z;unfold Ln;simp only[execOp,y,M7,Lu];rw[p];refine hK w _ X _ _ hs ((by simpa using h:R n W0 w X F ([]++[]) s a).put i.1 i.2 (t:=.cl f l) ⟨rfl,(c::cs).map a.eval,Ac,L,M⟩) (by rw[<-p];exact h.fact (Bq.refl w))
     ·cases hs
    ·cases hs
   ·split at hs
    ·rename_i U s' d N z p;split at hs
     ·rename_i i;simp only[pC,Lp]at i;obtain⟨X',F',L,M,g3⟩:=Ga (hC.soft.trans N) h z;unfold Ln;simp only[execOp,y,M7,Lu];rw[p];refine hK w _ X' _ _ hs ((by simpa using L:R n W0 w X' F' ([]++[]) s' a).put i.1 i.2 (t:=.val (.clo f U.1) (.u .sh) U.2) ⟨[.func (.func f) #[] (List.map a.eval (c::cs)).toArray],by simp[Yh],by unfold Pr;exact⟨rfl,_,rfl,g3⟩⟩) (by rw[<-p];exact⟨M,λ_=>Bq.refl w,h.kept (Bq.refl w),_,rfl⟩)
     ·cases hs
    ·cases hs
  ·rename_i q y;split at hs
   ·rename_i d hq p;split at hs
    ·rename_i i;have O:Li q 1048576=true:=Af
     simp only[pC,Lp]at i;obtain⟨F',G⟩:=h.tupTo hq i.1.1 i.1.2;rw[Y4 W0 a O]at G;unfold Ln;simp only[execOp,y,Mc,Lu];rw[p];exact hK w _ X F' _ hs G (by rw[<-p];exact h.fact (Bq.refl w))
    ·cases hs
   ·split at hs
    ·rename_i r0 d hv p;split at hs
     ·rename_i i;simp only[pC,Lp]at i;rw[PG]at hs;refine(IQ h aO y hv).sound h hs.1 K Q λv X' F' S w' V A E _ hold=>?_;rw[p];exact hK w' _ X' _ _ hs.2 (A.put i.1 i.2 E) (by rw[<-p];exact⟨V,hold.1,hold.2.any,_,rfl⟩)
     ·cases hs
    ·cases hs
  ·split at hs
   ·rename_i r0 d hv p;split at hs
    ·rename_i i;simp only[pC,Lp]at i;rw[PG]at hs;refine OU h aO hC hv hs.1 K Q λv X' F' S w' V A E _ hold=>?_;rw[p];exact hK w' _ X' _ _ hs.2 (A.put i.1 i.2 E) (by rw[<-p];exact⟨V,hold.1,hold.2.any,_,rfl⟩)
    ·cases hs
   ·cases hs
 ·rename_i j b I;split at hs
  ·rename_i g d hj p;split at hs
   ·rename_i tg W i;have H:Li g 1048576=true:=Af
    simp only[pC,Lp]at i;have ar:=Qit (Q:=Q) hC h p W i.1 hs hK;by_cases hb:Qw W0.gh a (.m g)=.bool b
    ·have ab:g<a.tmps.size:=by
      have B:a.tmps.getD g undef=.bool b:=(Y4 W0 a H).symm.trans hb;rcases Ly g a.tmps.size with h'|h'
      ·exact h'
      ·rw[Array.getD_eq_getD_getElem?,Array.getElem?_eq_none h']at B;cases B
     have Y:Lk o (yielded ops a.tmps)=true:=by
      have B:a.tmps[g]? =K1 (.bool b):=by
       have B:a.tmps.getD g undef=.bool b:=(Y4 W0 a H).symm.trans hb;simp_all
      simp_all[Lk,yielded]
     simp_all
    ·have Y:¬Lk o (yielded ops a.tmps)=true:=by
      intro Y;simp only[Lk,I,yielded,hj,pA,beq_iff_eq]at Y
      grind[Qw,uI]
     simp_all
   ·cases hs
  ·cases hs
def ov:Ty->Nat|.pair a b=>max (ov a+1) (ov b)|.arr _ t=>ov t+1|_=>1
def PP(P:Lh):Ty->Ld->List Field->Nat->Bool->Bool
 |.int _,e,_,_,K3=>match P.underlying e with|some (.int _)=>VG P e (.int .i64)|_=>La
 |.bool,e,_,_,K3=>match P.underlying e with|some .bool=>VG P e .bool|_=>La
 |.str,e,_,_,K3=>match P.underlying e with|some .string=>VG P e .str|_=>La
 |.unit,e,_,_,K3=>match P.underlying e with|some (.struct fs)=>fs.toList.isEmpty&& !P.stoodInHeld e&&VG P e .unit|_=>La
 |.pair a b,e,_,_,K3=>match P.underlying e with
  |some (.struct fs)=>match fs.toList with
   | f :: r => !P.stoodInHeld e && VG P e (.pair a b) && f.name != "_" && Lf f.offset 0 && PP P a f.type [] 0 K3 && PP P b 0 r a.size La
   |[]=>La
  |_=>La
 |.arr n t,e,_,_,K3=>match P.underlying e with
  |some (.array m e2)=>Lf m n&&VG P e (.arr n t)&&PP P t e2 [] 0 K3
  |_=>La
 |.unit,_,fs,_,La=>fs.isEmpty
 |.pair a b,_,fs,off,La=>match fs with
  | f :: r => f.name != "_" && Lf f.offset off && PP P a f.type [] 0 K3 && PP P b 0 r (off + a.size) La
  |[]=>La
 |_,_,_,_,_=>La
def EL{T:Ty}{e:Ld}(h:PP P T e fs off K3=K3):∃i,P.info? e=K1 i/\i.size=T.size:=by
 have a:∀U:Ty,U.size=T.size->VG P e U=K3-> ∃i,P.info? e=K1 i/\i.size=T.size:=λU b c=>by
  grind[v7]
 cases T<;>simp only[PP]at h
 case int k=>split at h<;>first|exact a _ rfl h|cases h
 all_goals grind
def Qpg{T:Ty}{e:Ld}(h:PP P T e fs off K3=K3)(w:Le):(L8 e).run P w=.ok T.isAgg w:=by
 cases T<;>simp only[PP]at h
 case int k=>split at h<;>first|(rename_i c;simp[L8,run_underlying c,Ty.isAgg])|cases h
 case bool=>split at h<;>first|(rename_i c;simp[L8,run_underlying c,Ty.isAgg])|cases h
 case str=>split at h<;>first|(rename_i c;simp[L8,run_underlying c,Ty.isAgg])|cases h
 case unit=>split at h<;>first|(rename_i c;simp[L8,run_underlying c,Ty.isAgg])|cases h
 case pair a b=>split at h<;>first|(rename_i c;simp[L8,run_underlying c,Ty.isAgg])|cases h
 case arr n t=>split at h<;>first|(rename_i c;simp[L8,run_underlying c,Ty.isAgg])|cases h
 all_goals simp_all
def Qdl{T:Ty}{e:Ld}(h:PP P T e fs off K3=K3)(w:Le):(M6 e).run P w=.ok T.size w:=by obtain⟨i,a,b⟩:=EL h;simp_all[M6,typeInfo]
def ID{T:Ty}{e:Ld}{off':Nat}(h:PP P T e fs off' K3=K3)(w:Le){xs:Array K4}{pre u post:List K4}(hx:xs.toList=pre++(u++post))(ho:pre.length=off)(hu:u.length=T.size):
  (part e xs off).run P w=.ok (Yh T u) w:=by
 unfold part;simp only[Lw,Qpg h w,Lt];cases ha:T.isAgg
 ·have b:=GC ha;rw[b]at hu;obtain⟨v,rfl⟩:=Mv.1 hu;have:xs[off]? =K1 v:=by
   rw[<-Array.getElem?_toList,hx,<-ho];simp
  have a:Yh T [v]=v:=by cases T<;>simp[Ty.isAgg]at ha<;>rfl
  simp[this,a]
 ·simp only[if_true,Lw,Qdl h w,Lt,Mc];have c:xs.extract off (off+T.size)=u.toArray:=by
   grind[Array.toList_extract]
  have a:Yh T u=.agg u.toArray:=by cases T<;>simp[Ty.isAgg]at ha<;>rfl
  rw[c,a]
def JQ{X Y:Nat->Prop}{B:Nat}{w2 w3:Le}:∀(T:Ty),
  (∀(e:Ld)(fs:List Field)(off d:Nat)(w:Le)(x y:T.den)(u v:List K4),PP P T e fs off K3=K3->ov T<=d+1->rd w2 X B .sh T x u []->rd w3 Y B .sh T y v []->
   (Mb (d+1) e (Yh T u) (Yh T v)).run P w=.ok (TR T x y) w)/\
  (∀(e:Ld)(fs:List Field)(off d:Nat)(w:Le)(x y:T.den)(u v pu pv:List K4),PP P T e fs off La=K3->ov T<=d+1->rd w2 X B .sh T x u []->rd w3 Y B .sh T y v []->pu.length=off->pv.length=off->
   (Nh d (pu++u).toArray (pv++v).toArray fs).run P w=.ok (TR T x y) w)
 |.int k=>by
   refine⟨λe fs off d w x y u v h _ hx c=>?_,λe fs off d w x y u v pu pv h=>by simp[PP]at h⟩;simp only[PP]at h;split at h
   ·rename_i k' g;rw[hx.1,c.1];exact run_equalIn_int w d e k k' x y g
   ·cases h
 |.bool=>by
   refine⟨λe fs off d w x y u v h _ hx c=>?_,λe fs off d w x y u v pu pv h=>by simp[PP]at h⟩;simp only[PP]at h;split at h
   ·rename_i g;rw[hx.1,c.1];exact run_equalIn_bool' w d e x y g
   ·cases h
 |.str=>by
   refine⟨λe fs off d w x y u v h _ hx c=>?_,λe fs off d w x y u v pu pv h=>by simp[PP]at h⟩;simp only[PP]at h;split at h
   ·rename_i g;rw[hx.1,c.1];have:=run_equalIn_string w d e ⟨⟨x⟩⟩ ⟨⟨y⟩⟩ g;rw[Nk,Nk]at this;exact this
   ·cases h
 |.unit=>by
   refine⟨λe fs off d w x y u v h _ hx c=>?_,λe fs off d w x y u v pu pv h _ hx c _ _=>?_⟩
   ·simp only[PP]at h;split at h
    ·rename_i fs g;simp only[pC,Lq]at h;have G:P.fieldsOf e=fs:=by simp_all[N2]
     rw[hx.1,c.1];show(Mb (d+1) e (.agg #[]) (.agg #[])).run P w=_;rw[run_equalIn_struct w d e #[] #[] (by rw[G];exact g) h.1.2,G];have:fs.toList=[]:=by simpa using h.1.1
     rw[this];rfl
    ·cases h
   ·have:fs=[]:=by simp_all[PP]
    rw[this];rfl
 |.pair a b=>by
   have q : ∀ (f : Field) (r : List Field) (off d : Nat) (w : Le) (x y : (Ty.pair a b).den) (u v pu pv : List K4), f.name ≠ "_" -> f.offset = off -> PP P a f.type [] 0 K3 = K3 -> PP P b 0 r (off + a.size) La = K3 ->
     ov (.pair a b)<=d+1->rd w2 X B .sh (.pair a b) x u []->rd w3 Y B .sh (.pair a b) y v []->pu.length=off->pv.length=off->
     (Nh d (pu++u).toArray (pv++v).toArray (f::r)).run P w=.ok (TR (.pair a b) x y) w:=by
    intro f r off d w x y u v pu pv H h2 p O C hx c s z;obtain⟨u1,u2,S1,S2,rfl,I,j,D⟩:=hx;obtain⟨E,J,T1,T2,rfl,K,o,F⟩:=c;have I:=Mm.1 I.symm;have K:=Mm.1 K.symm;obtain⟨rfl,rfl⟩:=I;obtain⟨rfl,rfl⟩:=K;simp only[ov]at C;have ab:ov a+1<=d+1:=Lm (Nat.le_max_left _ _) C;have Q:ov b<=d+1:=Lm (Nat.le_max_right _ _) C;cases d with
    |zero=>
     have:1<=ov a:=by cases a<;>simp[ov];omega
     omega
    |succ d=>
     simp only[Nh,H,ne_eq,not_false_eq_true,if_true,Lw,h2];rw[ID p w (u:=u1) (pre:=pu) (post:=u2) Ac s (X9 j)];simp only[Lt];rw[ID p w (u:=E) (pre:=pv) (post:=J) Ac z (X9 o)];simp only[Lt];rw[(JQ a).1 f.type [] 0 d w x.1 y.1 u1 E p Aa j o];simp only[Lt];cases he:TR a x.1 y.1
     ·simp[TR,he]
     ·have:=(JQ b).2 0 r (off+a.size) (d+1) w x.2 y.2 u2 J (pu++u1) (pv++E) O Q D F Av Av
      grind[TR]
   refine⟨λe fs off d w x y u v h C hx c=>?_,λe fs off d w x y u v pu pv h C hx c s z=>?_⟩
   ·simp only[PP]at h;split at h
    ·rename_i fs g;split at h
     ·rename_i f r S;simp only[pC,Lq,bne_iff_ne,ne_eq]at h;obtain⟨⟨⟨⟨⟨H,_⟩,p⟩,O⟩,h5⟩,h6⟩:=h;have G:P.fieldsOf e=fs:=by simp_all[N2]
      show(Mb (d+1) e (.agg u.toArray) (.agg v.toArray)).run P w=_;rw[run_equalIn_struct w d e u.toArray v.toArray (by rw[G];exact g) H,G,S];exact q f r 0 d w x y u v [] [] p (pD O) h5 (by simpa using h6) C hx c rfl rfl
     ·cases h
    ·cases h
   ·simp only[PP]at h;split at h
    ·rename_i f r;simp only[pC,bne_iff_ne,ne_eq]at h
     grind[pD]
    ·cases h
 |.arr n t=>by
   refine⟨λe fs off d w x y u v h C hx c=>?_,λe fs off d w x y u v pu pv h=>by simp[PP]at h⟩;simp only[PP]at h;split at h
   ·rename_i m U g;simp only[pC]at h;obtain⟨⟨H,_⟩,p⟩:=h;have:=pD H;subst this;obtain⟨i,hi,hs⟩:=EL p;have hc:P.cellsOf U=t.size:=by grind[Lh.cellsOf]
    show(Mb (d+1) e (.agg u.toArray) (.agg v.toArray)).run P w=_;rw[run_equalIn_array w d u.toArray v.toArray g hi,hc];cases d with
    |zero=>
     have:1<=ov t:=by cases t<;>simp[ov];omega
     simp_all[ov]
    |succ d=>
     simp only[ov]at C;have V:∀(l A:List t.den)(k:Nat)(pu pv L M:List K4),l.length=A.length->pu.length=k*t.size->pv.length=k*t.size->cS (rd w2 X B .sh t) l L []->cS (rd w3 Y B .sh t) A M []->
       (Op.eqItems (d+1) U t.size (pu++L).toArray (pv++M).toArray (List.range' k l.length)).run P w=.ok (eqL (TR t) l A) w:=by
      intro l
      induction l with
      |nil=>intro A k pu pv L M N _ _ _ _;cases A with
       |nil=>rfl
       |cons=>simp at N
      |cons a l ih=>
       intro A k pu pv L M N s z W Z;cases A with
       |nil=>simp at N
       |cons b A=>
        obtain⟨u1,u2,S1,S2,rfl,I,j,D⟩:=W;obtain⟨E,J,T1,T2,rfl,K,o,F⟩:=Z;obtain⟨rfl,rfl⟩:=Mm.1 I.symm;obtain⟨rfl,rfl⟩:=Mm.1 K.symm;simp only[Nt,List.range'_succ,Op.eqItems,Lw];rw[ID p w (u:=u1) (pre:=pu) (post:=u2) Ac s (X9 j)];simp only[Lt];rw[ID p w (u:=E) (pre:=pv) (post:=J) Ac z (X9 o)];simp only[Lt];rw[(JQ t).1 U [] 0 d w a b u1 E p Aa j o];simp only[Lt];cases he:TR t a b
        ·simp[eqL,he]
        ·have:=ih A (k+1) (pu++u1) (pv++E) u2 J (by simpa using N) Av Av D F;simp only[Mg]at this;simp[eqL,he,this]
     have:=V x y 0 [] [] u v (by rw[hx.1,c.1]) Ac Ac hx.2 c.2;rw[hx.1]at this;rw[List.range_eq_range'];exact this
   ·cases h
 |.slice _ _=>⟨λe fs off d w x y u v h=>by simp[PP]at h,λe fs off d w x y u v pu pv h=>by simp[PP]at h⟩
 |.fnc _=>⟨λe fs off d w x y u v h=>by simp[PP]at h,λe fs off d w x y u v pu pv h=>by simp[PP]at h⟩
 |.err=>⟨λe fs off d w x y u v h=>by simp[PP]at h,λe fs off d w x y u v pu pv h=>by simp[PP]at h⟩
 |.hid _=>⟨λe fs off d w x y u v h=>by simp[PP]at h,λe fs off d w x y u v pu pv h=>by simp[PP]at h⟩
 |.sptr .. =>⟨λe fs off d w x y u v h=>by simp[PP]at h,λe fs off d w x y u v pu pv h=>by simp[PP]at h⟩
 |.clo .. =>⟨λe fs off d w x y u v h=>by simp[PP]at h,λe fs off d w x y u v pu pv h=>by simp[PP]at h⟩
def EV.of{e:Ld}{T:Ty}(h1:PP P T e [] 0 K3=K3)(h2:P.eqGuardType P.depth e=La)(h3:T.isAgg=K3)(h4:ov T<=10000):EV P e T:=by
 have b:∀u:List K4,Yh T u=.agg u.toArray:=λu=>by cases T<;>simp[Ty.isAgg]at h3<;>rfl
 refine⟨λw c p q u v=>?_,λw w2 w3 X Y B x y u v hx a=>?_,λw w2 w3 X Y B x y u v hx a=>?_⟩
 ·simp_all[run_eqGuard_agg]
 ·have:=(JQ (P:=P) (X:=X) (Y:=Y) (B:=B) (w2:=w2) (w3:=w3) T).1 e [] 0 9999 w x y u v h1 Aa hx a;simp_all[run_eql_struct]
 ·have:=(JQ (P:=P) (X:=X) (Y:=Y) (B:=B) (w2:=w2) (w3:=w3) T).1 e [] 0 9999 w x y u v h1 Aa hx a;simp_all[run_neq_struct]
inductive KT(s s':St):Tm->Tm->Prop where
 |pR (t):KT s s' t .pR
 |tup:KT s s' .tup .tup
 |val {T f g x}:(f=g\/Wb T f g=K3)->KT s s' (.val T f x) (.val T g x)
 |box {e T f g x}:(f=g\/Wb T f g=K3)->KT s s' (.box e T f x) (.box e T g x)
 |shp {T x}:KT s s' (.shp T x) (.shp T x)
 |ptr {r p}:(∃e T f x,s'.get (.m r)=.box e T f x)->KT s s' (.ptr r p) (.ptr r p)
 |aep {r p i}:(∃e T f x,s'.get (.m r)=.box e T f x)->KT s s' (.aep r p i) (.aep r p i)
 |pls {h l}:(∀q∈l,∃e T f x,s'.get (.m q.1)=.box e T f x)->KT s s' (.pls h l) (.pls h l)
 |bor {r p}:s.bad r p=La->s'.get (.m r)≠ .pR->KT s s' (.bor r p) (.bor r p)
 |elp {r p i q}:s.bad r p=La->s'.get (.m r)≠ .pR->KT s s' (.elp r p i q) (.elp r p i q)
 |bel {r p i q}:s.bad r p=La->s.pN (om r)=La->s'.get (.m r)≠ .pR->KT s s' (.bel r p i q) (.bel r p i q)
 |cl {f l}:(∀q∈l,∃e T f x,s'.get (.m q)=.box e T f x)->KT s s' (.cl f l) (.cl f l)
variable {s':St}
def R.weak(h:R n W0 w X F H s a)(hk:∀k,KT s s' (s.get k) (s'.get k))(hc:∀d i,s'.get (.c d i)≠ .pR->s'.get (.m d)=.tup)
  (hl:∀p,p∈W0.fix->p.1∈s'.pQ):∃F',R n W0 w X F' H s' a:=by
 classical
 let F':A4->List Nat:=λk=>ite (s'.get k=.pR) [] (F k)
 have I:∀k b,b∈F' k->b∈F k:=λk b O=>Ag
 have D:∀{k},s'.get k≠ .pR->F' k=F k:=λhk=>by simp[F',hk]
 have L:∀{r p v U},s'.get (.m r)≠ .pR->X4 W0.gh w s F a r p v U->X4 W0.gh w s' F' a r p v U:=by
  intro r p v U z hv;have g:=hk (.m r);unfold X4 at hv⊢;split at hv
  ·rename_i T f x V;rw[V]at g;generalize W:s'.get (.m r)=t at g z;cases g with
   |pR=>simp_all
   |val C=>exact hv
  ·rename_i e T f x V;rw[V]at g;have:=D z;generalize W:s'.get (.m r)=t at g z;cases g with
   |pR=>simp_all
   |box C=>
    simp_all
  ·exact hv.elim
 refine⟨F',{h with fix:=λp hp=>⟨hl p hp,(h.fix p hp).2⟩,own:=λk b O=>h.own k b (I k b O),nodup:=λk=>?_,pS:=λk k' b O Y=>h.pS k k' b (I k b O) (I k' b Y),pL:=λk b O=>h.pL k b (I k b O),pM:=λd i z=>?_,slots:=λk=>?_}⟩
 ·simp only[F'];split
  ·simp
  ·exact h.nodup k
 ·refine⟨hc d i z,(h.pM d i λZ=>?_).2⟩;have:=hk (.c d i);rw[Z]at this;generalize W:s'.get (.c d i)=t at this z;cases this;exact z rfl
 ·have C:=h.slots k;have M:=hk k;by_cases z:s'.get k=.pR
  ·rw[z];simp only[F',z,if_true];rfl
  ·rw[D z];generalize ab:s'.get k=t' at M z;generalize W:s.get k=t at M C;cases M with
   |pR=>simp_all
   |tup=>exact C
   |val A=>obtain⟨vs,B,E⟩:=C;exact⟨vs,B,s8 A E⟩
   |box A=>obtain⟨b,c,J,B,E,K,h4⟩:=C;exact⟨b,c,J,B,E,K,s8 A h4⟩
   |shp=>exact C
   | @ptr r p o=>
    obtain⟨e',T',g',x',o⟩:=o;obtain⟨G,e,T,f,x,b,J,B,E,K⟩:=C;have g:=hk (.m r);rw[B,o]at g;have:=D (k:=.m r) (by rw[o];simp);cases g with
    |box A=>exact⟨G,_,_,_,_,b,J,o,Af,K⟩
   | @aep r p i o=>
    obtain⟨e',T',g',x',o⟩:=o;obtain⟨G,e,T,f,x,b,J,nn,t2,y,B,E,K⟩:=C;have g:=hk (.m r);rw[B,o]at g;have:=D (k:=.m r) (by rw[o];simp);cases g with
    |box A=>exact⟨G,_,_,_,_,b,J,nn,t2,y,o,Af,K⟩
   | @pls hh l o=>
    obtain⟨G,P,us,B,E,K,h4,h5⟩:=C;refine⟨G,P,us,B,E,K,λj q Q=>?_,h5⟩;obtain⟨u,hu,e,T,f,x,b,J,g1,g2,g3⟩:=h4 j q Q;obtain⟨e',T',g',x',o⟩:=o q (Mq Q);have g:=hk (.m q.1);rw[g1,o]at g;have:=D (k:=.m q.1) (by rw[o];simp);cases g with
    |box A=>exact⟨u,hu,_,_,_,_,b,J,o,Af,g3⟩
   |bor S o=>
    obtain⟨G,B⟩:=C;obtain⟨U,B⟩:=B S;exact⟨G,λ_=>⟨U,L o B⟩⟩
   |elp S o=>
    obtain⟨G,B⟩:=C;obtain⟨e,t,P,m,N,B,E⟩:=B S;exact⟨G,λ_=>⟨e,t,P,m,N,L o B,E⟩⟩
   |bel S Z o=>
    obtain⟨G,B⟩:=C;obtain⟨e,t,P,m,N,x0,y,cs,B,k1,k2,k3,E⟩:=B S Z;exact⟨G,λ_ _=>⟨e,t,P,m,N,x0,y,cs,L o B,k1,k2,Af,E⟩⟩
   | @cl f l o=>
    obtain⟨G,us,B,E,K⟩:=C;refine⟨G,us,B,E,λj q Q=>?_⟩;obtain⟨u,hu,e,T,f,x,b,J,g1,g2,g3⟩:=K j q Q;obtain⟨e',T',g',x',o⟩:=o q (Mq Q);have g:=hk (.m q);rw[g1,o]at g;have:=D (k:=.m q) (by rw[o];simp);cases g with
    |box A=>exact⟨u,hu,_,_,_,_,b,J,o,Af,g3⟩
def jU(s:St):Tm->Tm
 |.bor r p=>match s.bad r p with|true=>.pR|false=>.bor r p
 |.elp r p i q=>match s.bad r p with|true=>.pR|false=>.elp r p i q
 |.bel r p i q=>match s.bad r p||s.pN (om r)with|true=>.pR|false=>.bel r p i q
 |.gd _ _ _=>.pR
 |t=>t
def Dp(s:St):List (A4×Tm)->List (A4×Tm)|[]=>[]|(k,t)::r=>(k,jU s t)::Dp s r
def Zj6(s:St):St:={env:=Dp s s.env,pP:=[],pQ:=s.pQ}
def TN(s:St)(k:A4):∀l,ma (Dp s l) k=jU s (ma l k)
 |[]=>rfl
 |(j,t)::r=>by
  simp only[Dp,Qd,TN s k r];split<;>rfl
def R.clean(h:R n W0 w X F H s a):∃F',R n W0 w X F' H (Zj6 s) a:=by
 have A:∀k,(Go.Am.Zj6 s).get k=jU s (s.get k):=λk=>TN s k s.env;have c:∀{r p v U},X4 W0.gh w s F a r p v U->(Go.Am.Zj6 s).get (.m r)≠ .pR:=by
  grind[X4,jU]
 refine h.weak (λk=>?_) (λd i z=>?_) (λp K=>(h.fix p K).1)
 ·rw[A];have g:=h.slots k;cases ht:s.get k with
  |pR=>exact .pR _
  |tup=>exact .tup
  |val=>exact .val (.inl rfl)
  |box=>exact .box (.inl rfl)
  |shp=>exact .shp
  |ptr r p=>
   rw[ht]at g;obtain⟨C,e,T,f,x,b,D,o,E,B⟩:=g;exact .ptr ⟨e,T,f,x,by rw[A,o];rfl⟩
  |aep r p i=>
   rw[ht]at g;obtain⟨C,e,T,f,x,b,D,n,S,y,o,E,B⟩:=g;exact .aep ⟨e,T,f,x,by rw[A,o];rfl⟩
  |pls V l=>
   rw[ht]at g;obtain⟨C,W,L,o,E,B,M,Y⟩:=g;refine .pls λq G=>?_;obtain⟨j,I⟩:=Ns G;obtain⟨u,N,e,T,f,x,b,D,J,O,P⟩:=M j q I;exact⟨e,T,f,x,by rw[A,J];rfl⟩
  |bor r p=>
   rw[ht]at g;simp only[jU];split
   ·exact .pR _
   ·rename_i t;obtain⟨U,o⟩:=g.2 t;exact .bor t (c o)
  |elp r p i q=>
   rw[ht]at g;simp only[jU];split
   ·exact .pR _
   ·rename_i t;obtain⟨_,_,_,_,_,o,_⟩:=g.2 t;exact .elp t (c o)
  |bel r p i q=>
   rw[ht]at g;simp only[jU];split
   ·exact .pR _
   ·rename_i t;simp only[Bool.or_eq_false_iff]at t;obtain⟨_,_,_,_,_,_,_,_,o,_⟩:=g.2 t.1 t.2;exact .bel t.1 t.2 (c o)
  |cl f l=>
   rw[ht]at g;obtain⟨C,L,o,E,B⟩:=g;refine .cl λq G=>?_;obtain⟨j,I⟩:=Ns G;obtain⟨u,N,e,T,f,x,b,D,J,O,P⟩:=B j q I;exact⟨e,T,f,x,by rw[A,J];rfl⟩
  |gd=>exact .pR _
 ·rw[A]at z⊢;have:=(h.pM d i λQ=>by rw[Q]at z;exact z rfl).1;rw[this];rfl
theorem Z1i(h:R n W0 w X F H s a)(ht:tg.ok W0.gh a){x:Lc}(ho:o.op=.assign x){r:I8}(hr:Ru τ s tg o.type x=K1 r)(hm:r.moved=La):cX P τ W0 w X F s a o r:=by
 unfold Ru at hr;have e:∀{k t u},RO s tg x=.tm k t->ER s (.tm k t)=K1 u->u.moved=La->cX P τ W0 w X F s a o ⟨.val u.T u.f u.x,u.s,u.moved,K2⟩:=by
  intro k t u hx g hm;rw[<-hx]at g;obtain⟨p,S,i,b,c,q,j,_⟩:=VJ h ht g;obtain⟨l,y,m⟩:=j hm;subst m;exact Kr l λ_=>⟨_,λd _=>by simp[execOp,ho],i,b,c⟩
 split at hr
 ·rename_i v hv;obtain rfl:=Cq hv;obtain⟨b,c⟩:=UC (w:=w) (X:=X) (B:=W0.B) (s:=s) (F:=F) (a:=a) hr;exact Kr b λ_=>⟨_,λd _=>by simp[execOp,ho,M3],c⟩
 ·rename_i f hv;obtain rfl:=EU hv;simp only[pB]at hr;subst hr;exact Kr rfl λ_=>⟨_,λd _=>by simp[execOp,ho,M3],Ce f⟩
 ·rename_i k t hx;split at hr
  ·grind
  ·grind
  ·obtain⟨b,c⟩:=KM h ht hx hr;exact Kr b λ_=>⟨_,λd _=>by simp[execOp,ho],c⟩
 ·cases hr
def ut(C:ML)(s:St)(tg:Yl)(o:Lb):Option I8:=
 match o.op with
 |.move x=>Tz C.τ s tg o.type x
 |.assign x=>match Ru C.τ s tg o.type x with
  |some r=>match r.moved with|false=>K1 r|true=>K2
  |none=>K2
 |.pick c x y=>KD C.τ s tg o.type c x y
 |.load e x=>Hq C.τ s tg e x
 |.binOp op e x y e2=>match C.τ e with
  |some (.pair _ _)|some (.arr _ _)=>AH C s tg op e x y
  |_=>Ex C.τ s tg op e x y e2
 |.unOp op e x=>Dy C.τ s tg op e x
 |.convert e e2 x=>SP C.τ s tg e e2 x
 |.nilCheck x=>UG s tg x
 |.fieldAddr e x i=>NT C.τ s tg e x i
 |.indexAddr e x i=>UI C.τ s tg e x i
 |.index e x i=>MT C.τ s tg e x i
 |.call {callee:=.builtin .len,args:=⟨[x]⟩,argTypes:=⟨[e]⟩}=>R8 C.τ s tg e x
 |.call {callee:=.builtin .min,args:=⟨[x,y]⟩,argTypes:=⟨[e,_]⟩}=>YF s tg e C.τ x y La
 |.call {callee:=.builtin .max,args:=⟨[x,y]⟩,argTypes:=⟨[e,_]⟩}=>YF s tg e C.τ x y K3
 |_=>K2
def SU(h:R n W0 w X F H s a)(ht:tg.ok W0.gh a)(hC:C.ok P g){r:I8}(hr:ut C s tg o=K1 r):cX P C.τ W0 w X F s a o r:=by
 unfold ut at hr;split at hr
 ·grind[IQ]
 ·grind[Z1i]
 ·grind[gV]
 ·rename_i b;exact rn h ht hC.τ b hr
 ·rename_i b;split at hr
  ·grind[En]
  ·grind[En]
  ·exact A6 h ht hC.τ b hr
 ·grind[JP]
 ·rename_i b;exact Ge h ht hC.τ b hr
 ·grind[Ic]
 ·rename_i b;exact IC h ht hC.τ b hr
 ·rename_i b;exact PJ h ht hC.τ b hr
 ·rename_i b;exact Tq h ht hC.τ b hr
 ·rename_i b;exact G7 h ht hC.τ b hr
 ·rename_i b;exact Dh h ht (mx:=La) b hr
 ·rename_i b;exact Dh h ht (mx:=K3) b hr
 ·cases hr
def jE{ρ:Type}(C:ML)(n:Nat)(ops:Array Lb)(o:Lb)(s:St)(k:St->Option ρ):Option ρ:=
 match o.guard with
 |none=>match ut C s [] o,o.dst with
  |some r,K1 d=>match Wa s d&&Li d n with
   |true=>A2 r.obl (k (Jb s d r.t))
   |false=>K2
  |_,_=>K2
 |some (j,b)=>match(ops[j]?).bind (·.dst),o.dst with
  |some g,K1 d=>match YO s 8 g b,Wa s d&&Li d n&&Li g 1048576 with
   |some tg,K3=>match ut C s tg o with
    |some r=>RQ s tg r.obl (k (Jb s d (.gd g b r.t)))
    |none=>K2
   |_,_=>K2
  |_,_=>K2
variable {ops:Array Lb}
def QF:Exit->Act->Le->Prop:=λ_ _ _=>False
def Qx8{o:Lb}{a:Act}{w:Le}(h:o.wp P a w K QF):o.wp P a w K Q:=by
 unfold Ln at*
 generalize (execOp a.eval o).run P w=r at*
 cases r with
 |ok n d=>
  cases n<;>simp only[Lu]at h⊢ <;>first
   |exact h
   |(
    refine L9.mono h λe f b=>?_;cases e with
    |returned v=>exact b
    |panicked c=>exact b.elim
    |outgrown=>obtain⟨_,_,h⟩:=b;exact h.elim)
 |halt x d=>cases x<;>simp only[Lu]at h⊢ <;>exact h.elim
def ur(P:Lh)(ops:Array Lb)(I:Le->Prop)(o:Lb)(v:K4)(a:Act):Prop:=(Lk o (yielded ops a.tmps)=K3/\ ∀w,I w->(execOp a.eval o).run P w=.ok (.value v) w)\/(Lk o (yielded ops a.tmps)=La/\v=undef)
def ur.same{o:Lb}{v:K4}{a:Act}(hy:ur P ops I o v a)(he:execOp a'.eval o=execOp a.eval o)
  (hw:Lk o (yielded ops a'.tmps)=Lk o (yielded ops a.tmps)):ur P ops I o v a':=by
 simp_all[ur]
def ur.go{o:Lb}{v:K4}{a:Act}{w:Le}{i:Nat}(hi:ops[i]? =K1 o)(hy:ur P ops I o v a)(hI:I w)(h:K (a.put o.dst v) w):
  wpOp P ops QF i K a w:=by
 unfold wpOp;simp only[hi];rcases hy with⟨b,hv⟩|⟨b,rfl⟩
 all_goals simp_all[if_true,Ln,Lu,Bool.false_eq_true,if_false]
def Qbj{v:K4}(hj:ops[j]? =K1 oj)(hap:oi.apart ops oj=K3)(hsi:∀cs b,oi.op≠ .select cs b)(hsj:∀cs b,oj.op≠ .select cs b)
  {a:Act}{w:Le} (hy:ur P ops I oi v a) (h:wpOp P ops QF j K (a.put oi.dst v) w):
  wpOp P ops QF j (λa' w'=>ur P ops I oi v a'/\K (a'.put oi.dst v) w') a w:=by
 obtain⟨i,p,k⟩:=N1 hap;have g:∀a:Act,ur P ops I oi v a-> ∀u,ur P ops I oi v (a.put oj.dst u):=λa hy u=>hy.same (execOp_put oi hsi a oj.dst u k) (wanted_put oi a oj.dst u k);unfold wpOp at*
 simp only[hj]at*
 rw[wanted_put oj a oi.dst v i]at h;split
 ·rename_i m;simp only[m,if_true]at h;rcases h with h|⟨_,_,_,h⟩
  ·refine .inl ?_;unfold Ln at*
   rw[execOp_put oj hsj a oi.dst v i]at h;generalize (execOp a.eval oj).run P w=r at*
   cases r with
   |ok n w'=>
    cases n<;>simp only[Lu]at h⊢
    case value u=>grind[Md]
    case skip=>grind[Md,undef]
    case defer d=>
     refine⟨g {a with defers:=d::a.defers} (hy.same rfl rfl) _,?_⟩
     grind[Md,undef,Act.put_defers]
    case enter f args=>
     refine L9.mono h λe o l=>?_;cases e with
     |returned u=>grind[Md]
     |panicked c=>exact l.elim
     |outgrown=>exact l
    grind[Rows.mono,Md]
   |halt x w'=>cases x<;>simp only[Lu]at h⊢ <;>exact h.elim
  ·exact h.elim
 grind[Md,undef]
def QT(C:ML):Op->Bool
 |.call {callee:=.value fo,..}=>match fo with
  |.func f=>match C.ΓB.find f with|some _=>La|none=>K3
  |_=>match C.ΓB with|[]=>K3|_::_=>La
 |_=>K3
def jG(C:ML)(op:Op):Bool:=A1 op&&QT C op
def Eu(C:ML)(ops:Array Lb)(i:Nat):Bool:=match ops[i]? with|some o=>jG C o.op|none=>K3
def Er(gh:Nat->K4)(bx:List Nat)(Sh:Nat->Prop)(a:Act)(w w':Le):Prop:= ∀b,(Sh b\/ ∃r∈bx,Qw gh a (.m r)=.pointer (K1 ⟨b,0,K2⟩))->w'.heap[b]? =w.heap[b]?
structure UO(gh:Nat->K4)(pr:Nat->Bool)(bx:Nat->List Nat)(Sh:Nat->Prop)(i:Nat)(a:Act)(w w':Le):Prop where
 pres:pr i=K3->Bq w w'
 hold:Er gh (bx i) Sh a w w'
def Pb(gh:Nat->K4)(ops:Array Lb)(i:Nat)(a a':Act):Prop:= ∀k,(ops[i]?).bind (·.dst)≠K1 k->Qw gh a' (.m k)=Qw gh a (.m k)
theorem P5{a:Act}{d:Option Nat}{v:K4}(h:d≠K1 k):Qw gh (a.put d v) (.m k)=Qw gh a (.m k):=by
 cases d with
 |none=>rfl
 |some d=>grind[dh,A4.t]
def Qj5{i:Nat}{a:Act}{w:Le}(h:wpOp P ops QF i K a w):wpOp P ops QF i (λa' w'=>Pb gh ops i a a'/\K a' w') a w:=by
 unfold wpOp at*
 split
 ·rename_i b;simp only[b]at h;exact⟨λ_ _=>rfl,h⟩
 ·rename_i o b;have c:∀v,Pb gh ops i a (a.put o.dst v):=λv k hk=>P5 Af;simp only[b]at h;split
  ·rename_i e;simp only[e,if_true]at h;rcases h with h|⟨_,_,_,h⟩
   ·refine .inl ?_;unfold Ln at*
    generalize (execOp a.eval o).run P w=r at*
    cases r with
    |ok n w'=>
     cases n<;>simp only[Lu]at h⊢
     case value u=>simp_all
     case skip=>simp_all
     case defer d=>exact⟨λk hk=>(P5 (a:={a with defers:=d::a.defers}) (d:=o.dst) Af).trans rfl,h⟩
     all_goals simp_all
    |halt x w'=>cases x<;>simp only[Lu]at h⊢ <;>exact h.elim
   ·exact h.elim
  simp_all
def sZ(ops:Array Lb):Nat->Nat->Nat->Bool
 |0,_,_=>La
 |f+1,j,i=>match ops[j]? with
  |some o=>o.after.any λe=>L7 .any e&&(Lf e.on i||sZ ops f e.on i)
  |none=>La
def SB(ops:Array Lb)(j:Nat):Bool:=(Nz ops.size).all λi=>Lf i j||sZ ops ops.size j i
def rW(ops:Array Lb)(listed:Array Bool):Prop:= ∀(m:Nat)(o:Lb),ops[m]? =K1 o->listed.getD m La=K3-> ∀e∈o.after,L7 .any e=K3->listed.getD e.on La=K3
def Qe6{i:Nat}(h:listed.getD k La=K3):(listed.setIfInBounds i K3).getD k La=true:=by
 by_cases hk:i=k
 ·subst hk;have:i<listed.size:=by
   grind
  simp_all
 simp_all
def Ix(h:rW ops listed){i:Nat}(hi:i∈L3 .any ops listed):rW ops (listed.setIfInBounds i K3):=by
 intro m o d b e f g;refine Qe6 ?_;obtain⟨_,k,j,c⟩:=mem_ready.1 hi;by_cases a:i=m
 ·simp_all
 ·rw[getD_set_ne La a]at b;exact h m o d b e f g
theorem CP{listed:Array Bool}(h:rW ops listed){i:Nat}:∀{f j:Nat},sZ ops f j i=K3->(∀o,ops[j]? =K1 o-> ∀e∈o.after,L7 .any e=K3->listed.getD e.on La=K3)->listed.getD i La=K3
 |0,_,a,_=>by cases a
 |f+1,j,a,b=>by
  simp only[sZ]at a;split at a
  ·rename_i o k;rw[Array.any_eq_true']at a;obtain⟨e,l,a⟩:=a;simp only[pC,M5]at a;have m:=b o k e l a.1;rcases a.2 with hd2|hd2
   ·grind[pD]
   ·exact CP h hd2 λn c p d g=>h e.on n c m p d g
  ·cases a
def OT(gh:Nat->K4)(P:Lh)(ops:Array Lb)(Qn:Act->Le->Prop)(pr:Nat->Bool)(bx:Nat->List Nat)(Sh:Nat->Prop):Nat->Array Bool->Act->Le->Prop|0,listed,a,w=>L3 .any ops listed=[]/\Qn a w|fuel+1,listed,a,w=>(L3 .any ops listed=[]->Qn a w)/\ ∀i∈L3 .any ops listed,wpOp P ops QF i (λa' w'=>(SB ops i=K3\/UO gh pr bx Sh i a w w')/\OT gh P ops Qn pr bx Sh fuel (listed.setIfInBounds i K3) a' w') a w
def Sz{Qn:Act->Le->Prop}{pr:Nat->Bool}{bx:Nat->List Nat}{Sh Sh':Nat->Prop}(hs:∀b,Sh b->Sh' b):∀(fuel:Nat)(listed:Array Bool)(a:Act)(w:Le),OT gh P ops Qn pr bx Sh' fuel listed a w->OT gh P ops Qn pr bx Sh fuel listed a w
 |0,_,_,_,h=>h
 |fuel+1,_,_,_,h=>⟨h.1,λi d=>wpOp_mono (λe f ⟨c,g⟩=>⟨c.imp id λc=>⟨c.pres,λb j=>c.hold b (j.imp (hs b) id)⟩,Sz hs fuel _ e f g⟩) (h.2 i d)⟩
def Fu{Qn:Act->Le->Prop}{pr:Nat->Bool}{bx:Nat->List Nat}{Sh:Nat->Prop}{Q:Exit->Act->Le->Prop}(hq:∀a w,Qn a w->Q .normal a w):∀(fuel:Nat)(listed:Array Bool)(a:Act)(w:Le),OT gh P ops Qn pr bx Sh fuel listed a w->wpAny P .any ops Q fuel listed a w
 |0,_,_,_,h=>⟨h.1,hq _ _ h.2⟩
 |fuel+1,listed,a,w,h=>⟨λc=>hq _ _ (h.1 c),λi d=>by
  have e:=h.2 i d;have b:wpOp P ops QF i (wpAny P .any ops Q fuel (listed.setIfInBounds i K3)) a w:=wpOp_mono (λf g h=>Fu hq fuel _ f g h.2) e;unfold wpOp at b⊢;split
  ·simp_all
  ·rename_i o j;simp only[j]at b;split
   ·rename_i k;simp only[k,if_true]at b;rcases b with b|⟨_,_,_,b⟩
    ·simp_all[Qx8]
    ·exact b.elim
   simp_all⟩
def Um{I:Le->Prop}{J:Act->Prop}{pr:Nat->Bool}{bx:Nat->List Nat}{Sh:Nat->Prop}{i:Nat}{oi:Lb}{v:K4}{Qn:Act->Le->Prop}(hi:ops[i]? =K1 oi)(hsel:∀(j:Nat)(o:Lb) cs b,ops[j]? =K1 o->o.op≠ .select cs b)
  (hdi:∀j,∀r∈bx j,oi.dst≠K1 r):
  ∀(fuel:Nat)(listed:Array Bool)(a:Act)(w:Le),rW ops listed->I w->J a->
   (∀j oj,ops[j]? =K1 oj->j≠i->listed.getD j K3=La->(∀e∈oj.after,L7 .any e=K3->e.on≠i)->oi.apart ops oj=K3/\ ∀a a' w w',J a->I w->UO gh pr bx Sh j a w w'->Pb gh ops j a a'->I w'/\J a')->
   i∈L3 .any ops listed->ur P ops I oi v a->
   OT gh P ops Qn pr bx Sh fuel (listed.setIfInBounds i K3) (a.put oi.dst v) w->OT gh P ops Qn pr bx Sh (fuel+1) listed a w
 |0,_,_,w,_,z,q,c,M,A,H=>by
  refine⟨λh=>Af,λj s=>?_⟩;by_cases d:j=i
  ·subst d;exact A.go hi z ⟨.inr ⟨λ_=>Bq.refl w,λ_ _=>rfl⟩,H⟩
  ·have:=ready_mono s d;rw[H.1]at this;cases this
 |fuel+1,listed,a,w,B,z,q,c,M,A,H=>by
  refine⟨λh=>Af,λj s=>?_⟩;by_cases d:j=i
  ·subst d;exact A.go hi z ⟨.inr ⟨λ_=>Bq.refl w,λ_ _=>rfl⟩,H⟩
  ·have C:=H.2 j (ready_mono s d);obtain⟨t,oj,m,N⟩:=mem_ready.1 s;have u:∀e∈oj.after,L7 .any e=K3->e.on≠i:=λe he O V=>by
    grind[mem_ready,Ly,Array.getElem?_eq_none]
   obtain⟨x,n⟩:=c j oj m d t u;obtain⟨Q,S,_⟩:=N1 x;have U:=Qbj m x (λcs b=>hsel i oi cs b hi) (λcs b=>hsel j oj cs b m) A C;have f:∀k y,ops[k]? =K1 y->k≠i->(listed.setIfInBounds j K3).getD k K3=La->(∀e∈y.after,L7 .any e=K3->e.on≠i)->
     oi.apart ops y=K3/\ ∀a a' w w',J a->I w->UO gh pr bx Sh k a w w'->Pb gh ops k a a'->I w'/\J a':=λk y hk D W E=>by
    refine c k y hk D ?_ E;by_cases X:j=k
    ·simp_all
    simp_all
   refine wpOp_mono (λa' w' ⟨p,F,g,Y⟩=>?_) (Qj5 (gh:=gh) U);have g:=g.resolve_left λG=>by
    unfold SB at G;rw[Lx]at G;have Z:=G i (Nw.2 (Array.getElem?_eq_some_iff.1 hi).1);simp only[M5]at Z
    grind[pD,CP,mem_ready,Ly,Array.getD_eq_getD_getElem?,Array.getElem?_eq_none]
   have l:UO gh pr bx Sh j a w w':=⟨g.pres,λb O=>g.hold b (O.imp id λ⟨r,C,U⟩=>⟨r,C,by grind[P5]⟩)⟩
   obtain⟨K,L⟩:=n a a' w w' q z l p;refine⟨.inr l,Um hi hsel hdi fuel (listed.setIfInBounds j K3) a' w' (Ix B s) K L f (ready_mono M (Lo d)) F ?_⟩
   grind[Array.setIfInBounds_comm]
theorem Bq.trans{a b c:Le}(h:Bq a b)(k:Bq b c):Bq a c:=λi d=>by
 have e:i<b.heap.size:=by
  have:=h i d
  grind
 rw[k i e,h i d]
def HX(C:ML)(ops:Array Lb)(listed:Array Bool)(any:Nat->Bool)(i:Nat):Bool:=
 (Nz ops.size).all λj=>Lf j i||listed.getD j K3||(match ops[i]?,ops[j]? with
  |some oi,K1 oj=>(oj.after.any λe=>L7 .any e&&Lf e.on i)||(oi.apart ops oj&&(any j||jG C oj.op))
  |_,_=>La)
def Qdp{C:ML}{any:Nat->Bool}{i:Nat}(h:HX C ops listed any i=K3)(hi:ops[i]? =K1 oi)(hj:ops[j]? =K1 oj)(hne:j≠i)(hl:listed.getD j K3=La)
  (hno:∀e∈oj.after,L7 .any e=K3->e.on≠i):oi.apart ops oj=K3/\(any j=K3\/jG C oj.op=K3):=by
 unfold HX at h;rw[Lx]at h;have:=h j (Nw.2 (Array.getElem?_eq_some_iff.1 hj).1);simp only[hi,hj,hl,Bool.or_false,M5,pC]at this;rcases this with h1|h1|h1
 ·simp_all
 ·rw[Array.any_eq_true']at h1;obtain⟨e,b,a⟩:=h1;simp only[pC]at a
  grind[absurd,pD]
 omega
def Quy(ops:Array Lb)(i:Nat):Bool:=
 match ops[i]? with
 |some o=>match o.op with
  |.move _|.assign _|.pick .. |.load .. |.binOp .. |.unOp .. |.convert .. |.nilCheck .. |.fieldAddr .. |.indexAddr .. |.index .. =>K3
  |.call {callee:=.builtin .len,..}|.call {callee:=.builtin .min,..}|.call {callee:=.builtin .max,..}=>K3
  |_=>La
 |none=>La
def qG(s:St)(o:Lb):Bool:=(match o.guard with|none=>K3|some _=>La)&&(match o.op with
 |.move (.tmp q)=>match s.get (.m q)with
  |.tup=>K3
  |_=>La
 |.extract _ _=>K3
 |_=>La)
def Qx4(s:St)(ops:Array Lb)(i:Nat):Bool:=match ops[i]? with|some o=>qG s o|none=>La
def Qw5(s:St)(ops:Array Lb)(i:Nat):Bool:=
 match ops[i]? with
 |some o=>match o.op with
  |.move (.tmp q)=>match s.get (.m q)with
   |.tup=>La
   |_=>K3
  |_=>K3
 |none=>La
def wW(τ:vJ)(bx:List Nat)(s:St)(o:Lb):Bool:=match LB τ o.op with
 |false=>K3
 |true=>match Rk s o.op with
  |some (K1 r)=>bx.any (Lf r)
  |some K2=>K3
  |none=>La
def If(s:St)(r:Nat):Bool:=match s.get (.m r)with|.box _ _ _ _=>K3|_=>La
theorem SZ{s:St}{r:Nat}(h:If s r=K3):s.isBox r:=by
 unfold If at h;split at h
 ·rename_i e T f x a;exact⟨e,T,f,x,a⟩
 ·cases h
def GR(τ:vJ)(s:St)(bx:List Nat)(o:Lb):Bool:=bx.all λr=>If s r&&(match O7 τ s o with|some q=> !(Lf q r)|none=>K3)
def IV(ops:Array Lb):Nat->Nat->Nat
 |0,k=>k
 |f+1,k=>match ops.toList.find? (λo=>match o.dst with|some d=>Lf d k|none=>La)with
  |some o=>match o.op with
   |.fieldAddr _ (.tmp j) _=>IV ops f j
   |.indexAddr _ (.tmp j) _=>IV ops f j
   |.move (.tmp j)=>IV ops f j
   |.nilCheck (.tmp j)=>IV ops f j
   |.call {callee:=.value _,args:=xs,..}=>match xs.toList with|.tmp j::_=>IV ops f j|_=>k
   |_=>k
  |none=>k
def HK(s:St)(ops:Array Lb):List Nat:=
 let bs:=s.env.filterMap λp=>match p.1,p.2 with
  |.m r,.box _ _ _ _=>ite (If s r) (K1 r) K2
  |_,_=>K2
 bs.filter λr=>ops.toList.all λo=>match o.dst with|some d=> !(Lf d r)|none=>K3
def Fh(s:St)(ops:Array Lb)(k:Nat):Nat:=match s.get (.m (IV ops ops.size k))with|.ptr r _=>r|.aep r _ _=>r|_=>IV ops ops.size k
def Qvf(s:St)(ops:Array Lb)(o:Lb):List Nat:=match o.op with
 |.store _ (.tmp k) _=>[Fh s ops k]
 |.call {callee:=.value _,args:=xs,..}=>xs.toList.filterMap λx=>match x with|.tmp k=>K1 (Fh s ops k)|_=>K2
 |_=>[]
def E2(s:St)(ops:Array Lb)(j:Nat):List Nat:=
 match ops[j]? with
 |some o=>(HK s ops).filter λr=> !((Qvf s ops o).any (Lf r))
 |none=>[]
def Qkv{s:St}{ops:Array Lb}{i r:Nat}{o:Lb}(hr:r∈E2 s ops i)(ho:ops[j]? =K1 o):o.dst≠K1 r:=by
 unfold E2 at hr;have hr:r∈HK s ops:=by
  grind
 unfold HK at hr;have:=(List.mem_filter.1 hr).2;rw[Lx]at this;have:=this o Ag;intro e;simp_all
def jj{ρ:Type}(m1 m2:Option ρ):Option ρ:=by classical exact ite (m1=m2) m1 K2
def Qc8{m1 m2:Option ρ}{r:ρ}(h:jj m1 m2=K1 r):m1=K1 r/\m2=K1 r:=by grind[jj]
def Yb(m:Option ρ):jj m m=m:=by simp[jj]
def jH{ρ:Type}:List (Option ρ)->Option ρ|[]=>K2|[m]=>m|m::n::r=>jj m (jH (n::r))
theorem Ie{ρ:Type}:∀{l:List (Option ρ)}{r:ρ},jH l=K1 r-> ∀m∈l,m=K1 r
 |[],r,h,m,hm=>by cases hm
 |[m],r,h,a,hm=>by simp only[Mk]at hm;subst hm;exact h
 |m::n::q,r,h,a,hm=>by
  simp only[jH]at h;obtain⟨b,c⟩:=Qc8 h;rcases Ma.1 hm with rfl|hm
  ·exact b
  ·exact Ie c a hm
def P7(C:ML)(s:St)(o:Lb):Option (Lg×Array Lc):=
 match C.soft,o.guard,o.op with
 |false,K2,.call {callee:=.value fo,args:=xs,..}=>match Dl s [] fo with
  |some f=>match C.ΓB.find f with
   |some _=>K1 (f,xs)
   |none=>K2
  |none=>K2
 |_,_,_=>K2
def AO:Tm->Bool|.val .. |.ptr .. |.shp .. =>K3|_=>La
def GK(g:Nat)(b:Bool):List Lc->St->St
 |[],s=>s
 |.tmp k::xs,s=>match s.get (.m k)with
  |.gd g' b' t=>match Lf g' g,b'==b,s.pN g,AO t with
   |true,K3,La,K3=>GK g b xs (KJ s k t)
   |_,_,_,_=>GK g b xs s
  |_=>GK g b xs s
 |_::xs,s=>GK g b xs s
def Qyv:RS->Option Ty|.vals [t]=>K1 t|.shr [t]=>K1 t|.flg [t]=>K1 t.1|_=>K2
def Sw(C:ML)(s:St)(ops:Array Lb)(o:Lb):Option (Nat×Bool×Nat×Lg×Array Lc):=
 match C.soft,o.guard,o.dst,o.op with
 |false,K1 (j,b),K1 d,.call {callee:=.value fo,args:=xs,..}=>match(ops[j]?).bind (·.dst),Dl s [] fo with
  |some g,K1 f=>match C.ΓB.find f with
   |some _=>K1 (g,b,d,f,xs)
   |none=>K2
  |_,_=>K2
 |_,_,_,_=>K2
def l9{ρ:Type}(C:ML)(n:Nat)(o:Lb)(s:St)(g:Nat)(b:Bool)(d:Nat)(f:Lg)(xs:Array Lc)(k:St->Option ρ):Option ρ:=
 match cu s (RO s [] (.tmp g)) .bool,s.pN g,((C.ΓB.find f).bind λe=>Qyv e.res),Wa s d&&Li d n with
 |some c,La,K1 T,K3=>match b with
  |true=>cond c (Fp C.ΓB n (GK g b xs.toList s) o.dst f xs.toList k) (k (Jb s d (.gd g b (.val T (.u .ow) (zero T)))))
  |false=>cond c (k (Jb s d (.gd g b (.val T (.u .ow) (zero T))))) (Fp C.ΓB n (GK g b xs.toList s) o.dst f xs.toList k)
 |_,_,_,_=>K2
def qZ{ρ:Type}(C:ML)(n:Nat)(ops:Array Lb)(bx:List Nat)(o:Lb)(s:St)(k:St->Option ρ):Option ρ:=
 match Sw C s ops o with
 |some (g,b,d,f,xs)=>match bx.all λr=>If s r&& !((CV C.ΓB (GK g b xs.toList s) f xs.toList).any (Lf r))with
  |true=>l9 C n o s g b d f xs k
  |false=>K2
 |none=>match P7 C s o with
 |some (f,xs)=>match bx.all λr=>If s r&& !((CV C.ΓB s f xs.toList).any (Lf r))with
  |true=>Fp C.ΓB n s o.dst f xs.toList k
  |false=>K2
 |none=>match GR C.τ s bx o with
  |true=>Sd C n ops o s k
  |false=>K2
def Ca(C:ML)(s:St)(o:Lb):Option (oq×List Tm):=
 match o.guard,o.op with
 |none,.call {callee:=.value fo,args:=xs,argTypes:=ats}=>match RO s [] fo with
  |.tm _ (.cl f l)=>match C.inl.find f,AM C.τ s xs.toList ats.toList with
   |some E,K1 ts=>K1 (E,ts++l.map λq=>.ptr q [])
   |_,_=>K2
  |_=>match Dl s [] fo with
   |some f=>match C.inl.find f,AM C.τ s xs.toList ats.toList with
    |some E,K1 ts=>K1 (E,ts)
    |_,_=>K2
   |none=>K2
 |_,_=>K2
def DX{ρ:Type}(C:ML)(n:Nat)(ops:Array Lb)(bx:Nat->List Nat):Nat->Array Bool->St->(St->Option ρ)->Option ρ
 |0,listed,s,k=>match L3 .any ops listed with
  |[]=>k (Zj6 s)
  |_::_=>K2
 |f+1,listed,s,k=>match L3 .any ops listed with
  |[]=>k (Zj6 s)
  |[i]=>match ops[i]? with
   |some o=>match Ca C s o,L3 .any ops (listed.setIfInBounds i K3),SB ops i with
    |some (E,ts),[],K3=>Dv C.τ n s o.dst E ts λs'=>k (Zj6 s')
    |_,_,_=>qZ C n ops (bx i) o s λs'=>DX C n ops bx f (listed.setIfInBounds i K3) s' k
   |none=>K2
  |i::j::rs=>match(i::j::rs).find? (λi=>((Quy ops i&&Qw5 s ops i)||Qx4 s ops i)&&(match ops[i]? with|some o=>HX C ops listed (λj=>wW C.τ (bx j) s o) i|none=>La))with
   |some i=>match ops[i]? with
    |some o=>match qG s o with
     |true=>Sd C n ops o s λs'=>DX C n ops bx f (listed.setIfInBounds i K3) s' k
     |false=>jE C n ops o s λs'=>DX C n ops bx f (listed.setIfInBounds i K3) s' k
    |none=>K2
   |none=>jH ((i::j::rs).map λi=>match ops[i]? with
    |some o=>qZ C n ops (bx i) o s λs'=>DX C n ops bx f (listed.setIfInBounds i K3) s' k
    |none=>K2)
def MR(hC:C.ok P g)(h:R n W0 w X F H s a){E:oq}(hi:Ca C s o=K1 (E,ts)):
  o.guard=K2/\Y2 P g E/\ ∃vs:List K4,ts.length=vs.length/\(∀(i:Nat) t,ts[i]? =K1 t-> ∃v,vs[i]? =K1 v/\vt W0.gh w X W0.B s F a v [] t)/\(execOp a.eval o).run P w=.ok (.enter E.f vs.toArray) w:=by
 unfold Ca at hi;split at hi
 ·rename_i M e z r N;split at hi
  ·rename_i k f l hx;split at hi
   ·rename_i j d m c;simp only[pB,pF]at hi;obtain⟨rfl,rfl⟩:=hi;obtain⟨rfl,b⟩:=qM.find_ok hC.inl m;obtain⟨_,_,x,O,A,D⟩:=Ji h aO hx Ac;obtain⟨p,y⟩:=xn h c;refine⟨r,b,e.toList.map a.eval++x,by simp[p,A],λi t hi=>?_,?_⟩
    ·rcases Ly i d.length with G|hge
     ·grind
     ·rw[Mo hge]at hi;simp only[Nb,Mz]at hi;obtain⟨q,I,rfl⟩:=hi;obtain⟨u,Q,J⟩:=D _ q I;exact⟨u,Ag,rfl,J⟩
    ·have:execOp a.eval o=callFunc j.f (e.map a.eval++x.toArray):=by
      simp_all[execOp,resolve,L4,invoke]
     rw[this,b.enters];simp_all
   ·cases hi
  ·split at hi
   ·rename_i f K;split at hi
    ·rename_i j d m c;simp only[pB,pF]at hi;obtain⟨rfl,rfl⟩:=hi;obtain⟨rfl,b⟩:=qM.find_ok hC.inl m;have L:=q7 h aO K;obtain⟨p,y⟩:=xn h c;refine⟨r,b,e.toList.map a.eval,by simp[p],y,?_⟩;have:execOp a.eval o=callFunc j.f (e.map a.eval):=by
      simp_all[execOp,resolve,L4,invoke]
     rw[this,b.enters];congr 2
     grind
    ·cases hi
   ·cases hi
 ·cases hi
theorem Z5m(hC:C.ok P g)(h:R n W0 w X F [] s a){k:St->Option ρ}{r:ρ}(hs:jE C n ops o s k=K1 r):
  ∃v F' s',k s'=K1 r/\R n W0 w X F' [] s' (a.put o.dst v)/\ur P ops (Ra W0.gh C.τ X s a o w) o v a:=by
 unfold jE at hs;split at hs
 ·rename_i u;split at hs
  ·rename_i G d hv t;split at hs
   ·rename_i c;simp only[pC,Lp]at c;rw[PG]at hs;obtain⟨_,x⟩:=SU h aO hC hv;obtain⟨v,y,z⟩:=x hs.1;refine⟨v,Q6 F (.m d) [],_,hs.2,?_,.inl ⟨by simp[Lk,u],y⟩⟩;rw[t];exact(by simpa using h:R n W0 w X F ([]++[]) s a).put c.1 c.2 z
   ·cases hs
  ·cases hs
 ·rename_i j b u;split at hs
  ·rename_i g d H t;split at hs
   ·rename_i I f c;have i:Li g 1048576=true:=Af
    simp only[pC,Lp]at c
    replace c:=c.1
    have l:=AC f;split at hs
    ·rename_i G hv;obtain⟨hk,A⟩:=B0 h hs;by_cases p:Qw W0.gh a (.m g)=.bool b
     ·have D:=MY h f p;have E:g<a.tmps.size:=by
       have e:a.tmps.getD g undef=.bool b:=(Y4 W0 a i).symm.trans p;rcases Ly g a.tmps.size with h'|h'
       ·exact h'
       ·rw[Array.getD_eq_getD_getElem?,Array.getElem?_eq_none h']at e;cases e
      have q:Lk o (yielded ops a.tmps)=true:=by
       have e:a.tmps[g]? =K1 (.bool b):=by
        have e:a.tmps.getD g undef=.bool b:=(Y4 W0 a i).symm.trans p;simp_all
       simp_all[Lk,yielded]
      obtain⟨_,x⟩:=SU h D hC hv;obtain⟨v,y,z⟩:=x (A D);refine⟨v,Q6 F (.m d) [],_,hk,?_,.inl ⟨q,y⟩⟩;rw[t];exact(by simpa using h:R n W0 w X F ([]++[]) s a).put c.1 c.2 λ_=>⟨l,λ_=>z,λB=>absurd p B⟩
     ·have q:Lk o (yielded ops a.tmps)=false:=by
       apply Bool.eq_false_iff.2;intro q;simp only[Lk,u,yielded,H,pA,beq_iff_eq]at q
       grind[pB,Qw,uI]
      refine⟨undef,Q6 F (.m d) [],_,hk,?_,.inr ⟨q,rfl⟩⟩;rw[t];exact(by simpa using h:R n W0 w X F ([]++[]) s a).put (S:=[]) c.1 c.2 λ_=>⟨l,λe=>absurd e p,λ_=>⟨rfl,rfl⟩⟩
    ·cases hs
   ·cases hs
  ·cases hs
def Qcw(hC:C.ok P g)(h:R n W0 w X F [] s a)(ht:qG s o=K3){k:St->Option ρ}{r:ρ}(hs:Sd C n ops o s k=K1 r)(I:Le->Prop):
  ∃v X' F' s',k s'=K1 r/\(∀b,X b->X' b)/\R n W0 w X' F' [] s' (a.put o.dst v)/\ur P ops I o v a:=by
 have c:=gY (Q:=QF) hC h hs (K:=λp e=> ∃X' F' s',k s'=K1 r/\(∀b,X b->X' b)/\R n W0 e X' F' [] s' p) λe p X' F' s' hk u y=>⟨X',F',s',hk,y.more,u⟩
 unfold qG at ht;rw[pC]at ht;obtain⟨B,t⟩:=ht;have z:o.guard=none:=by
  grind
 have f:Lk o (yielded ops a.tmps)=true:=by simp[Lk,z]
 rw[if_pos f]at c;unfold Ln at c;split at t
 ·rename_i q d;simp only[execOp,d,Mc,Lu]at c;obtain⟨X',F',s',j,l,m⟩:=c;exact⟨_,X',F',s',j,l,m,.inl ⟨f,λe _=>by simp[execOp,d]⟩⟩
 ·rename_i x i d;cases hx:a.eval x with
  |tuple A=>
   cases hu:A[i]? with
   |none=>simp_all[execOp,Ms,Lu]
   |some v=>
    simp only[execOp,d,Ms,hx,hu,Lu]at c;obtain⟨X',F',s',j,l,m⟩:=c;exact⟨v,X',F',s',j,l,m,.inl ⟨f,λe _=>by simp_all[execOp,Ms]⟩⟩
  |_=>simp[execOp,d,Ms,hx,Lu]at c
 ·cases t
def Qia{bx:List Nat}{o:Lb}(hb:GR C.τ s bx o=K3)(hS:∀b,Sh b->X b)(hf:RN W0.gh C o X X' s a a' w w'):Er W0.gh bx Sh a w w':=by intro b c;refine hf.kept b (c.imp (hS b) λ⟨r,f,g⟩=>?_);unfold GR at hb;rw[Lx]at hb;have d:=hb r f;simp only[pC]at d;refine⟨r,SZ d.1,?_,g⟩;intro e;simp_all
def R.ungd1(h:R n W0 w X F H s a){g':Nat}{t:Tm}(hg:s.get (.m k)=.gd g' b t)(hf:s.pN g'=La)(hb:Qw W0.gh a (.m g')=.bool b)(ht:AO t=K3):R n W0 w X F H (KJ s k t) a:=by
 have l:=h.slots (.m k);rw[hg]at l;obtain⟨_,o,_⟩:=l hf;have q:=o hb;have r:Q6 F (.m k) (F (.m k))=F:=by
  grind
 have f:Td W0.gh w w s (KJ s k t) F (Q6 F (.m k) (F (.m k))) a k t:=wq ⟨by grind[Kn,AO],λp v U hv=>by
  simp_all[X4]⟩
 have c:∀{u:Tm}{v:K4}{S:List Nat},vt W0.gh w X W0.B s F a v S u->vt W0.gh w X W0.B (KJ s k t) F a v S u:=λ{u v S} x=>by
  have:=RE f (λ_ h=>h) (λ_ _=>rfl) (λ_ _ _ _=>rfl) (λ_ _=>rfl) (λe z A C b S hb=>Af) x;simp_all
 exact
 {h with
  pM:=λd i g=>by
   rw[Kn]at g⊢;simp only[reduceCtorEq,if_false]at g;obtain⟨o,q⟩:=h.pM d i g
   grind
  slots:=λj=>by
   by_cases y:j=.m k
   ·simp_all[Kn,if_true]
   ·rw[Kn];simp only[Lo y,if_false];exact c (h.slots j)}
def GN{g':Nat}{b:Bool}(hb:Qw W0.gh a (.m g')=.bool b):∀{xs:List Lc}{s:St},R n W0 w X F H s a->R n W0 w X F H (GK g' b xs s) a
 |[],s,h=>h
 |x::xs,s,h=>by
  cases x with
  |tmp k=>
   simp only[GK];split
   ·rename_i j e t f;split
    ·rename_i c d g i;have c:=pD c;subst c;have d:e=b:=by simpa using d
     subst d;exact GN hb (h.ungd1 f g hb i)
    ·exact GN hb h
   ·exact GN hb h
  |_=>exact GN (xs:=xs) hb h
def CK{g':Nat}{b:Bool}{r:Nat}:∀{xs:List Lc}{s:St},s.isBox r->(GK g' b xs s).isBox r
 |[],s,h=>h
 |x::xs,s,h=>by
  cases x with
  |tmp k=>
   simp only[GK];split
   ·rename_i a c t d;split
    ·refine CK ?_;obtain⟨e,T,f,y,g⟩:=h;refine⟨e,T,f,y,?_⟩;rw[Kn,if_neg]
     all_goals grind
    ·exact CK h
   ·exact CK h
  |_=>exact CK (xs:=xs) h
def LV(hC:C.ok P g){ops:Array Lb}(h:R n W0 w X F [] s a){gs:Nat}{f:Lg}(hg:Sw C s ops o=K1 (gs,b,d,f,xs)){k:St->Option ρ}{r:ρ}(hs:l9 C n o s gs b d f xs k=K1 r)
   (hK:∀v w' X' F' s',k s'=K1 r->R n W0 w' X' F' [] s' (a.put o.dst v)->(∀b,X b->X' b)->DN W0.gh X s a (CV C.ΓB (GK gs b xs.toList s) f xs.toList) w w'->K (a.put o.dst v) w'):ite (Lk o (yielded ops a.tmps)) (o.wp P a w K Q) (K (a.put o.dst undef) w):=by
 unfold Sw at hg;split at hg
 ·rename_i j x M fo y N B O H U;split at hg
  ·rename_i i V hj W;split at hg
   ·simp only[pB,pF]at hg;obtain⟨rfl,rfl,rfl,rfl,rfl⟩:=hg;unfold l9 at hs;split at hs
    ·rename_i c T z Y hT p;simp only[pC,Lp]at p;have hv:Qw W0.gh a (.m i)=.bool c:=(Y4 W0 a (DF z)).trans (rm h aO z);have D:s.get (.m i)≠ .pR:=by
      intro e;have Z:=DF z;simp_all[RO,DB,cu,xK]
     have I:i<a.tmps.size:=by
      have l:a.tmps.getD i undef=.bool c:=rm h aO z;rcases Ly i a.tmps.size with h'|h'
      ·exact h'
      ·rw[Array.getD_eq_getD_getElem?,Array.getElem?_eq_none h']at l;cases l
     have l:a.tmps[i]? =K1 (.bool c):=by
      have l:a.tmps.getD i undef=.bool c:=rm h aO z;simp_all
     have J:Lk o (yielded ops a.tmps)=(c==x):=by
      simp_all[Lk,yielded]
     have ab:c=x->Fp C.ΓB n (GK i x y.toList s) o.dst V y.toList k=K1 r->ite (Lk o (yielded ops a.tmps)) (o.wp P a w K Q) (K (a.put o.dst undef) w):=by
      intro e q;rw[J,if_pos (by simp[e])];exact P6 (hC.soft.trans B) hC.ΓB (GN (by rw[hv,e]) h) (q7 h aO W) U q λv w' X' F' s' hk hR E G=>hK v w' X' F' s' hk hR E λb L=>G b (L.imp id λ⟨r,h1,h2,h3⟩=>⟨r,CK h1,h2,h3⟩)
     have no:c≠x->k (Jb s M (.gd i x (.val T (.u .ow) (zero T))))=K1 r->ite (Lk o (yielded ops a.tmps)) (o.wp P a w K Q) (K (a.put o.dst undef) w):=by
      intro e hk;rw[J,if_neg (by simp[e]),H];have A:=(by simpa using h:R n W0 w X F ([]++[]) s a).put (S:=[]) (t:=.gd i x (.val T (.u .ow) (zero T))) (v:=undef) p.1 p.2 λ_=>⟨D,λL=>Af,λ_=>⟨rfl,rfl⟩⟩
      have:=hK undef w X _ _ hk (by rw[H];exact A) (λ_ h=>h) (λ_ _=>rfl);simp_all
     grind
    ·cases hs
   ·cases hg
  ·cases hg
 ·cases hg
def Qcp(hC:C.ok P g)(h:R n W0 w X F [] s a){bx:List Nat}(hS:∀b,Sh b->X b){k:St->Option ρ}{r:ρ}(hs:qZ C n ops bx o s k=K1 r)
  (hK:∀w' a' X' F' s',k s'=K1 r->R n W0 w' X' F' [] s' a'->(∀b,X b->X' b)->(jG C o.op=K3->Bq w w')->Er W0.gh bx Sh a w w'->K a' w'):ite (Lk o (yielded ops a.tmps)) (o.wp P a w K Q) (K (a.put o.dst undef) w):=by
 unfold qZ at hs;split at hs
 ·rename_i Y b d f O e;split at hs
  ·rename_i i;refine LV hC h e hs λv w' X' F' s' hk y q t=>hK w' _ X' F' s' hk y q (λx=>?_) λb u=>t b ?_
   ·exfalso;unfold Sw at e;split at e
    ·rename_i j Z d' B D E z N S A;split at e
     ·rename_i g' G hj p;split at e
      ·rename_i U c;simp only[jG,A,QT,pC]at x;have l:=x.2;have nil:(match C.ΓB with|[]=>K3|_::_=>La)=K3->False:=λV=>by
        cases hg2:C.ΓB with
        |nil=>rw[hg2]at c;cases c
        |cons _ _=>simp_all
       cases B with
       |func H=>
        have I:K1 H=K1 G:=p;simp_all
       |const v=>exact nil l
       |tmp k=>exact nil l
       |global g=>exact nil l
      ·cases e
     ·cases e
    ·cases e
   ·refine u.imp (hS b) λ⟨r,J,W⟩=>?_;rw[Lx]at i;have L:=i r J;simp only[pC,Lq]at L
    grind[SZ,JT]
  ·cases hs
 split at hs
 ·rename_i f O m;split at hs
  ·rename_i i;unfold P7 at m;split at m
   ·rename_i B D E z N A;split at m
    ·rename_i G p;split at m
     ·rename_i U c;simp only[pB,pF]at m;obtain⟨rfl,rfl⟩:=m;rw[if_pos (by simp[Lk,N])];refine P6 (hC.soft.trans z) hC.ΓB h (q7 h aO p) A hs λv w' X' F' s' hk y q t=>hK w' _ X' F' s' hk y q (λx=>?_) λb u=>t b ?_
      ·exfalso;simp only[jG,A,QT,pC]at x;have l:=x.2;have nil:(match C.ΓB with|[]=>K3|_::_=>La)=K3->False:=λV=>by
        cases hg2:C.ΓB with
        |nil=>rw[hg2]at c;cases c
        |cons _ _=>simp_all
       cases B with
       |func H=>
        have I:K1 H=K1 G:=p;simp_all
       |const v=>exact nil l
       |tmp k=>exact nil l
       |global g=>exact nil l
      ·refine u.imp (hS b) λ⟨r,J,W⟩=>?_;rw[Lx]at i;have L:=i r J;simp only[pC,Lq]at L
       grind[SZ,JT]
     ·cases m
    ·cases m
   ·cases m
  ·cases hs
 ·split at hs
  ·rename_i M;exact gY (Q:=Q) hC h hs λw' a' X' F' s' hk y p=>hK w' a' X' F' s' hk y p.more (λx=>p.pres (by simp_all[jG,pC])) (Qia M hS p)
  ·cases hs
def NL{ρ:Type}(hC:C.ok P g)(hsel:∀(j:Nat)(o:Lb) cs b,ops[j]? =K1 o->o.op≠ .select cs b){bx:Nat->List Nat}(hbd:∀i,∀r∈bx i,∀(j:Nat) o,ops[j]? =K1 o->o.dst≠K1 r){k:St->Option ρ}{r:ρ}{Qn:Act->Le->Prop}
  (hK:∀w' a' X' F' s',k s'=K1 r->R n W0 w' X' F' [] s' a'->Qn a' w'):
  ∀{f:Nat}{listed:Array Bool}{s:St}{w:Le}{X:Nat->Prop}{Sh:Nat->Prop}{F:A4->List Nat}{a:Act},rW ops listed->R n W0 w X F [] s a->(∀b,Sh b->X b)->DX C n ops bx f listed s k=K1 r->OT W0.gh P ops Qn (Eu C ops) bx Sh f listed a w
 |0,listed,s,w,X,Sh,F,a,_,h,V,d=>by
  simp only[DX]at d;split at d
  ·rename_i p;obtain⟨F',M⟩:=h.clean;exact⟨p,hK w a X F' _ d M⟩
  ·cases d
 |f+1,listed,s,w,X,Sh,F,a,D,h,V,d=>by
  have a3:∀e o,ops[e]? =K1 o->e∈L3 .any ops listed->(qZ C n ops (bx e) o s λs'=>DX C n ops bx f (listed.setIfInBounds e K3) s' k)=K1 r->
    wpOp P ops QF e (λa' w'=>(SB ops e=K3\/UO W0.gh (Eu C ops) bx Sh e a w w')/\OT W0.gh P ops Qn (Eu C ops) bx Sh f (listed.setIfInBounds e K3) a' w') a w:=by
   intro e o A N d;unfold wpOp;simp only[A];have:=Qcp (Q:=QF) hC h V d (K:=λa' w'=>(SB ops e=K3\/UO W0.gh (Eu C ops) bx Sh e a w w')/\OT W0.gh P ops Qn (Eu C ops) bx Sh f (listed.setIfInBounds e K3) a' w')
    (λw' a' X' F' s' hk O G W H=>⟨.inr ⟨by simp_all[Eu],H⟩,NL hC hsel hbd hK (Ix D N) O (λb t=>G b (V b t)) hk⟩)
   grind
  simp only[DX]at d;split at d
  ·rename_i p;obtain⟨F',M⟩:=h.clean;exact⟨λ_=>hK w a X F' _ d M,λi B=>Af⟩
  ·rename_i i p;refine⟨λhn=>Af,λe B=>?_⟩;rw[p]at B;simp only[Mk]at B;subst B;split at d
   ·rename_i o A;split at d
    ·rename_i E ts B S Y;obtain⟨hg,hE,vs,Z,h2,h3⟩:=MR hC h B;unfold wpOp;simp only[A];rw[if_pos (by simp[Lk,hg])];refine .inl (H6 hC.τ hE h Z h2 h3 d λv w' X' F' s' hk O=>⟨.inl Y,?_⟩);obtain⟨F2,M⟩:=O.clean;cases f with
     |zero=>exact⟨S,hK w' _ X' F2 _ hk M⟩
     |succ f=>exact⟨λ_=>hK w' _ X' F2 _ hk M,λi B=>Af⟩
    grind
   ·cases d
  ·rename_i p;split at d
   ·rename_i i u;have x:=Nv u;have c:=Nr u;simp only[pC]at c;have c:=c.2;rw[<-p]at x;split at d
    ·rename_i o A;simp only[A]at c;obtain⟨v,X',F',s',hk,ab,O,hy⟩:∃v X' F' s',DX C n ops bx f (listed.setIfInBounds i K3) s' k=K1 r/\(∀b,X b->X' b)/\R n W0 w X' F' [] s' (a.put o.dst v)/\ur P ops (Ra W0.gh C.τ X s a o w) o v a:=by
      split at d
      ·rename_i ad;exact Qcw hC h ad d _
      grind[Z5m]
     refine Sz V _ _ _ _ ?_;refine Um (I:=Ra W0.gh C.τ X s a o w) (J:=λa'=> ∀j,∀q∈bx j,Qw W0.gh a' (.m q)=Qw W0.gh a (.m q)) A hsel (λj q y=>hbd j q y i o A) f listed a w D (Ra.refl _ _ _ _ _ _ _) (λ_ _ _=>rfl) (λj oj hj ar l au=>?_) x hy
      (NL hC hsel hbd hK (Ix D x) O ab hk)
     obtain⟨Z,h2⟩:=Qdp c A hj ar l au;refine⟨Z,λa1 a2 w1 w2 hJ z L hp=>⟨λhm=>?_,λj' q y=>?_⟩⟩
     ·have z:=z hm;rcases h2 with h2|h2
      ·unfold wW at h2;rw[hm]at h2;simp only at h2;split at h2
       ·rename_i q y;simp only[y]at z⊢;have a0:q∈bx j:=by
         simp_all
        exact λb l t=>(L.hold b (.inr ⟨q,a0,Ag⟩)).trans (z b l t)
       ·rename_i y;simp only[y]at z⊢;exact λb l t=>(L.hold b (.inl t)).trans (z b l t)
       ·cases h2
      ·have hold:=L.pres (by simp_all[Eu]);have U:∀b,b<w.heap.size->w1.heap[b]? =w.heap[b]?->b<w1.heap.size:=λb l he=>by
        grind
       split at z
       ·rename_i q y
        try simp only[y]
        exact λb l t=>(hold b (U b l (z b l t))).trans (z b l t)
       ·rename_i y
        try simp only[y]
        exact λb l t=>(hold b (U b l (z b l t))).trans (z b l t)
       grind[Bq.trans]
     ·rw[hp q Ag];exact hJ j' q y
    ·cases d
   ·refine⟨λhn=>Af,λe B=>?_⟩
    grind[Ie,List.mem_map_of_mem]
def B8:List Nat->List Nat->Bool
 |[],[]=>K3
 |x::xs,y::ys=>match Lf x y with|true=>B8 xs ys|false=>La
 |_,_=>La
theorem zS:∀{p q:List Nat},B8 p q=K3->p=q
 |[],[],_=>rfl
 |x::b,y::c,h=>by
  simp only[B8]at h;split at h
  ·rename_i a;rw[pD a,zS h]
  ·cases h
 |[],_::_,h=>by simp[B8]at h
 |_::_,[],h=>by simp[B8]at h
def LC{α:Type}(l:List α)(i j ib:Int):Option (List α):=Ze (0<=i/\i<l.length/\j=i+1/\ib=i) (K1 (l.take i.toNat++l.drop (i.toNat+1)))
def P3{ρ:Type}(n:Nat)(s:St)(k0:Nat)(e':Ld)(t:Ty)(xs:List Lc)(dst:Option Nat)(k:St->Option ρ):Option ρ:=
 match xs,dst with
 |[x,y,z],K1 d=>match s.get (.m k0),RO s [] x with
  |.bel r p ib q,.tm _ (.bor r' p')=>match Lf r r'&&B8 p p'&& !(s.bad r p)&& !(s.pN (om r))&& !(Lf r k0),xB s (RO s [] x) (.slice e' t),uH s (RO s [] y),uH s (RO s [] z)with
   |true,K1 ⟨.slice e1 t1,.u .ow,l,s1,_⟩,K1 (.i64,i),K1 (.i64,j)=>match Lz (e1=e'/\t1=t),ap t1 (l.getD ib.toNat (zero t1)) q with
    |true,K1 y=>match Wa (Y7 s1 k0 (.val y.1 (.u .ow) y.2)) d&&Li d n&& !(Lf d k0)with
     |true=>(LC l i j ib).bind λl'=>k (Jb (Y7 s1 k0 (.val y.1 (.u .ow) y.2)) d (.val (.slice e1 t1) (.u .ow) l'))
     |false=>K2
    |_,_=>K2
   |_,_,_,_=>K2
  |_,_=>K2
 |_,_=>K2
def Qj3{r:Nat}{p:List Nat}{v v2:K4}{U U2:Ty}(h:X4 gh w s F a r p v U)(h2:X4 gh w s F a r p v2 U2):v=v2:=by
 unfold X4 at h h2;generalize s.get (.m r)=t at h h2;cases t<;>simp only at h h2
 all_goals grind
def Qj0{o:TB}{T:Ty}{u:EJ}(hk:xB s o T=K1 u)(ho:∀v,o≠ .cst v):xK s o=K1 ⟨u.T,u.f,u.x⟩:=by
 unfold xB at hk;split at hk
 ·simp_all
 grind[ER]
def Qcu{o:Lc}{T:Ty}{u:EJ}(hk:xB s (RO s [] o) T=K1 u){r:Nat}{p:List Nat}(hne:r≠k)(hx:RO s [] o=.tm kx (.bor r p)):u.s.get (.m k)=s.get (.m k):=by
 rw[hx]at hk
 grind[Ye,xB,ER]
def Qd6{r:Nat}{p:List Nat}(h:s.bad r p=La):xK s (.tm k (.bor r p))=Cm s r p:=by simp_all[xK,Cm]
def Qik{f:Lg}{t:Ty}(hd:Sn P f e' t)(h:R n W0 w X F [] s a)(hfo:a.eval fo=.func (.func f) #[] #[])(ho:o.op=.call {callee:=.value fo,args:=xs,argTypes:=ats})
  {k0:Nat}{k:St->Option ρ}{r:ρ} (hr:P3 n s k0 e' t xs.toList o.dst k=K1 r)
   (hK:∀v w' X' F' s',k s'=K1 r->R n W0 w' X' F' [] s' (a.put o.dst v)->K (a.put o.dst v) w'):o.wp P a w K Q:=by
 unfold P3 at hr;split at hr
 case h_2=>cases hr
 rename_i x y z d ew em;split at hr
 case h_2=>cases hr
 rename_i rt p ib q kx r' p' a3 hx;split at hr
 case h_2=>cases hr
 rename_i e1 J l s1 mv i j c Z hi hj;simp only[pC,Lq]at c;obtain⟨⟨⟨⟨c5,c6⟩,ab⟩,c7⟩,ex⟩:=c;obtain rfl:=pD c5;obtain rfl:=zS c6;split at hr
 case h_2=>cases hr
 rename_i yv a4 hy;obtain⟨rfl,rfl⟩:=pE a4;split at hr
 case h_2=>cases hr
 rename_i a5;simp only[pC,Lq,Lp]at a5;obtain⟨⟨a6,a7⟩,eq⟩:=a5;rw[Lv]at hr;obtain⟨l',C,hk⟩:=hr;unfold LC at C;rw[kl]at C;obtain⟨⟨g0,g1,g2,g3⟩,C⟩:=C;simp only[pB]at C;subst g2;subst g3;have g0:(0:Int)<=ib:=g0;have g1:ib<((Mi l:Nat):Int):=g1;obtain⟨m,rfl⟩:∃m:Nat,ib=m:=⟨ib.toNat,Aa⟩
 have I:m<l.length:=Aa
 simp only[Nn]at C hy
 have a8:=h.slots (.m k0);rw[a3]at a8;obtain⟨e3,be⟩:=a8;obtain⟨e2,t2,ad,n2,V,x0,y0,cs,b1,b2,b3,b4,b5,b6,b7,b8⟩:=be ab c7;obtain⟨_,c8⟩:=Ji h (tg:=[]) (λp hp=>by cases hp) hx Ac;obtain⟨_,bl⟩:=c8;obtain⟨U,c9⟩:=bl ab;have dc:=Qj3 c9 b1
 obtain⟨_,F1,S,vs,q1,q2,A,q4,_⟩:=cP h (tg:=[]) (λp hp=>by cases hp) Z;simp only at q1 q2 A;unfold Pr at q2;obtain⟨v,xv,g,S2,rfl,rfl,⟨D,bx⟩,N⟩:=q2;have q1:a.eval x=v:=q1;rw[dc]at q1;subst q1;have hh:ep w X W0.B .ow e1 J.size (Mi l) (.slice (K1 ad) n2 V) xv g:=⟨D,bx⟩
 obtain⟨a0,er,b0,e5,_,hc⟩:=aw hh;simp only[N4]at b0;obtain⟨rfl,rfl,rfl⟩:=b0;rcases hc with⟨e0,_⟩|⟨e6,e0,_,hc⟩
 ·cases e0
 simp only[pB]at e0;subst e0;have dk:∀x v S,rd w X W0.B .ow J x v S->v.length=J.size:=λx v S h=>X9 h;have dq:=N;obtain⟨pre,d0,W,L,T2,M,n1,n2,n3,n4,n5,n6⟩:=rZ dk I N;have e4:l.getD m (zero J)=l[m]'I:=Ag
 rw[e4]at hy;have d1:Pr w X W0.B J (.u .ow) l[m] d0 T2:=Aq
 obtain⟨E,G,d2,U1,O,U3,o1,o2,o3,o4,_⟩:=Vf hy d1;have hf:cd (.u .ow) q=.u .ow:=by
  have:∀q:List Nat,cd (.u .ow) q=.u .ow:=λq=>by
   induction q with
   |nil=>rfl
   |cons j q ih=>grind[cd,ZD]
  exact this q
 rw[hf]at o4;unfold Pr at o4
 have d3:t2=J/\y0.1=yv.1:=by
  have b9:=Qj0 Z (λv e=>Ag);rw[hx,Qd6 ab]at b9;obtain⟨hT,_⟩:=FS h b1 b9;simp only[Ty.slice.injEq]at hT;obtain⟨_,rfl⟩:=hT;obtain⟨y1,z1,z2⟩:=Pu (x':=l[m]) b5
  grind
 have d4:Qw W0.gh a (.m k0)=Yh yv.1 G:=by
  rw[b6,d3.2];congr 1;apply Nq;intro u;rcases Ly u yv.1.size with hu|hu
  ·have d5:u<cs.length:=Ag
   have cb:u<G.length:=Av
   have z1:=b8 u cs[u] (Mh d5);have z2:=hc (m*J.size+Yn J q+u) G[u] (by
    rw[n1,<-n3,<-o3,Mo Aa,show pre.length+E.length+u-pre.length=E.length+u from by omega,
     Mu Ag,o1,Mo Aa,show E.length+u-E.length=u from by omega,Mu cb,Mh cb])
   grind
  grind[X9]
 have ei:=bo h (tg:=[]) (λp hp=>by cases hp) hi;have ej:=bo h (tg:=[]) (λp hp=>by cases hp) hj;have cc:(execOp a.eval o).run P w=.ok (.enter f #[.slice (K1 ad) l.length V,.int .i64 m,.int .i64 ((m:Int)+1)]) w:=by
  have:execOp a.eval o=callFunc f (xs.map a.eval):=by
   grind[execOp,resolve,L4,invoke]
  rw[this,hd.enters];congr 2
  grind[Array.toList_map]
 unfold Ln;rw[cc,L6];have ar:=hd.del (C2 D (L5 _)) (Nat.le_succ m) (show m+1<=l.length by omega) (XK (λx v S h=>kd h) N);rw[show((m:Int)+1)=((m+1:Nat):Int) by omega];refine ar.mono λen w' ⟨v',d6,c1,c2,c3⟩=>?_;subst d6;show K (a.put o.dst v') w'
 have e7:=A.pK;have cl:∀b,b∈S2->b∉g:=λb c I=>by
  grind
 have H:∀b,b<w.heap.size->b∉g->w'.heap[b]? =w.heap[b]? :=λb c hn=>c2.block b c (λe=>hn Ag);have hX:∀b,X b->w'.heap[b]? =w.heap[b]? :=λb c=>H b (A.xlt b c) λI=>(A.hown b (by simp[I])).2.2 c;have hF:∀k b,b∈F1 k->w'.heap[b]? =w.heap[b]? :=λk b c=>H b (A.own k b c).2.1 λI=>A.pL k b c (by simp[I]);have au:∀b,b∈S2->w'.heap[b]? =w.heap[b]? :=λb c=>H b (A.hown b (by simp[c])).2.1 (cl b c);have cm:W0.below w':=⟨c2.os.trans A.below.os,c2.tape.trans A.below.tape,c2.output.trans A.below.output,Lm A.below.size c2.size,λk hk=>
  (H k (L2 (W0.yW k hk) A.below.size) λI=>W0.sep hk (A.hown k (by simp[I])).1 rfl).trans (A.below.block k hk)⟩
 have hR:=(A.drop).world cm c2.size hX hF;have hT:S2=L++((U1++(O++U3))++M):=by rw[n2,o2]
 have a1:(g++(L++(O++M))).Sublist (g++S2):=by
  rw[hT];simp
 have cp:(g++(L++(O++M))).Nodup:=by
  grind
 have Y:∀b,b∈g++(L++(O++M))->b∈(g++S2)++([]:List Nat):=λb c=>by simpa using a1.subset c
 have d7:R n W0 w' X F1 ((g++(L++(O++M)))++[]) s1 a:=by
  refine hR.hand (λb c=>?_) cp (λk b c I=>A.pL k b c (Y b I)) (λb c I=>by simp at I);obtain⟨z1,z2,z3⟩:=A.hown b (Y b c);exact⟨z1,L2 z2 c2.size,z3⟩
 have d8:∀b,b∈O->b∈S2:=λb c=>by rw[hT];simp[c]
 have d9:s1.get (.m k0)=.bel rt p m q:=by
  have:=Qcu Z (k:=k0) (λe=>Af) hx;rw[this,a3]
 have eb:(O++(g++(L++M))).Perm (g++(L++(O++M))):=by
  refine(Ny O g _).trans (List.Perm.append_left g ?_);simp[Ny]
 have ec:R n W0 w' X (Q6 F1 (.m k0) O) (g++(L++M)) (Y7 s1 k0 (.val yv.1 (.u .ow) yv.2)) a:=by
  refine d7.turn (S':=O) (H':=g++(L++M)) cm (Lj _) (λ_ _=>rfl) (λ_ _ _ _=>rfl) ?_ ?_ (by rw[d9];simp) (λe T f x b S c=>Ag) ?_
  ·grind
  ·grind
  ·exact⟨G,d4,by unfold Pr;exact Wy (λ_ h=>h) hX o4 λb c=>au b (d8 b c)⟩
 have cr:(l.take m++l.drop (m+1)).length=l.length- (m+1-m):=by
  simp only[List.length_append,List.length_take,List.length_drop];omega
 have e8:xv.length=l.length*J.size:=D.1;have c0:xv.take (m*J.size)=pre:=Ag
 have a2:xv.drop ((m+1)*J.size)=W:=by
  rw[n1,<-Mg,List.drop_append_of_le_length Ag,List.drop_of_length_le Ag];rfl
 rw[c0,a2,<-cr]at c1;have hB:∀b,v'.ownBlock=K1 b->W0.B<=b:=λb c=>by
  rw[c3]at c;exact(D.lt b c).1
 have c4:=ec;rw[show(g++(L++M))=(g++(L++M))++[] by simp]at c4;subst C;have ev:=c4.put a6 a7 (t:=.val (.slice e1 J) (.u .ow) (l.take m++l.drop (m+1))) (v:=v') ⟨[v'],rfl,by
  unfold Pr;refine⟨v',pre++W,g,L++M,rfl,rfl,⟨⟨c1.1,c1.2.imp id λ⟨b,V,ek,h5,h6,h7⟩=>⟨b,V,ek,h5,hB b (by rw[h5];rfl),h7⟩⟩,by rw[bx,c3]⟩,?_⟩;exact nD (Yt n5 λx v T _ el h=>Wy (λ_ h=>h) hX h λb c=>au b Ag) (Yt n6 λx v T _ el h=>Wy (λ_ h=>h) hX h λb c=>au b Ag)⟩
 grind
end
end Go.Am

/- No condition. -/
import Derived.Test.YtahnlnkboamdmaaGreatDoorAm2
import Derived.Great.BuildSlice
import Derived.WalkKit
set_option linter.all false
namespace Go.Am
noncomputable section
open Go.RowKit
open Option renaming some→K1,none→K2,bind_eq_some_iff→Lr,map_eq_some_iff→Mp
open Bool renaming true→K3,false→K4,not_eq_true'→Lv
open Go renaming Value→La,TypeId→Lb,Operand→Lc,World→Le,Program→Lf,FuncId→Lh,Oper→Lj,Addr→Ln,binOp→Lw,Result→L0
open Nat renaming beq→Ld,le_refl→Li,le_trans→Lm,blt→Lo,zero_le→Lt,blt_eq→Lx,lt_of_lt_of_le→Ly,ble→L9,zero_add→Ma,add_right_comm→Ml,beq_refl→Mm,lt_or_ge→Mn
open List renaming nodup_append→Lg,nodup_cons→Ls,all_eq_true→L2,mem_cons→L3,append_assoc→L7,getElem?_cons_zero→L8,any_eq_true→Mg,cons_append→Mi,length_eq_one_iff→Mj,mem_of_getElem?→Mk,eq_nil_of_length_eq_zero→Mu,getElem?_eq_getElem→Mw,getElem?_map→Mx,mem_singleton→My,nodup_nil→Mz
open Ne renaming symm→Lk
open List.cons renaming inj→Ll,injEq→Mh
open Oper renaming wp→Lp,upon_enter→L4
open Decidable renaming decide→Lq
open Sem renaming run_bind→Lu,run_pure→M0
open Addr renaming add→Lz
open List.Sublist renaming refl→L1
open Result renaming andThen_ok→L5
open Deferred renaming ofValue→L6
open Op renaming equal→Mb,equalIn→Mo
open Sigma.mk renaming injEq→Mc
open World renaming cell?_of_block→Md
open Addr.mk renaming injEq→Me
open Classical renaming byContradiction→Mf
open Value.pointer renaming injEq→Mq
open Builtin renaming append_→Mr
open Instr renaming fill→Ms,indexAt→Mt
open Value renaming ownBlock→M1,pointer→M2
variable{a':Act}{K:Act->Le->Prop}{parts:Array (Nat×Lc)}{xs:Array Lc}{ats:Array Lb}{op:BinOp}{Q:Exit->Act->Le->Prop}{fn:Func}{f:Lh}{j:Key}{S:List Nat}{rv:List ResultVar}{ts:List Tm}{vs:List La}{d k B sz q n len m b:Nat}{X:Nat->Prop}{x fo y:Lc}{P:Lf}{r:Res}{s:St}{U:TV}{ρ:Type}{e2:Lb}{v:La}{g:Vc}{w w':Le}
@[reducible] def dp:List Ty->Type|[]=>Unit|t::ts=>t.den×dp ts
def Zbq(w:Le)(X:Nat->Prop)(B:Nat):(ts:List Ty)->dp ts->List La->Prop|[],_,vs=>vs=[]|t::ts,x,vs=> ∃cs us,vs=Jd t cs::us/\rd w X B K4 t x.1 cs []/\Zbq w X B ts x.2 us
def wj(w:Le)(B:Nat):(ts:List Ty)->dp ts->List La->List Nat->Prop|[],_,vs,S=>vs=[]/\S=[]|t::ts,x,vs,S=> ∃cs us S1 S2,vs=Jd t cs::us/\S=S1++S2/\rd w (λ_=>False) B K3 t x.1 cs S1/\wj w B ts x.2 us S2
def ba(vs:List La):La:=
 match vs with
 |[v]=>v
 |vs=>.tuple vs.toArray
structure FnE where
 f:Lh
 args:List Ty
 res:List Ty
 F:dp args->Option (dp res)
structure lh(P:Lf)(g:Vc)(e:FnE):Prop where
 enters:∀args w,(callFunc e.f args).run P w=.ok (.enter e.f args) w
 calls:∀(w:Le)(xs:dp e.args)(r:dp e.res)(vals:List La),g.G w->Zbq w (· <w.heap.size) 0 e.args xs vals->e.F xs=K1 r->
  Calls P e.f vals.toArray w λen w'=> ∃rs S,en=.returned (ba rs)/\wj w' w.heap.size e.res r rs S/\S.Nodup/\Below w.heap.size w w'
abbrev Env:=List FnE
def Env.find(Γ:Env)(f:Lh):Option FnE:=
 match Γ with
 |[]=>K2
 |e::r=>match Ld e.f f with|true=>K1 e|false=>Env.find r f
def Env.ok(Γ:Env)(P:Lf)(g:Vc):Prop:= ∀e∈Γ,lh P g e
def Env.find_ok{Γ:Env}(h:Γ.ok P g){e:FnE}(he:Γ.find f=K1 e):e.f=f/\lh P g e:=by
 induction Γ with
 |nil=>cases he
 |cons x r a=>
  simp only[Env.find]at he;split at he
  ·rename_i b;simp only[pB]at he;subst he;exact⟨pD b,h _ Ae⟩
  ·exact a (λe he=>h e (by simp[he])) he
variable {P:Lf}{g:Vc}{W0:fF g}{w w':Le}{X X':Nat->Prop}{B B' n:Nat}{own:Bool}{s:St}{F:Key->List Nat}{a:Act}{H H':List Nat}{o:Lj}{tg:Kd}{τ:Tab}{gh:Nat->La}
theorem km(hB:B'<=B)(hX:∀b,X b->X' b):∀{T:Ty}{x:T.den}{vs:List La}{S:List Nat},rd w X B own T x vs S->rd w X' B' own T x vs S
 |.unit,_,_,_,h|.int _,_,_,_,h|.bool,_,_,_,h|.fnc _,_,_,_,h|.str,_,_,_,h=>h
 |.slice _ _,_,_,_,⟨v,l,g,i,e,j,d,f⟩=>by
  refine⟨v,l,g,i,e,j,?_,J6 f λ_ _ _ _ _ h=>km hB hX h⟩;cases own
  ·obtain⟨m,p,a,k,q,r,s,u⟩:=d;exact⟨m,p,a,k,q,r,s,u.imp id λ⟨z,A,C,D⟩=>⟨z,A,C.imp id (hX _),D⟩⟩
  ·exact⟨Zgu d.1 hB,d.2⟩
 |.pair a b,_,_,_,⟨E,F,g,i,e,j,d,f⟩=>⟨E,F,g,i,e,j,km hB hX d,km hB hX f⟩
 |.arr n t,_,_,_,⟨h,G⟩=>⟨h,J6 G λ_ _ _ _ _ h=>km hB hX h⟩
 |.err,_,_,_,h=>h
 |.hid _,_,_,_,⟨e,y,h⟩=>⟨e,y,km hB hX h⟩
 |.sptr ..,_,_,_,⟨e,o,b,c,d,f,H,I⟩=>⟨e,o,b,c,d,hX b f,H,km hB hX I⟩
 |.clo ..,_,_,_,⟨e,J,d,f⟩=>⟨e,J,d,km hB hX f⟩
def XS(s:St)(tg:Kd):(ts:List Ty)->List Lc->Option (dp ts)
 |[],[]=>K1 ()
 |t::ts,x::xs=>match cT s (op1 s tg x) t,XS s tg ts xs with
  |some u,K1 us=>K1 (u,us)
  |_,_=>K2
 |_,_=>K2
def Zbr(h:R n W0 w X F H s a)(ht:tg.ok W0.gh a):∀{ts:List Ty}{xs:List Lc}{us:dp ts},XS s tg ts xs=K1 us->Zbq w (· <w.heap.size) 0 ts us (xs.map a.eval)
 |[],[],us,_=>rfl
 |t::ts,x::xs,us,b=>by
  simp only[XS]at b;split at b
  ·rename_i u d e c;simp only[pB]at b;subst b;obtain⟨f,g,i⟩:=eD h ht e;exact⟨f,_,by simp[g],km (Lt _) (λ_ h=>h) i,Zbr h ht c⟩
  ·cases b
 |[],_::_,_,b=>by grind[XS]
 |_::_,[],_,b=>by grind[XS]
def Zqa(d:Nat):(ts:List Ty)->dp ts->Nat->List (Key×Tm)->List (Key×Tm)|[],_,_,r=>r|t::ts,x,i,r=>Zqa d ts x.2 (i+1) ((.c d i,.val t (.u K3) x.1)::r)
def Z1g(d:Nat)(s:St):(ts:List Ty)->dp ts->St|[t],r=>Wc s d (.val t (.u K3) r.1)|[],r=>{env:=Zqa d [] r 0 (Wc s d .tup).env,pP:=(Wc s d .tup).pP,pQ:=s.pQ}|t::u::ts,r=>{env:=Zqa d (t::u::ts) r 0 (Wc s d .tup).env,pP:=(Wc s d .tup).pP,pQ:=s.pQ}
def Qhn{ρ:Type}(Γ:Env)(n:Nat)(s:St)(tg:Kd)(dst:Option Nat)(f:Lh)(xs:List Lc)(k:St->Option ρ):Option ρ:=
 match Γ.find f with
 |none=>K2
 |some e=>match XS s tg e.args xs with
  |none=>K2
  |some us=>match dst with
   |none=>(e.F us).bind λ_=>k s
   |some d=>match aX s d&&Lo d n with
    |false=>K2
    |true=>(e.F us).bind λr=>k (Z1g d s e.res r)
def R.below'(h:R n W0 w X F H s a)(hb:Below w.heap.size w w'):R n W0 w' X F H s a:=
 h.world (h.below.step hb) hb.size (λb c=>hb.block b (h.xlt b c)) (λk b c=>hb.block b (h.own k b c).2.1)
def Zu3:∀{ts:List Ty}{x:dp ts}{rs:List La}{S:List Nat},wj w B ts x rs S->rs.length=ts.length
 |[],_,_,_,h=>by simp[h.1]
 |t::ts,_,_,_,⟨_,_,_,_,e,_,_,h⟩=>by simp[e,Zu3 h]
def zY{rs:List La}(h:rs.length≠1):ba rs=.tuple rs.toArray:=by
 unfold ba
 grind
def R.putTup{ts:List Ty}{x:dp ts}(h:R n W0 w X F (S++H) s a)(hd:aX s d=K3)(hn:d<n)(hx:wj w W0.B ts x vs S):
  ∃F',R n W0 w X F' H {env:=Zqa d ts x 0 (Wc s d .tup).env,pP:=(Wc s d .tup).pP,pQ:=s.pQ} (a.put (K1 d) (.tuple vs.toArray)):=by
 have Q:R n W0 w X (Xm F (.m d) []) (S++H) (Wc s d .tup) (a.put (K1 d) (.tuple vs.toArray)):=(by simpa using h:R n W0 w X F ([]++(S++H)) s a).put hd hn rfl;have q:xQ W0.gh (a.put (K1 d) (.tuple vs.toArray)) d=.tuple vs.toArray:=wq (a:=a) (by rw[h.size];exact hn);have G:∀i,(Wc s d .tup).get (.c d i)=.pR:=λi=>by
  rw[s5];simp only[reduceCtorEq,if_false];exact Mf λv=>by have:=(h.pM d i v).1;simp_all[aX]
 suffices hs:∀(ts:List Ty)(x:dp ts)(E:List La)(i:Nat)(S:List Nat)(F:Key->List Nat)(r:List (Key×Tm))(pre:List La),vs=pre++E->pre.length=i->wj w W0.B ts x E S->
   R n W0 w X F (S++H) {env:=r,pP:=(Wc s d .tup).pP,pQ:=s.pQ} (a.put (K1 d) (.tuple vs.toArray))->mX r (.m d)=.tup->(∀j,i<=j->mX r (.c d j)=.pR)->
   ∃F',R n W0 w X F' H {env:=Zqa d ts x i r,pP:=(Wc s d .tup).pP,pQ:=s.pQ} (a.put (K1 d) (.tuple vs.toArray)) by
  obtain⟨F',y⟩:=hs ts x vs 0 S _ (Wc s d .tup).env [] rfl rfl hx Q (JB _ _ _) (λj _=>G j)
  grind
 intro ts
 induction ts with
 |nil=>
  intro x E i S F r pre _ _ hx f _ _;obtain⟨rfl,rfl⟩:=hx;exact⟨F,f⟩
 |cons t ts U=>
  intro x E i S F r pre I z hx f A o;obtain⟨J,K,N,O,rfl,rfl,L,M⟩:=hx
  have p:Xj W0.gh (a.put (K1 d) (.tuple vs.toArray)) (.c d i)=Jd t J:=by
   simp_all[Xj]
  have C:R n W0 w X (Xm F (.c d i) N) (O++H) {env:=(.c d i,.val t (.u K3) x.1)::r,pP:=(Wc s d .tup).pP,pQ:=s.pQ} (a.put (K1 d) (.tuple vs.toArray)):=by
   have V:F (.c d i)=[]:=by
    have:=f.slots (.c d i);simp only[St.get,o i (Li _)]at this;exact this
   have D:=f.pK;rw[L7]at D;exact
   {size:=f.size
    defers:=f.defers
    below:=f.below
    glob:=f.glob
    gx:=f.gx
    xs:=f.xs
    fix:=f.fix
    xlt:=f.xlt
    xin:=f.xin
    x0:=f.x0
    own:=λk b g=>by
     simp only[Xm]at g;split at g
     ·exact f.hown b (by simp[g])
     ·exact f.own k b g
    nodup:=λk=>by
     simp only[Xm];split
     ·grind
     ·exact f.nodup k
    pS:=λk P b g l=>by
     simp only[Xm]at g l;split at g<;>split at l
     ·simp_all
     ·exact absurd (by simp[g]) (f.pL P b l)
     ·exact absurd (by simp[l]) (f.pL k b g)
     ·exact f.pS k P b g l
    hown:=λb g=>f.hown b Ac
    pK:=(Lg.1 D).2.1
    pL:=λk b g hh=>by
     simp only[Xm]at g;split at g
     ·grind
     ·exact f.pL k b g Ac
    pM:=λW j v=>by
     simp only[St.get,Qg]at v⊢;simp only[reduceCtorEq,if_false];split at v
     ·rename_i e;simp only[Key.c.injEq]at e;obtain⟨rfl,rfl⟩:=e;refine⟨A,vs.toArray,q,?_⟩;simp_all
     ·exact f.pM W j v
    slots:=λk=>by
     by_cases hk:k=.c d i
     ·subst hk;simp only[St.get,Qg,if_true,Xm];exact⟨J,p,by unfold rdF;exact km (Li _) (λ_ h=>h.elim) L⟩
     ·have Y:St.get {env:=(Key.c d i,Tm.val t (.u K3) x.1)::r,pP:=(Wc s d .tup).pP,pQ:=s.pQ} k=St.get {env:=r,pP:=(Wc s d .tup).pP,pQ:=s.pQ} k:=by simp[St.get,Qg,Lk hk]
      have Z:Xm F (.c d i) N k=F k:=by simp[Xm,hk]
      rw[Y,Z];exact Zyh (s:={env:=r,pP:=(Wc s d .tup).pP,pQ:=s.pQ}) (f.slots k)}
  obtain⟨F',y⟩:=U x.2 K (i+1) O _ _ (pre++[Jd t J]) (by rw[I];simp) (by simp[z]) M C (by simp_all[Qg]) (λj hj=>by
   rw[Qg,if_neg Af];grind)
  exact⟨F',y⟩
def R.putRes{rs:List La}:∀{ts:List Ty}{x:dp ts}{S:List Nat},R n W0 w X F (S++H) s a->aX s d=K3->d<n->wj w W0.B ts x rs S->
  ∃F',R n W0 w X F' H (Z1g d s ts x) (a.put (K1 d) (ba rs))
 |[],x,S,h,b,c,hx=>by
  rw[zY (by rw[Zu3 hx];simp)];exact h.putTup b c hx
 |[t],x,S,h,b,c,hx=>by
  obtain⟨e,f,i,j,rfl,rfl,g,rfl,rfl⟩:=hx;exact⟨_,h.put b c ⟨e,rfl,by unfold rdF;exact km (Li _) (λ_ (h:False)=>h.elim) (by simpa using g)⟩⟩
 |t::u::ts,x,S,h,b,c,hx=>by
  rw[zY (by rw[Zu3 hx];simp)];exact h.putTup b c hx
def Z5x(s:St)(tg:Kd)(x:Lc):Option Lh:=
 match ZS s (op1 s tg x)with
 |some ⟨.fnc f,_,_⟩=>K1 f
 |_=>K2
def zD(h:R n W0 w X F H s a)(ht:tg.ok W0.gh a)(hf:Z5x s tg x=K1 f):a.eval x=.func (.func f) #[] #[]:=by
 unfold Z5x at hf;split at hf
 ·rename_i g k y d;simp only[pB]at hf;subst hf;obtain⟨c,l,S,e,i,_⟩:=lJ h ht d;have j:=Vo (X':=λb=>X b\/b∈S) (λ_ h=>.inl h) c i (λ_ h=>.inr h);rw[e,j.1];rfl
 ·cases hf
def Zno{Γ:Env}(hΓ:Γ.ok P g)(h:R n W0 w X F H s a)(ht:tg.ok W0.gh a)(hfo:a.eval fo=.func (.func f) #[] #[])(ho:o.op=.call {callee:=.value fo,args:=xs,argTypes:=ats}){e:FnE}(he:Γ.find f=K1 e)
  {us:dp e.args} (hus:XS s tg e.args xs.toList=K1 us) {rv:dp e.res} (hpre:e.F us=K1 rv) 
  (hK:∀rs S w',R n W0 w' X F (S++H) s a->wj w' W0.B e.res rv rs S->Old w w'->K (a.put o.dst (ba rs)) w'):o.wp P a w K Q:=by
 obtain⟨z,l⟩:=Env.find_ok hΓ he;subst z;have A:=l.calls w us rv (xs.toList.map a.eval) h.glob (Zbr h ht hus) hpre;have m:(execOp a.eval o).run P w=.ok (.enter e.f (xs.toList.map a.eval).toArray) w:=by
  have:execOp a.eval o=callFunc e.f (xs.map a.eval):=by
   simp_all[execOp,resolve,L6,invoke]
  rw[this,l.enters];congr 2
  grind
 unfold Lp;rw[m,L4];refine A.mono λE w' ⟨rs,S,u,p,v,q⟩=>?_;subst u;show K (a.put o.dst (ba rs)) w';have r:∀{i:List Ty}{x:dp i}{rs:List La}{S:List Nat},wj w' w.heap.size i x rs S->(∀b∈S,w.heap.size<=b/\b<w'.heap.size)/\wj w' W0.B i x rs S:=by
  intro i
  induction i with
  |nil=>intro x rs S h;exact⟨by simp[h.2],h⟩
  |cons t i C=>
   intro x rs S ⟨cs,us,S1,S2,e1,e2,g1,g2⟩;obtain⟨G,D⟩:=C g2;refine⟨λb j=>?_,cs,us,S1,S2,e1,e2,km h.below.sizeB (λ_ h=>h) g1,D⟩
   grind[Zgy]
 obtain⟨c,d⟩:=r p;exact hK rs S w' ((h.below' q).hand (λb j=>⟨.inl (Lm h.below.size (c b j).1),(c b j).2,λhx=>by have:=h.xlt b hx;grind⟩) v
  (λk b j y=>by have:=(h.own k b j).2.1;grind) (λb j y=>by have:=(h.hown b y).2.1;grind)) d (λk hk=>q.block k hk)
def Z7v{Γ:Env}(hΓ:Γ.ok P g)(h:R n W0 w X F H s a)(ht:tg.ok W0.gh a)(hfo:a.eval fo=.func (.func f) #[] #[])(ho:o.op=.call {callee:=.value fo,args:=xs,argTypes:=ats}){k:St->Option ρ}{r:ρ}(hr:Qhn Γ n s tg o.dst f xs.toList k=K1 r)
   (hK:∀v w' F' s',k s'=K1 r->R n W0 w' X F' H s' (a.put o.dst v)->Old w w'->K (a.put o.dst v) w'):o.wp P a w K Q:=by
 unfold Qhn at hr;split at hr
 ·cases hr
 ·rename_i e m;split at hr
  ·cases hr
  ·rename_i u i;cases hd:o.dst with
   |none=>
    rw[hd]at hr;simp only[Lr]at hr;obtain⟨q,c,hk⟩:=hr;refine Zno hΓ h ht hfo ho m i c λp S w' l b hold=>?_;have j:=hK (ba p) w' F s hk;rw[hd]at j⊢;exact j l.drop hold
   |some d=>
    rw[hd]at hr;simp only at hr;split at hr
    ·cases hr
    ·rename_i hdn;simp only[pC,Lx]at hdn;simp only[Lr]at hr;obtain⟨q,c,hk⟩:=hr;refine Zno hΓ h ht hfo ho m i c λp S w' l b hold=>?_;obtain⟨F',t⟩:=l.putRes hdn.1 hdn.2 b
     grind
def Zxk(k d:Nat):List (Key×Tm)->List (Key×Tm)
 |[]=>[]
 |(.c t i,x)::r=>match Ld t k with
  |true=>(.c d i,x)::Zxk k d r
  |false=>match Ld t d with
   |true=>Zxk k d r
   |false=>(.c t i,x)::Zxk k d r
 |(.m t,x)::r=>(.m t,x)::Zxk k d r
def Z1o(k d t:Nat):∀l,mX (Zxk k d l) (.m t)=mX l (.m t)
 |[]=>rfl
 |(.c a i,x)::r=>by
  simp only[Zxk];split
  ·simp only[Qg,reduceCtorEq,if_false,Z1o k d t r]
  ·split
   ·simp only[Qg,reduceCtorEq,if_false,Z1o k d t r]
   ·simp only[Qg,reduceCtorEq,if_false,Z1o k d t r]
 |(.m a,x)::r=>by simp only[Zxk,Qg,Z1o k d t r]
def Qb6{k d:Nat}(hkd:k≠d)(t i:Nat):∀l,mX (Zxk k d l) (.c t i)=ite (t=d) (mX l (.c k i)) (ite (t=k) (.pR) (mX l (.c t i)))
 |[]=>by simp[Zxk,mX]
 |(.c a j,x)::r=>by
  have b:=Qb6 hkd t i r;simp only[Zxk];split
  ·rename_i h;have h:=pD h;subst h;simp only[Qg,b,Key.c.injEq]
   grind
  ·rename_i h;have f:a≠k:=λe=>Ac
   split
   ·simp_all[Qg,Lk]
   grind[Mm,Qg]
 |(.m a,x)::r=>by simp only[Zxk,Qg,reduceCtorEq,if_false,Qb6 hkd t i r]
def Zwj(s:St)(k d:Nat):St:={env:=Zxk k d ((.m d,.tup)::s.env),pP:=(Wc s d .tup).pP,pQ:=s.pQ}
variable {s1 s2:St}{F1 F2:Key->List Nat}
def Qxj(hg:∀t,s2.get (.m t)=s1.get (.m t))(hd:s2.pP=s1.pP)(hF:∀t,F2 (.m t)=F1 (.m t)):∀{u:Tm},vt gh w X B s1 F1 a v S u->vt gh w X B s2 F2 a v S u:=by
 have s:∀r,s2.pN r=s1.pN r:=λr=>by simp_all[St.pN]
 have hv:∀{r p v U},Yv gh w s1 F1 a r p v U->Yv gh w s2 F2 a r p v U:=by
  simp_all[Yv]
 intro u h
 induction u with
 |pR=>exact h
 |tup=>exact h
 |val=>exact h
 |box=>exact h
 |shp=>exact h
 |ptr r p=>
  obtain⟨z,e,T,f,x,b,j,c,d,k⟩:=h;exact⟨z,e,T,f,x,b,j,by rw[hg];exact c,by rw[hF];exact d,k⟩
 |aep r p i=>
  obtain⟨z,e,T,f,x,b,j,n,D,y,c,d,k⟩:=h;exact⟨z,e,T,f,x,b,j,n,D,y,by rw[hg];exact c,by rw[hF];exact d,k⟩
 |bor r p=>exact⟨h.1,λo=>let⟨U,hU⟩:=h.2 (Zdu (λr h=>(s r).symm.trans h) o);⟨U,hv hU⟩⟩
 |elp r p i q=>exact⟨h.1,λo=>let⟨e,t,ad,m,cap,c,d⟩:=h.2 (Zdu (λr h=>(s r).symm.trans h) o);⟨e,t,ad,m,cap,hv c,d⟩⟩
 |bel r p i q=>exact⟨h.1,λo E=>let⟨e,t,ad,m,cap,x0,y,cs,c,k1,k2,k3,d⟩:=h.2 (Zdu (λr h=>(s r).symm.trans h) o) ((s _).symm.trans E);⟨e,t,ad,m,cap,x0,y,cs,hv c,k1,k2,by rw[hF];exact k3,d⟩⟩
 |cl f l=>
  refine⟨h.1,Ziz (λr p v A=>?_) h.2⟩;obtain⟨e,T,f,x,b,j,c,d,k⟩:=A;exact⟨e,T,f,x,b,j,by rw[hg];exact c,by rw[hF];exact d,k⟩
 |pls F l=>
  refine⟨h.1,KF (λ_ h=>h) (λ_ _=>rfl) (λr p v A=>?_) h.2⟩;obtain⟨e,T,f,x,b,j,c,d,k⟩:=A;exact⟨e,T,f,x,b,j,by rw[hg];exact c,by rw[hF];exact d,k⟩
 |gd g C u G=>
  intro o;obtain⟨z,c,d⟩:=h Ac;simp_all
def Zpn(k d:Nat):Key->Option Key|.m t=>ite (t=d) K2 (K1 (.m t))|.c t i=>ite (t=d) (K1 (.c k i)) (ite (t=k) K2 (K1 (.c t i)))
theorem Qkv{x y:Key}(hx:Zpn k d x=K1 j)(hy:Zpn k d y=K1 j):x=y:=by
 cases x with
 |m t=>
  simp only[Zpn]at hx;split at hx
  ·cases hx
  ·cases hx;cases y with
   |m u=>
    simp_all[Zpn]
   |c u i=>
    grind[Zpn]
 |c t i=>
  cases y with
  |m u=>
   grind[Zpn]
  |c u a=>
   simp only[Zpn]at hx hy
   grind
def R.tupTo(h:R n W0 w X F [] s a)(hk:s.get (.m k)=.tup)(hd:aX s d=K3)(hn:d<n):
  ∃F',R n W0 w X F' [] (Zwj s k d) (a.put (K1 d) (Xj W0.gh a (.m k))):=by
 have K:k≠d:=λe=>AC
 let F':Key->List Nat:=λx=>match Zpn k d x with|some j=>F j|none=>[]
 have E:∀t,(Go.Am.Zwj s k d).get (.m t)=ite (d=t) (.tup) (s.get (.m t)):=λt=>by
  simp_all[Go.Am.Zwj,St.get,Z1o,Qg]
 have G:∀t i,(Go.Am.Zwj s k d).get (.c t i)=ite (t=d) (s.get (.c k i)) (ite (t=k) (.pR) (s.get (.c t i))):=λt i=>by
  simp_all[Go.Am.Zwj,St.get,Qb6,Qg]
 have l:∀{x b},b∈F' x-> ∃j,Zpn k d x=K1 j/\b∈F j:=by
  grind
 have g:∀{v S u},vt W0.gh w X W0.B s F a v S u->vt W0.gh w X W0.B (Go.Am.Zwj s k d) F' (a.put (K1 d) (Xj W0.gh a (.m k))) v S u:=by
  intro v S u hv;refine Qxj (s1:=Wc s d .tup) (s2:=Go.Am.Zwj s k d) (F1:=Xm F (.m d) []) (F2:=F') (λt=>?_) rfl (λt=>?_) (Qcq (t:=.tup) (v0:=Xj W0.gh a (.m k)) (S0:=[]) hd hv)
  ·grind[s5]
  ·simp only[F',Zpn,Xm,Key.m.injEq]
   grind
 have H:Xj W0.gh (a.put (K1 d) (Xj W0.gh a (.m k))) (.m d)=Xj W0.gh a (.m k):=wq (a:=a) (by rw[h.size];exact hn);have o:∀i,Xj W0.gh (a.put (K1 d) (Xj W0.gh a (.m k))) (.c d i)=Xj W0.gh a (.c k i):=λi=>by
  simp_all[Xj]
 refine⟨F',?_⟩;exact
  {size:=by simp[Act.put,h.size]
   defers:=by simp[Act.put,h.defers]
   below:=h.below
   glob:=h.glob
   gx:=h.gx
   xs:=h.xs
   fix:=λp z=>⟨(h.fix p z).1,by
    have:=Zzj hd;have f:p.1≠d:=λe=>this (e▸(h.fix p z).1);rw[gt (by simp_all[Key.t])];exact(h.fix p z).2⟩
   xlt:=h.xlt
   xin:=h.xin
   x0:=h.x0
   own:=λx b A=>let⟨j,_,hj⟩:=l A;h.own j b hj
   nodup:=λx=>by
    simp only[F'];split
    ·exact h.nodup _
    ·simp
   pS:=λx y b A C=>by
    obtain⟨j,I,q⟩:=l A;obtain⟨L,N,M⟩:=l C;have:=h.pS j L b q M
    grind[Qkv]
   hown:=Ae
   pK:=Ae
   pL:=Ae
   pM:=λD i f=>by
    rw[G]at f;rw[E];by_cases e:D=d
    ·subst e;simp only[if_true]at f⊢;obtain⟨_,J,I,q⟩:=h.pM k i f;simp_all
    ·by_cases r:D=k
     ·simp_all
     ·simp only[e,r,if_false]at f;obtain⟨O,J,I,q⟩:=h.pM D i f;refine⟨Ac,J,?_,q⟩
      grind[gt,Key.t]
   slots:=λx=>by
    cases x with
    |m t=>
     rw[E];by_cases e:d=t
     ·subst e;simp only[if_true,F',Zpn];rfl
     ·have:F' (.m t)=F (.m t):=by simp[F',Zpn,Lk e]
      rw[this,gt (by simp_all[Key.t,Lk])];simp only[e,if_false];exact g (h.slots (.m t))
    |c t i=>
     rw[G];by_cases e:t=d
     ·subst e;have:F' (.c t i)=F (.c k i):=by simp[F',Zpn]
      rw[this,o];simp only[if_true];exact g (h.slots (.c k i))
     ·by_cases r:t=k
      ·subst r;have:F' (.c t i)=[]:=by grind[Zpn]
       rw[this];simp only[e,if_false,if_true];rfl
      ·have:F' (.c t i)=F (.c t i):=by grind[Zpn]
       rw[this,gt (by simp_all[Key.t])];simp only[e,r,if_false];exact g (h.slots (.c t i))}
structure FnL where
 f:Lh
 e:Lb
 t:Ty
 args:List Ty
 res:List Ty
 F:List t.den->dp args->Option (dp res×List t.den)
structure Zyk(P:Lf)(g:Vc)(e:FnL):Prop where
 flat:e.t.flat=K3
 enters:∀args w,(callFunc e.f args).run P w=.ok (.enter e.f args) w
 calls:∀(w:Le)(X:Nat->Prop)(L:List Nat)(l l':List e.t.den)(xs:dp e.args)(r:dp e.res)(v:La)(vals:List La),g.G w->(∀b,g.GB b->X b)->(∀b,X b->b<w.heap.size)->(∀b∈L,¬X b)->L.Nodup->
  rd w X 0 K3 (.slice e.e e.t) l [v] L->Zbq w X 0 e.args xs vals->e.F l xs=K1 (r,l')->
  Calls P e.f (v::vals).toArray w λen w'=> ∃rs S,en=.returned (ba rs)/\wj w' w.heap.size e.res r rs S/\S.Nodup/\(∃X',rd w' X' 0 K3 (.slice e.e e.t) l' [v] L)/\
   w'.os=w.os/\w'.tape=w.tape/\w'.output=w.output/\w.heap.size<=w'.heap.size/\ ∀b,b<w.heap.size->b∉L->w'.heap[b]? =w.heap[b]?
abbrev Zfx:=List FnL
def Zfx.find(Γ:Zfx)(f:Lh):Option FnL:=
 match Γ with
 |[]=>K2
 |e::r=>match Ld e.f f with|true=>K1 e|false=>Zfx.find r f
def Zfx.ok(Γ:Zfx)(P:Lf)(g:Vc):Prop:= ∀e∈Γ,Zyk P g e
def Zfx.find_ok{Γ:Zfx}{P:Lf}{g:Vc}(h:Γ.ok P g){e:FnL}(he:Γ.find f=K1 e):e.f=f/\Zyk P g e:=by
 induction Γ with
 |nil=>cases he
 |cons x r a=>
  simp only[Zfx.find]at he;split at he
  ·rename_i b;simp only[pB]at he;subst he;exact⟨pD b,h _ Ae⟩
  ·exact a (λe he=>h e (by simp[he])) he
def Zu8(s:St):Op1->Option Nat
 |.tm k (.val _ _ _)=>K1 k
 |.tm _ (.bor r [])=>match s.bad r []with|false=>K1 r|true=>K2
 |_=>K2
def Qih(ts:List Ty):Bool:=ts.all Ty.flat
def Qjf(e:FnL):Tm->Option (List e.t.den×(List e.t.den->Tm))
 |.val T (.u K3) y=>match ay (.slice e.e e.t) T y with|some l=>K1 (l,λz=>.val (.slice e.e e.t) (.u K3) z)|none=>K2
 |.box k T (.u K3) y=>match ay (.slice e.e e.t) T y with|some l=>K1 (l,λz=>.box k (.slice e.e e.t) (.u K3) z)|none=>K2
 |_=>K2
def Qje{ρ:Type}(Γ:Zfx)(n:Nat)(s:St)(dst:Option Nat)(f:Lh)(xs:List Lc)(k:St->Option ρ):Option ρ:=
 match Γ.find f,xs with
 |some e,x0::rest=>match Zu8 s (op1 s [] x0)with
  |some q=>match Qjf e (s.get (.m q)),XS s [] e.args rest,Qih e.args with
   |some lm,K1 us,K3=>match dst with
    |none=>(e.F lm.1 us).bind λz=>k (KJ s q (lm.2 z.2))
    |some d=>match aX (KJ s q (lm.2 lm.1)) d&&Lo d n with
     |true=>(e.F lm.1 us).bind λz=>k (Z1g d (KJ s q (lm.2 z.2)) e.res z.1)
     |false=>K2
   |_,_,_=>K2
  |none=>K2
 |_,_=>K2
def Zwd:∀{ts:List Ty}{xs:dp ts}{vs:List La},Qih ts=K3->Zbq w X B ts xs vs->Zbq w X' B ts xs vs
 |[],_,_,_,h=>h
 |t::ts,xs,vs,a,⟨b,c,d,e,f⟩=>by
  simp only[Qih,List.all_cons,pC]at a;exact⟨b,c,d,(iU a.1 e).2,Zwd a.2 f⟩
def Zfs{own':Bool}{w w':Le}{X X':Nat->Prop}{B B':Nat}{own:Bool}:∀{T:Ty}{x:T.den}{vs:List La}{S:List Nat},T.flat=K3->
  rd w X B own T x vs S->S=[]/\rd w' X' B' own' T x vs []
 |.unit,_,_,_,_,h|.int _,_,_,_,_,h|.bool,_,_,_,_,h|.fnc _,_,_,_,_,h|.str,_,_,_,_,h=>⟨h.2,h.1,rfl⟩
 |.slice _ _,_,_,_,c,_=>by grind[Ty.flat]
 |.pair a b,_,_,_,c,⟨d,f,q,r,e,g,i,j⟩=>by
  simp only[Ty.flat,pC]at c;obtain⟨rfl,m⟩:=Zfs c.1 i;obtain⟨rfl,o⟩:=Zfs c.2 j;exact⟨by simp[g],d,f,[],[],e,rfl,m,o⟩
 |.arr n t,_,_,_,c,⟨h,p⟩=>by
  obtain⟨e,k⟩:=px (r':=rd w' X' B' own' t) (λx v S h=>Zfs (by simp_all[Ty.flat]) h) p;exact⟨e,h,k⟩
 |.err,_,_,_,_,h=>⟨h.2,h.1,rfl⟩
 |.hid _,_,_,_,c,⟨l,y,h⟩=>let⟨e,k⟩:=Zfs (by simp_all[Ty.flat]) h;⟨e,l,y,k⟩
 |.sptr ..,_,_,_,c,_=>by grind[Ty.flat]
 |.clo ..,_,_,_,c,_=>by grind[Ty.flat]
def Z6p{w w':Le}{B:Nat}{e:Lb}{nn nn':Nat}{xs xs':List La}(h:w.ownsRow B e sz v nn xs)(h':w'.ownsRow 0 e sz v nn' xs'):w'.ownsRow B e sz v nn' xs':=by
 refine⟨h'.1,h'.2.imp id λ⟨b,a,c,g,k,i⟩=>⟨b,a,c,g,?_,i⟩⟩;rcases h.2 with⟨j,_⟩|⟨l,d,f,j,m,_⟩
 all_goals simp_all
def Qng{w w':Le}{X X' X'':Nat->Prop}{B:Nat}{e:Lb}{t:Ty}{l l':List t.den}{L L':List Nat}(hf:t.flat=K3)(h:rd w X B K3 (.slice e t) l [v] L)(h':rd w' X' 0 K3 (.slice e t) l' [v] L'):rd w' X'' B K3 (.slice e t) l' [v] L':=by
 obtain⟨p,f,q,r,b,s,g,u⟩:=h;obtain⟨y,a,i,j,c,k,d,m⟩:=h';simp only[Mh,and_true]at b c;subst b;subst c;obtain⟨n,o⟩:=px (r':=rd w' X'' B K3 t) (λx v S h=>Zfs hf h) m;exact⟨_,a,i,j,rfl,k,⟨Z6p g.1 d.1,d.2⟩,by rw[n];exact o⟩
def Z61(h:R n W0 w X F H s a)(hq:Zu8 s (op1 s [] x)=K1 q){T:Ty}{f:Fl}{y:T.den}(hg:s.get (.m q)=.val T f y):a.eval x=Xj W0.gh a (.m q):=by
 unfold Zu8 at hq;split at hq
 ·rename_i k c d e hx;simp only[pB]at hq;subst hq;obtain⟨rfl,g,_⟩:=wh hx;simp_all[Jf]
 ·rename_i k r hx;obtain⟨rfl,_,i⟩:=V0 h (tg:=[]) (λp b=>by cases b) hx Ae
  grind[Yv]
 ·cases hq
def Z82(h:R n W0 w X F H s a){e:FnL}(_hf:e.t.flat=K3)(hq:Zu8 s (op1 s [] x)=K1 q){lm:List e.t.den×(List e.t.den->Tm)}(hl:Qjf e (s.get (.m q))=K1 lm):
  ∃v L,a.eval x=v/\rd w X W0.B K3 (.slice e.e e.t) lm.1 [v] L/\(∀b∈L,b∈F (.m q))/\L.Nodup/\s.get (.m q)≠ .tup/\
   (∀z e T f x b S,s.get (.m q)=.box e T f x->F (.m q)=b::S-> ∃f' x' S'',lm.2 z=.box e T f' x'/\F (.m q)=b::S'')/\
   (∀z d,aX (KJ s q (lm.2 lm.1)) d=K3->aX (KJ s q (lm.2 z)) d=K3)/\
   ∀z w',(∀b,b<w.heap.size->b∉L->w'.heap[b]? =w.heap[b]?)->Zee W0.gh w w' s (KJ s q (lm.2 z)) F F a q (lm.2 z)/\
    (rd w' X W0.B K3 (.slice e.e e.t) z [v] L->vt W0.gh w' X W0.B (KJ s q (lm.2 z)) F a (Xj W0.gh a (.m q)) (F (.m q)) (lm.2 z)):=by
 have o:∀{T:Ty}{y:T.den}{l:List e.t.den},ay (.slice e.e e.t) T y=K1 l->T=.slice e.e e.t/\HEq y l:=by
  simp_all[ay]
 have hs:=h.slots (.m q);unfold Qjf at hl;split at hl
 ·rename_i T y A;split at hl
  ·rename_i l Q;obtain⟨rfl,j⟩:=o Q;have j:=eq_of_heq j;subst j;simp only[pB]at hl;subst hl;rw[A]at hs;obtain⟨vs,hv,g⟩:=hs;unfold rdF at g;obtain⟨v,rfl⟩:∃v,vs=[v]:=Mj.1 (Jx g);have hv:Xj W0.gh a (.m q)=v:=hv;refine⟨v,F (.m q),(Z61 h hq A).trans hv,g,λ_ O=>O,h.nodup _,by rw[A];simp,(λz e T f x b S O=>Ac),λz d u=>?_,λz w' _=>⟨xc ⟨by rw[Ja];simp,λp v U hv=>?_⟩,λhr=>⟨[v],by rw[hv];rfl,Av⟩⟩⟩
   ·unfold aX at u⊢;rw[Ja]at u⊢;by_cases C:Key.m q=Key.m d
    ·rw[if_pos C]at u⊢;exact u
    ·rw[if_neg C]at u⊢;exact u
   grind[Yv,Ja]
  ·cases hl
 ·rename_i k T y A;split at hl
  ·rename_i l Q;obtain⟨rfl,j⟩:=o Q;have j:=eq_of_heq j;subst j;simp only[pB]at hl;subst hl;rw[A]at hs;obtain⟨b,c,P,hv,G,O,g⟩:=hs;unfold rdF at g;obtain⟨v,I⟩:∃v,c.toList=[v]:=Mj.1 (Jx g);rw[I]at g;have ab:b∉P:=λhm=>by have:=h.nodup (.m q);simp_all
   have ad:b<w.heap.size:=(h.own (.m q) b (by rw[G];simp)).2.1;have V:a.eval x=v:=by
    unfold Zu8 at hq;split at hq
    ·rename_i k' T' f' Z hx;simp only[pB]at hq;subst hq;obtain⟨_,_,J⟩:=wh hx;rw[A]at J;cases J
    ·rename_i k' r hx;obtain⟨rfl,_,h2⟩:=V0 h (tg:=[]) (λp hp=>by cases hp) hx Ae;split at hq
     ·rename_i D;simp only[pB]at hq;subst hq;obtain⟨U,W⟩:=h2 D;unfold Yv at W;rw[A]at W;obtain⟨b',c',S'',Z,E,K,M,rfl,Y⟩:=W;rw[G]at E;simp only[Mh]at E;obtain⟨rfl,rfl⟩:=E;rw[O]at K;simp only[pB,Obj.cells.injEq,and_true]at K;simp only[kd,pB]at M;subst M;rw[Y,<-K,I];rfl
     ·cases hq
    ·cases hq
   refine⟨v,P,V,g,λb' am=>Ac,by have:=h.nodup (.m q);simp_all,by rw[A];simp,λz K T f x b2 S N ar=>?_,λz d u=>?_,λz w' hw=>⟨xc ⟨by rw[Ja];simp,λp v U hv=>?_⟩,λhr=>⟨b,c,P,hv,G,Ac,Ak⟩⟩⟩
   ·rw[A]at N;cases N;simp_all
   ·unfold aX at u⊢;rw[Ja]at u⊢;by_cases C:Key.m q=Key.m d
    ·simp_all
    ·rw[if_neg C]at u⊢;exact u
   ·unfold Yv at hv⊢;rw[A]at hv;rw[Ja];simp only[if_true];obtain⟨b',c',S'',Z,E,K,M,Y,e5⟩:=hv;rw[G]at E;simp only[Mh]at E;obtain⟨rfl,rfl⟩:=E;cases p with
    |nil=>
     simp only[kd,pB]at M;subst M;exact⟨b,c',P,_,G,Ac,rfl,Y,e5⟩
    |cons i p=>grind[kd,fld]
  ·cases hl
 ·cases hl
def Z81{Γ:Zfx}(hΓ:Γ.ok P g)(h:R n W0 w X F [] s a)(hfo:a.eval fo=.func (.func f) #[] #[])(ho:o.op=.call {callee:=.value fo,args:=xs,argTypes:=ats}){k:St->Option ρ}{r:ρ}(hr:Qje Γ n s o.dst f xs.toList k=K1 r)
   (hK:∀v w' X' F' s',k s'=K1 r->R n W0 w' X' F' [] s' (a.put o.dst v)->K (a.put o.dst v) w'):o.wp P a w K Q:=by
 unfold Qje at hr;split at hr
 ·rename_i e x0 u he a5;obtain⟨rfl,y⟩:=Zfx.find_ok hΓ he;split at hr
  ·rename_i q hq;split at hr
   ·rename_i lm us hl ab ad;obtain⟨v,L,hv,M,A,am,N,E,O,Zqh⟩:=Z82 h y.flat hq hl;have a6:∀b∈L,b<w.heap.size:=λb c=>(h.own _ _ (A b c)).2.1
    have call:∀{z},e.F lm.1 us=K1 z-> ∀{K':Act->Le->Prop},(∀l S w',R n W0 w' X F (S++[]) (KJ s q (lm.2 z.2)) a->wj w' W0.B e.res z.1 l S->K' (a.put o.dst (ba l)) w')->o.wp P a w K' Q:=by
     intro z U K' D;have ar:xs.toList.map a.eval=v::u.map a.eval:=Ac
     have hc:=y.calls w (λb=>b<w.heap.size/\b∉L) L lm.1 z.2 us z.1 v (u.map a.eval) h.glob (λb c=>⟨h.xlt b (h.gx b c),λC=>(h.own _ _ (A b C)).2.2 (h.gx b c)⟩) (λb c=>c.1) (λb c hx=>hx.2 c) am
      (by
       obtain⟨v1,au,S1,S2,e1,e2,h1,h2⟩:=M;obtain⟨e5,H⟩:=px (r':=rd w (λb=>b<w.heap.size/\b∉L) 0 K3 e.t) (λx v S h=>Zfs y.flat h) h2;exact⟨v1,au,S1,S2,e1,e2,⟨Zgu h1.1 (Lt _),h1.2⟩,by rw[e5];exact H⟩)
      (Zwd ad (Zbr h (tg:=[]) (λp hp=>by cases hp) ab)) U
     have V:(execOp a.eval o).run P w=.ok (.enter e.f (v::u.map a.eval).toArray) w:=by
      have:execOp a.eval o=callFunc e.f (xs.map a.eval):=by
       simp_all[execOp,resolve,L6,invoke]
      rw[this,y.enters];congr 2
      grind
     unfold Lp;rw[V,L4];refine hc.mono λen w' ⟨l,S,a0,i,a1,⟨X2,W⟩,h1,h2,h3,h4,H⟩=>?_;subst a0;show K' (a.put o.dst (ba l)) w';have Y:∀{I:List Ty}{x:dp I}{l:List La}{S:List Nat},wj w' w.heap.size I x l S->(∀b∈S,w.heap.size<=b/\b<w'.heap.size)/\wj w' W0.B I x l S:=by
      intro I
      induction I with
      |nil=>intro x l S h;exact⟨by simp[h.2],h⟩
      |cons t I ih=>
       intro x l S ⟨cs,us,S1,S2,e1,e2,g1,g2⟩;obtain⟨k1,k2⟩:=ih g2;refine⟨λb c=>?_,cs,us,S1,S2,e1,e2,km h.below.sizeB (λ_ h=>h) g1,k2⟩
       grind[Zgy]
     obtain⟨j,G⟩:=Y i;have a4:rd w' X W0.B K3 (.slice e.e e.t) z.2 [v] L:=Qng y.flat M W;have a2:W0.below w':=⟨h1.trans h.below.os,h2.trans h.below.tape,h3.trans h.below.output,Lm h.below.size h4,λb c=>
      (H b (Ly (W0.yW b c) h.below.size) λC=>W0.sep c (h.own _ _ (A b C)).1 rfl).trans (h.below.block b c)⟩
     have Z:Xm F (.m q) (F (.m q))=F:=Ag
     obtain⟨a3,a7⟩:=Zqh z.2 w' H;have J:=h.turn' (w':=w') (S':=F (.m q)) (by rw[Z];exact a3) a2 h4 (λb c=>H b (h.xlt b c) λC=>(h.own _ _ (A b C)).2.2 c)
      (λk b hk c=>H b (h.own k b c).2.1 λC=>hk (h.pS _ _ b c (A b C))) (H':=[]) (λb c=>by simpa using c) (by simpa using h.nodup (.m q)) N (E z.2)
      Ac
     rw[Z]at J;exact D l S w' (J.hand (λb c=>⟨.inl (Lm h.below.size (j b c).1),(j b c).2,λhx=>by have:=h.xlt b hx;grind⟩) a1
      (λk b c C=>by have:=(h.own k b c).2.1;grind) (λb c C=>by cases C)) G
    split at hr
    ·rename_i hd;simp only[Lr]at hr;obtain⟨z,U,hk⟩:=hr;refine call U λl S w' J i=>?_;have D:=hK (ba l) w' X F _ hk;rw[hd]at D⊢;exact D J.drop
    ·rename_i d hd;split at hr
     ·rename_i hdn;simp only[pC,Lx]at hdn;simp only[Lr]at hr;obtain⟨z,U,hk⟩:=hr;refine call U λl S w' J i=>?_;obtain⟨F',a8⟩:=J.putRes (O z.2 d hdn.1) hdn.2 i
      grind
     ·cases hr
   ·cases hr
  ·cases hr
 ·cases hr
inductive AK where
 |sh (T:Ty)
 |bx (e:Lb) (T:Ty) (o:Fl)
 |mv (T:Ty) (f:Fl)
@[reducible] def Zhe:List AK->Type|[]=>Unit|.sh T::r=>T.den×Zhe r|.bx _ T _::r=>T.den×Zhe r|.mv T _::r=>T.den×Zhe r
@[reducible] def JJ:List AK->Type|[]=>Unit|.sh _::r=>JJ r|.bx _ T _::r=>T.den×JJ r|.mv .. ::r=>JJ r
inductive RS where
 |vals (ts:List Ty)
 |newb (e:Lb) (T:Ty)
 |shr (ts:List Ty)
 |flg (ts:List (Ty×Fl))
 |fp (T:Ty) (j:Nat) (p1 p2:List Nat)
@[reducible] def Zcb:List (Ty×Fl)->Type|[]=>Unit|t::r=>t.1.den×Zcb r
@[reducible] def Zhf:RS->Type|.vals ts=>dp ts|.newb _ T=>T.den|.shr ts=>dp ts|.flg ts=>Zcb ts|.fp .. =>Bool
def Z23(w:Le)(X:Nat->Prop)(B:Nat):(ts:List (Ty×Fl))->Zcb ts->List La->List Nat->Prop|[],_,vs,S=>vs=[]/\S=[]|t::ts,x,vs,S=> ∃cs us S1 S2,vs=Jd t.1 cs::us/\S=S1++S2/\rdF w X B t.1 t.2 x.1 cs S1/\Z23 w X B ts x.2 us S2
def Z9p(w:Le)(X:Nat->Prop):(ts:List Ty)->dp ts->List La->Prop|[],_,vs=>vs=[]|t::ts,x,vs=> ∃cs us,vs=Jd t cs::us/\rd w X 0 K4 t x.1 cs []/\Z9p w X ts x.2 us
def rdA(w:Le)(X:Nat->Prop):(as:List AK)->Zhe as->List La->List Nat->Prop|[],_,vs,L=>vs=[]/\L=[]|.sh t::r,x,vs,L=> ∃cs us,vs=Jd t cs::us/\rd w X 0 K4 t x.1 cs []/\rdA w X r x.2 us L|.bx e t o::r,x,vs,L=> ∃b c S us L',vs=.pointer (K1 ⟨b,0,K2⟩)::us/\L=b:: (S++L')/\w.heap[b]? =K1 (.cells c e (0,0))/\rdF w X 0 t o x.1 c.toList S/\rdA w X r x.2 us L'|.mv t f::r,x,vs,L=> ∃cs S us L',vs=Jd t cs::us/\L=S++L'/\rdF w X 0 t f x.1 cs S/\rdA w X r x.2 us L'
def rdO(w:Le)(X:Nat->Prop):(as:List AK)->JJ as->List La->List Nat->List Nat->Prop|[],_,vs,BL,C=>vs=[]/\BL=[]/\C=[]|.sh _::r,x,vs,BL,C=> ∃v us,vs=v::us/\rdO w X r x us BL C|.bx e t o::r,x,vs,BL,C=> ∃b c S us BL' C',vs=.pointer (K1 ⟨b,0,K2⟩)::us/\BL=b::BL'/\C=S++C'/\w.heap[b]? =K1 (.cells c e (0,0))/\rdF w X 0 t o x.1 c.toList S/\rdO w X r x.2 us BL' C'|.mv .. ::r,x,vs,BL,C=> ∃v us,vs=v::us/\rdO w X r x us BL C
def rdS(w:Le)(X:Nat->Prop):(r:RS)->Zhf r->List La->List Nat->Prop|.vals ts,x,vs,S=>wj w 0 ts x vs S|.newb e T,x,vs,S=> ∃b c,vs=[.pointer (K1 ⟨b,0,K2⟩)]/\S=[b]/\w.heap[b]? =K1 (.cells c e (0,0))/\rd w X 0 K4 T x c.toList []|.shr ts,x,vs,S=>S=[]/\Z9p w X ts x vs|.flg ts,x,vs,S=>Z23 w X 0 ts x vs S|.fp ..,_,_,S=>S=[]
def rdP:(r:RS)->Zhf r->List La->List Nat->Prop|.fp T j p1 p2,x,vs,BL=> ∃b,BL[j]? =K1 b/\vs=[.pointer (K1 ⟨b,aB T (cond x p1 p2),K2⟩)]|.vals _,_,_,_|.newb ..,_,_,_|.shr _,_,_,_|.flg _,_,_,_=>True
structure FnB where
 f:Lh
 args:List AK
 res:RS
 F:Zhe args->Option (Zhf res×JJ args)
structure Qof(w w':Le)(X X':Nat->Prop)(L N:List Nat):Prop where
 os:w'.os=w.os
 tape:w'.tape=w.tape
 output:w'.output=w.output
 size:w.heap.size<=w'.heap.size
 xx:∀b,X b->X' b
 xlt:∀b,X' b->b<w'.heap.size
 xin:∀b,X' b->X b\/w.heap.size<=b\/b∈L
 nd:N.Nodup
 nin:∀b,b∈N->(w.heap.size<=b\/b∈L)/\b<w'.heap.size/\ ¬X' b
 block:∀b,b<w.heap.size->b∉L->w'.heap[b]? =w.heap[b]?
structure yi(P:Lf)(g:Vc)(e:FnB):Prop where
 enters:∀args w,(callFunc e.f args).run P w=.ok (.enter e.f args) w
 calls:∀(w:Le)(X:Nat->Prop)(L:List Nat)(xs:Zhe e.args)(r:Zhf e.res×JJ e.args)(vals:List La),g.G w->(∀b,g.GB b->X b)->(∀b,X b->b<w.heap.size)->(∀b,b∈L-> ¬X b/\b<w.heap.size)->L.Nodup->
  rdA w X e.args xs vals L->e.F xs=K1 r->
  Calls P e.f vals.toArray w λen w'=> ∃rs S BL C X',en=.returned (ba rs)/\Qof w w' X X' L (S++(BL++C))/\rdS w' X' e.res r.1 rs S/\rdO w' X' e.args r.2 vals BL C/\rdP e.res r.1 rs BL
abbrev Zb1:=List FnB
def Zb1.find(Γ:Zb1)(f:Lh):Option FnB:=
 match Γ with
 |[]=>K2
 |e::r=>match Ld e.f f with|true=>K1 e|false=>Zb1.find r f
def Zb1.ok(Γ:Zb1)(P:Lf)(g:Vc):Prop:= ∀e∈Γ,yi P g e
def Zb1.find_ok{Γ:Zb1}{P:Lf}{g:Vc}(h:Γ.ok P g){e:FnB}(he:Γ.find f=K1 e):e.f=f/\yi P g e:=by
 induction Γ with
 |nil=>cases he
 |cons x r a=>
  simp only[Zb1.find]at he;split at he
  ·rename_i b;simp only[pB]at he;subst he;exact⟨pD b,h _ Ae⟩
  ·exact a (λe he=>h e (by simp[he])) he
def Ztw:Fl->Fl->Ty->Bool|.u K3,f,T=>cK T f (.u K3)|.u K4,f,T=>so f T|.p a b,f,.pair A B=>Ztw a (WQ f 0) A&&Ztw b f.snd B|o,f,T=>cK T f o
def Z4f:Op1->Option Nat|.tm k (.box _ _ _ _)=>K1 k|.tm _ (.ptr r [])=>K1 r|_=>K2
def Zu4(s:St)(o:Op1)(T:Ty):Option T.den:=
 match o with
 |.cst v=>Zlf T v
 |o=>match ZS s o with
  |some ⟨U,f,x⟩=>match so f U with
   |true=>ay T U x
   |false=>K2
  |none=>K2
def VN:St->List AK->List Lc->Option (List TV×St)
 |s,.mv t f::as,x::xs=>match VC s (op1 s [] x) t with
  |some u=>match cK u.T u.f f,VN u.s as xs with
   |true,K1 (l,s')=>K1 (⟨u.T,u.x⟩::l,s')
   |_,_=>K2
  |none=>K2
 |s,.sh _::as,_::xs=>VN s as xs
 |s,.bx _ _ _::as,_::xs=>VN s as xs
 |s,_,_=>K1 ([],s)
def Zbs(s:St):List TV->(as:List AK)->List Lc->Option (Zhe as×List Nat)
 |_,[],[]=>K1 ((),[])
 |m,.sh t::as,x::xs=>match Zu4 s (op1 s [] x) t,Zbs s m as xs with
  |some u,K1 (us,rs)=>K1 ((u,us),rs)
  |_,_=>K2
 |m,.bx e t o::as,x::xs=>match Z4f (op1 s [] x)with
  |some q=>match s.get (.m q)with
   |.box e' U f y=>match Ld e' e&&Ztw o f U,ay t U y,Zbs s m as xs with
    |true,K1 u,K1 (us,rs)=>K1 ((u,us),q::rs)
    |_,_,_=>K2
   |_=>K2
  |none=>K2
 |z::m,.mv t _::as,_::xs=>match ay t z.1 z.2,Zbs s m as xs with
  |some u,K1 (us,rs)=>K1 ((u,us),rs)
  |_,_=>K2
 |_,_,_=>K2
def Ztv:List Nat->Bool|[]=>K3|x::xs=> !(xs.any (Ld x))&&Ztv xs
def uD:List AK->List Lc->St->St
 |.sh t::as,x::xs,s=>match t.flat with
  |true=>uD as xs s
  |false=>match Zu8 s (op1 s [] x)with
   |some q=>match s.get (.m q)with
    |.val U f y=>match so f U,f.live with
     |false,K3=>uD as xs (KJ s q (.val U (.u K4) y))
     |_,_=>uD as xs s
    |_=>uD as xs s
   |none=>uD as xs s
 |.bx _ _ _::as,_::xs,s=>uD as xs s
 |.mv .. ::as,_::xs,s=>uD as xs s
 |_,_,s=>s
def yO:List Nat->St->St
 |[],s=>s
 |q::rs,s=>match s.get (.m q)with
  |.box e T _ y=>yO rs (bY s q (.box e T .d y))
  |_=>yO rs s
def Z21:(as:List AK)->JJ as->List Nat->St->St|[],_,_,s=>s|.sh _::r,x,rs,s=>Z21 r x rs s|.bx e T o::r,x,q::rs,s=>Z21 r x.2 rs (bY s q (.box e T o x.1))|.bx _ _ _::_,_,[],s=>s|.mv .. ::r,x,rs,s=>Z21 r x rs s
def Zqb(d:Nat):(ts:List Ty)->dp ts->Nat->List (Key×Tm)->List (Key×Tm)|[],_,_,r=>r|t::ts,x,i,r=>Zqb d ts x.2 (i+1) ((.c d i,.val t (.u K4) x.1)::r)
def Qpq(d:Nat)(s:St):(ts:List Ty)->dp ts->St|[t],r=>Wc s d (.val t (.u K4) r.1)|[],r=>{env:=Zqb d [] r 0 (Wc s d .tup).env,pP:=(Wc s d .tup).pP,pQ:=s.pQ}|t::u::ts,r=>{env:=Zqb d (t::u::ts) r 0 (Wc s d .tup).env,pP:=(Wc s d .tup).pP,pQ:=s.pQ}
def Zza(d:Nat):(ts:List (Ty×Fl))->Zcb ts->Nat->List (Key×Tm)->List (Key×Tm)|[],_,_,r=>r|t::ts,x,i,r=>Zza d ts x.2 (i+1) ((.c d i,.val t.1 t.2 x.1)::r)
def Qsf(d:Nat)(s:St):(ts:List (Ty×Fl))->Zcb ts->St|[t],r=>Wc s d (.val t.1 t.2 r.1)|[],r=>{env:=Zza d [] r 0 (Wc s d .tup).env,pP:=(Wc s d .tup).pP,pQ:=s.pQ}|t::u::ts,r=>{env:=Zza d (t::u::ts) r 0 (Wc s d .tup).env,pP:=(Wc s d .tup).pP,pQ:=s.pQ}
def Z22(d:Nat)(s:St):(r:RS)->Zhf r->St|.vals ts,x=>Z1g d s ts x|.newb e T,x=>Wc s d (.box e T (.u K4) x)|.shr ts,x=>Qpq d s ts x|.flg ts,x=>Qsf d s ts x|.fp ..,_=>s
def Qsg{ρ:Type}(d:Nat)(rs:List Nat)(s:St):(r:RS)->Zhf r->(St->Option ρ)->Option ρ
 |.fp T j p1 p2,x,k=>match rs[j]? with
  |some q=>match s.get (.m q)with
   |.box _ U _ _=>match Lq (U=T)with
    |true=>cond x (k (Wc s d (.ptr q p1))) (k (Wc s d (.ptr q p2)))
    |false=>K2
   |_=>K2
  |none=>K2
 |.vals ts,x,k=>k (Z22 d s (.vals ts) x)
 |.newb e T,x,k=>k (Z22 d s (.newb e T) x)
 |.shr ts,x,k=>k (Z22 d s (.shr ts) x)
 |.flg ts,x,k=>k (Z22 d s (.flg ts) x)
def Zy0{ρ:Type}(Γ:Zb1)(n:Nat)(s:St)(dst:Option Nat)(f:Lh)(xs:List Lc)(k:St->Option ρ):Option ρ:=
 match Γ.find f with
 |none=>K2
 |some e=>match VN (uD e.args xs s) e.args xs with
  |none=>K2
  |some (m,s2)=>match Zbs s2 m e.args xs with
   |none=>K2
   |some (us,rs)=>match Ztv rs with
    |false=>K2
    |true=>match dst with
     |none=>(e.F us).bind λz=>k (Z21 e.args z.2 rs (yO rs s2))
     |some d=>match aX (yO rs s2) d&&Lo d n&& !(rs.any (Ld d))with
      |false=>K2
      |true=>(e.F us).bind λz=>Qsg d rs (Z21 e.args z.2 rs (yO rs s2)) e.res z.1 k
theorem Zq5{x:Nat}{l:List Nat}(h:(l.any (Ld x))=K4):x∉l:=λhx=>by
 grind[Ld,Mg,Mm]
def Zv9:∀{l:List Nat},Ztv l=K3->l.Nodup
 |[],_=>Mz
 |x::a,h=>by
  simp only[Ztv,pC,Lv]at h;exact Ls.2 ⟨Zq5 h.1,Zv9 h.2⟩
theorem cS:∀{T:Ty}{x:T.den}{vs:List La}{S:List Nat},rd w X B own T x vs S->(∀b,b∈S->B'<=b)->rd w X B' own T x vs S
 |.unit,_,_,_,h,_|.int _,_,_,_,h,_|.bool,_,_,_,h,_|.fnc _,_,_,_,h,_|.str,_,_,_,h,_=>h
 |.slice _ _,_,_,_,⟨v,u,k,l,e,m,f,g⟩,d=>by
  refine⟨v,u,k,l,e,m,?_,J6 g λ_ _ _ _ s h=>cS h λb i=>d b Ac⟩;cases own
  ·exact f
  ·obtain⟨j,p⟩:=f;refine⟨⟨j.1,j.2.imp id λ⟨b,q,r,z,G,A⟩=>⟨b,q,r,z,d b ?_,A⟩⟩,p⟩;simp_all[M1]
 |.pair a b,_,_,_,⟨C,D,k,l,e,m,f,g⟩,d=>
  ⟨C,D,k,l,e,m,cS f λb i=>d b Ac,cS g λb i=>d b Ac⟩
 |.arr n t,_,_,_,⟨h,E⟩,d=>⟨h,J6 E λ_ _ _ _ s h=>cS h λb i=>d b (s b i)⟩
 |.err,_,_,_,h,_=>h
 |.hid _,_,_,_,⟨e,y,h⟩,d=>⟨e,y,cS h d⟩
 |.sptr ..,_,_,_,⟨e,o,b,c,f,g,j,p⟩,_=>⟨e,o,b,c,f,g,j,cS p Ae⟩
 |.clo ..,_,_,_,⟨e,F,f,g⟩,_=>⟨e,F,f,cS g Ae⟩
def Zsc:∀{ts:List Ty}{x:dp ts}{vs:List La}{S:List Nat},wj w B ts x vs S->(∀b,b∈S->B'<=b)->wj w B' ts x vs S
 |[],_,_,_,h,_=>h
 |t::ts,x,vs,S,⟨c,d,e,f,g,i,j,k⟩,a=>
  ⟨c,d,e,f,g,i,cS j λb l=>a b Ac,Zsc k λb l=>a b Ac⟩
def Qiy{e:Lb}{n:Nat}{xs:List La}(hB:B'<=B)(hX:∀b,X b->X' b)(h:hdr w X B own e sz n v xs S):hdr w X' B' own e sz n v xs S:=by
 cases own
 ·obtain⟨g,i,a,c,j,k,l,m⟩:=h;exact⟨g,i,a,c,j,k,l,m.imp id λ⟨o,p,q,r⟩=>⟨o,p,q.imp id (hX _),r⟩⟩
 ·obtain⟨f,s⟩:=h;exact⟨⟨f.1,f.2.imp id λ⟨b,c,d,t,u,x⟩=>⟨b,c,d,t,Lm hB u,x⟩⟩,s⟩
def Qbb{e:Lb}{n:Nat}{xs:List La}(h1:hdr w X B own e sz n v xs S)(hS:∀b,b∈S->B'<=b):hdr w X B' own e sz n v xs S:=by
 cases own
 ·exact h1
 ·obtain⟨d,f⟩:=h1;refine⟨⟨d.1,d.2.imp id λ⟨b,a,c,g,i,h⟩=>⟨b,a,c,g,hS b ?_,h⟩⟩,f⟩;simp_all[M1]
def XP(hB:B'<=B)(hX:∀b,X b->X' b):∀{T:Ty}{f:Fl}{x:T.den}{vs:List La}{S:List Nat},rdF w X B T f x vs S->rdF w X' B' T f x vs S
 |T,.d,_,_,_,h=>Ak
 |T,.u b,_,_,_,h=>by grind[rdF,km]
 |.pair a b,.p f g,_,_,_,⟨j,k,l,m,e,n,c,i⟩=>⟨j,k,l,m,e,n,XP hB hX c,XP hB hX i⟩
 |.slice e t,.p f g,_,_,_,h=>by
  obtain⟨rfl,rfl,v,o,q,c,i⟩:=nC h;exact⟨v,o,q,Qiy hB hX c,J6 i λ_ _ _ _ _ h=>km hB hX h⟩
 |.unit,.p ..,_,_,_,h|.int _,.p ..,_,_,_,h|.bool,.p ..,_,_,_,h|.fnc _,.p ..,_,_,_,h|.str,.p ..,_,_,_,h|.err,.p ..,_,_,_,h|.hid _,.p ..,_,_,_,h|.sptr ..,.p ..,_,_,_,h|.clo ..,.p ..,_,_,_,h|.arr ..,.p ..,_,_,_,h=>by simp[rdF]at h
theorem Zgx:∀{T:Ty}{f:Fl}{x:T.den}{vs:List La}{S:List Nat},rdF w X B T f x vs S->(∀b,b∈S->B'<=b)->rdF w X B' T f x vs S
 |T,.d,_,_,_,h,_=>Ak
 |T,.u b,_,_,_,h,c=>by grind[rdF,cS]
 |.pair a b,.p f g,_,_,_,⟨l,m,n,o,e,q,i,j⟩,c=>⟨l,m,n,o,e,q,Zgx i λb k=>c b Ac,Zgx j λb k=>c b Ac⟩
 |.slice e t,.p f g,_,_,_,h,c=>by
  obtain⟨rfl,rfl,v,r,s,i,j⟩:=nC h;exact⟨v,r,s,Qbb i c,J6 j λ_ _ _ _ y h=>cS h λb k=>absurd (y b k) Ae⟩
 |.unit,.p ..,_,_,_,h,_|.int _,.p ..,_,_,_,h,_|.bool,.p ..,_,_,_,h,_|.fnc _,.p ..,_,_,_,h,_|.str,.p ..,_,_,_,h,_|.err,.p ..,_,_,_,h,_|.hid _,.p ..,_,_,_,h,_|.sptr ..,.p ..,_,_,_,h,_|.clo ..,.p ..,_,_,_,h,_|.arr ..,.p ..,_,_,_,h,_=>by simp[rdF]at h
theorem Zc5:∀{o f:Fl}{T:Ty}{x:T.den}{vs:List La}{S:List Nat},Ztw o f T=K3->rdF w X B T f x vs S->rdF w X B T o x vs S
 |.u K3,f,T,x,vs,S,h,c=>by grind[Ztw,oI]
 |.u K4,f,T,x,vs,S,h,c=>by
  unfold Ztw at h;have e:=kK h c;subst e;have:∀{f:Fl}{T:Ty},so f T=K3->f.live=true:=by
   intro f
   induction f with
   |u b=>intro T _;rfl
   |d=>simp_all[so]
   |p s t g i=>
    intro T h;cases T<;>simp[so]at h
    grind[Fl.live]
  unfold rdF;exact Vo (λ_ h=>h) (this h) c Ae
 |.p a b,f,.pair A v,x,vs,S,h,c=>by
  unfold Ztw at h;simp only[pC]at h;obtain⟨j,k,l,m,e,n,q,r⟩:=XR c;exact⟨j,k,l,m,e,n,Zc5 h.1 q,Zc5 h.2 r⟩
 |.p a b,f,.slice ..,x,vs,S,h,c|.p a b,f,.unit,x,vs,S,h,c|.p a b,f,.int _,x,vs,S,h,c|.p a b,f,.bool,x,vs,S,h,c|.p a b,f,.str,x,vs,S,h,c|.p a b,f,.arr ..,x,vs,S,h,c|.p a b,f,.fnc _,x,vs,S,h,c|.p a b,f,.err,x,vs,S,h,c|.p a b,f,.hid _,x,vs,S,h,c|.p a b,f,.sptr ..,x,vs,S,h,c|.p a b,f,.clo ..,x,vs,S,h,c=>by unfold Ztw at h;exact oI h c
 |.d,f,T,x,vs,S,h,c=>by grind[Ztw,oI]
def Zse(h:R n W0 w X F H s a){T:Ty}{y:T.den}(hr:Zu4 s (op1 s [] x) T=K1 y):
  ∃vs,a.eval x=Jd T vs/\rd w X 0 K4 T y vs []:=by
 unfold Zu4 at hr;split at hr
 ·rename_i v hv;obtain rfl:=Zdm hv;obtain⟨vs,c,b⟩:=Za8 (w:=w) (X:=X) (B:=0) (own:=K4) hr;exact⟨vs,c,b⟩
 ·split at hr
  ·rename_i U f k d;obtain⟨g,vs,S,c,b,l⟩:=lJ h (tg:=[]) (λp i=>by cases i) d;split at hr
   ·rename_i j;cases fG hr;have e:=kK j b;subst e;exact⟨vs,c,km (Lt _) (λ_ h=>h) (Vo (λ_ h=>h) g b Ae)⟩
   ·cases hr
  ·cases hr
def Qbo(F:Key->List Nat)(s:St):List AK->List Nat->List La->Prop|[],rs,vs=>rs=[]/\vs=[]|.sh _::as,rs,vs=> ∃v us,vs=v::us/\Qbo F s as rs us|.bx e T _::as,rs,vs=> ∃q rs' b S us f y,rs=q::rs'/\vs=.pointer (K1 ⟨b,0,K2⟩)::us/\F (.m q)=b::S/\s.get (.m q)=.box e T f y/\Qbo F s as rs' us|.mv .. ::as,rs,vs=> ∃v us,vs=v::us/\Qbo F s as rs us
theorem Zdp(h:R n W0 w X F H s a)(hq:Z4f (op1 s [] x)=K1 q){e:Lb}{T:Ty}{f:Fl}{y:T.den}(hg:s.get (.m q)=.box e T f y):a.eval x=Xj W0.gh a (.m q):=by
 unfold Z4f at hq;split at hq
 ·rename_i k g i j l hx;simp only[pB]at hq;subst hq;obtain⟨rfl,u,_⟩:=wh hx;simp_all[Jf]
 ·rename_i k r hx;simp only[pB]at hq;subst hq;obtain⟨rfl,_,g,i,j,l,b,S,v,o,z⟩:=V0 h (tg:=[]) (λp t=>by cases t) hx Ae;have hs:=h.slots (.m r);rw[hg]at hs;obtain⟨A,c,B,C,d,_⟩:=hs;rw[o]at d;obtain⟨rfl,_⟩:=Ll d;simp_all[aB]
 ·cases hq
def mvs(w:Le)(X:Nat->Prop)(ev:Lc->La):List TV->List AK->List Lc->List Nat->Prop|z::m,.mv t f::as,x::xs,M=> ∃vs S M',M=S++M'/\ev x=Jd z.1 vs/\rdF w X 0 z.1 f z.2 vs S/\t=z.1/\mvs w X ev m as xs M'|m,.sh _::as,_::xs,M=>mvs w X ev m as xs M|m,.bx _ _ _::as,_::xs,M=>mvs w X ev m as xs M|_,_,_,_=>True
def R.perm(h:R n W0 w X F H s a)(hp:H'.Perm H):R n W0 w X F H' s a:=
 {h with
  hown:=λb c=>h.hown b (hp.mem_iff.1 c)
  pK:=hp.nodup_iff.2 h.pK
  pL:=λk b c d=>h.pL k b c (hp.mem_iff.1 d)}
def WX:∀{as:List AK}{xs:List Lc}{s s2:St}{m:List TV}{F:Key->List Nat}{H:List Nat},R n W0 w X F H s a->VN s as xs=K1 (m,s2)->
  ∃M F',R n W0 w X F' (M++H) s2 a/\(∀b,b∈M->W0.B<=b)/\mvs w X a.eval m as xs M/\(∀q,s.isBox q->s2.isBox q)
 |.mv t f::as,x::xs,s,s2,m,F,H,h,c=>by
  simp only[VN]at c;split at c
  ·rename_i u o;split at c
   ·rename_i l J v y;simp only[pB,pF]at c;obtain⟨rfl,rfl⟩:=c;obtain⟨z,K,S,A,C,D,E,_,_⟩:=eL h (tg:=[]) (λp G=>by cases G) o;have r:=oI v D;obtain⟨M,d,e,g,i,j⟩:=WX E y;refine⟨S++M,d,e.perm ?_,λb k=>(List.mem_append.1 k).elim (λk=>(Zx9 r b k).1) (g b),⟨A,S,M,rfl,C,XP (Lt _) (λ_ h=>h) r,z.symm,i⟩,λq I=>j q (ZO o I)⟩
    grind
   ·cases c
  ·cases c
 |.sh t::as,x::xs,s,s2,m,F,H,h,c=>by
  simp only[VN]at c;obtain⟨M,d,e,g,i,j⟩:=WX h c;exact⟨M,d,e,g,by cases m<;>exact i,j⟩
 |.bx _ _ _::as,x::xs,s,s2,m,F,H,h,c=>by
  simp only[VN]at c;obtain⟨M,d,e,g,i,j⟩:=WX h c;exact⟨M,d,e,g,by cases m<;>exact i,j⟩
 |[],xs,s,s2,m,F,H,h,c=>by
  simp only[VN,pB,pF]at c;obtain⟨rfl,rfl⟩:=c;exact⟨[],F,h,Ae,by cases xs<;>trivial,λ_ h=>h⟩
 |.mv .. ::_,[],s,s2,m,F,H,h,c|.sh _::_,[],s,s2,m,F,H,h,c|.bx _ _ _::_,[],s,s2,m,F,H,h,c=>by
  simp only[VN,pB,pF]at c;obtain⟨rfl,rfl⟩:=c;exact⟨[],F,h,Ae,trivial,λ_ h=>h⟩
def Zdn(h:R n W0 w X F H s a):∀{m:List TV}{as:List AK}{xs:List Lc}{us:Zhe as}{rs:List Nat}{M:List Nat},mvs w X a.eval m as xs M->M.Nodup->(∀k b,b∈F k->b∉M)->Zbs s m as xs=K1 (us,rs)->Ztv rs=K3->
  ∃L,rdA w X as us (xs.map a.eval) L/\Qbo F s as rs (xs.map a.eval)/\L.Nodup/\(∀b,b∈L->(∃q,q∈rs/\b∈F (.m q))\/b∈M)
 |m,[],[],us,rs,M,p,g,i,d,r=>by
  simp only[Zbs,pB,pF]at d;obtain⟨_,rfl⟩:=d;exact⟨[],⟨rfl,rfl⟩,⟨rfl,rfl⟩,Mz,Ae⟩
 |m,.sh t::as,x::xs,us,rs,M,p,g,i,d,r=>by
  have v:mvs w X a.eval m as xs M:=by cases m<;>exact p
  simp only[Zbs]at d;split at d
  ·rename_i u B l C j;simp only[pB,pF]at d;obtain⟨rfl,rfl⟩:=d;obtain⟨cs,P,W⟩:=Zse h C;obtain⟨L,D,E,G,N⟩:=Zdn (as:=as) (xs:=xs) h v g i j r;exact⟨L,⟨cs,_,by simp[P],W,D⟩,⟨_,_,rfl,E⟩,G,N⟩
  ·cases d
 |m,.bx e t o::as,x::xs,us,rs,M,p,g,i,d,r=>by
  have v:mvs w X a.eval m as xs M:=by cases m<;>exact p
  simp only[Zbs]at d;split at d
  ·rename_i q hq;split at d
   ·rename_i e' U f y Q;split at d
    ·rename_i u B l A C j;simp only[pB,pF]at d;obtain⟨rfl,rfl⟩:=d;simp only[pC]at A;have he:=pD A.1;subst he;cases fG C;simp only[Ztv,pC,Lv]at r;obtain⟨L,D,E,G,N⟩:=Zdn (as:=as) (xs:=xs) h v g i j r.2;have I:=Zdp h hq Q;have hs:=h.slots (.m q);rw[Q]at hs;obtain⟨b,c,S,O,J,Y,g4⟩:=hs;have ab:q∉l:=Zq5 r.1;refine⟨b:: (S++L),⟨b,c,S,_,L,by simp[I,O],rfl,Y,?_,D⟩,⟨q,l,b,S,_,f,_,rfl,by simp[I,O],J,Q,E⟩,?_,?_⟩
     ·exact XP (Lt _) (λ_ h=>h) (Zc5 A.2 g4)
     ·have K:=h.nodup (.m q);rw[J]at K;have:(b::S++L).Nodup:=Lg.2 ⟨K,G,λx hx y Z e=>by
       subst e;rcases N x Z with⟨q',ad,V⟩|hM
       ·have:=h.pS (.m q) (.m q') x (by rw[J];exact hx) V;simp_all
       grind⟩
      simpa using this
     grind
    ·cases d
   ·cases d
  ·cases d
 |z::m,.mv t f::as,x::xs,us,rs,M,p,g,i,d,r=>by
  simp only[Zbs]at d;split at d
  ·rename_i u B l C j;simp only[pB,pF]at d;obtain⟨rfl,rfl⟩:=d;obtain⟨vs,S,M',rfl,P,W,rfl,h3⟩:=p;have am:=fG C;have ar:z.2=u:=Ac
   obtain⟨O,J,Y⟩:=Lg.1 g;obtain⟨L,D,E,G,N⟩:=Zdn h h3 J (λk b hb p=>i k b hb (by simp[p])) j r;refine⟨S++L,⟨vs,S,_,L,by simp[P],rfl,Ac,D⟩,⟨_,_,rfl,E⟩,Lg.2 ⟨O,G,λy Z y' au e=>?_⟩,λb hb=>?_⟩
   all_goals grind
  ·cases d
 |[],.mv .. ::_,_,_,_,_,_,_,_,d,_=>by grind[Zbs]
 |_::_,.mv .. ::_,[],_,_,_,_,_,_,d,_=>by grind[Zbs]
 |_,[],_::_,_,_,_,_,_,_,d,_=>by grind[Zbs]
 |_,.sh _::_,[],_,_,_,_,_,_,d,_|_,.bx .. ::_,[],_,_,_,_,_,_,d,_=>by simp[Zbs]at d
def R.frz(hs0:g.soft=K4)(h:R n W0 w X F H s a){T:Ty}{f:Fl}{x:T.den}(hg:s.get (.m k)=.val T f x)(hf:f.live=K3):
  R n W0 w (λb=>X b\/b∈F (.m k)) (Xm F (.m k) []) H (KJ s k (.val T (.u K4) x)) a:=by
 have z:Zee W0.gh w w s (KJ s k (.val T (.u K4) x)) F (Xm F (.m k) []) a k (.val T (.u K4) x):=xc ⟨by rw[Ja];simp,λp v U hv=>by
  simp_all[Yv,Ja]⟩
 exact
 {size:=h.size
  defers:=h.defers
  below:=h.below
  glob:=h.glob
  gx:=λb c=>.inl (h.gx b c)
  xs:=λe=>Ac
  fix:=h.fix
  xlt:=λb c=>c.elim (h.xlt b) λc=>(h.own _ b c).2.1
  xin:=λb c=>c.elim (h.xin b) λc=>.inr (h.own _ b c).1
  x0:=λb c=>.inl (h.x0 b c)
  own:=λj b c=>by
   simp only[Xm]at c;split at c
   ·cases c
   ·rename_i q;obtain⟨o,r,t⟩:=h.own j b c;exact⟨o,r,λhx=>hx.elim t λhk=>q (h.pS j (.m k) b c hk)⟩
  nodup:=λj=>by
   simp only[Xm];split
   ·simp
   ·exact h.nodup j
  pS:=λj A b c l=>by
   simp only[Xm]at c l;split at c
   ·cases c
   ·split at l
    ·cases l
    ·exact h.pS j A b c l
  hown:=λb c=>let⟨o,r,t⟩:=h.hown b c;⟨o,r,λhx=>hx.elim t λhk=>h.pL _ b hk c⟩
  pK:=h.pK
  pL:=λj b c=>by
   simp only[Xm]at c;split at c
   ·cases c
   ·exact h.pL j b c
  pM:=λd i y=>by
   rw[Ja]at y⊢;simp only[reduceCtorEq,if_false]at y;obtain⟨o,r⟩:=h.pM d i y
   grind
  slots:=λj=>by
   by_cases q:j=.m k
   ·subst q;have hs:=h.slots (.m k);rw[hg]at hs;obtain⟨B,o,r⟩:=hs;rw[Ja];simp only[if_true,Xm];exact⟨B,o,by grind[rdF,Vo]⟩
   ·have e:Xm F (.m k) [] j=F j:=by simp[Xm,q]
    rw[Ja,e];simp only[Lk q,if_false];exact Zsy z (λ_ h=>.inl h) (λ_ _=>rfl) (λ_ _ _ _=>rfl) (λ_ _=>rfl) (λe C D E b S c=>Ac) (h.slots j)}
def kt(hs0:g.soft=K4):∀{as:List AK}{xs:List Lc}{s:St}{X:Nat->Prop}{F:Key->List Nat},R n W0 w X F H s a-> ∃X' F',R n W0 w X' F' H (uD as xs s) a/\(∀b,X b->X' b)/\ ∀q,s.isBox q->(uD as xs s).isBox q
 |[],_,s,X,F,h=>⟨X,F,h,λ_ h=>h,λ_ h=>h⟩
 |.sh t::as,[],s,X,F,h=>⟨X,F,h,λ_ h=>h,λ_ h=>h⟩
 |.bx _ _ _::as,[],s,X,F,h=>⟨X,F,h,λ_ h=>h,λ_ h=>h⟩
 |.mv .. ::as,[],s,X,F,h=>⟨X,F,h,λ_ h=>h,λ_ h=>h⟩
 |.mv .. ::as,_::xs,s,X,F,h=>kt hs0 (as:=as) (xs:=xs) h
 |.bx _ _ _::as,_::xs,s,X,F,h=>kt hs0 (as:=as) (xs:=xs) h
 |.sh t::as,x::xs,s,X,F,h=>by
  simp only[uD];split
  ·exact kt hs0 h
  ·split
   ·split
    ·rename_i U f y d;split
     ·rename_i i;obtain⟨X',F',j,k,l⟩:=kt hs0 (as:=as) (xs:=xs) (R.frz hs0 h d i);refine⟨X',F',j,λb m=>k b (.inl m),λq c=>l q ?_⟩;obtain⟨e,T,o,p,c⟩:=c;refine⟨e,T,o,p,?_⟩;rw[Ja,if_neg]
      all_goals grind
     ·exact kt hs0 h
    ·exact kt hs0 h
   ·exact kt hs0 h
def R.xup(hs0:g.soft=K4)(h:R n W0 w X F H s a)(hX:∀b,X b->X' b)(hlt:∀b,X' b->b<w.heap.size)(hin:∀b,X' b->W0.X0 b\/W0.mine b)(hF:∀k b,b∈F k-> ¬X' b)(hH:∀b,b∈H-> ¬X' b):R n W0 w X' F H s a:=
 {h with
  gx:=λb c=>hX b (h.gx b c)
  xs:=λe=>Ac
  xlt:=hlt
  xin:=hin
  x0:=λb c=>hX b (h.x0 b c)
  own:=λk b c=>let⟨h1,h2,_⟩:=h.own k b c;⟨h1,h2,hF k b c⟩
  hown:=λb c=>let⟨h1,h2,_⟩:=h.hown b c;⟨h1,h2,hH b c⟩
  slots:=λk=>qp hX (λ_ _=>rfl) (λ_ _ _=>rfl) (λ_ _=>rfl) (h.slots k)}
def Qa7(s:St)(k:Nat)(e:Lb)(T:Ty)(x:T.den):St:=bY (bY s k (.box e T .d x)) k (.box e T (.u K4) x)
theorem R.frzX(hs0:g.soft=K4)(h:R n W0 w X F H s a){e:Lb}{T:Ty}{f:Fl}{x:T.den}(hg:s.get (.m k)=.box e T f x)(hf:f.live=K3):
  ∃X' F',R n W0 w X' F' H (Qa7 s k e T x) a/\ ∀b,X b->X' b:=by
 have hs:=h.slots (.m k);rw[hg]at hs;obtain⟨b,c,S,q,r,t,u⟩:=hs;have o:=h.nodup (.m k);rw[r]at o;have z:∀j∈b::S,j∉H:=λj i=>h.pL (.m k) j Ac;have l:∀j∈S,j∈F (.m k):=λj i=>Ac
 have A:R n W0 w X (Xm F (.m k) [b]) (S++H) (bY s k (.box e T .d x)) a:=by
  refine h.turn (S':=[b]) (H':=S++H) h.below (Li _) (λ_ _=>rfl) (λ_ _ _ _=>rfl) ?_ ?_ (by rw[hg];simp) ?_ ?_
  ·simp_all
  ·refine Lg.2 ⟨Ae,Lg.2 ⟨(Ls.1 o).2,h.pK,λx hx y p e=>z x (by simp[hx]) (by rw[e];exact p)⟩,λx hx y p e=>?_⟩;simp_all
  ·grind
  ·exact⟨b,c,[],q,rfl,t,by unfold rdF;exact⟨K0 u,oH u,rfl⟩⟩
 have v:R n W0 w (λj=>X j\/j∈S) (Xm F (.m k) [b]) H (bY s k (.box e T .d x)) a:=by
  refine R.xup hs0 A.drop (λ_ h=>.inl h) (λj i=>i.elim (h.xlt j) λi=>(h.own _ j (l j i)).2.1) (λj i=>i.elim (h.xin j) λi=>.inr (h.own _ j (l j i)).1) (λB j i hx=>?_) (λj i hx=>?_)
  ·simp only[Xm]at i;split at i
   ·simp only[My]at i;subst i;rcases hx with hx|hx
    ·exact(h.own (.m k) j (by rw[r];simp)).2.2 hx
    simp_all
   ·rename_i hk;rcases hx with hx|hx
    ·exact(h.own B j i).2.2 hx
    ·exact hk (h.pS _ _ j i (l j hx))
  ·rcases hx with hx|hx
   ·exact(h.hown j i).2.2 hx
   simp_all
 refine⟨λj=>X j\/j∈S,Xm (Xm F (.m k) [b]) (.m k) [b],?_,λ_ h=>.inl h⟩;have C:Xm F (.m k) [b] (.m k)=[b]:=by simp[Xm]
 refine v.turn (S':=[b]) (H':=H) v.below (Li _) (λ_ _=>rfl) (λ_ _ _ _=>rfl) ?_ ?_ (by rw[Vr];simp) ?_ ?_
 ·grind
 ·exact Lg.2 ⟨Ae,h.pK,λx hx y p e=>by
   simp_all⟩
 ·grind[Vr]
 ·exact⟨b,c,[],q,rfl,t,by grind[rdF,Vo]⟩
def Qrf(s:St)(k:Nat):St:=match s.get (.m k)with
 |.val U f y=>match f.live with
  |true=>KJ s k (.val U (.u K4) y)
  |false=>s
 |.box e T f x=>match f.live with
  |true=>Qa7 s k e T x
  |false=>s
 |_=>s
def Qa5(hs0:g.soft=K4)(h:R n W0 w X F H s a)(k:Nat):∃X' F',R n W0 w X' F' H (Qrf s k) a:=by
 unfold Qrf;split
 ·rename_i U f y b;split
  ·rename_i c;exact⟨_,_,R.frz hs0 h b c⟩
  grind
 all_goals grind[R.frzX]
def Zer:Fl->Ty->Fl->Fl
 |.u K4,_,f=>match f.live with
  |true=>.u K4
  |false=>f
 |.u K3,_,f=>f
 |.d,_,f=>f
 |.p a b,.pair A B,f=>.p (Zer a A (WQ f 0)) (Zer b B f.snd)
 |.p (.u K3) (.u K4),.slice _ _,.u K3=>.p (.u K3) (.u K4)
 |.p _ _,_,f=>f
def Zu1:∀{o:Fl}{T:Ty}{f:Fl}{x:T.den}{vs:List La}{S:List Nat},S.Nodup->rdF w X B T f x vs S->
  ∃S',S'.Sublist S/\ ∀X':Nat->Prop,(∀b,X b->X' b)->(∀b,b∈S->b∉S'->X' b)->rdF w X' B T (Zer o T f) x vs S'
 |.u K4,T,f,x,vs,S,c,h=>by
  cases hl:f.live
  ·refine⟨S,L1 _,λX' g _=>?_⟩;simp only[Zer,hl];exact XP (Li _) g h
  ·refine⟨[],List.nil_sublist _,λX' g j=>?_⟩
   grind[Zer,rdF,Vo]
 |.u K3,T,f,x,vs,S,c,h=>⟨S,L1 _,λX' g _=>by unfold Zer;exact XP (Li _) g h⟩
 |.d,T,f,x,vs,S,c,h=>⟨S,L1 _,λX' g _=>by unfold Zer;exact XP (Li _) g h⟩
 |.p a b,.pair A N,f,x,vs,S,c,h=>by
  obtain⟨C,D,r,E,e,F,l,m⟩:=XR h;subst F;have k:=Lg.1 c;obtain⟨s,G,H⟩:=Zu1 (o:=a) k.1 l;obtain⟨y,I,J⟩:=Zu1 (o:=b) k.2.1 m;refine⟨s++y,List.Sublist.append G I,λX' g j=>?_⟩;refine⟨C,D,s,y,e,rfl,H X' g λb i n=>j b (by simp[i]) λq=>?_,J X' g λb i n=>j b (by simp[i]) λq=>?_⟩
  all_goals grind
 |.p a b,.slice e t,f,x,vs,S,c,h=>by
  by_cases K:a=.u K3/\b=.u K4/\f=.u K3
  ·obtain⟨rfl,rfl,rfl⟩:=K;unfold rdF at h;obtain⟨v,L,r,E,M,rfl,l,m⟩:=h;refine⟨r,Ae,λX' g j=>?_⟩;exact⟨v,L,M,Zjd l g (λ_ _=>rfl) (λ_ _=>rfl),wk m λ_ _ T _ z h=>mH g h λb i=>j b (by simp[z b i]) λq=>(Lg.1 c).2.2 b q b (z b i) rfl⟩
  ·have e:Zer (.p a b) (.slice e t) f=f:=by
    unfold Zer
    grind
   refine⟨S,L1 _,λX' g _=>?_⟩;rw[e];exact XP (Li _) g h
 |.p _ _,.unit,f,x,vs,S,c,h|.p _ _,.int _,f,x,vs,S,c,h|.p _ _,.bool,f,x,vs,S,c,h|.p _ _,.str,f,x,vs,S,c,h|.p _ _,.arr ..,f,x,vs,S,c,h|.p _ _,.fnc _,f,x,vs,S,c,h|.p _ _,.err,f,x,vs,S,c,h|.p _ _,.hid _,f,x,vs,S,c,h|.p _ _,.sptr ..,f,x,vs,S,c,h|.p _ _,.clo ..,f,x,vs,S,c,h=>
  ⟨S,L1 _,λX' g _=>by unfold Zer;exact XP (Li _) g h⟩
def Qmi(s:St)(k:Nat)(o:Fl):St:=match s.get (.m k)with
 |.box e T f x=>KJ s k (.box e T (Zer o T f) x)
 |_=>s
def R.frzP(hs0:g.soft=K4)(h:R n W0 w X F H s a)(k:Nat)(o:Fl):∃X' F',R n W0 w X' F' H (Go.Am.Qmi s k o) a:=by
 unfold Go.Am.Qmi;split
 ·rename_i e T f x E;have hs:=h.slots (.m k);rw[E]at hs;obtain⟨b,c,S,J,K,L,M⟩:=hs;have u:=h.nodup (.m k);rw[K]at u;have N:=(Ls.1 u).1;obtain⟨r,y,O⟩:=Zu1 (o:=o) (Ls.1 u).2 M;have P:∀b,b∈r->b∈S:=λb q=>y.subset q;have Q:Zee W0.gh w w s (KJ s k (.box e T (Zer o T f) x)) F (Xm F (.m k) (b::r)) a k (.box e T (Zer o T f) x):=xc ⟨by rw[Ja];simp,λp v U hv=>by
   unfold Yv at hv⊢;rw[E]at hv;rw[Ja]
   grind⟩
  have hk:∀l,l∈b::S->l∈F (.m k):=λl t=>Ac
  refine⟨λl=>X l\/(l∈S/\l∉r),Xm F (.m k) (b::r),
  {size:=h.size
   defers:=h.defers
   below:=h.below
   glob:=h.glob
   gx:=λb q=>.inl (h.gx b q)
   xs:=λe=>Ac
   fix:=h.fix
   xlt:=λl q=>q.elim (h.xlt l) λq=>(h.own _ l (hk l (by simp[q.1]))).2.1
   xin:=λl q=>q.elim (h.xin l) λq=>.inr (h.own _ l (hk l (by simp[q.1]))).1
   x0:=λb q=>.inl (h.x0 b q)
   own:=λj l q=>?_
   nodup:=λj=>?_
   pS:=λj G l q t=>?_
   hown:=λl q=>let⟨z,A,C⟩:=h.hown l q;⟨z,A,λhx=>hx.elim C λhx=>h.pL _ l (hk l (by simp[hx.1])) q⟩
   pK:=h.pK
   pL:=λj l q=>?_
   pM:=λd i D=>?_
   slots:=λj=>?_}⟩
  ·simp only[Xm]at q;split at q
   ·have V:l∈b::S:=Ag
    obtain⟨z,A,C⟩:=h.own _ l (hk l V)
    grind
   ·rename_i B;obtain⟨z,A,C⟩:=h.own j l q;exact⟨z,A,λhx=>hx.elim C λhx=>B (h.pS j (.m k) l q (hk l (by simp[hx.1])))⟩
  ·simp only[Xm];split
   ·grind
   ·exact h.nodup j
  ·have I:∀j,l∈Xm F (.m k) (b::r) j->l∈F j:=λj q=>by
    grind
   exact h.pS j G l (I j q) (I G t)
  ·simp only[Xm]at q;split at q
   ·exact h.pL (.m k) l (hk l Ag)
   ·exact h.pL j l q
  ·rw[Ja]at D⊢;simp only[reduceCtorEq,if_false]at D;obtain⟨z,A⟩:=h.pM d i D
   grind
  ·by_cases B:j=.m k
   ·subst B;rw[Ja];simp only[if_true];rw[show Xm F (.m k) (b::r) (.m k)=b::r from by simp[Xm]];exact⟨b,c,r,J,rfl,L,O _ (λ_ h=>.inl h) λb q t=>.inr ⟨q,t⟩⟩
   ·have W:Xm F (.m k) (b::r) j=F j:=by simp[Xm,B]
    rw[Ja,W];simp only[Lk B,if_false];exact Zsy Q (λ_ h=>.inl h) (λ_ _=>rfl) (λ_ _ _ _=>rfl) (λ_ _=>rfl) (λZ T' f' x' b2 S2 q Y=>by
     grind) (h.slots j)
 grind
def Qmj(s:St)(k:Nat):Fl->St|.u K3=>s|.u K4=>Qrf s k|o=>Qmi s k o
def Zzx(hs0:g.soft=K4)(h:R n W0 w X F H s a)(k:Nat)(o:Fl):∃X' F',R n W0 w X' F' H (Qmj s k o) a:=by
 unfold Qmj;split
 ·grind
 ·exact Qa5 hs0 h k
 ·exact R.frzP hs0 h k _
def Qiu:List (Nat×Fl)->St->St|[],s=>s|(k,o)::r,s=>Qiu r (Qmj s k o)
def Zvz(hs0:g.soft=K4):∀{L:List (Nat×Fl)}{s:St}{X:Nat->Prop}{F:Key->List Nat},R n W0 w X F H s a-> ∃X' F',R n W0 w X' F' H (Qiu L s) a
 |[],s,X,F,h=>⟨X,F,h⟩
 |(k,o)::r,s,X,F,h=>by
  obtain⟨c,d,b⟩:=Zzx hs0 h k o;exact Zvz hs0 (L:=r) b
theorem Zvg:∀{rs:List Nat}{s:St}{k:Key},(∀q,q∈rs->k≠ .m q)->(yO rs s).get k=s.get k
 |[],s,k,_=>rfl
 |q::rs,s,k,h=>by
  simp only[yO];split
  ·rw[Zvg λq a=>h q (by simp[a]),Vr,if_neg (Lk (h q Ae))]
  ·exact Zvg λq a=>h q (by simp[a])
theorem Zps:∀{rs:List Nat}{s:St}{r:Nat},s.pN r=K3->(yO rs s).pN r=K3
 |[],s,r,h=>h
 |q::rs,s,r,h=>by
  simp only[yO];split
  ·refine Zps ?_
   grind[bY,ZQ]
  ·exact Zps h
theorem Z2f(s:St)(q:Nat)(t:Tm):(bY s q t).pN q=true:=by
 cases hc:(bY s q t).pN q
 ·exact absurd rfl (ZQ hc).2
 ·rfl
def R.wreck:∀{rs:List Nat}{s:St}{F:Key->List Nat},R n W0 w X F H s a->rs.Nodup->(∀q,q∈rs->s.isBox q)->
  ∃F',R n W0 w X F' H (Go.Am.yO rs s) a/\(∀k,(∀q,q∈rs->k≠ .m q)->F' k=F k)/\
   ∀q,q∈rs-> ∃e T f y b S,s.get (.m q)=.box e T f y/\F (.m q)=b::S/\(Go.Am.yO rs s).get (.m q)=.box e T .d y/\F' (.m q)=[b]/\(Go.Am.yO rs s).pN q=K3
 |[],s,F,h,_,_=>⟨F,h,λ_ _=>rfl,Ae⟩
 |q::rs,s,F,h,t,j=>by
  obtain⟨e,T,f,y,l⟩:=j q Ae;have hs:=h.slots (.m q);rw[l]at hs;obtain⟨b,c,S,u,v,z,o⟩:=hs;have i:=Ls.1 t;have A:R n W0 w X (Xm F (.m q) [b]) H (bY s q (.box e T .d y)) a:=by
   refine h.turn h.below (Li _) (λ_ _=>rfl) (λ_ _ _ _=>rfl) ?_ ?_ (by rw[l];simp) ?_ ?_
   ·simp_all
   ·refine Lg.2 ⟨Ae,h.pK,λx hx y B e=>?_⟩;simp only[My]at hx;subst hx;subst e;exact h.pL (.m q) x (by rw[v];simp) B
   ·grind
   ·exact⟨b,c,[],u,rfl,z,by unfold rdF;exact⟨K0 o,oH o,rfl⟩⟩
  have p:∀g,g∈rs->(bY s q (.box e T .d y)).get (.m g)=s.get (.m g):=λg hq'=>by
   rw[Vr,if_neg]
   grind
  obtain⟨F',C,L,M⟩:=R.wreck A i.2 (λg hq'=>by
   obtain⟨D,E,G,I,J⟩:=j g (by simp[hq']);exact⟨D,E,G,I,Ac⟩)
  have r:Go.Am.yO (q::rs) s=Go.Am.yO rs (bY s q (.box e T .d y)):=by simp_all[Go.Am.yO]
  have K:∀g,g∈rs->Key.m q≠ .m g:=λg hq' e=>Ac
  refine⟨F',by rw[r];exact C,λk hk=>?_,λg hq'=>?_⟩
  ·simp_all
  ·rw[r];rcases L3.1 hq' with rfl|hq'
   all_goals grind[Zps,Z2f,Zvg,Vr]
def R.worldD{rs:List Nat}(h:R n W0 w X F H s a)(hb:W0.below w')(hs:w.heap.size<=w'.heap.size)(hX:∀b,X b->w'.heap[b]? =w.heap[b]?)
  (hr:∀q,q∈rs->s.pN q=K3/\ ∃e T y b c,s.get (.m q)=.box e T .d y/\F (.m q)=[b]/\w'.heap[b]? =K1 (.cells c e (0,0))/\c.toList.length=T.size/\ ∀u∈c.toList,u.oneCell'=K3)
  (hF:∀k,(∀q,q∈rs->k≠ .m q)-> ∀b∈F k,w'.heap[b]? =w.heap[b]?):R n W0 w' X F H s a:=
 {h with
  below:=hb
  glob:=g.stays _ _ h.glob λb hb=>hX b (h.gx b hb)
  xlt:=λb z=>Ly (h.xlt b z) hs
  own:=λk b z=>let⟨D,C,E⟩:=h.own k b z;⟨D,Ly C hs,E⟩
  hown:=λb z=>let⟨D,C,E⟩:=h.hown b z;⟨D,Ly C hs,E⟩
  slots:=λk=>by
   by_cases hk:∃q,q∈rs/\k=.m q
   ·obtain⟨q,G,rfl⟩:=hk;obtain⟨_,e,T,y,b,c,D,C,E,P,Q⟩:=hr q G;have hv:=h.slots (.m q);rw[D]at hv⊢;obtain⟨V,W,Y,M,K,_⟩:=hv;rw[C]at K;obtain⟨rfl,rfl⟩:=Ll K;exact⟨b,c,[],M,C,E,Ak⟩
   ·have hk:∀q,q∈rs->k≠ .m q:=λq G e=>hk ⟨q,G,e⟩;have I:=hF k hk;have J:∀{r:Nat}{p:List Nat}{v:La}{U:Ty},s.pN r=K4->Yv W0.gh w s F a r p v U->Yv W0.gh w' s F a r p v U:=λ{r p v U} A hv=>
     VD hv (hF (.m r) λq G e=>by
      simp_all)
    have o:=h.slots k;generalize s.get k=u at o;generalize Xj W0.gh a k=v at o⊢;generalize F k=S at o I⊢
    induction u with
    |pR=>exact o
    |tup=>exact o
    |val T f x=>exact qp (s:=s) (F:=λ_=>[]) (a:=a) (v:=v) (t:=.val T f x) (λ_ h=>h) hX Ae I (show vt W0.gh w X W0.B s (λ_=>[]) a v S (.val T f x)from o)
    |box e T f x=>exact qp (s:=s) (F:=λ_=>[]) (a:=a) (v:=v) (t:=.box e T f x) (λ_ h=>h) hX Ae I (show vt W0.gh w X W0.B s (λ_=>[]) a v S (.box e T f x)from o)
    |shp T x=>exact qp (s:=s) (F:=λ_=>[]) (a:=a) (v:=v) (t:=.shp T x) (λ_ h=>h) hX Ae I (show vt W0.gh w X W0.B s (λ_=>[]) a v S (.shp T x)from o)
    |ptr r p=>exact o
    |aep r p i=>exact o
    |pls Z l=>exact⟨o.1,KF (λ_ h=>h) hX (λ_ _ _ h=>h) o.2⟩
    |bor r p=>exact⟨o.1,λA=>let⟨U,h⟩:=o.2 A;⟨U,J (St.bad_foul A) h⟩⟩
    |elp r p i q=>exact⟨o.1,λA=>let⟨e,t',ad,n,cap,h,h'⟩:=o.2 A;⟨e,t',ad,n,cap,J (St.bad_foul A) h,h'⟩⟩
    |bel r p i q=>exact⟨o.1,λA N=>let⟨e,t',ad,n,cap,x0,y,cs,h,k1,k2,k3,k4,k5,k6,k7⟩:=o.2 A N;⟨e,t',ad,n,cap,x0,y,cs,J (St.bad_foul A) h,k1,k2,k3,k4,k5,k6,λj u hj=>by
      grind[Lz,Md,Key.m.injEq,St.bad_foul]⟩⟩
    |cl f l=>exact o
    |gd g L u O=>exact λA=>let⟨h0,D,C⟩:=o A;⟨h0,λhb=>O (D hb),C⟩}
def Z6h(F:Key->List Nat)(s:St):List AK->List Nat->List Nat->Prop|[],rs,BL=>rs=[]/\BL=[]|.sh _::as,rs,BL=>Z6h F s as rs BL|.bx e T _::as,rs,BL=> ∃q rs' b BL' y,rs=q::rs'/\BL=b::BL'/\F (.m q)=[b]/\s.get (.m q)=.box e T .d y/\Z6h F s as rs' BL'|.mv .. ::as,rs,BL=>Z6h F s as rs BL
def Zq1(h:R n W0 w X F H s a):∀{as:List AK}{rs BL:List Nat},Z6h F s as rs BL-> ∀{j q b:Nat},rs[j]? =K1 q->BL[j]? =K1 b->Xj W0.gh a (.m q)=.pointer (K1 ⟨b,0,K2⟩)
 |[],_,_,⟨u,v⟩,j,q,b,d,_=>Ac
 |.sh _::as,_,_,g,j,q,b,d,f=>Zq1 h (as:=as) g d f
 |.mv .. ::as,_,_,g,j,q,b,d,f=>Zq1 h (as:=as) g d f
 |.bx e T _::as,rs,BL,⟨i,k,x,l,y,o,p,z,r,t⟩,j,q,b,d,f=>by
  subst o;subst p;cases j with
  |zero=>
   simp only[L8,pB]at d f;subst d;subst f;have hs:=h.slots (.m i);rw[r]at hs;obtain⟨A,c,S,B,C,_⟩:=hs;simp_all
  |succ j=>exact Zq1 h (as:=as) t (by simpa using d) (by simpa using f)
def Zq2{t:Tm}{q:Nat}{b:Nat}:∀{as:List AK}{rs BL:List Nat},q∉rs->Z6h F s as rs BL-> ∀{S:List Nat},Z6h (Xm F (.m q) S) (bY s q t) as rs BL
 |[],_,_,_,h,_=>h
 |.sh _::as,rs,BL,a,h,_=>Zq2 (b:=b) (as:=as) a h
 |.mv .. ::as,rs,BL,a,h,_=>Zq2 (b:=b) (as:=as) a h
 |.bx e T _::as,rs,BL,a,⟨f,c,g,d,y,i,j,o,p,k⟩,S=>by
  subst i;have l:f≠q:=λe=>a (by simp[e]);exact⟨f,c,g,d,y,rfl,j,Ag,Ar,Zq2 (b:=b) (λn=>a (by simp[n])) k⟩
def Zgw:∀{as:List AK}{x:JJ as}{vals:List La}{BL C rs:List Nat}{s:St}{F:Key->List Nat},R n W0 w X F (C++H) s a->rdO w X as x vals BL C->Z6h F s as rs BL->rs.Nodup->(∀b,b∈C->W0.B<=b)->
  ∃F',R n W0 w X F' H (Z21 as x rs s) a
 |[],x,vals,BL,C,rs,s,F,h,⟨_,_,e⟩,_,_,_=>by subst e;exact⟨F,h⟩
 |.sh _::as,x,vals,BL,C,rs,s,F,h,⟨v,t,_,i⟩,j,d,f=>Zgw (as:=as) h i j d f
 |.mv .. ::as,x,vals,BL,C,rs,s,F,h,⟨v,t,_,i⟩,j,d,f=>Zgw (as:=as) h i j d f
 |.bx e T o::as,x,vals,BL,C,rs,s,F,h,⟨b,c,S,t,J,u,W,K,L,z,Y,M⟩,⟨q,k,Z,N,y,O,A,D,E,P⟩,d,f=>by
  subst O;subst L;rw[K]at A;obtain⟨rfl,rfl⟩:=Ll A;have g:=Ls.1 d;have hs:=h.slots (.m q);rw[E]at hs;obtain⟨G,c',S',Q,I,U,_⟩:=hs;rw[D]at I;obtain⟨rfl,rfl⟩:=Ll I;rw[z]at U;have l:=h.pK;rw[L7]at l;have V:b∉(S++u)++H:=h.pL (.m q) b (by rw[D];simp);have p:R n W0 w X (Xm F (.m q) (b::S)) (u++H) (bY s q (.box e T o x.1)) a:=by
   refine h.turn h.below (Li _) (λ_ _=>rfl) (λ_ _ _ _=>rfl) ?_ ?_ (by rw[E];simp) ?_ ?_
   ·simp_all
   ·simp_all
   ·grind
   ·refine⟨b,c,S,Q,rfl,z,?_⟩
    grind[Zgx]
  show ∃F',R n W0 w X F' H (Z21 as x.2 k (bY s q (.box e T o x.1))) a;exact Zgw (as:=as) p M (Zq2 (b:=b) g.1 P) g.2 λG r=>f G (by simp[r])
def Zgn:∀{as:List AK}{rs:List Nat}{vals:List La}{x:JJ as}{BL C:List Nat},Qbo F s as rs vals->rdO w' X' as x vals BL C-> ∀q,q∈rs->
  ∃e T f y b S c,s.get (.m q)=.box e T f y/\F (.m q)=b::S/\b∈BL/\w'.heap[b]? =K1 (.cells c e (0,0))/\c.toList.length=T.size/\ ∀u∈c.toList,u.oneCell'=K3
 |[],_,_,_,_,_,⟨h,_⟩,_,q,hq=>by subst h;cases hq
 |.sh _::as,rs,vals,x,BL,C,⟨v,k,d,g⟩,⟨n,j,a,i⟩,q,hq=>by
  rw[d]at a;obtain⟨rfl,rfl⟩:=Ll a;exact Zgn (as:=as) g i q hq
 |.mv .. ::as,rs,vals,x,BL,C,⟨v,k,d,g⟩,⟨n,j,a,i⟩,q,hq=>by
  rw[d]at a;obtain⟨rfl,rfl⟩:=Ll a;exact Zgn (as:=as) g i q hq
 |.bx e T o::as,rs,vals,x,BL,C,⟨A,p,b,S,k,f,y,d,g,B,D,r⟩,⟨E,c,G,t,w,H,a,i,I,J,K,z⟩,q,hq=>by
  rw[g]at a;obtain⟨l,rfl⟩:=Ll a;simp only[Mq,pB,Me,and_true]at l;subst l;subst d;rcases L3.1 hq with rfl|hq
  ·grind[K0,oH]
  ·obtain⟨L,M,N,O,P,Q,U,V,W,X,Y⟩:=Zgn r z q hq
   grind
def Z6g{s2:St}{F2:Key->List Nat}:∀{as:List AK}{rs:List Nat}{vals:List La}{x:JJ as}{BL C:List Nat},Qbo F s as rs vals->rdO w' X' as x vals BL C->
  (∀q,q∈rs-> ∀e T f y b S,s.get (.m q)=.box e T f y->F (.m q)=b::S->s2.get (.m q)=.box e T .d y/\F2 (.m q)=[b])->Z6h F2 s2 as rs BL
 |[],_,_,_,_,_,⟨h,_⟩,⟨_,g,_⟩,_=>⟨h,g⟩
 |.sh _::as,rs,vals,x,BL,C,⟨v,p,i,g⟩,⟨u,k,a,j⟩,hk=>by
  rw[i]at a;obtain⟨rfl,rfl⟩:=Ll a;exact Z6g (as:=as) g j hk
 |.mv .. ::as,rs,vals,x,BL,C,⟨v,p,i,g⟩,⟨u,k,a,j⟩,hk=>by
  rw[i]at a;obtain⟨rfl,rfl⟩:=Ll a;exact Z6g (as:=as) g j hk
 |.bx e T o::as,rs,vals,x,BL,C,⟨r,l,b,S,p,f,y,i,g,w,z,A⟩,⟨I,c,J,B,n,K,a,j,L,M,N,D⟩,hk=>by
  rw[g]at a;obtain⟨t,rfl⟩:=Ll a;simp only[Mq,pB,Me,and_true]at t;subst t;subst i;obtain⟨E,G⟩:=hk r Ae _ _ _ _ _ _ z w;exact⟨r,l,b,n,y,rfl,j,G,E,Z6g A D λq H=>hk q (by simp[H])⟩
def Zq0:∀{as:List AK}{rs:List Nat}{vals:List La},Qbo F s as rs vals-> ∀q,q∈rs->s.isBox q
 |[],_,_,⟨h,_⟩,q,hq=>by subst h;cases hq
 |.sh _::as,rs,vals,⟨v,d,c,a⟩,q,hq=>Zq0 a q hq
 |.mv .. ::as,rs,vals,⟨v,d,c,a⟩,q,hq=>Zq0 a q hq
 |.bx e T o::as,rs,vals,⟨k,g,b,S,d,f,y,c,a,l,i,j⟩,q,hq=>by
  subst c;rcases L3.1 hq with rfl|hq
  ·exact⟨e,T,f,y,i⟩
  ·exact Zq0 j q hq
def Qfq{t:Tm}(h:aX s d=K3)(hq:q≠d):aX (bY s q t) d=true:=by
 unfold aX at*
 rw[Vr,if_neg (by simpa using hq)];exact h
def Zf5{d:Nat}:∀{as:List AK}{x:JJ as}{rs:List Nat}{s:St},aX s d=K3->d∉rs->aX (Z21 as x rs s) d=K3
 |[],_,_,_,h,_=>h
 |.sh _::as,x,rs,s,h,a=>Zf5 (as:=as) h a
 |.mv .. ::as,x,rs,s,h,a=>Zf5 (as:=as) h a
 |.bx e T o::as,x,q::rs,s,h,a=>Zf5 (as:=as) (Qfq h λe=>a (by simp[e])) λb=>a (by simp[b])
 |.bx .. ::_,x,[],s,h,_=>h
def Z1m:∀{ts:List Ty}{x:dp ts}{rs:List La},Z9p w X ts x rs->rs.length=ts.length
 |[],_,_,h=>by simp_all[Z9p]
 |t::ts,_,_,⟨_,_,e,_,h⟩=>by simp[e,Z1m h]
def R.putTupSh{ts:List Ty}{x:dp ts}(h:R n W0 w X F H s a)(hd:aX s d=K3)(hn:d<n)(hx:Z9p w X ts x vs):
  ∃F',R n W0 w X F' H {env:=Zqb d ts x 0 (Wc s d .tup).env,pP:=(Wc s d .tup).pP,pQ:=s.pQ} (a.put (K1 d) (.tuple vs.toArray)):=by
 have I:R n W0 w X (Xm F (.m d) []) H (Wc s d .tup) (a.put (K1 d) (.tuple vs.toArray)):=(by simpa using h:R n W0 w X F ([]++H) s a).put hd hn rfl;have l:xQ W0.gh (a.put (K1 d) (.tuple vs.toArray)) d=.tuple vs.toArray:=wq (a:=a) (by rw[h.size];exact hn);have A:∀i,(Wc s d .tup).get (.c d i)=.pR:=λi=>by
  rw[s5];simp only[reduceCtorEq,if_false];exact Mf λo=>by have:=(h.pM d i o).1;simp_all[aX]
 suffices hs:∀(ts:List Ty)(x:dp ts)(z:List La)(i:Nat)(F:Key->List Nat)(r:List (Key×Tm))(pre:List La),vs=pre++z->pre.length=i->Z9p w X ts x z->
   R n W0 w X F H {env:=r,pP:=(Wc s d .tup).pP,pQ:=s.pQ} (a.put (K1 d) (.tuple vs.toArray))->mX r (.m d)=.tup->(∀j,i<=j->mX r (.c d j)=.pR)->
   ∃F',R n W0 w X F' H {env:=Zqb d ts x i r,pP:=(Wc s d .tup).pP,pQ:=s.pQ} (a.put (K1 d) (.tuple vs.toArray)) by
  obtain⟨F',p⟩:=hs ts x vs 0 _ (Wc s d .tup).env [] rfl rfl hx I (JB _ _ _) (λj _=>A j)
  grind
 intro ts
 induction ts with
 |nil=>
  intro x z i F r pre _ _ hx g _ _;exact⟨F,g⟩
 |cons t ts J=>
  intro x z i F r pre B q hx g v b;obtain⟨C,D,rfl,K,E⟩:=hx;have f:Xj W0.gh (a.put (K1 d) (.tuple vs.toArray)) (.c d i)=Jd t C:=by
   simp_all[Xj,Array.getD_eq_getD_getElem?]
  have G:F (.c d i)=[]:=by
   have:=g.slots (.c d i);simp only[St.get,b i (Li _)]at this;exact this
  have y:R n W0 w X F H {env:=(.c d i,.val t (.u K4) x.1)::r,pP:=(Wc s d .tup).pP,pQ:=s.pQ} (a.put (K1 d) (.tuple vs.toArray)):=
   {g with
    pM:=λL j o=>by
     simp only[St.get,Qg]at o⊢;simp only[reduceCtorEq,if_false];split at o
     ·rename_i e;simp only[Key.c.injEq]at e;obtain⟨rfl,rfl⟩:=e;refine⟨v,vs.toArray,l,?_⟩;simp_all
     ·exact g.pM L j o
    slots:=λk=>by
     by_cases hk:k=.c d i
     ·subst hk;simp only[St.get,Qg,if_true];rw[G];exact⟨C,f,by grind[rdF,cS]⟩
     ·have M:St.get {env:=(Key.c d i,Tm.val t (.u K4) x.1)::r,pP:=(Wc s d .tup).pP,pQ:=s.pQ} k=St.get {env:=r,pP:=(Wc s d .tup).pP,pQ:=s.pQ} k:=by simp[St.get,Qg,Lk hk]
      rw[M];have:=Zyh (s:={env:=r,pP:=(Wc s d .tup).pP,pQ:=s.pQ}) (t:=d) (i:=i) (u:=Tm.val t (.u K4) x.1) (S0:=[]) (g.slots k);have N:Xm F (.c d i) []=F:=by
       grind
      simp_all}
  obtain⟨F',p⟩:=J x.2 D (i+1) _ _ (pre++[Jd t C]) (by rw[B];simp) (by simp[q]) E y (by simp_all[Qg]) (λj O=>by
   rw[Qg,if_neg Af];grind)
  exact⟨F',p⟩
def R.putSh{rs:List La}:∀{ts:List Ty}{x:dp ts},R n W0 w X F H s a->aX s d=K3->d<n->Z9p w X ts x rs->
  ∃F',R n W0 w X F' H (Go.Am.Qpq d s ts x) (a.put (K1 d) (ba rs))
 |[],x,h,b,c,hx=>by
  rw[zY (by rw[Z1m hx];simp)];exact h.putTupSh b c hx
 |[t],x,h,b,c,hx=>by
  obtain⟨e,f,rfl,g,rfl⟩:=hx;exact⟨_,(by simpa using h:R n W0 w X F ([]++H) s a).put b c ⟨e,rfl,by grind[rdF,cS]⟩⟩
 |t::u::ts,x,h,b,c,hx=>by
  rw[zY (by rw[Z1m hx];simp)];exact h.putTupSh b c hx
def Z1l:∀{ts:List (Ty×Fl)}{x:Zcb ts}{rs:List La}{S:List Nat},Z23 w X B ts x rs S->rs.length=ts.length
 |[],_,_,_,h=>by simp[h.1]
 |t::ts,_,_,_,⟨_,_,_,_,e,_,_,h⟩=>by simp[e,Z1l h]
def Zwe:∀{ts:List (Ty×Fl)}{x:Zcb ts}{rs:List La}{S:List Nat},Z23 w X B ts x rs S->(∀b,b∈S->B'<=b)->Z23 w X B' ts x rs S
 |[],_,_,_,h,_=>h
 |t::ts,_,_,_,⟨c,d,f,g,e,i,j,k⟩,a=>⟨c,d,f,g,e,i,Zgx j λb l=>a b Ac,Zwe k λb l=>a b Ac⟩
def R.putTupF{ts:List (Ty×Fl)}{x:Zcb ts}(h:R n W0 w X F (S++H) s a)(hd:aX s d=K3)(hn:d<n)(hx:Z23 w X W0.B ts x vs S):
  ∃F',R n W0 w X F' H {env:=Zza d ts x 0 (Wc s d .tup).env,pP:=(Wc s d .tup).pP,pQ:=s.pQ} (a.put (K1 d) (.tuple vs.toArray)):=by
 have P:R n W0 w X (Xm F (.m d) []) (S++H) (Wc s d .tup) (a.put (K1 d) (.tuple vs.toArray)):=(by simpa using h:R n W0 w X F ([]++(S++H)) s a).put hd hn rfl;have q:xQ W0.gh (a.put (K1 d) (.tuple vs.toArray)) d=.tuple vs.toArray:=wq (a:=a) (by rw[h.size];exact hn);have E:∀i,(Wc s d .tup).get (.c d i)=.pR:=λi=>by
  rw[s5];simp only[reduceCtorEq,if_false];exact Mf λu=>by have:=(h.pM d i u).1;simp_all[aX]
 suffices hs:∀(ts:List (Ty×Fl))(x:Zcb ts)(D:List La)(i:Nat)(S:List Nat)(F:Key->List Nat)(r:List (Key×Tm))(pre:List La),vs=pre++D->pre.length=i->Z23 w X W0.B ts x D S->
   R n W0 w X F (S++H) {env:=r,pP:=(Wc s d .tup).pP,pQ:=s.pQ} (a.put (K1 d) (.tuple vs.toArray))->mX r (.m d)=.tup->(∀j,i<=j->mX r (.c d j)=.pR)->
   ∃F',R n W0 w X F' H {env:=Zza d ts x i r,pP:=(Wc s d .tup).pP,pQ:=s.pQ} (a.put (K1 d) (.tuple vs.toArray)) by
  obtain⟨F',v⟩:=hs ts x vs 0 S _ (Wc s d .tup).env [] rfl rfl hx P (JB _ _ _) (λj _=>E j)
  grind
 intro ts
 induction ts with
 |nil=>
  intro x D i S F r pre _ _ hx f _ _;obtain⟨rfl,rfl⟩:=hx;exact⟨F,f⟩
 |cons t ts Q=>
  intro x D i S F r pre G y hx f z o;obtain⟨I,J,M,N,rfl,rfl,K,L⟩:=hx
  have p:Xj W0.gh (a.put (K1 d) (.tuple vs.toArray)) (.c d i)=Jd t.1 I:=by
   simp_all[Xj,Array.getD_eq_getD_getElem?]
  have A:R n W0 w X (Xm F (.c d i) M) (N++H) {env:=(.c d i,.val t.1 t.2 x.1)::r,pP:=(Wc s d .tup).pP,pQ:=s.pQ} (a.put (K1 d) (.tuple vs.toArray)):=by
   have U:F (.c d i)=[]:=by
    have:=f.slots (.c d i);simp only[St.get,o i (Li _)]at this;exact this
   have C:=f.pK;rw[L7]at C;exact
   {size:=f.size
    defers:=f.defers
    below:=f.below
    glob:=f.glob
    gx:=f.gx
    xs:=f.xs
    fix:=f.fix
    xlt:=f.xlt
    xin:=f.xin
    x0:=f.x0
    own:=λk b g=>by
     simp only[Xm]at g;split at g
     ·exact f.hown b (by simp[g])
     ·exact f.own k b g
    nodup:=λk=>by
     simp only[Xm];split
     ·grind
     ·exact f.nodup k
    pS:=λk O b g l=>by
     simp only[Xm]at g l;split at g<;>split at l
     ·simp_all
     ·exact absurd (by simp[g]) (f.pL O b l)
     ·exact absurd (by simp[l]) (f.pL k b g)
     ·exact f.pS k O b g l
    hown:=λb g=>f.hown b Ac
    pK:=(Lg.1 C).2.1
    pL:=λk b g Z=>by
     simp only[Xm]at g;split at g
     ·grind
     ·exact f.pL k b g Ac
    pM:=λV j u=>by
     simp only[St.get,Qg]at u⊢;simp only[reduceCtorEq,if_false];split at u
     ·rename_i e;simp only[Key.c.injEq]at e;obtain⟨rfl,rfl⟩:=e;refine⟨z,vs.toArray,q,?_⟩;simp_all
     ·exact f.pM V j u
    slots:=λk=>by
     by_cases hk:k=.c d i
     ·subst hk;simp only[St.get,Qg,if_true,Xm];exact⟨I,p,K⟩
     ·have W:St.get {env:=(Key.c d i,Tm.val t.1 t.2 x.1)::r,pP:=(Wc s d .tup).pP,pQ:=s.pQ} k=St.get {env:=r,pP:=(Wc s d .tup).pP,pQ:=s.pQ} k:=by simp[St.get,Qg,Lk hk]
      have Y:Xm F (.c d i) M k=F k:=by simp[Xm,hk]
      rw[W,Y];exact Zyh (s:={env:=r,pP:=(Wc s d .tup).pP,pQ:=s.pQ}) (f.slots k)}
  obtain⟨F',v⟩:=Q x.2 J (i+1) N _ _ (pre++[Jd t.1 I]) (by rw[G];simp) (by simp[y]) L A (by simp_all[Qg]) (λj hj=>by
   rw[Qg,if_neg Af];grind)
  exact⟨F',v⟩
def R.putF{rs:List La}:∀{ts:List (Ty×Fl)}{x:Zcb ts}{S:List Nat},R n W0 w X F (S++H) s a->aX s d=K3->d<n->Z23 w X W0.B ts x rs S->
  ∃F',R n W0 w X F' H (Go.Am.Qsf d s ts x) (a.put (K1 d) (ba rs))
 |[],x,S,h,b,c,hx=>by
  rw[zY (by rw[Z1l hx];simp)];exact h.putTupF b c hx
 |[t],x,S,h,b,c,hx=>by
  obtain⟨e,f,i,j,rfl,rfl,g,rfl,rfl⟩:=hx;exact⟨_,h.put b c ⟨e,rfl,by simpa using g⟩⟩
 |t::u::ts,x,S,h,b,c,hx=>by
  rw[zY (by rw[Z1l hx];simp)];exact h.putTupF b c hx
def Qg2(gh:Nat->La)(X:Nat->Prop)(s:St)(a:Act)(rs:List Nat)(w w':Le):Prop:=∀b,(X b\/ ∃r,s.isBox r/\r∉rs/\Xj gh a (.m r)=.pointer (K1 ⟨b,0,K2⟩))->w'.heap[b]? =w.heap[b]?
def Zu9(Γ:Zb1)(s:St)(f:Lh)(xs:List Lc):List Nat:=
 match Γ.find f with
 |some e=>match VN (uD e.args xs s) e.args xs with
  |some (m,s2)=>match Zbs s2 m e.args xs with
   |some (_,rs)=>rs
   |none=>[]
  |none=>[]
 |none=>[]
def Ziy{Γ:Zb1}(hs0:g.soft=K4)(hΓ:Γ.ok P g)(h:R n W0 w X F [] s a)(hfo:a.eval fo=.func (.func f) #[] #[])(ho:o.op=.call {callee:=.value fo,args:=xs,argTypes:=ats}){k:St->Option ρ}{r:ρ}(hr:Zy0 Γ n s o.dst f xs.toList k=K1 r)
   (hK:∀v w' X' F' s',k s'=K1 r->R n W0 w' X' F' [] s' (a.put o.dst v)->(∀b,X b->X' b)->Qg2 W0.gh X s a (Zu9 Γ s f xs.toList) w w'->K (a.put o.dst v) w'):o.wp P a w K Q:=by
 have i:∀e m s2 V rs,Γ.find f=K1 e->VN (uD e.args xs.toList s) e.args xs.toList=K1 (m,s2)->Zbs s2 m e.args xs.toList=K1 (V,rs)->Zu9 Γ s f xs.toList=rs:=λe m s2 V rs l h3 h2=>by
  simp_all[Zu9]
 unfold Zy0 at hr;split at hr
 ·cases hr
 ·rename_i e he;obtain⟨rfl,a5⟩:=Zb1.find_ok hΓ he;obtain⟨X1,F1,l,am,A⟩:=kt hs0 (as:=e.args) (xs:=xs.toList) h;have i:=λm s2 V rs=>i e m s2 V rs he;generalize uD e.args xs.toList s=s1 at hr l A i;split at hr
  ·cases hr
  rename_i m s2 a6;obtain⟨M,F1,l,b0,b4,a7⟩:=WX l a6;have A:=λq p=>a7 q (A q p);have i:=λV rs=>i m s2 V rs a6;generalize s2=s1 at hr l A i;split at hr
  ·cases hr
  ·rename_i V rs a8;split at hr
   ·cases hr
   ·rename_i hn;rw[i V rs a8]at hK;obtain⟨L,a1,a2,a3,a4⟩:=Zdn l b4 (Lg.1 l.pK).1 (λk b hb D=>l.pL k b hb (by simp[D])) a8 hn;have ar:=Zv9 hn;have hL:∀b,b∈L->W0.mine b/\b<w.heap.size/\ ¬X1 b:=λb hb=>by
     rcases a4 b hb with⟨q,_,p⟩|hb
     ·exact l.own _ b p
     ·exact l.hown b (by simp[hb])
    have call:∀{z},e.F V=K1 z-> ∀{K':Act->Le->Prop},(∀W S X' F' w',R n W0 w' X' F' (S++[]) (Z21 e.args z.2 rs (yO rs s1)) a->rdS w' X' e.res z.1 W S->(∃Y:List Nat,rdP e.res z.1 W Y/\ ∀(j q b:Nat),rs[j]? =K1 q->Y[j]? =K1 b->Xj W0.gh a (.m q)=.pointer (K1 ⟨b,0,K2⟩))->(∀b,b∈S->W0.B<=b)->(∀b,X b->X' b)->Qg2 W0.gh X s a rs w w'->K' (a.put o.dst (ba W)) w')->o.wp P a w K' Q:=by
     intro z hz K' ab;have hc:=a5.calls w X1 L V z (xs.toList.map a.eval) l.glob l.gx l.xlt (λb hb=>⟨(hL b hb).2.2,(hL b hb).2.1⟩) a3 a1 hz;have bb:(execOp a.eval o).run P w=.ok (.enter e.f (xs.toList.map a.eval).toArray) w:=by
      have:execOp a.eval o=callFunc e.f (xs.map a.eval):=by
       grind[execOp,resolve,L6,invoke]
      rw[this,a5.enters];congr 2
      grind
     unfold Lp;rw[bb,L4];refine hc.mono λen w' ⟨W,S,Y,C,X',b5,u,J,hO,hP⟩=>?_;subst b5;show K' (a.put o.dst (ba W)) w';obtain⟨I,h2,b6,au⟩:=R.wreck l ar (Zq0 a2);have bc:=Zgn a2 hO;have b7:W0.below w':=⟨u.os.trans l.below.os,u.tape.trans l.below.tape,u.output.trans l.below.output,Lm l.below.size u.size,λb hb=>
      (u.block b (Ly (W0.yW b hb) l.below.size) λD=>W0.sep hb (hL b D).1 rfl).trans (l.below.block b hb)⟩
     have N:∀q,q∈rs-> ∃b,I (.m q)=[b]/\b∈Y:=λq p=>by
      obtain⟨e1,T1,f1,y1,b1,S1,m1,m2,m3,m4,m5⟩:=au q p
      grind
     have t:∀k,(∀q,q∈rs->k≠ .m q)-> ∀b,b∈I k->b<w.heap.size/\b∉L/\ ¬X1 b:=λk hk b hb=>by
      rw[b6 k hk]at hb;obtain⟨_,E,g3⟩:=l.own k b hb;refine⟨E,λD=>?_,g3⟩;rcases a4 b D with⟨q,p,hb'⟩|hb'
      ·exact hk q p (l.pS _ _ b hb hb')
      ·exact l.pL _ b hb (by simp[hb'])
     have bd:∀b,b∈S++(Y++C)->W0.mine b/\b<w'.heap.size/\ ¬X' b:=λb hb=>by
      obtain⟨H,E,g3⟩:=u.nin b hb;exact⟨H.elim (λg=>.inl (Lm l.below.size g)) λg=>(hL b g).1,E,g3⟩
     have ad:∀b,b∈S++C->W0.B<=b:=λb hb=>by
      have hb':b∈S++(Y++C):=Ag
      rcases(u.nin b hb').1 with g|g
      ·exact Lm l.below.sizeB g
      ·rcases a4 b g with⟨q,p,hbq⟩|hbM
       rotate_left
       ·exact b0 b hbM
       obtain⟨e2,T2,f2,y2,b2,S2,c2,p1,p2,p3,_⟩:=bc q p;rw[p2]at hbq;rcases L3.1 hbq with rfl|hbq
       ·exfalso;have ar:=u.nd
        grind
       ·have hs:=l.slots (.m q);rw[p1]at hs;obtain⟨b3,c3,S3,H,E,g3,g4⟩:=hs;rw[p2]at E;obtain⟨rfl,rfl⟩:=Ll E
        grind[Zx9]
     have h3:R n W0 w' X1 I [] (yO rs s1) a:=h2.drop.worldD (rs:=rs) b7 u.size (λb hb=>u.block b (l.xlt b hb) λD=>(hL b D).2.2 hb)
      (λq p=>by
       obtain⟨e1,T1,f1,y1,b1,S1,m1,m2,m3,m4,m5⟩:=au q p
       grind)
      (λk hk b hb=>u.block b (t k hk b hb).1 (t k hk b hb).2.1)
     have h4:R n W0 w' X' I [] (yO rs s1) a:=R.xup hs0 h3 u.xx u.xlt
      (λb hb=>(u.xin b hb).elim (l.xin b) λg=>.inr (g.elim (λg=>.inl (Lm l.below.size g)) λg=>(hL b g).1))
      (λk b hb hx=>by
       by_cases hk:∃q,q∈rs/\k=.m q
       ·obtain⟨q,p,rfl⟩:=hk;obtain⟨b1,H,E⟩:=N q p
        grind
       ·obtain⟨H,E,g3⟩:=t k (λq p e=>hk ⟨q,p,e⟩) b hb;rcases u.xin b hx with g|g|g
        ·exact g3 g
        all_goals grind) (λb hb=>by cases hb)
     have O:=Lg.1 u.nd;have be:=Lg.1 O.2.1;have h5:R n W0 w' X' I (C++(S++[])) (yO rs s1) a:=by
      have:=h4.hand (S:=C++S) (λb hb=>bd b Ag)
       (Lg.2 ⟨be.2.1,O.1,λx hx y hy e=>O.2.2 y hy x (by simp[hx]) e.symm⟩)
       (λk b hb D=>by
        have cl:b∈S++C:=Ag
        by_cases hk:∃q,q∈rs/\k=.m q
        ·obtain⟨q,p,rfl⟩:=hk;obtain⟨b1,H,E⟩:=N q p
         grind
        ·obtain⟨H,E,g3⟩:=t k (λq p e=>hk ⟨q,p,e⟩) b hb;have b8:b∈S++(Y++C):=Ag
         rcases(u.nin b b8).1 with g|g
         all_goals grind) (λb _ D=>by cases D)
      simpa using this
     have D:Z6h I (yO rs s1) e.args rs Y:=Z6g a2 hO λq p e1 T1 f1 y1 b1 S1 H E=>by
      obtain⟨e2,T2,f2,y2,b2,S2,m1,m2,m3,m4,m5⟩:=au q p
      grind
     obtain⟨F6,h6⟩:=Zgw h5 hO D ar λb hb=>ad b (by simp[hb]);refine ab W S X' F6 w' h6 J ⟨Y,hP,λj q b=>Zq1 h5 D⟩ (λb hb=>ad b (by simp[hb])) (λb hb=>u.xx b (am b hb)) λb hb=>?_;rcases hb with hb|⟨q,p,cm,hv⟩
     ·exact u.block b (l.xlt b (am b hb)) λD=>(hL b D).2.2 (am b hb)
     ·obtain⟨S1,a0⟩:=l.boxIn (A q p) hv;refine u.block b (l.own (.m q) b (by rw[a0];simp)).2.1 λD=>?_;rcases a4 b D with⟨q',cp,hb'⟩|hb'
      ·have:=l.pS (.m q) (.m q') b (by rw[a0];simp) hb'
       grind
      ·exact l.pL (.m q) b (by rw[a0];simp) (by simp[hb'])
    split at hr
    ·rename_i hd;simp only[Lr]at hr;obtain⟨z,hz,hk⟩:=hr;refine call hz λW S X' F' w' Z _ _ _ bl bx=>?_;have ab:=hK (ba W) w' X' F' _ hk;rw[hd]at ab⊢;exact ab Z.drop bl bx
    ·rename_i d hd;split at hr
     ·cases hr
     ·rename_i hdn;simp only[pC,Lx,Lv]at hdn;simp only[Lr]at hr;obtain⟨z,hz,hk⟩:=hr;refine call hz λW S X' F' w' Z J b9 hB bl bx=>?_;obtain⟨Y,hP,p⟩:=b9;have G:=Zf5 (as:=e.args) (x:=z.2) hdn.1.1 (Zq5 hdn.2);have cc:∃F' s',k s'=K1 r/\R n W0 w' X' F' [] s' (a.put (K1 d) (ba W)):=by
       generalize Z21 e.args z.2 rs (yO rs s1)=s3 at Z G hk;generalize z.1=zz at J hP hk;revert zz;generalize e.res=rk;intro zz J hP hk;cases rk with
       |vals ts=>
        obtain⟨I,h2⟩:=Z.putRes G hdn.1.2 (Zsc J hB);exact⟨I,_,hk,h2⟩
       |newb e2 T2=>
        obtain⟨b,c,rfl,rfl,H,E⟩:=J;exact⟨_,_,hk,Z.put G hdn.1.2 ⟨b,c,[],rfl,rfl,H,by grind[rdF,cS]⟩⟩
       |shr ts=>
        obtain⟨rfl,E⟩:=J;obtain⟨I,h2⟩:=R.putSh (by simpa using Z) G hdn.1.2 E;exact⟨I,_,hk,h2⟩
       |flg ts=>
        obtain⟨I,h2⟩:=R.putF Z G hdn.1.2 (Zwe J hB);exact⟨I,_,hk,h2⟩
       |fp T j p1 p2=>
        have J:S=[]:=J;subst J;obtain⟨b,hb,rfl⟩:=hP;simp only[Qsg]at hk;split at hk
        ·rename_i q cb;split at hk
         ·rename_i e2 U f y hg;split at hk
          ·rename_i hU;have hU:=pE hU;subst hU;have hs:=Z.slots (.m q);rw[hg]at hs;obtain⟨b2,c2,S2,H,E,g3,g4⟩:=hs;have hv:=p j q b cb hb;rw[hv]at H;simp only[Mq,pB,Me,and_true]at H;subst H;cases zz with
           |true=>exact⟨_,_,hk,Z.put G hdn.1.2 ⟨rfl,e2,U,f,y,b,S2,hg,E,rfl⟩⟩
           |false=>exact⟨_,_,hk,Z.put G hdn.1.2 ⟨rfl,e2,U,f,y,b,S2,hg,E,rfl⟩⟩
          ·cases hk
         ·cases hk
        ·cases hk
      grind
def noP(d:Nat):Tm->Bool|.ptr r _=> !(Ld r d)|.aep r _ _=> !(Ld r d)|.pls _ l=>l.all λq=> !(Ld q.1 d)|.cl _ l=>l.all λq=> !(Ld q d)|.gd _ _ t=>noP d t|_=>K3
def Qm5(s:St)(d:Nat):Bool:=s.env.all λp=>noP d (s.get p.1)
def Z8k:∀{l:List (Key×Tm)}{k:Key},mX l k=.pR\/ ∃p∈l,p.1=k
 |[],k=>.inl rfl
 |(j,t)::r,k=>by
  rw[Qg];split
  ·simp_all
  ·rcases Z8k (l:=r) (k:=k)with h|⟨p,a,e⟩
   all_goals grind
def Qjs{s:St}(h:Qm5 s d=K3)(k:Key):noP d (s.get k)=true:=by
 unfold Qm5 at h;rcases Z8k (l:=s.env) (k:=k)with hk|⟨p,a,rfl⟩
 ·unfold St.get;rw[hk];rfl
 grind
def Zm7(q:Nat):List (Key×Tm)->St->St
 |[],s=>s
 |(.m k,_)::r,s=>match s.get (.m k)with
  |.ptr q' _=>match Ld q' q with
   |true=>Zm7 q r (bY s k .pR)
   |false=>Zm7 q r s
  |_=>Zm7 q r s
 |(.c _ _,_)::r,s=>Zm7 q r s
def Zeh{q k:Nat}{e:Lb}{T:Ty}{f:Fl}{y:T.den}:∀{l:List (Key×Tm)}{s:St},s.get (.m k)=.box e T f y->(Zm7 q l s).get (.m k)=.box e T f y
 |[],s,h=>h
 |(.m j,_)::r,s,h=>by
  simp only[Zm7];split
  ·rename_i a p b;split
   ·refine Zeh ?_;rw[Vr,if_neg]
    all_goals grind
   ·exact Zeh h
  ·exact Zeh h
 |(.c _ _,_)::r,s,h=>Zeh (l:=r) h
def Qho:St->List Lc->Option (TV×St)
 |s,[]=>K1 (⟨.unit,()⟩,s)
 |s,x::xs=>match Z4f (op1 s [] x)with
  |some q=>match s.get (.m q)with
   |.box e T f y=>match f.live&&Qm5 (Zm7 q s.env s) q with
    |true=>match Qho (bY (Zm7 q s.env s) q (.shp T y)) xs with
     |some (⟨U,u⟩,s')=>K1 (⟨.pair (.sptr e T) U,(y,u)⟩,s')
     |none=>K2
    |false=>K2
   |_=>K2
  |none=>K2
def Zf1:(ts:List Ty)->(T:Ty)->T.den->Option (dp ts)
 |[],.unit,_=>K1 ()
 |.sptr e t::ts,.pair a b,x=>match ay (.sptr e t) a x.1,Zf1 ts b x.2 with
  |some u,K1 us=>K1 (u,us)
  |_,_=>K2
 |_,_,_=>K2
def KG(s:St)(tg:Kd):(ts:List Ty)->List Lc->(T:Ty)->T.den->Option (dp ts)
 |ts,[],T,y=>Zf1 ts T y
 |t::ts,x::xs,T,y=>match cT s (op1 s tg x) t,KG s tg ts xs T y with
  |some u,K1 us=>K1 (u,us)
  |_,_=>K2
 |[],_::_,_,_=>K2
def Z7y(s:St)(tg:Kd)(x:Lc):Option (Lh×TV):=
 match ZS s (op1 s tg x)with
 |some ⟨.clo f T,_,y⟩=>K1 (f,⟨T,y⟩)
 |_=>K2
def Qhm{ρ:Type}(Γ:Env)(n:Nat)(s:St)(tg:Kd)(dst:Option Nat)(c:Lh×TV)(xs:List Lc)(k:St->Option ρ):Option ρ:=
 match Γ.find c.1 with
 |none=>K2
 |some e=>match KG s tg e.args xs c.2.1 c.2.2 with
  |none=>K2
  |some us=>match dst with
   |none=>(e.F us).bind λ_=>k s
   |some d=>match aX s d&&Lo d n with
    |false=>K2
    |true=>(e.F us).bind λr=>k (Z1g d s e.res r)
def Qld{s2:St}{t:Tm}{S0:List Nat}(ht:Zee gh w w' s s2 F (Xm F (.m d) S0) a d t)(hX:∀b,X b->X' b)(hw:∀b,X b->w'.heap[b]? =w.heap[b]?)
  (hF:∀k b,k≠ .m d->b∈F k->w'.heap[b]? =w.heap[b]?) (hS:∀b∈S,w'.heap[b]? =w.heap[b]?):∀{u:Tm},noP d u=K3->
  vt gh w X B s F a v S u->vt gh w' X' B s2 (Xm F (.m d) S0) a v S u:=by
 intro u D c;have Z:∀{r:Nat}{p:List Nat}{v:La}{U:Ty},(r=d-> ∀v U,Yv gh w s F a d p v U->Yv gh w' s2 (Xm F (.m d) S0) a d p v U)->Yv gh w s F a r p v U->Yv gh w' s2 (Xm F (.m d) S0) a r p v U:=by
  intro r p v U hk hv;by_cases C:r=d
  ·simp_all
  ·exact Z2g ht C (λb=>hF (.m r) b (by simpa using C)) hv
 induction u with
 |pR=>exact c
 |tup=>exact c
 |val T f x=>exact qp (s:=s) (F:=λ_=>[]) (a:=a) (v:=v) (t:=.val T f x) hX hw Ae hS (show vt gh w X B s (λ_=>[]) a v S (.val T f x)from c)
 |box e T f x=>exact qp (s:=s) (F:=λ_=>[]) (a:=a) (v:=v) (t:=.box e T f x) hX hw Ae hS (show vt gh w X B s (λ_=>[]) a v S (.box e T f x)from c)
 |shp T x=>exact qp (s:=s) (F:=λ_=>[]) (a:=a) (v:=v) (t:=.shp T x) hX hw Ae hS (show vt gh w X B s (λ_=>[]) a v S (.shp T x)from c)
 |ptr r p=>
  obtain⟨o,e,T,f,x,b,E,A,H,G⟩:=c;have C:d≠r:=λe=>by simp_all[noP]
  exact⟨o,e,T,f,x,b,E,by rw[ht.get];simp[C,A],Ag,G⟩
 |aep r p i=>
  obtain⟨o,e,T,f,x,b,E,n,L,y,A,H,G,M⟩:=c;have C:d≠r:=λe=>by simp_all[noP]
  exact⟨o,e,T,f,x,b,E,n,L,y,by rw[ht.get];simp[C,A],Ag,G,M⟩
 |bor r p=>
  obtain⟨o,A⟩:=c;refine⟨o,λz=>?_⟩;obtain⟨z,I⟩:=ht.bad r p z
  grind
 |elp r p i q=>
  obtain⟨o,A⟩:=c;refine⟨o,λz=>?_⟩;obtain⟨z,I⟩:=ht.bad r p z
  grind
 |bel r p i q=>
  obtain⟨o,A⟩:=c;refine⟨o,λz N=>?_⟩;obtain⟨N,C⟩:=ht.el r (St.bad_foul z) N;obtain⟨z,I⟩:=ht.bad r p z;obtain⟨e,L,J,n,O,x0,y,cs,h,k1,k2,k3,k4,k5,k6,k7⟩:=A z N;have W:∀m,(J.add m).block=J.block:=λm=>by grind[Lz]
  exact⟨e,L,J,n,O,x0,y,cs,Z I h,k1,k2,Ag,k4,k5,k6,λj u I=>by
   grind[Md]⟩
 |cl f l=>
  obtain⟨o,P,A,H,G⟩:=c;refine⟨o,P,A,H,λj q K=>?_⟩;obtain⟨u,c,e,T,f,x,b,E,Q,g2,V⟩:=G j q K;have C:d≠q:=λe=>by
   have:=L2.1 (show l.all (λq=> !(Ld q d))=K3 from D) q (Mk K);simp[e]at this
  exact⟨u,c,e,T,f,x,b,E,by rw[ht.get];simp[C,Q],Ag,V⟩
 |pls hh l=>
  obtain⟨o,J,P,A,H,G,M,h5⟩:=c;refine⟨o,J,P,hX _ A,λj u I=>?_,G,λj q K=>?_,h5⟩
  ·grind[Lz,Md]
  ·obtain⟨u,c,e,T,f,x,b,E,Q,g2,V⟩:=M j q K;have C:d≠q.1:=λe=>by
    have:=L2.1 (show l.all (λq=> !(Ld q.1 d))=K3 from D) q (Mk K);simp[e]at this
   exact⟨u,c,e,T,f,x,b,E,by rw[ht.get];simp[C,Q],Ag,V⟩
 |gd g Y u ih=>
  intro z;obtain⟨z,I⟩:=ht.pN g z;obtain⟨o,A,H⟩:=c z;refine⟨?_,λW=>ih D (A W),H⟩;by_cases hg:g=d
  ·simp_all
  ·rw[ht.get];grind
def R.frzB(hs0:g.soft=K4)(h:R n W0 w X F H s a){e:Lb}{T:Ty}{f:Fl}{x:T.den}(hg:s.get (.m k)=.box e T f x)(hf:f.live=K3)(hp:Qm5 s k=K3):
  R n W0 w (λb=>X b\/b∈F (.m k)) (Xm F (.m k) []) H (bY s k (.shp T x)) a/\ ∃b c,Xj W0.gh a (.m k)=.pointer (K1 ⟨b,0,K2⟩)/\b∈F (.m k)/\w.heap[b]? =K1 (.cells c e (0,0))/\rd w (λb=>X b\/b∈F (.m k)) W0.B K4 T x c.toList []:=by
 have hs:=h.slots (.m k);rw[hg]at hs;obtain⟨b,c,C,p,r,t,z⟩:=hs;have y:rd w (λb=>X b\/b∈F (.m k)) W0.B K4 T x c.toList []:=Vo (λb l=>.inl l) hf z λb l=>.inr Ac;have l:b∈F (.m k):=by rw[r];simp
 refine⟨?_,b,c,p,l,t,y⟩;exact
 {size:=h.size
  defers:=h.defers
  below:=h.below
  glob:=h.glob
  gx:=λb l=>.inl (h.gx b l)
  xs:=λe=>Ac
  fix:=h.fix
  xlt:=λb l=>l.elim (h.xlt b) λl=>(h.own _ b l).2.1
  xin:=λb l=>l.elim (h.xin b) λl=>.inr (h.own _ b l).1
  x0:=λb l=>.inl (h.x0 b l)
  own:=λj b l=>by
   simp only[Xm]at l;split at l
   ·cases l
   ·rename_i q;obtain⟨p,r,t⟩:=h.own j b l;exact⟨p,r,λhx=>hx.elim t λhk=>q (h.pS j (.m k) b l hk)⟩
  nodup:=λj=>by
   simp only[Xm];split
   ·simp
   ·exact h.nodup j
  pS:=λj A b l o=>by
   simp only[Xm]at l o;split at l
   ·cases l
   ·split at o
    ·cases o
    ·exact h.pS j A b l o
  hown:=λb l=>let⟨p,r,t⟩:=h.hown b l;⟨p,r,λhx=>hx.elim t λhk=>h.pL _ b hk l⟩
  pK:=h.pK
  pL:=λj b l=>by
   simp only[Xm]at l;split at l
   ·cases l
   ·exact h.pL j b l
  pM:=λd i v=>by
   rw[Vr]at v⊢;simp only[reduceCtorEq,if_false]at v;obtain⟨p,r⟩:=h.pM d i v
   grind
  slots:=λj=>by
   by_cases q:j=.m k
   ·subst q;rw[Vr];simp only[if_true,Xm];refine⟨rfl,⟨b,0,K2⟩,c.toList,p,.inr l,λj u q=>?_,cS y Ae⟩;rw[nS w t,<-Array.getElem?_toList,Ma];exact q
   ·have e:Xm F (.m k) [] j=F j:=by simp[Xm,q]
    rw[Vr,e];simp only[Lk q,if_false];exact Qld Zvd (λ_ h=>.inl h) (λ_ _=>rfl) (λ_ _ _ _=>rfl) (λ_ _=>rfl) (Qjs hp j) (h.slots j)}
def JK{q:Nat}:∀{l:List (Key×Tm)}{s:St}{F:Key->List Nat},R n W0 w X F H s a-> ∃F',R n W0 w X F' H (Zm7 q l s) a
 |[],s,F,h=>⟨F,h⟩
 |(.m k,_)::r,s,F,h=>by
  simp only[Zm7];split
  ·rename_i i p d;split
   ·exact JK (h.turn (S':=[]) (H':=H) h.below (Li _) (λ_ _=>rfl) (λ_ _ _ _=>rfl) (λb g=>Ac) (by simpa using h.pK) (by rw[d];simp) (λe T f x b S g j=>Ac) rfl)
   ·exact JK h
  ·exact JK h
 |(.c _ _,_)::r,s,F,h=>JK (l:=r) h
def Zy4(hs0:g.soft=K4):∀{xs:List Lc}{s s':St}{X:Nat->Prop}{F:Key->List Nat}{U:TV},R n W0 w X F H s a->Qho s xs=K1 (U,s')->
  ∃X' F',R n W0 w X' F' H s' a/\(∀b,X b->X' b)/\rd w X' W0.B K4 U.1 U.2 (xs.map a.eval) []
 |[],s,s',X,F,U,h,d=>by
  simp only[Qho,pB,pF]at d;obtain⟨rfl,rfl⟩:=d;exact⟨X,F,h,λ_ h=>h,rfl,rfl⟩
 |x::xs,s,s',X,F,U,h,d=>by
  simp only[Qho]at d;split at d
  ·rename_i q o;split at d
   ·rename_i e T f y m;split at d
    ·rename_i i;simp only[pC]at i;split at d
     ·rename_i E G I hk;simp only[pB,pF]at d;obtain⟨rfl,rfl⟩:=d;obtain⟨J,p⟩:=JK (q:=q) (l:=s.env) h;obtain⟨r,b,c,t,u,v,z⟩:=R.frzB hs0 p (Zeh m) i.1 i.2;obtain⟨X',F',A,j,C⟩:=Zy4 hs0 r hk;refine⟨X',F',A,λb D=>j b (.inl D),?_⟩;have k:=Zdp h o m;exact⟨[_],_,[],[],rfl,rfl,⟨rfl,rfl,b,c,by rw[k,t],j b (.inr u),v,eU j (λ_ _=>rfl) z Ae⟩,C⟩
     ·cases d
    ·cases d
   ·cases d
  ·cases d
def Z2m{X:Nat->Prop}(hX:∀b,X b->b<w.heap.size){ts:List Ty}:∀{T:Ty}{y:T.den}{us:dp ts}{cs:List La},Zf1 ts T y=K1 us->rd w X B K4 T y cs []->Zbq w (· <w.heap.size) 0 ts us cs:=by
 induction ts with
 |nil=>
  intro T y us cs c d;cases T<;>first
   |exact d.1
   |(simp[Zf1]at c;done)
 |cons t ts h=>
  intro T y us cs c d;cases t<;>first
   |(simp[Zf1]at c;done)
   |skip
  cases T<;>first
   |(simp[Zf1]at c;done)
   |skip
  rename_i e t a b;obtain⟨i,j,k,l,m,D,n,p⟩:=d;simp only[Zf1]at c;split at c
  ·rename_i u q r f;simp only[pB]at c;subst c;have:=fG r;obtain⟨E,F⟩:=y;cases this;have s:k=[]/\l=[]:=Ac
   obtain⟨rfl,rfl⟩:=s;obtain⟨_,o,v,x,g,z,A,C⟩:=n;refine⟨i,j,by rw[m,g];rfl,?_,h f p⟩;exact cS (km (Lt _) hX ⟨rfl,o,v,x,g,z,A,C⟩) Ae
  ·cases c
def Zh2{Y:Nat->Prop}(hY:∀b,Y b->b<w.heap.size)(h:R n W0 w X F H s a)(ht:tg.ok W0.gh a):∀{ts:List Ty}{xs:List Lc}{T:Ty}{y:T.den}{us:dp ts}{cs:List La},KG s tg ts xs T y=K1 us->rd w Y B K4 T y cs []->Zbq w (· <w.heap.size) 0 ts us (xs.map a.eval++cs)
 |ts,[],T,y,us,cs,c,d=>Z2m hY (by simp_all[KG]) d
 |t::ts,x::xs,T,y,us,cs,c,d=>by
  simp only[KG]at c;split at c
  ·rename_i u g i e;simp only[pB]at c;subst c;obtain⟨f,j,k⟩:=eD h ht i;exact⟨f,_,by simp[j],km (Lt _) (λ_ h=>h) k,Zh2 hY h ht e d⟩
  ·cases c
 |[],_::_,_,_,_,_,c,_=>by grind[KG]
def Z7z(h:R n W0 w X F H s a)(ht:tg.ok W0.gh a)(hf:Z7y s tg x=K1 (f,U)):∃cs:List La,a.eval x=.func (.func f) #[] cs.toArray/\ ∃S:List Nat,rd w (λb=>X b\/b∈S) W0.B K4 U.1 U.2 cs []/\ ∀b∈S,b<w.heap.size:=by
 unfold Z7y at hf;split at hf
 ·rename_i o T p y d;simp only[pB,pF]at hf;obtain⟨rfl,rfl⟩:=hf;obtain⟨c,q,S,e,g,i⟩:=lJ h ht d;obtain⟨_,cs,j,l⟩:=Vo (X':=λb=>X b\/b∈S) (λ_ h=>.inl h) c g (λ_ h=>.inr h);exact⟨cs,by rw[e,j];rfl,S,l,λb m=>let⟨k,hk⟩:=i b m;(h.own k b hk).2.1⟩
 ·cases hf
def Zvs{Γ:Env}(hΓ:Γ.ok P g)(h:R n W0 w X F H s a)(ht:tg.ok W0.gh a)(hfo:Z7y s tg fo=K1 (f,U))(ho:o.op=.call {callee:=.value fo,args:=xs,argTypes:=ats}){e:FnE}(he:Γ.find f=K1 e)
  {us:dp e.args} (hus:KG s tg e.args xs.toList U.1 U.2=K1 us) {rv:dp e.res} (hpre:e.F us=K1 rv) 
  (hK:∀rs S w',R n W0 w' X F (S++H) s a->wj w' W0.B e.res rv rs S->Old w w'->K (a.put o.dst (ba rs)) w'):o.wp P a w K Q:=by
 obtain⟨D,l⟩:=Env.find_ok hΓ he;subst D;obtain⟨m,hfo,J,v,y⟩:=Z7z h ht hfo;have E:=l.calls w us rv (xs.toList.map a.eval++m) h.glob (Zh2 (λb d=>d.elim (h.xlt b) (y b)) h ht hus v) hpre;have p:(execOp a.eval o).run P w=.ok (.enter e.f (xs.toList.map a.eval++m).toArray) w:=by
  have:execOp a.eval o=callFunc e.f (xs.map a.eval++m.toArray):=by
   simp_all[execOp,resolve,L6,invoke]
  rw[this,l.enters];simp_all
 unfold Lp;rw[p,L4];refine E.mono λL w' ⟨rs,S,z,q,A,r⟩=>?_;subst z;show K (a.put o.dst (ba rs)) w';have u:∀{j:List Ty}{x:dp j}{rs:List La}{S:List Nat},wj w' w.heap.size j x rs S->(∀b∈S,w.heap.size<=b/\b<w'.heap.size)/\wj w' W0.B j x rs S:=by
  intro j
  induction j with
  |nil=>intro x rs S h;exact⟨by simp[h.2],h⟩
  |cons t j G=>
   intro x rs S ⟨m,us,S1,S2,e1,e2,g1,g2⟩;obtain⟨M,I⟩:=G g2;refine⟨λb d=>?_,m,us,S1,S2,e1,e2,km h.below.sizeB (λ_ h=>h) g1,I⟩
   grind[Zgy]
 obtain⟨c,i⟩:=u q;exact hK rs S w' ((h.below' r).hand (λb d=>⟨.inl (Lm h.below.size (c b d).1),(c b d).2,λhx=>by have:=h.xlt b hx;grind⟩) A
  (λk b d C=>by have:=(h.own k b d).2.1;grind) (λb d C=>by have:=(h.hown b C).2.1;grind)) i (λk hk=>r.block k hk)
def Z7u{Γ:Env}(hΓ:Γ.ok P g)(h:R n W0 w X F H s a)(ht:tg.ok W0.gh a){c:Lh×TV}(hfo:Z7y s tg fo=K1 c)(ho:o.op=.call {callee:=.value fo,args:=xs,argTypes:=ats}){k:St->Option ρ}{r:ρ}(hr:Qhm Γ n s tg o.dst c xs.toList k=K1 r)
   (hK:∀v w' F' s',k s'=K1 r->R n W0 w' X F' H s' (a.put o.dst v)->Old w w'->K (a.put o.dst v) w'):o.wp P a w K Q:=by
 unfold Qhm at hr;split at hr
 ·cases hr
 ·rename_i e m;split at hr
  ·cases hr
  ·rename_i u i;cases hd:o.dst with
   |none=>
    rw[hd]at hr;simp only[Lr]at hr;obtain⟨q,f,hk⟩:=hr;refine Zvs hΓ h ht hfo ho m i f λp S w' l b hold=>?_;have j:=hK (ba p) w' F s hk;rw[hd]at j⊢;exact j l.drop hold
   |some d=>
    rw[hd]at hr;simp only at hr;split at hr
    ·cases hr
    ·rename_i hdn;simp only[pC,Lx]at hdn;simp only[Lr]at hr;obtain⟨q,f,hk⟩:=hr;refine Zvs hΓ h ht hfo ho m i f λp S w' l b hold=>?_;obtain⟨F',t⟩:=l.putRes hdn.1 hdn.2 b
     grind
def ppB(P:Lf)(e e2:Lb):Bool:=
 match P.underlying e,P.info? e2,P.underlying e2 with
 |some (.slice e3),K1 i,K1 (.pointer e4)=>Ld e3 e2&&(Ld i.size 1&&(L9 i.bytes 8192&&(match i.zero with|some (.pointer K2)=>K3|_=>K4)))&&(match P.info? e4 with|some i=>Lo 0 i.size|none=>K4)
 |_,_,_=>K4
def erB(P:Lf)(e:Lb):Bool:=match P.underlying e with|some (.interface _)=>K3|_=>K4
structure uZ where
 pp:List (Lb×Lb):=[]
 er:List Lb:=[]
def uZ.elem(t:uZ)(e:Lb):Option Lb:=(t.pp.find? λp=>Ld p.1 e).map (·.2)
def uZ.isPtr(t:uZ)(e:Lb):Bool:=t.pp.any λp=>Ld p.2 e
def uZ.isErr(t:uZ)(e:Lb):Bool:=t.er.any (Ld e)
structure uZ.ok(t:uZ)(P:Lf):Prop where
 pp:∀p∈t.pp,ppB P p.1 p.2=K3
 er:∀e∈t.er,erB P e=K3
def Zsa{P:Lf}{e:Lb}(h:ppB P e e2=K3):P.underlying e=K1 (.slice e2)/\(∃i,P.info? e2=K1 i/\i.size=1/\i.bytes<=8192/\i.zero=K1 (.pointer K2))/\ ∃e4 i,P.underlying e2=K1 (.pointer e4)/\P.info? e4=K1 i/\0<i.size:=by
 unfold ppB at h;split at h
 ·rename_i j i e4 a b k;simp only[pC]at h;obtain⟨⟨c,d,f,l⟩,g⟩:=h;have:=pD c;subst this;refine⟨a,⟨i,b,pD d,by simpa using f,?_⟩,?_⟩
  ·grind
  ·split at g
   all_goals simp_all
 ·cases h
def uZ.elem_ok{t:uZ}{P:Lf}(h:t.ok P){e:Lb}(he:t.elem e=K1 e2):ppB P e e2=true:=by
 unfold uZ.elem at he;simp only[Mp]at he;obtain⟨p,a,rfl⟩:=he;have b:=List.find?_some a;have:=h.pp p (List.mem_of_find?_eq_some a);simp_all
def uZ.isPtr_ok{t:uZ}{P:Lf}(h:t.ok P){e:Lb}(he:t.isPtr e=K3):∃e4 i,P.underlying e=K1 (.pointer e4)/\P.info? e4=K1 i/\0<i.size:=by
 unfold uZ.isPtr at he;rw[Mg]at he;obtain⟨p,a,b⟩:=he;have:=(Zsa (h.pp p a)).2.2;simp_all
def uZ.isErr_ok{t:uZ}{P:Lf}(h:t.ok P){e:Lb}(he:t.isErr e=K3):∃ms,P.underlying e=K1 (.interface ms):=by
 unfold uZ.isErr at he;rw[Mg]at he;obtain⟨p,a,b⟩:=he;have:=h.er p a
 grind[pD,erB]
variable {pt:uZ}
def Z4a(s:St)(tg:Kd):Nat->List (Nat×Lc)->Option (List (Nat×List Nat))
 |_,[]=>K1 []
 |k,(i,y)::r=>match Ld i k,op1 s tg y with
  |true,.tm _ (.ptr q p)=>match Z4a s tg (k+1) r with
   |some l=>K1 ((q,p)::l)
   |none=>K2
  |true,.tm q (.box ..)=>match s.get (.m q),Z4a s tg (k+1) r with
   |.box ..,K1 l=>K1 ((q,[])::l)
   |_,_=>K2
  |_,_=>K2
def Zkl(h:R n W0 w X F H s a)(ht:tg.ok W0.gh a):∀{parts:List (Nat×Lc)}{k:Nat}{l:List (Nat×List Nat)}{cs:Array La}{A M:List La},
  Z4a s tg k parts=K1 l->cs.toList=A++M->A.length=k->M.length=parts.length->
  ∃us cs',Ms (λi=>K1 (i*1,1)) cs (parts.map λp=>(p.1,a.eval p.2))=K1 cs'/\cs'.toList=A++us/\us.length=l.length/\l.length=parts.length/\ ∀(j:Nat)(q:Nat×List Nat),l[j]? =K1 q-> ∃u,us[j]? =K1 u/\atP s F q.1 q.2 u
 |[],k,l,cs,A,M,g,t,K,D=>by
  simp only[Z4a,pB]at g;subst g;have:M=[]:=Mu D;subst this;exact⟨[],cs,rfl,by simpa using t,rfl,rfl,Ae⟩
 |(i,y)::r,k,l,cs,A,M,g,t,K,D=>by
  simp only[Z4a]at g;split at g
  ·rename_i k' q p d L;have d:=pD d;subst d;split at g
   ·rename_i Y B;simp only[pB]at g;subst g;obtain⟨_,hv⟩:=V0 h ht L Ae;obtain⟨_,e,T,f,x,b,N,Z,h2,E⟩:=hv;obtain⟨z,o,rfl⟩:∃z o,M=z::o:=by
     cases M with
     |nil=>simp at D
     |cons z o=>simp_all
    have G:(a.eval y).cells= #[a.eval y]:=by rw[E];rfl
    obtain⟨C,I,g2⟩:=Zen (place:=λi=>K1 (i*1,1)) (i:=i) (rest:=r.map λp=>(p.1,a.eval p.2)) (v:=a.eval y) rfl (pre:=A) (mid:=[z]) (post:=o) (by rw[t];simp) Aa rfl (by rw[G];rfl);rw[G]at I;obtain⟨us,cs',k1,O,P,Q,k5⟩:=Zkl h ht (k:=i+1) (cs:=C) (A:=A++[a.eval y]) (M:=o) B (by rw[I];simp) (by simp[K]) (by simpa using D);refine⟨a.eval y::us,cs',Ac,by rw[O];simp,by simp[P],by simp[Q],λj q' J=>?_⟩;cases j with
    |zero=>
     simp only[L8,pB]at J;subst J;exact⟨_,rfl,e,T,f,x,b,N,Z,h2,E⟩
    |succ j=>simp_all
   ·cases g
  ·rename_i q e0 T0 f0 x0 d L;have d:=pD d;subst d;split at g
   ·rename_i e T f x Y W B;simp only[pB]at g;subst g;obtain⟨rfl,S,_⟩:=wh L;have hs:=h.slots (.m q);rw[W]at hs;obtain⟨b,c,N,U,V,_⟩:=hs;have ab:a.eval (.tmp q)=.pointer (K1 ⟨b,0,K2⟩):=(Jf W0 a S).symm.trans U;have E:a.eval (.tmp q)=.pointer (K1 ⟨b,aB T [],K2⟩):=by
     simp_all[aB]
    obtain⟨z,o,rfl⟩:∃z o,M=z::o:=by
     cases M with
     |nil=>simp at D
     |cons z o=>simp_all
    have G:(a.eval (.tmp q)).cells= #[a.eval (.tmp q)]:=by rw[E];rfl
    obtain⟨C,I,g2⟩:=Zen (place:=λi=>K1 (i*1,1)) (i:=i) (rest:=r.map λp=>(p.1,a.eval p.2)) (v:=a.eval (.tmp q)) rfl (pre:=A) (mid:=[z]) (post:=o) (by rw[t];simp) Aa rfl (by rw[G];rfl);rw[G]at I;obtain⟨us,cs',k1,O,P,Q,k5⟩:=Zkl h ht (k:=i+1) (cs:=C) (A:=A++[a.eval (.tmp q)]) (M:=o) B (by rw[I];simp) (by simp[K]) (by simpa using D);refine⟨a.eval (.tmp q)::us,cs',Ac,by rw[O];simp,by simp[P],by simp[Q],λj q' J=>?_⟩;cases j with
    |zero=>
     simp only[L8,pB]at J;subst J;exact⟨_,rfl,e,T,f,x,b,N,W,V,E⟩
    |succ j=>simp_all
   ·cases g
  ·cases g
def Qb3(pt:uZ)(s:St)(tg:Kd)(e:Lb)(len:Nat)(parts:Array (Nat×Lc)):Option Res:=
 match pt.elem e with
 |some _=>match Ld parts.size len&&(Lo 0 len&&L9 len 16777216),Z4a s tg 0 parts.toList with
  |true,K1 l=>K1 ⟨.pls K3 l,s,K3,K2⟩
  |_,_=>K2
 |none=>K2
def Z6s(hs:g.soft=K4)(h:R n W0 w X F H s a)(ht:tg.ok W0.gh a)(hp:pt.ok P){e:Lb}(ho:o.op=.buildSlice e len parts)(hr:Qb3 pt s tg e len parts=K1 r):ZW P n W0 w X H s a o r:=by
 unfold Qb3 at hr;split at hr
 ·rename_i v E;split at hr
  ·rename_i l x G;simp only[pB]at hr;subst hr;simp only[pC,Nat.ble_eq]at x;obtain⟨k,m,B⟩:=x;have k:=pD k;have m:0<len:=Ac
   obtain⟨I,⟨i,J,p,_,L⟩,_⟩:=Zsa (uZ.elem_ok hp E);intro _ K Q N;obtain⟨f,C⟩:∃f:Array La,f=(Array.range (len*i.size)).map ((M2 K2).cells[· % (M2 K2).cells.size]!):=⟨_,rfl⟩
   obtain⟨D,d,k1,O,U,k4,V⟩:=Zkl h ht (cs:=f) (A:=[]) (M:=f.toList) G rfl rfl Ac;have y:l.length=len:=Ac
   have t:(execOp a.eval o).run P w=.ok (.value (.slice (K1 ⟨w.heap.size,0,K2⟩) len len)) (w.alloc (.cells d v)):=by
    simp only[execOp,ho,Lu];rw[run_buildSlice w e v len _ d i _ I J L (by rw[p];omega) (by rw[p];omega) Ac];simp
   unfold Lp;rw[t];have z:d.toList=D:=by simpa using O
   have W:=R.give (S:=[w.heap.size]) (H:=H) hs (h.alloc (.cells d v));refine N _ _ F [] _ (λb x=>.inl x) W ⟨rfl,⟨w.heap.size,0,K2⟩,D,.inr Ae,λj u Y=>?_,U,λj q Z=>V j q Z,by rw[y],by grind[maxLen]⟩ (λhm=>by cases hm) ⟨λ_=>Old.alloc _ _,h.kept (Old.alloc _ _)⟩;rw[nS (c:=d) (e:=v) _ (Zqh _ _),<-Array.getElem?_toList,z,Ma];exact Y
  ·cases hr
 ·cases hr
def Qbj(pt:uZ)(s:St)(tg:Kd)(e:Lb)(x:Lc):Option Res:=
 match pt.elem e,op1 s tg x with
 |some _,.tm _ (.pls K3 l)=>K1 ⟨.val (.int .i64) (.u K4) (l.length:Int),s,K4,K2⟩
 |_,_=>K2
def Z6a(h:R n W0 w X F H s a)(ht:tg.ok W0.gh a)(hp:pt.ok P){e:Lb}(ho:o.op=.call {callee:=.builtin .len,args:= #[x],argTypes:= #[e]})(hr:Qbj pt s tg e x=K1 r):dz P τ W0 w X F s a o r:=by
 unfold Qbj at hr;split at hr
 ·rename_i c k l b hx;simp only[pB]at hr;subst hr;obtain⟨_,hv⟩:=V0 h ht hx Ae;obtain⟨_,d,f,_,_,_,_,hv,_⟩:=hv;refine Jg rfl λ_=>⟨_,λg _=>?_,Zed _ _⟩
  simp only[execOp,ho];simp[resolve,invoke,builtin,hv,Builtin.len_,run_underlying (Zsa (uZ.elem_ok hp b)).1,goInt]
 ·cases hr
def Qbf(pt:uZ)(s:St)(tg:Kd)(e:Lb)(x i:Lc):Option Res:=
 match pt.elem e,op1 s tg x,ze s (op1 s tg i)with
 |some _,.tm _ (.pls K3 l),K1 (_,j)=>match Lq (0<=j),l.drop j.toNat with
  |true,q::r=>K1 ⟨.pls K4 (q::r),s,K4,K2⟩
  |_,_=>K2
 |_,_,_=>K2
def Z54(h:R n W0 w X F H s a)(ht:tg.ok W0.gh a)(hp:pt.ok P){e:Lb}{i:Lc}(ho:o.op=.indexAddr e x i)(hr:Qbf pt s tg e x i=K1 r):dz P τ W0 w X F s a o r:=by
 unfold Qbf at hr;split at hr
 ·rename_i g k l p j t hx v;split at hr
  ·rename_i q G c I;simp only[pB]at hr;subst hr;have c:0<=j:=pE c;have J:=gq h ht v;obtain⟨_,hv⟩:=V0 h ht hx Ae;obtain⟨_,b,y,K,L,M,N,hv,z⟩:=hv;obtain⟨A,⟨O,Q,B,C,_⟩,_⟩:=Zsa (uZ.elem_ok hp t);have D:j.toNat<l.length:=by
    grind[List.drop_eq_nil_of_le]
   have E:∀w,(sizeOf g).run P w=.ok 1 w:=λw=>by simp_all[sizeOf,typeInfo]
   refine Jg rfl λ_=>⟨.pointer (K1 (b.add j.toNat)),λd _=>?_,rfl,b.add j.toNat,y.drop j.toNat,?_,λm u z=>?_,Ag,λm S U=>?_,rfl⟩
   ·have f:(Mt e (.slice (K1 b) l.length l.length) (.int p j)).run P d=.ok (.pointer (K1 (b.add j.toNat))) d:=by
     simp only[Mt,Lu,asIntOf,M0,L5,run_underlying A];simp_all
    simp_all[execOp]
   all_goals grind[Lz]
  ·cases hr
 ·cases hr
def Z6c(pt:uZ)(s:St)(tg:Kd)(e:Lb)(x:Lc):Option Res:=
 match pt.isPtr e,op1 s tg x with
 |true,.tm _ (.pls K4 (q::_))=>K1 ⟨.ptr q.1 q.2,s,K4,K2⟩
 |_,_=>K2
def Z2t(h:R n W0 w X F H s a)(ht:tg.ok W0.gh a)(hp:pt.ok P){e:Lb}(ho:o.op=.load e x)(hr:Z6c pt s tg e x=K1 r):dz P τ W0 w X F s a o r:=by
 unfold Z6c at hr;split at hr
 ·rename_i k q l j hx;simp only[pB]at hr;subst hr;obtain⟨rfl,hv⟩:=V0 h ht hx Ae;obtain⟨_,f,z,g,A,B,m,hv⟩:=hv;obtain⟨u,C,d⟩:=m 0 q rfl;obtain⟨D,E,p,t,_⟩:=uZ.isPtr_ok hp j;have v:w.cell? f=K1 u:=by grind[Lz]
  refine Jg rfl λ_=>⟨u,λi c=>?_,rfl,d⟩
  have y:i.cell? f=K1 u:=by
   have c:=c (by rw[ho];rfl);rw[ho,qx hx Ae]at c;have c:∀b,b<w.heap.size->X b->i.heap[b]? =w.heap[b]? :=c;rw[Md (w:=w) (c _ (h.xlt _ g) g)];exact v
  simp_all[isAgg,run_underlying,execOp,Instr.loadAt,Instr.sureAddr,loadVar]
 ·cases hr
def Z1e(pt:uZ)(s:St)(tg:Kd)(op:BinOp)(e:Lb)(x y:Lc):Option Res:=
 match pt.isPtr e,op1 s tg x,op1 s tg y with
 |true,.tm _ (.ptr q p),.tm _ (.ptr q2 p2)=>match Ld q q2,s.get (.m q)with
  |true,.box _ T _ _=>match op with
   |.eql=>K1 ⟨.val .bool (.u K4) (Ld (aB T p) (aB T p2)),s,K4,K2⟩
   |.neq=>K1 ⟨.val .bool (.u K4) (!(Ld (aB T p) (aB T p2))),s,K4,K2⟩
   |_=>K2
  |_,_=>K2
 |_,_,_=>K2
def Z1f(h:R n W0 w X F H s a)(ht:tg.ok W0.gh a)(hp:pt.ok P){e:Lb}(ho:o.op=.binOp op e x y e2)(hr:Z1e pt s tg op e x y=K1 r):dz P τ W0 w X F s a o r:=by
 unfold Z1e at hr;split at hr
 ·rename_i k q p L M b v hx A;split at hr
  ·rename_i N T f z B C;have:=pD B;subst this;obtain⟨_,hv⟩:=V0 h ht hx Ae;obtain⟨_,O,Q,S,U,c,V,j,D,W⟩:=hv;obtain⟨_,g⟩:=V0 h ht A Ae;obtain⟨_,E,Y,Z,x2,b2,S2,l,m,l3⟩:=g;rw[C]at j l;cases j;cases l;rw[D]at m;obtain⟨rfl,rfl⟩:=Ll m;obtain⟨e4,G,i,I,t⟩:=uZ.isPtr_ok hp v;have u:∀w,(Mb e (.pointer (K1 ⟨c,aB T p,K2⟩)) (.pointer (K1 ⟨c,aB T b,K2⟩))).run P w=.ok (Ld (aB T p) (aB T b)) w:=λw=>by
    have h0:G.size≠0:=Aa
    have hb:((⟨c,aB T p,K2⟩:Ln)==⟨c,aB T b,K2⟩)=Ld (aB T p) (aB T b):=by
     rw[Bool.eq_iff_iff];simp[Nat.beq_eq]
    obtain⟨d,J⟩:∃d,Op.maxDepth=d+1:=⟨9999,rfl⟩
    unfold Mb;rw[J];simp only[Mo,Lu,run_underlying i,L5];simp_all[sizeOf,typeInfo,sameAddr]
   split at hr
   ·simp only[pB]at hr;subst hr;refine Jg rfl λ_=>⟨_,λK _=>?_,JG _⟩
    simp_all[execOp,eqGuard,Lw]
   ·simp only[pB]at hr;subst hr;refine Jg rfl λ_=>⟨_,λK _=>?_,JG _⟩
    simp_all[execOp,eqGuard,Lw]
   ·cases hr
  ·cases hr
 ·cases hr
def Qax(pt:uZ)(s:St)(tg:Kd)(op:BinOp)(e:Lb)(x y:Lc):Option Res:=
 match pt.isErr e,cT s (op1 s tg x) .err,y with
 |true,K1 z,.const .nilIface=>match op with
  |.eql=>K1 ⟨.val .bool (.u K4) z,s,K4,K2⟩
  |.neq=>K1 ⟨.val .bool (.u K4) (!z),s,K4,K2⟩
  |_=>K2
 |_,_,_=>K2
def Z5t(h:R n W0 w X F H s a)(ht:tg.ok W0.gh a)(hp:pt.ok P){e:Lb}(ho:o.op=.binOp op e x y e2)(hr:Qax pt s tg op e x y=K1 r):dz P τ W0 w X F s a o r:=by
 unfold Qax at hr;split at hr
 ·rename_i z i j;obtain⟨ms,f⟩:=uZ.isErr_ok hp i;have hx:∃v,a.eval x=v/\((z=K3/\v=.nilIface)\/(z=K4/\ ∃t u,v=.iface t u)):=by
   obtain⟨k,l,m⟩:=eD h ht j;obtain⟨⟨v,rfl,_,p⟩,_⟩:(∃v,k=[v]/\v.oneCell'=K3/\((z=K3/\v=.nilIface)\/(z=K4/\ ∃t u,v=.iface t u)))/\_:=m;exact⟨v,l,p⟩
  obtain⟨v,hv,hk⟩:=hx;have g:∀w,(Mb e v .nilIface).run P w=.ok z w:=λw=>by
   obtain⟨d,q⟩:∃d,Op.maxDepth=d+1:=⟨9999,rfl⟩
   unfold Mb;rw[q];rcases hk with⟨rfl,rfl⟩|⟨rfl,t,u,rfl⟩
   ·simp only[Mo,Lu,run_underlying f,L5];simp
   ·simp only[Mo,Lu,run_underlying f,L5];simp
  have A:∀op w,(eqGuard op e x (.const .nilIface) v .nilIface).run P w=.ok () w:=λop w=>by
   unfold eqGuard;rcases hk with⟨rfl,rfl⟩|⟨rfl,t,u,rfl⟩<;>cases op<;>simp
  split at hr
  ·simp only[pB]at hr;subst hr;refine Jg rfl λ_=>⟨.bool z,λb _=>?_,JG _⟩
   have B:(Lw .eql e v .nilIface).run P b=.ok (.bool z) b:=by
    simp_all[Lw]
   have c:a.eval (.const .nilIface)=.nilIface:=rfl;simp_all[execOp]
  ·simp only[pB]at hr;subst hr;refine Jg rfl λ_=>⟨.bool (!z),λb _=>?_,JG _⟩
   have B:(Lw .neq e v .nilIface).run P b=.ok (.bool (!z)) b:=by
    simp_all[Lw]
   have c:a.eval (.const .nilIface)=.nilIface:=rfl;simp_all[execOp]
  ·cases hr
 ·cases hr
def uZ.ok_of{P:Lf}{t:uZ}(h1:(t.pp.all λp=>ppB P p.1 p.2)=K3)(h2:(t.er.all λe=>erB P e)=K3):t.ok P:=⟨λp a=>L2.1 h1 p a,λe b=>L2.1 h2 e b⟩
abbrev Fl.e:Fl:=.p (.u K3) (.u K4)
def Z6y(s:St)(o:Op1)(T:Ty):Option T.den:=Zu4 s o T
def Z24(h:R n W0 w X F H s a)(ht:tg.ok W0.gh a){T:Ty}{y:T.den}(hr:Z6y s (op1 s tg x) T=K1 y):
  ∃vs,a.eval x=Jd T vs/\rd w X W0.B K4 T y vs []:=by
 unfold Z6y Zu4 at hr;split at hr
 ·rename_i v hv;obtain rfl:=Zdm hv;obtain⟨vs,c,b⟩:=Za8 (w:=w) (X:=X) (B:=W0.B) (own:=K4) hr;exact⟨vs,c,b⟩
 ·split at hr
  ·rename_i U f j d;obtain⟨g,vs,S,c,b,k⟩:=lJ h ht d;split at hr
   ·rename_i i;cases fG hr;have e:=kK i b;subst e;exact⟨vs,c,cS (Vo (λ_ h=>h) g b Ae) Ae⟩
   ·cases hr
  ·cases hr
def Z7t(s:St)(tg:Kd)(t:Ty):Nat->List (Nat×Lc)->Option (List t.den)
 |_,[]=>K1 []
 |k,(i,y)::r=>match Ld i k,Z6y s (op1 s tg y) t,Z7t s tg t (k+1) r with
  |true,K1 z,K1 l=>K1 (z::l)
  |_,_,_=>K2
def Zvq(h:R n W0 w X F H s a)(ht:tg.ok W0.gh a){t:Ty}:∀{parts:List (Nat×Lc)}{k:Nat}{l:List t.den}{cs:Array La}{A M C:List La},
  cs.toList=A++(M++C)->A.length=k*t.size->M.length=parts.length*t.size->Z7t s tg t k parts=K1 l->
  ∃vs cs',Ms (λi=>K1 (i*t.size,t.size)) cs (parts.map λp=>(p.1,a.eval p.2))=K1 cs'/\cs'.toList=A++(vs++C)/\eh (rd w X W0.B K4 t) l vs []/\l.length=parts.length
 |[],k,l,cs,A,M,C,d,u,x,c=>by
  simp only[Z7t,pB]at c;subst c;have:M=[]:=Mu (by simpa using x);subst this;exact⟨[],cs,rfl,d,⟨rfl,rfl⟩,rfl⟩
 |(i,y)::r,k,l,cs,A,M,C,d,u,x,c=>by
  simp only[Z7t]at c;split at c
  ·rename_i z L e E j;have e:=pD e;subst e;simp only[pB]at c;subst c;obtain⟨vs,G,m⟩:=Z24 h ht E;have b:=Zgv (zZ m) (Jx m);have f:(a.eval y).cells.size=t.size:=by grind[Array.length_toList,Jx]
   have o:M.length=t.size+r.length*t.size:=Ag
   obtain⟨q,D,N⟩:=Zen (place:=λi=>K1 (i*t.size,t.size)) (i:=i) (rest:=r.map λp=>(p.1,a.eval p.2)) (v:=a.eval y) rfl (pre:=A) (mid:=M.take t.size) (post:=M.drop t.size++C)
    (by rw[d,<-L7 (M.take _),List.take_append_drop]) u Af f
   rw[G,b]at D;obtain⟨g,cs',O,I,J,K⟩:=Zvq h ht (k:=i+1) (cs:=q) (A:=A++vs) (M:=M.drop t.size) (C:=C) (by rw[D];simp) Ag (by simp[o]) j;exact⟨vs++g,cs',Ac,by rw[I];simp,⟨vs,g,[],[],rfl,rfl,m,J⟩,by simp[K]⟩
  ·cases c
def Ziw(τ:Tab)(s:St)(tg:Kd)(e:Lb)(len:Nat)(parts:Array (Nat×Lc)):Option Res:=
 match τ e with
 |some (.slice e' t)=>match τ e' with
  |some t2=>match Lq (t2=t),Ld parts.size len&&L9 (len*t.size) 16777216 with
   |true,K3=>match Z7t s tg t 0 parts.toList with
    |some l=>K1 ⟨.val (.slice e' t) .e l,s,K4,K2⟩
    |none=>K2
   |_,_=>K2
  |none=>K2
 |_=>K2
def Zp5(h:R n W0 w X F H s a)(ht:tg.ok W0.gh a)(hτ:τ.ok P){e:Lb}(ho:o.op=.buildSlice e len parts)(hr:Ziw τ s tg e len parts=K1 r):ZW P n W0 w X H s a o r:=by
 unfold Ziw at hr;split at hr
 ·rename_i I t u;split at hr
  ·rename_i d y;split at hr
   ·rename_i J f;split at hr
    ·rename_i l j;simp only[pB]at hr;subst hr;have:=pE J;subst this;simp only[pC,Nat.ble_eq]at f;have D:=pD f.1;obtain⟨Y,m⟩:=(hτ _ _ u).slice;obtain⟨i,Z,L,_,hz⟩:=(hτ _ _ y).size;intro _ K Q N;obtain⟨c,E⟩:∃c:Array La,c=(Array.range (len*i.size)).map ((Jd d (al d)).cells[· % (Jd d (al d)).cells.size]!):=⟨_,rfl⟩
     have G:c.toList.length=len*d.size:=Ac
     obtain⟨z,g,k1,O,S,k4⟩:=Zvq h ht (k:=0) (cs:=c) (A:=[]) (M:=c.toList) (C:=[]) Ae Ae Ac j;have p:l.length=len:=Ac
     have q:(execOp a.eval o).run P w=.ok (.value (.slice (K1 ⟨w.heap.size,0,K2⟩) len len)) (w.alloc (.cells g I)):=by
      simp only[execOp,ho,Lu];by_cases U:len*i.size=0
      ·have V:len=0:=by
        grind[Nat.mul_eq_zero]
       simp_all[Instr.buildSlice,run_underlying,Go.sizeOf,typeInfo,newRow,Array.range_zero']
      simp_all[run_buildSlice]
     unfold Lp;rw[q];have W:g.toList=z:=by simpa using O
     refine N _ X F [w.heap.size] _ (λ_ h=>h) (h.alloc _) ⟨[_],rfl,?_⟩ (λ_=>rfl) ⟨λ_=>Old.alloc _ _,h.kept (Old.alloc _ _)⟩;have B:z.length=len*d.size:=by grind[XT,Jx]
     refine⟨_,z,rfl,⟨⟨by rw[B,p],.inr ⟨w.heap.size,len,g,by rw[p],h.below.sizeB,Zqh _ _,Aa,?_,?_,?_⟩⟩,rfl⟩,?_⟩
     ·have:=f.2;have h2:len<=len*d.size:=Nat.le_mul_of_pos_right _ m
      grind[maxLen]
     ·grind
     ·grind
     ·exact J6 S λx v T _ u hr=>eU (λ_ h=>h) (λb j=>hold w _ b (h.xlt b j)) hr λb j=>absurd (u b j) Ae
    ·cases hr
   ·cases hr
  ·cases hr
 ·cases hr
def Zyb(s:St)(x:Op1):Option ((_:Lb)×(t:Ty)×List t.den):=
 match ZS s x with
 |some ⟨.slice e t,.u K4,l⟩=>K1 ⟨e,t,l⟩
 |some ⟨.slice e t,.p (.u K3) (.u K4),l⟩=>K1 ⟨e,t,l⟩
 |_=>K2
def Zni(h:R n W0 w X F H s a)(ht:tg.ok W0.gh a){e:Lb}{t:Ty}{l:List t.den}(hr:Zyb s (op1 s tg x)=K1 ⟨e,t,l⟩):
  ∃v ys,a.eval x=v/\eh (rd w X W0.B K4 t) l ys []/\ ∃ad cap,v=.slice ad l.length cap/\l.length<=cap/\((ad=K2/\l.length=0/\cap=0)\/ ∃a0,ad=K1 a0/\ ∀j u,ys[j]? =K1 u->w.cell? (a0.add j)=K1 u):=by
 unfold Zyb at hr;have fin:∀{own:Bool}{e:Lb}{l:List t.den}{v:La}{b:List La}{S:List Nat},hdr w X W0.B own e t.size l.length v b S-> ∃ad cap,v=.slice ad l.length cap/\l.length<=cap/\((ad=K2/\l.length=0/\cap=0)\/ ∃a0,ad=K1 a0/\ ∀j u,b[j]? =K1 u->w.cell? (a0.add j)=K1 u):=by
  grind[fI]
 split at hr
 ·rename_i k m o d;simp only[pB,Mc]at hr;obtain⟨rfl,hr⟩:=hr;simp only[heq_eq_eq,Mc]at hr;obtain⟨rfl,hr⟩:=hr;cases hr;obtain⟨_,p,S,f,c,q⟩:=lJ h ht d;unfold rdF at c;have r:=mI c;subst r;obtain⟨v,b,z,A,rfl,y,g,i⟩:=c;obtain⟨rfl,rfl⟩:=List.append_eq_nil_iff.1 y.symm;exact⟨v,b,f,i,fin g⟩
 ·rename_i k m o d;simp only[pB,Mc]at hr;obtain⟨rfl,hr⟩:=hr;simp only[heq_eq_eq,Mc]at hr;obtain⟨rfl,hr⟩:=hr;cases hr;obtain⟨_,p,S,f,c,q⟩:=lJ h ht d;obtain⟨v,b,rfl,g,i⟩:=c;exact⟨v,b,f,i,fin g⟩
 ·cases hr
def Z41(τ:Tab)(s:St)(tg:Kd)(e:Lb)(x y:Lc):Option Res:=
 match τ e with
 |some (.slice e' t)=>match τ e' with
  |some t2=>match Lq (t2=t),VC s (op1 s tg x) (.slice e' t)with
   |true,K1 ⟨.slice e1 t1,.p (.u K3) (.u K4),l,s1,_⟩=>match Lq (e1=e'/\t1=t)with
    |true=>match Zyb s1 (op1 s1 tg y)with
     |some ⟨_,t3,l3⟩=>match ay (.slice e' t1) (.slice e' t3) l3 with
      |some l4=>K1 ⟨.val (.slice e' t1) .e (l++l4),s1,K3,K1 (l.length+l4.length<=Qp)⟩
      |none=>K2
     |none=>K2
    |false=>K2
   |_,_=>K2
  |none=>K2
 |_=>K2
def Zm3{S1:List Nat}(h:R n W0 w X F (S1++H) s a){e':Lb}{t:Ty}{v':La}{xs ys:List La}{l l4:List t.den}
  (h1:hdr w X W0.B K3 e' t.size l.length v xs S1) (h2:eh (rd w X W0.B K4 t) l xs []) (h4:eh (rd w X W0.B K4 t) l4 ys [])
  (g2:w'.ownsRow W0.B e' t.size v' (l.length+l4.length) (xs++ys)) (g3:w.grownBy w' v.ownBlock) (g4:v'.ownBlock=v.ownBlock\/ ∀b,v'.ownBlock=K1 b->w.heap.size<=b):
  ∃S,R n W0 w' X F (S++H) s a/\rdF w' X W0.B (.slice e' t) .e (l++l4) [v'] S/\(∀b,X b->w'.heap[b]? =w.heap[b]?)/\ ∀k b,b∈F k->w'.heap[b]? =w.heap[b]? :=by
 have m:S1=v.ownBlock.toList:=h1.2;have f:∀b,b<w.heap.size->b∉S1->w'.heap[b]? =w.heap[b]? :=λb c A=>g3.block b c (λe=>A Ac);have i:=h.pK;have o:∀b,X b->w'.heap[b]? =w.heap[b]? :=λb c=>f b (h.xlt b c) λd=>(h.hown b (by simp[d])).2.2 c;have y:∀k b,b∈F k->w'.heap[b]? =w.heap[b]? :=λk b c=>f b (h.own k b c).2.1 λd=>h.pL k b c (by simp[d]);have j:∀b,b∈H->b∉S1:=λb c d=>(Lg.1 i).2.2 b d b c rfl;have p:W0.below w':=⟨g3.os.trans h.below.os,g3.tape.trans h.below.tape,g3.output.trans h.below.output,Lm h.below.size g3.size,λk hk=>
  (f k (Ly (W0.yW k hk) h.below.size) λd=>W0.sep hk (h.hown k (by simp[d])).1 rfl).trans (h.below.block k hk)⟩
 have z:=(h.drop).world p g3.size o y;have q:=g2.lt;have r:R n W0 w' X F (v'.ownBlock.toList++H) s a:=by
  rcases g4 with g4|g4
  ·rw[g4,<-m];refine z.hand (λb c=>?_) (Lg.1 i).1 (λk b c d=>h.pL k b c (by simp[d])) (λb c d=>j b d c);obtain⟨E,G,I⟩:=h.hown b (by simp[c]);simp_all
  ·refine z.hand (λb c=>?_) Ag (λk b c d=>?_) (λb c d=>?_)
   ·have c:v'.ownBlock=K1 b:=by simpa using c
    exact⟨.inl (Lm h.below.size (g4 b c)),(q b c).2,λhx=>Ag⟩
   ·grind
   ·have c:v'.ownBlock=K1 b:=by simpa using c
    have:=(h.hown b (by simp[d])).2.1;grind
 have g:∀{l:List t.den}{xs:List La},eh (rd w X W0.B K4 t) l xs []->eh (rd w' X W0.B K4 t) l xs []:=λC=>
  J6 C λx v T _ D u=>eU (λ_ h=>h) o u λb c=>absurd (D b c) Ae
 refine⟨v'.ownBlock.toList,r,⟨v',xs++ys,rfl,⟨by simpa using g2,rfl⟩,?_⟩,o,y⟩;exact rb (S:=[]) (S':=[]) (g h2) (g h4)
def Z2l(h:R n W0 w X F H s a)(ht:tg.ok W0.gh a)(hτ:τ.ok P){e:Lb}(ho:o.op=.call {callee:=.builtin .append,args:= #[x,y],argTypes:= #[e,e]})(hr:Z41 τ s tg e x y=K1 r):ZW P n W0 w X H s a o r:=by
 unfold Z41 at hr;split at hr
 ·rename_i e' t E;split at hr
  ·rename_i t2 j;split at hr
   ·rename_i e1 t1 l s1 m1 G hx;have:=pE G;subst this;obtain⟨_,I,S,vs,B,C,f,_,_⟩:=eL h ht hx;split at hr
    ·rename_i k;obtain⟨rfl,rfl⟩:=pE k;simp only at B C f;obtain⟨v,xs,rfl,D,J⟩:=C;split at hr
     ·rename_i e3 t3 l3 L;split at hr
      ·rename_i l4 m;simp only[pB]at hr;have:=fG m;cases this;subst hr;obtain⟨M,ys,N,p,O⟩:=Zni f ht L;intro g K Q U;obtain⟨q,i,u1,u2,u3,u4⟩:=Zf0 (P:=P) (hτ _ _ E) (hτ _ _ j) D.1 O (XT (λ_ _ _ h=>Jx h) p) (J' (λ_ _ _ h=>zZ h) p) g h.below.sizeB;obtain⟨V,W,Y,Z,z4⟩:=Zm3 f D J p u2 u3 u4;have u:a.eval x=v:=B;have c:(execOp a.eval o).run P w=.ok (.value q) i:=by
        simp only[execOp,ho];have z:(Mr #[e,e] o.type #[v,M]).run P w=.ok q i:=u1;simp[resolve,invoke,builtin,u,N,z]
       have d:Zwo W0.gh X s a K2 w i:=by
        intro b A;rcases A with A|⟨r,h1,_,h2⟩
        ·exact Z b A
        ·obtain⟨S,h3⟩:=f.boxIn (ZO hx h1) h2
         grind
       unfold Lp;rw[c];exact U _ X I V i (λ_ h=>h) W ⟨[q],rfl,Y⟩ Ae ⟨λg=>(by rw[ho]at g;cases g),d⟩
      ·cases hr
     ·cases hr
    ·cases hr
   ·cases hr
  ·cases hr
 ·cases hr
def Zpz(sf:Bool)(τ:Tab)(s:St)(tg:Kd)(e:Lb)(x y:Lc):Option Res:=
 match τ e,sf with
 |some (.slice e' t),K4=>match τ e' with
  |some t2=>match Lq (t2=t),VC s (op1 s tg x) (.slice e' t)with
   |true,K1 ⟨.slice e1 t1,.u K3,l,s1,_⟩=>match Lq (e1=e'/\t1=t)with
    |true=>match Zyb s1 (op1 s1 tg y)with
     |some ⟨_,t3,l3⟩=>match ay (.slice e' t1) (.slice e' t3) l3 with
      |some l4=>K1 ⟨.val (.slice e' t1) .e (l++l4),s1,K3,K1 (l.length+l4.length<=Qp)⟩
      |none=>K2
     |none=>K2
    |false=>K2
   |_,_=>K2
  |none=>K2
 |_,_=>K2
def Zyr(hs0:g.soft=K4)(h:R n W0 w X F H s a)(ht:tg.ok W0.gh a)(hτ:τ.ok P){e:Lb}(ho:o.op=.call {callee:=.builtin .append,args:= #[x,y],argTypes:= #[e,e]}){sf:Bool}(hr:Zpz sf τ s tg e x y=K1 r):ZW P n W0 w X H s a o r:=by
 unfold Zpz at hr;split at hr
 ·rename_i e' t u;split at hr
  ·rename_i t2 z;split at hr
   ·rename_i e1 V l W m1 hd hx;have:=pE hd;subst this;obtain⟨_,A,S,vs,Y,C,d,_,_⟩:=eL h ht hx;split at hr
    ·rename_i D;obtain⟨rfl,rfl⟩:=pE D;simp only at Y C d;unfold rdF at C;obtain⟨v,Z,E,G,rfl,rfl,k1,k2⟩:=C;split at hr
     ·rename_i e3 t3 l3 hy;split at hr
      ·rename_i l4 I;simp only[pB]at hr;have:=fG I;cases this;subst hr;have ab:=d.pK;have f:R n W0 w X A (E++H) W a:=d.sub (λb c=>Ag) (by
        grind)
       have J:R n W0 w (λb=>X b\/b∈G) A (E++H) W a:=by
        refine R.xup hs0 f (λ_ h=>.inl h) (λb c=>c.elim (f.xlt b) λc=>(d.hown b (by simp[c])).2.1) (λb c=>c.elim (f.xin b) λc=>.inr (d.hown b (by simp[c])).1) (λk b c hx=>?_) (λb c hx=>?_)
        ·rcases hx with hx|hx
         ·exact(f.own k b c).2.2 hx
         ·exact d.pL k b c (by simp[hx])
        ·rcases hx with hx|hx
         ·exact(f.hown b c).2.2 hx
         grind
       have i:hdr w (λb=>X b\/b∈G) W0.B K3 e1 V.size l.length v Z E:=Zjd k1 (λ_ h=>.inl h) (λ_ _=>rfl) (λ_ _=>rfl);have L:eh (rd w (λb=>X b\/b∈G) W0.B K4 V) l Z []:=wk k2 λ_ _ _ _ u h=>mH (λ_ h=>.inl h) h λb c=>.inr (u b c);obtain⟨vy,ys,g1,M,hc⟩:=Zni J ht hy;intro p K Q hK;obtain⟨N,q,u1,u2,u3,u4⟩:=Zf0 (P:=P) (hτ _ _ u) (hτ _ _ z) i.1 hc (XT (λ_ _ _ h=>Jx h) M) (J' (λ_ _ _ h=>zZ h) M) p h.below.sizeB;obtain⟨S',z1,z2,z3,z4⟩:=Zm3 J i L M u2 u3 u4;have O:a.eval x=v:=Y;have j:(execOp a.eval o).run P w=.ok (.value N) q:=by
        simp only[execOp,ho];have U:(Mr #[e,e] o.type #[v,vy]).run P w=.ok N q:=u1;simp[resolve,invoke,builtin,O,g1,U]
       have m:Zwo W0.gh X s a K2 w q:=by
        intro b c;rcases c with c|⟨r,h1,_,h2⟩
        ·grind
        ·obtain⟨S,h3⟩:=J.boxIn (ZO hx h1) h2
         grind
       unfold Lp;rw[j];exact hK _ _ A S' q (λ_ h=>.inl h) z1 ⟨[N],rfl,z2⟩ Ae ⟨λp=>(by rw[ho]at p;cases p),m⟩
      ·cases hr
     ·cases hr
    ·cases hr
   ·cases hr
  ·cases hr
 ·cases hr
def R.frzE(hs0:g.soft=K4)(h:R n W0 w X F H s a){e:Lb}{t:Ty}{x:List t.den}(hg:s.get (.m k)=.val (.slice e t) (.u K3) x):
  ∃X' F',R n W0 w X' F' H (KJ s k (.val (.slice e t) .e x)) a:=by
 have hs:=h.slots (.m k);rw[hg]at hs;obtain⟨L,hv,D⟩:=hs;unfold rdF at D;obtain⟨v,xs,z,E,rfl,I,J,K⟩:=D;have A:=h.nodup (.m k);rw[I]at A;have B:Zee W0.gh w w s (KJ s k (.val (.slice e t) .e x)) F (Xm F (.m k) z) a k (.val (.slice e t) .e x):=xc ⟨by rw[Ja];simp,λp v U hv=>by
  simp_all[Yv,Ja]⟩
 have f:∀b∈E,b∈F (.m k):=λb c=>Ac
 refine⟨λb=>X b\/b∈E,Xm F (.m k) z,?_⟩;exact
 {size:=h.size
  defers:=h.defers
  below:=h.below
  glob:=h.glob
  gx:=λb c=>.inl (h.gx b c)
  xs:=λe=>Ac
  fix:=h.fix
  xlt:=λb c=>c.elim (h.xlt b) λc=>(h.own _ b (f b c)).2.1
  xin:=λb c=>c.elim (h.xin b) λc=>.inr (h.own _ b (f b c)).1
  x0:=λb c=>.inl (h.x0 b c)
  own:=λj b c=>by
   simp only[Xm]at c;split at c
   ·obtain⟨o,q,y⟩:=h.own (.m k) b Ac
    grind
   ·rename_i r;obtain⟨o,q,y⟩:=h.own j b c;exact⟨o,q,λhx=>hx.elim y λhk=>r (h.pS j (.m k) b c (f b hk))⟩
  nodup:=λj=>by
   simp only[Xm];split
   ·grind
   ·exact h.nodup j
  pS:=λj G b c l=>by
   simp only[Xm]at c l;split at c<;>split at l
   ·simp_all
   ·exact absurd (h.pS (.m k) G b Ac l).symm (by assumption)
   ·exact absurd (h.pS j (.m k) b c Ac) (by assumption)
   ·exact h.pS j G b c l
  hown:=λb c=>let⟨o,q,y⟩:=h.hown b c;⟨o,q,λhx=>hx.elim y λhk=>h.pL _ b (f b hk) c⟩
  pK:=h.pK
  pL:=λj b c=>by
   simp only[Xm]at c;split at c
   ·exact h.pL (.m k) b Ac
   ·exact h.pL j b c
  pM:=λd i C=>by
   rw[Ja]at C⊢;simp only[reduceCtorEq,if_false]at C;obtain⟨o,q⟩:=h.pM d i C
   grind
  slots:=λj=>by
   by_cases r:j=.m k
   ·subst r;rw[Ja];simp only[if_true,Xm];exact⟨[v],hv,v,xs,rfl,Zjd J (λ_ h=>.inl h) (λ_ _=>rfl) (λ_ _=>rfl),wk K λ_ _ _ _ B h=>mH (λ_ h=>.inl h) h λb c=>.inr (B b c)⟩
   ·have e:Xm F (.m k) z j=F j:=by simp[Xm,r]
    rw[Ja,e];simp only[Lk r,if_false];exact Zsy B (λ_ h=>.inl h) (λ_ _=>rfl) (λ_ _ _ _=>rfl) (λ_ _=>rfl) (λe M N O b S c=>Ac) (h.slots j)}
def Key.up:Key->Key|.m t=>.m (t+big)|.c t i=>.c (t+big) i
def upT:Tm->Tm|.ptr r p=>.ptr (r+big) p|.bor r p=>.bor (r+big) p|.elp r p i q=>.elp (r+big) p i q|.bel r p i q=>.bel (r+big) p i q|.aep r p i=>.aep (r+big) p i|.pls h l=>.pls h (l.map λq=>(q.1+big,q.2))|.cl f l=>.cl f (l.map (· +big))|.gd g w t=>.gd (g+big) w (upT t)|t=>t
def upE:List (Key×Tm)->List (Key×Tm)|[]=>[]|(k,t)::r=>(k.up,upT t)::upE r
def Ztt:List Tm->Nat->List (Key×Tm)|[],_=>[]|t::ts,i=>(.m i,upT t)::Ztt ts (i+1)
def Zpl(s:St)(ts:List Tm):St:={env:=Ztt ts 0++upE s.env,pP:=s.pP.map (· +big),pQ:=s.pQ.map (· +big)}
def Key.up_inj{k:Key}:k.up=j.up↔k=j:=by
 cases k<;>cases j<;>simp[Key.up]
def Z7g:∀(l:List (Key×Tm))(k:Key),mX (upE l) k.up=upT (mX l k)
 |[],k=>rfl
 |(j,t)::r,k=>by
  simp only[upE,Qg,Key.up_inj];split
  ·rfl
  ·exact Z7g r k
def Zyg:∀(l:List (Key×Tm))(k:Key),k.t<big->mX (upE l) k=.pR
 |[],_,_=>rfl
 |(j,t)::r,k,hk=>by
  simp only[upE,Qg];rw[if_neg (λe=>by subst e;cases j<;>simp only[Key.up,Key.t]at hk<;>omega),Zyg r k hk]
def Z6d:∀(ts:List Tm)(i:Nat)(E:List (Key×Tm))(k:Key),i+ts.length<=big->mX (Ztt ts i++E) k.up=mX E k.up
 |[],_,_,_,_=>rfl
 |t::ts,i,E,k,h=>by
  simp only[Ztt,Mi,Qg];simp only[List.length_cons]at h;rw[if_neg (λe=>by cases k<;>simp[Key.up]at e;omega),Z6d ts (i+1) E k Aa]
def Qd6:∀(ts:List Tm)(i j:Nat)(E:List (Key×Tm))(t:Tm),ts[j]? =K1 t->mX (Ztt ts i++E) (.m (i+j))=upT t
 |[],_,_,_,_,h=>by simp at h
 |u::ts,i,j,E,t,h=>by
  simp only[Ztt,Mi,Qg];cases j with
  |zero=>simp_all
  |succ j=>
   rw[if_neg Ae,show i+(j+1)=(i+1)+j from by omega];exact Qd6 ts (i+1) j E t (by simpa using h)
def Zqz:∀(ts:List Tm)(i:Nat)(E:List (Key×Tm))(k:Key),(∀t,k=.m t->t<i\/i+ts.length<=t)->mX (Ztt ts i++E) k=mX E k
 |[],_,_,_,_=>rfl
 |u::ts,i,E,k,h=>by
  simp only[Ztt,Mi,Qg];rw[if_neg (λe=>Ag)];exact Zqz ts (i+1) E k λt e=>Ag
def Qls(m x c:Nat):Ld (m+c) (x+c)=Ld m x:=by
 cases h:Ld m x
 all_goals grind[pD,Mm]
def Qct(m c:Nat):∀l:List Nat,(l.map (· +c)).any (Ld (m+c))=l.any (Ld m)
 |[]=>rfl
 |x::l=>by simp only[List.map_cons,List.any_cons,Qls,Qct m c l]
def Zk9{s:St}:(Zpl s ts).pN (m+big)=s.pN m:=Qct m big s.pP
def Qak{s:St}{r:Nat}:∀{p:List Nat},(Zpl s ts).bad (r+big) p=s.bad r p
 |[]=>by
  simp only[St.bad,Zk9];rw[show Zne (r+big)=Zne r+big from Ml _ _ _,Zk9]
 |i::_=>by
  simp only[St.bad,Zk9];rw[show Znd (r+big) i=Znd r i+big from Ml _ _ _,Zk9]
def Qis{s:St}{r:Nat}:(Zpl s ts).pN (sl (r+big))=s.pN (sl r):=by
 rw[show sl (r+big)=sl r+big from Ml _ _ _,Zk9]
def Z6t(gh:Nat->La)(a:Act)(t:Nat):La:=ite (t<big) undef (xQ gh a (t-big))
def fF.push(z:fF g)(a:Act):fF g:=
 {z with
  gh:=Z6t z.gh a
  ghU:=λt ht=>by unfold Z6t;rw[if_pos ht]
  fix:=z.fix.map λp=>(p.1+big,p.2)}
theorem Qmm(z:fF g)(a:Act)(t:Nat):(z.push a).gh (t+big)=xQ z.gh a t:=by
 have b:¬(t+big<big):=Aa
 have c:(z.push a).gh=Z6t z.gh a:=rfl;simp_all[Z6t,if_neg]
def XW(ha:a'.tmps.size<=big)(t:Nat):xQ (W0.push a).gh a' (t+big)=xQ W0.gh a t:=by
 grind[xQ,Qmm]
def Z9z(ha:a'.tmps.size<=big)(k:Key):Xj (W0.push a).gh a' k.up=Xj W0.gh a k:=by
 cases k with
 |m t=>exact XW ha t
 |c t i=>simp_all[Key.up,Xj,XW]
def upF(F:Key->List Nat):Key->List Nat|.m t=>ite (t<big) [] (F (.m (t-big)))|.c t i=>ite (t<big) [] (F (.c (t-big) i))
def Qcn(k:Key):upF F k.up=F k:=by
 cases k with
 |m t=>simp_all[upF,Key.up,if_neg]
 |c t i=>simp_all[upF,Key.up,if_neg]
def Z7h{k:Key}(h:b∈upF F k):∃j:Key,k=j.up/\b∈F j:=by
 cases k with
 |m t=>
  grind[upF,Key.up]
 |c t i=>
  grind[upF,Key.up]
def Qp9(hts:ts.length<=big)(ha:a'.tmps.size<=big):∀{t:Tm},vt W0.gh w X B s F a v S t->
  vt (W0.push a).gh w X B (Zpl s ts) (upF F) a' v S (upT t):=by
 have z:∀r,(Zpl s ts).get (.m (r+big))=upT (s.get (.m r)):=λr=>by
  show mX (Ztt ts 0++upE s.env) (Key.up (.m r))=_;rw[Z6d _ _ _ _ Aa,Z7g];rfl
 have A:∀r,upF F (.m (r+big))=F (.m r):=λr=>Qcn (.m r);have J:∀{r p v},atP s F r p v->atP (Zpl s ts) (upF F) (r+big) p v:=λ{r p v} ⟨e,T,f,x,b,D,c,d,n⟩=>
  ⟨e,T,f,x,b,D,by rw[z,c];rfl,by rw[A];exact d,n⟩
 have hv:∀{r p v U},Yv W0.gh w s F a r p v U->Yv (W0.push a).gh w (Zpl s ts) (upF F) a' (r+big) p v U:=λ{r p v U} h=>by
  unfold Yv at h⊢;rw[z,A];cases E:s.get (.m r)<;>rw[E]at h<;>simp only[upT]at h⊢
  ·exact⟨h.1,h.2.1,h.2.2.trans (XW ha r).symm⟩
  ·exact h
 intro t h
 induction t with
 |pR=>exact h
 |tup=>exact h
 |val T f x=>exact h
 |box e T f x=>exact h
 |shp T x=>exact h
 |ptr r p=>exact⟨h.1,J h.2⟩
 |bor r p=>exact⟨h.1,λg=>let⟨U,hU⟩:=h.2 (Qak▸g);⟨U,hv hU⟩⟩
 |elp r p i q=>exact⟨h.1,λg=>let⟨e,t,o,m,cap,k1,k2⟩:=h.2 (Qak▸g);⟨e,t,o,m,cap,hv k1,k2⟩⟩
 |bel r p i q=>exact⟨h.1,λg E=>let⟨e,t,o,m,cap,x0,y,cs,k1,k2,k3,k4,k5⟩:=h.2 (Qak▸g) (Qis▸E);⟨e,t,o,m,cap,x0,y,cs,hv k1,k2,k3,by rw[A];exact k4,k5⟩⟩
 |aep r p i=>
  obtain⟨k,e,T,f,x,b,D,m,K,y,c,d,n⟩:=h;exact⟨k,e,T,f,x,b,D,m,K,y,by rw[z,c];rfl,by rw[A];exact d,n⟩
 |pls O l=>
  obtain⟨k,o,G,c,d,n,P,L⟩:=h;refine⟨k,o,G,c,d,by simpa using n,λj q M=>?_,by simpa using L⟩
  grind
 |cl f l=>
  obtain⟨k,G,c,d,n⟩:=h;refine⟨k,G,c,by simpa using d,λj q M=>?_⟩
  grind
 |gd C I t N=>
  intro g;rw[Zk9]at g;obtain⟨k,c,d⟩:=h g;have hs:Xj (W0.push a).gh a' (.m (C+big))=Xj W0.gh a (.m C):=XW ha C;refine⟨?_,λH=>N (c (hs▸H)),λH=>d (hs▸H)⟩;rw[z];generalize s.get (.m C)=u at k;cases u<;>simp[upT]at k⊢
def R.push(h:R n W0 w X F [] s a){ts:List Tm}{vs:List La}{m:Nat}(hl:ts.length=vs.length)(hm:ts.length<=m)(hb:m<=big)(hts:∀(i:Nat) t,ts[i]? =K1 t-> ∃v,vs[i]? =K1 v/\vt W0.gh w X W0.B s F a v [] t):
  R m (W0.push a) w X (upF F) [] (Go.Am.Zpl s ts) {tmps:=vs.toArray++Array.replicate (m-vs.toArray.size) undef,defers:=[]}:=by
 generalize H:({tmps:=vs.toArray++Array.replicate (m-vs.toArray.size) undef,defers:=[]}:Act)=a';have r:a'.tmps.size=m:=Ag
 have o:ts.length<=big:=Aa
 have f:∀k:Key,(Go.Am.Zpl s ts).get k.up=upT (s.get k):=λk=>by
  show mX (Ztt ts 0++upE s.env) k.up=_;rw[Z6d _ _ _ _ Aa,Z7g];rfl
 have g:∀k:Key,k.t<big\/ ∃j:Key,k=j.up:=λk=>by
  cases k with
  |m t=>
   rcases Mn t big with h|h
   ·exact .inl h
   ·exact .inr ⟨.m (t-big),by simp_all[Key.up]⟩
  |c t i=>
   rcases Mn t big with h|h
   ·exact .inl h
   ·exact .inr ⟨.c (t-big) i,by simp_all[Key.up]⟩
 exact
 {size:=r
  defers:=by rw[<-H]
  below:=⟨h.below.os,h.below.tape,h.below.output,h.below.size,h.below.block⟩
  glob:=h.glob
  gx:=h.gx
  xs:=h.xs
  fix:=λp C=>by
   simp only[fF.push,List.mem_map]at C;obtain⟨q,I,rfl⟩:=C;obtain⟨D,u⟩:=h.fix q I;exact⟨by simp_all[Go.Am.Zpl],(XW Aa q.1).trans u⟩
  xlt:=h.xlt
  xin:=h.xin
  x0:=h.x0
  own:=λk b hb=>by obtain⟨j,_,l⟩:=Z7h hb;exact h.own j b l
  nodup:=λk=>by
   rcases g k with hk|⟨j,rfl⟩
   ·have:upF F k=[]:=by cases k<;>simp only[upF,Key.t]at hk⊢ <;>rw[if_pos hk]
    rw[this];simp
   ·rw[Qcn];exact h.nodup j
  pS:=λk N b hb x=>by
   obtain⟨j,rfl,l⟩:=Z7h hb;obtain⟨J,rfl,y⟩:=Z7h x;rw[h.pS j J b l y]
  hown:=Ae
  pK:=Ae
  pL:=Ae
  pM:=λd i z=>by
   rcases g (.c d i)with hk|⟨j,l⟩
   ·exfalso;apply z;show mX (Ztt ts 0++upE s.env) _=_;simp_all[Zqz,Zyg]
   ·cases j with
    |m t=>grind[Key.up]
    |c t O=>
     simp only[Key.up,Key.c.injEq]at l;obtain⟨rfl,rfl⟩:=l;have E:=f (.c t i);have G:=f (.m t);simp only[Key.up]at E G;rw[E]at z;obtain⟨D,K,u,L⟩:=h.pM t i (λe=>z (by rw[e];rfl));exact⟨by rw[G,D];rfl,K,(XW Aa t).trans u,L⟩
  slots:=λk=>by
   rcases g k with hk|⟨j,rfl⟩
   ·have M:upF F k=[]:=by cases k<;>simp only[upF,Key.t]at hk⊢ <;>rw[if_pos hk]
    rw[M];cases k with
    |c t i=>
     have:(Go.Am.Zpl s ts).get (.c t i)=.pR:=by
      show mX (Ztt ts 0++upE s.env) _=_;simp_all[Zqz,Zyg]
     rw[this];rfl
    |m t=>
     rcases Mn t ts.length with ht|ht
     ·have e:(Go.Am.Zpl s ts).get (.m t)=upT ts[t]:=by
       have:=Qd6 ts 0 t (upE s.env) ts[t] (Mw ht);rw[Ma]at this;exact this
      rw[e];obtain⟨v,hv,A⟩:=hts t ts[t] (Mw ht);have:Xj (W0.push a).gh a' (.m t)=v:=by
       show xQ _ _ _=_
       grind[xQ]
      rw[this];exact Qp9 o Aa A
     ·have:(Go.Am.Zpl s ts).get (.m t)=.pR:=by
       show mX (Ztt ts 0++upE s.env) _=_;simp_all[Zqz,Zyg]
      rw[this];rfl
   ·rw[f,Qcn,Z9z Aa];exact Qp9 o Aa (h.slots j)}
def geB(r:Nat):Bool:=L9 big r
def dnT(s:St):Tm->Tm
 |.ptr r p=>match geB r with|true=>.ptr (r-big) p|false=>.pR
 |.bor r p=>match geB r&& !(s.bad r p)with|true=>.bor (r-big) p|false=>.pR
 |.elp r p i q=>match geB r&& !(s.bad r p)with|true=>.elp (r-big) p i q|false=>.pR
 |.bel r p i q=>match geB r&& !(s.bad r p)&& !(s.pN (sl r))with|true=>.bel (r-big) p i q|false=>.pR
 |.aep r p i=>match geB r with|true=>.aep (r-big) p i|false=>.pR
 |.pls h l=>match l.all λq=>geB q.1 with|true=>.pls h (l.map λq=>(q.1-big,q.2))|false=>.pR
 |.cl f l=>match l.all geB with|true=>.cl f (l.map (· -big))|false=>.pR
 |.gd _ _ _=>.pR
 |t=>t
def dnE(s:St):List (Key×Tm)->List (Key×Tm)
 |[]=>[]
 |(.m t,u)::r=>match geB t with|true=>(.m (t-big),dnT s u)::dnE s r|false=>dnE s r
 |(.c t i,u)::r=>match geB t with|true=>(.c (t-big) i,dnT s u)::dnE s r|false=>dnE s r
def dnL:List Nat->List Nat
 |[]=>[]
 |r::l=>match geB r with|true=>(r-big)::dnL l|false=>dnL l
def pop(s:St):St:={env:=dnE s s.env,pP:=[],pQ:=dnL s.pQ}
theorem oT{r:Nat}:geB r=K3↔big<=r:=by simp[geB]
def Zk5(s:St):∀(l:List (Key×Tm))(k:Key),mX (dnE s l) k=dnT s (mX l k.up)
 |[],k=>rfl
 |(.m t,u)::r,k=>by
  simp only[dnE];cases hb:geB t
  ·have:¬big<=t:=λh=>by grind[oT]
   simp only[Qg];rw[if_neg (λe=>by cases k<;>simp[Key.up]at e;omega),Zk5 s r k]
  ·have:=oT.1 hb;simp only[Qg];by_cases hk:k=.m (t-big)
   ·simp_all[Key.up]
   ·rw[if_neg (Lk hk),if_neg (λe=>hk (by cases k<;>simp[Key.up]at e;simp;omega)),Zk5 s r k]
 |(.c t i,u)::r,k=>by
  simp only[dnE];cases hb:geB t
  ·have:¬big<=t:=λh=>by grind[oT]
   simp only[Qg];rw[if_neg (λe=>by cases k<;>simp[Key.up]at e;omega),Zk5 s r k]
  ·have:=oT.1 hb;simp only[Qg];by_cases hk:k=.c (t-big) i
   ·simp_all[Key.up]
   ·rw[if_neg (Lk hk),if_neg (λe=>hk (by cases k<;>simp[Key.up]at e;simp;omega)),Zk5 s r k]
def Z5m:∀{l:List Nat}{r:Nat},r+big∈l->r∈dnL l
 |x::l,r,h=>by
  simp only[dnL];rcases L3.1 h with e|h
  ·grind[oT]
  ·cases geB x
   ·exact Z5m h
   ·exact List.mem_cons_of_mem _ (Z5m h)
def dnF(s:St)(F:Key->List Nat):Key->List Nat:=λk=>match(pop s).get k with|.pR=>[]|_=>F k.up
theorem Z5l{k:Key}(h:(pop s).get k≠ .pR):dnF s F k=F k.up:=by
 simp_all[dnF]
def Zxt{k:Key}(h:b∈dnF s F k):b∈F k.up:=by
 grind[dnF]
def Qp8(ha:a'.tmps.size<=big):∀{t:Tm},vt (W0.push a).gh w X B s F a' v S t->dnT s t≠ .pR->
  vt W0.gh w X B (pop s) (dnF s F) a v S (dnT s t):=by
 have H:∀r,(pop s).get (.m r)=dnT s (s.get (.m (r+big))):=λr=>Zk5 s s.env (.m r);have d:∀{r:Nat},big<=r->r-big+big=r:=λh=>Aa
 have O:∀{r p v},big<=r->atP s F r p v->atP (pop s) (dnF s F) (r-big) p v:=λ{r p v} g ⟨e,T,f,x,b,I,k,C,n⟩=>by
  have o:(pop s).get (.m (r-big))=.box e T f x:=by rw[H,d g,k];rfl
  exact⟨e,T,f,x,b,I,o,by simp_all[Z5l,Key.up],n⟩
 have Q:∀{r p v U},big<=r->Yv (W0.push a).gh w s F a' r p v U->dnF s F (.m (r-big))=F (.m r):=λ{r p v U} g h=>by
  grind[Yv,dnT,Z5l,Key.up]
 have hv:∀{r p v U},big<=r->Yv (W0.push a).gh w s F a' r p v U->Yv W0.gh w (pop s) (dnF s F) a (r-big) p v U:=λ{r p v U} g h=>by
  have J:=Q g h;unfold Yv at h⊢;rw[H,d g,J];cases he:s.get (.m r)<;>rw[he]at h<;>simp only[dnT]at h⊢
  ·refine⟨h.1,h.2.1,h.2.2.trans ?_⟩;have:=XW (W0:=W0) (a:=a) ha (r-big);rw[d g]at this;exact this
  ·exact h
 intro t h c;cases t with
 |pR=>exact h
 |tup=>exact h
 |val T f x=>exact h
 |box e T f x=>exact h
 |shp T x=>exact h
 |ptr r p=>
  simp only[dnT]at c⊢;cases hb:geB r<;>simp only[hb]at c⊢
  ·simp_all
  ·exact⟨h.1,O (oT.1 hb) h.2⟩
 |bor r p=>
  simp only[dnT]at c⊢;cases hb:(geB r&& !(s.bad r p))<;>simp only[hb]at c⊢
  ·simp_all
  ·simp only[pC,Lv]at hb;obtain⟨U,V⟩:=h.2 hb.2;exact⟨h.1,λ_=>⟨U,hv (oT.1 hb.1) V⟩⟩
 |elp r p i q=>
  simp only[dnT]at c⊢;cases hb:(geB r&& !(s.bad r p))<;>simp only[hb]at c⊢
  ·simp_all
  ·simp only[pC,Lv]at hb;obtain⟨e,t,D,m,z,K,L⟩:=h.2 hb.2;exact⟨h.1,λ_=>⟨e,t,D,m,z,hv (oT.1 hb.1) K,L⟩⟩
 |bel r p i q=>
  simp only[dnT]at c⊢;cases hb:(geB r&& !(s.bad r p)&& !(s.pN (sl r)))<;>simp only[hb]at c⊢
  ·simp_all
  ·simp only[pC,Lv]at hb;obtain⟨e,t,D,m,z,W,y,Y,K,L,Z,k4,k5⟩:=h.2 hb.1.2 hb.2;exact⟨h.1,λ_ _=>⟨e,t,D,m,z,W,y,Y,hv (oT.1 hb.1.1) K,L,Z,by grind[oT],k5⟩⟩
 |aep r p i=>
  simp only[dnT]at c⊢;cases hb:geB r<;>simp only[hb]at c⊢
  ·simp_all
  ·obtain⟨E,e,T,f,x,b,I,m,t',y,k,C,n⟩:=h;have g:=oT.1 hb;have o:(pop s).get (.m (r-big))=.box e T f x:=by rw[H,d g,k];rfl
   exact⟨E,e,T,f,x,b,I,m,t',y,o,by simp_all[Z5l,Key.up],n⟩
 |pls hh l=>
  simp only[dnT]at c⊢;cases hb:(l.all λq=>geB q.1)<;>simp only[hb]at c⊢
  ·simp_all
  ·obtain⟨E,D,M,k,C,n,h4,h5⟩:=h;refine⟨E,D,M,k,C,by simpa using n,λj q G=>?_,by simpa using h5⟩;simp only[Mx,Mp]at G;obtain⟨N,A,rfl⟩:=G
   grind[oT]
 |cl f l=>
  simp only[dnT]at c⊢;cases hb:l.all geB<;>simp only[hb]at c⊢
  ·simp_all
  ·obtain⟨E,M,k,C,n⟩:=h;refine⟨E,M,k,by simpa using C,λj q G=>?_⟩;simp only[Mx,Mp]at G;obtain⟨N,A,rfl⟩:=G;obtain⟨u,hu,ht⟩:=n j N A;exact⟨u,hu,O (oT.1 (L2.1 hb N (Mk A))) ht⟩
 |gd gk P t=>exact absurd rfl c
def R.pop{m:Nat}{a':Act}(h:R m (W0.push a) w X F H s a')(hm:m<=big)(hsz:a.tmps.size=n)(hd:a.defers=[]):R n W0 w X (dnF s F) H (Go.Am.pop s) a:=by
 have g:a'.tmps.size<=big:=by rw[h.size];exact hm
 have q:∀k:Key,(Go.Am.pop s).get k=dnT s (s.get k.up):=λk=>Zk5 s s.env k;exact
 {size:=hsz
  defers:=hd
  below:=⟨h.below.os,h.below.tape,h.below.output,h.below.size,h.below.block⟩
  glob:=h.glob
  gx:=h.gx
  xs:=h.xs
  fix:=λp v=>by
   obtain⟨j,l⟩:=h.fix (p.1+big,p.2) (by simp_all[fF.push]);exact⟨Z5m j,(XW g p.1).symm.trans l⟩
  xlt:=h.xlt
  xin:=h.xin
  x0:=h.x0
  own:=λk b c=>h.own _ b (Zxt c)
  nodup:=λk=>by
   unfold dnF;split
   ·simp
   ·exact h.nodup _
  pS:=λk x b c o=>Key.up_inj.1 (h.pS _ _ b (Zxt c) (Zxt o))
  hown:=h.hown
  pK:=h.pK
  pL:=λk b c=>h.pL _ b (Zxt c)
  pM:=λd i r=>by
   rw[q]at r⊢;obtain⟨j,t,l,u⟩:=h.pM (d+big) i (λe=>r (by simp only[Key.up];rw[e];rfl));exact⟨by simp only[Key.up];rw[j];rfl,t,(XW g d).symm.trans l,u⟩
  slots:=λk=>by
   by_cases f:(Go.Am.pop s).get k=.pR
   ·rw[f];unfold dnF;rw[f];rfl
   ·rw[Z5l f];have hs:=h.slots k.up;rw[Z9z g]at hs;rw[q]at f⊢;exact Qp8 g hs f}
def uS(a:Act):ResultVar->Sem La
 |.tmp t=>pure (a.tmps.getD t undef)
 |.cell d t=>do loadVar t (<-asAddr (a.tmps.getD d undef))
def Zg8(τ:Tab):List ResultVar->St->Option (((ts:List (Ty×Fl))×Zcb ts)×St)
 |[],s=>K1 (⟨[],()⟩,s)
 |.tmp k::rs,s=>match Zss s (op1 s [] (.tmp k))with
  |some q=>match Zg8 τ rs q.s with
   |some (z,s')=>K1 (⟨(q.T,q.f)::z.1,(q.x,z.2)⟩,s')
   |none=>K2
  |none=>K2
 |.cell k e::rs,s=>match s.get (.m k),τ e with
  |.box e0 U f y,K1 U'=>match(Lo k 1048576&&Lq (U=U'))&&f.live with
   |true=>match Zg8 τ rs (bY s k (.box e0 U .d y))with
    |some (z,s')=>K1 (⟨(U,f)::z.1,(y,z.2)⟩,s')
    |none=>K2
   |false=>K2
  |_,_=>K2
def Qsn(rv:List ResultVar)(s:St):Option Tm:=
 match rv with
 |[.tmp k]=>match op1 s [] (.tmp k)with
  |.tm _ (.ptr r p)=>match geB r with|true=>K1 (.ptr r p)|false=>K2
  |.tm _ (.elp r p i q)=>match geB r&& !(s.bad r p)with|true=>K1 (.elp r p i q)|false=>K2
  |_=>K2
 |_=>K2
def Qni{ρ:Type}(τ:Tab)(n:Nat)(rv:List ResultVar)(s:St)(dst:Option Nat)(k:St->Option ρ):Option ρ:=
 match Qsn rv s with
 |some t=>match dst with
  |some d=>match aX (pop s) d&&Lo d n with
   |true=>k (Wc (pop s) d (dnT s t))
   |false=>K2
  |none=>K2
 |none=>match Zg8 τ rv s with
  |some (z,s2)=>match dst with
   |none=>k (pop s2)
   |some d=>match aX (pop s2) d&&Lo d n with
    |true=>k (Qsf d (pop s2) z.1 z.2)
    |false=>K2
  |none=>K2
structure nR where
 f:Lh
 n:Nat
 np:Nat
 rv:List ResultVar
 run:List Nat->{ρ:Type}->(Exit->St->Option ρ)->St->Option ρ
structure Y6(P:Lf)(g:Vc)(E:nR):Prop where
 enters:∀args w,(callFunc E.f args).run P w=.ok (.enter E.f args) w
 le:E.np<=E.n/\E.n<=1048576
 code:∃fn c,P.funcs[E.f]? =K1 fn/\fn.body=K1 c/\fn.ntmps=E.n/\fn.results.toList=E.rv/\
  ∀{ρ:Type}{k:Exit->St->Option ρ}{r:ρ}{ln:List Nat}{W0:fF g}{w:Le}{X:Nat->Prop}{F:Key->List Nat}{s:St}{a:Act},
   E.run ln k s=K1 r->(∀p,p∈W0.fix->p.1∈ln)->R E.n W0 w X F [] s a->c.wp P (λe a' w'=> ∃s' X' F',k e s'=K1 r/\R E.n W0 w' X' F' [] s' a') a w
abbrev Zlp:=List nR
def Zlp.find(Γ:Zlp)(f:Lh):Option nR:=
 match Γ with
 |[]=>K2
 |e::r=>match Ld e.f f with|true=>K1 e|false=>Zlp.find r f
def Zlp.ok(Γ:Zlp)(P:Lf)(g:Vc):Prop:= ∀e∈Γ,Y6 P g e
def Zlp.find_ok{Γ:Zlp}{P:Lf}{g:Vc}(h:Γ.ok P g){e:nR}(he:Γ.find f=K1 e):e.f=f/\Y6 P g e:=by
 induction Γ with
 |nil=>cases he
 |cons x r a=>
  simp only[Zlp.find]at he;split at he
  ·rename_i b;simp only[pB]at he;subst he;exact⟨pD b,h _ Ae⟩
  ·exact a (λe he=>h e (by simp[he])) he
def Qmq{ρ:Type}(τ:Tab)(n:Nat)(s:St)(dst:Option Nat)(E:nR)(ts:List Tm)(k:St->Option ρ):Option ρ:=
 match Ld ts.length E.np with
 |true=>E.run (Zpl s ts).pQ (λe s'=>match e with|.normal|.ret=>Qni τ n E.rv s' dst k|_=>K2) (Zpl s ts)
 |false=>K2
def Zyv(τ:Tab)(s:St):List Lc->List Lb->Option (List Tm)
 |[],_=>K1 []
 |x::xs,e::es=>match Zgo τ s [] e x,Zyv τ s xs es with
  |some r,K1 ts=>K1 (r.t::ts)
  |_,_=>K2
 |_::_,[]=>K2
theorem JZ(h:(fn.results.toList.mapM (uS a)).run P w=.ok vs w):(results fn a.tmps).run P w=.ok (ba vs) w:=by
 have e:(fn.results.mapM (uS a)).run P w=.ok vs.toArray w:=by
  simp_all[Array.mapM_eq_mapM_toList]
 unfold results;rw[Lu];have b:(fn.results.mapM fun
  |.tmp t=>pure (a.tmps.getD t undef)
  |.cell d t=>do loadVar t (<-asAddr (a.tmps.getD d undef)))=fn.results.mapM (uS a):=by
  congr 1
 erw [b,e];simp only[L5,M0];congr 1;by_cases c:vs.length=1
 ·obtain⟨v,rfl⟩:=Mj.1 c;rfl
 simp_all[zY]
def Zec(hτ:τ.ok P):∀{rs:List ResultVar}{s:St}{F:Key->List Nat}{H:List Nat}{z:(ts:List (Ty×Fl))×Zcb ts}{s':St},R n W0 w X F H s a->Zg8 τ rs s=K1 (z,s')->
  ∃vs S F',(rs.mapM (uS a)).run P w=.ok vs w/\Z23 w X W0.B z.1 z.2 vs S/\R n W0 w X F' (S++H) s' a
 |[],s,F,H,z,s',h,g=>by
  simp only[Zg8,pB,pF]at g;obtain⟨rfl,rfl⟩:=g;exact⟨[],[],F,Ae,⟨rfl,rfl⟩,h⟩
 |.tmp k::rs,s,F,H,z,s',h,g=>by
  simp only[Zg8]at g;split at g
  ·rename_i q W;split at g
   ·rename_i Y Z r;simp only[pB,pF]at g;obtain⟨rfl,rfl⟩:=g;obtain⟨F1,i,v,h1,h2,D,_,_⟩:=Zdt h (tg:=[]) (λp l=>by cases l) W;obtain⟨vs,S,F',k1,E,o⟩:=Zec hτ D r;refine⟨_,i++S,F',?_,⟨v,vs,i,S,rfl,rfl,h2,E⟩,?_⟩
    ·have G:(a.tmps.getD k undef)=Jd q.T v:=h1;simp_all[uS]
    ·have l:(i++S++H).Perm (S++(i++H)):=Ag
     exact {o with
      hown:=λb t=>o.hown b (l.mem_iff.1 t)
      pK:=l.nodup_iff.2 o.pK
      pL:=λk b t I=>o.pL k b t (l.mem_iff.1 I)}
   ·cases g
  ·cases g
 |.cell k e::rs,s,F,H,z,s',h,g=>by
  simp only[Zg8]at g;split at g
  ·rename_i e' U f y U' N hU;split at g
   ·rename_i J;split at g
    ·rename_i Y Z r;simp only[pC,decide_eq_true_eq]at J;obtain⟨⟨K,rfl⟩,J⟩:=J;simp only[pB,pF]at g;obtain⟨rfl,rfl⟩:=g;have hs:=h.slots (.m k);rw[N]at hs;obtain⟨b,c,i,O,g2,Q,C⟩:=hs;have A:=h.nodup (.m k);rw[g2]at A;have D:R n W0 w X (Xm F (.m k) [b]) (i++H) (bY s k (.box e' U .d y)) a:=by
      refine h.turn (S':=[b]) (H':=i++H) h.below (Li _) (λ_ _=>rfl) (λ_ _ _ _=>rfl) ?_ ?_ (by rw[N];simp) ?_ ?_
      ·simp_all
      ·have hd:∀L∈b::i,L∉H:=λL ab=>h.pL (.m k) L Ac;refine Lg.2 ⟨Ae,Lg.2 ⟨(Ls.1 A).2,h.pK,λx hx y V e=>hd x (by simp[hx]) (by rw[e];exact V)⟩,λx hx y V e=>?_⟩;simp_all
      ·grind
      ·exact⟨b,c,[],O,rfl,Q,by unfold rdF;exact⟨K0 C,oH C,rfl⟩⟩
     obtain⟨vs,S,F',k1,E,o⟩:=Zec hτ D r;refine⟨_,i++S,F',?_,⟨c.toList,vs,i,S,rfl,rfl,C,E⟩,?_⟩
     ·have G:(a.tmps.getD k undef)=.pointer (K1 ⟨b,0,K2⟩):=(Jf W0 a K).symm.trans O;have M:=(hτ _ _ hU).load (w:=w) (ad:=⟨b,0,K2⟩) (vs:=c.toList) (K0 C) (λj u hj=>by
       rw[nS w Q,<-Array.getElem?_toList,Ma];exact hj)
      simp_all[uS,asAddr]
     ·have l:(i++S++H).Perm (S++(i++H)):=Ag
      exact {o with
       hown:=λb t=>o.hown b (l.mem_iff.1 t)
       pK:=l.nodup_iff.2 o.pK
       pL:=λk b t I=>o.pL k b t (l.mem_iff.1 I)}
    ·cases g
   ·cases g
  ·cases g
def Qb8{t:Tm}(h:R m (W0.push a) w X F [] s a')(hr:Qsn rv s=K1 t):
  ∃k S,rv=[.tmp k]/\dnT s t≠ .pR/\vt (W0.push a).gh w X W0.B s F a' (a'.eval (.tmp k)) S t/\S=[]:=by
 unfold Qsn at hr;split at hr
 ·rename_i k;split at hr
  ·rename_i j r p hx;split at hr
   ·rename_i c;cases hr;obtain⟨_,hv⟩:=V0 h (tg:=[]) (λp b=>by cases b) hx Ae;exact⟨k,_,rfl,by simp[dnT,c],hv,hv.1⟩
   ·cases hr
  ·rename_i j r p i q hx;split at hr
   ·rename_i c;cases hr;obtain⟨_,hv⟩:=V0 h (tg:=[]) (λp b=>by cases b) hx Ae;exact⟨k,_,rfl,by simp_all[dnT],hv,hv.1⟩
   ·cases hr
  ·cases hr
 ·cases hr
def Qb7{r:ρ}(hτ:τ.ok P)(h:R m (W0.push a) w X F [] s a')(hm:m<=1048576)(hsz:a.tmps.size=n)(hd:a.defers=[])(hrv:fn.results.toList=rv){dst:Option Nat}{k:St->Option ρ}(hk:Qni τ n rv s dst k=K1 r):
  ∃v s2 F2,(results fn a'.tmps).run P w=.ok v w/\k s2=K1 r/\R n W0 w X F2 [] s2 (a.put dst v):=by
 unfold Qni at hk;split at hk
 ·rename_i t g;obtain⟨j,S,rfl,i,hv,rfl⟩:=Qb8 h g;split at hk
  ·rename_i d;split at hk
   ·rename_i hdn;simp only[pC,Lx]at hdn;have c:=h.pop hm hsz hd;have e:=Qp8 (by rw[h.size];exact hm) hv i;have f:=(by simpa using c:R n W0 w X (dnF s F) ([]++[]) (pop s) a).put hdn.1 hdn.2 e;have b:(fn.results.toList.mapM (uS a')).run P w=.ok [a'.eval (.tmp j)] w:=by simp_all[uS,Act.eval]
    exact⟨ba [a'.eval (.tmp j)],_,_,JZ (a:=a') b,hk,f⟩
   ·cases hk
  ·cases hk
 ·split at hk
  ·rename_i z s2 l;obtain⟨o,S,u,x,p,q⟩:=Zec hτ h l;have c:=q.pop hm hsz hd;split at hk
   ·exact⟨ba o,_,_,JZ (a:=a') Ac,hk,c.drop⟩
   ·rename_i d;split at hk
    ·rename_i hdn;simp only[pC,Lx]at hdn;obtain⟨F2,y⟩:=R.putF c hdn.1 hdn.2 p
     grind[JZ]
    ·cases hk
  ·cases hk
def Zz6{r:ρ}(hτ:τ.ok P){E:nR}(hE:Y6 P g E)(h:R n W0 w X F [] s a)(hl:ts.length=vs.length)(hts:∀(i:Nat) t,ts[i]? =K1 t-> ∃v,vs[i]? =K1 v/\vt W0.gh w X W0.B s F a v [] t)
  (hrun:(execOp a.eval o).run P w=.ok (.enter E.f vs.toArray) w) {k:St->Option ρ} (hr:Qmq τ n s o.dst E ts k=K1 r)
   (hK:∀v w' X' F' s',k s'=K1 r->R n W0 w' X' F' [] s' (a.put o.dst v)->K (a.put o.dst v) w'):o.wp P a w K Q:=by
 unfold Qmq at hr;split at hr
 ·rename_i b;have b:=pD b;obtain⟨x,c,y,z,A,j,d⟩:=hE.code;have l:=h.push (m:=E.n) hl (by rw[b];exact hE.le.1) hE.le.2 hts;unfold Lp;rw[hrun,L4];refine calls_of_wp y z ?_;rw[A];refine wp_mono (d hr (λp C=>(l.fix p C).1) l) λe q w' ⟨s',X',F',hk,u⟩=>?_;have fin:Qni τ n E.rv s' o.dst k=K1 r->q.defers=[]/\ ∃v,(results x q.tmps).run P w'=.ok v w'/\K (a.put o.dst v) w':=λhk=>by
   obtain⟨v,D,G,H,I,J⟩:=Qb7 hτ u hE.le.2 h.size h.defers j hk;exact⟨u.defers,v,H,hK v w' X' G D I J⟩
  cases e with
  |normal=>exact fin hk
  |ret=>exact fin hk
  |_=>cases hk
 ·cases hr
def Zis(h:R n W0 w X F H s a):∀{xs:List Lc}{es:List Lb}{ts:List Tm},Zyv τ s xs es=K1 ts->
  ts.length=xs.length/\ ∀(i:Nat) t,ts[i]? =K1 t-> ∃v,(xs.map a.eval)[i]? =K1 v/\vt W0.gh w X W0.B s F a v [] t
 |[],es,ts,b=>by
  simp_all[Zyv]
 |x::xs,[],ts,b=>by grind[Zyv]
 |x::xs,e::es,ts,b=>by
  simp only[Zyv]at b;split at b
  ·rename_i r k d f;simp only[pB]at b;subst b;obtain⟨g,l⟩:=Zis h f;refine⟨by simp[g],λi t c=>?_⟩;cases i with
   |zero=>
    simp only[L8,pB]at c;subst c;exact⟨a.eval x,Ae,(Qjq h (tg:=[]) (λp j=>by cases j) d).2⟩
   |succ i=>simp_all
  ·cases b
end
end Go.Am

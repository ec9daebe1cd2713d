/- No condition. -/
import Derived.Test.YtcnklikmapfnmaaGreatDoorAm2
import Derived.LoopN
import Derived.ProofKit
import Derived.OpenShut
import Derived.Carry
import Derived.JoinedCond
import Derived.IntWalk
import Derived.OpenVars
import Derived.Lib.LaidTab
import Derived.HandedShaped
import Derived.Lib.Atoi
import Derived.Lib.AtoiBound
import Derived.Lib.SplitLaws
import Derived.Lib.IndexMore
import Derived.Lib.AtoiErrMem
set_option linter.all false
namespace Go.Am
open Go.RowKit
open Option renaming some→K1,none→K2,none→Ln
open Bool renaming true→K3,false→K4,noConfusion→L1,not_eq_true'→L2
open Go renaming Value→La,World→Lb,TypeId→Ld,Program→Lf,Oper→Lh,Code→Li,Calls→Lj,Addr→Ll
open Nat renaming beq→Lc,le_refl→Le,blt→Lu,zero_add→Lx
open List renaming nodup_append→Lg,mem_cons→Lo,nodup_cons→L5,all_eq_true→Mb,any_cons→Mc,drop_drop→Md,eq_nil_of_length_eq_zero→Me,ext_getElem?→Mf,getElem?_eq_getElem→Mg,mem_append→Mh,mem_singleton→Mi
open Lib renaming cut→Lk,countB→Lm,count→Lt,atoi→Lv,splitK→Lw
open Value renaming okWide→Lp,string→Lq,pointer→Mk
open Decidable renaming decide→Lr
open DataW renaming trod→Ls,TrodAll→L3,Whole→L4,trod_string→L7,trod_struct→L8
open Region renaming wanted→Ly
open World renaming var?→Lz,cells?_some→Ml,var?_cell→Mm
open Go.RowKit.Below renaming refl→L0
open Option.some renaming inj→L6
open Ending renaming returned→L9
open IntKind renaming i64→Ma
open OpenSpec renaming ofChange→Mj
open Value.pointer renaming injEq→Mn
variable{fresh handsOn:Bool}{s:ChangeSpec}{c:Li}{fn:Func}{f:FuncId}{g:Jh}{zs:List (List UInt8)}{l:List (String×(Array La->Prop))}{ln L:List Nat}{rs:List ResultVar}{base m b:Nat}{P:Lf}{p:Prop}{r:RS}{n name:String}{τ:nR}{ρ α:Type}{w W:Lb}{x:IZ r}{y:α}
inductive PE where
 |val (k:Nat) (T:Ty) (f:Fl)
 |box (k:Nat) (e:Ld) (T:Ty) (f:Fl)
 |ptr (k r:Nat) (p:List Nat)
 |bor (k r:Nat) (p:List Nat)
 |shp (k:Nat) (T:Ty)
 |elp (k r:Nat) (p q:List Nat)
 |clo (k f:Nat) (l:List Nat)
def PE.key:PE->Nat|.val k .. |.box k .. |.ptr k .. |.bor k .. |.shp k .. |.elp k .. |.clo k .. =>k
@[reducible] def PE.dens:List PE->Type|[]=>Unit|.val _ T _::r=>T.den×PE.dens r|.box _ _ T _::r=>T.den×PE.dens r|.ptr .. ::r=>PE.dens r|.bor .. ::r=>PE.dens r|.shp _ T::r=>T.den×PE.dens r|.elp .. ::r=>Int×PE.dens r|.clo .. ::r=>PE.dens r
def PM:(p:List PE)->PE.dens p->List (Bk×Tm)|[],_=>[]|.val k T f::r,x=>(.m k,.val T f x.1)::PM r x.2|.box k e T f::r,x=>(.m k,.box e T f x.1)::PM r x.2|.ptr k q p::r,x=>(.m k,.ptr q p)::PM r x|.bor k q p::r,x=>(.m k,.bor q p)::PM r x|.shp k T::r,x=>(.m k,.shp T x.1)::PM r x.2|.elp k j p q::r,x=>(.m k,.elp j p x.1 q)::PM r x.2|.clo k f l::r,x=>(.m k,.cl f l)::PM r x
def PV(ln:List Nat)(p:List PE)(x:PE.dens p):St:={env:=PM p x,pP:=[],pQ:=ln}
def P2:List Nat->List Nat->Bool
 |[],[]=>K3
 |x::xs,y::ys=>match Lc x y with|true=>P2 xs ys|false=>K4
 |_,_=>K4
theorem FO:∀{p q:List Nat},P2 p q=K3->p=q
 |[],[],_=>rfl
 |x::b,y::c,h=>by
  simp only[P2]at h;split at h
  ·rename_i a;rw[pD a,FO h]
  ·cases h
 |[],_::_,h=>by simp[P2]at h
 |_::_,[],h=>by simp[P2]at h
def jD:List PE->Nat->Bool
 |[],_=>K4
 |e::r,k=>match Lc e.key k with
  |true=>match e with|.box .. =>K3|_=>K4
  |false=>jD r k
def UA:List PE->Nat->Bool
 |[],_=>K4
 |e::r,k=>match Lc e.key k with
  |true=>match e with|.box .. |.val .. =>K3|_=>K4
  |false=>UA r k
def Uw(s:St)(full:List PE):(p:List PE)->Option (PE.dens p)
 |[]=>K1 ()
 |.val k T f::r=>match s.get (.m k)with
  |.val U g y=>match cQ U g f,aa T U y,Uw s full r with
   |true,K1 z,K1 q=>K1 (z,q)
   |_,_,_=>K2
  |_=>K2
 |.box k e T f::r=>match s.get (.m k)with
  |.box e' U g y=>match Lc e' e&&cQ U g f,aa T U y,Uw s full r with
   |true,K1 z,K1 q=>K1 (z,q)
   |_,_,_=>K2
  |_=>K2
 |.ptr k j p::r=>match s.get (.m k)with
  |.ptr j' p'=>match Lc j' j&&P2 p' p&&jD full j with
   |true=>Uw s full r
   |false=>K2
  |_=>K2
 |.bor k j p::r=>match s.get (.m k)with
  |.bor j' p'=>match Lc j' j&&P2 p' p&&UA full j&& !(s.bad j p)with
   |true=>Uw s full r
   |false=>K2
  |_=>K2
 |.shp k T::r=>match s.get (.m k)with
  |.shp U y=>match aa T U y,Uw s full r with
   |some z,K1 q=>K1 (z,q)
   |_,_=>K2
  |_=>K2
 |.elp k j p q::r=>match s.get (.m k)with
  |.elp j' p' i q'=>match Lc j' j&&P2 p' p&&P2 q' q&&UA full j&& !(s.bad j p),Uw s full r with
   |true,K1 x=>K1 (i,x)
   |_,_=>K2
  |_=>K2
 |.clo k f l::r=>match s.get (.m k)with
  |.cl f' l'=>match Lc f' f&&P2 l' l&&l.all (jD full)with
   |true=>Uw s full r
   |false=>K2
  |_=>K2
def jO:∀{p:List PE}{x:PE.dens p}{k:Nat},jD p k=K3-> ∃e T f y,oq (PM p x) (.m k)=.box e T f y
 |e::r,x,k,h=>by
  simp only[jD]at h;split at h
  ·rename_i b;have:=pD b;split at h
   all_goals simp_all[PE.key,PM,Ql]
  ·rename_i b;have a:e.key≠k:=λc=>Af
   cases e<;>simp only[PE.key]at a<;>simp only[PM,Ql,Bk.m.injEq,a,if_false]<;>exact jO h
def FI:∀{p:List PE}{x:PE.dens p}{k:Nat},UA p k=K3->oq (PM p x) (.m k)≠ .pR
 |e::r,x,k,h=>by
  simp only[UA]at h;split at h
  ·rename_i b;have:=pD b;split at h
   all_goals simp_all[PE.key,PM,Ql]
  ·rename_i b;have a:e.key≠k:=λc=>Af
   cases e<;>simp only[PE.key]at a<;>simp only[PM,Ql,Bk.m.injEq,a,if_false]<;>exact FI h
def NS:∀{p:List PE}{x:PE.dens p}{d i:Nat},oq (PM p x) (.c d i)=.pR
 |[],_,_,_=>rfl
 |e::r,x,d,i=>by cases e<;>simp only[PM,Ql,reduceCtorEq,if_false]<;>exact NS
def nB{U T:Ty}{x:T.den}{y:U.den}(h:aa U T x=K1 y):∃e:T=U,y=e▸x:=by grind[aa]
section
variable {P:Lf}{g:Jh}{W0:fW g}{w w':Lb}{X X':Nat->Prop}{B B' n:Nat}{own:Bool}{s s':St}{F:Bk->List Nat}{a:Act}{H H':List Nat}{o:Lh}{tg:Y7}{τ:nR}{C:DL}{gh:Nat->La}
def MQ{ln:List Nat}{full:List PE}{xf:PE.dens full}:∀{p:List PE}{x:PE.dens p},Uw s full p=K1 x-> ∀k,KT s (PV ln full xf) (s.get k) (oq (PM p x) k)
 |[],_,_,k=>.pR _
 |e::r,x,h,k=>by
  cases e with
  |val m T f=>
   simp only[Uw]at h;split at h
   ·rename_i U g y b;split at h
    ·rename_i z q n c d;simp only[pB]at h;subst h;simp only[PM,Ql];split
     ·rename_i e;subst e;obtain⟨rfl,rfl⟩:=nB c;rw[b];exact .val (.inr n)
     ·exact MQ d k
    ·cases h
   ·cases h
  |box m e T f=>
   simp only[Uw]at h;split at h
   ·rename_i u U g y b;split at h
    ·rename_i z q n c d;simp only[pC]at n;simp only[pB]at h;subst h;simp only[PM,Ql];split
     ·rename_i e;subst e;obtain⟨rfl,rfl⟩:=nB c;rw[b,pD n.1];exact .box (.inr n.2)
     ·exact MQ d k
    ·cases h
   ·cases h
  |ptr m j p=>
   simp only[Uw]at h;split at h
   ·rename_i o t b;split at h
    ·rename_i a;simp only[pC]at a;simp only[PM,Ql];split
     ·rename_i e;subst e;rw[b,pD a.1.1,FO a.1.2];exact .ptr (jO a.2)
     ·exact MQ h k
    ·cases h
   ·cases h
  |bor m j p=>
   simp only[Uw]at h;split at h
   ·rename_i o t b;split at h
    ·rename_i a;simp only[pC,L2]at a;simp only[PM,Ql];split
     ·rename_i e;subst e;rw[b,pD a.1.1.1,FO a.1.1.2];exact .bor a.2 (FI a.1.2)
     ·exact MQ h k
    ·cases h
   ·cases h
  |shp m T=>
   simp only[Uw]at h;split at h
   ·rename_i U y b;split at h
    ·rename_i z q c d;simp only[pB]at h;subst h;simp only[PM,Ql];split
     ·rename_i e;subst e;obtain⟨rfl,rfl⟩:=nB c;rw[b];exact .shp
     ·exact MQ d k
    ·cases h
   ·cases h
  |elp m j p q=>
   simp only[Uw]at h;split at h
   ·rename_i o t i v b;split at h
    ·rename_i z a c;simp only[pC,L2]at a;simp only[pB]at h;subst h;simp only[PM,Ql];split
     ·rename_i e;subst e;rw[b,pD a.1.1.1.1,FO a.1.1.1.2,FO a.1.1.2];exact .elp a.2 (FI a.1.2)
     ·exact MQ c k
    ·cases h
   ·cases h
  |clo m f l=>
   simp only[Uw]at h;split at h
   ·rename_i w A b;split at h
    ·rename_i a;simp only[pC]at a;simp only[PM,Ql];split
     ·rename_i e;subst e;rw[b,pD a.1.1,FO a.1.2];exact .cl λq d=>jO (Mb.1 a.2 q d)
     ·exact MQ h k
    ·cases h
   ·cases h
def R.pat{p:List PE}{x:PE.dens p}(h:R n W0 w X F H s a)(hl:∀p,p∈W0.fix->p.1∈ln)(hp:Uw s p p=K1 x):∃F',R n W0 w X F' H (PV ln p x) a:=h.weak (λk=>MQ hp k) (λ_ _ b=>absurd NS b) hl
def VD:List PE->St->St
 |.val k _ (.u K4)::r,s=>match s.get (.m k)with
  |.val U g x=>match cQ U g (.u K4),g.live with
   |false,K3=>VD r (WL s k (.val U (.u K4) x))
   |_,_=>VD r s
  |_=>VD r s
 |.val k _ (.p (.u K3) (.u K4))::r,s=>match s.get (.m k)with
  |.val (.slice e t) (.u K3) x=>VD r (WL s k (.val (.slice e t) .e x))
  |_=>VD r s
 |.box k _ _ (.u K4)::r,s=>match s.get (.m k)with
  |.box e U g x=>match cQ U g (.u K4),g.live with
   |false,K3=>VD r (FX s k e U x)
   |_,_=>VD r s
  |_=>VD r s
 |.box k _ _ (.p a b)::r,s=>match s.get (.m k)with
  |.box _ U g _=>match cQ U g (.p a b)with
   |true=>VD r s
   |false=>VD r (Qr9 s k (.p a b))
  |_=>VD r s
 |_::r,s=>VD r s
 |[],s=>s
def Kk(hs0:g.soft=K4):∀{p:List PE}{s:St}{X:Nat->Prop}{F:Bk->List Nat},R n W0 w X F H s a-> ∃X' F',R n W0 w X' F' H (VD p s) a
 |[],s,X,F,h=>⟨X,F,h⟩
 |.val k T (.u K4)::r,s,X,F,h=>by
  simp only[VD];split
  ·rename_i U g x f;split
   ·rename_i j;exact Kk hs0 (R.frz hs0 h f j)
   ·exact Kk hs0 h
  ·exact Kk hs0 h
 |.val k T (.u K3)::r,s,X,F,h=>Kk hs0 (p:=r) h
 |.val k T (.p o q)::r,s,X,F,h=>by
  unfold VD;split
  ·simp_all
  ·rename_i c;cases c;split
   ·rename_i e t x f;obtain⟨l,m,i⟩:=R.frzE hs0 h f;exact Kk hs0 i
   ·exact Kk hs0 h
  ·simp_all
  ·simp_all
  ·rename_i c;cases c;exact Kk hs0 (p:=r) h
  simp_all
 |.val k T .d::r,s,X,F,h=>Kk hs0 (p:=r) h
 |.box k v T (.u K4)::r,s,X,F,h=>by
  simp only[VD];split
  ·rename_i e U g x f;split
   ·rename_i j;obtain⟨l,m,i,_⟩:=R.frzX hs0 h f j;exact Kk hs0 i
   ·exact Kk hs0 h
  ·exact Kk hs0 h
 |.box _ _ _ (.u K3)::r,s,X,F,h=>Kk hs0 (p:=r) h
 |.box k _ _ (.p a b)::r,s,X,F,h=>by
  simp only[VD];split
  ·split
   ·exact Kk hs0 h
   ·obtain⟨l,m,i⟩:=R.frzP hs0 h k (.p a b);exact Kk hs0 i
  ·exact Kk hs0 h
 |.box _ _ _ .d::r,s,X,F,h=>Kk hs0 (p:=r) h
 |.ptr .. ::r,s,X,F,h=>Kk hs0 (p:=r) h
 |.bor .. ::r,s,X,F,h=>Kk hs0 (p:=r) h
 |.shp .. ::r,s,X,F,h=>Kk hs0 (p:=r) h
 |.elp .. ::r,s,X,F,h=>Kk hs0 (p:=r) h
 |.clo .. ::r,s,X,F,h=>Kk hs0 (p:=r) h
def Ee(s:St)(r:Nat):Bool:=match s.get (.m r)with|.box .. =>K3|_=>K4
def nS(L:List Nat)(r:Nat):Bool:=L.any (Lc r)
def Cy(s:St)(L:List Nat):Tm->Tm
 |.val T f x=>.val T f x
 |.box e T f x=>.box e T f x
 |.shp T x=>.shp T x
 |.ptr r p=>match nS L r&&Ee s r with|true=>.ptr r p|false=>.pR
 |.pls h l=>match l.all (λq=>nS L q.1&&Ee s q.1)with|true=>.pls h l|false=>.pR
 |_=>.pR
def Du(L:List Nat)(s:St):St:={env:=L.map λk=>(.m k,Cy s L (s.get (.m k))),pP:=[],pQ:=s.pQ}
def NX:List (Bk×Tm)->List Nat
 |[]=>[]
 |(.m k,_)::r=>match nS (NX r) k with|true=>NX r|false=>k::NX r
 |_::r=>NX r
def Tv(L:List Nat)(s:St)(k:Bk):(Du L s).get k=match k with|.m t=>(match nS L t with|true=>Cy s L (s.get (.m t))|false=>.pR)|.c _ _=>.pR:=by
 have a:∀M:List Nat,oq (M.map λk=>(Bk.m k,Cy s L (s.get (.m k)))) k=match k with|.m t=>(match nS M t with|true=>Cy s L (s.get (.m t))|false=>.pR)|.c _ _=>.pR:=by
  intro M
  induction M with
  |nil=>cases k<;>rfl
  |cons m M b=>
   rw[List.map_cons,Ql,b];cases k with
   |c t i=>simp
   |m t=>
    by_cases h:m=t
    ·simp_all[nS]
    ·have:nS (m::M) t=nS M t:=by simp only[nS,Mc];rw[show Lc t m=K4 by rw[Bool.eq_false_iff];grind[pD]];rfl
     simp_all
 exact a L
def Bh{s:St}{r:Nat}(h:(nS L r&&Ee s r)=K3):∃e T f x,(Du L s).get (.m r)=.box e T f x:=by
 simp only[pC]at h;unfold Ee at h;rw[Tv];simp only[h.1];have a:=h.2;split at a
 ·rename_i e T f x b;rw[b];exact⟨e,T,f,x,rfl⟩
 ·cases a
def R.keep(h:R n W0 w X F H s a):∃F',R n W0 w X F' H (Du L s) a:=by
 refine h.weak (λk=>?_) (λd i b=>absurd (Tv L s (.c d i)) b) (λp f=>(h.fix p f).1);rw[Tv];cases k with
 |c t i=>exact .pR _
 |m t=>
  simp only;split
  ·generalize s.get (.m t)=u;cases u with
   |val=>exact .val (.inl rfl)
   |box=>exact .box (.inl rfl)
   |shp=>exact .shp
   |ptr r p=>
    simp only[Cy];split
    ·rename_i e;exact .ptr (Bh e)
    ·exact .pR _
   |pls j l=>
    simp only[Cy];split
    ·rename_i e;exact .pls λq g=>Bh (Mb.1 e q g)
    ·exact .pR _
   |_=>exact .pR _
  ·exact .pR _
def Qxl(C:DL)(s:St)(o:Lh):Bool:=
 match o.guard,o.op with
 |none,.call {callee:=.value fo,..}=>match LD s [] fo with
  |some f=>(C.ΓL.find f).isSome
  |none=>K4
 |_,_=>K4
noncomputable def Ii{ρ:Type}(C:DL)(n:Nat)(ops:Array Lh)(o:Lh)(s:St)(k:St->Option ρ):Option ρ:=
 match Ra C s o with
 |some (E,ts)=>RD C.τ n s o.dst E ts k
 |none=>match Ca C s ops o with
 |some (g,b,d,f,xs)=>yd C n o s g b d f xs k
 |none=>match Cf C s o with
 |some (f,xs)=>Ua C.ΓB n s o.dst f xs.toList k
 |none=>match Qxl C s o with
 |true=>match o.guard,o.op with
  |none,.call {callee:=.value fo,args:=xs,..}=>match LD s [] fo with
   |some f=>EZ C.ΓL n s o.dst f xs.toList k
   |none=>K2
  |_,_=>K2
 |false=>UK C n ops o s k
def Qfi(hC:C.ok P g){ops:Array Lh}(h:R n W0 w X F [] s a){k:St->Option ρ}{r:ρ}(hs:Ii C n ops o s k=K1 r){K:Act->Lb->Prop}{Q:Exit->Act->Lb->Prop}
  (hK:∀w' a' X' F' s',k s'=K1 r->R n W0 w' X' F' [] s' a'->K a' w'):ite (Ly o (yielded ops a.tmps)) (o.wp P a w K Q) (K (a.put o.dst undef) w):=by
 unfold Ii at hs;split at hs
 ·rename_i E G u;obtain⟨i,x,H,y,z,A⟩:=TJ hC h u;rw[if_pos (by simp[Ly,i])];exact Eg hC.τ x h y z A hs λv w' X' F' s' hk c=>hK w' _ X' F' s' hk c
 split at hs
 ·rename_i I b d f t j;exact Fb hC h j hs λv w' X' F' s' hk c _ _=>hK w' _ X' F' s' hk c
 split at hs
 ·rename_i f t e;unfold Cf at e;split at e
  ·rename_i B D l m i p;split at e
   ·rename_i J q;split at e
    ·simp only[pB,pF]at e;obtain⟨rfl,rfl⟩:=e;rw[if_pos (by simp[Ly,i])];exact Rx (hC.soft.trans m) hC.ΓB h (XB h dG q) p hs λv w' X' F' s' hk c _ _=>hK w' _ X' F' s' hk c
    ·cases e
   ·cases e
  ·cases e
 split at hs
 ·split at hs
  ·rename_i B t l i p;split at hs
   ·rename_i f q;rw[if_pos (by simp[Ly,i])];exact Qec hC.ΓL h (XB h dG q) p hs λv w' X' F' s' hk c=>hK w' _ X' F' s' hk c
   ·cases hs
  ·cases hs
 ·exact Ed hC h hs λw' a' X' F' s' hk c _=>hK w' a' X' F' s' hk c
noncomputable def H2{ρ:Type}(C:DL)(n:Nat)(ops:Array Lh):List Lh->St->(St->Option ρ)->Option ρ|[],s,k=>k (Zzn s)|o::r,s,k=>Ii C n ops o s λs'=>H2 C n ops r s' k
def Gh{ρ:Type}(hC:C.ok P g){ops:Array Lh}{k:St->Option ρ}{r:ρ}{Q:Exit->Act->Lb->Prop}
  (hK:∀w' a' X' F' s',k s'=K1 r->R n W0 w' X' F' [] s' a'->Q .normal a' w'):
  ∀{l:List Lh}{s:St}{w:Lb}{X:Nat->Prop}{F:Bk->List Nat}{a:Act},R n W0 w X F [] s a->H2 C n ops l s k=K1 r->wpList P ops Q l a w
 |[],s,w,X,F,a,h,b=>by
  obtain⟨F',d⟩:=h.clean;exact hK w a X F' _ b d
 |o::l,s,w,X,F,a,h,b=>by
  refine wpList_step λK c=>?_;exact Qfi hC h b λw' a' X' F' s' hk e=>c _ _ (Gh hC hK e hk)
inductive An(ρ:Type) where
 |leaf
 |seq (a b:An ρ)
 |cond (a b:An ρ)
 |block (a:An ρ)
 |loop (p:List PE) (f:Nat->PE.dens p->Option ρ) (fuel:PE.dens p->Nat) (a:(PE.dens p->Option ρ)->An ρ)
 |join (p:List PE) (f:PE.dens p->Option ρ) (a b:An ρ)
 |unroll (L:List Nat) (m:Nat) (a:Nat->An ρ)
 |frz (L:List (Nat×Fl))
def Qgn{ρ:Type}(sf:Bool)(A:An ρ)(s:St):St:=match A with
 |.frz L=>match sf with|true=>s|false=>Zzn (x9 L s)
 |_=>s
def YO{ρ:Type}(k1:St->Option ρ)(k:Exit->St->Option ρ):Exit->St->Option ρ|.normal,s=>k1 s|e,s=>k e s
def DI{ρ:Type}(id:Nat)(k:Exit->St->Option ρ):Exit->St->Option ρ
 |.exit j,s=>match Lc j id with|true=>k .normal s|false=>k (.exit j) s
 |e,s=>k e s
def Qz4(sf:Bool)(p:List PE)(s:St):St:=match sf with|true=>s|false=>VD p s
def AV{ρ:Type}(sf:Bool)(p:List PE)(f:PE.dens p->Option ρ):St->Option ρ:=λs=>match Uw (Qz4 sf p s) p p with
 |some v=>f v
 |none=>K2
def SW{ρ:Type}(f:Nat->(St->Option ρ)->St->Option ρ):Nat->St->Option ρ|0=>λ_=>K2|m+1=>f m (SW f m)
noncomputable def Ji{ρ:Type}(C:DL)(n:Nat):Li->An ρ->(Exit->St->Option ρ)->St->Option ρ
 |.skip,_,k,s=>k .normal s
 |.region _ ops draw,A,k,s=>match draw with
  |false=>H2 C n ops ops.toList (Qgn C.soft A s) (k .normal)
  |true=>match Region.noSelect ops with
   |true=>DA C n ops (UD (Qgn C.soft A s) ops) ops.size (Array.replicate ops.size K4) (Qgn C.soft A s) (k .normal)
   |false=>K2
 |.seq a b,A,k,s=>match A with
  |.seq A B=>Ji C n a A (YO (Ji C n b B k) k) s
  |.join p f A _=>Ji C n a A (YO (AV C.soft p f) k) s
  |_=>Ji C n a .leaf (YO (Ji C n b .leaf k) k) s
 |.cond x a b,A,k,s=>match de s (Gj s [] x) .bool with
  |some c=>match A with
   |.cond A B=>cond c (Ji C n a A k s) (Ji C n b B k s)
   |_=>cond c (Ji C n a .leaf k s) (Ji C n b .leaf k s)
  |none=>K2
 |.block id b,A,k,s=>match A with
  |.block A=>Ji C n b A (DI id k) s
  |_=>Ji C n b .leaf (DI id k) s
 |.loop b,A,k,s=>match A with
  |.loop p f fuel _=>AV C.soft p (λv=>f (fuel v) v) s
  |.unroll L m A=>SW (λi kk s=>Ji C n b (A i) (YO kk k) (Du L s)) m s
  |.leaf=>SW (λ_ kk s=>Ji C n b .leaf (YO kk k) (Du (NX s.env) s)) 6 s
  |_=>K2
 |.exit id,_,k,s=>k (.exit id) s
 |.ret,A,k,s=>k .ret (Qgn C.soft A s)
 |_,_,_,_=>K2
def aW{ρ:Type}(C:DL)(n:Nat):Li->An ρ->(Exit->St->Option ρ)->Prop
 |.seq a b,A,k=>match A with
  |.seq A B=>aW C n a A (YO (Ji C n b B k) k)/\aW C n b B k
  |.join p f A B=>aW C n a A (YO (AV C.soft p f) k)/\(∀v,f v=Ji C n b B k (PV C.pQ p v))/\aW C n b B k
  |_=>True
 |.cond _ a b,A,k=>match A with
  |.cond A B=>aW C n a A k/\aW C n b B k
  |_=>True
 |.block id b,A,k=>match A with
  |.block A=>aW C n b A (DI id k)
  |_=>True
 |.loop b,A,k=>match A with
  |.loop p f _ A=>(∀v,f 0 v=K2)/\ ∀N,(∀v,f (N+1) v=Ji C n b (A (f N)) (YO (AV C.soft p (f N)) k) (PV C.pQ p v))/\aW C n b (A (f N)) (YO (AV C.soft p (f N)) k)
  |.unroll L m A=> ∀i,i<m->aW C n b (A i) (YO (SW (λi kk s=>Ji C n b (A i) (YO kk k) (Du L s)) i) k)
  |_=>True
 |_,_,_=>True
def FY{ρ:Type}{g:Jh}(n:Nat)(W0:fW g)(k:Exit->St->Option ρ)(r:ρ):Exit->Act->Lb->Prop:=λe a w=> ∃s X F,k e s=K1 r/\R n W0 w X F [] s a
theorem Ko(c:Li)(k:Exit->St->Option ρ):aW C n c .leaf k:=by cases c<;>simp[aW]
def Sz(hC:C.ok P g)(hl:∀p,p∈W0.fix->p.1∈C.pQ){p:List PE}{f:PE.dens p->Option ρ}{r:ρ}(h:R n W0 w X F H s a)(hj:AV C.soft p f s=K1 r):∃v X' F',f v=K1 r/\R n W0 w X' F' H (PV C.pQ p v) a:=by
 unfold AV at hj;split at hj
 ·rename_i v hv;obtain⟨b,c,d⟩:∃b c,R n W0 w b c H (Qz4 C.soft p s) a:=by
   cases hsf:C.soft
   ·exact Kk (hC.soft.trans hsf) (p:=p) h
   ·exact⟨X,F,h⟩
  obtain⟨F',e⟩:=d.pat hl hv
  grind
 ·cases hj
def R.frzA(hC:C.ok P g)(A:An ρ)(h:R n W0 w X F [] s a):∃X' F',R n W0 w X' F' [] (Go.Am.Qgn C.soft A s) a:=by
 unfold Go.Am.Qgn;split
 ·rename_i L;cases hsf:C.soft
  ·obtain⟨c,d,b⟩:=RI (hC.soft.trans hsf) (L:=L) h;obtain⟨e,f⟩:=b.clean
   grind
  grind
 grind
def Qu7{I:Nat->Prop}(h:∃N,I N):∃N,I N/\ ∀M,I M->N<=M:=by
 obtain⟨N,a⟩:=h
 induction N using Nat.strongRecOn with
 |_ N b=>
  grind
def Iq(hC:C.ok P g)(hl:∀p,p∈W0.fix->p.1∈C.pQ){r:ρ}:∀{c:Li}{A:An ρ}{k:Exit->St->Option ρ}{s:St}{w:Lb}{X:Nat->Prop}{F:Bk->List Nat}{a:Act},
  aW C n c A k->Ji C n c A k s=K1 r->R n W0 w X F [] s a->c.wp P (FY n W0 k r) a w:=by
 intro c
 induction c with
 |skip=>intro A k s w X F a _ d h;exact wp_skip ⟨s,X,F,d,h⟩
 |region Y a2 au=>
  intro A k s w X F a _ d h;simp only[Ji]at d;obtain⟨X,F,h⟩:=h.frzA hC A;generalize Qgn C.soft A s=s at d h;split at d
  ·exact wp_region_list (Gh hC (λG H q t u hk E=>⟨u,q,t,hk,E⟩) h d)
  ·split at d
   ·rename_i hB;have Q:R n W0 {w with drawn:=w.drawn+1} X F [] s a:=h.world (h.below.step (L0 _ w).drew) (Le _) (λ_ _=>rfl) (λ_ _ _=>rfl);exact wp_region_any hC.follows (IF (Qn:=λH G=>FY n W0 k r .normal H G) (λ_ _ h=>h) _ _ _ _
     (IH (Sh:=λ_=>False) hC (Region.noSelect_spec hB) (λi r hr j o ho=>Qnf hr ho) (λG H q t u hk E=>⟨u,q,t,hk,E⟩) (λm o _ hm=>by simp only[Array.getD_eq_getD_getElem?,Array.getElem?_replicate]at hm;grind) Q (λ_ h=>h.elim) d))
   ·cases d
 |seq x y Z S=>
  intro A k s w X F a J d h;have a0:∀{A B:An ρ},aW C n x A (YO (Ji C n y B k) k)->aW C n y B k->Ji C n x A (YO (Ji C n y B k) k) s=K1 r->(Li.seq x y).wp P (FY n W0 k r) a w:=by
   intro A B h1 Q h3;refine wp_seq (wp_mono (Z h1 h3 h) λe H G K=>?_);obtain⟨u,q,t,hk,E⟩:=K;cases e with
   |normal=>exact S Q hk E
   |_=>exact⟨u,q,t,hk,E⟩
  cases A with
  |seq A B=>grind[Ji,aW]
  |join p f A B=>
   simp only[Ji]at d;simp only[aW]at J;refine wp_seq (wp_mono (Z J.1 d h) λe H G K=>?_);obtain⟨u,q,t,hk,E⟩:=K;cases e with
   |normal=>
    obtain⟨v,X2,F2,hv,U⟩:=Sz hC hl E hk;rw[J.2.1]at hv;exact S J.2.2 hv U
   |_=>exact⟨u,q,t,hk,E⟩
  |leaf=>grind[Ji,Ko]
  |cond=>grind[Ji,Ko]
  |block=>grind[Ji,Ko]
  |loop=>grind[Ji,Ko]
  |unroll=>grind[Ji,Ko]
  |frz=>grind[Ji,Ko]
 |cond x y z S a3=>
  intro A k s w X F a J d h;simp only[Ji]at d;split at d
  ·rename_i b hb;have hv:=uA h dG hb;have l:∀{A B:An ρ},aW C n y A k->aW C n z B k->(cond b (Ji C n y A k s) (Ji C n z B k s))=K1 r->(Li.cond x y z).wp P (FY n W0 k r) a w:=by
    grind[wp_cond_split]
   cases A with
   |cond A B=>grind[aW]
   |leaf=>exact l (Ko _ _) (Ko _ _) d
   |seq=>exact l (Ko _ _) (Ko _ _) d
   |block=>exact l (Ko _ _) (Ko _ _) d
   |loop=>exact l (Ko _ _) (Ko _ _) d
   |join=>exact l (Ko _ _) (Ko _ _) d
   |unroll=>exact l (Ko _ _) (Ko _ _) d
   |frz=>exact l (Ko _ _) (Ko _ _) d
  ·cases d
 |block Y b ih=>
  intro A k s w X F a J d h;have O:∀{A:An ρ},aW C n b A (DI Y k)->Ji C n b A (DI Y k) s=K1 r->(Li.block Y b).wp P (FY n W0 k r) a w:=by
   intro A h1 Q;refine wp_block (wp_mono (ih h1 Q h) λe H G K=>?_);obtain⟨u,q,t,hk,E⟩:=K;cases e with
   |exit j=>
    simp only[DI]at hk;simp only[Exit.inBlock];split at hk
    ·rename_i hb;rw[if_pos (pD hb)];exact⟨u,q,t,hk,E⟩
    ·rename_i hb;rw[if_neg (λe=>Af)];exact⟨u,q,t,hk,E⟩
   |_=>exact⟨u,q,t,hk,E⟩
  cases A with
  |block A=>grind[Ji,aW]
  |_=>simp only[Ji]at d;exact O (Ko _ _) d
 |loop b ih=>
  intro A k s w X F a J d h;cases A with
  |loop p f a1 A=>
   simp only[Ji]at d;simp only[aW]at J;obtain⟨h0,hN⟩:=J;obtain⟨v,X2,F2,hv,U⟩:=Sz hC hl h d
   classical
   let I:Nat->Act->Lb->Prop:=λN a w=> ∃v X F,f N v=K1 r/\R n W0 w X F [] (PV C.pQ p v) a
   let μ:Act->Lb->Nat:=λa w=>if h:∃N,I N a w then(Qu7 h).choose else 0
   refine wp_loop (λa w=> ∃N,I N a w) μ ⟨_,v,X2,F2,hv,U⟩ λa w hI=>?_;have a4:I (μ a w) a w:=by
    grind
   obtain⟨v,X,F,hv,E⟩:=a4;generalize hM:μ a w=M at hv;cases M with
   |zero=>simp_all
   |succ N=>
    obtain⟨h1,Q⟩:=hN N;rw[h1]at hv;refine wp_mono (ih Q hv E) λe H G K=>?_;obtain⟨u,q,t,hk,D⟩:=K;cases e with
    |normal=>
     obtain⟨v',X3,F3,ad,ar⟩:=Sz hC hl D hk;have ab:I N H G:=⟨v',X3,F3,ad,ar⟩
     have V:∃N,I N H G:=⟨N,ab⟩
     refine⟨V,?_⟩;have:μ H G<=N:=by
      simp only[μ,dif_pos V];exact(Qu7 V).choose_spec.2 N ab
     omega
    |_=>exact⟨u,q,t,hk,D⟩
  |unroll L m A=>
   simp only[Ji]at d;simp only[aW]at J;refine wp_loop_rounds m ?_
   induction m generalizing s w X F a with
   |zero=>cases d
   |succ m W=>
    simp only[SW]at d;obtain⟨F0,h0⟩:=R.keep (L:=L) h;refine wp_mono (ih (J m (Nat.lt_succ_self m)) d h0) λe H G K=>?_;obtain⟨u,q,t,hk,D⟩:=K;cases e with
    |normal=>exact W D (λi hi=>J i (Nat.lt_succ_of_lt hi)) hk
    |_=>exact⟨u,q,t,hk,D⟩
  |leaf=>
   simp only[Ji]at d;refine wp_loop_rounds 6 ?_;generalize 6=m at d
   induction m generalizing s w X F a with
   |zero=>cases d
   |succ m W=>
    simp only[SW]at d;obtain⟨F0,h0⟩:=R.keep (L:=NX s.env) h;refine wp_mono (ih (Ko _ _) d h0) λe H G K=>?_;obtain⟨u,q,t,hk,D⟩:=K;cases e with
    |normal=>exact W D hk
    |_=>exact⟨u,q,t,hk,D⟩
  |_=>simp[Ji]at d
 |exit Y=>intro A k s w X F a _ d h;exact wp_exit ⟨s,X,F,d,h⟩
 |ret=>
  intro A k s w X F a _ d h;simp only[Ji]at d;obtain⟨X,F,h⟩:=h.frzA hC A;exact wp_ret ⟨_,X,F,d,h⟩
 |rangeFunc=>simp_all[Ji]
 |scope=>simp_all[Ji]
 |label=>simp_all[Ji]
 |goto=>simp_all[Ji]
 |refuse=>simp_all[Ji]
inductive FA where
 |leaf|seq (a b:FA)|cond (a b:FA)|block (a:FA)|frz (L:List (Nat×Fl))
def FA.an{ρ:Type}:FA->An ρ|.leaf=>.leaf|.seq a b=>.seq a.an b.an|.cond a b=>.cond a.an b.an|.block a=>.block a.an|.frz L=>.frz L
def FA.conds{ρ:Type}{C:DL}{n:Nat}:∀(A:FA)(c:Li)(k:Exit->St->Option ρ),Go.Am.aW C n c A.an k
 |.leaf,c,k=>Ko c k
 |.seq a b,c,k=>by cases c<;>simp only[FA.an,Go.Am.aW];exact⟨FA.conds a _ _,FA.conds b _ _⟩
 |.cond a b,c,k=>by cases c<;>simp only[FA.an,Go.Am.aW];exact⟨FA.conds a _ _,FA.conds b _ _⟩
 |.block a,c,k=>by cases c<;>simp only[FA.an,Go.Am.aW];exact FA.conds a _ _
 |.frz L,c,k=>by cases c<;>simp only[FA.an,Go.Am.aW]
def Yx.of{C:DL}(hC:∀ln,({C with pQ:=ln}:DL).ok P g){E:py}(hf:P.funcs[E.f]? =K1 fn)(hb:fn.body=K1 c)(hcall:∀args w,(callFunc E.f args).run P w=.ok (.enter E.f args) w)
  (hle:E.np<=E.n/\E.n<=1048576) (hn:fn.ntmps=E.n) (hrv:fn.results.toList=E.rv) (A:FA) (hrun:∀{ρ:Type}(ln:List Nat)(k:Exit->St->Option ρ)(s:St),E.run ln k s=Ji {C with pQ:=ln} E.n c A.an k s):Yx P g E where
 enters:=hcall
 le:=hle
 code:=⟨fn,c,hf,hb,hn,hrv,λ{ρ k r ln e w X F s a} b d h=>by
  rw[hrun]at b;exact Iq (hC ln) d (A.conds c k) b h⟩
end
section
variable {P:Lf}{g:Jh}{W0:fW g}{w w':Lb}{X X':Nat->Prop}{B B' n:Nat}{own:Bool}{s s':St}{F:Bk->List Nat}{a:Act}{H H':List Nat}{o:Lh}{tg:Y7}{τ:nR}{C:DL}{gh:Nat->La}
def oY(hB:own=K4\/B'<=B)(hX:own=K3\/ ∀b,X b->X' b):∀{T:Ty}{x:T.den}{vs:List La}{S:List Nat},rd w X B own T x vs S->rd w X' B' own T x vs S
 |.unit,_,_,_,h|.int _,_,_,_,h|.bool,_,_,_,h|.fnc _,_,_,_,h|.str,_,_,_,h=>h
 |.slice _ _,_,_,_,⟨v,l,g,i,e,j,d,f⟩=>by
  refine⟨v,l,g,i,e,j,?_,J0 f λ_ _ _ _ _ h=>oY hB hX h⟩;cases own
  ·have hX:=hX.resolve_left Ac;obtain⟨m,p,a,k,q,r,s,u⟩:=d;exact⟨m,p,a,k,q,r,s,u.imp id λ⟨z,A,C,D⟩=>⟨z,A,C.imp id (hX _),D⟩⟩
  ·exact⟨DZ d.1 (hB.resolve_left Ac),d.2⟩
 |.pair a b,_,_,_,⟨E,F,g,i,e,j,d,f⟩=>⟨E,F,g,i,e,j,oY hB hX d,oY hB hX f⟩
 |.arr n t,_,_,_,⟨h,G⟩=>⟨h,J0 G λ_ _ _ _ _ h=>oY hB hX h⟩
 |.err,_,_,_,h=>h
 |.hid _,_,_,_,⟨e,y,h⟩=>⟨e,y,oY hB hX h⟩
 |.sptr ..,_,_,_,⟨e,o,b,c,d,f,H,I⟩=>⟨e,o,b,c,d,hX.resolve_left (by simp[o]) b f,H,oY hB hX I⟩
 |.clo ..,_,_,_,⟨e,J,d,f⟩=>⟨e,J,d,oY hB hX f⟩
def LR(τ:nR):(ts:List Ty)->List ResultVar->St->Option (dJ ts)
 |[],[],_=>K1 ()
 |t::ts,.tmp k::rs,s=>match ST s (Gj s [] (.tmp k)) t with
  |some q=>match cQ q.T q.f (.u K3),aa t q.T q.x,LR τ ts rs q.s with
   |true,K1 x,K1 xs=>K1 (x,xs)
   |_,_,_=>K2
  |none=>K2
 |t::ts,.cell k e::rs,s=>match s.get (.m k),τ e with
  |.box e0 U f y,K1 U'=>match(Lu k 1048576&&Lr (U=U'))&&cQ U f (.u K3),aa t U y,LR τ ts rs (ch s k (.box e0 U .d y))with
   |true,K1 x,K1 xs=>K1 (x,xs)
   |_,_,_=>K2
  |_,_=>K2
 |_,_,_=>K2
def BY(τ:nR)(ts:List Ty)(rs:List ResultVar):Exit->St->Option (dJ ts)|.ret,s|.normal,s=>LR τ ts rs s|_,_=>K2
def RV(hτ:τ.ok P):∀{ts:List Ty}{rs:List ResultVar}{s:St}{F:Bk->List Nat}{H:List Nat}{xs:dJ ts},R n W0 w X F H s a->LR τ ts rs s=K1 xs->
  ∃vs S,(rs.mapM (xH a)).run P w=.ok vs w/\xG w W0.B ts xs vs S/\S.Nodup/\ ∀b∈S,b∉H
 |[],[],s,F,H,xs,h,g=>⟨[],[],Ac,⟨rfl,rfl⟩,Ac,Ac⟩
 |t::ts,.tmp k::rs,s,F,H,xs,h,g=>by
  simp only[LR]at g;split at g
  ·rename_i q V;split at g
   ·rename_i x C o hx l;simp only[pB]at g;subst g;obtain⟨_,F1,i,r,W,Y,p,_,_⟩:=ff h dG V;obtain⟨rfl,rfl⟩:=nB hx;obtain⟨vs,S,Z,D,K,L⟩:=RV hτ p l;refine⟨_,i++S,?_,⟨r,vs,i,S,rfl,rfl,oY (.inr (Le _)) (.inl rfl) (by have:=re o Y;unfold TZ at this;exact this),D⟩,?_,?_⟩
    ·have E:(a.tmps.getD k undef)=Kx q.T r:=W;simp_all[xH]
    ·exact Lg.2 ⟨(Lg.1 p.pK).1,K,λx hx y z e=>L y z Af⟩
    ·intro b hb hH;rcases Mh.1 hb with hb|hb
     ·exact(Lg.1 p.pK).2.2 b hb b hH rfl
     simp_all
   ·cases g
  ·cases g
 |t::ts,.cell k e::rs,s,F,H,xs,h,g=>by
  simp only[LR]at g;split at g
  ·rename_i e' U f y U' M hU;split at g
   ·rename_i x C o hx l;simp only[pC,decide_eq_true_eq]at o;obtain⟨⟨G,rfl⟩,o⟩:=o;simp only[pB]at g;subst g;obtain⟨rfl,rfl⟩:=nB hx;have N:=h.slots (.m k);rw[M]at N;obtain⟨b,c,i,O,g2,Q,A⟩:=N;have v:=h.nodup (.m k);rw[g2]at v;have p:R n W0 w X (Xp F (.m k) [b]) (i++H) (ch s k (.box e' U .d x)) a:=by
     refine h.turn (S':=[b]) (H':=i++H) h.below (Le _) (λ_ _=>rfl) (λ_ _ _ _=>rfl) ?_ ?_ (by rw[M];simp) ?_ ?_
     ·simp_all
     ·have hd:∀I∈b::i,I∉H:=λI ab=>h.pL (.m k) I Af;refine Lg.2 ⟨Ac,Lg.2 ⟨(L5.1 v).2,h.pK,λx hx y z e=>hd x (by simp[hx]) (by rw[e];exact z)⟩,λx hx y z e=>?_⟩;simp_all
     ·grind
     ·exact⟨b,c,[],O,rfl,Q,by unfold TZ;exact⟨Kp A,rc A,rfl⟩⟩
    obtain⟨vs,S,Z,D,K,L⟩:=RV hτ p l;have ar:=p.pK;refine⟨_,i++S,?_,⟨c.toList,vs,i,S,rfl,rfl,oY (.inr (Le _)) (.inl rfl) (by have:=re o A;unfold TZ at this;exact this),D⟩,?_,?_⟩
    ·have E:(a.tmps.getD k undef)=.pointer (K1 ⟨b,0,K2⟩):=(Kz W0 a G).symm.trans O;have J:=(hτ _ _ hU).load (w:=w) (ad:=⟨b,0,K2⟩) (vs:=c.toList) (Kp A) (λj u hj=>by
      rw[p6 w Q,<-Array.getElem?_toList,Lx];exact hj)
     simp_all[xH,asAddr]
    all_goals grind
   ·cases g
  ·cases g
 |[],.tmp _::_,_,_,_,_,_,g|[],.cell .. ::_,_,_,_,_,_,g|_::_,[],_,_,_,_,_,g=>by simp[LR]at g
def Quh:(t:Ty)->t.den->Tm|.sptr _ t,x=>.shp t x|t,x=>.val t (.u K4) x
def Gs:(ts:List Ty)->dJ ts->Nat->List (Bk×Tm)|[],_,_=>[]|t::ts,x,i=>(.m i,Quh t x.1)::Gs ts x.2 (i+1)
def Gt(ts:List Ty)(x:dJ ts):St:={env:=Gs ts x 0,pP:=[]}
def Z20(a:Act):∀{ts:List Ty}{x:dJ ts}{vals pre:List La}{i:Nat},GC w X 0 ts x vals->pre.length=i->a.tmps.toList.take (pre.length+vals.length)=pre++vals->
  ∀k,vt W0.gh w X W0.B s F a (Xj W0.gh a k) [] (oq (Gs ts x i) k)/\(∀d j,k=.c d j->oq (Gs ts x i) k=.pR)
 |[],_,_,_,_,_,_,_,k=>⟨rfl,λ_ _ _=>rfl⟩
 |t::ts,x,vals,pre,i,h,o,E,k=>by
  obtain⟨g,p,rfl,n,q⟩:=h;have r:=Z20 a (pre:=pre++[Kx t g]) (i:=i+1) q (by simp[o]) Ai k;simp only[Gs,Ql];split
  ·rename_i e;subst e;refine⟨?_,λ_ _ v=>by simp at v⟩;have l:Xj W0.gh a (.m i)=Kx t g->vt W0.gh w X W0.B s F a (Xj W0.gh a (.m i)) [] (Quh t x.1):=λhv=>by
    have f:vt W0.gh w X W0.B s F a (Xj W0.gh a (.m i)) [] (.val t (.u K4) x.1):=⟨g,hv,by unfold TZ;exact oY (.inl rfl) (.inr λ_ h=>h) n⟩
    cases t with
    |sptr G H=>
     obtain⟨_,_,b,c,y,z,A,C⟩:=n;refine⟨rfl,⟨b,0,K2⟩,c.toList,by rw[hv,y];rfl,z,λj u D=>?_,oY (.inl rfl) (.inr λ_ h=>h) C⟩;rw[p6 w A,<-Array.getElem?_toList,Lx];exact D
    |_=>exact f
   refine l ?_;have:a.tmps.toList[i]? =K1 (Kx t g):=by
    have I:(a.tmps.toList.take (pre.length+(Kx t g::p).length))[i]? =K1 (Kx t g):=Af
    grind
   simp_all[Xj,zD]
  ·exact r
def Z54:∀{ts:List Ty}{x:dJ ts}{vs:List La},GC w X B ts x vs->vs.length=ts.length
 |[],_,_,h=>by rw[show _=[]from h];rfl
 |t::ts,x,vs,⟨_,a,e,_,h⟩=>by rw[e];simp[Z54 h]
def bQ.of{e:P3}(hC:C.ok P g)(hsf:C.soft=false:=by rfl)(hf:P.funcs[e.f]? =K1 fn)(hb:fn.body=K1 c)(hcall:∀args w,(callFunc e.f args).run P w=.ok (.enter e.f args) w)
  (hn:e.args.length<=fn.ntmps) (A:An (dJ e.res)) (hA:aW C fn.ntmps c A (BY C.τ e.res fn.results.toList))
  (hF:∀xs r,e.F xs=K1 r->Ji C fn.ntmps c A (BY C.τ e.res fn.results.toList) (Gt e.args xs)=K1 r):bQ P g e where
 enters:=hcall
 calls:=λw xs r a j hx q=>by
  have G:=Z54 hx;refine calls_of_wp hf hb ?_
  let a0:Act:={tmps:=a.toArray++Array.replicate (fn.ntmps-a.toArray.size) undef,defers:=[]}
  have t:R fn.ntmps (fW.plain g w (hC.soft.trans hsf)) w (· <w.heap.size) (λ_=>[]) [] (Gt e.args xs) a0:=by
   have l:=λk=>Z20 (W0:=fW.plain g w (hC.soft.trans hsf)) (s:=Gt e.args xs) (F:=λ_=>[]) a0 (pre:=[]) (i:=0) hx rfl (by simp[a0]) k;exact
    {size:=by simp[a0];omega
     defers:=rfl
     below:=⟨rfl,rfl,rfl,Le _,λ_ _=>rfl⟩
     glob:=j
     gx:=λb hb=>g.lt _ _ j hb
     xs:=λe=>L1 ((hC.soft.trans hsf).symm.trans e)
     fix:=λp m=>by cases m
     xlt:=λb hb=>hb
     xin:=λb hb=>.inl hb
     x0:=λb hb=>hb
     own:=Ac
     nodup:=Ac
     pS:=Ac
     hown:=Ac
     pK:=Ac
     pL:=Ac
     pM:=λd i u=>absurd ((l (.c d i)).2 d i rfl) u
     slots:=λk=>(l k).1}
  refine wp_mono (Iq hC (λp m=>by cases m) hA (hF xs r q) t) λx o n m=>?_;obtain⟨y,H,I,hk,h⟩:=m;have fin:LR C.τ e.res fn.results.toList y=K1 r->o.defers=[]/\ ∃v,(results fn o.tmps).run P n=.ok v n/\ ∃rs S,L9 v=.returned (ak rs)/\xG n w.heap.size e.res r rs S/\S.Nodup/\Below w.heap.size w n:=by
   intro hk;obtain⟨z,S,B,D,E,_⟩:=RV hC.τ h hk;exact⟨h.defers,_,DV B,z,S,rfl,D,E,h.below.os,h.below.tape,h.below.output,h.below.size,h.below.block⟩
  cases x with
  |normal=>exact fin hk
  |ret=>exact fin hk
  |_=>simp[BY]at hk
end
def O7:(as:List AK)->Sf as->Nat->List (Bk×Tm)|[],_,_=>[]|.sh t::r,x,i=>(.m i,.val t (.u K4) x.1)::O7 r x.2 (i+1)|.bx e t o::r,x,i=>(.m i,.box e t o x.1)::O7 r x.2 (i+1)|.mv t f::r,x,i=>(.m i,.val t f x.1)::O7 r x.2 (i+1)
def rU:List AK->Nat->List Nat|[],_=>[]|.sh _::r,i=>rU r (i+1)|.bx _ _ _::r,i=>i::rU r (i+1)|.mv .. ::r,i=>rU r (i+1)
def AB(as:List AK)(x:Sf as):St:={env:=O7 as x 0,pP:=[],pQ:=rU as 0}
def xY:List AK->List La->Nat->List (Nat×La)|.sh _::r,_::vs,i=>xY r vs (i+1)|.bx _ _ _::r,v::vs,i=>(i,v)::xY r vs (i+1)|.mv .. ::r,_::vs,i=>xY r vs (i+1)|_,_,_=>[]
def Eh(s:St):(as:List AK)->Nat->Option (BS as)
 |[],_=>K1 ()
 |.sh _::r,i=>Eh s r (i+1)
 |.bx e T o::r,i=>match s.get (.m i)with
  |.box e' U f y=>match Lc e' e&&HH o f U,aa T U y,Eh s r (i+1)with
   |true,K1 z,K1 zs=>K1 (z,zs)
   |_,_,_=>K2
  |_=>K2
 |.mv .. ::r,i=>Eh s r (i+1)
def O9:List AK->Nat->St->St|[],_,s=>s|.sh _::r,i,s=>O9 r (i+1) s|.bx _ _ o::r,i,s=>O9 r (i+1) (I6 s i o)|.mv .. ::r,i,s=>O9 r (i+1) s
def SJ(τ:nR):(ts:List Ty)->List ResultVar->St->Option (dJ ts×St)
 |[],[],s=>K1 ((),s)
 |t::ts,.tmp k::rs,s=>match ST s (Gj s [] (.tmp k)) t with
  |some q=>match cQ q.T q.f (.u K3),aa t q.T q.x,SJ τ ts rs q.s with
   |true,K1 x,K1 (xs,s')=>K1 ((x,xs),s')
   |_,_,_=>K2
  |none=>K2
 |t::ts,.cell k e::rs,s=>match s.get (.m k),τ e with
  |.box e0 U f y,K1 U'=>match(Lu k 1048576&&Lr (U=U'))&&cQ U f (.u K3),aa t U y,SJ τ ts rs (ch s k (.box e0 U .d y))with
   |true,K1 x,K1 (xs,s')=>K1 ((x,xs),s')
   |_,_,_=>K2
  |_,_=>K2
 |_,_,_=>K2
def T9(τ:nR):(ts:List Ty)->List ResultVar->St->Option (dJ ts)
 |[],[],_=>K1 ()
 |t::ts,.tmp k::rs,s=>match NA s (Gj s [] (.tmp k)) t,T9 τ ts rs s with
  |some x,K1 xs=>K1 (x,xs)
  |_,_=>K2
 |t::ts,.cell k e::rs,s=>match s.get (.m k),τ e with
  |.box _ U f y,K1 U'=>match(Lu k 1048576&&Lr (U=U'))&&vf f U,aa t U y,T9 τ ts rs s with
   |true,K1 x,K1 xs=>K1 (x,xs)
   |_,_,_=>K2
  |_,_=>K2
 |_,_,_=>K2
def S7(τ:nR):(ts:List (Ty×Fl))->List ResultVar->St->Option (cF ts×St)
 |[],[],s=>K1 ((),s)
 |t::ts,.tmp k::rs,s=>match ST s (Gj s [] (.tmp k)) t.1 with
  |some q=>match HH t.2 q.f q.T,aa t.1 q.T q.x,S7 τ ts rs q.s with
   |true,K1 x,K1 (xs,s')=>K1 ((x,xs),s')
   |_,_,_=>K2
  |none=>K2
 |t::ts,.cell k e::rs,s=>match s.get (.m k),τ e with
  |.box e0 U f y,K1 U'=>match(Lu k 1048576&&Lr (U=U'))&&HH t.2 f U,aa t.1 U y,S7 τ ts rs (ch s k (.box e0 U .d y))with
   |true,K1 x,K1 (xs,s')=>K1 ((x,xs),s')
   |_,_,_=>K2
  |_,_=>K2
 |_,_,_=>K2
def R8(ln:List Nat)(τ:nR):(r:RS)->List ResultVar->St->Option (IZ r×St)
 |.vals ts,rs,s=>SJ τ ts rs s
 |.newb e T,[.tmp k],s=>match SP (Gj s [] (.tmp k))with
  |some q=>match s.get (.m q)with
   |.box e' U f y=>match Lc e' e&&HH (.u K4) f U&& !(s.pQ.any (Lc q)),aa T U y with
    |true,K1 z=>K1 (z,s)
    |_,_=>K2
   |_=>K2
  |none=>K2
 |.newb _ _,_,_=>K2
 |.shr ts,rs,s=>match T9 τ ts rs s with
  |some x=>K1 (x,s)
  |none=>K2
 |.flg ts,rs,s=>S7 τ ts rs s
 |.fp T j p1 p2,[.tmp k],s=>match Gj s [] (.tmp k),ln[j]? with
  |.tm _ (.ptr q p),K1 q'=>match s.get (.m q),Lc q' q with
   |.box _ U _ _,K3=>match Lr (U=T),P2 p p1,P2 p p2 with
    |true,K3,_=>K1 (K3,s)
    |true,K4,K3=>K1 (K4,s)
    |_,_,_=>K2
   |_,_=>K2
  |_,_=>K2
 |.fp ..,_,_=>K2
def BH(τ:nR)(as:List AK)(r:RS)(rs:List ResultVar):Exit->St->Option (IZ r×BS as)
 |.ret,s|.normal,s=>match R8 (rU as 0) τ r rs (O9 as 0 s)with
  |some (x,s')=>match Eh s' as 0 with
   |some z=>K1 (x,z)
   |none=>K2
  |none=>K2
 |_,_=>K2
section
variable {P:Lf}{g:Jh}{W0:fW g}{w w':Lb}{X X':Nat->Prop}{B B' n:Nat}{own:Bool}{s s':St}{F:Bk->List Nat}{a:Act}{H H':List Nat}{o:Lh}{tg:Y7}{τ:nR}{C:DL}{gh:Nat->La}
def R.hperm(h:R n W0 w X F H s a)(hp:H'.Perm H):R n W0 w X F H' s a:=
 {h with
  hown:=λb c=>h.hown b (hp.mem_iff.1 c)
  pK:=hp.nodup_iff.2 h.pK
  pL:=λk b c d=>h.pL k b c (hp.mem_iff.1 d)}
def Sm(hτ:τ.ok P):∀{ts:List Ty}{rs:List ResultVar}{s:St}{F:Bk->List Nat}{H:List Nat}{xs:dJ ts}{s':St},R n W0 w X F H s a->SJ τ ts rs s=K1 (xs,s')->
  ∃vs S F',(rs.mapM (xH a)).run P w=.ok vs w/\xG w W0.B ts xs vs S/\R n W0 w X F' (S++H) s' a
 |[],[],s,F,H,xs,s',h,g=>by
  simp only[SJ,pB,pF]at g;obtain⟨_,rfl⟩:=g;exact⟨[],[],F,Ac,⟨rfl,rfl⟩,h⟩
 |t::ts,.tmp k::rs,s,F,H,xs,s',h,g=>by
  simp only[SJ]at g;split at g
  ·rename_i q Q;split at g
   ·rename_i x z V o hx l;simp only[pB,pF]at g;obtain⟨rfl,rfl⟩:=g;obtain⟨_,F1,i,p,W,Y,A,_,_⟩:=ff h dG Q;obtain⟨rfl,rfl⟩:=nB hx;obtain⟨vs,S,F',Z,C,D⟩:=Sm hτ A l;refine⟨_,i++S,F',?_,⟨p,vs,i,S,rfl,rfl,oY (.inr (Le _)) (.inl rfl) (by have:=re o Y;unfold TZ at this;exact this),C⟩,D.hperm ?_⟩
    ·have E:(a.tmps.getD k undef)=Kx q.T p:=W;simp_all[xH]
    grind
   ·cases g
  ·cases g
 |t::ts,.cell k e::rs,s,F,H,xs,s',h,g=>by
  simp only[SJ]at g;split at g
  ·rename_i e' U f y U' K hU;split at g
   ·rename_i x z V o hx l;simp only[pC,decide_eq_true_eq]at o;obtain⟨⟨G,rfl⟩,o⟩:=o;simp only[pB,pF]at g;obtain⟨rfl,rfl⟩:=g;obtain⟨rfl,rfl⟩:=nB hx;have L:=h.slots (.m k);rw[K]at L;obtain⟨b,c,i,M,g2,N,v⟩:=L;have r:=h.nodup (.m k);rw[g2]at r;have A:R n W0 w X (Xp F (.m k) [b]) (i++H) (ch s k (.box e' U .d x)) a:=by
     refine h.turn (S':=[b]) (H':=i++H) h.below (Le _) (λ_ _=>rfl) (λ_ _ _ _=>rfl) ?_ ?_ (by rw[K];simp) ?_ ?_
     ·simp_all
     ·have hd:∀I∈b::i,I∉H:=λI ab=>h.pL (.m k) I Af;refine Lg.2 ⟨Ac,Lg.2 ⟨(L5.1 r).2,h.pK,λx hx y O e=>hd x (by simp[hx]) (by rw[e];exact O)⟩,λx hx y O e=>?_⟩;simp_all
     ·grind
     ·exact⟨b,c,[],M,rfl,N,by unfold TZ;exact⟨Kp v,rc v,rfl⟩⟩
    obtain⟨vs,S,F',Z,C,D⟩:=Sm hτ A l;refine⟨_,i++S,F',?_,⟨c.toList,vs,i,S,rfl,rfl,oY (.inr (Le _)) (.inl rfl) (by have:=re o v;unfold TZ at this;exact this),C⟩,D.hperm ?_⟩
    ·have E:(a.tmps.getD k undef)=.pointer (K1 ⟨b,0,K2⟩):=(Kz W0 a G).symm.trans M;have J:=(hτ _ _ hU).load (w:=w) (ad:=⟨b,0,K2⟩) (vs:=c.toList) (Kp v) (λj u hj=>by
      rw[p6 w N,<-Array.getElem?_toList,Lx];exact hj)
     simp_all[xH,asAddr]
    grind
   ·cases g
  ·cases g
 |[],.tmp _::_,_,_,_,_,_,_,g|[],.cell .. ::_,_,_,_,_,_,_,g|_::_,[],_,_,_,_,_,_,g=>by simp[SJ]at g
def PJ(hτ:τ.ok P):∀{ts:List (Ty×Fl)}{rs:List ResultVar}{s:St}{F:Bk->List Nat}{H:List Nat}{xs:cF ts}{s':St},R n W0 w X F H s a->S7 τ ts rs s=K1 (xs,s')->
  ∃vs S F',(rs.mapM (xH a)).run P w=.ok vs w/\vD w X W0.B ts xs vs S/\R n W0 w X F' (S++H) s' a
 |[],[],s,F,H,xs,s',h,g=>by
  simp only[S7,pB,pF]at g;obtain⟨_,rfl⟩:=g;exact⟨[],[],F,Ac,⟨rfl,rfl⟩,h⟩
 |(t,Q)::ts,.tmp k::rs,s,F,H,xs,s',h,g=>by
  simp only[S7]at g;split at g
  ·rename_i q V;split at g
   ·rename_i x z W o hx l;simp only[pB,pF]at g;obtain⟨rfl,rfl⟩:=g;obtain⟨_,F1,i,p,Y,Z,A,_,_⟩:=ff h dG V;obtain⟨rfl,rfl⟩:=nB hx;obtain⟨vs,S,F',k1,C,D⟩:=PJ hτ A l;refine⟨_,i++S,F',?_,⟨p,vs,i,S,rfl,rfl,LX o Z,C⟩,D.hperm ?_⟩
    ·have E:(a.tmps.getD k undef)=Kx q.T p:=Y;simp_all[xH]
    grind
   ·cases g
  ·cases g
 |(t,Q)::ts,.cell k e::rs,s,F,H,xs,s',h,g=>by
  simp only[S7]at g;split at g
  ·rename_i e' U f y U' K hU;split at g
   ·rename_i x z W o hx l;simp only[pC,decide_eq_true_eq]at o;obtain⟨⟨G,rfl⟩,o⟩:=o;simp only[pB,pF]at g;obtain⟨rfl,rfl⟩:=g;obtain⟨rfl,rfl⟩:=nB hx;have L:=h.slots (.m k);rw[K]at L;obtain⟨b,c,i,M,g2,N,v⟩:=L;have r:=h.nodup (.m k);rw[g2]at r;have A:R n W0 w X (Xp F (.m k) [b]) (i++H) (ch s k (.box e' U .d x)) a:=by
     refine h.turn (S':=[b]) (H':=i++H) h.below (Le _) (λ_ _=>rfl) (λ_ _ _ _=>rfl) ?_ ?_ (by rw[K];simp) ?_ ?_
     ·simp_all
     ·have hd:∀I∈b::i,I∉H:=λI ab=>h.pL (.m k) I Af;refine Lg.2 ⟨Ac,Lg.2 ⟨(L5.1 r).2,h.pK,λx hx y O e=>hd x (by simp[hx]) (by rw[e];exact O)⟩,λx hx y O e=>?_⟩;simp_all
     ·grind
     ·exact⟨b,c,[],M,rfl,N,by unfold TZ;exact⟨Kp v,rc v,rfl⟩⟩
    obtain⟨vs,S,F',k1,C,D⟩:=PJ hτ A l;refine⟨_,i++S,F',?_,⟨c.toList,vs,i,S,rfl,rfl,LX o v,C⟩,D.hperm ?_⟩
    ·have E:(a.tmps.getD k undef)=.pointer (K1 ⟨b,0,K2⟩):=(Kz W0 a G).symm.trans M;have J:=(hτ _ _ hU).load (w:=w) (ad:=⟨b,0,K2⟩) (vs:=c.toList) (Kp v) (λj u hj=>by
      rw[p6 w N,<-Array.getElem?_toList,Lx];exact hj)
     simp_all[xH,asAddr]
    grind
   ·cases g
  ·cases g
 |[],.tmp _::_,_,_,_,_,_,_,g|[],.cell .. ::_,_,_,_,_,_,_,g|_::_,[],_,_,_,_,_,_,g=>by simp[S7]at g
def Ow(hτ:τ.ok P)(h:R n W0 w X F H s a):∀{ts:List Ty}{rs:List ResultVar}{xs:dJ ts},T9 τ ts rs s=K1 xs->
  ∃vs,(rs.mapM (xH a)).run P w=.ok vs w/\Og w X ts xs vs
 |[],[],xs,d=>⟨[],Ac,rfl⟩
 |t::ts,.tmp k::rs,xs,d=>by
  simp only[T9]at d;split at d
  ·rename_i x p hx g;simp only[pB]at d;subst d;obtain⟨A,D,E⟩:=Bb h (x:=.tmp k) hx;obtain⟨vs,G,q⟩:=Ow hτ h g;refine⟨_,?_,A,vs,rfl,E,q⟩;have r:(a.tmps.getD k undef)=Kx t A:=D;simp_all[xH]
  ·cases d
 |t::ts,.cell k e::rs,xs,d=>by
  simp only[T9]at d;split at d
  ·rename_i Q U f y S I J;split at d
   ·rename_i x p l hx g;simp only[pC,decide_eq_true_eq]at l;obtain⟨⟨v,rfl⟩,l⟩:=l;simp only[pB]at d;subst d;obtain⟨rfl,rfl⟩:=nB hx;have B:=h.slots (.m k);rw[I]at B;obtain⟨b,c,K,L,V,M,C⟩:=B;have i:=LX (o:=.u K4) l C;unfold TZ at i;have N:K=[]:=nN i;subst N;obtain⟨vs,G,q⟩:=Ow hτ h g;refine⟨_,?_,c.toList,vs,rfl,dd i Ac,q⟩;have r:(a.tmps.getD k undef)=.pointer (K1 ⟨b,0,K2⟩):=(Kz W0 a v).symm.trans L;have z:=(hτ _ _ J).load (w:=w) (ad:=⟨b,0,K2⟩) (vs:=c.toList) (Kp C) (λj u O=>by
     rw[p6 w M,<-Array.getElem?_toList,Lx];exact O)
    simp_all[xH,asAddr]
   ·cases d
  ·cases d
 |[],.tmp _::_,_,d|[],.cell .. ::_,_,d|_::_,[],_,d=>by simp[T9]at d
def Qa1(hτ:τ.ok P)(h:R n W0 w X F [] s a)(hB:W0.B=0)(hr:R8 ln τ r rs s=K1 (x,s')):
  ∃vs S F',(rs.mapM (xH a)).run P w=.ok vs w/\Ie w X r x vs S/\R n W0 w X F' [] s' a/\S.Nodup/\(∀b,b∈S->W0.mine b/\b<w.heap.size/\ ¬X b)/\ ∀i,i∈s'.pQ-> ∀b,b∈S->b∉F' (.m i):=by
 cases r with
 |vals A=>
  obtain⟨vs,S,F',u,l,g⟩:=Sm hτ h (show SJ τ A rs s=K1 (x,s')from hr);rw[hB]at l;exact⟨vs,S,F',u,l,g.drop,(by simpa using g.pK),λb o=>g.hown b (by simp[o]),λi _ b o v=>g.pL _ b v (by simp[o])⟩
 |newb e T=>
  match rs,hr with
  |[],hr=>cases hr
  |[.cell ..,.cell ..],hr=>cases hr
  |[.cell ..,.tmp _],hr=>cases hr
  |[.cell ..],hr=>cases hr
  |.tmp _::_::_,hr=>cases hr
  |.cell .. ::_::_::_,hr=>cases hr
  |[.tmp k],hr=>
   simp only[R8]at hr;split at hr
   ·rename_i q L;split at hr
    ·rename_i e' U f y J;split at hr
     ·rename_i z p M;simp only[pC,L2]at p;simp only[pB,pF]at hr;obtain⟨D,rfl⟩:=hr;have t:x=z:=D.symm;subst t;have N:=pD p.1.1;subst N;obtain⟨rfl,rfl⟩:=nB M;have E:=Si h L J;have C:=h.slots (.m q);rw[J]at C;obtain⟨b,c,S,O,K,Q,V⟩:=C;have G:=LX p.1.2 V;unfold TZ at G;have W:S=[]:=nN G;subst W;refine⟨[.pointer (K1 ⟨b,0,K2⟩)],[b],F,?_,⟨b,c,rfl,rfl,Q,oY (.inl rfl) (.inr λ_ h=>h) G⟩,h,Ac,?_,?_⟩
      ·have Y:(a.tmps.getD k undef)=.pointer (K1 ⟨b,0,K2⟩):=by
        have:a.eval (.tmp k)=_:=E;rw[O]at this;exact this
       simp_all[xH]
      ·intro H d;simp only[Mi]at d;subst d;exact h.own (.m q) H (by rw[K];simp)
      ·intro i hi H d v;simp only[Mi]at d;subst d;have:=h.pS (.m q) (.m i) H (by rw[K];simp) v;simp_all
     ·cases hr
    ·cases hr
   ·cases hr
 |shr A=>
  simp only[R8]at hr;split at hr
  ·rename_i Z hx;simp only[pB,pF]at hr;obtain⟨I,rfl⟩:=hr;have t:x=Z:=I.symm;subst t;obtain⟨vs,u,l⟩:=Ow hτ h hx;exact⟨vs,[],F,u,⟨rfl,l⟩,h,Ac,Ac,Ac⟩
  ·cases hr
 |flg A=>
  obtain⟨vs,S,F',u,l,g⟩:=PJ hτ h (show S7 τ A rs s=K1 (x,s')from hr);rw[hB]at l;exact⟨vs,S,F',u,l,g.drop,(by simpa using g.pK),λb o=>g.hown b (by simp[o]),λi _ b o v=>g.pL _ b v (by simp[o])⟩
 |fp T j p1 p2=>
  match rs,hr with
  |[],hr=>cases hr
  |[.cell ..,.cell ..],hr=>cases hr
  |[.cell ..,.tmp _],hr=>cases hr
  |[.cell ..],hr=>cases hr
  |.tmp _::_::_,hr=>cases hr
  |.cell .. ::_::_::_,hr=>cases hr
  |[.tmp k],hr=>
   have C:s'=s:=by
    grind[R8]
   subst C;exact⟨[a.tmps.getD k undef],[],F,by rfl,rfl,h,Ac,Ac,Ac⟩
def Qw4(h:R n W0 w X F H s a)(hr:R8 ln τ r rs s=K1 (x,s')){vs:List La}(hv:(rs.mapM (xH a)).run P w=.ok vs w)
  {BL:List Nat} (hb:∀(j q:Nat),ln[j]? =K1 q-> ∃b,BL[j]? =K1 b/\Xj W0.gh a (.m q)=.pointer (K1 ⟨b,0,K2⟩)):U8 r x vs BL:=by
 cases r with
 |fp T j J K=>
  match rs,hr with
  |[],hr=>cases hr
  |[.cell ..,.cell ..],hr=>cases hr
  |[.cell ..,.tmp _],hr=>cases hr
  |[.cell ..],hr=>cases hr
  |.tmp _::_::_,hr=>cases hr
  |.cell .. ::_::_::_,hr=>cases hr
  |[.tmp k],hr=>
   simp only[R8]at hr;split at hr
   ·rename_i L q p l hx B;split at hr
    ·rename_i e U f y o d;have d:=pD d;subst d;obtain⟨t,M,N,O,Q,V,b,S,u,C,D⟩:=Vu h dG hx Ac;simp only[Operand.tmp.injEq]at t;subst t;rw[o]at u;cases u;have v:=h.slots (.m l);rw[o]at v;obtain⟨W,Y,Z,E,z,g3,g4⟩:=v;rw[C]at z;obtain⟨rfl,_⟩:=List.cons.inj z;obtain⟨b4,A,g⟩:=hb j l B;rw[E]at g;simp only[Mn,pB,Ll.mk.injEq,and_true]at g;subst g;have i:(a.tmps.getD k undef)=.pointer (K1 ⟨b,ai U p,K2⟩):=D;simp only[List.mapM_cons,List.mapM_nil,xH,Sem.run_bind,Sem.run_pure,Result.andThen_ok,i,Result.ok.injEq,and_true]at hv;subst hv;split at hr
     ·rename_i c G;have c:=pE c;subst c;simp only[pB,pF]at hr;obtain⟨rfl,rfl⟩:=hr;exact⟨b,A,by grind[FO]⟩
     ·rename_i c I G;have c:=pE c;subst c;simp only[pB,pF]at hr;obtain⟨rfl,rfl⟩:=hr;exact⟨b,A,by grind[FO]⟩
     ·cases hr
    ·cases hr
   ·cases hr
 |_=>trivial
theorem Tw:∀{as:List AK}{x:BS as}{vals:List La}{BL C:List Nat}{i j q:Nat},G3 w X as x vals BL C->(rU as i)[j]? =K1 q-> ∃b,BL[j]? =K1 b/\(q,Mk (K1 ⟨b,0,K2⟩))∈xY as vals i
 |[],_,_,_,_,_,_,_,_,a=>by grind[rU]
 |.sh _::r,_,_,_,_,i,j,q,⟨v,d,e,h⟩,a=>by
  subst e;exact Tw (as:=r) (i:=i+1) h a
 |.mv .. ::r,_,_,_,_,i,j,q,⟨v,d,e,h⟩,a=>by
  subst e;exact Tw (as:=r) (i:=i+1) h a
 |.bx _ _ _::r,_,_,_,_,i,j,q,⟨b,c,S,d,f,l,g,k,m,_,_,h⟩,a=>by
  subst g;subst k;cases j with
  |zero=>
   simp_all[rU,xY]
  |succ j=>
   simp only[rU,List.getElem?_cons_succ]at a;obtain⟨n,o,p⟩:=Tw (as:=r) (i:=i+1) h a;simp_all[xY]
def Da(h:R n W0 w X F H s a)(hB:W0.B=0):∀{as:List AK}{vals:List La}{i:Nat}{z:BS as},Eh s as i=K1 z->vals.length=as.length->(∀p,p∈xY as vals i->Xj W0.gh a (.m p.1)=p.2)->
  ∃BL C,G3 w X as z vals BL C/\(BL++C).Nodup/\ ∀b,b∈BL++C-> ∃j,i<=j/\j∈rU as i/\b∈F (.m j)
 |[],vals,i,z,d,g,_=>⟨[],[],⟨Me g,rfl,rfl⟩,Ac,Ac⟩
 |.sh t::r,[],i,z,d,g,_=>by simp at g
 |.bx .. ::r,[],i,z,d,g,_=>by simp at g
 |.mv .. ::r,[],i,z,d,g,_=>by simp at g
 |.mv t f::r,v::vals,i,z,d,g,l=>by
  obtain⟨BL,C,q,D,u⟩:=Da h hB (as:=r) (vals:=vals) (i:=i+1) d (by simpa using g) l;exact⟨BL,C,⟨v,vals,rfl,q⟩,D,λb E=>let⟨j,L,k2,x⟩:=u b E;⟨j,Aa,k2,x⟩⟩
 |.sh t::r,v::vals,i,z,d,g,l=>by
  obtain⟨BL,C,q,D,u⟩:=Da h hB (as:=r) (vals:=vals) (i:=i+1) d (by simpa using g) l;exact⟨BL,C,⟨v,vals,rfl,q⟩,D,λb E=>let⟨j,L,k2,x⟩:=u b E;⟨j,Aa,k2,x⟩⟩
 |.bx e T o::r,v::vals,i,z,d,g,l=>by
  simp only[Eh]at d;split at d
  ·rename_i Z U f y P;split at d
   ·rename_i z1 z2 A G I;simp only[pB]at d;subst d;simp only[pC]at A;have Q:=pD A.1;subst Q;obtain⟨rfl,rfl⟩:=nB G;obtain⟨BL,C,q,D,u⟩:=Da h hB (as:=r) (vals:=vals) (i:=i+1) I (by simpa using g) (λp V=>l p (by simp[xY,V]));have M:=h.slots (.m i);rw[P]at M;obtain⟨b,c,S,g1,W,Y,g4⟩:=M;have hv:v=.pointer (K1 ⟨b,0,K2⟩):=by simp_all[xY]
    have N:∀k,k∈b::S->k∉BL++C:=λk J O=>by
     obtain⟨j,L,_,x⟩:=u k O;have:=h.pS (.m i) (.m j) k Af x
     grind
    have K:=h.nodup (.m i);rw[W]at K;refine⟨b::BL,S++C,⟨b,c,S,vals,BL,C,by rw[hv],rfl,rfl,Y,?_,q⟩,?_,?_⟩
    ·grind[LX]
    ·grind
    ·intro k J;by_cases O:k∈BL++C
     ·grind[rU]
     ·refine⟨i,Le _,by simp[rU],?_⟩;simp_all
   ·cases d
  ·cases d
def C6:∀{as:List AK}{x:Sf as}{vals:List La}{L:List Nat},Hq w X as x vals L->vals.length=as.length
 |[],_,_,_,h=>by simp[h.1]
 |.sh t::r,_,_,_,⟨_,_,e,_,h⟩=>by simp[e,C6 h]
 |.bx .. ::r,_,_,_,⟨_,_,_,_,_,e,_,_,_,h⟩=>by simp[e,C6 h]
 |.mv .. ::r,_,_,_,⟨_,_,_,_,e,_,_,h⟩=>by simp[e,C6 h]
theorem On:∀{as:List AK}{vals:List La}{i:Nat}{p:Nat×La},p∈xY as vals i->p.1∈rU as i/\i<=p.1
 |[],_,_,_,h=>by simp[xY]at h
 |.sh t::r,[],_,_,h=>by simp[xY]at h
 |.bx .. ::r,[],_,_,h=>by simp[xY]at h
 |.mv .. ::r,[],_,_,h=>by simp[xY]at h
 |.mv t f::r,v::vals,i,p,h=>let⟨a,b⟩:=On (as:=r) h;⟨a,Aa⟩
 |.sh t::r,v::vals,i,p,h=>let⟨a,b⟩:=On (as:=r) h;⟨a,Aa⟩
 |.bx .. ::r,v::vals,i,p,h=>by
  simp only[xY,Lo]at h;rcases h with rfl|h
  ·simp_all[rU]
  ·obtain⟨a,b⟩:=On h
   grind[rU]
def NB(a:Act):∀{as:List AK}{x:Sf as}{vals pre:List La}{i:Nat}{L:List Nat},Hq w X as x vals L->pre.length=i->a.tmps.toList.take (pre.length+vals.length)=pre++vals->L.Nodup->
  ∃F0:Bk->List Nat,(∀k,(F0 k).Nodup/\ ∀b,b∈F0 k->b∈L)/\(∀k k' b,b∈F0 k->b∈F0 k'->k=k')/\(∀k b,b∈F0 k-> ∃j,i<=j/\k=.m j)/\
   (∀p,p∈xY as vals i->Xj gh a (.m p.1)=p.2)/\ ∀(s:St)(F:Bk->List Nat)(k:Bk),vt gh w X 0 s F a (Xj gh a k) (F0 k) (oq (O7 as x i) k)/\(∀d j,k=.c d j->oq (O7 as x i) k=.pR)
 |[],_,_,_,i,_,⟨U,V⟩,_,_,_=>by
  subst U;subst V;exact⟨λ_=>[],Ac,Ac,Ac,by simp[xY],λ_ _ _=>⟨rfl,λ_ _ _=>rfl⟩⟩
 |.sh t::r,x,vals,pre,i,L,h,u,P,v=>by
  obtain⟨l,y,rfl,B,D⟩:=h;obtain⟨F0,E,G,H,C,z⟩:=NB a (pre:=pre++[Kx t l]) (i:=i+1) D (by simp[u]) Ai v;have I:F0 (.m i)=[]:=List.eq_nil_iff_forall_not_mem.2 λb n=>by
   grind
  refine⟨F0,E,G,λk b n=>let⟨j,j1,j2⟩:=H k b n;⟨j,Aa,j2⟩,C,λs F k=>?_⟩;simp only[O7,Ql];split
  ·rename_i e;subst e;rw[I];refine⟨⟨l,?_,Ao⟩,λ_ _ A=>by simp at A⟩;have:a.tmps.toList[i]? =K1 (Kx t l):=by
    have q:(a.tmps.toList.take (pre.length+(Kx t l::y).length))[i]? =K1 (Kx t l):=Af
    grind
   simp_all[Xj,zD]
  ·exact z s F k
 |.bx e t o::r,x,vals,pre,i,L,h,u,P,v=>by
  obtain⟨b,c,S,y,Q,rfl,rfl,B,D,q⟩:=h;have J:(b::S++Q).Nodup:=by simpa using v
  obtain⟨W,K,Y⟩:=Lg.1 J;obtain⟨F0,E,G,H,C,z⟩:=NB a (pre:=pre++[.pointer (K1 ⟨b,0,K2⟩)]) (i:=i+1) q (by simp[u]) Ai K;have g:Xj gh a (.m i)=.pointer (K1 ⟨b,0,K2⟩):=by
   have:a.tmps.toList[i]? =K1 (.pointer (K1 ⟨b,0,K2⟩)):=by
    have q:(a.tmps.toList.take (pre.length+(Mk (K1 ⟨b,0,K2⟩)::y).length))[i]? =K1 (.pointer (K1 ⟨b,0,K2⟩)):=Af
    grind
   simp_all[Xj,zD]
  refine⟨λk=>ite (k=.m i) (b::S) (F0 k),λk=>?_,λk k' M n N=>?_,λk M n=>?_,λp O=>?_,λs F k=>?_⟩
  ·grind
  ·grind
  ·grind
  ·simp only[xY,Lo]at O
   grind
  ·simp only[O7,Ql];by_cases hk:k=.m i
   ·subst hk;simp only[if_true];exact⟨⟨b,c,S,g,rfl,B,D⟩,λ_ _ A=>by simp at A⟩
   ·rw[if_neg (Ne.symm hk),if_neg hk];exact z s F k
 |.mv t f::r,x,vals,pre,i,L,h,u,P,v=>by
  obtain⟨l,S,y,Q,rfl,rfl,B,q⟩:=h;obtain⟨W,K,Y⟩:=Lg.1 v;obtain⟨F0,E,G,H,C,z⟩:=NB a (pre:=pre++[Kx t l]) (i:=i+1) q (by simp[u]) Ai K;have g:Xj gh a (.m i)=Kx t l:=by
   have:a.tmps.toList[i]? =K1 (Kx t l):=by
    have q:(a.tmps.toList.take (pre.length+(Kx t l::y).length))[i]? =K1 (Kx t l):=Af
    grind
   simp_all[Xj,zD]
  refine⟨λk=>ite (k=.m i) S (F0 k),λk=>?_,λk k' M n N=>?_,λk M n=>?_,C,λs F k=>?_⟩
  ·grind
  ·grind
  ·grind
  ·simp only[O7,Ql];by_cases hk:k=.m i
   ·subst hk;simp only[if_true];exact⟨⟨l,g,B⟩,λ_ _ A=>by simp at A⟩
   ·rw[if_neg (Ne.symm hk),if_neg hk];exact z s F k
def rn(hs0:g.soft=K4):∀{as:List AK}{i:Nat}{s:St}{X:Nat->Prop}{F:Bk->List Nat},R n W0 w X F H s a-> ∃X' F',R n W0 w X' F' H (O9 as i s) a
 |[],_,s,X,F,h=>⟨X,F,h⟩
 |.sh _::r,_,s,X,F,h=>rn hs0 (as:=r) h
 |.mv .. ::r,_,s,X,F,h=>rn hs0 (as:=r) h
 |.bx _ _ o::r,i,s,X,F,h=>by
  obtain⟨c,d,b⟩:=MG hs0 h i o;exact rn hs0 (as:=r) b
def zY.of{e:BW}(hC:C.ok P g)(hsf:C.soft=false:=by rfl)(hlent:C.pQ=rU e.args 0)(hf:P.funcs[e.f]? =K1 fn)(hb:fn.body=K1 c)(hcall:∀args w,(callFunc e.f args).run P w=.ok (.enter e.f args) w)
  (hn:e.args.length<=fn.ntmps) (A:An (IZ e.res×BS e.args)) (hA:aW C fn.ntmps c A (BH C.τ e.args e.res fn.results.toList))
  (hF:∀xs r,e.F xs=K1 r->Ji C fn.ntmps c A (BH C.τ e.args e.res fn.results.toList) (AB e.args xs)=K1 r):zY P g e where
 enters:=hcall
 calls:=λw X L xs r l J K M hL N hx hr=>by
  have hl:=C6 hx;refine calls_of_wp hf hb ?_
  let a0:Act:={tmps:=l.toArray++Array.replicate (fn.ntmps-l.toArray.size) undef,defers:=[]}
  let z:fW g:={W:=w,B:=0,Y:=λb=>b<w.heap.size/\b∉L,L:=(· ∈L),X0:=X,fix:=xY e.args l 0,bB:=Nat.zero_le _,fr:=λe=>L1 ((hC.soft.trans hsf).symm.trans e),yW:=λ_ h=>h.1,yL:=λ_ h O=>h.2 O}
  obtain⟨Q,k1,k2,k3,k4,k5⟩:=NB a0 (pre:=[]) (i:=0) hx rfl (by simp[a0]) N;have h0:R fn.ntmps z w X Q [] (AB e.args xs) a0:=
   {size:=by simp[a0];omega
    defers:=rfl
    below:=⟨rfl,rfl,rfl,Le _,λ_ _=>rfl⟩
    glob:=J
    gx:=K
    xs:=λe=>L1 ((hC.soft.trans hsf).symm.trans e)
    fix:=λp u=>⟨(On u).1,k4 p u⟩
    xlt:=M
    xin:=λb hb=>.inl hb
    x0:=λb hb=>hb
    own:=λk b hb=>let h:=(k1 k).2 b hb;⟨.inr h,(hL b h).2,(hL b h).1⟩
    nodup:=λk=>(k1 k).1
    pS:=k2
    hown:=Ac
    pK:=Ac
    pL:=Ac
    pM:=λd i hc=>absurd ((k5 (AB e.args xs) Q (.c d i)).2 d i rfl) hc
    slots:=λk=>(k5 (AB e.args xs) Q k).1}
  refine wp_mono (Iq hC (λp u=>by grind[On]) hA (hF xs r hr) h0) λex U E u=>?_;obtain⟨s',D,F',hk,s⟩:=u;obtain⟨D,F',s⟩:=rn (hC.soft.trans hsf) (as:=e.args) (i:=0) s;have fin:BH C.τ e.args e.res fn.results.toList .ret s'=K1 r->U.defers=[]/\ ∃v',(results fn U.tmps).run P E=.ok v' E/\ ∃rs S G C D,L9 v'=.returned (ak rs)/\MX w E X D L (S++(G++C))/\Ie E D e.res r.1 rs S/\G3 E D e.args r.2 l G C/\U8 e.res r.1 rs G:=by
   intro hk;simp only[BH]at hk;split at hk
   ·rename_i x s2 H;split at hk
    ·rename_i zz hz;simp only[pB]at hk;subst hk;obtain⟨vs,S,F2,m1,m2,V,m4,m5,m6⟩:=Qa1 hC.τ s rfl H;have Z:∀p,p∈xY e.args l 0->p.1∈s2.pQ/\Xj z.gh U (.m p.1)=p.2:=λp u=>V.fix p u;obtain⟨G,C,n1,n2,n3⟩:=Da V rfl hz hl (λp u=>(Z p u).2);have n:∀{as:List AK}{l:List La}{i j:Nat},l.length=as.length->j∈rU as i-> ∃v,(j,v)∈xY as l i:=by
      intro as
      induction as with
      |nil=>simp_all[rU]
      |cons a as ih=>
       intro l i j n hj;cases l with
       |nil=>simp at n
       |cons v l=>
        cases a with
        |sh t=>exact ih (by simpa using n) hj
        |mv t=>exact ih (by simpa using n) hj
        |bx e t o=>
         simp only[rU,Lo]at hj;rcases hj with rfl|hj
         ·simp[xY]
         grind[xY]
     have I:∀b,b∈S++(G++C)->z.mine b/\b<E.heap.size/\ ¬D b:=λb hb=>by
      rcases Mh.1 hb with hb|hb
      ·exact m5 b hb
      ·obtain⟨j,_,_,j3⟩:=n3 b hb;exact V.own _ b j3
     refine⟨s.defers,_,DV m1,vs,S,G,C,D,rfl,⟨s.below.os,s.below.tape,s.below.output,s.below.size,?_,s.xlt,?_,?_,?_,λb hb O=>s.below.block b ⟨hb,O⟩⟩,m2,n1,Qw4 s H m1 λj q hq=>?_⟩
     ·intro b hb;exact s.x0 b hb
     ·intro b hb;exact(s.xin b hb).imp id λh=>h
     ·exact Lg.2 ⟨m4,n2,λx hx y hy e=>by
       grind⟩
     ·intro b hb;obtain⟨g1,g2,g3⟩:=I b hb;exact⟨g1,g2,g3⟩
     grind[Tw]
    ·cases hk
   ·cases hk
  cases ex with
  |normal=>exact fin hk
  |ret=>exact fin hk
  |_=>simp[BH]at hk
end
section
variable {P:Lf}{g:Jh}{w w':Lb}{X X':Nat->Prop}{s s':St}{F:Bk->List Nat}{a:Act}{C:DL}
def Q7:True:=trivial
end
def Sx:List (Nat×Ty)->Nat->Option Ty
 |[],_=>K2
 |(k,t)::r,e=>match Lc k e with|true=>K1 t|false=>Sx r e
def Yh(fn:Func):Li:=match fn.body with|some c=>c|none=>.skip
section
variable {P:Lf}
def FJ(P:Lf)(l:List (Nat×Ty)):Prop:= ∀e T,Sx l e=K1 T->Uy P e T
def Qto:FJ P []:=λ_ _ h=>by cases h
def Yy{e:Nat}{T:Ty}{l:List (Nat×Ty)}(h:Uy P e T)(hl:FJ P l):FJ P ((e,T)::l):=λb c a=>by
 simp only[Sx]at a;split at a
 ·simp_all
 ·exact hl b c a
def IS(P:Lf)(τ:nR)(l:List Nat):Prop:= ∀e T,l.any (Lc e)=K3->τ e=K1 T->II P e T
def Qr3:IS P τ []:=λ_ _ h _=>by cases h
def z5{e:Nat}{T:Ty}{l:List Nat}(h:II P e T)(hT:τ e=K1 T)(hl:IS P τ l):IS P τ (e::l):=λb c h' a=>by
 simp only[Mc,Bool.or_eq_true]at h';rcases h' with h'|h'
 ·simp_all
 ·exact hl b c h' a
def Q6:qK.ok [] P g:=λ_ h=>by cases h
def Qle{e:Hl}{Γ:qK}(h:Pb P g e)(hΓ:Γ.ok P g):qK.ok (e::Γ) P g:=λa h'=>by
 rcases Lo.1 h' with rfl|h'
 ·exact h
 ·exact hΓ a h'
def Ze:Il.ok [] P g:=λ_ h=>by cases h
def Zt{e:BW}{Γ:Il}(h:zY P g e)(hΓ:Γ.ok P g):Il.ok (e::Γ) P g:=λa h'=>by
 rcases Lo.1 h' with rfl|h'
 ·exact h
 ·exact hΓ a h'
def Xf:Tl.ok [] P g:=λ_ h=>by cases h
def Qp{e:py}{Γ:Tl}(h:Yx P g e)(hΓ:Γ.ok P g):Tl.ok (e::Γ) P g:=λa h'=>by
 rcases Lo.1 h' with rfl|h'
 ·exact h
 ·exact hΓ a h'
def Zg:IC.ok [] P g:=λ_ h=>by cases h
def Za{e:P3}{Γ:IC}(h:bQ P g e)(hΓ:Γ.ok P g):IC.ok (e::Γ) P g:=λa h'=>by
 rcases Lo.1 h' with rfl|h'
 ·exact h
 ·exact hΓ a h'
end
open Go.RowKit Go.ChangeShapes Go.WideShapes Go.ChangeAt
open Go.ChangeMaps (open_string shut_string)
def al(P:Lf):Ty->Ld->List Field->Nat->Bool->Bool
 |.int k,e,_,_,K3=>match P.underlying e with|some (.int k')=>Lr (k'=k)&&Lc (P.cellsOf e) 1|_=>K4
 |.bool,e,_,_,K3=>match P.underlying e with|some .bool=>Lc (P.cellsOf e) 1|_=>K4
 |.str,e,_,_,K3=>match P.underlying e with|some .string=>Lc (P.cellsOf e) 1|_=>K4
 |.fnc _,_,_,_,_=>K4
 |.err,_,_,_,_=>K4
 |.hid _,_,_,_,_=>K4
 |.sptr ..,_,_,_,_=>K4
 |.clo ..,_,_,_,_=>K4
 |.slice e' t,e,_,_,K3=>match P.underlying e with
  |some (.slice e2)=>Lc e2 e'&&Lc (P.cellsOf e) 1&&Lc (P.cellsOf e') t.size&&Lu 0 t.size&&al P t e' [] 0 K3
  |_=>K4
 |.arr n t,e,_,_,K3=>match P.underlying e with
  |some (.array m e2)=>Lc m n&&Lc (P.cellsOf e) (n*t.size)&&Lc (P.cellsOf e2) t.size&&al P t e2 [] 0 K3
  |_=>K4
 |.unit,e,_,_,K3=>match P.underlying e with
  |some (.struct fs)=>fs.toList.isEmpty&&Lc (P.cellsOf e) 0
  |_=>K4
 |.pair a b,e,_,_,K3=>match P.underlying e with
  |some (.struct fs)=>match fs.toList with
   |f::r=>Lc (P.cellsOf e) (a.size+b.size)&&Lc f.offset 0&&Lc (P.cellsOf f.type) a.size&&al P a f.type [] 0 K3&&al P b 0 r a.size K4
   |[]=>K4
  |_=>K4
 |.unit,_,fs,_,K4=>fs.isEmpty
 |.pair a b,_,fs,off,K4=>match fs with
  |f::r=>Lc f.offset off&&Lc (P.cellsOf f.type) a.size&&al P a f.type [] 0 K3&&al P b 0 r (off+a.size) K4
  |[]=>K4
 |_,_,_,_,K4=>K4
def wf:(T:Ty)->T.den->Prop|.unit,_=>True|.int k,x=>(Lit.int k x).wf=K3|.bool,_=>True|.fnc _,_=>True|.err,_=>True|.hid _,_=>True|.sptr ..,_=>True|.clo ..,_=>True|.str,x=>x.length<=maxLen|.slice _ t,x=>x.length<=maxLen/\ ∀y∈x,wf t y|.pair a b,x=>wf a x.1/\wf b x.2|.arr n t,x=>x.length=n/\ ∀y∈x,wf t y
section
variable {H:Type}{enc:Ld×La->H}{P:Lf}{w:Lb}{sp:Nat->Bool}{held:Bool}
def p5{α:Type}{r:α->List La->List Nat->Prop}{q:α->Prop}{sz:Nat}:∀{n:Nat}{cs:List La},cs.length=n*sz->
  (∀i,i<n-> ∃x,r x ((cs.drop (i*sz)).take sz) []/\q x)-> ∃l,l.length=n/\dY r l cs []/\ ∀y∈l,q y
 |0,cs,a,_=>⟨[],rfl,⟨by simpa using a,rfl⟩,Ac⟩
 |n+1,cs,a,h=>by
  obtain⟨x,hx,b⟩:=h 0 Aa;obtain⟨l,c,d,e⟩:=p5 (cs:=cs.drop sz) (n:=n) (sz:=sz) Ai (λi f=>by
   obtain⟨x,hx,b⟩:=h (i+1) Aa;refine⟨x,?_,b⟩;rw[Md];rw[show sz+i*sz=(i+1)*sz from by grind];exact hx)
  refine⟨x::l,by simp[c],⟨cs.take sz,cs.drop sz,[],[],Ac,rfl,by simpa using hx,d⟩,?_⟩;simp_all
def Su:∀(T:Ty),
  (∀(e:Ld)(fs:List Field)(off fuel:Nat)(cs:List La)(x:DataW H×List MemPlace),al P T e fs off K3=K3->Ls enc P w 0 sp held fuel e cs=K1 x->
   ∃v:T.den,rd w (· <w.heap.size) 0 K4 T v cs []/\wf T v)/\
  (∀(fs:List Field)(off:Nat)(cs:List La),al P T 0 fs off K4=K3->cs.length=off+T.size->
   (∀(i:Nat)(f:Field),fs[i]? =K1 f-> ∃(n:Nat) (x:DataW H×List MemPlace),Ls enc P w 0 sp held n f.type ((cs.drop f.offset).take (P.cellsOf f.type))=K1 x)->
   ∃v:T.den,rd w (· <w.heap.size) 0 K4 T v (cs.drop off) []/\wf T v)
 |.int k=>by
   refine⟨λe fs off fuel cs x c h=>?_,λfs off cs c=>Aq⟩;simp only[al]at c;split at c
   ·rename_i k' hk;simp only[pC,decide_eq_true_eq]at c;obtain⟨rfl,_⟩:=c;obtain⟨n,rfl,_,N⟩:=DataW.trod_int hk h;exact⟨n,⟨rfl,rfl⟩,N⟩
   ·cases c
 |.bool=>by
   refine⟨λe fs off fuel cs x c h=>?_,λfs off cs c=>Aq⟩;simp only[al]at c;split at c
   ·rename_i hk;obtain⟨n,rfl,_⟩:=DataW.trod_bool hk h;exact⟨n,⟨rfl,rfl⟩,trivial⟩
   ·cases c
 |.fnc _=>⟨λe fs off fuel cs x c h=>Aq,λfs off cs c=>Aq⟩
 |.err=>⟨λe fs off fuel cs x c h=>Aq,λfs off cs c=>Aq⟩
 |.hid _=>⟨λe fs off fuel cs x c h=>Aq,λfs off cs c=>Aq⟩
 |.sptr .. =>⟨λe fs off fuel cs x c h=>Aq,λfs off cs c=>Aq⟩
 |.clo .. =>⟨λe fs off fuel cs x c h=>Aq,λfs off cs c=>Aq⟩
 |.str=>by
   refine⟨λe fs off fuel cs x c h=>?_,λfs off cs c=>Aq⟩;simp only[al]at c;split at c
   ·rename_i hk;obtain⟨s,rfl,_,hs⟩:=L7 hk h;exact⟨s.data.toList,⟨rfl,rfl⟩,by simp_all[wf]⟩
   ·cases c
 |.unit=>by
   refine⟨λe fs off fuel cs x c h=>?_,λfs off cs c A _=>⟨(),⟨by simp_all[Ty.size],rfl⟩,trivial⟩⟩;simp only[al]at c;split at c
   ·rename_i O hk;simp only[pC]at c;obtain⟨Z,n,_,_,A,_⟩:=L8 hk h;rw[pD c.2]at A;exact⟨(),⟨Me A,rfl⟩,trivial⟩
   ·cases c
 |.slice e' t=>by
   refine⟨λe fs off fuel cs x c h=>?_,λfs off cs c=>Aq⟩;simp only[al]at c;split at c
   ·rename_i L hk;simp only[pC,Nat.blt_eq]at c;obtain⟨⟨⟨⟨y,D⟩,z⟩,C⟩,Q⟩:=c;have y:=pD y;subst y;have z:=pD z;rcases DataW.trod_slice hk h with⟨rfl,_⟩|⟨a,d,S,G,ab,n,_,rfl,_,hb,ad,U,ar,V,_,_⟩
    ·exact⟨[],⟨_,[],[],[],rfl,rfl,⟨rfl,Ac,K2,0,rfl,Le _,by simp[maxLen],.inl ⟨rfl,rfl,rfl⟩⟩,rfl,rfl⟩,by simp[wf]⟩
    ·
     have B:∀i,i<d-> ∃cs,w.cells? 0 (a.add (i*t.size)) t.size=K1 cs/\ ∃v:t.den,rd w (· <w.heap.size) 0 K4 t v cs []/\wf t v:=by
      intro i E;have K:=V i E;rw[z]at K;have:i<G.length:=Aa
      rw[Mg this,Option.bind_eq_some_iff]at K;obtain⟨cs,o,hx⟩:=K;exact⟨cs,o,(Su t).1 _ _ _ _ _ _ Q hx⟩
     have I:∀i j,i<d->j<t.size-> ∃u,w.cell? (a.add (i*t.size+j))=K1 u:=by
      intro i j E hj;obtain⟨cs,o,_⟩:=B i E;obtain⟨_,h7,h8⟩:=Ml o;simp_all[Ll.add_add]
     let all:List La:=(List.range (d*t.size)).map λm=>(w.cell? (a.add m)).getD undef
     have F:all.length=d*t.size:=by simp[all]
     have M:∀m u,all[m]? =K1 u->w.cell? (a.add m)=K1 u:=by
      intro m u hu;have hm:m<d*t.size:=Ai
      have W:m/t.size<d:=Nat.div_lt_of_lt_mul Ai;obtain⟨u',au⟩:=I (m/t.size) (m%t.size) W (Nat.mod_lt _ C)
      grind[Nat.div_add_mod]
     obtain⟨l,J,L,X⟩:=p5 (r:=rd w (· <w.heap.size) 0 K4 t) (q:=wf t) F (λi E=>by
      obtain⟨cs,o,v,hv,N⟩:=B i E;refine⟨v,?_,N⟩;have:(all.drop (i*t.size)).take t.size=cs:=by
       obtain⟨_,h7,h8⟩:=Ml o;apply Mf;intro j;rw[List.getElem?_take];split
       ·rename_i hj;rw[List.getElem?_drop,<-h8 j hj,Ll.add_add];have hm:i*t.size+j<d*t.size:=by
         have:(i+1)*t.size<=d*t.size:=Nat.mul_le_mul_right _ E
         grind
        simp_all
       simp_all
      simp_all)
     refine⟨l,⟨_,all,[],[],rfl,rfl,⟨rfl,by rw[F,J],K1 a,S,by rw[J],Aa,U,.inr ⟨a,rfl,?_,M⟩⟩,L⟩,by rw[J];omega,X⟩;rw[J];rcases Nat.eq_zero_or_pos d with h0|h0
     ·exact .inl h0
     ·obtain⟨cs,o,_⟩:=B 0 h0;right;have:=Lb.cells?_block o C;simp_all[Ll.add_zero']
   ·cases c
 |.arr n t=>by
   refine⟨λe fs off fuel cs x c h=>?_,λfs off cs c=>Aq⟩;simp only[al]at c;split at c
   ·rename_i m L hk;simp only[pC]at c;obtain⟨⟨⟨y,D⟩,z⟩,C⟩:=c;have y:=pD y;subst y;have z:=pD z;obtain⟨Z,q,_,_,A,Y,hx⟩:=DataW.trod_array hk h;rw[pD D]at A;obtain⟨l,J,L,X⟩:=p5 (r:=rd w (· <w.heap.size) 0 K4 t) (q:=wf t) A (λi E=>by
     have K:=hx i E;rw[z,Mg Aa]at K;exact(Su t).1 _ _ _ _ _ _ C K)
    exact⟨l,⟨J,L⟩,J,X⟩
   ·cases c
 |.pair a b=>by
  have p:∀(f:Field)(r:List Field)(off:Nat)(cs:List La),Lc f.offset off=K3->Lc (P.cellsOf f.type) a.size=K3->al P a f.type [] 0 K3=K3->al P b 0 r (off+a.size) K4=K3->
    cs.length=off+(a.size+b.size)->(∀(i:Nat)(g:Field),(f::r)[i]? =K1 g-> ∃(n:Nat) (x:DataW H×List MemPlace),Ls enc P w 0 sp held n g.type ((cs.drop g.offset).take (P.cellsOf g.type))=K1 x)->
    ∃v:(Ty.pair a b).den,rd w (· <w.heap.size) 0 K4 (.pair a b) v (cs.drop off) []/\wf (.pair a b) v:=by
   intro f r off cs y D z C A hx;obtain⟨n,x,hf⟩:=hx 0 f rfl;rw[pD y,pD D]at hf;obtain⟨va,ha,wa⟩:=(Su a).1 _ _ _ _ _ _ z hf;obtain⟨vb,hb,wb⟩:=(Su b).2 r (off+a.size) cs C Aa (λi g hg=>hx (i+1) g (by simpa using hg));refine⟨(va,vb),⟨(cs.drop off).take a.size,cs.drop (off+a.size),[],[],?_,rfl,ha,hb⟩,wa,wb⟩;rw[<-Md,List.take_append_drop]
  refine⟨λe fs off fuel cs x c h=>?_,λfs off cs c A hx=>?_⟩
  ·simp only[al]at c;split at c
   ·rename_i O hk;split at c
    ·rename_i f r a0;simp only[pC]at c;obtain⟨⟨⟨⟨y,D⟩,z⟩,C⟩,Q⟩:=c;obtain⟨Z,q,_,_,A,Y,hx⟩:=L8 hk h;rw[pD y]at A;have:=p f r 0 cs D z C (by simpa using Q) Aa (λi g hg=>by
      grind)
     simpa using this
    ·cases c
   ·cases c
  ·simp only[al]at c;split at c
   ·rename_i f r;simp only[pC]at c;obtain⟨⟨⟨y,D⟩,z⟩,C⟩:=c;exact p f r off cs y D z C A hx
   ·cases c
end
open Go.RowKit Go.ChangeShapes Go.WideShapes Go.ChangeAt
def WR(P:Lf):List Ld->List Ty->Bool|[],[]=>K3|e::es,T::Ts=>al P T e [] 0 K3&&P.readableRec e&&Lu e P.types.size&&WR P es Ts|_,_=>K4
def Cz:(ts:List Ty)->dJ ts->Prop|[],_=>True|t::ts,x=>wf t x.1/\Cz ts x.2
section
variable {H:Type}{enc:Ld×La->H}{P:Lf}
def Qs4{T:Ty}{e:Ld}{fs:List Field}{off:Nat}{r:Reach}{v:La}(hd:al P T e fs off K3=K3)(hv:Lp P w r base e v):Kx T v.cells.toList=v:=by
 cases T with
 |int k=>
  simp only[al]at hd;split at hd
  ·rename_i hk;obtain⟨n,rfl⟩:=okWide_int hk hv;rfl
  ·cases hd
 |bool=>
  simp only[al]at hd;split at hd
  ·rename_i hk;obtain⟨n,rfl⟩:=okWide_bool hk hv;rfl
  ·cases hd
 |fnc f=>grind[al]
 |err=>grind[al]
 |hid t=>grind[al]
 |sptr e t=>grind[al]
 |clo f t=>grind[al]
 |str=>
  simp only[al]at hd;split at hd
  ·rename_i hk;obtain⟨n,rfl⟩:=okWide_string hk hv;rfl
  ·cases hd
 |slice g t=>
  simp only[al]at hd;split at hd
  ·rename_i hk;obtain⟨a,l,c,rfl⟩:=okWide_slice hk hv;rfl
  ·cases hd
 |unit=>
  simp only[al]at hd;split at hd
  ·rename_i hk;simp only[Lp,hk]at hv;obtain⟨d,rfl,_⟩:=hv;rfl
  ·cases hd
 |pair a b=>
  simp only[al]at hd;split at hd
  ·rename_i hk;simp only[Lp,hk]at hv;obtain⟨d,rfl,_⟩:=hv;rfl
  ·cases hd
 |arr n t=>
  simp only[al]at hd;split at hd
  ·rename_i hk;simp only[Lp,hk]at hv;obtain⟨d,rfl,_⟩:=hv;rfl
  ·cases hd
def Z8x{W:Lb}{base:Nat}{sp:Nat->Bool}{held:Bool}:∀{es:List Ld}{Ts:List Ty}{vs:List La}{ds:List (DataW H)}{ps:List MemPlace},WR P es Ts=K3->
  L3 enc P W 0 sp held es vs ds ps->(∀(j:Nat) t v,es[j]? =K1 t->vs[j]? =K1 v->Lp P W .any base t v)->
  (∃xs:dJ Ts,GC W (· <W.heap.size) 0 Ts xs vs/\Cz Ts xs)/\ds.length=es.length
 |[],[],vs,ds,ps,_,h,_=>by
  obtain⟨rfl,rfl,rfl⟩:=trodAll_nil h;exact⟨⟨(),rfl,trivial⟩,rfl⟩
 |e::es,T::Ts,vs,ds,ps,a,h,hv=>by
  simp only[WR,pC]at a;obtain⟨v,b,d,g,p,q,rfl,rfl,rfl,i,k⟩:=trodAll_cons h;obtain⟨⟨xs,l,m⟩,n⟩:=Z8x a.2 k (λj t v o c=>hv (j+1) t v (by simpa using o) (by simpa using c));obtain⟨f,r⟩:=i;obtain⟨x,s,u⟩:=(Su T).1 _ _ _ _ _ _ a.1.1.1 r;exact⟨⟨(x,xs),⟨_,b,by rw[Qs4 a.1.1.1 (hv 0 e v rfl rfl)],s,l⟩,u,m⟩,by simp[n]⟩
 |[],_::_,_,_,_,a,_,_=>by grind[WR]
 |_::_,[],_,_,_,a,_,_=>by grind[WR]
theorem Z7w(hl:laidOutB P=K3){W W':Lb}{sp:Nat->Bool}(hb:Below W.heap.size W W'):∀{es:List Ld}{Ts:List Ty}{vs:List La}{ds:List (DataW H)}{ps:List MemPlace},WR P es Ts=K3->
  L3 enc P W 0 (λ_=>K3) K3 es vs ds ps->(∀p∈ps,p.block<W.heap.size)->(∀p∈ps,sp p.block=K3)->L3 enc P W' 0 sp K3 es vs ds ps
 |[],[],vs,ds,ps,_,h,_,_=>by
  obtain⟨rfl,rfl,rfl⟩:=trodAll_nil h;exact trodAll_mk0
 |e::es,T::Ts,vs,ds,ps,a,h,b,c=>by
  simp only[WR,pC,Nat.blt_eq]at a;obtain⟨v,f,d,g,p,q,rfl,rfl,rfl,i,j⟩:=trodAll_cons h;exact trodAll_cons_mk (WideElems.Trod_stays hl a.1.1.2 a.1.2 i (λx hx=>hb.same (b x (by simp[hx]))) (λx hx=>c x (by simp[hx])))
   (Z7w hl hb a.2 j (λx hx=>b x (by simp[hx])) (λx hx=>c x (by simp[hx])))
 |[],_::_,_,_,_,a,_,_,_=>by grind[WR]
 |_::_,[],_,_,_,a,_,_,_=>by grind[WR]
end
theorem Zs{n:Int}(h0: -9223372036854775808<=n:=by omega)(h1:n<=9223372036854775807:=by omega):Ma.wrap n=n:=IntWalk.i64_in n ⟨h0,h1⟩
theorem Zr{i:Nat}(h:i<m:=by omega)(hm:m<=9223372036854775807:=by omega):Ma.wrap ((i:Int)+1)=((i+1:Nat):Int):=by grind[Zs]
def Zl{b:Bool}{x:α}(h:b=K3):(cond b x y)=x:=by rw[h];rfl
def Zo{b:Bool}{x:α}(h:b=K4):(cond b x y)=y:=by rw[h];rfl
def Zk[Decidable p](h:p:=by omega):decide p=true:=decide_eq_true h
theorem Zm[Decidable p](h:¬p:=by omega):decide p=false:=decide_eq_false h
section
variable {α:Type}{d:α}
end
def HE(m:Nat):(T:Ty)->T.den->Prop|.str,x=>x.length<=m|.slice _ t,x=>x.length<=m/\ ∀y∈x,HE m t y|.pair a b,x=>HE m a x.1/\HE m b x.2|.arr _ t,x=> ∀y∈x,HE m t y|.unit,_|.int _,_|.bool,_|.fnc _,_|.err,_|.hid _,_|.sptr ..,_|.clo ..,_=>True
noncomputable def bR{ρ:Type}:Nat->Option ρ->Option ρ|0,m=>m|n+1,m=>ae m (bR n m)
def Xm{ρ:Type}:∀(n:Nat)(m:Option ρ),bR n m=m
 |0,_=>rfl
 |n+1,m=>by unfold bR;rw[Xm n m,X5]
def Jh.vars(P:Lf)(l:List (String×(Array La->Prop))):Jh where
 G:=λw=> ∀p∈l,∃c,w.var? P p.1=K1 c/\p.2 c
 GB:=λb=> ∃p∈l,P.globalNamed p.1=K1 b
 lt:=λw b h ⟨p,hp,hb⟩=>by
  obtain⟨c,this,_⟩:=h p hp;simp only[Lz,hb,pA]at this;split at this
  ·rename_i hg;exact(Array.getElem?_eq_some_iff.1 hg).1
  ·cases this
 stays:=λw w' h hb p hp=>by
  obtain⟨c,this,hc⟩:=h p hp;refine⟨c,?_,hc⟩;cases hg:P.globalNamed p.1 with
  |none=>simp[Lz,hg]at this
  |some b=>
   simp only[Lz,hg,pA]at this⊢;rw[hb b ⟨p,hp,hg⟩];exact this
theorem Jh.vars_get(h:(Jh.vars P l).G w)(i:Nat)(hi:i<l.length):∃c,w.var? P l[i].1=K1 c/\l[i].2 c:=h _ (List.getElem_mem hi)
def Jh.vars_eq{v:Array La}(h:(Jh.vars P l).G w)(i:Nat)(hi:i<l.length)(h1:l[i].1=n)(h2:l[i].2=(· =v)):w.var? P n=K1 v:=by grind[Jh.vars_get]
def Qpp(c:Array La):Prop:= ∃tp p,c= #[.iface tp p]
def NQ(c:Array La):Prop:= ∃m,c[0]? =K1 (.int .i64 m)
def Jh.vars_err(h:(Jh.vars P l).G w)(i:Nat)(hi:i<l.length)(h1:l[i].1=n)(h2:l[i].2=Qpp):∃tp p,w.var? P n=K1 #[.iface tp p]:=by obtain⟨c,a,hv⟩:=Jh.vars_get h i hi;rw[h2]at hv;obtain⟨tp,p,rfl⟩:=hv;simp_all
def Jh.vars_int(h:(Jh.vars P l).G w)(i:Nat)(hi:i<l.length)(h1:l[i].1=n)(h2:l[i].2=NQ)(hb:P.globalNamed n=K1 b):∃m,w.cell? ⟨b,0,Ln⟩=K1 (.int .i64 m):=by
 obtain⟨c,a,hv⟩:=Jh.vars_get h i hi;rw[h2]at hv;obtain⟨m,d⟩:=hv
 grind[Mm]
def var?_of_cell{m:Int}(hb:P.globalNamed n=K1 b)(h:w.cell? ⟨b,0,Ln⟩=K1 (.int .i64 m)):∃c,w.var? P n=K1 c/\NQ c:=by
 unfold Lb.cell? at h;cases hh:w.heap[b]? with
 |none=>simp[hh]at h
 |some a=>
  cases a with
  |cells c t d=>
   refine⟨c,by grind[Lz],m,?_⟩;simp_all
  |_=>simp[hh]at h
section
variable {P:Lf}{g:Jh}
def bQ.intStr{k:IntKind}{G:Int->List UInt8}{lo hi:Int}(he:∀args w,(callFunc f args).run P w=.ok (.enter f args) w)
  (hc:∀n w,g.G w->lo<=n->n<=hi->Lj P f #[.int k n] w λe w'=>e=.returned (.string ⟨(G n).toArray⟩)/\Below w.heap.size w w'):
  bQ P g {f:=f,args:=[.int k],res:=[.str],F:=λxs=>Zd (lo<=xs.1/\xs.1<=hi) (K1 (G xs.1,()))} where
 enters:=he
 calls:=λw xs r b d hx a=>by
  obtain⟨h,m,rfl,i,rfl⟩:=hx;obtain⟨rfl,_⟩:h=[.int k xs.1]/\_:=i;obtain⟨c,a⟩:=ot.1 a;simp only[pB]at a;subst a;refine(hc xs.1 w d c.1 c.2).mono λe w' ⟨j,l⟩=>⟨[.string ⟨(G xs.1).toArray⟩],[],j,⟨[_],[],[],[],rfl,rfl,⟨rfl,rfl⟩,rfl,rfl⟩,Ac,l⟩
def Qe5{w:Lb}{X:Nat->Prop}{B:Nat}{own:Bool}:∀{l:List (List UInt8)}{vs:List La}{S:List Nat},dY (rd w X B own .str) l vs S->vs=l.map λx=>.string ⟨⟨x⟩⟩
 |[],_,_,h=>h.1
 |x::l,_,_,⟨b,g,c,i,e,_,d,f⟩=>by
  have a:b=[.string ⟨⟨x⟩⟩]/\c=[]:=d;rw[e,a.1,Qe5 f];rfl
def bQ.join{e:Ld}{J:List (List UInt8)->List UInt8->List UInt8}(he:∀args w,(callFunc f args).run P w=.ok (.enter f args) w)
  (hnil:∀s,J [] s=[])
  (h0:∀(a:Option Ll)(c:Nat)(sep:ByteArray)(w:Lb),Lj P f #[.slice a 0 c,.string sep] w λe w'=>e=.returned (.string ⟨#[]⟩)/\w'=w)
  (hc:∀(bk o c:Nat)(xs:List ByteArray)(sep:ByteArray)(w:Lb),(∀(j:Nat) x,xs[j]? =K1 x->w.cell? ⟨bk,o+j,K2⟩=K1 (.string x))->
   bk<w.heap.size->xs.length<=m->xs.length<=c->(J (xs.map (·.data.toList)) sep.data.toList).length<=m->
   Lj P f #[.slice (K1 ⟨bk,o,K2⟩) xs.length c,.string sep] w λe w'=>e=.returned (.string ⟨(J (xs.map (·.data.toList)) sep.data.toList).toArray⟩)/\Below w.heap.size w w'):
  bQ P g {f:=f,args:=[.slice e .str,.str],res:=[.str],F:=λxs=>Zd (xs.1.length<=m/\(J xs.1 xs.2.1).length<=m) (K1 (J xs.1 xs.2.1,()))} where
 enters:=he
 calls:=λw xs r H hg hx u=>by
  obtain⟨cs,us,rfl,N,B,O,rfl,Q,rfl⟩:=hx;obtain⟨rfl,_⟩:B=[.string ⟨⟨xs.2.1⟩⟩]/\_:=Q;obtain⟨v,es,S1,S2,rfl,_,U,V⟩:=N;obtain⟨W,u⟩:=ot.1 u;simp only[pB]at u;subst u;have X:=Qe5 V;obtain⟨_,I,a,k,rfl,Y,K,i⟩:=U;have fin:∀{y:Ending}{w':Lb},y=.returned (.string ⟨(J xs.1 xs.2.1).toArray⟩)->Below w.heap.size w w'->
    ∃rs S,y=.returned (ak rs)/\xG w' w.heap.size [.str] (J xs.1 xs.2.1,()) rs S/\S.Nodup/\Below w.heap.size w w':=
   λl n=>⟨[.string ⟨(J xs.1 xs.2.1).toArray⟩],[],l,⟨[_],[],[],[],rfl,rfl,⟨rfl,rfl⟩,rfl,rfl⟩,Ac,n⟩
  by_cases z:xs.1=[]
  ·have C:xs.1.length=0:=by rw[z];rfl
   rw[C];refine(h0 a k _ w).mono λy w' ⟨l,n⟩=>fin ?_ (n▸L0 _ _);rw[l,z,hnil]
  ·have L:0<xs.1.length:=List.length_pos_iff.2 z;rcases i with⟨_,h,_⟩|⟨D,rfl,Z,E⟩
   ·omega
   ·have p:D.block<w.heap.size:=Z.resolve_left Aa;obtain⟨A,G,ab⟩:∃A G,xs.1=A::G:=by
     cases h:xs.1 with
     |nil=>exact absurd h z
     |cons A G=>grind
    have d:D.spot=none:=by
     have:=E 0 (.string ⟨⟨A⟩⟩) Ai
     grind[Ll.add,Lb.cell?_spot]
    obtain⟨b,o,M⟩:=D;simp only at d p;subst d;have q:∀j,(⟨b,o,K2⟩:Ll).add j=⟨b,o+j,K2⟩:=λj=>by
     simp[Ll.add]
    have t:(xs.1.map λx=>(⟨⟨x⟩⟩:ByteArray)).map (·.data.toList)=xs.1:=by simp[Function.comp_def]
    have:=hc b o k (xs.1.map λx=>⟨⟨x⟩⟩) ⟨⟨xs.2.1⟩⟩ w (λj x hx=>?_) p (by simpa using W.1) (by simpa using Y) Ai
    ·rw[t,List.length_map]at this;exact this.mono λy w' ⟨l,n⟩=>fin l n
    ·rw[<-q]
     grind
end
open Go.RowKit Go.ChangeShapes Go.WideShapes Go.ChangeAt
section
variable {H:Type}{enc:Ld×La->H}{P:Lf}
def Zv4{w:Lb}{sp:Nat->Bool}:∀{ns:List String}{gs:List (DataW H)}{ps:List MemPlace},DataW.TrodVars enc P w sp ns gs ps->gs.length=ns.length
 |[],[],_,_=>rfl
 |[],_::_,_,h=>h.elim
 |_::_,[],_,h=>h.elim
 |_::_,_::_,_,⟨_,_,_,_,_,_,_,_,_,_,h,_⟩=>by simp[Zv4 h]
def Z7c{fid:FuncId}{args:List Ty}{F:dJ args->Option (Bool×Unit)}{f:Func}{tb:Ld}(hok:bQ P g ⟨fid,args,[.bool],F⟩)
  (hF:∀xs,Cz args xs->F xs=K1 (K3,())) (hfn:∀(H:Type)(ds gs:List (DataW H)),ds.length=f.params.size->gs.length=s.vars.length->s.fn H (ds++gs)={results:=[.lit (.bool K3)],args:=ds,vars:=gs})
  (hl:laidOutB P=K3) (hvr:varsRowed P s.vars=K3) (hd:WR P f.params.toList args=K3) (hres:f.resultTypes= #[tb]) (htb:P.underlying tb=K1 .bool)
  (W:Lb) (base:Nat) (as:Array La) (ds gs:List (DataW H)) (before:List MemPlace)
  (hval:∀(j:Nat) t v,f.params[j]? =K1 t->as[j]? =K1 v->Lp P W .any base t v)
  (hgl:g.G W) (hW:L4 enc P f.params.toList s.vars K4 W as.toList ds gs before):
  Lj P fid as W λe W'=> ∃v,e=.returned v/\s.post enc P f K4 fresh handsOn K4 W as v W':=by
 have a:=hW;have b:=hW.lt;obtain⟨p,q,i,k,rfl,l,m⟩:=hW;obtain⟨⟨xs,n,o⟩,r⟩:=Z8x hd i (λj t v u hv=>hval j t v (by simpa using u) (by simpa using hv));have w:=hok.calls W xs (K3,()) as.toList hgl n (hF xs o);refine w.mono λB W' ⟨C,S,c,y,_,z⟩=>?_;obtain⟨D,E,I,J,rfl,rfl,⟨rfl,rfl⟩,rfl,rfl⟩:=y;subst c;refine⟨.bool K3,rfl,?_⟩;have d:s.fn H (ds++gs)={results:=[.lit (.bool K3)],args:=ds,vars:=gs}:=hfn H ds gs (by simpa using r) (Zv4 k);have A:∀x∈p,x.block<W.heap.size:=λx hx=>b x (by simp[hx]);refine⟨ds,gs,p++q,[],p,q,a,?_,?_,?_,z.frame _,λh=>by cases h⟩
 ·rw[d,hres];exact trodAll_cons_mk (shut_bool htb K3) trodAll_mk0
 all_goals grind[Z7w,Below.trodVars]
end
def Cm{H:Type}(ss:List (List UInt8)):DataW H:=.agg (ss.map λs=>.lit (.string s))
def Z65{H:Type}{enc:Ld×La->H}{sp:Nat->Bool}{held:Bool}{fuel:Nat}{t e:Ld}{n:Nat}{cs:List La}{p:List MemPlace}
  (ht:P.underlying t=K1 (.array n e)) (he:P.underlying e=K1 .string) (hce:P.cellsOf e=1) (hct:P.cellsOf t=n)
  (h:Ls enc P w base sp held fuel t cs=K1 (Cm zs,p)):cs=zs.map λz=>Lq ⟨⟨z⟩⟩:=by
 cases fuel with
 |zero=>simp[Ls]at h
 |succ fuel=>
  simp only[Ls,ht,hce,hct,Nat.mul_one]at h;split at h
  ·obtain⟨a,d,hx⟩:=Option.map_eq_some_iff.1 h;have c:a.map (·.1)=zs.map λz=>(DataW.lit (.string z):DataW H):=by
    simp_all[Cm]
   have f:a.length=n:=by simpa using Lib.mapM_length d
   have g:zs.length=n:=by
    have:=congrArg List.length c
    grind
   apply Mf;intro i;by_cases j:i<n
   ·obtain⟨b,k,l⟩:=Lib.mapM_at d i i (by simp[j]);obtain⟨z,m,rfl,_⟩:=L7 he l;have o:cs[i]? =K1 (.string z):=by
     have:=congrArg (·[0]?) m
     grind
    have q:(a.map (·.1))[i]? =K1 (DataW.lit (.string z.data.toList):DataW H):=by simp[k]
    simp_all
   simp_all
  ·cases h
def Qca{rest:List (String×DataW Unit)}{g:Nat}{t e:Ld}{n:Nat}
  (hg:P.globalNamed name=K1 g) (hty:(P.globals[g]?).map (·.type)=K1 t) (ht:P.underlying t=K1 (.array n e)) (he:P.underlying e=K1 .string) (hce:P.cellsOf e=1) (hct:P.cellsOf t=n)
  (h:laidMet P ((name,Cm zs)::rest) W):W.var? P name=K1 (zs.map λz=>Lq ⟨⟨z⟩⟩).toArray:=by
 obtain⟨i,⟨j,k,l,d,p,q,b,c,a,f,_,_⟩,_⟩:=h;obtain rfl:=L6 (hg.symm.trans b);obtain rfl:=L6 (hty.symm.trans c);rw[a,<-Z65 ht he hce hct f]
def Qmn{g:Nat}(h:W.var? P name=K1 (zs.map λz=>Lq ⟨⟨z⟩⟩).toArray)(hg:P.globalNamed name=K1 g)(i:Nat)(hi:i<zs.length):
  W.cell? ⟨g,i,K2⟩=K1 (.string ⟨⟨zs.getD i []⟩⟩):=by
 have:=Mm hg h i;simp_all
section
variable {P:Lf}{g:Jh}
theorem bQ.atoi{f:FuncId}{eb:Ld}(he:∀args w,(callFunc f args).run P w=.ok (.enter f args) w)
  (hv : ∀ w, g.G w -> ∃ tp p, w.var? P "strconv.ErrSyntax" = K1 #[.iface tp p])
  (hc:∀(s:ByteArray)(n:Int),s.size<=18->Lv s.data.toList=K1 n-> ∀w:Lb,Lj P f #[.string s] w λe w'=>e=.returned (.tuple #[.int .i64 n,.nilIface])/\ ∃t,w'=Lib.bytesWorld w eb t)
  (hc2 : ∀ (s : ByteArray), s.size <= 18 -> Lv s.data.toList = K2 -> ∀ (tp : Ld) (p : La) (w : Lb), w.var? P "strconv.ErrSyntax" = K1 #[.iface tp p] ->
   Lj P f #[.string s] w λe w'=> ∃t N,e=.returned (.tuple #[.int .i64 0,.iface t (.pointer (K1 ⟨N,0,K2⟩))])/\Below w.heap.size w w'):
  bQ P g {f:=f,args:=[.str],res:=[.int .i64,.err],F:=λxs=>Zd (xs.1.length<=18) (K1 ((Lv xs.1).getD 0,(Lv xs.1).isSome,()))} where
 enters:=he
 calls:=λw xs r i j hx c=>by
  obtain⟨k,o,rfl,l,rfl⟩:=hx;obtain⟨rfl,_⟩:k=[.string ⟨⟨xs.1⟩⟩]/\_:=l;obtain⟨m,c⟩:=ot.1 c;simp only[pB]at c;subst c;have a:(⟨⟨xs.1⟩⟩:ByteArray).size<=18:=m;cases ha:Lv xs.1 with
  |some n=>
   refine(hc ⟨⟨xs.1⟩⟩ n a ha w).mono λe w' ⟨d,t,h⟩=>⟨[.int .i64 n,.nilIface],[],d,⟨[_],[_],[],[],rfl,rfl,⟨rfl,rfl⟩,⟨[_],[],[],[],rfl,rfl,⟨⟨_,rfl,rfl,.inl ⟨rfl,rfl⟩⟩,rfl⟩,rfl,rfl⟩⟩,Ac,h▸Lib.bytesWorld_below w _ _⟩
  |none=>
   obtain⟨tp,p,b⟩:=hv w j;refine(hc2 ⟨⟨xs.1⟩⟩ a ha tp p w b).mono λe w' ⟨t,N,d,h⟩=>⟨[.int .i64 0,.iface t (.pointer (K1 ⟨N,0,K2⟩))],[],d,⟨[_],[_],[],[],rfl,rfl,⟨rfl,rfl⟩,⟨[_],[],[],[],rfl,rfl,⟨⟨_,rfl,rfl,.inr ⟨rfl,_,_,rfl⟩⟩,rfl⟩,rfl,rfl⟩⟩,Ac,h⟩
def Zzi(w:Lb):∀n,Below w.heap.size w {w with drawn:=w.drawn+n}
 |_=>⟨rfl,rfl,rfl,Le _,λ_ _=>rfl⟩
def bQ.cut{f:FuncId}{m:Nat}{b:Nat}(he:∀args w,(callFunc f args).run P w=.ok (.enter f args) w)
  (hv:∀w,g.G w-> ∃k,w.cell? ⟨b,0,Ln⟩=K1 (.int .i64 k))
  (hc:∀(s p:ByteArray)(k:Int)(w:Lb),s.size<m->w.cell? ⟨b,0,Ln⟩=K1 (.int .i64 k)->Lj P f #[.string s,.string p] w λe w'=>
   e=.returned (.tuple #[.string ⟨(Lk s.data.toList p.data.toList).1.toArray⟩,.string ⟨(Lk s.data.toList p.data.toList).2.1.toArray⟩,.bool (Lk s.data.toList p.data.toList).2.2])/\ ∃n,w'={w with drawn:=w.drawn+n}):
  bQ P g {f:=f,args:=[.str,.str],res:=[.str,.str,.bool],F:=λxs=>Zd (xs.1.length<m) (K1 ((Lk xs.1 xs.2.1).1,(Lk xs.1 xs.2.1).2.1,(Lk xs.1 xs.2.1).2.2,()))} where
 enters:=he
 calls:=λw xs r h i hx a=>by
  obtain⟨j,u,rfl,l,c,o,rfl,d,rfl⟩:=hx;obtain⟨rfl,_⟩:j=[.string ⟨⟨xs.1⟩⟩]/\_:=l;obtain⟨rfl,_⟩:c=[.string ⟨⟨xs.2.1⟩⟩]/\_:=d;obtain⟨q,a⟩:=ot.1 a;simp only[pB]at a;subst a;obtain⟨k,hk⟩:=hv w i;refine(hc ⟨⟨xs.1⟩⟩ ⟨⟨xs.2.1⟩⟩ k w q hk).mono λe w' ⟨d,n,t⟩=>⟨[.string ⟨(Lk xs.1 xs.2.1).1.toArray⟩,.string ⟨(Lk xs.1 xs.2.1).2.1.toArray⟩,.bool (Lk xs.1 xs.2.1).2.2],[],d,
   ⟨[_],[_,_],[],[],rfl,rfl,⟨rfl,rfl⟩,[_],[_],[],[],rfl,rfl,⟨rfl,rfl⟩,[_],[],[],[],rfl,rfl,⟨rfl,rfl⟩,rfl,rfl⟩,Ac,t▸Zzi w n⟩
def Z9c{w:Lb}{X:Nat->Prop}{B:Nat}{own:Bool}:∀(l:List (List UInt8)),dY (rd w X B own .str) l (l.map λx=>.string ⟨⟨x⟩⟩) []
 |[]=>⟨rfl,rfl⟩
 |_::l=>⟨[_],_,[],[],rfl,rfl,⟨rfl,rfl⟩,Z9c l⟩
def bQ.split{e:Ld}(he:∀args w,(callFunc f args).run P w=.ok (.enter f args) w)(hm:m<4294967296)
  (hv:∀w,g.G w-> ∃k,w.cell? ⟨b,0,Ln⟩=K1 (.int .i64 k))
  (hc:∀(s p:ByteArray)(k:Int)(w:Lb),s.size<m->w.cell? ⟨b,0,Ln⟩=K1 (.int .i64 k)->1<=p.size->Lj P f #[.string s,.string p] w λen w'=>
   en=.returned (.slice (K1 ⟨w.heap.size,0,Ln⟩) (Lm s p+1) (Lm s p+1))/\w'=w.alloc (.cells ((Lib.splitB p 0 (Lm s p) s).map Lq).toArray e)):
  bQ P g {f:=f,args:=[.str,.str],res:=[.slice e .str],F:=λxs=>Zd (xs.1.length<m/\1<=xs.2.1.length) (K1 (Lw xs.2.1 0 (Lt xs.1 xs.2.1) xs.1,()))} where
 enters:=he
 calls:=λw xs r n t hx i=>by
  obtain⟨u,D,rfl,v,l,y,rfl,c,rfl⟩:=hx;obtain⟨rfl,_⟩:u=[.string ⟨⟨xs.1⟩⟩]/\_:=v;obtain⟨rfl,_⟩:l=[.string ⟨⟨xs.2.1⟩⟩]/\_:=c;obtain⟨j,i⟩:=ot.1 i;simp only[pB]at i;subst i;obtain⟨k,hk⟩:=hv w t;have o:Lm ⟨⟨xs.1⟩⟩ ⟨⟨xs.2.1⟩⟩=Lt xs.1 xs.2.1:=rfl;have z:Lm ⟨⟨xs.1⟩⟩ ⟨⟨xs.2.1⟩⟩<=xs.1.length:=Lib.countB_le ⟨⟨xs.2.1⟩⟩ j.2 xs.1.length ⟨⟨xs.1⟩⟩ (Le _);have a:=Lib.splitB_data ⟨⟨xs.2.1⟩⟩ 0 (Lm ⟨⟨xs.1⟩⟩ ⟨⟨xs.2.1⟩⟩) ⟨⟨xs.1⟩⟩;have d:=Lib.splitB_all ⟨⟨xs.2.1⟩⟩ j.2 0 _ ⟨⟨xs.1⟩⟩ rfl;refine(hc ⟨⟨xs.1⟩⟩ ⟨⟨xs.2.1⟩⟩ k w j.1 hk j.2).mono λen w' ⟨c,q⟩=>?_;generalize Lib.splitB ⟨⟨xs.2.1⟩⟩ 0 (Lm ⟨⟨xs.1⟩⟩ ⟨⟨xs.2.1⟩⟩) ⟨⟨xs.1⟩⟩=L at q a d;have A:L.map Lq=(Lw xs.2.1 0 (Lt xs.1 xs.2.1) xs.1).map λx=>.string ⟨⟨x⟩⟩:=by
   have:Lw xs.2.1 0 (Lt xs.1 xs.2.1) xs.1=L.map (·.data.toList):=a.symm;rw[this,List.map_map];rfl
  have h:(Lw xs.2.1 0 (Lt xs.1 xs.2.1) xs.1).length=Lm ⟨⟨xs.1⟩⟩ ⟨⟨xs.2.1⟩⟩+1:=Ai
  have B:Below w.heap.size w w':=q▸(L0 _ w).alloc (Le _) _;rw[<-h]at c;generalize Lw xs.2.1 0 (Lt xs.1 xs.2.1) xs.1=K at c A h⊢;have C:w'.heap[w.heap.size]? =K1 (.cells (L.map Lq).toArray e (0,0)):=by grind[RY]
  refine⟨[.slice (K1 ⟨w.heap.size,0,Ln⟩) K.length K.length],[w.heap.size],c,⟨[_],[],[w.heap.size],[],rfl,rfl,?_,rfl,rfl⟩,Ac,B⟩;refine⟨_,K.map λx=>.string ⟨⟨x⟩⟩,[w.heap.size],[],rfl,rfl,⟨⟨by simp[Ty.size],.inr ⟨w.heap.size,K.length,(L.map Lq).toArray,rfl,Le _,C,Le _,?_,?_,?_⟩⟩,rfl⟩,Z9c K⟩
  all_goals grind[maxLen,Ty.size,List.take_of_length_le]
end
section
open Go.RowKit
variable {H:Type}{enc:Ld×La->H}
def Zli{a:Assume}{C:Checked}{os:Os}{aW:List PathCond}{apart again:Bool}{X:Lb->Array La->Prop}
  (hX:∀(w w':Lb)(args:Array La),w.heap=w'.heap->X w args->X w' args)
  (own:ownKnob C.prog.godebug=K2) (started:os.Started) (noInit:C.prog.inits.idxOf? f=K2) (hfn:C.prog.funcs[f]? =K1 fn)
  (witness:∃(w:Lb) (tape:Tape) (i:Input),w.os=os/\(w.forCall tape i).Shaped C.prog/\i.vars=[]/\Input.okWide C.prog (w.forCall tape i) .any w.heap.size f i/\
   ((s.pre enc C.prog fn aW apart (w.forCall tape i).memory i.args/\X (w.forCall tape i).memory i.args)/\sizedMet enc C.prog fn (Mj s) apart (w.forCall tape i).memory i.args)/\a.holds C.prog (lone (Frame.enter C.prog f i.args .normal) [] (w.forCall tape i)))
  (contract:∀(W:Lb)(base:Nat)(args:Array La)(ds gs:List (DataW H))(before:List MemPlace),
   (∀(j:Nat) t v,fn.params[j]? =K1 t->args[j]? =K1 v->Lp C.prog W .any base t v)->
   L4 enc C.prog fn.params.toList s.vars apart W args.toList ds gs before->
   X W args->W.ShapedOpen C.prog->
   Lj C.prog f args W λe W'=> ∃v,e=.returned v/\s.post enc C.prog fn apart fresh handsOn again W args v W'):
  ReturnsInHanded a C os f .any (λw args=>(s.pre enc C.prog fn aW apart w args/\X w args)/\sizedMet enc C.prog fn (Mj s) apart w args) (s.post enc C.prog fn apart fresh handsOn again):=by
 refine returnsInHanded_of_calls own started noInit witness ?_;intro w tape i _ h _ k b g;obtain⟨_,_,_,l,c,_,_,_,_,d⟩:=k;have e:l=fn:=L6 (c.symm.trans hfn);subst e;obtain⟨⟨⟨ds,gs,before,n,o⟩,hx⟩,p⟩:=b;have m:=L4.of_heap (w':=w.forCall tape i) (by rfl) n;refine(contract (w.forCall tape i) w.heap.size i.args ds gs before d m (hX _ _ _ (by rfl) hx) h).mono λe W' ⟨v,q,r⟩=>?_;simp_all[ChangeSpec.post_blind]
end
end Go.Am

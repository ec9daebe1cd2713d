/- No condition. -/
import Derived.Test.YtahnlnkboamdmaaGreatDoorAm4
import Derived.LoopN
import Derived.ProofKit
import Derived.OpenShut
import Derived.Carry
import Derived.JoinedCond
import Derived.IntWalk
import Derived.OpenVars
import Derived.Lib.LaidTab
import Derived.HandedShaped
import Derived.Lib.Atoi
import Derived.Lib.AtoiBound
import Derived.Lib.SplitLaws
import Derived.Lib.IndexMore
import Derived.Lib.AtoiErrMem
set_option linter.all false
namespace Go.Am
open Go.RowKit
open Option renaming some→K1,none→K2,none→Lr
open Bool renaming true→K3,false→K4,noConfusion→Lw,not_eq_true'→Lx
open Go renaming Value→La,World→Lb,Program→Le,TypeId→Lf,Oper→Lh,Code→Li
open Nat renaming beq→Lc,le_refl→Ld,blt→Lq,zero_add→Lt
open List renaming nodup_append→Lg,mem_cons→Lk,nodup_cons→L0,all_eq_true→L7,any_cons→L8,drop_drop→L9,eq_nil_of_length_eq_zero→Ma,ext_getElem?→Mb,getElem?_eq_getElem→Mc,mem_append→Md,mem_singleton→Me
open Lib renaming countB→Lj,count→Lp,splitK→Ls
open Value renaming okWide→Ll,string→Lm,pointer→Mg
open Decidable renaming decide→Ln
open DataW renaming trod→Lo,TrodAll→Ly,Whole→Lz,trod_string→L3,trod_struct→L4
open Region renaming wanted→Lu
open World renaming var?→Lv,cells?_some→Mh,var?_cell→Mi
open Option.some renaming inj→L1
open Go.RowKit.Below renaming refl→L2
open Ending renaming returned→L5
open IntKind renaming i64→L6
open OpenSpec renaming ofChange→Mf
open Value.pointer renaming injEq→Mj
variable{fresh handsOn:Bool}{s:ChangeSpec}{c:Li}{fn:Func}{f:FuncId}{zs:List (List UInt8)}{l:List (String×(Array La->Prop))}{ln L:List Nat}{rs:List ResultVar}{base m b:Nat}{P:Le}{p:Prop}{r:RS}{n name:String}{τ:Tab}{ρ α:Type}{g:Vc}{w W:Lb}{x:Zhf r}{y:α}
inductive PE where
 |val (k:Nat) (T:Ty) (f:Fl)
 |box (k:Nat) (e:Lf) (T:Ty) (f:Fl)
 |ptr (k r:Nat) (p:List Nat)
 |bor (k r:Nat) (p:List Nat)
 |shp (k:Nat) (T:Ty)
 |elp (k r:Nat) (p q:List Nat)
 |clo (k f:Nat) (l:List Nat)
def PE.key:PE->Nat|.val k .. |.box k .. |.ptr k .. |.bor k .. |.shp k .. |.elp k .. |.clo k .. =>k
@[reducible] def PE.dens:List PE->Type|[]=>Unit|.val _ T _::r=>T.den×PE.dens r|.box _ _ T _::r=>T.den×PE.dens r|.ptr .. ::r=>PE.dens r|.bor .. ::r=>PE.dens r|.shp _ T::r=>T.den×PE.dens r|.elp .. ::r=>Int×PE.dens r|.clo .. ::r=>PE.dens r
def WY:(p:List PE)->PE.dens p->List (Key×Tm)|[],_=>[]|.val k T f::r,x=>(.m k,.val T f x.1)::WY r x.2|.box k e T f::r,x=>(.m k,.box e T f x.1)::WY r x.2|.ptr k q p::r,x=>(.m k,.ptr q p)::WY r x|.bor k q p::r,x=>(.m k,.bor q p)::WY r x|.shp k T::r,x=>(.m k,.shp T x.1)::WY r x.2|.elp k j p q::r,x=>(.m k,.elp j p x.1 q)::WY r x.2|.clo k f l::r,x=>(.m k,.cl f l)::WY r x
def Zr9(ln:List Nat)(p:List PE)(x:PE.dens p):St:={env:=WY p x,pP:=[],pQ:=ln}
def Zwx:List Nat->List Nat->Bool
 |[],[]=>K3
 |x::xs,y::ys=>match Lc x y with|true=>Zwx xs ys|false=>K4
 |_,_=>K4
theorem Zcp:∀{p q:List Nat},Zwx p q=K3->p=q
 |[],[],_=>rfl
 |x::b,y::c,h=>by
  simp only[Zwx]at h;split at h
  ·rename_i a;rw[pD a,Zcp h]
  ·cases h
 |[],_::_,h=>by simp[Zwx]at h
 |_::_,[],h=>by simp[Zwx]at h
def Z05:List PE->Nat->Bool
 |[],_=>K4
 |e::r,k=>match Lc e.key k with
  |true=>match e with|.box .. =>K3|_=>K4
  |false=>Z05 r k
def Zr8:List PE->Nat->Bool
 |[],_=>K4
 |e::r,k=>match Lc e.key k with
  |true=>match e with|.box .. |.val .. =>K3|_=>K4
  |false=>Zr8 r k
def JW(s:St)(full:List PE):(p:List PE)->Option (PE.dens p)
 |[]=>K1 ()
 |.val k T f::r=>match s.get (.m k)with
  |.val U g y=>match cK U g f,ay T U y,JW s full r with
   |true,K1 z,K1 q=>K1 (z,q)
   |_,_,_=>K2
  |_=>K2
 |.box k e T f::r=>match s.get (.m k)with
  |.box e' U g y=>match Lc e' e&&cK U g f,ay T U y,JW s full r with
   |true,K1 z,K1 q=>K1 (z,q)
   |_,_,_=>K2
  |_=>K2
 |.ptr k j p::r=>match s.get (.m k)with
  |.ptr j' p'=>match Lc j' j&&Zwx p' p&&Z05 full j with
   |true=>JW s full r
   |false=>K2
  |_=>K2
 |.bor k j p::r=>match s.get (.m k)with
  |.bor j' p'=>match Lc j' j&&Zwx p' p&&Zr8 full j&& !(s.bad j p)with
   |true=>JW s full r
   |false=>K2
  |_=>K2
 |.shp k T::r=>match s.get (.m k)with
  |.shp U y=>match ay T U y,JW s full r with
   |some z,K1 q=>K1 (z,q)
   |_,_=>K2
  |_=>K2
 |.elp k j p q::r=>match s.get (.m k)with
  |.elp j' p' i q'=>match Lc j' j&&Zwx p' p&&Zwx q' q&&Zr8 full j&& !(s.bad j p),JW s full r with
   |true,K1 x=>K1 (i,x)
   |_,_=>K2
  |_=>K2
 |.clo k f l::r=>match s.get (.m k)with
  |.cl f' l'=>match Lc f' f&&Zwx l' l&&l.all (Z05 full)with
   |true=>JW s full r
   |false=>K2
  |_=>K2
def Zph:∀{p:List PE}{x:PE.dens p}{k:Nat},Z05 p k=K3-> ∃e T f y,mX (WY p x) (.m k)=.box e T f y
 |e::r,x,k,h=>by
  simp only[Z05]at h;split at h
  ·rename_i b;have:=pD b;split at h
   all_goals simp_all[PE.key,WY,Qg]
  ·rename_i b;have a:e.key≠k:=λc=>Ac
   cases e<;>simp only[PE.key]at a<;>simp only[WY,Qg,Key.m.injEq,a,if_false]<;>exact Zph h
def Zkk:∀{p:List PE}{x:PE.dens p}{k:Nat},Zr8 p k=K3->mX (WY p x) (.m k)≠ .pR
 |e::r,x,k,h=>by
  simp only[Zr8]at h;split at h
  ·rename_i b;have:=pD b;split at h
   all_goals simp_all[PE.key,WY,Qg]
  ·rename_i b;have a:e.key≠k:=λc=>Ac
   cases e<;>simp only[PE.key]at a<;>simp only[WY,Qg,Key.m.injEq,a,if_false]<;>exact Zkk h
def Z36:∀{p:List PE}{x:PE.dens p}{d i:Nat},mX (WY p x) (.c d i)=.pR
 |[],_,_,_=>rfl
 |e::r,x,d,i=>by cases e<;>simp only[WY,Qg,reduceCtorEq,if_false]<;>exact Z36
def my{U T:Ty}{x:T.den}{y:U.den}(h:ay U T x=K1 y):∃e:T=U,y=e▸x:=by
 grind[ay]
section
variable {P:Le}{g:Vc}{W0:fF g}{w w':Lb}{X X':Nat->Prop}{B B' n:Nat}{own:Bool}{s s':St}{F:Key->List Nat}{a:Act}{H H':List Nat}{o:Lh}{tg:Kd}{τ:Tab}{C:Cfg}{gh:Nat->La}
def JX{ln:List Nat}{full:List PE}{xf:PE.dens full}:∀{p:List PE}{x:PE.dens p},JW s full p=K1 x-> ∀k,KT s (Zr9 ln full xf) (s.get k) (mX (WY p x) k)
 |[],_,_,k=>.pR _
 |e::r,x,h,k=>by
  cases e with
  |val m T f=>
   simp only[JW]at h;split at h
   ·rename_i U g y b;split at h
    ·rename_i z q n c d;simp only[pB]at h;subst h;simp only[WY,Qg];split
     ·rename_i e;subst e;obtain⟨rfl,rfl⟩:=my c;rw[b];exact .val (.inr n)
     ·exact JX d k
    ·cases h
   ·cases h
  |box m e T f=>
   simp only[JW]at h;split at h
   ·rename_i u U g y b;split at h
    ·rename_i z q n c d;simp only[pC]at n;simp only[pB]at h;subst h;simp only[WY,Qg];split
     ·rename_i e;subst e;obtain⟨rfl,rfl⟩:=my c;rw[b,pD n.1];exact .box (.inr n.2)
     ·exact JX d k
    ·cases h
   ·cases h
  |ptr m j p=>
   simp only[JW]at h;split at h
   ·rename_i o t b;split at h
    ·rename_i a;simp only[pC]at a;simp only[WY,Qg];split
     ·rename_i e;subst e;rw[b,pD a.1.1,Zcp a.1.2];exact .ptr (Zph a.2)
     ·exact JX h k
    ·cases h
   ·cases h
  |bor m j p=>
   simp only[JW]at h;split at h
   ·rename_i o t b;split at h
    ·rename_i a;simp only[pC,Lx]at a;simp only[WY,Qg];split
     ·rename_i e;subst e;rw[b,pD a.1.1.1,Zcp a.1.1.2];exact .bor a.2 (Zkk a.1.2)
     ·exact JX h k
    ·cases h
   ·cases h
  |shp m T=>
   simp only[JW]at h;split at h
   ·rename_i U y b;split at h
    ·rename_i z q c d;simp only[pB]at h;subst h;simp only[WY,Qg];split
     ·rename_i e;subst e;obtain⟨rfl,rfl⟩:=my c;rw[b];exact .shp
     ·exact JX d k
    ·cases h
   ·cases h
  |elp m j p q=>
   simp only[JW]at h;split at h
   ·rename_i o t i v b;split at h
    ·rename_i z a c;simp only[pC,Lx]at a;simp only[pB]at h;subst h;simp only[WY,Qg];split
     ·rename_i e;subst e;rw[b,pD a.1.1.1.1,Zcp a.1.1.1.2,Zcp a.1.1.2];exact .elp a.2 (Zkk a.1.2)
     ·exact JX c k
    ·cases h
   ·cases h
  |clo m f l=>
   simp only[JW]at h;split at h
   ·rename_i w A b;split at h
    ·rename_i a;simp only[pC]at a;simp only[WY,Qg];split
     ·rename_i e;subst e;rw[b,pD a.1.1,Zcp a.1.2];exact .cl λq d=>Zph (L7.1 a.2 q d)
     ·exact JX h k
    ·cases h
   ·cases h
def R.pat{p:List PE}{x:PE.dens p}(h:R n W0 w X F H s a)(hl:∀p,p∈W0.fix->p.1∈ln)(hp:JW s p p=K1 x):∃F',R n W0 w X F' H (Zr9 ln p x) a:=
 h.weak (λk=>JX hp k) (λ_ _ b=>absurd Z36 b) hl
def YJ:List PE->St->St
 |.val k _ (.u K4)::r,s=>match s.get (.m k)with
  |.val U g x=>match cK U g (.u K4),g.live with
   |false,K3=>YJ r (KJ s k (.val U (.u K4) x))
   |_,_=>YJ r s
  |_=>YJ r s
 |.val k _ (.p (.u K3) (.u K4))::r,s=>match s.get (.m k)with
  |.val (.slice e t) (.u K3) x=>YJ r (KJ s k (.val (.slice e t) .e x))
  |_=>YJ r s
 |.box k _ _ (.u K4)::r,s=>match s.get (.m k)with
  |.box e U g x=>match cK U g (.u K4),g.live with
   |false,K3=>YJ r (Qa7 s k e U x)
   |_,_=>YJ r s
  |_=>YJ r s
 |.box k _ _ (.p a b)::r,s=>match s.get (.m k)with
  |.box _ U g _=>match cK U g (.p a b)with
   |true=>YJ r s
   |false=>YJ r (Qmi s k (.p a b))
  |_=>YJ r s
 |_::r,s=>YJ r s
 |[],s=>s
def Kt(hs0:g.soft=K4):∀{p:List PE}{s:St}{X:Nat->Prop}{F:Key->List Nat},R n W0 w X F H s a-> ∃X' F',R n W0 w X' F' H (YJ p s) a
 |[],s,X,F,h=>⟨X,F,h⟩
 |.val k T (.u K4)::r,s,X,F,h=>by
  simp only[YJ];split
  ·rename_i U g x f;split
   ·rename_i j;exact Kt hs0 (R.frz hs0 h f j)
   ·exact Kt hs0 h
  ·exact Kt hs0 h
 |.val k T (.u K3)::r,s,X,F,h=>Kt hs0 (p:=r) h
 |.val k T (.p o q)::r,s,X,F,h=>by
  unfold YJ;split
  ·simp_all
  ·rename_i c;cases c;split
   ·rename_i e t x f;obtain⟨l,m,i⟩:=R.frzE hs0 h f;exact Kt hs0 i
   ·exact Kt hs0 h
  ·simp_all
  ·simp_all
  ·rename_i c;cases c;exact Kt hs0 (p:=r) h
  simp_all
 |.val k T .d::r,s,X,F,h=>Kt hs0 (p:=r) h
 |.box k v T (.u K4)::r,s,X,F,h=>by
  simp only[YJ];split
  ·rename_i e U g x f;split
   ·rename_i j;obtain⟨l,m,i,_⟩:=R.frzX hs0 h f j;exact Kt hs0 i
   ·exact Kt hs0 h
  ·exact Kt hs0 h
 |.box _ _ _ (.u K3)::r,s,X,F,h=>Kt hs0 (p:=r) h
 |.box k _ _ (.p a b)::r,s,X,F,h=>by
  simp only[YJ];split
  ·split
   ·exact Kt hs0 h
   ·obtain⟨l,m,i⟩:=R.frzP hs0 h k (.p a b);exact Kt hs0 i
  ·exact Kt hs0 h
 |.box _ _ _ .d::r,s,X,F,h=>Kt hs0 (p:=r) h
 |.ptr .. ::r,s,X,F,h=>Kt hs0 (p:=r) h
 |.bor .. ::r,s,X,F,h=>Kt hs0 (p:=r) h
 |.shp .. ::r,s,X,F,h=>Kt hs0 (p:=r) h
 |.elp .. ::r,s,X,F,h=>Kt hs0 (p:=r) h
 |.clo .. ::r,s,X,F,h=>Kt hs0 (p:=r) h
def Qmw(s:St)(r:Nat):Bool:=match s.get (.m r)with|.box .. =>K3|_=>K4
def inL(L:List Nat)(r:Nat):Bool:=L.any (Lc r)
def Z3x(s:St)(L:List Nat):Tm->Tm
 |.val T f x=>.val T f x
 |.box e T f x=>.box e T f x
 |.shp T x=>.shp T x
 |.ptr r p=>match inL L r&&Qmw s r with|true=>.ptr r p|false=>.pR
 |.pls h l=>match l.all (λq=>inL L q.1&&Qmw s q.1)with|true=>.pls h l|false=>.pR
 |_=>.pR
def Zn2(L:List Nat)(s:St):St:={env:=L.map λk=>(.m k,Z3x s L (s.get (.m k))),pP:=[],pQ:=s.pQ}
def Z30:List (Key×Tm)->List Nat
 |[]=>[]
 |(.m k,_)::r=>match inL (Z30 r) k with|true=>Z30 r|false=>k::Z30 r
 |_::r=>Z30 r
def Zn3(L:List Nat)(s:St)(k:Key):(Zn2 L s).get k=match k with|.m t=>(match inL L t with|true=>Z3x s L (s.get (.m t))|false=>.pR)|.c _ _=>.pR:=by
 have a:∀M:List Nat,mX (M.map λk=>(Key.m k,Z3x s L (s.get (.m k)))) k=match k with|.m t=>(match inL M t with|true=>Z3x s L (s.get (.m t))|false=>.pR)|.c _ _=>.pR:=by
  intro M
  induction M with
  |nil=>cases k<;>rfl
  |cons m M b=>
   rw[List.map_cons,Qg,b];cases k with
   |c t i=>simp
   |m t=>
    by_cases h:m=t
    ·simp_all[inL]
    ·have:inL (m::M) t=inL M t:=by simp only[inL,L8];rw[show Lc t m=K4 by rw[Bool.eq_false_iff];grind[pD]];rfl
     simp_all
 exact a L
def Z3y{s:St}{r:Nat}(h:(inL L r&&Qmw s r)=K3):∃e T f x,(Zn2 L s).get (.m r)=.box e T f x:=by
 simp only[pC]at h;unfold Qmw at h;rw[Zn3];simp only[h.1];have a:=h.2;split at a
 ·rename_i e T f x b;rw[b];exact⟨e,T,f,x,rfl⟩
 ·cases a
def R.keep(h:R n W0 w X F H s a):∃F',R n W0 w X F' H (Zn2 L s) a:=by
 refine h.weak (λk=>?_) (λd i b=>absurd (Zn3 L s (.c d i)) b) (λp f=>(h.fix p f).1);rw[Zn3];cases k with
 |c t i=>exact .pR _
 |m t=>
  simp only;split
  ·generalize s.get (.m t)=u;cases u with
   |val=>exact .val (.inl rfl)
   |box=>exact .box (.inl rfl)
   |shp=>exact .shp
   |ptr r p=>
    simp only[Z3x];split
    ·rename_i e;exact .ptr (Z3y e)
    ·exact .pR _
   |pls j l=>
    simp only[Z3x];split
    ·rename_i e;exact .pls λq g=>Z3y (L7.1 e q g)
    ·exact .pR _
   |_=>exact .pR _
  ·exact .pR _
def Qrr(C:Cfg)(s:St)(o:Lh):Bool:=
 match o.guard,o.op with
 |none,.call {callee:=.value fo,..}=>match Z5x s [] fo with
  |some f=>(C.ΓL.find f).isSome
  |none=>K4
 |_,_=>K4
noncomputable def Qkw{ρ:Type}(C:Cfg)(n:Nat)(ops:Array Lh)(o:Lh)(s:St)(k:St->Option ρ):Option ρ:=
 match Qdw C s o with
 |some (E,ts)=>Qmq C.τ n s o.dst E ts k
 |none=>match gdB C s ops o with
 |some (g,b,d,f,xs)=>Qmk C n o s g b d f xs k
 |none=>match Qcz C s o with
 |some (f,xs)=>Zy0 C.ΓB n s o.dst f xs.toList k
 |none=>match Qrr C s o with
 |true=>match o.guard,o.op with
  |none,.call {callee:=.value fo,args:=xs,..}=>match Z5x s [] fo with
   |some f=>Qje C.ΓL n s o.dst f xs.toList k
   |none=>K2
  |_,_=>K2
 |false=>Z14 C n ops o s k
def Z92(hC:C.ok P g){ops:Array Lh}(h:R n W0 w X F [] s a){k:St->Option ρ}{r:ρ}(hs:Qkw C n ops o s k=K1 r){K:Act->Lb->Prop}{Q:Exit->Act->Lb->Prop}
  (hK:∀w' a' X' F' s',k s'=K1 r->R n W0 w' X' F' [] s' a'->K a' w'):ite (Lu o (yielded ops a.tmps)) (o.wp P a w K Q) (K (a.put o.dst undef) w):=by
 unfold Qkw at hs;split at hs
 ·rename_i E G u;obtain⟨i,x,H,y,z,A⟩:=Zv0 hC h u;rw[if_pos (by simp[Lu,i])];exact Zz6 hC.τ x h y z A hs λv w' X' F' s' hk c=>hK w' _ X' F' s' hk c
 split at hs
 ·rename_i I b d f t j;exact Zzy hC h j hs λv w' X' F' s' hk c _ _=>hK w' _ X' F' s' hk c
 split at hs
 ·rename_i f t e;unfold Qcz at e;split at e
  ·rename_i B D l m i p;split at e
   ·rename_i J q;split at e
    ·simp only[pB,pF]at e;obtain⟨rfl,rfl⟩:=e;rw[if_pos (by simp[Lu,i])];exact Ziy (hC.soft.trans m) hC.ΓB h (zD h di q) p hs λv w' X' F' s' hk c _ _=>hK w' _ X' F' s' hk c
    ·cases e
   ·cases e
  ·cases e
 split at hs
 ·split at hs
  ·rename_i B t l i p;split at hs
   ·rename_i f q;rw[if_pos (by simp[Lu,i])];exact Z81 hC.ΓL h (zD h di q) p hs λv w' X' F' s' hk c=>hK w' _ X' F' s' hk c
   ·cases hs
  ·cases hs
 ·exact Zkw hC h hs λw' a' X' F' s' hk c _=>hK w' a' X' F' s' hk c
noncomputable def Qca{ρ:Type}(C:Cfg)(n:Nat)(ops:Array Lh):List Lh->St->(St->Option ρ)->Option ρ|[],s,k=>k (Zvt s)|o::r,s,k=>Qkw C n ops o s λs'=>Qca C n ops r s' k
def Zsh{ρ:Type}(hC:C.ok P g){ops:Array Lh}{k:St->Option ρ}{r:ρ}{Q:Exit->Act->Lb->Prop}
  (hK:∀w' a' X' F' s',k s'=K1 r->R n W0 w' X' F' [] s' a'->Q .normal a' w'):
  ∀{l:List Lh}{s:St}{w:Lb}{X:Nat->Prop}{F:Key->List Nat}{a:Act},R n W0 w X F [] s a->Qca C n ops l s k=K1 r->wpList P ops Q l a w
 |[],s,w,X,F,a,h,b=>by
  obtain⟨F',d⟩:=h.clean;exact hK w a X F' _ b d
 |o::l,s,w,X,F,a,h,b=>by
  refine wpList_step λK c=>?_;exact Z92 hC h b λw' a' X' F' s' hk e=>c _ _ (Zsh hC hK e hk)
inductive An(ρ:Type) where
 |leaf
 |seq (a b:An ρ)
 |cond (a b:An ρ)
 |block (a:An ρ)
 |loop (p:List PE) (f:Nat->PE.dens p->Option ρ) (fuel:PE.dens p->Nat) (a:(PE.dens p->Option ρ)->An ρ)
 |join (p:List PE) (f:PE.dens p->Option ρ) (a b:An ρ)
 |unroll (L:List Nat) (m:Nat) (a:Nat->An ρ)
 |frz (L:List (Nat×Fl))
def Qa6{ρ:Type}(sf:Bool)(A:An ρ)(s:St):St:=match A with
 |.frz L=>match sf with|true=>s|false=>Zvt (Qiu L s)
 |_=>s
def ZP{ρ:Type}(k1:St->Option ρ)(k:Exit->St->Option ρ):Exit->St->Option ρ|.normal,s=>k1 s|e,s=>k e s
def Zit{ρ:Type}(id:Nat)(k:Exit->St->Option ρ):Exit->St->Option ρ
 |.exit j,s=>match Lc j id with|true=>k .normal s|false=>k (.exit j) s
 |e,s=>k e s
def Qul(sf:Bool)(p:List PE)(s:St):St:=match sf with|true=>s|false=>YJ p s
def Zjo{ρ:Type}(sf:Bool)(p:List PE)(f:PE.dens p->Option ρ):St->Option ρ:=λs=>match JW (Qul sf p s) p p with
 |some v=>f v
 |none=>K2
def Zha{ρ:Type}(f:Nat->(St->Option ρ)->St->Option ρ):Nat->St->Option ρ|0=>λ_=>K2|m+1=>f m (Zha f m)
noncomputable def Jw{ρ:Type}(C:Cfg)(n:Nat):Li->An ρ->(Exit->St->Option ρ)->St->Option ρ
 |.skip,_,k,s=>k .normal s
 |.region _ ops draw,A,k,s=>match draw with
  |false=>Qca C n ops ops.toList (Qa6 C.soft A s) (k .normal)
  |true=>match Region.noSelect ops with
   |true=>Zeb C n ops (Qqo (Qa6 C.soft A s) ops) ops.size (Array.replicate ops.size K4) (Qa6 C.soft A s) (k .normal)
   |false=>K2
 |.seq a b,A,k,s=>match A with
  |.seq A B=>Jw C n a A (ZP (Jw C n b B k) k) s
  |.join p f A _=>Jw C n a A (ZP (Zjo C.soft p f) k) s
  |_=>Jw C n a .leaf (ZP (Jw C n b .leaf k) k) s
 |.cond x a b,A,k,s=>match cT s (op1 s [] x) .bool with
  |some c=>match A with
   |.cond A B=>cond c (Jw C n a A k s) (Jw C n b B k s)
   |_=>cond c (Jw C n a .leaf k s) (Jw C n b .leaf k s)
  |none=>K2
 |.block id b,A,k,s=>match A with
  |.block A=>Jw C n b A (Zit id k) s
  |_=>Jw C n b .leaf (Zit id k) s
 |.loop b,A,k,s=>match A with
  |.loop p f fuel _=>Zjo C.soft p (λv=>f (fuel v) v) s
  |.unroll L m A=>Zha (λi kk s=>Jw C n b (A i) (ZP kk k) (Zn2 L s)) m s
  |.leaf=>Zha (λ_ kk s=>Jw C n b .leaf (ZP kk k) (Zn2 (Z30 s.env) s)) 6 s
  |_=>K2
 |.exit id,_,k,s=>k (.exit id) s
 |.ret,A,k,s=>k .ret (Qa6 C.soft A s)
 |_,_,_,_=>K2
def aW{ρ:Type}(C:Cfg)(n:Nat):Li->An ρ->(Exit->St->Option ρ)->Prop
 |.seq a b,A,k=>match A with
  |.seq A B=>aW C n a A (ZP (Jw C n b B k) k)/\aW C n b B k
  |.join p f A B=>aW C n a A (ZP (Zjo C.soft p f) k)/\(∀v,f v=Jw C n b B k (Zr9 C.pQ p v))/\aW C n b B k
  |_=>True
 |.cond _ a b,A,k=>match A with
  |.cond A B=>aW C n a A k/\aW C n b B k
  |_=>True
 |.block id b,A,k=>match A with
  |.block A=>aW C n b A (Zit id k)
  |_=>True
 |.loop b,A,k=>match A with
  |.loop p f _ A=>(∀v,f 0 v=K2)/\ ∀N,(∀v,f (N+1) v=Jw C n b (A (f N)) (ZP (Zjo C.soft p (f N)) k) (Zr9 C.pQ p v))/\aW C n b (A (f N)) (ZP (Zjo C.soft p (f N)) k)
  |.unroll L m A=> ∀i,i<m->aW C n b (A i) (ZP (Zha (λi kk s=>Jw C n b (A i) (ZP kk k) (Zn2 L s)) i) k)
  |_=>True
 |_,_,_=>True
def Qg3{ρ:Type}{g:Vc}(n:Nat)(W0:fF g)(k:Exit->St->Option ρ)(r:ρ):Exit->Act->Lb->Prop:=λe a w=> ∃s X F,k e s=K1 r/\R n W0 w X F [] s a
theorem Kz(c:Li)(k:Exit->St->Option ρ):aW C n c .leaf k:=by
 cases c<;>simp[aW]
def Zn1(hC:C.ok P g)(hl:∀p,p∈W0.fix->p.1∈C.pQ){p:List PE}{f:PE.dens p->Option ρ}{r:ρ}(h:R n W0 w X F H s a)(hj:Zjo C.soft p f s=K1 r):∃v X' F',f v=K1 r/\R n W0 w X' F' H (Zr9 C.pQ p v) a:=by
 unfold Zjo at hj;split at hj
 ·rename_i v hv;obtain⟨b,c,d⟩:∃b c,R n W0 w b c H (Qul C.soft p s) a:=by
   cases hsf:C.soft
   ·exact Kt (hC.soft.trans hsf) (p:=p) h
   ·exact⟨X,F,h⟩
  obtain⟨F',e⟩:=d.pat hl hv
  grind
 ·cases hj
def R.frzA(hC:C.ok P g)(A:An ρ)(h:R n W0 w X F [] s a):∃X' F',R n W0 w X' F' [] (Go.Am.Qa6 C.soft A s) a:=by
 unfold Go.Am.Qa6;split
 ·rename_i L;cases hsf:C.soft
  ·obtain⟨c,d,b⟩:=Zvz (hC.soft.trans hsf) (L:=L) h;obtain⟨e,f⟩:=b.clean
   grind
  grind
 grind
def Qpc{I:Nat->Prop}(h:∃N,I N):∃N,I N/\ ∀M,I M->N<=M:=by
 obtain⟨N,a⟩:=h
 induction N using Nat.strongRecOn with
 |_ N b=>
  grind
def Znt(hC:C.ok P g)(hl:∀p,p∈W0.fix->p.1∈C.pQ){r:ρ}:∀{c:Li}{A:An ρ}{k:Exit->St->Option ρ}{s:St}{w:Lb}{X:Nat->Prop}{F:Key->List Nat}{a:Act},
  aW C n c A k->Jw C n c A k s=K1 r->R n W0 w X F [] s a->c.wp P (Qg3 n W0 k r) a w:=by
 intro c
 induction c with
 |skip=>intro A k s w X F a _ d h;exact wp_skip ⟨s,X,F,d,h⟩
 |region Y a1 ar=>
  intro A k s w X F a _ d h;simp only[Jw]at d;obtain⟨X,F,h⟩:=h.frzA hC A;generalize Qa6 C.soft A s=s at d h;split at d
  ·exact wp_region_list (Zsh hC (λG H q t u hk E=>⟨u,q,t,hk,E⟩) h d)
  ·split at d
   ·rename_i hB;have Q:R n W0 {w with drawn:=w.drawn+1} X F [] s a:=h.world (h.below.step (L2 _ w).drew) (Ld _) (λ_ _=>rfl) (λ_ _ _=>rfl);exact wp_region_any hC.follows (Z2i (Qn:=λH G=>Qg3 n W0 k r .normal H G) (λ_ _ h=>h) _ _ _ _
     (Zg2 (Sh:=λ_=>False) hC (Region.noSelect_spec hB) (λi r hr j o ho=>Qhk hr ho) (λG H q t u hk E=>⟨u,q,t,hk,E⟩) (λm o _ hm=>by simp only[Array.getD_eq_getD_getElem?,Array.getElem?_replicate]at hm;grind) Q (λ_ h=>h.elim) d))
   ·cases d
 |seq x y Z S=>
  intro A k s w X F a J d h;have au:∀{A B:An ρ},aW C n x A (ZP (Jw C n y B k) k)->aW C n y B k->Jw C n x A (ZP (Jw C n y B k) k) s=K1 r->(Li.seq x y).wp P (Qg3 n W0 k r) a w:=by
   intro A B h1 Q h3;refine wp_seq (wp_mono (Z h1 h3 h) λe H G K=>?_);obtain⟨u,q,t,hk,E⟩:=K;cases e with
   |normal=>exact S Q hk E
   |_=>exact⟨u,q,t,hk,E⟩
  cases A with
  |seq A B=>grind[Jw,aW]
  |join p f A B=>
   simp only[Jw]at d;simp only[aW]at J;refine wp_seq (wp_mono (Z J.1 d h) λe H G K=>?_);obtain⟨u,q,t,hk,E⟩:=K;cases e with
   |normal=>
    obtain⟨v,X2,F2,hv,U⟩:=Zn1 hC hl E hk;rw[J.2.1]at hv;exact S J.2.2 hv U
   |_=>exact⟨u,q,t,hk,E⟩
  |leaf=>grind[Jw,Kz]
  |cond=>grind[Jw,Kz]
  |block=>grind[Jw,Kz]
  |loop=>grind[Jw,Kz]
  |unroll=>grind[Jw,Kz]
  |frz=>grind[Jw,Kz]
 |cond x y z S a2=>
  intro A k s w X F a J d h;simp only[Jw]at d;split at d
  ·rename_i b hb;have hv:=rH h di hb;have l:∀{A B:An ρ},aW C n y A k->aW C n z B k->(cond b (Jw C n y A k s) (Jw C n z B k s))=K1 r->(Li.cond x y z).wp P (Qg3 n W0 k r) a w:=by
    grind[wp_cond_split]
   cases A with
   |cond A B=>grind[aW]
   |leaf=>exact l (Kz _ _) (Kz _ _) d
   |seq=>exact l (Kz _ _) (Kz _ _) d
   |block=>exact l (Kz _ _) (Kz _ _) d
   |loop=>exact l (Kz _ _) (Kz _ _) d
   |join=>exact l (Kz _ _) (Kz _ _) d
   |unroll=>exact l (Kz _ _) (Kz _ _) d
   |frz=>exact l (Kz _ _) (Kz _ _) d
  ·cases d
 |block Y b ih=>
  intro A k s w X F a J d h;have O:∀{A:An ρ},aW C n b A (Zit Y k)->Jw C n b A (Zit Y k) s=K1 r->(Li.block Y b).wp P (Qg3 n W0 k r) a w:=by
   intro A h1 Q;refine wp_block (wp_mono (ih h1 Q h) λe H G K=>?_);obtain⟨u,q,t,hk,E⟩:=K;cases e with
   |exit j=>
    simp only[Zit]at hk;simp only[Exit.inBlock];split at hk
    ·rename_i hb;rw[if_pos (pD hb)];exact⟨u,q,t,hk,E⟩
    ·rename_i hb;rw[if_neg (λe=>Ac)];exact⟨u,q,t,hk,E⟩
   |_=>exact⟨u,q,t,hk,E⟩
  cases A with
  |block A=>grind[Jw,aW]
  |_=>simp only[Jw]at d;exact O (Kz _ _) d
 |loop b ih=>
  intro A k s w X F a J d h;cases A with
  |loop p f a0 A=>
   simp only[Jw]at d;simp only[aW]at J;obtain⟨h0,hN⟩:=J;obtain⟨v,X2,F2,hv,U⟩:=Zn1 hC hl h d
   classical
   let I:Nat->Act->Lb->Prop:=λN a w=> ∃v X F,f N v=K1 r/\R n W0 w X F [] (Zr9 C.pQ p v) a
   let μ:Act->Lb->Nat:=λa w=>if h:∃N,I N a w then(Qpc h).choose else 0
   refine wp_loop (λa w=> ∃N,I N a w) μ ⟨_,v,X2,F2,hv,U⟩ λa w hI=>?_;have a3:I (μ a w) a w:=by
    grind
   obtain⟨v,X,F,hv,E⟩:=a3;generalize hM:μ a w=M at hv;cases M with
   |zero=>simp_all
   |succ N=>
    obtain⟨h1,Q⟩:=hN N;rw[h1]at hv;refine wp_mono (ih Q hv E) λe H G K=>?_;obtain⟨u,q,t,hk,D⟩:=K;cases e with
    |normal=>
     obtain⟨v',X3,F3,ad,am⟩:=Zn1 hC hl D hk;have ab:I N H G:=⟨v',X3,F3,ad,am⟩
     have V:∃N,I N H G:=⟨N,ab⟩
     refine⟨V,?_⟩;have:μ H G<=N:=by
      simp only[μ,dif_pos V];exact(Qpc V).choose_spec.2 N ab
     omega
    |_=>exact⟨u,q,t,hk,D⟩
  |unroll L m A=>
   simp only[Jw]at d;simp only[aW]at J;refine wp_loop_rounds m ?_
   induction m generalizing s w X F a with
   |zero=>cases d
   |succ m W=>
    simp only[Zha]at d;obtain⟨F0,h0⟩:=R.keep (L:=L) h;refine wp_mono (ih (J m (Nat.lt_succ_self m)) d h0) λe H G K=>?_;obtain⟨u,q,t,hk,D⟩:=K;cases e with
    |normal=>exact W D (λi hi=>J i (Nat.lt_succ_of_lt hi)) hk
    |_=>exact⟨u,q,t,hk,D⟩
  |leaf=>
   simp only[Jw]at d;refine wp_loop_rounds 6 ?_;generalize 6=m at d
   induction m generalizing s w X F a with
   |zero=>cases d
   |succ m W=>
    simp only[Zha]at d;obtain⟨F0,h0⟩:=R.keep (L:=Z30 s.env) h;refine wp_mono (ih (Kz _ _) d h0) λe H G K=>?_;obtain⟨u,q,t,hk,D⟩:=K;cases e with
    |normal=>exact W D hk
    |_=>exact⟨u,q,t,hk,D⟩
  |_=>simp[Jw]at d
 |exit Y=>intro A k s w X F a _ d h;exact wp_exit ⟨s,X,F,d,h⟩
 |ret=>
  intro A k s w X F a _ d h;simp only[Jw]at d;obtain⟨X,F,h⟩:=h.frzA hC A;exact wp_ret ⟨_,X,F,d,h⟩
 |rangeFunc=>simp_all[Jw]
 |scope=>simp_all[Jw]
 |label=>simp_all[Jw]
 |goto=>simp_all[Jw]
 |refuse=>simp_all[Jw]
inductive FA where
 |leaf|seq (a b:FA)|cond (a b:FA)|block (a:FA)|frz (L:List (Nat×Fl))
def FA.an{ρ:Type}:FA->An ρ|.leaf=>.leaf|.seq a b=>.seq a.an b.an|.cond a b=>.cond a.an b.an|.block a=>.block a.an|.frz L=>.frz L
def FA.conds{ρ:Type}{C:Cfg}{n:Nat}:∀(A:FA)(c:Li)(k:Exit->St->Option ρ),Go.Am.aW C n c A.an k
 |.leaf,c,k=>Kz c k
 |.seq a b,c,k=>by cases c<;>simp only[FA.an,Go.Am.aW];exact⟨FA.conds a _ _,FA.conds b _ _⟩
 |.cond a b,c,k=>by cases c<;>simp only[FA.an,Go.Am.aW];exact⟨FA.conds a _ _,FA.conds b _ _⟩
 |.block a,c,k=>by cases c<;>simp only[FA.an,Go.Am.aW];exact FA.conds a _ _
 |.frz L,c,k=>by cases c<;>simp only[FA.an,Go.Am.aW]
def Y6.of{C:Cfg}(hC:∀ln,({C with pQ:=ln}:Cfg).ok P g){E:nR}(hf:P.funcs[E.f]? =K1 fn)(hb:fn.body=K1 c)(hcall:∀args w,(callFunc E.f args).run P w=.ok (.enter E.f args) w)
  (hle:E.np<=E.n/\E.n<=1048576) (hn:fn.ntmps=E.n) (hrv:fn.results.toList=E.rv) (A:FA) (hrun:∀{ρ:Type}(ln:List Nat)(k:Exit->St->Option ρ)(s:St),E.run ln k s=Jw {C with pQ:=ln} E.n c A.an k s):Y6 P g E where
 enters:=hcall
 le:=hle
 code:=⟨fn,c,hf,hb,hn,hrv,λ{ρ k r ln e w X F s a} b d h=>by
  rw[hrun]at b;exact Znt (hC ln) d (A.conds c k) b h⟩
end
section
variable {P:Le}{g:Vc}{W0:fF g}{w w':Lb}{X X':Nat->Prop}{B B' n:Nat}{own:Bool}{s s':St}{F:Key->List Nat}{a:Act}{H H':List Nat}{o:Lh}{tg:Kd}{τ:Tab}{C:Cfg}{gh:Nat->La}
def nD(hB:own=K4\/B'<=B)(hX:own=K3\/ ∀b,X b->X' b):∀{T:Ty}{x:T.den}{vs:List La}{S:List Nat},rd w X B own T x vs S->rd w X' B' own T x vs S
 |.unit,_,_,_,h|.int _,_,_,_,h|.bool,_,_,_,h|.fnc _,_,_,_,h|.str,_,_,_,h=>h
 |.slice _ _,_,_,_,⟨v,l,g,i,e,j,d,f⟩=>by
  refine⟨v,l,g,i,e,j,?_,J6 f λ_ _ _ _ _ h=>nD hB hX h⟩;cases own
  ·have hX:=hX.resolve_left Ae;obtain⟨m,p,a,k,q,r,s,u⟩:=d;exact⟨m,p,a,k,q,r,s,u.imp id λ⟨z,A,C,D⟩=>⟨z,A,C.imp id (hX _),D⟩⟩
  ·exact⟨Zgu d.1 (hB.resolve_left Ae),d.2⟩
 |.pair a b,_,_,_,⟨E,F,g,i,e,j,d,f⟩=>⟨E,F,g,i,e,j,nD hB hX d,nD hB hX f⟩
 |.arr n t,_,_,_,⟨h,G⟩=>⟨h,J6 G λ_ _ _ _ _ h=>nD hB hX h⟩
 |.err,_,_,_,h=>h
 |.hid _,_,_,_,⟨e,y,h⟩=>⟨e,y,nD hB hX h⟩
 |.sptr ..,_,_,_,⟨e,o,b,c,d,f,H,I⟩=>⟨e,o,b,c,d,hX.resolve_left (by simp[o]) b f,H,nD hB hX I⟩
 |.clo ..,_,_,_,⟨e,J,d,f⟩=>⟨e,J,d,nD hB hX f⟩
def Zvy(τ:Tab):(ts:List Ty)->List ResultVar->St->Option (dp ts)
 |[],[],_=>K1 ()
 |t::ts,.tmp k::rs,s=>match VC s (op1 s [] (.tmp k)) t with
  |some q=>match cK q.T q.f (.u K3),ay t q.T q.x,Zvy τ ts rs q.s with
   |true,K1 x,K1 xs=>K1 (x,xs)
   |_,_,_=>K2
  |none=>K2
 |t::ts,.cell k e::rs,s=>match s.get (.m k),τ e with
  |.box e0 U f y,K1 U'=>match(Lq k 1048576&&Ln (U=U'))&&cK U f (.u K3),ay t U y,Zvy τ ts rs (bY s k (.box e0 U .d y))with
   |true,K1 x,K1 xs=>K1 (x,xs)
   |_,_,_=>K2
  |_,_=>K2
 |_,_,_=>K2
def fnK(τ:Tab)(ts:List Ty)(rs:List ResultVar):Exit->St->Option (dp ts)|.ret,s|.normal,s=>Zvy τ ts rs s|_,_=>K2
def Zi9(hτ:τ.ok P):∀{ts:List Ty}{rs:List ResultVar}{s:St}{F:Key->List Nat}{H:List Nat}{xs:dp ts},R n W0 w X F H s a->Zvy τ ts rs s=K1 xs->
  ∃vs S,(rs.mapM (uS a)).run P w=.ok vs w/\wj w W0.B ts xs vs S/\S.Nodup/\ ∀b∈S,b∉H
 |[],[],s,F,H,xs,h,g=>⟨[],[],Ae,⟨rfl,rfl⟩,Ae,Ae⟩
 |t::ts,.tmp k::rs,s,F,H,xs,h,g=>by
  simp only[Zvy]at g;split at g
  ·rename_i q Q;split at g
   ·rename_i x C o hx l;simp only[pB]at g;subst g;obtain⟨_,F1,i,r,V,W,p,_,_⟩:=eL h di Q;obtain⟨rfl,rfl⟩:=my hx;obtain⟨vs,S,Y,D,K,L⟩:=Zi9 hτ p l;refine⟨_,i++S,?_,⟨r,vs,i,S,rfl,rfl,nD (.inr (Ld _)) (.inl rfl) (by have:=oI o W;unfold rdF at this;exact this),D⟩,?_,?_⟩
    ·have E:(a.tmps.getD k undef)=Jd q.T r:=V;simp_all[uS]
    ·exact Lg.2 ⟨(Lg.1 p.pK).1,K,λx hx y z e=>L y z Ac⟩
    ·intro b hb Z;rcases Md.1 hb with hb|hb
     ·exact(Lg.1 p.pK).2.2 b hb b Z rfl
     simp_all
   ·cases g
  ·cases g
 |t::ts,.cell k e::rs,s,F,H,xs,h,g=>by
  simp only[Zvy]at g;split at g
  ·rename_i e' U f y U' M hU;split at g
   ·rename_i x C o hx l;simp only[pC,decide_eq_true_eq]at o;obtain⟨⟨G,rfl⟩,o⟩:=o;simp only[pB]at g;subst g;obtain⟨rfl,rfl⟩:=my hx;have hs:=h.slots (.m k);rw[M]at hs;obtain⟨b,c,i,N,g2,O,A⟩:=hs;have v:=h.nodup (.m k);rw[g2]at v;have p:R n W0 w X (Xm F (.m k) [b]) (i++H) (bY s k (.box e' U .d x)) a:=by
     refine h.turn (S':=[b]) (H':=i++H) h.below (Ld _) (λ_ _=>rfl) (λ_ _ _ _=>rfl) ?_ ?_ (by rw[M];simp) ?_ ?_
     ·simp_all
     ·have hd:∀I∈b::i,I∉H:=λI ab=>h.pL (.m k) I Ac;refine Lg.2 ⟨Ae,Lg.2 ⟨(L0.1 v).2,h.pK,λx hx y z e=>hd x (by simp[hx]) (by rw[e];exact z)⟩,λx hx y z e=>?_⟩;simp_all
     ·grind
     ·exact⟨b,c,[],N,rfl,O,by unfold rdF;exact⟨K0 A,oH A,rfl⟩⟩
    obtain⟨vs,S,Y,D,K,L⟩:=Zi9 hτ p l;have am:=p.pK;refine⟨_,i++S,?_,⟨c.toList,vs,i,S,rfl,rfl,nD (.inr (Ld _)) (.inl rfl) (by have:=oI o A;unfold rdF at this;exact this),D⟩,?_,?_⟩
    ·have E:(a.tmps.getD k undef)=.pointer (K1 ⟨b,0,K2⟩):=(Jf W0 a G).symm.trans N;have J:=(hτ _ _ hU).load (w:=w) (ad:=⟨b,0,K2⟩) (vs:=c.toList) (K0 A) (λj u hj=>by
      rw[nS w O,<-Array.getElem?_toList,Lt];exact hj)
     simp_all[uS,asAddr]
    all_goals grind
   ·cases g
  ·cases g
 |[],.tmp _::_,_,_,_,_,_,g|[],.cell .. ::_,_,_,_,_,_,g|_::_,[],_,_,_,_,_,g=>by simp[Zvy]at g
def Qom:(t:Ty)->t.den->Tm|.sptr _ t,x=>.shp t x|t,x=>.val t (.u K4) x
def Qhf:(ts:List Ty)->dp ts->Nat->List (Key×Tm)|[],_,_=>[]|t::ts,x,i=>(.m i,Qom t x.1)::Qhf ts x.2 (i+1)
def Qcu(ts:List Ty)(x:dp ts):St:={env:=Qhf ts x 0,pP:=[]}
def Zyt(a:Act):∀{ts:List Ty}{x:dp ts}{vals pre:List La}{i:Nat},Zbq w X 0 ts x vals->pre.length=i->a.tmps.toList.take (pre.length+vals.length)=pre++vals->
  ∀k,vt W0.gh w X W0.B s F a (Xj W0.gh a k) [] (mX (Qhf ts x i) k)/\(∀d j,k=.c d j->mX (Qhf ts x i) k=.pR)
 |[],_,_,_,_,_,_,_,k=>⟨rfl,λ_ _ _=>rfl⟩
 |t::ts,x,vals,pre,i,h,o,E,k=>by
  obtain⟨g,p,rfl,n,q⟩:=h;have r:=Zyt a (pre:=pre++[Jd t g]) (i:=i+1) q (by simp[o]) Ag k;simp only[Qhf,Qg];split
  ·rename_i e;subst e;refine⟨?_,λ_ _ v=>by simp at v⟩;have l:Xj W0.gh a (.m i)=Jd t g->vt W0.gh w X W0.B s F a (Xj W0.gh a (.m i)) [] (Qom t x.1):=λhv=>by
    have f:vt W0.gh w X W0.B s F a (Xj W0.gh a (.m i)) [] (.val t (.u K4) x.1):=⟨g,hv,by unfold rdF;exact nD (.inl rfl) (.inr λ_ h=>h) n⟩
    cases t with
    |sptr G H=>
     obtain⟨_,_,b,c,y,z,A,C⟩:=n;refine⟨rfl,⟨b,0,K2⟩,c.toList,by rw[hv,y];rfl,z,λj u D=>?_,nD (.inl rfl) (.inr λ_ h=>h) C⟩;rw[nS w A,<-Array.getElem?_toList,Lt];exact D
    |_=>exact f
   refine l ?_;have:a.tmps.toList[i]? =K1 (Jd t g):=by
    have I:(a.tmps.toList.take (pre.length+(Jd t g::p).length))[i]? =K1 (Jd t g):=Ac
    grind
   simp_all[Xj,xQ]
  ·exact r
def Z1k:∀{ts:List Ty}{x:dp ts}{vs:List La},Zbq w X B ts x vs->vs.length=ts.length
 |[],_,_,h=>by rw[show _=[]from h];rfl
 |t::ts,x,vs,⟨_,a,e,_,h⟩=>by rw[e];simp[Z1k h]
def lh.of{e:FnE}(hC:C.ok P g)(hsf:C.soft=false:=by rfl)(hf:P.funcs[e.f]? =K1 fn)(hb:fn.body=K1 c)(hcall:∀args w,(callFunc e.f args).run P w=.ok (.enter e.f args) w)
  (hn:e.args.length<=fn.ntmps) (A:An (dp e.res)) (hA:aW C fn.ntmps c A (fnK C.τ e.res fn.results.toList))
  (hF:∀xs r,e.F xs=K1 r->Jw C fn.ntmps c A (fnK C.τ e.res fn.results.toList) (Qcu e.args xs)=K1 r):lh P g e where
 enters:=hcall
 calls:=λw xs r a j hx q=>by
  have G:=Z1k hx;refine calls_of_wp hf hb ?_
  let a0:Act:={tmps:=a.toArray++Array.replicate (fn.ntmps-a.toArray.size) undef,defers:=[]}
  have t:R fn.ntmps (fF.plain g w (hC.soft.trans hsf)) w (· <w.heap.size) (λ_=>[]) [] (Qcu e.args xs) a0:=by
   have l:=λk=>Zyt (W0:=fF.plain g w (hC.soft.trans hsf)) (s:=Qcu e.args xs) (F:=λ_=>[]) a0 (pre:=[]) (i:=0) hx rfl (by simp[a0]) k;exact
    {size:=by simp[a0];omega
     defers:=rfl
     below:=⟨rfl,rfl,rfl,Ld _,λ_ _=>rfl⟩
     glob:=j
     gx:=λb hb=>g.lt _ _ j hb
     xs:=λe=>Lw ((hC.soft.trans hsf).symm.trans e)
     fix:=λp m=>by cases m
     xlt:=λb hb=>hb
     xin:=λb hb=>.inl hb
     x0:=λb hb=>hb
     own:=Ae
     nodup:=Ae
     pS:=Ae
     hown:=Ae
     pK:=Ae
     pL:=Ae
     pM:=λd i u=>absurd ((l (.c d i)).2 d i rfl) u
     slots:=λk=>(l k).1}
  refine wp_mono (Znt hC (λp m=>by cases m) hA (hF xs r q) t) λx o n m=>?_;obtain⟨y,H,I,hk,h⟩:=m;have fin:Zvy C.τ e.res fn.results.toList y=K1 r->o.defers=[]/\ ∃v,(results fn o.tmps).run P n=.ok v n/\ ∃rs S,L5 v=.returned (ba rs)/\wj n w.heap.size e.res r rs S/\S.Nodup/\Below w.heap.size w n:=by
   intro hk;obtain⟨z,S,B,D,E,_⟩:=Zi9 hC.τ h hk;exact⟨h.defers,_,JZ B,z,S,rfl,D,E,h.below.os,h.below.tape,h.below.output,h.below.size,h.below.block⟩
  cases x with
  |normal=>exact fin hk
  |ret=>exact fin hk
  |_=>simp[fnK]at hk
end
def Zp0:(as:List AK)->Zhe as->Nat->List (Key×Tm)|[],_,_=>[]|.sh t::r,x,i=>(.m i,.val t (.u K4) x.1)::Zp0 r x.2 (i+1)|.bx e t o::r,x,i=>(.m i,.box e t o x.1)::Zp0 r x.2 (i+1)|.mv t f::r,x,i=>(.m i,.val t f x.1)::Zp0 r x.2 (i+1)
def pj:List AK->Nat->List Nat|[],_=>[]|.sh _::r,i=>pj r (i+1)|.bx _ _ _::r,i=>i::pj r (i+1)|.mv .. ::r,i=>pj r (i+1)
def Zyu(as:List AK)(x:Zhe as):St:={env:=Zp0 as x 0,pP:=[],pQ:=pj as 0}
def vk:List AK->List La->Nat->List (Nat×La)|.sh _::r,_::vs,i=>vk r vs (i+1)|.bx _ _ _::r,v::vs,i=>(i,v)::vk r vs (i+1)|.mv .. ::r,_::vs,i=>vk r vs (i+1)|_,_,_=>[]
def Qgf(s:St):(as:List AK)->Nat->Option (JJ as)
 |[],_=>K1 ()
 |.sh _::r,i=>Qgf s r (i+1)
 |.bx e T o::r,i=>match s.get (.m i)with
  |.box e' U f y=>match Lc e' e&&Ztw o f U,ay T U y,Qgf s r (i+1)with
   |true,K1 z,K1 zs=>K1 (z,zs)
   |_,_,_=>K2
  |_=>K2
 |.mv .. ::r,i=>Qgf s r (i+1)
def Zzw:List AK->Nat->St->St|[],_,s=>s|.sh _::r,i,s=>Zzw r (i+1) s|.bx _ _ o::r,i,s=>Zzw r (i+1) (Qmj s i o)|.mv .. ::r,i,s=>Zzw r (i+1) s
def Zga(τ:Tab):(ts:List Ty)->List ResultVar->St->Option (dp ts×St)
 |[],[],s=>K1 ((),s)
 |t::ts,.tmp k::rs,s=>match VC s (op1 s [] (.tmp k)) t with
  |some q=>match cK q.T q.f (.u K3),ay t q.T q.x,Zga τ ts rs q.s with
   |true,K1 x,K1 (xs,s')=>K1 ((x,xs),s')
   |_,_,_=>K2
  |none=>K2
 |t::ts,.cell k e::rs,s=>match s.get (.m k),τ e with
  |.box e0 U f y,K1 U'=>match(Lq k 1048576&&Ln (U=U'))&&cK U f (.u K3),ay t U y,Zga τ ts rs (bY s k (.box e0 U .d y))with
   |true,K1 x,K1 (xs,s')=>K1 ((x,xs),s')
   |_,_,_=>K2
  |_,_=>K2
 |_,_,_=>K2
def Zgc(τ:Tab):(ts:List Ty)->List ResultVar->St->Option (dp ts)
 |[],[],_=>K1 ()
 |t::ts,.tmp k::rs,s=>match Zu4 s (op1 s [] (.tmp k)) t,Zgc τ ts rs s with
  |some x,K1 xs=>K1 (x,xs)
  |_,_=>K2
 |t::ts,.cell k e::rs,s=>match s.get (.m k),τ e with
  |.box _ U f y,K1 U'=>match(Lq k 1048576&&Ln (U=U'))&&so f U,ay t U y,Zgc τ ts rs s with
   |true,K1 x,K1 xs=>K1 (x,xs)
   |_,_,_=>K2
  |_,_=>K2
 |_,_,_=>K2
def Zf8(τ:Tab):(ts:List (Ty×Fl))->List ResultVar->St->Option (Zcb ts×St)
 |[],[],s=>K1 ((),s)
 |t::ts,.tmp k::rs,s=>match VC s (op1 s [] (.tmp k)) t.1 with
  |some q=>match Ztw t.2 q.f q.T,ay t.1 q.T q.x,Zf8 τ ts rs q.s with
   |true,K1 x,K1 (xs,s')=>K1 ((x,xs),s')
   |_,_,_=>K2
  |none=>K2
 |t::ts,.cell k e::rs,s=>match s.get (.m k),τ e with
  |.box e0 U f y,K1 U'=>match(Lq k 1048576&&Ln (U=U'))&&Ztw t.2 f U,ay t.1 U y,Zf8 τ ts rs (bY s k (.box e0 U .d y))with
   |true,K1 x,K1 (xs,s')=>K1 ((x,xs),s')
   |_,_,_=>K2
  |_,_=>K2
 |_,_,_=>K2
def Znw(ln:List Nat)(τ:Tab):(r:RS)->List ResultVar->St->Option (Zhf r×St)
 |.vals ts,rs,s=>Zga τ ts rs s
 |.newb e T,[.tmp k],s=>match Z4f (op1 s [] (.tmp k))with
  |some q=>match s.get (.m q)with
   |.box e' U f y=>match Lc e' e&&Ztw (.u K4) f U&& !(s.pQ.any (Lc q)),ay T U y with
    |true,K1 z=>K1 (z,s)
    |_,_=>K2
   |_=>K2
  |none=>K2
 |.newb _ _,_,_=>K2
 |.shr ts,rs,s=>match Zgc τ ts rs s with
  |some x=>K1 (x,s)
  |none=>K2
 |.flg ts,rs,s=>Zf8 τ ts rs s
 |.fp T j p1 p2,[.tmp k],s=>match op1 s [] (.tmp k),ln[j]? with
  |.tm _ (.ptr q p),K1 q'=>match s.get (.m q),Lc q' q with
   |.box _ U _ _,K3=>match Ln (U=T),Zwx p p1,Zwx p p2 with
    |true,K3,_=>K1 (K3,s)
    |true,K4,K3=>K1 (K4,s)
    |_,_,_=>K2
   |_,_=>K2
  |_,_=>K2
 |.fp ..,_,_=>K2
def Qaz(τ:Tab)(as:List AK)(r:RS)(rs:List ResultVar):Exit->St->Option (Zhf r×JJ as)
 |.ret,s|.normal,s=>match Znw (pj as 0) τ r rs (Zzw as 0 s)with
  |some (x,s')=>match Qgf s' as 0 with
   |some z=>K1 (x,z)
   |none=>K2
  |none=>K2
 |_,_=>K2
section
variable {P:Le}{g:Vc}{W0:fF g}{w w':Lb}{X X':Nat->Prop}{B B' n:Nat}{own:Bool}{s s':St}{F:Key->List Nat}{a:Act}{H H':List Nat}{o:Lh}{tg:Kd}{τ:Tab}{C:Cfg}{gh:Nat->La}
def R.hperm(h:R n W0 w X F H s a)(hp:H'.Perm H):R n W0 w X F H' s a:=
 {h with
  hown:=λb c=>h.hown b (hp.mem_iff.1 c)
  pK:=hp.nodup_iff.2 h.pK
  pL:=λk b c d=>h.pL k b c (hp.mem_iff.1 d)}
def Zgb(hτ:τ.ok P):∀{ts:List Ty}{rs:List ResultVar}{s:St}{F:Key->List Nat}{H:List Nat}{xs:dp ts}{s':St},R n W0 w X F H s a->Zga τ ts rs s=K1 (xs,s')->
  ∃vs S F',(rs.mapM (uS a)).run P w=.ok vs w/\wj w W0.B ts xs vs S/\R n W0 w X F' (S++H) s' a
 |[],[],s,F,H,xs,s',h,g=>by
  simp only[Zga,pB,pF]at g;obtain⟨_,rfl⟩:=g;exact⟨[],[],F,Ae,⟨rfl,rfl⟩,h⟩
 |t::ts,.tmp k::rs,s,F,H,xs,s',h,g=>by
  simp only[Zga]at g;split at g
  ·rename_i q O;split at g
   ·rename_i x z Q o hx l;simp only[pB,pF]at g;obtain⟨rfl,rfl⟩:=g;obtain⟨_,F1,i,p,V,W,A,_,_⟩:=eL h di O;obtain⟨rfl,rfl⟩:=my hx;obtain⟨vs,S,F',Y,C,D⟩:=Zgb hτ A l;refine⟨_,i++S,F',?_,⟨p,vs,i,S,rfl,rfl,nD (.inr (Ld _)) (.inl rfl) (by have:=oI o W;unfold rdF at this;exact this),C⟩,D.hperm ?_⟩
    ·have E:(a.tmps.getD k undef)=Jd q.T p:=V;simp_all[uS]
    grind
   ·cases g
  ·cases g
 |t::ts,.cell k e::rs,s,F,H,xs,s',h,g=>by
  simp only[Zga]at g;split at g
  ·rename_i Z U f y U' K hU;split at g
   ·rename_i x z Q o hx l;simp only[pC,decide_eq_true_eq]at o;obtain⟨⟨G,rfl⟩,o⟩:=o;simp only[pB,pF]at g;obtain⟨rfl,rfl⟩:=g;obtain⟨rfl,rfl⟩:=my hx;have hs:=h.slots (.m k);rw[K]at hs;obtain⟨b,c,i,L,g2,M,v⟩:=hs;have r:=h.nodup (.m k);rw[g2]at r;have A:R n W0 w X (Xm F (.m k) [b]) (i++H) (bY s k (.box Z U .d x)) a:=by
     refine h.turn (S':=[b]) (H':=i++H) h.below (Ld _) (λ_ _=>rfl) (λ_ _ _ _=>rfl) ?_ ?_ (by rw[K];simp) ?_ ?_
     ·simp_all
     ·have hd:∀I∈b::i,I∉H:=λI ab=>h.pL (.m k) I Ac;refine Lg.2 ⟨Ae,Lg.2 ⟨(L0.1 r).2,h.pK,λx hx y N e=>hd x (by simp[hx]) (by rw[e];exact N)⟩,λx hx y N e=>?_⟩;simp_all
     ·grind
     ·exact⟨b,c,[],L,rfl,M,by unfold rdF;exact⟨K0 v,oH v,rfl⟩⟩
    obtain⟨vs,S,F',Y,C,D⟩:=Zgb hτ A l;refine⟨_,i++S,F',?_,⟨c.toList,vs,i,S,rfl,rfl,nD (.inr (Ld _)) (.inl rfl) (by have:=oI o v;unfold rdF at this;exact this),C⟩,D.hperm ?_⟩
    ·have E:(a.tmps.getD k undef)=.pointer (K1 ⟨b,0,K2⟩):=(Jf W0 a G).symm.trans L;have J:=(hτ _ _ hU).load (w:=w) (ad:=⟨b,0,K2⟩) (vs:=c.toList) (K0 v) (λj u hj=>by
      rw[nS w M,<-Array.getElem?_toList,Lt];exact hj)
     simp_all[uS,asAddr]
    grind
   ·cases g
  ·cases g
 |[],.tmp _::_,_,_,_,_,_,_,g|[],.cell .. ::_,_,_,_,_,_,_,g|_::_,[],_,_,_,_,_,_,g=>by simp[Zga]at g
def Zf9(hτ:τ.ok P):∀{ts:List (Ty×Fl)}{rs:List ResultVar}{s:St}{F:Key->List Nat}{H:List Nat}{xs:Zcb ts}{s':St},R n W0 w X F H s a->Zf8 τ ts rs s=K1 (xs,s')->
  ∃vs S F',(rs.mapM (uS a)).run P w=.ok vs w/\Z23 w X W0.B ts xs vs S/\R n W0 w X F' (S++H) s' a
 |[],[],s,F,H,xs,s',h,g=>by
  simp only[Zf8,pB,pF]at g;obtain⟨_,rfl⟩:=g;exact⟨[],[],F,Ae,⟨rfl,rfl⟩,h⟩
 |(t,O)::ts,.tmp k::rs,s,F,H,xs,s',h,g=>by
  simp only[Zf8]at g;split at g
  ·rename_i q Q;split at g
   ·rename_i x z V o hx l;simp only[pB,pF]at g;obtain⟨rfl,rfl⟩:=g;obtain⟨_,F1,i,p,W,Y,A,_,_⟩:=eL h di Q;obtain⟨rfl,rfl⟩:=my hx;obtain⟨vs,S,F',Z,C,D⟩:=Zf9 hτ A l;refine⟨_,i++S,F',?_,⟨p,vs,i,S,rfl,rfl,Zc5 o Y,C⟩,D.hperm ?_⟩
    ·have E:(a.tmps.getD k undef)=Jd q.T p:=W;simp_all[uS]
    grind
   ·cases g
  ·cases g
 |(t,O)::ts,.cell k e::rs,s,F,H,xs,s',h,g=>by
  simp only[Zf8]at g;split at g
  ·rename_i e' U f y U' K hU;split at g
   ·rename_i x z V o hx l;simp only[pC,decide_eq_true_eq]at o;obtain⟨⟨G,rfl⟩,o⟩:=o;simp only[pB,pF]at g;obtain⟨rfl,rfl⟩:=g;obtain⟨rfl,rfl⟩:=my hx;have hs:=h.slots (.m k);rw[K]at hs;obtain⟨b,c,i,L,g2,M,v⟩:=hs;have r:=h.nodup (.m k);rw[g2]at r;have A:R n W0 w X (Xm F (.m k) [b]) (i++H) (bY s k (.box e' U .d x)) a:=by
     refine h.turn (S':=[b]) (H':=i++H) h.below (Ld _) (λ_ _=>rfl) (λ_ _ _ _=>rfl) ?_ ?_ (by rw[K];simp) ?_ ?_
     ·simp_all
     ·have hd:∀I∈b::i,I∉H:=λI ab=>h.pL (.m k) I Ac;refine Lg.2 ⟨Ae,Lg.2 ⟨(L0.1 r).2,h.pK,λx hx y N e=>hd x (by simp[hx]) (by rw[e];exact N)⟩,λx hx y N e=>?_⟩;simp_all
     ·grind
     ·exact⟨b,c,[],L,rfl,M,by unfold rdF;exact⟨K0 v,oH v,rfl⟩⟩
    obtain⟨vs,S,F',Z,C,D⟩:=Zf9 hτ A l;refine⟨_,i++S,F',?_,⟨c.toList,vs,i,S,rfl,rfl,Zc5 o v,C⟩,D.hperm ?_⟩
    ·have E:(a.tmps.getD k undef)=.pointer (K1 ⟨b,0,K2⟩):=(Jf W0 a G).symm.trans L;have J:=(hτ _ _ hU).load (w:=w) (ad:=⟨b,0,K2⟩) (vs:=c.toList) (K0 v) (λj u hj=>by
      rw[nS w M,<-Array.getElem?_toList,Lt];exact hj)
     simp_all[uS,asAddr]
    grind
   ·cases g
  ·cases g
 |[],.tmp _::_,_,_,_,_,_,_,g|[],.cell .. ::_,_,_,_,_,_,_,g|_::_,[],_,_,_,_,_,_,g=>by simp[Zf8]at g
def Zd1(hτ:τ.ok P)(h:R n W0 w X F H s a):∀{ts:List Ty}{rs:List ResultVar}{xs:dp ts},Zgc τ ts rs s=K1 xs->
  ∃vs,(rs.mapM (uS a)).run P w=.ok vs w/\Z9p w X ts xs vs
 |[],[],xs,d=>⟨[],Ae,rfl⟩
 |t::ts,.tmp k::rs,xs,d=>by
  simp only[Zgc]at d;split at d
  ·rename_i x p hx g;simp only[pB]at d;subst d;obtain⟨A,C,D⟩:=Zse h (x:=.tmp k) hx;obtain⟨vs,E,q⟩:=Zd1 hτ h g;refine⟨_,?_,A,vs,rfl,D,q⟩;have r:(a.tmps.getD k undef)=Jd t A:=C;simp_all[uS]
  ·cases d
 |t::ts,.cell k e::rs,xs,d=>by
  simp only[Zgc]at d;split at d
  ·rename_i O U f y Q G I;split at d
   ·rename_i x p l hx g;simp only[pC,decide_eq_true_eq]at l;obtain⟨⟨v,rfl⟩,l⟩:=l;simp only[pB]at d;subst d;obtain⟨rfl,rfl⟩:=my hx;have hs:=h.slots (.m k);rw[G]at hs;obtain⟨b,c,J,K,S,L,B⟩:=hs;have i:=Zc5 (o:=.u K4) l B;unfold rdF at i;have M:J=[]:=mI i;subst M;obtain⟨vs,E,q⟩:=Zd1 hτ h g;refine⟨_,?_,c.toList,vs,rfl,cS i Ae,q⟩;have r:(a.tmps.getD k undef)=.pointer (K1 ⟨b,0,K2⟩):=(Jf W0 a v).symm.trans K;have z:=(hτ _ _ I).load (w:=w) (ad:=⟨b,0,K2⟩) (vs:=c.toList) (K0 B) (λj u N=>by
     rw[nS w L,<-Array.getElem?_toList,Lt];exact N)
    simp_all[uS,asAddr]
   ·cases d
  ·cases d
 |[],.tmp _::_,_,d|[],.cell .. ::_,_,d|_::_,[],_,d=>by simp[Zgc]at d
def Z5y(hτ:τ.ok P)(h:R n W0 w X F [] s a)(hB:W0.B=0)(hr:Znw ln τ r rs s=K1 (x,s')):
  ∃vs S F',(rs.mapM (uS a)).run P w=.ok vs w/\rdS w X r x vs S/\R n W0 w X F' [] s' a/\S.Nodup/\(∀b,b∈S->W0.mine b/\b<w.heap.size/\ ¬X b)/\ ∀i,i∈s'.pQ-> ∀b,b∈S->b∉F' (.m i):=by
 cases r with
 |vals A=>
  obtain⟨vs,S,F',u,l,g⟩:=Zgb hτ h (show Zga τ A rs s=K1 (x,s')from hr);rw[hB]at l;exact⟨vs,S,F',u,l,g.drop,(by simpa using g.pK),λb o=>g.hown b (by simp[o]),λi _ b o v=>g.pL _ b v (by simp[o])⟩
 |newb e T=>
  match rs,hr with
  |[],hr=>cases hr
  |[.cell ..,.cell ..],hr=>cases hr
  |[.cell ..,.tmp _],hr=>cases hr
  |[.cell ..],hr=>cases hr
  |.tmp _::_::_,hr=>cases hr
  |.cell .. ::_::_::_,hr=>cases hr
  |[.tmp k],hr=>
   simp only[Znw]at hr;split at hr
   ·rename_i q K;split at hr
    ·rename_i Z U f y I;split at hr
     ·rename_i z p L;simp only[pC,Lx]at p;simp only[pB,pF]at hr;obtain⟨C,rfl⟩:=hr;have t:x=z:=C.symm;subst t;have M:=pD p.1.1;subst M;obtain⟨rfl,rfl⟩:=my L;have D:=Zdp h K I;have hs:=h.slots (.m q);rw[I]at hs;obtain⟨b,c,S,N,J,O,Q⟩:=hs;have E:=Zc5 p.1.2 Q;unfold rdF at E;have V:S=[]:=mI E;subst V;refine⟨[.pointer (K1 ⟨b,0,K2⟩)],[b],F,?_,⟨b,c,rfl,rfl,O,nD (.inl rfl) (.inr λ_ h=>h) E⟩,h,Ae,?_,?_⟩
      ·have W:(a.tmps.getD k undef)=.pointer (K1 ⟨b,0,K2⟩):=by
        have:a.eval (.tmp k)=_:=D;rw[N]at this;exact this
       simp_all[uS]
      ·intro G d;simp only[Me]at d;subst d;exact h.own (.m q) G (by rw[J];simp)
      ·intro i hi G d v;simp only[Me]at d;subst d;have:=h.pS (.m q) (.m i) G (by rw[J];simp) v;simp_all
     ·cases hr
    ·cases hr
   ·cases hr
 |shr A=>
  simp only[Znw]at hr;split at hr
  ·rename_i Y hx;simp only[pB,pF]at hr;obtain⟨H,rfl⟩:=hr;have t:x=Y:=H.symm;subst t;obtain⟨vs,u,l⟩:=Zd1 hτ h hx;exact⟨vs,[],F,u,⟨rfl,l⟩,h,Ae,Ae,Ae⟩
  ·cases hr
 |flg A=>
  obtain⟨vs,S,F',u,l,g⟩:=Zf9 hτ h (show Zf8 τ A rs s=K1 (x,s')from hr);rw[hB]at l;exact⟨vs,S,F',u,l,g.drop,(by simpa using g.pK),λb o=>g.hown b (by simp[o]),λi _ b o v=>g.pL _ b v (by simp[o])⟩
 |fp T j p1 p2=>
  match rs,hr with
  |[],hr=>cases hr
  |[.cell ..,.cell ..],hr=>cases hr
  |[.cell ..,.tmp _],hr=>cases hr
  |[.cell ..],hr=>cases hr
  |.tmp _::_::_,hr=>cases hr
  |.cell .. ::_::_::_,hr=>cases hr
  |[.tmp k],hr=>
   have hs:s'=s:=by
    grind[Znw]
   subst hs;exact⟨[a.tmps.getD k undef],[],F,by rfl,rfl,h,Ae,Ae,Ae⟩
def Qrc(h:R n W0 w X F H s a)(hr:Znw ln τ r rs s=K1 (x,s')){vs:List La}(hv:(rs.mapM (uS a)).run P w=.ok vs w)
  {BL:List Nat} (hb:∀(j q:Nat),ln[j]? =K1 q-> ∃b,BL[j]? =K1 b/\Xj W0.gh a (.m q)=.pointer (K1 ⟨b,0,K2⟩)):rdP r x vs BL:=by
 cases r with
 |fp T j I J=>
  match rs,hr with
  |[],hr=>cases hr
  |[.cell ..,.cell ..],hr=>cases hr
  |[.cell ..,.tmp _],hr=>cases hr
  |[.cell ..],hr=>cases hr
  |.tmp _::_::_,hr=>cases hr
  |.cell .. ::_::_::_,hr=>cases hr
  |[.tmp k],hr=>
   simp only[Znw]at hr;split at hr
   ·rename_i K q p l hx A;split at hr
    ·rename_i e U f y o d;have d:=pD d;subst d;obtain⟨t,L,M,N,O,Q,b,S,u,B,C⟩:=V0 h di hx Ae;simp only[Operand.tmp.injEq]at t;subst t;rw[o]at u;cases u;have hs:=h.slots (.m l);rw[o]at hs;obtain⟨V,W,Y,D,v,Z,g4⟩:=hs;rw[B]at v;obtain⟨rfl,_⟩:=List.cons.inj v;obtain⟨b4,z,g⟩:=hb j l A;rw[D]at g;simp only[Mj,pB,Addr.mk.injEq,and_true]at g;subst g;have i:(a.tmps.getD k undef)=.pointer (K1 ⟨b,aB U p,K2⟩):=C;simp only[List.mapM_cons,List.mapM_nil,uS,Sem.run_bind,Sem.run_pure,Result.andThen_ok,i,Result.ok.injEq,and_true]at hv;subst hv;split at hr
     ·rename_i c E;have c:=pE c;subst c;simp only[pB,pF]at hr;obtain⟨rfl,rfl⟩:=hr;exact⟨b,z,by grind[Zcp]⟩
     ·rename_i c G E;have c:=pE c;subst c;simp only[pB,pF]at hr;obtain⟨rfl,rfl⟩:=hr;exact⟨b,z,by grind[Zcp]⟩
     ·cases hr
    ·cases hr
   ·cases hr
 |_=>trivial
theorem Zya:∀{as:List AK}{x:JJ as}{vals:List La}{BL C:List Nat}{i j q:Nat},rdO w X as x vals BL C->(pj as i)[j]? =K1 q-> ∃b,BL[j]? =K1 b/\(q,Mg (K1 ⟨b,0,K2⟩))∈vk as vals i
 |[],_,_,_,_,_,_,_,_,a=>by grind[pj]
 |.sh _::r,_,_,_,_,i,j,q,⟨v,d,e,h⟩,a=>by
  subst e;exact Zya (as:=r) (i:=i+1) h a
 |.mv .. ::r,_,_,_,_,i,j,q,⟨v,d,e,h⟩,a=>by
  subst e;exact Zya (as:=r) (i:=i+1) h a
 |.bx _ _ _::r,_,_,_,_,i,j,q,⟨b,c,S,d,f,l,g,k,m,_,_,h⟩,a=>by
  subst g;subst k;cases j with
  |zero=>
   simp_all[pj,vk]
  |succ j=>
   simp only[pj,List.getElem?_cons_succ]at a;obtain⟨n,o,p⟩:=Zya (as:=r) (i:=i+1) h a;simp_all[vk]
def Zgt(h:R n W0 w X F H s a)(hB:W0.B=0):∀{as:List AK}{vals:List La}{i:Nat}{z:JJ as},Qgf s as i=K1 z->vals.length=as.length->(∀p,p∈vk as vals i->Xj W0.gh a (.m p.1)=p.2)->
  ∃BL C,rdO w X as z vals BL C/\(BL++C).Nodup/\ ∀b,b∈BL++C-> ∃j,i<=j/\j∈pj as i/\b∈F (.m j)
 |[],vals,i,z,d,g,_=>⟨[],[],⟨Ma g,rfl,rfl⟩,Ae,Ae⟩
 |.sh t::r,[],i,z,d,g,_=>by simp at g
 |.bx .. ::r,[],i,z,d,g,_=>by simp at g
 |.mv .. ::r,[],i,z,d,g,_=>by simp at g
 |.mv t f::r,v::vals,i,z,d,g,l=>by
  obtain⟨BL,C,q,D,u⟩:=Zgt h hB (as:=r) (vals:=vals) (i:=i+1) d (by simpa using g) l;exact⟨BL,C,⟨v,vals,rfl,q⟩,D,λb E=>let⟨j,L,k2,x⟩:=u b E;⟨j,Aa,k2,x⟩⟩
 |.sh t::r,v::vals,i,z,d,g,l=>by
  obtain⟨BL,C,q,D,u⟩:=Zgt h hB (as:=r) (vals:=vals) (i:=i+1) d (by simpa using g) l;exact⟨BL,C,⟨v,vals,rfl,q⟩,D,λb E=>let⟨j,L,k2,x⟩:=u b E;⟨j,Aa,k2,x⟩⟩
 |.bx e T o::r,v::vals,i,z,d,g,l=>by
  simp only[Qgf]at d;split at d
  ·rename_i Y U f y O;split at d
   ·rename_i Z z2 A G I;simp only[pB]at d;subst d;simp only[pC]at A;have P:=pD A.1;subst P;obtain⟨rfl,rfl⟩:=my G;obtain⟨BL,C,q,D,u⟩:=Zgt h hB (as:=r) (vals:=vals) (i:=i+1) I (by simpa using g) (λp Q=>l p (by simp[vk,Q]));have hs:=h.slots (.m i);rw[O]at hs;obtain⟨b,c,S,g1,V,W,g4⟩:=hs;have hv:v=.pointer (K1 ⟨b,0,K2⟩):=by simp_all[vk]
    have M:∀k,k∈b::S->k∉BL++C:=λk J N=>by
     obtain⟨j,L,_,x⟩:=u k N;have:=h.pS (.m i) (.m j) k Ac x
     grind
    have K:=h.nodup (.m i);rw[V]at K;refine⟨b::BL,S++C,⟨b,c,S,vals,BL,C,by rw[hv],rfl,rfl,W,?_,q⟩,?_,?_⟩
    ·grind[Zc5]
    ·grind
    ·intro k J;by_cases N:k∈BL++C
     ·grind[pj]
     ·refine⟨i,Ld _,by simp[pj],?_⟩;simp_all
   ·cases d
  ·cases d
def Zx7:∀{as:List AK}{x:Zhe as}{vals:List La}{L:List Nat},rdA w X as x vals L->vals.length=as.length
 |[],_,_,_,h=>by simp[h.1]
 |.sh t::r,_,_,_,⟨_,_,e,_,h⟩=>by simp[e,Zx7 h]
 |.bx .. ::r,_,_,_,⟨_,_,_,_,_,e,_,_,_,h⟩=>by simp[e,Zx7 h]
 |.mv .. ::r,_,_,_,⟨_,_,_,_,e,_,_,h⟩=>by simp[e,Zx7 h]
theorem Zay:∀{as:List AK}{vals:List La}{i:Nat}{p:Nat×La},p∈vk as vals i->p.1∈pj as i/\i<=p.1
 |[],_,_,_,h=>by simp[vk]at h
 |.sh t::r,[],_,_,h=>by simp[vk]at h
 |.bx .. ::r,[],_,_,h=>by simp[vk]at h
 |.mv .. ::r,[],_,_,h=>by simp[vk]at h
 |.mv t f::r,v::vals,i,p,h=>let⟨a,b⟩:=Zay (as:=r) h;⟨a,Aa⟩
 |.sh t::r,v::vals,i,p,h=>let⟨a,b⟩:=Zay (as:=r) h;⟨a,Aa⟩
 |.bx .. ::r,v::vals,i,p,h=>by
  simp only[vk,Lk]at h;rcases h with rfl|h
  ·simp_all[pj]
  ·obtain⟨a,b⟩:=Zay h
   grind[pj]
def Zb7(a:Act):∀{as:List AK}{x:Zhe as}{vals pre:List La}{i:Nat}{L:List Nat},rdA w X as x vals L->pre.length=i->a.tmps.toList.take (pre.length+vals.length)=pre++vals->L.Nodup->
  ∃F0:Key->List Nat,(∀k,(F0 k).Nodup/\ ∀b,b∈F0 k->b∈L)/\(∀k k' b,b∈F0 k->b∈F0 k'->k=k')/\(∀k b,b∈F0 k-> ∃j,i<=j/\k=.m j)/\
   (∀p,p∈vk as vals i->Xj gh a (.m p.1)=p.2)/\ ∀(s:St)(F:Key->List Nat)(k:Key),vt gh w X 0 s F a (Xj gh a k) (F0 k) (mX (Zp0 as x i) k)/\(∀d j,k=.c d j->mX (Zp0 as x i) k=.pR)
 |[],_,_,_,i,_,⟨U,V⟩,_,_,_=>by
  subst U;subst V;exact⟨λ_=>[],Ae,Ae,Ae,by simp[vk],λ_ _ _=>⟨rfl,λ_ _ _=>rfl⟩⟩
 |.sh t::r,x,vals,pre,i,L,h,u,P,v=>by
  obtain⟨l,y,rfl,B,D⟩:=h;obtain⟨F0,E,G,H,C,z⟩:=Zb7 a (pre:=pre++[Jd t l]) (i:=i+1) D (by simp[u]) Ag v;have I:F0 (.m i)=[]:=List.eq_nil_iff_forall_not_mem.2 λb n=>by
   grind
  refine⟨F0,E,G,λk b n=>let⟨j,j1,j2⟩:=H k b n;⟨j,Aa,j2⟩,C,λs F k=>?_⟩;simp only[Zp0,Qg];split
  ·rename_i e;subst e;rw[I];refine⟨⟨l,?_,Ak⟩,λ_ _ A=>by simp at A⟩;have:a.tmps.toList[i]? =K1 (Jd t l):=by
    have q:(a.tmps.toList.take (pre.length+(Jd t l::y).length))[i]? =K1 (Jd t l):=Ac
    grind
   simp_all[Xj,xQ]
  ·exact z s F k
 |.bx e t o::r,x,vals,pre,i,L,h,u,P,v=>by
  obtain⟨b,c,S,y,Q,rfl,rfl,B,D,q⟩:=h;have J:(b::S++Q).Nodup:=by simpa using v
  obtain⟨W,K,Y⟩:=Lg.1 J;obtain⟨F0,E,G,H,C,z⟩:=Zb7 a (pre:=pre++[.pointer (K1 ⟨b,0,K2⟩)]) (i:=i+1) q (by simp[u]) Ag K;have g:Xj gh a (.m i)=.pointer (K1 ⟨b,0,K2⟩):=by
   have:a.tmps.toList[i]? =K1 (.pointer (K1 ⟨b,0,K2⟩)):=by
    have q:(a.tmps.toList.take (pre.length+(Mg (K1 ⟨b,0,K2⟩)::y).length))[i]? =K1 (.pointer (K1 ⟨b,0,K2⟩)):=Ac
    grind
   simp_all[Xj,xQ]
  refine⟨λk=>ite (k=.m i) (b::S) (F0 k),λk=>?_,λk k' M n N=>?_,λk M n=>?_,λp O=>?_,λs F k=>?_⟩
  ·grind
  ·grind
  ·grind
  ·simp only[vk,Lk]at O
   grind
  ·simp only[Zp0,Qg];by_cases hk:k=.m i
   ·subst hk;simp only[if_true];exact⟨⟨b,c,S,g,rfl,B,D⟩,λ_ _ A=>by simp at A⟩
   ·rw[if_neg (Ne.symm hk),if_neg hk];exact z s F k
 |.mv t f::r,x,vals,pre,i,L,h,u,P,v=>by
  obtain⟨l,S,y,Q,rfl,rfl,B,q⟩:=h;obtain⟨W,K,Y⟩:=Lg.1 v;obtain⟨F0,E,G,H,C,z⟩:=Zb7 a (pre:=pre++[Jd t l]) (i:=i+1) q (by simp[u]) Ag K;have g:Xj gh a (.m i)=Jd t l:=by
   have:a.tmps.toList[i]? =K1 (Jd t l):=by
    have q:(a.tmps.toList.take (pre.length+(Jd t l::y).length))[i]? =K1 (Jd t l):=Ac
    grind
   simp_all[Xj,xQ]
  refine⟨λk=>ite (k=.m i) S (F0 k),λk=>?_,λk k' M n N=>?_,λk M n=>?_,C,λs F k=>?_⟩
  ·grind
  ·grind
  ·grind
  ·simp only[Zp0,Qg];by_cases hk:k=.m i
   ·subst hk;simp only[if_true];exact⟨⟨l,g,B⟩,λ_ _ A=>by simp at A⟩
   ·rw[if_neg (Ne.symm hk),if_neg hk];exact z s F k
def WS(hs0:g.soft=K4):∀{as:List AK}{i:Nat}{s:St}{X:Nat->Prop}{F:Key->List Nat},R n W0 w X F H s a-> ∃X' F',R n W0 w X' F' H (Zzw as i s) a
 |[],_,s,X,F,h=>⟨X,F,h⟩
 |.sh _::r,_,s,X,F,h=>WS hs0 (as:=r) h
 |.mv .. ::r,_,s,X,F,h=>WS hs0 (as:=r) h
 |.bx _ _ o::r,i,s,X,F,h=>by
  obtain⟨c,d,b⟩:=Zzx hs0 h i o;exact WS hs0 (as:=r) b
def yi.of{e:FnB}(hC:C.ok P g)(hsf:C.soft=false:=by rfl)(hlent:C.pQ=pj e.args 0)(hf:P.funcs[e.f]? =K1 fn)(hb:fn.body=K1 c)(hcall:∀args w,(callFunc e.f args).run P w=.ok (.enter e.f args) w)
  (hn:e.args.length<=fn.ntmps) (A:An (Zhf e.res×JJ e.args)) (hA:aW C fn.ntmps c A (Qaz C.τ e.args e.res fn.results.toList))
  (hF:∀xs r,e.F xs=K1 r->Jw C fn.ntmps c A (Qaz C.τ e.args e.res fn.results.toList) (Zyu e.args xs)=K1 r):yi P g e where
 enters:=hcall
 calls:=λw X L xs r l J K M hL N hx hr=>by
  have hl:=Zx7 hx;refine calls_of_wp hf hb ?_
  let a0:Act:={tmps:=l.toArray++Array.replicate (fn.ntmps-l.toArray.size) undef,defers:=[]}
  let z:fF g:={W:=w,B:=0,Y:=λb=>b<w.heap.size/\b∉L,L:=(· ∈L),X0:=X,fix:=vk e.args l 0,bB:=Nat.zero_le _,fr:=λe=>Lw ((hC.soft.trans hsf).symm.trans e),yW:=λ_ h=>h.1,yL:=λ_ h O=>h.2 O}
  obtain⟨Q,k1,k2,k3,k4,k5⟩:=Zb7 a0 (pre:=[]) (i:=0) hx rfl (by simp[a0]) N;have h0:R fn.ntmps z w X Q [] (Zyu e.args xs) a0:=
   {size:=by simp[a0];omega
    defers:=rfl
    below:=⟨rfl,rfl,rfl,Ld _,λ_ _=>rfl⟩
    glob:=J
    gx:=K
    xs:=λe=>Lw ((hC.soft.trans hsf).symm.trans e)
    fix:=λp u=>⟨(Zay u).1,k4 p u⟩
    xlt:=M
    xin:=λb hb=>.inl hb
    x0:=λb hb=>hb
    own:=λk b hb=>let h:=(k1 k).2 b hb;⟨.inr h,(hL b h).2,(hL b h).1⟩
    nodup:=λk=>(k1 k).1
    pS:=k2
    hown:=Ae
    pK:=Ae
    pL:=Ae
    pM:=λd i hc=>absurd ((k5 (Zyu e.args xs) Q (.c d i)).2 d i rfl) hc
    slots:=λk=>(k5 (Zyu e.args xs) Q k).1}
  refine wp_mono (Znt hC (λp u=>by grind[Zay]) hA (hF xs r hr) h0) λex U E u=>?_;obtain⟨s',D,F',hk,s⟩:=u;obtain⟨D,F',s⟩:=WS (hC.soft.trans hsf) (as:=e.args) (i:=0) s;have fin:Qaz C.τ e.args e.res fn.results.toList .ret s'=K1 r->U.defers=[]/\ ∃v',(results fn U.tmps).run P E=.ok v' E/\ ∃rs S G C D,L5 v'=.returned (ba rs)/\Qof w E X D L (S++(G++C))/\rdS E D e.res r.1 rs S/\rdO E D e.args r.2 l G C/\rdP e.res r.1 rs G:=by
   intro hk;simp only[Qaz]at hk;split at hk
   ·rename_i x s2 H;split at hk
    ·rename_i zz hz;simp only[pB]at hk;subst hk;obtain⟨vs,S,F2,m1,m2,V,m4,m5,m6⟩:=Z5y hC.τ s rfl H;have Z:∀p,p∈vk e.args l 0->p.1∈s2.pQ/\Xj z.gh U (.m p.1)=p.2:=λp u=>V.fix p u;obtain⟨G,C,n1,n2,n3⟩:=Zgt V rfl hz hl (λp u=>(Z p u).2);have n:∀{as:List AK}{l:List La}{i j:Nat},l.length=as.length->j∈pj as i-> ∃v,(j,v)∈vk as l i:=by
      intro as
      induction as with
      |nil=>simp_all[pj]
      |cons a as ih=>
       intro l i j n hj;cases l with
       |nil=>simp at n
       |cons v l=>
        cases a with
        |sh t=>exact ih (by simpa using n) hj
        |mv t=>exact ih (by simpa using n) hj
        |bx e t o=>
         simp only[pj,Lk]at hj;rcases hj with rfl|hj
         ·simp[vk]
         grind[vk]
     have I:∀b,b∈S++(G++C)->z.mine b/\b<E.heap.size/\ ¬D b:=λb hb=>by
      rcases Md.1 hb with hb|hb
      ·exact m5 b hb
      ·obtain⟨j,_,_,j3⟩:=n3 b hb;exact V.own _ b j3
     refine⟨s.defers,_,JZ m1,vs,S,G,C,D,rfl,⟨s.below.os,s.below.tape,s.below.output,s.below.size,?_,s.xlt,?_,?_,?_,λb hb O=>s.below.block b ⟨hb,O⟩⟩,m2,n1,Qrc s H m1 λj q hq=>?_⟩
     ·intro b hb;exact s.x0 b hb
     ·intro b hb;exact(s.xin b hb).imp id λh=>h
     ·exact Lg.2 ⟨m4,n2,λx hx y hy e=>by
       grind⟩
     ·intro b hb;obtain⟨g1,g2,g3⟩:=I b hb;exact⟨g1,g2,g3⟩
     grind[Zya]
    ·cases hk
   ·cases hk
  cases ex with
  |normal=>exact fin hk
  |ret=>exact fin hk
  |_=>simp[Qaz]at hk
end
section
variable {P:Le}{g:Vc}{w w':Lb}{X X':Nat->Prop}{s s':St}{F:Key->List Nat}{a:Act}{C:Cfg}
def Xf:True:=trivial
end
def Qd4:List (Nat×Ty)->Nat->Option Ty
 |[],_=>K2
 |(k,t)::r,e=>match Lc k e with|true=>K1 t|false=>Qd4 r e
def Y0(fn:Func):Li:=match fn.body with|some c=>c|none=>.skip
section
variable {P:Le}
def Qqe(P:Le)(l:List (Nat×Ty)):Prop:= ∀e T,Qd4 l e=K1 T->TOK P e T
def Qnt:Qqe P []:=λ_ _ h=>by cases h
def Yz{e:Nat}{T:Ty}{l:List (Nat×Ty)}(h:TOK P e T)(hl:Qqe P l):Qqe P ((e,T)::l):=λb c a=>by
 simp only[Qd4]at a;split at a
 ·simp_all
 ·exact hl b c a
def Qlj(P:Le)(τ:Tab)(l:List Nat):Prop:= ∀e T,l.any (Lc e)=K3->τ e=K1 T->ZU P e T
def Qmc:Qlj P τ []:=λ_ _ h _=>by cases h
def sa{e:Nat}{T:Ty}{l:List Nat}(h:ZU P e T)(hT:τ e=K1 T)(hl:Qlj P τ l):Qlj P τ (e::l):=λb c h' a=>by
 simp only[L8,Bool.or_eq_true]at h';rcases h' with h'|h'
 ·simp_all
 ·exact hl b c h' a
def Xe:Zfx.ok [] P g:=λ_ h=>by cases h
def Qfr{e:FnL}{Γ:Zfx}(h:Zyk P g e)(hΓ:Γ.ok P g):Zfx.ok (e::Γ) P g:=λa h'=>by
 rcases Lk.1 h' with rfl|h'
 ·exact h
 ·exact hΓ a h'
def Zd:Zb1.ok [] P g:=λ_ h=>by cases h
def Z7{e:FnB}{Γ:Zb1}(h:yi P g e)(hΓ:Γ.ok P g):Zb1.ok (e::Γ) P g:=λa h'=>by
 rcases Lk.1 h' with rfl|h'
 ·exact h
 ·exact hΓ a h'
def Xi:Zlp.ok [] P g:=λ_ h=>by cases h
def Qk{e:nR}{Γ:Zlp}(h:Y6 P g e)(hΓ:Γ.ok P g):Zlp.ok (e::Γ) P g:=λa h'=>by
 rcases Lk.1 h' with rfl|h'
 ·exact h
 ·exact hΓ a h'
def Zg:Env.ok [] P g:=λ_ h=>by cases h
def Za{e:FnE}{Γ:Env}(h:lh P g e)(hΓ:Γ.ok P g):Env.ok (e::Γ) P g:=λa h'=>by
 rcases Lk.1 h' with rfl|h'
 ·exact h
 ·exact hΓ a h'
end
open Go.RowKit Go.ChangeShapes Go.WideShapes Go.ChangeAt
open Go.ChangeMaps (open_string shut_string)
def aC(P:Le):Ty->Lf->List Field->Nat->Bool->Bool
 |.int k,e,_,_,K3=>match P.underlying e with|some (.int k')=>Ln (k'=k)&&Lc (P.cellsOf e) 1|_=>K4
 |.bool,e,_,_,K3=>match P.underlying e with|some .bool=>Lc (P.cellsOf e) 1|_=>K4
 |.str,e,_,_,K3=>match P.underlying e with|some .string=>Lc (P.cellsOf e) 1|_=>K4
 |.fnc _,_,_,_,_=>K4
 |.err,_,_,_,_=>K4
 |.hid _,_,_,_,_=>K4
 |.sptr ..,_,_,_,_=>K4
 |.clo ..,_,_,_,_=>K4
 |.slice e' t,e,_,_,K3=>match P.underlying e with
  |some (.slice e2)=>Lc e2 e'&&Lc (P.cellsOf e) 1&&Lc (P.cellsOf e') t.size&&Lq 0 t.size&&aC P t e' [] 0 K3
  |_=>K4
 |.arr n t,e,_,_,K3=>match P.underlying e with
  |some (.array m e2)=>Lc m n&&Lc (P.cellsOf e) (n*t.size)&&Lc (P.cellsOf e2) t.size&&aC P t e2 [] 0 K3
  |_=>K4
 |.unit,e,_,_,K3=>match P.underlying e with
  |some (.struct fs)=>fs.toList.isEmpty&&Lc (P.cellsOf e) 0
  |_=>K4
 |.pair a b,e,_,_,K3=>match P.underlying e with
  |some (.struct fs)=>match fs.toList with
   |f::r=>Lc (P.cellsOf e) (a.size+b.size)&&Lc f.offset 0&&Lc (P.cellsOf f.type) a.size&&aC P a f.type [] 0 K3&&aC P b 0 r a.size K4
   |[]=>K4
  |_=>K4
 |.unit,_,fs,_,K4=>fs.isEmpty
 |.pair a b,_,fs,off,K4=>match fs with
  |f::r=>Lc f.offset off&&Lc (P.cellsOf f.type) a.size&&aC P a f.type [] 0 K3&&aC P b 0 r (off+a.size) K4
  |[]=>K4
 |_,_,_,_,K4=>K4
def wf:(T:Ty)->T.den->Prop|.unit,_=>True|.int k,x=>(Lit.int k x).wf=K3|.bool,_=>True|.fnc _,_=>True|.err,_=>True|.hid _,_=>True|.sptr ..,_=>True|.clo ..,_=>True|.str,x=>x.length<=maxLen|.slice _ t,x=>x.length<=maxLen/\ ∀y∈x,wf t y|.pair a b,x=>wf a x.1/\wf b x.2|.arr n t,x=>x.length=n/\ ∀y∈x,wf t y
section
variable {H:Type}{enc:Lf×La->H}{P:Le}{w:Lb}{sp:Nat->Bool}{held:Bool}
def Z62{α:Type}{r:α->List La->List Nat->Prop}{q:α->Prop}{sz:Nat}:∀{n:Nat}{cs:List La},cs.length=n*sz->
  (∀i,i<n-> ∃x,r x ((cs.drop (i*sz)).take sz) []/\q x)-> ∃l,l.length=n/\eh r l cs []/\ ∀y∈l,q y
 |0,cs,a,_=>⟨[],rfl,⟨by simpa using a,rfl⟩,Ae⟩
 |n+1,cs,a,h=>by
  obtain⟨x,hx,b⟩:=h 0 Aa;obtain⟨l,c,d,e⟩:=Z62 (cs:=cs.drop sz) (n:=n) (sz:=sz) Ag (λi f=>by
   obtain⟨x,hx,b⟩:=h (i+1) Aa;refine⟨x,?_,b⟩;rw[L9];rw[show sz+i*sz=(i+1)*sz from by grind];exact hx)
  refine⟨x::l,by simp[c],⟨cs.take sz,cs.drop sz,[],[],Ae,rfl,by simpa using hx,d⟩,?_⟩;simp_all
def Zr7:∀(T:Ty),
  (∀(e:Lf)(fs:List Field)(off fuel:Nat)(cs:List La)(x:DataW H×List MemPlace),aC P T e fs off K3=K3->Lo enc P w 0 sp held fuel e cs=K1 x->
   ∃v:T.den,rd w (· <w.heap.size) 0 K4 T v cs []/\wf T v)/\
  (∀(fs:List Field)(off:Nat)(cs:List La),aC P T 0 fs off K4=K3->cs.length=off+T.size->
   (∀(i:Nat)(f:Field),fs[i]? =K1 f-> ∃(n:Nat) (x:DataW H×List MemPlace),Lo enc P w 0 sp held n f.type ((cs.drop f.offset).take (P.cellsOf f.type))=K1 x)->
   ∃v:T.den,rd w (· <w.heap.size) 0 K4 T v (cs.drop off) []/\wf T v)
 |.int k=>by
   refine⟨λe fs off fuel cs x c h=>?_,λfs off cs c=>Ap⟩;simp only[aC]at c;split at c
   ·rename_i k' hk;simp only[pC,decide_eq_true_eq]at c;obtain⟨rfl,_⟩:=c;obtain⟨n,rfl,_,N⟩:=DataW.trod_int hk h;exact⟨n,⟨rfl,rfl⟩,N⟩
   ·cases c
 |.bool=>by
   refine⟨λe fs off fuel cs x c h=>?_,λfs off cs c=>Ap⟩;simp only[aC]at c;split at c
   ·rename_i hk;obtain⟨n,rfl,_⟩:=DataW.trod_bool hk h;exact⟨n,⟨rfl,rfl⟩,trivial⟩
   ·cases c
 |.fnc _=>⟨λe fs off fuel cs x c h=>Ap,λfs off cs c=>Ap⟩
 |.err=>⟨λe fs off fuel cs x c h=>Ap,λfs off cs c=>Ap⟩
 |.hid _=>⟨λe fs off fuel cs x c h=>Ap,λfs off cs c=>Ap⟩
 |.sptr .. =>⟨λe fs off fuel cs x c h=>Ap,λfs off cs c=>Ap⟩
 |.clo .. =>⟨λe fs off fuel cs x c h=>Ap,λfs off cs c=>Ap⟩
 |.str=>by
   refine⟨λe fs off fuel cs x c h=>?_,λfs off cs c=>Ap⟩;simp only[aC]at c;split at c
   ·rename_i hk;obtain⟨s,rfl,_,hs⟩:=L3 hk h;exact⟨s.data.toList,⟨rfl,rfl⟩,by simp_all[wf]⟩
   ·cases c
 |.unit=>by
   refine⟨λe fs off fuel cs x c h=>?_,λfs off cs c A _=>⟨(),⟨by simp_all[Ty.size],rfl⟩,trivial⟩⟩;simp only[aC]at c;split at c
   ·rename_i O hk;simp only[pC]at c;obtain⟨Z,n,_,_,A,_⟩:=L4 hk h;rw[pD c.2]at A;exact⟨(),⟨Ma A,rfl⟩,trivial⟩
   ·cases c
 |.slice e' t=>by
   refine⟨λe fs off fuel cs x c h=>?_,λfs off cs c=>Ap⟩;simp only[aC]at c;split at c
   ·rename_i L hk;simp only[pC,Nat.blt_eq]at c;obtain⟨⟨⟨⟨y,D⟩,z⟩,C⟩,Q⟩:=c;have y:=pD y;subst y;have z:=pD z;rcases DataW.trod_slice hk h with⟨rfl,_⟩|⟨a,d,S,G,ab,n,_,rfl,_,hb,ad,U,am,V,_,_⟩
    ·exact⟨[],⟨_,[],[],[],rfl,rfl,⟨rfl,Ae,K2,0,rfl,Ld _,by simp[maxLen],.inl ⟨rfl,rfl,rfl⟩⟩,rfl,rfl⟩,by simp[wf]⟩
    ·
     have B:∀i,i<d-> ∃cs,w.cells? 0 (a.add (i*t.size)) t.size=K1 cs/\ ∃v:t.den,rd w (· <w.heap.size) 0 K4 t v cs []/\wf t v:=by
      intro i E;have K:=V i E;rw[z]at K;have:i<G.length:=Aa
      rw[Mc this,Option.bind_eq_some_iff]at K;obtain⟨cs,o,hx⟩:=K;exact⟨cs,o,(Zr7 t).1 _ _ _ _ _ _ Q hx⟩
     have I:∀i j,i<d->j<t.size-> ∃u,w.cell? (a.add (i*t.size+j))=K1 u:=by
      intro i j E hj;obtain⟨cs,o,_⟩:=B i E;obtain⟨_,h7,h8⟩:=Mh o;simp_all[Addr.add_add]
     let all:List La:=(List.range (d*t.size)).map λm=>(w.cell? (a.add m)).getD undef
     have F:all.length=d*t.size:=by simp[all]
     have M:∀m u,all[m]? =K1 u->w.cell? (a.add m)=K1 u:=by
      intro m u hu;have hm:m<d*t.size:=Ag
      have W:m/t.size<d:=Nat.div_lt_of_lt_mul Ag;obtain⟨u',ar⟩:=I (m/t.size) (m%t.size) W (Nat.mod_lt _ C)
      grind[Nat.div_add_mod]
     obtain⟨l,J,L,X⟩:=Z62 (r:=rd w (· <w.heap.size) 0 K4 t) (q:=wf t) F (λi E=>by
      obtain⟨cs,o,v,hv,N⟩:=B i E;refine⟨v,?_,N⟩;have:(all.drop (i*t.size)).take t.size=cs:=by
       obtain⟨_,h7,h8⟩:=Mh o;apply Mb;intro j;rw[List.getElem?_take];split
       ·rename_i hj;rw[List.getElem?_drop,<-h8 j hj,Addr.add_add];have hm:i*t.size+j<d*t.size:=by
         have:(i+1)*t.size<=d*t.size:=Nat.mul_le_mul_right _ E
         grind
        simp_all
       simp_all
      simp_all)
     refine⟨l,⟨_,all,[],[],rfl,rfl,⟨rfl,by rw[F,J],K1 a,S,by rw[J],Aa,U,.inr ⟨a,rfl,?_,M⟩⟩,L⟩,by rw[J];omega,X⟩;rw[J];rcases Nat.eq_zero_or_pos d with h0|h0
     ·exact .inl h0
     ·obtain⟨cs,o,_⟩:=B 0 h0;right;have:=Lb.cells?_block o C;simp_all[Addr.add_zero']
   ·cases c
 |.arr n t=>by
   refine⟨λe fs off fuel cs x c h=>?_,λfs off cs c=>Ap⟩;simp only[aC]at c;split at c
   ·rename_i m L hk;simp only[pC]at c;obtain⟨⟨⟨y,D⟩,z⟩,C⟩:=c;have y:=pD y;subst y;have z:=pD z;obtain⟨Z,q,_,_,A,Y,hx⟩:=DataW.trod_array hk h;rw[pD D]at A;obtain⟨l,J,L,X⟩:=Z62 (r:=rd w (· <w.heap.size) 0 K4 t) (q:=wf t) A (λi E=>by
     have K:=hx i E;rw[z,Mc Aa]at K;exact(Zr7 t).1 _ _ _ _ _ _ C K)
    exact⟨l,⟨J,L⟩,J,X⟩
   ·cases c
 |.pair a b=>by
  have p:∀(f:Field)(r:List Field)(off:Nat)(cs:List La),Lc f.offset off=K3->Lc (P.cellsOf f.type) a.size=K3->aC P a f.type [] 0 K3=K3->aC P b 0 r (off+a.size) K4=K3->
    cs.length=off+(a.size+b.size)->(∀(i:Nat)(g:Field),(f::r)[i]? =K1 g-> ∃(n:Nat) (x:DataW H×List MemPlace),Lo enc P w 0 sp held n g.type ((cs.drop g.offset).take (P.cellsOf g.type))=K1 x)->
    ∃v:(Ty.pair a b).den,rd w (· <w.heap.size) 0 K4 (.pair a b) v (cs.drop off) []/\wf (.pair a b) v:=by
   intro f r off cs y D z C A hx;obtain⟨n,x,hf⟩:=hx 0 f rfl;rw[pD y,pD D]at hf;obtain⟨va,ha,wa⟩:=(Zr7 a).1 _ _ _ _ _ _ z hf;obtain⟨vb,hb,wb⟩:=(Zr7 b).2 r (off+a.size) cs C Aa (λi g hg=>hx (i+1) g (by simpa using hg));refine⟨(va,vb),⟨(cs.drop off).take a.size,cs.drop (off+a.size),[],[],?_,rfl,ha,hb⟩,wa,wb⟩;rw[<-L9,List.take_append_drop]
  refine⟨λe fs off fuel cs x c h=>?_,λfs off cs c A hx=>?_⟩
  ·simp only[aC]at c;split at c
   ·rename_i O hk;split at c
    ·rename_i f r au;simp only[pC]at c;obtain⟨⟨⟨⟨y,D⟩,z⟩,C⟩,Q⟩:=c;obtain⟨Z,q,_,_,A,Y,hx⟩:=L4 hk h;rw[pD y]at A;have:=p f r 0 cs D z C (by simpa using Q) Aa (λi g hg=>by
      grind)
     simpa using this
    ·cases c
   ·cases c
  ·simp only[aC]at c;split at c
   ·rename_i f r;simp only[pC]at c;obtain⟨⟨⟨y,D⟩,z⟩,C⟩:=c;exact p f r off cs y D z C A hx
   ·cases c
end
open Go.RowKit Go.ChangeShapes Go.WideShapes Go.ChangeAt
def KQ(P:Le):List Lf->List Ty->Bool|[],[]=>K3|e::es,T::Ts=>aC P T e [] 0 K3&&P.readableRec e&&Lq e P.types.size&&KQ P es Ts|_,_=>K4
def wfA:(ts:List Ty)->dp ts->Prop|[],_=>True|t::ts,x=>wf t x.1/\wfA ts x.2
section
variable {H:Type}{enc:Lf×La->H}{P:Le}
def Qm7{T:Ty}{e:Lf}{fs:List Field}{off:Nat}{r:Reach}{v:La}(hd:aC P T e fs off K3=K3)(hv:Ll P w r base e v):Jd T v.cells.toList=v:=by
 cases T with
 |int k=>
  simp only[aC]at hd;split at hd
  ·rename_i hk;obtain⟨n,rfl⟩:=okWide_int hk hv;rfl
  ·cases hd
 |bool=>
  simp only[aC]at hd;split at hd
  ·rename_i hk;obtain⟨n,rfl⟩:=okWide_bool hk hv;rfl
  ·cases hd
 |fnc f=>grind[aC]
 |err=>grind[aC]
 |hid t=>grind[aC]
 |sptr e t=>grind[aC]
 |clo f t=>grind[aC]
 |str=>
  simp only[aC]at hd;split at hd
  ·rename_i hk;obtain⟨n,rfl⟩:=okWide_string hk hv;rfl
  ·cases hd
 |slice g t=>
  simp only[aC]at hd;split at hd
  ·rename_i hk;obtain⟨a,l,c,rfl⟩:=okWide_slice hk hv;rfl
  ·cases hd
 |unit=>
  simp only[aC]at hd;split at hd
  ·rename_i hk;simp only[Ll,hk]at hv;obtain⟨d,rfl,_⟩:=hv;rfl
  ·cases hd
 |pair a b=>
  simp only[aC]at hd;split at hd
  ·rename_i hk;simp only[Ll,hk]at hv;obtain⟨d,rfl,_⟩:=hv;rfl
  ·cases hd
 |arr n t=>
  simp only[aC]at hd;split at hd
  ·rename_i hk;simp only[Ll,hk]at hv;obtain⟨d,rfl,_⟩:=hv;rfl
  ·cases hd
def Z34{W:Lb}{base:Nat}{sp:Nat->Bool}{held:Bool}:∀{es:List Lf}{Ts:List Ty}{vs:List La}{ds:List (DataW H)}{ps:List MemPlace},KQ P es Ts=K3->
  Ly enc P W 0 sp held es vs ds ps->(∀(j:Nat) t v,es[j]? =K1 t->vs[j]? =K1 v->Ll P W .any base t v)->
  (∃xs:dp Ts,Zbq W (· <W.heap.size) 0 Ts xs vs/\wfA Ts xs)/\ds.length=es.length
 |[],[],vs,ds,ps,_,h,_=>by
  obtain⟨rfl,rfl,rfl⟩:=trodAll_nil h;exact⟨⟨(),rfl,trivial⟩,rfl⟩
 |e::es,T::Ts,vs,ds,ps,a,h,hv=>by
  simp only[KQ,pC]at a;obtain⟨v,b,d,g,p,q,rfl,rfl,rfl,i,k⟩:=trodAll_cons h;obtain⟨⟨xs,l,m⟩,n⟩:=Z34 a.2 k (λj t v o c=>hv (j+1) t v (by simpa using o) (by simpa using c));obtain⟨f,r⟩:=i;obtain⟨x,s,u⟩:=(Zr7 T).1 _ _ _ _ _ _ a.1.1.1 r;exact⟨⟨(x,xs),⟨_,b,by rw[Qm7 a.1.1.1 (hv 0 e v rfl rfl)],s,l⟩,u,m⟩,by simp[n]⟩
 |[],_::_,_,_,_,a,_,_=>by grind[KQ]
 |_::_,[],_,_,_,a,_,_=>by grind[KQ]
theorem Z3f(hl:laidOutB P=K3){W W':Lb}{sp:Nat->Bool}(hb:Below W.heap.size W W'):∀{es:List Lf}{Ts:List Ty}{vs:List La}{ds:List (DataW H)}{ps:List MemPlace},KQ P es Ts=K3->
  Ly enc P W 0 (λ_=>K3) K3 es vs ds ps->(∀p∈ps,p.block<W.heap.size)->(∀p∈ps,sp p.block=K3)->Ly enc P W' 0 sp K3 es vs ds ps
 |[],[],vs,ds,ps,_,h,_,_=>by
  obtain⟨rfl,rfl,rfl⟩:=trodAll_nil h;exact trodAll_mk0
 |e::es,T::Ts,vs,ds,ps,a,h,b,hs=>by
  simp only[KQ,pC,Nat.blt_eq]at a;obtain⟨v,c,d,f,p,q,rfl,rfl,rfl,g,i⟩:=trodAll_cons h;exact trodAll_cons_mk (WideElems.Trod_stays hl a.1.1.2 a.1.2 g (λx hx=>hb.same (b x (by simp[hx]))) (λx hx=>hs x (by simp[hx])))
   (Z3f hl hb a.2 i (λx hx=>b x (by simp[hx])) (λx hx=>hs x (by simp[hx])))
 |[],_::_,_,_,_,a,_,_,_=>by grind[KQ]
 |_::_,[],_,_,_,a,_,_,_=>by grind[KQ]
end
theorem Zr{n:Int}(h0: -9223372036854775808<=n:=by omega)(h1:n<=9223372036854775807:=by omega):L6.wrap n=n:=IntWalk.i64_in n ⟨h0,h1⟩
theorem Zs{i:Nat}(h:i<m:=by omega)(hm:m<=9223372036854775807:=by omega):L6.wrap ((i:Int)+1)=((i+1:Nat):Int):=by
 grind[Zr]
def Zn{b:Bool}{x:α}(h:b=K3):(cond b x y)=x:=by rw[h];rfl
def Zp{b:Bool}{x:α}(h:b=K4):(cond b x y)=y:=by rw[h];rfl
def Zl[Decidable p](h:p:=by omega):decide p=true:=decide_eq_true h
theorem Zm[Decidable p](h:¬p:=by omega):decide p=false:=decide_eq_false h
section
variable {α:Type}{d:α}
end
def Qes(m:Nat):(T:Ty)->T.den->Prop|.str,x=>x.length<=m|.slice _ t,x=>x.length<=m/\ ∀y∈x,Qes m t y|.pair a b,x=>Qes m a x.1/\Qes m b x.2|.arr _ t,x=> ∀y∈x,Qes m t y|.unit,_|.int _,_|.bool,_|.fnc _,_|.err,_|.hid _,_|.sptr ..,_|.clo ..,_=>True
noncomputable def dr{ρ:Type}:Nat->Option ρ->Option ρ|0,m=>m|n+1,m=>qu m (dr n m)
def Xr{ρ:Type}:∀(n:Nat)(m:Option ρ),dr n m=m
 |0,_=>rfl
 |n+1,m=>by unfold dr;rw[Xr n m,Ke]
def Vc.vars(P:Le)(l:List (String×(Array La->Prop))):Vc where
 G:=λw=> ∀p∈l,∃c,w.var? P p.1=K1 c/\p.2 c
 GB:=λb=> ∃p∈l,P.globalNamed p.1=K1 b
 lt:=λw b h ⟨p,hp,hb⟩=>by
  obtain⟨c,this,_⟩:=h p hp;simp only[Lv,hb,pA]at this;split at this
  ·rename_i hg;exact(Array.getElem?_eq_some_iff.1 hg).1
  ·cases this
 stays:=λw w' h hb p hp=>by
  obtain⟨c,this,hc⟩:=h p hp;refine⟨c,?_,hc⟩;cases hg:P.globalNamed p.1 with
  |none=>simp[Lv,hg]at this
  |some b=>
   simp only[Lv,hg,pA]at this⊢;rw[hb b ⟨p,hp,hg⟩];exact this
theorem Vc.vars_get(h:(Vc.vars P l).G w)(i:Nat)(hi:i<l.length):∃c,w.var? P l[i].1=K1 c/\l[i].2 c:=h _ (List.getElem_mem hi)
def Vc.vars_eq{v:Array La}(h:(Vc.vars P l).G w)(i:Nat)(hi:i<l.length)(h1:l[i].1=n)(h2:l[i].2=(· =v)):w.var? P n=K1 v:=by
 grind[Vc.vars_get]
def Qb0(c:Array La):Prop:= ∃m,c[0]? =K1 (.int .i64 m)
def Vc.vars_int(h:(Vc.vars P l).G w)(i:Nat)(hi:i<l.length)(h1:l[i].1=n)(h2:l[i].2=Qb0)(hb:P.globalNamed n=K1 b):∃m,w.cell? ⟨b,0,Lr⟩=K1 (.int .i64 m):=by
 obtain⟨c,a,hv⟩:=Vc.vars_get h i hi;rw[h2]at hv;obtain⟨m,d⟩:=hv
 grind[Mi]
def var?_of_cell{m:Int}(hb:P.globalNamed n=K1 b)(h:w.cell? ⟨b,0,Lr⟩=K1 (.int .i64 m)):∃c,w.var? P n=K1 c/\Qb0 c:=by
 unfold Lb.cell? at h;cases hh:w.heap[b]? with
 |none=>simp[hh]at h
 |some a=>
  cases a with
  |cells c t d=>
   refine⟨c,by grind[Lv],m,?_⟩;simp_all
  |_=>simp[hh]at h
section
variable {P:Le}{g:Vc}
def lh.intStr{k:IntKind}{G:Int->List UInt8}{lo hi:Int}(he:∀args w,(callFunc f args).run P w=.ok (.enter f args) w)
  (hc:∀n w,g.G w->lo<=n->n<=hi->Calls P f #[.int k n] w λe w'=>e=.returned (.string ⟨(G n).toArray⟩)/\Below w.heap.size w w'):
  lh P g {f:=f,args:=[.int k],res:=[.str],F:=λxs=>Zh (lo<=xs.1/\xs.1<=hi) (K1 (G xs.1,()))} where
 enters:=he
 calls:=λw xs r b d hx a=>by
  obtain⟨h,m,rfl,i,rfl⟩:=hx;obtain⟨rfl,_⟩:h=[.int k xs.1]/\_:=i;obtain⟨c,a⟩:=z8.1 a;simp only[pB]at a;subst a;refine(hc xs.1 w d c.1 c.2).mono λe w' ⟨j,l⟩=>⟨[.string ⟨(G xs.1).toArray⟩],[],j,⟨[_],[],[],[],rfl,rfl,⟨rfl,rfl⟩,rfl,rfl⟩,Ae,l⟩
end
open Go.RowKit Go.ChangeShapes Go.WideShapes Go.ChangeAt
section
variable {H:Type}{enc:Lf×La->H}{P:Le}
def Zsu{w:Lb}{sp:Nat->Bool}:∀{ns:List String}{gs:List (DataW H)}{ps:List MemPlace},DataW.TrodVars enc P w sp ns gs ps->gs.length=ns.length
 |[],[],_,_=>rfl
 |[],_::_,_,h=>h.elim
 |_::_,[],_,h=>h.elim
 |_::_,_::_,_,⟨_,_,_,_,_,_,_,_,_,_,h,_⟩=>by simp[Zsu h]
def Z2s{fid:FuncId}{args:List Ty}{F:dp args->Option (Bool×Unit)}{f:Func}{tb:Lf}(hok:lh P g ⟨fid,args,[.bool],F⟩)
  (hF:∀xs,wfA args xs->F xs=K1 (K3,())) (hfn:∀(H:Type)(ds gs:List (DataW H)),ds.length=f.params.size->gs.length=s.vars.length->s.fn H (ds++gs)={results:=[.lit (.bool K3)],args:=ds,vars:=gs})
  (hl:laidOutB P=K3) (hvr:varsRowed P s.vars=K3) (hd:KQ P f.params.toList args=K3) (hres:f.resultTypes= #[tb]) (htb:P.underlying tb=K1 .bool)
  (W:Lb) (base:Nat) (as:Array La) (ds gs:List (DataW H)) (before:List MemPlace)
  (hval:∀(j:Nat) t v,f.params[j]? =K1 t->as[j]? =K1 v->Ll P W .any base t v)
  (hgl:g.G W) (hW:Lz enc P f.params.toList s.vars K4 W as.toList ds gs before):
  Calls P fid as W λe W'=> ∃v,e=.returned v/\s.post enc P f K4 fresh handsOn K4 W as v W':=by
 have a:=hW;have b:=hW.lt;obtain⟨p,q,i,k,rfl,l,m⟩:=hW;obtain⟨⟨xs,n,o⟩,r⟩:=Z34 hd i (λj t v u hv=>hval j t v (by simpa using u) (by simpa using hv));have w:=hok.calls W xs (K3,()) as.toList hgl n (hF xs o);refine w.mono λB W' ⟨C,S,c,y,_,z⟩=>?_;obtain⟨D,E,I,J,rfl,rfl,⟨rfl,rfl⟩,rfl,rfl⟩:=y;subst c;refine⟨.bool K3,rfl,?_⟩;have d:s.fn H (ds++gs)={results:=[.lit (.bool K3)],args:=ds,vars:=gs}:=hfn H ds gs (by simpa using r) (Zsu k);have A:∀x∈p,x.block<W.heap.size:=λx hx=>b x (by simp[hx]);refine⟨ds,gs,p++q,[],p,q,a,?_,?_,?_,z.frame _,λh=>by cases h⟩
 ·rw[d,hres];exact trodAll_cons_mk (shut_bool htb K3) trodAll_mk0
 all_goals grind[Z3f,Below.trodVars]
end
def Z7a{H:Type}(ss:List (List UInt8)):DataW H:=.agg (ss.map λs=>.lit (.string s))
def Z2n{H:Type}{enc:Lf×La->H}{sp:Nat->Bool}{held:Bool}{fuel:Nat}{t e:Lf}{n:Nat}{cs:List La}{p:List MemPlace}
  (ht:P.underlying t=K1 (.array n e)) (he:P.underlying e=K1 .string) (hce:P.cellsOf e=1) (hct:P.cellsOf t=n)
  (h:Lo enc P w base sp held fuel t cs=K1 (Z7a zs,p)):cs=zs.map λz=>Lm ⟨⟨z⟩⟩:=by
 cases fuel with
 |zero=>simp[Lo]at h
 |succ fuel=>
  simp only[Lo,ht,hce,hct,Nat.mul_one]at h;split at h
  ·obtain⟨a,d,hx⟩:=Option.map_eq_some_iff.1 h;have c:a.map (·.1)=zs.map λz=>(DataW.lit (.string z):DataW H):=by
    simp_all[Z7a]
   have f:a.length=n:=by simpa using Lib.mapM_length d
   have g:zs.length=n:=by
    have:=congrArg List.length c
    grind
   apply Mb;intro i;by_cases j:i<n
   ·obtain⟨b,k,l⟩:=Lib.mapM_at d i i (by simp[j]);obtain⟨z,m,rfl,_⟩:=L3 he l;have o:cs[i]? =K1 (.string z):=by
     have:=congrArg (·[0]?) m
     grind
    have q:(a.map (·.1))[i]? =K1 (DataW.lit (.string z.data.toList):DataW H):=by simp[k]
    simp_all
   simp_all
  ·cases h
def Z7b{rest:List (String×DataW Unit)}{g:Nat}{t e:Lf}{n:Nat}
  (hg:P.globalNamed name=K1 g) (hty:(P.globals[g]?).map (·.type)=K1 t) (ht:P.underlying t=K1 (.array n e)) (he:P.underlying e=K1 .string) (hce:P.cellsOf e=1) (hct:P.cellsOf t=n)
  (h:laidMet P ((name,Z7a zs)::rest) W):W.var? P name=K1 (zs.map λz=>Lm ⟨⟨z⟩⟩).toArray:=by
 obtain⟨i,⟨j,k,l,d,p,q,b,c,a,f,_,_⟩,_⟩:=h;obtain rfl:=L1 (hg.symm.trans b);obtain rfl:=L1 (hty.symm.trans c);rw[a,<-Z2n ht he hce hct f]
def Qgu{g:Nat}(h:W.var? P name=K1 (zs.map λz=>Lm ⟨⟨z⟩⟩).toArray)(hg:P.globalNamed name=K1 g)(i:Nat)(hi:i<zs.length):
  W.cell? ⟨g,i,K2⟩=K1 (.string ⟨⟨zs.getD i []⟩⟩):=by
 have:=Mi hg h i;simp_all
section
variable {P:Le}{g:Vc}
def Z7s(w:Lb):∀n,Below w.heap.size w {w with drawn:=w.drawn+n}
 |_=>⟨rfl,rfl,rfl,Ld _,λ_ _=>rfl⟩
def Z4h{w:Lb}{X:Nat->Prop}{B:Nat}{own:Bool}:∀(l:List (List UInt8)),eh (rd w X B own .str) l (l.map λx=>.string ⟨⟨x⟩⟩) []
 |[]=>⟨rfl,rfl⟩
 |_::l=>⟨[_],_,[],[],rfl,rfl,⟨rfl,rfl⟩,Z4h l⟩
def lh.split{e:Lf}(he:∀args w,(callFunc f args).run P w=.ok (.enter f args) w)(hm:m<4294967296)
  (hv:∀w,g.G w-> ∃k,w.cell? ⟨b,0,Lr⟩=K1 (.int .i64 k))
  (hc:∀(s p:ByteArray)(k:Int)(w:Lb),s.size<m->w.cell? ⟨b,0,Lr⟩=K1 (.int .i64 k)->1<=p.size->Calls P f #[.string s,.string p] w λen w'=>
   en=.returned (.slice (K1 ⟨w.heap.size,0,Lr⟩) (Lj s p+1) (Lj s p+1))/\w'=w.alloc (.cells ((Lib.splitB p 0 (Lj s p) s).map Lm).toArray e)):
  lh P g {f:=f,args:=[.str,.str],res:=[.slice e .str],F:=λxs=>Zh (xs.1.length<m/\1<=xs.2.1.length) (K1 (Ls xs.2.1 0 (Lp xs.1 xs.2.1) xs.1,()))} where
 enters:=he
 calls:=λw xs r n t hx i=>by
  obtain⟨u,D,rfl,v,l,y,rfl,c,rfl⟩:=hx;obtain⟨rfl,_⟩:u=[.string ⟨⟨xs.1⟩⟩]/\_:=v;obtain⟨rfl,_⟩:l=[.string ⟨⟨xs.2.1⟩⟩]/\_:=c;obtain⟨j,i⟩:=z8.1 i;simp only[pB]at i;subst i;obtain⟨k,hk⟩:=hv w t;have o:Lj ⟨⟨xs.1⟩⟩ ⟨⟨xs.2.1⟩⟩=Lp xs.1 xs.2.1:=rfl;have z:Lj ⟨⟨xs.1⟩⟩ ⟨⟨xs.2.1⟩⟩<=xs.1.length:=Lib.countB_le ⟨⟨xs.2.1⟩⟩ j.2 xs.1.length ⟨⟨xs.1⟩⟩ (Ld _);have a:=Lib.splitB_data ⟨⟨xs.2.1⟩⟩ 0 (Lj ⟨⟨xs.1⟩⟩ ⟨⟨xs.2.1⟩⟩) ⟨⟨xs.1⟩⟩;have d:=Lib.splitB_all ⟨⟨xs.2.1⟩⟩ j.2 0 _ ⟨⟨xs.1⟩⟩ rfl;refine(hc ⟨⟨xs.1⟩⟩ ⟨⟨xs.2.1⟩⟩ k w j.1 hk j.2).mono λen w' ⟨c,q⟩=>?_;generalize Lib.splitB ⟨⟨xs.2.1⟩⟩ 0 (Lj ⟨⟨xs.1⟩⟩ ⟨⟨xs.2.1⟩⟩) ⟨⟨xs.1⟩⟩=L at q a d;have A:L.map Lm=(Ls xs.2.1 0 (Lp xs.1 xs.2.1) xs.1).map λx=>.string ⟨⟨x⟩⟩:=by
   have:Ls xs.2.1 0 (Lp xs.1 xs.2.1) xs.1=L.map (·.data.toList):=a.symm;rw[this,List.map_map];rfl
  have h:(Ls xs.2.1 0 (Lp xs.1 xs.2.1) xs.1).length=Lj ⟨⟨xs.1⟩⟩ ⟨⟨xs.2.1⟩⟩+1:=Ag
  have B:Below w.heap.size w w':=q▸(L2 _ w).alloc (Ld _) _;rw[<-h]at c;generalize Ls xs.2.1 0 (Lp xs.1 xs.2.1) xs.1=K at c A h⊢;have C:w'.heap[w.heap.size]? =K1 (.cells (L.map Lm).toArray e (0,0)):=by grind[Zqh]
  refine⟨[.slice (K1 ⟨w.heap.size,0,Lr⟩) K.length K.length],[w.heap.size],c,⟨[_],[],[w.heap.size],[],rfl,rfl,?_,rfl,rfl⟩,Ae,B⟩;refine⟨_,K.map λx=>.string ⟨⟨x⟩⟩,[w.heap.size],[],rfl,rfl,⟨⟨by simp[Ty.size],.inr ⟨w.heap.size,K.length,(L.map Lm).toArray,rfl,Ld _,C,Ld _,?_,?_,?_⟩⟩,rfl⟩,Z4h K⟩
  all_goals grind[maxLen,Ty.size,List.take_of_length_le]
end
section
open Go.RowKit
variable {H:Type}{enc:Lf×La->H}
def yf{a:Assume}{C:Checked}{os:Os}{aW:List PathCond}{apart again:Bool}{X:Lb->Array La->Prop}
  (hX:∀(w w':Lb)(args:Array La),w.heap=w'.heap->X w args->X w' args)
  (own:ownKnob C.prog.godebug=K2) (started:os.Started) (noInit:C.prog.inits.idxOf? f=K2) (hfn:C.prog.funcs[f]? =K1 fn)
  (witness:∃(w:Lb) (tape:Tape) (i:Input),w.os=os/\(w.forCall tape i).Shaped C.prog/\i.vars=[]/\Input.okWide C.prog (w.forCall tape i) .any w.heap.size f i/\
   ((s.pre enc C.prog fn aW apart (w.forCall tape i).memory i.args/\X (w.forCall tape i).memory i.args)/\sizedMet enc C.prog fn (Mf s) apart (w.forCall tape i).memory i.args)/\a.holds C.prog (lone (Frame.enter C.prog f i.args .normal) [] (w.forCall tape i)))
  (contract:∀(W:Lb)(base:Nat)(args:Array La)(ds gs:List (DataW H))(before:List MemPlace),
   (∀(j:Nat) t v,fn.params[j]? =K1 t->args[j]? =K1 v->Ll C.prog W .any base t v)->
   Lz enc C.prog fn.params.toList s.vars apart W args.toList ds gs before->
   X W args->W.ShapedOpen C.prog->
   Calls C.prog f args W λe W'=> ∃v,e=.returned v/\s.post enc C.prog fn apart fresh handsOn again W args v W'):
  ReturnsInHanded a C os f .any (λw args=>(s.pre enc C.prog fn aW apart w args/\X w args)/\sizedMet enc C.prog fn (Mf s) apart w args) (s.post enc C.prog fn apart fresh handsOn again):=by
 refine returnsInHanded_of_calls own started noInit witness ?_;intro w tape i _ h _ k b g;obtain⟨_,_,_,l,c,_,_,_,_,d⟩:=k;have e:l=fn:=L1 (c.symm.trans hfn);subst e;obtain⟨⟨⟨ds,gs,before,n,o⟩,hx⟩,p⟩:=b;have m:=Lz.of_heap (w':=w.forCall tape i) (by rfl) n;refine(contract (w.forCall tape i) w.heap.size i.args ds gs before d m (hX _ _ _ (by rfl) hx) h).mono λe W' ⟨v,q,r⟩=>?_;simp_all[ChangeSpec.post_blind]
end
end Go.Am

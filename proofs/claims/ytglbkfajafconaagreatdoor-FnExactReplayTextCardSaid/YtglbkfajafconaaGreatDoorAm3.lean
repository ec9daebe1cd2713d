/- No condition. -/
import Derived.Test.YtglbkfajafconaaGreatDoorAm2
import Derived.LoopN
import Derived.ProofKit
import Derived.OpenShut
import Derived.Carry
import Derived.JoinedCond
import Derived.IntWalk
import Derived.OpenVars
import Derived.Lib.LaidTab
import Derived.HandedShaped
import Derived.Lib.Atoi
import Derived.Lib.AtoiBound
import Derived.Lib.SplitLaws
import Derived.Lib.IndexMore
import Derived.Lib.AtoiErrMem
set_option linter.all false
namespace Go.Am
open Go.RowKit
open Option renaming some→K1,none→K2,none→Lw,map_eq_some_iff→Mw
open Go renaming Value→K3,World→Lb,TypeId→Lc,Oper→Le,Program→Lg,Code→Lh,Addr→Lk,IntKind→Ll,Operand→Lt,Calls→Ly,FuncId→Lz,Result→L5
open Bool renaming true→K4,false→La,noConfusion→Lx,not_eq_true'→Me
open Nat renaming beq→Ld,le_refl→Lf,blt→Lp,zero_add→Md,blt_eq→Mj,add_zero→Ms,zero_le→Mt
open List renaming mem_cons→Li,length→Lj,nodup_append→Lm,getElem?_append_right→Lv,nodup_cons→L7,not_mem_nil→L8,count→Mg,getElem?_cons_zero→Mh,length_eq_one_iff→Mi,append_assoc→Mp,count_append→Mq,mem_append→Mr,all_eq_true→M9,any_cons→Na,append_nil→Nb,drop_drop→Nf,eq_nil_of_length_eq_zero→Ng,ext_getElem?→Nh,getElem?_eq_getElem→Ni,map_cons→Nj,mem_singleton→Nk,nil_append→Nl,nodup_nil→Nm,replicate→Nn
open IntKind renaming i64→Ln
open Ne renaming symm→Lo
open Sem renaming run_pure→Lq,run_bind→Mk
open Lib renaming cut→Lr,countB→Lu,count→L6,atoi→Mb,splitK→Mc
open Decidable renaming decide→Ls
open Value renaming okWide→L0,string→L1,oneCell'→M0,ownBlock→M1,int→Nr,pointer→Ns
open DataW renaming trod→L4,TrodAll→Mn,Whole→Mo,trod_string→M5,trod_struct→M6
open Region renaming wanted→L9,noSelect→Nq
open Code renaming wp→Ma
open Ending renaming returned→Mf
open World renaming var?→Ml,cell?→Nt,cell?_of_block→Nu,cells?_some→Nv,var?_cell→Nw
open Addr.mk renaming injEq→Mm
open Obj.cells renaming injEq→Mu
open Oper renaming wp→Mv
open Option.some renaming inj→Mx
open Result renaming andThen_ok→My
open Result.ok renaming injEq→Mz
open Value.pointer renaming injEq→M2
open Go.RowKit.Below renaming refl→M3
open Builtin renaming append_→M4
open Instr renaming fill→M7,sureAddr→M8
open List.cons renaming inj→Nc,injEq→Nd
open OpenSpec renaming ofChange→Np
variable{a:Act}{ad:Lk}{ops:Array Le}{fresh handsOn:Bool}{s:ChangeSpec}{c:Lh}{Q:Exit->Act->Lb->Prop}{fn:Func}{f:Lz}{g:Kf}{zs:List (List UInt8)}{l:List (String×(Array K3->Prop))}{ln L:List Nat}{rest:List Le}{rs:List ResultVar}{vs:List K3}{r b q i m blk j t0 t1 t2 t3 base:Nat}{o:Le}{x:Lt}{P:Lg}{p:Prop}{n name:String}{y:TV}{τ:vJ}{U T1:Ty}{ρ α:Type}{e' eC:Lc}{v v' u:K3}{w w' W:Lb}{F1:T1.den->J6 [.int .i64]->Option (J6 [.int .i64]×T1.den)}
inductive PE where
 |val (k:Nat) (T:Ty) (f:Fl)
 |box (k:Nat) (e:Lc) (T:Ty) (f:Fl)
 |ptr (k r:Nat) (p:List Nat)
 |bor (k r:Nat) (p:List Nat)
 |shp (k:Nat) (T:Ty)
 |elp (k r:Nat) (p q:List Nat)
 |clo (k f:Nat) (l:List Nat)
def PE.key:PE->Nat|.val k .. |.box k .. |.ptr k .. |.bor k .. |.shp k .. |.elp k .. |.clo k .. =>k
@[reducible] def PE.dens:List PE->Type|[]=>Unit|.val _ T _::r=>T.den×PE.dens r|.box _ _ T _::r=>T.den×PE.dens r|.ptr .. ::r=>PE.dens r|.bor .. ::r=>PE.dens r|.shp _ T::r=>T.den×PE.dens r|.elp .. ::r=>Int×PE.dens r|.clo .. ::r=>PE.dens r
def qK:(p:List PE)->PE.dens p->List (A4×Tm)|[],_=>[]|.val k T f::r,x=>(.m k,.val T f x.1)::qK r x.2|.box k e T f::r,x=>(.m k,.box e T f x.1)::qK r x.2|.ptr k q p::r,x=>(.m k,.ptr q p)::qK r x|.bor k q p::r,x=>(.m k,.bor q p)::qK r x|.shp k T::r,x=>(.m k,.shp T x.1)::qK r x.2|.elp k j p q::r,x=>(.m k,.elp j p x.1 q)::qK r x.2|.clo k f l::r,x=>(.m k,.cl f l)::qK r x
def B5(ln:List Nat)(p:List PE)(x:PE.dens p):St:={env:=qK p x,pP:=[],pQ:=ln}
def BG:List PE->Nat->Bool
 |[],_=>La
 |e::r,k=>match Ld e.key k with
  |true=>match e with|.box .. =>K4|_=>La
  |false=>BG r k
def Fi:List PE->Nat->Bool
 |[],_=>La
 |e::r,k=>match Ld e.key k with
  |true=>match e with|.box .. |.val .. =>K4|_=>La
  |false=>Fi r k
def VB(s:St)(full:List PE):(p:List PE)->Option (PE.dens p)
 |[]=>K1 ()
 |.val k T f::r=>match s.get (.m k)with
  |.val U g y=>match Wb U g f,Jz T U y,VB s full r with
   |true,K1 z,K1 q=>K1 (z,q)
   |_,_,_=>K2
  |_=>K2
 |.box k e T f::r=>match s.get (.m k)with
  |.box e' U g y=>match Ld e' e&&Wb U g f,Jz T U y,VB s full r with
   |true,K1 z,K1 q=>K1 (z,q)
   |_,_,_=>K2
  |_=>K2
 |.ptr k j p::r=>match s.get (.m k)with
  |.ptr j' p'=>match Ld j' j&&B8 p' p&&BG full j with
   |true=>VB s full r
   |false=>K2
  |_=>K2
 |.bor k j p::r=>match s.get (.m k)with
  |.bor j' p'=>match Ld j' j&&B8 p' p&&Fi full j&& !(s.bad j p)with
   |true=>VB s full r
   |false=>K2
  |_=>K2
 |.shp k T::r=>match s.get (.m k)with
  |.shp U y=>match Jz T U y,VB s full r with
   |some z,K1 q=>K1 (z,q)
   |_,_=>K2
  |_=>K2
 |.elp k j p q::r=>match s.get (.m k)with
  |.elp j' p' i q'=>match Ld j' j&&B8 p' p&&B8 q' q&&Fi full j&& !(s.bad j p),VB s full r with
   |true,K1 x=>K1 (i,x)
   |_,_=>K2
  |_=>K2
 |.clo k f l::r=>match s.get (.m k)with
  |.cl f' l'=>match Ld f' f&&B8 l' l&&l.all (BG full)with
   |true=>VB s full r
   |false=>K2
  |_=>K2
def SE:∀{p:List PE}{x:PE.dens p}{k:Nat},BG p k=K4-> ∃e T f y,ma (qK p x) (.m k)=.box e T f y
 |e::r,x,k,h=>by
  simp only[BG]at h;split at h
  ·rename_i b;have:=pD b;split at h
   all_goals simp_all[PE.key,qK,Qd]
  ·rename_i b;have a:e.key≠k:=λc=>Af
   cases e<;>simp only[PE.key]at a<;>simp only[qK,Qd,A4.m.injEq,a,if_false]<;>exact SE h
def C8:∀{p:List PE}{x:PE.dens p}{k:Nat},Fi p k=K4->ma (qK p x) (.m k)≠ .pR
 |e::r,x,k,h=>by
  simp only[Fi]at h;split at h
  ·rename_i b;have:=pD b;split at h
   all_goals simp_all[PE.key,qK,Qd]
  ·rename_i b;have a:e.key≠k:=λc=>Af
   cases e<;>simp only[PE.key]at a<;>simp only[qK,Qd,A4.m.injEq,a,if_false]<;>exact C8 h
def NJ:∀{p:List PE}{x:PE.dens p}{d i:Nat},ma (qK p x) (.c d i)=.pR
 |[],_,_,_=>rfl
 |e::r,x,d,i=>by cases e<;>simp only[qK,Qd,reduceCtorEq,if_false]<;>exact NJ
def iy{T:Ty}{x:T.den}{y:U.den}(h:Jz U T x=K1 y):∃e:T=U,y=e▸x:=by grind[Jz]
section
variable {P:Lg}{g:Kf}{W0:bu g}{w w':Lb}{X X':Nat->Prop}{B B' n:Nat}{own:Ow}{s s':St}{F:A4->List Nat}{a:Act}{H H':List Nat}{o:Le}{tg:Yl}{τ:vJ}{C:ML}{gh:Nat->K3}
def VC{ln:List Nat}{full:List PE}{xf:PE.dens full}:∀{p:List PE}{x:PE.dens p},VB s full p=K1 x-> ∀k,KT s (B5 ln full xf) (s.get k) (ma (qK p x) k)
 |[],_,_,k=>.pR _
 |e::r,x,h,k=>by
  cases e with
  |val m T f=>
   simp only[VB]at h;split at h
   ·rename_i U g y b;split at h
    ·rename_i z q n c d;simp only[pB]at h;subst h;simp only[qK,Qd];split
     ·rename_i e;subst e;obtain⟨rfl,rfl⟩:=iy c;rw[b];exact .val (.inr n)
     ·exact VC d k
    ·cases h
   ·cases h
  |box m e T f=>
   simp only[VB]at h;split at h
   ·rename_i u U g y b;split at h
    ·rename_i z q n c d;simp only[pC]at n;simp only[pB]at h;subst h;simp only[qK,Qd];split
     ·rename_i e;subst e;obtain⟨rfl,rfl⟩:=iy c;rw[b,pD n.1];exact .box (.inr n.2)
     ·exact VC d k
    ·cases h
   ·cases h
  |ptr m j p=>
   simp only[VB]at h;split at h
   ·rename_i o t b;split at h
    ·rename_i a;simp only[pC]at a;simp only[qK,Qd];split
     ·rename_i e;subst e;rw[b,pD a.1.1,zS a.1.2];exact .ptr (SE a.2)
     ·exact VC h k
    ·cases h
   ·cases h
  |bor m j p=>
   simp only[VB]at h;split at h
   ·rename_i o t b;split at h
    ·rename_i a;simp only[pC,Me]at a;simp only[qK,Qd];split
     ·rename_i e;subst e;rw[b,pD a.1.1.1,zS a.1.1.2];exact .bor a.2 (C8 a.1.2)
     ·exact VC h k
    ·cases h
   ·cases h
  |shp m T=>
   simp only[VB]at h;split at h
   ·rename_i U y b;split at h
    ·rename_i z q c d;simp only[pB]at h;subst h;simp only[qK,Qd];split
     ·rename_i e;subst e;obtain⟨rfl,rfl⟩:=iy c;rw[b];exact .shp
     ·exact VC d k
    ·cases h
   ·cases h
  |elp m j p q=>
   simp only[VB]at h;split at h
   ·rename_i o t i v b;split at h
    ·rename_i z a c;simp only[pC,Me]at a;simp only[pB]at h;subst h;simp only[qK,Qd];split
     ·rename_i e;subst e;rw[b,pD a.1.1.1.1,zS a.1.1.1.2,zS a.1.1.2];exact .elp a.2 (C8 a.1.2)
     ·exact VC c k
    ·cases h
   ·cases h
  |clo m f l=>
   simp only[VB]at h;split at h
   ·rename_i w A b;split at h
    ·rename_i a;simp only[pC]at a;simp only[qK,Qd];split
     ·rename_i e;subst e;rw[b,pD a.1.1,zS a.1.2];exact .cl λq d=>SE (M9.1 a.2 q d)
     ·exact VC h k
    ·cases h
   ·cases h
def R.pat{p:List PE}{x:PE.dens p}(h:R n W0 w X F H s a)(hl:∀p,p∈W0.fix->p.1∈ln)(hp:VB s p p=K1 x):∃F',R n W0 w X F' H (B5 ln p x) a:=h.weak (λk=>VC hp k) (λ_ _ b=>absurd NJ b) hl
def YC:List PE->St->St
 |.val k _ (.u .sh)::r,s=>match s.get (.m k)with
  |.val U g x=>match Wb U g (.u .sh),g.live with
   |false,K4=>YC r (KJ s k (.val U (.u .sh) x))
   |_,_=>YC r s
  |_=>YC r s
 |.val k _ (.p (.u .ow) (.u .sh))::r,s=>match s.get (.m k)with
  |.val (.slice e t) (.u .ow) x=>YC r (KJ s k (.val (.slice e t) .e x))
  |_=>YC r s
 |.box k _ _ (.u .sh)::r,s=>match s.get (.m k)with
  |.box e U g x=>match Wb U g (.u .sh),g.live with
   |false,K4=>YC r (Ee s k e U x)
   |_,_=>YC r s
  |_=>YC r s
 |.box k _ _ (.p a b)::r,s=>match s.get (.m k)with
  |.box _ U g _=>match Wb U g (.p a b)with
   |true=>YC r s
   |false=>YC r (Qpr s k (.p a b))
  |_=>YC r s
 |_::r,s=>YC r s
 |[],s=>s
def Yr(hs0:g.soft=La):∀{p:List PE}{s:St}{X:Nat->Prop}{F:A4->List Nat},R n W0 w X F H s a-> ∃X' F',R n W0 w X' F' H (YC p s) a
 |[],s,X,F,h=>⟨X,F,h⟩
 |.val k T (.u .sh)::r,s,X,F,h=>by
  simp only[YC];split
  ·rename_i U g x f;split
   ·rename_i j;exact Yr hs0 (R.frz hs0 h f j)
   ·exact Yr hs0 h
  ·exact Yr hs0 h
 |.val k T (.u .ow)::r,s,X,F,h=>Yr hs0 (p:=r) h
 |.val k T (.u .an)::r,s,X,F,h=>Yr hs0 (p:=r) h
 |.val k T (.p o q)::r,s,X,F,h=>by
  unfold YC;split
  ·simp_all
  ·rename_i c;cases c;split
   ·rename_i e t x f;obtain⟨l,m,i⟩:=R.frzE hs0 h f;exact Yr hs0 i
   ·exact Yr hs0 h
  ·simp_all
  ·simp_all
  ·rename_i c;cases c;exact Yr hs0 (p:=r) h
  simp_all
 |.val k T .d::r,s,X,F,h=>Yr hs0 (p:=r) h
 |.box k v T (.u .sh)::r,s,X,F,h=>by
  simp only[YC];split
  ·rename_i e U g x f;split
   ·rename_i j;obtain⟨l,m,i,_⟩:=R.frzX hs0 h f j;exact Yr hs0 i
   ·exact Yr hs0 h
  ·exact Yr hs0 h
 |.box _ _ _ (.u .ow)::r,s,X,F,h=>Yr hs0 (p:=r) h
 |.box _ _ _ (.u .an)::r,s,X,F,h=>Yr hs0 (p:=r) h
 |.box k _ _ (.p a b)::r,s,X,F,h=>by
  simp only[YC];split
  ·split
   ·exact Yr hs0 h
   ·obtain⟨l,m,i⟩:=R.frzP hs0 h k (.p a b);exact Yr hs0 i
  ·exact Yr hs0 h
 |.box _ _ _ .d::r,s,X,F,h=>Yr hs0 (p:=r) h
 |.ptr .. ::r,s,X,F,h=>Yr hs0 (p:=r) h
 |.bor .. ::r,s,X,F,h=>Yr hs0 (p:=r) h
 |.shp .. ::r,s,X,F,h=>Yr hs0 (p:=r) h
 |.elp .. ::r,s,X,F,h=>Yr hs0 (p:=r) h
 |.clo .. ::r,s,X,F,h=>Yr hs0 (p:=r) h
def CE(s:St)(r:Nat):Bool:=match s.get (.m r)with|.box .. =>K4|_=>La
def Cj(L:List Nat)(r:Nat):Bool:=L.any (Ld r)
def Rh(s:St)(L:List Nat):Tm->Tm
 |.val T f x=>.val T f x
 |.box e T f x=>.box e T f x
 |.shp T x=>.shp T x
 |.ptr r p=>match Cj L r&&CE s r with|true=>.ptr r p|false=>.pR
 |.pls h l=>match l.all (λq=>Cj L q.1&&CE s q.1)with|true=>.pls h l|false=>.pR
 |_=>.pR
def RT(L:List Nat)(s:St):St:={env:=L.map λk=>(.m k,Rh s L (s.get (.m k))),pP:=[],pQ:=s.pQ}
def HS:List (A4×Tm)->List Nat
 |[]=>[]
 |(.m k,_)::r=>match Cj (HS r) k with|true=>HS r|false=>k::HS r
 |_::r=>HS r
def Oq(L:List Nat)(s:St)(k:A4):(RT L s).get k=match k with|.m t=>(match Cj L t with|true=>Rh s L (s.get (.m t))|false=>.pR)|.c _ _=>.pR:=by
 have a:∀M:List Nat,ma (M.map λk=>(A4.m k,Rh s L (s.get (.m k)))) k=match k with|.m t=>(match Cj M t with|true=>Rh s L (s.get (.m t))|false=>.pR)|.c _ _=>.pR:=by
  intro M
  induction M with
  |nil=>cases k<;>rfl
  |cons m M b=>
   rw[Nj,Qd,b];cases k with
   |c t i=>simp
   |m t=>
    by_cases h:m=t
    ·simp_all[Cj]
    ·have:Cj (m::M) t=Cj M t:=by simp only[Cj,Na];rw[show Ld t m=La by rw[Bool.eq_false_iff];grind[pD]];rfl
     simp_all
 exact a L
def FG{s:St}(h:(Cj L r&&CE s r)=K4):∃e T f x,(RT L s).get (.m r)=.box e T f x:=by
 simp only[pC]at h;unfold CE at h;rw[Oq];simp only[h.1];have a:=h.2;split at a
 ·rename_i e T f x b;rw[b];exact⟨e,T,f,x,rfl⟩
 ·cases a
def R.keep(h:R n W0 w X F H s a):∃F',R n W0 w X F' H (RT L s) a:=by
 refine h.weak (λk=>?_) (λd i b=>absurd (Oq L s (.c d i)) b) (λp f=>(h.fix p f).1);rw[Oq];cases k with
 |c t i=>exact .pR _
 |m t=>
  simp only;split
  ·generalize s.get (.m t)=u;cases u with
   |val=>exact .val (.inl rfl)
   |box=>exact .box (.inl rfl)
   |shp=>exact .shp
   |ptr r p=>
    simp only[Rh];split
    ·rename_i e;exact .ptr (FG e)
    ·exact .pR _
   |pls j l=>
    simp only[Rh];split
    ·rename_i e;exact .pls λq g=>FG (M9.1 e q g)
    ·exact .pR _
   |_=>exact .pR _
  ·exact .pR _
def Qud(C:ML)(s:St)(o:Le):Bool:=
 match o.guard,o.op with
 |none,.call {callee:=.value fo,..}=>match Dl s [] fo with
  |some f=>(C.ΓL.find f).isSome
  |none=>La
 |_,_=>La
def jQ(C:ML)(s:St)(o:Le):Option ((Lz×Nat×Lc×Ty)×List Lt):=
 match C.del with
 |none=>K2
 |some z=>match o.guard,o.op with
  |none,.call {callee:=.value fo,args:=xs,..}=>match Dl s [] fo with
   |some f=>match Ld f z.1 with
    |true=>K1 (z,xs.toList)
    |false=>K2
   |none=>K2
  |_,_=>K2
def BW(C:ML)(s:St)(o:Le):Option (CN×Nat×Lt×List Lt):=
 match C.ΓN with
 |[]=>K2
 |Γ=>match o.guard,o.op,o.dst with
  |none,.call {callee:=.value fo,args:=⟨x::xs⟩,..},K1 d=>match Dl s [] fo with
   |some f=>match Γ.find f with
    |some e=>K1 (e,d,x,xs)
    |none=>K2
   |none=>K2
  |_,_,_=>K2
noncomputable def jJ{ρ:Type}(C:ML)(n:Nat)(ops:Array Le)(o:Le)(s:St)(k:St->Option ρ):Option ρ:=
 match jQ C s o with
 |some (z,xs)=>P3 n s z.2.1 z.2.2.1 z.2.2.2 xs o.dst k
 |none=>match BW C s o with
 |some (e,d,x,xs)=>nK n s d e x xs k
 |none=>match Ca C s o with
 |some (E,ts)=>Dv C.τ n s o.dst E ts k
 |none=>match Sw C s ops o with
 |some (g,b,d,f,xs)=>l9 C n o s g b d f xs k
 |none=>match P7 C s o with
 |some (f,xs)=>Fp C.ΓB n s o.dst f xs.toList k
 |none=>match Qud C s o with
 |true=>match o.guard,o.op with
  |none,.call {callee:=.value fo,args:=xs,..}=>match Dl s [] fo with
   |some f=>JW C.ΓL n s o.dst f xs.toList k
   |none=>K2
  |_,_=>K2
 |false=>Sd C n ops o s k
def Qcn(hC:C.ok P g)(h:R n W0 w X F [] s a){k:St->Option ρ}{r:ρ}(hs:jJ C n ops o s k=K1 r){K:Act->Lb->Prop}
  (hK:∀w' a' X' F' s',k s'=K1 r->R n W0 w' X' F' [] s' a'->K a' w'):ite (L9 o (yielded ops a.tmps)) (o.wp P a w K Q) (K (a.put o.dst undef) w):=by
 unfold jJ at hs;split at hs
 ·rename_i z y c;unfold jQ at c;split at c
  ·cases c
  ·rename_i I J;split at c
   ·rename_i A u p l q;split at c
    ·rename_i f t;split at c
     ·rename_i B;simp only[pB,pF]at c;obtain⟨rfl,rfl⟩:=c;obtain⟨V,W,Y,Z⟩:=I;obtain rfl:=pD B;rw[if_pos (by simp[L9,l])];exact Qik (hC.del _ _ _ _ J) h (q7 h aO t) q hs λv w' X' F' s' hk i=>hK w' _ X' F' s' hk i
     ·cases c
    ·cases c
   ·cases c
 split at hs
 ·rename_i e d x y j;unfold BW at j;split at j
  ·cases j
  ·split at j
   ·rename_i A x' u p l q c;split at j
    ·rename_i f t;split at j
     ·rename_i e' L;simp only[pB,pF]at j;obtain⟨rfl,rfl,rfl,rfl⟩:=j;obtain⟨rfl,D⟩:=EI.find_ok hC.ΓN L;rw[if_pos (by simp[L9,l])];exact Qm4 D h (q7 h aO t) q rfl c hs λv w' X' F' s' hk i=>hK w' _ X' F' s' hk i
     ·cases j
    ·cases j
   ·cases j
 split at hs
 ·rename_i E ts M;obtain⟨l,N,vs,O,S,U⟩:=MR hC h M;rw[if_pos (by simp[L9,l])];exact H6 hC.τ N h O S U hs λv w' X' F' s' hk i=>hK w' _ X' F' s' hk i
 split at hs
 ·rename_i gs b d f y G;exact LV hC h G hs λv w' X' F' s' hk i _ _=>hK w' _ X' F' s' hk i
 split at hs
 ·rename_i f y m;unfold P7 at m;split at m
  ·rename_i A u p H l q;split at m
   ·rename_i f' t;split at m
    ·simp only[pB,pF]at m;obtain⟨rfl,rfl⟩:=m;rw[if_pos (by simp[L9,l])];exact P6 (hC.soft.trans H) hC.ΓB h (q7 h aO t) q hs λv w' X' F' s' hk i _ _=>hK w' _ X' F' s' hk i
    ·cases m
   ·cases m
  ·cases m
 split at hs
 ·split at hs
  ·rename_i A y p l q;split at hs
   ·rename_i f t;rw[if_pos (by simp[L9,l])];exact Qbl hC.ΓL h (q7 h aO t) q hs λv w' X' F' s' hk i=>hK w' _ X' F' s' hk i
   ·cases hs
  ·cases hs
 ·exact gY hC h hs λw' a' X' F' s' hk i _=>hK w' a' X' F' s' hk i
noncomputable def OB{ρ:Type}(C:ML)(n:Nat)(ops:Array Le):List Le->St->(St->Option ρ)->Option ρ|[],s,k=>k (Zj6 s)|o::r,s,k=>jJ C n ops o s λs'=>OB C n ops r s' k
def WW{ρ:Type}(hC:C.ok P g){ops:Array Le}{k:St->Option ρ}{r:ρ}{Q:Exit->Act->Lb->Prop}
  (hK:∀w' a' X' F' s',k s'=K1 r->R n W0 w' X' F' [] s' a'->Q .normal a' w'):
  ∀{l:List Le}{s:St}{w:Lb}{X:Nat->Prop}{F:A4->List Nat}{a:Act},R n W0 w X F [] s a->OB C n ops l s k=K1 r->wpList P ops Q l a w
 |[],s,w,X,F,a,h,b=>by
  obtain⟨F',d⟩:=h.clean;exact hK w a X F' _ b d
 |o::l,s,w,X,F,a,h,b=>by
  refine wpList_step λK c=>?_;exact Qcn hC h b λw' a' X' F' s' hk e=>c _ _ (WW hC hK e hk)
inductive An(ρ:Type) where
 |leaf
 |seq (a b:An ρ)
 |cond (a b:An ρ)
 |block (a:An ρ)
 |loop (p:List PE) (f:Nat->PE.dens p->Option ρ) (fuel:PE.dens p->Nat) (a:(PE.dens p->Option ρ)->An ρ)
 |join (p:List PE) (f:PE.dens p->Option ρ) (a b:An ρ)
 |unroll (L:List Nat) (m:Nat) (a:Nat->An ρ)
 |frz (L:List (Nat×Fl))
 |ext (G:(St->Option ρ)->St->Option ρ)
def H0{ρ:Type}(C:ML)(n:Nat)(ops:Array Le)(G:(St->Option ρ)->St->Option ρ):Prop:=∀{P:Lg}{g:Kf}{W0:bu g}{w:Lb}{X:Nat->Prop}{F:A4->List Nat}{s:St}{a:Act}{k:St->Option ρ}{r:ρ}{Q:Exit->Act->Lb->Prop},C.ok P g->R n W0 w X F [] s a->G k s=K1 r->(∀w' a' X' F' s',k s'=K1 r->R n W0 w' X' F' [] s' a'->Q .normal a' w')->wpList P ops Q ops.toList a w
def Z47{ρ:Type}(sf:Bool)(A:An ρ)(s:St):St:=match A with
 |.frz L=>match sf with|true=>s|false=>Zj6 (vS L s)
 |_=>s
def ZB{ρ:Type}(k1:St->Option ρ)(k:Exit->St->Option ρ):Exit->St->Option ρ|.normal,s=>k1 s|e,s=>k e s
def FK{ρ:Type}(id:Nat)(k:Exit->St->Option ρ):Exit->St->Option ρ
 |.exit j,s=>match Ld j id with|true=>k .normal s|false=>k (.exit j) s
 |e,s=>k e s
def IE(sf:Bool)(p:List PE)(s:St):St:=match sf with|true=>s|false=>YC p s
def Hy{ρ:Type}(sf:Bool)(p:List PE)(f:PE.dens p->Option ρ):St->Option ρ:=λs=>match VB (IE sf p s) p p with
 |some v=>f v
 |none=>K2
def IU{ρ:Type}(f:Nat->(St->Option ρ)->St->Option ρ):Nat->St->Option ρ|0=>λ_=>K2|m+1=>f m (IU f m)
noncomputable def Kz{ρ:Type}(C:ML)(n:Nat):Lh->An ρ->(Exit->St->Option ρ)->St->Option ρ
 |.skip,_,k,s=>k .normal s
 |.region _ ops draw,A,k,s=>match draw with
  |false=>match A with
   |.ext G=>G (k .normal) s
   |_=>OB C n ops ops.toList (Z47 C.soft A s) (k .normal)
  |true=>match Nq ops with
   |true=>DX C n ops (E2 (Z47 C.soft A s) ops) ops.size (Array.replicate ops.size La) (Z47 C.soft A s) (k .normal)
   |false=>K2
 |.seq a b,A,k,s=>match A with
  |.seq A B=>Kz C n a A (ZB (Kz C n b B k) k) s
  |.join p f A _=>Kz C n a A (ZB (Hy C.soft p f) k) s
  |_=>Kz C n a .leaf (ZB (Kz C n b .leaf k) k) s
 |.cond x a b,A,k,s=>match cu s (RO s [] x) .bool with
  |some c=>match A with
   |.cond A B=>cond c (Kz C n a A k s) (Kz C n b B k s)
   |_=>cond c (Kz C n a .leaf k s) (Kz C n b .leaf k s)
  |none=>K2
 |.block id b,A,k,s=>match A with
  |.block A=>Kz C n b A (FK id k) s
  |_=>Kz C n b .leaf (FK id k) s
 |.loop b,A,k,s=>match A with
  |.loop p f fuel _=>Hy C.soft p (λv=>f (fuel v) v) s
  |.unroll L m A=>IU (λi kk s=>Kz C n b (A i) (ZB kk k) (RT L s)) m s
  |.leaf=>IU (λ_ kk s=>Kz C n b .leaf (ZB kk k) (RT (HS s.env) s)) 6 s
  |_=>K2
 |.exit id,_,k,s=>k (.exit id) s
 |.ret,A,k,s=>k .ret (Z47 C.soft A s)
 |_,_,_,_=>K2
def Vx{ρ:Type}(C:ML)(n:Nat):Lh->An ρ->(Exit->St->Option ρ)->Prop
 |.seq a b,A,k=>match A with
  |.seq A B=>Vx C n a A (ZB (Kz C n b B k) k)/\Vx C n b B k
  |.join p f A B=>Vx C n a A (ZB (Hy C.soft p f) k)/\(∀v,f v=Kz C n b B k (B5 C.pQ p v))/\Vx C n b B k
  |_=>True
 |.cond _ a b,A,k=>match A with
  |.cond A B=>Vx C n a A k/\Vx C n b B k
  |_=>True
 |.block id b,A,k=>match A with
  |.block A=>Vx C n b A (FK id k)
  |_=>True
 |.loop b,A,k=>match A with
  |.loop p f _ A=>(∀v,f 0 v=K2)/\ ∀N,(∀v,f (N+1) v=Kz C n b (A (f N)) (ZB (Hy C.soft p (f N)) k) (B5 C.pQ p v))/\Vx C n b (A (f N)) (ZB (Hy C.soft p (f N)) k)
  |.unroll L m A=> ∀i,i<m->Vx C n b (A i) (ZB (IU (λi kk s=>Kz C n b (A i) (ZB kk k) (RT L s)) i) k)
  |_=>True
 |.region _ ops _,A,_=>match A with
  |.ext G=>H0 C n ops G
  |_=>True
 |_,_,_=>True
def NC{ρ:Type}{g:Kf}(n:Nat)(W0:bu g)(k:Exit->St->Option ρ)(r:ρ):Exit->Act->Lb->Prop:=λe a w=> ∃s X F,k e s=K1 r/\R n W0 w X F [] s a
def Xj(c:Lh)(k:Exit->St->Option ρ):Vx C n c .leaf k:=by cases c<;>simp[Vx]
def BA(hC:C.ok P g)(hl:∀p,p∈W0.fix->p.1∈C.pQ){p:List PE}{f:PE.dens p->Option ρ}{r:ρ}(h:R n W0 w X F H s a)(hj:Hy C.soft p f s=K1 r):∃v X' F',f v=K1 r/\R n W0 w X' F' H (B5 C.pQ p v) a:=by
 unfold Hy at hj;split at hj
 ·rename_i v hv;obtain⟨b,c,d⟩:∃b c,R n W0 w b c H (IE C.soft p s) a:=by
   cases hsf:C.soft
   ·exact Yr (hC.soft.trans hsf) (p:=p) h
   ·exact⟨X,F,h⟩
  obtain⟨F',e⟩:=d.pat hl hv
  grind
 ·cases hj
def R.frzA(hC:C.ok P g)(A:An ρ)(h:R n W0 w X F [] s a):∃X' F',R n W0 w X' F' [] (Go.Am.Z47 C.soft A s) a:=by
 unfold Go.Am.Z47;split
 ·rename_i L;cases hsf:C.soft
  ·obtain⟨c,d,b⟩:=FZ (hC.soft.trans hsf) (L:=L) h;obtain⟨e,f⟩:=b.clean
   grind
  grind
 grind
def GG{I:Nat->Prop}(h:∃N,I N):∃N,I N/\ ∀M,I M->N<=M:=by
 obtain⟨N,a⟩:=h
 induction N using Nat.strongRecOn with
 |_ N b=>
  grind
def QS(hC:C.ok P g)(hl:∀p,p∈W0.fix->p.1∈C.pQ){r:ρ}:∀{c:Lh}{A:An ρ}{k:Exit->St->Option ρ}{s:St}{w:Lb}{X:Nat->Prop}{F:A4->List Nat}{a:Act},
  Vx C n c A k->Kz C n c A k s=K1 r->R n W0 w X F [] s a->c.wp P (NC n W0 k r) a w:=by
 intro c
 induction c with
 |skip=>intro A k s w X F a _ d h;exact wp_skip ⟨s,X,F,d,h⟩
 |region id J S=>
  intro A k s w X F a K d h;have ar:(match S with
    |false=>OB C n J J.toList (Z47 C.soft A s) (k .normal)
    |true=>match Nq J with
     |true=>DX C n J (E2 (Z47 C.soft A s) J) J.size (Array.replicate J.size La) (Z47 C.soft A s) (k .normal)
     |false=>K2)=K1 r\/(∃G,A=.ext G/\S=La):=by
   cases S
   ·cases A<;>first|exact .inr ⟨_,rfl,rfl⟩|exact .inl d
   ·cases A<;>exact .inl d
  rcases ar with d|⟨G,rfl,rfl⟩
  rotate_left
  ·simp only[Kz]at d;simp only[Vx]at K;exact wp_region_list (K hC h d λO Q t u D hk E=>⟨D,t,u,hk,E⟩)
  obtain⟨X,F,h⟩:=h.frzA hC A;generalize Z47 C.soft A s=s at d h;split at d
  ·exact wp_region_list (WW hC (λO Q t u D hk E=>⟨D,t,u,hk,E⟩) h d)
  ·split at d
   ·rename_i hB;have W:R n W0 {w with drawn:=w.drawn+1} X F [] s a:=h.world (h.below.step (M3 _ w).drew) (Lf _) (λ_ _=>rfl) (λ_ _ _=>rfl);exact wp_region_any hC.follows (Fu (Qn:=λQ O=>NC n W0 k r .normal Q O) (λ_ _ h=>h) _ _ _ _
     (NL (Sh:=λ_=>False) hC (Region.noSelect_spec hB) (λi r hr j o ho=>Qkv hr ho) (λO Q t u D hk E=>⟨D,t,u,hk,E⟩) (λm o _ hm=>by simp only[Array.getD_eq_getD_getElem?,Array.getElem?_replicate]at hm;grind) W (λ_ h=>h.elim) d))
   ·cases d
 |seq x y au Y=>
  intro A k s w X F a K d h;have q:∀{A B:An ρ},Vx C n x A (ZB (Kz C n y B k) k)->Vx C n y B k->Kz C n x A (ZB (Kz C n y B k) k) s=K1 r->(Lh.seq x y).wp P (NC n W0 k r) a w:=by
   intro A B h1 W h3;refine wp_seq (wp_mono (au h1 h3 h) λe Q O U=>?_);obtain⟨D,t,u,hk,E⟩:=U;cases e with
   |normal=>exact Y W hk E
   |_=>exact⟨D,t,u,hk,E⟩
  cases A with
  |seq A B=>grind[Kz,Vx]
  |join p f A B=>
   simp only[Kz]at d;simp only[Vx]at K;refine wp_seq (wp_mono (au K.1 d h) λe Q O U=>?_);obtain⟨D,t,u,hk,E⟩:=U;cases e with
   |normal=>
    obtain⟨v,X2,F2,hv,Z⟩:=BA hC hl E hk;rw[K.2.1]at hv;exact Y K.2.2 hv Z
   |_=>exact⟨D,t,u,hk,E⟩
  |leaf=>simp only[Kz]at d;exact q (Xj _ _) (Xj _ _) d
  |cond=>simp only[Kz]at d;exact q (Xj _ _) (Xj _ _) d
  |block=>simp only[Kz]at d;exact q (Xj _ _) (Xj _ _) d
  |loop=>simp only[Kz]at d;exact q (Xj _ _) (Xj _ _) d
  |unroll=>simp only[Kz]at d;exact q (Xj _ _) (Xj _ _) d
  |frz=>simp only[Kz]at d;exact q (Xj _ _) (Xj _ _) d
  |ext=>simp only[Kz]at d;exact q (Xj _ _) (Xj _ _) d
 |cond x y z Y a4=>
  intro A k s w X F a K d h;simp only[Kz]at d;split at d
  ·rename_i b hb;have hv:=rm h aO hb;have l:∀{A B:An ρ},Vx C n y A k->Vx C n z B k->(cond b (Kz C n y A k s) (Kz C n z B k s))=K1 r->(Lh.cond x y z).wp P (NC n W0 k r) a w:=by
    grind[wp_cond_split]
   cases A with
   |cond A B=>grind[Vx]
   |leaf=>exact l (Xj _ _) (Xj _ _) d
   |seq=>exact l (Xj _ _) (Xj _ _) d
   |block=>exact l (Xj _ _) (Xj _ _) d
   |loop=>exact l (Xj _ _) (Xj _ _) d
   |join=>exact l (Xj _ _) (Xj _ _) d
   |unroll=>exact l (Xj _ _) (Xj _ _) d
   |frz=>exact l (Xj _ _) (Xj _ _) d
   |ext=>exact l (Xj _ _) (Xj _ _) d
  ·cases d
 |block id b ih=>
  intro A k s w X F a K d h;have V:∀{A:An ρ},Vx C n b A (FK id k)->Kz C n b A (FK id k) s=K1 r->(Lh.block id b).wp P (NC n W0 k r) a w:=by
   intro A h1 W;refine wp_block (wp_mono (ih h1 W h) λe Q O U=>?_);obtain⟨D,t,u,hk,E⟩:=U;cases e with
   |exit j=>
    simp only[FK]at hk;simp only[Exit.inBlock];split at hk
    ·rename_i hb;rw[if_pos (pD hb)];exact⟨D,t,u,hk,E⟩
    ·rename_i hb;rw[if_neg (λe=>Af)];exact⟨D,t,u,hk,E⟩
   |_=>exact⟨D,t,u,hk,E⟩
  cases A with
  |block A=>grind[Kz,Vx]
  |_=>simp only[Kz]at d;exact V (Xj _ _) d
 |loop b ih=>
  intro A k s w X F a K d h;cases A with
  |loop p f a3 A=>
   simp only[Kz]at d;simp only[Vx]at K;obtain⟨h0,hN⟩:=K;obtain⟨v,X2,F2,hv,Z⟩:=BA hC hl h d
   classical
   let I:Nat->Act->Lb->Prop:=λN a w=> ∃v X F,f N v=K1 r/\R n W0 w X F [] (B5 C.pQ p v) a
   let μ:Act->Lb->Nat:=λa w=>if h:∃N,I N a w then(GG h).choose else 0
   refine wp_loop (λa w=> ∃N,I N a w) μ ⟨_,v,X2,F2,hv,Z⟩ λa w hI=>?_;have a5:I (μ a w) a w:=by
    grind
   obtain⟨v,X,F,hv,E⟩:=a5;generalize hM:μ a w=M at hv;cases M with
   |zero=>simp_all
   |succ N=>
    obtain⟨h1,W⟩:=hN N;rw[h1]at hv;refine wp_mono (ih W hv E) λe Q O U=>?_;obtain⟨D,t,u,hk,H⟩:=U;cases e with
    |normal=>
     obtain⟨v',X3,F3,a1,a2⟩:=BA hC hl H hk;have a0:I N Q O:=⟨v',X3,F3,a1,a2⟩
     have ab:∃N,I N Q O:=⟨N,a0⟩
     refine⟨ab,?_⟩;have:μ Q O<=N:=by
      simp only[μ,dif_pos ab];exact(GG ab).choose_spec.2 N a0
     omega
    |_=>exact⟨D,t,u,hk,H⟩
  |unroll L m A=>
   simp only[Kz]at d;simp only[Vx]at K;refine wp_loop_rounds m ?_
   induction m generalizing s w X F a with
   |zero=>cases d
   |succ m ad=>
    simp only[IU]at d;obtain⟨F0,h0⟩:=R.keep (L:=L) h;refine wp_mono (ih (K m (Nat.lt_succ_self m)) d h0) λe Q O U=>?_;obtain⟨D,t,u,hk,H⟩:=U;cases e with
    |normal=>exact ad H (λi hi=>K i (Nat.lt_succ_of_lt hi)) hk
    |_=>exact⟨D,t,u,hk,H⟩
  |leaf=>
   simp only[Kz]at d;refine wp_loop_rounds 6 ?_;generalize 6=m at d
   induction m generalizing s w X F a with
   |zero=>cases d
   |succ m ad=>
    simp only[IU]at d;obtain⟨F0,h0⟩:=R.keep (L:=HS s.env) h;refine wp_mono (ih (Xj _ _) d h0) λe Q O U=>?_;obtain⟨D,t,u,hk,H⟩:=U;cases e with
    |normal=>exact ad H hk
    |_=>exact⟨D,t,u,hk,H⟩
  |_=>simp[Kz]at d
 |exit id=>intro A k s w X F a _ d h;exact wp_exit ⟨s,X,F,d,h⟩
 |ret=>
  intro A k s w X F a _ d h;simp only[Kz]at d;obtain⟨X,F,h⟩:=h.frzA hC A;exact wp_ret ⟨_,X,F,d,h⟩
 |rangeFunc=>simp_all[Kz]
 |scope=>simp_all[Kz]
 |label=>simp_all[Kz]
 |goto=>simp_all[Kz]
 |refuse=>simp_all[Kz]
inductive FA where
 |leaf|seq (a b:FA)|cond (a b:FA)|block (a:FA)|frz (L:List (Nat×Fl))
def FA.an{ρ:Type}:FA->An ρ|.leaf=>.leaf|.seq a b=>.seq a.an b.an|.cond a b=>.cond a.an b.an|.block a=>.block a.an|.frz L=>.frz L
def FA.conds{ρ:Type}{C:ML}{n:Nat}:∀(A:FA)(c:Lh)(k:Exit->St->Option ρ),Go.Am.Vx C n c A.an k
 |.leaf,c,k=>Xj c k
 |.seq a b,c,k=>by cases c<;>simp only[FA.an,Go.Am.Vx];exact⟨FA.conds a _ _,FA.conds b _ _⟩
 |.cond a b,c,k=>by cases c<;>simp only[FA.an,Go.Am.Vx];exact⟨FA.conds a _ _,FA.conds b _ _⟩
 |.block a,c,k=>by cases c<;>simp only[FA.an,Go.Am.Vx];exact FA.conds a _ _
 |.frz L,c,k=>by cases c<;>simp only[FA.an,Go.Am.Vx]
def Y2.of{C:ML}(hC:∀ln,({C with pQ:=ln}:ML).ok P g){E:oq}(hf:P.funcs[E.f]? =K1 fn)(hb:fn.body=K1 c)(hcall:∀args w,(callFunc E.f args).run P w=.ok (.enter E.f args) w)
  (hle:E.np<=E.n/\E.n<=1048576) (hn:fn.ntmps=E.n) (hrv:fn.results.toList=E.rv) (A:FA) (hrun:∀{ρ:Type}(ln:List Nat)(k:Exit->St->Option ρ)(s:St),E.run ln k s=Kz {C with pQ:=ln} E.n c A.an k s):Y2 P g E where
 enters:=hcall
 le:=hle
 code:=⟨fn,c,hf,hb,hn,hrv,λ{ρ k r ln e w X F s a} b d h=>by
  rw[hrun]at b;exact QS (hC ln) d (A.conds c k) b h⟩
end
def jX{d t:Nat}:(a.put (K1 d) v).eval (.tmp t)=ite (d=t) (ite (d<a.tmps.size) v undef) (a.eval (.tmp t)):=by
 show(a.tmps.setIfInBounds d v).getD t undef=_;rw[Array.getD_eq_getD_getElem?,Array.getElem?_setIfInBounds];by_cases h:d=t
 ·grind
 ·simp only[h,if_false];rw[<-Array.getD_eq_getD_getElem?];rfl
theorem uj{d:Option Nat}:(a.put d v).tmps.size=a.tmps.size:=by cases d<;>simp[Act.put]
def Ep:a.put K2 v=a:=rfl
def bt(hgd:o.guard=K2)(hr:(execOp a.eval o).run P w=.ok (.value v') w')
  (h:wpList P ops Q rest (a.put o.dst v') w'):wpList P ops Q (o::rest) a w:=wpList_plain hgd λK b=>by
 unfold Mv;rw[hr];exact b _ _ h
def GF(hgd:o.guard=K2)(hr:(execOp a.eval o).run P w=.ok .skip w')
  (h:wpList P ops Q rest (a.put o.dst undef) w'):wpList P ops Q (o::rest) a w:=wpList_plain hgd λK b=>by
 unfold Mv;rw[hr];exact b _ _ h
def Zok:List Nat->St->St|[],s=>s|d::r,s=>Zok r (Jb s d .pR)
def GT(n:Nat)(s:St):List Nat->Bool|[]=>K4|d::r=>Wa s d&&Lp d n&&GT n (Jb s d .pR) r
def YE:List Nat->List K3->Act->Act|d::r,v::vs,a=>YE r vs (a.put (K1 d) v)|_,_,a=>a
section
variable {P:Lg}{g:Kf}{W0:bu g}{w w':Lb}{X X':Nat->Prop}{B B' n:Nat}{own:Ow}{s s':St}{F:A4->List Nat}{a:Act}{H H':List Nat}{o:Le}{tg:Yl}{τ:vJ}{C:ML}{gh:Nat->K3}
def R.junkL:∀{L:List Nat}{vs:List K3}{s:St}{F:A4->List Nat}{a:Act},R n W0 w X F H s a->GT n s L=K4->L.length=vs.length-> ∃F',R n W0 w X F' H (Go.Am.Zok L s) (YE L vs a)
 |[],[],s,F,a,h,_,_=>⟨F,h⟩
 |d::r,v::vs,s,F,a,h,hk,b=>by
  simp only[GT,pC,Mj]at hk;exact R.junkL (s:=Jb s d .pR) ((by simpa using h:R n W0 w X F ([]++H) s a).put (S:=[]) (t:=.pR) (v:=v) hk.1.1 hk.1.2 rfl) hk.2 (by simpa using b)
 |[],_::_,_,_,_,_,_,b=>by simp at b
 |_::_,[],_,_,_,_,_,b=>by simp at b
def LP{k:A4}:∀{L:List Nat}{s:St},(∀d∈L,k≠ .m d)->(Go.Am.Zok L s).get k=s.get k
 |[],_,_=>rfl
 |d::r,s,h=>by
  rw[Go.Am.Zok,LP (λb a=>h b (by simp[a])),px,if_neg (Lo (h d Ac))]
def Pe{k:Nat}:∀{L:List Nat}{vs:List K3}{a:Act},(∀d∈L,k≠d)->Qw gh (YE L vs a) (.m k)=Qw gh a (.m k)
 |[],_,_,_=>by rfl
 |_::_,[],_,_=>by rfl
 |d::r,v::vs,a,h=>by
  rw[YE,Pe (λc b=>h c (by simp[b])),dh (by simp_all[A4.t])]
def R.takeP(h:R n W0 w X F H s a){p:List Nat}{e:Lc}{T:Ty}{f:Fl}{x:T.den}(hg:s.get (.m r)=.box e T f x)(hy:ap T x p=K1 y):
  ∃b c pre mid post S1 S2 S3,F (.m r)=b:: (S1++(S2++S3))/\Qw W0.gh a (.m r)=.pointer (K1 ⟨b,0,K2⟩)/\w.heap[b]? =K1 (.cells c e (0,0))/\c.toList=pre++(mid++post)/\pre.length=Yn T p/\
   Pr w X W0.B y.1 (cd f p) y.2 mid S2/\R n W0 w X (Q6 F (.m r) (b:: (S1++S3))) (S2++H) (Y7 s r (.box e T (Vz f p .d) x)) a:=by
 have k:=h.slots (.m r);rw[hg]at k;obtain⟨b,c,S',l,o,q,A⟩:=k;obtain⟨pre,mid,post,S1,S2,S3,t,v,m3,i,C⟩:=Vf hy A;have j:=h.nodup (.m r);rw[o,v]at j;have g:=C .d y mid [] x (Ch hy) (by unfold Pr;exact⟨Kh i,nA i,rfl⟩);rw[<-t]at g;simp only[Nl]at g;refine⟨b,c,pre,mid,post,S1,S2,S3,by rw[o,v],l,q,t,m3,i,
  h.turn (S':=b:: (S1++S3)) h.below (Lf _) (λ_ _=>rfl) (λ_ _ _ _=>rfl) ?_ ?_ (by rw[hg];simp) ?_ ⟨b,c,S1++S3,l,rfl,q,g⟩⟩
 ·grind
 ·have D:(b:: (S1++S3)++S2).Nodup:=by
   have G:(b:: (S1++S3)++S2).Perm (b:: (S1++(S2++S3))):=by
    grind
   grind
  rw[<-Mp];refine Lm.2 ⟨D,h.pK,λz I u E e=>?_⟩;subst e;refine h.pL (.m r) z ?_ E
  grind
 grind
def R.know(h:R n W0 w X F H s a){e:Lc}{T:Ty}{f:Fl}{x:T.den}(hg:s.get (.m b)=.box e T f x){eF:Lc}{tF:Ty}{l:List (Ty.pair (.int .i64) (.pair (.slice eF tF) .unit)).den}
  (hy:ap T x [i]=K1 ⟨.slice e' (.pair (.int .i64) (.pair (.slice eF tF) .unit)),l⟩) (hf:cd f [i]=.u .ow) (hq:s.get (.m q)=.pR)  (hm:m<l.length)
  {c:Array K3}{nn cap:Nat} (hb:Qw W0.gh a (.m b)=.pointer (K1 ⟨blk,0,K2⟩)) (hc:w.heap[blk]? =K1 (.cells c e (0,0))) (hh:c.toList[Yn T [i]]? =K1 (.slice (K1 ad) nn cap))
  (hv:w.cell? (ad.add (m*2+1))=K1 (Qw W0.gh a (.m q))):∃F',R n W0 w X F' H (Y7 s q (.bel b [i] m [1])) a:=by
 have B:=h.slots (.m b);rw[hg]at B;obtain⟨V,W,S',k,I,o,J⟩:=B;rw[hb]at k;simp only[M2,pB,Mm,and_true]at k;subst k;rw[hc]at o;simp only[pB,Mu,and_true]at o;subst o;obtain⟨pre,K,C,Y,Z,S3,L,m2,m3,p,_⟩:=Vf hy J;rw[hf]at p;unfold Pr at p;obtain⟨v,xs,U1,U2,rfl,rfl,M,g2⟩:=p;have r:v=.slice (K1 ad) nn cap:=by
  simp_all
 subst r;have t:b≠q:=λe=>Af
 obtain⟨d,N⟩:=M;rcases d.2 with⟨g,_⟩|⟨y,D,O,g,_,E,_⟩
 ·cases g
 simp only[K3.slice.injEq,pB]at g;obtain⟨rfl,rfl,rfl⟩:=g;have P:y∈F (.m b):=by simp_all[M1]
 refine⟨_,h.turn (S':=[]) (H':=H) h.below (Lf _) (λ_ _=>rfl) (λ_ _ _ _=>rfl) (λb hb=>Af) (by simpa using h.pK) (by rw[hq];simp) (λe T f x b S hb=>Af) ⟨rfl,λ_ _=>?_⟩⟩;obtain⟨G,z⟩:∃G:(Ty.slice eF tF).den,ap (.pair (.int .i64) (.pair (.slice eF tF) .unit)) (zero _) [1]=K1 ⟨.slice eF tF,G⟩:=⟨_,rfl⟩
 refine⟨e',_,⟨y,0,K2⟩,_,cap,zero _,_,[Qw W0.gh a (.m q)],?_,Int.natCast_nonneg _,by exact_mod_cast hm,?_,z,rfl,rfl,λj u A=>?_⟩
 ·unfold X4;have Q:(Y7 s q (.bel b [i] m [1])).get (.m b)=s.get (.m b):=by simp_all[Ye,Lo]
  rw[Q,hg];refine⟨blk,c,_,⟨_,l⟩,by simp only[Q6];rw[if_neg (by simpa using t)];exact I,hc,hy,rfl,?_⟩;have U:(c.toList.drop (Yn T [i])).take 1=[.slice (K1 ⟨y,0,K2⟩) l.length cap]:=D4 L m3 rfl;show _=Yh (.slice e' _) ((c.toList.drop (Yn T [i])).take 1);rw[U];rfl
 ·simp_all
 ·cases j with
  |zero=>
   simp only[Mh,pB]at A;subst A;exact hv
  |succ j=>simp at A
def IJ{e:Lc}{T:Ty}(hT:Fs P e T)(hU:UL T i=K1 U)(ho:o.op=.fieldAddr e x i)(hx:a.eval x=.pointer (K1 ⟨blk,0,K2⟩)):
  (execOp a.eval o).run P w=.ok (.value (.pointer (K1 ⟨blk,Yn T [i],K2⟩))) w:=by
 have b:=hT.fieldAt hU ⟨blk,0,K2⟩ w;simp_all[Yn,Lk.add,execOp]
def IZ{e:Lc}{T:Ty}(hT:Fs P e T)(ho:o.op=.load e x)(hx:a.eval x=.pointer (K1 ad))(hl:vs.length=T.size)(hc:∀j u,vs[j]? =K1 u->w.cell? (ad.add j)=K1 u):
  (execOp a.eval o).run P w=.ok (.value (Yh T vs)) w:=by
 have b:=hT.load hl hc;simp_all[execOp,Instr.loadAt,M8]
def pn{e:Lc}{T:Ty}(hT:Fs P e T){v:Lt}(ho:o.op=.store e x v)(hx:a.eval x=.pointer (K1 ad))(hv:a.eval v=Yh T vs)(hl:vs.length=T.size)(h1:∀u∈vs,u.oneCell'=K4)
  (hst:(storeCells ad vs).run P w=.ok () w'):(execOp a.eval o).run P w=.ok .skip w':=by
 have b:=OE h1 hl;simp only[execOp,ho,hx,hv,Instr.storeAt,M8,storeVar,b,Mk,Lq,My,hT.sizeOf w];simp[hl,hst]
def Qjn{e:Lc}(hT:Fs P e (.pair (.int .i64) (.pair U .unit)))(hU:U.size=1){y:Lt}(ho:o.op=.build e #[(0,x),(1,y)])(hx:a.eval x=u)(hy:a.eval y=v)(h1:u.cells= #[u])(h2:v.cells= #[v]):
  (execOp a.eval o).run P w=.ok (.value (.agg #[u,v])) w:=by
 obtain⟨q,r,c⟩:=hT.struct rfl;obtain⟨i,s,t,_,z⟩:=hT.size;obtain⟨b,H,m⟩:=Uh (P:=P) (w:=w) c;have n:(q.mapM λf=>(Prod.mk f.offset<$>Go.sizeOf f.type:Sem (Nat×Nat))).run P w=.ok b.toArray w:=by
  simp_all[Array.mapM_eq_mapM_toList]
 have d:(Jk U).length=1:=(zF (by have:=hT.plain;simp_all[Ty.plain])).trans hU;obtain⟨p,g⟩:=Mi.1 d;have A:(λj:Nat=>b.toArray[j]?) 0=K1 (0,1):=by have:=m 0 (.int .i64) rfl;simp_all[jz,Ty.size]
 have B:(λj:Nat=>b.toArray[j]?) 1=K1 (1,1):=by have:=m 1 U rfl;simp_all[jz,Ty.size]
 have h:(Jk (.pair (.int .i64) (.pair U .unit))).toArray.toList=[]++([.int .i64 0]++[p]):=by simp[Jk,g]
 obtain⟨C,D,E⟩:=zJ (rest:=[(1,v)]) A h rfl rfl (v:=u) (by rw[h1];rfl);obtain⟨F,I,G⟩:=zJ (rest:=[]) (cs:=C) (pre:=[u]) (mid:=[p]) (post:=[]) B (by rw[D,h1];rfl) rfl rfl (v:=v) (by rw[h2];rfl);have k:F= #[u,v]:=by
  grind
 have l:M7 (λj:Nat=>b.toArray[j]?) (Jk (.pair (.int .i64) (.pair U .unit))).toArray [(0,u),(1,v)]=K1 #[u,v]:=by rw[E,G,k];rfl
 simp only[execOp,ho,Mk,Instr.build,zeroValue,typeInfo,Lq,run_underlying r,My];simp[s,z,zY hT.plain,hx,hy];simp_all
def Qev{e:Lc}{t:Ty}(hT:Fs P e (.slice e' t))(hT2:Fs P e' t)(h2:t.size=2)(ho:o.op=.buildSlice e 1 #[(0,x)])(hx:a.eval x=.agg #[u,v]):
  (execOp a.eval o).run P w=.ok (.value (.slice (K1 ⟨w.heap.size,0,K2⟩) 1 1)) (w.alloc (.cells #[u,v] e')):=by
 obtain⟨l,h⟩:=hT.slice;obtain⟨i,m,d,_,n⟩:=hT2.size;obtain⟨b,k⟩:∃b:Array K3,b=(Array.range (1*i.size)).map ((Yh t (Jk t)).cells[· % (Yh t (Jk t)).cells.size]!):=⟨_,rfl⟩
 have c:b.toList.length=2:=Af
 obtain⟨p,q,r⟩:=zJ (place:=λi=>K1 (i*t.size,t.size)) (rest:=[]) (i:=0) (cs:=b) (pre:=[]) (mid:=b.toList) (post:=[]) (v:=.agg #[u,v]) (off:=0) (size:=2) (by simp[h2]) Ac rfl c rfl;have f:p= #[u,v]:=by
  apply Array.toList_inj.mp;rw[q];rfl
 have g:M7 (λj=>K1 (j*i.size,i.size)) b [(0,.agg #[u,v])]=K1 #[u,v]:=by rw[d,r,f];rfl
 simp only[execOp,ho,Mk];rw[run_buildSlice w e e' 1 _ #[u,v] i _ l m n Aa Aa Ag];simp
def Qeu{d s:Lt}{t t':Lc}(ho:o.op=.call {callee:=.builtin .append,args:= #[d,s],argTypes:= #[t,t']})(hd:a.eval d=v)(hs:a.eval s=u)
  (hr:(M4 #[t,t'] t #[v,u]).run P w=.ok v' w'):(execOp a.eval o).run P w=.ok (.value v') w':=by
 have b:(M4 #[t,t'] o.type #[v,u]).run P w=.ok v' w':=hr;simp_all[execOp,resolve,invoke,builtin]
theorem Qcd:∀{T:Ty}{x x':T.den}{i:Nat}{y:TV},xT T x i y=K1 x'->fld T x' i=K1 y:=by
 intro T
 induction T with
 |pair a b e c=>
  intro x x' i y h;cases i with
  |zero=>
   simp only[xT,Mw]at h;obtain⟨z,d,rfl⟩:=h
   grind[Wu,fld]
  |succ i=>
   simp only[xT,Mw]at h;obtain⟨z,d,rfl⟩:=h;exact c d
 |_=>intro x x' i y h;simp[xT]at h
def Qnx{T:Ty}{x z:T.den}(h:v6 T x [i] y=K1 z):ap T z [i]=K1 y:=by grind[v6,Wu,Qcd,ap]
theorem Ha:∀(f:Fl)(i j:Nat)(g:Fl),i≠j->ZD (xo f j g) i=ZD f i
 |.p a b,0,0,_,h=>absurd rfl h
 |.p a b,i+1,0,_,_=>rfl
 |.p a b,0,j+1,_,_=>rfl
 |.p a b,i+1,j+1,g,h=>by simp only[xo,ZD];exact Ha b i j g Aa
 |.u o,0,0,_,h=>absurd rfl h
 |.u o,i+1,0,_,_=>by rfl
 |.u o,0,j+1,_,_=>rfl
 |.u o,i+1,j+1,g,h=>by simp only[xo,ZD];rw[Ha (.u o) i j g Aa];cases i<;>rfl
 |.d,0,0,_,h=>absurd rfl h
 |.d,i+1,0,_,_=>by rfl
 |.d,0,j+1,_,_=>rfl
 |.d,i+1,j+1,g,h=>by simp only[xo,ZD];rw[Ha .d i j g Aa];cases i<;>rfl
def TH:∀{L:List Nat}{s:St},GT n s L=K4-> ∀d∈L,d<n
 |[],_,_,d,hd=>by simp at hd
 |e::r,s,h,d,hd=>by
  simp only[GT,pC,Mj]at h;rcases Li.1 hd with rfl|hd
  ·exact h.1.2
  ·exact TH h.2 d hd
def Dx(s:St)(k:A4):(Go.Am.Zj6 s).get k=jU s (s.get k):=TN s k s.env
theorem zV(b u:Nat):(⟨b,0,K2⟩:Lk).add u=⟨b,u,K2⟩:=by simp_all[Lk.add]
def Qth(h:v.oneCell'=K4):v.cells= #[v]:=by cases v<;>simp[M0]at h<;>rfl
noncomputable def Rj{ρ:Type}(τ:vJ)(n b q i j:Nat)(eC eL eP eI:Lc)(ts:List Nat)(k:St->Option ρ)(s:St):Option ρ:=
 match s.get (.m b),s.get (.m q)with
 |.box e T f x,.val (.slice eF tF) (.u .ow) fr=>match ap T x [i],ap T x [j],cd f [i],cd f [j]with
  |some ⟨.slice e1 (.pair (.int .i64) (.pair (.slice eF2 tF2) .unit)),l⟩,K1 ⟨.int .i64,num⟩,.u .ow,.u _=>
   match τ eC,τ eL,τ eP,τ eI with
   |some TC,K1 TL,K1 TP,K1 (.int .i64)=>match Ls (TC=T/\e1=eP/\TL=.slice eP (.pair (.int .i64) (.pair (.slice eF2 tF2) .unit))/\TP=.pair (.int .i64) (.pair (.slice eF2 tF2) .unit)/\eF2=eF),Jz (.slice eF2 tF2) (.slice eF tF) fr with
    |true,K1 fr'=>match v6 T x [i] ⟨.slice e1 (.pair (.int .i64) (.pair (.slice eF2 tF2) .unit)),List.append l [(num,fr',())]⟩with
     |some z=>match GT n (FP (Y7 (Y7 s q .pR) b (.box e T (Vz f [i] .d) x)) b i (.box e T (Vz (Vz f [i] .d) [i] (.u .ow)) z)) ts&&Lp b 1048576&&Lp q 1048576 with
      |true=>Ze (l.length+1<=Qg) (k (Y7 (Zj6 (Zok ts (FP (Y7 (Y7 s q .pR) b (.box e T (Vz f [i] .d) x)) b i (.box e T (Vz (Vz f [i] .d) [i] (.u .ow)) z)))) q (.bel b [i] (l.length:Nat) [1])))
      |false=>K2
     |none=>K2
    |_,_=>K2
   |_,_,_,_=>K2
  |_,_,_,_=>K2
 |_,_=>K2
noncomputable def CW{ρ:Type}(τ:vJ)(n b q j:Nat)(eC eI:Lc)(ts:List Nat)(k:St->Option ρ)(s:St):Option ρ:=
 match s.get (.m b),s.get (.m q)with
 |.box e T f x,.bel r [i] m [1]=>match ap T x [i],ap T x [j],cd f [i],cd f [j]with
  |some ⟨.slice _ (.pair (.int .i64) (.pair (.slice _ _) .unit)),l⟩,K1 ⟨.int .i64,num⟩,.u .ow,.u _=>
   match τ eC,τ eI with
   |some TC,K1 (.int .i64)=>match Ls (TC=T),Ld r b&& !(Ld i j)&& !(s.bad r [i])&& !(s.pN (om r)),v6 T x [j] ⟨.int .i64,Ln.wrap (num+1)⟩with
    |true,K4,K1 z=>match GT n (FP (Y7 s q .pR) b j (.box e T (Vz f [j] (.u .ow)) z)) ts&&Lp b 1048576 with
     |true=>k (Y7 (Zj6 (Zok ts (FP (Y7 s q .pR) b j (.box e T (Vz f [j] (.u .ow)) z)))) q (.bel b [i] m [1]))
     |false=>K2
    |_,_,_=>K2
   |_,_=>K2
  |_,_,_,_=>K2
 |_,_=>K2
structure Qoq(b q i j:Nat)(eC eL eP eI:Lc)(t0 t1 t2 t3 t4 t5 t6 t7 t8:Nat)(ops:List Le):Prop where
 ex:∃o0 o1 o2 o3 o4 o5 o6 o7 o8 o9:Le,ops=[o0,o1,o2,o3,o4,o5,o6,o7,o8,o9]/\
  (o0.guard=K2/\o0.dst=K1 t0/\o0.op=.fieldAddr eC (.tmp b) i)/\(o1.guard=K2/\o1.dst=K1 t1/\o1.op=.load eL (.tmp t0))/\
  (o2.guard=K2/\o2.dst=K1 t2/\o2.op=.fieldAddr eC (.tmp b) j)/\(o3.guard=K2/\o3.dst=K1 t3/\o3.op=.load eI (.tmp t2))/\
  (o4.guard=K2/\o4.dst=K1 t4/\o4.op=.move (.tmp q))/\(o5.guard=K2/\o5.dst=K1 t5/\o5.op=.build eP #[(0,.tmp t3),(1,.tmp t4)])/\
  (o6.guard=K2/\o6.dst=K1 t6/\o6.op=.buildSlice eL 1 #[(0,.tmp t5)])/\(o7.guard=K2/\o7.dst=K1 t7/\o7.op=.call {callee:=.builtin .append,args:= #[.tmp t1,.tmp t6],argTypes:= #[eL,eL]})/\
  (o8.guard=K2/\o8.dst=K1 t8/\o8.op=.fieldAddr eC (.tmp b) i)/\(o9.guard=K2/\o9.dst=K2/\o9.op=.store eL (.tmp t8) (.tmp t7))
def Qqg{eL eP eI:Lc}{t4 t5 t6 t7 t8:Nat}(ho:Qoq b q i j eC eL eP eI t0 t1 t2 t3 t4 t5 t6 t7 t8 ops.toList)(hd:[b,q,t0,t1,t2,t3,t4,t5,t6,t7,t8].Nodup):
  H0 (ρ:=ρ) C n ops (Rj C.τ n b q i j eC eL eP eI [t0,t1,t2,t3,t4,t5,t6,t7,t8]):=by
 intro P g U w X F s a k r Q hC h A hQ;unfold Rj at A;split at A
 case h_2=>cases A
 rename_i e T f x eF tF fr hp b6;split at A
 case h_2=>cases A
 rename_i p H hq l o of hy b7 dq eb;split at A
 case h_2=>cases A
 rename_i TC TL TP ec ej ek el;split at A
 case h_2=>cases A
 rename_i hw b8 be;obtain⟨rfl,rfl,rfl,rfl,rfl⟩:=pE b8;have em:=Wu be;cases em;split at A
 case h_2=>cases A
 rename_i z hz;split at A
 case h_2=>cases A
 rename_i I;simp only[pC]at I;obtain⟨⟨I,eq⟩,er⟩:=I;rw[kl]at A;obtain⟨b9,A⟩:=A;obtain⟨o0,o1,o2,o3,o4,o5,o6,o7,o8,o9,cb,⟨g0,d0,p0⟩,⟨g1,d1,p1⟩,⟨g2,d2,p2⟩,⟨g3,d3,p3⟩,⟨g4,d4,p4⟩,⟨g5,d5,p5⟩,⟨g6,d6,p6⟩,⟨g7,d7,p7⟩,⟨g8,d8,p8⟩,g9,d9,p9⟩:=ho.ex;have h0:=TH I;have ev:=h.size;simp only[L7,Li,L8,not_or,or_false,not_false_eq_true,Nm,and_true]at hd;have cl:b≠q:=hd.1.1
 
 have cm:=h.slots (.m q);rw[b6]at cm;obtain⟨h3,V,bl⟩:=cm;have ab:=bl;unfold Pr at bl;obtain⟨t,h4,U1,U2,rfl,hU,ew,e4⟩:=bl;have V:Qw U.gh a (.m q)=t:=V;have R1:=h.takeM b6;have ar:(Y7 s q .pR).get (.m b)=.box e TC f x:=by rw[Ye];grind
 obtain⟨blk,c,pre,h5,hb,S1,S2,S3,h6,bx,hc,e5,e6,J,R2⟩:=R1.takeP ar hy;rw[dq]at J;unfold Pr at J;obtain⟨hv,xs,V1,V2,rfl,rfl,⟨au,e7⟩,cp⟩:=J;have cr:=R1.slots (.m b);rw[ar]at cr;obtain⟨he,c',S',l1,k1,k2,l4⟩:=cr;rw[bx]at l1;simp only[M2,pB,Mm,and_true]at l1;subst l1;rw[hc]at k2;simp only[pB,Mu,and_true]at k2;subst k2;obtain⟨hg,hh,e8,h7,h8,h9,m1,m2,m3,m4,_⟩:=Vf b7 l4;rw[eb]at m4;unfold Pr at m4;obtain⟨rfl,_⟩:=m4;have ib:(Ty.pair (.int .i64) (.pair (.slice H tF) .unit)).size=2:=rfl;have b0:=hC.τ _ _ ec;have W:=hC.τ _ _ ej;have b1:=hC.τ _ _ ek;have e9:=hC.τ _ _ el;have c0:∀{i:Nat}{y:TV},ap TC x [i]=K1 y->UL TC i=K1 y.1:=λ{i y} h=>by
  simp only[ap]at h
  grind[D7]
 have a0:=c0 hy;have c1:=c0 b7;have a1:a.eval (.tmp b)=.pointer (K1 ⟨blk,0,K2⟩):=(Y4 U a eq).symm.trans bx;have c2:a.eval (.tmp q)=t:=(Y4 U a er).symm.trans V;have id:hv.oneCell'=true:=by
  obtain⟨a',K,e',_⟩:=aw (own:=.ow) (X:=X) (S:=hv.ownBlock.toList) (⟨au,rfl⟩:ep w X U.B .ow p _ (Lj l) hv xs _);rw[e'];rfl
 have c3:t.oneCell'=true:=by
  obtain⟨a',K,e',_⟩:=aw ew;rw[e'];rfl
 
 have R3:=(R2.alloc (.cells #[.int .i64 o,t] p)).hsub (List.sublist_cons_self _ _);obtain⟨Y,c4⟩:∃Y,Y=w.alloc (.cells #[.int .i64 o,t] p):=⟨_,rfl⟩
 rw[<-c4]at R3;have G:∀k,k<w.heap.size->Y.heap[k]? =w.heap[k]? :=λk hk=>by grind[hold]
 have b2:∀k,X k->Y.heap[k]? =w.heap[k]? :=λk hk=>G k (R2.xlt k hk);have M:∀k,k∈V1++V2++(F (.m q)++([]:List Nat))->k<w.heap.size:=λk hk=>(R2.hown k hk).2.1;have E:ep Y X U.B .ow p 2 (Lj l) hv xs V1:=Cc (⟨au,e7⟩:ep w X U.B .ow p 2 (Lj l) hv xs V1) (λ_ h=>h) b2 (λk hk=>G k (M k (by simp[hk])));have b3:cS (rd Y X U.B .ow (.pair (.int .i64) (.pair (.slice H tF) .unit))) l xs V2:=Yt cp λy v S _ hS A=>Wy (λ_ h=>h) b2 A λk hk=>G k (M k (by simp[hS k hk]));unfold Pr at ab;have c5:rd Y X U.B .ow (.slice H tF) fr [t] (F (.m q)):=Wy (λ_ h=>h) b2 ab λk hk=>G k (M k (by simp[hk]));have a3:cS (rd Y X U.B .ow (.pair (.int .i64) (.pair (.slice H tF) .unit))) [(o,fr,())] [.int .i64 o,t] (F (.m q)):=
  ⟨[.int .i64 o,t],[],F (.m q),[],rfl,(Nb _).symm,⟨[.int .i64 o],[t],[],F (.m q),rfl,rfl,⟨rfl,rfl⟩,[t],[],F (.m q),[],rfl,(Nb _).symm,c5,rfl,rfl⟩,rfl,rfl⟩
 have gb:Y.heap[w.heap.size]? =K1 (.cells #[.int .i64 o,t] p (0,0)):=by grind[qX]
 obtain⟨v',w7,q1,q2,q3,q4⟩:=OX (P:=P) W b1 (l4:=[(o,fr,())]) (vy:=.slice (K1 ⟨w.heap.size,0,K2⟩) 1 1) (ys:=[.int .i64 o,t]) E.1 ⟨_,1,rfl,Lf _,.inr ⟨_,rfl,λu y hu=>by
  grind[zV,Nt]⟩⟩ rfl (XK (λx v S h=>kd h) a3) b9 R3.below.sizeB
 rw[Mp]at R3;obtain⟨S7,R7,b4,ih,ik⟩:=mh R3 E b3 a3 q2 q3 q4
 
 have c6:(Y7 (Y7 s q .pR) b (.box e TC (Vz f [i] .d) x)).get (.m b)=.box e TC (Vz f [i] .d) x:=by rw[Ye];simp
 have c7:Za0 (Y7 (Y7 s q .pR) b (.box e TC (Vz f [i] .d) x)) b [i] (.u .ow) ⟨.slice p (.pair (.int .i64) (.pair (.slice H tF) .unit)),List.append l [(o,fr,())]⟩=K1 (FP (Y7 (Y7 s q .pR) b (.box e TC (Vz f [i] .d) x)) b i (.box e TC (Vz (Vz f [i] .d) [i] (.u .ow)) z)):=by
  unfold Go.Am.Za0;rw[c6];simp only[hy,decide_true,hz];rfl
 obtain⟨w9,F9,c8,R9,hj⟩:=R7.setRoot (P:=P) c7 rfl (vs:=[v']) (S:=S7) (by unfold Pr;exact b4) (b:=blk) ⟨S1++S3,Ag⟩ c6;have c9:w7.heap[blk]? =K1 (.cells c e (0,0)):=by
  grind
 obtain⟨cc,dc⟩:∃cc,cc=(c.toList.take (Yn TC [i]+0)++[v']++c.toList.drop (Yn TC [i]+0+[v'].length)).toArray:=⟨_,rfl⟩
 have a4:v'.oneCell'=true:=kd b4 v' Ac;have dk:Yn TC [i]+1<=c.size:=Ag
 have N:=run_storeCells_at P blk (Yn TC [i]) e [v'] 0 c w7 c9 (by simpa using dk) (by simpa using a4);rw[<-dc]at N;rw[c8]at N;simp only[Mz,true_and]at N;have gc:w9.heap[blk]? =K1 (.cells cc e (0,0)):=by grind[setRow_heap]
 obtain⟨il,gd⟩:=R9.junkL (L:=[t0,t1,t2,t3,t4,t5,t6,t7,t8]) (vs:=[.pointer (K1 ⟨blk,Yn TC [i],K2⟩),hv,.pointer (K1 ⟨blk,Yn TC [j],K2⟩),.int .i64 o,t,.agg #[.int .i64 o,t],.slice (K1 ⟨w.heap.size,0,K2⟩) 1 1,v',.pointer (K1 ⟨blk,Yn TC [i],K2⟩)]) I rfl;obtain⟨i0,gk⟩:=gd.clean;have a5:∀d∈[t0,t1,t2,t3,t4,t5,t6,t7,t8],b≠d:=by
  simp only[Li,L8,or_false];grind
 have a6:∀d∈[t0,t1,t2,t3,t4,t5,t6,t7,t8],q≠d:=by
  simp only[Li,L8,or_false];grind
 have a7:=Dx (Go.Am.Zok [t0,t1,t2,t3,t4,t5,t6,t7,t8] (FP (Y7 (Y7 s q .pR) b (.box e TC (Vz f [i] .d) x)) b i (.box e TC (Vz (Vz f [i] .d) [i] (.u .ow)) z))) (.m b);rw[LP (λd hd=>Ag),BU,if_pos rfl]at a7;have a8:=Dx (Go.Am.Zok [t0,t1,t2,t3,t4,t5,t6,t7,t8] (FP (Y7 (Y7 s q .pR) b (.box e TC (Vz f [i] .d) x)) b i (.box e TC (Vz (Vz f [i] .d) [i] (.u .ow)) z))) (.m q);rw[LP (λd hd=>Ag),BU,if_neg (by simpa using cl),Ye,if_neg (by simpa using cl),Ye,if_pos rfl]at a8;have gl:cd (Vz (Vz f [i] .d) [i] (.u .ow)) [i]=.u .ow:=by simp[Vz,cd,S6]
 obtain⟨Z,D,rfl⟩:∃Z D,v'=.slice (K1 ⟨Z,0,K2⟩) (Lj l+1) D:=by
  rcases q2.2 with⟨_,e0⟩|⟨g',K,_,e0,_⟩
  ·simp at e0
  ·exact⟨g',K,by simpa using e0⟩
 have i1:Z∈S7:=by
  obtain⟨v2,i2,T1,T2,O,rfl,⟨_,e3⟩,_⟩:=b4;simp only[Nd,and_true]at O
  grind[M1]
 have hm:Z≠blk:=λe=>R7.pL (.m b) blk (by simp[Q6]) Ag;have b5:w9.cell? ((⟨Z,0,K2⟩:Lk).add (Lj l*2+1))=K1 t:=by
  have h2:=q2.cells (g:=Z) rfl (Lj l*2+1) t (by
   have gm:xs.length=Lj l*2:=E.1.1;rw[Lv Aa,gm,Nat.add_sub_cancel_left];rfl)
  grind[Nu,zV]
 have gp:cc.toList[Yn TC [i]]? =K1 (.slice (K1 ⟨Z,0,K2⟩) (Lj l+1) D):=by
  rw[dc];show(c.toList.take (Yn TC [i]+0)++[_]++_)[_]? =_;have hl:(c.toList.take (Yn TC [i]+0)).length=Yn TC [i]:=Ag
  rw[Mp,Lv Aa,hl,Nat.sub_self];rfl
 obtain⟨gx,ha⟩:=gk.know (b:=b) (q:=q) (i:=i) (m:=Lj l) a7 (Qnx hz) gl a8 Ac (by rw[Pe a5];exact bx) gc gp (by rw[Pe a6,V];exact b5);have fin:=hQ w9 _ X gx _ A ha
 
 have hs:∀{d:Nat}{a2:Act},a2.tmps.size=n->d∈[t0,t1,t2,t3,t4,t5,t6,t7,t8]->d<a2.tmps.size:=λh1 h2=>Ag
 rw[cb];refine bt g0 (IJ b0 a0 p0 a1) ?_;rw[d0];refine bt g1 (IZ W p1 (by rw[jX,if_pos rfl,if_pos (hs ev Ac)]) (vs:=[hv]) rfl (λu y hu=>by
  rw[cY w hc,<-Array.getElem?_toList,e5];cases u with
  |zero=>simp only[Mh,pB]at hu;subst hu;rw[Ms,<-e6,Lv (Lf _)];simp
  |succ u=>simp at hu)) ?_
 rw[d1];have p:∀{a2:Act}{d k:Nat}{v:K3},d≠k->(a2.put (K1 d) v).eval (.tmp k)=a2.eval (.tmp k):=λh=>by rw[jX,if_neg h]
 have O:∀{a2:Act}{d:Nat}{v:K3},a2.tmps.size=n->d∈[t0,t1,t2,t3,t4,t5,t6,t7,t8]->(a2.put (K1 d) v).eval (.tmp d)=v:=λh1 h2=>by rw[jX,if_pos rfl,if_pos (hs h1 h2)]
 have nb:∀{d:Nat},d∈[t0,t1,t2,t3,t4,t5,t6,t7,t8]->d≠b:=λh e=>a5 _ h e.symm;have nq:∀{d:Nat},d∈[t0,t1,t2,t3,t4,t5,t6,t7,t8]->d≠q:=λh e=>a6 _ h e.symm;obtain⟨_,_,n0,n1,n2,n3,n4,n5,n6,n7⟩:=hd;refine bt g2 (IJ b0 c1 p2 (blk:=blk) Ag) ?_;rw[d2];refine bt g3 (IZ e9 p3 (by rw[O (by grind[uj]) (by simp)]) (vs:=[.int .i64 o]) rfl (λu y hu=>by
  rw[cY w hc,<-Array.getElem?_toList,m1];cases u with
  |zero=>simp only[Mh,pB]at hu;subst hu;rw[Ms,<-m3,Lv (Lf _)];simp
  |succ u=>simp at hu)) ?_
 rw[d3];refine bt g4 (v':=t) (by simp only[execOp,p4,Lq];rw[p (nq Ac),p (nq Ac),p (nq Ac),p (nq Ac),c2]) ?_;rw[d4];refine bt g5 (Qjn b1 rfl p5 (u:=.int .i64 o) (v:=t) (by rw[p (by grind),O (by grind[uj]) (by simp)];rfl) (by rw[O (by grind[uj]) (by simp)]) rfl (Qth c3)) ?_;rw[d5];refine bt g6 (Qev W b1 rfl p6 (u:=.int .i64 o) (v:=t) (by rw[O (by grind[uj]) (by simp)])) ?_;rw[d6,<-c4];refine bt g7 (v':=.slice (K1 ⟨Z,0,K2⟩) (Lj l+1) D) (w':=w7) ?_ ?_
 ·have x1:∀{v:K3},(((((((a.put (K1 t0) (.pointer (K1 ⟨blk,Yn TC [i],K2⟩))).put (K1 t1) hv).put (K1 t2) (.pointer (K1 ⟨blk,Yn TC [j],K2⟩))).put (K1 t3) (.int .i64 o)).put (K1 t4) t).put (K1 t5) (.agg #[.int .i64 o,t])).put (K1 t6) v).eval (.tmp t1)=hv:=by
   intro v;rw[p Ag,p Ag,p Ag,p Ag,p Ag,O Au Ac]
  exact Qeu p7 x1 (O Au Ac) q1
 rw[d7];refine bt g8 (IJ b0 a0 p8 (blk:=blk) (by rw[p (nb Ac),p (nb Ac),p (nb Ac),p (nb Ac),p (nb Ac),p (nb Ac),p (nb Ac),p (nb Ac)];exact a1)) ?_;rw[d8];refine GF g9 (pn W p9 (ad:=⟨blk,Yn TC [i],K2⟩) (by rw[O (by grind[uj]) (by simp)]) (vs:=[.slice (K1 ⟨Z,0,K2⟩) (Lj l+1) D]) (by rw[p (by grind),O (by grind[uj]) (by simp)];rfl) rfl (by simpa using a4) c8) ?_;rw[d9,Ep];exact fin
structure Qs3(b j:Nat)(eC eI:Lc)(t0 t1 t2 t3:Nat)(ops:List Le):Prop where
 ex:∃o0 o1 o2 o3 o4:Le,ops=[o0,o1,o2,o3,o4]/\
  (o0.guard=K2/\o0.dst=K1 t0/\o0.op=.fieldAddr eC (.tmp b) j)/\(o1.guard=K2/\o1.dst=K1 t1/\o1.op=.load eI (.tmp t0))/\
  (o2.guard=K2/\o2.dst=K1 t2/\ ∃e2,o2.op=.binOp .add eI (.tmp t1) (.const (.int .i64 1)) e2)/\
  (o3.guard=K2/\o3.dst=K1 t3/\o3.op=.fieldAddr eC (.tmp b) j)/\(o4.guard=K2/\o4.dst=K2/\o4.op=.store eI (.tmp t3) (.tmp t2))
def Qt7{eI:Lc}(ho:Qs3 b j eC eI t0 t1 t2 t3 ops.toList)(hd:[b,q,t0,t1,t2,t3].Nodup):
  H0 (ρ:=ρ) C n ops (CW C.τ n b q j eC eI [t0,t1,t2,t3]):=by
 intro P g W0 w X F s a k r Q hC h t hQ;unfold CW at t;split at t
 case h_2=>cases t
 rename_i e T f x p i m O Z;split at t
 case h_2=>cases t
 rename_i e1 eF tF l o of hy ab cl cm;split at t
 case h_2=>cases t
 rename_i TC cp cr;split at t
 case h_2=>cases t
 rename_i z ar au hz;obtain rfl:=pE ar;simp only[pC,Me]at au;obtain⟨⟨⟨c0,c1⟩,a0⟩,U⟩:=au;obtain rfl:=pD c0;have c1:i≠j:=λe=>Af
 split at t
 case h_2=>cases t
 rename_i A;simp only[pC]at A;obtain⟨A,c2⟩:=A;obtain⟨o0,o1,o2,o3,o4,a1,⟨g0,d0,p0⟩,⟨g1,d1,p1⟩,⟨g2,d2,e2,p2⟩,⟨g3,d3,p3⟩,g4,d4,p4⟩:=ho.ex;have ew:=TH A;have c3:=h.size;simp only[L7,Li,L8,not_or,or_false,not_false_eq_true,Nm,and_true]at hd;have V:p≠q:=hd.1.1;have a3:=hC.τ _ _ cp;have a4:=hC.τ _ _ cr;have G:UL TC j=K1 (.int .i64):=by
  grind[ap,D7]
 
 have a5:=h.slots (.m q);rw[Z]at a5;obtain⟨e4,a6⟩:=a5;obtain⟨e3,c4,ad,nn,W,x0,y0,cs,b1,b2,b3,b4,b5,b6,b7,b8⟩:=a6 a0 U;have a7:=h.slots (.m p);rw[O]at a7;obtain⟨blk,c,S',l1,k1,hc,l4⟩:=a7;have a8:=h.nodup (.m p);rw[k1]at a8;have c5:=l4;obtain⟨pre,e5,ek,S1,S2,S3,u1,u2,u3,u4,_⟩:=Vf hy l4;rw[cl]at u4;unfold Pr at u4;obtain⟨hv,xs,V1,V2,rfl,rfl,⟨H,e6⟩,el⟩:=u4;obtain⟨em,eq,c6,e7,e8,e9,m1,m2,m3,m4,_⟩:=Vf ab c5;rw[cm]at m4;unfold Pr at m4;obtain⟨rfl,_⟩:=m4
 
 have c7:hv=.slice (K1 ad) nn W/\c4=.pair (.int .i64) (.pair (.slice eF tF) .unit):=by
  unfold X4 at b1;rw[O]at b1;obtain⟨b',c',gb,y',v1,v2,v3,v4,v5⟩:=b1;rw[k1]at v1;obtain⟨rfl,rfl⟩:=Nc v1;rw[hc]at v2;simp only[pB,Mu,and_true]at v2;subst v2;rw[hy]at v3;simp only[pB]at v3;subst v3;simp only[Ty.slice.injEq]at v4;refine⟨?_,v4.2⟩;have e2:(c.toList.drop (Yn TC [i])).take 1=[hv]:=D4 u1 u3 rfl;have v5:_=Yh (.slice e1 _) ((c.toList.drop (Yn TC [i])).take 1):=v5;rw[e2]at v5;exact v5.symm
 obtain⟨rfl,rfl⟩:=c7;obtain⟨Y,c8⟩:∃Y,ad=⟨Y,0,K2⟩:=by
  rcases H.2 with⟨e0,_⟩|⟨g',be,_,e0,_⟩
  all_goals grind
 subst c8;have er:Y≠blk:=λe=>by
  refine(L7.1 a8).1 ?_
  grind[M1]
 have gc:nn=Lj l:=by
  rcases H.2 with⟨e0,_⟩|⟨g',be,_,e0,_⟩
  all_goals grind
 have hm:m.toNat<Lj l:=Aa
 have c9:((m.toNat:Nat):Int)=m:=Aa
 have dc:y0.1=.slice eF tF:=by
  simp only[ap,fld,pB]at b5;rw[<-b5]
 have dk:w.cell? ((⟨Y,0,K2⟩:Lk).add (m.toNat*2+1))=K1 (Qw W0.gh a (.m q)):=by
  rw[dc]at b6 b7;obtain⟨u,rfl⟩:∃u,cs=[u]:=Mi.1 b7;have:=b8 0 u rfl;rw[b6];exact this
 
 have R1:R n W0 w X (Q6 F (.m q) []) [] (Y7 s q .pR) a:=h.turn (S':=[]) (H':=[]) h.below (Lf _) (λ_ _=>rfl) (λ_ _ _ _=>rfl) Ac Ac (by rw[Z];simp) (λe T f x b S hb=>Af) rfl;have I:(Y7 s q .pR).get (.m p)=.box e TC f x:=by rw[Ye];simp[Lo V,O]
 have B:Za0 (Y7 s q .pR) p [j] (.u .ow) ⟨.int .i64,Ln.wrap (o+1)⟩=K1 (FP (Y7 s q .pR) p j (.box e TC (Vz f [j] (.u .ow)) z)):=by
  unfold Go.Am.Za0;rw[I];simp only[ab,decide_true,hz];rfl
 obtain⟨w9,F9,bl,R9,ev⟩:=R1.setRoot (P:=P) B (vs:=[.int .i64 (Ln.wrap (o+1))]) (S:=[]) rfl (by unfold Pr;exact⟨rfl,rfl⟩) (b:=blk) ⟨S',by simp only[Q6];rw[if_neg (by simpa using V)];exact k1⟩ I;obtain⟨cc,bx⟩:∃cc,cc=(c.toList.take (Yn TC [j]+0)++[Nr .i64 (Ln.wrap (o+1))]++c.toList.drop (Yn TC [j]+0+[Nr .i64 (Ln.wrap (o+1))].length)).toArray:=⟨_,rfl⟩
 have b0:Yn TC [j]+1<=c.size:=by grind[Array.length_toList]
 have D:=run_storeCells_at P blk (Yn TC [j]) e [.int .i64 (Ln.wrap (o+1))] 0 c w hc (by simpa using b0) (by simp[M0]);rw[<-bx]at D;rw[bl]at D;simp only[Mz,true_and]at D;have dq:w9.heap[blk]? =K1 (.cells cc e (0,0)):=by grind[setRow_heap]
 obtain⟨gd,d5⟩:=R9.junkL (L:=[t0,t1,t2,t3]) (vs:=[.pointer (K1 ⟨blk,Yn TC [j],K2⟩),.int .i64 o,.int .i64 (Ln.wrap (o+1)),.pointer (K1 ⟨blk,Yn TC [j],K2⟩)]) A rfl;obtain⟨gk,d6⟩:=d5.clean;have J:∀d∈[t0,t1,t2,t3],p≠d:=by
  simp only[Li,L8,or_false];grind
 have b9:∀d∈[t0,t1,t2,t3],q≠d:=by
  simp only[Li,L8,or_false];grind
 have K:=Dx (Go.Am.Zok [t0,t1,t2,t3] (FP (Y7 s q .pR) p j (.box e TC (Vz f [j] (.u .ow)) z))) (.m p);rw[LP (λd hd=>Ag),BU,if_pos rfl]at K;have M:=Dx (Go.Am.Zok [t0,t1,t2,t3] (FP (Y7 s q .pR) p j (.box e TC (Vz f [j] (.u .ow)) z))) (.m q);rw[LP (λd hd=>Ag),BU,if_neg (by simpa using V),Ye,if_pos rfl]at M;have d7:ap TC z [i]=K1 ⟨.slice e1 (.pair (.int .i64) (.pair (.slice eF tF) .unit)),l⟩:=by grind[FM]
 have d8:cd (Vz f [j] (.u .ow)) [i]=.u .ow:=by
  grind[Vz,cd,Ha]
 have d9:cc.toList[Yn TC [i]]? =K1 (.slice (K1 ⟨Y,0,K2⟩) nn W):=by
  have eb:Yn TC [j]≠Yn TC [i]:=λe=>by
   have q1:c.toList[Yn TC [i]]? =K1 (.slice (K1 ⟨Y,0,K2⟩) nn W):=by rw[u1,<-u3,Lv (Lf _)];simp
   have q2:c.toList[Yn TC [j]]? =K1 (.int .i64 o):=by rw[m1,<-m3,Lv (Lf _)];simp
   grind
  have B:cc.toList=c.toList.set (Yn TC [j]) (.int .i64 (Ln.wrap (o+1))):=by
   rw[bx,List.set_eq_take_append_cons_drop,if_pos Ag];simp
  rw[B,List.getElem?_set_ne eb,u1,<-u3,Lv (Lf _)];simp
 have E:w9.cell? ((⟨Y,0,K2⟩:Lk).add (m.toNat*2+1))=K1 (Qw W0.gh a (.m q)):=by
  grind[Nu,zV]
 obtain⟨ec,cb⟩:=d6.know (b:=p) (q:=q) (i:=i) (m:=m.toNat) K d7 d8 M hm (by rw[Pe J];exact l1) dq d9 (by rw[Pe b9];exact E);rw[c9]at cb;have fin:=hQ w9 _ X ec _ t cb;have hs:∀{d:Nat}{a2:Act},a2.tmps.size=n->d∈[t0,t1,t2,t3]->d<a2.tmps.size:=λh1 h2=>Ag
 have f1:∀{a2:Act}{d k:Nat}{v:K3},d≠k->(a2.put (K1 d) v).eval (.tmp k)=a2.eval (.tmp k):=λh=>by rw[jX,if_neg h]
 have f2:∀{a2:Act}{d:Nat}{v:K3},a2.tmps.size=n->d∈[t0,t1,t2,t3]->(a2.put (K1 d) v).eval (.tmp d)=v:=λh1 h2=>by rw[jX,if_pos rfl,if_pos (hs h1 h2)]
 have nb:∀{d:Nat},d∈[t0,t1,t2,t3]->d≠p:=λh e=>J _ h e.symm;have N:a.eval (.tmp p)=.pointer (K1 ⟨blk,0,K2⟩):=(Y4 W0 a c2).symm.trans l1;obtain⟨_,_,n0,n1,n2⟩:=hd;rw[a1];refine bt g0 (IJ a3 G p0 N) ?_;rw[d0];refine bt g1 (IZ a4 p1 (f2 c3 Ac) (vs:=[.int .i64 o]) rfl (λu y hu=>by
  rw[cY w hc,<-Array.getElem?_toList,m1];cases u with
  |zero=>simp only[Mh,pB]at hu;subst hu;rw[Ms,<-m3,Lv (Lf _)];simp
  |succ u=>simp at hu)) ?_
 rw[d1];refine bt g2 (v':=.int .i64 (Ln.wrap (o+1))) (w':=w) ?_ ?_
 ·have x1:=f2 (a2:=a.put (K1 t0) (.pointer (K1 ⟨blk,Yn TC [j],K2⟩))) (d:=t1) (v:=.int .i64 o) Au Ac;simp only[execOp,p2];have ej:((a.put (K1 t0) (.pointer (K1 ⟨blk,Yn TC [j],K2⟩))).put (K1 t1) (Yh (.int .i64) [.int .i64 o])).eval (.tmp t1)=.int .i64 o:=x1;rw[ej];rfl
 rw[d2];refine bt g3 (IJ a3 G p3 (blk:=blk) (by rw[f1 (nb Ac),f1 (nb Ac),f1 (nb Ac)];exact N)) ?_;rw[d3];refine GF g4 (pn a4 p4 (ad:=⟨blk,Yn TC [j],K2⟩) (f2 Au Ac) (vs:=[.int .i64 (Ln.wrap (o+1))]) (by rw[f1 (by grind),f2 (by grind[uj]) (by simp)];rfl) rfl (by simp[M0]) bl) ?_;rw[d4,Ep];exact fin
end
section
variable {P:Lg}{g:Kf}{W0:bu g}{w w':Lb}{X X':Nat->Prop}{B B' n:Nat}{own:Ow}{s s':St}{F:A4->List Nat}{a:Act}{H H':List Nat}{o:Le}{tg:Yl}{τ:vJ}{C:ML}{gh:Nat->K3}
def nC(hB:own=.sh\/B'<=B)(hX:own.mine=K4\/ ∀b,X b->X' b):∀{T:Ty}{x:T.den}{vs:List K3}{S:List Nat},rd w X B own T x vs S->rd w X' B' own T x vs S
 |.unit,_,_,_,h|.int _,_,_,_,h|.bool,_,_,_,h|.fnc _,_,_,_,h|.str,_,_,_,h=>h
 |.slice _ _,_,_,_,⟨v,s,j,k,e,l,d,f⟩=>by
  refine⟨v,s,j,k,e,l,?_,Yt f λ_ _ _ _ _ h=>nC hB hX h⟩;cases own
  ·have hX:=hX.resolve_left (by simp[Ow.mine]);obtain⟨u,z,a,i,A,C,D,E⟩:=d;exact⟨u,z,a,i,A,C,D,E.imp id λ⟨F,m,p,q⟩=>⟨F,m,p.imp id (hX _),q⟩⟩
  ·exact⟨C2 d.1 (hB.resolve_left Ac),d.2⟩
  ·exact⟨d.1,d.2.1,d.2.2.imp id λ⟨g,o,i,r,m,p,q⟩=>⟨g,o,i,r,m,Nat.le_trans (hB.resolve_left Ac) p,q⟩⟩
 |.pair a b,_,_,_,⟨G,H,j,k,e,l,d,f⟩=>⟨G,H,j,k,e,l,nC hB hX d,nC hB hX f⟩
 |.arr n t,_,_,_,⟨h,I⟩=>⟨h,Yt I λ_ _ _ _ _ h=>nC hB hX h⟩
 |.err,_,_,_,h=>h
 |.hid _,_,_,_,⟨e,y,h⟩=>⟨e,y,nC hB hX h⟩
 |.sptr ..,_,_,_,⟨e,o,b,c,d,f,J,K⟩=>⟨e,o,b,c,d,hX.resolve_left (by simp[o,Ow.mine]) b f,J,nC hB hX K⟩
 |.clo ..,_,_,_,⟨e,L,d,f⟩=>⟨e,L,d,nC hB hX f⟩
def Ih(ro:Ow)(τ:vJ):(ts:List Ty)->List ResultVar->St->Option (J6 ts)
 |[],[],_=>K1 ()
 |t::ts,.tmp k::rs,s=>match xB s (RO s [] (.tmp k)) t with
  |some q=>match Wb q.T q.f (.u ro),Jz t q.T q.x,Ih ro τ ts rs q.s with
   |true,K1 x,K1 xs=>K1 (x,xs)
   |_,_,_=>K2
  |none=>K2
 |t::ts,.cell k e::rs,s=>match s.get (.m k),τ e with
  |.box e0 U f y,K1 U'=>match(Lp k 1048576&&Ls (U=U'))&&Wb U f (.u ro),Jz t U y,Ih ro τ ts rs (Y7 s k (.box e0 U .d y))with
   |true,K1 x,K1 xs=>K1 (x,xs)
   |_,_,_=>K2
  |_,_=>K2
 |_,_,_=>K2
abbrev AY:=Ih .ow
def Fw(ro:Ow)(τ:vJ)(ts:List Ty)(rs:List ResultVar):Exit->St->Option (J6 ts)|.ret,s|.normal,s=>Ih ro τ ts rs s|_,_=>K2
def JR{ro:Ow}(hro:ro.mine=K4)(hτ:τ.ok P):∀{ts:List Ty}{rs:List ResultVar}{s:St}{F:A4->List Nat}{H:List Nat}{xs:J6 ts},R n W0 w X F H s a->Ih ro τ ts rs s=K1 xs->
  ∃vs S,(rs.mapM (rY a)).run P w=.ok vs w/\xQ ro w W0.B ts xs vs S/\S.Nodup/\ ∀b∈S,b∉H
 |[],[],s,F,H,xs,h,g=>⟨[],[],Ac,⟨rfl,rfl⟩,Ac,Ac⟩
 |t::ts,.tmp k::rs,s,F,H,xs,h,g=>by
  simp only[Ih]at g;split at g
  ·rename_i q V;split at g
   ·rename_i x C o hx l;simp only[pB]at g;subst g;obtain⟨_,F1,i,r,W,Y,p,_,_⟩:=cP h aO V;obtain⟨rfl,rfl⟩:=iy hx;obtain⟨vs,S,Z,D,K,L⟩:=JR hro hτ p l;refine⟨_,i++S,?_,⟨r,vs,i,S,rfl,rfl,nC (.inr (Lf _)) (.inl hro) (by have:=bD o Y;unfold Pr at this;exact this),D⟩,?_,?_⟩
    ·have E:(a.tmps.getD k undef)=Yh q.T r:=W;simp_all[rY]
    ·exact Lm.2 ⟨(Lm.1 p.pK).1,K,λx hx y z e=>L y z Af⟩
    ·intro b hb hH;rcases Mr.1 hb with hb|hb
     ·exact(Lm.1 p.pK).2.2 b hb b hH rfl
     simp_all
   ·cases g
  ·cases g
 |t::ts,.cell k e::rs,s,F,H,xs,h,g=>by
  simp only[Ih]at g;split at g
  ·rename_i e' U f y U' M hU;split at g
   ·rename_i x C o hx l;simp only[pC,decide_eq_true_eq]at o;obtain⟨⟨G,rfl⟩,o⟩:=o;simp only[pB]at g;subst g;obtain⟨rfl,rfl⟩:=iy hx;have N:=h.slots (.m k);rw[M]at N;obtain⟨b,c,i,O,g2,Q,A⟩:=N;have v:=h.nodup (.m k);rw[g2]at v;have p:R n W0 w X (Q6 F (.m k) [b]) (i++H) (Y7 s k (.box e' U .d x)) a:=by
     refine h.turn (S':=[b]) (H':=i++H) h.below (Lf _) (λ_ _=>rfl) (λ_ _ _ _=>rfl) ?_ ?_ (by rw[M];simp) ?_ ?_
     ·simp_all
     ·have hd:∀I∈b::i,I∉H:=λI ab=>h.pL (.m k) I Af;refine Lm.2 ⟨Ac,Lm.2 ⟨(L7.1 v).2,h.pK,λx hx y z e=>hd x (by simp[hx]) (by rw[e];exact z)⟩,λx hx y z e=>?_⟩;simp_all
     ·grind
     ·exact⟨b,c,[],O,rfl,Q,by unfold Pr;exact⟨Kh A,nA A,rfl⟩⟩
    obtain⟨vs,S,Z,D,K,L⟩:=JR hro hτ p l;have ar:=p.pK;refine⟨_,i++S,?_,⟨c.toList,vs,i,S,rfl,rfl,nC (.inr (Lf _)) (.inl hro) (by have:=bD o A;unfold Pr at this;exact this),D⟩,?_,?_⟩
    ·have E:(a.tmps.getD k undef)=.pointer (K1 ⟨b,0,K2⟩):=(Y4 W0 a G).symm.trans O;have J:=(hτ _ _ hU).load (w:=w) (ad:=⟨b,0,K2⟩) (vs:=c.toList) (Kh A) (λj u hj=>by
      rw[cY w Q,<-Array.getElem?_toList,Md];exact hj)
     simp_all[rY,asAddr]
    all_goals grind
   ·cases g
  ·cases g
 |[],.tmp _::_,_,_,_,_,_,g|[],.cell .. ::_,_,_,_,_,_,g|_::_,[],_,_,_,_,_,g=>by simp[Ih]at g
def yy:(t:Ty)->t.den->Tm|.sptr _ t,x=>.shp t x|t,x=>.val t (.u .sh) x
def Cu:(ts:List Ty)->J6 ts->Nat->List (A4×Tm)|[],_,_=>[]|t::ts,x,i=>(.m i,yy t x.1)::Cu ts x.2 (i+1)
def NQ(ts:List Ty)(x:J6 ts):St:={env:=Cu ts x 0,pP:=[]}
def F4(a:Act):∀{ts:List Ty}{x:J6 ts}{vals pre:List K3}{i:Nat},WL w X 0 ts x vals->pre.length=i->a.tmps.toList.take (pre.length+vals.length)=pre++vals->
  ∀k,vt W0.gh w X W0.B s F a (Qw W0.gh a k) [] (ma (Cu ts x i) k)/\(∀d j,k=.c d j->ma (Cu ts x i) k=.pR)
 |[],_,_,_,_,_,_,_,k=>⟨rfl,λ_ _ _=>rfl⟩
 |t::ts,x,vals,pre,i,h,o,E,k=>by
  obtain⟨g,p,rfl,n,q⟩:=h;have r:=F4 a (pre:=pre++[Yh t g]) (i:=i+1) q (by simp[o]) Ag k;simp only[Cu,Qd];split
  ·rename_i e;subst e;refine⟨?_,λ_ _ v=>by simp at v⟩;have l:Qw W0.gh a (.m i)=Yh t g->vt W0.gh w X W0.B s F a (Qw W0.gh a (.m i)) [] (yy t x.1):=λhv=>by
    have f:vt W0.gh w X W0.B s F a (Qw W0.gh a (.m i)) [] (.val t (.u .sh) x.1):=⟨g,hv,by unfold Pr;exact nC (.inl rfl) (.inr λ_ h=>h) n⟩
    cases t with
    |sptr G H=>
     obtain⟨_,_,b,c,y,z,A,C⟩:=n;refine⟨rfl,⟨b,0,K2⟩,c.toList,by rw[hv,y];rfl,z,λj u D=>?_,nC (.inl rfl) (.inr λ_ h=>h) C⟩;rw[cY w A,<-Array.getElem?_toList,Md];exact D
    |_=>exact f
   refine l ?_;have:a.tmps.toList[i]? =K1 (Yh t g):=by
    have I:(a.tmps.toList.take (pre.length+(Yh t g::p).length))[i]? =K1 (Yh t g):=Af
    grind
   simp_all[Qw,uI]
  ·exact r
def Ec:∀{ts:List Ty}{x:J6 ts}{vs:List K3},WL w X B ts x vs->vs.length=ts.length
 |[],_,_,h=>by rw[show _=[]from h];rfl
 |t::ts,x,vs,⟨_,a,e,_,h⟩=>by rw[e];simp[Ec h]
def Wz.of{e:LR}(hC:C.ok P g)(hsf:C.soft=false:=by rfl)(hf:P.funcs[e.f]? =K1 fn)(hb:fn.body=K1 c)(hcall:∀args w,(callFunc e.f args).run P w=.ok (.enter e.f args) w)
  (hn:e.args.length<=fn.ntmps) (A:An (J6 e.res)) (hA:Vx C fn.ntmps c A (Fw e.ro C.τ e.res fn.results.toList))
  (hF:∀xs r,e.F xs=K1 r->Kz C fn.ntmps c A (Fw e.ro C.τ e.res fn.results.toList) (NQ e.args xs)=K1 r) (hro:e.ro.mine=true:=by rfl):Wz P g e where
 enters:=hcall
 calls:=λw xs r a j hx q=>by
  have G:=Ec hx;refine calls_of_wp hf hb ?_
  let a0:Act:={tmps:=a.toArray++Array.replicate (fn.ntmps-a.toArray.size) undef,defers:=[]}
  have t:R fn.ntmps (bu.plain g w (hC.soft.trans hsf)) w (· <w.heap.size) (λ_=>[]) [] (NQ e.args xs) a0:=by
   have l:=λk=>F4 (W0:=bu.plain g w (hC.soft.trans hsf)) (s:=NQ e.args xs) (F:=λ_=>[]) a0 (pre:=[]) (i:=0) hx rfl (by simp[a0]) k;exact
    {size:=by simp[a0];omega
     defers:=rfl
     below:=⟨rfl,rfl,rfl,Lf _,λ_ _=>rfl⟩
     glob:=j
     gx:=λb hb=>g.lt _ _ j hb
     xs:=λe=>Lx ((hC.soft.trans hsf).symm.trans e)
     fix:=λp m=>by cases m
     xlt:=λb hb=>hb
     xin:=λb hb=>.inl hb
     x0:=λb hb=>hb
     own:=Ac
     nodup:=Ac
     pS:=Ac
     hown:=Ac
     pK:=Ac
     pL:=Ac
     pM:=λd i u=>absurd ((l (.c d i)).2 d i rfl) u
     slots:=λk=>(l k).1}
  refine wp_mono (QS hC (λp m=>by cases m) hA (hF xs r q) t) λx o n m=>?_;obtain⟨y,H,I,hk,h⟩:=m;have fin:Ih e.ro C.τ e.res fn.results.toList y=K1 r->o.defers=[]/\ ∃v,(results fn o.tmps).run P n=.ok v n/\ ∃rs S,Mf v=.returned (J7 rs)/\xQ e.ro n w.heap.size e.res r rs S/\S.Nodup/\Below w.heap.size w n:=by
   intro hk;obtain⟨z,S,B,D,E,_⟩:=JR hro hC.τ h hk;exact⟨h.defers,_,qv B,z,S,rfl,D,E,h.below.os,h.below.tape,h.below.output,h.below.size,h.below.block⟩
  cases x with
  |normal=>exact fin hk
  |ret=>exact fin hk
  |_=>simp[Fw]at hk
def A8(τ:vJ)(e:GE)(rs:List ResultVar):Exit->St->Option (J6 e.res×List e.t.den)
 |.ret,s|.normal,s=>match s.get (.m 0)with
  |.val T (.u .ow) y=>match Jz (.slice e.e e.t) T y,AY τ e.res rs s with
   |some l,K1 r=>K1 (r,l)
   |_,_=>K2
  |_=>K2
 |_,_=>K2
def FL(e:GE)(l:List e.t.den)(x:J6 e.args):St:={env:=(.m 0,.val (.slice e.e e.t) (.u .ow) l)::Cu e.args x 1,pP:=[],pQ:=[0]}
def TD:∀{ts:List Ty}{x:J6 ts}{vs:List K3}{S:List Nat},YL ts=K4->VD w B ts x vs S->VD w B' ts x vs []
 |[],_,_,_,_,h=>⟨h.1,rfl⟩
 |t::ts,x,vs,S,a,⟨b,c,g,i,d,j,e,f⟩=>by
  simp only[YL,List.all_cons,pC]at a;exact⟨b,c,[],[],d,rfl,(XI a.1 e).2,TD a.2 f⟩
def E5.of{e:GE}(hC:C.ok P g)(hsf:C.soft=false:=by rfl)(hlent:C.pQ=[0])(hfl:e.t.flat=K4)(hfr:YL e.res=K4)(hf:P.funcs[e.f]? =K1 fn)(hb:fn.body=K1 c)(hcall:∀args w,(callFunc e.f args).run P w=.ok (.enter e.f args) w)
  (hn:e.args.length+1<=fn.ntmps) (A:An (J6 e.res×List e.t.den)) (hA:Vx C fn.ntmps c A (A8 C.τ e fn.results.toList))
  (hF:∀l xs r,e.F l xs=K1 r->Kz C fn.ntmps c A (A8 C.τ e fn.results.toList) (FL e l xs)=K1 r):E5 P g e where
 flat:=hfl
 enters:=hcall
 calls:=λw X L l G xs r v a H I J K M o hx hr=>by
  have hl:=Ec hx;have q:∀b∈L,b<w.heap.size:=λb hb=>(xR o b hb).2;refine calls_of_wp hf hb ?_
  let a0:Act:={tmps:=(v::a).toArray++Array.replicate (fn.ntmps- (v::a).toArray.size) undef,defers:=[]}
  let z:bu g:={W:=w,B:=0,Y:=λb=>b<w.heap.size/\b∉L,L:=(· ∈L),X0:=X,fix:=[(0,v)],bB:=Mt _,fr:=λe=>Lx ((hC.soft.trans hsf).symm.trans e),yW:=λ_ h=>h.1,yL:=λ_ h N=>h.2 N}
  have ar:a0.tmps.toList=(v::a)++Nn (fn.ntmps- (v::a).toArray.size) undef:=by simp[a0]
  have O:Qw z.gh a0 (.m 0)=v:=by
   grind[Qw,uI]
  have Q:a0.tmps.toList.take (([v]:List K3).length+a.length)=[v]++a:=by
   grind
  have h0:R fn.ntmps z w X (λk=>ite (k=.m 0) L []) [] (FL e l xs) a0:=by
   have au:=λk=>F4 (W0:=z) (s:=FL e l xs) (F:=λk=>ite (k=.m 0) L []) a0 (pre:=[v]) (i:=1) hx rfl Q k;have D:∀k,(FL e l xs).get k=ite (A4.m 0=k) (.val (.slice e.e e.t) (.u .ow) l) (ma (Cu e.args xs 1) k):=λk=>Qd _ _ _ _;exact
    {size:=by simp[a0];omega
     defers:=rfl
     below:=⟨rfl,rfl,rfl,Lf _,λ_ _=>rfl⟩
     glob:=H
     gx:=I
     xs:=λe=>Lx ((hC.soft.trans hsf).symm.trans e)
     fix:=λp U=>by
      grind[FL]
     xlt:=J
     xin:=λb hb=>.inl hb
     x0:=λb hb=>hb
     own:=λk b hb=>by
      split at hb
      ·exact⟨.inr hb,q b hb,K b hb⟩
      ·cases hb
     nodup:=λk=>by split;exact M;simp
     pS:=λk k' b hb a1=>by
      simp_all
     hown:=Ac
     pK:=Ac
     pL:=Ac
     pM:=λd i hc=>by
      simp_all
     slots:=λk=>by
      rw[D];by_cases hk:A4.m 0=k
      ·subst hk;simp only[if_true];exact⟨[v],by rw[O];rfl,Aq⟩
      grind}
  refine wp_mono (QS hC (λp U=>Ag) hA (hF l xs (r,G) hr) h0) λex V w' U=>?_;obtain⟨s',X',F',hk,n⟩:=U;have fin:A8 C.τ e fn.results.toList .ret s'=K1 (r,G)->V.defers=[]/\ ∃v',(results fn V.tmps).run P w'=.ok v' w'/\ ∃rs S,Mf v'=.returned (J7 rs)/\VD w' w.heap.size e.res r rs S/\S.Nodup/\(∃X',rd w' X' 0 .ow (.slice e.e e.t) G [v] L)/\
    w'.os=w.os/\w'.tape=w.tape/\w'.output=w.output/\w.heap.size<=w'.heap.size/\ ∀b,b<w.heap.size->b∉L->w'.heap[b]? =w.heap[b]? :=by
   intro hk;simp only[A8]at hk;split at hk
   ·rename_i T y hg;split at hk
    ·rename_i l2 r2 Z ab;simp only[pB,pF]at hk;obtain⟨rfl,rfl⟩:=hk;obtain⟨vs,S,k1,k2,k3,_⟩:=JR rfl hC.τ n ab;have hs:=n.slots (.m 0);rw[hg]at hs;obtain⟨us,h1,E⟩:=hs;obtain⟨rfl,rfl⟩:=iy Z;unfold Pr at E;obtain⟨u,rfl⟩:∃u,us=[u]:=Mi.1 (X9 E);have hu:Qw z.gh V (.m 0)=u:=h1;have j:=(n.fix (0,v) (by simp[z])).2;simp only at j;rw[hu]at j;subst j;have ad:F' (.m 0)=L:=by
      obtain⟨v1,a2,S1,S2,e1,e2,g1,g2⟩:=E;obtain⟨v2,a3,S3,S4,e3,e4,g3,g4⟩:=o;simp only[Nd,and_true]at e1 e3;subst e1;subst e3;rw[e2,e4,(iP (r':=λ_ _ _=>True) (λx v S h=>⟨(XI (w':=w') (X':=X') (B':=0) (own':=.ow) hfl h).1,trivial⟩) g2).1,(iP (r':=λ_ _ _=>True) (λx v S h=>⟨(XI (w':=w') (X':=X') (B':=0) (own':=.ow) hfl h).1,trivial⟩) g4).1,g1.2,g3.2]
     exact⟨n.defers,_,qv k1,vs,[],rfl,TD hfr k2,Ac,⟨X',by rw[<-ad];exact E⟩,n.below.os,n.below.tape,n.below.output,n.below.size,λb hb N=>n.below.block b ⟨hb,N⟩⟩
    ·cases hk
   ·cases hk
  cases ex with
  |normal=>exact fin hk
  |ret=>exact fin hk
  |_=>simp[A8]at hk
end
def ym:(as:List AK)->Dk as->Nat->List (A4×Tm)|[],_,_=>[]|.sh t::r,x,i=>(.m i,.val t (.u .sh) x.1)::ym r x.2 (i+1)|.bx e t o::r,x,i=>(.m i,.box e t o x.1)::ym r x.2 (i+1)|.mv t f::r,x,i=>(.m i,.val t f x.1)::ym r x.2 (i+1)
def pj:List AK->Nat->List Nat|[],_=>[]|.sh _::r,i=>pj r (i+1)|.bx _ _ _::r,i=>i::pj r (i+1)|.mv .. ::r,i=>pj r (i+1)
def vD(as:List AK)(x:Dk as):St:={env:=ym as x 0,pP:=[],pQ:=pj as 0}
def uU:List AK->List K3->Nat->List (Nat×K3)|.sh _::r,_::vs,i=>uU r vs (i+1)|.bx _ _ _::r,v::vs,i=>(i,v)::uU r vs (i+1)|.mv .. ::r,_::vs,i=>uU r vs (i+1)|_,_,_=>[]
def lg(s:St):(as:List AK)->Nat->Option (JM as)
 |[],_=>K1 ()
 |.sh _::r,i=>lg s r (i+1)
 |.bx e T o::r,i=>match s.get (.m i)with
  |.box e' U f y=>match Ld e' e&&r9 o f U,Jz T U y,lg s r (i+1)with
   |true,K1 z,K1 zs=>K1 (z,zs)
   |_,_,_=>K2
  |_=>K2
 |.mv .. ::r,i=>lg s r (i+1)
def LA:List AK->Nat->St->St|[],_,s=>s|.sh _::r,i,s=>LA r (i+1) s|.bx _ _ o::r,i,s=>LA r (i+1) (Fm s i o)|.mv .. ::r,i,s=>LA r (i+1) s
def DG(τ:vJ):(ts:List Ty)->List ResultVar->St->Option (J6 ts×St)
 |[],[],s=>K1 ((),s)
 |t::ts,.tmp k::rs,s=>match xB s (RO s [] (.tmp k)) t with
  |some q=>match Wb q.T q.f (.u .ow),Jz t q.T q.x,DG τ ts rs q.s with
   |true,K1 x,K1 (xs,s')=>K1 ((x,xs),s')
   |_,_,_=>K2
  |none=>K2
 |t::ts,.cell k e::rs,s=>match s.get (.m k),τ e with
  |.box e0 U f y,K1 U'=>match(Lp k 1048576&&Ls (U=U'))&&Wb U f (.u .ow),Jz t U y,DG τ ts rs (Y7 s k (.box e0 U .d y))with
   |true,K1 x,K1 (xs,s')=>K1 ((x,xs),s')
   |_,_,_=>K2
  |_,_=>K2
 |_,_,_=>K2
def P8(τ:vJ):(ts:List Ty)->List ResultVar->St->Option (J6 ts)
 |[],[],_=>K1 ()
 |t::ts,.tmp k::rs,s=>match CJ s (RO s [] (.tmp k)) t,P8 τ ts rs s with
  |some x,K1 xs=>K1 (x,xs)
  |_,_=>K2
 |t::ts,.cell k e::rs,s=>match s.get (.m k),τ e with
  |.box _ U f y,K1 U'=>match(Lp k 1048576&&Ls (U=U'))&&rV f U,Jz t U y,P8 τ ts rs s with
   |true,K1 x,K1 xs=>K1 (x,xs)
   |_,_,_=>K2
  |_,_=>K2
 |_,_,_=>K2
def jT(τ:vJ):(ts:List (Ty×Fl))->List ResultVar->St->Option (NV ts×St)
 |[],[],s=>K1 ((),s)
 |t::ts,.tmp k::rs,s=>match xB s (RO s [] (.tmp k)) t.1 with
  |some q=>match r9 t.2 q.f q.T,Jz t.1 q.T q.x,jT τ ts rs q.s with
   |true,K1 x,K1 (xs,s')=>K1 ((x,xs),s')
   |_,_,_=>K2
  |none=>K2
 |t::ts,.cell k e::rs,s=>match s.get (.m k),τ e with
  |.box e0 U f y,K1 U'=>match(Lp k 1048576&&Ls (U=U'))&&r9 t.2 f U,Jz t.1 U y,jT τ ts rs (Y7 s k (.box e0 U .d y))with
   |true,K1 x,K1 (xs,s')=>K1 ((x,xs),s')
   |_,_,_=>K2
  |_,_=>K2
 |_,_,_=>K2
def Rs(ln:List Nat)(τ:vJ):(r:RS)->List ResultVar->St->Option (FT r×St)
 |.vals ts,rs,s=>DG τ ts rs s
 |.newb e T,[.tmp k],s=>match Uz (RO s [] (.tmp k))with
  |some q=>match s.get (.m q)with
   |.box e' U f y=>match Ld e' e&&r9 (.u .sh) f U&& !(s.pQ.any (Ld q)),Jz T U y with
    |true,K1 z=>K1 (z,s)
    |_,_=>K2
   |_=>K2
  |none=>K2
 |.newb _ _,_,_=>K2
 |.shr ts,rs,s=>match P8 τ ts rs s with
  |some x=>K1 (x,s)
  |none=>K2
 |.flg ts,rs,s=>jT τ ts rs s
 |.fp T j p1 p2,[.tmp k],s=>match RO s [] (.tmp k),ln[j]? with
  |.tm _ (.ptr q p),K1 q'=>match s.get (.m q),Ld q' q with
   |.box _ U _ _,K4=>match Ls (U=T),B8 p p1,B8 p p2 with
    |true,K4,_=>K1 (K4,s)
    |true,La,K4=>K1 (La,s)
    |_,_,_=>K2
   |_,_=>K2
  |_,_=>K2
 |.fp ..,_,_=>K2
def G0(τ:vJ)(as:List AK)(r:RS)(rs:List ResultVar):Exit->St->Option (FT r×JM as)
 |.ret,s|.normal,s=>match Rs (pj as 0) τ r rs (LA as 0 s)with
  |some (x,s')=>match lg s' as 0 with
   |some z=>K1 (x,z)
   |none=>K2
  |none=>K2
 |_,_=>K2
section
variable {P:Lg}{g:Kf}{W0:bu g}{w w':Lb}{X X':Nat->Prop}{B B' n:Nat}{own:Ow}{s s':St}{F:A4->List Nat}{a:Act}{H H':List Nat}{o:Le}{tg:Yl}{τ:vJ}{C:ML}{gh:Nat->K3}
def R.hperm(h:R n W0 w X F H s a)(hp:H'.Perm H):R n W0 w X F H' s a:=
 {h with
  hown:=λb c=>h.hown b (hp.mem_iff.1 c)
  pK:=hp.nodup_iff.2 h.pK
  pL:=λk b c d=>h.pL k b c (hp.mem_iff.1 d)}
def mb(hτ:τ.ok P):∀{ts:List Ty}{rs:List ResultVar}{s:St}{F:A4->List Nat}{H:List Nat}{xs:J6 ts}{s':St},R n W0 w X F H s a->DG τ ts rs s=K1 (xs,s')->
  ∃vs S F',(rs.mapM (rY a)).run P w=.ok vs w/\VD w W0.B ts xs vs S/\R n W0 w X F' (S++H) s' a
 |[],[],s,F,H,xs,s',h,g=>by
  simp only[DG,pB,pF]at g;obtain⟨_,rfl⟩:=g;exact⟨[],[],F,Ac,⟨rfl,rfl⟩,h⟩
 |t::ts,.tmp k::rs,s,F,H,xs,s',h,g=>by
  simp only[DG]at g;split at g
  ·rename_i q Q;split at g
   ·rename_i x z V o hx l;simp only[pB,pF]at g;obtain⟨rfl,rfl⟩:=g;obtain⟨_,F1,i,p,W,Y,A,_,_⟩:=cP h aO Q;obtain⟨rfl,rfl⟩:=iy hx;obtain⟨vs,S,F',Z,C,D⟩:=mb hτ A l;refine⟨_,i++S,F',?_,⟨p,vs,i,S,rfl,rfl,nC (.inr (Lf _)) (.inl rfl) (by have:=bD o Y;unfold Pr at this;exact this),C⟩,D.hperm ?_⟩
    ·have E:(a.tmps.getD k undef)=Yh q.T p:=W;simp_all[rY]
    grind
   ·cases g
  ·cases g
 |t::ts,.cell k e::rs,s,F,H,xs,s',h,g=>by
  simp only[DG]at g;split at g
  ·rename_i e' U f y U' K hU;split at g
   ·rename_i x z V o hx l;simp only[pC,decide_eq_true_eq]at o;obtain⟨⟨G,rfl⟩,o⟩:=o;simp only[pB,pF]at g;obtain⟨rfl,rfl⟩:=g;obtain⟨rfl,rfl⟩:=iy hx;have L:=h.slots (.m k);rw[K]at L;obtain⟨b,c,i,M,g2,N,v⟩:=L;have r:=h.nodup (.m k);rw[g2]at r;have A:R n W0 w X (Q6 F (.m k) [b]) (i++H) (Y7 s k (.box e' U .d x)) a:=by
     refine h.turn (S':=[b]) (H':=i++H) h.below (Lf _) (λ_ _=>rfl) (λ_ _ _ _=>rfl) ?_ ?_ (by rw[K];simp) ?_ ?_
     ·simp_all
     ·have hd:∀I∈b::i,I∉H:=λI ab=>h.pL (.m k) I Af;refine Lm.2 ⟨Ac,Lm.2 ⟨(L7.1 r).2,h.pK,λx hx y O e=>hd x (by simp[hx]) (by rw[e];exact O)⟩,λx hx y O e=>?_⟩;simp_all
     ·grind
     ·exact⟨b,c,[],M,rfl,N,by unfold Pr;exact⟨Kh v,nA v,rfl⟩⟩
    obtain⟨vs,S,F',Z,C,D⟩:=mb hτ A l;refine⟨_,i++S,F',?_,⟨c.toList,vs,i,S,rfl,rfl,nC (.inr (Lf _)) (.inl rfl) (by have:=bD o v;unfold Pr at this;exact this),C⟩,D.hperm ?_⟩
    ·have E:(a.tmps.getD k undef)=.pointer (K1 ⟨b,0,K2⟩):=(Y4 W0 a G).symm.trans M;have J:=(hτ _ _ hU).load (w:=w) (ad:=⟨b,0,K2⟩) (vs:=c.toList) (Kh v) (λj u hj=>by
      rw[cY w N,<-Array.getElem?_toList,Md];exact hj)
     simp_all[rY,asAddr]
    grind
   ·cases g
  ·cases g
 |[],.tmp _::_,_,_,_,_,_,_,g|[],.cell .. ::_,_,_,_,_,_,_,g|_::_,[],_,_,_,_,_,_,g=>by simp[DG]at g
def NB(hτ:τ.ok P):∀{ts:List (Ty×Fl)}{rs:List ResultVar}{s:St}{F:A4->List Nat}{H:List Nat}{xs:NV ts}{s':St},R n W0 w X F H s a->jT τ ts rs s=K1 (xs,s')->
  ∃vs S F',(rs.mapM (rY a)).run P w=.ok vs w/\LU w X W0.B ts xs vs S/\R n W0 w X F' (S++H) s' a
 |[],[],s,F,H,xs,s',h,g=>by
  simp only[jT,pB,pF]at g;obtain⟨_,rfl⟩:=g;exact⟨[],[],F,Ac,⟨rfl,rfl⟩,h⟩
 |(t,Q)::ts,.tmp k::rs,s,F,H,xs,s',h,g=>by
  simp only[jT]at g;split at g
  ·rename_i q V;split at g
   ·rename_i x z W o hx l;simp only[pB,pF]at g;obtain⟨rfl,rfl⟩:=g;obtain⟨_,F1,i,p,Y,Z,A,_,_⟩:=cP h aO V;obtain⟨rfl,rfl⟩:=iy hx;obtain⟨vs,S,F',k1,C,D⟩:=NB hτ A l;refine⟨_,i++S,F',?_,⟨p,vs,i,S,rfl,rfl,Hf o Z,C⟩,D.hperm ?_⟩
    ·have E:(a.tmps.getD k undef)=Yh q.T p:=Y;simp_all[rY]
    grind
   ·cases g
  ·cases g
 |(t,Q)::ts,.cell k e::rs,s,F,H,xs,s',h,g=>by
  simp only[jT]at g;split at g
  ·rename_i e' U f y U' K hU;split at g
   ·rename_i x z W o hx l;simp only[pC,decide_eq_true_eq]at o;obtain⟨⟨G,rfl⟩,o⟩:=o;simp only[pB,pF]at g;obtain⟨rfl,rfl⟩:=g;obtain⟨rfl,rfl⟩:=iy hx;have L:=h.slots (.m k);rw[K]at L;obtain⟨b,c,i,M,g2,N,v⟩:=L;have r:=h.nodup (.m k);rw[g2]at r;have A:R n W0 w X (Q6 F (.m k) [b]) (i++H) (Y7 s k (.box e' U .d x)) a:=by
     refine h.turn (S':=[b]) (H':=i++H) h.below (Lf _) (λ_ _=>rfl) (λ_ _ _ _=>rfl) ?_ ?_ (by rw[K];simp) ?_ ?_
     ·simp_all
     ·have hd:∀I∈b::i,I∉H:=λI ab=>h.pL (.m k) I Af;refine Lm.2 ⟨Ac,Lm.2 ⟨(L7.1 r).2,h.pK,λx hx y O e=>hd x (by simp[hx]) (by rw[e];exact O)⟩,λx hx y O e=>?_⟩;simp_all
     ·grind
     ·exact⟨b,c,[],M,rfl,N,by unfold Pr;exact⟨Kh v,nA v,rfl⟩⟩
    obtain⟨vs,S,F',k1,C,D⟩:=NB hτ A l;refine⟨_,i++S,F',?_,⟨c.toList,vs,i,S,rfl,rfl,Hf o v,C⟩,D.hperm ?_⟩
    ·have E:(a.tmps.getD k undef)=.pointer (K1 ⟨b,0,K2⟩):=(Y4 W0 a G).symm.trans M;have J:=(hτ _ _ hU).load (w:=w) (ad:=⟨b,0,K2⟩) (vs:=c.toList) (Kh v) (λj u hj=>by
      rw[cY w N,<-Array.getElem?_toList,Md];exact hj)
     simp_all[rY,asAddr]
    grind
   ·cases g
  ·cases g
 |[],.tmp _::_,_,_,_,_,_,_,g|[],.cell .. ::_,_,_,_,_,_,_,g|_::_,[],_,_,_,_,_,_,g=>by simp[jT]at g
def Og(hτ:τ.ok P)(h:R n W0 w X F H s a):∀{ts:List Ty}{rs:List ResultVar}{xs:J6 ts},P8 τ ts rs s=K1 xs->
  ∃vs,(rs.mapM (rY a)).run P w=.ok vs w/\qP w X ts xs vs
 |[],[],xs,d=>⟨[],Ac,rfl⟩
 |t::ts,.tmp k::rs,xs,d=>by
  simp only[P8]at d;split at d
  ·rename_i x p hx g;simp only[pB]at d;subst d;obtain⟨A,D,E⟩:=vH h (x:=.tmp k) hx;obtain⟨vs,G,q⟩:=Og hτ h g;refine⟨_,?_,A,vs,rfl,E,q⟩;have r:(a.tmps.getD k undef)=Yh t A:=D;simp_all[rY]
  ·cases d
 |t::ts,.cell k e::rs,xs,d=>by
  simp only[P8]at d;split at d
  ·rename_i Q U f y S I J;split at d
   ·rename_i x p l hx g;simp only[pC,decide_eq_true_eq]at l;obtain⟨⟨v,rfl⟩,l⟩:=l;simp only[pB]at d;subst d;obtain⟨rfl,rfl⟩:=iy hx;have B:=h.slots (.m k);rw[I]at B;obtain⟨b,c,K,L,V,M,C⟩:=B;have i:=Hf (o:=.u .sh) l C;unfold Pr at i;have N:K=[]:=kJ i;subst N;obtain⟨vs,G,q⟩:=Og hτ h g;refine⟨_,?_,c.toList,vs,rfl,V8 i Ac,q⟩;have r:(a.tmps.getD k undef)=.pointer (K1 ⟨b,0,K2⟩):=(Y4 W0 a v).symm.trans L;have z:=(hτ _ _ J).load (w:=w) (ad:=⟨b,0,K2⟩) (vs:=c.toList) (Kh C) (λj u O=>by
     rw[cY w M,<-Array.getElem?_toList,Md];exact O)
    simp_all[rY,asAddr]
   ·cases d
  ·cases d
 |[],.tmp _::_,_,d|[],.cell .. ::_,_,d|_::_,[],_,d=>by simp[P8]at d
def Z8f(hτ:τ.ok P){r:RS}{x:FT r}(h:R n W0 w X F [] s a)(hB:W0.B=0)(hr:Rs ln τ r rs s=K1 (x,s')):
  ∃vs S F',(rs.mapM (rY a)).run P w=.ok vs w/\Uy w X r x vs S/\R n W0 w X F' [] s' a/\S.Nodup/\(∀b,b∈S->W0.mine b/\b<w.heap.size/\ ¬X b)/\ ∀i,i∈s'.pQ-> ∀b,b∈S->b∉F' (.m i):=by
 cases r with
 |vals A=>
  obtain⟨vs,S,F',u,l,g⟩:=mb hτ h (show DG τ A rs s=K1 (x,s')from hr);rw[hB]at l;exact⟨vs,S,F',u,l,g.drop,(by simpa using g.pK),λb o=>g.hown b (by simp[o]),λi _ b o v=>g.pL _ b v (by simp[o])⟩
 |newb e T=>
  match rs,hr with
  |[],hr=>cases hr
  |[.cell ..,.cell ..],hr=>cases hr
  |[.cell ..,.tmp _],hr=>cases hr
  |[.cell ..],hr=>cases hr
  |.tmp _::_::_,hr=>cases hr
  |.cell .. ::_::_::_,hr=>cases hr
  |[.tmp k],hr=>
   simp only[Rs]at hr;split at hr
   ·rename_i q L;split at hr
    ·rename_i e' U f y J;split at hr
     ·rename_i z p M;simp only[pC,Me]at p;simp only[pB,pF]at hr;obtain⟨D,rfl⟩:=hr;have t:x=z:=D.symm;subst t;have N:=pD p.1.1;subst N;obtain⟨rfl,rfl⟩:=iy M;have E:=Oe h L J;have C:=h.slots (.m q);rw[J]at C;obtain⟨b,c,S,O,K,Q,V⟩:=C;have G:=Hf p.1.2 V;unfold Pr at G;have W:S=[]:=kJ G;subst W;refine⟨[.pointer (K1 ⟨b,0,K2⟩)],[b],F,?_,⟨b,c,rfl,rfl,Q,nC (.inl rfl) (.inr λ_ h=>h) G⟩,h,Ac,?_,?_⟩
      ·have Y:(a.tmps.getD k undef)=.pointer (K1 ⟨b,0,K2⟩):=by
        have:a.eval (.tmp k)=_:=E;rw[O]at this;exact this
       simp_all[rY]
      ·intro H d;simp only[Nk]at d;subst d;exact h.own (.m q) H (by rw[K];simp)
      ·intro i hi H d v;simp only[Nk]at d;subst d;have:=h.pS (.m q) (.m i) H (by rw[K];simp) v;simp_all
     ·cases hr
    ·cases hr
   ·cases hr
 |shr A=>
  simp only[Rs]at hr;split at hr
  ·rename_i Z hx;simp only[pB,pF]at hr;obtain⟨I,rfl⟩:=hr;have t:x=Z:=I.symm;subst t;obtain⟨vs,u,l⟩:=Og hτ h hx;exact⟨vs,[],F,u,⟨rfl,l⟩,h,Ac,Ac,Ac⟩
  ·cases hr
 |flg A=>
  obtain⟨vs,S,F',u,l,g⟩:=NB hτ h (show jT τ A rs s=K1 (x,s')from hr);rw[hB]at l;exact⟨vs,S,F',u,l,g.drop,(by simpa using g.pK),λb o=>g.hown b (by simp[o]),λi _ b o v=>g.pL _ b v (by simp[o])⟩
 |fp T j p1 p2=>
  match rs,hr with
  |[],hr=>cases hr
  |[.cell ..,.cell ..],hr=>cases hr
  |[.cell ..,.tmp _],hr=>cases hr
  |[.cell ..],hr=>cases hr
  |.tmp _::_::_,hr=>cases hr
  |.cell .. ::_::_::_,hr=>cases hr
  |[.tmp k],hr=>
   have C:s'=s:=by
    grind[Rs]
   subst C;exact⟨[a.tmps.getD k undef],[],F,by rfl,rfl,h,Ac,Ac,Ac⟩
def Qty{r:RS}{x:FT r}(h:R n W0 w X F H s a)(hr:Rs ln τ r rs s=K1 (x,s'))(hv:(rs.mapM (rY a)).run P w=.ok vs w)
  {BL:List Nat} (hb:∀(j q:Nat),ln[j]? =K1 q-> ∃b,BL[j]? =K1 b/\Qw W0.gh a (.m q)=.pointer (K1 ⟨b,0,K2⟩)):B6 r x vs BL:=by
 cases r with
 |fp T j J K=>
  match rs,hr with
  |[],hr=>cases hr
  |[.cell ..,.cell ..],hr=>cases hr
  |[.cell ..,.tmp _],hr=>cases hr
  |[.cell ..],hr=>cases hr
  |.tmp _::_::_,hr=>cases hr
  |.cell .. ::_::_::_,hr=>cases hr
  |[.tmp k],hr=>
   simp only[Rs]at hr;split at hr
   ·rename_i L q p l hx B;split at hr
    ·rename_i e U f y o d;have d:=pD d;subst d;obtain⟨t,M,N,O,Q,V,b,S,u,C,D⟩:=Ji h aO hx Ac;simp only[Lt.tmp.injEq]at t;subst t;rw[o]at u;cases u;have v:=h.slots (.m l);rw[o]at v;obtain⟨W,Y,Z,E,z,g3,g4⟩:=v;rw[C]at z;obtain⟨rfl,_⟩:=Nc z;obtain⟨b4,A,g⟩:=hb j l B;rw[E]at g;simp only[M2,pB,Mm,and_true]at g;subst g;have i:(a.tmps.getD k undef)=.pointer (K1 ⟨b,Yn U p,K2⟩):=D;simp only[List.mapM_cons,List.mapM_nil,rY,Mk,Lq,My,i,Mz,and_true]at hv;subst hv;split at hr
     ·rename_i c G;have c:=pE c;subst c;simp only[pB,pF]at hr;obtain⟨rfl,rfl⟩:=hr;exact⟨b,A,by grind[zS]⟩
     ·rename_i c I G;have c:=pE c;subst c;simp only[pB,pF]at hr;obtain⟨rfl,rfl⟩:=hr;exact⟨b,A,by grind[zS]⟩
     ·cases hr
    ·cases hr
   ·cases hr
 |_=>trivial
theorem Bi:∀{as:List AK}{x:JM as}{vals:List K3}{BL C:List Nat}{i j q:Nat},AV w X as x vals BL C->(pj as i)[j]? =K1 q-> ∃b,BL[j]? =K1 b/\(q,Ns (K1 ⟨b,0,K2⟩))∈uU as vals i
 |[],_,_,_,_,_,_,_,_,a=>by grind[pj]
 |.sh _::r,_,_,_,_,i,j,q,⟨v,d,e,h⟩,a=>by
  subst e;exact Bi (as:=r) (i:=i+1) h a
 |.mv .. ::r,_,_,_,_,i,j,q,⟨v,d,e,h⟩,a=>by
  subst e;exact Bi (as:=r) (i:=i+1) h a
 |.bx _ _ _::r,_,_,_,_,i,j,q,⟨b,c,S,d,f,l,g,k,m,_,_,h⟩,a=>by
  subst g;subst k;cases j with
  |zero=>
   simp_all[pj,uU]
  |succ j=>
   simp only[pj,List.getElem?_cons_succ]at a;obtain⟨n,o,p⟩:=Bi (as:=r) (i:=i+1) h a;simp_all[uU]
def jR(h:R n W0 w X F H s a)(hB:W0.B=0):∀{as:List AK}{vals:List K3}{i:Nat}{z:JM as},lg s as i=K1 z->vals.length=as.length->(∀p,p∈uU as vals i->Qw W0.gh a (.m p.1)=p.2)->
  ∃BL C,AV w X as z vals BL C/\(BL++C).Nodup/\ ∀b,b∈BL++C-> ∃j,i<=j/\j∈pj as i/\b∈F (.m j)
 |[],vals,i,z,d,g,_=>⟨[],[],⟨Ng g,rfl,rfl⟩,Ac,Ac⟩
 |.sh t::r,[],i,z,d,g,_=>by simp at g
 |.bx .. ::r,[],i,z,d,g,_=>by simp at g
 |.mv .. ::r,[],i,z,d,g,_=>by simp at g
 |.mv t f::r,v::vals,i,z,d,g,l=>by
  obtain⟨BL,C,q,D,u⟩:=jR h hB (as:=r) (vals:=vals) (i:=i+1) d (by simpa using g) l;exact⟨BL,C,⟨v,vals,rfl,q⟩,D,λb E=>let⟨j,L,k2,x⟩:=u b E;⟨j,Aa,k2,x⟩⟩
 |.sh t::r,v::vals,i,z,d,g,l=>by
  obtain⟨BL,C,q,D,u⟩:=jR h hB (as:=r) (vals:=vals) (i:=i+1) d (by simpa using g) l;exact⟨BL,C,⟨v,vals,rfl,q⟩,D,λb E=>let⟨j,L,k2,x⟩:=u b E;⟨j,Aa,k2,x⟩⟩
 |.bx e T o::r,v::vals,i,z,d,g,l=>by
  simp only[lg]at d;split at d
  ·rename_i Z U f y P;split at d
   ·rename_i z1 z2 A G I;simp only[pB]at d;subst d;simp only[pC]at A;have Q:=pD A.1;subst Q;obtain⟨rfl,rfl⟩:=iy G;obtain⟨BL,C,q,D,u⟩:=jR h hB (as:=r) (vals:=vals) (i:=i+1) I (by simpa using g) (λp V=>l p (by simp[uU,V]));have M:=h.slots (.m i);rw[P]at M;obtain⟨b,c,S,g1,W,Y,g4⟩:=M;have hv:v=.pointer (K1 ⟨b,0,K2⟩):=by simp_all[uU]
    have N:∀k,k∈b::S->k∉BL++C:=λk J O=>by
     obtain⟨j,L,_,x⟩:=u k O;have:=h.pS (.m i) (.m j) k Af x
     grind
    have K:=h.nodup (.m i);rw[W]at K;refine⟨b::BL,S++C,⟨b,c,S,vals,BL,C,by rw[hv],rfl,rfl,Y,?_,q⟩,?_,?_⟩
    ·grind[Hf]
    ·grind
    ·intro k J;by_cases O:k∈BL++C
     ·grind[pj]
     ·refine⟨i,Lf _,by simp[pj],?_⟩;simp_all
   ·cases d
  ·cases d
def yp:∀{as:List AK}{x:Dk as}{vals:List K3}{L:List Nat},O3 w X as x vals L->vals.length=as.length
 |[],_,_,_,h=>by simp[h.1]
 |.sh t::r,_,_,_,⟨_,_,e,_,h⟩=>by simp[e,yp h]
 |.bx .. ::r,_,_,_,⟨_,_,_,_,_,e,_,_,_,h⟩=>by simp[e,yp h]
 |.mv .. ::r,_,_,_,⟨_,_,_,_,e,_,_,h⟩=>by simp[e,yp h]
theorem HI:∀{as:List AK}{vals:List K3}{i:Nat}{p:Nat×K3},p∈uU as vals i->p.1∈pj as i/\i<=p.1
 |[],_,_,_,h=>by simp[uU]at h
 |.sh t::r,[],_,_,h=>by simp[uU]at h
 |.bx .. ::r,[],_,_,h=>by simp[uU]at h
 |.mv .. ::r,[],_,_,h=>by simp[uU]at h
 |.mv t f::r,v::vals,i,p,h=>let⟨a,b⟩:=HI (as:=r) h;⟨a,Aa⟩
 |.sh t::r,v::vals,i,p,h=>let⟨a,b⟩:=HI (as:=r) h;⟨a,Aa⟩
 |.bx .. ::r,v::vals,i,p,h=>by
  simp only[uU,Li]at h;rcases h with rfl|h
  ·simp_all[pj]
  ·obtain⟨a,b⟩:=HI h
   grind[pj]
def Sk(a:Act):∀{as:List AK}{x:Dk as}{vals pre:List K3}{i:Nat}{L:List Nat},O3 w X as x vals L->pre.length=i->a.tmps.toList.take (pre.length+vals.length)=pre++vals->L.Nodup->
  ∃F0:A4->List Nat,(∀k,(F0 k).Nodup/\ ∀b,b∈F0 k->b∈L)/\(∀k k' b,b∈F0 k->b∈F0 k'->k=k')/\(∀k b,b∈F0 k-> ∃j,i<=j/\k=.m j)/\
   (∀p,p∈uU as vals i->Qw gh a (.m p.1)=p.2)/\ ∀(s:St)(F:A4->List Nat)(k:A4),vt gh w X 0 s F a (Qw gh a k) (F0 k) (ma (ym as x i) k)/\(∀d j,k=.c d j->ma (ym as x i) k=.pR)
 |[],_,_,_,i,_,⟨U,V⟩,_,_,_=>by
  subst U;subst V;exact⟨λ_=>[],Ac,Ac,Ac,by simp[uU],λ_ _ _=>⟨rfl,λ_ _ _=>rfl⟩⟩
 |.sh t::r,x,vals,pre,i,L,h,u,P,v=>by
  obtain⟨l,y,rfl,B,D⟩:=h;obtain⟨F0,E,G,H,C,z⟩:=Sk a (pre:=pre++[Yh t l]) (i:=i+1) D (by simp[u]) Ag v;have I:F0 (.m i)=[]:=List.eq_nil_iff_forall_not_mem.2 λb n=>by
   grind
  refine⟨F0,E,G,λk b n=>let⟨j,j1,j2⟩:=H k b n;⟨j,Aa,j2⟩,C,λs F k=>?_⟩;simp only[ym,Qd];split
  ·rename_i e;subst e;rw[I];refine⟨⟨l,?_,Ak⟩,λ_ _ A=>by simp at A⟩;have:a.tmps.toList[i]? =K1 (Yh t l):=by
    have q:(a.tmps.toList.take (pre.length+(Yh t l::y).length))[i]? =K1 (Yh t l):=Af
    grind
   simp_all[Qw,uI]
  ·exact z s F k
 |.bx e t o::r,x,vals,pre,i,L,h,u,P,v=>by
  obtain⟨b,c,S,y,Q,rfl,rfl,B,D,q⟩:=h;have J:(b::S++Q).Nodup:=by simpa using v
  obtain⟨W,K,Y⟩:=Lm.1 J;obtain⟨F0,E,G,H,C,z⟩:=Sk a (pre:=pre++[.pointer (K1 ⟨b,0,K2⟩)]) (i:=i+1) q (by simp[u]) Ag K;have g:Qw gh a (.m i)=.pointer (K1 ⟨b,0,K2⟩):=by
   have:a.tmps.toList[i]? =K1 (.pointer (K1 ⟨b,0,K2⟩)):=by
    have q:(a.tmps.toList.take (pre.length+(Ns (K1 ⟨b,0,K2⟩)::y).length))[i]? =K1 (.pointer (K1 ⟨b,0,K2⟩)):=Af
    grind
   simp_all[Qw,uI]
  refine⟨λk=>ite (k=.m i) (b::S) (F0 k),λk=>?_,λk k' M n N=>?_,λk M n=>?_,λp O=>?_,λs F k=>?_⟩
  ·grind
  ·grind
  ·grind
  ·simp only[uU,Li]at O
   grind
  ·simp only[ym,Qd];by_cases hk:k=.m i
   ·subst hk;simp only[if_true];exact⟨⟨b,c,S,g,rfl,B,D⟩,λ_ _ A=>by simp at A⟩
   ·rw[if_neg (Lo hk),if_neg hk];exact z s F k
 |.mv t f::r,x,vals,pre,i,L,h,u,P,v=>by
  obtain⟨l,S,y,Q,rfl,rfl,B,q⟩:=h;obtain⟨W,K,Y⟩:=Lm.1 v;obtain⟨F0,E,G,H,C,z⟩:=Sk a (pre:=pre++[Yh t l]) (i:=i+1) q (by simp[u]) Ag K;have g:Qw gh a (.m i)=Yh t l:=by
   have:a.tmps.toList[i]? =K1 (Yh t l):=by
    have q:(a.tmps.toList.take (pre.length+(Yh t l::y).length))[i]? =K1 (Yh t l):=Af
    grind
   simp_all[Qw,uI]
  refine⟨λk=>ite (k=.m i) S (F0 k),λk=>?_,λk k' M n N=>?_,λk M n=>?_,C,λs F k=>?_⟩
  ·grind
  ·grind
  ·grind
  ·simp only[ym,Qd];by_cases hk:k=.m i
   ·subst hk;simp only[if_true];exact⟨⟨l,g,B⟩,λ_ _ A=>by simp at A⟩
   ·rw[if_neg (Lo hk),if_neg hk];exact z s F k
def RC(hs0:g.soft=La):∀{as:List AK}{i:Nat}{s:St}{X:Nat->Prop}{F:A4->List Nat},R n W0 w X F H s a-> ∃X' F',R n W0 w X' F' H (LA as i s) a
 |[],_,s,X,F,h=>⟨X,F,h⟩
 |.sh _::r,_,s,X,F,h=>RC hs0 (as:=r) h
 |.mv .. ::r,_,s,X,F,h=>RC hs0 (as:=r) h
 |.bx _ _ o::r,i,s,X,F,h=>by
  obtain⟨c,d,b⟩:=UU hs0 h i o;exact RC hs0 (as:=r) b
def gZ.of{e:A9}(hC:C.ok P g)(hsf:C.soft=false:=by rfl)(hlent:C.pQ=pj e.args 0)(hf:P.funcs[e.f]? =K1 fn)(hb:fn.body=K1 c)(hcall:∀args w,(callFunc e.f args).run P w=.ok (.enter e.f args) w)
  (hn:e.args.length<=fn.ntmps) (A:An (FT e.res×JM e.args)) (hA:Vx C fn.ntmps c A (G0 C.τ e.args e.res fn.results.toList))
  (hF:∀xs r,e.F xs=K1 r->Kz C fn.ntmps c A (G0 C.τ e.args e.res fn.results.toList) (vD e.args xs)=K1 r):gZ P g e where
 enters:=hcall
 calls:=λw X L xs r l J K M Z N hx hr=>by
  have hl:=yp hx;refine calls_of_wp hf hb ?_
  let a0:Act:={tmps:=l.toArray++Array.replicate (fn.ntmps-l.toArray.size) undef,defers:=[]}
  let z:bu g:={W:=w,B:=0,Y:=λb=>b<w.heap.size/\b∉L,L:=(· ∈L),X0:=X,fix:=uU e.args l 0,bB:=Mt _,fr:=λe=>Lx ((hC.soft.trans hsf).symm.trans e),yW:=λ_ h=>h.1,yL:=λ_ h O=>h.2 O}
  obtain⟨Q,k1,k2,k3,k4,k5⟩:=Sk a0 (pre:=[]) (i:=0) hx rfl (by simp[a0]) N;have h0:R fn.ntmps z w X Q [] (vD e.args xs) a0:=
   {size:=by simp[a0];omega
    defers:=rfl
    below:=⟨rfl,rfl,rfl,Lf _,λ_ _=>rfl⟩
    glob:=J
    gx:=K
    xs:=λe=>Lx ((hC.soft.trans hsf).symm.trans e)
    fix:=λp u=>⟨(HI u).1,k4 p u⟩
    xlt:=M
    xin:=λb hb=>.inl hb
    x0:=λb hb=>hb
    own:=λk b hb=>let h:=(k1 k).2 b hb;⟨.inr h,(Z b h).2,(Z b h).1⟩
    nodup:=λk=>(k1 k).1
    pS:=k2
    hown:=Ac
    pK:=Ac
    pL:=Ac
    pM:=λd i hc=>absurd ((k5 (vD e.args xs) Q (.c d i)).2 d i rfl) hc
    slots:=λk=>(k5 (vD e.args xs) Q k).1}
  refine wp_mono (QS hC (λp u=>by grind[HI]) hA (hF xs r hr) h0) λex U E u=>?_;obtain⟨s',D,F',hk,s⟩:=u;obtain⟨D,F',s⟩:=RC (hC.soft.trans hsf) (as:=e.args) (i:=0) s;have fin:G0 C.τ e.args e.res fn.results.toList .ret s'=K1 r->U.defers=[]/\ ∃v',(results fn U.tmps).run P E=.ok v' E/\ ∃rs S G C D,Mf v'=.returned (J7 rs)/\dg w E X D L (S++(G++C))/\Uy E D e.res r.1 rs S/\AV E D e.args r.2 l G C/\B6 e.res r.1 rs G:=by
   intro hk;simp only[G0]at hk;split at hk
   ·rename_i x s2 H;split at hk
    ·rename_i zz hz;simp only[pB]at hk;subst hk;obtain⟨vs,S,F2,m1,m2,m3,m4,m5,m6⟩:=Z8f hC.τ s rfl H;have V:∀p,p∈uU e.args l 0->p.1∈s2.pQ/\Qw z.gh U (.m p.1)=p.2:=λp u=>m3.fix p u;obtain⟨G,C,n1,n2,n3⟩:=jR m3 rfl hz hl (λp u=>(V p u).2);have n:∀{as:List AK}{l:List K3}{i j:Nat},l.length=as.length->j∈pj as i-> ∃v,(j,v)∈uU as l i:=by
      intro as
      induction as with
      |nil=>simp_all[pj]
      |cons a as ih=>
       intro l i j n hj;cases l with
       |nil=>simp at n
       |cons v l=>
        cases a with
        |sh t=>exact ih (by simpa using n) hj
        |mv t=>exact ih (by simpa using n) hj
        |bx e t o=>
         simp only[pj,Li]at hj;rcases hj with rfl|hj
         ·simp[uU]
         grind[uU]
     have I:∀b,b∈S++(G++C)->z.mine b/\b<E.heap.size/\ ¬D b:=λb hb=>by
      rcases Mr.1 hb with hb|hb
      ·exact m5 b hb
      ·obtain⟨j,_,_,j3⟩:=n3 b hb;exact m3.own _ b j3
     refine⟨s.defers,_,qv m1,vs,S,G,C,D,rfl,⟨s.below.os,s.below.tape,s.below.output,s.below.size,?_,s.xlt,?_,?_,?_,λb hb O=>s.below.block b ⟨hb,O⟩⟩,m2,n1,Qty s H m1 λj q hq=>?_⟩
     ·intro b hb;exact s.x0 b hb
     ·intro b hb;exact(s.xin b hb).imp id λh=>h
     ·exact Lm.2 ⟨m4,n2,λx hx y hy e=>by
       grind⟩
     ·intro b hb;obtain⟨g1,g2,g3⟩:=I b hb;exact⟨g1,g2,g3⟩
     grind[Bi]
    ·cases hk
   ·cases hk
  cases ex with
  |normal=>exact fin hk
  |ret=>exact fin hk
  |_=>simp[G0]at hk
end
section
variable {P:Lg}{g:Kf}{w w':Lb}{X X':Nat->Prop}{s s':St}{F:A4->List Nat}{a:Act}{C:ML}
def Ql:True:=trivial
end
section
variable {P:Lg}{g:Kf}{W0:bu g}{w w':Lb}{X X':Nat->Prop}{B B' n:Nat}{own:Ow}{s s':St}{F:A4->List Nat}{a:Act}{H H':List Nat}{o:Le}{tg:Yl}{τ:vJ}{C:ML}{gh:Nat->K3}
def O2(τ:vJ)(e:CN)(rs:List ResultVar):Exit->St->Option (J6 e.res×e.T.den)
 |.ret,s|.normal,s=>match s.get (.m 0)with
  |.val T f y=>match Wb T f (.u .an),Jz e.T T y,AY τ e.res rs s with
   |true,K1 l,K1 r=>K1 (r,l)
   |_,_,_=>K2
  |_=>K2
 |_,_=>K2
def TY(e:CN)(y:e.T.den)(x:J6 e.args):St:={env:=(.m 0,.val e.T (.u .an) y)::Cu e.args x 1,pP:=[],pQ:=[0]}
structure BB(eC:Lc)(i:Nat)(eS:Lc)(f:Lz)(t0 t1 t2 t3:Nat)(ops:Array Le):Prop where
 ex:∃o0 o1 o2 o3 o4:Le,ops.toList=[o0,o1,o2,o3,o4]/\(o0.guard=K2/\o0.dst=K1 t0/\o0.op=.fieldAddr eC (.tmp 2) i)/\(o1.guard=K2/\o1.dst=K1 t1/\o1.op=.load eS (.tmp t0))/\
  (o2.guard=K2/\o2.dst=K1 t2/\o2.op=.move (.tmp 1))/\(o3.guard=K2/\o3.dst=K1 t3/\ ∃ats,o3.op=.call {callee:=.value (.func f),args:= #[.tmp t1,.tmp t2],argTypes:=ats})/\
  (o4.guard=K2/\o4.dst=K1 1/\o4.op=.assign (.tmp t3))
structure Qos(eC:Lc)(ops:Array Le):Prop where
 ex:∃o0 o1:Le,ops.toList=[o0,o1]/\(o0.guard=K2/\o0.dst=K1 2/\o0.op=.box eC (.tmp 0))/\(o1.guard=K2/\o1.dst=K1 4/\o1.op=.assign (.const (.int .i64 0)))
structure Qs7(ops:Array Le):Prop where
 ex:∃o0 o1:Le,ops.toList=[o0,o1]/\(o0.guard=K2/\o0.dst=K1 13/\o0.op=.move (.tmp 1))/\(o1.guard=K2/\o1.dst=K1 4/\o1.op=.assign (.tmp 13))
def Qwn{a:Act}:a.eval (.func f)=.func (.func f) #[] #[]:=rfl
def Qqq{T:Ty}{x:T.den}{S:List Nat}(h:rd w X B own T x vs S)(hs:T.size=1):∃v,vs=[v]/\v.oneCell'=true:=by obtain⟨v,rfl⟩:=Mi.1 ((X9 h).trans hs);exact⟨v,rfl,kd h v Ac⟩
def FJ{TC:Ty}{eS:Lc}(hTC:Fs P eC TC)(hT1:Fs P eS T1)(hs1:T1.isAgg=La)(hok:oL P g {f:=f,T:=T1,args:=[.int .i64],res:=[.int .i64],F:=F1})
   (ho:BB eC i eS f t0 t1 t2 t3 ops) (hlt:t0<a.tmps.size/\t1<a.tmps.size/\t2<a.tmps.size/\t3<a.tmps.size/\1<a.tmps.size) (hne:t0≠1/\t1≠1/\t2≠1/\t3≠1/\t0≠t1/\t1≠t2/\t0≠t2/\t0≠2/\t1≠2/\t2≠2/\t3≠2)
  (hg:g.G w) (hgx:∀b,g.GB b->X b) (hXl:∀b,X b->b<w.heap.size)  (hLX:∀b∈L,¬X b) (hLn:L.Nodup) {y y1:TC.den}{l1:T1.den}{kk:Int}{z:J6 [.int .i64]×T1.den} (hrd:rd w X 0 .an TC y vs L)
  (hy:ap TC y [i]=K1 ⟨T1,l1⟩) (hF:F1 l1 (kk,())=K1 z) (hset:v6 TC y [i] ⟨T1,z.2⟩=K1 y1) {e0:Lc} (hb2:a.eval (.tmp 2)=.pointer (K1 ⟨blk,0,K2⟩)) (hblk:w.heap[blk]? =K1 (.cells vs.toArray e0 (0,0))) (hbL:blk∉L)
  (hk1:a.eval (.tmp 1)=.int .i64 kk) {rid:Nat}
  (hQ:∀a' w' L',a'.tmps.size=a.tmps.size->a'.defers=a.defers->(∀t,t≠t0->t≠t1->t≠t2->t≠t3->t≠1->a'.eval (.tmp t)=a.eval (.tmp t))->a'.eval (.tmp 1)=.int .i64 z.1.1->rd w' X 0 .an TC y1 vs L'->L'.Nodup->(∀b∈L',(b∈L\/w.heap.size<=b)/\b<w'.heap.size)->
   w'.os=w.os->w'.tape=w.tape->w'.output=w.output->w.heap.size<=w'.heap.size->(∀b,b<w.heap.size->b∉L->w'.heap[b]? =w.heap[b]?)->Q .normal a' w'):(Lh.region rid ops La).wp P Q a w:=by
 obtain⟨o0,o1,o2,o3,o4,x,⟨g0,d0,p0⟩,⟨g1,d1,p1⟩,⟨g2,d2,p2⟩,⟨g3,d3,a3,p3⟩,g4,d4,p4⟩:=ho.ex;obtain⟨s0,s1,s2,s3,s4⟩:=hlt;obtain⟨x1,x2,x3,x4,x5,x6,x7,x8,x9,a4,a5⟩:=hne;have A:=GC hs1;have hU:UL TC i=K1 T1:=by
  grind[ap,D7]
 have B:Pr w X 0 TC (.u .an) y vs L:=Aq
 obtain⟨pre,a6,C,q,D,r,V,rfl,m3,U,m5⟩:=Vf hy B;rw[NG]at U;unfold Pr at U;obtain⟨v,rfl,a7⟩:=Qqq U A;have E:D.Nodup:=Ag
 have n:=hok.calls w X D l1 z.2 (kk,()) z.1 [v] [.int .i64 kk] hg hgx hXl (λb c=>hLX b (by simp[c])) E U ⟨[.int .i64 kk],[],rfl,⟨rfl,rfl⟩,rfl⟩ hF;have s:∀{a2:Act}{d k:Nat}{v:K3},d≠k->(a2.put (K1 d) v).eval (.tmp k)=a2.eval (.tmp k):=λh=>by rw[jX,if_neg h]
 have H:∀{a2:Act}{d:Nat}{v:K3},d<a2.tmps.size->(a2.put (K1 d) v).eval (.tmp d)=v:=λW=>by rw[jX,if_pos rfl,if_pos W]
 have I:Yh T1 [v]=v:=by cases T1<;>first|rfl|simp[Ty.isAgg]at hs1
 refine wp_region_list ?_;rw[x];refine bt g0 (IJ hTC hU p0 hb2) ?_;rw[d0];refine bt g1 (IZ hT1 p1 (H s0) (vs:=[v]) A.symm (λu y hu=>by
  rw[cY w hblk,<-Array.getElem?_toList]
  grind)) ?_
 rw[d1,I];refine bt g2 (v':=.int .i64 kk) (w':=w) (by grind[execOp,Lq]) ?_;rw[d2];refine wpList_plain g3 λK Y=>?_;unfold Mv;rw[RA hok.enters Qwn p3,Le.upon_enter];have o:(List.map ((((a.put (K1 t0) (.pointer (K1 ⟨blk,Yn TC [i],K2⟩))).put (K1 t1) v).put (K1 t2) (.int .i64 kk)).eval) [.tmp t1,.tmp t2])=[Yh T1 [v],.int .i64 kk]:=by
  simp only[Nj,List.map_nil];rw[s (Lo x6),H Au,H Au,I]
 rw[o];refine n.mono λen w' ⟨rs,L',Z,J,a1,m,ab,W,h2,h3,h4,h5⟩=>?_;subst Z;refine Y _ _ ?_;rw[d3];obtain⟨cs,us,a8,be,rfl,hT,⟨rfl,rfl⟩,rfl,rfl⟩:=J;refine bt g4 (v':=.int .i64 z.1.1) (w':=w') (by simp only[execOp,p4,Lq];rw[H (by grind[uj])];rfl) ?_;rw[d4];have ad:∀b,b∈q\/b∈r->b∉D:=λb c hb2=>by
  grind
 have bl:∀b∈q++(D++r),b<w.heap.size:=λb c=>(xR hrd b c).2;have hX:∀b,X b->w'.heap[b]? =w.heap[b]? :=λb c=>h5 b (hXl b c) λhm=>hLX b (by simp[hm]) c
 
 have e:=m5 .d ⟨T1,l1⟩ [v] [] y (Ch hy) (by unfold Pr;grind);rw[<-V]at e;have l:=vv (X':=X) (λ_ h=>h) hX e (λb c=>by
  grind)
 obtain⟨M,m2,q2,N,V2,O,r1,r2,r3,r4,r5⟩:=Vf hy l;rw[Eg]at r4;unfold Pr at r4;obtain⟨bx,_,rfl⟩:=r4;have qX:=r5 (.u .an) ⟨T1,z.2⟩ [v] L' y1 hset Aq;rw[I0]at qX;have j:=AZ (EE (b:=.an) (f:=.u .an) (g:=.u .an) rfl rfl [i]) qX;have ar:M=pre/\q2=C:=by
  have b0:M.length=pre.length:=by rw[r3,m3]
  rw[V]at r1;have b1:m2.length=[v].length:=Ag
  grind[List.append_inj]
 obtain⟨rfl,rfl⟩:=ar;rw[<-V]at j;simp only[Nl]at r2;have p:∀b,b∈N\/b∈O↔b∈q\/b∈r:=λb=>by
  have:b∈N++O↔b∈q++r:=by rw[r2]
  simpa using this
 have S:(N++(L'++O)).Nodup:=by
  rw[List.nodup_iff_count]at hLn m⊢;intro u;have c1:=hLn u;have c2:Mg u N+Mg u O=Mg u q+Mg u r:=by
   rw[<-Mq,<-Mq,r2]
  have c3:=m u;simp only[Mq]at c1⊢;by_cases au:u∈L'
  ·rcases(ab u au).1 with h6|h6
   ·grind
   grind
  grind
 refine hQ _ w' (N++(L'++O)) (by simp[uj]) (by simp[Act.put]) (λt q0 q1 q2 q3 q4=>by rw[s (Lo q4),s (Lo q3),s (Lo q2),s (Lo q1),s (Lo q0)]) (H Au) j S (λb c=>?_) W h2 h3 h4 (λb c hm=>h5 b c λh=>hm (by simp[h]));simp only[Mr]at c;have:=p b;have a0:b∈L'\/b∈q++(D++r):=Ag
 rcases a0 with hk|hk
 ·grind
 grind
def Qnc{T:Ty}{us:List K3}(h:Yh T vs=Yh T us)(h1:∀u∈vs,u.oneCell'=K4)(h2:∀u∈us,u.oneCell'=K4)(l1:vs.length=T.size)(l2:us.length=T.size):vs=us:=by grind[RU]
def oL.of{e:CN}(hC:C.ok P g)(hsf:C.soft=false:=by rfl)(hlent:C.pQ=[0])(hfa:YL e.args=K4)(hfr:YL e.res=K4)(hf:P.funcs[e.f]? =K1 fn)(hb:fn.body=K1 c)(hcall:∀args w,(callFunc e.f args).run P w=.ok (.enter e.f args) w)
  (hn:e.args.length+1<=fn.ntmps) (A:An (J6 e.res×e.T.den)) (hA:Vx C fn.ntmps c A (O2 C.τ e fn.results.toList))
  (hF:∀y xs r,e.F y xs=K1 r->Kz C fn.ntmps c A (O2 C.τ e fn.results.toList) (TY e y xs)=K1 r):oL P g e where
 flatR:=hfr
 enters:=hcall
 calls:=λw X L y G xs r D a H I J K M o N hr=>by
  have hx:=Dn (X':=X) hfa N;have hl:=Ec hx;have t:∀b∈L,b<w.heap.size:=λb hb=>(xR o b hb).2;refine calls_of_wp hf hb ?_;obtain⟨v,hv⟩:∃v,v=Yh e.T D:=⟨_,rfl⟩
  rw[<-hv]
  let a0:Act:={tmps:=(v::a).toArray++Array.replicate (fn.ntmps- (v::a).toArray.size) undef,defers:=[]}
  let z:bu g:={W:=w,B:=0,Y:=λb=>b<w.heap.size/\b∉L,L:=(· ∈L),X0:=X,fix:=[(0,v)],bB:=Mt _,fr:=λe=>Lx ((hC.soft.trans hsf).symm.trans e),yW:=λ_ h=>h.1,yL:=λ_ h O=>h.2 O}
  have ar:a0.tmps.toList=(v::a)++Nn (fn.ntmps- (v::a).toArray.size) undef:=by simp[a0]
  have au:Qw z.gh a0 (.m 0)=v:=by
   grind[Qw,uI]
  have Q:a0.tmps.toList.take (([v]:List K3).length+a.length)=[v]++a:=by
   grind
  have h0:R fn.ntmps z w X (λk=>ite (k=.m 0) L []) [] (TY e y xs) a0:=by
   have a1:=λk=>F4 (W0:=z) (s:=TY e y xs) (F:=λk=>ite (k=.m 0) L []) a0 (pre:=[v]) (i:=1) hx rfl Q k;have x:∀k,(TY e y xs).get k=ite (A4.m 0=k) (.val e.T (.u .an) y) (ma (Cu e.args xs 1) k):=λk=>Qd _ _ _ _;exact
    {size:=by simp[a0];omega
     defers:=rfl
     below:=⟨rfl,rfl,rfl,Lf _,λ_ _=>rfl⟩
     glob:=H
     gx:=I
     xs:=λe=>Lx ((hC.soft.trans hsf).symm.trans e)
     fix:=λp U=>by
      grind[TY]
     xlt:=J
     xin:=λb hb=>.inl hb
     x0:=λb hb=>hb
     own:=λk b hb=>by
      split at hb
      ·exact⟨.inr hb,t b hb,K b hb⟩
      ·cases hb
     nodup:=λk=>by split;exact M;simp
     pS:=λk k' b hb a2=>by
      simp_all
     hown:=Ac
     pK:=Ac
     pL:=Ac
     pM:=λd i hc=>by
      simp_all
     slots:=λk=>by
      rw[x];by_cases hk:A4.m 0=k
      ·subst hk;simp only[if_true];exact⟨D,Af,Aq⟩
      grind}
  refine wp_mono (QS hC (λp U=>Ag) hA (hF y xs (r,G) hr) h0) λex a' n U=>?_;obtain⟨s',X',F',hk,j⟩:=U;have fin:O2 C.τ e fn.results.toList .ret s'=K1 (r,G)->a'.defers=[]/\ ∃v',(results fn a'.tmps).run P n=.ok v' n/\ ∃E L',Mf v'=.returned (J7 E)/\VD n 0 e.res r E []/\rd n X 0 .an e.T G D L'/\L'.Nodup/\(∀b∈L',(b∈L\/w.heap.size<=b)/\b<n.heap.size)/\
    n.os=w.os/\n.tape=w.tape/\n.output=w.output/\w.heap.size<=n.heap.size/\ ∀b,b<w.heap.size->b∉L->n.heap[b]? =w.heap[b]? :=by
   intro hk;simp only[O2]at hk;split at hk
   ·rename_i T f u hg;split at hk
    ·rename_i l2 r2 V Z ab;simp only[pB,pF]at hk;obtain⟨rfl,rfl⟩:=hk;obtain⟨E,S,k1,k2,k3,_⟩:=JR rfl hC.τ j ab;have hs:=j.slots (.m 0);rw[hg]at hs;obtain⟨us,h1,q⟩:=hs;obtain⟨rfl,rfl⟩:=iy Z;have q:=bD V q;unfold Pr at q;have l:=(j.fix (0,v) (by simp[z])).2;simp only at l;rw[h1,hv]at l;have ad:us=D:=Qnc l (kd q) (kd o) (X9 q) (X9 o);subst ad;refine⟨j.defers,_,qv k1,E,F' (.m 0),rfl,TD hfr k2,vB q,j.nodup _,λb hb=>?_,j.below.os,j.below.tape,j.below.output,j.below.size,λb hb O=>j.below.block b ⟨hb,O⟩⟩;have:=j.own _ b hb;exact⟨this.1.elim .inr .inl,this.2.1⟩
    ·cases hk
   ·cases hk
  cases ex with
  |normal=>exact fin hk
  |ret=>exact fin hk
  |_=>simp[O2]at hk
def oL.two{f1 f2:Lz}{TC T2:Ty}{eS1 eS2:Lc}{F:TC.den->J6 [.int .i64]->Option (J6 [.int .i64]×TC.den)}{F2:T2.den->J6 [.int .i64]->Option (J6 [.int .i64]×T2.den)}
  (hTC:Fs P eC TC) (hT1:Fs P eS1 T1) (hT2:Fs P eS2 T2) (hs1:T1.isAgg=La) (hs2:T2.isAgg=La) (hok1:oL P g {f:=f1,T:=T1,args:=[.int .i64],res:=[.int .i64],F:=F1}) (hok2:oL P g {f:=f2,T:=T2,args:=[.int .i64],res:=[.int .i64],F:=F2})
  {r0 r1 r2 r3:Nat}{p0 p1 p2 p3:Array Le} (hf:P.funcs[f]? =K1 fn) (hb:fn.body=K1 (.seq (.region r0 p0 La) (.seq (.region r1 p1 La) (.seq (.region r2 p2 La) (.seq (.region r3 p3 La) .ret))))) (hcall:∀args w,(callFunc f args).run P w=.ok (.enter f args) w)
  (hn:fn.ntmps=14) (hres:fn.results.toList=[.tmp 4]) (o0:Qos eC p0) (o1:BB eC i eS1 f1 5 6 7 8 p1) (o2:BB eC j eS2 f2 9 10 11 12 p2) (o3:Qs7 p3)
  (hF:∀y k r,F y (k,())=K1 r-> ∃l1 z1 y1 l2 z2 y2,ap TC y [i]=K1 ⟨T1,l1⟩/\F1 l1 (k,())=K1 z1/\v6 TC y [i] ⟨T1,z1.2⟩=K1 y1/\ap TC y1 [j]=K1 ⟨T2,l2⟩/\F2 l2 (z1.1.1,())=K1 z2/\v6 TC y1 [j] ⟨T2,z2.2⟩=K1 y2/\r=(z2.1,y2)):
  oL P g {f:=f,T:=TC,args:=[.int .i64],res:=[.int .i64],F:=F} where
 flatR:=rfl
 enters:=hcall
 calls:=λw X L y y' xs r vs a6 O l x z Q A S hr=>by
  obtain⟨(k:Int),u⟩:=xs;obtain⟨cs,us,rfl,⟨rfl,_⟩,rfl⟩:=S;obtain⟨l1,z1,y1,l2,z2,y2,U,V,f3,f4,f5,f6,e9⟩:=hF y k (r,y') hr;simp only[pF]at e9;obtain⟨rfl,rfl⟩:=e9;refine calls_of_wp hf hb ?_;have B:∃m:Act,m.tmps.size=14/\m.defers=[]/\m.eval (.tmp 0)=Yh TC vs/\m.eval (.tmp 1)=.int .i64 k/\m={tmps:=[Yh TC vs,.int .i64 k].toArray++Array.replicate (fn.ntmps- [Yh TC vs,.int .i64 k].toArray.size) undef,defers:=[]}:=
   ⟨_,by rw[hn];simp,rfl,by rw[hn];rfl,by rw[hn];rfl,rfl⟩
  obtain⟨m,a8,W,h0,h1,Y⟩:=B;have e1:∀{o:Act}{d k:Nat}{v:K3},d≠k->(o.put (K1 d) v).eval (.tmp k)=o.eval (.tmp k):=λh=>by rw[jX,if_neg h]
  have e2:∀{o:Act}{d:Nat}{v:K3},d<o.tmps.size->(o.put (K1 d) v).eval (.tmp d)=v:=λh1=>by rw[jX,if_pos rfl,if_pos h1]
  refine Eq.mp (congrArg (λa=>Ma P _ _ a w) Y) ?_;obtain⟨q0,q1,p,⟨g0,d0,b0⟩,g1,d1,b1⟩:=o0.ex;refine wp_seq (wp_region_list ?_);rw[p];refine bt g0 (v':=.pointer (K1 ⟨w.heap.size,0,K2⟩)) (w':=w.alloc (.cells vs.toArray eC)) ?_ ?_
  ·have hc:(m.eval (.tmp 0)).cells=vs.toArray:=by grind[OE,kd,X9]
   simp[execOp,b0,Instr.box,newVar,newRow,hc]
  rw[d0];obtain⟨w1,c⟩:∃w1,w1=w.alloc (.cells vs.toArray eC):=⟨_,rfl⟩
  rw[<-c];refine bt g1 (v':=.int .i64 0) (w':=w1) (by simp only[execOp,b1,Lq];rfl) ?_;rw[d1];obtain⟨q,C⟩:∃q,q=(m.put (K1 2) (.pointer (K1 ⟨w.heap.size,0,K2⟩))).put (K1 4) (.int .i64 0):=⟨_,rfl⟩
  rw[<-C];have n:q.tmps.size=14:=Au
  have D:q.eval (.tmp 2)=.pointer (K1 ⟨w.heap.size,0,K2⟩):=Ag
  have E:q.eval (.tmp 1)=.int .i64 k:=Ag
  have Z:q.defers=[]:=by rw[C];exact W
  have e:∀b,b<w.heap.size->w1.heap[b]? =w.heap[b]? :=λb hb=>by grind[hold]
  have s:w1.heap[w.heap.size]? =K1 (.cells vs.toArray eC (0,0)):=by grind[qX]
  have K:w1.heap.size=w.heap.size+1:=by rw[c];simp
  have ab:∀b∈L,b<w.heap.size:=λb hb=>(xR A b hb).2;have H:g.G w1:=g.stays _ _ O λb hb=>e b (x b (l b hb));have I:rd w1 X 0 .an TC y vs L:=Wy (λ_ h=>h) (λb hb=>e b (x b hb)) A λb hb=>e b (ab b hb);show Ma P _ _ q w1;refine wp_seq ?_;refine FJ hTC hT1 hs1 hok1 o1 (by rw[n];decide) Ah H l (λb hb=>Ag) z Q I U V f3 D s (λh=>Ag) E λo w2 L2 c1 c2 c3 c4 c5 c6 c7 c8 c9 ad be ar=>?_;have J:∀b∈L2,¬X b:=λb hb hx=>by
   grind
  have au:w2.heap[w.heap.size]? =K1 (.cells vs.toArray eC (0,0)):=Ag
  have a4:g.G w2:=g.stays _ _ H λb hb=>ar b Ag (λh=>z b h (l b hb));show Ma P _ _ o w2;refine wp_seq ?_;refine FJ hTC hT2 hs2 hok2 o2 Aa Ah a4 l (λb hb=>Ag) J c6 c5 f4 f5 f6 Ag au (λh=>by
   grind) c4 λM N L3 t1 t2 t3 t4 t5 t6 t7 t8 t9 a5 bl bx=>?_
  obtain⟨q2,q3,t,⟨g2,d2,b2⟩,g3,d3,b3⟩:=o3.ex;have a7:M.tmps.size=14:=by rw[t1,c1,n]
  show Ma P _ _ M N;refine wp_seq (wp_region_list ?_);rw[t];refine bt g2 (v':=.int .i64 z2.1.1) (w':=N) (by grind[execOp,Lq]) ?_;rw[d2];refine bt g3 (v':=.int .i64 z2.1.1) (w':=N) (by simp only[execOp,b3,Lq];grind) ?_;rw[d3];show Ma P _ _ _ N;refine wp_ret ⟨?_,_,qv (vs:=[.int .i64 z2.1.1]) ?_,[.int .i64 z2.1.1],L3,rfl,⟨[.int .i64 z2.1.1],[],[],[],rfl,rfl,⟨rfl,rfl⟩,rfl,rfl⟩,t5,t6,λb hb=>⟨?_,(t7 b hb).2⟩,?_,?_,?_,?_,λb hb hm=>?_⟩
  ·show M.defers=[]
   rw[t2,c2,Z]
  ·rw[hres];have:((M.put (K1 13) (.int .i64 z2.1.1)).put (K1 4) (.int .i64 z2.1.1)).tmps.getD 4 undef=.int .i64 z2.1.1:=e2 Au
   grind[rY,Lq]
  ·grind
  ·rw[t8,c8,c];rfl
  ·rw[t9,c9,c];rfl
  ·rw[a5,ad,c];rfl
  all_goals grind
end
def Up:EI.ok [] P g:=λ_ h=>by cases h
def Gk{e:CN}{Γ:EI}(h:oL P g e)(hs:EI.ok Γ P g):EI.ok (e::Γ) P g:=λa he=>by
 rcases Li.1 he with rfl|he
 ·exact h
 ·exact hs a he
def NU:List (Nat×Ty)->Nat->Option Ty
 |[],_=>K2
 |(k,t)::r,e=>match Ld k e with|true=>K1 t|false=>NU r e
def Xr(fn:Func):Lh:=match fn.body with|some c=>c|none=>.skip
section
variable {P:Lg}
def z7(P:Lg)(l:List (Nat×Ty)):Prop:= ∀e T,NU l e=K1 T->Fs P e T
def Qqz:z7 P []:=λ_ _ h=>by cases h
def Y5{e:Nat}{T:Ty}{l:List (Nat×Ty)}(h:Fs P e T)(hl:z7 P l):z7 P ((e,T)::l):=λb c a=>by
 simp only[NU]at a;split at a
 ·simp_all
 ·exact hl b c a
def Ta(P:Lg)(τ:vJ)(l:List Nat):Prop:= ∀e T,l.any (Ld e)=K4->τ e=K1 T->EV P e T
def Qpl:Ta P τ []:=λ_ _ h _=>by cases h
def Da{e:Nat}{T:Ty}{l:List Nat}(h:EV P e T)(hT:τ e=K1 T)(hl:Ta P τ l):Ta P τ (e::l):=λb c h' a=>by
 simp only[Na,Bool.or_eq_true]at h';rcases h' with h'|h'
 ·simp_all
 ·exact hl b c h' a
def Qk:la.ok [] P g:=λ_ h=>by cases h
def UD{e:GE}{Γ:la}(h:E5 P g e)(hΓ:Γ.ok P g):la.ok (e::Γ) P g:=λa h'=>by
 rcases Li.1 h' with rfl|h'
 ·exact h
 ·exact hΓ a h'
def Zd:E7.ok [] P g:=λ_ h=>by cases h
def Q5{e:A9}{Γ:E7}(h:gZ P g e)(hΓ:Γ.ok P g):E7.ok (e::Γ) P g:=λa h'=>by
 rcases Li.1 h' with rfl|h'
 ·exact h
 ·exact hΓ a h'
def Xa:qM.ok [] P g:=λ_ h=>by cases h
def Qi{e:oq}{Γ:qM}(h:Y2 P g e)(hΓ:Γ.ok P g):qM.ok (e::Γ) P g:=λa h'=>by
 rcases Li.1 h' with rfl|h'
 ·exact h
 ·exact hΓ a h'
def Zg:Ur.ok [] P g:=λ_ h=>by cases h
def Za{e:LR}{Γ:Ur}(h:Wz P g e)(hΓ:Γ.ok P g):Ur.ok (e::Γ) P g:=λa h'=>by
 rcases Li.1 h' with rfl|h'
 ·exact h
 ·exact hΓ a h'
end
open Go.RowKit Go.ChangeShapes Go.WideShapes Go.ChangeAt
open Go.ChangeMaps (open_string shut_string)
def W3(P:Lg):Ty->Lc->List Field->Nat->Bool->Bool
 |.int k,e,_,_,K4=>match P.underlying e with|some (.int k')=>Ls (k'=k)&&Ld (P.cellsOf e) 1|_=>La
 |.bool,e,_,_,K4=>match P.underlying e with|some .bool=>Ld (P.cellsOf e) 1|_=>La
 |.str,e,_,_,K4=>match P.underlying e with|some .string=>Ld (P.cellsOf e) 1|_=>La
 |.fnc _,_,_,_,_=>La
 |.err,_,_,_,_=>La
 |.hid _,_,_,_,_=>La
 |.sptr ..,_,_,_,_=>La
 |.clo ..,_,_,_,_=>La
 |.slice e' t,e,_,_,K4=>match P.underlying e with
  |some (.slice e2)=>Ld e2 e'&&Ld (P.cellsOf e) 1&&Ld (P.cellsOf e') t.size&&Lp 0 t.size&&W3 P t e' [] 0 K4
  |_=>La
 |.arr n t,e,_,_,K4=>match P.underlying e with
  |some (.array m e2)=>Ld m n&&Ld (P.cellsOf e) (n*t.size)&&Ld (P.cellsOf e2) t.size&&W3 P t e2 [] 0 K4
  |_=>La
 |.unit,e,_,_,K4=>match P.underlying e with
  |some (.struct fs)=>fs.toList.isEmpty&&Ld (P.cellsOf e) 0
  |_=>La
 |.pair a b,e,_,_,K4=>match P.underlying e with
  |some (.struct fs)=>match fs.toList with
   |f::r=>Ld (P.cellsOf e) (a.size+b.size)&&Ld f.offset 0&&Ld (P.cellsOf f.type) a.size&&W3 P a f.type [] 0 K4&&W3 P b 0 r a.size La
   |[]=>La
  |_=>La
 |.unit,_,fs,_,La=>fs.isEmpty
 |.pair a b,_,fs,off,La=>match fs with
  |f::r=>Ld f.offset off&&Ld (P.cellsOf f.type) a.size&&W3 P a f.type [] 0 K4&&W3 P b 0 r (off+a.size) La
  |[]=>La
 |_,_,_,_,La=>La
def wf:(T:Ty)->T.den->Prop|.unit,_=>True|.int k,x=>(Lit.int k x).wf=K4|.bool,_=>True|.fnc _,_=>True|.err,_=>True|.hid _,_=>True|.sptr ..,_=>True|.clo ..,_=>True|.str,x=>x.length<=maxLen|.slice _ t,x=>x.length<=maxLen/\ ∀y∈x,wf t y|.pair a b,x=>wf a x.1/\wf b x.2|.arr n t,x=>x.length=n/\ ∀y∈x,wf t y
section
variable {H:Type}{enc:Lc×K3->H}{P:Lg}{w:Lb}{sp:Nat->Bool}{held:Bool}
def zT{α:Type}{r:α->List K3->List Nat->Prop}{q:α->Prop}{sz:Nat}:∀{n:Nat}{cs:List K3},cs.length=n*sz->
  (∀i,i<n-> ∃x,r x ((cs.drop (i*sz)).take sz) []/\q x)-> ∃l,l.length=n/\cS r l cs []/\ ∀y∈l,q y
 |0,cs,a,_=>⟨[],rfl,⟨by simpa using a,rfl⟩,Ac⟩
 |n+1,cs,a,h=>by
  obtain⟨x,hx,b⟩:=h 0 Aa;obtain⟨l,c,d,e⟩:=zT (cs:=cs.drop sz) (n:=n) (sz:=sz) Ag (λi f=>by
   obtain⟨x,hx,b⟩:=h (i+1) Aa;refine⟨x,?_,b⟩;rw[Nf];rw[show sz+i*sz=(i+1)*sz from by grind];exact hx)
  refine⟨x::l,by simp[c],⟨cs.take sz,cs.drop sz,[],[],Ac,rfl,by simpa using hx,d⟩,?_⟩;simp_all
def Iw:∀(T:Ty),
  (∀(e:Lc)(fs:List Field)(off fuel:Nat)(cs:List K3)(x:DataW H×List MemPlace),W3 P T e fs off K4=K4->L4 enc P w 0 sp held fuel e cs=K1 x->
   ∃v:T.den,rd w (· <w.heap.size) 0 .sh T v cs []/\wf T v)/\
  (∀(fs:List Field)(off:Nat)(cs:List K3),W3 P T 0 fs off La=K4->cs.length=off+T.size->
   (∀(i:Nat)(f:Field),fs[i]? =K1 f-> ∃(n:Nat) (x:DataW H×List MemPlace),L4 enc P w 0 sp held n f.type ((cs.drop f.offset).take (P.cellsOf f.type))=K1 x)->
   ∃v:T.den,rd w (· <w.heap.size) 0 .sh T v (cs.drop off) []/\wf T v)
 |.int k=>by
   refine⟨λe fs off fuel cs x c h=>?_,λfs off cs c=>Ap⟩;simp only[W3]at c;split at c
   ·rename_i k' hk;simp only[pC,decide_eq_true_eq]at c;obtain⟨rfl,_⟩:=c;obtain⟨n,rfl,_,O⟩:=DataW.trod_int hk h;exact⟨n,⟨rfl,rfl⟩,O⟩
   ·cases c
 |.bool=>by
   refine⟨λe fs off fuel cs x c h=>?_,λfs off cs c=>Ap⟩;simp only[W3]at c;split at c
   ·rename_i hk;obtain⟨n,rfl,_⟩:=DataW.trod_bool hk h;exact⟨n,⟨rfl,rfl⟩,trivial⟩
   ·cases c
 |.fnc _=>⟨λe fs off fuel cs x c h=>Ap,λfs off cs c=>Ap⟩
 |.err=>⟨λe fs off fuel cs x c h=>Ap,λfs off cs c=>Ap⟩
 |.hid _=>⟨λe fs off fuel cs x c h=>Ap,λfs off cs c=>Ap⟩
 |.sptr .. =>⟨λe fs off fuel cs x c h=>Ap,λfs off cs c=>Ap⟩
 |.clo .. =>⟨λe fs off fuel cs x c h=>Ap,λfs off cs c=>Ap⟩
 |.str=>by
   refine⟨λe fs off fuel cs x c h=>?_,λfs off cs c=>Ap⟩;simp only[W3]at c;split at c
   ·rename_i hk;obtain⟨s,rfl,_,hs⟩:=M5 hk h;exact⟨s.data.toList,⟨rfl,rfl⟩,by simp_all[wf]⟩
   ·cases c
 |.unit=>by
   refine⟨λe fs off fuel cs x c h=>?_,λfs off cs c A _=>⟨(),⟨by simp_all[Ty.size],rfl⟩,trivial⟩⟩;simp only[W3]at c;split at c
   ·rename_i Q hk;simp only[pC]at c;obtain⟨xs,n,_,_,A,_⟩:=M6 hk h;rw[pD c.2]at A;exact⟨(),⟨Ng A,rfl⟩,trivial⟩
   ·cases c
 |.slice e' t=>by
   refine⟨λe fs off fuel cs x c h=>?_,λfs off cs c=>Ap⟩;simp only[W3]at c;split at c
   ·rename_i M hk;simp only[pC,Mj]at c;obtain⟨⟨⟨⟨y,D⟩,z⟩,C⟩,S⟩:=c;have y:=pD y;subst y;have z:=pD z;rcases DataW.trod_slice hk h with⟨rfl,_⟩|⟨a,d,U,G,ab,n,_,rfl,_,hb,ad,V,ar,W,_,_⟩
    ·exact⟨[],⟨_,[],[],[],rfl,rfl,⟨rfl,Ac,K2,0,rfl,Lf _,by simp[maxLen],.inl ⟨rfl,rfl,rfl⟩⟩,rfl,rfl⟩,by simp[wf]⟩
    ·
     have B:∀i,i<d-> ∃cs,w.cells? 0 (a.add (i*t.size)) t.size=K1 cs/\ ∃v:t.den,rd w (· <w.heap.size) 0 .sh t v cs []/\wf t v:=by
      intro i E;have L:=W i E;rw[z]at L;have:i<G.length:=Aa
      rw[Ni this,Option.bind_eq_some_iff]at L;obtain⟨cs,o,hx⟩:=L;exact⟨cs,o,(Iw t).1 _ _ _ _ _ _ S hx⟩
     have I:∀i j,i<d->j<t.size-> ∃u,w.cell? (a.add (i*t.size+j))=K1 u:=by
      intro i j E hj;obtain⟨cs,o,_⟩:=B i E;obtain⟨_,h7,h8⟩:=Nv o;simp_all[Lk.add_add]
     let all:List K3:=(List.range (d*t.size)).map λm=>(w.cell? (a.add m)).getD undef
     have F:all.length=d*t.size:=by simp[all]
     have N:∀m u,all[m]? =K1 u->w.cell? (a.add m)=K1 u:=by
      intro m u hu;have hm:m<d*t.size:=Ag
      have X:m/t.size<d:=Nat.div_lt_of_lt_mul Ag;obtain⟨u',J⟩:=I (m/t.size) (m%t.size) X (Nat.mod_lt _ C);rw[Nat.mul_comm,Nat.div_add_mod]at J;simp only[all,List.getElem?_map,List.getElem?_range hm,Option.map_some,pB,J,Option.getD_some]at hu;rw[<-hu];exact J
     obtain⟨l,K,M,Y⟩:=zT (r:=rd w (· <w.heap.size) 0 .sh t) (q:=wf t) F (λi E=>by
      obtain⟨cs,o,v,hv,O⟩:=B i E;refine⟨v,?_,O⟩;have:(all.drop (i*t.size)).take t.size=cs:=by
       obtain⟨_,h7,h8⟩:=Nv o;apply Nh;intro j;rw[List.getElem?_take];split
       ·rename_i hj;rw[List.getElem?_drop,<-h8 j hj,Lk.add_add];have hm:i*t.size+j<d*t.size:=by
         have:(i+1)*t.size<=d*t.size:=Nat.mul_le_mul_right _ E
         grind
        simp_all
       simp_all
      simp_all)
     refine⟨l,⟨_,all,[],[],rfl,rfl,⟨rfl,by rw[F,K],K1 a,U,by rw[K],Aa,V,.inr ⟨a,rfl,?_,N⟩⟩,M⟩,by rw[K];omega,Y⟩;rw[K];rcases Nat.eq_zero_or_pos d with h0|h0
     ·exact .inl h0
     ·obtain⟨cs,o,_⟩:=B 0 h0;right;have:=Lb.cells?_block o C;simp_all[Lk.add_zero']
   ·cases c
 |.arr n t=>by
   refine⟨λe fs off fuel cs x c h=>?_,λfs off cs c=>Ap⟩;simp only[W3]at c;split at c
   ·rename_i m M hk;simp only[pC]at c;obtain⟨⟨⟨y,D⟩,z⟩,C⟩:=c;have y:=pD y;subst y;have z:=pD z;obtain⟨xs,q,_,_,A,Z,hx⟩:=DataW.trod_array hk h;rw[pD D]at A;obtain⟨l,K,M,Y⟩:=zT (r:=rd w (· <w.heap.size) 0 .sh t) (q:=wf t) A (λi E=>by
     have L:=hx i E;rw[z,Ni Aa]at L;exact(Iw t).1 _ _ _ _ _ _ C L)
    exact⟨l,⟨K,M⟩,K,Y⟩
   ·cases c
 |.pair a b=>by
  have p:∀(f:Field)(r:List Field)(off:Nat)(cs:List K3),Ld f.offset off=K4->Ld (P.cellsOf f.type) a.size=K4->W3 P a f.type [] 0 K4=K4->W3 P b 0 r (off+a.size) La=K4->
    cs.length=off+(a.size+b.size)->(∀(i:Nat)(g:Field),(f::r)[i]? =K1 g-> ∃(n:Nat) (x:DataW H×List MemPlace),L4 enc P w 0 sp held n g.type ((cs.drop g.offset).take (P.cellsOf g.type))=K1 x)->
    ∃v:(Ty.pair a b).den,rd w (· <w.heap.size) 0 .sh (.pair a b) v (cs.drop off) []/\wf (.pair a b) v:=by
   intro f r off cs y D z C A hx;obtain⟨n,x,hf⟩:=hx 0 f rfl;rw[pD y,pD D]at hf;obtain⟨va,ha,wa⟩:=(Iw a).1 _ _ _ _ _ _ z hf;obtain⟨vb,hb,wb⟩:=(Iw b).2 r (off+a.size) cs C Aa (λi g hg=>hx (i+1) g (by simpa using hg));refine⟨(va,vb),⟨(cs.drop off).take a.size,cs.drop (off+a.size),[],[],?_,rfl,ha,hb⟩,wa,wb⟩;rw[<-Nf,List.take_append_drop]
  refine⟨λe fs off fuel cs x c h=>?_,λfs off cs c A hx=>?_⟩
  ·simp only[W3]at c;split at c
   ·rename_i Q hk;split at c
    ·rename_i f r au;simp only[pC]at c;obtain⟨⟨⟨⟨y,D⟩,z⟩,C⟩,S⟩:=c;obtain⟨xs,q,_,_,A,Z,hx⟩:=M6 hk h;rw[pD y]at A;have:=p f r 0 cs D z C (by simpa using S) Aa (λi g hg=>by
      grind)
     simpa using this
    ·cases c
   ·cases c
  ·simp only[W3]at c;split at c
   ·rename_i f r;simp only[pC]at c;obtain⟨⟨⟨y,D⟩,z⟩,C⟩:=c;exact p f r off cs y D z C A hx
   ·cases c
end
open Go.RowKit Go.ChangeShapes Go.WideShapes Go.ChangeAt
def KP(P:Lg):List Lc->List Ty->Bool|[],[]=>K4|e::es,T::Ts=>W3 P T e [] 0 K4&&P.readableRec e&&Lp e P.types.size&&KP P es Ts|_,_=>La
def HU:(ts:List Ty)->J6 ts->Prop|[],_=>True|t::ts,x=>wf t x.1/\HU ts x.2
section
variable {H:Type}{enc:Lc×K3->H}{P:Lg}
def Qqe{T:Ty}{e:Lc}{fs:List Field}{off:Nat}{r:Reach}(hd:W3 P T e fs off K4=K4)(hv:L0 P w r base e v):Yh T v.cells.toList=v:=by
 cases T with
 |int k=>
  simp only[W3]at hd;split at hd
  ·rename_i hk;obtain⟨n,rfl⟩:=okWide_int hk hv;rfl
  ·cases hd
 |bool=>
  simp only[W3]at hd;split at hd
  ·rename_i hk;obtain⟨n,rfl⟩:=okWide_bool hk hv;rfl
  ·cases hd
 |fnc f=>grind[W3]
 |err=>grind[W3]
 |hid t=>grind[W3]
 |sptr e t=>grind[W3]
 |clo f t=>grind[W3]
 |str=>
  simp only[W3]at hd;split at hd
  ·rename_i hk;obtain⟨n,rfl⟩:=okWide_string hk hv;rfl
  ·cases hd
 |slice g t=>
  simp only[W3]at hd;split at hd
  ·rename_i hk;obtain⟨a,l,c,rfl⟩:=okWide_slice hk hv;rfl
  ·cases hd
 |unit=>
  simp only[W3]at hd;split at hd
  ·rename_i hk;simp only[L0,hk]at hv;obtain⟨d,rfl,_⟩:=hv;rfl
  ·cases hd
 |pair a b=>
  simp only[W3]at hd;split at hd
  ·rename_i hk;simp only[L0,hk]at hv;obtain⟨d,rfl,_⟩:=hv;rfl
  ·cases hd
 |arr n t=>
  simp only[W3]at hd;split at hd
  ·rename_i hk;simp only[L0,hk]at hv;obtain⟨d,rfl,_⟩:=hv;rfl
  ·cases hd
def Pp{W:Lb}{base:Nat}{sp:Nat->Bool}{held:Bool}:∀{es:List Lc}{Ts:List Ty}{vs:List K3}{ds:List (DataW H)}{ps:List MemPlace},KP P es Ts=K4->
  Mn enc P W 0 sp held es vs ds ps->(∀(j:Nat) t v,es[j]? =K1 t->vs[j]? =K1 v->L0 P W .any base t v)->
  (∃xs:J6 Ts,WL W (· <W.heap.size) 0 Ts xs vs/\HU Ts xs)/\ds.length=es.length
 |[],[],vs,ds,ps,_,h,_=>by
  obtain⟨rfl,rfl,rfl⟩:=trodAll_nil h;exact⟨⟨(),rfl,trivial⟩,rfl⟩
 |e::es,T::Ts,vs,ds,ps,a,h,hv=>by
  simp only[KP,pC]at a;obtain⟨v,b,d,g,p,q,rfl,rfl,rfl,i,k⟩:=trodAll_cons h;obtain⟨⟨xs,l,m⟩,n⟩:=Pp a.2 k (λj t v o c=>hv (j+1) t v (by simpa using o) (by simpa using c));obtain⟨f,r⟩:=i;obtain⟨x,s,u⟩:=(Iw T).1 _ _ _ _ _ _ a.1.1.1 r;exact⟨⟨(x,xs),⟨_,b,by rw[Qqe a.1.1.1 (hv 0 e v rfl rfl)],s,l⟩,u,m⟩,by simp[n]⟩
 |[],_::_,_,_,_,a,_,_=>by grind[KP]
 |_::_,[],_,_,_,a,_,_=>by grind[KP]
theorem Gg(hl:laidOutB P=K4){W W':Lb}{sp:Nat->Bool}(hb:Below W.heap.size W W'):∀{es:List Lc}{Ts:List Ty}{vs:List K3}{ds:List (DataW H)}{ps:List MemPlace},KP P es Ts=K4->
  Mn enc P W 0 (λ_=>K4) K4 es vs ds ps->(∀p∈ps,p.block<W.heap.size)->(∀p∈ps,sp p.block=K4)->Mn enc P W' 0 sp K4 es vs ds ps
 |[],[],vs,ds,ps,_,h,_,_=>by
  obtain⟨rfl,rfl,rfl⟩:=trodAll_nil h;exact trodAll_mk0
 |e::es,T::Ts,vs,ds,ps,a,h,b,c=>by
  simp only[KP,pC,Mj]at a;obtain⟨v,f,d,g,p,q,rfl,rfl,rfl,i,j⟩:=trodAll_cons h;exact trodAll_cons_mk (WideElems.Trod_stays hl a.1.1.2 a.1.2 i (λx hx=>hb.same (b x (by simp[hx]))) (λx hx=>c x (by simp[hx])))
   (Gg hl hb a.2 j (λx hx=>b x (by simp[hx])) (λx hx=>c x (by simp[hx])))
 |[],_::_,_,_,_,a,_,_,_=>by grind[KP]
 |_::_,[],_,_,_,a,_,_,_=>by grind[KP]
end
theorem Zr{n:Int}(h0: -9223372036854775808<=n:=by omega)(h1:n<=9223372036854775807:=by omega):Ln.wrap n=n:=IntWalk.i64_in n ⟨h0,h1⟩
theorem Zs(h:i<m:=by omega)(hm:m<=9223372036854775807:=by omega):Ln.wrap ((i:Int)+1)=((i+1:Nat):Int):=by grind[Zr]
def Zo{b:Bool}{x y:α}(h:b=K4):(cond b x y)=x:=by rw[h];rfl
def Zm{b:Bool}{x y:α}(h:b=La):(cond b x y)=y:=by rw[h];rfl
def Zl[Decidable p](h:p:=by omega):decide p=true:=decide_eq_true h
theorem Zk[Decidable p](h:¬p:=by omega):decide p=false:=decide_eq_false h
section
variable {α:Type}{d:α}
end
def BS(m:Nat):(T:Ty)->T.den->Prop|.str,x=>x.length<=m|.slice _ t,x=>x.length<=m/\ ∀y∈x,BS m t y|.pair a b,x=>BS m a x.1/\BS m b x.2|.arr _ t,x=> ∀y∈x,BS m t y|.unit,_|.int _,_|.bool,_|.fnc _,_|.err,_|.hid _,_|.sptr ..,_|.clo ..,_=>True
noncomputable def ca{ρ:Type}:Nat->Option ρ->Option ρ|0,m=>m|n+1,m=>jj m (ca n m)
def Xm{ρ:Type}:∀(n:Nat)(m:Option ρ),ca n m=m
 |0,_=>rfl
 |n+1,m=>by unfold ca;rw[Xm n m,Yb]
def Kf.vars(P:Lg)(l:List (String×(Array K3->Prop))):Kf where
 G:=λw=> ∀p∈l,∃c,w.var? P p.1=K1 c/\p.2 c
 GB:=λb=> ∃p∈l,P.globalNamed p.1=K1 b
 lt:=λw b h ⟨p,hp,hb⟩=>by
  obtain⟨c,this,_⟩:=h p hp;simp only[Ml,hb,pA]at this;split at this
  ·rename_i hg;exact(Array.getElem?_eq_some_iff.1 hg).1
  ·cases this
 stays:=λw w' h hb p hp=>by
  obtain⟨c,this,hc⟩:=h p hp;refine⟨c,?_,hc⟩;cases hg:P.globalNamed p.1 with
  |none=>simp[Ml,hg]at this
  |some b=>
   simp only[Ml,hg,pA]at this⊢;rw[hb b ⟨p,hp,hg⟩];exact this
theorem Kf.vars_get(h:(Kf.vars P l).G w)(i:Nat)(hi:i<l.length):∃c,w.var? P l[i].1=K1 c/\l[i].2 c:=h _ (List.getElem_mem hi)
def Kf.vars_eq{v:Array K3}(h:(Kf.vars P l).G w)(i:Nat)(hi:i<l.length)(h1:l[i].1=n)(h2:l[i].2=(· =v)):w.var? P n=K1 v:=by grind[Kf.vars_get]
def B1(c:Array K3):Prop:= ∃tp p,c= #[.iface tp p]
def HT(c:Array K3):Prop:= ∃m,c[0]? =K1 (.int .i64 m)
def Kf.vars_err(h:(Kf.vars P l).G w)(i:Nat)(hi:i<l.length)(h1:l[i].1=n)(h2:l[i].2=B1):∃tp p,w.var? P n=K1 #[.iface tp p]:=by obtain⟨c,a,hv⟩:=Kf.vars_get h i hi;rw[h2]at hv;obtain⟨tp,p,rfl⟩:=hv;simp_all
def Kf.vars_int(h:(Kf.vars P l).G w)(i:Nat)(hi:i<l.length)(h1:l[i].1=n)(h2:l[i].2=HT)(hb:P.globalNamed n=K1 b):∃m,w.cell? ⟨b,0,Lw⟩=K1 (.int .i64 m):=by
 obtain⟨c,a,hv⟩:=Kf.vars_get h i hi;rw[h2]at hv;obtain⟨m,d⟩:=hv
 grind[Nw]
def var?_of_cell{m:Int}(hb:P.globalNamed n=K1 b)(h:w.cell? ⟨b,0,Lw⟩=K1 (.int .i64 m)):∃c,w.var? P n=K1 c/\HT c:=by
 unfold Nt at h;cases hh:w.heap[b]? with
 |none=>simp[hh]at h
 |some a=>
  cases a with
  |cells c t d=>
   refine⟨c,by grind[Ml],m,?_⟩;simp_all
  |_=>simp[hh]at h
section
variable {P:Lg}{g:Kf}
def Wz.intStr{k:Ll}{G:Int->List UInt8}{lo hi:Int}(he:∀args w,(callFunc f args).run P w=.ok (.enter f args) w)
  (hc:∀n w,g.G w->lo<=n->n<=hi->Ly P f #[.int k n] w λe w'=>e=.returned (.string ⟨(G n).toArray⟩)/\Below w.heap.size w w'):
  Wz P g {f:=f,args:=[.int k],res:=[.str],F:=λxs=>Ze (lo<=xs.1/\xs.1<=hi) (K1 (G xs.1,()))} where
 enters:=he
 calls:=λw xs r b d hx a=>by
  obtain⟨h,m,rfl,i,rfl⟩:=hx;obtain⟨rfl,_⟩:h=[.int k xs.1]/\_:=i;obtain⟨c,a⟩:=kl.1 a;simp only[pB]at a;subst a;refine(hc xs.1 w d c.1 c.2).mono λe w' ⟨j,l⟩=>⟨[.string ⟨(G xs.1).toArray⟩],[],j,⟨[_],[],[],[],rfl,rfl,⟨rfl,rfl⟩,rfl,rfl⟩,Ac,l⟩
end
open Go.RowKit Go.ChangeShapes Go.WideShapes Go.ChangeAt
section
variable {H:Type}{enc:Lc×K3->H}{P:Lg}
def F8{w:Lb}{sp:Nat->Bool}:∀{ns:List String}{gs:List (DataW H)}{ps:List MemPlace},DataW.TrodVars enc P w sp ns gs ps->gs.length=ns.length
 |[],[],_,_=>rfl
 |[],_::_,_,h=>h.elim
 |_::_,[],_,h=>h.elim
 |_::_,_::_,_,⟨_,_,_,_,_,_,_,_,_,_,h,_⟩=>by simp[F8 h]
def Z49{fid:Lz}{args:List Ty}{F:J6 args->Option (Bool×Unit)}{f:Func}{tb:Lc}(hok:Wz P g {f:=fid,args:=args,res:=[.bool],F:=F})
  (hF:∀xs,HU args xs->F xs=K1 (K4,())) (hfn:∀(H:Type)(ds gs:List (DataW H)),ds.length=f.params.size->gs.length=s.vars.length->s.fn H (ds++gs)={results:=[.lit (.bool K4)],args:=ds,vars:=gs})
  (hl:laidOutB P=K4) (hvr:varsRowed P s.vars=K4) (hd:KP P f.params.toList args=K4) (hres:f.resultTypes= #[tb]) (htb:P.underlying tb=K1 .bool)
  (W:Lb) (base:Nat) (as:Array K3) (ds gs:List (DataW H)) (before:List MemPlace)
  (hval:∀(j:Nat) t v,f.params[j]? =K1 t->as[j]? =K1 v->L0 P W .any base t v)
  (hgl:g.G W) (hW:Mo enc P f.params.toList s.vars La W as.toList ds gs before):
  Ly P fid as W λe W'=> ∃v,e=.returned v/\s.post enc P f La fresh handsOn La W as v W':=by
 have a:=hW;have b:=hW.lt;obtain⟨p,q,i,k,rfl,l,m⟩:=hW;obtain⟨⟨xs,n,o⟩,r⟩:=Pp hd i (λj t v u hv=>hval j t v (by simpa using u) (by simpa using hv));have w:=hok.calls W xs (K4,()) as.toList hgl n (hF xs o);refine w.mono λB W' ⟨C,S,c,y,_,z⟩=>?_;obtain⟨D,E,I,J,rfl,rfl,⟨rfl,rfl⟩,rfl,rfl⟩:=y;subst c;refine⟨.bool K4,rfl,?_⟩;have d:s.fn H (ds++gs)={results:=[.lit (.bool K4)],args:=ds,vars:=gs}:=hfn H ds gs (by simpa using r) (F8 k);have A:∀x∈p,x.block<W.heap.size:=λx hx=>b x (by simp[hx]);refine⟨ds,gs,p++q,[],p,q,a,?_,?_,?_,z.frame _,λh=>by cases h⟩
 ·rw[d,hres];exact trodAll_cons_mk (shut_bool htb K4) trodAll_mk0
 all_goals grind[Gg,Below.trodVars]
end
def Gh{H:Type}(ss:List (List UInt8)):DataW H:=.agg (ss.map λs=>.lit (.string s))
def Z44{H:Type}{enc:Lc×K3->H}{sp:Nat->Bool}{held:Bool}{fuel:Nat}{t e:Lc}{n:Nat}{cs:List K3}{p:List MemPlace}
  (ht:P.underlying t=K1 (.array n e)) (he:P.underlying e=K1 .string) (hce:P.cellsOf e=1) (hct:P.cellsOf t=n)
  (h:L4 enc P w base sp held fuel t cs=K1 (Gh zs,p)):cs=zs.map λz=>L1 ⟨⟨z⟩⟩:=by
 cases fuel with
 |zero=>simp[L4]at h
 |succ fuel=>
  simp only[L4,ht,hce,hct,Nat.mul_one]at h;split at h
  ·obtain⟨a,d,hx⟩:=Mw.1 h;have c:a.map (·.1)=zs.map λz=>(DataW.lit (.string z):DataW H):=by
    simp_all[Gh]
   have f:a.length=n:=by simpa using Lib.mapM_length d
   have g:zs.length=n:=by
    have:=congrArg Lj c
    grind
   apply Nh;intro i;by_cases j:i<n
   ·obtain⟨b,k,l⟩:=Lib.mapM_at d i i (by simp[j]);obtain⟨z,m,rfl,_⟩:=M5 he l;have o:cs[i]? =K1 (.string z):=by
     have:=congrArg (·[0]?) m
     grind
    have q:(a.map (·.1))[i]? =K1 (DataW.lit (.string z.data.toList):DataW H):=by simp[k]
    simp_all
   simp_all
  ·cases h
def Z9m{rest:List (String×DataW Unit)}{g:Nat}{t e:Lc}{n:Nat}
  (hg:P.globalNamed name=K1 g) (hty:(P.globals[g]?).map (·.type)=K1 t) (ht:P.underlying t=K1 (.array n e)) (he:P.underlying e=K1 .string) (hce:P.cellsOf e=1) (hct:P.cellsOf t=n)
  (h:laidMet P ((name,Gh zs)::rest) W):W.var? P name=K1 (zs.map λz=>L1 ⟨⟨z⟩⟩).toArray:=by
 obtain⟨i,⟨j,k,l,d,p,q,b,c,a,f,_,_⟩,_⟩:=h;obtain rfl:=Mx (hg.symm.trans b);obtain rfl:=Mx (hty.symm.trans c);rw[a,<-Z44 ht he hce hct f]
def Qjy{g:Nat}(h:W.var? P name=K1 (zs.map λz=>L1 ⟨⟨z⟩⟩).toArray)(hg:P.globalNamed name=K1 g)(i:Nat)(hi:i<zs.length):
  W.cell? ⟨g,i,K2⟩=K1 (.string ⟨⟨zs.getD i []⟩⟩):=by
 have:=Nw hg h i;simp_all
section
variable {P:Lg}{g:Kf}
theorem Wz.atoi{f:Lz}{eb:Lc}(he:∀args w,(callFunc f args).run P w=.ok (.enter f args) w)
  (hv : ∀ w, g.G w -> ∃ tp p, w.var? P "strconv.ErrSyntax" = K1 #[.iface tp p])
  (hc:∀(s:ByteArray)(n:Int),s.size<=18->Mb s.data.toList=K1 n-> ∀w:Lb,Ly P f #[.string s] w λe w'=>e=.returned (.tuple #[.int .i64 n,.nilIface])/\ ∃t,w'=Lib.bytesWorld w eb t)
  (hc2 : ∀ (s : ByteArray), s.size <= 18 -> Mb s.data.toList = K2 -> ∀ (tp : Lc) (p : K3) (w : Lb), w.var? P "strconv.ErrSyntax" = K1 #[.iface tp p] ->
   Ly P f #[.string s] w λe w'=> ∃t N,e=.returned (.tuple #[.int .i64 0,.iface t (.pointer (K1 ⟨N,0,K2⟩))])/\Below w.heap.size w w'):
  Wz P g {f:=f,args:=[.str],res:=[.int .i64,.err],F:=λxs=>Ze (xs.1.length<=18) (K1 ((Mb xs.1).getD 0,(Mb xs.1).isSome,()))} where
 enters:=he
 calls:=λw xs r i j hx c=>by
  obtain⟨k,o,rfl,l,rfl⟩:=hx;obtain⟨rfl,_⟩:k=[.string ⟨⟨xs.1⟩⟩]/\_:=l;obtain⟨m,c⟩:=kl.1 c;simp only[pB]at c;subst c;have a:(⟨⟨xs.1⟩⟩:ByteArray).size<=18:=m;cases ha:Mb xs.1 with
  |some n=>
   refine(hc ⟨⟨xs.1⟩⟩ n a ha w).mono λe w' ⟨d,t,h⟩=>⟨[.int .i64 n,.nilIface],[],d,⟨[_],[_],[],[],rfl,rfl,⟨rfl,rfl⟩,⟨[_],[],[],[],rfl,rfl,⟨⟨_,rfl,rfl,.inl ⟨rfl,rfl⟩⟩,rfl⟩,rfl,rfl⟩⟩,Ac,h▸Lib.bytesWorld_below w _ _⟩
  |none=>
   obtain⟨tp,p,b⟩:=hv w j;refine(hc2 ⟨⟨xs.1⟩⟩ a ha tp p w b).mono λe w' ⟨t,N,d,h⟩=>⟨[.int .i64 0,.iface t (.pointer (K1 ⟨N,0,K2⟩))],[],d,⟨[_],[_],[],[],rfl,rfl,⟨rfl,rfl⟩,⟨[_],[],[],[],rfl,rfl,⟨⟨_,rfl,rfl,.inr ⟨rfl,_,_,rfl⟩⟩,rfl⟩,rfl,rfl⟩⟩,Ac,h⟩
def HW(w:Lb):∀n,Below w.heap.size w {w with drawn:=w.drawn+n}
 |_=>⟨rfl,rfl,rfl,Lf _,λ_ _=>rfl⟩
def Wz.cut{f:Lz}{m:Nat}{b:Nat}(he:∀args w,(callFunc f args).run P w=.ok (.enter f args) w)
  (hv:∀w,g.G w-> ∃k,w.cell? ⟨b,0,Lw⟩=K1 (.int .i64 k))
  (hc:∀(s p:ByteArray)(k:Int)(w:Lb),s.size<m->w.cell? ⟨b,0,Lw⟩=K1 (.int .i64 k)->Ly P f #[.string s,.string p] w λe w'=>
   e=.returned (.tuple #[.string ⟨(Lr s.data.toList p.data.toList).1.toArray⟩,.string ⟨(Lr s.data.toList p.data.toList).2.1.toArray⟩,.bool (Lr s.data.toList p.data.toList).2.2])/\ ∃n,w'={w with drawn:=w.drawn+n}):
  Wz P g {f:=f,args:=[.str,.str],res:=[.str,.str,.bool],F:=λxs=>Ze (xs.1.length<m) (K1 ((Lr xs.1 xs.2.1).1,(Lr xs.1 xs.2.1).2.1,(Lr xs.1 xs.2.1).2.2,()))} where
 enters:=he
 calls:=λw xs r h i hx a=>by
  obtain⟨j,u,rfl,l,c,o,rfl,d,rfl⟩:=hx;obtain⟨rfl,_⟩:j=[.string ⟨⟨xs.1⟩⟩]/\_:=l;obtain⟨rfl,_⟩:c=[.string ⟨⟨xs.2.1⟩⟩]/\_:=d;obtain⟨q,a⟩:=kl.1 a;simp only[pB]at a;subst a;obtain⟨k,hk⟩:=hv w i;refine(hc ⟨⟨xs.1⟩⟩ ⟨⟨xs.2.1⟩⟩ k w q hk).mono λe w' ⟨d,n,t⟩=>⟨[.string ⟨(Lr xs.1 xs.2.1).1.toArray⟩,.string ⟨(Lr xs.1 xs.2.1).2.1.toArray⟩,.bool (Lr xs.1 xs.2.1).2.2],[],d,
   ⟨[_],[_,_],[],[],rfl,rfl,⟨rfl,rfl⟩,[_],[_],[],[],rfl,rfl,⟨rfl,rfl⟩,[_],[],[],[],rfl,rfl,⟨rfl,rfl⟩,rfl,rfl⟩,Ac,t▸HW w n⟩
def Rn{w:Lb}{X:Nat->Prop}{B:Nat}{own:Ow}:∀(l:List (List UInt8)),cS (rd w X B own .str) l (l.map λx=>.string ⟨⟨x⟩⟩) []
 |[]=>⟨rfl,rfl⟩
 |_::l=>⟨[_],_,[],[],rfl,rfl,⟨rfl,rfl⟩,Rn l⟩
def Wz.split{e:Lc}(he:∀args w,(callFunc f args).run P w=.ok (.enter f args) w)(hm:m<4294967296)
  (hv:∀w,g.G w-> ∃k,w.cell? ⟨b,0,Lw⟩=K1 (.int .i64 k))
  (hc:∀(s p:ByteArray)(k:Int)(w:Lb),s.size<m->w.cell? ⟨b,0,Lw⟩=K1 (.int .i64 k)->1<=p.size->Ly P f #[.string s,.string p] w λen w'=>
   en=.returned (.slice (K1 ⟨w.heap.size,0,Lw⟩) (Lu s p+1) (Lu s p+1))/\w'=w.alloc (.cells ((Lib.splitB p 0 (Lu s p) s).map L1).toArray e)):
  Wz P g {f:=f,args:=[.str,.str],res:=[.slice e .str],F:=λxs=>Ze (xs.1.length<m/\1<=xs.2.1.length) (K1 (Mc xs.2.1 0 (L6 xs.1 xs.2.1) xs.1,()))} where
 enters:=he
 calls:=λw xs r n t hx i=>by
  obtain⟨u,D,rfl,v,l,y,rfl,c,rfl⟩:=hx;obtain⟨rfl,_⟩:u=[.string ⟨⟨xs.1⟩⟩]/\_:=v;obtain⟨rfl,_⟩:l=[.string ⟨⟨xs.2.1⟩⟩]/\_:=c;obtain⟨j,i⟩:=kl.1 i;simp only[pB]at i;subst i;obtain⟨k,hk⟩:=hv w t;have o:Lu ⟨⟨xs.1⟩⟩ ⟨⟨xs.2.1⟩⟩=L6 xs.1 xs.2.1:=rfl;have z:Lu ⟨⟨xs.1⟩⟩ ⟨⟨xs.2.1⟩⟩<=xs.1.length:=Lib.countB_le ⟨⟨xs.2.1⟩⟩ j.2 xs.1.length ⟨⟨xs.1⟩⟩ (Lf _);have a:=Lib.splitB_data ⟨⟨xs.2.1⟩⟩ 0 (Lu ⟨⟨xs.1⟩⟩ ⟨⟨xs.2.1⟩⟩) ⟨⟨xs.1⟩⟩;have d:=Lib.splitB_all ⟨⟨xs.2.1⟩⟩ j.2 0 _ ⟨⟨xs.1⟩⟩ rfl;refine(hc ⟨⟨xs.1⟩⟩ ⟨⟨xs.2.1⟩⟩ k w j.1 hk j.2).mono λen w' ⟨c,q⟩=>?_;generalize Lib.splitB ⟨⟨xs.2.1⟩⟩ 0 (Lu ⟨⟨xs.1⟩⟩ ⟨⟨xs.2.1⟩⟩) ⟨⟨xs.1⟩⟩=L at q a d;have A:L.map L1=(Mc xs.2.1 0 (L6 xs.1 xs.2.1) xs.1).map λx=>.string ⟨⟨x⟩⟩:=by
   have:Mc xs.2.1 0 (L6 xs.1 xs.2.1) xs.1=L.map (·.data.toList):=a.symm;rw[this,List.map_map];rfl
  have h:(Mc xs.2.1 0 (L6 xs.1 xs.2.1) xs.1).length=Lu ⟨⟨xs.1⟩⟩ ⟨⟨xs.2.1⟩⟩+1:=Ag
  have B:Below w.heap.size w w':=q▸(M3 _ w).alloc (Lf _) _;rw[<-h]at c;generalize Mc xs.2.1 0 (L6 xs.1 xs.2.1) xs.1=K at c A h⊢;have C:w'.heap[w.heap.size]? =K1 (.cells (L.map L1).toArray e (0,0)):=by grind[qX]
  refine⟨[.slice (K1 ⟨w.heap.size,0,Lw⟩) K.length K.length],[w.heap.size],c,⟨[_],[],[w.heap.size],[],rfl,rfl,?_,rfl,rfl⟩,Ac,B⟩;refine⟨_,K.map λx=>.string ⟨⟨x⟩⟩,[w.heap.size],[],rfl,rfl,⟨⟨by simp[Ty.size],.inr ⟨w.heap.size,K.length,(L.map L1).toArray,rfl,Lf _,C,Lf _,?_,?_,?_⟩⟩,rfl⟩,Rn K⟩
  all_goals grind[maxLen,Ty.size,List.take_of_length_le]
end
section
open Go.RowKit
variable {H:Type}{enc:Lc×K3->H}
def Zos{a:Assume}{C:Checked}{os:Os}{Vx:List PathCond}{apart again:Bool}{X:Lb->Array K3->Prop}
  (hX:∀(w w':Lb)(args:Array K3),w.heap=w'.heap->X w args->X w' args)
  (own:ownKnob C.prog.godebug=K2) (started:os.Started) (noInit:C.prog.inits.idxOf? f=K2) (hfn:C.prog.funcs[f]? =K1 fn)
  (witness:∃(w:Lb) (tape:Tape) (i:Input),w.os=os/\(w.forCall tape i).Shaped C.prog/\i.vars=[]/\Input.okWide C.prog (w.forCall tape i) .any w.heap.size f i/\
   ((s.pre enc C.prog fn Vx apart (w.forCall tape i).memory i.args/\X (w.forCall tape i).memory i.args)/\sizedMet enc C.prog fn (Np s) apart (w.forCall tape i).memory i.args)/\a.holds C.prog (lone (Frame.enter C.prog f i.args .normal) [] (w.forCall tape i)))
  (contract:∀(W:Lb)(base:Nat)(args:Array K3)(ds gs:List (DataW H))(before:List MemPlace),
   (∀(j:Nat) t v,fn.params[j]? =K1 t->args[j]? =K1 v->L0 C.prog W .any base t v)->
   Mo enc C.prog fn.params.toList s.vars apart W args.toList ds gs before->
   X W args->W.ShapedOpen C.prog->
   Ly C.prog f args W λe W'=> ∃v,e=.returned v/\s.post enc C.prog fn apart fresh handsOn again W args v W'):
  ReturnsInHanded a C os f .any (λw args=>(s.pre enc C.prog fn Vx apart w args/\X w args)/\sizedMet enc C.prog fn (Np s) apart w args) (s.post enc C.prog fn apart fresh handsOn again):=by
 refine returnsInHanded_of_calls own started noInit witness ?_;intro w tape i _ h _ k b g;obtain⟨_,_,_,l,c,_,_,_,_,d⟩:=k;have e:l=fn:=Mx (c.symm.trans hfn);subst e;obtain⟨⟨⟨ds,gs,before,n,o⟩,hx⟩,p⟩:=b;have m:=Mo.of_heap (w':=w.forCall tape i) (by rfl) n;refine(contract (w.forCall tape i) w.heap.size i.args ds gs before d m (hX _ _ _ (by rfl) hx) h).mono λe W' ⟨v,q,r⟩=>?_;simp_all[ChangeSpec.post_blind]
end
end Go.Am

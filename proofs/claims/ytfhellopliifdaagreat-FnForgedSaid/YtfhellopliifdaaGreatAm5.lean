/- The abstract machine, part 5: what a piece of Go code does, as plain data, and that it does so. No condition. -/
import Derived.Test.YtfhellopliifdaaGreatAm4
import Derived.LoopN
import Derived.ProofKit
import Derived.OpenShut
import Derived.Carry
import Derived.JoinedCond
import Derived.IntWalk
import Derived.OpenVars
import Derived.Lib.LaidTab
import Derived.HandedShaped
import Derived.Lib.Atoi
import Derived.Lib.AtoiBound
import Derived.Lib.SplitLaws
import Derived.Lib.IndexMore
import Derived.Lib.AtoiErrMem
set_option linter.all false
namespace Go.Am
open Go.RowKit
inductive PE where
 |val (k:Nat) (T:Ty) (f:Fl)
 |box (k:Nat) (e:TypeId) (T:Ty) (f:Fl)
 |ptr (k r:Nat) (p:List Nat)
 |bor (k r:Nat) (p:List Nat)
 |shp (k:Nat) (T:Ty)
 |elp (k r:Nat) (p q:List Nat)
 |clo (k f:Nat) (l:List Nat)
def PE.key:PE->Nat|.val k .. |.box k .. |.ptr k .. |.bor k .. |.shp k .. |.elp k .. |.clo k .. =>k
@[reducible] def PE.dens:List PE->Type|[]=>Unit|.val _ T _::r=>T.den×PE.dens r|.box _ _ T _::r=>T.den×PE.dens r|.ptr .. ::r=>PE.dens r|.bor .. ::r=>PE.dens r|.shp _ T::r=>T.den×PE.dens r|.elp .. ::r=>Int×PE.dens r|.clo .. ::r=>PE.dens r
def Z0b:(p:List PE)->PE.dens p->List (Key×Tm)|[],_=>[]|.val k T f::r,x=>(.m k,.val T f x.1)::Z0b r x.2|.box k e T f::r,x=>(.m k,.box e T f x.1)::Z0b r x.2|.ptr k q p::r,x=>(.m k,.ptr q p)::Z0b r x|.bor k q p::r,x=>(.m k,.bor q p)::Z0b r x|.shp k T::r,x=>(.m k,.shp T x.1)::Z0b r x.2|.elp k j p q::r,x=>(.m k,.elp j p x.1 q)::Z0b r x.2|.clo k f l::r,x=>(.m k,.cl f l)::Z0b r x
def Qgu(ln:List Nat)(p:List PE)(x:PE.dens p):St:={env:=Z0b p x,dirty:=[],lent:=ln}
def Qk9:List Nat->List Nat->Bool
 |[],[]=>true
 |x::xs,y::ys=>match Nat.beq x y with|true=>Qk9 xs ys|false=>false
 |_,_=>false
theorem Z2e:∀{p q:List Nat},Qk9 p q=true->p=q
 |[],[],_=>rfl
 |x::b,y::c,h=>by
  simp only[Qk9]at h;split at h
  ·rename_i a;rw[Onb a,Z2e h]
  ·cases h
 |[],_::_,h=>by simp[Qk9]at h
 |_::_,[],h=>by simp[Qk9]at h
def Qo7:List PE->Nat->Bool
 |[],_=>false
 |e::r,k=>match Nat.beq e.key k with
  |true=>match e with|.box .. =>true|_=>false
  |false=>Qo7 r k
def Qgt:List PE->Nat->Bool
 |[],_=>false
 |e::r,k=>match Nat.beq e.key k with
  |true=>match e with|.box .. |.val .. =>true|_=>false
  |false=>Qgt r k
def Zyn(s:St)(full:List PE):(p:List PE)->Option (PE.dens p)
 |[]=>some ()
 |.val k T f::r=>match s.get (.m k)with
  |.val U g y=>match Zcb U g f,J8 T U y,Zyn s full r with
   |true,some z,some q=>some (z,q)
   |_,_,_=>none
  |_=>none
 |.box k e T f::r=>match s.get (.m k)with
  |.box e' U g y=>match Nat.beq e' e&&Zcb U g f,J8 T U y,Zyn s full r with
   |true,some z,some q=>some (z,q)
   |_,_,_=>none
  |_=>none
 |.ptr k j p::r=>match s.get (.m k)with
  |.ptr j' p'=>match Nat.beq j' j&&Qk9 p' p&&Qo7 full j with
   |true=>Zyn s full r
   |false=>none
  |_=>none
 |.bor k j p::r=>match s.get (.m k)with
  |.bor j' p'=>match Nat.beq j' j&&Qk9 p' p&&Qgt full j&& !(s.bad j p)with
   |true=>Zyn s full r
   |false=>none
  |_=>none
 |.shp k T::r=>match s.get (.m k)with
  |.shp U y=>match J8 T U y,Zyn s full r with
   |some z,some q=>some (z,q)
   |_,_=>none
  |_=>none
 |.elp k j p q::r=>match s.get (.m k)with
  |.elp j' p' i q'=>match Nat.beq j' j&&Qk9 p' p&&Qk9 q' q&&Qgt full j&& !(s.bad j p),Zyn s full r with
   |true,some x=>some (i,x)
   |_,_=>none
  |_=>none
 |.clo k f l::r=>match s.get (.m k)with
  |.cl f' l'=>match Nat.beq f' f&&Qk9 l' l&&l.all (Qo7 full)with
   |true=>Zyn s full r
   |false=>none
  |_=>none
theorem Qd4:∀{p:List PE}{x:PE.dens p}{k:Nat},Qo7 p k=true-> ∃e T f y,Zka (Z0b p x) (.m k)=.box e T f y
 |e::r,x,k,h=>by
  simp only[Qo7]at h;split at h
  ·rename_i b;have:=Onb b;split at h
   all_goals simp_all[PE.key,Z0b,Z7]
  ·rename_i b;have a:e.key≠k:=λc=>by simp_all
   cases e<;>simp only[PE.key]at a<;>simp only[Z0b,Z7,Key.m.injEq,a,if_false]<;>exact Qd4 h
theorem Z89:∀{p:List PE}{x:PE.dens p}{k:Nat},Qgt p k=true->Zka (Z0b p x) (.m k)≠ .junk
 |e::r,x,k,h=>by
  simp only[Qgt]at h;split at h
  ·rename_i b;have:=Onb b;split at h
   all_goals simp_all[PE.key,Z0b,Z7]
  ·rename_i b;have a:e.key≠k:=λc=>by simp_all
   cases e<;>simp only[PE.key]at a<;>simp only[Z0b,Z7,Key.m.injEq,a,if_false]<;>exact Z89 h
theorem Qrw:∀{p:List PE}{x:PE.dens p}{d i:Nat},Zka (Z0b p x) (.c d i)=.junk
 |[],_,_,_=>rfl
 |e::r,x,d,i=>by cases e<;>simp only[Z0b,Z7,reduceCtorEq,if_false]<;>exact Qrw
theorem Zip{U T:Ty}{x:T.den}{y:U.den}(h:J8 U T x=some y):∃e:T=U,y=e▸x:=by
 grind[J8]
section
variable {P:Program}{g:Kx}{W0:Zc6 g}{w w':World}{X X':Nat->Prop}{B B' n:Nat}{own:Bool}{s s':St}{F:Key->List Nat}{a:Act}{H H':List Nat}{o:Oper}{tg:Ye}{τ:Tab}{C:Cfg}{gh:Nat->Value}
theorem Zyo{ln:List Nat}{full:List PE}{xf:PE.dens full}:∀{p:List PE}{x:PE.dens p},Zyn s full p=some x-> ∀k,KT s (Qgu ln full xf) (s.get k) (Zka (Z0b p x) k)
 |[],_,_,k=>.junk _
 |e::r,x,h,k=>by
  cases e with
  |val m T f=>
   simp only[Zyn]at h;split at h
   ·rename_i U g y b;split at h
    ·rename_i z q n c d;simp only[Osi]at h;subst h;simp only[Z0b,Z7];split
     ·rename_i e;subst e;obtain⟨rfl,rfl⟩:=Zip c;rw[b];exact .val (.inr n)
     ·exact Zyo d k
    ·cases h
   ·cases h
  |box m e T f=>
   simp only[Zyn]at h;split at h
   ·rename_i u U g y b;split at h
    ·rename_i z q n c d;simp only[Oba]at n;simp only[Osi]at h;subst h;simp only[Z0b,Z7];split
     ·rename_i e;subst e;obtain⟨rfl,rfl⟩:=Zip c;rw[b,Onb n.1];exact .box (.inr n.2)
     ·exact Zyo d k
    ·cases h
   ·cases h
  |ptr m j p=>
   simp only[Zyn]at h;split at h
   ·rename_i o t b;split at h
    ·rename_i a;simp only[Oba]at a;simp only[Z0b,Z7];split
     ·rename_i e;subst e;rw[b,Onb a.1.1,Z2e a.1.2];exact .ptr (Qd4 a.2)
     ·exact Zyo h k
    ·cases h
   ·cases h
  |bor m j p=>
   simp only[Zyn]at h;split at h
   ·rename_i o t b;split at h
    ·rename_i a;simp only[Oba,Bool.not_eq_true']at a;simp only[Z0b,Z7];split
     ·rename_i e;subst e;rw[b,Onb a.1.1.1,Z2e a.1.1.2];exact .bor a.2 (Z89 a.1.2)
     ·exact Zyo h k
    ·cases h
   ·cases h
  |shp m T=>
   simp only[Zyn]at h;split at h
   ·rename_i U y b;split at h
    ·rename_i z q c d;simp only[Osi]at h;subst h;simp only[Z0b,Z7];split
     ·rename_i e;subst e;obtain⟨rfl,rfl⟩:=Zip c;rw[b];exact .shp
     ·exact Zyo d k
    ·cases h
   ·cases h
  |elp m j p q=>
   simp only[Zyn]at h;split at h
   ·rename_i o t i v b;split at h
    ·rename_i z a c;simp only[Oba,Bool.not_eq_true']at a;simp only[Osi]at h;subst h;simp only[Z0b,Z7];split
     ·rename_i e;subst e;rw[b,Onb a.1.1.1.1,Z2e a.1.1.1.2,Z2e a.1.1.2];exact .elp a.2 (Z89 a.1.2)
     ·exact Zyo c k
    ·cases h
   ·cases h
  |clo m f l=>
   simp only[Zyn]at h;split at h
   ·rename_i w A b;split at h
    ·rename_i a;simp only[Oba]at a;simp only[Z0b,Z7];split
     ·rename_i e;subst e;rw[b,Onb a.1.1,Z2e a.1.2];exact .cl λq d=>Qd4 (List.all_eq_true.1 a.2 q d)
     ·exact Zyo h k
    ·cases h
   ·cases h
theorem R.pat{ln:List Nat}{p:List PE}{x:PE.dens p}(h:R n W0 w X F H s a)(hl:∀p,p∈W0.fix->p.1∈ln)(hp:Zyn s p p=some x):∃F',R n W0 w X F' H (Qgu ln p x) a:=
 h.weak (λk=>Zyo hp k) (λ_ _ b=>absurd Qrw b) hl
def Zwr:List PE->St->St
 |.val k _ (.u false)::r,s=>match s.get (.m k)with
  |.val U g x=>match Zcb U g (.u false),g.live with
   |false,true=>Zwr r (Zzj s k (.val U (.u false) x))
   |_,_=>Zwr r s
  |_=>Zwr r s
 |.val k _ (.p (.u true) (.u false))::r,s=>match s.get (.m k)with
  |.val (.slice e t) (.u true) x=>Zwr r (Zzj s k (.val (.slice e t) .e x))
  |_=>Zwr r s
 |.box k _ _ (.u false)::r,s=>match s.get (.m k)with
  |.box e U g x=>match Zcb U g (.u false),g.live with
   |false,true=>Zwr r (Qyl s k e U x)
   |_,_=>Zwr r s
  |_=>Zwr r s
 |.box k _ _ (.p a b)::r,s=>match s.get (.m k)with
  |.box _ U g _=>match Zcb U g (.p a b)with
   |true=>Zwr r s
   |false=>Zwr r (Q95 s k (.p a b))
  |_=>Zwr r s
 |_::r,s=>Zwr r s
 |[],s=>s
theorem Yx(hs0:g.soft=false):∀{p:List PE}{s:St}{X:Nat->Prop}{F:Key->List Nat},R n W0 w X F H s a-> ∃X' F',R n W0 w X' F' H (Zwr p s) a
 |[],s,X,F,h=>⟨X,F,h⟩
 |.val k T (.u false)::r,s,X,F,h=>by
  simp only[Zwr];split
  ·rename_i U g x f;split
   ·rename_i j;exact Yx hs0 (R.frz hs0 h f j)
   ·exact Yx hs0 h
  ·exact Yx hs0 h
 |.val k T (.u true)::r,s,X,F,h=>Yx hs0 (p:=r) h
 |.val k T (.p o q)::r,s,X,F,h=>by
  unfold Zwr;split
  ·simp_all
  ·rename_i c;cases c;split
   ·rename_i e t x f;obtain⟨l,m,i⟩:=R.frzE hs0 h f;exact Yx hs0 i
   ·exact Yx hs0 h
  ·simp_all
  ·simp_all
  ·rename_i c;cases c;exact Yx hs0 (p:=r) h
  simp_all
 |.val k T .d::r,s,X,F,h=>Yx hs0 (p:=r) h
 |.box k v T (.u false)::r,s,X,F,h=>by
  simp only[Zwr];split
  ·rename_i e U g x f;split
   ·rename_i j;obtain⟨l,m,i,_⟩:=R.frzX hs0 h f j;exact Yx hs0 i
   ·exact Yx hs0 h
  ·exact Yx hs0 h
 |.box _ _ _ (.u true)::r,s,X,F,h=>Yx hs0 (p:=r) h
 |.box k _ _ (.p a b)::r,s,X,F,h=>by
  simp only[Zwr];split
  ·split
   ·exact Yx hs0 h
   ·obtain⟨l,m,i⟩:=R.frzP hs0 h k (.p a b);exact Yx hs0 i
  ·exact Yx hs0 h
 |.box _ _ _ .d::r,s,X,F,h=>Yx hs0 (p:=r) h
 |.ptr .. ::r,s,X,F,h=>Yx hs0 (p:=r) h
 |.bor .. ::r,s,X,F,h=>Yx hs0 (p:=r) h
 |.shp .. ::r,s,X,F,h=>Yx hs0 (p:=r) h
 |.elp .. ::r,s,X,F,h=>Yx hs0 (p:=r) h
 |.clo .. ::r,s,X,F,h=>Yx hs0 (p:=r) h
def Xal(s:St)(r:Nat):Bool:=match s.get (.m r)with|.box .. =>true|_=>false
def inL(L:List Nat)(r:Nat):Bool:=L.any (Nat.beq r)
def Qrh(s:St)(L:List Nat):Tm->Tm
 |.val T f x=>.val T f x
 |.box e T f x=>.box e T f x
 |.shp T x=>.shp T x
 |.ptr r p=>match inL L r&&Xal s r with|true=>.ptr r p|false=>.junk
 |.pls h l=>match l.all (λq=>inL L q.1&&Xal s q.1)with|true=>.pls h l|false=>.junk
 |_=>.junk
def Qcr(L:List Nat)(s:St):St:={env:=L.map λk=>(.m k,Qrh s L (s.get (.m k))),dirty:=[],lent:=s.lent}
def Qrn:List (Key×Tm)->List Nat
 |[]=>[]
 |(.m k,_)::r=>match inL (Qrn r) k with|true=>Qrn r|false=>k::Qrn r
 |_::r=>Qrn r
theorem Qcs(L:List Nat)(s:St)(k:Key):(Qcr L s).get k=match k with|.m t=>(match inL L t with|true=>Qrh s L (s.get (.m t))|false=>.junk)|.c _ _=>.junk:=by
 have a:∀M:List Nat,Zka (M.map λk=>(Key.m k,Qrh s L (s.get (.m k)))) k=match k with|.m t=>(match inL M t with|true=>Qrh s L (s.get (.m t))|false=>.junk)|.c _ _=>.junk:=by
  intro M
  induction M with
  |nil=>cases k<;>rfl
  |cons m M b=>
   rw[List.map_cons,Z7,b];cases k with
   |c t i=>simp
   |m t=>
    by_cases h:m=t
    ·simp_all[inL]
    ·have:inL (m::M) t=inL M t:=by simp only[inL,List.any_cons];rw[show Nat.beq t m=false by rw[Bool.eq_false_iff];grind[Onb]];rfl
     simp_all
 exact a L
theorem Qri{s:St}{L:List Nat}{r:Nat}(h:(inL L r&&Xal s r)=true):∃e T f x,(Qcr L s).get (.m r)=.box e T f x:=by
 simp only[Oba]at h;unfold Xal at h;rw[Qcs];simp only[h.1];have a:=h.2;split at a
 ·rename_i e T f x b;rw[b];exact⟨e,T,f,x,rfl⟩
 ·cases a
theorem R.keep{L:List Nat}(h:R n W0 w X F H s a):∃F',R n W0 w X F' H (Qcr L s) a:=by
 refine h.weak (λk=>?_) (λd i b=>absurd (Qcs L s (.c d i)) b) (λp f=>(h.fix p f).1);rw[Qcs];cases k with
 |c t i=>exact .junk _
 |m t=>
  simp only;split
  ·generalize s.get (.m t)=u;cases u with
   |val=>exact .val (.inl rfl)
   |box=>exact .box (.inl rfl)
   |shp=>exact .shp
   |ptr r p=>
    simp only[Qrh];split
    ·rename_i e;exact .ptr (Qri e)
    ·exact .junk _
   |pls j l=>
    simp only[Qrh];split
    ·rename_i e;exact .pls λq g=>Qri (List.all_eq_true.1 e q g)
    ·exact .junk _
   |_=>exact .junk _
  ·exact .junk _
def Xeq(C:Cfg)(s:St)(o:Oper):Bool:=
 match o.guard,o.op with
 |none,.call {callee:=.value fo,..}=>match Qqg s [] fo with
  |some f=>(C.ΓL.find f).isSome
  |none=>false
 |_,_=>false
inductive Xgs where
 |no
 |st (e:TypeId) (x v:Operand)
 |ws (f:FuncId) (xs:Array Operand)
 |wr (f:FuncId) (xs:Array Operand)
def wOp(C:Cfg)(s:St)(o:Oper):Xgs:=
 match o.guard,o.op with
 |none,.store e x v=>match C.soft,Qha C.τ s [] e x v,o.dst with
  |true,none,none=>.st e x v
  |_,_,_=>.no
 |none,.call {callee:=.value fo,args:=xs,..}=>match Qqg s [] fo with
  |some f=>match C.ΓW.find f with
   |some _=>match C.soft with
    |true=>.ws f xs
    |false=>.wr f xs
   |none=>.no
  |none=>.no
 |_,_=>.no
noncomputable def Q8i{ρ:Type}(C:Cfg)(n:Nat)(ops:Array Oper)(o:Oper)(s:St)(k:St->Option ρ):Option ρ:=
 match Q1f C s o with
 |some (E,ts)=>Xag C.τ n s o.dst E ts k
 |none=>match gdB C s ops o with
 |some (g,b,d,f,xs)=>Q98 C n o s g b d f xs k
 |none=>match wOp C s o with
 |.st e x v=>(Qjr C.τ s e x v).bind k
 |.ws f xs=>wsK C.ΓW n s o.dst f xs.toList k
 |.wr f xs=>wrK C.ΓW n s o.dst f xs.toList k
 |.no=>match Q0m C s o with
 |some (f,xs)=>Qnb C.ΓB n s o.dst f xs.toList k
 |none=>match Xeq C s o with
 |true=>match o.guard,o.op with
  |none,.call {callee:=.value fo,args:=xs,..}=>match Qqg s [] fo with
   |some f=>Q7b C.ΓL n s o.dst f xs.toList k
   |none=>none
  |_,_=>none
 |false=>Zoe C n ops o s k
theorem Qxk{ρ:Type}(hC:C.ok P g){ops:Array Oper}(h:R n W0 w X F [] s a){k:St->Option ρ}{r:ρ}(hs:Q8i C n ops o s k=some r){K:Act->World->Prop}{Q:Exit->Act->World->Prop}
  (hK:∀w' a' X' F' s',k s'=some r->R n W0 w' X' F' [] s' a'->K a' w'):if Region.wanted o (yielded ops a.tmps)then o.wp P a w K Q else K (a.put o.dst undef) w:=by
 unfold Q8i at hs;split at hs
 ·rename_i E V H;obtain⟨j,I,W,J,M,N⟩:=Qkl hC h H;rw[if_pos (by simp[Region.wanted,j])];exact Qof hC.τ I h J M N hs λv w' X' F' s' hk i=>hK w' _ X' F' s' hk i
 split at hs
 ·rename_i Y b d f z A;exact Qoa hC h A hs λv w' X' F' s' hk i _ _=>hK w' _ X' F' s' hk i
 split at hs
 ·rename_i e x v c;unfold wOp at c;split at c
  ·rename_i Z x' v' j m;split at c
   ·rename_i l _ O;cases c;rw[if_pos (by simp[Region.wanted,j])];obtain⟨S,L,q⟩:=hC.softG l;rw[Option.bind_eq_some_iff]at hs;obtain⟨s',B,U⟩:=hs;refine Ql0 hC.τ q h m O B λw' i=>?_
    grind
   ·cases c
  all_goals grind
 ·rename_i f z c;unfold wOp at c;split at c
  ·grind
  ·rename_i D y t j m;split at c
   ·rename_i G u;split at c
    ·split at c
     ·rename_i l;cases c;rw[if_pos (by simp[Region.wanted,j])];obtain⟨S,L,q⟩:=hC.softG l;exact Q4y hC.ΓW q h (Zog h Zag u) m hs λv w' X' F' s' hk i=>hK w' _ X' F' s' hk i
     ·cases c
    ·cases c
   ·cases c
  ·cases c
 ·rename_i f z c;unfold wOp at c;split at c
  ·grind
  ·rename_i D y t j m;split at c
   ·rename_i G u;split at c
    ·split at c
     ·cases c
     ·cases c;rw[if_pos (by simp[Region.wanted,j])];exact Q4w hC.ΓW h (Zog h Zag u) m hs λv w' X' F' s' hk i=>hK w' _ X' F' s' hk i
    ·cases c
   ·cases c
  ·cases c
 split at hs
 ·rename_i f z p;unfold Q0m at p;split at p
  ·rename_i D y t l j m;split at p
   ·rename_i G u;split at p
    ·simp only[Osi,Opi]at p;obtain⟨rfl,rfl⟩:=p;rw[if_pos (by simp[Region.wanted,j])];exact Z7r (hC.soft.trans l) hC.ΓB h (Zog h Zag u) m hs λv w' X' F' s' hk i _ _=>hK w' _ X' F' s' hk i
    ·cases p
   ·cases p
  ·cases p
 split at hs
 ·split at hs
  ·rename_i D z t j m;split at hs
   ·rename_i f u;rw[if_pos (by simp[Region.wanted,j])];exact Qwj hC.ΓL h (Zog h Zag u) m hs λv w' X' F' s' hk i=>hK w' _ X' F' s' hk i
   ·cases hs
  ·cases hs
 ·exact Z9k hC h hs λw' a' X' F' s' hk i _=>hK w' a' X' F' s' hk i
noncomputable def Qzu{ρ:Type}(C:Cfg)(n:Nat)(ops:Array Oper):List Oper->St->(St->Option ρ)->Option ρ|[],s,k=>k (Qev s)|o::r,s,k=>Q8i C n ops o s λs'=>Qzu C n ops r s' k
theorem Qg5{ρ:Type}(hC:C.ok P g){ops:Array Oper}{k:St->Option ρ}{r:ρ}{Q:Exit->Act->World->Prop}
  (hK:∀w' a' X' F' s',k s'=some r->R n W0 w' X' F' [] s' a'->Q .normal a' w'):
  ∀{l:List Oper}{s:St}{w:World}{X:Nat->Prop}{F:Key->List Nat}{a:Act},R n W0 w X F [] s a->Qzu C n ops l s k=some r->wpList P ops Q l a w
 |[],s,w,X,F,a,h,b=>by
  obtain⟨F',d⟩:=h.clean;exact hK w a X F' _ b d
 |o::l,s,w,X,F,a,h,b=>by
  refine wpList_step λK c=>?_;exact Qxk hC h b λw' a' X' F' s' hk e=>c _ _ (Qg5 hC hK e hk)
inductive An(ρ:Type) where
 |leaf
 |seq (a b:An ρ)
 |cond (a b:An ρ)
 |block (a:An ρ)
 |loop (p:List PE) (f:Nat->PE.dens p->Option ρ) (fuel:PE.dens p->Nat) (a:(PE.dens p->Option ρ)->An ρ)
 |join (p:List PE) (f:PE.dens p->Option ρ) (a b:An ρ)
 |unroll (L:List Nat) (m:Nat) (a:Nat->An ρ)
 |frz (L:List (Nat×Fl))
def Qyk{ρ:Type}(sf:Bool)(A:An ρ)(s:St):St:=match A with
 |.frz L=>match sf with|true=>s|false=>Qev (Q6m L s)
 |_=>s
def Zu9{ρ:Type}(k1:St->Option ρ)(k:Exit->St->Option ρ):Exit->St->Option ρ|.normal,s=>k1 s|e,s=>k e s
def Z5g{ρ:Type}(id:Nat)(k:Exit->St->Option ρ):Exit->St->Option ρ
 |.exit j,s=>match Nat.beq j id with|true=>k .normal s|false=>k (.exit j) s
 |e,s=>k e s
def Xho(sf:Bool)(p:List PE)(s:St):St:=match sf with|true=>s|false=>Zwr p s
def Z8d{ρ:Type}(sf:Bool)(p:List PE)(f:PE.dens p->Option ρ):St->Option ρ:=λs=>match Zyn (Xho sf p s) p p with
 |some v=>f v
 |none=>none
def Z6l{ρ:Type}(f:Nat->(St->Option ρ)->St->Option ρ):Nat->St->Option ρ|0=>λ_=>none|m+1=>f m (Z6l f m)
noncomputable def Vo{ρ:Type}(C:Cfg)(n:Nat):Code->An ρ->(Exit->St->Option ρ)->St->Option ρ
 |.skip,_,k,s=>k .normal s
 |.region _ ops draw,A,k,s=>match draw with
  |false=>Qzu C n ops ops.toList (Qyk C.soft A s) (k .normal)
  |true=>match Region.noSelect ops with
   |true=>Z3w C n ops (Xdr (Qyk C.soft A s) ops) ops.size (Array.replicate ops.size false) (Qyk C.soft A s) (k .normal)
   |false=>none
 |.seq a b,A,k,s=>match A with
  |.seq A B=>Vo C n a A (Zu9 (Vo C n b B k) k) s
  |.join p f A _=>Vo C n a A (Zu9 (Z8d C.soft p f) k) s
  |_=>Vo C n a .leaf (Zu9 (Vo C n b .leaf k) k) s
 |.cond x a b,A,k,s=>match Zbw s (op1 s [] x) .bool with
  |some c=>match A with
   |.cond A B=>bif c then Vo C n a A k s else Vo C n b B k s
   |_=>bif c then Vo C n a .leaf k s else Vo C n b .leaf k s
  |none=>none
 |.block id b,A,k,s=>match A with
  |.block A=>Vo C n b A (Z5g id k) s
  |_=>Vo C n b .leaf (Z5g id k) s
 |.loop b,A,k,s=>match A with
  |.loop p f fuel _=>Z8d C.soft p (λv=>f (fuel v) v) s
  |.unroll L m A=>Z6l (λi kk s=>Vo C n b (A i) (Zu9 kk k) (Qcr L s)) m s
  |.leaf=>Z6l (λ_ kk s=>Vo C n b .leaf (Zu9 kk k) (Qcr (Qrn s.env) s)) 6 s
  |_=>none
 |.exit id,_,k,s=>k (.exit id) s
 |.ret,A,k,s=>k .ret (Qyk C.soft A s)
 |_,_,_,_=>none
def Zbg{ρ:Type}(C:Cfg)(n:Nat):Code->An ρ->(Exit->St->Option ρ)->Prop
 |.seq a b,A,k=>match A with
  |.seq A B=>Zbg C n a A (Zu9 (Vo C n b B k) k)/\Zbg C n b B k
  |.join p f A B=>Zbg C n a A (Zu9 (Z8d C.soft p f) k)/\(∀v,f v=Vo C n b B k (Qgu C.lent p v))/\Zbg C n b B k
  |_=>True
 |.cond _ a b,A,k=>match A with
  |.cond A B=>Zbg C n a A k/\Zbg C n b B k
  |_=>True
 |.block id b,A,k=>match A with
  |.block A=>Zbg C n b A (Z5g id k)
  |_=>True
 |.loop b,A,k=>match A with
  |.loop p f _ A=>(∀v,f 0 v=none)/\ ∀N,(∀v,f (N+1) v=Vo C n b (A (f N)) (Zu9 (Z8d C.soft p (f N)) k) (Qgu C.lent p v))/\Zbg C n b (A (f N)) (Zu9 (Z8d C.soft p (f N)) k)
  |.unroll L m A=> ∀i,i<m->Zbg C n b (A i) (Zu9 (Z6l (λi kk s=>Vo C n b (A i) (Zu9 kk k) (Qcr L s)) i) k)
  |_=>True
 |_,_,_=>True
def Q42{ρ:Type}{g:Kx}(n:Nat)(W0:Zc6 g)(k:Exit->St->Option ρ)(r:ρ):Exit->Act->World->Prop:=λe a w=> ∃s X F,k e s=some r/\R n W0 w X F [] s a
theorem Y0{ρ:Type}(c:Code)(k:Exit->St->Option ρ):Zbg C n c .leaf k:=by
 cases c<;>simp[Zbg]
theorem Qcq{ρ:Type}(hC:C.ok P g)(hl:∀p,p∈W0.fix->p.1∈C.lent){p:List PE}{f:PE.dens p->Option ρ}{r:ρ}(h:R n W0 w X F H s a)(hj:Z8d C.soft p f s=some r):∃v X' F',f v=some r/\R n W0 w X' F' H (Qgu C.lent p v) a:=by
 unfold Z8d at hj;split at hj
 ·rename_i v hv;obtain⟨b,c,d⟩:∃b c,R n W0 w b c H (Xho C.soft p s) a:=by
   cases hsf:C.soft
   ·exact Yx (hC.soft.trans hsf) (p:=p) h
   ·exact⟨X,F,h⟩
  obtain⟨F',e⟩:=d.pat hl hv
  grind
 ·cases hj
theorem R.frzA(hC:C.ok P g){ρ:Type}(A:An ρ)(h:R n W0 w X F [] s a):∃X' F',R n W0 w X' F' [] (Go.Am.Qyk C.soft A s) a:=by
 unfold Go.Am.Qyk;split
 ·rename_i L;cases hsf:C.soft
  ·obtain⟨c,d,b⟩:=Qki (hC.soft.trans hsf) (L:=L) h;obtain⟨e,f⟩:=b.clean
   grind
  grind
 grind
theorem Xcz{I:Nat->Prop}(h:∃N,I N):∃N,I N/\ ∀M,I M->N<=M:=by
 obtain⟨N,a⟩:=h
 induction N using Nat.strongRecOn with
 |_ N b=>
  grind
theorem Z0q{ρ:Type}(hC:C.ok P g)(hl:∀p,p∈W0.fix->p.1∈C.lent){r:ρ}:∀{c:Code}{A:An ρ}{k:Exit->St->Option ρ}{s:St}{w:World}{X:Nat->Prop}{F:Key->List Nat}{a:Act},
  Zbg C n c A k->Vo C n c A k s=some r->R n W0 w X F [] s a->c.wp P (Q42 n W0 k r) a w:=by
 intro c
 induction c with
 |skip=>intro A k s w X F a _ d h;exact wp_skip ⟨s,X,F,d,h⟩
 |region Y ak ae=>
  intro A k s w X F a _ d h;simp only[Vo]at d;obtain⟨X,F,h⟩:=h.frzA hC A;generalize Qyk C.soft A s=s at d h;split at d
  ·exact wp_region_list (Qg5 hC (λG H q t u hk E=>⟨u,q,t,hk,E⟩) h d)
  ·split at d
   ·rename_i hB;have Q:R n W0 {w with drawn:=w.drawn+1} X F [] s a:=h.world (h.below.step (Below.refl _ w).drew) (Nat.le_refl _) (λ_ _=>rfl) (λ_ _ _=>rfl);exact wp_region_any hC.follows (Qp7 (Qn:=λH G=>Q42 n W0 k r .normal H G) (λ_ _ h=>h) _ _ _ _
     (Z6f (Sh:=λ_=>False) hC (Region.noSelect_spec hB) (λi r hr j o ho=>Q5h hr ho) (λG H q t u hk E=>⟨u,q,t,hk,E⟩) (λm o _ hm=>by simp only[Array.getD_eq_getD_getElem?,Array.getElem?_replicate]at hm;grind) Q (λ_ h=>h.elim) d))
   ·cases d
 |seq x y Z S=>
  intro A k s w X F a J d h;have ag:∀{A B:An ρ},Zbg C n x A (Zu9 (Vo C n y B k) k)->Zbg C n y B k->Vo C n x A (Zu9 (Vo C n y B k) k) s=some r->(Code.seq x y).wp P (Q42 n W0 k r) a w:=by
   intro A B h1 Q h3;refine wp_seq (wp_mono (Z h1 h3 h) λe H G K=>?_);obtain⟨u,q,t,hk,E⟩:=K;cases e with
   |normal=>exact S Q hk E
   |_=>exact⟨u,q,t,hk,E⟩
  cases A with
  |seq A B=>grind[Vo,Zbg]
  |join p f A B=>
   simp only[Vo]at d;simp only[Zbg]at J;refine wp_seq (wp_mono (Z J.1 d h) λe H G K=>?_);obtain⟨u,q,t,hk,E⟩:=K;cases e with
   |normal=>
    obtain⟨v,X2,F2,hv,U⟩:=Qcq hC hl E hk;rw[J.2.1]at hv;exact S J.2.2 hv U
   |_=>exact⟨u,q,t,hk,E⟩
  |leaf=>grind[Vo,Y0]
  |cond=>grind[Vo,Y0]
  |block=>grind[Vo,Y0]
  |loop=>grind[Vo,Y0]
  |unroll=>grind[Vo,Y0]
  |frz=>grind[Vo,Y0]
 |cond x y z S al=>
  intro A k s w X F a J d h;simp only[Vo]at d;split at d
  ·rename_i b hb;have hv:=Zoo h Zag hb;have l:∀{A B:An ρ},Zbg C n y A k->Zbg C n z B k->(bif b then Vo C n y A k s else Vo C n z B k s)=some r->(Code.cond x y z).wp P (Q42 n W0 k r) a w:=by
    grind[wp_cond_split]
   cases A with
   |cond A B=>grind[Zbg]
   |leaf=>exact l (Y0 _ _) (Y0 _ _) d
   |seq=>exact l (Y0 _ _) (Y0 _ _) d
   |block=>exact l (Y0 _ _) (Y0 _ _) d
   |loop=>exact l (Y0 _ _) (Y0 _ _) d
   |join=>exact l (Y0 _ _) (Y0 _ _) d
   |unroll=>exact l (Y0 _ _) (Y0 _ _) d
   |frz=>exact l (Y0 _ _) (Y0 _ _) d
  ·cases d
 |block Y b ih=>
  intro A k s w X F a J d h;have O:∀{A:An ρ},Zbg C n b A (Z5g Y k)->Vo C n b A (Z5g Y k) s=some r->(Code.block Y b).wp P (Q42 n W0 k r) a w:=by
   intro A h1 Q;refine wp_block (wp_mono (ih h1 Q h) λe H G K=>?_);obtain⟨u,q,t,hk,E⟩:=K;cases e with
   |exit j=>
    simp only[Z5g]at hk;simp only[Exit.inBlock];split at hk
    ·rename_i hb;rw[if_pos (Onb hb)];exact⟨u,q,t,hk,E⟩
    ·rename_i hb;rw[if_neg (λe=>by simp_all)];exact⟨u,q,t,hk,E⟩
   |_=>exact⟨u,q,t,hk,E⟩
  cases A with
  |block A=>grind[Vo,Zbg]
  |_=>simp only[Vo]at d;exact O (Y0 _ _) d
 |loop b ih=>
  intro A k s w X F a J d h;cases A with
  |loop p f ah A=>
   simp only[Vo]at d;simp only[Zbg]at J;obtain⟨h0,hN⟩:=J;obtain⟨v,X2,F2,hv,U⟩:=Qcq hC hl h d
   classical
   let I:Nat->Act->World->Prop:=λN a w=> ∃v X F,f N v=some r/\R n W0 w X F [] (Qgu C.lent p v) a
   let μ:Act->World->Nat:=λa w=>if h:∃N,I N a w then(Xcz h).choose else 0
   refine wp_loop (λa w=> ∃N,I N a w) μ ⟨_,v,X2,F2,hv,U⟩ λa w hI=>?_;have am:I (μ a w) a w:=by
    grind
   obtain⟨v,X,F,hv,E⟩:=am;generalize hM:μ a w=M at hv;cases M with
   |zero=>simp_all
   |succ N=>
    obtain⟨h1,Q⟩:=hN N;rw[h1]at hv;refine wp_mono (ih Q hv E) λe H G K=>?_;obtain⟨u,q,t,hk,D⟩:=K;cases e with
    |normal=>
     obtain⟨v',X3,F3,ab,ad⟩:=Qcq hC hl D hk;have aa:I N H G:=⟨v',X3,F3,ab,ad⟩
     have V:∃N,I N H G:=⟨N,aa⟩
     refine⟨V,?_⟩;have:μ H G<=N:=by
      simp only[μ,dif_pos V];exact(Xcz V).choose_spec.2 N aa
     omega
    |_=>exact⟨u,q,t,hk,D⟩
  |unroll L m A=>
   simp only[Vo]at d;simp only[Zbg]at J;refine wp_loop_rounds m ?_
   induction m generalizing s w X F a with
   |zero=>cases d
   |succ m W=>
    simp only[Z6l]at d;obtain⟨F0,h0⟩:=R.keep (L:=L) h;refine wp_mono (ih (J m (Nat.lt_succ_self m)) d h0) λe H G K=>?_;obtain⟨u,q,t,hk,D⟩:=K;cases e with
    |normal=>exact W D (λi hi=>J i (Nat.lt_succ_of_lt hi)) hk
    |_=>exact⟨u,q,t,hk,D⟩
  |leaf=>
   simp only[Vo]at d;refine wp_loop_rounds 6 ?_;generalize 6=m at d
   induction m generalizing s w X F a with
   |zero=>cases d
   |succ m W=>
    simp only[Z6l]at d;obtain⟨F0,h0⟩:=R.keep (L:=Qrn s.env) h;refine wp_mono (ih (Y0 _ _) d h0) λe H G K=>?_;obtain⟨u,q,t,hk,D⟩:=K;cases e with
    |normal=>exact W D hk
    |_=>exact⟨u,q,t,hk,D⟩
  |_=>simp[Vo]at d
 |exit Y=>intro A k s w X F a _ d h;exact wp_exit ⟨s,X,F,d,h⟩
 |ret=>
  intro A k s w X F a _ d h;simp only[Vo]at d;obtain⟨X,F,h⟩:=h.frzA hC A;exact wp_ret ⟨_,X,F,d,h⟩
 |rangeFunc=>simp_all[Vo]
 |scope=>simp_all[Vo]
 |label=>simp_all[Vo]
 |goto=>simp_all[Vo]
 |refuse=>simp_all[Vo]
theorem Zay.of{C:Cfg}(hC:∀ln,({C with lent:=ln}:Cfg).ok P g){E:Zvd}{fn:Func}{c:Code}(hf:P.funcs[E.f]? =some fn)(hb:fn.body=some c)(hcall:∀args w,(callFunc E.f args).run P w=.ok (.enter E.f args) w)
  (hle:E.np<=E.n/\E.n<=1048576) (hn:fn.ntmps=E.n) (hrv:fn.results.toList=E.rv) (hrun:∀{ρ:Type}(ln:List Nat)(k:Exit->St->Option ρ)(s:St),E.run ln k s=Vo {C with lent:=ln} E.n c .leaf k s):Zay P g E where
 enters:=hcall
 le:=hle
 code:=⟨fn,c,hf,hb,hn,hrv,λ{ρ k r ln e w X F s a} b d h=>by
  rw[hrun]at b;exact Z0q (hC ln) d (Y0 c k) b h⟩
end
end Go.Am
namespace Go.Am
open Go.RowKit
section
variable {P:Program}{g:Kx}{W0:Zc6 g}{w w':World}{X X':Nat->Prop}{B B' n:Nat}{own:Bool}{s s':St}{F:Key->List Nat}{a:Act}{H H':List Nat}{o:Oper}{tg:Ye}{τ:Tab}{C:Cfg}{gh:Nat->Value}
theorem Zlk(hB:own=false\/B'<=B)(hX:own=true\/ ∀b,X b->X' b):∀{T:Ty}{x:T.den}{vs:List Value}{S:List Nat},rd w X B own T x vs S->rd w X' B' own T x vs S
 |.unit,_,_,_,h|.int _,_,_,_,h|.bool,_,_,_,h|.fnc _,_,_,_,h|.str,_,_,_,h=>h
 |.slice _ _,_,_,_,⟨v,l,g,i,e,j,d,f⟩=>by
  refine⟨v,l,g,i,e,j,?_,Jy f λ_ _ _ _ _ h=>Zlk hB hX h⟩;cases own
  ·have hX:=hX.resolve_left (by simp);obtain⟨m,p,a,k,q,r,s,u⟩:=d;exact⟨m,p,a,k,q,r,s,u.imp id λ⟨z,A,C,D⟩=>⟨z,A,C.imp id (hX _),D⟩⟩
  ·exact⟨Z55 d.1 (hB.resolve_left (by simp)),d.2⟩
 |.pair a b,_,_,_,⟨E,F,g,i,e,j,d,f⟩=>⟨E,F,g,i,e,j,Zlk hB hX d,Zlk hB hX f⟩
 |.arr n t,_,_,_,⟨h,G⟩=>⟨h,Jy G λ_ _ _ _ _ h=>Zlk hB hX h⟩
 |.err,_,_,_,h=>h
 |.hid _,_,_,_,⟨e,y,h⟩=>⟨e,y,Zlk hB hX h⟩
 |.sptr ..,_,_,_,⟨e,o,b,c,d,f,H,I⟩=>⟨e,o,b,c,d,hX.resolve_left (by simp[o]) b f,H,Zlk hB hX I⟩
 |.clo ..,_,_,_,⟨e,J,d,f⟩=>⟨e,J,d,Zlk hB hX f⟩
def Qby(τ:Tab):(ts:List Ty)->List ResultVar->St->Option (Vm ts)
 |[],[],_=>some ()
 |t::ts,.tmp k::rs,s=>match Zyu s (op1 s [] (.tmp k)) t with
  |some q=>match Zcb q.T q.f (.u true),J8 t q.T q.x,Qby τ ts rs q.s with
   |true,some x,some xs=>some (x,xs)
   |_,_,_=>none
  |none=>none
 |t::ts,.cell k e::rs,s=>match s.get (.m k),τ e with
  |.box e0 U f y,some U'=>match(Nat.blt k 1048576&&decide (U=U'))&&Zcb U f (.u true),J8 t U y,Qby τ ts rs (Vv s k (.box e0 U .d y))with
   |true,some x,some xs=>some (x,xs)
   |_,_,_=>none
  |_,_=>none
 |_,_,_=>none
def fnK(τ:Tab)(ts:List Ty)(rs:List ResultVar):Exit->St->Option (Vm ts)|.ret,s|.normal,s=>Qby τ ts rs s|_,_=>none
theorem Zyh(hτ:τ.ok P):∀{ts:List Ty}{rs:List ResultVar}{s:St}{F:Key->List Nat}{H:List Nat}{xs:Vm ts},R n W0 w X F H s a->Qby τ ts rs s=some xs->
  ∃vs S,(rs.mapM (Zqd a)).run P w=.ok vs w/\Zjl w W0.B ts xs vs S/\S.Nodup/\ ∀b∈S,b∉H
 |[],[],s,F,H,xs,h,g=>⟨[],[],by simp,⟨rfl,rfl⟩,by simp,by simp⟩
 |t::ts,.tmp k::rs,s,F,H,xs,h,g=>by
  simp only[Qby]at g;split at g
  ·rename_i q V;split at g
   ·rename_i x C o hx l;simp only[Osi]at g;subst g;obtain⟨_,F1,i,r,W,Y,p,_,_⟩:=Zea h Zag V;obtain⟨rfl,rfl⟩:=Zip hx;obtain⟨vs,S,Z,D,K,L⟩:=Zyh hτ p l;refine⟨_,i++S,?_,⟨r,vs,i,S,rfl,rfl,Zlk (.inr (Nat.le_refl _)) (.inl rfl) (by have:=Zms o Y;unfold rdF at this;exact this),D⟩,?_,?_⟩
    ·have E:(a.tmps.getD k undef)=Yz q.T r:=W;simp_all[Zqd]
    ·exact List.nodup_append.2 ⟨(List.nodup_append.1 p.hnodup).1,K,λx hx y z e=>L y z (by simp_all)⟩
    ·intro b hb hH;rcases List.mem_append.1 hb with hb|hb
     ·exact(List.nodup_append.1 p.hnodup).2.2 b hb b hH rfl
     simp_all
   ·cases g
  ·cases g
 |t::ts,.cell k e::rs,s,F,H,xs,h,g=>by
  simp only[Qby]at g;split at g
  ·rename_i e' U f y U' M hU;split at g
   ·rename_i x C o hx l;simp only[Oba,decide_eq_true_eq]at o;obtain⟨⟨G,rfl⟩,o⟩:=o;simp only[Osi]at g;subst g;obtain⟨rfl,rfl⟩:=Zip hx;have N:=h.slots (.m k);rw[M]at N;obtain⟨b,c,i,O,g2,Q,A⟩:=N;have v:=h.nodup (.m k);rw[g2]at v;have p:R n W0 w X (Xb F (.m k) [b]) (i++H) (Vv s k (.box e' U .d x)) a:=by
     refine h.turn (S':=[b]) (H':=i++H) h.below (Nat.le_refl _) (λ_ _=>rfl) (λ_ _ _ _=>rfl) ?_ ?_ (by rw[M];simp) ?_ ?_
     ·simp_all
     ·have hd:∀I∈b::i,I∉H:=λI aa=>h.hdisj (.m k) I (by simp_all);refine List.nodup_append.2 ⟨by simp,List.nodup_append.2 ⟨(List.nodup_cons.1 v).2,h.hnodup,λx hx y z e=>hd x (by simp[hx]) (by rw[e];exact z)⟩,λx hx y z e=>?_⟩;simp_all
     ·grind
     ·exact⟨b,c,[],O,rfl,Q,by unfold rdF;exact⟨Y2 A,Zmr A,rfl⟩⟩
    obtain⟨vs,S,Z,D,K,L⟩:=Zyh hτ p l;have ab:=p.hnodup;refine⟨_,i++S,?_,⟨c.toList,vs,i,S,rfl,rfl,Zlk (.inr (Nat.le_refl _)) (.inl rfl) (by have:=Zms o A;unfold rdF at this;exact this),D⟩,?_,?_⟩
    ·have E:(a.tmps.getD k undef)=.pointer (some ⟨b,0,none⟩):=(Yr W0 a G).symm.trans O;have J:=(hτ _ _ hU).load (w:=w) (ad:=⟨b,0,none⟩) (vs:=c.toList) (Y2 A) (λj u hj=>by
      rw[Zl0 w Q,<-Array.getElem?_toList,Nat.zero_add];exact hj)
     simp_all[Zqd,asAddr]
    all_goals grind
   ·cases g
  ·cases g
 |[],.tmp _::_,_,_,_,_,_,g|[],.cell .. ::_,_,_,_,_,_,g|_::_,[],_,_,_,_,_,g=>by simp[Qby]at g
def Xb9:(t:Ty)->t.den->Tm|.sptr _ t,x=>.shp t x|t,x=>.val t (.u false) x
def Qx0:(ts:List Ty)->Vm ts->Nat->List (Key×Tm)|[],_,_=>[]|t::ts,x,i=>(.m i,Xb9 t x.1)::Qx0 ts x.2 (i+1)
def Qm2(ts:List Ty)(x:Vm ts):St:={env:=Qx0 ts x 0,dirty:=[]}
theorem Z5f(a:Act):∀{ts:List Ty}{x:Vm ts}{vals pre:List Value}{i:Nat},Zuh w X 0 ts x vals->pre.length=i->a.tmps.toList.take (pre.length+vals.length)=pre++vals->
  ∀k,vt W0.gh w X W0.B s F a (Q2 W0.gh a k) [] (Zka (Qx0 ts x i) k)/\(∀d j,k=.c d j->Zka (Qx0 ts x i) k=.junk)
 |[],_,_,_,_,_,_,_,k=>⟨rfl,λ_ _ _=>rfl⟩
 |t::ts,x,vals,pre,i,h,o,E,k=>by
  obtain⟨g,p,rfl,n,q⟩:=h;have r:=Z5f a (pre:=pre++[Yz t g]) (i:=i+1) q (by simp[o]) (by grind) k;simp only[Qx0,Z7];split
  ·rename_i e;subst e;refine⟨?_,λ_ _ v=>by simp at v⟩;have l:Q2 W0.gh a (.m i)=Yz t g->vt W0.gh w X W0.B s F a (Q2 W0.gh a (.m i)) [] (Xb9 t x.1):=λhv=>by
    have f:vt W0.gh w X W0.B s F a (Q2 W0.gh a (.m i)) [] (.val t (.u false) x.1):=⟨g,hv,by unfold rdF;exact Zlk (.inl rfl) (.inr λ_ h=>h) n⟩
    cases t with
    |sptr G H=>
     obtain⟨_,_,b,c,y,z,A,C⟩:=n;refine⟨rfl,⟨b,0,none⟩,c.toList,by rw[hv,y];rfl,z,λj u D=>?_,Zlk (.inl rfl) (.inr λ_ h=>h) C⟩;rw[Zl0 w A,<-Array.getElem?_toList,Nat.zero_add];exact D
    |_=>exact f
   refine l ?_;have:a.tmps.toList[i]? =some (Yz t g):=by
    have I:(a.tmps.toList.take (pre.length+(Yz t g::p).length))[i]? =some (Yz t g):=by simp_all
    grind
   simp_all[Q2,Zqf]
  ·exact r
theorem Z59:∀{ts:List Ty}{x:Vm ts}{vs:List Value},Zuh w X B ts x vs->vs.length=ts.length
 |[],_,_,h=>by rw[show _=[]from h];rfl
 |t::ts,x,vs,⟨_,a,e,_,h⟩=>by rw[e];simp[Z59 h]
theorem Zn8.of{e:FnE}(hC:C.ok P g)(hsf:C.soft=false:=by rfl){fn:Func}{c:Code}(hf:P.funcs[e.f]? =some fn)(hb:fn.body=some c)(hcall:∀args w,(callFunc e.f args).run P w=.ok (.enter e.f args) w)
  (hn:e.args.length<=fn.ntmps) (A:An (Vm e.res)) (hA:Zbg C fn.ntmps c A (fnK C.τ e.res fn.results.toList))
  (hF:∀xs r,e.F xs=some r->Vo C fn.ntmps c A (fnK C.τ e.res fn.results.toList) (Qm2 e.args xs)=some r):Zn8 P g e where
 enters:=hcall
 calls:=λw xs r a j hx q=>by
  have G:=Z59 hx;refine calls_of_wp hf hb ?_
  let a0:Act:={tmps:=a.toArray++Array.replicate (fn.ntmps-a.toArray.size) undef,defers:=[]}
  have t:R fn.ntmps (Zc6.plain g w (hC.soft.trans hsf)) w (· <w.heap.size) (λ_=>[]) [] (Qm2 e.args xs) a0:=by
   have l:=λk=>Z5f (W0:=Zc6.plain g w (hC.soft.trans hsf)) (s:=Qm2 e.args xs) (F:=λ_=>[]) a0 (pre:=[]) (i:=0) hx rfl (by simp[a0]) k;exact
    {size:=by simp[a0];omega
     defers:=rfl
     below:=⟨rfl,rfl,rfl,Nat.le_refl _,λ_ _=>rfl⟩
     glob:=j
     gx:=λb hb=>g.lt _ _ j hb
     xs:=λe=>Bool.noConfusion ((hC.soft.trans hsf).symm.trans e)
     fix:=λp m=>by cases m
     xlt:=λb hb=>hb
     xin:=λb hb=>.inl hb
     x0:=λb hb=>hb
     own:=by simp
     nodup:=by simp
     disj:=by simp
     hown:=by simp
     hnodup:=by simp
     hdisj:=by simp
     comps:=λd i u=>absurd ((l (.c d i)).2 d i rfl) u
     slots:=λk=>(l k).1}
  refine wp_mono (Z0q hC (λp m=>by cases m) hA (hF xs r q) t) λx o n m=>?_;obtain⟨y,H,I,hk,h⟩:=m;have fin:Qby C.τ e.res fn.results.toList y=some r->o.defers=[]/\ ∃v,(results fn o.tmps).run P n=.ok v n/\ ∃rs S,Ending.returned v=.returned (Jq rs)/\Zjl n w.heap.size e.res r rs S/\S.Nodup/\Below w.heap.size w n:=by
   intro hk;obtain⟨z,S,B,D,E,_⟩:=Zyh hC.τ h hk;exact⟨h.defers,_,Zrc B,z,S,rfl,D,E,h.below.os,h.below.tape,h.below.output,h.below.size,h.below.block⟩
  cases x with
  |normal=>exact fin hk
  |ret=>exact fin hk
  |_=>simp[fnK]at hk
def Q6i(τ:Tab)(e:FnL)(rs:List ResultVar):Exit->St->Option (Vm e.res×List e.t.den)
 |.ret,s|.normal,s=>match s.get (.m 0)with
  |.val T (.u true) y=>match J8 (.slice e.e e.t) T y,Qby τ e.res rs s with
   |some l,some r=>some (r,l)
   |_,_=>none
  |_=>none
 |_,_=>none
def Qm4(e:FnL)(l:List e.t.den)(x:Vm e.args):St:={env:=(.m 0,.val (.slice e.e e.t) (.u true) l)::Qx0 e.args x 1,dirty:=[],lent:=[0]}
theorem Qpj:∀{ts:List Ty}{x:Vm ts}{vs:List Value}{S:List Nat},Qn4 ts=true->Zjl w B ts x vs S->Zjl w B' ts x vs []
 |[],_,_,_,_,h=>⟨h.1,rfl⟩
 |t::ts,x,vs,S,a,⟨b,c,g,i,d,j,e,f⟩=>by
  simp only[Qn4,List.all_cons,Oba]at a;exact⟨b,c,[],[],d,rfl,(Ztb a.1 e).2,Qpj a.2 f⟩
theorem Qej.of{e:FnL}(hC:C.ok P g)(hsf:C.soft=false:=by rfl)(hlent:C.lent=[0])(hfl:e.t.flat=true)(hfr:Qn4 e.res=true){fn:Func}{c:Code}(hf:P.funcs[e.f]? =some fn)(hb:fn.body=some c)(hcall:∀args w,(callFunc e.f args).run P w=.ok (.enter e.f args) w)
  (hn:e.args.length+1<=fn.ntmps) (A:An (Vm e.res×List e.t.den)) (hA:Zbg C fn.ntmps c A (Q6i C.τ e fn.results.toList))
  (hF:∀l xs r,e.F l xs=some r->Vo C fn.ntmps c A (Q6i C.τ e fn.results.toList) (Qm4 e l xs)=some r):Qej P g e where
 flat:=hfl
 enters:=hcall
 calls:=λw X L l E xs r v a G H I J K o hx hr=>by
  have hl:=Z59 hx;have q:∀b∈L,b<w.heap.size:=λb hb=>(Zzg o b hb).2;refine calls_of_wp hf hb ?_
  let a0:Act:={tmps:=(v::a).toArray++Array.replicate (fn.ntmps- (v::a).toArray.size) undef,defers:=[]}
  let z:Zc6 g:={W:=w,B:=0,Y:=λb=>b<w.heap.size/\b∉L,L:=(· ∈L),X0:=X,fix:=[(0,v)],bB:=Nat.zero_le _,fr:=λe=>Bool.noConfusion ((hC.soft.trans hsf).symm.trans e),yW:=λ_ h=>h.1,yL:=λ_ h M=>h.2 M}
  have aa:a0.tmps.toList=(v::a)++List.replicate (fn.ntmps- (v::a).toArray.size) undef:=by simp[a0]
  have N:Q2 z.gh a0 (.m 0)=v:=by
   grind[Q2,Zqf]
  have O:a0.tmps.toList.take (([v]:List Value).length+a.length)=[v]++a:=by
   grind
  have h0:R fn.ntmps z w X (λk=>if k=.m 0 then L else[]) [] (Qm4 e l xs) a0:=by
   have ab:=λk=>Z5f (W0:=z) (s:=Qm4 e l xs) (F:=λk=>if k=.m 0 then L else[]) a0 (pre:=[v]) (i:=1) hx rfl O k;have D:∀k,(Qm4 e l xs).get k=if Key.m 0=k then .val (.slice e.e e.t) (.u true) l else Zka (Qx0 e.args xs 1) k:=λk=>Z7 _ _ _ _;exact
    {size:=by simp[a0];omega
     defers:=rfl
     below:=⟨rfl,rfl,rfl,Nat.le_refl _,λ_ _=>rfl⟩
     glob:=G
     gx:=H
     xs:=λe=>Bool.noConfusion ((hC.soft.trans hsf).symm.trans e)
     fix:=λp Q=>by
      grind[Qm4]
     xlt:=I
     xin:=λb hb=>.inl hb
     x0:=λb hb=>hb
     own:=λk b hb=>by
      split at hb
      ·exact⟨.inr hb,q b hb,J b hb⟩
      ·cases hb
     nodup:=λk=>by split;exact K;simp
     disj:=λk k' b hb ad=>by
      simp_all
     hown:=by simp
     hnodup:=by simp
     hdisj:=by simp
     comps:=λd i hc=>by
      simp_all
     slots:=λk=>by
      rw[D];by_cases hk:Key.m 0=k
      ·subst hk;simp only[if_true];exact⟨[v],by rw[N];rfl,by grind[rdF]⟩
      grind}
  refine wp_mono (Z0q hC (λp Q=>by grind) hA (hF l xs (r,E) hr) h0) λex U w' Q=>?_;obtain⟨s',X',F',hk,n⟩:=Q;have fin:Q6i C.τ e fn.results.toList .ret s'=some (r,E)->U.defers=[]/\ ∃v',(results fn U.tmps).run P w'=.ok v' w'/\ ∃rs S,Ending.returned v'=.returned (Jq rs)/\Zjl w' w.heap.size e.res r rs S/\S.Nodup/\(∃X',rd w' X' 0 true (.slice e.e e.t) E [v] L)/\
    w'.os=w.os/\w'.tape=w.tape/\w'.output=w.output/\w.heap.size<=w'.heap.size/\ ∀b,b<w.heap.size->b∉L->w'.heap[b]? =w.heap[b]? :=by
   intro hk;simp only[Q6i]at hk;split at hk
   ·rename_i T y hg;split at hk
    ·rename_i l2 r2 V Z;simp only[Osi,Opi]at hk;obtain⟨rfl,rfl⟩:=hk;obtain⟨vs,S,k1,k2,k3,_⟩:=Zyh hC.τ n Z;have hs:=n.slots (.m 0);rw[hg]at hs;obtain⟨us,h1,h2⟩:=hs;obtain⟨rfl,rfl⟩:=Zip V;unfold rdF at h2;obtain⟨u,rfl⟩:∃u,us=[u]:=List.length_eq_one_iff.1 (Y6 h2);have hu:Q2 z.gh U (.m 0)=u:=h1;have j:=(n.fix (0,v) (by simp[z])).2;simp only at j;rw[hu]at j;subst j;have ae:F' (.m 0)=L:=by
      obtain⟨v1,ag,S1,S2,e1,e2,g1,g2⟩:=h2;obtain⟨v2,ah,S3,S4,e3,e4,g3,g4⟩:=o;simp only[List.cons.injEq,and_true]at e1 e3;subst e1;subst e3;rw[e2,e4,(Ziy (r':=λ_ _ _=>True) (λx v S h=>⟨(Ztb (w':=w') (X':=X') (B':=0) (own':=true) hfl h).1,trivial⟩) g2).1,(Ziy (r':=λ_ _ _=>True) (λx v S h=>⟨(Ztb (w':=w') (X':=X') (B':=0) (own':=true) hfl h).1,trivial⟩) g4).1,g1.2,g3.2]
     exact⟨n.defers,_,Zrc k1,vs,[],rfl,Qpj hfr k2,by simp,⟨X',by grind⟩,n.below.os,n.below.tape,n.below.output,n.below.size,λb hb M=>n.below.block b ⟨hb,M⟩⟩
    ·cases hk
   ·cases hk
  cases ex with
  |normal=>exact fin hk
  |ret=>exact fin hk
  |_=>simp[Q6i]at hk
end
end Go.Am
namespace Go.Am
open Go.RowKit
def Qen:(as:List AK)->Z6o as->Nat->List (Key×Tm)|[],_,_=>[]|.sh t::r,x,i=>(.m i,.val t (.u false) x.1)::Qen r x.2 (i+1)|.bx e t o::r,x,i=>(.m i,.box e t o x.1)::Qen r x.2 (i+1)|.mv t::r,x,i=>(.m i,.val t (.u true) x.1)::Qen r x.2 (i+1)
def Znh:List AK->Nat->List Nat|[],_=>[]|.sh _::r,i=>Znh r (i+1)|.bx _ _ _::r,i=>i::Znh r (i+1)|.mv _::r,i=>Znh r (i+1)
def Qm3(as:List AK)(x:Z6o as):St:={env:=Qen as x 0,dirty:=[],lent:=Znh as 0}
def Zqr:List AK->List Value->Nat->List (Nat×Value)|.sh _::r,_::vs,i=>Zqr r vs (i+1)|.bx _ _ _::r,v::vs,i=>(i,v)::Zqr r vs (i+1)|.mv _::r,_::vs,i=>Zqr r vs (i+1)|_,_,_=>[]
def Q37(s:St):(as:List AK)->Nat->Option (Zyb as)
 |[],_=>some ()
 |.sh _::r,i=>Q37 s r (i+1)
 |.bx e T o::r,i=>match s.get (.m i)with
  |.box e' U f y=>match Nat.beq e' e&&Qic o f U,J8 T U y,Q37 s r (i+1)with
   |true,some z,some zs=>some (z,zs)
   |_,_,_=>none
  |_=>none
 |.mv _::r,i=>Q37 s r (i+1)
def Qn8:List AK->Nat->St->St|[],_,s=>s|.sh _::r,i,s=>Qn8 r (i+1) s|.bx _ _ o::r,i,s=>Qn8 r (i+1) (Q96 s i o)|.mv _::r,i,s=>Qn8 r (i+1) s
def Z5n(τ:Tab):(ts:List Ty)->List ResultVar->St->Option (Vm ts×St)
 |[],[],s=>some ((),s)
 |t::ts,.tmp k::rs,s=>match Zyu s (op1 s [] (.tmp k)) t with
  |some q=>match Zcb q.T q.f (.u true),J8 t q.T q.x,Z5n τ ts rs q.s with
   |true,some x,some (xs,s')=>some ((x,xs),s')
   |_,_,_=>none
  |none=>none
 |t::ts,.cell k e::rs,s=>match s.get (.m k),τ e with
  |.box e0 U f y,some U'=>match(Nat.blt k 1048576&&decide (U=U'))&&Zcb U f (.u true),J8 t U y,Z5n τ ts rs (Vv s k (.box e0 U .d y))with
   |true,some x,some (xs,s')=>some ((x,xs),s')
   |_,_,_=>none
  |_,_=>none
 |_,_,_=>none
def Z5p(τ:Tab):(ts:List Ty)->List ResultVar->St->Option (Vm ts)
 |[],[],_=>some ()
 |t::ts,.tmp k::rs,s=>match Qea s (op1 s [] (.tmp k)) t,Z5p τ ts rs s with
  |some x,some xs=>some (x,xs)
  |_,_=>none
 |t::ts,.cell k e::rs,s=>match s.get (.m k),τ e with
  |.box _ U f y,some U'=>match(Nat.blt k 1048576&&decide (U=U'))&&Zq4 f U,J8 t U y,Z5p τ ts rs s with
   |true,some x,some xs=>some (x,xs)
   |_,_,_=>none
  |_,_=>none
 |_,_,_=>none
def Z5l(τ:Tab):(ts:List (Ty×Fl))->List ResultVar->St->Option (Z13 ts×St)
 |[],[],s=>some ((),s)
 |t::ts,.tmp k::rs,s=>match Zyu s (op1 s [] (.tmp k)) t.1 with
  |some q=>match Qic t.2 q.f q.T,J8 t.1 q.T q.x,Z5l τ ts rs q.s with
   |true,some x,some (xs,s')=>some ((x,xs),s')
   |_,_,_=>none
  |none=>none
 |t::ts,.cell k e::rs,s=>match s.get (.m k),τ e with
  |.box e0 U f y,some U'=>match(Nat.blt k 1048576&&decide (U=U'))&&Qic t.2 f U,J8 t.1 U y,Z5l τ ts rs (Vv s k (.box e0 U .d y))with
   |true,some x,some (xs,s')=>some ((x,xs),s')
   |_,_,_=>none
  |_,_=>none
 |_,_,_=>none
def Qcn(ln:List Nat)(τ:Tab):(r:RS)->List ResultVar->St->Option (Z6p r×St)
 |.vals ts,rs,s=>Z5n τ ts rs s
 |.newb e T,[.tmp k],s=>match Qr6 (op1 s [] (.tmp k))with
  |some q=>match s.get (.m q)with
   |.box e' U f y=>match Nat.beq e' e&&Qic (.u false) f U&& !(s.lent.any (Nat.beq q)),J8 T U y with
    |true,some z=>some (z,s)
    |_,_=>none
   |_=>none
  |none=>none
 |.newb _ _,_,_=>none
 |.shr ts,rs,s=>match Z5p τ ts rs s with
  |some x=>some (x,s)
  |none=>none
 |.flg ts,rs,s=>Z5l τ ts rs s
 |.fp T j p1 p2,[.tmp k],s=>match op1 s [] (.tmp k),ln[j]? with
  |.tm _ (.ptr q p),some q'=>match s.get (.m q),Nat.beq q' q with
   |.box _ U _ _,true=>match decide (U=T),Qk9 p p1,Qk9 p p2 with
    |true,true,_=>some (true,s)
    |true,false,true=>some (false,s)
    |_,_,_=>none
   |_,_=>none
  |_,_=>none
 |.fp ..,_,_=>none
def Qyi(τ:Tab)(as:List AK)(r:RS)(rs:List ResultVar):Exit->St->Option (Z6p r×Zyb as)
 |.ret,s|.normal,s=>match Qcn (Znh as 0) τ r rs (Qn8 as 0 s)with
  |some (x,s')=>match Q37 s' as 0 with
   |some z=>some (x,z)
   |none=>none
  |none=>none
 |_,_=>none
section
variable {P:Program}{g:Kx}{W0:Zc6 g}{w w':World}{X X':Nat->Prop}{B B' n:Nat}{own:Bool}{s s':St}{F:Key->List Nat}{a:Act}{H H':List Nat}{o:Oper}{tg:Ye}{τ:Tab}{C:Cfg}{gh:Nat->Value}
theorem R.hperm(h:R n W0 w X F H s a)(hp:H'.Perm H):R n W0 w X F H' s a:=
 {h with
  hown:=λb c=>h.hown b (hp.mem_iff.1 c)
  hnodup:=hp.nodup_iff.2 h.hnodup
  hdisj:=λk b c d=>h.hdisj k b c (hp.mem_iff.1 d)}
theorem Z5o(hτ:τ.ok P):∀{ts:List Ty}{rs:List ResultVar}{s:St}{F:Key->List Nat}{H:List Nat}{xs:Vm ts}{s':St},R n W0 w X F H s a->Z5n τ ts rs s=some (xs,s')->
  ∃vs S F',(rs.mapM (Zqd a)).run P w=.ok vs w/\Zjl w W0.B ts xs vs S/\R n W0 w X F' (S++H) s' a
 |[],[],s,F,H,xs,s',h,g=>by
  simp only[Z5n,Osi,Opi]at g;obtain⟨_,rfl⟩:=g;exact⟨[],[],F,by simp,⟨rfl,rfl⟩,h⟩
 |t::ts,.tmp k::rs,s,F,H,xs,s',h,g=>by
  simp only[Z5n]at g;split at g
  ·rename_i q Q;split at g
   ·rename_i x z V o hx l;simp only[Osi,Opi]at g;obtain⟨rfl,rfl⟩:=g;obtain⟨_,F1,i,p,W,Y,A,_,_⟩:=Zea h Zag Q;obtain⟨rfl,rfl⟩:=Zip hx;obtain⟨vs,S,F',Z,C,D⟩:=Z5o hτ A l;refine⟨_,i++S,F',?_,⟨p,vs,i,S,rfl,rfl,Zlk (.inr (Nat.le_refl _)) (.inl rfl) (by have:=Zms o Y;unfold rdF at this;exact this),C⟩,D.hperm ?_⟩
    ·have E:(a.tmps.getD k undef)=Yz q.T p:=W;simp_all[Zqd]
    grind
   ·cases g
  ·cases g
 |t::ts,.cell k e::rs,s,F,H,xs,s',h,g=>by
  simp only[Z5n]at g;split at g
  ·rename_i e' U f y U' K hU;split at g
   ·rename_i x z V o hx l;simp only[Oba,decide_eq_true_eq]at o;obtain⟨⟨G,rfl⟩,o⟩:=o;simp only[Osi,Opi]at g;obtain⟨rfl,rfl⟩:=g;obtain⟨rfl,rfl⟩:=Zip hx;have L:=h.slots (.m k);rw[K]at L;obtain⟨b,c,i,M,g2,N,v⟩:=L;have r:=h.nodup (.m k);rw[g2]at r;have A:R n W0 w X (Xb F (.m k) [b]) (i++H) (Vv s k (.box e' U .d x)) a:=by
     refine h.turn (S':=[b]) (H':=i++H) h.below (Nat.le_refl _) (λ_ _=>rfl) (λ_ _ _ _=>rfl) ?_ ?_ (by rw[K];simp) ?_ ?_
     ·simp_all
     ·have hd:∀I∈b::i,I∉H:=λI aa=>h.hdisj (.m k) I (by simp_all);refine List.nodup_append.2 ⟨by simp,List.nodup_append.2 ⟨(List.nodup_cons.1 r).2,h.hnodup,λx hx y O e=>hd x (by simp[hx]) (by rw[e];exact O)⟩,λx hx y O e=>?_⟩;simp_all
     ·grind
     ·exact⟨b,c,[],M,rfl,N,by unfold rdF;exact⟨Y2 v,Zmr v,rfl⟩⟩
    obtain⟨vs,S,F',Z,C,D⟩:=Z5o hτ A l;refine⟨_,i++S,F',?_,⟨c.toList,vs,i,S,rfl,rfl,Zlk (.inr (Nat.le_refl _)) (.inl rfl) (by have:=Zms o v;unfold rdF at this;exact this),C⟩,D.hperm ?_⟩
    ·have E:(a.tmps.getD k undef)=.pointer (some ⟨b,0,none⟩):=(Yr W0 a G).symm.trans M;have J:=(hτ _ _ hU).load (w:=w) (ad:=⟨b,0,none⟩) (vs:=c.toList) (Y2 v) (λj u hj=>by
      rw[Zl0 w N,<-Array.getElem?_toList,Nat.zero_add];exact hj)
     simp_all[Zqd,asAddr]
    grind
   ·cases g
  ·cases g
 |[],.tmp _::_,_,_,_,_,_,_,g|[],.cell .. ::_,_,_,_,_,_,_,g|_::_,[],_,_,_,_,_,_,g=>by simp[Z5n]at g
theorem Z5m(hτ:τ.ok P):∀{ts:List (Ty×Fl)}{rs:List ResultVar}{s:St}{F:Key->List Nat}{H:List Nat}{xs:Z13 ts}{s':St},R n W0 w X F H s a->Z5l τ ts rs s=some (xs,s')->
  ∃vs S F',(rs.mapM (Zqd a)).run P w=.ok vs w/\Qqr w X W0.B ts xs vs S/\R n W0 w X F' (S++H) s' a
 |[],[],s,F,H,xs,s',h,g=>by
  simp only[Z5l,Osi,Opi]at g;obtain⟨_,rfl⟩:=g;exact⟨[],[],F,by simp,⟨rfl,rfl⟩,h⟩
 |(t,Q)::ts,.tmp k::rs,s,F,H,xs,s',h,g=>by
  simp only[Z5l]at g;split at g
  ·rename_i q V;split at g
   ·rename_i x z W o hx l;simp only[Osi,Opi]at g;obtain⟨rfl,rfl⟩:=g;obtain⟨_,F1,i,p,Y,Z,A,_,_⟩:=Zea h Zag V;obtain⟨rfl,rfl⟩:=Zip hx;obtain⟨vs,S,F',k1,C,D⟩:=Z5m hτ A l;refine⟨_,i++S,F',?_,⟨p,vs,i,S,rfl,rfl,Z2r o Z,C⟩,D.hperm ?_⟩
    ·have E:(a.tmps.getD k undef)=Yz q.T p:=Y;simp_all[Zqd]
    grind
   ·cases g
  ·cases g
 |(t,Q)::ts,.cell k e::rs,s,F,H,xs,s',h,g=>by
  simp only[Z5l]at g;split at g
  ·rename_i e' U f y U' K hU;split at g
   ·rename_i x z W o hx l;simp only[Oba,decide_eq_true_eq]at o;obtain⟨⟨G,rfl⟩,o⟩:=o;simp only[Osi,Opi]at g;obtain⟨rfl,rfl⟩:=g;obtain⟨rfl,rfl⟩:=Zip hx;have L:=h.slots (.m k);rw[K]at L;obtain⟨b,c,i,M,g2,N,v⟩:=L;have r:=h.nodup (.m k);rw[g2]at r;have A:R n W0 w X (Xb F (.m k) [b]) (i++H) (Vv s k (.box e' U .d x)) a:=by
     refine h.turn (S':=[b]) (H':=i++H) h.below (Nat.le_refl _) (λ_ _=>rfl) (λ_ _ _ _=>rfl) ?_ ?_ (by rw[K];simp) ?_ ?_
     ·simp_all
     ·have hd:∀I∈b::i,I∉H:=λI aa=>h.hdisj (.m k) I (by simp_all);refine List.nodup_append.2 ⟨by simp,List.nodup_append.2 ⟨(List.nodup_cons.1 r).2,h.hnodup,λx hx y O e=>hd x (by simp[hx]) (by rw[e];exact O)⟩,λx hx y O e=>?_⟩;simp_all
     ·grind
     ·exact⟨b,c,[],M,rfl,N,by unfold rdF;exact⟨Y2 v,Zmr v,rfl⟩⟩
    obtain⟨vs,S,F',k1,C,D⟩:=Z5m hτ A l;refine⟨_,i++S,F',?_,⟨c.toList,vs,i,S,rfl,rfl,Z2r o v,C⟩,D.hperm ?_⟩
    ·have E:(a.tmps.getD k undef)=.pointer (some ⟨b,0,none⟩):=(Yr W0 a G).symm.trans M;have J:=(hτ _ _ hU).load (w:=w) (ad:=⟨b,0,none⟩) (vs:=c.toList) (Y2 v) (λj u hj=>by
      rw[Zl0 w N,<-Array.getElem?_toList,Nat.zero_add];exact hj)
     simp_all[Zqd,asAddr]
    grind
   ·cases g
  ·cases g
 |[],.tmp _::_,_,_,_,_,_,_,g|[],.cell .. ::_,_,_,_,_,_,_,g|_::_,[],_,_,_,_,_,_,g=>by simp[Z5l]at g
theorem Z3l(hτ:τ.ok P)(h:R n W0 w X F H s a):∀{ts:List Ty}{rs:List ResultVar}{xs:Vm ts},Z5p τ ts rs s=some xs->
  ∃vs,(rs.mapM (Zqd a)).run P w=.ok vs w/\Qw1 w X ts xs vs
 |[],[],xs,d=>⟨[],by simp,rfl⟩
 |t::ts,.tmp k::rs,xs,d=>by
  simp only[Z5p]at d;split at d
  ·rename_i x p hx g;simp only[Osi]at d;subst d;obtain⟨A,D,E⟩:=Z6b h (x:=.tmp k) hx;obtain⟨vs,G,q⟩:=Z3l hτ h g;refine⟨_,?_,A,vs,rfl,E,q⟩;have r:(a.tmps.getD k undef)=Yz t A:=D;simp_all[Zqd]
  ·cases d
 |t::ts,.cell k e::rs,xs,d=>by
  simp only[Z5p]at d;split at d
  ·rename_i Q U f y S I J;split at d
   ·rename_i x p l hx g;simp only[Oba,decide_eq_true_eq]at l;obtain⟨⟨v,rfl⟩,l⟩:=l;simp only[Osi]at d;subst d;obtain⟨rfl,rfl⟩:=Zip hx;have B:=h.slots (.m k);rw[I]at B;obtain⟨b,c,K,L,V,M,C⟩:=B;have i:=Z2r (o:=.u false) l C;unfold rdF at i;have N:K=[]:=Znn i;subst N;obtain⟨vs,G,q⟩:=Z3l hτ h g;refine⟨_,?_,c.toList,vs,rfl,Zap i (by simp),q⟩;have r:(a.tmps.getD k undef)=.pointer (some ⟨b,0,none⟩):=(Yr W0 a v).symm.trans L;have z:=(hτ _ _ J).load (w:=w) (ad:=⟨b,0,none⟩) (vs:=c.toList) (Y2 C) (λj u O=>by
     rw[Zl0 w M,<-Array.getElem?_toList,Nat.zero_add];exact O)
    simp_all[Zqd,asAddr]
   ·cases d
  ·cases d
 |[],.tmp _::_,_,d|[],.cell .. ::_,_,d|_::_,[],_,d=>by simp[Z5p]at d
theorem Qti(hτ:τ.ok P){r:RS}{rs:List ResultVar}{x:Z6p r}(h:R n W0 w X F [] s a)(hB:W0.B=0){ln:List Nat}(hr:Qcn ln τ r rs s=some (x,s')):
  ∃vs S F',(rs.mapM (Zqd a)).run P w=.ok vs w/\rdS w X r x vs S/\R n W0 w X F' [] s' a/\S.Nodup/\(∀b,b∈S->W0.mine b/\b<w.heap.size/\ ¬X b)/\ ∀i,i∈s'.lent-> ∀b,b∈S->b∉F' (.m i):=by
 cases r with
 |vals A=>
  obtain⟨vs,S,F',u,l,g⟩:=Z5o hτ h (show Z5n τ A rs s=some (x,s')from hr);rw[hB]at l;exact⟨vs,S,F',u,l,g.drop,(by simpa using g.hnodup),λb o=>g.hown b (by simp[o]),λi _ b o v=>g.hdisj _ b v (by simp[o])⟩
 |newb e T=>
  match rs,hr with
  |[],hr=>cases hr
  |[.cell ..,.cell ..],hr=>cases hr
  |[.cell ..,.tmp _],hr=>cases hr
  |[.cell ..],hr=>cases hr
  |.tmp _::_::_,hr=>cases hr
  |.cell .. ::_::_::_,hr=>cases hr
  |[.tmp k],hr=>
   simp only[Qcn]at hr;split at hr
   ·rename_i q L;split at hr
    ·rename_i e' U f y J;split at hr
     ·rename_i z p M;simp only[Oba,Bool.not_eq_true']at p;simp only[Osi,Opi]at hr;obtain⟨D,rfl⟩:=hr;have t:x=z:=D.symm;subst t;have N:=Onb p.1.1;subst N;obtain⟨rfl,rfl⟩:=Zip M;have E:=Z28 h L J;have C:=h.slots (.m q);rw[J]at C;obtain⟨b,c,S,O,K,Q,V⟩:=C;have G:=Z2r p.1.2 V;unfold rdF at G;have W:S=[]:=Znn G;subst W;refine⟨[.pointer (some ⟨b,0,none⟩)],[b],F,?_,⟨b,c,rfl,rfl,Q,Zlk (.inl rfl) (.inr λ_ h=>h) G⟩,h,by simp,?_,?_⟩
      ·have Y:(a.tmps.getD k undef)=.pointer (some ⟨b,0,none⟩):=by
        have:a.eval (.tmp k)=_:=E;rw[O]at this;exact this
       simp_all[Zqd]
      ·intro H d;simp only[List.mem_singleton]at d;subst d;exact h.own (.m q) H (by rw[K];simp)
      ·intro i hi H d v;simp only[List.mem_singleton]at d;subst d;have:=h.disj (.m q) (.m i) H (by rw[K];simp) v;simp_all
     ·cases hr
    ·cases hr
   ·cases hr
 |shr A=>
  simp only[Qcn]at hr;split at hr
  ·rename_i Z hx;simp only[Osi,Opi]at hr;obtain⟨I,rfl⟩:=hr;have t:x=Z:=I.symm;subst t;obtain⟨vs,u,l⟩:=Z3l hτ h hx;exact⟨vs,[],F,u,⟨rfl,l⟩,h,by simp,by simp,by simp⟩
  ·cases hr
 |flg A=>
  obtain⟨vs,S,F',u,l,g⟩:=Z5m hτ h (show Z5l τ A rs s=some (x,s')from hr);rw[hB]at l;exact⟨vs,S,F',u,l,g.drop,(by simpa using g.hnodup),λb o=>g.hown b (by simp[o]),λi _ b o v=>g.hdisj _ b v (by simp[o])⟩
 |fp T j p1 p2=>
  match rs,hr with
  |[],hr=>cases hr
  |[.cell ..,.cell ..],hr=>cases hr
  |[.cell ..,.tmp _],hr=>cases hr
  |[.cell ..],hr=>cases hr
  |.tmp _::_::_,hr=>cases hr
  |.cell .. ::_::_::_,hr=>cases hr
  |[.tmp k],hr=>
   have C:s'=s:=by
    grind[Qcn]
   subst C;exact⟨[a.tmps.getD k undef],[],F,by rfl,rfl,h,by simp,by simp,by simp⟩
theorem Xec{r:RS}{rs:List ResultVar}{x:Z6p r}(h:R n W0 w X F H s a){ln:List Nat}(hr:Qcn ln τ r rs s=some (x,s')){vs:List Value}(hv:(rs.mapM (Zqd a)).run P w=.ok vs w)
  {BL:List Nat} (hb:∀(j q:Nat),ln[j]? =some q-> ∃b,BL[j]? =some b/\Q2 W0.gh a (.m q)=.pointer (some ⟨b,0,none⟩)):rdP r x vs BL:=by
 cases r with
 |fp T j J K=>
  match rs,hr with
  |[],hr=>cases hr
  |[.cell ..,.cell ..],hr=>cases hr
  |[.cell ..,.tmp _],hr=>cases hr
  |[.cell ..],hr=>cases hr
  |.tmp _::_::_,hr=>cases hr
  |.cell .. ::_::_::_,hr=>cases hr
  |[.tmp k],hr=>
   simp only[Qcn]at hr;split at hr
   ·rename_i L q p l hx B;split at hr
    ·rename_i e U f y o d;have d:=Onb d;subst d;obtain⟨t,M,N,O,Q,V,b,S,u,C,D⟩:=Jx h Zag hx (by simp);simp only[Operand.tmp.injEq]at t;subst t;rw[o]at u;cases u;have v:=h.slots (.m l);rw[o]at v;obtain⟨W,Y,Z,E,z,g3,g4⟩:=v;rw[C]at z;obtain⟨rfl,_⟩:=List.cons.inj z;obtain⟨b4,A,g⟩:=hb j l B;rw[E]at g;simp only[Value.pointer.injEq,Osi,Addr.mk.injEq,and_true]at g;subst g;have i:(a.tmps.getD k undef)=.pointer (some ⟨b,Wr U p,none⟩):=D;simp only[List.mapM_cons,List.mapM_nil,Zqd,Sem.run_bind,Sem.run_pure,Result.andThen_ok,i,Result.ok.injEq,and_true]at hv;subst hv;split at hr
     ·rename_i c G;have c:=Ode c;subst c;simp only[Osi,Opi]at hr;obtain⟨rfl,rfl⟩:=hr;exact⟨b,A,by grind[Z2e]⟩
     ·rename_i c I G;have c:=Ode c;subst c;simp only[Osi,Opi]at hr;obtain⟨rfl,rfl⟩:=hr;exact⟨b,A,by grind[Z2e]⟩
     ·cases hr
    ·cases hr
   ·cases hr
 |_=>trivial
theorem Qmn:∀{as:List AK}{x:Zyb as}{vals:List Value}{BL C:List Nat}{i j q:Nat},rdO w X as x vals BL C->(Znh as i)[j]? =some q-> ∃b,BL[j]? =some b/\(q,Value.pointer (some ⟨b,0,none⟩))∈Zqr as vals i
 |[],_,_,_,_,_,_,_,_,a=>by grind[Znh]
 |.sh _::r,_,_,_,_,i,j,q,⟨v,d,e,h⟩,a=>by
  subst e;exact Qmn (as:=r) (i:=i+1) h a
 |.mv _::r,_,_,_,_,i,j,q,⟨v,d,e,h⟩,a=>by
  subst e;exact Qmn (as:=r) (i:=i+1) h a
 |.bx _ _ _::r,_,_,_,_,i,j,q,⟨b,c,S,d,f,l,g,k,m,_,_,h⟩,a=>by
  subst g;subst k;cases j with
  |zero=>
   simp_all[Znh,Zqr]
  |succ j=>
   simp only[Znh,List.getElem?_cons_succ]at a;obtain⟨n,o,p⟩:=Qmn (as:=r) (i:=i+1) h a;simp_all[Zqr]
theorem Z54(h:R n W0 w X F H s a)(hB:W0.B=0):∀{as:List AK}{vals:List Value}{i:Nat}{z:Zyb as},Q37 s as i=some z->vals.length=as.length->(∀p,p∈Zqr as vals i->Q2 W0.gh a (.m p.1)=p.2)->
  ∃BL C,rdO w X as z vals BL C/\(BL++C).Nodup/\ ∀b,b∈BL++C-> ∃j,i<=j/\j∈Znh as i/\b∈F (.m j)
 |[],vals,i,z,d,g,_=>⟨[],[],⟨List.eq_nil_of_length_eq_zero g,rfl,rfl⟩,by simp,by simp⟩
 |.sh t::r,[],i,z,d,g,_=>by simp at g
 |.bx .. ::r,[],i,z,d,g,_=>by simp at g
 |.mv .. ::r,[],i,z,d,g,_=>by simp at g
 |.mv t::r,v::vals,i,z,d,g,l=>by
  obtain⟨BL,C,q,D,u⟩:=Z54 h hB (as:=r) (vals:=vals) (i:=i+1) d (by simpa using g) l;exact⟨BL,C,⟨v,vals,rfl,q⟩,D,λb E=>let⟨j,L,k2,x⟩:=u b E;⟨j,by omega,k2,x⟩⟩
 |.sh t::r,v::vals,i,z,d,g,l=>by
  obtain⟨BL,C,q,D,u⟩:=Z54 h hB (as:=r) (vals:=vals) (i:=i+1) d (by simpa using g) l;exact⟨BL,C,⟨v,vals,rfl,q⟩,D,λb E=>let⟨j,L,k2,x⟩:=u b E;⟨j,by omega,k2,x⟩⟩
 |.bx e T o::r,v::vals,i,z,d,g,l=>by
  simp only[Q37]at d;split at d
  ·rename_i Z U f y P;split at d
   ·rename_i z1 z2 A G I;simp only[Osi]at d;subst d;simp only[Oba]at A;have Q:=Onb A.1;subst Q;obtain⟨rfl,rfl⟩:=Zip G;obtain⟨BL,C,q,D,u⟩:=Z54 h hB (as:=r) (vals:=vals) (i:=i+1) I (by simpa using g) (λp V=>l p (by simp[Zqr,V]));have M:=h.slots (.m i);rw[P]at M;obtain⟨b,c,S,g1,W,Y,g4⟩:=M;have hv:v=.pointer (some ⟨b,0,none⟩):=by simp_all[Zqr]
    have N:∀k,k∈b::S->k∉BL++C:=λk J O=>by
     obtain⟨j,L,_,x⟩:=u k O;have:=h.disj (.m i) (.m j) k (by simp_all) x
     grind
    have K:=h.nodup (.m i);rw[W]at K;refine⟨b::BL,S++C,⟨b,c,S,vals,BL,C,by rw[hv],rfl,rfl,Y,?_,q⟩,?_,?_⟩
    ·grind[Z2r]
    ·grind
    ·intro k J;by_cases O:k∈BL++C
     ·grind[Znh]
     ·refine⟨i,Nat.le_refl _,by simp[Znh],?_⟩;simp_all
   ·cases d
  ·cases d
theorem Qml:∀{as:List AK}{x:Z6o as}{vals:List Value}{L:List Nat},rdA w X as x vals L->vals.length=as.length
 |[],_,_,_,h=>by simp[h.1]
 |.sh t::r,_,_,_,⟨_,_,e,_,h⟩=>by simp[e,Qml h]
 |.bx .. ::r,_,_,_,⟨_,_,_,_,_,e,_,_,_,h⟩=>by simp[e,Qml h]
 |.mv .. ::r,_,_,_,⟨_,_,_,_,e,_,_,h⟩=>by simp[e,Qml h]
theorem Z0s:∀{as:List AK}{vals:List Value}{i:Nat}{p:Nat×Value},p∈Zqr as vals i->p.1∈Znh as i/\i<=p.1
 |[],_,_,_,h=>by simp[Zqr]at h
 |.sh t::r,[],_,_,h=>by simp[Zqr]at h
 |.bx .. ::r,[],_,_,h=>by simp[Zqr]at h
 |.mv .. ::r,[],_,_,h=>by simp[Zqr]at h
 |.mv t::r,v::vals,i,p,h=>let⟨a,b⟩:=Z0s (as:=r) h;⟨a,by omega⟩
 |.sh t::r,v::vals,i,p,h=>let⟨a,b⟩:=Z0s (as:=r) h;⟨a,by omega⟩
 |.bx .. ::r,v::vals,i,p,h=>by
  simp only[Zqr,List.mem_cons]at h;rcases h with rfl|h
  ·simp_all[Znh]
  ·obtain⟨a,b⟩:=Z0s h
   grind[Znh]
theorem Z11(a:Act):∀{as:List AK}{x:Z6o as}{vals pre:List Value}{i:Nat}{L:List Nat},rdA w X as x vals L->pre.length=i->a.tmps.toList.take (pre.length+vals.length)=pre++vals->L.Nodup->
  ∃F0:Key->List Nat,(∀k,(F0 k).Nodup/\ ∀b,b∈F0 k->b∈L)/\(∀k k' b,b∈F0 k->b∈F0 k'->k=k')/\(∀k b,b∈F0 k-> ∃j,i<=j/\k=.m j)/\
   (∀p,p∈Zqr as vals i->Q2 gh a (.m p.1)=p.2)/\ ∀(s:St)(F:Key->List Nat)(k:Key),vt gh w X 0 s F a (Q2 gh a k) (F0 k) (Zka (Qen as x i) k)/\(∀d j,k=.c d j->Zka (Qen as x i) k=.junk)
 |[],_,_,_,i,_,⟨Q,U⟩,_,_,_=>by
  subst Q;subst U;exact⟨λ_=>[],by simp,by simp,by simp,by simp[Zqr],λ_ _ _=>⟨rfl,λ_ _ _=>rfl⟩⟩
 |.sh t::r,x,vals,pre,i,L,h,q,O,u=>by
  obtain⟨g,v,rfl,B,C⟩:=h;obtain⟨F0,D,E,G,A,y⟩:=Z11 a (pre:=pre++[Yz t g]) (i:=i+1) C (by simp[q]) (by grind) u;have H:F0 (.m i)=[]:=List.eq_nil_iff_forall_not_mem.2 λb l=>by
   grind
  refine⟨F0,D,E,λk b l=>let⟨j,j1,j2⟩:=G k b l;⟨j,by omega,j2⟩,A,λs F k=>?_⟩;simp only[Qen,Z7];split
  ·rename_i e;subst e;rw[H];refine⟨⟨g,?_,by simp_all[rdF]⟩,λ_ _ z=>by simp at z⟩;have:a.tmps.toList[i]? =some (Yz t g):=by
    have n:(a.tmps.toList.take (pre.length+(Yz t g::v).length))[i]? =some (Yz t g):=by simp_all
    grind
   simp_all[Q2,Zqf]
  ·exact y s F k
 |.bx e t o::r,x,vals,pre,i,L,h,q,O,u=>by
  obtain⟨b,c,S,v,P,rfl,rfl,B,C,n⟩:=h;have I:(b::S++P).Nodup:=by simpa using u
  obtain⟨V,J,W⟩:=List.nodup_append.1 I;obtain⟨F0,D,E,G,A,y⟩:=Z11 a (pre:=pre++[.pointer (some ⟨b,0,none⟩)]) (i:=i+1) n (by simp[q]) (by grind) J;have f:Q2 gh a (.m i)=.pointer (some ⟨b,0,none⟩):=by
   have:a.tmps.toList[i]? =some (.pointer (some ⟨b,0,none⟩)):=by
    have n:(a.tmps.toList.take (pre.length+(Value.pointer (some ⟨b,0,none⟩)::v).length))[i]? =some (.pointer (some ⟨b,0,none⟩)):=by simp_all
    grind
   simp_all[Q2,Zqf]
  refine⟨λk=>if k=.m i then b::S else F0 k,λk=>?_,λk k' K l M=>?_,λk K l=>?_,λp N=>?_,λs F k=>?_⟩
  ·grind
  ·grind
  ·grind
  ·simp only[Zqr,List.mem_cons]at N
   grind
  ·simp only[Qen,Z7];by_cases hk:k=.m i
   ·subst hk;simp only[if_true];exact⟨⟨b,c,S,f,rfl,B,C⟩,λ_ _ z=>by simp at z⟩
   ·rw[if_neg (Ne.symm hk),if_neg hk];exact y s F k
 |.mv t::r,x,vals,pre,i,L,h,q,O,u=>by
  obtain⟨g,S,v,P,rfl,rfl,B,n⟩:=h;obtain⟨V,J,W⟩:=List.nodup_append.1 u;obtain⟨F0,D,E,G,A,y⟩:=Z11 a (pre:=pre++[Yz t g]) (i:=i+1) n (by simp[q]) (by grind) J;have f:Q2 gh a (.m i)=Yz t g:=by
   have:a.tmps.toList[i]? =some (Yz t g):=by
    have n:(a.tmps.toList.take (pre.length+(Yz t g::v).length))[i]? =some (Yz t g):=by simp_all
    grind
   simp_all[Q2,Zqf]
  refine⟨λk=>if k=.m i then S else F0 k,λk=>?_,λk k' K l M=>?_,λk K l=>?_,A,λs F k=>?_⟩
  ·grind
  ·grind
  ·grind
  ·simp only[Qen,Z7];by_cases hk:k=.m i
   ·subst hk;simp only[if_true];exact⟨⟨g,f,by simp_all[rdF]⟩,λ_ _ z=>by simp at z⟩
   ·rw[if_neg (Ne.symm hk),if_neg hk];exact y s F k
theorem Zz2(hs0:g.soft=false):∀{as:List AK}{i:Nat}{s:St}{X:Nat->Prop}{F:Key->List Nat},R n W0 w X F H s a-> ∃X' F',R n W0 w X' F' H (Qn8 as i s) a
 |[],_,s,X,F,h=>⟨X,F,h⟩
 |.sh _::r,_,s,X,F,h=>Zz2 hs0 (as:=r) h
 |.mv _::r,_,s,X,F,h=>Zz2 hs0 (as:=r) h
 |.bx _ _ o::r,i,s,X,F,h=>by
  obtain⟨c,d,b⟩:=Qn9 hs0 h i o;exact Zz2 hs0 (as:=r) b
theorem Z31.of{e:FnB}(hC:C.ok P g)(hsf:C.soft=false:=by rfl)(hlent:C.lent=Znh e.args 0){fn:Func}{c:Code}(hf:P.funcs[e.f]? =some fn)(hb:fn.body=some c)(hcall:∀args w,(callFunc e.f args).run P w=.ok (.enter e.f args) w)
  (hn:e.args.length<=fn.ntmps) (A:An (Z6p e.res×Zyb e.args)) (hA:Zbg C fn.ntmps c A (Qyi C.τ e.args e.res fn.results.toList))
  (hF:∀xs r,e.F xs=some r->Vo C fn.ntmps c A (Qyi C.τ e.args e.res fn.results.toList) (Qm3 e.args xs)=some r):Z31 P g e where
 enters:=hcall
 calls:=λw X L xs r l J K M hL N hx hr=>by
  have hl:=Qml hx;refine calls_of_wp hf hb ?_
  let a0:Act:={tmps:=l.toArray++Array.replicate (fn.ntmps-l.toArray.size) undef,defers:=[]}
  let z:Zc6 g:={W:=w,B:=0,Y:=λb=>b<w.heap.size/\b∉L,L:=(· ∈L),X0:=X,fix:=Zqr e.args l 0,bB:=Nat.zero_le _,fr:=λe=>Bool.noConfusion ((hC.soft.trans hsf).symm.trans e),yW:=λ_ h=>h.1,yL:=λ_ h O=>h.2 O}
  obtain⟨Q,k1,k2,k3,k4,k5⟩:=Z11 a0 (pre:=[]) (i:=0) hx rfl (by simp[a0]) N;have h0:R fn.ntmps z w X Q [] (Qm3 e.args xs) a0:=
   {size:=by simp[a0];omega
    defers:=rfl
    below:=⟨rfl,rfl,rfl,Nat.le_refl _,λ_ _=>rfl⟩
    glob:=J
    gx:=K
    xs:=λe=>Bool.noConfusion ((hC.soft.trans hsf).symm.trans e)
    fix:=λp u=>⟨(Z0s u).1,k4 p u⟩
    xlt:=M
    xin:=λb hb=>.inl hb
    x0:=λb hb=>hb
    own:=λk b hb=>let h:=(k1 k).2 b hb;⟨.inr h,(hL b h).2,(hL b h).1⟩
    nodup:=λk=>(k1 k).1
    disj:=k2
    hown:=by simp
    hnodup:=by simp
    hdisj:=by simp
    comps:=λd i hc=>absurd ((k5 (Qm3 e.args xs) Q (.c d i)).2 d i rfl) hc
    slots:=λk=>(k5 (Qm3 e.args xs) Q k).1}
  refine wp_mono (Z0q hC (λp u=>by grind[Z0s]) hA (hF xs r hr) h0) λex U E u=>?_;obtain⟨s',D,F',hk,s⟩:=u;obtain⟨D,F',s⟩:=Zz2 (hC.soft.trans hsf) (as:=e.args) (i:=0) s;have fin:Qyi C.τ e.args e.res fn.results.toList .ret s'=some r->U.defers=[]/\ ∃v',(results fn U.tmps).run P E=.ok v' E/\ ∃rs S G C D,Ending.returned v'=.returned (Jq rs)/\Xb6 w E X D L (S++(G++C))/\rdS E D e.res r.1 rs S/\rdO E D e.args r.2 l G C/\rdP e.res r.1 rs G:=by
   intro hk;simp only[Qyi]at hk;split at hk
   ·rename_i x s2 H;split at hk
    ·rename_i zz hz;simp only[Osi]at hk;subst hk;obtain⟨vs,S,F2,m1,m2,V,m4,m5,m6⟩:=Qti hC.τ s rfl H;have Z:∀p,p∈Zqr e.args l 0->p.1∈s2.lent/\Q2 z.gh U (.m p.1)=p.2:=λp u=>V.fix p u;obtain⟨G,C,n1,n2,n3⟩:=Z54 V rfl hz hl (λp u=>(Z p u).2);have n:∀{as:List AK}{l:List Value}{i j:Nat},l.length=as.length->j∈Znh as i-> ∃v,(j,v)∈Zqr as l i:=by
      intro as
      induction as with
      |nil=>simp_all[Znh]
      |cons a as ih=>
       intro l i j n hj;cases l with
       |nil=>simp at n
       |cons v l=>
        cases a with
        |sh t=>exact ih (by simpa using n) hj
        |mv t=>exact ih (by simpa using n) hj
        |bx e t o=>
         simp only[Znh,List.mem_cons]at hj;rcases hj with rfl|hj
         ·simp[Zqr]
         grind[Zqr]
     have I:∀b,b∈S++(G++C)->z.mine b/\b<E.heap.size/\ ¬D b:=λb hb=>by
      rcases List.mem_append.1 hb with hb|hb
      ·exact m5 b hb
      ·obtain⟨j,_,_,j3⟩:=n3 b hb;exact V.own _ b j3
     refine⟨s.defers,_,Zrc m1,vs,S,G,C,D,rfl,⟨s.below.os,s.below.tape,s.below.output,s.below.size,?_,s.xlt,?_,?_,?_,λb hb O=>s.below.block b ⟨hb,O⟩⟩,m2,n1,Xec s H m1 λj q hq=>?_⟩
     ·intro b hb;exact s.x0 b hb
     ·intro b hb;exact(s.xin b hb).imp id λh=>h
     ·exact List.nodup_append.2 ⟨m4,n2,λx hx y hy e=>by
       grind⟩
     ·intro b hb;obtain⟨g1,g2,g3⟩:=I b hb;exact⟨g1,g2,g3⟩
     grind[Qmn]
    ·cases hk
   ·cases hk
  cases ex with
  |normal=>exact fin hk
  |ret=>exact fin hk
  |_=>simp[Qyi]at hk
end
end Go.Am
namespace Go.Am
open Go.RowKit
section
variable {P:Program}{g:Kx}{w w':World}{X X':Nat->Prop}{s s':St}{F:Key->List Nat}{a:Act}{C:Cfg}
theorem Qu1.of{e:FnW}(hC:∀w0 L,C.ok P (Zys w0 L)){fn:Func}{c:Code}(hf:P.funcs[e.f]? =some fn)(hb:fn.body=some c)(hcall:∀args w,(callFunc e.f args).run P w=.ok (.enter e.f args) w)
  (hn:e.args.length<=fn.ntmps) (A:An (Vm e.res)) (hA:Zbg C fn.ntmps c A (fnK C.τ e.res fn.results.toList))
  (hF:∀xs r,e.F xs=some r->Vo C fn.ntmps c A (fnK C.τ e.res fn.results.toList) (Qm2 e.args xs)=some r):Qu1 P e where
 enters:=hcall
 calls:=λw L xs r j l hx q=>by
  have M:=Z59 hx;refine calls_of_wp hf hb ?_
  let a0:Act:={tmps:=j.toArray++Array.replicate (fn.ntmps-j.toArray.size) undef,defers:=[]}
  let z:Zc6 (Zys w L):={W:=w,B:=w.heap.size,Y:=λb=>b<w.heap.size/\ ¬L b,L:=L,X0:=L,fix:=[],bB:=Nat.le_refl _,yW:=λ_ h=>h.1,yL:=λ_ h=>h.2,fr:=λ_ k hk t=>t.2 hk}
  have x:R fn.ntmps z w L (λ_=>[]) [] (Qm2 e.args xs) a0:=by
   have m:=λk=>Z5f (W0:=z) (s:=Qm2 e.args xs) (F:=λ_=>[]) a0 (pre:=[]) (i:=0) hx rfl (by simp[a0]) k;exact
    {size:=by simp[a0];omega
     defers:=rfl
     below:=⟨rfl,rfl,rfl,Nat.le_refl _,λ_ _=>rfl⟩
     glob:=⟨λN u _ y=>⟨u,y,Z5a.refl u⟩,l⟩
     gx:=λb hb=>hb
     xs:=λ_ b hb=>hb
     fix:=λp n=>by cases n
     xlt:=λb hb=>(l b hb).lt
     xin:=λb hb=>.inl hb
     x0:=λb hb=>hb
     own:=by simp
     nodup:=by simp
     disj:=by simp
     hown:=by simp
     hnodup:=by simp
     hdisj:=by simp
     comps:=λd i D=>absurd ((m (.c d i)).2 d i rfl) D
     slots:=λk=>(m k).1}
  refine wp_mono (Z0q (hC w L) (λp n=>by cases n) hA (hF xs r q) x) λE o a n=>?_;obtain⟨G,O,Q,hk,g⟩:=n;have fin:Qby C.τ e.res fn.results.toList G=some r->o.defers=[]/\ ∃v,(results fn o.tmps).run P a=.ok v a/\ ∃rs S,Ending.returned v=.returned (Jq rs)/\Zjl a w.heap.size e.res r rs S/\S.Nodup/\
    a.os=w.os/\a.tape=w.tape/\a.output=w.output/\w.heap.size<=a.heap.size/\(∀b,b<w.heap.size-> ¬L b->a.heap[b]? =w.heap[b]?)/\Zsz L w a/\ ∀b,L b->Zzf a b:=by
   intro hk;obtain⟨H,S,I,J,K,_⟩:=Zyh (hC w L).τ g hk;exact⟨g.defers,_,Zrc I,H,S,rfl,J,K,g.below.os,g.below.tape,g.below.output,g.below.size,λb hb hn=>g.below.block b ⟨hb,hn⟩,g.glob.1,g.glob.2⟩
  cases E with
  |normal=>exact fin hk
  |ret=>exact fin hk
  |_=>simp[fnK]at hk
theorem Zn8.any{e:FnE}(h:Zn8 P Kx.none e):Zn8 P g e:=⟨h.enters,λw b r a _=>h.calls w b r a trivial⟩
theorem Kr:Z1x.ok [] P:=λ_ h=>by cases h
end
end Go.Am
namespace Go.Am
open Go.RowKit
def Q1t:List (Nat×Ty)->Nat->Option Ty
 |[],_=>none
 |(k,t)::r,e=>match Nat.beq k e with|true=>some t|false=>Q1t r e
def Zam(fn:Func):Code:=match fn.body with|some c=>c|none=>.skip
section
variable {P:Program}
def Xdo(P:Program)(l:List (Nat×Ty)):Prop:= ∀e T,Q1t l e=some T->TOK P e T
theorem Xbr:Xdo P []:=λ_ _ h=>by cases h
theorem Yn{e:Nat}{T:Ty}{l:List (Nat×Ty)}(h:TOK P e T)(hl:Xdo P l):Xdo P ((e,T)::l):=λb c a=>by
 simp only[Q1t]at a;split at a
 ·simp_all
 ·exact hl b c a
def Q84(P:Program)(τ:Tab)(l:List Nat):Prop:= ∀e T,l.any (Nat.beq e)=true->τ e=some T->Zyw P e T
theorem Q9z{τ:Tab}:Q84 P τ []:=λ_ _ h _=>by cases h
theorem Zs2{τ:Tab}{e:Nat}{T:Ty}{l:List Nat}(h:Zyw P e T)(hT:τ e=some T)(hl:Q84 P τ l):Q84 P τ (e::l):=λb c h' a=>by
 simp only[List.any_cons,Bool.or_eq_true]at h';rcases h' with h'|h'
 ·simp_all
 ·exact hl b c h' a
theorem Kq{g:Kx}:Z5d.ok [] P g:=λ_ h=>by cases h
theorem Q3f{g:Kx}{e:FnL}{Γ:Z5d}(h:Qej P g e)(hΓ:Γ.ok P g):Z5d.ok (e::Γ) P g:=λa h'=>by
 rcases List.mem_cons.1 h' with rfl|h'
 ·exact h
 ·exact hΓ a h'
theorem Zd{g:Kx}:Z1w.ok [] P g:=λ_ h=>by cases h
theorem Zy{g:Kx}{e:FnB}{Γ:Z1w}(h:Z31 P g e)(hΓ:Γ.ok P g):Z1w.ok (e::Γ) P g:=λa h'=>by
 rcases List.mem_cons.1 h' with rfl|h'
 ·exact h
 ·exact hΓ a h'
theorem Jh{g:Kx}:Qad.ok [] P g:=λ_ h=>by cases h
theorem Xs{g:Kx}{e:Zvd}{Γ:Qad}(h:Zay P g e)(hΓ:Γ.ok P g):Qad.ok (e::Γ) P g:=λa h'=>by
 rcases List.mem_cons.1 h' with rfl|h'
 ·exact h
 ·exact hΓ a h'
theorem Zh{g:Kx}:Env.ok [] P g:=λ_ h=>by cases h
theorem Za{g:Kx}{e:FnE}{Γ:Env}(h:Zn8 P g e)(hΓ:Γ.ok P g):Env.ok (e::Γ) P g:=λa h'=>by
 rcases List.mem_cons.1 h' with rfl|h'
 ·exact h
 ·exact hΓ a h'
end
end Go.Am
namespace Go.Am
open Go.RowKit Go.ChangeShapes Go.WideShapes Go.ChangeAt
open Go.ChangeMaps (open_string shut_string)
def Wt(P:Program):Ty->TypeId->List Field->Nat->Bool->Bool
 |.int k,e,_,_,true=>match P.underlying e with|some (.int k')=>decide (k'=k)&&Nat.beq (P.cellsOf e) 1|_=>false
 |.bool,e,_,_,true=>match P.underlying e with|some .bool=>Nat.beq (P.cellsOf e) 1|_=>false
 |.str,e,_,_,true=>match P.underlying e with|some .string=>Nat.beq (P.cellsOf e) 1|_=>false
 |.fnc _,_,_,_,_=>false
 |.err,_,_,_,_=>false
 |.hid _,_,_,_,_=>false
 |.sptr ..,_,_,_,_=>false
 |.clo ..,_,_,_,_=>false
 |.slice e' t,e,_,_,true=>match P.underlying e with
  |some (.slice e2)=>Nat.beq e2 e'&&Nat.beq (P.cellsOf e) 1&&Nat.beq (P.cellsOf e') t.size&&Nat.blt 0 t.size&&Wt P t e' [] 0 true
  |_=>false
 |.arr n t,e,_,_,true=>match P.underlying e with
  |some (.array m e2)=>Nat.beq m n&&Nat.beq (P.cellsOf e) (n*t.size)&&Nat.beq (P.cellsOf e2) t.size&&Wt P t e2 [] 0 true
  |_=>false
 |.unit,e,_,_,true=>match P.underlying e with
  |some (.struct fs)=>fs.toList.isEmpty&&Nat.beq (P.cellsOf e) 0
  |_=>false
 |.pair a b,e,_,_,true=>match P.underlying e with
  |some (.struct fs)=>match fs.toList with
   |f::r=>Nat.beq (P.cellsOf e) (a.size+b.size)&&Nat.beq f.offset 0&&Nat.beq (P.cellsOf f.type) a.size&&Wt P a f.type [] 0 true&&Wt P b 0 r a.size false
   |[]=>false
  |_=>false
 |.unit,_,fs,_,false=>fs.isEmpty
 |.pair a b,_,fs,off,false=>match fs with
  |f::r=>Nat.beq f.offset off&&Nat.beq (P.cellsOf f.type) a.size&&Wt P a f.type [] 0 true&&Wt P b 0 r (off+a.size) false
  |[]=>false
 |_,_,_,_,false=>false
def wf:(T:Ty)->T.den->Prop|.unit,_=>True|.int k,x=>(Lit.int k x).wf=true|.bool,_=>True|.fnc _,_=>True|.err,_=>True|.hid _,_=>True|.sptr ..,_=>True|.clo ..,_=>True|.str,x=>x.length<=maxLen|.slice _ t,x=>x.length<=maxLen/\ ∀y∈x,wf t y|.pair a b,x=>wf a x.1/\wf b x.2|.arr n t,x=>x.length=n/\ ∀y∈x,wf t y
section
variable {H:Type}{enc:TypeId×Value->H}{P:Program}{w:World}{sp:Nat->Bool}{held:Bool}
theorem Quj{α:Type}{r:α->List Value->List Nat->Prop}{q:α->Prop}{sz:Nat}:∀{n:Nat}{cs:List Value},cs.length=n*sz->
  (∀i,i<n-> ∃x,r x ((cs.drop (i*sz)).take sz) []/\q x)-> ∃l,l.length=n/\Zc2 r l cs []/\ ∀y∈l,q y
 |0,cs,a,_=>⟨[],rfl,⟨by simpa using a,rfl⟩,by simp⟩
 |n+1,cs,a,h=>by
  obtain⟨x,hx,b⟩:=h 0 (by omega);obtain⟨l,c,d,e⟩:=Quj (cs:=cs.drop sz) (n:=n) (sz:=sz) (by grind) (λi f=>by
   obtain⟨x,hx,b⟩:=h (i+1) (by omega);refine⟨x,?_,b⟩;rw[List.drop_drop];rw[show sz+i*sz=(i+1)*sz from by grind];exact hx)
  refine⟨x::l,by simp[c],⟨cs.take sz,cs.drop sz,[],[],by simp,rfl,by simpa using hx,d⟩,?_⟩;simp_all
theorem Qgr:∀(T:Ty),
  (∀(e:TypeId)(fs:List Field)(off fuel:Nat)(cs:List Value)(x:DataW H×List MemPlace),Wt P T e fs off true=true->DataW.trod enc P w 0 sp held fuel e cs=some x->
   ∃v:T.den,rd w (· <w.heap.size) 0 false T v cs []/\wf T v)/\
  (∀(fs:List Field)(off:Nat)(cs:List Value),Wt P T 0 fs off false=true->cs.length=off+T.size->
   (∀(i:Nat)(f:Field),fs[i]? =some f-> ∃(n:Nat) (x:DataW H×List MemPlace),DataW.trod enc P w 0 sp held n f.type ((cs.drop f.offset).take (P.cellsOf f.type))=some x)->
   ∃v:T.den,rd w (· <w.heap.size) 0 false T v (cs.drop off) []/\wf T v)
 |.int k=>by
   refine⟨λe fs off fuel cs x c h=>?_,λfs off cs c=>by grind[Wt]⟩;simp only[Wt]at c;split at c
   ·rename_i k' hk;simp only[Oba,decide_eq_true_eq]at c;obtain⟨rfl,_⟩:=c;obtain⟨n,rfl,_,N⟩:=DataW.trod_int hk h;exact⟨n,⟨rfl,rfl⟩,N⟩
   ·cases c
 |.bool=>by
   refine⟨λe fs off fuel cs x c h=>?_,λfs off cs c=>by grind[Wt]⟩;simp only[Wt]at c;split at c
   ·rename_i hk;obtain⟨n,rfl,_⟩:=DataW.trod_bool hk h;exact⟨n,⟨rfl,rfl⟩,trivial⟩
   ·cases c
 |.fnc _=>⟨λe fs off fuel cs x c h=>by grind[Wt],λfs off cs c=>by grind[Wt]⟩
 |.err=>⟨λe fs off fuel cs x c h=>by grind[Wt],λfs off cs c=>by grind[Wt]⟩
 |.hid _=>⟨λe fs off fuel cs x c h=>by grind[Wt],λfs off cs c=>by grind[Wt]⟩
 |.sptr .. =>⟨λe fs off fuel cs x c h=>by grind[Wt],λfs off cs c=>by grind[Wt]⟩
 |.clo .. =>⟨λe fs off fuel cs x c h=>by grind[Wt],λfs off cs c=>by grind[Wt]⟩
 |.str=>by
   refine⟨λe fs off fuel cs x c h=>?_,λfs off cs c=>by grind[Wt]⟩;simp only[Wt]at c;split at c
   ·rename_i hk;obtain⟨s,rfl,_,hs⟩:=DataW.trod_string hk h;exact⟨s.data.toList,⟨rfl,rfl⟩,by simp_all[wf]⟩
   ·cases c
 |.unit=>by
   refine⟨λe fs off fuel cs x c h=>?_,λfs off cs c A _=>⟨(),⟨by simp_all[Ty.size],rfl⟩,trivial⟩⟩;simp only[Wt]at c;split at c
   ·rename_i O hk;simp only[Oba]at c;obtain⟨Z,n,_,_,A,_⟩:=DataW.trod_struct hk h;rw[Onb c.2]at A;exact⟨(),⟨List.eq_nil_of_length_eq_zero A,rfl⟩,trivial⟩
   ·cases c
 |.slice e' t=>by
   refine⟨λe fs off fuel cs x c h=>?_,λfs off cs c=>by grind[Wt]⟩;simp only[Wt]at c;split at c
   ·rename_i L hk;simp only[Oba,Nat.blt_eq]at c;obtain⟨⟨⟨⟨y,D⟩,z⟩,C⟩,Q⟩:=c;have y:=Onb y;subst y;have z:=Onb z;rcases DataW.trod_slice hk h with⟨rfl,_⟩|⟨a,d,S,G,aa,n,_,rfl,_,hb,ab,U,ad,V,_,_⟩
    ·exact⟨[],⟨_,[],[],[],rfl,rfl,⟨rfl,by simp,none,0,rfl,Nat.le_refl _,by simp[maxLen],.inl ⟨rfl,rfl,rfl⟩⟩,rfl,rfl⟩,by simp[wf]⟩
    ·
     have B:∀i,i<d-> ∃cs,w.cells? 0 (a.add (i*t.size)) t.size=some cs/\ ∃v:t.den,rd w (· <w.heap.size) 0 false t v cs []/\wf t v:=by
      intro i E;have K:=V i E;rw[z]at K;have:i<G.length:=by omega
      rw[List.getElem?_eq_getElem this,Option.bind_eq_some_iff]at K;obtain⟨cs,o,hx⟩:=K;exact⟨cs,o,(Qgr t).1 _ _ _ _ _ _ Q hx⟩
     have I:∀i j,i<d->j<t.size-> ∃u,w.cell? (a.add (i*t.size+j))=some u:=by
      intro i j E hj;obtain⟨cs,o,_⟩:=B i E;obtain⟨_,h7,h8⟩:=World.cells?_some o;simp_all[Addr.add_add]
     let all:List Value:=(List.range (d*t.size)).map λm=>(w.cell? (a.add m)).getD undef
     have F:all.length=d*t.size:=by simp[all]
     have M:∀m u,all[m]? =some u->w.cell? (a.add m)=some u:=by
      intro m u hu;have hm:m<d*t.size:=by grind
      have W:m/t.size<d:=Nat.div_lt_of_lt_mul (by grind);obtain⟨u',ae⟩:=I (m/t.size) (m%t.size) W (Nat.mod_lt _ C)
      grind[Nat.div_add_mod]
     obtain⟨l,J,L,X⟩:=Quj (r:=rd w (· <w.heap.size) 0 false t) (q:=wf t) F (λi E=>by
      obtain⟨cs,o,v,hv,N⟩:=B i E;refine⟨v,?_,N⟩;have:(all.drop (i*t.size)).take t.size=cs:=by
       obtain⟨_,h7,h8⟩:=World.cells?_some o;apply List.ext_getElem?;intro j;rw[List.getElem?_take];split
       ·rename_i hj;rw[List.getElem?_drop,<-h8 j hj,Addr.add_add];have hm:i*t.size+j<d*t.size:=by
         have:(i+1)*t.size<=d*t.size:=Nat.mul_le_mul_right _ E
         grind
        simp_all
       simp_all
      simp_all)
     refine⟨l,⟨_,all,[],[],rfl,rfl,⟨rfl,by rw[F,J],some a,S,by rw[J],by omega,U,.inr ⟨a,rfl,?_,M⟩⟩,L⟩,by rw[J];omega,X⟩;rw[J];rcases Nat.eq_zero_or_pos d with h0|h0
     ·exact .inl h0
     ·obtain⟨cs,o,_⟩:=B 0 h0;right;have:=World.cells?_block o C;simp_all[Addr.add_zero']
   ·cases c
 |.arr n t=>by
   refine⟨λe fs off fuel cs x c h=>?_,λfs off cs c=>by grind[Wt]⟩;simp only[Wt]at c;split at c
   ·rename_i m L hk;simp only[Oba]at c;obtain⟨⟨⟨y,D⟩,z⟩,C⟩:=c;have y:=Onb y;subst y;have z:=Onb z;obtain⟨Z,q,_,_,A,Y,hx⟩:=DataW.trod_array hk h;rw[Onb D]at A;obtain⟨l,J,L,X⟩:=Quj (r:=rd w (· <w.heap.size) 0 false t) (q:=wf t) A (λi E=>by
     have K:=hx i E;rw[z,List.getElem?_eq_getElem (by omega)]at K;exact(Qgr t).1 _ _ _ _ _ _ C K)
    exact⟨l,⟨J,L⟩,J,X⟩
   ·cases c
 |.pair a b=>by
  have p:∀(f:Field)(r:List Field)(off:Nat)(cs:List Value),Nat.beq f.offset off=true->Nat.beq (P.cellsOf f.type) a.size=true->Wt P a f.type [] 0 true=true->Wt P b 0 r (off+a.size) false=true->
    cs.length=off+(a.size+b.size)->(∀(i:Nat)(g:Field),(f::r)[i]? =some g-> ∃(n:Nat) (x:DataW H×List MemPlace),DataW.trod enc P w 0 sp held n g.type ((cs.drop g.offset).take (P.cellsOf g.type))=some x)->
    ∃v:(Ty.pair a b).den,rd w (· <w.heap.size) 0 false (.pair a b) v (cs.drop off) []/\wf (.pair a b) v:=by
   intro f r off cs y D z C A hx;obtain⟨n,x,hf⟩:=hx 0 f rfl;rw[Onb y,Onb D]at hf;obtain⟨va,ha,wa⟩:=(Qgr a).1 _ _ _ _ _ _ z hf;obtain⟨vb,hb,wb⟩:=(Qgr b).2 r (off+a.size) cs C (by omega) (λi g hg=>hx (i+1) g (by simpa using hg));refine⟨(va,vb),⟨(cs.drop off).take a.size,cs.drop (off+a.size),[],[],?_,rfl,ha,hb⟩,wa,wb⟩;rw[<-List.drop_drop,List.take_append_drop]
  refine⟨λe fs off fuel cs x c h=>?_,λfs off cs c A hx=>?_⟩
  ·simp only[Wt]at c;split at c
   ·rename_i O hk;split at c
    ·rename_i f r ag;simp only[Oba]at c;obtain⟨⟨⟨⟨y,D⟩,z⟩,C⟩,Q⟩:=c;obtain⟨Z,q,_,_,A,Y,hx⟩:=DataW.trod_struct hk h;rw[Onb y]at A;have:=p f r 0 cs D z C (by simpa using Q) (by omega) (λi g hg=>by
      grind)
     simpa using this
    ·cases c
   ·cases c
  ·simp only[Wt]at c;split at c
   ·rename_i f r;simp only[Oba]at c;obtain⟨⟨⟨y,D⟩,z⟩,C⟩:=c;exact p f r off cs y D z C A hx
   ·cases c
end
end Go.Am
namespace Go.Am
open Go.RowKit Go.ChangeShapes Go.WideShapes Go.ChangeAt
def Zvg(P:Program):List TypeId->List Ty->Bool|[],[]=>true|e::es,T::Ts=>Wt P T e [] 0 true&&P.readableRec e&&Nat.blt e P.types.size&&Zvg P es Ts|_,_=>false
def wfA:(ts:List Ty)->Vm ts->Prop|[],_=>True|t::ts,x=>wf t x.1/\wfA ts x.2
section
variable {H:Type}{enc:TypeId×Value->H}{P:Program}
theorem Xa3{T:Ty}{e:TypeId}{fs:List Field}{off:Nat}{w:World}{r:Reach}{base:Nat}{v:Value}(hd:Wt P T e fs off true=true)(hv:Value.okWide P w r base e v):Yz T v.cells.toList=v:=by
 cases T with
 |int k=>
  simp only[Wt]at hd;split at hd
  ·rename_i hk;obtain⟨n,rfl⟩:=okWide_int hk hv;rfl
  ·cases hd
 |bool=>
  simp only[Wt]at hd;split at hd
  ·rename_i hk;obtain⟨n,rfl⟩:=okWide_bool hk hv;rfl
  ·cases hd
 |fnc f=>grind[Wt]
 |err=>grind[Wt]
 |hid t=>grind[Wt]
 |sptr e t=>grind[Wt]
 |clo f t=>grind[Wt]
 |str=>
  simp only[Wt]at hd;split at hd
  ·rename_i hk;obtain⟨n,rfl⟩:=okWide_string hk hv;rfl
  ·cases hd
 |slice g t=>
  simp only[Wt]at hd;split at hd
  ·rename_i hk;obtain⟨a,l,c,rfl⟩:=okWide_slice hk hv;rfl
  ·cases hd
 |unit=>
  simp only[Wt]at hd;split at hd
  ·rename_i hk;simp only[Value.okWide,hk]at hv;obtain⟨d,rfl,_⟩:=hv;rfl
  ·cases hd
 |pair a b=>
  simp only[Wt]at hd;split at hd
  ·rename_i hk;simp only[Value.okWide,hk]at hv;obtain⟨d,rfl,_⟩:=hv;rfl
  ·cases hd
 |arr n t=>
  simp only[Wt]at hd;split at hd
  ·rename_i hk;simp only[Value.okWide,hk]at hv;obtain⟨d,rfl,_⟩:=hv;rfl
  ·cases hd
theorem Qjc{W:World}{base:Nat}{sp:Nat->Bool}{held:Bool}:∀{es:List TypeId}{Ts:List Ty}{vs:List Value}{ds:List (DataW H)}{ps:List MemPlace},Zvg P es Ts=true->
  DataW.TrodAll enc P W 0 sp held es vs ds ps->(∀(j:Nat) t v,es[j]? =some t->vs[j]? =some v->Value.okWide P W .any base t v)->
  (∃xs:Vm Ts,Zuh W (· <W.heap.size) 0 Ts xs vs/\wfA Ts xs)/\ds.length=es.length
 |[],[],vs,ds,ps,_,h,_=>by
  obtain⟨rfl,rfl,rfl⟩:=trodAll_nil h;exact⟨⟨(),rfl,trivial⟩,rfl⟩
 |e::es,T::Ts,vs,ds,ps,a,h,hv=>by
  simp only[Zvg,Oba]at a;obtain⟨v,b,d,g,p,q,rfl,rfl,rfl,i,k⟩:=trodAll_cons h;obtain⟨⟨xs,l,m⟩,n⟩:=Qjc a.2 k (λj t v o c=>hv (j+1) t v (by simpa using o) (by simpa using c));obtain⟨f,r⟩:=i;obtain⟨x,s,u⟩:=(Qgr T).1 _ _ _ _ _ _ a.1.1.1 r;exact⟨⟨(x,xs),⟨_,b,by rw[Xa3 a.1.1.1 (hv 0 e v rfl rfl)],s,l⟩,u,m⟩,by simp[n]⟩
 |[],_::_,_,_,_,a,_,_=>by grind[Zvg]
 |_::_,[],_,_,_,a,_,_=>by grind[Zvg]
theorem Qhp(hl:laidOutB P=true){W W':World}{sp:Nat->Bool}(hb:Below W.heap.size W W'):∀{es:List TypeId}{Ts:List Ty}{vs:List Value}{ds:List (DataW H)}{ps:List MemPlace},Zvg P es Ts=true->
  DataW.TrodAll enc P W 0 (λ_=>true) true es vs ds ps->(∀p∈ps,p.block<W.heap.size)->(∀p∈ps,sp p.block=true)->DataW.TrodAll enc P W' 0 sp true es vs ds ps
 |[],[],vs,ds,ps,_,h,_,_=>by
  obtain⟨rfl,rfl,rfl⟩:=trodAll_nil h;exact trodAll_mk0
 |e::es,T::Ts,vs,ds,ps,a,h,b,c=>by
  simp only[Zvg,Oba,Nat.blt_eq]at a;obtain⟨v,f,d,g,p,q,rfl,rfl,rfl,i,j⟩:=trodAll_cons h;exact trodAll_cons_mk (WideElems.Trod_stays hl a.1.1.2 a.1.2 i (λx hx=>hb.same (b x (by simp[hx]))) (λx hx=>c x (by simp[hx])))
   (Qhp hl hb a.2 j (λx hx=>b x (by simp[hx])) (λx hx=>c x (by simp[hx])))
 |[],_::_,_,_,_,a,_,_,_=>by grind[Zvg]
 |_::_,[],_,_,_,a,_,_,_=>by grind[Zvg]
theorem Qts{fid:FuncId}{args:List Ty}{F:Vm args->Option (Bool×Unit)}{f:Func}{s:ChangeSpec}{tb:TypeId}{apart fresh handsOn again:Bool}{g:Kx}(hok:Zn8 P g ⟨fid,args,[.bool],F⟩)
  (hF:∀xs,wfA args xs->F xs=some (true,())) (hs:s.vars=[]) (hfn:∀(H:Type)(ds:List (DataW H)),ds.length=f.params.size->s.fn H ds={results:=[.lit (.bool true)],args:=ds})
  (hl:laidOutB P=true) (hd:Zvg P f.params.toList args=true) (hres:f.resultTypes= #[tb]) (htb:P.underlying tb=some .bool)
  (W:World) (base:Nat) (as:Array Value) (ds gs:List (DataW H)) (before:List MemPlace)
  (hval:∀(j:Nat) t v,f.params[j]? =some t->as[j]? =some v->Value.okWide P W .any base t v)
  (hgl:g.G W) (hW:DataW.Whole enc P f.params.toList s.vars apart W as.toList ds gs before):
  Calls P fid as W λe W'=> ∃v,e=.returned v/\s.post enc P f apart fresh handsOn again W as v W':=by
 have i:=hW;have k:=hW.lt;obtain⟨p,q,C,D,rfl,l,u⟩:=hW;rw[hs]at D;obtain⟨rfl,rfl⟩:=trodVars_none D;simp only[List.append_nil]at i l u k;obtain⟨⟨xs,E,I⟩,N⟩:=Qjc hd C (λj t v J hv=>hval j t v (by simpa using J) (by simpa using hv));have K:=hok.calls W xs (true,()) as.toList hgl E (hF xs I);refine K.mono λO W' ⟨Q,S,w,L,_,y⟩=>?_;obtain⟨U,V,X,Y,rfl,rfl,⟨rfl,rfl⟩,rfl,rfl⟩:=L;subst w;refine⟨.bool true,rfl,?_⟩;have z:s.fn H (ds++[])={results:=[.lit (.bool true)],args:=ds}:=by
  simp_all
 have m:∀x∈p,x.block<W.heap.size:=λx hx=>k x hx;have A:∀a:Nat->Bool,(∀x∈p,a x.block=true)->DataW.TrodAll enc P W' 0 a true f.params.toList as.toList ds p:=λa hs=>Qhp hl y hd C m hs;have B:∀(b:Nat)(a:Nat->Bool)(n:Bool),DataW.TrodAll enc P W' b a n f.resultTypes.toList ((Value.bool true).resultList f.resultTypes.size) [.lit (.bool true)] []:=λb a n=>by
  rw[hres];exact trodAll_cons_mk (shut_bool htb true) trodAll_mk0
 have c:∀a:Nat->Bool,(∀x∈p,a x.block=true)->DataW.TrodAll enc P W' 0 a true f.params.toList as.toList (s.fn H (ds++[])).args p:=λa hs=>by simp_all
 have h:∀(b:Nat)(a:Nat->Bool)(n:Bool),DataW.TrodAll enc P W' b a n f.resultTypes.toList ((Value.bool true).resultList f.resultTypes.size) (s.fn H (ds++[])).results []:=λb a n=>by grind
 have d:∀a:Nat->Bool,DataW.TrodVars enc P W' a s.vars (s.fn H (ds++[])).vars []:=λa=>by rw[z,hs];rfl
 refine⟨ds,[],p,[],p,[],i,h _ _ _,c _ (λx hx=>by simp_all),d _,y.frame _,λ_=>?_⟩;refine⟨ok_one hres rfl (okWide_bool_mk htb true),_,_,([]++p)++[],⟨[]++p,[],trodAll_append (c _ (λ_ _=>rfl)) (h _ _ _),d _,rfl,?_,?_⟩,?_⟩
 ·intro b o M;have r:MemPlace.cell b o∈p:=by simpa using M
  rw[y.frozen (m _ r)];exact l b o r
 all_goals simp_all
end
end Go.Am
namespace Go.Am
open Go.RowKit
theorem Zs{n:Int}(h0: -9223372036854775808<=n:=by omega)(h1:n<=9223372036854775807:=by omega):IntKind.i64.wrap n=n:=IntWalk.i64_in n ⟨h0,h1⟩
theorem Zr{i m:Nat}(h:i<m:=by omega)(hm:m<=9223372036854775807:=by omega):IntKind.i64.wrap ((i:Int)+1)=((i+1:Nat):Int):=by
 grind[Zs]
theorem Qh8:maxLen<=9223372036854775807:=by decide
theorem Zm{α:Type}{b:Bool}{x y:α}(h:b=true):(bif b then x else y)=x:=by rw[h];rfl
theorem Zo{α:Type}{b:Bool}{x y:α}(h:b=false):(bif b then x else y)=y:=by rw[h];rfl
theorem Zl{p:Prop}[Decidable p](h:p:=by omega):decide p=true:=decide_eq_true h
theorem Zn{p:Prop}[Decidable p](h:¬p:=by omega):decide p=false:=decide_eq_false h
section
variable {α:Type}{d:α}
end
end Go.Am
namespace Go.Am
open Go.RowKit
def Z64(g:Int->Option (Int×Unit))(p:Prop):Prop:= ∀left,0<=left->left<=1048576-> ∃r,g left=some (r,())/\r<=left/\(0<=r->p)
theorem Z64.seq{g k:Int->Option (Int×Unit)}{p q:Prop}(hg:Z64 g p)(hk:Z64 k q):
  Z64 (λleft=>Option.bind (g left) λt=>bif decide (t.1<(0:Int))then some ((-1:Int),())else k t.1) (p/\q):=by
 intro left a b;obtain⟨r,e,f,i⟩:=hg left a b;simp only[e,Obs];by_cases h:r<0
 ·grind
 ·rw[Zo (Zn h)];obtain⟨j,l,c,d⟩:=hk r (by omega) (by omega)
  grind
theorem Z64.last:Z64 (λleft=>some (left,())) True:=λleft _ _=>⟨left,rfl,Int.le_refl _,λ_=>trivial⟩
theorem Z64.imp{g:Int->Option (Int×Unit)}{p q:Prop}(hg:Z64 g p)(h:p->q):Z64 g q:=λleft a b=>
 let⟨r,e,hl,hp⟩:=hg left a b;⟨r,e,hl,λc=>h (hp c)⟩
theorem Z64.len{α:Type}(x:List α)(hx:x.length<=maxLen){k:Int->Option (Int×Unit)}{q:Prop}(hk:Z64 k q):
  Z64 (λleft=>bif decide (IntKind.i64.wrap (left- (x.length:Int))<(0:Int))then some ((-1:Int),())else k (IntKind.i64.wrap (left- (x.length:Int)))) (x.length<=1048576/\q):=by
 intro left c d;have e:=Qh8;simp only[];rw[Zs];by_cases h:left- (x.length:Int)<0
 ·grind
 ·rw[Zo (Zn h)];obtain⟨f,g,a,b⟩:=hk (left-x.length) (by omega) (by omega)
  grind
theorem Z64.one{α:Type}(x:List α)(hx:x.length<=maxLen):Z64 (λleft=>some (IntKind.i64.wrap (left- (x.length:Int)),())) (x.length<=1048576):=by
 intro left a b;have c:=Qh8;refine⟨_,rfl,?_,?_⟩<;>rw[Zs]<;>omega
theorem Z64.loop{α:Type}{d:α}{g:α->Int->Option (Int×Unit)}{p:α->Prop}{L:Nat->List α->Int->Int->Option (Int×Unit)}
  (hL:∀N a left i,L (N+1) a left i=bif decide (i<(a.length:Int))then Ze (0<=i/\i<a.length) (Option.bind (g (a.getD i.toNat d) left) λt=>bif decide (t.1<0)then some (-1,())else L N a t.1 (IntKind.i64.wrap (i+1)))else some (left,()))
  {fuel:List α->Int->Int->Nat} (hf:∀a left,a.length<fuel a left 0) {a:List α} (ha:a.length<=maxLen) (hg:∀x∈a,Z64 (g x) (p x)):Z64 (λleft=>L (fuel a left 0) a left 0) (∀x∈a,p x):=by
 have f:∀(b pre:List α)(N:Nat)(left:Int),(pre++b).length<=maxLen->(∀x∈b,Z64 (g x) (p x))->b.length<N->0<=left->left<=1048576->
   ∃r,L N (pre++b) left pre.length=some (r,())/\r<=left/\(0<=r-> ∀x∈b,p x):=by
  intro b;have y:=Qh8
  induction b with
  |nil=>
   intro pre N left c _ j k l;cases N with
   |zero=>omega
   |succ N=>
    simp_all
  |cons s b n=>
   intro pre N left c hg j k l;cases N with
   |zero=>omega
   |succ N=>
    simp only[List.length_append,List.length_cons]at c j;rw[hL,Zm (Zl (by simp;omega)),Zb (by simp;omega)];have o:(pre++s::b).getD ((pre.length:Nat):Int).toNat d=s:=by simp[List.getD]
    rw[o,Zr (m:=(pre++s::b).length) (by simp) (by simp;omega)];obtain⟨r,e,z,A⟩:=hg s (by simp) left k l;rw[e,Obs];by_cases h:r<0
    ·grind
    ·rw[Zo (Zn h)];obtain⟨B,q,u,v⟩:=n (pre++[s]) N r (by simp;omega) (λx hx=>hg x (by simp[hx])) (by omega) (by omega) (by omega);have C:pre++s::b=(pre++[s])++b:=by simp
     simp only[List.length_append,List.length_cons,List.length_nil,Nat.zero_add]at q
     grind
 intro left w c;exact f a [] _ left ha hg (hf a left) w c
end Go.Am
namespace Go.Am
noncomputable def Zid{ρ:Type}:Nat->Option ρ->Option ρ|0,m=>m|n+1,m=>Zfs m (Zid n m)
theorem X4{ρ:Type}:∀(n:Nat)(m:Option ρ),Zid n m=m
 |0,_=>rfl
 |n+1,m=>by unfold Zid;rw[X4 n m,Kt]
end Go.Am
namespace Go.Am
open Go.RowKit
def Kx.vars(P:Program)(l:List (String×(Array Value->Prop))):Kx where
 G:=λw=> ∀p∈l,∃c,w.var? P p.1=some c/\p.2 c
 GB:=λb=> ∃p∈l,P.globalNamed p.1=some b
 lt:=λw b h ⟨p,hp,hb⟩=>by
  grind[World.var?]
 stays:=λw w' h hb p hp=>by
  obtain⟨c,this,hc⟩:=h p hp;refine⟨c,?_,hc⟩;cases hg:P.globalNamed p.1 with
  |none=>simp_all[World.var?]
  |some b=>
   simp only[World.var?,hg,Obs]at this⊢;rw[hb b ⟨p,hp,hg⟩];exact this
section
variable {P:Program}{g:Kx}
theorem Qw6{w:World}{X:Nat->Prop}{B:Nat}{own:Bool}:∀{l:List (List UInt8)}{vs:List Value}{S:List Nat},Zc2 (rd w X B own .str) l vs S->vs=l.map λx=>.string ⟨⟨x⟩⟩
 |[],_,_,h=>h.1
 |x::l,_,_,⟨b,g,c,i,e,_,d,f⟩=>by
  have a:b=[.string ⟨⟨x⟩⟩]/\c=[]:=d;rw[e,a.1,Qw6 f];rfl
theorem Zn8.join{f:FuncId}{e:TypeId}{J:List (List UInt8)->List UInt8->List UInt8}{m:Nat}(he:∀args w,(callFunc f args).run P w=.ok (.enter f args) w)
  (hnil:∀s,J [] s=[])
  (h0:∀(a:Option Addr)(c:Nat)(sep:ByteArray)(w:World),Calls P f #[.slice a 0 c,.string sep] w λe w'=>e=.returned (.string ⟨#[]⟩)/\w'=w)
  (hc:∀(bk o c:Nat)(xs:List ByteArray)(sep:ByteArray)(w:World),(∀(j:Nat) x,xs[j]? =some x->w.cell? ⟨bk,o+j,none⟩=some (.string x))->
   bk<w.heap.size->xs.length<=m->xs.length<=c->(J (xs.map (·.data.toList)) sep.data.toList).length<=m->
   Calls P f #[.slice (some ⟨bk,o,none⟩) xs.length c,.string sep] w λe w'=>e=.returned (.string ⟨(J (xs.map (·.data.toList)) sep.data.toList).toArray⟩)/\Below w.heap.size w w'):
  Zn8 P g {f:=f,args:=[.slice e .str,.str],res:=[.str],F:=λxs=>Ze (xs.1.length<=m/\(J xs.1 xs.2.1).length<=m) (some (J xs.1 xs.2.1,()))} where
 enters:=he
 calls:=λw xs r H hg hx u=>by
  obtain⟨cs,us,rfl,N,B,O,rfl,Q,rfl⟩:=hx;obtain⟨rfl,_⟩:B=[.string ⟨⟨xs.2.1⟩⟩]/\_:=Q;obtain⟨v,es,S1,S2,rfl,_,U,V⟩:=N;obtain⟨W,u⟩:=Zoa.1 u;simp only[Osi]at u;subst u;have X:=Qw6 V;obtain⟨_,I,a,k,rfl,Y,K,i⟩:=U;have fin:∀{y:Ending}{w':World},y=.returned (.string ⟨(J xs.1 xs.2.1).toArray⟩)->Below w.heap.size w w'->
    ∃rs S,y=.returned (Jq rs)/\Zjl w' w.heap.size [.str] (J xs.1 xs.2.1,()) rs S/\S.Nodup/\Below w.heap.size w w':=
   λl n=>⟨[.string ⟨(J xs.1 xs.2.1).toArray⟩],[],l,⟨[_],[],[],[],rfl,rfl,⟨rfl,rfl⟩,rfl,rfl⟩,by simp,n⟩
  by_cases z:xs.1=[]
  ·have C:xs.1.length=0:=by rw[z];rfl
   rw[C];refine(h0 a k _ w).mono λy w' ⟨l,n⟩=>fin ?_ (n▸Below.refl _ _);rw[l,z,hnil]
  ·have L:0<xs.1.length:=List.length_pos_iff.2 z;rcases i with⟨_,h,_⟩|⟨D,rfl,Z,E⟩
   ·omega
   ·have p:D.block<w.heap.size:=Z.resolve_left (by omega);obtain⟨A,G,aa⟩:∃A G,xs.1=A::G:=by
     cases h:xs.1 with
     |nil=>exact absurd h z
     |cons A G=>grind
    have d:D.spot=none:=by
     have:=E 0 (.string ⟨⟨A⟩⟩) (by grind)
     grind[Addr.add,World.cell?_spot]
    obtain⟨b,o,M⟩:=D;simp only at d p;subst d;have q:∀j,(⟨b,o,none⟩:Addr).add j=⟨b,o+j,none⟩:=λj=>by
     simp[Addr.add]
    have t:(xs.1.map λx=>(⟨⟨x⟩⟩:ByteArray)).map (·.data.toList)=xs.1:=by simp[Function.comp_def]
    have:=hc b o k (xs.1.map λx=>⟨⟨x⟩⟩) ⟨⟨xs.2.1⟩⟩ w (λj x hx=>?_) p (by simpa using W.1) (by simpa using Y) (by grind)
    ·rw[t,List.length_map]at this;exact this.mono λy w' ⟨l,n⟩=>fin l n
    ·rw[<-q]
     grind
end
end Go.Am
namespace Go.Am
open Go.RowKit Go.ChangeShapes Go.WideShapes Go.ChangeAt
section
variable {H:Type}{enc:TypeId×Value->H}{P:Program}
end
end Go.Am
namespace Go.Am
open Go.RowKit
end Go.Am
namespace Go.Am
open Go.RowKit
section
variable {P:Program}{g:Kx}
theorem Qr8{w:World}{X:Nat->Prop}{B:Nat}{own:Bool}:∀(l:List (List UInt8)),Zc2 (rd w X B own .str) l (l.map λx=>.string ⟨⟨x⟩⟩) []
 |[]=>⟨rfl,rfl⟩
 |_::l=>⟨[_],_,[],[],rfl,rfl,⟨rfl,rfl⟩,Qr8 l⟩
theorem Zn8.split{f:FuncId}{m:Nat}{e:TypeId}{b:Nat}(he:∀args w,(callFunc f args).run P w=.ok (.enter f args) w)(hm:m<4294967296)
  (hv:∀w,g.G w-> ∃k,w.cell? ⟨b,0,Option.none⟩=some (.int .i64 k))
  (hc:∀(s p:ByteArray)(k:Int)(w:World),s.size<m->w.cell? ⟨b,0,Option.none⟩=some (.int .i64 k)->1<=p.size->Calls P f #[.string s,.string p] w λen w'=>
   en=.returned (.slice (some ⟨w.heap.size,0,Option.none⟩) (Lib.countB s p+1) (Lib.countB s p+1))/\w'=w.alloc (.cells ((Lib.splitB p 0 (Lib.countB s p) s).map Value.string).toArray e)):
  Zn8 P g {f:=f,args:=[.str,.str],res:=[.slice e .str],F:=λxs=>Ze (xs.1.length<m/\1<=xs.2.1.length) (some (Lib.splitK xs.2.1 0 (Lib.count xs.1 xs.2.1) xs.1,()))} where
 enters:=he
 calls:=λw xs r n t hx i=>by
  obtain⟨u,D,rfl,v,l,y,rfl,c,rfl⟩:=hx;obtain⟨rfl,_⟩:u=[.string ⟨⟨xs.1⟩⟩]/\_:=v;obtain⟨rfl,_⟩:l=[.string ⟨⟨xs.2.1⟩⟩]/\_:=c;obtain⟨j,i⟩:=Zoa.1 i;simp only[Osi]at i;subst i;obtain⟨k,hk⟩:=hv w t;have o:Lib.countB ⟨⟨xs.1⟩⟩ ⟨⟨xs.2.1⟩⟩=Lib.count xs.1 xs.2.1:=rfl;have z:Lib.countB ⟨⟨xs.1⟩⟩ ⟨⟨xs.2.1⟩⟩<=xs.1.length:=Lib.countB_le ⟨⟨xs.2.1⟩⟩ j.2 xs.1.length ⟨⟨xs.1⟩⟩ (Nat.le_refl _);have a:=Lib.splitB_data ⟨⟨xs.2.1⟩⟩ 0 (Lib.countB ⟨⟨xs.1⟩⟩ ⟨⟨xs.2.1⟩⟩) ⟨⟨xs.1⟩⟩;have d:=Lib.splitB_all ⟨⟨xs.2.1⟩⟩ j.2 0 _ ⟨⟨xs.1⟩⟩ rfl;refine(hc ⟨⟨xs.1⟩⟩ ⟨⟨xs.2.1⟩⟩ k w j.1 hk j.2).mono λen w' ⟨c,q⟩=>?_;generalize Lib.splitB ⟨⟨xs.2.1⟩⟩ 0 (Lib.countB ⟨⟨xs.1⟩⟩ ⟨⟨xs.2.1⟩⟩) ⟨⟨xs.1⟩⟩=L at q a d;have A:L.map Value.string=(Lib.splitK xs.2.1 0 (Lib.count xs.1 xs.2.1) xs.1).map λx=>.string ⟨⟨x⟩⟩:=by
   have:Lib.splitK xs.2.1 0 (Lib.count xs.1 xs.2.1) xs.1=L.map (·.data.toList):=a.symm;rw[this,List.map_map];rfl
  have h:(Lib.splitK xs.2.1 0 (Lib.count xs.1 xs.2.1) xs.1).length=Lib.countB ⟨⟨xs.1⟩⟩ ⟨⟨xs.2.1⟩⟩+1:=by grind
  have B:Below w.heap.size w w':=q▸(Below.refl _ w).alloc (Nat.le_refl _) _;rw[<-h]at c;generalize Lib.splitK xs.2.1 0 (Lib.count xs.1 xs.2.1) xs.1=K at c A h⊢;have C:w'.heap[w.heap.size]? =some (.cells (L.map Value.string).toArray e (0,0)):=by grind[Qe9]
  refine⟨[.slice (some ⟨w.heap.size,0,Option.none⟩) K.length K.length],[w.heap.size],c,⟨[_],[],[w.heap.size],[],rfl,rfl,?_,rfl,rfl⟩,by simp,B⟩;refine⟨_,K.map λx=>.string ⟨⟨x⟩⟩,[w.heap.size],[],rfl,rfl,⟨⟨by simp[Ty.size],.inr ⟨w.heap.size,K.length,(L.map Value.string).toArray,rfl,Nat.le_refl _,C,Nat.le_refl _,?_,?_,?_⟩⟩,rfl⟩,Qr8 K⟩
  all_goals grind[maxLen,Ty.size,List.take_of_length_le]
end
section
open Go.RowKit
variable {H:Type}{enc:TypeId×Value->H}
end
end Go.Am

/- The abstract machine, part 5: what a piece of Go code does, as plain data, and that it does so. No condition. -/
import Derived.Test.YtgepmefongfeeaaGreatAm4
import Derived.LoopN
import Derived.ProofKit
import Derived.OpenShut
import Derived.Carry
import Derived.JoinedCond
import Derived.IntWalk
import Derived.OpenVars
import Derived.Lib.LaidTab
import Derived.HandedShaped
import Derived.Lib.Atoi
import Derived.Lib.AtoiBound
import Derived.Lib.SplitLaws
import Derived.Lib.IndexMore
import Derived.Lib.AtoiErrMem
namespace Go.Am
open Go.RowKit
inductive PE where
 |val (k:Nat) (T:Ty) (f:Fl)
 |box (k:Nat) (e:TypeId) (T:Ty) (f:Fl)
 |ptr (k r:Nat) (p:List Nat)
 |bor (k r:Nat) (p:List Nat)
 |shp (k:Nat) (T:Ty)
 |elp (k r:Nat) (p q:List Nat)
 |clo (k f:Nat) (l:List Nat)
def PE.key:PE->Nat| .val k .. | .box k .. | .ptr k .. | .bor k .. | .shp k .. | .elp k .. | .clo k .. =>k
@[reducible] def PE.dens:List PE->Type| []=>Unit| .val _ T _::r=>T.den×PE.dens r| .box _ _ T _::r=>T.den×PE.dens r| .ptr .. ::r=>PE.dens r| .bor .. ::r=>PE.dens r| .shp _ T::r=>T.den×PE.dens r| .elp .. ::r=>Int×PE.dens r| .clo .. ::r=>PE.dens r
def Zt5: (p:List PE)->PE.dens p->List (Key×Tm)| [],_=>[]| .val k T f::r,x=>(.m k,.val T f x.1)::Zt5 r x.2| .box k e T f::r,x=>(.m k,.box e T f x.1)::Zt5 r x.2| .ptr k q p::r,x=>(.m k,.ptr q p)::Zt5 r x| .bor k q p::r,x=>(.m k,.bor q p)::Zt5 r x| .shp k T::r,x=>(.m k,.shp T x.1)::Zt5 r x.2| .elp k j p q::r,x=>(.m k,.elp j p x.1 q)::Zt5 r x.2| .clo k f l::r,x=>(.m k,.cl f l)::Zt5 r x
def Qut(ln:List Nat)(p:List PE)(x:PE.dens p):St:={env:=Zt5 p x,dirty:=[],lent:=ln}
def Qnb:List Nat->List Nat->Bool
 | [],[]=>true
 |x::xs,y::ys=>match Nat.beq x y with|true=>Qnb xs ys|false=>false
 |_,_=>false
theorem Zwo: ∀{p q:List Nat},Qnb p q=true->p=q
 | [],[],_=>rfl
 |x::b,y::c,h=>by
  simp only[Qnb]at h;split at h
  ·rename_i a;rw[Onb a,Zwo h]
  ·cases h
 | [],_::_,h=>by simp[Qnb]at h
 |_::_,[],h=>by simp[Qnb]at h
def Qro:List PE->Nat->Bool
 | [],_=>false
 |e::r,k=>match Nat.beq e.key k with
  |true=>match e with| .box .. =>true|_=>false
  |false=>Qro r k
def Qgb:List PE->Nat->Bool
 | [],_=>false
 |e::r,k=>match Nat.beq e.key k with
  |true=>match e with| .box .. | .val .. =>true|_=>false
  |false=>Qgb r k
def Zte(s:St)(full:List PE): (p:List PE)->Option (PE.dens p)
 | []=>some ()
 | .val k T f::r=>match s.get (.m k)with
  | .val U g y=>match Wz U g f,Ky T U y,Zte s full r with
   |true,some z,some q=>some (z,q)
   |_,_,_=>none
  |_=>none
 | .box k e T f::r=>match s.get (.m k)with
  | .box e' U g y=>match Nat.beq e' e&&Wz U g f,Ky T U y,Zte s full r with
   |true,some z,some q=>some (z,q)
   |_,_,_=>none
  |_=>none
 | .ptr k j p::r=>match s.get (.m k)with
  | .ptr j' p'=>match Nat.beq j' j&&Qnb p' p&&Qro full j with
   |true=>Zte s full r
   |false=>none
  |_=>none
 | .bor k j p::r=>match s.get (.m k)with
  | .bor j' p'=>match Nat.beq j' j&&Qnb p' p&&Qgb full j&& !(s.bad j p)with
   |true=>Zte s full r
   |false=>none
  |_=>none
 | .shp k T::r=>match s.get (.m k)with
  | .shp U y=>match Ky T U y,Zte s full r with
   |some z,some q=>some (z,q)
   |_,_=>none
  |_=>none
 | .elp k j p q::r=>match s.get (.m k)with
  | .elp j' p' i q'=>match Nat.beq j' j&&Qnb p' p&&Qnb q' q&&Qgb full j&& !(s.bad j p),Zte s full r with
   |true,some x=>some (i,x)
   |_,_=>none
  |_=>none
 | .clo k f l::r=>match s.get (.m k)with
  | .cl f' l'=>match Nat.beq f' f&&Qnb l' l&&l.all (Qro full)with
   |true=>Zte s full r
   |false=>none
  |_=>none
theorem Qbz: ∀{p:List PE} {x:PE.dens p} {k:Nat},Qro p k=true-> ∃e T f y,Zf8 (Zt5 p x) (.m k)= .box e T f y
 |e::r,x,k,h=>by
  simp only[Qro]at h;split at h
  ·rename_i b;have:=Onb b;split at h
   ·rename_i j c d g;simp only[PE.key]at this;subst this;refine⟨c,d,g,x.1,?_⟩;simp only[Zt5,Z2,if_true]
   ·cases h
  ·rename_i b;have a:e.key≠k:=fun i=>by subst i;rw[Nat.beq_refl]at b;cases b
   cases e<;>simp only[PE.key]at a<;>simp only[Zt5,Z2,Key.m.injEq,a,if_false]<;>exact Qbz h
theorem Z4v: ∀{p:List PE} {x:PE.dens p} {k:Nat},Qgb p k=true->Zf8 (Zt5 p x) (.m k)≠ .junk
 |e::r,x,k,h=>by
  simp only[Qgb]at h;split at h
  ·rename_i b;have:=Onb b;split at h
   ·simp only[PE.key]at this;subst this;simp only[Zt5,Z2,if_true];simp
   ·simp only[PE.key]at this;subst this;simp only[Zt5,Z2,if_true];simp
   ·cases h
  ·rename_i b;have a:e.key≠k:=fun c=>by subst c;rw[Nat.beq_refl]at b;cases b
   cases e<;>simp only[PE.key]at a<;>simp only[Zt5,Z2,Key.m.injEq,a,if_false]<;>exact Z4v h
theorem Qus: ∀{p:List PE} {x:PE.dens p} {d i:Nat},Zf8 (Zt5 p x) (.c d i)= .junk
 | [],_,_,_=>rfl
 |e::r,x,d,i=>by cases e<;>simp only[Zt5,Z2,reduceCtorEq,if_false]<;>exact Qus
theorem Zel{U T:Ty}{x:T.den}{y:U.den}(h:Ky U T x=some y): ∃e:T=U,y=e▸x:=by
 unfold Ky at h;split at h
 ·rename_i e;simp only[Osi]at h;exact⟨e,h.symm⟩
 ·cases h
section
variable {P:Program} {g:K9} {W0:Zam g} {w w':World} {X X':Nat->Prop} {B B' n:Nat} {own:Bool} {s s':St} {F:Key->List Nat} {a:Act} {H H':List Nat} {o:Oper} {tg:Xo} {τ:Tab} {C:Cfg} {gh:Nat->Value}
theorem Ztf{ln:List Nat}{full:List PE}{xf:PE.dens full}: ∀{p:List PE} {x:PE.dens p},Zte s full p=some x-> ∀k,KT s (Qut ln full xf) (s.get k) (Zf8 (Zt5 p x) k)
 | [],_,_,k=> .junk _
 |e::r,x,h,k=>by
  cases e with
  |val m T f=>
   simp only[Zte]at h;split at h
   ·rename_i U g y b;split at h
    ·rename_i z q n c d;simp only[Osi]at h;subst h;simp only[Zt5,Z2];split
     ·rename_i e;subst e;obtain⟨rfl,rfl⟩:=Zel c;rw[b];exact .val (.inr n)
     ·exact Ztf d k
    ·cases h
   ·cases h
  |box m e T f=>
   simp only[Zte]at h;split at h
   ·rename_i u U g y b;split at h
    ·rename_i z q n c d;simp only[Oba]at n;simp only[Osi]at h;subst h;simp only[Zt5,Z2];split
     ·rename_i e;subst e;obtain⟨rfl,rfl⟩:=Zel c;rw[b,Onb n.1];exact .box (.inr n.2)
     ·exact Ztf d k
    ·cases h
   ·cases h
  |ptr m j p=>
   simp only[Zte]at h;split at h
   ·rename_i o t b;split at h
    ·rename_i a;simp only[Oba]at a;simp only[Zt5,Z2];split
     ·rename_i e;subst e;rw[b,Onb a.1.1,Zwo a.1.2];exact .ptr (Qbz a.2)
     ·exact Ztf h k
    ·cases h
   ·cases h
  |bor m j p=>
   simp only[Zte]at h;split at h
   ·rename_i o t b;split at h
    ·rename_i a;simp only[Oba,Bool.not_eq_true']at a;simp only[Zt5,Z2];split
     ·rename_i e;subst e;rw[b,Onb a.1.1.1,Zwo a.1.1.2];exact .bor a.2 (Z4v a.1.2)
     ·exact Ztf h k
    ·cases h
   ·cases h
  |shp m T=>
   simp only[Zte]at h;split at h
   ·rename_i U y b;split at h
    ·rename_i z q c d;simp only[Osi]at h;subst h;simp only[Zt5,Z2];split
     ·rename_i e;subst e;obtain⟨rfl,rfl⟩:=Zel c;rw[b];exact .shp
     ·exact Ztf d k
    ·cases h
   ·cases h
  |elp m j p q=>
   simp only[Zte]at h;split at h
   ·rename_i o t i v b;split at h
    ·rename_i z a c;simp only[Oba,Bool.not_eq_true']at a;simp only[Osi]at h;subst h;simp only[Zt5,Z2];split
     ·rename_i e;subst e;rw[b,Onb a.1.1.1.1,Zwo a.1.1.1.2,Zwo a.1.1.2];exact .elp a.2 (Z4v a.1.2)
     ·exact Ztf c k
    ·cases h
   ·cases h
  |clo m f l=>
   simp only[Zte]at h;split at h
   ·rename_i w A b;split at h
    ·rename_i a;simp only[Oba]at a;simp only[Zt5,Z2];split
     ·rename_i e;subst e;rw[b,Onb a.1.1,Zwo a.1.2];exact .cl fun q d=>Qbz (List.all_eq_true.1 a.2 q d)
     ·exact Ztf h k
    ·cases h
   ·cases h
theorem R.pat{ln:List Nat}{p:List PE}{x:PE.dens p}(h:R n W0 w X F H s a)(hl: ∀p,p∈W0.fix->p.1∈ln)(hp:Zte s p p=some x): ∃F',R n W0 w X F' H (Qut ln p x) a:=
 h.weak (fun k=>Ztf hp k) (fun _ _ b=>absurd Qus b) hl
def Zrq:List PE->St->St
 | .val k _ (.u false)::r,s=>match s.get (.m k)with
  | .val U g x=>match Wz U g (.u false),g.live with
   |false,true=>Zrq r (Zua s k (.val U (.u false) x))
   |_,_=>Zrq r s
  |_=>Zrq r s
 | .val k _ (.p (.u true) (.u false))::r,s=>match s.get (.m k)with
  | .val (.slice e t) (.u true) x=>Zrq r (Zua s k (.val (.slice e t) .e x))
  |_=>Zrq r s
 | .box k _ _ (.u false)::r,s=>match s.get (.m k)with
  | .box e U g x=>match Wz U g (.u false),g.live with
   |false,true=>Zrq r (Qz9 s k e U x)
   |_,_=>Zrq r s
  |_=>Zrq r s
 | .box k _ _ (.p a b)::r,s=>match s.get (.m k)with
  | .box _ U g _=>match Wz U g (.p a b)with
   |true=>Zrq r s
   |false=>Zrq r (Q9e s k (.p a b))
  |_=>Zrq r s
 |_::r,s=>Zrq r s
 | [],s=>s
theorem Xy(hs0:g.soft=false): ∀{p:List PE} {s:St} {X:Nat->Prop} {F:Key->List Nat},R n W0 w X F H s a-> ∃X' F',R n W0 w X' F' H (Zrq p s) a
 | [],s,X,F,h=>⟨X,F,h⟩
 | .val k T (.u false)::r,s,X,F,h=>by
  simp only[Zrq];split
  ·rename_i U g x f;split
   ·rename_i j;exact Xy hs0 (R.frz hs0 h f j)
   ·exact Xy hs0 h
  ·exact Xy hs0 h
 | .val k T (.u true)::r,s,X,F,h=>Xy hs0 (p:=r) h
 | .val k T (.p o q)::r,s,X,F,h=>by
  unfold Zrq;split
  ·rename_i c;cases c
  ·rename_i c;cases c;split
   ·rename_i e t x f;obtain⟨l,m,i⟩:=R.frzE hs0 h f;exact Xy hs0 i
   ·exact Xy hs0 h
  ·rename_i c;cases c
  ·rename_i c;cases c
  ·rename_i c;cases c;exact Xy hs0 (p:=r) h
  ·rename_i c;cases c
 | .val k T .d::r,s,X,F,h=>Xy hs0 (p:=r) h
 | .box k v T (.u false)::r,s,X,F,h=>by
  simp only[Zrq];split
  ·rename_i e U g x f;split
   ·rename_i j;obtain⟨l,m,i,_⟩:=R.frzX hs0 h f j;exact Xy hs0 i
   ·exact Xy hs0 h
  ·exact Xy hs0 h
 | .box _ _ _ (.u true)::r,s,X,F,h=>Xy hs0 (p:=r) h
 | .box k _ _ (.p a b)::r,s,X,F,h=>by
  simp only[Zrq];split
  ·split
   ·exact Xy hs0 h
   ·obtain⟨l,m,i⟩:=R.frzP hs0 h k (.p a b);exact Xy hs0 i
  ·exact Xy hs0 h
 | .box _ _ _ .d::r,s,X,F,h=>Xy hs0 (p:=r) h
 | .ptr .. ::r,s,X,F,h=>Xy hs0 (p:=r) h
 | .bor .. ::r,s,X,F,h=>Xy hs0 (p:=r) h
 | .shp .. ::r,s,X,F,h=>Xy hs0 (p:=r) h
 | .elp .. ::r,s,X,F,h=>Xy hs0 (p:=r) h
 | .clo .. ::r,s,X,F,h=>Xy hs0 (p:=r) h
def Q9q(s:St)(r:Nat):Bool:=match s.get (.m r)with| .box .. =>true|_=>false
def inL(L:List Nat)(r:Nat):Bool:=L.any (Nat.beq r)
def Quf(s:St)(L:List Nat):Tm->Tm
 | .val T f x=> .val T f x
 | .box e T f x=> .box e T f x
 | .shp T x=> .shp T x
 | .ptr r p=>match inL L r&&Q9q s r with|true=> .ptr r p|false=> .junk
 | .pls h l=>match l.all (fun q=>inL L q.1&&Q9q s q.1)with|true=> .pls h l|false=> .junk
 |_=> .junk
def Qiy(L:List Nat)(s:St):St:={env:=L.map fun k=>(.m k,Quf s L (s.get (.m k))),dirty:=[],lent:=s.lent}
def Quj:List (Key×Tm)->List Nat
 | []=>[]
 | (.m k,_)::r=>match inL (Quj r) k with|true=>Quj r|false=>k::Quj r
 |_::r=>Quj r
theorem Qas(L:List Nat)(s:St)(k:Key): (Qiy L s).get k=match k with| .m t=>(match inL L t with|true=>Quf s L (s.get (.m t))|false=> .junk)| .c _ _=> .junk:=by
 have a: ∀M:List Nat,Zf8 (M.map fun k=>(Key.m k,Quf s L (s.get (.m k)))) k=match k with| .m t=>(match inL M t with|true=>Quf s L (s.get (.m t))|false=> .junk)| .c _ _=> .junk:=by
  intro M
  induction M with
  |nil=>cases k<;>rfl
  |cons m M b=>
   rw[List.map_cons,Z2,b];cases k with
   |c t i=>simp
   |m t=>
    by_cases h:m=t
    ·subst h;simp[inL]
    ·have:inL (m::M) t=inL M t:=by simp only[inL,List.any_cons];rw[show Nat.beq t m=false by rw[Bool.eq_false_iff];intro e;exact h (Onb e).symm];rfl
     simp only[this];simp[h]
 exact a L
theorem Qug{s:St}{L:List Nat}{r:Nat}(h: (inL L r&&Q9q s r)=true): ∃e T f x,(Qiy L s).get (.m r)= .box e T f x:=by
 simp only[Oba]at h;unfold Q9q at h;rw[Qas];simp only[h.1];have a:=h.2;split at a
 ·rename_i e T f x b;rw[b];exact⟨e,T,f,x,rfl⟩
 ·cases a
theorem R.keep{L:List Nat}(h:R n W0 w X F H s a): ∃F',R n W0 w X F' H (Qiy L s) a:=by
 refine h.weak (fun k=> ?_) (fun d i b=>absurd (Qas L s (.c d i)) b) (fun p f=>(h.fix p f).1);rw[Qas];cases k with
 |c t i=>exact .junk _
 |m t=>
  simp only;split
  ·generalize s.get (.m t)=u;cases u with
   |val=>exact .val (.inl rfl)
   |box=>exact .box (.inl rfl)
   |shp=>exact .shp
   |ptr r p=>
    simp only[Quf];split
    ·rename_i e;exact .ptr (Qug e)
    ·exact .junk _
   |pls j l=>
    simp only[Quf];split
    ·rename_i e;exact .pls fun q g=>Qug (List.all_eq_true.1 e q g)
    ·exact .junk _
   |_=>exact .junk _
  ·exact .junk _
def Xcm(C:Cfg)(s:St)(o:Oper):Bool:=
 match o.guard,o.op with
 |none,.call {callee:= .value fo,..}=>match Qtl s [] fo with
  |some f=>(C.ΓL.find f).isSome
  |none=>false
 |_,_=>false
inductive Xdx where
 |no
 |st (e:TypeId) (x v:Operand)
 |ws (f:FuncId) (xs:Array Operand)
 |wr (f:FuncId) (xs:Array Operand)
def wOp(C:Cfg)(s:St)(o:Oper):Xdx:=
 match o.guard,o.op with
 |none,.store e x v=>match C.soft,Qg7 C.τ s [] e x v,o.dst with
  |true,none,none=> .st e x v
  |_,_,_=> .no
 |none,.call {callee:= .value fo,args:=xs,..}=>match Qtl s [] fo with
  |some f=>match C.ΓW.find f with
   |some _=>match C.soft with
    |true=> .ws f xs
    |false=> .wr f xs
   |none=> .no
  |none=> .no
 |_,_=> .no
noncomputable def Q77{ρ:Type}(C:Cfg)(n:Nat)(ops:Array Oper)(o:Oper)(s:St)(k:St->Option ρ):Option ρ:=
 match Q2o C s o with
 |some (E,ts)=>Q9m C.τ n s o.dst E ts k
 |none=>match gdB C s ops o with
 |some (g,b,d,f,xs)=>Q9g C n o s g b d f xs k
 |none=>match wOp C s o with
 | .st e x v=>(Qj9 C.τ s e x v).bind k
 | .ws f xs=>wsK C.ΓW n s o.dst f xs.toList k
 | .wr f xs=>wrK C.ΓW n s o.dst f xs.toList k
 | .no=>match Q13 C s o with
 |some (f,xs)=>Qo6 C.ΓB n s o.dst f xs.toList k
 |none=>match Xcm C s o with
 |true=>match o.guard,o.op with
  |none,.call {callee:= .value fo,args:=xs,..}=>match Qtl s [] fo with
   |some f=>Q7f C.ΓL n s o.dst f xs.toList k
   |none=>none
  |_,_=>none
 |false=>Qsc C n ops o s k
theorem Qzi{ρ:Type}(hC:C.ok P g){ops:Array Oper}(h:R n W0 w X F [] s a){k:St->Option ρ}{r:ρ}(hs:Q77 C n ops o s k=some r){K:Act->World->Prop}{Q:Exit->Act->World->Prop}
  (hK: ∀w' a' X' F' s',k s'=some r->R n W0 w' X' F' [] s' a'->K a' w'):if Region.wanted o (yielded ops a.tmps)then o.wp P a w K Q else K (a.put o.dst undef) w:=by
 unfold Q77 at hs;split at hs
 ·rename_i E V I;obtain⟨j,J,W,M,N,O⟩:=Qld hC h I;rw[if_pos (by simp[Region.wanted,j])];exact Qq2 hC.τ J h M N O hs fun v w' X' F' s' hk i=>hK w' _ X' F' s' hk i
 split at hs
 ·rename_i Y b d f z A;exact Qqv hC h A hs fun v w' X' F' s' hk i _ _=>hK w' _ X' F' s' hk i
 split at hs
 ·rename_i e x v c;unfold wOp at c;split at c
  ·rename_i Z x' v' j m;split at c
   ·rename_i l _ S;cases c;rw[if_pos (by simp[Region.wanted,j])];obtain⟨U,L,q⟩:=hC.softG l;rw[Option.bind_eq_some_iff]at hs;obtain⟨s',B,D⟩:=hs;refine Qn2 hC.τ q h m S B fun w' i=> ?_;exact hK w' a X F s' D i
   ·cases c
  ·split at c
   ·split at c
    ·split at c<;>cases c
    ·cases c
   ·cases c
  ·cases c
 ·rename_i f z c;unfold wOp at c;split at c
  ·split at c<;>cases c
  ·rename_i G y t j m;split at c
   ·rename_i H u;split at c
    ·split at c
     ·rename_i l;cases c;rw[if_pos (by simp[Region.wanted,j])];obtain⟨U,L,q⟩:=hC.softG l;exact Q5f hC.ΓW q h (Zj8 h Vu u) m hs fun v w' X' F' s' hk i=>hK w' _ X' F' s' hk i
     ·cases c
    ·cases c
   ·cases c
  ·cases c
 ·rename_i f z c;unfold wOp at c;split at c
  ·split at c<;>cases c
  ·rename_i G y t j m;split at c
   ·rename_i H u;split at c
    ·split at c
     ·cases c
     ·cases c;rw[if_pos (by simp[Region.wanted,j])];exact Q5d hC.ΓW h (Zj8 h Vu u) m hs fun v w' X' F' s' hk i=>hK w' _ X' F' s' hk i
    ·cases c
   ·cases c
  ·cases c
 split at hs
 ·rename_i f z p;unfold Q13 at p;split at p
  ·rename_i G y t l j m;split at p
   ·rename_i H u;split at p
    ·simp only[Osi,Opi]at p;obtain⟨rfl,rfl⟩:=p;rw[if_pos (by simp[Region.wanted,j])];exact Z3d (hC.soft.trans l) hC.ΓB h (Zj8 h Vu u) m hs fun v w' X' F' s' hk i _ _=>hK w' _ X' F' s' hk i
    ·cases p
   ·cases p
  ·cases p
 split at hs
 ·split at hs
  ·rename_i G z t j m;split at hs
   ·rename_i f u;rw[if_pos (by simp[Region.wanted,j])];exact Qyk hC.ΓL h (Zj8 h Vu u) m hs fun v w' X' F' s' hk i=>hK w' _ X' F' s' hk i
   ·cases hs
  ·cases hs
 ·exact Z5x hC h hs fun w' a' X' F' s' hk i _=>hK w' a' X' F' s' hk i
noncomputable def Q08{ρ:Type}(C:Cfg)(n:Nat)(ops:Array Oper):List Oper->St->(St->Option ρ)->Option ρ| [],s,k=>k (Qk5 s)|o::r,s,k=>Q77 C n ops o s fun s'=>Q08 C n ops r s' k
theorem Qgj{ρ:Type}(hC:C.ok P g){ops:Array Oper}{k:St->Option ρ}{r:ρ}{Q:Exit->Act->World->Prop}
  (hK: ∀w' a' X' F' s',k s'=some r->R n W0 w' X' F' [] s' a'->Q .normal a' w'):
  ∀{l:List Oper} {s:St} {w:World} {X:Nat->Prop} {F:Key->List Nat} {a:Act},R n W0 w X F [] s a->Q08 C n ops l s k=some r->wpList P ops Q l a w
 | [],s,w,X,F,a,h,b=>by
  obtain⟨F',d⟩:=h.clean;exact hK w a X F' _ b d
 |o::l,s,w,X,F,a,h,b=>by
  refine wpList_step fun K c=> ?_;exact Qzi hC h b fun w' a' X' F' s' hk e=>c _ _ (Qgj hC hK e hk)
inductive An(ρ:Type) where
 |leaf
 |seq (a b:An ρ)
 |cond (a b:An ρ)
 |block (a:An ρ)
 |loop (p:List PE) (f:Nat->PE.dens p->Option ρ) (fuel:PE.dens p->Nat) (a: (PE.dens p->Option ρ)->An ρ)
 |join (p:List PE) (f:PE.dens p->Option ρ) (a b:An ρ)
 |unroll (L:List Nat) (m:Nat) (a:Nat->An ρ)
 |frz (L:List (Nat×Fl))
def Qz8{ρ:Type}(sf:Bool)(A:An ρ)(s:St):St:=match A with
 | .frz L=>match sf with|true=>s|false=>Qk5 (Q6q L s)
 |_=>s
def Zzs{ρ:Type}(k1:St->Option ρ)(k:Exit->St->Option ρ):Exit->St->Option ρ| .normal,s=>k1 s|e,s=>k e s
def Z29{ρ:Type}(id:Nat)(k:Exit->St->Option ρ):Exit->St->Option ρ
 | .exit j,s=>match Nat.beq j id with|true=>k .normal s|false=>k (.exit j) s
 |e,s=>k e s
def Xec(sf:Bool)(p:List PE)(s:St):St:=match sf with|true=>s|false=>Zrq p s
def Qq6{ρ:Type}(sf:Bool)(p:List PE)(f:PE.dens p->Option ρ):St->Option ρ:=fun s=>match Zte (Xec sf p s) p p with
 |some v=>f v
 |none=>none
def Z6n{ρ:Type}(f:Nat->(St->Option ρ)->St->Option ρ):Nat->St->Option ρ|0=>fun _=>none|m+1=>f m (Z6n f m)
noncomputable def J4{ρ:Type}(C:Cfg)(n:Nat):Code->An ρ->(Exit->St->Option ρ)->St->Option ρ
 | .skip,_,k,s=>k .normal s
 | .region _ ops draw,A,k,s=>match draw with
  |false=>Q08 C n ops ops.toList (Qz8 C.soft A s) (k .normal)
  |true=>match Region.noSelect ops with
   |true=>Zxx C n ops (Xbu (Qz8 C.soft A s) ops) ops.size (Array.replicate ops.size false) (Qz8 C.soft A s) (k .normal)
   |false=>none
 | .seq a b,A,k,s=>match A with
  | .seq A B=>J4 C n a A (Zzs (J4 C n b B k) k) s
  | .join p f A _=>J4 C n a A (Zzs (Qq6 C.soft p f) k) s
  |_=>J4 C n a .leaf (Zzs (J4 C n b .leaf k) k) s
 | .cond x a b,A,k,s=>match Wi s (op1 s [] x) .bool with
  |some c=>match A with
   | .cond A B=>bif c then J4 C n a A k s else J4 C n b B k s
   |_=>bif c then J4 C n a .leaf k s else J4 C n b .leaf k s
  |none=>none
 | .block id b,A,k,s=>match A with
  | .block A=>J4 C n b A (Z29 id k) s
  |_=>J4 C n b .leaf (Z29 id k) s
 | .loop b,A,k,s=>match A with
  | .loop p f fuel _=>Qq6 C.soft p (fun v=>f (fuel v) v) s
  | .unroll L m A=>Z6n (fun i kk s=>J4 C n b (A i) (Zzs kk k) (Qiy L s)) m s
  | .leaf=>Z6n (fun _ kk s=>J4 C n b .leaf (Zzs kk k) (Qiy (Quj s.env) s)) 6 s
  |_=>none
 | .exit id,_,k,s=>k (.exit id) s
 | .ret,A,k,s=>k .ret (Qz8 C.soft A s)
 |_,_,_,_=>none
def Zf5{ρ:Type}(C:Cfg)(n:Nat):Code->An ρ->(Exit->St->Option ρ)->Prop
 | .seq a b,A,k=>match A with
  | .seq A B=>Zf5 C n a A (Zzs (J4 C n b B k) k)/\Zf5 C n b B k
  | .join p f A B=>Zf5 C n a A (Zzs (Qq6 C.soft p f) k)/\(∀v,f v=J4 C n b B k (Qut C.lent p v))/\Zf5 C n b B k
  |_=>True
 | .cond _ a b,A,k=>match A with
  | .cond A B=>Zf5 C n a A k/\Zf5 C n b B k
  |_=>True
 | .block id b,A,k=>match A with
  | .block A=>Zf5 C n b A (Z29 id k)
  |_=>True
 | .loop b,A,k=>match A with
  | .loop p f _ A=>(∀v,f 0 v=none)/\ ∀N,(∀v,f (N+1) v=J4 C n b (A (f N)) (Zzs (Qq6 C.soft p (f N)) k) (Qut C.lent p v))/\Zf5 C n b (A (f N)) (Zzs (Qq6 C.soft p (f N)) k)
  | .unroll L m A=> ∀i,i<m->Zf5 C n b (A i) (Zzs (Z6n (fun i kk s=>J4 C n b (A i) (Zzs kk k) (Qiy L s)) i) k)
  |_=>True
 |_,_,_=>True
def Q5h{ρ:Type}{g:K9}(n:Nat)(W0:Zam g)(k:Exit->St->Option ρ)(r:ρ):Exit->Act->World->Prop:=fun e a w=> ∃s X F,k e s=some r/\R n W0 w X F [] s a
theorem Q9{ρ:Type}(c:Code)(k:Exit->St->Option ρ):Zf5 C n c .leaf k:=by
 cases c<;>simp[Zf5]
theorem Qar{ρ:Type}(hC:C.ok P g)(hl: ∀p,p∈W0.fix->p.1∈C.lent){p:List PE}{f:PE.dens p->Option ρ}{r:ρ}(h:R n W0 w X F H s a)(hj:Qq6 C.soft p f s=some r): ∃v X' F',f v=some r/\R n W0 w X' F' H (Qut C.lent p v) a:=by
 unfold Qq6 at hj;split at hj
 ·rename_i v hv;obtain⟨b,c,d⟩: ∃b c,R n W0 w b c H (Xec C.soft p s) a:=by
   cases hsf:C.soft
   ·exact Xy (hC.soft.trans hsf) (p:=p) h
   ·exact⟨X,F,h⟩
  obtain⟨F',e⟩:=d.pat hl hv;exact⟨v,b,F',hj,e⟩
 ·cases hj
theorem R.frzA(hC:C.ok P g){ρ:Type}(A:An ρ)(h:R n W0 w X F [] s a): ∃X' F',R n W0 w X' F' [] (Go.Am.Qz8 C.soft A s) a:=by
 unfold Go.Am.Qz8;split
 ·rename_i L;cases hsf:C.soft
  ·obtain⟨b,f,c⟩:=Qla (hC.soft.trans hsf) (L:=L) h;obtain⟨d,e⟩:=c.clean;exact⟨b,d,e⟩
  ·exact⟨X,F,h⟩
 ·exact⟨X,F,h⟩
theorem Q7e{I:Nat->Prop}(h: ∃N,I N): ∃N,I N/\ ∀M,I M->N<=M:=by
 obtain⟨N,c⟩:=h
 induction N using Nat.strongRecOn with
 |_ N d=>
  by_cases b: ∃M,M<N/\I M
  ·obtain⟨M,e,f⟩:=b;exact d M e f
  ·exact⟨N,c,fun M g=>Nat.le_of_not_lt fun a=>b ⟨M,a,g⟩⟩
theorem Zu6{ρ:Type}(hC:C.ok P g)(hl: ∀p,p∈W0.fix->p.1∈C.lent){r:ρ}: ∀{c:Code} {A:An ρ} {k:Exit->St->Option ρ} {s:St} {w:World} {X:Nat->Prop} {F:Key->List Nat} {a:Act},
  Zf5 C n c A k->J4 C n c A k s=some r->R n W0 w X F [] s a->c.wp P (Q5h n W0 k r) a w:=by
 intro c
 induction c with
 |skip=>intro A k s w X F a _ d h;exact wp_skip ⟨s,X,F,d,h⟩
 |region id aj ag=>
  intro A k s w X F a _ d h;simp only[J4]at d;obtain⟨X,F,h⟩:=h.frzA hC A;generalize Qz8 C.soft A s=s at d h;split at d
  ·exact wp_region_list (Qgj hC (fun K O u D E hk H=>⟨E,u,D,hk,H⟩) h d)
  ·split at d
   ·rename_i hB;have S:R n W0 {w with drawn:=w.drawn+1} X F [] s a:=h.world (h.below.step (Below.refl _ w).drew) (Nat.le_refl _) (fun _ _=>rfl) (fun _ _ _=>rfl);exact wp_region_any hC.follows (Qsn (Qn:=fun O K=>Q5h n W0 k r .normal O K) (fun _ _ h=>h) _ _ _ _
     (Z02 (Sh:=fun _=>False) hC (Region.noSelect_spec hB) (fun i r hr j o ho=>Q5s hr ho) (fun K O u D E hk H=>⟨E,u,D,hk,H⟩) (fun m o _ hm=>by simp only[Array.getD_eq_getD_getElem?,Array.getElem?_replicate]at hm;split at hm<;>cases hm) S (fun _ h=>h.elim) d))
   ·cases d
 |seq x y aa U=>
  intro A k s w X F a t d h;have q: ∀{A B:An ρ},Zf5 C n x A (Zzs (J4 C n y B k) k)->Zf5 C n y B k->J4 C n x A (Zzs (J4 C n y B k) k) s=some r->(Code.seq x y).wp P (Q5h n W0 k r) a w:=by
   intro A B V S h3;refine wp_seq (wp_mono (aa V h3 h) fun e O K Q=> ?_);obtain⟨E,u,D,hk,H⟩:=Q;cases e with
   |normal=>exact U S hk H
   |_=>exact⟨E,u,D,hk,H⟩
  cases A with
  |seq A B=>simp only[J4]at d;simp only[Zf5]at t;exact q t.1 t.2 d
  |join p f A B=>
   simp only[J4]at d;simp only[Zf5]at t;refine wp_seq (wp_mono (aa t.1 d h) fun e O K Q=> ?_);obtain⟨E,u,D,hk,H⟩:=Q;cases e with
   |normal=>
    obtain⟨v,X2,F2,hv,W⟩:=Qar hC hl H hk;rw[t.2.1]at hv;exact U t.2.2 hv W
   |_=>exact⟨E,u,D,hk,H⟩
  |leaf=>simp only[J4]at d;exact q (Q9 _ _) (Q9 _ _) d
  |cond=>simp only[J4]at d;exact q (Q9 _ _) (Q9 _ _) d
  |block=>simp only[J4]at d;exact q (Q9 _ _) (Q9 _ _) d
  |loop=>simp only[J4]at d;exact q (Q9 _ _) (Q9 _ _) d
  |unroll=>simp only[J4]at d;exact q (Q9 _ _) (Q9 _ _) d
  |frz=>simp only[J4]at d;exact q (Q9 _ _) (Q9 _ _) d
 |cond x y z U ac=>
  intro A k s w X F a t d h;simp only[J4]at d;split at d
  ·rename_i b hb;have hv:=Zkd h Vu hb;have l: ∀{A B:An ρ},Zf5 C n y A k->Zf5 C n z B k->(bif b then J4 C n y A k s else J4 C n z B k s)=some r->(Code.cond x y z).wp P (Q5h n W0 k r) a w:=by
    intro A B V S h3;refine wp_cond_split hv (fun e=> ?_) (fun e=> ?_)
    ·subst e;exact U V h3 h
    ·subst e;exact ac S h3 h
   cases A with
   |cond A B=>simp only[Zf5]at t;exact l t.1 t.2 d
   |leaf=>exact l (Q9 _ _) (Q9 _ _) d
   |seq=>exact l (Q9 _ _) (Q9 _ _) d
   |block=>exact l (Q9 _ _) (Q9 _ _) d
   |loop=>exact l (Q9 _ _) (Q9 _ _) d
   |join=>exact l (Q9 _ _) (Q9 _ _) d
   |unroll=>exact l (Q9 _ _) (Q9 _ _) d
   |frz=>exact l (Q9 _ _) (Q9 _ _) d
  ·cases d
 |block id b ih=>
  intro A k s w X F a t d h;have J: ∀{A:An ρ},Zf5 C n b A (Z29 id k)->J4 C n b A (Z29 id k) s=some r->(Code.block id b).wp P (Q5h n W0 k r) a w:=by
   intro A V S;refine wp_block (wp_mono (ih V S h) fun e O K Q=> ?_);obtain⟨E,u,D,hk,H⟩:=Q;cases e with
   |exit j=>
    simp only[Z29]at hk;simp only[Exit.inBlock];split at hk
    ·rename_i hb;rw[if_pos (Onb hb)];exact⟨E,u,D,hk,H⟩
    ·rename_i hb;rw[if_neg (fun e=>by subst e;rw[Nat.beq_refl]at hb;cases hb)];exact⟨E,u,D,hk,H⟩
   |_=>exact⟨E,u,D,hk,H⟩
  cases A with
  |block A=>simp only[J4]at d;simp only[Zf5]at t;exact J t d
  |_=>simp only[J4]at d;exact J (Q9 _ _) d
 |loop b ih=>
  intro A k s w X F a t d h;cases A with
  |loop p f ah A=>
   simp only[J4]at d;simp only[Zf5]at t;obtain⟨h0,hN⟩:=t;obtain⟨v,X2,F2,hv,W⟩:=Qar hC hl h d
   classical
   let I:Nat->Act->World->Prop:=fun N a w=> ∃v X F,f N v=some r/\R n W0 w X F [] (Qut C.lent p v) a
   let μ:Act->World->Nat:=fun a w=>if h: ∃N,I N a w then(Q7e h).choose else 0
   refine wp_loop (fun a w=> ∃N,I N a w) μ ⟨_,v,X2,F2,hv,W⟩ fun a w hI=> ?_;have ak:I (μ a w) a w:=by
    have:=(Q7e hI).choose_spec.1;simp only[μ,dif_pos hI];exact this
   obtain⟨v,X,F,hv,H⟩:=ak;generalize hM:μ a w=M at hv;cases M with
   |zero=>rw[h0]at hv;cases hv
   |succ N=>
    obtain⟨V,S⟩:=hN N;rw[V]at hv;refine wp_mono (ih S hv H) fun e O K Q=> ?_;obtain⟨E,u,D,hk,G⟩:=Q;cases e with
    |normal=>
     obtain⟨v',X3,F3,ad,ae⟩:=Qar hC hl G hk;have ab:I N O K:=⟨v',X3,F3,ad,ae⟩
     have Y: ∃N,I N O K:=⟨N,ab⟩
     refine⟨Y,?_⟩;have:μ O K<=N:=by
      simp only[μ,dif_pos Y];exact(Q7e Y).choose_spec.2 N ab
     omega
    |_=>exact⟨E,u,D,hk,G⟩
  |unroll L m A=>
   simp only[J4]at d;simp only[Zf5]at t;refine wp_loop_rounds m ?_
   induction m generalizing s w X F a with
   |zero=>cases d
   |succ m Z=>
    simp only[Z6n]at d;obtain⟨F0,h0⟩:=R.keep (L:=L) h;refine wp_mono (ih (t m (Nat.lt_succ_self m)) d h0) fun e O K Q=> ?_;obtain⟨E,u,D,hk,G⟩:=Q;cases e with
    |normal=>exact Z G (fun i hi=>t i (Nat.lt_succ_of_lt hi)) hk
    |_=>exact⟨E,u,D,hk,G⟩
  |leaf=>
   simp only[J4]at d;refine wp_loop_rounds 6 ?_;generalize 6=m at d
   induction m generalizing s w X F a with
   |zero=>cases d
   |succ m Z=>
    simp only[Z6n]at d;obtain⟨F0,h0⟩:=R.keep (L:=Quj s.env) h;refine wp_mono (ih (Q9 _ _) d h0) fun e O K Q=> ?_;obtain⟨E,u,D,hk,G⟩:=Q;cases e with
    |normal=>exact Z G hk
    |_=>exact⟨E,u,D,hk,G⟩
  |_=>simp[J4]at d
 |exit id=>intro A k s w X F a _ d h;exact wp_exit ⟨s,X,F,d,h⟩
 |ret=>
  intro A k s w X F a _ d h;simp only[J4]at d;obtain⟨X,F,h⟩:=h.frzA hC A;exact wp_ret ⟨_,X,F,d,h⟩
 |rangeFunc=>intro A k s w X F a _ d h;simp[J4]at d
 |scope=>intro A k s w X F a _ d h;simp[J4]at d
 |label=>intro A k s w X F a _ d h;simp[J4]at d
 |goto=>intro A k s w X F a _ d h;simp[J4]at d
 |refuse=>intro A k s w X F a _ d h;simp[J4]at d
theorem V4.of{C:Cfg}(hC: ∀ln,({C with lent:=ln}:Cfg).ok P g){E:Zro}{fn:Func}{c:Code}(hf:P.funcs[E.f]? =some fn)(hb:fn.body=some c)(hcall: ∀args w,(callFunc E.f args).run P w= .ok (.enter E.f args) w)
  (hle:E.np<=E.n/\E.n<=1048576) (hn:fn.ntmps=E.n) (hrv:fn.results.toList=E.rv) (hrun: ∀{ρ:Type} (ln:List Nat) (k:Exit->St->Option ρ) (s:St),E.run ln k s=J4 {C with lent:=ln} E.n c .leaf k s):V4 P g E where
 enters:=hcall
 le:=hle
 code:=⟨fn,c,hf,hb,hn,hrv,fun {ρ k r ln e w X F s a} b d h=>by
  rw[hrun]at b;exact Zu6 (hC ln) d (Q9 c k) b h⟩
end
end Go.Am
namespace Go.Am
open Go.RowKit
section
variable {P:Program} {g:K9} {W0:Zam g} {w w':World} {X X':Nat->Prop} {B B' n:Nat} {own:Bool} {s s':St} {F:Key->List Nat} {a:Act} {H H':List Nat} {o:Oper} {tg:Xo} {τ:Tab} {C:Cfg} {gh:Nat->Value}
theorem Zfe(hB:own=false\/B'<=B)(hX:own=true\/ ∀b,X b->X' b): ∀{T:Ty} {x:T.den} {vs:List Value} {S:List Nat},rd w X B own T x vs S->rd w X' B' own T x vs S
 | .unit,_,_,_,h| .int _,_,_,_,h| .bool,_,_,_,h| .fnc _,_,_,_,h| .str,_,_,_,h=>h
 | .slice _ _,_,_,_,⟨v,l,g,i,e,j,d,f⟩=>by
  refine⟨v,l,g,i,e,j,?_,Kq f fun _ _ _ _ _ h=>Zfe hB hX h⟩;cases own
  ·have hX:=hX.resolve_left (by simp);obtain⟨m,p,a,k,q,r,s,u⟩:=d;exact⟨m,p,a,k,q,r,s,u.imp id fun⟨z,A,C,D⟩=>⟨z,A,C.imp id (hX _),D⟩⟩
  ·exact⟨Z0s d.1 (hB.resolve_left (by simp)),d.2⟩
 | .pair a b,_,_,_,⟨E,F,g,i,e,j,d,f⟩=>⟨E,F,g,i,e,j,Zfe hB hX d,Zfe hB hX f⟩
 | .arr n t,_,_,_,⟨h,G⟩=>⟨h,Kq G fun _ _ _ _ _ h=>Zfe hB hX h⟩
 | .err,_,_,_,h=>h
 | .hid _,_,_,_,⟨e,y,h⟩=>⟨e,y,Zfe hB hX h⟩
 | .sptr ..,_,_,_,⟨e,o,b,c,d,f,H,I⟩=>⟨e,o,b,c,d,hX.resolve_left (by simp[o]) b f,H,Zfe hB hX I⟩
 | .clo ..,_,_,_,⟨e,J,d,f⟩=>⟨e,J,d,Zfe hB hX f⟩
def Z82(τ:Tab): (ts:List Ty)->List ResultVar->St->Option (Jp ts)
 | [],[],_=>some ()
 |t::ts,.tmp k::rs,s=>match Ztj s (op1 s [] (.tmp k)) t with
  |some q=>match Wz q.T q.f (.u true),Ky t q.T q.x,Z82 τ ts rs q.s with
   |true,some x,some xs=>some (x,xs)
   |_,_,_=>none
  |none=>none
 |t::ts,.cell k e::rs,s=>match s.get (.m k),τ e with
  | .box e0 U f y,some U'=>match(Nat.blt k 1048576&&decide (U=U'))&&Wz U f (.u true),Ky t U y,Z82 τ ts rs (Y6 s k (.box e0 U .d y))with
   |true,some x,some xs=>some (x,xs)
   |_,_,_=>none
  |_,_=>none
 |_,_,_=>none
def fnK(τ:Tab)(ts:List Ty)(rs:List ResultVar):Exit->St->Option (Jp ts)| .ret,s| .normal,s=>Z82 τ ts rs s|_,_=>none
theorem Zs5(hτ:τ.ok P): ∀{ts:List Ty} {rs:List ResultVar} {s:St} {F:Key->List Nat} {H:List Nat} {xs:Jp ts},R n W0 w X F H s a->Z82 τ ts rs s=some xs->
  ∃vs S,(rs.mapM (Zk1 a)).run P w= .ok vs w/\Zfd w W0.B ts xs vs S/\S.Nodup/\ ∀b∈S,b∉H
 | [],[],s,F,H,xs,h,g=>⟨[],[],by simp,⟨rfl,rfl⟩,by simp,by simp⟩
 |t::ts,.tmp k::rs,s,F,H,xs,h,g=>by
  simp only[Z82]at g;split at g
  ·rename_i q hq;split at g
   ·rename_i x L A hx o;simp only[Osi]at g;subst g;obtain⟨_,F1,i,D,h1,h2,C,_,_⟩:=Zbg h Vu hq;obtain⟨rfl,rfl⟩:=Zel hx;obtain⟨vs,S,M,N,O,E⟩:=Zs5 hτ C o;refine⟨_,i++S,?_,⟨D,vs,i,S,rfl,rfl,Zfe (.inr (Nat.le_refl _)) (.inl rfl) (by have:=Zh3 A h2;unfold rdF at this;exact this),N⟩,?_,?_⟩
    ·have p: (a.tmps.getD k undef)=Xz q.T D:=h1;simp only[List.mapM_cons,Zk1,Sem.run_bind,Sem.run_pure,Result.andThen_ok,M,p]
    ·exact List.nodup_append.2 ⟨(List.nodup_append.1 C.hnodup).1,O,fun x hx y hy e=>E y hy (by rw[<-e];simp[hx])⟩
    ·intro b hb G;rcases List.mem_append.1 hb with hb|hb
     ·exact(List.nodup_append.1 C.hnodup).2.2 b hb b G rfl
     ·exact E b hb (by simp[G])
   ·cases g
  ·cases g
 |t::ts,.cell k e::rs,s,F,H,xs,h,g=>by
  simp only[Z82]at g;split at g
  ·rename_i e' U f y U' Q hU;split at g
   ·rename_i x L A hx o;simp only[Oba,decide_eq_true_eq]at A;obtain⟨⟨V,rfl⟩,A⟩:=A;simp only[Osi]at g;subst g;obtain⟨rfl,rfl⟩:=Zel hx;have W:=h.slots (.m k);rw[Q]at W;obtain⟨b,c,i,Y,J,Z,K⟩:=W;have r:=h.nodup (.m k);rw[J]at r;have C:R n W0 w X (Qg F (.m k) [b]) (i++H) (Y6 s k (.box e' U .d x)) a:=by
     refine h.turn (S':=[b]) (H':=i++H) h.below (Nat.le_refl _) (fun _ _=>rfl) (fun _ _ _ _=>rfl) ?_ ?_ (by rw[Q];simp) ?_ ?_
     ·intro l v;rw[J];simpa using v
     ·have hd: ∀l∈b::i,l∉H:=fun l v=>h.hdisj (.m k) l (by rw[J];exact v);refine List.nodup_append.2 ⟨by simp,List.nodup_append.2 ⟨(List.nodup_cons.1 r).2,h.hnodup,fun x hx y hy e=>hd x (by simp[hx]) (by rw[e];exact hy)⟩,fun x hx y hy e=> ?_⟩;simp only[List.mem_singleton]at hx;subst hx;subst e;rcases List.mem_append.1 hy with hy|hy
      ·exact(List.nodup_cons.1 r).1 hy
      ·exact hd x (by simp) hy
     ·intro e T f x b2 S hb hF;rw[Q]at hb;cases hb;rw[J]at hF;obtain⟨rfl,_⟩:=List.cons.inj hF;exact⟨.d,_,[],rfl,rfl⟩
     ·exact⟨b,c,[],Y,rfl,Z,by unfold rdF;exact⟨X8 K,Zh2 K,rfl⟩⟩
    obtain⟨vs,S,M,N,O,E⟩:=Zs5 hτ C o;have I:=C.hnodup;refine⟨_,i++S,?_,⟨c.toList,vs,i,S,rfl,rfl,Zfe (.inr (Nat.le_refl _)) (.inl rfl) (by have:=Zh3 A K;unfold rdF at this;exact this),N⟩,?_,?_⟩
    ·have p: (a.tmps.getD k undef)= .pointer (some ⟨b,0,none⟩):=(Ye W0 a V).symm.trans Y;have z:=(hτ _ _ hU).load (w:=w) (ad:=⟨b,0,none⟩) (vs:=c.toList) (X8 K) (fun j u hj=>by
      rw[Zhk w Z,<-Array.getElem?_toList,Nat.zero_add];exact hj)
     simp only[List.mapM_cons,Zk1,Sem.run_bind,Sem.run_pure,Result.andThen_ok,M,p,z,asAddr]
    ·refine List.nodup_append.2 ⟨?_,O,fun x hx y hy e=>E y hy (by rw[<-e];simp[hx])⟩;exact(List.nodup_append.1 I).1
    ·intro l hb G;rcases List.mem_append.1 hb with hb|hb
     ·exact(List.nodup_append.1 I).2.2 l hb l G rfl
     ·exact E l hb (by simp[G])
   ·cases g
  ·cases g
 | [],.tmp _::_,_,_,_,_,_,g| [],.cell .. ::_,_,_,_,_,_,g|_::_,[],_,_,_,_,_,g=>by simp[Z82]at g
def Xa0: (t:Ty)->t.den->Tm| .sptr _ t,x=> .shp t x|t,x=> .val t (.u false) x
def Qzv: (ts:List Ty)->Jp ts->Nat->List (Key×Tm)| [],_,_=>[]|t::ts,x,i=>(.m i,Xa0 t x.1)::Qzv ts x.2 (i+1)
def Qow(ts:List Ty)(x:Jp ts):St:={env:=Qzv ts x 0,dirty:=[]}
theorem Zzx(a:Act): ∀{ts:List Ty} {x:Jp ts} {vals pre:List Value} {i:Nat},Zq5 w X 0 ts x vals->pre.length=i->a.tmps.toList.take (pre.length+vals.length)=pre++vals->
  ∀k,vt W0.gh w X W0.B s F a (Qp W0.gh a k) [] (Zf8 (Qzv ts x i) k)/\(∀d j,k= .c d j->Zf8 (Qzv ts x i) k= .junk)
 | [],_,_,_,_,_,_,_,k=>⟨rfl,fun _ _ _=>rfl⟩
 |t::ts,x,vals,pre,i,h,o,p,k=>by
  obtain⟨g,r,rfl,q,v⟩:=h;have y:=Zzx a (pre:=pre++ [Xz t g]) (i:=i+1) v (by simp[o]) (by simpa[Nat.add_assoc,Nat.add_comm 1]using p) k;simp only[Qzv,Z2];split
  ·rename_i e;subst e;refine⟨?_,fun _ _ z=>by simp at z⟩;have n:Qp W0.gh a (.m i)=Xz t g->vt W0.gh w X W0.B s F a (Qp W0.gh a (.m i)) [] (Xa0 t x.1):=fun hv=>by
    have f:vt W0.gh w X W0.B s F a (Qp W0.gh a (.m i)) [] (.val t (.u false) x.1):=⟨g,hv,by unfold rdF;exact Zfe (.inl rfl) (.inr fun _ h=>h) q⟩
    cases t with
    |sptr H I=>
     obtain⟨_,_,b,c,A,C,D,E⟩:=q;refine⟨rfl,⟨b,0,none⟩,c.toList,by rw[hv,A];rfl,C,fun j u G=> ?_,Zfe (.inl rfl) (.inr fun _ h=>h) E⟩;rw[Zhk w D,<-Array.getElem?_toList,Nat.zero_add];exact G
    |_=>exact f
   refine n ?_;have:a.tmps.toList[i]? =some (Xz t g):=by
    have l: (a.tmps.toList.take (pre.length+ (Xz t g::r).length))[i]? =some (Xz t g):=by rw[p,<-o];simp
    rw[List.getElem?_take]at l;split at l
    ·exact l
    ·cases l
   simp only[Qp,Zlw];rw[<-Array.getElem?_toList,this]
  ·exact y
theorem Z0v: ∀{ts:List Ty} {x:Jp ts} {vs:List Value},Zq5 w X B ts x vs->vs.length=ts.length
 | [],_,_,h=>by rw[show _=[]from h];rfl
 |t::ts,x,vs,⟨_,a,e,_,h⟩=>by rw[e];simp[Z0v h]
theorem Zqc.of{e:FnE}(hC:C.ok P g)(hsf:C.soft=false:=by rfl){fn:Func}{c:Code}(hf:P.funcs[e.f]? =some fn)(hb:fn.body=some c)(hcall: ∀args w,(callFunc e.f args).run P w= .ok (.enter e.f args) w)
  (hn:e.args.length<=fn.ntmps) (A:An (Jp e.res)) (hA:Zf5 C fn.ntmps c A (fnK C.τ e.res fn.results.toList))
  (hF: ∀xs r,e.F xs=some r->J4 C fn.ntmps c A (fnK C.τ e.res fn.results.toList) (Qow e.args xs)=some r):Zqc P g e where
 enters:=hcall
 calls:=fun w xs r a j hx q=>by
  have G:=Z0v hx;refine calls_of_wp hf hb ?_
  let a0:Act:={tmps:=a.toArray++Array.replicate (fn.ntmps-a.toArray.size) undef,defers:=[]}
  have t:R fn.ntmps (Zam.plain g w (hC.soft.trans hsf)) w (· <w.heap.size) (fun _=>[]) [] (Qow e.args xs) a0:=by
   have l:=fun k=>Zzx (W0:=Zam.plain g w (hC.soft.trans hsf)) (s:=Qow e.args xs) (F:=fun _=>[]) a0 (pre:=[]) (i:=0) hx rfl (by simp[a0]) k;exact
    {size:=by simp[a0];omega
     defers:=rfl
     below:=⟨rfl,rfl,rfl,Nat.le_refl _,fun _ _=>rfl⟩
     glob:=j
     gx:=fun b hb=>g.lt _ _ j hb
     xs:=fun e=>Bool.noConfusion ((hC.soft.trans hsf).symm.trans e)
     fix:=fun p m=>by cases m
     xlt:=fun b hb=>hb
     xin:=fun b hb=> .inl hb
     x0:=fun b hb=>hb
     own:=by simp
     nodup:=by simp
     disj:=by simp
     hown:=by simp
     hnodup:=by simp
     hdisj:=by simp
     comps:=fun d i u=>absurd ((l (.c d i)).2 d i rfl) u
     slots:=fun k=>(l k).1}
  refine wp_mono (Zu6 hC (fun p m=>by cases m) hA (hF xs r q) t) fun x o n m=> ?_;obtain⟨y,H,I,hk,h⟩:=m;have fin:Z82 C.τ e.res fn.results.toList y=some r->o.defers=[]/\ ∃v,(results fn o.tmps).run P n= .ok v n/\ ∃rs S,Ending.returned v= .returned (X4 rs)/\Zfd n w.heap.size e.res r rs S/\S.Nodup/\Below w.heap.size w n:=by
   intro hk;obtain⟨z,S,B,D,E,_⟩:=Zs5 hC.τ h hk;exact⟨h.defers,_,Zmj B,z,S,rfl,D,E,⟨h.below.os,h.below.tape,h.below.output,h.below.size,h.below.block⟩⟩
  cases x with
  |normal=>exact fin hk
  |ret=>exact fin hk
  |_=>simp[fnK]at hk
def Q6n(τ:Tab)(e:FnL)(rs:List ResultVar):Exit->St->Option (Jp e.res×List e.t.den)
 | .ret,s| .normal,s=>match s.get (.m 0)with
  | .val T (.u true) y=>match Ky (.slice e.e e.t) T y,Z82 τ e.res rs s with
   |some l,some r=>some (r,l)
   |_,_=>none
  |_=>none
 |_,_=>none
def Qoy(e:FnL)(l:List e.t.den)(x:Jp e.args):St:={env:=(.m 0,.val (.slice e.e e.t) (.u true) l)::Qzv e.args x 1,dirty:=[],lent:=[0]}
theorem Q7w{X X':Nat->Prop}{e:TypeId}{t:Ty}{l:List t.den}{v:Value}{L:List Nat}(hf:t.flat=true)(h:rd w X 0 true (.slice e t) l [v] L):rd w X' 0 true (.slice e t) l [v] L:=Q29 hf h h
theorem Qr0: ∀{ts:List Ty} {x:Jp ts} {vs:List Value} {S:List Nat},Qqs ts=true->Zfd w B ts x vs S->Zfd w B' ts x vs []
 | [],_,_,_,_,h=>⟨h.1,rfl⟩
 |t::ts,x,vs,S,a,⟨b,c,g,i,d,j,e,f⟩=>by
  simp only[Qqs,List.all_cons,Oba]at a;exact⟨b,c,[],[],d,rfl,(Zoh a.1 e).2,Qr0 a.2 f⟩
theorem Qc1.of{e:FnL}(hC:C.ok P g)(hsf:C.soft=false:=by rfl)(hlent:C.lent=[0])(hfl:e.t.flat=true)(hfr:Qqs e.res=true){fn:Func}{c:Code}(hf:P.funcs[e.f]? =some fn)(hb:fn.body=some c)(hcall: ∀args w,(callFunc e.f args).run P w= .ok (.enter e.f args) w)
  (hn:e.args.length+1<=fn.ntmps) (A:An (Jp e.res×List e.t.den)) (hA:Zf5 C fn.ntmps c A (Q6n C.τ e fn.results.toList))
  (hF: ∀l xs r,e.F l xs=some r->J4 C fn.ntmps c A (Q6n C.τ e fn.results.toList) (Qoy e l xs)=some r):Qc1 P g e where
 flat:=hfl
 enters:=hcall
 calls:=fun w X L l N xs r v a O Q U V Z q hx hr=>by
  have hl:=Z0v hx;have D: ∀b∈L,b<w.heap.size:=fun b hb=>(Zt7 q b hb).2;refine calls_of_wp hf hb ?_
  let a0:Act:={tmps:=(v::a).toArray++Array.replicate (fn.ntmps- (v::a).toArray.size) undef,defers:=[]}
  let z:Zam g:={W:=w,B:=0,Y:=fun b=>b<w.heap.size/\b∉L,L:=(· ∈L),X0:=X,fix:=[(0,v)],bB:=Nat.zero_le _,fr:=fun e=>Bool.noConfusion ((hC.soft.trans hsf).symm.trans e),yW:=fun _ h=>h.1,yL:=fun _ h hm=>h.2 hm}
  have E:a0.tmps.toList=(v::a)++List.replicate (fn.ntmps- (v::a).toArray.size) undef:=by simp[a0]
  have G:Qp z.gh a0 (.m 0)=v:=by
   have:a0.tmps[0]? =some v:=by rw[<-Array.getElem?_toList,E];rfl
   simp only[Qp,Zlw,this]
  have aa:a0.tmps.toList.take (([v]:List Value).length+a.length)=[v]++a:=by
   rw[E,show([v]:List Value).length+a.length=(v::a).length by simp;omega];exact List.take_left
  have h0:R fn.ntmps z w X (fun k=>if k= .m 0 then L else[]) [] (Qoy e l xs) a0:=by
   have H:=fun k=>Zzx (W0:=z) (s:=Qoy e l xs) (F:=fun k=>if k= .m 0 then L else[]) a0 (pre:=[v]) (i:=1) hx rfl aa k;have o: ∀k,(Qoy e l xs).get k=if Key.m 0=k then .val (.slice e.e e.t) (.u true) l else Zf8 (Qzv e.args xs 1) k:=fun k=>Z2 _ _ _ _;exact
    {size:=by simp[a0];omega
     defers:=rfl
     below:=⟨rfl,rfl,rfl,Nat.le_refl _,fun _ _=>rfl⟩
     glob:=O
     gx:=Q
     xs:=fun e=>Bool.noConfusion ((hC.soft.trans hsf).symm.trans e)
     fix:=fun p I=>by
      have:p=(0,v):=by simpa[z]using I
      subst this;exact⟨by simp[Qoy],G⟩
     xlt:=U
     xin:=fun b hb=> .inl hb
     x0:=fun b hb=>hb
     own:=fun k b hb=>by
      split at hb
      ·exact⟨.inr hb,D b hb,V b hb⟩
      ·cases hb
     nodup:=fun k=>by split;exact Z;simp
     disj:=fun k k' b hb J=>by
      split at hb
      ·split at J
       ·rename_i K e2;rw[K,e2]
       ·cases J
      ·cases hb
     hown:=by simp
     hnodup:=by simp
     hdisj:=by simp
     comps:=fun d i hc=>by
      rw[o]at hc;exact absurd ((H (.c d i)).2 d i rfl) (by simpa using hc)
     slots:=fun k=>by
      rw[o];by_cases hk:Key.m 0=k
      ·subst hk;simp only[if_true];exact⟨[v],by rw[G];rfl,by unfold rdF;exact(Q7w hfl q)⟩
      ·rw[if_neg hk,if_neg (Ne.symm hk)];exact(H k).1}
  refine wp_mono (Zu6 hC (fun p I=>by
     have:p=(0,v):=by simpa[z]using I
     subst this;simp[hlent]) hA (hF l xs (r,N) hr) h0) fun ex a' w' I=> ?_
  obtain⟨s',X',F',hk,n⟩:=I;have fin:Q6n C.τ e fn.results.toList .ret s'=some (r,N)->a'.defers=[]/\ ∃v',(results fn a'.tmps).run P w'= .ok v' w'/\ ∃rs S,Ending.returned v'= .returned (X4 rs)/\Zfd w' w.heap.size e.res r rs S/\S.Nodup/\(∃X',rd w' X' 0 true (.slice e.e e.t) N [v] L)/\
    w'.os=w.os/\w'.tape=w.tape/\w'.output=w.output/\w.heap.size<=w'.heap.size/\ ∀b,b<w.heap.size->b∉L->w'.heap[b]? =w.heap[b]? :=by
   intro hk;simp only[Q6n]at hk;split at hk
   ·rename_i T y hg;split at hk
    ·rename_i l2 r2 ab ac;simp only[Osi,Opi]at hk;obtain⟨rfl,rfl⟩:=hk;obtain⟨vs,S,k1,k2,k3,_⟩:=Zs5 hC.τ n ac;have hs:=n.slots (.m 0);rw[hg]at hs;obtain⟨us,h1,M⟩:=hs;obtain⟨rfl,rfl⟩:=Zel ab;unfold rdF at M;obtain⟨u,rfl⟩: ∃u,us=[u]:=List.length_eq_one_iff.1 (X5 M);have hu:Qp z.gh a' (.m 0)=u:=h1;have j:=(n.fix (0,v) (by simp[z])).2;simp only at j;rw[hu]at j;subst j;have ad:F' (.m 0)=L:=by
      obtain⟨v1,ae,S1,S2,K,e2,g1,g2⟩:=M;obtain⟨v2,ag,S3,S4,e3,e4,g3,g4⟩:=q;simp only[List.cons.injEq,and_true]at K e3;subst K;subst e3;rw[e2,e4,(Zeq (r':=fun _ _ _=>True) (fun x v S h=>⟨(Zoh (w':=w') (X':=X') (B':=0) (own':=true) hfl h).1,trivial⟩) g2).1,(Zeq (r':=fun _ _ _=>True) (fun x v S h=>⟨(Zoh (w':=w') (X':=X') (B':=0) (own':=true) hfl h).1,trivial⟩) g4).1,g1.2,g3.2]
     exact⟨n.defers,_,Zmj k1,vs,[],rfl,Qr0 hfr k2,by simp,⟨X',by rw[<-ad];exact M⟩,n.below.os,n.below.tape,n.below.output,n.below.size,fun b hb hm=>n.below.block b ⟨hb,hm⟩⟩
    ·cases hk
   ·cases hk
  cases ex with
  |normal=>exact fin hk
  |ret=>exact fin hk
  |_=>simp[Q6n]at hk
end
end Go.Am
namespace Go.Am
open Go.RowKit
def Qc4: (as:List AK)->Z1h as->Nat->List (Key×Tm)| [],_,_=>[]| .sh t::r,x,i=>(.m i,.val t (.u false) x.1)::Qc4 r x.2 (i+1)| .bx e t o::r,x,i=>(.m i,.box e t o x.1)::Qc4 r x.2 (i+1)| .mv t::r,x,i=>(.m i,.val t (.u true) x.1)::Qc4 r x.2 (i+1)
def Ziu:List AK->Nat->List Nat| [],_=>[]| .sh _::r,i=>Ziu r (i+1)| .bx _ _ _::r,i=>i::Ziu r (i+1)| .mv _::r,i=>Ziu r (i+1)
def Qox(as:List AK)(x:Z1h as):St:={env:=Qc4 as x 0,dirty:=[],lent:=Ziu as 0}
def Zl8:List AK->List Value->Nat->List (Nat×Value)| .sh _::r,_::vs,i=>Zl8 r vs (i+1)| .bx _ _ _::r,v::vs,i=>(i,v)::Zl8 r vs (i+1)| .mv _::r,_::vs,i=>Zl8 r vs (i+1)|_,_,_=>[]
def Q4p(s:St): (as:List AK)->Nat->Option (Zs0 as)
 | [],_=>some ()
 | .sh _::r,i=>Q4p s r (i+1)
 | .bx e T o::r,i=>match s.get (.m i)with
  | .box e' U f y=>match Nat.beq e' e&&Qi3 o f U,Ky T U y,Q4p s r (i+1)with
   |true,some z,some zs=>some (z,zs)
   |_,_,_=>none
  |_=>none
 | .mv _::r,i=>Q4p s r (i+1)
def Qqt:List AK->Nat->St->St| [],_,s=>s| .sh _::r,i,s=>Qqt r (i+1) s| .bx _ _ o::r,i,s=>Qqt r (i+1) (Q9f s i o)| .mv _::r,i,s=>Qqt r (i+1) s
def Zz7(τ:Tab): (ts:List Ty)->List ResultVar->St->Option (Jp ts×St)
 | [],[],s=>some ((),s)
 |t::ts,.tmp k::rs,s=>match Ztj s (op1 s [] (.tmp k)) t with
  |some q=>match Wz q.T q.f (.u true),Ky t q.T q.x,Zz7 τ ts rs q.s with
   |true,some x,some (xs,s')=>some ((x,xs),s')
   |_,_,_=>none
  |none=>none
 |t::ts,.cell k e::rs,s=>match s.get (.m k),τ e with
  | .box e0 U f y,some U'=>match(Nat.blt k 1048576&&decide (U=U'))&&Wz U f (.u true),Ky t U y,Zz7 τ ts rs (Y6 s k (.box e0 U .d y))with
   |true,some x,some (xs,s')=>some ((x,xs),s')
   |_,_,_=>none
  |_,_=>none
 |_,_,_=>none
def Zz9(τ:Tab): (ts:List Ty)->List ResultVar->St->Option (Jp ts)
 | [],[],_=>some ()
 |t::ts,.tmp k::rs,s=>match Qb6 s (op1 s [] (.tmp k)) t,Zz9 τ ts rs s with
  |some x,some xs=>some (x,xs)
  |_,_=>none
 |t::ts,.cell k e::rs,s=>match s.get (.m k),τ e with
  | .box _ U f y,some U'=>match(Nat.blt k 1048576&&decide (U=U'))&&Znv f U,Ky t U y,Zz9 τ ts rs s with
   |true,some x,some xs=>some (x,xs)
   |_,_,_=>none
  |_,_=>none
 |_,_,_=>none
def Zz5(τ:Tab): (ts:List (Ty×Fl))->List ResultVar->St->Option (Zwf ts×St)
 | [],[],s=>some ((),s)
 |t::ts,.tmp k::rs,s=>match Ztj s (op1 s [] (.tmp k)) t.1 with
  |some q=>match Qi3 t.2 q.f q.T,Ky t.1 q.T q.x,Zz5 τ ts rs q.s with
   |true,some x,some (xs,s')=>some ((x,xs),s')
   |_,_,_=>none
  |none=>none
 |t::ts,.cell k e::rs,s=>match s.get (.m k),τ e with
  | .box e0 U f y,some U'=>match(Nat.blt k 1048576&&decide (U=U'))&&Qi3 t.2 f U,Ky t.1 U y,Zz5 τ ts rs (Y6 s k (.box e0 U .d y))with
   |true,some x,some (xs,s')=>some ((x,xs),s')
   |_,_,_=>none
  |_,_=>none
 |_,_,_=>none
def Qaj(ln:List Nat)(τ:Tab): (r:RS)->List ResultVar->St->Option (Z1i r×St)
 | .vals ts,rs,s=>Zz7 τ ts rs s
 | .newb e T,[.tmp k],s=>match Quz (op1 s [] (.tmp k))with
  |some q=>match s.get (.m q)with
   | .box e' U f y=>match Nat.beq e' e&&Qi3 (.u false) f U&& !(s.lent.any (Nat.beq q)),Ky T U y with
    |true,some z=>some (z,s)
    |_,_=>none
   |_=>none
  |none=>none
 | .newb _ _,_,_=>none
 | .shr ts,rs,s=>match Zz9 τ ts rs s with
  |some x=>some (x,s)
  |none=>none
 | .flg ts,rs,s=>Zz5 τ ts rs s
 | .fp T j p1 p2,[.tmp k],s=>match op1 s [] (.tmp k),ln[j]? with
  | .tm _ (.ptr q p),some q'=>match s.get (.m q),Nat.beq q' q with
   | .box _ U _ _,true=>match decide (U=T),Qnb p p1,Qnb p p2 with
    |true,true,_=>some (true,s)
    |true,false,true=>some (false,s)
    |_,_,_=>none
   |_,_=>none
  |_,_=>none
 | .fp ..,_,_=>none
def Qz4(τ:Tab)(as:List AK)(r:RS)(rs:List ResultVar):Exit->St->Option (Z1i r×Zs0 as)
 | .ret,s| .normal,s=>match Qaj (Ziu as 0) τ r rs (Qqt as 0 s)with
  |some (x,s')=>match Q4p s' as 0 with
   |some z=>some (x,z)
   |none=>none
  |none=>none
 |_,_=>none
section
variable {P:Program} {g:K9} {W0:Zam g} {w w':World} {X X':Nat->Prop} {B B' n:Nat} {own:Bool} {s s':St} {F:Key->List Nat} {a:Act} {H H':List Nat} {o:Oper} {tg:Xo} {τ:Tab} {C:Cfg} {gh:Nat->Value}
theorem R.hperm(h:R n W0 w X F H s a)(hp:H'.Perm H):R n W0 w X F H' s a:=
 {h with
  hown:=fun b c=>h.hown b (hp.mem_iff.1 c)
  hnodup:=hp.nodup_iff.2 h.hnodup
  hdisj:=fun k b c d=>h.hdisj k b c (hp.mem_iff.1 d)}
theorem Zz8(hτ:τ.ok P): ∀{ts:List Ty} {rs:List ResultVar} {s:St} {F:Key->List Nat} {H:List Nat} {xs:Jp ts} {s':St},R n W0 w X F H s a->Zz7 τ ts rs s=some (xs,s')->
  ∃vs S F',(rs.mapM (Zk1 a)).run P w= .ok vs w/\Zfd w W0.B ts xs vs S/\R n W0 w X F' (S++H) s' a
 | [],[],s,F,H,xs,s',h,g=>by
  simp only[Zz7,Osi,Opi]at g;obtain⟨_,rfl⟩:=g;exact⟨[],[],F,by simp,⟨rfl,rfl⟩,h⟩
 |t::ts,.tmp k::rs,s,F,H,xs,s',h,g=>by
  simp only[Zz7]at g;split at g
  ·rename_i q hq;split at g
   ·rename_i x G s2 z hx l;simp only[Osi,Opi]at g;obtain⟨rfl,rfl⟩:=g;obtain⟨_,F1,i,A,h1,h2,I,_,_⟩:=Zbg h Vu hq;obtain⟨rfl,rfl⟩:=Zel hx;obtain⟨vs,S,F',J,K,L⟩:=Zz8 hτ I l;refine⟨_,i++S,F',?_,⟨A,vs,i,S,rfl,rfl,Zfe (.inr (Nat.le_refl _)) (.inl rfl) (by have:=Zh3 z h2;unfold rdF at this;exact this),K⟩,L.hperm ?_⟩
    ·have o: (a.tmps.getD k undef)=Xz q.T A:=h1;simp only[List.mapM_cons,Zk1,Sem.run_bind,Sem.run_pure,Result.andThen_ok,J,o]
    ·rw[List.append_assoc];exact List.perm_append_comm_assoc _ _ _
   ·cases g
  ·cases g
 |t::ts,.cell k e::rs,s,F,H,xs,s',h,g=>by
  simp only[Zz7]at g;split at g
  ·rename_i e' U f y U' M hU;split at g
   ·rename_i x G s2 z hx l;simp only[Oba,decide_eq_true_eq]at z;obtain⟨⟨N,rfl⟩,z⟩:=z;simp only[Osi,Opi]at g;obtain⟨rfl,rfl⟩:=g;obtain⟨rfl,rfl⟩:=Zel hx;have O:=h.slots (.m k);rw[M]at O;obtain⟨b,c,i,Q,C,V,D⟩:=O;have p:=h.nodup (.m k);rw[C]at p;have I:R n W0 w X (Qg F (.m k) [b]) (i++H) (Y6 s k (.box e' U .d x)) a:=by
     refine h.turn (S':=[b]) (H':=i++H) h.below (Nat.le_refl _) (fun _ _=>rfl) (fun _ _ _ _=>rfl) ?_ ?_ (by rw[M];simp) ?_ ?_
     ·intro E r;rw[C];simpa using r
     ·have W: ∀E∈b::i,E∉H:=fun E r=>h.hdisj (.m k) E (by rw[C];exact r);refine List.nodup_append.2 ⟨by simp,List.nodup_append.2 ⟨(List.nodup_cons.1 p).2,h.hnodup,fun x hx y hy e=>W x (by simp[hx]) (by rw[e];exact hy)⟩,fun x hx y hy e=> ?_⟩;simp only[List.mem_singleton]at hx;subst hx;subst e;rcases List.mem_append.1 hy with hy|hy
      ·exact(List.nodup_cons.1 p).1 hy
      ·exact W x (by simp) hy
     ·intro e T f x b2 S Y Z;rw[M]at Y;cases Y;rw[C]at Z;obtain⟨rfl,_⟩:=List.cons.inj Z;exact⟨.d,_,[],rfl,rfl⟩
     ·exact⟨b,c,[],Q,rfl,V,by unfold rdF;exact⟨X8 D,Zh2 D,rfl⟩⟩
    obtain⟨vs,S,F',J,K,L⟩:=Zz8 hτ I l;refine⟨_,i++S,F',?_,⟨c.toList,vs,i,S,rfl,rfl,Zfe (.inr (Nat.le_refl _)) (.inl rfl) (by have:=Zh3 z D;unfold rdF at this;exact this),K⟩,L.hperm ?_⟩
    ·have o: (a.tmps.getD k undef)= .pointer (some ⟨b,0,none⟩):=(Ye W0 a N).symm.trans Q;have v:=(hτ _ _ hU).load (w:=w) (ad:=⟨b,0,none⟩) (vs:=c.toList) (X8 D) (fun j u hj=>by
      rw[Zhk w V,<-Array.getElem?_toList,Nat.zero_add];exact hj)
     simp only[List.mapM_cons,Zk1,Sem.run_bind,Sem.run_pure,Result.andThen_ok,J,o,v,asAddr]
    ·rw[List.append_assoc];exact List.perm_append_comm_assoc _ _ _
   ·cases g
  ·cases g
 | [],.tmp _::_,_,_,_,_,_,_,g| [],.cell .. ::_,_,_,_,_,_,_,g|_::_,[],_,_,_,_,_,_,g=>by simp[Zz7]at g
theorem Zz6(hτ:τ.ok P): ∀{ts:List (Ty×Fl)} {rs:List ResultVar} {s:St} {F:Key->List Nat} {H:List Nat} {xs:Zwf ts} {s':St},R n W0 w X F H s a->Zz5 τ ts rs s=some (xs,s')->
  ∃vs S F',(rs.mapM (Zk1 a)).run P w= .ok vs w/\Qtr w X W0.B ts xs vs S/\R n W0 w X F' (S++H) s' a
 | [],[],s,F,H,xs,s',h,g=>by
  simp only[Zz5,Osi,Opi]at g;obtain⟨_,rfl⟩:=g;exact⟨[],[],F,by simp,⟨rfl,rfl⟩,h⟩
 | (t,fl)::ts,.tmp k::rs,s,F,H,xs,s',h,g=>by
  simp only[Zz5]at g;split at g
  ·rename_i q hq;split at g
   ·rename_i x G s2 z hx l;simp only[Osi,Opi]at g;obtain⟨rfl,rfl⟩:=g;obtain⟨_,F1,i,A,h1,h2,I,_,_⟩:=Zbg h Vu hq;obtain⟨rfl,rfl⟩:=Zel hx;obtain⟨vs,S,F',J,K,L⟩:=Zz6 hτ I l;refine⟨_,i++S,F',?_,⟨A,vs,i,S,rfl,rfl,Zwy z h2,K⟩,L.hperm ?_⟩
    ·have o: (a.tmps.getD k undef)=Xz q.T A:=h1;simp only[List.mapM_cons,Zk1,Sem.run_bind,Sem.run_pure,Result.andThen_ok,J,o]
    ·rw[List.append_assoc];exact List.perm_append_comm_assoc _ _ _
   ·cases g
  ·cases g
 | (t,fl)::ts,.cell k e::rs,s,F,H,xs,s',h,g=>by
  simp only[Zz5]at g;split at g
  ·rename_i e' U f y U' M hU;split at g
   ·rename_i x G s2 z hx l;simp only[Oba,decide_eq_true_eq]at z;obtain⟨⟨N,rfl⟩,z⟩:=z;simp only[Osi,Opi]at g;obtain⟨rfl,rfl⟩:=g;obtain⟨rfl,rfl⟩:=Zel hx;have O:=h.slots (.m k);rw[M]at O;obtain⟨b,c,i,Q,C,V,D⟩:=O;have p:=h.nodup (.m k);rw[C]at p;have I:R n W0 w X (Qg F (.m k) [b]) (i++H) (Y6 s k (.box e' U .d x)) a:=by
     refine h.turn (S':=[b]) (H':=i++H) h.below (Nat.le_refl _) (fun _ _=>rfl) (fun _ _ _ _=>rfl) ?_ ?_ (by rw[M];simp) ?_ ?_
     ·intro E r;rw[C];simpa using r
     ·have W: ∀E∈b::i,E∉H:=fun E r=>h.hdisj (.m k) E (by rw[C];exact r);refine List.nodup_append.2 ⟨by simp,List.nodup_append.2 ⟨(List.nodup_cons.1 p).2,h.hnodup,fun x hx y hy e=>W x (by simp[hx]) (by rw[e];exact hy)⟩,fun x hx y hy e=> ?_⟩;simp only[List.mem_singleton]at hx;subst hx;subst e;rcases List.mem_append.1 hy with hy|hy
      ·exact(List.nodup_cons.1 p).1 hy
      ·exact W x (by simp) hy
     ·intro e T f x b2 S Y Z;rw[M]at Y;cases Y;rw[C]at Z;obtain⟨rfl,_⟩:=List.cons.inj Z;exact⟨.d,_,[],rfl,rfl⟩
     ·exact⟨b,c,[],Q,rfl,V,by unfold rdF;exact⟨X8 D,Zh2 D,rfl⟩⟩
    obtain⟨vs,S,F',J,K,L⟩:=Zz6 hτ I l;refine⟨_,i++S,F',?_,⟨c.toList,vs,i,S,rfl,rfl,Zwy z D,K⟩,L.hperm ?_⟩
    ·have o: (a.tmps.getD k undef)= .pointer (some ⟨b,0,none⟩):=(Ye W0 a N).symm.trans Q;have v:=(hτ _ _ hU).load (w:=w) (ad:=⟨b,0,none⟩) (vs:=c.toList) (X8 D) (fun j u hj=>by
      rw[Zhk w V,<-Array.getElem?_toList,Nat.zero_add];exact hj)
     simp only[List.mapM_cons,Zk1,Sem.run_bind,Sem.run_pure,Result.andThen_ok,J,o,v,asAddr]
    ·rw[List.append_assoc];exact List.perm_append_comm_assoc _ _ _
   ·cases g
  ·cases g
 | [],.tmp _::_,_,_,_,_,_,_,g| [],.cell .. ::_,_,_,_,_,_,_,g|_::_,[],_,_,_,_,_,_,g=>by simp[Zz5]at g
theorem Zxm(hτ:τ.ok P)(h:R n W0 w X F H s a): ∀{ts:List Ty} {rs:List ResultVar} {xs:Jp ts},Zz9 τ ts rs s=some xs->
  ∃vs,(rs.mapM (Zk1 a)).run P w= .ok vs w/\Qy3 w X ts xs vs
 | [],[],xs,d=>⟨[],by simp,rfl⟩
 |t::ts,.tmp k::rs,xs,d=>by
  simp only[Zz9]at d;split at d
  ·rename_i x r hx g;simp only[Osi]at d;subst d;obtain⟨B,E,G⟩:=Z0x h (x:= .tmp k) hx;obtain⟨vs,v,z⟩:=Zxm hτ h g;refine⟨_,?_,⟨B,vs,rfl,G,z⟩⟩;have i: (a.tmps.getD k undef)=Xz t B:=E;simp only[List.mapM_cons,Zk1,Sem.run_bind,Sem.run_pure,Result.andThen_ok,v,i]
  ·cases d
 |t::ts,.cell k e::rs,xs,d=>by
  simp only[Zz9]at d;split at d
  ·rename_i Q U f y S I J;split at d
   ·rename_i x r q hx g;simp only[Oba,decide_eq_true_eq]at q;obtain⟨⟨A,rfl⟩,q⟩:=q;simp only[Osi]at d;subst d;obtain⟨rfl,rfl⟩:=Zel hx;have C:=h.slots (.m k);rw[I]at C;obtain⟨b,c,K,L,V,M,D⟩:=C;have l:=Zwy (o:= .u false) q D;unfold rdF at l;have N:K=[]:=Zgg l;subst N;obtain⟨vs,v,z⟩:=Zxm hτ h g;refine⟨_,?_,⟨c.toList,vs,rfl,Vn l (by simp),z⟩⟩;have i: (a.tmps.getD k undef)= .pointer (some ⟨b,0,none⟩):=(Ye W0 a A).symm.trans L;have p:=(hτ _ _ J).load (w:=w) (ad:=⟨b,0,none⟩) (vs:=c.toList) (X8 D) (fun j u O=>by
     rw[Zhk w M,<-Array.getElem?_toList,Nat.zero_add];exact O)
    simp only[List.mapM_cons,Zk1,Sem.run_bind,Sem.run_pure,Result.andThen_ok,v,i,p,asAddr]
   ·cases d
  ·cases d
 | [],.tmp _::_,_,d| [],.cell .. ::_,_,d|_::_,[],_,d=>by simp[Zz9]at d
theorem Qv7(hτ:τ.ok P){r:RS}{rs:List ResultVar}{x:Z1i r}(h:R n W0 w X F [] s a)(hB:W0.B=0){ln:List Nat}(hr:Qaj ln τ r rs s=some (x,s')):
  ∃vs S F',(rs.mapM (Zk1 a)).run P w= .ok vs w/\rdS w X r x vs S/\R n W0 w X F' [] s' a/\S.Nodup/\(∀b,b∈S->W0.mine b/\b<w.heap.size/\ ¬X b)/\ ∀i,i∈s'.lent-> ∀b,b∈S->b∉F' (.m i):=by
 cases r with
 |vals A=>
  obtain⟨vs,S,F',u,o,g⟩:=Zz8 hτ h (show Zz7 τ A rs s=some (x,s')from hr);rw[hB]at o;exact⟨vs,S,F',u,o,g.drop,(by simpa using g.hnodup),fun b p=>g.hown b (by simp[p]),fun i _ b p v=>g.hdisj _ b v (by simp[p])⟩
 |newb e T=>
  match rs,hr with
  | [],hr=>cases hr
  | [.cell ..,.cell ..],hr=>cases hr
  | [.cell ..,.tmp _],hr=>cases hr
  | [.cell ..],hr=>cases hr
  | .tmp _::_::_,hr=>cases hr
  | .cell .. ::_::_::_,hr=>cases hr
  | [.tmp k],hr=>
   simp only[Qaj]at hr;split at hr
   ·rename_i q M;split at hr
    ·rename_i e' U f y K;split at hr
     ·rename_i z l N;simp only[Oba,Bool.not_eq_true']at l;simp only[Osi,Opi]at hr;obtain⟨D,rfl⟩:=hr;have t:x=z:=D.symm;subst t;have O:=Onb l.1.1;subst O;obtain⟨rfl,rfl⟩:=Zel N;have E:=Zw9 h M K;have C:=h.slots (.m q);rw[K]at C;obtain⟨b,c,S,Q,L,V,W⟩:=C;have G:=Zwy l.1.2 W;unfold rdF at G;have Y:S=[]:=Zgg G;subst Y;refine⟨[.pointer (some ⟨b,0,none⟩)],[b],F,?_,⟨b,c,rfl,rfl,V,Zfe (.inl rfl) (.inr fun _ h=>h) G⟩,h,by simp,?_,?_⟩
      ·have H: (a.tmps.getD k undef)= .pointer (some ⟨b,0,none⟩):=by
        have:a.eval (.tmp k)=_:=E;rw[Q]at this;exact this
       simp only[List.mapM_cons,List.mapM_nil,Zk1,Sem.run_bind,Sem.run_pure,Result.andThen_ok,H]
      ·intro I d;simp only[List.mem_singleton]at d;subst d;exact h.own (.m q) I (by rw[L];simp)
      ·intro i Z I d v;simp only[List.mem_singleton]at d;subst d;have:=h.disj (.m q) (.m i) I (by rw[L];simp) v;simp only[Key.m.injEq]at this;subst this;exact Z6g l.2 Z
     ·cases hr
    ·cases hr
   ·cases hr
 |shr A=>
  simp only[Qaj]at hr;split at hr
  ·rename_i x' hx;simp only[Osi,Opi]at hr;obtain⟨J,rfl⟩:=hr;have t:x=x':=J.symm;subst t;obtain⟨vs,u,o⟩:=Zxm hτ h hx;exact⟨vs,[],F,u,⟨rfl,o⟩,h,by simp,by simp,by simp⟩
  ·cases hr
 |flg A=>
  obtain⟨vs,S,F',u,o,g⟩:=Zz6 hτ h (show Zz5 τ A rs s=some (x,s')from hr);rw[hB]at o;exact⟨vs,S,F',u,o,g.drop,(by simpa using g.hnodup),fun b p=>g.hown b (by simp[p]),fun i _ b p v=>g.hdisj _ b v (by simp[p])⟩
 |fp T j p1 p2=>
  match rs,hr with
  | [],hr=>cases hr
  | [.cell ..,.cell ..],hr=>cases hr
  | [.cell ..,.tmp _],hr=>cases hr
  | [.cell ..],hr=>cases hr
  | .tmp _::_::_,hr=>cases hr
  | .cell .. ::_::_::_,hr=>cases hr
  | [.tmp k],hr=>
   have C:s'=s:=by
    simp only[Qaj]at hr;split at hr
    ·split at hr
     ·split at hr
      ·simp only[Osi,Opi]at hr;exact hr.2.symm
      ·simp only[Osi,Opi]at hr;exact hr.2.symm
      ·cases hr
     ·cases hr
    ·cases hr
   subst C;exact⟨[a.tmps.getD k undef],[],F,by simp only[List.mapM_cons,List.mapM_nil,Zk1,Sem.run_bind,Sem.run_pure,Result.andThen_ok],rfl,h,by simp,by simp,by simp⟩
theorem Xcb{r:RS}{rs:List ResultVar}{x:Z1i r}(h:R n W0 w X F H s a){ln:List Nat}(hr:Qaj ln τ r rs s=some (x,s')){vs:List Value}(hv: (rs.mapM (Zk1 a)).run P w= .ok vs w)
  {BL:List Nat} (hb: ∀(j q:Nat),ln[j]? =some q-> ∃b,BL[j]? =some b/\Qp W0.gh a (.m q)= .pointer (some ⟨b,0,none⟩)):rdP r x vs BL:=by
 cases r with
 |fp T j J K=>
  match rs,hr with
  | [],hr=>cases hr
  | [.cell ..,.cell ..],hr=>cases hr
  | [.cell ..,.tmp _],hr=>cases hr
  | [.cell ..],hr=>cases hr
  | .tmp _::_::_,hr=>cases hr
  | .cell .. ::_::_::_,hr=>cases hr
  | [.tmp k],hr=>
   simp only[Qaj]at hr;split at hr
   ·rename_i L q p o hx C;split at hr
    ·rename_i e U f y t d;have d:=Onb d;subst d;obtain⟨u,M,N,O,Q,V,b,S,v,D,E⟩:=Kp h Vu hx (by simp);simp only[Operand.tmp.injEq]at u;subst u;rw[t]at v;cases v;have z:=h.slots (.m o);rw[t]at z;obtain⟨W,Y,Z,G,A,g3,g4⟩:=z;rw[D]at A;obtain⟨rfl,_⟩:=List.cons.inj A;obtain⟨b4,B,g⟩:=hb j o C;rw[G]at g;simp only[Value.pointer.injEq,Osi,Addr.mk.injEq,and_true]at g;subst g;have i: (a.tmps.getD k undef)= .pointer (some ⟨b,J1 U p,none⟩):=E;simp only[List.mapM_cons,List.mapM_nil,Zk1,Sem.run_bind,Sem.run_pure,Result.andThen_ok,i,Result.ok.injEq,and_true]at hv;subst hv;split at hr
     ·rename_i c l;have c:=Ode c;subst c;simp only[Osi,Opi]at hr;obtain⟨rfl,rfl⟩:=hr;exact⟨b,B,by rw[Zwo l];rfl⟩
     ·rename_i c I l;have c:=Ode c;subst c;simp only[Osi,Opi]at hr;obtain⟨rfl,rfl⟩:=hr;exact⟨b,B,by rw[Zwo l];rfl⟩
     ·cases hr
    ·cases hr
   ·cases hr
 |_=>trivial
theorem Qoi: ∀{as:List AK} {x:Zs0 as} {vals:List Value} {BL C:List Nat} {i j q:Nat},rdO w X as x vals BL C->(Ziu as i)[j]? =some q-> ∃b,BL[j]? =some b/\(q,Value.pointer (some ⟨b,0,none⟩))∈Zl8 as vals i
 | [],_,_,_,_,_,_,_,_,a=>by simp[Ziu]at a
 | .sh _::r,_,_,_,_,i,j,q,⟨v,d,e,h⟩,a=>by
  subst e;exact Qoi (as:=r) (i:=i+1) h a
 | .mv _::r,_,_,_,_,i,j,q,⟨v,d,e,h⟩,a=>by
  subst e;exact Qoi (as:=r) (i:=i+1) h a
 | .bx _ _ _::r,_,_,_,_,i,j,q,⟨b,c,S,d,f,o,g,k,p,_,_,h⟩,a=>by
  subst g;subst k;cases j with
  |zero=>
   simp only[Ziu,List.getElem?_cons_zero,Osi]at a;subst a;exact⟨b,rfl,by simp[Zl8]⟩
  |succ j=>
   simp only[Ziu,List.getElem?_cons_succ]at a;obtain⟨l,m,n⟩:=Qoi (as:=r) (i:=i+1) h a;exact⟨l,by simpa using m,by simp[Zl8,n]⟩
theorem Z0r(h:R n W0 w X F H s a)(hB:W0.B=0): ∀{as:List AK} {vals:List Value} {i:Nat} {z:Zs0 as},Q4p s as i=some z->vals.length=as.length->(∀p,p∈Zl8 as vals i->Qp W0.gh a (.m p.1)=p.2)->
  ∃BL C,rdO w X as z vals BL C/\(BL++C).Nodup/\ ∀b,b∈BL++C-> ∃j,i<=j/\j∈Ziu as i/\b∈F (.m j)
 | [],vals,i,z,d,g,_=>⟨[],[],⟨List.eq_nil_of_length_eq_zero g,rfl,rfl⟩,by simp,by simp⟩
 | .sh t::r,[],i,z,d,g,_=>by simp at g
 | .bx .. ::r,[],i,z,d,g,_=>by simp at g
 | .mv .. ::r,[],i,z,d,g,_=>by simp at g
 | .mv t::r,v::vals,i,z,d,g,A=>by
  obtain⟨BL,C,E,G,D⟩:=Z0r h hB (as:=r) (vals:=vals) (i:=i+1) d (by simpa using g) A;exact⟨BL,C,⟨v,vals,rfl,E⟩,G,fun b M=>let⟨j,N,I,l⟩:=D b M;⟨j,by omega,I,l⟩⟩
 | .sh t::r,v::vals,i,z,d,g,A=>by
  obtain⟨BL,C,E,G,D⟩:=Z0r h hB (as:=r) (vals:=vals) (i:=i+1) d (by simpa using g) A;exact⟨BL,C,⟨v,vals,rfl,E⟩,G,fun b M=>let⟨j,N,I,l⟩:=D b M;⟨j,by omega,I,l⟩⟩
 | .bx e T o::r,v::vals,i,z,d,g,A=>by
  simp only[Q4p]at d;split at d
  ·rename_i e' U f y Y;split at d
   ·rename_i z1 z2 q O P;simp only[Osi]at d;subst d;simp only[Oba]at q;have Z:=Onb q.1;subst Z;obtain⟨rfl,rfl⟩:=Zel O;obtain⟨BL,C,E,G,D⟩:=Z0r h hB (as:=r) (vals:=vals) (i:=i+1) P (by simpa using g) (fun p Q=>A p (by simp[Zl8,Q]));have W:=h.slots (.m i);rw[Y]at W;obtain⟨b,c,S,g1,V,g3,g4⟩:=W;have hv:v= .pointer (some ⟨b,0,none⟩):=by rw[<-g1];exact(A (i,v) (by simp[Zl8])).symm
    have J: ∀k,k∈b::S->k∉BL++C:=fun k u L=>by
     obtain⟨j,N,_,l⟩:=D k L;have:=h.disj (.m i) (.m j) k (by rw[V];exact u) l;simp only[Key.m.injEq]at this;omega
    have K:=h.nodup (.m i);rw[V]at K;refine⟨b::BL,S++C,⟨b,c,S,vals,BL,C,by rw[hv],rfl,rfl,g3,?_,E⟩,?_,?_⟩
    ·have:=Zwy q.2 g4;rw[hB]at this;exact this
    ·have h4: (b::S++ (BL++C)).Nodup:=List.nodup_append.2 ⟨K,G,fun x hx y hy e=>J x hx (by rw[e];exact hy)⟩;have Q: (b::BL++ (S++C)).Perm (b::S++ (BL++C)):=(List.perm_append_comm_assoc BL S C).cons b;exact Q.nodup_iff.2 h4
    ·intro k u;by_cases L:k∈BL++C
     ·obtain⟨j,N,I,l⟩:=D k L;exact⟨j,by omega,by simp[Ziu,I],l⟩
     ·refine⟨i,Nat.le_refl _,by simp[Ziu],?_⟩;rw[V];simp only[List.mem_append,List.mem_cons]at u L⊢
      grind
   ·cases d
  ·cases d
theorem Qog: ∀{as:List AK} {x:Z1h as} {vals:List Value} {L:List Nat},rdA w X as x vals L->vals.length=as.length
 | [],_,_,_,h=>by simp[h.1]
 | .sh t::r,_,_,_,⟨_,_,e,_,h⟩=>by simp[e,Qog h]
 | .bx .. ::r,_,_,_,⟨_,_,_,_,_,e,_,_,_,h⟩=>by simp[e,Qog h]
 | .mv .. ::r,_,_,_,⟨_,_,_,_,e,_,_,h⟩=>by simp[e,Qog h]
theorem Zu8: ∀{as:List AK} {vals:List Value} {i:Nat} {p:Nat×Value},p∈Zl8 as vals i->p.1∈Ziu as i/\i<=p.1
 | [],_,_,_,h=>by simp[Zl8]at h
 | .sh t::r,[],_,_,h=>by simp[Zl8]at h
 | .bx .. ::r,[],_,_,h=>by simp[Zl8]at h
 | .mv .. ::r,[],_,_,h=>by simp[Zl8]at h
 | .mv t::r,v::vals,i,p,h=>let⟨a,b⟩:=Zu8 (as:=r) h;⟨a,by omega⟩
 | .sh t::r,v::vals,i,p,h=>let⟨a,b⟩:=Zu8 (as:=r) h;⟨a,by omega⟩
 | .bx .. ::r,v::vals,i,p,h=>by
  simp only[Zl8,List.mem_cons]at h;rcases h with rfl|h
  ·exact⟨by simp[Ziu],Nat.le_refl _⟩
  ·obtain⟨a,b⟩:=Zu8 h;exact⟨by simp[Ziu,a],by omega⟩
theorem Zwc(a:Act): ∀{as:List AK} {x:Z1h as} {vals pre:List Value} {i:Nat} {L:List Nat},rdA w X as x vals L->pre.length=i->a.tmps.toList.take (pre.length+vals.length)=pre++vals->L.Nodup->
  ∃F0:Key->List Nat,(∀k,(F0 k).Nodup/\ ∀b,b∈F0 k->b∈L)/\(∀k k' b,b∈F0 k->b∈F0 k'->k=k')/\(∀k b,b∈F0 k-> ∃j,i<=j/\k= .m j)/\
   (∀p,p∈Zl8 as vals i->Qp gh a (.m p.1)=p.2)/\ ∀(s:St) (F:Key->List Nat) (k:Key),vt gh w X 0 s F a (Qp gh a k) (F0 k) (Zf8 (Qc4 as x i) k)/\(∀d j,k= .c d j->Zf8 (Qc4 as x i) k= .junk)
 | [],_,_,_,i,_,⟨y,D⟩,_,_,_=>by
  subst y;subst D;exact⟨fun _=>[],by simp,by simp,by simp,by simp[Zl8],fun _ _ _=>⟨rfl,fun _ _ _=>rfl⟩⟩
 | .sh t::r,x,vals,pre,i,L,h,z,A,E=>by
  obtain⟨u,G,rfl,H,O⟩:=h;obtain⟨F0,v,I,C,J,K⟩:=Zwc a (pre:=pre++ [Xz t u]) (i:=i+1) O (by simp[z]) (by simpa[Nat.add_assoc,Nat.add_comm 1]using A) E;have P:F0 (.m i)=[]:=List.eq_nil_iff_forall_not_mem.2 fun b g=>by
   obtain⟨j,Q,B⟩:=C _ b g;simp only[Key.m.injEq]at B;omega
  refine⟨F0,v,I,fun k b g=>let⟨j,Q,B⟩:=C k b g;⟨j,by omega,B⟩,J,fun s F k=> ?_⟩;simp only[Qc4,Z2];split
  ·rename_i e;subst e;rw[P];refine⟨⟨u,?_,by unfold rdF;exact Zfe (.inl rfl) (.inr fun _ h=>h) H⟩,fun _ _ M=>by simp at M⟩;have:a.tmps.toList[i]? =some (Xz t u):=by
    have q: (a.tmps.toList.take (pre.length+ (Xz t u::G).length))[i]? =some (Xz t u):=by rw[A,<-z];simp
    rw[List.getElem?_take]at q;split at q
    ·exact q
    ·cases q
   simp only[Qp,Zlw];rw[<-Array.getElem?_toList,this]
  ·exact K s F k
 | .bx e t o::r,x,vals,pre,i,L,h,z,A,E=>by
  obtain⟨b,c,S,G,Y,rfl,rfl,H,O,q⟩:=h;have U: (b::S++Y).Nodup:=by simpa using E
  obtain⟨V,W,N⟩:=List.nodup_append.1 U;obtain⟨F0,v,I,C,J,K⟩:=Zwc a (pre:=pre++ [.pointer (some ⟨b,0,none⟩)]) (i:=i+1) q (by simp[z]) (by simpa[Nat.add_assoc,Nat.add_comm 1]using A) W;have l:Qp gh a (.m i)= .pointer (some ⟨b,0,none⟩):=by
   have:a.tmps.toList[i]? =some (.pointer (some ⟨b,0,none⟩)):=by
    have q: (a.tmps.toList.take (pre.length+ (Value.pointer (some ⟨b,0,none⟩)::G).length))[i]? =some (.pointer (some ⟨b,0,none⟩)):=by rw[A,<-z];simp
    rw[List.getElem?_take]at q;split at q
    ·exact q
    ·cases q
   simp only[Qp,Zlw];rw[<-Array.getElem?_toList,this]
  refine⟨fun k=>if k= .m i then b::S else F0 k,fun k=> ?_,fun k k' n g f=> ?_,fun k n g=> ?_,fun p hp'=> ?_,fun s F k=> ?_⟩
  ·dsimp only;split
   ·exact⟨V,fun n f=>by simp only[List.mem_cons,List.mem_append]at f⊢;grind⟩
   ·exact⟨(v k).1,fun n f=>by have:=(v k).2 n f;simp[this]⟩
  ·dsimp only at g f;split at g<;>split at f
   ·rename_i y D;rw[y,D]
   ·exact absurd rfl (N n g n ((v _).2 _ f))
   ·exact absurd rfl (N n f n ((v _).2 _ g))
   ·exact I _ _ _ g f
  ·dsimp only at g;split at g
   ·rename_i y;exact⟨i,Nat.le_refl _,y⟩
   ·obtain⟨j,Q,B⟩:=C k n g;exact⟨j,by omega,B⟩
  ·simp only[Zl8,List.mem_cons]at hp';rcases hp' with rfl|hp'
   ·exact l
   ·exact J p hp'
  ·simp only[Qc4,Z2];by_cases hk:k= .m i
   ·subst hk;simp only[if_true];exact⟨⟨b,c,S,l,rfl,H,O⟩,fun _ _ M=>by simp at M⟩
   ·rw[if_neg (Ne.symm hk),if_neg hk];exact K s F k
 | .mv t::r,x,vals,pre,i,L,h,z,A,E=>by
  obtain⟨u,S,G,Y,rfl,rfl,H,q⟩:=h;obtain⟨V,W,N⟩:=List.nodup_append.1 E;obtain⟨F0,v,I,C,J,K⟩:=Zwc a (pre:=pre++ [Xz t u]) (i:=i+1) q (by simp[z]) (by simpa[Nat.add_assoc,Nat.add_comm 1]using A) W;have l:Qp gh a (.m i)=Xz t u:=by
   have:a.tmps.toList[i]? =some (Xz t u):=by
    have q: (a.tmps.toList.take (pre.length+ (Xz t u::G).length))[i]? =some (Xz t u):=by rw[A,<-z];simp
    rw[List.getElem?_take]at q;split at q
    ·exact q
    ·cases q
   simp only[Qp,Zlw];rw[<-Array.getElem?_toList,this]
  refine⟨fun k=>if k= .m i then S else F0 k,fun k=> ?_,fun k k' n g f=> ?_,fun k n g=> ?_,J,fun s F k=> ?_⟩
  ·dsimp only;split
   ·exact⟨V,fun n f=>by simp[f]⟩
   ·exact⟨(v k).1,fun n f=>by have:=(v k).2 n f;simp[this]⟩
  ·dsimp only at g f;split at g<;>split at f
   ·rename_i y D;rw[y,D]
   ·exact absurd rfl (N n g n ((v _).2 _ f))
   ·exact absurd rfl (N n f n ((v _).2 _ g))
   ·exact I _ _ _ g f
  ·dsimp only at g;split at g
   ·rename_i y;exact⟨i,Nat.le_refl _,y⟩
   ·obtain⟨j,Q,B⟩:=C k n g;exact⟨j,by omega,B⟩
  ·simp only[Qc4,Z2];by_cases hk:k= .m i
   ·subst hk;simp only[if_true];exact⟨⟨u,l,by unfold rdF;exact H⟩,fun _ _ M=>by simp at M⟩
   ·rw[if_neg (Ne.symm hk),if_neg hk];exact K s F k
theorem Zuk(hs0:g.soft=false): ∀{as:List AK} {i:Nat} {s:St} {X:Nat->Prop} {F:Key->List Nat},R n W0 w X F H s a-> ∃X' F',R n W0 w X' F' H (Qqt as i s) a
 | [],_,s,X,F,h=>⟨X,F,h⟩
 | .sh _::r,_,s,X,F,h=>Zuk hs0 (as:=r) h
 | .mv _::r,_,s,X,F,h=>Zuk hs0 (as:=r) h
 | .bx _ _ o::r,i,s,X,F,h=>by
  obtain⟨c,d,b⟩:=Qqu hs0 h i o;exact Zuk hs0 (as:=r) b
theorem Z26.of{e:FnB}(hC:C.ok P g)(hsf:C.soft=false:=by rfl)(hlent:C.lent=Ziu e.args 0){fn:Func}{c:Code}(hf:P.funcs[e.f]? =some fn)(hb:fn.body=some c)(hcall: ∀args w,(callFunc e.f args).run P w= .ok (.enter e.f args) w)
  (hn:e.args.length<=fn.ntmps) (A:An (Z1i e.res×Zs0 e.args)) (hA:Zf5 C fn.ntmps c A (Qz4 C.τ e.args e.res fn.results.toList))
  (hF: ∀xs r,e.F xs=some r->J4 C fn.ntmps c A (Qz4 C.τ e.args e.res fn.results.toList) (Qox e.args xs)=some r):Z26 P g e where
 enters:=hcall
 calls:=fun w X L xs r vals K M N hL O hx hr=>by
  have hl:=Qog hx;refine calls_of_wp hf hb ?_
  let a0:Act:={tmps:=vals.toArray++Array.replicate (fn.ntmps-vals.toArray.size) undef,defers:=[]}
  let z:Zam g:={W:=w,B:=0,Y:=fun b=>b<w.heap.size/\b∉L,L:=(· ∈L),X0:=X,fix:=Zl8 e.args vals 0,bB:=Nat.zero_le _,fr:=fun e=>Bool.noConfusion ((hC.soft.trans hsf).symm.trans e),yW:=fun _ h=>h.1,yL:=fun _ h Q=>h.2 Q}
  obtain⟨U,k1,k2,k3,k4,k5⟩:=Zwc a0 (pre:=[]) (i:=0) hx rfl (by simp[a0]) O;have h0:R fn.ntmps z w X U [] (Qox e.args xs) a0:=
   {size:=by simp[a0];omega
    defers:=rfl
    below:=⟨rfl,rfl,rfl,Nat.le_refl _,fun _ _=>rfl⟩
    glob:=K
    gx:=M
    xs:=fun e=>Bool.noConfusion ((hC.soft.trans hsf).symm.trans e)
    fix:=fun p s=>⟨(Zu8 s).1,k4 p s⟩
    xlt:=N
    xin:=fun b hb=> .inl hb
    x0:=fun b hb=>hb
    own:=fun k b hb=>let h:=(k1 k).2 b hb;⟨.inr h,(hL b h).2,(hL b h).1⟩
    nodup:=fun k=>(k1 k).1
    disj:=k2
    hown:=by simp
    hnodup:=by simp
    hdisj:=by simp
    comps:=fun d i hc=>absurd ((k5 (Qox e.args xs) U (.c d i)).2 d i rfl) hc
    slots:=fun k=>(k5 (Qox e.args xs) U k).1}
  refine wp_mono (Zu6 hC (fun p s=>by rw[hlent];exact(Zu8 s).1) hA (hF xs r hr) h0) fun ex V E s=> ?_;obtain⟨s',u,F',hk,n⟩:=s;obtain⟨u,F',n⟩:=Zuk (hC.soft.trans hsf) (as:=e.args) (i:=0) n;have fin:Qz4 C.τ e.args e.res fn.results.toList .ret s'=some r->V.defers=[]/\ ∃J,(results fn V.tmps).run P E= .ok J E/\ ∃rs S G C u,Ending.returned J= .returned (X4 rs)/\Xay w E X u L (S++ (G++C))/\rdS E u e.res r.1 rs S/\rdO E u e.args r.2 vals G C/\rdP e.res r.1 rs G:=by
   intro hk;simp only[Qz4]at hk;split at hk
   ·rename_i x s2 H;split at hk
    ·rename_i zz hz;simp only[Osi]at hk;subst hk;obtain⟨vs,S,F2,m1,m2,Z,m4,m5,m6⟩:=Qv7 hC.τ n rfl H;have D: ∀p,p∈Zl8 e.args vals 0->p.1∈s2.lent/\Qp z.gh V (.m p.1)=p.2:=fun p s=>Z.fix p s;obtain⟨G,C,n1,n2,n3⟩:=Z0r Z rfl hz hl (fun p s=>(D p s).2);have l: ∀{as:List AK} {vals:List Value} {i j:Nat},vals.length=as.length->j∈Ziu as i-> ∃v,(j,v)∈Zl8 as vals i:=by
      intro as
      induction as with
      |nil=>intro vals i j _ hj;simp[Ziu]at hj
      |cons a as ih=>
       intro vals i j l hj;cases vals with
       |nil=>simp at l
       |cons v vals=>
        cases a with
        |sh t=>exact ih (by simpa using l) hj
        |mv t=>exact ih (by simpa using l) hj
        |bx e t o=>
         simp only[Ziu,List.mem_cons]at hj;rcases hj with rfl|hj
         ·exact⟨v,by simp[Zl8]⟩
         ·obtain⟨J,aa⟩:=ih (vals:=vals) (by simpa using l) hj;exact⟨J,by simp[Zl8,aa]⟩
     have I: ∀b,b∈S++ (G++C)->z.mine b/\b<E.heap.size/\ ¬u b:=fun b hb=>by
      rcases List.mem_append.1 hb with hb|hb
      ·exact m5 b hb
      ·obtain⟨j,_,_,j3⟩:=n3 b hb;exact Z.own _ b j3
     refine⟨n.defers,_,Zmj m1,vs,S,G,C,u,rfl,⟨n.below.os,n.below.tape,n.below.output,n.below.size,?_,n.xlt,?_,?_,?_,fun b hb Q=>n.below.block b ⟨hb,Q⟩⟩,m2,n1,Xcb n H m1 fun j q hq=> ?_⟩
     ·intro b hb;exact n.x0 b hb
     ·intro b hb;exact(n.xin b hb).imp id fun h=>h
     ·exact List.nodup_append.2 ⟨m4,n2,fun x hx y hy e=>by
       subst e;obtain⟨j,_,j2,j3⟩:=n3 x hy;obtain⟨v,hv⟩:=l hl j2;exact m6 j (D _ hv).1 x hx j3⟩
     ·intro b hb;obtain⟨g1,g2,g3⟩:=I b hb;exact⟨g1,g2,g3⟩
     ·obtain⟨b,h1,h2⟩:=Qoi n1 hq;exact⟨b,h1,(D _ h2).2⟩
    ·cases hk
   ·cases hk
  cases ex with
  |normal=>exact fin hk
  |ret=>exact fin hk
  |_=>simp[Qz4]at hk
end
end Go.Am
namespace Go.Am
open Go.RowKit
section
variable {P:Program} {g:K9} {w w':World} {X X':Nat->Prop} {s s':St} {F:Key->List Nat} {a:Act} {C:Cfg}
theorem Q1v.of{e:FnW}(hC: ∀w0 L,C.ok P (Zth w0 L)){fn:Func}{c:Code}(hf:P.funcs[e.f]? =some fn)(hb:fn.body=some c)(hcall: ∀args w,(callFunc e.f args).run P w= .ok (.enter e.f args) w)
  (hn:e.args.length<=fn.ntmps) (A:An (Jp e.res)) (hA:Zf5 C fn.ntmps c A (fnK C.τ e.res fn.results.toList))
  (hF: ∀xs r,e.F xs=some r->J4 C fn.ntmps c A (fnK C.τ e.res fn.results.toList) (Qow e.args xs)=some r):Q1v P e where
 enters:=hcall
 calls:=fun w L xs r j l hx q=>by
  have M:=Z0v hx;refine calls_of_wp hf hb ?_
  let a0:Act:={tmps:=j.toArray++Array.replicate (fn.ntmps-j.toArray.size) undef,defers:=[]}
  let z:Zam (Zth w L):={W:=w,B:=w.heap.size,Y:=fun b=>b<w.heap.size/\ ¬L b,L:=L,X0:=L,fix:=[],bB:=Nat.le_refl _,yW:=fun _ h=>h.1,yL:=fun _ h=>h.2,fr:=fun _ k hk t=>t.2 hk}
  have x:R fn.ntmps z w L (fun _=>[]) [] (Qow e.args xs) a0:=by
   have m:=fun k=>Zzx (W0:=z) (s:=Qow e.args xs) (F:=fun _=>[]) a0 (pre:=[]) (i:=0) hx rfl (by simp[a0]) k;exact
    {size:=by simp[a0];omega
     defers:=rfl
     below:=⟨rfl,rfl,rfl,Nat.le_refl _,fun _ _=>rfl⟩
     glob:=⟨fun N u _ y=>⟨u,y,Zza.refl u⟩,l⟩
     gx:=fun b hb=>hb
     xs:=fun _ b hb=>hb
     fix:=fun p n=>by cases n
     xlt:=fun b hb=>(l b hb).lt
     xin:=fun b hb=> .inl hb
     x0:=fun b hb=>hb
     own:=by simp
     nodup:=by simp
     disj:=by simp
     hown:=by simp
     hnodup:=by simp
     hdisj:=by simp
     comps:=fun d i D=>absurd ((m (.c d i)).2 d i rfl) D
     slots:=fun k=>(m k).1}
  refine wp_mono (Zu6 (hC w L) (fun p n=>by cases n) hA (hF xs r q) x) fun E o a n=> ?_;obtain⟨G,O,Q,hk,g⟩:=n;have fin:Z82 C.τ e.res fn.results.toList G=some r->o.defers=[]/\ ∃v,(results fn o.tmps).run P a= .ok v a/\ ∃rs S,Ending.returned v= .returned (X4 rs)/\Zfd a w.heap.size e.res r rs S/\S.Nodup/\
    a.os=w.os/\a.tape=w.tape/\a.output=w.output/\w.heap.size<=a.heap.size/\(∀b,b<w.heap.size-> ¬L b->a.heap[b]? =w.heap[b]?)/\Zn4 L w a/\ ∀b,L b->Zt6 a b:=by
   intro hk;obtain⟨H,S,I,J,K,_⟩:=Zs5 (hC w L).τ g hk;exact⟨g.defers,_,Zmj I,H,S,rfl,J,K,g.below.os,g.below.tape,g.below.output,g.below.size,fun b hb hn=>g.below.block b ⟨hb,hn⟩,g.glob.1,g.glob.2⟩
  cases E with
  |normal=>exact fin hk
  |ret=>exact fin hk
  |_=>simp[fnK]at hk
theorem Zqc.any{e:FnE}(h:Zqc P K9.none e):Zqc P g e:=⟨h.enters,fun w b r a _=>h.calls w b r a trivial⟩
theorem Km:Zx3.ok [] P:=fun _ h=>by cases h
end
end Go.Am
namespace Go.Am
open Go.RowKit
def Q20:List (Nat×Ty)->Nat->Option Ty
 | [],_=>none
 | (k,t)::r,e=>match Nat.beq k e with|true=>some t|false=>Q20 r e
def Wj(fn:Func):Code:=match fn.body with|some c=>c|none=> .skip
section
variable {P:Program}
def Xbr(P:Program)(l:List (Nat×Ty)):Prop:= ∀e T,Q20 l e=some T->TOK P e T
theorem Xaj:Xbr P []:=fun _ _ h=>by cases h
theorem X6{e:Nat}{T:Ty}{l:List (Nat×Ty)}(h:TOK P e T)(hl:Xbr P l):Xbr P ((e,T)::l):=fun b c a=>by
 simp only[Q20]at a;split at a
 ·rename_i d;rw[<-Onb d];simp only[Osi]at a;subst a;exact h
 ·exact hl b c a
def Q8n(P:Program)(τ:Tab)(l:List Nat):Prop:= ∀e T,l.any (Nat.beq e)=true->τ e=some T->Zu0 P e T
theorem Q9a{τ:Tab}:Q8n P τ []:=fun _ _ h _=>by cases h
theorem Zql{τ:Tab}{e:Nat}{T:Ty}{l:List Nat}(h:Zu0 P e T)(hT:τ e=some T)(hl:Q8n P τ l):Q8n P τ (e::l):=fun b c h' a=>by
 simp only[List.any_cons,Bool.or_eq_true]at h';rcases h' with h'|h'
 ·have:=Onb h';subst this;rw[hT]at a;cases a;exact h
 ·exact hl b c h' a
theorem Kl{g:K9}:Zzu.ok [] P g:=fun _ h=>by cases h
theorem Q35{g:K9}{e:FnL}{Γ:Zzu}(h:Qc1 P g e)(hΓ:Γ.ok P g):Zzu.ok (e::Γ) P g:=fun a h'=>by
 rcases List.mem_cons.1 h' with rfl|h'
 ·exact h
 ·exact hΓ a h'
theorem Zc{g:K9}:Zv7.ok [] P g:=fun _ h=>by cases h
theorem Zv{g:K9}{e:FnB}{Γ:Zv7}(h:Z26 P g e)(hΓ:Γ.ok P g):Zv7.ok (e::Γ) P g:=fun a h'=>by
 rcases List.mem_cons.1 h' with rfl|h'
 ·exact h
 ·exact hΓ a h'
theorem Jb{g:K9}:Z6o.ok [] P g:=fun _ h=>by cases h
theorem Xh{g:K9}{e:Zro}{Γ:Z6o}(h:V4 P g e)(hΓ:Γ.ok P g):Z6o.ok (e::Γ) P g:=fun a h'=>by
 rcases List.mem_cons.1 h' with rfl|h'
 ·exact h
 ·exact hΓ a h'
theorem Zg{g:K9}:Env.ok [] P g:=fun _ h=>by cases h
theorem Za{g:K9}{e:FnE}{Γ:Env}(h:Zqc P g e)(hΓ:Γ.ok P g):Env.ok (e::Γ) P g:=fun a h'=>by
 rcases List.mem_cons.1 h' with rfl|h'
 ·exact h
 ·exact hΓ a h'
end
end Go.Am
namespace Go.Am
open Go.RowKit Go.ChangeShapes Go.WideShapes Go.ChangeAt
open Go.ChangeMaps (open_string shut_string)
def J3(P:Program):Ty->TypeId->List Field->Nat->Bool->Bool
 | .int k,e,_,_,true=>match P.underlying e with|some (.int k')=>decide (k'=k)&&Nat.beq (P.cellsOf e) 1|_=>false
 | .bool,e,_,_,true=>match P.underlying e with|some .bool=>Nat.beq (P.cellsOf e) 1|_=>false
 | .str,e,_,_,true=>match P.underlying e with|some .string=>Nat.beq (P.cellsOf e) 1|_=>false
 | .fnc _,_,_,_,_=>false
 | .err,_,_,_,_=>false
 | .hid _,_,_,_,_=>false
 | .sptr ..,_,_,_,_=>false
 | .clo ..,_,_,_,_=>false
 | .slice e' t,e,_,_,true=>match P.underlying e with
  |some (.slice e2)=>Nat.beq e2 e'&&Nat.beq (P.cellsOf e) 1&&Nat.beq (P.cellsOf e') t.size&&Nat.blt 0 t.size&&J3 P t e' [] 0 true
  |_=>false
 | .arr n t,e,_,_,true=>match P.underlying e with
  |some (.array m e2)=>Nat.beq m n&&Nat.beq (P.cellsOf e) (n*t.size)&&Nat.beq (P.cellsOf e2) t.size&&J3 P t e2 [] 0 true
  |_=>false
 | .unit,e,_,_,true=>match P.underlying e with
  |some (.struct fs)=>fs.toList.isEmpty&&Nat.beq (P.cellsOf e) 0
  |_=>false
 | .pair a b,e,_,_,true=>match P.underlying e with
  |some (.struct fs)=>match fs.toList with
   |f::r=>Nat.beq (P.cellsOf e) (a.size+b.size)&&Nat.beq f.offset 0&&Nat.beq (P.cellsOf f.type) a.size&&J3 P a f.type [] 0 true&&J3 P b 0 r a.size false
   | []=>false
  |_=>false
 | .unit,_,fs,_,false=>fs.isEmpty
 | .pair a b,_,fs,off,false=>match fs with
  |f::r=>Nat.beq f.offset off&&Nat.beq (P.cellsOf f.type) a.size&&J3 P a f.type [] 0 true&&J3 P b 0 r (off+a.size) false
  | []=>false
 |_,_,_,_,false=>false
def wf: (T:Ty)->T.den->Prop| .unit,_=>True| .int k,x=>(Lit.int k x).wf=true| .bool,_=>True| .fnc _,_=>True| .err,_=>True| .hid _,_=>True| .sptr ..,_=>True| .clo ..,_=>True| .str,x=>x.length<=maxLen| .slice _ t,x=>x.length<=maxLen/\ ∀y∈x,wf t y| .pair a b,x=>wf a x.1/\wf b x.2| .arr n t,x=>x.length=n/\ ∀y∈x,wf t y
section
variable {H:Type} {enc:TypeId×Value->H} {P:Program} {w:World} {sp:Nat->Bool} {held:Bool}
theorem Qw5{α:Type}{r:α->List Value->List Nat->Prop}{q:α->Prop}{sz:Nat}: ∀{n:Nat} {cs:List Value},cs.length=n*sz->
  (∀i,i<n-> ∃x,r x ((cs.drop (i*sz)).take sz) []/\q x)-> ∃l,l.length=n/\Zaj r l cs []/\ ∀y∈l,q y
 |0,cs,a,_=>⟨[],rfl,⟨by simpa using a,rfl⟩,by simp⟩
 |n+1,cs,a,h=>by
  obtain⟨x,hx,b⟩:=h 0 (by omega);obtain⟨l,c,d,e⟩:=Qw5 (cs:=cs.drop sz) (n:=n) (sz:=sz) (by rw[List.length_drop,a,Nat.add_mul];omega) (fun i f=>by
   obtain⟨x,hx,b⟩:=h (i+1) (by omega);refine⟨x,?_,b⟩;rw[List.drop_drop];rw[show sz+i*sz=(i+1)*sz from by rw[Nat.add_mul];omega];exact hx)
  refine⟨x::l,by simp[c],⟨cs.take sz,cs.drop sz,[],[],by simp,rfl,by simpa using hx,d⟩,?_⟩;intro y hy;rcases List.mem_cons.1 hy with rfl|hy
  ·exact b
  ·exact e y hy
theorem Qf9: ∀(T:Ty),
  (∀(e:TypeId) (fs:List Field) (off fuel:Nat) (cs:List Value) (x:DataW H×List MemPlace),J3 P T e fs off true=true->DataW.trod enc P w 0 sp held fuel e cs=some x->
   ∃v:T.den,rd w (· <w.heap.size) 0 false T v cs []/\wf T v)/\
  (∀(fs:List Field) (off:Nat) (cs:List Value),J3 P T 0 fs off false=true->cs.length=off+T.size->
   (∀(i:Nat) (f:Field),fs[i]? =some f-> ∃(n:Nat) (x:DataW H×List MemPlace),DataW.trod enc P w 0 sp held n f.type ((cs.drop f.offset).take (P.cellsOf f.type))=some x)->
   ∃v:T.den,rd w (· <w.heap.size) 0 false T v (cs.drop off) []/\wf T v)
 | .int k=>by
   refine⟨fun e fs off fuel cs x c h=> ?_,fun fs off cs c=>by simp[J3]at c⟩;simp only[J3]at c;split at c
   ·rename_i k' hk;simp only[Oba,decide_eq_true_eq]at c;obtain⟨rfl,_⟩:=c;obtain⟨n,rfl,_,W⟩:=DataW.trod_int hk h;exact⟨n,⟨rfl,rfl⟩,W⟩
   ·cases c
 | .bool=>by
   refine⟨fun e fs off fuel cs x c h=> ?_,fun fs off cs c=>by simp[J3]at c⟩;simp only[J3]at c;split at c
   ·rename_i hk;obtain⟨n,rfl,_⟩:=DataW.trod_bool hk h;exact⟨n,⟨rfl,rfl⟩,trivial⟩
   ·cases c
 | .fnc _=>⟨fun e fs off fuel cs x c h=>by simp[J3]at c,fun fs off cs c=>by simp[J3]at c⟩
 | .err=>⟨fun e fs off fuel cs x c h=>by simp[J3]at c,fun fs off cs c=>by simp[J3]at c⟩
 | .hid _=>⟨fun e fs off fuel cs x c h=>by simp[J3]at c,fun fs off cs c=>by simp[J3]at c⟩
 | .sptr .. =>⟨fun e fs off fuel cs x c h=>by simp[J3]at c,fun fs off cs c=>by simp[J3]at c⟩
 | .clo .. =>⟨fun e fs off fuel cs x c h=>by simp[J3]at c,fun fs off cs c=>by simp[J3]at c⟩
 | .str=>by
   refine⟨fun e fs off fuel cs x c h=> ?_,fun fs off cs c=>by simp[J3]at c⟩;simp only[J3]at c;split at c
   ·rename_i hk;obtain⟨s,rfl,_,hs⟩:=DataW.trod_string hk h;exact⟨s.data.toList,⟨rfl,rfl⟩,by simpa[wf]using hs⟩
   ·cases c
 | .unit=>by
   refine⟨fun e fs off fuel cs x c h=> ?_,fun fs off cs c y _=>⟨(),⟨by simp only[Ty.size]at y;simp[y],rfl⟩,trivial⟩⟩;simp only[J3]at c;split at c
   ·rename_i M hk;simp only[Oba]at c;obtain⟨X,n,_,_,y,_⟩:=DataW.trod_struct hk h;rw[Onb c.2]at y;exact⟨(),⟨List.eq_nil_of_length_eq_zero y,rfl⟩,trivial⟩
   ·cases c
 | .slice e' t=>by
   refine⟨fun e fs off fuel cs x c h=> ?_,fun fs off cs c=>by simp[J3]at c⟩;simp only[J3]at c;split at c
   ·rename_i N hk;simp only[Oba,Nat.blt_eq]at c;obtain⟨⟨⟨⟨z,J⟩,A⟩,F⟩,Y⟩:=c;have z:=Onb z;subst z;have A:=Onb A;rcases DataW.trod_slice hk h with⟨rfl,_⟩| ⟨a,d,Z,L,ag,n,_,rfl,_,hb,aa,ab,ah,ac,_,_⟩
    ·exact⟨[],⟨_,[],[],[],rfl,rfl,⟨rfl,by simp,none,0,rfl,Nat.le_refl _,by simp[maxLen],.inl ⟨rfl,rfl,rfl⟩⟩,rfl,rfl⟩,by simp[wf]⟩
    ·
     have B: ∀i,i<d-> ∃cs,w.cells? 0 (a.add (i*t.size)) t.size=some cs/\ ∃v:t.den,rd w (· <w.heap.size) 0 false t v cs []/\wf t v:=by
      intro i G;have I:=ac i G;rw[A]at I;have:i<L.length:=by omega
      rw[List.getElem?_eq_getElem this,Option.bind_eq_some_iff]at I;obtain⟨cs,o,hx⟩:=I;exact⟨cs,o,(Qf9 t).1 _ _ _ _ _ _ Y hx⟩
     have C: ∀i j,i<d->j<t.size-> ∃u,w.cell? (a.add (i*t.size+j))=some u:=by
      intro i j G O;obtain⟨cs,o,_⟩:=B i G;obtain⟨_,h7,h8⟩:=World.cells?_some o;have:j<cs.length:=by omega
      exact⟨cs[j],by rw[<-Addr.add_add];rw[h8 j O,List.getElem?_eq_getElem this]⟩
     let all:List Value:=(List.range (d*t.size)).map fun m=>(w.cell? (a.add m)).getD undef
     have D:all.length=d*t.size:=by simp[all]
     have Q: ∀m u,all[m]? =some u->w.cell? (a.add m)=some u:=by
      intro m u hu;have V:m<d*t.size:=by rw[<-D];exact(List.getElem?_eq_some_iff.1 hu).1
      have ad:m/t.size<d:=Nat.div_lt_of_lt_mul (by rw[Nat.mul_comm];exact V);obtain⟨u',E⟩:=C (m/t.size) (m%t.size) ad (Nat.mod_lt _ F);rw[Nat.mul_comm,Nat.div_add_mod]at E;simp only[all,List.getElem?_map,List.getElem?_range V,Option.map_some,Osi,E,Option.getD_some]at hu;rw[<-hu];exact E
     obtain⟨l,K,N,e3⟩:=Qw5 (r:=rd w (· <w.heap.size) 0 false t) (q:=wf t) D (fun i G=>by
      obtain⟨cs,o,v,hv,W⟩:=B i G;refine⟨v,?_,W⟩;have: (all.drop (i*t.size)).take t.size=cs:=by
       obtain⟨_,h7,h8⟩:=World.cells?_some o;apply List.ext_getElem?;intro j;rw[List.getElem?_take];split
       ·rename_i O;rw[List.getElem?_drop,<-h8 j O,Addr.add_add];have V:i*t.size+j<d*t.size:=by
         have: (i+1)*t.size<=d*t.size:=Nat.mul_le_mul_right _ G;rw[Nat.add_mul]at this;omega
        obtain⟨u',E⟩:=C i j G O;simp[all,List.getElem?_range V,E]
       ·rename_i O;rw[List.getElem?_eq_none (by omega)]
      rw[this];exact hv)
     refine⟨l,⟨_,all,[],[],rfl,rfl,⟨rfl,by rw[D,K],some a,Z,by rw[K],by rw[K];exact aa,ab,.inr ⟨a,rfl,?_,Q⟩⟩,N⟩,by rw[K];omega,e3⟩;rw[K];rcases Nat.eq_zero_or_pos d with h0|h0
     ·exact .inl h0
     ·obtain⟨cs,o,_⟩:=B 0 h0;right;have:=World.cells?_block o F;simpa[Addr.add_zero']using this
   ·cases c
 | .arr n t=>by
   refine⟨fun e fs off fuel cs x c h=> ?_,fun fs off cs c=>by simp[J3]at c⟩;simp only[J3]at c;split at c
   ·rename_i m N hk;simp only[Oba]at c;obtain⟨⟨⟨z,J⟩,A⟩,F⟩:=c;have z:=Onb z;subst z;have A:=Onb A;obtain⟨X,q,_,_,y,S,hx⟩:=DataW.trod_array hk h;rw[Onb J]at y;obtain⟨l,K,N,e3⟩:=Qw5 (r:=rd w (· <w.heap.size) 0 false t) (q:=wf t) y (fun i G=>by
     have I:=hx i G;rw[A,List.getElem?_eq_getElem (by omega)]at I;exact(Qf9 t).1 _ _ _ _ _ _ F I)
    exact⟨l,⟨K,N⟩,K,e3⟩
   ·cases c
 | .pair a b=>by
  have p: ∀(f:Field) (r:List Field) (off:Nat) (cs:List Value),Nat.beq f.offset off=true->Nat.beq (P.cellsOf f.type) a.size=true->J3 P a f.type [] 0 true=true->J3 P b 0 r (off+a.size) false=true->
    cs.length=off+ (a.size+b.size)->(∀(i:Nat) (g:Field),(f::r)[i]? =some g-> ∃(n:Nat) (x:DataW H×List MemPlace),DataW.trod enc P w 0 sp held n g.type ((cs.drop g.offset).take (P.cellsOf g.type))=some x)->
    ∃v: (Ty.pair a b).den,rd w (· <w.heap.size) 0 false (.pair a b) v (cs.drop off) []/\wf (.pair a b) v:=by
   intro f r off cs z J A F y hx;obtain⟨n,x,hf⟩:=hx 0 f rfl;rw[Onb z,Onb J]at hf;obtain⟨va,ha,wa⟩:=(Qf9 a).1 _ _ _ _ _ _ A hf;obtain⟨vb,hb,wb⟩:=(Qf9 b).2 r (off+a.size) cs F (by omega) (fun i g hg=>hx (i+1) g (by simpa using hg));refine⟨(va,vb),⟨(cs.drop off).take a.size,cs.drop (off+a.size),[],[],?_,rfl,ha,hb⟩,wa,wb⟩;rw[<-List.drop_drop,List.take_append_drop]
  refine⟨fun e fs off fuel cs x c h=> ?_,fun fs off cs c y hx=> ?_⟩
  ·simp only[J3]at c;split at c
   ·rename_i M hk;split at c
    ·rename_i f r ae;simp only[Oba]at c;obtain⟨⟨⟨⟨z,J⟩,A⟩,F⟩,Y⟩:=c;obtain⟨X,q,_,_,y,S,hx⟩:=DataW.trod_struct hk h;rw[Onb z]at y;have:=p f r 0 cs J A F (by simpa using Y) (by omega) (fun i g hg=>by
      have U:M[i]? =some g:=by rw[<-Array.getElem?_toList,ae];exact hg
      have I:=hx i g U;have:i<X.length:=by rw[S];exact(Array.getElem?_eq_some_iff.1 U).1
      rw[List.getElem?_eq_getElem this]at I;exact⟨_,_,I⟩)
     simpa using this
    ·cases c
   ·cases c
  ·simp only[J3]at c;split at c
   ·rename_i f r;simp only[Oba]at c;obtain⟨⟨⟨z,J⟩,A⟩,F⟩:=c;exact p f r off cs z J A F y hx
   ·cases c
end
end Go.Am
namespace Go.Am
open Go.RowKit Go.ChangeShapes Go.WideShapes Go.ChangeAt
def Zsf(P:Program):List TypeId->List Ty->Bool| [],[]=>true|e::es,T::Ts=>J3 P T e [] 0 true&&P.readableRec e&&Nat.blt e P.types.size&&Zsf P es Ts|_,_=>false
def wfA: (ts:List Ty)->Jp ts->Prop| [],_=>True|t::ts,x=>wf t x.1/\wfA ts x.2
section
variable {H:Type} {enc:TypeId×Value->H} {P:Program}
theorem Q95{T:Ty}{e:TypeId}{fs:List Field}{off:Nat}{w:World}{r:Reach}{base:Nat}{v:Value}(hd:J3 P T e fs off true=true)(hv:Value.okWide P w r base e v):Xz T v.cells.toList=v:=by
 cases T with
 |int k=>
  simp only[J3]at hd;split at hd
  ·rename_i hk;obtain⟨n,rfl⟩:=okWide_int hk hv;rfl
  ·cases hd
 |bool=>
  simp only[J3]at hd;split at hd
  ·rename_i hk;obtain⟨n,rfl⟩:=okWide_bool hk hv;rfl
  ·cases hd
 |fnc f=>simp[J3]at hd
 |err=>simp[J3]at hd
 |hid t=>simp[J3]at hd
 |sptr e t=>simp[J3]at hd
 |clo f t=>simp[J3]at hd
 |str=>
  simp only[J3]at hd;split at hd
  ·rename_i hk;obtain⟨n,rfl⟩:=okWide_string hk hv;rfl
  ·cases hd
 |slice g t=>
  simp only[J3]at hd;split at hd
  ·rename_i hk;obtain⟨a,l,c,rfl⟩:=okWide_slice hk hv;rfl
  ·cases hd
 |unit=>
  simp only[J3]at hd;split at hd
  ·rename_i hk;simp only[Value.okWide,hk]at hv;obtain⟨d,rfl,_⟩:=hv;simp[Xz,Value.cells]
  ·cases hd
 |pair a b=>
  simp only[J3]at hd;split at hd
  ·rename_i hk;simp only[Value.okWide,hk]at hv;obtain⟨d,rfl,_⟩:=hv;simp[Xz,Value.cells]
  ·cases hd
 |arr n t=>
  simp only[J3]at hd;split at hd
  ·rename_i hk;simp only[Value.okWide,hk]at hv;obtain⟨d,rfl,_⟩:=hv;simp[Xz,Value.cells]
  ·cases hd
theorem Quq{W:World}{base:Nat}{sp:Nat->Bool}{held:Bool}: ∀{es:List TypeId} {Ts:List Ty} {vs:List Value} {ds:List (DataW H)} {ps:List MemPlace},Zsf P es Ts=true->
  DataW.TrodAll enc P W 0 sp held es vs ds ps->(∀(j:Nat) t v,es[j]? =some t->vs[j]? =some v->Value.okWide P W .any base t v)->
  (∃xs:Jp Ts,Zq5 W (· <W.heap.size) 0 Ts xs vs/\wfA Ts xs)/\ds.length=es.length
 | [],[],vs,ds,ps,_,h,_=>by
  obtain⟨rfl,rfl,rfl⟩:=trodAll_nil h;exact⟨⟨(),rfl,trivial⟩,rfl⟩
 |e::es,T::Ts,vs,ds,ps,a,h,hv=>by
  simp only[Zsf,Oba]at a;obtain⟨v,b,d,g,p,q,rfl,rfl,rfl,i,k⟩:=trodAll_cons h;obtain⟨⟨xs,l,m⟩,n⟩:=Quq a.2 k (fun j t v o c=>hv (j+1) t v (by simpa using o) (by simpa using c));obtain⟨f,r⟩:=i;obtain⟨x,s,u⟩:=(Qf9 T).1 _ _ _ _ _ _ a.1.1.1 r;exact⟨⟨(x,xs),⟨_,b,by rw[Q95 a.1.1.1 (hv 0 e v rfl rfl)],s,l⟩,u,m⟩,by simp[n]⟩
 | [],_::_,_,_,_,a,_,_=>by simp[Zsf]at a
 |_::_,[],_,_,_,a,_,_=>by simp[Zsf]at a
theorem Qty(hl:laidOutB P=true){W W':World}{sp:Nat->Bool}(hb:Below W.heap.size W W'): ∀{es:List TypeId} {Ts:List Ty} {vs:List Value} {ds:List (DataW H)} {ps:List MemPlace},Zsf P es Ts=true->
  DataW.TrodAll enc P W 0 (fun _=>true) true es vs ds ps->(∀p∈ps,p.block<W.heap.size)->(∀p∈ps,sp p.block=true)->DataW.TrodAll enc P W' 0 sp true es vs ds ps
 | [],[],vs,ds,ps,_,h,_,_=>by
  obtain⟨rfl,rfl,rfl⟩:=trodAll_nil h;exact trodAll_mk0
 |e::es,T::Ts,vs,ds,ps,a,h,b,c=>by
  simp only[Zsf,Oba,Nat.blt_eq]at a;obtain⟨v,f,d,g,p,q,rfl,rfl,rfl,i,j⟩:=trodAll_cons h;exact trodAll_cons_mk (WideElems.Trod_stays hl a.1.1.2 a.1.2 i (fun x hx=>hb.same (b x (by simp[hx]))) (fun x hx=>c x (by simp[hx])))
   (Qty hl hb a.2 j (fun x hx=>b x (by simp[hx])) (fun x hx=>c x (by simp[hx])))
 | [],_::_,_,_,_,a,_,_,_=>by simp[Zsf]at a
 |_::_,[],_,_,_,a,_,_,_=>by simp[Zsf]at a
theorem Qwj{fid:FuncId}{args:List Ty}{F:Jp args->Option (Bool×Unit)}{f:Func}{s:ChangeSpec}{tb:TypeId}{apart fresh handsOn again:Bool}{g:K9}(hok:Zqc P g ⟨fid,args,[.bool],F⟩)
  (hF: ∀xs,wfA args xs->F xs=some (true,())) (hs:s.vars=[]) (hfn: ∀(H:Type) (ds:List (DataW H)),ds.length=f.params.size->s.fn H ds={results:=[.lit (.bool true)],args:=ds})
  (hl:laidOutB P=true) (hd:Zsf P f.params.toList args=true) (hres:f.resultTypes= #[tb]) (htb:P.underlying tb=some .bool)
  (W:World) (base:Nat) (as:Array Value) (ds gs:List (DataW H)) (before:List MemPlace)
  (hval: ∀(j:Nat) t v,f.params[j]? =some t->as[j]? =some v->Value.okWide P W .any base t v)
  (hgl:g.G W) (hW:DataW.Whole enc P f.params.toList s.vars apart W as.toList ds gs before):
  Calls P fid as W fun e W'=> ∃v,e= .returned v/\s.post enc P f apart fresh handsOn again W as v W':=by
 have o:=hW;have r:=hW.lt;obtain⟨p,q,C,D,rfl,u,w⟩:=hW;rw[hs]at D;obtain⟨rfl,rfl⟩:=trodVars_none D;simp only[List.append_nil]at o u w r;obtain⟨⟨xs,E,I⟩,J⟩:=Quq hd C (fun j t v K hv=>hval j t v (by simpa using K) (by simpa using hv));have L:=hok.calls W xs (true,()) as.toList hgl E (hF xs I);refine L.mono fun Q W' ⟨U,S,A,M,_,B⟩=> ?_;obtain⟨V,X,Y,Z,rfl,rfl,⟨rfl,rfl⟩,rfl,rfl⟩:=M;subst A;refine⟨.bool true,rfl,?_⟩;have i:s.fn H (ds++ [])={results:=[.lit (.bool true)],args:=ds}:=by
  rw[List.append_nil];exact hfn H ds (by simpa using J)
 have k: ∀x∈p,x.block<W.heap.size:=fun x hx=>r x hx;have l: ∀a:Nat->Bool,(∀x∈p,a x.block=true)->DataW.TrodAll enc P W' 0 a true f.params.toList as.toList ds p:=fun a hs=>Qty hl B hd C k hs;have m: ∀(b:Nat) (a:Nat->Bool) (n:Bool),DataW.TrodAll enc P W' b a n f.resultTypes.toList ((Value.bool true).resultList f.resultTypes.size) [.lit (.bool true)] []:=fun b a n=>by
  rw[hres];exact trodAll_cons_mk (shut_bool htb true) trodAll_mk0
 have c: ∀a:Nat->Bool,(∀x∈p,a x.block=true)->DataW.TrodAll enc P W' 0 a true f.params.toList as.toList (s.fn H (ds++ [])).args p:=fun a hs=>by rw[i];exact l a hs
 have h: ∀(b:Nat) (a:Nat->Bool) (n:Bool),DataW.TrodAll enc P W' b a n f.resultTypes.toList ((Value.bool true).resultList f.resultTypes.size) (s.fn H (ds++ [])).results []:=fun b a n=>by rw[i];exact m b a n
 have d: ∀a:Nat->Bool,DataW.TrodVars enc P W' a s.vars (s.fn H (ds++ [])).vars []:=fun a=>by rw[i,hs];rfl
 refine⟨ds,[],p,[],p,[],o,h _ _ _,c _ (fun x hx=>by simpa using k x hx),d _,B.frame _,fun _=> ?_⟩;refine⟨ok_one hres rfl (okWide_bool_mk htb true),_,_,([]++p)++ [],⟨[]++p,[],trodAll_append (c _ (fun _ _=>rfl)) (h _ _ _),d _,rfl,?_,?_⟩,?_⟩
 ·intro b y N;have z:MemPlace.cell b y∈p:=by simpa using N
  rw[B.frozen (k _ z)];exact u b y z
 ·intro O;simpa using w O
 ·intro x hx _;simpa using hx
end
end Go.Am
namespace Go.Am
open Go.RowKit
theorem Zr{n:Int}(h0: -9223372036854775808<=n)(h1:n<=9223372036854775807):IntKind.i64.wrap n=n:=IntWalk.i64_in n ⟨h0,h1⟩
theorem Zt{i m:Nat}(h:i<m)(hm:m<=9223372036854775807):IntKind.i64.wrap ((i:Int)+1)=((i+1:Nat):Int):=by
 rw[Zr (by omega) (by omega)];omega
theorem Qi0:maxLen<=9223372036854775807:=by decide
theorem Zn{α:Type}{b:Bool}{x y:α}(h:b=true): (bif b then x else y)=x:=by rw[h];rfl
theorem Zm{α:Type}{b:Bool}{x y:α}(h:b=false): (bif b then x else y)=y:=by rw[h];rfl
theorem Zk{p:Prop}[Decidable p](h:p):decide p=true:=decide_eq_true h
theorem Zl{p:Prop}[Decidable p](h: ¬p):decide p=false:=decide_eq_false h
section
variable {α:Type} {d:α}
end
end Go.Am
namespace Go.Am
open Go.RowKit
def Z6p(g:Int->Option (Int×Unit))(p:Prop):Prop:= ∀left,0<=left->left<=1048576-> ∃r,g left=some (r,())/\r<=left/\(0<=r->p)
theorem Z6p.seq{g k:Int->Option (Int×Unit)}{p q:Prop}(hg:Z6p g p)(hk:Z6p k q):
  Z6p (fun left=>Option.bind (g left) fun t=>bif decide (t.1< (0:Int))then some ((-1:Int),())else k t.1) (p/\q):=by
 intro left b c;obtain⟨r,e,m,d⟩:=hg left b c;simp only[e,Obs];by_cases h:r<0
 ·rw[Zn (Zk h)];exact⟨-1,rfl,by omega,by omega⟩
 ·rw[Zm (Zl h)];obtain⟨f,i,j,a⟩:=hk r (by omega) (by omega);exact⟨f,i,by omega,fun l=>⟨d (by omega),a l⟩⟩
theorem Z6p.imp{g:Int->Option (Int×Unit)}{p q:Prop}(hg:Z6p g p)(h:p->q):Z6p g q:=fun left a b=>
 let⟨r,e,hl,hp⟩:=hg left a b;⟨r,e,hl,fun c=>h (hp c)⟩
theorem Z6p.len{α:Type}(x:List α)(hx:x.length<=maxLen){k:Int->Option (Int×Unit)}{q:Prop}(hk:Z6p k q):
  Z6p (fun left=>bif decide (IntKind.i64.wrap (left- (x.length:Int))< (0:Int))then some ((-1:Int),())else k (IntKind.i64.wrap (left- (x.length:Int)))) (x.length<=1048576/\q):=by
 intro left f g;have i:=Qi0;simp only[];rw[Zr (by omega) (by omega)];by_cases h:left- (x.length:Int)<0
 ·rw[Zn (Zk h)];exact⟨-1,rfl,by omega,by omega⟩
 ·rw[Zm (Zl h)];obtain⟨b,c,d,a⟩:=hk (left-x.length) (by omega) (by omega);exact⟨b,c,by omega,fun e=>⟨by omega,a e⟩⟩
theorem Z6p.one{α:Type}(x:List α)(hx:x.length<=maxLen):Z6p (fun left=>some (IntKind.i64.wrap (left- (x.length:Int)),())) (x.length<=1048576):=by
 intro left a b;have c:=Qi0;refine⟨_,rfl,?_,?_⟩<;>rw[Zr (by omega) (by omega)]<;>omega
theorem Z6p.loop{α:Type}{d:α}{g:α->Int->Option (Int×Unit)}{p:α->Prop}{L:Nat->List α->Int->Int->Option (Int×Unit)}
  (hL: ∀N a left i,L (N+1) a left i=bif decide (i< (a.length:Int))then Ze (0<=i/\i<a.length) (Option.bind (g (a.getD i.toNat d) left) fun t=>bif decide (t.1<0)then some (-1,())else L N a t.1 (IntKind.i64.wrap (i+1)))else some (left,()))
  {fuel:List α->Int->Int->Nat} (hf: ∀a left,a.length<fuel a left 0) {a:List α} (ha:a.length<=maxLen) (hg: ∀x∈a,Z6p (g x) (p x)):Z6p (fun left=>L (fuel a left 0) a left 0) (∀x∈a,p x):=by
 have j: ∀(b pre:List α) (N:Nat) (left:Int),(pre++b).length<=maxLen->(∀x∈b,Z6p (g x) (p x))->b.length<N->0<=left->left<=1048576->
   ∃r,L N (pre++b) left pre.length=some (r,())/\r<=left/\(0<=r-> ∀x∈b,p x):=by
  intro b;have B:=Qi0
  induction b with
  |nil=>
   intro pre N left c _ f n o;cases N with
   |zero=>omega
   |succ N=>
    rw[hL,Zm (Zl (by simp))];exact⟨left,rfl,Int.le_refl _,by simp⟩
  |cons s b q=>
   intro pre N left c hg f n o;cases N with
   |zero=>omega
   |succ N=>
    simp only[List.length_append,List.length_cons]at c f;rw[hL,Zn (Zk (by simp;omega)),Zb (by simp;omega)];have u: (pre++s::b).getD ((pre.length:Nat):Int).toNat d=s:=by simp[List.getD]
    rw[u,Zt (m:=(pre++s::b).length) (by simp) (by simp;omega)];obtain⟨r,e,C,v⟩:=hg s (by simp) left n o;rw[e,Obs];by_cases h:r<0
    ·rw[Zn (Zk h)];exact⟨-1,rfl,by omega,by omega⟩
    ·rw[Zm (Zl h)];obtain⟨w,k,y,l⟩:=q (pre++ [s]) N r (by simp;omega) (fun x hx=>hg x (by simp[hx])) (by omega) (by omega) (by omega);have z:pre++s::b=(pre++ [s])++b:=by simp
     simp only[List.length_append,List.length_cons,List.length_nil,Nat.zero_add]at k;rw[<-z]at k;refine⟨w,k,by omega,fun f x hx=> ?_⟩;rcases List.mem_cons.1 hx with rfl|hx
     ·exact v (by omega)
     ·exact l f x hx
 intro left A c;exact j a [] _ left ha hg (hf a left) A c
end Go.Am
namespace Go.Am
noncomputable def Zkp{ρ:Type}:Nat->Option ρ->Option ρ|0,m=>m|n+1,m=>Zeh m (Zkp n m)
theorem Kj{ρ:Type}: ∀(n:Nat) (m:Option ρ),Zkp n m=m
 |0,_=>rfl
 |n+1,m=>by unfold Zkp;rw[Kj n m,Zhj]
end Go.Am
namespace Go.Am
open Go.RowKit
def K9.vars(P:Program)(l:List (String×(Array Value->Prop))):K9 where
 G:=fun w=> ∀p∈l,∃c,w.var? P p.1=some c/\p.2 c
 GB:=fun b=> ∃p∈l,P.globalNamed p.1=some b
 lt:=fun w b h ⟨p,hp,hb⟩=>by
  obtain⟨c,this,_⟩:=h p hp;simp only[World.var?,hb,Obs]at this;split at this
  ·rename_i hg;exact(Array.getElem?_eq_some_iff.1 hg).1
  ·cases this
 stays:=fun w w' h hb p hp=>by
  obtain⟨c,this,hc⟩:=h p hp;refine⟨c,?_,hc⟩;cases hg:P.globalNamed p.1 with
  |none=>simp[World.var?,hg]at this
  |some b=>
   simp only[World.var?,hg,Obs]at this⊢;rw[hb b ⟨p,hp,hg⟩];exact this
section
variable {P:Program} {g:K9}
theorem Qy8{w:World}{X:Nat->Prop}{B:Nat}{own:Bool}: ∀{l:List (List UInt8)} {vs:List Value} {S:List Nat},Zaj (rd w X B own .str) l vs S->vs=l.map fun x=> .string ⟨⟨x⟩⟩
 | [],_,_,h=>h.1
 |x::l,_,_,⟨b,g,c,i,e,_,d,f⟩=>by
  have a:b=[.string ⟨⟨x⟩⟩]/\c=[]:=d;rw[e,a.1,Qy8 f];rfl
theorem Zqc.join{f:FuncId}{e:TypeId}{J:List (List UInt8)->List UInt8->List UInt8}{m:Nat}(he: ∀args w,(callFunc f args).run P w= .ok (.enter f args) w)
  (hnil: ∀s,J [] s=[])
  (h0: ∀(a:Option Addr) (c:Nat) (sep:ByteArray) (w:World),Calls P f #[.slice a 0 c,.string sep] w fun e w'=>e= .returned (.string ⟨#[]⟩)/\w'=w)
  (hc: ∀(bk o c:Nat) (xs:List ByteArray) (sep:ByteArray) (w:World),(∀(j:Nat) x,xs[j]? =some x->w.cell? ⟨bk,o+j,none⟩=some (.string x))->
   bk<w.heap.size->xs.length<=m->xs.length<=c->(J (xs.map (·.data.toList)) sep.data.toList).length<=m->
   Calls P f #[.slice (some ⟨bk,o,none⟩) xs.length c,.string sep] w fun e w'=>e= .returned (.string ⟨(J (xs.map (·.data.toList)) sep.data.toList).toArray⟩)/\Below w.heap.size w w'):
  Zqc P g {f:=f,args:=[.slice e .str,.str],res:=[.str],F:=fun xs=>Ze (xs.1.length<=m/\(J xs.1 xs.2.1).length<=m) (some (J xs.1 xs.2.1,()))} where
 enters:=he
 calls:=fun w xs r L hg hx C=>by
  obtain⟨cs,us,rfl,V,H,W,rfl,X,rfl⟩:=hx;obtain⟨rfl,_⟩:H=[.string ⟨⟨xs.2.1⟩⟩]/\_:=X;obtain⟨v,es,S1,S2,rfl,_,Y,Z⟩:=V;obtain⟨M,C⟩:=Zs6.1 C;simp only[Osi]at C;subst C;have l:=Qy8 Z;obtain⟨_,N,a,n,rfl,hn,O,k⟩:=Y;have fin: ∀{D:Ending} {w':World},D= .returned (.string ⟨(J xs.1 xs.2.1).toArray⟩)->Below w.heap.size w w'->
    ∃rs S,D= .returned (X4 rs)/\Zfd w' w.heap.size [.str] (J xs.1 xs.2.1,()) rs S/\S.Nodup/\Below w.heap.size w w':=
   fun p q=>⟨[.string ⟨(J xs.1 xs.2.1).toArray⟩],[],p,⟨[_],[],[],[],rfl,rfl,⟨rfl,rfl⟩,rfl,rfl⟩,by simp,q⟩
  by_cases E:xs.1=[]
  ·have I:xs.1.length=0:=by rw[E];rfl
   rw[I];refine(h0 a n _ w).mono fun D w' ⟨p,q⟩=>fin ?_ (q▸Below.refl _ _);rw[p,E,hnil]
  ·have Q:0<xs.1.length:=List.length_pos_iff.2 E;rcases k with⟨_,h,_⟩| ⟨t,rfl,hX,u⟩
   ·omega
   ·have z:t.block<w.heap.size:=hX.resolve_left (by omega);obtain⟨A,G,K⟩: ∃A G,xs.1=A::G:=by
     cases h:xs.1 with
     |nil=>exact absurd h E
     |cons A G=>exact⟨A,G,rfl⟩
    have d:t.spot=none:=by
     have:=u 0 (.string ⟨⟨A⟩⟩) (by rw[l,K];rfl);rw[show t.add 0=t by simp[Addr.add]]at this;exact World.cell?_spot this
    obtain⟨b,o,U⟩:=t;simp only at d z;subst d;have B: ∀j,(⟨b,o,none⟩:Addr).add j=⟨b,o+j,none⟩:=fun j=>by
     unfold Addr.add;split
     ·rename_i h;subst h;rfl
     ·rfl
    have i: (xs.1.map fun x=>(⟨⟨x⟩⟩:ByteArray)).map (·.data.toList)=xs.1:=by simp[Function.comp_def]
    have:=hc b o n (xs.1.map fun x=>⟨⟨x⟩⟩) ⟨⟨xs.2.1⟩⟩ w (fun j x hx=> ?_) z (by simpa using M.1) (by simpa using hn) (by rw[i];exact M.2)
    ·rw[i,List.length_map]at this;exact this.mono fun D w' ⟨p,q⟩=>fin p q
    ·rw[<-B];apply u;rw[l];simp only[List.getElem?_map,Option.map_eq_some_iff]at hx⊢;obtain⟨y,hy,rfl⟩:=hx;exact⟨y,hy,rfl⟩
end
end Go.Am
namespace Go.Am
open Go.RowKit Go.ChangeShapes Go.WideShapes Go.ChangeAt
section
variable {H:Type} {enc:TypeId×Value->H} {P:Program}
end
end Go.Am
namespace Go.Am
open Go.RowKit
end Go.Am
namespace Go.Am
open Go.RowKit
section
variable {P:Program} {g:K9}
theorem Qu1{w:World}{X:Nat->Prop}{B:Nat}{own:Bool}: ∀(l:List (List UInt8)),Zaj (rd w X B own .str) l (l.map fun x=> .string ⟨⟨x⟩⟩) []
 | []=>⟨rfl,rfl⟩
 |_::l=>⟨[_],_,[],[],rfl,rfl,⟨rfl,rfl⟩,Qu1 l⟩
theorem Zqc.split{f:FuncId}{m:Nat}{e:TypeId}{b:Nat}(he: ∀args w,(callFunc f args).run P w= .ok (.enter f args) w)(hm:m<4294967296)
  (hv: ∀w,g.G w-> ∃k,w.cell? ⟨b,0,Option.none⟩=some (.int .i64 k))
  (hc: ∀(s p:ByteArray) (k:Int) (w:World),s.size<m->w.cell? ⟨b,0,Option.none⟩=some (.int .i64 k)->1<=p.size->Calls P f #[.string s,.string p] w fun en w'=>
   en= .returned (.slice (some ⟨w.heap.size,0,Option.none⟩) (Lib.countB s p+1) (Lib.countB s p+1))/\w'=w.alloc (.cells ((Lib.splitB p 0 (Lib.countB s p) s).map Value.string).toArray e)):
  Zqc P g {f:=f,args:=[.str,.str],res:=[.slice e .str],F:=fun xs=>Ze (xs.1.length<m/\1<=xs.2.1.length) (some (Lib.splitK xs.2.1 0 (Lib.count xs.1 xs.2.1) xs.1,()))} where
 enters:=he
 calls:=fun w xs r q u hx i=>by
  obtain⟨v,D,rfl,y,l,z,rfl,h,rfl⟩:=hx;obtain⟨rfl,_⟩:v=[.string ⟨⟨xs.1⟩⟩]/\_:=y;obtain⟨rfl,_⟩:l=[.string ⟨⟨xs.2.1⟩⟩]/\_:=h;obtain⟨j,i⟩:=Zs6.1 i;simp only[Osi]at i;subst i;obtain⟨k,hk⟩:=hv w u;have t:Lib.countB ⟨⟨xs.1⟩⟩ ⟨⟨xs.2.1⟩⟩=Lib.count xs.1 xs.2.1:=rfl;have A:Lib.countB ⟨⟨xs.1⟩⟩ ⟨⟨xs.2.1⟩⟩<=xs.1.length:=Lib.countB_le ⟨⟨xs.2.1⟩⟩ j.2 xs.1.length ⟨⟨xs.1⟩⟩ (Nat.le_refl _);have a:=Lib.splitB_data ⟨⟨xs.2.1⟩⟩ 0 (Lib.countB ⟨⟨xs.1⟩⟩ ⟨⟨xs.2.1⟩⟩) ⟨⟨xs.1⟩⟩;have c:=Lib.splitB_all ⟨⟨xs.2.1⟩⟩ j.2 0 _ ⟨⟨xs.1⟩⟩ rfl;refine(hc ⟨⟨xs.1⟩⟩ ⟨⟨xs.2.1⟩⟩ k w j.1 hk j.2).mono fun en w' ⟨h,n⟩=> ?_;generalize Lib.splitB ⟨⟨xs.2.1⟩⟩ 0 (Lib.countB ⟨⟨xs.1⟩⟩ ⟨⟨xs.2.1⟩⟩) ⟨⟨xs.1⟩⟩=L at n a c;have o:L.map Value.string=(Lib.splitK xs.2.1 0 (Lib.count xs.1 xs.2.1) xs.1).map fun x=> .string ⟨⟨x⟩⟩:=by
   have:Lib.splitK xs.2.1 0 (Lib.count xs.1 xs.2.1) xs.1=L.map (·.data.toList):=a.symm;rw[this,List.map_map];rfl
  have d: (Lib.splitK xs.2.1 0 (Lib.count xs.1 xs.2.1) xs.1).length=Lib.countB ⟨⟨xs.1⟩⟩ ⟨⟨xs.2.1⟩⟩+1:=by rw[<-c];exact(congrArg List.length a.symm).trans (by simp)
  have B:Below w.heap.size w w':=n▸(Below.refl _ w).alloc (Nat.le_refl _) _;rw[<-d]at h;generalize Lib.splitK xs.2.1 0 (Lib.count xs.1 xs.2.1) xs.1=K at h o d⊢;have C:w'.heap[w.heap.size]? =some (.cells (L.map Value.string).toArray e (0,0)):=by rw[n];exact Qew w _
  refine⟨[.slice (some ⟨w.heap.size,0,Option.none⟩) K.length K.length],[w.heap.size],h,⟨[_],[],[w.heap.size],[],rfl,rfl,?_,rfl,rfl⟩,by simp,B⟩;refine⟨_,K.map fun x=> .string ⟨⟨x⟩⟩,[w.heap.size],[],rfl,rfl,⟨⟨by simp[Ty.size],.inr ⟨w.heap.size,K.length,(L.map Value.string).toArray,rfl,Nat.le_refl _,C,Nat.le_refl _,?_,?_,?_⟩⟩,rfl⟩,Qu1 K⟩
  ·rw[d];unfold maxLen;omega
  ·rw[o];simp[Ty.size]
  ·rw[o,List.take_of_length_le (by simp[Ty.size])]
end
section
open Go.RowKit
variable {H:Type} {enc:TypeId×Value->H}
end
end Go.Am

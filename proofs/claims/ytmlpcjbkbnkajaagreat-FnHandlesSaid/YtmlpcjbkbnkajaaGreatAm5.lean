/- The abstract machine, part 5: what a piece of Go code does, as plain data, and that it does so. No condition. -/
import Derived.Test.YtmlpcjbkbnkajaaGreatAm4
import Derived.LoopN
import Derived.ProofKit
import Derived.OpenShut
import Derived.Carry
import Derived.JoinedCond
import Derived.IntWalk
import Derived.OpenVars
import Derived.Lib.LaidTab
import Derived.HandedShaped
import Derived.Lib.Atoi
import Derived.Lib.AtoiBound
import Derived.Lib.SplitLaws
import Derived.Lib.IndexMore
import Derived.Lib.AtoiErrMem
namespace Go.Am
open Go.RowKit
inductive PE where
 |val (k:Nat) (T:Ty) (f:Fl)
 |box (k:Nat) (e:TypeId) (T:Ty) (f:Fl)
 |ptr (k r:Nat) (p:List Nat)
 |bor (k r:Nat) (p:List Nat)
 |shp (k:Nat) (T:Ty)
 |elp (k r:Nat) (p q:List Nat)
 |clo (k f:Nat) (l:List Nat)
def PE.key:PE->Nat| .val k .. | .box k .. | .ptr k .. | .bor k .. | .shp k .. | .elp k .. | .clo k .. =>k
@[reducible] def PE.dens:List PE->Type| []=>Unit| .val _ T _::r=>T.den×PE.dens r| .box _ _ T _::r=>T.den×PE.dens r| .ptr .. ::r=>PE.dens r| .bor .. ::r=>PE.dens r| .shp _ T::r=>T.den×PE.dens r| .elp .. ::r=>Int×PE.dens r| .clo .. ::r=>PE.dens r
def Zsn: (p:List PE)->PE.dens p->List (Key×Tm)| [],_=>[]| .val k T f::r,x=>(.m k,.val T f x.1)::Zsn r x.2| .box k e T f::r,x=>(.m k,.box e T f x.1)::Zsn r x.2| .ptr k q p::r,x=>(.m k,.ptr q p)::Zsn r x| .bor k q p::r,x=>(.m k,.bor q p)::Zsn r x| .shp k T::r,x=>(.m k,.shp T x.1)::Zsn r x.2| .elp k j p q::r,x=>(.m k,.elp j p x.1 q)::Zsn r x.2| .clo k f l::r,x=>(.m k,.cl f l)::Zsn r x
def Qry(ln:List Nat)(p:List PE)(x:PE.dens p):St:={env:=Zsn p x,dirty:=[],lent:=ln}
def Qkn:List Nat->List Nat->Bool
 | [],[]=>true
 |x::xs,y::ys=>match Nat.beq x y with|true=>Qkn xs ys|false=>false
 |_,_=>false
theorem Zvg: ∀{p q:List Nat},Qkn p q=true->p=q
 | [],[],_=>rfl
 |x::xs,y::ys,h=>by
  simp only[Qkn]at h;split at h
  ·rename_i hb;rw[Onb hb,Zvg h]
  ·cases h
 | [],_::_,h=>by simp[Qkn]at h
 |_::_,[],h=>by simp[Qkn]at h
def Qot:List PE->Nat->Bool
 | [],_=>false
 |e::r,k=>match Nat.beq e.key k with
  |true=>match e with| .box .. =>true|_=>false
  |false=>Qot r k
def Qds:List PE->Nat->Bool
 | [],_=>false
 |e::r,k=>match Nat.beq e.key k with
  |true=>match e with| .box .. | .val .. =>true|_=>false
  |false=>Qds r k
def Zrv(s:St)(full:List PE): (p:List PE)->Option (PE.dens p)
 | []=>some ()
 | .val k T f::r=>match s.get (.m k)with
  | .val U g y=>match Wh U g f,Km T U y,Zrv s full r with
   |true,some z,some q=>some (z,q)
   |_,_,_=>none
  |_=>none
 | .box k e T f::r=>match s.get (.m k)with
  | .box e' U g y=>match Nat.beq e' e&&Wh U g f,Km T U y,Zrv s full r with
   |true,some z,some q=>some (z,q)
   |_,_,_=>none
  |_=>none
 | .ptr k j p::r=>match s.get (.m k)with
  | .ptr j' p'=>match Nat.beq j' j&&Qkn p' p&&Qot full j with
   |true=>Zrv s full r
   |false=>none
  |_=>none
 | .bor k j p::r=>match s.get (.m k)with
  | .bor j' p'=>match Nat.beq j' j&&Qkn p' p&&Qds full j&& !(s.bad j p)with
   |true=>Zrv s full r
   |false=>none
  |_=>none
 | .shp k T::r=>match s.get (.m k)with
  | .shp U y=>match Km T U y,Zrv s full r with
   |some z,some q=>some (z,q)
   |_,_=>none
  |_=>none
 | .elp k j p q::r=>match s.get (.m k)with
  | .elp j' p' i q'=>match Nat.beq j' j&&Qkn p' p&&Qkn q' q&&Qds full j&& !(s.bad j p),Zrv s full r with
   |true,some x=>some (i,x)
   |_,_=>none
  |_=>none
 | .clo k f l::r=>match s.get (.m k)with
  | .cl f' l'=>match Nat.beq f' f&&Qkn l' l&&l.all (Qot full)with
   |true=>Zrv s full r
   |false=>none
  |_=>none
theorem Z9m: ∀{p:List PE} {x:PE.dens p} {k:Nat},Qot p k=true-> ∃e T f y,Ze8 (Zsn p x) (.m k)= .box e T f y
 |e::r,x,k,h=>by
  simp only[Qot]at h;split at h
  ·rename_i hb;have:=Onb hb;split at h
   ·rename_i k' e' T' f';simp only[PE.key]at this;subst this;refine⟨e',T',f',x.1,?_⟩;simp only[Zsn,Z1,if_true]
   ·cases h
  ·rename_i hb;have hne:e.key≠k:=fun he=>by subst he;rw[Nat.beq_refl]at hb;cases hb
   cases e<;>simp only[PE.key]at hne<;>simp only[Zsn,Z1,Key.m.injEq,hne,if_false]<;>exact Z9m h
theorem Z23: ∀{p:List PE} {x:PE.dens p} {k:Nat},Qds p k=true->Ze8 (Zsn p x) (.m k)≠ .junk
 |e::r,x,k,h=>by
  simp only[Qds]at h;split at h
  ·rename_i hb;have:=Onb hb;split at h
   ·simp only[PE.key]at this;subst this;simp only[Zsn,Z1,if_true];simp
   ·simp only[PE.key]at this;subst this;simp only[Zsn,Z1,if_true];simp
   ·cases h
  ·rename_i hb;have hne:e.key≠k:=fun he=>by subst he;rw[Nat.beq_refl]at hb;cases hb
   cases e<;>simp only[PE.key]at hne<;>simp only[Zsn,Z1,Key.m.injEq,hne,if_false]<;>exact Z23 h
theorem Qrx: ∀{p:List PE} {x:PE.dens p} {d i:Nat},Ze8 (Zsn p x) (.c d i)= .junk
 | [],_,_,_=>rfl
 |e::r,x,d,i=>by cases e<;>simp only[Zsn,Z1,reduceCtorEq,if_false]<;>exact Qrx
theorem Zdu{U T:Ty}{x:T.den}{y:U.den}(h:Km U T x=some y): ∃e:T=U,y=e▸x:=by
 unfold Km at h;split at h
 ·rename_i e;simp only[Osi]at h;exact⟨e,h.symm⟩
 ·cases h
section
variable {P:Program} {g:Kr} {W0:Wz g} {w w':World} {X X':Nat->Prop} {B B' n:Nat} {own:Bool} {s s':St} {F:Key->List Nat} {a:Act} {H H':List Nat} {o:Oper} {tg:Xi} {τ:Tab} {C:Cfg} {gh:Nat->Value}
theorem Zrw{ln:List Nat}{full:List PE}{xf:PE.dens full}: ∀{p:List PE} {x:PE.dens p},Zrv s full p=some x-> ∀k,KT s (Qry ln full xf) (s.get k) (Ze8 (Zsn p x) k)
 | [],_,_,k=> .junk _
 |e::r,x,h,k=>by
  cases e with
  |val k' T f=>
   simp only[Zrv]at h;split at h
   ·rename_i U g y hg;split at h
    ·rename_i z q hf hz hq;simp only[Osi]at h;subst h;simp only[Zsn,Z1];split
     ·rename_i e;subst e;obtain⟨rfl,rfl⟩:=Zdu hz;rw[hg];exact .val (.inr hf)
     ·exact Zrw hq k
    ·cases h
   ·cases h
  |box k' e T f=>
   simp only[Zrv]at h;split at h
   ·rename_i e' U g y hg;split at h
    ·rename_i z q hf hz hq;simp only[Oba]at hf;simp only[Osi]at h;subst h;simp only[Zsn,Z1];split
     ·rename_i e;subst e;obtain⟨rfl,rfl⟩:=Zdu hz;rw[hg,Onb hf.1];exact .box (.inr hf.2)
     ·exact Zrw hq k
    ·cases h
   ·cases h
  |ptr k' j p=>
   simp only[Zrv]at h;split at h
   ·rename_i j' p' hg;split at h
    ·rename_i hb;simp only[Oba]at hb;simp only[Zsn,Z1];split
     ·rename_i e;subst e;rw[hg,Onb hb.1.1,Zvg hb.1.2];exact .ptr (Z9m hb.2)
     ·exact Zrw h k
    ·cases h
   ·cases h
  |bor k' j p=>
   simp only[Zrv]at h;split at h
   ·rename_i j' p' hg;split at h
    ·rename_i hb;simp only[Oba,Bool.not_eq_true']at hb;simp only[Zsn,Z1];split
     ·rename_i e;subst e;rw[hg,Onb hb.1.1.1,Zvg hb.1.1.2];exact .bor hb.2 (Z23 hb.1.2)
     ·exact Zrw h k
    ·cases h
   ·cases h
  |shp k' T=>
   simp only[Zrv]at h;split at h
   ·rename_i U y hg;split at h
    ·rename_i z q hz hq;simp only[Osi]at h;subst h;simp only[Zsn,Z1];split
     ·rename_i e;subst e;obtain⟨rfl,rfl⟩:=Zdu hz;rw[hg];exact .shp
     ·exact Zrw hq k
    ·cases h
   ·cases h
  |elp k' j p q=>
   simp only[Zrv]at h;split at h
   ·rename_i j' p' i q' hg;split at h
    ·rename_i z hb hz;simp only[Oba,Bool.not_eq_true']at hb;simp only[Osi]at h;subst h;simp only[Zsn,Z1];split
     ·rename_i e;subst e;rw[hg,Onb hb.1.1.1.1,Zvg hb.1.1.1.2,Zvg hb.1.1.2];exact .elp hb.2 (Z23 hb.1.2)
     ·exact Zrw hz k
    ·cases h
   ·cases h
  |clo k' f l=>
   simp only[Zrv]at h;split at h
   ·rename_i f' l' hg;split at h
    ·rename_i hb;simp only[Oba]at hb;simp only[Zsn,Z1];split
     ·rename_i e;subst e;rw[hg,Onb hb.1.1,Zvg hb.1.2];exact .cl fun q hq=>Z9m (List.all_eq_true.1 hb.2 q hq)
     ·exact Zrw h k
    ·cases h
   ·cases h
theorem R.pat{ln:List Nat}{p:List PE}{x:PE.dens p}(h:R n W0 w X F H s a)(hl: ∀p,p∈W0.fix->p.1∈ln)(hp:Zrv s p p=some x): ∃F',R n W0 w X F' H (Qry ln p x) a:=
 h.weak (fun k=>Zrw hp k) (fun _ _ hne=>absurd Qrx hne) hl
def Zqc:List PE->St->St
 | .val k _ (.u false)::r,s=>match s.get (.m k)with
  | .val U g x=>match Wh U g (.u false),g.live with
   |false,true=>Zqc r (Zst s k (.val U (.u false) x))
   |_,_=>Zqc r s
  |_=>Zqc r s
 | .val k _ (.p (.u true) (.u false))::r,s=>match s.get (.m k)with
  | .val (.slice e t) (.u true) x=>Zqc r (Zst s k (.val (.slice e t) .e x))
  |_=>Zqc r s
 | .box k _ _ (.u false)::r,s=>match s.get (.m k)with
  | .box e U g x=>match Wh U g (.u false),g.live with
   |false,true=>Zqc r (Qxe s k e U x)
   |_,_=>Zqc r s
  |_=>Zqc r s
 | .box k _ _ (.p a b)::r,s=>match s.get (.m k)with
  | .box _ U g _=>match Wh U g (.p a b)with
   |true=>Zqc r s
   |false=>Zqc r (Q5w s k (.p a b))
  |_=>Zqc r s
 |_::r,s=>Zqc r s
 | [],s=>s
theorem Xs(hs0:g.soft=false): ∀{p:List PE} {s:St} {X:Nat->Prop} {F:Key->List Nat},R n W0 w X F H s a-> ∃X' F',R n W0 w X' F' H (Zqc p s) a
 | [],s,X,F,h=>⟨X,F,h⟩
 | .val k T (.u false)::r,s,X,F,h=>by
  simp only[Zqc];split
  ·rename_i U g x hg;split
   ·rename_i hl;exact Xs hs0 (R.frz hs0 h hg hl)
   ·exact Xs hs0 h
  ·exact Xs hs0 h
 | .val k T (.u true)::r,s,X,F,h=>Xs hs0 (p:=r) h
 | .val k T (.p f1 f2)::r,s,X,F,h=>by
  unfold Zqc;split
  ·rename_i heq;cases heq
  ·rename_i heq;cases heq;split
   ·rename_i e t x hg;obtain⟨X1,F1,h1⟩:=R.frzE hs0 h hg;exact Xs hs0 h1
   ·exact Xs hs0 h
  ·rename_i heq;cases heq
  ·rename_i heq;cases heq
  ·rename_i heq;cases heq;exact Xs hs0 (p:=r) h
  ·rename_i heq;cases heq
 | .val k T .d::r,s,X,F,h=>Xs hs0 (p:=r) h
 | .box k e' T (.u false)::r,s,X,F,h=>by
  simp only[Zqc];split
  ·rename_i e U g x hg;split
   ·rename_i hl;obtain⟨X1,F1,h1,_⟩:=R.frzX hs0 h hg hl;exact Xs hs0 h1
   ·exact Xs hs0 h
  ·exact Xs hs0 h
 | .box _ _ _ (.u true)::r,s,X,F,h=>Xs hs0 (p:=r) h
 | .box k _ _ (.p a b)::r,s,X,F,h=>by
  simp only[Zqc];split
  ·split
   ·exact Xs hs0 h
   ·obtain⟨X1,F1,h1⟩:=R.frzP hs0 h k (.p a b);exact Xs hs0 h1
  ·exact Xs hs0 h
 | .box _ _ _ .d::r,s,X,F,h=>Xs hs0 (p:=r) h
 | .ptr .. ::r,s,X,F,h=>Xs hs0 (p:=r) h
 | .bor .. ::r,s,X,F,h=>Xs hs0 (p:=r) h
 | .shp .. ::r,s,X,F,h=>Xs hs0 (p:=r) h
 | .elp .. ::r,s,X,F,h=>Xs hs0 (p:=r) h
 | .clo .. ::r,s,X,F,h=>Xs hs0 (p:=r) h
def Q59(s:St)(r:Nat):Bool:=match s.get (.m r)with| .box .. =>true|_=>false
def inL(L:List Nat)(r:Nat):Bool:=L.any (Nat.beq r)
def Qrl(s:St)(L:List Nat):Tm->Tm
 | .val T f x=> .val T f x
 | .box e T f x=> .box e T f x
 | .shp T x=> .shp T x
 | .ptr r p=>match inL L r&&Q59 s r with|true=> .ptr r p|false=> .junk
 | .pls h l=>match l.all (fun q=>inL L q.1&&Q59 s q.1)with|true=> .pls h l|false=> .junk
 |_=> .junk
def Qob(L:List Nat)(s:St):St:={env:=L.map fun k=>(.m k,Qrl s L (s.get (.m k))),dirty:=[],lent:=s.lent}
theorem Z8n(L:List Nat)(s:St)(k:Key): (Qob L s).get k=match k with| .m t=>(match inL L t with|true=>Qrl s L (s.get (.m t))|false=> .junk)| .c _ _=> .junk:=by
 have key: ∀M:List Nat,Ze8 (M.map fun k=>(Key.m k,Qrl s L (s.get (.m k)))) k=match k with| .m t=>(match inL M t with|true=>Qrl s L (s.get (.m t))|false=> .junk)| .c _ _=> .junk:=by
  intro M
  induction M with
  |nil=>cases k<;>rfl
  |cons m M ih=>
   rw[List.map_cons,Z1,ih];cases k with
   |c t i=>simp
   |m t=>
    by_cases h:m=t
    ·subst h;simp[inL]
    ·have:inL (m::M) t=inL M t:=by simp only[inL,List.any_cons];rw[show Nat.beq t m=false by rw[Bool.eq_false_iff];intro e;exact h (Onb e).symm];rfl
     simp only[this];simp[h]
 exact key L
theorem Qrm{s:St}{L:List Nat}{r:Nat}(h: (inL L r&&Q59 s r)=true): ∃e T f x,(Qob L s).get (.m r)= .box e T f x:=by
 simp only[Oba]at h;unfold Q59 at h;rw[Z8n];simp only[h.1];have h2:=h.2;split at h2
 ·rename_i e T f x hg;rw[hg];exact⟨e,T,f,x,rfl⟩
 ·cases h2
theorem R.keep{L:List Nat}(h:R n W0 w X F H s a): ∃F',R n W0 w X F' H (Qob L s) a:=by
 refine h.weak (fun k=> ?_) (fun d i hne=>absurd (Z8n L s (.c d i)) hne) (fun p hp=>(h.fix p hp).1);rw[Z8n];cases k with
 |c t i=>exact .junk _
 |m t=>
  simp only;split
  ·generalize s.get (.m t)=u;cases u with
   |val=>exact .val (.inl rfl)
   |box=>exact .box (.inl rfl)
   |shp=>exact .shp
   |ptr r p=>
    simp only[Qrl];split
    ·rename_i hb;exact .ptr (Qrm hb)
    ·exact .junk _
   |pls hh l=>
    simp only[Qrl];split
    ·rename_i hb;exact .pls fun q hq=>Qrm (List.all_eq_true.1 hb q hq)
    ·exact .junk _
   |_=>exact .junk _
  ·exact .junk _
def Q86(C:Cfg)(s:St)(o:Oper):Bool:=
 match o.guard,o.op with
 |none,.call {callee:= .value fo,..}=>match Qqs s [] fo with
  |some f=>(C.ΓL.find f).isSome
  |none=>false
 |_,_=>false
inductive Xai where
 |no
 |st (e:TypeId) (x v:Operand)
 |ws (f:FuncId) (xs:Array Operand)
 |wr (f:FuncId) (xs:Array Operand)
def wOp(C:Cfg)(s:St)(o:Oper):Xai:=
 match o.guard,o.op with
 |none,.store e x v=>match C.soft,Qer C.τ s [] e x v,o.dst with
  |true,none,none=> .st e x v
  |_,_,_=> .no
 |none,.call {callee:= .value fo,args:=xs,..}=>match Qqs s [] fo with
  |some f=>match C.ΓW.find f with
   |some _=>match C.soft with
    |true=> .ws f xs
    |false=> .wr f xs
   |none=> .no
  |none=> .no
 |_,_=> .no
noncomputable def Q4w{ρ:Type}(C:Cfg)(n:Nat)(ops:Array Oper)(o:Oper)(s:St)(k:St->Option ρ):Option ρ:=
 match Qzj C s o with
 |some (E,ts)=>Q54 C.τ n s o.dst E ts k
 |none=>match gdB C s ops o with
 |some (g,b,d,f,xs)=>Q5y C n o s g b d f xs k
 |none=>match wOp C s o with
 | .st e x v=>(Qhq C.τ s e x v).bind k
 | .ws f xs=>wsK C.ΓW n s o.dst f xs.toList k
 | .wr f xs=>wrK C.ΓW n s o.dst f xs.toList k
 | .no=>match Qy2 C s o with
 |some (f,xs)=>Qmd C.ΓB n s o.dst f xs.toList k
 |none=>match Q86 C s o with
 |true=>match o.guard,o.op with
  |none,.call {callee:= .value fo,args:=xs,..}=>match Qqs s [] fo with
   |some f=>Q35 C.ΓL n s o.dst f xs.toList k
   |none=>none
  |_,_=>none
 |false=>Qpj C n ops o s k
theorem Qwm{ρ:Type}(hC:C.ok P g){ops:Array Oper}(h:R n W0 w X F [] s a){k:St->Option ρ}{r:ρ}(hs:Q4w C n ops o s k=some r){K:Act->World->Prop}{Q:Exit->Act->World->Prop}
  (hK: ∀w' a' X' F' s',k s'=some r->R n W0 w' X' F' [] s' a'->K a' w'):if Region.wanted o (yielded ops a.tmps)then o.wp P a w K Q else K (a.put o.dst undef) w:=by
 unfold Q4w at hs;split at hs
 ·rename_i E ts hi;obtain⟨hg,hE,vs,h1,h2,h3⟩:=Qiq hC h hi;rw[if_pos (by simp[Region.wanted,hg])];exact Qn5 hC.τ hE h h1 h2 h3 hs fun v w' X' F' s' hk hR=>hK w' _ X' F' s' hk hR
 split at hs
 ·rename_i gs b d f xs hgd;exact Qnx hC h hgd hs fun v w' X' F' s' hk hR _ _=>hK w' _ X' F' s' hk hR
 split at hs
 ·rename_i e x v hw;unfold wOp at hw;split at hw
  ·rename_i e' x' v' hg ho;split at hw
   ·rename_i hsf _ hd;cases hw;rw[if_pos (by simp[Region.wanted,hg])];obtain⟨w0,L,hgl⟩:=hC.softG hsf;rw[Option.bind_eq_some_iff]at hs;obtain⟨s',hs1,hs2⟩:=hs;refine Qk8 hC.τ hgl h ho hd hs1 fun w' hR=> ?_;exact hK w' a X F s' hs2 hR
   ·cases hw
  ·split at hw
   ·split at hw
    ·split at hw<;>cases hw
    ·cases hw
   ·cases hw
  ·cases hw
 ·rename_i f xs hw;unfold wOp at hw;split at hw
  ·split at hw<;>cases hw
  ·rename_i fo xs' ats hg ho;split at hw
   ·rename_i f' hf;split at hw
    ·split at hw
     ·rename_i hsf;cases hw;rw[if_pos (by simp[Region.wanted,hg])];obtain⟨w0,L,hgl⟩:=hC.softG hsf;exact Q14 hC.ΓW hgl h (Zjb h Vh hf) ho hs fun v w' X' F' s' hk hR=>hK w' _ X' F' s' hk hR
     ·cases hw
    ·cases hw
   ·cases hw
  ·cases hw
 ·rename_i f xs hw;unfold wOp at hw;split at hw
  ·split at hw<;>cases hw
  ·rename_i fo xs' ats hg ho;split at hw
   ·rename_i f' hf;split at hw
    ·split at hw
     ·cases hw
     ·cases hw;rw[if_pos (by simp[Region.wanted,hg])];exact Q12 hC.ΓW h (Zjb h Vh hf) ho hs fun v w' X' F' s' hk hR=>hK w' _ X' F' s' hk hR
    ·cases hw
   ·cases hw
  ·cases hw
 split at hs
 ·rename_i f xs hb;unfold Qy2 at hb;split at hb
  ·rename_i fo xs' ats hsf hg ho;split at hb
   ·rename_i f' hf;split at hb
    ·simp only[Osi,Opi]at hb;obtain⟨rfl,rfl⟩:=hb;rw[if_pos (by simp[Region.wanted,hg])];exact Z1s (hC.soft.trans hsf) hC.ΓB h (Zjb h Vh hf) ho hs fun v w' X' F' s' hk hR _ _=>hK w' _ X' F' s' hk hR
    ·cases hb
   ·cases hb
  ·cases hb
 split at hs
 ·split at hs
  ·rename_i fo xs ats hg ho;split at hs
   ·rename_i f hf;rw[if_pos (by simp[Region.wanted,hg])];exact Qvq hC.ΓL h (Zjb h Vh hf) ho hs fun v w' X' F' s' hk hR=>hK w' _ X' F' s' hk hR
   ·cases hs
  ·cases hs
 ·exact Z32 hC h hs fun w' a' X' F' s' hk hR _=>hK w' a' X' F' s' hk hR
noncomputable def Qya{ρ:Type}(C:Cfg)(n:Nat)(ops:Array Oper):List Oper->St->(St->Option ρ)->Option ρ| [],s,k=>k (Qih s)|o::r,s,k=>Q4w C n ops o s fun s'=>Qya C n ops r s' k
theorem Qd2{ρ:Type}(hC:C.ok P g){ops:Array Oper}{k:St->Option ρ}{r:ρ}{Q:Exit->Act->World->Prop}
  (hK: ∀w' a' X' F' s',k s'=some r->R n W0 w' X' F' [] s' a'->Q .normal a' w'):
  ∀{l:List Oper} {s:St} {w:World} {X:Nat->Prop} {F:Key->List Nat} {a:Act},R n W0 w X F [] s a->Qya C n ops l s k=some r->wpList P ops Q l a w
 | [],s,w,X,F,a,h,hr=>by
  obtain⟨F',h'⟩:=h.clean;exact hK w a X F' _ hr h'
 |o::l,s,w,X,F,a,h,hr=>by
  refine wpList_step fun K hKK=> ?_;exact Qwm hC h hr fun w' a' X' F' s' hk hR=>hKK _ _ (Qd2 hC hK hR hk)
inductive An(ρ:Type) where
 |leaf
 |seq (a b:An ρ)
 |cond (a b:An ρ)
 |block (a:An ρ)
 |loop (p:List PE) (f:Nat->PE.dens p->Option ρ) (fuel:PE.dens p->Nat) (a: (PE.dens p->Option ρ)->An ρ)
 |join (p:List PE) (f:PE.dens p->Option ρ) (a b:An ρ)
 |unroll (L:List Nat) (m:Nat) (a:Nat->An ρ)
 |frz (L:List (Nat×Fl))
def Qxd{ρ:Type}(sf:Bool)(A:An ρ)(s:St):St:=match A with
 | .frz L=>match sf with|true=>s|false=>Qih (Q3k L s)
 |_=>s
def Z0c{ρ:Type}(k1:St->Option ρ)(k:Exit->St->Option ρ):Exit->St->Option ρ| .normal,s=>k1 s|e,s=>k e s
def Z1o{ρ:Type}(id:Nat)(k:Exit->St->Option ρ):Exit->St->Option ρ
 | .exit j,s=>match Nat.beq j id with|true=>k .normal s|false=>k (.exit j) s
 |e,s=>k e s
def Xaw(sf:Bool)(p:List PE)(s:St):St:=match sf with|true=>s|false=>Zqc p s
def Qn9{ρ:Type}(sf:Bool)(p:List PE)(f:PE.dens p->Option ρ):St->Option ρ:=fun s=>match Zrv (Xaw sf p s) p p with
 |some v=>f v
 |none=>none
def Qls{ρ:Type}(f:Nat->(St->Option ρ)->St->Option ρ):Nat->St->Option ρ|0=>fun _=>none|m+1=>f m (Qls f m)
noncomputable def Vf{ρ:Type}(C:Cfg)(n:Nat):Code->An ρ->(Exit->St->Option ρ)->St->Option ρ
 | .skip,_,k,s=>k .normal s
 | .region _ ops draw,A,k,s=>match draw with
  |false=>Qya C n ops ops.toList (Qxd C.soft A s) (k .normal)
  |true=>match Region.noSelect ops with
   |true=>Zwh C n ops (Q8l (Qxd C.soft A s) ops) ops.size (Array.replicate ops.size false) (Qxd C.soft A s) (k .normal)
   |false=>none
 | .seq a b,A,k,s=>match A with
  | .seq A B=>Vf C n a A (Z0c (Vf C n b B k) k) s
  | .join p f A _=>Vf C n a A (Z0c (Qn9 C.soft p f) k) s
  |_=>Vf C n a .leaf (Z0c (Vf C n b .leaf k) k) s
 | .cond x a b,A,k,s=>match Zaa s (op1 s [] x) .bool with
  |some c=>match A with
   | .cond A B=>bif c then Vf C n a A k s else Vf C n b B k s
   |_=>bif c then Vf C n a .leaf k s else Vf C n b .leaf k s
  |none=>none
 | .block id b,A,k,s=>match A with
  | .block A=>Vf C n b A (Z1o id k) s
  |_=>Vf C n b .leaf (Z1o id k) s
 | .loop b,A,k,s=>match A with
  | .loop p f fuel _=>Qn9 C.soft p (fun v=>f (fuel v) v) s
  | .unroll L m A=>Qls (fun i kk s=>Vf C n b (A i) (Z0c kk k) (Qob L s)) m s
  |_=>none
 | .exit id,_,k,s=>k (.exit id) s
 | .ret,A,k,s=>k .ret (Qxd C.soft A s)
 |_,_,_,_=>none
def Ze6{ρ:Type}(C:Cfg)(n:Nat):Code->An ρ->(Exit->St->Option ρ)->Prop
 | .seq a b,A,k=>match A with
  | .seq A B=>Ze6 C n a A (Z0c (Vf C n b B k) k)/\Ze6 C n b B k
  | .join p f A B=>Ze6 C n a A (Z0c (Qn9 C.soft p f) k)/\(∀v,f v=Vf C n b B k (Qry C.lent p v))/\Ze6 C n b B k
  |_=>True
 | .cond _ a b,A,k=>match A with
  | .cond A B=>Ze6 C n a A k/\Ze6 C n b B k
  |_=>True
 | .block id b,A,k=>match A with
  | .block A=>Ze6 C n b A (Z1o id k)
  |_=>True
 | .loop b,A,k=>match A with
  | .loop p f _ A=>(∀v,f 0 v=none)/\ ∀N,(∀v,f (N+1) v=Vf C n b (A (f N)) (Z0c (Qn9 C.soft p (f N)) k) (Qry C.lent p v))/\Ze6 C n b (A (f N)) (Z0c (Qn9 C.soft p (f N)) k)
  | .unroll L m A=> ∀i,i<m->Ze6 C n b (A i) (Z0c (Qls (fun i kk s=>Vf C n b (A i) (Z0c kk k) (Qob L s)) i) k)
  |_=>True
 |_,_,_=>True
def Q17{ρ:Type}{g:Kr}(n:Nat)(W0:Wz g)(k:Exit->St->Option ρ)(r:ρ):Exit->Act->World->Prop:=fun e a w=> ∃s X F,k e s=some r/\R n W0 w X F [] s a
theorem Q6{ρ:Type}(c:Code)(k:Exit->St->Option ρ):Ze6 C n c .leaf k:=by
 cases c<;>simp[Ze6]
theorem Z8m{ρ:Type}(hC:C.ok P g)(hl: ∀p,p∈W0.fix->p.1∈C.lent){p:List PE}{f:PE.dens p->Option ρ}{r:ρ}(h:R n W0 w X F H s a)(hj:Qn9 C.soft p f s=some r): ∃v X' F',f v=some r/\R n W0 w X' F' H (Qry C.lent p v) a:=by
 unfold Qn9 at hj;split at hj
 ·rename_i v hv;obtain⟨X1,F1,h1⟩: ∃X1 F1,R n W0 w X1 F1 H (Xaw C.soft p s) a:=by
   cases hsf:C.soft
   ·exact Xs (hC.soft.trans hsf) (p:=p) h
   ·exact⟨X,F,h⟩
  obtain⟨F',h'⟩:=h1.pat hl hv;exact⟨v,X1,F',hj,h'⟩
 ·cases hj
theorem R.frzA(hC:C.ok P g){ρ:Type}(A:An ρ)(h:R n W0 w X F [] s a): ∃X' F',R n W0 w X' F' [] (Go.Am.Qxd C.soft A s) a:=by
 unfold Go.Am.Qxd;split
 ·rename_i L;cases hsf:C.soft
  ·obtain⟨X1,F1,h1⟩:=Qim (hC.soft.trans hsf) (L:=L) h;obtain⟨F2,h2⟩:=h1.clean;exact⟨X1,F2,h2⟩
  ·exact⟨X,F,h⟩
 ·exact⟨X,F,h⟩
theorem Q34{I:Nat->Prop}(h: ∃N,I N): ∃N,I N/\ ∀M,I M->N<=M:=by
 obtain⟨N,hN⟩:=h
 induction N using Nat.strongRecOn with
 |_ N ih=>
  by_cases hm: ∃M,M<N/\I M
  ·obtain⟨M,h1,h2⟩:=hm;exact ih M h1 h2
  ·exact⟨N,hN,fun M hM=>Nat.le_of_not_lt fun hlt=>hm ⟨M,hlt,hM⟩⟩
theorem Ztv{ρ:Type}(hC:C.ok P g)(hl: ∀p,p∈W0.fix->p.1∈C.lent){r:ρ}: ∀{c:Code} {A:An ρ} {k:Exit->St->Option ρ} {s:St} {w:World} {X:Nat->Prop} {F:Key->List Nat} {a:Act},
  Ze6 C n c A k->Vf C n c A k s=some r->R n W0 w X F [] s a->c.wp P (Q17 n W0 k r) a w:=by
 intro c
 induction c with
 |skip=>intro A k s w X F a _ he h;exact wp_skip ⟨s,X,F,he,h⟩
 |region id ops draw=>
  intro A k s w X F a _ he h;simp only[Vf]at he;obtain⟨X,F,h⟩:=h.frzA hC A;generalize Qxd C.soft A s=s at he h;split at he
  ·exact wp_region_list (Qd2 hC (fun w' a' X' F' s' hk hR=>⟨s',X',F',hk,hR⟩) h he)
  ·split at he
   ·rename_i hB;have h2:R n W0 {w with drawn:=w.drawn+1} X F [] s a:=h.world (h.below.step (Below.refl _ w).drew) (Nat.le_refl _) (fun _ _=>rfl) (fun _ _ _=>rfl);exact wp_region_any hC.follows (Qps (Qn:=fun a' w'=>Q17 n W0 k r .normal a' w') (fun _ _ h=>h) _ _ _ _
     (Zzh (Sh:=fun _=>False) hC (Region.noSelect_spec hB) (fun i r hr j o ho=>Q2j hr ho) (fun w' a' X' F' s' hk hR=>⟨s',X',F',hk,hR⟩) (fun m o _ hm=>by simp only[Array.getD_eq_getD_getElem?,Array.getElem?_replicate]at hm;split at hm<;>cases hm) h2 (fun _ h=>h.elim) he))
   ·cases he
 |seq x y ihx ihy=>
  intro A k s w X F a hc he h;have seqs: ∀{A B:An ρ},Ze6 C n x A (Z0c (Vf C n y B k) k)->Ze6 C n y B k->Vf C n x A (Z0c (Vf C n y B k) k) s=some r->(Code.seq x y).wp P (Q17 n W0 k r) a w:=by
   intro A B h1 h2 h3;refine wp_seq (wp_mono (ihx h1 h3 h) fun e a' w' hp=> ?_);obtain⟨s',X',F',hk,hR⟩:=hp;cases e with
   |normal=>exact ihy h2 hk hR
   |_=>exact⟨s',X',F',hk,hR⟩
  cases A with
  |seq A B=>simp only[Vf]at he;simp only[Ze6]at hc;exact seqs hc.1 hc.2 he
  |join p f A B=>
   simp only[Vf]at he;simp only[Ze6]at hc;refine wp_seq (wp_mono (ihx hc.1 he h) fun e a' w' hp=> ?_);obtain⟨s',X',F',hk,hR⟩:=hp;cases e with
   |normal=>
    obtain⟨v,X2,F2,hv,hR2⟩:=Z8m hC hl hR hk;rw[hc.2.1]at hv;exact ihy hc.2.2 hv hR2
   |_=>exact⟨s',X',F',hk,hR⟩
  |leaf=>simp only[Vf]at he;exact seqs (Q6 _ _) (Q6 _ _) he
  |cond=>simp only[Vf]at he;exact seqs (Q6 _ _) (Q6 _ _) he
  |block=>simp only[Vf]at he;exact seqs (Q6 _ _) (Q6 _ _) he
  |loop=>simp only[Vf]at he;exact seqs (Q6 _ _) (Q6 _ _) he
  |unroll=>simp only[Vf]at he;exact seqs (Q6 _ _) (Q6 _ _) he
  |frz=>simp only[Vf]at he;exact seqs (Q6 _ _) (Q6 _ _) he
 |cond x y z ihy ihz=>
  intro A k s w X F a hc he h;simp only[Vf]at he;split at he
  ·rename_i b hb;have hv:=Zjg h Vh hb;have conds': ∀{A B:An ρ},Ze6 C n y A k->Ze6 C n z B k->(bif b then Vf C n y A k s else Vf C n z B k s)=some r->(Code.cond x y z).wp P (Q17 n W0 k r) a w:=by
    intro A B h1 h2 h3;refine wp_cond_split hv (fun e=> ?_) (fun e=> ?_)
    ·subst e;exact ihy h1 h3 h
    ·subst e;exact ihz h2 h3 h
   cases A with
   |cond A B=>simp only[Ze6]at hc;exact conds' hc.1 hc.2 he
   |leaf=>exact conds' (Q6 _ _) (Q6 _ _) he
   |seq=>exact conds' (Q6 _ _) (Q6 _ _) he
   |block=>exact conds' (Q6 _ _) (Q6 _ _) he
   |loop=>exact conds' (Q6 _ _) (Q6 _ _) he
   |join=>exact conds' (Q6 _ _) (Q6 _ _) he
   |unroll=>exact conds' (Q6 _ _) (Q6 _ _) he
   |frz=>exact conds' (Q6 _ _) (Q6 _ _) he
  ·cases he
 |block id b ih=>
  intro A k s w X F a hc he h;have blocks: ∀{A:An ρ},Ze6 C n b A (Z1o id k)->Vf C n b A (Z1o id k) s=some r->(Code.block id b).wp P (Q17 n W0 k r) a w:=by
   intro A h1 h2;refine wp_block (wp_mono (ih h1 h2 h) fun e a' w' hp=> ?_);obtain⟨s',X',F',hk,hR⟩:=hp;cases e with
   |exit j=>
    simp only[Z1o]at hk;simp only[Exit.inBlock];split at hk
    ·rename_i hb;rw[if_pos (Onb hb)];exact⟨s',X',F',hk,hR⟩
    ·rename_i hb;rw[if_neg (fun e=>by subst e;rw[Nat.beq_refl]at hb;cases hb)];exact⟨s',X',F',hk,hR⟩
   |_=>exact⟨s',X',F',hk,hR⟩
  cases A with
  |block A=>simp only[Vf]at he;simp only[Ze6]at hc;exact blocks hc he
  |_=>simp only[Vf]at he;exact blocks (Q6 _ _) he
 |loop b ih=>
  intro A k s w X F a hc he h;cases A with
  |loop p f fuel A=>
   simp only[Vf]at he;simp only[Ze6]at hc;obtain⟨h0,hN⟩:=hc;obtain⟨v,X2,F2,hv,hR2⟩:=Z8m hC hl h he
   classical
   let I:Nat->Act->World->Prop:=fun N a w=> ∃v X F,f N v=some r/\R n W0 w X F [] (Qry C.lent p v) a
   let μ:Act->World->Nat:=fun a w=>if h: ∃N,I N a w then(Q34 h).choose else 0
   refine wp_loop (fun a w=> ∃N,I N a w) μ ⟨_,v,X2,F2,hv,hR2⟩ fun a w hI=> ?_;have hμ:I (μ a w) a w:=by
    have:=(Q34 hI).choose_spec.1;simp only[μ,dif_pos hI];exact this
   obtain⟨v,X,F,hv,hR⟩:=hμ;generalize hM:μ a w=M at hv;cases M with
   |zero=>rw[h0]at hv;cases hv
   |succ N=>
    obtain⟨h1,h2⟩:=hN N;rw[h1]at hv;refine wp_mono (ih h2 hv hR) fun e a' w' hp=> ?_;obtain⟨s',X',F',hk,hR'⟩:=hp;cases e with
    |normal=>
     obtain⟨v',X3,F3,hv',hR3⟩:=Z8m hC hl hR' hk;have hI':I N a' w':=⟨v',X3,F3,hv',hR3⟩
     have hex: ∃N,I N a' w':=⟨N,hI'⟩
     refine⟨hex,?_⟩;have:μ a' w'<=N:=by
      simp only[μ,dif_pos hex];exact(Q34 hex).choose_spec.2 N hI'
     omega
    |_=>exact⟨s',X',F',hk,hR'⟩
  |unroll L m A=>
   simp only[Vf]at he;simp only[Ze6]at hc;refine wp_loop_rounds m ?_
   induction m generalizing s w X F a with
   |zero=>cases he
   |succ m ihm=>
    simp only[Qls]at he;obtain⟨F0,h0⟩:=R.keep (L:=L) h;refine wp_mono (ih (hc m (Nat.lt_succ_self m)) he h0) fun e a' w' hp=> ?_;obtain⟨s',X',F',hk,hR'⟩:=hp;cases e with
    |normal=>exact ihm hR' (fun i hi=>hc i (Nat.lt_succ_of_lt hi)) hk
    |_=>exact⟨s',X',F',hk,hR'⟩
  |_=>simp[Vf]at he
 |exit id=>intro A k s w X F a _ he h;exact wp_exit ⟨s,X,F,he,h⟩
 |ret=>
  intro A k s w X F a _ he h;simp only[Vf]at he;obtain⟨X,F,h⟩:=h.frzA hC A;exact wp_ret ⟨_,X,F,he,h⟩
 |rangeFunc=>intro A k s w X F a _ he h;simp[Vf]at he
 |scope=>intro A k s w X F a _ he h;simp[Vf]at he
 |label=>intro A k s w X F a _ he h;simp[Vf]at he
 |goto=>intro A k s w X F a _ he h;simp[Vf]at he
 |refuse=>intro A k s w X F a _ he h;simp[Vf]at he
theorem Wg.of{C:Cfg}(hC: ∀ln,({C with lent:=ln}:Cfg).ok P g){E:Zqg}{fn:Func}{c:Code}(hf:P.funcs[E.f]? =some fn)(hb:fn.body=some c)(hcall: ∀args w,(callFunc E.f args).run P w= .ok (.enter E.f args) w)
  (hle:E.np<=E.n/\E.n<=1048576) (hn:fn.ntmps=E.n) (hrv:fn.results.toList=E.rv) (hrun: ∀{ρ:Type} (ln:List Nat) (k:Exit->St->Option ρ) (s:St),E.run ln k s=Vf {C with lent:=ln} E.n c .leaf k s):Wg P g E where
 enters:=hcall
 le:=hle
 code:=⟨fn,c,hf,hb,hn,hrv,fun {ρ k r ln W0 w X F s a} hr hl h=>by
  rw[hrun]at hr;exact Ztv (hC ln) hl (Q6 c k) hr h⟩
end
end Go.Am
namespace Go.Am
open Go.RowKit
section
variable {P:Program} {g:Kr} {W0:Wz g} {w w':World} {X X':Nat->Prop} {B B' n:Nat} {own:Bool} {s s':St} {F:Key->List Nat} {a:Act} {H H':List Nat} {o:Oper} {tg:Xi} {τ:Tab} {C:Cfg} {gh:Nat->Value}
theorem Zei(hB:own=false\/B'<=B)(hX:own=true\/ ∀b,X b->X' b): ∀{T:Ty} {x:T.den} {vs:List Value} {S:List Nat},rd w X B own T x vs S->rd w X' B' own T x vs S
 | .unit,_,_,_,h| .int _,_,_,_,h| .bool,_,_,_,h| .fnc _,_,_,_,h| .str,_,_,_,h=>h
 | .slice _ _,_,_,_,⟨v,xs,S1,S2,e,e2,h1,h2⟩=>by
  refine⟨v,xs,S1,S2,e,e2,?_,Kf h2 fun _ _ _ _ _ h=>Zei hB hX h⟩;cases own
  ·have hX:=hX.resolve_left (by simp);obtain⟨g1,g2,a,cap,g3,g4,g5,g6⟩:=h1;exact⟨g1,g2,a,cap,g3,g4,g5,g6.imp id fun⟨ad,k1,k2,k3⟩=>⟨ad,k1,k2.imp id (hX _),k3⟩⟩
  ·exact⟨Zy9 h1.1 (hB.resolve_left (by simp)),h1.2⟩
 | .pair a b,_,_,_,⟨v1,v2,S1,S2,e,e2,h1,h2⟩=>⟨v1,v2,S1,S2,e,e2,Zei hB hX h1,Zei hB hX h2⟩
 | .arr n t,_,_,_,⟨h,h'⟩=>⟨h,Kf h' fun _ _ _ _ _ h=>Zei hB hX h⟩
 | .err,_,_,_,h=>h
 | .hid _,_,_,_,⟨e,y,h⟩=>⟨e,y,Zei hB hX h⟩
 | .sptr ..,_,_,_,⟨e,o,b,c,h1,h2,h3,h4⟩=>⟨e,o,b,c,h1,hX.resolve_left (by simp[o]) b h2,h3,Zei hB hX h4⟩
 | .clo ..,_,_,_,⟨e,cs,h1,h2⟩=>⟨e,cs,h1,Zei hB hX h2⟩
def Z6y(τ:Tab): (ts:List Ty)->List ResultVar->St->Option (Jb ts)
 | [],[],_=>some ()
 |t::ts,.tmp k::rs,s=>match Zr1 s (op1 s [] (.tmp k)) t with
  |some q=>match Wh q.T q.f (.u true),Km t q.T q.x,Z6y τ ts rs q.s with
   |true,some x,some xs=>some (x,xs)
   |_,_,_=>none
  |none=>none
 |t::ts,.cell k e::rs,s=>match s.get (.m k),τ e with
  | .box e0 U f y,some U'=>match(Nat.blt k 1048576&&decide (U=U'))&&Wh U f (.u true),Km t U y,Z6y τ ts rs (Y0 s k (.box e0 U .d y))with
   |true,some x,some xs=>some (x,xs)
   |_,_,_=>none
  |_,_=>none
 |_,_,_=>none
def fnK(τ:Tab)(ts:List Ty)(rs:List ResultVar):Exit->St->Option (Jb ts)| .ret,s| .normal,s=>Z6y τ ts rs s|_,_=>none
theorem Zrn(hτ:τ.ok P): ∀{ts:List Ty} {rs:List ResultVar} {s:St} {F:Key->List Nat} {H:List Nat} {xs:Jb ts},R n W0 w X F H s a->Z6y τ ts rs s=some xs->
  ∃vs S,(rs.mapM (Zj7 a)).run P w= .ok vs w/\Zeh w W0.B ts xs vs S/\S.Nodup/\ ∀b∈S,b∉H
 | [],[],s,F,H,xs,h,hr=>⟨[],[],by simp,⟨rfl,rfl⟩,by simp,by simp⟩
 |t::ts,.tmp k::rs,s,F,H,xs,h,hr=>by
  simp only[Z6y]at hr;split at hr
  ·rename_i q hq;split at hr
   ·rename_i x xs' hf hx hxs;simp only[Osi]at hr;subst hr;obtain⟨_,F1,S1,vs1,h1,h2,h3,_,_⟩:=Zav h Vh hq;obtain⟨rfl,rfl⟩:=Zdu hx;obtain⟨vs,S,k1,k2,k3,k4⟩:=Zrn hτ h3 hxs;refine⟨_,S1++S,?_,⟨vs1,vs,S1,S,rfl,rfl,Zei (.inr (Nat.le_refl _)) (.inl rfl) (by have:=Zg4 hf h2;unfold rdF at this;exact this),k2⟩,?_,?_⟩
    ·have h1': (a.tmps.getD k undef)=Xt q.T vs1:=h1;simp only[List.mapM_cons,Zj7,Sem.run_bind,Sem.run_pure,Result.andThen_ok,k1,h1']
    ·exact List.nodup_append.2 ⟨(List.nodup_append.1 h3.hnodup).1,k3,fun x hx y hy e=>k4 y hy (by rw[<-e];simp[hx])⟩
    ·intro b hb hH;rcases List.mem_append.1 hb with hb|hb
     ·exact(List.nodup_append.1 h3.hnodup).2.2 b hb b hH rfl
     ·exact k4 b hb (by simp[hH])
   ·cases hr
  ·cases hr
 |t::ts,.cell k e::rs,s,F,H,xs,h,hr=>by
  simp only[Z6y]at hr;split at hr
  ·rename_i e' U f y U' hg hU;split at hr
   ·rename_i x xs' hf hx hxs;simp only[Oba,decide_eq_true_eq]at hf;obtain⟨⟨hkb,rfl⟩,hf⟩:=hf;simp only[Osi]at hr;subst hr;obtain⟨rfl,rfl⟩:=Zdu hx;have hs:=h.slots (.m k);rw[hg]at hs;obtain⟨b,c,S1,g1,g2,g3,g4⟩:=hs;have hnF:=h.nodup (.m k);rw[g2]at hnF;have h3:R n W0 w X (Qd F (.m k) [b]) (S1++H) (Y0 s k (.box e' U .d x)) a:=by
     refine h.turn (S':=[b]) (H':=S1++H) h.below (Nat.le_refl _) (fun _ _=>rfl) (fun _ _ _ _=>rfl) ?_ ?_ (by rw[hg];simp) ?_ ?_
     ·intro b' hb';rw[g2];simpa using hb'
     ·have hd: ∀b'∈b::S1,b'∉H:=fun b' hb'=>h.hdisj (.m k) b' (by rw[g2];exact hb');refine List.nodup_append.2 ⟨by simp,List.nodup_append.2 ⟨(List.nodup_cons.1 hnF).2,h.hnodup,fun x hx y hy e=>hd x (by simp[hx]) (by rw[e];exact hy)⟩,fun x hx y hy e=> ?_⟩;simp only[List.mem_singleton]at hx;subst hx;subst e;rcases List.mem_append.1 hy with hy|hy
      ·exact(List.nodup_cons.1 hnF).1 hy
      ·exact hd x (by simp) hy
     ·intro e T f x b2 S hb hF;rw[hg]at hb;cases hb;rw[g2]at hF;obtain⟨rfl,_⟩:=List.cons.inj hF;exact⟨.d,_,[],rfl,rfl⟩
     ·exact⟨b,c,[],g1,rfl,g3,by unfold rdF;exact⟨Xx g4,Zg3 g4,rfl⟩⟩
    obtain⟨vs,S,k1,k2,k3,k4⟩:=Zrn hτ h3 hxs;have hnd:=h3.hnodup;refine⟨_,S1++S,?_,⟨c.toList,vs,S1,S,rfl,rfl,Zei (.inr (Nat.le_refl _)) (.inl rfl) (by have:=Zg4 hf g4;unfold rdF at this;exact this),k2⟩,?_,?_⟩
    ·have h1': (a.tmps.getD k undef)= .pointer (some ⟨b,0,none⟩):=(Yh W0 a hkb).symm.trans g1;have hload:=(hτ _ _ hU).load (w:=w) (ad:=⟨b,0,none⟩) (vs:=c.toList) (Xx g4) (fun j u hj=>by
      rw[Zgl w g3,<-Array.getElem?_toList,Nat.zero_add];exact hj)
     simp only[List.mapM_cons,Zj7,Sem.run_bind,Sem.run_pure,Result.andThen_ok,k1,h1',hload,asAddr]
    ·refine List.nodup_append.2 ⟨?_,k3,fun x hx y hy e=>k4 y hy (by rw[<-e];simp[hx])⟩;exact(List.nodup_append.1 hnd).1
    ·intro b' hb hH;rcases List.mem_append.1 hb with hb|hb
     ·exact(List.nodup_append.1 hnd).2.2 b' hb b' hH rfl
     ·exact k4 b' hb (by simp[hH])
   ·cases hr
  ·cases hr
 | [],.tmp _::_,_,_,_,_,_,hr| [],.cell .. ::_,_,_,_,_,_,hr|_::_,[],_,_,_,_,_,hr=>by simp[Z6y]at hr
def Q7o: (t:Ty)->t.den->Tm| .sptr _ t,x=> .shp t x|t,x=> .val t (.u false) x
def Qw1: (ts:List Ty)->Jb ts->Nat->List (Key×Tm)| [],_,_=>[]|t::ts,x,i=>(.m i,Q7o t x.1)::Qw1 ts x.2 (i+1)
def Ql3(ts:List Ty)(x:Jb ts):St:={env:=Qw1 ts x 0,dirty:=[]}
theorem Zya(a:Act): ∀{ts:List Ty} {x:Jb ts} {vals pre:List Value} {i:Nat},Zps w X 0 ts x vals->pre.length=i->a.tmps.toList.take (pre.length+vals.length)=pre++vals->
  ∀k,vt W0.gh w X W0.B s F a (Qk W0.gh a k) [] (Ze8 (Qw1 ts x i) k)/\(∀d j,k= .c d j->Ze8 (Qw1 ts x i) k= .junk)
 | [],_,_,_,_,_,_,_,k=>⟨rfl,fun _ _ _=>rfl⟩
 |t::ts,x,vals,pre,i,h,hp,ht,k=>by
  obtain⟨cs,us,rfl,h1,h2⟩:=h;have ih:=Zya a (pre:=pre++ [Xt t cs]) (i:=i+1) h2 (by simp[hp]) (by simpa[Nat.add_assoc,Nat.add_comm 1]using ht) k;simp only[Qw1,Z1];split
  ·rename_i e;subst e;refine⟨?_,fun _ _ hc=>by simp at hc⟩;have hsl:Qk W0.gh a (.m i)=Xt t cs->vt W0.gh w X W0.B s F a (Qk W0.gh a (.m i)) [] (Q7o t x.1):=fun hv=>by
    have plain:vt W0.gh w X W0.B s F a (Qk W0.gh a (.m i)) [] (.val t (.u false) x.1):=⟨cs,hv,by unfold rdF;exact Zei (.inl rfl) (.inr fun _ h=>h) h1⟩
    cases t with
    |sptr e2 t2=>
     obtain⟨_,_,b,c,k1,k2,k3,k4⟩:=h1;refine⟨rfl,⟨b,0,none⟩,c.toList,by rw[hv,k1];rfl,k2,fun j u hj=> ?_,Zei (.inl rfl) (.inr fun _ h=>h) k4⟩;rw[Zgl w k3,<-Array.getElem?_toList,Nat.zero_add];exact hj
    |_=>exact plain
   refine hsl ?_;have:a.tmps.toList[i]? =some (Xt t cs):=by
    have h3: (a.tmps.toList.take (pre.length+ (Xt t cs::us).length))[i]? =some (Xt t cs):=by rw[ht,<-hp];simp
    rw[List.getElem?_take]at h3;split at h3
    ·exact h3
    ·cases h3
   simp only[Qk,Zkz];rw[<-Array.getElem?_toList,this]
  ·exact ih
theorem Zzc: ∀{ts:List Ty} {x:Jb ts} {vs:List Value},Zps w X B ts x vs->vs.length=ts.length
 | [],_,_,h=>by rw[show _=[]from h];rfl
 |t::ts,x,vs,⟨_,us,e,_,h⟩=>by rw[e];simp[Zzc h]
theorem Zr3.of{e:FnE}(hC:C.ok P g)(hsf:C.soft=false:=by rfl){fn:Func}{c:Code}(hf:P.funcs[e.f]? =some fn)(hb:fn.body=some c)(hcall: ∀args w,(callFunc e.f args).run P w= .ok (.enter e.f args) w)
  (hn:e.args.length<=fn.ntmps) (A:An (Jb e.res)) (hA:Ze6 C fn.ntmps c A (fnK C.τ e.res fn.results.toList))
  (hF: ∀xs r,e.F xs=some r->Vf C fn.ntmps c A (fnK C.τ e.res fn.results.toList) (Ql3 e.args xs)=some r):Zr3 P g e where
 enters:=hcall
 calls:=fun w xs r vals hgl hx hr=>by
  have hl:=Zzc hx;refine calls_of_wp hf hb ?_
  let a0:Act:={tmps:=vals.toArray++Array.replicate (fn.ntmps-vals.toArray.size) undef,defers:=[]}
  have h0:R fn.ntmps (Wz.plain g w (hC.soft.trans hsf)) w (· <w.heap.size) (fun _=>[]) [] (Ql3 e.args xs) a0:=by
   have key:=fun k=>Zya (W0:=Wz.plain g w (hC.soft.trans hsf)) (s:=Ql3 e.args xs) (F:=fun _=>[]) a0 (pre:=[]) (i:=0) hx rfl (by simp[a0]) k;exact
    {size:=by simp[a0];omega
     defers:=rfl
     below:=⟨rfl,rfl,rfl,Nat.le_refl _,fun _ _=>rfl⟩
     glob:=hgl
     gx:=fun b hb=>g.lt _ _ hgl hb
     xs:=fun e=>Bool.noConfusion ((hC.soft.trans hsf).symm.trans e)
     fix:=fun p hp=>by cases hp
     xlt:=fun b hb=>hb
     xin:=fun b hb=> .inl hb
     x0:=fun b hb=>hb
     own:=by simp
     nodup:=by simp
     disj:=by simp
     hown:=by simp
     hnodup:=by simp
     hdisj:=by simp
     comps:=fun d i hc=>absurd ((key (.c d i)).2 d i rfl) hc
     slots:=fun k=>(key k).1}
  refine wp_mono (Ztv hC (fun p hp=>by cases hp) hA (hF xs r hr) h0) fun ex a' w' hp=> ?_;obtain⟨s',X',F',hk,hR⟩:=hp;have fin:Z6y C.τ e.res fn.results.toList s'=some r->a'.defers=[]/\ ∃v,(results fn a'.tmps).run P w'= .ok v w'/\ ∃rs S,Ending.returned v= .returned (Xu rs)/\Zeh w' w.heap.size e.res r rs S/\S.Nodup/\Below w.heap.size w w':=by
   intro hk;obtain⟨vs,S,k1,k2,k3,_⟩:=Zrn hC.τ hR hk;exact⟨hR.defers,_,Zll k1,vs,S,rfl,k2,k3,⟨hR.below.os,hR.below.tape,hR.below.output,hR.below.size,hR.below.block⟩⟩
  cases ex with
  |normal=>exact fin hk
  |ret=>exact fin hk
  |_=>simp[fnK]at hk
def Q3h(τ:Tab)(e:FnL)(rs:List ResultVar):Exit->St->Option (Jb e.res×List e.t.den)
 | .ret,s| .normal,s=>match s.get (.m 0)with
  | .val T (.u true) y=>match Km (.slice e.e e.t) T y,Z6y τ e.res rs s with
   |some l,some r=>some (r,l)
   |_,_=>none
  |_=>none
 |_,_=>none
def Ql5(e:FnL)(l:List e.t.den)(x:Jb e.args):St:={env:=(.m 0,.val (.slice e.e e.t) (.u true) l)::Qw1 e.args x 1,dirty:=[],lent:=[0]}
theorem Q4l{X X':Nat->Prop}{e:TypeId}{t:Ty}{l:List t.den}{v:Value}{L:List Nat}(hf:t.flat=true)(h:rd w X 0 true (.slice e t) l [v] L):rd w X' 0 true (.slice e t) l [v] L:=Qz2 hf h h
theorem Qo6: ∀{ts:List Ty} {x:Jb ts} {vs:List Value} {S:List Nat},Qnu ts=true->Zeh w B ts x vs S->Zeh w B' ts x vs []
 | [],_,_,_,_,h=>⟨h.1,rfl⟩
 |t::ts,x,vs,S,hf,⟨cs,us,S1,S2,h1,h2,h3,h4⟩=>by
  simp only[Qnu,List.all_cons,Oba]at hf;exact⟨cs,us,[],[],h1,rfl,(Znb hf.1 h3).2,Qo6 hf.2 h4⟩
theorem Qaj.of{e:FnL}(hC:C.ok P g)(hsf:C.soft=false:=by rfl)(hlent:C.lent=[0])(hfl:e.t.flat=true)(hfr:Qnu e.res=true){fn:Func}{c:Code}(hf:P.funcs[e.f]? =some fn)(hb:fn.body=some c)(hcall: ∀args w,(callFunc e.f args).run P w= .ok (.enter e.f args) w)
  (hn:e.args.length+1<=fn.ntmps) (A:An (Jb e.res×List e.t.den)) (hA:Ze6 C fn.ntmps c A (Q3h C.τ e fn.results.toList))
  (hF: ∀l xs r,e.F l xs=some r->Vf C fn.ntmps c A (Q3h C.τ e fn.results.toList) (Ql5 e l xs)=some r):Qaj P g e where
 flat:=hfl
 enters:=hcall
 calls:=fun w X L l l' xs r v vals hgl hgx hXl hLX hnd hrd hx hr=>by
  have hl:=Zzc hx;have hLlt: ∀b∈L,b<w.heap.size:=fun b hb=>(Zsp hrd b hb).2;refine calls_of_wp hf hb ?_
  let a0:Act:={tmps:=(v::vals).toArray++Array.replicate (fn.ntmps- (v::vals).toArray.size) undef,defers:=[]}
  let z:Wz g:={W:=w,B:=0,Y:=fun b=>b<w.heap.size/\b∉L,L:=(· ∈L),X0:=X,fix:=[(0,v)],bB:=Nat.zero_le _,fr:=fun e=>Bool.noConfusion ((hC.soft.trans hsf).symm.trans e),yW:=fun _ h=>h.1,yL:=fun _ h hm=>h.2 hm}
  have htl:a0.tmps.toList=(v::vals)++List.replicate (fn.ntmps- (v::vals).toArray.size) undef:=by simp[a0]
  have hv0:Qk z.gh a0 (.m 0)=v:=by
   have:a0.tmps[0]? =some v:=by rw[<-Array.getElem?_toList,htl];rfl
   simp only[Qk,Zkz,this]
  have htk:a0.tmps.toList.take (([v]:List Value).length+vals.length)=[v]++vals:=by
   rw[htl,show([v]:List Value).length+vals.length=(v::vals).length by simp;omega];exact List.take_left
  have h0:R fn.ntmps z w X (fun k=>if k= .m 0 then L else[]) [] (Ql5 e l xs) a0:=by
   have key:=fun k=>Zya (W0:=z) (s:=Ql5 e l xs) (F:=fun k=>if k= .m 0 then L else[]) a0 (pre:=[v]) (i:=1) hx rfl htk k;have hget: ∀k,(Ql5 e l xs).get k=if Key.m 0=k then .val (.slice e.e e.t) (.u true) l else Ze8 (Qw1 e.args xs 1) k:=fun k=>Z1 _ _ _ _;exact
    {size:=by simp[a0];omega
     defers:=rfl
     below:=⟨rfl,rfl,rfl,Nat.le_refl _,fun _ _=>rfl⟩
     glob:=hgl
     gx:=hgx
     xs:=fun e=>Bool.noConfusion ((hC.soft.trans hsf).symm.trans e)
     fix:=fun p hp=>by
      have:p=(0,v):=by simpa[z]using hp
      subst this;exact⟨by simp[Ql5],hv0⟩
     xlt:=hXl
     xin:=fun b hb=> .inl hb
     x0:=fun b hb=>hb
     own:=fun k b hb=>by
      split at hb
      ·exact⟨.inr hb,hLlt b hb,hLX b hb⟩
      ·cases hb
     nodup:=fun k=>by split;exact hnd;simp
     disj:=fun k k' b hb hb'=>by
      split at hb
      ·split at hb'
       ·rename_i e1 e2;rw[e1,e2]
       ·cases hb'
      ·cases hb
     hown:=by simp
     hnodup:=by simp
     hdisj:=by simp
     comps:=fun d i hc=>by
      rw[hget]at hc;exact absurd ((key (.c d i)).2 d i rfl) (by simpa using hc)
     slots:=fun k=>by
      rw[hget];by_cases hk:Key.m 0=k
      ·subst hk;simp only[if_true];exact⟨[v],by rw[hv0];rfl,by unfold rdF;exact(Q4l hfl hrd)⟩
      ·rw[if_neg hk,if_neg (Ne.symm hk)];exact(key k).1}
  refine wp_mono (Ztv hC (fun p hp=>by
     have:p=(0,v):=by simpa[z]using hp
     subst this;simp[hlent]) hA (hF l xs (r,l') hr) h0) fun ex a' w' hp=> ?_
  obtain⟨s',X',F',hk,hR⟩:=hp;have fin:Q3h C.τ e fn.results.toList .ret s'=some (r,l')->a'.defers=[]/\ ∃v',(results fn a'.tmps).run P w'= .ok v' w'/\ ∃rs S,Ending.returned v'= .returned (Xu rs)/\Zeh w' w.heap.size e.res r rs S/\S.Nodup/\(∃X',rd w' X' 0 true (.slice e.e e.t) l' [v] L)/\
    w'.os=w.os/\w'.tape=w.tape/\w'.output=w.output/\w.heap.size<=w'.heap.size/\ ∀b,b<w.heap.size->b∉L->w'.heap[b]? =w.heap[b]? :=by
   intro hk;simp only[Q3h]at hk;split at hk
   ·rename_i T y hg;split at hk
    ·rename_i l2 r2 hl2 hr2;simp only[Osi,Opi]at hk;obtain⟨rfl,rfl⟩:=hk;obtain⟨vs,S,k1,k2,k3,_⟩:=Zrn hC.τ hR hr2;have hs:=hR.slots (.m 0);rw[hg]at hs;obtain⟨us,h1,h2⟩:=hs;obtain⟨rfl,rfl⟩:=Zdu hl2;unfold rdF at h2;obtain⟨u,rfl⟩: ∃u,us=[u]:=List.length_eq_one_iff.1 (Xv h2);have hu:Qk z.gh a' (.m 0)=u:=h1;have hfix:=(hR.fix (0,v) (by simp[z])).2;simp only at hfix;rw[hu]at hfix;subst hfix;have hLL:F' (.m 0)=L:=by
      obtain⟨v1,xs1,S1,S2,e1,e2,g1,g2⟩:=h2;obtain⟨v2,xs2,S3,S4,e3,e4,g3,g4⟩:=hrd;simp only[List.cons.injEq,and_true]at e1 e3;subst e1;subst e3;rw[e2,e4,(Zdy (r':=fun _ _ _=>True) (fun x v S h=>⟨(Znb (w':=w') (X':=X') (B':=0) (own':=true) hfl h).1,trivial⟩) g2).1,(Zdy (r':=fun _ _ _=>True) (fun x v S h=>⟨(Znb (w':=w') (X':=X') (B':=0) (own':=true) hfl h).1,trivial⟩) g4).1,g1.2,g3.2]
     exact⟨hR.defers,_,Zll k1,vs,[],rfl,Qo6 hfr k2,by simp,⟨X',by rw[<-hLL];exact h2⟩,hR.below.os,hR.below.tape,hR.below.output,hR.below.size,fun b hb hm=>hR.below.block b ⟨hb,hm⟩⟩
    ·cases hk
   ·cases hk
  cases ex with
  |normal=>exact fin hk
  |ret=>exact fin hk
  |_=>simp[Q3h]at hk
end
end Go.Am
namespace Go.Am
open Go.RowKit
def Qam: (as:List AK)->Zzz as->Nat->List (Key×Tm)| [],_,_=>[]| .sh t::r,x,i=>(.m i,.val t (.u false) x.1)::Qam r x.2 (i+1)| .bx e t o::r,x,i=>(.m i,.box e t o x.1)::Qam r x.2 (i+1)| .mv t::r,x,i=>(.m i,.val t (.u true) x.1)::Qam r x.2 (i+1)
def Zhz:List AK->Nat->List Nat| [],_=>[]| .sh _::r,i=>Zhz r (i+1)| .bx _ _ _::r,i=>i::Zhz r (i+1)| .mv _::r,i=>Zhz r (i+1)
def Ql4(as:List AK)(x:Zzz as):St:={env:=Qam as x 0,dirty:=[],lent:=Zhz as 0}
def Zlb:List AK->List Value->Nat->List (Nat×Value)| .sh _::r,_::vs,i=>Zlb r vs (i+1)| .bx _ _ _::r,v::vs,i=>(i,v)::Zlb r vs (i+1)| .mv _::r,_::vs,i=>Zlb r vs (i+1)|_,_,_=>[]
def Q1g(s:St): (as:List AK)->Nat->Option (Zri as)
 | [],_=>some ()
 | .sh _::r,i=>Q1g s r (i+1)
 | .bx e T o::r,i=>match s.get (.m i)with
  | .box e' U f y=>match Nat.beq e' e&&Qgn o f U,Km T U y,Q1g s r (i+1)with
   |true,some z,some zs=>some (z,zs)
   |_,_,_=>none
  |_=>none
 | .mv _::r,i=>Q1g s r (i+1)
def Qnv:List AK->Nat->St->St| [],_,s=>s| .sh _::r,i,s=>Qnv r (i+1) s| .bx _ _ o::r,i,s=>Qnv r (i+1) (Q5x s i o)| .mv _::r,i,s=>Qnv r (i+1) s
def Zyn(τ:Tab): (ts:List Ty)->List ResultVar->St->Option (Jb ts×St)
 | [],[],s=>some ((),s)
 |t::ts,.tmp k::rs,s=>match Zr1 s (op1 s [] (.tmp k)) t with
  |some q=>match Wh q.T q.f (.u true),Km t q.T q.x,Zyn τ ts rs q.s with
   |true,some x,some (xs,s')=>some ((x,xs),s')
   |_,_,_=>none
  |none=>none
 |t::ts,.cell k e::rs,s=>match s.get (.m k),τ e with
  | .box e0 U f y,some U'=>match(Nat.blt k 1048576&&decide (U=U'))&&Wh U f (.u true),Km t U y,Zyn τ ts rs (Y0 s k (.box e0 U .d y))with
   |true,some x,some (xs,s')=>some ((x,xs),s')
   |_,_,_=>none
  |_,_=>none
 |_,_,_=>none
def Zyp(τ:Tab): (ts:List Ty)->List ResultVar->St->Option (Jb ts)
 | [],[],_=>some ()
 |t::ts,.tmp k::rs,s=>match Z9t s (op1 s [] (.tmp k)) t,Zyp τ ts rs s with
  |some x,some xs=>some (x,xs)
  |_,_=>none
 |t::ts,.cell k e::rs,s=>match s.get (.m k),τ e with
  | .box _ U f y,some U'=>match(Nat.blt k 1048576&&decide (U=U'))&&Zmu f U,Km t U y,Zyp τ ts rs s with
   |true,some x,some xs=>some (x,xs)
   |_,_,_=>none
  |_,_=>none
 |_,_,_=>none
def Zyl(τ:Tab): (ts:List (Ty×Fl))->List ResultVar->St->Option (Zu9 ts×St)
 | [],[],s=>some ((),s)
 |t::ts,.tmp k::rs,s=>match Zr1 s (op1 s [] (.tmp k)) t.1 with
  |some q=>match Qgn t.2 q.f q.T,Km t.1 q.T q.x,Zyl τ ts rs q.s with
   |true,some x,some (xs,s')=>some ((x,xs),s')
   |_,_,_=>none
  |none=>none
 |t::ts,.cell k e::rs,s=>match s.get (.m k),τ e with
  | .box e0 U f y,some U'=>match(Nat.blt k 1048576&&decide (U=U'))&&Qgn t.2 f U,Km t.1 U y,Zyl τ ts rs (Y0 s k (.box e0 U .d y))with
   |true,some x,some (xs,s')=>some ((x,xs),s')
   |_,_,_=>none
  |_,_=>none
 |_,_,_=>none
def Z8e(ln:List Nat)(τ:Tab): (r:RS)->List ResultVar->St->Option (Zz0 r×St)
 | .vals ts,rs,s=>Zyn τ ts rs s
 | .newb e T,[.tmp k],s=>match Qr4 (op1 s [] (.tmp k))with
  |some q=>match s.get (.m q)with
   | .box e' U f y=>match Nat.beq e' e&&Qgn (.u false) f U&& !(s.lent.any (Nat.beq q)),Km T U y with
    |true,some z=>some (z,s)
    |_,_=>none
   |_=>none
  |none=>none
 | .newb _ _,_,_=>none
 | .shr ts,rs,s=>match Zyp τ ts rs s with
  |some x=>some (x,s)
  |none=>none
 | .flg ts,rs,s=>Zyl τ ts rs s
 | .fp T j p1 p2,[.tmp k],s=>match op1 s [] (.tmp k),ln[j]? with
  | .tm _ (.ptr q p),some q'=>match s.get (.m q),Nat.beq q' q with
   | .box _ U _ _,true=>match decide (U=T),Qkn p p1,Qkn p p2 with
    |true,true,_=>some (true,s)
    |true,false,true=>some (false,s)
    |_,_,_=>none
   |_,_=>none
  |_,_=>none
 | .fp ..,_,_=>none
def Qw9(τ:Tab)(as:List AK)(r:RS)(rs:List ResultVar):Exit->St->Option (Zz0 r×Zri as)
 | .ret,s| .normal,s=>match Z8e (Zhz as 0) τ r rs (Qnv as 0 s)with
  |some (x,s')=>match Q1g s' as 0 with
   |some z=>some (x,z)
   |none=>none
  |none=>none
 |_,_=>none
section
variable {P:Program} {g:Kr} {W0:Wz g} {w w':World} {X X':Nat->Prop} {B B' n:Nat} {own:Bool} {s s':St} {F:Key->List Nat} {a:Act} {H H':List Nat} {o:Oper} {tg:Xi} {τ:Tab} {C:Cfg} {gh:Nat->Value}
theorem R.hperm(h:R n W0 w X F H s a)(hp:H'.Perm H):R n W0 w X F H' s a:=
 {h with
  hown:=fun b hb=>h.hown b (hp.mem_iff.1 hb)
  hnodup:=hp.nodup_iff.2 h.hnodup
  hdisj:=fun k b hb hh=>h.hdisj k b hb (hp.mem_iff.1 hh)}
theorem Zyo(hτ:τ.ok P): ∀{ts:List Ty} {rs:List ResultVar} {s:St} {F:Key->List Nat} {H:List Nat} {xs:Jb ts} {s':St},R n W0 w X F H s a->Zyn τ ts rs s=some (xs,s')->
  ∃vs S F',(rs.mapM (Zj7 a)).run P w= .ok vs w/\Zeh w W0.B ts xs vs S/\R n W0 w X F' (S++H) s' a
 | [],[],s,F,H,xs,s',h,hr=>by
  simp only[Zyn,Osi,Opi]at hr;obtain⟨_,rfl⟩:=hr;exact⟨[],[],F,by simp,⟨rfl,rfl⟩,h⟩
 |t::ts,.tmp k::rs,s,F,H,xs,s',h,hr=>by
  simp only[Zyn]at hr;split at hr
  ·rename_i q hq;split at hr
   ·rename_i x xs' s2 hf hx hxs;simp only[Osi,Opi]at hr;obtain⟨rfl,rfl⟩:=hr;obtain⟨_,F1,S1,vs1,h1,h2,h3,_,_⟩:=Zav h Vh hq;obtain⟨rfl,rfl⟩:=Zdu hx;obtain⟨vs,S,F',k1,k2,k3⟩:=Zyo hτ h3 hxs;refine⟨_,S1++S,F',?_,⟨vs1,vs,S1,S,rfl,rfl,Zei (.inr (Nat.le_refl _)) (.inl rfl) (by have:=Zg4 hf h2;unfold rdF at this;exact this),k2⟩,k3.hperm ?_⟩
    ·have h1': (a.tmps.getD k undef)=Xt q.T vs1:=h1;simp only[List.mapM_cons,Zj7,Sem.run_bind,Sem.run_pure,Result.andThen_ok,k1,h1']
    ·rw[List.append_assoc];exact List.perm_append_comm_assoc _ _ _
   ·cases hr
  ·cases hr
 |t::ts,.cell k e::rs,s,F,H,xs,s',h,hr=>by
  simp only[Zyn]at hr;split at hr
  ·rename_i e' U f y U' hg hU;split at hr
   ·rename_i x xs' s2 hf hx hxs;simp only[Oba,decide_eq_true_eq]at hf;obtain⟨⟨hkb,rfl⟩,hf⟩:=hf;simp only[Osi,Opi]at hr;obtain⟨rfl,rfl⟩:=hr;obtain⟨rfl,rfl⟩:=Zdu hx;have hs:=h.slots (.m k);rw[hg]at hs;obtain⟨b,c,S1,g1,g2,g3,g4⟩:=hs;have hnF:=h.nodup (.m k);rw[g2]at hnF;have h3:R n W0 w X (Qd F (.m k) [b]) (S1++H) (Y0 s k (.box e' U .d x)) a:=by
     refine h.turn (S':=[b]) (H':=S1++H) h.below (Nat.le_refl _) (fun _ _=>rfl) (fun _ _ _ _=>rfl) ?_ ?_ (by rw[hg];simp) ?_ ?_
     ·intro b' hb';rw[g2];simpa using hb'
     ·have hd: ∀b'∈b::S1,b'∉H:=fun b' hb'=>h.hdisj (.m k) b' (by rw[g2];exact hb');refine List.nodup_append.2 ⟨by simp,List.nodup_append.2 ⟨(List.nodup_cons.1 hnF).2,h.hnodup,fun x hx y hy e=>hd x (by simp[hx]) (by rw[e];exact hy)⟩,fun x hx y hy e=> ?_⟩;simp only[List.mem_singleton]at hx;subst hx;subst e;rcases List.mem_append.1 hy with hy|hy
      ·exact(List.nodup_cons.1 hnF).1 hy
      ·exact hd x (by simp) hy
     ·intro e T f x b2 S hb hF;rw[hg]at hb;cases hb;rw[g2]at hF;obtain⟨rfl,_⟩:=List.cons.inj hF;exact⟨.d,_,[],rfl,rfl⟩
     ·exact⟨b,c,[],g1,rfl,g3,by unfold rdF;exact⟨Xx g4,Zg3 g4,rfl⟩⟩
    obtain⟨vs,S,F',k1,k2,k3⟩:=Zyo hτ h3 hxs;refine⟨_,S1++S,F',?_,⟨c.toList,vs,S1,S,rfl,rfl,Zei (.inr (Nat.le_refl _)) (.inl rfl) (by have:=Zg4 hf g4;unfold rdF at this;exact this),k2⟩,k3.hperm ?_⟩
    ·have h1': (a.tmps.getD k undef)= .pointer (some ⟨b,0,none⟩):=(Yh W0 a hkb).symm.trans g1;have hload:=(hτ _ _ hU).load (w:=w) (ad:=⟨b,0,none⟩) (vs:=c.toList) (Xx g4) (fun j u hj=>by
      rw[Zgl w g3,<-Array.getElem?_toList,Nat.zero_add];exact hj)
     simp only[List.mapM_cons,Zj7,Sem.run_bind,Sem.run_pure,Result.andThen_ok,k1,h1',hload,asAddr]
    ·rw[List.append_assoc];exact List.perm_append_comm_assoc _ _ _
   ·cases hr
  ·cases hr
 | [],.tmp _::_,_,_,_,_,_,_,hr| [],.cell .. ::_,_,_,_,_,_,_,hr|_::_,[],_,_,_,_,_,_,hr=>by simp[Zyn]at hr
theorem Zym(hτ:τ.ok P): ∀{ts:List (Ty×Fl)} {rs:List ResultVar} {s:St} {F:Key->List Nat} {H:List Nat} {xs:Zu9 ts} {s':St},R n W0 w X F H s a->Zyl τ ts rs s=some (xs,s')->
  ∃vs S F',(rs.mapM (Zj7 a)).run P w= .ok vs w/\Qq1 w X W0.B ts xs vs S/\R n W0 w X F' (S++H) s' a
 | [],[],s,F,H,xs,s',h,hr=>by
  simp only[Zyl,Osi,Opi]at hr;obtain⟨_,rfl⟩:=hr;exact⟨[],[],F,by simp,⟨rfl,rfl⟩,h⟩
 | (t,fl)::ts,.tmp k::rs,s,F,H,xs,s',h,hr=>by
  simp only[Zyl]at hr;split at hr
  ·rename_i q hq;split at hr
   ·rename_i x xs' s2 hf hx hxs;simp only[Osi,Opi]at hr;obtain⟨rfl,rfl⟩:=hr;obtain⟨_,F1,S1,vs1,h1,h2,h3,_,_⟩:=Zav h Vh hq;obtain⟨rfl,rfl⟩:=Zdu hx;obtain⟨vs,S,F',k1,k2,k3⟩:=Zym hτ h3 hxs;refine⟨_,S1++S,F',?_,⟨vs1,vs,S1,S,rfl,rfl,Zvo hf h2,k2⟩,k3.hperm ?_⟩
    ·have h1': (a.tmps.getD k undef)=Xt q.T vs1:=h1;simp only[List.mapM_cons,Zj7,Sem.run_bind,Sem.run_pure,Result.andThen_ok,k1,h1']
    ·rw[List.append_assoc];exact List.perm_append_comm_assoc _ _ _
   ·cases hr
  ·cases hr
 | (t,fl)::ts,.cell k e::rs,s,F,H,xs,s',h,hr=>by
  simp only[Zyl]at hr;split at hr
  ·rename_i e' U f y U' hg hU;split at hr
   ·rename_i x xs' s2 hf hx hxs;simp only[Oba,decide_eq_true_eq]at hf;obtain⟨⟨hkb,rfl⟩,hf⟩:=hf;simp only[Osi,Opi]at hr;obtain⟨rfl,rfl⟩:=hr;obtain⟨rfl,rfl⟩:=Zdu hx;have hs:=h.slots (.m k);rw[hg]at hs;obtain⟨b,c,S1,g1,g2,g3,g4⟩:=hs;have hnF:=h.nodup (.m k);rw[g2]at hnF;have h3:R n W0 w X (Qd F (.m k) [b]) (S1++H) (Y0 s k (.box e' U .d x)) a:=by
     refine h.turn (S':=[b]) (H':=S1++H) h.below (Nat.le_refl _) (fun _ _=>rfl) (fun _ _ _ _=>rfl) ?_ ?_ (by rw[hg];simp) ?_ ?_
     ·intro b' hb';rw[g2];simpa using hb'
     ·have hd: ∀b'∈b::S1,b'∉H:=fun b' hb'=>h.hdisj (.m k) b' (by rw[g2];exact hb');refine List.nodup_append.2 ⟨by simp,List.nodup_append.2 ⟨(List.nodup_cons.1 hnF).2,h.hnodup,fun x hx y hy e=>hd x (by simp[hx]) (by rw[e];exact hy)⟩,fun x hx y hy e=> ?_⟩;simp only[List.mem_singleton]at hx;subst hx;subst e;rcases List.mem_append.1 hy with hy|hy
      ·exact(List.nodup_cons.1 hnF).1 hy
      ·exact hd x (by simp) hy
     ·intro e T f x b2 S hb hF;rw[hg]at hb;cases hb;rw[g2]at hF;obtain⟨rfl,_⟩:=List.cons.inj hF;exact⟨.d,_,[],rfl,rfl⟩
     ·exact⟨b,c,[],g1,rfl,g3,by unfold rdF;exact⟨Xx g4,Zg3 g4,rfl⟩⟩
    obtain⟨vs,S,F',k1,k2,k3⟩:=Zym hτ h3 hxs;refine⟨_,S1++S,F',?_,⟨c.toList,vs,S1,S,rfl,rfl,Zvo hf g4,k2⟩,k3.hperm ?_⟩
    ·have h1': (a.tmps.getD k undef)= .pointer (some ⟨b,0,none⟩):=(Yh W0 a hkb).symm.trans g1;have hload:=(hτ _ _ hU).load (w:=w) (ad:=⟨b,0,none⟩) (vs:=c.toList) (Xx g4) (fun j u hj=>by
      rw[Zgl w g3,<-Array.getElem?_toList,Nat.zero_add];exact hj)
     simp only[List.mapM_cons,Zj7,Sem.run_bind,Sem.run_pure,Result.andThen_ok,k1,h1',hload,asAddr]
    ·rw[List.append_assoc];exact List.perm_append_comm_assoc _ _ _
   ·cases hr
  ·cases hr
 | [],.tmp _::_,_,_,_,_,_,_,hr| [],.cell .. ::_,_,_,_,_,_,_,hr|_::_,[],_,_,_,_,_,_,hr=>by simp[Zyl]at hr
theorem Zv7(hτ:τ.ok P)(h:R n W0 w X F H s a): ∀{ts:List Ty} {rs:List ResultVar} {xs:Jb ts},Zyp τ ts rs s=some xs->
  ∃vs,(rs.mapM (Zj7 a)).run P w= .ok vs w/\Qv7 w X ts xs vs
 | [],[],xs,hr=>⟨[],by simp,rfl⟩
 |t::ts,.tmp k::rs,xs,hr=>by
  simp only[Zyp]at hr;split at hr
  ·rename_i x xs' hx hxs;simp only[Osi]at hr;subst hr;obtain⟨cs,h1,h2⟩:=Zze h (x:= .tmp k) hx;obtain⟨vs,k1,k2⟩:=Zv7 hτ h hxs;refine⟨_,?_,⟨cs,vs,rfl,h2,k2⟩⟩;have h1': (a.tmps.getD k undef)=Xt t cs:=h1;simp only[List.mapM_cons,Zj7,Sem.run_bind,Sem.run_pure,Result.andThen_ok,k1,h1']
  ·cases hr
 |t::ts,.cell k e::rs,xs,hr=>by
  simp only[Zyp]at hr;split at hr
  ·rename_i e' U f y U' hg hU;split at hr
   ·rename_i x xs' hf hx hxs;simp only[Oba,decide_eq_true_eq]at hf;obtain⟨⟨hkb,rfl⟩,hf⟩:=hf;simp only[Osi]at hr;subst hr;obtain⟨rfl,rfl⟩:=Zdu hx;have hs:=h.slots (.m k);rw[hg]at hs;obtain⟨b,c,S1,g1,g2,g3,g4⟩:=hs;have hsh:=Zvo (o:= .u false) hf g4;unfold rdF at hsh;have hS:S1=[]:=Zfg hsh;subst hS;obtain⟨vs,k1,k2⟩:=Zv7 hτ h hxs;refine⟨_,?_,⟨c.toList,vs,rfl,J6 hsh (by simp),k2⟩⟩;have h1': (a.tmps.getD k undef)= .pointer (some ⟨b,0,none⟩):=(Yh W0 a hkb).symm.trans g1;have hload:=(hτ _ _ hU).load (w:=w) (ad:=⟨b,0,none⟩) (vs:=c.toList) (Xx g4) (fun j u hj=>by
     rw[Zgl w g3,<-Array.getElem?_toList,Nat.zero_add];exact hj)
    simp only[List.mapM_cons,Zj7,Sem.run_bind,Sem.run_pure,Result.andThen_ok,k1,h1',hload,asAddr]
   ·cases hr
  ·cases hr
 | [],.tmp _::_,_,hr| [],.cell .. ::_,_,hr|_::_,[],_,hr=>by simp[Zyp]at hr
theorem Qtg(hτ:τ.ok P){r:RS}{rs:List ResultVar}{x:Zz0 r}(h:R n W0 w X F [] s a)(hB:W0.B=0){ln:List Nat}(hr:Z8e ln τ r rs s=some (x,s')):
  ∃vs S F',(rs.mapM (Zj7 a)).run P w= .ok vs w/\rdS w X r x vs S/\R n W0 w X F' [] s' a/\S.Nodup/\(∀b,b∈S->W0.mine b/\b<w.heap.size/\ ¬X b)/\ ∀i,i∈s'.lent-> ∀b,b∈S->b∉F' (.m i):=by
 cases r with
 |vals ts=>
  obtain⟨vs,S,F',h1,h2,h3⟩:=Zyo hτ h (show Zyn τ ts rs s=some (x,s')from hr);rw[hB]at h2;exact⟨vs,S,F',h1,h2,h3.drop,(by simpa using h3.hnodup),fun b hb=>h3.hown b (by simp[hb]),fun i _ b hb hF=>h3.hdisj _ b hF (by simp[hb])⟩
 |newb e T=>
  match rs,hr with
  | [],hr=>cases hr
  | [.cell ..,.cell ..],hr=>cases hr
  | [.cell ..,.tmp _],hr=>cases hr
  | [.cell ..],hr=>cases hr
  | .tmp _::_::_,hr=>cases hr
  | .cell .. ::_::_::_,hr=>cases hr
  | [.tmp k],hr=>
   simp only[Z8e]at hr;split at hr
   ·rename_i q hq;split at hr
    ·rename_i e' U f y hg;split at hr
     ·rename_i z hok hz;simp only[Oba,Bool.not_eq_true']at hok;simp only[Osi,Opi]at hr;obtain⟨hz1,rfl⟩:=hr;have hx':x=z:=hz1.symm;subst hx';have he:=Onb hok.1.1;subst he;obtain⟨rfl,rfl⟩:=Zdu hz;have hev:=Zvy h hq hg;have hs:=h.slots (.m q);rw[hg]at hs;obtain⟨b,c,S,g1,g2,g3,g4⟩:=hs;have h5:=Zvo hok.1.2 g4;unfold rdF at h5;have hS:S=[]:=Zfg h5;subst hS;refine⟨[.pointer (some ⟨b,0,none⟩)],[b],F,?_,⟨b,c,rfl,rfl,g3,Zei (.inl rfl) (.inr fun _ h=>h) h5⟩,h,by simp,?_,?_⟩
      ·have h1': (a.tmps.getD k undef)= .pointer (some ⟨b,0,none⟩):=by
        have:a.eval (.tmp k)=_:=hev;rw[g1]at this;exact this
       simp only[List.mapM_cons,List.mapM_nil,Zj7,Sem.run_bind,Sem.run_pure,Result.andThen_ok,h1']
      ·intro b' hb';simp only[List.mem_singleton]at hb';subst hb';exact h.own (.m q) b' (by rw[g2];simp)
      ·intro i hi b' hb' hF;simp only[List.mem_singleton]at hb';subst hb';have:=h.disj (.m q) (.m i) b' (by rw[g2];simp) hF;simp only[Key.m.injEq]at this;subst this;exact Z4q hok.2 hi
     ·cases hr
    ·cases hr
   ·cases hr
 |shr ts=>
  simp only[Z8e]at hr;split at hr
  ·rename_i x' hx;simp only[Osi,Opi]at hr;obtain⟨hx1,rfl⟩:=hr;have hx':x=x':=hx1.symm;subst hx';obtain⟨vs,h1,h2⟩:=Zv7 hτ h hx;exact⟨vs,[],F,h1,⟨rfl,h2⟩,h,by simp,by simp,by simp⟩
  ·cases hr
 |flg ts=>
  obtain⟨vs,S,F',h1,h2,h3⟩:=Zym hτ h (show Zyl τ ts rs s=some (x,s')from hr);rw[hB]at h2;exact⟨vs,S,F',h1,h2,h3.drop,(by simpa using h3.hnodup),fun b hb=>h3.hown b (by simp[hb]),fun i _ b hb hF=>h3.hdisj _ b hF (by simp[hb])⟩
 |fp T j p1 p2=>
  match rs,hr with
  | [],hr=>cases hr
  | [.cell ..,.cell ..],hr=>cases hr
  | [.cell ..,.tmp _],hr=>cases hr
  | [.cell ..],hr=>cases hr
  | .tmp _::_::_,hr=>cases hr
  | .cell .. ::_::_::_,hr=>cases hr
  | [.tmp k],hr=>
   have hs:s'=s:=by
    simp only[Z8e]at hr;split at hr
    ·split at hr
     ·split at hr
      ·simp only[Osi,Opi]at hr;exact hr.2.symm
      ·simp only[Osi,Opi]at hr;exact hr.2.symm
      ·cases hr
     ·cases hr
    ·cases hr
   subst hs;exact⟨[a.tmps.getD k undef],[],F,by simp only[List.mapM_cons,List.mapM_nil,Zj7,Sem.run_bind,Sem.run_pure,Result.andThen_ok],rfl,h,by simp,by simp,by simp⟩
theorem Q8z{r:RS}{rs:List ResultVar}{x:Zz0 r}(h:R n W0 w X F H s a){ln:List Nat}(hr:Z8e ln τ r rs s=some (x,s')){vs:List Value}(hv: (rs.mapM (Zj7 a)).run P w= .ok vs w)
  {BL:List Nat} (hb: ∀(j q:Nat),ln[j]? =some q-> ∃b,BL[j]? =some b/\Qk W0.gh a (.m q)= .pointer (some ⟨b,0,none⟩)):rdP r x vs BL:=by
 cases r with
 |fp T j p1 p2=>
  match rs,hr with
  | [],hr=>cases hr
  | [.cell ..,.cell ..],hr=>cases hr
  | [.cell ..,.tmp _],hr=>cases hr
  | [.cell ..],hr=>cases hr
  | .tmp _::_::_,hr=>cases hr
  | .cell .. ::_::_::_,hr=>cases hr
  | [.tmp k],hr=>
   simp only[Z8e]at hr;split at hr
   ·rename_i k' q p q' hx hj;split at hr
    ·rename_i e U f y hg hq;have hq:=Onb hq;subst hq;obtain⟨e1,hS,e2,U2,f2,y2,b,S,k1,k2,k3⟩:=Ke h Vh hx (by simp);simp only[Operand.tmp.injEq]at e1;subst e1;rw[hg]at k1;cases k1;have hs:=h.slots (.m q');rw[hg]at hs;obtain⟨b3,c3,S3,g1,g2,g3,g4⟩:=hs;rw[k2]at g2;obtain⟨rfl,_⟩:=List.cons.inj g2;obtain⟨b4,m1,m2⟩:=hb j q' hj;rw[g1]at m2;simp only[Value.pointer.injEq,Osi,Addr.mk.injEq,and_true]at m2;subst m2;have h1': (a.tmps.getD k undef)= .pointer (some ⟨b,J3 U p,none⟩):=k3;simp only[List.mapM_cons,List.mapM_nil,Zj7,Sem.run_bind,Sem.run_pure,Result.andThen_ok,h1',Result.ok.injEq,and_true]at hv;subst hv;split at hr
     ·rename_i hU hp;have hU:=Ode hU;subst hU;simp only[Osi,Opi]at hr;obtain⟨rfl,rfl⟩:=hr;exact⟨b,m1,by rw[Zvg hp];rfl⟩
     ·rename_i hU hp1 hp;have hU:=Ode hU;subst hU;simp only[Osi,Opi]at hr;obtain⟨rfl,rfl⟩:=hr;exact⟨b,m1,by rw[Zvg hp];rfl⟩
     ·cases hr
    ·cases hr
   ·cases hr
 |_=>trivial
theorem Qlp: ∀{as:List AK} {x:Zri as} {vals:List Value} {BL C:List Nat} {i j q:Nat},rdO w X as x vals BL C->(Zhz as i)[j]? =some q-> ∃b,BL[j]? =some b/\(q,Value.pointer (some ⟨b,0,none⟩))∈Zlb as vals i
 | [],_,_,_,_,_,_,_,_,hq=>by simp[Zhz]at hq
 | .sh _::r,_,_,_,_,i,j,q,⟨v,us,e,h⟩,hq=>by
  subst e;exact Qlp (as:=r) (i:=i+1) h hq
 | .mv _::r,_,_,_,_,i,j,q,⟨v,us,e,h⟩,hq=>by
  subst e;exact Qlp (as:=r) (i:=i+1) h hq
 | .bx _ _ _::r,_,_,_,_,i,j,q,⟨b,c,S,us,BL',C',e1,e2,e3,_,_,h⟩,hq=>by
  subst e1;subst e2;cases j with
  |zero=>
   simp only[Zhz,List.getElem?_cons_zero,Osi]at hq;subst hq;exact⟨b,rfl,by simp[Zlb]⟩
  |succ j=>
   simp only[Zhz,List.getElem?_cons_succ]at hq;obtain⟨b',h1,h2⟩:=Qlp (as:=r) (i:=i+1) h hq;exact⟨b',by simpa using h1,by simp[Zlb,h2]⟩
theorem Zy8(h:R n W0 w X F H s a)(hB:W0.B=0): ∀{as:List AK} {vals:List Value} {i:Nat} {z:Zri as},Q1g s as i=some z->vals.length=as.length->(∀p,p∈Zlb as vals i->Qk W0.gh a (.m p.1)=p.2)->
  ∃BL C,rdO w X as z vals BL C/\(BL++C).Nodup/\ ∀b,b∈BL++C-> ∃j,i<=j/\j∈Zhz as i/\b∈F (.m j)
 | [],vals,i,z,hz,hl,_=>⟨[],[],⟨List.eq_nil_of_length_eq_zero hl,rfl,rfl⟩,by simp,by simp⟩
 | .sh t::r,[],i,z,hz,hl,_=>by simp at hl
 | .bx .. ::r,[],i,z,hz,hl,_=>by simp at hl
 | .mv .. ::r,[],i,z,hz,hl,_=>by simp at hl
 | .mv t::r,v::vals,i,z,hz,hl,hf=>by
  obtain⟨BL,C,h1,h2,h3⟩:=Zy8 h hB (as:=r) (vals:=vals) (i:=i+1) hz (by simpa using hl) hf;exact⟨BL,C,⟨v,vals,rfl,h1⟩,h2,fun b hb=>let⟨j,k1,k2,k3⟩:=h3 b hb;⟨j,by omega,k2,k3⟩⟩
 | .sh t::r,v::vals,i,z,hz,hl,hf=>by
  obtain⟨BL,C,h1,h2,h3⟩:=Zy8 h hB (as:=r) (vals:=vals) (i:=i+1) hz (by simpa using hl) hf;exact⟨BL,C,⟨v,vals,rfl,h1⟩,h2,fun b hb=>let⟨j,k1,k2,k3⟩:=h3 b hb;⟨j,by omega,k2,k3⟩⟩
 | .bx e T o::r,v::vals,i,z,hz,hl,hf=>by
  simp only[Q1g]at hz;split at hz
  ·rename_i e' U f y hg;split at hz
   ·rename_i z1 z2 hok hz1 hz2;simp only[Osi]at hz;subst hz;simp only[Oba]at hok;have he:=Onb hok.1;subst he;obtain⟨rfl,rfl⟩:=Zdu hz1;obtain⟨BL,C,h1,h2,h3⟩:=Zy8 h hB (as:=r) (vals:=vals) (i:=i+1) hz2 (by simpa using hl) (fun p hp=>hf p (by simp[Zlb,hp]));have hs:=h.slots (.m i);rw[hg]at hs;obtain⟨b,c,S,g1,g2,g3,g4⟩:=hs;have hv:v= .pointer (some ⟨b,0,none⟩):=by rw[<-g1];exact(hf (i,v) (by simp[Zlb])).symm
    have hsep: ∀b',b'∈b::S->b'∉BL++C:=fun b' hb' hm=>by
     obtain⟨j,k1,_,k3⟩:=h3 b' hm;have:=h.disj (.m i) (.m j) b' (by rw[g2];exact hb') k3;simp only[Key.m.injEq]at this;omega
    have hnd:=h.nodup (.m i);rw[g2]at hnd;refine⟨b::BL,S++C,⟨b,c,S,vals,BL,C,by rw[hv],rfl,rfl,g3,?_,h1⟩,?_,?_⟩
    ·have:=Zvo hok.2 g4;rw[hB]at this;exact this
    ·have h4: (b::S++ (BL++C)).Nodup:=List.nodup_append.2 ⟨hnd,h2,fun x hx y hy e=>hsep x hx (by rw[e];exact hy)⟩;have hp: (b::BL++ (S++C)).Perm (b::S++ (BL++C)):=(List.perm_append_comm_assoc BL S C).cons b;exact hp.nodup_iff.2 h4
    ·intro b' hb';by_cases hm:b'∈BL++C
     ·obtain⟨j,k1,k2,k3⟩:=h3 b' hm;exact⟨j,by omega,by simp[Zhz,k2],k3⟩
     ·refine⟨i,Nat.le_refl _,by simp[Zhz],?_⟩;rw[g2];simp only[List.mem_append,List.mem_cons]at hb' hm⊢
      grind
   ·cases hz
  ·cases hz
theorem Qln: ∀{as:List AK} {x:Zzz as} {vals:List Value} {L:List Nat},rdA w X as x vals L->vals.length=as.length
 | [],_,_,_,h=>by simp[h.1]
 | .sh t::r,_,_,_,⟨_,_,e,_,h⟩=>by simp[e,Qln h]
 | .bx .. ::r,_,_,_,⟨_,_,_,_,_,e,_,_,_,h⟩=>by simp[e,Qln h]
 | .mv .. ::r,_,_,_,⟨_,_,_,_,e,_,_,h⟩=>by simp[e,Qln h]
theorem Ztx: ∀{as:List AK} {vals:List Value} {i:Nat} {p:Nat×Value},p∈Zlb as vals i->p.1∈Zhz as i/\i<=p.1
 | [],_,_,_,h=>by simp[Zlb]at h
 | .sh t::r,[],_,_,h=>by simp[Zlb]at h
 | .bx .. ::r,[],_,_,h=>by simp[Zlb]at h
 | .mv .. ::r,[],_,_,h=>by simp[Zlb]at h
 | .mv t::r,v::vals,i,p,h=>let⟨h1,h2⟩:=Ztx (as:=r) h;⟨h1,by omega⟩
 | .sh t::r,v::vals,i,p,h=>let⟨h1,h2⟩:=Ztx (as:=r) h;⟨h1,by omega⟩
 | .bx .. ::r,v::vals,i,p,h=>by
  simp only[Zlb,List.mem_cons]at h;rcases h with rfl|h
  ·exact⟨by simp[Zhz],Nat.le_refl _⟩
  ·obtain⟨h1,h2⟩:=Ztx h;exact⟨by simp[Zhz,h1],by omega⟩
theorem Zu5(a:Act): ∀{as:List AK} {x:Zzz as} {vals pre:List Value} {i:Nat} {L:List Nat},rdA w X as x vals L->pre.length=i->a.tmps.toList.take (pre.length+vals.length)=pre++vals->L.Nodup->
  ∃F0:Key->List Nat,(∀k,(F0 k).Nodup/\ ∀b,b∈F0 k->b∈L)/\(∀k k' b,b∈F0 k->b∈F0 k'->k=k')/\(∀k b,b∈F0 k-> ∃j,i<=j/\k= .m j)/\
   (∀p,p∈Zlb as vals i->Qk gh a (.m p.1)=p.2)/\ ∀(s:St) (F:Key->List Nat) (k:Key),vt gh w X 0 s F a (Qk gh a k) (F0 k) (Ze8 (Qam as x i) k)/\(∀d j,k= .c d j->Ze8 (Qam as x i) k= .junk)
 | [],_,_,_,i,_,⟨e1,e2⟩,_,_,_=>by
  subst e1;subst e2;exact⟨fun _=>[],by simp,by simp,by simp,by simp[Zlb],fun _ _ _=>⟨rfl,fun _ _ _=>rfl⟩⟩
 | .sh t::r,x,vals,pre,i,L,h,hp,ht,hn=>by
  obtain⟨cs,us,rfl,h1,h2⟩:=h;obtain⟨F0,k1,k2,k3,k4,k5⟩:=Zu5 a (pre:=pre++ [Xt t cs]) (i:=i+1) h2 (by simp[hp]) (by simpa[Nat.add_assoc,Nat.add_comm 1]using ht) hn;have hFi:F0 (.m i)=[]:=List.eq_nil_iff_forall_not_mem.2 fun b hb=>by
   obtain⟨j,j1,j2⟩:=k3 _ b hb;simp only[Key.m.injEq]at j2;omega
  refine⟨F0,k1,k2,fun k b hb=>let⟨j,j1,j2⟩:=k3 k b hb;⟨j,by omega,j2⟩,k4,fun s F k=> ?_⟩;simp only[Qam,Z1];split
  ·rename_i e;subst e;rw[hFi];refine⟨⟨cs,?_,by unfold rdF;exact Zei (.inl rfl) (.inr fun _ h=>h) h1⟩,fun _ _ hc=>by simp at hc⟩;have:a.tmps.toList[i]? =some (Xt t cs):=by
    have h3: (a.tmps.toList.take (pre.length+ (Xt t cs::us).length))[i]? =some (Xt t cs):=by rw[ht,<-hp];simp
    rw[List.getElem?_take]at h3;split at h3
    ·exact h3
    ·cases h3
   simp only[Qk,Zkz];rw[<-Array.getElem?_toList,this]
  ·exact k5 s F k
 | .bx e t o::r,x,vals,pre,i,L,h,hp,ht,hn=>by
  obtain⟨b,c,S,us,L',rfl,rfl,h1,h2,h3⟩:=h;have hn': (b::S++L').Nodup:=by simpa using hn
  obtain⟨n1,n2,n3⟩:=List.nodup_append.1 hn';obtain⟨F0,k1,k2,k3,k4,k5⟩:=Zu5 a (pre:=pre++ [.pointer (some ⟨b,0,none⟩)]) (i:=i+1) h3 (by simp[hp]) (by simpa[Nat.add_assoc,Nat.add_comm 1]using ht) n2;have hslot:Qk gh a (.m i)= .pointer (some ⟨b,0,none⟩):=by
   have:a.tmps.toList[i]? =some (.pointer (some ⟨b,0,none⟩)):=by
    have h3: (a.tmps.toList.take (pre.length+ (Value.pointer (some ⟨b,0,none⟩)::us).length))[i]? =some (.pointer (some ⟨b,0,none⟩)):=by rw[ht,<-hp];simp
    rw[List.getElem?_take]at h3;split at h3
    ·exact h3
    ·cases h3
   simp only[Qk,Zkz];rw[<-Array.getElem?_toList,this]
  refine⟨fun k=>if k= .m i then b::S else F0 k,fun k=> ?_,fun k k' b' hb hb'=> ?_,fun k b' hb=> ?_,fun p hp'=> ?_,fun s F k=> ?_⟩
  ·dsimp only;split
   ·exact⟨n1,fun b' hb'=>by simp only[List.mem_cons,List.mem_append]at hb'⊢;grind⟩
   ·exact⟨(k1 k).1,fun b' hb'=>by have:=(k1 k).2 b' hb';simp[this]⟩
  ·dsimp only at hb hb';split at hb<;>split at hb'
   ·rename_i e1 e2;rw[e1,e2]
   ·exact absurd rfl (n3 b' hb b' ((k1 _).2 _ hb'))
   ·exact absurd rfl (n3 b' hb' b' ((k1 _).2 _ hb))
   ·exact k2 _ _ _ hb hb'
  ·dsimp only at hb;split at hb
   ·rename_i e1;exact⟨i,Nat.le_refl _,e1⟩
   ·obtain⟨j,j1,j2⟩:=k3 k b' hb;exact⟨j,by omega,j2⟩
  ·simp only[Zlb,List.mem_cons]at hp';rcases hp' with rfl|hp'
   ·exact hslot
   ·exact k4 p hp'
  ·simp only[Qam,Z1];by_cases hk:k= .m i
   ·subst hk;simp only[if_true];exact⟨⟨b,c,S,hslot,rfl,h1,h2⟩,fun _ _ hc=>by simp at hc⟩
   ·rw[if_neg (Ne.symm hk),if_neg hk];exact k5 s F k
 | .mv t::r,x,vals,pre,i,L,h,hp,ht,hn=>by
  obtain⟨cs,S,us,L',rfl,rfl,h1,h3⟩:=h;obtain⟨n1,n2,n3⟩:=List.nodup_append.1 hn;obtain⟨F0,k1,k2,k3,k4,k5⟩:=Zu5 a (pre:=pre++ [Xt t cs]) (i:=i+1) h3 (by simp[hp]) (by simpa[Nat.add_assoc,Nat.add_comm 1]using ht) n2;have hslot:Qk gh a (.m i)=Xt t cs:=by
   have:a.tmps.toList[i]? =some (Xt t cs):=by
    have h3: (a.tmps.toList.take (pre.length+ (Xt t cs::us).length))[i]? =some (Xt t cs):=by rw[ht,<-hp];simp
    rw[List.getElem?_take]at h3;split at h3
    ·exact h3
    ·cases h3
   simp only[Qk,Zkz];rw[<-Array.getElem?_toList,this]
  refine⟨fun k=>if k= .m i then S else F0 k,fun k=> ?_,fun k k' b' hb hb'=> ?_,fun k b' hb=> ?_,k4,fun s F k=> ?_⟩
  ·dsimp only;split
   ·exact⟨n1,fun b' hb'=>by simp[hb']⟩
   ·exact⟨(k1 k).1,fun b' hb'=>by have:=(k1 k).2 b' hb';simp[this]⟩
  ·dsimp only at hb hb';split at hb<;>split at hb'
   ·rename_i e1 e2;rw[e1,e2]
   ·exact absurd rfl (n3 b' hb b' ((k1 _).2 _ hb'))
   ·exact absurd rfl (n3 b' hb' b' ((k1 _).2 _ hb))
   ·exact k2 _ _ _ hb hb'
  ·dsimp only at hb;split at hb
   ·rename_i e1;exact⟨i,Nat.le_refl _,e1⟩
   ·obtain⟨j,j1,j2⟩:=k3 k b' hb;exact⟨j,by omega,j2⟩
  ·simp only[Qam,Z1];by_cases hk:k= .m i
   ·subst hk;simp only[if_true];exact⟨⟨cs,hslot,by unfold rdF;exact h1⟩,fun _ _ hc=>by simp at hc⟩
   ·rw[if_neg (Ne.symm hk),if_neg hk];exact k5 s F k
theorem Zta(hs0:g.soft=false): ∀{as:List AK} {i:Nat} {s:St} {X:Nat->Prop} {F:Key->List Nat},R n W0 w X F H s a-> ∃X' F',R n W0 w X' F' H (Qnv as i s) a
 | [],_,s,X,F,h=>⟨X,F,h⟩
 | .sh _::r,_,s,X,F,h=>Zta hs0 (as:=r) h
 | .mv _::r,_,s,X,F,h=>Zta hs0 (as:=r) h
 | .bx _ _ o::r,i,s,X,F,h=>by
  obtain⟨X1,F1,h1⟩:=Qnw hs0 h i o;exact Zta hs0 (as:=r) h1
theorem Z1k.of{e:FnB}(hC:C.ok P g)(hsf:C.soft=false:=by rfl)(hlent:C.lent=Zhz e.args 0){fn:Func}{c:Code}(hf:P.funcs[e.f]? =some fn)(hb:fn.body=some c)(hcall: ∀args w,(callFunc e.f args).run P w= .ok (.enter e.f args) w)
  (hn:e.args.length<=fn.ntmps) (A:An (Zz0 e.res×Zri e.args)) (hA:Ze6 C fn.ntmps c A (Qw9 C.τ e.args e.res fn.results.toList))
  (hF: ∀xs r,e.F xs=some r->Vf C fn.ntmps c A (Qw9 C.τ e.args e.res fn.results.toList) (Ql4 e.args xs)=some r):Z1k P g e where
 enters:=hcall
 calls:=fun w X L xs r vals hgl hgx hXl hL hnd hx hr=>by
  have hl:=Qln hx;refine calls_of_wp hf hb ?_
  let a0:Act:={tmps:=vals.toArray++Array.replicate (fn.ntmps-vals.toArray.size) undef,defers:=[]}
  let z:Wz g:={W:=w,B:=0,Y:=fun b=>b<w.heap.size/\b∉L,L:=(· ∈L),X0:=X,fix:=Zlb e.args vals 0,bB:=Nat.zero_le _,fr:=fun e=>Bool.noConfusion ((hC.soft.trans hsf).symm.trans e),yW:=fun _ h=>h.1,yL:=fun _ h hm=>h.2 hm}
  obtain⟨F0,k1,k2,k3,k4,k5⟩:=Zu5 a0 (pre:=[]) (i:=0) hx rfl (by simp[a0]) hnd;have h0:R fn.ntmps z w X F0 [] (Ql4 e.args xs) a0:=
   {size:=by simp[a0];omega
    defers:=rfl
    below:=⟨rfl,rfl,rfl,Nat.le_refl _,fun _ _=>rfl⟩
    glob:=hgl
    gx:=hgx
    xs:=fun e=>Bool.noConfusion ((hC.soft.trans hsf).symm.trans e)
    fix:=fun p hp=>⟨(Ztx hp).1,k4 p hp⟩
    xlt:=hXl
    xin:=fun b hb=> .inl hb
    x0:=fun b hb=>hb
    own:=fun k b hb=>let h:=(k1 k).2 b hb;⟨.inr h,(hL b h).2,(hL b h).1⟩
    nodup:=fun k=>(k1 k).1
    disj:=k2
    hown:=by simp
    hnodup:=by simp
    hdisj:=by simp
    comps:=fun d i hc=>absurd ((k5 (Ql4 e.args xs) F0 (.c d i)).2 d i rfl) hc
    slots:=fun k=>(k5 (Ql4 e.args xs) F0 k).1}
  refine wp_mono (Ztv hC (fun p hp=>by rw[hlent];exact(Ztx hp).1) hA (hF xs r hr) h0) fun ex a' w' hp=> ?_;obtain⟨s',X',F',hk,hR⟩:=hp;obtain⟨X',F',hR⟩:=Zta (hC.soft.trans hsf) (as:=e.args) (i:=0) hR;have fin:Qw9 C.τ e.args e.res fn.results.toList .ret s'=some r->a'.defers=[]/\ ∃v',(results fn a'.tmps).run P w'= .ok v' w'/\ ∃rs S BL C X',Ending.returned v'= .returned (Xu rs)/\Q7m w w' X X' L (S++ (BL++C))/\rdS w' X' e.res r.1 rs S/\rdO w' X' e.args r.2 vals BL C/\rdP e.res r.1 rs BL:=by
   intro hk;simp only[Qw9]at hk;split at hk
   ·rename_i x s2 hx2;split at hk
    ·rename_i zz hz;simp only[Osi]at hk;subst hk;obtain⟨vs,S,F2,m1,m2,m3,m4,m5,m6⟩:=Qtg hC.τ hR rfl hx2;have hfx: ∀p,p∈Zlb e.args vals 0->p.1∈s2.lent/\Qk z.gh a' (.m p.1)=p.2:=fun p hp=>m3.fix p hp;obtain⟨BL,C,n1,n2,n3⟩:=Zy8 m3 rfl hz hl (fun p hp=>(hfx p hp).2);have hlen: ∀{as:List AK} {vals:List Value} {i j:Nat},vals.length=as.length->j∈Zhz as i-> ∃v,(j,v)∈Zlb as vals i:=by
      intro as
      induction as with
      |nil=>intro vals i j _ hj;simp[Zhz]at hj
      |cons a as ih=>
       intro vals i j hlen hj;cases vals with
       |nil=>simp at hlen
       |cons v vals=>
        cases a with
        |sh t=>exact ih (by simpa using hlen) hj
        |mv t=>exact ih (by simpa using hlen) hj
        |bx e t o=>
         simp only[Zhz,List.mem_cons]at hj;rcases hj with rfl|hj
         ·exact⟨v,by simp[Zlb]⟩
         ·obtain⟨v',hv'⟩:=ih (vals:=vals) (by simpa using hlen) hj;exact⟨v',by simp[Zlb,hv']⟩
     have hall: ∀b,b∈S++ (BL++C)->z.mine b/\b<w'.heap.size/\ ¬X' b:=fun b hb=>by
      rcases List.mem_append.1 hb with hb|hb
      ·exact m5 b hb
      ·obtain⟨j,_,_,j3⟩:=n3 b hb;exact m3.own _ b j3
     refine⟨hR.defers,_,Zll m1,vs,S,BL,C,X',rfl,⟨hR.below.os,hR.below.tape,hR.below.output,hR.below.size,?_,hR.xlt,?_,?_,?_,fun b hb hm=>hR.below.block b ⟨hb,hm⟩⟩,m2,n1,Q8z hR hx2 m1 fun j q hq=> ?_⟩
     ·intro b hb;exact hR.x0 b hb
     ·intro b hb;exact(hR.xin b hb).imp id fun h=>h
     ·exact List.nodup_append.2 ⟨m4,n2,fun x hx y hy e=>by
       subst e;obtain⟨j,_,j2,j3⟩:=n3 x hy;obtain⟨v,hv⟩:=hlen hl j2;exact m6 j (hfx _ hv).1 x hx j3⟩
     ·intro b hb;obtain⟨g1,g2,g3⟩:=hall b hb;exact⟨g1,g2,g3⟩
     ·obtain⟨b,h1,h2⟩:=Qlp n1 hq;exact⟨b,h1,(hfx _ h2).2⟩
    ·cases hk
   ·cases hk
  cases ex with
  |normal=>exact fin hk
  |ret=>exact fin hk
  |_=>simp[Qw9]at hk
end
end Go.Am
namespace Go.Am
open Go.RowKit
section
variable {P:Program} {g:Kr} {w w':World} {X X':Nat->Prop} {s s':St} {F:Key->List Nat} {a:Act} {C:Cfg}
theorem Qyt.of{e:FnW}(hC: ∀w0 L,C.ok P (Zrz w0 L)){fn:Func}{c:Code}(hf:P.funcs[e.f]? =some fn)(hb:fn.body=some c)(hcall: ∀args w,(callFunc e.f args).run P w= .ok (.enter e.f args) w)
  (hn:e.args.length<=fn.ntmps) (A:An (Jb e.res)) (hA:Ze6 C fn.ntmps c A (fnK C.τ e.res fn.results.toList))
  (hF: ∀xs r,e.F xs=some r->Vf C fn.ntmps c A (fnK C.τ e.res fn.results.toList) (Ql3 e.args xs)=some r):Qyt P e where
 enters:=hcall
 calls:=fun w L xs r vals hpl hx hr=>by
  have hl:=Zzc hx;refine calls_of_wp hf hb ?_
  let a0:Act:={tmps:=vals.toArray++Array.replicate (fn.ntmps-vals.toArray.size) undef,defers:=[]}
  let z:Wz (Zrz w L):={W:=w,B:=w.heap.size,Y:=fun b=>b<w.heap.size/\ ¬L b,L:=L,X0:=L,fix:=[],bB:=Nat.le_refl _,yW:=fun _ h=>h.1,yL:=fun _ h=>h.2,fr:=fun _ k hk hy=>hy.2 hk}
  have h0:R fn.ntmps z w L (fun _=>[]) [] (Ql3 e.args xs) a0:=by
   have key:=fun k=>Zya (W0:=z) (s:=Ql3 e.args xs) (F:=fun _=>[]) a0 (pre:=[]) (i:=0) hx rfl (by simp[a0]) k;exact
    {size:=by simp[a0];omega
     defers:=rfl
     below:=⟨rfl,rfl,rfl,Nat.le_refl _,fun _ _=>rfl⟩
     glob:=⟨fun ad u _ hu=>⟨u,hu,Zxs.refl u⟩,hpl⟩
     gx:=fun b hb=>hb
     xs:=fun _ b hb=>hb
     fix:=fun p hp=>by cases hp
     xlt:=fun b hb=>(hpl b hb).lt
     xin:=fun b hb=> .inl hb
     x0:=fun b hb=>hb
     own:=by simp
     nodup:=by simp
     disj:=by simp
     hown:=by simp
     hnodup:=by simp
     hdisj:=by simp
     comps:=fun d i hc=>absurd ((key (.c d i)).2 d i rfl) hc
     slots:=fun k=>(key k).1}
  refine wp_mono (Ztv (hC w L) (fun p hp=>by cases hp) hA (hF xs r hr) h0) fun ex a' w' hp=> ?_;obtain⟨s',X',F',hk,hR⟩:=hp;have fin:Z6y C.τ e.res fn.results.toList s'=some r->a'.defers=[]/\ ∃v,(results fn a'.tmps).run P w'= .ok v w'/\ ∃rs S,Ending.returned v= .returned (Xu rs)/\Zeh w' w.heap.size e.res r rs S/\S.Nodup/\
    w'.os=w.os/\w'.tape=w.tape/\w'.output=w.output/\w.heap.size<=w'.heap.size/\(∀b,b<w.heap.size-> ¬L b->w'.heap[b]? =w.heap[b]?)/\Zm1 L w w'/\ ∀b,L b->Zso w' b:=by
   intro hk;obtain⟨vs,S,k1,k2,k3,_⟩:=Zrn (hC w L).τ hR hk;exact⟨hR.defers,_,Zll k1,vs,S,rfl,k2,k3,hR.below.os,hR.below.tape,hR.below.output,hR.below.size,fun b hb hn=>hR.below.block b ⟨hb,hn⟩,hR.glob.1,hR.glob.2⟩
  cases ex with
  |normal=>exact fin hk
  |ret=>exact fin hk
  |_=>simp[fnK]at hk
theorem Zr3.any{e:FnE}(h:Zr3 P Kr.none e):Zr3 P g e:=⟨h.enters,fun w xs r vals _=>h.calls w xs r vals trivial⟩
theorem Jg:Zwn.ok [] P:=fun _ h=>by cases h
end
end Go.Am
namespace Go.Am
open Go.RowKit
def Qzu:List (Nat×Ty)->Nat->Option Ty
 | [],_=>none
 | (k,t)::r,e=>match Nat.beq k e with|true=>some t|false=>Qzu r e
def Zax(fn:Func):Code:=match fn.body with|some c=>c|none=> .skip
section
variable {P:Program}
def Q8j(P:Program)(l:List (Nat×Ty)):Prop:= ∀e T,Qzu l e=some T->TOK P e T
theorem Q66:Q8j P []:=fun _ _ h=>by cases h
theorem Xw{e:Nat}{T:Ty}{l:List (Nat×Ty)}(h:TOK P e T)(hl:Q8j P l):Q8j P ((e,T)::l):=fun e' T' h'=>by
 simp only[Qzu]at h';split at h'
 ·rename_i hb;rw[<-Onb hb];simp only[Osi]at h';subst h';exact h
 ·exact hl e' T' h'
def Q5c(P:Program)(τ:Tab)(l:List Nat):Prop:= ∀e T,l.any (Nat.beq e)=true->τ e=some T->Ztp P e T
theorem Q5t{τ:Tab}:Q5c P τ []:=fun _ _ h _=>by cases h
theorem Zo9{τ:Tab}{e:Nat}{T:Ty}{l:List Nat}(h:Ztp P e T)(hT:τ e=some T)(hl:Q5c P τ l):Q5c P τ (e::l):=fun e' T' h' hT'=>by
 simp only[List.any_cons,Bool.or_eq_true]at h';rcases h' with h'|h'
 ·have:=Onb h';subst this;rw[hT]at hT';cases hT';exact h
 ·exact hl e' T' h' hT'
theorem Jf{g:Kr}:Zx7.ok [] P g:=fun _ h=>by cases h
theorem Q0x{g:Kr}{e:FnL}{Γ:Zx7}(h:Qaj P g e)(hΓ:Γ.ok P g):Zx7.ok (e::Γ) P g:=fun e' h'=>by
 rcases List.mem_cons.1 h' with rfl|h'
 ·exact h
 ·exact hΓ e' h'
theorem Zc{g:Kr}:Zu2.ok [] P g:=fun _ h=>by cases h
theorem Zt{g:Kr}{e:FnB}{Γ:Zu2}(h:Z1k P g e)(hΓ:Γ.ok P g):Zu2.ok (e::Γ) P g:=fun e' h'=>by
 rcases List.mem_cons.1 h' with rfl|h'
 ·exact h
 ·exact hΓ e' h'
theorem Ve{g:Kr}:Z4y.ok [] P g:=fun _ h=>by cases h
theorem Xk{g:Kr}{e:Zqg}{Γ:Z4y}(h:Wg P g e)(hΓ:Γ.ok P g):Z4y.ok (e::Γ) P g:=fun e' h'=>by
 rcases List.mem_cons.1 h' with rfl|h'
 ·exact h
 ·exact hΓ e' h'
theorem Zf{g:Kr}:Env.ok [] P g:=fun _ h=>by cases h
theorem Za{g:Kr}{e:FnE}{Γ:Env}(h:Zr3 P g e)(hΓ:Γ.ok P g):Env.ok (e::Γ) P g:=fun e' h'=>by
 rcases List.mem_cons.1 h' with rfl|h'
 ·exact h
 ·exact hΓ e' h'
end
end Go.Am
namespace Go.Am
open Go.RowKit Go.ChangeShapes Go.WideShapes Go.ChangeAt
open Go.ChangeMaps (open_string shut_string)
def Jq(P:Program):Ty->TypeId->List Field->Nat->Bool->Bool
 | .int k,e,_,_,true=>match P.underlying e with|some (.int k')=>decide (k'=k)&&Nat.beq (P.cellsOf e) 1|_=>false
 | .bool,e,_,_,true=>match P.underlying e with|some .bool=>Nat.beq (P.cellsOf e) 1|_=>false
 | .str,e,_,_,true=>match P.underlying e with|some .string=>Nat.beq (P.cellsOf e) 1|_=>false
 | .fnc _,_,_,_,_=>false
 | .err,_,_,_,_=>false
 | .hid _,_,_,_,_=>false
 | .sptr ..,_,_,_,_=>false
 | .clo ..,_,_,_,_=>false
 | .slice e' t,e,_,_,true=>match P.underlying e with
  |some (.slice e2)=>Nat.beq e2 e'&&Nat.beq (P.cellsOf e) 1&&Nat.beq (P.cellsOf e') t.size&&Nat.blt 0 t.size&&Jq P t e' [] 0 true
  |_=>false
 | .arr n t,e,_,_,true=>match P.underlying e with
  |some (.array m e2)=>Nat.beq m n&&Nat.beq (P.cellsOf e) (n*t.size)&&Nat.beq (P.cellsOf e2) t.size&&Jq P t e2 [] 0 true
  |_=>false
 | .unit,e,_,_,true=>match P.underlying e with
  |some (.struct fs)=>fs.toList.isEmpty&&Nat.beq (P.cellsOf e) 0
  |_=>false
 | .pair a b,e,_,_,true=>match P.underlying e with
  |some (.struct fs)=>match fs.toList with
   |f::r=>Nat.beq (P.cellsOf e) (a.size+b.size)&&Nat.beq f.offset 0&&Nat.beq (P.cellsOf f.type) a.size&&Jq P a f.type [] 0 true&&Jq P b 0 r a.size false
   | []=>false
  |_=>false
 | .unit,_,fs,_,false=>fs.isEmpty
 | .pair a b,_,fs,off,false=>match fs with
  |f::r=>Nat.beq f.offset off&&Nat.beq (P.cellsOf f.type) a.size&&Jq P a f.type [] 0 true&&Jq P b 0 r (off+a.size) false
  | []=>false
 |_,_,_,_,false=>false
def wf: (T:Ty)->T.den->Prop| .unit,_=>True| .int k,x=>(Lit.int k x).wf=true| .bool,_=>True| .fnc _,_=>True| .err,_=>True| .hid _,_=>True| .sptr ..,_=>True| .clo ..,_=>True| .str,x=>x.length<=maxLen| .slice _ t,x=>x.length<=maxLen/\ ∀y∈x,wf t y| .pair a b,x=>wf a x.1/\wf b x.2| .arr n t,x=>x.length=n/\ ∀y∈x,wf t y
section
variable {H:Type} {enc:TypeId×Value->H} {P:Program} {w:World} {sp:Nat->Bool} {held:Bool}
theorem Qud{α:Type}{r:α->List Value->List Nat->Prop}{q:α->Prop}{sz:Nat}: ∀{n:Nat} {cs:List Value},cs.length=n*sz->
  (∀i,i<n-> ∃x,r x ((cs.drop (i*sz)).take sz) []/\q x)-> ∃l,l.length=n/\Ww r l cs []/\ ∀y∈l,q y
 |0,cs,hl,_=>⟨[],rfl,⟨by simpa using hl,rfl⟩,by simp⟩
 |n+1,cs,hl,h=>by
  obtain⟨x,hx,hq⟩:=h 0 (by omega);obtain⟨l,e1,e2,e3⟩:=Qud (cs:=cs.drop sz) (n:=n) (sz:=sz) (by rw[List.length_drop,hl,Nat.add_mul];omega) (fun i hi=>by
   obtain⟨x,hx,hq⟩:=h (i+1) (by omega);refine⟨x,?_,hq⟩;rw[List.drop_drop];rw[show sz+i*sz=(i+1)*sz from by rw[Nat.add_mul];omega];exact hx)
  refine⟨x::l,by simp[e1],⟨cs.take sz,cs.drop sz,[],[],by simp,rfl,by simpa using hx,e2⟩,?_⟩;intro y hy;rcases List.mem_cons.1 hy with rfl|hy
  ·exact hq
  ·exact e3 y hy
theorem Qdq: ∀(T:Ty),
  (∀(e:TypeId) (fs:List Field) (off fuel:Nat) (cs:List Value) (x:DataW H×List MemPlace),Jq P T e fs off true=true->DataW.trod enc P w 0 sp held fuel e cs=some x->
   ∃v:T.den,rd w (· <w.heap.size) 0 false T v cs []/\wf T v)/\
  (∀(fs:List Field) (off:Nat) (cs:List Value),Jq P T 0 fs off false=true->cs.length=off+T.size->
   (∀(i:Nat) (f:Field),fs[i]? =some f-> ∃(n:Nat) (x:DataW H×List MemPlace),DataW.trod enc P w 0 sp held n f.type ((cs.drop f.offset).take (P.cellsOf f.type))=some x)->
   ∃v:T.den,rd w (· <w.heap.size) 0 false T v (cs.drop off) []/\wf T v)
 | .int k=>by
   refine⟨fun e fs off fuel cs x hd h=> ?_,fun fs off cs hd=>by simp[Jq]at hd⟩;simp only[Jq]at hd;split at hd
   ·rename_i k' hk;simp only[Oba,decide_eq_true_eq]at hd;obtain⟨rfl,_⟩:=hd;obtain⟨n,rfl,_,hw⟩:=DataW.trod_int hk h;exact⟨n,⟨rfl,rfl⟩,hw⟩
   ·cases hd
 | .bool=>by
   refine⟨fun e fs off fuel cs x hd h=> ?_,fun fs off cs hd=>by simp[Jq]at hd⟩;simp only[Jq]at hd;split at hd
   ·rename_i hk;obtain⟨n,rfl,_⟩:=DataW.trod_bool hk h;exact⟨n,⟨rfl,rfl⟩,trivial⟩
   ·cases hd
 | .fnc _=>⟨fun e fs off fuel cs x hd h=>by simp[Jq]at hd,fun fs off cs hd=>by simp[Jq]at hd⟩
 | .err=>⟨fun e fs off fuel cs x hd h=>by simp[Jq]at hd,fun fs off cs hd=>by simp[Jq]at hd⟩
 | .hid _=>⟨fun e fs off fuel cs x hd h=>by simp[Jq]at hd,fun fs off cs hd=>by simp[Jq]at hd⟩
 | .sptr .. =>⟨fun e fs off fuel cs x hd h=>by simp[Jq]at hd,fun fs off cs hd=>by simp[Jq]at hd⟩
 | .clo .. =>⟨fun e fs off fuel cs x hd h=>by simp[Jq]at hd,fun fs off cs hd=>by simp[Jq]at hd⟩
 | .str=>by
   refine⟨fun e fs off fuel cs x hd h=> ?_,fun fs off cs hd=>by simp[Jq]at hd⟩;simp only[Jq]at hd;split at hd
   ·rename_i hk;obtain⟨s,rfl,_,hs⟩:=DataW.trod_string hk h;exact⟨s.data.toList,⟨rfl,rfl⟩,by simpa[wf]using hs⟩
   ·cases hd
 | .unit=>by
   refine⟨fun e fs off fuel cs x hd h=> ?_,fun fs off cs hd hl _=>⟨(),⟨by simp only[Ty.size]at hl;simp[hl],rfl⟩,trivial⟩⟩;simp only[Jq]at hd;split at hd
   ·rename_i fs' hk;simp only[Oba]at hd;obtain⟨xs,n,_,_,hl,_⟩:=DataW.trod_struct hk h;rw[Onb hd.2]at hl;exact⟨(),⟨List.eq_nil_of_length_eq_zero hl,rfl⟩,trivial⟩
   ·cases hd
 | .slice e' t=>by
   refine⟨fun e fs off fuel cs x hd h=> ?_,fun fs off cs hd=>by simp[Jq]at hd⟩;simp only[Jq]at hd;split at hd
   ·rename_i e2 hk;simp only[Oba,Nat.blt_eq]at hd;obtain⟨⟨⟨⟨h1,h2⟩,h3⟩,h4⟩,h5⟩:=hd;have h1:=Onb h1;subst h1;have h3:=Onb h3;rcases DataW.trod_slice hk h with⟨rfl,_⟩| ⟨a,len,cap,elems,rest,n,_,rfl,_,hb,hlc,hcm,hel,hes,_,_⟩
    ·exact⟨[],⟨_,[],[],[],rfl,rfl,⟨rfl,by simp,none,0,rfl,Nat.le_refl _,by simp[maxLen],.inl ⟨rfl,rfl,rfl⟩⟩,rfl,rfl⟩,by simp[wf]⟩
    ·
     have each: ∀i,i<len-> ∃cs,w.cells? 0 (a.add (i*t.size)) t.size=some cs/\ ∃v:t.den,rd w (· <w.heap.size) 0 false t v cs []/\wf t v:=by
      intro i hi;have hy:=hes i hi;rw[h3]at hy;have:i<elems.length:=by omega
      rw[List.getElem?_eq_getElem this,Option.bind_eq_some_iff]at hy;obtain⟨cs,hcs,hx⟩:=hy;exact⟨cs,hcs,(Qdq t).1 _ _ _ _ _ _ h5 hx⟩
     have hcell: ∀i j,i<len->j<t.size-> ∃u,w.cell? (a.add (i*t.size+j))=some u:=by
      intro i j hi hj;obtain⟨cs,hcs,_⟩:=each i hi;obtain⟨_,h7,h8⟩:=World.cells?_some hcs;have:j<cs.length:=by omega
      exact⟨cs[j],by rw[<-Addr.add_add];rw[h8 j hj,List.getElem?_eq_getElem this]⟩
     let all:List Value:=(List.range (len*t.size)).map fun m=>(w.cell? (a.add m)).getD undef
     have hall:all.length=len*t.size:=by simp[all]
     have hget: ∀m u,all[m]? =some u->w.cell? (a.add m)=some u:=by
      intro m u hu;have hm:m<len*t.size:=by rw[<-hall];exact(List.getElem?_eq_some_iff.1 hu).1
      have hdm:m/t.size<len:=Nat.div_lt_of_lt_mul (by rw[Nat.mul_comm];exact hm);obtain⟨u',hu'⟩:=hcell (m/t.size) (m%t.size) hdm (Nat.mod_lt _ h4);rw[Nat.mul_comm,Nat.div_add_mod]at hu';simp only[all,List.getElem?_map,List.getElem?_range hm,Option.map_some,Osi,hu',Option.getD_some]at hu;rw[<-hu];exact hu'
     obtain⟨l,e1,e2,e3⟩:=Qud (r:=rd w (· <w.heap.size) 0 false t) (q:=wf t) hall (fun i hi=>by
      obtain⟨cs,hcs,v,hv,hw⟩:=each i hi;refine⟨v,?_,hw⟩;have: (all.drop (i*t.size)).take t.size=cs:=by
       obtain⟨_,h7,h8⟩:=World.cells?_some hcs;apply List.ext_getElem?;intro j;rw[List.getElem?_take];split
       ·rename_i hj;rw[List.getElem?_drop,<-h8 j hj,Addr.add_add];have hm:i*t.size+j<len*t.size:=by
         have: (i+1)*t.size<=len*t.size:=Nat.mul_le_mul_right _ hi;rw[Nat.add_mul]at this;omega
        obtain⟨u',hu'⟩:=hcell i j hi hj;simp[all,List.getElem?_range hm,hu']
       ·rename_i hj;rw[List.getElem?_eq_none (by omega)]
      rw[this];exact hv)
     refine⟨l,⟨_,all,[],[],rfl,rfl,⟨rfl,by rw[hall,e1],some a,cap,by rw[e1],by rw[e1];exact hlc,hcm,.inr ⟨a,rfl,?_,hget⟩⟩,e2⟩,by rw[e1];omega,e3⟩;rw[e1];rcases Nat.eq_zero_or_pos len with h0|h0
     ·exact .inl h0
     ·obtain⟨cs,hcs,_⟩:=each 0 h0;right;have:=World.cells?_block hcs h4;simpa[Addr.add_zero']using this
   ·cases hd
 | .arr n t=>by
   refine⟨fun e fs off fuel cs x hd h=> ?_,fun fs off cs hd=>by simp[Jq]at hd⟩;simp only[Jq]at hd;split at hd
   ·rename_i m e2 hk;simp only[Oba]at hd;obtain⟨⟨⟨h1,h2⟩,h3⟩,h4⟩:=hd;have h1:=Onb h1;subst h1;have h3:=Onb h3;obtain⟨xs,q,_,_,hl,hxl,hx⟩:=DataW.trod_array hk h;rw[Onb h2]at hl;obtain⟨l,e1,e2,e3⟩:=Qud (r:=rd w (· <w.heap.size) 0 false t) (q:=wf t) hl (fun i hi=>by
     have hy:=hx i hi;rw[h3,List.getElem?_eq_getElem (by omega)]at hy;exact(Qdq t).1 _ _ _ _ _ _ h4 hy)
    exact⟨l,⟨e1,e2⟩,e1,e3⟩
   ·cases hd
 | .pair a b=>by
  have fields: ∀(f:Field) (r:List Field) (off:Nat) (cs:List Value),Nat.beq f.offset off=true->Nat.beq (P.cellsOf f.type) a.size=true->Jq P a f.type [] 0 true=true->Jq P b 0 r (off+a.size) false=true->
    cs.length=off+ (a.size+b.size)->(∀(i:Nat) (g:Field),(f::r)[i]? =some g-> ∃(n:Nat) (x:DataW H×List MemPlace),DataW.trod enc P w 0 sp held n g.type ((cs.drop g.offset).take (P.cellsOf g.type))=some x)->
    ∃v: (Ty.pair a b).den,rd w (· <w.heap.size) 0 false (.pair a b) v (cs.drop off) []/\wf (.pair a b) v:=by
   intro f r off cs h1 h2 h3 h4 hl hx;obtain⟨n,x,hf⟩:=hx 0 f rfl;rw[Onb h1,Onb h2]at hf;obtain⟨va,ha,wa⟩:=(Qdq a).1 _ _ _ _ _ _ h3 hf;obtain⟨vb,hb,wb⟩:=(Qdq b).2 r (off+a.size) cs h4 (by omega) (fun i g hg=>hx (i+1) g (by simpa using hg));refine⟨(va,vb),⟨(cs.drop off).take a.size,cs.drop (off+a.size),[],[],?_,rfl,ha,hb⟩,wa,wb⟩;rw[<-List.drop_drop,List.take_append_drop]
  refine⟨fun e fs off fuel cs x hd h=> ?_,fun fs off cs hd hl hx=> ?_⟩
  ·simp only[Jq]at hd;split at hd
   ·rename_i fs' hk;split at hd
    ·rename_i f r hfr;simp only[Oba]at hd;obtain⟨⟨⟨⟨h1,h2⟩,h3⟩,h4⟩,h5⟩:=hd;obtain⟨xs,q,_,_,hl,hxl,hx⟩:=DataW.trod_struct hk h;rw[Onb h1]at hl;have:=fields f r 0 cs h2 h3 h4 (by simpa using h5) (by omega) (fun i g hg=>by
      have hg':fs'[i]? =some g:=by rw[<-Array.getElem?_toList,hfr];exact hg
      have hy:=hx i g hg';have:i<xs.length:=by rw[hxl];exact(Array.getElem?_eq_some_iff.1 hg').1
      rw[List.getElem?_eq_getElem this]at hy;exact⟨_,_,hy⟩)
     simpa using this
    ·cases hd
   ·cases hd
  ·simp only[Jq]at hd;split at hd
   ·rename_i f r;simp only[Oba]at hd;obtain⟨⟨⟨h1,h2⟩,h3⟩,h4⟩:=hd;exact fields f r off cs h1 h2 h3 h4 hl hx
   ·cases hd
end
end Go.Am
namespace Go.Am
open Go.RowKit Go.ChangeShapes Go.WideShapes Go.ChangeAt
def Zqz(P:Program):List TypeId->List Ty->Bool| [],[]=>true|e::es,T::Ts=>Jq P T e [] 0 true&&P.readableRec e&&Nat.blt e P.types.size&&Zqz P es Ts|_,_=>false
def wfA: (ts:List Ty)->Jb ts->Prop| [],_=>True|t::ts,x=>wf t x.1/\wfA ts x.2
section
variable {H:Type} {enc:TypeId×Value->H} {P:Program}
theorem Q6n{T:Ty}{e:TypeId}{fs:List Field}{off:Nat}{w:World}{r:Reach}{base:Nat}{v:Value}(hd:Jq P T e fs off true=true)(hv:Value.okWide P w r base e v):Xt T v.cells.toList=v:=by
 cases T with
 |int k=>
  simp only[Jq]at hd;split at hd
  ·rename_i hk;obtain⟨n,rfl⟩:=okWide_int hk hv;rfl
  ·cases hd
 |bool=>
  simp only[Jq]at hd;split at hd
  ·rename_i hk;obtain⟨n,rfl⟩:=okWide_bool hk hv;rfl
  ·cases hd
 |fnc f=>simp[Jq]at hd
 |err=>simp[Jq]at hd
 |hid t=>simp[Jq]at hd
 |sptr e t=>simp[Jq]at hd
 |clo f t=>simp[Jq]at hd
 |str=>
  simp only[Jq]at hd;split at hd
  ·rename_i hk;obtain⟨n,rfl⟩:=okWide_string hk hv;rfl
  ·cases hd
 |slice e' t=>
  simp only[Jq]at hd;split at hd
  ·rename_i hk;obtain⟨a,l,c,rfl⟩:=okWide_slice hk hv;rfl
  ·cases hd
 |unit=>
  simp only[Jq]at hd;split at hd
  ·rename_i hk;simp only[Value.okWide,hk]at hv;obtain⟨cs,rfl,_⟩:=hv;simp[Xt,Value.cells]
  ·cases hd
 |pair a b=>
  simp only[Jq]at hd;split at hd
  ·rename_i hk;simp only[Value.okWide,hk]at hv;obtain⟨cs,rfl,_⟩:=hv;simp[Xt,Value.cells]
  ·cases hd
 |arr n t=>
  simp only[Jq]at hd;split at hd
  ·rename_i hk;simp only[Value.okWide,hk]at hv;obtain⟨cs,rfl,_⟩:=hv;simp[Xt,Value.cells]
  ·cases hd
theorem Qrv{W:World}{base:Nat}{sp:Nat->Bool}{held:Bool}: ∀{es:List TypeId} {Ts:List Ty} {vs:List Value} {ds:List (DataW H)} {ps:List MemPlace},Zqz P es Ts=true->
  DataW.TrodAll enc P W 0 sp held es vs ds ps->(∀(j:Nat) t v,es[j]? =some t->vs[j]? =some v->Value.okWide P W .any base t v)->
  (∃xs:Jb Ts,Zps W (· <W.heap.size) 0 Ts xs vs/\wfA Ts xs)/\ds.length=es.length
 | [],[],vs,ds,ps,_,h,_=>by
  obtain⟨rfl,rfl,rfl⟩:=trodAll_nil h;exact⟨⟨(),rfl,trivial⟩,rfl⟩
 |e::es,T::Ts,vs,ds,ps,hd,h,hv=>by
  simp only[Zqz,Oba]at hd;obtain⟨v,vs',d,ds',p,q,rfl,rfl,rfl,h1,h2⟩:=trodAll_cons h;obtain⟨⟨xs,h3,h4⟩,h5⟩:=Qrv hd.2 h2 (fun j t v hj hv'=>hv (j+1) t v (by simpa using hj) (by simpa using hv'));obtain⟨fuel,hf⟩:=h1;obtain⟨x,h6,h7⟩:=(Qdq T).1 _ _ _ _ _ _ hd.1.1.1 hf;exact⟨⟨(x,xs),⟨_,vs',by rw[Q6n hd.1.1.1 (hv 0 e v rfl rfl)],h6,h3⟩,h7,h4⟩,by simp[h5]⟩
 | [],_::_,_,_,_,hd,_,_=>by simp[Zqz]at hd
 |_::_,[],_,_,_,hd,_,_=>by simp[Zqz]at hd
theorem Qq6(hl:laidOutB P=true){W W':World}{sp:Nat->Bool}(hb:Below W.heap.size W W'): ∀{es:List TypeId} {Ts:List Ty} {vs:List Value} {ds:List (DataW H)} {ps:List MemPlace},Zqz P es Ts=true->
  DataW.TrodAll enc P W 0 (fun _=>true) true es vs ds ps->(∀p∈ps,p.block<W.heap.size)->(∀p∈ps,sp p.block=true)->DataW.TrodAll enc P W' 0 sp true es vs ds ps
 | [],[],vs,ds,ps,_,h,_,_=>by
  obtain⟨rfl,rfl,rfl⟩:=trodAll_nil h;exact trodAll_mk0
 |e::es,T::Ts,vs,ds,ps,hd,h,hlt,hs=>by
  simp only[Zqz,Oba,Nat.blt_eq]at hd;obtain⟨v,vs',d,ds',p,q,rfl,rfl,rfl,h1,h2⟩:=trodAll_cons h;exact trodAll_cons_mk (WideElems.Trod_stays hl hd.1.1.2 hd.1.2 h1 (fun x hx=>hb.same (hlt x (by simp[hx]))) (fun x hx=>hs x (by simp[hx])))
   (Qq6 hl hb hd.2 h2 (fun x hx=>hlt x (by simp[hx])) (fun x hx=>hs x (by simp[hx])))
 | [],_::_,_,_,_,hd,_,_,_=>by simp[Zqz]at hd
 |_::_,[],_,_,_,hd,_,_,_=>by simp[Zqz]at hd
theorem Qtr{fid:FuncId}{args:List Ty}{F:Jb args->Option (Bool×Unit)}{f:Func}{s:ChangeSpec}{tb:TypeId}{apart fresh handsOn again:Bool}{g:Kr}(hok:Zr3 P g ⟨fid,args,[.bool],F⟩)
  (hF: ∀xs,wfA args xs->F xs=some (true,())) (hs:s.vars=[]) (hfn: ∀(H:Type) (ds:List (DataW H)),ds.length=f.params.size->s.fn H ds={results:=[.lit (.bool true)],args:=ds})
  (hl:laidOutB P=true) (hd:Zqz P f.params.toList args=true) (hres:f.resultTypes= #[tb]) (htb:P.underlying tb=some .bool)
  (W:World) (base:Nat) (as:Array Value) (ds gs:List (DataW H)) (before:List MemPlace)
  (hval: ∀(j:Nat) t v,f.params[j]? =some t->as[j]? =some v->Value.okWide P W .any base t v)
  (hgl:g.G W) (hW:DataW.Whole enc P f.params.toList s.vars apart W as.toList ds gs before):
  Calls P fid as W fun e W'=> ∃v,e= .returned v/\s.post enc P f apart fresh handsOn again W as v W':=by
 have hW':=hW;have hbl:=hW.lt;obtain⟨p,q,hA,hV,rfl,hfz,hnd⟩:=hW;rw[hs]at hV;obtain⟨rfl,rfl⟩:=trodVars_none hV;simp only[List.append_nil]at hW' hfz hnd hbl;obtain⟨⟨xs,h1,h2⟩,h3⟩:=Qrv hd hA (fun j t v hj hv=>hval j t v (by simpa using hj) (by simpa using hv));have hc:=hok.calls W xs (true,()) as.toList hgl h1 (hF xs h2);refine hc.mono fun en W' ⟨rs,S,hen,hr,_,hb⟩=> ?_;obtain⟨cs,us,S1,S2,rfl,rfl,⟨rfl,rfl⟩,rfl,rfl⟩:=hr;subst hen;refine⟨.bool true,rfl,?_⟩;have hsp:s.fn H (ds++ [])={results:=[.lit (.bool true)],args:=ds}:=by
  rw[List.append_nil];exact hfn H ds (by simpa using h3)
 have hpl: ∀x∈p,x.block<W.heap.size:=fun x hx=>hbl x hx;have hargs: ∀sp:Nat->Bool,(∀x∈p,sp x.block=true)->DataW.TrodAll enc P W' 0 sp true f.params.toList as.toList ds p:=fun sp hs=>Qq6 hl hb hd hA hpl hs;have hres': ∀(b:Nat) (sp:Nat->Bool) (hh:Bool),DataW.TrodAll enc P W' b sp hh f.resultTypes.toList ((Value.bool true).resultList f.resultTypes.size) [.lit (.bool true)] []:=fun b sp hh=>by
  rw[hres];exact trodAll_cons_mk (shut_bool htb true) trodAll_mk0
 have hargs2: ∀sp:Nat->Bool,(∀x∈p,sp x.block=true)->DataW.TrodAll enc P W' 0 sp true f.params.toList as.toList (s.fn H (ds++ [])).args p:=fun sp hs=>by rw[hsp];exact hargs sp hs
 have hres2: ∀(b:Nat) (sp:Nat->Bool) (hh:Bool),DataW.TrodAll enc P W' b sp hh f.resultTypes.toList ((Value.bool true).resultList f.resultTypes.size) (s.fn H (ds++ [])).results []:=fun b sp hh=>by rw[hsp];exact hres' b sp hh
 have hvars2: ∀sp:Nat->Bool,DataW.TrodVars enc P W' sp s.vars (s.fn H (ds++ [])).vars []:=fun sp=>by rw[hsp,hs];rfl
 refine⟨ds,[],p,[],p,[],hW',hres2 _ _ _,hargs2 _ (fun x hx=>by simpa using hpl x hx),hvars2 _,hb.frame _,fun _=> ?_⟩;refine⟨ok_one hres rfl (okWide_bool_mk htb true),_,_,([]++p)++ [],⟨[]++p,[],trodAll_append (hargs2 _ (fun _ _=>rfl)) (hres2 _ _ _),hvars2 _,rfl,?_,?_⟩,?_⟩
 ·intro b off hp;have hp':MemPlace.cell b off∈p:=by simpa using hp
  rw[hb.frozen (hpl _ hp')];exact hfz b off hp'
 ·intro ha;simpa using hnd ha
 ·intro x hx _;simpa using hx
end
end Go.Am
namespace Go.Am
open Go.RowKit
theorem Zv{n:Int}(h0: -9223372036854775808<=n)(h1:n<=9223372036854775807):IntKind.i64.wrap n=n:=IntWalk.i64_in n ⟨h0,h1⟩
theorem Zs{i m:Nat}(h:i<m)(hm:m<=9223372036854775807):IntKind.i64.wrap ((i:Int)+1)=((i+1:Nat):Int):=by
 rw[Zv (by omega) (by omega)];omega
theorem Qgk:maxLen<=9223372036854775807:=by decide
theorem Zn{α:Type}{b:Bool}{x y:α}(h:b=true): (bif b then x else y)=x:=by rw[h];rfl
theorem Zm{α:Type}{b:Bool}{x y:α}(h:b=false): (bif b then x else y)=y:=by rw[h];rfl
theorem Zj{p:Prop}[Decidable p](h:p):decide p=true:=decide_eq_true h
theorem Zk{p:Prop}[Decidable p](h: ¬p):decide p=false:=decide_eq_false h
section
variable {α:Type} {d:α}
end
end Go.Am
namespace Go.Am
open Go.RowKit
def Z4z(g:Int->Option (Int×Unit))(p:Prop):Prop:= ∀left,0<=left->left<=1048576-> ∃r,g left=some (r,())/\r<=left/\(0<=r->p)
theorem Z4z.seq{g k:Int->Option (Int×Unit)}{p q:Prop}(hg:Z4z g p)(hk:Z4z k q):
  Z4z (fun left=>Option.bind (g left) fun t=>bif decide (t.1< (0:Int))then some ((-1:Int),())else k t.1) (p/\q):=by
 intro left h0 h1;obtain⟨r,e,hl,hp⟩:=hg left h0 h1;simp only[e,Obs];by_cases h:r<0
 ·rw[Zn (Zj h)];exact⟨-1,rfl,by omega,by omega⟩
 ·rw[Zm (Zk h)];obtain⟨r2,e2,hl2,hp2⟩:=hk r (by omega) (by omega);exact⟨r2,e2,by omega,fun h2=>⟨hp (by omega),hp2 h2⟩⟩
theorem Z4z.imp{g:Int->Option (Int×Unit)}{p q:Prop}(hg:Z4z g p)(h:p->q):Z4z g q:=fun left h0 h1=>
 let⟨r,e,hl,hp⟩:=hg left h0 h1;⟨r,e,hl,fun hr=>h (hp hr)⟩
theorem Z4z.len{α:Type}(x:List α)(hx:x.length<=maxLen){k:Int->Option (Int×Unit)}{q:Prop}(hk:Z4z k q):
  Z4z (fun left=>bif decide (IntKind.i64.wrap (left- (x.length:Int))< (0:Int))then some ((-1:Int),())else k (IntKind.i64.wrap (left- (x.length:Int)))) (x.length<=1048576/\q):=by
 intro left h0 h1;have hm:=Qgk;simp only[];rw[Zv (by omega) (by omega)];by_cases h:left- (x.length:Int)<0
 ·rw[Zn (Zj h)];exact⟨-1,rfl,by omega,by omega⟩
 ·rw[Zm (Zk h)];obtain⟨r2,e2,hl2,hp2⟩:=hk (left-x.length) (by omega) (by omega);exact⟨r2,e2,by omega,fun h2=>⟨by omega,hp2 h2⟩⟩
theorem Z4z.one{α:Type}(x:List α)(hx:x.length<=maxLen):Z4z (fun left=>some (IntKind.i64.wrap (left- (x.length:Int)),())) (x.length<=1048576):=by
 intro left h0 h1;have hm:=Qgk;refine⟨_,rfl,?_,?_⟩<;>rw[Zv (by omega) (by omega)]<;>omega
theorem Z4z.loop{α:Type}{d:α}{g:α->Int->Option (Int×Unit)}{p:α->Prop}{L:Nat->List α->Int->Int->Option (Int×Unit)}
  (hL: ∀N a left i,L (N+1) a left i=bif decide (i< (a.length:Int))then Zi (0<=i/\i<a.length) (Option.bind (g (a.getD i.toNat d) left) fun t=>bif decide (t.1<0)then some (-1,())else L N a t.1 (IntKind.i64.wrap (i+1)))else some (left,()))
  {fuel:List α->Int->Int->Nat} (hf: ∀a left,a.length<fuel a left 0) {a:List α} (ha:a.length<=maxLen) (hg: ∀x∈a,Z4z (g x) (p x)):Z4z (fun left=>L (fuel a left 0) a left 0) (∀x∈a,p x):=by
 have key: ∀(rest pre:List α) (N:Nat) (left:Int),(pre++rest).length<=maxLen->(∀x∈rest,Z4z (g x) (p x))->rest.length<N->0<=left->left<=1048576->
   ∃r,L N (pre++rest) left pre.length=some (r,())/\r<=left/\(0<=r-> ∀x∈rest,p x):=by
  intro rest;have hm:=Qgk
  induction rest with
  |nil=>
   intro pre N left h1 _ h2 h3 h4;cases N with
   |zero=>omega
   |succ N=>
    rw[hL,Zm (Zk (by simp))];exact⟨left,rfl,Int.le_refl _,by simp⟩
  |cons s rest ih=>
   intro pre N left h1 hg h2 h3 h4;cases N with
   |zero=>omega
   |succ N=>
    simp only[List.length_append,List.length_cons]at h1 h2;rw[hL,Zn (Zj (by simp;omega)),Zb (by simp;omega)];have e1: (pre++s::rest).getD ((pre.length:Nat):Int).toNat d=s:=by simp[List.getD]
    rw[e1,Zs (m:=(pre++s::rest).length) (by simp) (by simp;omega)];obtain⟨r,e,hl,hp⟩:=hg s (by simp) left h3 h4;rw[e,Obs];by_cases h:r<0
    ·rw[Zn (Zj h)];exact⟨-1,rfl,by omega,by omega⟩
    ·rw[Zm (Zk h)];obtain⟨r2,e2,hl2,hp2⟩:=ih (pre++ [s]) N r (by simp;omega) (fun x hx=>hg x (by simp[hx])) (by omega) (by omega) (by omega);have e3:pre++s::rest=(pre++ [s])++rest:=by simp
     simp only[List.length_append,List.length_cons,List.length_nil,Nat.zero_add]at e2;rw[<-e3]at e2;refine⟨r2,e2,by omega,fun h2 x hx=> ?_⟩;rcases List.mem_cons.1 hx with rfl|hx
     ·exact hp (by omega)
     ·exact hp2 h2 x hx
 intro left h0 h1;exact key a [] _ left ha hg (hf a left) h0 h1
end Go.Am
namespace Go.Am
noncomputable def Zo3{ρ:Type}:Nat->Option ρ->Option ρ|0,m=>m|n+1,m=>Zwo m (Zo3 n m)
theorem Je{ρ:Type}: ∀(n:Nat) (m:Option ρ),Zo3 n m=m
 |0,_=>rfl
 |n+1,m=>by unfold Zo3;rw[Je n m,Zja]
end Go.Am
namespace Go.Am
open Go.RowKit
def Kr.vars(P:Program)(l:List (String×(Array Value->Prop))):Kr where
 G:=fun w=> ∀p∈l,∃c,w.var? P p.1=some c/\p.2 c
 GB:=fun b=> ∃p∈l,P.globalNamed p.1=some b
 lt:=fun w b h ⟨p,hp,hb⟩=>by
  obtain⟨c,this,_⟩:=h p hp;simp only[World.var?,hb,Obs]at this;split at this
  ·rename_i hg;exact(Array.getElem?_eq_some_iff.1 hg).1
  ·cases this
 stays:=fun w w' h hb p hp=>by
  obtain⟨c,this,hc⟩:=h p hp;refine⟨c,?_,hc⟩;cases hg:P.globalNamed p.1 with
  |none=>simp[World.var?,hg]at this
  |some b=>
   simp only[World.var?,hg,Obs]at this⊢;rw[hb b ⟨p,hp,hg⟩];exact this
section
variable {P:Program} {g:Kr}
theorem Qwc{w:World}{X:Nat->Prop}{B:Nat}{own:Bool}: ∀{l:List (List UInt8)} {vs:List Value} {S:List Nat},Ww (rd w X B own .str) l vs S->vs=l.map fun x=> .string ⟨⟨x⟩⟩
 | [],_,_,h=>h.1
 |x::l,_,_,⟨v1,v2,S1,S2,e,_,h1,h2⟩=>by
  have h1':v1=[.string ⟨⟨x⟩⟩]/\S1=[]:=h1;rw[e,h1'.1,Qwc h2];rfl
theorem Zr3.join{f:FuncId}{e:TypeId}{J:List (List UInt8)->List UInt8->List UInt8}{m:Nat}(he: ∀args w,(callFunc f args).run P w= .ok (.enter f args) w)
  (hnil: ∀s,J [] s=[])
  (h0: ∀(a:Option Addr) (c:Nat) (sep:ByteArray) (w:World),Calls P f #[.slice a 0 c,.string sep] w fun e w'=>e= .returned (.string ⟨#[]⟩)/\w'=w)
  (hc: ∀(bk o c:Nat) (xs:List ByteArray) (sep:ByteArray) (w:World),(∀(j:Nat) x,xs[j]? =some x->w.cell? ⟨bk,o+j,none⟩=some (.string x))->
   bk<w.heap.size->xs.length<=m->xs.length<=c->(J (xs.map (·.data.toList)) sep.data.toList).length<=m->
   Calls P f #[.slice (some ⟨bk,o,none⟩) xs.length c,.string sep] w fun e w'=>e= .returned (.string ⟨(J (xs.map (·.data.toList)) sep.data.toList).toArray⟩)/\Below w.heap.size w w'):
  Zr3 P g {f:=f,args:=[.slice e .str,.str],res:=[.str],F:=fun xs=>Zi (xs.1.length<=m/\(J xs.1 xs.2.1).length<=m) (some (J xs.1 xs.2.1,()))} where
 enters:=he
 calls:=fun w xs r vals hg hx hr=>by
  obtain⟨cs,us,rfl,h1,cs2,us2,rfl,h2,rfl⟩:=hx;obtain⟨rfl,_⟩:cs2=[.string ⟨⟨xs.2.1⟩⟩]/\_:=h2;obtain⟨v,es,S1,S2,rfl,_,h3,h4⟩:=h1;obtain⟨hp,hr⟩:=Zro.1 hr;simp only[Osi]at hr;subst hr;have hes:=Qwc h4;obtain⟨_,hlen,a,cap,rfl,hn,hcap,hcell⟩:=h3;have fin: ∀{en:Ending} {w':World},en= .returned (.string ⟨(J xs.1 xs.2.1).toArray⟩)->Below w.heap.size w w'->
    ∃rs S,en= .returned (Xu rs)/\Zeh w' w.heap.size [.str] (J xs.1 xs.2.1,()) rs S/\S.Nodup/\Below w.heap.size w w':=
   fun h5 h6=>⟨[.string ⟨(J xs.1 xs.2.1).toArray⟩],[],h5,⟨[_],[],[],[],rfl,rfl,⟨rfl,rfl⟩,rfl,rfl⟩,by simp,h6⟩
  by_cases hz:xs.1=[]
  ·have hz':xs.1.length=0:=by rw[hz];rfl
   rw[hz'];refine(h0 a cap _ w).mono fun en w' ⟨h5,h6⟩=>fin ?_ (h6▸Below.refl _ _);rw[h5,hz,hnil]
  ·have hpos:0<xs.1.length:=List.length_pos_iff.2 hz;rcases hcell with⟨_,h,_⟩| ⟨ad,rfl,hX,hcl⟩
   ·omega
   ·have hbk:ad.block<w.heap.size:=hX.resolve_left (by omega);obtain⟨x0,l0,hx0⟩: ∃x0 l0,xs.1=x0::l0:=by
     cases h:xs.1 with
     |nil=>exact absurd h hz
     |cons x0 l0=>exact⟨x0,l0,rfl⟩
    have hspot:ad.spot=none:=by
     have:=hcl 0 (.string ⟨⟨x0⟩⟩) (by rw[hes,hx0];rfl);rw[show ad.add 0=ad by simp[Addr.add]]at this;exact World.cell?_spot this
    obtain⟨b,o,spot⟩:=ad;simp only at hspot hbk;subst hspot;have hadd: ∀j,(⟨b,o,none⟩:Addr).add j=⟨b,o+j,none⟩:=fun j=>by
     unfold Addr.add;split
     ·rename_i h;subst h;rfl
     ·rfl
    have hmap: (xs.1.map fun x=>(⟨⟨x⟩⟩:ByteArray)).map (·.data.toList)=xs.1:=by simp[Function.comp_def]
    have:=hc b o cap (xs.1.map fun x=>⟨⟨x⟩⟩) ⟨⟨xs.2.1⟩⟩ w (fun j x hx=> ?_) hbk (by simpa using hp.1) (by simpa using hn) (by rw[hmap];exact hp.2)
    ·rw[hmap,List.length_map]at this;exact this.mono fun en w' ⟨h5,h6⟩=>fin h5 h6
    ·rw[<-hadd];apply hcl;rw[hes];simp only[List.getElem?_map,Option.map_eq_some_iff]at hx⊢;obtain⟨y,hy,rfl⟩:=hx;exact⟨y,hy,rfl⟩
end
end Go.Am
namespace Go.Am
open Go.RowKit Go.ChangeShapes Go.WideShapes Go.ChangeAt
section
variable {H:Type} {enc:TypeId×Value->H} {P:Program}
end
end Go.Am
namespace Go.Am
open Go.RowKit
end Go.Am
namespace Go.Am
open Go.RowKit
section
variable {P:Program} {g:Kr}
theorem Qr6{w:World}{X:Nat->Prop}{B:Nat}{own:Bool}: ∀(l:List (List UInt8)),Ww (rd w X B own .str) l (l.map fun x=> .string ⟨⟨x⟩⟩) []
 | []=>⟨rfl,rfl⟩
 |_::l=>⟨[_],_,[],[],rfl,rfl,⟨rfl,rfl⟩,Qr6 l⟩
theorem Zr3.split{f:FuncId}{m:Nat}{e:TypeId}{b:Nat}(he: ∀args w,(callFunc f args).run P w= .ok (.enter f args) w)(hm:m<4294967296)
  (hv: ∀w,g.G w-> ∃k,w.cell? ⟨b,0,Option.none⟩=some (.int .i64 k))
  (hc: ∀(s p:ByteArray) (k:Int) (w:World),s.size<m->w.cell? ⟨b,0,Option.none⟩=some (.int .i64 k)->1<=p.size->Calls P f #[.string s,.string p] w fun en w'=>
   en= .returned (.slice (some ⟨w.heap.size,0,Option.none⟩) (Lib.countB s p+1) (Lib.countB s p+1))/\w'=w.alloc (.cells ((Lib.splitB p 0 (Lib.countB s p) s).map Value.string).toArray e)):
  Zr3 P g {f:=f,args:=[.str,.str],res:=[.slice e .str],F:=fun xs=>Zi (xs.1.length<m/\1<=xs.2.1.length) (some (Lib.splitK xs.2.1 0 (Lib.count xs.1 xs.2.1) xs.1,()))} where
 enters:=he
 calls:=fun w xs r vals hg hx hr=>by
  obtain⟨cs,us,rfl,h1,cs2,us2,rfl,h2,rfl⟩:=hx;obtain⟨rfl,_⟩:cs=[.string ⟨⟨xs.1⟩⟩]/\_:=h1;obtain⟨rfl,_⟩:cs2=[.string ⟨⟨xs.2.1⟩⟩]/\_:=h2;obtain⟨hp,hr⟩:=Zro.1 hr;simp only[Osi]at hr;subst hr;obtain⟨k,hk⟩:=hv w hg;have hcnt:Lib.countB ⟨⟨xs.1⟩⟩ ⟨⟨xs.2.1⟩⟩=Lib.count xs.1 xs.2.1:=rfl;have hle:Lib.countB ⟨⟨xs.1⟩⟩ ⟨⟨xs.2.1⟩⟩<=xs.1.length:=Lib.countB_le ⟨⟨xs.2.1⟩⟩ hp.2 xs.1.length ⟨⟨xs.1⟩⟩ (Nat.le_refl _);have hdat:=Lib.splitB_data ⟨⟨xs.2.1⟩⟩ 0 (Lib.countB ⟨⟨xs.1⟩⟩ ⟨⟨xs.2.1⟩⟩) ⟨⟨xs.1⟩⟩;have hlen:=Lib.splitB_all ⟨⟨xs.2.1⟩⟩ hp.2 0 _ ⟨⟨xs.1⟩⟩ rfl;refine(hc ⟨⟨xs.1⟩⟩ ⟨⟨xs.2.1⟩⟩ k w hp.1 hk hp.2).mono fun en w' ⟨h2,h3⟩=> ?_;generalize Lib.splitB ⟨⟨xs.2.1⟩⟩ 0 (Lib.countB ⟨⟨xs.1⟩⟩ ⟨⟨xs.2.1⟩⟩) ⟨⟨xs.1⟩⟩=L at h3 hdat hlen;have hL:L.map Value.string=(Lib.splitK xs.2.1 0 (Lib.count xs.1 xs.2.1) xs.1).map fun x=> .string ⟨⟨x⟩⟩:=by
   have:Lib.splitK xs.2.1 0 (Lib.count xs.1 xs.2.1) xs.1=L.map (·.data.toList):=hdat.symm;rw[this,List.map_map];rfl
  have hKl: (Lib.splitK xs.2.1 0 (Lib.count xs.1 xs.2.1) xs.1).length=Lib.countB ⟨⟨xs.1⟩⟩ ⟨⟨xs.2.1⟩⟩+1:=by rw[<-hlen];exact(congrArg List.length hdat.symm).trans (by simp)
  have hB:Below w.heap.size w w':=h3▸(Below.refl _ w).alloc (Nat.le_refl _) _;rw[<-hKl]at h2;generalize Lib.splitK xs.2.1 0 (Lib.count xs.1 xs.2.1) xs.1=K at h2 hL hKl⊢;have hh:w'.heap[w.heap.size]? =some (.cells (L.map Value.string).toArray e (0,0)):=by rw[h3];exact Qcc w _
  refine⟨[.slice (some ⟨w.heap.size,0,Option.none⟩) K.length K.length],[w.heap.size],h2,⟨[_],[],[w.heap.size],[],rfl,rfl,?_,rfl,rfl⟩,by simp,hB⟩;refine⟨_,K.map fun x=> .string ⟨⟨x⟩⟩,[w.heap.size],[],rfl,rfl,⟨⟨by simp[Ty.size],.inr ⟨w.heap.size,K.length,(L.map Value.string).toArray,rfl,Nat.le_refl _,hh,Nat.le_refl _,?_,?_,?_⟩⟩,rfl⟩,Qr6 K⟩
  ·rw[hKl];unfold maxLen;omega
  ·rw[hL];simp[Ty.size]
  ·rw[hL,List.take_of_length_le (by simp[Ty.size])]
end
section
open Go.RowKit
variable {H:Type} {enc:TypeId×Value->H}
end
end Go.Am

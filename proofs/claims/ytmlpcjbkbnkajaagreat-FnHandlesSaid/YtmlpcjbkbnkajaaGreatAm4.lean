/- The abstract machine, part 4: what a piece of Go code does, as plain data, and that it does so. No condition. -/
import Derived.Test.YtmlpcjbkbnkajaaGreatAm3
import Derived.Laws.StructEq
import Derived.ChangeKeysEq
import Derived.Still
namespace Go.Am
open Go.RowKit
def eqL{α:Type}(f:α->α->Bool):List α->List α->Bool| [],[]=>true|x::xs,y::ys=>f x y&&eqL f xs ys|_,_=>false
def eqV: (T:Ty)->T.den->T.den->Bool| .unit,_,_=>true| .int _,x,y=>decide ((x:Int)=y)| .bool,x,y=>(x:Bool)==y| .fnc _,_,_=>false| .str,x,y=>(x:List UInt8)==y| .pair a b,x,y=>eqV a x.1 y.1&&eqV b x.2 y.2| .arr _ t,x,y=>eqL (eqV t) x y| .slice _ _,_,_=>false| .err,_,_=>false| .hid _,_,_=>false| .sptr ..,_,_=>false| .clo ..,_,_=>false
structure Ztp(P:Program)(e:TypeId)(T:Ty):Prop where
 guard: ∀(w:World) (op:BinOp) (p q:Operand) (u v:List Value),(eqGuard op e p q (Xt T u) (Xt T v)).run P w= .ok () w
 eql: ∀(w w2 w3:World) (X Y:Nat->Prop) (B:Nat) (x y:T.den) (u v:List Value),rd w2 X B false T x u []->rd w3 Y B false T y v []->(binOp .eql e (Xt T u) (Xt T v)).run P w= .ok (.bool (eqV T x y)) w
 neq: ∀(w w2 w3:World) (X Y:Nat->Prop) (B:Nat) (x y:T.den) (u v:List Value),rd w2 X B false T x u []->rd w3 Y B false T y v []->(binOp .neq e (Xt T u) (Xt T v)).run P w= .ok (.bool (!(eqV T x y))) w
structure Cfg where
 τ:Tab
 eq:TypeId->Bool
 Γ:Env
 lent:List Nat:=[]
 ΓL:Zx7:=[]
 ΓB:Zu2:=[]
 soft:Bool:=false
 ΓW:Zwn:=[]
 pt:Zk6:={}
 inl:Z4y:=[]
structure Cfg.ok(C:Cfg)(P:Program)(g:Kr):Prop where
 τ:C.τ.ok P
 eq: ∀e T,C.eq e=true->C.τ e=some T->Ztp P e T
 Γ:C.Γ.ok P g
 follows:P.follows .mixedOrders=true
 ΓL:C.ΓL.ok P g
 ΓB:C.ΓB.ok P g
 soft:g.soft=C.soft
 softG:C.soft=true-> ∃w0 L,g=Zrz w0 L
 ΓW:C.ΓW.ok P
 pt:C.pt.ok P
 inl:C.inl.ok P g
section
variable {P:Program} {g:Kr} {W0:Wz g} {w w':World} {X X':Nat->Prop} {B B' n:Nat} {own:Bool} {s:St} {F:Key->List Nat} {a:Act} {H H':List Nat} {o:Oper} {tg:Xi} {τ:Tab} {C:Cfg} {gh:Nat->Value}
def Qzb(C:Cfg)(s:St)(tg:Xi)(op:BinOp)(e:TypeId)(x y:Operand):Option Res:=
 match C.eq e,C.τ e with
 |true,some T=>match Zaa s (op1 s tg x) T,Zaa s (op1 s tg y) T with
  |some u,some v=>match op with
   | .eql=>some ⟨.val .bool (.u false) (eqV T u v),s,false,none⟩
   | .neq=>some ⟨.val .bool (.u false) (!(eqV T u v)),s,false,none⟩
   |_=>none
  |_,_=>none
 |_,_=>none
theorem Zvh(h:R n W0 w X F H s a)(ht:tg.ok W0.gh a)(hC:C.ok P g){op:BinOp}{e e2:TypeId}{x y:Operand}(ho:o.op= .binOp op e x y e2){r:Res}(hr:Qzb C s tg op e x y=some r):Zaw P C.τ W0 w X F s a o r:=by
 unfold Qzb at hr;split at hr
 ·rename_i T he hT;split at hr
  ·rename_i u v hu hv;obtain⟨us,h1,h2⟩:=Wl h ht hu;obtain⟨vs,k1,k2⟩:=Wl h ht hv;have hE:=hC.eq e T he hT;split at hr
   ·simp only[Osi]at hr;subst hr;refine Yi rfl fun _=>⟨_,fun w' _=> ?_,Zrf _⟩
    simp only[execOp,ho,h1,k1,Sem.run_bind,hE.guard,Result.andThen_ok,hE.eql w' w w _ _ _ u v us vs h2 k2,Sem.run_pure]
   ·simp only[Osi]at hr;subst hr;refine Yi rfl fun _=>⟨_,fun w' _=> ?_,Zrf _⟩
    simp only[execOp,ho,h1,k1,Sem.run_bind,hE.guard,Result.andThen_ok,hE.neq w' w w _ _ _ u v us vs h2 k2,Sem.run_pure]
   ·cases hr
  ·cases hr
 ·cases hr
def Zvm(s:St)(tg:Xi)(x:Operand):Option Res:=
 match op1 s tg x with
 | .tm k t=>match Z4b s k t with
  |some r=>match r.t with
   | .ptr _ _| .shp _ _=>some r
   | .elp q p _ _=>match s.bad q p with|false=>some r|true=>none
   |_=>none
  |none=>none
 |_=>none
theorem Zvn(h:R n W0 w X F H s a)(ht:tg.ok W0.gh a){x:Operand}(ho:o.op= .nilCheck x){r:Res}(hr:Zvm s tg x=some r):Zaw P τ W0 w X F s a o r:=by
 unfold Zvm at hr;split at hr
 ·rename_i k t hx;split at hr
  ·rename_i r' hr';obtain⟨h1,h2⟩:=Zqw h ht hx hr';have key:r'=r/\ ∃ad,a.eval x= .pointer (some ad):=by
    split at hr
    ·rename_i q p ht';rw[ht']at h2;obtain⟨_,e,T,f,y,b,S',_,_,h3⟩:=h2;exact⟨by simpa using hr,_,h3⟩
    ·rename_i T y ht';rw[ht']at h2;obtain⟨_,ad,vs,h3,_⟩:=h2;exact⟨by simpa using hr,_,h3⟩
    ·rename_i q p i z ht';rw[ht']at h2;split at hr
     ·rename_i hf;obtain⟨e,t',ad,n',cap,_,_,_,h3⟩:=h2.2 hf;exact⟨by simpa using hr,_,h3⟩
     ·cases hr
    ·cases hr
   obtain⟨rfl,ad,he⟩:=key;refine Yi h1 fun _=>⟨_,fun w' _=> ?_,h2⟩
   simp only[execOp,ho,he];rfl
  ·cases hr
 ·cases hr
def Qun(C:Cfg)(s:St)(tg:Xi)(o:Oper):Option Res:=
 match o.op with
 | .move x=>Zy3 C.τ s tg o.type x
 | .assign x=>Ztl C.τ s tg o.type x
 | .pick c x y=>Qll C.τ s tg o.type c x y
 | .alloc e=>Qlz C.τ s e
 | .box e x=>Qw4 C.τ s tg e x
 | .build e ps=>match C.τ e with
  |some (.arr _ _)=>Z1q C.τ s tg e ps
  |_=>Qmb C.τ s tg e ps
 | .buildSlice e n ps=>match C.τ e,C.soft with
  |none,false=>Qx3 C.pt s tg e n ps
  |_,_=>match Zv5 C.τ s tg e n ps with
   |some r=>some r
   |none=>Z1r C.τ s tg e n ps
 | .load e x=>match C.τ e with
  |none=>Qtu C.pt s tg e x
  |some _=>Qlk C.τ s tg e x
 | .binOp op e x y e2=>match C.τ e with
  |some (.pair _ _)|some (.arr _ _)=>Qzb C s tg op e x y
  |none=>match C.pt.isPtr e with
   |true=>Qo0 C.pt s tg op e x y
   |false=>Qw8 C.pt s tg op e x y
  |_=>Qsq C.τ s tg op e x y e2
 | .unOp op e x=>Q0e C.τ s tg op e x
 | .convert e e2 x=>Qle C.τ s tg e e2 x
 | .makeSlice e x y=>Qtw C.τ s tg e x y
 | .slice e x lo hi none=>match C.soft with
  |true=>none
  |false=>Qpf C.τ s tg e x lo hi
 | .nilCheck x=>Zvm s tg x
 | .fieldAddr e x i=>Qb7 C.τ s tg e x i
 | .indexAddr e x i=>match C.τ e with
  |none=>Qxi C.pt s tg e x i
  |some _=>Ztc C.τ s tg e x i
 | .index e x i=>Qci C.τ s tg e x i
 | .extract x i=>Z8d s x i
 | .makeFunc (.func f) ⟨[]⟩ ⟨[]⟩=>some ⟨.val (.fnc f) (.u true) (),s,false,none⟩
 | .call {callee:= .builtin .len,args:=⟨[x]⟩,argTypes:=⟨[e]⟩}=>match C.τ e with
  |none=>Qxp C.pt s tg e x
  |some _=>Qtt C.τ s tg e x
 | .call {callee:= .builtin .min,args:=⟨[x,y]⟩,argTypes:=⟨[e,_]⟩}=>Qgl s tg e C.τ x y false
 | .call {callee:= .builtin .max,args:=⟨[x,y]⟩,argTypes:=⟨[e,_]⟩}=>Qgl s tg e C.τ x y true
 | .call {callee:= .builtin .append,args:=⟨[x,y]⟩,argTypes:=⟨[e,e2]⟩}=>match Nat.beq e e2 with
  |true=>match Qe4 C.τ s tg e x y with
   |some r=>some r
   |none=>match Qsn C.τ s tg e x y with
    |some r=>some r
    |none=>Qal C.soft C.τ s tg e x y
  |false=>none
 |_=>none
theorem Qey(h:R n W0 w X F H s a)(ht:tg.ok W0.gh a)(hC:C.ok P g){r:Res}(hr:Qun C s tg o=some r):Zo2 P n W0 w X H s a o r:=by
 unfold Qun at hr;split at hr
 ·rename_i ho;exact(Zwe h ht ho hr).sound h
 ·rename_i ho;exact Qi9 h ht ho hr
 ·rename_i ho;exact(Z67 h ht ho hr).sound h
 ·rename_i ho;exact Ql0 h hC.τ ho hr
 ·rename_i ho;exact Qsr h ht ho hr
 ·rename_i ho;split at hr
  ·exact Qaq h ht hC.τ ho hr
  ·exact Qmc h ht hC.τ ho hr
 ·rename_i ho;split at hr
  ·rename_i _ hsf;exact Qt4 (hC.soft.trans hsf) h ht hC.pt ho hr
  ·split at hr
   ·rename_i hr2;cases hr;exact Z40 h ht hC.τ ho hr2
   ·exact Qar h ht hC.τ ho hr
 ·rename_i ho;split at hr
  ·exact(Qqu (τ:=C.τ) h ht hC.pt ho hr).sound h
  ·exact(Z62 h ht hC.τ ho hr).sound h
 ·rename_i ho;split at hr
  ·exact(Zvh h ht hC ho hr).sound h
  ·exact(Zvh h ht hC ho hr).sound h
  ·split at hr
   ·exact(Qo1 (τ:=C.τ) h ht hC.pt ho hr).sound h
   ·exact(Qs8 (τ:=C.τ) h ht hC.pt ho hr).sound h
  ·exact(Qao h ht hC.τ ho hr).sound h
 ·rename_i ho;exact(Qi5 h ht ho hr).sound h
 ·rename_i ho;exact(Z6s h ht hC.τ ho hr).sound h
 ·rename_i ho;exact Qqv h ht hC.τ ho hr
 ·rename_i ho;split at hr
  ·cases hr
  ·rename_i hsf;exact Qpg (hC.soft.trans hsf) h ht hC.τ ho hr
 ·rename_i ho;exact(Zvn (τ:=C.τ) h ht ho hr).sound h
 ·rename_i ho;exact(Z15 h ht hC.τ ho hr).sound h
 ·rename_i ho;split at hr
  ·exact(Qtk (τ:=C.τ) h ht hC.pt ho hr).sound h
  ·exact(Zt2 h ht hC.τ ho hr).sound h
 ·rename_i ho;exact(Z2i h ht hC.τ ho hr).sound h
 ·rename_i ho;exact Qf7 h ho hr
 ·rename_i f ho;simp only[Osi]at hr;subst hr;exact Zok h rfl fun _=>⟨_,by simp[execOp,ho,Instr.makeFunc],Quo f⟩
 ·rename_i ho;split at hr
  ·exact(Qts (τ:=C.τ) h ht hC.pt ho hr).sound h
  ·exact(Qcs h ht hC.τ ho hr).sound h
 ·rename_i ho;exact(Ztf h ht (mx:=false) ho hr).sound h
 ·rename_i ho;exact(Ztf h ht (mx:=true) ho hr).sound h
 ·rename_i e e2 ho;split at hr
  ·rename_i he;have:=Onb he;subst this;split at hr
   ·rename_i hr2;cases hr;exact Qi8 h ht hC.τ ho hr2
   ·split at hr
    ·rename_i hr2;cases hr;exact Qpw h ht hC.τ ho hr2
    ·cases hsf:C.soft with
     |false=>exact Ql1 (hC.soft.trans hsf) h ht hC.τ ho hr
     |true=>rw[hsf]at hr;simp[Qal]at hr
  ·cases hr
 ·cases hr
def Qas(s:St):Nat->Nat->Bool->Option Xi
 |0,_,_=>none
 |d+1,g,b=>match s.foul g with
  |true=>none
  |false=>match s.get (.m g)with
   | .gd g2 b2 _=>match Qas s d g2 b2 with
    |some tg=>some ((g,b)::tg)
    |none=>none
   | .val .bool _ _=>some [(g,b)]
   |_=>none
def Qpn(s:St):Xi->Prop->Option Prop
 | [],p=>some p
 | (g,b)::tg,p=>match Zaa s (op1 s tg (.tmp g)) .bool with
  |some c=>Qpn s tg (c=b->p)
  |none=>none
noncomputable def Zi{ρ:Type}(p:Prop)(m:Option ρ):Option ρ:=by
 classical exact if p then m else none
theorem Zro{ρ:Type}{p:Prop}{m:Option ρ}{r:ρ}:Zi p m=some r↔p/\m=some r:=by
 unfold Zi;split<;>simp_all
theorem Zb{ρ:Type}{p:Prop}{m:Option ρ}(h:p):Zi p m=m:=by
 unfold Zi;rw[if_pos h]
noncomputable def Qny{ρ:Type}(o:Ob)(m:Option ρ):Option ρ:=
 match o with
 |none=>m
 |some p=>Zi p m
theorem Z18{ρ:Type}{o:Ob}{m:Option ρ}{r:ρ}:Qny o m=some r↔o.ok/\m=some r:=by
 cases o with
 |none=>simp[Qny,Ob.ok]
 |some p=>exact Zro
noncomputable def Quk{ρ:Type}(s:St)(tg:Xi)(o:Ob)(m:Option ρ):Option ρ:=
 match o with
 |none=>m
 |some p=>match Qpn s tg p with
  |some q=>Zi q m
  |none=>none
def Qmm(s:St):Xi->Option (List (Bool×Bool))
 | []=>some []
 | (g,b)::tg=>match Zaa s (op1 s tg (.tmp g)) .bool,Qmm s tg with
  |some c,some r=>some ((c,b)::r)
  |_,_=>none
def Qww{α:Type}(d:α)(m:Option α):List (Bool×Bool)->Option α| []=>m| (c,true)::r=>bif c then Qww d m r else some d| (c,false)::r=>bif c then some d else Qww d m r
theorem Zu7(h:R n W0 w X F H s a): ∀{d g:Nat} {b:Bool} {tg:Xi},Qas s d g b=some tg->Qk W0.gh a (.m g)= .bool b->tg.ok W0.gh a
 |0,_,_,_,hc,_=>by cases hc
 |d+1,g,b,tg,hc,hb=>by
  simp only[Qas]at hc;split at hc
  ·cases hc
  ·rename_i hf;split at hc
   ·rename_i g2 b2 t hg;split at hc
    ·rename_i tg2 hc2;simp only[Osi]at hc;subst hc;have hs:=h.slots (.m g);rw[hg]at hs;have hf2:s.foul g2=false:=by
      cases d with
      |zero=>cases hc2
      |succ d=>
       simp only[Qas]at hc2;split at hc2
       ·cases hc2
       ·assumption
     obtain⟨_,_,h3⟩:=hs hf2;have hg2:Qk W0.gh a (.m g2)= .bool b2:=Classical.byContradiction fun hne=>by
      obtain⟨_,hu⟩:=h3 hne;rw[hb]at hu;cases hu
     intro p hp;rcases List.mem_cons.1 hp with rfl|hp
     ·exact hb
     ·exact Zu7 h hc2 hg2 p hp
    ·cases hc
   ·simp only[Osi]at hc;subst hc;intro p hp;simp only[List.mem_singleton]at hp;subst hp;exact hb
   ·cases hc
theorem Qew(h:R n W0 w X F H s a): ∀{tg:Xi} {p q:Prop},Qpn s tg p=some q->q->Xi.ok tg W0.gh a->p
 | [],p,q,hu,hq,_=>by simp only[Qpn,Osi]at hu;subst hu;exact hq
 | (g,b)::tg,p,q,hu,hq,ht=>by
  simp only[Qpn]at hu;split at hu
  ·rename_i c hc;have ht2:Xi.ok tg W0.gh a:=fun p hp=>ht p (List.mem_cons_of_mem _ hp);have h1:=Zjg h ht2 hc;have h2:=ht (g,b) (List.mem_cons_self ..);have h3:c=b:=by
    have h1':Qk W0.gh a (.m g)= .bool c:=(Yh W0 a (Zxp hc)).trans h1;rw[h2]at h1';injection h1' with e
    exact e.symm
   exact Qew h hu hq ht2 h3
  ·cases hu
theorem Qex{ρ:Type}(h:R n W0 w X F H s a){tg:Xi}{o:Ob}{m:Option ρ}{r:ρ}(hu:Quk s tg o m=some r):m=some r/\(Xi.ok tg W0.gh a->o.ok):=by
 unfold Quk at hu;split at hu
 ·exact⟨hu,fun _=>trivial⟩
 ·split at hu
  ·rename_i q' hq';rw[Zro]at hu;exact⟨hu.2,fun ht=>Qew h hq' hu.1 ht⟩
  ·cases hu
theorem Qax(h:R n W0 w X F H s a): ∀{tg:Xi} {cs:List (Bool×Bool)},Qmm s tg=some cs->Xi.ok tg W0.gh a-> ∀{α:Type} (d:α) (m:Option α),Qww d m cs=m
 | [],cs,hc,_,_,d,m=>by simp only[Qmm,Osi]at hc;subst hc;rfl
 | (g,b)::tg,cs,hc,ht,_,d,m=>by
  simp only[Qmm]at hc;split at hc
  ·rename_i c r hcr hr;simp only[Osi]at hc;subst hc;have ht2:Xi.ok tg W0.gh a:=fun p hp=>ht p (List.mem_cons_of_mem _ hp);have h1:Qk W0.gh a (.m g)= .bool c:=(Yh W0 a (Zxp hcr)).trans (Zjg h ht2 hcr);have h2:=ht (g,b) (List.mem_cons_self ..);rw[h1]at h2;injection h2 with e
   simp only at e;subst e;have ih:=Qax h hr ht2 d m;cases c<;>simp[Qww,ih]
  ·cases hc
def Qhn: (ts:List Ty)->Jb ts->Option TV| [t],r=>some ⟨t,r.1⟩|_,_=>none
theorem Qyi: ∀{ts:List Ty} {r:Jb ts} {v:TV} {rs:List Value} {S:List Nat},Qhn ts r=some v->Zeh w B ts r rs S-> ∃cs,Xu rs=Xt v.1 cs/\rd w (fun _=>False) B true v.1 v.2 cs S
 | [t],r,v,rs,S,h,hx=>by
  simp only[Qhn,Osi]at h;subst h;obtain⟨cs,us',S1,S2,rfl,rfl,g1,rfl,rfl⟩:=hx;exact⟨cs,rfl,by simpa using g1⟩
 | [],_,_,_,_,h,_=>by simp[Qhn]at h
 |_::_::_,_,_,_,_,h,_=>by simp[Qhn]at h
theorem Vh:Xi.ok [] W0.gh a:=fun p hp=>by cases hp
theorem Qra{d g:Nat}{b:Bool}{tg:Xi}(hc:Qas s d g b=some tg):s.get (.m g)≠ .junk:=by
 cases d with
 |zero=>cases hc
 |succ d=>
  simp only[Qas]at hc;split at hc
  ·cases hc
  ·split at hc
   ·rename_i hg;rw[hg];simp
   ·rename_i hg;rw[hg];simp
   ·cases hc
def Q5a: (ts:List Ty)->Jb ts| []=>()|t::ts=>(zero t,Q5a ts)
noncomputable def gdK{ρ:Type}(C:Cfg)(o:Oper)(s:St)(tg:Xi)(g:Nat)(b:Bool)(d:Nat)(k:St->Option ρ):Option ρ:=
 match o.op with
 | .call {callee:= .value fo,args:=xs,..}=>match(Qqs s tg fo).bind C.Γ.find with
  |some e=>match Znc s tg e.args xs.toList,Qmm s tg,Qhn e.res (Q5a e.res)with
   |some us,some cs,some _=>(Qww (Q5a e.res) (e.F us) cs).bind fun r=>match Qhn e.res r with
    |some v=>k (Yx s d (.gd g b (.val v.1 (.u true) v.2)))
    |none=>none
   |_,_,_=>none
  |none=>none
 |_=>match Qun C s tg o with
  |some r=>match r.moved with
   |false=>Quk s tg r.obl (k (Yx s d (.gd g b r.t)))
   |true=>none
  |none=>none
def Q2n(s:St):List Operand->Option (List Nat)
 | []=>some []
 |x::xs=>match Qr4 (op1 s [] x),Q2n s xs with
  |some q,some l=>match s.get (.m q)with
   | .box .. =>some (q::l)
   |_=>none
  |_,_=>none
theorem Qmg(h:R n W0 w X F H s a): ∀{xs:List Operand} {l:List Nat},Q2n s xs=some l->(xs.map a.eval).length=l.length/\ ∀(j:Nat) (q:Nat),l[j]? =some q-> ∃u,(xs.map a.eval)[j]? =some u/\atP s F q [] u
 | [],l,hl=>by simp only[Q2n,Osi]at hl;subst hl;exact⟨rfl,fun j q h=>by simp at h⟩
 |x::xs,l,hl=>by
  simp only[Q2n]at hl;split at hl
  ·rename_i q l' hq hl';split at hl
   ·rename_i e T f y hg;simp only[Osi]at hl;subst hl;obtain⟨h1,h2⟩:=Qmg h hl';refine⟨by simpa using h1,fun j q' hj=> ?_⟩;cases j with
    |zero=>
     simp only[List.getElem?_cons_zero,Osi]at hj;subst hj;have hs:=h.slots (.m q);rw[hg]at hs;obtain⟨b,c,S',g1,g2,_⟩:=hs;refine⟨a.eval x,by simp,e,T,f,y,b,S',hg,g2,?_⟩;rw[Zvy h hq hg,g1];have:J3 T []=0:=by cases T<;>rfl
     rw[this]
    |succ j=>simpa using h2 j q' (by simpa using hj)
   ·cases hl
  ·cases hl
noncomputable def Qpj{ρ:Type}(C:Cfg)(n:Nat)(ops:Array Oper)(o:Oper)(s:St)(k:St->Option ρ):Option ρ:=
 match o.guard with
 |none=>match o.op with
  | .store e x v=>match o.dst with
   |none=>match Qer C.τ s [] e x v with
    |some s'=>k s'
    |none=>none
   |some _=>none
  | .call {callee:= .value fo,args:=xs,..}=>match Qqs s [] fo with
   |some f=>Q2l C.Γ n s [] o.dst f xs.toList k
   |none=>match Quw s [] fo with
    |some c=>Q2k C.Γ n s [] o.dst c xs.toList k
    |none=>none
  | .makeFunc (.func f) ⟨[]⟩ ⟨c::cs⟩=>match C.inl.find f with
   |some _=>match Q2n s (c::cs),o.dst with
    |some l,some d=>match Jm s d&&Nat.blt d n with
     |true=>k (Yx s d (.cl f l))
     |false=>none
    |_,_=>none
   |none=>match C.soft,Q2m s (c::cs),o.dst with
    |false,some (U,s'),some d=>match Jm s' d&&Nat.blt d n with
     |true=>k (Yx s' d (.val (.clo f U.1) (.u false) U.2))
     |false=>none
    |_,_,_=>none
  | .move (.tmp q)=>match s.get (.m q),o.dst with
   | .tup,some d=>match Jm s d&&Nat.blt d n&&Nat.blt q 1048576 with
    |true=>k (Qi4 s q d)
    |false=>none
   |_,_=>match Zy3 C.τ s [] o.type (.tmp q),o.dst with
    |some r,some d=>match Jm r.s d&&Nat.blt d n with
     |true=>Qny r.obl (k (Yx r.s d r.t))
     |false=>none
    |_,_=>none
  |_=>match Qun C s [] o,o.dst with
   |some r,some d=>match Jm r.s d&&Nat.blt d n with
    |true=>Qny r.obl (k (Yx r.s d r.t))
    |false=>none
   |_,_=>none
 |some (j,b)=>match(ops[j]?).bind (·.dst),o.dst with
  |some g,some d=>match Qas s 8 g b,Jm s d&&Nat.blt d n&&Nat.blt g 1048576 with
   |some tg,true=>gdK C o s tg g b d k
   |_,_=>none
  |_,_=>none
structure Q5d(gh:Nat->Value)(C:Cfg)(o:Oper)(X X':Nat->Prop)(s:St)(a a':Act)(w w':World):Prop where
 more: ∀b,X b->X' b
 pres:Qx4 o.op=true->Old w w'
 kept:Qi7 gh X s a (Qla C.τ s o) w w'
 put: ∃v,a'=a.put o.dst v
theorem R.fact(h:R n W0 w X F H s a){o:Oper}{v:Value}(hold:Old w w'):Q5d W0.gh C o X X s a (a.put o.dst v) w w':=⟨fun _ h=>h,fun _=>hold,h.kept hold,⟨v,rfl⟩⟩
theorem Qi7.any{tgt:Option Nat}(h:Qi7 W0.gh X s a none w w'):Qi7 W0.gh X s a tgt w w':=fun b hb=>h b (hb.imp id fun⟨r,h1,_,h2⟩=>⟨r,h1,by simp,h2⟩)
theorem Q01{ρ:Type}(hC:C.ok P g)(h:R n W0 w X F [] s a){g d:Nat}{b:Bool}(hd:o.dst=some d)(hch:Qas s 8 g b=some tg)(hdn:Jm s d=true/\d<n){k:St->Option ρ}{r:ρ}(hs:gdK C o s tg g b d k=some r)
  {K:Act->World->Prop} {Q:Exit->Act->World->Prop} (hK: ∀w' a' X' F' s',k s'=some r->R n W0 w' X' F' [] s' a'->Q5d W0.gh C o X X' s a a' w w'->K a' w'):
  (Qk W0.gh a (.m g)= .bool b->o.wp P a w K Q)/\(Qk W0.gh a (.m g)≠ .bool b->K (a.put o.dst undef) w):=by
 have hgj:=Qra hch;have skip: ∀{t:Tm},Qk W0.gh a (.m g)≠ .bool b->k (Yx s d (.gd g b t))=some r->K (a.put o.dst undef) w:=by
  intro t hne he;rw[hd];exact hK w _ X _ _ he ((by simpa using h:R n W0 w X F ([]++ []) s a).put (S:=[]) hdn.1 hdn.2 fun _=>⟨hgj,fun hb=>absurd hb hne,fun _=>⟨rfl,rfl⟩⟩) (by rw[<-hd];exact h.fact (Old.refl w))
 unfold gdK at hs;split at hs
 ·rename_i fo xs ats ho;split at hs
  ·rename_i e he0;obtain⟨f,hf,he⟩:=Option.bind_eq_some_iff.1 he0;split at hs
   ·rename_i us cs v0 hus hcs hv0;rw[Option.bind_eq_some_iff]at hs;obtain⟨rv,hrv,hk⟩:=hs;split at hk
    ·rename_i v hv;refine⟨fun hb=> ?_,fun hb=>skip hb hk⟩;have ht:=Zu7 h hch hb;rw[Qax h hcs ht]at hrv;refine Z7g hC.Γ h ht (Zjb h ht hf) ho he hus hrv fun rs S w' hR hres hold=> ?_;obtain⟨cs,k1,k2⟩:=Qyi hv hres;rw[hd];exact hK w' _ X _ _ hk (hR.put hdn.1 hdn.2 fun _=>⟨hgj,fun _=>⟨cs,k1,by unfold rdF;exact Zcn (Nat.le_refl _) (fun _ (h:False)=>h.elim) k2⟩,fun hne=>absurd hb hne⟩) (by rw[<-hd];exact h.fact hold)
    ·cases hk
   ·cases hs
  ·cases hs
 ·split at hs
  ·rename_i r0 hv;split at hs
   ·rename_i hm;obtain⟨hk,hob⟩:=Qex h hs;refine⟨fun hb=> ?_,fun hb=>skip hb hk⟩;have ht:=Zu7 h hch hb;refine Qey h ht hC hv (hob ht) K Q fun v X' F' S w' hX hR hvt hms hold=> ?_;have hs0:=hms hm;rw[hs0]at hR hvt;rw[hd];exact hK w' _ X' _ _ hk (hR.put hdn.1 hdn.2 fun _=>⟨hgj,fun _=>hvt,fun hne=>absurd hb hne⟩) (by rw[<-hd];exact⟨hX,hold.1,hold.2.any,_,rfl⟩)
   ·cases hs
  ·cases hs
theorem Z32{ρ:Type}(hC:C.ok P g){ops:Array Oper}(h:R n W0 w X F [] s a){k:St->Option ρ}{r:ρ}(hs:Qpj C n ops o s k=some r){K:Act->World->Prop}{Q:Exit->Act->World->Prop}
  (hK: ∀w' a' X' F' s',k s'=some r->R n W0 w' X' F' [] s' a'->Q5d W0.gh C o X X' s a a' w w'->K a' w'):if Region.wanted o (yielded ops a.tmps)then o.wp P a w K Q else K (a.put o.dst undef) w:=by
 unfold Qpj at hs;split at hs
 ·rename_i hg;rw[if_pos (by simp[Region.wanted,hg])];split at hs
  ·rename_i e x v ho;split at hs
   ·rename_i hd;split at hs
    ·rename_i s' hst;exact Qpk h hC.τ ho hd hst fun w' F' hR hkept=>hK w' a X F' s' hs hR ⟨fun _ h=>h,fun hp=>(by rw[ho]at hp;cases hp),hkept,undef,by rw[hd];rfl⟩
    ·cases hs
   ·cases hs
  ·rename_i fo xs ats ho;split at hs
   ·rename_i f hf;exact Qut hC.Γ h Vh (Zjb h Vh hf) ho hs fun v w' F' s' hk hR hold=>hK w' _ X F' s' hk hR (h.fact hold)
   ·split at hs
    ·rename_i c hc;exact Qus hC.Γ h Vh hc ho hs fun v w' F' s' hk hR hold=>hK w' _ X F' s' hk hR (h.fact hold)
    ·cases hs
  ·rename_i f c cs ho;split at hs
   ·split at hs
    ·rename_i l d hcap hd;split at hs
     ·rename_i hdn;simp only[Oba,Nat.blt_eq]at hdn;obtain⟨g1,g2⟩:=Qmg h hcap;unfold Oper.wp;simp only[execOp,ho,Instr.makeFunc,Oper.upon];rw[hd];refine hK w _ X _ _ hs ((by simpa using h:R n W0 w X F ([]++ []) s a).put hdn.1 hdn.2 (t:= .cl f l) ⟨rfl,(c::cs).map a.eval,by simp,g1,g2⟩) (by rw[<-hd];exact h.fact (Old.refl w))
     ·cases hs
    ·cases hs
   ·split at hs
    ·rename_i U s' d hsf hcap hd;split at hs
     ·rename_i hdn;simp only[Oba,Nat.blt_eq]at hdn;obtain⟨X',F',g1,g2,g3⟩:=Qmf (hC.soft.trans hsf) h hcap;unfold Oper.wp;simp only[execOp,ho,Instr.makeFunc,Oper.upon];rw[hd];refine hK w _ X' _ _ hs ((by simpa using g1:R n W0 w X' F' ([]++ []) s' a).put hdn.1 hdn.2 (t:= .val (.clo f U.1) (.u false) U.2) ⟨[.func (.func f) #[] (List.map a.eval (c::cs)).toArray],by simp[Xt],by unfold rdF;exact⟨rfl,_,rfl,g3⟩⟩) (by rw[<-hd];exact⟨g2,fun _=>Old.refl w,h.kept (Old.refl w),_,rfl⟩)
     ·cases hs
    ·cases hs
  ·rename_i q ho;split at hs
   ·rename_i d hq hd;split at hs
    ·rename_i hdn;have hqb:Nat.blt q 1048576=true:=by simp only[Oba]at hdn;exact hdn.2
     simp only[Oba,Nat.blt_eq]at hdn;obtain⟨F',hF'⟩:=h.tupTo hq hdn.1.1 hdn.1.2;rw[Yh W0 a hqb]at hF';unfold Oper.wp;simp only[execOp,ho,Sem.run_pure,Oper.upon];rw[hd];exact hK w _ X F' _ hs hF' (by rw[<-hd];exact h.fact (Old.refl w))
    ·cases hs
   ·split at hs
    ·rename_i r0 d hv hd;split at hs
     ·rename_i hdn;simp only[Oba,Nat.blt_eq]at hdn;rw[Z18]at hs;refine(Zwe h Vh ho hv).sound h hs.1 K Q fun v X' F' S w' hX hR hvt _ hold=> ?_;rw[hd];exact hK w' _ X' _ _ hs.2 (hR.put hdn.1 hdn.2 hvt) (by rw[<-hd];exact⟨hX,hold.1,hold.2.any,_,rfl⟩)
     ·cases hs
    ·cases hs
  ·split at hs
   ·rename_i r0 d hv hd;split at hs
    ·rename_i hdn;simp only[Oba,Nat.blt_eq]at hdn;rw[Z18]at hs;refine Qey h Vh hC hv hs.1 K Q fun v X' F' S w' hX hR hvt _ hold=> ?_;rw[hd];exact hK w' _ X' _ _ hs.2 (hR.put hdn.1 hdn.2 hvt) (by rw[<-hd];exact⟨hX,hold.1,hold.2.any,_,rfl⟩)
    ·cases hs
   ·cases hs
 ·rename_i j b hg;split at hs
  ·rename_i g d hj hd;split at hs
   ·rename_i tg hch hdn;have hgb:Nat.blt g 1048576=true:=by simp only[Oba]at hdn;exact hdn.2
    simp only[Oba,Nat.blt_eq]at hdn;have key:=Q01 (Q:=Q) hC h hd hch hdn.1 hs hK;by_cases hb:Qk W0.gh a (.m g)= .bool b
    ·have hglt:g<a.tmps.size:=by
      have hb':a.tmps.getD g undef= .bool b:=(Yh W0 a hgb).symm.trans hb;rcases Nat.lt_or_ge g a.tmps.size with h'|h'
      ·exact h'
      ·rw[Array.getD_eq_getD_getElem?,Array.getElem?_eq_none h']at hb';cases hb'
     have hy:Region.wanted o (yielded ops a.tmps)=true:=by
      have hb':a.tmps[g]? =some (.bool b):=by
       have hb':a.tmps.getD g undef= .bool b:=(Yh W0 a hgb).symm.trans hb;rw[Array.getD_eq_getD_getElem?,Array.getElem?_eq_getElem hglt]at hb';rw[Array.getElem?_eq_getElem hglt];simpa using hb'
      simp[Region.wanted,hg,yielded,hj,hb']
     rw[if_pos hy];exact key.1 hb
    ·have hy: ¬Region.wanted o (yielded ops a.tmps)=true:=by
      intro hy;simp only[Region.wanted,hg,yielded,hj,Obs,beq_iff_eq]at hy;apply hb;split at hy
      ·rename_i c hc;simp only[Osi]at hy;subst hy;simp[Qk,Zkz,hc]
      ·cases hy
     rw[if_neg hy];exact key.2 hb
   ·cases hs
  ·cases hs
end
end Go.Am
namespace Go.Am
open Go.RowKit
def Zgz:Ty->Nat| .pair a b=>max (Zgz a+1) (Zgz b)| .arr _ t=>Zgz t+1|_=>1
def eqB(P:Program):Ty->TypeId->List Field->Nat->Bool->Bool
 | .int _,e,_,_,true=>match P.underlying e with|some (.int _)=>Zry P e (.int .i64)|_=>false
 | .bool,e,_,_,true=>match P.underlying e with|some .bool=>Zry P e .bool|_=>false
 | .str,e,_,_,true=>match P.underlying e with|some .string=>Zry P e .str|_=>false
 | .unit,e,_,_,true=>match P.underlying e with|some (.struct fs)=>fs.toList.isEmpty&& !P.stoodInHeld e&&Zry P e .unit|_=>false
 | .pair a b,e,_,_,true=>match P.underlying e with
  |some (.struct fs)=>match fs.toList with
   | f :: r => !P.stoodInHeld e && Zry P e (.pair a b) && f.name != "_" && Nat.beq f.offset 0 && eqB P a f.type [] 0 true && eqB P b 0 r a.size false
   | []=>false
  |_=>false
 | .arr n t,e,_,_,true=>match P.underlying e with
  |some (.array m e2)=>Nat.beq m n&&Zry P e (.arr n t)&&eqB P t e2 [] 0 true
  |_=>false
 | .unit,_,fs,_,false=>fs.isEmpty
 | .pair a b,_,fs,off,false=>match fs with
  | f :: r => f.name != "_" && Nat.beq f.offset off && eqB P a f.type [] 0 true && eqB P b 0 r (off + a.size) false
  | []=>false
 |_,_,_,_,_=>false
section
variable {P:Program}
theorem Qu7{T:Ty}{e:TypeId}{fs:List Field}{off:Nat}(h:eqB P T e fs off true=true): ∃i,P.info? e=some i/\i.size=T.size:=by
 have key: ∀U:Ty,U.size=T.size->Zry P e U=true-> ∃i,P.info? e=some i/\i.size=T.size:=fun U hU hs=>by
  obtain⟨i,h1,h2,_⟩:=Zln hs;exact⟨i,h1,by rw[h2,hU]⟩
 cases T<;>simp only[eqB]at h
 case int k=>split at h<;>first|exact key _ rfl h|cases h
 case bool=>split at h<;>first|exact key _ rfl h|cases h
 case str=>split at h<;>first|exact key _ rfl h|cases h
 case unit=>
  split at h
  ·simp only[Oba]at h;exact key _ rfl h.2
  ·cases h
 case pair a b=>
  split at h
  ·split at h
   ·simp only[Oba]at h;exact key _ rfl h.1.1.1.1.2
   ·cases h
  ·cases h
 case arr n t=>
  split at h
  ·simp only[Oba]at h;exact key _ rfl h.1.2
  ·cases h
 case slice=>cases h
 case fnc=>cases h
 case err=>cases h
 case hid=>cases h
 case sptr=>cases h
 case clo=>cases h
theorem Q5q{T:Ty}{e:TypeId}{fs:List Field}{off:Nat}(h:eqB P T e fs off true=true)(w:World): (Go.isAgg e).run P w= .ok T.isAgg w:=by
 cases T<;>simp only[eqB]at h
 case int k=>split at h<;>first| (rename_i hu;simp[Go.isAgg,run_underlying hu,Ty.isAgg])|cases h
 case bool=>split at h<;>first| (rename_i hu;simp[Go.isAgg,run_underlying hu,Ty.isAgg])|cases h
 case str=>split at h<;>first| (rename_i hu;simp[Go.isAgg,run_underlying hu,Ty.isAgg])|cases h
 case unit=>split at h<;>first| (rename_i hu;simp[Go.isAgg,run_underlying hu,Ty.isAgg])|cases h
 case pair a b=>split at h<;>first| (rename_i hu;simp[Go.isAgg,run_underlying hu,Ty.isAgg])|cases h
 case arr n t=>split at h<;>first| (rename_i hu;simp[Go.isAgg,run_underlying hu,Ty.isAgg])|cases h
 case slice=>cases h
 case fnc=>cases h
 case err=>cases h
 case hid=>cases h
 case sptr=>cases h
 case clo=>cases h
theorem Qw7{T:Ty}{e:TypeId}{fs:List Field}{off:Nat}(h:eqB P T e fs off true=true)(w:World): (Go.sizeOf e).run P w= .ok T.size w:=by
 obtain⟨i,hi,hs⟩:=Qu7 h;simp[Go.sizeOf,typeInfo,hi,hs]
theorem Qd3{T:Ty}{e:TypeId}{fs:List Field}{off':Nat}(h:eqB P T e fs off' true=true)(w:World){xs:Array Value}{off:Nat}{pre u post:List Value}(hx:xs.toList=pre++ (u++post))(ho:pre.length=off)(hu:u.length=T.size):
  (part e xs off).run P w= .ok (Xt T u) w:=by
 unfold part;simp only[Sem.run_bind,Q5q h w,Result.andThen_ok];cases ha:T.isAgg
 ·have h1:=Qd6 ha;rw[h1]at hu;obtain⟨v,rfl⟩:=List.length_eq_one_iff.1 hu;have:xs[off]? =some v:=by
   rw[<-Array.getElem?_toList,hx,<-ho];simp
  have hp:Xt T [v]=v:=by cases T<;>simp[Ty.isAgg]at ha<;>rfl
  simp[this,hp]
 ·simp only[if_true,Sem.run_bind,Qw7 h w,Result.andThen_ok,Sem.run_pure];have he:xs.extract off (off+T.size)=u.toArray:=by
   apply Array.toList_inj.mp;rw[Array.toList_extract,hx,<-ho,<-hu];simp
  have hp:Xt T u= .agg u.toArray:=by cases T<;>simp[Ty.isAgg]at ha<;>rfl
  rw[he,hp]
theorem Zrm{X Y:Nat->Prop}{B:Nat}{w2 w3:World}: ∀(T:Ty),
  (∀(e:TypeId) (fs:List Field) (off d:Nat) (w:World) (x y:T.den) (u v:List Value),eqB P T e fs off true=true->Zgz T<=d+1->rd w2 X B false T x u []->rd w3 Y B false T y v []->
   (Op.equalIn (d+1) e (Xt T u) (Xt T v)).run P w= .ok (eqV T x y) w)/\
  (∀(e:TypeId) (fs:List Field) (off d:Nat) (w:World) (x y:T.den) (u v pu pv:List Value),eqB P T e fs off false=true->Zgz T<=d+1->rd w2 X B false T x u []->rd w3 Y B false T y v []->pu.length=off->pv.length=off->
   (Op.eqFields d (pu++u).toArray (pv++v).toArray fs).run P w= .ok (eqV T x y) w)
 | .int k=>by
   refine⟨fun e fs off d w x y u v h _ hx hy=> ?_,fun e fs off d w x y u v pu pv h=>by simp[eqB]at h⟩;simp only[eqB]at h;split at h
   ·rename_i k' hu;rw[hx.1,hy.1];exact run_equalIn_int w d e k k' x y hu
   ·cases h
 | .bool=>by
   refine⟨fun e fs off d w x y u v h _ hx hy=> ?_,fun e fs off d w x y u v pu pv h=>by simp[eqB]at h⟩;simp only[eqB]at h;split at h
   ·rename_i hu;rw[hx.1,hy.1];exact run_equalIn_bool' w d e x y hu
   ·cases h
 | .str=>by
   refine⟨fun e fs off d w x y u v h _ hx hy=> ?_,fun e fs off d w x y u v pu pv h=>by simp[eqB]at h⟩;simp only[eqB]at h;split at h
   ·rename_i hu;rw[hx.1,hy.1];have:=run_equalIn_string w d e ⟨⟨x⟩⟩ ⟨⟨y⟩⟩ hu;rw[ByteArray.toList_eq,ByteArray.toList_eq]at this;exact this
   ·cases h
 | .unit=>by
   refine⟨fun e fs off d w x y u v h _ hx hy=> ?_,fun e fs off d w x y u v pu pv h _ hx hy _ _=> ?_⟩
   ·simp only[eqB]at h;split at h
    ·rename_i fs hu;simp only[Oba,Bool.not_eq_true']at h;have hf:P.fieldsOf e=fs:=by unfold Program.fieldsOf;rw[hu]
     rw[hx.1,hy.1];show(Op.equalIn (d+1) e (.agg #[]) (.agg #[])).run P w=_;rw[run_equalIn_struct w d e #[] #[] (by rw[hf];exact hu) h.1.2,hf];have:fs.toList=[]:=by simpa using h.1.1
     rw[this];rfl
    ·cases h
   ·have:fs=[]:=by simpa[eqB]using h
    rw[this];rfl
 | .pair a b=>by
   have fields : ∀ (f : Field) (r : List Field) (off d : Nat) (w : World) (x y : (Ty.pair a b).den) (u v pu pv : List Value), f.name ≠ "_" -> f.offset = off -> eqB P a f.type [] 0 true = true -> eqB P b 0 r (off + a.size) false = true ->
     Zgz (.pair a b)<=d+1->rd w2 X B false (.pair a b) x u []->rd w3 Y B false (.pair a b) y v []->pu.length=off->pv.length=off->
     (Op.eqFields d (pu++u).toArray (pv++v).toArray (f::r)).run P w= .ok (eqV (.pair a b) x y) w:=by
    intro f r off d w x y u v pu pv h1 h2 h3 h4 hd hx hy hpu hpv;obtain⟨u1,u2,S1,S2,rfl,hS,hu1,hu2⟩:=hx;obtain⟨v1,v2,T1,T2,rfl,hT,hv1,hv2⟩:=hy;have hS:=List.append_eq_nil_iff.1 hS.symm;have hT:=List.append_eq_nil_iff.1 hT.symm;obtain⟨rfl,rfl⟩:=hS;obtain⟨rfl,rfl⟩:=hT;simp only[Zgz]at hd;have hd1:Zgz a+1<=d+1:=Nat.le_trans (Nat.le_max_left _ _) hd;have hd2:Zgz b<=d+1:=Nat.le_trans (Nat.le_max_right _ _) hd;cases d with
    |zero=>
     have:1<=Zgz a:=by cases a<;>simp[Zgz];omega
     omega
    |succ d=>
     simp only[Op.eqFields,h1,ne_eq,not_false_eq_true,if_true,Sem.run_bind,h2];rw[Qd3 h3 w (u:=u1) (pre:=pu) (post:=u2) (by simp) hpu (Xv hu1)];simp only[Result.andThen_ok];rw[Qd3 h3 w (u:=v1) (pre:=pv) (post:=v2) (by simp) hpv (Xv hv1)];simp only[Result.andThen_ok];rw[(Zrm a).1 f.type [] 0 d w x.1 y.1 u1 v1 h3 (by omega) hu1 hv1];simp only[Result.andThen_ok];cases he:eqV a x.1 y.1
     ·simp[eqV,he]
     ·have:=(Zrm b).2 0 r (off+a.size) (d+1) w x.2 y.2 u2 v2 (pu++u1) (pv++v1) h4 hd2 hu2 hv2 (by simp[hpu,Xv hu1]) (by simp[hpv,Xv hv1]);simp only[List.append_assoc]at this;simp[eqV,he,this]
   refine⟨fun e fs off d w x y u v h hd hx hy=> ?_,fun e fs off d w x y u v pu pv h hd hx hy hpu hpv=> ?_⟩
   ·simp only[eqB]at h;split at h
    ·rename_i fs hu;split at h
     ·rename_i f r hfs;simp only[Oba,Bool.not_eq_true',bne_iff_ne,ne_eq]at h;obtain⟨⟨⟨⟨⟨h1,_⟩,h3⟩,h4⟩,h5⟩,h6⟩:=h;have hf:P.fieldsOf e=fs:=by unfold Program.fieldsOf;rw[hu]
      show(Op.equalIn (d+1) e (.agg u.toArray) (.agg v.toArray)).run P w=_;rw[run_equalIn_struct w d e u.toArray v.toArray (by rw[hf];exact hu) h1,hf,hfs];exact fields f r 0 d w x y u v [] [] h3 (Onb h4) h5 (by simpa using h6) hd hx hy rfl rfl
     ·cases h
    ·cases h
   ·simp only[eqB]at h;split at h
    ·rename_i f r;simp only[Oba,bne_iff_ne,ne_eq]at h;obtain⟨⟨⟨h3,h4⟩,h5⟩,h6⟩:=h;exact fields f r off d w x y u v pu pv h3 (Onb h4) h5 h6 hd hx hy hpu hpv
    ·cases h
 | .arr n t=>by
   refine⟨fun e fs off d w x y u v h hd hx hy=> ?_,fun e fs off d w x y u v pu pv h=>by simp[eqB]at h⟩;simp only[eqB]at h;split at h
   ·rename_i m e2 hu;simp only[Oba]at h;obtain⟨⟨h1,_⟩,h3⟩:=h;have:=Onb h1;subst this;obtain⟨i,hi,hs⟩:=Qu7 h3;have hc:P.cellsOf e2=t.size:=by simp[Program.cellsOf,hi,hs]
    show(Op.equalIn (d+1) e (.agg u.toArray) (.agg v.toArray)).run P w=_;rw[run_equalIn_array w d u.toArray v.toArray hu hi,hc];cases d with
    |zero=>
     have:1<=Zgz t:=by cases t<;>simp[Zgz];omega
     simp only[Zgz]at hd;omega
    |succ d=>
     simp only[Zgz]at hd;have key: ∀(l l':List t.den) (k:Nat) (pu pv us vs:List Value),l.length=l'.length->pu.length=k*t.size->pv.length=k*t.size->Ww (rd w2 X B false t) l us []->Ww (rd w3 Y B false t) l' vs []->
       (Op.eqItems (d+1) e2 t.size (pu++us).toArray (pv++vs).toArray (List.range' k l.length)).run P w= .ok (eqL (eqV t) l l') w:=by
      intro l
      induction l with
      |nil=>intro l' k pu pv us vs hl _ _ _ _;cases l' with
       |nil=>simp[Op.eqItems,eqL]
       |cons=>simp at hl
      |cons a l ih=>
       intro l' k pu pv us vs hl hpu hpv hus hvs;cases l' with
       |nil=>simp at hl
       |cons b l'=>
        obtain⟨u1,u2,S1,S2,rfl,hS,hu1,hu2⟩:=hus;obtain⟨v1,v2,T1,T2,rfl,hT,hv1,hv2⟩:=hvs;obtain⟨rfl,rfl⟩:=List.append_eq_nil_iff.1 hS.symm;obtain⟨rfl,rfl⟩:=List.append_eq_nil_iff.1 hT.symm;simp only[List.length_cons,List.range'_succ,Op.eqItems,Sem.run_bind];rw[Qd3 h3 w (u:=u1) (pre:=pu) (post:=u2) (by simp) hpu (Xv hu1)];simp only[Result.andThen_ok];rw[Qd3 h3 w (u:=v1) (pre:=pv) (post:=v2) (by simp) hpv (Xv hv1)];simp only[Result.andThen_ok];rw[(Zrm t).1 e2 [] 0 d w a b u1 v1 h3 (by omega) hu1 hv1];simp only[Result.andThen_ok];cases he:eqV t a b
        ·simp[eqL,he]
        ·have:=ih l' (k+1) (pu++u1) (pv++v1) u2 v2 (by simpa using hl) (by rw[List.length_append,hpu,Xv hu1,Nat.add_mul];omega) (by rw[List.length_append,hpv,Xv hv1,Nat.add_mul];omega) hu2 hv2;simp only[List.append_assoc]at this;simp[eqL,he,this]
     have:=key x y 0 [] [] u v (by rw[hx.1,hy.1]) (by simp) (by simp) hx.2 hy.2;rw[hx.1]at this;rw[List.range_eq_range'];exact this
   ·cases h
 | .slice _ _=>⟨fun e fs off d w x y u v h=>by simp[eqB]at h,fun e fs off d w x y u v pu pv h=>by simp[eqB]at h⟩
 | .fnc _=>⟨fun e fs off d w x y u v h=>by simp[eqB]at h,fun e fs off d w x y u v pu pv h=>by simp[eqB]at h⟩
 | .err=>⟨fun e fs off d w x y u v h=>by simp[eqB]at h,fun e fs off d w x y u v pu pv h=>by simp[eqB]at h⟩
 | .hid _=>⟨fun e fs off d w x y u v h=>by simp[eqB]at h,fun e fs off d w x y u v pu pv h=>by simp[eqB]at h⟩
 | .sptr .. =>⟨fun e fs off d w x y u v h=>by simp[eqB]at h,fun e fs off d w x y u v pu pv h=>by simp[eqB]at h⟩
 | .clo .. =>⟨fun e fs off d w x y u v h=>by simp[eqB]at h,fun e fs off d w x y u v pu pv h=>by simp[eqB]at h⟩
theorem Ztp.of{e:TypeId}{T:Ty}(h1:eqB P T e [] 0 true=true)(h2:P.eqGuardType P.depth e=false)(h3:T.isAgg=true)(h4:Zgz T<=10000):Ztp P e T:=by
 have hp: ∀u:List Value,Xt T u= .agg u.toArray:=fun u=>by cases T<;>simp[Ty.isAgg]at h3<;>rfl
 refine⟨fun w op p q u v=> ?_,fun w w2 w3 X Y B x y u v hx hy=> ?_,fun w w2 w3 X Y B x y u v hx hy=> ?_⟩
 ·rw[hp,hp];exact run_eqGuard_agg w op e p q _ _ h2
 ·have:=(Zrm (P:=P) (X:=X) (Y:=Y) (B:=B) (w2:=w2) (w3:=w3) T).1 e [] 0 9999 w x y u v h1 (by omega) hx hy;rw[hp,hp]at this⊢;rw[run_eql_struct,this];rfl
 ·have:=(Zrm (P:=P) (X:=X) (Y:=Y) (B:=B) (w2:=w2) (w3:=w3) T).1 e [] 0 9999 w x y u v h1 (by omega) hx hy;rw[hp,hp]at this⊢;rw[run_neq_struct,this];rfl
end
end Go.Am
namespace Go.Am
open Go.RowKit
inductive KT(s s':St):Tm->Tm->Prop where
 |junk (t):KT s s' t .junk
 |tup:KT s s' .tup .tup
 |val {T f g x}: (f=g\/Wh T f g=true)->KT s s' (.val T f x) (.val T g x)
 |box {e T f g x}: (f=g\/Wh T f g=true)->KT s s' (.box e T f x) (.box e T g x)
 |shp {T x}:KT s s' (.shp T x) (.shp T x)
 |ptr {r p}: (∃e T f x,s'.get (.m r)= .box e T f x)->KT s s' (.ptr r p) (.ptr r p)
 |aep {r p i}: (∃e T f x,s'.get (.m r)= .box e T f x)->KT s s' (.aep r p i) (.aep r p i)
 |pls {h l}: (∀q∈l,∃e T f x,s'.get (.m q.1)= .box e T f x)->KT s s' (.pls h l) (.pls h l)
 |bor {r p}:s.bad r p=false->s'.get (.m r)≠ .junk->KT s s' (.bor r p) (.bor r p)
 |elp {r p i q}:s.bad r p=false->s'.get (.m r)≠ .junk->KT s s' (.elp r p i q) (.elp r p i q)
 |bel {r p i q}:s.bad r p=false->s.foul (Zj2 r)=false->s'.get (.m r)≠ .junk->KT s s' (.bel r p i q) (.bel r p i q)
 |cl {f l}: (∀q∈l,∃e T f x,s'.get (.m q)= .box e T f x)->KT s s' (.cl f l) (.cl f l)
section
variable {P:Program} {g:Kr} {W0:Wz g} {w w':World} {X X':Nat->Prop} {B B' n:Nat} {own:Bool} {s s':St} {F:Key->List Nat} {a:Act} {H H':List Nat} {o:Oper} {tg:Xi} {τ:Tab} {C:Cfg} {gh:Nat->Value}
theorem R.weak(h:R n W0 w X F H s a)(hk: ∀k,KT s s' (s.get k) (s'.get k))(hc: ∀d i,s'.get (.c d i)≠ .junk->s'.get (.m d)= .tup)
  (hl: ∀p,p∈W0.fix->p.1∈s'.lent): ∃F',R n W0 w X F' H s' a:=by
 classical
 let F':Key->List Nat:=fun k=>if s'.get k= .junk then[]else F k
 have hF': ∀k b,b∈F' k->b∈F k:=fun k b hb=>by simp only[F']at hb;split at hb<;>simp_all
 have hFe: ∀{k},s'.get k≠ .junk->F' k=F k:=fun hk=>by simp[F',hk]
 have hva: ∀{r p v U},s'.get (.m r)≠ .junk->Xb W0.gh w s F a r p v U->Xb W0.gh w s' F' a r p v U:=by
  intro r p v U hne hv;have hkr:=hk (.m r);unfold Xb at hv⊢;split at hv
  ·rename_i T f x hg;rw[hg]at hkr;generalize ht:s'.get (.m r)=t at hkr hne;cases hkr with
   |junk=>exact absurd rfl hne
   |val hs=>exact hv
  ·rename_i e T f x hg;rw[hg]at hkr;have:=hFe hne;generalize ht:s'.get (.m r)=t at hkr hne;cases hkr with
   |junk=>exact absurd rfl hne
   |box hs=>
    obtain⟨b,c,S,y,h1,h2⟩:=hv;exact⟨b,c,S,y,by rw[this];exact h1,h2⟩
  ·exact hv.elim
 refine⟨F',{h with fix:=fun p hp=>⟨hl p hp,(h.fix p hp).2⟩,own:=fun k b hb=>h.own k b (hF' k b hb),nodup:=fun k=> ?_,disj:=fun k k' b hb hb'=>h.disj k k' b (hF' k b hb) (hF' k' b hb'),hdisj:=fun k b hb=>h.hdisj k b (hF' k b hb),comps:=fun d i hne=> ?_,slots:=fun k=> ?_}⟩
 ·simp only[F'];split
  ·simp
  ·exact h.nodup k
 ·refine⟨hc d i hne,(h.comps d i fun he=> ?_).2⟩;have:=hk (.c d i);rw[he]at this;generalize ht:s'.get (.c d i)=t at this hne;cases this;exact hne rfl
 ·have hs:=h.slots k;have hkk:=hk k;by_cases hne:s'.get k= .junk
  ·rw[hne];simp only[F',hne,if_true];rfl
  ·rw[hFe hne];generalize ht':s'.get k=t' at hkk hne;generalize ht:s.get k=t at hkk hs;cases hkk with
   |junk=>exact absurd rfl hne
   |tup=>exact hs
   |val hsub=>obtain⟨vs,h1,h2⟩:=hs;exact⟨vs,h1,Qv5 hsub h2⟩
   |box hsub=>obtain⟨b,c,S',h1,h2,h3,h4⟩:=hs;exact⟨b,c,S',h1,h2,h3,Qv5 hsub h4⟩
   |shp=>exact hs
   | @ptr r p hr=>
    obtain⟨e',T',g',x',hr⟩:=hr;obtain⟨h0,e,T,f,x,b,S',h1,h2,h3⟩:=hs;have hkr:=hk (.m r);rw[h1,hr]at hkr;have:=hFe (k:= .m r) (by rw[hr];simp);cases hkr with
    |box hsub=>exact⟨h0,_,_,_,_,b,S',hr,by rw[this];exact h2,h3⟩
   | @aep r p i hr=>
    obtain⟨e',T',g',x',hr⟩:=hr;obtain⟨h0,e,T,f,x,b,S',nn,t2,y,h1,h2,h3⟩:=hs;have hkr:=hk (.m r);rw[h1,hr]at hkr;have:=hFe (k:= .m r) (by rw[hr];simp);cases hkr with
    |box hsub=>exact⟨h0,_,_,_,_,b,S',nn,t2,y,hr,by rw[this];exact h2,h3⟩
   | @pls hh l hr=>
    obtain⟨h0,ad,us,h1,h2,h3,h4,h5⟩:=hs;refine⟨h0,ad,us,h1,h2,h3,fun j q hq=> ?_,h5⟩;obtain⟨u,hu,e,T,f,x,b,S',g1,g2,g3⟩:=h4 j q hq;obtain⟨e',T',g',x',hr⟩:=hr q (List.mem_of_getElem? hq);have hkr:=hk (.m q.1);rw[g1,hr]at hkr;have:=hFe (k:= .m q.1) (by rw[hr];simp);cases hkr with
    |box hsub=>exact⟨u,hu,_,_,_,_,b,S',hr,by rw[this];exact g2,g3⟩
   |bor hf hr=>
    obtain⟨h0,h1⟩:=hs;obtain⟨U,h1⟩:=h1 hf;exact⟨h0,fun _=>⟨U,hva hr h1⟩⟩
   |elp hf hr=>
    obtain⟨h0,h1⟩:=hs;obtain⟨e,t,ad,m,cap,h1,h2⟩:=h1 hf;exact⟨h0,fun _=>⟨e,t,ad,m,cap,hva hr h1,h2⟩⟩
   |bel hf he hr=>
    obtain⟨h0,h1⟩:=hs;obtain⟨e,t,ad,m,cap,x0,y,cs,h1,k1,k2,k3,h2⟩:=h1 hf he;exact⟨h0,fun _ _=>⟨e,t,ad,m,cap,x0,y,cs,hva hr h1,k1,k2,by rw[hFe hr];exact k3,h2⟩⟩
   | @cl f l hr=>
    obtain⟨h0,us,h1,h2,h3⟩:=hs;refine⟨h0,us,h1,h2,fun j q hq=> ?_⟩;obtain⟨u,hu,e,T,f,x,b,S',g1,g2,g3⟩:=h3 j q hq;obtain⟨e',T',g',x',hr⟩:=hr q (List.mem_of_getElem? hq);have hkr:=hk (.m q);rw[g1,hr]at hkr;have:=hFe (k:= .m q) (by rw[hr];simp);cases hkr with
    |box hsub=>exact⟨u,hu,_,_,_,_,b,S',hr,by rw[this];exact g2,g3⟩
def Z1u(s:St):Tm->Tm
 | .bor r p=>match s.bad r p with|true=> .junk|false=> .bor r p
 | .elp r p i q=>match s.bad r p with|true=> .junk|false=> .elp r p i q
 | .bel r p i q=>match s.bad r p||s.foul (Zj2 r)with|true=> .junk|false=> .bel r p i q
 | .gd _ _ _=> .junk
 |t=>t
def Qst(s:St):List (Key×Tm)->List (Key×Tm)| []=>[]| (k,t)::r=>(k,Z1u s t)::Qst s r
def Qih(s:St):St:={env:=Qst s s.env,dirty:=[],lent:=s.lent}
theorem Qmh(s:St)(k:Key): ∀l,Ze8 (Qst s l) k=Z1u s (Ze8 l k)
 | []=>rfl
 | (j,t)::r=>by
  simp only[Qst,Z1,Qmh s k r];split<;>rfl
theorem R.clean(h:R n W0 w X F H s a): ∃F',R n W0 w X F' H (Qih s) a:=by
 have hg: ∀k,(Go.Am.Qih s).get k=Z1u s (s.get k):=fun k=>Qmh s k s.env;have hroot: ∀{r p v U},Xb W0.gh w s F a r p v U->(Go.Am.Qih s).get (.m r)≠ .junk:=by
  intro r p v U hv;rw[hg];unfold Xb at hv;split at hv
  ·rename_i hr;rw[hr];simp[Z1u]
  ·rename_i hr;rw[hr];simp[Z1u]
  ·exact hv.elim
 refine h.weak (fun k=> ?_) (fun d i hne=> ?_) (fun p hp=>(h.fix p hp).1)
 ·rw[hg];have hs:=h.slots k;cases ht:s.get k with
  |junk=>exact .junk _
  |tup=>exact .tup
  |val=>exact .val (.inl rfl)
  |box=>exact .box (.inl rfl)
  |shp=>exact .shp
  |ptr r p=>
   rw[ht]at hs;obtain⟨h0,e,T,f,x,b,S',h1,h2,h3⟩:=hs;exact .ptr ⟨e,T,f,x,by rw[hg,h1];rfl⟩
  |aep r p i=>
   rw[ht]at hs;obtain⟨h0,e,T,f,x,b,S',n,t2,y,h1,h2,h3⟩:=hs;exact .aep ⟨e,T,f,x,by rw[hg,h1];rfl⟩
  |pls hh l=>
   rw[ht]at hs;obtain⟨h0,ad,us,h1,h2,h3,h4,h5⟩:=hs;refine .pls fun q hq=> ?_;obtain⟨j,hj⟩:=List.getElem?_of_mem hq;obtain⟨u,hu,e,T,f,x,b,S',g1,g2,g3⟩:=h4 j q hj;exact⟨e,T,f,x,by rw[hg,g1];rfl⟩
  |bor r p=>
   rw[ht]at hs;simp only[Z1u];split
   ·exact .junk _
   ·rename_i hf;obtain⟨U,h1⟩:=hs.2 hf;exact .bor hf (hroot h1)
  |elp r p i q=>
   rw[ht]at hs;simp only[Z1u];split
   ·exact .junk _
   ·rename_i hf;obtain⟨_,_,_,_,_,h1,_⟩:=hs.2 hf;exact .elp hf (hroot h1)
  |bel r p i q=>
   rw[ht]at hs;simp only[Z1u];split
   ·exact .junk _
   ·rename_i hf;simp only[Bool.or_eq_false_iff]at hf;obtain⟨_,_,_,_,_,_,_,_,h1,_⟩:=hs.2 hf.1 hf.2;exact .bel hf.1 hf.2 (hroot h1)
  |cl f l=>
   rw[ht]at hs;obtain⟨h0,us,h1,h2,h3⟩:=hs;refine .cl fun q hq=> ?_;obtain⟨j,hj⟩:=List.getElem?_of_mem hq;obtain⟨u,hu,e,T,f,x,b,S',g1,g2,g3⟩:=h3 j q hj;exact⟨e,T,f,x,by rw[hg,g1];rfl⟩
  |gd=>exact .junk _
 ·rw[hg]at hne⊢;have:=(h.comps d i fun he=>by rw[he]at hne;exact hne rfl).1;rw[this];rfl
theorem Ql7(h:R n W0 w X F H s a)(ht:tg.ok W0.gh a){x:Operand}(ho:o.op= .assign x){r:Res}(hr:Ztl τ s tg o.type x=some r)(hm:r.moved=false):Zaw P τ W0 w X F s a o r:=by
 unfold Ztl at hr;have take: ∀{k t u},op1 s tg x= .tm k t->Qeu s (.tm k t)=some u->u.moved=false->Zaw P τ W0 w X F s a o ⟨.val u.T u.f u.x,u.s,u.moved,none⟩:=by
  intro k t u hx hu hm;rw[<-hx]at hu;obtain⟨F',S,vs,h1,h2,h3,h4,_⟩:=Zv2 h ht hu;obtain⟨e1,e2,e3⟩:=h4 hm;subst e3;exact Yi e1 fun _=>⟨_,fun w' _=>by simp[execOp,ho],vs,h1,h2⟩
 split at hr
 ·rename_i v hv;obtain rfl:=Zvu hv;obtain⟨h1,h2⟩:=Zyd (w:=w) (X:=X) (B:=W0.B) (s:=s) (F:=F) (a:=a) hr;exact Yi h1 fun _=>⟨_,fun w' _=>by simp[execOp,ho,Act.eval],h2⟩
 ·rename_i f hv;obtain rfl:=Qt2 hv;simp only[Osi]at hr;subst hr;exact Yi rfl fun _=>⟨_,fun w' _=>by simp[execOp,ho,Act.eval],Quo f⟩
 ·rename_i k t hx;split at hr
  ·split at hr
   ·rename_i u hu;simp only[Osi]at hr;subst hr;exact take hx hu hm
   ·cases hr
  ·split at hr
   ·rename_i u hu;simp only[Osi]at hr;subst hr;exact take hx hu hm
   ·cases hr
  ·obtain⟨h1,h2⟩:=Zqw h ht hx hr;exact Yi h1 fun _=>⟨_,fun w' _=>by simp[execOp,ho],h2⟩
 ·cases hr
def Qlm(C:Cfg)(s:St)(tg:Xi)(o:Oper):Option Res:=
 match o.op with
 | .move x=>Zy3 C.τ s tg o.type x
 | .assign x=>match Ztl C.τ s tg o.type x with
  |some r=>match r.moved with|false=>some r|true=>none
  |none=>none
 | .pick c x y=>Qll C.τ s tg o.type c x y
 | .load e x=>Qlk C.τ s tg e x
 | .binOp op e x y e2=>match C.τ e with
  |some (.pair _ _)|some (.arr _ _)=>Qzb C s tg op e x y
  |_=>Qsq C.τ s tg op e x y e2
 | .unOp op e x=>Q0e C.τ s tg op e x
 | .convert e e2 x=>Qle C.τ s tg e e2 x
 | .nilCheck x=>Zvm s tg x
 | .fieldAddr e x i=>Qb7 C.τ s tg e x i
 | .indexAddr e x i=>Ztc C.τ s tg e x i
 | .index e x i=>Qci C.τ s tg e x i
 | .call {callee:= .builtin .len,args:=⟨[x]⟩,argTypes:=⟨[e]⟩}=>Qtt C.τ s tg e x
 | .call {callee:= .builtin .min,args:=⟨[x,y]⟩,argTypes:=⟨[e,_]⟩}=>Qgl s tg e C.τ x y false
 | .call {callee:= .builtin .max,args:=⟨[x,y]⟩,argTypes:=⟨[e,_]⟩}=>Qgl s tg e C.τ x y true
 |_=>none
theorem Z68(h:R n W0 w X F H s a)(ht:tg.ok W0.gh a)(hC:C.ok P g){r:Res}(hr:Qlm C s tg o=some r):Zaw P C.τ W0 w X F s a o r:=by
 unfold Qlm at hr;split at hr
 ·rename_i ho;exact Zwe h ht ho hr
 ·rename_i ho;split at hr
  ·rename_i r0 hr0;split at hr
   ·rename_i hm;simp only[Osi]at hr;subst hr;exact Ql7 h ht ho hr0 hm
   ·cases hr
  ·cases hr
 ·rename_i ho;exact Z67 h ht ho hr
 ·rename_i ho;exact Z62 h ht hC.τ ho hr
 ·rename_i ho;split at hr
  ·exact Zvh h ht hC ho hr
  ·exact Zvh h ht hC ho hr
  ·exact Qao h ht hC.τ ho hr
 ·rename_i ho;exact Qi5 h ht ho hr
 ·rename_i ho;exact Z6s h ht hC.τ ho hr
 ·rename_i ho;exact Zvn h ht ho hr
 ·rename_i ho;exact Z15 h ht hC.τ ho hr
 ·rename_i ho;exact Zt2 h ht hC.τ ho hr
 ·rename_i ho;exact Z2i h ht hC.τ ho hr
 ·rename_i ho;exact Qcs h ht hC.τ ho hr
 ·rename_i ho;exact Ztf h ht (mx:=false) ho hr
 ·rename_i ho;exact Ztf h ht (mx:=true) ho hr
 ·cases hr
noncomputable def Qyl{ρ:Type}(C:Cfg)(n:Nat)(ops:Array Oper)(o:Oper)(s:St)(k:St->Option ρ):Option ρ:=
 match o.guard with
 |none=>match Qlm C s [] o,o.dst with
  |some r,some d=>match Jm s d&&Nat.blt d n with
   |true=>Qny r.obl (k (Yx s d r.t))
   |false=>none
  |_,_=>none
 |some (j,b)=>match(ops[j]?).bind (·.dst),o.dst with
  |some g,some d=>match Qas s 8 g b,Jm s d&&Nat.blt d n&&Nat.blt g 1048576 with
   |some tg,true=>match Qlm C s tg o with
    |some r=>Quk s tg r.obl (k (Yx s d (.gd g b r.t)))
    |none=>none
   |_,_=>none
  |_,_=>none
end
end Go.Am
namespace Go.Am
open Go.RowKit
section
variable {P:Program} {ops:Array Oper} {gh:Nat->Value}
def QF:Exit->Act->World->Prop:=fun _ _ _=>False
theorem Xby{o:Oper}{a:Act}{w:World}{K:Act->World->Prop}{Q:Exit->Act->World->Prop}(h:o.wp P a w K QF):o.wp P a w K Q:=by
 unfold Oper.wp at*
 generalize (execOp a.eval o).run P w=r at*
 cases r with
 |ok n w'=>
  cases n<;>simp only[Oper.upon]at h⊢ <;>first
   |exact h
   | (
    refine Calls.mono h fun e w'' he=> ?_;cases e with
    |returned v=>exact he
    |panicked c=>exact he.elim
    |outgrown=>obtain⟨_,_,h⟩:=he;exact h.elim)
 |halt x w'=>cases x<;>simp only[Oper.upon]at h⊢ <;>exact h.elim
def Zkt(P:Program)(ops:Array Oper)(I:World->Prop)(o:Oper)(v:Value)(a:Act):Prop:=(Region.wanted o (yielded ops a.tmps)=true/\ ∀w,I w->(execOp a.eval o).run P w= .ok (.value v) w)\/ (Region.wanted o (yielded ops a.tmps)=false/\v=undef)
theorem Zkt.same{I:World->Prop}{o:Oper}{v:Value}{a a':Act}(hy:Zkt P ops I o v a)(he:execOp a'.eval o=execOp a.eval o)
  (hw:Region.wanted o (yielded ops a'.tmps)=Region.wanted o (yielded ops a.tmps)):Zkt P ops I o v a':=by
 unfold Zkt at*
 rw[he,hw];exact hy
theorem Zkt.go{I:World->Prop}{o:Oper}{v:Value}{a:Act}{w:World}{i:Nat}(hi:ops[i]? =some o)(hy:Zkt P ops I o v a)(hI:I w){K:Act->World->Prop}(h:K (a.put o.dst v) w):
  wpOp P ops QF i K a w:=by
 unfold wpOp;simp only[hi];rcases hy with⟨hw,hv⟩| ⟨hw,rfl⟩
 ·simp only[hw,if_true,Oper.wp,hv w hI,Oper.upon];exact .inl h
 ·simp only[hw,Bool.false_eq_true,if_false];exact h
theorem Qvp{I:World->Prop}{j:Nat}{oi oj:Oper}{v:Value}(hj:ops[j]? =some oj)(hap:oi.apart ops oj=true)(hsi: ∀cs b,oi.op≠ .select cs b)(hsj: ∀cs b,oj.op≠ .select cs b)
  {K:Act->World->Prop} {a:Act} {w:World} (hy:Zkt P ops I oi v a) (h:wpOp P ops QF j K (a.put oi.dst v) w):
  wpOp P ops QF j (fun a' w'=>Zkt P ops I oi v a'/\K (a'.put oi.dst v) w') a w:=by
 obtain⟨h1,h2,h3⟩:=Oper.apart_spec hap;have keep: ∀a:Act,Zkt P ops I oi v a-> ∀u,Zkt P ops I oi v (a.put oj.dst u):=fun a hy u=>hy.same (execOp_put oi hsi a oj.dst u h3) (wanted_put oi a oj.dst u h3);unfold wpOp at*
 simp only[hj]at*
 rw[wanted_put oj a oi.dst v h1]at h;split
 ·rename_i hw;simp only[hw,if_true]at h;rcases h with h| ⟨_,_,_,h⟩
  ·refine .inl ?_;unfold Oper.wp at*
   rw[execOp_put oj hsj a oi.dst v h1]at h;generalize (execOp a.eval oj).run P w=r at*
   cases r with
   |ok n w'=>
    cases n<;>simp only[Oper.upon]at h⊢
    case value u=>exact⟨keep a hy u,by rw[<-Act.put_comm a v u h2];exact h⟩
    case skip=>exact⟨keep a hy _,by rw[<-Act.put_comm a v undef h2];exact h⟩
    case defer d=>
     refine⟨keep {a with defers:=d::a.defers} (hy.same rfl rfl) _,?_⟩;rw[<-Act.put_comm _ v undef h2,<-Act.put_defers];exact h
    case enter f args=>
     refine Calls.mono h fun e w'' he=> ?_;cases e with
     |returned u=>exact⟨keep a hy u,by rw[<-Act.put_comm a v u h2];exact he⟩
     |panicked c=>exact he.elim
     |outgrown=>exact he
    case row row args=>exact Rows.mono h fun u w'' he=>⟨keep a hy u,by rw[<-Act.put_comm a v u h2];exact he⟩
   |halt x w'=>cases x<;>simp only[Oper.upon]at h⊢ <;>exact h.elim
  ·exact h.elim
 ·rename_i hw;simp only[hw]at h;exact⟨keep a hy _,by rw[<-Act.put_comm a v undef h2];exact h⟩
def Q9d(C:Cfg):Op->Bool
 | .call {callee:= .value fo,..}=>match fo with
  | .func f=>match C.ΓB.find f with|some _=>false|none=>true
  |_=>match C.ΓB with| []=>true|_::_=>false
 |_=>true
def Qoz(C:Cfg)(op:Op):Bool:=Qx4 op&&Q9d C op
def Z9o(C:Cfg)(ops:Array Oper)(i:Nat):Bool:=match ops[i]? with|some o=>Qoz C o.op|none=>true
def Q8h(gh:Nat->Value)(bx:List Nat)(Sh:Nat->Prop)(a:Act)(w w':World):Prop:= ∀b,(Sh b\/ ∃r∈bx,Qk gh a (.m r)= .pointer (some ⟨b,0,none⟩))->w'.heap[b]? =w.heap[b]?
structure Qe1(gh:Nat->Value)(pr:Nat->Bool)(bx:Nat->List Nat)(Sh:Nat->Prop)(i:Nat)(a:Act)(w w':World):Prop where
 pres:pr i=true->Old w w'
 hold:Q8h gh (bx i) Sh a w w'
def Q5e(gh:Nat->Value)(ops:Array Oper)(i:Nat)(a a':Act):Prop:= ∀k,(ops[i]?).bind (·.dst)≠some k->Qk gh a' (.m k)=Qk gh a (.m k)
theorem Qph{a:Act}{d:Option Nat}{v:Value}{k:Nat}(h:d≠some k):Qk gh (a.put d v) (.m k)=Qk gh a (.m k):=by
 cases d with
 |none=>rfl
 |some d=>exact Zb0 (by simpa[Key.t]using fun e=>h (by rw[e]))
theorem Q11{K:Act->World->Prop}{i:Nat}{a:Act}{w:World}(h:wpOp P ops QF i K a w):wpOp P ops QF i (fun a' w'=>Q5e gh ops i a a'/\K a' w') a w:=by
 unfold wpOp at*
 split
 ·rename_i ho;simp only[ho]at h;exact⟨fun _ _=>rfl,h⟩
 ·rename_i o ho;have puts: ∀v,Q5e gh ops i a (a.put o.dst v):=fun v k hk=>Qph (by simpa[ho]using hk);simp only[ho]at h;split
  ·rename_i hw;simp only[hw,if_true]at h;rcases h with h| ⟨_,_,_,h⟩
   ·refine .inl ?_;unfold Oper.wp at*
    generalize (execOp a.eval o).run P w=r at*
    cases r with
    |ok n w'=>
     cases n<;>simp only[Oper.upon]at h⊢
     case value u=>exact⟨puts _,h⟩
     case skip=>exact⟨puts _,h⟩
     case defer d=>exact⟨fun k hk=>(Qph (a:={a with defers:=d::a.defers}) (d:=o.dst) (by simpa[ho]using hk)).trans rfl,h⟩
     case enter f args=>
      refine Calls.mono h fun e w'' he=> ?_;cases e with
      |returned u=>exact⟨puts _,he⟩
      |panicked c=>exact he.elim
      |outgrown=>exact he
     case row row args=>exact Rows.mono h fun u w'' he=>⟨puts _,he⟩
    |halt x w'=>cases x<;>simp only[Oper.upon]at h⊢ <;>exact h.elim
   ·exact h.elim
  ·rename_i hw;simp only[hw]at h;exact⟨puts _,h⟩
def Q5o(ops:Array Oper):Nat->Nat->Nat->Bool
 |0,_,_=>false
 |f+1,j,i=>match ops[j]? with
  |some o=>o.after.any fun e=>Region.binds .any e&& (Nat.beq e.on i||Q5o ops f e.on i)
  |none=>false
def Qvo(ops:Array Oper)(j:Nat):Bool:=(List.range ops.size).all fun i=>Nat.beq i j||Q5o ops ops.size j i
def Qly(ops:Array Oper)(listed:Array Bool):Prop:= ∀(m:Nat) (o:Oper),ops[m]? =some o->listed.getD m false=true-> ∀e∈o.after,Region.binds .any e=true->listed.getD e.on false=true
theorem Qyg{listed:Array Bool}{i k:Nat}(h:listed.getD k false=true): (listed.setIfInBounds i true).getD k false=true:=by
 by_cases hk:i=k
 ·subst hk;have:i<listed.size:=by
   rcases Nat.lt_or_ge i listed.size with h'|h'
   ·exact h'
   ·simp[Array.getD_eq_getD_getElem?,Array.getElem?_eq_none h']at h
  simp[Array.getD_eq_getD_getElem?,this]
 ·rw[getD_set_ne false hk];exact h
theorem Z7i{listed:Array Bool}(h:Qly ops listed){i:Nat}(hi:i∈Region.ready .any ops listed):Qly ops (listed.setIfInBounds i true):=by
 intro m o ho hm e he hb;refine Qyg ?_;obtain⟨_,o',ho',hall⟩:=mem_ready.1 hi;by_cases hmi:i=m
 ·subst hmi;rw[ho]at ho';cases ho';exact hall e he hb
 ·rw[getD_set_ne false hmi]at hm;exact h m o ho hm e he hb
theorem Qik{listed:Array Bool}(h:Qly ops listed){i:Nat}: ∀{f j:Nat},Q5o ops f j i=true->(∀o,ops[j]? =some o-> ∀e∈o.after,Region.binds .any e=true->listed.getD e.on false=true)->listed.getD i false=true
 |0,_,hd,_=>by cases hd
 |f+1,j,hd,hall=>by
  simp only[Q5o]at hd;split at hd
  ·rename_i o ho;rw[Array.any_eq_true']at hd;obtain⟨e,he,hd⟩:=hd;simp only[Oba,Bool.or_eq_true]at hd;have hl:=hall o ho e he hd.1;rcases hd.2 with hd2|hd2
   ·rw[<-Onb hd2];exact hl
   ·exact Qik h hd2 fun o' ho' e' he' hb'=>h e.on o' ho' hl e' he' hb'
  ·cases hd
def Zzx(gh:Nat->Value)(P:Program)(ops:Array Oper)(Qn:Act->World->Prop)(pr:Nat->Bool)(bx:Nat->List Nat)(Sh:Nat->Prop):Nat->Array Bool->Act->World->Prop|0,listed,a,w=>Region.ready .any ops listed=[]/\Qn a w|fuel+1,listed,a,w=>(Region.ready .any ops listed=[]->Qn a w)/\ ∀i∈Region.ready .any ops listed,wpOp P ops QF i (fun a' w'=>(Qvo ops i=true\/Qe1 gh pr bx Sh i a w w')/\Zzx gh P ops Qn pr bx Sh fuel (listed.setIfInBounds i true) a' w') a w
theorem Qi6{Qn:Act->World->Prop}{pr:Nat->Bool}{bx:Nat->List Nat}{Sh Sh':Nat->Prop}(hs: ∀b,Sh b->Sh' b): ∀(fuel:Nat) (listed:Array Bool) (a:Act) (w:World),Zzx gh P ops Qn pr bx Sh' fuel listed a w->Zzx gh P ops Qn pr bx Sh fuel listed a w
 |0,_,_,_,h=>h
 |fuel+1,_,_,_,h=>⟨h.1,fun i hi=>wpOp_mono (fun a' w' ⟨h1,h2⟩=>⟨h1.imp id fun h1=>⟨h1.pres,fun b hb=>h1.hold b (hb.imp (hs b) id)⟩,Qi6 hs fuel _ a' w' h2⟩) (h.2 i hi)⟩
theorem Qps{Qn:Act->World->Prop}{pr:Nat->Bool}{bx:Nat->List Nat}{Sh:Nat->Prop}{Q:Exit->Act->World->Prop}(hq: ∀a w,Qn a w->Q .normal a w): ∀(fuel:Nat) (listed:Array Bool) (a:Act) (w:World),Zzx gh P ops Qn pr bx Sh fuel listed a w->wpAny P .any ops Q fuel listed a w
 |0,_,_,_,h=>⟨h.1,hq _ _ h.2⟩
 |fuel+1,listed,a,w,h=>⟨fun hr=>hq _ _ (h.1 hr),fun i hi=>by
  have h2:=h.2 i hi;have h3:wpOp P ops QF i (wpAny P .any ops Q fuel (listed.setIfInBounds i true)) a w:=wpOp_mono (fun a' w' h=>Qps hq fuel _ a' w' h.2) h2;unfold wpOp at h3⊢;split
  ·simpa[*]using h3
  ·rename_i o ho;simp only[ho]at h3;split
   ·rename_i hw;simp only[hw,if_true]at h3;rcases h3 with h3| ⟨_,_,_,h3⟩
    ·exact .inl (Xby h3)
    ·exact h3.elim
   ·rename_i hw;simp only[hw]at h3;exact h3⟩
theorem Qe0{I:World->Prop}{J:Act->Prop}{pr:Nat->Bool}{bx:Nat->List Nat}{Sh:Nat->Prop}{i:Nat}{oi:Oper}{v:Value}{Qn:Act->World->Prop}(hi:ops[i]? =some oi)(hsel: ∀(j:Nat) (o:Oper) cs b,ops[j]? =some o->o.op≠ .select cs b)
  (hdi: ∀j,∀r∈bx j,oi.dst≠some r):
  ∀(fuel:Nat) (listed:Array Bool) (a:Act) (w:World),Qly ops listed->I w->J a->
   (∀j oj,ops[j]? =some oj->j≠i->listed.getD j true=false->(∀e∈oj.after,Region.binds .any e=true->e.on≠i)->oi.apart ops oj=true/\ ∀a a' w w',J a->I w->Qe1 gh pr bx Sh j a w w'->Q5e gh ops j a a'->I w'/\J a')->
   i∈Region.ready .any ops listed->Zkt P ops I oi v a->
   Zzx gh P ops Qn pr bx Sh fuel (listed.setIfInBounds i true) (a.put oi.dst v) w->Zzx gh P ops Qn pr bx Sh (fuel+1) listed a w
 |0,_,_,w,_,hI,hJa,hfree,hr,hy,H=>by
  refine⟨fun h=>(by rw[h]at hr;cases hr),fun j hj=> ?_⟩;by_cases hji:j=i
  ·subst hji;exact hy.go hi hI ⟨.inr ⟨fun _=>Old.refl w,fun _ _=>rfl⟩,H⟩
  ·have:=ready_mono hj hji;rw[H.1]at this;cases this
 |fuel+1,listed,a,w,hcl,hI,hJa,hfree,hr,hy,H=>by
  refine⟨fun h=>(by rw[h]at hr;cases hr),fun j hj=> ?_⟩;by_cases hji:j=i
  ·subst hji;exact hy.go hi hI ⟨.inr ⟨fun _=>Old.refl w,fun _ _=>rfl⟩,H⟩
  ·have h1:=H.2 j (ready_mono hj hji);obtain⟨hjun,oj,hoj,hall⟩:=mem_ready.1 hj;have hnot: ∀e∈oj.after,Region.binds .any e=true->e.on≠i:=fun e he hb heq=>by
    have h1:=hall e he hb;have h0:=(mem_ready.1 hr).1;rw[heq]at h1;rcases Nat.lt_or_ge i listed.size with h'|h'
    ·simp[h']at h0 h1;rw[h0]at h1;cases h1
    ·simp[Array.getElem?_eq_none h']at h1
   obtain⟨hap,hpres⟩:=hfree j oj hoj hji hjun hnot;obtain⟨hap1,hap2,_⟩:=Oper.apart_spec hap;have h2:=Qvp hoj hap (fun cs b=>hsel i oi cs b hi) (fun cs b=>hsel j oj cs b hoj) hy h1;have hfree': ∀k ok,ops[k]? =some ok->k≠i->(listed.setIfInBounds j true).getD k true=false->(∀e∈ok.after,Region.binds .any e=true->e.on≠i)->
     oi.apart ops ok=true/\ ∀a a' w w',J a->I w->Qe1 gh pr bx Sh k a w w'->Q5e gh ops k a a'->I w'/\J a':=fun k ok hk hki hun hno=>by
    refine hfree k ok hk hki ?_ hno;by_cases hjk:j=k
    ·subst hjk;exact hjun
    ·rw[getD_set_ne true hjk]at hun;exact hun
   refine wpOp_mono (fun a' w' ⟨hputs,hya,hst,hwp⟩=> ?_) (Q11 (gh:=gh) h2);have hst:=hst.resolve_left fun hn=>by
    unfold Qvo at hn;rw[List.all_eq_true]at hn;have h9:=hn i (List.mem_range.2 (Array.getElem?_eq_some_iff.1 hi).1);simp only[Bool.or_eq_true]at h9;rcases h9 with h9|h9
    ·exact hji (Onb h9).symm
    ·have h10:=Qik hcl h9 fun o ho e he hb=>by
      rw[hoj]at ho;cases ho;exact hall e he hb
     have h0:=(mem_ready.1 hr).1;rcases Nat.lt_or_ge i listed.size with h'|h'
     ·simp[Array.getD_eq_getD_getElem?,h']at h0 h10;rw[h0]at h10;cases h10
     ·simp[Array.getD_eq_getD_getElem?,Array.getElem?_eq_none h']at h10
   
   have hst':Qe1 gh pr bx Sh j a w w':=⟨hst.pres,fun b hb=>hst.hold b (hb.imp id fun⟨r,h1,h2⟩=>⟨r,h1,by rw[Qph (hdi _ r h1)];exact h2⟩)⟩
   obtain⟨hI',hJb⟩:=hpres a a' w w' hJa hI hst' hputs;refine⟨.inr hst',Qe0 hi hsel hdi fuel (listed.setIfInBounds j true) a' w' (Z7i hcl hj) hI' hJb hfree' (ready_mono hr (Ne.symm hji)) hya ?_⟩;rw[Array.setIfInBounds_comm _ _ hji];exact hwp
theorem Old.trans{a b c:World}(h:Old a b)(k:Old b c):Old a c:=fun i hi=>by
 have hb:i<b.heap.size:=by
  have:=h i hi;rw[Array.getElem?_eq_getElem hi]at this;exact(Array.getElem?_eq_some_iff.1 this).1
 rw[k i hb,h i hi]
def Q3j(C:Cfg)(ops:Array Oper)(listed:Array Bool)(any:Nat->Bool)(i:Nat):Bool:=
 (List.range ops.size).all fun j=>Nat.beq j i||listed.getD j true|| (match ops[i]?,ops[j]? with
  |some oi,some oj=>(oj.after.any fun e=>Region.binds .any e&&Nat.beq e.on i)|| (oi.apart ops oj&& (any j||Qoz C oj.op))
  |_,_=>false)
theorem Qxa{C:Cfg}{listed:Array Bool}{any:Nat->Bool}{i j:Nat}{oi oj:Oper}(h:Q3j C ops listed any i=true)(hi:ops[i]? =some oi)(hj:ops[j]? =some oj)(hne:j≠i)(hl:listed.getD j true=false)
  (hno: ∀e∈oj.after,Region.binds .any e=true->e.on≠i):oi.apart ops oj=true/\(any j=true\/Qoz C oj.op=true):=by
 unfold Q3j at h;rw[List.all_eq_true]at h;have:=h j (List.mem_range.2 (Array.getElem?_eq_some_iff.1 hj).1);simp only[hi,hj,hl,Bool.or_false,Bool.or_eq_true,Oba]at this;rcases this with h1|h1|h1
 ·exact absurd (Onb h1) hne
 ·rw[Array.any_eq_true']at h1;obtain⟨e,he,hb⟩:=h1;simp only[Oba]at hb;exact absurd (Onb hb.2) (hno e he hb.1)
 ·exact⟨h1.1,by simpa using h1.2⟩
def Q9i(ops:Array Oper)(i:Nat):Bool:=
 match ops[i]? with
 |some o=>match o.op with
  | .move _| .assign _| .pick .. | .load .. | .binOp .. | .unOp .. | .convert .. | .nilCheck .. | .fieldAddr .. | .indexAddr .. | .index .. =>true
  | .call {callee:= .builtin .len,..}| .call {callee:= .builtin .min,..}| .call {callee:= .builtin .max,..}=>true
  |_=>false
 |none=>false
def Q0d(s:St)(o:Oper):Bool:=(match o.guard with|none=>true|some _=>false)&& (match o.op with
 | .move (.tmp q)=>match s.get (.m q)with
  | .tup=>true
  |_=>false
 | .extract _ _=>true
 |_=>false)
def Xbv(s:St)(ops:Array Oper)(i:Nat):Bool:=match ops[i]? with|some o=>Q0d s o|none=>false
def Xa3(s:St)(ops:Array Oper)(i:Nat):Bool:=
 match ops[i]? with
 |some o=>match o.op with
  | .move (.tmp q)=>match s.get (.m q)with
   | .tup=>false
   |_=>true
  |_=>true
 |none=>false
def Q7q(τ:Tab)(bx:List Nat)(s:St)(o:Oper):Bool:=match Q37 τ o.op with
 |false=>true
 |true=>match Zva s o.op with
  |some (some r)=>bx.any (Nat.beq r)
  |some none=>true
  |none=>false
def Qgf(s:St)(r:Nat):Bool:=match s.get (.m r)with| .box _ _ _ _=>true|_=>false
theorem Z2l{s:St}{r:Nat}(h:Qgf s r=true):s.isBox r:=by
 unfold Qgf at h;split at h
 ·rename_i e T f x hg;exact⟨e,T,f,x,hg⟩
 ·cases h
def Q8k(τ:Tab)(s:St)(bx:List Nat)(o:Oper):Bool:=bx.all fun r=>Qgf s r&& (match Qla τ s o with|some q=> !(Nat.beq q r)|none=>true)
def Z7e(ops:Array Oper):Nat->Nat->Nat
 |0,k=>k
 |f+1,k=>match ops.toList.find? (fun o=>match o.dst with|some d=>Nat.beq d k|none=>false)with
  |some o=>match o.op with
   | .fieldAddr _ (.tmp j) _=>Z7e ops f j
   | .indexAddr _ (.tmp j) _=>Z7e ops f j
   | .move (.tmp j)=>Z7e ops f j
   | .nilCheck (.tmp j)=>Z7e ops f j
   | .call {callee:= .value _,args:=xs,..}=>match xs.toList with| .tmp j::_=>Z7e ops f j|_=>k
   |_=>k
  |none=>k
def Q2i(s:St)(ops:Array Oper):List Nat:=
 let bs:=s.env.filterMap fun p=>match p.1,p.2 with
  | .m r,.box _ _ _ _=>if Qgf s r then some r else none
  |_,_=>none
 bs.filter fun r=>ops.toList.all fun o=>match o.dst with|some d=> !(Nat.beq d r)|none=>true
def Q8e(s:St)(ops:Array Oper)(k:Nat):Nat:=match s.get (.m (Z7e ops ops.size k))with| .ptr r _=>r| .aep r _ _=>r|_=>Z7e ops ops.size k
def Q9w(s:St)(ops:Array Oper)(o:Oper):List Nat:=match o.op with
 | .store _ (.tmp k) _=>[Q8e s ops k]
 | .call {callee:= .value _,args:=xs,..}=>xs.toList.filterMap fun x=>match x with| .tmp k=>some (Q8e s ops k)|_=>none
 |_=>[]
def Q8l(s:St)(ops:Array Oper)(j:Nat):List Nat:=
 match ops[j]? with
 |some o=>(Q2i s ops).filter fun r=> !((Q9w s ops o).any (Nat.beq r))
 |none=>[]
theorem Q2j{s:St}{ops:Array Oper}{i r j:Nat}{o:Oper}(hr:r∈Q8l s ops i)(ho:ops[j]? =some o):o.dst≠some r:=by
 unfold Q8l at hr;have hr:r∈Q2i s ops:=by
  split at hr
  ·exact(List.mem_filter.1 hr).1
  ·cases hr
 unfold Q2i at hr;have:=(List.mem_filter.1 hr).2;rw[List.all_eq_true]at this;have:=this o (by rw[<-Array.getElem?_toList]at ho;exact List.mem_of_getElem? ho);intro e;rw[e]at this;simp at this
noncomputable def Zwo{ρ:Type}(m1 m2:Option ρ):Option ρ:=by
 classical exact if m1=m2 then m1 else none
theorem Qw3{ρ:Type}{m1 m2:Option ρ}{r:ρ}(h:Zwo m1 m2=some r):m1=some r/\m2=some r:=by
 unfold Zwo at h;split at h
 ·rename_i e;exact⟨h,by rw[<-e];exact h⟩
 ·cases h
theorem Zja{ρ:Type}(m:Option ρ):Zwo m m=m:=by
 unfold Zwo;rw[if_pos rfl]
noncomputable def Q5h{ρ:Type}:List (Option ρ)->Option ρ| []=>none| [m]=>m|m::n::r=>Zwo m (Q5h (n::r))
theorem Qq5{ρ:Type}: ∀{l:List (Option ρ)} {r:ρ},Q5h l=some r-> ∀m∈l,m=some r
 | [],r,h,m,hm=>by cases hm
 | [m],r,h,m',hm=>by simp only[List.mem_singleton]at hm;subst hm;exact h
 |m::n::q,r,h,m',hm=>by
  simp only[Q5h]at h;obtain⟨h1,h2⟩:=Qw3 h;rcases List.mem_cons.1 hm with rfl|hm
  ·exact h1
  ·exact Qq5 h2 m' hm
def Qy2(C:Cfg)(s:St)(o:Oper):Option (FuncId×Array Operand):=
 match C.soft,o.guard,o.op with
 |false,none,.call {callee:= .value fo,args:=xs,..}=>match Qqs s [] fo with
  |some f=>match C.ΓB.find f with
   |some _=>some (f,xs)
   |none=>none
  |none=>none
 |_,_,_=>none
def Q9f:Tm->Bool| .val .. | .ptr .. | .shp .. =>true|_=>false
def Qh4(g:Nat)(b:Bool):List Operand->St->St
 | [],s=>s
 | .tmp k::xs,s=>match s.get (.m k)with
  | .gd g' b' t=>match Nat.beq g' g,b'==b,s.foul g,Q9f t with
   |true,true,false,true=>Qh4 g b xs (Zst s k t)
   |_,_,_,_=>Qh4 g b xs s
  |_=>Qh4 g b xs s
 |_::xs,s=>Qh4 g b xs s
def Xcg:RS->Option Ty| .vals [t]=>some t| .shr [t]=>some t| .flg [t]=>some t.1|_=>none
def gdB(C:Cfg)(s:St)(ops:Array Oper)(o:Oper):Option (Nat×Bool×Nat×FuncId×Array Operand):=
 match C.soft,o.guard,o.dst,o.op with
 |false,some (j,b),some d,.call {callee:= .value fo,args:=xs,..}=>match(ops[j]?).bind (·.dst),Qqs s [] fo with
  |some g,some f=>match C.ΓB.find f with
   |some _=>some (g,b,d,f,xs)
   |none=>none
  |_,_=>none
 |_,_,_,_=>none
noncomputable def Q5y{ρ:Type}(C:Cfg)(n:Nat)(o:Oper)(s:St)(g:Nat)(b:Bool)(d:Nat)(f:FuncId)(xs:Array Operand)(k:St->Option ρ):Option ρ:=
 match Zaa s (op1 s [] (.tmp g)) .bool,s.foul g,((C.ΓB.find f).bind fun e=>Xcg e.res),Jm s d&&Nat.blt d n with
 |some c,false,some T,true=>match b with
  |true=>bif c then Qmd C.ΓB n (Qh4 g b xs.toList s) o.dst f xs.toList k else k (Yx s d (.gd g b (.val T (.u true) (zero T))))
  |false=>bif c then k (Yx s d (.gd g b (.val T (.u true) (zero T))))else Qmd C.ΓB n (Qh4 g b xs.toList s) o.dst f xs.toList k
 |_,_,_,_=>none
noncomputable def Qwn{ρ:Type}(C:Cfg)(n:Nat)(ops:Array Oper)(bx:List Nat)(o:Oper)(s:St)(k:St->Option ρ):Option ρ:=
 match gdB C s ops o with
 |some (g,b,d,f,xs)=>match bx.all fun r=>Qgf s r&& !((Qhl C.ΓB (Qh4 g b xs.toList s) f xs.toList).any (Nat.beq r))with
  |true=>Q5y C n o s g b d f xs k
  |false=>none
 |none=>match Qy2 C s o with
 |some (f,xs)=>match bx.all fun r=>Qgf s r&& !((Qhl C.ΓB s f xs.toList).any (Nat.beq r))with
  |true=>Qmd C.ΓB n s o.dst f xs.toList k
  |false=>none
 |none=>match Q8k C.τ s bx o with
  |true=>Qpj C n ops o s k
  |false=>none
def Qzj(C:Cfg)(s:St)(o:Oper):Option (Zqg×List Tm):=
 match o.guard,o.op with
 |none,.call {callee:= .value fo,args:=xs,argTypes:=ats}=>match op1 s [] fo with
  | .tm _ (.cl f l)=>match C.inl.find f,Ql6 C.τ s xs.toList ats.toList with
   |some E,some ts=>some (E,ts++l.map fun q=> .ptr q [])
   |_,_=>none
  |_=>match Qqs s [] fo with
   |some f=>match C.inl.find f,Ql6 C.τ s xs.toList ats.toList with
    |some E,some ts=>some (E,ts)
    |_,_=>none
   |none=>none
 |_,_=>none
noncomputable def Zwh{ρ:Type}(C:Cfg)(n:Nat)(ops:Array Oper)(bx:Nat->List Nat):Nat->Array Bool->St->(St->Option ρ)->Option ρ
 |0,listed,s,k=>match Region.ready .any ops listed with
  | []=>k (Qih s)
  |_::_=>none
 |f+1,listed,s,k=>match Region.ready .any ops listed with
  | []=>k (Qih s)
  | [i]=>match ops[i]? with
   |some o=>match Qzj C s o,Region.ready .any ops (listed.setIfInBounds i true),Qvo ops i with
    |some (E,ts),[],true=>Q54 C.τ n s o.dst E ts fun s'=>k (Qih s')
    |_,_,_=>Qwn C n ops (bx i) o s fun s'=>Zwh C n ops bx f (listed.setIfInBounds i true) s' k
   |none=>none
  |i::j::rs=>match(i::j::rs).find? (fun i=>((Q9i ops i&&Xa3 s ops i)||Xbv s ops i)&& (match ops[i]? with|some o=>Q3j C ops listed (fun j=>Q7q C.τ (bx j) s o) i|none=>false))with
   |some i=>match ops[i]? with
    |some o=>match Q0d s o with
     |true=>Qpj C n ops o s fun s'=>Zwh C n ops bx f (listed.setIfInBounds i true) s' k
     |false=>Qyl C n ops o s fun s'=>Zwh C n ops bx f (listed.setIfInBounds i true) s' k
    |none=>none
   |none=>Q5h ((i::j::rs).map fun i=>match ops[i]? with
    |some o=>Qwn C n ops (bx i) o s fun s'=>Zwh C n ops bx f (listed.setIfInBounds i true) s' k
    |none=>none)
variable {g:Kr} {W0:Wz g} {w w':World} {X X':Nat->Prop} {n:Nat} {s s':St} {F:Key->List Nat} {a:Act} {H H':List Nat} {o:Oper} {tg:Xi} {τ:Tab} {C:Cfg}
theorem Qiq(hC:C.ok P g)(h:R n W0 w X F H s a){E:Zqg}{ts:List Tm}(hi:Qzj C s o=some (E,ts)):
  o.guard=none/\Wg P g E/\ ∃vs:List Value,ts.length=vs.length/\(∀(i:Nat) t,ts[i]? =some t-> ∃v,vs[i]? =some v/\vt W0.gh w X W0.B s F a v [] t)/\(execOp a.eval o).run P w= .ok (.enter E.f vs.toArray) w:=by
 unfold Qzj at hi;split at hi
 ·rename_i fo xs ats hg ho;split at hi
  ·rename_i k f l hx;split at hi
   ·rename_i E' ts' hE hts;simp only[Osi,Opi]at hi;obtain⟨rfl,rfl⟩:=hi;obtain⟨rfl,hok⟩:=Z4y.find_ok hC.inl hE;obtain⟨_,_,us,h1,h2,h3⟩:=Ke h Vh hx (by simp);obtain⟨g1,g2⟩:=Z1n h hts;refine⟨hg,hok,xs.toList.map a.eval++us,by simp[g1,h2],fun i t hi=> ?_,?_⟩
    ·rcases Nat.lt_or_ge i ts'.length with hlt|hge
     ·rw[List.getElem?_append_left hlt]at hi;obtain⟨v,hv,hvt⟩:=g2 i t hi;exact⟨v,by rw[List.getElem?_append_left (by rw[List.length_map];omega)];exact hv,hvt⟩
     ·rw[List.getElem?_append_right hge]at hi;simp only[List.getElem?_map,Option.map_eq_some_iff]at hi;obtain⟨q,hq,rfl⟩:=hi;obtain⟨u,hu,ha⟩:=h3 _ q hq;exact⟨u,by rw[List.getElem?_append_right (by rw[List.length_map];omega),List.length_map,<-g1];exact hu,rfl,ha⟩
    ·have:execOp a.eval o=callFunc E'.f (xs.map a.eval++us.toArray):=by
      simp only[execOp,ho,resolve,h1,Deferred.ofValue];simp[invoke]
     rw[this,hok.enters];congr 2;apply Array.toList_inj.mp;simp
   ·cases hi
  ·split at hi
   ·rename_i f hf;split at hi
    ·rename_i E' ts' hE hts;simp only[Osi,Opi]at hi;obtain⟨rfl,rfl⟩:=hi;obtain⟨rfl,hok⟩:=Z4y.find_ok hC.inl hE;have hfo:=Zjb h Vh hf;obtain⟨g1,g2⟩:=Z1n h hts;refine⟨hg,hok,xs.toList.map a.eval,by simp[g1],g2,?_⟩;have:execOp a.eval o=callFunc E'.f (xs.map a.eval):=by
      simp only[execOp,ho,resolve,hfo,Deferred.ofValue];simp[invoke]
     rw[this,hok.enters];congr 2;apply Array.toList_inj.mp;simp
    ·cases hi
   ·cases hi
 ·cases hi
theorem Qq4{ρ:Type}(hC:C.ok P g)(h:R n W0 w X F [] s a){k:St->Option ρ}{r:ρ}(hs:Qyl C n ops o s k=some r):
  ∃v F' s',k s'=some r/\R n W0 w X F' [] s' (a.put o.dst v)/\Zkt P ops (Dep W0.gh C.τ X s a o w) o v a:=by
 unfold Qyl at hs;split at hs
 ·rename_i hg;split at hs
  ·rename_i r0 d hv hd;split at hs
   ·rename_i hdn;simp only[Oba,Nat.blt_eq]at hdn;rw[Z18]at hs;obtain⟨_,hp⟩:=Z68 h Vh hC hv;obtain⟨v,h1,h2⟩:=hp hs.1;refine⟨v,Qd F (.m d) [],_,hs.2,?_,.inl ⟨by simp[Region.wanted,hg],h1⟩⟩;rw[hd];exact(by simpa using h:R n W0 w X F ([]++ []) s a).put hdn.1 hdn.2 h2
   ·cases hs
  ·cases hs
 ·rename_i j b hg;split at hs
  ·rename_i g d hj hd;split at hs
   ·rename_i tg hch hdn;have hgb:Nat.blt g 1048576=true:=by simp only[Oba]at hdn;exact hdn.2
    simp only[Oba,Nat.blt_eq]at hdn
    replace hdn:=hdn.1
    have hgj:=Qra hch;split at hs
    ·rename_i r0 hv;obtain⟨hk,hob⟩:=Qex h hs;by_cases hb:Qk W0.gh a (.m g)= .bool b
     ·have ht:=Zu7 h hch hb;have hglt:g<a.tmps.size:=by
       have hb':a.tmps.getD g undef= .bool b:=(Yh W0 a hgb).symm.trans hb;rcases Nat.lt_or_ge g a.tmps.size with h'|h'
       ·exact h'
       ·rw[Array.getD_eq_getD_getElem?,Array.getElem?_eq_none h']at hb';cases hb'
      have hy:Region.wanted o (yielded ops a.tmps)=true:=by
       have hb':a.tmps[g]? =some (.bool b):=by
        have hb':a.tmps.getD g undef= .bool b:=(Yh W0 a hgb).symm.trans hb;rw[Array.getD_eq_getD_getElem?,Array.getElem?_eq_getElem hglt]at hb';rw[Array.getElem?_eq_getElem hglt];simpa using hb'
       simp[Region.wanted,hg,yielded,hj,hb']
      obtain⟨_,hp⟩:=Z68 h ht hC hv;obtain⟨v,h1,h2⟩:=hp (hob ht);refine⟨v,Qd F (.m d) [],_,hk,?_,.inl ⟨hy,h1⟩⟩;rw[hd];exact(by simpa using h:R n W0 w X F ([]++ []) s a).put hdn.1 hdn.2 fun _=>⟨hgj,fun _=>h2,fun hne=>absurd hb hne⟩
     ·have hy:Region.wanted o (yielded ops a.tmps)=false:=by
       apply Bool.eq_false_iff.2;intro hy;simp only[Region.wanted,hg,yielded,hj,Obs,beq_iff_eq]at hy;apply hb;split at hy
       ·rename_i c hc;simp only[Osi]at hy;subst hy;simp[Qk,Zkz,hc]
       ·cases hy
      refine⟨undef,Qd F (.m d) [],_,hk,?_,.inr ⟨hy,rfl⟩⟩;rw[hd];exact(by simpa using h:R n W0 w X F ([]++ []) s a).put (S:=[]) hdn.1 hdn.2 fun _=>⟨hgj,fun hb'=>absurd hb' hb,fun _=>⟨rfl,rfl⟩⟩
    ·cases hs
   ·cases hs
  ·cases hs
theorem Qwt{ρ:Type}(hC:C.ok P g)(h:R n W0 w X F [] s a)(ht:Q0d s o=true){k:St->Option ρ}{r:ρ}(hs:Qpj C n ops o s k=some r)(I:World->Prop):
  ∃v X' F' s',k s'=some r/\(∀b,X b->X' b)/\R n W0 w X' F' [] s' (a.put o.dst v)/\Zkt P ops I o v a:=by
 have key:=Z32 (Q:=QF) hC h hs (K:=fun a' w'=> ∃X' F' s',k s'=some r/\(∀b,X b->X' b)/\R n W0 w' X' F' [] s' a') fun w' a' X' F' s' hk hR hf=>⟨X',F',s',hk,hf.more,hR⟩
 unfold Q0d at ht;rw[Oba]at ht;obtain⟨h1,h2⟩:=ht;have hg:o.guard=none:=by
  cases hg:o.guard with
  |none=>rfl
  |some g=>rw[hg]at h1;cases h1
 have hw:Region.wanted o (yielded ops a.tmps)=true:=by simp[Region.wanted,hg]
 rw[if_pos hw]at key;unfold Oper.wp at key;split at h2
 ·rename_i q ho;simp only[execOp,ho,Sem.run_pure,Oper.upon]at key;obtain⟨X',F',s',k1,k2,k3⟩:=key;exact⟨_,X',F',s',k1,k2,k3,.inl ⟨hw,fun w' _=>by simp[execOp,ho]⟩⟩
 ·rename_i x i ho;cases hx:a.eval x with
  |tuple us=>
   cases hu:us[i]? with
   |none=>simp[execOp,ho,Instr.extract,hx,hu,Oper.upon]at key
   |some v=>
    simp only[execOp,ho,Instr.extract,hx,hu,Oper.upon]at key;obtain⟨X',F',s',k1,k2,k3⟩:=key;exact⟨v,X',F',s',k1,k2,k3,.inl ⟨hw,fun w' _=>by simp[execOp,ho,Instr.extract,hx,hu]⟩⟩
  |_=>simp[execOp,ho,Instr.extract,hx,Oper.upon]at key
 ·cases h2
theorem Q0q{bx:List Nat}{Sh:Nat->Prop}{a':Act}{o:Oper}(hb:Q8k C.τ s bx o=true)(hS: ∀b,Sh b->X b)(hf:Q5d W0.gh C o X X' s a a' w w'):Q8h W0.gh bx Sh a w w':=by
 intro b hb';refine hf.kept b (hb'.imp (hS b) fun⟨r,h1,h2⟩=> ?_);unfold Q8k at hb;rw[List.all_eq_true]at hb;have h3:=hb r h1;simp only[Oba]at h3;refine⟨r,Z2l h3.1,?_,h2⟩;intro e;rw[e]at h3;simp at h3
theorem R.ungd1(h:R n W0 w X F H s a){k g':Nat}{b:Bool}{t:Tm}(hg:s.get (.m k)= .gd g' b t)(hf:s.foul g'=false)(hb:Qk W0.gh a (.m g')= .bool b)(ht:Q9f t=true):R n W0 w X F H (Zst s k t) a:=by
 have hs:=h.slots (.m k);rw[hg]at hs;obtain⟨_,h1,_⟩:=hs hf;have h2:=h1 hb;have hFk:Qd F (.m k) (F (.m k))=F:=by
  funext j;simp only[Qd];split
  ·rename_i e;rw[e]
  ·rfl
 have hT0:Zzy W0.gh w w s (Zst s k t) F (Qd F (.m k) (F (.m k))) a k t:=Zom ⟨by rw[Kg];simp;intro e;subst e;simp[Q9f]at ht,fun p v U hv=>by
  unfold Xb at hv;rw[hg]at hv;exact hv.elim⟩
 have turn: ∀{u:Tm} {v:Value} {S:List Nat},vt W0.gh w X W0.B s F a v S u->vt W0.gh w X W0.B (Zst s k t) F a v S u:=fun {u v S} hu=>by
  have:=Qlv hT0 (fun _ h=>h) (fun _ _=>rfl) (fun _ _ _ _=>rfl) (fun _ _=>rfl) (fun e T' f' x' b S hb=>by rw[hg]at hb;cases hb) hu;rw[hFk]at this;exact this
 exact
 {h with
  comps:=fun d i hc=>by
   rw[Kg]at hc⊢;simp only[reduceCtorEq,if_false]at hc;obtain⟨h1,h2⟩:=h.comps d i hc;by_cases e:k=d
   ·subst e;rw[hg]at h1;cases h1
   ·exact⟨by simpa[e]using h1,h2⟩
  slots:=fun j=>by
   by_cases hj:j= .m k
   ·subst hj;rw[Kg];simp only[if_true];exact turn h2
   ·rw[Kg];simp only[Ne.symm hj,if_false];exact turn (h.slots j)}
theorem Zu0{g':Nat}{b:Bool}(hb:Qk W0.gh a (.m g')= .bool b): ∀{xs:List Operand} {s:St},R n W0 w X F H s a->R n W0 w X F H (Qh4 g' b xs s) a
 | [],s,h=>h
 |x::xs,s,h=>by
  cases x with
  |tmp k=>
   simp only[Qh4];split
   ·rename_i g2 b2 t hg;split
    ·rename_i e1 e2 e3 e4;have e1:=Onb e1;subst e1;have e2:b2=b:=by simpa using e2
     subst e2;exact Zu0 hb (h.ungd1 hg e3 hb e4)
    ·exact Zu0 hb h
   ·exact Zu0 hb h
  |_=>exact Zu0 (xs:=xs) hb h
theorem Zuz{g':Nat}{b:Bool}{r:Nat}: ∀{xs:List Operand} {s:St},s.isBox r->(Qh4 g' b xs s).isBox r
 | [],s,h=>h
 |x::xs,s,h=>by
  cases x with
  |tmp k=>
   simp only[Qh4];split
   ·rename_i g2 b2 t hg;split
    ·refine Zuz ?_;obtain⟨e,T,f,y,hq⟩:=h;refine⟨e,T,f,y,?_⟩;rw[Kg,if_neg]
     ·exact hq
     ·intro e;simp only[Key.m.injEq]at e;subst e;rw[hg]at hq;cases hq
    ·exact Zuz h
   ·exact Zuz h
  |_=>exact Zuz (xs:=xs) h
theorem Qnx{ρ:Type}(hC:C.ok P g){ops:Array Oper}(h:R n W0 w X F [] s a){gs d:Nat}{b:Bool}{f:FuncId}{xs:Array Operand}(hg:gdB C s ops o=some (gs,b,d,f,xs)){k:St->Option ρ}{r:ρ}(hs:Q5y C n o s gs b d f xs k=some r)
  {K:Act->World->Prop} {Q:Exit->Act->World->Prop} (hK: ∀v w' X' F' s',k s'=some r->R n W0 w' X' F' [] s' (a.put o.dst v)->(∀b,X b->X' b)->Q16 W0.gh X s a (Qhl C.ΓB (Qh4 gs b xs.toList s) f xs.toList) w w'->K (a.put o.dst v) w'):if Region.wanted o (yielded ops a.tmps)then o.wp P a w K Q else K (a.put o.dst undef) w:=by
 unfold gdB at hg;split at hg
 ·rename_i j b' d' fo xs' ats hsf hgd hd ho;split at hg
  ·rename_i g' f' hj hf;split at hg
   ·simp only[Osi,Opi]at hg;obtain⟨rfl,rfl,rfl,rfl,rfl⟩:=hg;unfold Q5y at hs;split at hs
    ·rename_i c T hc hfl hT hdn;simp only[Oba,Nat.blt_eq]at hdn;have hv:Qk W0.gh a (.m g')= .bool c:=(Yh W0 a (Zxp hc)).trans (Zjg h Vh hc);have hne:s.get (.m g')≠ .junk:=by
      intro e;have hgb:=Zxp hc;have:op1 s [] (.tmp g')= .tm g' .junk:=by simp only[op1,hgb,e,Zv1]
      rw[this]at hc;simp[Zaa,Zrt]at hc
     have hglt:g'<a.tmps.size:=by
      have hb':a.tmps.getD g' undef= .bool c:=Zjg h Vh hc;rcases Nat.lt_or_ge g' a.tmps.size with h'|h'
      ·exact h'
      ·rw[Array.getD_eq_getD_getElem?,Array.getElem?_eq_none h']at hb';cases hb'
     have hb':a.tmps[g']? =some (.bool c):=by
      have hb':a.tmps.getD g' undef= .bool c:=Zjg h Vh hc;rw[Array.getD_eq_getD_getElem?,Array.getElem?_eq_getElem hglt]at hb';rw[Array.getElem?_eq_getElem hglt];simpa using hb'
     have hw:Region.wanted o (yielded ops a.tmps)=(c==b'):=by
      simp[Region.wanted,hgd,yielded,hj,hb']
     have yes:c=b'->Qmd C.ΓB n (Qh4 g' b' xs'.toList s) o.dst f' xs'.toList k=some r->if Region.wanted o (yielded ops a.tmps)then o.wp P a w K Q else K (a.put o.dst undef) w:=by
      intro e hcall;rw[hw,if_pos (by simp[e])];exact Z1s (hC.soft.trans hsf) hC.ΓB (Zu0 (by rw[hv,e]) h) (Zjb h Vh hf) ho hcall fun v w' X' F' s' hk hR hxx hkp=>hK v w' X' F' s' hk hR hxx fun b hb=>hkp b (hb.imp id fun⟨r,h1,h2,h3⟩=>⟨r,Zuz h1,h2,h3⟩)
     have no:c≠b'->k (Yx s d' (.gd g' b' (.val T (.u true) (zero T))))=some r->if Region.wanted o (yielded ops a.tmps)then o.wp P a w K Q else K (a.put o.dst undef) w:=by
      intro e hk;rw[hw,if_neg (by simp[e]),hd];have hput:=(by simpa using h:R n W0 w X F ([]++ []) s a).put (S:=[]) (t:= .gd g' b' (.val T (.u true) (zero T))) (v:=undef) hdn.1 hdn.2 fun _=>⟨hne,fun hb=>by rw[hv]at hb;injection hb with hb;exact absurd hb e,fun _=>⟨rfl,rfl⟩⟩
      have:=hK undef w X _ _ hk (by rw[hd];exact hput) (fun _ h=>h) (fun _ _=>rfl);rw[hd]at this;exact this
     cases b'
     ·cases c
      ·exact yes rfl hs
      ·exact no (by simp) hs
     ·cases c
      ·exact no (by simp) hs
      ·exact yes rfl hs
    ·cases hs
   ·cases hg
  ·cases hg
 ·cases hg
theorem Qwo{ρ:Type}(hC:C.ok P g)(h:R n W0 w X F [] s a){bx:List Nat}{Sh:Nat->Prop}(hS: ∀b,Sh b->X b){k:St->Option ρ}{r:ρ}(hs:Qwn C n ops bx o s k=some r){K:Act->World->Prop}{Q:Exit->Act->World->Prop}
  (hK: ∀w' a' X' F' s',k s'=some r->R n W0 w' X' F' [] s' a'->(∀b,X b->X' b)->(Qoz C o.op=true->Old w w')->Q8h W0.gh bx Sh a w w'->K a' w'):if Region.wanted o (yielded ops a.tmps)then o.wp P a w K Q else K (a.put o.dst undef) w:=by
 unfold Qwn at hs;split at hs
 ·rename_i gs b d f xs hgd;split at hs
  ·rename_i hall;refine Qnx hC h hgd hs fun v w' X' F' s' hk hR hxx hkp=>hK w' _ X' F' s' hk hR hxx (fun hp=> ?_) fun b hb'=>hkp b ?_
   ·exfalso;unfold gdB at hgd;split at hgd
    ·rename_i j b' d' fo xs' ats hsf hg ho1 ho;split at hgd
     ·rename_i g' f' hj hf;split at hgd
      ·rename_i eb hfind;simp only[Qoz,ho,Q9d,Oba]at hp;have hp2:=hp.2;have nil: (match C.ΓB with| []=>true|_::_=>false)=true->False:=fun hn=>by
        cases hg2:C.ΓB with
        |nil=>rw[hg2]at hfind;cases hfind
        |cons _ _=>rw[hg2]at hn;cases hn
       cases fo with
       |func f2=>
        have hff:some f2=some f':=hf;cases hff;simp only[hfind]at hp2;cases hp2
       |const v=>exact nil hp2
       |tmp k=>exact nil hp2
       |global g=>exact nil hp2
      ·cases hgd
     ·cases hgd
    ·cases hgd
   ·refine hb'.imp (hS b) fun⟨r,h1,h2⟩=> ?_;rw[List.all_eq_true]at hall;have h3:=hall r h1;simp only[Oba,Bool.not_eq_true']at h3;exact⟨r,Z2l h3.1,Z4q h3.2,h2⟩
  ·cases hs
 split at hs
 ·rename_i f xs hb;split at hs
  ·rename_i hall;unfold Qy2 at hb;split at hb
   ·rename_i fo xs' ats hsf hg ho;split at hb
    ·rename_i f' hf;split at hb
     ·rename_i eb hfind;simp only[Osi,Opi]at hb;obtain⟨rfl,rfl⟩:=hb;rw[if_pos (by simp[Region.wanted,hg])];refine Z1s (hC.soft.trans hsf) hC.ΓB h (Zjb h Vh hf) ho hs fun v w' X' F' s' hk hR hxx hkp=>hK w' _ X' F' s' hk hR hxx (fun hp=> ?_) fun b hb'=>hkp b ?_
      ·exfalso;simp only[Qoz,ho,Q9d,Oba]at hp;have hp2:=hp.2;have nil: (match C.ΓB with| []=>true|_::_=>false)=true->False:=fun hn=>by
        cases hg2:C.ΓB with
        |nil=>rw[hg2]at hfind;cases hfind
        |cons _ _=>rw[hg2]at hn;cases hn
       cases fo with
       |func f2=>
        have hff:some f2=some f':=hf;cases hff;simp only[hfind]at hp2;cases hp2
       |const v=>exact nil hp2
       |tmp k=>exact nil hp2
       |global g=>exact nil hp2
      ·refine hb'.imp (hS b) fun⟨r,h1,h2⟩=> ?_;rw[List.all_eq_true]at hall;have h3:=hall r h1;simp only[Oba,Bool.not_eq_true']at h3;exact⟨r,Z2l h3.1,Z4q h3.2,h2⟩
     ·cases hb
    ·cases hb
   ·cases hb
  ·cases hs
 ·split at hs
  ·rename_i hbo;exact Z32 (Q:=Q) hC h hs fun w' a' X' F' s' hk hR hf=>hK w' a' X' F' s' hk hR hf.more (fun hp=>hf.pres (by simp only[Qoz,Oba]at hp;exact hp.1)) (Q0q hbo hS hf)
  ·cases hs
theorem Zzh{ρ:Type}(hC:C.ok P g)(hsel: ∀(j:Nat) (o:Oper) cs b,ops[j]? =some o->o.op≠ .select cs b){bx:Nat->List Nat}(hbd: ∀i,∀r∈bx i,∀(j:Nat) o,ops[j]? =some o->o.dst≠some r){k:St->Option ρ}{r:ρ}{Qn:Act->World->Prop}
  (hK: ∀w' a' X' F' s',k s'=some r->R n W0 w' X' F' [] s' a'->Qn a' w'):
  ∀{f:Nat} {listed:Array Bool} {s:St} {w:World} {X:Nat->Prop} {Sh:Nat->Prop} {F:Key->List Nat} {a:Act},Qly ops listed->R n W0 w X F [] s a->(∀b,Sh b->X b)->Zwh C n ops bx f listed s k=some r->Zzx W0.gh P ops Qn (Z9o C ops) bx Sh f listed a w
 |0,listed,s,w,X,Sh,F,a,_,h,hS,hr=>by
  simp only[Zwh]at hr;split at hr
  ·rename_i hrd;obtain⟨F',h'⟩:=h.clean;exact⟨hrd,hK w a X F' _ hr h'⟩
  ·cases hr
 |f+1,listed,s,w,X,Sh,F,a,hcl,h,hS,hr=>by
  
  have one: ∀i' o,ops[i']? =some o->i'∈Region.ready .any ops listed->(Qwn C n ops (bx i') o s fun s'=>Zwh C n ops bx f (listed.setIfInBounds i' true) s' k)=some r->
    wpOp P ops QF i' (fun a' w'=>(Qvo ops i'=true\/Qe1 W0.gh (Z9o C ops) bx Sh i' a w w')/\Zzx W0.gh P ops Qn (Z9o C ops) bx Sh f (listed.setIfInBounds i' true) a' w') a w:=by
   intro i' o ho hrdy hr;unfold wpOp;simp only[ho];have:=Qwo (Q:=QF) hC h hS hr (K:=fun a' w'=>(Qvo ops i'=true\/Qe1 W0.gh (Z9o C ops) bx Sh i' a w w')/\Zzx W0.gh P ops Qn (Z9o C ops) bx Sh f (listed.setIfInBounds i' true) a' w')
    (fun w' a' X' F' s' hk hR hmore hpres hhold=>⟨.inr ⟨by simpa[Z9o,ho]using hpres,hhold⟩,Zzh hC hsel hbd hK (Z7i hcl hrdy) hR (fun b hb=>hmore b (hS b hb)) hk⟩)
   split
   ·rename_i hw;rw[if_pos hw]at this;exact .inl this
   ·rename_i hw;rw[if_neg hw]at this;exact this
  simp only[Zwh]at hr;split at hr
  ·rename_i hrd;obtain⟨F',h'⟩:=h.clean;exact⟨fun _=>hK w a X F' _ hr h',fun i hi=>by rw[hrd]at hi;cases hi⟩
  ·rename_i i hrd;refine⟨fun hn=>(by rw[hrd]at hn;cases hn),fun i' hi=> ?_⟩;rw[hrd]at hi;simp only[List.mem_singleton]at hi;subst hi;split at hr
   ·rename_i o ho;split at hr
    ·rename_i E ts hi hrd2 hlb;obtain⟨hg,hE,vs,h1,h2,h3⟩:=Qiq hC h hi;unfold wpOp;simp only[ho];rw[if_pos (by simp[Region.wanted,hg])];refine .inl (Qn5 hC.τ hE h h1 h2 h3 hr fun v w' X' F' s' hk hR=>⟨.inl hlb,?_⟩);obtain⟨F2,h'⟩:=hR.clean;cases f with
     |zero=>exact⟨hrd2,hK w' _ X' F2 _ hk h'⟩
     |succ f=>exact⟨fun _=>hK w' _ X' F2 _ hk h',fun i hi=>by rw[hrd2]at hi;cases hi⟩
    ·exact one _ o ho (by rw[hrd];simp) hr
   ·cases hr
  ·rename_i hrd;split at hr
   ·rename_i i hfind;have hmem:=List.mem_of_find?_eq_some hfind;have hfree:=List.find?_some hfind;simp only[Oba]at hfree;have hfree:=hfree.2;rw[<-hrd]at hmem;split at hr
    ·rename_i o ho;simp only[ho]at hfree;obtain⟨v,X',F',s',hk,hXX,hR,hy⟩: ∃v X' F' s',Zwh C n ops bx f (listed.setIfInBounds i true) s' k=some r/\(∀b,X b->X' b)/\R n W0 w X' F' [] s' (a.put o.dst v)/\Zkt P ops (Dep W0.gh C.τ X s a o w) o v a:=by
      split at hr
      ·rename_i htp;exact Qwt hC h htp hr _
      ·obtain⟨v,F',s',hk,hR,hy⟩:=Qq4 hC h hr;exact⟨v,X,F',s',hk,fun _ h=>h,hR,hy⟩
     refine Qi6 hS _ _ _ _ ?_;refine Qe0 (I:=Dep W0.gh C.τ X s a o w) (J:=fun a'=> ∀j,∀q∈bx j,Qk W0.gh a' (.m q)=Qk W0.gh a (.m q)) ho hsel (fun j q hq=>hbd j q hq i o ho) f listed a w hcl (Dep.refl _ _ _ _ _ _ _) (fun _ _ _=>rfl) (fun j oj hj hne hl hno=> ?_) hmem hy
      (Zzh hC hsel hbd hK (Z7i hcl hmem) hR hXX hk)
     obtain⟨h1,h2⟩:=Qxa hfree ho hj hne hl hno;refine⟨h1,fun a1 a2 w1 w2 hJ hI hst hp=>⟨fun hm=> ?_,fun j' q hq=> ?_⟩⟩
     ·have hI:=hI hm;rcases h2 with h2|h2
      ·unfold Q7q at h2;rw[hm]at h2;simp only at h2;split at h2
       ·rename_i q hq;simp only[hq]at hI⊢;have hqb:q∈bx j:=by
         rw[List.any_eq_true]at h2;obtain⟨z,hz,he⟩:=h2;rw[Onb he];exact hz
        exact fun b hl hb=>(hst.hold b (.inr ⟨q,hqb,by rw[hJ j q hqb];exact hb⟩)).trans (hI b hl hb)
       ·rename_i hq;simp only[hq]at hI⊢;exact fun b hl hb=>(hst.hold b (.inl hb)).trans (hI b hl hb)
       ·cases h2
      ·have hold:=hst.pres (by simpa[Z9o,hj]using h2);have lt1: ∀b,b<w.heap.size->w1.heap[b]? =w.heap[b]?->b<w1.heap.size:=fun b hl he=>by
        rw[Array.getElem?_eq_getElem hl]at he;exact(Array.getElem?_eq_some_iff.1 he).1
       split at hI
       ·rename_i q hq
        try simp only[hq]
        exact fun b hl hb=>(hold b (lt1 b hl (hI b hl hb))).trans (hI b hl hb)
       ·rename_i hq
        try simp only[hq]
        exact fun b hl hb=>(hold b (lt1 b hl (hI b hl hb))).trans (hI b hl hb)
       ·rename_i hq
        try simp only[hq]
        exact Old.trans hI hold
     ·rw[hp q (by rw[hj];exact hbd j' q hq j oj hj)];exact hJ j' q hq
    ·cases hr
   ·refine⟨fun hn=>(by rw[hrd]at hn;cases hn),fun i' hi=> ?_⟩;rw[hrd]at hi;have hm:=Qq5 hr _ (List.mem_map_of_mem (f:=_) hi);split at hm
    ·rename_i o ho;exact one _ o ho (by rw[hrd];exact hi) hm
    ·cases hm
end
end Go.Am

/- The abstract machine, part 4: what a piece of Go code does, as plain data, and that it does so. No condition. -/
import Derived.Test.YtdhchdiikmnmeaaGreatAm3
import Derived.Laws.StructEq
import Derived.ChangeKeysEq
import Derived.Still
namespace Go.Am
open Go.RowKit
def eqL{α:Type}(f:α->α->Bool):List α->List α->Bool| [],[]=>true|x::xs,y::ys=>f x y&&eqL f xs ys|_,_=>false
def eqV: (T:Ty)->T.den->T.den->Bool| .unit,_,_=>true| .int _,x,y=>decide ((x:Int)=y)| .bool,x,y=>(x:Bool)==y| .fnc _,_,_=>false| .str,x,y=>(x:List UInt8)==y| .pair a b,x,y=>eqV a x.1 y.1&&eqV b x.2 y.2| .arr _ t,x,y=>eqL (eqV t) x y| .slice _ _,_,_=>false| .err,_,_=>false| .hid _,_,_=>false| .sptr ..,_,_=>false| .clo ..,_,_=>false
structure Qvk(P:Program)(e:TypeId)(T:Ty):Prop where
 guard: ∀(w:World) (op:BinOp) (p q:Operand) (u v:List Value),(eqGuard op e p q (Xr T u) (Xr T v)).run P w= .ok () w
 eql: ∀(w w2 w3:World) (X Y:Nat->Prop) (B:Nat) (x y:T.den) (u v:List Value),rd w2 X B false T x u []->rd w3 Y B false T y v []->(binOp .eql e (Xr T u) (Xr T v)).run P w= .ok (.bool (eqV T x y)) w
 neq: ∀(w w2 w3:World) (X Y:Nat->Prop) (B:Nat) (x y:T.den) (u v:List Value),rd w2 X B false T x u []->rd w3 Y B false T y v []->(binOp .neq e (Xr T u) (Xr T v)).run P w= .ok (.bool (!(eqV T x y))) w
structure Cfg where
 τ:Tab
 eq:TypeId->Bool
 Γ:Env
 lent:List Nat:=[]
 ΓL:Z20:=[]
 ΓB:Zvr:=[]
 soft:Bool:=false
 ΓW:Zxp:=[]
 pt:Zl0:={}
 inl:Z6n:=[]
structure Cfg.ok(C:Cfg)(P:Program)(g:Jc):Prop where
 τ:C.τ.ok P
 eq: ∀e T,C.eq e=true->C.τ e=some T->Qvk P e T
 Γ:C.Γ.ok P g
 follows:P.follows .mixedOrders=true
 ΓL:C.ΓL.ok P g
 ΓB:C.ΓB.ok P g
 soft:g.soft=C.soft
 softG:C.soft=true-> ∃w0 L,g=Zs3 w0 L
 ΓW:C.ΓW.ok P
 pt:C.pt.ok P
 inl:C.inl.ok P g
section
variable {P:Program} {g:Jc} {W0:Wj g} {w w':World} {X X':Nat->Prop} {B B' n:Nat} {own:Bool} {s:St} {F:Key->List Nat} {a:Act} {H H':List Nat} {o:Oper} {tg:Xh} {τ:Tab} {C:Cfg} {gh:Nat->Value}
def Q2z(C:Cfg)(s:St)(tg:Xh)(op:BinOp)(e:TypeId)(x y:Operand):Option Res:=
 match C.eq e,C.τ e with
 |true,some T=>match Ws s (op1 s tg x) T,Ws s (op1 s tg y) T with
  |some u,some v=>match op with
   | .eql=>some ⟨.val .bool (.u false) (eqV T u v),s,false,none⟩
   | .neq=>some ⟨.val .bool (.u false) (!(eqV T u v)),s,false,none⟩
   |_=>none
  |_,_=>none
 |_,_=>none
theorem Zv6(h:R n W0 w X F H s a)(ht:tg.ok W0.gh a)(hC:C.ok P g){op:BinOp}{e e2:TypeId}{x y:Operand}(ho:o.op= .binOp op e x y e2){r:Res}(hr:Q2z C s tg op e x y=some r):Zap P C.τ W0 w X F s a o r:=by
 unfold Q2z at hr;split at hr
 ·rename_i T he hT;split at hr
  ·rename_i u v hu hv;obtain⟨us,h1,h2⟩:=V2 h ht hu;obtain⟨vs,k1,k2⟩:=V2 h ht hv;have hE:=hC.eq e T he hT;split at hr
   ·simp only[Osi]at hr;subst hr;refine Yg rfl fun _=>⟨_,fun w' _=> ?_,Zsh _⟩
    simp only[execOp,ho,h1,k1,Sem.run_bind,hE.guard,Result.andThen_ok,hE.eql w' w w _ _ _ u v us vs h2 k2,Sem.run_pure]
   ·simp only[Osi]at hr;subst hr;refine Yg rfl fun _=>⟨_,fun w' _=> ?_,Zsh _⟩
    simp only[execOp,ho,h1,k1,Sem.run_bind,hE.guard,Result.andThen_ok,hE.neq w' w w _ _ _ u v us vs h2 k2,Sem.run_pure]
   ·cases hr
  ·cases hr
 ·cases hr
def Zwd(s:St)(tg:Xh)(x:Operand):Option Res:=
 match op1 s tg x with
 | .tm k t=>match Z55 s k t with
  |some r=>match r.t with
   | .ptr _ _| .shp _ _=>some r
   | .elp q p _ _=>match s.bad q p with|false=>some r|true=>none
   |_=>none
  |none=>none
 |_=>none
theorem Zwe(h:R n W0 w X F H s a)(ht:tg.ok W0.gh a){x:Operand}(ho:o.op= .nilCheck x){r:Res}(hr:Zwd s tg x=some r):Zap P τ W0 w X F s a o r:=by
 unfold Zwd at hr;split at hr
 ·rename_i k t hx;split at hr
  ·rename_i r' hr';obtain⟨h1,h2⟩:=Zrv h ht hx hr';have key:r'=r/\ ∃ad,a.eval x= .pointer (some ad):=by
    split at hr
    ·rename_i q p ht';rw[ht']at h2;obtain⟨_,e,T,f,y,b,S',_,_,h3⟩:=h2;exact⟨by simpa using hr,_,h3⟩
    ·rename_i T y ht';rw[ht']at h2;obtain⟨_,ad,vs,h3,_⟩:=h2;exact⟨by simpa using hr,_,h3⟩
    ·rename_i q p i z ht';rw[ht']at h2;split at hr
     ·rename_i hf;obtain⟨e,t',ad,n',cap,_,_,_,h3⟩:=h2.2 hf;exact⟨by simpa using hr,_,h3⟩
     ·cases hr
    ·cases hr
   obtain⟨rfl,ad,he⟩:=key;refine Yg h1 fun _=>⟨_,fun w' _=> ?_,h2⟩
   simp only[execOp,ho,he];rfl
  ·cases hr
 ·cases hr
def Qxq(C:Cfg)(s:St)(tg:Xh)(o:Oper):Option Res:=
 match o.op with
 | .move x=>Z0e C.τ s tg o.type x
 | .assign x=>Zuk C.τ s tg o.type x
 | .pick c x y=>Qoc C.τ s tg o.type c x y
 | .alloc e=>Qox C.τ s e
 | .box e x=>Q0e C.τ s tg e x
 | .build e ps=>match C.τ e with
  |some (.arr _ _)=>Z26 C.τ s tg e ps
  |_=>Qo7 C.τ s tg e ps
 | .buildSlice e n ps=>match C.τ e,C.soft with
  |none,false=>Q1n C.pt s tg e n ps
  |_,_=>match Zw1 C.τ s tg e n ps with
   |some r=>some r
   |none=>Z27 C.τ s tg e n ps
 | .load e x=>match C.τ e with
  |none=>Qwo C.pt s tg e x
  |some _=>Qob C.τ s tg e x
 | .binOp op e x y e2=>match C.τ e with
  |some (.pair _ _)|some (.arr _ _)=>Q2z C s tg op e x y
  |none=>match C.pt.isPtr e with
   |true=>Qr5 C.pt s tg op e x y
   |false=>Q0t C.pt s tg op e x y
  |_=>Qvp C.τ s tg op e x y e2
 | .unOp op e x=>Q4c C.τ s tg op e x
 | .convert e e2 x=>Qn1 C.τ s tg e e2 x
 | .makeSlice e x y=>Qwq C.τ s tg e x y
 | .slice e x lo hi none=>match C.soft with
  |true=>none
  |false=>Qsi C.τ s tg e x lo hi
 | .nilCheck x=>Zwd s tg x
 | .fieldAddr e x i=>Qec C.τ s tg e x i
 | .indexAddr e x i=>match C.τ e with
  |none=>Q05 C.pt s tg e x i
  |some _=>Zt4 C.τ s tg e x i
 | .index e x i=>Qel C.τ s tg e x i
 | .extract x i=>Qac s x i
 | .makeFunc (.func f) ⟨[]⟩ ⟨[]⟩=>some ⟨.val (.fnc f) (.u true) (),s,false,none⟩
 | .call {callee:= .builtin .len,args:=⟨[x]⟩,argTypes:=⟨[e]⟩}=>match C.τ e with
  |none=>Q09 C.pt s tg e x
  |some _=>Qwn C.τ s tg e x
 | .call {callee:= .builtin .min,args:=⟨[x,y]⟩,argTypes:=⟨[e,_]⟩}=>Qii s tg e C.τ x y false
 | .call {callee:= .builtin .max,args:=⟨[x,y]⟩,argTypes:=⟨[e,_]⟩}=>Qii s tg e C.τ x y true
 | .call {callee:= .builtin .append,args:=⟨[x,y]⟩,argTypes:=⟨[e,e2]⟩}=>match Nat.beq e e2 with
  |true=>match Qgy C.τ s tg e x y with
   |some r=>some r
   |none=>match Qvm C.τ s tg e x y with
    |some r=>some r
    |none=>Qcu C.soft C.τ s tg e x y
  |false=>none
 |_=>none
theorem Qgq(h:R n W0 w X F H s a)(ht:tg.ok W0.gh a)(hC:C.ok P g){r:Res}(hr:Qxq C s tg o=some r):Zpx P n W0 w X H s a o r:=by
 unfold Qxq at hr;split at hr
 ·rename_i ho;exact(Zxh h ht ho hr).sound h
 ·rename_i ho;exact Qlo h ht ho hr
 ·rename_i ho;exact(Z83 h ht ho hr).sound h
 ·rename_i ho;exact Qoy h hC.τ ho hr
 ·rename_i ho;exact Qvr h ht ho hr
 ·rename_i ho;split at hr
  ·exact Qcx h ht hC.τ ho hr
  ·exact Qo8 h ht hC.τ ho hr
 ·rename_i ho;split at hr
  ·rename_i _ hsf;exact Qw5 (hC.soft.trans hsf) h ht hC.pt ho hr
  ·split at hr
   ·rename_i hr2;cases hr;exact Z6q h ht hC.τ ho hr2
   ·exact Qcy h ht hC.τ ho hr
 ·rename_i ho;split at hr
  ·exact(Qts (τ:=C.τ) h ht hC.pt ho hr).sound h
  ·exact(Z80 h ht hC.τ ho hr).sound h
 ·rename_i ho;split at hr
  ·exact(Zv6 h ht hC ho hr).sound h
  ·exact(Zv6 h ht hC ho hr).sound h
  ·split at hr
   ·exact(Qr6 (τ:=C.τ) h ht hC.pt ho hr).sound h
   ·exact(Qwa (τ:=C.τ) h ht hC.pt ho hr).sound h
  ·exact(Qcw h ht hC.τ ho hr).sound h
 ·rename_i ho;exact(Qli h ht ho hr).sound h
 ·rename_i ho;exact(Z8o h ht hC.τ ho hr).sound h
 ·rename_i ho;exact Qtt h ht hC.τ ho hr
 ·rename_i ho;split at hr
  ·cases hr
  ·rename_i hsf;exact Qsj (hC.soft.trans hsf) h ht hC.τ ho hr
 ·rename_i ho;exact(Zwe (τ:=C.τ) h ht ho hr).sound h
 ·rename_i ho;exact(Z3q h ht hC.τ ho hr).sound h
 ·rename_i ho;split at hr
  ·exact(Qwg (τ:=C.τ) h ht hC.pt ho hr).sound h
  ·exact(Zuv h ht hC.τ ho hr).sound h
 ·rename_i ho;exact(Z35 h ht hC.τ ho hr).sound h
 ·rename_i ho;exact Qh3 h ho hr
 ·rename_i f ho;simp only[Osi]at hr;subst hr;exact Zpe h rfl fun _=>⟨_,by simp[execOp,ho,Instr.makeFunc],Qxr f⟩
 ·rename_i ho;split at hr
  ·exact(Qwm (τ:=C.τ) h ht hC.pt ho hr).sound h
  ·exact(Qeo h ht hC.τ ho hr).sound h
 ·rename_i ho;exact(Zt6 h ht (mx:=false) ho hr).sound h
 ·rename_i ho;exact(Zt6 h ht (mx:=true) ho hr).sound h
 ·rename_i e e2 ho;split at hr
  ·rename_i he;have:=Onb he;subst this;split at hr
   ·rename_i hr2;cases hr;exact Qln h ht hC.τ ho hr2
   ·split at hr
    ·rename_i hr2;cases hr;exact Qsx h ht hC.τ ho hr2
    ·cases hsf:C.soft with
     |false=>exact Qoz (hC.soft.trans hsf) h ht hC.τ ho hr
     |true=>rw[hsf]at hr;simp[Qcu]at hr
  ·cases hr
 ·cases hr
def Qcz(s:St):Nat->Nat->Bool->Option Xh
 |0,_,_=>none
 |d+1,g,b=>match s.foul g with
  |true=>none
  |false=>match s.get (.m g)with
   | .gd g2 b2 _=>match Qcz s d g2 b2 with
    |some tg=>some ((g,b)::tg)
    |none=>none
   | .val .bool _ _=>some [(g,b)]
   |_=>none
def Qso(s:St):Xh->Prop->Option Prop
 | [],p=>some p
 | (g,b)::tg,p=>match Ws s (op1 s tg (.tmp g)) .bool with
  |some c=>Qso s tg (c=b->p)
  |none=>none
noncomputable def Zi{ρ:Type}(p:Prop)(m:Option ρ):Option ρ:=by
 classical exact if p then m else none
theorem Zv7{ρ:Type}{p:Prop}{m:Option ρ}{r:ρ}:Zi p m=some r↔p/\m=some r:=by
 unfold Zi;split<;>simp_all
theorem Zb{ρ:Type}{p:Prop}{m:Option ρ}(h:p):Zi p m=m:=by
 unfold Zi;rw[if_pos h]
noncomputable def Qq5{ρ:Type}(o:Ob)(m:Option ρ):Option ρ:=
 match o with
 |none=>m
 |some p=>Zi p m
theorem Z3s{ρ:Type}{o:Ob}{m:Option ρ}{r:ρ}:Qq5 o m=some r↔o.ok/\m=some r:=by
 cases o with
 |none=>simp[Qq5,Ob.ok]
 |some p=>exact Zv7
noncomputable def Qxm{ρ:Type}(s:St)(tg:Xh)(o:Ob)(m:Option ρ):Option ρ:=
 match o with
 |none=>m
 |some p=>match Qso s tg p with
  |some q=>Zi q m
  |none=>none
def Qpl(s:St):Xh->Option (List (Bool×Bool))
 | []=>some []
 | (g,b)::tg=>match Ws s (op1 s tg (.tmp g)) .bool,Qpl s tg with
  |some c,some r=>some ((c,b)::r)
  |_,_=>none
def Qz3{α:Type}(d:α)(m:Option α):List (Bool×Bool)->Option α| []=>m| (c,true)::r=>bif c then Qz3 d m r else some d| (c,false)::r=>bif c then some d else Qz3 d m r
theorem Zvz(h:R n W0 w X F H s a): ∀{d g:Nat} {b:Bool} {tg:Xh},Qcz s d g b=some tg->Ql W0.gh a (.m g)= .bool b->tg.ok W0.gh a
 |0,_,_,_,hc,_=>by cases hc
 |d+1,g,b,tg,hc,hb=>by
  simp only[Qcz]at hc;split at hc
  ·cases hc
  ·rename_i hf;split at hc
   ·rename_i g2 b2 t hg;split at hc
    ·rename_i tg2 hc2;simp only[Osi]at hc;subst hc;have hs:=h.slots (.m g);rw[hg]at hs;have hf2:s.foul g2=false:=by
      cases d with
      |zero=>cases hc2
      |succ d=>
       simp only[Qcz]at hc2;split at hc2
       ·cases hc2
       ·assumption
     obtain⟨_,_,h3⟩:=hs hf2;have hg2:Ql W0.gh a (.m g2)= .bool b2:=Classical.byContradiction fun hne=>by
      obtain⟨_,hu⟩:=h3 hne;rw[hb]at hu;cases hu
     intro p hp;rcases List.mem_cons.1 hp with rfl|hp
     ·exact hb
     ·exact Zvz h hc2 hg2 p hp
    ·cases hc
   ·simp only[Osi]at hc;subst hc;intro p hp;simp only[List.mem_singleton]at hp;subst hp;exact hb
   ·cases hc
theorem Qgo(h:R n W0 w X F H s a): ∀{tg:Xh} {p q:Prop},Qso s tg p=some q->q->Xh.ok tg W0.gh a->p
 | [],p,q,hu,hq,_=>by simp only[Qso,Osi]at hu;subst hu;exact hq
 | (g,b)::tg,p,q,hu,hq,ht=>by
  simp only[Qso]at hu;split at hu
  ·rename_i c hc;have ht2:Xh.ok tg W0.gh a:=fun p hp=>ht p (List.mem_cons_of_mem _ hp);have h1:=Zjk h ht2 hc;have h2:=ht (g,b) (List.mem_cons_self ..);have h3:c=b:=by
    have h1':Ql W0.gh a (.m g)= .bool c:=(Yf W0 a (Zyz hc)).trans h1;rw[h2]at h1';injection h1' with e
    exact e.symm
   exact Qgo h hu hq ht2 h3
  ·cases hu
theorem Qgp{ρ:Type}(h:R n W0 w X F H s a){tg:Xh}{o:Ob}{m:Option ρ}{r:ρ}(hu:Qxm s tg o m=some r):m=some r/\(Xh.ok tg W0.gh a->o.ok):=by
 unfold Qxm at hu;split at hu
 ·exact⟨hu,fun _=>trivial⟩
 ·split at hu
  ·rename_i q' hq';rw[Zv7]at hu;exact⟨hu.2,fun ht=>Qgo h hq' hu.1 ht⟩
  ·cases hu
theorem Qc3(h:R n W0 w X F H s a): ∀{tg:Xh} {cs:List (Bool×Bool)},Qpl s tg=some cs->Xh.ok tg W0.gh a-> ∀{α:Type} (d:α) (m:Option α),Qz3 d m cs=m
 | [],cs,hc,_,_,d,m=>by simp only[Qpl,Osi]at hc;subst hc;rfl
 | (g,b)::tg,cs,hc,ht,_,d,m=>by
  simp only[Qpl]at hc;split at hc
  ·rename_i c r hcr hr;simp only[Osi]at hc;subst hc;have ht2:Xh.ok tg W0.gh a:=fun p hp=>ht p (List.mem_cons_of_mem _ hp);have h1:Ql W0.gh a (.m g)= .bool c:=(Yf W0 a (Zyz hcr)).trans (Zjk h ht2 hcr);have h2:=ht (g,b) (List.mem_cons_self ..);rw[h1]at h2;injection h2 with e
   simp only at e;subst e;have ih:=Qc3 h hr ht2 d m;cases c<;>simp[Qz3,ih]
  ·cases hc
def Qjs: (ts:List Ty)->K5 ts->Option TV| [t],r=>some ⟨t,r.1⟩|_,_=>none
theorem Q12: ∀{ts:List Ty} {r:K5 ts} {v:TV} {rs:List Value} {S:List Nat},Qjs ts r=some v->Zfk w B ts r rs S-> ∃cs,Xp rs=Xr v.1 cs/\rd w (fun _=>False) B true v.1 v.2 cs S
 | [t],r,v,rs,S,h,hx=>by
  simp only[Qjs,Osi]at h;subst h;obtain⟨cs,us',S1,S2,rfl,rfl,g1,rfl,rfl⟩:=hx;exact⟨cs,rfl,by simpa using g1⟩
 | [],_,_,_,_,h,_=>by simp[Qjs]at h
 |_::_::_,_,_,_,_,h,_=>by simp[Qjs]at h
theorem J8:Xh.ok [] W0.gh a:=fun p hp=>by cases hp
theorem Qt9{d g:Nat}{b:Bool}{tg:Xh}(hc:Qcz s d g b=some tg):s.get (.m g)≠ .junk:=by
 cases d with
 |zero=>cases hc
 |succ d=>
  simp only[Qcz]at hc;split at hc
  ·cases hc
  ·split at hc
   ·rename_i hg;rw[hg];simp
   ·rename_i hg;rw[hg];simp
   ·cases hc
def Q8t: (ts:List Ty)->K5 ts| []=>()|t::ts=>(zero t,Q8t ts)
noncomputable def gdK{ρ:Type}(C:Cfg)(o:Oper)(s:St)(tg:Xh)(g:Nat)(b:Bool)(d:Nat)(k:St->Option ρ):Option ρ:=
 match o.op with
 | .call {callee:= .value fo,args:=xs,..}=>match(Qtr s tg fo).bind C.Γ.find with
  |some e=>match Zn8 s tg e.args xs.toList,Qpl s tg,Qjs e.res (Q8t e.res)with
   |some us,some cs,some _=>(Qz3 (Q8t e.res) (e.F us) cs).bind fun r=>match Qjs e.res r with
    |some v=>k (Kl s d (.gd g b (.val v.1 (.u true) v.2)))
    |none=>none
   |_,_,_=>none
  |none=>none
 |_=>match Qxq C s tg o with
  |some r=>match r.moved with
   |false=>Qxm s tg r.obl (k (Kl s d (.gd g b r.t)))
   |true=>none
  |none=>none
def Q6k(s:St):List Operand->Option (List Nat)
 | []=>some []
 |x::xs=>match Qu5 (op1 s [] x),Q6k s xs with
  |some q,some l=>match s.get (.m q)with
   | .box .. =>some (q::l)
   |_=>none
  |_,_=>none
theorem Qpd(h:R n W0 w X F H s a): ∀{xs:List Operand} {l:List Nat},Q6k s xs=some l->(xs.map a.eval).length=l.length/\ ∀(j:Nat) (q:Nat),l[j]? =some q-> ∃u,(xs.map a.eval)[j]? =some u/\atP s F q [] u
 | [],l,hl=>by simp only[Q6k,Osi]at hl;subst hl;exact⟨rfl,fun j q h=>by simp at h⟩
 |x::xs,l,hl=>by
  simp only[Q6k]at hl;split at hl
  ·rename_i q l' hq hl';split at hl
   ·rename_i e T f y hg;simp only[Osi]at hl;subst hl;obtain⟨h1,h2⟩:=Qpd h hl';refine⟨by simpa using h1,fun j q' hj=> ?_⟩;cases j with
    |zero=>
     simp only[List.getElem?_cons_zero,Osi]at hj;subst hj;have hs:=h.slots (.m q);rw[hg]at hs;obtain⟨b,c,S',g1,g2,_⟩:=hs;refine⟨a.eval x,by simp,e,T,f,y,b,S',hg,g2,?_⟩;rw[Zwt h hq hg,g1];have:Jz T []=0:=by cases T<;>rfl
     rw[this]
    |succ j=>simpa using h2 j q' (by simpa using hj)
   ·cases hl
  ·cases hl
noncomputable def Qzr{ρ:Type}(C:Cfg)(n:Nat)(ops:Array Oper)(o:Oper)(s:St)(k:St->Option ρ):Option ρ:=
 match o.guard with
 |none=>match o.op with
  | .store e x v=>match o.dst with
   |none=>match Qgk C.τ s [] e x v with
    |some s'=>k s'
    |none=>none
   |some _=>none
  | .call {callee:= .value fo,args:=xs,..}=>match Qtr s [] fo with
   |some f=>Q6i C.Γ n s [] o.dst f xs.toList k
   |none=>match Qxz s [] fo with
    |some c=>Q6h C.Γ n s [] o.dst c xs.toList k
    |none=>none
  | .makeFunc (.func f) ⟨[]⟩ ⟨c::cs⟩=>match C.inl.find f with
   |some _=>match Q6k s (c::cs),o.dst with
    |some l,some d=>match J0 s d&&Nat.blt d n with
     |true=>k (Kl s d (.cl f l))
     |false=>none
    |_,_=>none
   |none=>match C.soft,Q6j s (c::cs),o.dst with
    |false,some (U,s'),some d=>match J0 s' d&&Nat.blt d n with
     |true=>k (Kl s' d (.val (.clo f U.1) (.u false) U.2))
     |false=>none
    |_,_,_=>none
  | .move (.tmp q)=>match s.get (.m q),o.dst with
   | .tup,some d=>match J0 s d&&Nat.blt d n&&Nat.blt q 1048576 with
    |true=>k (Qlh s q d)
    |false=>none
   |_,_=>match Z0e C.τ s [] o.type (.tmp q),o.dst with
    |some r,some d=>match J0 r.s d&&Nat.blt d n with
     |true=>Qq5 r.obl (k (Kl r.s d r.t))
     |false=>none
    |_,_=>none
  |_=>match Qxq C s [] o,o.dst with
   |some r,some d=>match J0 r.s d&&Nat.blt d n with
    |true=>Qq5 r.obl (k (Kl r.s d r.t))
    |false=>none
   |_,_=>none
 |some (j,b)=>match(ops[j]?).bind (·.dst),o.dst with
  |some g,some d=>match Qcz s 8 g b,J0 s d&&Nat.blt d n&&Nat.blt g 1048576 with
   |some tg,true=>gdK C o s tg g b d k
   |_,_=>none
  |_,_=>none
structure Q8x(gh:Nat->Value)(C:Cfg)(o:Oper)(X X':Nat->Prop)(s:St)(a a':Act)(w w':World):Prop where
 more: ∀b,X b->X' b
 pres:Q1o o.op=true->Old w w'
 kept:Qlm gh X s a (Qnx C.τ s o) w w'
 put: ∃v,a'=a.put o.dst v
theorem R.fact(h:R n W0 w X F H s a){o:Oper}{v:Value}(hold:Old w w'):Q8x W0.gh C o X X s a (a.put o.dst v) w w':=⟨fun _ h=>h,fun _=>hold,h.kept hold,⟨v,rfl⟩⟩
theorem Qlm.any{tgt:Option Nat}(h:Qlm W0.gh X s a none w w'):Qlm W0.gh X s a tgt w w':=fun b hb=>h b (hb.imp id fun⟨r,h1,_,h2⟩=>⟨r,h1,by simp,h2⟩)
theorem Q4z{ρ:Type}(hC:C.ok P g)(h:R n W0 w X F [] s a){g d:Nat}{b:Bool}(hd:o.dst=some d)(hch:Qcz s 8 g b=some tg)(hdn:J0 s d=true/\d<n){k:St->Option ρ}{r:ρ}(hs:gdK C o s tg g b d k=some r)
  {K:Act->World->Prop} {Q:Exit->Act->World->Prop} (hK: ∀w' a' X' F' s',k s'=some r->R n W0 w' X' F' [] s' a'->Q8x W0.gh C o X X' s a a' w w'->K a' w'):
  (Ql W0.gh a (.m g)= .bool b->o.wp P a w K Q)/\(Ql W0.gh a (.m g)≠ .bool b->K (a.put o.dst undef) w):=by
 have hgj:=Qt9 hch;have skip: ∀{t:Tm},Ql W0.gh a (.m g)≠ .bool b->k (Kl s d (.gd g b t))=some r->K (a.put o.dst undef) w:=by
  intro t hne he;rw[hd];exact hK w _ X _ _ he ((by simpa using h:R n W0 w X F ([]++ []) s a).put (S:=[]) hdn.1 hdn.2 fun _=>⟨hgj,fun hb=>absurd hb hne,fun _=>⟨rfl,rfl⟩⟩) (by rw[<-hd];exact h.fact (Old.refl w))
 unfold gdK at hs;split at hs
 ·rename_i fo xs ats ho;split at hs
  ·rename_i e he0;obtain⟨f,hf,he⟩:=Option.bind_eq_some_iff.1 he0;split at hs
   ·rename_i us cs v0 hus hcs hv0;rw[Option.bind_eq_some_iff]at hs;obtain⟨rv,hrv,hk⟩:=hs;split at hk
    ·rename_i v hv;refine⟨fun hb=> ?_,fun hb=>skip hb hk⟩;have ht:=Zvz h hch hb;rw[Qc3 h hcs ht]at hrv;refine Z9e hC.Γ h ht (Zjf h ht hf) ho he hus hrv fun rs S w' hR hres hold=> ?_;obtain⟨cs,k1,k2⟩:=Q12 hv hres;rw[hd];exact hK w' _ X _ _ hk (hR.put hdn.1 hdn.2 fun _=>⟨hgj,fun _=>⟨cs,k1,by unfold rdF;exact Zdd (Nat.le_refl _) (fun _ (h:False)=>h.elim) k2⟩,fun hne=>absurd hb hne⟩) (by rw[<-hd];exact h.fact hold)
    ·cases hk
   ·cases hs
  ·cases hs
 ·split at hs
  ·rename_i r0 hv;split at hs
   ·rename_i hm;obtain⟨hk,hob⟩:=Qgp h hs;refine⟨fun hb=> ?_,fun hb=>skip hb hk⟩;have ht:=Zvz h hch hb;refine Qgq h ht hC hv (hob ht) K Q fun v X' F' S w' hX hR hvt hms hold=> ?_;have hs0:=hms hm;rw[hs0]at hR hvt;rw[hd];exact hK w' _ X' _ _ hk (hR.put hdn.1 hdn.2 fun _=>⟨hgj,fun _=>hvt,fun hne=>absurd hb hne⟩) (by rw[<-hd];exact⟨hX,hold.1,hold.2.any,_,rfl⟩)
   ·cases hs
  ·cases hs
theorem Qlg{ρ:Type}(hC:C.ok P g){ops:Array Oper}(h:R n W0 w X F [] s a){k:St->Option ρ}{r:ρ}(hs:Qzr C n ops o s k=some r){K:Act->World->Prop}{Q:Exit->Act->World->Prop}
  (hK: ∀w' a' X' F' s',k s'=some r->R n W0 w' X' F' [] s' a'->Q8x W0.gh C o X X' s a a' w w'->K a' w'):if Region.wanted o (yielded ops a.tmps)then o.wp P a w K Q else K (a.put o.dst undef) w:=by
 unfold Qzr at hs;split at hs
 ·rename_i hg;rw[if_pos (by simp[Region.wanted,hg])];split at hs
  ·rename_i e x v ho;split at hs
   ·rename_i hd;split at hs
    ·rename_i s' hst;exact Qsn h hC.τ ho hd hst fun w' F' hR hkept=>hK w' a X F' s' hs hR ⟨fun _ h=>h,fun hp=>(by rw[ho]at hp;cases hp),hkept,undef,by rw[hd];rfl⟩
    ·cases hs
   ·cases hs
  ·rename_i fo xs ats ho;split at hs
   ·rename_i f hf;exact Qxy hC.Γ h J8 (Zjf h J8 hf) ho hs fun v w' F' s' hk hR hold=>hK w' _ X F' s' hk hR (h.fact hold)
   ·split at hs
    ·rename_i c hc;exact Qxx hC.Γ h J8 hc ho hs fun v w' F' s' hk hR hold=>hK w' _ X F' s' hk hR (h.fact hold)
    ·cases hs
  ·rename_i f c cs ho;split at hs
   ·split at hs
    ·rename_i l d hcap hd;split at hs
     ·rename_i hdn;simp only[Oba,Nat.blt_eq]at hdn;obtain⟨g1,g2⟩:=Qpd h hcap;unfold Oper.wp;simp only[execOp,ho,Instr.makeFunc,Oper.upon];rw[hd];refine hK w _ X _ _ hs ((by simpa using h:R n W0 w X F ([]++ []) s a).put hdn.1 hdn.2 (t:= .cl f l) ⟨rfl,(c::cs).map a.eval,by simp,g1,g2⟩) (by rw[<-hd];exact h.fact (Old.refl w))
     ·cases hs
    ·cases hs
   ·split at hs
    ·rename_i U s' d hsf hcap hd;split at hs
     ·rename_i hdn;simp only[Oba,Nat.blt_eq]at hdn;obtain⟨X',F',g1,g2,g3⟩:=Qpc (hC.soft.trans hsf) h hcap;unfold Oper.wp;simp only[execOp,ho,Instr.makeFunc,Oper.upon];rw[hd];refine hK w _ X' _ _ hs ((by simpa using g1:R n W0 w X' F' ([]++ []) s' a).put hdn.1 hdn.2 (t:= .val (.clo f U.1) (.u false) U.2) ⟨[.func (.func f) #[] (List.map a.eval (c::cs)).toArray],by simp[Xr],by unfold rdF;exact⟨rfl,_,rfl,g3⟩⟩) (by rw[<-hd];exact⟨g2,fun _=>Old.refl w,h.kept (Old.refl w),_,rfl⟩)
     ·cases hs
    ·cases hs
  ·rename_i q ho;split at hs
   ·rename_i d hq hd;split at hs
    ·rename_i hdn;have hqb:Nat.blt q 1048576=true:=by simp only[Oba]at hdn;exact hdn.2
     simp only[Oba,Nat.blt_eq]at hdn;obtain⟨F',hF'⟩:=h.tupTo hq hdn.1.1 hdn.1.2;rw[Yf W0 a hqb]at hF';unfold Oper.wp;simp only[execOp,ho,Sem.run_pure,Oper.upon];rw[hd];exact hK w _ X F' _ hs hF' (by rw[<-hd];exact h.fact (Old.refl w))
    ·cases hs
   ·split at hs
    ·rename_i r0 d hv hd;split at hs
     ·rename_i hdn;simp only[Oba,Nat.blt_eq]at hdn;rw[Z3s]at hs;refine(Zxh h J8 ho hv).sound h hs.1 K Q fun v X' F' S w' hX hR hvt _ hold=> ?_;rw[hd];exact hK w' _ X' _ _ hs.2 (hR.put hdn.1 hdn.2 hvt) (by rw[<-hd];exact⟨hX,hold.1,hold.2.any,_,rfl⟩)
     ·cases hs
    ·cases hs
  ·split at hs
   ·rename_i r0 d hv hd;split at hs
    ·rename_i hdn;simp only[Oba,Nat.blt_eq]at hdn;rw[Z3s]at hs;refine Qgq h J8 hC hv hs.1 K Q fun v X' F' S w' hX hR hvt _ hold=> ?_;rw[hd];exact hK w' _ X' _ _ hs.2 (hR.put hdn.1 hdn.2 hvt) (by rw[<-hd];exact⟨hX,hold.1,hold.2.any,_,rfl⟩)
    ·cases hs
   ·cases hs
 ·rename_i j b hg;split at hs
  ·rename_i g d hj hd;split at hs
   ·rename_i tg hch hdn;have hgb:Nat.blt g 1048576=true:=by simp only[Oba]at hdn;exact hdn.2
    simp only[Oba,Nat.blt_eq]at hdn;have key:=Q4z (Q:=Q) hC h hd hch hdn.1 hs hK;by_cases hb:Ql W0.gh a (.m g)= .bool b
    ·have hglt:g<a.tmps.size:=by
      have hb':a.tmps.getD g undef= .bool b:=(Yf W0 a hgb).symm.trans hb;rcases Nat.lt_or_ge g a.tmps.size with h'|h'
      ·exact h'
      ·rw[Array.getD_eq_getD_getElem?,Array.getElem?_eq_none h']at hb';cases hb'
     have hy:Region.wanted o (yielded ops a.tmps)=true:=by
      have hb':a.tmps[g]? =some (.bool b):=by
       have hb':a.tmps.getD g undef= .bool b:=(Yf W0 a hgb).symm.trans hb;rw[Array.getD_eq_getD_getElem?,Array.getElem?_eq_getElem hglt]at hb';rw[Array.getElem?_eq_getElem hglt];simpa using hb'
      simp[Region.wanted,hg,yielded,hj,hb']
     rw[if_pos hy];exact key.1 hb
    ·have hy: ¬Region.wanted o (yielded ops a.tmps)=true:=by
      intro hy;simp only[Region.wanted,hg,yielded,hj,Obs,beq_iff_eq]at hy;apply hb;split at hy
      ·rename_i c hc;simp only[Osi]at hy;subst hy;simp[Ql,Zlr,hc]
      ·cases hy
     rw[if_neg hy];exact key.2 hb
   ·cases hs
  ·cases hs
end
end Go.Am
namespace Go.Am
open Go.RowKit
def Zhp:Ty->Nat| .pair a b=>max (Zhp a+1) (Zhp b)| .arr _ t=>Zhp t+1|_=>1
def eqB(P:Program):Ty->TypeId->List Field->Nat->Bool->Bool
 | .int _,e,_,_,true=>match P.underlying e with|some (.int _)=>Zs2 P e (.int .i64)|_=>false
 | .bool,e,_,_,true=>match P.underlying e with|some .bool=>Zs2 P e .bool|_=>false
 | .str,e,_,_,true=>match P.underlying e with|some .string=>Zs2 P e .str|_=>false
 | .unit,e,_,_,true=>match P.underlying e with|some (.struct fs)=>fs.toList.isEmpty&& !P.stoodInHeld e&&Zs2 P e .unit|_=>false
 | .pair a b,e,_,_,true=>match P.underlying e with
  |some (.struct fs)=>match fs.toList with
   | f :: r => !P.stoodInHeld e && Zs2 P e (.pair a b) && f.name != "_" && Nat.beq f.offset 0 && eqB P a f.type [] 0 true && eqB P b 0 r a.size false
   | []=>false
  |_=>false
 | .arr n t,e,_,_,true=>match P.underlying e with
  |some (.array m e2)=>Nat.beq m n&&Zs2 P e (.arr n t)&&eqB P t e2 [] 0 true
  |_=>false
 | .unit,_,fs,_,false=>fs.isEmpty
 | .pair a b,_,fs,off,false=>match fs with
  | f :: r => f.name != "_" && Nat.beq f.offset off && eqB P a f.type [] 0 true && eqB P b 0 r (off + a.size) false
  | []=>false
 |_,_,_,_,_=>false
section
variable {P:Program}
theorem Qye{T:Ty}{e:TypeId}{fs:List Field}{off:Nat}(h:eqB P T e fs off true=true): ∃i,P.info? e=some i/\i.size=T.size:=by
 have key: ∀U:Ty,U.size=T.size->Zs2 P e U=true-> ∃i,P.info? e=some i/\i.size=T.size:=fun U hU hs=>by
  obtain⟨i,h1,h2,_⟩:=Zmi hs;exact⟨i,h1,by rw[h2,hU]⟩
 cases T<;>simp only[eqB]at h
 case int k=>split at h<;>first|exact key _ rfl h|cases h
 case bool=>split at h<;>first|exact key _ rfl h|cases h
 case str=>split at h<;>first|exact key _ rfl h|cases h
 case unit=>
  split at h
  ·simp only[Oba]at h;exact key _ rfl h.2
  ·cases h
 case pair a b=>
  split at h
  ·split at h
   ·simp only[Oba]at h;exact key _ rfl h.1.1.1.1.2
   ·cases h
  ·cases h
 case arr n t=>
  split at h
  ·simp only[Oba]at h;exact key _ rfl h.1.2
  ·cases h
 case slice=>cases h
 case fnc=>cases h
 case err=>cases h
 case hid=>cases h
 case sptr=>cases h
 case clo=>cases h
theorem Q9g{T:Ty}{e:TypeId}{fs:List Field}{off:Nat}(h:eqB P T e fs off true=true)(w:World): (Go.isAgg e).run P w= .ok T.isAgg w:=by
 cases T<;>simp only[eqB]at h
 case int k=>split at h<;>first| (rename_i hu;simp[Go.isAgg,run_underlying hu,Ty.isAgg])|cases h
 case bool=>split at h<;>first| (rename_i hu;simp[Go.isAgg,run_underlying hu,Ty.isAgg])|cases h
 case str=>split at h<;>first| (rename_i hu;simp[Go.isAgg,run_underlying hu,Ty.isAgg])|cases h
 case unit=>split at h<;>first| (rename_i hu;simp[Go.isAgg,run_underlying hu,Ty.isAgg])|cases h
 case pair a b=>split at h<;>first| (rename_i hu;simp[Go.isAgg,run_underlying hu,Ty.isAgg])|cases h
 case arr n t=>split at h<;>first| (rename_i hu;simp[Go.isAgg,run_underlying hu,Ty.isAgg])|cases h
 case slice=>cases h
 case fnc=>cases h
 case err=>cases h
 case hid=>cases h
 case sptr=>cases h
 case clo=>cases h
theorem Q0s{T:Ty}{e:TypeId}{fs:List Field}{off:Nat}(h:eqB P T e fs off true=true)(w:World): (Go.sizeOf e).run P w= .ok T.size w:=by
 obtain⟨i,hi,hs⟩:=Qye h;simp[Go.sizeOf,typeInfo,hi,hs]
theorem Qfu{T:Ty}{e:TypeId}{fs:List Field}{off':Nat}(h:eqB P T e fs off' true=true)(w:World){xs:Array Value}{off:Nat}{pre u post:List Value}(hx:xs.toList=pre++ (u++post))(ho:pre.length=off)(hu:u.length=T.size):
  (part e xs off).run P w= .ok (Xr T u) w:=by
 unfold part;simp only[Sem.run_bind,Q9g h w,Result.andThen_ok];cases ha:T.isAgg
 ·have h1:=Qfw ha;rw[h1]at hu;obtain⟨v,rfl⟩:=List.length_eq_one_iff.1 hu;have:xs[off]? =some v:=by
   rw[<-Array.getElem?_toList,hx,<-ho];simp
  have hp:Xr T [v]=v:=by cases T<;>simp[Ty.isAgg]at ha<;>rfl
  simp[this,hp]
 ·simp only[if_true,Sem.run_bind,Q0s h w,Result.andThen_ok,Sem.run_pure];have he:xs.extract off (off+T.size)=u.toArray:=by
   apply Array.toList_inj.mp;rw[Array.toList_extract,hx,<-ho,<-hu];simp
  have hp:Xr T u= .agg u.toArray:=by cases T<;>simp[Ty.isAgg]at ha<;>rfl
  rw[he,hp]
theorem Zss{X Y:Nat->Prop}{B:Nat}{w2 w3:World}: ∀(T:Ty),
  (∀(e:TypeId) (fs:List Field) (off d:Nat) (w:World) (x y:T.den) (u v:List Value),eqB P T e fs off true=true->Zhp T<=d+1->rd w2 X B false T x u []->rd w3 Y B false T y v []->
   (Op.equalIn (d+1) e (Xr T u) (Xr T v)).run P w= .ok (eqV T x y) w)/\
  (∀(e:TypeId) (fs:List Field) (off d:Nat) (w:World) (x y:T.den) (u v pu pv:List Value),eqB P T e fs off false=true->Zhp T<=d+1->rd w2 X B false T x u []->rd w3 Y B false T y v []->pu.length=off->pv.length=off->
   (Op.eqFields d (pu++u).toArray (pv++v).toArray fs).run P w= .ok (eqV T x y) w)
 | .int k=>by
   refine⟨fun e fs off d w x y u v h _ hx hy=> ?_,fun e fs off d w x y u v pu pv h=>by simp[eqB]at h⟩;simp only[eqB]at h;split at h
   ·rename_i k' hu;rw[hx.1,hy.1];exact run_equalIn_int w d e k k' x y hu
   ·cases h
 | .bool=>by
   refine⟨fun e fs off d w x y u v h _ hx hy=> ?_,fun e fs off d w x y u v pu pv h=>by simp[eqB]at h⟩;simp only[eqB]at h;split at h
   ·rename_i hu;rw[hx.1,hy.1];exact run_equalIn_bool' w d e x y hu
   ·cases h
 | .str=>by
   refine⟨fun e fs off d w x y u v h _ hx hy=> ?_,fun e fs off d w x y u v pu pv h=>by simp[eqB]at h⟩;simp only[eqB]at h;split at h
   ·rename_i hu;rw[hx.1,hy.1];have:=run_equalIn_string w d e ⟨⟨x⟩⟩ ⟨⟨y⟩⟩ hu;rw[ByteArray.toList_eq,ByteArray.toList_eq]at this;exact this
   ·cases h
 | .unit=>by
   refine⟨fun e fs off d w x y u v h _ hx hy=> ?_,fun e fs off d w x y u v pu pv h _ hx hy _ _=> ?_⟩
   ·simp only[eqB]at h;split at h
    ·rename_i fs hu;simp only[Oba,Bool.not_eq_true']at h;have hf:P.fieldsOf e=fs:=by unfold Program.fieldsOf;rw[hu]
     rw[hx.1,hy.1];show(Op.equalIn (d+1) e (.agg #[]) (.agg #[])).run P w=_;rw[run_equalIn_struct w d e #[] #[] (by rw[hf];exact hu) h.1.2,hf];have:fs.toList=[]:=by simpa using h.1.1
     rw[this];rfl
    ·cases h
   ·have:fs=[]:=by simpa[eqB]using h
    rw[this];rfl
 | .pair a b=>by
   have fields : ∀ (f : Field) (r : List Field) (off d : Nat) (w : World) (x y : (Ty.pair a b).den) (u v pu pv : List Value), f.name ≠ "_" -> f.offset = off -> eqB P a f.type [] 0 true = true -> eqB P b 0 r (off + a.size) false = true ->
     Zhp (.pair a b)<=d+1->rd w2 X B false (.pair a b) x u []->rd w3 Y B false (.pair a b) y v []->pu.length=off->pv.length=off->
     (Op.eqFields d (pu++u).toArray (pv++v).toArray (f::r)).run P w= .ok (eqV (.pair a b) x y) w:=by
    intro f r off d w x y u v pu pv h1 h2 h3 h4 hd hx hy hpu hpv;obtain⟨u1,u2,S1,S2,rfl,hS,hu1,hu2⟩:=hx;obtain⟨v1,v2,T1,T2,rfl,hT,hv1,hv2⟩:=hy;have hS:=List.append_eq_nil_iff.1 hS.symm;have hT:=List.append_eq_nil_iff.1 hT.symm;obtain⟨rfl,rfl⟩:=hS;obtain⟨rfl,rfl⟩:=hT;simp only[Zhp]at hd;have hd1:Zhp a+1<=d+1:=Nat.le_trans (Nat.le_max_left _ _) hd;have hd2:Zhp b<=d+1:=Nat.le_trans (Nat.le_max_right _ _) hd;cases d with
    |zero=>
     have:1<=Zhp a:=by cases a<;>simp[Zhp];omega
     omega
    |succ d=>
     simp only[Op.eqFields,h1,ne_eq,not_false_eq_true,if_true,Sem.run_bind,h2];rw[Qfu h3 w (u:=u1) (pre:=pu) (post:=u2) (by simp) hpu (Xy hu1)];simp only[Result.andThen_ok];rw[Qfu h3 w (u:=v1) (pre:=pv) (post:=v2) (by simp) hpv (Xy hv1)];simp only[Result.andThen_ok];rw[(Zss a).1 f.type [] 0 d w x.1 y.1 u1 v1 h3 (by omega) hu1 hv1];simp only[Result.andThen_ok];cases he:eqV a x.1 y.1
     ·simp[eqV,he]
     ·have:=(Zss b).2 0 r (off+a.size) (d+1) w x.2 y.2 u2 v2 (pu++u1) (pv++v1) h4 hd2 hu2 hv2 (by simp[hpu,Xy hu1]) (by simp[hpv,Xy hv1]);simp only[List.append_assoc]at this;simp[eqV,he,this]
   refine⟨fun e fs off d w x y u v h hd hx hy=> ?_,fun e fs off d w x y u v pu pv h hd hx hy hpu hpv=> ?_⟩
   ·simp only[eqB]at h;split at h
    ·rename_i fs hu;split at h
     ·rename_i f r hfs;simp only[Oba,Bool.not_eq_true',bne_iff_ne,ne_eq]at h;obtain⟨⟨⟨⟨⟨h1,_⟩,h3⟩,h4⟩,h5⟩,h6⟩:=h;have hf:P.fieldsOf e=fs:=by unfold Program.fieldsOf;rw[hu]
      show(Op.equalIn (d+1) e (.agg u.toArray) (.agg v.toArray)).run P w=_;rw[run_equalIn_struct w d e u.toArray v.toArray (by rw[hf];exact hu) h1,hf,hfs];exact fields f r 0 d w x y u v [] [] h3 (Onb h4) h5 (by simpa using h6) hd hx hy rfl rfl
     ·cases h
    ·cases h
   ·simp only[eqB]at h;split at h
    ·rename_i f r;simp only[Oba,bne_iff_ne,ne_eq]at h;obtain⟨⟨⟨h3,h4⟩,h5⟩,h6⟩:=h;exact fields f r off d w x y u v pu pv h3 (Onb h4) h5 h6 hd hx hy hpu hpv
    ·cases h
 | .arr n t=>by
   refine⟨fun e fs off d w x y u v h hd hx hy=> ?_,fun e fs off d w x y u v pu pv h=>by simp[eqB]at h⟩;simp only[eqB]at h;split at h
   ·rename_i m e2 hu;simp only[Oba]at h;obtain⟨⟨h1,_⟩,h3⟩:=h;have:=Onb h1;subst this;obtain⟨i,hi,hs⟩:=Qye h3;have hc:P.cellsOf e2=t.size:=by simp[Program.cellsOf,hi,hs]
    show(Op.equalIn (d+1) e (.agg u.toArray) (.agg v.toArray)).run P w=_;rw[run_equalIn_array w d u.toArray v.toArray hu hi,hc];cases d with
    |zero=>
     have:1<=Zhp t:=by cases t<;>simp[Zhp];omega
     simp only[Zhp]at hd;omega
    |succ d=>
     simp only[Zhp]at hd;have key: ∀(l l':List t.den) (k:Nat) (pu pv us vs:List Value),l.length=l'.length->pu.length=k*t.size->pv.length=k*t.size->Zcj (rd w2 X B false t) l us []->Zcj (rd w3 Y B false t) l' vs []->
       (Op.eqItems (d+1) e2 t.size (pu++us).toArray (pv++vs).toArray (List.range' k l.length)).run P w= .ok (eqL (eqV t) l l') w:=by
      intro l
      induction l with
      |nil=>intro l' k pu pv us vs hl _ _ _ _;cases l' with
       |nil=>simp[Op.eqItems,eqL]
       |cons=>simp at hl
      |cons a l ih=>
       intro l' k pu pv us vs hl hpu hpv hus hvs;cases l' with
       |nil=>simp at hl
       |cons b l'=>
        obtain⟨u1,u2,S1,S2,rfl,hS,hu1,hu2⟩:=hus;obtain⟨v1,v2,T1,T2,rfl,hT,hv1,hv2⟩:=hvs;obtain⟨rfl,rfl⟩:=List.append_eq_nil_iff.1 hS.symm;obtain⟨rfl,rfl⟩:=List.append_eq_nil_iff.1 hT.symm;simp only[List.length_cons,List.range'_succ,Op.eqItems,Sem.run_bind];rw[Qfu h3 w (u:=u1) (pre:=pu) (post:=u2) (by simp) hpu (Xy hu1)];simp only[Result.andThen_ok];rw[Qfu h3 w (u:=v1) (pre:=pv) (post:=v2) (by simp) hpv (Xy hv1)];simp only[Result.andThen_ok];rw[(Zss t).1 e2 [] 0 d w a b u1 v1 h3 (by omega) hu1 hv1];simp only[Result.andThen_ok];cases he:eqV t a b
        ·simp[eqL,he]
        ·have:=ih l' (k+1) (pu++u1) (pv++v1) u2 v2 (by simpa using hl) (by rw[List.length_append,hpu,Xy hu1,Nat.add_mul];omega) (by rw[List.length_append,hpv,Xy hv1,Nat.add_mul];omega) hu2 hv2;simp only[List.append_assoc]at this;simp[eqL,he,this]
     have:=key x y 0 [] [] u v (by rw[hx.1,hy.1]) (by simp) (by simp) hx.2 hy.2;rw[hx.1]at this;rw[List.range_eq_range'];exact this
   ·cases h
 | .slice _ _=>⟨fun e fs off d w x y u v h=>by simp[eqB]at h,fun e fs off d w x y u v pu pv h=>by simp[eqB]at h⟩
 | .fnc _=>⟨fun e fs off d w x y u v h=>by simp[eqB]at h,fun e fs off d w x y u v pu pv h=>by simp[eqB]at h⟩
 | .err=>⟨fun e fs off d w x y u v h=>by simp[eqB]at h,fun e fs off d w x y u v pu pv h=>by simp[eqB]at h⟩
 | .hid _=>⟨fun e fs off d w x y u v h=>by simp[eqB]at h,fun e fs off d w x y u v pu pv h=>by simp[eqB]at h⟩
 | .sptr .. =>⟨fun e fs off d w x y u v h=>by simp[eqB]at h,fun e fs off d w x y u v pu pv h=>by simp[eqB]at h⟩
 | .clo .. =>⟨fun e fs off d w x y u v h=>by simp[eqB]at h,fun e fs off d w x y u v pu pv h=>by simp[eqB]at h⟩
theorem Qvk.of{e:TypeId}{T:Ty}(h1:eqB P T e [] 0 true=true)(h2:P.eqGuardType P.depth e=false)(h3:T.isAgg=true)(h4:Zhp T<=10000):Qvk P e T:=by
 have hp: ∀u:List Value,Xr T u= .agg u.toArray:=fun u=>by cases T<;>simp[Ty.isAgg]at h3<;>rfl
 refine⟨fun w op p q u v=> ?_,fun w w2 w3 X Y B x y u v hx hy=> ?_,fun w w2 w3 X Y B x y u v hx hy=> ?_⟩
 ·rw[hp,hp];exact run_eqGuard_agg w op e p q _ _ h2
 ·have:=(Zss (P:=P) (X:=X) (Y:=Y) (B:=B) (w2:=w2) (w3:=w3) T).1 e [] 0 9999 w x y u v h1 (by omega) hx hy;rw[hp,hp]at this⊢;rw[run_eql_struct,this];rfl
 ·have:=(Zss (P:=P) (X:=X) (Y:=Y) (B:=B) (w2:=w2) (w3:=w3) T).1 e [] 0 9999 w x y u v h1 (by omega) hx hy;rw[hp,hp]at this⊢;rw[run_neq_struct,this];rfl
end
end Go.Am
namespace Go.Am
open Go.RowKit
inductive KT(s s':St):Tm->Tm->Prop where
 |junk (t):KT s s' t .junk
 |tup:KT s s' .tup .tup
 |val {T f g x}: (f=g\/Vz T f g=true)->KT s s' (.val T f x) (.val T g x)
 |box {e T f g x}: (f=g\/Vz T f g=true)->KT s s' (.box e T f x) (.box e T g x)
 |shp {T x}:KT s s' (.shp T x) (.shp T x)
 |ptr {r p}: (∃e T f x,s'.get (.m r)= .box e T f x)->KT s s' (.ptr r p) (.ptr r p)
 |aep {r p i}: (∃e T f x,s'.get (.m r)= .box e T f x)->KT s s' (.aep r p i) (.aep r p i)
 |pls {h l}: (∀q∈l,∃e T f x,s'.get (.m q.1)= .box e T f x)->KT s s' (.pls h l) (.pls h l)
 |bor {r p}:s.bad r p=false->s'.get (.m r)≠ .junk->KT s s' (.bor r p) (.bor r p)
 |elp {r p i q}:s.bad r p=false->s'.get (.m r)≠ .junk->KT s s' (.elp r p i q) (.elp r p i q)
 |bel {r p i q}:s.bad r p=false->s.foul (Zj7 r)=false->s'.get (.m r)≠ .junk->KT s s' (.bel r p i q) (.bel r p i q)
 |cl {f l}: (∀q∈l,∃e T f x,s'.get (.m q)= .box e T f x)->KT s s' (.cl f l) (.cl f l)
section
variable {P:Program} {g:Jc} {W0:Wj g} {w w':World} {X X':Nat->Prop} {B B' n:Nat} {own:Bool} {s s':St} {F:Key->List Nat} {a:Act} {H H':List Nat} {o:Oper} {tg:Xh} {τ:Tab} {C:Cfg} {gh:Nat->Value}
theorem R.weak(h:R n W0 w X F H s a)(hk: ∀k,KT s s' (s.get k) (s'.get k))(hc: ∀d i,s'.get (.c d i)≠ .junk->s'.get (.m d)= .tup)
  (hl: ∀p,p∈W0.fix->p.1∈s'.lent): ∃F',R n W0 w X F' H s' a:=by
 classical
 let F':Key->List Nat:=fun k=>if s'.get k= .junk then[]else F k
 have hF': ∀k b,b∈F' k->b∈F k:=fun k b hb=>by simp only[F']at hb;split at hb<;>simp_all
 have hFe: ∀{k},s'.get k≠ .junk->F' k=F k:=fun hk=>by simp[F',hk]
 have hva: ∀{r p v U},s'.get (.m r)≠ .junk->Xe W0.gh w s F a r p v U->Xe W0.gh w s' F' a r p v U:=by
  intro r p v U hne hv;have hkr:=hk (.m r);unfold Xe at hv⊢;split at hv
  ·rename_i T f x hg;rw[hg]at hkr;generalize ht:s'.get (.m r)=t at hkr hne;cases hkr with
   |junk=>exact absurd rfl hne
   |val hs=>exact hv
  ·rename_i e T f x hg;rw[hg]at hkr;have:=hFe hne;generalize ht:s'.get (.m r)=t at hkr hne;cases hkr with
   |junk=>exact absurd rfl hne
   |box hs=>
    obtain⟨b,c,S,y,h1,h2⟩:=hv;exact⟨b,c,S,y,by rw[this];exact h1,h2⟩
  ·exact hv.elim
 refine⟨F',{h with fix:=fun p hp=>⟨hl p hp,(h.fix p hp).2⟩,own:=fun k b hb=>h.own k b (hF' k b hb),nodup:=fun k=> ?_,disj:=fun k k' b hb hb'=>h.disj k k' b (hF' k b hb) (hF' k' b hb'),hdisj:=fun k b hb=>h.hdisj k b (hF' k b hb),comps:=fun d i hne=> ?_,slots:=fun k=> ?_}⟩
 ·simp only[F'];split
  ·simp
  ·exact h.nodup k
 ·refine⟨hc d i hne,(h.comps d i fun he=> ?_).2⟩;have:=hk (.c d i);rw[he]at this;generalize ht:s'.get (.c d i)=t at this hne;cases this;exact hne rfl
 ·have hs:=h.slots k;have hkk:=hk k;by_cases hne:s'.get k= .junk
  ·rw[hne];simp only[F',hne,if_true];rfl
  ·rw[hFe hne];generalize ht':s'.get k=t' at hkk hne;generalize ht:s.get k=t at hkk hs;cases hkk with
   |junk=>exact absurd rfl hne
   |tup=>exact hs
   |val hsub=>obtain⟨vs,h1,h2⟩:=hs;exact⟨vs,h1,Qzc hsub h2⟩
   |box hsub=>obtain⟨b,c,S',h1,h2,h3,h4⟩:=hs;exact⟨b,c,S',h1,h2,h3,Qzc hsub h4⟩
   |shp=>exact hs
   | @ptr r p hr=>
    obtain⟨e',T',g',x',hr⟩:=hr;obtain⟨h0,e,T,f,x,b,S',h1,h2,h3⟩:=hs;have hkr:=hk (.m r);rw[h1,hr]at hkr;have:=hFe (k:= .m r) (by rw[hr];simp);cases hkr with
    |box hsub=>exact⟨h0,_,_,_,_,b,S',hr,by rw[this];exact h2,h3⟩
   | @aep r p i hr=>
    obtain⟨e',T',g',x',hr⟩:=hr;obtain⟨h0,e,T,f,x,b,S',nn,t2,y,h1,h2,h3⟩:=hs;have hkr:=hk (.m r);rw[h1,hr]at hkr;have:=hFe (k:= .m r) (by rw[hr];simp);cases hkr with
    |box hsub=>exact⟨h0,_,_,_,_,b,S',nn,t2,y,hr,by rw[this];exact h2,h3⟩
   | @pls hh l hr=>
    obtain⟨h0,ad,us,h1,h2,h3,h4,h5⟩:=hs;refine⟨h0,ad,us,h1,h2,h3,fun j q hq=> ?_,h5⟩;obtain⟨u,hu,e,T,f,x,b,S',g1,g2,g3⟩:=h4 j q hq;obtain⟨e',T',g',x',hr⟩:=hr q (List.mem_of_getElem? hq);have hkr:=hk (.m q.1);rw[g1,hr]at hkr;have:=hFe (k:= .m q.1) (by rw[hr];simp);cases hkr with
    |box hsub=>exact⟨u,hu,_,_,_,_,b,S',hr,by rw[this];exact g2,g3⟩
   |bor hf hr=>
    obtain⟨h0,h1⟩:=hs;obtain⟨U,h1⟩:=h1 hf;exact⟨h0,fun _=>⟨U,hva hr h1⟩⟩
   |elp hf hr=>
    obtain⟨h0,h1⟩:=hs;obtain⟨e,t,ad,m,cap,h1,h2⟩:=h1 hf;exact⟨h0,fun _=>⟨e,t,ad,m,cap,hva hr h1,h2⟩⟩
   |bel hf he hr=>
    obtain⟨h0,h1⟩:=hs;obtain⟨e,t,ad,m,cap,x0,y,cs,h1,k1,k2,k3,h2⟩:=h1 hf he;exact⟨h0,fun _ _=>⟨e,t,ad,m,cap,x0,y,cs,hva hr h1,k1,k2,by rw[hFe hr];exact k3,h2⟩⟩
   | @cl f l hr=>
    obtain⟨h0,us,h1,h2,h3⟩:=hs;refine⟨h0,us,h1,h2,fun j q hq=> ?_⟩;obtain⟨u,hu,e,T,f,x,b,S',g1,g2,g3⟩:=h3 j q hq;obtain⟨e',T',g',x',hr⟩:=hr q (List.mem_of_getElem? hq);have hkr:=hk (.m q);rw[g1,hr]at hkr;have:=hFe (k:= .m q) (by rw[hr];simp);cases hkr with
    |box hsub=>exact⟨u,hu,_,_,_,_,b,S',hr,by rw[this];exact g2,g3⟩
def Z3a(s:St):Tm->Tm
 | .bor r p=>match s.bad r p with|true=> .junk|false=> .bor r p
 | .elp r p i q=>match s.bad r p with|true=> .junk|false=> .elp r p i q
 | .bel r p i q=>match s.bad r p||s.foul (Zj7 r)with|true=> .junk|false=> .bel r p i q
 | .gd _ _ _=> .junk
 |t=>t
def Qvu(s:St):List (Key×Tm)->List (Key×Tm)| []=>[]| (k,t)::r=>(k,Z3a s t)::Qvu s r
def Qkq(s:St):St:={env:=Qvu s s.env,dirty:=[],lent:=s.lent}
theorem Qpg(s:St)(k:Key): ∀l,Zgc (Qvu s l) k=Z3a s (Zgc l k)
 | []=>rfl
 | (j,t)::r=>by
  simp only[Qvu,Z1,Qpg s k r];split<;>rfl
theorem R.clean(h:R n W0 w X F H s a): ∃F',R n W0 w X F' H (Qkq s) a:=by
 have hg: ∀k,(Go.Am.Qkq s).get k=Z3a s (s.get k):=fun k=>Qpg s k s.env;have hroot: ∀{r p v U},Xe W0.gh w s F a r p v U->(Go.Am.Qkq s).get (.m r)≠ .junk:=by
  intro r p v U hv;rw[hg];unfold Xe at hv;split at hv
  ·rename_i hr;rw[hr];simp[Z3a]
  ·rename_i hr;rw[hr];simp[Z3a]
  ·exact hv.elim
 refine h.weak (fun k=> ?_) (fun d i hne=> ?_) (fun p hp=>(h.fix p hp).1)
 ·rw[hg];have hs:=h.slots k;cases ht:s.get k with
  |junk=>exact .junk _
  |tup=>exact .tup
  |val=>exact .val (.inl rfl)
  |box=>exact .box (.inl rfl)
  |shp=>exact .shp
  |ptr r p=>
   rw[ht]at hs;obtain⟨h0,e,T,f,x,b,S',h1,h2,h3⟩:=hs;exact .ptr ⟨e,T,f,x,by rw[hg,h1];rfl⟩
  |aep r p i=>
   rw[ht]at hs;obtain⟨h0,e,T,f,x,b,S',n,t2,y,h1,h2,h3⟩:=hs;exact .aep ⟨e,T,f,x,by rw[hg,h1];rfl⟩
  |pls hh l=>
   rw[ht]at hs;obtain⟨h0,ad,us,h1,h2,h3,h4,h5⟩:=hs;refine .pls fun q hq=> ?_;obtain⟨j,hj⟩:=List.getElem?_of_mem hq;obtain⟨u,hu,e,T,f,x,b,S',g1,g2,g3⟩:=h4 j q hj;exact⟨e,T,f,x,by rw[hg,g1];rfl⟩
  |bor r p=>
   rw[ht]at hs;simp only[Z3a];split
   ·exact .junk _
   ·rename_i hf;obtain⟨U,h1⟩:=hs.2 hf;exact .bor hf (hroot h1)
  |elp r p i q=>
   rw[ht]at hs;simp only[Z3a];split
   ·exact .junk _
   ·rename_i hf;obtain⟨_,_,_,_,_,h1,_⟩:=hs.2 hf;exact .elp hf (hroot h1)
  |bel r p i q=>
   rw[ht]at hs;simp only[Z3a];split
   ·exact .junk _
   ·rename_i hf;simp only[Bool.or_eq_false_iff]at hf;obtain⟨_,_,_,_,_,_,_,_,h1,_⟩:=hs.2 hf.1 hf.2;exact .bel hf.1 hf.2 (hroot h1)
  |cl f l=>
   rw[ht]at hs;obtain⟨h0,us,h1,h2,h3⟩:=hs;refine .cl fun q hq=> ?_;obtain⟨j,hj⟩:=List.getElem?_of_mem hq;obtain⟨u,hu,e,T,f,x,b,S',g1,g2,g3⟩:=h3 j q hj;exact⟨e,T,f,x,by rw[hg,g1];rfl⟩
  |gd=>exact .junk _
 ·rw[hg]at hne⊢;have:=(h.comps d i fun he=>by rw[he]at hne;exact hne rfl).1;rw[this];rfl
theorem Qo5(h:R n W0 w X F H s a)(ht:tg.ok W0.gh a){x:Operand}(ho:o.op= .assign x){r:Res}(hr:Zuk τ s tg o.type x=some r)(hm:r.moved=false):Zap P τ W0 w X F s a o r:=by
 unfold Zuk at hr;have take: ∀{k t u},op1 s tg x= .tm k t->Qgn s (.tm k t)=some u->u.moved=false->Zap P τ W0 w X F s a o ⟨.val u.T u.f u.x,u.s,u.moved,none⟩:=by
  intro k t u hx hu hm;rw[<-hx]at hu;obtain⟨F',S,vs,h1,h2,h3,h4,_⟩:=Zwz h ht hu;obtain⟨e1,e2,e3⟩:=h4 hm;subst e3;exact Yg e1 fun _=>⟨_,fun w' _=>by simp[execOp,ho],vs,h1,h2⟩
 split at hr
 ·rename_i v hv;obtain rfl:=Zwq hv;obtain⟨h1,h2⟩:=Zzm (w:=w) (X:=X) (B:=W0.B) (s:=s) (F:=F) (a:=a) hr;exact Yg h1 fun _=>⟨_,fun w' _=>by simp[execOp,ho,Act.eval],h2⟩
 ·rename_i f hv;obtain rfl:=Qw0 hv;simp only[Osi]at hr;subst hr;exact Yg rfl fun _=>⟨_,fun w' _=>by simp[execOp,ho,Act.eval],Qxr f⟩
 ·rename_i k t hx;split at hr
  ·split at hr
   ·rename_i u hu;simp only[Osi]at hr;subst hr;exact take hx hu hm
   ·cases hr
  ·split at hr
   ·rename_i u hu;simp only[Osi]at hr;subst hr;exact take hx hu hm
   ·cases hr
  ·obtain⟨h1,h2⟩:=Zrv h ht hx hr;exact Yg h1 fun _=>⟨_,fun w' _=>by simp[execOp,ho],h2⟩
 ·cases hr
def Qod(C:Cfg)(s:St)(tg:Xh)(o:Oper):Option Res:=
 match o.op with
 | .move x=>Z0e C.τ s tg o.type x
 | .assign x=>match Zuk C.τ s tg o.type x with
  |some r=>match r.moved with|false=>some r|true=>none
  |none=>none
 | .pick c x y=>Qoc C.τ s tg o.type c x y
 | .load e x=>Qob C.τ s tg e x
 | .binOp op e x y e2=>match C.τ e with
  |some (.pair _ _)|some (.arr _ _)=>Q2z C s tg op e x y
  |_=>Qvp C.τ s tg op e x y e2
 | .unOp op e x=>Q4c C.τ s tg op e x
 | .convert e e2 x=>Qn1 C.τ s tg e e2 x
 | .nilCheck x=>Zwd s tg x
 | .fieldAddr e x i=>Qec C.τ s tg e x i
 | .indexAddr e x i=>Zt4 C.τ s tg e x i
 | .index e x i=>Qel C.τ s tg e x i
 | .call {callee:= .builtin .len,args:=⟨[x]⟩,argTypes:=⟨[e]⟩}=>Qwn C.τ s tg e x
 | .call {callee:= .builtin .min,args:=⟨[x,y]⟩,argTypes:=⟨[e,_]⟩}=>Qii s tg e C.τ x y false
 | .call {callee:= .builtin .max,args:=⟨[x,y]⟩,argTypes:=⟨[e,_]⟩}=>Qii s tg e C.τ x y true
 |_=>none
theorem Z84(h:R n W0 w X F H s a)(ht:tg.ok W0.gh a)(hC:C.ok P g){r:Res}(hr:Qod C s tg o=some r):Zap P C.τ W0 w X F s a o r:=by
 unfold Qod at hr;split at hr
 ·rename_i ho;exact Zxh h ht ho hr
 ·rename_i ho;split at hr
  ·rename_i r0 hr0;split at hr
   ·rename_i hm;simp only[Osi]at hr;subst hr;exact Qo5 h ht ho hr0 hm
   ·cases hr
  ·cases hr
 ·rename_i ho;exact Z83 h ht ho hr
 ·rename_i ho;exact Z80 h ht hC.τ ho hr
 ·rename_i ho;split at hr
  ·exact Zv6 h ht hC ho hr
  ·exact Zv6 h ht hC ho hr
  ·exact Qcw h ht hC.τ ho hr
 ·rename_i ho;exact Qli h ht ho hr
 ·rename_i ho;exact Z8o h ht hC.τ ho hr
 ·rename_i ho;exact Zwe h ht ho hr
 ·rename_i ho;exact Z3q h ht hC.τ ho hr
 ·rename_i ho;exact Zuv h ht hC.τ ho hr
 ·rename_i ho;exact Z35 h ht hC.τ ho hr
 ·rename_i ho;exact Qeo h ht hC.τ ho hr
 ·rename_i ho;exact Zt6 h ht (mx:=false) ho hr
 ·rename_i ho;exact Zt6 h ht (mx:=true) ho hr
 ·cases hr
noncomputable def Q13{ρ:Type}(C:Cfg)(n:Nat)(ops:Array Oper)(o:Oper)(s:St)(k:St->Option ρ):Option ρ:=
 match o.guard with
 |none=>match Qod C s [] o,o.dst with
  |some r,some d=>match J0 s d&&Nat.blt d n with
   |true=>Qq5 r.obl (k (Kl s d r.t))
   |false=>none
  |_,_=>none
 |some (j,b)=>match(ops[j]?).bind (·.dst),o.dst with
  |some g,some d=>match Qcz s 8 g b,J0 s d&&Nat.blt d n&&Nat.blt g 1048576 with
   |some tg,true=>match Qod C s tg o with
    |some r=>Qxm s tg r.obl (k (Kl s d (.gd g b r.t)))
    |none=>none
   |_,_=>none
  |_,_=>none
end
end Go.Am
namespace Go.Am
open Go.RowKit
section
variable {P:Program} {ops:Array Oper} {gh:Nat->Value}
def QF:Exit->Act->World->Prop:=fun _ _ _=>False
theorem Xfm{o:Oper}{a:Act}{w:World}{K:Act->World->Prop}{Q:Exit->Act->World->Prop}(h:o.wp P a w K QF):o.wp P a w K Q:=by
 unfold Oper.wp at*
 generalize (execOp a.eval o).run P w=r at*
 cases r with
 |ok n w'=>
  cases n<;>simp only[Oper.upon]at h⊢ <;>first
   |exact h
   | (
    refine Calls.mono h fun e w'' he=> ?_;cases e with
    |returned v=>exact he
    |panicked c=>exact he.elim
    |outgrown=>obtain⟨_,_,h⟩:=he;exact h.elim)
 |halt x w'=>cases x<;>simp only[Oper.upon]at h⊢ <;>exact h.elim
def Zoh(P:Program)(ops:Array Oper)(I:World->Prop)(o:Oper)(v:Value)(a:Act):Prop:=(Region.wanted o (yielded ops a.tmps)=true/\ ∀w,I w->(execOp a.eval o).run P w= .ok (.value v) w)\/ (Region.wanted o (yielded ops a.tmps)=false/\v=undef)
theorem Zoh.same{I:World->Prop}{o:Oper}{v:Value}{a a':Act}(hy:Zoh P ops I o v a)(he:execOp a'.eval o=execOp a.eval o)
  (hw:Region.wanted o (yielded ops a'.tmps)=Region.wanted o (yielded ops a.tmps)):Zoh P ops I o v a':=by
 unfold Zoh at*
 rw[he,hw];exact hy
theorem Zoh.go{I:World->Prop}{o:Oper}{v:Value}{a:Act}{w:World}{i:Nat}(hi:ops[i]? =some o)(hy:Zoh P ops I o v a)(hI:I w){K:Act->World->Prop}(h:K (a.put o.dst v) w):
  wpOp P ops QF i K a w:=by
 unfold wpOp;simp only[hi];rcases hy with⟨hw,hv⟩| ⟨hw,rfl⟩
 ·simp only[hw,if_true,Oper.wp,hv w hI,Oper.upon];exact .inl h
 ·simp only[hw,Bool.false_eq_true,if_false];exact h
theorem Qyv{I:World->Prop}{j:Nat}{oi oj:Oper}{v:Value}(hj:ops[j]? =some oj)(hap:oi.apart ops oj=true)(hsi: ∀cs b,oi.op≠ .select cs b)(hsj: ∀cs b,oj.op≠ .select cs b)
  {K:Act->World->Prop} {a:Act} {w:World} (hy:Zoh P ops I oi v a) (h:wpOp P ops QF j K (a.put oi.dst v) w):
  wpOp P ops QF j (fun a' w'=>Zoh P ops I oi v a'/\K (a'.put oi.dst v) w') a w:=by
 obtain⟨h1,h2,h3⟩:=Oper.apart_spec hap;have keep: ∀a:Act,Zoh P ops I oi v a-> ∀u,Zoh P ops I oi v (a.put oj.dst u):=fun a hy u=>hy.same (execOp_put oi hsi a oj.dst u h3) (wanted_put oi a oj.dst u h3);unfold wpOp at*
 simp only[hj]at*
 rw[wanted_put oj a oi.dst v h1]at h;split
 ·rename_i hw;simp only[hw,if_true]at h;rcases h with h| ⟨_,_,_,h⟩
  ·refine .inl ?_;unfold Oper.wp at*
   rw[execOp_put oj hsj a oi.dst v h1]at h;generalize (execOp a.eval oj).run P w=r at*
   cases r with
   |ok n w'=>
    cases n<;>simp only[Oper.upon]at h⊢
    case value u=>exact⟨keep a hy u,by rw[<-Act.put_comm a v u h2];exact h⟩
    case skip=>exact⟨keep a hy _,by rw[<-Act.put_comm a v undef h2];exact h⟩
    case defer d=>
     refine⟨keep {a with defers:=d::a.defers} (hy.same rfl rfl) _,?_⟩;rw[<-Act.put_comm _ v undef h2,<-Act.put_defers];exact h
    case enter f args=>
     refine Calls.mono h fun e w'' he=> ?_;cases e with
     |returned u=>exact⟨keep a hy u,by rw[<-Act.put_comm a v u h2];exact he⟩
     |panicked c=>exact he.elim
     |outgrown=>exact he
    case row row args=>exact Rows.mono h fun u w'' he=>⟨keep a hy u,by rw[<-Act.put_comm a v u h2];exact he⟩
   |halt x w'=>cases x<;>simp only[Oper.upon]at h⊢ <;>exact h.elim
  ·exact h.elim
 ·rename_i hw;simp only[hw]at h;exact⟨keep a hy _,by rw[<-Act.put_comm a v undef h2];exact h⟩
def Xch(C:Cfg):Op->Bool
 | .call {callee:= .value fo,..}=>match fo with
  | .func f=>match C.ΓB.find f with|some _=>false|none=>true
  |_=>match C.ΓB with| []=>true|_::_=>false
 |_=>true
def Qr4(C:Cfg)(op:Op):Bool:=Q1o op&&Xch C op
def Qbs(C:Cfg)(ops:Array Oper)(i:Nat):Bool:=match ops[i]? with|some o=>Qr4 C o.op|none=>true
def Xbn(gh:Nat->Value)(bx:List Nat)(Sh:Nat->Prop)(a:Act)(w w':World):Prop:= ∀b,(Sh b\/ ∃r∈bx,Ql gh a (.m r)= .pointer (some ⟨b,0,none⟩))->w'.heap[b]? =w.heap[b]?
structure Qgu(gh:Nat->Value)(pr:Nat->Bool)(bx:Nat->List Nat)(Sh:Nat->Prop)(i:Nat)(a:Act)(w w':World):Prop where
 pres:pr i=true->Old w w'
 hold:Xbn gh (bx i) Sh a w w'
def Q8y(gh:Nat->Value)(ops:Array Oper)(i:Nat)(a a':Act):Prop:= ∀k,(ops[i]?).bind (·.dst)≠some k->Ql gh a' (.m k)=Ql gh a (.m k)
theorem Qsk{a:Act}{d:Option Nat}{v:Value}{k:Nat}(h:d≠some k):Ql gh (a.put d v) (.m k)=Ql gh a (.m k):=by
 cases d with
 |none=>rfl
 |some d=>exact Zb5 (by simpa[Key.t]using fun e=>h (by rw[e]))
theorem Q5z{K:Act->World->Prop}{i:Nat}{a:Act}{w:World}(h:wpOp P ops QF i K a w):wpOp P ops QF i (fun a' w'=>Q8y gh ops i a a'/\K a' w') a w:=by
 unfold wpOp at*
 split
 ·rename_i ho;simp only[ho]at h;exact⟨fun _ _=>rfl,h⟩
 ·rename_i o ho;have puts: ∀v,Q8y gh ops i a (a.put o.dst v):=fun v k hk=>Qsk (by simpa[ho]using hk);simp only[ho]at h;split
  ·rename_i hw;simp only[hw,if_true]at h;rcases h with h| ⟨_,_,_,h⟩
   ·refine .inl ?_;unfold Oper.wp at*
    generalize (execOp a.eval o).run P w=r at*
    cases r with
    |ok n w'=>
     cases n<;>simp only[Oper.upon]at h⊢
     case value u=>exact⟨puts _,h⟩
     case skip=>exact⟨puts _,h⟩
     case defer d=>exact⟨fun k hk=>(Qsk (a:={a with defers:=d::a.defers}) (d:=o.dst) (by simpa[ho]using hk)).trans rfl,h⟩
     case enter f args=>
      refine Calls.mono h fun e w'' he=> ?_;cases e with
      |returned u=>exact⟨puts _,he⟩
      |panicked c=>exact he.elim
      |outgrown=>exact he
     case row row args=>exact Rows.mono h fun u w'' he=>⟨puts _,he⟩
    |halt x w'=>cases x<;>simp only[Oper.upon]at h⊢ <;>exact h.elim
   ·exact h.elim
  ·rename_i hw;simp only[hw]at h;exact⟨puts _,h⟩
def Q89(ops:Array Oper):Nat->Nat->Nat->Bool
 |0,_,_=>false
 |f+1,j,i=>match ops[j]? with
  |some o=>o.after.any fun e=>Region.binds .any e&& (Nat.beq e.on i||Q89 ops f e.on i)
  |none=>false
def Qyu(ops:Array Oper)(j:Nat):Bool:=(List.range ops.size).all fun i=>Nat.beq i j||Q89 ops ops.size j i
def Qos(ops:Array Oper)(listed:Array Bool):Prop:= ∀(m:Nat) (o:Oper),ops[m]? =some o->listed.getD m false=true-> ∀e∈o.after,Region.binds .any e=true->listed.getD e.on false=true
theorem Q10{listed:Array Bool}{i k:Nat}(h:listed.getD k false=true): (listed.setIfInBounds i true).getD k false=true:=by
 by_cases hk:i=k
 ·subst hk;have:i<listed.size:=by
   rcases Nat.lt_or_ge i listed.size with h'|h'
   ·exact h'
   ·simp[Array.getD_eq_getD_getElem?,Array.getElem?_eq_none h']at h
  simp[Array.getD_eq_getD_getElem?,this]
 ·rw[getD_set_ne false hk];exact h
theorem Z9g{listed:Array Bool}(h:Qos ops listed){i:Nat}(hi:i∈Region.ready .any ops listed):Qos ops (listed.setIfInBounds i true):=by
 intro m o ho hm e he hb;refine Q10 ?_;obtain⟨_,o',ho',hall⟩:=mem_ready.1 hi;by_cases hmi:i=m
 ·subst hmi;rw[ho]at ho';cases ho';exact hall e he hb
 ·rw[getD_set_ne false hmi]at hm;exact h m o ho hm e he hb
theorem Qkw{listed:Array Bool}(h:Qos ops listed){i:Nat}: ∀{f j:Nat},Q89 ops f j i=true->(∀o,ops[j]? =some o-> ∀e∈o.after,Region.binds .any e=true->listed.getD e.on false=true)->listed.getD i false=true
 |0,_,hd,_=>by cases hd
 |f+1,j,hd,hall=>by
  simp only[Q89]at hd;split at hd
  ·rename_i o ho;rw[Array.any_eq_true']at hd;obtain⟨e,he,hd⟩:=hd;simp only[Oba,Bool.or_eq_true]at hd;have hl:=hall o ho e he hd.1;rcases hd.2 with hd2|hd2
   ·rw[<-Onb hd2];exact hl
   ·exact Qkw h hd2 fun o' ho' e' he' hb'=>h e.on o' ho' hl e' he' hb'
  ·cases hd
def Z08(gh:Nat->Value)(P:Program)(ops:Array Oper)(Qn:Act->World->Prop)(pr:Nat->Bool)(bx:Nat->List Nat)(Sh:Nat->Prop):Nat->Array Bool->Act->World->Prop|0,listed,a,w=>Region.ready .any ops listed=[]/\Qn a w|fuel+1,listed,a,w=>(Region.ready .any ops listed=[]->Qn a w)/\ ∀i∈Region.ready .any ops listed,wpOp P ops QF i (fun a' w'=>(Qyu ops i=true\/Qgu gh pr bx Sh i a w w')/\Z08 gh P ops Qn pr bx Sh fuel (listed.setIfInBounds i true) a' w') a w
theorem Qlk{Qn:Act->World->Prop}{pr:Nat->Bool}{bx:Nat->List Nat}{Sh Sh':Nat->Prop}(hs: ∀b,Sh b->Sh' b): ∀(fuel:Nat) (listed:Array Bool) (a:Act) (w:World),Z08 gh P ops Qn pr bx Sh' fuel listed a w->Z08 gh P ops Qn pr bx Sh fuel listed a w
 |0,_,_,_,h=>h
 |fuel+1,_,_,_,h=>⟨h.1,fun i hi=>wpOp_mono (fun a' w' ⟨h1,h2⟩=>⟨h1.imp id fun h1=>⟨h1.pres,fun b hb=>h1.hold b (hb.imp (hs b) id)⟩,Qlk hs fuel _ a' w' h2⟩) (h.2 i hi)⟩
theorem Qst{Qn:Act->World->Prop}{pr:Nat->Bool}{bx:Nat->List Nat}{Sh:Nat->Prop}{Q:Exit->Act->World->Prop}(hq: ∀a w,Qn a w->Q .normal a w): ∀(fuel:Nat) (listed:Array Bool) (a:Act) (w:World),Z08 gh P ops Qn pr bx Sh fuel listed a w->wpAny P .any ops Q fuel listed a w
 |0,_,_,_,h=>⟨h.1,hq _ _ h.2⟩
 |fuel+1,listed,a,w,h=>⟨fun hr=>hq _ _ (h.1 hr),fun i hi=>by
  have h2:=h.2 i hi;have h3:wpOp P ops QF i (wpAny P .any ops Q fuel (listed.setIfInBounds i true)) a w:=wpOp_mono (fun a' w' h=>Qst hq fuel _ a' w' h.2) h2;unfold wpOp at h3⊢;split
  ·simpa[*]using h3
  ·rename_i o ho;simp only[ho]at h3;split
   ·rename_i hw;simp only[hw,if_true]at h3;rcases h3 with h3| ⟨_,_,_,h3⟩
    ·exact .inl (Xfm h3)
    ·exact h3.elim
   ·rename_i hw;simp only[hw]at h3;exact h3⟩
theorem Qgr{I:World->Prop}{J:Act->Prop}{pr:Nat->Bool}{bx:Nat->List Nat}{Sh:Nat->Prop}{i:Nat}{oi:Oper}{v:Value}{Qn:Act->World->Prop}(hi:ops[i]? =some oi)(hsel: ∀(j:Nat) (o:Oper) cs b,ops[j]? =some o->o.op≠ .select cs b)
  (hdi: ∀j,∀r∈bx j,oi.dst≠some r):
  ∀(fuel:Nat) (listed:Array Bool) (a:Act) (w:World),Qos ops listed->I w->J a->
   (∀j oj,ops[j]? =some oj->j≠i->listed.getD j true=false->(∀e∈oj.after,Region.binds .any e=true->e.on≠i)->oi.apart ops oj=true/\ ∀a a' w w',J a->I w->Qgu gh pr bx Sh j a w w'->Q8y gh ops j a a'->I w'/\J a')->
   i∈Region.ready .any ops listed->Zoh P ops I oi v a->
   Z08 gh P ops Qn pr bx Sh fuel (listed.setIfInBounds i true) (a.put oi.dst v) w->Z08 gh P ops Qn pr bx Sh (fuel+1) listed a w
 |0,_,_,w,_,hI,hJa,hfree,hr,hy,H=>by
  refine⟨fun h=>(by rw[h]at hr;cases hr),fun j hj=> ?_⟩;by_cases hji:j=i
  ·subst hji;exact hy.go hi hI ⟨.inr ⟨fun _=>Old.refl w,fun _ _=>rfl⟩,H⟩
  ·have:=ready_mono hj hji;rw[H.1]at this;cases this
 |fuel+1,listed,a,w,hcl,hI,hJa,hfree,hr,hy,H=>by
  refine⟨fun h=>(by rw[h]at hr;cases hr),fun j hj=> ?_⟩;by_cases hji:j=i
  ·subst hji;exact hy.go hi hI ⟨.inr ⟨fun _=>Old.refl w,fun _ _=>rfl⟩,H⟩
  ·have h1:=H.2 j (ready_mono hj hji);obtain⟨hjun,oj,hoj,hall⟩:=mem_ready.1 hj;have hnot: ∀e∈oj.after,Region.binds .any e=true->e.on≠i:=fun e he hb heq=>by
    have h1:=hall e he hb;have h0:=(mem_ready.1 hr).1;rw[heq]at h1;rcases Nat.lt_or_ge i listed.size with h'|h'
    ·simp[h']at h0 h1;rw[h0]at h1;cases h1
    ·simp[Array.getElem?_eq_none h']at h1
   obtain⟨hap,hpres⟩:=hfree j oj hoj hji hjun hnot;obtain⟨hap1,hap2,_⟩:=Oper.apart_spec hap;have h2:=Qyv hoj hap (fun cs b=>hsel i oi cs b hi) (fun cs b=>hsel j oj cs b hoj) hy h1;have hfree': ∀k ok,ops[k]? =some ok->k≠i->(listed.setIfInBounds j true).getD k true=false->(∀e∈ok.after,Region.binds .any e=true->e.on≠i)->
     oi.apart ops ok=true/\ ∀a a' w w',J a->I w->Qgu gh pr bx Sh k a w w'->Q8y gh ops k a a'->I w'/\J a':=fun k ok hk hki hun hno=>by
    refine hfree k ok hk hki ?_ hno;by_cases hjk:j=k
    ·subst hjk;exact hjun
    ·rw[getD_set_ne true hjk]at hun;exact hun
   refine wpOp_mono (fun a' w' ⟨hputs,hya,hst,hwp⟩=> ?_) (Q5z (gh:=gh) h2);have hst:=hst.resolve_left fun hn=>by
    unfold Qyu at hn;rw[List.all_eq_true]at hn;have h9:=hn i (List.mem_range.2 (Array.getElem?_eq_some_iff.1 hi).1);simp only[Bool.or_eq_true]at h9;rcases h9 with h9|h9
    ·exact hji (Onb h9).symm
    ·have h10:=Qkw hcl h9 fun o ho e he hb=>by
      rw[hoj]at ho;cases ho;exact hall e he hb
     have h0:=(mem_ready.1 hr).1;rcases Nat.lt_or_ge i listed.size with h'|h'
     ·simp[Array.getD_eq_getD_getElem?,h']at h0 h10;rw[h0]at h10;cases h10
     ·simp[Array.getD_eq_getD_getElem?,Array.getElem?_eq_none h']at h10
   
   have hst':Qgu gh pr bx Sh j a w w':=⟨hst.pres,fun b hb=>hst.hold b (hb.imp id fun⟨r,h1,h2⟩=>⟨r,h1,by rw[Qsk (hdi _ r h1)];exact h2⟩)⟩
   obtain⟨hI',hJb⟩:=hpres a a' w w' hJa hI hst' hputs;refine⟨.inr hst',Qgr hi hsel hdi fuel (listed.setIfInBounds j true) a' w' (Z9g hcl hj) hI' hJb hfree' (ready_mono hr (Ne.symm hji)) hya ?_⟩;rw[Array.setIfInBounds_comm _ _ hji];exact hwp
theorem Old.trans{a b c:World}(h:Old a b)(k:Old b c):Old a c:=fun i hi=>by
 have hb:i<b.heap.size:=by
  have:=h i hi;rw[Array.getElem?_eq_getElem hi]at this;exact(Array.getElem?_eq_some_iff.1 this).1
 rw[k i hb,h i hi]
def Q67(C:Cfg)(ops:Array Oper)(listed:Array Bool)(any:Nat->Bool)(i:Nat):Bool:=
 (List.range ops.size).all fun j=>Nat.beq j i||listed.getD j true|| (match ops[i]?,ops[j]? with
  |some oi,some oj=>(oj.after.any fun e=>Region.binds .any e&&Nat.beq e.on i)|| (oi.apart ops oj&& (any j||Qr4 C oj.op))
  |_,_=>false)
theorem Q0w{C:Cfg}{listed:Array Bool}{any:Nat->Bool}{i j:Nat}{oi oj:Oper}(h:Q67 C ops listed any i=true)(hi:ops[i]? =some oi)(hj:ops[j]? =some oj)(hne:j≠i)(hl:listed.getD j true=false)
  (hno: ∀e∈oj.after,Region.binds .any e=true->e.on≠i):oi.apart ops oj=true/\(any j=true\/Qr4 C oj.op=true):=by
 unfold Q67 at h;rw[List.all_eq_true]at h;have:=h j (List.mem_range.2 (Array.getElem?_eq_some_iff.1 hj).1);simp only[hi,hj,hl,Bool.or_false,Bool.or_eq_true,Oba]at this;rcases this with h1|h1|h1
 ·exact absurd (Onb h1) hne
 ·rw[Array.any_eq_true']at h1;obtain⟨e,he,hb⟩:=h1;simp only[Oba]at hb;exact absurd (Onb hb.2) (hno e he hb.1)
 ·exact⟨h1.1,by simpa using h1.2⟩
def Xcp(ops:Array Oper)(i:Nat):Bool:=
 match ops[i]? with
 |some o=>match o.op with
  | .move _| .assign _| .pick .. | .load .. | .binOp .. | .unOp .. | .convert .. | .nilCheck .. | .fieldAddr .. | .indexAddr .. | .index .. =>true
  | .call {callee:= .builtin .len,..}| .call {callee:= .builtin .min,..}| .call {callee:= .builtin .max,..}=>true
  |_=>false
 |none=>false
def Xes(s:St)(ops:Array Oper)(i:Nat):Bool:=
 match ops[i]? with
 |some o=>match o.op with
  | .move (.tmp q)=>match s.get (.m q)with
   | .tup=>false
   |_=>true
  |_=>true
 |none=>false
def Xaw(τ:Tab)(bx:List Nat)(s:St)(o:Oper):Bool:=match Q7p τ o.op with
 |false=>true
 |true=>match Zv1 s o.op with
  |some (some r)=>bx.any (Nat.beq r)
  |some none=>true
  |none=>false
def Qic(s:St)(r:Nat):Bool:=match s.get (.m r)with| .box _ _ _ _=>true|_=>false
theorem Z36{s:St}{r:Nat}(h:Qic s r=true):s.isBox r:=by
 unfold Qic at h;split at h
 ·rename_i e T f x hg;exact⟨e,T,f,x,hg⟩
 ·cases h
def Xbu(τ:Tab)(s:St)(bx:List Nat)(o:Oper):Bool:=bx.all fun r=>Qic s r&& (match Qnx τ s o with|some q=> !(Nat.beq q r)|none=>true)
def Z9a(ops:Array Oper):Nat->Nat->Nat
 |0,k=>k
 |f+1,k=>match ops.toList.find? (fun o=>match o.dst with|some d=>Nat.beq d k|none=>false)with
  |some o=>match o.op with
   | .fieldAddr _ (.tmp j) _=>Z9a ops f j
   | .indexAddr _ (.tmp j) _=>Z9a ops f j
   | .move (.tmp j)=>Z9a ops f j
   | .nilCheck (.tmp j)=>Z9a ops f j
   | .call {callee:= .value _,args:=xs,..}=>match xs.toList with| .tmp j::_=>Z9a ops f j|_=>k
   |_=>k
  |none=>k
def Q6f(s:St)(ops:Array Oper):List Nat:=
 let bs:=s.env.filterMap fun p=>match p.1,p.2 with
  | .m r,.box _ _ _ _=>if Qic s r then some r else none
  |_,_=>none
 bs.filter fun r=>ops.toList.all fun o=>match o.dst with|some d=> !(Nat.beq d r)|none=>true
def Xbj(s:St)(ops:Array Oper)(k:Nat):Nat:=match s.get (.m (Z9a ops ops.size k))with| .ptr r _=>r| .aep r _ _=>r|_=>Z9a ops ops.size k
def Xc5(s:St)(ops:Array Oper)(o:Oper):List Nat:=match o.op with
 | .store _ (.tmp k) _=>[Xbj s ops k]
 | .call {callee:= .value _,args:=xs,..}=>xs.toList.filterMap fun x=>match x with| .tmp k=>some (Xbj s ops k)|_=>none
 |_=>[]
def Xbv(s:St)(ops:Array Oper)(j:Nat):List Nat:=
 match ops[j]? with
 |some o=>(Q6f s ops).filter fun r=> !((Xc5 s ops o).any (Nat.beq r))
 |none=>[]
theorem Q6g{s:St}{ops:Array Oper}{i r j:Nat}{o:Oper}(hr:r∈Xbv s ops i)(ho:ops[j]? =some o):o.dst≠some r:=by
 unfold Xbv at hr;have hr:r∈Q6f s ops:=by
  split at hr
  ·exact(List.mem_filter.1 hr).1
  ·cases hr
 unfold Q6f at hr;have:=(List.mem_filter.1 hr).2;rw[List.all_eq_true]at this;have:=this o (by rw[<-Array.getElem?_toList]at ho;exact List.mem_of_getElem? ho);intro e;rw[e]at this;simp at this
noncomputable def Qf{ρ:Type}(m1 m2:Option ρ):Option ρ:=by
 classical exact if m1=m2 then m1 else none
theorem Q0d{ρ:Type}{m1 m2:Option ρ}{r:ρ}(h:Qf m1 m2=some r):m1=some r/\m2=some r:=by
 unfold Qf at h;split at h
 ·rename_i e;exact⟨h,by rw[<-e];exact h⟩
 ·cases h
theorem Kz{ρ:Type}(m:Option ρ):Qf m m=m:=by
 unfold Qf;rw[if_pos rfl]
noncomputable def Q82{ρ:Type}:List (Option ρ)->Option ρ| []=>none| [m]=>m|m::n::r=>Qf m (Q82 (n::r))
theorem Qt6{ρ:Type}: ∀{l:List (Option ρ)} {r:ρ},Q82 l=some r-> ∀m∈l,m=some r
 | [],r,h,m,hm=>by cases hm
 | [m],r,h,m',hm=>by simp only[List.mem_singleton]at hm;subst hm;exact h
 |m::n::q,r,h,m',hm=>by
  simp only[Q82]at h;obtain⟨h1,h2⟩:=Q0d h;rcases List.mem_cons.1 hm with rfl|hm
  ·exact h1
  ·exact Qt6 h2 m' hm
def Q2m(C:Cfg)(s:St)(o:Oper):Option (FuncId×Array Operand):=
 match C.soft,o.guard,o.op with
 |false,none,.call {callee:= .value fo,args:=xs,..}=>match Qtr s [] fo with
  |some f=>match C.ΓB.find f with
   |some _=>some (f,xs)
   |none=>none
  |none=>none
 |_,_,_=>none
def Xcj:Tm->Bool| .val .. | .ptr .. | .shp .. =>true|_=>false
def Qkc(g:Nat)(b:Bool):List Operand->St->St
 | [],s=>s
 | .tmp k::xs,s=>match s.get (.m k)with
  | .gd g' b' t=>match Nat.beq g' g,b'==b,s.foul g,Xcj t with
   |true,true,false,true=>Qkc g b xs (Zvp s k t)
   |_,_,_,_=>Qkc g b xs s
  |_=>Qkc g b xs s
 |_::xs,s=>Qkc g b xs s
def Xf8:RS->Option Ty| .vals [t]=>some t| .shr [t]=>some t| .flg [t]=>some t.1|_=>none
def gdB(C:Cfg)(s:St)(ops:Array Oper)(o:Oper):Option (Nat×Bool×Nat×FuncId×Array Operand):=
 match C.soft,o.guard,o.dst,o.op with
 |false,some (j,b),some d,.call {callee:= .value fo,args:=xs,..}=>match(ops[j]?).bind (·.dst),Qtr s [] fo with
  |some g,some f=>match C.ΓB.find f with
   |some _=>some (g,b,d,f,xs)
   |none=>none
  |_,_=>none
 |_,_,_,_=>none
noncomputable def Q9o{ρ:Type}(C:Cfg)(n:Nat)(o:Oper)(s:St)(g:Nat)(b:Bool)(d:Nat)(f:FuncId)(xs:Array Operand)(k:St->Option ρ):Option ρ:=
 match Ws s (op1 s [] (.tmp g)) .bool,s.foul g,((C.ΓB.find f).bind fun e=>Xf8 e.res),J0 s d&&Nat.blt d n with
 |some c,false,some T,true=>match b with
  |true=>bif c then Qo9 C.ΓB n (Qkc g b xs.toList s) o.dst f xs.toList k else k (Kl s d (.gd g b (.val T (.u true) (zero T))))
  |false=>bif c then k (Kl s d (.gd g b (.val T (.u true) (zero T))))else Qo9 C.ΓB n (Qkc g b xs.toList s) o.dst f xs.toList k
 |_,_,_,_=>none
noncomputable def Qzt{ρ:Type}(C:Cfg)(n:Nat)(ops:Array Oper)(bx:List Nat)(o:Oper)(s:St)(k:St->Option ρ):Option ρ:=
 match gdB C s ops o with
 |some (g,b,d,f,xs)=>match bx.all fun r=>Qic s r&& !((Qjq C.ΓB (Qkc g b xs.toList s) f xs.toList).any (Nat.beq r))with
  |true=>Q9o C n o s g b d f xs k
  |false=>none
 |none=>match Q2m C s o with
 |some (f,xs)=>match bx.all fun r=>Qic s r&& !((Qjq C.ΓB s f xs.toList).any (Nat.beq r))with
  |true=>Qo9 C.ΓB n s o.dst f xs.toList k
  |false=>none
 |none=>match Xbu C.τ s bx o with
  |true=>Qzr C n ops o s k
  |false=>none
def Q3g(C:Cfg)(s:St)(o:Oper):Option (Qll×List Tm):=
 match o.guard,o.op with
 |none,.call {callee:= .value fo,args:=xs,argTypes:=ats}=>match op1 s [] fo with
  | .tm _ (.cl f l)=>match C.inl.find f,Qo4 C.τ s xs.toList ats.toList with
   |some E,some ts=>some (E,ts++l.map fun q=> .ptr q [])
   |_,_=>none
  |_=>match Qtr s [] fo with
   |some f=>match C.inl.find f,Qo4 C.τ s xs.toList ats.toList with
    |some E,some ts=>some (E,ts)
    |_,_=>none
   |none=>none
 |_,_=>none
noncomputable def Z42{ρ:Type}(C:Cfg)(n:Nat)(ops:Array Oper)(bx:Nat->List Nat):Nat->Array Bool->St->(St->Option ρ)->Option ρ
 |0,listed,s,k=>match Region.ready .any ops listed with
  | []=>k (Qkq s)
  |_::_=>none
 |f+1,listed,s,k=>match Region.ready .any ops listed with
  | []=>k (Qkq s)
  | [i]=>match ops[i]? with
   |some o=>match Q3g C s o,Region.ready .any ops (listed.setIfInBounds i true),Qyu ops i with
    |some (E,ts),[],true=>Q9s C.τ n s o.dst E ts fun s'=>k (Qkq s')
    |_,_,_=>Qzt C n ops (bx i) o s fun s'=>Z42 C n ops bx f (listed.setIfInBounds i true) s' k
   |none=>none
  |i::j::rs=>match(i::j::rs).find? (fun i=>(Xcp ops i&&Xes s ops i)&& (match ops[i]? with|some o=>Q67 C ops listed (fun j=>Xaw C.τ (bx j) s o) i|none=>false))with
   |some i=>match ops[i]? with
    |some o=>Q13 C n ops o s fun s'=>Z42 C n ops bx f (listed.setIfInBounds i true) s' k
    |none=>none
   |none=>Q82 ((i::j::rs).map fun i=>match ops[i]? with
    |some o=>Qzt C n ops (bx i) o s fun s'=>Z42 C n ops bx f (listed.setIfInBounds i true) s' k
    |none=>none)
variable {g:Jc} {W0:Wj g} {w w':World} {X X':Nat->Prop} {n:Nat} {s s':St} {F:Key->List Nat} {a:Act} {H H':List Nat} {o:Oper} {tg:Xh} {τ:Tab} {C:Cfg}
theorem Qkz(hC:C.ok P g)(h:R n W0 w X F H s a){E:Qll}{ts:List Tm}(hi:Q3g C s o=some (E,ts)):
  o.guard=none/\Z22 P g E/\ ∃vs:List Value,ts.length=vs.length/\(∀(i:Nat) t,ts[i]? =some t-> ∃v,vs[i]? =some v/\vt W0.gh w X W0.B s F a v [] t)/\(execOp a.eval o).run P w= .ok (.enter E.f vs.toArray) w:=by
 unfold Q3g at hi;split at hi
 ·rename_i fo xs ats hg ho;split at hi
  ·rename_i k f l hx;split at hi
   ·rename_i E' ts' hE hts;simp only[Osi,Opi]at hi;obtain⟨rfl,rfl⟩:=hi;obtain⟨rfl,hok⟩:=Z6n.find_ok hC.inl hE;obtain⟨_,_,us,h1,h2,h3⟩:=Ka h J8 hx (by simp);obtain⟨g1,g2⟩:=Z24 h hts;refine⟨hg,hok,xs.toList.map a.eval++us,by simp[g1,h2],fun i t hi=> ?_,?_⟩
    ·rcases Nat.lt_or_ge i ts'.length with hlt|hge
     ·rw[List.getElem?_append_left hlt]at hi;obtain⟨v,hv,hvt⟩:=g2 i t hi;exact⟨v,by rw[List.getElem?_append_left (by rw[List.length_map];omega)];exact hv,hvt⟩
     ·rw[List.getElem?_append_right hge]at hi;simp only[List.getElem?_map,Option.map_eq_some_iff]at hi;obtain⟨q,hq,rfl⟩:=hi;obtain⟨u,hu,ha⟩:=h3 _ q hq;exact⟨u,by rw[List.getElem?_append_right (by rw[List.length_map];omega),List.length_map,<-g1];exact hu,rfl,ha⟩
    ·have:execOp a.eval o=callFunc E'.f (xs.map a.eval++us.toArray):=by
      simp only[execOp,ho,resolve,h1,Deferred.ofValue];simp[invoke]
     rw[this,hok.enters];congr 2;apply Array.toList_inj.mp;simp
   ·cases hi
  ·split at hi
   ·rename_i f hf;split at hi
    ·rename_i E' ts' hE hts;simp only[Osi,Opi]at hi;obtain⟨rfl,rfl⟩:=hi;obtain⟨rfl,hok⟩:=Z6n.find_ok hC.inl hE;have hfo:=Zjf h J8 hf;obtain⟨g1,g2⟩:=Z24 h hts;refine⟨hg,hok,xs.toList.map a.eval,by simp[g1],g2,?_⟩;have:execOp a.eval o=callFunc E'.f (xs.map a.eval):=by
      simp only[execOp,ho,resolve,hfo,Deferred.ofValue];simp[invoke]
     rw[this,hok.enters];congr 2;apply Array.toList_inj.mp;simp
    ·cases hi
   ·cases hi
 ·cases hi
theorem Qt1{ρ:Type}(hC:C.ok P g)(h:R n W0 w X F [] s a){k:St->Option ρ}{r:ρ}(hs:Q13 C n ops o s k=some r):
  ∃v F' s',k s'=some r/\R n W0 w X F' [] s' (a.put o.dst v)/\Zoh P ops (Dep W0.gh C.τ X s a o w) o v a:=by
 unfold Q13 at hs;split at hs
 ·rename_i hg;split at hs
  ·rename_i r0 d hv hd;split at hs
   ·rename_i hdn;simp only[Oba,Nat.blt_eq]at hdn;rw[Z3s]at hs;obtain⟨_,hp⟩:=Z84 h J8 hC hv;obtain⟨v,h1,h2⟩:=hp hs.1;refine⟨v,Qd F (.m d) [],_,hs.2,?_,.inl ⟨by simp[Region.wanted,hg],h1⟩⟩;rw[hd];exact(by simpa using h:R n W0 w X F ([]++ []) s a).put hdn.1 hdn.2 h2
   ·cases hs
  ·cases hs
 ·rename_i j b hg;split at hs
  ·rename_i g d hj hd;split at hs
   ·rename_i tg hch hdn;have hgb:Nat.blt g 1048576=true:=by simp only[Oba]at hdn;exact hdn.2
    simp only[Oba,Nat.blt_eq]at hdn
    replace hdn:=hdn.1
    have hgj:=Qt9 hch;split at hs
    ·rename_i r0 hv;obtain⟨hk,hob⟩:=Qgp h hs;by_cases hb:Ql W0.gh a (.m g)= .bool b
     ·have ht:=Zvz h hch hb;have hglt:g<a.tmps.size:=by
       have hb':a.tmps.getD g undef= .bool b:=(Yf W0 a hgb).symm.trans hb;rcases Nat.lt_or_ge g a.tmps.size with h'|h'
       ·exact h'
       ·rw[Array.getD_eq_getD_getElem?,Array.getElem?_eq_none h']at hb';cases hb'
      have hy:Region.wanted o (yielded ops a.tmps)=true:=by
       have hb':a.tmps[g]? =some (.bool b):=by
        have hb':a.tmps.getD g undef= .bool b:=(Yf W0 a hgb).symm.trans hb;rw[Array.getD_eq_getD_getElem?,Array.getElem?_eq_getElem hglt]at hb';rw[Array.getElem?_eq_getElem hglt];simpa using hb'
       simp[Region.wanted,hg,yielded,hj,hb']
      obtain⟨_,hp⟩:=Z84 h ht hC hv;obtain⟨v,h1,h2⟩:=hp (hob ht);refine⟨v,Qd F (.m d) [],_,hk,?_,.inl ⟨hy,h1⟩⟩;rw[hd];exact(by simpa using h:R n W0 w X F ([]++ []) s a).put hdn.1 hdn.2 fun _=>⟨hgj,fun _=>h2,fun hne=>absurd hb hne⟩
     ·have hy:Region.wanted o (yielded ops a.tmps)=false:=by
       apply Bool.eq_false_iff.2;intro hy;simp only[Region.wanted,hg,yielded,hj,Obs,beq_iff_eq]at hy;apply hb;split at hy
       ·rename_i c hc;simp only[Osi]at hy;subst hy;simp[Ql,Zlr,hc]
       ·cases hy
      refine⟨undef,Qd F (.m d) [],_,hk,?_,.inr ⟨hy,rfl⟩⟩;rw[hd];exact(by simpa using h:R n W0 w X F ([]++ []) s a).put (S:=[]) hdn.1 hdn.2 fun _=>⟨hgj,fun hb'=>absurd hb' hb,fun _=>⟨rfl,rfl⟩⟩
    ·cases hs
   ·cases hs
  ·cases hs
theorem Q4o{bx:List Nat}{Sh:Nat->Prop}{a':Act}{o:Oper}(hb:Xbu C.τ s bx o=true)(hS: ∀b,Sh b->X b)(hf:Q8x W0.gh C o X X' s a a' w w'):Xbn W0.gh bx Sh a w w':=by
 intro b hb';refine hf.kept b (hb'.imp (hS b) fun⟨r,h1,h2⟩=> ?_);unfold Xbu at hb;rw[List.all_eq_true]at hb;have h3:=hb r h1;simp only[Oba]at h3;refine⟨r,Z36 h3.1,?_,h2⟩;intro e;rw[e]at h3;simp at h3
theorem R.ungd1(h:R n W0 w X F H s a){k g':Nat}{b:Bool}{t:Tm}(hg:s.get (.m k)= .gd g' b t)(hf:s.foul g'=false)(hb:Ql W0.gh a (.m g')= .bool b)(ht:Xcj t=true):R n W0 w X F H (Zvp s k t) a:=by
 have hs:=h.slots (.m k);rw[hg]at hs;obtain⟨_,h1,_⟩:=hs hf;have h2:=h1 hb;have hFk:Qd F (.m k) (F (.m k))=F:=by
  funext j;simp only[Qd];split
  ·rename_i e;rw[e]
  ·rfl
 have hT0:Z09 W0.gh w w s (Zvp s k t) F (Qd F (.m k) (F (.m k))) a k t:=Zrt ⟨by rw[Jg];simp;intro e;subst e;simp[Xcj]at ht,fun p v U hv=>by
  unfold Xe at hv;rw[hg]at hv;exact hv.elim⟩
 have turn: ∀{u:Tm} {v:Value} {S:List Nat},vt W0.gh w X W0.B s F a v S u->vt W0.gh w X W0.B (Zvp s k t) F a v S u:=fun {u v S} hu=>by
  have:=Qoq hT0 (fun _ h=>h) (fun _ _=>rfl) (fun _ _ _ _=>rfl) (fun _ _=>rfl) (fun e T' f' x' b S hb=>by rw[hg]at hb;cases hb) hu;rw[hFk]at this;exact this
 exact
 {h with
  comps:=fun d i hc=>by
   rw[Jg]at hc⊢;simp only[reduceCtorEq,if_false]at hc;obtain⟨h1,h2⟩:=h.comps d i hc;by_cases e:k=d
   ·subst e;rw[hg]at h1;cases h1
   ·exact⟨by simpa[e]using h1,h2⟩
  slots:=fun j=>by
   by_cases hj:j= .m k
   ·subst hj;rw[Jg];simp only[if_true];exact turn h2
   ·rw[Jg];simp only[Ne.symm hj,if_false];exact turn (h.slots j)}
theorem Zvo{g':Nat}{b:Bool}(hb:Ql W0.gh a (.m g')= .bool b): ∀{xs:List Operand} {s:St},R n W0 w X F H s a->R n W0 w X F H (Qkc g' b xs s) a
 | [],s,h=>h
 |x::xs,s,h=>by
  cases x with
  |tmp k=>
   simp only[Qkc];split
   ·rename_i g2 b2 t hg;split
    ·rename_i e1 e2 e3 e4;have e1:=Onb e1;subst e1;have e2:b2=b:=by simpa using e2
     subst e2;exact Zvo hb (h.ungd1 hg e3 hb e4)
    ·exact Zvo hb h
   ·exact Zvo hb h
  |_=>exact Zvo (xs:=xs) hb h
theorem Zvn{g':Nat}{b:Bool}{r:Nat}: ∀{xs:List Operand} {s:St},s.isBox r->(Qkc g' b xs s).isBox r
 | [],s,h=>h
 |x::xs,s,h=>by
  cases x with
  |tmp k=>
   simp only[Qkc];split
   ·rename_i g2 b2 t hg;split
    ·refine Zvn ?_;obtain⟨e,T,f,y,hq⟩:=h;refine⟨e,T,f,y,?_⟩;rw[Jg,if_neg]
     ·exact hq
     ·intro e;simp only[Key.m.injEq]at e;subst e;rw[hg]at hq;cases hq
    ·exact Zvn h
   ·exact Zvn h
  |_=>exact Zvn (xs:=xs) h
theorem Qq4{ρ:Type}(hC:C.ok P g){ops:Array Oper}(h:R n W0 w X F [] s a){gs d:Nat}{b:Bool}{f:FuncId}{xs:Array Operand}(hg:gdB C s ops o=some (gs,b,d,f,xs)){k:St->Option ρ}{r:ρ}(hs:Q9o C n o s gs b d f xs k=some r)
  {K:Act->World->Prop} {Q:Exit->Act->World->Prop} (hK: ∀v w' X' F' s',k s'=some r->R n W0 w' X' F' [] s' (a.put o.dst v)->(∀b,X b->X' b)->Q52 W0.gh X s a (Qjq C.ΓB (Qkc gs b xs.toList s) f xs.toList) w w'->K (a.put o.dst v) w'):if Region.wanted o (yielded ops a.tmps)then o.wp P a w K Q else K (a.put o.dst undef) w:=by
 unfold gdB at hg;split at hg
 ·rename_i j b' d' fo xs' ats hsf hgd hd ho;split at hg
  ·rename_i g' f' hj hf;split at hg
   ·simp only[Osi,Opi]at hg;obtain⟨rfl,rfl,rfl,rfl,rfl⟩:=hg;unfold Q9o at hs;split at hs
    ·rename_i c T hc hfl hT hdn;simp only[Oba,Nat.blt_eq]at hdn;have hv:Ql W0.gh a (.m g')= .bool c:=(Yf W0 a (Zyz hc)).trans (Zjk h J8 hc);have hne:s.get (.m g')≠ .junk:=by
      intro e;have hgb:=Zyz hc;have:op1 s [] (.tmp g')= .tm g' .junk:=by simp only[op1,hgb,e,Zwy]
      rw[this]at hc;simp[Ws,Zsx]at hc
     have hglt:g'<a.tmps.size:=by
      have hb':a.tmps.getD g' undef= .bool c:=Zjk h J8 hc;rcases Nat.lt_or_ge g' a.tmps.size with h'|h'
      ·exact h'
      ·rw[Array.getD_eq_getD_getElem?,Array.getElem?_eq_none h']at hb';cases hb'
     have hb':a.tmps[g']? =some (.bool c):=by
      have hb':a.tmps.getD g' undef= .bool c:=Zjk h J8 hc;rw[Array.getD_eq_getD_getElem?,Array.getElem?_eq_getElem hglt]at hb';rw[Array.getElem?_eq_getElem hglt];simpa using hb'
     have hw:Region.wanted o (yielded ops a.tmps)=(c==b'):=by
      simp[Region.wanted,hgd,yielded,hj,hb']
     have yes:c=b'->Qo9 C.ΓB n (Qkc g' b' xs'.toList s) o.dst f' xs'.toList k=some r->if Region.wanted o (yielded ops a.tmps)then o.wp P a w K Q else K (a.put o.dst undef) w:=by
      intro e hcall;rw[hw,if_pos (by simp[e])];exact Z28 (hC.soft.trans hsf) hC.ΓB (Zvo (by rw[hv,e]) h) (Zjf h J8 hf) ho hcall fun v w' X' F' s' hk hR hxx hkp=>hK v w' X' F' s' hk hR hxx fun b hb=>hkp b (hb.imp id fun⟨r,h1,h2,h3⟩=>⟨r,Zvn h1,h2,h3⟩)
     have no:c≠b'->k (Kl s d' (.gd g' b' (.val T (.u true) (zero T))))=some r->if Region.wanted o (yielded ops a.tmps)then o.wp P a w K Q else K (a.put o.dst undef) w:=by
      intro e hk;rw[hw,if_neg (by simp[e]),hd];have hput:=(by simpa using h:R n W0 w X F ([]++ []) s a).put (S:=[]) (t:= .gd g' b' (.val T (.u true) (zero T))) (v:=undef) hdn.1 hdn.2 fun _=>⟨hne,fun hb=>by rw[hv]at hb;injection hb with hb;exact absurd hb e,fun _=>⟨rfl,rfl⟩⟩
      have:=hK undef w X _ _ hk (by rw[hd];exact hput) (fun _ h=>h) (fun _ _=>rfl);rw[hd]at this;exact this
     cases b'
     ·cases c
      ·exact yes rfl hs
      ·exact no (by simp) hs
     ·cases c
      ·exact no (by simp) hs
      ·exact yes rfl hs
    ·cases hs
   ·cases hg
  ·cases hg
 ·cases hg
theorem Qzu{ρ:Type}(hC:C.ok P g)(h:R n W0 w X F [] s a){bx:List Nat}{Sh:Nat->Prop}(hS: ∀b,Sh b->X b){k:St->Option ρ}{r:ρ}(hs:Qzt C n ops bx o s k=some r){K:Act->World->Prop}{Q:Exit->Act->World->Prop}
  (hK: ∀w' a' X' F' s',k s'=some r->R n W0 w' X' F' [] s' a'->(∀b,X b->X' b)->(Qr4 C o.op=true->Old w w')->Xbn W0.gh bx Sh a w w'->K a' w'):if Region.wanted o (yielded ops a.tmps)then o.wp P a w K Q else K (a.put o.dst undef) w:=by
 unfold Qzt at hs;split at hs
 ·rename_i gs b d f xs hgd;split at hs
  ·rename_i hall;refine Qq4 hC h hgd hs fun v w' X' F' s' hk hR hxx hkp=>hK w' _ X' F' s' hk hR hxx (fun hp=> ?_) fun b hb'=>hkp b ?_
   ·exfalso;unfold gdB at hgd;split at hgd
    ·rename_i j b' d' fo xs' ats hsf hg ho1 ho;split at hgd
     ·rename_i g' f' hj hf;split at hgd
      ·rename_i eb hfind;simp only[Qr4,ho,Xch,Oba]at hp;have hp2:=hp.2;have nil: (match C.ΓB with| []=>true|_::_=>false)=true->False:=fun hn=>by
        cases hg2:C.ΓB with
        |nil=>rw[hg2]at hfind;cases hfind
        |cons _ _=>rw[hg2]at hn;cases hn
       cases fo with
       |func f2=>
        have hff:some f2=some f':=hf;cases hff;simp only[hfind]at hp2;cases hp2
       |const v=>exact nil hp2
       |tmp k=>exact nil hp2
       |global g=>exact nil hp2
      ·cases hgd
     ·cases hgd
    ·cases hgd
   ·refine hb'.imp (hS b) fun⟨r,h1,h2⟩=> ?_;rw[List.all_eq_true]at hall;have h3:=hall r h1;simp only[Oba,Bool.not_eq_true']at h3;exact⟨r,Z36 h3.1,Z6e h3.2,h2⟩
  ·cases hs
 split at hs
 ·rename_i f xs hb;split at hs
  ·rename_i hall;unfold Q2m at hb;split at hb
   ·rename_i fo xs' ats hsf hg ho;split at hb
    ·rename_i f' hf;split at hb
     ·rename_i eb hfind;simp only[Osi,Opi]at hb;obtain⟨rfl,rfl⟩:=hb;rw[if_pos (by simp[Region.wanted,hg])];refine Z28 (hC.soft.trans hsf) hC.ΓB h (Zjf h J8 hf) ho hs fun v w' X' F' s' hk hR hxx hkp=>hK w' _ X' F' s' hk hR hxx (fun hp=> ?_) fun b hb'=>hkp b ?_
      ·exfalso;simp only[Qr4,ho,Xch,Oba]at hp;have hp2:=hp.2;have nil: (match C.ΓB with| []=>true|_::_=>false)=true->False:=fun hn=>by
        cases hg2:C.ΓB with
        |nil=>rw[hg2]at hfind;cases hfind
        |cons _ _=>rw[hg2]at hn;cases hn
       cases fo with
       |func f2=>
        have hff:some f2=some f':=hf;cases hff;simp only[hfind]at hp2;cases hp2
       |const v=>exact nil hp2
       |tmp k=>exact nil hp2
       |global g=>exact nil hp2
      ·refine hb'.imp (hS b) fun⟨r,h1,h2⟩=> ?_;rw[List.all_eq_true]at hall;have h3:=hall r h1;simp only[Oba,Bool.not_eq_true']at h3;exact⟨r,Z36 h3.1,Z6e h3.2,h2⟩
     ·cases hb
    ·cases hb
   ·cases hb
  ·cases hs
 ·split at hs
  ·rename_i hbo;exact Qlg (Q:=Q) hC h hs fun w' a' X' F' s' hk hR hf=>hK w' a' X' F' s' hk hR hf.more (fun hp=>hf.pres (by simp only[Qr4,Oba]at hp;exact hp.1)) (Q4o hbo hS hf)
  ·cases hs
theorem Z0q{ρ:Type}(hC:C.ok P g)(hsel: ∀(j:Nat) (o:Oper) cs b,ops[j]? =some o->o.op≠ .select cs b){bx:Nat->List Nat}(hbd: ∀i,∀r∈bx i,∀(j:Nat) o,ops[j]? =some o->o.dst≠some r){k:St->Option ρ}{r:ρ}{Qn:Act->World->Prop}
  (hK: ∀w' a' X' F' s',k s'=some r->R n W0 w' X' F' [] s' a'->Qn a' w'):
  ∀{f:Nat} {listed:Array Bool} {s:St} {w:World} {X:Nat->Prop} {Sh:Nat->Prop} {F:Key->List Nat} {a:Act},Qos ops listed->R n W0 w X F [] s a->(∀b,Sh b->X b)->Z42 C n ops bx f listed s k=some r->Z08 W0.gh P ops Qn (Qbs C ops) bx Sh f listed a w
 |0,listed,s,w,X,Sh,F,a,_,h,hS,hr=>by
  simp only[Z42]at hr;split at hr
  ·rename_i hrd;obtain⟨F',h'⟩:=h.clean;exact⟨hrd,hK w a X F' _ hr h'⟩
  ·cases hr
 |f+1,listed,s,w,X,Sh,F,a,hcl,h,hS,hr=>by
  
  have one: ∀i' o,ops[i']? =some o->i'∈Region.ready .any ops listed->(Qzt C n ops (bx i') o s fun s'=>Z42 C n ops bx f (listed.setIfInBounds i' true) s' k)=some r->
    wpOp P ops QF i' (fun a' w'=>(Qyu ops i'=true\/Qgu W0.gh (Qbs C ops) bx Sh i' a w w')/\Z08 W0.gh P ops Qn (Qbs C ops) bx Sh f (listed.setIfInBounds i' true) a' w') a w:=by
   intro i' o ho hrdy hr;unfold wpOp;simp only[ho];have:=Qzu (Q:=QF) hC h hS hr (K:=fun a' w'=>(Qyu ops i'=true\/Qgu W0.gh (Qbs C ops) bx Sh i' a w w')/\Z08 W0.gh P ops Qn (Qbs C ops) bx Sh f (listed.setIfInBounds i' true) a' w')
    (fun w' a' X' F' s' hk hR hmore hpres hhold=>⟨.inr ⟨by simpa[Qbs,ho]using hpres,hhold⟩,Z0q hC hsel hbd hK (Z9g hcl hrdy) hR (fun b hb=>hmore b (hS b hb)) hk⟩)
   split
   ·rename_i hw;rw[if_pos hw]at this;exact .inl this
   ·rename_i hw;rw[if_neg hw]at this;exact this
  simp only[Z42]at hr;split at hr
  ·rename_i hrd;obtain⟨F',h'⟩:=h.clean;exact⟨fun _=>hK w a X F' _ hr h',fun i hi=>by rw[hrd]at hi;cases hi⟩
  ·rename_i i hrd;refine⟨fun hn=>(by rw[hrd]at hn;cases hn),fun i' hi=> ?_⟩;rw[hrd]at hi;simp only[List.mem_singleton]at hi;subst hi;split at hr
   ·rename_i o ho;split at hr
    ·rename_i E ts hi hrd2 hlb;obtain⟨hg,hE,vs,h1,h2,h3⟩:=Qkz hC h hi;unfold wpOp;simp only[ho];rw[if_pos (by simp[Region.wanted,hg])];refine .inl (Qrb hC.τ hE h h1 h2 h3 hr fun v w' X' F' s' hk hR=>⟨.inl hlb,?_⟩);obtain⟨F2,h'⟩:=hR.clean;cases f with
     |zero=>exact⟨hrd2,hK w' _ X' F2 _ hk h'⟩
     |succ f=>exact⟨fun _=>hK w' _ X' F2 _ hk h',fun i hi=>by rw[hrd2]at hi;cases hi⟩
    ·exact one _ o ho (by rw[hrd];simp) hr
   ·cases hr
  ·rename_i hrd;split at hr
   ·rename_i i hfind;have hmem:=List.mem_of_find?_eq_some hfind;have hfree:=List.find?_some hfind;simp only[Oba]at hfree;have hfree:=hfree.2;rw[<-hrd]at hmem;split at hr
    ·rename_i o ho;simp only[ho]at hfree;obtain⟨v,F',s',hk,hR,hy⟩:=Qt1 hC h hr;refine Qlk hS _ _ _ _ ?_;refine Qgr (I:=Dep W0.gh C.τ X s a o w) (J:=fun a'=> ∀j,∀q∈bx j,Ql W0.gh a' (.m q)=Ql W0.gh a (.m q)) ho hsel (fun j q hq=>hbd j q hq i o ho) f listed a w hcl (Dep.refl _ _ _ _ _ _ _) (fun _ _ _=>rfl) (fun j oj hj hne hl hno=> ?_) hmem hy
      (Z0q hC hsel hbd hK (Z9g hcl hmem) hR (fun _ h=>h) hk)
     obtain⟨h1,h2⟩:=Q0w hfree ho hj hne hl hno;refine⟨h1,fun a1 a2 w1 w2 hJ hI hst hp=>⟨fun hm=> ?_,fun j' q hq=> ?_⟩⟩
     ·have hI:=hI hm;rcases h2 with h2|h2
      ·unfold Xaw at h2;rw[hm]at h2;simp only at h2;split at h2
       ·rename_i q hq;simp only[hq]at hI⊢;have hqb:q∈bx j:=by
         rw[List.any_eq_true]at h2;obtain⟨z,hz,he⟩:=h2;rw[Onb he];exact hz
        exact fun b hl hb=>(hst.hold b (.inr ⟨q,hqb,by rw[hJ j q hqb];exact hb⟩)).trans (hI b hl hb)
       ·rename_i hq;simp only[hq]at hI⊢;exact fun b hl hb=>(hst.hold b (.inl hb)).trans (hI b hl hb)
       ·cases h2
      ·have hold:=hst.pres (by simpa[Qbs,hj]using h2);have lt1: ∀b,b<w.heap.size->w1.heap[b]? =w.heap[b]?->b<w1.heap.size:=fun b hl he=>by
        rw[Array.getElem?_eq_getElem hl]at he;exact(Array.getElem?_eq_some_iff.1 he).1
       split at hI
       ·rename_i q hq
        try simp only[hq]
        exact fun b hl hb=>(hold b (lt1 b hl (hI b hl hb))).trans (hI b hl hb)
       ·rename_i hq
        try simp only[hq]
        exact fun b hl hb=>(hold b (lt1 b hl (hI b hl hb))).trans (hI b hl hb)
       ·rename_i hq
        try simp only[hq]
        exact Old.trans hI hold
     ·rw[hp q (by rw[hj];exact hbd j' q hq j oj hj)];exact hJ j' q hq
    ·cases hr
   ·refine⟨fun hn=>(by rw[hrd]at hn;cases hn),fun i' hi=> ?_⟩;rw[hrd]at hi;have hm:=Qt6 hr _ (List.mem_map_of_mem (f:=_) hi);split at hm
    ·rename_i o ho;exact one _ o ho (by rw[hrd];exact hi) hm
    ·cases hm
end
end Go.Am

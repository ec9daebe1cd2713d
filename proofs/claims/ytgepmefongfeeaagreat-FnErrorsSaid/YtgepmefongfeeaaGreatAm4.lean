/- The abstract machine, part 4: what a piece of Go code does, as plain data, and that it does so. No condition. -/
import Derived.Test.YtgepmefongfeeaaGreatAm3
import Derived.Laws.StructEq
import Derived.ChangeKeysEq
import Derived.Still
namespace Go.Am
open Go.RowKit
def eqL{α:Type}(f:α->α->Bool):List α->List α->Bool| [],[]=>true|x::xs,y::ys=>f x y&&eqL f xs ys|_,_=>false
def eqV: (T:Ty)->T.den->T.den->Bool| .unit,_,_=>true| .int _,x,y=>decide ((x:Int)=y)| .bool,x,y=>(x:Bool)==y| .fnc _,_,_=>false| .str,x,y=>(x:List UInt8)==y| .pair a b,x,y=>eqV a x.1 y.1&&eqV b x.2 y.2| .arr _ t,x,y=>eqL (eqV t) x y| .slice _ _,_,_=>false| .err,_,_=>false| .hid _,_,_=>false| .sptr ..,_,_=>false| .clo ..,_,_=>false
structure Zu0(P:Program)(e:TypeId)(T:Ty):Prop where
 guard: ∀(w:World) (op:BinOp) (p q:Operand) (u v:List Value),(eqGuard op e p q (Xz T u) (Xz T v)).run P w= .ok () w
 eql: ∀(w w2 w3:World) (X Y:Nat->Prop) (B:Nat) (x y:T.den) (u v:List Value),rd w2 X B false T x u []->rd w3 Y B false T y v []->(binOp .eql e (Xz T u) (Xz T v)).run P w= .ok (.bool (eqV T x y)) w
 neq: ∀(w w2 w3:World) (X Y:Nat->Prop) (B:Nat) (x y:T.den) (u v:List Value),rd w2 X B false T x u []->rd w3 Y B false T y v []->(binOp .neq e (Xz T u) (Xz T v)).run P w= .ok (.bool (!(eqV T x y))) w
structure Cfg where
 τ:Tab
 eq:TypeId->Bool
 Γ:Env
 lent:List Nat:=[]
 ΓL:Zzu:=[]
 ΓB:Zv7:=[]
 soft:Bool:=false
 ΓW:Zx3:=[]
 pt:Zl3:={}
 inl:Z6o:=[]
structure Cfg.ok(C:Cfg)(P:Program)(g:K9):Prop where
 τ:C.τ.ok P
 eq: ∀e T,C.eq e=true->C.τ e=some T->Zu0 P e T
 Γ:C.Γ.ok P g
 follows:P.follows .mixedOrders=true
 ΓL:C.ΓL.ok P g
 ΓB:C.ΓB.ok P g
 soft:g.soft=C.soft
 softG:C.soft=true-> ∃w0 L,g=Zth w0 L
 ΓW:C.ΓW.ok P
 pt:C.pt.ok P
 inl:C.inl.ok P g
section
variable {P:Program} {g:K9} {W0:Zam g} {w w':World} {X X':Nat->Prop} {B B' n:Nat} {own:Bool} {s:St} {F:Key->List Nat} {a:Act} {H H':List Nat} {o:Oper} {tg:Xo} {τ:Tab} {C:Cfg} {gh:Nat->Value}
def Q2f(C:Cfg)(s:St)(tg:Xo)(op:BinOp)(e:TypeId)(x y:Operand):Option Res:=
 match C.eq e,C.τ e with
 |true,some T=>match Wi s (op1 s tg x) T,Wi s (op1 s tg y) T with
  |some u,some v=>match op with
   | .eql=>some ⟨.val .bool (.u false) (eqV T u v),s,false,none⟩
   | .neq=>some ⟨.val .bool (.u false) (!(eqV T u v)),s,false,none⟩
   |_=>none
  |_,_=>none
 |_,_=>none
theorem Zwp(h:R n W0 w X F H s a)(ht:tg.ok W0.gh a)(hC:C.ok P g){op:BinOp}{e e2:TypeId}{x y:Operand}(ho:o.op= .binOp op e x y e2){r:Res}(hr:Q2f C s tg op e x y=some r):Zbh P C.τ W0 w X F s a o r:=by
 unfold Q2f at hr;split at hr
 ·rename_i T m p;split at hr
  ·rename_i u v q hv;obtain⟨d,f,i⟩:=W5 h ht q;obtain⟨j,k,l⟩:=W5 h ht hv;have b:=hC.eq e T m p;split at hr
   ·simp only[Osi]at hr;subst hr;refine Yr rfl fun _=>⟨_,fun c _=> ?_,Zsy _⟩
    simp only[execOp,ho,f,k,Sem.run_bind,b.guard,Result.andThen_ok,b.eql c w w _ _ _ u v d j i l,Sem.run_pure]
   ·simp only[Osi]at hr;subst hr;refine Yr rfl fun _=>⟨_,fun c _=> ?_,Zsy _⟩
    simp only[execOp,ho,f,k,Sem.run_bind,b.guard,Result.andThen_ok,b.neq c w w _ _ _ u v d j i l,Sem.run_pure]
   ·cases hr
  ·cases hr
 ·cases hr
def Zww(s:St)(tg:Xo)(x:Operand):Option Res:=
 match op1 s tg x with
 | .tm k t=>match Z54 s k t with
  |some r=>match r.t with
   | .ptr _ _| .shp _ _=>some r
   | .elp q p _ _=>match s.bad q p with|false=>some r|true=>none
   |_=>none
  |none=>none
 |_=>none
theorem Zwx(h:R n W0 w X F H s a)(ht:tg.ok W0.gh a){x:Operand}(ho:o.op= .nilCheck x){r:Res}(hr:Zww s tg x=some r):Zbh P τ W0 w X F s a o r:=by
 unfold Zww at hr;split at hr
 ·rename_i k t hx;split at hr
  ·rename_i u l;obtain⟨v,d⟩:=Zsc h ht hx l;have m:u=r/\ ∃j,a.eval x= .pointer (some j):=by
    split at hr
    ·rename_i q p c;rw[c]at d;obtain⟨_,e,T,f,y,b,D,_,_,g⟩:=d;exact⟨by simpa using hr,_,g⟩
    ·rename_i T y c;rw[c]at d;obtain⟨_,j,E,g,_⟩:=d;exact⟨by simpa using hr,_,g⟩
    ·rename_i q p i z c;rw[c]at d;split at hr
     ·rename_i A;obtain⟨e,G,j,I,B,_,_,_,g⟩:=d.2 A;exact⟨by simpa using hr,_,g⟩
     ·cases hr
    ·cases hr
   obtain⟨rfl,j,C⟩:=m;refine Yr v fun _=>⟨_,fun J _=> ?_,d⟩
   simp only[execOp,ho,C];rfl
  ·cases hr
 ·cases hr
def Qxd(C:Cfg)(s:St)(tg:Xo)(o:Oper):Option Res:=
 match o.op with
 | .move x=>Z0n C.τ s tg o.type x
 | .assign x=>Zuw C.τ s tg o.type x
 | .pick c x y=>Qoe C.τ s tg o.type c x y
 | .alloc e=>Qor C.τ s e
 | .box e x=>Qzy C.τ s tg e x
 | .build e ps=>match C.τ e with
  |some (.arr _ _)=>Z3b C.τ s tg e ps
  |_=>Qo4 C.τ s tg e ps
 | .buildSlice e n ps=>match C.τ e,C.soft with
  |none,false=>Q00 C.pt s tg e n ps
  |_,_=>match Zxh C.τ s tg e n ps with
   |some r=>some r
   |none=>Z3c C.τ s tg e n ps
 | .load e x=>match C.τ e with
  |none=>Qwn C.pt s tg e x
  |some _=>Qod C.τ s tg e x
 | .binOp op e x y e2=>match C.τ e with
  |some (.pair _ _)|some (.arr _ _)=>Q2f C s tg op e x y
  |none=>match C.pt.isPtr e with
   |true=>Qru C.pt s tg op e x y
   |false=>Qz3 C.pt s tg op e x y
  |_=>Qvl C.τ s tg op e x y e2
 | .unOp op e x=>Q3p C.τ s tg op e x
 | .convert e e2 x=>Qn7 C.τ s tg e e2 x
 | .makeSlice e x y=>Qwp C.τ s tg e x y
 | .slice e x lo hi none=>match C.soft with
  |true=>none
  |false=>Qr8 C.τ s tg e x lo hi
 | .nilCheck x=>Zww s tg x
 | .fieldAddr e x i=>Qer C.τ s tg e x i
 | .indexAddr e x i=>match C.τ e with
  |none=>Q0f C.pt s tg e x i
  |some _=>Zum C.τ s tg e x i
 | .index e x i=>Qe2 C.τ s tg e x i
 | .extract x i=>Qai s x i
 | .makeFunc (.func f) ⟨[]⟩ ⟨[]⟩=>some ⟨.val (.fnc f) (.u true) (),s,false,none⟩
 | .call {callee:= .builtin .len,args:=⟨[x]⟩,argTypes:=⟨[e]⟩}=>match C.τ e with
  |none=>Q0m C.pt s tg e x
  |some _=>Qwm C.τ s tg e x
 | .call {callee:= .builtin .min,args:=⟨[x,y]⟩,argTypes:=⟨[e,_]⟩}=>Qi1 s tg e C.τ x y false
 | .call {callee:= .builtin .max,args:=⟨[x,y]⟩,argTypes:=⟨[e,_]⟩}=>Qi1 s tg e C.τ x y true
 | .call {callee:= .builtin .append,args:=⟨[x,y]⟩,argTypes:=⟨[e,e2]⟩}=>match Nat.beq e e2 with
  |true=>match Qhj C.τ s tg e x y with
   |some r=>some r
   |none=>match Qvi C.τ s tg e x y with
    |some r=>some r
    |none=>Qc3 C.soft C.τ s tg e x y
  |false=>none
 |_=>none
theorem Qhd(h:R n W0 w X F H s a)(ht:tg.ok W0.gh a)(hC:C.ok P g){r:Res}(hr:Qxd C s tg o=some r):Zqd P n W0 w X H s a o r:=by
 unfold Qxd at hr;split at hr
 ·rename_i b;exact(Zxu h ht b hr).sound h
 ·rename_i b;exact Qlw h ht b hr
 ·rename_i b;exact(Z9b h ht b hr).sound h
 ·rename_i b;exact Qos h hC.τ b hr
 ·rename_i b;exact Qvm h ht b hr
 ·rename_i b;split at hr
  ·exact Qc8 h ht hC.τ b hr
  ·exact Qo5 h ht hC.τ b hr
 ·rename_i b;split at hr
  ·rename_i _ c;exact Qwx (hC.soft.trans c) h ht hC.pt b hr
  ·split at hr
   ·rename_i d;cases hr;exact Z6r h ht hC.τ b d
   ·exact Qc9 h ht hC.τ b hr
 ·rename_i b;split at hr
  ·exact(Qtm (τ:=C.τ) h ht hC.pt b hr).sound h
  ·exact(Z86 h ht hC.τ b hr).sound h
 ·rename_i b;split at hr
  ·exact(Zwp h ht hC b hr).sound h
  ·exact(Zwp h ht hC b hr).sound h
  ·split at hr
   ·exact(Qrv (τ:=C.τ) h ht hC.pt b hr).sound h
   ·exact(Qv2 (τ:=C.τ) h ht hC.pt b hr).sound h
  ·exact(Qc6 h ht hC.τ b hr).sound h
 ·rename_i b;exact(Qlr h ht b hr).sound h
 ·rename_i b;exact(Z8v h ht hC.τ b hr).sound h
 ·rename_i b;exact Qtn h ht hC.τ b hr
 ·rename_i b;split at hr
  ·cases hr
  ·rename_i c;exact Qr9 (hC.soft.trans c) h ht hC.τ b hr
 ·rename_i b;exact(Zwx (τ:=C.τ) h ht b hr).sound h
 ·rename_i b;exact(Z3s h ht hC.τ b hr).sound h
 ·rename_i b;split at hr
  ·exact(Qwc (τ:=C.τ) h ht hC.pt b hr).sound h
  ·exact(Zvd h ht hC.τ b hr).sound h
 ·rename_i b;exact(Z39 h ht hC.τ b hr).sound h
 ·rename_i b;exact Qip h b hr
 ·rename_i f b;simp only[Osi]at hr;subst hr;exact Zps h rfl fun _=>⟨_,by simp[execOp,b,Instr.makeFunc],Qxe f⟩
 ·rename_i b;split at hr
  ·exact(Qwl (τ:=C.τ) h ht hC.pt b hr).sound h
  ·exact(Qfa h ht hC.τ b hr).sound h
 ·rename_i b;exact(Zup h ht (mx:=false) b hr).sound h
 ·rename_i b;exact(Zup h ht (mx:=true) b hr).sound h
 ·rename_i e j b;split at hr
  ·rename_i i;have:=Onb i;subst this;split at hr
   ·rename_i d;cases hr;exact Qlv h ht hC.τ b d
   ·split at hr
    ·rename_i d;cases hr;exact Qsp h ht hC.τ b d
    ·cases c:C.soft with
     |false=>exact Qou (hC.soft.trans c) h ht hC.τ b hr
     |true=>rw[c]at hr;simp[Qc3]at hr
  ·cases hr
 ·cases hr
def Qda(s:St):Nat->Nat->Bool->Option Xo
 |0,_,_=>none
 |d+1,g,b=>match s.foul g with
  |true=>none
  |false=>match s.get (.m g)with
   | .gd g2 b2 _=>match Qda s d g2 b2 with
    |some tg=>some ((g,b)::tg)
    |none=>none
   | .val .bool _ _=>some [(g,b)]
   |_=>none
def Qsi(s:St):Xo->Prop->Option Prop
 | [],p=>some p
 | (g,b)::tg,p=>match Wi s (op1 s tg (.tmp g)) .bool with
  |some c=>Qsi s tg (c=b->p)
  |none=>none
noncomputable def Ze{ρ:Type}(p:Prop)(m:Option ρ):Option ρ:=by
 classical exact if p then m else none
theorem Zs6{ρ:Type}{p:Prop}{m:Option ρ}{r:ρ}:Ze p m=some r↔p/\m=some r:=by
 unfold Ze;split<;>simp_all
theorem Zb{ρ:Type}{p:Prop}{m:Option ρ}(h:p):Ze p m=m:=by
 unfold Ze;rw[if_pos h]
noncomputable def Qqw{ρ:Type}(o:Ob)(m:Option ρ):Option ρ:=
 match o with
 |none=>m
 |some p=>Ze p m
theorem Z3v{ρ:Type}{o:Ob}{m:Option ρ}{r:ρ}:Qqw o m=some r↔o.ok/\m=some r:=by
 cases o with
 |none=>simp[Qqw,Ob.ok]
 |some p=>exact Zs6
noncomputable def Qxa{ρ:Type}(s:St)(tg:Xo)(o:Ob)(m:Option ρ):Option ρ:=
 match o with
 |none=>m
 |some p=>match Qsi s tg p with
  |some q=>Ze q m
  |none=>none
def Qpf(s:St):Xo->Option (List (Bool×Bool))
 | []=>some []
 | (g,b)::tg=>match Wi s (op1 s tg (.tmp g)) .bool,Qpf s tg with
  |some c,some r=>some ((c,b)::r)
  |_,_=>none
def Qzq{α:Type}(d:α)(m:Option α):List (Bool×Bool)->Option α| []=>m| (c,true)::r=>bif c then Qzq d m r else some d| (c,false)::r=>bif c then some d else Qzq d m r
theorem Zwe(h:R n W0 w X F H s a): ∀{d g:Nat} {b:Bool} {tg:Xo},Qda s d g b=some tg->Qp W0.gh a (.m g)= .bool b->tg.ok W0.gh a
 |0,_,_,_,c,_=>by cases c
 |d+1,g,b,tg,c,f=>by
  simp only[Qda]at c;split at c
  ·cases c
  ·rename_i y;split at c
   ·rename_i l r t u;split at c
    ·rename_i v e;simp only[Osi]at c;subst c;have o:=h.slots (.m g);rw[u]at o;have i:s.foul l=false:=by
      cases d with
      |zero=>cases e
      |succ d=>
       simp only[Qda]at e;split at e
       ·cases e
       ·assumption
     obtain⟨_,_,x⟩:=o i;have j:Qp W0.gh a (.m l)= .bool r:=Classical.byContradiction fun k=>by
      obtain⟨_,q⟩:=x k;rw[f]at q;cases q
     intro p hp;rcases List.mem_cons.1 hp with rfl|hp
     ·exact f
     ·exact Zwe h e j p hp
    ·cases c
   ·simp only[Osi]at c;subst c;intro p hp;simp only[List.mem_singleton]at hp;subst hp;exact f
   ·cases c
theorem Qhb(h:R n W0 w X F H s a): ∀{tg:Xo} {p q:Prop},Qsi s tg p=some q->q->Xo.ok tg W0.gh a->p
 | [],p,q,d,j,_=>by simp only[Qsi,Osi]at d;subst d;exact j
 | (g,b)::tg,p,q,d,j,k=>by
  simp only[Qsi]at d;split at d
  ·rename_i c l;have f:Xo.ok tg W0.gh a:=fun p o=>k p (List.mem_cons_of_mem _ o);have r:=Zkd h f l;have t:=k (g,b) (List.mem_cons_self ..);have u:c=b:=by
    have i:Qp W0.gh a (.m g)= .bool c:=(Ye W0 a (Zy4 l)).trans r;rw[t]at i;injection i with e
    exact e.symm
   exact Qhb h d j f u
  ·cases d
theorem Qhc{ρ:Type}(h:R n W0 w X F H s a){tg:Xo}{o:Ob}{m:Option ρ}{r:ρ}(hu:Qxa s tg o m=some r):m=some r/\(Xo.ok tg W0.gh a->o.ok):=by
 unfold Qxa at hu;split at hu
 ·exact⟨hu,fun _=>trivial⟩
 ·split at hu
  ·rename_i d b;rw[Zs6]at hu;exact⟨hu.2,fun c=>Qhb h b hu.1 c⟩
  ·cases hu
theorem Qdf(h:R n W0 w X F H s a): ∀{tg:Xo} {cs:List (Bool×Bool)},Qpf s tg=some cs->Xo.ok tg W0.gh a-> ∀{α:Type} (d:α) (m:Option α),Qzq d m cs=m
 | [],cs,f,_,_,d,m=>by simp only[Qpf,Osi]at f;subst f;rfl
 | (g,b)::tg,cs,f,k,_,d,m=>by
  simp only[Qpf]at f;split at f
  ·rename_i c r i o;simp only[Osi]at f;subst f;have j:Xo.ok tg W0.gh a:=fun p q=>k p (List.mem_cons_of_mem _ q);have t:Qp W0.gh a (.m g)= .bool c:=(Ye W0 a (Zy4 i)).trans (Zkd h j i);have l:=k (g,b) (List.mem_cons_self ..);rw[t]at l;injection l with e
   simp only at e;subst e;have u:=Qdf h o j d m;cases c<;>simp[Qzq,u]
  ·cases f
def Qj6: (ts:List Ty)->Jp ts->Option TV| [t],r=>some ⟨t,r.1⟩|_,_=>none
theorem Q1h: ∀{ts:List Ty} {r:Jp ts} {v:TV} {rs:List Value} {S:List Nat},Qj6 ts r=some v->Zfd w B ts r rs S-> ∃cs,X4 rs=Xz v.1 cs/\rd w (fun _=>False) B true v.1 v.2 cs S
 | [t],r,v,rs,S,h,hx=>by
  simp only[Qj6,Osi]at h;subst h;obtain⟨cs,a,c,d,rfl,rfl,b,rfl,rfl⟩:=hx;exact⟨cs,rfl,by simpa using b⟩
 | [],_,_,_,_,h,_=>by simp[Qj6]at h
 |_::_::_,_,_,_,_,h,_=>by simp[Qj6]at h
theorem Vu:Xo.ok [] W0.gh a:=fun p b=>by cases b
theorem Qt3{d g:Nat}{b:Bool}{tg:Xo}(hc:Qda s d g b=some tg):s.get (.m g)≠ .junk:=by
 cases d with
 |zero=>cases hc
 |succ d=>
  simp only[Qda]at hc;split at hc
  ·cases hc
  ·split at hc
   ·rename_i a;rw[a];simp
   ·rename_i a;rw[a];simp
   ·cases hc
def Q8k: (ts:List Ty)->Jp ts| []=>()|t::ts=>(zero t,Q8k ts)
noncomputable def gdK{ρ:Type}(C:Cfg)(o:Oper)(s:St)(tg:Xo)(g:Nat)(b:Bool)(d:Nat)(k:St->Option ρ):Option ρ:=
 match o.op with
 | .call {callee:= .value fo,args:=xs,..}=>match(Qtl s tg fo).bind C.Γ.find with
  |some e=>match Zoi s tg e.args xs.toList,Qpf s tg,Qj6 e.res (Q8k e.res)with
   |some us,some cs,some _=>(Qzq (Q8k e.res) (e.F us) cs).bind fun r=>match Qj6 e.res r with
    |some v=>k (Y2 s d (.gd g b (.val v.1 (.u true) v.2)))
    |none=>none
   |_,_,_=>none
  |none=>none
 |_=>match Qxd C s tg o with
  |some r=>match r.moved with
   |false=>Qxa s tg r.obl (k (Y2 s d (.gd g b r.t)))
   |true=>none
  |none=>none
def Q5w(s:St):List Operand->Option (List Nat)
 | []=>some []
 |x::xs=>match Quz (op1 s [] x),Q5w s xs with
  |some q,some l=>match s.get (.m q)with
   | .box .. =>some (q::l)
   |_=>none
  |_,_=>none
theorem Qo9(h:R n W0 w X F H s a): ∀{xs:List Operand} {l:List Nat},Q5w s xs=some l->(xs.map a.eval).length=l.length/\ ∀(j:Nat) (q:Nat),l[j]? =some q-> ∃u,(xs.map a.eval)[j]? =some u/\atP s F q [] u
 | [],l,d=>by simp only[Q5w,Osi]at d;subst d;exact⟨rfl,fun j q h=>by simp at h⟩
 |x::xs,l,d=>by
  simp only[Q5w]at d;split at d
  ·rename_i q C p g;split at d
   ·rename_i e T f y i;simp only[Osi]at d;subst d;obtain⟨r,t⟩:=Qo9 h g;refine⟨by simpa using r,fun j v k=> ?_⟩;cases j with
    |zero=>
     simp only[List.getElem?_cons_zero,Osi]at k;subst k;have o:=h.slots (.m q);rw[i]at o;obtain⟨b,c,z,A,B,_⟩:=o;refine⟨a.eval x,by simp,e,T,f,y,b,z,i,B,?_⟩;rw[Zw9 h p i,A];have:J1 T []=0:=by cases T<;>rfl
     rw[this]
    |succ j=>simpa using t j v (by simpa using k)
   ·cases d
  ·cases d
noncomputable def Qsc{ρ:Type}(C:Cfg)(n:Nat)(ops:Array Oper)(o:Oper)(s:St)(k:St->Option ρ):Option ρ:=
 match o.guard with
 |none=>match o.op with
  | .store e x v=>match o.dst with
   |none=>match Qg7 C.τ s [] e x v with
    |some s'=>k s'
    |none=>none
   |some _=>none
  | .call {callee:= .value fo,args:=xs,..}=>match Qtl s [] fo with
   |some f=>Q5u C.Γ n s [] o.dst f xs.toList k
   |none=>match Qxm s [] fo with
    |some c=>Q5t C.Γ n s [] o.dst c xs.toList k
    |none=>none
  | .makeFunc (.func f) ⟨[]⟩ ⟨c::cs⟩=>match C.inl.find f with
   |some _=>match Q5w s (c::cs),o.dst with
    |some l,some d=>match Jy s d&&Nat.blt d n with
     |true=>k (Y2 s d (.cl f l))
     |false=>none
    |_,_=>none
   |none=>match C.soft,Q5v s (c::cs),o.dst with
    |false,some (U,s'),some d=>match Jy s' d&&Nat.blt d n with
     |true=>k (Y2 s' d (.val (.clo f U.1) (.u false) U.2))
     |false=>none
    |_,_,_=>none
  | .move (.tmp q)=>match s.get (.m q),o.dst with
   | .tup,some d=>match Jy s d&&Nat.blt d n&&Nat.blt q 1048576 with
    |true=>k (Qlq s q d)
    |false=>none
   |_,_=>match Z0n C.τ s [] o.type (.tmp q),o.dst with
    |some r,some d=>match Jy r.s d&&Nat.blt d n with
     |true=>Qqw r.obl (k (Y2 r.s d r.t))
     |false=>none
    |_,_=>none
  |_=>match Qxd C s [] o,o.dst with
   |some r,some d=>match Jy r.s d&&Nat.blt d n with
    |true=>Qqw r.obl (k (Y2 r.s d r.t))
    |false=>none
   |_,_=>none
 |some (j,b)=>match(ops[j]?).bind (·.dst),o.dst with
  |some g,some d=>match Qda s 8 g b,Jy s d&&Nat.blt d n&&Nat.blt g 1048576 with
   |some tg,true=>gdK C o s tg g b d k
   |_,_=>none
  |_,_=>none
structure Q8o(gh:Nat->Value)(C:Cfg)(o:Oper)(X X':Nat->Prop)(s:St)(a a':Act)(w w':World):Prop where
 more: ∀b,X b->X' b
 pres:Q01 o.op=true->Old w w'
 kept:Qlu gh X s a (Qn4 C.τ s o) w w'
 put: ∃v,a'=a.put o.dst v
theorem R.fact(h:R n W0 w X F H s a){o:Oper}{v:Value}(hold:Old w w'):Q8o W0.gh C o X X s a (a.put o.dst v) w w':=⟨fun _ h=>h,fun _=>hold,h.kept hold,⟨v,rfl⟩⟩
theorem Qlu.any{tgt:Option Nat}(h:Qlu W0.gh X s a none w w'):Qlu W0.gh X s a tgt w w':=fun b c=>h b (c.imp id fun⟨r,d,_,e⟩=>⟨r,d,by simp,e⟩)
theorem Q39{ρ:Type}(hC:C.ok P g)(h:R n W0 w X F [] s a){g d:Nat}{b:Bool}(hd:o.dst=some d)(hch:Qda s 8 g b=some tg)(hdn:Jy s d=true/\d<n){k:St->Option ρ}{r:ρ}(hs:gdK C o s tg g b d k=some r)
  {K:Act->World->Prop} {Q:Exit->Act->World->Prop} (hK: ∀w' a' X' F' s',k s'=some r->R n W0 w' X' F' [] s' a'->Q8o W0.gh C o X X' s a a' w w'->K a' w'):
  (Qp W0.gh a (.m g)= .bool b->o.wp P a w K Q)/\(Qp W0.gh a (.m g)≠ .bool b->K (a.put o.dst undef) w):=by
 have j:=Qt3 hch;have skip: ∀{t:Tm},Qp W0.gh a (.m g)≠ .bool b->k (Y2 s d (.gd g b t))=some r->K (a.put o.dst undef) w:=by
  intro t c y;rw[hd];exact hK w _ X _ _ y ((by simpa using h:R n W0 w X F ([]++ []) s a).put (S:=[]) hdn.1 hdn.2 fun _=>⟨j,fun i=>absurd i c,fun _=>⟨rfl,rfl⟩⟩) (by rw[<-hd];exact h.fact (Old.refl w))
 unfold gdK at hs;split at hs
 ·rename_i W Y I J;split at hs
  ·rename_i e z;obtain⟨f,L,y⟩:=Option.bind_eq_some_iff.1 z;split at hs
   ·rename_i Z H v0 A B M;rw[Option.bind_eq_some_iff]at hs;obtain⟨rv,p,hk⟩:=hs;split at hk
    ·rename_i v hv;refine⟨fun i=> ?_,fun i=>skip i hk⟩;have l:=Zwe h hch i;rw[Qdf h B l]at p;refine Z9i hC.Γ h l (Zj8 h l L) J y A p fun rs S w' x q hold=> ?_;obtain⟨H,N,O⟩:=Q1h hv q;rw[hd];exact hK w' _ X _ _ hk (x.put hdn.1 hdn.2 fun _=>⟨j,fun _=>⟨H,N,by unfold rdF;exact Zdb (Nat.le_refl _) (fun _ (h:False)=>h.elim) O⟩,fun c=>absurd i c⟩) (by rw[<-hd];exact h.fact hold)
    ·cases hk
   ·cases hs
  ·cases hs
 ·split at hs
  ·rename_i r0 hv;split at hs
   ·rename_i U;obtain⟨hk,D⟩:=Qhc h hs;refine⟨fun i=> ?_,fun i=>skip i hk⟩;have l:=Zwe h hch i;refine Qhd h l hC hv (D l) K Q fun v X' F' S w' V x u E hold=> ?_;have G:=E U;rw[G]at x u;rw[hd];exact hK w' _ X' _ _ hk (x.put hdn.1 hdn.2 fun _=>⟨j,fun _=>u,fun c=>absurd i c⟩) (by rw[<-hd];exact⟨V,hold.1,hold.2.any,_,rfl⟩)
   ·cases hs
  ·cases hs
theorem Z5x{ρ:Type}(hC:C.ok P g){ops:Array Oper}(h:R n W0 w X F [] s a){k:St->Option ρ}{r:ρ}(hs:Qsc C n ops o s k=some r){K:Act->World->Prop}{Q:Exit->Act->World->Prop}
  (hK: ∀w' a' X' F' s',k s'=some r->R n W0 w' X' F' [] s' a'->Q8o W0.gh C o X X' s a a' w w'->K a' w'):if Region.wanted o (yielded ops a.tmps)then o.wp P a w K Q else K (a.put o.dst undef) w:=by
 unfold Qsc at hs;split at hs
 ·rename_i M;rw[if_pos (by simp[Region.wanted,M])];split at hs
  ·rename_i e x v y;split at hs
   ·rename_i i;split at hs
    ·rename_i s' N;exact Qsd h hC.τ y i N fun w' F' A E=>hK w' a X F' s' hs A ⟨fun _ h=>h,fun hp=>(by rw[y]at hp;cases hp),E,undef,by rw[i];rfl⟩
    ·cases hs
   ·cases hs
  ·rename_i fo xs ab y;split at hs
   ·rename_i f hf;exact Qxj hC.Γ h Vu (Zj8 h Vu hf) y hs fun v w' F' s' hk A hold=>hK w' _ X F' s' hk A (h.fact hold)
   ·split at hs
    ·rename_i c O;exact Qxi hC.Γ h Vu O y hs fun v w' F' s' hk A hold=>hK w' _ X F' s' hk A (h.fact hold)
    ·cases hs
  ·rename_i f c cs y;split at hs
   ·split at hs
    ·rename_i l d z i;split at hs
     ·rename_i hdn;simp only[Oba,Nat.blt_eq]at hdn;obtain⟨V,W⟩:=Qo9 h z;unfold Oper.wp;simp only[execOp,y,Instr.makeFunc,Oper.upon];rw[i];refine hK w _ X _ _ hs ((by simpa using h:R n W0 w X F ([]++ []) s a).put hdn.1 hdn.2 (t:= .cl f l) ⟨rfl,(c::cs).map a.eval,by simp,V,W⟩) (by rw[<-i];exact h.fact (Old.refl w))
     ·cases hs
    ·cases hs
   ·split at hs
    ·rename_i U s' d Y z i;split at hs
     ·rename_i hdn;simp only[Oba,Nat.blt_eq]at hdn;obtain⟨X',F',V,W,g3⟩:=Qo8 (hC.soft.trans Y) h z;unfold Oper.wp;simp only[execOp,y,Instr.makeFunc,Oper.upon];rw[i];refine hK w _ X' _ _ hs ((by simpa using V:R n W0 w X' F' ([]++ []) s' a).put hdn.1 hdn.2 (t:= .val (.clo f U.1) (.u false) U.2) ⟨[.func (.func f) #[] (List.map a.eval (c::cs)).toArray],by simp[Xz],by unfold rdF;exact⟨rfl,_,rfl,g3⟩⟩) (by rw[<-i];exact⟨W,fun _=>Old.refl w,h.kept (Old.refl w),_,rfl⟩)
     ·cases hs
    ·cases hs
  ·rename_i q y;split at hs
   ·rename_i d hq i;split at hs
    ·rename_i hdn;have Z:Nat.blt q 1048576=true:=by simp only[Oba]at hdn;exact hdn.2
     simp only[Oba,Nat.blt_eq]at hdn;obtain⟨F',H⟩:=h.tupTo hq hdn.1.1 hdn.1.2;rw[Ye W0 a Z]at H;unfold Oper.wp;simp only[execOp,y,Sem.run_pure,Oper.upon];rw[i];exact hK w _ X F' _ hs H (by rw[<-i];exact h.fact (Old.refl w))
    ·cases hs
   ·split at hs
    ·rename_i r0 d hv i;split at hs
     ·rename_i hdn;simp only[Oba,Nat.blt_eq]at hdn;rw[Z3v]at hs;refine(Zxu h Vu y hv).sound h hs.1 K Q fun v X' F' S w' hX A G _ hold=> ?_;rw[i];exact hK w' _ X' _ _ hs.2 (A.put hdn.1 hdn.2 G) (by rw[<-i];exact⟨hX,hold.1,hold.2.any,_,rfl⟩)
     ·cases hs
    ·cases hs
  ·split at hs
   ·rename_i r0 d hv i;split at hs
    ·rename_i hdn;simp only[Oba,Nat.blt_eq]at hdn;rw[Z3v]at hs;refine Qhd h Vu hC hv hs.1 K Q fun v X' F' S w' hX A G _ hold=> ?_;rw[i];exact hK w' _ X' _ _ hs.2 (A.put hdn.1 hdn.2 G) (by rw[<-i];exact⟨hX,hold.1,hold.2.any,_,rfl⟩)
    ·cases hs
   ·cases hs
 ·rename_i j b M;split at hs
  ·rename_i g d hj i;split at hs
   ·rename_i tg aa hdn;have I:Nat.blt g 1048576=true:=by simp only[Oba]at hdn;exact hdn.2
    simp only[Oba,Nat.blt_eq]at hdn;have J:=Q39 (Q:=Q) hC h i aa hdn.1 hs hK;by_cases L:Qp W0.gh a (.m g)= .bool b
    ·have D:g<a.tmps.size:=by
      have p:a.tmps.getD g undef= .bool b:=(Ye W0 a I).symm.trans L;rcases Nat.lt_or_ge g a.tmps.size with h'|h'
      ·exact h'
      ·rw[Array.getD_eq_getD_getElem?,Array.getElem?_eq_none h']at p;cases p
     have B:Region.wanted o (yielded ops a.tmps)=true:=by
      have p:a.tmps[g]? =some (.bool b):=by
       have p:a.tmps.getD g undef= .bool b:=(Ye W0 a I).symm.trans L;rw[Array.getD_eq_getD_getElem?,Array.getElem?_eq_getElem D]at p;rw[Array.getElem?_eq_getElem D];simpa using p
      simp[Region.wanted,M,yielded,hj,p]
     rw[if_pos B];exact J.1 L
    ·have B: ¬Region.wanted o (yielded ops a.tmps)=true:=by
      intro B;simp only[Region.wanted,M,yielded,hj,Obs,beq_iff_eq]at B;apply L;split at B
      ·rename_i c O;simp only[Osi]at B;subst B;simp[Qp,Zlw,O]
      ·cases B
     rw[if_neg B];exact J.2 L
   ·cases hs
  ·cases hs
end
end Go.Am
namespace Go.Am
open Go.RowKit
def Zhy:Ty->Nat| .pair a b=>max (Zhy a+1) (Zhy b)| .arr _ t=>Zhy t+1|_=>1
def eqB(P:Program):Ty->TypeId->List Field->Nat->Bool->Bool
 | .int _,e,_,_,true=>match P.underlying e with|some (.int _)=>Ztg P e (.int .i64)|_=>false
 | .bool,e,_,_,true=>match P.underlying e with|some .bool=>Ztg P e .bool|_=>false
 | .str,e,_,_,true=>match P.underlying e with|some .string=>Ztg P e .str|_=>false
 | .unit,e,_,_,true=>match P.underlying e with|some (.struct fs)=>fs.toList.isEmpty&& !P.stoodInHeld e&&Ztg P e .unit|_=>false
 | .pair a b,e,_,_,true=>match P.underlying e with
  |some (.struct fs)=>match fs.toList with
   | f :: r => !P.stoodInHeld e && Ztg P e (.pair a b) && f.name != "_" && Nat.beq f.offset 0 && eqB P a f.type [] 0 true && eqB P b 0 r a.size false
   | []=>false
  |_=>false
 | .arr n t,e,_,_,true=>match P.underlying e with
  |some (.array m e2)=>Nat.beq m n&&Ztg P e (.arr n t)&&eqB P t e2 [] 0 true
  |_=>false
 | .unit,_,fs,_,false=>fs.isEmpty
 | .pair a b,_,fs,off,false=>match fs with
  | f :: r => f.name != "_" && Nat.beq f.offset off && eqB P a f.type [] 0 true && eqB P b 0 r (off + a.size) false
  | []=>false
 |_,_,_,_,_=>false
section
variable {P:Program}
theorem Qxx{T:Ty}{e:TypeId}{fs:List Field}{off:Nat}(h:eqB P T e fs off true=true): ∃i,P.info? e=some i/\i.size=T.size:=by
 have c: ∀U:Ty,U.size=T.size->Ztg P e U=true-> ∃i,P.info? e=some i/\i.size=T.size:=fun U d f=>by
  obtain⟨i,g,j,_⟩:=Zml f;exact⟨i,g,by rw[j,d]⟩
 cases T<;>simp only[eqB]at h
 case int k=>split at h<;>first|exact c _ rfl h|cases h
 case bool=>split at h<;>first|exact c _ rfl h|cases h
 case str=>split at h<;>first|exact c _ rfl h|cases h
 case unit=>
  split at h
  ·simp only[Oba]at h;exact c _ rfl h.2
  ·cases h
 case pair a b=>
  split at h
  ·split at h
   ·simp only[Oba]at h;exact c _ rfl h.1.1.1.1.2
   ·cases h
  ·cases h
 case arr n t=>
  split at h
  ·simp only[Oba]at h;exact c _ rfl h.1.2
  ·cases h
 case slice=>cases h
 case fnc=>cases h
 case err=>cases h
 case hid=>cases h
 case sptr=>cases h
 case clo=>cases h
theorem Q87{T:Ty}{e:TypeId}{fs:List Field}{off:Nat}(h:eqB P T e fs off true=true)(w:World): (Go.isAgg e).run P w= .ok T.isAgg w:=by
 cases T<;>simp only[eqB]at h
 case int k=>split at h<;>first| (rename_i c;simp[Go.isAgg,run_underlying c,Ty.isAgg])|cases h
 case bool=>split at h<;>first| (rename_i c;simp[Go.isAgg,run_underlying c,Ty.isAgg])|cases h
 case str=>split at h<;>first| (rename_i c;simp[Go.isAgg,run_underlying c,Ty.isAgg])|cases h
 case unit=>split at h<;>first| (rename_i c;simp[Go.isAgg,run_underlying c,Ty.isAgg])|cases h
 case pair a b=>split at h<;>first| (rename_i c;simp[Go.isAgg,run_underlying c,Ty.isAgg])|cases h
 case arr n t=>split at h<;>first| (rename_i c;simp[Go.isAgg,run_underlying c,Ty.isAgg])|cases h
 case slice=>cases h
 case fnc=>cases h
 case err=>cases h
 case hid=>cases h
 case sptr=>cases h
 case clo=>cases h
theorem Qz2{T:Ty}{e:TypeId}{fs:List Field}{off:Nat}(h:eqB P T e fs off true=true)(w:World): (Go.sizeOf e).run P w= .ok T.size w:=by
 obtain⟨i,a,b⟩:=Qxx h;simp[Go.sizeOf,typeInfo,a,b]
theorem Qgk{T:Ty}{e:TypeId}{fs:List Field}{off':Nat}(h:eqB P T e fs off' true=true)(w:World){xs:Array Value}{off:Nat}{pre u post:List Value}(hx:xs.toList=pre++ (u++post))(ho:pre.length=off)(hu:u.length=T.size):
  (part e xs off).run P w= .ok (Xz T u) w:=by
 unfold part;simp only[Sem.run_bind,Q87 h w,Result.andThen_ok];cases ha:T.isAgg
 ·have b:=Qgn ha;rw[b]at hu;obtain⟨v,rfl⟩:=List.length_eq_one_iff.1 hu;have:xs[off]? =some v:=by
   rw[<-Array.getElem?_toList,hx,<-ho];simp
  have a:Xz T [v]=v:=by cases T<;>simp[Ty.isAgg]at ha<;>rfl
  simp[this,a]
 ·simp only[if_true,Sem.run_bind,Qz2 h w,Result.andThen_ok,Sem.run_pure];have c:xs.extract off (off+T.size)=u.toArray:=by
   apply Array.toList_inj.mp;rw[Array.toList_extract,hx,<-ho,<-hu];simp
  have a:Xz T u= .agg u.toArray:=by cases T<;>simp[Ty.isAgg]at ha<;>rfl
  rw[c,a]
theorem Zs4{X Y:Nat->Prop}{B:Nat}{w2 w3:World}: ∀(T:Ty),
  (∀(e:TypeId) (fs:List Field) (off d:Nat) (w:World) (x y:T.den) (u v:List Value),eqB P T e fs off true=true->Zhy T<=d+1->rd w2 X B false T x u []->rd w3 Y B false T y v []->
   (Op.equalIn (d+1) e (Xz T u) (Xz T v)).run P w= .ok (eqV T x y) w)/\
  (∀(e:TypeId) (fs:List Field) (off d:Nat) (w:World) (x y:T.den) (u v pu pv:List Value),eqB P T e fs off false=true->Zhy T<=d+1->rd w2 X B false T x u []->rd w3 Y B false T y v []->pu.length=off->pv.length=off->
   (Op.eqFields d (pu++u).toArray (pv++v).toArray fs).run P w= .ok (eqV T x y) w)
 | .int k=>by
   refine⟨fun e fs off d w x y u v h _ hx c=> ?_,fun e fs off d w x y u v pu pv h=>by simp[eqB]at h⟩;simp only[eqB]at h;split at h
   ·rename_i k' s;rw[hx.1,c.1];exact run_equalIn_int w d e k k' x y s
   ·cases h
 | .bool=>by
   refine⟨fun e fs off d w x y u v h _ hx c=> ?_,fun e fs off d w x y u v pu pv h=>by simp[eqB]at h⟩;simp only[eqB]at h;split at h
   ·rename_i s;rw[hx.1,c.1];exact run_equalIn_bool' w d e x y s
   ·cases h
 | .str=>by
   refine⟨fun e fs off d w x y u v h _ hx c=> ?_,fun e fs off d w x y u v pu pv h=>by simp[eqB]at h⟩;simp only[eqB]at h;split at h
   ·rename_i s;rw[hx.1,c.1];have:=run_equalIn_string w d e ⟨⟨x⟩⟩ ⟨⟨y⟩⟩ s;rw[ByteArray.toList_eq,ByteArray.toList_eq]at this;exact this
   ·cases h
 | .unit=>by
   refine⟨fun e fs off d w x y u v h _ hx c=> ?_,fun e fs off d w x y u v pu pv h _ hx c _ _=> ?_⟩
   ·simp only[eqB]at h;split at h
    ·rename_i fs s;simp only[Oba,Bool.not_eq_true']at h;have H:P.fieldsOf e=fs:=by unfold Program.fieldsOf;rw[s]
     rw[hx.1,c.1];show(Op.equalIn (d+1) e (.agg #[]) (.agg #[])).run P w=_;rw[run_equalIn_struct w d e #[] #[] (by rw[H];exact s) h.1.2,H];have:fs.toList=[]:=by simpa using h.1.1
     rw[this];rfl
    ·cases h
   ·have:fs=[]:=by simpa[eqB]using h
    rw[this];rfl
 | .pair a b=>by
   have q : ∀ (f : Field) (r : List Field) (off d : Nat) (w : World) (x y : (Ty.pair a b).den) (u v pu pv : List Value), f.name ≠ "_" -> f.offset = off -> eqB P a f.type [] 0 true = true -> eqB P b 0 r (off + a.size) false = true ->
     Zhy (.pair a b)<=d+1->rd w2 X B false (.pair a b) x u []->rd w3 Y B false (.pair a b) y v []->pu.length=off->pv.length=off->
     (Op.eqFields d (pu++u).toArray (pv++v).toArray (f::r)).run P w= .ok (eqV (.pair a b) x y) w:=by
    intro f r off d w x y u v pu pv I h2 z J A hx c g j;obtain⟨D,K,S1,S2,rfl,L,o,E⟩:=hx;obtain⟨F,M,T1,T2,rfl,N,p,G⟩:=c;have L:=List.append_eq_nil_iff.1 L.symm;have N:=List.append_eq_nil_iff.1 N.symm;obtain⟨rfl,rfl⟩:=L;obtain⟨rfl,rfl⟩:=N;simp only[Zhy]at A;have ad:Zhy a+1<=d+1:=Nat.le_trans (Nat.le_max_left _ _) A;have U:Zhy b<=d+1:=Nat.le_trans (Nat.le_max_right _ _) A;cases d with
    |zero=>
     have:1<=Zhy a:=by cases a<;>simp[Zhy];omega
     omega
    |succ d=>
     simp only[Op.eqFields,I,ne_eq,not_false_eq_true,if_true,Sem.run_bind,h2];rw[Qgk z w (u:=D) (pre:=pu) (post:=K) (by simp) g (X5 o)];simp only[Result.andThen_ok];rw[Qgk z w (u:=F) (pre:=pv) (post:=M) (by simp) j (X5 p)];simp only[Result.andThen_ok];rw[(Zs4 a).1 f.type [] 0 d w x.1 y.1 D F z (by omega) o p];simp only[Result.andThen_ok];cases he:eqV a x.1 y.1
     ·simp[eqV,he]
     ·have:=(Zs4 b).2 0 r (off+a.size) (d+1) w x.2 y.2 K M (pu++D) (pv++F) J U E G (by simp[g,X5 o]) (by simp[j,X5 p]);simp only[List.append_assoc]at this;simp[eqV,he,this]
   refine⟨fun e fs off d w x y u v h A hx c=> ?_,fun e fs off d w x y u v pu pv h A hx c g j=> ?_⟩
   ·simp only[eqB]at h;split at h
    ·rename_i fs s;split at h
     ·rename_i f r V;simp only[Oba,Bool.not_eq_true',bne_iff_ne,ne_eq]at h;obtain⟨⟨⟨⟨⟨I,_⟩,z⟩,J⟩,W⟩,Z⟩:=h;have H:P.fieldsOf e=fs:=by unfold Program.fieldsOf;rw[s]
      show(Op.equalIn (d+1) e (.agg u.toArray) (.agg v.toArray)).run P w=_;rw[run_equalIn_struct w d e u.toArray v.toArray (by rw[H];exact s) I,H,V];exact q f r 0 d w x y u v [] [] z (Onb J) W (by simpa using Z) A hx c rfl rfl
     ·cases h
    ·cases h
   ·simp only[eqB]at h;split at h
    ·rename_i f r;simp only[Oba,bne_iff_ne,ne_eq]at h;obtain⟨⟨⟨z,J⟩,W⟩,Z⟩:=h;exact q f r off d w x y u v pu pv z (Onb J) W Z A hx c g j
    ·cases h
 | .arr n t=>by
   refine⟨fun e fs off d w x y u v h A hx c=> ?_,fun e fs off d w x y u v pu pv h=>by simp[eqB]at h⟩;simp only[eqB]at h;split at h
   ·rename_i m e2 s;simp only[Oba]at h;obtain⟨⟨I,_⟩,z⟩:=h;have:=Onb I;subst this;obtain⟨i,hi,hs⟩:=Qxx z;have hc:P.cellsOf e2=t.size:=by simp[Program.cellsOf,hi,hs]
    show(Op.equalIn (d+1) e (.agg u.toArray) (.agg v.toArray)).run P w=_;rw[run_equalIn_array w d u.toArray v.toArray s hi,hc];cases d with
    |zero=>
     have:1<=Zhy t:=by cases t<;>simp[Zhy];omega
     simp only[Zhy]at A;omega
    |succ d=>
     simp only[Zhy]at A;have aa: ∀(l C:List t.den) (k:Nat) (pu pv O Q:List Value),l.length=C.length->pu.length=k*t.size->pv.length=k*t.size->Zaj (rd w2 X B false t) l O []->Zaj (rd w3 Y B false t) C Q []->
       (Op.eqItems (d+1) e2 t.size (pu++O).toArray (pv++Q).toArray (List.range' k l.length)).run P w= .ok (eqL (eqV t) l C) w:=by
      intro l
      induction l with
      |nil=>intro C k pu pv O Q S _ _ _ _;cases C with
       |nil=>simp[Op.eqItems,eqL]
       |cons=>simp at S
      |cons a l ih=>
       intro C k pu pv O Q S g j ab ac;cases C with
       |nil=>simp at S
       |cons b C=>
        obtain⟨D,K,S1,S2,rfl,L,o,E⟩:=ab;obtain⟨F,M,T1,T2,rfl,N,p,G⟩:=ac;obtain⟨rfl,rfl⟩:=List.append_eq_nil_iff.1 L.symm;obtain⟨rfl,rfl⟩:=List.append_eq_nil_iff.1 N.symm;simp only[List.length_cons,List.range'_succ,Op.eqItems,Sem.run_bind];rw[Qgk z w (u:=D) (pre:=pu) (post:=K) (by simp) g (X5 o)];simp only[Result.andThen_ok];rw[Qgk z w (u:=F) (pre:=pv) (post:=M) (by simp) j (X5 p)];simp only[Result.andThen_ok];rw[(Zs4 t).1 e2 [] 0 d w a b D F z (by omega) o p];simp only[Result.andThen_ok];cases he:eqV t a b
        ·simp[eqL,he]
        ·have:=ih C (k+1) (pu++D) (pv++F) K M (by simpa using S) (by rw[List.length_append,g,X5 o,Nat.add_mul];omega) (by rw[List.length_append,j,X5 p,Nat.add_mul];omega) E G;simp only[List.append_assoc]at this;simp[eqL,he,this]
     have:=aa x y 0 [] [] u v (by rw[hx.1,c.1]) (by simp) (by simp) hx.2 c.2;rw[hx.1]at this;rw[List.range_eq_range'];exact this
   ·cases h
 | .slice _ _=>⟨fun e fs off d w x y u v h=>by simp[eqB]at h,fun e fs off d w x y u v pu pv h=>by simp[eqB]at h⟩
 | .fnc _=>⟨fun e fs off d w x y u v h=>by simp[eqB]at h,fun e fs off d w x y u v pu pv h=>by simp[eqB]at h⟩
 | .err=>⟨fun e fs off d w x y u v h=>by simp[eqB]at h,fun e fs off d w x y u v pu pv h=>by simp[eqB]at h⟩
 | .hid _=>⟨fun e fs off d w x y u v h=>by simp[eqB]at h,fun e fs off d w x y u v pu pv h=>by simp[eqB]at h⟩
 | .sptr .. =>⟨fun e fs off d w x y u v h=>by simp[eqB]at h,fun e fs off d w x y u v pu pv h=>by simp[eqB]at h⟩
 | .clo .. =>⟨fun e fs off d w x y u v h=>by simp[eqB]at h,fun e fs off d w x y u v pu pv h=>by simp[eqB]at h⟩
theorem Zu0.of{e:TypeId}{T:Ty}(h1:eqB P T e [] 0 true=true)(h2:P.eqGuardType P.depth e=false)(h3:T.isAgg=true)(h4:Zhy T<=10000):Zu0 P e T:=by
 have a: ∀u:List Value,Xz T u= .agg u.toArray:=fun u=>by cases T<;>simp[Ty.isAgg]at h3<;>rfl
 refine⟨fun w c p q u v=> ?_,fun w w2 w3 X Y B x y u v hx b=> ?_,fun w w2 w3 X Y B x y u v hx b=> ?_⟩
 ·rw[a,a];exact run_eqGuard_agg w c e p q _ _ h2
 ·have:=(Zs4 (P:=P) (X:=X) (Y:=Y) (B:=B) (w2:=w2) (w3:=w3) T).1 e [] 0 9999 w x y u v h1 (by omega) hx b;rw[a,a]at this⊢;rw[run_eql_struct,this];rfl
 ·have:=(Zs4 (P:=P) (X:=X) (Y:=Y) (B:=B) (w2:=w2) (w3:=w3) T).1 e [] 0 9999 w x y u v h1 (by omega) hx b;rw[a,a]at this⊢;rw[run_neq_struct,this];rfl
end
end Go.Am
namespace Go.Am
open Go.RowKit
inductive KT(s s':St):Tm->Tm->Prop where
 |junk (t):KT s s' t .junk
 |tup:KT s s' .tup .tup
 |val {T f g x}: (f=g\/Wz T f g=true)->KT s s' (.val T f x) (.val T g x)
 |box {e T f g x}: (f=g\/Wz T f g=true)->KT s s' (.box e T f x) (.box e T g x)
 |shp {T x}:KT s s' (.shp T x) (.shp T x)
 |ptr {r p}: (∃e T f x,s'.get (.m r)= .box e T f x)->KT s s' (.ptr r p) (.ptr r p)
 |aep {r p i}: (∃e T f x,s'.get (.m r)= .box e T f x)->KT s s' (.aep r p i) (.aep r p i)
 |pls {h l}: (∀q∈l,∃e T f x,s'.get (.m q.1)= .box e T f x)->KT s s' (.pls h l) (.pls h l)
 |bor {r p}:s.bad r p=false->s'.get (.m r)≠ .junk->KT s s' (.bor r p) (.bor r p)
 |elp {r p i q}:s.bad r p=false->s'.get (.m r)≠ .junk->KT s s' (.elp r p i q) (.elp r p i q)
 |bel {r p i q}:s.bad r p=false->s.foul (Zkx r)=false->s'.get (.m r)≠ .junk->KT s s' (.bel r p i q) (.bel r p i q)
 |cl {f l}: (∀q∈l,∃e T f x,s'.get (.m q)= .box e T f x)->KT s s' (.cl f l) (.cl f l)
section
variable {P:Program} {g:K9} {W0:Zam g} {w w':World} {X X':Nat->Prop} {B B' n:Nat} {own:Bool} {s s':St} {F:Key->List Nat} {a:Act} {H H':List Nat} {o:Oper} {tg:Xo} {τ:Tab} {C:Cfg} {gh:Nat->Value}
theorem R.weak(h:R n W0 w X F H s a)(hk: ∀k,KT s s' (s.get k) (s'.get k))(hc: ∀d i,s'.get (.c d i)≠ .junk->s'.get (.m d)= .tup)
  (hl: ∀p,p∈W0.fix->p.1∈s'.lent): ∃F',R n W0 w X F' H s' a:=by
 classical
 let F':Key->List Nat:=fun k=>if s'.get k= .junk then[]else F k
 have I: ∀k b,b∈F' k->b∈F k:=fun k b L=>by simp only[F']at L;split at L<;>simp_all
 have D: ∀{k},s'.get k≠ .junk->F' k=F k:=fun hk=>by simp[F',hk]
 have M: ∀{r p v U},s'.get (.m r)≠ .junk->Xi W0.gh w s F a r p v U->Xi W0.gh w s' F' a r p v U:=by
  intro r p v U o hv;have g:=hk (.m r);unfold Xi at hv⊢;split at hv
  ·rename_i T f x W;rw[W]at g;generalize Y:s'.get (.m r)=t at g o;cases g with
   |junk=>exact absurd rfl o
   |val E=>exact hv
  ·rename_i e T f x W;rw[W]at g;have:=D o;generalize Y:s'.get (.m r)=t at g o;cases g with
   |junk=>exact absurd rfl o
   |box E=>
    obtain⟨b,c,S,y,A,C⟩:=hv;exact⟨b,c,S,y,by rw[this];exact A,C⟩
  ·exact hv.elim
 refine⟨F',{h with fix:=fun p hp=>⟨hl p hp,(h.fix p hp).2⟩,own:=fun k b L=>h.own k b (I k b L),nodup:=fun k=> ?_,disj:=fun k k' b L Z=>h.disj k k' b (I k b L) (I k' b Z),hdisj:=fun k b L=>h.hdisj k b (I k b L),comps:=fun d i o=> ?_,slots:=fun k=> ?_}⟩
 ·simp only[F'];split
  ·simp
  ·exact h.nodup k
 ·refine⟨hc d i o,(h.comps d i fun he=> ?_).2⟩;have:=hk (.c d i);rw[he]at this;generalize Y:s'.get (.c d i)=t at this o;cases this;exact o rfl
 ·have E:=h.slots k;have N:=hk k;by_cases o:s'.get k= .junk
  ·rw[o];simp only[F',o,if_true];rfl
  ·rw[D o];generalize aa:s'.get k=t' at N o;generalize Y:s.get k=t at N E;cases N with
   |junk=>exact absurd rfl o
   |tup=>exact E
   |val B=>obtain⟨vs,A,C⟩:=E;exact⟨vs,A,Qy1 B C⟩
   |box B=>obtain⟨b,c,J,A,C,K,h4⟩:=E;exact⟨b,c,J,A,C,K,Qy1 B h4⟩
   |shp=>exact E
   | @ptr r p z=>
    obtain⟨e',T',g',x',z⟩:=z;obtain⟨G,e,T,f,x,b,J,A,C,K⟩:=E;have g:=hk (.m r);rw[A,z]at g;have:=D (k:= .m r) (by rw[z];simp);cases g with
    |box B=>exact⟨G,_,_,_,_,b,J,z,by rw[this];exact C,K⟩
   | @aep r p i z=>
    obtain⟨e',T',g',x',z⟩:=z;obtain⟨G,e,T,f,x,b,J,nn,t2,y,A,C,K⟩:=E;have g:=hk (.m r);rw[A,z]at g;have:=D (k:= .m r) (by rw[z];simp);cases g with
    |box B=>exact⟨G,_,_,_,_,b,J,nn,t2,y,z,by rw[this];exact C,K⟩
   | @pls hh l z=>
    obtain⟨G,P,us,A,C,K,h4,h5⟩:=E;refine⟨G,P,us,A,C,K,fun j q Q=> ?_,h5⟩;obtain⟨u,hu,e,T,f,x,b,J,g1,g2,g3⟩:=h4 j q Q;obtain⟨e',T',g',x',z⟩:=z q (List.mem_of_getElem? Q);have g:=hk (.m q.1);rw[g1,z]at g;have:=D (k:= .m q.1) (by rw[z];simp);cases g with
    |box B=>exact⟨u,hu,_,_,_,_,b,J,z,by rw[this];exact g2,g3⟩
   |bor V z=>
    obtain⟨G,A⟩:=E;obtain⟨U,A⟩:=A V;exact⟨G,fun _=>⟨U,M z A⟩⟩
   |elp V z=>
    obtain⟨G,A⟩:=E;obtain⟨e,t,P,m,O,A,C⟩:=A V;exact⟨G,fun _=>⟨e,t,P,m,O,M z A,C⟩⟩
   |bel V he z=>
    obtain⟨G,A⟩:=E;obtain⟨e,t,P,m,O,x0,y,cs,A,k1,k2,k3,C⟩:=A V he;exact⟨G,fun _ _=>⟨e,t,P,m,O,x0,y,cs,M z A,k1,k2,by rw[D z];exact k3,C⟩⟩
   | @cl f l z=>
    obtain⟨G,us,A,C,K⟩:=E;refine⟨G,us,A,C,fun j q Q=> ?_⟩;obtain⟨u,hu,e,T,f,x,b,J,g1,g2,g3⟩:=K j q Q;obtain⟨e',T',g',x',z⟩:=z q (List.mem_of_getElem? Q);have g:=hk (.m q);rw[g1,z]at g;have:=D (k:= .m q) (by rw[z];simp);cases g with
    |box B=>exact⟨u,hu,_,_,_,_,b,J,z,by rw[this];exact g2,g3⟩
def Z3f(s:St):Tm->Tm
 | .bor r p=>match s.bad r p with|true=> .junk|false=> .bor r p
 | .elp r p i q=>match s.bad r p with|true=> .junk|false=> .elp r p i q
 | .bel r p i q=>match s.bad r p||s.foul (Zkx r)with|true=> .junk|false=> .bel r p i q
 | .gd _ _ _=> .junk
 |t=>t
def Qvo(s:St):List (Key×Tm)->List (Key×Tm)| []=>[]| (k,t)::r=>(k,Z3f s t)::Qvo s r
def Qk5(s:St):St:={env:=Qvo s s.env,dirty:=[],lent:=s.lent}
theorem Qpa(s:St)(k:Key): ∀l,Zf8 (Qvo s l) k=Z3f s (Zf8 l k)
 | []=>rfl
 | (j,t)::r=>by
  simp only[Qvo,Z2,Qpa s k r];split<;>rfl
theorem R.clean(h:R n W0 w X F H s a): ∃F',R n W0 w X F' H (Qk5 s) a:=by
 have z: ∀k,(Go.Am.Qk5 s).get k=Z3f s (s.get k):=fun k=>Qpa s k s.env;have c: ∀{r p v U},Xi W0.gh w s F a r p v U->(Go.Am.Qk5 s).get (.m r)≠ .junk:=by
  intro r p v U hv;rw[z];unfold Xi at hv;split at hv
  ·rename_i C;rw[C];simp[Z3f]
  ·rename_i C;rw[C];simp[Z3f]
  ·exact hv.elim
 refine h.weak (fun k=> ?_) (fun d i A=> ?_) (fun p L=>(h.fix p L).1)
 ·rw[z];have g:=h.slots k;cases ht:s.get k with
  |junk=>exact .junk _
  |tup=>exact .tup
  |val=>exact .val (.inl rfl)
  |box=>exact .box (.inl rfl)
  |shp=>exact .shp
  |ptr r p=>
   rw[ht]at g;obtain⟨D,e,T,f,x,b,E,o,G,B⟩:=g;exact .ptr ⟨e,T,f,x,by rw[z,o];rfl⟩
  |aep r p i=>
   rw[ht]at g;obtain⟨D,e,T,f,x,b,E,n,V,y,o,G,B⟩:=g;exact .aep ⟨e,T,f,x,by rw[z,o];rfl⟩
  |pls W l=>
   rw[ht]at g;obtain⟨D,Y,M,o,G,B,N,Z⟩:=g;refine .pls fun q I=> ?_;obtain⟨j,J⟩:=List.getElem?_of_mem I;obtain⟨u,O,e,T,f,x,b,E,K,P,Q⟩:=N j q J;exact⟨e,T,f,x,by rw[z,K];rfl⟩
  |bor r p=>
   rw[ht]at g;simp only[Z3f];split
   ·exact .junk _
   ·rename_i t;obtain⟨U,o⟩:=g.2 t;exact .bor t (c o)
  |elp r p i q=>
   rw[ht]at g;simp only[Z3f];split
   ·exact .junk _
   ·rename_i t;obtain⟨_,_,_,_,_,o,_⟩:=g.2 t;exact .elp t (c o)
  |bel r p i q=>
   rw[ht]at g;simp only[Z3f];split
   ·exact .junk _
   ·rename_i t;simp only[Bool.or_eq_false_iff]at t;obtain⟨_,_,_,_,_,_,_,_,o,_⟩:=g.2 t.1 t.2;exact .bel t.1 t.2 (c o)
  |cl f l=>
   rw[ht]at g;obtain⟨D,M,o,G,B⟩:=g;refine .cl fun q I=> ?_;obtain⟨j,J⟩:=List.getElem?_of_mem I;obtain⟨u,O,e,T,f,x,b,E,K,P,Q⟩:=B j q J;exact⟨e,T,f,x,by rw[z,K];rfl⟩
  |gd=>exact .junk _
 ·rw[z]at A⊢;have:=(h.comps d i fun S=>by rw[S]at A;exact A rfl).1;rw[this];rfl
theorem Qo0(h:R n W0 w X F H s a)(ht:tg.ok W0.gh a){x:Operand}(ho:o.op= .assign x){r:Res}(hr:Zuw τ s tg o.type x=some r)(hm:r.moved=false):Zbh P τ W0 w X F s a o r:=by
 unfold Zuw at hr;have b: ∀{k t u},op1 s tg x= .tm k t->Qg9 s (.tm k t)=some u->u.moved=false->Zbh P τ W0 w X F s a o ⟨.val u.T u.f u.x,u.s,u.moved,none⟩:=by
  intro k t u hx c hm;rw[<-hx]at c;obtain⟨p,S,i,d,e,q,j,_⟩:=Zxe h ht c;obtain⟨l,y,m⟩:=j hm;subst m;exact Yr l fun _=>⟨_,fun g _=>by simp[execOp,ho],i,d,e⟩
 split at hr
 ·rename_i v hv;obtain rfl:=Zw4 hv;obtain⟨d,e⟩:=Zz0 (w:=w) (X:=X) (B:=W0.B) (s:=s) (F:=F) (a:=a) hr;exact Yr d fun _=>⟨_,fun g _=>by simp[execOp,ho,Act.eval],e⟩
 ·rename_i f hv;obtain rfl:=Qwv hv;simp only[Osi]at hr;subst hr;exact Yr rfl fun _=>⟨_,fun g _=>by simp[execOp,ho,Act.eval],Qxe f⟩
 ·rename_i k t hx;split at hr
  ·split at hr
   ·rename_i u c;simp only[Osi]at hr;subst hr;exact b hx c hm
   ·cases hr
  ·split at hr
   ·rename_i u c;simp only[Osi]at hr;subst hr;exact b hx c hm
   ·cases hr
  ·obtain⟨d,e⟩:=Zsc h ht hx hr;exact Yr d fun _=>⟨_,fun g _=>by simp[execOp,ho],e⟩
 ·cases hr
def Qof(C:Cfg)(s:St)(tg:Xo)(o:Oper):Option Res:=
 match o.op with
 | .move x=>Z0n C.τ s tg o.type x
 | .assign x=>match Zuw C.τ s tg o.type x with
  |some r=>match r.moved with|false=>some r|true=>none
  |none=>none
 | .pick c x y=>Qoe C.τ s tg o.type c x y
 | .load e x=>Qod C.τ s tg e x
 | .binOp op e x y e2=>match C.τ e with
  |some (.pair _ _)|some (.arr _ _)=>Q2f C s tg op e x y
  |_=>Qvl C.τ s tg op e x y e2
 | .unOp op e x=>Q3p C.τ s tg op e x
 | .convert e e2 x=>Qn7 C.τ s tg e e2 x
 | .nilCheck x=>Zww s tg x
 | .fieldAddr e x i=>Qer C.τ s tg e x i
 | .indexAddr e x i=>Zum C.τ s tg e x i
 | .index e x i=>Qe2 C.τ s tg e x i
 | .call {callee:= .builtin .len,args:=⟨[x]⟩,argTypes:=⟨[e]⟩}=>Qwm C.τ s tg e x
 | .call {callee:= .builtin .min,args:=⟨[x,y]⟩,argTypes:=⟨[e,_]⟩}=>Qi1 s tg e C.τ x y false
 | .call {callee:= .builtin .max,args:=⟨[x,y]⟩,argTypes:=⟨[e,_]⟩}=>Qi1 s tg e C.τ x y true
 |_=>none
theorem Z9c(h:R n W0 w X F H s a)(ht:tg.ok W0.gh a)(hC:C.ok P g){r:Res}(hr:Qof C s tg o=some r):Zbh P C.τ W0 w X F s a o r:=by
 unfold Qof at hr;split at hr
 ·rename_i b;exact Zxu h ht b hr
 ·rename_i b;split at hr
  ·rename_i e c;split at hr
   ·rename_i d;simp only[Osi]at hr;subst hr;exact Qo0 h ht b c d
   ·cases hr
  ·cases hr
 ·rename_i b;exact Z9b h ht b hr
 ·rename_i b;exact Z86 h ht hC.τ b hr
 ·rename_i b;split at hr
  ·exact Zwp h ht hC b hr
  ·exact Zwp h ht hC b hr
  ·exact Qc6 h ht hC.τ b hr
 ·rename_i b;exact Qlr h ht b hr
 ·rename_i b;exact Z8v h ht hC.τ b hr
 ·rename_i b;exact Zwx h ht b hr
 ·rename_i b;exact Z3s h ht hC.τ b hr
 ·rename_i b;exact Zvd h ht hC.τ b hr
 ·rename_i b;exact Z39 h ht hC.τ b hr
 ·rename_i b;exact Qfa h ht hC.τ b hr
 ·rename_i b;exact Zup h ht (mx:=false) b hr
 ·rename_i b;exact Zup h ht (mx:=true) b hr
 ·cases hr
noncomputable def Q1k{ρ:Type}(C:Cfg)(n:Nat)(ops:Array Oper)(o:Oper)(s:St)(k:St->Option ρ):Option ρ:=
 match o.guard with
 |none=>match Qof C s [] o,o.dst with
  |some r,some d=>match Jy s d&&Nat.blt d n with
   |true=>Qqw r.obl (k (Y2 s d r.t))
   |false=>none
  |_,_=>none
 |some (j,b)=>match(ops[j]?).bind (·.dst),o.dst with
  |some g,some d=>match Qda s 8 g b,Jy s d&&Nat.blt d n&&Nat.blt g 1048576 with
   |some tg,true=>match Qof C s tg o with
    |some r=>Qxa s tg r.obl (k (Y2 s d (.gd g b r.t)))
    |none=>none
   |_,_=>none
  |_,_=>none
end
end Go.Am
namespace Go.Am
open Go.RowKit
section
variable {P:Program} {ops:Array Oper} {gh:Nat->Value}
def QF:Exit->Act->World->Prop:=fun _ _ _=>False
theorem Xfi{o:Oper}{a:Act}{w:World}{K:Act->World->Prop}{Q:Exit->Act->World->Prop}(h:o.wp P a w K QF):o.wp P a w K Q:=by
 unfold Oper.wp at*
 generalize (execOp a.eval o).run P w=r at*
 cases r with
 |ok n d=>
  cases n<;>simp only[Oper.upon]at h⊢ <;>first
   |exact h
   | (
    refine Calls.mono h fun e f b=> ?_;cases e with
    |returned v=>exact b
    |panicked c=>exact b.elim
    |outgrown=>obtain⟨_,_,h⟩:=b;exact h.elim)
 |halt x d=>cases x<;>simp only[Oper.upon]at h⊢ <;>exact h.elim
def Zlq(P:Program)(ops:Array Oper)(I:World->Prop)(o:Oper)(v:Value)(a:Act):Prop:=(Region.wanted o (yielded ops a.tmps)=true/\ ∀w,I w->(execOp a.eval o).run P w= .ok (.value v) w)\/ (Region.wanted o (yielded ops a.tmps)=false/\v=undef)
theorem Zlq.same{I:World->Prop}{o:Oper}{v:Value}{a a':Act}(hy:Zlq P ops I o v a)(he:execOp a'.eval o=execOp a.eval o)
  (hw:Region.wanted o (yielded ops a'.tmps)=Region.wanted o (yielded ops a.tmps)):Zlq P ops I o v a':=by
 unfold Zlq at*
 rw[he,hw];exact hy
theorem Zlq.go{I:World->Prop}{o:Oper}{v:Value}{a:Act}{w:World}{i:Nat}(hi:ops[i]? =some o)(hy:Zlq P ops I o v a)(hI:I w){K:Act->World->Prop}(h:K (a.put o.dst v) w):
  wpOp P ops QF i K a w:=by
 unfold wpOp;simp only[hi];rcases hy with⟨b,hv⟩| ⟨b,rfl⟩
 ·simp only[b,if_true,Oper.wp,hv w hI,Oper.upon];exact .inl h
 ·simp only[b,Bool.false_eq_true,if_false];exact h
theorem Qyj{I:World->Prop}{j:Nat}{oi oj:Oper}{v:Value}(hj:ops[j]? =some oj)(hap:oi.apart ops oj=true)(hsi: ∀cs b,oi.op≠ .select cs b)(hsj: ∀cs b,oj.op≠ .select cs b)
  {K:Act->World->Prop} {a:Act} {w:World} (hy:Zlq P ops I oi v a) (h:wpOp P ops QF j K (a.put oi.dst v) w):
  wpOp P ops QF j (fun a' w'=>Zlq P ops I oi v a'/\K (a'.put oi.dst v) w') a w:=by
 obtain⟨o,i,p⟩:=Oper.apart_spec hap;have g: ∀a:Act,Zlq P ops I oi v a-> ∀u,Zlq P ops I oi v (a.put oj.dst u):=fun a hy u=>hy.same (execOp_put oi hsi a oj.dst u p) (wanted_put oi a oj.dst u p);unfold wpOp at*
 simp only[hj]at*
 rw[wanted_put oj a oi.dst v o]at h;split
 ·rename_i l;simp only[l,if_true]at h;rcases h with h| ⟨_,_,_,h⟩
  ·refine .inl ?_;unfold Oper.wp at*
   rw[execOp_put oj hsj a oi.dst v o]at h;generalize (execOp a.eval oj).run P w=r at*
   cases r with
   |ok n w'=>
    cases n<;>simp only[Oper.upon]at h⊢
    case value u=>exact⟨g a hy u,by rw[<-Act.put_comm a v u i];exact h⟩
    case skip=>exact⟨g a hy _,by rw[<-Act.put_comm a v undef i];exact h⟩
    case defer d=>
     refine⟨g {a with defers:=d::a.defers} (hy.same rfl rfl) _,?_⟩;rw[<-Act.put_comm _ v undef i,<-Act.put_defers];exact h
    case enter f args=>
     refine Calls.mono h fun e m k=> ?_;cases e with
     |returned u=>exact⟨g a hy u,by rw[<-Act.put_comm a v u i];exact k⟩
     |panicked c=>exact k.elim
     |outgrown=>exact k
    case row row args=>exact Rows.mono h fun u m k=>⟨g a hy u,by rw[<-Act.put_comm a v u i];exact k⟩
   |halt x w'=>cases x<;>simp only[Oper.upon]at h⊢ <;>exact h.elim
  ·exact h.elim
 ·rename_i l;simp only[l]at h;exact⟨g a hy _,by rw[<-Act.put_comm a v undef i];exact h⟩
def Xct(C:Cfg):Op->Bool
 | .call {callee:= .value fo,..}=>match fo with
  | .func f=>match C.ΓB.find f with|some _=>false|none=>true
  |_=>match C.ΓB with| []=>true|_::_=>false
 |_=>true
def Qrt(C:Cfg)(op:Op):Bool:=Q01 op&&Xct C op
def Qb1(C:Cfg)(ops:Array Oper)(i:Nat):Bool:=match ops[i]? with|some o=>Qrt C o.op|none=>true
def Xbp(gh:Nat->Value)(bx:List Nat)(Sh:Nat->Prop)(a:Act)(w w':World):Prop:= ∀b,(Sh b\/ ∃r∈bx,Qp gh a (.m r)= .pointer (some ⟨b,0,none⟩))->w'.heap[b]? =w.heap[b]?
structure Qhf(gh:Nat->Value)(pr:Nat->Bool)(bx:Nat->List Nat)(Sh:Nat->Prop)(i:Nat)(a:Act)(w w':World):Prop where
 pres:pr i=true->Old w w'
 hold:Xbp gh (bx i) Sh a w w'
def Q8p(gh:Nat->Value)(ops:Array Oper)(i:Nat)(a a':Act):Prop:= ∀k,(ops[i]?).bind (·.dst)≠some k->Qp gh a' (.m k)=Qp gh a (.m k)
theorem Qsa{a:Act}{d:Option Nat}{v:Value}{k:Nat}(h:d≠some k):Qp gh (a.put d v) (.m k)=Qp gh a (.m k):=by
 cases d with
 |none=>rfl
 |some d=>exact Zcm (by simpa[Key.t]using fun e=>h (by rw[e]))
theorem Q5c{K:Act->World->Prop}{i:Nat}{a:Act}{w:World}(h:wpOp P ops QF i K a w):wpOp P ops QF i (fun a' w'=>Q8p gh ops i a a'/\K a' w') a w:=by
 unfold wpOp at*
 split
 ·rename_i g;simp only[g]at h;exact⟨fun _ _=>rfl,h⟩
 ·rename_i o g;have b: ∀v,Q8p gh ops i a (a.put o.dst v):=fun v k hk=>Qsa (by simpa[g]using hk);simp only[g]at h;split
  ·rename_i l;simp only[l,if_true]at h;rcases h with h| ⟨_,_,_,h⟩
   ·refine .inl ?_;unfold Oper.wp at*
    generalize (execOp a.eval o).run P w=r at*
    cases r with
    |ok n w'=>
     cases n<;>simp only[Oper.upon]at h⊢
     case value u=>exact⟨b _,h⟩
     case skip=>exact⟨b _,h⟩
     case defer d=>exact⟨fun k hk=>(Qsa (a:={a with defers:=d::a.defers}) (d:=o.dst) (by simpa[g]using hk)).trans rfl,h⟩
     case enter f args=>
      refine Calls.mono h fun e m j=> ?_;cases e with
      |returned u=>exact⟨b _,j⟩
      |panicked c=>exact j.elim
      |outgrown=>exact j
     case row row args=>exact Rows.mono h fun u m j=>⟨b _,j⟩
    |halt x w'=>cases x<;>simp only[Oper.upon]at h⊢ <;>exact h.elim
   ·exact h.elim
  ·rename_i l;simp only[l]at h;exact⟨b _,h⟩
def Q84(ops:Array Oper):Nat->Nat->Nat->Bool
 |0,_,_=>false
 |f+1,j,i=>match ops[j]? with
  |some o=>o.after.any fun e=>Region.binds .any e&& (Nat.beq e.on i||Q84 ops f e.on i)
  |none=>false
def Qyi(ops:Array Oper)(j:Nat):Bool:=(List.range ops.size).all fun i=>Nat.beq i j||Q84 ops ops.size j i
def Qoq(ops:Array Oper)(listed:Array Bool):Prop:= ∀(m:Nat) (o:Oper),ops[m]? =some o->listed.getD m false=true-> ∀e∈o.after,Region.binds .any e=true->listed.getD e.on false=true
theorem Q1f{listed:Array Bool}{i k:Nat}(h:listed.getD k false=true): (listed.setIfInBounds i true).getD k false=true:=by
 by_cases hk:i=k
 ·subst hk;have:i<listed.size:=by
   rcases Nat.lt_or_ge i listed.size with h'|h'
   ·exact h'
   ·simp[Array.getD_eq_getD_getElem?,Array.getElem?_eq_none h']at h
  simp[Array.getD_eq_getD_getElem?,this]
 ·rw[getD_set_ne false hk];exact h
theorem Z9k{listed:Array Bool}(h:Qoq ops listed){i:Nat}(hi:i∈Region.ready .any ops listed):Qoq ops (listed.setIfInBounds i true):=by
 intro m o d f e g j;refine Q1f ?_;obtain⟨_,k,a,b⟩:=mem_ready.1 hi;by_cases c:i=m
 ·subst c;rw[d]at a;cases a;exact b e g j
 ·rw[getD_set_ne false c]at f;exact h m o d f e g j
theorem Qk8{listed:Array Bool}(h:Qoq ops listed){i:Nat}: ∀{f j:Nat},Q84 ops f j i=true->(∀o,ops[j]? =some o-> ∀e∈o.after,Region.binds .any e=true->listed.getD e.on false=true)->listed.getD i false=true
 |0,_,a,_=>by cases a
 |f+1,j,a,b=>by
  simp only[Q84]at a;split at a
  ·rename_i o l;rw[Array.any_eq_true']at a;obtain⟨e,m,a⟩:=a;simp only[Oba,Bool.or_eq_true]at a;have k:=b o l e m a.1;rcases a.2 with hd2|hd2
   ·rw[<-Onb hd2];exact k
   ·exact Qk8 h hd2 fun n c p d g=>h e.on n c k p d g
  ·cases a
def Z1f(gh:Nat->Value)(P:Program)(ops:Array Oper)(Qn:Act->World->Prop)(pr:Nat->Bool)(bx:Nat->List Nat)(Sh:Nat->Prop):Nat->Array Bool->Act->World->Prop|0,listed,a,w=>Region.ready .any ops listed=[]/\Qn a w|fuel+1,listed,a,w=>(Region.ready .any ops listed=[]->Qn a w)/\ ∀i∈Region.ready .any ops listed,wpOp P ops QF i (fun a' w'=>(Qyi ops i=true\/Qhf gh pr bx Sh i a w w')/\Z1f gh P ops Qn pr bx Sh fuel (listed.setIfInBounds i true) a' w') a w
theorem Qls{Qn:Act->World->Prop}{pr:Nat->Bool}{bx:Nat->List Nat}{Sh Sh':Nat->Prop}(hs: ∀b,Sh b->Sh' b): ∀(fuel:Nat) (listed:Array Bool) (a:Act) (w:World),Z1f gh P ops Qn pr bx Sh' fuel listed a w->Z1f gh P ops Qn pr bx Sh fuel listed a w
 |0,_,_,_,h=>h
 |fuel+1,_,_,_,h=>⟨h.1,fun i d=>wpOp_mono (fun e f ⟨c,g⟩=>⟨c.imp id fun c=>⟨c.pres,fun b j=>c.hold b (j.imp (hs b) id)⟩,Qls hs fuel _ e f g⟩) (h.2 i d)⟩
theorem Qsn{Qn:Act->World->Prop}{pr:Nat->Bool}{bx:Nat->List Nat}{Sh:Nat->Prop}{Q:Exit->Act->World->Prop}(hq: ∀a w,Qn a w->Q .normal a w): ∀(fuel:Nat) (listed:Array Bool) (a:Act) (w:World),Z1f gh P ops Qn pr bx Sh fuel listed a w->wpAny P .any ops Q fuel listed a w
 |0,_,_,_,h=>⟨h.1,hq _ _ h.2⟩
 |fuel+1,listed,a,w,h=>⟨fun d=>hq _ _ (h.1 d),fun i e=>by
  have f:=h.2 i e;have b:wpOp P ops QF i (wpAny P .any ops Q fuel (listed.setIfInBounds i true)) a w:=wpOp_mono (fun g j h=>Qsn hq fuel _ g j h.2) f;unfold wpOp at b⊢;split
  ·simpa[*]using b
  ·rename_i o k;simp only[k]at b;split
   ·rename_i c;simp only[c,if_true]at b;rcases b with b| ⟨_,_,_,b⟩
    ·exact .inl (Xfi b)
    ·exact b.elim
   ·rename_i c;simp only[c]at b;exact b⟩
theorem Qhe{I:World->Prop}{J:Act->Prop}{pr:Nat->Bool}{bx:Nat->List Nat}{Sh:Nat->Prop}{i:Nat}{oi:Oper}{v:Value}{Qn:Act->World->Prop}(hi:ops[i]? =some oi)(hsel: ∀(j:Nat) (o:Oper) cs b,ops[j]? =some o->o.op≠ .select cs b)
  (hdi: ∀j,∀r∈bx j,oi.dst≠some r):
  ∀(fuel:Nat) (listed:Array Bool) (a:Act) (w:World),Qoq ops listed->I w->J a->
   (∀j oj,ops[j]? =some oj->j≠i->listed.getD j true=false->(∀e∈oj.after,Region.binds .any e=true->e.on≠i)->oi.apart ops oj=true/\ ∀a a' w w',J a->I w->Qhf gh pr bx Sh j a w w'->Q8p gh ops j a a'->I w'/\J a')->
   i∈Region.ready .any ops listed->Zlq P ops I oi v a->
   Z1f gh P ops Qn pr bx Sh fuel (listed.setIfInBounds i true) (a.put oi.dst v) w->Z1f gh P ops Qn pr bx Sh (fuel+1) listed a w
 |0,_,_,w,_,L,y,d,p,M,H=>by
  refine⟨fun h=>(by rw[h]at p;cases p),fun j z=> ?_⟩;by_cases c:j=i
  ·subst c;exact M.go hi L ⟨.inr ⟨fun _=>Old.refl w,fun _ _=>rfl⟩,H⟩
  ·have:=ready_mono z c;rw[H.1]at this;cases this
 |fuel+1,listed,a,w,A,L,y,d,p,M,H=>by
  refine⟨fun h=>(by rw[h]at p;cases p),fun j z=> ?_⟩;by_cases c:j=i
  ·subst c;exact M.go hi L ⟨.inr ⟨fun _=>Old.refl w,fun _ _=>rfl⟩,H⟩
  ·have f:=H.2 j (ready_mono z c);obtain⟨q,oj,g,s⟩:=mem_ready.1 z;have B: ∀e∈oj.after,Region.binds .any e=true->e.on≠i:=fun e N C O=>by
    have f:=s e N C;have D:=(mem_ready.1 p).1;rw[O]at f;rcases Nat.lt_or_ge i listed.size with h'|h'
    ·simp[h']at D f;rw[D]at f;cases f
    ·simp[Array.getElem?_eq_none h']at f
   obtain⟨E,u⟩:=d j oj g c q B;obtain⟨aa,ab,_⟩:=Oper.apart_spec E;have Q:=Qyj g E (fun cs b=>hsel i oi cs b hi) (fun cs b=>hsel j oj cs b g) M f;have l: ∀k F,ops[k]? =some F->k≠i->(listed.setIfInBounds j true).getD k true=false->(∀e∈F.after,Region.binds .any e=true->e.on≠i)->
     oi.apart ops F=true/\ ∀a a' w w',J a->I w->Qhf gh pr bx Sh k a w w'->Q8p gh ops k a a'->I w'/\J a':=fun k F hk S G U=>by
    refine d k F hk S ?_ U;by_cases K:j=k
    ·subst K;exact q
    ·rw[getD_set_ne true K]at G;exact G
   refine wpOp_mono (fun a' w' ⟨x,V,m,W⟩=> ?_) (Q5c (gh:=gh) Q);have m:=m.resolve_left fun X=>by
    unfold Qyi at X;rw[List.all_eq_true]at X;have h9:=X i (List.mem_range.2 (Array.getElem?_eq_some_iff.1 hi).1);simp only[Bool.or_eq_true]at h9;rcases h9 with h9|h9
    ·exact c (Onb h9).symm
    ·have n:=Qk8 A h9 fun o ho e N C=>by
      rw[g]at ho;cases ho;exact s e N C
     have D:=(mem_ready.1 p).1;rcases Nat.lt_or_ge i listed.size with h'|h'
     ·simp[Array.getD_eq_getD_getElem?,h']at D n;rw[D]at n;cases n
     ·simp[Array.getD_eq_getD_getElem?,Array.getElem?_eq_none h']at n
   
   have t:Qhf gh pr bx Sh j a w w':=⟨m.pres,fun b C=>m.hold b (C.imp id fun⟨r,f,Q⟩=>⟨r,f,by rw[Qsa (hdi _ r f)];exact Q⟩)⟩
   obtain⟨Y,Z⟩:=u a a' w w' y L t x;refine⟨.inr t,Qhe hi hsel hdi fuel (listed.setIfInBounds j true) a' w' (Z9k A z) Y Z l (ready_mono p (Ne.symm c)) V ?_⟩;rw[Array.setIfInBounds_comm _ _ c];exact W
theorem Old.trans{a b c:World}(h:Old a b)(k:Old b c):Old a c:=fun i d=>by
 have e:i<b.heap.size:=by
  have:=h i d;rw[Array.getElem?_eq_getElem d]at this;exact(Array.getElem?_eq_some_iff.1 this).1
 rw[k i e,h i d]
def Q6p(C:Cfg)(ops:Array Oper)(listed:Array Bool)(any:Nat->Bool)(i:Nat):Bool:=
 (List.range ops.size).all fun j=>Nat.beq j i||listed.getD j true|| (match ops[i]?,ops[j]? with
  |some oi,some oj=>(oj.after.any fun e=>Region.binds .any e&&Nat.beq e.on i)|| (oi.apart ops oj&& (any j||Qrt C oj.op))
  |_,_=>false)
theorem Qz5{C:Cfg}{listed:Array Bool}{any:Nat->Bool}{i j:Nat}{oi oj:Oper}(h:Q6p C ops listed any i=true)(hi:ops[i]? =some oi)(hj:ops[j]? =some oj)(hne:j≠i)(hl:listed.getD j true=false)
  (hno: ∀e∈oj.after,Region.binds .any e=true->e.on≠i):oi.apart ops oj=true/\(any j=true\/Qrt C oj.op=true):=by
 unfold Q6p at h;rw[List.all_eq_true]at h;have:=h j (List.mem_range.2 (Array.getElem?_eq_some_iff.1 hj).1);simp only[hi,hj,hl,Bool.or_false,Bool.or_eq_true,Oba]at this;rcases this with h1|h1|h1
 ·exact absurd (Onb h1) hne
 ·rw[Array.any_eq_true']at h1;obtain⟨e,b,a⟩:=h1;simp only[Oba]at a;exact absurd (Onb a.2) (hno e b a.1)
 ·exact⟨h1.1,by simpa using h1.2⟩
def Xcy(ops:Array Oper)(i:Nat):Bool:=
 match ops[i]? with
 |some o=>match o.op with
  | .move _| .assign _| .pick .. | .load .. | .binOp .. | .unOp .. | .convert .. | .nilCheck .. | .fieldAddr .. | .indexAddr .. | .index .. =>true
  | .call {callee:= .builtin .len,..}| .call {callee:= .builtin .min,..}| .call {callee:= .builtin .max,..}=>true
  |_=>false
 |none=>false
def Q3o(s:St)(o:Oper):Bool:=(match o.guard with|none=>true|some _=>false)&& (match o.op with
 | .move (.tmp q)=>match s.get (.m q)with
  | .tup=>true
  |_=>false
 | .extract _ _=>true
 |_=>false)
def Xff(s:St)(ops:Array Oper)(i:Nat):Bool:=match ops[i]? with|some o=>Q3o s o|none=>false
def Xeh(s:St)(ops:Array Oper)(i:Nat):Bool:=
 match ops[i]? with
 |some o=>match o.op with
  | .move (.tmp q)=>match s.get (.m q)with
   | .tup=>false
   |_=>true
  |_=>true
 |none=>false
def Xa2(τ:Tab)(bx:List Nat)(s:St)(o:Oper):Bool:=match Q7h τ o.op with
 |false=>true
 |true=>match Zwg s o.op with
  |some (some r)=>bx.any (Nat.beq r)
  |some none=>true
  |none=>false
def Qiu(s:St)(r:Nat):Bool:=match s.get (.m r)with| .box _ _ _ _=>true|_=>false
theorem Z4b{s:St}{r:Nat}(h:Qiu s r=true):s.isBox r:=by
 unfold Qiu at h;split at h
 ·rename_i e T f x a;exact⟨e,T,f,x,a⟩
 ·cases h
def Xbt(τ:Tab)(s:St)(bx:List Nat)(o:Oper):Bool:=bx.all fun r=>Qiu s r&& (match Qn4 τ s o with|some q=> !(Nat.beq q r)|none=>true)
def Z9g(ops:Array Oper):Nat->Nat->Nat
 |0,k=>k
 |f+1,k=>match ops.toList.find? (fun o=>match o.dst with|some d=>Nat.beq d k|none=>false)with
  |some o=>match o.op with
   | .fieldAddr _ (.tmp j) _=>Z9g ops f j
   | .indexAddr _ (.tmp j) _=>Z9g ops f j
   | .move (.tmp j)=>Z9g ops f j
   | .nilCheck (.tmp j)=>Z9g ops f j
   | .call {callee:= .value _,args:=xs,..}=>match xs.toList with| .tmp j::_=>Z9g ops f j|_=>k
   |_=>k
  |none=>k
def Q5r(s:St)(ops:Array Oper):List Nat:=
 let bs:=s.env.filterMap fun p=>match p.1,p.2 with
  | .m r,.box _ _ _ _=>if Qiu s r then some r else none
  |_,_=>none
 bs.filter fun r=>ops.toList.all fun o=>match o.dst with|some d=> !(Nat.beq d r)|none=>true
def Xbl(s:St)(ops:Array Oper)(k:Nat):Nat:=match s.get (.m (Z9g ops ops.size k))with| .ptr r _=>r| .aep r _ _=>r|_=>Z9g ops ops.size k
def Xc9(s:St)(ops:Array Oper)(o:Oper):List Nat:=match o.op with
 | .store _ (.tmp k) _=>[Xbl s ops k]
 | .call {callee:= .value _,args:=xs,..}=>xs.toList.filterMap fun x=>match x with| .tmp k=>some (Xbl s ops k)|_=>none
 |_=>[]
def Xbu(s:St)(ops:Array Oper)(j:Nat):List Nat:=
 match ops[j]? with
 |some o=>(Q5r s ops).filter fun r=> !((Xc9 s ops o).any (Nat.beq r))
 |none=>[]
theorem Q5s{s:St}{ops:Array Oper}{i r j:Nat}{o:Oper}(hr:r∈Xbu s ops i)(ho:ops[j]? =some o):o.dst≠some r:=by
 unfold Xbu at hr;have hr:r∈Q5r s ops:=by
  split at hr
  ·exact(List.mem_filter.1 hr).1
  ·cases hr
 unfold Q5r at hr;have:=(List.mem_filter.1 hr).2;rw[List.all_eq_true]at this;have:=this o (by rw[<-Array.getElem?_toList]at ho;exact List.mem_of_getElem? ho);intro e;rw[e]at this;simp at this
noncomputable def Zeh{ρ:Type}(m1 m2:Option ρ):Option ρ:=by
 classical exact if m1=m2 then m1 else none
theorem Qzx{ρ:Type}{m1 m2:Option ρ}{r:ρ}(h:Zeh m1 m2=some r):m1=some r/\m2=some r:=by
 unfold Zeh at h;split at h
 ·rename_i e;exact⟨h,by rw[<-e];exact h⟩
 ·cases h
theorem Zhj{ρ:Type}(m:Option ρ):Zeh m m=m:=by
 unfold Zeh;rw[if_pos rfl]
noncomputable def Q8u{ρ:Type}:List (Option ρ)->Option ρ| []=>none| [m]=>m|m::n::r=>Zeh m (Q8u (n::r))
theorem Qtx{ρ:Type}: ∀{l:List (Option ρ)} {r:ρ},Q8u l=some r-> ∀m∈l,m=some r
 | [],r,h,m,hm=>by cases hm
 | [m],r,h,a,hm=>by simp only[List.mem_singleton]at hm;subst hm;exact h
 |m::n::q,r,h,a,hm=>by
  simp only[Q8u]at h;obtain⟨b,c⟩:=Qzx h;rcases List.mem_cons.1 hm with rfl|hm
  ·exact b
  ·exact Qtx c a hm
def Q13(C:Cfg)(s:St)(o:Oper):Option (FuncId×Array Operand):=
 match C.soft,o.guard,o.op with
 |false,none,.call {callee:= .value fo,args:=xs,..}=>match Qtl s [] fo with
  |some f=>match C.ΓB.find f with
   |some _=>some (f,xs)
   |none=>none
  |none=>none
 |_,_,_=>none
def Xcv:Tm->Bool| .val .. | .ptr .. | .shp .. =>true|_=>false
def Qks(g:Nat)(b:Bool):List Operand->St->St
 | [],s=>s
 | .tmp k::xs,s=>match s.get (.m k)with
  | .gd g' b' t=>match Nat.beq g' g,b'==b,s.foul g,Xcv t with
   |true,true,false,true=>Qks g b xs (Zua s k t)
   |_,_,_,_=>Qks g b xs s
  |_=>Qks g b xs s
 |_::xs,s=>Qks g b xs s
def Xf2:RS->Option Ty| .vals [t]=>some t| .shr [t]=>some t| .flg [t]=>some t.1|_=>none
def gdB(C:Cfg)(s:St)(ops:Array Oper)(o:Oper):Option (Nat×Bool×Nat×FuncId×Array Operand):=
 match C.soft,o.guard,o.dst,o.op with
 |false,some (j,b),some d,.call {callee:= .value fo,args:=xs,..}=>match(ops[j]?).bind (·.dst),Qtl s [] fo with
  |some g,some f=>match C.ΓB.find f with
   |some _=>some (g,b,d,f,xs)
   |none=>none
  |_,_=>none
 |_,_,_,_=>none
noncomputable def Q9g{ρ:Type}(C:Cfg)(n:Nat)(o:Oper)(s:St)(g:Nat)(b:Bool)(d:Nat)(f:FuncId)(xs:Array Operand)(k:St->Option ρ):Option ρ:=
 match Wi s (op1 s [] (.tmp g)) .bool,s.foul g,((C.ΓB.find f).bind fun e=>Xf2 e.res),Jy s d&&Nat.blt d n with
 |some c,false,some T,true=>match b with
  |true=>bif c then Qo6 C.ΓB n (Qks g b xs.toList s) o.dst f xs.toList k else k (Y2 s d (.gd g b (.val T (.u true) (zero T))))
  |false=>bif c then k (Y2 s d (.gd g b (.val T (.u true) (zero T))))else Qo6 C.ΓB n (Qks g b xs.toList s) o.dst f xs.toList k
 |_,_,_,_=>none
noncomputable def Qzj{ρ:Type}(C:Cfg)(n:Nat)(ops:Array Oper)(bx:List Nat)(o:Oper)(s:St)(k:St->Option ρ):Option ρ:=
 match gdB C s ops o with
 |some (g,b,d,f,xs)=>match bx.all fun r=>Qiu s r&& !((Qj5 C.ΓB (Qks g b xs.toList s) f xs.toList).any (Nat.beq r))with
  |true=>Q9g C n o s g b d f xs k
  |false=>none
 |none=>match Q13 C s o with
 |some (f,xs)=>match bx.all fun r=>Qiu s r&& !((Qj5 C.ΓB s f xs.toList).any (Nat.beq r))with
  |true=>Qo6 C.ΓB n s o.dst f xs.toList k
  |false=>none
 |none=>match Xbt C.τ s bx o with
  |true=>Qsc C n ops o s k
  |false=>none
def Q2o(C:Cfg)(s:St)(o:Oper):Option (Zro×List Tm):=
 match o.guard,o.op with
 |none,.call {callee:= .value fo,args:=xs,argTypes:=ats}=>match op1 s [] fo with
  | .tm _ (.cl f l)=>match C.inl.find f,Qoz C.τ s xs.toList ats.toList with
   |some E,some ts=>some (E,ts++l.map fun q=> .ptr q [])
   |_,_=>none
  |_=>match Qtl s [] fo with
   |some f=>match C.inl.find f,Qoz C.τ s xs.toList ats.toList with
    |some E,some ts=>some (E,ts)
    |_,_=>none
   |none=>none
 |_,_=>none
noncomputable def Zxx{ρ:Type}(C:Cfg)(n:Nat)(ops:Array Oper)(bx:Nat->List Nat):Nat->Array Bool->St->(St->Option ρ)->Option ρ
 |0,listed,s,k=>match Region.ready .any ops listed with
  | []=>k (Qk5 s)
  |_::_=>none
 |f+1,listed,s,k=>match Region.ready .any ops listed with
  | []=>k (Qk5 s)
  | [i]=>match ops[i]? with
   |some o=>match Q2o C s o,Region.ready .any ops (listed.setIfInBounds i true),Qyi ops i with
    |some (E,ts),[],true=>Q9m C.τ n s o.dst E ts fun s'=>k (Qk5 s')
    |_,_,_=>Qzj C n ops (bx i) o s fun s'=>Zxx C n ops bx f (listed.setIfInBounds i true) s' k
   |none=>none
  |i::j::rs=>match(i::j::rs).find? (fun i=>((Xcy ops i&&Xeh s ops i)||Xff s ops i)&& (match ops[i]? with|some o=>Q6p C ops listed (fun j=>Xa2 C.τ (bx j) s o) i|none=>false))with
   |some i=>match ops[i]? with
    |some o=>match Q3o s o with
     |true=>Qsc C n ops o s fun s'=>Zxx C n ops bx f (listed.setIfInBounds i true) s' k
     |false=>Q1k C n ops o s fun s'=>Zxx C n ops bx f (listed.setIfInBounds i true) s' k
    |none=>none
   |none=>Q8u ((i::j::rs).map fun i=>match ops[i]? with
    |some o=>Qzj C n ops (bx i) o s fun s'=>Zxx C n ops bx f (listed.setIfInBounds i true) s' k
    |none=>none)
variable {g:K9} {W0:Zam g} {w w':World} {X X':Nat->Prop} {n:Nat} {s s':St} {F:Key->List Nat} {a:Act} {H H':List Nat} {o:Oper} {tg:Xo} {τ:Tab} {C:Cfg}
theorem Qld(hC:C.ok P g)(h:R n W0 w X F H s a){E:Zro}{ts:List Tm}(hi:Q2o C s o=some (E,ts)):
  o.guard=none/\V4 P g E/\ ∃vs:List Value,ts.length=vs.length/\(∀(i:Nat) t,ts[i]? =some t-> ∃v,vs[i]? =some v/\vt W0.gh w X W0.B s F a v [] t)/\(execOp a.eval o).run P w= .ok (.enter E.f vs.toArray) w:=by
 unfold Q2o at hi;split at hi
 ·rename_i S e I A D;split at hi
  ·rename_i k f l hx;split at hi
   ·rename_i m d p c;simp only[Osi,Opi]at hi;obtain⟨rfl,rfl⟩:=hi;obtain⟨rfl,b⟩:=Z6o.find_ok hC.inl p;obtain⟨_,_,G,J,K,L⟩:=Kp h Vu hx (by simp);obtain⟨j,r⟩:=Z28 h c;refine⟨A,b,e.toList.map a.eval++G,by simp[j,K],fun i t hi=> ?_,?_⟩
    ·rcases Nat.lt_or_ge i d.length with x|hge
     ·rw[List.getElem?_append_left x]at hi;obtain⟨v,hv,y⟩:=r i t hi;exact⟨v,by rw[List.getElem?_append_left (by rw[List.length_map];omega)];exact hv,y⟩
     ·rw[List.getElem?_append_right hge]at hi;simp only[List.getElem?_map,Option.map_eq_some_iff]at hi;obtain⟨q,M,rfl⟩:=hi;obtain⟨u,N,O⟩:=L _ q M;exact⟨u,by rw[List.getElem?_append_right (by rw[List.length_map];omega),List.length_map,<-j];exact N,rfl,O⟩
    ·have:execOp a.eval o=callFunc m.f (e.map a.eval++G.toArray):=by
      simp only[execOp,D,resolve,J,Deferred.ofValue];simp[invoke]
     rw[this,b.enters];congr 2;apply Array.toList_inj.mp;simp
   ·cases hi
  ·split at hi
   ·rename_i f Q;split at hi
    ·rename_i m d p c;simp only[Osi,Opi]at hi;obtain⟨rfl,rfl⟩:=hi;obtain⟨rfl,b⟩:=Z6o.find_ok hC.inl p;have z:=Zj8 h Vu Q;obtain⟨j,r⟩:=Z28 h c;refine⟨A,b,e.toList.map a.eval,by simp[j],r,?_⟩;have:execOp a.eval o=callFunc m.f (e.map a.eval):=by
      simp only[execOp,D,resolve,z,Deferred.ofValue];simp[invoke]
     rw[this,b.enters];congr 2;apply Array.toList_inj.mp;simp
    ·cases hi
   ·cases hi
 ·cases hi
theorem Qtv{ρ:Type}(hC:C.ok P g)(h:R n W0 w X F [] s a){k:St->Option ρ}{r:ρ}(hs:Q1k C n ops o s k=some r):
  ∃v F' s',k s'=some r/\R n W0 w X F' [] s' (a.put o.dst v)/\Zlq P ops (Dep W0.gh C.τ X s a o w) o v a:=by
 unfold Q1k at hs;split at hs
 ·rename_i u;split at hs
  ·rename_i H d hv x;split at hs
   ·rename_i hdn;simp only[Oba,Nat.blt_eq]at hdn;rw[Z3v]at hs;obtain⟨_,y⟩:=Z9c h Vu hC hv;obtain⟨v,z,A⟩:=y hs.1;refine⟨v,Qg F (.m d) [],_,hs.2,?_,.inl ⟨by simp[Region.wanted,u],z⟩⟩;rw[x];exact(by simpa using h:R n W0 w X F ([]++ []) s a).put hdn.1 hdn.2 A
   ·cases hs
  ·cases hs
 ·rename_i j b u;split at hs
  ·rename_i g d E x;split at hs
   ·rename_i J p hdn;have q:Nat.blt g 1048576=true:=by simp only[Oba]at hdn;exact hdn.2
    simp only[Oba,Nat.blt_eq]at hdn
    replace hdn:=hdn.1
    have t:=Qt3 p;split at hs
    ·rename_i H hv;obtain⟨hk,B⟩:=Qhc h hs;by_cases l:Qp W0.gh a (.m g)= .bool b
     ·have G:=Zwe h p l;have i:g<a.tmps.size:=by
       have e:a.tmps.getD g undef= .bool b:=(Ye W0 a q).symm.trans l;rcases Nat.lt_or_ge g a.tmps.size with h'|h'
       ·exact h'
       ·rw[Array.getD_eq_getD_getElem?,Array.getElem?_eq_none h']at e;cases e
      have f:Region.wanted o (yielded ops a.tmps)=true:=by
       have e:a.tmps[g]? =some (.bool b):=by
        have e:a.tmps.getD g undef= .bool b:=(Ye W0 a q).symm.trans l;rw[Array.getD_eq_getD_getElem?,Array.getElem?_eq_getElem i]at e;rw[Array.getElem?_eq_getElem i];simpa using e
       simp[Region.wanted,u,yielded,E,e]
      obtain⟨_,y⟩:=Z9c h G hC hv;obtain⟨v,z,A⟩:=y (B G);refine⟨v,Qg F (.m d) [],_,hk,?_,.inl ⟨f,z⟩⟩;rw[x];exact(by simpa using h:R n W0 w X F ([]++ []) s a).put hdn.1 hdn.2 fun _=>⟨t,fun _=>A,fun D=>absurd l D⟩
     ·have f:Region.wanted o (yielded ops a.tmps)=false:=by
       apply Bool.eq_false_iff.2;intro f;simp only[Region.wanted,u,yielded,E,Obs,beq_iff_eq]at f;apply l;split at f
       ·rename_i c I;simp only[Osi]at f;subst f;simp[Qp,Zlw,I]
       ·cases f
      refine⟨undef,Qg F (.m d) [],_,hk,?_,.inr ⟨f,rfl⟩⟩;rw[x];exact(by simpa using h:R n W0 w X F ([]++ []) s a).put (S:=[]) hdn.1 hdn.2 fun _=>⟨t,fun e=>absurd e l,fun _=>⟨rfl,rfl⟩⟩
    ·cases hs
   ·cases hs
  ·cases hs
theorem Qzo{ρ:Type}(hC:C.ok P g)(h:R n W0 w X F [] s a)(ht:Q3o s o=true){k:St->Option ρ}{r:ρ}(hs:Qsc C n ops o s k=some r)(I:World->Prop):
  ∃v X' F' s',k s'=some r/\(∀b,X b->X' b)/\R n W0 w X' F' [] s' (a.put o.dst v)/\Zlq P ops I o v a:=by
 have c:=Z5x (Q:=QF) hC h hs (K:=fun t e=> ∃X' F' s',k s'=some r/\(∀b,X b->X' b)/\R n W0 e X' F' [] s' t) fun e t X' F' s' hk z A=>⟨X',F',s',hk,A.more,z⟩
 unfold Q3o at ht;rw[Oba]at ht;obtain⟨u,y⟩:=ht;have f:o.guard=none:=by
  cases f:o.guard with
  |none=>rfl
  |some g=>rw[f]at u;cases u
 have j:Region.wanted o (yielded ops a.tmps)=true:=by simp[Region.wanted,f]
 rw[if_pos j]at c;unfold Oper.wp at c;split at y
 ·rename_i q d;simp only[execOp,d,Sem.run_pure,Oper.upon]at c;obtain⟨X',F',s',l,m,p⟩:=c;exact⟨_,X',F',s',l,m,p,.inl ⟨j,fun e _=>by simp[execOp,d]⟩⟩
 ·rename_i x i d;cases hx:a.eval x with
  |tuple B=>
   cases hu:B[i]? with
   |none=>simp[execOp,d,Instr.extract,hx,hu,Oper.upon]at c
   |some v=>
    simp only[execOp,d,Instr.extract,hx,hu,Oper.upon]at c;obtain⟨X',F',s',l,m,p⟩:=c;exact⟨v,X',F',s',l,m,p,.inl ⟨j,fun e _=>by simp[execOp,d,Instr.extract,hx,hu]⟩⟩
  |_=>simp[execOp,d,Instr.extract,hx,Oper.upon]at c
 ·cases y
theorem Q3y{bx:List Nat}{Sh:Nat->Prop}{a':Act}{o:Oper}(hb:Xbt C.τ s bx o=true)(hS: ∀b,Sh b->X b)(hf:Q8o W0.gh C o X X' s a a' w w'):Xbp W0.gh bx Sh a w w':=by
 intro b d;refine hf.kept b (d.imp (hS b) fun⟨r,f,g⟩=> ?_);unfold Xbt at hb;rw[List.all_eq_true]at hb;have c:=hb r f;simp only[Oba]at c;refine⟨r,Z4b c.1,?_,g⟩;intro e;rw[e]at c;simp at c
theorem R.ungd1(h:R n W0 w X F H s a){k g':Nat}{b:Bool}{t:Tm}(hg:s.get (.m k)= .gd g' b t)(hf:s.foul g'=false)(hb:Qp W0.gh a (.m g')= .bool b)(ht:Xcv t=true):R n W0 w X F H (Zua s k t) a:=by
 have r:=h.slots (.m k);rw[hg]at r;obtain⟨_,f,_⟩:=r hf;have g:=f hb;have l:Qg F (.m k) (F (.m k))=F:=by
  funext j;simp only[Qg];split
  ·rename_i e;rw[e]
  ·rfl
 have o:Z1g W0.gh w w s (Zua s k t) F (Qg F (.m k) (F (.m k))) a k t:=Zpv ⟨by rw[Kr];simp;intro e;subst e;simp[Xcv]at ht,fun p v U hv=>by
  unfold Xi at hv;rw[hg]at hv;exact hv.elim⟩
 have c: ∀{u:Tm} {v:Value} {S:List Nat},vt W0.gh w X W0.B s F a v S u->vt W0.gh w X W0.B (Zua s k t) F a v S u:=fun {u v S} y=>by
  have:=Qon o (fun _ h=>h) (fun _ _=>rfl) (fun _ _ _ _=>rfl) (fun _ _=>rfl) (fun e z A C b S hb=>by rw[hg]at hb;cases hb) y;rw[l]at this;exact this
 exact
 {h with
  comps:=fun d i q=>by
   rw[Kr]at q⊢;simp only[reduceCtorEq,if_false]at q;obtain⟨f,g⟩:=h.comps d i q;by_cases e:k=d
   ·subst e;rw[hg]at f;cases f
   ·exact⟨by simpa[e]using f,g⟩
  slots:=fun j=>by
   by_cases x:j= .m k
   ·subst x;rw[Kr];simp only[if_true];exact c g
   ·rw[Kr];simp only[Ne.symm x,if_false];exact c (h.slots j)}
theorem Zv6{g':Nat}{b:Bool}(hb:Qp W0.gh a (.m g')= .bool b): ∀{xs:List Operand} {s:St},R n W0 w X F H s a->R n W0 w X F H (Qks g' b xs s) a
 | [],s,h=>h
 |x::xs,s,h=>by
  cases x with
  |tmp k=>
   simp only[Qks];split
   ·rename_i j e t f;split
    ·rename_i c d g i;have c:=Onb c;subst c;have d:e=b:=by simpa using d
     subst d;exact Zv6 hb (h.ungd1 f g hb i)
    ·exact Zv6 hb h
   ·exact Zv6 hb h
  |_=>exact Zv6 (xs:=xs) hb h
theorem Zv5{g':Nat}{b:Bool}{r:Nat}: ∀{xs:List Operand} {s:St},s.isBox r->(Qks g' b xs s).isBox r
 | [],s,h=>h
 |x::xs,s,h=>by
  cases x with
  |tmp k=>
   simp only[Qks];split
   ·rename_i d g t c;split
    ·refine Zv5 ?_;obtain⟨e,T,f,y,a⟩:=h;refine⟨e,T,f,y,?_⟩;rw[Kr,if_neg]
     ·exact a
     ·intro e;simp only[Key.m.injEq]at e;subst e;rw[c]at a;cases a
    ·exact Zv5 h
   ·exact Zv5 h
  |_=>exact Zv5 (xs:=xs) h
theorem Qqv{ρ:Type}(hC:C.ok P g){ops:Array Oper}(h:R n W0 w X F [] s a){gs d:Nat}{b:Bool}{f:FuncId}{xs:Array Operand}(hg:gdB C s ops o=some (gs,b,d,f,xs)){k:St->Option ρ}{r:ρ}(hs:Q9g C n o s gs b d f xs k=some r)
  {K:Act->World->Prop} {Q:Exit->Act->World->Prop} (hK: ∀v w' X' F' s',k s'=some r->R n W0 w' X' F' [] s' (a.put o.dst v)->(∀b,X b->X' b)->Q5g W0.gh X s a (Qj5 C.ΓB (Qks gs b xs.toList s) f xs.toList) w w'->K (a.put o.dst v) w'):if Region.wanted o (yielded ops a.tmps)then o.wp P a w K Q else K (a.put o.dst undef) w:=by
 unfold gdB at hg;split at hg
 ·rename_i j q U fo A V E G H W;split at hg
  ·rename_i l Y Z hf;split at hg
   ·simp only[Osi,Opi]at hg;obtain⟨rfl,rfl,rfl,rfl,rfl⟩:=hg;unfold Q9g at hs;split at hs
    ·rename_i c T x aa hT hdn;simp only[Oba,Nat.blt_eq]at hdn;have hv:Qp W0.gh a (.m l)= .bool c:=(Ye W0 a (Zy4 x)).trans (Zkd h Vu x);have I:s.get (.m l)≠ .junk:=by
      intro e;have J:=Zy4 x;have:op1 s [] (.tmp l)= .tm l .junk:=by simp only[op1,J,e,Zxd]
      rw[this]at x;simp[Wi,Ztc]at x
     have p:l<a.tmps.size:=by
      have i:a.tmps.getD l undef= .bool c:=Zkd h Vu x;rcases Nat.lt_or_ge l a.tmps.size with h'|h'
      ·exact h'
      ·rw[Array.getD_eq_getD_getElem?,Array.getElem?_eq_none h']at i;cases i
     have i:a.tmps[l]? =some (.bool c):=by
      have i:a.tmps.getD l undef= .bool c:=Zkd h Vu x;rw[Array.getD_eq_getD_getElem?,Array.getElem?_eq_getElem p]at i;rw[Array.getElem?_eq_getElem p];simpa using i
     have N:Region.wanted o (yielded ops a.tmps)=(c==q):=by
      simp[Region.wanted,G,yielded,Z,i]
     have B:c=q->Qo6 C.ΓB n (Qks l q A.toList s) o.dst Y A.toList k=some r->if Region.wanted o (yielded ops a.tmps)then o.wp P a w K Q else K (a.put o.dst undef) w:=by
      intro e y;rw[N,if_pos (by simp[e])];exact Z3d (hC.soft.trans E) hC.ΓB (Zv6 (by rw[hv,e]) h) (Zj8 h Vu hf) W y fun v w' X' F' s' hk hR L M=>hK v w' X' F' s' hk hR L fun b z=>M b (z.imp id fun⟨r,h1,h2,h3⟩=>⟨r,Zv5 h1,h2,h3⟩)
     have O:c≠q->k (Y2 s U (.gd l q (.val T (.u true) (zero T))))=some r->if Region.wanted o (yielded ops a.tmps)then o.wp P a w K Q else K (a.put o.dst undef) w:=by
      intro e hk;rw[N,if_neg (by simp[e]),H];have D:=(by simpa using h:R n W0 w X F ([]++ []) s a).put (S:=[]) (t:= .gd l q (.val T (.u true) (zero T))) (v:=undef) hdn.1 hdn.2 fun _=>⟨I,fun z=>by rw[hv]at z;injection z with z;exact absurd z e,fun _=>⟨rfl,rfl⟩⟩
      have:=hK undef w X _ _ hk (by rw[H];exact D) (fun _ h=>h) (fun _ _=>rfl);rw[H]at this;exact this
     cases q
     ·cases c
      ·exact B rfl hs
      ·exact O (by simp) hs
     ·cases c
      ·exact O (by simp) hs
      ·exact B rfl hs
    ·cases hs
   ·cases hg
  ·cases hg
 ·cases hg
theorem Qzk{ρ:Type}(hC:C.ok P g)(h:R n W0 w X F [] s a){bx:List Nat}{Sh:Nat->Prop}(hS: ∀b,Sh b->X b){k:St->Option ρ}{r:ρ}(hs:Qzj C n ops bx o s k=some r){K:Act->World->Prop}{Q:Exit->Act->World->Prop}
  (hK: ∀w' a' X' F' s',k s'=some r->R n W0 w' X' F' [] s' a'->(∀b,X b->X' b)->(Qrt C o.op=true->Old w w')->Xbp W0.gh bx Sh a w w'->K a' w'):if Region.wanted o (yielded ops a.tmps)then o.wp P a w K Q else K (a.put o.dst undef) w:=by
 unfold Qzj at hs;split at hs
 ·rename_i Y b d f U i;split at hs
  ·rename_i l;refine Qqv hC h i hs fun v w' X' F' s' hk A t u=>hK w' _ X' F' s' hk A t (fun p=> ?_) fun b x=>u b ?_
   ·exfalso;unfold gdB at i;split at i
    ·rename_i j Z d' G H I B S V E;split at i
     ·rename_i g' J hj q;split at i
      ·rename_i W c;simp only[Qrt,E,Xct,Oba]at p;have e:=p.2;have nil: (match C.ΓB with| []=>true|_::_=>false)=true->False:=fun D=>by
        cases hg2:C.ΓB with
        |nil=>rw[hg2]at c;cases c
        |cons _ _=>rw[hg2]at D;cases D
       cases G with
       |func L=>
        have y:some L=some J:=q;cases y;simp only[c]at e;cases e
       |const v=>exact nil e
       |tmp k=>exact nil e
       |global g=>exact nil e
      ·cases i
     ·cases i
    ·cases i
   ·refine x.imp (hS b) fun⟨r,M,N⟩=> ?_;rw[List.all_eq_true]at l;have z:=l r M;simp only[Oba,Bool.not_eq_true']at z;exact⟨r,Z4b z.1,Z6g z.2,N⟩
  ·cases hs
 split at hs
 ·rename_i f U m;split at hs
  ·rename_i l;unfold Q13 at m;split at m
   ·rename_i G H I B S E;split at m
    ·rename_i J q;split at m
     ·rename_i W c;simp only[Osi,Opi]at m;obtain⟨rfl,rfl⟩:=m;rw[if_pos (by simp[Region.wanted,S])];refine Z3d (hC.soft.trans B) hC.ΓB h (Zj8 h Vu q) E hs fun v w' X' F' s' hk A t u=>hK w' _ X' F' s' hk A t (fun p=> ?_) fun b x=>u b ?_
      ·exfalso;simp only[Qrt,E,Xct,Oba]at p;have e:=p.2;have nil: (match C.ΓB with| []=>true|_::_=>false)=true->False:=fun D=>by
        cases hg2:C.ΓB with
        |nil=>rw[hg2]at c;cases c
        |cons _ _=>rw[hg2]at D;cases D
       cases G with
       |func L=>
        have y:some L=some J:=q;cases y;simp only[c]at e;cases e
       |const v=>exact nil e
       |tmp k=>exact nil e
       |global g=>exact nil e
      ·refine x.imp (hS b) fun⟨r,M,N⟩=> ?_;rw[List.all_eq_true]at l;have z:=l r M;simp only[Oba,Bool.not_eq_true']at z;exact⟨r,Z4b z.1,Z6g z.2,N⟩
     ·cases m
    ·cases m
   ·cases m
  ·cases hs
 ·split at hs
  ·rename_i O;exact Z5x (Q:=Q) hC h hs fun w' a' X' F' s' hk A q=>hK w' a' X' F' s' hk A q.more (fun p=>q.pres (by simp only[Qrt,Oba]at p;exact p.1)) (Q3y O hS q)
  ·cases hs
theorem Z02{ρ:Type}(hC:C.ok P g)(hsel: ∀(j:Nat) (o:Oper) cs b,ops[j]? =some o->o.op≠ .select cs b){bx:Nat->List Nat}(hbd: ∀i,∀r∈bx i,∀(j:Nat) o,ops[j]? =some o->o.dst≠some r){k:St->Option ρ}{r:ρ}{Qn:Act->World->Prop}
  (hK: ∀w' a' X' F' s',k s'=some r->R n W0 w' X' F' [] s' a'->Qn a' w'):
  ∀{f:Nat} {listed:Array Bool} {s:St} {w:World} {X:Nat->Prop} {Sh:Nat->Prop} {F:Key->List Nat} {a:Act},Qoq ops listed->R n W0 w X F [] s a->(∀b,Sh b->X b)->Zxx C n ops bx f listed s k=some r->Z1f W0.gh P ops Qn (Qb1 C ops) bx Sh f listed a w
 |0,listed,s,w,X,Sh,F,a,_,h,hS,e=>by
  simp only[Zxx]at e;split at e
  ·rename_i c;obtain⟨F',U⟩:=h.clean;exact⟨c,hK w a X F' _ e U⟩
  ·cases e
 |f+1,listed,s,w,X,Sh,F,a,H,h,hS,e=>by
  
  have W: ∀t o,ops[t]? =some o->t∈Region.ready .any ops listed->(Qzj C n ops (bx t) o s fun s'=>Zxx C n ops bx f (listed.setIfInBounds t true) s' k)=some r->
    wpOp P ops QF t (fun a' w'=>(Qyi ops t=true\/Qhf W0.gh (Qb1 C ops) bx Sh t a w w')/\Z1f W0.gh P ops Qn (Qb1 C ops) bx Sh f (listed.setIfInBounds t true) a' w') a w:=by
   intro t o y Y e;unfold wpOp;simp only[y];have:=Qzk (Q:=QF) hC h hS e (K:=fun a' w'=>(Qyi ops t=true\/Qhf W0.gh (Qb1 C ops) bx Sh t a w w')/\Z1f W0.gh P ops Qn (Qb1 C ops) bx Sh f (listed.setIfInBounds t true) a' w')
    (fun w' a' X' F' s' hk L M N O=>⟨.inr ⟨by simpa[Qb1,y]using N,O⟩,Z02 hC hsel hbd hK (Z9k H Y) L (fun b x=>M b (hS b x)) hk⟩)
   split
   ·rename_i hw;rw[if_pos hw]at this;exact .inl this
   ·rename_i hw;rw[if_neg hw]at this;exact this
  simp only[Zxx]at e;split at e
  ·rename_i c;obtain⟨F',U⟩:=h.clean;exact⟨fun _=>hK w a X F' _ e U,fun i l=>by rw[c]at l;cases l⟩
  ·rename_i i c;refine⟨fun Z=>(by rw[c]at Z;cases Z),fun t l=> ?_⟩;rw[c]at l;simp only[List.mem_singleton]at l;subst l;split at e
   ·rename_i o y;split at e
    ·rename_i E ts l G ac;obtain⟨hg,hE,vs,h1,h2,h3⟩:=Qld hC h l;unfold wpOp;simp only[y];rw[if_pos (by simp[Region.wanted,hg])];refine .inl (Qq2 hC.τ hE h h1 h2 h3 e fun v w' X' F' s' hk L=>⟨.inl ac,?_⟩);obtain⟨F2,U⟩:=L.clean;cases f with
     |zero=>exact⟨G,hK w' _ X' F2 _ hk U⟩
     |succ f=>exact⟨fun _=>hK w' _ X' F2 _ hk U,fun i l=>by rw[G]at l;cases l⟩
    ·exact W _ o y (by rw[c];simp) e
   ·cases e
  ·rename_i c;split at e
   ·rename_i i B;have D:=List.mem_of_find?_eq_some B;have d:=List.find?_some B;simp only[Oba]at d;have d:=d.2;rw[<-c]at D;split at e
    ·rename_i o y;simp only[y]at d;obtain⟨v,X',F',s',hk,ad,L,hy⟩: ∃v X' F' s',Zxx C n ops bx f (listed.setIfInBounds i true) s' k=some r/\(∀b,X b->X' b)/\R n W0 w X' F' [] s' (a.put o.dst v)/\Zlq P ops (Dep W0.gh C.τ X s a o w) o v a:=by
      split at e
      ·rename_i ae;exact Qzo hC h ae e _
      ·obtain⟨v,F',s',hk,L,hy⟩:=Qtv hC h e;exact⟨v,X,F',s',hk,fun _ h=>h,L,hy⟩
     refine Qls hS _ _ _ _ ?_;refine Qhe (I:=Dep W0.gh C.τ X s a o w) (J:=fun a'=> ∀j,∀q∈bx j,Qp W0.gh a' (.m q)=Qp W0.gh a (.m q)) y hsel (fun j q u=>hbd j q u i o y) f listed a w H (Dep.refl _ _ _ _ _ _ _) (fun _ _ _=>rfl) (fun j oj hj ag p ah=> ?_) D hy
      (Z02 hC hsel hbd hK (Z9k H D) L ad hk)
     obtain⟨h1,h2⟩:=Qz5 d y hj ag p ah;refine⟨h1,fun a1 a2 w1 w2 hJ A S hp=>⟨fun V=> ?_,fun j' q u=> ?_⟩⟩
     ·have A:=A V;rcases h2 with h2|h2
      ·unfold Xa2 at h2;rw[V]at h2;simp only at h2;split at h2
       ·rename_i q u;simp only[u]at A⊢;have aa:q∈bx j:=by
         rw[List.any_eq_true]at h2;obtain⟨z,hz,he⟩:=h2;rw[Onb he];exact hz
        exact fun b p x=>(S.hold b (.inr ⟨q,aa,by rw[hJ j q aa];exact x⟩)).trans (A b p x)
       ·rename_i u;simp only[u]at A⊢;exact fun b p x=>(S.hold b (.inl x)).trans (A b p x)
       ·cases h2
      ·have hold:=S.pres (by simpa[Qb1,hj]using h2);have ab: ∀b,b<w.heap.size->w1.heap[b]? =w.heap[b]?->b<w1.heap.size:=fun b p he=>by
        rw[Array.getElem?_eq_getElem p]at he;exact(Array.getElem?_eq_some_iff.1 he).1
       split at A
       ·rename_i q u
        try simp only[u]
        exact fun b p x=>(hold b (ab b p (A b p x))).trans (A b p x)
       ·rename_i u
        try simp only[u]
        exact fun b p x=>(hold b (ab b p (A b p x))).trans (A b p x)
       ·rename_i u
        try simp only[u]
        exact Old.trans A hold
     ·rw[hp q (by rw[hj];exact hbd j' q u j oj hj)];exact hJ j' q u
    ·cases e
   ·refine⟨fun Z=>(by rw[c]at Z;cases Z),fun t l=> ?_⟩;rw[c]at l;have V:=Qtx e _ (List.mem_map_of_mem (f:=_) l);split at V
    ·rename_i o y;exact W _ o y (by rw[c];exact l) V
    ·cases V
end
end Go.Am

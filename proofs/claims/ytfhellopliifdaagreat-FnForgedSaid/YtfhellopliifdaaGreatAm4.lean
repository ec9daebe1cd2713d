/- The abstract machine, part 4: what a piece of Go code does, as plain data, and that it does so. No condition. -/
import Derived.Test.YtfhellopliifdaaGreatAm3
import Derived.Laws.StructEq
import Derived.ChangeKeysEq
import Derived.Still
set_option linter.all false
namespace Go.Am
open Go.RowKit
def eqL{α:Type}(f:α->α->Bool):List α->List α->Bool|[],[]=>true|x::xs,y::ys=>f x y&&eqL f xs ys|_,_=>false
def eqV:(T:Ty)->T.den->T.den->Bool|.unit,_,_=>true|.int _,x,y=>decide ((x:Int)=y)|.bool,x,y=>(x:Bool)==y|.fnc _,_,_=>false|.str,x,y=>(x:List UInt8)==y|.pair a b,x,y=>eqV a x.1 y.1&&eqV b x.2 y.2|.arr _ t,x,y=>eqL (eqV t) x y|.slice _ _,_,_=>false|.err,_,_=>false|.hid _,_,_=>false|.sptr ..,_,_=>false|.clo ..,_,_=>false
structure Zyw(P:Program)(e:TypeId)(T:Ty):Prop where
 guard:∀(w:World)(op:BinOp)(p q:Operand)(u v:List Value),(eqGuard op e p q (Yz T u) (Yz T v)).run P w=.ok () w
 eql:∀(w w2 w3:World)(X Y:Nat->Prop)(B:Nat)(x y:T.den)(u v:List Value),rd w2 X B false T x u []->rd w3 Y B false T y v []->(binOp .eql e (Yz T u) (Yz T v)).run P w=.ok (.bool (eqV T x y)) w
 neq:∀(w w2 w3:World)(X Y:Nat->Prop)(B:Nat)(x y:T.den)(u v:List Value),rd w2 X B false T x u []->rd w3 Y B false T y v []->(binOp .neq e (Yz T u) (Yz T v)).run P w=.ok (.bool (!(eqV T x y))) w
structure Cfg where
 τ:Tab
 eq:TypeId->Bool
 Γ:Env
 lent:List Nat:=[]
 ΓL:Z5d:=[]
 ΓB:Z1w:=[]
 soft:Bool:=false
 ΓW:Z1x:=[]
 pt:Zpq:={}
 inl:Qad:=[]
structure Cfg.ok(C:Cfg)(P:Program)(g:Kx):Prop where
 τ:C.τ.ok P
 eq:∀e T,C.eq e=true->C.τ e=some T->Zyw P e T
 Γ:C.Γ.ok P g
 follows:P.follows .mixedOrders=true
 ΓL:C.ΓL.ok P g
 ΓB:C.ΓB.ok P g
 soft:g.soft=C.soft
 softG:C.soft=true-> ∃w0 L,g=Zys w0 L
 ΓW:C.ΓW.ok P
 pt:C.pt.ok P
 inl:C.inl.ok P g
variable {P:Program}{g:Kx}{W0:Zc6 g}{w w':World}{X X':Nat->Prop}{B B' n:Nat}{own:Bool}{s:St}{F:Key->List Nat}{a:Act}{H H':List Nat}{o:Oper}{tg:Ye}{τ:Tab}{C:Cfg}{gh:Nat->Value}
def Q01(C:Cfg)(s:St)(tg:Ye)(op:BinOp)(e:TypeId)(x y:Operand):Option Res:=
 match C.eq e,C.τ e with
 |true,some T=>match Zbw s (op1 s tg x) T,Zbw s (op1 s tg y) T with
  |some u,some v=>match op with
   |.eql=>some ⟨.val .bool (.u false) (eqV T u v),s,false,none⟩
   |.neq=>some ⟨.val .bool (.u false) (!(eqV T u v)),s,false,none⟩
   |_=>none
  |_,_=>none
 |_,_=>none
theorem Z2f(h:R n W0 w X F H s a)(ht:tg.ok W0.gh a)(hC:C.ok P g){op:BinOp}{e e2:TypeId}{x y:Operand}(ho:o.op=.binOp op e x y e2){r:Res}(hr:Q01 C s tg op e x y=some r):Zeb P C.τ W0 w X F s a o r:=by
 unfold Q01 at hr;split at hr
 ·rename_i T m p;split at hr
  ·rename_i u v q hv;obtain⟨d,f,i⟩:=Zci h ht q;obtain⟨j,k,l⟩:=Zci h ht hv;have b:=hC.eq e T m p;split at hr
   ·simp only[Osi]at hr;subst hr;refine Ku rfl λ_=>⟨_,λc _=>?_,Zx8 _⟩
    simp only[execOp,ho,f,k,Sem.run_bind,b.guard,Result.andThen_ok,b.eql c w w _ _ _ u v d j i l,Sem.run_pure]
   ·simp only[Osi]at hr;subst hr;refine Ku rfl λ_=>⟨_,λc _=>?_,Zx8 _⟩
    simp only[execOp,ho,f,k,Sem.run_bind,b.guard,Result.andThen_ok,b.neq c w w _ _ _ u v d j i l,Sem.run_pure]
   ·cases hr
  ·cases hr
 ·cases hr
def Z2p(s:St)(tg:Ye)(x:Operand):Option Res:=
 match op1 s tg x with
 |.tm k t=>match Z9u s k t with
  |some r=>match r.t with
   |.ptr _ _|.shp _ _=>some r
   |.elp q p _ _=>match s.bad q p with|false=>some r|true=>none
   |_=>none
  |none=>none
 |_=>none
theorem Z2q(h:R n W0 w X F H s a)(ht:tg.ok W0.gh a){x:Operand}(ho:o.op=.nilCheck x){r:Res}(hr:Z2p s tg x=some r):Zeb P τ W0 w X F s a o r:=by
 unfold Z2p at hr;split at hr
 ·rename_i k t hx;split at hr
  ·rename_i u j;obtain⟨v,d⟩:=Zxm h ht hx j;have l:u=r/\ ∃g,a.eval x=.pointer (some g):=by
    split at hr
    ·rename_i q p c;rw[c]at d;obtain⟨_,e,T,f,y,b,C,_,_,m⟩:=d;simp_all
    ·rename_i T y c;rw[c]at d;obtain⟨_,g,D,m,_⟩:=d;simp_all
    ·rename_i q p i z c;rw[c]at d;split at hr
     ·rename_i A;obtain⟨e,E,g,G,B,_,_,_,m⟩:=d.2 A;simp_all
     ·cases hr
    ·cases hr
   obtain⟨rfl,g,I⟩:=l;refine Ku v λ_=>⟨_,λJ _=>?_,d⟩
   simp_all[execOp]
  ·cases hr
 ·cases hr
def Qjz(C:Cfg)(s:St)(tg:Ye)(o:Oper):Option Res:=
 match o.op with
 |.move x=>Z5z C.τ s tg o.type x
 |.assign x=>Z0i C.τ s tg o.type x
 |.pick c x y=>Qmi C.τ s tg o.type c x y
 |.alloc e=>Qmy C.τ s e
 |.box e x=>Qx4 C.τ s tg e x
 |.build e ps=>match C.τ e with
  |some (.arr _ _)=>Z7n C.τ s tg e ps
  |_=>Qm8 C.τ s tg e ps
 |.buildSlice e n ps=>match C.τ e,C.soft with
  |none,false=>Qzm C.pt s tg e n ps
  |_,_=>match Z3g C.τ s tg e n ps with
   |some r=>some r
   |none=>Z7o C.τ s tg e n ps
 |.load e x=>match C.τ e with
  |none=>Qtv C.pt s tg e x
  |some _=>Qmf C.τ s tg e x
 |.binOp op e x y e2=>match C.τ e with
  |some (.pair _ _)|some (.arr _ _)=>Q01 C s tg op e x y
  |none=>match C.pt.isPtr e with
   |true=>Qpd C.pt s tg op e x y
   |false=>Qyh C.pt s tg op e x y
  |_=>Qsw C.τ s tg op e x y e2
 |.unOp op e x=>Q2r C.τ s tg op e x
 |.convert e e2 x=>Ql6 C.τ s tg e e2 x
 |.makeSlice e x y=>Qtx C.τ s tg e x y
 |.slice e x lo hi none=>match C.soft with
  |true=>none
  |false=>Qps C.τ s tg e x lo hi
 |.nilCheck x=>Z2p s tg x
 |.fieldAddr e x i=>Qe2 C.τ s tg e x i
 |.indexAddr e x i=>match C.τ e with
  |none=>Qys C.pt s tg e x i
  |some _=>Zz6 C.τ s tg e x i
 |.index e x i=>Qfe C.τ s tg e x i
 |.extract x i=>Qcm s x i
 |.makeFunc (.func f) ⟨[]⟩ ⟨[]⟩=>some ⟨.val (.fnc f) (.u true) (),s,false,none⟩
 |.call {callee:=.builtin .len,args:=⟨[x]⟩,argTypes:=⟨[e]⟩}=>match C.τ e with
  |none=>Qyz C.pt s tg e x
  |some _=>Qtu C.τ s tg e x
 |.call {callee:=.builtin .min,args:=⟨[x,y]⟩,argTypes:=⟨[e,_]⟩}=>Qh9 s tg e C.τ x y false
 |.call {callee:=.builtin .max,args:=⟨[x,y]⟩,argTypes:=⟨[e,_]⟩}=>Qh9 s tg e C.τ x y true
 |.call {callee:=.builtin .append,args:=⟨[x,y]⟩,argTypes:=⟨[e,e2]⟩}=>match Nat.beq e e2 with
  |true=>match Qho C.τ s tg e x y with
   |some r=>some r
   |none=>match Qss C.τ s tg e x y with
    |some r=>some r
    |none=>Qem C.soft C.τ s tg e x y
  |false=>none
 |_=>none
theorem Qhi(h:R n W0 w X F H s a)(ht:tg.ok W0.gh a)(hC:C.ok P g){r:Res}(hr:Qjz C s tg o=some r):Zve P n W0 w X H s a o r:=by
 unfold Qjz at hr;split at hr
 ·rename_i b;exact(Z3q h ht b hr).sound h
 ·grind[Qk6]
 ·rename_i b;exact(Qb5 h ht b hr).sound h
 ·rename_i b;exact Qmz h hC.τ b hr
 ·grind[Qsy]
 ·rename_i b;split at hr
  ·exact Qer h ht hC.τ b hr
  ·exact Qm9 h ht hC.τ b hr
 ·rename_i b;split at hr
  ·rename_i _ c;exact Qt7 (hC.soft.trans c) h ht hC.pt b hr
  ·split at hr
   ·rename_i d;cases hr;exact Qae h ht hC.τ b d
   ·exact Qes h ht hC.τ b hr
 ·rename_i b;split at hr
  ·exact(Qqj (τ:=C.τ) h ht hC.pt b hr).sound h
  ·exact(Qb1 h ht hC.τ b hr).sound h
 ·rename_i b;split at hr
  ·exact(Z2f h ht hC b hr).sound h
  ·exact(Z2f h ht hC b hr).sound h
  ·split at hr
   ·exact(Qpe (τ:=C.τ) h ht hC.pt b hr).sound h
   ·exact(Qte (τ:=C.τ) h ht hC.pt b hr).sound h
  ·exact(Qep h ht hC.τ b hr).sound h
 ·rename_i b;exact(Qk1 h ht b hr).sound h
 ·rename_i b;exact(Qbo h ht hC.τ b hr).sound h
 ·rename_i b;exact Qqk h ht hC.τ b hr
 ·rename_i b;split at hr
  ·cases hr
  ·rename_i c;exact Qpt (hC.soft.trans c) h ht hC.τ b hr
 ·rename_i b;exact(Z2q (τ:=C.τ) h ht b hr).sound h
 ·rename_i b;exact(Z70 h ht hC.τ b hr).sound h
 ·rename_i b;split at hr
  ·exact(Qtm (τ:=C.τ) h ht hC.pt b hr).sound h
  ·exact(Z0v h ht hC.τ b hr).sound h
 ·rename_i b;exact(Z78 h ht hC.τ b hr).sound h
 ·grind[Qhy]
 ·rename_i f b;simp only[Osi]at hr;subst hr;exact Zui h rfl λ_=>⟨_,by simp[execOp,b,Instr.makeFunc],Qux f⟩
 ·rename_i b;split at hr
  ·exact(Qtt (τ:=C.τ) h ht hC.pt b hr).sound h
  ·exact(Qfl h ht hC.τ b hr).sound h
 ·rename_i b;exact(Zz9 h ht (mx:=false) b hr).sound h
 ·rename_i b;exact(Zz9 h ht (mx:=true) b hr).sound h
 ·rename_i e j b;split at hr
  ·rename_i i;have:=Onb i;subst this;split at hr
   ·rename_i d;cases hr;exact Qk5 h ht hC.τ b d
   ·split at hr
    ·rename_i d;cases hr;exact Qqb h ht hC.τ b d
    ·cases c:C.soft with
     |false=>exact Qm0 (hC.soft.trans c) h ht hC.τ b hr
     |true=>simp_all[Qem]
  ·cases hr
 ·cases hr
def Qet(s:St):Nat->Nat->Bool->Option Ye
 |0,_,_=>none
 |d+1,g,b=>match s.foul g with
  |true=>none
  |false=>match s.get (.m g)with
   |.gd g2 b2 _=>match Qet s d g2 b2 with
    |some tg=>some ((g,b)::tg)
    |none=>none
   |.val .bool _ _=>some [(g,b)]
   |_=>none
def Qp0(s:St):Ye->Prop->Option Prop
 |[],p=>some p
 |(g,b)::tg,p=>match Zbw s (op1 s tg (.tmp g)) .bool with
  |some c=>Qp0 s tg (c=b->p)
  |none=>none
noncomputable def Ze{ρ:Type}(p:Prop)(m:Option ρ):Option ρ:=by
 classical exact if p then m else none
theorem Zoa{ρ:Type}{p:Prop}{m:Option ρ}{r:ρ}:Ze p m=some r↔p/\m=some r:=by
 simp_all[Ze]
theorem Zb{ρ:Type}{p:Prop}{m:Option ρ}(h:p:=by omega):Ze p m=m:=by
 unfold Ze;rw[if_pos h]
noncomputable def Qob{ρ:Type}(o:Ob)(m:Option ρ):Option ρ:=
 match o with
 |none=>m
 |some p=>Ze p m
theorem Z2g{ρ:Type}{o:Ob}{m:Option ρ}{r:ρ}:Qob o m=some r↔o.ok/\m=some r:=by
 cases o with
 |none=>simp[Qob,Ob.ok]
 |some p=>exact Zoa
noncomputable def Qut{ρ:Type}(s:St)(tg:Ye)(o:Ob)(m:Option ρ):Option ρ:=
 match o with
 |none=>m
 |some p=>match Qp0 s tg p with
  |some q=>Ze q m
  |none=>none
def Qnk(s:St):Ye->Option (List (Bool×Bool))
 |[]=>some []
 |(g,b)::tg=>match Zbw s (op1 s tg (.tmp g)) .bool,Qnk s tg with
  |some c,some r=>some ((c,b)::r)
  |_,_=>none
def Qxu{α:Type}(d:α)(m:Option α):List (Bool×Bool)->Option α|[]=>m|(c,true)::r=>bif c then Qxu d m r else some d|(c,false)::r=>bif c then some d else Qxu d m r
theorem Zya(h:R n W0 w X F H s a):∀{d g:Nat}{b:Bool}{tg:Ye},Qet s d g b=some tg->Q2 W0.gh a (.m g)=.bool b->tg.ok W0.gh a
 |0,_,_,_,c,_=>by cases c
 |d+1,g,b,tg,c,k=>by
  simp only[Qet]at c;split at c
  ·cases c
  ·rename_i y;split at c
   ·rename_i l r t u;split at c
    ·rename_i v e;simp only[Osi]at c;subst c;have o:=h.slots (.m g);rw[u]at o;have f:s.foul l=false:=by
      cases d with
      |zero=>cases e
      |succ d=>
       grind[Qet]
     obtain⟨_,_,x⟩:=o f;have i:Q2 W0.gh a (.m l)=.bool r:=Classical.byContradiction λj=>by
      obtain⟨_,q⟩:=x j;rw[k]at q;cases q
     intro p hp;rcases List.mem_cons.1 hp with rfl|hp
     ·exact k
     ·exact Zya h e i p hp
    ·cases c
   ·simp only[Osi]at c;subst c;intro p hp;simp_all
   ·cases c
theorem Qhh(h:R n W0 w X F H s a):∀{tg:Ye}{p q:Prop},Qp0 s tg p=some q->q->Ye.ok tg W0.gh a->p
 |[],p,q,d,f,_=>by simp_all[Qp0]
 |(g,b)::tg,p,q,d,f,i=>by
  simp only[Qp0]at d;split at d
  ·rename_i c j;have e:Ye.ok tg W0.gh a:=λp k=>i p (List.mem_cons_of_mem _ k);have m:=Zoo h e j;have o:=i (g,b) (List.mem_cons_self ..);have l:c=b:=by
    grind[Yr,Z48]
   exact Qhh h d f e l
  ·cases d
theorem Z6k{ρ:Type}(h:R n W0 w X F H s a){tg:Ye}{o:Ob}{m:Option ρ}{r:ρ}(hu:Qut s tg o m=some r):m=some r/\(Ye.ok tg W0.gh a->o.ok):=by
 unfold Qut at hu;split at hu
 ·exact⟨hu,λ_=>trivial⟩
 ·split at hu
  ·rename_i d b;rw[Zoa]at hu;exact⟨hu.2,λc=>Qhh h b hu.1 c⟩
  ·cases hu
theorem Qey(h:R n W0 w X F H s a):∀{tg:Ye}{cs:List (Bool×Bool)},Qnk s tg=some cs->Ye.ok tg W0.gh a-> ∀{α:Type}(d:α)(m:Option α),Qxu d m cs=m
 |[],cs,f,_,_,d,m=>by simp only[Qnk,Osi]at f;subst f;rfl
 |(g,b)::tg,cs,f,k,_,d,m=>by
  simp only[Qnk]at f;split at f
  ·rename_i c r i o;simp only[Osi]at f;subst f;have j:Ye.ok tg W0.gh a:=λp q=>k p (List.mem_cons_of_mem _ q);have t:Q2 W0.gh a (.m g)=.bool c:=(Yr W0 a (Z48 i)).trans (Zoo h j i);have l:=k (g,b) (List.mem_cons_self ..);rw[t]at l;injection l with e
   simp only at e;subst e;have u:=Qey h o j d m;cases c<;>simp[Qxu,u]
  ·cases f
def Qjo:(ts:List Ty)->Vm ts->Option TV|[t],r=>some ⟨t,r.1⟩|_,_=>none
theorem Qz3:∀{ts:List Ty}{r:Vm ts}{v:TV}{rs:List Value}{S:List Nat},Qjo ts r=some v->Zjl w B ts r rs S-> ∃cs,Jq rs=Yz v.1 cs/\rd w (λ_=>False) B true v.1 v.2 cs S
 |[t],r,v,rs,S,h,hx=>by
  simp only[Qjo,Osi]at h;subst h;obtain⟨cs,a,c,d,rfl,rfl,b,rfl,rfl⟩:=hx;exact⟨cs,rfl,by simpa using b⟩
 |[],_,_,_,_,h,_=>by simp[Qjo]at h
 |_::_::_,_,_,_,_,h,_=>by simp[Qjo]at h
theorem Zag:Ye.ok [] W0.gh a:=λp b=>by cases b
theorem Qhr{d g:Nat}{b:Bool}{tg:Ye}(hc:Qet s d g b=some tg):s.get (.m g)≠ .junk:=by
 cases d with
 |zero=>cases hc
 |succ d=>
  grind[Qet]
def Q81:(ts:List Ty)->Vm ts|[]=>()|t::ts=>(zero t,Q81 ts)
noncomputable def gdK{ρ:Type}(C:Cfg)(o:Oper)(s:St)(tg:Ye)(g:Nat)(b:Bool)(d:Nat)(k:St->Option ρ):Option ρ:=
 match o.op with
 |.call {callee:=.value fo,args:=xs,..}=>match(Qqg s tg fo).bind C.Γ.find with
  |some e=>match Ztc s tg e.args xs.toList,Qnk s tg,Qjo e.res (Q81 e.res)with
   |some us,some cs,some _=>(Qxu (Q81 e.res) (e.F us) cs).bind λr=>match Qjo e.res r with
    |some v=>k (Jd s d (.gd g b (.val v.1 (.u true) v.2)))
    |none=>none
   |_,_,_=>none
  |none=>none
 |_=>match Qjz C s tg o with
  |some r=>match r.moved with
   |false=>Qut s tg r.obl (k (Jd s d (.gd g b r.t)))
   |true=>none
  |none=>none
def Q5m(s:St):List Operand->Option (List Nat)
 |[]=>some []
 |x::xs=>match Qr6 (op1 s [] x),Q5m s xs with
  |some q,some l=>match s.get (.m q)with
   |.box .. =>some (q::l)
   |_=>none
  |_,_=>none
theorem Qnf(h:R n W0 w X F H s a):∀{xs:List Operand}{l:List Nat},Q5m s xs=some l->(xs.map a.eval).length=l.length/\ ∀(j:Nat)(q:Nat),l[j]? =some q-> ∃u,(xs.map a.eval)[j]? =some u/\atP s F q [] u
 |[],l,d=>by simp_all[Q5m]
 |x::xs,l,d=>by
  simp only[Q5m]at d;split at d
  ·rename_i q v z g;split at d
   ·rename_i e T f y i;simp only[Osi]at d;subst d;obtain⟨p,A⟩:=Qnf h g;refine⟨by simpa using p,λj B k=>?_⟩;cases j with
    |zero=>
     simp only[List.getElem?_cons_zero,Osi]at k;subst k;have o:=h.slots (.m q);rw[i]at o;obtain⟨b,c,r,C,t,_⟩:=o;refine⟨a.eval x,by simp,e,T,f,y,b,r,i,t,?_⟩
     grind[Z28,Wr]
    |succ j=>simp_all
   ·cases d
  ·cases d
noncomputable def Zoe{ρ:Type}(C:Cfg)(n:Nat)(ops:Array Oper)(o:Oper)(s:St)(k:St->Option ρ):Option ρ:=
 match o.guard with
 |none=>match o.op with
  |.store e x v=>match o.dst with
   |none=>match Qha C.τ s [] e x v with
    |some s'=>k s'
    |none=>none
   |some _=>none
  |.call {callee:=.value fo,args:=xs,..}=>match Qqg s [] fo with
   |some f=>Q5k C.Γ n s [] o.dst f xs.toList k
   |none=>match Qva s [] fo with
    |some c=>Q5j C.Γ n s [] o.dst c xs.toList k
    |none=>none
  |.makeFunc (.func f) ⟨[]⟩ ⟨c::cs⟩=>match C.inl.find f with
   |some _=>match Q5m s (c::cs),o.dst with
    |some l,some d=>match Wn s d&&Nat.blt d n with
     |true=>k (Jd s d (.cl f l))
     |false=>none
    |_,_=>none
   |none=>match C.soft,Q5l s (c::cs),o.dst with
    |false,some (U,s'),some d=>match Wn s' d&&Nat.blt d n with
     |true=>k (Jd s' d (.val (.clo f U.1) (.u false) U.2))
     |false=>none
    |_,_,_=>none
  |.move (.tmp q)=>match s.get (.m q),o.dst with
   |.tup,some d=>match Wn s d&&Nat.blt d n&&Nat.blt q 1048576 with
    |true=>k (Qk0 s q d)
    |false=>none
   |_,_=>match Z5z C.τ s [] o.type (.tmp q),o.dst with
    |some r,some d=>match Wn r.s d&&Nat.blt d n with
     |true=>Qob r.obl (k (Jd r.s d r.t))
     |false=>none
    |_,_=>none
  |_=>match Qjz C s [] o,o.dst with
   |some r,some d=>match Wn r.s d&&Nat.blt d n with
    |true=>Qob r.obl (k (Jd r.s d r.t))
    |false=>none
   |_,_=>none
 |some (j,b)=>match(ops[j]?).bind (·.dst),o.dst with
  |some g,some d=>match Qet s 8 g b,Wn s d&&Nat.blt d n&&Nat.blt g 1048576 with
   |some tg,true=>gdK C o s tg g b d k
   |_,_=>none
  |_,_=>none
structure Q85(gh:Nat->Value)(C:Cfg)(o:Oper)(X X':Nat->Prop)(s:St)(a a':Act)(w w':World):Prop where
 more:∀b,X b->X' b
 pres:Qzn o.op=true->Old w w'
 kept:Qk3 gh X s a (Ql1 C.τ s o) w w'
 put:∃v,a'=a.put o.dst v
theorem R.fact(h:R n W0 w X F H s a){o:Oper}{v:Value}(hold:Old w w'):Q85 W0.gh C o X X s a (a.put o.dst v) w w':=⟨λ_ h=>h,λ_=>hold,h.kept hold,v,rfl⟩
theorem Qk3.any{tgt:Option Nat}(h:Qk3 W0.gh X s a none w w'):Qk3 W0.gh X s a tgt w w':=λb c=>h b (c.imp id λ⟨r,d,_,e⟩=>⟨r,d,by simp,e⟩)
theorem Q3l{ρ:Type}(hC:C.ok P g)(h:R n W0 w X F [] s a){g d:Nat}{b:Bool}(hd:o.dst=some d)(hch:Qet s 8 g b=some tg)(hdn:Wn s d=true/\d<n){k:St->Option ρ}{r:ρ}(hs:gdK C o s tg g b d k=some r)
  {K:Act->World->Prop}{Q:Exit->Act->World->Prop} (hK:∀w' a' X' F' s',k s'=some r->R n W0 w' X' F' [] s' a'->Q85 W0.gh C o X X' s a a' w w'->K a' w'):
  (Q2 W0.gh a (.m g)=.bool b->o.wp P a w K Q)/\(Q2 W0.gh a (.m g)≠ .bool b->K (a.put o.dst undef) w):=by
 have j:=Qhr hch;have skip:∀{t:Tm},Q2 W0.gh a (.m g)≠ .bool b->k (Jd s d (.gd g b t))=some r->K (a.put o.dst undef) w:=by
  intro t c y;rw[hd];exact hK w _ X _ _ y ((by simpa using h:R n W0 w X F ([]++[]) s a).put (S:=[]) hdn.1 hdn.2 λ_=>⟨j,λi=>absurd i c,λ_=>⟨rfl,rfl⟩⟩) (by rw[<-hd];exact h.fact (Old.refl w))
 unfold gdK at hs;split at hs
 ·rename_i W Y I J;split at hs
  ·rename_i e z;obtain⟨f,L,y⟩:=Option.bind_eq_some_iff.1 z;split at hs
   ·rename_i Z H v0 A B M;rw[Option.bind_eq_some_iff]at hs;obtain⟨rv,p,hk⟩:=hs;split at hk
    ·rename_i v hv;refine⟨λi=>?_,λi=>skip i hk⟩;have l:=Zya h hch i;rw[Qey h B l]at p;refine Qcd hC.Γ h l (Zog h l L) J y A p λrs S w' x q hold=>?_;obtain⟨H,N,O⟩:=Qz3 hv q;rw[hd];exact hK w' _ X _ _ hk (x.put hdn.1 hdn.2 λ_=>⟨j,λ_=>⟨H,N,by unfold rdF;exact Zgx (Nat.le_refl _) (λ_ (h:False)=>h.elim) O⟩,λc=>absurd i c⟩) (by rw[<-hd];exact h.fact hold)
    ·cases hk
   ·cases hs
  ·cases hs
 ·split at hs
  ·rename_i r0 hv;split at hs
   ·rename_i U;obtain⟨hk,D⟩:=Z6k h hs;refine⟨λi=>?_,λi=>skip i hk⟩;have l:=Zya h hch i;refine Qhi h l hC hv (D l) K Q λv X' F' S w' V x u E hold=>?_;have G:=E U;rw[G]at x u;rw[hd];exact hK w' _ X' _ _ hk (x.put hdn.1 hdn.2 λ_=>⟨j,λ_=>u,λc=>absurd i c⟩) (by rw[<-hd];exact⟨V,hold.1,hold.2.any,_,rfl⟩)
   ·cases hs
  ·cases hs
theorem Z9k{ρ:Type}(hC:C.ok P g){ops:Array Oper}(h:R n W0 w X F [] s a){k:St->Option ρ}{r:ρ}(hs:Zoe C n ops o s k=some r){K:Act->World->Prop}{Q:Exit->Act->World->Prop}
  (hK:∀w' a' X' F' s',k s'=some r->R n W0 w' X' F' [] s' a'->Q85 W0.gh C o X X' s a a' w w'->K a' w'):if Region.wanted o (yielded ops a.tmps)then o.wp P a w K Q else K (a.put o.dst undef) w:=by
 unfold Zoe at hs;split at hs
 ·rename_i H;rw[if_pos (by simp[Region.wanted,H])];split at hs
  ·rename_i e x v p;split at hs
   ·rename_i i;split at hs
    ·rename_i s' I;exact Qpx h hC.τ p i I λw' F' z B=>hK w' a X F' s' hs z ⟨λ_ h=>h,λY=>(by rw[p]at Y;cases Y),B,undef,by rw[i];rfl⟩
    ·cases hs
   ·cases hs
  ·rename_i fo xs ab p;split at hs
   ·rename_i f hf;exact Qu7 hC.Γ h Zag (Zog h Zag hf) p hs λv w' F' s' hk z hold=>hK w' _ X F' s' hk z (h.fact hold)
   ·split at hs
    ·rename_i c hc;exact Qu6 hC.Γ h Zag hc p hs λv w' F' s' hk z hold=>hK w' _ X F' s' hk z (h.fact hold)
    ·cases hs
  ·rename_i f c Z p;split at hs
   ·split at hs
    ·rename_i l d y i;split at hs
     ·rename_i hdn;simp only[Oba,Nat.blt_eq]at hdn;obtain⟨J,L⟩:=Qnf h y;unfold Oper.wp;simp only[execOp,p,Instr.makeFunc,Oper.upon];rw[i];refine hK w _ X _ _ hs ((by simpa using h:R n W0 w X F ([]++[]) s a).put hdn.1 hdn.2 (t:=.cl f l) ⟨rfl,(c::Z).map a.eval,by simp,J,L⟩) (by rw[<-i];exact h.fact (Old.refl w))
     ·cases hs
    ·cases hs
   ·split at hs
    ·rename_i U s' d M y i;split at hs
     ·rename_i hdn;simp only[Oba,Nat.blt_eq]at hdn;obtain⟨X',F',J,L,g3⟩:=Qne (hC.soft.trans M) h y;unfold Oper.wp;simp only[execOp,p,Instr.makeFunc,Oper.upon];rw[i];refine hK w _ X' _ _ hs ((by simpa using J:R n W0 w X' F' ([]++[]) s' a).put hdn.1 hdn.2 (t:=.val (.clo f U.1) (.u false) U.2) ⟨[.func (.func f) #[] (List.map a.eval (c::Z)).toArray],by simp[Yz],by unfold rdF;exact⟨rfl,_,rfl,g3⟩⟩) (by rw[<-i];exact⟨L,λ_=>Old.refl w,h.kept (Old.refl w),_,rfl⟩)
     ·cases hs
    ·cases hs
  ·rename_i q p;split at hs
   ·rename_i d hq i;split at hs
    ·rename_i hdn;have N:Nat.blt q 1048576=true:=by simp_all
     simp only[Oba,Nat.blt_eq]at hdn;obtain⟨F',E⟩:=h.tupTo hq hdn.1.1 hdn.1.2;rw[Yr W0 a N]at E;unfold Oper.wp;simp only[execOp,p,Sem.run_pure,Oper.upon];rw[i];exact hK w _ X F' _ hs E (by rw[<-i];exact h.fact (Old.refl w))
    ·cases hs
   ·split at hs
    ·rename_i r0 d hv i;split at hs
     ·rename_i hdn;simp only[Oba,Nat.blt_eq]at hdn;rw[Z2g]at hs;refine(Z3q h Zag p hv).sound h hs.1 K Q λv X' F' S w' O z D _ hold=>?_;rw[i];exact hK w' _ X' _ _ hs.2 (z.put hdn.1 hdn.2 D) (by rw[<-i];exact⟨O,hold.1,hold.2.any,_,rfl⟩)
     ·cases hs
    ·cases hs
  ·split at hs
   ·rename_i r0 d hv i;split at hs
    ·rename_i hdn;simp only[Oba,Nat.blt_eq]at hdn;rw[Z2g]at hs;refine Qhi h Zag hC hv hs.1 K Q λv X' F' S w' O z D _ hold=>?_;rw[i];exact hK w' _ X' _ _ hs.2 (z.put hdn.1 hdn.2 D) (by rw[<-i];exact⟨O,hold.1,hold.2.any,_,rfl⟩)
    ·cases hs
   ·cases hs
 ·rename_i j b H;split at hs
  ·rename_i g d hj i;split at hs
   ·rename_i tg V hdn;have G:Nat.blt g 1048576=true:=by simp_all
    simp only[Oba,Nat.blt_eq]at hdn;have ad:=Q3l (Q:=Q) hC h i V hdn.1 hs hK;by_cases hb:Q2 W0.gh a (.m g)=.bool b
    ·have aa:g<a.tmps.size:=by
      have A:a.tmps.getD g undef=.bool b:=(Yr W0 a G).symm.trans hb;rcases Nat.lt_or_ge g a.tmps.size with h'|h'
      ·exact h'
      ·rw[Array.getD_eq_getD_getElem?,Array.getElem?_eq_none h']at A;cases A
     have W:Region.wanted o (yielded ops a.tmps)=true:=by
      have A:a.tmps[g]? =some (.bool b):=by
       have A:a.tmps.getD g undef=.bool b:=(Yr W0 a G).symm.trans hb;simp_all
      simp_all[Region.wanted,yielded]
     simp_all
    ·have W:¬Region.wanted o (yielded ops a.tmps)=true:=by
      intro W;simp only[Region.wanted,H,yielded,hj,Obs,beq_iff_eq]at W
      grind[Q2,Zqf]
     simp_all
   ·cases hs
  ·cases hs
def Zmj:Ty->Nat|.pair a b=>max (Zmj a+1) (Zmj b)|.arr _ t=>Zmj t+1|_=>1
def eqB(P:Program):Ty->TypeId->List Field->Nat->Bool->Bool
 |.int _,e,_,_,true=>match P.underlying e with|some (.int _)=>Zyr P e (.int .i64)|_=>false
 |.bool,e,_,_,true=>match P.underlying e with|some .bool=>Zyr P e .bool|_=>false
 |.str,e,_,_,true=>match P.underlying e with|some .string=>Zyr P e .str|_=>false
 |.unit,e,_,_,true=>match P.underlying e with|some (.struct fs)=>fs.toList.isEmpty&& !P.stoodInHeld e&&Zyr P e .unit|_=>false
 |.pair a b,e,_,_,true=>match P.underlying e with
  |some (.struct fs)=>match fs.toList with
   | f :: r => !P.stoodInHeld e && Zyr P e (.pair a b) && f.name != "_" && Nat.beq f.offset 0 && eqB P a f.type [] 0 true && eqB P b 0 r a.size false
   |[]=>false
  |_=>false
 |.arr n t,e,_,_,true=>match P.underlying e with
  |some (.array m e2)=>Nat.beq m n&&Zyr P e (.arr n t)&&eqB P t e2 [] 0 true
  |_=>false
 |.unit,_,fs,_,false=>fs.isEmpty
 |.pair a b,_,fs,off,false=>match fs with
  | f :: r => f.name != "_" && Nat.beq f.offset off && eqB P a f.type [] 0 true && eqB P b 0 r (off + a.size) false
  |[]=>false
 |_,_,_,_,_=>false
theorem Qvo{T:Ty}{e:TypeId}{fs:List Field}{off:Nat}(h:eqB P T e fs off true=true):∃i,P.info? e=some i/\i.size=T.size:=by
 have a:∀U:Ty,U.size=T.size->Zyr P e U=true-> ∃i,P.info? e=some i/\i.size=T.size:=λU b c=>by
  grind[Zre]
 cases T<;>simp only[eqB]at h
 case int k=>split at h<;>first|exact a _ rfl h|cases h
 all_goals grind
theorem Q9u{T:Ty}{e:TypeId}{fs:List Field}{off:Nat}(h:eqB P T e fs off true=true)(w:World):(Go.isAgg e).run P w=.ok T.isAgg w:=by
 cases T<;>simp only[eqB]at h
 case int k=>split at h<;>first|(rename_i c;simp[Go.isAgg,run_underlying c,Ty.isAgg])|cases h
 case bool=>split at h<;>first|(rename_i c;simp[Go.isAgg,run_underlying c,Ty.isAgg])|cases h
 case str=>split at h<;>first|(rename_i c;simp[Go.isAgg,run_underlying c,Ty.isAgg])|cases h
 case unit=>split at h<;>first|(rename_i c;simp[Go.isAgg,run_underlying c,Ty.isAgg])|cases h
 case pair a b=>split at h<;>first|(rename_i c;simp[Go.isAgg,run_underlying c,Ty.isAgg])|cases h
 case arr n t=>split at h<;>first|(rename_i c;simp[Go.isAgg,run_underlying c,Ty.isAgg])|cases h
 all_goals simp_all
theorem Qye{T:Ty}{e:TypeId}{fs:List Field}{off:Nat}(h:eqB P T e fs off true=true)(w:World):(Go.sizeOf e).run P w=.ok T.size w:=by
 obtain⟨i,a,b⟩:=Qvo h;simp_all[Go.sizeOf,typeInfo]
theorem Qg6{T:Ty}{e:TypeId}{fs:List Field}{off':Nat}(h:eqB P T e fs off' true=true)(w:World){xs:Array Value}{off:Nat}{pre u post:List Value}(hx:xs.toList=pre++(u++post))(ho:pre.length=off)(hu:u.length=T.size):
  (part e xs off).run P w=.ok (Yz T u) w:=by
 unfold part;simp only[Sem.run_bind,Q9u h w,Result.andThen_ok];cases ha:T.isAgg
 ·have b:=Qg9 ha;rw[b]at hu;obtain⟨v,rfl⟩:=List.length_eq_one_iff.1 hu;have:xs[off]? =some v:=by
   rw[<-Array.getElem?_toList,hx,<-ho];simp
  have a:Yz T [v]=v:=by cases T<;>simp[Ty.isAgg]at ha<;>rfl
  simp[this,a]
 ·simp only[if_true,Sem.run_bind,Qye h w,Result.andThen_ok,Sem.run_pure];have c:xs.extract off (off+T.size)=u.toArray:=by
   grind[Array.toList_extract]
  have a:Yz T u=.agg u.toArray:=by cases T<;>simp[Ty.isAgg]at ha<;>rfl
  rw[c,a]
theorem Zyg{X Y:Nat->Prop}{B:Nat}{w2 w3:World}:∀(T:Ty),
  (∀(e:TypeId)(fs:List Field)(off d:Nat)(w:World)(x y:T.den)(u v:List Value),eqB P T e fs off true=true->Zmj T<=d+1->rd w2 X B false T x u []->rd w3 Y B false T y v []->
   (Op.equalIn (d+1) e (Yz T u) (Yz T v)).run P w=.ok (eqV T x y) w)/\
  (∀(e:TypeId)(fs:List Field)(off d:Nat)(w:World)(x y:T.den)(u v pu pv:List Value),eqB P T e fs off false=true->Zmj T<=d+1->rd w2 X B false T x u []->rd w3 Y B false T y v []->pu.length=off->pv.length=off->
   (Op.eqFields d (pu++u).toArray (pv++v).toArray fs).run P w=.ok (eqV T x y) w)
 |.int k=>by
   refine⟨λe fs off d w x y u v h _ hx c=>?_,λe fs off d w x y u v pu pv h=>by simp[eqB]at h⟩;simp only[eqB]at h;split at h
   ·rename_i k' g;rw[hx.1,c.1];exact run_equalIn_int w d e k k' x y g
   ·cases h
 |.bool=>by
   refine⟨λe fs off d w x y u v h _ hx c=>?_,λe fs off d w x y u v pu pv h=>by simp[eqB]at h⟩;simp only[eqB]at h;split at h
   ·rename_i g;rw[hx.1,c.1];exact run_equalIn_bool' w d e x y g
   ·cases h
 |.str=>by
   refine⟨λe fs off d w x y u v h _ hx c=>?_,λe fs off d w x y u v pu pv h=>by simp[eqB]at h⟩;simp only[eqB]at h;split at h
   ·rename_i g;rw[hx.1,c.1];have:=run_equalIn_string w d e ⟨⟨x⟩⟩ ⟨⟨y⟩⟩ g;rw[ByteArray.toList_eq,ByteArray.toList_eq]at this;exact this
   ·cases h
 |.unit=>by
   refine⟨λe fs off d w x y u v h _ hx c=>?_,λe fs off d w x y u v pu pv h _ hx c _ _=>?_⟩
   ·simp only[eqB]at h;split at h
    ·rename_i fs g;simp only[Oba,Bool.not_eq_true']at h;have G:P.fieldsOf e=fs:=by simp_all[Program.fieldsOf]
     rw[hx.1,c.1];show(Op.equalIn (d+1) e (.agg #[]) (.agg #[])).run P w=_;rw[run_equalIn_struct w d e #[] #[] (by rw[G];exact g) h.1.2,G];have:fs.toList=[]:=by simpa using h.1.1
     rw[this];rfl
    ·cases h
   ·have:fs=[]:=by simp_all[eqB]
    rw[this];rfl
 |.pair a b=>by
   have q : ∀ (f : Field) (r : List Field) (off d : Nat) (w : World) (x y : (Ty.pair a b).den) (u v pu pv : List Value), f.name ≠ "_" -> f.offset = off -> eqB P a f.type [] 0 true = true -> eqB P b 0 r (off + a.size) false = true ->
     Zmj (.pair a b)<=d+1->rd w2 X B false (.pair a b) x u []->rd w3 Y B false (.pair a b) y v []->pu.length=off->pv.length=off->
     (Op.eqFields d (pu++u).toArray (pv++v).toArray (f::r)).run P w=.ok (eqV (.pair a b) x y) w:=by
    intro f r off d w x y u v pu pv H h2 p O C hx c s z;obtain⟨u1,u2,S1,S2,rfl,I,j,D⟩:=hx;obtain⟨E,J,T1,T2,rfl,K,o,F⟩:=c;have I:=List.append_eq_nil_iff.1 I.symm;have K:=List.append_eq_nil_iff.1 K.symm;obtain⟨rfl,rfl⟩:=I;obtain⟨rfl,rfl⟩:=K;simp only[Zmj]at C;have aa:Zmj a+1<=d+1:=Nat.le_trans (Nat.le_max_left _ _) C;have Q:Zmj b<=d+1:=Nat.le_trans (Nat.le_max_right _ _) C;cases d with
    |zero=>
     have:1<=Zmj a:=by cases a<;>simp[Zmj];omega
     omega
    |succ d=>
     simp only[Op.eqFields,H,ne_eq,not_false_eq_true,if_true,Sem.run_bind,h2];rw[Qg6 p w (u:=u1) (pre:=pu) (post:=u2) (by simp) s (Y6 j)];simp only[Result.andThen_ok];rw[Qg6 p w (u:=E) (pre:=pv) (post:=J) (by simp) z (Y6 o)];simp only[Result.andThen_ok];rw[(Zyg a).1 f.type [] 0 d w x.1 y.1 u1 E p (by omega) j o];simp only[Result.andThen_ok];cases he:eqV a x.1 y.1
     ·simp[eqV,he]
     ·have:=(Zyg b).2 0 r (off+a.size) (d+1) w x.2 y.2 u2 J (pu++u1) (pv++E) O Q D F (by grind[Y6]) (by grind[Y6])
      grind[eqV]
   refine⟨λe fs off d w x y u v h C hx c=>?_,λe fs off d w x y u v pu pv h C hx c s z=>?_⟩
   ·simp only[eqB]at h;split at h
    ·rename_i fs g;split at h
     ·rename_i f r S;simp only[Oba,Bool.not_eq_true',bne_iff_ne,ne_eq]at h;obtain⟨⟨⟨⟨⟨H,_⟩,p⟩,O⟩,h5⟩,h6⟩:=h;have G:P.fieldsOf e=fs:=by simp_all[Program.fieldsOf]
      show(Op.equalIn (d+1) e (.agg u.toArray) (.agg v.toArray)).run P w=_;rw[run_equalIn_struct w d e u.toArray v.toArray (by rw[G];exact g) H,G,S];exact q f r 0 d w x y u v [] [] p (Onb O) h5 (by simpa using h6) C hx c rfl rfl
     ·cases h
    ·cases h
   ·simp only[eqB]at h;split at h
    ·rename_i f r;simp only[Oba,bne_iff_ne,ne_eq]at h
     grind[Onb]
    ·cases h
 |.arr n t=>by
   refine⟨λe fs off d w x y u v h C hx c=>?_,λe fs off d w x y u v pu pv h=>by simp[eqB]at h⟩;simp only[eqB]at h;split at h
   ·rename_i m U g;simp only[Oba]at h;obtain⟨⟨H,_⟩,p⟩:=h;have:=Onb H;subst this;obtain⟨i,hi,hs⟩:=Qvo p;have hc:P.cellsOf U=t.size:=by grind[Program.cellsOf]
    show(Op.equalIn (d+1) e (.agg u.toArray) (.agg v.toArray)).run P w=_;rw[run_equalIn_array w d u.toArray v.toArray g hi,hc];cases d with
    |zero=>
     have:1<=Zmj t:=by cases t<;>simp[Zmj];omega
     simp_all[Zmj]
    |succ d=>
     simp only[Zmj]at C;have V:∀(l A:List t.den)(k:Nat)(pu pv L M:List Value),l.length=A.length->pu.length=k*t.size->pv.length=k*t.size->Zc2 (rd w2 X B false t) l L []->Zc2 (rd w3 Y B false t) A M []->
       (Op.eqItems (d+1) U t.size (pu++L).toArray (pv++M).toArray (List.range' k l.length)).run P w=.ok (eqL (eqV t) l A) w:=by
      intro l
      induction l with
      |nil=>intro A k pu pv L M N _ _ _ _;cases A with
       |nil=>rfl
       |cons=>simp at N
      |cons a l ih=>
       intro A k pu pv L M N s z W Z;cases A with
       |nil=>simp at N
       |cons b A=>
        obtain⟨u1,u2,S1,S2,rfl,I,j,D⟩:=W;obtain⟨E,J,T1,T2,rfl,K,o,F⟩:=Z;obtain⟨rfl,rfl⟩:=List.append_eq_nil_iff.1 I.symm;obtain⟨rfl,rfl⟩:=List.append_eq_nil_iff.1 K.symm;simp only[List.length_cons,List.range'_succ,Op.eqItems,Sem.run_bind];rw[Qg6 p w (u:=u1) (pre:=pu) (post:=u2) (by simp) s (Y6 j)];simp only[Result.andThen_ok];rw[Qg6 p w (u:=E) (pre:=pv) (post:=J) (by simp) z (Y6 o)];simp only[Result.andThen_ok];rw[(Zyg t).1 U [] 0 d w a b u1 E p (by omega) j o];simp only[Result.andThen_ok];cases he:eqV t a b
        ·simp[eqL,he]
        ·have:=ih A (k+1) (pu++u1) (pv++E) u2 J (by simpa using N) (by grind[Y6]) (by grind[Y6]) D F;simp only[List.append_assoc]at this;simp[eqL,he,this]
     have:=V x y 0 [] [] u v (by rw[hx.1,c.1]) (by simp) (by simp) hx.2 c.2;rw[hx.1]at this;rw[List.range_eq_range'];exact this
   ·cases h
 |.slice _ _=>⟨λe fs off d w x y u v h=>by simp[eqB]at h,λe fs off d w x y u v pu pv h=>by simp[eqB]at h⟩
 |.fnc _=>⟨λe fs off d w x y u v h=>by simp[eqB]at h,λe fs off d w x y u v pu pv h=>by simp[eqB]at h⟩
 |.err=>⟨λe fs off d w x y u v h=>by simp[eqB]at h,λe fs off d w x y u v pu pv h=>by simp[eqB]at h⟩
 |.hid _=>⟨λe fs off d w x y u v h=>by simp[eqB]at h,λe fs off d w x y u v pu pv h=>by simp[eqB]at h⟩
 |.sptr .. =>⟨λe fs off d w x y u v h=>by simp[eqB]at h,λe fs off d w x y u v pu pv h=>by simp[eqB]at h⟩
 |.clo .. =>⟨λe fs off d w x y u v h=>by simp[eqB]at h,λe fs off d w x y u v pu pv h=>by simp[eqB]at h⟩
theorem Zyw.of{e:TypeId}{T:Ty}(h1:eqB P T e [] 0 true=true)(h2:P.eqGuardType P.depth e=false)(h3:T.isAgg=true)(h4:Zmj T<=10000):Zyw P e T:=by
 have b:∀u:List Value,Yz T u=.agg u.toArray:=λu=>by cases T<;>simp[Ty.isAgg]at h3<;>rfl
 refine⟨λw c p q u v=>?_,λw w2 w3 X Y B x y u v hx a=>?_,λw w2 w3 X Y B x y u v hx a=>?_⟩
 ·simp_all[run_eqGuard_agg]
 ·have:=(Zyg (P:=P) (X:=X) (Y:=Y) (B:=B) (w2:=w2) (w3:=w3) T).1 e [] 0 9999 w x y u v h1 (by omega) hx a;simp_all[run_eql_struct]
 ·have:=(Zyg (P:=P) (X:=X) (Y:=Y) (B:=B) (w2:=w2) (w3:=w3) T).1 e [] 0 9999 w x y u v h1 (by omega) hx a;simp_all[run_neq_struct]
inductive KT(s s':St):Tm->Tm->Prop where
 |junk (t):KT s s' t .junk
 |tup:KT s s' .tup .tup
 |val {T f g x}:(f=g\/Zcb T f g=true)->KT s s' (.val T f x) (.val T g x)
 |box {e T f g x}:(f=g\/Zcb T f g=true)->KT s s' (.box e T f x) (.box e T g x)
 |shp {T x}:KT s s' (.shp T x) (.shp T x)
 |ptr {r p}:(∃e T f x,s'.get (.m r)=.box e T f x)->KT s s' (.ptr r p) (.ptr r p)
 |aep {r p i}:(∃e T f x,s'.get (.m r)=.box e T f x)->KT s s' (.aep r p i) (.aep r p i)
 |pls {h l}:(∀q∈l,∃e T f x,s'.get (.m q.1)=.box e T f x)->KT s s' (.pls h l) (.pls h l)
 |bor {r p}:s.bad r p=false->s'.get (.m r)≠ .junk->KT s s' (.bor r p) (.bor r p)
 |elp {r p i q}:s.bad r p=false->s'.get (.m r)≠ .junk->KT s s' (.elp r p i q) (.elp r p i q)
 |bel {r p i q}:s.bad r p=false->s.foul (Zo6 r)=false->s'.get (.m r)≠ .junk->KT s s' (.bel r p i q) (.bel r p i q)
 |cl {f l}:(∀q∈l,∃e T f x,s'.get (.m q)=.box e T f x)->KT s s' (.cl f l) (.cl f l)
variable {s':St}
theorem R.weak(h:R n W0 w X F H s a)(hk:∀k,KT s s' (s.get k) (s'.get k))(hc:∀d i,s'.get (.c d i)≠ .junk->s'.get (.m d)=.tup)
  (hl:∀p,p∈W0.fix->p.1∈s'.lent):∃F',R n W0 w X F' H s' a:=by
 classical
 let F':Key->List Nat:=λk=>if s'.get k=.junk then[]else F k
 have I:∀k b,b∈F' k->b∈F k:=λk b O=>by grind
 have D:∀{k},s'.get k≠ .junk->F' k=F k:=λhk=>by simp[F',hk]
 have L:∀{r p v U},s'.get (.m r)≠ .junk->Xw W0.gh w s F a r p v U->Xw W0.gh w s' F' a r p v U:=by
  intro r p v U z hv;have g:=hk (.m r);unfold Xw at hv⊢;split at hv
  ·rename_i T f x V;rw[V]at g;generalize W:s'.get (.m r)=t at g z;cases g with
   |junk=>simp_all
   |val C=>exact hv
  ·rename_i e T f x V;rw[V]at g;have:=D z;generalize W:s'.get (.m r)=t at g z;cases g with
   |junk=>simp_all
   |box C=>
    simp_all
  ·exact hv.elim
 refine⟨F',{h with fix:=λp hp=>⟨hl p hp,(h.fix p hp).2⟩,own:=λk b O=>h.own k b (I k b O),nodup:=λk=>?_,disj:=λk k' b O Y=>h.disj k k' b (I k b O) (I k' b Y),hdisj:=λk b O=>h.hdisj k b (I k b O),comps:=λd i z=>?_,slots:=λk=>?_}⟩
 ·simp only[F'];split
  ·simp
  ·exact h.nodup k
 ·refine⟨hc d i z,(h.comps d i λZ=>?_).2⟩;have:=hk (.c d i);rw[Z]at this;generalize W:s'.get (.c d i)=t at this z;cases this;exact z rfl
 ·have C:=h.slots k;have M:=hk k;by_cases z:s'.get k=.junk
  ·rw[z];simp only[F',z,if_true];rfl
  ·rw[D z];generalize aa:s'.get k=t' at M z;generalize W:s.get k=t at M C;cases M with
   |junk=>simp_all
   |tup=>exact C
   |val A=>obtain⟨vs,B,E⟩:=C;exact⟨vs,B,Qwz A E⟩
   |box A=>obtain⟨b,c,J,B,E,K,h4⟩:=C;exact⟨b,c,J,B,E,K,Qwz A h4⟩
   |shp=>exact C
   | @ptr r p o=>
    obtain⟨e',T',g',x',o⟩:=o;obtain⟨G,e,T,f,x,b,J,B,E,K⟩:=C;have g:=hk (.m r);rw[B,o]at g;have:=D (k:=.m r) (by rw[o];simp);cases g with
    |box A=>exact⟨G,_,_,_,_,b,J,o,by simp_all,K⟩
   | @aep r p i o=>
    obtain⟨e',T',g',x',o⟩:=o;obtain⟨G,e,T,f,x,b,J,nn,t2,y,B,E,K⟩:=C;have g:=hk (.m r);rw[B,o]at g;have:=D (k:=.m r) (by rw[o];simp);cases g with
    |box A=>exact⟨G,_,_,_,_,b,J,nn,t2,y,o,by simp_all,K⟩
   | @pls hh l o=>
    obtain⟨G,P,us,B,E,K,h4,h5⟩:=C;refine⟨G,P,us,B,E,K,λj q Q=>?_,h5⟩;obtain⟨u,hu,e,T,f,x,b,J,g1,g2,g3⟩:=h4 j q Q;obtain⟨e',T',g',x',o⟩:=o q (List.mem_of_getElem? Q);have g:=hk (.m q.1);rw[g1,o]at g;have:=D (k:=.m q.1) (by rw[o];simp);cases g with
    |box A=>exact⟨u,hu,_,_,_,_,b,J,o,by simp_all,g3⟩
   |bor S o=>
    obtain⟨G,B⟩:=C;obtain⟨U,B⟩:=B S;exact⟨G,λ_=>⟨U,L o B⟩⟩
   |elp S o=>
    obtain⟨G,B⟩:=C;obtain⟨e,t,P,m,N,B,E⟩:=B S;exact⟨G,λ_=>⟨e,t,P,m,N,L o B,E⟩⟩
   |bel S Z o=>
    obtain⟨G,B⟩:=C;obtain⟨e,t,P,m,N,x0,y,cs,B,k1,k2,k3,E⟩:=B S Z;exact⟨G,λ_ _=>⟨e,t,P,m,N,x0,y,cs,L o B,k1,k2,by simp_all,E⟩⟩
   | @cl f l o=>
    obtain⟨G,us,B,E,K⟩:=C;refine⟨G,us,B,E,λj q Q=>?_⟩;obtain⟨u,hu,e,T,f,x,b,J,g1,g2,g3⟩:=K j q Q;obtain⟨e',T',g',x',o⟩:=o q (List.mem_of_getElem? Q);have g:=hk (.m q);rw[g1,o]at g;have:=D (k:=.m q) (by rw[o];simp);cases g with
    |box A=>exact⟨u,hu,_,_,_,_,b,J,o,by simp_all,g3⟩
def Qch(s:St):Tm->Tm
 |.bor r p=>match s.bad r p with|true=>.junk|false=>.bor r p
 |.elp r p i q=>match s.bad r p with|true=>.junk|false=>.elp r p i q
 |.bel r p i q=>match s.bad r p||s.foul (Zo6 r)with|true=>.junk|false=>.bel r p i q
 |.gd _ _ _=>.junk
 |t=>t
def Qs1(s:St):List (Key×Tm)->List (Key×Tm)|[]=>[]|(k,t)::r=>(k,Qch s t)::Qs1 s r
def Qev(s:St):St:={env:=Qs1 s s.env,dirty:=[],lent:=s.lent}
theorem Qng(s:St)(k:Key):∀l,Zka (Qs1 s l) k=Qch s (Zka l k)
 |[]=>rfl
 |(j,t)::r=>by
  simp only[Qs1,Z7,Qng s k r];split<;>rfl
theorem R.clean(h:R n W0 w X F H s a):∃F',R n W0 w X F' H (Qev s) a:=by
 have A:∀k,(Go.Am.Qev s).get k=Qch s (s.get k):=λk=>Qng s k s.env;have c:∀{r p v U},Xw W0.gh w s F a r p v U->(Go.Am.Qev s).get (.m r)≠ .junk:=by
  grind[Xw,Qch]
 refine h.weak (λk=>?_) (λd i z=>?_) (λp K=>(h.fix p K).1)
 ·rw[A];have g:=h.slots k;cases ht:s.get k with
  |junk=>exact .junk _
  |tup=>exact .tup
  |val=>exact .val (.inl rfl)
  |box=>exact .box (.inl rfl)
  |shp=>exact .shp
  |ptr r p=>
   rw[ht]at g;obtain⟨C,e,T,f,x,b,D,o,E,B⟩:=g;exact .ptr ⟨e,T,f,x,by rw[A,o];rfl⟩
  |aep r p i=>
   rw[ht]at g;obtain⟨C,e,T,f,x,b,D,n,S,y,o,E,B⟩:=g;exact .aep ⟨e,T,f,x,by rw[A,o];rfl⟩
  |pls V l=>
   rw[ht]at g;obtain⟨C,W,L,o,E,B,M,Y⟩:=g;refine .pls λq G=>?_;obtain⟨j,I⟩:=List.getElem?_of_mem G;obtain⟨u,N,e,T,f,x,b,D,J,O,P⟩:=M j q I;exact⟨e,T,f,x,by rw[A,J];rfl⟩
  |bor r p=>
   rw[ht]at g;simp only[Qch];split
   ·exact .junk _
   ·rename_i t;obtain⟨U,o⟩:=g.2 t;exact .bor t (c o)
  |elp r p i q=>
   rw[ht]at g;simp only[Qch];split
   ·exact .junk _
   ·rename_i t;obtain⟨_,_,_,_,_,o,_⟩:=g.2 t;exact .elp t (c o)
  |bel r p i q=>
   rw[ht]at g;simp only[Qch];split
   ·exact .junk _
   ·rename_i t;simp only[Bool.or_eq_false_iff]at t;obtain⟨_,_,_,_,_,_,_,_,o,_⟩:=g.2 t.1 t.2;exact .bel t.1 t.2 (c o)
  |cl f l=>
   rw[ht]at g;obtain⟨C,L,o,E,B⟩:=g;refine .cl λq G=>?_;obtain⟨j,I⟩:=List.getElem?_of_mem G;obtain⟨u,N,e,T,f,x,b,D,J,O,P⟩:=B j q I;exact⟨e,T,f,x,by rw[A,J];rfl⟩
  |gd=>exact .junk _
 ·rw[A]at z⊢;have:=(h.comps d i λQ=>by rw[Q]at z;exact z rfl).1;rw[this];rfl
theorem Qm6(h:R n W0 w X F H s a)(ht:tg.ok W0.gh a){x:Operand}(ho:o.op=.assign x){r:Res}(hr:Z0i τ s tg o.type x=some r)(hm:r.moved=false):Zeb P τ W0 w X F s a o r:=by
 unfold Z0i at hr;have e:∀{k t u},op1 s tg x=.tm k t->Qhc s (.tm k t)=some u->u.moved=false->Zeb P τ W0 w X F s a o ⟨.val u.T u.f u.x,u.s,u.moved,none⟩:=by
  intro k t u hx g hm;rw[<-hx]at g;obtain⟨p,S,i,b,c,q,j,_⟩:=Z3c h ht g;obtain⟨l,y,m⟩:=j hm;subst m;exact Ku l λ_=>⟨_,λd _=>by simp[execOp,ho],i,b,c⟩
 split at hr
 ·rename_i v hv;obtain rfl:=Z23 hv;obtain⟨b,c⟩:=Z5i (w:=w) (X:=X) (B:=W0.B) (s:=s) (F:=F) (a:=a) hr;exact Ku b λ_=>⟨_,λd _=>by simp[execOp,ho,Act.eval],c⟩
 ·rename_i f hv;obtain rfl:=Qt4 hv;simp only[Osi]at hr;subst hr;exact Ku rfl λ_=>⟨_,λd _=>by simp[execOp,ho,Act.eval],Qux f⟩
 ·rename_i k t hx;split at hr
  ·grind
  ·grind
  ·obtain⟨b,c⟩:=Zxm h ht hx hr;exact Ku b λ_=>⟨_,λd _=>by simp[execOp,ho],c⟩
 ·cases hr
def Qmk(C:Cfg)(s:St)(tg:Ye)(o:Oper):Option Res:=
 match o.op with
 |.move x=>Z5z C.τ s tg o.type x
 |.assign x=>match Z0i C.τ s tg o.type x with
  |some r=>match r.moved with|false=>some r|true=>none
  |none=>none
 |.pick c x y=>Qmi C.τ s tg o.type c x y
 |.load e x=>Qmf C.τ s tg e x
 |.binOp op e x y e2=>match C.τ e with
  |some (.pair _ _)|some (.arr _ _)=>Q01 C s tg op e x y
  |_=>Qsw C.τ s tg op e x y e2
 |.unOp op e x=>Q2r C.τ s tg op e x
 |.convert e e2 x=>Ql6 C.τ s tg e e2 x
 |.nilCheck x=>Z2p s tg x
 |.fieldAddr e x i=>Qe2 C.τ s tg e x i
 |.indexAddr e x i=>Zz6 C.τ s tg e x i
 |.index e x i=>Qfe C.τ s tg e x i
 |.call {callee:=.builtin .len,args:=⟨[x]⟩,argTypes:=⟨[e]⟩}=>Qtu C.τ s tg e x
 |.call {callee:=.builtin .min,args:=⟨[x,y]⟩,argTypes:=⟨[e,_]⟩}=>Qh9 s tg e C.τ x y false
 |.call {callee:=.builtin .max,args:=⟨[x,y]⟩,argTypes:=⟨[e,_]⟩}=>Qh9 s tg e C.τ x y true
 |_=>none
theorem Zxz(h:R n W0 w X F H s a)(ht:tg.ok W0.gh a)(hC:C.ok P g){r:Res}(hr:Qmk C s tg o=some r):Zeb P C.τ W0 w X F s a o r:=by
 unfold Qmk at hr;split at hr
 ·grind[Z3q]
 ·grind[Qm6]
 ·grind[Qb5]
 ·rename_i b;exact Qb1 h ht hC.τ b hr
 ·rename_i b;split at hr
  ·grind[Z2f]
  ·grind[Z2f]
  ·exact Qep h ht hC.τ b hr
 ·grind[Qk1]
 ·rename_i b;exact Qbo h ht hC.τ b hr
 ·grind[Z2q]
 ·rename_i b;exact Z70 h ht hC.τ b hr
 ·rename_i b;exact Z0v h ht hC.τ b hr
 ·rename_i b;exact Z78 h ht hC.τ b hr
 ·rename_i b;exact Qfl h ht hC.τ b hr
 ·rename_i b;exact Zz9 h ht (mx:=false) b hr
 ·rename_i b;exact Zz9 h ht (mx:=true) b hr
 ·cases hr
noncomputable def Qjt{ρ:Type}(C:Cfg)(n:Nat)(ops:Array Oper)(o:Oper)(s:St)(k:St->Option ρ):Option ρ:=
 match o.guard with
 |none=>match Qmk C s [] o,o.dst with
  |some r,some d=>match Wn s d&&Nat.blt d n with
   |true=>Qob r.obl (k (Jd s d r.t))
   |false=>none
  |_,_=>none
 |some (j,b)=>match(ops[j]?).bind (·.dst),o.dst with
  |some g,some d=>match Qet s 8 g b,Wn s d&&Nat.blt d n&&Nat.blt g 1048576 with
   |some tg,true=>match Qmk C s tg o with
    |some r=>Qut s tg r.obl (k (Jd s d (.gd g b r.t)))
    |none=>none
   |_,_=>none
  |_,_=>none
variable {ops:Array Oper}
def QF:Exit->Act->World->Prop:=λ_ _ _=>False
theorem Xjk{o:Oper}{a:Act}{w:World}{K:Act->World->Prop}{Q:Exit->Act->World->Prop}(h:o.wp P a w K QF):o.wp P a w K Q:=by
 unfold Oper.wp at*
 generalize (execOp a.eval o).run P w=r at*
 cases r with
 |ok n d=>
  cases n<;>simp only[Oper.upon]at h⊢ <;>first
   |exact h
   |(
    refine Calls.mono h λe f b=>?_;cases e with
    |returned v=>exact b
    |panicked c=>exact b.elim
    |outgrown=>obtain⟨_,_,h⟩:=b;exact h.elim)
 |halt x d=>cases x<;>simp only[Oper.upon]at h⊢ <;>exact h.elim
def Zp2(P:Program)(ops:Array Oper)(I:World->Prop)(o:Oper)(v:Value)(a:Act):Prop:=(Region.wanted o (yielded ops a.tmps)=true/\ ∀w,I w->(execOp a.eval o).run P w=.ok (.value v) w)\/(Region.wanted o (yielded ops a.tmps)=false/\v=undef)
theorem Zp2.same{I:World->Prop}{o:Oper}{v:Value}{a a':Act}(hy:Zp2 P ops I o v a)(he:execOp a'.eval o=execOp a.eval o)
  (hw:Region.wanted o (yielded ops a'.tmps)=Region.wanted o (yielded ops a.tmps)):Zp2 P ops I o v a':=by
 simp_all[Zp2]
theorem Zp2.go{I:World->Prop}{o:Oper}{v:Value}{a:Act}{w:World}{i:Nat}(hi:ops[i]? =some o)(hy:Zp2 P ops I o v a)(hI:I w){K:Act->World->Prop}(h:K (a.put o.dst v) w):
  wpOp P ops QF i K a w:=by
 unfold wpOp;simp only[hi];rcases hy with⟨b,hv⟩|⟨b,rfl⟩
 all_goals simp_all[if_true,Oper.wp,Oper.upon,Bool.false_eq_true,if_false]
theorem Qwi{I:World->Prop}{j:Nat}{oi oj:Oper}{v:Value}(hj:ops[j]? =some oj)(hap:oi.apart ops oj=true)(hsi:∀cs b,oi.op≠ .select cs b)(hsj:∀cs b,oj.op≠ .select cs b)
  {K:Act->World->Prop}{a:Act}{w:World} (hy:Zp2 P ops I oi v a) (h:wpOp P ops QF j K (a.put oi.dst v) w):
  wpOp P ops QF j (λa' w'=>Zp2 P ops I oi v a'/\K (a'.put oi.dst v) w') a w:=by
 obtain⟨i,p,k⟩:=Oper.apart_spec hap;have g:∀a:Act,Zp2 P ops I oi v a-> ∀u,Zp2 P ops I oi v (a.put oj.dst u):=λa hy u=>hy.same (execOp_put oi hsi a oj.dst u k) (wanted_put oi a oj.dst u k);unfold wpOp at*
 simp only[hj]at*
 rw[wanted_put oj a oi.dst v i]at h;split
 ·rename_i m;simp only[m,if_true]at h;rcases h with h|⟨_,_,_,h⟩
  ·refine .inl ?_;unfold Oper.wp at*
   rw[execOp_put oj hsj a oi.dst v i]at h;generalize (execOp a.eval oj).run P w=r at*
   cases r with
   |ok n w'=>
    cases n<;>simp only[Oper.upon]at h⊢
    case value u=>grind[Act.put_comm]
    case skip=>grind[Act.put_comm,undef]
    case defer d=>
     refine⟨g {a with defers:=d::a.defers} (hy.same rfl rfl) _,?_⟩
     grind[Act.put_comm,undef,Act.put_defers]
    case enter f args=>
     refine Calls.mono h λe o l=>?_;cases e with
     |returned u=>grind[Act.put_comm]
     |panicked c=>exact l.elim
     |outgrown=>exact l
    grind[Rows.mono,Act.put_comm]
   |halt x w'=>cases x<;>simp only[Oper.upon]at h⊢ <;>exact h.elim
  ·exact h.elim
 grind[Act.put_comm,undef]
def Xey(C:Cfg):Op->Bool
 |.call {callee:=.value fo,..}=>match fo with
  |.func f=>match C.ΓB.find f with|some _=>false|none=>true
  |_=>match C.ΓB with|[]=>true|_::_=>false
 |_=>true
def Qpc(C:Cfg)(op:Op):Bool:=Qzn op&&Xey C op
def Qd6(C:Cfg)(ops:Array Oper)(i:Nat):Bool:=match ops[i]? with|some o=>Qpc C o.op|none=>true
def Xdl(gh:Nat->Value)(bx:List Nat)(Sh:Nat->Prop)(a:Act)(w w':World):Prop:= ∀b,(Sh b\/ ∃r∈bx,Q2 gh a (.m r)=.pointer (some ⟨b,0,none⟩))->w'.heap[b]? =w.heap[b]?
structure Qhl(gh:Nat->Value)(pr:Nat->Bool)(bx:Nat->List Nat)(Sh:Nat->Prop)(i:Nat)(a:Act)(w w':World):Prop where
 pres:pr i=true->Old w w'
 hold:Xdl gh (bx i) Sh a w w'
def Q86(gh:Nat->Value)(ops:Array Oper)(i:Nat)(a a':Act):Prop:= ∀k,(ops[i]?).bind (·.dst)≠some k->Q2 gh a' (.m k)=Q2 gh a (.m k)
theorem Qpu{a:Act}{d:Option Nat}{v:Value}{k:Nat}(h:d≠some k):Q2 gh (a.put d v) (.m k)=Q2 gh a (.m k):=by
 cases d with
 |none=>rfl
 |some d=>grind[Zfw,Key.t]
theorem Q4v{K:Act->World->Prop}{i:Nat}{a:Act}{w:World}(h:wpOp P ops QF i K a w):wpOp P ops QF i (λa' w'=>Q86 gh ops i a a'/\K a' w') a w:=by
 unfold wpOp at*
 split
 ·rename_i b;simp only[b]at h;exact⟨λ_ _=>rfl,h⟩
 ·rename_i o b;have c:∀v,Q86 gh ops i a (a.put o.dst v):=λv k hk=>Qpu (by simp_all);simp only[b]at h;split
  ·rename_i e;simp only[e,if_true]at h;rcases h with h|⟨_,_,_,h⟩
   ·refine .inl ?_;unfold Oper.wp at*
    generalize (execOp a.eval o).run P w=r at*
    cases r with
    |ok n w'=>
     cases n<;>simp only[Oper.upon]at h⊢
     case value u=>simp_all
     case skip=>simp_all
     case defer d=>exact⟨λk hk=>(Qpu (a:={a with defers:=d::a.defers}) (d:=o.dst) (by simp_all)).trans rfl,h⟩
     all_goals simp_all
    |halt x w'=>cases x<;>simp only[Oper.upon]at h⊢ <;>exact h.elim
   ·exact h.elim
  simp_all
def Q9l(ops:Array Oper):Nat->Nat->Nat->Bool
 |0,_,_=>false
 |f+1,j,i=>match ops[j]? with
  |some o=>o.after.any λe=>Region.binds .any e&&(Nat.beq e.on i||Q9l ops f e.on i)
  |none=>false
def Qwh(ops:Array Oper)(j:Nat):Bool:=(List.range ops.size).all λi=>Nat.beq i j||Q9l ops ops.size j i
def Qmw(ops:Array Oper)(listed:Array Bool):Prop:= ∀(m:Nat)(o:Oper),ops[m]? =some o->listed.getD m false=true-> ∀e∈o.after,Region.binds .any e=true->listed.getD e.on false=true
theorem Qz0{listed:Array Bool}{i k:Nat}(h:listed.getD k false=true):(listed.setIfInBounds i true).getD k false=true:=by
 by_cases hk:i=k
 ·subst hk;have:i<listed.size:=by
   grind
  simp_all
 simp_all
theorem Qci{listed:Array Bool}(h:Qmw ops listed){i:Nat}(hi:i∈Region.ready .any ops listed):Qmw ops (listed.setIfInBounds i true):=by
 intro m o d b e f g;refine Qz0 ?_;obtain⟨_,k,j,c⟩:=mem_ready.1 hi;by_cases a:i=m
 ·simp_all
 ·rw[getD_set_ne false a]at b;exact h m o d b e f g
theorem Qkg{listed:Array Bool}(h:Qmw ops listed){i:Nat}:∀{f j:Nat},Q9l ops f j i=true->(∀o,ops[j]? =some o-> ∀e∈o.after,Region.binds .any e=true->listed.getD e.on false=true)->listed.getD i false=true
 |0,_,a,_=>by cases a
 |f+1,j,a,b=>by
  simp only[Q9l]at a;split at a
  ·rename_i o k;rw[Array.any_eq_true']at a;obtain⟨e,l,a⟩:=a;simp only[Oba,Bool.or_eq_true]at a;have m:=b o k e l a.1;rcases a.2 with hd2|hd2
   ·grind[Onb]
   ·exact Qkg h hd2 λn c p d g=>h e.on n c m p d g
  ·cases a
def Z6m(gh:Nat->Value)(P:Program)(ops:Array Oper)(Qn:Act->World->Prop)(pr:Nat->Bool)(bx:Nat->List Nat)(Sh:Nat->Prop):Nat->Array Bool->Act->World->Prop|0,listed,a,w=>Region.ready .any ops listed=[]/\Qn a w|fuel+1,listed,a,w=>(Region.ready .any ops listed=[]->Qn a w)/\ ∀i∈Region.ready .any ops listed,wpOp P ops QF i (λa' w'=>(Qwh ops i=true\/Qhl gh pr bx Sh i a w w')/\Z6m gh P ops Qn pr bx Sh fuel (listed.setIfInBounds i true) a' w') a w
theorem Qk2{Qn:Act->World->Prop}{pr:Nat->Bool}{bx:Nat->List Nat}{Sh Sh':Nat->Prop}(hs:∀b,Sh b->Sh' b):∀(fuel:Nat)(listed:Array Bool)(a:Act)(w:World),Z6m gh P ops Qn pr bx Sh' fuel listed a w->Z6m gh P ops Qn pr bx Sh fuel listed a w
 |0,_,_,_,h=>h
 |fuel+1,_,_,_,h=>⟨h.1,λi d=>wpOp_mono (λe f ⟨c,g⟩=>⟨c.imp id λc=>⟨c.pres,λb j=>c.hold b (j.imp (hs b) id)⟩,Qk2 hs fuel _ e f g⟩) (h.2 i d)⟩
theorem Qp7{Qn:Act->World->Prop}{pr:Nat->Bool}{bx:Nat->List Nat}{Sh:Nat->Prop}{Q:Exit->Act->World->Prop}(hq:∀a w,Qn a w->Q .normal a w):∀(fuel:Nat)(listed:Array Bool)(a:Act)(w:World),Z6m gh P ops Qn pr bx Sh fuel listed a w->wpAny P .any ops Q fuel listed a w
 |0,_,_,_,h=>⟨h.1,hq _ _ h.2⟩
 |fuel+1,listed,a,w,h=>⟨λc=>hq _ _ (h.1 c),λi d=>by
  have e:=h.2 i d;have b:wpOp P ops QF i (wpAny P .any ops Q fuel (listed.setIfInBounds i true)) a w:=wpOp_mono (λf g h=>Qp7 hq fuel _ f g h.2) e;unfold wpOp at b⊢;split
  ·simp_all
  ·rename_i o j;simp only[j]at b;split
   ·rename_i k;simp only[k,if_true]at b;rcases b with b|⟨_,_,_,b⟩
    ·simp_all[Xjk]
    ·exact b.elim
   simp_all⟩
theorem Qhk{I:World->Prop}{J:Act->Prop}{pr:Nat->Bool}{bx:Nat->List Nat}{Sh:Nat->Prop}{i:Nat}{oi:Oper}{v:Value}{Qn:Act->World->Prop}(hi:ops[i]? =some oi)(hsel:∀(j:Nat)(o:Oper) cs b,ops[j]? =some o->o.op≠ .select cs b)
  (hdi:∀j,∀r∈bx j,oi.dst≠some r):
  ∀(fuel:Nat)(listed:Array Bool)(a:Act)(w:World),Qmw ops listed->I w->J a->
   (∀j oj,ops[j]? =some oj->j≠i->listed.getD j true=false->(∀e∈oj.after,Region.binds .any e=true->e.on≠i)->oi.apart ops oj=true/\ ∀a a' w w',J a->I w->Qhl gh pr bx Sh j a w w'->Q86 gh ops j a a'->I w'/\J a')->
   i∈Region.ready .any ops listed->Zp2 P ops I oi v a->
   Z6m gh P ops Qn pr bx Sh fuel (listed.setIfInBounds i true) (a.put oi.dst v) w->Z6m gh P ops Qn pr bx Sh (fuel+1) listed a w
 |0,_,_,w,_,z,q,c,M,A,H=>by
  refine⟨λh=>(by simp_all),λj s=>?_⟩;by_cases d:j=i
  ·subst d;exact A.go hi z ⟨.inr ⟨λ_=>Old.refl w,λ_ _=>rfl⟩,H⟩
  ·have:=ready_mono s d;rw[H.1]at this;cases this
 |fuel+1,listed,a,w,B,z,q,c,M,A,H=>by
  refine⟨λh=>(by simp_all),λj s=>?_⟩;by_cases d:j=i
  ·subst d;exact A.go hi z ⟨.inr ⟨λ_=>Old.refl w,λ_ _=>rfl⟩,H⟩
  ·have C:=H.2 j (ready_mono s d);obtain⟨t,oj,m,N⟩:=mem_ready.1 s;have u:∀e∈oj.after,Region.binds .any e=true->e.on≠i:=λe he O V=>by
    grind[mem_ready,Nat.lt_or_ge,Array.getElem?_eq_none]
   obtain⟨x,n⟩:=c j oj m d t u;obtain⟨Q,S,_⟩:=Oper.apart_spec x;have U:=Qwi m x (λcs b=>hsel i oi cs b hi) (λcs b=>hsel j oj cs b m) A C;have f:∀k y,ops[k]? =some y->k≠i->(listed.setIfInBounds j true).getD k true=false->(∀e∈y.after,Region.binds .any e=true->e.on≠i)->
     oi.apart ops y=true/\ ∀a a' w w',J a->I w->Qhl gh pr bx Sh k a w w'->Q86 gh ops k a a'->I w'/\J a':=λk y hk D W E=>by
    refine c k y hk D ?_ E;by_cases X:j=k
    ·simp_all
    simp_all
   refine wpOp_mono (λa' w' ⟨p,F,g,Y⟩=>?_) (Q4v (gh:=gh) U);have g:=g.resolve_left λG=>by
    unfold Qwh at G;rw[List.all_eq_true]at G;have Z:=G i (List.mem_range.2 (Array.getElem?_eq_some_iff.1 hi).1);simp only[Bool.or_eq_true]at Z
    grind[Onb,Qkg,mem_ready,Nat.lt_or_ge,Array.getD_eq_getD_getElem?,Array.getElem?_eq_none]
   have l:Qhl gh pr bx Sh j a w w':=⟨g.pres,λb O=>g.hold b (O.imp id λ⟨r,C,U⟩=>⟨r,C,by grind[Qpu]⟩)⟩
   obtain⟨K,L⟩:=n a a' w w' q z l p;refine⟨.inr l,Qhk hi hsel hdi fuel (listed.setIfInBounds j true) a' w' (Qci B s) K L f (ready_mono M (Ne.symm d)) F ?_⟩
   grind[Array.setIfInBounds_comm]
theorem Old.trans{a b c:World}(h:Old a b)(k:Old b c):Old a c:=λi d=>by
 have e:i<b.heap.size:=by
  have:=h i d
  grind
 rw[k i e,h i d]
def Q6l(C:Cfg)(ops:Array Oper)(listed:Array Bool)(any:Nat->Bool)(i:Nat):Bool:=
 (List.range ops.size).all λj=>Nat.beq j i||listed.getD j true||(match ops[i]?,ops[j]? with
  |some oi,some oj=>(oj.after.any λe=>Region.binds .any e&&Nat.beq e.on i)||(oi.apart ops oj&&(any j||Qpc C oj.op))
  |_,_=>false)
theorem Qyj{C:Cfg}{listed:Array Bool}{any:Nat->Bool}{i j:Nat}{oi oj:Oper}(h:Q6l C ops listed any i=true)(hi:ops[i]? =some oi)(hj:ops[j]? =some oj)(hne:j≠i)(hl:listed.getD j true=false)
  (hno:∀e∈oj.after,Region.binds .any e=true->e.on≠i):oi.apart ops oj=true/\(any j=true\/Qpc C oj.op=true):=by
 unfold Q6l at h;rw[List.all_eq_true]at h;have:=h j (List.mem_range.2 (Array.getElem?_eq_some_iff.1 hj).1);simp only[hi,hj,hl,Bool.or_false,Bool.or_eq_true,Oba]at this;rcases this with h1|h1|h1
 ·simp_all
 ·rw[Array.any_eq_true']at h1;obtain⟨e,b,a⟩:=h1;simp only[Oba]at a
  grind[absurd,Onb]
 omega
def Xe9(ops:Array Oper)(i:Nat):Bool:=
 match ops[i]? with
 |some o=>match o.op with
  |.move _|.assign _|.pick .. |.load .. |.binOp .. |.unOp .. |.convert .. |.nilCheck .. |.fieldAddr .. |.indexAddr .. |.index .. =>true
  |.call {callee:=.builtin .len,..}|.call {callee:=.builtin .min,..}|.call {callee:=.builtin .max,..}=>true
  |_=>false
 |none=>false
def Q2q(s:St)(o:Oper):Bool:=(match o.guard with|none=>true|some _=>false)&&(match o.op with
 |.move (.tmp q)=>match s.get (.m q)with
  |.tup=>true
  |_=>false
 |.extract _ _=>true
 |_=>false)
def Xjg(s:St)(ops:Array Oper)(i:Nat):Bool:=match ops[i]? with|some o=>Q2q s o|none=>false
def Xh1(s:St)(ops:Array Oper)(i:Nat):Bool:=
 match ops[i]? with
 |some o=>match o.op with
  |.move (.tmp q)=>match s.get (.m q)with
   |.tup=>false
   |_=>true
  |_=>true
 |none=>false
def Xcc(τ:Tab)(bx:List Nat)(s:St)(o:Oper):Bool:=match Q7e τ o.op with
 |false=>true
 |true=>match Z14 s o.op with
  |some (some r)=>bx.any (Nat.beq r)
  |some none=>true
  |none=>false
def Qh4(s:St)(r:Nat):Bool:=match s.get (.m r)with|.box _ _ _ _=>true|_=>false
theorem Z8b{s:St}{r:Nat}(h:Qh4 s r=true):s.isBox r:=by
 unfold Qh4 at h;split at h
 ·rename_i e T f x a;exact⟨e,T,f,x,a⟩
 ·cases h
def Xdq(τ:Tab)(s:St)(bx:List Nat)(o:Oper):Bool:=bx.all λr=>Qh4 s r&&(match Ql1 τ s o with|some q=> !(Nat.beq q r)|none=>true)
def Qcb(ops:Array Oper):Nat->Nat->Nat
 |0,k=>k
 |f+1,k=>match ops.toList.find? (λo=>match o.dst with|some d=>Nat.beq d k|none=>false)with
  |some o=>match o.op with
   |.fieldAddr _ (.tmp j) _=>Qcb ops f j
   |.indexAddr _ (.tmp j) _=>Qcb ops f j
   |.move (.tmp j)=>Qcb ops f j
   |.nilCheck (.tmp j)=>Qcb ops f j
   |.call {callee:=.value _,args:=xs,..}=>match xs.toList with|.tmp j::_=>Qcb ops f j|_=>k
   |_=>k
  |none=>k
def Q5g(s:St)(ops:Array Oper):List Nat:=
 let bs:=s.env.filterMap λp=>match p.1,p.2 with
  |.m r,.box _ _ _ _=>if Qh4 s r then some r else none
  |_,_=>none
 bs.filter λr=>ops.toList.all λo=>match o.dst with|some d=> !(Nat.beq d r)|none=>true
def Xdh(s:St)(ops:Array Oper)(k:Nat):Nat:=match s.get (.m (Qcb ops ops.size k))with|.ptr r _=>r|.aep r _ _=>r|_=>Qcb ops ops.size k
def Xfq(s:St)(ops:Array Oper)(o:Oper):List Nat:=match o.op with
 |.store _ (.tmp k) _=>[Xdh s ops k]
 |.call {callee:=.value _,args:=xs,..}=>xs.toList.filterMap λx=>match x with|.tmp k=>some (Xdh s ops k)|_=>none
 |_=>[]
def Xdr(s:St)(ops:Array Oper)(j:Nat):List Nat:=
 match ops[j]? with
 |some o=>(Q5g s ops).filter λr=> !((Xfq s ops o).any (Nat.beq r))
 |none=>[]
theorem Q5h{s:St}{ops:Array Oper}{i r j:Nat}{o:Oper}(hr:r∈Xdr s ops i)(ho:ops[j]? =some o):o.dst≠some r:=by
 unfold Xdr at hr;have hr:r∈Q5g s ops:=by
  grind
 unfold Q5g at hr;have:=(List.mem_filter.1 hr).2;rw[List.all_eq_true]at this;have:=this o (by grind);intro e;simp_all
noncomputable def Zfs{ρ:Type}(m1 m2:Option ρ):Option ρ:=by
 classical exact if m1=m2 then m1 else none
theorem Qx3{ρ:Type}{m1 m2:Option ρ}{r:ρ}(h:Zfs m1 m2=some r):m1=some r/\m2=some r:=by
 grind[Zfs]
theorem Kt{ρ:Type}(m:Option ρ):Zfs m m=m:=by
 unfold Zfs;rw[if_pos rfl]
noncomputable def Q89{ρ:Type}:List (Option ρ)->Option ρ|[]=>none|[m]=>m|m::n::r=>Zfs m (Q89 (n::r))
theorem Qq1{ρ:Type}:∀{l:List (Option ρ)}{r:ρ},Q89 l=some r-> ∀m∈l,m=some r
 |[],r,h,m,hm=>by cases hm
 |[m],r,h,a,hm=>by simp only[List.mem_singleton]at hm;subst hm;exact h
 |m::n::q,r,h,a,hm=>by
  simp only[Q89]at h;obtain⟨b,c⟩:=Qx3 h;rcases List.mem_cons.1 hm with rfl|hm
  ·exact b
  ·exact Qq1 c a hm
def Q0m(C:Cfg)(s:St)(o:Oper):Option (FuncId×Array Operand):=
 match C.soft,o.guard,o.op with
 |false,none,.call {callee:=.value fo,args:=xs,..}=>match Qqg s [] fo with
  |some f=>match C.ΓB.find f with
   |some _=>some (f,xs)
   |none=>none
  |none=>none
 |_,_,_=>none
def Xe0:Tm->Bool|.val .. |.ptr .. |.shp .. =>true|_=>false
def Qjw(g:Nat)(b:Bool):List Operand->St->St
 |[],s=>s
 |.tmp k::xs,s=>match s.get (.m k)with
  |.gd g' b' t=>match Nat.beq g' g,b'==b,s.foul g,Xe0 t with
   |true,true,false,true=>Qjw g b xs (Zzj s k t)
   |_,_,_,_=>Qjw g b xs s
  |_=>Qjw g b xs s
 |_::xs,s=>Qjw g b xs s
def Xkx:RS->Option Ty|.vals [t]=>some t|.shr [t]=>some t|.flg [t]=>some t.1|_=>none
def gdB(C:Cfg)(s:St)(ops:Array Oper)(o:Oper):Option (Nat×Bool×Nat×FuncId×Array Operand):=
 match C.soft,o.guard,o.dst,o.op with
 |false,some (j,b),some d,.call {callee:=.value fo,args:=xs,..}=>match(ops[j]?).bind (·.dst),Qqg s [] fo with
  |some g,some f=>match C.ΓB.find f with
   |some _=>some (g,b,d,f,xs)
   |none=>none
  |_,_=>none
 |_,_,_,_=>none
noncomputable def Q98{ρ:Type}(C:Cfg)(n:Nat)(o:Oper)(s:St)(g:Nat)(b:Bool)(d:Nat)(f:FuncId)(xs:Array Operand)(k:St->Option ρ):Option ρ:=
 match Zbw s (op1 s [] (.tmp g)) .bool,s.foul g,((C.ΓB.find f).bind λe=>Xkx e.res),Wn s d&&Nat.blt d n with
 |some c,false,some T,true=>match b with
  |true=>bif c then Qnb C.ΓB n (Qjw g b xs.toList s) o.dst f xs.toList k else k (Jd s d (.gd g b (.val T (.u true) (zero T))))
  |false=>bif c then k (Jd s d (.gd g b (.val T (.u true) (zero T))))else Qnb C.ΓB n (Qjw g b xs.toList s) o.dst f xs.toList k
 |_,_,_,_=>none
noncomputable def Qxl{ρ:Type}(C:Cfg)(n:Nat)(ops:Array Oper)(bx:List Nat)(o:Oper)(s:St)(k:St->Option ρ):Option ρ:=
 match gdB C s ops o with
 |some (g,b,d,f,xs)=>match bx.all λr=>Qh4 s r&& !((Qjl C.ΓB (Qjw g b xs.toList s) f xs.toList).any (Nat.beq r))with
  |true=>Q98 C n o s g b d f xs k
  |false=>none
 |none=>match Q0m C s o with
 |some (f,xs)=>match bx.all λr=>Qh4 s r&& !((Qjl C.ΓB s f xs.toList).any (Nat.beq r))with
  |true=>Qnb C.ΓB n s o.dst f xs.toList k
  |false=>none
 |none=>match Xdq C.τ s bx o with
  |true=>Zoe C n ops o s k
  |false=>none
def Q1f(C:Cfg)(s:St)(o:Oper):Option (Zvd×List Tm):=
 match o.guard,o.op with
 |none,.call {callee:=.value fo,args:=xs,argTypes:=ats}=>match op1 s [] fo with
  |.tm _ (.cl f l)=>match C.inl.find f,Qm5 C.τ s xs.toList ats.toList with
   |some E,some ts=>some (E,ts++l.map λq=>.ptr q [])
   |_,_=>none
  |_=>match Qqg s [] fo with
   |some f=>match C.inl.find f,Qm5 C.τ s xs.toList ats.toList with
    |some E,some ts=>some (E,ts)
    |_,_=>none
   |none=>none
 |_,_=>none
noncomputable def Z3w{ρ:Type}(C:Cfg)(n:Nat)(ops:Array Oper)(bx:Nat->List Nat):Nat->Array Bool->St->(St->Option ρ)->Option ρ
 |0,listed,s,k=>match Region.ready .any ops listed with
  |[]=>k (Qev s)
  |_::_=>none
 |f+1,listed,s,k=>match Region.ready .any ops listed with
  |[]=>k (Qev s)
  |[i]=>match ops[i]? with
   |some o=>match Q1f C s o,Region.ready .any ops (listed.setIfInBounds i true),Qwh ops i with
    |some (E,ts),[],true=>Xag C.τ n s o.dst E ts λs'=>k (Qev s')
    |_,_,_=>Qxl C n ops (bx i) o s λs'=>Z3w C n ops bx f (listed.setIfInBounds i true) s' k
   |none=>none
  |i::j::rs=>match(i::j::rs).find? (λi=>((Xe9 ops i&&Xh1 s ops i)||Xjg s ops i)&&(match ops[i]? with|some o=>Q6l C ops listed (λj=>Xcc C.τ (bx j) s o) i|none=>false))with
   |some i=>match ops[i]? with
    |some o=>match Q2q s o with
     |true=>Zoe C n ops o s λs'=>Z3w C n ops bx f (listed.setIfInBounds i true) s' k
     |false=>Qjt C n ops o s λs'=>Z3w C n ops bx f (listed.setIfInBounds i true) s' k
    |none=>none
   |none=>Q89 ((i::j::rs).map λi=>match ops[i]? with
    |some o=>Qxl C n ops (bx i) o s λs'=>Z3w C n ops bx f (listed.setIfInBounds i true) s' k
    |none=>none)
theorem Qkl(hC:C.ok P g)(h:R n W0 w X F H s a){E:Zvd}{ts:List Tm}(hi:Q1f C s o=some (E,ts)):
  o.guard=none/\Zay P g E/\ ∃vs:List Value,ts.length=vs.length/\(∀(i:Nat) t,ts[i]? =some t-> ∃v,vs[i]? =some v/\vt W0.gh w X W0.B s F a v [] t)/\(execOp a.eval o).run P w=.ok (.enter E.f vs.toArray) w:=by
 unfold Q1f at hi;split at hi
 ·rename_i M e z r N;split at hi
  ·rename_i k f l hx;split at hi
   ·rename_i j d m c;simp only[Osi,Opi]at hi;obtain⟨rfl,rfl⟩:=hi;obtain⟨rfl,b⟩:=Qad.find_ok hC.inl m;obtain⟨_,_,x,O,A,D⟩:=Jx h Zag hx (by simp);obtain⟨p,y⟩:=Z7l h c;refine⟨r,b,e.toList.map a.eval++x,by simp[p,A],λi t hi=>?_,?_⟩
    ·rcases Nat.lt_or_ge i d.length with G|hge
     ·grind
     ·rw[List.getElem?_append_right hge]at hi;simp only[List.getElem?_map,Option.map_eq_some_iff]at hi;obtain⟨q,I,rfl⟩:=hi;obtain⟨u,Q,J⟩:=D _ q I;exact⟨u,by grind,rfl,J⟩
    ·have:execOp a.eval o=callFunc j.f (e.map a.eval++x.toArray):=by
      simp_all[execOp,resolve,Deferred.ofValue,invoke]
     rw[this,b.enters];simp_all
   ·cases hi
  ·split at hi
   ·rename_i f K;split at hi
    ·rename_i j d m c;simp only[Osi,Opi]at hi;obtain⟨rfl,rfl⟩:=hi;obtain⟨rfl,b⟩:=Qad.find_ok hC.inl m;have L:=Zog h Zag K;obtain⟨p,y⟩:=Z7l h c;refine⟨r,b,e.toList.map a.eval,by simp[p],y,?_⟩;have:execOp a.eval o=callFunc j.f (e.map a.eval):=by
      simp_all[execOp,resolve,Deferred.ofValue,invoke]
     rw[this,b.enters];congr 2
     grind
    ·cases hi
   ·cases hi
 ·cases hi
theorem Qqw{ρ:Type}(hC:C.ok P g)(h:R n W0 w X F [] s a){k:St->Option ρ}{r:ρ}(hs:Qjt C n ops o s k=some r):
  ∃v F' s',k s'=some r/\R n W0 w X F' [] s' (a.put o.dst v)/\Zp2 P ops (Dep W0.gh C.τ X s a o w) o v a:=by
 unfold Qjt at hs;split at hs
 ·rename_i t;split at hs
  ·rename_i E d hv q;split at hs
   ·rename_i hdn;simp only[Oba,Nat.blt_eq]at hdn;rw[Z2g]at hs;obtain⟨_,u⟩:=Zxz h Zag hC hv;obtain⟨v,x,y⟩:=u hs.1;refine⟨v,Xb F (.m d) [],_,hs.2,?_,.inl ⟨by simp[Region.wanted,t],x⟩⟩;rw[q];exact(by simpa using h:R n W0 w X F ([]++[]) s a).put hdn.1 hdn.2 y
   ·cases hs
  ·cases hs
 ·rename_i j b t;split at hs
  ·rename_i g d G q;split at hs
   ·rename_i H e hdn;have f:Nat.blt g 1048576=true:=by simp_all
    simp only[Oba,Nat.blt_eq]at hdn
    replace hdn:=hdn.1
    have i:=Qhr e;split at hs
    ·rename_i E hv;obtain⟨hk,z⟩:=Z6k h hs;by_cases l:Q2 W0.gh a (.m g)=.bool b
     ·have B:=Zya h e l;have D:g<a.tmps.size:=by
       have c:a.tmps.getD g undef=.bool b:=(Yr W0 a f).symm.trans l;rcases Nat.lt_or_ge g a.tmps.size with h'|h'
       ·exact h'
       ·rw[Array.getD_eq_getD_getElem?,Array.getElem?_eq_none h']at c;cases c
      have p:Region.wanted o (yielded ops a.tmps)=true:=by
       have c:a.tmps[g]? =some (.bool b):=by
        have c:a.tmps.getD g undef=.bool b:=(Yr W0 a f).symm.trans l;simp_all
       simp_all[Region.wanted,yielded]
      obtain⟨_,u⟩:=Zxz h B hC hv;obtain⟨v,x,y⟩:=u (z B);refine⟨v,Xb F (.m d) [],_,hk,?_,.inl ⟨p,x⟩⟩;rw[q];exact(by simpa using h:R n W0 w X F ([]++[]) s a).put hdn.1 hdn.2 λ_=>⟨i,λ_=>y,λA=>absurd l A⟩
     ·have p:Region.wanted o (yielded ops a.tmps)=false:=by
       apply Bool.eq_false_iff.2;intro p;simp only[Region.wanted,t,yielded,G,Obs,beq_iff_eq]at p
       grind[Osi,Q2,Zqf]
      refine⟨undef,Xb F (.m d) [],_,hk,?_,.inr ⟨p,rfl⟩⟩;rw[q];exact(by simpa using h:R n W0 w X F ([]++[]) s a).put (S:=[]) hdn.1 hdn.2 λ_=>⟨i,λc=>absurd c l,λ_=>⟨rfl,rfl⟩⟩
    ·cases hs
   ·cases hs
  ·cases hs
theorem Qxr{ρ:Type}(hC:C.ok P g)(h:R n W0 w X F [] s a)(ht:Q2q s o=true){k:St->Option ρ}{r:ρ}(hs:Zoe C n ops o s k=some r)(I:World->Prop):
  ∃v X' F' s',k s'=some r/\(∀b,X b->X' b)/\R n W0 w X' F' [] s' (a.put o.dst v)/\Zp2 P ops I o v a:=by
 have c:=Z9k (Q:=QF) hC h hs (K:=λp e=> ∃X' F' s',k s'=some r/\(∀b,X b->X' b)/\R n W0 e X' F' [] s' p) λe p X' F' s' hk u y=>⟨X',F',s',hk,y.more,u⟩
 unfold Q2q at ht;rw[Oba]at ht;obtain⟨B,t⟩:=ht;have z:o.guard=none:=by
  grind
 have f:Region.wanted o (yielded ops a.tmps)=true:=by simp[Region.wanted,z]
 rw[if_pos f]at c;unfold Oper.wp at c;split at t
 ·rename_i q d;simp only[execOp,d,Sem.run_pure,Oper.upon]at c;obtain⟨X',F',s',j,l,m⟩:=c;exact⟨_,X',F',s',j,l,m,.inl ⟨f,λe _=>by simp[execOp,d]⟩⟩
 ·rename_i x i d;cases hx:a.eval x with
  |tuple A=>
   cases hu:A[i]? with
   |none=>simp_all[execOp,Instr.extract,Oper.upon]
   |some v=>
    simp only[execOp,d,Instr.extract,hx,hu,Oper.upon]at c;obtain⟨X',F',s',j,l,m⟩:=c;exact⟨v,X',F',s',j,l,m,.inl ⟨f,λe _=>by simp_all[execOp,Instr.extract]⟩⟩
  |_=>simp[execOp,d,Instr.extract,hx,Oper.upon]at c
 ·cases t
theorem Q26{bx:List Nat}{Sh:Nat->Prop}{a':Act}{o:Oper}(hb:Xdq C.τ s bx o=true)(hS:∀b,Sh b->X b)(hf:Q85 W0.gh C o X X' s a a' w w'):Xdl W0.gh bx Sh a w w':=by
 intro b c;refine hf.kept b (c.imp (hS b) λ⟨r,f,g⟩=>?_);unfold Xdq at hb;rw[List.all_eq_true]at hb;have d:=hb r f;simp only[Oba]at d;refine⟨r,Z8b d.1,?_,g⟩;intro e;simp_all
theorem R.ungd1(h:R n W0 w X F H s a){k g':Nat}{b:Bool}{t:Tm}(hg:s.get (.m k)=.gd g' b t)(hf:s.foul g'=false)(hb:Q2 W0.gh a (.m g')=.bool b)(ht:Xe0 t=true):R n W0 w X F H (Zzj s k t) a:=by
 have l:=h.slots (.m k);rw[hg]at l;obtain⟨_,o,_⟩:=l hf;have q:=o hb;have r:Xb F (.m k) (F (.m k))=F:=by
  grind
 have f:Z6n W0.gh w w s (Zzj s k t) F (Xb F (.m k) (F (.m k))) a k t:=Zum ⟨by grind[Jz,Xe0],λp v U hv=>by
  simp_all[Xw]⟩
 have c:∀{u:Tm}{v:Value}{S:List Nat},vt W0.gh w X W0.B s F a v S u->vt W0.gh w X W0.B (Zzj s k t) F a v S u:=λ{u v S} x=>by
  have:=Qmu f (λ_ h=>h) (λ_ _=>rfl) (λ_ _ _ _=>rfl) (λ_ _=>rfl) (λe z A C b S hb=>by simp_all) x;simp_all
 exact
 {h with
  comps:=λd i g=>by
   rw[Jz]at g⊢;simp only[reduceCtorEq,if_false]at g;obtain⟨o,q⟩:=h.comps d i g
   grind
  slots:=λj=>by
   by_cases y:j=.m k
   ·simp_all[Jz,if_true]
   ·rw[Jz];simp only[Ne.symm y,if_false];exact c (h.slots j)}
theorem Z1t{g':Nat}{b:Bool}(hb:Q2 W0.gh a (.m g')=.bool b):∀{xs:List Operand}{s:St},R n W0 w X F H s a->R n W0 w X F H (Qjw g' b xs s) a
 |[],s,h=>h
 |x::xs,s,h=>by
  cases x with
  |tmp k=>
   simp only[Qjw];split
   ·rename_i j e t f;split
    ·rename_i c d g i;have c:=Onb c;subst c;have d:e=b:=by simpa using d
     subst d;exact Z1t hb (h.ungd1 f g hb i)
    ·exact Z1t hb h
   ·exact Z1t hb h
  |_=>exact Z1t (xs:=xs) hb h
theorem Z1s{g':Nat}{b:Bool}{r:Nat}:∀{xs:List Operand}{s:St},s.isBox r->(Qjw g' b xs s).isBox r
 |[],s,h=>h
 |x::xs,s,h=>by
  cases x with
  |tmp k=>
   simp only[Qjw];split
   ·rename_i a c t d;split
    ·refine Z1s ?_;obtain⟨e,T,f,y,g⟩:=h;refine⟨e,T,f,y,?_⟩;rw[Jz,if_neg]
     all_goals grind
    ·exact Z1s h
   ·exact Z1s h
  |_=>exact Z1s (xs:=xs) h
theorem Qoa{ρ:Type}(hC:C.ok P g){ops:Array Oper}(h:R n W0 w X F [] s a){gs d:Nat}{b:Bool}{f:FuncId}{xs:Array Operand}(hg:gdB C s ops o=some (gs,b,d,f,xs)){k:St->Option ρ}{r:ρ}(hs:Q98 C n o s gs b d f xs k=some r)
  {K:Act->World->Prop}{Q:Exit->Act->World->Prop} (hK:∀v w' X' F' s',k s'=some r->R n W0 w' X' F' [] s' (a.put o.dst v)->(∀b,X b->X' b)->Q41 W0.gh X s a (Qjl C.ΓB (Qjw gs b xs.toList s) f xs.toList) w w'->K (a.put o.dst v) w'):if Region.wanted o (yielded ops a.tmps)then o.wp P a w K Q else K (a.put o.dst undef) w:=by
 unfold gdB at hg;split at hg
 ·rename_i j q L fo x M A N G O;split at hg
  ·rename_i i U hj V;split at hg
   ·simp only[Osi,Opi]at hg;obtain⟨rfl,rfl,rfl,rfl,rfl⟩:=hg;unfold Q98 at hs;split at hs
    ·rename_i c T y W hT hdn;simp only[Oba,Nat.blt_eq]at hdn;have hv:Q2 W0.gh a (.m i)=.bool c:=(Yr W0 a (Z48 y)).trans (Zoo h Zag y);have B:s.get (.m i)≠ .junk:=by
      intro e;have Y:=Z48 y;simp_all[op1,Z3b,Zbw,Zxa]
     have H:i<a.tmps.size:=by
      have l:a.tmps.getD i undef=.bool c:=Zoo h Zag y;rcases Nat.lt_or_ge i a.tmps.size with h'|h'
      ·exact h'
      ·rw[Array.getD_eq_getD_getElem?,Array.getElem?_eq_none h']at l;cases l
     have l:a.tmps[i]? =some (.bool c):=by
      have l:a.tmps.getD i undef=.bool c:=Zoo h Zag y;simp_all
     have I:Region.wanted o (yielded ops a.tmps)=(c==q):=by
      simp_all[Region.wanted,yielded]
     have Z:c=q->Qnb C.ΓB n (Qjw i q x.toList s) o.dst U x.toList k=some r->if Region.wanted o (yielded ops a.tmps)then o.wp P a w K Q else K (a.put o.dst undef) w:=by
      intro e p;rw[I,if_pos (by simp[e])];exact Z7r (hC.soft.trans A) hC.ΓB (Z1t (by rw[hv,e]) h) (Zog h Zag V) O p λv w' X' F' s' hk hR D E=>hK v w' X' F' s' hk hR D λb J=>E b (J.imp id λ⟨r,h1,h2,h3⟩=>⟨r,Z1s h1,h2,h3⟩)
     have no:c≠q->k (Jd s L (.gd i q (.val T (.u true) (zero T))))=some r->if Region.wanted o (yielded ops a.tmps)then o.wp P a w K Q else K (a.put o.dst undef) w:=by
      intro e hk;rw[I,if_neg (by simp[e]),G];have z:=(by simpa using h:R n W0 w X F ([]++[]) s a).put (S:=[]) (t:=.gd i q (.val T (.u true) (zero T))) (v:=undef) hdn.1 hdn.2 λ_=>⟨B,λJ=>by simp_all,λ_=>⟨rfl,rfl⟩⟩
      have:=hK undef w X _ _ hk (by rw[G];exact z) (λ_ h=>h) (λ_ _=>rfl);simp_all
     grind
    ·cases hs
   ·cases hg
  ·cases hg
 ·cases hg
theorem Qxm{ρ:Type}(hC:C.ok P g)(h:R n W0 w X F [] s a){bx:List Nat}{Sh:Nat->Prop}(hS:∀b,Sh b->X b){k:St->Option ρ}{r:ρ}(hs:Qxl C n ops bx o s k=some r){K:Act->World->Prop}{Q:Exit->Act->World->Prop}
  (hK:∀w' a' X' F' s',k s'=some r->R n W0 w' X' F' [] s' a'->(∀b,X b->X' b)->(Qpc C o.op=true->Old w w')->Xdl W0.gh bx Sh a w w'->K a' w'):if Region.wanted o (yielded ops a.tmps)then o.wp P a w K Q else K (a.put o.dst undef) w:=by
 unfold Qxl at hs;split at hs
 ·rename_i Y b d f O e;split at hs
  ·rename_i i;refine Qoa hC h e hs λv w' X' F' s' hk y q t=>hK w' _ X' F' s' hk y q (λx=>?_) λb u=>t b ?_
   ·exfalso;unfold gdB at e;split at e
    ·rename_i j Z d' B D E z N S A;split at e
     ·rename_i g' G hj p;split at e
      ·rename_i U c;simp only[Qpc,A,Xey,Oba]at x;have l:=x.2;have nil:(match C.ΓB with|[]=>true|_::_=>false)=true->False:=λV=>by
        cases hg2:C.ΓB with
        |nil=>rw[hg2]at c;cases c
        |cons _ _=>simp_all
       cases B with
       |func H=>
        have I:some H=some G:=p;simp_all
       |const v=>exact nil l
       |tmp k=>exact nil l
       |global g=>exact nil l
      ·cases e
     ·cases e
    ·cases e
   ·refine u.imp (hS b) λ⟨r,J,W⟩=>?_;rw[List.all_eq_true]at i;have L:=i r J;simp only[Oba,Bool.not_eq_true']at L
    grind[Z8b,Qfu]
  ·cases hs
 split at hs
 ·rename_i f O m;split at hs
  ·rename_i i;unfold Q0m at m;split at m
   ·rename_i B D E z N A;split at m
    ·rename_i G p;split at m
     ·rename_i U c;simp only[Osi,Opi]at m;obtain⟨rfl,rfl⟩:=m;rw[if_pos (by simp[Region.wanted,N])];refine Z7r (hC.soft.trans z) hC.ΓB h (Zog h Zag p) A hs λv w' X' F' s' hk y q t=>hK w' _ X' F' s' hk y q (λx=>?_) λb u=>t b ?_
      ·exfalso;simp only[Qpc,A,Xey,Oba]at x;have l:=x.2;have nil:(match C.ΓB with|[]=>true|_::_=>false)=true->False:=λV=>by
        cases hg2:C.ΓB with
        |nil=>rw[hg2]at c;cases c
        |cons _ _=>simp_all
       cases B with
       |func H=>
        have I:some H=some G:=p;simp_all
       |const v=>exact nil l
       |tmp k=>exact nil l
       |global g=>exact nil l
      ·refine u.imp (hS b) λ⟨r,J,W⟩=>?_;rw[List.all_eq_true]at i;have L:=i r J;simp only[Oba,Bool.not_eq_true']at L
       grind[Z8b,Qfu]
     ·cases m
    ·cases m
   ·cases m
  ·cases hs
 ·split at hs
  ·rename_i M;exact Z9k (Q:=Q) hC h hs λw' a' X' F' s' hk y p=>hK w' a' X' F' s' hk y p.more (λx=>p.pres (by simp_all[Qpc,Oba])) (Q26 M hS p)
  ·cases hs
theorem Z6f{ρ:Type}(hC:C.ok P g)(hsel:∀(j:Nat)(o:Oper) cs b,ops[j]? =some o->o.op≠ .select cs b){bx:Nat->List Nat}(hbd:∀i,∀r∈bx i,∀(j:Nat) o,ops[j]? =some o->o.dst≠some r){k:St->Option ρ}{r:ρ}{Qn:Act->World->Prop}
  (hK:∀w' a' X' F' s',k s'=some r->R n W0 w' X' F' [] s' a'->Qn a' w'):
  ∀{f:Nat}{listed:Array Bool}{s:St}{w:World}{X:Nat->Prop}{Sh:Nat->Prop}{F:Key->List Nat}{a:Act},Qmw ops listed->R n W0 w X F [] s a->(∀b,Sh b->X b)->Z3w C n ops bx f listed s k=some r->Z6m W0.gh P ops Qn (Qd6 C ops) bx Sh f listed a w
 |0,listed,s,w,X,Sh,F,a,_,h,V,d=>by
  simp only[Z3w]at d;split at d
  ·rename_i p;obtain⟨F',M⟩:=h.clean;exact⟨p,hK w a X F' _ d M⟩
  ·cases d
 |f+1,listed,s,w,X,Sh,F,a,D,h,V,d=>by
  have ah:∀e o,ops[e]? =some o->e∈Region.ready .any ops listed->(Qxl C n ops (bx e) o s λs'=>Z3w C n ops bx f (listed.setIfInBounds e true) s' k)=some r->
    wpOp P ops QF e (λa' w'=>(Qwh ops e=true\/Qhl W0.gh (Qd6 C ops) bx Sh e a w w')/\Z6m W0.gh P ops Qn (Qd6 C ops) bx Sh f (listed.setIfInBounds e true) a' w') a w:=by
   intro e o A N d;unfold wpOp;simp only[A];have:=Qxm (Q:=QF) hC h V d (K:=λa' w'=>(Qwh ops e=true\/Qhl W0.gh (Qd6 C ops) bx Sh e a w w')/\Z6m W0.gh P ops Qn (Qd6 C ops) bx Sh f (listed.setIfInBounds e true) a' w')
    (λw' a' X' F' s' hk O G W H=>⟨.inr ⟨by simp_all[Qd6],H⟩,Z6f hC hsel hbd hK (Qci D N) O (λb t=>G b (V b t)) hk⟩)
   grind
  simp only[Z3w]at d;split at d
  ·rename_i p;obtain⟨F',M⟩:=h.clean;exact⟨λ_=>hK w a X F' _ d M,λi B=>by simp_all⟩
  ·rename_i i p;refine⟨λhn=>(by simp_all),λe B=>?_⟩;rw[p]at B;simp only[List.mem_singleton]at B;subst B;split at d
   ·rename_i o A;split at d
    ·rename_i E ts B S Y;obtain⟨hg,hE,vs,Z,h2,h3⟩:=Qkl hC h B;unfold wpOp;simp only[A];rw[if_pos (by simp[Region.wanted,hg])];refine .inl (Qof hC.τ hE h Z h2 h3 d λv w' X' F' s' hk O=>⟨.inl Y,?_⟩);obtain⟨F2,M⟩:=O.clean;cases f with
     |zero=>exact⟨S,hK w' _ X' F2 _ hk M⟩
     |succ f=>exact⟨λ_=>hK w' _ X' F2 _ hk M,λi B=>by simp_all⟩
    grind
   ·cases d
  ·rename_i p;split at d
   ·rename_i i u;have x:=List.mem_of_find?_eq_some u;have c:=List.find?_some u;simp only[Oba]at c;have c:=c.2;rw[<-p]at x;split at d
    ·rename_i o A;simp only[A]at c;obtain⟨v,X',F',s',hk,aa,O,hy⟩:∃v X' F' s',Z3w C n ops bx f (listed.setIfInBounds i true) s' k=some r/\(∀b,X b->X' b)/\R n W0 w X' F' [] s' (a.put o.dst v)/\Zp2 P ops (Dep W0.gh C.τ X s a o w) o v a:=by
      split at d
      ·rename_i ab;exact Qxr hC h ab d _
      grind[Qqw]
     refine Qk2 V _ _ _ _ ?_;refine Qhk (I:=Dep W0.gh C.τ X s a o w) (J:=λa'=> ∀j,∀q∈bx j,Q2 W0.gh a' (.m q)=Q2 W0.gh a (.m q)) A hsel (λj q y=>hbd j q y i o A) f listed a w D (Dep.refl _ _ _ _ _ _ _) (λ_ _ _=>rfl) (λj oj hj ad l ae=>?_) x hy
      (Z6f hC hsel hbd hK (Qci D x) O aa hk)
     obtain⟨Z,h2⟩:=Qyj c A hj ad l ae;refine⟨Z,λa1 a2 w1 w2 hJ z L hp=>⟨λhm=>?_,λj' q y=>?_⟩⟩
     ·have z:=z hm;rcases h2 with h2|h2
      ·unfold Xcc at h2;rw[hm]at h2;simp only at h2;split at h2
       ·rename_i q y;simp only[y]at z⊢;have ag:q∈bx j:=by
         simp_all
        exact λb l t=>(L.hold b (.inr ⟨q,ag,by grind⟩)).trans (z b l t)
       ·rename_i y;simp only[y]at z⊢;exact λb l t=>(L.hold b (.inl t)).trans (z b l t)
       ·cases h2
      ·have hold:=L.pres (by simp_all[Qd6]);have U:∀b,b<w.heap.size->w1.heap[b]? =w.heap[b]?->b<w1.heap.size:=λb l he=>by
        grind
       split at z
       ·rename_i q y
        try simp only[y]
        exact λb l t=>(hold b (U b l (z b l t))).trans (z b l t)
       ·rename_i y
        try simp only[y]
        exact λb l t=>(hold b (U b l (z b l t))).trans (z b l t)
       grind[Old.trans]
     ·rw[hp q (by grind)];exact hJ j' q y
    ·cases d
   ·refine⟨λhn=>(by simp_all),λe B=>?_⟩
    grind[Qq1,List.mem_map_of_mem]
end Go.Am

/- The abstract machine, part 4: what a piece of Go code does, as plain data, and that it does so. No condition. -/
import Derived.Test.YtpadmiphiogdhaaGreatAm3
import Derived.Laws.StructEq
import Derived.ChangeKeysEq
import Derived.Still
namespace Go.Am
open Go.RowKit
def eqL{α:Type}(f:α→α→Bool):List α→List α→Bool
 | [],[]=>true
 |x::xs,y::ys=>f x y&&eqL f xs ys
 |_,_=>false
def eqV: (T:Ty)→T.den→T.den→Bool
 | .unit,_,_=>true
 | .int _,x,y=>decide ((x:Int)=y)
 | .bool,x,y=>(x:Bool)==y
 | .fnc _,_,_=>false
 | .str,x,y=>(x:List UInt8)==y
 | .pair a b,x,y=>eqV a x.1 y.1&&eqV b x.2 y.2
 | .arr _ t,x,y=>eqL (eqV t) x y
 | .slice _ _,_,_=>false
 | .err,_,_=>false
 | .hid _,_,_=>false
 | .sptr ..,_,_=>false
 | .clo ..,_,_=>false
structure Qem(P:Program)(e:TypeId)(T:Ty):Prop where
 guard: ∀(w:World) (op:BinOp) (p q:Operand) (u v:List Value),(eqGuard op e p q (Xz T u) (Xz T v)).run P w= .ok () w
 eql: ∀(w w2 w3:World) (X Y:Nat→Prop) (B:Nat) (x y:T.den) (u v:List Value),rd w2 X B false T x u []→rd w3 Y B false T y v []→(binOp .eql e (Xz T u) (Xz T v)).run P w= .ok (.bool (eqV T x y)) w
 neq: ∀(w w2 w3:World) (X Y:Nat→Prop) (B:Nat) (x y:T.den) (u v:List Value),rd w2 X B false T x u []→rd w3 Y B false T y v []→(binOp .neq e (Xz T u) (Xz T v)).run P w= .ok (.bool (!(eqV T x y))) w
structure Cfg where
 τ:Tab
 eq:TypeId→Bool
 Γ:Env
 lent:List Nat:=[]
 ΓL:Z0q:=[]
 ΓB:Zv7:=[]
 soft:Bool:=false
 ΓW:Zv8:=[]
 pt:Zkg:={}
structure Cfg.ok(C:Cfg)(P:Program)(g:Y4):Prop where
 τ:C.τ.ok P
 eq: ∀e T,C.eq e=true→C.τ e=some T→Qem P e T
 Γ:C.Γ.ok P g
 follows:P.follows .mixedOrders=true
 ΓL:C.ΓL.ok P g
 ΓB:C.ΓB.ok P g
 soft:g.soft=C.soft
 softG:C.soft=true→ ∃w0 L,g=Zr1 w0 L
 ΓW:C.ΓW.ok P
 pt:C.pt.ok P
section
variable {P:Program} {g:Y4} {W0:Zct g} {w w':World} {X X':Nat→Prop} {B B' n:Nat} {own:Bool} {s:St} {F:Key→List Nat} {a:Act} {H H':List Nat} {o:Oper} {tg:Xm} {τ:Tab} {C:Cfg}
def Qzi(C:Cfg)(s:St)(tg:Xm)(op:BinOp)(e:TypeId)(x y:Operand):Option Res:=
 match C.eq e,C.τ e with
 |true,some T=>match V3 s (op1 s tg x) T,V3 s (op1 s tg y) T with
  |some u,some v=>match op with
   | .eql=>some ⟨.val .bool (.u false) (eqV T u v),s,false,none⟩
   | .neq=>some ⟨.val .bool (.u false) (!(eqV T u v)),s,false,none⟩
   |_=>none
  |_,_=>none
 |_,_=>none
theorem Zuw(h:R n W0 w X F H s a)(ht:tg.ok a)(hC:C.ok P g){op:BinOp}{e e2:TypeId}{x y:Operand}(ho:o.op= .binOp op e x y e2){r:Res}(hr:Qzi C s tg op e x y=some r):W1 P C.τ W0 w X F s a o r:=by
 unfold Qzi at hr
 split at hr
 ·rename_i T he hT
  split at hr
  ·rename_i u v hu hv
   obtain⟨us,h1,h2⟩:=Vt h ht hu
   obtain⟨vs,k1,k2⟩:=Vt h ht hv
   have hE:=hC.eq e T he hT
   split at hr
   ·simp only[Option.some.injEq]at hr
    subst hr
    refine Yk rfl fun _=>⟨_,fun w' _=> ?_,Zrn _⟩
    simp only[execOp,ho,h1,k1,Sem.run_bind,hE.guard,Result.andThen_ok,hE.eql w' w w _ _ _ u v us vs h2 k2,Sem.run_pure]
   ·simp only[Option.some.injEq]at hr
    subst hr
    refine Yk rfl fun _=>⟨_,fun w' _=> ?_,Zrn _⟩
    simp only[execOp,ho,h1,k1,Sem.run_bind,hE.guard,Result.andThen_ok,hE.neq w' w w _ _ _ u v us vs h2 k2,Sem.run_pure]
   ·cases hr
  ·cases hr
 ·cases hr
def Zu3(s:St)(tg:Xm)(x:Operand):Option Res:=
 match op1 s tg x with
 | .tm k t=>match Z3k s k t with
  |some r=>match r.t with
   | .ptr _ _| .shp _ _=>some r
   | .elp q _ _ _=>match s.foul q with|false=>some r|true=>none
   |_=>none
  |none=>none
 |_=>none
theorem Zu4(h:R n W0 w X F H s a)(ht:tg.ok a){x:Operand}(ho:o.op= .nilCheck x){r:Res}(hr:Zu3 s tg x=some r):W1 P τ W0 w X F s a o r:=by
 unfold Zu3 at hr
 split at hr
 ·rename_i k t hx
  split at hr
  ·rename_i r' hr'
   obtain⟨h1,h2⟩:=Zqt h ht hx hr'
   have key:r'=r∧ ∃ad,a.eval x= .pointer (some ad):=by
    split at hr
    ·rename_i q p ht'
     rw[ht']at h2
     obtain⟨_,e,T,f,y,b,S',_,_,h3⟩:=h2
     exact⟨by simpa using hr,_,h3⟩
    ·rename_i T y ht'
     rw[ht']at h2
     obtain⟨_,ad,vs,h3,_⟩:=h2
     exact⟨by simpa using hr,_,h3⟩
    ·rename_i q p i z ht'
     rw[ht']at h2
     split at hr
     ·rename_i hf
      obtain⟨e,t',ad,n',cap,_,_,_,h3⟩:=h2.2 hf
      exact⟨by simpa using hr,_,h3⟩
     ·cases hr
    ·cases hr
   obtain⟨rfl,ad,he⟩:=key
   refine Yk h1 fun _=>⟨_,fun w' _=> ?_,h2⟩
   simp only[execOp,ho,he]
   rfl
  ·cases hr
 ·cases hr
def Qif(C:Cfg)(s:St)(tg:Xm)(o:Oper):Option Res:=
 match o.op with
 | .move x=>Qch C.τ s tg o.type x
 | .assign x=>Ztl C.τ s tg o.type x
 | .pick c x y=>Ql8 C.τ s tg o.type c x y
 | .alloc e=>Qmk C.τ s e
 | .box e x=>Qxl C.τ s tg e x
 | .build e ps=>match C.τ e with
  |some (.arr _ _)=>Z0t C.τ s tg e ps
  |_=>Qmu C.τ s tg e ps
 | .buildSlice e n ps=>match C.τ e,C.soft with
  |none,false=>Qyn C.pt s tg e n ps
  |_,_=>match Zvw C.τ s tg e n ps with
   |some r=>some r
   |none=>Z0u C.τ s tg e n ps
 | .load e x=>match C.τ e with
  |none=>Qug C.pt s tg e x
  |some _=>Ql6 C.τ s tg e x
 | .binOp op e x y e2=>match C.τ e with
  |some (.pair _ _)|some (.arr _ _)=>Qzi C s tg op e x y
  |none=>match C.pt.isPtr e with
   |true=>Qpv C.pt s tg op e x y
   |false=>Qxw C.pt s tg op e x y
  |_=>Qte C.τ s tg op e x y e2
 | .unOp op e x=>Qz6 C.τ s tg op e x
 | .convert e e2 x=>Ql3 C.τ s tg e e2 x
 | .makeSlice e x y=>Quh C.τ s tg e x y
 | .slice e x lo hi none=>match C.soft with
  |true=>none
  |false=>Qqa C.τ s tg e x lo hi
 | .nilCheck x=>Zu3 s tg x
 | .fieldAddr e x i=>Qb1 C.τ s tg e x i
 | .indexAddr e x i=>match C.τ e with
  |none=>Qx8 C.pt s tg e x i
  |some _=>Zs4 C.τ s tg e x i
 | .index e x i=>Qb6 C.τ s tg e x i
 | .extract x i=>Z7i s x i
 | .makeFunc (.func f) ⟨[]⟩ ⟨[]⟩=>some ⟨.val (.fnc f) (.u true) (),s,false,none⟩
 | .call {callee:= .builtin .len,args:=⟨[x]⟩,argTypes:=⟨[e]⟩}=>match C.τ e with
  |none=>Qyd C.pt s tg e x
  |some _=>Quf C.τ s tg e x
 | .call {callee:= .builtin .min,args:=⟨[x,y]⟩,argTypes:=⟨[e,_]⟩}=>Qgj s tg e C.τ x y false
 | .call {callee:= .builtin .max,args:=⟨[x,y]⟩,argTypes:=⟨[e,_]⟩}=>Qgj s tg e C.τ x y true
 | .call {callee:= .builtin .append,args:=⟨[x,y]⟩,argTypes:=⟨[e,e2]⟩}=>match Nat.beq e e2 with
  |true=>match Qer C.τ s tg e x y with
   |some r=>some r
   |none=>match Qs9 C.τ s tg e x y with
    |some r=>some r
    |none=>Z95 C.soft C.τ s tg e x y
  |false=>none
 |_=>none
theorem Qej(h:R n W0 w X F H s a)(ht:tg.ok a)(hC:C.ok P g){r:Res}(hr:Qif C s tg o=some r):Zoz P n W0 w X H s a o r:=by
 unfold Qif at hr
 split at hr
 ·rename_i ho;exact(Zv2 h ht ho hr).sound h
 ·rename_i ho;exact Qjo h ht ho hr
 ·rename_i ho;exact(Z6e h ht ho hr).sound h
 ·rename_i ho;exact Qml h hC.τ ho hr
 ·rename_i ho;exact Qtf h ht ho hr
 ·rename_i ho
  split at hr
  ·exact Z98 h ht hC.τ ho hr
  ·exact Qmv h ht hC.τ ho hr
 ·rename_i ho
  split at hr
  ·rename_i _ hsf;exact Qup (hC.soft.trans hsf) h ht hC.pt ho hr
  ·split at hr
   ·rename_i hr2;cases hr;exact Z3v h ht hC.τ ho hr2
   ·exact Z99 h ht hC.τ ho hr
 ·rename_i ho
  split at hr
  ·exact(Qru (τ:=C.τ) h ht hC.pt ho hr).sound h
  ·exact(Z6b h ht hC.τ ho hr).sound h
 ·rename_i ho
  split at hr
  ·exact(Zuw h ht hC ho hr).sound h
  ·exact(Zuw h ht hC ho hr).sound h
  ·split at hr
   ·exact(Qpw (τ:=C.τ) h ht hC.pt ho hr).sound h
   ·exact(Qtv (τ:=C.τ) h ht hC.pt ho hr).sound h
  ·exact(Z97 h ht hC.τ ho hr).sound h
 ·rename_i ho;exact(Qjj h ht ho hr).sound h
 ·rename_i ho;exact(Z52 h ht hC.τ ho hr).sound h
 ·rename_i ho;exact Qrv h ht hC.τ ho hr
 ·rename_i ho
  split at hr
  ·cases hr
  ·rename_i hsf;exact Qqb (hC.soft.trans hsf) h ht hC.τ ho hr
 ·rename_i ho;exact(Zu4 (τ:=C.τ) h ht ho hr).sound h
 ·rename_i ho;exact(Z05 h ht hC.τ ho hr).sound h
 ·rename_i ho
  split at hr
  ·exact(Qt5 (τ:=C.τ) h ht hC.pt ho hr).sound h
  ·exact(Ztt h ht hC.τ ho hr).sound h
 ·rename_i ho;exact(Z1e h ht hC.τ ho hr).sound h
 ·rename_i ho;exact Qf8 h ho hr
 ·rename_i f ho
  simp only[Option.some.injEq]at hr
  subst hr
  exact Zog h rfl fun _=>⟨_,by simp[execOp,ho,Instr.makeFunc],Qu1 f⟩
 ·rename_i ho
  split at hr
  ·exact(Que (τ:=C.τ) h ht hC.pt ho hr).sound h
  ·exact(Qca h ht hC.τ ho hr).sound h
 ·rename_i ho;exact(Zs6 h ht (mx:=false) ho hr).sound h
 ·rename_i ho;exact(Zs6 h ht (mx:=true) ho hr).sound h
 ·rename_i e e2 ho
  split at hr
  ·rename_i he
   have:=Nat.eq_of_beq_eq_true he
   subst this
   split at hr
   ·rename_i hr2;cases hr;exact Qjn h ht hC.τ ho hr2
   ·split at hr
    ·rename_i hr2;cases hr;exact Qqt h ht hC.τ ho hr2
    ·cases hsf:C.soft with
     |false=>exact Qmm (hC.soft.trans hsf) h ht hC.τ ho hr
     |true=>rw[hsf]at hr;simp[Z95]at hr
  ·cases hr
 ·cases hr
def Qaa(s:St):Nat→Nat→Bool→Option Xm
 |0,_,_=>none
 |d+1,g,b=>match s.foul g with
  |true=>none
  |false=>match s.get (.m g)with
   | .gd g2 b2 _=>match Qaa s d g2 b2 with
    |some tg=>some ((g,b)::tg)
    |none=>none
   | .val .bool _ _=>some [(g,b)]
   |_=>none
def Qqk(s:St):Xm→Prop→Option Prop
 | [],p=>some p
 | (g,b)::tg,p=>match V3 s (op1 s tg (.tmp g)) .bool with
  |some c=>Qqk s tg (c=b→p)
  |none=>none
noncomputable def Zf{ρ:Type}(p:Prop)(m:Option ρ):Option ρ:=by
 classical exact if p then m else none
theorem Zkl{ρ:Type}{p:Prop}{m:Option ρ}{r:ρ}:Zf p m=some r↔p∧m=some r:=by
 unfold Zf;split<;>simp_all
theorem Zc{ρ:Type}{p:Prop}{m:Option ρ}(h:p):Zf p m=m:=by
 unfold Zf;rw[if_pos h]
noncomputable def Qov{ρ:Type}(o:Ob)(m:Option ρ):Option ρ:=
 match o with
 |none=>m
 |some p=>Zf p m
theorem Zux{ρ:Type}{o:Ob}{m:Option ρ}{r:ρ}:Qov o m=some r↔o.ok∧m=some r:=by
 cases o with
 |none=>simp[Qov,Ob.ok]
 |some p=>exact Zkl
noncomputable def Qu0{ρ:Type}(s:St)(tg:Xm)(o:Ob)(m:Option ρ):Option ρ:=
 match o with
 |none=>m
 |some p=>match Qqk s tg p with
  |some q=>Zf q m
  |none=>none
def Qm5(s:St):Xm→Option (List (Bool×Bool))
 | []=>some []
 | (g,b)::tg=>match V3 s (op1 s tg (.tmp g)) .bool,Qm5 s tg with
  |some c,some r=>some ((c,b)::r)
  |_,_=>none
def Qxd{α:Type}(d:α)(m:Option α):List (Bool×Bool)→Option α
 | []=>m
 | (c,true)::r=>bif c then Qxd d m r else some d
 | (c,false)::r=>bif c then some d else Qxd d m r
theorem Zrq(h:R n W0 w X F H s a): ∀{d g:Nat} {b:Bool} {tg:Xm},Qaa s d g b=some tg→Qi a (.m g)= .bool b→tg.ok a
 |0,_,_,_,hc,_=>by cases hc
 |d+1,g,b,tg,hc,hb=>by
  simp only[Qaa]at hc
  split at hc
  ·cases hc
  ·rename_i hf
   split at hc
   ·rename_i g2 b2 t hg
    split at hc
    ·rename_i tg2 hc2
     simp only[Option.some.injEq]at hc
     subst hc
     have hs:=h.slots (.m g)
     rw[hg]at hs
     have hf2:s.foul g2=false:=by
      cases d with
      |zero=>cases hc2
      |succ d=>
       simp only[Qaa]at hc2
       split at hc2
       ·cases hc2
       ·assumption
     obtain⟨_,_,h3⟩:=hs hf2
     have hg2:Qi a (.m g2)= .bool b2:=Classical.byContradiction fun hne=>by
      obtain⟨_,hu⟩:=h3 hne
      rw[hb]at hu
      cases hu
     intro p hp
     rcases List.mem_cons.1 hp with rfl|hp
     ·exact hb
     ·exact Zrq h hc2 hg2 p hp
    ·cases hc
   ·simp only[Option.some.injEq]at hc
    subst hc
    intro p hp
    simp only[List.mem_singleton]at hp
    subst hp
    exact hb
   ·cases hc
theorem Qei(h:R n W0 w X F H s a): ∀{tg:Xm} {p q:Prop},Qqk s tg p=some q→q→Xm.ok tg a→p
 | [],p,q,hu,hq,_=>by simp only[Qqk,Option.some.injEq]at hu;subst hu;exact hq
 | (g,b)::tg,p,q,hu,hq,ht=>by
  simp only[Qqk]at hu
  split at hu
  ·rename_i c hc
   have ht2:Xm.ok tg a:=fun p hp=>ht p (List.mem_cons_of_mem _ hp)
   have h1:=Zof h ht2 hc
   have h2:=ht (g,b) (List.mem_cons_self ..)
   have h3:c=b:=by
    have h1':Qi a (.m g)= .bool c:=h1
    rw[h2]at h1'
    injection h1' with e
    exact e.symm
   exact Qei h hu hq ht2 h3
  ·cases hu
theorem Zy4{ρ:Type}(h:R n W0 w X F H s a){tg:Xm}{o:Ob}{m:Option ρ}{r:ρ}(hu:Qu0 s tg o m=some r):m=some r∧(Xm.ok tg a→o.ok):=by
 unfold Qu0 at hu
 split at hu
 ·exact⟨hu,fun _=>trivial⟩
 ·split at hu
  ·rename_i q' hq'
   rw[Zkl]at hu
   exact⟨hu.2,fun ht=>Qei h hq' hu.1 ht⟩
  ·cases hu
theorem Qad(h:R n W0 w X F H s a): ∀{tg:Xm} {cs:List (Bool×Bool)},Qm5 s tg=some cs→Xm.ok tg a→ ∀{α:Type} (d:α) (m:Option α),Qxd d m cs=m
 | [],cs,hc,_,_,d,m=>by simp only[Qm5,Option.some.injEq]at hc;subst hc;rfl
 | (g,b)::tg,cs,hc,ht,_,d,m=>by
  simp only[Qm5]at hc
  split at hc
  ·rename_i c r hcr hr
   simp only[Option.some.injEq]at hc
   subst hc
   have ht2:Xm.ok tg a:=fun p hp=>ht p (List.mem_cons_of_mem _ hp)
   have h1:Qi a (.m g)= .bool c:=Zof h ht2 hcr
   have h2:=ht (g,b) (List.mem_cons_self ..)
   rw[h1]at h2
   injection h2 with e
   simp only at e
   subst e
   have ih:=Qad h hr ht2 d m
   cases c<;>simp[Qxd,ih]
  ·cases hc
def Qhs: (ts:List Ty)→Kb ts→Option TV
 | [t],r=>some ⟨t,r.1⟩
 |_,_=>none
theorem Qyv: ∀{ts:List Ty} {r:Kb ts} {v:TV} {rs:List Value} {S:List Nat},Qhs ts r=some v→Zdq w B ts r rs S→ ∃cs,X8 rs=Xz v.1 cs∧rd w (fun _=>False) B true v.1 v.2 cs S
 | [t],r,v,rs,S,h,hx=>by
  simp only[Qhs,Option.some.injEq]at h
  subst h
  obtain⟨cs,us',S1,S2,rfl,rfl,g1,rfl,rfl⟩:=hx
  exact⟨cs,rfl,by simpa using g1⟩
 | [],_,_,_,_,h,_=>by simp[Qhs]at h
 |_::_::_,_,_,_,_,h,_=>by simp[Qhs]at h
theorem Zao:Xm.ok [] a:=fun p hp=>by cases hp
theorem Qew{d g:Nat}{b:Bool}{tg:Xm}(hc:Qaa s d g b=some tg):s.get (.m g)≠ .junk:=by
 cases d with
 |zero=>cases hc
 |succ d=>
  simp only[Qaa]at hc
  split at hc
  ·cases hc
  ·split at hc
   ·rename_i hg;rw[hg];simp
   ·rename_i hg;rw[hg];simp
   ·cases hc
theorem Q6u{fo:Operand}{xs:Array Operand}{ats:Array TypeId}(ho:o.op= .call {callee:= .value fo,args:=xs,argTypes:=ats}):Qif C s tg o=none:=by
 unfold Qif;rw[ho]
def Q4a: (ts:List Ty)→Kb ts
 | []=>()
 |t::ts=>(zero t,Q4a ts)
noncomputable def gdK{ρ:Type}(C:Cfg)(o:Oper)(s:St)(tg:Xm)(g:Nat)(b:Bool)(d:Nat)(k:St→Option ρ):Option ρ:=
 match o.op with
 | .call {callee:= .value fo,args:=xs,..}=>match(Qty s tg fo).bind C.Γ.find with
  |some e=>match Zm0 s tg e.args xs.toList,Qm5 s tg,Qhs e.res (Q4a e.res)with
   |some us,some cs,some _=>(Qxd (Q4a e.res) (e.F us) cs).bind fun r=>match Qhs e.res r with
    |some v=>k (Yo s d (.gd g b (.val v.1 (.u true) v.2)))
    |none=>none
   |_,_,_=>none
  |none=>none
 |_=>match Qif C s tg o with
  |some r=>match r.moved with
   |false=>Qu0 s tg r.obl (k (Yo s d (.gd g b r.t)))
   |true=>none
  |none=>none
noncomputable def Zh2{ρ:Type}(C:Cfg)(n:Nat)(ops:Array Oper)(o:Oper)(s:St)(k:St→Option ρ):Option ρ:=
 match o.guard with
 |none=>match o.op with
  | .store e x v=>match o.dst with
   |none=>match Qeg C.τ s [] e x v with
    |some s'=>k s'
    |none=>none
   |some _=>none
  | .call {callee:= .value fo,args:=xs,..}=>match Qty s [] fo with
   |some f=>Q12 C.Γ n s [] o.dst f xs.toList k
   |none=>match Qvg s [] fo with
    |some c=>Q11 C.Γ n s [] o.dst c xs.toList k
    |none=>none
  | .makeFunc (.func f) ⟨[]⟩ ⟨c::cs⟩=>match C.soft,Q13 s (c::cs),o.dst with
   |false,some (U,s'),some d=>match J1 s' d&&Nat.blt d n with
    |true=>k (Yo s' d (.val (.clo f U.1) (.u false) U.2))
    |false=>none
   |_,_,_=>none
  | .move (.tmp q)=>match s.get (.m q),o.dst with
   | .tup,some d=>match J1 s d&&Nat.blt d n with
    |true=>k (Qji s q d)
    |false=>none
   |_,_=>match Qch C.τ s [] o.type (.tmp q),o.dst with
    |some r,some d=>match J1 r.s d&&Nat.blt d n with
     |true=>Qov r.obl (k (Yo r.s d r.t))
     |false=>none
    |_,_=>none
  |_=>match Qif C s [] o,o.dst with
   |some r,some d=>match J1 r.s d&&Nat.blt d n with
    |true=>Qov r.obl (k (Yo r.s d r.t))
    |false=>none
   |_,_=>none
 |some (j,b)=>match(ops[j]?).bind (·.dst),o.dst with
  |some g,some d=>match Qaa s 8 g b,J1 s d&&Nat.blt d n with
   |some tg,true=>gdK C o s tg g b d k
   |_,_=>none
  |_,_=>none
structure Q4e(C:Cfg)(o:Oper)(X X':Nat→Prop)(s:St)(a a':Act)(w w':World):Prop where
 more: ∀b,X b→X' b
 pres:Qyo o.op=true→Old w w'
 kept:Qjm X s a (Ql0 C.τ s o) w w'
 put: ∃v,a'=a.put o.dst v
theorem R.fact(h:R n W0 w X F H s a){o:Oper}{v:Value}(hold:Old w w'):Q4e C o X X s a (a.put o.dst v) w w':=⟨fun _ h=>h,fun _=>hold,h.kept hold,⟨v,rfl⟩⟩
theorem Qjm.any{tgt:Option Nat}(h:Qjm X s a none w w'):Qjm X s a tgt w w':=fun b hb=>h b (hb.imp id fun⟨r,h1,_,h2⟩=>⟨r,h1,by simp,h2⟩)
theorem Q0r{ρ:Type}(hC:C.ok P g)(h:R n W0 w X F [] s a){g d:Nat}{b:Bool}(hd:o.dst=some d)(hch:Qaa s 8 g b=some tg)(hdn:J1 s d=true∧d<n){k:St→Option ρ}{r:ρ}(hs:gdK C o s tg g b d k=some r)
  {K:Act→World→Prop} {Q:Exit→Act→World→Prop} (hK: ∀w' a' X' F' s',k s'=some r→R n W0 w' X' F' [] s' a'→Q4e C o X X' s a a' w w'→K a' w'):
  (Qi a (.m g)= .bool b→o.wp P a w K Q)∧(Qi a (.m g)≠ .bool b→K (a.put o.dst undef) w):=by
 have hgj:=Qew hch
 have skip: ∀{t:Tm},Qi a (.m g)≠ .bool b→k (Yo s d (.gd g b t))=some r→K (a.put o.dst undef) w:=by
  intro t hne he
  rw[hd]
  exact hK w _ X _ _ he ((by simpa using h:R n W0 w X F ([]++ []) s a).put (S:=[]) hdn.1 hdn.2 fun _=>⟨hgj,fun hb=>absurd hb hne,fun _=>⟨rfl,rfl⟩⟩) (by rw[←hd];exact h.fact (Old.refl w))
 unfold gdK at hs
 split at hs
 ·rename_i fo xs ats ho
  split at hs
  ·rename_i e he0
   obtain⟨f,hf,he⟩:=Option.bind_eq_some_iff.1 he0
   split at hs
   ·rename_i us cs v0 hus hcs hv0
    rw[Option.bind_eq_some_iff]at hs
    obtain⟨rv,hrv,hk⟩:=hs
    split at hk
    ·rename_i v hv
     refine⟨fun hb=> ?_,fun hb=>skip hb hk⟩
     have ht:=Zrq h hch hb
     rw[Qad h hcs ht]at hrv
     refine Z6l hC.Γ h ht (Zkk h ht hf) ho he hus hrv fun rs S w' hR hres hold=> ?_
     obtain⟨cs,k1,k2⟩:=Qyv hv hres
     rw[hd]
     exact hK w' _ X _ _ hk (hR.put hdn.1 hdn.2 fun _=>⟨hgj,fun _=>⟨cs,k1,by unfold rdF;exact Zbu (Nat.le_refl _) (fun _ (h:False)=>h.elim) k2⟩,fun hne=>absurd hb hne⟩) (by rw[←hd];exact h.fact hold)
    ·cases hk
   ·cases hs
  ·cases hs
 ·split at hs
  ·rename_i r0 hv
   split at hs
   ·rename_i hm
    obtain⟨hk,hob⟩:=Zy4 h hs
    refine⟨fun hb=> ?_,fun hb=>skip hb hk⟩
    have ht:=Zrq h hch hb
    refine Qej h ht hC hv (hob ht) K Q fun v X' F' S w' hX hR hvt hms hold=> ?_
    have hs0:=hms hm
    rw[hs0]at hR hvt
    rw[hd]
    exact hK w' _ X' _ _ hk (hR.put hdn.1 hdn.2 fun _=>⟨hgj,fun _=>hvt,fun hne=>absurd hb hne⟩) (by rw[←hd];exact⟨hX,hold.1,hold.2.any,_,rfl⟩)
   ·cases hs
  ·cases hs
theorem Qjg{ρ:Type}(hC:C.ok P g){ops:Array Oper}(h:R n W0 w X F [] s a){k:St→Option ρ}{r:ρ}(hs:Zh2 C n ops o s k=some r){K:Act→World→Prop}{Q:Exit→Act→World→Prop}
  (hK: ∀w' a' X' F' s',k s'=some r→R n W0 w' X' F' [] s' a'→Q4e C o X X' s a a' w w'→K a' w'):if Region.wanted o (yielded ops a.tmps)then o.wp P a w K Q else K (a.put o.dst undef) w:=by
 unfold Zh2 at hs
 split at hs
 ·rename_i hg
  rw[if_pos (by simp[Region.wanted,hg])]
  split at hs
  ·rename_i e x v ho
   split at hs
   ·rename_i hd
    split at hs
    ·rename_i s' hst
     exact Qqh h hC.τ ho hd hst fun w' F' hR hkept=>hK w' a X F' s' hs hR ⟨fun _ h=>h,fun hp=>(by rw[ho]at hp;cases hp),hkept,undef,by rw[hd];rfl⟩
    ·cases hs
   ·cases hs
  ·rename_i fo xs ats ho
   split at hs
   ·rename_i f hf
    exact Qvf hC.Γ h Zao (Zkk h Zao hf) ho hs fun v w' F' s' hk hR hold=>hK w' _ X F' s' hk hR (h.fact hold)
   ·split at hs
    ·rename_i c hc
     exact Qve hC.Γ h Zao hc ho hs fun v w' F' s' hk hR hold=>hK w' _ X F' s' hk hR (h.fact hold)
    ·cases hs
  ·rename_i f c cs ho
   split at hs
   ·rename_i U s' d hsf hcap hd
    split at hs
    ·rename_i hdn
     simp only[Bool.and_eq_true,Nat.blt_eq]at hdn
     obtain⟨X',F',g1,g2,g3⟩:=Qmx (hC.soft.trans hsf) h hcap
     unfold Oper.wp
     simp only[execOp,ho,Instr.makeFunc,Oper.upon]
     rw[hd]
     refine hK w _ X' _ _ hs ((by simpa using g1:R n W0 w X' F' ([]++ []) s' a).put hdn.1 hdn.2 (t:= .val (.clo f U.1) (.u false) U.2) ⟨[.func (.func f) #[] (List.map a.eval (c::cs)).toArray],by simp[Xz],by unfold rdF;exact⟨rfl,_,rfl,g3⟩⟩) (by rw[←hd];exact⟨g2,fun _=>Old.refl w,h.kept (Old.refl w),_,rfl⟩)
    ·cases hs
   ·cases hs
  ·rename_i q ho
   split at hs
   ·rename_i d hq hd
    split at hs
    ·rename_i hdn
     simp only[Bool.and_eq_true,Nat.blt_eq]at hdn
     obtain⟨F',hF'⟩:=h.tupTo hq hdn.1 hdn.2
     unfold Oper.wp
     simp only[execOp,ho,Sem.run_pure,Oper.upon]
     rw[hd]
     exact hK w _ X F' _ hs hF' (by rw[←hd];exact h.fact (Old.refl w))
    ·cases hs
   ·split at hs
    ·rename_i r0 d hv hd
     split at hs
     ·rename_i hdn
      simp only[Bool.and_eq_true,Nat.blt_eq]at hdn
      rw[Zux]at hs
      refine(Zv2 h Zao ho hv).sound h hs.1 K Q fun v X' F' S w' hX hR hvt _ hold=> ?_
      rw[hd]
      exact hK w' _ X' _ _ hs.2 (hR.put hdn.1 hdn.2 hvt) (by rw[←hd];exact⟨hX,hold.1,hold.2.any,_,rfl⟩)
     ·cases hs
    ·cases hs
  ·split at hs
   ·rename_i r0 d hv hd
    split at hs
    ·rename_i hdn
     simp only[Bool.and_eq_true,Nat.blt_eq]at hdn
     rw[Zux]at hs
     refine Qej h Zao hC hv hs.1 K Q fun v X' F' S w' hX hR hvt _ hold=> ?_
     rw[hd]
     exact hK w' _ X' _ _ hs.2 (hR.put hdn.1 hdn.2 hvt) (by rw[←hd];exact⟨hX,hold.1,hold.2.any,_,rfl⟩)
    ·cases hs
   ·cases hs
 ·rename_i j b hg
  split at hs
  ·rename_i g d hj hd
   split at hs
   ·rename_i tg hch hdn
    simp only[Bool.and_eq_true,Nat.blt_eq]at hdn
    have key:=Q0r (Q:=Q) hC h hd hch hdn hs hK
    by_cases hb:Qi a (.m g)= .bool b
    ·have hglt:g<a.tmps.size:=by
      have hb':a.tmps.getD g undef= .bool b:=hb
      rcases Nat.lt_or_ge g a.tmps.size with h'|h'
      ·exact h'
      ·rw[Array.getD_eq_getD_getElem?,Array.getElem?_eq_none h']at hb';cases hb'
     have hy:Region.wanted o (yielded ops a.tmps)=true:=by
      have hb':a.tmps[g]? =some (.bool b):=by
       have hb':a.tmps.getD g undef= .bool b:=hb
       rw[Array.getD_eq_getD_getElem?,Array.getElem?_eq_getElem hglt]at hb'
       rw[Array.getElem?_eq_getElem hglt]
       simpa using hb'
      simp[Region.wanted,hg,yielded,hj,hb']
     rw[if_pos hy]
     exact key.1 hb
    ·have hy: ¬Region.wanted o (yielded ops a.tmps)=true:=by
      intro hy
      simp only[Region.wanted,hg,yielded,hj,Option.bind_some,beq_iff_eq]at hy
      apply hb
      split at hy
      ·rename_i c hc
       simp only[Option.some.injEq]at hy
       subst hy
       simp[Qi,Array.getD_eq_getD_getElem?,hc]
      ·cases hy
     rw[if_neg hy]
     exact key.2 hb
   ·cases hs
  ·cases hs
end
end Go.Am
namespace Go.Am
open Go.RowKit
def Zf6:Ty→Nat
 | .pair a b=>max (Zf6 a+1) (Zf6 b)
 | .arr _ t=>Zf6 t+1
 |_=>1
def eqB(P:Program):Ty→TypeId→List Field→Nat→Bool→Bool
 | .int _,e,_,_,true=>match P.underlying e with|some (.int _)=>Zr0 P e (.int .i64)|_=>false
 | .bool,e,_,_,true=>match P.underlying e with|some .bool=>Zr0 P e .bool|_=>false
 | .str,e,_,_,true=>match P.underlying e with|some .string=>Zr0 P e .str|_=>false
 | .unit,e,_,_,true=>match P.underlying e with|some (.struct fs)=>fs.toList.isEmpty&& !P.stoodInHeld e&&Zr0 P e .unit|_=>false
 | .pair a b,e,_,_,true=>match P.underlying e with
  |some (.struct fs)=>match fs.toList with
   | f :: r => !P.stoodInHeld e && Zr0 P e (.pair a b) && f.name != "_" && Nat.beq f.offset 0 && eqB P a f.type [] 0 true && eqB P b 0 r a.size false
   | []=>false
  |_=>false
 | .arr n t,e,_,_,true=>match P.underlying e with
  |some (.array m e2)=>Nat.beq m n&&Zr0 P e (.arr n t)&&eqB P t e2 [] 0 true
  |_=>false
 | .unit,_,fs,_,false=>fs.isEmpty
 | .pair a b,_,fs,off,false=>match fs with
  | f :: r => f.name != "_" && Nat.beq f.offset off && eqB P a f.type [] 0 true && eqB P b 0 r (off + a.size) false
  | []=>false
 |_,_,_,_,_=>false
section
variable {P:Program}
theorem Qvv{T:Ty}{e:TypeId}{fs:List Field}{off:Nat}(h:eqB P T e fs off true=true): ∃i,P.info? e=some i∧i.size=T.size:=by
 have key: ∀U:Ty,U.size=T.size→Zr0 P e U=true→ ∃i,P.info? e=some i∧i.size=T.size:=fun U hU hs=>by
  obtain⟨i,h1,h2,_⟩:=Zkv hs
  exact⟨i,h1,by rw[h2,hU]⟩
 cases T<;>simp only[eqB]at h
 case int k=>split at h<;>first|exact key _ rfl h|cases h
 case bool=>split at h<;>first|exact key _ rfl h|cases h
 case str=>split at h<;>first|exact key _ rfl h|cases h
 case unit=>
  split at h
  ·simp only[Bool.and_eq_true]at h;exact key _ rfl h.2
  ·cases h
 case pair a b=>
  split at h
  ·split at h
   ·simp only[Bool.and_eq_true]at h;exact key _ rfl h.1.1.1.1.2
   ·cases h
  ·cases h
 case arr n t=>
  split at h
  ·simp only[Bool.and_eq_true]at h;exact key _ rfl h.1.2
  ·cases h
 case slice=>cases h
 case fnc=>cases h
 case err=>cases h
 case hid=>cases h
 case sptr=>cases h
 case clo=>cases h
theorem Q4m{T:Ty}{e:TypeId}{fs:List Field}{off:Nat}(h:eqB P T e fs off true=true)(w:World): (Go.isAgg e).run P w= .ok T.isAgg w:=by
 cases T<;>simp only[eqB]at h
 case int k=>split at h<;>first| (rename_i hu;simp[Go.isAgg,run_underlying hu,Ty.isAgg])|cases h
 case bool=>split at h<;>first| (rename_i hu;simp[Go.isAgg,run_underlying hu,Ty.isAgg])|cases h
 case str=>split at h<;>first| (rename_i hu;simp[Go.isAgg,run_underlying hu,Ty.isAgg])|cases h
 case unit=>split at h<;>first| (rename_i hu;simp[Go.isAgg,run_underlying hu,Ty.isAgg])|cases h
 case pair a b=>split at h<;>first| (rename_i hu;simp[Go.isAgg,run_underlying hu,Ty.isAgg])|cases h
 case arr n t=>split at h<;>first| (rename_i hu;simp[Go.isAgg,run_underlying hu,Ty.isAgg])|cases h
 case slice=>cases h
 case fnc=>cases h
 case err=>cases h
 case hid=>cases h
 case sptr=>cases h
 case clo=>cases h
theorem Qxs{T:Ty}{e:TypeId}{fs:List Field}{off:Nat}(h:eqB P T e fs off true=true)(w:World): (Go.sizeOf e).run P w= .ok T.size w:=by
 obtain⟨i,hi,hs⟩:=Qvv h
 simp[Go.sizeOf,typeInfo,hi,hs]
theorem Qde{T:Ty}{e:TypeId}{fs:List Field}{off':Nat}(h:eqB P T e fs off' true=true)(w:World){xs:Array Value}{off:Nat}{pre u post:List Value}(hx:xs.toList=pre++ (u++post))(ho:pre.length=off)(hu:u.length=T.size):
  (part e xs off).run P w= .ok (Xz T u) w:=by
 unfold part
 simp only[Sem.run_bind,Q4m h w,Result.andThen_ok]
 cases ha:T.isAgg
 ·have h1:=Qdh ha
  rw[h1]at hu
  obtain⟨v,rfl⟩:=List.length_eq_one_iff.1 hu
  have:xs[off]? =some v:=by
   rw[←Array.getElem?_toList,hx,←ho];simp
  have hp:Xz T [v]=v:=by cases T<;>simp[Ty.isAgg]at ha<;>rfl
  simp[this,hp]
 ·simp only[if_true,Sem.run_bind,Qxs h w,Result.andThen_ok,Sem.run_pure]
  have he:xs.extract off (off+T.size)=u.toArray:=by
   apply Array.toList_inj.mp
   rw[Array.toList_extract,hx,←ho,←hu]
   simp
  have hp:Xz T u= .agg u.toArray:=by cases T<;>simp[Ty.isAgg]at ha<;>rfl
  rw[he,hp]
theorem Zrt{X Y:Nat→Prop}{B:Nat}{w2 w3:World}: ∀(T:Ty),
  (∀(e:TypeId) (fs:List Field) (off d:Nat) (w:World) (x y:T.den) (u v:List Value),eqB P T e fs off true=true→Zf6 T≤d+1→rd w2 X B false T x u []→rd w3 Y B false T y v []→
   (Op.equalIn (d+1) e (Xz T u) (Xz T v)).run P w= .ok (eqV T x y) w)∧
  (∀(e:TypeId) (fs:List Field) (off d:Nat) (w:World) (x y:T.den) (u v pu pv:List Value),eqB P T e fs off false=true→Zf6 T≤d+1→rd w2 X B false T x u []→rd w3 Y B false T y v []→pu.length=off→pv.length=off→
   (Op.eqFields d (pu++u).toArray (pv++v).toArray fs).run P w= .ok (eqV T x y) w)
 | .int k=>by
   refine⟨fun e fs off d w x y u v h _ hx hy=> ?_,fun e fs off d w x y u v pu pv h=>by simp[eqB]at h⟩
   simp only[eqB]at h
   split at h
   ·rename_i k' hu
    rw[hx.1,hy.1]
    exact run_equalIn_int w d e k k' x y hu
   ·cases h
 | .bool=>by
   refine⟨fun e fs off d w x y u v h _ hx hy=> ?_,fun e fs off d w x y u v pu pv h=>by simp[eqB]at h⟩
   simp only[eqB]at h
   split at h
   ·rename_i hu
    rw[hx.1,hy.1]
    exact run_equalIn_bool' w d e x y hu
   ·cases h
 | .str=>by
   refine⟨fun e fs off d w x y u v h _ hx hy=> ?_,fun e fs off d w x y u v pu pv h=>by simp[eqB]at h⟩
   simp only[eqB]at h
   split at h
   ·rename_i hu
    rw[hx.1,hy.1]
    have:=run_equalIn_string w d e ⟨⟨x⟩⟩ ⟨⟨y⟩⟩ hu
    rw[ByteArray.toList_eq,ByteArray.toList_eq]at this
    exact this
   ·cases h
 | .unit=>by
   refine⟨fun e fs off d w x y u v h _ hx hy=> ?_,fun e fs off d w x y u v pu pv h _ hx hy _ _=> ?_⟩
   ·simp only[eqB]at h
    split at h
    ·rename_i fs hu
     simp only[Bool.and_eq_true,Bool.not_eq_true']at h
     have hf:P.fieldsOf e=fs:=by unfold Program.fieldsOf;rw[hu]
     rw[hx.1,hy.1]
     show(Op.equalIn (d+1) e (.agg #[]) (.agg #[])).run P w=_
     rw[run_equalIn_struct w d e #[] #[] (by rw[hf];exact hu) h.1.2,hf]
     have:fs.toList=[]:=by simpa using h.1.1
     rw[this]
     rfl
    ·cases h
   ·have:fs=[]:=by simpa[eqB]using h
    rw[this]
    rfl
 | .pair a b=>by
   have fields : ∀ (f : Field) (r : List Field) (off d : Nat) (w : World) (x y : (Ty.pair a b).den) (u v pu pv : List Value), f.name ≠ "_" → f.offset = off → eqB P a f.type [] 0 true = true → eqB P b 0 r (off + a.size) false = true →
     Zf6 (.pair a b)≤d+1→rd w2 X B false (.pair a b) x u []→rd w3 Y B false (.pair a b) y v []→pu.length=off→pv.length=off→
     (Op.eqFields d (pu++u).toArray (pv++v).toArray (f::r)).run P w= .ok (eqV (.pair a b) x y) w:=by
    intro f r off d w x y u v pu pv h1 h2 h3 h4 hd hx hy hpu hpv
    obtain⟨u1,u2,S1,S2,rfl,hS,hu1,hu2⟩:=hx
    obtain⟨v1,v2,T1,T2,rfl,hT,hv1,hv2⟩:=hy
    have hS:=List.append_eq_nil_iff.1 hS.symm
    have hT:=List.append_eq_nil_iff.1 hT.symm
    obtain⟨rfl,rfl⟩:=hS
    obtain⟨rfl,rfl⟩:=hT
    simp only[Zf6]at hd
    have hd1:Zf6 a+1≤d+1:=Nat.le_trans (Nat.le_max_left _ _) hd
    have hd2:Zf6 b≤d+1:=Nat.le_trans (Nat.le_max_right _ _) hd
    cases d with
    |zero=>
     have:1≤Zf6 a:=by cases a<;>simp[Zf6];omega
     omega
    |succ d=>
     simp only[Op.eqFields,h1,ne_eq,not_false_eq_true,if_true,Sem.run_bind,h2]
     rw[Qde h3 w (u:=u1) (pre:=pu) (post:=u2) (by simp) hpu (Yj hu1)]
     simp only[Result.andThen_ok]
     rw[Qde h3 w (u:=v1) (pre:=pv) (post:=v2) (by simp) hpv (Yj hv1)]
     simp only[Result.andThen_ok]
     rw[(Zrt a).1 f.type [] 0 d w x.1 y.1 u1 v1 h3 (by omega) hu1 hv1]
     simp only[Result.andThen_ok]
     cases he:eqV a x.1 y.1
     ·simp[eqV,he]
     ·have:=(Zrt b).2 0 r (off+a.size) (d+1) w x.2 y.2 u2 v2 (pu++u1) (pv++v1) h4 hd2 hu2 hv2 (by simp[hpu,Yj hu1]) (by simp[hpv,Yj hv1])
      simp only[List.append_assoc]at this
      simp[eqV,he,this]
   refine⟨fun e fs off d w x y u v h hd hx hy=> ?_,fun e fs off d w x y u v pu pv h hd hx hy hpu hpv=> ?_⟩
   ·simp only[eqB]at h
    split at h
    ·rename_i fs hu
     split at h
     ·rename_i f r hfs
      simp only[Bool.and_eq_true,Bool.not_eq_true',bne_iff_ne,ne_eq]at h
      obtain⟨⟨⟨⟨⟨h1,_⟩,h3⟩,h4⟩,h5⟩,h6⟩:=h
      have hf:P.fieldsOf e=fs:=by unfold Program.fieldsOf;rw[hu]
      show(Op.equalIn (d+1) e (.agg u.toArray) (.agg v.toArray)).run P w=_
      rw[run_equalIn_struct w d e u.toArray v.toArray (by rw[hf];exact hu) h1,hf,hfs]
      exact fields f r 0 d w x y u v [] [] h3 (Nat.eq_of_beq_eq_true h4) h5 (by simpa using h6) hd hx hy rfl rfl
     ·cases h
    ·cases h
   ·simp only[eqB]at h
    split at h
    ·rename_i f r
     simp only[Bool.and_eq_true,bne_iff_ne,ne_eq]at h
     obtain⟨⟨⟨h3,h4⟩,h5⟩,h6⟩:=h
     exact fields f r off d w x y u v pu pv h3 (Nat.eq_of_beq_eq_true h4) h5 h6 hd hx hy hpu hpv
    ·cases h
 | .arr n t=>by
   refine⟨fun e fs off d w x y u v h hd hx hy=> ?_,fun e fs off d w x y u v pu pv h=>by simp[eqB]at h⟩
   simp only[eqB]at h
   split at h
   ·rename_i m e2 hu
    simp only[Bool.and_eq_true]at h
    obtain⟨⟨h1,_⟩,h3⟩:=h
    have:=Nat.eq_of_beq_eq_true h1
    subst this
    obtain⟨i,hi,hs⟩:=Qvv h3
    have hc:P.cellsOf e2=t.size:=by simp[Program.cellsOf,hi,hs]
    show(Op.equalIn (d+1) e (.agg u.toArray) (.agg v.toArray)).run P w=_
    rw[run_equalIn_array w d u.toArray v.toArray hu hi,hc]
    cases d with
    |zero=>
     have:1≤Zf6 t:=by cases t<;>simp[Zf6];omega
     simp only[Zf6]at hd
     omega
    |succ d=>
     simp only[Zf6]at hd
     have key: ∀(l l':List t.den) (k:Nat) (pu pv us vs:List Value),l.length=l'.length→pu.length=k*t.size→pv.length=k*t.size→Zbf (rd w2 X B false t) l us []→Zbf (rd w3 Y B false t) l' vs []→
       (Op.eqItems (d+1) e2 t.size (pu++us).toArray (pv++vs).toArray (List.range' k l.length)).run P w= .ok (eqL (eqV t) l l') w:=by
      intro l
      induction l with
      |nil=>intro l' k pu pv us vs hl _ _ _ _;cases l' with
       |nil=>simp[Op.eqItems,eqL]
       |cons=>simp at hl
      |cons a l ih=>
       intro l' k pu pv us vs hl hpu hpv hus hvs
       cases l' with
       |nil=>simp at hl
       |cons b l'=>
        obtain⟨u1,u2,S1,S2,rfl,hS,hu1,hu2⟩:=hus
        obtain⟨v1,v2,T1,T2,rfl,hT,hv1,hv2⟩:=hvs
        obtain⟨rfl,rfl⟩:=List.append_eq_nil_iff.1 hS.symm
        obtain⟨rfl,rfl⟩:=List.append_eq_nil_iff.1 hT.symm
        simp only[List.length_cons,List.range'_succ,Op.eqItems,Sem.run_bind]
        rw[Qde h3 w (u:=u1) (pre:=pu) (post:=u2) (by simp) hpu (Yj hu1)]
        simp only[Result.andThen_ok]
        rw[Qde h3 w (u:=v1) (pre:=pv) (post:=v2) (by simp) hpv (Yj hv1)]
        simp only[Result.andThen_ok]
        rw[(Zrt t).1 e2 [] 0 d w a b u1 v1 h3 (by omega) hu1 hv1]
        simp only[Result.andThen_ok]
        cases he:eqV t a b
        ·simp[eqL,he]
        ·have:=ih l' (k+1) (pu++u1) (pv++v1) u2 v2 (by simpa using hl) (by rw[List.length_append,hpu,Yj hu1,Nat.add_mul];omega) (by rw[List.length_append,hpv,Yj hv1,Nat.add_mul];omega) hu2 hv2
         simp only[List.append_assoc]at this
         simp[eqL,he,this]
     have:=key x y 0 [] [] u v (by rw[hx.1,hy.1]) (by simp) (by simp) hx.2 hy.2
     rw[hx.1]at this
     rw[List.range_eq_range']
     exact this
   ·cases h
 | .slice _ _=>⟨fun e fs off d w x y u v h=>by simp[eqB]at h,fun e fs off d w x y u v pu pv h=>by simp[eqB]at h⟩
 | .fnc _=>⟨fun e fs off d w x y u v h=>by simp[eqB]at h,fun e fs off d w x y u v pu pv h=>by simp[eqB]at h⟩
 | .err=>⟨fun e fs off d w x y u v h=>by simp[eqB]at h,fun e fs off d w x y u v pu pv h=>by simp[eqB]at h⟩
 | .hid _=>⟨fun e fs off d w x y u v h=>by simp[eqB]at h,fun e fs off d w x y u v pu pv h=>by simp[eqB]at h⟩
 | .sptr .. =>⟨fun e fs off d w x y u v h=>by simp[eqB]at h,fun e fs off d w x y u v pu pv h=>by simp[eqB]at h⟩
 | .clo .. =>⟨fun e fs off d w x y u v h=>by simp[eqB]at h,fun e fs off d w x y u v pu pv h=>by simp[eqB]at h⟩
theorem Qem.of{e:TypeId}{T:Ty}(h1:eqB P T e [] 0 true=true)(h2:P.eqGuardType P.depth e=false)(h3:T.isAgg=true)(h4:Zf6 T≤10000):Qem P e T:=by
 have hp: ∀u:List Value,Xz T u= .agg u.toArray:=fun u=>by cases T<;>simp[Ty.isAgg]at h3<;>rfl
 refine⟨fun w op p q u v=> ?_,fun w w2 w3 X Y B x y u v hx hy=> ?_,fun w w2 w3 X Y B x y u v hx hy=> ?_⟩
 ·rw[hp,hp];exact run_eqGuard_agg w op e p q _ _ h2
 ·have:=(Zrt (P:=P) (X:=X) (Y:=Y) (B:=B) (w2:=w2) (w3:=w3) T).1 e [] 0 9999 w x y u v h1 (by omega) hx hy
  rw[hp,hp]at this⊢
  rw[run_eql_struct,this]
  rfl
 ·have:=(Zrt (P:=P) (X:=X) (Y:=Y) (B:=B) (w2:=w2) (w3:=w3) T).1 e [] 0 9999 w x y u v h1 (by omega) hx hy
  rw[hp,hp]at this⊢
  rw[run_neq_struct,this]
  rfl
end
end Go.Am
namespace Go.Am
open Go.RowKit
inductive KT(s s':St):Tm→Tm→Prop where
 |junk (t):KT s s' t .junk
 |tup:KT s s' .tup .tup
 |val {T f g x}: (f=g∨Vq T f g=true)→KT s s' (.val T f x) (.val T g x)
 |box {e T f g x}: (f=g∨Vq T f g=true)→KT s s' (.box e T f x) (.box e T g x)
 |shp {T x}:KT s s' (.shp T x) (.shp T x)
 |ptr {r p}: (∃e T f x,s'.get (.m r)= .box e T f x)→KT s s' (.ptr r p) (.ptr r p)
 |aep {r p i}: (∃e T f x,s'.get (.m r)= .box e T f x)→KT s s' (.aep r p i) (.aep r p i)
 |pls {h l}: (∀q∈l,∃e T f x,s'.get (.m q.1)= .box e T f x)→KT s s' (.pls h l) (.pls h l)
 |bor {r p}:s.foul r=false→s'.get (.m r)≠ .junk→KT s s' (.bor r p) (.bor r p)
 |elp {r p i q}:s.foul r=false→s'.get (.m r)≠ .junk→KT s s' (.elp r p i q) (.elp r p i q)
section
variable {P:Program} {g:Y4} {W0:Zct g} {w w':World} {X X':Nat→Prop} {B B' n:Nat} {own:Bool} {s s':St} {F:Key→List Nat} {a:Act} {H H':List Nat} {o:Oper} {tg:Xm} {τ:Tab} {C:Cfg}
theorem R.weak(h:R n W0 w X F H s a)(hk: ∀k,KT s s' (s.get k) (s'.get k))(hc: ∀d i,s'.get (.c d i)≠ .junk→s'.get (.m d)= .tup)
  (hl: ∀p,p∈W0.fix→p.1∈s'.lent): ∃F',R n W0 w X F' H s' a:=by
 classical
 let F':Key→List Nat:=fun k=>if s'.get k= .junk then[]else F k
 have hF': ∀k b,b∈F' k→b∈F k:=fun k b hb=>by simp only[F']at hb;split at hb<;>simp_all
 have hFe: ∀{k},s'.get k≠ .junk→F' k=F k:=fun hk=>by simp[F',hk]
 have hva: ∀{r p v U},s'.get (.m r)≠ .junk→Yn w s F a r p v U→Yn w s' F' a r p v U:=by
  intro r p v U hne hv
  have hkr:=hk (.m r)
  unfold Yn at hv⊢
  split at hv
  ·rename_i T f x hg
   rw[hg]at hkr
   generalize ht:s'.get (.m r)=t at hkr hne
   cases hkr with
   |junk=>exact absurd rfl hne
   |val hs=>exact hv
  ·rename_i e T f x hg
   rw[hg]at hkr
   have:=hFe hne
   generalize ht:s'.get (.m r)=t at hkr hne
   cases hkr with
   |junk=>exact absurd rfl hne
   |box hs=>
    obtain⟨b,c,S,y,h1,h2⟩:=hv
    exact⟨b,c,S,y,by rw[this];exact h1,h2⟩
  ·exact hv.elim
 refine⟨F',{h with fix:=fun p hp=>⟨hl p hp,(h.fix p hp).2⟩,own:=fun k b hb=>h.own k b (hF' k b hb),nodup:=fun k=> ?_,disj:=fun k k' b hb hb'=>h.disj k k' b (hF' k b hb) (hF' k' b hb'),hdisj:=fun k b hb=>h.hdisj k b (hF' k b hb),comps:=fun d i hne=> ?_,slots:=fun k=> ?_}⟩
 ·simp only[F'];split
  ·simp
  ·exact h.nodup k
 ·refine⟨hc d i hne,(h.comps d i fun he=> ?_).2⟩
  have:=hk (.c d i)
  rw[he]at this
  generalize ht:s'.get (.c d i)=t at this hne
  cases this
  exact hne rfl
 ·have hs:=h.slots k
  have hkk:=hk k
  by_cases hne:s'.get k= .junk
  ·rw[hne];simp only[F',hne,if_true];rfl
  ·rw[hFe hne]
   generalize ht':s'.get k=t' at hkk hne
   generalize ht:s.get k=t at hkk hs
   cases hkk with
   |junk=>exact absurd rfl hne
   |tup=>exact hs
   |val hsub=>obtain⟨vs,h1,h2⟩:=hs;exact⟨vs,h1,Qwq hsub h2⟩
   |box hsub=>obtain⟨b,c,S',h1,h2,h3,h4⟩:=hs;exact⟨b,c,S',h1,h2,h3,Qwq hsub h4⟩
   |shp=>exact hs
   | @ptr r p hr=>
    obtain⟨e',T',g',x',hr⟩:=hr
    obtain⟨h0,e,T,f,x,b,S',h1,h2,h3⟩:=hs
    have hkr:=hk (.m r)
    rw[h1,hr]at hkr
    have:=hFe (k:= .m r) (by rw[hr];simp)
    cases hkr with
    |box hsub=>exact⟨h0,_,_,_,_,b,S',hr,by rw[this];exact h2,h3⟩
   | @aep r p i hr=>
    obtain⟨e',T',g',x',hr⟩:=hr
    obtain⟨h0,e,T,f,x,b,S',nn,t2,y,h1,h2,h3⟩:=hs
    have hkr:=hk (.m r)
    rw[h1,hr]at hkr
    have:=hFe (k:= .m r) (by rw[hr];simp)
    cases hkr with
    |box hsub=>exact⟨h0,_,_,_,_,b,S',nn,t2,y,hr,by rw[this];exact h2,h3⟩
   | @pls hh l hr=>
    obtain⟨h0,ad,us,h1,h2,h3,h4,h5⟩:=hs
    refine⟨h0,ad,us,h1,h2,h3,fun j q hq=> ?_,h5⟩
    obtain⟨u,hu,e,T,f,x,b,S',g1,g2,g3⟩:=h4 j q hq
    obtain⟨e',T',g',x',hr⟩:=hr q (List.mem_of_getElem? hq)
    have hkr:=hk (.m q.1)
    rw[g1,hr]at hkr
    have:=hFe (k:= .m q.1) (by rw[hr];simp)
    cases hkr with
    |box hsub=>exact⟨u,hu,_,_,_,_,b,S',hr,by rw[this];exact g2,g3⟩
   |bor hf hr=>
    obtain⟨h0,h1⟩:=hs
    obtain⟨U,h1⟩:=h1 hf
    exact⟨h0,fun _=>⟨U,hva hr h1⟩⟩
   |elp hf hr=>
    obtain⟨h0,h1⟩:=hs
    obtain⟨e,t,ad,m,cap,h1,h2⟩:=h1 hf
    exact⟨h0,fun _=>⟨e,t,ad,m,cap,hva hr h1,h2⟩⟩
def Z6o(s:St):Tm→Tm
 | .bor r p=>match s.foul r with|true=> .junk|false=> .bor r p
 | .elp r p i q=>match s.foul r with|true=> .junk|false=> .elp r p i q
 | .gd _ _ _=> .junk
 |t=>t
def Qtj(s:St):List (Key×Tm)→List (Key×Tm)
 | []=>[]
 | (k,t)::r=>(k,Z6o s t)::Qtj s r
def Qis(s:St):St:={env:=Qtj s s.env,dirty:=[],lent:=s.lent}
theorem Qm0(s:St)(k:Key): ∀l,Zow (Qtj s l) k=Z6o s (Zow l k)
 | []=>rfl
 | (j,t)::r=>by
  simp only[Qtj,Z7,Qm0 s k r]
  split<;>rfl
theorem R.clean(h:R n W0 w X F H s a): ∃F',R n W0 w X F' H (Qis s) a:=by
 have hg: ∀k,(Go.Am.Qis s).get k=Z6o s (s.get k):=fun k=>Qm0 s k s.env
 have hroot: ∀{r p v U},Yn w s F a r p v U→(Go.Am.Qis s).get (.m r)≠ .junk:=by
  intro r p v U hv
  rw[hg]
  unfold Yn at hv
  split at hv
  ·rename_i hr;rw[hr];simp[Z6o]
  ·rename_i hr;rw[hr];simp[Z6o]
  ·exact hv.elim
 refine h.weak (fun k=> ?_) (fun d i hne=> ?_) (fun p hp=>(h.fix p hp).1)
 ·rw[hg]
  have hs:=h.slots k
  cases ht:s.get k with
  |junk=>exact .junk _
  |tup=>exact .tup
  |val=>exact .val (.inl rfl)
  |box=>exact .box (.inl rfl)
  |shp=>exact .shp
  |ptr r p=>
   rw[ht]at hs
   obtain⟨h0,e,T,f,x,b,S',h1,h2,h3⟩:=hs
   exact .ptr ⟨e,T,f,x,by rw[hg,h1];rfl⟩
  |aep r p i=>
   rw[ht]at hs
   obtain⟨h0,e,T,f,x,b,S',n,t2,y,h1,h2,h3⟩:=hs
   exact .aep ⟨e,T,f,x,by rw[hg,h1];rfl⟩
  |pls hh l=>
   rw[ht]at hs
   obtain⟨h0,ad,us,h1,h2,h3,h4,h5⟩:=hs
   refine .pls fun q hq=> ?_
   obtain⟨j,hj⟩:=List.getElem?_of_mem hq
   obtain⟨u,hu,e,T,f,x,b,S',g1,g2,g3⟩:=h4 j q hj
   exact⟨e,T,f,x,by rw[hg,g1];rfl⟩
  |bor r p=>
   rw[ht]at hs
   simp only[Z6o]
   split
   ·exact .junk _
   ·rename_i hf
    obtain⟨U,h1⟩:=hs.2 hf
    exact .bor hf (hroot h1)
  |elp r p i q=>
   rw[ht]at hs
   simp only[Z6o]
   split
   ·exact .junk _
   ·rename_i hf
    obtain⟨_,_,_,_,_,h1,_⟩:=hs.2 hf
    exact .elp hf (hroot h1)
  |gd=>exact .junk _
 ·rw[hg]at hne⊢
  have:=(h.comps d i fun he=>by rw[he]at hne;exact hne rfl).1
  rw[this];rfl
theorem Qmr(h:R n W0 w X F H s a)(ht:tg.ok a){x:Operand}(ho:o.op= .assign x){r:Res}(hr:Ztl τ s tg o.type x=some r)(hm:r.moved=false):W1 P τ W0 w X F s a o r:=by
 unfold Ztl at hr
 have take: ∀{k t u},op1 s tg x= .tm k t→Qjh s (.tm k t)=some u→u.moved=false→W1 P τ W0 w X F s a o ⟨.val u.T u.f u.x,u.s,u.moved,none⟩:=by
  intro k t u hx hu hm
  rw[←hx]at hu
  obtain⟨F',S,vs,h1,h2,h3,h4,_⟩:=Z3d h ht hu
  obtain⟨e1,e2,e3⟩:=h4 hm
  subst e3
  exact Yk e1 fun _=>⟨_,fun w' _=>by simp[execOp,ho],vs,h1,h2⟩
 split at hr
 ·rename_i v hv
  cases x<;>simp only[op1]at hv<;>cases hv
  obtain⟨h1,h2⟩:=Zxj (w:=w) (X:=X) (B:=W0.B) (s:=s) (F:=F) (a:=a) hr
  exact Yk h1 fun _=>⟨_,fun w' _=>by simp[execOp,ho,Act.eval],h2⟩
 ·rename_i f hv
  cases x<;>simp only[op1]at hv<;>cases hv
  simp only[Option.some.injEq]at hr
  subst hr
  exact Yk rfl fun _=>⟨_,fun w' _=>by simp[execOp,ho,Act.eval],Qu1 f⟩
 ·rename_i k t hx
  split at hr
  ·split at hr
   ·rename_i u hu
    simp only[Option.some.injEq]at hr
    subst hr
    exact take hx hu hm
   ·cases hr
  ·split at hr
   ·rename_i u hu
    simp only[Option.some.injEq]at hr
    subst hr
    exact take hx hu hm
   ·cases hr
  ·obtain⟨h1,h2⟩:=Zqt h ht hx hr
   exact Yk h1 fun _=>⟨_,fun w' _=>by simp[execOp,ho],h2⟩
 ·cases hr
def Ql9(C:Cfg)(s:St)(tg:Xm)(o:Oper):Option Res:=
 match o.op with
 | .move x=>Qch C.τ s tg o.type x
 | .assign x=>match Ztl C.τ s tg o.type x with
  |some r=>match r.moved with|false=>some r|true=>none
  |none=>none
 | .pick c x y=>Ql8 C.τ s tg o.type c x y
 | .load e x=>Ql6 C.τ s tg e x
 | .binOp op e x y e2=>match C.τ e with
  |some (.pair _ _)|some (.arr _ _)=>Qzi C s tg op e x y
  |_=>Qte C.τ s tg op e x y e2
 | .unOp op e x=>Qz6 C.τ s tg op e x
 | .convert e e2 x=>Ql3 C.τ s tg e e2 x
 | .nilCheck x=>Zu3 s tg x
 | .fieldAddr e x i=>Qb1 C.τ s tg e x i
 | .indexAddr e x i=>Zs4 C.τ s tg e x i
 | .index e x i=>Qb6 C.τ s tg e x i
 | .call {callee:= .builtin .len,args:=⟨[x]⟩,argTypes:=⟨[e]⟩}=>Quf C.τ s tg e x
 | .call {callee:= .builtin .min,args:=⟨[x,y]⟩,argTypes:=⟨[e,_]⟩}=>Qgj s tg e C.τ x y false
 | .call {callee:= .builtin .max,args:=⟨[x,y]⟩,argTypes:=⟨[e,_]⟩}=>Qgj s tg e C.τ x y true
 |_=>none
theorem Zq5(h:R n W0 w X F H s a)(ht:tg.ok a)(hC:C.ok P g){r:Res}(hr:Ql9 C s tg o=some r):W1 P C.τ W0 w X F s a o r:=by
 unfold Ql9 at hr
 split at hr
 ·rename_i ho;exact Zv2 h ht ho hr
 ·rename_i ho
  split at hr
  ·rename_i r0 hr0
   split at hr
   ·rename_i hm
    simp only[Option.some.injEq]at hr
    subst hr
    exact Qmr h ht ho hr0 hm
   ·cases hr
  ·cases hr
 ·rename_i ho;exact Z6e h ht ho hr
 ·rename_i ho;exact Z6b h ht hC.τ ho hr
 ·rename_i ho
  split at hr
  ·exact Zuw h ht hC ho hr
  ·exact Zuw h ht hC ho hr
  ·exact Z97 h ht hC.τ ho hr
 ·rename_i ho;exact Qjj h ht ho hr
 ·rename_i ho;exact Z52 h ht hC.τ ho hr
 ·rename_i ho;exact Zu4 h ht ho hr
 ·rename_i ho;exact Z05 h ht hC.τ ho hr
 ·rename_i ho;exact Ztt h ht hC.τ ho hr
 ·rename_i ho;exact Z1e h ht hC.τ ho hr
 ·rename_i ho;exact Qca h ht hC.τ ho hr
 ·rename_i ho;exact Zs6 h ht (mx:=false) ho hr
 ·rename_i ho;exact Zs6 h ht (mx:=true) ho hr
 ·cases hr
noncomputable def Qic{ρ:Type}(C:Cfg)(n:Nat)(ops:Array Oper)(o:Oper)(s:St)(k:St→Option ρ):Option ρ:=
 match o.guard with
 |none=>match Ql9 C s [] o,o.dst with
  |some r,some d=>match J1 s d&&Nat.blt d n with
   |true=>Qov r.obl (k (Yo s d r.t))
   |false=>none
  |_,_=>none
 |some (j,b)=>match(ops[j]?).bind (·.dst),o.dst with
  |some g,some d=>match Qaa s 8 g b,J1 s d&&Nat.blt d n with
   |some tg,true=>match Ql9 C s tg o with
    |some r=>Qu0 s tg r.obl (k (Yo s d (.gd g b r.t)))
    |none=>none
   |_,_=>none
  |_,_=>none
theorem Qux{ρ:Type}(hC:C.ok P g){ops:Array Oper}(h:R n W0 w X F [] s a){k:St→Option ρ}{r:ρ}(hs:Qic C n ops o s k=some r){K:Act→Prop}
  (hK: ∀a' F' s',k s'=some r→R n W0 w X F' [] s' a'→K a'):if Region.wanted o (yielded ops a.tmps)then o.still P a w K else K (a.put o.dst undef):=by
 unfold Qic at hs
 split at hs
 ·rename_i hg
  rw[if_pos (by simp[Region.wanted,hg])]
  split at hs
  ·rename_i r0 d hv hd
   split at hs
   ·rename_i hdn
    simp only[Bool.and_eq_true,Nat.blt_eq]at hdn
    rw[Zux]at hs
    obtain⟨_,hp⟩:=Zq5 h Zao hC hv
    obtain⟨v,h1,h2⟩:=hp hs.1
    unfold Oper.still
    rw[h1 w (Dep.refl _ _ _ _ _ w),Oper.stillUpon_value,hd]
    exact hK _ _ _ hs.2 ((by simpa using h:R n W0 w X F ([]++ []) s a).put hdn.1 hdn.2 h2)
   ·cases hs
  ·cases hs
 ·rename_i j b hg
  split at hs
  ·rename_i g d hj hd
   split at hs
   ·rename_i tg hch hdn
    simp only[Bool.and_eq_true,Nat.blt_eq]at hdn
    have hgj:=Qew hch
    split at hs
    ·rename_i r0 hv
     obtain⟨hk,hob⟩:=Zy4 h hs
     by_cases hb:Qi a (.m g)= .bool b
     ·have ht:=Zrq h hch hb
      have hglt:g<a.tmps.size:=by
       have hb':a.tmps.getD g undef= .bool b:=hb
       rcases Nat.lt_or_ge g a.tmps.size with h'|h'
       ·exact h'
       ·rw[Array.getD_eq_getD_getElem?,Array.getElem?_eq_none h']at hb';cases hb'
      have hy:Region.wanted o (yielded ops a.tmps)=true:=by
       have hb':a.tmps[g]? =some (.bool b):=by
        have hb':a.tmps.getD g undef= .bool b:=hb
        rw[Array.getD_eq_getD_getElem?,Array.getElem?_eq_getElem hglt]at hb'
        rw[Array.getElem?_eq_getElem hglt]
        simpa using hb'
       simp[Region.wanted,hg,yielded,hj,hb']
      rw[if_pos hy]
      obtain⟨_,hp⟩:=Zq5 h ht hC hv
      obtain⟨v,h1,h2⟩:=hp (hob ht)
      unfold Oper.still
      rw[h1 w (Dep.refl _ _ _ _ _ w),Oper.stillUpon_value,hd]
      exact hK _ _ _ hk ((by simpa using h:R n W0 w X F ([]++ []) s a).put hdn.1 hdn.2 fun _=>⟨hgj,fun _=>h2,fun hne=>absurd hb hne⟩)
     ·have hy: ¬Region.wanted o (yielded ops a.tmps)=true:=by
       intro hy
       simp only[Region.wanted,hg,yielded,hj,Option.bind_some,beq_iff_eq]at hy
       apply hb
       split at hy
       ·rename_i c hc
        simp only[Option.some.injEq]at hy
        subst hy
        simp[Qi,Array.getD_eq_getD_getElem?,hc]
       ·cases hy
      rw[if_neg hy,hd]
      exact hK _ _ _ hk ((by simpa using h:R n W0 w X F ([]++ []) s a).put (S:=[]) hdn.1 hdn.2 fun _=>⟨hgj,fun hb'=>absurd hb' hb,fun _=>⟨rfl,rfl⟩⟩)
    ·cases hs
   ·cases hs
  ·cases hs
noncomputable def Qwz{ρ:Type}(C:Cfg)(n:Nat)(ops:Array Oper):List Oper→St→(St→Option ρ)→Option ρ
 | [],s,k=>k (Qis s)
 |o::r,s,k=>Qic C n ops o s fun s'=>Qwz C n ops r s' k
theorem Qp6{ρ:Type}(hC:C.ok P g){ops:Array Oper}{k:St→Option ρ}{r:ρ}{Q:Act→Prop}
  (hK: ∀a' F' s',k s'=some r→R n W0 w X F' [] s' a'→Q a'):
  ∀{l:List Oper} {s:St} {F:Key→List Nat} {a:Act},R n W0 w X F [] s a→Qwz C n ops l s k=some r→wpStill P ops w Q l a
 | [],s,F,a,h,hr=>by
  obtain⟨F',h'⟩:=h.clean
  exact wpStill_nil (hK a F' _ hr h')
 |o::l,s,F,a,h,hr=>by
  refine wpStill_step fun K hKK=> ?_
  exact Qux hC h hr fun a' F' s' hk hR=>hKK _ (Qp6 hC hK hR hk)
end
end Go.Am
namespace Go.Am
open Go.RowKit
section
variable {P:Program} {ops:Array Oper}
def QF:Exit→Act→World→Prop:=fun _ _ _=>False
theorem Q9r{o:Oper}{a:Act}{w:World}{K:Act→World→Prop}{Q:Exit→Act→World→Prop}(h:o.wp P a w K QF):o.wp P a w K Q:=by
 unfold Oper.wp at*
 generalize (execOp a.eval o).run P w=r at*
 cases r with
 |ok n w'=>
  cases n<;>simp only[Oper.upon]at h⊢ <;>first
   |exact h
   | (
    refine Calls.mono h fun e w'' he=> ?_
    cases e with
    |returned v=>exact he
    |panicked c=>exact he.elim
    |outgrown=>obtain⟨_,_,h⟩:=he;exact h.elim)
 |halt x w'=>cases x<;>simp only[Oper.upon]at h⊢ <;>exact h.elim
def Zna(P:Program)(ops:Array Oper)(I:World→Prop)(o:Oper)(v:Value)(a:Act):Prop:=
 (Region.wanted o (yielded ops a.tmps)=true∧ ∀w,I w→(execOp a.eval o).run P w= .ok (.value v) w)∨
 (Region.wanted o (yielded ops a.tmps)=false∧v=undef)
theorem Zna.same{I:World→Prop}{o:Oper}{v:Value}{a a':Act}(hy:Zna P ops I o v a)(he:execOp a'.eval o=execOp a.eval o)
  (hw:Region.wanted o (yielded ops a'.tmps)=Region.wanted o (yielded ops a.tmps)):Zna P ops I o v a':=by
 unfold Zna at*
 rw[he,hw]
 exact hy
theorem Zna.go{I:World→Prop}{o:Oper}{v:Value}{a:Act}{w:World}{i:Nat}(hi:ops[i]? =some o)(hy:Zna P ops I o v a)(hI:I w){K:Act→World→Prop}(h:K (a.put o.dst v) w):
  wpOp P ops QF i K a w:=by
 unfold wpOp
 simp only[hi]
 rcases hy with⟨hw,hv⟩| ⟨hw,rfl⟩
 ·simp only[hw,if_true,Oper.wp,hv w hI,Oper.upon];exact .inl h
 ·simp only[hw,Bool.false_eq_true,if_false];exact h
theorem Qwd{I:World→Prop}{j:Nat}{oi oj:Oper}{v:Value}(hj:ops[j]? =some oj)(hap:oi.apart ops oj=true)(hsi: ∀cs b,oi.op≠ .select cs b)(hsj: ∀cs b,oj.op≠ .select cs b)
  {K:Act→World→Prop} {a:Act} {w:World} (hy:Zna P ops I oi v a) (h:wpOp P ops QF j K (a.put oi.dst v) w):
  wpOp P ops QF j (fun a' w'=>Zna P ops I oi v a'∧K (a'.put oi.dst v) w') a w:=by
 obtain⟨h1,h2,h3⟩:=Oper.apart_spec hap
 have keep: ∀a:Act,Zna P ops I oi v a→ ∀u,Zna P ops I oi v (a.put oj.dst u):=fun a hy u=>hy.same (execOp_put oi hsi a oj.dst u h3) (wanted_put oi a oj.dst u h3)
 unfold wpOp at*
 simp only[hj]at*
 rw[wanted_put oj a oi.dst v h1]at h
 split
 ·rename_i hw
  simp only[hw,if_true]at h
  rcases h with h| ⟨_,_,_,h⟩
  ·refine .inl ?_
   unfold Oper.wp at*
   rw[execOp_put oj hsj a oi.dst v h1]at h
   generalize (execOp a.eval oj).run P w=r at*
   cases r with
   |ok n w'=>
    cases n<;>simp only[Oper.upon]at h⊢
    case value u=>exact⟨keep a hy u,by rw[←Act.put_comm a v u h2];exact h⟩
    case skip=>exact⟨keep a hy _,by rw[←Act.put_comm a v undef h2];exact h⟩
    case defer d=>
     refine⟨keep {a with defers:=d::a.defers} (hy.same rfl rfl) _,?_⟩
     rw[←Act.put_comm _ v undef h2,←Act.put_defers]
     exact h
    case enter f args=>
     refine Calls.mono h fun e w'' he=> ?_
     cases e with
     |returned u=>exact⟨keep a hy u,by rw[←Act.put_comm a v u h2];exact he⟩
     |panicked c=>exact he.elim
     |outgrown=>exact he
    case row row args=>exact Rows.mono h fun u w'' he=>⟨keep a hy u,by rw[←Act.put_comm a v u h2];exact he⟩
   |halt x w'=>cases x<;>simp only[Oper.upon]at h⊢ <;>exact h.elim
  ·exact h.elim
 ·rename_i hw
  simp only[hw]at h
  exact⟨keep a hy _,by rw[←Act.put_comm a v undef h2];exact h⟩
def Q7h(C:Cfg):Op→Bool
 | .call {callee:= .value fo,..}=>match fo with
  | .func f=>match C.ΓB.find f with|some _=>false|none=>true
  |_=>match C.ΓB with| []=>true|_::_=>false
 |_=>true
def Qpu(C:Cfg)(op:Op):Bool:=Qyo op&&Q7h C op
def Z82(C:Cfg)(ops:Array Oper)(i:Nat):Bool:=match ops[i]? with|some o=>Qpu C o.op|none=>true
def Q6v(bx:List Nat)(Sh:Nat→Prop)(a:Act)(w w':World):Prop:= ∀b,(Sh b∨ ∃r∈bx,Qi a (.m r)= .pointer (some ⟨b,0,none⟩))→w'.heap[b]? =w.heap[b]?
structure Qen(pr:Nat→Bool)(bx:Nat→List Nat)(Sh:Nat→Prop)(i:Nat)(a:Act)(w w':World):Prop where
 pres:pr i=true→Old w w'
 hold:Q6v (bx i) Sh a w w'
def Q4f(ops:Array Oper)(i:Nat)(a a':Act):Prop:= ∀k,(ops[i]?).bind (·.dst)≠some k→Qi a' (.m k)=Qi a (.m k)
theorem Qqc{a:Act}{d:Option Nat}{v:Value}{k:Nat}(h:d≠some k):Qi (a.put d v) (.m k)=Qi a (.m k):=by
 cases d with
 |none=>rfl
 |some d=>exact Za2 (by simpa[Key.t]using fun e=>h (by rw[e]))
theorem Q1n{K:Act→World→Prop}{i:Nat}{a:Act}{w:World}(h:wpOp P ops QF i K a w):wpOp P ops QF i (fun a' w'=>Q4f ops i a a'∧K a' w') a w:=by
 unfold wpOp at*
 split
 ·rename_i ho
  simp only[ho]at h
  exact⟨fun _ _=>rfl,h⟩
 ·rename_i o ho
  have puts: ∀v,Q4f ops i a (a.put o.dst v):=fun v k hk=>Qqc (by simpa[ho]using hk)
  simp only[ho]at h
  split
  ·rename_i hw
   simp only[hw,if_true]at h
   rcases h with h| ⟨_,_,_,h⟩
   ·refine .inl ?_
    unfold Oper.wp at*
    generalize (execOp a.eval o).run P w=r at*
    cases r with
    |ok n w'=>
     cases n<;>simp only[Oper.upon]at h⊢
     case value u=>exact⟨puts _,h⟩
     case skip=>exact⟨puts _,h⟩
     case defer d=>exact⟨fun k hk=>(Qqc (a:={a with defers:=d::a.defers}) (d:=o.dst) (by simpa[ho]using hk)).trans rfl,h⟩
     case enter f args=>
      refine Calls.mono h fun e w'' he=> ?_
      cases e with
      |returned u=>exact⟨puts _,he⟩
      |panicked c=>exact he.elim
      |outgrown=>exact he
     case row row args=>exact Rows.mono h fun u w'' he=>⟨puts _,he⟩
    |halt x w'=>cases x<;>simp only[Oper.upon]at h⊢ <;>exact h.elim
   ·exact h.elim
  ·rename_i hw
   simp only[hw]at h
   exact⟨puts _,h⟩
def Zy5(P:Program)(ops:Array Oper)(Qn:Act→World→Prop)(pr:Nat→Bool)(bx:Nat→List Nat)(Sh:Nat→Prop):Nat→Array Bool→Act→World→Prop
 |0,listed,a,w=>Region.ready .any ops listed=[]∧Qn a w
 |fuel+1,listed,a,w=>
  (Region.ready .any ops listed=[]→Qn a w)∧
  ∀i∈Region.ready .any ops listed,wpOp P ops QF i (fun a' w'=>Qen pr bx Sh i a w w'∧Zy5 P ops Qn pr bx Sh fuel (listed.setIfInBounds i true) a' w') a w
theorem Qjk{Qn:Act→World→Prop}{pr:Nat→Bool}{bx:Nat→List Nat}{Sh Sh':Nat→Prop}(hs: ∀b,Sh b→Sh' b): ∀(fuel:Nat) (listed:Array Bool) (a:Act) (w:World),Zy5 P ops Qn pr bx Sh' fuel listed a w→Zy5 P ops Qn pr bx Sh fuel listed a w
 |0,_,_,_,h=>h
 |fuel+1,_,_,_,h=>⟨h.1,fun i hi=>wpOp_mono (fun a' w' ⟨h1,h2⟩=>⟨⟨h1.pres,fun b hb=>h1.hold b (hb.imp (hs b) id)⟩,Qjk hs fuel _ a' w' h2⟩) (h.2 i hi)⟩
theorem Qqr{Qn:Act→World→Prop}{pr:Nat→Bool}{bx:Nat→List Nat}{Sh:Nat→Prop}{Q:Exit→Act→World→Prop}(hq: ∀a w,Qn a w→Q .normal a w): ∀(fuel:Nat) (listed:Array Bool) (a:Act) (w:World),Zy5 P ops Qn pr bx Sh fuel listed a w→wpAny P .any ops Q fuel listed a w
 |0,_,_,_,h=>⟨h.1,hq _ _ h.2⟩
 |fuel+1,listed,a,w,h=>⟨fun hr=>hq _ _ (h.1 hr),fun i hi=>by
  have h2:=h.2 i hi
  have h3:wpOp P ops QF i (wpAny P .any ops Q fuel (listed.setIfInBounds i true)) a w:=wpOp_mono (fun a' w' h=>Qqr hq fuel _ a' w' h.2) h2
  unfold wpOp at h3⊢
  split
  ·simpa[*]using h3
  ·rename_i o ho
   simp only[ho]at h3
   split
   ·rename_i hw
    simp only[hw,if_true]at h3
    rcases h3 with h3| ⟨_,_,_,h3⟩
    ·exact .inl (Q9r h3)
    ·exact h3.elim
   ·rename_i hw;simp only[hw]at h3;exact h3⟩
theorem Qel{I:World→Prop}{J:Act→Prop}{pr:Nat→Bool}{bx:Nat→List Nat}{Sh:Nat→Prop}{i:Nat}{oi:Oper}{v:Value}{Qn:Act→World→Prop}(hi:ops[i]? =some oi)(hsel: ∀(j:Nat) (o:Oper) cs b,ops[j]? =some o→o.op≠ .select cs b)
  (hdi: ∀j,∀r∈bx j,oi.dst≠some r):
  ∀(fuel:Nat) (listed:Array Bool) (a:Act) (w:World),I w→J a→
   (∀j oj,ops[j]? =some oj→j≠i→listed.getD j true=false→(∀e∈oj.after,Region.binds .any e=true→e.on≠i)→oi.apart ops oj=true∧ ∀a a' w w',J a→I w→Qen pr bx Sh j a w w'→Q4f ops j a a'→I w'∧J a')→
   i∈Region.ready .any ops listed→Zna P ops I oi v a→
   Zy5 P ops Qn pr bx Sh fuel (listed.setIfInBounds i true) (a.put oi.dst v) w→Zy5 P ops Qn pr bx Sh (fuel+1) listed a w
 |0,_,_,w,hI,hJa,hfree,hr,hy,H=>by
  refine⟨fun h=>(by rw[h]at hr;cases hr),fun j hj=> ?_⟩
  by_cases hji:j=i
  ·subst hji;exact hy.go hi hI ⟨⟨fun _=>Old.refl w,fun _ _=>rfl⟩,H⟩
  ·have:=ready_mono hj hji
   rw[H.1]at this
   cases this
 |fuel+1,listed,a,w,hI,hJa,hfree,hr,hy,H=>by
  refine⟨fun h=>(by rw[h]at hr;cases hr),fun j hj=> ?_⟩
  by_cases hji:j=i
  ·subst hji;exact hy.go hi hI ⟨⟨fun _=>Old.refl w,fun _ _=>rfl⟩,H⟩
  ·have h1:=H.2 j (ready_mono hj hji)
   obtain⟨hjun,oj,hoj,hall⟩:=mem_ready.1 hj
   have hnot: ∀e∈oj.after,Region.binds .any e=true→e.on≠i:=fun e he hb heq=>by
    have h1:=hall e he hb
    have h0:=(mem_ready.1 hr).1
    rw[heq]at h1
    rcases Nat.lt_or_ge i listed.size with h'|h'
    ·simp[h']at h0 h1;rw[h0]at h1;cases h1
    ·simp[Array.getElem?_eq_none h']at h1
   obtain⟨hap,hpres⟩:=hfree j oj hoj hji hjun hnot
   obtain⟨hap1,hap2,_⟩:=Oper.apart_spec hap
   have h2:=Qwd hoj hap (fun cs b=>hsel i oi cs b hi) (fun cs b=>hsel j oj cs b hoj) hy h1
   have hfree': ∀k ok,ops[k]? =some ok→k≠i→(listed.setIfInBounds j true).getD k true=false→(∀e∈ok.after,Region.binds .any e=true→e.on≠i)→
     oi.apart ops ok=true∧ ∀a a' w w',J a→I w→Qen pr bx Sh k a w w'→Q4f ops k a a'→I w'∧J a':=fun k ok hk hki hun hno=>by
    refine hfree k ok hk hki ?_ hno
    by_cases hjk:j=k
    ·subst hjk;exact hjun
    ·rw[getD_set_ne true hjk]at hun;exact hun
   refine wpOp_mono (fun a' w' ⟨hputs,hya,hst,hwp⟩=> ?_) (Q1n h2)
   
   have hst':Qen pr bx Sh j a w w':=⟨hst.pres,fun b hb=>hst.hold b (hb.imp id fun⟨r,h1,h2⟩=>⟨r,h1,by rw[Qqc (hdi _ r h1)];exact h2⟩)⟩
   obtain⟨hI',hJb⟩:=hpres a a' w w' hJa hI hst' hputs
   refine⟨hst',Qel hi hsel hdi fuel (listed.setIfInBounds j true) a' w' hI' hJb hfree' (ready_mono hr (Ne.symm hji)) hya ?_⟩
   rw[Array.setIfInBounds_comm _ _ hji]
   exact hwp
theorem Old.trans{a b c:World}(h:Old a b)(k:Old b c):Old a c:=fun i hi=>by
 have hb:i<b.heap.size:=by
  have:=h i hi
  rw[Array.getElem?_eq_getElem hi]at this
  exact(Array.getElem?_eq_some_iff.1 this).1
 rw[k i hb,h i hi]
def Q2t(C:Cfg)(ops:Array Oper)(listed:Array Bool)(any:Nat→Bool)(i:Nat):Bool:=
 (List.range ops.size).all fun j=>Nat.beq j i||listed.getD j true|| (match ops[i]?,ops[j]? with
  |some oi,some oj=>(oj.after.any fun e=>Region.binds .any e&&Nat.beq e.on i)|| (oi.apart ops oj&& (any j||Qpu C oj.op))
  |_,_=>false)
theorem Qxy{C:Cfg}{listed:Array Bool}{any:Nat→Bool}{i j:Nat}{oi oj:Oper}(h:Q2t C ops listed any i=true)(hi:ops[i]? =some oi)(hj:ops[j]? =some oj)(hne:j≠i)(hl:listed.getD j true=false)
  (hno: ∀e∈oj.after,Region.binds .any e=true→e.on≠i):oi.apart ops oj=true∧(any j=true∨Qpu C oj.op=true):=by
 unfold Q2t at h
 rw[List.all_eq_true]at h
 have:=h j (List.mem_range.2 (Array.getElem?_eq_some_iff.1 hj).1)
 simp only[hi,hj,hl,Bool.or_false,Bool.or_eq_true,Bool.and_eq_true]at this
 rcases this with h1|h1|h1
 ·exact absurd (Nat.eq_of_beq_eq_true h1) hne
 ·rw[Array.any_eq_true']at h1
  obtain⟨e,he,hb⟩:=h1
  simp only[Bool.and_eq_true]at hb
  exact absurd (Nat.eq_of_beq_eq_true hb.2) (hno e he hb.1)
 ·exact⟨h1.1,by simpa using h1.2⟩
def Q7p(ops:Array Oper)(i:Nat):Bool:=
 match ops[i]? with
 |some o=>match o.op with
  | .move _| .assign _| .pick .. | .load .. | .binOp .. | .unOp .. | .convert .. | .nilCheck .. | .fieldAddr .. | .indexAddr .. | .index .. =>true
  | .call {callee:= .builtin .len,..}| .call {callee:= .builtin .min,..}| .call {callee:= .builtin .max,..}=>true
  |_=>false
 |none=>false
def Q89(s:St)(ops:Array Oper)(i:Nat):Bool:=
 match ops[i]? with
 |some o=>match o.op with
  | .move (.tmp q)=>match s.get (.m q)with
   | .tup=>false
   |_=>true
  |_=>true
 |none=>false
def Q6b(τ:Tab)(bx:List Nat)(s:St)(o:Oper):Bool:=match Q3j τ o.op with
 |false=>true
 |true=>match Zuv s o.op with
  |some (some r)=>bx.any (Nat.beq r)
  |some none=>true
  |none=>false
def Qgc(s:St)(r:Nat):Bool:=match s.get (.m r)with| .box _ _ _ _=>true|_=>false
theorem Z1f{s:St}{r:Nat}(h:Qgc s r=true):s.isBox r:=by
 unfold Qgc at h
 split at h
 ·rename_i e T f x hg;exact⟨e,T,f,x,hg⟩
 ·cases h
def Q60(τ:Tab)(s:St)(bx:List Nat)(o:Oper):Bool:=bx.all fun r=>Qgc s r&& (match Ql0 τ s o with|some q=> !(Nat.beq q r)|none=>true)
def Qet(ops:Array Oper):Nat→Nat→Nat
 |0,k=>k
 |f+1,k=>match ops.toList.find? (fun o=>match o.dst with|some d=>Nat.beq d k|none=>false)with
  |some o=>match o.op with
   | .fieldAddr _ (.tmp j) _=>Qet ops f j
   | .indexAddr _ (.tmp j) _=>Qet ops f j
   | .move (.tmp j)=>Qet ops f j
   | .nilCheck (.tmp j)=>Qet ops f j
   |_=>k
  |none=>k
def Q1z(s:St)(ops:Array Oper):List Nat:=
 let bs:=s.env.filterMap fun p=>match p.1,p.2 with
  | .m r,.box _ _ _ _=>if Qgc s r then some r else none
  |_,_=>none
 bs.filter fun r=>ops.toList.all fun o=>match o.dst with|some d=> !(Nat.beq d r)|none=>true
def Q6s(s:St)(ops:Array Oper)(k:Nat):Nat:=match s.get (.m (Qet ops ops.size k))with| .ptr r _=>r| .aep r _ _=>r|_=>Qet ops ops.size k
def Q7s(s:St)(ops:Array Oper)(o:Oper):List Nat:=match o.op with
 | .store _ (.tmp k) _=>[Q6s s ops k]
 | .call {callee:= .value _,args:=xs,..}=>xs.toList.filterMap fun x=>match x with| .tmp k=>some (Q6s s ops k)|_=>none
 |_=>[]
def Q61(s:St)(ops:Array Oper)(j:Nat):List Nat:=
 match ops[j]? with
 |some o=>(Q1z s ops).filter fun r=> !((Q7s s ops o).any (Nat.beq r))
 |none=>[]
theorem Q10{s:St}{ops:Array Oper}{i r j:Nat}{o:Oper}(hr:r∈Q61 s ops i)(ho:ops[j]? =some o):o.dst≠some r:=by
 unfold Q61 at hr
 have hr:r∈Q1z s ops:=by
  split at hr
  ·exact(List.mem_filter.1 hr).1
  ·cases hr
 unfold Q1z at hr
 have:=(List.mem_filter.1 hr).2
 rw[List.all_eq_true]at this
 have:=this o (by rw[←Array.getElem?_toList]at ho;exact List.mem_of_getElem? ho)
 intro e
 rw[e]at this
 simp at this
noncomputable def Z5{ρ:Type}(m1 m2:Option ρ):Option ρ:=by
 classical exact if m1=m2 then m1 else none
theorem Qxk{ρ:Type}{m1 m2:Option ρ}{r:ρ}(h:Z5 m1 m2=some r):m1=some r∧m2=some r:=by
 unfold Z5 at h
 split at h
 ·rename_i e;exact⟨h,by rw[←e];exact h⟩
 ·cases h
theorem Vd{ρ:Type}(m:Option ρ):Z5 m m=m:=by
 unfold Z5;rw[if_pos rfl]
noncomputable def Q4h{ρ:Type}:List (Option ρ)→Option ρ
 | []=>none
 | [m]=>m
 |m::n::r=>Z5 m (Q4h (n::r))
theorem Qr3{ρ:Type}: ∀{l:List (Option ρ)} {r:ρ},Q4h l=some r→ ∀m∈l,m=some r
 | [],r,h,m,hm=>by cases hm
 | [m],r,h,m',hm=>by simp only[List.mem_singleton]at hm;subst hm;exact h
 |m::n::q,r,h,m',hm=>by
  simp only[Q4h]at h
  obtain⟨h1,h2⟩:=Qxk h
  rcases List.mem_cons.1 hm with rfl|hm
  ·exact h1
  ·exact Qr3 h2 m' hm
def Qzb(C:Cfg)(s:St)(o:Oper):Option (FuncId×Array Operand):=
 match C.soft,o.guard,o.op with
 |false,none,.call {callee:= .value fo,args:=xs,..}=>match Qty s [] fo with
  |some f=>match C.ΓB.find f with
   |some _=>some (f,xs)
   |none=>none
  |none=>none
 |_,_,_=>none
def Q7j:Tm→Bool
 | .val .. | .ptr .. | .shp .. =>true
 |_=>false
def Qid(g:Nat)(b:Bool):List Operand→St→St
 | [],s=>s
 | .tmp k::xs,s=>match s.get (.m k)with
  | .gd g' b' t=>match Nat.beq g' g,b'==b,s.foul g,Q7j t with
   |true,true,false,true=>Qid g b xs (Zuo s k t)
   |_,_,_,_=>Qid g b xs s
  |_=>Qid g b xs s
 |_::xs,s=>Qid g b xs s
def Xad:RS→Option Ty
 | .vals [t]=>some t
 | .shr [t]=>some t
 | .flg [t]=>some t.1
 |_=>none
def gdB(C:Cfg)(s:St)(ops:Array Oper)(o:Oper):Option (Nat×Bool×Nat×FuncId×Array Operand):=
 match C.soft,o.guard,o.dst,o.op with
 |false,some (j,b),some d,.call {callee:= .value fo,args:=xs,..}=>match(ops[j]?).bind (·.dst),Qty s [] fo with
  |some g,some f=>match C.ΓB.find f with
   |some _=>some (g,b,d,f,xs)
   |none=>none
  |_,_=>none
 |_,_,_,_=>none
noncomputable def Q4y{ρ:Type}(C:Cfg)(n:Nat)(o:Oper)(s:St)(g:Nat)(b:Bool)(d:Nat)(f:FuncId)(xs:Array Operand)(k:St→Option ρ):Option ρ:=
 match V3 s (op1 s [] (.tmp g)) .bool,s.foul g,((C.ΓB.find f).bind fun e=>Xad e.res),J1 s d&&Nat.blt d n with
 |some c,false,some T,true=>match b with
  |true=>bif c then Qmw C.ΓB n (Qid g b xs.toList s) o.dst f xs.toList k else k (Yo s d (.gd g b (.val T (.u true) (zero T))))
  |false=>bif c then k (Yo s d (.gd g b (.val T (.u true) (zero T))))else Qmw C.ΓB n (Qid g b xs.toList s) o.dst f xs.toList k
 |_,_,_,_=>none
noncomputable def Qw8{ρ:Type}(C:Cfg)(n:Nat)(ops:Array Oper)(bx:List Nat)(o:Oper)(s:St)(k:St→Option ρ):Option ρ:=
 match gdB C s ops o with
 |some (g,b,d,f,xs)=>match bx.all fun r=>Qgc s r&& !((Qhr C.ΓB (Qid g b xs.toList s) f xs.toList).any (Nat.beq r))with
  |true=>Q4y C n o s g b d f xs k
  |false=>none
 |none=>match Qzb C s o with
 |some (f,xs)=>match bx.all fun r=>Qgc s r&& !((Qhr C.ΓB s f xs.toList).any (Nat.beq r))with
  |true=>Qmw C.ΓB n s o.dst f xs.toList k
  |false=>none
 |none=>match Q60 C.τ s bx o with
  |true=>Zh2 C n ops o s k
  |false=>none
noncomputable def Z2a{ρ:Type}(C:Cfg)(n:Nat)(ops:Array Oper)(bx:Nat→List Nat):Nat→Array Bool→St→(St→Option ρ)→Option ρ
 |0,listed,s,k=>match Region.ready .any ops listed with
  | []=>k (Qis s)
  |_::_=>none
 |f+1,listed,s,k=>match Region.ready .any ops listed with
  | []=>k (Qis s)
  | [i]=>match ops[i]? with
   |some o=>Qw8 C n ops (bx i) o s fun s'=>Z2a C n ops bx f (listed.setIfInBounds i true) s' k
   |none=>none
  |i::j::rs=>match(i::j::rs).find? (fun i=>(Q7p ops i&&Q89 s ops i)&& (match ops[i]? with|some o=>Q2t C ops listed (fun j=>Q6b C.τ (bx j) s o) i|none=>false))with
   |some i=>match ops[i]? with
    |some o=>Qic C n ops o s fun s'=>Z2a C n ops bx f (listed.setIfInBounds i true) s' k
    |none=>none
   |none=>Q4h ((i::j::rs).map fun i=>match ops[i]? with
    |some o=>Qw8 C n ops (bx i) o s fun s'=>Z2a C n ops bx f (listed.setIfInBounds i true) s' k
    |none=>none)
variable {g:Y4} {W0:Zct g} {w w':World} {X X':Nat→Prop} {n:Nat} {s s':St} {F:Key→List Nat} {a:Act} {H H':List Nat} {o:Oper} {tg:Xm} {τ:Tab} {C:Cfg}
theorem Qr1{ρ:Type}(hC:C.ok P g)(h:R n W0 w X F [] s a){k:St→Option ρ}{r:ρ}(hs:Qic C n ops o s k=some r):
  ∃v F' s',k s'=some r∧R n W0 w X F' [] s' (a.put o.dst v)∧Zna P ops (Dep C.τ X s a o w) o v a:=by
 unfold Qic at hs
 split at hs
 ·rename_i hg
  split at hs
  ·rename_i r0 d hv hd
   split at hs
   ·rename_i hdn
    simp only[Bool.and_eq_true,Nat.blt_eq]at hdn
    rw[Zux]at hs
    obtain⟨_,hp⟩:=Zq5 h Zao hC hv
    obtain⟨v,h1,h2⟩:=hp hs.1
    refine⟨v,Qf F (.m d) [],_,hs.2,?_,.inl ⟨by simp[Region.wanted,hg],h1⟩⟩
    rw[hd]
    exact(by simpa using h:R n W0 w X F ([]++ []) s a).put hdn.1 hdn.2 h2
   ·cases hs
  ·cases hs
 ·rename_i j b hg
  split at hs
  ·rename_i g d hj hd
   split at hs
   ·rename_i tg hch hdn
    simp only[Bool.and_eq_true,Nat.blt_eq]at hdn
    have hgj:=Qew hch
    split at hs
    ·rename_i r0 hv
     obtain⟨hk,hob⟩:=Zy4 h hs
     by_cases hb:Qi a (.m g)= .bool b
     ·have ht:=Zrq h hch hb
      have hglt:g<a.tmps.size:=by
       have hb':a.tmps.getD g undef= .bool b:=hb
       rcases Nat.lt_or_ge g a.tmps.size with h'|h'
       ·exact h'
       ·rw[Array.getD_eq_getD_getElem?,Array.getElem?_eq_none h']at hb';cases hb'
      have hy:Region.wanted o (yielded ops a.tmps)=true:=by
       have hb':a.tmps[g]? =some (.bool b):=by
        have hb':a.tmps.getD g undef= .bool b:=hb
        rw[Array.getD_eq_getD_getElem?,Array.getElem?_eq_getElem hglt]at hb'
        rw[Array.getElem?_eq_getElem hglt]
        simpa using hb'
       simp[Region.wanted,hg,yielded,hj,hb']
      obtain⟨_,hp⟩:=Zq5 h ht hC hv
      obtain⟨v,h1,h2⟩:=hp (hob ht)
      refine⟨v,Qf F (.m d) [],_,hk,?_,.inl ⟨hy,h1⟩⟩
      rw[hd]
      exact(by simpa using h:R n W0 w X F ([]++ []) s a).put hdn.1 hdn.2 fun _=>⟨hgj,fun _=>h2,fun hne=>absurd hb hne⟩
     ·have hy:Region.wanted o (yielded ops a.tmps)=false:=by
       apply Bool.eq_false_iff.2
       intro hy
       simp only[Region.wanted,hg,yielded,hj,Option.bind_some,beq_iff_eq]at hy
       apply hb
       split at hy
       ·rename_i c hc
        simp only[Option.some.injEq]at hy
        subst hy
        simp[Qi,Array.getD_eq_getD_getElem?,hc]
       ·cases hy
      refine⟨undef,Qf F (.m d) [],_,hk,?_,.inr ⟨hy,rfl⟩⟩
      rw[hd]
      exact(by simpa using h:R n W0 w X F ([]++ []) s a).put (S:=[]) hdn.1 hdn.2 fun _=>⟨hgj,fun hb'=>absurd hb' hb,fun _=>⟨rfl,rfl⟩⟩
    ·cases hs
   ·cases hs
  ·cases hs
theorem Q0f{bx:List Nat}{Sh:Nat→Prop}{a':Act}{o:Oper}(hb:Q60 C.τ s bx o=true)(hS: ∀b,Sh b→X b)(hf:Q4e C o X X' s a a' w w'):Q6v bx Sh a w w':=by
 intro b hb'
 refine hf.kept b (hb'.imp (hS b) fun⟨r,h1,h2⟩=> ?_)
 unfold Q60 at hb
 rw[List.all_eq_true]at hb
 have h3:=hb r h1
 simp only[Bool.and_eq_true]at h3
 refine⟨r,Z1f h3.1,?_,h2⟩
 intro e
 rw[e]at h3
 simp at h3
theorem R.ungd1(h:R n W0 w X F H s a){k g':Nat}{b:Bool}{t:Tm}(hg:s.get (.m k)= .gd g' b t)(hf:s.foul g'=false)(hb:Qi a (.m g')= .bool b)(ht:Q7j t=true):R n W0 w X F H (Zuo s k t) a:=by
 have hs:=h.slots (.m k)
 rw[hg]at hs
 obtain⟨_,h1,_⟩:=hs hf
 have h2:=h1 hb
 have hFk:Qf F (.m k) (F (.m k))=F:=by
  funext j;simp only[Qf];split
  ·rename_i e;rw[e]
  ·rfl
 have hT0:Z5x w w s (Zuo s k t) F (Qf F (.m k) (F (.m k))) a k t:=Zqr ⟨by rw[Kp];simp;intro e;subst e;simp[Q7j]at ht,fun p v U hv=>by
  unfold Yn at hv
  rw[hg]at hv
  exact hv.elim⟩
 have turn: ∀{u:Tm} {v:Value} {S:List Nat},vt w X W0.B s F a v S u→vt w X W0.B (Zuo s k t) F a v S u:=fun {u v S} hu=>by
  have:=Qmh hT0 (fun _ h=>h) (fun _ _=>rfl) (fun _ _ _ _=>rfl) (fun _ _=>rfl) (fun e T' f' x' b S hb=>by rw[hg]at hb;cases hb) hu
  rw[hFk]at this;exact this
 exact
 {h with
  comps:=fun d i hc=>by
   rw[Kp]at hc⊢
   simp only[reduceCtorEq,if_false]at hc
   obtain⟨h1,h2⟩:=h.comps d i hc
   by_cases e:k=d
   ·subst e;rw[hg]at h1;cases h1
   ·exact⟨by simpa[e]using h1,h2⟩
  slots:=fun j=>by
   by_cases hj:j= .m k
   ·subst hj
    rw[Kp]
    simp only[if_true]
    exact turn h2
   ·rw[Kp]
    simp only[Ne.symm hj,if_false]
    exact turn (h.slots j)}
theorem Zun{g':Nat}{b:Bool}(hb:Qi a (.m g')= .bool b): ∀{xs:List Operand} {s:St},R n W0 w X F H s a→R n W0 w X F H (Qid g' b xs s) a
 | [],s,h=>h
 |x::xs,s,h=>by
  cases x with
  |tmp k=>
   simp only[Qid]
   split
   ·rename_i g2 b2 t hg
    split
    ·rename_i e1 e2 e3 e4
     have e1:=Nat.eq_of_beq_eq_true e1
     subst e1
     have e2:b2=b:=by simpa using e2
     subst e2
     exact Zun hb (h.ungd1 hg e3 hb e4)
    ·exact Zun hb h
   ·exact Zun hb h
  |_=>exact Zun (xs:=xs) hb h
theorem Zum{g':Nat}{b:Bool}{r:Nat}: ∀{xs:List Operand} {s:St},s.isBox r→(Qid g' b xs s).isBox r
 | [],s,h=>h
 |x::xs,s,h=>by
  cases x with
  |tmp k=>
   simp only[Qid]
   split
   ·rename_i g2 b2 t hg
    split
    ·refine Zum ?_
     obtain⟨e,T,f,y,hq⟩:=h
     refine⟨e,T,f,y,?_⟩
     rw[Kp,if_neg]
     ·exact hq
     ·intro e;simp only[Key.m.injEq]at e;subst e;rw[hg]at hq;cases hq
    ·exact Zum h
   ·exact Zum h
  |_=>exact Zum (xs:=xs) h
theorem Qou{ρ:Type}(hC:C.ok P g){ops:Array Oper}(h:R n W0 w X F [] s a){gs d:Nat}{b:Bool}{f:FuncId}{xs:Array Operand}(hg:gdB C s ops o=some (gs,b,d,f,xs)){k:St→Option ρ}{r:ρ}(hs:Q4y C n o s gs b d f xs k=some r)
  {K:Act→World→Prop} {Q:Exit→Act→World→Prop} (hK: ∀v w' X' F' s',k s'=some r→R n W0 w' X' F' [] s' (a.put o.dst v)→(∀b,X b→X' b)→Q1q X s a (Qhr C.ΓB (Qid gs b xs.toList s) f xs.toList) w w'→K (a.put o.dst v) w'):if Region.wanted o (yielded ops a.tmps)then o.wp P a w K Q else K (a.put o.dst undef) w:=by
 unfold gdB at hg
 split at hg
 ·rename_i j b' d' fo xs' ats hsf hgd hd ho
  split at hg
  ·rename_i g' f' hj hf
   split at hg
   ·simp only[Option.some.injEq,Prod.mk.injEq]at hg
    obtain⟨rfl,rfl,rfl,rfl,rfl⟩:=hg
    unfold Q4y at hs
    split at hs
    ·rename_i c T hc hfl hT hdn
     simp only[Bool.and_eq_true,Nat.blt_eq]at hdn
     have hv:Qi a (.m g')= .bool c:=Zof h Zao hc
     have hne:s.get (.m g')≠ .junk:=by
      intro e
      have:op1 s [] (.tmp g')= .tm g' .junk:=by simp[op1,e,Zvt]
      rw[this]at hc
      simp[V3,Zs5]at hc
     have hglt:g'<a.tmps.size:=by
      have hb':a.tmps.getD g' undef= .bool c:=hv
      rcases Nat.lt_or_ge g' a.tmps.size with h'|h'
      ·exact h'
      ·rw[Array.getD_eq_getD_getElem?,Array.getElem?_eq_none h']at hb';cases hb'
     have hb':a.tmps[g']? =some (.bool c):=by
      have hb':a.tmps.getD g' undef= .bool c:=hv
      rw[Array.getD_eq_getD_getElem?,Array.getElem?_eq_getElem hglt]at hb'
      rw[Array.getElem?_eq_getElem hglt]
      simpa using hb'
     have hw:Region.wanted o (yielded ops a.tmps)=(c==b'):=by
      simp[Region.wanted,hgd,yielded,hj,hb']
     have yes:c=b'→Qmw C.ΓB n (Qid g' b' xs'.toList s) o.dst f' xs'.toList k=some r→if Region.wanted o (yielded ops a.tmps)then o.wp P a w K Q else K (a.put o.dst undef) w:=by
      intro e hcall
      rw[hw,if_pos (by simp[e])]
      exact Z0v (hC.soft.trans hsf) hC.ΓB (Zun (by rw[hv,e]) h) (Zkk h Zao hf) ho hcall fun v w' X' F' s' hk hR hxx hkp=>hK v w' X' F' s' hk hR hxx fun b hb=>hkp b (hb.imp id fun⟨r,h1,h2,h3⟩=>⟨r,Zum h1,h2,h3⟩)
     have no:c≠b'→k (Yo s d' (.gd g' b' (.val T (.u true) (zero T))))=some r→if Region.wanted o (yielded ops a.tmps)then o.wp P a w K Q else K (a.put o.dst undef) w:=by
      intro e hk
      rw[hw,if_neg (by simp[e]),hd]
      have hput:=(by simpa using h:R n W0 w X F ([]++ []) s a).put (S:=[]) (t:= .gd g' b' (.val T (.u true) (zero T))) (v:=undef) hdn.1 hdn.2 fun _=>⟨hne,fun hb=>by rw[hv]at hb;injection hb with hb;exact absurd hb e,fun _=>⟨rfl,rfl⟩⟩
      have:=hK undef w X _ _ hk (by rw[hd];exact hput) (fun _ h=>h) (fun _ _=>rfl)
      rw[hd]at this
      exact this
     cases b'
     ·cases c
      ·exact yes rfl hs
      ·exact no (by simp) hs
     ·cases c
      ·exact no (by simp) hs
      ·exact yes rfl hs
    ·cases hs
   ·cases hg
  ·cases hg
 ·cases hg
theorem Qw9{ρ:Type}(hC:C.ok P g)(h:R n W0 w X F [] s a){bx:List Nat}{Sh:Nat→Prop}(hS: ∀b,Sh b→X b){k:St→Option ρ}{r:ρ}(hs:Qw8 C n ops bx o s k=some r){K:Act→World→Prop}{Q:Exit→Act→World→Prop}
  (hK: ∀w' a' X' F' s',k s'=some r→R n W0 w' X' F' [] s' a'→(∀b,X b→X' b)→(Qpu C o.op=true→Old w w')→Q6v bx Sh a w w'→K a' w'):if Region.wanted o (yielded ops a.tmps)then o.wp P a w K Q else K (a.put o.dst undef) w:=by
 unfold Qw8 at hs
 split at hs
 ·rename_i gs b d f xs hgd
  split at hs
  ·rename_i hall
   refine Qou hC h hgd hs fun v w' X' F' s' hk hR hxx hkp=>hK w' _ X' F' s' hk hR hxx (fun hp=> ?_) fun b hb'=>hkp b ?_
   ·exfalso
    unfold gdB at hgd
    split at hgd
    ·rename_i j b' d' fo xs' ats hsf hg ho1 ho
     split at hgd
     ·rename_i g' f' hj hf
      split at hgd
      ·rename_i eb hfind
       simp only[Qpu,ho,Q7h,Bool.and_eq_true]at hp
       have hp2:=hp.2
       have nil: (match C.ΓB with| []=>true|_::_=>false)=true→False:=fun hn=>by
        cases hg2:C.ΓB with
        |nil=>rw[hg2]at hfind;cases hfind
        |cons _ _=>rw[hg2]at hn;cases hn
       cases fo with
       |func f2=>
        have hff:some f2=some f':=hf
        cases hff
        simp only[hfind]at hp2
        cases hp2
       |const v=>exact nil hp2
       |tmp k=>exact nil hp2
       |global g=>exact nil hp2
      ·cases hgd
     ·cases hgd
    ·cases hgd
   ·refine hb'.imp (hS b) fun⟨r,h1,h2⟩=> ?_
    rw[List.all_eq_true]at hall
    have h3:=hall r h1
    simp only[Bool.and_eq_true,Bool.not_eq_true']at h3
    exact⟨r,Z1f h3.1,Z3m h3.2,h2⟩
  ·cases hs
 split at hs
 ·rename_i f xs hb
  split at hs
  ·rename_i hall
   unfold Qzb at hb
   split at hb
   ·rename_i fo xs' ats hsf hg ho
    split at hb
    ·rename_i f' hf
     split at hb
     ·rename_i eb hfind
      simp only[Option.some.injEq,Prod.mk.injEq]at hb
      obtain⟨rfl,rfl⟩:=hb
      rw[if_pos (by simp[Region.wanted,hg])]
      refine Z0v (hC.soft.trans hsf) hC.ΓB h (Zkk h Zao hf) ho hs fun v w' X' F' s' hk hR hxx hkp=>hK w' _ X' F' s' hk hR hxx (fun hp=> ?_) fun b hb'=>hkp b ?_
      ·exfalso
       simp only[Qpu,ho,Q7h,Bool.and_eq_true]at hp
       have hp2:=hp.2
       have nil: (match C.ΓB with| []=>true|_::_=>false)=true→False:=fun hn=>by
        cases hg2:C.ΓB with
        |nil=>rw[hg2]at hfind;cases hfind
        |cons _ _=>rw[hg2]at hn;cases hn
       cases fo with
       |func f2=>
        have hff:some f2=some f':=hf
        cases hff
        simp only[hfind]at hp2
        cases hp2
       |const v=>exact nil hp2
       |tmp k=>exact nil hp2
       |global g=>exact nil hp2
      ·refine hb'.imp (hS b) fun⟨r,h1,h2⟩=> ?_
       rw[List.all_eq_true]at hall
       have h3:=hall r h1
       simp only[Bool.and_eq_true,Bool.not_eq_true']at h3
       exact⟨r,Z1f h3.1,Z3m h3.2,h2⟩
     ·cases hb
    ·cases hb
   ·cases hb
  ·cases hs
 ·split at hs
  ·rename_i hbo
   exact Qjg (Q:=Q) hC h hs fun w' a' X' F' s' hk hR hf=>hK w' a' X' F' s' hk hR hf.more (fun hp=>hf.pres (by simp only[Qpu,Bool.and_eq_true]at hp;exact hp.1)) (Q0f hbo hS hf)
  ·cases hs
theorem Zym{ρ:Type}(hC:C.ok P g)(hsel: ∀(j:Nat) (o:Oper) cs b,ops[j]? =some o→o.op≠ .select cs b){bx:Nat→List Nat}(hbd: ∀i,∀r∈bx i,∀(j:Nat) o,ops[j]? =some o→o.dst≠some r){k:St→Option ρ}{r:ρ}{Qn:Act→World→Prop}
  (hK: ∀w' a' X' F' s',k s'=some r→R n W0 w' X' F' [] s' a'→Qn a' w'):
  ∀{f:Nat} {listed:Array Bool} {s:St} {w:World} {X:Nat→Prop} {Sh:Nat→Prop} {F:Key→List Nat} {a:Act},R n W0 w X F [] s a→(∀b,Sh b→X b)→Z2a C n ops bx f listed s k=some r→Zy5 P ops Qn (Z82 C ops) bx Sh f listed a w
 |0,listed,s,w,X,Sh,F,a,h,hS,hr=>by
  simp only[Z2a]at hr
  split at hr
  ·rename_i hrd
   obtain⟨F',h'⟩:=h.clean
   exact⟨hrd,hK w a X F' _ hr h'⟩
  ·cases hr
 |f+1,listed,s,w,X,Sh,F,a,h,hS,hr=>by
  
  have one: ∀i' o,ops[i']? =some o→(Qw8 C n ops (bx i') o s fun s'=>Z2a C n ops bx f (listed.setIfInBounds i' true) s' k)=some r→
    wpOp P ops QF i' (fun a' w'=>Qen (Z82 C ops) bx Sh i' a w w'∧Zy5 P ops Qn (Z82 C ops) bx Sh f (listed.setIfInBounds i' true) a' w') a w:=by
   intro i' o ho hr
   unfold wpOp
   simp only[ho]
   have:=Qw9 (Q:=QF) hC h hS hr (K:=fun a' w'=>Qen (Z82 C ops) bx Sh i' a w w'∧Zy5 P ops Qn (Z82 C ops) bx Sh f (listed.setIfInBounds i' true) a' w')
    (fun w' a' X' F' s' hk hR hmore hpres hhold=>⟨⟨by simpa[Z82,ho]using hpres,hhold⟩,Zym hC hsel hbd hK hR (fun b hb=>hmore b (hS b hb)) hk⟩)
   split
   ·rename_i hw;rw[if_pos hw]at this;exact .inl this
   ·rename_i hw;rw[if_neg hw]at this;exact this
  simp only[Z2a]at hr
  split at hr
  ·rename_i hrd
   obtain⟨F',h'⟩:=h.clean
   exact⟨fun _=>hK w a X F' _ hr h',fun i hi=>by rw[hrd]at hi;cases hi⟩
  ·rename_i i hrd
   refine⟨fun hn=>(by rw[hrd]at hn;cases hn),fun i' hi=> ?_⟩
   rw[hrd]at hi
   simp only[List.mem_singleton]at hi
   subst hi
   split at hr
   ·rename_i o ho;exact one _ o ho hr
   ·cases hr
  ·rename_i hrd
   split at hr
   ·rename_i i hfind
    have hmem:=List.mem_of_find?_eq_some hfind
    have hfree:=List.find?_some hfind
    simp only[Bool.and_eq_true]at hfree
    have hfree:=hfree.2
    rw[←hrd]at hmem
    split at hr
    ·rename_i o ho
     simp only[ho]at hfree
     obtain⟨v,F',s',hk,hR,hy⟩:=Qr1 hC h hr
     refine Qjk hS _ _ _ _ ?_
     refine Qel (I:=Dep C.τ X s a o w) (J:=fun a'=> ∀j,∀q∈bx j,Qi a' (.m q)=Qi a (.m q)) ho hsel (fun j q hq=>hbd j q hq i o ho) f listed a w (Dep.refl _ _ _ _ _ _) (fun _ _ _=>rfl) (fun j oj hj hne hl hno=> ?_) hmem hy
      (Zym hC hsel hbd hK hR (fun _ h=>h) hk)
     obtain⟨h1,h2⟩:=Qxy hfree ho hj hne hl hno
     refine⟨h1,fun a1 a2 w1 w2 hJ hI hst hp=>⟨fun hm=> ?_,fun j' q hq=> ?_⟩⟩
     ·have hI:=hI hm
      rcases h2 with h2|h2
      ·unfold Q6b at h2
       rw[hm]at h2
       simp only at h2
       split at h2
       ·rename_i q hq
        simp only[hq]at hI⊢
        have hqb:q∈bx j:=by
         rw[List.any_eq_true]at h2
         obtain⟨z,hz,he⟩:=h2
         rw[Nat.eq_of_beq_eq_true he];exact hz
        exact fun b hl hb=>(hst.hold b (.inr ⟨q,hqb,by rw[hJ j q hqb];exact hb⟩)).trans (hI b hl hb)
       ·rename_i hq
        simp only[hq]at hI⊢
        exact fun b hl hb=>(hst.hold b (.inl hb)).trans (hI b hl hb)
       ·cases h2
      ·have hold:=hst.pres (by simpa[Z82,hj]using h2)
       have lt1: ∀b,b<w.heap.size→w1.heap[b]? =w.heap[b]?→b<w1.heap.size:=fun b hl he=>by
        rw[Array.getElem?_eq_getElem hl]at he
        exact(Array.getElem?_eq_some_iff.1 he).1
       split at hI
       ·rename_i q hq
        try simp only[hq]
        exact fun b hl hb=>(hold b (lt1 b hl (hI b hl hb))).trans (hI b hl hb)
       ·rename_i hq
        try simp only[hq]
        exact fun b hl hb=>(hold b (lt1 b hl (hI b hl hb))).trans (hI b hl hb)
       ·rename_i hq
        try simp only[hq]
        exact Old.trans hI hold
     ·rw[hp q (by rw[hj];exact hbd j' q hq j oj hj)];exact hJ j' q hq
    ·cases hr
   ·refine⟨fun hn=>(by rw[hrd]at hn;cases hn),fun i' hi=> ?_⟩
    rw[hrd]at hi
    have hm:=Qr3 hr _ (List.mem_map_of_mem (f:=_) hi)
    split at hm
    ·rename_i o ho;exact one _ o ho hm
    ·cases hm
end
end Go.Am

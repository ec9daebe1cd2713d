/- No condition. -/
import Derived.Test.YtahnlnkboamdmaaGreatDoorAm3
import Derived.Laws.StructEq
import Derived.ChangeKeysEq
import Derived.Still
set_option linter.all false
namespace Go.Am
noncomputable section
open Go.RowKit
open Option renaming some→K1,none→K4,bind_eq_some_iff→Mf
open Bool renaming true→K2,false→K3,not_eq_true'→Lw,or_eq_true→L0
open Go renaming Oper→La,World→Lb,Value→Lc,Operand→Lf,TypeId→Li,Result→Lj,Program→Ll,isAgg→Lq
open Region renaming wanted→Ld,ready→Ln,binds→Lp
open Nat renaming beq→Le,blt→Lg,blt_eq→Lm,lt_or_ge→Lt,le_trans→Md
open Oper renaming upon→Lh,wp→Lo,apart_spec→Me
open Result renaming andThen_ok→Lk
open Act renaming put_comm→Lr
open List renaming all_eq_true→Ls,append_eq_nil_iff→Ly,getElem?_of_mem→L5,mem_cons→L6,mem_cons_of_mem→L7,mem_cons_self→L8,mem_of_getElem?→L9,mem_range→Ma,mem_singleton→Mb,range→Mc
open Sem renaming run_bind→Lu,run_pure→Lv
open Instr renaming extract→Lx,makeFunc→L1
open Op renaming equalIn→Lz,eqFields→L2
open ByteArray renaming toList_eq→L3
open Deferred renaming ofValue→L4
open Program renaming fieldsOf→Mg
variable{a a':Act}{K:Act->Lb->Prop}{listed:Array Bool}{ops:Array La}{b:Bool}{Q:Exit->Act->Lb->Prop}{tg:Kd}{fs:List Field}{d off j k:Nat}{Sh:Nat->Prop}{o oi oj:La}{s:St}{ρ:Type}{w:Lb}{I:Lb->Prop}{m:Option ρ}
def eqL{α:Type}(f:α->α->Bool):List α->List α->Bool|[],[]=>K2|x::xs,y::ys=>f x y&&eqL f xs ys|_,_=>K3
def eqV:(T:Ty)->T.den->T.den->Bool|.unit,_,_=>K2|.int _,x,y=>decide ((x:Int)=y)|.bool,x,y=>(x:Bool)==y|.fnc _,_,_=>K3|.str,x,y=>(x:List UInt8)==y|.pair a b,x,y=>eqV a x.1 y.1&&eqV b x.2 y.2|.arr _ t,x,y=>eqL (eqV t) x y|.slice _ _,_,_=>K3|.err,_,_=>K3|.hid _,_,_=>K3|.sptr ..,_,_=>K3|.clo ..,_,_=>K3
structure ZU(P:Ll)(e:Li)(T:Ty):Prop where
 guard:∀(w:Lb)(op:BinOp)(p q:Lf)(u v:List Lc),(eqGuard op e p q (Jd T u) (Jd T v)).run P w=.ok () w
 eql:∀(w w2 w3:Lb)(X Y:Nat->Prop)(B:Nat)(x y:T.den)(u v:List Lc),rd w2 X B K3 T x u []->rd w3 Y B K3 T y v []->(binOp .eql e (Jd T u) (Jd T v)).run P w=.ok (.bool (eqV T x y)) w
 neq:∀(w w2 w3:Lb)(X Y:Nat->Prop)(B:Nat)(x y:T.den)(u v:List Lc),rd w2 X B K3 T x u []->rd w3 Y B K3 T y v []->(binOp .neq e (Jd T u) (Jd T v)).run P w=.ok (.bool (!(eqV T x y))) w
structure Cfg where
 τ:Tab
 eq:Li->Bool
 Γ:Env
 pQ:List Nat:=[]
 ΓL:Zfx:=[]
 ΓB:Zb1:=[]
 soft:Bool:=K3
 pt:uZ:={}
 inl:Zlp:=[]
structure Cfg.ok(C:Cfg)(P:Ll)(g:Vc):Prop where
 τ:C.τ.ok P
 eq:∀e T,C.eq e=K2->C.τ e=K1 T->ZU P e T
 Γ:C.Γ.ok P g
 follows:P.follows .mixedOrders=K2
 ΓL:C.ΓL.ok P g
 ΓB:C.ΓB.ok P g
 soft:g.soft=C.soft
 pt:C.pt.ok P
 inl:C.inl.ok P g
variable {P:Ll}{g:Vc}{W0:fF g}{w w':Lb}{X X':Nat->Prop}{B B' n:Nat}{own:Bool}{s:St}{F:Key->List Nat}{a:Act}{H H':List Nat}{o:La}{tg:Kd}{τ:Tab}{C:Cfg}{gh:Nat->Lc}
def Qdg(C:Cfg)(s:St)(tg:Kd)(op:BinOp)(e:Li)(x y:Lf):Option Res:=
 match C.eq e,C.τ e with
 |true,K1 T=>match cT s (op1 s tg x) T,cT s (op1 s tg y) T with
  |some u,K1 v=>match op with
   |.eql=>K1 ⟨.val .bool (.u K3) (eqV T u v),s,K3,K4⟩
   |.neq=>K1 ⟨.val .bool (.u K3) (!(eqV T u v)),s,K3,K4⟩
   |_=>K4
  |_,_=>K4
 |_,_=>K4
theorem Zcq(h:R n W0 w X F H s a)(ht:tg.ok W0.gh a)(hC:C.ok P g){op:BinOp}{e e2:Li}{x y:Lf}(ho:o.op=.binOp op e x y e2){r:Res}(hr:Qdg C s tg op e x y=K1 r):dz P C.τ W0 w X F s a o r:=by
 unfold Qdg at hr;split at hr
 ·rename_i T m p;split at hr
  ·rename_i u v q hv;obtain⟨d,f,i⟩:=eD h ht q;obtain⟨j,k,l⟩:=eD h ht hv;have b:=hC.eq e T m p;split at hr
   ·simp only[pB]at hr;subst hr;refine Jg rfl λ_=>⟨_,λc _=>?_,JG _⟩
    simp only[execOp,ho,f,k,Lu,b.guard,Lk,b.eql c w w _ _ _ u v d j i l,Lv]
   ·simp only[pB]at hr;subst hr;refine Jg rfl λ_=>⟨_,λc _=>?_,JG _⟩
    simp only[execOp,ho,f,k,Lu,b.guard,Lk,b.neq c w w _ _ _ u v d j i l,Lv]
   ·cases hr
  ·cases hr
 ·cases hr
def Zc3(s:St)(tg:Kd)(x:Lf):Option Res:=
 match op1 s tg x with
 |.tm k t=>match Zk4 s k t with
  |some r=>match r.t with
   |.ptr _ _|.shp _ _=>K1 r
   |.elp q p _ _=>match s.bad q p with|false=>K1 r|true=>K4
   |_=>K4
  |none=>K4
 |_=>K4
theorem Zc4(h:R n W0 w X F H s a)(ht:tg.ok W0.gh a){x:Lf}(ho:o.op=.nilCheck x){r:Res}(hr:Zc3 s tg x=K1 r):dz P τ W0 w X F s a o r:=by
 unfold Zc3 at hr;split at hr
 ·rename_i k t hx;split at hr
  ·rename_i u j;obtain⟨v,d⟩:=KN h ht hx j;have l:u=r/\ ∃g,a.eval x=.pointer (K1 g):=by
    split at hr
    ·rename_i q p c;rw[c]at d;obtain⟨_,e,T,f,y,b,C,_,_,m⟩:=d;simp_all
    ·rename_i T y c;rw[c]at d;obtain⟨_,g,D,m,_⟩:=d;simp_all
    ·rename_i q p i z c;rw[c]at d;split at hr
     ·rename_i A;obtain⟨e,E,g,G,B,_,_,_,m⟩:=d.2 A;simp_all
     ·cases hr
    ·cases hr
   obtain⟨rfl,g,I⟩:=l;refine Jg v λ_=>⟨_,λJ _=>?_,d⟩
   simp_all[execOp]
  ·cases hr
 ·cases hr
def Z7j(C:Cfg)(s:St)(tg:Kd)(o:La):Option Res:=
 match o.op with
 |.move x=>Zgo C.τ s tg o.type x
 |.assign x=>Zal C.τ s tg o.type x
 |.pick c x y=>Zx4 C.τ s tg o.type c x y
 |.alloc e=>Zyo C.τ s e
 |.box e x=>Qan C.τ s tg e x
 |.build e ps=>match C.τ e with
  |some (.arr _ _)=>Ziv C.τ s tg e ps
  |_=>Zyy C.τ s tg e ps
 |.buildSlice e n ps=>match C.τ e,C.soft with
  |none,K3=>Qb3 C.pt s tg e n ps
  |_,_=>match Zdv C.τ s tg e n ps with
   |some r=>K1 r
   |none=>Ziw C.τ s tg e n ps
 |.load e x=>match C.τ e with
  |none=>Z6c C.pt s tg e x
  |some _=>Zx2 C.τ s tg e x
 |.binOp op e x y e2=>match C.τ e with
  |some (.pair _ _)|some (.arr _ _)=>Qdg C s tg op e x y
  |none=>match C.pt.isPtr e with
   |true=>Z1e C.pt s tg op e x y
   |false=>Qax C.pt s tg op e x y
  |_=>Z45 C.τ s tg op e x y e2
 |.unOp op e x=>Qe4 C.τ s tg op e x
 |.convert e e2 x=>Zxq C.τ s tg e e2 x
 |.makeSlice e x y=>Z6e C.τ s tg e x y
 |.slice e x lo hi K4=>match C.soft with
  |true=>K4
  |false=>Z1v C.τ s tg e x lo hi
 |.nilCheck x=>Zc3 s tg x
 |.fieldAddr e x i=>Zqf C.τ s tg e x i
 |.indexAddr e x i=>match C.τ e with
  |none=>Qbf C.pt s tg e x i
  |some _=>WU C.τ s tg e x i
 |.index e x i=>Zqm C.τ s tg e x i
 |.extract x i=>Znu s x i
 |.makeFunc (.func f) ⟨[]⟩ ⟨[]⟩=>K1 ⟨.val (.fnc f) (.u K2) (),s,K3,K4⟩
 |.call {callee:=.builtin .len,args:=⟨[x]⟩,argTypes:=⟨[e]⟩}=>match C.τ e with
  |none=>Qbj C.pt s tg e x
  |some _=>Z6b C.τ s tg e x
 |.call {callee:=.builtin .min,args:=⟨[x,y]⟩,argTypes:=⟨[e,_]⟩}=>Ztu s tg e C.τ x y K3
 |.call {callee:=.builtin .max,args:=⟨[x,y]⟩,argTypes:=⟨[e,_]⟩}=>Ztu s tg e C.τ x y K2
 |.call {callee:=.builtin .append,args:=⟨[x,y]⟩,argTypes:=⟨[e,e2]⟩}=>match Le e e2 with
  |true=>match Zs4 C.τ s tg e x y with
   |some r=>K1 r
   |none=>match Z41 C.τ s tg e x y with
    |some r=>K1 r
    |none=>Zpz C.soft C.τ s tg e x y
  |false=>K4
 |_=>K4
def Zsx(h:R n W0 w X F H s a)(ht:tg.ok W0.gh a)(hC:C.ok P g){r:Res}(hr:Z7j C s tg o=K1 r):ZW P n W0 w X H s a o r:=by
 unfold Z7j at hr;split at hr
 ·rename_i b;exact(Zd9 h ht b hr).sound h
 ·grind[Zwu]
 ·rename_i b;exact(Zng h ht b hr).sound h
 ·rename_i b;exact Zyp h hC.τ b hr
 ·grind[Z47]
 ·rename_i b;split at hr
  ·exact Zp4 h ht hC.τ b hr
  ·exact Zyz h ht hC.τ b hr
 ·rename_i b;split at hr
  ·rename_i _ c;exact Z6s (hC.soft.trans c) h ht hC.pt b hr
  ·split at hr
   ·rename_i d;cases hr;exact Zlq h ht hC.τ b d
   ·exact Zp5 h ht hC.τ b hr
 ·rename_i b;split at hr
  ·exact(Z2t (τ:=C.τ) h ht hC.pt b hr).sound h
  ·exact(Znc h ht hC.τ b hr).sound h
 ·rename_i b;split at hr
  ·exact(Zcq h ht hC b hr).sound h
  ·exact(Zcq h ht hC b hr).sound h
  ·split at hr
   ·exact(Z1f (τ:=C.τ) h ht hC.pt b hr).sound h
   ·exact(Z5t (τ:=C.τ) h ht hC.pt b hr).sound h
  ·exact(Zp2 h ht hC.τ b hr).sound h
 ·rename_i b;exact(Zwk h ht b hr).sound h
 ·rename_i b;exact(Zm5 h ht hC.τ b hr).sound h
 ·rename_i b;exact Z2u h ht hC.τ b hr
 ·rename_i b;split at hr
  ·cases hr
  ·rename_i c;exact Z1w (hC.soft.trans c) h ht hC.τ b hr
 ·rename_i b;exact(Zc4 (τ:=C.τ) h ht b hr).sound h
 ·rename_i b;exact(Zi7 h ht hC.τ b hr).sound h
 ·rename_i b;split at hr
  ·exact(Z54 (τ:=C.τ) h ht hC.pt b hr).sound h
  ·exact(Za4 h ht hC.τ b hr).sound h
 ·rename_i b;exact(Zjj h ht hC.τ b hr).sound h
 ·grind[Ztc]
 ·rename_i f b;simp only[pB]at hr;subst hr;exact z0 h rfl λ_=>⟨_,by simp[execOp,b,L1],Z7k f⟩
 ·rename_i b;split at hr
  ·exact(Z6a (τ:=C.τ) h ht hC.pt b hr).sound h
  ·exact(Zqv h ht hC.τ b hr).sound h
 ·rename_i b;exact(WW h ht (mx:=K3) b hr).sound h
 ·rename_i b;exact(WW h ht (mx:=K2) b hr).sound h
 ·rename_i e j b;split at hr
  ·rename_i i;have:=pD i;subst this;split at hr
   ·rename_i d;cases hr;exact Zwt h ht hC.τ b d
   ·split at hr
    ·rename_i d;cases hr;exact Z2l h ht hC.τ b d
    ·cases c:C.soft with
     |false=>exact Zyr (hC.soft.trans c) h ht hC.τ b hr
     |true=>simp_all[Zpz]
  ·cases hr
 ·cases hr
def Zp6(s:St):Nat->Nat->Bool->Option Kd
 |0,_,_=>K4
 |d+1,g,b=>match s.pN g with
  |true=>K4
  |false=>match s.get (.m g)with
   |.gd g2 b2 _=>match Zp6 s d g2 b2 with
    |some tg=>K1 ((g,b)::tg)
    |none=>K4
   |.val .bool _ _=>K1 [(g,b)]
   |_=>K4
def Z2b(s:St):Kd->Prop->Option Prop
 |[],p=>K1 p
 |(g,b)::tg,p=>match cT s (op1 s tg (.tmp g)) .bool with
  |some c=>Z2b s tg (c=b->p)
  |none=>K4
def Zh{ρ:Type}(p:Prop)(m:Option ρ):Option ρ:=by
 classical exact ite p m K4
def z8{p:Prop}{r:ρ}:Zh p m=K1 r↔p/\m=K1 r:=by
 simp_all[Zh]
theorem Zb{p:Prop}(h:p:=by omega):Zh p m=m:=by
 unfold Zh;rw[if_pos h]
def Zzz{ρ:Type}(o:Ob)(m:Option ρ):Option ρ:=
 match o with
 |none=>m
 |some p=>Zh p m
def Zjc{o:Ob}{r:ρ}:Zzz o m=K1 r↔o.ok/\m=K1 r:=by
 cases o with
 |none=>simp[Zzz,Ob.ok]
 |some p=>exact z8
def Z7f{ρ:Type}(s:St)(tg:Kd)(o:Ob)(m:Option ρ):Option ρ:=
 match o with
 |none=>m
 |some p=>match Z2b s tg p with
  |some q=>Zh q m
  |none=>K4
def Zzb(s:St):Kd->Option (List (Bool×Bool))
 |[]=>K1 []
 |(g,b)::tg=>match cT s (op1 s tg (.tmp g)) .bool,Zzb s tg with
  |some c,K1 r=>K1 ((c,b)::r)
  |_,_=>K4
def Qaf{α:Type}(d:α)(m:Option α):List (Bool×Bool)->Option α|[]=>m|(c,K2)::r=>cond c (Qaf d m r) (K1 d)|(c,K3)::r=>cond c (K1 d) (Qaf d m r)
def Zb9(h:R n W0 w X F H s a):∀{d g:Nat}{b:Bool}{tg:Kd},Zp6 s d g b=K1 tg->Xj W0.gh a (.m g)=.bool b->tg.ok W0.gh a
 |0,_,_,_,c,_=>by cases c
 |d+1,g,b,tg,c,k=>by
  simp only[Zp6]at c;split at c
  ·cases c
  ·rename_i x;split at c
   ·rename_i l q t r;split at c
    ·rename_i u e;simp only[pB]at c;subst c;have hs:=h.slots (.m g);rw[r]at hs;have f:s.pN l=false:=by
      cases d with
      |zero=>cases e
      |succ d=>
       grind[Zp6]
     obtain⟨_,_,v⟩:=hs f;have i:Xj W0.gh a (.m l)=.bool q:=Classical.byContradiction λj=>by
      obtain⟨_,o⟩:=v j;rw[k]at o;cases o
     intro p hp;rcases L6.1 hp with rfl|hp
     ·exact k
     ·exact Zb9 h e i p hp
    ·cases c
   ·simp only[pB]at c;subst c;intro p hp;simp_all
   ·cases c
def Zsv(h:R n W0 w X F H s a):∀{tg:Kd}{p q:Prop},Z2b s tg p=K1 q->q->Kd.ok tg W0.gh a->p
 |[],p,q,d,f,_=>by simp_all[Z2b]
 |(g,b)::tg,p,q,d,f,i=>by
  simp only[Z2b]at d;split at d
  ·rename_i c j;have e:Kd.ok tg W0.gh a:=λp k=>i p (L7 _ k);have m:=rH h e j;have o:=i (g,b) (L8 ..);have l:c=b:=by
    grind[Jf,Zft]
   exact Zsv h d f e l
  ·cases d
def Zsw(h:R n W0 w X F H s a){tg:Kd}{o:Ob}{r:ρ}(hu:Z7f s tg o m=K1 r):m=K1 r/\(Kd.ok tg W0.gh a->o.ok):=by
 unfold Z7f at hu;split at hu
 ·exact⟨hu,λ_=>trivial⟩
 ·split at hu
  ·rename_i d b;rw[z8]at hu;exact⟨hu.2,λc=>Zsv h b hu.1 c⟩
  ·cases hu
def Zqc(h:R n W0 w X F H s a):∀{tg:Kd}{cs:List (Bool×Bool)},Zzb s tg=K1 cs->Kd.ok tg W0.gh a-> ∀{α:Type}(d:α)(m:Option α),Qaf d m cs=m
 |[],cs,f,_,_,d,m=>by simp only[Zzb,pB]at f;subst f;rfl
 |(g,b)::tg,cs,f,k,_,d,m=>by
  simp only[Zzb]at f;split at f
  ·rename_i c r i o;simp only[pB]at f;subst f;have j:Kd.ok tg W0.gh a:=λp q=>k p (L7 _ q);have t:Xj W0.gh a (.m g)=.bool c:=(Jf W0 a (Zft i)).trans (rH h j i);have l:=k (g,b) (L8 ..);rw[t]at l;injection l with e
   simp only at e;subst e;have u:=Zqc h o j d m;cases c<;>simp[Qaf,u]
  ·cases f
def Zvb:(ts:List Ty)->dp ts->Option TV|[t],r=>K1 ⟨t,r.1⟩|_,_=>K4
def Qcf:∀{ts:List Ty}{r:dp ts}{v:TV}{rs:List Lc}{S:List Nat},Zvb ts r=K1 v->wj w B ts r rs S-> ∃cs,ba rs=Jd v.1 cs/\rd w (λ_=>False) B K2 v.1 v.2 cs S
 |[t],r,v,rs,S,h,hx=>by
  simp only[Zvb,pB]at h;subst h;obtain⟨cs,a,c,d,rfl,rfl,b,rfl,rfl⟩:=hx;exact⟨cs,rfl,by simpa using b⟩
 |[],_,_,_,_,h,_=>by simp[Zvb]at h
 |_::_::_,_,_,_,_,h,_=>by simp[Zvb]at h
def di:Kd.ok [] W0.gh a:=λp b=>by cases b
def Z3k{g:Nat}{tg:Kd}(hc:Zp6 s d g b=K1 tg):s.get (.m g)≠ .pR:=by
 cases d with
 |zero=>cases hc
 |succ d=>
  grind[Zp6]
def Qli:(ts:List Ty)->dp ts|[]=>()|t::ts=>(zero t,Qli ts)
def gdK{ρ:Type}(C:Cfg)(o:La)(s:St)(tg:Kd)(g:Nat)(b:Bool)(d:Nat)(k:St->Option ρ):Option ρ:=
 match o.op with
 |.call {callee:=.value fo,args:=xs,..}=>match(Z5x s tg fo).bind C.Γ.find with
  |some e=>match XS s tg e.args xs.toList,Zzb s tg,Zvb e.res (Qli e.res)with
   |some us,K1 cs,K1 _=>(Qaf (Qli e.res) (e.F us) cs).bind λr=>match Zvb e.res r with
    |some v=>k (Wc s d (.gd g b (.val v.1 (.u K2) v.2)))
    |none=>K4
   |_,_,_=>K4
  |none=>K4
 |_=>match Z7j C s tg o with
  |some r=>match r.moved with
   |false=>Z7f s tg r.obl (k (Wc s d (.gd g b r.t)))
   |true=>K4
  |none=>K4
def Qhp(s:St):List Lf->Option (List Nat)
 |[]=>K1 []
 |x::xs=>match Z4f (op1 s [] x),Qhp s xs with
  |some q,K1 l=>match s.get (.m q)with
   |.box .. =>K1 (q::l)
   |_=>K4
  |_,_=>K4
def Zy5(h:R n W0 w X F H s a):∀{xs:List Lf}{l:List Nat},Qhp s xs=K1 l->(xs.map a.eval).length=l.length/\ ∀(j:Nat)(q:Nat),l[j]? =K1 q-> ∃u,(xs.map a.eval)[j]? =K1 u/\atP s F q [] u
 |[],l,d=>by simp_all[Qhp]
 |x::xs,l,d=>by
  simp only[Qhp]at d;split at d
  ·rename_i q t v g;split at d
   ·rename_i e T f y i;simp only[pB]at d;subst d;obtain⟨o,z⟩:=Zy5 h g;refine⟨by simpa using o,λj A k=>?_⟩;cases j with
    |zero=>
     simp only[List.getElem?_cons_zero,pB]at k;subst k;have hs:=h.slots (.m q);rw[i]at hs;obtain⟨b,c,p,B,r,_⟩:=hs;refine⟨a.eval x,Ae,e,T,f,y,b,p,i,r,?_⟩
     grind[Zdp,aB]
    |succ j=>simp_all
   ·cases d
  ·cases d
def Z14{ρ:Type}(C:Cfg)(n:Nat)(ops:Array La)(o:La)(s:St)(k:St->Option ρ):Option ρ:=
 match o.guard with
 |none=>match o.op with
  |.store e x v=>match o.dst with
   |none=>match Z15 C.τ s [] e x v with
    |some s'=>k s'
    |none=>K4
   |some _=>K4
  |.call {callee:=.value fo,args:=xs,..}=>match Z5x s [] fo with
   |some f=>Qhn C.Γ n s [] o.dst f xs.toList k
   |none=>match Z7y s [] fo with
    |some c=>Qhm C.Γ n s [] o.dst c xs.toList k
    |none=>K4
  |.makeFunc (.func f) ⟨[]⟩ ⟨c::cs⟩=>match C.inl.find f with
   |some _=>match Qhp s (c::cs),o.dst with
    |some l,K1 d=>match aX s d&&Lg d n with
     |true=>k (Wc s d (.cl f l))
     |false=>K4
    |_,_=>K4
   |none=>match C.soft,Qho s (c::cs),o.dst with
    |false,K1 (U,s'),K1 d=>match aX s' d&&Lg d n with
     |true=>k (Wc s' d (.val (.clo f U.1) (.u K3) U.2))
     |false=>K4
    |_,_,_=>K4
  |.move (.tmp q)=>match s.get (.m q),o.dst with
   |.tup,K1 d=>match aX s d&&Lg d n&&Lg q 1048576 with
    |true=>k (Zwj s q d)
    |false=>K4
   |_,_=>match Zgo C.τ s [] o.type (.tmp q),o.dst with
    |some r,K1 d=>match aX r.s d&&Lg d n with
     |true=>Zzz r.obl (k (Wc r.s d r.t))
     |false=>K4
    |_,_=>K4
  |_=>match Z7j C s [] o,o.dst with
   |some r,K1 d=>match aX r.s d&&Lg d n with
    |true=>Zzz r.obl (k (Wc r.s d r.t))
    |false=>K4
   |_,_=>K4
 |some (j,b)=>match(ops[j]?).bind (·.dst),o.dst with
  |some g,K1 d=>match Zp6 s 8 g b,aX s d&&Lg d n&&Lg g 1048576 with
   |some tg,K2=>gdK C o s tg g b d k
   |_,_=>K4
  |_,_=>K4
structure Qlk(gh:Nat->Lc)(C:Cfg)(o:La)(X X':Nat->Prop)(s:St)(a a':Act)(w w':Lb):Prop where
 more:∀b,X b->X' b
 pres:Qb4 o.op=K2->Old w w'
 kept:Zwo gh X s a (Zxl C.τ s o) w w'
 put:∃v,a'=a.put o.dst v
def R.fact(h:R n W0 w X F H s a){o:La}{v:Lc}(hold:Old w w'):Qlk W0.gh C o X X s a (a.put o.dst v) w w':=⟨λ_ h=>h,λ_=>hold,h.kept hold,v,rfl⟩
def Zwo.any{tgt:Option Nat}(h:Zwo W0.gh X s a K4 w w'):Zwo W0.gh X s a tgt w w':=λb c=>h b (c.imp id λ⟨r,d,_,e⟩=>⟨r,d,Ae,e⟩)
def Qfx(hC:C.ok P g)(h:R n W0 w X F [] s a){g:Nat}(hd:o.dst=K1 d)(hch:Zp6 s 8 g b=K1 tg)(hdn:aX s d=K2/\d<n){k:St->Option ρ}{r:ρ}(hs:gdK C o s tg g b d k=K1 r)
   (hK:∀w' a' X' F' s',k s'=K1 r->R n W0 w' X' F' [] s' a'->Qlk W0.gh C o X X' s a a' w w'->K a' w'):
  (Xj W0.gh a (.m g)=.bool b->o.wp P a w K Q)/\(Xj W0.gh a (.m g)≠ .bool b->K (a.put o.dst undef) w):=by
 have j:=Z3k hch;have skip:∀{t:Tm},Xj W0.gh a (.m g)≠ .bool b->k (Wc s d (.gd g b t))=K1 r->K (a.put o.dst undef) w:=by
  intro t c y;rw[hd];exact hK w _ X _ _ y ((by simpa using h:R n W0 w X F ([]++[]) s a).put (S:=[]) hdn.1 hdn.2 λ_=>⟨j,λi=>absurd i c,λ_=>⟨rfl,rfl⟩⟩) (by rw[<-hd];exact h.fact (Old.refl w))
 unfold gdK at hs;split at hs
 ·rename_i W Y I J;split at hs
  ·rename_i e z;obtain⟨f,L,y⟩:=Mf.1 z;split at hs
   ·rename_i Z H v0 A B M;rw[Mf]at hs;obtain⟨rv,p,hk⟩:=hs;split at hk
    ·rename_i v hv;refine⟨λi=>?_,λi=>skip i hk⟩;have l:=Zb9 h hch i;rw[Zqc h B l]at p;refine Zno hC.Γ h l (zD h l L) J y A p λrs S w' x q hold=>?_;obtain⟨H,N,O⟩:=Qcf hv q;rw[hd];exact hK w' _ X _ _ hk (x.put hdn.1 hdn.2 λ_=>⟨j,λ_=>⟨H,N,by unfold rdF;exact km (Nat.le_refl _) (λ_ (h:False)=>h.elim) O⟩,λc=>absurd i c⟩) (by rw[<-hd];exact h.fact hold)
    ·cases hk
   ·cases hs
  ·cases hs
 ·split at hs
  ·rename_i r0 hv;split at hs
   ·rename_i U;obtain⟨hk,D⟩:=Zsw h hs;refine⟨λi=>?_,λi=>skip i hk⟩;have l:=Zb9 h hch i;refine Zsx h l hC hv (D l) K Q λv X' F' S w' V x u E hold=>?_;have G:=E U;rw[G]at x u;rw[hd];exact hK w' _ X' _ _ hk (x.put hdn.1 hdn.2 λ_=>⟨j,λ_=>u,λc=>absurd i c⟩) (by rw[<-hd];exact⟨V,hold.1,hold.2.any,_,rfl⟩)
   ·cases hs
  ·cases hs
def Zkw(hC:C.ok P g)(h:R n W0 w X F [] s a){k:St->Option ρ}{r:ρ}(hs:Z14 C n ops o s k=K1 r)
  (hK:∀w' a' X' F' s',k s'=K1 r->R n W0 w' X' F' [] s' a'->Qlk W0.gh C o X X' s a a' w w'->K a' w'):ite (Ld o (yielded ops a.tmps)) (o.wp P a w K Q) (K (a.put o.dst undef) w):=by
 unfold Z14 at hs;split at hs
 ·rename_i H;rw[if_pos (by simp[Ld,H])];split at hs
  ·rename_i e x v p;split at hs
   ·rename_i i;split at hs
    ·rename_i s' I;exact Z16 h hC.τ p i I λw' F' z B=>hK w' a X F' s' hs z ⟨λ_ h=>h,λY=>(by rw[p]at Y;cases Y),B,undef,by rw[i];rfl⟩
    ·cases hs
   ·cases hs
  ·rename_i fo xs ad p;split at hs
   ·rename_i f hf;exact Z7v hC.Γ h di (zD h di hf) p hs λv w' F' s' hk z hold=>hK w' _ X F' s' hk z (h.fact hold)
   ·split at hs
    ·rename_i c hc;exact Z7u hC.Γ h di hc p hs λv w' F' s' hk z hold=>hK w' _ X F' s' hk z (h.fact hold)
    ·cases hs
  ·rename_i f c Z p;split at hs
   ·split at hs
    ·rename_i l d y i;split at hs
     ·rename_i hdn;simp only[pC,Lm]at hdn;obtain⟨J,L⟩:=Zy5 h y;unfold Lo;simp only[execOp,p,L1,Lh];rw[i];refine hK w _ X _ _ hs ((by simpa using h:R n W0 w X F ([]++[]) s a).put hdn.1 hdn.2 (t:=.cl f l) ⟨rfl,(c::Z).map a.eval,Ae,J,L⟩) (by rw[<-i];exact h.fact (Old.refl w))
     ·cases hs
    ·cases hs
   ·split at hs
    ·rename_i U s' d M y i;split at hs
     ·rename_i hdn;simp only[pC,Lm]at hdn;obtain⟨X',F',J,L,g3⟩:=Zy4 (hC.soft.trans M) h y;unfold Lo;simp only[execOp,p,L1,Lh];rw[i];refine hK w _ X' _ _ hs ((by simpa using J:R n W0 w X' F' ([]++[]) s' a).put hdn.1 hdn.2 (t:=.val (.clo f U.1) (.u K3) U.2) ⟨[.func (.func f) #[] (List.map a.eval (c::Z)).toArray],by simp[Jd],by unfold rdF;exact⟨rfl,_,rfl,g3⟩⟩) (by rw[<-i];exact⟨L,λ_=>Old.refl w,h.kept (Old.refl w),_,rfl⟩)
     ·cases hs
    ·cases hs
  ·rename_i q p;split at hs
   ·rename_i d hq i;split at hs
    ·rename_i hdn;have N:Lg q 1048576=true:=Ac
     simp only[pC,Lm]at hdn;obtain⟨F',E⟩:=h.tupTo hq hdn.1.1 hdn.1.2;rw[Jf W0 a N]at E;unfold Lo;simp only[execOp,p,Lv,Lh];rw[i];exact hK w _ X F' _ hs E (by rw[<-i];exact h.fact (Old.refl w))
    ·cases hs
   ·split at hs
    ·rename_i r0 d hv i;split at hs
     ·rename_i hdn;simp only[pC,Lm]at hdn;rw[Zjc]at hs;refine(Zd9 h di p hv).sound h hs.1 K Q λv X' F' S w' O z D _ hold=>?_;rw[i];exact hK w' _ X' _ _ hs.2 (z.put hdn.1 hdn.2 D) (by rw[<-i];exact⟨O,hold.1,hold.2.any,_,rfl⟩)
     ·cases hs
    ·cases hs
  ·split at hs
   ·rename_i r0 d hv i;split at hs
    ·rename_i hdn;simp only[pC,Lm]at hdn;rw[Zjc]at hs;refine Zsx h di hC hv hs.1 K Q λv X' F' S w' O z D _ hold=>?_;rw[i];exact hK w' _ X' _ _ hs.2 (z.put hdn.1 hdn.2 D) (by rw[<-i];exact⟨O,hold.1,hold.2.any,_,rfl⟩)
    ·cases hs
   ·cases hs
 ·rename_i j b H;split at hs
  ·rename_i g d hj i;split at hs
   ·rename_i tg V hdn;have G:Lg g 1048576=true:=Ac
    simp only[pC,Lm]at hdn;have am:=Qfx (Q:=Q) hC h i V hdn.1 hs hK;by_cases hb:Xj W0.gh a (.m g)=.bool b
    ·have ab:g<a.tmps.size:=by
      have A:a.tmps.getD g undef=.bool b:=(Jf W0 a G).symm.trans hb;rcases Lt g a.tmps.size with h'|h'
      ·exact h'
      ·rw[Array.getD_eq_getD_getElem?,Array.getElem?_eq_none h']at A;cases A
     have W:Ld o (yielded ops a.tmps)=true:=by
      have A:a.tmps[g]? =K1 (.bool b):=by
       have A:a.tmps.getD g undef=.bool b:=(Jf W0 a G).symm.trans hb;simp_all
      simp_all[Ld,yielded]
     simp_all
    ·have W:¬Ld o (yielded ops a.tmps)=true:=by
      intro W;simp only[Ld,H,yielded,hj,pA,beq_iff_eq]at W
      grind[Xj,xQ]
     simp_all
   ·cases hs
  ·cases hs
def oy:Ty->Nat|.pair a b=>max (oy a+1) (oy b)|.arr _ t=>oy t+1|_=>1
def eqB(P:Ll):Ty->Li->List Field->Nat->Bool->Bool
 |.int _,e,_,_,K2=>match P.underlying e with|some (.int _)=>VA P e (.int .i64)|_=>K3
 |.bool,e,_,_,K2=>match P.underlying e with|some .bool=>VA P e .bool|_=>K3
 |.str,e,_,_,K2=>match P.underlying e with|some .string=>VA P e .str|_=>K3
 |.unit,e,_,_,K2=>match P.underlying e with|some (.struct fs)=>fs.toList.isEmpty&& !P.stoodInHeld e&&VA P e .unit|_=>K3
 |.pair a b,e,_,_,K2=>match P.underlying e with
  |some (.struct fs)=>match fs.toList with
   | f :: r => !P.stoodInHeld e && VA P e (.pair a b) && f.name != "_" && Le f.offset 0 && eqB P a f.type [] 0 K2 && eqB P b 0 r a.size K3
   |[]=>K3
  |_=>K3
 |.arr n t,e,_,_,K2=>match P.underlying e with
  |some (.array m e2)=>Le m n&&VA P e (.arr n t)&&eqB P t e2 [] 0 K2
  |_=>K3
 |.unit,_,fs,_,K3=>fs.isEmpty
 |.pair a b,_,fs,off,K3=>match fs with
  | f :: r => f.name != "_" && Le f.offset off && eqB P a f.type [] 0 K2 && eqB P b 0 r (off + a.size) K3
  |[]=>K3
 |_,_,_,_,_=>K3
def Z8e{T:Ty}{e:Li}(h:eqB P T e fs off K2=K2):∃i,P.info? e=K1 i/\i.size=T.size:=by
 have a:∀U:Ty,U.size=T.size->VA P e U=K2-> ∃i,P.info? e=K1 i/\i.size=T.size:=λU b hs=>by
  grind[wn]
 cases T<;>simp only[eqB]at h
 case int k=>split at h<;>first|exact a _ rfl h|cases h
 all_goals grind
def Ql6{T:Ty}{e:Li}(h:eqB P T e fs off K2=K2)(w:Lb):(Lq e).run P w=.ok T.isAgg w:=by
 cases T<;>simp only[eqB]at h
 case int k=>split at h<;>first|(rename_i c;simp[Lq,run_underlying c,Ty.isAgg])|cases h
 case bool=>split at h<;>first|(rename_i c;simp[Lq,run_underlying c,Ty.isAgg])|cases h
 case str=>split at h<;>first|(rename_i c;simp[Lq,run_underlying c,Ty.isAgg])|cases h
 case unit=>split at h<;>first|(rename_i c;simp[Lq,run_underlying c,Ty.isAgg])|cases h
 case pair a b=>split at h<;>first|(rename_i c;simp[Lq,run_underlying c,Ty.isAgg])|cases h
 case arr n t=>split at h<;>first|(rename_i c;simp[Lq,run_underlying c,Ty.isAgg])|cases h
 all_goals simp_all
def Qaw{T:Ty}{e:Li}(h:eqB P T e fs off K2=K2)(w:Lb):(Go.sizeOf e).run P w=.ok T.size w:=by
 obtain⟨i,a,hs⟩:=Z8e h;simp_all[Go.sizeOf,typeInfo]
def Zsi{T:Ty}{e:Li}{off':Nat}(h:eqB P T e fs off' K2=K2)(w:Lb){xs:Array Lc}{pre u post:List Lc}(hx:xs.toList=pre++(u++post))(ho:pre.length=off)(hu:u.length=T.size):
  (part e xs off).run P w=.ok (Jd T u) w:=by
 unfold part;simp only[Lu,Ql6 h w,Lk];cases ha:T.isAgg
 ·have b:=Zsk ha;rw[b]at hu;obtain⟨v,rfl⟩:=List.length_eq_one_iff.1 hu;have:xs[off]? =K1 v:=by
   rw[<-Array.getElem?_toList,hx,<-ho];simp
  have a:Jd T [v]=v:=by cases T<;>simp[Ty.isAgg]at ha<;>rfl
  simp[this,a]
 ·simp only[if_true,Lu,Qaw h w,Lk,Lv];have c:xs.extract off (off+T.size)=u.toArray:=by
   grind[Array.toList_extract]
  have a:Jd T u=.agg u.toArray:=by cases T<;>simp[Ty.isAgg]at ha<;>rfl
  rw[c,a]
def JN{X Y:Nat->Prop}{B:Nat}{w2 w3:Lb}:∀(T:Ty),
  (∀(e:Li)(fs:List Field)(off d:Nat)(w:Lb)(x y:T.den)(u v:List Lc),eqB P T e fs off K2=K2->oy T<=d+1->rd w2 X B K3 T x u []->rd w3 Y B K3 T y v []->
   (Lz (d+1) e (Jd T u) (Jd T v)).run P w=.ok (eqV T x y) w)/\
  (∀(e:Li)(fs:List Field)(off d:Nat)(w:Lb)(x y:T.den)(u v pu pv:List Lc),eqB P T e fs off K3=K2->oy T<=d+1->rd w2 X B K3 T x u []->rd w3 Y B K3 T y v []->pu.length=off->pv.length=off->
   (L2 d (pu++u).toArray (pv++v).toArray fs).run P w=.ok (eqV T x y) w)
 |.int k=>by
   refine⟨λe fs off d w x y u v h _ hx c=>?_,λe fs off d w x y u v pu pv h=>by simp[eqB]at h⟩;simp only[eqB]at h;split at h
   ·rename_i k' g;rw[hx.1,c.1];exact run_equalIn_int w d e k k' x y g
   ·cases h
 |.bool=>by
   refine⟨λe fs off d w x y u v h _ hx c=>?_,λe fs off d w x y u v pu pv h=>by simp[eqB]at h⟩;simp only[eqB]at h;split at h
   ·rename_i g;rw[hx.1,c.1];exact run_equalIn_bool' w d e x y g
   ·cases h
 |.str=>by
   refine⟨λe fs off d w x y u v h _ hx c=>?_,λe fs off d w x y u v pu pv h=>by simp[eqB]at h⟩;simp only[eqB]at h;split at h
   ·rename_i g;rw[hx.1,c.1];have:=run_equalIn_string w d e ⟨⟨x⟩⟩ ⟨⟨y⟩⟩ g;rw[L3,L3]at this;exact this
   ·cases h
 |.unit=>by
   refine⟨λe fs off d w x y u v h _ hx c=>?_,λe fs off d w x y u v pu pv h _ hx c _ _=>?_⟩
   ·simp only[eqB]at h;split at h
    ·rename_i fs g;simp only[pC,Lw]at h;have G:P.fieldsOf e=fs:=by simp_all[Mg]
     rw[hx.1,c.1];show(Lz (d+1) e (.agg #[]) (.agg #[])).run P w=_;rw[run_equalIn_struct w d e #[] #[] (by rw[G];exact g) h.1.2,G];have:fs.toList=[]:=by simpa using h.1.1
     rw[this];rfl
    ·cases h
   ·have:fs=[]:=by simp_all[eqB]
    rw[this];rfl
 |.pair a b=>by
   have q : ∀ (f : Field) (r : List Field) (off d : Nat) (w : Lb) (x y : (Ty.pair a b).den) (u v pu pv : List Lc), f.name ≠ "_" -> f.offset = off -> eqB P a f.type [] 0 K2 = K2 -> eqB P b 0 r (off + a.size) K3 = K2 ->
     oy (.pair a b)<=d+1->rd w2 X B K3 (.pair a b) x u []->rd w3 Y B K3 (.pair a b) y v []->pu.length=off->pv.length=off->
     (L2 d (pu++u).toArray (pv++v).toArray (f::r)).run P w=.ok (eqV (.pair a b) x y) w:=by
    intro f r off d w x y u v pu pv H h2 p O C hx c s z;obtain⟨u1,u2,S1,S2,rfl,I,j,D⟩:=hx;obtain⟨E,J,T1,T2,rfl,K,o,F⟩:=c;have I:=Ly.1 I.symm;have K:=Ly.1 K.symm;obtain⟨rfl,rfl⟩:=I;obtain⟨rfl,rfl⟩:=K;simp only[oy]at C;have ab:oy a+1<=d+1:=Md (Nat.le_max_left _ _) C;have Q:oy b<=d+1:=Md (Nat.le_max_right _ _) C;cases d with
    |zero=>
     have:1<=oy a:=by cases a<;>simp[oy];omega
     omega
    |succ d=>
     simp only[L2,H,ne_eq,not_false_eq_true,if_true,Lu,h2];rw[Zsi p w (u:=u1) (pre:=pu) (post:=u2) Ae s (Jx j)];simp only[Lk];rw[Zsi p w (u:=E) (pre:=pv) (post:=J) Ae z (Jx o)];simp only[Lk];rw[(JN a).1 f.type [] 0 d w x.1 y.1 u1 E p Aa j o];simp only[Lk];cases he:eqV a x.1 y.1
     ·simp[eqV,he]
     ·have:=(JN b).2 0 r (off+a.size) (d+1) w x.2 y.2 u2 J (pu++u1) (pv++E) O Q D F Ay Ay
      grind[eqV]
   refine⟨λe fs off d w x y u v h C hx c=>?_,λe fs off d w x y u v pu pv h C hx c s z=>?_⟩
   ·simp only[eqB]at h;split at h
    ·rename_i fs g;split at h
     ·rename_i f r S;simp only[pC,Lw,bne_iff_ne,ne_eq]at h;obtain⟨⟨⟨⟨⟨H,_⟩,p⟩,O⟩,h5⟩,h6⟩:=h;have G:P.fieldsOf e=fs:=by simp_all[Mg]
      show(Lz (d+1) e (.agg u.toArray) (.agg v.toArray)).run P w=_;rw[run_equalIn_struct w d e u.toArray v.toArray (by rw[G];exact g) H,G,S];exact q f r 0 d w x y u v [] [] p (pD O) h5 (by simpa using h6) C hx c rfl rfl
     ·cases h
    ·cases h
   ·simp only[eqB]at h;split at h
    ·rename_i f r;simp only[pC,bne_iff_ne,ne_eq]at h
     grind[pD]
    ·cases h
 |.arr n t=>by
   refine⟨λe fs off d w x y u v h C hx c=>?_,λe fs off d w x y u v pu pv h=>by simp[eqB]at h⟩;simp only[eqB]at h;split at h
   ·rename_i m U g;simp only[pC]at h;obtain⟨⟨H,_⟩,p⟩:=h;have:=pD H;subst this;obtain⟨i,hi,hs⟩:=Z8e p;have hc:P.cellsOf U=t.size:=by grind[Ll.cellsOf]
    show(Lz (d+1) e (.agg u.toArray) (.agg v.toArray)).run P w=_;rw[run_equalIn_array w d u.toArray v.toArray g hi,hc];cases d with
    |zero=>
     have:1<=oy t:=by cases t<;>simp[oy];omega
     simp_all[oy]
    |succ d=>
     simp only[oy]at C;have V:∀(l A:List t.den)(k:Nat)(pu pv L M:List Lc),l.length=A.length->pu.length=k*t.size->pv.length=k*t.size->eh (rd w2 X B K3 t) l L []->eh (rd w3 Y B K3 t) A M []->
       (Op.eqItems (d+1) U t.size (pu++L).toArray (pv++M).toArray (List.range' k l.length)).run P w=.ok (eqL (eqV t) l A) w:=by
      intro l
      induction l with
      |nil=>intro A k pu pv L M N _ _ _ _;cases A with
       |nil=>rfl
       |cons=>simp at N
      |cons a l ih=>
       intro A k pu pv L M N s z W Z;cases A with
       |nil=>simp at N
       |cons b A=>
        obtain⟨u1,u2,S1,S2,rfl,I,j,D⟩:=W;obtain⟨E,J,T1,T2,rfl,K,o,F⟩:=Z;obtain⟨rfl,rfl⟩:=Ly.1 I.symm;obtain⟨rfl,rfl⟩:=Ly.1 K.symm;simp only[List.length_cons,List.range'_succ,Op.eqItems,Lu];rw[Zsi p w (u:=u1) (pre:=pu) (post:=u2) Ae s (Jx j)];simp only[Lk];rw[Zsi p w (u:=E) (pre:=pv) (post:=J) Ae z (Jx o)];simp only[Lk];rw[(JN t).1 U [] 0 d w a b u1 E p Aa j o];simp only[Lk];cases he:eqV t a b
        ·simp[eqL,he]
        ·have:=ih A (k+1) (pu++u1) (pv++E) u2 J (by simpa using N) Ay Ay D F;simp only[List.append_assoc]at this;simp[eqL,he,this]
     have:=V x y 0 [] [] u v (by rw[hx.1,c.1]) Ae Ae hx.2 c.2;rw[hx.1]at this;rw[List.range_eq_range'];exact this
   ·cases h
 |.slice _ _=>⟨λe fs off d w x y u v h=>by simp[eqB]at h,λe fs off d w x y u v pu pv h=>by simp[eqB]at h⟩
 |.fnc _=>⟨λe fs off d w x y u v h=>by simp[eqB]at h,λe fs off d w x y u v pu pv h=>by simp[eqB]at h⟩
 |.err=>⟨λe fs off d w x y u v h=>by simp[eqB]at h,λe fs off d w x y u v pu pv h=>by simp[eqB]at h⟩
 |.hid _=>⟨λe fs off d w x y u v h=>by simp[eqB]at h,λe fs off d w x y u v pu pv h=>by simp[eqB]at h⟩
 |.sptr .. =>⟨λe fs off d w x y u v h=>by simp[eqB]at h,λe fs off d w x y u v pu pv h=>by simp[eqB]at h⟩
 |.clo .. =>⟨λe fs off d w x y u v h=>by simp[eqB]at h,λe fs off d w x y u v pu pv h=>by simp[eqB]at h⟩
def ZU.of{e:Li}{T:Ty}(h1:eqB P T e [] 0 K2=K2)(h2:P.eqGuardType P.depth e=K3)(h3:T.isAgg=K2)(h4:oy T<=10000):ZU P e T:=by
 have b:∀u:List Lc,Jd T u=.agg u.toArray:=λu=>by cases T<;>simp[Ty.isAgg]at h3<;>rfl
 refine⟨λw c p q u v=>?_,λw w2 w3 X Y B x y u v hx a=>?_,λw w2 w3 X Y B x y u v hx a=>?_⟩
 ·simp_all[run_eqGuard_agg]
 ·have:=(JN (P:=P) (X:=X) (Y:=Y) (B:=B) (w2:=w2) (w3:=w3) T).1 e [] 0 9999 w x y u v h1 Aa hx a;simp_all[run_eql_struct]
 ·have:=(JN (P:=P) (X:=X) (Y:=Y) (B:=B) (w2:=w2) (w3:=w3) T).1 e [] 0 9999 w x y u v h1 Aa hx a;simp_all[run_neq_struct]
inductive KT(s s':St):Tm->Tm->Prop where
 |pR (t):KT s s' t .pR
 |tup:KT s s' .tup .tup
 |val {T f g x}:(f=g\/cK T f g=K2)->KT s s' (.val T f x) (.val T g x)
 |box {e T f g x}:(f=g\/cK T f g=K2)->KT s s' (.box e T f x) (.box e T g x)
 |shp {T x}:KT s s' (.shp T x) (.shp T x)
 |ptr {r p}:(∃e T f x,s'.get (.m r)=.box e T f x)->KT s s' (.ptr r p) (.ptr r p)
 |aep {r p i}:(∃e T f x,s'.get (.m r)=.box e T f x)->KT s s' (.aep r p i) (.aep r p i)
 |pls {h l}:(∀q∈l,∃e T f x,s'.get (.m q.1)=.box e T f x)->KT s s' (.pls h l) (.pls h l)
 |bor {r p}:s.bad r p=K3->s'.get (.m r)≠ .pR->KT s s' (.bor r p) (.bor r p)
 |elp {r p i q}:s.bad r p=K3->s'.get (.m r)≠ .pR->KT s s' (.elp r p i q) (.elp r p i q)
 |bel {r p i q}:s.bad r p=K3->s.pN (sl r)=K3->s'.get (.m r)≠ .pR->KT s s' (.bel r p i q) (.bel r p i q)
 |cl {f l}:(∀q∈l,∃e T f x,s'.get (.m q)=.box e T f x)->KT s s' (.cl f l) (.cl f l)
variable {s':St}
def R.weak(h:R n W0 w X F H s a)(hk:∀k,KT s s' (s.get k) (s'.get k))(hc:∀d i,s'.get (.c d i)≠ .pR->s'.get (.m d)=.tup)
  (hl:∀p,p∈W0.fix->p.1∈s'.pQ):∃F',R n W0 w X F' H s' a:=by
 classical
 let F':Key->List Nat:=λk=>ite (s'.get k=.pR) [] (F k)
 have G:∀k b,b∈F' k->b∈F k:=λk b N=>Ag
 have C:∀{k},s'.get k≠ .pR->F' k=F k:=λhk=>by simp[F',hk]
 have K:∀{r p v U},s'.get (.m r)≠ .pR->Yv W0.gh w s F a r p v U->Yv W0.gh w s' F' a r p v U:=by
  intro r p v U z hv;have g:=hk (.m r);unfold Yv at hv⊢;split at hv
  ·rename_i T f x S;rw[S]at g;generalize V:s'.get (.m r)=t at g z;cases g with
   |pR=>simp_all
   |val hs=>exact hv
  ·rename_i e T f x S;rw[S]at g;have:=C z;generalize V:s'.get (.m r)=t at g z;cases g with
   |pR=>simp_all
   |box hs=>
    simp_all
  ·exact hv.elim
 refine⟨F',{h with fix:=λp hp=>⟨hl p hp,(h.fix p hp).2⟩,own:=λk b N=>h.own k b (G k b N),nodup:=λk=>?_,pS:=λk k' b N W=>h.pS k k' b (G k b N) (G k' b W),pL:=λk b N=>h.pL k b (G k b N),pM:=λd i z=>?_,slots:=λk=>?_}⟩
 ·simp only[F'];split
  ·simp
  ·exact h.nodup k
 ·refine⟨hc d i z,(h.pM d i λY=>?_).2⟩;have:=hk (.c d i);rw[Y]at this;generalize V:s'.get (.c d i)=t at this z;cases this;exact z rfl
 ·have hs:=h.slots k;have L:=hk k;by_cases z:s'.get k=.pR
  ·rw[z];simp only[F',z,if_true];rfl
  ·rw[C z];generalize ab:s'.get k=t' at L z;generalize V:s.get k=t at L hs;cases L with
   |pR=>simp_all
   |tup=>exact hs
   |val A=>obtain⟨vs,B,D⟩:=hs;exact⟨vs,B,Z9o A D⟩
   |box A=>obtain⟨b,c,I,B,D,J,Z⟩:=hs;exact⟨b,c,I,B,D,J,Z9o A Z⟩
   |shp=>exact hs
   | @ptr r p o=>
    obtain⟨e',T',g',x',o⟩:=o;obtain⟨E,e,T,f,x,b,I,B,D,J⟩:=hs;have g:=hk (.m r);rw[B,o]at g;have:=C (k:=.m r) (by rw[o];simp);cases g with
    |box A=>exact⟨E,_,_,_,_,b,I,o,Ac,J⟩
   | @aep r p i o=>
    obtain⟨e',T',g',x',o⟩:=o;obtain⟨E,e,T,f,x,b,I,nn,t2,y,B,D,J⟩:=hs;have g:=hk (.m r);rw[B,o]at g;have:=C (k:=.m r) (by rw[o];simp);cases g with
    |box A=>exact⟨E,_,_,_,_,b,I,nn,t2,y,o,Ac,J⟩
   | @pls hh l o=>
    obtain⟨E,O,us,B,D,J,Z,h5⟩:=hs;refine⟨E,O,us,B,D,J,λj q P=>?_,h5⟩;obtain⟨u,hu,e,T,f,x,b,I,g1,g2,g3⟩:=Z j q P;obtain⟨e',T',g',x',o⟩:=o q (L9 P);have g:=hk (.m q.1);rw[g1,o]at g;have:=C (k:=.m q.1) (by rw[o];simp);cases g with
    |box A=>exact⟨u,hu,_,_,_,_,b,I,o,Ac,g3⟩
   |bor Q o=>
    obtain⟨E,B⟩:=hs;obtain⟨U,B⟩:=B Q;exact⟨E,λ_=>⟨U,K o B⟩⟩
   |elp Q o=>
    obtain⟨E,B⟩:=hs;obtain⟨e,t,O,m,M,B,D⟩:=B Q;exact⟨E,λ_=>⟨e,t,O,m,M,K o B,D⟩⟩
   |bel Q Y o=>
    obtain⟨E,B⟩:=hs;obtain⟨e,t,O,m,M,x0,y,cs,B,k1,k2,k3,D⟩:=B Q Y;exact⟨E,λ_ _=>⟨e,t,O,m,M,x0,y,cs,K o B,k1,k2,Ac,D⟩⟩
   | @cl f l o=>
    obtain⟨E,us,B,D,J⟩:=hs;refine⟨E,us,B,D,λj q P=>?_⟩;obtain⟨u,hu,e,T,f,x,b,I,g1,g2,g3⟩:=J j q P;obtain⟨e',T',g',x',o⟩:=o q (L9 P);have g:=hk (.m q);rw[g1,o]at g;have:=C (k:=.m q) (by rw[o];simp);cases g with
    |box A=>exact⟨u,hu,_,_,_,_,b,I,o,Ac,g3⟩
def Znp(s:St):Tm->Tm
 |.bor r p=>match s.bad r p with|true=>.pR|false=>.bor r p
 |.elp r p i q=>match s.bad r p with|true=>.pR|false=>.elp r p i q
 |.bel r p i q=>match s.bad r p||s.pN (sl r)with|true=>.pR|false=>.bel r p i q
 |.gd _ _ _=>.pR
 |t=>t
def Z5c(s:St):List (Key×Tm)->List (Key×Tm)|[]=>[]|(k,t)::r=>(k,Znp s t)::Z5c s r
def Zvt(s:St):St:={env:=Z5c s s.env,pP:=[],pQ:=s.pQ}
def Zy7(s:St)(k:Key):∀l,mX (Z5c s l) k=Znp s (mX l k)
 |[]=>rfl
 |(j,t)::r=>by
  simp only[Z5c,Qg,Zy7 s k r];split<;>rfl
def R.clean(h:R n W0 w X F H s a):∃F',R n W0 w X F' H (Zvt s) a:=by
 have z:∀k,(Go.Am.Zvt s).get k=Znp s (s.get k):=λk=>Zy7 s k s.env;have c:∀{r p v U},Yv W0.gh w s F a r p v U->(Go.Am.Zvt s).get (.m r)≠ .pR:=by
  grind[Yv,Znp]
 refine h.weak (λk=>?_) (λd i t=>?_) (λp J=>(h.fix p J).1)
 ·rw[z];have hs:=h.slots k;cases ht:s.get k with
  |pR=>exact .pR _
  |tup=>exact .tup
  |val=>exact .val (.inl rfl)
  |box=>exact .box (.inl rfl)
  |shp=>exact .shp
  |ptr r p=>
   rw[ht]at hs;obtain⟨B,e,T,f,x,b,C,g,D,A⟩:=hs;exact .ptr ⟨e,T,f,x,by rw[z,g];rfl⟩
  |aep r p i=>
   rw[ht]at hs;obtain⟨B,e,T,f,x,b,C,n,Q,y,g,D,A⟩:=hs;exact .aep ⟨e,T,f,x,by rw[z,g];rfl⟩
  |pls S l=>
   rw[ht]at hs;obtain⟨B,V,K,g,D,A,L,W⟩:=hs;refine .pls λq E=>?_;obtain⟨j,G⟩:=L5 E;obtain⟨u,M,e,T,f,x,b,C,I,N,O⟩:=L j q G;exact⟨e,T,f,x,by rw[z,I];rfl⟩
  |bor r p=>
   rw[ht]at hs;simp only[Znp];split
   ·exact .pR _
   ·rename_i o;obtain⟨U,g⟩:=hs.2 o;exact .bor o (c g)
  |elp r p i q=>
   rw[ht]at hs;simp only[Znp];split
   ·exact .pR _
   ·rename_i o;obtain⟨_,_,_,_,_,g,_⟩:=hs.2 o;exact .elp o (c g)
  |bel r p i q=>
   rw[ht]at hs;simp only[Znp];split
   ·exact .pR _
   ·rename_i o;simp only[Bool.or_eq_false_iff]at o;obtain⟨_,_,_,_,_,_,_,_,g,_⟩:=hs.2 o.1 o.2;exact .bel o.1 o.2 (c g)
  |cl f l=>
   rw[ht]at hs;obtain⟨B,K,g,D,A⟩:=hs;refine .cl λq E=>?_;obtain⟨j,G⟩:=L5 E;obtain⟨u,M,e,T,f,x,b,C,I,N,O⟩:=A j q G;exact⟨e,T,f,x,by rw[z,I];rfl⟩
  |gd=>exact .pR _
 ·rw[z]at t⊢;have:=(h.pM d i λP=>by rw[P]at t;exact t rfl).1;rw[this];rfl
theorem Zyw(h:R n W0 w X F H s a)(ht:tg.ok W0.gh a){x:Lf}(ho:o.op=.assign x){r:Res}(hr:Zal τ s tg o.type x=K1 r)(hm:r.moved=K3):dz P τ W0 w X F s a o r:=by
 unfold Zal at hr;have e:∀{k t u},op1 s tg x=.tm k t->Zss s (.tm k t)=K1 u->u.moved=K3->dz P τ W0 w X F s a o ⟨.val u.T u.f u.x,u.s,u.moved,K4⟩:=by
  intro k t u hx g hm;rw[<-hx]at g;obtain⟨p,S,i,b,c,q,j,_⟩:=Zdt h ht g;obtain⟨l,y,m⟩:=j hm;subst m;exact Jg l λ_=>⟨_,λd _=>by simp[execOp,ho],i,b,c⟩
 split at hr
 ·rename_i v hv;obtain rfl:=Zdm hv;obtain⟨b,c⟩:=Zf4 (w:=w) (X:=X) (B:=W0.B) (s:=s) (F:=F) (a:=a) hr;exact Jg b λ_=>⟨_,λd _=>by simp[execOp,ho,Act.eval],c⟩
 ·rename_i f hv;obtain rfl:=Z6o hv;simp only[pB]at hr;subst hr;exact Jg rfl λ_=>⟨_,λd _=>by simp[execOp,ho,Act.eval],Z7k f⟩
 ·rename_i k t hx;split at hr
  ·grind
  ·grind
  ·obtain⟨b,c⟩:=KN h ht hx hr;exact Jg b λ_=>⟨_,λd _=>by simp[execOp,ho],c⟩
 ·cases hr
def Zx6(C:Cfg)(s:St)(tg:Kd)(o:La):Option Res:=
 match o.op with
 |.move x=>Zgo C.τ s tg o.type x
 |.assign x=>match Zal C.τ s tg o.type x with
  |some r=>match r.moved with|false=>K1 r|true=>K4
  |none=>K4
 |.pick c x y=>Zx4 C.τ s tg o.type c x y
 |.load e x=>Zx2 C.τ s tg e x
 |.binOp op e x y e2=>match C.τ e with
  |some (.pair _ _)|some (.arr _ _)=>Qdg C s tg op e x y
  |_=>Z45 C.τ s tg op e x y e2
 |.unOp op e x=>Qe4 C.τ s tg op e x
 |.convert e e2 x=>Zxq C.τ s tg e e2 x
 |.nilCheck x=>Zc3 s tg x
 |.fieldAddr e x i=>Zqf C.τ s tg e x i
 |.indexAddr e x i=>WU C.τ s tg e x i
 |.index e x i=>Zqm C.τ s tg e x i
 |.call {callee:=.builtin .len,args:=⟨[x]⟩,argTypes:=⟨[e]⟩}=>Z6b C.τ s tg e x
 |.call {callee:=.builtin .min,args:=⟨[x,y]⟩,argTypes:=⟨[e,_]⟩}=>Ztu s tg e C.τ x y K3
 |.call {callee:=.builtin .max,args:=⟨[x,y]⟩,argTypes:=⟨[e,_]⟩}=>Ztu s tg e C.τ x y K2
 |_=>K4
def Znh(h:R n W0 w X F H s a)(ht:tg.ok W0.gh a)(hC:C.ok P g){r:Res}(hr:Zx6 C s tg o=K1 r):dz P C.τ W0 w X F s a o r:=by
 unfold Zx6 at hr;split at hr
 ·grind[Zd9]
 ·grind[Zyw]
 ·grind[Zng]
 ·rename_i b;exact Znc h ht hC.τ b hr
 ·rename_i b;split at hr
  ·grind[Zcq]
  ·grind[Zcq]
  ·exact Zp2 h ht hC.τ b hr
 ·grind[Zwk]
 ·rename_i b;exact Zm5 h ht hC.τ b hr
 ·grind[Zc4]
 ·rename_i b;exact Zi7 h ht hC.τ b hr
 ·rename_i b;exact Za4 h ht hC.τ b hr
 ·rename_i b;exact Zjj h ht hC.τ b hr
 ·rename_i b;exact Zqv h ht hC.τ b hr
 ·rename_i b;exact WW h ht (mx:=K3) b hr
 ·rename_i b;exact WW h ht (mx:=K2) b hr
 ·cases hr
def Qcg{ρ:Type}(C:Cfg)(n:Nat)(ops:Array La)(o:La)(s:St)(k:St->Option ρ):Option ρ:=
 match o.guard with
 |none=>match Zx6 C s [] o,o.dst with
  |some r,K1 d=>match aX s d&&Lg d n with
   |true=>Zzz r.obl (k (Wc s d r.t))
   |false=>K4
  |_,_=>K4
 |some (j,b)=>match(ops[j]?).bind (·.dst),o.dst with
  |some g,K1 d=>match Zp6 s 8 g b,aX s d&&Lg d n&&Lg g 1048576 with
   |some tg,K2=>match Zx6 C s tg o with
    |some r=>Z7f s tg r.obl (k (Wc s d (.gd g b r.t)))
    |none=>K4
   |_,_=>K4
  |_,_=>K4
variable {ops:Array La}
def QF:Exit->Act->Lb->Prop:=λ_ _ _=>False
def Qwg{o:La}{a:Act}{w:Lb}(h:o.wp P a w K QF):o.wp P a w K Q:=by
 unfold Lo at*
 generalize (execOp a.eval o).run P w=r at*
 cases r with
 |ok n d=>
  cases n<;>simp only[Lh]at h⊢ <;>first
   |exact h
   |(
    refine Calls.mono h λe f b=>?_;cases e with
    |returned v=>exact b
    |panicked c=>exact b.elim
    |outgrown=>obtain⟨_,_,h⟩:=b;exact h.elim)
 |halt x d=>cases x<;>simp only[Lh]at h⊢ <;>exact h.elim
def uz(P:Ll)(ops:Array La)(I:Lb->Prop)(o:La)(v:Lc)(a:Act):Prop:=(Ld o (yielded ops a.tmps)=K2/\ ∀w,I w->(execOp a.eval o).run P w=.ok (.value v) w)\/(Ld o (yielded ops a.tmps)=K3/\v=undef)
theorem uz.same{o:La}{v:Lc}{a:Act}(hy:uz P ops I o v a)(he:execOp a'.eval o=execOp a.eval o)
  (hw:Ld o (yielded ops a'.tmps)=Ld o (yielded ops a.tmps)):uz P ops I o v a':=by
 simp_all[uz]
def uz.go{o:La}{v:Lc}{a:Act}{w:Lb}{i:Nat}(hi:ops[i]? =K1 o)(hy:uz P ops I o v a)(hI:I w)(h:K (a.put o.dst v) w):
  wpOp P ops QF i K a w:=by
 unfold wpOp;simp only[hi];rcases hy with⟨b,hv⟩|⟨b,rfl⟩
 all_goals simp_all[if_true,Lo,Lh,Bool.false_eq_true,if_false]
def Z80{v:Lc}(hj:ops[j]? =K1 oj)(hap:oi.apart ops oj=K2)(hsi:∀cs b,oi.op≠ .select cs b)(hsj:∀cs b,oj.op≠ .select cs b)
  {a:Act}{w:Lb} (hy:uz P ops I oi v a) (h:wpOp P ops QF j K (a.put oi.dst v) w):
  wpOp P ops QF j (λa' w'=>uz P ops I oi v a'/\K (a'.put oi.dst v) w') a w:=by
 obtain⟨i,p,k⟩:=Me hap;have g:∀a:Act,uz P ops I oi v a-> ∀u,uz P ops I oi v (a.put oj.dst u):=λa hy u=>hy.same (execOp_put oi hsi a oj.dst u k) (wanted_put oi a oj.dst u k);unfold wpOp at*
 simp only[hj]at*
 rw[wanted_put oj a oi.dst v i]at h;split
 ·rename_i m;simp only[m,if_true]at h;rcases h with h|⟨_,_,_,h⟩
  ·refine .inl ?_;unfold Lo at*
   rw[execOp_put oj hsj a oi.dst v i]at h;generalize (execOp a.eval oj).run P w=r at*
   cases r with
   |ok n w'=>
    cases n<;>simp only[Lh]at h⊢
    case value u=>grind[Lr]
    case skip=>grind[Lr,undef]
    case defer d=>
     refine⟨g {a with defers:=d::a.defers} (hy.same rfl rfl) _,?_⟩
     grind[Lr,undef,Act.put_defers]
    case enter f args=>
     refine Calls.mono h λe o l=>?_;cases e with
     |returned u=>grind[Lr]
     |panicked c=>exact l.elim
     |outgrown=>exact l
    grind[Rows.mono,Lr]
   |halt x w'=>cases x<;>simp only[Lh]at h⊢ <;>exact h.elim
  ·exact h.elim
 grind[Lr,undef]
def Qr0(C:Cfg):Op->Bool
 |.call {callee:=.value fo,..}=>match fo with
  |.func f=>match C.ΓB.find f with|some _=>K3|none=>K2
  |_=>match C.ΓB with|[]=>K2|_::_=>K3
 |_=>K2
def Z1c(C:Cfg)(op:Op):Bool:=Qb4 op&&Qr0 C op
def Zpk(C:Cfg)(ops:Array La)(i:Nat):Bool:=match ops[i]? with|some o=>Z1c C o.op|none=>K2
def Qqa(gh:Nat->Lc)(bx:List Nat)(Sh:Nat->Prop)(a:Act)(w w':Lb):Prop:= ∀b,(Sh b\/ ∃r∈bx,Xj gh a (.m r)=.pointer (K1 ⟨b,0,K4⟩))->w'.heap[b]? =w.heap[b]?
structure Zs1(gh:Nat->Lc)(pr:Nat->Bool)(bx:Nat->List Nat)(Sh:Nat->Prop)(i:Nat)(a:Act)(w w':Lb):Prop where
 pres:pr i=K2->Old w w'
 hold:Qqa gh (bx i) Sh a w w'
def Qll(gh:Nat->Lc)(ops:Array La)(i:Nat)(a a':Act):Prop:= ∀k,(ops[i]?).bind (·.dst)≠K1 k->Xj gh a' (.m k)=Xj gh a (.m k)
theorem Z1x{a:Act}{d:Option Nat}{v:Lc}(h:d≠K1 k):Xj gh (a.put d v) (.m k)=Xj gh a (.m k):=by
 cases d with
 |none=>rfl
 |some d=>grind[gt,Key.t]
def Qg0{i:Nat}{a:Act}{w:Lb}(h:wpOp P ops QF i K a w):wpOp P ops QF i (λa' w'=>Qll gh ops i a a'/\K a' w') a w:=by
 unfold wpOp at*
 split
 ·rename_i b;simp only[b]at h;exact⟨λ_ _=>rfl,h⟩
 ·rename_i o b;have c:∀v,Qll gh ops i a (a.put o.dst v):=λv k hk=>Z1x Ac;simp only[b]at h;split
  ·rename_i e;simp only[e,if_true]at h;rcases h with h|⟨_,_,_,h⟩
   ·refine .inl ?_;unfold Lo at*
    generalize (execOp a.eval o).run P w=r at*
    cases r with
    |ok n w'=>
     cases n<;>simp only[Lh]at h⊢
     case value u=>simp_all
     case skip=>simp_all
     case defer d=>exact⟨λk hk=>(Z1x (a:={a with defers:=d::a.defers}) (d:=o.dst) Ac).trans rfl,h⟩
     all_goals simp_all
    |halt x w'=>cases x<;>simp only[Lh]at h⊢ <;>exact h.elim
   ·exact h.elim
  simp_all
def Ql0(ops:Array La):Nat->Nat->Nat->Bool
 |0,_,_=>K3
 |f+1,j,i=>match ops[j]? with
  |some o=>o.after.any λe=>Lp .any e&&(Le e.on i||Ql0 ops f e.on i)
  |none=>K3
def Z8z(ops:Array La)(j:Nat):Bool:=(Mc ops.size).all λi=>Le i j||Ql0 ops ops.size j i
def Zyj(ops:Array La)(listed:Array Bool):Prop:= ∀(m:Nat)(o:La),ops[m]? =K1 o->listed.getD m K3=K2-> ∀e∈o.after,Lp .any e=K2->listed.getD e.on K3=K2
def Qcd{i:Nat}(h:listed.getD k K3=K2):(listed.setIfInBounds i K2).getD k K3=true:=by
 by_cases hk:i=k
 ·subst hk;have:i<listed.size:=by
   grind
  simp_all
 simp_all
def Znq(h:Zyj ops listed){i:Nat}(hi:i∈Ln .any ops listed):Zyj ops (listed.setIfInBounds i K2):=by
 intro m o d b e f g;refine Qcd ?_;obtain⟨_,k,j,c⟩:=mem_ready.1 hi;by_cases a:i=m
 ·simp_all
 ·rw[getD_set_ne K3 a]at b;exact h m o d b e f g
theorem Zvw{listed:Array Bool}(h:Zyj ops listed){i:Nat}:∀{f j:Nat},Ql0 ops f j i=K2->(∀o,ops[j]? =K1 o-> ∀e∈o.after,Lp .any e=K2->listed.getD e.on K3=K2)->listed.getD i K3=K2
 |0,_,a,_=>by cases a
 |f+1,j,a,b=>by
  simp only[Ql0]at a;split at a
  ·rename_i o k;rw[Array.any_eq_true']at a;obtain⟨e,l,a⟩:=a;simp only[pC,L0]at a;have m:=b o k e l a.1;rcases a.2 with hd2|hd2
   ·grind[pD]
   ·exact Zvw h hd2 λn c p d g=>h e.on n c m p d g
  ·cases a
def Zhc(gh:Nat->Lc)(P:Ll)(ops:Array La)(Qn:Act->Lb->Prop)(pr:Nat->Bool)(bx:Nat->List Nat)(Sh:Nat->Prop):Nat->Array Bool->Act->Lb->Prop|0,listed,a,w=>Ln .any ops listed=[]/\Qn a w|fuel+1,listed,a,w=>(Ln .any ops listed=[]->Qn a w)/\ ∀i∈Ln .any ops listed,wpOp P ops QF i (λa' w'=>(Z8z ops i=K2\/Zs1 gh pr bx Sh i a w w')/\Zhc gh P ops Qn pr bx Sh fuel (listed.setIfInBounds i K2) a' w') a w
def Zwl{Qn:Act->Lb->Prop}{pr:Nat->Bool}{bx:Nat->List Nat}{Sh Sh':Nat->Prop}(hs:∀b,Sh b->Sh' b):∀(fuel:Nat)(listed:Array Bool)(a:Act)(w:Lb),Zhc gh P ops Qn pr bx Sh' fuel listed a w->Zhc gh P ops Qn pr bx Sh fuel listed a w
 |0,_,_,_,h=>h
 |fuel+1,_,_,_,h=>⟨h.1,λi d=>wpOp_mono (λe f ⟨c,g⟩=>⟨c.imp id λc=>⟨c.pres,λb j=>c.hold b (j.imp (hs b) id)⟩,Zwl hs fuel _ e f g⟩) (h.2 i d)⟩
def Z2i{Qn:Act->Lb->Prop}{pr:Nat->Bool}{bx:Nat->List Nat}{Sh:Nat->Prop}{Q:Exit->Act->Lb->Prop}(hq:∀a w,Qn a w->Q .normal a w):∀(fuel:Nat)(listed:Array Bool)(a:Act)(w:Lb),Zhc gh P ops Qn pr bx Sh fuel listed a w->wpAny P .any ops Q fuel listed a w
 |0,_,_,_,h=>⟨h.1,hq _ _ h.2⟩
 |fuel+1,listed,a,w,h=>⟨λc=>hq _ _ (h.1 c),λi d=>by
  have e:=h.2 i d;have b:wpOp P ops QF i (wpAny P .any ops Q fuel (listed.setIfInBounds i K2)) a w:=wpOp_mono (λf g h=>Z2i hq fuel _ f g h.2) e;unfold wpOp at b⊢;split
  ·simp_all
  ·rename_i o j;simp only[j]at b;split
   ·rename_i k;simp only[k,if_true]at b;rcases b with b|⟨_,_,_,b⟩
    ·simp_all[Qwg]
    ·exact b.elim
   simp_all⟩
def Zs0{I:Lb->Prop}{J:Act->Prop}{pr:Nat->Bool}{bx:Nat->List Nat}{Sh:Nat->Prop}{i:Nat}{oi:La}{v:Lc}{Qn:Act->Lb->Prop}(hi:ops[i]? =K1 oi)(hsel:∀(j:Nat)(o:La) cs b,ops[j]? =K1 o->o.op≠ .select cs b)
  (hdi:∀j,∀r∈bx j,oi.dst≠K1 r):
  ∀(fuel:Nat)(listed:Array Bool)(a:Act)(w:Lb),Zyj ops listed->I w->J a->
   (∀j oj,ops[j]? =K1 oj->j≠i->listed.getD j K2=K3->(∀e∈oj.after,Lp .any e=K2->e.on≠i)->oi.apart ops oj=K2/\ ∀a a' w w',J a->I w->Zs1 gh pr bx Sh j a w w'->Qll gh ops j a a'->I w'/\J a')->
   i∈Ln .any ops listed->uz P ops I oi v a->
   Zhc gh P ops Qn pr bx Sh fuel (listed.setIfInBounds i K2) (a.put oi.dst v) w->Zhc gh P ops Qn pr bx Sh (fuel+1) listed a w
 |0,_,_,w,_,z,q,c,M,A,H=>by
  refine⟨λh=>Ac,λj s=>?_⟩;by_cases d:j=i
  ·subst d;exact A.go hi z ⟨.inr ⟨λ_=>Old.refl w,λ_ _=>rfl⟩,H⟩
  ·have:=ready_mono s d;rw[H.1]at this;cases this
 |fuel+1,listed,a,w,B,z,q,c,M,A,H=>by
  refine⟨λh=>Ac,λj s=>?_⟩;by_cases d:j=i
  ·subst d;exact A.go hi z ⟨.inr ⟨λ_=>Old.refl w,λ_ _=>rfl⟩,H⟩
  ·have C:=H.2 j (ready_mono s d);obtain⟨t,oj,m,N⟩:=mem_ready.1 s;have u:∀e∈oj.after,Lp .any e=K2->e.on≠i:=λe he O V=>by
    grind[mem_ready,Lt,Array.getElem?_eq_none]
   obtain⟨x,n⟩:=c j oj m d t u;obtain⟨Q,S,_⟩:=Me x;have U:=Z80 m x (λcs b=>hsel i oi cs b hi) (λcs b=>hsel j oj cs b m) A C;have f:∀k y,ops[k]? =K1 y->k≠i->(listed.setIfInBounds j K2).getD k K2=K3->(∀e∈y.after,Lp .any e=K2->e.on≠i)->
     oi.apart ops y=K2/\ ∀a a' w w',J a->I w->Zs1 gh pr bx Sh k a w w'->Qll gh ops k a a'->I w'/\J a':=λk y hk D W E=>by
    refine c k y hk D ?_ E;by_cases X:j=k
    ·simp_all
    simp_all
   refine wpOp_mono (λa' w' ⟨p,F,g,Y⟩=>?_) (Qg0 (gh:=gh) U);have g:=g.resolve_left λG=>by
    unfold Z8z at G;rw[Ls]at G;have Z:=G i (Ma.2 (Array.getElem?_eq_some_iff.1 hi).1);simp only[L0]at Z
    grind[pD,Zvw,mem_ready,Lt,Array.getD_eq_getD_getElem?,Array.getElem?_eq_none]
   have l:Zs1 gh pr bx Sh j a w w':=⟨g.pres,λb O=>g.hold b (O.imp id λ⟨r,C,U⟩=>⟨r,C,by grind[Z1x]⟩)⟩
   obtain⟨K,L⟩:=n a a' w w' q z l p;refine⟨.inr l,Zs0 hi hsel hdi fuel (listed.setIfInBounds j K2) a' w' (Znq B s) K L f (ready_mono M (Ne.symm d)) F ?_⟩
   grind[Array.setIfInBounds_comm]
theorem Old.trans{a b c:Lb}(h:Old a b)(k:Old b c):Old a c:=λi d=>by
 have e:i<b.heap.size:=by
  have:=h i d
  grind
 rw[k i e,h i d]
def Qit(C:Cfg)(ops:Array La)(listed:Array Bool)(any:Nat->Bool)(i:Nat):Bool:=
 (Mc ops.size).all λj=>Le j i||listed.getD j K2||(match ops[i]?,ops[j]? with
  |some oi,K1 oj=>(oj.after.any λe=>Lp .any e&&Le e.on i)||(oi.apart ops oj&&(any j||Z1c C oj.op))
  |_,_=>K3)
def Qa3{C:Cfg}{any:Nat->Bool}{i:Nat}(h:Qit C ops listed any i=K2)(hi:ops[i]? =K1 oi)(hj:ops[j]? =K1 oj)(hne:j≠i)(hl:listed.getD j K2=K3)
  (hno:∀e∈oj.after,Lp .any e=K2->e.on≠i):oi.apart ops oj=K2/\(any j=K2\/Z1c C oj.op=K2):=by
 unfold Qit at h;rw[Ls]at h;have:=h j (Ma.2 (Array.getElem?_eq_some_iff.1 hj).1);simp only[hi,hj,hl,Bool.or_false,L0,pC]at this;rcases this with h1|h1|h1
 ·simp_all
 ·rw[Array.any_eq_true']at h1;obtain⟨e,b,a⟩:=h1;simp only[pC]at a
  grind[absurd,pD]
 omega
def Qse(ops:Array La)(i:Nat):Bool:=
 match ops[i]? with
 |some o=>match o.op with
  |.move _|.assign _|.pick .. |.load .. |.binOp .. |.unOp .. |.convert .. |.nilCheck .. |.fieldAddr .. |.indexAddr .. |.index .. =>K2
  |.call {callee:=.builtin .len,..}|.call {callee:=.builtin .min,..}|.call {callee:=.builtin .max,..}=>K2
  |_=>K3
 |none=>K3
def Qe3(s:St)(o:La):Bool:=(match o.guard with|none=>K2|some _=>K3)&&(match o.op with
 |.move (.tmp q)=>match s.get (.m q)with
  |.tup=>K2
  |_=>K3
 |.extract _ _=>K2
 |_=>K3)
def Qwb(s:St)(ops:Array La)(i:Nat):Bool:=match ops[i]? with|some o=>Qe3 s o|none=>K3
def Qu2(s:St)(ops:Array La)(i:Nat):Bool:=
 match ops[i]? with
 |some o=>match o.op with
  |.move (.tmp q)=>match s.get (.m q)with
   |.tup=>K3
   |_=>K2
  |_=>K2
 |none=>K3
def Qot(τ:Tab)(bx:List Nat)(s:St)(o:La):Bool:=match Qjl τ o.op with
 |false=>K2
 |true=>match Zcc s o.op with
  |some (K1 r)=>bx.any (Le r)
  |some K4=>K2
  |none=>K3
def Zto(s:St)(r:Nat):Bool:=match s.get (.m r)with|.box _ _ _ _=>K2|_=>K3
theorem Zjl{s:St}{r:Nat}(h:Zto s r=K2):s.isBox r:=by
 unfold Zto at h;split at h
 ·rename_i e T f x a;exact⟨e,T,f,x,a⟩
 ·cases h
def Qqn(τ:Tab)(s:St)(bx:List Nat)(o:La):Bool:=bx.all λr=>Zto s r&&(match Zxl τ s o with|some q=> !(Le q r)|none=>K2)
def Znl(ops:Array La):Nat->Nat->Nat
 |0,k=>k
 |f+1,k=>match ops.toList.find? (λo=>match o.dst with|some d=>Le d k|none=>K3)with
  |some o=>match o.op with
   |.fieldAddr _ (.tmp j) _=>Znl ops f j
   |.indexAddr _ (.tmp j) _=>Znl ops f j
   |.move (.tmp j)=>Znl ops f j
   |.nilCheck (.tmp j)=>Znl ops f j
   |.call {callee:=.value _,args:=xs,..}=>match xs.toList with|.tmp j::_=>Znl ops f j|_=>k
   |_=>k
  |none=>k
def Qhj(s:St)(ops:Array La):List Nat:=
 let bs:=s.env.filterMap λp=>match p.1,p.2 with
  |.m r,.box _ _ _ _=>ite (Zto s r) (K1 r) K4
  |_,_=>K4
 bs.filter λr=>ops.toList.all λo=>match o.dst with|some d=> !(Le d r)|none=>K2
def Qp4(s:St)(ops:Array La)(k:Nat):Nat:=match s.get (.m (Znl ops ops.size k))with|.ptr r _=>r|.aep r _ _=>r|_=>Znl ops ops.size k
def Qsy(s:St)(ops:Array La)(o:La):List Nat:=match o.op with
 |.store _ (.tmp k) _=>[Qp4 s ops k]
 |.call {callee:=.value _,args:=xs,..}=>xs.toList.filterMap λx=>match x with|.tmp k=>K1 (Qp4 s ops k)|_=>K4
 |_=>[]
def Qqo(s:St)(ops:Array La)(j:Nat):List Nat:=
 match ops[j]? with
 |some o=>(Qhj s ops).filter λr=> !((Qsy s ops o).any (Le r))
 |none=>[]
def Qhk{s:St}{ops:Array La}{i r:Nat}{o:La}(hr:r∈Qqo s ops i)(ho:ops[j]? =K1 o):o.dst≠K1 r:=by
 unfold Qqo at hr;have hr:r∈Qhj s ops:=by
  grind
 unfold Qhj at hr;have:=(List.mem_filter.1 hr).2;rw[Ls]at this;have:=this o Ag;intro e;simp_all
def qu{ρ:Type}(m1 m2:Option ρ):Option ρ:=by
 classical exact ite (m1=m2) m1 K4
def Qam{m1 m2:Option ρ}{r:ρ}(h:qu m1 m2=K1 r):m1=K1 r/\m2=K1 r:=by
 grind[qu]
def Ke(m:Option ρ):qu m m=m:=by
 unfold qu;rw[if_pos rfl]
def Qln{ρ:Type}:List (Option ρ)->Option ρ|[]=>K4|[m]=>m|m::n::r=>qu m (Qln (n::r))
theorem Z3e{ρ:Type}:∀{l:List (Option ρ)}{r:ρ},Qln l=K1 r-> ∀m∈l,m=K1 r
 |[],r,h,m,hm=>by cases hm
 |[m],r,h,a,hm=>by simp only[Mb]at hm;subst hm;exact h
 |m::n::q,r,h,a,hm=>by
  simp only[Qln]at h;obtain⟨b,c⟩:=Qam h;rcases L6.1 hm with rfl|hm
  ·exact b
  ·exact Z3e c a hm
def Qcz(C:Cfg)(s:St)(o:La):Option (FuncId×Array Lf):=
 match C.soft,o.guard,o.op with
 |false,K4,.call {callee:=.value fo,args:=xs,..}=>match Z5x s [] fo with
  |some f=>match C.ΓB.find f with
   |some _=>K1 (f,xs)
   |none=>K4
  |none=>K4
 |_,_,_=>K4
def Qr2:Tm->Bool|.val .. |.ptr .. |.shp .. =>K2|_=>K3
def Zve(g:Nat)(b:Bool):List Lf->St->St
 |[],s=>s
 |.tmp k::xs,s=>match s.get (.m k)with
  |.gd g' b' t=>match Le g' g,b'==b,s.pN g,Qr2 t with
   |true,K2,K3,K2=>Zve g b xs (KJ s k t)
   |_,_,_,_=>Zve g b xs s
  |_=>Zve g b xs s
 |_::xs,s=>Zve g b xs s
def Qw7:RS->Option Ty|.vals [t]=>K1 t|.shr [t]=>K1 t|.flg [t]=>K1 t.1|_=>K4
def gdB(C:Cfg)(s:St)(ops:Array La)(o:La):Option (Nat×Bool×Nat×FuncId×Array Lf):=
 match C.soft,o.guard,o.dst,o.op with
 |false,K1 (j,b),K1 d,.call {callee:=.value fo,args:=xs,..}=>match(ops[j]?).bind (·.dst),Z5x s [] fo with
  |some g,K1 f=>match C.ΓB.find f with
   |some _=>K1 (g,b,d,f,xs)
   |none=>K4
  |_,_=>K4
 |_,_,_,_=>K4
def Qmk{ρ:Type}(C:Cfg)(n:Nat)(o:La)(s:St)(g:Nat)(b:Bool)(d:Nat)(f:FuncId)(xs:Array Lf)(k:St->Option ρ):Option ρ:=
 match cT s (op1 s [] (.tmp g)) .bool,s.pN g,((C.ΓB.find f).bind λe=>Qw7 e.res),aX s d&&Lg d n with
 |some c,K3,K1 T,K2=>match b with
  |true=>cond c (Zy0 C.ΓB n (Zve g b xs.toList s) o.dst f xs.toList k) (k (Wc s d (.gd g b (.val T (.u K2) (zero T)))))
  |false=>cond c (k (Wc s d (.gd g b (.val T (.u K2) (zero T))))) (Zy0 C.ΓB n (Zve g b xs.toList s) o.dst f xs.toList k)
 |_,_,_,_=>K4
def Z93{ρ:Type}(C:Cfg)(n:Nat)(ops:Array La)(bx:List Nat)(o:La)(s:St)(k:St->Option ρ):Option ρ:=
 match gdB C s ops o with
 |some (g,b,d,f,xs)=>match bx.all λr=>Zto s r&& !((Zu9 C.ΓB (Zve g b xs.toList s) f xs.toList).any (Le r))with
  |true=>Qmk C n o s g b d f xs k
  |false=>K4
 |none=>match Qcz C s o with
 |some (f,xs)=>match bx.all λr=>Zto s r&& !((Zu9 C.ΓB s f xs.toList).any (Le r))with
  |true=>Zy0 C.ΓB n s o.dst f xs.toList k
  |false=>K4
 |none=>match Qqn C.τ s bx o with
  |true=>Z14 C n ops o s k
  |false=>K4
def Qdw(C:Cfg)(s:St)(o:La):Option (nR×List Tm):=
 match o.guard,o.op with
 |none,.call {callee:=.value fo,args:=xs,argTypes:=ats}=>match op1 s [] fo with
  |.tm _ (.cl f l)=>match C.inl.find f,Zyv C.τ s xs.toList ats.toList with
   |some E,K1 ts=>K1 (E,ts++l.map λq=>.ptr q [])
   |_,_=>K4
  |_=>match Z5x s [] fo with
   |some f=>match C.inl.find f,Zyv C.τ s xs.toList ats.toList with
    |some E,K1 ts=>K1 (E,ts)
    |_,_=>K4
   |none=>K4
 |_,_=>K4
def Zeb{ρ:Type}(C:Cfg)(n:Nat)(ops:Array La)(bx:Nat->List Nat):Nat->Array Bool->St->(St->Option ρ)->Option ρ
 |0,listed,s,k=>match Ln .any ops listed with
  |[]=>k (Zvt s)
  |_::_=>K4
 |f+1,listed,s,k=>match Ln .any ops listed with
  |[]=>k (Zvt s)
  |[i]=>match ops[i]? with
   |some o=>match Qdw C s o,Ln .any ops (listed.setIfInBounds i K2),Z8z ops i with
    |some (E,ts),[],K2=>Qmq C.τ n s o.dst E ts λs'=>k (Zvt s')
    |_,_,_=>Z93 C n ops (bx i) o s λs'=>Zeb C n ops bx f (listed.setIfInBounds i K2) s' k
   |none=>K4
  |i::j::rs=>match(i::j::rs).find? (λi=>((Qse ops i&&Qu2 s ops i)||Qwb s ops i)&&(match ops[i]? with|some o=>Qit C ops listed (λj=>Qot C.τ (bx j) s o) i|none=>K3))with
   |some i=>match ops[i]? with
    |some o=>match Qe3 s o with
     |true=>Z14 C n ops o s λs'=>Zeb C n ops bx f (listed.setIfInBounds i K2) s' k
     |false=>Qcg C n ops o s λs'=>Zeb C n ops bx f (listed.setIfInBounds i K2) s' k
    |none=>K4
   |none=>Qln ((i::j::rs).map λi=>match ops[i]? with
    |some o=>Z93 C n ops (bx i) o s λs'=>Zeb C n ops bx f (listed.setIfInBounds i K2) s' k
    |none=>K4)
def Zv0(hC:C.ok P g)(h:R n W0 w X F H s a){E:nR}{ts:List Tm}(hi:Qdw C s o=K1 (E,ts)):
  o.guard=K4/\Y6 P g E/\ ∃vs:List Lc,ts.length=vs.length/\(∀(i:Nat) t,ts[i]? =K1 t-> ∃v,vs[i]? =K1 v/\vt W0.gh w X W0.B s F a v [] t)/\(execOp a.eval o).run P w=.ok (.enter E.f vs.toArray) w:=by
 unfold Qdw at hi;split at hi
 ·rename_i M e z r N;split at hi
  ·rename_i k f l hx;split at hi
   ·rename_i j d m c;simp only[pB,pF]at hi;obtain⟨rfl,rfl⟩:=hi;obtain⟨rfl,b⟩:=Zlp.find_ok hC.inl m;obtain⟨_,_,x,O,A,D⟩:=V0 h di hx Ae;obtain⟨p,y⟩:=Zis h c;refine⟨r,b,e.toList.map a.eval++x,by simp[p,A],λi t hi=>?_,?_⟩
    ·rcases Lt i d.length with G|hge
     ·grind
     ·rw[List.getElem?_append_right hge]at hi;simp only[List.getElem?_map,Option.map_eq_some_iff]at hi;obtain⟨q,I,rfl⟩:=hi;obtain⟨u,Q,J⟩:=D _ q I;exact⟨u,Ag,rfl,J⟩
    ·have:execOp a.eval o=callFunc j.f (e.map a.eval++x.toArray):=by
      simp_all[execOp,resolve,L4,invoke]
     rw[this,b.enters];simp_all
   ·cases hi
  ·split at hi
   ·rename_i f K;split at hi
    ·rename_i j d m c;simp only[pB,pF]at hi;obtain⟨rfl,rfl⟩:=hi;obtain⟨rfl,b⟩:=Zlp.find_ok hC.inl m;have L:=zD h di K;obtain⟨p,y⟩:=Zis h c;refine⟨r,b,e.toList.map a.eval,by simp[p],y,?_⟩;have:execOp a.eval o=callFunc j.f (e.map a.eval):=by
      simp_all[execOp,resolve,L4,invoke]
     rw[this,b.enters];congr 2
     grind
    ·cases hi
   ·cases hi
 ·cases hi
theorem Z28(hC:C.ok P g)(h:R n W0 w X F [] s a){k:St->Option ρ}{r:ρ}(hs:Qcg C n ops o s k=K1 r):
  ∃v F' s',k s'=K1 r/\R n W0 w X F' [] s' (a.put o.dst v)/\uz P ops (Dep W0.gh C.τ X s a o w) o v a:=by
 unfold Qcg at hs;split at hs
 ·rename_i t;split at hs
  ·rename_i E d hv q;split at hs
   ·rename_i hdn;simp only[pC,Lm]at hdn;rw[Zjc]at hs;obtain⟨_,u⟩:=Znh h di hC hv;obtain⟨v,x,y⟩:=u hs.1;refine⟨v,Xm F (.m d) [],_,hs.2,?_,.inl ⟨by simp[Ld,t],x⟩⟩;rw[q];exact(by simpa using h:R n W0 w X F ([]++[]) s a).put hdn.1 hdn.2 y
   ·cases hs
  ·cases hs
 ·rename_i j b t;split at hs
  ·rename_i g d G q;split at hs
   ·rename_i H e hdn;have f:Lg g 1048576=true:=Ac
    simp only[pC,Lm]at hdn
    replace hdn:=hdn.1
    have i:=Z3k e;split at hs
    ·rename_i E hv;obtain⟨hk,z⟩:=Zsw h hs;by_cases l:Xj W0.gh a (.m g)=.bool b
     ·have B:=Zb9 h e l;have D:g<a.tmps.size:=by
       have c:a.tmps.getD g undef=.bool b:=(Jf W0 a f).symm.trans l;rcases Lt g a.tmps.size with h'|h'
       ·exact h'
       ·rw[Array.getD_eq_getD_getElem?,Array.getElem?_eq_none h']at c;cases c
      have p:Ld o (yielded ops a.tmps)=true:=by
       have c:a.tmps[g]? =K1 (.bool b):=by
        have c:a.tmps.getD g undef=.bool b:=(Jf W0 a f).symm.trans l;simp_all
       simp_all[Ld,yielded]
      obtain⟨_,u⟩:=Znh h B hC hv;obtain⟨v,x,y⟩:=u (z B);refine⟨v,Xm F (.m d) [],_,hk,?_,.inl ⟨p,x⟩⟩;rw[q];exact(by simpa using h:R n W0 w X F ([]++[]) s a).put hdn.1 hdn.2 λ_=>⟨i,λ_=>y,λA=>absurd l A⟩
     ·have p:Ld o (yielded ops a.tmps)=false:=by
       apply Bool.eq_false_iff.2;intro p;simp only[Ld,t,yielded,G,pA,beq_iff_eq]at p
       grind[pB,Xj,xQ]
      refine⟨undef,Xm F (.m d) [],_,hk,?_,.inr ⟨p,rfl⟩⟩;rw[q];exact(by simpa using h:R n W0 w X F ([]++[]) s a).put (S:=[]) hdn.1 hdn.2 λ_=>⟨i,λc=>absurd c l,λ_=>⟨rfl,rfl⟩⟩
    ·cases hs
   ·cases hs
  ·cases hs
def Qac(hC:C.ok P g)(h:R n W0 w X F [] s a)(ht:Qe3 s o=K2){k:St->Option ρ}{r:ρ}(hs:Z14 C n ops o s k=K1 r)(I:Lb->Prop):
  ∃v X' F' s',k s'=K1 r/\(∀b,X b->X' b)/\R n W0 w X' F' [] s' (a.put o.dst v)/\uz P ops I o v a:=by
 have c:=Zkw (Q:=QF) hC h hs (K:=λp e=> ∃X' F' s',k s'=K1 r/\(∀b,X b->X' b)/\R n W0 e X' F' [] s' p) λe p X' F' s' hk u y=>⟨X',F',s',hk,y.more,u⟩
 unfold Qe3 at ht;rw[pC]at ht;obtain⟨B,t⟩:=ht;have z:o.guard=none:=by
  grind
 have f:Ld o (yielded ops a.tmps)=true:=by simp[Ld,z]
 rw[if_pos f]at c;unfold Lo at c;split at t
 ·rename_i q d;simp only[execOp,d,Lv,Lh]at c;obtain⟨X',F',s',j,l,m⟩:=c;exact⟨_,X',F',s',j,l,m,.inl ⟨f,λe _=>by simp[execOp,d]⟩⟩
 ·rename_i x i d;cases hx:a.eval x with
  |tuple A=>
   cases hu:A[i]? with
   |none=>simp_all[execOp,Lx,Lh]
   |some v=>
    simp only[execOp,d,Lx,hx,hu,Lh]at c;obtain⟨X',F',s',j,l,m⟩:=c;exact⟨v,X',F',s',j,l,m,.inl ⟨f,λe _=>by simp_all[execOp,Lx]⟩⟩
  |_=>simp[execOp,d,Lx,hx,Lh]at c
 ·cases t
def Qfe{bx:List Nat}{o:La}(hb:Qqn C.τ s bx o=K2)(hS:∀b,Sh b->X b)(hf:Qlk W0.gh C o X X' s a a' w w'):Qqa W0.gh bx Sh a w w':=by
 intro b c;refine hf.kept b (c.imp (hS b) λ⟨r,f,g⟩=>?_);unfold Qqn at hb;rw[Ls]at hb;have d:=hb r f;simp only[pC]at d;refine⟨r,Zjl d.1,?_,g⟩;intro e;simp_all
def R.ungd1(h:R n W0 w X F H s a){g':Nat}{t:Tm}(hg:s.get (.m k)=.gd g' b t)(hf:s.pN g'=K3)(hb:Xj W0.gh a (.m g')=.bool b)(ht:Qr2 t=K2):R n W0 w X F H (KJ s k t) a:=by
 have hs:=h.slots (.m k);rw[hg]at hs;obtain⟨_,l,_⟩:=hs hf;have o:=l hb;have q:Xm F (.m k) (F (.m k))=F:=by
  grind
 have f:Zee W0.gh w w s (KJ s k t) F (Xm F (.m k) (F (.m k))) a k t:=xc ⟨by grind[Ja,Qr2],λp v U hv=>by
  simp_all[Yv]⟩
 have c:∀{u:Tm}{v:Lc}{S:List Nat},vt W0.gh w X W0.B s F a v S u->vt W0.gh w X W0.B (KJ s k t) F a v S u:=λ{u v S} r=>by
  have:=Zsy f (λ_ h=>h) (λ_ _=>rfl) (λ_ _ _ _=>rfl) (λ_ _=>rfl) (λe y z A b S hb=>Ac) r;simp_all
 exact
 {h with
  pM:=λd i g=>by
   rw[Ja]at g⊢;simp only[reduceCtorEq,if_false]at g;obtain⟨l,o⟩:=h.pM d i g
   grind
  slots:=λj=>by
   by_cases x:j=.m k
   ·simp_all[Ja,if_true]
   ·rw[Ja];simp only[Ne.symm x,if_false];exact c (h.slots j)}
def Zb0{g':Nat}{b:Bool}(hb:Xj W0.gh a (.m g')=.bool b):∀{xs:List Lf}{s:St},R n W0 w X F H s a->R n W0 w X F H (Zve g' b xs s) a
 |[],s,h=>h
 |x::xs,s,h=>by
  cases x with
  |tmp k=>
   simp only[Zve];split
   ·rename_i j e t f;split
    ·rename_i c d g i;have c:=pD c;subst c;have d:e=b:=by simpa using d
     subst d;exact Zb0 hb (h.ungd1 f g hb i)
    ·exact Zb0 hb h
   ·exact Zb0 hb h
  |_=>exact Zb0 (xs:=xs) hb h
def Zbz{g':Nat}{b:Bool}{r:Nat}:∀{xs:List Lf}{s:St},s.isBox r->(Zve g' b xs s).isBox r
 |[],s,h=>h
 |x::xs,s,h=>by
  cases x with
  |tmp k=>
   simp only[Zve];split
   ·rename_i a c t d;split
    ·refine Zbz ?_;obtain⟨e,T,f,y,g⟩:=h;refine⟨e,T,f,y,?_⟩;rw[Ja,if_neg]
     all_goals grind
    ·exact Zbz h
   ·exact Zbz h
  |_=>exact Zbz (xs:=xs) h
def Zzy(hC:C.ok P g){ops:Array La}(h:R n W0 w X F [] s a){gs:Nat}{f:FuncId}{xs:Array Lf}(hg:gdB C s ops o=K1 (gs,b,d,f,xs)){k:St->Option ρ}{r:ρ}(hs:Qmk C n o s gs b d f xs k=K1 r)
   (hK:∀v w' X' F' s',k s'=K1 r->R n W0 w' X' F' [] s' (a.put o.dst v)->(∀b,X b->X' b)->Qg2 W0.gh X s a (Zu9 C.ΓB (Zve gs b xs.toList s) f xs.toList) w w'->K (a.put o.dst v) w'):ite (Ld o (yielded ops a.tmps)) (o.wp P a w K Q) (K (a.put o.dst undef) w):=by
 unfold gdB at hg;split at hg
 ·rename_i j q L fo x M A N G O;split at hg
  ·rename_i i U hj V;split at hg
   ·simp only[pB,pF]at hg;obtain⟨rfl,rfl,rfl,rfl,rfl⟩:=hg;unfold Qmk at hs;split at hs
    ·rename_i c T y W hT hdn;simp only[pC,Lm]at hdn;have hv:Xj W0.gh a (.m i)=.bool c:=(Jf W0 a (Zft y)).trans (rH h di y);have B:s.get (.m i)≠ .pR:=by
      intro e;have Y:=Zft y;simp_all[op1,Zds,cT,ZS]
     have H:i<a.tmps.size:=by
      have l:a.tmps.getD i undef=.bool c:=rH h di y;rcases Lt i a.tmps.size with h'|h'
      ·exact h'
      ·rw[Array.getD_eq_getD_getElem?,Array.getElem?_eq_none h']at l;cases l
     have l:a.tmps[i]? =K1 (.bool c):=by
      have l:a.tmps.getD i undef=.bool c:=rH h di y;simp_all
     have I:Ld o (yielded ops a.tmps)=(c==q):=by
      simp_all[Ld,yielded]
     have Z:c=q->Zy0 C.ΓB n (Zve i q x.toList s) o.dst U x.toList k=K1 r->ite (Ld o (yielded ops a.tmps)) (o.wp P a w K Q) (K (a.put o.dst undef) w):=by
      intro e p;rw[I,if_pos (by simp[e])];exact Ziy (hC.soft.trans A) hC.ΓB (Zb0 (by rw[hv,e]) h) (zD h di V) O p λv w' X' F' s' hk hR D E=>hK v w' X' F' s' hk hR D λb J=>E b (J.imp id λ⟨r,h1,h2,h3⟩=>⟨r,Zbz h1,h2,h3⟩)
     have no:c≠q->k (Wc s L (.gd i q (.val T (.u K2) (zero T))))=K1 r->ite (Ld o (yielded ops a.tmps)) (o.wp P a w K Q) (K (a.put o.dst undef) w):=by
      intro e hk;rw[I,if_neg (by simp[e]),G];have z:=(by simpa using h:R n W0 w X F ([]++[]) s a).put (S:=[]) (t:=.gd i q (.val T (.u K2) (zero T))) (v:=undef) hdn.1 hdn.2 λ_=>⟨B,λJ=>Ac,λ_=>⟨rfl,rfl⟩⟩
      have:=hK undef w X _ _ hk (by rw[G];exact z) (λ_ h=>h) (λ_ _=>rfl);simp_all
     grind
    ·cases hs
   ·cases hg
  ·cases hg
 ·cases hg
def Z94(hC:C.ok P g)(h:R n W0 w X F [] s a){bx:List Nat}(hS:∀b,Sh b->X b){k:St->Option ρ}{r:ρ}(hs:Z93 C n ops bx o s k=K1 r)
  (hK:∀w' a' X' F' s',k s'=K1 r->R n W0 w' X' F' [] s' a'->(∀b,X b->X' b)->(Z1c C o.op=K2->Old w w')->Qqa W0.gh bx Sh a w w'->K a' w'):ite (Ld o (yielded ops a.tmps)) (o.wp P a w K Q) (K (a.put o.dst undef) w):=by
 unfold Z93 at hs;split at hs
 ·rename_i Y b d f O e;split at hs
  ·rename_i i;refine Zzy hC h e hs λv w' X' F' s' hk y q t=>hK w' _ X' F' s' hk y q (λx=>?_) λb u=>t b ?_
   ·exfalso;unfold gdB at e;split at e
    ·rename_i j Z d' B D E z N S A;split at e
     ·rename_i g' G hj p;split at e
      ·rename_i U c;simp only[Z1c,A,Qr0,pC]at x;have l:=x.2;have nil:(match C.ΓB with|[]=>K2|_::_=>K3)=K2->False:=λV=>by
        cases hg2:C.ΓB with
        |nil=>rw[hg2]at c;cases c
        |cons _ _=>simp_all
       cases B with
       |func H=>
        have I:K1 H=K1 G:=p;simp_all
       |const v=>exact nil l
       |tmp k=>exact nil l
       |global g=>exact nil l
      ·cases e
     ·cases e
    ·cases e
   ·refine u.imp (hS b) λ⟨r,J,W⟩=>?_;rw[Ls]at i;have L:=i r J;simp only[pC,Lw]at L
    grind[Zjl,Zq5]
  ·cases hs
 split at hs
 ·rename_i f O m;split at hs
  ·rename_i i;unfold Qcz at m;split at m
   ·rename_i B D E z N A;split at m
    ·rename_i G p;split at m
     ·rename_i U c;simp only[pB,pF]at m;obtain⟨rfl,rfl⟩:=m;rw[if_pos (by simp[Ld,N])];refine Ziy (hC.soft.trans z) hC.ΓB h (zD h di p) A hs λv w' X' F' s' hk y q t=>hK w' _ X' F' s' hk y q (λx=>?_) λb u=>t b ?_
      ·exfalso;simp only[Z1c,A,Qr0,pC]at x;have l:=x.2;have nil:(match C.ΓB with|[]=>K2|_::_=>K3)=K2->False:=λV=>by
        cases hg2:C.ΓB with
        |nil=>rw[hg2]at c;cases c
        |cons _ _=>simp_all
       cases B with
       |func H=>
        have I:K1 H=K1 G:=p;simp_all
       |const v=>exact nil l
       |tmp k=>exact nil l
       |global g=>exact nil l
      ·refine u.imp (hS b) λ⟨r,J,W⟩=>?_;rw[Ls]at i;have L:=i r J;simp only[pC,Lw]at L
       grind[Zjl,Zq5]
     ·cases m
    ·cases m
   ·cases m
  ·cases hs
 ·split at hs
  ·rename_i M;exact Zkw (Q:=Q) hC h hs λw' a' X' F' s' hk y p=>hK w' a' X' F' s' hk y p.more (λx=>p.pres (by simp_all[Z1c,pC])) (Qfe M hS p)
  ·cases hs
def Zg2{ρ:Type}(hC:C.ok P g)(hsel:∀(j:Nat)(o:La) cs b,ops[j]? =K1 o->o.op≠ .select cs b){bx:Nat->List Nat}(hbd:∀i,∀r∈bx i,∀(j:Nat) o,ops[j]? =K1 o->o.dst≠K1 r){k:St->Option ρ}{r:ρ}{Qn:Act->Lb->Prop}
  (hK:∀w' a' X' F' s',k s'=K1 r->R n W0 w' X' F' [] s' a'->Qn a' w'):
  ∀{f:Nat}{listed:Array Bool}{s:St}{w:Lb}{X:Nat->Prop}{Sh:Nat->Prop}{F:Key->List Nat}{a:Act},Zyj ops listed->R n W0 w X F [] s a->(∀b,Sh b->X b)->Zeb C n ops bx f listed s k=K1 r->Zhc W0.gh P ops Qn (Zpk C ops) bx Sh f listed a w
 |0,listed,s,w,X,Sh,F,a,_,h,V,d=>by
  simp only[Zeb]at d;split at d
  ·rename_i p;obtain⟨F',M⟩:=h.clean;exact⟨p,hK w a X F' _ d M⟩
  ·cases d
 |f+1,listed,s,w,X,Sh,F,a,D,h,V,d=>by
  have a0:∀e o,ops[e]? =K1 o->e∈Ln .any ops listed->(Z93 C n ops (bx e) o s λs'=>Zeb C n ops bx f (listed.setIfInBounds e K2) s' k)=K1 r->
    wpOp P ops QF e (λa' w'=>(Z8z ops e=K2\/Zs1 W0.gh (Zpk C ops) bx Sh e a w w')/\Zhc W0.gh P ops Qn (Zpk C ops) bx Sh f (listed.setIfInBounds e K2) a' w') a w:=by
   intro e o A N d;unfold wpOp;simp only[A];have:=Z94 (Q:=QF) hC h V d (K:=λa' w'=>(Z8z ops e=K2\/Zs1 W0.gh (Zpk C ops) bx Sh e a w w')/\Zhc W0.gh P ops Qn (Zpk C ops) bx Sh f (listed.setIfInBounds e K2) a' w')
    (λw' a' X' F' s' hk O G W H=>⟨.inr ⟨by simp_all[Zpk],H⟩,Zg2 hC hsel hbd hK (Znq D N) O (λb t=>G b (V b t)) hk⟩)
   grind
  simp only[Zeb]at d;split at d
  ·rename_i p;obtain⟨F',M⟩:=h.clean;exact⟨λ_=>hK w a X F' _ d M,λi B=>Ac⟩
  ·rename_i i p;refine⟨λhn=>Ac,λe B=>?_⟩;rw[p]at B;simp only[Mb]at B;subst B;split at d
   ·rename_i o A;split at d
    ·rename_i E ts B S Y;obtain⟨hg,hE,vs,Z,h2,h3⟩:=Zv0 hC h B;unfold wpOp;simp only[A];rw[if_pos (by simp[Ld,hg])];refine .inl (Zz6 hC.τ hE h Z h2 h3 d λv w' X' F' s' hk O=>⟨.inl Y,?_⟩);obtain⟨F2,M⟩:=O.clean;cases f with
     |zero=>exact⟨S,hK w' _ X' F2 _ hk M⟩
     |succ f=>exact⟨λ_=>hK w' _ X' F2 _ hk M,λi B=>Ac⟩
    grind
   ·cases d
  ·rename_i p;split at d
   ·rename_i i u;have x:=List.mem_of_find?_eq_some u;have c:=List.find?_some u;simp only[pC]at c;have c:=c.2;rw[<-p]at x;split at d
    ·rename_i o A;simp only[A]at c;obtain⟨v,X',F',s',hk,ab,O,hy⟩:∃v X' F' s',Zeb C n ops bx f (listed.setIfInBounds i K2) s' k=K1 r/\(∀b,X b->X' b)/\R n W0 w X' F' [] s' (a.put o.dst v)/\uz P ops (Dep W0.gh C.τ X s a o w) o v a:=by
      split at d
      ·rename_i ad;exact Qac hC h ad d _
      grind[Z28]
     refine Zwl V _ _ _ _ ?_;refine Zs0 (I:=Dep W0.gh C.τ X s a o w) (J:=λa'=> ∀j,∀q∈bx j,Xj W0.gh a' (.m q)=Xj W0.gh a (.m q)) A hsel (λj q y=>hbd j q y i o A) f listed a w D (Dep.refl _ _ _ _ _ _ _) (λ_ _ _=>rfl) (λj oj hj am l ar=>?_) x hy
      (Zg2 hC hsel hbd hK (Znq D x) O ab hk)
     obtain⟨Z,h2⟩:=Qa3 c A hj am l ar;refine⟨Z,λa1 a2 w1 w2 hJ z L hp=>⟨λhm=>?_,λj' q y=>?_⟩⟩
     ·have z:=z hm;rcases h2 with h2|h2
      ·unfold Qot at h2;rw[hm]at h2;simp only at h2;split at h2
       ·rename_i q y;simp only[y]at z⊢;have au:q∈bx j:=by
         simp_all
        exact λb l t=>(L.hold b (.inr ⟨q,au,Ag⟩)).trans (z b l t)
       ·rename_i y;simp only[y]at z⊢;exact λb l t=>(L.hold b (.inl t)).trans (z b l t)
       ·cases h2
      ·have hold:=L.pres (by simp_all[Zpk]);have U:∀b,b<w.heap.size->w1.heap[b]? =w.heap[b]?->b<w1.heap.size:=λb l he=>by
        grind
       split at z
       ·rename_i q y
        try simp only[y]
        exact λb l t=>(hold b (U b l (z b l t))).trans (z b l t)
       ·rename_i y
        try simp only[y]
        exact λb l t=>(hold b (U b l (z b l t))).trans (z b l t)
       grind[Old.trans]
     ·rw[hp q Ag];exact hJ j' q y
    ·cases d
   ·refine⟨λhn=>Ac,λe B=>?_⟩
    grind[Z3e,List.mem_map_of_mem]
end
end Go.Am

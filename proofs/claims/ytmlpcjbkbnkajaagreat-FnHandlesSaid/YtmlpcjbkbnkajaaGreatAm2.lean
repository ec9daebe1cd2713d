/- The abstract machine, part 2: what a piece of Go code does, as plain data, and that it does so. No condition. -/
import Derived.Test.YtmlpcjbkbnkajaaGreatAm1
import Derived.Great.BuildSlice
namespace Go.Am
open Go.RowKit
theorem Addr.add_add'(a:Addr)(m j:Nat): (a.add m).add j=a.add (m+j):=by
 unfold Addr.add;by_cases hm:m=0<;>by_cases hj:j=0<;>simp[hm,hj]
 omega
theorem Zgl(w:World){b:Nat}{c:Array Value}{e:TypeId}{fr:Nat×Nat}(h:w.heap[b]? =some (.cells c e fr))(o j:Nat):w.cell? ((⟨b,o,none⟩:Addr).add j)=c[o+j]? :=by
 have: (⟨b,o,none⟩:Addr).add j=⟨b,o+j,none⟩:=by unfold Addr.add;split<;>simp_all
 rw[this];simp[World.cell?,h]
section
variable {P:Program} {g:Kr} {W0:Wz g} {w w':World} {X X':Nat->Prop} {B n:Nat} {own:Bool} {s:St} {F:Key->List Nat} {a:Act} {H:List Nat} {o:Oper} {tg:Xi} {τ:Tab} {gh:Nat->Value}
theorem Qf9: ∀{p:List Nat} {T:Ty} {x:T.den} {y:TV} {i:Nat},Zc9 T x p=some y->Zc9 T x (p++ [i])=fld y.1 y.2 i/\(∀U,Zwt y.1 i=some U->J3 T (p++ [i])=J3 T p+Zd8 y.1 i)
 | [],T,x,y,i,h=>by
  simp only[Zc9,Osi]at h;subst h;refine⟨?_,fun U hU=>by simp[J3,hU]⟩;simp only[List.nil_append,Zc9];cases fld T x i<;>rfl
 |j::p,T,x,y,i,h=>by
  simp only[Zc9]at h;cases hz:fld T x j with
  |none=>rw[hz]at h;cases h
  |some z=>
   rw[hz]at h;obtain⟨h1,h2⟩:=Qf9 (i:=i) h;simp only[List.cons_append,Zc9,hz,J3,Z4h hz];exact⟨h1,fun U hU=>by rw[h2 U hU];omega⟩
theorem Q3f: ∀{T:Ty} {x:T.den} {i:Nat} {U:Ty},Zwt T i=some U-> ∃y,fld T x i=some ⟨U,y⟩:=by
 intro T
 induction T with
 |pair a b iha ihb=>
  intro x i U h;cases i with
  |zero=>simp only[Zwt,Osi]at h;subst h;exact⟨x.1,rfl⟩
  |succ i=>exact ihb (x:=x.2) h
 |_=>intro x i U h;cases i<;>cases h
theorem TOK.fieldAt{e:TypeId}{T U:Ty}(h:TOK P e T){i:Nat}(hU:Zwt T i=some U)(ad:Addr)(w:World): (Instr.fieldAt e (.pointer (some ad)) i).run P w= .ok (.pointer (some (ad.add (Zd8 T i)))) w:=by
 have hs:T.isStruct=true:=by cases T<;>first|rfl| (cases i<;>cases hU)
 obtain⟨fs,h1,h2⟩:=h.struct hs;obtain⟨f,k1,k2,k3,k4⟩:=Qu8 h2 hU;obtain⟨j,hj,hjs,_⟩:=Zln k3;have hne: ¬j.size=0:=by omega
 have k1':fs[i]? =some f:=by simpa using k1
 simp[Instr.fieldAt,run_underlying h1,k1',Instr.sureAddr,fieldPlace,Go.sizeOf,typeInfo,hj,hne,k2]
def Qb7(τ:Tab)(s:St)(tg:Xi)(e:TypeId)(x:Operand)(i:Nat):Option Res:=
 match τ e,op1 s tg x with
 |some T,.tm k (.box _ U _ _)=>match s.get (.m k),decide (T=U),Zwt T i with
  | .box _ _ _ _,true,some _=>some ⟨.ptr k [i],s,false,none⟩
  |_,_,_=>none
 |some T,.tm _ (.ptr r p)=>match s.get (.m r)with
  | .box _ U _ y=>match Zc9 U y p with
   |some z=>match decide (T=z.1),Zwt T i with
    |true,some _=>some ⟨.ptr r (p++ [i]),s,false,none⟩
    |_,_=>none
   |none=>none
  |_=>none
 |some T,.tm _ (.shp U y)=>match decide (T=U),fld U y i with
  |true,some z=>some ⟨.shp z.1 z.2,s,false,none⟩
  |_,_=>none
 |some T,.tm k (.elp r p j q)=>match Zrt s (.tm k (.bor r p))with
  |some ⟨.slice _ t,_,_⟩=>match Zc9 t (zero t) q with
   |some z=>match decide (T=z.1),Zwt T i with
    |true,some _=>some ⟨.elp r p j (q++ [i]),s,false,none⟩
    |_,_=>none
   |none=>none
  |_=>none
 |_,_=>none
theorem Z15(h:R n W0 w X F H s a)(ht:tg.ok W0.gh a)(hτ:τ.ok P){e:TypeId}{x:Operand}{i:Nat}(ho:o.op= .fieldAddr e x i){r:Res}(hr:Qb7 τ s tg e x i=some r):Zaw P τ W0 w X F s a o r:=by
 unfold Qb7 at hr;have run: ∀{ad:Addr} {T U:Ty},τ e=some T->Zwt T i=some U->a.eval x= .pointer (some ad)-> ∀w',Dep W0.gh τ X s a o w w'->(execOp a.eval o).run P w'= .ok (.value (.pointer (some (ad.add (Zd8 T i))))) w':=by
  intro ad T U hT hU hx w' _;simp only[execOp,ho,hx,Sem.run_bind,(hτ _ _ hT).fieldAt hU ad w',Result.andThen_ok,Sem.run_pure]
 split at hr
 ·rename_i T k e' U f y hT hx;split at hr
  ·rename_i _ _ _ e2 U2 f2 y2 V hg hd hV;simp only[Osi]at hr;subst hr;have hTU:T=U:=Ode hd;subst hTU;obtain⟨rfl,b,c,S,h1,h2,h3,h4⟩:=Ke h ht hx (by simp);have hx:=(Zli hx).2.2;simp only[hg,Zv1]at hx;cases hx;refine Yi rfl fun _=>⟨_,run hT hV h1,rfl,_,_,_,_,b,S,hg,h2,?_⟩
   simp only[J3,hV,Nat.add_zero];unfold Addr.add;split<;>simp_all
  ·cases hr
 ·rename_i T k r' p hT hx;split at hr
  ·rename_i e2 U f y hg;split at hr
   ·rename_i z hz;split at hr
    ·rename_i V hd hV;simp only[Osi]at hr;subst hr;have hTU:T=z.1:=Ode hd;obtain⟨rfl,h0,e3,U3,f3,y3,b,S,h1,h2,h3⟩:=Ke h ht hx (by simp);rw[hg]at h1;cases h1;refine Yi rfl fun _=>⟨_,run hT hV h3,rfl,_,_,_,_,b,S,hg,h2,?_⟩
     rw[(Qf9 hz).2 V (by rw[<-hTU];exact hV),hTU];unfold Addr.add;split<;>simp_all
    ·cases hr
   ·cases hr
  ·cases hr
 ·rename_i T k U y hT hx;split at hr
  ·rename_i z hd hz;simp only[Osi]at hr;subst hr;have hTU:T=U:=Ode hd;subst hTU;obtain⟨rfl,h0,ad,vs,h1,h2,h3,h4⟩:=Ke h ht hx (by simp);have h4':rdF w X W0.B T (.u false) y vs []:=by unfold rdF;exact h4
   obtain⟨pre,mid,post,S1,S2,S3,m1,m2,m3,m4,_⟩:=Qlo hz h4';refine Yi rfl fun _=>⟨_,run hT (Z4h hz) h1,rfl,_,mid,rfl,?_,?_,?_⟩
   ·have: (ad.add (Zd8 T i)).block=ad.block:=by unfold Addr.add;split<;>rfl
    rw[this];exact h2
   ·intro j u hj;rw[Addr.add_add',<-m3];apply h3;rw[m1,List.getElem?_append_right (by omega),show pre.length+j-pre.length=j from by omega,List.getElem?_append_left (List.getElem?_eq_some_iff.1 hj).1];exact hj
   ·have:Zs9 (.u false) i= .u false:=by cases i<;>rfl
    rw[this]at m4;unfold rdF at m4;have e:=Zfg m4;rw[e]at m4;exact m4
  ·cases hr
 ·rename_i T k r' p j q hT hx;split at hr
  ·rename_i e2 t f l hl;split at hr
   ·rename_i z hz;split at hr
    ·rename_i V hd hV;simp only[Osi]at hr;subst hr;have hTU:T=z.1:=Ode hd;obtain⟨rfl,h0,h1⟩:=Ke h ht hx (by simp);have hfoul:s.bad r' p=false:=by
      simp only[Zrt]at hl;split at hl
      ·cases hl
      ·assumption
     obtain⟨e3,t3,ad,nn,cap,k1,k2,k3,k4⟩:=h1 hfoul;obtain⟨_,hTT,_⟩:=Z9u h hl k1;cases hTT;refine Yi rfl fun _=>⟨_,run hT hV k4,rfl,fun _=>⟨_,_,ad,nn,cap,k1,k2,k3,?_⟩⟩
     rw[Addr.add_add',(Qf9 hz).2 V (by rw[<-hTU];exact hV),hTU,Nat.add_assoc]
    ·cases hr
   ·cases hr
  ·cases hr
 ·cases hr
end
end Go.Am
namespace Go.Am
open Go.RowKit
section
variable {P:Program} {g:Kr} {W0:Wz g} {w w':World} {X X':Nat->Prop} {B n:Nat} {own:Bool} {s:St} {F:Key->List Nat} {a:Act} {H:List Nat} {o:Oper} {tg:Xi} {τ:Tab} {gh:Nat->Value}
theorem Zlm{α:Type}{r:α->List Value->List Nat->Prop}: ∀{l l':List α} {vs vs':List Value} {S S':List Nat},Ww r l vs S->Ww r l' vs' S'->Ww r (l++l') (vs++vs') (S++S')
 | [],_,_,_,_,_,⟨e1,e2⟩,h=>by subst e1;subst e2;simpa using h
 |x::l,_,_,_,_,_,⟨v1,v2,S1,S2,e1,e2,h1,h2⟩,h=>⟨v1,v2++_,S1,S2++_,by simp[e1],by simp[e2],h1,Zlm h2 h⟩
def Z2h(s:St)(tg:Xi)(n:Nat)(t:Ty)(x i:Operand):Option Res:=
 let at' (r:Nat) (p:List Nat):Option Res:=match s.get (.m r),Zpw s (op1 s tg i)with
  | .box _ U _ y,some (_,j)=>match Zc9 U y p with
   |some ⟨.arr n' t',_⟩=>match decide (n'=n/\t'=t)with
    |true=>some ⟨.aep r p j,s,false,some (0<=j/\j<n)⟩
    |false=>none
   |_=>none
  |_,_=>none
 match op1 s tg x with
 | .tm k (.box _ _ _ _)=>at' k []
 | .tm _ (.ptr r p)=>at' r p
 |_=>none
def Z2g(τ:Tab)(s:St)(tg:Xi)(e:TypeId)(x i:Operand):Option Res:=
 match τ e,Z26 s (op1 s tg x),Zpw s (op1 s tg i)with
 |some (.slice e' t'),some ⟨_,t,b,l⟩,some (_,j)=>match τ e',decide (t'=t),b,op1 s tg x with
  |some t2,true,false,_=>match decide (t2=t)|| (decide (t= .hid t2)&&Nat.beq t2.size 1)with
   |true=>some ⟨.shp t (l.getD j.toNat (zero t)),s,false,some (0<=j/\j<l.length)⟩
   |false=>none
  |some t2,true,true,.tm k (.val _ _ _)=>match decide (t2=t),s.get (.m k)with
   |true,.val _ _ _=>some ⟨.elp k [] j [],s,false,some (0<=j/\j<l.length)⟩
   |_,_=>none
  |some t2,true,true,.tm _ (.bor r p)=>match decide (t2=t)with
   |true=>some ⟨.elp r p j [],s,false,some (0<=j/\j<l.length)⟩
   |false=>none
  |_,_,_,_=>none
 |_,_,_=>none
def Ztc(τ:Tab)(s:St)(tg:Xi)(e:TypeId)(x i:Operand):Option Res:=
 match τ e with
 |some (.arr n t)=>Z2h s tg n t x i
 |_=>Z2g τ s tg e x i
theorem Qwd{e e':TypeId}{t:Ty}{t2:Ty}(h:TOK P e (.slice e' t))(h':TOK P e' t2)(hsz:t2.size=t.size){ad:Addr}{len cap:Nat}{k:IntKind}{j:Int}(h0:0<=j)(h1:j<len)(w:World):
  (Instr.indexAt e (.slice (some ad) len cap) (.int k j)).run P w= .ok (.pointer (some (ad.add (j.toNat*t.size)))) w:=by
 simp only[Instr.indexAt,Sem.run_bind,asIntOf,Sem.run_pure,Result.andThen_ok,run_underlying h.slice.1];simp[h0,h1,h'.sizeOf w,hsz]
theorem Qch(h:R n W0 w X F H s a)(ht:tg.ok W0.gh a){e:TypeId}{m:Nat}{t:Ty}(hT:TOK P e (.arr m t)){x i:Operand}(ho:o.op= .indexAddr e x i){r:Res}(hr:Z2h s tg m t x i=some r):Zaw P τ W0 w X F s a o r:=by
 have at': ∀{k p},(∃e' U f y b S,s.get (.m k)= .box e' U f y/\F (.m k)=b::S/\a.eval x= .pointer (some ⟨b,J3 U p,none⟩))->
   (match s.get (.m k),Zpw s (op1 s tg i)with
    | .box _ U _ y,some (_,j)=>match Zc9 U y p with
     |some ⟨.arr n' t',_⟩=>match decide (n'=m/\t'=t)with
      |true=>some (⟨.aep k p j,s,false,some (0<=j/\j<m)⟩:Res)
      |false=>none
     |_=>none
    |_,_=>none)=some r->Zaw P τ W0 w X F s a o r:=by
  clear hr;intro k p ⟨e',U,f,y,b,S,hg,hF,hx⟩ hr;rw[hg]at hr;split at hr
  ·rename_i hb hj;cases hb;rename_i ik j;have hi:=Zds h ht hj;split at hr
   ·rename_i n' t' l hz;split at hr
    ·rename_i hd;obtain⟨rfl,rfl⟩:=Ode hd;simp only[Osi]at hr;subst hr;refine Yi rfl fun hob=> ?_;have hob:0<=j/\j<n':=hob;refine⟨.pointer (some ⟨b,J3 U p+j.toNat*t'.size,none⟩),fun w' _=> ?_,rfl,e',U,f,y,b,S,n',t',l,hg,hF,hz,hob.1,hob.2,rfl⟩;obtain⟨_,e2,hu,hs⟩:=hT.arr;obtain⟨i2,hi2,hs2,_⟩:=Zln hs;have hadd: (⟨b,J3 U p,none⟩:Addr).add (j.toNat*t'.size)=⟨b,J3 U p+j.toNat*t'.size,none⟩:=by
      unfold Addr.add;split<;>simp_all
     simp only[execOp,ho,hx,hi,Sem.run_bind,Instr.indexAt,asIntOf,Sem.run_pure,Result.andThen_ok,run_underlying hu,Instr.sureAddr];simp[hob.1,hob.2,Go.sizeOf,typeInfo,hi2,hs2,hadd]
    ·cases hr
   ·cases hr
  ·cases hr
 unfold Z2h at hr;simp only at hr;split at hr
 ·rename_i k e' U f y hx;obtain⟨rfl,b,c,S,h1,h2,h3,h4⟩:=Ke h ht hx (by simp);refine at' (p:=[]) ?_ hr;have hbx: ∃e2 U2 f2 y2,s.get (.m k)= .box e2 U2 f2 y2:=by
   split at hr
   ·rename_i hb _;exact⟨_,_,_,_,hb⟩
   ·cases hr
  obtain⟨e2,U2,f2,y2,hg⟩:=hbx;have hx:=(Zli hx).2.2;simp only[hg,Zv1]at hx;cases hx;exact⟨e',U,f,y,b,S,hg,h2,h1⟩
 ·rename_i k r' p hx;obtain⟨rfl,h0,e3,U3,f3,y3,b,S,h1,h2,h3⟩:=Ke h ht hx (by simp);exact at' ⟨e3,U3,f3,y3,b,S,h1,h2,h3⟩ hr
 ·cases hr
theorem Qcg(h:R n W0 w X F H s a)(ht:tg.ok W0.gh a)(hτ:τ.ok P){e:TypeId}{x i:Operand}(ho:o.op= .indexAddr e x i){r:Res}(hr:Z2g τ s tg e x i=some r):Zaw P τ W0 w X F s a o r:=by
 unfold Z2g at hr;split at hr
 ·rename_i e' t' e2 t b l k j hT hl hj;have e3:=Zds h ht hj;obtain⟨v,xs,S1,S2,hv,k1,k2,k3⟩:=Zth h ht hl;have hcells:=Zck k1;have run: ∀{t2},τ e'=some t2->t'=t->t2.size=t.size->0<=j/\j<l.length-> ∃ad cap,a.eval x= .slice (some ad) l.length cap/\(X ad.block\/ad.block∈S1)/\(∀j u,xs[j]? =some u->w.cell? (ad.add j)=some u)/\
    ∀w',Dep W0.gh τ X s a o w w'->(execOp a.eval o).run P w'= .ok (.value (.pointer (some (ad.add (j.toNat*t.size))))) w':=by
   intro t2 h1 h2 h3 h4;subst h2;obtain⟨ad0,cap,hvv,_,_,hc⟩:=hcells;rcases hc with⟨_,hl0,_⟩| ⟨ad,rfl,hb,hc⟩
   ·omega
   ·refine⟨ad,cap,hv.trans hvv,hb.resolve_left (by omega),hc,fun w' _=> ?_⟩;simp only[execOp,ho,hv,hvv,e3,Sem.run_bind,Qwd (hτ _ _ hT) (hτ _ _ h1) h3 h4.1 h4.2 w',Result.andThen_ok,Sem.run_pure]
  split at hr
  ·rename_i t2 h1 hd;split at hr
   ·rename_i hd2;simp only[Osi]at hr;subst hr;refine Yi rfl fun hp=> ?_;have hp:0<=j/\j<l.length:=hp;obtain⟨ad,cap,g1,g2,g3,g4⟩:=run h1 (Ode hd) (by
     rcases(Bool.or_eq_true _ _).mp hd2 with hd2|hd2
     ·rw[Ode hd2]
     ·simp only[Oba,decide_eq_true_eq]at hd2;rw[hd2.1,Onb hd2.2];rfl) hp
    obtain⟨pre,mid,post,T1,T2,T3,m1,m2,m3,m4,_⟩:=Zpx (fun _ _ _ h=>Xv h) (i:=j.toNat) (by omega) k2;refine⟨_,g4,rfl,_,mid,rfl,?_,?_,?_⟩
    ·have: (ad.add (j.toNat*t.size)).block=ad.block:=by unfold Addr.add;split<;>rfl
     rw[this];refine g2.resolve_right ?_;rw[show S1=[]from k1.1];simp
    ·intro q u hq;rw[Addr.add_add',<-m3];apply g3;rw[m1,List.getElem?_append_right (by omega),show pre.length+q-pre.length=q from by omega,List.getElem?_append_left (List.getElem?_eq_some_iff.1 hq).1];exact hq
    ·have e4:l.getD j.toNat (zero t)=l[j.toNat]'(by omega):=by rw[List.getD_eq_getElem?_getD,List.getElem?_eq_getElem (by omega)];rfl
     rw[e4];have e5:=Zfg m4;rw[e5]at m4;exact m4
   ·cases hr
  ·rename_i t2 k' T3 f3 x3 h1 hd hx;split at hr
   ·rename_i T4 f4 x4 hd2 hg;simp only[Osi]at hr;subst hr;refine Yi rfl fun hp=> ?_;have hp:0<=j/\j<l.length:=hp;obtain⟨ad,cap,g1,g2,g3,g4⟩:=run h1 (Ode hd) (congrArg Ty.size (Ode hd2)) hp;obtain⟨rfl,_⟩:=Ke h ht hx (by simp);have hx0:=hx;have hkb:=(Zli hx).2.1;have hx:=(Zli hx).2.2;simp only[hg,Zv1]at hx;cases hx;have hT4: ∃e4,T3= .slice e4 t:=by
     unfold Z26 at hl;split at hl
     ·rename_i e4 t4 b4 l4 hk;simp only[Osi,Sigma.mk.injEq]at hl;obtain⟨rfl,hl⟩:=hl;simp only[heq_eq_eq,Sigma.mk.injEq]at hl;obtain⟨rfl,hl⟩:=hl;rw[hx0]at hk;simp only[Zrt]at hk;split at hk
      ·simp only[Osi,Sigma.mk.injEq]at hk;exact⟨_,hk.1⟩
      ·cases hk
     ·cases hl
    obtain⟨e4,rfl⟩:=hT4;refine⟨_,g4,rfl,fun _=>⟨e4,t,ad,l.length,cap,?_,hp.1,hp.2,by simp[J3]⟩⟩;unfold Xb;rw[hg];exact⟨rfl,rfl,((Yh W0 a hkb).trans g1).symm⟩
   ·cases hr
  ·rename_i t2 k' r' p h1 hd hx;split at hr
   ·rename_i hd2;simp only[Osi]at hr;subst hr;refine Yi rfl fun hp=> ?_;have hp:0<=j/\j<l.length:=hp;obtain⟨ad,cap,g1,g2,g3,g4⟩:=run h1 (Ode hd) (congrArg Ty.size (Ode hd2)) hp;obtain⟨rfl,h0,hb⟩:=Ke h ht hx (by simp);refine⟨_,g4,rfl,fun hfoul=> ?_⟩;obtain⟨U,hU⟩:=hb hfoul;have hlk: ∃f4,Zrt s (.tm k' (.bor r' p))=some ⟨.slice e2 t,f4,l⟩:=by
     unfold Z26 at hl;rw[hx]at hl;split at hl
     ·rename_i e4 t4 b4 l4 hk;simp only[Osi,Sigma.mk.injEq]at hl;obtain⟨rfl,hl⟩:=hl;simp only[heq_eq_eq,Sigma.mk.injEq]at hl;obtain⟨rfl,hl⟩:=hl;simp only[heq_eq_eq,Opi]at hl;obtain⟨rfl,rfl⟩:=hl;exact⟨_,hk⟩
     ·cases hl
    obtain⟨f4,hlk⟩:=hlk;obtain⟨_,hTT,_⟩:=Z9u h hlk hU;subst hTT;rw[g1]at hU;exact⟨e2,t,ad,l.length,cap,hU,hp.1,hp.2,by simp[J3]⟩
   ·cases hr
  ·cases hr
 ·cases hr
theorem Qze(b:Bool): ∀q:List Nat,Zjv (.u b) q= .u b
 | []=>rfl
 |i::q=>by
  have:Zs9 (.u b) i= .u b:=by cases i<;>rfl
  rw[Zjv,this];exact Qze b q
def Qlk(τ:Tab)(s:St)(tg:Xi)(e:TypeId)(x:Operand):Option Res:=
 match τ e with
 |none=>none
 |some T=>
  let fromBox (r:Nat) (p:List Nat):Option Res:=match s.get (.m r)with
   | .box _ U f y=>match Zc9 U y p with
    |some z=>match(Zjv f p).live,decide (z.1=T)with
     |true,true=>match Zmu (Zjv f p) z.1 with
      |true=>some ⟨.val z.1 (Zjv f p) z.2,s,false,none⟩
      |false=>some ⟨.bor r p,s,false,none⟩
     |_,_=>none
    |none=>none
   |_=>none
  match op1 s tg x with
  | .tm k (.box _ _ _ _)=>fromBox k []
  | .tm _ (.ptr r p)=>fromBox r p
  | .tm _ (.shp U y)=>match decide (U=T)with
   |true=>some ⟨.val U (.u false) y,s,false,none⟩
   |false=>none
  | .tm _ (.aep r p i)=>match s.get (.m r)with
   | .box _ U f y=>match Zc9 U y p with
    |some ⟨.arr _ t,l⟩=>match(Zjv f p).live,decide (t=T),t.flat with
     |true,true,true=>some ⟨.val t (.u false) (l.getD i.toNat (zero t)),s,false,none⟩
     |_,_,_=>none
    |_=>none
   |_=>none
  | .tm k (.elp r p j q)=>match Zrt s (.tm k (.bor r p))with
   |some ⟨.slice _ t,.u b,l⟩=>match Zc9 t (l.getD j.toNat (zero t)) q with
    |some z=>match decide (z.1=T),z.1.flat,b with
     |true,true,_=>some ⟨.val z.1 (.u false) z.2,s,false,none⟩
     |true,false,true=>some ⟨.bel r p j q,s,false,none⟩
     |_,_,_=>none
    |none=>none
   |_=>none
  |_=>none
theorem Z62(h:R n W0 w X F H s a)(ht:tg.ok W0.gh a)(hτ:τ.ok P){e:TypeId}{x:Operand}(ho:o.op= .load e x){r:Res}(hr:Qlk τ s tg e x=some r):Zaw P τ W0 w X F s a o r:=by
 unfold Qlk at hr;split at hr
 ·cases hr
 ·rename_i T hT;have run: ∀{ad:Addr} {vs:List Value},a.eval x= .pointer (some ad)->vs.length=T.size->(∀w',Dep W0.gh τ X s a o w w'-> ∀j u,vs[j]? =some u->w'.cell? (ad.add j)=some u)-> ∀w',Dep W0.gh τ X s a o w w'->(execOp a.eval o).run P w'= .ok (.value (Xt T vs)) w':=by
   intro ad vs hx hl hc w' hw';simp only[execOp,ho,hx,Sem.run_bind,Instr.loadAt,Instr.sureAddr,Sem.run_pure,Result.andThen_ok,(hτ _ _ hT).load hl (hc w' hw')]
  have hdep: ∀{w'},Dep W0.gh τ X s a o w w'->match Zva s (.load e x)with
    |some (some r)=> ∀b,b<w.heap.size->Qk W0.gh a (.m r)= .pointer (some ⟨b,0,none⟩)->w'.heap[b]? =w.heap[b]?
    |some none=> ∀b,b<w.heap.size->X b->w'.heap[b]? =w.heap[b]?
    |none=>Old w w':=fun {w'} hd=>by
   have:=hd (by rw[ho];rfl);rw[ho]at this;exact this
  have box: ∀{k p},Zva s (.load e x)=some (some k)->(∃e' U f y b S,s.get (.m k)= .box e' U f y/\F (.m k)=b::S/\a.eval x= .pointer (some ⟨b,J3 U p,none⟩))->
    (match s.get (.m k)with
     | .box _ U f y=>match Zc9 U y p with
      |some z=>match(Zjv f p).live,decide (z.1=T)with
       |true,true=>match Zmu (Zjv f p) z.1 with
        |true=>some (⟨.val z.1 (Zjv f p) z.2,s,false,none⟩:Res)
        |false=>some ⟨.bor k p,s,false,none⟩
       |_,_=>none
      |none=>none
     |_=>none)=some r->Zaw P τ W0 w X F s a o r:=by
   intro k p hdr ⟨e',U,f,y,b,S,hg,hF,hx⟩ hr;rw[hg]at hr;simp only at hr;have hs:=h.slots (.m k);rw[hg]at hs;obtain⟨b',c,S',l1,l2,l3,l4⟩:=hs;rw[hF]at l2;obtain⟨rfl,rfl⟩:=List.cons.inj l2;split at hr
   ·rename_i z hz;obtain⟨pre,mid,post,S1,S2,S3,m1,m2,m3,m4,_⟩:=Zeg hz l4;split at hr
    ·rename_i hlive hd;have hTz:z.1=T:=Ode hd;have hcell: ∀j u,mid[j]? =some u->w.cell? ((⟨b,J3 U p,none⟩:Addr).add j)=some u:=by
      intro j u hj;rw[Zgl w l3,<-Array.getElem?_toList,m1,<-m3,List.getElem?_append_right (by omega),show pre.length+j-pre.length=j from by omega,List.getElem?_append_left (List.getElem?_eq_some_iff.1 hj).1];exact hj
     have hrun:=run hx (by rw[Xx m4,hTz]) (fun w' hd j u hj=>by
      have hd:=hdep hd;rw[hdr]at hd;rw[World.cell?_of_block (w:=w) (by
       have hb: ((⟨b,J3 U p,none⟩:Addr).add j).block=b:=by unfold Addr.add;split<;>rfl
       rw[hb];exact hd b (Array.getElem?_eq_some_iff.1 l3).1 l1)]
      exact hcell j u hj)
     split at hr
     ·rename_i hn;simp only[Osi]at hr;subst hr;have:=Zh5 hn m4;subst this;exact Yi rfl fun _=>⟨_,hrun,mid,by rw[hTz],m4⟩
     ·simp only[Osi]at hr;subst hr;refine Yi rfl fun _=>⟨_,hrun,rfl,fun _=>⟨z.1,?_⟩⟩
      unfold Xb;rw[hg];exact⟨b,c,S,z,hF,l3,hz,rfl,by rw[Zx5 m1 m3 (Xx m4),hTz]⟩
    ·cases hr
   ·cases hr
  simp only at hr;split at hr
  ·rename_i k e' U f y hx;obtain⟨rfl,b,c,S,h1,h2,h3,h4⟩:=Ke h ht hx (by simp);refine box (p:=[]) (Zk8 hx (by simp)) ?_ hr;cases hg:s.get (.m k)<;>rw[hg]at hr<;>simp only at hr<;>first|cases hr|skip
   have hx:=(Zli hx).2.2;simp only[hg,Zv1]at hx;cases hx;exact⟨e',U,f,y,b,S,rfl,h2,h1⟩
  ·rename_i k r' p hx;obtain⟨rfl,h0,e3,U3,f3,y3,b,S,h1,h2,h3⟩:=Ke h ht hx (by simp);exact box (Zk8 hx (by simp)) ⟨e3,U3,f3,y3,b,S,h1,h2,h3⟩ hr
  ·rename_i k U y hx;obtain⟨rfl,h0,ad,vs,h1,h2,h3,h4⟩:=Ke h ht hx (by simp);split at hr
   ·rename_i hd;simp only[Osi]at hr;subst hr;have hU:U=T:=Ode hd;subst hU;refine Yi rfl fun _=>⟨_,run h1 (Xv h4) (fun w' hd j u hj=> ?_),vs,rfl,by unfold rdF;exact h4⟩
    have hd:=hdep hd;have hdr:Zva s (.load e (.tmp k))=some none:=Zk8 hx (by simp);rw[hdr]at hd;rw[World.cell?_of_block (w:=w) (by
     have hb: (ad.add j).block=ad.block:=by unfold Addr.add;split<;>rfl
     rw[hb];exact hd _ (h.xlt _ h2) h2)]
    exact h3 j u hj
   ·cases hr
  ·rename_i k r' p i hx;obtain⟨rfl,h0,e3,U3,f3,y3,b,S,nn,t3,z3,h1,h2,h3,h4,h5,h6⟩:=Ke h ht hx (by simp);rw[h1]at hr;simp only[h3]at hr;split at hr
   ·rename_i hlive hd hfl;simp only[Osi]at hr;subst hr;have hTz:t3=T:=Ode hd;subst hTz;have hs:=h.slots (.m r');rw[h1]at hs;obtain⟨b',c,S',l1,l2,l3,l4⟩:=hs;rw[h2]at l2;obtain⟨rfl,rfl⟩:=List.cons.inj l2;obtain⟨pre,mid,post,S1,S2,S3,m1,m2,m3,m4,_⟩:=Zeg h3 l4;have m5:=Ko (X':=fun b=>X b\/b∈S2) (fun _ h=> .inl h) hlive m4 (fun _ h=> .inr h);obtain⟨hlen,hrows⟩:=m5;have hlen:z3.length=nn:=hlen;have hil:i.toNat<z3.length:=by omega
    obtain⟨pre',mid',post',T1,T2,T3,n1,n2,n3,n4,_⟩:=Zpx (fun _ _ _ h=>Xv h) hil hrows;have e4:z3.getD i.toNat (zero t3)=z3[i.toNat]:=by rw[List.getD_eq_getElem?_getD,List.getElem?_eq_getElem hil];rfl
    have hcell: ∀j u,mid'[j]? =some u->w.cell? ((⟨b,J3 U3 p+i.toNat*t3.size,none⟩:Addr).add j)=some u:=by
     intro j u hj;have hj':=(List.getElem?_eq_some_iff.1 hj).1;rw[Zgl w l3,<-Array.getElem?_toList,m1,n1,<-m3,<-n3];rw[List.getElem?_append_right (by omega),List.getElem?_append_left (by simp;omega),List.getElem?_append_right (by omega),List.getElem?_append_left (by omega)];rw[show pre.length+pre'.length+j-pre.length-pre'.length=j from by omega];exact hj
    refine Yi rfl fun _=>⟨_,run h6 (Xv n4) (fun w' hd j u hj=> ?_),mid',rfl,?_⟩
    ·have hd:=hdep hd;rw[Zk8 hx (by simp)]at hd;rw[World.cell?_of_block (w:=w) (by
      have hb: ((⟨b,J3 U3 p+i.toNat*t3.size,none⟩:Addr).add j).block=b:=by unfold Addr.add;split<;>rfl
      rw[hb];exact hd b (Array.getElem?_eq_some_iff.1 l3).1 l1)]
     exact hcell j u hj
    ·rw[e4];unfold rdF;exact(Zco hfl n4).2
   ·cases hr
  ·rename_i k r' p j q hx;obtain⟨rfl,h0,h1⟩:=Ke h ht hx (by simp);split at hr
   ·rename_i e2 t b l hl;have hfoul:s.bad r' p=false:=by
     simp only[Zrt]at hl;split at hl
     ·cases hl
     ·assumption
    obtain⟨e3,t3,ad,nn,cap,k1,k2,k3,k4⟩:=h1 hfoul;obtain⟨_,hTT,_,vs,S,g1,g2,g3⟩:=Z9u h hl k1;cases hTT;unfold rdF at g2;obtain⟨v,xs,S1,S2,rfl,rfl,q1,q2⟩:=g2;have g1:Value.slice (some ad) nn cap=v:=g1;subst g1;obtain⟨a0,cap',hv,hle,_,hc⟩:=Zck q1;simp only[Value.slice.injEq]at hv;obtain⟨rfl,rfl,rfl⟩:=hv;rcases hc with⟨e0,_⟩| ⟨ad',e0,_,hc⟩
    ·cases e0
    ·simp only[Osi]at e0;subst e0;split at hr
     ·rename_i z hz;split at hr
      ·rename_i hd hfl _;simp only[Osi]at hr;subst hr;have hTz:z.1=T:=Ode hd;obtain⟨pre,mid,post,T1,T2,T3,m1,m2,m3,m4,_⟩:=Zpx (fun _ _ _ h=>Xv h) (i:=j.toNat) (by omega) q2;have e4:l.getD j.toNat (zero t)=l[j.toNat]'(by omega):=by rw[List.getD_eq_getElem?_getD,List.getElem?_eq_getElem (by omega)];rfl
       rw[e4]at hz;have mk: ∀{own:Bool},rd w X W0.B own t l[j.toNat] mid T2->rdF w X W0.B t (.u own) l[j.toNat] mid T2:=fun h=>by unfold rdF;exact h
       have m4':=mk m4;obtain⟨pre',mid',post',U1,U2,U3,n1,n2,n3,n4,_⟩:=Zeg hz m4';refine Yi rfl fun _=>⟨_,run k4 (vs:=mid') (by rw[Xx n4,hTz]) ?_,mid',by rw[hTz],?_⟩
       ·intro w' hd i u hi;have hd:=hdep hd;rw[Zk8 hx (by simp)]at hd;refine Old.cell (show Old w w' from hd) ?_;rw[Addr.add_add',<-m3,<-n3];apply hc;have hm:=(List.getElem?_eq_some_iff.1 hi).1;rw[m1,List.getElem?_append_right (by omega),show pre.length+pre'.length+i-pre.length=pre'.length+i from by omega,
         List.getElem?_append_left (by rw[n1];simp;omega),n1,List.getElem?_append_right (by omega),show pre'.length+i-pre'.length=i from by omega,List.getElem?_append_left hm]
        exact hi
       ·rw[Qze]at n4;unfold rdF at n4⊢;exact(Zco hfl n4).2
      ·rename_i hd hfl _;simp only[Osi]at hr;subst hr;have hTz:z.1=T:=Ode hd;have hz0:=hz;obtain⟨pre,mid,post,T1,T2,T3,m1,m2,m3,m4,_⟩:=Zpx (fun _ _ _ h=>Xv h) (i:=j.toNat) (by omega) q2;have e4:l.getD j.toNat (zero t)=l[j.toNat]'(by omega):=by rw[List.getD_eq_getElem?_getD,List.getElem?_eq_getElem (by omega)];rfl
       rw[e4]at hz;have m4':rdF w X W0.B t (.u true) l[j.toNat] mid T2:=by unfold rdF;exact m4
       obtain⟨pre',mid',post',U1,U2,U3,n1,n2,n3,n4,_⟩:=Zeg hz m4';have hcell: ∀(i:Nat) u,mid'[i]? =some u->w.cell? (ad.add (j.toNat*t.size+J3 t q+i))=some u:=fun i u hi=>by
        rw[<-m3,<-n3];apply hc;have hm:=(List.getElem?_eq_some_iff.1 hi).1;rw[m1,List.getElem?_append_right (by omega),show pre.length+pre'.length+i-pre.length=pre'.length+i from by omega,
         List.getElem?_append_left (by rw[n1];simp;omega),n1,List.getElem?_append_right (by omega),show pre'.length+i-pre'.length=i from by omega,List.getElem?_append_left hm]
        exact hi
       refine Yi rfl fun _=>⟨_,run k4 (vs:=mid') (by rw[Xx n4,hTz]) ?_,rfl,fun _ _=>⟨_,t,ad,_,_,_,z,mid',k1,k2,k3,g3 _ ?_,hz0,by rw[hTz],Xx n4,hcell⟩⟩
       ·intro w' hd i u hi;have hd:=hdep hd;rw[Zk8 hx (by simp)]at hd;refine Old.cell (show Old w w' from hd) ?_;rw[Addr.add_add'];exact hcell i u hi
       ·rw[q1.2];simp[Value.ownBlock]
      ·cases hr
     ·cases hr
   ·cases hr
  ·cases hr
theorem Zt2(h:R n W0 w X F H s a)(ht:tg.ok W0.gh a)(hτ:τ.ok P){e:TypeId}{x i:Operand}(ho:o.op= .indexAddr e x i){r:Res}(hr:Ztc τ s tg e x i=some r):Zaw P τ W0 w X F s a o r:=by
 unfold Ztc at hr;split at hr
 ·rename_i n t hT;exact Qch h ht (hτ _ _ hT) ho hr
 ·exact Qcg h ht hτ ho hr
end
end Go.Am
namespace Go.Am
open Go.RowKit
section
variable {P:Program} {g:Kr} {W0:Wz g} {w w':World} {X X':Nat->Prop} {B n:Nat} {own:Bool} {s:St} {F:Key->List Nat} {a:Act} {H:List Nat} {o:Oper} {tg:Xi} {τ:Tab} {gh:Nat->Value}
def Qxb(s:St)(o:Op1):Option ((T:Ty)×T.den×St):=
 match Zrt s o with
 |some ⟨T,f,x⟩=>match Zmu f T with
  |true=>some ⟨T,x,s⟩
  |false=>match o with
   | .tm k (.val _ _ _)=>match s.get (.m k)with
    | .val U _ y=>some ⟨T,x,Y0 s k (.val U (.u false) y)⟩
    |_=>none
   | .tm _ (.bor r [])=>match s.get (.m r)with
    | .val U _ y=>some ⟨T,x,Y0 s r (.val U (.u false) y)⟩
    |_=>none
   |_=>none
 |none=>none
theorem R.freezeM(hs:g.soft=false)(h:R n W0 w X F H s a){k:Nat}{T:Ty}{f:Fl}{x:T.den}(hg:s.get (.m k)= .val T f x)(hf:f.live=true):
  R n W0 w (fun b=>X b\/b∈F (.m k)) (Qd F (.m k) []) H (Y0 s k (.val T (.u false) x)) a/\ ∃vs,Qk W0.gh a (.m k)=Xt T vs/\rd w (fun b=>X b\/b∈F (.m k)) W0.B false T x vs []:=by
 have hs:=h.slots (.m k);rw[hg]at hs;obtain⟨vs,h1,h2⟩:=hs;have hfz:rd w (fun b=>X b\/b∈F (.m k)) W0.B false T x vs []:=Ko (fun _ h=> .inl h) hf h2 (fun _ h=> .inr h);have h3:=R.give hs (h.takeM hg);have e1:Qd (Qd F (.m k) []) (.m k) []=Qd F (.m k) []:=by funext j;by_cases hj:j= .m k<;>simp[Qd,hj]
 have h4:=h3.turn (r:=k) (t:= .val T (.u false) x) (S':=[]) (H':=H) h3.below (Nat.le_refl _) (fun _ _=>rfl) (fun _ _ _ _=>rfl) (by simp[Qd]) (by simpa using h.hnodup)
  (by rw[Yg];simp) (fun e T f x b S hb=>by rw[Yg]at hb;simp at hb) ⟨vs,h1,by unfold rdF;exact hfz⟩
 rw[e1]at h4;have h5:R n W0 w (fun b=>X b\/b∈F (.m k)) (Qd F (.m k) []) H (Y0 s k (.val T (.u false) x)) a:=
  {h4 with
   comps:=fun d i hc=>by
    obtain⟨g1,g2⟩:=h4.comps d i (by simpa[Yg]using hc);refine⟨?_,g2⟩;simp only[Yg,Key.m.injEq]at g1⊢;split at g1
    ·exact absurd g1 (by simp)
    ·rename_i hk;simpa[hk]using g1
   slots:=fun j=>by
    have hj:=h4.slots j;have e2: (Y0 (Y0 s k .junk) k (.val T (.u false) x)).get j=(Y0 s k (.val T (.u false) x)).get j:=by simp only[Yg];split<;>rfl
    rw[e2]at hj;have e4: ∀r,(Y0 s k (.val T (.u false) x)).foul r=false->(Y0 (Y0 s k .junk) k (.val T (.u false) x)).foul r=false:=fun r hc=>by
     simp only[Y0,St.foul,List.any_cons,Bool.or_eq_false_iff]at hc⊢;exact⟨hc.1,hc⟩
    generalize (Y0 s k (.val T (.u false) x)).get j=u at hj
    induction u with
    |bor r p=>
     refine⟨hj.1,fun hc=> ?_⟩;obtain⟨U,hU⟩:=hj.2 (Zv4 e4 hc);refine⟨U,?_⟩;unfold Xb at hU⊢;have e3: (Y0 (Y0 s k .junk) k (.val T (.u false) x)).get (.m r)=(Y0 s k (.val T (.u false) x)).get (.m r):=by simp only[Yg];split<;>rfl
     rw[e3]at hU;exact hU
    |elp r p i q=>
     refine⟨hj.1,fun hc=> ?_⟩;obtain⟨e,t,ad,nn,cap,hU,rest⟩:=hj.2 (Zv4 e4 hc);refine⟨e,t,ad,nn,cap,?_,rest⟩;unfold Xb at hU⊢;have e3: (Y0 (Y0 s k .junk) k (.val T (.u false) x)).get (.m r)=(Y0 s k (.val T (.u false) x)).get (.m r):=by simp only[Yg];split<;>rfl
     rw[e3]at hU;exact hU
    |bel r p i q=>
     refine⟨hj.1,fun hc he=> ?_⟩;obtain⟨e,t,ad,nn,cap,x0,y,cs,hU,rest⟩:=hj.2 (Zv4 e4 hc) (e4 _ he);refine⟨e,t,ad,nn,cap,x0,y,cs,?_,rest⟩;unfold Xb at hU⊢;have e3: (Y0 (Y0 s k .junk) k (.val T (.u false) x)).get (.m r)=(Y0 s k (.val T (.u false) x)).get (.m r):=by simp only[Yg];split<;>rfl
     rw[e3]at hU;exact hU
    |cl f l=>
     refine⟨hj.1,Z1t (fun r p v ha=> ?_) hj.2⟩;obtain⟨e,T',f',x',b,S',g1,g2,g3⟩:=ha;have e3: (Y0 (Y0 s k .junk) k (.val T (.u false) x)).get (.m r)=(Y0 s k (.val T (.u false) x)).get (.m r):=by simp only[Yg];split<;>rfl
     rw[e3]at g1;exact⟨e,T',f',x',b,S',g1,g2,g3⟩
    |ptr r p=>
     obtain⟨h0,e,T',f',x',b,S',g1,g2,g3⟩:=hj;have e3: (Y0 (Y0 s k .junk) k (.val T (.u false) x)).get (.m r)=(Y0 s k (.val T (.u false) x)).get (.m r):=by simp only[Yg];split<;>rfl
     rw[e3]at g1;exact⟨h0,e,T',f',x',b,S',g1,g2,g3⟩
    |aep r p i=>
     obtain⟨h0,e,T',f',x',b,S',nn,t2,y2,g1,g2,g3⟩:=hj;have e3: (Y0 (Y0 s k .junk) k (.val T (.u false) x)).get (.m r)=(Y0 s k (.val T (.u false) x)).get (.m r):=by simp only[Yg];split<;>rfl
     rw[e3]at g1;exact⟨h0,e,T',f',x',b,S',nn,t2,y2,g1,g2,g3⟩
    |pls hh l=>
     refine⟨hj.1,Zqp (fun _ h=>h) (fun _ _=>rfl) (fun r p v ha=> ?_) hj.2⟩;obtain⟨e,T',f',x',b,S',g1,g2,g3⟩:=ha;have e3: (Y0 (Y0 s k .junk) k (.val T (.u false) x)).get (.m r)=(Y0 s k (.val T (.u false) x)).get (.m r):=by simp only[Yg];split<;>rfl
     rw[e3]at g1;exact⟨e,T',f',x',b,S',g1,g2,g3⟩
    |gd g want t ih=>
     intro hc;obtain⟨g1,g2,g3⟩:=hj (e4 _ hc);have e3: (Y0 (Y0 s k .junk) k (.val T (.u false) x)).get (.m g)=(Y0 s k (.val T (.u false) x)).get (.m g):=by simp only[Yg];split<;>rfl
     rw[e3]at g1;exact⟨g1,fun hb=>ih (g2 hb),g3⟩
    |junk=>exact hj
    |tup=>exact hj
    |val T f x=>exact hj
    |box e T f x=>exact hj
    |shp T x=>exact hj}
 exact⟨h5,vs,h1,hfz⟩
theorem Qti(hs:g.soft=false)(h:R n W0 w X F H s a)(ht:tg.ok W0.gh a){x:Operand}{T:Ty}{y:T.den}{s':St}(hk:Qxb s (op1 s tg x)=some ⟨T,y,s'⟩):
  ∃X' F' vs,(∀b,X b->X' b)/\a.eval x=Xt T vs/\rd w X' W0.B false T y vs []/\R n W0 w X' F' H s' a:=by
 unfold Qxb at hk;split at hk
 ·rename_i T1 f y1 hl;obtain⟨hf,vs,S,h1,h2,h3⟩:=Zee h ht hl;split at hk
  ·rename_i hn;simp only[Osi,Sigma.mk.injEq]at hk;obtain⟨rfl,hk⟩:=hk;simp only[heq_eq_eq,Opi]at hk;obtain⟨rfl,rfl⟩:=hk;have:=Zh5 hn h2;subst this;exact⟨X,F,vs,fun _ h=>h,h1,Ko (fun _ h=>h) hf h2 (by simp),h⟩
  ·generalize ho:op1 s tg x=o1 at hk hl;split at hk
   ·rename_i k T' f' x';split at hk
    ·rename_i U f2 y2 hg;simp only[Osi,Sigma.mk.injEq]at hk;obtain⟨rfl,hk⟩:=hk;simp only[heq_eq_eq,Opi]at hk;obtain⟨rfl,rfl⟩:=hk;obtain⟨rfl,_⟩:=Ke h ht ho (by simp);have hkb:=(Zli ho).2.1;have ho:=(Zli ho).2.2;simp only[hg,Zv1]at ho;cases ho;simp only[Zrt]at hl;split at hl
     ·simp only[Osi,Sigma.mk.injEq]at hl;obtain⟨rfl,hl⟩:=hl;simp only[heq_eq_eq,Opi]at hl;obtain⟨rfl,rfl⟩:=hl;obtain⟨g1,vs',g2,g3⟩:=R.freezeM hs h hg hf;exact⟨_,_,vs',fun _ h=> .inl h,(Yh W0 a hkb).symm.trans g2,g3,g1⟩
     ·cases hl
    ·cases hk
   ·rename_i k r;obtain⟨_,h0,hb⟩:=Ke h ht ho (by simp);split at hk
    ·rename_i U f2 y2 hg;simp only[Osi,Sigma.mk.injEq]at hk;obtain⟨rfl,hk⟩:=hk;simp only[heq_eq_eq,Opi]at hk;obtain⟨rfl,rfl⟩:=hk;simp only[Zrt,hg]at hl;split at hl
     ·cases hl
     ·rename_i hfoul;obtain⟨U',hU⟩:=hb hfoul;unfold Xb at hU;rw[hg]at hU;obtain⟨_,_,hv⟩:=hU;split at hl
      ·simp only[Osi,Sigma.mk.injEq]at hl;obtain⟨rfl,hl⟩:=hl;simp only[heq_eq_eq,Opi]at hl;obtain⟨rfl,rfl⟩:=hl;obtain⟨g1,vs',g2,g3⟩:=R.freezeM hs h hg hf;exact⟨_,_,vs',fun _ h=> .inl h,hv.trans g2,g3,g1⟩
      ·cases hl
    ·cases hk
   ·cases hk
 ·cases hk
theorem Q2g(u:List UInt8)(i j:Nat): (ByteArray.mk ⟨u⟩).extract i j=⟨⟨(u.drop i).take (j-i)⟩⟩:=by
 apply ByteArray.ext;simp[List.extract_eq_take_drop]
def Z39(s:St)(tg:Xi)(x:Option Operand)(d:Int):Option Int:=
 match x with
 |none=>some d
 |some x=>match Zpw s (op1 s tg x)with
  |some (_,j)=>some j
  |none=>none
def Qpf(τ:Tab)(s:St)(tg:Xi)(e:TypeId)(x:Operand)(lo hi:Option Operand):Option Res:=
 match τ e with
 |some .str=>match Zaa s (op1 s tg x) .str with
  |some u=>match Z39 s tg lo 0,Z39 s tg hi (u.length:Int)with
   |some i,some j=>some ⟨.val .str (.u false) ((u.drop i.toNat).take (j.toNat-i.toNat)),s,false,some (0<=i/\i<=j/\j<=u.length)⟩
   |_,_=>none
  |none=>none
 |some (.slice e' t')=>match Qxb s (op1 s tg x)with
  |some ⟨.slice e2 t,l,s'⟩=>match Z39 s tg lo 0,Z39 s tg hi (l.length:Int),decide (t'=t),τ e' with
   |some i,some j,true,some t2=>match decide (t2=t)with
    |true=>some ⟨.val (.slice e2 t) (.u false) ((l.drop i.toNat).take (j.toNat-i.toNat)),s',true,some (0<=i/\i<=j/\j<=l.length)⟩
    |false=>none
   |_,_,_,_=>none
  |_=>none
 |_=>none
theorem Zqv(h:R n W0 w X F H s a)(ht:tg.ok W0.gh a){x:Option Operand}{d j:Int}(hb:Z39 s tg x d=some j): (x=none/\j=d)\/ ∃y k,x=some y/\a.eval y= .int k j:=by
 unfold Z39 at hb;split at hb
 ·simp only[Osi]at hb;exact .inl ⟨rfl,hb.symm⟩
 ·rename_i y;split at hb
  ·rename_i k i hk;simp only[Osi]at hb;subst hb;exact .inr ⟨y,k,rfl,Zds h ht hk⟩
  ·cases hb
theorem Qma(isS:Bool){len cap:Nat}(hlc:len<=cap){lo hi:Option Value}{i j:Int}(h0:0<=i)(h1:i<=j)(h2:j<=len)
  (hl: (lo=none/\i=0)\/ ∃k,lo=some (.int k i)) (hh: (hi=none/\j=len)\/ ∃k,hi=some (.int k j)) (w:World):
  (Instr.sliceBounds isS len cap lo hi none).run P w= .ok (i.toNat,j.toNat,cap) w:=by
 rcases hl with⟨rfl,rfl⟩| ⟨k1,rfl⟩<;>rcases hh with⟨rfl,rfl⟩| ⟨k2,rfl⟩
 ·simp[Instr.sliceBounds]
 ·have:j<=(cap:Int):=by omega
  have h3:0<=j:=by omega
  simp[Instr.sliceBounds,Instr.sliceBound,asIntOf,h3,this]
 ·simp[Instr.sliceBounds,Instr.sliceBound,asIntOf,h0,h1]
 ·have:j<=(cap:Int):=by omega
  have h3:0<=j:=by omega
  simp[Instr.sliceBounds,Instr.sliceBound,asIntOf,h3,this,h0];intro hh;omega
theorem Qx9{α:Type}{r:α->List Value->List Nat->Prop}{sz:Nat}(hr: ∀x v S,r x v S->v.length=sz/\S=[]){l:List α}{vs:List Value}{S:List Nat}{i j:Nat}(hij:i<=j)(hj:j<=l.length)
  (h:Ww r l vs S): ∃pre mid post,vs=pre++ (mid++post)/\pre.length=i*sz/\Ww r ((l.drop i).take (j-i)) mid []/\mid.length=(j-i)*sz:=by
 have split: ∀{l1 l2:List α} {vs:List Value} {S:List Nat},Ww r (l1++l2) vs S-> ∃v1 v2,vs=v1++v2/\Ww r l1 v1 []/\Ww r l2 v2 []:=by
  intro l1
  induction l1 with
  |nil=>
   intro l2 vs S h;have:S=[]:=(Zdy (r':=fun _ _ _=>True) (fun x v S h=>⟨(hr x v S h).2,trivial⟩) h).1;subst this;exact⟨[],vs,rfl,⟨rfl,rfl⟩,h⟩
  |cons x l1 ih=>
   intro l2 vs S ⟨v1,v2,S1,S2,e1,e2,h1,h2⟩;obtain⟨u1,u2,rfl,g1,g2⟩:=ih h2;have:=(hr _ _ _ h1).2;subst this;exact⟨v1++u1,u2,by simp[e1],⟨v1,u1,[],[],rfl,rfl,h1,g1⟩,g2⟩
 have e:l=l.take i++ ((l.drop i).take (j-i)++l.drop j):=by
  have h2:l.drop j=(l.drop i).drop (j-i):=by rw[List.drop_drop];congr 1;omega
  rw[h2,List.take_append_drop,List.take_append_drop]
 rw[e]at h;obtain⟨v1,v2,rfl,g1,g2⟩:=split h;obtain⟨v3,v4,rfl,g3,g4⟩:=split g2;refine⟨v1,v3,v4,rfl,?_,g3,?_⟩
 ·rw[Zpy (n:=sz) (fun x v S h=>(hr x v S h).1) g1,List.length_take,Nat.min_eq_left (by omega)]
 ·rw[Zpy (n:=sz) (fun x v S h=>(hr x v S h).1) g3,List.length_take,List.length_drop,Nat.min_eq_left (by omega)]
theorem Qpg(hs:g.soft=false)(h:R n W0 w X F H s a)(ht:tg.ok W0.gh a)(hτ:τ.ok P){e:TypeId}{x:Operand}{lo hi:Option Operand}(ho:o.op= .slice e x lo hi none){r:Res}(hr:Qpf τ s tg e x lo hi=some r):Zo2 P n W0 w X H s a o r:=by
 unfold Qpf at hr;split at hr
 ·rename_i hT;split at hr
  ·rename_i u hu;split at hr
   ·rename_i i j hi' hj';simp only[Osi]at hr;subst hr;have e1:=Zto h ht hu;refine Zok h rfl fun hp=>⟨_,?_,Qup _⟩
    obtain⟨p1,p2,p3⟩:0<=i/\i<=j/\j<=u.length:=hp;have hb:=Qma (P:=P) false (len:=u.length) (cap:=u.length) (Nat.le_refl _) (lo:=lo.map a.eval) (hi:=hi.map a.eval) p1 p2 p3
     ((Zqv h ht hi').imp (fun⟨h1,h2⟩=>⟨by simp[h1],h2⟩) fun⟨y,k,h1,h2⟩=>⟨k,by simp[h1,h2]⟩)
     ((Zqv h ht hj').imp (fun⟨h1,h2⟩=>⟨by simp[h1],h2⟩) fun⟨y,k,h1,h2⟩=>⟨k,by simp[h1,h2]⟩) w
    simp only[execOp,ho,e1,Sem.run_bind,Instr.sliceAt,run_underlying (hτ _ _ hT).str,Result.andThen_ok,Instr.slice,Option.map_none,Q7p,Sem.run_pure];simp[hb,Q2g]
   ·cases hr
  ·cases hr
 ·rename_i e' t' hT;split at hr
  ·rename_i e2 t l s' hl;split at hr
   ·rename_i i j t2 hi' hj' hd ht2;split at hr
    ·rename_i hd2;simp only[Osi]at hr;subst hr;have ht':t'=t:=Ode hd;have ht3:t2=t:=Ode hd2;subst ht';subst ht3;obtain⟨X',F',vs,hX,h1,h2,h3⟩:=Qti hs h ht hl;obtain⟨v,xs,S1,S2,rfl,hS,k1,k2⟩:=h2;intro hp K Q hK;obtain⟨p1,p2,p3⟩:0<=i/\i<=j/\j<=l.length:=hp;obtain⟨hS1,hlen,a0,cap,rfl,hle,hcm,hc⟩:=k1;have hb:=Qma (P:=P) true (len:=l.length) (cap:=cap) hle (lo:=lo.map a.eval) (hi:=hi.map a.eval) p1 p2 p3
      ((Zqv h ht hi').imp (fun⟨h1,h2⟩=>⟨by simp[h1],h2⟩) fun⟨y,k,h1,h2⟩=>⟨k,by simp[h1,h2]⟩)
      ((Zqv h ht hj').imp (fun⟨h1,h2⟩=>⟨by simp[h1],h2⟩) fun⟨y,k,h1,h2⟩=>⟨k,by simp[h1,h2]⟩) w
     have hx:a.eval x= .slice a0 l.length cap:=h1;have hrun: (execOp a.eval o).run P w= .ok (.value (.slice (if cap=i.toNat then a0 else a0.map (·.add (i.toNat*t2.size))) (j.toNat-i.toNat) (cap-i.toNat))) w:=by
      simp only[execOp,ho,hx,Sem.run_bind,Instr.sliceAt,run_underlying (hτ _ _ hT).slice.1,Result.andThen_ok,Instr.slice,Option.map_none,hb,(hτ _ _ ht2).sizeOf w,Sem.run_pure]
     unfold Oper.wp;rw[hrun];refine hK _ X' F' [] w hX h3 ⟨[_],rfl,?_⟩ (by simp) ⟨fun _=>Old.refl w,h.kept (Old.refl w)⟩;unfold rdF;obtain⟨pre,mid,post,m1,m2,m3,m4⟩:=Qx9 (sz:=t2.size) (i:=i.toNat) (j:=j.toNat) (fun x v S h=>⟨Xv h,Zfg h⟩) (by omega) (by omega) k2;have hlen2: ((l.drop i.toNat).take (j.toNat-i.toNat)).length=j.toNat-i.toNat:=by simp;omega
     refine⟨_,mid,[],[],rfl,rfl,⟨rfl,by rw[m4,hlen2],_,_,by rw[hlen2],by rw[hlen2];omega,by omega,?_⟩,m3⟩;rcases hc with⟨rfl,hl0,rfl⟩| ⟨ad,rfl,hb2,hc⟩
     ·refine .inl ⟨by split<;>rfl,by rw[hlen2];omega,by omega⟩
     ·by_cases hci:cap=i.toNat
      ·refine .inr ⟨ad,by simp[hci],.inl (by rw[hlen2];omega),fun q u hq=> ?_⟩;have hz0:j.toNat-i.toNat=0:=by omega
       have:mid=[]:=List.eq_nil_of_length_eq_zero (by rw[m4,hz0,Nat.zero_mul]);subst this;simp at hq
      ·refine .inr ⟨ad.add (i.toNat*t2.size),by simp[hci],?_,fun q u hq=> ?_⟩
       ·have: (ad.add (i.toNat*t2.size)).block=ad.block:=by unfold Addr.add;split<;>rfl
        rw[this];by_cases hz: ((l.drop i.toNat).take (j.toNat-i.toNat)).length=0
        ·exact .inl hz
        ·exact .inr (hb2.resolve_left (by rw[hlen2]at hz;omega))
       ·rw[Addr.add_add',<-m2];apply hc;rw[m1,List.getElem?_append_right (by omega),show pre.length+q-pre.length=q from by omega,List.getElem?_append_left (List.getElem?_eq_some_iff.1 hq).1];exact hq
    ·cases hr
   ·cases hr
  ·cases hr
 ·cases hr
end
end Go.Am
namespace Go.Am
open Go.RowKit
section
variable {P:Program} {g:Kr} {W0:Wz g} {w w':World} {X X':Nat->Prop} {B n:Nat} {own:Bool} {s:St} {F:Key->List Nat} {a:Act} {H H':List Nat} {o:Oper} {tg:Xi} {τ:Tab} {gh:Nat->Value}
theorem R.sub(h:R n W0 w X F H s a)(hin: ∀b∈H',b∈H)(hn:H'.Nodup):R n W0 w X F H' s a:=
 {h with
  hown:=fun b hb=>h.hown b (hin b hb)
  hnodup:=hn
  hdisj:=fun k b hb hh=>h.hdisj k b hb (hin b hh)}
theorem hold(w:World)(ob:Obj)(b:Nat)(h:b<w.heap.size): (w.alloc ob).heap[b]? =w.heap[b]? :=by
 show(w.heap.push ob)[b]? =w.heap[b]?;rw[Array.getElem?_push,if_neg (Nat.ne_of_lt h)]
theorem Qcc(w:World)(ob:Obj): (w.alloc ob).heap[w.heap.size]? =some ob:=by
 show(w.heap.push ob)[w.heap.size]? =_;simp
theorem R.alloc(h:R n W0 w X F H s a)(ob:Obj):R n W0 (w.alloc ob) X F (w.heap.size::H) s a:=by
 have old: ∀b,b<w.heap.size->(w.alloc ob).heap[b]? =w.heap[b]? :=fun b hb=>hold w ob b hb;have h1:=h.world (w':=w.alloc ob) (h.below.step ((Below.refl _ w).alloc (Nat.le_refl _) ob)) (by simp) (fun b hb=>old b (h.xlt b hb)) (fun k b hb=>old b (h.own k b hb).2.1);exact h1.hand (S:=[w.heap.size]) (by
   intro b hb;simp only[List.mem_singleton]at hb;subst hb;exact⟨h.below.new,by simp,fun hx=>Nat.lt_irrefl _ (h.xlt _ hx)⟩) (by simp)
  (by intro k b hb hm;simp only[List.mem_singleton]at hm;subst hm;exact Nat.lt_irrefl _ (h.own k _ hb).2.1)
  (by intro b hb hm;simp only[List.mem_singleton]at hb;subst hb;exact Nat.lt_irrefl _ (h.hown _ hm).2.1)
theorem Q1l{T:Ty}{f:Fl}{x:T.den}{vs:List Value}{S:List Nat}(h:rdF w X B T f x vs S)(hX: ∀b,X b->b<w.heap.size)(hS: ∀b∈S,b<w.heap.size)(ob:Obj):rdF (w.alloc ob) X B T f x vs S:=
 Zpt (fun _ h=>h) (fun b hb=>hold w ob b (hX b hb)) h (fun b hb=>hold w ob b (hS b hb))
theorem Qys{T:Ty}(h:T.plain=true): ∀u∈Jy T,u.oneCell'=true:=Zjf (w:=default) (X:=fun _=>False) (B:=0) (own:=false) (Zrh h)
theorem Zqu{T:Ty}(h:T.plain=true): (Jy T).length=T.size:=Xv (w:=default) (X:=fun _=>False) (B:=0) (own:=false) (Zrh h)
theorem Qdr{T:Ty}{vs:List Value}(h1: ∀u∈vs,u.oneCell'=true)(hl:vs.length=T.size): (Xt T vs).cells=vs.toArray:=by
 apply Array.toList_inj.mp;rw[Zza h1 hl]
theorem Zxl{T:Ty}(h:T.plain=true): (Xt T (Jy T)).cells=(Jy T).toArray:=Qdr (Qys h) (Zqu h)
def Z8d(s:St)(x:Operand)(i:Nat):Option Res:=
 match x with
 | .tmp t=>match Nat.blt t 1048576 with
  |false=>none
  |true=>match s.get (.c t i)with
   | .val T f y=>match f.live,Zmu f T with
    |true,true=>some ⟨.val T f y,s,false,none⟩
    |true,false=>some ⟨.val T f y,{s with env:=(.c t i,.junk)::s.env},true,none⟩
    |_,_=>none
   |_=>none
 |_=>none
theorem Qlu{t i:Nat}{u:Tm}{S0:List Nat}{v:Value}{S:List Nat}: ∀{z:Tm},vt gh w X B s F a v S z->vt gh w X B {s with env:=(.c t i,u)::s.env} (Qd F (.c t i) S0) a v S z:=by
 have g: ∀r,St.get {s with env:=(Key.c t i,u)::s.env} (.m r)=s.get (.m r):=fun r=>by simp[St.get,Z1]
 have fk: ∀r,Qd F (.c t i) S0 (.m r)=F (.m r):=fun r=>by simp[Qd]
 have va: ∀{r p v U},Xb gh w s F a r p v U->Xb gh w {s with env:=(Key.c t i,u)::s.env} (Qd F (.c t i) S0) a r p v U:=by
  intro r p v U h;unfold Xb at*
  rw[g,fk];exact h
 intro z h
 induction z with
 |junk=>exact h
 |tup=>exact h
 |val T f x=>exact h
 |box e T f x=>exact h
 |shp T x=>exact h
 |ptr r p=>
  obtain⟨h0,e,T,f,x,b,S',h1,h2,h3⟩:=h;exact⟨h0,e,T,f,x,b,S',by rw[g];exact h1,by rw[fk];exact h2,h3⟩
 |aep r p i=>
  obtain⟨h0,e,T,f,x,b,S',n,t',y,h1,h2,h3⟩:=h;exact⟨h0,e,T,f,x,b,S',n,t',y,by rw[g];exact h1,by rw[fk];exact h2,h3⟩
 |bor r p=>exact⟨h.1,fun hc=>let⟨U,hU⟩:=h.2 hc;⟨U,va hU⟩⟩
 |elp r p i q=>exact⟨h.1,fun hc=>let⟨e,t,ad,nn,cap,hU,rest⟩:=h.2 hc;⟨e,t,ad,nn,cap,va hU,rest⟩⟩
 |pls hh l=>
  refine⟨h.1,Zqp (fun _ h=>h) (fun _ _=>rfl) (fun r p v ha=> ?_) h.2⟩;obtain⟨e,T,f,x,b,S',h1,h2,h3⟩:=ha;exact⟨e,T,f,x,b,S',by rw[g];exact h1,by rw[fk];exact h2,h3⟩
 |bel r p i q=>exact⟨h.1,fun hc he=>let⟨e,t,ad,nn,cap,x0,y,cs,hU,k1,k2,k3,rest⟩:=h.2 hc he;⟨e,t,ad,nn,cap,x0,y,cs,va hU,k1,k2,by rw[fk];exact k3,rest⟩⟩
 |cl f l=>
  refine⟨h.1,Z1t (fun r p v ha=> ?_) h.2⟩;obtain⟨e,T,f,x,b,S',h1,h2,h3⟩:=ha;exact⟨e,T,f,x,b,S',by rw[g];exact h1,by rw[fk];exact h2,h3⟩
 |gd gk want t ih=>exact fun hc=>let⟨h0,h1,h2⟩:=h hc;⟨by rw[g];exact h0,fun hb=>ih (h1 hb),h2⟩
theorem R.takeC(h:R n W0 w X F H s a){t i:Nat}:R n W0 w X (Qd F (.c t i) []) (F (.c t i)++H) {s with env:=(.c t i,.junk)::s.env} a where
 size:=h.size
 defers:=h.defers
 below:=h.below
 glob:=h.glob
 gx:=h.gx
 xs:=h.xs
 fix:=h.fix
 xlt:=h.xlt
 xin:=h.xin
 x0:=h.x0
 own:=fun k b hb=>by
  simp only[Qd]at hb;split at hb
  ·cases hb
  ·exact h.own k b hb
 nodup:=fun k=>by
  simp only[Qd];split
  ·simp
  ·exact h.nodup k
 disj:=fun k k' b hb hb'=>by
  simp only[Qd]at hb hb';split at hb
  ·cases hb
  ·split at hb'
   ·cases hb'
   ·exact h.disj k k' b hb hb'
 hown:=fun b hb=>(List.mem_append.1 hb).elim (h.own _ b) (h.hown b)
 hnodup:=List.nodup_append.2 ⟨h.nodup _,h.hnodup,fun x hx y hy e=>h.hdisj _ x hx (by rw[e];exact hy)⟩
 hdisj:=fun k b hb hh=>by
  simp only[Qd]at hb;split at hb
  ·cases hb
  ·rename_i hk;exact(List.mem_append.1 hh).elim (fun hh=>hk (h.disj _ _ b hb hh)) (h.hdisj k b hb)
 comps:=fun d j hc=>by
  simp only[St.get,Z1]at hc⊢;split at hc
  ·exact absurd rfl hc
  ·simpa[St.get]using h.comps d j hc
 slots:=fun k=>by
  by_cases hk:k= .c t i
  ·subst hk;simp[St.get,Z1,vt,Qd]
  ·have e1:St.get {s with env:=(Key.c t i,Tm.junk)::s.env} k=s.get k:=by simp[St.get,Z1,Ne.symm hk]
   have e2:Qd F (.c t i) [] k=F k:=by simp[Qd,hk]
   rw[e1,e2];exact Qlu (h.slots k)
theorem Qf7(h:R n W0 w X F H s a){x:Operand}{i:Nat}(ho:o.op= .extract x i){r:Res}(hr:Z8d s x i=some r):Zo2 P n W0 w X H s a o r:=by
 unfold Z8d at hr;split at hr
 ·rename_i t;split at hr
  ·cases hr
  rename_i hbt;split at hr
  ·rename_i T f y hg;have hs:=h.slots (.c t i);rw[hg]at hs;obtain⟨vs,h1,h2⟩:=hs;obtain⟨_,us,hu,hi⟩:=h.comps t i (by rw[hg];simp);have hv:us[i]? =some (Qk W0.gh a (.c t i)):=by
    have hu':Zkz W0.gh a t= .tuple us:=hu;simp[Qk,hu',Array.getD_eq_getD_getElem?,hi]
   have hrun: (execOp a.eval o).run P w= .ok (.value (Qk W0.gh a (.c t i))) w:=by
    have:a.eval (.tmp t)= .tuple us:=(Yh W0 a hbt).symm.trans hu;simp[execOp,ho,this,Instr.extract,hv]
   split at hr
   ·rename_i hn;simp only[Osi]at hr;subst hr;have:=Zh5 hn h2;rw[this]at h2;exact Zok h rfl fun _=>⟨_,hrun,vs,h1,h2⟩
   ·simp only[Osi]at hr;subst hr;intro _ K Q hK;unfold Oper.wp;rw[hrun];exact hK _ X _ (F (.c t i)) w (fun _ h=>h) h.takeC ⟨vs,h1,h2⟩ (by simp) ⟨fun _=>Old.refl w,h.kept (Old.refl w)⟩
   ·cases hr
  ·cases hr
 ·cases hr
def Qlz(τ:Tab)(s:St)(e:TypeId):Option Res:=
 match τ e with
 |some T=>some ⟨.box e T (.u true) (zero T),s,false,none⟩
 |none=>none
theorem Ql0(h:R n W0 w X F H s a)(hτ:τ.ok P){e:TypeId}(ho:o.op= .alloc e){r:Res}(hr:Qlz τ s e=some r):Zo2 P n W0 w X H s a o r:=by
 unfold Qlz at hr;split at hr
 ·rename_i T hT;simp only[Osi]at hr;subst hr;intro _ K Q hK;obtain⟨i,hi,_,_,hz⟩:=(hτ _ _ hT).size;have hrun: (execOp a.eval o).run P w= .ok (.value (.pointer (some ⟨w.heap.size,0,none⟩))) (w.alloc (.cells (Jy T).toArray e)):=by
   simp[execOp,ho,Instr.alloc,zeroValue,typeInfo,hi,hz,newVar,newRow,Zxl (hτ _ _ hT).plain]
  unfold Oper.wp;rw[hrun];exact hK _ X F [w.heap.size] _ (fun _ h=>h) (h.alloc _) ⟨w.heap.size,_,[],rfl,rfl,Qcc _ _,by unfold rdF;exact Zrh (hτ _ _ hT).plain⟩ (fun _=>rfl) ⟨fun _=>Old.alloc _ _,h.kept (Old.alloc _ _)⟩
 ·cases hr
def Qw4(τ:Tab)(s:St)(tg:Xi)(e:TypeId)(x:Operand):Option Res:=
 match τ e with
 |some T=>match Zr1 s (op1 s tg x) T with
  |some t=>some ⟨.box e t.T t.f t.x,t.s,t.moved,none⟩
  |none=>none
 |none=>none
theorem Qsr(h:R n W0 w X F H s a)(ht:tg.ok W0.gh a){e:TypeId}{x:Operand}(ho:o.op= .box e x){r:Res}(hr:Qw4 τ s tg e x=some r):Zo2 P n W0 w X H s a o r:=by
 unfold Qw4 at hr;split at hr
 ·rename_i T hT;split at hr
  ·rename_i t hk;simp only[Osi]at hr;subst hr;obtain⟨_,F',S,vs,h1,h2,h3,h4,_⟩:=Zav h ht hk;intro _ K Q hK;have hc: (a.eval x).cells=vs.toArray:=by
    rw[h1,Qdr (Zg3 h2) (Xx h2)]
   have hrun: (execOp a.eval o).run P w= .ok (.value (.pointer (some ⟨w.heap.size,0,none⟩))) (w.alloc (.cells vs.toArray e)):=by
    simp[execOp,ho,Instr.box,newVar,newRow,hc]
   unfold Oper.wp;rw[hrun];refine hK _ X F' (w.heap.size::S) _ (fun _ h=>h) (h3.alloc _) ⟨w.heap.size,_,S,rfl,rfl,Qcc _ _,?_⟩ (fun hm=>(h4 hm).1) ⟨fun _=>Old.alloc _ _,h.kept (Old.alloc _ _)⟩;exact Q1l h2 h.xlt (fun b hb=>(h3.hown b (by simp[hb])).2.1) _
  ·cases hr
 ·cases hr
theorem Qrf(off:Nat): ∀(ls:List Value) (k:Nat) (arr:Array Value) (A M C:List Value),arr.toList=A++ (M++C)->A.length=off+k->M.length=ls.length->
  ((ls.zipIdx k).foldl (fun cs (x:Value×Nat)=>cs.setIfInBounds (off+x.2) x.1) arr).toList=A++ (ls++C)
 | [],k,arr,A,M,C,h,_,hM=>by
  have:M=[]:=List.eq_nil_of_length_eq_zero (by simpa using hM);subst this;simpa using h
 |v::ls,k,arr,A,M,C,h,hA,hM=>by
  cases M with
  |nil=>simp at hM
  |cons m M=>
   simp only[List.zipIdx_cons,List.foldl_cons];have:=Qrf off ls (k+1) (arr.setIfInBounds (off+k) v) (A++ [v]) M C (by
    rw[Array.toList_setIfInBounds,h,<-hA,List.set_append_right _ _ (Nat.le_refl _)];simp) (by simp[hA];omega) (by simpa using hM)
   rw[this];simp
theorem Z4f{place:Nat->Option (Nat×Nat)}{cs:Array Value}{i off size:Nat}{v:Value}{rest:List (Nat×Value)}{pre mid post:List Value}(hp:place i=some (off,size))
  (hcs:cs.toList=pre++ (mid++post)) (hoff:pre.length=off) (hmid:mid.length=size) (hv:v.cells.size=size):
  ∃cs',cs'.toList=pre++ (v.cells.toList++post)/\Instr.fill place cs ((i,v)::rest)=Instr.fill place cs' rest:=by
 have hsz:cs.size=pre.length+ (mid.length+post.length):=by rw[<-Array.length_toList,hcs];simp
 refine⟨v.cells.zipIdx.foldl (fun cs (x:Value×Nat)=>cs.setIfInBounds (off+x.2) x.1) cs,?_,?_⟩
 ·have:=Qrf off v.cells.toList 0 cs pre mid post hcs (by omega) (by rw[hmid,Array.length_toList,hv]);rw[<-this];congr 1;rw[<-Array.foldl_toList];simp
 ·have h1: ¬(v.cells.size≠size||off+v.cells.size>cs.size)=true:=by
   simp[hv];omega
  simp only[Instr.fill,hp];rw[if_neg h1]
def Zu6(tg:Xi):List (Nat×Operand)->(T:Ty)->Fl->T.den->St->Bool->Option (Fl×T.den×St×Bool)
 | [],_,f,x,s,mv=>some (f,x,s,mv)
 | (i,y)::r,T,f,x,s,mv=>match Zwt T i with
  |some U=>match Zr1 s (op1 s tg y) U with
   |some t=>match Zsq T x i ⟨t.T,t.x⟩with
    |some x'=>Zu6 tg r T (Zo1 f i t.f) x' t.s (mv||t.moved)
    |none=>none
   |none=>none
  |none=>none
theorem Z6r(ht:tg.ok W0.gh a){place:Nat->Option (Nat×Nat)}: ∀{parts:List (Nat×Operand)} {T:Ty} {f:Fl} {x:T.den} {s:St} {mv:Bool} {f':Fl} {x':T.den} {s':St} {mv':Bool} {F:Key->List Nat} {S:List Nat} {cs:Array Value},
  (∀i U,Zwt T i=some U->place i=some (Zd8 T i,U.size))->R n W0 w X F (S++H) s a->rdF w X W0.B T f x cs.toList S->Zu6 tg parts T f x s mv=some (f',x',s',mv')->
  ∃F' S' cs',Instr.fill place cs (parts.map fun p=>(p.1,a.eval p.2))=some cs'/\R n W0 w X F' (S'++H) s' a/\rdF w X W0.B T f' x' cs'.toList S'/\(mv'=false->s'=s)
 | [],T,f,x,s,mv,f',x',s',mv',F,S,cs,_,hR,hrd,hb=>by
  simp only[Zu6,Osi,Opi]at hb;obtain⟨rfl,rfl,rfl,rfl⟩:=hb;exact⟨F,S,cs,rfl,hR,hrd,fun _=>rfl⟩
 | (i,y)::r,T,f,x,s,mv,f',x',s',mv',F,S,cs,hpl,hR,hrd,hb=>by
  simp only[Zu6]at hb;split at hb
  ·rename_i U hU;split at hb
   ·rename_i t hk;split at hb
    ·rename_i x1 hset;obtain⟨hTU,F1,Sn,vs,h1,h2,h3,h4,_⟩:=Zav hR ht hk;subst hTU;obtain⟨z,hz⟩:=Q3f (x:=x) hU;obtain⟨pre,mid,post,S1,S2,S3,m1,m2,m3,m4,m5⟩:=Qlo hz hrd;have hcells:=Zza (Zg3 h2) (Xx h2);have hcsz: (a.eval y).cells.size=t.T.size:=by rw[h1,<-Array.length_toList,hcells,Xx h2]
     obtain⟨cs1,g1,g2⟩:=Z4f (rest:=r.map fun p=>(p.1,a.eval p.2)) (hpl i _ hU) m1 m3 (Xx m4) hcsz;rw[h1,hcells]at g1;have Qcc:=m5 t.f ⟨t.T,t.x⟩ vs Sn x1 hset h2;rw[<-g1]at Qcc;have hR1:R n W0 w X F1 ((S1++ (Sn++S3))++H) t.s a:=by
      refine h3.sub ?_ ?_
      ·intro b hb;rw[m2];simp only[List.mem_append]at hb⊢;rcases hb with(hb|hb|hb)|hb<;>simp[hb]
      ·have:=h3.hnodup;rw[m2]at this;simp only[List.nodup_append,List.mem_append]at this⊢
       grind
     obtain⟨F',S',cs',k1,k2,k3,k4⟩:=Z6r ht hpl hR1 Qcc hb;refine⟨F',S',cs',by simpa[g2]using k1,k2,k3,fun hm=> ?_⟩;have hmv: (mv||t.moved)=false:=by
      have mono: ∀{r:List (Nat×Operand)} {T:Ty} {f:Fl} {x:T.den} {s:St} {mv:Bool} {f' x' s' mv'},Zu6 tg r T f x s mv=some (f',x',s',mv')->mv'=false->mv=false:=by
       intro r
       induction r with
       |nil=>intro T f x s mv f' x' s' mv' h hm;simp only[Zu6,Osi,Opi]at h;rw[h.2.2.2];exact hm
       |cons p r ih=>
        intro T f x s mv f' x' s' mv' h hm;simp only[Zu6]at h;split at h
        ·split at h
         ·split at h
          ·have:=ih h hm;simp at this;exact this.1
          ·cases h
         ·cases h
        ·cases h
      exact mono hb hm
     simp only[Bool.or_eq_false_iff]at hmv;exact(k4 hm).trans (h4 hmv.2).1
    ·cases hb
   ·cases hb
  ·cases hb
def Qmb(τ:Tab)(s:St)(tg:Xi)(e:TypeId)(parts:Array (Nat×Operand)):Option Res:=
 match τ e with
 |some T=>match T.isStruct with
  |true=>match Zu6 tg parts.toList T (.u true) (zero T) s false with
   |some (f,x,s',mv)=>some ⟨.val T f x,s',mv,none⟩
   |none=>none
  |false=>none
 |none=>none
theorem Qvu{fs:List Field}{w:World}: ∀{T:Ty} {off:Nat},Zku P fs T off=true->
  ∃ps:List (Nat×Nat),(fs.mapM fun f=>(Prod.mk f.offset<$>Go.sizeOf f.type:Sem (Nat×Nat))).run P w= .ok ps w/\ ∀i U,Zwt T i=some U->ps[i]? =some (off+Zd8 T i,U.size):=by
 induction fs with
 |nil=>
  intro T off h;cases T<;>simp[Zku]at h
  exact⟨[],by simp,fun i U hU=>by simp[Zwt]at hU⟩
 |cons f fs ih=>
  intro T off h;cases T<;>simp only[Zku]at h<;>first|cases h|skip
  rename_i a b;simp only[Oba,Nat.blt_eq]at h;obtain⟨⟨⟨h1,h2⟩,h3⟩,h4⟩:=h;obtain⟨ps,g1,g2⟩:=ih h4;obtain⟨j,hj,hjs,_⟩:=Zln h2;refine⟨(f.offset,j.size)::ps,?_,?_⟩
  ·have g1':=g1;simp[Go.sizeOf,typeInfo,hj]at g1'⊢;rw[g1'];rfl
  ·intro i U hU;cases i with
   |zero=>simp only[Zwt,Osi]at hU;subst hU;simp[Zd8,Onb h1,hjs]
   |succ i=>simp only[Zwt]at hU;rw[List.getElem?_cons_succ,g2 i U hU];simp[Zd8];omega
theorem Qmc(h:R n W0 w X F H s a)(ht:tg.ok W0.gh a)(hτ:τ.ok P){e:TypeId}{parts:Array (Nat×Operand)}(ho:o.op= .build e parts){r:Res}(hr:Qmb τ s tg e parts=some r):Zo2 P n W0 w X H s a o r:=by
 unfold Qmb at hr;split at hr
 ·rename_i T hT;split at hr
  ·rename_i hst;split at hr
   ·rename_i f x s' mv hb;simp only[Osi]at hr;subst hr;obtain⟨fs,hu,hfs⟩:=(hτ _ _ hT).struct hst;obtain⟨i,hi,_,_,hz⟩:=(hτ _ _ hT).size;obtain⟨ps,g1,g2⟩:=Qvu (P:=P) (w:=w) hfs;have hz0:rdF w X W0.B T (.u true) (zero T) (Jy T).toArray.toList []:=by unfold rdF;exact Zrh (hτ _ _ hT).plain
    obtain⟨F',S',cs',k1,k2,k3,k4⟩:=Z6r (H:=H) (S:=[]) ht (place:=(ps.toArray[·]?)) (fun i U hU=>by have:=g2 i U hU;simpa using this) (by simpa using h) hz0 hb;intro _ K Q hK;have hmap: (fs.mapM fun f=>(Prod.mk f.offset<$>Go.sizeOf f.type:Sem (Nat×Nat))).run P w= .ok ps.toArray w:=by
     rw[Array.mapM_eq_mapM_toList,Sem.run_map,g1];rfl
    have hrun: (execOp a.eval o).run P w= .ok (.value (.agg cs')) w:=by
     simp only[execOp,ho,Sem.run_bind,Instr.build,zeroValue,typeInfo,Sem.run_pure,run_underlying hu,Result.andThen_ok];simp[hi,hz,Zxl (hτ _ _ hT).plain];rw[hmap];simp only[List.getElem?_toArray]at k1;simp[k1]
    unfold Oper.wp;rw[hrun];refine hK _ X F' S' w (fun _ h=>h) k2 ⟨cs'.toList,?_,k3⟩ k4 ⟨fun _=>Old.refl w,h.kept (Old.refl w)⟩;cases T<;>simp[Ty.isStruct]at hst<;>simp[Xt]
   ·cases hr
  ·cases hr
 ·cases hr
end
end Go.Am
namespace Go.Am
open Go.RowKit
section
variable {P:Program} {g:Kr} {W0:Wz g} {w w':World} {X X':Nat->Prop} {B n:Nat} {own:Bool} {s:St} {F:Key->List Nat} {a:Act} {H H':List Nat} {o:Oper} {tg:Xi} {τ:Tab} {gh:Nat->Value}
theorem Qre: ∀{T:Ty} {x:T.den} {i:Nat} {y:TV},fld T x i=some y->Zd8 T i+y.1.size<=T.size
 | .pair a b,x,0,y,h=>by simp only[fld,Osi]at h;subst h;simp[Zd8,Ty.size]
 | .pair a b,x,i+1,y,h=>by
  simp only[fld]at h;have:=Qre h;simp only[Zd8,Ty.size];omega
theorem Qf8: ∀{T:Ty} {x:T.den} {i j:Nat} {u v:TV},fld T x i=some u->fld T x j=some v->i<j->Zd8 T i+u.1.size<=Zd8 T j
 | .pair a b,x,0,j+1,u,v,h,_,_=>by simp only[fld,Osi]at h;subst h;simp[Zd8]
 | .pair a b,x,i+1,j+1,u,v,h,h',hl=>by
  simp only[fld]at h h';have:=Qf8 h h' (by omega);simp only[Zd8];omega
theorem Qt0: ∀{p:List Nat} {T:Ty} {x:T.den} {y:TV},Zc9 T x p=some y->J3 T p+y.1.size<=T.size
 | [],T,x,y,h=>by simp only[Zc9,Osi]at h;subst h;simp[J3]
 |i::p,T,x,y,h=>by
  simp only[Zc9]at h;split at h
  ·rename_i z hz;have h1:=Qt0 h;have h2:=Qre hz;simp only[J3,Z4h hz];omega
  ·cases h
theorem Qsc: ∀{T:Ty} {x x':T.den} {i j:Nat} {y:TV},Zsq T x i y=some x'->j≠i->fld T x' j=fld T x j
 | .pair a b,x,x',0,j,y,h,hj=>by
  simp only[Zsq,Option.map_eq_some_iff]at h;obtain⟨z,_,rfl⟩:=h;cases j with
  |zero=>exact absurd rfl hj
  |succ j=>rfl
 | .pair a b,x,x',i+1,j,y,h,hj=>by
  simp only[Zsq,Option.map_eq_some_iff]at h;obtain⟨z,hz,rfl⟩:=h;cases j with
  |zero=>rfl
  |succ j=>exact Qsc (T:=b) hz (by omega)
theorem Q61{T:Ty}{x x':T.den}{i j:Nat}{p q:List Nat}{y:TV}(h:Z57 T x (i::p) y=some x')(hj:j≠i):Zc9 T x' (j::q)=Zc9 T x (j::q):=by
 simp only[Z57]at h;split at h
 ·split at h
  ·simp only[Zc9,Qsc h hj]
  ·cases h
 ·cases h
theorem Qs0{α:Type}{pre mid vs post:List α}{k m:Nat}(hl:mid.length=vs.length)(hk:k+m<=pre.length\/pre.length+mid.length<=k): ((pre++ (vs++post)).drop k).take m=((pre++ (mid++post)).drop k).take m:=by
 apply List.ext_getElem?;intro t;rw[List.getElem?_take,List.getElem?_take];split
 ·rename_i ht;rw[List.getElem?_drop,List.getElem?_drop];rcases hk with hk|hk
  ·rw[List.getElem?_append_left (by omega),List.getElem?_append_left (by omega)]
  ·rw[List.getElem?_append_right (by omega),List.getElem?_append_right (by omega),List.getElem?_append_right (by omega),List.getElem?_append_right (by omega),hl]
 ·rfl
def Xbx(s:St)(r:Nat)(p:List Nat)(t:Tm):St:=
 match p with
 | []=>Y0 s r t
 |i::_=>Q7i s r i t
def Qd5(s:St)(r:Nat)(p:List Nat)(f:Fl)(y:TV):Option St:=
 match s.get (.m r)with
 | .box e U g z=>match Zc9 U z p with
  |some u=>match decide (u.1=y.1),Z57 U z p y with
   |true,some z'=>some (Xbx s r p (.box e U (Zou g p f) z'))
   |_,_=>none
  |none=>none
 |_=>none
theorem R.setRoot(h:R n W0 w X F H s a){r:Nat}{p:List Nat}{f:Fl}{y:TV}{s':St}(hs:Qd5 s r p f y=some s'){vs:List Value}{S:List Nat}(hH:H=S++H')
  (hv:rdF w X W0.B y.1 f y.2 vs S) {b:Nat} (hb: ∃S0,F (.m r)=b::S0) {e:TypeId} {U:Ty} {g:Fl} {z:U.den} (hg:s.get (.m r)= .box e U g z):
  ∃w' F',(storeCells ⟨b,J3 U p,none⟩ vs).run P w= .ok () w'/\R n W0 w' X F' H' s' a/\ ∀k,k≠b->w'.heap[k]? =w.heap[k]? :=by
 unfold Go.Am.Qd5 at hs;rw[hg]at hs;simp only at hs;split at hs
 ·rename_i u hu;split at hs
  ·rename_i z' hd hz;simp only[Osi]at hs;subst hs;have hsl:=h.slots (.m r);rw[hg]at hsl;obtain⟨b',c,S',l1,l2,l3,l4⟩:=hsl;obtain⟨S0,hF⟩:=hb;rw[hF]at l2;obtain⟨rfl,rfl⟩:=List.cons.inj l2;have hTy:u.1=y.1:=Ode hd;have hbF:b∈F (.m r):=by rw[hF];simp
   have hbS: ∀k b',k≠Key.m r->b'∈F k->b'≠b:=fun k b' hk hb' e=>hk (h.disj k (.m r) b' hb' (by rw[e];exact hbF));have hbH: ∀b'∈H,b'≠b:=fun b' hb' e=>h.hdisj (.m r) b hbF (by rw[<-e];exact hb');generalize hcc: (c.toList.take (J3 U p+0)++vs++c.toList.drop (J3 U p+0+vs.length)).toArray=cc;have other: ∀k,k≠b->(w.setRow b cc).heap[k]? =w.heap[k]? :=fun k hk=>setRow_other w b k _ hk;have l4':rdF (w.setRow b cc) X W0.B U g z c.toList S0:=
    Zpt (fun _ h=>h) (fun b' hb'=>other b' fun e=>(h.own _ b hbF).2.2 (by rw[<-e];exact hb')) l4
     (fun b' hb'=>other b' fun e=>by
      have:=h.nodup (.m r);rw[hF]at this;exact(List.nodup_cons.1 this).1 (by rw[<-e];exact hb'))
   have hv':rdF (w.setRow b cc) X W0.B y.1 f y.2 vs S:=
    Zpt (fun _ h=>h) (fun b' hb'=>other b' fun e=>(h.own _ b hbF).2.2 (by rw[<-e];exact hb')) hv (fun b' hb'=>other b' (hbH b' (by rw[hH];simp[hb'])))
   obtain⟨pre,mid,post,S1,S2,S3,m1,m2,m3,m4,m5⟩:=Zeg hu l4';have hlen:mid.length=vs.length:=by rw[Xx m4,Xx hv,hTy]
   have hcs:c.size=pre.length+ (mid.length+post.length):=by rw[<-Array.length_toList,m1];simp
   have hst:=run_storeCells_at P b (J3 U p) e vs 0 c w l3 (by omega) (Zg3 hv);rw[hcc]at hst;have e1:cc=(pre++ (vs++post)).toArray:=by
    rw[<-hcc,m1,<-m3];have:List.drop (pre.length+0+vs.length) (pre++ (mid++post))=post:=by
     rw[Nat.add_zero,<-hlen,<-List.append_assoc,List.drop_left' (by simp)]
    rw[this];simp
   have hnd:=h.nodup (.m r);rw[hF,m2]at hnd;have hbl:W0.below (w.setRow b cc):=
    ⟨h.below.os,h.below.tape,h.below.output,by simpa[World.setRow]using h.below.size,fun k hk=>(other k (W0.sep hk (h.own _ b hbF).1)).trans (h.below.block k hk)⟩
   refine⟨w.setRow b cc,Qd F (.m r) (b:: (S1++ (S++S3))),hst,?_,other⟩;have hT:Zzy W0.gh w (w.setRow b cc) s (Xbx s r p (.box e U (Zou g p f) z')) F (Qd F (.m r) (b:: (S1++ (S++S3)))) a r (.box e U (Zou g p f) z'):=by
    cases p with
    |nil=>exact Qh3
    |cons i p=>
     refine Qyn (by simp) fun j q v U' hj hv=> ?_;unfold Xb at hv⊢;rw[hg]at hv;rw[Qpo];simp only[if_true];obtain⟨b2,c2,S2',y2,k1,k2,k3,k4,k5⟩:=hv;rw[hF]at k1;obtain⟨rfl,_⟩:=List.cons.inj k1;rw[l3]at k2;simp only[Osi,Obj.cells.injEq]at k2;obtain⟨rfl,_⟩:=k2;refine⟨b,cc,S1++ (S++S3),y2,by simp[Qd],setRow_heap w b c _ e _ l3,by rw[Q61 hz hj];exact k3,k4,?_⟩;rw[k5,e1,m1];congr 1;have ho: ∀{u':TV},Zc9 U z (i::p)=some u'->J3 U (j::q)+y2.1.size<=J3 U (i::p)\/J3 U (i::p)+u'.1.size<=J3 U (j::q):=fun {u'} hu'=>by
      simp only[Zc9]at hu' k3;split at hu'
      ·rename_i a1 ha1;split at k3
       ·rename_i a2 ha2;have g1:=Qt0 hu';have g2:=Qt0 k3;simp only[J3,Z4h ha1,Z4h ha2];rcases Nat.lt_or_gt_of_ne hj with hlt|hlt
        ·have:=Qf8 ha2 ha1 hlt;omega
        ·have:=Qf8 ha1 ha2 hlt;omega
       ·cases k3
      ·cases hu'
     have hm:mid.length=u.1.size:=by rw[Xx m4]
     exact(Qs0 hlen (by rw[m3,hm];exact ho hu)).symm
   refine h.turn' hT hbl (by simp[World.setRow]) (fun b' hb'=>other b' fun e=>(h.own _ b hbF).2.2 (by rw[<-e];exact hb'))
    (fun k b' hk hb'=>other b' (hbS k b' hk hb')) ?_ ?_ (by rw[hg];simp) ?_ ⟨b,_,S1++ (S++S3),l1,rfl,setRow_heap w b c _ e _ l3,?_⟩
   ·intro q hq;rw[hF,m2,hH];simp only[List.mem_append,List.mem_cons]at hq⊢
    grind
   ·have hn:=h.hnodup;rw[hH]at hn;have hdis: ∀q,q∈b:: (S1++ (S2++S3))->q∉S++H':=fun q hq=>by rw[<-hH];exact h.hdisj (.m r) q (by rw[hF,m2];exact hq)
    simp only[List.nodup_append,List.nodup_cons,List.mem_append,List.mem_cons,List.cons_append]at hn hnd hdis⊢
    grind
   ·intro e2 T2 f2 x2 b2 S2' hb2 hF2;rw[hg]at hb2;cases hb2;rw[hF]at hF2;obtain⟨rfl,_⟩:=List.cons.inj hF2;exact⟨_,_,_,rfl,rfl⟩
   ·have:=m5 f y vs S z' hz hv';rw[e1];rw[e1]at this;simpa using this
  ·cases hs
 ·cases hs
def Fl.allU(b:Bool):Fl->Bool
 | .u c=>match b,c with|true,true=>true|false,false=>true|_,_=>false
 | .p f g=>f.allU b&&g.allU b
 | .d=>false
theorem Qdw{b:Bool}: ∀{T:Ty} {f:Fl} {x:T.den} {vs:List Value} {S:List Nat},f.allU b=true->rdF w X B T f x vs S->rd w X B b T x vs S
 |T,.d,_,_,_,h,_=>by simp[Fl.allU]at h
 |T,.u c,_,_,_,h,hr=>by
  unfold rdF at hr;have:c=b:=by cases b<;>cases c<;>simp[Fl.allU]at h<;>rfl
  rw[<-this];exact hr
 | .pair a b',.p f g,_,_,_,h,⟨v1,v2,S1,S2,e1,e2,h1,h2⟩=>by
  simp only[Fl.allU,Oba]at h;exact⟨v1,v2,S1,S2,e1,e2,Qdw h.1 h1,Qdw h.2 h2⟩
 | .slice e t,.p f g,_,_,_,h,hr=>by
  obtain⟨rfl,rfl,_⟩:=Zfz hr;cases b<;>simp[Fl.allU]at h
 | .unit,.p ..,_,_,_,_,h| .int _,.p ..,_,_,_,_,h| .bool,.p ..,_,_,_,_,h| .fnc _,.p ..,_,_,_,_,h| .str,.p ..,_,_,_,_,h| .err,.p ..,_,_,_,_,h| .hid _,.p ..,_,_,_,_,h| .sptr ..,.p ..,_,_,_,_,h| .clo ..,.p ..,_,_,_,_,h| .arr ..,.p ..,_,_,_,_,h=>by simp[rdF]at h
theorem Q1t{b:Bool}: ∀{f g:Fl} (i:Nat),f.allU b=true->g.allU b=true->(Zo1 f i g).allU b=true:=by
 intro f;have base: ∀(f g:Fl) (i:Nat),f.allU b=true->g.allU b=true->(∀a c,f≠ .p a c)->(Zo1 f i g).allU b=true:=by
  intro f g i hf hg hne
  induction i with
  |zero=>cases f<;>simp_all[Zo1,Fl.allU]
  |succ i ih=>cases f<;>simp_all[Zo1,Fl.allU]
 induction f with
 |u c=>intro g i hf hg;exact base _ _ _ hf hg (by simp)
 |d=>intro g i hf hg;exact base _ _ _ hf hg (by simp)
 |p x y ihx ihy=>
  intro g i hf hg;simp only[Fl.allU,Oba]at hf;cases i with
  |zero=>simp[Zo1,Fl.allU,hf.2,hg]
  |succ i=>simp[Zo1,Fl.allU,hf.1,ihy i hf.2 hg]
theorem Q0z{b:Bool}: ∀{f:Fl} (i:Nat),f.allU b=true->(Zs9 f i).allU b=true:=by
 intro f
 induction f with
 |u c=>intro i h;cases i<;>exact h
 |d=>intro i h;simp[Fl.allU]at h
 |p x y ihx ihy=>
  intro i h;simp only[Fl.allU,Oba]at h;cases i with
  |zero=>exact h.1
  |succ i=>exact ihy i h.2
theorem Qpe{b:Bool}: ∀{f g:Fl},f.allU b=true->g.allU b=true-> ∀p:List Nat,(Zou f p g).allU b=true
 |_,_,_,hg,[]=>hg
 |_,_,hf,hg,i::p=>Q1t i hf (Qpe (Q0z i hf) hg p)
theorem Qse{e:TypeId}{t:Ty}{l:List t.den}{v:Value}{S:List Nat}{g n' cap:Nat}{ad:Addr}(h:rd w X B true (.slice e t) l [v] S)(hv:v= .slice (some ad) n' cap)(hX: ¬X ad.block)(hnd:S.Nodup){j:Nat}(hj:j<l.length)
  {q:List Nat} {u:TV} (hu:Zc9 t l[j] q=some u) {y:TV} (hy:u.1=y.1) {z':t.den} (hz:Z57 t l[j] q y=some z') {vs:List Value} {Sy:List Nat} (hyv:rd w X B true y.1 y.2 vs Sy) (hndy: (S++Sy).Nodup) (hg:ad.block=g):
  ∃cc S',(storeCells (ad.add (j*t.size+J3 t q)) vs).run P w= .ok () (w.setRow g cc)/\g∈S/\(∀b,b≠g->(w.setRow g cc).heap[b]? =w.heap[b]?)/\rd (w.setRow g cc) X B true (.slice e t) (l.set j z') [v] S'/\S'.Nodup/\(∀b∈S',b∈S++Sy):=by
 obtain⟨v',xs,S1,S2,e1,e2,h1,h2⟩:=h;simp only[List.cons.injEq,and_true]at e1;subst e1;obtain⟨hown,hS1⟩:=h1;rcases hown.2 with⟨rfl,hl0⟩| ⟨g',cap',cur,hv',hB,hh,hnc,hcm,hcs,htk⟩
 ·cases hv
 ·rw[hv]at hv';simp only[Value.slice.injEq,Osi]at hv';obtain⟨rfl,rfl,rfl⟩:=hv';simp only at hg hX;subst hg;have hS:S1=[g']:=by rw[hS1,hv];rfl
  have hadd: (⟨g',0,none⟩:Addr).add (j*t.size+J3 t q)=⟨g',j*t.size+J3 t q,none⟩:=by unfold Addr.add;split<;>simp_all
  generalize hcc: (cur.toList.take (j*t.size+J3 t q+0)++vs++cur.toList.drop (j*t.size+J3 t q+0+vs.length)).toArray=cc;have other: ∀b,b≠g'->(w.setRow g' cc).heap[b]? =w.heap[b]? :=fun b hb=>setRow_other w g' b _ hb;have hgS2: ∀b∈S2,b≠g':=fun b hb e=>by
   rw[e2,hS]at hnd;simp only[List.cons_append,List.nil_append,List.nodup_cons]at hnd;exact hnd.1 (by rw[<-e];exact hb)
  have h2':Ww (rd (w.setRow g' cc) X B true t) l xs S2:=Kf h2 fun x v T _ hT hr=>
   Zcp (fun _ h=>h) (fun b hb=>other b fun e=>hX (by rw[<-e];exact hb)) hr fun b hb=>other b (hgS2 b (hT b hb))
  obtain⟨pre,mid,post,T1,T2,T3,m1,m2,m3,m4,m5,m6⟩:=Zpx (fun _ _ _ h=>Xv h) hj h2';have m4':rdF (w.setRow g' cc) X B t (.u true) l[j] mid T2:=by unfold rdF;exact m4
  obtain⟨pre',mid',post',U1,U2,U3,n1,n2,n3,n4,n5⟩:=Zeg hu m4';have hySy: ∀b∈Sy,b≠g':=fun b hb e=>by
   rw[e2,hS]at hndy;simp only[List.cons_append,List.nil_append,List.nodup_cons,List.mem_append]at hndy;exact hndy.1 (.inr (by rw[<-e];exact hb))
  have hyv':rd (w.setRow g' cc) X B true y.1 y.2 vs Sy:=Zcp (fun _ h=>h) (fun b hb=>other b fun e=>hX (by rw[<-e];exact hb)) hyv fun b hb=>other b (hySy b hb);have hy2:=n5 (.u true) y vs Sy z' hz (by unfold rdF;exact hyv');have hlen:mid'.length=vs.length:=by rw[Xx n4,Xv hyv,hy]
  have hxl:xs.length=l.length*t.size:=hown.1;have hcl:cur.toList=xs++cur.toList.drop (l.length*t.size):=by rw[<-htk];simp
  have hsz:j*t.size+J3 t q+0+vs.length<=cur.size:=by
   rw[<-Array.length_toList,hcl,m1,n1];simp only[List.length_append,m3,n3,hlen];omega
  have hst:=run_storeCells_at P g' (j*t.size+J3 t q) e vs 0 cur w hh hsz (Zjf hyv);rw[hcc]at hst;have hcl2:cur.toList=(pre++pre')++ (mid'++ (post'++ (post++cur.toList.drop (l.length*t.size)))):=by
   refine hcl.trans ?_;rw[m1,n1];simp
  have hpl: (pre++pre').length=j*t.size+J3 t q:=by simp[m3,n3]
  have hccl:cc=((pre++ (pre'++ (vs++post')++post))++cur.toList.drop (l.length*t.size)).toArray:=by
   rw[<-hcc];congr 1
   conv=>lhs;rw[hcl2]
   rw[Nat.add_zero,<-hpl,List.take_left,<-hlen,<-List.append_assoc (pre++pre') mid',List.drop_left' (by simp;omega)];simp
  have hmem: ∀b,b∈S1++ (T1++ ((U1++ (Sy++U3))++T3))->b∈S++Sy:=by
   intro b hb;rw[e2,m2,n2];simp only[List.mem_append]at hb⊢
   grind
  have hndn: (S1++ (T1++ ((U1++ (Sy++U3))++T3))).Nodup:=by
   rw[e2,m2,n2]at hndy;rw[List.nodup_iff_count]at hndy⊢;intro z;have:=hndy z;simp only[List.count_append]at this⊢;omega
  refine⟨cc,S1++ (T1++ ((U1++ (Sy++U3))++T3)),by rw[hadd];exact hst,by rw[e2,hS];simp,other,⟨v,pre++ (pre'++ (vs++post')++post),S1,_,rfl,rfl,?_,?_⟩,hndn,hmem⟩
  ·refine⟨⟨?_,.inr ⟨g',cap,cc,?_,hB,setRow_heap w g' cur _ e _ hh,by simpa using hnc,hcm,?_,?_⟩⟩,hS1⟩
   ·have: (pre++ (pre'++ (vs++post')++post)).length=xs.length:=by rw[m1,n1];simp[hlen]
    rw[this,hxl];simp
   ·rw[hv];simp
   ·rw[<-hcs,<-hcc];simp only[List.size_toArray,List.length_append,List.length_take,List.length_drop,Array.length_toList];omega
   ·rw[hccl];have: (pre++ (pre'++ (vs++post')++post)).length=(l.set j z').length*t.size:=by
     rw[List.length_set,<-hxl,m1,n1];simp[hlen]
    simp only[<-this,List.take_left]
  ·have e4:l.set j z'=l.take j++ (z'::l.drop (j+1)):=by rw[List.set_eq_take_append_cons_drop];simp[hj]
   rw[e4];exact Zlm m5 ⟨_,post,_,T3,rfl,rfl,Qdw (Qpe rfl rfl q) (by simpa using hy2),m6⟩
theorem Q1u: ∀(f:Fl) (i:Nat) (g g':Fl),Zo1 (Zo1 f i g) i g'=Zo1 f i g':=by
 intro f;have base: ∀(f g g':Fl) (i:Nat),(∀a c,f≠ .p a c)->Zo1 (Zo1 f i g) i g'=Zo1 f i g':=by
  intro f g g' i hne
  induction i with
  |zero=>cases f<;>simp_all[Zo1]
  |succ i ih=>cases f<;>simp_all[Zo1]
 induction f with
 |u c=>intro i g g';exact base _ _ _ _ (by simp)
 |d=>intro i g g';exact base _ _ _ _ (by simp)
 |p x y ihx ihy=>
  intro i g g';cases i with
  |zero=>simp[Zo1]
  |succ i=>simp[Zo1,ihy]
theorem Q00: ∀(f:Fl) (i:Nat) (g:Fl),Zs9 (Zo1 f i g) i=g:=by
 intro f;have base: ∀(f g:Fl) (i:Nat),(∀a c,f≠ .p a c)->Zs9 (Zo1 f i g) i=g:=by
  intro f g i hne
  induction i with
  |zero=>cases f<;>simp_all[Zo1,Zs9]
  |succ i ih=>cases f<;>simp_all[Zo1,Zs9]
 induction f with
 |u c=>intro i g;exact base _ _ _ (by simp)
 |d=>intro i g;exact base _ _ _ (by simp)
 |p x y ihx ihy=>
  intro i g;cases i with
  |zero=>simp[Zo1,Zs9]
  |succ i=>simp[Zo1,Zs9,ihy]
theorem Qi3: ∀(p:List Nat) (f g g':Fl),Zou (Zou f p g) p g'=Zou f p g'
 | [],_,_,_=>rfl
 |i::p,f,g,g'=>by simp only[Zou,Q00,Q1u,Qi3 p]
def Qlr(s:St)(r:Nat)(p:List Nat)(j:Int)(q:List Nat)(fy:Fl)(y:TV):Option St:=
 match s.bad r p with
 |true=>none
 |false=>match fy.allU true||y.1.flat with
  |false=>none
  |true=>match s.get (.m r)with
   | .val (.slice e t) (.u true) l=>match p,Zc9 t (l.getD j.toNat (zero t)) q with
    | [],some u=>match decide (u.1=y.1),Z57 t (l.getD j.toNat (zero t)) q y with
     |true,some z=>some (Zst s r (.val (.slice e t) (.u true) (l.set j.toNat z)))
     |_,_=>none
    |_,_=>none
   | .box e0 U f x=>match Zc9 U x p,Zjv f p with
    |some ⟨.slice e t,l⟩,.u true=>match Zc9 t (l.getD j.toNat (zero t)) q with
     |some u=>match decide (u.1=y.1),Z57 t (l.getD j.toNat (zero t)) q y with
      |true,some z=>match Z57 U x p ⟨.slice e t,l.set j.toNat z⟩with
       |some x'=>some (Zst s r (.box e0 U (Zou f p (.u true)) x'))
       |none=>none
      |_,_=>none
     |none=>none
    |_,_=>none
   |_=>none
theorem Qzf{α:Type}{l:List α}{i:Nat}{d:α}(h:i<l.length):l.getD i d=l[i]:=by
 rw[List.getD_eq_getElem?_getD,List.getElem?_eq_getElem h];rfl
theorem R.setElem{Sy:List Nat}(h:R n W0 w X F (Sy++H) s a){r:Nat}{p:List Nat}{j:Int}{q:List Nat}{fy:Fl}{y:TV}{s':St}(hs:Qlr s r p j q fy y=some s'){vs:List Value}(hv:rd w X W0.B true y.1 y.2 vs Sy)
  {ve:Value} (he:vt W0.gh w X W0.B s F a ve [] (.elp r p j q)):
  ∃ad w' F',ve= .pointer (some ad)/\(storeCells ad vs).run P w= .ok () w'/\R n W0 w' X F' H s' a/\ ∀b,(X b\/ ∃r,s.isBox r/\Qk W0.gh a (.m r)= .pointer (some ⟨b,0,none⟩))->w'.heap[b]? =w.heap[b]? :=by
 unfold Go.Am.Qlr at hs;split at hs
 ·cases hs
 ·rename_i hfoul;obtain⟨_,he⟩:=he;obtain⟨e0,t0,ad,n0,cap,hval,hj0,hj1,hve⟩:=he hfoul;split at hs
  ·cases hs
  ·rename_i hfl;have hsl:=h.slots (.m r);unfold Xb at hval;split at hs
   ·rename_i e t l hg;rw[hg]at hval hsl;obtain⟨rfl,hT,hvv⟩:=hval;cases hT;split at hs
    ·rename_i u hp hu;split at hs
     ·rename_i z hd hz;simp only[Osi]at hs;subst hs;obtain⟨us,k1,k2⟩:=hsl;unfold rdF at k2;have k3:=k2;obtain⟨v',xs,S1,S2,rfl,e2,h1,h2⟩:=k3;have hv':v'= .slice (some ad) n0 cap:=by rw[<-hvv]at k1;exact k1.symm
      have hn0:n0=l.length:=by
       obtain⟨a1,c1,g1,_⟩:=Zck h1;rw[hv']at g1;simp only[Value.slice.injEq]at g1;exact g1.2.1
      have hjl:j.toNat<l.length:=by omega
      rw[Qzf hjl]at hu hz;have hnd:=h.nodup (.m r);have hndy: (F (.m r)++Sy).Nodup:=List.nodup_append.2 ⟨hnd,(List.nodup_append.1 h.hnodup).1,fun x hx y hy e=>h.hdisj _ x hx (by rw[e];simp[hy])⟩;have hnX: ¬X ad.block:=by
       have hm:ad.block∈F (.m r):=by rw[e2,h1.2,hv'];simp[Value.ownBlock]
       exact(h.own _ _ hm).2.2
      obtain⟨cc,S9,g1,g2,g3,g4,g5,g6⟩:=Qse (P:=P) k2 hv' hnX hnd hjl hu (Ode hd) hz hv hndy rfl;have hbl:W0.below (w.setRow ad.block cc):=
       ⟨h.below.os,h.below.tape,h.below.output,by simpa[World.setRow]using h.below.size,fun k hk=>(g3 k (W0.sep hk (h.own _ _ g2).1)).trans (h.below.block k hk)⟩
      have hkept: ∀b,(X b\/ ∃r,s.isBox r/\Qk W0.gh a (.m r)= .pointer (some ⟨b,0,none⟩))->(w.setRow ad.block cc).heap[b]? =w.heap[b]? :=by
       intro b hb;refine g3 b fun e=> ?_;subst e;rcases hb with hb| ⟨r2,h1,h2⟩
       ·exact hnX hb
       ·obtain⟨S,h3⟩:=h.boxIn h1 h2;have:=h.disj (.m r2) (.m r) ad.block (by rw[h3];simp) g2;simp only[Key.m.injEq]at this;subst this;obtain⟨_,_,_,_,h1⟩:=h1;rw[hg]at h1;cases h1
      refine⟨_,w.setRow ad.block cc,Qd F (.m r) S9,hve,g1,?_,hkept⟩;refine h.turn' (S':=S9) (H':=H) (Zom ⟨?_,?_⟩) hbl (by simp[World.setRow]) (fun b hb=>g3 b fun e=>hnX (by rw[<-e];exact hb))
       (fun k b hk hb=>g3 b fun e=>hk (h.disj k (.m r) b hb (by rw[e];exact g2))) (fun b hb=> ?_) (List.nodup_append.2 ⟨g5,(List.nodup_append.1 h.hnodup).2.1,fun x hx y hy e=> ?_⟩)
       (by rw[hg];simp) (fun e T f x b S hb=>by rw[hg]at hb;cases hb) ⟨[v'],k1,by unfold rdF;exact g4⟩
      ·rw[Kg];simp
      ·intro p' v2 U2 hva;unfold Xb at hva⊢;rw[hg]at hva;rw[Kg];simpa using hva
      ·rcases List.mem_append.1 hb with hb|hb
       ·have:=g6 b hb;simp only[List.mem_append]at this⊢;rcases this with h'|h'
        ·exact .inl h'
        ·exact .inr (.inl h')
       ·simp[hb]
      ·subst e;have:=g6 x hx;rcases List.mem_append.1 this with h'|h'
       ·exact h.hdisj _ x h' (by simp[hy])
       ·exact(List.nodup_append.1 h.hnodup).2.2 x h' x hy rfl
     ·cases hs
    ·cases hs
   ·rename_i e1 U f x hg;rw[hg]at hval hsl;obtain⟨b,c,S,y',k1,k2,k3,k4,k5⟩:=hval;obtain⟨b',c',S',l1,l2,l3,l4⟩:=hsl;rw[k1]at l2;obtain⟨rfl,rfl⟩:=List.cons.inj l2;rw[k2]at l3;simp only[Osi,Obj.cells.injEq]at l3;obtain⟨rfl,_⟩:=l3;rw[k3]at hs;split at hs
    ·rename_i e t l hy' hf;simp only[Osi]at hy';subst hy';cases k4;split at hs
     ·rename_i u hu;split at hs
      ·rename_i z hd hz;split at hs
       ·rename_i x' hx';simp only[Osi]at hs;subst hs;obtain⟨pre,mid,post,S1,S2,S3,m1,m2,m3,m4,m5⟩:=Zeg k3 l4;have hmid:=Zx5 m1 m3 (Xx m4);rw[hmid]at k5;rw[hf]at m4;unfold rdF at m4;have m6:=m4;obtain⟨v',xs,T1,T2,rfl,e2,h1,h2⟩:=m6;have hv':v'= .slice (some ad) n0 cap:=k5.symm;have hn0:n0=l.length:=by
         obtain⟨a1,c1,g1,_⟩:=Zck h1;rw[hv']at g1;simp only[Value.slice.injEq]at g1;exact g1.2.1
        have hjl:j.toNat<l.length:=by omega
        rw[Qzf hjl]at hu hz;have hnd:=h.nodup (.m r);have hndy: (F (.m r)++Sy).Nodup:=List.nodup_append.2 ⟨hnd,(List.nodup_append.1 h.hnodup).1,fun x hx y hy e=>h.hdisj _ x hx (by rw[e];simp[hy])⟩;rw[k1,m2]at hnd hndy;have hmS2:ad.block∈S2:=by rw[e2,h1.2,hv'];simp[Value.ownBlock]
        have hmF:ad.block∈F (.m r):=by rw[k1,m2];simp[hmS2]
        have hnX: ¬X ad.block:=(h.own _ _ hmF).2.2;have hnd2:S2.Nodup:=by
         simp only[List.nodup_append,List.nodup_cons]at hnd
         grind
        have hndy2: (S2++Sy).Nodup:=by
         rw[List.nodup_iff_count]at hndy⊢;intro z;have:=hndy z;simp only[List.count_append,List.count_cons]at this⊢;omega
        obtain⟨cc,S9,g1,g2,g3,g4,g5,g6⟩:=Qse (P:=P) m4 hv' hnX hnd2 hjl hu (Ode hd) hz hv hndy2 rfl;have hbne:b≠ad.block:=fun e=>by
         rw[<-e]at hmS2;simp only[List.nodup_append,List.nodup_cons,List.mem_append]at hnd
         grind
        have hbl:W0.below (w.setRow ad.block cc):=
         ⟨h.below.os,h.below.tape,h.below.output,by simpa[World.setRow]using h.below.size,fun k hk=>(g3 k (W0.sep hk (h.own _ _ hmF).1)).trans (h.below.block k hk)⟩
        have hsub: ∀q,q∈S1\/q∈S3->q≠ad.block:=by
         intro q hq e;simp only[List.nodup_append,List.nodup_cons,List.mem_append]at hnd
         grind
        have hdead:rdF w X W0.B U (Zou f p .d) x c.toList (S1++ ([]++S3)):=by
         have:=m5 .d ⟨.slice e0 t0,l⟩ [v'] [] x (Qsd k3) (by unfold rdF;exact⟨rfl,Zjf m4,rfl⟩);rw[<-m1]at this;exact this
        have hdead':rdF (w.setRow ad.block cc) X W0.B U (Zou f p .d) x c.toList (S1++ ([]++S3)):=
         Zpt (fun _ h=>h) (fun b' hb'=>g3 b' fun e=>hnX (by rw[<-e];exact hb')) hdead (fun b' hb'=>g3 b' (hsub b' (by simpa using hb')))
        obtain⟨pre2,mid2,post2,S1',S2',S3',q1,q2,q3,q4,q5⟩:=Zeg k3 hdead';have hpre:pre2=pre/\post2=post:=by
         have e1:pre2.length=pre.length:=by rw[q3,m3]
         have e2:=q1.symm.trans m1;have e3:=List.append_inj e2 e1;have e4:mid2.length=[v'].length:=by rw[Xx q4];rfl
         exact⟨e3.1,(List.append_inj e3.2 e4).2⟩
        obtain⟨rfl,rfl⟩:=hpre;have hbox:=q5 (.u true) ⟨.slice e0 t0,l.set j.toNat z⟩ [v'] S9 x' hx' (by unfold rdF;exact g4);rw[<-m1,Qi3]at hbox;have q2': ∀z,S1'.count z+S3'.count z<=S1.count z+S3.count z:=fun z=>by
         have:=congrArg (List.count z) q2;simp only[List.count_append,List.count_nil]at this;omega
        have g6': ∀z,S9.count z<=S2.count z+Sy.count z:=fun z=>by
         have h1:=List.nodup_iff_count.1 g5 z;by_cases hz:z∈S9
         ·have:=List.count_pos_iff.2 (g6 z hz);simp only[List.count_append]at this;omega
         ·rw[List.count_eq_zero_of_not_mem hz];omega
        have hcF: ∀z,(F (.m r)).count z=(b:: (S1++ (S2++S3))).count z:=fun z=>by rw[k1,m2]
        have hall: ((b:: (S1'++ (S9++S3')))++H).Nodup:=by
         have hn0: (F (.m r)++ (Sy++H)).Nodup:=List.nodup_append.2 ⟨h.nodup _,h.hnodup,fun x hx y hy e=>h.hdisj _ x hx (by rw[e];exact hy)⟩;rw[List.nodup_iff_count]at hn0⊢;intro z;have h1:=hn0 z;have h2:=q2' z;have h3:=g6' z;have h4:=hcF z;simp only[List.count_append,List.count_cons]at h1 h4⊢;omega
        have hfin:=h.turn' (t:= .box e1 U (Zou f p (.u true)) x') (S':=b:: (S1'++ (S9++S3'))) (H':=H) (Zom ⟨?_,?_⟩) hbl (by simp[World.setRow]) (fun b hb=>g3 b fun e=>hnX (by rw[<-e];exact hb))
         (fun k b hk hb=>g3 b fun e=>hk (h.disj k (.m r) b hb (by rw[e];exact hmF))) (fun q hq=> ?_) hall
         (by rw[hg];simp) (fun e2 T2 f2 x2 b2 S2' hb2 hF2=>by
          rw[hg]at hb2;cases hb2;rw[k1]at hF2;obtain⟨rfl,_⟩:=List.cons.inj hF2;exact⟨_,_,_,rfl,rfl⟩) ⟨b,c,_,l1,rfl,by rw[g3 b hbne];exact k2,hbox⟩
        ·refine⟨_,_,_,hve,g1,hfin,fun b2 hb2=>g3 b2 fun e=> ?_⟩;rw[e]at hb2;rcases hb2 with hb2| ⟨r2,h1,h2⟩
         ·exact hnX hb2
         ·obtain⟨S,h3⟩:=h.boxIn h1 h2;have:=h.disj (.m r2) (.m r) ad.block (by rw[h3];simp) hmF;simp only[Key.m.injEq]at this;subst this;rw[k1]at h3;exact hbne (List.cons.inj h3).1
        ·rw[Kg];simp
        ·intro p' v2 U2 hva;unfold Xb at hva⊢;rw[hg]at hva;rw[Kg];simp only[if_true]at hva⊢;obtain⟨b3,c3,S3,y3,o1,o2,o3,o4,o5⟩:=hva;rw[k1]at o1;obtain⟨rfl,_⟩:=List.cons.inj o1;obtain⟨y4,o6,o7⟩:=Z4g (x':=x') o3;refine⟨b,c3,S1'++ (S9++S3'),y4,by simp[Qd],by rw[g3 b hbne];exact o2,o6,by rw[o7];exact o4,by rw[o7];exact o5⟩
        ·rw[<-List.count_pos_iff]at hq⊢;have h2:=q2' q;have h3:=g6' q;have h4:=hcF q;simp only[List.count_append,List.count_cons]at hq h4⊢;omega
       ·cases hs
      ·cases hs
     ·cases hs
    ·cases hs
   ·cases hs
def Qye(s:St)(r:Nat)(p:List Nat)(i:Int)(fy:Fl)(y:TV):Option St:=
 match s.get (.m r)with
 | .box e U f x=>match Zc9 U x p with
  |some ⟨.arr n t,l⟩=>match(Zjv f p).live,decide (y.1=t),t.flat,fy.live with
   |true,true,true,true=>match Km t y.1 y.2 with
    |some z=>match Z57 U x p ⟨.arr n t,l.set i.toNat z⟩with
     |some x'=>some (Y0 s r (.box e U (Zou f p (Zjv f p)) x'))
     |none=>none
    |none=>none
   |_,_,_,_=>none
  |_=>none
 |_=>none
theorem R.setArr(h:R n W0 w X F H s a){r:Nat}{p:List Nat}{i:Int}{fy:Fl}{y:TV}{s':St}(hs:Qye s r p i fy y=some s'){vs:List Value}{S:List Nat}(hv:rdF w X W0.B y.1 fy y.2 vs S)
  {ve:Value} (he:vt W0.gh w X W0.B s F a ve [] (.aep r p i)):
  ∃b ad w' F',ve= .pointer (some ad)/\(storeCells ad vs).run P w= .ok () w'/\R n W0 w' X F' H s' a/\b∈F (.m r)/\ ∀k,k≠b->w'.heap[k]? =w.heap[k]? :=by
 obtain⟨_,e0,U0,f0,x0,b,S0,m0,t0,l0,g1,g2,g3,g4,g5,g6⟩:=he;unfold Go.Am.Qye at hs;rw[g1]at hs;simp only[g3]at hs;split at hs
 ·rename_i hlive hd hfl hfy;split at hs
  ·rename_i z hz;split at hs
   ·rename_i x' hx';simp only[Osi]at hs;subst hs;have hyT:y.1=t0:=Ode hd;obtain⟨yT,yv⟩:=y;simp only at hyT;subst hyT;have hzz:yv=z:=by have:=Zbn hz;cases this;rfl
    subst hzz;have hsl:=h.slots (.m r);rw[g1]at hsl;obtain⟨b',c,S',l1,l2,l3,l4⟩:=hsl;rw[g2]at l2;obtain⟨rfl,rfl⟩:=List.cons.inj l2;have hbF:b∈F (.m r):=by rw[g2];simp
    obtain⟨pre,mid,post,S1,S2,S3,m1,m2,m3,m4,m5⟩:=Zeg g3 l4;have hfr:=Ko (X':=fun b=>X b\/b∈S2) (fun _ h=> .inl h) hlive m4 (fun _ h=> .inr h);obtain⟨hlen,hrows⟩:=hfr;have hlen:l0.length=m0:=hlen;have hil:i.toNat<l0.length:=by omega
    obtain⟨pre',mid',post',T1,T2,T3,n1,n2,n3,n4,n5,n6⟩:=Zpx (fun _ _ _ h=>Xv h) hil hrows;have hvl:vs.length=yT.size:=Xx hv;have hml:mid'.length=vs.length:=by rw[Xv n4,hvl]
    generalize hcc: (c.toList.take (J3 U0 p+i.toNat*yT.size+0)++vs++c.toList.drop (J3 U0 p+i.toNat*yT.size+0+vs.length)).toArray=cc;have other: ∀k,k≠b->(w.setRow b cc).heap[k]? =w.heap[k]? :=fun k hk=>setRow_other w b k _ hk;have hcs:c.size=pre.length+ (pre'.length+ (mid'.length+post'.length)+post.length):=by rw[<-Array.length_toList,m1,n1];simp;omega
    have hst:=run_storeCells_at P b (J3 U0 p+i.toNat*yT.size) e0 vs 0 c w l3 (by omega) (Zg3 hv);rw[hcc]at hst;have e1:cc.toList=pre++ ((pre'++ (vs++post'))++post):=by
     rw[<-hcc,m1,n1,<-m3,<-n3];have h1:List.take (pre.length+pre'.length+0) (pre++ ((pre'++ (mid'++post'))++post))=pre++pre':=by
      rw[Nat.add_zero,List.append_assoc,List.append_assoc,<-List.append_assoc pre pre',List.take_left' (by simp)]
     have h2:List.drop (pre.length+pre'.length+0+vs.length) (pre++ ((pre'++ (mid'++post'))++post))=post'++post:=by
      rw[Nat.add_zero,<-hml,show pre++ ((pre'++ (mid'++post'))++post)=(pre++pre'++mid')++ (post'++post) by simp,List.drop_left' (by simp;omega)]
     rw[h1,h2];simp
    have hS2:S2=[]:=by
     have: (Ty.arr m0 yT).flat=true:=by simpa[Ty.flat]using hfl
     have hn:Zmu (Zjv f0 p) (.arr m0 yT)=true:=by
      obtain⟨c,hc⟩:=Qz1 m4 hlive;rw[hc];cases c<;>simp[Zmu,this]
     exact Zh5 hn m4
    have Qcc:rdF w X W0.B (.arr m0 yT) (Zjv f0 p) (l0.set i.toNat yv) (pre'++ (vs++post')) []:=by
     have hx:rd w X W0.B true yT yv vs []:=(Zco hfl (Ko (X':=fun b=>X b\/b∈S) (fun _ h=> .inl h) hfy hv (fun _ h=> .inr h))).2;have hr: ∀own,rd w X W0.B own (.arr m0 yT) (l0.set i.toNat yv) (pre'++ (vs++post')) []:=fun own=>by
      refine⟨by rw[List.length_set,hlen],?_⟩;have e4:l0.set i.toNat yv=l0.take i.toNat++ (yv::l0.drop (i.toNat+1)):=by rw[List.set_eq_take_append_cons_drop];simp[hil]
      rw[e4];have q1:=(Zdy (r':=rd w X W0.B own yT) (fun x v S h=>Zco hfl h) n5).2;have q2:=(Zdy (r':=rd w X W0.B own yT) (fun x v S h=>Zco hfl h) n6).2;show Ww (rd w X W0.B own yT) (l0.take i.toNat++ (yv::l0.drop (i.toNat+1))) (pre'++ (vs++post')) ([]++ ([]++ []));exact Zlm q1 ⟨vs,post',[],[],rfl,rfl,(Zco hfl hx).2,q2⟩
     obtain⟨c,hc⟩:=Qz1 m4 hlive;rw[hc];unfold rdF;exact hr c
    have hbox:=m5 (Zjv f0 p) ⟨.arr m0 yT,l0.set i.toNat yv⟩ (pre'++ (vs++post')) [] x' hx' Qcc;have hnd:=h.nodup (.m r);rw[g2,m2,hS2]at hnd;have hbS:b∉S1++ ([]++S3):=(List.nodup_cons.1 hnd).1;have hXb: ¬X b:=(h.own _ b hbF).2.2;have hbl:W0.below (w.setRow b cc):=
     ⟨h.below.os,h.below.tape,h.below.output,by simpa[World.setRow]using h.below.size,fun k hk=>(other k (W0.sep hk (h.own _ b hbF).1)).trans (h.below.block k hk)⟩
    have hbox':rdF (w.setRow b cc) X W0.B U0 (Zou f0 p (Zjv f0 p)) x' cc.toList (S1++ ([]++S3)):=by
     rw[e1];exact Zpt (fun _ h=>h) (fun b' hb'=>other b' fun e=>hXb (by rw[<-e];exact hb')) hbox (fun b' hb'=>other b' fun e=>hbS (by rw[<-e];exact hb'))
    refine⟨b,⟨b,J3 U0 p+i.toNat*yT.size,none⟩,w.setRow b cc,Qd F (.m r) (b:: (S1++ ([]++S3))),g6,hst,?_,hbF,other⟩;refine h.turn (S':=b:: (S1++ ([]++S3))) hbl (by simp[World.setRow]) (fun b' hb'=>other b' fun e=>hXb (by rw[<-e];exact hb'))
     (fun k b' hk hb'=>other b' fun e=>hk (h.disj k (.m r) b' hb' (by rw[e];exact hbF))) (fun q hq=>by rw[g2,m2,hS2];exact hq) (List.nodup_append.2 ⟨hnd,h.hnodup,fun x hx y hy e=>h.hdisj (.m r) x (by rw[g2,m2,hS2];exact hx) (by rw[e];exact hy)⟩) (by rw[g1];simp) ?_ ⟨b,_,_,l1,rfl,setRow_heap w b c _ e0 _ l3,by simpa using hbox'⟩
    intro e2 T2 f2 x2 b2 S2' hb2 hF2;rw[g1]at hb2;cases hb2;rw[g2]at hF2;obtain⟨rfl,_⟩:=List.cons.inj hF2;exact⟨_,_,_,rfl,rfl⟩
   ·cases hs
  ·cases hs
 ·cases hs
def Qer(τ:Tab)(s:St)(tg:Xi)(e:TypeId)(x v:Operand):Option St:=
 match τ e with
 |none=>none
 |some T=>match Zr1 s (op1 s tg v) T with
  |none=>none
  |some t=>match op1 t.s tg x with
   | .tm k (.box _ _ _ _)=>Qd5 t.s k [] t.f ⟨t.T,t.x⟩
   | .tm _ (.ptr r p)=>Qd5 t.s r p t.f ⟨t.T,t.x⟩
   | .tm _ (.elp r p j q)=>Qlr t.s r p j q t.f ⟨t.T,t.x⟩
   | .tm _ (.aep r p i)=>Qye t.s r p i t.f ⟨t.T,t.x⟩
   |_=>none
def Qla(τ:Tab)(s:St)(o:Oper):Option Nat:=
 match o.op with
 | .store e x v=>match τ e with
  |none=>none
  |some T=>match Zr1 s (op1 s [] v) T with
   |none=>none
   |some t=>match op1 t.s [] x with
    | .tm k (.box _ _ _ _)=>some k
    | .tm _ (.ptr r _)=>some r
    | .tm _ (.aep r _ _)=>some r
    |_=>none
 |_=>none
theorem Qpk(h:R n W0 w X F H s a)(hτ:τ.ok P){e:TypeId}{x v:Operand}(ho:o.op= .store e x v)(hd:o.dst=none){s':St}(hr:Qer τ s [] e x v=some s')
  {K:Act->World->Prop} {Q:Exit->Act->World->Prop} (hK: ∀w' F',R n W0 w' X F' H s' a->Qi7 W0.gh X s a (Qla τ s o) w w'->K a w'):o.wp P a w K Q:=by
 have ht:Xi.ok [] W0.gh a:=fun p hp=>by cases hp
 unfold Qer at hr;split at hr
 ·cases hr
 ·rename_i T hT;split at hr
  ·cases hr
  ·rename_i t hk;obtain⟨hTT,F1,S,vs,h1,h2,h3,_,hlive⟩:=Zav h ht hk;subst hTT;have hcells:=Qdr (Zg3 h2) (Xx h2);have fin: ∀{ad:Addr} {w':World},a.eval x= .pointer (some ad)->(storeCells ad vs).run P w= .ok () w'->(execOp a.eval o).run P w= .ok .skip w':=by
    intro ad w' hx hst;simp only[execOp,ho,hx,h1,Instr.storeAt,Instr.sureAddr,storeVar,hcells,Sem.run_bind,Sem.run_pure,Result.andThen_ok,(hτ _ _ hT).sizeOf w];simp[Xx h2,hst]
   have conc: ∀{w'},(execOp a.eval o).run P w= .ok .skip w'->(∃F',R n W0 w' X F' H s' a/\Qi7 W0.gh X s a (Qla τ s o) w w')->o.wp P a w K Q:=by
    intro w' hrun ⟨F',hR,hkept⟩;unfold Oper.wp;rw[hrun];show K (a.put o.dst undef) w';rw[hd];exact hK w' F' hR hkept
   have boxes: ∀{r b:Nat} {w':World},Qla τ s o=some r->b∈F1 (.m r)->(∀k,k≠b->w'.heap[k]? =w.heap[k]?)->Qi7 W0.gh X s a (Qla τ s o) w w':=by
    intro r b w' htgt hb hq b2 hb2;refine hq b2 fun e=> ?_;subst e;rcases hb2 with hb2| ⟨r2,z1,z2,z3⟩
    ·exact(h3.own _ _ hb).2.2 hb2
    ·obtain⟨S2,h4⟩:=h3.boxIn (Zoz hk z1) z3;have:=h3.disj (.m r2) (.m r) b2 (by rw[h4];simp) hb;simp only[Key.m.injEq]at this;exact z2 (by rw[htgt,this])
   split at hr
   ·rename_i k e' U f y hx;obtain⟨rfl,b,c,S',g1,g2,g3,g4⟩:=Ke h3 ht hx (by simp);have hg: ∃e2 U2 f2 y2,t.s.get (.m k)= .box e2 U2 f2 y2:=by
     unfold Go.Am.Qd5 at hr;split at hr
     ·exact⟨_,_,_,_,by assumption⟩
     ·cases hr
    obtain⟨e2,U2,f2,y2,hg⟩:=hg;obtain⟨w',F',q1,q2,q3⟩:=h3.setRoot (P:=P) hr rfl h2 ⟨_,g2⟩ hg;have htgt:Qla τ s o=some k:=by simp only[Qla,ho,hT,hk,hx]
    exact conc (fin g1 (by simpa[J3]using q1)) ⟨F',q2,boxes htgt (by rw[g2];simp) q3⟩
   ·rename_i k r p hx;obtain⟨rfl,h0,e2,U2,f2,y2,b,S',g1,g2,g3⟩:=Ke h3 ht hx (by simp);obtain⟨w',F',q1,q2,q3⟩:=h3.setRoot (P:=P) hr rfl h2 ⟨_,g2⟩ g1;have htgt:Qla τ s o=some r:=by simp only[Qla,ho,hT,hk,hx]
    exact conc (fin g3 q1) ⟨F',q2,boxes htgt (by rw[g2];simp) q3⟩
   ·rename_i k r p j q hx;obtain⟨rfl,hel⟩:=Ke h3 ht hx (by simp);have hown: (t.f.allU true||t.T.flat)=true:=by
     unfold Go.Am.Qlr at hr;split at hr
     ·cases hr
     ·split at hr
      ·cases hr
      ·assumption
    have hel':vt W0.gh w X W0.B t.s F1 a (a.eval (.tmp k)) [] (.elp r p j q):=⟨rfl,hel.2⟩
    have key: ∃Sy,rd w X W0.B true t.T t.x vs Sy/\R n W0 w X F1 (Sy++H) t.s a:=by
     rcases Bool.or_eq_true_iff.1 hown with ho|hfl
     ·exact⟨S,Qdw ho h2,h3⟩
     ·exact⟨[],(Zco hfl (Ko (X':=fun b=>X b\/b∈S) (fun _ h=> .inl h) hlive h2 (fun _ h=> .inr h))).2,h3.drop⟩
    obtain⟨Sy,hv,h3'⟩:=key;obtain⟨ad,w',F',q0,q1,q2,q3⟩:=h3'.setElem (P:=P) hr hv hel';exact conc (fin q0 q1) ⟨F',q2,fun b hb=>q3 b (hb.imp id fun⟨r2,z1,_,z2⟩=>⟨r2,Zoz hk z1,z2⟩)⟩
   ·rename_i k r p i hx;obtain⟨rfl,hel⟩:=Ke h3 ht hx (by simp);have htgt:Qla τ s o=some r:=by simp only[Qla,ho,hT,hk,hx]
    have hel':vt W0.gh w X W0.B t.s F1 a (a.eval (.tmp k)) [] (.aep r p i):=⟨rfl,hel.2⟩
    obtain⟨b,ad,w',F',q0,q1,q2,q3,q4⟩:=(h3.drop).setArr (P:=P) hr h2 hel';exact conc (fin q0 q1) ⟨F',q2,boxes htgt q3 q4⟩
   ·cases hr
end
end Go.Am
namespace Go.Am
open Go.RowKit
section
variable {P:Program} {g:Kr} {W0:Wz g} {w w':World} {X X':Nat->Prop} {B n:Nat} {own:Bool} {s:St} {F:Key->List Nat} {a:Act} {H H':List Nat} {o:Oper} {tg:Xi} {τ:Tab} {gh:Nat->Value}
def Q43(s:St)(x:Op1)(t:Ty):Option (t.den×St×Bool):=
 match Zr1 s x t with
 |some u=>match u.T,u.f,u.x,t.flat with
  |T,_,y,true=>match Km t T y with|some z=>some (z,u.s,u.moved)|none=>none
  |T,f,y,false=>match Wh T f (.u true),Km t T y with|true,some z=>some (z,u.s,u.moved)|_,_=>none
 |none=>none
theorem Qws(h:R n W0 w X F H s a)(ht:tg.ok W0.gh a){x:Operand}{t:Ty}{z:t.den}{s':St}{mv:Bool}(hk:Q43 s (op1 s tg x) t=some (z,s',mv)):
  ∃F' S vs,a.eval x=Xt t vs/\rd w X W0.B true t z vs S/\R n W0 w X F' (S++H) s' a/\(mv=false->s'=s):=by
 unfold Q43 at hk;split at hk
 ·rename_i u hu;obtain⟨hT,F',S,vs,h1,h2,h3,h4,hl⟩:=Zav h ht hu;split at hk
  ·rename_i hfl;split at hk
   ·rename_i z' hz;simp only[Osi,Opi]at hk;obtain⟨rfl,rfl,rfl⟩:=hk;have e:=Zbn hz;have hflU:u.T.flat=true:=by rw[hT];assumption
    have hS:rd w (fun b=>X b\/b∈S) W0.B false u.T u.x vs []:=Ko (fun _ h=> .inl h) hl h2 (fun _ h=> .inr h);have h5:=(Zco (X':=X) (own':=true) (w':=w) hflU hS).2;refine⟨F',[],vs,by rw[h1,hT],?_,h3.drop,fun hm=>(h4 hm).1⟩;have e2: (⟨u.T,u.x⟩:TV)=⟨t,z'⟩:=e;cases u with
    |mk UT Uf Ux Us Um=>simp only at e2 h5;cases e2;exact h5
   ·cases hk
  ·rename_i hfl;split at hk
   ·rename_i z' hsub hz;simp only[Osi,Opi]at hk;obtain⟨rfl,rfl,rfl⟩:=hk;have e:=Zbn hz;refine⟨F',S,vs,by rw[h1,hT],?_,h3,fun hm=>(h4 hm).1⟩;have e2: (⟨u.T,u.x⟩:TV)=⟨t,z'⟩:=e;cases u with
    |mk UT Uf Ux Us Um=>simp only at e2 h2 hsub;cases e2;have:=Zg4 hsub h2;unfold rdF at this;exact this
   ·cases hk
 ·cases hk
def Qss(tg:Xi)(t:Ty):Nat->List (Nat×Operand)->St->Bool->Option (List t.den×St×Bool)
 |_,[],s,mv=>some ([],s,mv)
 |k,(i,y)::r,s,mv=>match Nat.beq i k with
  |false=>none
  |true=>match Q43 s (op1 s tg y) t with
   |some (z,s1,m1)=>match Qss tg t (k+1) r s1 (mv||m1)with
    |some (l,s2,m2)=>some (z::l,s2,m2)
    |none=>none
   |none=>none
theorem Qy3: ∀{r:List (Nat×Operand)} {t:Ty} {k:Nat} {s:St} {mv:Bool} {l:List t.den} {s':St} {mv':Bool},Qss tg t k r s mv=some (l,s',mv')->mv'=false->mv=false
 | [],t,k,s,mv,l,s',mv',h,hm=>by simp only[Qss,Osi,Opi]at h;rw[h.2.2];exact hm
 | (i,y)::r,t,k,s,mv,l,s',mv',h,hm=>by
  simp only[Qss]at h;split at h
  ·cases h
  ·split at h
   ·split at h
    ·rename_i hb;simp only[Osi,Opi]at h;obtain⟨_,_,rfl⟩:=h;have:=Qy3 hb hm;simp only[Bool.or_eq_false_iff]at this;exact this.1
    ·cases h
   ·cases h
theorem Z7f(ht:tg.ok W0.gh a){t:Ty}: ∀{parts:List (Nat×Operand)} {k:Nat} {s:St} {mv:Bool} {l:List t.den} {s':St} {mv':Bool} {F:Key->List Nat} {H:List Nat} {cs:Array Value} {A M C:List Value},
  R n W0 w X F H s a->cs.toList=A++ (M++C)->A.length=k*t.size->M.length=parts.length*t.size->Qss tg t k parts s mv=some (l,s',mv')->
  ∃F' S vs cs',Instr.fill (fun i=>some (i*t.size,t.size)) cs (parts.map fun p=>(p.1,a.eval p.2))=some cs'/\cs'.toList=A++ (vs++C)/\Ww (rd w X W0.B true t) l vs S/\l.length=parts.length/\
   R n W0 w X F' (S++H) s' a/\(mv'=false->s'=s)
 | [],k,s,mv,l,s',mv',F,H,cs,A,M,C,hR,hcs,hA,hM,hb=>by
  simp only[Qss,Osi,Opi]at hb;obtain⟨rfl,rfl,rfl⟩:=hb;have:M=[]:=List.eq_nil_of_length_eq_zero (by simpa using hM);subst this;exact⟨F,[],[],cs,rfl,hcs,⟨rfl,rfl⟩,rfl,hR,fun _=>rfl⟩
 | (i,y)::r,k,s,mv,l,s',mv',F,H,cs,A,M,C,hR,hcs,hA,hM,hb=>by
  simp only[Qss]at hb;split at hb
  ·cases hb
  ·rename_i hik;have hik:=Onb hik;subst hik;split at hb
   ·rename_i z s1 m1 hz;split at hb
    ·rename_i l2 s2 m2 hb2;simp only[Osi,Opi]at hb;obtain⟨rfl,rfl,rfl⟩:=hb;obtain⟨F1,Sn,vs,h1,h2,h3,h4⟩:=Qws hR ht hz;have hcells:=Zza (Zjf h2) (Xv h2);have hcsz: (a.eval y).cells.size=t.size:=by rw[h1,<-Array.length_toList,hcells,Xv h2]
     have hM':M.length=t.size+r.length*t.size:=by rw[hM,List.length_cons,Nat.add_mul];omega
     obtain⟨cs1,g1,g2⟩:=Z4f (place:=fun i=>some (i*t.size,t.size)) (i:=i) (rest:=r.map fun p=>(p.1,a.eval p.2)) (v:=a.eval y) rfl (pre:=A) (mid:=M.take t.size) (post:=M.drop t.size++C)
      (by rw[hcs,<-List.append_assoc (M.take _),List.take_append_drop]) hA (by simp;omega) hcsz
     rw[h1,hcells]at g1;obtain⟨F',S,vs2,cs',k1,k2,k3,k4,k5,k6⟩:=Z7f ht (k:=i+1) (cs:=cs1) (A:=A++vs) (M:=M.drop t.size) (C:=C) h3 (by rw[g1];simp) (by simp[hA,Xv h2,Nat.add_mul]) (by simp[hM']) hb2;refine⟨F',Sn++S,vs++vs2,cs',by simpa[g2]using k1,by rw[k2];simp,⟨vs,vs2,Sn,S,rfl,rfl,h2,k3⟩,by simp[k4],?_,fun hm=> ?_⟩
     ·refine k5.sub ?_ ?_
      ·intro b hb;simp only[List.mem_append]at hb⊢;grind
      ·have:=k5.hnodup;simp only[List.nodup_append,List.mem_append]at this⊢
       grind
     ·have:=Qy3 hb2 hm;simp only[Bool.or_eq_false_iff]at this;exact(k6 hm).trans (h4 this.2)
    ·cases hb
   ·cases hb
def Zv5(τ:Tab)(s:St)(tg:Xi)(e:TypeId)(len:Nat)(parts:Array (Nat×Operand)):Option Res:=
 match τ e with
 |some (.slice e' t)=>match τ e' with
  |some t2=>match decide (t2=t),Nat.beq parts.size len&&Nat.ble (len*t.size) 16777216 with
   |true,true=>match Qss tg t 0 parts.toList s false with
    |some (l,s',mv)=>some ⟨.val (.slice e' t) (.u true) l,s',mv,none⟩
    |none=>none
   |_,_=>none
  |none=>none
 |_=>none
theorem Z40(h:R n W0 w X F H s a)(ht:tg.ok W0.gh a)(hτ:τ.ok P){e:TypeId}{len:Nat}{parts:Array (Nat×Operand)}(ho:o.op= .buildSlice e len parts){r:Res}(hr:Zv5 τ s tg e len parts=some r):Zo2 P n W0 w X H s a o r:=by
 unfold Zv5 at hr;split at hr
 ·rename_i e' t hT;split at hr
  ·rename_i t2 hT2;split at hr
   ·rename_i hd hbq;split at hr
    ·rename_i l s' mv hb;simp only[Osi]at hr;subst hr;have:=Ode hd;subst this;simp only[Oba,Nat.ble_eq]at hbq;have hlen:=Onb hbq.1;obtain⟨hu,hpos⟩:=(hτ _ _ hT).slice;obtain⟨i,hi,his,_,hz⟩:=(hτ _ _ hT2).size;intro _ K Q hK;obtain⟨cs0,hcs0⟩: ∃cs0:Array Value,cs0=(Array.range (len*i.size)).map ((Xt t2 (Jy t2)).cells[· % (Xt t2 (Jy t2)).cells.size]!):=⟨_,rfl⟩
     have hcsz:cs0.toList.length=len*t2.size:=by rw[hcs0];simp[his]
     obtain⟨F',S,vs,cs',k1,k2,k3,k4,k5,k6⟩:=Z7f ht (k:=0) (cs:=cs0) (A:=[]) (M:=cs0.toList) (C:=[]) h (by simp) (by simp) (by rw[hcsz,Array.length_toList,hlen]) hb;have hll:l.length=len:=by rw[k4,Array.length_toList,hlen]
     have hrun: (execOp a.eval o).run P w= .ok (.value (.slice (some ⟨w.heap.size,0,none⟩) len len)) (w.alloc (.cells cs' e')):=by
      simp only[execOp,ho,Sem.run_bind];by_cases hz0:len*i.size=0
      ·have hl0:len=0:=by
        rcases Nat.mul_eq_zero.1 hz0 with h|h
        ·exact h
        ·omega
       subst hl0;have hp0:parts= #[]:=Array.eq_empty_of_size_eq_zero hlen;subst hp0;simp only[List.map_nil,Instr.fill,Osi]at k1;subst k1;simp[Instr.buildSlice,run_underlying hu,Go.sizeOf,typeInfo,hi,newRow,Instr.fill,hcs0,Array.range_zero']
      ·rw[run_buildSlice w e e' len _ cs' i _ hu hi hz (by have:=hbq.2;rw[his];omega) hz0 (by rw[<-hcs0];simpa[his]using k1)];simp
     unfold Oper.wp;rw[hrun];have hcs:cs'.toList=vs:=by simpa using k2
     refine hK _ X F' (w.heap.size::S) _ (fun _ h=>h) (k5.alloc _) ⟨[_],rfl,?_⟩ k6 ⟨fun _=>Old.alloc _ _,h.kept (Old.alloc _ _)⟩;unfold rdF;have hvl:vs.length=len*t2.size:=by rw[Zpy (fun _ _ _ h=>Xv h) k3,hll]
     refine⟨_,vs,[w.heap.size],S,rfl,rfl,⟨⟨by rw[hvl,hll],.inr ⟨w.heap.size,len,cs',by rw[hll],h.below.sizeB,Qcc _ _,by rw[hll];exact Nat.le_refl _,?_,?_,?_⟩⟩,rfl⟩,?_⟩
     ·have:=hbq.2;have h2:len<=len*t2.size:=Nat.le_mul_of_pos_right _ hpos;simp only[maxLen];omega
     ·rw[<-Array.length_toList,hcs,hvl]
     ·rw[hcs,hll,<-hvl,List.take_length]
     ·exact Kf k3 fun x v T _ hT hr=>Zcp (fun _ h=>h) (fun b hb=>hold w _ b (h.xlt b hb)) hr fun b hb=>hold w _ b (k5.hown b (by simp[hT b hb])).2.1
    ·cases hr
   ·cases hr
  ·cases hr
 ·cases hr
def Z1q(τ:Tab)(s:St)(tg:Xi)(e:TypeId)(parts:Array (Nat×Operand)):Option Res:=
 match τ e with
 |some (.arr n t)=>match parts.toList with
  | []=>some ⟨.val (.arr n t) (.u true) (List.replicate n (zero t)),s,false,none⟩
  |p::ps=>match Nat.beq (p::ps).length n,Qss tg t 0 (p::ps) s false with
   |true,some (l,s',mv)=>some ⟨.val (.arr n t) (.u true) l,s',mv,none⟩
   |_,_=>none
 |_=>none
theorem Qaq(h:R n W0 w X F H s a)(ht:tg.ok W0.gh a)(hτ:τ.ok P){e:TypeId}{parts:Array (Nat×Operand)}(ho:o.op= .build e parts){r:Res}(hr:Z1q τ s tg e parts=some r):Zo2 P n W0 w X H s a o r:=by
 unfold Z1q at hr;split at hr
 ·rename_i m t hT;obtain⟨hpos,et,hu,hsz⟩:=(hτ _ _ hT).arr;obtain⟨i,hi,his,_,hz⟩:=(hτ _ _ hT).size;obtain⟨j,hj,hjs,_⟩:=Zln hsz;have hzc: (Xt (.arr m t) (Jy (.arr m t))).cells=(Jy (.arr m t)).toArray:=rfl;split at hr
  ·rename_i hps;simp only[Osi]at hr;subst hr;intro _ K Q hK;have hrun: (execOp a.eval o).run P w= .ok (.value (.agg (Jy (.arr m t)).toArray)) w:=by
    simp only[execOp,ho,Sem.run_bind,Instr.build,zeroValue,typeInfo,Sem.run_pure,run_underlying hu,Result.andThen_ok];simp[hi,hz,Go.sizeOf,typeInfo,hj,hps,Instr.fill,hzc]
   unfold Oper.wp;rw[hrun];refine hK _ X F [] w (fun _ h=>h) (by simpa using h) ⟨Jy (.arr m t),rfl,?_⟩ (fun _=>rfl) ⟨fun _=>Old.refl w,h.kept (Old.refl w)⟩;unfold rdF;exact Zrh (hτ _ _ hT).plain
  ·rename_i p ps hps;split at hr
   ·rename_i l s' mv hlen hb;simp only[Osi]at hr;subst hr;have hlen:=Onb hlen;intro _ K Q hK;have hzl: (Jy (.arr m t)).length=m*t.size:=Zqu (hτ _ _ hT).plain;obtain⟨F',S,vs,cs',k1,k2,k3,k4,k5,k6⟩:=Z7f ht (k:=0) (cs:=(Jy (.arr m t)).toArray) (A:=[]) (M:=Jy (.arr m t)) (C:=[]) h (by simp) (by simp) (by rw[hzl,hlen]) hb;have hrun: (execOp a.eval o).run P w= .ok (.value (.agg cs')) w:=by
     simp only[execOp,ho,Sem.run_bind,Instr.build,zeroValue,typeInfo,Sem.run_pure,run_underlying hu,Result.andThen_ok];rw[<-hjs]at k1;simp only[List.map_cons]at k1;simp[hi,hz,Go.sizeOf,typeInfo,hj,hps,hzc,k1]
    unfold Oper.wp;rw[hrun];have hcs:cs'.toList=vs:=by simpa using k2
    refine hK _ X F' S w (fun _ h=>h) k5 ⟨cs'.toList,by simp[Xt],?_⟩ k6 ⟨fun _=>Old.refl w,h.kept (Old.refl w)⟩;unfold rdF;rw[hcs];exact⟨by rw[k4,hlen],k3⟩
   ·cases hr
 ·cases hr
theorem Zqb(z:List Value): ∀(m j:Nat),j<m*z.length->(List.replicate m z).flatten[j]? =z[j%z.length]?
 |0,j,h=>by simp at h
 |m+1,j,h=>by
  rw[List.replicate_succ,List.flatten_cons];by_cases hj:j<z.length
  ·rw[List.getElem?_append_left hj,Nat.mod_eq_of_lt hj]
  ·rw[List.getElem?_append_right (by omega),Zqb z m (j-z.length) (by rw[Nat.add_mul]at h;omega)];congr 1;rw[<-Nat.mod_eq_sub_mod (by omega)]
theorem Qoe(z:Array Value){l c:Nat}(hlc:l<=c): (madeCells z (c*z.size)).toList.take (l*z.size)=(List.replicate l z.toList).flatten:=by
 apply List.ext_getElem?;intro j;have hl: (List.replicate l z.toList).flatten.length=l*z.size:=by simp
 by_cases hj:j<l*z.size
 ·have hjc:j<c*z.size:=Nat.lt_of_lt_of_le hj (Nat.mul_le_mul_right _ hlc);have hz:0<z.size:=Nat.pos_of_ne_zero fun e=>by rw[e]at hj;simp at hj
  rw[List.getElem?_take,if_pos hj,Zqb _ _ _ (by simpa using hj)];have hm:j%z.size<z.size:=Nat.mod_lt _ hz;simp[madeCells,hjc,hm]
 ·rw[List.getElem?_eq_none (by rw[List.length_take];omega),List.getElem?_eq_none (by omega)]
def Qtw(τ:Tab)(s:St)(tg:Xi)(e:TypeId)(x y:Operand):Option Res:=
 match τ e with
 |some (.slice e' t)=>match τ e',Zpw s (op1 s tg x),Zpw s (op1 s tg y)with
  |some t2,some (_,l),some (_,c)=>match decide (t2=t)with
   |true=>some ⟨.val (.slice e' t) (.u true) (List.replicate l.toNat (zero t)),s,false,some (0<=l/\l<=c/\c<=Qo)⟩
   |false=>none
  |_,_,_=>none
 |_=>none
theorem Qqv(h:R n W0 w X F H s a)(ht:tg.ok W0.gh a)(hτ:τ.ok P){e:TypeId}{x y:Operand}(ho:o.op= .makeSlice e x y){r:Res}(hr:Qtw τ s tg e x y=some r):Zo2 P n W0 w X H s a o r:=by
 unfold Qtw at hr;split at hr
 ·rename_i e' t hT;split at hr
  ·rename_i t2 k1 l k2 c hT2 hl hc;split at hr
   ·rename_i hd;simp only[Osi]at hr;subst hr;have:=Ode hd;subst this;obtain⟨hu,hpos⟩:=(hτ _ _ hT).slice;obtain⟨i,hi,his,hby,hz⟩:=(hτ _ _ hT2).size;intro hp K Q hK;obtain⟨p1,p2,p3⟩:0<=l/\l<=c/\c<=Qo:=hp;have p3':c<=17179869184:=p3;have e1:=Zds h ht hl;have e2:=Zds h ht hc;have hb: (i.bytes:Int)*c<=281474976710656:=by
     have: (i.bytes:Int)*c<=8192*17179869184:=Int.mul_le_mul (by omega) p3' (by omega) (by omega);omega
    have hrun: (execOp a.eval o).run P w= .ok (.value (.slice (some ⟨w.heap.size,0,none⟩) l.toNat c.toNat)) (w.alloc (.cells (madeCells (Jy t2).toArray (c.toNat*i.size)) e')):=by
     simp only[execOp,ho,e1,e2,Sem.run_bind,run_make w e e' i _ hu hi hz k1 k2 l c p1 p2 hb (by omega),Result.andThen_ok,Sem.run_pure,Zxl (hτ _ _ hT2).plain]
    unfold Oper.wp;rw[hrun];refine hK _ X F [w.heap.size] _ (fun _ h=>h) (h.alloc _) ⟨[_],rfl,?_⟩ (fun _=>rfl) ⟨fun _=>Old.alloc _ _,h.kept (Old.alloc _ _)⟩;unfold rdF;have hzs: (Jy t2).toArray.size=t2.size:=by simp[Zqu (hτ _ _ hT2).plain]
    refine⟨_,(List.replicate l.toNat (Jy t2)).flatten,[w.heap.size],[],rfl,rfl,⟨⟨by simp[Zqu (hτ _ _ hT2).plain],.inr ⟨w.heap.size,c.toNat,_,by simp,h.below.sizeB,Qcc _ _,by simp;omega,by simp only[maxLen];omega,?_,?_⟩⟩,rfl⟩,Zuv (Zrh (hτ _ _ hT2).plain) _⟩
    ·rw[size_madeCells,his]
    ·have:=Qoe (Jy t2).toArray (l:=l.toNat) (c:=c.toNat) (by omega);rw[hzs]at this;rw[his,List.length_replicate];simpa using this
   ·cases hr
  ·cases hr
 ·cases hr
def Qe4(τ:Tab)(s:St)(tg:Xi)(e:TypeId)(x y:Operand):Option Res:=
 match τ e with
 |some (.slice e' t)=>match τ e' with
  |some t2=>match decide (t2=t),Zr1 s (op1 s tg x) (.slice e' t)with
   |true,some ⟨.slice e1 t1,.u true,l,s1,_⟩=>match decide (e1=e'/\t1=t)with
    |true=>match t.flat,Z26 s1 (op1 s1 tg y)with
     |true,some ⟨_,t3,_,l3⟩=>match Km (.slice e' t1) (.slice e' t3) l3 with
      |some l4=>some ⟨.val (.slice e' t1) (.u true) (l++l4),s1,true,some (l.length+l4.length<=Qo)⟩
      |none=>none
     |false,_=>match Zr1 s1 (op1 s1 tg y) (.slice e' t)with
      |some ⟨.slice e3 t3,.u true,l3,s2,_⟩=>match Km (.slice e' t1) (.slice e3 t3) l3 with
       |some l4=>some ⟨.val (.slice e' t1) (.u true) (l++l4),s2,true,some (l.length+l4.length<=Qo)⟩
       |none=>none
      |_=>none
     |_,_=>none
    |false=>none
   |_,_=>none
  |none=>none
 |_=>none
theorem Zx9{e e':TypeId}{t:Ty}(hT:TOK P e (.slice e' t))(hT2:TOK P e' t){v vy:Value}{xs ys:List Value}{l l4:List t.den}
  (hown:w.ownsRow B e' t.size v l.length xs) (hy: ∃ad cap,vy= .slice ad l4.length cap/\l4.length<=cap/\((ad=none/\l4.length=0/\cap=0)\/ ∃a0,ad=some a0/\ ∀j u,ys[j]? =some u->w.cell? (a0.add j)=some u)) (hyl:ys.length=l4.length*t.size)
  (h1: ∀u∈ys,u.oneCell'=true) (hp:l.length+l4.length<=Qo) (hB:B<=w.heap.size):
  ∃v' w',(Builtin.append_ #[e,e] e #[v,vy]).run P w= .ok v' w'/\w'.ownsRow B e' t.size v' (l.length+l4.length) (xs++ys)/\w.grownBy w' v.ownBlock/\(v'.ownBlock=v.ownBlock\/ ∀b,v'.ownBlock=some b->w.heap.size<=b):=by
 obtain⟨hu,hpos⟩:=hT.slice;obtain⟨i,hi,his,hby,hz⟩:=hT2.size;have hzs: (Xt t (Jy t)).cells.size=t.size:=by rw[Zxl hT2.plain];simp[Zqu hT2.plain]
 have hp':l.length+l4.length<=17179869184:=hp;obtain⟨ad,cap,rfl,hle,hc⟩:=hy;rcases hc with⟨rfl,hl0,rfl⟩| ⟨a0,rfl,hc⟩
 ·have hys:ys=[]:=List.eq_nil_of_length_eq_zero (by rw[hyl,hl0,Nat.zero_mul]);subst hys;have hrow:=hown.2;rcases hrow with⟨rfl,hn⟩| ⟨g,cap,cur,rfl,hb,hg,hnc,hcm,hcs,htk⟩
  ·refine⟨.slice none 0 0,w,?_,by rw[hl0];simpa using hown,⟨rfl,rfl,rfl,Nat.le_refl _,fun _ _ _=>rfl⟩,.inl rfl⟩;rw[hl0];simp[Builtin.append_,run_underlying hu,Go.sizeOf,typeInfo,hi,Builtin.lenOf,Builtin.firstCells]
  ·refine⟨.slice (some ⟨g,0,none⟩) l.length cap,w,?_,by rw[hl0];simpa using hown,⟨rfl,rfl,rfl,Nat.le_refl _,fun _ _ _=>rfl⟩,.inl rfl⟩;rw[hl0];simp[Builtin.append_,run_underlying hu,Go.sizeOf,typeInfo,hi,Builtin.lenOf,Builtin.firstCells,hnc,storeCells]
 ·have hbt: (l.length+l4.length)*i.bytes<=140737488355328:=by
   have: (l.length+l4.length)*i.bytes<=17179869184*8192:=Nat.mul_le_mul hp' hby;omega
  have h63:l.length+l4.length<=maxLen:=by simp only[maxLen];omega
  obtain⟨v',w',g1,g2,g3,_⟩:=run_append_own (P:=P) w B e e e' i _ t.size i.bytes hu hi hz his rfl hzs hpos v l.length xs hown a0 l4.length cap ys hyl hc h1 h63 hbt hB;refine⟨v',w',g1,g2,g3,?_⟩;rcases hown.2 with⟨rfl,hn⟩| ⟨g,cap',cur,rfl,hb,hg,hnc,hcm,hcs,htk⟩
  ·have hown':w.ownsRow w.heap.size e' t.size (.slice none 0 0) l.length xs:=⟨hown.1,.inl ⟨rfl,hn⟩⟩
   obtain⟨v2,w2,k1,k2,_⟩:=run_append_own (P:=P) w w.heap.size e e e' i _ t.size i.bytes hu hi hz his rfl hzs hpos _ l.length xs hown' a0 l4.length cap ys hyl hc h1 h63 hbt (Nat.le_refl _);rw[g1]at k1;simp only[Result.ok.injEq]at k1;obtain⟨rfl,rfl⟩:=k1;exact .inr fun b hb=>(k2.lt b hb).1
  ·by_cases hroom:l.length+l4.length<=cap'
   ·have hfit:l.length*i.size+ys.length<=cur.size:=by rw[hyl,hcs,his,<-Nat.add_mul];exact Nat.mul_le_mul_right _ hroom
    have hr:=run_append_room (P:=P) w e e e' i hu hi g l.length cap' cur hg a0 l4.length cap ys (by rw[hyl,his]) hc h1 hroom hfit;rw[g1]at hr;simp only[Result.ok.injEq]at hr;exact .inl (by rw[hr.1];rfl)
   ·have holds: ∀j u,xs[j]? =some u->w.cell? ((⟨g,0,none⟩:Addr).add j)=some u:=hown.cells (g:=g) rfl;have hr:=run_append_grow (P:=P) w e e e' i _ hu hi hz ⟨g,0,none⟩ l.length cap' xs (by rw[hown.1,his]) holds a0 l4.length cap ys (by rw[hyl,his]) hc (by omega) (by simp only[maxLen]at h63;omega) (growslice_fits (by omega) hbt);rw[g1]at hr;simp only[Result.ok.injEq]at hr;exact .inr fun b hb=>by rw[hr.1]at hb;simp[Value.ownBlock]at hb;omega
theorem Zy9{B':Nat}{e:TypeId}{sz nn:Nat}{v:Value}{xs:List Value}(h:w.ownsRow B e sz v nn xs)(hB:B'<=B):w.ownsRow B' e sz v nn xs:=
 ⟨h.1,h.2.imp id fun⟨g,cap,cur,h1,h2,h3⟩=>⟨g,cap,cur,h1,Nat.le_trans hB h2,h3⟩⟩
theorem Qso{S1 S2 S4:List Nat}(h:R n W0 w X F (S1++ (S2++ (S4++H))) s a){e':TypeId}{t:Ty}{v v':Value}{xs ys:List Value}{l l4:List t.den}
  (h1:hdr w X W0.B true e' t.size l.length v xs S1) (h2:Ww (rd w X W0.B true t) l xs S2) (h4:Ww (rd w X W0.B true t) l4 ys S4)
  (g2:w'.ownsRow W0.B e' t.size v' (l.length+l4.length) (xs++ys)) (g3:w.grownBy w' v.ownBlock) (g4:v'.ownBlock=v.ownBlock\/ ∀b,v'.ownBlock=some b->w.heap.size<=b):
  ∃S,R n W0 w' X F (S++H) s a/\rd w' X W0.B true (.slice e' t) (l++l4) [v'] S/\(∀b,X b->w'.heap[b]? =w.heap[b]?)/\ ∀k b,b∈F k->w'.heap[b]? =w.heap[b]? :=by
 have hS1:S1=v.ownBlock.toList:=h1.2;have same: ∀b,b<w.heap.size->b∉S1->w'.heap[b]? =w.heap[b]? :=fun b hb hn=>g3.block b hb (fun e=>hn (by rw[hS1,<-e];simp));have hnd:=h.hnodup;have hX: ∀b,X b->w'.heap[b]? =w.heap[b]? :=fun b hb=>same b (h.xlt b hb) fun hm=>(h.hown b (by simp[hm])).2.2 hb;have hF: ∀k b,b∈F k->w'.heap[b]? =w.heap[b]? :=fun k b hb=>same b (h.own k b hb).2.1 fun hm=>h.hdisj k b hb (by simp[hm]);have hn24: ∀b,b∈S2++ (S4++H)->b∉S1:=fun b hb hm=>(List.nodup_append.1 hnd).2.2 b hm b hb rfl;have hH: ∀b,b∈S2++ (S4++H)->w'.heap[b]? =w.heap[b]? :=fun b hb=>same b (h.hown b (by simp only[List.mem_append]at hb⊢;grind)).2.1 (hn24 b hb);have hbl:W0.below w':=⟨g3.os.trans h.below.os,g3.tape.trans h.below.tape,g3.output.trans h.below.output,Nat.le_trans h.below.size g3.size,fun k hk=>
  (same k (Nat.lt_of_lt_of_le (W0.yW k hk) h.below.size) fun hm=>W0.sep hk (h.hown k (by simp[hm])).1 rfl).trans (h.below.block k hk)⟩
 have hR:=(h.drop).world hbl g3.size hX hF;have hlt:=g2.lt;have hR2:R n W0 w' X F (v'.ownBlock.toList++ (S2++ (S4++H))) s a:=by
  rcases g4 with g4|g4
  ·rw[g4,<-hS1];refine hR.hand (fun b hb=> ?_) (List.nodup_append.1 hnd).1 (fun k b hb hm=>h.hdisj k b hb (by simp[hm])) (fun b hb hm=>hn24 b hm hb);obtain⟨q1,q2,q3⟩:=h.hown b (by simp[hb]);exact⟨q1,Nat.lt_of_lt_of_le q2 g3.size,q3⟩
  ·refine hR.hand (fun b hb=> ?_) (by cases v'.ownBlock<;>simp) (fun k b hb hm=> ?_) (fun b hb hm=> ?_)
   ·have hb:v'.ownBlock=some b:=by simpa using hb
    exact⟨.inl (Nat.le_trans h.below.size (g4 b hb)),(hlt b hb).2,fun hx=>by have:=h.xlt b hx;have:=g4 b hb;omega⟩
   ·have hm:v'.ownBlock=some b:=by simpa using hm
    have:=(h.own k b hb).2.1;have:=g4 b hm;omega
   ·have hb:v'.ownBlock=some b:=by simpa using hb
    have:=(h.hown b (by simp only[List.mem_append]at hm⊢;grind)).2.1;have:=g4 b hb;omega
 have mono: ∀{l:List t.den} {xs:List Value} {S:List Nat},Ww (rd w X W0.B true t) l xs S->(∀b∈S,b∈S2++ (S4++H))->Ww (rd w' X W0.B true t) l xs S:=fun hr hS=>
  Kf hr fun x v T _ hT hrd=>Zcp (fun _ h=>h) hX hrd fun b hb=>hH b (hS b (hT b hb))
 refine⟨v'.ownBlock.toList++ (S2++S4),by simpa[List.append_assoc]using hR2,⟨v',xs++ys,v'.ownBlock.toList,S2++S4,rfl,rfl,⟨by simpa using g2,rfl⟩,?_⟩,hX,hF⟩;exact Zlm (mono h2 fun b hb=>by simp[hb]) (mono h4 fun b hb=>by simp[hb])
theorem Qi8(h:R n W0 w X F H s a)(ht:tg.ok W0.gh a)(hτ:τ.ok P){e:TypeId}{x y:Operand}(ho:o.op= .call {callee:= .builtin .append,args:= #[x,y],argTypes:= #[e,e]}){r:Res}(hr:Qe4 τ s tg e x y=some r):Zo2 P n W0 w X H s a o r:=by
 unfold Qe4 at hr;split at hr
 ·rename_i e' t hT;split at hr
  ·rename_i t2 hT2;split at hr
   ·rename_i e1 t1 l s1 m1 hd hx;have:=Ode hd;subst this;obtain⟨_,F1,S,vs,q1,q2,q3,_,_⟩:=Zav h ht hx;split at hr
    ·rename_i hd2;obtain⟨rfl,rfl⟩:=Ode hd2;simp only at q1 q2 q3;unfold rdF at q2;obtain⟨v,xs,S1,S2,rfl,rfl,k1,k2⟩:=q2;have fin: ∀{s2 F2 S4 ys l4} {vy:Value} {r:Res},R n W0 w X F2 (S4++ ((S1++S2)++H)) s2 a->(∀r,s.isBox r->s2.isBox r)->a.eval y=vy->
       (∃ad cap,vy= .slice ad l4.length cap/\l4.length<=cap/\((ad=none/\l4.length=0/\cap=0)\/ ∃a0,ad=some a0/\ ∀j u,ys[j]? =some u->w.cell? (a0.add j)=some u))->
       Ww (rd w X W0.B true t1) l4 ys S4->r=⟨.val (.slice e1 t1) (.u true) (l++l4),s2,true,some (l.length+l4.length<=Qo)⟩->Zo2 P n W0 w X H s a o r:=by
      intro s2 F2 S4 ys l4 vy r hR hbx hy hc hrows hre;subst hre;intro hp K Q hK;obtain⟨v',w',g1,g2,g3,g4⟩:=Zx9 (P:=P) (hτ _ _ hT) (hτ _ _ hT2) k1.1 hc (Zpy (fun _ _ _ h=>Xv h) hrows) (Zuu (fun _ _ _ h=>Zjf h) hrows) hp h.below.sizeB;have hR':R n W0 w X F2 (S1++ (S2++ (S4++H))) s2 a:=hR.sub (fun b hb=>by simp only[List.mem_append]at hb⊢;grind) (by
       have:=hR.hnodup;simp only[List.nodup_append,List.mem_append]at this⊢
       grind)
      obtain⟨S',z1,z2,z3,z4⟩:=Qso hR' k1 k2 hrows g2 g3 g4;have hx0:a.eval x=v:=q1;have hrun: (execOp a.eval o).run P w= .ok (.value v') w':=by
       simp only[execOp,ho];have g1': (Builtin.append_ #[e,e] o.type #[v,vy]).run P w= .ok v' w':=g1;simp[resolve,invoke,builtin,hx0,hy,g1']
      have kept:Qi7 W0.gh X s a none w w':=by
       intro b hb;rcases hb with hb| ⟨r,h1,_,h2⟩
       ·exact z3 b hb
       ·obtain⟨S,h3⟩:=hR.boxIn (hbx r h1) h2;exact z4 (.m r) b (by rw[h3];simp)
      unfold Oper.wp;rw[hrun];exact hK _ X F2 S' w' (fun _ h=>h) z1 ⟨[v'],rfl,by unfold rdF;exact z2⟩ (by simp) ⟨fun hp=>(by rw[ho]at hp;cases hp),kept⟩
     split at hr
     ·rename_i e3 t3 b3 l3 hfl hy;split at hr
      ·rename_i l4 hl4;simp only[Osi]at hr;have:=Zbn hl4;cases this;obtain⟨vy,ys,T1,T2,g1,g2,g3,g4⟩:=Zth q3 ht hy;have g5:=Zdy (r':=rd w X W0.B true t1) (fun x v S h=>Zco hfl h) g3;refine fin (S4:=[]) (by simpa using q3) (fun r hb=>Zoz hx hb) g1 ?_ g5.2 hr.symm;obtain⟨ad,cap,z1,z2,_,z3⟩:=Zck g2;exact⟨ad,cap,z1,z2,z3.imp id fun⟨a0,u1,_,u2⟩=>⟨a0,u1,u2⟩⟩
      ·cases hr
     ·rename_i hfl;split at hr
      ·rename_i e3 t3 l3 s2 m2 hy;split at hr
       ·rename_i l4 hl4;simp only[Osi]at hr;have:=Zbn hl4;cases this;obtain⟨_,F2,S4,vs4,u1,u2,u3,_,_⟩:=Zav q3 ht hy;simp only at u1 u2 u3;unfold rdF at u2;obtain⟨vy,ys,T1,T2,rfl,rfl,g2,g3⟩:=u2;have u3':R n W0 w X F2 (T2++ ((S1++S2)++H)) s2 a:=by
         rw[List.append_assoc]at u3;exact u3.drop
        refine fin u3' (fun r hb=>Zoz hy (Zoz hx hb)) u1 ?_ g3 hr.symm;obtain⟨ad,cap,z1,z2,_,z3⟩:=Zck g2;exact⟨ad,cap,z1,z2,z3.imp id fun⟨a0,u1,_,u2⟩=>⟨a0,u1,u2⟩⟩
       ·cases hr
      ·cases hr
     ·cases hr
    ·cases hr
   ·cases hr
  ·cases hr
 ·cases hr
end
end Go.Am

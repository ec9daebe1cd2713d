/- The abstract machine, part 2: what a piece of Go code does, as plain data, and that it does so. No condition. -/
import Derived.Test.YtgepmefongfeeaaGreatAm1
import Derived.Great.BuildSlice
namespace Go.Am
open Go.RowKit
theorem Addr.add_add'(a:Addr)(m j:Nat): (a.add m).add j=a.add (m+j):=by
 unfold Addr.add;by_cases b:m=0<;>by_cases c:j=0<;>simp[b,c]
 omega
theorem Zhk(w:World){b:Nat}{c:Array Value}{e:TypeId}{fr:Nat×Nat}(h:w.heap[b]? =some (.cells c e fr))(o j:Nat):w.cell? ((⟨b,o,none⟩:Addr).add j)=c[o+j]? :=by
 have: (⟨b,o,none⟩:Addr).add j=⟨b,o+j,none⟩:=by unfold Addr.add;split<;>simp_all
 rw[this];simp[World.cell?,h]
section
variable {P:Program} {g:K9} {W0:Zam g} {w w':World} {X X':Nat->Prop} {B n:Nat} {own:Bool} {s:St} {F:Key->List Nat} {a:Act} {H:List Nat} {o:Oper} {tg:Xo} {τ:Tab} {gh:Nat->Value}
theorem Qir: ∀{p:List Nat} {T:Ty} {x:T.den} {y:TV} {i:Nat},Zdx T x p=some y->Zdx T x (p++ [i])=fld y.1 y.2 i/\(∀U,Zx8 y.1 i=some U->J1 T (p++ [i])=J1 T p+Ze2 y.1 i)
 | [],T,x,y,i,h=>by
  simp only[Zdx,Osi]at h;subst h;refine⟨?_,fun U a=>by simp[J1,a]⟩;simp only[List.nil_append,Zdx];cases fld T x i<;>rfl
 |j::p,T,x,y,i,h=>by
  simp only[Zdx]at h;cases hz:fld T x j with
  |none=>rw[hz]at h;cases h
  |some z=>
   rw[hz]at h;obtain⟨b,c⟩:=Qir (i:=i) h;simp only[List.cons_append,Zdx,hz,J1,Z58 hz];exact⟨b,fun U a=>by rw[c U a];omega⟩
theorem Q6l: ∀{T:Ty} {x:T.den} {i:Nat} {U:Ty},Zx8 T i=some U-> ∃y,fld T x i=some ⟨U,y⟩:=by
 intro T
 induction T with
 |pair a b d c=>
  intro x i U h;cases i with
  |zero=>simp only[Zx8,Osi]at h;subst h;exact⟨x.1,rfl⟩
  |succ i=>exact c (x:=x.2) h
 |_=>intro x i U h;cases i<;>cases h
theorem TOK.fieldAt{e:TypeId}{T U:Ty}(h:TOK P e T){i:Nat}(hU:Zx8 T i=some U)(ad:Addr)(w:World): (Instr.fieldAt e (.pointer (some ad)) i).run P w= .ok (.pointer (some (ad.add (Ze2 T i)))) w:=by
 have c:T.isStruct=true:=by cases T<;>first|rfl| (cases i<;>cases hU)
 obtain⟨d,g,k⟩:=h.struct c;obtain⟨f,l,m,n,q⟩:=Qxy k hU;obtain⟨j,o,p,_⟩:=Zml n;have a: ¬j.size=0:=by omega
 have b:d[i]? =some f:=by simpa using l
 simp[Instr.fieldAt,run_underlying g,b,Instr.sureAddr,fieldPlace,Go.sizeOf,typeInfo,o,a,m]
def Qer(τ:Tab)(s:St)(tg:Xo)(e:TypeId)(x:Operand)(i:Nat):Option Res:=
 match τ e,op1 s tg x with
 |some T,.tm k (.box _ U _ _)=>match s.get (.m k),decide (T=U),Zx8 T i with
  | .box _ _ _ _,true,some _=>some ⟨.ptr k [i],s,false,none⟩
  |_,_,_=>none
 |some T,.tm _ (.ptr r p)=>match s.get (.m r)with
  | .box _ U _ y=>match Zdx U y p with
   |some z=>match decide (T=z.1),Zx8 T i with
    |true,some _=>some ⟨.ptr r (p++ [i]),s,false,none⟩
    |_,_=>none
   |none=>none
  |_=>none
 |some T,.tm _ (.shp U y)=>match decide (T=U),fld U y i with
  |true,some z=>some ⟨.shp z.1 z.2,s,false,none⟩
  |_,_=>none
 |some T,.tm k (.elp r p j q)=>match Ztc s (.tm k (.bor r p))with
  |some ⟨.slice _ t,_,_⟩=>match Zdx t (zero t) q with
   |some z=>match decide (T=z.1),Zx8 T i with
    |true,some _=>some ⟨.elp r p j (q++ [i]),s,false,none⟩
    |_,_=>none
   |none=>none
  |_=>none
 |_,_=>none
theorem Z3s(h:R n W0 w X F H s a)(ht:tg.ok W0.gh a)(hτ:τ.ok P){e:TypeId}{x:Operand}{i:Nat}(ho:o.op= .fieldAddr e x i){r:Res}(hr:Qer τ s tg e x i=some r):Zbh P τ W0 w X F s a o r:=by
 unfold Qer at hr;have g: ∀{m:Addr} {T U:Ty},τ e=some T->Zx8 T i=some U->a.eval x= .pointer (some m)-> ∀I,Dep W0.gh τ X s a o w I->(execOp a.eval o).run P I= .ok (.value (.pointer (some (m.add (Ze2 T i))))) I:=by
  intro m T U v hU hx I _;simp only[execOp,ho,hx,Sem.run_bind,(hτ _ _ v).fieldAt hU m I,Result.andThen_ok,Sem.run_pure]
 split at hr
 ·rename_i T k e' U f y v hx;split at hr
  ·rename_i _ _ _ Z U2 f2 y2 V J D A;simp only[Osi]at hr;subst hr;have d:T=U:=Ode D;subst d;obtain⟨rfl,b,c,S,C,K,M,h4⟩:=Kp h ht hx (by simp);have hx:=(Zlh hx).2.2;simp only[J,Zxd]at hx;cases hx;refine Yr rfl fun _=>⟨_,g v A C,rfl,_,_,_,_,b,S,J,K,?_⟩
   simp only[J1,A,Nat.add_zero];unfold Addr.add;split<;>simp_all
  ·cases hr
 ·rename_i T k r' p v hx;split at hr
  ·rename_i Z U f y J;split at hr
   ·rename_i z G;split at hr
    ·rename_i V D A;simp only[Osi]at hr;subst hr;have d:T=z.1:=Ode D;obtain⟨rfl,h0,e3,U3,f3,y3,b,S,C,K,M⟩:=Kp h ht hx (by simp);rw[J]at C;cases C;refine Yr rfl fun _=>⟨_,g v A M,rfl,_,_,_,_,b,S,J,K,?_⟩
     rw[(Qir G).2 V (by rw[<-d];exact A),d];unfold Addr.add;split<;>simp_all
    ·cases hr
   ·cases hr
  ·cases hr
 ·rename_i T k U y v hx;split at hr
  ·rename_i z D G;simp only[Osi]at hr;subst hr;have d:T=U:=Ode D;subst d;obtain⟨rfl,h0,m,vs,C,K,M,h4⟩:=Kp h ht hx (by simp);have O:rdF w X W0.B T (.u false) y vs []:=by unfold rdF;exact h4
   obtain⟨pre,Q,aa,S1,S2,S3,m1,m2,m3,L,_⟩:=Qoh G O;refine Yr rfl fun _=>⟨_,g v (Z58 G) C,rfl,_,Q,rfl,?_,?_,?_⟩
   ·have: (m.add (Ze2 T i)).block=m.block:=by unfold Addr.add;split<;>rfl
    rw[this];exact K
   ·intro j u hj;rw[Addr.add_add',<-m3];apply M;rw[m1,List.getElem?_append_right (by omega),show pre.length+j-pre.length=j from by omega,List.getElem?_append_left (List.getElem?_eq_some_iff.1 hj).1];exact hj
   ·have:Zuj (.u false) i= .u false:=by cases i<;>rfl
    rw[this]at L;unfold rdF at L;have e:=Zgg L;rw[e]at L;exact L
  ·cases hr
 ·rename_i T k r' p j q v hx;split at hr
  ·rename_i Z t f l N;split at hr
   ·rename_i z G;split at hr
    ·rename_i V D A;simp only[Osi]at hr;subst hr;have d:T=z.1:=Ode D;obtain⟨rfl,h0,C⟩:=Kp h ht hx (by simp);have E:s.bad r' p=false:=by
      simp only[Ztc]at N;split at N
      ·cases N
      ·assumption
     obtain⟨e3,t3,m,nn,W,k1,k2,k3,k4⟩:=C E;obtain⟨_,Y,_⟩:=Qb7 h N k1;cases Y;refine Yr rfl fun _=>⟨_,g v A k4,rfl,fun _=>⟨_,_,m,nn,W,k1,k2,k3,?_⟩⟩
     rw[Addr.add_add',(Qir G).2 V (by rw[<-d];exact A),d,Nat.add_assoc]
    ·cases hr
   ·cases hr
  ·cases hr
 ·cases hr
end
end Go.Am
namespace Go.Am
open Go.RowKit
section
variable {P:Program} {g:K9} {W0:Zam g} {w w':World} {X X':Nat->Prop} {B n:Nat} {own:Bool} {s:St} {F:Key->List Nat} {a:Act} {H:List Nat} {o:Oper} {tg:Xo} {τ:Tab} {gh:Nat->Value}
theorem Zmk{α:Type}{r:α->List Value->List Nat->Prop}: ∀{l l':List α} {vs vs':List Value} {S S':List Nat},Zaj r l vs S->Zaj r l' vs' S'->Zaj r (l++l') (vs++vs') (S++S')
 | [],_,_,_,_,_,⟨a,b⟩,h=>by subst a;subst b;simpa using h
 |x::l,_,_,_,_,_,⟨c,d,e,f,a,b,g,i⟩,h=>⟨c,d++_,e,f++_,by simp[a],by simp[b],g,Zmk i h⟩
def Z38(s:St)(tg:Xo)(n:Nat)(t:Ty)(x i:Operand):Option Res:=
 let at' (r:Nat) (p:List Nat):Option Res:=match s.get (.m r),Zq9 s (op1 s tg i)with
  | .box _ U _ y,some (_,j)=>match Zdx U y p with
   |some ⟨.arr n' t',_⟩=>match decide (n'=n/\t'=t)with
    |true=>some ⟨.aep r p j,s,false,some (0<=j/\j<n)⟩
    |false=>none
   |_=>none
  |_,_=>none
 match op1 s tg x with
 | .tm k (.box _ _ _ _)=>at' k []
 | .tm _ (.ptr r p)=>at' r p
 |_=>none
def Z37(τ:Tab)(s:St)(tg:Xo)(e:TypeId)(x i:Operand):Option Res:=
 match τ e,Z4z s (op1 s tg x),Zq9 s (op1 s tg i)with
 |some (.slice e' t'),some ⟨_,t,b,l⟩,some (_,j)=>match τ e',decide (t'=t),b,op1 s tg x with
  |some t2,true,false,_=>match decide (t2=t)|| (decide (t= .hid t2)&&Nat.beq t2.size 1)with
   |true=>some ⟨.shp t (l.getD j.toNat (zero t)),s,false,some (0<=j/\j<l.length)⟩
   |false=>none
  |some t2,true,true,.tm k (.val _ _ _)=>match decide (t2=t),s.get (.m k)with
   |true,.val _ _ _=>some ⟨.elp k [] j [],s,false,some (0<=j/\j<l.length)⟩
   |_,_=>none
  |some t2,true,true,.tm _ (.bor r p)=>match decide (t2=t)with
   |true=>some ⟨.elp r p j [],s,false,some (0<=j/\j<l.length)⟩
   |false=>none
  |_,_,_,_=>none
 |_,_,_=>none
def Zum(τ:Tab)(s:St)(tg:Xo)(e:TypeId)(x i:Operand):Option Res:=
 match τ e with
 |some (.arr n t)=>Z38 s tg n t x i
 |_=>Z37 τ s tg e x i
theorem Qy9{e e':TypeId}{t:Ty}{t2:Ty}(h:TOK P e (.slice e' t))(h':TOK P e' t2)(hsz:t2.size=t.size){ad:Addr}{len cap:Nat}{k:IntKind}{j:Int}(h0:0<=j)(h1:j<len)(w:World):
  (Instr.indexAt e (.slice (some ad) len cap) (.int k j)).run P w= .ok (.pointer (some (ad.add (j.toNat*t.size)))) w:=by
 simp only[Instr.indexAt,Sem.run_bind,asIntOf,Sem.run_pure,Result.andThen_ok,run_underlying h.slice.1];simp[h0,h1,h'.sizeOf w,hsz]
theorem Qe1(h:R n W0 w X F H s a)(ht:tg.ok W0.gh a){e:TypeId}{m:Nat}{t:Ty}(hT:TOK P e (.arr m t)){x i:Operand}(ho:o.op= .indexAddr e x i){r:Res}(hr:Z38 s tg m t x i=some r):Zbh P τ W0 w X F s a o r:=by
 have q: ∀{k p},(∃u U f y b S,s.get (.m k)= .box u U f y/\F (.m k)=b::S/\a.eval x= .pointer (some ⟨b,J1 U p,none⟩))->
   (match s.get (.m k),Zq9 s (op1 s tg i)with
    | .box _ U _ y,some (_,j)=>match Zdx U y p with
     |some ⟨.arr A g,_⟩=>match decide (A=m/\g=t)with
      |true=>some (⟨.aep k p j,s,false,some (0<=j/\j<m)⟩:Res)
      |false=>none
     |_=>none
    |_,_=>none)=some r->Zbh P τ W0 w X F s a o r:=by
  clear hr;intro k p ⟨u,U,f,y,b,S,v,hF,hx⟩ hr;rw[v]at hr;split at hr
  ·rename_i B O;cases B;rename_i ik j;have Q:=Zej h ht O;split at hr
   ·rename_i A g l V;split at hr
    ·rename_i W;obtain⟨rfl,rfl⟩:=Ode W;simp only[Osi]at hr;subst hr;refine Yr rfl fun d=> ?_;have d:0<=j/\j<A:=d;refine⟨.pointer (some ⟨b,J1 U p+j.toNat*g.size,none⟩),fun w' _=> ?_,rfl,u,U,f,y,b,S,A,g,l,v,hF,V,d.1,d.2,rfl⟩;obtain⟨_,C,Y,Z⟩:=hT.arr;obtain⟨i2,D,E,_⟩:=Zml Z;have z: (⟨b,J1 U p,none⟩:Addr).add (j.toNat*g.size)=⟨b,J1 U p+j.toNat*g.size,none⟩:=by
      unfold Addr.add;split<;>simp_all
     simp only[execOp,ho,hx,Q,Sem.run_bind,Instr.indexAt,asIntOf,Sem.run_pure,Result.andThen_ok,run_underlying Y,Instr.sureAddr];simp[d.1,d.2,Go.sizeOf,typeInfo,D,E,z]
    ·cases hr
   ·cases hr
  ·cases hr
 unfold Z38 at hr;simp only at hr;split at hr
 ·rename_i k u U f y hx;obtain⟨rfl,b,c,S,G,I,K,h4⟩:=Kp h ht hx (by simp);refine q (p:=[]) ?_ hr;have J: ∃C L M N,s.get (.m k)= .box C L M N:=by
   split at hr
   ·rename_i B _;exact⟨_,_,_,_,B⟩
   ·cases hr
  obtain⟨C,L,M,N,v⟩:=J;have hx:=(Zlh hx).2.2;simp only[v,Zxd]at hx;cases hx;exact⟨u,U,f,y,b,S,v,I,G⟩
 ·rename_i k r' p hx;obtain⟨rfl,h0,e3,U3,f3,y3,b,S,G,I,K⟩:=Kp h ht hx (by simp);exact q ⟨e3,U3,f3,y3,b,S,G,I,K⟩ hr
 ·cases hr
theorem Qe0(h:R n W0 w X F H s a)(ht:tg.ok W0.gh a)(hτ:τ.ok P){e:TypeId}{x i:Operand}(ho:o.op= .indexAddr e x i){r:Res}(hr:Z37 τ s tg e x i=some r):Zbh P τ W0 w X F s a o r:=by
 unfold Z37 at hr;split at hr
 ·rename_i e' t' e2 t b l k j hT c hj;have e3:=Zej h ht hj;obtain⟨v,xs,S1,S2,hv,k1,k2,k3⟩:=Zur h ht c;have m:=Zc8 k1;have y: ∀{D},τ e'=some D->t'=t->D.size=t.size->0<=j/\j<l.length-> ∃g d,a.eval x= .slice (some g) l.length d/\(X g.block\/g.block∈S1)/\(∀j u,xs[j]? =some u->w.cell? (g.add j)=some u)/\
    ∀E,Dep W0.gh τ X s a o w E->(execOp a.eval o).run P E= .ok (.value (.pointer (some (g.add (j.toNat*t.size))))) E:=by
   intro D z h2 h3 h4;subst h2;obtain⟨ac,d,G,_,_,L⟩:=m;rcases L with⟨_,ae,_⟩| ⟨g,rfl,M,L⟩
   ·omega
   ·refine⟨g,d,hv.trans G,M.resolve_left (by omega),L,fun E _=> ?_⟩;simp only[execOp,ho,hv,G,e3,Sem.run_bind,Qy9 (hτ _ _ hT) (hτ _ _ z) h3 h4.1 h4.2 E,Result.andThen_ok,Sem.run_pure]
  split at hr
  ·rename_i D z I;split at hr
   ·rename_i hd2;simp only[Osi]at hr;subst hr;refine Yr rfl fun f=> ?_;have f:0<=j/\j<l.length:=f;obtain⟨g,d,K,N,O,J⟩:=y z (Ode I) (by
     rcases(Bool.or_eq_true _ _).mp hd2 with hd2|hd2
     ·rw[Ode hd2]
     ·simp only[Oba,decide_eq_true_eq]at hd2;rw[hd2.1,Onb hd2.2];rfl) f
    obtain⟨pre,Q,ab,T1,T2,T3,m1,m2,m3,S,_⟩:=Zra (fun _ _ _ h=>X5 h) (i:=j.toNat) (by omega) k2;refine⟨_,J,rfl,_,Q,rfl,?_,?_,?_⟩
    ·have: (g.add (j.toNat*t.size)).block=g.block:=by unfold Addr.add;split<;>rfl
     rw[this];refine N.resolve_right ?_;rw[show S1=[]from k1.1];simp
    ·intro q u hq;rw[Addr.add_add',<-m3];apply O;rw[m1,List.getElem?_append_right (by omega),show pre.length+q-pre.length=q from by omega,List.getElem?_append_left (List.getElem?_eq_some_iff.1 hq).1];exact hq
    ·have A:l.getD j.toNat (zero t)=l[j.toNat]'(by omega):=by rw[List.getD_eq_getElem?_getD,List.getElem?_eq_getElem (by omega)];rfl
     rw[A];have e5:=Zgg S;rw[e5]at S;exact S
   ·cases hr
  ·rename_i D k' T3 f3 x3 z I hx;split at hr
   ·rename_i T4 V x4 hd2 hg;simp only[Osi]at hr;subst hr;refine Yr rfl fun f=> ?_;have f:0<=j/\j<l.length:=f;obtain⟨g,d,K,N,O,J⟩:=y z (Ode I) (congrArg Ty.size (Ode hd2)) f;obtain⟨rfl,_⟩:=Kp h ht hx (by simp);have W:=hx;have Y:=(Zlh hx).2.1;have hx:=(Zlh hx).2.2;simp only[hg,Zxd]at hx;cases hx;have Z: ∃A,T3= .slice A t:=by
     unfold Z4z at c;split at c
     ·rename_i A t4 b4 l4 hk;simp only[Osi,Sigma.mk.injEq]at c;obtain⟨rfl,c⟩:=c;simp only[heq_eq_eq,Sigma.mk.injEq]at c;obtain⟨rfl,c⟩:=c;rw[W]at hk;simp only[Ztc]at hk;split at hk
      ·simp only[Osi,Sigma.mk.injEq]at hk;exact⟨_,hk.1⟩
      ·cases hk
     ·cases c
    obtain⟨A,rfl⟩:=Z;refine⟨_,J,rfl,fun _=>⟨A,t,g,l.length,d,?_,f.1,f.2,by simp[J1]⟩⟩;unfold Xi;rw[hg];exact⟨rfl,rfl,((Ye W0 a Y).trans K).symm⟩
   ·cases hr
  ·rename_i D k' r' p z I hx;split at hr
   ·rename_i hd2;simp only[Osi]at hr;subst hr;refine Yr rfl fun f=> ?_;have f:0<=j/\j<l.length:=f;obtain⟨g,d,K,N,O,J⟩:=y z (Ode I) (congrArg Ty.size (Ode hd2)) f;obtain⟨rfl,h0,M⟩:=Kp h ht hx (by simp);refine⟨_,J,rfl,fun B=> ?_⟩;obtain⟨U,hU⟩:=M B;have C: ∃V,Ztc s (.tm k' (.bor r' p))=some ⟨.slice e2 t,V,l⟩:=by
     unfold Z4z at c;rw[hx]at c;split at c
     ·rename_i A t4 b4 l4 hk;simp only[Osi,Sigma.mk.injEq]at c;obtain⟨rfl,c⟩:=c;simp only[heq_eq_eq,Sigma.mk.injEq]at c;obtain⟨rfl,c⟩:=c;simp only[heq_eq_eq,Opi]at c;obtain⟨rfl,rfl⟩:=c;exact⟨_,hk⟩
     ·cases c
    obtain⟨V,C⟩:=C;obtain⟨_,aa,_⟩:=Qb7 h C hU;subst aa;rw[K]at hU;exact⟨e2,t,g,l.length,d,hU,f.1,f.2,by simp[J1]⟩
   ·cases hr
  ·cases hr
 ·cases hr
theorem Q2h(b:Bool): ∀q:List Nat,Zkq (.u b) q= .u b
 | []=>rfl
 |i::q=>by
  have:Zuj (.u b) i= .u b:=by cases i<;>rfl
  rw[Zkq,this];exact Q2h b q
def Qod(τ:Tab)(s:St)(tg:Xo)(e:TypeId)(x:Operand):Option Res:=
 match τ e with
 |none=>none
 |some T=>
  let fromBox (r:Nat) (p:List Nat):Option Res:=match s.get (.m r)with
   | .box _ U f y=>match Zdx U y p with
    |some z=>match(Zkq f p).live,decide (z.1=T)with
     |true,true=>match Znv (Zkq f p) z.1 with
      |true=>some ⟨.val z.1 (Zkq f p) z.2,s,false,none⟩
      |false=>some ⟨.bor r p,s,false,none⟩
     |_,_=>none
    |none=>none
   |_=>none
  match op1 s tg x with
  | .tm k (.box _ _ _ _)=>fromBox k []
  | .tm _ (.ptr r p)=>fromBox r p
  | .tm _ (.shp U y)=>match decide (U=T)with
   |true=>some ⟨.val U (.u false) y,s,false,none⟩
   |false=>none
  | .tm _ (.aep r p i)=>match s.get (.m r)with
   | .box _ U f y=>match Zdx U y p with
    |some ⟨.arr _ t,l⟩=>match(Zkq f p).live,decide (t=T),t.flat with
     |true,true,true=>some ⟨.val t (.u false) (l.getD i.toNat (zero t)),s,false,none⟩
     |_,_,_=>none
    |_=>none
   |_=>none
  | .tm k (.elp r p j q)=>match Ztc s (.tm k (.bor r p))with
   |some ⟨.slice _ t,.u b,l⟩=>match Zdx t (l.getD j.toNat (zero t)) q with
    |some z=>match decide (z.1=T),z.1.flat,b with
     |true,true,_=>some ⟨.val z.1 (.u false) z.2,s,false,none⟩
     |true,false,true=>some ⟨.bel r p j q,s,false,none⟩
     |_,_,_=>none
    |none=>none
   |_=>none
  |_=>none
theorem Z86(h:R n W0 w X F H s a)(ht:tg.ok W0.gh a)(hτ:τ.ok P){e:TypeId}{x:Operand}(ho:o.op= .load e x){r:Res}(hr:Qod τ s tg e x=some r):Zbh P τ W0 w X F s a o r:=by
 unfold Qod at hr;split at hr
 ·cases hr
 ·rename_i T hT;have J: ∀{O:Addr} {vs:List Value},a.eval x= .pointer (some O)->vs.length=T.size->(∀E,Dep W0.gh τ X s a o w E-> ∀j u,vs[j]? =some u->E.cell? (O.add j)=some u)-> ∀E,Dep W0.gh τ X s a o w E->(execOp a.eval o).run P E= .ok (.value (Xz T vs)) E:=by
   intro O vs hx hl hc E ak;simp only[execOp,ho,hx,Sem.run_bind,Instr.loadAt,Instr.sureAddr,Sem.run_pure,Result.andThen_ok,(hτ _ _ hT).load hl (hc E ak)]
  have G: ∀{E},Dep W0.gh τ X s a o w E->match Zwg s (.load e x)with
    |some (some r)=> ∀b,b<w.heap.size->Qp W0.gh a (.m r)= .pointer (some ⟨b,0,none⟩)->E.heap[b]? =w.heap[b]?
    |some none=> ∀b,b<w.heap.size->X b->E.heap[b]? =w.heap[b]?
    |none=>Old w E:=fun {E} g=>by
   have:=g (by rw[ho];rfl);rw[ho]at this;exact this
  have ah: ∀{k p},Zwg s (.load e x)=some (some k)->(∃e' U f y b S,s.get (.m k)= .box e' U f y/\F (.m k)=b::S/\a.eval x= .pointer (some ⟨b,J1 U p,none⟩))->
    (match s.get (.m k)with
     | .box _ U f y=>match Zdx U y p with
      |some z=>match(Zkq f p).live,decide (z.1=T)with
       |true,true=>match Znv (Zkq f p) z.1 with
        |true=>some (⟨.val z.1 (Zkq f p) z.2,s,false,none⟩:Res)
        |false=>some ⟨.bor k p,s,false,none⟩
       |_,_=>none
      |none=>none
     |_=>none)=some r->Zbh P τ W0 w X F s a o r:=by
   intro k p hdr ⟨e',U,f,y,b,S,hg,hF,hx⟩ hr;rw[hg]at hr;simp only at hr;have hs:=h.slots (.m k);rw[hg]at hs;obtain⟨b',c,S',l1,l2,l3,l4⟩:=hs;rw[hF]at l2;obtain⟨rfl,rfl⟩:=List.cons.inj l2;split at hr
   ·rename_i z Z;obtain⟨pre,I,K,S1,S2,S3,m1,m2,m3,Q,_⟩:=Zfc Z l4;split at hr
    ·rename_i L g;have D:z.1=T:=Ode g;have C: ∀j u,I[j]? =some u->w.cell? ((⟨b,J1 U p,none⟩:Addr).add j)=some u:=by
      intro j u M;rw[Zhk w l3,<-Array.getElem?_toList,m1,<-m3,List.getElem?_append_right (by omega),show pre.length+j-pre.length=j from by omega,List.getElem?_append_left (List.getElem?_eq_some_iff.1 M).1];exact M
     have aa:=J hx (by rw[X8 Q,D]) (fun E g j u M=>by
      have g:=G g;rw[hdr]at g;rw[World.cell?_of_block (w:=w) (by
       have hb: ((⟨b,J1 U p,none⟩:Addr).add j).block=b:=by unfold Addr.add;split<;>rfl
       rw[hb];exact g b (Array.getElem?_eq_some_iff.1 l3).1 l1)]
      exact C j u M)
     split at hr
     ·rename_i hn;simp only[Osi]at hr;subst hr;have:=Zi0 hn Q;subst this;exact Yr rfl fun _=>⟨_,aa,I,by rw[D],Q⟩
     ·simp only[Osi]at hr;subst hr;refine Yr rfl fun _=>⟨_,aa,rfl,fun _=>⟨z.1,?_⟩⟩
      unfold Xi;rw[hg];exact⟨b,c,S,z,hF,l3,Z,rfl,by rw[Zzr m1 m3 (X8 Q),D]⟩
    ·cases hr
   ·cases hr
  simp only at hr;split at hr
  ·rename_i k e' U f y hx;obtain⟨rfl,b,c,S,V,h2,h3,h4⟩:=Kp h ht hx (by simp);refine ah (p:=[]) (Zl5 hx (by simp)) ?_ hr;cases hg:s.get (.m k)<;>rw[hg]at hr<;>simp only at hr<;>first|cases hr|skip
   have hx:=(Zlh hx).2.2;simp only[hg,Zxd]at hx;cases hx;exact⟨e',U,f,y,b,S,rfl,h2,V⟩
  ·rename_i k r' p hx;obtain⟨rfl,h0,e3,U3,f3,y3,b,S,V,h2,h3⟩:=Kp h ht hx (by simp);exact ah (Zl5 hx (by simp)) ⟨e3,U3,f3,y3,b,S,V,h2,h3⟩ hr
  ·rename_i k U y hx;obtain⟨rfl,h0,O,vs,V,h2,h3,h4⟩:=Kp h ht hx (by simp);split at hr
   ·rename_i g;simp only[Osi]at hr;subst hr;have hU:U=T:=Ode g;subst hU;refine Yr rfl fun _=>⟨_,J V (X5 h4) (fun E g j u M=> ?_),vs,rfl,by unfold rdF;exact h4⟩
    have g:=G g;have hdr:Zwg s (.load e (.tmp k))=some none:=Zl5 hx (by simp);rw[hdr]at g;rw[World.cell?_of_block (w:=w) (by
     have hb: (O.add j).block=O.block:=by unfold Addr.add;split<;>rfl
     rw[hb];exact g _ (h.xlt _ h2) h2)]
    exact h3 j u M
   ·cases hr
  ·rename_i k r' p i hx;obtain⟨rfl,h0,e3,U3,f3,y3,b,S,nn,t3,z3,V,h2,h3,h4,h5,h6⟩:=Kp h ht hx (by simp);rw[V]at hr;simp only[h3]at hr;split at hr
   ·rename_i L g Y;simp only[Osi]at hr;subst hr;have D:t3=T:=Ode g;subst D;have hs:=h.slots (.m r');rw[V]at hs;obtain⟨b',c,S',l1,l2,l3,l4⟩:=hs;rw[h2]at l2;obtain⟨rfl,rfl⟩:=List.cons.inj l2;obtain⟨pre,I,K,S1,S2,S3,m1,m2,m3,Q,_⟩:=Zfc h3 l4;have m5:=K6 (X':=fun b=>X b\/b∈S2) (fun _ h=> .inl h) L Q (fun _ h=> .inr h);obtain⟨ab,ac⟩:=m5;have ab:z3.length=nn:=ab;have aj:i.toNat<z3.length:=by omega
    obtain⟨d,A,N,T1,T2,T3,n1,n2,n3,W,_⟩:=Zra (fun _ _ _ h=>X5 h) aj ac;have e4:z3.getD i.toNat (zero t3)=z3[i.toNat]:=by rw[List.getD_eq_getElem?_getD,List.getElem?_eq_getElem aj];rfl
    have C: ∀j u,A[j]? =some u->w.cell? ((⟨b,J1 U3 p+i.toNat*t3.size,none⟩:Addr).add j)=some u:=by
     intro j u M;have ar:=(List.getElem?_eq_some_iff.1 M).1;rw[Zhk w l3,<-Array.getElem?_toList,m1,n1,<-m3,<-n3];rw[List.getElem?_append_right (by omega),List.getElem?_append_left (by simp;omega),List.getElem?_append_right (by omega),List.getElem?_append_left (by omega)];rw[show pre.length+d.length+j-pre.length-d.length=j from by omega];exact M
    refine Yr rfl fun _=>⟨_,J h6 (X5 W) (fun E g j u M=> ?_),A,rfl,?_⟩
    ·have g:=G g;rw[Zl5 hx (by simp)]at g;rw[World.cell?_of_block (w:=w) (by
      have hb: ((⟨b,J1 U3 p+i.toNat*t3.size,none⟩:Addr).add j).block=b:=by unfold Addr.add;split<;>rfl
      rw[hb];exact g b (Array.getElem?_eq_some_iff.1 l3).1 l1)]
     exact C j u M
    ·rw[e4];unfold rdF;exact(Zdc Y W).2
   ·cases hr
  ·rename_i k r' p j q hx;obtain⟨rfl,h0,V⟩:=Kp h ht hx (by simp);split at hr
   ·rename_i e2 t b l hl;have ae:s.bad r' p=false:=by
     simp only[Ztc]at hl;split at hl
     ·cases hl
     ·assumption
    obtain⟨e3,t3,O,nn,al,k1,k2,k3,k4⟩:=V ae;obtain⟨_,am,_,vs,S,g1,g2,g3⟩:=Qb7 h hl k1;cases am;unfold rdF at g2;obtain⟨v,xs,S1,S2,rfl,rfl,q1,q2⟩:=g2;have g1:Value.slice (some O) nn al=v:=g1;subst g1;obtain⟨a0,aq,hv,au,_,hc⟩:=Zc8 q1;simp only[Value.slice.injEq]at hv;obtain⟨rfl,rfl,rfl⟩:=hv;rcases hc with⟨e0,_⟩| ⟨av,e0,_,hc⟩
    ·cases e0
    ·simp only[Osi]at e0;subst e0;split at hr
     ·rename_i z Z;split at hr
      ·rename_i g Y _;simp only[Osi]at hr;subst hr;have D:z.1=T:=Ode g;obtain⟨pre,I,K,T1,T2,T3,m1,m2,m3,Q,_⟩:=Zra (fun _ _ _ h=>X5 h) (i:=j.toNat) (by omega) q2;have e4:l.getD j.toNat (zero t)=l[j.toNat]'(by omega):=by rw[List.getD_eq_getElem?_getD,List.getElem?_eq_getElem (by omega)];rfl
       rw[e4]at Z;have mk: ∀{own:Bool},rd w X W0.B own t l[j.toNat] I T2->rdF w X W0.B t (.u own) l[j.toNat] I T2:=fun h=>by unfold rdF;exact h
       have ag:=mk Q;obtain⟨d,A,N,U1,U2,U3,n1,n2,n3,W,_⟩:=Zfc Z ag;refine Yr rfl fun _=>⟨_,J k4 (vs:=A) (by rw[X8 W,D]) ?_,A,by rw[D],?_⟩
       ·intro E g i u hi;have g:=G g;rw[Zl5 hx (by simp)]at g;refine Old.cell (show Old w E from g) ?_;rw[Addr.add_add',<-m3,<-n3];apply hc;have hm:=(List.getElem?_eq_some_iff.1 hi).1;rw[m1,List.getElem?_append_right (by omega),show pre.length+d.length+i-pre.length=d.length+i from by omega,
         List.getElem?_append_left (by rw[n1];simp;omega),n1,List.getElem?_append_right (by omega),show d.length+i-d.length=i from by omega,List.getElem?_append_left hm]
        exact hi
       ·rw[Q2h]at W;unfold rdF at W⊢;exact(Zdc Y W).2
      ·rename_i g Y _;simp only[Osi]at hr;subst hr;have D:z.1=T:=Ode g;have ap:=Z;obtain⟨pre,I,K,T1,T2,T3,m1,m2,m3,Q,_⟩:=Zra (fun _ _ _ h=>X5 h) (i:=j.toNat) (by omega) q2;have e4:l.getD j.toNat (zero t)=l[j.toNat]'(by omega):=by rw[List.getD_eq_getElem?_getD,List.getElem?_eq_getElem (by omega)];rfl
       rw[e4]at Z;have ag:rdF w X W0.B t (.u true) l[j.toNat] I T2:=by unfold rdF;exact Q
       obtain⟨d,A,N,U1,U2,U3,n1,n2,n3,W,_⟩:=Zfc Z ag;have C: ∀(i:Nat) u,A[i]? =some u->w.cell? (O.add (j.toNat*t.size+J1 t q+i))=some u:=fun i u hi=>by
        rw[<-m3,<-n3];apply hc;have hm:=(List.getElem?_eq_some_iff.1 hi).1;rw[m1,List.getElem?_append_right (by omega),show pre.length+d.length+i-pre.length=d.length+i from by omega,
         List.getElem?_append_left (by rw[n1];simp;omega),n1,List.getElem?_append_right (by omega),show d.length+i-d.length=i from by omega,List.getElem?_append_left hm]
        exact hi
       refine Yr rfl fun _=>⟨_,J k4 (vs:=A) (by rw[X8 W,D]) ?_,rfl,fun _ _=>⟨_,t,O,_,_,_,z,A,k1,k2,k3,g3 _ ?_,ap,by rw[D],X8 W,C⟩⟩
       ·intro E g i u hi;have g:=G g;rw[Zl5 hx (by simp)]at g;refine Old.cell (show Old w E from g) ?_;rw[Addr.add_add'];exact C i u hi
       ·rw[q1.2];simp[Value.ownBlock]
      ·cases hr
     ·cases hr
   ·cases hr
  ·cases hr
theorem Zvd(h:R n W0 w X F H s a)(ht:tg.ok W0.gh a)(hτ:τ.ok P){e:TypeId}{x i:Operand}(ho:o.op= .indexAddr e x i){r:Res}(hr:Zum τ s tg e x i=some r):Zbh P τ W0 w X F s a o r:=by
 unfold Zum at hr;split at hr
 ·rename_i n t b;exact Qe1 h ht (hτ _ _ b) ho hr
 ·exact Qe0 h ht hτ ho hr
end
end Go.Am
namespace Go.Am
open Go.RowKit
section
variable {P:Program} {g:K9} {W0:Zam g} {w w':World} {X X':Nat->Prop} {B n:Nat} {own:Bool} {s:St} {F:Key->List Nat} {a:Act} {H:List Nat} {o:Oper} {tg:Xo} {τ:Tab} {gh:Nat->Value}
def Qz6(s:St)(o:Op1):Option ((T:Ty)×T.den×St):=
 match Ztc s o with
 |some ⟨T,f,x⟩=>match Znv f T with
  |true=>some ⟨T,x,s⟩
  |false=>match o with
   | .tm k (.val _ _ _)=>match s.get (.m k)with
    | .val U _ y=>some ⟨T,x,Y6 s k (.val U (.u false) y)⟩
    |_=>none
   | .tm _ (.bor r [])=>match s.get (.m r)with
    | .val U _ y=>some ⟨T,x,Y6 s r (.val U (.u false) y)⟩
    |_=>none
   |_=>none
 |none=>none
theorem R.freezeM(hs:g.soft=false)(h:R n W0 w X F H s a){k:Nat}{T:Ty}{f:Fl}{x:T.den}(hg:s.get (.m k)= .val T f x)(hf:f.live=true):
  R n W0 w (fun b=>X b\/b∈F (.m k)) (Qg F (.m k) []) H (Y6 s k (.val T (.u false) x)) a/\ ∃vs,Qp W0.gh a (.m k)=Xz T vs/\rd w (fun b=>X b\/b∈F (.m k)) W0.B false T x vs []:=by
 have hs:=h.slots (.m k);rw[hg]at hs;obtain⟨vs,Z,h2⟩:=hs;have M:rd w (fun b=>X b\/b∈F (.m k)) W0.B false T x vs []:=K6 (fun _ h=> .inl h) hf h2 (fun _ h=> .inr h);have h3:=R.give hs (h.takeM hg);have e1:Qg (Qg F (.m k) []) (.m k) []=Qg F (.m k) []:=by funext j;by_cases c:j= .m k<;>simp[Qg,c]
 have P:=h3.turn (r:=k) (t:= .val T (.u false) x) (S':=[]) (H':=H) h3.below (Nat.le_refl _) (fun _ _=>rfl) (fun _ _ _ _=>rfl) (by simp[Qg]) (by simpa using h.hnodup)
  (by rw[Yp];simp) (fun e T f x b S Q=>by rw[Yp]at Q;simp at Q) ⟨vs,Z,by unfold rdF;exact M⟩
 rw[e1]at P;have h5:R n W0 w (fun b=>X b\/b∈F (.m k)) (Qg F (.m k) []) H (Y6 s k (.val T (.u false) x)) a:=
  {P with
   comps:=fun d i A=>by
    obtain⟨o,C⟩:=P.comps d i (by simpa[Yp]using A);refine⟨?_,C⟩;simp only[Yp,Key.m.injEq]at o⊢;split at o
    ·exact absurd o (by simp)
    ·rename_i hk;simpa[hk]using o
   slots:=fun j=>by
    have c:=P.slots j;have e2: (Y6 (Y6 s k .junk) k (.val T (.u false) x)).get j=(Y6 s k (.val T (.u false) x)).get j:=by simp only[Yp];split<;>rfl
    rw[e2]at c;have N: ∀r,(Y6 s k (.val T (.u false) x)).foul r=false->(Y6 (Y6 s k .junk) k (.val T (.u false) x)).foul r=false:=fun r A=>by
     simp only[Y6,St.foul,List.any_cons,Bool.or_eq_false_iff]at A⊢;exact⟨A.1,A⟩
    generalize (Y6 s k (.val T (.u false) x)).get j=u at c
    induction u with
    |bor r p=>
     refine⟨c.1,fun A=> ?_⟩;obtain⟨U,D⟩:=c.2 (Zxg N A);refine⟨U,?_⟩;unfold Xi at D⊢;have z: (Y6 (Y6 s k .junk) k (.val T (.u false) x)).get (.m r)=(Y6 s k (.val T (.u false) x)).get (.m r):=by simp only[Yp];split<;>rfl
     rw[z]at D;exact D
    |elp r p i q=>
     refine⟨c.1,fun A=> ?_⟩;obtain⟨e,t,V,O,I,D,E⟩:=c.2 (Zxg N A);refine⟨e,t,V,O,I,?_,E⟩;unfold Xi at D⊢;have z: (Y6 (Y6 s k .junk) k (.val T (.u false) x)).get (.m r)=(Y6 s k (.val T (.u false) x)).get (.m r):=by simp only[Yp];split<;>rfl
     rw[z]at D;exact D
    |bel r p i q=>
     refine⟨c.1,fun A he=> ?_⟩;obtain⟨e,t,V,O,I,x0,y,cs,D,E⟩:=c.2 (Zxg N A) (N _ he);refine⟨e,t,V,O,I,x0,y,cs,?_,E⟩;unfold Xi at D⊢;have z: (Y6 (Y6 s k .junk) k (.val T (.u false) x)).get (.m r)=(Y6 s k (.val T (.u false) x)).get (.m r):=by simp only[Yp];split<;>rfl
     rw[z]at D;exact D
    |cl f l=>
     refine⟨c.1,Z3e (fun r p v W=> ?_) c.2⟩;obtain⟨e,J,K,L,b,S',o,C,G⟩:=W;have z: (Y6 (Y6 s k .junk) k (.val T (.u false) x)).get (.m r)=(Y6 s k (.val T (.u false) x)).get (.m r):=by simp only[Yp];split<;>rfl
     rw[z]at o;exact⟨e,J,K,L,b,S',o,C,G⟩
    |ptr r p=>
     obtain⟨Y,e,J,K,L,b,S',o,C,G⟩:=c;have z: (Y6 (Y6 s k .junk) k (.val T (.u false) x)).get (.m r)=(Y6 s k (.val T (.u false) x)).get (.m r):=by simp only[Yp];split<;>rfl
     rw[z]at o;exact⟨Y,e,J,K,L,b,S',o,C,G⟩
    |aep r p i=>
     obtain⟨Y,e,J,K,L,b,S',O,t2,y2,o,C,G⟩:=c;have z: (Y6 (Y6 s k .junk) k (.val T (.u false) x)).get (.m r)=(Y6 s k (.val T (.u false) x)).get (.m r):=by simp only[Yp];split<;>rfl
     rw[z]at o;exact⟨Y,e,J,K,L,b,S',O,t2,y2,o,C,G⟩
    |pls hh l=>
     refine⟨c.1,Zr7 (fun _ h=>h) (fun _ _=>rfl) (fun r p v W=> ?_) c.2⟩;obtain⟨e,J,K,L,b,S',o,C,G⟩:=W;have z: (Y6 (Y6 s k .junk) k (.val T (.u false) x)).get (.m r)=(Y6 s k (.val T (.u false) x)).get (.m r):=by simp only[Yp];split<;>rfl
     rw[z]at o;exact⟨e,J,K,L,b,S',o,C,G⟩
    |gd g aa t ih=>
     intro A;obtain⟨o,C,G⟩:=c (N _ A);have z: (Y6 (Y6 s k .junk) k (.val T (.u false) x)).get (.m g)=(Y6 s k (.val T (.u false) x)).get (.m g):=by simp only[Yp];split<;>rfl
     rw[z]at o;exact⟨o,fun Q=>ih (C Q),G⟩
    |junk=>exact c
    |tup=>exact c
    |val T f x=>exact c
    |box e T f x=>exact c
    |shp T x=>exact c}
 exact⟨h5,vs,Z,M⟩
theorem Qwa(hs:g.soft=false)(h:R n W0 w X F H s a)(ht:tg.ok W0.gh a){x:Operand}{T:Ty}{y:T.den}{s':St}(hk:Qz6 s (op1 s tg x)=some ⟨T,y,s'⟩):
  ∃X' F' vs,(∀b,X b->X' b)/\a.eval x=Xz T vs/\rd w X' W0.B false T y vs []/\R n W0 w X' F' H s' a:=by
 unfold Qz6 at hk;split at hk
 ·rename_i E f G c;obtain⟨l,vs,S,v,u,I⟩:=Zfa h ht c;split at hk
  ·rename_i z;simp only[Osi,Sigma.mk.injEq]at hk;obtain⟨rfl,hk⟩:=hk;simp only[heq_eq_eq,Opi]at hk;obtain⟨rfl,rfl⟩:=hk;have:=Zi0 z u;subst this;exact⟨X,F,vs,fun _ h=>h,v,K6 (fun _ h=>h) l u (by simp),h⟩
  ·generalize d:op1 s tg x=o1 at hk c;split at hk
   ·rename_i k J K L;split at hk
    ·rename_i U A C j;simp only[Osi,Sigma.mk.injEq]at hk;obtain⟨rfl,hk⟩:=hk;simp only[heq_eq_eq,Opi]at hk;obtain⟨rfl,rfl⟩:=hk;obtain⟨rfl,_⟩:=Kp h ht d (by simp);have m:=(Zlh d).2.1;have d:=(Zlh d).2.2;simp only[j,Zxd]at d;cases d;simp only[Ztc]at c;split at c
     ·simp only[Osi,Sigma.mk.injEq]at c;obtain⟨rfl,c⟩:=c;simp only[heq_eq_eq,Opi]at c;obtain⟨rfl,rfl⟩:=c;obtain⟨o,e,p,q⟩:=R.freezeM hs h j l;exact⟨_,_,e,fun _ h=> .inl h,(Ye W0 a m).symm.trans p,q,o⟩
     ·cases c
    ·cases hk
   ·rename_i k r;obtain⟨_,M,D⟩:=Kp h ht d (by simp);split at hk
    ·rename_i U A C j;simp only[Osi,Sigma.mk.injEq]at hk;obtain⟨rfl,hk⟩:=hk;simp only[heq_eq_eq,Opi]at hk;obtain⟨rfl,rfl⟩:=hk;simp only[Ztc,j]at c;split at c
     ·cases c
     ·rename_i i;obtain⟨N,t⟩:=D i;unfold Xi at t;rw[j]at t;obtain⟨_,_,hv⟩:=t;split at c
      ·simp only[Osi,Sigma.mk.injEq]at c;obtain⟨rfl,c⟩:=c;simp only[heq_eq_eq,Opi]at c;obtain⟨rfl,rfl⟩:=c;obtain⟨o,e,p,q⟩:=R.freezeM hs h j l;exact⟨_,_,e,fun _ h=> .inl h,hv.trans p,q,o⟩
      ·cases c
    ·cases hk
   ·cases hk
 ·cases hk
theorem Q5p(u:List UInt8)(i j:Nat): (ByteArray.mk ⟨u⟩).extract i j=⟨⟨(u.drop i).take (j-i)⟩⟩:=by
 apply ByteArray.ext;simp[List.extract_eq_take_drop]
def Z53(s:St)(tg:Xo)(x:Option Operand)(d:Int):Option Int:=
 match x with
 |none=>some d
 |some x=>match Zq9 s (op1 s tg x)with
  |some (_,j)=>some j
  |none=>none
def Qr8(τ:Tab)(s:St)(tg:Xo)(e:TypeId)(x:Operand)(lo hi:Option Operand):Option Res:=
 match τ e with
 |some .str=>match Wi s (op1 s tg x) .str with
  |some u=>match Z53 s tg lo 0,Z53 s tg hi (u.length:Int)with
   |some i,some j=>some ⟨.val .str (.u false) ((u.drop i.toNat).take (j.toNat-i.toNat)),s,false,some (0<=i/\i<=j/\j<=u.length)⟩
   |_,_=>none
  |none=>none
 |some (.slice e' t')=>match Qz6 s (op1 s tg x)with
  |some ⟨.slice e2 t,l,s'⟩=>match Z53 s tg lo 0,Z53 s tg hi (l.length:Int),decide (t'=t),τ e' with
   |some i,some j,true,some t2=>match decide (t2=t)with
    |true=>some ⟨.val (.slice e2 t) (.u false) ((l.drop i.toNat).take (j.toNat-i.toNat)),s',true,some (0<=i/\i<=j/\j<=l.length)⟩
    |false=>none
   |_,_,_,_=>none
  |_=>none
 |_=>none
theorem Zsb(h:R n W0 w X F H s a)(ht:tg.ok W0.gh a){x:Option Operand}{d j:Int}(hb:Z53 s tg x d=some j): (x=none/\j=d)\/ ∃y k,x=some y/\a.eval y= .int k j:=by
 unfold Z53 at hb;split at hb
 ·simp only[Osi]at hb;exact .inl ⟨rfl,hb.symm⟩
 ·rename_i y;split at hb
  ·rename_i k i hk;simp only[Osi]at hb;subst hb;exact .inr ⟨y,k,rfl,Zej h ht hk⟩
  ·cases hb
theorem Qo3(isS:Bool){len cap:Nat}(hlc:len<=cap){lo hi:Option Value}{i j:Int}(h0:0<=i)(h1:i<=j)(h2:j<=len)
  (hl: (lo=none/\i=0)\/ ∃k,lo=some (.int k i)) (hh: (hi=none/\j=len)\/ ∃k,hi=some (.int k j)) (w:World):
  (Instr.sliceBounds isS len cap lo hi none).run P w= .ok (i.toNat,j.toNat,cap) w:=by
 rcases hl with⟨rfl,rfl⟩| ⟨b,rfl⟩<;>rcases hh with⟨rfl,rfl⟩| ⟨c,rfl⟩
 ·simp[Instr.sliceBounds]
 ·have:j<=(cap:Int):=by omega
  have a:0<=j:=by omega
  simp[Instr.sliceBounds,Instr.sliceBound,asIntOf,a,this]
 ·simp[Instr.sliceBounds,Instr.sliceBound,asIntOf,h0,h1]
 ·have:j<=(cap:Int):=by omega
  have a:0<=j:=by omega
  simp[Instr.sliceBounds,Instr.sliceBound,asIntOf,a,this,h0];intro hh;omega
theorem Q06{α:Type}{r:α->List Value->List Nat->Prop}{sz:Nat}(hr: ∀x v S,r x v S->v.length=sz/\S=[]){l:List α}{vs:List Value}{S:List Nat}{i j:Nat}(hij:i<=j)(hj:j<=l.length)
  (h:Zaj r l vs S): ∃pre mid post,vs=pre++ (mid++post)/\pre.length=i*sz/\Zaj r ((l.drop i).take (j-i)) mid []/\mid.length=(j-i)*sz:=by
 have split: ∀{b c:List α} {vs:List Value} {S:List Nat},Zaj r (b++c) vs S-> ∃a d,vs=a++d/\Zaj r b a []/\Zaj r c d []:=by
  intro b
  induction b with
  |nil=>
   intro c vs S h;have:S=[]:=(Zeq (r':=fun _ _ _=>True) (fun x v S h=>⟨(hr x v S h).2,trivial⟩) h).1;subst this;exact⟨[],vs,rfl,⟨rfl,rfl⟩,h⟩
  |cons x b p=>
   intro c vs S ⟨a,d,S1,S2,e1,e2,h1,f⟩;obtain⟨m,q,rfl,g,k⟩:=p f;have:=(hr _ _ _ h1).2;subst this;exact⟨a++m,q,by simp[e1],⟨a,m,[],[],rfl,rfl,h1,g⟩,k⟩
 have e:l=l.take i++ ((l.drop i).take (j-i)++l.drop j):=by
  have f:l.drop j=(l.drop i).drop (j-i):=by rw[List.drop_drop];congr 1;omega
  rw[f,List.take_append_drop,List.take_append_drop]
 rw[e]at h;obtain⟨a,d,rfl,g,k⟩:=split h;obtain⟨s,t,rfl,o,u⟩:=split k;refine⟨a,s,t,rfl,?_,o,?_⟩
 ·rw[Zrb (n:=sz) (fun x v S h=>(hr x v S h).1) g,List.length_take,Nat.min_eq_left (by omega)]
 ·rw[Zrb (n:=sz) (fun x v S h=>(hr x v S h).1) o,List.length_take,List.length_drop,Nat.min_eq_left (by omega)]
theorem Qr9(hs:g.soft=false)(h:R n W0 w X F H s a)(ht:tg.ok W0.gh a)(hτ:τ.ok P){e:TypeId}{x:Operand}{lo hi:Option Operand}(ho:o.op= .slice e x lo hi none){r:Res}(hr:Qr8 τ s tg e x lo hi=some r):Zqd P n W0 w X H s a o r:=by
 unfold Qr8 at hr;split at hr
 ·rename_i E;split at hr
  ·rename_i u hu;split at hr
   ·rename_i i j f m;simp only[Osi]at hr;subst hr;have e1:=Zuz h ht hu;refine Zps h rfl fun G=>⟨_,?_,Qxf _⟩
    obtain⟨I,J,L⟩:0<=i/\i<=j/\j<=u.length:=G;have M:=Qo3 (P:=P) false (len:=u.length) (cap:=u.length) (Nat.le_refl _) (lo:=lo.map a.eval) (hi:=hi.map a.eval) I J L
     ((Zsb h ht f).imp (fun⟨c,d⟩=>⟨by simp[c],d⟩) fun⟨y,k,c,d⟩=>⟨k,by simp[c,d]⟩)
     ((Zsb h ht m).imp (fun⟨c,d⟩=>⟨by simp[c],d⟩) fun⟨y,k,c,d⟩=>⟨k,by simp[c,d]⟩) w
    simp only[execOp,ho,e1,Sem.run_bind,Instr.sliceAt,run_underlying (hτ _ _ E).str,Result.andThen_ok,Instr.slice,Option.map_none,Xa1,Sem.run_pure];simp[M,Q5p]
   ·cases hr
  ·cases hr
 ·rename_i e' t' E;split at hr
  ·rename_i e2 t l s' hl;split at hr
   ·rename_i i j p f m hd N;split at hr
    ·rename_i O;simp only[Osi]at hr;subst hr;have U:t'=t:=Ode hd;have V:p=t:=Ode O;subst U;subst V;obtain⟨X',F',vs,hX,c,d,h3⟩:=Qwa hs h ht hl;obtain⟨v,xs,S1,S2,rfl,hS,k1,k2⟩:=d;intro G K Q hK;obtain⟨I,J,L⟩:0<=i/\i<=j/\j<=l.length:=G;obtain⟨ag,ac,W,cap,rfl,Y,ah,Z⟩:=k1;have M:=Qo3 (P:=P) true (len:=l.length) (cap:=cap) Y (lo:=lo.map a.eval) (hi:=hi.map a.eval) I J L
      ((Zsb h ht f).imp (fun⟨c,d⟩=>⟨by simp[c],d⟩) fun⟨y,k,c,d⟩=>⟨k,by simp[c,d]⟩)
      ((Zsb h ht m).imp (fun⟨c,d⟩=>⟨by simp[c],d⟩) fun⟨y,k,c,d⟩=>⟨k,by simp[c,d]⟩) w
     have hx:a.eval x= .slice W l.length cap:=c;have z: (execOp a.eval o).run P w= .ok (.value (.slice (if cap=i.toNat then W else W.map (·.add (i.toNat*p.size))) (j.toNat-i.toNat) (cap-i.toNat))) w:=by
      simp only[execOp,ho,hx,Sem.run_bind,Instr.sliceAt,run_underlying (hτ _ _ E).slice.1,Result.andThen_ok,Instr.slice,Option.map_none,M,(hτ _ _ N).sizeOf w,Sem.run_pure]
     unfold Oper.wp;rw[z];refine hK _ X' F' [] w hX h3 ⟨[_],rfl,?_⟩ (by simp) ⟨fun _=>Old.refl w,h.kept (Old.refl w)⟩;unfold rdF;obtain⟨pre,A,ae,m1,m2,m3,m4⟩:=Q06 (sz:=p.size) (i:=i.toNat) (j:=j.toNat) (fun x v S h=>⟨X5 h,Zgg h⟩) (by omega) (by omega) k2;have b: ((l.drop i.toNat).take (j.toNat-i.toNat)).length=j.toNat-i.toNat:=by simp;omega
     refine⟨_,A,[],[],rfl,rfl,⟨rfl,by rw[m4,b],_,_,by rw[b],by rw[b];omega,by omega,?_⟩,m3⟩;rcases Z with⟨rfl,aj,rfl⟩| ⟨C,rfl,aa,Z⟩
     ·refine .inl ⟨by split<;>rfl,by rw[b];omega,by omega⟩
     ·by_cases B:cap=i.toNat
      ·refine .inr ⟨C,by simp[B],.inl (by rw[b];omega),fun q u D=> ?_⟩;have ab:j.toNat-i.toNat=0:=by omega
       have:A=[]:=List.eq_nil_of_length_eq_zero (by rw[m4,ab,Nat.zero_mul]);subst this;simp at D
      ·refine .inr ⟨C.add (i.toNat*p.size),by simp[B],?_,fun q u D=> ?_⟩
       ·have: (C.add (i.toNat*p.size)).block=C.block:=by unfold Addr.add;split<;>rfl
        rw[this];by_cases hz: ((l.drop i.toNat).take (j.toNat-i.toNat)).length=0
        ·exact .inl hz
        ·exact .inr (aa.resolve_left (by rw[b]at hz;omega))
       ·rw[Addr.add_add',<-m2];apply Z;rw[m1,List.getElem?_append_right (by omega),show pre.length+q-pre.length=q from by omega,List.getElem?_append_left (List.getElem?_eq_some_iff.1 D).1];exact D
    ·cases hr
   ·cases hr
  ·cases hr
 ·cases hr
end
end Go.Am
namespace Go.Am
open Go.RowKit
section
variable {P:Program} {g:K9} {W0:Zam g} {w w':World} {X X':Nat->Prop} {B n:Nat} {own:Bool} {s:St} {F:Key->List Nat} {a:Act} {H H':List Nat} {o:Oper} {tg:Xo} {τ:Tab} {gh:Nat->Value}
theorem R.sub(h:R n W0 w X F H s a)(hin: ∀b∈H',b∈H)(hn:H'.Nodup):R n W0 w X F H' s a:=
 {h with
  hown:=fun b c=>h.hown b (hin b c)
  hnodup:=hn
  hdisj:=fun k b c d=>h.hdisj k b c (hin b d)}
theorem hold(w:World)(ob:Obj)(b:Nat)(h:b<w.heap.size): (w.alloc ob).heap[b]? =w.heap[b]? :=by
 show(w.heap.push ob)[b]? =w.heap[b]?;rw[Array.getElem?_push,if_neg (Nat.ne_of_lt h)]
theorem Qew(w:World)(ob:Obj): (w.alloc ob).heap[w.heap.size]? =some ob:=by
 show(w.heap.push ob)[w.heap.size]? =_;simp
theorem R.alloc(h:R n W0 w X F H s a)(ob:Obj):R n W0 (w.alloc ob) X F (w.heap.size::H) s a:=by
 have d: ∀b,b<w.heap.size->(w.alloc ob).heap[b]? =w.heap[b]? :=fun b c=>hold w ob b c;have f:=h.world (w':=w.alloc ob) (h.below.step ((Below.refl _ w).alloc (Nat.le_refl _) ob)) (by simp) (fun b c=>d b (h.xlt b c)) (fun k b c=>d b (h.own k b c).2.1);exact f.hand (S:=[w.heap.size]) (by
   intro b c;simp only[List.mem_singleton]at c;subst c;exact⟨h.below.new,by simp,fun hx=>Nat.lt_irrefl _ (h.xlt _ hx)⟩) (by simp)
  (by intro k b c e;simp only[List.mem_singleton]at e;subst e;exact Nat.lt_irrefl _ (h.own k _ c).2.1)
  (by intro b c e;simp only[List.mem_singleton]at c;subst c;exact Nat.lt_irrefl _ (h.hown _ e).2.1)
theorem Q4u{T:Ty}{f:Fl}{x:T.den}{vs:List Value}{S:List Nat}(h:rdF w X B T f x vs S)(hX: ∀b,X b->b<w.heap.size)(hS: ∀b∈S,b<w.heap.size)(ob:Obj):rdF (w.alloc ob) X B T f x vs S:=
 Zq6 (fun _ h=>h) (fun b a=>hold w ob b (hX b a)) h (fun b a=>hold w ob b (hS b a))
theorem Q1u{T:Ty}(h:T.plain=true): ∀u∈Vh T,u.oneCell'=true:=Zkc (w:=default) (X:=fun _=>False) (B:=0) (own:=false) (Zsz h)
theorem Zsa{T:Ty}(h:T.plain=true): (Vh T).length=T.size:=X5 (w:=default) (X:=fun _=>False) (B:=0) (own:=false) (Zsz h)
theorem Qga{T:Ty}{vs:List Value}(h1: ∀u∈vs,u.oneCell'=true)(hl:vs.length=T.size): (Xz T vs).cells=vs.toArray:=by
 apply Array.toList_inj.mp;rw[Z0t h1 hl]
theorem Zy1{T:Ty}(h:T.plain=true): (Xz T (Vh T)).cells=(Vh T).toArray:=Qga (Q1u h) (Zsa h)
def Qai(s:St)(x:Operand)(i:Nat):Option Res:=
 match x with
 | .tmp t=>match Nat.blt t 1048576 with
  |false=>none
  |true=>match s.get (.c t i)with
   | .val T f y=>match f.live,Znv f T with
    |true,true=>some ⟨.val T f y,s,false,none⟩
    |true,false=>some ⟨.val T f y,{s with env:=(.c t i,.junk)::s.env},true,none⟩
    |_,_=>none
   |_=>none
 |_=>none
theorem Qom{t i:Nat}{u:Tm}{S0:List Nat}{v:Value}{S:List Nat}: ∀{z:Tm},vt gh w X B s F a v S z->vt gh w X B {s with env:=(.c t i,u)::s.env} (Qg F (.c t i) S0) a v S z:=by
 have g: ∀r,St.get {s with env:=(Key.c t i,u)::s.env} (.m r)=s.get (.m r):=fun r=>by simp[St.get,Z2]
 have C: ∀r,Qg F (.c t i) S0 (.m r)=F (.m r):=fun r=>by simp[Qg]
 have E: ∀{r p v U},Xi gh w s F a r p v U->Xi gh w {s with env:=(Key.c t i,u)::s.env} (Qg F (.c t i) S0) a r p v U:=by
  intro r p v U h;unfold Xi at*
  rw[g,C];exact h
 intro z h
 induction z with
 |junk=>exact h
 |tup=>exact h
 |val T f x=>exact h
 |box e T f x=>exact h
 |shp T x=>exact h
 |ptr r p=>
  obtain⟨D,e,T,f,x,b,k,d,j,o⟩:=h;exact⟨D,e,T,f,x,b,k,by rw[g];exact d,by rw[C];exact j,o⟩
 |aep r p i=>
  obtain⟨D,e,T,f,x,b,k,n,I,y,d,j,o⟩:=h;exact⟨D,e,T,f,x,b,k,n,I,y,by rw[g];exact d,by rw[C];exact j,o⟩
 |bor r p=>exact⟨h.1,fun A=>let⟨U,hU⟩:=h.2 A;⟨U,E hU⟩⟩
 |elp r p i q=>exact⟨h.1,fun A=>let⟨e,t,ad,nn,cap,hU,rest⟩:=h.2 A;⟨e,t,ad,nn,cap,E hU,rest⟩⟩
 |pls M l=>
  refine⟨h.1,Zr7 (fun _ h=>h) (fun _ _=>rfl) (fun r p v G=> ?_) h.2⟩;obtain⟨e,T,f,x,b,k,d,j,o⟩:=G;exact⟨e,T,f,x,b,k,by rw[g];exact d,by rw[C];exact j,o⟩
 |bel r p i q=>exact⟨h.1,fun A J=>let⟨e,t,ad,nn,cap,x0,y,cs,hU,k1,k2,k3,rest⟩:=h.2 A J;⟨e,t,ad,nn,cap,x0,y,cs,E hU,k1,k2,by rw[C];exact k3,rest⟩⟩
 |cl f l=>
  refine⟨h.1,Z3e (fun r p v G=> ?_) h.2⟩;obtain⟨e,T,f,x,b,k,d,j,o⟩:=G;exact⟨e,T,f,x,b,k,by rw[g];exact d,by rw[C];exact j,o⟩
 |gd N H t K=>exact fun A=>let⟨D,d,j⟩:=h A;⟨by rw[g];exact D,fun L=>K (d L),j⟩
theorem R.takeC(h:R n W0 w X F H s a){t i:Nat}:R n W0 w X (Qg F (.c t i) []) (F (.c t i)++H) {s with env:=(.c t i,.junk)::s.env} a where
 size:=h.size
 defers:=h.defers
 below:=h.below
 glob:=h.glob
 gx:=h.gx
 xs:=h.xs
 fix:=h.fix
 xlt:=h.xlt
 xin:=h.xin
 x0:=h.x0
 own:=fun k b f=>by
  simp only[Qg]at f;split at f
  ·cases f
  ·exact h.own k b f
 nodup:=fun k=>by
  simp only[Qg];split
  ·simp
  ·exact h.nodup k
 disj:=fun k o b f g=>by
  simp only[Qg]at f g;split at f
  ·cases f
  ·split at g
   ·cases g
   ·exact h.disj k o b f g
 hown:=fun b f=>(List.mem_append.1 f).elim (h.own _ b) (h.hown b)
 hnodup:=List.nodup_append.2 ⟨h.nodup _,h.hnodup,fun x hx y p e=>h.hdisj _ x hx (by rw[e];exact p)⟩
 hdisj:=fun k b f m=>by
  simp only[Qg]at f;split at f
  ·cases f
  ·rename_i hk;exact(List.mem_append.1 m).elim (fun m=>hk (h.disj _ _ b f m)) (h.hdisj k b f)
 comps:=fun d j l=>by
  simp only[St.get,Z2]at l⊢;split at l
  ·exact absurd rfl l
  ·simpa[St.get]using h.comps d j l
 slots:=fun k=>by
  by_cases hk:k= .c t i
  ·subst hk;simp[St.get,Z2,vt,Qg]
  ·have q:St.get {s with env:=(Key.c t i,Tm.junk)::s.env} k=s.get k:=by simp[St.get,Z2,Ne.symm hk]
   have r:Qg F (.c t i) [] k=F k:=by simp[Qg,hk]
   rw[q,r];exact Qom (h.slots k)
theorem Qip(h:R n W0 w X F H s a){x:Operand}{i:Nat}(ho:o.op= .extract x i){r:Res}(hr:Qai s x i=some r):Zqd P n W0 w X H s a o r:=by
 unfold Qai at hr;split at hr
 ·rename_i t;split at hr
  ·cases hr
  rename_i e;split at hr
  ·rename_i T f y k;have l:=h.slots (.c t i);rw[k]at l;obtain⟨m,p,d⟩:=l;obtain⟨_,g,q,u⟩:=h.comps t i (by rw[k];simp);have hv:g[i]? =some (Qp W0.gh a (.c t i)):=by
    have j:Zlw W0.gh a t= .tuple g:=q;simp[Qp,j,Array.getD_eq_getD_getElem?,u]
   have b: (execOp a.eval o).run P w= .ok (.value (Qp W0.gh a (.c t i))) w:=by
    have:a.eval (.tmp t)= .tuple g:=(Ye W0 a e).symm.trans q;simp[execOp,ho,this,Instr.extract,hv]
   split at hr
   ·rename_i v;simp only[Osi]at hr;subst hr;have:=Zi0 v d;rw[this]at d;exact Zps h rfl fun _=>⟨_,b,m,p,d⟩
   ·simp only[Osi]at hr;subst hr;intro _ K Q z;unfold Oper.wp;rw[b];exact z _ X _ (F (.c t i)) w (fun _ h=>h) h.takeC ⟨m,p,d⟩ (by simp) ⟨fun _=>Old.refl w,h.kept (Old.refl w)⟩
   ·cases hr
  ·cases hr
 ·cases hr
def Qor(τ:Tab)(s:St)(e:TypeId):Option Res:=
 match τ e with
 |some T=>some ⟨.box e T (.u true) (zero T),s,false,none⟩
 |none=>none
theorem Qos(h:R n W0 w X F H s a)(hτ:τ.ok P){e:TypeId}(ho:o.op= .alloc e){r:Res}(hr:Qor τ s e=some r):Zqd P n W0 w X H s a o r:=by
 unfold Qor at hr;split at hr
 ·rename_i T c;simp only[Osi]at hr;subst hr;intro _ K Q d;obtain⟨i,f,_,_,g⟩:=(hτ _ _ c).size;have b: (execOp a.eval o).run P w= .ok (.value (.pointer (some ⟨w.heap.size,0,none⟩))) (w.alloc (.cells (Vh T).toArray e)):=by
   simp[execOp,ho,Instr.alloc,zeroValue,typeInfo,f,g,newVar,newRow,Zy1 (hτ _ _ c).plain]
  unfold Oper.wp;rw[b];exact d _ X F [w.heap.size] _ (fun _ h=>h) (h.alloc _) ⟨w.heap.size,_,[],rfl,rfl,Qew _ _,by unfold rdF;exact Zsz (hτ _ _ c).plain⟩ (fun _=>rfl) ⟨fun _=>Old.alloc _ _,h.kept (Old.alloc _ _)⟩
 ·cases hr
def Qzy(τ:Tab)(s:St)(tg:Xo)(e:TypeId)(x:Operand):Option Res:=
 match τ e with
 |some T=>match Ztj s (op1 s tg x) T with
  |some t=>some ⟨.box e t.T t.f t.x,t.s,t.moved,none⟩
  |none=>none
 |none=>none
theorem Qvm(h:R n W0 w X F H s a)(ht:tg.ok W0.gh a){e:TypeId}{x:Operand}(ho:o.op= .box e x){r:Res}(hr:Qzy τ s tg e x=some r):Zqd P n W0 w X H s a o r:=by
 unfold Qzy at hr;split at hr
 ·rename_i T u;split at hr
  ·rename_i t hk;simp only[Osi]at hr;subst hr;obtain⟨_,i,S,f,j,d,g,k,_⟩:=Zbg h ht hk;intro _ K Q l;have m: (a.eval x).cells=f.toArray:=by
    rw[j,Qga (Zh2 d) (X8 d)]
   have c: (execOp a.eval o).run P w= .ok (.value (.pointer (some ⟨w.heap.size,0,none⟩))) (w.alloc (.cells f.toArray e)):=by
    simp[execOp,ho,Instr.box,newVar,newRow,m]
   unfold Oper.wp;rw[c];refine l _ X i (w.heap.size::S) _ (fun _ h=>h) (g.alloc _) ⟨w.heap.size,_,S,rfl,rfl,Qew _ _,?_⟩ (fun p=>(k p).1) ⟨fun _=>Old.alloc _ _,h.kept (Old.alloc _ _)⟩;exact Q4u d h.xlt (fun b q=>(g.hown b (by simp[q])).2.1) _
  ·cases hr
 ·cases hr
theorem Qt9(off:Nat): ∀(ls:List Value) (k:Nat) (arr:Array Value) (A M C:List Value),arr.toList=A++ (M++C)->A.length=off+k->M.length=ls.length->
  ((ls.zipIdx k).foldl (fun cs (x:Value×Nat)=>cs.setIfInBounds (off+x.2) x.1) arr).toList=A++ (ls++C)
 | [],k,arr,A,M,C,h,_,a=>by
  have:M=[]:=List.eq_nil_of_length_eq_zero (by simpa using a);subst this;simpa using h
 |v::ls,k,arr,A,M,C,h,b,a=>by
  cases M with
  |nil=>simp at a
  |cons m M=>
   simp only[List.zipIdx_cons,List.foldl_cons];have:=Qt9 off ls (k+1) (arr.setIfInBounds (off+k) v) (A++ [v]) M C (by
    rw[Array.toList_setIfInBounds,h,<-b,List.set_append_right _ _ (Nat.le_refl _)];simp) (by simp[b];omega) (by simpa using a)
   rw[this];simp
theorem Zx7{place:Nat->Option (Nat×Nat)}{cs:Array Value}{i off size:Nat}{v:Value}{rest:List (Nat×Value)}{pre mid post:List Value}(hp:place i=some (off,size))
  (hcs:cs.toList=pre++ (mid++post)) (hoff:pre.length=off) (hmid:mid.length=size) (hv:v.cells.size=size):
  ∃cs',cs'.toList=pre++ (v.cells.toList++post)/\Instr.fill place cs ((i,v)::rest)=Instr.fill place cs' rest:=by
 have a:cs.size=pre.length+ (mid.length+post.length):=by rw[<-Array.length_toList,hcs];simp
 refine⟨v.cells.zipIdx.foldl (fun cs (x:Value×Nat)=>cs.setIfInBounds (off+x.2) x.1) cs,?_,?_⟩
 ·have:=Qt9 off v.cells.toList 0 cs pre mid post hcs (by omega) (by rw[hmid,Array.length_toList,hv]);rw[<-this];congr 1;rw[<-Array.foldl_toList];simp
 ·have b: ¬(v.cells.size≠size||off+v.cells.size>cs.size)=true:=by
   simp[hv];omega
  simp only[Instr.fill,hp];rw[if_neg b]
def Zwd(tg:Xo):List (Nat×Operand)->(T:Ty)->Fl->T.den->St->Bool->Option (Fl×T.den×St×Bool)
 | [],_,f,x,s,mv=>some (f,x,s,mv)
 | (i,y)::r,T,f,x,s,mv=>match Zx8 T i with
  |some U=>match Ztj s (op1 s tg y) U with
   |some t=>match Zt8 T x i ⟨t.T,t.x⟩with
    |some x'=>Zwd tg r T (Zqb f i t.f) x' t.s (mv||t.moved)
    |none=>none
   |none=>none
  |none=>none
theorem Z8u(ht:tg.ok W0.gh a){place:Nat->Option (Nat×Nat)}: ∀{parts:List (Nat×Operand)} {T:Ty} {f:Fl} {x:T.den} {s:St} {mv:Bool} {f':Fl} {x':T.den} {s':St} {mv':Bool} {F:Key->List Nat} {S:List Nat} {cs:Array Value},
  (∀i U,Zx8 T i=some U->place i=some (Ze2 T i,U.size))->R n W0 w X F (S++H) s a->rdF w X W0.B T f x cs.toList S->Zwd tg parts T f x s mv=some (f',x',s',mv')->
  ∃F' S' cs',Instr.fill place cs (parts.map fun p=>(p.1,a.eval p.2))=some cs'/\R n W0 w X F' (S'++H) s' a/\rdF w X W0.B T f' x' cs'.toList S'/\(mv'=false->s'=s)
 | [],T,f,x,s,mv,f',x',s',mv',F,S,cs,_,q,d,hb=>by
  simp only[Zwd,Osi,Opi]at hb;obtain⟨rfl,rfl,rfl,rfl⟩:=hb;exact⟨F,S,cs,rfl,q,d,fun _=>rfl⟩
 | (i,y)::r,T,f,x,s,mv,f',x',s',mv',F,S,cs,g,q,d,hb=>by
  simp only[Zwd]at hb;split at hb
  ·rename_i U A;split at hb
   ·rename_i t hk;split at hb
    ·rename_i K j;obtain⟨u,L,C,M,D,o,E,N,_⟩:=Zbg q ht hk;subst u;obtain⟨z,O⟩:=Q6l (x:=x) A;obtain⟨pre,P,G,Q,S2,V,W,I,Y,Z,m5⟩:=Qoh O d;have c:=Z0t (Zh2 o) (X8 o);have k: (a.eval y).cells.size=t.T.size:=by rw[D,<-Array.length_toList,c,X8 o]
     obtain⟨aa,J,g2⟩:=Zx7 (rest:=r.map fun p=>(p.1,a.eval p.2)) (g i _ A) W Y (X8 Z) k;rw[D,c]at J;have Qew:=m5 t.f ⟨t.T,t.x⟩ M C K j o;rw[<-J]at Qew;have v:R n W0 w X L ((Q++ (C++V))++H) t.s a:=by
      refine E.sub ?_ ?_
      ·intro b hb;rw[I];simp only[List.mem_append]at hb⊢;rcases hb with(hb|hb|hb)|hb<;>simp[hb]
      ·have:=E.hnodup;rw[I]at this;simp only[List.nodup_append,List.mem_append]at this⊢
       grind
     obtain⟨F',S',cs',k1,k2,k3,k4⟩:=Z8u ht g v Qew hb;refine⟨F',S',cs',by simpa[g2]using k1,k2,k3,fun e=> ?_⟩;have l: (mv||t.moved)=false:=by
      have m: ∀{r:List (Nat×Operand)} {T:Ty} {f:Fl} {x:T.den} {s:St} {mv:Bool} {f' x' s' mv'},Zwd tg r T f x s mv=some (f',x',s',mv')->mv'=false->mv=false:=by
       intro r
       induction r with
       |nil=>intro T f x s mv f' x' s' mv' h e;simp only[Zwd,Osi,Opi]at h;rw[h.2.2.2];exact e
       |cons p r ih=>
        intro T f x s mv f' x' s' mv' h e;simp only[Zwd]at h;split at h
        ·split at h
         ·split at h
          ·have:=ih h e;simp at this;exact this.1
          ·cases h
         ·cases h
        ·cases h
      exact m hb e
     simp only[Bool.or_eq_false_iff]at l;exact(k4 e).trans (N l.2).1
    ·cases hb
   ·cases hb
  ·cases hb
def Qo4(τ:Tab)(s:St)(tg:Xo)(e:TypeId)(parts:Array (Nat×Operand)):Option Res:=
 match τ e with
 |some T=>match T.isStruct with
  |true=>match Zwd tg parts.toList T (.u true) (zero T) s false with
   |some (f,x,s',mv)=>some ⟨.val T f x,s',mv,none⟩
   |none=>none
  |false=>none
 |none=>none
theorem Qyo{fs:List Field}{w:World}: ∀{T:Ty} {off:Nat},Zlr P fs T off=true->
  ∃ps:List (Nat×Nat),(fs.mapM fun f=>(Prod.mk f.offset<$>Go.sizeOf f.type:Sem (Nat×Nat))).run P w= .ok ps w/\ ∀i U,Zx8 T i=some U->ps[i]? =some (off+Ze2 T i,U.size):=by
 induction fs with
 |nil=>
  intro T off h;cases T<;>simp[Zlr]at h
  exact⟨[],by simp,fun i U c=>by simp[Zx8]at c⟩
 |cons f fs g=>
  intro T off h;cases T<;>simp only[Zlr]at h<;>first|cases h|skip
  rename_i a b;simp only[Oba,Nat.blt_eq]at h;obtain⟨⟨⟨k,l⟩,q⟩,m⟩:=h;obtain⟨ps,n,o⟩:=g m;obtain⟨j,p,e,_⟩:=Zml l;refine⟨(f.offset,j.size)::ps,?_,?_⟩
  ·have d:=n;simp[Go.sizeOf,typeInfo,p]at d⊢;rw[d];rfl
  ·intro i U c;cases i with
   |zero=>simp only[Zx8,Osi]at c;subst c;simp[Ze2,Onb k,e]
   |succ i=>simp only[Zx8]at c;rw[List.getElem?_cons_succ,o i U c];simp[Ze2];omega
theorem Qo5(h:R n W0 w X F H s a)(ht:tg.ok W0.gh a)(hτ:τ.ok P){e:TypeId}{parts:Array (Nat×Operand)}(ho:o.op= .build e parts){r:Res}(hr:Qo4 τ s tg e parts=some r):Zqd P n W0 w X H s a o r:=by
 unfold Qo4 at hr;split at hr
 ·rename_i T j;split at hr
  ·rename_i b;split at hr
   ·rename_i f x N O q;simp only[Osi]at hr;subst hr;obtain⟨t,v,k⟩:=(hτ _ _ j).struct b;obtain⟨i,y,_,_,z⟩:=(hτ _ _ j).size;obtain⟨m,A,C⟩:=Qyo (P:=P) (w:=w) k;have l:rdF w X W0.B T (.u true) (zero T) (Vh T).toArray.toList []:=by unfold rdF;exact Zsz (hτ _ _ j).plain
    obtain⟨D,E,c,p,G,I,J⟩:=Z8u (H:=H) (S:=[]) ht (place:=(m.toArray[·]?)) (fun i U L=>by have:=C i U L;simpa using this) (by simpa using h) l q;intro _ K Q M;have d: (t.mapM fun f=>(Prod.mk f.offset<$>Go.sizeOf f.type:Sem (Nat×Nat))).run P w= .ok m.toArray w:=by
     rw[Array.mapM_eq_mapM_toList,Sem.run_map,A];rfl
    have g: (execOp a.eval o).run P w= .ok (.value (.agg c)) w:=by
     simp only[execOp,ho,Sem.run_bind,Instr.build,zeroValue,typeInfo,Sem.run_pure,run_underlying v,Result.andThen_ok];simp[y,z,Zy1 (hτ _ _ j).plain];rw[d];simp only[List.getElem?_toArray]at p;simp[p]
    unfold Oper.wp;rw[g];refine M _ X D E w (fun _ h=>h) G ⟨c.toList,?_,I⟩ J ⟨fun _=>Old.refl w,h.kept (Old.refl w)⟩;cases T<;>simp[Ty.isStruct]at b<;>simp[Xz]
   ·cases hr
  ·cases hr
 ·cases hr
end
end Go.Am
namespace Go.Am
open Go.RowKit
section
variable {P:Program} {g:K9} {W0:Zam g} {w w':World} {X X':Nat->Prop} {B n:Nat} {own:Bool} {s:St} {F:Key->List Nat} {a:Act} {H H':List Nat} {o:Oper} {tg:Xo} {τ:Tab} {gh:Nat->Value}
theorem Qt8: ∀{T:Ty} {x:T.den} {i:Nat} {y:TV},fld T x i=some y->Ze2 T i+y.1.size<=T.size
 | .pair a b,x,0,y,h=>by simp only[fld,Osi]at h;subst h;simp[Ze2,Ty.size]
 | .pair a b,x,i+1,y,h=>by
  simp only[fld]at h;have:=Qt8 h;simp only[Ze2,Ty.size];omega
theorem Qiq: ∀{T:Ty} {x:T.den} {i j:Nat} {u v:TV},fld T x i=some u->fld T x j=some v->i<j->Ze2 T i+u.1.size<=Ze2 T j
 | .pair a b,x,0,j+1,u,v,h,_,_=>by simp only[fld,Osi]at h;subst h;simp[Ze2]
 | .pair a b,x,i+1,j+1,u,v,h,c,d=>by
  simp only[fld]at h c;have:=Qiq h c (by omega);simp only[Ze2];omega
theorem Qwt: ∀{p:List Nat} {T:Ty} {x:T.den} {y:TV},Zdx T x p=some y->J1 T p+y.1.size<=T.size
 | [],T,x,y,h=>by simp only[Zdx,Osi]at h;subst h;simp[J1]
 |i::p,T,x,y,h=>by
  simp only[Zdx]at h;split at h
  ·rename_i z a;have b:=Qwt h;have c:=Qt8 a;simp only[J1,Z58 a];omega
  ·cases h
theorem Qu7: ∀{T:Ty} {x x':T.den} {i j:Nat} {y:TV},Zt8 T x i y=some x'->j≠i->fld T x' j=fld T x j
 | .pair a b,x,x',0,j,y,h,c=>by
  simp only[Zt8,Option.map_eq_some_iff]at h;obtain⟨z,_,rfl⟩:=h;cases j with
  |zero=>exact absurd rfl c
  |succ j=>rfl
 | .pair a b,x,x',i+1,j,y,h,c=>by
  simp only[Zt8,Option.map_eq_some_iff]at h;obtain⟨z,d,rfl⟩:=h;cases j with
  |zero=>rfl
  |succ j=>exact Qu7 (T:=b) d (by omega)
theorem Xag{T:Ty}{x x':T.den}{i j:Nat}{p q:List Nat}{y:TV}(h:Z8a T x (i::p) y=some x')(hj:j≠i):Zdx T x' (j::q)=Zdx T x (j::q):=by
 simp only[Z8a]at h;split at h
 ·split at h
  ·simp only[Zdx,Qu7 h hj]
  ·cases h
 ·cases h
theorem Qvu{α:Type}{pre mid vs post:List α}{k m:Nat}(hl:mid.length=vs.length)(hk:k+m<=pre.length\/pre.length+mid.length<=k): ((pre++ (vs++post)).drop k).take m=((pre++ (mid++post)).drop k).take m:=by
 apply List.ext_getElem?;intro t;rw[List.getElem?_take,List.getElem?_take];split
 ·rename_i a;rw[List.getElem?_drop,List.getElem?_drop];rcases hk with hk|hk
  ·rw[List.getElem?_append_left (by omega),List.getElem?_append_left (by omega)]
  ·rw[List.getElem?_append_right (by omega),List.getElem?_append_right (by omega),List.getElem?_append_right (by omega),List.getElem?_append_right (by omega),hl]
 ·rfl
def Xfh(s:St)(r:Nat)(p:List Nat)(t:Tm):St:=
 match p with
 | []=>Y6 s r t
 |i::_=>Xat s r i t
def Qgm(s:St)(r:Nat)(p:List Nat)(f:Fl)(y:TV):Option St:=
 match s.get (.m r)with
 | .box e U g z=>match Zdx U z p with
  |some u=>match decide (u.1=y.1),Z8a U z p y with
   |true,some z'=>some (Xfh s r p (.box e U (Zp4 g p f) z'))
   |_,_=>none
  |none=>none
 |_=>none
theorem R.setRoot(h:R n W0 w X F H s a){r:Nat}{p:List Nat}{f:Fl}{y:TV}{s':St}(hs:Qgm s r p f y=some s'){vs:List Value}{S:List Nat}(hH:H=S++H')
  (hv:rdF w X W0.B y.1 f y.2 vs S) {b:Nat} (hb: ∃S0,F (.m r)=b::S0) {e:TypeId} {U:Ty} {g:Fl} {z:U.den} (hg:s.get (.m r)= .box e U g z):
  ∃w' F',(storeCells ⟨b,J1 U p,none⟩ vs).run P w= .ok () w'/\R n W0 w' X F' H' s' a/\ ∀k,k≠b->w'.heap[k]? =w.heap[k]? :=by
 unfold Go.Am.Qgm at hs;rw[hg]at hs;simp only at hs;split at hs
 ·rename_i u hu;split at hs
  ·rename_i z' hd hz;simp only[Osi]at hs;subst hs;have J:=h.slots (.m r);rw[hg]at J;obtain⟨o,c,S',l1,l2,Z,l4⟩:=J;obtain⟨S0,D⟩:=hb;rw[D]at l2;obtain⟨rfl,rfl⟩:=List.cons.inj l2;have aa:u.1=y.1:=Ode hd;have x:b∈F (.m r):=by rw[D];simp
   have ab: ∀k o,k≠Key.m r->o∈F k->o≠b:=fun k o hk l e=>hk (h.disj k (.m r) o l (by rw[e];exact x));have ac: ∀o∈H,o≠b:=fun o l e=>h.hdisj (.m r) b x (by rw[<-e];exact l);generalize K: (c.toList.take (J1 U p+0)++vs++c.toList.drop (J1 U p+0+vs.length)).toArray=cc;have d: ∀k,k≠b->(w.setRow b cc).heap[k]? =w.heap[k]? :=fun k hk=>setRow_other w b k _ hk;have ad:rdF (w.setRow b cc) X W0.B U g z c.toList S0:=
    Zq6 (fun _ h=>h) (fun o l=>d o fun e=>(h.own _ b x).2.2 (by rw[<-e];exact l)) l4
     (fun o l=>d o fun e=>by
      have:=h.nodup (.m r);rw[D]at this;exact(List.nodup_cons.1 this).1 (by rw[<-e];exact l))
   have ae:rdF (w.setRow b cc) X W0.B y.1 f y.2 vs S:=
    Zq6 (fun _ h=>h) (fun o l=>d o fun e=>(h.own _ b x).2.2 (by rw[<-e];exact l)) hv (fun o l=>d o (ac o (by rw[hH];simp[l])))
   obtain⟨pre,A,t,L,S2,M,m1,m2,m3,m4,m5⟩:=Zfc hu ad;have E:A.length=vs.length:=by rw[X8 m4,X8 hv,aa]
   have aj:c.size=pre.length+ (A.length+t.length):=by rw[<-Array.length_toList,m1];simp
   have N:=run_storeCells_at P b (J1 U p) e vs 0 c w Z (by omega) (Zh2 hv);rw[K]at N;have e1:cc=(pre++ (vs++t)).toArray:=by
    rw[<-K,m1,<-m3];have:List.drop (pre.length+0+vs.length) (pre++ (A++t))=t:=by
     rw[Nat.add_zero,<-E,<-List.append_assoc,List.drop_left' (by simp)]
    rw[this];simp
   have O:=h.nodup (.m r);rw[D,m2]at O;have ag:W0.below (w.setRow b cc):=
    ⟨h.below.os,h.below.tape,h.below.output,by simpa[World.setRow]using h.below.size,fun k hk=>(d k (W0.sep hk (h.own _ b x).1)).trans (h.below.block k hk)⟩
   refine⟨w.setRow b cc,Qg F (.m r) (b:: (L++ (S++M))),N,?_,d⟩;have hT:Z1g W0.gh w (w.setRow b cc) s (Xfh s r p (.box e U (Zp4 g p f) z')) F (Qg F (.m r) (b:: (L++ (S++M)))) a r (.box e U (Zp4 g p f) z'):=by
    cases p with
    |nil=>exact Qkr
    |cons i p=>
     refine Q1o (by simp) fun j q v U' hj hv=> ?_;unfold Xi at hv⊢;rw[hg]at hv;rw[Qsj];simp only[if_true];obtain⟨b2,c2,ah,y2,k1,k2,Q,k4,k5⟩:=hv;rw[D]at k1;obtain⟨rfl,_⟩:=List.cons.inj k1;rw[Z]at k2;simp only[Osi,Obj.cells.injEq]at k2;obtain⟨rfl,_⟩:=k2;refine⟨b,cc,L++ (S++M),y2,by simp[Qg],setRow_heap w b c _ e _ Z,by rw[Xag hz hj];exact Q,k4,?_⟩;rw[k5,e1,m1];congr 1;have ho: ∀{u':TV},Zdx U z (i::p)=some u'->J1 U (j::q)+y2.1.size<=J1 U (i::p)\/J1 U (i::p)+u'.1.size<=J1 U (j::q):=fun {u'} C=>by
      simp only[Zdx]at C Q;split at C
      ·rename_i a1 G;split at Q
       ·rename_i a2 I;have g1:=Qwt C;have g2:=Qwt Q;simp only[J1,Z58 G,Z58 I];rcases Nat.lt_or_gt_of_ne hj with hlt|hlt
        ·have:=Qiq I G hlt;omega
        ·have:=Qiq G I hlt;omega
       ·cases Q
      ·cases C
     have hm:A.length=u.1.size:=by rw[X8 m4]
     exact(Qvu E (by rw[m3,hm];exact ho hu)).symm
   refine h.turn' hT ag (by simp[World.setRow]) (fun o l=>d o fun e=>(h.own _ b x).2.2 (by rw[<-e];exact l))
    (fun k o hk l=>d o (ab k o hk l)) ?_ ?_ (by rw[hg];simp) ?_ ⟨b,_,L++ (S++M),l1,rfl,setRow_heap w b c _ e _ Z,?_⟩
   ·intro q hq;rw[D,m2,hH];simp only[List.mem_append,List.mem_cons]at hq⊢
    grind
   ·have hn:=h.hnodup;rw[hH]at hn;have V: ∀q,q∈b:: (L++ (S2++M))->q∉S++H':=fun q hq=>by rw[<-hH];exact h.hdisj (.m r) q (by rw[D,m2];exact hq)
    simp only[List.nodup_append,List.nodup_cons,List.mem_append,List.mem_cons,List.cons_append]at hn O V⊢
    grind
   ·intro e2 T2 f2 x2 b2 ah W Y;rw[hg]at W;cases W;rw[D]at Y;obtain⟨rfl,_⟩:=List.cons.inj Y;exact⟨_,_,_,rfl,rfl⟩
   ·have:=m5 f y vs S z' hz ae;rw[e1];rw[e1]at this;simpa using this
  ·cases hs
 ·cases hs
def Fl.allU(b:Bool):Fl->Bool
 | .u c=>match b,c with|true,true=>true|false,false=>true|_,_=>false
 | .p f g=>f.allU b&&g.allU b
 | .d=>false
theorem Qge{b:Bool}: ∀{T:Ty} {f:Fl} {x:T.den} {vs:List Value} {S:List Nat},f.allU b=true->rdF w X B T f x vs S->rd w X B b T x vs S
 |T,.d,_,_,_,h,_=>by simp[Fl.allU]at h
 |T,.u c,_,_,_,h,i=>by
  unfold rdF at i;have:c=b:=by cases b<;>cases c<;>simp[Fl.allU]at h<;>rfl
  rw[<-this];exact i
 | .pair a s,.p f g,_,_,_,h,⟨j,k,l,m,n,o,q,r⟩=>by
  simp only[Fl.allU,Oba]at h;exact⟨j,k,l,m,n,o,Qge h.1 q,Qge h.2 r⟩
 | .slice e t,.p f g,_,_,_,h,i=>by
  obtain⟨rfl,rfl,_⟩:=Zg0 i;cases b<;>simp[Fl.allU]at h
 | .unit,.p ..,_,_,_,_,h| .int _,.p ..,_,_,_,_,h| .bool,.p ..,_,_,_,_,h| .fnc _,.p ..,_,_,_,_,h| .str,.p ..,_,_,_,_,h| .err,.p ..,_,_,_,_,h| .hid _,.p ..,_,_,_,_,h| .sptr ..,.p ..,_,_,_,_,h| .clo ..,.p ..,_,_,_,_,h| .arr ..,.p ..,_,_,_,_,h=>by simp[rdF]at h
theorem Q43{b:Bool}: ∀{f g:Fl} (i:Nat),f.allU b=true->g.allU b=true->(Zqb f i g).allU b=true:=by
 intro f;have h: ∀(f g:Fl) (i:Nat),f.allU b=true->g.allU b=true->(∀a c,f≠ .p a c)->(Zqb f i g).allU b=true:=by
  intro f g i e j l
  induction i with
  |zero=>cases f<;>simp_all[Zqb,Fl.allU]
  |succ i n=>cases f<;>simp_all[Zqb,Fl.allU]
 induction f with
 |u c=>intro g i e j;exact h _ _ _ e j (by simp)
 |d=>intro g i e j;exact h _ _ _ e j (by simp)
 |p x y m k=>
  intro g i e j;simp only[Fl.allU,Oba]at e;cases i with
  |zero=>simp[Zqb,Fl.allU,e.2,j]
  |succ i=>simp[Zqb,Fl.allU,e.1,k i e.2 j]
theorem Q37{b:Bool}: ∀{f:Fl} (i:Nat),f.allU b=true->(Zuj f i).allU b=true:=by
 intro f
 induction f with
 |u c=>intro i h;cases i<;>exact h
 |d=>intro i h;simp[Fl.allU]at h
 |p x y e a=>
  intro i h;simp only[Fl.allU,Oba]at h;cases i with
  |zero=>exact h.1
  |succ i=>exact a i h.2
theorem Qr7{b:Bool}: ∀{f g:Fl},f.allU b=true->g.allU b=true-> ∀p:List Nat,(Zp4 f p g).allU b=true
 |_,_,_,a,[]=>a
 |_,_,c,a,i::p=>Q43 i c (Qr7 (Q37 i c) a p)
theorem Qu9{e:TypeId}{t:Ty}{l:List t.den}{v:Value}{S:List Nat}{g n' cap:Nat}{ad:Addr}(h:rd w X B true (.slice e t) l [v] S)(hv:v= .slice (some ad) n' cap)(hX: ¬X ad.block)(hnd:S.Nodup){j:Nat}(hj:j<l.length)
  {q:List Nat} {u:TV} (hu:Zdx t l[j] q=some u) {y:TV} (hy:u.1=y.1) {z':t.den} (hz:Z8a t l[j] q y=some z') {vs:List Value} {Sy:List Nat} (hyv:rd w X B true y.1 y.2 vs Sy) (hndy: (S++Sy).Nodup) (hg:ad.block=g):
  ∃cc S',(storeCells (ad.add (j*t.size+J1 t q)) vs).run P w= .ok () (w.setRow g cc)/\g∈S/\(∀b,b≠g->(w.setRow g cc).heap[b]? =w.heap[b]?)/\rd (w.setRow g cc) X B true (.slice e t) (l.set j z') [v] S'/\S'.Nodup/\(∀b∈S',b∈S++Sy):=by
 obtain⟨v',Q,A,S2,e1,C,h1,h2⟩:=h;simp only[List.cons.injEq,and_true]at e1;subst e1;obtain⟨p,D⟩:=h1;rcases p.2 with⟨rfl,am⟩| ⟨m,al,f,r,hB,hh,Y,Z,aa,ab⟩
 ·cases hv
 ·rw[hv]at r;simp only[Value.slice.injEq,Osi]at r;obtain⟨rfl,rfl,rfl⟩:=r;simp only at hg hX;subst hg;have hS:A=[m]:=by rw[D,hv];rfl
  have E: (⟨m,0,none⟩:Addr).add (j*t.size+J1 t q)=⟨m,j*t.size+J1 t q,none⟩:=by unfold Addr.add;split<;>simp_all
  generalize s: (f.toList.take (j*t.size+J1 t q+0)++vs++f.toList.drop (j*t.size+J1 t q+0+vs.length)).toArray=cc;have a: ∀b,b≠m->(w.setRow m cc).heap[b]? =w.heap[b]? :=fun b k=>setRow_other w m b _ k;have F: ∀b∈S2,b≠m:=fun b k e=>by
   rw[C,hS]at hnd;simp only[List.cons_append,List.nil_append,List.nodup_cons]at hnd;exact hnd.1 (by rw[<-e];exact k)
  have ac:Zaj (rd (w.setRow m cc) X B true t) l Q S2:=Kq h2 fun x v T _ hT hr=>
   Zdd (fun _ h=>h) (fun b k=>a b fun e=>hX (by rw[<-e];exact k)) hr fun b k=>a b (F b (hT b k))
  obtain⟨pre,ae,i,T1,T2,U,V,m2,m3,m4,m5,m6⟩:=Zra (fun _ _ _ h=>X5 h) hj ac;have ag:rdF (w.setRow m cc) X B t (.u true) l[j] ae T2:=by unfold rdF;exact m4
  obtain⟨c,o,d,U1,U2,U3,W,n2,n3,n4,n5⟩:=Zfc hu ag;have G: ∀b∈Sy,b≠m:=fun b k e=>by
   rw[C,hS]at hndy;simp only[List.cons_append,List.nil_append,List.nodup_cons,List.mem_append]at hndy;exact hndy.1 (.inr (by rw[<-e];exact k))
  have H:rd (w.setRow m cc) X B true y.1 y.2 vs Sy:=Zdd (fun _ h=>h) (fun b k=>a b fun e=>hX (by rw[<-e];exact k)) hyv fun b k=>a b (G b k);have ah:=n5 (.u true) y vs Sy z' hz (by unfold rdF;exact H);have n:o.length=vs.length:=by rw[X8 n4,X5 hyv,hy]
  have I:Q.length=l.length*t.size:=p.1;have J:f.toList=Q++f.toList.drop (l.length*t.size):=by rw[<-ab];simp
  have aj:j*t.size+J1 t q+0+vs.length<=f.size:=by
   rw[<-Array.length_toList,J,V,W];simp only[List.length_append,m3,n3,n];omega
  have K:=run_storeCells_at P m (j*t.size+J1 t q) e vs 0 f w hh aj (Zkc hyv);rw[s]at K;have L:f.toList=(pre++c)++ (o++ (d++ (i++f.toList.drop (l.length*t.size)))):=by
   refine J.trans ?_;rw[V,W];simp
  have ak: (pre++c).length=j*t.size+J1 t q:=by simp[m3,n3]
  have M:cc=((pre++ (c++ (vs++d)++i))++f.toList.drop (l.length*t.size)).toArray:=by
   rw[<-s];congr 1
   conv=>lhs;rw[L]
   rw[Nat.add_zero,<-ak,List.take_left,<-n,<-List.append_assoc (pre++c) o,List.drop_left' (by simp;omega)];simp
  have N: ∀b,b∈A++ (T1++ ((U1++ (Sy++U3))++U))->b∈S++Sy:=by
   intro b k;rw[C,m2,n2];simp only[List.mem_append]at k⊢
   grind
  have O: (A++ (T1++ ((U1++ (Sy++U3))++U))).Nodup:=by
   rw[C,m2,n2]at hndy;rw[List.nodup_iff_count]at hndy⊢;intro z;have:=hndy z;simp only[List.count_append]at this⊢;omega
  refine⟨cc,A++ (T1++ ((U1++ (Sy++U3))++U)),by rw[E];exact K,by rw[C,hS];simp,a,⟨v,pre++ (c++ (vs++d)++i),A,_,rfl,rfl,?_,?_⟩,O,N⟩
  ·refine⟨⟨?_,.inr ⟨m,cap,cc,?_,hB,setRow_heap w m f _ e _ hh,by simpa using Y,Z,?_,?_⟩⟩,D⟩
   ·have: (pre++ (c++ (vs++d)++i)).length=Q.length:=by rw[V,W];simp[n]
    rw[this,I];simp
   ·rw[hv];simp
   ·rw[<-aa,<-s];simp only[List.size_toArray,List.length_append,List.length_take,List.length_drop,Array.length_toList];omega
   ·rw[M];have: (pre++ (c++ (vs++d)++i)).length=(l.set j z').length*t.size:=by
     rw[List.length_set,<-I,V,W];simp[n]
    simp only[<-this,List.take_left]
  ·have e4:l.set j z'=l.take j++ (z'::l.drop (j+1)):=by rw[List.set_eq_take_append_cons_drop];simp[hj]
   rw[e4];exact Zmk m5 ⟨_,i,_,U,rfl,rfl,Qge (Qr7 rfl rfl q) (by simpa using ah),m6⟩
theorem Q44: ∀(f:Fl) (i:Nat) (g g':Fl),Zqb (Zqb f i g) i g'=Zqb f i g':=by
 intro f;have b: ∀(f g g':Fl) (i:Nat),(∀a c,f≠ .p a c)->Zqb (Zqb f i g) i g'=Zqb f i g':=by
  intro f g g' i h
  induction i with
  |zero=>cases f<;>simp_all[Zqb]
  |succ i k=>cases f<;>simp_all[Zqb]
 induction f with
 |u c=>intro i g g';exact b _ _ _ _ (by simp)
 |d=>intro i g g';exact b _ _ _ _ (by simp)
 |p x y j e=>
  intro i g g';cases i with
  |zero=>simp[Zqb]
  |succ i=>simp[Zqb,e]
theorem Q38: ∀(f:Fl) (i:Nat) (g:Fl),Zuj (Zqb f i g) i=g:=by
 intro f;have b: ∀(f g:Fl) (i:Nat),(∀a c,f≠ .p a c)->Zuj (Zqb f i g) i=g:=by
  intro f g i h
  induction i with
  |zero=>cases f<;>simp_all[Zqb,Zuj]
  |succ i k=>cases f<;>simp_all[Zqb,Zuj]
 induction f with
 |u c=>intro i g;exact b _ _ _ (by simp)
 |d=>intro i g;exact b _ _ _ (by simp)
 |p x y j e=>
  intro i g;cases i with
  |zero=>simp[Zqb,Zuj]
  |succ i=>simp[Zqb,Zuj,e]
theorem Qlp: ∀(p:List Nat) (f g g':Fl),Zp4 (Zp4 f p g) p g'=Zp4 f p g'
 | [],_,_,_=>rfl
 |i::p,f,g,g'=>by simp only[Zp4,Q38,Q44,Qlp p]
def Qok(s:St)(r:Nat)(p:List Nat)(j:Int)(q:List Nat)(fy:Fl)(y:TV):Option St:=
 match s.bad r p with
 |true=>none
 |false=>match fy.allU true||y.1.flat with
  |false=>none
  |true=>match s.get (.m r)with
   | .val (.slice e t) (.u true) l=>match p,Zdx t (l.getD j.toNat (zero t)) q with
    | [],some u=>match decide (u.1=y.1),Z8a t (l.getD j.toNat (zero t)) q y with
     |true,some z=>some (Zua s r (.val (.slice e t) (.u true) (l.set j.toNat z)))
     |_,_=>none
    |_,_=>none
   | .box e0 U f x=>match Zdx U x p,Zkq f p with
    |some ⟨.slice e t,l⟩,.u true=>match Zdx t (l.getD j.toNat (zero t)) q with
     |some u=>match decide (u.1=y.1),Z8a t (l.getD j.toNat (zero t)) q y with
      |true,some z=>match Z8a U x p ⟨.slice e t,l.set j.toNat z⟩with
       |some x'=>some (Zua s r (.box e0 U (Zp4 f p (.u true)) x'))
       |none=>none
      |_,_=>none
     |none=>none
    |_,_=>none
   |_=>none
theorem Q2j{α:Type}{l:List α}{i:Nat}{d:α}(h:i<l.length):l.getD i d=l[i]:=by
 rw[List.getD_eq_getElem?_getD,List.getElem?_eq_getElem h];rfl
theorem R.setElem{Sy:List Nat}(h:R n W0 w X F (Sy++H) s a){r:Nat}{p:List Nat}{j:Int}{q:List Nat}{fy:Fl}{y:TV}{s':St}(hs:Qok s r p j q fy y=some s'){vs:List Value}(hv:rd w X W0.B true y.1 y.2 vs Sy)
  {ve:Value} (he:vt W0.gh w X W0.B s F a ve [] (.elp r p j q)):
  ∃ad w' F',ve= .pointer (some ad)/\(storeCells ad vs).run P w= .ok () w'/\R n W0 w' X F' H s' a/\ ∀b,(X b\/ ∃r,s.isBox r/\Qp W0.gh a (.m r)= .pointer (some ⟨b,0,none⟩))->w'.heap[b]? =w.heap[b]? :=by
 unfold Go.Am.Qok at hs;split at hs
 ·cases hs
 ·rename_i ae;obtain⟨_,he⟩:=he;obtain⟨e0,t0,ad,n0,ap,g,ba,bb,aq⟩:=he ae;split at hs
  ·cases hs
  ·rename_i bc;have N:=h.slots (.m r);unfold Xi at g;split at hs
   ·rename_i e t l M;rw[M]at g N;obtain⟨rfl,hT,a7⟩:=g;cases hT;split at hs
    ·rename_i u hp hu;split at hs
     ·rename_i z hd hz;simp only[Osi]at hs;subst hs;obtain⟨us,I,k2⟩:=N;unfold rdF at k2;have k3:=k2;obtain⟨v',xs,S1,S2,rfl,e2,C,h2⟩:=k3;have D:v'= .slice (some ad) n0 ap:=by rw[<-a7]at I;exact I.symm
      have O:n0=l.length:=by
       obtain⟨a1,c1,J,_⟩:=Zc8 C;rw[D]at J;simp only[Value.slice.injEq]at J;exact J.2.1
      have K:j.toNat<l.length:=by omega
      rw[Q2j K]at hu hz;have i:=h.nodup (.m r);have o: (F (.m r)++Sy).Nodup:=List.nodup_append.2 ⟨i,(List.nodup_append.1 h.hnodup).1,fun x hx y hy e=>h.hdisj _ x hx (by rw[e];simp[hy])⟩;have v: ¬X ad.block:=by
       have hm:ad.block∈F (.m r):=by rw[e2,C.2,D];simp[Value.ownBlock]
       exact(h.own _ _ hm).2.2
      obtain⟨cc,Q,J,g2,G,g4,g5,g6⟩:=Qu9 (P:=P) k2 D v i K hu (Ode hd) hz hv o rfl;have ag:W0.below (w.setRow ad.block cc):=
       ⟨h.below.os,h.below.tape,h.below.output,by simpa[World.setRow]using h.below.size,fun k hk=>(G k (W0.sep hk (h.own _ _ g2).1)).trans (h.below.block k hk)⟩
      have ah: ∀b,(X b\/ ∃r,s.isBox r/\Qp W0.gh a (.m r)= .pointer (some ⟨b,0,none⟩))->(w.setRow ad.block cc).heap[b]? =w.heap[b]? :=by
       intro b hb;refine G b fun e=> ?_;subst e;rcases hb with hb| ⟨r2,C,h2⟩
       ·exact v hb
       ·obtain⟨S,h3⟩:=h.boxIn C h2;have:=h.disj (.m r2) (.m r) ad.block (by rw[h3];simp) g2;simp only[Key.m.injEq]at this;subst this;obtain⟨_,_,_,_,C⟩:=C;rw[M]at C;cases C
      refine⟨_,w.setRow ad.block cc,Qg F (.m r) Q,aq,J,?_,ah⟩;refine h.turn' (S':=Q) (H':=H) (Zpv ⟨?_,?_⟩) ag (by simp[World.setRow]) (fun b hb=>G b fun e=>v (by rw[<-e];exact hb))
       (fun k b hk hb=>G b fun e=>hk (h.disj k (.m r) b hb (by rw[e];exact g2))) (fun b hb=> ?_) (List.nodup_append.2 ⟨g5,(List.nodup_append.1 h.hnodup).2.1,fun x hx y hy e=> ?_⟩)
       (by rw[M];simp) (fun e T f x b S hb=>by rw[M]at hb;cases hb) ⟨[v'],I,by unfold rdF;exact g4⟩
      ·rw[Kr];simp
      ·intro p' v2 U2 A;unfold Xi at A⊢;rw[M]at A;rw[Kr];simpa using A
      ·rcases List.mem_append.1 hb with hb|hb
       ·have:=g6 b hb;simp only[List.mem_append]at this⊢;rcases this with h'|h'
        ·exact .inl h'
        ·exact .inr (.inl h')
       ·simp[hb]
      ·subst e;have:=g6 x hx;rcases List.mem_append.1 this with h'|h'
       ·exact h.hdisj _ x h' (by simp[hy])
       ·exact(List.nodup_append.1 h.hnodup).2.2 x h' x hy rfl
     ·cases hs
    ·cases hs
   ·rename_i e1 U f x M;rw[M]at g N;obtain⟨b,c,S,y',I,k2,k3,k4,k5⟩:=g;obtain⟨b',c',S',l1,l2,l3,l4⟩:=N;rw[I]at l2;obtain⟨rfl,rfl⟩:=List.cons.inj l2;rw[k2]at l3;simp only[Osi,Obj.cells.injEq]at l3;obtain⟨rfl,_⟩:=l3;rw[k3]at hs;split at hs
    ·rename_i e t l ar hf;simp only[Osi]at ar;subst ar;cases k4;split at hs
     ·rename_i u hu;split at hs
      ·rename_i z hd hz;split at hs
       ·rename_i x' a8;simp only[Osi]at hs;subst hs;obtain⟨pre,bd,au,S1,S2,S3,m1,m2,m3,m4,m5⟩:=Zfc k3 l4;have av:=Zzr m1 m3 (X8 m4);rw[av]at k5;rw[hf]at m4;unfold rdF at m4;have m6:=m4;obtain⟨v',xs,T1,T2,rfl,e2,C,h2⟩:=m6;have D:v'= .slice (some ad) n0 ap:=k5.symm;have O:n0=l.length:=by
         obtain⟨a1,c1,J,_⟩:=Zc8 C;rw[D]at J;simp only[Value.slice.injEq]at J;exact J.2.1
        have K:j.toNat<l.length:=by omega
        rw[Q2j K]at hu hz;have i:=h.nodup (.m r);have o: (F (.m r)++Sy).Nodup:=List.nodup_append.2 ⟨i,(List.nodup_append.1 h.hnodup).1,fun x hx y hy e=>h.hdisj _ x hx (by rw[e];simp[hy])⟩;rw[I,m2]at i o;have aa:ad.block∈S2:=by rw[e2,C.2,D];simp[Value.ownBlock]
        have V:ad.block∈F (.m r):=by rw[I,m2];simp[aa]
        have v: ¬X ad.block:=(h.own _ _ V).2.2;have aw:S2.Nodup:=by
         simp only[List.nodup_append,List.nodup_cons]at i
         grind
        have aj: (S2++Sy).Nodup:=by
         rw[List.nodup_iff_count]at o⊢;intro z;have:=o z;simp only[List.count_append,List.count_cons]at this⊢;omega
        obtain⟨cc,Q,J,g2,G,g4,g5,g6⟩:=Qu9 (P:=P) m4 D v aw K hu (Ode hd) hz hv aj rfl;have L:b≠ad.block:=fun e=>by
         rw[<-e]at aa;simp only[List.nodup_append,List.nodup_cons,List.mem_append]at i
         grind
        have ag:W0.below (w.setRow ad.block cc):=
         ⟨h.below.os,h.below.tape,h.below.output,by simpa[World.setRow]using h.below.size,fun k hk=>(G k (W0.sep hk (h.own _ _ V).1)).trans (h.below.block k hk)⟩
        have ax: ∀q,q∈S1\/q∈S3->q≠ad.block:=by
         intro q hq e;simp only[List.nodup_append,List.nodup_cons,List.mem_append]at i
         grind
        have ak:rdF w X W0.B U (Zp4 f p .d) x c.toList (S1++ ([]++S3)):=by
         have:=m5 .d ⟨.slice e0 t0,l⟩ [v'] [] x (Qu8 k3) (by unfold rdF;exact⟨rfl,Zkc m4,rfl⟩);rw[<-m1]at this;exact this
        have W:rdF (w.setRow ad.block cc) X W0.B U (Zp4 f p .d) x c.toList (S1++ ([]++S3)):=
         Zq6 (fun _ h=>h) (fun b' al=>G b' fun e=>v (by rw[<-e];exact al)) ak (fun b' al=>G b' (ax b' (by simpa using al)))
        obtain⟨ab,ay,am,Y,a9,Z,q1,q2,q3,q4,q5⟩:=Zfc k3 W;have az:ab=pre/\am=au:=by
         have e1:ab.length=pre.length:=by rw[q3,m3]
         have e2:=q1.symm.trans m1;have e3:=List.append_inj e2 e1;have e4:ay.length=[v'].length:=by rw[X8 q4];rfl
         exact⟨e3.1,(List.append_inj e3.2 e4).2⟩
        obtain⟨rfl,rfl⟩:=az;have ac:=q5 (.u true) ⟨.slice e0 t0,l.set j.toNat z⟩ [v'] Q x' a8 (by unfold rdF;exact g4);rw[<-m1,Qlp]at ac;have a0: ∀z,Y.count z+Z.count z<=S1.count z+S3.count z:=fun z=>by
         have:=congrArg (List.count z) q2;simp only[List.count_append,List.count_nil]at this;omega
        have a2: ∀z,Q.count z<=S2.count z+Sy.count z:=fun z=>by
         have C:=List.nodup_iff_count.1 g5 z;by_cases hz:z∈Q
         ·have:=List.count_pos_iff.2 (g6 z hz);simp only[List.count_append]at this;omega
         ·rw[List.count_eq_zero_of_not_mem hz];omega
        have a3: ∀z,(F (.m r)).count z=(b:: (S1++ (S2++S3))).count z:=fun z=>by rw[I,m2]
        have a4: ((b:: (Y++ (Q++Z)))++H).Nodup:=by
         have O: (F (.m r)++ (Sy++H)).Nodup:=List.nodup_append.2 ⟨h.nodup _,h.hnodup,fun x hx y hy e=>h.hdisj _ x hx (by rw[e];exact hy)⟩;rw[List.nodup_iff_count]at O⊢;intro z;have C:=O z;have h2:=a0 z;have h3:=a2 z;have h4:=a3 z;simp only[List.count_append,List.count_cons]at C h4⊢;omega
        have a5:=h.turn' (t:= .box e1 U (Zp4 f p (.u true)) x') (S':=b:: (Y++ (Q++Z))) (H':=H) (Zpv ⟨?_,?_⟩) ag (by simp[World.setRow]) (fun b hb=>G b fun e=>v (by rw[<-e];exact hb))
         (fun k b hk hb=>G b fun e=>hk (h.disj k (.m r) b hb (by rw[e];exact V))) (fun q hq=> ?_) a4
         (by rw[M];simp) (fun e2 T2 f2 x2 b2 a9 E a6=>by
          rw[M]at E;cases E;rw[I]at a6;obtain⟨rfl,_⟩:=List.cons.inj a6;exact⟨_,_,_,rfl,rfl⟩) ⟨b,c,_,l1,rfl,by rw[G b L];exact k2,ac⟩
        ·refine⟨_,_,_,aq,J,a5,fun b2 E=>G b2 fun e=> ?_⟩;rw[e]at E;rcases E with E| ⟨r2,C,h2⟩
         ·exact v E
         ·obtain⟨S,h3⟩:=h.boxIn C h2;have:=h.disj (.m r2) (.m r) ad.block (by rw[h3];simp) V;simp only[Key.m.injEq]at this;subst this;rw[I]at h3;exact L (List.cons.inj h3).1
        ·rw[Kr];simp
        ·intro p' v2 U2 A;unfold Xi at A⊢;rw[M]at A;rw[Kr];simp only[if_true]at A⊢;obtain⟨b3,c3,S3,y3,o1,o2,o3,o4,o5⟩:=A;rw[I]at o1;obtain⟨rfl,_⟩:=List.cons.inj o1;obtain⟨y4,o6,o7⟩:=Z57 (x':=x') o3;refine⟨b,c3,Y++ (Q++Z),y4,by simp[Qg],by rw[G b L];exact o2,o6,by rw[o7];exact o4,by rw[o7];exact o5⟩
        ·rw[<-List.count_pos_iff]at hq⊢;have h2:=a0 q;have h3:=a2 q;have h4:=a3 q;simp only[List.count_append,List.count_cons]at hq h4⊢;omega
       ·cases hs
      ·cases hs
     ·cases hs
    ·cases hs
   ·cases hs
def Q1c(s:St)(r:Nat)(p:List Nat)(i:Int)(fy:Fl)(y:TV):Option St:=
 match s.get (.m r)with
 | .box e U f x=>match Zdx U x p with
  |some ⟨.arr n t,l⟩=>match(Zkq f p).live,decide (y.1=t),t.flat,fy.live with
   |true,true,true,true=>match Ky t y.1 y.2 with
    |some z=>match Z8a U x p ⟨.arr n t,l.set i.toNat z⟩with
     |some x'=>some (Y6 s r (.box e U (Zp4 f p (Zkq f p)) x'))
     |none=>none
    |none=>none
   |_,_,_,_=>none
  |_=>none
 |_=>none
theorem R.setArr(h:R n W0 w X F H s a){r:Nat}{p:List Nat}{i:Int}{fy:Fl}{y:TV}{s':St}(hs:Q1c s r p i fy y=some s'){vs:List Value}{S:List Nat}(hv:rdF w X W0.B y.1 fy y.2 vs S)
  {ve:Value} (he:vt W0.gh w X W0.B s F a ve [] (.aep r p i)):
  ∃b ad w' F',ve= .pointer (some ad)/\(storeCells ad vs).run P w= .ok () w'/\R n W0 w' X F' H s' a/\b∈F (.m r)/\ ∀k,k≠b->w'.heap[k]? =w.heap[k]? :=by
 obtain⟨_,e0,U,V,x0,b,S0,O,t0,E,g1,Q,g3,g4,g5,g6⟩:=he;unfold Go.Am.Q1c at hs;rw[g1]at hs;simp only[g3]at hs;split at hs
 ·rename_i o hd A aj;split at hs
  ·rename_i z hz;split at hs
   ·rename_i x' ak;simp only[Osi]at hs;subst hs;have W:y.1=t0:=Ode hd;obtain⟨u,J⟩:=y;simp only at W;subst W;have al:J=z:=by have:=Zb5 hz;cases this;rfl
    subst al;have Y:=h.slots (.m r);rw[g1]at Y;obtain⟨G,c,S',l1,l2,l3,l4⟩:=Y;rw[Q]at l2;obtain⟨rfl,rfl⟩:=List.cons.inj l2;have I:b∈F (.m r):=by rw[Q];simp
    obtain⟨pre,av,j,S1,S2,S3,m1,m2,m3,m4,m5⟩:=Zfc g3 l4;have am:=K6 (X':=fun b=>X b\/b∈S2) (fun _ h=> .inl h) o m4 (fun _ h=> .inr h);obtain⟨C,K⟩:=am;have C:E.length=O:=C;have Z:i.toNat<E.length:=by omega
    obtain⟨f,l,d,T1,T2,T3,n1,n2,n3,n4,n5,n6⟩:=Zra (fun _ _ _ h=>X5 h) Z K;have ap:vs.length=u.size:=X8 hv;have aq:l.length=vs.length:=by rw[X5 n4,ap]
    generalize aa: (c.toList.take (J1 U p+i.toNat*u.size+0)++vs++c.toList.drop (J1 U p+i.toNat*u.size+0+vs.length)).toArray=cc;have g: ∀k,k≠b->(w.setRow b cc).heap[k]? =w.heap[k]? :=fun k hk=>setRow_other w b k _ hk;have aw:c.size=pre.length+ (f.length+ (l.length+d.length)+j.length):=by rw[<-Array.length_toList,m1,n1];simp;omega
    have ab:=run_storeCells_at P b (J1 U p+i.toNat*u.size) e0 vs 0 c w l3 (by omega) (Zh2 hv);rw[aa]at ab;have e1:cc.toList=pre++ ((f++ (vs++d))++j):=by
     rw[<-aa,m1,n1,<-m3,<-n3];have h1:List.take (pre.length+f.length+0) (pre++ ((f++ (l++d))++j))=pre++f:=by
      rw[Nat.add_zero,List.append_assoc,List.append_assoc,<-List.append_assoc pre f,List.take_left' (by simp)]
     have h2:List.drop (pre.length+f.length+0+vs.length) (pre++ ((f++ (l++d))++j))=d++j:=by
      rw[Nat.add_zero,<-aq,show pre++ ((f++ (l++d))++j)=(pre++f++l)++ (d++j) by simp,List.drop_left' (by simp;omega)]
     rw[h1,h2];simp
    have L:S2=[]:=by
     have: (Ty.arr O u).flat=true:=by simpa[Ty.flat]using A
     have hn:Znv (Zkq V p) (.arr O u)=true:=by
      obtain⟨c,hc⟩:=Q28 m4 o;rw[hc];cases c<;>simp[Znv,this]
     exact Zi0 hn m4
    have Qew:rdF w X W0.B (.arr O u) (Zkq V p) (E.set i.toNat J) (f++ (vs++d)) []:=by
     have hx:rd w X W0.B true u J vs []:=(Zdc A (K6 (X':=fun b=>X b\/b∈S) (fun _ h=> .inl h) aj hv (fun _ h=> .inr h))).2;have hr: ∀D,rd w X W0.B D (.arr O u) (E.set i.toNat J) (f++ (vs++d)) []:=fun D=>by
      refine⟨by rw[List.length_set,C],?_⟩;have e4:E.set i.toNat J=E.take i.toNat++ (J::E.drop (i.toNat+1)):=by rw[List.set_eq_take_append_cons_drop];simp[Z]
      rw[e4];have q1:=(Zeq (r':=rd w X W0.B D u) (fun x v S h=>Zdc A h) n5).2;have q2:=(Zeq (r':=rd w X W0.B D u) (fun x v S h=>Zdc A h) n6).2;show Zaj (rd w X W0.B D u) (E.take i.toNat++ (J::E.drop (i.toNat+1))) (f++ (vs++d)) ([]++ ([]++ []));exact Zmk q1 ⟨vs,d,[],[],rfl,rfl,(Zdc A hx).2,q2⟩
     obtain⟨c,hc⟩:=Q28 m4 o;rw[hc];unfold rdF;exact hr c
    have ac:=m5 (Zkq V p) ⟨.arr O u,E.set i.toNat J⟩ (f++ (vs++d)) [] x' ak Qew;have M:=h.nodup (.m r);rw[Q,m2,L]at M;have ar:b∉S1++ ([]++S3):=(List.nodup_cons.1 M).1;have ae: ¬X b:=(h.own _ b I).2.2;have au:W0.below (w.setRow b cc):=
     ⟨h.below.os,h.below.tape,h.below.output,by simpa[World.setRow]using h.below.size,fun k hk=>(g k (W0.sep hk (h.own _ b I).1)).trans (h.below.block k hk)⟩
    have N:rdF (w.setRow b cc) X W0.B U (Zp4 V p (Zkq V p)) x' cc.toList (S1++ ([]++S3)):=by
     rw[e1];exact Zq6 (fun _ h=>h) (fun G t=>g G fun e=>ae (by rw[<-e];exact t)) ac (fun G t=>g G fun e=>ar (by rw[<-e];exact t))
    refine⟨b,⟨b,J1 U p+i.toNat*u.size,none⟩,w.setRow b cc,Qg F (.m r) (b:: (S1++ ([]++S3))),g6,ab,?_,I,g⟩;refine h.turn (S':=b:: (S1++ ([]++S3))) au (by simp[World.setRow]) (fun G t=>g G fun e=>ae (by rw[<-e];exact t))
     (fun k G hk t=>g G fun e=>hk (h.disj k (.m r) G t (by rw[e];exact I))) (fun q hq=>by rw[Q,m2,L];exact hq) (List.nodup_append.2 ⟨M,h.hnodup,fun x hx y hy e=>h.hdisj (.m r) x (by rw[Q,m2,L];exact hx) (by rw[e];exact hy)⟩) (by rw[g1];simp) ?_ ⟨b,_,_,l1,rfl,setRow_heap w b c _ e0 _ l3,by simpa using N⟩
    intro e2 T2 f2 x2 b2 ax ag ah;rw[g1]at ag;cases ag;rw[Q]at ah;obtain⟨rfl,_⟩:=List.cons.inj ah;exact⟨_,_,_,rfl,rfl⟩
   ·cases hs
  ·cases hs
 ·cases hs
def Qg7(τ:Tab)(s:St)(tg:Xo)(e:TypeId)(x v:Operand):Option St:=
 match τ e with
 |none=>none
 |some T=>match Ztj s (op1 s tg v) T with
  |none=>none
  |some t=>match op1 t.s tg x with
   | .tm k (.box _ _ _ _)=>Qgm t.s k [] t.f ⟨t.T,t.x⟩
   | .tm _ (.ptr r p)=>Qgm t.s r p t.f ⟨t.T,t.x⟩
   | .tm _ (.elp r p j q)=>Qok t.s r p j q t.f ⟨t.T,t.x⟩
   | .tm _ (.aep r p i)=>Q1c t.s r p i t.f ⟨t.T,t.x⟩
   |_=>none
def Qn4(τ:Tab)(s:St)(o:Oper):Option Nat:=
 match o.op with
 | .store e x v=>match τ e with
  |none=>none
  |some T=>match Ztj s (op1 s [] v) T with
   |none=>none
   |some t=>match op1 t.s [] x with
    | .tm k (.box _ _ _ _)=>some k
    | .tm _ (.ptr r _)=>some r
    | .tm _ (.aep r _ _)=>some r
    |_=>none
 |_=>none
theorem Qsd(h:R n W0 w X F H s a)(hτ:τ.ok P){e:TypeId}{x v:Operand}(ho:o.op= .store e x v)(hd:o.dst=none){s':St}(hr:Qg7 τ s [] e x v=some s')
  {K:Act->World->Prop} {Q:Exit->Act->World->Prop} (hK: ∀w' F',R n W0 w' X F' H s' a->Qlu W0.gh X s a (Qn4 τ s o) w w'->K a w'):o.wp P a w K Q:=by
 have M:Xo.ok [] W0.gh a:=fun p hp=>by cases hp
 unfold Qg7 at hr;split at hr
 ·cases hr
 ·rename_i T Y;split at hr
  ·cases hr
  ·rename_i t hk;obtain⟨aa,Z,S,vs,h1,C,u,_,D⟩:=Zbg h M hk;subst aa;have A:=Qga (Zh2 C) (X8 C);have fin: ∀{N:Addr} {w':World},a.eval x= .pointer (some N)->(storeCells N vs).run P w= .ok () w'->(execOp a.eval o).run P w= .ok .skip w':=by
    intro N w' hx ab;simp only[execOp,ho,hx,h1,Instr.storeAt,Instr.sureAddr,storeVar,A,Sem.run_bind,Sem.run_pure,Result.andThen_ok,(hτ _ _ Y).sizeOf w];simp[X8 C,ab]
   have l: ∀{w'},(execOp a.eval o).run P w= .ok .skip w'->(∃F',R n W0 w' X F' H s' a/\Qlu W0.gh X s a (Qn4 τ s o) w w')->o.wp P a w K Q:=by
    intro w' O ⟨F',hR,hkept⟩;unfold Oper.wp;rw[O];show K (a.put o.dst undef) w';rw[hd];exact hK w' F' hR hkept
   have g: ∀{r b:Nat} {w':World},Qn4 τ s o=some r->b∈Z (.m r)->(∀k,k≠b->w'.heap[k]? =w.heap[k]?)->Qlu W0.gh X s a (Qn4 τ s o) w w':=by
    intro r b w' d hb hq b2 E;refine hq b2 fun e=> ?_;subst e;rcases E with E| ⟨r2,z1,z2,z3⟩
    ·exact(u.own _ _ hb).2.2 E
    ·obtain⟨S2,h4⟩:=u.boxIn (Zp9 hk z1) z3;have:=u.disj (.m r2) (.m r) b2 (by rw[h4];simp) hb;simp only[Key.m.injEq]at this;exact z2 (by rw[d,this])
   split at hr
   ·rename_i k e' U f y hx;obtain⟨rfl,b,c,S',g1,V,g3,g4⟩:=Kp u M hx (by simp);have hg: ∃e2 U2 f2 y2,t.s.get (.m k)= .box e2 U2 f2 y2:=by
     unfold Go.Am.Qgm at hr;split at hr
     ·exact⟨_,_,_,_,by assumption⟩
     ·cases hr
    obtain⟨e2,U2,f2,y2,hg⟩:=hg;obtain⟨w',F',G,I,J⟩:=u.setRoot (P:=P) hr rfl C ⟨_,V⟩ hg;have d:Qn4 τ s o=some k:=by simp only[Qn4,ho,Y,hk,hx]
    exact l (fin g1 (by simpa[J1]using G)) ⟨F',I,g d (by rw[V];simp) J⟩
   ·rename_i k r p hx;obtain⟨rfl,h0,e2,U2,f2,y2,b,S',g1,V,g3⟩:=Kp u M hx (by simp);obtain⟨w',F',G,I,J⟩:=u.setRoot (P:=P) hr rfl C ⟨_,V⟩ g1;have d:Qn4 τ s o=some r:=by simp only[Qn4,ho,Y,hk,hx]
    exact l (fin g3 G) ⟨F',I,g d (by rw[V];simp) J⟩
   ·rename_i k r p j q hx;obtain⟨rfl,L⟩:=Kp u M hx (by simp);have W: (t.f.allU true||t.T.flat)=true:=by
     unfold Go.Am.Qok at hr;split at hr
     ·cases hr
     ·split at hr
      ·cases hr
      ·assumption
    have z:vt W0.gh w X W0.B t.s Z a (a.eval (.tmp k)) [] (.elp r p j q):=⟨rfl,L.2⟩
    have ac: ∃Sy,rd w X W0.B true t.T t.x vs Sy/\R n W0 w X Z (Sy++H) t.s a:=by
     rcases Bool.or_eq_true_iff.1 W with ho|hfl
     ·exact⟨S,Qge ho C,u⟩
     ·exact⟨[],(Zdc hfl (K6 (X':=fun b=>X b\/b∈S) (fun _ h=> .inl h) D C (fun _ h=> .inr h))).2,u.drop⟩
    obtain⟨Sy,hv,ae⟩:=ac;obtain⟨N,w',F',q0,G,I,J⟩:=ae.setElem (P:=P) hr hv z;exact l (fin q0 G) ⟨F',I,fun b hb=>J b (hb.imp id fun⟨r2,z1,_,z2⟩=>⟨r2,Zp9 hk z1,z2⟩)⟩
   ·rename_i k r p i hx;obtain⟨rfl,L⟩:=Kp u M hx (by simp);have d:Qn4 τ s o=some r:=by simp only[Qn4,ho,Y,hk,hx]
    have z:vt W0.gh w X W0.B t.s Z a (a.eval (.tmp k)) [] (.aep r p i):=⟨rfl,L.2⟩
    obtain⟨b,N,w',F',q0,G,I,J,q4⟩:=(u.drop).setArr (P:=P) hr C z;exact l (fin q0 G) ⟨F',I,g d J q4⟩
   ·cases hr
end
end Go.Am
namespace Go.Am
open Go.RowKit
section
variable {P:Program} {g:K9} {W0:Zam g} {w w':World} {X X':Nat->Prop} {B n:Nat} {own:Bool} {s:St} {F:Key->List Nat} {a:Act} {H H':List Nat} {o:Oper} {tg:Xo} {τ:Tab} {gh:Nat->Value}
def Q8d(s:St)(x:Op1)(t:Ty):Option (t.den×St×Bool):=
 match Ztj s x t with
 |some u=>match u.T,u.f,u.x,t.flat with
  |T,_,y,true=>match Ky t T y with|some z=>some (z,u.s,u.moved)|none=>none
  |T,f,y,false=>match Wz T f (.u true),Ky t T y with|true,some z=>some (z,u.s,u.moved)|_,_=>none
 |none=>none
theorem Qzn(h:R n W0 w X F H s a)(ht:tg.ok W0.gh a){x:Operand}{t:Ty}{z:t.den}{s':St}{mv:Bool}(hk:Q8d s (op1 s tg x) t=some (z,s',mv)):
  ∃F' S vs,a.eval x=Xz t vs/\rd w X W0.B true t z vs S/\R n W0 w X F' (S++H) s' a/\(mv=false->s'=s):=by
 unfold Q8d at hk;split at hk
 ·rename_i u v;obtain⟨g,F',S,vs,o,i,p,q,y⟩:=Zbg h ht v;split at hk
  ·rename_i j;split at hk
   ·rename_i k l;simp only[Osi,Opi]at hk;obtain⟨rfl,rfl,rfl⟩:=hk;have e:=Zb5 l;have d:u.T.flat=true:=by rw[g];assumption
    have A:rd w (fun b=>X b\/b∈S) W0.B false u.T u.x vs []:=K6 (fun _ h=> .inl h) y i (fun _ h=> .inr h);have r:=(Zdc (X':=X) (own':=true) (w':=w) d A).2;refine⟨F',[],vs,by rw[o,g],?_,p.drop,fun m=>(q m).1⟩;have f: (⟨u.T,u.x⟩:TV)=⟨t,k⟩:=e;cases u with
    |mk C D E G I=>simp only at f r;cases f;exact r
   ·cases hk
  ·rename_i j;split at hk
   ·rename_i k c l;simp only[Osi,Opi]at hk;obtain⟨rfl,rfl,rfl⟩:=hk;have e:=Zb5 l;refine⟨F',S,vs,by rw[o,g],?_,p,fun m=>(q m).1⟩;have f: (⟨u.T,u.x⟩:TV)=⟨t,k⟩:=e;cases u with
    |mk C D E G I=>simp only at f i c;cases f;have:=Zh3 c i;unfold rdF at this;exact this
   ·cases hk
 ·cases hk
def Qvn(tg:Xo)(t:Ty):Nat->List (Nat×Operand)->St->Bool->Option (List t.den×St×Bool)
 |_,[],s,mv=>some ([],s,mv)
 |k,(i,y)::r,s,mv=>match Nat.beq i k with
  |false=>none
  |true=>match Q8d s (op1 s tg y) t with
   |some (z,s1,m1)=>match Qvn tg t (k+1) r s1 (mv||m1)with
    |some (l,s2,m2)=>some (z::l,s2,m2)
    |none=>none
   |none=>none
theorem Q14: ∀{r:List (Nat×Operand)} {t:Ty} {k:Nat} {s:St} {mv:Bool} {l:List t.den} {s':St} {mv':Bool},Qvn tg t k r s mv=some (l,s',mv')->mv'=false->mv=false
 | [],t,k,s,mv,l,s',mv',h,a=>by simp only[Qvn,Osi,Opi]at h;rw[h.2.2];exact a
 | (i,y)::r,t,k,s,mv,l,s',mv',h,a=>by
  simp only[Qvn]at h;split at h
  ·cases h
  ·split at h
   ·split at h
    ·rename_i b;simp only[Osi,Opi]at h;obtain⟨_,_,rfl⟩:=h;have:=Q14 b a;simp only[Bool.or_eq_false_iff]at this;exact this.1
    ·cases h
   ·cases h
theorem Z9h(ht:tg.ok W0.gh a){t:Ty}: ∀{parts:List (Nat×Operand)} {k:Nat} {s:St} {mv:Bool} {l:List t.den} {s':St} {mv':Bool} {F:Key->List Nat} {H:List Nat} {cs:Array Value} {A M C:List Value},
  R n W0 w X F H s a->cs.toList=A++ (M++C)->A.length=k*t.size->M.length=parts.length*t.size->Qvn tg t k parts s mv=some (l,s',mv')->
  ∃F' S vs cs',Instr.fill (fun i=>some (i*t.size,t.size)) cs (parts.map fun p=>(p.1,a.eval p.2))=some cs'/\cs'.toList=A++ (vs++C)/\Zaj (rd w X W0.B true t) l vs S/\l.length=parts.length/\
   R n W0 w X F' (S++H) s' a/\(mv'=false->s'=s)
 | [],k,s,mv,l,s',mv',F,H,cs,A,M,C,o,e,q,u,c=>by
  simp only[Qvn,Osi,Opi]at c;obtain⟨rfl,rfl,rfl⟩:=c;have:M=[]:=List.eq_nil_of_length_eq_zero (by simpa using u);subst this;exact⟨F,[],[],cs,rfl,e,⟨rfl,rfl⟩,rfl,o,fun _=>rfl⟩
 | (i,y)::r,k,s,mv,l,s',mv',F,H,cs,A,M,C,o,e,q,u,c=>by
  simp only[Qvn]at c;split at c
  ·cases c
  ·rename_i f;have f:=Onb f;subst f;split at c
   ·rename_i z Z m1 L;split at c
    ·rename_i l2 s2 m2 g;simp only[Osi,Opi]at c;obtain⟨rfl,rfl,rfl⟩:=c;obtain⟨F1,E,vs,G,h,N,O⟩:=Qzn o ht L;have d:=Z0t (Zkc h) (X5 h);have j: (a.eval y).cells.size=t.size:=by rw[G,<-Array.length_toList,d,X5 h]
     have x:M.length=t.size+r.length*t.size:=by rw[u,List.length_cons,Nat.add_mul];omega
     obtain⟨D,I,P⟩:=Zx7 (place:=fun i=>some (i*t.size,t.size)) (i:=i) (rest:=r.map fun p=>(p.1,a.eval p.2)) (v:=a.eval y) rfl (pre:=A) (mid:=M.take t.size) (post:=M.drop t.size++C)
      (by rw[e,<-List.append_assoc (M.take _),List.take_append_drop]) q (by simp;omega) j
     rw[G,d]at I;obtain⟨F',S,m,cs',Q,U,V,W,J,Y⟩:=Z9h ht (k:=i+1) (cs:=D) (A:=A++vs) (M:=M.drop t.size) (C:=C) N (by rw[I];simp) (by simp[q,X5 h,Nat.add_mul]) (by simp[x]) g;refine⟨F',E++S,vs++m,cs',by simpa[P]using Q,by rw[U];simp,⟨vs,m,E,S,rfl,rfl,h,V⟩,by simp[W],?_,fun K=> ?_⟩
     ·refine J.sub ?_ ?_
      ·intro b c;simp only[List.mem_append]at c⊢;grind
      ·have:=J.hnodup;simp only[List.nodup_append,List.mem_append]at this⊢
       grind
     ·have:=Q14 g K;simp only[Bool.or_eq_false_iff]at this;exact(Y K).trans (O this.2)
    ·cases c
   ·cases c
def Zxh(τ:Tab)(s:St)(tg:Xo)(e:TypeId)(len:Nat)(parts:Array (Nat×Operand)):Option Res:=
 match τ e with
 |some (.slice e' t)=>match τ e' with
  |some t2=>match decide (t2=t),Nat.beq parts.size len&&Nat.ble (len*t.size) 16777216 with
   |true,true=>match Qvn tg t 0 parts.toList s false with
    |some (l,s',mv)=>some ⟨.val (.slice e' t) (.u true) l,s',mv,none⟩
    |none=>none
   |_,_=>none
  |none=>none
 |_=>none
theorem Z6r(h:R n W0 w X F H s a)(ht:tg.ok W0.gh a)(hτ:τ.ok P){e:TypeId}{len:Nat}{parts:Array (Nat×Operand)}(ho:o.op= .buildSlice e len parts){r:Res}(hr:Zxh τ s tg e len parts=some r):Zqd P n W0 w X H s a o r:=by
 unfold Zxh at hr;split at hr
 ·rename_i V t I;split at hr
  ·rename_i p J;split at hr
   ·rename_i hd j;split at hr
    ·rename_i l s' mv y;simp only[Osi]at hr;subst hr;have:=Ode hd;subst this;simp only[Oba,Nat.ble_eq]at j;have c:=Onb j.1;obtain⟨W,z⟩:=(hτ _ _ I).slice;obtain⟨i,Y,q,_,hz⟩:=(hτ _ _ J).size;intro _ K Q hK;obtain⟨d,f⟩: ∃d:Array Value,d=(Array.range (len*i.size)).map ((Xz p (Vh p)).cells[· % (Xz p (Vh p)).cells.size]!):=⟨_,rfl⟩
     have B:d.toList.length=len*p.size:=by rw[f];simp[q]
     obtain⟨F',S,L,m,N,k2,Z,k4,k5,k6⟩:=Z9h ht (k:=0) (cs:=d) (A:=[]) (M:=d.toList) (C:=[]) h (by simp) (by simp) (by rw[B,Array.length_toList,c]) y;have g:l.length=len:=by rw[k4,Array.length_toList,c]
     have D: (execOp a.eval o).run P w= .ok (.value (.slice (some ⟨w.heap.size,0,none⟩) len len)) (w.alloc (.cells m V)):=by
      simp only[execOp,ho,Sem.run_bind];by_cases E:len*i.size=0
      ·have O:len=0:=by
        rcases Nat.mul_eq_zero.1 E with h|h
        ·exact h
        ·omega
       subst O;have U:parts= #[]:=Array.eq_empty_of_size_eq_zero c;subst U;simp only[List.map_nil,Instr.fill,Osi]at N;subst N;simp[Instr.buildSlice,run_underlying W,Go.sizeOf,typeInfo,Y,newRow,Instr.fill,f,Array.range_zero']
      ·rw[run_buildSlice w e V len _ m i _ W Y hz (by have:=j.2;rw[q];omega) E (by rw[<-f];simpa[q]using N)];simp
     unfold Oper.wp;rw[D];have G:m.toList=L:=by simpa using k2
     refine hK _ X F' (w.heap.size::S) _ (fun _ h=>h) (k5.alloc _) ⟨[_],rfl,?_⟩ k6 ⟨fun _=>Old.alloc _ _,h.kept (Old.alloc _ _)⟩;unfold rdF;have u:L.length=len*p.size:=by rw[Zrb (fun _ _ _ h=>X5 h) Z,g]
     refine⟨_,L,[w.heap.size],S,rfl,rfl,⟨⟨by rw[u,g],.inr ⟨w.heap.size,len,m,by rw[g],h.below.sizeB,Qew _ _,by rw[g];exact Nat.le_refl _,?_,?_,?_⟩⟩,rfl⟩,?_⟩
     ·have:=j.2;have h2:len<=len*p.size:=Nat.le_mul_of_pos_right _ z;simp only[maxLen];omega
     ·rw[<-Array.length_toList,G,u]
     ·rw[G,g,<-u,List.take_length]
     ·exact Kq Z fun x v T _ I hr=>Zdd (fun _ h=>h) (fun b y=>hold w _ b (h.xlt b y)) hr fun b y=>hold w _ b (k5.hown b (by simp[I b y])).2.1
    ·cases hr
   ·cases hr
  ·cases hr
 ·cases hr
def Z3b(τ:Tab)(s:St)(tg:Xo)(e:TypeId)(parts:Array (Nat×Operand)):Option Res:=
 match τ e with
 |some (.arr n t)=>match parts.toList with
  | []=>some ⟨.val (.arr n t) (.u true) (List.replicate n (zero t)),s,false,none⟩
  |p::ps=>match Nat.beq (p::ps).length n,Qvn tg t 0 (p::ps) s false with
   |true,some (l,s',mv)=>some ⟨.val (.arr n t) (.u true) l,s',mv,none⟩
   |_,_=>none
 |_=>none
theorem Qc8(h:R n W0 w X F H s a)(ht:tg.ok W0.gh a)(hτ:τ.ok P){e:TypeId}{parts:Array (Nat×Operand)}(ho:o.op= .build e parts){r:Res}(hr:Z3b τ s tg e parts=some r):Zqd P n W0 w X H s a o r:=by
 unfold Z3b at hr;split at hr
 ·rename_i m t q;obtain⟨D,et,E,u⟩:=(hτ _ _ q).arr;obtain⟨i,G,L,_,I⟩:=(hτ _ _ q).size;obtain⟨j,J,v,_⟩:=Zml u;have g: (Xz (.arr m t) (Vh (.arr m t))).cells=(Vh (.arr m t)).toArray:=rfl;split at hr
  ·rename_i d;simp only[Osi]at hr;subst hr;intro _ K Q x;have c: (execOp a.eval o).run P w= .ok (.value (.agg (Vh (.arr m t)).toArray)) w:=by
    simp only[execOp,ho,Sem.run_bind,Instr.build,zeroValue,typeInfo,Sem.run_pure,run_underlying E,Result.andThen_ok];simp[G,I,Go.sizeOf,typeInfo,J,d,Instr.fill,g]
   unfold Oper.wp;rw[c];refine x _ X F [] w (fun _ h=>h) (by simpa using h) ⟨Vh (.arr m t),rfl,?_⟩ (fun _=>rfl) ⟨fun _=>Old.refl w,h.kept (Old.refl w)⟩;unfold rdF;exact Zsz (hτ _ _ q).plain
  ·rename_i p ps d;split at hr
   ·rename_i l s' mv b N;simp only[Osi]at hr;subst hr;have b:=Onb b;intro _ K Q x;have y: (Vh (.arr m t)).length=m*t.size:=Zsa (hτ _ _ q).plain;obtain⟨O,S,U,f,z,V,W,Y,Z,k6⟩:=Z9h ht (k:=0) (cs:=(Vh (.arr m t)).toArray) (A:=[]) (M:=Vh (.arr m t)) (C:=[]) h (by simp) (by simp) (by rw[y,b]) N;have c: (execOp a.eval o).run P w= .ok (.value (.agg f)) w:=by
     simp only[execOp,ho,Sem.run_bind,Instr.build,zeroValue,typeInfo,Sem.run_pure,run_underlying E,Result.andThen_ok];rw[<-v]at z;simp only[List.map_cons]at z;simp[G,I,Go.sizeOf,typeInfo,J,d,g,z]
    unfold Oper.wp;rw[c];have B:f.toList=U:=by simpa using V
    refine x _ X O S w (fun _ h=>h) Z ⟨f.toList,by simp[Xz],?_⟩ k6 ⟨fun _=>Old.refl w,h.kept (Old.refl w)⟩;unfold rdF;rw[B];exact⟨by rw[Y,b],W⟩
   ·cases hr
 ·cases hr
theorem Zrp(z:List Value): ∀(m j:Nat),j<m*z.length->(List.replicate m z).flatten[j]? =z[j%z.length]?
 |0,j,h=>by simp at h
 |m+1,j,h=>by
  rw[List.replicate_succ,List.flatten_cons];by_cases a:j<z.length
  ·rw[List.getElem?_append_left a,Nat.mod_eq_of_lt a]
  ·rw[List.getElem?_append_right (by omega),Zrp z m (j-z.length) (by rw[Nat.add_mul]at h;omega)];congr 1;rw[<-Nat.mod_eq_sub_mod (by omega)]
theorem Qra(z:Array Value){l c:Nat}(hlc:l<=c): (madeCells z (c*z.size)).toList.take (l*z.size)=(List.replicate l z.toList).flatten:=by
 apply List.ext_getElem?;intro j;have g: (List.replicate l z.toList).flatten.length=l*z.size:=by simp
 by_cases a:j<l*z.size
 ·have b:j<c*z.size:=Nat.lt_of_lt_of_le a (Nat.mul_le_mul_right _ hlc);have d:0<z.size:=Nat.pos_of_ne_zero fun e=>by rw[e]at a;simp at a
  rw[List.getElem?_take,if_pos a,Zrp _ _ _ (by simpa using a)];have f:j%z.size<z.size:=Nat.mod_lt _ d;simp[madeCells,b,f]
 ·rw[List.getElem?_eq_none (by rw[List.length_take];omega),List.getElem?_eq_none (by omega)]
def Qwp(τ:Tab)(s:St)(tg:Xo)(e:TypeId)(x y:Operand):Option Res:=
 match τ e with
 |some (.slice e' t)=>match τ e',Zq9 s (op1 s tg x),Zq9 s (op1 s tg y)with
  |some t2,some (_,l),some (_,c)=>match decide (t2=t)with
   |true=>some ⟨.val (.slice e' t) (.u true) (List.replicate l.toNat (zero t)),s,false,some (0<=l/\l<=c/\c<=Qo)⟩
   |false=>none
  |_,_,_=>none
 |_=>none
theorem Qtn(h:R n W0 w X F H s a)(ht:tg.ok W0.gh a)(hτ:τ.ok P){e:TypeId}{x y:Operand}(ho:o.op= .makeSlice e x y){r:Res}(hr:Qwp τ s tg e x y=some r):Zqd P n W0 w X H s a o r:=by
 unfold Qwp at hr;split at hr
 ·rename_i m t q;split at hr
  ·rename_i d u l v c b z A;split at hr
   ·rename_i B;simp only[Osi]at hr;subst hr;have:=Ode B;subst this;obtain⟨C,p⟩:=(hτ _ _ q).slice;obtain⟨i,D,f,E,G⟩:=(hτ _ _ b).size;intro I K Q J;obtain⟨L,M,N⟩:0<=l/\l<=c/\c<=Qo:=I;have j:c<=17179869184:=N;have O:=Zej h ht z;have S:=Zej h ht A;have U: (i.bytes:Int)*c<=281474976710656:=by
     have: (i.bytes:Int)*c<=8192*17179869184:=Int.mul_le_mul (by omega) j (by omega) (by omega);omega
    have g: (execOp a.eval o).run P w= .ok (.value (.slice (some ⟨w.heap.size,0,none⟩) l.toNat c.toNat)) (w.alloc (.cells (madeCells (Vh d).toArray (c.toNat*i.size)) m)):=by
     simp only[execOp,ho,O,S,Sem.run_bind,run_make w e m i _ C D G u v l c L M U (by omega),Result.andThen_ok,Sem.run_pure,Zy1 (hτ _ _ b).plain]
    unfold Oper.wp;rw[g];refine J _ X F [w.heap.size] _ (fun _ h=>h) (h.alloc _) ⟨[_],rfl,?_⟩ (fun _=>rfl) ⟨fun _=>Old.alloc _ _,h.kept (Old.alloc _ _)⟩;unfold rdF;have k: (Vh d).toArray.size=d.size:=by simp[Zsa (hτ _ _ b).plain]
    refine⟨_,(List.replicate l.toNat (Vh d)).flatten,[w.heap.size],[],rfl,rfl,⟨⟨by simp[Zsa (hτ _ _ b).plain],.inr ⟨w.heap.size,c.toNat,_,by simp,h.below.sizeB,Qew _ _,by simp;omega,by simp only[maxLen];omega,?_,?_⟩⟩,rfl⟩,Zv3 (Zsz (hτ _ _ b).plain) _⟩
    ·rw[size_madeCells,f]
    ·have:=Qra (Vh d).toArray (l:=l.toNat) (c:=c.toNat) (by omega);rw[k]at this;rw[f,List.length_replicate];simpa using this
   ·cases hr
  ·cases hr
 ·cases hr
def Qhj(τ:Tab)(s:St)(tg:Xo)(e:TypeId)(x y:Operand):Option Res:=
 match τ e with
 |some (.slice e' t)=>match τ e' with
  |some t2=>match decide (t2=t),Ztj s (op1 s tg x) (.slice e' t)with
   |true,some ⟨.slice e1 t1,.u true,l,s1,_⟩=>match decide (e1=e'/\t1=t)with
    |true=>match t.flat,Z4z s1 (op1 s1 tg y)with
     |true,some ⟨_,t3,_,l3⟩=>match Ky (.slice e' t1) (.slice e' t3) l3 with
      |some l4=>some ⟨.val (.slice e' t1) (.u true) (l++l4),s1,true,some (l.length+l4.length<=Qo)⟩
      |none=>none
     |false,_=>match Ztj s1 (op1 s1 tg y) (.slice e' t)with
      |some ⟨.slice e3 t3,.u true,l3,s2,_⟩=>match Ky (.slice e' t1) (.slice e3 t3) l3 with
       |some l4=>some ⟨.val (.slice e' t1) (.u true) (l++l4),s2,true,some (l.length+l4.length<=Qo)⟩
       |none=>none
      |_=>none
     |_,_=>none
    |false=>none
   |_,_=>none
  |none=>none
 |_=>none
theorem Zzw{e e':TypeId}{t:Ty}(hT:TOK P e (.slice e' t))(hT2:TOK P e' t){v vy:Value}{xs ys:List Value}{l l4:List t.den}
  (hown:w.ownsRow B e' t.size v l.length xs) (hy: ∃ad cap,vy= .slice ad l4.length cap/\l4.length<=cap/\((ad=none/\l4.length=0/\cap=0)\/ ∃a0,ad=some a0/\ ∀j u,ys[j]? =some u->w.cell? (a0.add j)=some u)) (hyl:ys.length=l4.length*t.size)
  (h1: ∀u∈ys,u.oneCell'=true) (hp:l.length+l4.length<=Qo) (hB:B<=w.heap.size):
  ∃v' w',(Builtin.append_ #[e,e] e #[v,vy]).run P w= .ok v' w'/\w'.ownsRow B e' t.size v' (l.length+l4.length) (xs++ys)/\w.grownBy w' v.ownBlock/\(v'.ownBlock=v.ownBlock\/ ∀b,v'.ownBlock=some b->w.heap.size<=b):=by
 obtain⟨r,h⟩:=hT.slice;obtain⟨i,s,a,G,H⟩:=hT2.size;have z: (Xz t (Vh t)).cells.size=t.size:=by rw[Zy1 hT2.plain];simp[Zsa hT2.plain]
 have I:l.length+l4.length<=17179869184:=hp;obtain⟨ad,cap,rfl,Q,x⟩:=hy;rcases x with⟨rfl,c,rfl⟩| ⟨a0,rfl,x⟩
 ·have J:ys=[]:=List.eq_nil_of_length_eq_zero (by rw[hyl,c,Nat.zero_mul]);subst J;have A:=hown.2;rcases A with⟨rfl,N⟩| ⟨g,cap,k,rfl,y,O,C,K,D,L⟩
  ·refine⟨.slice none 0 0,w,?_,by rw[c];simpa using hown,⟨rfl,rfl,rfl,Nat.le_refl _,fun _ _ _=>rfl⟩,.inl rfl⟩;rw[c];simp[Builtin.append_,run_underlying r,Go.sizeOf,typeInfo,s,Builtin.lenOf,Builtin.firstCells]
  ·refine⟨.slice (some ⟨g,0,none⟩) l.length cap,w,?_,by rw[c];simpa using hown,⟨rfl,rfl,rfl,Nat.le_refl _,fun _ _ _=>rfl⟩,.inl rfl⟩;rw[c];simp[Builtin.append_,run_underlying r,Go.sizeOf,typeInfo,s,Builtin.lenOf,Builtin.firstCells,C,storeCells]
 ·have m: (l.length+l4.length)*i.bytes<=140737488355328:=by
   have: (l.length+l4.length)*i.bytes<=17179869184*8192:=Nat.mul_le_mul I G;omega
  have n:l.length+l4.length<=maxLen:=by simp only[maxLen];omega
  obtain⟨v',w',F,S,U,_⟩:=run_append_own (P:=P) w B e e e' i _ t.size i.bytes r s H a rfl z h v l.length xs hown a0 l4.length cap ys hyl x h1 n m hB;refine⟨v',w',F,S,U,?_⟩;rcases hown.2 with⟨rfl,N⟩| ⟨g,d,k,rfl,y,O,C,K,D,L⟩
  ·have o:w.ownsRow w.heap.size e' t.size (.slice none 0 0) l.length xs:=⟨hown.1,.inl ⟨rfl,N⟩⟩
   obtain⟨W,X,M,V,_⟩:=run_append_own (P:=P) w w.heap.size e e e' i _ t.size i.bytes r s H a rfl z h _ l.length xs o a0 l4.length cap ys hyl x h1 n m (Nat.le_refl _);rw[F]at M;simp only[Result.ok.injEq]at M;obtain⟨rfl,rfl⟩:=M;exact .inr fun b y=>(V.lt b y).1
  ·by_cases f:l.length+l4.length<=d
   ·have E:l.length*i.size+ys.length<=k.size:=by rw[hyl,D,a,<-Nat.add_mul];exact Nat.mul_le_mul_right _ f
    have p:=run_append_room (P:=P) w e e e' i r s g l.length d k O a0 l4.length cap ys (by rw[hyl,a]) x h1 f E;rw[F]at p;simp only[Result.ok.injEq]at p;exact .inl (by rw[p.1];rfl)
   ·have q: ∀j u,xs[j]? =some u->w.cell? ((⟨g,0,none⟩:Addr).add j)=some u:=hown.cells (g:=g) rfl;have p:=run_append_grow (P:=P) w e e e' i _ r s H ⟨g,0,none⟩ l.length d xs (by rw[hown.1,a]) q a0 l4.length cap ys (by rw[hyl,a]) x (by omega) (by simp only[maxLen]at n;omega) (growslice_fits (by omega) m);rw[F]at p;simp only[Result.ok.injEq]at p;exact .inr fun b y=>by rw[p.1]at y;simp[Value.ownBlock]at y;omega
theorem Z0s{B':Nat}{e:TypeId}{sz nn:Nat}{v:Value}{xs:List Value}(h:w.ownsRow B e sz v nn xs)(hB:B'<=B):w.ownsRow B' e sz v nn xs:=
 ⟨h.1,h.2.imp id fun⟨g,a,b,c,d,f⟩=>⟨g,a,b,c,Nat.le_trans hB d,f⟩⟩
theorem Qvj{S1 S2 S4:List Nat}(h:R n W0 w X F (S1++ (S2++ (S4++H))) s a){e':TypeId}{t:Ty}{v v':Value}{xs ys:List Value}{l l4:List t.den}
  (h1:hdr w X W0.B true e' t.size l.length v xs S1) (h2:Zaj (rd w X W0.B true t) l xs S2) (h4:Zaj (rd w X W0.B true t) l4 ys S4)
  (g2:w'.ownsRow W0.B e' t.size v' (l.length+l4.length) (xs++ys)) (g3:w.grownBy w' v.ownBlock) (g4:v'.ownBlock=v.ownBlock\/ ∀b,v'.ownBlock=some b->w.heap.size<=b):
  ∃S,R n W0 w' X F (S++H) s a/\rd w' X W0.B true (.slice e' t) (l++l4) [v'] S/\(∀b,X b->w'.heap[b]? =w.heap[b]?)/\ ∀k b,b∈F k->w'.heap[b]? =w.heap[b]? :=by
 have j:S1=v.ownBlock.toList:=h1.2;have f: ∀b,b<w.heap.size->b∉S1->w'.heap[b]? =w.heap[b]? :=fun b c A=>g3.block b c (fun e=>A (by rw[j,<-e];simp));have m:=h.hnodup;have o: ∀b,X b->w'.heap[b]? =w.heap[b]? :=fun b c=>f b (h.xlt b c) fun d=>(h.hown b (by simp[d])).2.2 c;have y: ∀k b,b∈F k->w'.heap[b]? =w.heap[b]? :=fun k b c=>f b (h.own k b c).2.1 fun d=>h.hdisj k b c (by simp[d]);have g: ∀b,b∈S2++ (S4++H)->b∉S1:=fun b c d=>(List.nodup_append.1 m).2.2 b d b c rfl;have C: ∀b,b∈S2++ (S4++H)->w'.heap[b]? =w.heap[b]? :=fun b c=>f b (h.hown b (by simp only[List.mem_append]at c⊢;grind)).2.1 (g b c);have p:W0.below w':=⟨g3.os.trans h.below.os,g3.tape.trans h.below.tape,g3.output.trans h.below.output,Nat.le_trans h.below.size g3.size,fun k hk=>
  (f k (Nat.lt_of_lt_of_le (W0.yW k hk) h.below.size) fun d=>W0.sep hk (h.hown k (by simp[d])).1 rfl).trans (h.below.block k hk)⟩
 have z:=(h.drop).world p g3.size o y;have q:=g2.lt;have r:R n W0 w' X F (v'.ownBlock.toList++ (S2++ (S4++H))) s a:=by
  rcases g4 with g4|g4
  ·rw[g4,<-j];refine z.hand (fun b c=> ?_) (List.nodup_append.1 m).1 (fun k b c d=>h.hdisj k b c (by simp[d])) (fun b c d=>g b d c);obtain⟨D,E,G⟩:=h.hown b (by simp[c]);exact⟨D,Nat.lt_of_lt_of_le E g3.size,G⟩
  ·refine z.hand (fun b c=> ?_) (by cases v'.ownBlock<;>simp) (fun k b c d=> ?_) (fun b c d=> ?_)
   ·have c:v'.ownBlock=some b:=by simpa using c
    exact⟨.inl (Nat.le_trans h.below.size (g4 b c)),(q b c).2,fun hx=>by have:=h.xlt b hx;have:=g4 b c;omega⟩
   ·have d:v'.ownBlock=some b:=by simpa using d
    have:=(h.own k b c).2.1;have:=g4 b d;omega
   ·have c:v'.ownBlock=some b:=by simpa using c
    have:=(h.hown b (by simp only[List.mem_append]at d⊢;grind)).2.1;have:=g4 b c;omega
 have i: ∀{l:List t.den} {xs:List Value} {S:List Nat},Zaj (rd w X W0.B true t) l xs S->(∀b∈S,b∈S2++ (S4++H))->Zaj (rd w' X W0.B true t) l xs S:=fun I J=>
  Kq I fun x v T _ K u=>Zdd (fun _ h=>h) o u fun b c=>C b (J b (K b c))
 refine⟨v'.ownBlock.toList++ (S2++S4),by simpa[List.append_assoc]using r,⟨v',xs++ys,v'.ownBlock.toList,S2++S4,rfl,rfl,⟨by simpa using g2,rfl⟩,?_⟩,o,y⟩;exact Zmk (i h2 fun b c=>by simp[c]) (i h4 fun b c=>by simp[c])
theorem Qlv(h:R n W0 w X F H s a)(ht:tg.ok W0.gh a)(hτ:τ.ok P){e:TypeId}{x y:Operand}(ho:o.op= .call {callee:= .builtin .append,args:= #[x,y],argTypes:= #[e,e]}){r:Res}(hr:Qhj τ s tg e x y=some r):Zqd P n W0 w X H s a o r:=by
 unfold Qhj at hr;split at hr
 ·rename_i e' t hT;split at hr
  ·rename_i t2 aa;split at hr
   ·rename_i e1 t1 l s1 m1 hd hx;have:=Ode hd;subst this;obtain⟨_,F1,S,vs,q1,q2,W,_,_⟩:=Zbg h ht hx;split at hr
    ·rename_i ab;obtain⟨rfl,rfl⟩:=Ode ab;simp only at q1 q2 W;unfold rdF at q2;obtain⟨v,xs,S1,S2,rfl,rfl,k1,k2⟩:=q2;have fin: ∀{i z S4 G f} {A:Value} {r:Res},R n W0 w X z (S4++ ((S1++S2)++H)) i a->(∀r,s.isBox r->i.isBox r)->a.eval y=A->
       (∃k c,A= .slice k f.length c/\f.length<=c/\((k=none/\f.length=0/\c=0)\/ ∃C,k=some C/\ ∀j u,G[j]? =some u->w.cell? (C.add j)=some u))->
       Zaj (rd w X W0.B true t1) f G S4->r=⟨.val (.slice e1 t1) (.u true) (l++f),i,true,some (l.length+f.length<=Qo)⟩->Zqd P n W0 w X H s a o r:=by
      intro i z S4 G f A r hR ac D hc d ae;subst ae;intro Y K Q hK;obtain⟨v',Z,g1,I,J,g4⟩:=Zzw (P:=P) (hτ _ _ hT) (hτ _ _ aa) k1.1 hc (Zrb (fun _ _ _ h=>X5 h) d) (Zv2 (fun _ _ _ h=>Zkc h) d) Y h.below.sizeB;have ag:R n W0 w X z (S1++ (S2++ (S4++H))) i a:=hR.sub (fun b g=>by simp only[List.mem_append]at g⊢;grind) (by
       have:=hR.hnodup;simp only[List.nodup_append,List.mem_append]at this⊢
       grind)
      obtain⟨S',L,M,N,z4⟩:=Qvj ag k1 k2 d I J g4;have ah:a.eval x=v:=q1;have O: (execOp a.eval o).run P w= .ok (.value v') Z:=by
       simp only[execOp,ho];have aj: (Builtin.append_ #[e,e] o.type #[v,A]).run P w= .ok v' Z:=g1;simp[resolve,invoke,builtin,ah,D,aj]
      have U:Qlu W0.gh X s a none w Z:=by
       intro b g;rcases g with g| ⟨r,h1,_,h2⟩
       ·exact N b g
       ·obtain⟨S,h3⟩:=hR.boxIn (ac r h1) h2;exact z4 (.m r) b (by rw[h3];simp)
      unfold Oper.wp;rw[O];exact hK _ X z S' Z (fun _ h=>h) L ⟨[v'],rfl,by unfold rdF;exact M⟩ (by simp) ⟨fun Y=>(by rw[ho]at Y;cases Y),U⟩
     split at hr
     ·rename_i e3 t3 b3 l3 V D;split at hr
      ·rename_i f p;simp only[Osi]at hr;have:=Zb5 p;cases this;obtain⟨A,G,T1,T2,g1,I,J,g4⟩:=Zur W ht D;have g5:=Zeq (r':=rd w X W0.B true t1) (fun x v S h=>Zdc V h) J;refine fin (S4:=[]) (by simpa using W) (fun r g=>Zp9 hx g) g1 ?_ g5.2 hr.symm;obtain⟨k,c,L,M,_,N⟩:=Zc8 I;exact⟨k,c,L,M,N.imp id fun⟨C,E,_,q⟩=>⟨C,E,q⟩⟩
      ·cases hr
     ·rename_i V;split at hr
      ·rename_i e3 t3 l3 i m2 D;split at hr
       ·rename_i f p;simp only[Osi]at hr;have:=Zb5 p;cases this;obtain⟨_,z,S4,al,E,q,u3,_,_⟩:=Zbg W ht D;simp only at E q u3;unfold rdF at q;obtain⟨A,G,T1,T2,rfl,rfl,I,J⟩:=q;have ak:R n W0 w X z (T2++ ((S1++S2)++H)) i a:=by
         rw[List.append_assoc]at u3;exact u3.drop
        refine fin ak (fun r g=>Zp9 D (Zp9 hx g)) E ?_ J hr.symm;obtain⟨k,c,L,M,_,N⟩:=Zc8 I;exact⟨k,c,L,M,N.imp id fun⟨C,E,_,q⟩=>⟨C,E,q⟩⟩
       ·cases hr
      ·cases hr
     ·cases hr
    ·cases hr
   ·cases hr
  ·cases hr
 ·cases hr
end
end Go.Am

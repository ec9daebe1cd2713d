/- The abstract machine, part 2: what a piece of Go code does, as plain data, and that it does so. No condition. -/
import Derived.Test.YtfhellopliifdaaGreatAm1
import Derived.Great.BuildSlice
set_option linter.all false
namespace Go.Am
open Go.RowKit
theorem Addr.add_add'(a:Addr)(m j:Nat):(a.add m).add j=a.add (m+j):=by
 grind[Addr.add]
theorem Zl0(w:World){b:Nat}{c:Array Value}{e:TypeId}{fr:Nat×Nat}(h:w.heap[b]? =some (.cells c e fr))(o j:Nat):w.cell? ((⟨b,o,none⟩:Addr).add j)=c[o+j]? :=by
 grind[Addr.add,World.cell?]
variable {P:Program}{g:Kx}{W0:Zc6 g}{w w':World}{X X':Nat->Prop}{B n:Nat}{own:Bool}{s:St}{F:Key->List Nat}{a:Act}{H:List Nat}{o:Oper}{tg:Ye}{τ:Tab}{gh:Nat->Value}
theorem Qh1:∀{p:List Nat}{T:Ty}{x:T.den}{y:TV}{i:Nat},Zh2 T x p=some y->Zh2 T x (p++[i])=fld y.1 y.2 i/\(∀U,Z4a y.1 i=some U->Wr T (p++[i])=Wr T p+Zj9 y.1 i)
 |[],T,x,y,i,h=>by
  grind[Zh2,Wr]
 |j::p,T,x,y,i,h=>by
  simp only[Zh2]at h;cases hz:fld T x j with
  |none=>simp_all
  |some z=>
   rw[hz]at h;obtain⟨a,b⟩:=Qh1 (i:=i) h
   grind[Zh2,Wr,Z9z]
theorem Q6g:∀{T:Ty}{x:T.den}{i:Nat}{U:Ty},Z4a T i=some U-> ∃y,fld T x i=some ⟨U,y⟩:=by
 intro T
 induction T with
 |pair a b d c=>
  intro x i U h;cases i with
  |zero=>simp only[Z4a,Osi]at h;subst h;exact⟨x.1,rfl⟩
  |succ i=>exact c (x:=x.2) h
 |_=>intro x i U h;cases i<;>cases h
theorem TOK.fieldAt{e:TypeId}{T U:Ty}(h:TOK P e T){i:Nat}(hU:Z4a T i=some U)(ad:Addr)(w:World):(Instr.fieldAt e (.pointer (some ad)) i).run P w=.ok (.pointer (some (ad.add (Zj9 T i)))) w:=by
 have a:T.isStruct=true:=by cases T<;>first|rfl|(cases i<;>cases hU)
 obtain⟨k,l,b⟩:=h.struct a;obtain⟨f,m,n,c,o⟩:=Qvp b hU;obtain⟨j,p,d,_⟩:=Zre c;have g:¬j.size=0:=by omega
 simp_all[Instr.fieldAt,run_underlying,Instr.sureAddr,fieldPlace,Go.sizeOf,typeInfo]
def Qe2(τ:Tab)(s:St)(tg:Ye)(e:TypeId)(x:Operand)(i:Nat):Option Res:=
 match τ e,op1 s tg x with
 |some T,.tm k (.box _ U _ _)=>match s.get (.m k),decide (T=U),Z4a T i with
  |.box _ _ _ _,true,some _=>some ⟨.ptr k [i],s,false,none⟩
  |_,_,_=>none
 |some T,.tm _ (.ptr r p)=>match s.get (.m r)with
  |.box _ U _ y=>match Zh2 U y p with
   |some z=>match decide (T=z.1),Z4a T i with
    |true,some _=>some ⟨.ptr r (p++[i]),s,false,none⟩
    |_,_=>none
   |none=>none
  |_=>none
 |some T,.tm _ (.shp U y)=>match decide (T=U),fld U y i with
  |true,some z=>some ⟨.shp z.1 z.2,s,false,none⟩
  |_,_=>none
 |some T,.tm k (.elp r p j q)=>match Zxa s (.tm k (.bor r p))with
  |some ⟨.slice _ t,_,_⟩=>match Zh2 t (zero t) q with
   |some z=>match decide (T=z.1),Z4a T i with
    |true,some _=>some ⟨.elp r p j (q++[i]),s,false,none⟩
    |_,_=>none
   |none=>none
  |_=>none
 |_,_=>none
theorem Z70(h:R n W0 w X F H s a)(ht:tg.ok W0.gh a)(hτ:τ.ok P){e:TypeId}{x:Operand}{i:Nat}(ho:o.op=.fieldAddr e x i){r:Res}(hr:Qe2 τ s tg e x i=some r):Zeb P τ W0 w X F s a o r:=by
 unfold Qe2 at hr;have g:∀{A:Addr}{T U:Ty},τ e=some T->Z4a T i=some U->a.eval x=.pointer (some A)-> ∀G,Dep W0.gh τ X s a o w G->(execOp a.eval o).run P G=.ok (.value (.pointer (some (A.add (Zj9 T i))))) G:=by
  intro A T U m hU hx G _;simp only[execOp,ho,hx,Sem.run_bind,(hτ _ _ m).fieldAt hU A G,Result.andThen_ok,Sem.run_pure]
 split at hr
 ·rename_i T k e' U f y m hx;split at hr
  ·rename_i _ _ _ W U2 f2 y2 V I C J;simp only[Osi]at hr;subst hr;have d:T=U:=Ode C;subst d;obtain⟨rfl,b,c,S,v,K,L,h4⟩:=Jx h ht hx (by simp);have hx:=(Zpx hx).2.2;simp only[I,Z3b]at hx;cases hx;refine Ku rfl λ_=>⟨_,g m J v,rfl,_,_,_,_,b,S,I,K,?_⟩
   simp_all[Wr,Addr.add]
  ·cases hr
 ·rename_i T k Y p m hx;split at hr
  ·rename_i W U f y I;split at hr
   ·rename_i z E;split at hr
    ·rename_i V C J;simp only[Osi]at hr;subst hr;have d:T=z.1:=Ode C;obtain⟨rfl,Z,e3,U3,f3,y3,b,S,v,K,L⟩:=Jx h ht hx (by simp);rw[I]at v;cases v;refine Ku rfl λ_=>⟨_,g m J L,rfl,_,_,_,_,b,S,I,K,?_⟩
     rw[(Qh1 E).2 V (by simp_all),d];simp_all[Addr.add]
    ·cases hr
   ·cases hr
  ·cases hr
 ·rename_i T k U y m hx;split at hr
  ·rename_i z C E;simp only[Osi]at hr;subst hr;have d:T=U:=Ode C;subst d;obtain⟨rfl,Z,A,vs,v,K,L,h4⟩:=Jx h ht hx (by simp);have M:rdF w X W0.B T (.u false) y vs []:=by simp_all[rdF]
   obtain⟨pre,N,aa,S1,S2,S3,m1,m2,m3,m4,_⟩:=Qmm E M;refine Ku rfl λ_=>⟨_,g m (Z9z E) v,rfl,_,N,rfl,?_,?_,?_⟩
   ·grind[Addr.add]
   ·intro j u hj;rw[Addr.add_add',<-m3]
    grind
   simp_all[Zz1,rdF]
  ·cases hr
 ·rename_i T k Y p j q m hx;split at hr
  ·rename_i W t f l hl;split at hr
   ·rename_i z E;split at hr
    ·rename_i V C J;simp only[Osi]at hr;subst hr;have d:T=z.1:=Ode C;obtain⟨rfl,Z,v⟩:=Jx h ht hx (by simp);have D:s.bad Y p=false:=by
      grind[Zxa]
     obtain⟨e3,t3,A,nn,O,k1,k2,k3,k4⟩:=v D;obtain⟨_,Q,_⟩:=Qec h hl k1;cases Q;refine Ku rfl λ_=>⟨_,g m J k4,rfl,λ_=>⟨_,_,A,nn,O,k1,k2,k3,?_⟩⟩
     rw[Addr.add_add',(Qh1 E).2 V (by simp_all),d,Nat.add_assoc]
    ·cases hr
   ·cases hr
  ·cases hr
 ·cases hr
theorem Zrd{α:Type}{r:α->List Value->List Nat->Prop}:∀{l l':List α}{vs vs':List Value}{S S':List Nat},Zc2 r l vs S->Zc2 r l' vs' S'->Zc2 r (l++l') (vs++vs') (S++S')
 |[],_,_,_,_,_,⟨a,b⟩,h=>by simp_all
 |x::l,_,_,_,_,_,⟨c,d,e,f,a,b,g,i⟩,h=>⟨c,d++_,e,f++_,by simp[a],by simp[b],g,Zrd i h⟩
def Z77(s:St)(tg:Ye)(n:Nat)(t:Ty)(x i:Operand):Option Res:=
 let at' (r:Nat) (p:List Nat):Option Res:=match s.get (.m r),Zwf s (op1 s tg i)with
  |.box _ U _ y,some (_,j)=>match Zh2 U y p with
   |some ⟨.arr n' t',_⟩=>match decide (n'=n/\t'=t)with
    |true=>some ⟨.aep r p j,s,false,some (0<=j/\j<n)⟩
    |false=>none
   |_=>none
  |_,_=>none
 match op1 s tg x with
 |.tm k (.box _ _ _ _)=>at' k []
 |.tm _ (.ptr r p)=>at' r p
 |_=>none
def Z76(τ:Tab)(s:St)(tg:Ye)(e:TypeId)(x i:Operand):Option Res:=
 match τ e,Z9f s (op1 s tg x),Zwf s (op1 s tg i)with
 |some (.slice e' t'),some ⟨_,t,b,l⟩,some (_,j)=>match τ e',decide (t'=t),b,op1 s tg x with
  |some t2,true,false,_=>match decide (t2=t)||(decide (t=.hid t2)&&Nat.beq t2.size 1)with
   |true=>some ⟨.shp t (l.getD j.toNat (zero t)),s,false,some (0<=j/\j<l.length)⟩
   |false=>none
  |some t2,true,true,.tm k (.val _ _ _)=>match decide (t2=t),s.get (.m k)with
   |true,.val _ _ _=>some ⟨.elp k [] j [],s,false,some (0<=j/\j<l.length)⟩
   |_,_=>none
  |some t2,true,true,.tm _ (.bor r p)=>match decide (t2=t)with
   |true=>some ⟨.elp r p j [],s,false,some (0<=j/\j<l.length)⟩
   |false=>none
  |_,_,_,_=>none
 |_,_,_=>none
def Zz6(τ:Tab)(s:St)(tg:Ye)(e:TypeId)(x i:Operand):Option Res:=
 match τ e with
 |some (.arr n t)=>Z77 s tg n t x i
 |_=>Z76 τ s tg e x i
theorem Qw8{e e':TypeId}{t:Ty}{t2:Ty}(h:TOK P e (.slice e' t))(h':TOK P e' t2)(hsz:t2.size=t.size){ad:Addr}{len cap:Nat}{k:IntKind}{j:Int}(h0:0<=j)(h1:j<len)(w:World):
  (Instr.indexAt e (.slice (some ad) len cap) (.int k j)).run P w=.ok (.pointer (some (ad.add (j.toNat*t.size)))) w:=by
 simp only[Instr.indexAt,Sem.run_bind,asIntOf,Sem.run_pure,Result.andThen_ok,run_underlying h.slice.1];simp[h0,h1,h'.sizeOf w,hsz]
theorem Qfd(h:R n W0 w X F H s a)(ht:tg.ok W0.gh a){e:TypeId}{m:Nat}{t:Ty}(hT:TOK P e (.arr m t)){x i:Operand}(ho:o.op=.indexAddr e x i){r:Res}(hr:Z77 s tg m t x i=some r):Zeb P τ W0 w X F s a o r:=by
 have q:∀{k p},(∃u U f y b S,s.get (.m k)=.box u U f y/\F (.m k)=b::S/\a.eval x=.pointer (some ⟨b,Wr U p,none⟩))->
   (match s.get (.m k),Zwf s (op1 s tg i)with
    |.box _ U _ y,some (_,j)=>match Zh2 U y p with
     |some ⟨.arr z g,_⟩=>match decide (z=m/\g=t)with
      |true=>some (⟨.aep k p j,s,false,some (0<=j/\j<m)⟩:Res)
      |false=>none
     |_=>none
    |_,_=>none)=some r->Zeb P τ W0 w X F s a o r:=by
  clear hr;intro k p ⟨u,U,f,y,b,S,v,hF,hx⟩ hr;rw[v]at hr;split at hr
  ·rename_i L M;cases L;rename_i ik j;have N:=Zih h ht M;split at hr
   ·rename_i z g l O;split at hr
    ·rename_i Q;obtain⟨rfl,rfl⟩:=Ode Q;simp only[Osi]at hr;subst hr;refine Ku rfl λd=>?_;have d:0<=j/\j<z:=d;refine⟨.pointer (some ⟨b,Wr U p+j.toNat*g.size,none⟩),λw' _=>?_,rfl,u,U,f,y,b,S,z,g,l,v,hF,O,d.1,d.2,rfl⟩;obtain⟨_,A,V,W⟩:=hT.arr;obtain⟨i2,Y,Z,_⟩:=Zre W;have E:(⟨b,Wr U p,none⟩:Addr).add (j.toNat*g.size)=⟨b,Wr U p+j.toNat*g.size,none⟩:=by
      simp_all[Addr.add]
     simp only[execOp,ho,hx,N,Sem.run_bind,Instr.indexAt,asIntOf,Sem.run_pure,Result.andThen_ok,run_underlying V,Instr.sureAddr];simp_all[Go.sizeOf,typeInfo]
    ·cases hr
   ·cases hr
  ·cases hr
 unfold Z77 at hr;simp only at hr;split at hr
 ·rename_i k u U f y hx;obtain⟨rfl,b,c,S,B,C,G,h4⟩:=Jx h ht hx (by simp);refine q (p:=[]) ?_ hr;have D:∃A I J K,s.get (.m k)=.box A I J K:=by
   grind
  obtain⟨A,I,J,K,v⟩:=D;have hx:=(Zpx hx).2.2;simp only[v,Z3b]at hx;cases hx;exact⟨u,U,f,y,b,S,v,C,B⟩
 ·rename_i k r' p hx;obtain⟨rfl,h0,e3,U3,f3,y3,b,S,B,C,G⟩:=Jx h ht hx (by simp);exact q ⟨e3,U3,f3,y3,b,S,B,C,G⟩ hr
 ·cases hr
theorem Qfc(h:R n W0 w X F H s a)(ht:tg.ok W0.gh a)(hτ:τ.ok P){e:TypeId}{x i:Operand}(ho:o.op=.indexAddr e x i){r:Res}(hr:Z76 τ s tg e x i=some r):Zeb P τ W0 w X F s a o r:=by
 unfold Z76 at hr;split at hr
 ·rename_i e' t' e2 t b l k j hT g hj;have e3:=Zih h ht hj;obtain⟨v,xs,V,S2,hv,W,k2,k3⟩:=Z0c h ht g;have m:=Zgp W;have y:∀{C},τ e'=some C->t'=t->C.size=t.size->0<=j/\j<l.length-> ∃d c,a.eval x=.slice (some d) l.length c/\(X d.block\/d.block∈V)/\(∀j u,xs[j]? =some u->w.cell? (d.add j)=some u)/\
    ∀D,Dep W0.gh τ X s a o w D->(execOp a.eval o).run P D=.ok (.value (.pointer (some (d.add (j.toNat*t.size))))) D:=by
   intro C z h2 h3 Y;subst h2;obtain⟨ab,c,E,_,_,K⟩:=m;rcases K with⟨_,ae,_⟩|⟨d,rfl,L,K⟩
   ·omega
   ·refine⟨d,c,hv.trans E,L.resolve_left (by omega),K,λD _=>?_⟩;simp only[execOp,ho,hv,E,e3,Sem.run_bind,Qw8 (hτ _ _ hT) (hτ _ _ z) h3 Y.1 Y.2 D,Result.andThen_ok,Sem.run_pure]
  split at hr
  ·rename_i C z G;split at hr
   ·rename_i hd2;simp only[Osi]at hr;subst hr;refine Ku rfl λf=>?_;have f:0<=j/\j<l.length:=f;obtain⟨d,c,Z,M,N,I⟩:=y z (Ode G) (by
     rcases(Bool.or_eq_true _ _).mp hd2 with hd2|hd2
     ·simp_all
     ·simp only[Oba,decide_eq_true_eq]at hd2;rw[hd2.1,Onb hd2.2];rfl) f
    obtain⟨pre,O,aa,T1,T2,T3,m1,m2,m3,m4,_⟩:=Zwg (λ_ _ _ h=>Y6 h) (i:=j.toNat) (by omega) k2;refine⟨_,I,rfl,_,O,rfl,?_,?_,?_⟩
    ·have:(d.add (j.toNat*t.size)).block=d.block:=by grind[Addr.add]
     rw[this];refine M.resolve_right ?_;rw[show V=[]from W.1];simp
    ·intro q u hq;rw[Addr.add_add',<-m3];apply N
     grind
    grind[Znn]
   ·cases hr
  ·rename_i C k' T3 f3 x3 z G hx;split at hr
   ·rename_i T4 Q x4 hd2 hg;simp only[Osi]at hr;subst hr;refine Ku rfl λf=>?_;have f:0<=j/\j<l.length:=f;obtain⟨d,c,Z,M,N,I⟩:=y z (Ode G) (congrArg Ty.size (Ode hd2)) f;obtain⟨rfl,_⟩:=Jx h ht hx (by simp);have ag:=hx;have ah:=(Zpx hx).2.1;have hx:=(Zpx hx).2.2;simp only[hg,Z3b]at hx;cases hx;have S:∃J,T3=.slice J t:=by
     unfold Z9f at g;split at g
     ·rename_i J t4 b4 l4 hk;simp only[Osi,Sigma.mk.injEq]at g;obtain⟨rfl,g⟩:=g;simp only[heq_eq_eq,Sigma.mk.injEq]at g;obtain⟨rfl,g⟩:=g
      grind[Zxa]
     ·cases g
    obtain⟨J,rfl⟩:=S;refine⟨_,I,rfl,λ_=>⟨J,t,d,l.length,c,?_,f.1,f.2,by simp[Wr]⟩⟩;simp_all[Xw,Yr]
   ·cases hr
  ·rename_i C k' r' p z G hx;split at hr
   ·rename_i hd2;simp only[Osi]at hr;subst hr;refine Ku rfl λf=>?_;have f:0<=j/\j<l.length:=f;obtain⟨d,c,Z,M,N,I⟩:=y z (Ode G) (congrArg Ty.size (Ode hd2)) f;obtain⟨rfl,h0,L⟩:=Jx h ht hx (by simp);refine⟨_,I,rfl,λA=>?_⟩;obtain⟨U,hU⟩:=L A;have B:∃Q,Zxa s (.tm k' (.bor r' p))=some ⟨.slice e2 t,Q,l⟩:=by
     unfold Z9f at g
     grind
    obtain⟨Q,B⟩:=B;obtain⟨_,ak,_⟩:=Qec h B hU
    grind[Wr]
   ·cases hr
  ·cases hr
 ·cases hr
theorem Q04(b:Bool):∀q:List Nat,Zo0 (.u b) q=.u b
 |[]=>rfl
 |i::q=>by
  have:Zz1 (.u b) i=.u b:=by cases i<;>rfl
  rw[Zo0,this];exact Q04 b q
def Qmf(τ:Tab)(s:St)(tg:Ye)(e:TypeId)(x:Operand):Option Res:=
 match τ e with
 |none=>none
 |some T=>
  let fromBox (r:Nat) (p:List Nat):Option Res:=match s.get (.m r)with
   |.box _ U f y=>match Zh2 U y p with
    |some z=>match(Zo0 f p).live,decide (z.1=T)with
     |true,true=>match Zq4 (Zo0 f p) z.1 with
      |true=>some ⟨.val z.1 (Zo0 f p) z.2,s,false,none⟩
      |false=>some ⟨.bor r p,s,false,none⟩
     |_,_=>none
    |none=>none
   |_=>none
  match op1 s tg x with
  |.tm k (.box _ _ _ _)=>fromBox k []
  |.tm _ (.ptr r p)=>fromBox r p
  |.tm _ (.shp U y)=>match decide (U=T)with
   |true=>some ⟨.val U (.u false) y,s,false,none⟩
   |false=>none
  |.tm _ (.aep r p i)=>match s.get (.m r)with
   |.box _ U f y=>match Zh2 U y p with
    |some ⟨.arr _ t,l⟩=>match(Zo0 f p).live,decide (t=T),t.flat with
     |true,true,true=>some ⟨.val t (.u false) (l.getD i.toNat (zero t)),s,false,none⟩
     |_,_,_=>none
    |_=>none
   |_=>none
  |.tm k (.elp r p j q)=>match Zxa s (.tm k (.bor r p))with
   |some ⟨.slice _ t,.u b,l⟩=>match Zh2 t (l.getD j.toNat (zero t)) q with
    |some z=>match decide (z.1=T),z.1.flat,b with
     |true,true,_=>some ⟨.val z.1 (.u false) z.2,s,false,none⟩
     |true,false,true=>some ⟨.bel r p j q,s,false,none⟩
     |_,_,_=>none
    |none=>none
   |_=>none
  |_=>none
theorem Qb1(h:R n W0 w X F H s a)(ht:tg.ok W0.gh a)(hτ:τ.ok P){e:TypeId}{x:Operand}(ho:o.op=.load e x){r:Res}(hr:Qmf τ s tg e x=some r):Zeb P τ W0 w X F s a o r:=by
 unfold Qmf at hr;split at hr
 ·cases hr
 ·rename_i T hT;have J:∀{N:Addr}{vs:List Value},a.eval x=.pointer (some N)->vs.length=T.size->(∀C,Dep W0.gh τ X s a o w C-> ∀j u,vs[j]? =some u->C.cell? (N.add j)=some u)-> ∀C,Dep W0.gh τ X s a o w C->(execOp a.eval o).run P C=.ok (.value (Yz T vs)) C:=by
   intro N vs hx hl hc C al;simp only[execOp,ho,hx,Sem.run_bind,Instr.loadAt,Instr.sureAddr,Sem.run_pure,Result.andThen_ok,(hτ _ _ hT).load hl (hc C al)]
  have D:∀{C},Dep W0.gh τ X s a o w C->match Z14 s (.load e x)with
    |some (some r)=> ∀b,b<w.heap.size->Q2 W0.gh a (.m r)=.pointer (some ⟨b,0,none⟩)->C.heap[b]? =w.heap[b]?
    |some none=> ∀b,b<w.heap.size->X b->C.heap[b]? =w.heap[b]?
    |none=>Old w C:=λ{C} d=>by
   have:=d (by rw[ho];rfl)
   grind
  have ah:∀{k p},Z14 s (.load e x)=some (some k)->(∃e' U f y b S,s.get (.m k)=.box e' U f y/\F (.m k)=b::S/\a.eval x=.pointer (some ⟨b,Wr U p,none⟩))->
    (match s.get (.m k)with
     |.box _ U f y=>match Zh2 U y p with
      |some z=>match(Zo0 f p).live,decide (z.1=T)with
       |true,true=>match Zq4 (Zo0 f p) z.1 with
        |true=>some (⟨.val z.1 (Zo0 f p) z.2,s,false,none⟩:Res)
        |false=>some ⟨.bor k p,s,false,none⟩
       |_,_=>none
      |none=>none
     |_=>none)=some r->Zeb P τ W0 w X F s a o r:=by
   intro k p hdr ⟨e',U,f,y,b,S,hg,hF,hx⟩ hr;rw[hg]at hr;simp only at hr;have hs:=h.slots (.m k);rw[hg]at hs;obtain⟨b',c,S',l1,l2,l3,l4⟩:=hs;rw[hF]at l2;obtain⟨rfl,rfl⟩:=List.cons.inj l2;split at hr
   ·rename_i z Q;obtain⟨pre,E,K,S1,S2,S3,m1,m2,m3,V,_⟩:=Zjk Q l4;split at hr
    ·rename_i L d;have G:z.1=T:=Ode d;have I:∀j u,E[j]? =some u->w.cell? ((⟨b,Wr U p,none⟩:Addr).add j)=some u:=by
      intro j u W;rw[Zl0 w l3,<-Array.getElem?_toList,m1,<-m3,List.getElem?_append_right (by omega),show pre.length+j-pre.length=j from by omega,List.getElem?_append_left (List.getElem?_eq_some_iff.1 W).1];exact W
     have Y:=J hx (by rw[Y2 V,G]) (λC d j u W=>by
      have d:=D d;rw[hdr]at d;rw[World.cell?_of_block (w:=w) (by
       have hb:((⟨b,Wr U p,none⟩:Addr).add j).block=b:=by grind[Addr.add]
       grind)]
      grind)
     split at hr
     ·rename_i hn;simp only[Osi]at hr;subst hr;have:=Znm hn V;subst this;exact Ku rfl λ_=>⟨_,Y,E,by rw[G],V⟩
     ·simp only[Osi]at hr;subst hr;refine Ku rfl λ_=>⟨_,Y,rfl,λ_=>⟨z.1,?_⟩⟩
      unfold Xw;rw[hg];exact⟨b,c,S,z,hF,l3,Q,rfl,by grind[Y2]⟩
    ·cases hr
   ·cases hr
  simp only at hr;split at hr
  ·rename_i k e' U f y hx;obtain⟨rfl,b,c,S,O,Z,h3,h4⟩:=Jx h ht hx (by simp);refine ah (p:=[]) (Zqp hx (by simp)) ?_ hr;cases hg:s.get (.m k)<;>rw[hg]at hr<;>simp only at hr<;>first|cases hr|skip
   have hx:=(Zpx hx).2.2;simp only[hg,Z3b]at hx;cases hx;exact⟨e',U,f,y,b,S,rfl,Z,O⟩
  ·rename_i k r' p hx;obtain⟨rfl,h0,e3,U3,f3,y3,b,S,O,Z,h3⟩:=Jx h ht hx (by simp);exact ah (Zqp hx (by simp)) ⟨e3,U3,f3,y3,b,S,O,Z,h3⟩ hr
  ·rename_i k U y hx;obtain⟨rfl,h0,N,vs,O,Z,h3,h4⟩:=Jx h ht hx (by simp);split at hr
   ·rename_i d;simp only[Osi]at hr;subst hr;have hU:U=T:=Ode d;subst hU;refine Ku rfl λ_=>⟨_,J O (Y6 h4) (λC d j u W=>?_),vs,rfl,by grind[rdF]⟩
    have d:=D d;have hdr:Z14 s (.load e (.tmp k))=some none:=Zqp hx (by simp);rw[hdr]at d;rw[World.cell?_of_block (w:=w) (by
     have hb:(N.add j).block=N.block:=by grind[Addr.add]
     rw[hb];exact d _ (h.xlt _ Z) Z)]
    exact h3 j u W
   ·cases hr
  ·rename_i k r' p i hx;obtain⟨rfl,h0,e3,U3,f3,y3,b,S,nn,t3,z3,O,Z,h3,h4,h5,h6⟩:=Jx h ht hx (by simp);rw[O]at hr;simp only[h3]at hr;split at hr
   ·rename_i L d ak;simp only[Osi]at hr;subst hr;have G:t3=T:=Ode d;subst G;have hs:=h.slots (.m r');rw[O]at hs;obtain⟨b',c,S',l1,l2,l3,l4⟩:=hs;rw[Z]at l2;obtain⟨rfl,rfl⟩:=List.cons.inj l2;obtain⟨pre,E,K,S1,S2,S3,m1,m2,m3,V,_⟩:=Zjk h3 l4;have m5:=Vc (X':=λb=>X b\/b∈S2) (λ_ h=>.inl h) L V (λ_ h=>.inr h);obtain⟨aa,ab⟩:=m5;have aa:z3.length=nn:=aa;have am:i.toNat<z3.length:=by omega
    obtain⟨g,A,M,T1,T2,T3,n1,n2,n3,n4,_⟩:=Zwg (λ_ _ _ h=>Y6 h) am ab;have e4:z3.getD i.toNat (zero t3)=z3[i.toNat]:=by grind
    have I:∀j u,A[j]? =some u->w.cell? ((⟨b,Wr U3 p+i.toNat*t3.size,none⟩:Addr).add j)=some u:=by
     intro j u W;have aw:=(List.getElem?_eq_some_iff.1 W).1;rw[Zl0 w l3,<-Array.getElem?_toList,m1,n1,<-m3,<-n3];rw[List.getElem?_append_right (by omega),List.getElem?_append_left (by simp;omega),List.getElem?_append_right (by omega),List.getElem?_append_left (by omega)]
     grind
    refine Ku rfl λ_=>⟨_,J h6 (Y6 n4) (λC d j u W=>?_),A,rfl,?_⟩
    ·have d:=D d;rw[Zqp hx (by simp)]at d;rw[World.cell?_of_block (w:=w) (by
      have hb:((⟨b,Wr U3 p+i.toNat*t3.size,none⟩:Addr).add j).block=b:=by grind[Addr.add]
      rw[hb];exact d b (Array.getElem?_eq_some_iff.1 l3).1 l1)]
     grind
    grind[rdF,Zgy]
   ·cases hr
  ·rename_i k r' p j q hx;obtain⟨rfl,h0,O⟩:=Jx h ht hx (by simp);split at hr
   ·rename_i e2 t b l hl;have ae:s.bad r' p=false:=by
     grind[Zxa]
    obtain⟨e3,t3,N,nn,ap,k1,k2,k3,k4⟩:=O ae;obtain⟨_,ar,_,vs,S,g1,g2,g3⟩:=Qec h hl k1;cases ar;unfold rdF at g2;obtain⟨v,xs,S1,S2,rfl,rfl,q1,q2⟩:=g2;have g1:Value.slice (some N) nn ap=v:=g1;subst g1;obtain⟨a0,av,hv,ax,_,hc⟩:=Zgp q1;simp only[Value.slice.injEq]at hv;obtain⟨rfl,rfl,rfl⟩:=hv;rcases hc with⟨e0,_⟩|⟨ay,e0,_,hc⟩
    ·cases e0
    ·simp only[Osi]at e0;subst e0;split at hr
     ·rename_i z Q;split at hr
      ·rename_i d ak _;simp only[Osi]at hr;subst hr;have G:z.1=T:=Ode d;obtain⟨pre,E,K,T1,T2,T3,m1,m2,m3,V,_⟩:=Zwg (λ_ _ _ h=>Y6 h) (i:=j.toNat) (by omega) q2;have e4:l.getD j.toNat (zero t)=l[j.toNat]'(by omega):=by grind
       rw[e4]at Q;have mk:∀{own:Bool},rd w X W0.B own t l[j.toNat] E T2->rdF w X W0.B t (.u own) l[j.toNat] E T2:=λh=>by grind[rdF]
       have ag:=mk V;obtain⟨g,A,M,U1,U2,U3,n1,n2,n3,n4,_⟩:=Zjk Q ag;refine Ku rfl λ_=>⟨_,J k4 (vs:=A) (by grind[Y2]) ?_,A,by rw[G],?_⟩
       ·intro C d i u hi;have d:=D d;rw[Zqp hx (by simp)]at d;refine Old.cell (show Old w C from d) ?_;rw[Addr.add_add',<-m3,<-n3];apply hc;have hm:=(List.getElem?_eq_some_iff.1 hi).1;rw[m1,List.getElem?_append_right (by omega),show pre.length+g.length+i-pre.length=g.length+i from by omega,
         List.getElem?_append_left (by grind),n1,List.getElem?_append_right (by omega),show g.length+i-g.length=i from by omega,List.getElem?_append_left hm]
        exact hi
       grind[Q04,rdF,Zgy]
      ·rename_i d ak _;simp only[Osi]at hr;subst hr;have G:z.1=T:=Ode d;have au:=Q;obtain⟨pre,E,K,T1,T2,T3,m1,m2,m3,V,_⟩:=Zwg (λ_ _ _ h=>Y6 h) (i:=j.toNat) (by omega) q2;have e4:l.getD j.toNat (zero t)=l[j.toNat]'(by omega):=by grind
       rw[e4]at Q;have ag:rdF w X W0.B t (.u true) l[j.toNat] E T2:=by grind[rdF]
       obtain⟨g,A,M,U1,U2,U3,n1,n2,n3,n4,_⟩:=Zjk Q ag;have I:∀(i:Nat) u,A[i]? =some u->w.cell? (N.add (j.toNat*t.size+Wr t q+i))=some u:=λi u hi=>by
        rw[<-m3,<-n3];apply hc;have hm:=(List.getElem?_eq_some_iff.1 hi).1;rw[m1,List.getElem?_append_right (by omega),show pre.length+g.length+i-pre.length=g.length+i from by omega,
         List.getElem?_append_left (by grind),n1,List.getElem?_append_right (by omega),show g.length+i-g.length=i from by omega,List.getElem?_append_left hm]
        exact hi
       refine Ku rfl λ_=>⟨_,J k4 (vs:=A) (by grind[Y2]) ?_,rfl,λ_ _=>⟨_,t,N,_,_,_,z,A,k1,k2,k3,g3 _ ?_,au,by rw[G],Y2 n4,I⟩⟩
       ·intro C d i u hi;have d:=D d;rw[Zqp hx (by simp)]at d;refine Old.cell (show Old w C from d) ?_
        grind[Addr.add_add']
       ·rw[q1.2];simp[Value.ownBlock]
      ·cases hr
     ·cases hr
   ·cases hr
  ·cases hr
theorem Z0v(h:R n W0 w X F H s a)(ht:tg.ok W0.gh a)(hτ:τ.ok P){e:TypeId}{x i:Operand}(ho:o.op=.indexAddr e x i){r:Res}(hr:Zz6 τ s tg e x i=some r):Zeb P τ W0 w X F s a o r:=by
 unfold Zz6 at hr;split at hr
 ·rename_i n t b;exact Qfd h ht (hτ _ _ b) ho hr
 grind[Qfc]
def Qn6(s:St)(o:Op1):Option ((T:Ty)×T.den×St):=
 match Zxa s o with
 |some ⟨T,f,x⟩=>match Zq4 f T with
  |true=>some ⟨T,x,s⟩
  |false=>match o with
   |.tm k (.val _ _ _)=>match s.get (.m k)with
    |.val U _ y=>some ⟨T,x,Vv s k (.val U (.u false) y)⟩
    |_=>none
   |.tm _ (.bor r [])=>match s.get (.m r)with
    |.val U _ y=>some ⟨T,x,Vv s r (.val U (.u false) y)⟩
    |_=>none
   |_=>none
 |none=>none
def shA(s:St)(o:Op1):Bool:=match Zxa s o with
 |some ⟨T,f,_⟩=>Zq4 f T
 |none=>false
theorem Qvy{s s':St}{o:Op1}{T:Ty}{y:T.den}(hk:Qn6 s o=some ⟨T,y,s'⟩)(h:shA s o=true):s'=s:=by
 unfold Qn6 at hk;unfold shA at h
 grind
theorem R.freezeM(hs:g.soft=false)(h:R n W0 w X F H s a){k:Nat}{T:Ty}{f:Fl}{x:T.den}(hg:s.get (.m k)=.val T f x)(hf:f.live=true):
  R n W0 w (λb=>X b\/b∈F (.m k)) (Xb F (.m k) []) H (Vv s k (.val T (.u false) x)) a/\ ∃vs,Q2 W0.gh a (.m k)=Yz T vs/\rd w (λb=>X b\/b∈F (.m k)) W0.B false T x vs []:=by
 have hs:=h.slots (.m k);rw[hg]at hs;obtain⟨vs,Z,h2⟩:=hs;have aa:rd w (λb=>X b\/b∈F (.m k)) W0.B false T x vs []:=Vc (λ_ h=>.inl h) hf h2 (λ_ h=>.inr h);have V:=R.give hs (h.takeM hg);have e1:Xb (Xb F (.m k) []) (.m k) []=Xb F (.m k) []:=by grind
 have N:=V.turn (r:=k) (t:=.val T (.u false) x) (S':=[]) (H':=H) V.below (Nat.le_refl _) (λ_ _=>rfl) (λ_ _ _ _=>rfl) (by simp[Xb]) (by simpa using h.hnodup)
  (by rw[Ks];simp) (λe T f x b S hb=>by grind) ⟨vs,Z,by simp_all[rdF]⟩
 rw[e1]at N;have h5:R n W0 w (λb=>X b\/b∈F (.m k)) (Xb F (.m k) []) H (Vv s k (.val T (.u false) x)) a:=
  {N with
   comps:=λd i A=>by
    obtain⟨o,C⟩:=N.comps d i (by simp_all[Ks]);simp_all[Ks]
   slots:=λj=>by
    have c:=N.slots j;have e2:(Vv (Vv s k .junk) k (.val T (.u false) x)).get j=(Vv s k (.val T (.u false) x)).get j:=by simp_all[Ks]
    rw[e2]at c;have L:∀r,(Vv s k (.val T (.u false) x)).foul r=false->(Vv (Vv s k .junk) k (.val T (.u false) x)).foul r=false:=λr A=>by
     simp_all[Vv,St.foul]
    generalize (Vv s k (.val T (.u false) x)).get j=u at c
    induction u with
    |bor r p=>
     refine⟨c.1,λA=>?_⟩;obtain⟨U,W⟩:=c.2 (Z3f L A);refine⟨U,?_⟩
     grind[Xw,Ks]
    |elp r p i q=>
     refine⟨c.1,λA=>?_⟩;obtain⟨e,t,O,M,E,W,z⟩:=c.2 (Z3f L A);refine⟨e,t,O,M,E,?_,z⟩
     grind[Xw,Ks]
    |bel r p i q=>
     refine⟨c.1,λA he=>?_⟩;obtain⟨e,t,O,M,E,x0,y,cs,W,z⟩:=c.2 (Z3f L A) (L _ he);refine⟨e,t,O,M,E,x0,y,cs,?_,z⟩
     grind[Xw,Ks]
    |cl f l=>
     refine⟨c.1,Z7s (λr p v P=>?_) c.2⟩;obtain⟨e,G,I,J,b,S',o,C,D⟩:=P;have K:(Vv (Vv s k .junk) k (.val T (.u false) x)).get (.m r)=(Vv s k (.val T (.u false) x)).get (.m r):=by simp_all[Ks]
     rw[K]at o;exact⟨e,G,I,J,b,S',o,C,D⟩
    |ptr r p=>
     obtain⟨Q,e,G,I,J,b,S',o,C,D⟩:=c;have K:(Vv (Vv s k .junk) k (.val T (.u false) x)).get (.m r)=(Vv s k (.val T (.u false) x)).get (.m r):=by simp_all[Ks]
     rw[K]at o;exact⟨Q,e,G,I,J,b,S',o,C,D⟩
    |aep r p i=>
     obtain⟨Q,e,G,I,J,b,S',M,t2,y2,o,C,D⟩:=c;have K:(Vv (Vv s k .junk) k (.val T (.u false) x)).get (.m r)=(Vv s k (.val T (.u false) x)).get (.m r):=by simp_all[Ks]
     rw[K]at o;exact⟨Q,e,G,I,J,b,S',M,t2,y2,o,C,D⟩
    |pls hh l=>
     refine⟨c.1,Zxg (λ_ h=>h) (λ_ _=>rfl) (λr p v P=>?_) c.2⟩;obtain⟨e,G,I,J,b,S',o,C,D⟩:=P;have K:(Vv (Vv s k .junk) k (.val T (.u false) x)).get (.m r)=(Vv s k (.val T (.u false) x)).get (.m r):=by simp_all[Ks]
     rw[K]at o;exact⟨e,G,I,J,b,S',o,C,D⟩
    |gd g Y t ih=>
     intro A;obtain⟨o,C,D⟩:=c (L _ A)
     grind[Ks]
    |junk=>exact c
    |tup=>exact c
    |val T f x=>exact c
    |box e T f x=>exact c
    |shp T x=>exact c}
 grind
theorem Qtj(hs:g.soft=false)(h:R n W0 w X F H s a)(ht:tg.ok W0.gh a){x:Operand}{T:Ty}{y:T.den}{s':St}(hk:Qn6 s (op1 s tg x)=some ⟨T,y,s'⟩):
  ∃X' F' vs,(∀b,X b->X' b)/\a.eval x=Yz T vs/\rd w X' W0.B false T y vs []/\R n W0 w X' F' H s' a:=by
 unfold Qn6 at hk;split at hk
 ·rename_i E f G c;obtain⟨j,vs,S,p,o,I⟩:=Zji h ht c;split at hk
  ·rename_i q;simp only[Osi,Sigma.mk.injEq]at hk;obtain⟨rfl,hk⟩:=hk;simp only[heq_eq_eq,Opi]at hk;obtain⟨rfl,rfl⟩:=hk;have:=Znm q o;subst this;exact⟨X,F,vs,λ_ h=>h,p,Vc (λ_ h=>h) j o (by simp),h⟩
  ·generalize d:op1 s tg x=o1 at hk c;split at hk
   ·rename_i k J K L;split at hk
    ·rename_i U t u i;simp only[Osi,Sigma.mk.injEq]at hk;obtain⟨rfl,hk⟩:=hk;simp only[heq_eq_eq,Opi]at hk;obtain⟨rfl,rfl⟩:=hk;obtain⟨rfl,_⟩:=Jx h ht d (by simp);have v:=(Zpx d).2.1;have d:=(Zpx d).2.2;simp only[i,Z3b]at d;cases d;simp only[Zxa]at c;split at c
     ·simp only[Osi,Sigma.mk.injEq]at c;obtain⟨rfl,c⟩:=c;simp only[heq_eq_eq,Opi]at c;obtain⟨rfl,rfl⟩:=c;obtain⟨z,l,A,C⟩:=R.freezeM hs h i j
      grind[Yr]
     ·cases c
    ·cases hk
   ·rename_i k r;obtain⟨_,M,D⟩:=Jx h ht d (by simp);split at hk
    ·rename_i U t u i;simp only[Osi,Sigma.mk.injEq]at hk;obtain⟨rfl,hk⟩:=hk;simp only[heq_eq_eq,Opi]at hk;obtain⟨rfl,rfl⟩:=hk;simp only[Zxa,i]at c;split at c
     ·cases c
     ·rename_i e;obtain⟨N,m⟩:=D e;unfold Xw at m;rw[i]at m;obtain⟨_,_,hv⟩:=m;split at c
      ·simp only[Osi,Sigma.mk.injEq]at c;obtain⟨rfl,c⟩:=c;simp only[heq_eq_eq,Opi]at c;obtain⟨rfl,rfl⟩:=c;obtain⟨z,l,A,C⟩:=R.freezeM hs h i j
       grind
      ·cases c
    ·cases hk
   ·cases hk
 ·cases hk
theorem Q5d(u:List UInt8)(i j:Nat):(ByteArray.mk ⟨u⟩).extract i j=⟨⟨(u.drop i).take (j-i)⟩⟩:=by
 apply ByteArray.ext;simp_all
def Z9t(s:St)(tg:Ye)(x:Option Operand)(d:Int):Option Int:=
 match x with
 |none=>some d
 |some x=>match Zwf s (op1 s tg x)with
  |some (_,j)=>some j
  |none=>none
def Qps(τ:Tab)(s:St)(tg:Ye)(e:TypeId)(x:Operand)(lo hi:Option Operand):Option Res:=
 match τ e with
 |some .str=>match Zbw s (op1 s tg x) .str with
  |some u=>match Z9t s tg lo 0,Z9t s tg hi (u.length:Int)with
   |some i,some j=>some ⟨.val .str (.u false) ((u.drop i.toNat).take (j.toNat-i.toNat)),s,false,some (0<=i/\i<=j/\j<=u.length)⟩
   |_,_=>none
  |none=>none
 |some (.slice e' t')=>match Qn6 s (op1 s tg x)with
  |some ⟨.slice e2 t,l,s'⟩=>match Z9t s tg lo 0,Z9t s tg hi (l.length:Int),decide (t'=t),τ e' with
   |some i,some j,true,some t2=>match decide (t2=t)with
    |true=>some ⟨.val (.slice e2 t) (.u false) ((l.drop i.toNat).take (j.toNat-i.toNat)),s',!shA s (op1 s tg x),some (0<=i/\i<=j/\j<=l.length)⟩
    |false=>none
   |_,_,_,_=>none
  |_=>none
 |_=>none
theorem Zxl(h:R n W0 w X F H s a)(ht:tg.ok W0.gh a){x:Option Operand}{d j:Int}(hb:Z9t s tg x d=some j):(x=none/\j=d)\/ ∃y k,x=some y/\a.eval y=.int k j:=by
 unfold Z9t at hb;split at hb
 ·simp_all
 ·rename_i y;split at hb
  ·rename_i k i hk;simp only[Osi]at hb;subst hb;exact .inr ⟨y,k,rfl,Zih h ht hk⟩
  ·cases hb
theorem Qm7(isS:Bool){len cap:Nat}(hlc:len<=cap){lo hi:Option Value}{i j:Int}(h0:0<=i)(h1:i<=j)(h2:j<=len)
  (hl:(lo=none/\i=0)\/ ∃k,lo=some (.int k i)) (hh:(hi=none/\j=len)\/ ∃k,hi=some (.int k j)) (w:World):
  (Instr.sliceBounds isS len cap lo hi none).run P w=.ok (i.toNat,j.toNat,cap) w:=by
 rcases hl with⟨rfl,rfl⟩|⟨b,rfl⟩<;>rcases hh with⟨rfl,rfl⟩|⟨c,rfl⟩
 ·rfl
 ·have:j<=(cap:Int):=by omega
  simp_all[Instr.sliceBounds,Instr.sliceBound,asIntOf]
 ·simp_all[Instr.sliceBounds,Instr.sliceBound,asIntOf]
 ·have:j<=(cap:Int):=by omega
  have a:0<=j:=by omega
  simp[Instr.sliceBounds,Instr.sliceBound,asIntOf,a,this,h0];intro hh;omega
theorem Qzt{α:Type}{r:α->List Value->List Nat->Prop}{sz:Nat}(hr:∀x v S,r x v S->v.length=sz/\S=[]){l:List α}{vs:List Value}{S:List Nat}{i j:Nat}(hij:i<=j)(hj:j<=l.length)
  (h:Zc2 r l vs S):∃pre mid post,vs=pre++(mid++post)/\pre.length=i*sz/\Zc2 r ((l.drop i).take (j-i)) mid []/\mid.length=(j-i)*sz:=by
 have split:∀{b c:List α}{vs:List Value}{S:List Nat},Zc2 r (b++c) vs S-> ∃a d,vs=a++d/\Zc2 r b a []/\Zc2 r c d []:=by
  intro b
  induction b with
  |nil=>
   intro c vs S h;have:S=[]:=(Ziy (r':=λ_ _ _=>True) (λx v S h=>⟨(hr x v S h).2,trivial⟩) h).1;subst this;exact⟨[],vs,rfl,⟨rfl,rfl⟩,h⟩
  |cons x b o=>
   intro c vs S ⟨a,d,S1,S2,e1,e2,h1,k⟩;obtain⟨u1,u2,rfl,f,g⟩:=o k;have:=(hr _ _ _ h1).2;subst this;exact⟨a++u1,u2,by simp[e1],⟨a,u1,[],[],rfl,rfl,h1,f⟩,g⟩
 have e:l=l.take i++((l.drop i).take (j-i)++l.drop j):=by
  have k:l.drop j=(l.drop i).drop (j-i):=by simp_all
  grind[List.take_append_drop]
 rw[e]at h;obtain⟨a,d,rfl,f,g⟩:=split h;obtain⟨p,q,rfl,m,s⟩:=split g;refine⟨a,p,q,rfl,?_,m,?_⟩
 ·rw[Zwh (n:=sz) (λx v S h=>(hr x v S h).1) f,List.length_take,Nat.min_eq_left (by omega)]
 ·rw[Zwh (n:=sz) (λx v S h=>(hr x v S h).1) m,List.length_take,List.length_drop,Nat.min_eq_left (by omega)]
theorem Qpt(hs:g.soft=false)(h:R n W0 w X F H s a)(ht:tg.ok W0.gh a)(hτ:τ.ok P){e:TypeId}{x:Operand}{lo hi:Option Operand}(ho:o.op=.slice e x lo hi none){r:Res}(hr:Qps τ s tg e x lo hi=some r):Zve P n W0 w X H s a o r:=by
 unfold Qps at hr;split at hr
 ·rename_i A;split at hr
  ·rename_i u hu;split at hr
   ·rename_i i j f m;simp only[Osi]at hr;subst hr;have e1:=Z0j h ht hu;refine Zui h rfl λB=>⟨_,?_,Quy _⟩
    obtain⟨C,D,E⟩:0<=i/\i<=j/\j<=u.length:=B;have G:=Qm7 (P:=P) false (len:=u.length) (cap:=u.length) (Nat.le_refl _) (lo:=lo.map a.eval) (hi:=hi.map a.eval) C D E
     ((Zxl h ht f).imp (λ⟨b,c⟩=>⟨by simp[b],c⟩) λ⟨y,k,b,c⟩=>⟨k,by simp[b,c]⟩)
     ((Zxl h ht m).imp (λ⟨b,c⟩=>⟨by simp[b],c⟩) λ⟨y,k,b,c⟩=>⟨k,by simp[b,c]⟩) w
    simp only[execOp,ho,e1,Sem.run_bind,Instr.sliceAt,run_underlying (hτ _ _ A).str,Result.andThen_ok,Instr.slice,Option.map_none,Xcb,Sem.run_pure];simp[G,Q5d]
   ·cases hr
  ·cases hr
 ·rename_i e' t' A;split at hr
  ·rename_i e2 t l s' W;split at hr
   ·rename_i i j z f m hd I;split at hr
    ·rename_i J;simp only[Osi]at hr;subst hr;have L:t'=t:=Ode hd;have M:z=t:=Ode J;subst L;subst M;obtain⟨X',F',vs,hX,b,c,h3⟩:=Qtj hs h ht W;obtain⟨v,xs,S1,S2,rfl,hS,k1,k2⟩:=c;intro B K Q hK;obtain⟨C,D,E⟩:0<=i/\i<=j/\j<=l.length:=B;obtain⟨ab,Y,N,cap,rfl,O,ae,Z⟩:=k1;have G:=Qm7 (P:=P) true (len:=l.length) (cap:=cap) O (lo:=lo.map a.eval) (hi:=hi.map a.eval) C D E
      ((Zxl h ht f).imp (λ⟨b,c⟩=>⟨by simp[b],c⟩) λ⟨y,k,b,c⟩=>⟨k,by simp[b,c]⟩)
      ((Zxl h ht m).imp (λ⟨b,c⟩=>⟨by simp[b],c⟩) λ⟨y,k,b,c⟩=>⟨k,by simp[b,c]⟩) w
     have hx:a.eval x=.slice N l.length cap:=b;have p:(execOp a.eval o).run P w=.ok (.value (.slice (if cap=i.toNat then N else N.map (·.add (i.toNat*z.size))) (j.toNat-i.toNat) (cap-i.toNat))) w:=by
      simp only[execOp,ho,hx,Sem.run_bind,Instr.sliceAt,run_underlying (hτ _ _ A).slice.1,Result.andThen_ok,Instr.slice,Option.map_none,G,(hτ _ _ I).sizeOf w,Sem.run_pure]
     unfold Oper.wp;rw[p];refine hK _ X' F' [] w hX h3 ⟨[_],rfl,?_⟩ (λhm=>Qvy W (by simpa using hm)) ⟨λ_=>Old.refl w,h.kept (Old.refl w)⟩;unfold rdF;obtain⟨pre,U,aa,m1,m2,m3,m4⟩:=Qzt (sz:=z.size) (i:=i.toNat) (j:=j.toNat) (λx v S h=>⟨Y6 h,Znn h⟩) (by omega) (by omega) k2;have d:((l.drop i.toNat).take (j.toNat-i.toNat)).length=j.toNat-i.toNat:=by simp;omega
     refine⟨_,U,[],[],rfl,rfl,⟨rfl,by rw[m4,d],_,_,by rw[d],by rw[d];omega,by omega,?_⟩,m3⟩;rcases Z with⟨rfl,ag,rfl⟩|⟨ad,rfl,ah,Z⟩
     ·grind
     ·by_cases V:cap=i.toNat
      ·grind
      ·refine .inr ⟨ad.add (i.toNat*z.size),by simp[V],?_,λq u hq=>?_⟩
       ·grind[Addr.add]
       ·rw[Addr.add_add',<-m2]
        grind
    ·cases hr
   ·cases hr
  ·cases hr
 ·cases hr
variable {H':List Nat}
theorem R.sub(h:R n W0 w X F H s a)(hin:∀b∈H',b∈H)(hn:H'.Nodup):R n W0 w X F H' s a:=
 {h with
  hown:=λb c=>h.hown b (hin b c)
  hnodup:=hn
  hdisj:=λk b c d=>h.hdisj k b c (hin b d)}
theorem hold(w:World)(ob:Obj)(b:Nat)(h:b<w.heap.size):(w.alloc ob).heap[b]? =w.heap[b]? :=by
 show(w.heap.push ob)[b]? =w.heap[b]?
 grind
theorem Qe9(w:World)(ob:Obj):(w.alloc ob).heap[w.heap.size]? =some ob:=by
 show(w.heap.push ob)[w.heap.size]? =_;simp
theorem R.alloc(h:R n W0 w X F H s a)(ob:Obj):R n W0 (w.alloc ob) X F (w.heap.size::H) s a:=by
 have d:∀b,b<w.heap.size->(w.alloc ob).heap[b]? =w.heap[b]? :=λb c=>hold w ob b c;have f:=h.world (w':=w.alloc ob) (h.below.step ((Below.refl _ w).alloc (Nat.le_refl _) ob)) (by simp) (λb c=>d b (h.xlt b c)) (λk b c=>d b (h.own k b c).2.1);exact f.hand (S:=[w.heap.size]) (by
   intro b c;simp only[List.mem_singleton]at c;subst c;exact⟨h.below.new,by simp,λhx=>Nat.lt_irrefl _ (h.xlt _ hx)⟩) (by simp)
  (by intro k b c e;simp only[List.mem_singleton]at e;subst e;exact Nat.lt_irrefl _ (h.own k _ c).2.1)
  (by intro b c e;simp only[List.mem_singleton]at c;subst c;exact Nat.lt_irrefl _ (h.hown _ e).2.1)
theorem Q4e{T:Ty}{f:Fl}{x:T.den}{vs:List Value}{S:List Nat}(h:rdF w X B T f x vs S)(hX:∀b,X b->b<w.heap.size)(hS:∀b∈S,b<w.heap.size)(ob:Obj):rdF (w.alloc ob) X B T f x vs S:=
 Zwc (λ_ h=>h) (λb a=>hold w ob b (hX b a)) h (λb a=>hold w ob b (hS b a))
theorem Q0e{T:Ty}(h:T.plain=true):∀u∈Zax T,u.oneCell'=true:=Zon (w:=default) (X:=λ_=>False) (B:=0) (own:=false) (Zx9 h)
theorem Z1v{T:Ty}(h:T.plain=true):(Zax T).length=T.size:=Y6 (w:=default) (X:=λ_=>False) (B:=0) (own:=false) (Zx9 h)
theorem Qgs{T:Ty}{vs:List Value}(h1:∀u∈vs,u.oneCell'=true)(hl:vs.length=T.size):(Yz T vs).cells=vs.toArray:=by
 grind[Z56]
theorem Z46{T:Ty}(h:T.plain=true):(Yz T (Zax T)).cells=(Zax T).toArray:=Qgs (Q0e h) (Z1v h)
def Qcm(s:St)(x:Operand)(i:Nat):Option Res:=
 match x with
 |.tmp t=>match Nat.blt t 1048576 with
  |false=>none
  |true=>match s.get (.c t i)with
   |.val T f y=>match f.live,Zq4 f T with
    |true,true=>some ⟨.val T f y,s,false,none⟩
    |true,false=>some ⟨.val T f y,{s with env:=(.c t i,.junk)::s.env},true,none⟩
    |_,_=>none
   |_=>none
 |_=>none
theorem Qmt{t i:Nat}{u:Tm}{S0:List Nat}{v:Value}{S:List Nat}:∀{z:Tm},vt gh w X B s F a v S z->vt gh w X B {s with env:=(.c t i,u)::s.env} (Xb F (.c t i) S0) a v S z:=by
 have g:∀r,St.get {s with env:=(Key.c t i,u)::s.env} (.m r)=s.get (.m r):=λr=>by rfl
 have C:∀r,Xb F (.c t i) S0 (.m r)=F (.m r):=λr=>by simp[Xb]
 have E:∀{r p v U},Xw gh w s F a r p v U->Xw gh w {s with env:=(Key.c t i,u)::s.env} (Xb F (.c t i) S0) a r p v U:=by
  grind[Xw]
 intro z h
 induction z with
 |junk=>exact h
 |tup=>exact h
 |val T f x=>exact h
 |box e T f x=>exact h
 |shp T x=>exact h
 |ptr r p=>
  obtain⟨D,e,T,f,x,b,k,d,j,o⟩:=h;exact⟨D,e,T,f,x,b,k,by rw[g];exact d,by rw[C];exact j,o⟩
 |aep r p i=>
  obtain⟨D,e,T,f,x,b,k,n,I,y,d,j,o⟩:=h;exact⟨D,e,T,f,x,b,k,n,I,y,by rw[g];exact d,by rw[C];exact j,o⟩
 |bor r p=>exact⟨h.1,λA=>let⟨U,hU⟩:=h.2 A;⟨U,E hU⟩⟩
 |elp r p i q=>exact⟨h.1,λA=>let⟨e,t,ad,nn,cap,hU,rest⟩:=h.2 A;⟨e,t,ad,nn,cap,E hU,rest⟩⟩
 |pls M l=>
  refine⟨h.1,Zxg (λ_ h=>h) (λ_ _=>rfl) (λr p v G=>?_) h.2⟩;obtain⟨e,T,f,x,b,k,d,j,o⟩:=G;exact⟨e,T,f,x,b,k,by rw[g];exact d,by rw[C];exact j,o⟩
 |bel r p i q=>exact⟨h.1,λA J=>let⟨e,t,ad,nn,cap,x0,y,cs,hU,k1,k2,k3,rest⟩:=h.2 A J;⟨e,t,ad,nn,cap,x0,y,cs,E hU,k1,k2,by rw[C];exact k3,rest⟩⟩
 |cl f l=>
  refine⟨h.1,Z7s (λr p v G=>?_) h.2⟩;obtain⟨e,T,f,x,b,k,d,j,o⟩:=G;exact⟨e,T,f,x,b,k,by rw[g];exact d,by rw[C];exact j,o⟩
 |gd N H t K=>exact λA=>let⟨D,d,j⟩:=h A;⟨by rw[g];exact D,λL=>K (d L),j⟩
theorem R.takeC(h:R n W0 w X F H s a){t i:Nat}:R n W0 w X (Xb F (.c t i) []) (F (.c t i)++H) {s with env:=(.c t i,.junk)::s.env} a where
 size:=h.size
 defers:=h.defers
 below:=h.below
 glob:=h.glob
 gx:=h.gx
 xs:=h.xs
 fix:=h.fix
 xlt:=h.xlt
 xin:=h.xin
 x0:=h.x0
 own:=λk b f=>by
  simp only[Xb]at f;split at f
  ·cases f
  ·exact h.own k b f
 nodup:=λk=>by
  simp only[Xb];split
  ·simp
  ·exact h.nodup k
 disj:=λk o b f g=>by
  simp only[Xb]at f g;split at f
  ·cases f
  ·split at g
   ·cases g
   ·exact h.disj k o b f g
 hown:=λb f=>(List.mem_append.1 f).elim (h.own _ b) (h.hown b)
 hnodup:=List.nodup_append.2 ⟨h.nodup _,h.hnodup,λx hx y p e=>h.hdisj _ x hx (by rw[e];exact p)⟩
 hdisj:=λk b f l=>by
  simp only[Xb]at f;split at f
  ·cases f
  ·rename_i hk;exact(List.mem_append.1 l).elim (λl=>hk (h.disj _ _ b f l)) (h.hdisj k b f)
 comps:=λd j m=>by
  simp only[St.get,Z7]at m⊢;split at m
  ·simp_all
  ·simpa[St.get]using h.comps d j m
 slots:=λk=>by
  by_cases hk:k=.c t i
  ·simp_all[St.get,Z7,vt]
  ·have q:St.get {s with env:=(Key.c t i,Tm.junk)::s.env} k=s.get k:=by simp[St.get,Z7,Ne.symm hk]
   have r:Xb F (.c t i) [] k=F k:=by simp[Xb,hk]
   rw[q,r];exact Qmt (h.slots k)
theorem Qhy(h:R n W0 w X F H s a){x:Operand}{i:Nat}(ho:o.op=.extract x i){r:Res}(hr:Qcm s x i=some r):Zve P n W0 w X H s a o r:=by
 unfold Qcm at hr;split at hr
 ·rename_i t;split at hr
  ·cases hr
  rename_i l;split at hr
  ·rename_i T f y e;have g:=h.slots (.c t i);rw[e]at g;obtain⟨j,k,d⟩:=g;obtain⟨_,m,u,v⟩:=h.comps t i (by rw[e];simp);have hv:m[i]? =some (Q2 W0.gh a (.c t i)):=by
    simp_all[Q2]
   have b:(execOp a.eval o).run P w=.ok (.value (Q2 W0.gh a (.c t i))) w:=by
    simp_all[Yr,execOp,Instr.extract]
   split at hr
   ·rename_i p;simp only[Osi]at hr;subst hr;have:=Znm p d;rw[this]at d;exact Zui h rfl λ_=>⟨_,b,j,k,d⟩
   ·simp only[Osi]at hr;subst hr;intro _ K Q q;unfold Oper.wp;rw[b];exact q _ X _ (F (.c t i)) w (λ_ h=>h) h.takeC ⟨j,k,d⟩ (by simp) ⟨λ_=>Old.refl w,h.kept (Old.refl w)⟩
   ·cases hr
  ·cases hr
 ·cases hr
def Qmy(τ:Tab)(s:St)(e:TypeId):Option Res:=
 match τ e with
 |some T=>some ⟨.box e T (.u true) (zero T),s,false,none⟩
 |none=>none
theorem Qmz(h:R n W0 w X F H s a)(hτ:τ.ok P){e:TypeId}(ho:o.op=.alloc e){r:Res}(hr:Qmy τ s e=some r):Zve P n W0 w X H s a o r:=by
 unfold Qmy at hr;split at hr
 ·rename_i T c;simp only[Osi]at hr;subst hr;intro _ K Q d;obtain⟨i,f,_,_,g⟩:=(hτ _ _ c).size;have b:(execOp a.eval o).run P w=.ok (.value (.pointer (some ⟨w.heap.size,0,none⟩))) (w.alloc (.cells (Zax T).toArray e)):=by
   simp[execOp,ho,Instr.alloc,zeroValue,typeInfo,f,g,newVar,newRow,Z46 (hτ _ _ c).plain]
  unfold Oper.wp;rw[b];exact d _ X F [w.heap.size] _ (λ_ h=>h) (h.alloc _) ⟨w.heap.size,_,[],rfl,rfl,Qe9 _ _,by unfold rdF;exact Zx9 (hτ _ _ c).plain⟩ (λ_=>rfl) ⟨λ_=>Old.alloc _ _,h.kept (Old.alloc _ _)⟩
 ·cases hr
def Qx4(τ:Tab)(s:St)(tg:Ye)(e:TypeId)(x:Operand):Option Res:=
 match τ e with
 |some T=>match Zyu s (op1 s tg x) T with
  |some t=>some ⟨.box e t.T t.f t.x,t.s,t.moved,none⟩
  |none=>none
 |none=>none
theorem Qsy(h:R n W0 w X F H s a)(ht:tg.ok W0.gh a){e:TypeId}{x:Operand}(ho:o.op=.box e x){r:Res}(hr:Qx4 τ s tg e x=some r):Zve P n W0 w X H s a o r:=by
 unfold Qx4 at hr;split at hr
 ·rename_i T p;split at hr
  ·rename_i t hk;simp only[Osi]at hr;subst hr;obtain⟨_,g,S,d,q,i,f,j,_⟩:=Zea h ht hk;intro _ K Q k;have u:(a.eval x).cells=d.toArray:=by
    grind[Qgs,Zmr,Y2]
   have c:(execOp a.eval o).run P w=.ok (.value (.pointer (some ⟨w.heap.size,0,none⟩))) (w.alloc (.cells d.toArray e)):=by
    simp_all[execOp,Instr.box,newVar,newRow]
   unfold Oper.wp;rw[c];refine k _ X g (w.heap.size::S) _ (λ_ h=>h) (f.alloc _) ⟨w.heap.size,_,S,rfl,rfl,Qe9 _ _,?_⟩ (λl=>(j l).1) ⟨λ_=>Old.alloc _ _,h.kept (Old.alloc _ _)⟩;exact Q4e i h.xlt (λb m=>(f.hown b (by simp[m])).2.1) _
  ·cases hr
 ·cases hr
theorem Qra(off:Nat):∀(ls:List Value)(k:Nat)(arr:Array Value)(A M C:List Value),arr.toList=A++(M++C)->A.length=off+k->M.length=ls.length->
  ((ls.zipIdx k).foldl (λcs (x:Value×Nat)=>cs.setIfInBounds (off+x.2) x.1) arr).toList=A++(ls++C)
 |[],k,arr,A,M,C,h,_,a=>by
  simp_all
 |v::ls,k,arr,A,M,C,h,b,a=>by
  cases M with
  |nil=>simp at a
  |cons m M=>
   simp only[List.zipIdx_cons,List.foldl_cons];have:=Qra off ls (k+1) (arr.setIfInBounds (off+k) v) (A++[v]) M C (by
    simp_all) (by simp[b];omega) (by simpa using a)
   rw[this];simp
theorem Z38{place:Nat->Option (Nat×Nat)}{cs:Array Value}{i off size:Nat}{v:Value}{rest:List (Nat×Value)}{pre mid post:List Value}(hp:place i=some (off,size))
  (hcs:cs.toList=pre++(mid++post)) (hoff:pre.length=off) (hmid:mid.length=size) (hv:v.cells.size=size):
  ∃cs',cs'.toList=pre++(v.cells.toList++post)/\Instr.fill place cs ((i,v)::rest)=Instr.fill place cs' rest:=by
 have a:cs.size=pre.length+(mid.length+post.length):=by grind[Array.length_toList]
 refine⟨v.cells.zipIdx.foldl (λcs (x:Value×Nat)=>cs.setIfInBounds (off+x.2) x.1) cs,?_,?_⟩
 ·have:=Qra off v.cells.toList 0 cs pre mid post hcs (by omega) (by simp_all);rw[<-this];congr 1;rw[<-Array.foldl_toList];simp
 simp_all[Instr.fill,if_neg]
def Z12(tg:Ye):List (Nat×Operand)->(T:Ty)->Fl->T.den->St->Bool->Option (Fl×T.den×St×Bool)
 |[],_,f,x,s,mv=>some (f,x,s,mv)
 |(i,y)::r,T,f,x,s,mv=>match Z4a T i with
  |some U=>match Zyu s (op1 s tg y) U with
   |some t=>match Zzh T x i ⟨t.T,t.x⟩with
    |some x'=>Z12 tg r T (Zvb f i t.f) x' t.s (mv||t.moved)
    |none=>none
   |none=>none
  |none=>none
theorem Qbm(ht:tg.ok W0.gh a){place:Nat->Option (Nat×Nat)}:∀{parts:List (Nat×Operand)}{T:Ty}{f:Fl}{x:T.den}{s:St}{mv:Bool}{f':Fl}{x':T.den}{s':St}{mv':Bool}{F:Key->List Nat}{S:List Nat}{cs:Array Value},
  (∀i U,Z4a T i=some U->place i=some (Zj9 T i,U.size))->R n W0 w X F (S++H) s a->rdF w X W0.B T f x cs.toList S->Z12 tg parts T f x s mv=some (f',x',s',mv')->
  ∃F' S' cs',Instr.fill place cs (parts.map λp=>(p.1,a.eval p.2))=some cs'/\R n W0 w X F' (S'++H) s' a/\rdF w X W0.B T f' x' cs'.toList S'/\(mv'=false->s'=s)
 |[],T,f,x,s,mv,f',x',s',mv',F,S,cs,_,k,d,b=>by
  simp only[Z12,Osi,Opi]at b;obtain⟨rfl,rfl,rfl,rfl⟩:=b;exact⟨F,S,cs,rfl,k,d,λ_=>rfl⟩
 |(i,y)::r,T,f,x,s,mv,f',x',s',mv',F,S,cs,e,k,d,b=>by
  simp only[Z12]at b;split at b
  ·rename_i U q;split at b
   ·rename_i t hk;split at b
    ·rename_i D g;obtain⟨l,E,u,G,I,m,v,h4,_⟩:=Zea k ht hk;subst l;obtain⟨z,J⟩:=Q6g (x:=x) q;obtain⟨pre,K,A,L,S2,M,N,O,P,Q,V⟩:=Qmm J d;have c:=Z56 (Zmr m) (Y2 m);have h:(a.eval y).cells.size=t.T.size:=by grind[Array.length_toList,Y2]
     obtain⟨W,C,g2⟩:=Z38 (rest:=r.map λp=>(p.1,a.eval p.2)) (e i _ q) N P (Y2 Q) h;rw[I,c]at C;have Qe9:=V t.f ⟨t.T,t.x⟩ G u D g m;rw[<-C]at Qe9;have o:R n W0 w X E ((L++(u++M))++H) t.s a:=by
      refine v.sub ?_ ?_
      ·grind
      ·have:=v.hnodup;rw[O]at this;simp only[List.nodup_append,List.mem_append]at this⊢
       grind
     obtain⟨F',S',cs',k1,Y,Z,k4⟩:=Qbm ht e o Qe9 b;refine⟨F',S',cs',by simp_all,Y,Z,λhm=>?_⟩;have aa:(mv||t.moved)=false:=by
      have j:∀{r:List (Nat×Operand)}{T:Ty}{f:Fl}{x:T.den}{s:St}{mv:Bool} {f' x' s' mv'},Z12 tg r T f x s mv=some (f',x',s',mv')->mv'=false->mv=false:=by
       intro r
       induction r with
       |nil=>simp_all[Z12]
       |cons p r ih=>
        grind[Z12]
      exact j b hm
     simp_all
    ·cases b
   ·cases b
  ·cases b
def Qm8(τ:Tab)(s:St)(tg:Ye)(e:TypeId)(parts:Array (Nat×Operand)):Option Res:=
 match τ e with
 |some T=>match T.isStruct with
  |true=>match Z12 tg parts.toList T (.u true) (zero T) s false with
   |some (f,x,s',mv)=>some ⟨.val T f x,s',mv,none⟩
   |none=>none
  |false=>none
 |none=>none
theorem Qwn{fs:List Field}{w:World}:∀{T:Ty}{off:Nat},Zp4 P fs T off=true->
  ∃ps:List (Nat×Nat),(fs.mapM λf=>(Prod.mk f.offset<$>Go.sizeOf f.type:Sem (Nat×Nat))).run P w=.ok ps w/\ ∀i U,Z4a T i=some U->ps[i]? =some (off+Zj9 T i,U.size):=by
 induction fs with
 |nil=>
  intro T off h;cases T<;>simp[Zp4]at h
  simp_all[Z4a]
 |cons f fs e=>
  intro T off h;cases T<;>simp only[Zp4]at h<;>first|cases h|skip
  rename_i a b;simp only[Oba,Nat.blt_eq]at h;obtain⟨⟨⟨g,k⟩,m⟩,l⟩:=h;obtain⟨ps,n,o⟩:=e l;obtain⟨j,p,c,_⟩:=Zre k;refine⟨(f.offset,j.size)::ps,?_,?_⟩
  ·simp_all[Go.sizeOf,typeInfo]
  ·intro i U d;cases i with
   |zero=>simp only[Z4a,Osi]at d;subst d;simp[Zj9,Onb g,c]
   |succ i=>grind[Z4a,Zj9]
theorem Qm9(h:R n W0 w X F H s a)(ht:tg.ok W0.gh a)(hτ:τ.ok P){e:TypeId}{parts:Array (Nat×Operand)}(ho:o.op=.build e parts){r:Res}(hr:Qm8 τ s tg e parts=some r):Zve P n W0 w X H s a o r:=by
 unfold Qm8 at hr;split at hr
 ·rename_i T g;split at hr
  ·rename_i b;split at hr
   ·rename_i f x I J p;simp only[Osi]at hr;subst hr;obtain⟨q,t,j⟩:=(hτ _ _ g).struct b;obtain⟨i,v,_,_,y⟩:=(hτ _ _ g).size;obtain⟨l,L,M⟩:=Qwn (P:=P) (w:=w) j;have k:rdF w X W0.B T (.u true) (zero T) (Zax T).toArray.toList []:=by unfold rdF;exact Zx9 (hτ _ _ g).plain
    obtain⟨z,A,c,N,C,D,E⟩:=Qbm (H:=H) (S:=[]) ht (place:=(l.toArray[·]?)) (λi U O=>by simp_all) (by simpa using h) k p;intro _ K Q G;have m:(q.mapM λf=>(Prod.mk f.offset<$>Go.sizeOf f.type:Sem (Nat×Nat))).run P w=.ok l.toArray w:=by
     simp_all[Array.mapM_eq_mapM_toList]
    have d:(execOp a.eval o).run P w=.ok (.value (.agg c)) w:=by
     simp only[execOp,ho,Sem.run_bind,Instr.build,zeroValue,typeInfo,Sem.run_pure,run_underlying t,Result.andThen_ok];simp[v,y,Z46 (hτ _ _ g).plain];simp_all
    unfold Oper.wp;rw[d];refine G _ X z A w (λ_ h=>h) C ⟨c.toList,?_,D⟩ E ⟨λ_=>Old.refl w,h.kept (Old.refl w)⟩;cases T<;>simp[Ty.isStruct]at b<;>simp[Yz]
   ·cases hr
  ·cases hr
 ·cases hr
theorem Qq9:∀{T:Ty}{x:T.den}{i:Nat}{y:TV},fld T x i=some y->Zj9 T i+y.1.size<=T.size
 |.pair a b,x,0,y,h=>by simp only[fld,Osi]at h;subst h;simp[Zj9,Ty.size]
 |.pair a b,x,i+1,y,h=>by
  simp only[fld]at h;have:=Qq9 h
  grind[Zj9,Ty.size]
theorem Qh0:∀{T:Ty}{x:T.den}{i j:Nat}{u v:TV},fld T x i=some u->fld T x j=some v->i<j->Zj9 T i+u.1.size<=Zj9 T j
 |.pair a b,x,0,j+1,u,v,h,_,_=>by simp only[fld,Osi]at h;subst h;simp[Zj9]
 |.pair a b,x,i+1,j+1,u,v,h,c,d=>by
  simp only[fld]at h c;have:=Qh0 h c (by omega)
  grind[Zj9]
theorem Qt2:∀{p:List Nat}{T:Ty}{x:T.den}{y:TV},Zh2 T x p=some y->Wr T p+y.1.size<=T.size
 |[],T,x,y,h=>by grind[Zh2,Wr]
 |i::p,T,x,y,h=>by
  simp only[Zh2]at h;split at h
  ·rename_i z a;have b:=Qt2 h;have c:=Qq9 a
   grind[Wr,Z9z]
  ·cases h
theorem Qsd:∀{T:Ty}{x x':T.den}{i j:Nat}{y:TV},Zzh T x i y=some x'->j≠i->fld T x' j=fld T x j
 |.pair a b,x,x',0,j,y,h,c=>by
  simp only[Zzh,Option.map_eq_some_iff]at h;obtain⟨z,_,rfl⟩:=h;cases j with
  |zero=>omega
  |succ j=>rfl
 |.pair a b,x,x',i+1,j,y,h,c=>by
  simp only[Zzh,Option.map_eq_some_iff]at h;obtain⟨z,d,rfl⟩:=h;cases j with
  |zero=>rfl
  |succ j=>exact Qsd (T:=b) d (by omega)
theorem Xbj{T:Ty}{x x':T.den}{i j:Nat}{p q:List Nat}{y:TV}(h:Qbk T x (i::p) y=some x')(hj:j≠i):Zh2 T x' (j::q)=Zh2 T x (j::q):=by
 grind[Qbk,Zh2,Qsd]
theorem Qs9{α:Type}{pre mid vs post:List α}{k m:Nat}(hl:mid.length=vs.length)(hk:k+m<=pre.length\/pre.length+mid.length<=k):((pre++(vs++post)).drop k).take m=((pre++(mid++post)).drop k).take m:=by
 apply List.ext_getElem?
 grind
def Xji(s:St)(r:Nat)(p:List Nat)(t:Tm):St:=
 match p with
 |[]=>Vv s r t
 |i::_=>Xb1 s r i t
def Qg8(s:St)(r:Nat)(p:List Nat)(f:Fl)(y:TV):Option St:=
 match s.get (.m r)with
 |.box e U g z=>match Zh2 U z p with
  |some u=>match decide (u.1=y.1),Qbk U z p y with
   |true,some z'=>some (Xji s r p (.box e U (Zu0 g p f) z'))
   |_,_=>none
  |none=>none
 |_=>none
theorem R.setRoot(h:R n W0 w X F H s a){r:Nat}{p:List Nat}{f:Fl}{y:TV}{s':St}(hs:Qg8 s r p f y=some s'){vs:List Value}{S:List Nat}(hH:H=S++H')
  (hv:rdF w X W0.B y.1 f y.2 vs S) {b:Nat} (hb:∃S0,F (.m r)=b::S0) {e:TypeId}{U:Ty}{g:Fl}{z:U.den} (hg:s.get (.m r)=.box e U g z):
  ∃w' F',(storeCells ⟨b,Wr U p,none⟩ vs).run P w=.ok () w'/\R n W0 w' X F' H' s' a/\ ∀k,k≠b->w'.heap[k]? =w.heap[k]? :=by
 unfold Go.Am.Qg8 at hs;rw[hg]at hs;simp only at hs;split at hs
 ·rename_i u hu;split at hs
  ·rename_i z' hd hz;simp only[Osi]at hs;subst hs;have E:=h.slots (.m r);rw[hg]at E;obtain⟨l,c,S',l1,l2,N,l4⟩:=E;obtain⟨S0,O⟩:=hb;rw[O]at l2;obtain⟨rfl,rfl⟩:=List.cons.inj l2;have V:u.1=y.1:=Ode hd;have t:b∈F (.m r):=by rw[O];simp
   have W:∀k l,k≠Key.m r->l∈F k->l≠b:=λk l hk o e=>hk (h.disj k (.m r) l o (by rw[e];exact t));have Y:∀l∈H,l≠b:=λl o e=>h.hdisj (.m r) b t (by simp_all);generalize Z:(c.toList.take (Wr U p+0)++vs++c.toList.drop (Wr U p+0+vs.length)).toArray=cc;have d:∀k,k≠b->(w.setRow b cc).heap[k]? =w.heap[k]? :=λk hk=>setRow_other w b k _ hk;have aa:rdF (w.setRow b cc) X W0.B U g z c.toList S0:=
    Zwc (λ_ h=>h) (λl o=>d l λe=>(h.own _ b t).2.2 (by simp_all)) l4
     (λl o=>d l λe=>by
      have:=h.nodup (.m r);simp_all)
   have ae:rdF (w.setRow b cc) X W0.B y.1 f y.2 vs S:=
    Zwc (λ_ h=>h) (λl o=>d l λe=>(h.own _ b t).2.2 (by simp_all)) hv (λl o=>d l (Y l (by simp_all)))
   obtain⟨pre,G,A,I,S2,J,m1,m2,m3,m4,m5⟩:=Zjk hu aa;have ad:G.length=vs.length:=by rw[Y2 m4,Y2 hv,V]
   have ag:c.size=pre.length+(G.length+A.length):=by grind
   have K:=run_storeCells_at P b (Wr U p) e vs 0 c w N (by omega) (Zmr hv);rw[Z]at K;have e1:cc=(pre++(vs++A)).toArray:=by
    grind
   have L:=h.nodup (.m r);rw[O,m2]at L;have ab:W0.below (w.setRow b cc):=
    ⟨h.below.os,h.below.tape,h.below.output,by simpa[World.setRow]using h.below.size,λk hk=>(d k (W0.sep hk (h.own _ b t).1)).trans (h.below.block k hk)⟩
   refine⟨w.setRow b cc,Xb F (.m r) (b:: (I++(S++J))),K,?_,d⟩;have hT:Z6n W0.gh w (w.setRow b cc) s (Xji s r p (.box e U (Zu0 g p f) z')) F (Xb F (.m r) (b:: (I++(S++J)))) a r (.box e U (Zu0 g p f) z'):=by
    cases p with
    |nil=>exact Qju
    |cons i p=>
     refine Qz9 (by simp) λj q v U' hj hv=>?_;unfold Xw at hv⊢;rw[hg]at hv;rw[Qp2];simp only[if_true];obtain⟨b2,c2,ah,y2,k1,k2,Q,k4,k5⟩:=hv;rw[O]at k1;obtain⟨rfl,_⟩:=List.cons.inj k1;rw[N]at k2;simp only[Osi,Obj.cells.injEq]at k2;obtain⟨rfl,_⟩:=k2;refine⟨b,cc,I++(S++J),y2,by simp[Xb],setRow_heap w b c _ e _ N,by grind[Xbj],k4,?_⟩;rw[k5,e1,m1];congr 1;have ho:∀{u':TV},Zh2 U z (i::p)=some u'->Wr U (j::q)+y2.1.size<=Wr U (i::p)\/Wr U (i::p)+u'.1.size<=Wr U (j::q):=λ{u'} x=>by
      simp only[Zh2]at x Q;split at x
      ·rename_i a1 C;split at Q
       ·rename_i a2 D;have g1:=Qt2 x;have g2:=Qt2 Q;simp only[Wr,Z9z C,Z9z D];rcases Nat.lt_or_gt_of_ne hj with hlt|hlt
        ·have:=Qh0 D C hlt;omega
        ·have:=Qh0 C D hlt;omega
       ·cases Q
      ·cases x
     grind[Y2,Qs9]
   refine h.turn' hT ab (by simp_all) (λl o=>d l λe=>(h.own _ b t).2.2 (by simp_all))
    (λk l hk o=>d l (W k l hk o)) ?_ ?_ (by rw[hg];simp) ?_ ⟨b,_,I++(S++J),l1,rfl,setRow_heap w b c _ e _ N,?_⟩
   ·grind
   ·have hn:=h.hnodup;rw[hH]at hn;have M:∀q,q∈b:: (I++(S2++J))->q∉S++H':=λq hq=>by rw[<-hH];exact h.hdisj (.m r) q (by simp_all)
    simp only[List.nodup_append,List.nodup_cons,List.mem_append,List.mem_cons,List.cons_append]at hn L M⊢
    grind
   all_goals grind
  ·cases hs
 ·cases hs
def Fl.allU(b:Bool):Fl->Bool
 |.u c=>match b,c with|true,true=>true|false,false=>true|_,_=>false
 |.p f g=>f.allU b&&g.allU b
 |.d=>false
theorem Qgz{b:Bool}:∀{T:Ty}{f:Fl}{x:T.den}{vs:List Value}{S:List Nat},f.allU b=true->rdF w X B T f x vs S->rd w X B b T x vs S
 |T,.d,_,_,_,h,_=>by simp[Fl.allU]at h
 |T,.u c,_,_,_,h,i=>by
  unfold rdF at i;have:c=b:=by cases b<;>cases c<;>simp[Fl.allU]at h<;>rfl
  simp_all
 |.pair a s,.p f g,_,_,_,h,⟨j,k,l,m,n,o,q,r⟩=>by
  simp only[Fl.allU,Oba]at h;exact⟨j,k,l,m,n,o,Qgz h.1 q,Qgz h.2 r⟩
 |.slice e t,.p f g,_,_,_,h,i=>by
  obtain⟨rfl,rfl,_⟩:=Zlj i
  grind[Fl.allU]
 |.unit,.p ..,_,_,_,_,h|.int _,.p ..,_,_,_,_,h|.bool,.p ..,_,_,_,_,h|.fnc _,.p ..,_,_,_,_,h|.str,.p ..,_,_,_,_,h|.err,.p ..,_,_,_,_,h|.hid _,.p ..,_,_,_,_,h|.sptr ..,.p ..,_,_,_,_,h|.clo ..,.p ..,_,_,_,_,h|.arr ..,.p ..,_,_,_,_,h=>by simp[rdF]at h
theorem Q4l{b:Bool}:∀{f g:Fl}(i:Nat),f.allU b=true->g.allU b=true->(Zvb f i g).allU b=true:=by
 intro f;have e:∀(f g:Fl)(i:Nat),f.allU b=true->g.allU b=true->(∀a c,f≠ .p a c)->(Zvb f i g).allU b=true:=by
  intro f g i h j k
  induction i with
  |zero=>simp_all[Zvb,Fl.allU]
  |succ i n=>simp_all[Zvb,Fl.allU]
 induction f with
 |u c=>simp_all
 |d=>simp_all
 |p x y l m=>
  intro g i h j;simp only[Fl.allU,Oba]at h;cases i with
  |zero=>simp_all[Zvb,Fl.allU]
  |succ i=>simp_all[Zvb,Fl.allU]
theorem Q3i{b:Bool}:∀{f:Fl}(i:Nat),f.allU b=true->(Zz1 f i).allU b=true:=by
 intro f
 induction f with
 |u c=>intro i h;cases i<;>exact h
 |d=>simp_all[Fl.allU]
 |p x y e a=>
  intro i h;simp only[Fl.allU,Oba]at h;cases i with
  |zero=>exact h.1
  |succ i=>exact a i h.2
theorem Qpr{b:Bool}:∀{f g:Fl},f.allU b=true->g.allU b=true-> ∀p:List Nat,(Zu0 f p g).allU b=true
 |_,_,_,a,[]=>a
 |_,_,c,a,i::p=>Q4l i c (Qpr (Q3i i c) a p)
theorem Qsf{e:TypeId}{t:Ty}{l:List t.den}{v:Value}{S:List Nat}{g n' cap:Nat}{ad:Addr}(h:rd w X B true (.slice e t) l [v] S)(hv:v=.slice (some ad) n' cap)(hX:¬X ad.block)(hnd:S.Nodup){j:Nat}(hj:j<l.length)
  {q:List Nat}{u:TV} (hu:Zh2 t l[j] q=some u) {y:TV} (hy:u.1=y.1) {z':t.den} (hz:Qbk t l[j] q y=some z') {vs:List Value}{Sy:List Nat} (hyv:rd w X B true y.1 y.2 vs Sy) (hndy:(S++Sy).Nodup) (hg:ad.block=g):
  ∃cc S',(storeCells (ad.add (j*t.size+Wr t q)) vs).run P w=.ok () (w.setRow g cc)/\g∈S/\(∀b,b≠g->(w.setRow g cc).heap[b]? =w.heap[b]?)/\rd (w.setRow g cc) X B true (.slice e t) (l.set j z') [v] S'/\S'.Nodup/\(∀b∈S',b∈S++Sy):=by
 obtain⟨v',J,s,S2,e1,L,h1,h2⟩:=h;simp only[List.cons.injEq,and_true]at e1;subst e1;obtain⟨p,A⟩:=h1;rcases p.2 with⟨rfl,ap⟩|⟨k,ak,f,r,hB,hh,M,N,ar,O⟩
 ·cases hv
 ·rw[hv]at r;simp only[Value.slice.injEq,Osi]at r;obtain⟨rfl,rfl,rfl⟩:=r;simp only at hg hX;subst hg;have hS:s=[k]:=by rw[A,hv];rfl
  have al:(⟨k,0,none⟩:Addr).add (j*t.size+Wr t q)=⟨k,j*t.size+Wr t q,none⟩:=by simp_all[Addr.add]
  generalize C:(f.toList.take (j*t.size+Wr t q+0)++vs++f.toList.drop (j*t.size+Wr t q+0+vs.length)).toArray=cc;have a:∀b,b≠k->(w.setRow k cc).heap[b]? =w.heap[b]? :=λb m=>setRow_other w k b _ m;have D:∀b∈S2,b≠k:=λb m e=>by
   grind
  have Q:Zc2 (rd (w.setRow k cc) X B true t) l J S2:=Jy h2 λx v T _ hT hr=>
   Zgz (λ_ h=>h) (λb m=>a b λe=>hX (by simp_all)) hr λb m=>a b (D b (hT b m))
  obtain⟨pre,U,i,V,T2,K,m1,m2,m3,m4,m5,m6⟩:=Zwg (λ_ _ _ h=>Y6 h) hj Q;have W:rdF (w.setRow k cc) X B t (.u true) l[j] U T2:=by simp_all[rdF]
  obtain⟨c,n,d,Y,U2,Z,n1,n2,n3,n4,n5⟩:=Zjk hu W;have E:∀b∈Sy,b≠k:=λb m e=>by
   grind
  have am:rd (w.setRow k cc) X B true y.1 y.2 vs Sy:=Zgz (λ_ h=>h) (λb m=>a b λe=>hX (by simp_all)) hyv λb m=>a b (E b m);have aa:=n5 (.u true) y vs Sy z' hz (by simp_all[rdF]);have o:n.length=vs.length:=by rw[Y2 n4,Y6 hyv,hy]
  have ab:J.length=l.length*t.size:=p.1;have au:f.toList=J++f.toList.drop (l.length*t.size):=by rw[<-O];simp
  have ae:j*t.size+Wr t q+0+vs.length<=f.size:=by
   grind[List.length_append]
  have ag:=run_storeCells_at P k (j*t.size+Wr t q) e vs 0 f w hh ae (Zon hyv);rw[C]at ag;have F:f.toList=(pre++c)++(n++(d++(i++f.toList.drop (l.length*t.size)))):=by
   grind
  have ah:(pre++c).length=j*t.size+Wr t q:=by simp[m3,n3]
  have G:cc=((pre++(c++(vs++d)++i))++f.toList.drop (l.length*t.size)).toArray:=by
   rw[<-C];congr 1
   conv=>lhs;rw[F]
   rw[Nat.add_zero,<-ah,List.take_left,<-o,<-List.append_assoc (pre++c) n,List.drop_left' (by simp;omega)];simp
  have H:∀b,b∈s++(V++((Y++(Sy++Z))++K))->b∈S++Sy:=by
   intro b m;rw[L,m2,n2];simp only[List.mem_append]at m⊢
   grind
  have I:(s++(V++((Y++(Sy++Z))++K))).Nodup:=by
   rw[L,m2,n2]at hndy;rw[List.nodup_iff_count]at hndy⊢;intro z;have:=hndy z;simp only[List.count_append]at this⊢;omega
  refine⟨cc,s++(V++((Y++(Sy++Z))++K)),by grind,by rw[L,hS];simp,a,⟨v,pre++(c++(vs++d)++i),s,_,rfl,rfl,?_,?_⟩,I,H⟩
  ·refine⟨⟨?_,.inr ⟨k,cap,cc,?_,hB,setRow_heap w k f _ e _ hh,by simpa using M,N,?_,?_⟩⟩,A⟩
   ·have:(pre++(c++(vs++d)++i)).length=J.length:=by rw[m1,n1];simp[o]
    grind
   ·rw[hv];simp
   ·grind[List.length_append]
   ·rw[G];have:(pre++(c++(vs++d)++i)).length=(l.set j z').length*t.size:=by
     rw[List.length_set,<-ab,m1,n1];simp[o]
    grind
  ·have e4:l.set j z'=l.take j++(z'::l.drop (j+1)):=by grind[List.set_eq_take_append_cons_drop]
   rw[e4];exact Zrd m5 ⟨_,i,_,K,rfl,rfl,Qgz (Qpr rfl rfl q) (by simpa using aa),m6⟩
theorem Q4m:∀(f:Fl)(i:Nat)(g g':Fl),Zvb (Zvb f i g) i g'=Zvb f i g':=by
 intro f;have e:∀(f g g':Fl)(i:Nat),(∀a c,f≠ .p a c)->Zvb (Zvb f i g) i g'=Zvb f i g':=by
  intro f g g' i h
  induction i with
  |zero=>simp_all[Zvb]
  |succ i k=>simp_all[Zvb]
 induction f with
 |u c=>simp_all
 |d=>simp_all
 |p x y j b=>
  intro i g g';cases i with
  |zero=>simp[Zvb]
  |succ i=>simp[Zvb,b]
theorem Q3j:∀(f:Fl)(i:Nat)(g:Fl),Zz1 (Zvb f i g) i=g:=by
 intro f;have b:∀(f g:Fl)(i:Nat),(∀a c,f≠ .p a c)->Zz1 (Zvb f i g) i=g:=by
  intro f g i e
  induction i with
  |zero=>simp_all[Zvb,Zz1]
  |succ i k=>simp_all[Zvb,Zz1]
 induction f with
 |u c=>simp_all
 |d=>simp_all
 |p x y h j=>
  intro i g;cases i with
  |zero=>simp[Zvb,Zz1]
  |succ i=>grind[Zvb,Zz1]
theorem Qkz:∀(p:List Nat)(f g g':Fl),Zu0 (Zu0 f p g) p g'=Zu0 f p g'
 |[],_,_,_=>rfl
 |i::p,f,g,g'=>by simp only[Zu0,Q3j,Q4m,Qkz p]
def Qmp(s:St)(r:Nat)(p:List Nat)(j:Int)(q:List Nat)(fy:Fl)(y:TV):Option St:=
 match s.bad r p with
 |true=>none
 |false=>match fy.allU true||y.1.flat with
  |false=>none
  |true=>match s.get (.m r)with
   |.val (.slice e t) (.u true) l=>match p,Zh2 t (l.getD j.toNat (zero t)) q with
    |[],some u=>match decide (u.1=y.1),Qbk t (l.getD j.toNat (zero t)) q y with
     |true,some z=>some (Zzj s r (.val (.slice e t) (.u true) (l.set j.toNat z)))
     |_,_=>none
    |_,_=>none
   |.box e0 U f x=>match Zh2 U x p,Zo0 f p with
    |some ⟨.slice e t,l⟩,.u true=>match Zh2 t (l.getD j.toNat (zero t)) q with
     |some u=>match decide (u.1=y.1),Qbk t (l.getD j.toNat (zero t)) q y with
      |true,some z=>match Qbk U x p ⟨.slice e t,l.set j.toNat z⟩with
       |some x'=>some (Zzj s r (.box e0 U (Zu0 f p (.u true)) x'))
       |none=>none
      |_,_=>none
     |none=>none
    |_,_=>none
   |_=>none
theorem Q09{α:Type}{l:List α}{i:Nat}{d:α}(h:i<l.length):l.getD i d=l[i]:=by
 simp_all
theorem R.setElem{Sy:List Nat}(h:R n W0 w X F (Sy++H) s a){r:Nat}{p:List Nat}{j:Int}{q:List Nat}{fy:Fl}{y:TV}{s':St}(hs:Qmp s r p j q fy y=some s'){vs:List Value}(hv:rd w X W0.B true y.1 y.2 vs Sy)
  {ve:Value} (he:vt W0.gh w X W0.B s F a ve [] (.elp r p j q)):
  ∃ad w' F',ve=.pointer (some ad)/\(storeCells ad vs).run P w=.ok () w'/\R n W0 w' X F' H s' a/\ ∀b,(X b\/ ∃r,s.isBox r/\Q2 W0.gh a (.m r)=.pointer (some ⟨b,0,none⟩))->w'.heap[b]? =w.heap[b]? :=by
 unfold Go.Am.Qmp at hs;split at hs
 ·cases hs
 ·rename_i Z;obtain⟨_,he⟩:=he;obtain⟨e0,t0,ad,n0,am,g,bb,bc,ap⟩:=he Z;split at hs
  ·cases hs
  ·rename_i bd;have J:=h.slots (.m r);unfold Xw at g;split at hs
   ·rename_i e t l hg;rw[hg]at g J;obtain⟨rfl,hT,a6⟩:=g;cases hT;split at hs
    ·rename_i u hp hu;split at hs
     ·rename_i z hd hz;simp only[Osi]at hs;subst hs;obtain⟨us,O,k2⟩:=J;unfold rdF at k2;have k3:=k2;obtain⟨v',xs,S1,S2,rfl,e2,I,h2⟩:=k3;have v:v'=.slice (some ad) n0 am:=by rw[<-a6]at O;exact O.symm
      have K:n0=l.length:=by
       grind[Zgp]
      have A:j.toNat<l.length:=by omega
      rw[Q09 A]at hu hz;have C:=h.nodup (.m r);have i:(F (.m r)++Sy).Nodup:=List.nodup_append.2 ⟨C,(List.nodup_append.1 h.hnodup).1,λx hx y Q e=>h.hdisj _ x hx (by rw[e];simp[Q])⟩;have o:¬X ad.block:=by
       have hm:ad.block∈F (.m r):=by rw[e2,I.2,v];simp[Value.ownBlock]
       exact(h.own _ _ hm).2.2
      obtain⟨cc,V,g1,g2,D,g4,g5,g6⟩:=Qsf (P:=P) k2 v o C A hu (Ode hd) hz hv i rfl;have aa:W0.below (w.setRow ad.block cc):=
       ⟨h.below.os,h.below.tape,h.below.output,by simpa[World.setRow]using h.below.size,λk hk=>(D k (W0.sep hk (h.own _ _ g2).1)).trans (h.below.block k hk)⟩
      have ab:∀b,(X b\/ ∃r,s.isBox r/\Q2 W0.gh a (.m r)=.pointer (some ⟨b,0,none⟩))->(w.setRow ad.block cc).heap[b]? =w.heap[b]? :=by
       intro b E;refine D b λe=>?_;subst e;rcases E with E|⟨r2,I,h2⟩
       ·exact o E
       ·obtain⟨S,h3⟩:=h.boxIn I h2;have:=h.disj (.m r2) (.m r) ad.block (by rw[h3];simp) g2
        grind
      refine⟨_,w.setRow ad.block cc,Xb F (.m r) V,ap,g1,?_,ab⟩;refine h.turn' (S':=V) (H':=H) (Zum ⟨?_,?_⟩) aa (by simp[World.setRow]) (λb E=>D b λe=>o (by grind))
       (λk b hk E=>D b λe=>hk (h.disj k (.m r) b E (by rw[e];exact g2))) (λb E=>?_) (List.nodup_append.2 ⟨g5,(List.nodup_append.1 h.hnodup).2.1,λx hx y Q e=>?_⟩)
       (by rw[hg];simp) (λe T f x b S E=>by simp_all) ⟨[v'],O,by grind[rdF]⟩
      ·rw[Jz];simp
      ·grind[Xw,Jz]
      ·grind
      ·subst e;have:=g6 x hx;rcases List.mem_append.1 this with h'|h'
       ·exact h.hdisj _ x h' (by simp[Q])
       ·exact(List.nodup_append.1 h.hnodup).2.2 x h' x Q rfl
     ·cases hs
    ·cases hs
   ·rename_i e1 U f x hg;rw[hg]at g J;obtain⟨b,c,S,y',O,k2,k3,k4,k5⟩:=g;obtain⟨b',c',S',l1,l2,l3,l4⟩:=J;rw[O]at l2;obtain⟨rfl,rfl⟩:=List.cons.inj l2;rw[k2]at l3;simp only[Osi,Obj.cells.injEq]at l3;obtain⟨rfl,_⟩:=l3;rw[k3]at hs;split at hs
    ·rename_i e t l ar hf;simp only[Osi]at ar;subst ar;cases k4;split at hs
     ·rename_i u hu;split at hs
      ·rename_i z hd hz;split at hs
       ·rename_i x' a7;simp only[Osi]at hs;subst hs;obtain⟨pre,be,au,S1,S2,S3,m1,m2,m3,m4,m5⟩:=Zjk k3 l4;have av:=Q8p m1 m3 (Y2 m4);rw[av]at k5;rw[hf]at m4;unfold rdF at m4;have m6:=m4;obtain⟨v',xs,T1,T2,rfl,e2,I,h2⟩:=m6;have v:v'=.slice (some ad) n0 am:=k5.symm;have K:n0=l.length:=by
         grind[Zgp]
        have A:j.toNat<l.length:=by omega
        rw[Q09 A]at hu hz;have C:=h.nodup (.m r);have i:(F (.m r)++Sy).Nodup:=List.nodup_append.2 ⟨C,(List.nodup_append.1 h.hnodup).1,λx hx y Q e=>h.hdisj _ x hx (by rw[e];simp[Q])⟩;rw[O,m2]at C i;have a9:ad.block∈S2:=by rw[e2,I.2,v];simp[Value.ownBlock]
        have L:ad.block∈F (.m r):=by grind
        have o:¬X ad.block:=(h.own _ _ L).2.2;have aw:S2.Nodup:=by
         grind
        have ae:(S2++Sy).Nodup:=by
         rw[List.nodup_iff_count]at i⊢;intro z;have:=i z
         grind
        obtain⟨cc,V,g1,g2,D,g4,g5,g6⟩:=Qsf (P:=P) m4 v o aw A hu (Ode hd) hz hv ae rfl;have ba:b≠ad.block:=λe=>by
         grind
        have aa:W0.below (w.setRow ad.block cc):=
         ⟨h.below.os,h.below.tape,h.below.output,by simpa[World.setRow]using h.below.size,λk hk=>(D k (W0.sep hk (h.own _ _ L).1)).trans (h.below.block k hk)⟩
        have ax:∀q,q∈S1\/q∈S3->q≠ad.block:=by
         grind
        have ag:rdF w X W0.B U (Zu0 f p .d) x c.toList (S1++([]++S3)):=by
         have:=m5 .d ⟨.slice e0 t0,l⟩ [v'] [] x (Qse k3) (by unfold rdF;exact⟨rfl,Zon m4,rfl⟩)
         grind
        have M:rdF (w.setRow ad.block cc) X W0.B U (Zu0 f p .d) x c.toList (S1++([]++S3)):=
         Zwc (λ_ h=>h) (λb' ay=>D b' λe=>o (by grind)) ag (λb' ay=>D b' (ax b' (by simpa using ay)))
        obtain⟨W,az,ah,ak,a8,al,q1,q2,q3,q4,q5⟩:=Zjk k3 M;have a0:W=pre/\ah=au:=by
         have e1:W.length=pre.length:=by rw[q3,m3]
         have e2:=q1.symm.trans m1;have e3:=List.append_inj e2 e1;have e4:az.length=[v'].length:=by grind[Y2]
         grind[List.append_inj]
        obtain⟨rfl,rfl⟩:=a0;have Y:=q5 (.u true) ⟨.slice e0 t0,l.set j.toNat z⟩ [v'] V x' a7 (by grind[rdF]);rw[<-m1,Qkz]at Y;have a1:∀z,ak.count z+al.count z<=S1.count z+S3.count z:=λz=>by
         have:=congrArg (List.count z) q2
         grind
        have a2:∀z,V.count z<=S2.count z+Sy.count z:=λz=>by
         have I:=List.nodup_iff_count.1 g5 z;by_cases hz:z∈V
         ·have:=List.count_pos_iff.2 (g6 z hz)
          grind
         grind
        have a3:∀z,(F (.m r)).count z=(b:: (S1++(S2++S3))).count z:=λz=>by rw[O,m2]
        have a4:((b:: (ak++(V++al)))++H).Nodup:=by
         have K:(F (.m r)++(Sy++H)).Nodup:=List.nodup_append.2 ⟨h.nodup _,h.hnodup,λx hx y Q e=>h.hdisj _ x hx (by rw[e];exact Q)⟩;rw[List.nodup_iff_count]at K⊢;intro z;have I:=K z;have h2:=a1 z;have h3:=a2 z;have h4:=a3 z;simp only[List.count_append,List.count_cons]at I h4⊢;omega
        have a5:=h.turn' (t:=.box e1 U (Zu0 f p (.u true)) x') (S':=b:: (ak++(V++al))) (H':=H) (Zum ⟨?_,?_⟩) aa (by simp[World.setRow]) (λb E=>D b λe=>o (by grind))
         (λk b hk E=>D b λe=>hk (h.disj k (.m r) b E (by rw[e];exact L))) (λq hq=>?_) a4
         (by rw[hg];simp) (λe2 T2 f2 x2 b2 a8 G bg=>by
          grind) ⟨b,c,_,l1,rfl,by grind,Y⟩
        ·refine⟨_,_,_,ap,g1,a5,λb2 G=>D b2 λe=>?_⟩;rw[e]at G;rcases G with G|⟨r2,I,h2⟩
         ·exact o G
         ·obtain⟨S,h3⟩:=h.boxIn I h2;have:=h.disj (.m r2) (.m r) ad.block (by rw[h3];simp) L
          grind
        ·rw[Jz];simp
        ·intro p' v2 U2 N;unfold Xw at N⊢;rw[hg]at N;rw[Jz];simp only[if_true]at N⊢;obtain⟨b3,c3,S3,y3,o1,o2,o3,o4,o5⟩:=N;rw[O]at o1;obtain⟨rfl,_⟩:=List.cons.inj o1;obtain⟨y4,o6,o7⟩:=Z9y (x':=x') o3
         grind
        ·rw[<-List.count_pos_iff]at hq⊢;have h2:=a1 q;have h3:=a2 q;have h4:=a3 q;simp only[List.count_append,List.count_cons]at hq h4⊢;omega
       ·cases hs
      ·cases hs
     ·cases hs
    ·cases hs
   ·cases hs
def Qzy(s:St)(r:Nat)(p:List Nat)(i:Int)(fy:Fl)(y:TV):Option St:=
 match s.get (.m r)with
 |.box e U f x=>match Zh2 U x p with
  |some ⟨.arr n t,l⟩=>match(Zo0 f p).live,decide (y.1=t),t.flat,fy.live with
   |true,true,true,true=>match J8 t y.1 y.2 with
    |some z=>match Qbk U x p ⟨.arr n t,l.set i.toNat z⟩with
     |some x'=>some (Vv s r (.box e U (Zu0 f p (Zo0 f p)) x'))
     |none=>none
    |none=>none
   |_,_,_,_=>none
  |_=>none
 |_=>none
theorem R.setArr(h:R n W0 w X F H s a){r:Nat}{p:List Nat}{i:Int}{fy:Fl}{y:TV}{s':St}(hs:Qzy s r p i fy y=some s'){vs:List Value}{S:List Nat}(hv:rdF w X W0.B y.1 fy y.2 vs S)
  {ve:Value} (he:vt W0.gh w X W0.B s F a ve [] (.aep r p i)):
  ∃b ad w' F',ve=.pointer (some ad)/\(storeCells ad vs).run P w=.ok () w'/\R n W0 w' X F' H s' a/\b∈F (.m r)/\ ∀k,k≠b->w'.heap[k]? =w.heap[k]? :=by
 obtain⟨_,e0,O,Q,x0,b,S0,N,t0,A,g1,g2,g3,g4,g5,g6⟩:=he;unfold Go.Am.Qzy at hs;rw[g1]at hs;simp only[g3]at hs;split at hs
 ·rename_i o hd C ab;split at hs
  ·rename_i z hz;split at hs
   ·rename_i x' ae;simp only[Osi]at hs;subst hs;have U:y.1=t0:=Ode hd;obtain⟨t,I⟩:=y;simp only at U;subst U;have ag:I=z:=by have:=Ze3 hz;cases this;rfl
    subst ag;have V:=h.slots (.m r);rw[g1]at V;obtain⟨D,c,S',l1,l2,l3,l4⟩:=V;rw[g2]at l2;obtain⟨rfl,rfl⟩:=List.cons.inj l2;have E:b∈F (.m r):=by rw[g2];simp
    obtain⟨pre,au,j,S1,S2,S3,m1,m2,m3,m4,m5⟩:=Zjk g3 l4;have ah:=Vc (X':=λb=>X b\/b∈S2) (λ_ h=>.inl h) o m4 (λ_ h=>.inr h);obtain⟨J,K⟩:=ah;have J:A.length=N:=J;have ak:i.toNat<A.length:=by omega
    obtain⟨f,l,d,T1,T2,T3,n1,n2,n3,n4,n5,n6⟩:=Zwg (λ_ _ _ h=>Y6 h) ak K;have av:vs.length=t.size:=Y2 hv;have al:l.length=vs.length:=by grind[Y6]
    generalize W:(c.toList.take (Wr O p+i.toNat*t.size+0)++vs++c.toList.drop (Wr O p+i.toNat*t.size+0+vs.length)).toArray=cc;have g:∀k,k≠b->(w.setRow b cc).heap[k]? =w.heap[k]? :=λk hk=>setRow_other w b k _ hk;have aw:c.size=pre.length+(f.length+(l.length+d.length)+j.length):=by grind
    have Y:=run_storeCells_at P b (Wr O p+i.toNat*t.size) e0 vs 0 c w l3 (by omega) (Zmr hv);rw[W]at Y;have e1:cc.toList=pre++((f++(vs++d))++j):=by
     rw[<-W,m1,n1,<-m3,<-n3];have h1:List.take (pre.length+f.length+0) (pre++((f++(l++d))++j))=pre++f:=by
      grind
     have h2:List.drop (pre.length+f.length+0+vs.length) (pre++((f++(l++d))++j))=d++j:=by
      rw[Nat.add_zero,<-al,show pre++((f++(l++d))++j)=(pre++f++l)++(d++j) by simp,List.drop_left' (by simp;omega)]
     rw[h1,h2];simp
    have am:S2=[]:=by
     have:(Ty.arr N t).flat=true:=by simp_all[Ty.flat]
     have hn:Zq4 (Zo0 Q p) (.arr N t)=true:=by
      obtain⟨c,hc⟩:=Q16 m4 o;rw[hc];cases c<;>simp[Zq4,this]
     exact Znm hn m4
    have Qe9:rdF w X W0.B (.arr N t) (Zo0 Q p) (A.set i.toNat I) (f++(vs++d)) []:=by
     have hx:rd w X W0.B true t I vs []:=(Zgy C (Vc (X':=λb=>X b\/b∈S) (λ_ h=>.inl h) ab hv (λ_ h=>.inr h))).2;have hr:∀u,rd w X W0.B u (.arr N t) (A.set i.toNat I) (f++(vs++d)) []:=λu=>by
      refine⟨by simp_all,?_⟩;have e4:A.set i.toNat I=A.take i.toNat++(I::A.drop (i.toNat+1)):=by simp_all[List.set_eq_take_append_cons_drop]
      rw[e4];have q1:=(Ziy (r':=rd w X W0.B u t) (λx v S h=>Zgy C h) n5).2;have q2:=(Ziy (r':=rd w X W0.B u t) (λx v S h=>Zgy C h) n6).2;show Zc2 (rd w X W0.B u t) (A.take i.toNat++(I::A.drop (i.toNat+1))) (f++(vs++d)) ([]++([]++[]));exact Zrd q1 ⟨vs,d,[],[],rfl,rfl,(Zgy C hx).2,q2⟩
     obtain⟨c,hc⟩:=Q16 m4 o
     grind[rdF]
    have Z:=m5 (Zo0 Q p) ⟨.arr N t,A.set i.toNat I⟩ (f++(vs++d)) [] x' ae Qe9;have L:=h.nodup (.m r);rw[g2,m2,am]at L;have ap:b∉S1++([]++S3):=(List.nodup_cons.1 L).1;have aa:¬X b:=(h.own _ b E).2.2;have ar:W0.below (w.setRow b cc):=
     ⟨h.below.os,h.below.tape,h.below.output,by simpa[World.setRow]using h.below.size,λk hk=>(g k (W0.sep hk (h.own _ b E).1)).trans (h.below.block k hk)⟩
    have M:rdF (w.setRow b cc) X W0.B O (Zu0 Q p (Zo0 Q p)) x' cc.toList (S1++([]++S3)):=by
     rw[e1];exact Zwc (λ_ h=>h) (λD G=>g D λe=>aa (by simp_all)) Z (λD G=>g D λe=>ap (by simp_all))
    refine⟨b,⟨b,Wr O p+i.toNat*t.size,none⟩,w.setRow b cc,Xb F (.m r) (b:: (S1++([]++S3))),g6,Y,?_,E,g⟩;refine h.turn (S':=b:: (S1++([]++S3))) ar (by simp_all) (λD G=>g D λe=>aa (by simp_all))
     (λk D hk G=>g D λe=>hk (h.disj k (.m r) D G (by rw[e];exact E))) (λq hq=>by simp_all) (List.nodup_append.2 ⟨L,h.hnodup,λx hx y hy e=>h.hdisj (.m r) x (by simp_all) (by rw[e];exact hy)⟩) (by rw[g1];simp) ?_ ⟨b,_,_,l1,rfl,setRow_heap w b c _ e0 _ l3,by simpa using M⟩
    grind
   ·cases hs
  ·cases hs
 ·cases hs
def Qha(τ:Tab)(s:St)(tg:Ye)(e:TypeId)(x v:Operand):Option St:=
 match τ e with
 |none=>none
 |some T=>match Zyu s (op1 s tg v) T with
  |none=>none
  |some t=>match op1 t.s tg x with
   |.tm k (.box _ _ _ _)=>Qg8 t.s k [] t.f ⟨t.T,t.x⟩
   |.tm _ (.ptr r p)=>Qg8 t.s r p t.f ⟨t.T,t.x⟩
   |.tm _ (.elp r p j q)=>Qmp t.s r p j q t.f ⟨t.T,t.x⟩
   |.tm _ (.aep r p i)=>Qzy t.s r p i t.f ⟨t.T,t.x⟩
   |_=>none
def Ql1(τ:Tab)(s:St)(o:Oper):Option Nat:=
 match o.op with
 |.store e x v=>match τ e with
  |none=>none
  |some T=>match Zyu s (op1 s [] v) T with
   |none=>none
   |some t=>match op1 t.s [] x with
    |.tm k (.box _ _ _ _)=>some k
    |.tm _ (.ptr r _)=>some r
    |.tm _ (.aep r _ _)=>some r
    |_=>none
 |_=>none
theorem Qpx(h:R n W0 w X F H s a)(hτ:τ.ok P){e:TypeId}{x v:Operand}(ho:o.op=.store e x v)(hd:o.dst=none){s':St}(hr:Qha τ s [] e x v=some s')
  {K:Act->World->Prop}{Q:Exit->Act->World->Prop} (hK:∀w' F',R n W0 w' X F' H s' a->Qk3 W0.gh X s a (Ql1 τ s o) w w'->K a w'):o.wp P a w K Q:=by
 have L:Ye.ok [] W0.gh a:=λp hp=>by cases hp
 unfold Qha at hr;split at hr
 ·cases hr
 ·rename_i T hT;split at hr
  ·cases hr
  ·rename_i t hk;obtain⟨aa,Y,S,vs,h1,C,g,_,D⟩:=Zea h L hk;subst aa;have A:=Qgs (Zmr C) (Y2 C);have fin:∀{M:Addr}{w':World},a.eval x=.pointer (some M)->(storeCells M vs).run P w=.ok () w'->(execOp a.eval o).run P w=.ok .skip w':=by
    intro M w' hx ab;simp only[execOp,ho,hx,h1,Instr.storeAt,Instr.sureAddr,storeVar,A,Sem.run_bind,Sem.run_pure,Result.andThen_ok,(hτ _ _ hT).sizeOf w];simp[Y2 C,ab]
   have l:∀{w'},(execOp a.eval o).run P w=.ok .skip w'->(∃F',R n W0 w' X F' H s' a/\Qk3 W0.gh X s a (Ql1 τ s o) w w')->o.wp P a w K Q:=by
    intro w' N ⟨F',hR,hkept⟩;unfold Oper.wp;rw[N];show K (a.put o.dst undef) w';rw[hd];exact hK w' F' hR hkept
   have u:∀{r b:Nat}{w':World},Ql1 τ s o=some r->b∈Y (.m r)->(∀k,k≠b->w'.heap[k]? =w.heap[k]?)->Qk3 W0.gh X s a (Ql1 τ s o) w w':=by
    intro r b w' d Z hq b2 E;refine hq b2 λe=>?_;subst e;rcases E with E|⟨r2,z1,z2,z3⟩
    ·exact(g.own _ _ Z).2.2 E
    ·obtain⟨S2,h4⟩:=g.boxIn (Zu8 hk z1) z3;have:=g.disj (.m r2) (.m r) b2 (by rw[h4];simp) Z;simp_all
   split at hr
   ·rename_i k e' U f y hx;obtain⟨rfl,b,c,S',g1,O,g3,g4⟩:=Jx g L hx (by simp);have hg:∃e2 U2 f2 y2,t.s.get (.m k)=.box e2 U2 f2 y2:=by
     grind[Go.Am.Qg8]
    obtain⟨e2,U2,f2,y2,hg⟩:=hg;obtain⟨w',F',V,I,J⟩:=g.setRoot (P:=P) hr rfl C ⟨_,O⟩ hg;have d:Ql1 τ s o=some k:=by simp_all[Ql1]
    exact l (fin g1 (by simp_all[Wr])) ⟨F',I,u d (by rw[O];simp) J⟩
   ·rename_i k r p hx;obtain⟨rfl,h0,e2,U2,f2,y2,b,S',g1,O,g3⟩:=Jx g L hx (by simp);obtain⟨w',F',V,I,J⟩:=g.setRoot (P:=P) hr rfl C ⟨_,O⟩ g1;have d:Ql1 τ s o=some r:=by simp_all[Ql1]
    exact l (fin g3 V) ⟨F',I,u d (by rw[O];simp) J⟩
   ·rename_i k r p j q hx;obtain⟨rfl,G⟩:=Jx g L hx (by simp);have W:(t.f.allU true||t.T.flat)=true:=by
     grind[Go.Am.Qmp]
    have z:vt W0.gh w X W0.B t.s Y a (a.eval (.tmp k)) [] (.elp r p j q):=⟨rfl,G.2⟩
    have ae:∃Sy,rd w X W0.B true t.T t.x vs Sy/\R n W0 w X Y (Sy++H) t.s a:=by
     rcases Bool.or_eq_true_iff.1 W with ho|hfl
     ·grind[Qgz]
     ·exact⟨[],(Zgy hfl (Vc (X':=λb=>X b\/b∈S) (λ_ h=>.inl h) D C (λ_ h=>.inr h))).2,g.drop⟩
    obtain⟨Sy,hv,ag⟩:=ae;obtain⟨M,w',F',q0,V,I,J⟩:=ag.setElem (P:=P) hr hv z;exact l (fin q0 V) ⟨F',I,λb Z=>J b (Z.imp id λ⟨r2,z1,_,z2⟩=>⟨r2,Zu8 hk z1,z2⟩)⟩
   ·rename_i k r p i hx;obtain⟨rfl,G⟩:=Jx g L hx (by simp);have d:Ql1 τ s o=some r:=by simp_all[Ql1]
    have z:vt W0.gh w X W0.B t.s Y a (a.eval (.tmp k)) [] (.aep r p i):=⟨rfl,G.2⟩
    obtain⟨b,M,w',F',q0,V,I,J,q4⟩:=(g.drop).setArr (P:=P) hr C z
    grind
   ·cases hr
def Q8o(s:St)(x:Op1)(t:Ty):Option (t.den×St×Bool):=
 match Zyu s x t with
 |some u=>match u.T,u.f,u.x,t.flat with
  |T,_,y,true=>match J8 t T y with|some z=>some (z,u.s,u.moved)|none=>none
  |T,f,y,false=>match Zcb T f (.u true),J8 t T y with|true,some z=>some (z,u.s,u.moved)|_,_=>none
 |none=>none
theorem Qxp(h:R n W0 w X F H s a)(ht:tg.ok W0.gh a){x:Operand}{t:Ty}{z:t.den}{s':St}{mv:Bool}(hk:Q8o s (op1 s tg x) t=some (z,s',mv)):
  ∃F' S vs,a.eval x=Yz t vs/\rd w X W0.B true t z vs S/\R n W0 w X F' (S++H) s' a/\(mv=false->s'=s):=by
 unfold Q8o at hk;split at hk
 ·rename_i u r;obtain⟨k,F',S,vs,l,f,m,o,v⟩:=Zea h ht r;split at hk
  ·rename_i g;split at hk
   ·rename_i p i;simp only[Osi,Opi]at hk;obtain⟨rfl,rfl,rfl⟩:=hk;have e:=Ze3 i;have d:u.T.flat=true:=by simp_all
    have y:rd w (λb=>X b\/b∈S) W0.B false u.T u.x vs []:=Vc (λ_ h=>.inl h) v f (λ_ h=>.inr h);have A:=(Zgy (X':=X) (own':=true) (w':=w) d y).2;refine⟨F',[],vs,by rw[l,k],?_,m.drop,λj=>(o j).1⟩
    grind
   ·cases hk
  ·rename_i g;split at hk
   ·rename_i p c i;simp only[Osi,Opi]at hk;obtain⟨rfl,rfl,rfl⟩:=hk;have e:=Ze3 i;refine⟨F',S,vs,by rw[l,k],?_,m,λj=>(o j).1⟩;have q:(⟨u.T,u.x⟩:TV)=⟨t,p⟩:=e;cases u with
    |mk C D E G I=>simp only at q f c;cases q;have:=Zms c f;simp_all[rdF]
   ·cases hk
 ·cases hk
def Qsz(tg:Ye)(t:Ty):Nat->List (Nat×Operand)->St->Bool->Option (List t.den×St×Bool)
 |_,[],s,mv=>some ([],s,mv)
 |k,(i,y)::r,s,mv=>match Nat.beq i k with
  |false=>none
  |true=>match Q8o s (op1 s tg y) t with
   |some (z,s1,m1)=>match Qsz tg t (k+1) r s1 (mv||m1)with
    |some (l,s2,m2)=>some (z::l,s2,m2)
    |none=>none
   |none=>none
theorem Q0n:∀{r:List (Nat×Operand)}{t:Ty}{k:Nat}{s:St}{mv:Bool}{l:List t.den}{s':St}{mv':Bool},Qsz tg t k r s mv=some (l,s',mv')->mv'=false->mv=false
 |[],t,k,s,mv,l,s',mv',h,a=>by simp_all[Qsz]
 |(i,y)::r,t,k,s,mv,l,s',mv',h,a=>by
  simp only[Qsz]at h;split at h
  ·cases h
  ·split at h
   ·split at h
    ·rename_i b;simp only[Osi,Opi]at h;obtain⟨_,_,rfl⟩:=h;have:=Q0n b a;simp_all
    ·cases h
   ·cases h
theorem Qcc(ht:tg.ok W0.gh a){t:Ty}:∀{parts:List (Nat×Operand)}{k:Nat}{s:St}{mv:Bool}{l:List t.den}{s':St}{mv':Bool}{F:Key->List Nat}{H:List Nat}{cs:Array Value}{A M C:List Value},
  R n W0 w X F H s a->cs.toList=A++(M++C)->A.length=k*t.size->M.length=parts.length*t.size->Qsz tg t k parts s mv=some (l,s',mv')->
  ∃F' S vs cs',Instr.fill (λi=>some (i*t.size,t.size)) cs (parts.map λp=>(p.1,a.eval p.2))=some cs'/\cs'.toList=A++(vs++C)/\Zc2 (rd w X W0.B true t) l vs S/\l.length=parts.length/\
   R n W0 w X F' (S++H) s' a/\(mv'=false->s'=s)
 |[],k,s,mv,l,s',mv',F,H,cs,A,M,C,h,d,u,x,b=>by
  simp only[Qsz,Osi,Opi]at b;obtain⟨rfl,rfl,rfl⟩:=b;have:M=[]:=List.eq_nil_of_length_eq_zero (by simpa using x);subst this;exact⟨F,[],[],cs,rfl,d,⟨rfl,rfl⟩,rfl,h,λ_=>rfl⟩
 |(i,y)::r,k,s,mv,l,s',mv',F,H,cs,A,M,C,h,d,u,x,b=>by
  simp only[Qsz]at b;split at b
  ·cases b
  ·rename_i e;have e:=Onb e;subst e;split at b
   ·rename_i z P Q I;split at b
    ·rename_i U V W j;simp only[Osi,Opi]at b;obtain⟨rfl,rfl,rfl⟩:=b;obtain⟨Y,D,vs,J,m,K,Z⟩:=Qxp h ht I;have c:=Z56 (Zon m) (Y6 m);have f:(a.eval y).cells.size=t.size:=by grind[Array.length_toList,Y6]
     have o:M.length=t.size+r.length*t.size:=by grind
     obtain⟨q,E,g2⟩:=Z38 (place:=λi=>some (i*t.size,t.size)) (i:=i) (rest:=r.map λp=>(p.1,a.eval p.2)) (v:=a.eval y) rfl (pre:=A) (mid:=M.take t.size) (post:=M.drop t.size++C)
      (by rw[d,<-List.append_assoc (M.take _),List.take_append_drop]) u (by simp;omega) f
     rw[J,c]at E;obtain⟨F',S,g,cs',k1,L,N,O,G,k6⟩:=Qcc ht (k:=i+1) (cs:=q) (A:=A++vs) (M:=M.drop t.size) (C:=C) K (by rw[E];simp) (by grind) (by simp[o]) j;refine⟨F',D++S,vs++g,cs',by simp_all,by rw[L];simp,⟨vs,g,D,S,rfl,rfl,m,N⟩,by simp[O],?_,λhm=>?_⟩
     ·refine G.sub ?_ ?_
      ·grind
      ·have:=G.hnodup
       grind
     grind[Q0n]
    ·cases b
   ·cases b
def Z3g(τ:Tab)(s:St)(tg:Ye)(e:TypeId)(len:Nat)(parts:Array (Nat×Operand)):Option Res:=
 match τ e with
 |some (.slice e' t)=>match τ e' with
  |some t2=>match decide (t2=t),Nat.beq parts.size len&&Nat.ble (len*t.size) 16777216 with
   |true,true=>match Qsz tg t 0 parts.toList s false with
    |some (l,s',mv)=>some ⟨.val (.slice e' t) (.u true) l,s',mv,none⟩
    |none=>none
   |_,_=>none
  |none=>none
 |_=>none
theorem Qae(h:R n W0 w X F H s a)(ht:tg.ok W0.gh a)(hτ:τ.ok P){e:TypeId}{len:Nat}{parts:Array (Nat×Operand)}(ho:o.op=.buildSlice e len parts){r:Res}(hr:Z3g τ s tg e len parts=some r):Zve P n W0 w X H s a o r:=by
 unfold Z3g at hr;split at hr
 ·rename_i J t u;split at hr
  ·rename_i d y;split at hr
   ·rename_i L f;split at hr
    ·rename_i l s' mv j;simp only[Osi]at hr;subst hr;have:=Ode L;subst this;simp only[Oba,Nat.ble_eq]at f;have D:=Onb f.1;obtain⟨hu,m⟩:=(hτ _ _ u).slice;obtain⟨i,hi,N,_,hz⟩:=(hτ _ _ y).size;intro _ K Q O;obtain⟨c,E⟩:∃c:Array Value,c=(Array.range (len*i.size)).map ((Yz d (Zax d)).cells[· % (Yz d (Zax d)).cells.size]!):=⟨_,rfl⟩
     have G:c.toList.length=len*d.size:=by simp_all
     obtain⟨U,S,z,g,k1,V,W,k4,I,Y⟩:=Qcc ht (k:=0) (cs:=c) (A:=[]) (M:=c.toList) (C:=[]) h (by simp) (by simp) (by simp_all) j;have p:l.length=len:=by simp_all
     have q:(execOp a.eval o).run P w=.ok (.value (.slice (some ⟨w.heap.size,0,none⟩) len len)) (w.alloc (.cells g J)):=by
      simp only[execOp,ho,Sem.run_bind];by_cases Z:len*i.size=0
      ·have aa:len=0:=by
        grind[Nat.mul_eq_zero]
       simp_all[Instr.buildSlice,run_underlying,Go.sizeOf,typeInfo,newRow,Array.range_zero']
      simp_all[run_buildSlice]
     unfold Oper.wp;rw[q];have ab:g.toList=z:=by simpa using V
     refine O _ X U (w.heap.size::S) _ (λ_ h=>h) (I.alloc _) ⟨[_],rfl,?_⟩ Y ⟨λ_=>Old.alloc _ _,h.kept (Old.alloc _ _)⟩;unfold rdF;have B:z.length=len*d.size:=by grind[Zwh,Y6]
     refine⟨_,z,[w.heap.size],S,rfl,rfl,⟨⟨by rw[B,p],.inr ⟨w.heap.size,len,g,by rw[p],h.below.sizeB,Qe9 _ _,by omega,?_,?_,?_⟩⟩,rfl⟩,?_⟩
     ·have:=f.2;have h2:len<=len*d.size:=Nat.le_mul_of_pos_right _ m
      grind[maxLen]
     ·grind
     ·grind
     ·exact Jy W λx v T _ u hr=>Zgz (λ_ h=>h) (λb j=>hold w _ b (h.xlt b j)) hr λb j=>hold w _ b (I.hown b (by simp[u b j])).2.1
    ·cases hr
   ·cases hr
  ·cases hr
 ·cases hr
def Z7n(τ:Tab)(s:St)(tg:Ye)(e:TypeId)(parts:Array (Nat×Operand)):Option Res:=
 match τ e with
 |some (.arr n t)=>match parts.toList with
  |[]=>some ⟨.val (.arr n t) (.u true) (List.replicate n (zero t)),s,false,none⟩
  |p::ps=>match Nat.beq (p::ps).length n,Qsz tg t 0 (p::ps) s false with
   |true,some (l,s',mv)=>some ⟨.val (.arr n t) (.u true) l,s',mv,none⟩
   |_,_=>none
 |_=>none
theorem Qer(h:R n W0 w X F H s a)(ht:tg.ok W0.gh a)(hτ:τ.ok P){e:TypeId}{parts:Array (Nat×Operand)}(ho:o.op=.build e parts){r:Res}(hr:Z7n τ s tg e parts=some r):Zve P n W0 w X H s a o r:=by
 unfold Z7n at hr;split at hr
 ·rename_i m t f;obtain⟨y,W,z,g⟩:=(hτ _ _ f).arr;obtain⟨i,Y,B,_,Z⟩:=(hτ _ _ f).size;obtain⟨j,hj,D,_⟩:=Zre g;have E:(Yz (.arr m t) (Zax (.arr m t))).cells=(Zax (.arr m t)).toArray:=rfl;split at hr
  ·rename_i q;simp only[Osi]at hr;subst hr;intro _ K Q u;have c:(execOp a.eval o).run P w=.ok (.value (.agg (Zax (.arr m t)).toArray)) w:=by
    simp_all[execOp,Instr.build,zeroValue,typeInfo,run_underlying,Go.sizeOf,Instr.fill]
   unfold Oper.wp;rw[c];refine u _ X F [] w (λ_ h=>h) (by simpa using h) ⟨Zax (.arr m t),rfl,?_⟩ (λ_=>rfl) ⟨λ_=>Old.refl w,h.kept (Old.refl w)⟩;unfold rdF;exact Zx9 (hτ _ _ f).plain
  ·rename_i p ps q;split at hr
   ·rename_i l s' mv b G;simp only[Osi]at hr;subst hr;have b:=Onb b;intro _ K Q u;have v:(Zax (.arr m t)).length=m*t.size:=Z1v (hτ _ _ f).plain;obtain⟨I,S,J,d,k1,L,N,O,U,V⟩:=Qcc ht (k:=0) (cs:=(Zax (.arr m t)).toArray) (A:=[]) (M:=Zax (.arr m t)) (C:=[]) h (by simp) (by simp) (by rw[v,b]) G;have c:(execOp a.eval o).run P w=.ok (.value (.agg d)) w:=by
     simp only[execOp,ho,Sem.run_bind,Instr.build,zeroValue,typeInfo,Sem.run_pure,run_underlying z,Result.andThen_ok];simp_all[Go.sizeOf,typeInfo]
    unfold Oper.wp;rw[c];have x:d.toList=J:=by simpa using L
    refine u _ X I S w (λ_ h=>h) U ⟨d.toList,by simp[Yz],?_⟩ V ⟨λ_=>Old.refl w,h.kept (Old.refl w)⟩;unfold rdF;rw[x];exact⟨by rw[O,b],N⟩
   ·cases hr
 ·cases hr
theorem Zwq(z:List Value):∀(m j:Nat),j<m*z.length->(List.replicate m z).flatten[j]? =z[j%z.length]?
 |0,j,h=>by simp at h
 |m+1,j,h=>by
  rw[List.replicate_succ,List.flatten_cons];by_cases a:j<z.length
  ·rw[List.getElem?_append_left a,Nat.mod_eq_of_lt a]
  ·rw[List.getElem?_append_right (by omega),Zwq z m (j-z.length) (by grind)];simp_all[Nat.mod_eq_sub_mod]
theorem Qoo(z:Array Value){l c:Nat}(hlc:l<=c):(madeCells z (c*z.size)).toList.take (l*z.size)=(List.replicate l z.toList).flatten:=by
 apply List.ext_getElem?;intro j;have d:(List.replicate l z.toList).flatten.length=l*z.size:=by simp
 by_cases a:j<l*z.size
 ·have b:j<c*z.size:=Nat.lt_of_lt_of_le a (Nat.mul_le_mul_right _ hlc);have f:0<z.size:=Nat.pos_of_ne_zero λe=>by simp_all
  rw[List.getElem?_take,if_pos a,Zwq _ _ _ (by simpa using a)];simp_all[Nat.mod_lt,madeCells]
 grind
def Qtx(τ:Tab)(s:St)(tg:Ye)(e:TypeId)(x y:Operand):Option Res:=
 match τ e with
 |some (.slice e' t)=>match τ e',Zwf s (op1 s tg x),Zwf s (op1 s tg y)with
  |some t2,some (_,l),some (_,c)=>match decide (t2=t)with
   |true=>some ⟨.val (.slice e' t) (.u true) (List.replicate l.toNat (zero t)),s,false,some (0<=l/\l<=c/\c<=Qd)⟩
   |false=>none
  |_,_,_=>none
 |_=>none
theorem Qqk(h:R n W0 w X F H s a)(ht:tg.ok W0.gh a)(hτ:τ.ok P){e:TypeId}{x y:Operand}(ho:o.op=.makeSlice e x y){r:Res}(hr:Qtx τ s tg e x y=some r):Zve P n W0 w X H s a o r:=by
 unfold Qtx at hr;split at hr
 ·rename_i j t m;split at hr
  ·rename_i f p l q c b u v;split at hr
   ·rename_i z;simp only[Osi]at hr;subst hr;have:=Ode z;subst this;obtain⟨A,k⟩:=(hτ _ _ m).slice;obtain⟨i,B,C,D,E⟩:=(hτ _ _ b).size;intro G K Q I;obtain⟨J,L,M⟩:0<=l/\l<=c/\c<=Qd:=G;have g:c<=17179869184:=M;have N:=Zih h ht u;have O:=Zih h ht v;have S:(i.bytes:Int)*c<=281474976710656:=by
     have:(i.bytes:Int)*c<=8192*17179869184:=Int.mul_le_mul (by omega) g (by omega) (by omega);omega
    have d:(execOp a.eval o).run P w=.ok (.value (.slice (some ⟨w.heap.size,0,none⟩) l.toNat c.toNat)) (w.alloc (.cells (madeCells (Zax f).toArray (c.toNat*i.size)) j)):=by
     simp only[execOp,ho,N,O,Sem.run_bind,run_make w e j i _ A B E p q l c J L S (by omega),Result.andThen_ok,Sem.run_pure,Z46 (hτ _ _ b).plain]
    unfold Oper.wp;rw[d];refine I _ X F [w.heap.size] _ (λ_ h=>h) (h.alloc _) ⟨[_],rfl,?_⟩ (λ_=>rfl) ⟨λ_=>Old.alloc _ _,h.kept (Old.alloc _ _)⟩;unfold rdF;have U:(Zax f).toArray.size=f.size:=by simp[Z1v (hτ _ _ b).plain]
    refine⟨_,(List.replicate l.toNat (Zax f)).flatten,[w.heap.size],[],rfl,rfl,⟨⟨by simp_all,.inr ⟨w.heap.size,c.toNat,_,by simp,h.below.sizeB,Qe9 _ _,by simp;omega,by grind[maxLen],?_,?_⟩⟩,rfl⟩,Z1q (Zx9 (hτ _ _ b).plain) _⟩
    all_goals grind[size_madeCells,Qoo]
   ·cases hr
  ·cases hr
 ·cases hr
def Qho(τ:Tab)(s:St)(tg:Ye)(e:TypeId)(x y:Operand):Option Res:=
 match τ e with
 |some (.slice e' t)=>match τ e' with
  |some t2=>match decide (t2=t),Zyu s (op1 s tg x) (.slice e' t)with
   |true,some ⟨.slice e1 t1,.u true,l,s1,_⟩=>match decide (e1=e'/\t1=t)with
    |true=>match t.flat,Z9f s1 (op1 s1 tg y)with
     |true,some ⟨_,t3,_,l3⟩=>match J8 (.slice e' t1) (.slice e' t3) l3 with
      |some l4=>some ⟨.val (.slice e' t1) (.u true) (l++l4),s1,true,some (l.length+l4.length<=Qd)⟩
      |none=>none
     |false,_=>match Zyu s1 (op1 s1 tg y) (.slice e' t)with
      |some ⟨.slice e3 t3,.u true,l3,s2,_⟩=>match J8 (.slice e' t1) (.slice e3 t3) l3 with
       |some l4=>some ⟨.val (.slice e' t1) (.u true) (l++l4),s2,true,some (l.length+l4.length<=Qd)⟩
       |none=>none
      |_=>none
     |_,_=>none
    |false=>none
   |_,_=>none
  |none=>none
 |_=>none
theorem Z5e{e e':TypeId}{t:Ty}(hT:TOK P e (.slice e' t))(hT2:TOK P e' t){v vy:Value}{xs ys:List Value}{l l4:List t.den}
  (hown:w.ownsRow B e' t.size v l.length xs) (hy:∃ad cap,vy=.slice ad l4.length cap/\l4.length<=cap/\((ad=none/\l4.length=0/\cap=0)\/ ∃a0,ad=some a0/\ ∀j u,ys[j]? =some u->w.cell? (a0.add j)=some u)) (hyl:ys.length=l4.length*t.size)
  (h1:∀u∈ys,u.oneCell'=true) (hp:l.length+l4.length<=Qd) (hB:B<=w.heap.size):
  ∃v' w',(Builtin.append_ #[e,e] e #[v,vy]).run P w=.ok v' w'/\w'.ownsRow B e' t.size v' (l.length+l4.length) (xs++ys)/\w.grownBy w' v.ownBlock/\(v'.ownBlock=v.ownBlock\/ ∀b,v'.ownBlock=some b->w.heap.size<=b):=by
 obtain⟨o,f⟩:=hT.slice;obtain⟨i,p,a,E,F⟩:=hT2.size;have r:(Yz t (Zax t)).cells.size=t.size:=by rw[Z46 hT2.plain];simp[Z1v hT2.plain]
 have G:l.length+l4.length<=17179869184:=hp;obtain⟨ad,cap,rfl,Q,q⟩:=hy;rcases q with⟨rfl,s,rfl⟩|⟨a0,rfl,q⟩
 ·have H:ys=[]:=List.eq_nil_of_length_eq_zero (by simp_all);subst H;have x:=hown.2;rcases x with⟨rfl,N⟩|⟨g,cap,h,rfl,I,O,y,J,z,K⟩
  ·refine⟨.slice none 0 0,w,?_,by simp_all,⟨rfl,rfl,rfl,Nat.le_refl _,λ_ _ _=>rfl⟩,.inl rfl⟩;rw[s];simp[Builtin.append_,run_underlying o,Go.sizeOf,typeInfo,p,Builtin.lenOf,Builtin.firstCells]
  ·refine⟨.slice (some ⟨g,0,none⟩) l.length cap,w,?_,by simp_all,⟨rfl,rfl,rfl,Nat.le_refl _,λ_ _ _=>rfl⟩,.inl rfl⟩;rw[s];simp[Builtin.append_,run_underlying o,Go.sizeOf,typeInfo,p,Builtin.lenOf,Builtin.firstCells,y,storeCells]
 ·have k:(l.length+l4.length)*i.bytes<=140737488355328:=by
   have:(l.length+l4.length)*i.bytes<=17179869184*8192:=Nat.mul_le_mul G E;omega
  have A:l.length+l4.length<=maxLen:=by grind[maxLen]
  obtain⟨v',w',L,S,U,_⟩:=run_append_own (P:=P) w B e e e' i _ t.size i.bytes o p F a rfl r f v l.length xs hown a0 l4.length cap ys hyl q h1 A k hB;refine⟨v',w',L,S,U,?_⟩;rcases hown.2 with⟨rfl,N⟩|⟨g,c,h,rfl,I,O,y,J,z,K⟩
  ·have m:w.ownsRow w.heap.size e' t.size (.slice none 0 0) l.length xs:=⟨hown.1,.inl ⟨rfl,N⟩⟩
   obtain⟨W,X,M,V,_⟩:=run_append_own (P:=P) w w.heap.size e e e' i _ t.size i.bytes o p F a rfl r f _ l.length xs m a0 l4.length cap ys hyl q h1 A k (Nat.le_refl _);rw[L]at M;simp only[Result.ok.injEq]at M;obtain⟨rfl,rfl⟩:=M;exact .inr λb I=>(V.lt b I).1
  ·by_cases d:l.length+l4.length<=c
   ·have C:l.length*i.size+ys.length<=h.size:=by rw[hyl,z,a,<-Nat.add_mul];exact Nat.mul_le_mul_right _ d
    have D:=run_append_room (P:=P) w e e e' i o p g l.length c h O a0 l4.length cap ys (by rw[hyl,a]) q h1 d C;rw[L]at D;simp only[Result.ok.injEq]at D;exact .inl (by rw[D.1];rfl)
   ·have n:∀j u,xs[j]? =some u->w.cell? ((⟨g,0,none⟩:Addr).add j)=some u:=hown.cells (g:=g) rfl;have D:=run_append_grow (P:=P) w e e e' i _ o p F ⟨g,0,none⟩ l.length c xs (by rw[hown.1,a]) n a0 l4.length cap ys (by rw[hyl,a]) q (by omega) (by omega) (growslice_fits (by omega) k)
    grind[Value.ownBlock]
theorem Z55{B':Nat}{e:TypeId}{sz nn:Nat}{v:Value}{xs:List Value}(h:w.ownsRow B e sz v nn xs)(hB:B'<=B):w.ownsRow B' e sz v nn xs:=
 ⟨h.1,h.2.imp id λ⟨g,a,b,c,d,f⟩=>⟨g,a,b,c,Nat.le_trans hB d,f⟩⟩
theorem Qst{S1 S2 S4:List Nat}(h:R n W0 w X F (S1++(S2++(S4++H))) s a){e':TypeId}{t:Ty}{v v':Value}{xs ys:List Value}{l l4:List t.den}
  (h1:hdr w X W0.B true e' t.size l.length v xs S1) (h2:Zc2 (rd w X W0.B true t) l xs S2) (h4:Zc2 (rd w X W0.B true t) l4 ys S4)
  (g2:w'.ownsRow W0.B e' t.size v' (l.length+l4.length) (xs++ys)) (g3:w.grownBy w' v.ownBlock) (g4:v'.ownBlock=v.ownBlock\/ ∀b,v'.ownBlock=some b->w.heap.size<=b):
  ∃S,R n W0 w' X F (S++H) s a/\rd w' X W0.B true (.slice e' t) (l++l4) [v'] S/\(∀b,X b->w'.heap[b]? =w.heap[b]?)/\ ∀k b,b∈F k->w'.heap[b]? =w.heap[b]? :=by
 have j:S1=v.ownBlock.toList:=h1.2;have d:∀b,b<w.heap.size->b∉S1->w'.heap[b]? =w.heap[b]? :=λb c z=>g3.block b c (λe=>z (by simp_all));have i:=h.hnodup;have m:∀b,X b->w'.heap[b]? =w.heap[b]? :=λb c=>d b (h.xlt b c) λf=>(h.hown b (by simp[f])).2.2 c;have r:∀k b,b∈F k->w'.heap[b]? =w.heap[b]? :=λk b c=>d b (h.own k b c).2.1 λf=>h.hdisj k b c (by simp[f]);have g:∀b,b∈S2++(S4++H)->b∉S1:=λb c f=>(List.nodup_append.1 i).2.2 b f b c rfl;have A:∀b,b∈S2++(S4++H)->w'.heap[b]? =w.heap[b]? :=λb c=>d b (h.hown b (by simp_all)).2.1 (g b c);have o:W0.below w':=⟨g3.os.trans h.below.os,g3.tape.trans h.below.tape,g3.output.trans h.below.output,Nat.le_trans h.below.size g3.size,λk hk=>
  (d k (Nat.lt_of_lt_of_le (W0.yW k hk) h.below.size) λf=>W0.sep hk (h.hown k (by simp[f])).1 rfl).trans (h.below.block k hk)⟩
 have u:=(h.drop).world o g3.size m r;have p:=g2.lt;have C:R n W0 w' X F (v'.ownBlock.toList++(S2++(S4++H))) s a:=by
  rcases g4 with g4|g4
  ·rw[g4,<-j];refine u.hand (λb c=>?_) (List.nodup_append.1 i).1 (λk b c f=>h.hdisj k b c (by simp[f])) (λb c f=>g b f c);obtain⟨I,J,K⟩:=h.hown b (by simp[c]);simp_all
  ·refine u.hand (λb c=>?_) (by grind) (λk b c f=>?_) (λb c f=>?_)
   ·have c:v'.ownBlock=some b:=by simpa using c
    exact⟨.inl (Nat.le_trans h.below.size (g4 b c)),(p b c).2,λhx=>by grind⟩
   all_goals grind
 have y:∀{l:List t.den}{xs:List Value}{S:List Nat},Zc2 (rd w X W0.B true t) l xs S->(∀b∈S,b∈S2++(S4++H))->Zc2 (rd w' X W0.B true t) l xs S:=λD E=>
  Jy D λx v T _ G q=>Zgz (λ_ h=>h) m q λb c=>A b (E b (G b c))
 refine⟨v'.ownBlock.toList++(S2++S4),by simp_all,⟨v',xs++ys,v'.ownBlock.toList,S2++S4,rfl,rfl,⟨by simpa using g2,rfl⟩,?_⟩,m,r⟩;simp_all[Zrd]
theorem Qk5(h:R n W0 w X F H s a)(ht:tg.ok W0.gh a)(hτ:τ.ok P){e:TypeId}{x y:Operand}(ho:o.op=.call {callee:=.builtin .append,args:= #[x,y],argTypes:= #[e,e]}){r:Res}(hr:Qho τ s tg e x y=some r):Zve P n W0 w X H s a o r:=by
 unfold Qho at hr;split at hr
 ·rename_i e' t hT;split at hr
  ·rename_i t2 O;split at hr
   ·rename_i e1 U l s1 m1 hd hx;have:=Ode hd;subst this;obtain⟨_,F1,S,vs,q1,V,I,_,_⟩:=Zea h ht hx;split at hr
    ·rename_i W;obtain⟨rfl,rfl⟩:=Ode W;simp only at q1 V I;unfold rdF at V;obtain⟨v,xs,Y,Z,rfl,rfl,k1,k2⟩:=V;have fin:∀{i m S4 z f}{p:Value}{r:Res},R n W0 w X m (S4++((Y++Z)++H)) i a->(∀r,s.isBox r->i.isBox r)->a.eval y=p->
       (∃A d,p=.slice A f.length d/\f.length<=d/\((A=none/\f.length=0/\d=0)\/ ∃J,A=some J/\ ∀j u,z[j]? =some u->w.cell? (J.add j)=some u))->
       Zc2 (rd w X W0.B true U) f z S4->r=⟨.val (.slice e1 U) (.u true) (l++f),i,true,some (l.length+f.length<=Qd)⟩->Zve P n W0 w X H s a o r:=by
      intro i m S4 z f p r hR aa q hc c ab;subst ab;intro L K Q hK;obtain⟨v',M,g1,N,C,g4⟩:=Z5e (P:=P) (hτ _ _ hT) (hτ _ _ O) k1.1 hc (Zwh (λ_ _ _ h=>Y6 h) c) (Z1p (λ_ _ _ h=>Zon h) c) L h.below.sizeB;have ae:R n W0 w X m (Y++(Z++(S4++H))) i a:=hR.sub (λb g=>by grind) (by
       have:=hR.hnodup;simp only[List.nodup_append,List.mem_append]at this⊢
       grind)
      obtain⟨S',z1,z2,z3,z4⟩:=Qst ae k1 k2 c N C g4;have ag:a.eval x=v:=q1;have D:(execOp a.eval o).run P w=.ok (.value v') M:=by
       simp only[execOp,ho];have ah:(Builtin.append_ #[e,e] o.type #[v,p]).run P w=.ok v' M:=g1;simp[resolve,invoke,builtin,ag,q,ah]
      have E:Qk3 W0.gh X s a none w M:=by
       intro b g;rcases g with g|⟨r,h1,_,h2⟩
       ·exact z3 b g
       ·obtain⟨S,h3⟩:=hR.boxIn (aa r h1) h2
        grind
      unfold Oper.wp;rw[D];exact hK _ X m S' M (λ_ h=>h) z1 ⟨[v'],rfl,by grind[rdF]⟩ (by simp) ⟨λL=>(by rw[ho]at L;cases L),E⟩
     split at hr
     ·rename_i e3 t3 b3 l3 G q;split at hr
      ·rename_i f k;simp only[Osi]at hr;have:=Ze3 k;cases this;obtain⟨p,z,T1,T2,g1,N,C,g4⟩:=Z0c I ht q;have g5:=Ziy (r':=rd w X W0.B true U) (λx v S h=>Zgy G h) C;refine fin (S4:=[]) (by simpa using I) (λr g=>Zu8 hx g) g1 ?_ g5.2 hr.symm
       grind[Zgp]
      ·cases hr
     ·rename_i G;split at hr
      ·rename_i e3 t3 l3 i m2 q;split at hr
       ·rename_i f k;simp only[Osi]at hr;have:=Ze3 k;cases this;obtain⟨_,m,S4,al,u1,u2,u3,_,_⟩:=Zea I ht q;simp only at u1 u2 u3;unfold rdF at u2;obtain⟨p,z,T1,T2,rfl,rfl,N,C⟩:=u2;have ak:R n W0 w X m (T2++((Y++Z)++H)) i a:=by
         rw[List.append_assoc]at u3;exact u3.drop
        refine fin ak (λr g=>Zu8 q (Zu8 hx g)) u1 ?_ C hr.symm;obtain⟨A,d,z1,z2,_,z3⟩:=Zgp N;exact⟨A,d,z1,z2,z3.imp id λ⟨J,u1,_,u2⟩=>⟨J,u1,u2⟩⟩
       ·cases hr
      ·cases hr
     ·cases hr
    ·cases hr
   ·cases hr
  ·cases hr
 ·cases hr
end Go.Am

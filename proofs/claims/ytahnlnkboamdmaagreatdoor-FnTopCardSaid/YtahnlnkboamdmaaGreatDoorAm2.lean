/- No condition. -/
import Derived.Test.YtahnlnkboamdmaaGreatDoorAm1
import Derived.Great.BuildSlice
set_option linter.all false
namespace Go.Am
open Go.RowKit
open Option renaming some→K1,none→K2,map_eq_some_iff→M0,map_none→M1
open Bool renaming true→K3,false→K4
open Go renaming Value→La,TypeId→Lb,Addr→Lc,Operand→Ld,World→Lf,Result→Lh,Oper→Li,sizeOf→Lo,Builtin→Lr
open Decidable renaming decide→Le
open List renaming nodup_append→Lg,getElem?_append_left→Lp,getElem?_append_right→Lq,mem_append→Lt,replicate→Lw,getElem?_eq_some_iff→Lz,nodup_iff_count→L3,append_assoc→L9,count_append→Ma,mem_singleton→Mb,append_inj→Mk,count_cons→Ml,count_pos_iff→Mm,drop_left'→Mn,eq_nil_of_length_eq_zero→Mo,ext_getElem?→Mp,length_append→Mq,length_take→Mr,nodup_cons→Ms,set_eq_take_append_cons_drop→Mt,take_append_drop→Mu
open Sem renaming run_bind→Lj,run_pure→Lm
open Addr renaming add→Lk
open Result renaming andThen_ok→Ll
open Oper renaming wp→Ln
open List.cons renaming inj→Ls
open Sigma.mk renaming injEq→Lu
open Instr renaming fill→Lv,sliceBounds→L1,sureAddr→L2,build→L6,indexAt→L7,sliceBound→L8,fieldAt→Mi,sliceAt→Mj
open Nat renaming le_refl→Lx,beq→L4,le_trans→Mc,lt_irrefl→Md,lt_of_lt_of_le→Mw,min_eq_left→Mx,mul_le_mul_right→My
open World renaming setRow→Ly,cell?_of_block→Mf
open Builtin renaming append_→L0,firstCells→Mg,lenOf→Mh
open Value renaming ownBlock→L5,slice→M3
open Value.slice renaming injEq→Me
open Obj.cells renaming injEq→Mz
open Result.ok renaming injEq→M2
variable{parts:Array (Nat×Ld)}{b eo:Bool}{f fy:Fl}{j:Int}{S p q Sy:List Nat}{vs xs ys:List La}{i len cap m k sz:Nat}{x:Ld}{r:Res}{s':St}{y:TV}{α:Type}{e':Lb}{v ve:La}{l:List α}
theorem Lc.add_add'(a:Lc)(m j:Nat):(a.add m).add j=a.add (m+j):=by
 grind[Lk]
def nS(w:Lf){b:Nat}{c:Array La}{e:Lb}{fr:Nat×Nat}(h:w.heap[b]? =K1 (.cells c e fr))(o j:Nat):w.cell? ((⟨b,o,K2⟩:Lc).add j)=c[o+j]? :=by
 grind[Lk,Lf.cell?]
variable {P:Program}{g:Vc}{W0:fF g}{w w':Lf}{X X':Nat->Prop}{B n:Nat}{own:Bool}{s:St}{F:Key->List Nat}{a:Act}{H:List Nat}{o:Li}{tg:Kd}{τ:Tab}{gh:Nat->La}
def Zte:∀{p:List Nat}{T:Ty}{x:T.den}{y:TV}{i:Nat},kd T x p=K1 y->kd T x (p++[i])=fld y.1 y.2 i/\(∀U,Zep y.1 i=K1 U->aB T (p++[i])=aB T p+mn y.1 i)
 |[],T,x,y,i,h=>by
  grind[kd,aB]
 |j::p,T,x,y,i,h=>by
  simp only[kd]at h;cases hz:fld T x j with
  |none=>simp_all
  |some z=>
   rw[hz]at h;obtain⟨a,b⟩:=Zte (i:=i) h
   grind[kd,aB,Zk8]
def Qii:∀{T:Ty}{x:T.den}{i:Nat}{U:Ty},Zep T i=K1 U-> ∃y,fld T x i=K1 ⟨U,y⟩:=by
 intro T
 induction T with
 |pair a b d c=>
  intro x i U h;cases i with
  |zero=>simp only[Zep,pB]at h;subst h;exact⟨x.1,rfl⟩
  |succ i=>exact c (x:=x.2) h
 |_=>intro x i U h;cases i<;>cases h
def TOK.fieldAt{e:Lb}{T U:Ty}(h:TOK P e T){i:Nat}(hU:Zep T i=K1 U)(ad:Lc)(w:Lf):(Mi e (.pointer (K1 ad)) i).run P w=.ok (.pointer (K1 (ad.add (mn T i)))) w:=by
 have hs:T.isStruct=true:=by cases T<;>first|rfl|(cases i<;>cases hU)
 obtain⟨g,k,a⟩:=h.struct hs;obtain⟨f,l,m,b,n⟩:=Z8f a hU;obtain⟨j,o,c,_⟩:=wn b;have d:¬j.size=0:=Aa
 simp_all[Mi,run_underlying,L2,fieldPlace,Lo,typeInfo]
def Zqf(τ:Tab)(s:St)(tg:Kd)(e:Lb)(x:Ld)(i:Nat):Option Res:=
 match τ e,op1 s tg x with
 |some T,.tm k (.box _ U _ _)=>match s.get (.m k),Le (T=U),Zep T i with
  |.box _ _ _ _,K3,K1 _=>K1 ⟨.ptr k [i],s,K4,K2⟩
  |_,_,_=>K2
 |some T,.tm _ (.ptr r p)=>match s.get (.m r)with
  |.box _ U _ y=>match kd U y p with
   |some z=>match Le (T=z.1),Zep T i with
    |true,K1 _=>K1 ⟨.ptr r (p++[i]),s,K4,K2⟩
    |_,_=>K2
   |none=>K2
  |_=>K2
 |some T,.tm _ (.shp U y)=>match Le (T=U),fld U y i with
  |true,K1 z=>K1 ⟨.shp z.1 z.2,s,K4,K2⟩
  |_,_=>K2
 |some T,.tm k (.elp r p j q)=>match ZS s (.tm k (.bor r p))with
  |some ⟨.slice _ t,_,_⟩=>match kd t (zero t) q with
   |some z=>match Le (T=z.1),Zep T i with
    |true,K1 _=>K1 ⟨.elp r p j (q++[i]),s,K4,K2⟩
    |_,_=>K2
   |none=>K2
  |_=>K2
 |_,_=>K2
def Zi7(h:R n W0 w X F H s a)(ht:tg.ok W0.gh a)(hτ:τ.ok P){e:Lb}(ho:o.op=.fieldAddr e x i)(hr:Zqf τ s tg e x i=K1 r):dz P τ W0 w X F s a o r:=by
 unfold Zqf at hr;have g:∀{A:Lc}{T U:Ty},τ e=K1 T->Zep T i=K1 U->a.eval x=.pointer (K1 A)-> ∀G,Dep W0.gh τ X s a o w G->(execOp a.eval o).run P G=.ok (.value (.pointer (K1 (A.add (mn T i))))) G:=by
  intro A T U m hU hx G _;simp only[execOp,ho,hx,Lj,(hτ _ _ m).fieldAt hU A G,Ll,Lm]
 split at hr
 ·rename_i T k e' U f y m hx;split at hr
  ·rename_i _ _ _ W U2 f2 y2 V I C J;simp only[pB]at hr;subst hr;have d:T=U:=pE C;subst d;obtain⟨rfl,b,c,S,v,K,L,h4⟩:=V0 h ht hx Ae;have hx:=(wh hx).2.2;simp only[I,Zds]at hx;cases hx;refine Jg rfl λ_=>⟨_,g m J v,rfl,_,_,_,_,b,S,I,K,?_⟩
   simp_all[aB,Lk]
  ·cases hr
 ·rename_i T k Y p m hx;split at hr
  ·rename_i W U f y I;split at hr
   ·rename_i z E;split at hr
    ·rename_i V C J;simp only[pB]at hr;subst hr;have d:T=z.1:=pE C;obtain⟨rfl,Z,e3,U3,f3,y3,b,S,v,K,L⟩:=V0 h ht hx Ae;rw[I]at v;cases v;refine Jg rfl λ_=>⟨_,g m J L,rfl,_,_,_,_,b,S,I,K,?_⟩
     rw[(Zte E).2 V Ac,d];simp_all[Lk]
    ·cases hr
   ·cases hr
  ·cases hr
 ·rename_i T k U y m hx;split at hr
  ·rename_i z C E;simp only[pB]at hr;subst hr;have d:T=U:=pE C;subst d;obtain⟨rfl,Z,A,vs,v,K,L,h4⟩:=V0 h ht hx Ae;have M:rdF w X W0.B T (.u K4) y vs []:=Ak
   obtain⟨pre,N,ab,S1,S2,S3,m1,m2,m3,m4,_⟩:=Zx8 E M;refine Jg rfl λ_=>⟨_,g m (Zk8 E) v,rfl,_,N,rfl,?_,?_,?_⟩
   ·grind[Lk]
   ·intro j u hj;rw[Lc.add_add',<-m3]
    grind
   simp_all[WQ,rdF]
  ·cases hr
 ·rename_i T k Y p j q m hx;split at hr
  ·rename_i W t f l hl;split at hr
   ·rename_i z E;split at hr
    ·rename_i V C J;simp only[pB]at hr;subst hr;have d:T=z.1:=pE C;obtain⟨rfl,Z,v⟩:=V0 h ht hx Ae;have D:s.bad Y p=false:=by
      grind[ZS]
     obtain⟨e3,t3,A,nn,O,k1,k2,k3,k4⟩:=v D;obtain⟨_,Q,_⟩:=Zbt h hl k1;cases Q;refine Jg rfl λ_=>⟨_,g m J k4,rfl,λ_=>⟨_,_,A,nn,O,k1,k2,k3,?_⟩⟩
     rw[Lc.add_add',(Zte E).2 V Ac,d,Nat.add_assoc]
    ·cases hr
   ·cases hr
  ·cases hr
 ·cases hr
def rb{α:Type}{r:α->List La->List Nat->Prop}:∀{l l':List α}{vs vs':List La}{S S':List Nat},eh r l vs S->eh r l' vs' S'->eh r (l++l') (vs++vs') (S++S')
 |[],_,_,_,_,_,⟨a,b⟩,h=>Ac
 |x::l,_,_,_,_,_,⟨c,d,e,f,a,b,g,i⟩,h=>⟨c,d++_,e,f++_,by simp[a],by simp[b],g,rb i h⟩
def Zji(s:St)(tg:Kd)(n:Nat)(t:Ty)(x i:Ld):Option Res:=
 let at' (r:Nat) (p:List Nat):Option Res:=match s.get (.m r),ze s (op1 s tg i)with
  |.box _ U _ y,K1 (_,j)=>match kd U y p with
   |some ⟨.arr n' t',_⟩=>match Le (n'=n/\t'=t)with
    |true=>K1 ⟨.aep r p j,s,K4,K1 (0<=j/\j<n)⟩
    |false=>K2
   |_=>K2
  |_,_=>K2
 match op1 s tg x with
 |.tm k (.box _ _ _ _)=>at' k []
 |.tm _ (.ptr r p)=>at' r p
 |_=>K2
def Zjh(τ:Tab)(s:St)(tg:Kd)(e:Lb)(x i:Ld):Option Res:=
 match τ e,Zkp s (op1 s tg x),ze s (op1 s tg i)with
 |some (.slice e' t'),K1 ⟨_,t,b,l⟩,K1 (_,j)=>match τ e',Le (t'=t),b,op1 s tg x with
  |some t2,K3,K4,_=>match Le (t2=t)||(Le (t=.hid t2)&&L4 t2.size 1)with
   |true=>K1 ⟨.shp t (l.getD j.toNat (zero t)),s,K4,K1 (0<=j/\j<l.length)⟩
   |false=>K2
  |some t2,K3,K3,.tm k (.val _ _ _)=>match Le (t2=t),s.get (.m k)with
   |true,.val _ _ _=>K1 ⟨.elp k [] j [],s,K4,K1 (0<=j/\j<l.length)⟩
   |_,_=>K2
  |some t2,K3,K3,.tm _ (.bor r p)=>match Le (t2=t)with
   |true=>K1 ⟨.elp r p j [],s,K4,K1 (0<=j/\j<l.length)⟩
   |false=>K2
  |_,_,_,_=>K2
 |_,_,_=>K2
def Zny(τ:Tab)(s:St)(tg:Kd)(e:Lb)(x i:Ld):Option Res:=
 match op1 s tg x with
 |.tm k (.bor r p)=>match ZS s (.tm k (.bor r p)),τ e,ze s (op1 s tg i)with
  |some ⟨.slice _ t,.p (.u K3) (.u K4),l⟩,K1 (.slice e' t'),K1 (_,j)=>match τ e',Le (t'=t)with
   |some t2,K3=>match Le (t2=t)with
    |true=>K1 ⟨.elp r p j [],s,K4,K1 (0<=j/\j<l.length)⟩
    |false=>K2
   |_,_=>K2
  |_,_,_=>K2
 |_=>K2
def WU(τ:Tab)(s:St)(tg:Kd)(e:Lb)(x i:Ld):Option Res:=
 match τ e with
 |some (.arr n t)=>Zji s tg n t x i
 |_=>match Zny τ s tg e x i with
  |some r=>K1 r
  |none=>Zjh τ s tg e x i
def Zwg{e:Lb}{t:Ty}{t2:Ty}(h:TOK P e (.slice e' t))(h':TOK P e' t2)(hsz:t2.size=t.size){ad:Lc}{k:IntKind}(h0:0<=j)(h1:j<len)(w:Lf):
  (L7 e (.slice (K1 ad) len cap) (.int k j)).run P w=.ok (.pointer (K1 (ad.add (j.toNat*t.size)))) w:=by
 simp only[L7,Lj,asIntOf,Lm,Ll,run_underlying h.slice.1];simp[h0,h1,h'.sizeOf w,hsz]
def Zql(h:R n W0 w X F H s a)(ht:tg.ok W0.gh a){e:Lb}{t:Ty}(hT:TOK P e (.arr m t)){i:Ld}(ho:o.op=.indexAddr e x i)(hr:Zji s tg m t x i=K1 r):dz P τ W0 w X F s a o r:=by
 have q:∀{k p},(∃u U f y b S,s.get (.m k)=.box u U f y/\F (.m k)=b::S/\a.eval x=.pointer (K1 ⟨b,aB U p,K2⟩))->
   (match s.get (.m k),ze s (op1 s tg i)with
    |.box _ U _ y,K1 (_,j)=>match kd U y p with
     |some ⟨.arr z g,_⟩=>match Le (z=m/\g=t)with
      |true=>K1 (⟨.aep k p j,s,K4,K1 (0<=j/\j<m)⟩:Res)
      |false=>K2
     |_=>K2
    |_,_=>K2)=K1 r->dz P τ W0 w X F s a o r:=by
  clear hr;intro k p ⟨u,U,f,y,b,S,v,hF,hx⟩ hr;rw[v]at hr;split at hr
  ·rename_i L M;cases L;rename_i ik j;have N:=gq h ht M;split at hr
   ·rename_i z g l O;split at hr
    ·rename_i Q;obtain⟨rfl,rfl⟩:=pE Q;simp only[pB]at hr;subst hr;refine Jg rfl λd=>?_;have d:0<=j/\j<z:=d;refine⟨.pointer (K1 ⟨b,aB U p+j.toNat*g.size,K2⟩),λw' _=>?_,rfl,u,U,f,y,b,S,z,g,l,v,hF,O,d.1,d.2,rfl⟩;obtain⟨_,A,V,hs⟩:=hT.arr;obtain⟨i2,W,Y,_⟩:=wn hs;have E:(⟨b,aB U p,K2⟩:Lc).add (j.toNat*g.size)=⟨b,aB U p+j.toNat*g.size,K2⟩:=by
      simp_all[Lk]
     simp only[execOp,ho,hx,N,Lj,L7,asIntOf,Lm,Ll,run_underlying V,L2];simp_all[Lo,typeInfo]
    ·cases hr
   ·cases hr
  ·cases hr
 unfold Zji at hr;simp only at hr;split at hr
 ·rename_i k u U f y hx;obtain⟨rfl,b,c,S,B,C,G,h4⟩:=V0 h ht hx Ae;refine q (p:=[]) ?_ hr;have D:∃A I J K,s.get (.m k)=.box A I J K:=by
   grind
  obtain⟨A,I,J,K,v⟩:=D;have hx:=(wh hx).2.2;simp only[v,Zds]at hx;cases hx;exact⟨u,U,f,y,b,S,v,C,B⟩
 ·rename_i k r' p hx;obtain⟨rfl,h0,Z,U3,f3,y3,b,S,B,C,G⟩:=V0 h ht hx Ae;exact q ⟨Z,U3,f3,y3,b,S,B,C,G⟩ hr
 ·cases hr
theorem Zqk(h:R n W0 w X F H s a)(ht:tg.ok W0.gh a)(hτ:τ.ok P){e:Lb}{i:Ld}(ho:o.op=.indexAddr e x i)(hr:Zjh τ s tg e x i=K1 r):dz P τ W0 w X F s a o r:=by
 unfold Zjh at hr;split at hr
 ·rename_i e' t' e2 t b l k j hT g hj;have e3:=gq h ht hj;obtain⟨v,xs,S,S2,hv,V,k2,k3⟩:=WZ h ht g;have m:=fI V;have y:∀{C},τ e'=K1 C->t'=t->C.size=t.size->0<=j/\j<l.length-> ∃d c,a.eval x=.slice (K1 d) l.length c/\(X d.block\/d.block∈S)/\(∀j u,xs[j]? =K1 u->w.cell? (d.add j)=K1 u)/\
    ∀D,Dep W0.gh τ X s a o w D->(execOp a.eval o).run P D=.ok (.value (.pointer (K1 (d.add (j.toNat*t.size))))) D:=by
   intro C z h2 h3 W;subst h2;obtain⟨am,c,E,_,_,K⟩:=m;rcases K with⟨_,ar,_⟩|⟨d,rfl,L,K⟩
   ·omega
   ·refine⟨d,c,hv.trans E,L.resolve_left Aa,K,λD _=>?_⟩;simp only[execOp,ho,hv,E,e3,Lj,Zwg (hτ _ _ hT) (hτ _ _ z) h3 W.1 W.2 D,Ll,Lm]
  split at hr
  ·rename_i C z G;split at hr
   ·rename_i hd2;simp only[pB]at hr;subst hr;refine Jg rfl λf=>?_;have f:0<=j/\j<l.length:=f;obtain⟨d,c,Y,M,Z,I⟩:=y z (pE G) (by
     rcases(Bool.or_eq_true _ _).mp hd2 with hd2|hd2
     ·simp_all
     ·simp only[pC,decide_eq_true_eq]at hd2;rw[hd2.1,pD hd2.2];rfl) f
    obtain⟨pre,N,ab,T1,T2,T3,m1,m2,m3,m4,_⟩:=yz (λ_ _ _ h=>Jx h) (i:=j.toNat) Aa k2;refine⟨_,I,rfl,_,N,rfl,?_,?_,?_⟩
    ·have:(d.add (j.toNat*t.size)).block=d.block:=by grind[Lk]
     rw[this];refine M.resolve_right ?_;rw[show S=[]from V.1];simp
    ·intro q u hq;rw[Lc.add_add',<-m3]
     grind
    grind[mI]
   ·cases hr
  ·rename_i C k' T3 f3 x3 z G hx;split at hr
   ·rename_i T4 O x4 hd2 hg;simp only[pB]at hr;subst hr;refine Jg rfl λf=>?_;have f:0<=j/\j<l.length:=f;obtain⟨d,c,Y,M,Z,I⟩:=y z (pE G) (congrArg Ty.size (pE hd2)) f;obtain⟨rfl,_⟩:=V0 h ht hx Ae;have au:=hx;have a0:=(wh hx).2.1;have hx:=(wh hx).2.2;simp only[hg,Zds]at hx;cases hx;have Q:∃J,T3=.slice J t:=by
     unfold Zkp at g;split at g
     ·rename_i J t4 b4 l4 hk;simp only[pB,Lu]at g;obtain⟨rfl,g⟩:=g;simp only[heq_eq_eq,Lu]at g;obtain⟨rfl,g⟩:=g
      grind[ZS]
     ·cases g
    obtain⟨J,rfl⟩:=Q;refine⟨_,I,rfl,λ_=>⟨J,t,d,l.length,c,?_,f.1,f.2,by simp[aB]⟩⟩;simp_all[Yv,Jf]
   ·cases hr
  ·rename_i C k' r' p z G hx;split at hr
   ·rename_i hd2;simp only[pB]at hr;subst hr;refine Jg rfl λf=>?_;have f:0<=j/\j<l.length:=f;obtain⟨d,c,Y,M,Z,I⟩:=y z (pE G) (congrArg Ty.size (pE hd2)) f;obtain⟨rfl,h0,L⟩:=V0 h ht hx Ae;refine⟨_,I,rfl,λA=>?_⟩;obtain⟨U,hU⟩:=L A;have B:∃O,ZS s (.tm k' (.bor r' p))=K1 ⟨.slice e2 t,O,l⟩:=by
     grind[Zkp]
    obtain⟨O,B⟩:=B;obtain⟨_,a1,_⟩:=Zbt h B hU
    grind[aB]
   ·cases hr
  ·cases hr
 ·cases hr
theorem Z5u(b:Bool):∀q:List Nat,mW (.u b) q=.u b
 |[]=>rfl
 |i::q=>by
  have:WQ (.u b) i=.u b:=by cases i<;>rfl
  rw[mW,this];exact Z5u b q
def Zx2(τ:Tab)(s:St)(tg:Kd)(e:Lb)(x:Ld):Option Res:=
 match τ e with
 |none=>K2
 |some T=>
  let fromBox (r:Nat) (p:List Nat):Option Res:=match s.get (.m r)with
   |.box _ U f y=>match kd U y p with
    |some z=>match(mW f p).live,Le (z.1=T)with
     |true,K3=>match so (mW f p) z.1 with
      |true=>K1 ⟨.val z.1 (mW f p) z.2,s,K4,K2⟩
      |false=>K1 ⟨.bor r p,s,K4,K2⟩
     |_,_=>K2
    |none=>K2
   |_=>K2
  match op1 s tg x with
  |.tm k (.box _ _ _ _)=>fromBox k []
  |.tm _ (.ptr r p)=>fromBox r p
  |.tm _ (.shp U y)=>match Le (U=T)with
   |true=>K1 ⟨.val U (.u K4) y,s,K4,K2⟩
   |false=>K2
  |.tm _ (.aep r p i)=>match s.get (.m r)with
   |.box _ U f y=>match kd U y p with
    |some ⟨.arr _ t,l⟩=>match(mW f p).live,Le (t=T),t.flat with
     |true,K3,K3=>K1 ⟨.val t (.u K4) (l.getD i.toNat (zero t)),s,K4,K2⟩
     |_,_,_=>K2
    |_=>K2
   |_=>K2
  |.tm k (.elp r p j q)=>match ZS s (.tm k (.bor r p))with
   |some ⟨.slice _ t,.u b,l⟩=>match kd t (l.getD j.toNat (zero t)) q with
    |some z=>match Le (z.1=T),z.1.flat,b with
     |true,K3,_=>K1 ⟨.val z.1 (.u K4) z.2,s,K4,K2⟩
     |true,K4,K3=>K1 ⟨.bel r p j q,s,K4,K2⟩
     |_,_,_=>K2
    |none=>K2
   |some ⟨.slice _ t,.p (.u K3) (.u K4),l⟩=>match kd t (l.getD j.toNat (zero t)) q with
    |some z=>match Le (z.1=T)with
     |true=>K1 ⟨.val z.1 (.u K4) z.2,s,K4,K2⟩
     |false=>K2
    |none=>K2
   |_=>K2
  |_=>K2
def Znc(h:R n W0 w X F H s a)(ht:tg.ok W0.gh a)(hτ:τ.ok P){e:Lb}(ho:o.op=.load e x)(hr:Zx2 τ s tg e x=K1 r):dz P τ W0 w X F s a o r:=by
 unfold Zx2 at hr;split at hr
 ·cases hr
 ·rename_i T hT;have M:∀{N:Lc}{vs:List La},a.eval x=.pointer (K1 N)->vs.length=T.size->(∀C,Dep W0.gh τ X s a o w C-> ∀j u,vs[j]? =K1 u->C.cell? (N.add j)=K1 u)-> ∀C,Dep W0.gh τ X s a o w C->(execOp a.eval o).run P C=.ok (.value (Jd T vs)) C:=by
   intro N vs hx hl Y C a5;simp only[execOp,ho,hx,Lj,Instr.loadAt,L2,Lm,Ll,(hτ _ _ hT).load hl (Y C a5)]
  have G:∀{C},Dep W0.gh τ X s a o w C->match Zcc s (.load e x)with
    |some (K1 r)=> ∀b,b<w.heap.size->Xj W0.gh a (.m r)=.pointer (K1 ⟨b,0,K2⟩)->C.heap[b]? =w.heap[b]?
    |some K2=> ∀b,b<w.heap.size->X b->C.heap[b]? =w.heap[b]?
    |none=>Old w C:=λ{C} g=>by
   have:=g (by rw[ho];rfl)
   grind
  have a2:∀{k p},Zcc s (.load e x)=K1 (K1 k)->(∃e' U f y b S,s.get (.m k)=.box e' U f y/\F (.m k)=b::S/\a.eval x=.pointer (K1 ⟨b,aB U p,K2⟩))->
    (match s.get (.m k)with
     |.box _ U f y=>match kd U y p with
      |some z=>match(mW f p).live,Le (z.1=T)with
       |true,K3=>match so (mW f p) z.1 with
        |true=>K1 (⟨.val z.1 (mW f p) z.2,s,K4,K2⟩:Res)
        |false=>K1 ⟨.bor k p,s,K4,K2⟩
       |_,_=>K2
      |none=>K2
     |_=>K2)=K1 r->dz P τ W0 w X F s a o r:=by
   intro k p hdr ⟨e',U,f,y,b,S,hg,hF,hx⟩ hr;rw[hg]at hr;simp only at hr;have hs:=h.slots (.m k);rw[hg]at hs;obtain⟨b',c,S',l1,l2,l3,l4⟩:=hs;rw[hF]at l2;obtain⟨rfl,rfl⟩:=Ls l2;split at hr
   ·rename_i z O;obtain⟨pre,D,L,S1,S2,S3,Z,m2,m3,m4,_⟩:=jz O l4;split at hr
    ·rename_i Q g;have E:z.1=T:=pE g;have I:∀j u,D[j]? =K1 u->w.cell? ((⟨b,aB U p,K2⟩:Lc).add j)=K1 u:=by
      intro j u hj;rw[nS w l3,<-Array.getElem?_toList,Z,<-m3,Lq Aa,show pre.length+j-pre.length=j from by omega,Lp (Lz.1 hj).1];exact hj
     have ab:=M hx (by rw[K0 m4,E]) (λC g j u hj=>by
      have g:=G g;rw[hdr]at g;rw[Mf (w:=w) (by
       have hb:((⟨b,aB U p,K2⟩:Lc).add j).block=b:=by unfold Lk;split<;>rfl
       grind)]
      grind)
     split at hr
     ·rename_i hn;simp only[pB]at hr;subst hr;have:=kK hn m4;subst this;exact Jg rfl λ_=>⟨_,ab,D,by rw[E],m4⟩
     ·simp only[pB]at hr;subst hr;refine Jg rfl λ_=>⟨_,ab,rfl,λ_=>⟨z.1,?_⟩⟩
      unfold Yv;rw[hg];exact⟨b,c,S,z,hF,l3,O,rfl,Az⟩
    ·cases hr
   ·cases hr
  simp only at hr;split at hr
  ·rename_i k e' U f y hx;obtain⟨rfl,b,c,S,V,h2,h3,h4⟩:=V0 h ht hx Ae;refine a2 (p:=[]) (qx hx Ae) ?_ hr;cases hg:s.get (.m k)<;>rw[hg]at hr<;>simp only at hr<;>first|cases hr|skip
   have hx:=(wh hx).2.2;simp only[hg,Zds]at hx;cases hx;exact⟨e',U,f,y,b,S,rfl,h2,V⟩
  ·rename_i k r' p hx;obtain⟨rfl,h0,e3,U3,f3,y3,b,S,V,h2,h3⟩:=V0 h ht hx Ae;exact a2 (qx hx Ae) ⟨e3,U3,f3,y3,b,S,V,h2,h3⟩ hr
  ·rename_i k U y hx;obtain⟨rfl,h0,N,vs,V,h2,h3,h4⟩:=V0 h ht hx Ae;split at hr
   ·rename_i g;simp only[pB]at hr;subst hr;have hU:U=T:=pE g;subst hU;refine Jg rfl λ_=>⟨_,M V (Jx h4) (λC g j u hj=>?_),vs,rfl,Av⟩
    have g:=G g;have hdr:Zcc s (.load e (.tmp k))=K1 none:=qx hx Ae;rw[hdr]at g;rw[Mf (w:=w) (by
     have hb:(N.add j).block=N.block:=by grind[Lk]
     rw[hb];exact g _ (h.xlt _ h2) h2)]
    exact h3 j u hj
   ·cases hr
  ·rename_i k r' p i hx;obtain⟨rfl,h0,e3,U3,f3,y3,b,S,nn,t3,z3,V,h2,h3,h4,h5,h6⟩:=V0 h ht hx Ae;rw[V]at hr;simp only[h3]at hr;split at hr
   ·rename_i Q g a3;simp only[pB]at hr;subst hr;have E:t3=T:=pE g;subst E;have hs:=h.slots (.m r');rw[V]at hs;obtain⟨b',c,S',l1,l2,l3,l4⟩:=hs;rw[h2]at l2;obtain⟨rfl,rfl⟩:=Ls l2;obtain⟨pre,D,L,S1,S2,S3,Z,m2,m3,m4,_⟩:=jz h3 l4;have m5:=Vo (X':=λb=>X b\/b∈S2) (λ_ h=>.inl h) Q m4 (λ_ h=>.inr h);obtain⟨am,ar⟩:=m5;have am:z3.length=nn:=am;have a6:i.toNat<z3.length:=Aa
    obtain⟨d,A,J,T1,T2,T3,n1,n2,n3,n4,_⟩:=yz (λ_ _ _ h=>Jx h) a6 ar;have e4:z3.getD i.toNat (zero t3)=z3[i.toNat]:=Ag
    have I:∀j u,A[j]? =K1 u->w.cell? ((⟨b,aB U3 p+i.toNat*t3.size,K2⟩:Lc).add j)=K1 u:=by
     intro j u hj;have bc:=(Lz.1 hj).1;rw[nS w l3,<-Array.getElem?_toList,Z,n1,<-m3,<-n3];rw[Lq Aa,Lp Af,Lq Aa,Lp Aa]
     grind
    refine Jg rfl λ_=>⟨_,M h6 (Jx n4) (λC g j u hj=>?_),A,rfl,?_⟩
    ·have g:=G g;rw[qx hx Ae]at g;rw[Mf (w:=w) (by
      have hb:((⟨b,aB U3 p+i.toNat*t3.size,K2⟩:Lc).add j).block=b:=by grind[Lk]
      rw[hb];exact g b (Array.getElem?_eq_some_iff.1 l3).1 l1)]
     grind
    grind[rdF,iU]
   ·cases hr
  ·rename_i k r' p j q hx;obtain⟨rfl,h0,V⟩:=V0 h ht hx Ae;split at hr
   ·rename_i e2 t b l hl;have K:s.bad r' p=false:=by
     grind[ZS]
    obtain⟨e3,t3,N,nn,au,k1,k2,k3,k4⟩:=V K;obtain⟨_,a1,_,vs,S,g1,g2,g3⟩:=Zbt h hl k1;cases a1;unfold rdF at g2;obtain⟨v,xs,S1,S2,rfl,rfl,q1,q2⟩:=g2;have g1:M3 (K1 N) nn au=v:=g1;subst g1;obtain⟨a0,a4,hv,a7,_,Y⟩:=fI q1;simp only[Me]at hv;obtain⟨rfl,rfl,rfl⟩:=hv;rcases Y with⟨e0,_⟩|⟨a8,e0,_,Y⟩
    ·cases e0
    ·simp only[pB]at e0;subst e0;split at hr
     ·rename_i z O;split at hr
      ·rename_i g a3 _;simp only[pB]at hr;subst hr;have E:z.1=T:=pE g;obtain⟨pre,D,L,T1,T2,T3,Z,m2,m3,m4,_⟩:=yz (λ_ _ _ h=>Jx h) (i:=j.toNat) Aa q2;have e4:l.getD j.toNat (zero t)=l[j.toNat]' Aa:=Ag
       rw[e4]at O;have mk:∀{own:Bool},rd w X W0.B own t l[j.toNat] D T2->rdF w X W0.B t (.u own) l[j.toNat] D T2:=λh=>Av
       have W:=mk m4;obtain⟨d,A,J,U1,U2,U3,n1,n2,n3,n4,_⟩:=jz O W;refine Jg rfl λ_=>⟨_,M k4 (vs:=A) Az ?_,A,by rw[E],?_⟩
       ·intro C g i u hi;have g:=G g;rw[qx hx Ae]at g;refine Old.cell (show Old w C from g) ?_;rw[Lc.add_add',<-m3,<-n3];apply Y;have hm:=(Lz.1 hi).1;rw[Z,Lq Aa,show pre.length+d.length+i-pre.length=d.length+i from by omega,
         Lp Ag,n1,Lq Aa,show d.length+i-d.length=i from by omega,Lp hm]
        exact hi
       grind[Z5u,rdF,iU]
      ·rename_i g a3 _;simp only[pB]at hr;subst hr;have E:z.1=T:=pE g;have bb:=O;obtain⟨pre,D,L,T1,T2,T3,Z,m2,m3,m4,_⟩:=yz (λ_ _ _ h=>Jx h) (i:=j.toNat) Aa q2;have e4:l.getD j.toNat (zero t)=l[j.toNat]' Aa:=Ag
       rw[e4]at O;have W:rdF w X W0.B t (.u K3) l[j.toNat] D T2:=Av
       obtain⟨d,A,J,U1,U2,U3,n1,n2,n3,n4,_⟩:=jz O W;have I:∀(i:Nat) u,A[i]? =K1 u->w.cell? (N.add (j.toNat*t.size+aB t q+i))=K1 u:=λi u hi=>by
        rw[<-m3,<-n3];apply Y;have hm:=(Lz.1 hi).1;rw[Z,Lq Aa,show pre.length+d.length+i-pre.length=d.length+i from by omega,
         Lp Ag,n1,Lq Aa,show d.length+i-d.length=i from by omega,Lp hm]
        exact hi
       refine Jg rfl λ_=>⟨_,M k4 (vs:=A) Az ?_,rfl,λ_ _=>⟨_,t,N,_,_,_,z,A,k1,k2,k3,g3 _ ?_,bb,by rw[E],K0 n4,I⟩⟩
       ·intro C g i u hi;have g:=G g;rw[qx hx Ae]at g;refine Old.cell (show Old w C from g) ?_
        grind[Lc.add_add']
       ·rw[q1.2];simp[L5]
      ·cases hr
     ·cases hr
   ·rename_i e2 t l hl;have K:s.bad r' p=false:=by
     grind[ZS]
    obtain⟨e3,t3,N,nn,au,k1,k2,k3,k4⟩:=V K;obtain⟨_,a1,_,vs,S,g1,g2,g3⟩:=Zbt h hl k1;cases a1;obtain⟨v,xs,rfl,q1,q2⟩:=g2;have g1:M3 (K1 N) nn au=v:=g1;subst g1;obtain⟨a0,a4,hv,a7,_,Y⟩:=fI q1;simp only[Me]at hv;obtain⟨rfl,rfl,rfl⟩:=hv;rcases Y with⟨e0,_⟩|⟨a8,e0,_,Y⟩
    ·cases e0
    ·simp only[pB]at e0;subst e0;split at hr
     ·rename_i z O;split at hr
      ·rename_i g;simp only[pB]at hr;subst hr;have E:z.1=T:=pE g;obtain⟨pre,D,L,T1,T2,T3,Z,m2,m3,m4,_⟩:=yz (λ_ _ _ h=>Jx h) (i:=j.toNat) Aa q2;have e4:l.getD j.toNat (zero t)=l[j.toNat]' Aa:=Ag
       rw[e4]at O;have W:rdF w X W0.B t (.u K4) l[j.toNat] D T2:=Av
       obtain⟨d,A,J,U1,U2,U3,n1,n2,n3,n4,_⟩:=jz O W;refine Jg rfl λ_=>⟨_,M k4 (vs:=A) Az ?_,A,by rw[E],?_⟩
       ·intro C g i u hi;have g:=G g;rw[qx hx Ae]at g;refine Old.cell (show Old w C from g) ?_;rw[Lc.add_add',<-m3,<-n3];apply Y;have hm:=(Lz.1 hi).1;rw[Z,Lq Aa,show pre.length+d.length+i-pre.length=d.length+i from by omega,
         Lp Ag,n1,Lq Aa,show d.length+i-d.length=i from by omega,Lp hm]
        exact hi
       ·rw[Z5u]at n4;have:=kK (f:=.u K4) rfl n4
        grind
      ·cases hr
     ·cases hr
   ·cases hr
  ·cases hr
theorem Zti(h:R n W0 w X F H s a)(ht:tg.ok W0.gh a)(hτ:τ.ok P){e:Lb}{i:Ld}(ho:o.op=.indexAddr e x i)(hr:Zny τ s tg e x i=K1 r):dz P τ W0 w X F s a o r:=by
 unfold Zny at hr;split at hr
 ·rename_i k B p hx;split at hr
  ·rename_i C t l V W Y j D E G;have I:=gq h ht G;split at hr
   ·rename_i u J g;split at hr
    ·rename_i b;simp only[pB]at hr;subst hr;have g:=pE g;have b:=pE b;subst g b;refine Jg rfl λd=>?_;have d:0<=j/\j<l.length:=d;obtain⟨rfl,Z,y⟩:=V0 h ht hx Ae;have c:s.bad B p=false:=by
      grind[ZS]
     obtain⟨U,K⟩:=y c;obtain⟨_,m,_,vs,S,q,L,g3⟩:=Zbt h D K;subst m;obtain⟨v,xs,rfl,M,q2⟩:=L;have q:a.eval (.tmp k)=v:=q;obtain⟨a0,f,hv,N,_,z⟩:=fI M;rcases z with⟨_,O,_⟩|⟨A,rfl,y,z⟩
     ·omega
     ·refine⟨.pointer (K1 (A.add (j.toNat*u.size))),λQ _=>?_,rfl,λ_=>⟨C,u,A,l.length,f,?_,d.1,d.2,by simp[aB]⟩⟩
      ·simp only[execOp,ho,q,hv,I,Lj,Zwg (hτ _ _ E) (hτ _ _ J) rfl d.1 d.2 Q,Ll,Lm]
      grind
    ·cases hr
   ·cases hr
  ·cases hr
 ·cases hr
def Za4(h:R n W0 w X F H s a)(ht:tg.ok W0.gh a)(hτ:τ.ok P){e:Lb}{i:Ld}(ho:o.op=.indexAddr e x i)(hr:WU τ s tg e x i=K1 r):dz P τ W0 w X F s a o r:=by
 unfold WU at hr;split at hr
 ·rename_i n t b;exact Zql h ht (hτ _ _ b) ho hr
 grind[Zti,Zqk]
def Zzv(s:St)(o:Op1):Option ((T:Ty)×T.den×St):=
 match ZS s o with
 |some ⟨T,f,x⟩=>match so f T with
  |true=>K1 ⟨T,x,s⟩
  |false=>match o with
   |.tm k (.val _ _ _)=>match s.get (.m k)with
    |.val U _ y=>K1 ⟨T,x,bY s k (.val U (.u K4) y)⟩
    |_=>K2
   |.tm _ (.bor r [])=>match s.get (.m r)with
    |.val U _ y=>K1 ⟨T,x,bY s r (.val U (.u K4) y)⟩
    |_=>K2
   |_=>K2
 |none=>K2
def shA(s:St)(o:Op1):Bool:=match ZS s o with
 |some ⟨T,f,_⟩=>so f T
 |none=>K4
def Z8j{s:St}{o:Op1}{T:Ty}{y:T.den}(hk:Zzv s o=K1 ⟨T,y,s'⟩)(h:shA s o=K3):s'=s:=by
 unfold Zzv at hk;unfold shA at h
 grind
def R.freezeM(hs:g.soft=K4)(h:R n W0 w X F H s a){T:Ty}{x:T.den}(hg:s.get (.m k)=.val T f x)(hf:f.live=K3):
  R n W0 w (λb=>X b\/b∈F (.m k)) (Xm F (.m k) []) H (bY s k (.val T (.u K4) x)) a/\ ∃vs,Xj W0.gh a (.m k)=Jd T vs/\rd w (λb=>X b\/b∈F (.m k)) W0.B K4 T x vs []:=by
 have hs:=h.slots (.m k);rw[hg]at hs;obtain⟨vs,Z,h2⟩:=hs;have ab:rd w (λb=>X b\/b∈F (.m k)) W0.B K4 T x vs []:=Vo (λ_ h=>.inl h) hf h2 (λ_ h=>.inr h);have V:=R.give hs (h.takeM hg);have e1:Xm (Xm F (.m k) []) (.m k) []=Xm F (.m k) []:=Ag
 have N:=V.turn (r:=k) (t:=.val T (.u K4) x) (S':=[]) (H':=H) V.below (Lx _) (λ_ _=>rfl) (λ_ _ _ _=>rfl) (by simp[Xm]) (by simpa using h.pK)
  (by rw[Vr];simp) (λe T f x b S hb=>Ag) ⟨vs,Z,Ak⟩
 rw[e1]at N;have h5:R n W0 w (λb=>X b\/b∈F (.m k)) (Xm F (.m k) []) H (bY s k (.val T (.u K4) x)) a:=
  {N with
   pM:=λd i A=>by
    obtain⟨o,C⟩:=N.pM d i Ar;simp_all[Vr]
   slots:=λj=>by
    have c:=N.slots j;have e2:(bY (bY s k .pR) k (.val T (.u K4) x)).get j=(bY s k (.val T (.u K4) x)).get j:=Ar
    rw[e2]at c;have L:∀r,(bY s k (.val T (.u K4) x)).pN r=K4->(bY (bY s k .pR) k (.val T (.u K4) x)).pN r=false:=λr A=>by
     simp_all[bY,St.pN]
    generalize (bY s k (.val T (.u K4) x)).get j=u at c
    induction u with
    |bor r p=>
     refine⟨c.1,λA=>?_⟩;obtain⟨U,W⟩:=c.2 (Zdu L A);refine⟨U,?_⟩
     grind[Yv,Vr]
    |elp r p i q=>
     refine⟨c.1,λA=>?_⟩;obtain⟨e,t,O,M,E,W,z⟩:=c.2 (Zdu L A);refine⟨e,t,O,M,E,?_,z⟩
     grind[Yv,Vr]
    |bel r p i q=>
     refine⟨c.1,λA he=>?_⟩;obtain⟨e,t,O,M,E,x0,y,cs,W,z⟩:=c.2 (Zdu L A) (L _ he);refine⟨e,t,O,M,E,x0,y,cs,?_,z⟩
     grind[Yv,Vr]
    |cl f l=>
     refine⟨c.1,Ziz (λr p v P=>?_) c.2⟩;obtain⟨e,G,I,J,b,S',o,C,D⟩:=P;have K:(bY (bY s k .pR) k (.val T (.u K4) x)).get (.m r)=(bY s k (.val T (.u K4) x)).get (.m r):=Ar
     rw[K]at o;exact⟨e,G,I,J,b,S',o,C,D⟩
    |ptr r p=>
     obtain⟨Q,e,G,I,J,b,S',o,C,D⟩:=c;have K:(bY (bY s k .pR) k (.val T (.u K4) x)).get (.m r)=(bY s k (.val T (.u K4) x)).get (.m r):=Ar
     rw[K]at o;exact⟨Q,e,G,I,J,b,S',o,C,D⟩
    |aep r p i=>
     obtain⟨Q,e,G,I,J,b,S',M,t2,y2,o,C,D⟩:=c;have K:(bY (bY s k .pR) k (.val T (.u K4) x)).get (.m r)=(bY s k (.val T (.u K4) x)).get (.m r):=Ar
     rw[K]at o;exact⟨Q,e,G,I,J,b,S',M,t2,y2,o,C,D⟩
    |pls hh l=>
     refine⟨c.1,KF (λ_ h=>h) (λ_ _=>rfl) (λr p v P=>?_) c.2⟩;obtain⟨e,G,I,J,b,S',o,C,D⟩:=P;have K:(bY (bY s k .pR) k (.val T (.u K4) x)).get (.m r)=(bY s k (.val T (.u K4) x)).get (.m r):=Ar
     rw[K]at o;exact⟨e,G,I,J,b,S',o,C,D⟩
    |gd g Y t ih=>
     intro A;obtain⟨o,C,D⟩:=c (L _ A)
     grind[Vr]
    |pR=>exact c
    |tup=>exact c
    |val T f x=>exact c
    |box e T f x=>exact c
    |shp T x=>exact c}
 grind
def Z51(hs:g.soft=K4)(h:R n W0 w X F H s a)(ht:tg.ok W0.gh a){T:Ty}{y:T.den}(hk:Zzv s (op1 s tg x)=K1 ⟨T,y,s'⟩):
  ∃X' F' vs,(∀b,X b->X' b)/\a.eval x=Jd T vs/\rd w X' W0.B K4 T y vs []/\R n W0 w X' F' H s' a:=by
 unfold Zzv at hk;split at hk
 ·rename_i E f G c;obtain⟨j,vs,S,p,o,I⟩:=lJ h ht c;split at hk
  ·rename_i q;simp only[pB,Lu]at hk;obtain⟨rfl,hk⟩:=hk;simp only[heq_eq_eq,pF]at hk;obtain⟨rfl,rfl⟩:=hk;have:=kK q o;subst this;exact⟨X,F,vs,λ_ h=>h,p,Vo (λ_ h=>h) j o Ae,h⟩
  ·generalize d:op1 s tg x=o1 at hk c;split at hk
   ·rename_i k J K L;split at hk
    ·rename_i U t u i;simp only[pB,Lu]at hk;obtain⟨rfl,hk⟩:=hk;simp only[heq_eq_eq,pF]at hk;obtain⟨rfl,rfl⟩:=hk;obtain⟨rfl,_⟩:=V0 h ht d Ae;have v:=(wh d).2.1;have d:=(wh d).2.2;simp only[i,Zds]at d;cases d;simp only[ZS]at c;split at c
     ·simp only[pB,Lu]at c;obtain⟨rfl,c⟩:=c;simp only[heq_eq_eq,pF]at c;obtain⟨rfl,rfl⟩:=c;obtain⟨z,l,A,C⟩:=R.freezeM hs h i j
      grind[Jf]
     ·cases c
    ·cases hk
   ·rename_i k r;obtain⟨_,M,D⟩:=V0 h ht d Ae;split at hk
    ·rename_i U t u i;simp only[pB,Lu]at hk;obtain⟨rfl,hk⟩:=hk;simp only[heq_eq_eq,pF]at hk;obtain⟨rfl,rfl⟩:=hk;simp only[ZS,i]at c;split at c
     ·cases c
     ·rename_i e;obtain⟨N,m⟩:=D e;unfold Yv at m;rw[i]at m;obtain⟨_,_,hv⟩:=m;split at c
      ·simp only[pB,Lu]at c;obtain⟨rfl,c⟩:=c;simp only[heq_eq_eq,pF]at c;obtain⟨rfl,rfl⟩:=c;obtain⟨z,l,A,C⟩:=R.freezeM hs h i j
       grind
      ·cases c
    ·cases hk
   ·cases hk
 ·cases hk
def Qhg(u:List UInt8)(i j:Nat):(ByteArray.mk ⟨u⟩).extract i j=⟨⟨(u.drop i).take (j-i)⟩⟩:=by
 apply ByteArray.ext;simp_all
def Zk3(s:St)(tg:Kd)(x:Option Ld)(d:Int):Option Int:=
 match x with
 |none=>K1 d
 |some x=>match ze s (op1 s tg x)with
  |some (_,j)=>K1 j
  |none=>K2
def Z1v(τ:Tab)(s:St)(tg:Kd)(e:Lb)(x:Ld)(lo hi:Option Ld):Option Res:=
 match τ e with
 |some .str=>match cT s (op1 s tg x) .str with
  |some u=>match Zk3 s tg lo 0,Zk3 s tg hi (u.length:Int)with
   |some i,K1 j=>K1 ⟨.val .str (.u K4) ((u.drop i.toNat).take (j.toNat-i.toNat)),s,K4,K1 (0<=i/\i<=j/\j<=u.length)⟩
   |_,_=>K2
  |none=>K2
 |some (.slice e' t')=>match Zzv s (op1 s tg x)with
  |some ⟨.slice e2 t,l,s'⟩=>match Zk3 s tg lo 0,Zk3 s tg hi (l.length:Int),Le (t'=t),τ e' with
   |some i,K1 j,K3,K1 t2=>match Le (t2=t)with
    |true=>K1 ⟨.val (.slice e2 t) (.u K4) ((l.drop i.toNat).take (j.toNat-i.toNat)),s',!shA s (op1 s tg x),K1 (0<=i/\i<=j/\j<=l.length)⟩
    |false=>K2
   |_,_,_,_=>K2
  |_=>K2
 |_=>K2
def KM(h:R n W0 w X F H s a)(ht:tg.ok W0.gh a){x:Option Ld}{d:Int}(hb:Zk3 s tg x d=K1 j):(x=K2/\j=d)\/ ∃y k,x=K1 y/\a.eval y=.int k j:=by
 unfold Zk3 at hb;split at hb
 ·simp_all
 ·rename_i y;split at hb
  ·rename_i k i hk;simp only[pB]at hb;subst hb;exact .inr ⟨y,k,rfl,gq h ht hk⟩
  ·cases hb
def Zyx(isS:Bool)(hlc:len<=cap){lo hi:Option La}{i:Int}(h0:0<=i)(h1:i<=j)(h2:j<=len)
  (hl:(lo=K2/\i=0)\/ ∃k,lo=K1 (.int k i)) (hh:(hi=K2/\j=len)\/ ∃k,hi=K1 (.int k j)) (w:Lf):
  (L1 isS len cap lo hi K2).run P w=.ok (i.toNat,j.toNat,cap) w:=by
 rcases hl with⟨rfl,rfl⟩|⟨b,rfl⟩<;>rcases hh with⟨rfl,rfl⟩|⟨c,rfl⟩
 ·rfl
 ·have:j<=(cap:Int):=Aa
  simp_all[L1,L8,asIntOf]
 ·simp_all[L1,L8,asIntOf]
 ·have:j<=(cap:Int):=Aa
  have a:0<=j:=Aa
  simp[L1,L8,asIntOf,a,this,h0];intro hh;omega
def Qb9{r:α->List La->List Nat->Prop}(hr:∀x v S,r x v S->v.length=sz/\S=[]){j:Nat}(hij:i<=j)(hj:j<=l.length)
  (h:eh r l vs S):∃pre mid post,vs=pre++(mid++post)/\pre.length=i*sz/\eh r ((l.drop i).take (j-i)) mid []/\mid.length=(j-i)*sz:=by
 have split:∀{b c:List α}{vs:List La}{S:List Nat},eh r (b++c) vs S-> ∃a d,vs=a++d/\eh r b a []/\eh r c d []:=by
  intro b
  induction b with
  |nil=>
   intro c vs S h;have:S=[]:=(px (r':=λ_ _ _=>True) (λx v S h=>⟨(hr x v S h).2,trivial⟩) h).1;subst this;exact⟨[],vs,rfl,⟨rfl,rfl⟩,h⟩
  |cons x b o=>
   intro c vs S ⟨a,d,S1,S2,e1,e2,h1,k⟩;obtain⟨u1,u2,rfl,f,g⟩:=o k;have:=(hr _ _ _ h1).2;subst this;exact⟨a++u1,u2,by simp[e1],⟨a,u1,[],[],rfl,rfl,h1,f⟩,g⟩
 have e:l=l.take i++((l.drop i).take (j-i)++l.drop j):=by
  have k:l.drop j=(l.drop i).drop (j-i):=Ac
  grind[Mu]
 rw[e]at h;obtain⟨a,d,rfl,f,g⟩:=split h;obtain⟨p,q,rfl,m,s⟩:=split g;refine⟨a,p,q,rfl,?_,m,?_⟩
 ·rw[XT (n:=sz) (λx v S h=>(hr x v S h).1) f,Mr,Mx Aa]
 ·rw[XT (n:=sz) (λx v S h=>(hr x v S h).1) m,Mr,List.length_drop,Mx Aa]
def Z1w(hs:g.soft=K4)(h:R n W0 w X F H s a)(ht:tg.ok W0.gh a)(hτ:τ.ok P){e:Lb}{lo hi:Option Ld}(ho:o.op=.slice e x lo hi K2)(hr:Z1v τ s tg e x lo hi=K1 r):ZW P n W0 w X H s a o r:=by
 unfold Z1v at hr;split at hr
 ·rename_i A;split at hr
  ·rename_i u hu;split at hr
   ·rename_i i j f m;simp only[pB]at hr;subst hr;have e1:=Zam h ht hu;refine z0 h rfl λB=>⟨_,?_,Z7l _⟩
    obtain⟨C,D,E⟩:0<=i/\i<=j/\j<=u.length:=B;have G:=Zyx (P:=P) K4 (len:=u.length) (cap:=u.length) (Lx _) (lo:=lo.map a.eval) (hi:=hi.map a.eval) C D E
     ((KM h ht f).imp (λ⟨b,c⟩=>⟨by simp[b],c⟩) λ⟨y,k,b,c⟩=>⟨k,by simp[b,c]⟩)
     ((KM h ht m).imp (λ⟨b,c⟩=>⟨by simp[b],c⟩) λ⟨y,k,b,c⟩=>⟨k,by simp[b,c]⟩) w
    simp only[execOp,ho,e1,Lj,Mj,run_underlying (hτ _ _ A).str,Ll,Instr.slice,M1,Qop,Lm];simp[G,Qhg]
   ·cases hr
  ·cases hr
 ·rename_i e' t' A;split at hr
  ·rename_i e2 t l s' W;split at hr
   ·rename_i i j z f m hd I;split at hr
    ·rename_i J;simp only[pB]at hr;subst hr;have L:t'=t:=pE hd;have M:z=t:=pE J;subst L;subst M;obtain⟨X',F',vs,hX,b,c,h3⟩:=Z51 hs h ht W;obtain⟨v,xs,S1,S2,rfl,hS,k1,k2⟩:=c;intro B K Q hK;obtain⟨C,D,E⟩:0<=i/\i<=j/\j<=l.length:=B;obtain⟨am,Y,N,cap,rfl,O,ar,Z⟩:=k1;have G:=Zyx (P:=P) K3 (len:=l.length) (cap:=cap) O (lo:=lo.map a.eval) (hi:=hi.map a.eval) C D E
      ((KM h ht f).imp (λ⟨b,c⟩=>⟨by simp[b],c⟩) λ⟨y,k,b,c⟩=>⟨k,by simp[b,c]⟩)
      ((KM h ht m).imp (λ⟨b,c⟩=>⟨by simp[b],c⟩) λ⟨y,k,b,c⟩=>⟨k,by simp[b,c]⟩) w
     have hx:a.eval x=.slice N l.length cap:=b;have p:(execOp a.eval o).run P w=.ok (.value (.slice (ite (cap=i.toNat) N (N.map (·.add (i.toNat*z.size)))) (j.toNat-i.toNat) (cap-i.toNat))) w:=by
      simp only[execOp,ho,hx,Lj,Mj,run_underlying (hτ _ _ A).slice.1,Ll,Instr.slice,M1,G,(hτ _ _ I).sizeOf w,Lm]
     unfold Ln;rw[p];refine hK _ X' F' [] w hX h3 ⟨[_],rfl,?_⟩ (λhm=>Z8j W (by simpa using hm)) ⟨λ_=>Old.refl w,h.kept (Old.refl w)⟩;unfold rdF;obtain⟨pre,U,ab,m1,m2,m3,m4⟩:=Qb9 (sz:=z.size) (i:=i.toNat) (j:=j.toNat) (λx v S h=>⟨Jx h,mI h⟩) Aa Aa k2;have d:((l.drop i.toNat).take (j.toNat-i.toNat)).length=j.toNat-i.toNat:=Af
     refine⟨_,U,[],[],rfl,rfl,⟨rfl,by rw[m4,d],_,_,by rw[d],by rw[d];omega,Aa,?_⟩,m3⟩;rcases Z with⟨rfl,au,rfl⟩|⟨ad,rfl,a1,Z⟩
     ·grind
     ·by_cases V:cap=i.toNat
      ·grind
      ·refine .inr ⟨ad.add (i.toNat*z.size),by simp[V],?_,λq u hq=>?_⟩
       ·grind[Lk]
       ·rw[Lc.add_add',<-m2]
        grind
    ·cases hr
   ·cases hr
  ·cases hr
 ·cases hr
variable {H':List Nat}
def R.sub(h:R n W0 w X F H s a)(hin:∀b∈H',b∈H)(hn:H'.Nodup):R n W0 w X F H' s a:=
 {h with
  hown:=λb c=>h.hown b (hin b c)
  pK:=hn
  pL:=λk b c d=>h.pL k b c (hin b d)}
def hold(w:Lf)(ob:Obj)(b:Nat)(h:b<w.heap.size):(w.alloc ob).heap[b]? =w.heap[b]? :=by
 show(w.heap.push ob)[b]? =w.heap[b]?
 grind
theorem Zqh(w:Lf)(ob:Obj):(w.alloc ob).heap[w.heap.size]? =K1 ob:=by
 show(w.heap.push ob)[w.heap.size]? =_;simp
def R.alloc(h:R n W0 w X F H s a)(ob:Obj):R n W0 (w.alloc ob) X F (w.heap.size::H) s a:=by
 have d:∀b,b<w.heap.size->(w.alloc ob).heap[b]? =w.heap[b]? :=λb c=>hold w ob b c;have f:=h.world (w':=w.alloc ob) (h.below.step ((Below.refl _ w).alloc (Lx _) ob)) Ae (λb c=>d b (h.xlt b c)) (λk b c=>d b (h.own k b c).2.1);exact f.hand (S:=[w.heap.size]) (by
   intro b c;simp only[Mb]at c;subst c;exact⟨h.below.new,Ae,λhx=>Md _ (h.xlt _ hx)⟩) Ae
  (by intro k b c e;simp only[Mb]at e;subst e;exact Md _ (h.own k _ c).2.1)
  (by intro b c e;simp only[Mb]at c;subst c;exact Md _ (h.hown _ e).2.1)
def Qgm{T:Ty}{x:T.den}(h:rdF w X B T f x vs S)(hX:∀b,X b->b<w.heap.size)(hS:∀b∈S,b<w.heap.size)(ob:Obj):rdF (w.alloc ob) X B T f x vs S:=
 XQ (λ_ h=>h) (λb a=>hold w ob b (hX b a)) h (λb a=>hold w ob b (hS b a))
def Z2j{T:Ty}(h:T.plain=K3):∀u∈al T,u.oneCell'=true:=zZ (w:=default) (X:=λ_=>False) (B:=0) (own:=K4) (JH h)
def KL{T:Ty}(h:T.plain=K3):(al T).length=T.size:=Jx (w:=default) (X:=λ_=>False) (B:=0) (own:=K4) (JH h)
theorem Z04{T:Ty}(h1:∀u∈vs,u.oneCell'=K3)(hl:vs.length=T.size):(Jd T vs).cells=vs.toArray:=by
 grind[Zgv]
def KE{T:Ty}(h:T.plain=K3):(Jd T (al T)).cells=(al T).toArray:=Z04 (Z2j h) (KL h)
def Znu(s:St)(x:Ld)(i:Nat):Option Res:=
 match x with
 |.tmp t=>match Nat.blt t 1048576 with
  |false=>K2
  |true=>match s.get (.c t i)with
   |.val T f y=>match f.live,so f T with
    |true,K3=>K1 ⟨.val T f y,s,K4,K2⟩
    |true,K4=>K1 ⟨.val T f y,{s with env:=(.c t i,.pR)::s.env},K3,K2⟩
    |_,_=>K2
   |_=>K2
 |_=>K2
def Zyh{t:Nat}{u:Tm}{S0:List Nat}:∀{z:Tm},vt gh w X B s F a v S z->vt gh w X B {s with env:=(.c t i,u)::s.env} (Xm F (.c t i) S0) a v S z:=by
 have g:∀r,St.get {s with env:=(Key.c t i,u)::s.env} (.m r)=s.get (.m r):=λr=>by rfl
 have C:∀r,Xm F (.c t i) S0 (.m r)=F (.m r):=λr=>by simp[Xm]
 have E:∀{r p v U},Yv gh w s F a r p v U->Yv gh w {s with env:=(Key.c t i,u)::s.env} (Xm F (.c t i) S0) a r p v U:=by
  grind[Yv]
 intro z h
 induction z with
 |pR=>exact h
 |tup=>exact h
 |val T f x=>exact h
 |box e T f x=>exact h
 |shp T x=>exact h
 |ptr r p=>
  obtain⟨D,e,T,f,x,b,k,d,j,o⟩:=h;exact⟨D,e,T,f,x,b,k,by rw[g];exact d,by rw[C];exact j,o⟩
 |aep r p i=>
  obtain⟨D,e,T,f,x,b,k,n,I,y,d,j,o⟩:=h;exact⟨D,e,T,f,x,b,k,n,I,y,by rw[g];exact d,by rw[C];exact j,o⟩
 |bor r p=>exact⟨h.1,λA=>let⟨U,hU⟩:=h.2 A;⟨U,E hU⟩⟩
 |elp r p i q=>exact⟨h.1,λA=>let⟨e,t,ad,nn,cap,hU,rest⟩:=h.2 A;⟨e,t,ad,nn,cap,E hU,rest⟩⟩
 |pls M l=>
  refine⟨h.1,KF (λ_ h=>h) (λ_ _=>rfl) (λr p v G=>?_) h.2⟩;obtain⟨e,T,f,x,b,k,d,j,o⟩:=G;exact⟨e,T,f,x,b,k,by rw[g];exact d,by rw[C];exact j,o⟩
 |bel r p i q=>exact⟨h.1,λA J=>let⟨e,t,ad,nn,cap,x0,y,cs,hU,k1,k2,k3,rest⟩:=h.2 A J;⟨e,t,ad,nn,cap,x0,y,cs,E hU,k1,k2,by rw[C];exact k3,rest⟩⟩
 |cl f l=>
  refine⟨h.1,Ziz (λr p v G=>?_) h.2⟩;obtain⟨e,T,f,x,b,k,d,j,o⟩:=G;exact⟨e,T,f,x,b,k,by rw[g];exact d,by rw[C];exact j,o⟩
 |gd N H t K=>exact λA=>let⟨D,d,j⟩:=h A;⟨by rw[g];exact D,λL=>K (d L),j⟩
def R.takeC(h:R n W0 w X F H s a){t:Nat}:R n W0 w X (Xm F (.c t i) []) (F (.c t i)++H) {s with env:=(.c t i,.pR)::s.env} a where
 size:=h.size
 defers:=h.defers
 below:=h.below
 glob:=h.glob
 gx:=h.gx
 xs:=h.xs
 fix:=h.fix
 xlt:=h.xlt
 xin:=h.xin
 x0:=h.x0
 own:=λk b f=>by
  simp only[Xm]at f;split at f
  ·cases f
  ·exact h.own k b f
 nodup:=λk=>by
  simp only[Xm];split
  ·simp
  ·exact h.nodup k
 pS:=λk o b f g=>by
  simp only[Xm]at f g;split at f
  ·cases f
  ·split at g
   ·cases g
   ·exact h.pS k o b f g
 hown:=λb f=>(Lt.1 f).elim (h.own _ b) (h.hown b)
 pK:=Lg.2 ⟨h.nodup _,h.pK,λx hx y p e=>h.pL _ x hx (by rw[e];exact p)⟩
 pL:=λk b f l=>by
  simp only[Xm]at f;split at f
  ·cases f
  ·rename_i hk;exact(Lt.1 l).elim (λl=>hk (h.pS _ _ b f l)) (h.pL k b f)
 pM:=λd j m=>by
  simp only[St.get,Qg]at m⊢;split at m
  ·simp_all
  ·simpa[St.get]using h.pM d j m
 slots:=λk=>by
  by_cases hk:k=.c t i
  ·simp_all[St.get,Qg,vt]
  ·have q:St.get {s with env:=(Key.c t i,Tm.pR)::s.env} k=s.get k:=by simp[St.get,Qg,Ne.symm hk]
   have r:Xm F (.c t i) [] k=F k:=by simp[Xm,hk]
   rw[q,r];exact Zyh (h.slots k)
theorem Ztc(h:R n W0 w X F H s a)(ho:o.op=.extract x i)(hr:Znu s x i=K1 r):ZW P n W0 w X H s a o r:=by
 unfold Znu at hr;split at hr
 ·rename_i t;split at hr
  ·cases hr
  rename_i k;split at hr
  ·rename_i T f y e;have hs:=h.slots (.c t i);rw[e]at hs;obtain⟨g,j,d⟩:=hs;obtain⟨_,l,q,u⟩:=h.pM t i (by rw[e];simp);have hv:l[i]? =K1 (Xj W0.gh a (.c t i)):=by
    simp_all[Xj]
   have b:(execOp a.eval o).run P w=.ok (.value (Xj W0.gh a (.c t i))) w:=by
    simp_all[Jf,execOp,Instr.extract]
   split at hr
   ·rename_i m;simp only[pB]at hr;subst hr;have:=kK m d;rw[this]at d;exact z0 h rfl λ_=>⟨_,b,g,j,d⟩
   ·simp only[pB]at hr;subst hr;intro _ K Q p;unfold Ln;rw[b];exact p _ X _ (F (.c t i)) w (λ_ h=>h) h.takeC ⟨g,j,d⟩ Ae ⟨λ_=>Old.refl w,h.kept (Old.refl w)⟩
   ·cases hr
  ·cases hr
 ·cases hr
def Zyo(τ:Tab)(s:St)(e:Lb):Option Res:=
 match τ e with
 |some T=>K1 ⟨.box e T (.u K3) (zero T),s,K4,K2⟩
 |none=>K2
def Zyp(h:R n W0 w X F H s a)(hτ:τ.ok P){e:Lb}(ho:o.op=.alloc e)(hr:Zyo τ s e=K1 r):ZW P n W0 w X H s a o r:=by
 unfold Zyo at hr;split at hr
 ·rename_i T c;simp only[pB]at hr;subst hr;intro _ K Q d;obtain⟨i,f,_,_,g⟩:=(hτ _ _ c).size;have b:(execOp a.eval o).run P w=.ok (.value (.pointer (K1 ⟨w.heap.size,0,K2⟩))) (w.alloc (.cells (al T).toArray e)):=by
   simp[execOp,ho,Instr.alloc,zeroValue,typeInfo,f,g,newVar,newRow,KE (hτ _ _ c).plain]
  unfold Ln;rw[b];exact d _ X F [w.heap.size] _ (λ_ h=>h) (h.alloc _) ⟨w.heap.size,_,[],rfl,rfl,Zqh _ _,by unfold rdF;exact JH (hτ _ _ c).plain⟩ (λ_=>rfl) ⟨λ_=>Old.alloc _ _,h.kept (Old.alloc _ _)⟩
 ·cases hr
def Qan(τ:Tab)(s:St)(tg:Kd)(e:Lb)(x:Ld):Option Res:=
 match τ e with
 |some T=>match VC s (op1 s tg x) T with
  |some t=>K1 ⟨.box e t.T t.f t.x,t.s,t.moved,K2⟩
  |none=>K2
 |none=>K2
theorem Z47(h:R n W0 w X F H s a)(ht:tg.ok W0.gh a){e:Lb}(ho:o.op=.box e x)(hr:Qan τ s tg e x=K1 r):ZW P n W0 w X H s a o r:=by
 unfold Qan at hr;split at hr
 ·rename_i T p;split at hr
  ·rename_i t hk;simp only[pB]at hr;subst hr;obtain⟨_,g,S,d,q,i,f,j,_⟩:=eL h ht hk;intro _ K Q k;have u:(a.eval x).cells=d.toArray:=by
    grind[Z04,oH,K0]
   have c:(execOp a.eval o).run P w=.ok (.value (.pointer (K1 ⟨w.heap.size,0,K2⟩))) (w.alloc (.cells d.toArray e)):=by
    simp_all[execOp,Instr.box,newVar,newRow]
   unfold Ln;rw[c];refine k _ X g (w.heap.size::S) _ (λ_ h=>h) (f.alloc _) ⟨w.heap.size,_,S,rfl,rfl,Zqh _ _,?_⟩ (λl=>(j l).1) ⟨λ_=>Old.alloc _ _,h.kept (Old.alloc _ _)⟩;exact Qgm i h.xlt (λb m=>(f.hown b (by simp[m])).2.1) _
  ·cases hr
 ·cases hr
def Z3r(off:Nat):∀(ls:List La)(k:Nat)(arr:Array La)(A M C:List La),arr.toList=A++(M++C)->A.length=off+k->M.length=ls.length->
  ((ls.zipIdx k).foldl (λcs (x:La×Nat)=>cs.setIfInBounds (off+x.2) x.1) arr).toList=A++(ls++C)
 |[],k,arr,A,M,C,h,_,a=>by
  simp_all
 |v::ls,k,arr,A,M,C,h,b,a=>by
  cases M with
  |nil=>simp at a
  |cons m M=>
   simp only[List.zipIdx_cons,List.foldl_cons];have:=Z3r off ls (k+1) (arr.setIfInBounds (off+k) v) (A++[v]) M C (by
    simp_all) (by simp[b];omega) (by simpa using a)
   rw[this];simp
def Zen{place:Nat->Option (Nat×Nat)}{cs:Array La}{off size:Nat}{rest:List (Nat×La)}{pre mid post:List La}(hp:place i=K1 (off,size))
  (hcs:cs.toList=pre++(mid++post)) (hoff:pre.length=off) (hmid:mid.length=size) (hv:v.cells.size=size):
  ∃cs',cs'.toList=pre++(v.cells.toList++post)/\Lv place cs ((i,v)::rest)=Lv place cs' rest:=by
 have a:cs.size=pre.length+(mid.length+post.length):=by grind[Array.length_toList]
 refine⟨v.cells.zipIdx.foldl (λcs (x:La×Nat)=>cs.setIfInBounds (off+x.2) x.1) cs,?_,?_⟩
 ·have:=Z3r off v.cells.toList 0 cs pre mid post hcs Aa Ac;rw[<-this];congr 1;rw[<-Array.foldl_toList];simp
 simp_all[Lv,if_neg]
def Zb8(tg:Kd):List (Nat×Ld)->(T:Ty)->Fl->T.den->St->Bool->Option (Fl×T.den×St×Bool)
 |[],_,f,x,s,mv=>K1 (f,x,s,mv)
 |(i,y)::r,T,f,x,s,mv=>match Zep T i with
  |some U=>match VC s (op1 s tg y) U with
   |some t=>match VW T x i ⟨t.T,t.x⟩with
    |some x'=>Zb8 tg r T (ZT f i t.f) x' t.s (mv||t.moved)
    |none=>K2
   |none=>K2
  |none=>K2
def Zm4(ht:tg.ok W0.gh a){place:Nat->Option (Nat×Nat)}:∀{parts:List (Nat×Ld)}{T:Ty}{f:Fl}{x:T.den}{s:St}{mv:Bool}{f':Fl}{x':T.den}{s':St}{mv':Bool}{F:Key->List Nat}{S:List Nat}{cs:Array La},
  (∀i U,Zep T i=K1 U->place i=K1 (mn T i,U.size))->R n W0 w X F (S++H) s a->rdF w X W0.B T f x cs.toList S->Zb8 tg parts T f x s mv=K1 (f',x',s',mv')->
  ∃F' S' cs',Lv place cs (parts.map λp=>(p.1,a.eval p.2))=K1 cs'/\R n W0 w X F' (S'++H) s' a/\rdF w X W0.B T f' x' cs'.toList S'/\(mv'=K4->s'=s)
 |[],T,f,x,s,mv,f',x',s',mv',F,S,cs,_,k,d,b=>by
  simp only[Zb8,pB,pF]at b;obtain⟨rfl,rfl,rfl,rfl⟩:=b;exact⟨F,S,cs,rfl,k,d,λ_=>rfl⟩
 |(i,y)::r,T,f,x,s,mv,f',x',s',mv',F,S,cs,e,k,d,b=>by
  simp only[Zb8]at b;split at b
  ·rename_i U q;split at b
   ·rename_i t hk;split at b
    ·rename_i D g;obtain⟨l,E,u,G,I,m,v,h4,_⟩:=eL k ht hk;subst l;obtain⟨z,J⟩:=Qii (x:=x) q;obtain⟨pre,K,A,L,S2,M,N,O,P,Q,V⟩:=Zx8 J d;have c:=Zgv (oH m) (K0 m);have h:(a.eval y).cells.size=t.T.size:=by grind[Array.length_toList,K0]
     obtain⟨W,C,g2⟩:=Zen (rest:=r.map λp=>(p.1,a.eval p.2)) (e i _ q) N P (K0 Q) h;rw[I,c]at C;have Zqh:=V t.f ⟨t.T,t.x⟩ G u D g m;rw[<-C]at Zqh;have o:R n W0 w X E ((L++(u++M))++H) t.s a:=by
      refine v.sub ?_ ?_
      ·grind
      ·have:=v.pK;rw[O]at this;simp only[Lg,Lt]at this⊢
       grind
     obtain⟨F',S',cs',k1,Y,Z,k4⟩:=Zm4 ht e o Zqh b;refine⟨F',S',cs',Ac,Y,Z,λhm=>?_⟩;have ab:(mv||t.moved)=false:=by
      have j:∀{r:List (Nat×Ld)}{T:Ty}{f:Fl}{x:T.den}{s:St}{mv:Bool} {f' x' s' mv'},Zb8 tg r T f x s mv=K1 (f',x',s',mv')->mv'=K4->mv=false:=by
       intro r
       induction r with
       |nil=>simp_all[Zb8]
       |cons p r ih=>
        grind[Zb8]
      exact j b hm
     simp_all
    ·cases b
   ·cases b
  ·cases b
def Zyy(τ:Tab)(s:St)(tg:Kd)(e:Lb)(parts:Array (Nat×Ld)):Option Res:=
 match τ e with
 |some T=>match T.isStruct with
  |true=>match Zb8 tg parts.toList T (.u K3) (zero T) s K4 with
   |some (f,x,s',mv)=>K1 ⟨.val T f x,s',mv,K2⟩
   |none=>K2
  |false=>K2
 |none=>K2
def Z86{fs:List Field}{w:Lf}:∀{T:Ty}{off:Nat},uB P fs T off=K3->
  ∃ps:List (Nat×Nat),(fs.mapM λf=>(Prod.mk f.offset<$>Lo f.type:Sem (Nat×Nat))).run P w=.ok ps w/\ ∀i U,Zep T i=K1 U->ps[i]? =K1 (off+mn T i,U.size):=by
 induction fs with
 |nil=>
  intro T off h;cases T<;>simp[uB]at h
  simp_all[Zep]
 |cons f fs e=>
  intro T off h;cases T<;>simp only[uB]at h<;>first|cases h|skip
  rename_i a b;simp only[pC,Nat.blt_eq]at h;obtain⟨⟨⟨g,k⟩,m⟩,l⟩:=h;obtain⟨ps,n,o⟩:=e l;obtain⟨j,p,c,_⟩:=wn k;refine⟨(f.offset,j.size)::ps,?_,?_⟩
  ·simp_all[Lo,typeInfo]
  ·intro i U d;cases i with
   |zero=>simp only[Zep,pB]at d;subst d;simp[mn,pD g,c]
   |succ i=>grind[Zep,mn]
def Zyz(h:R n W0 w X F H s a)(ht:tg.ok W0.gh a)(hτ:τ.ok P){e:Lb}(ho:o.op=.build e parts)(hr:Zyy τ s tg e parts=K1 r):ZW P n W0 w X H s a o r:=by
 unfold Zyy at hr;split at hr
 ·rename_i T g;split at hr
  ·rename_i b;split at hr
   ·rename_i f x I J p;simp only[pB]at hr;subst hr;obtain⟨q,t,j⟩:=(hτ _ _ g).struct b;obtain⟨i,v,_,_,y⟩:=(hτ _ _ g).size;obtain⟨l,L,M⟩:=Z86 (P:=P) (w:=w) j;have k:rdF w X W0.B T (.u K3) (zero T) (al T).toArray.toList []:=by unfold rdF;exact JH (hτ _ _ g).plain
    obtain⟨z,A,c,N,C,D,E⟩:=Zm4 (H:=H) (S:=[]) ht (place:=(l.toArray[·]?)) (λi U O=>Ac) (by simpa using h) k p;intro _ K Q G;have m:(q.mapM λf=>(Prod.mk f.offset<$>Lo f.type:Sem (Nat×Nat))).run P w=.ok l.toArray w:=by
     simp_all[Array.mapM_eq_mapM_toList]
    have d:(execOp a.eval o).run P w=.ok (.value (.agg c)) w:=by
     simp only[execOp,ho,Lj,L6,zeroValue,typeInfo,Lm,run_underlying t,Ll];simp[v,y,KE (hτ _ _ g).plain];simp_all
    unfold Ln;rw[d];refine G _ X z A w (λ_ h=>h) C ⟨c.toList,?_,D⟩ E ⟨λ_=>Old.refl w,h.kept (Old.refl w)⟩;cases T<;>simp[Ty.isStruct]at b<;>simp[Jd]
   ·cases hr
  ·cases hr
 ·cases hr
def Z3q:∀{T:Ty}{x:T.den}{i:Nat}{y:TV},fld T x i=K1 y->mn T i+y.1.size<=T.size
 |.pair a b,x,0,y,h=>by simp only[fld,pB]at h;subst h;simp[mn,Ty.size]
 |.pair a b,x,i+1,y,h=>by
  simp only[fld]at h;have:=Z3q h
  grind[mn,Ty.size]
def Ztd:∀{T:Ty}{x:T.den}{i j:Nat}{u v:TV},fld T x i=K1 u->fld T x j=K1 v->i<j->mn T i+u.1.size<=mn T j
 |.pair a b,x,0,j+1,u,v,h,_,_=>by simp only[fld,pB]at h;subst h;simp[mn]
 |.pair a b,x,i+1,j+1,u,v,h,c,d=>by
  simp only[fld]at h c;have:=Ztd h c Aa
  grind[mn]
def Z6k:∀{p:List Nat}{T:Ty}{x:T.den}{y:TV},kd T x p=K1 y->aB T p+y.1.size<=T.size
 |[],T,x,y,h=>by grind[kd,aB]
 |i::p,T,x,y,h=>by
  simp only[kd]at h;split at h
  ·rename_i z a;have b:=Z6k h;have c:=Z3q a
   grind[aB,Zk8]
  ·cases h
theorem Z4m:∀{T:Ty}{x x':T.den}{i j:Nat}{y:TV},VW T x i y=K1 x'->j≠i->fld T x' j=fld T x j
 |.pair a b,x,x',0,j,y,h,c=>by
  simp only[VW,M0]at h;obtain⟨z,_,rfl⟩:=h;cases j with
  |zero=>omega
  |succ j=>rfl
 |.pair a b,x,x',i+1,j,y,h,c=>by
  simp only[VW,M0]at h;obtain⟨z,d,rfl⟩:=h;cases j with
  |zero=>rfl
  |succ j=>exact Z4m (T:=b) d Aa
theorem Qnm{T:Ty}{x x':T.den}{j:Nat}(h:YH T x (i::p) y=K1 x')(hj:j≠i):kd T x' (j::q)=kd T x (j::q):=by
 grind[YH,kd,Z4m]
theorem Z5o{pre mid vs post:List α}(hl:mid.length=vs.length)(hk:k+m<=pre.length\/pre.length+mid.length<=k):((pre++(vs++post)).drop k).take m=((pre++(mid++post)).drop k).take m:=by
 apply Mp
 grind
def Qwc(s:St)(r:Nat)(p:List Nat)(t:Tm):St:=
 match p with
 |[]=>bY s r t
 |i::_=>Qn8 s r i t
def Zsj(s:St)(r:Nat)(p:List Nat)(f:Fl)(y:TV):Option St:=
 match s.get (.m r)with
 |.box e U g z=>match kd U z p with
  |some u=>match Le (u.1=y.1),YH U z p y with
   |true,K1 z'=>K1 (Qwc s r p (.box e U (ZI g p f) z'))
   |_,_=>K2
  |none=>K2
 |_=>K2
def R.setRoot(h:R n W0 w X F H s a){r:Nat}(hs:Zsj s r p f y=K1 s')(hH:H=S++H')
  (hv:rdF w X W0.B y.1 f y.2 vs S) {b:Nat} (hb:∃S0,F (.m r)=b::S0) {e:Lb}{U:Ty}{g:Fl}{z:U.den} (hg:s.get (.m r)=.box e U g z):
  ∃w' F',(storeCells ⟨b,aB U p,K2⟩ vs).run P w=.ok () w'/\R n W0 w' X F' H' s' a/\ ∀k,k≠b->w'.heap[k]? =w.heap[k]? :=by
 unfold Go.Am.Zsj at hs;rw[hg]at hs;simp only at hs;split at hs
 ·rename_i u hu;split at hs
  ·rename_i z' hd hz;simp only[pB]at hs;subst hs;have E:=h.slots (.m r);rw[hg]at E;obtain⟨l,c,S',l1,l2,N,l4⟩:=E;obtain⟨S0,O⟩:=hb;rw[O]at l2;obtain⟨rfl,rfl⟩:=Ls l2;have V:u.1=y.1:=pE hd;have t:b∈F (.m r):=by rw[O];simp
   have W:∀k l,k≠Key.m r->l∈F k->l≠b:=λk l hk o e=>hk (h.pS k (.m r) l o (by rw[e];exact t));have Y:∀l∈H,l≠b:=λl o e=>h.pL (.m r) b t Ac;generalize Z:(c.toList.take (aB U p+0)++vs++c.toList.drop (aB U p+0+vs.length)).toArray=cc;have d:∀k,k≠b->(w.setRow b cc).heap[k]? =w.heap[k]? :=λk hk=>setRow_other w b k _ hk;have ab:rdF (w.setRow b cc) X W0.B U g z c.toList S0:=
    XQ (λ_ h=>h) (λl o=>d l λe=>(h.own _ b t).2.2 Ac) l4
     (λl o=>d l λe=>by
      have:=h.nodup (.m r);simp_all)
   have ar:rdF (w.setRow b cc) X W0.B y.1 f y.2 vs S:=
    XQ (λ_ h=>h) (λl o=>d l λe=>(h.own _ b t).2.2 Ac) hv (λl o=>d l (Y l Ac))
   obtain⟨pre,G,A,I,S2,J,m1,m2,m3,m4,m5⟩:=jz hu ab;have am:G.length=vs.length:=by rw[K0 m4,K0 hv,V]
   have au:c.size=pre.length+(G.length+A.length):=Ag
   have K:=run_storeCells_at P b (aB U p) e vs 0 c w N Aa (oH hv);rw[Z]at K;have e1:cc=(pre++(vs++A)).toArray:=by
    grind
   have L:=h.nodup (.m r);rw[O,m2]at L;have ad:W0.below (w.setRow b cc):=
    ⟨h.below.os,h.below.tape,h.below.output,by simpa[Ly]using h.below.size,λk hk=>(d k (W0.sep hk (h.own _ b t).1)).trans (h.below.block k hk)⟩
   refine⟨w.setRow b cc,Xm F (.m r) (b:: (I++(S++J))),K,?_,d⟩;have hT:Zee W0.gh w (w.setRow b cc) s (Qwc s r p (.box e U (ZI g p f) z')) F (Xm F (.m r) (b:: (I++(S++J)))) a r (.box e U (ZI g p f) z'):=by
    cases p with
    |nil=>exact Zvd
    |cons i p=>
     refine Qcl Ae λj q v U' hj hv=>?_;unfold Yv at hv⊢;rw[hg]at hv;rw[Z2e];simp only[if_true];obtain⟨b2,c2,a0,y2,k1,k2,Q,k4,k5⟩:=hv;rw[O]at k1;obtain⟨rfl,_⟩:=Ls k1;rw[N]at k2;simp only[pB,Mz]at k2;obtain⟨rfl,_⟩:=k2;refine⟨b,cc,I++(S++J),y2,by simp[Xm],setRow_heap w b c _ e _ N,by grind[Qnm],k4,?_⟩;rw[k5,e1,m1];congr 1;have ho:∀{u':TV},kd U z (i::p)=K1 u'->aB U (j::q)+y2.1.size<=aB U (i::p)\/aB U (i::p)+u'.1.size<=aB U (j::q):=λ{u'} x=>by
      simp only[kd]at x Q;split at x
      ·rename_i a1 C;split at Q
       ·rename_i a2 D;have g1:=Z6k x;have g2:=Z6k Q;simp only[aB,Zk8 C,Zk8 D];rcases Nat.lt_or_gt_of_ne hj with hlt|hlt
        ·have:=Ztd D C hlt;omega
        ·have:=Ztd C D hlt;omega
       ·cases Q
      ·cases x
     grind[K0,Z5o]
   refine h.turn' hT ad Ac (λl o=>d l λe=>(h.own _ b t).2.2 Ac)
    (λk l hk o=>d l (W k l hk o)) ?_ ?_ (by rw[hg];simp) ?_ ⟨b,_,I++(S++J),l1,rfl,setRow_heap w b c _ e _ N,?_⟩
   ·grind
   ·have hn:=h.pK;rw[hH]at hn;have M:∀q,q∈b:: (I++(S2++J))->q∉S++H':=λq hq=>by rw[<-hH];exact h.pL (.m r) q Ac
    simp only[Lg,Ms,Lt,List.mem_cons,List.cons_append]at hn L M⊢
    grind
   all_goals grind
  ·cases hs
 ·cases hs
def Fl.allU(b:Bool):Fl->Bool
 |.u c=>match b,c with|true,K3=>K3|false,K4=>K3|_,_=>K4
 |.p f g=>f.allU b&&g.allU b
 |.d=>K4
theorem Zsb{b:Bool}:∀{T:Ty}{f:Fl}{x:T.den}{vs:List La}{S:List Nat},f.allU b=K3->rdF w X B T f x vs S->rd w X B b T x vs S
 |T,.d,_,_,_,h,_=>by simp[Fl.allU]at h
 |T,.u c,_,_,_,h,i=>by
  unfold rdF at i;have:c=b:=by cases b<;>cases c<;>simp[Fl.allU]at h<;>rfl
  simp_all
 |.pair a s,.p f g,_,_,_,h,⟨j,k,l,m,n,o,q,r⟩=>by
  simp only[Fl.allU,pC]at h;exact⟨j,k,l,m,n,o,Zsb h.1 q,Zsb h.2 r⟩
 |.slice e t,.p f g,_,_,_,h,i=>by
  obtain⟨rfl,rfl,_⟩:=nC i
  grind[Fl.allU]
 |.unit,.p ..,_,_,_,_,h|.int _,.p ..,_,_,_,_,h|.bool,.p ..,_,_,_,_,h|.fnc _,.p ..,_,_,_,_,h|.str,.p ..,_,_,_,_,h|.err,.p ..,_,_,_,_,h|.hid _,.p ..,_,_,_,_,h|.sptr ..,.p ..,_,_,_,_,h|.clo ..,.p ..,_,_,_,_,h|.arr ..,.p ..,_,_,_,_,h=>by simp[rdF]at h
def Qgs:∀{f g:Fl}(i:Nat),f.allU b=K3->g.allU b=K3->(ZT f i g).allU b=true:=by
 intro f;have e:∀(f g:Fl)(i:Nat),f.allU b=K3->g.allU b=K3->(∀a c,f≠ .p a c)->(ZT f i g).allU b=true:=by
  intro f g i h j k
  induction i with
  |zero=>simp_all[ZT,Fl.allU]
  |succ i n=>simp_all[ZT,Fl.allU]
 induction f with
 |u c=>simp_all
 |d=>simp_all
 |p x y l m=>
  intro g i h j;simp only[Fl.allU,pC]at h;cases i with
  |zero=>simp_all[ZT,Fl.allU]
  |succ i=>simp_all[ZT,Fl.allU]
def Qfs:∀{f:Fl}(i:Nat),f.allU b=K3->(WQ f i).allU b=true:=by
 intro f
 induction f with
 |u c=>intro i h;cases i<;>exact h
 |d=>simp_all[Fl.allU]
 |p x y e a=>
  intro i h;simp only[Fl.allU,pC]at h;cases i with
  |zero=>exact h.1
  |succ i=>exact a i h.2
def Z1u{b:Bool}:∀{f g:Fl},f.allU b=K3->g.allU b=K3-> ∀p:List Nat,(ZI f p g).allU b=K3
 |_,_,_,a,[]=>a
 |_,_,c,a,i::p=>Qgs i c (Z1u (Qfs i c) a p)
def elF:Fl->Option Bool|.u K3=>K1 K3|.p (.u K3) (.u K4)=>K1 K4|_=>K2
def Qsk(w:Lf)(X:Nat->Prop)(B:Nat)(eo:Bool)(e:Lb)(t:Ty)(l:List t.den)(v:La)(S:List Nat):Prop:=∃xs S1 S2,S=S1++S2/\hdr w X B K3 e t.size l.length v xs S1/\eh (rd w X B eo t) l xs S2
def Zwf{t:Ty}:∀{l:List t.den}{vs:List La}{S:List Nat},eh (rd w X B K4 t) l vs S->S=[]
 |[],_,_,h=>h.2
 |_::_,_,_,⟨_,_,_,_,_,e,a,b⟩=>by rw[e,mI a,Zwf b];rfl
def Zli(h:elF f=K1 eo){e:Lb}{t:Ty}{l:List t.den}:rdF w X B (.slice e t) f l vs S↔ ∃v,vs=[v]/\Qsk w X B eo e t l v S:=by
 unfold elF at h;split at h
 ·cases h;unfold rdF;exact⟨λ⟨v,b,i,j,c,g,d,a⟩=>⟨v,c,b,i,j,g,d,a⟩,λ⟨v,c,b,i,j,g,d,a⟩=>⟨v,b,i,j,c,g,d,a⟩⟩
 ·cases h;exact⟨λ⟨v,b,c,d,a⟩=>⟨v,c,b,S,[],Ae,d,a⟩,λ⟨v,c,b,i,j,g,d,a⟩=>by
   have:=Zwf a;subst this;rw[List.append_nil]at g;subst g;exact⟨v,b,c,d,a⟩⟩
 ·cases h
def Z4o{e:Lb}{t:Ty}{l:List t.den}{g n':Nat}{ad:Lc}(h:Qsk w X B eo e t l v S)(hv:v=.slice (K1 ad) n' cap)(hX:¬X ad.block)(hnd:S.Nodup){j:Nat}(hj:j<l.length)
  {u:TV} (hu:kd t l[j] q=K1 u)  (hy:u.1=y.1) {z':t.den} (hz:YH t l[j] q y=K1 z')  (hyv:rd w X B eo y.1 y.2 vs Sy) (hndy:(S++Sy).Nodup) (hg:ad.block=g):
  ∃cc S',(storeCells (ad.add (j*t.size+aB t q)) vs).run P w=.ok () (w.setRow g cc)/\g∈S/\(∀b,b≠g->(w.setRow g cc).heap[b]? =w.heap[b]?)/\Qsk (w.setRow g cc) X B eo e t (l.set j z') v S'/\S'.Nodup/\(∀b∈S',b∈S++Sy):=by
 obtain⟨K,A,S2,M,h1,h2⟩:=h;obtain⟨r,C⟩:=h1;rcases r.2 with⟨rfl,a4⟩|⟨m,a1,i,s,hB,hh,N,O,a5,Q⟩
 ·cases hv
 ·rw[hv]at s;simp only[Me,pB]at s;obtain⟨rfl,rfl,rfl⟩:=s;simp only at hg hX;subst hg;have hS:A=[m]:=by rw[C,hv];rfl
  have a2:(⟨m,0,K2⟩:Lc).add (j*t.size+aB t q)=⟨m,j*t.size+aB t q,K2⟩:=by simp_all[Lk]
  generalize D:(i.toList.take (j*t.size+aB t q+0)++vs++i.toList.drop (j*t.size+aB t q+0+vs.length)).toArray=cc;have a:∀b,b≠m->(w.setRow m cc).heap[b]? =w.heap[b]? :=λb n=>setRow_other w m b _ n;have E:∀b∈S2,b≠m:=λb n e=>by
   grind
  have U:eh (rd (w.setRow m cc) X B eo t) l K S2:=J6 h2 λx v T _ hT hr=>
   eU (λ_ h=>h) (λb n=>a b λe=>hX Ac) hr λb n=>a b (E b (hT b n))
  obtain⟨pre,V,k,W,T2,L,m1,m2,m3,m4,m5,m6⟩:=yz (λ_ _ _ h=>Jx h) hj U;have Y:rdF (w.setRow m cc) X B t (.u eo) l[j] V T2:=Ak
  obtain⟨c,o,d,Z,U2,U3,n1,n2,n3,n4,n5⟩:=jz hu Y;have F:∀b∈Sy,b≠m:=λb n e=>by
   grind
  have a3:rd (w.setRow m cc) X B eo y.1 y.2 vs Sy:=eU (λ_ h=>h) (λb n=>a b λe=>hX Ac) hyv λb n=>a b (F b n);have ab:=n5 (.u eo) y vs Sy z' hz Ak;have p:o.length=vs.length:=by rw[K0 n4,Jx hyv,hy]
  have am:K.length=l.length*t.size:=r.1;have a6:i.toList=K++i.toList.drop (l.length*t.size):=by rw[<-Q];simp
  have ar:j*t.size+aB t q+0+vs.length<=i.size:=by
   grind[Mq]
  have au:=run_storeCells_at P m (j*t.size+aB t q) e vs 0 i w hh ar (zZ hyv);rw[D]at au;have G:i.toList=(pre++c)++(o++(d++(k++i.toList.drop (l.length*t.size)))):=by
   grind
  have a0:(pre++c).length=j*t.size+aB t q:=by simp[m3,n3]
  have H:cc=((pre++(c++(vs++d)++k))++i.toList.drop (l.length*t.size)).toArray:=by
   rw[<-D];congr 1
   conv=>lhs;rw[G]
   rw[Nat.add_zero,<-a0,List.take_left,<-p,<-L9 (pre++c) o,Mn Af];simp
  have I:∀b,b∈A++(W++((Z++(Sy++U3))++L))->b∈S++Sy:=by
   intro b n;rw[M,m2,n2];simp only[Lt]at n⊢
   grind
  have J:(A++(W++((Z++(Sy++U3))++L))).Nodup:=by
   rw[M,m2,n2]at hndy;rw[L3]at hndy⊢;intro z;have:=hndy z;simp only[Ma]at this⊢;omega
  refine⟨cc,A++(W++((Z++(Sy++U3))++L)),Ag,by rw[M,hS];simp,a,⟨pre++(c++(vs++d)++k),A,_,rfl,?_,?_⟩,J,I⟩
  ·refine⟨⟨?_,.inr ⟨m,cap,cc,?_,hB,setRow_heap w m i _ e _ hh,by simpa using N,O,?_,?_⟩⟩,C⟩
   ·have:(pre++(c++(vs++d)++k)).length=K.length:=by rw[m1,n1];simp[p]
    grind
   ·rw[hv];simp
   ·grind[Mq]
   ·rw[H];have:(pre++(c++(vs++d)++k)).length=(l.set j z').length*t.size:=by
     rw[List.length_set,<-am,m1,n1];simp[p]
    grind
  ·have e4:l.set j z'=l.take j++(z'::l.drop (j+1)):=by grind[Mt]
   rw[e4];exact rb m5 ⟨_,k,_,L,rfl,rfl,Zsb (Z1u (f:=.u eo) (g:=.u eo) (by cases eo<;>rfl) (by cases eo<;>rfl) q) (by simpa using ab),m6⟩
def Qgt:∀(f:Fl)(i:Nat)(g g':Fl),ZT (ZT f i g) i g'=ZT f i g':=by
 intro f;have e:∀(f g g':Fl)(i:Nat),(∀a c,f≠ .p a c)->ZT (ZT f i g) i g'=ZT f i g':=by
  intro f g g' i h
  induction i with
  |zero=>simp_all[ZT]
  |succ i k=>simp_all[ZT]
 induction f with
 |u c=>simp_all
 |d=>simp_all
 |p x y j b=>
  intro i g g';cases i with
  |zero=>simp[ZT]
  |succ i=>simp[ZT,b]
def Qft:∀(f:Fl)(i:Nat)(g:Fl),WQ (ZT f i g) i=g:=by
 intro f;have b:∀(f g:Fl)(i:Nat),(∀a c,f≠ .p a c)->WQ (ZT f i g) i=g:=by
  intro f g i e
  induction i with
  |zero=>simp_all[ZT,WQ]
  |succ i k=>simp_all[ZT,WQ]
 induction f with
 |u c=>simp_all
 |d=>simp_all
 |p x y h j=>
  intro i g;cases i with
  |zero=>simp[ZT,WQ]
  |succ i=>grind[ZT,WQ]
def Zwh:∀(p:List Nat)(f g g':Fl),ZI (ZI f p g) p g'=ZI f p g'
 |[],_,_,_=>rfl
 |i::p,f,g,g'=>by simp only[ZI,Qft,Qgt,Zwh p]
def Z5p(s:St)(r:Nat)(p:List Nat):Bool:=match s.get (.m r)with
 |.box _ _ f _=>match elF (mW f p)with
  |some b=>b
  |none=>K3
 |_=>K3
def Zyc(s:St)(r:Nat)(p:List Nat)(j:Int)(q:List Nat)(fy:Fl)(y:TV):Option St:=
 match s.bad r p with
 |true=>K2
 |false=>match(match Z5p s r p with|true=>fy.allU K3||y.1.flat|false=>so fy y.1)with
  |false=>K2
  |true=>match s.get (.m r)with
   |.val (.slice e t) (.u K3) l=>match p,kd t (l.getD j.toNat (zero t)) q with
    |[],K1 u=>match Le (u.1=y.1),YH t (l.getD j.toNat (zero t)) q y with
     |true,K1 z=>K1 (KJ s r (.val (.slice e t) (.u K3) (l.set j.toNat z)))
     |_,_=>K2
    |_,_=>K2
   |.box e0 U f x=>match kd U x p,elF (mW f p)with
    |some ⟨.slice e t,l⟩,K1 _=>match kd t (l.getD j.toNat (zero t)) q with
     |some u=>match Le (u.1=y.1),YH t (l.getD j.toNat (zero t)) q y with
      |true,K1 z=>match YH U x p ⟨.slice e t,l.set j.toNat z⟩with
       |some x'=>K1 (KJ s r (.box e0 U (ZI f p (mW f p)) x'))
       |none=>K2
      |_,_=>K2
     |none=>K2
    |_,_=>K2
   |_=>K2
def Qdm{d:α}(h:i<l.length):l.getD i d=l[i]:=by
 simp_all
def R.setElem(h:R n W0 w X F (Sy++H) s a){r:Nat}(hs:Zyc s r p j q fy y=K1 s')(hv:rd w X W0.B (Z5p s r p) y.1 y.2 vs Sy)
   (he:vt W0.gh w X W0.B s F a ve [] (.elp r p j q)):
  ∃ad w' F',ve=.pointer (K1 ad)/\(storeCells ad vs).run P w=.ok () w'/\R n W0 w' X F' H s' a/\ ∀b,(X b\/ ∃r,s.isBox r/\Xj W0.gh a (.m r)=.pointer (K1 ⟨b,0,K2⟩))->w'.heap[b]? =w.heap[b]? :=by
 unfold Go.Am.Zyc at hs;split at hs
 ·cases hs
 ·rename_i Z;obtain⟨_,he⟩:=he;obtain⟨e0,t0,ad,n0,a4,g,cr,cu,a5⟩:=he Z;split at hs
  ·cases hs
  ·rename_i cz;have J:=h.slots (.m r);unfold Yv at g;split at hs
   ·rename_i e t l hg;rw[hg]at g J;obtain⟨rfl,hT,b7⟩:=g;cases hT;split at hs
    ·rename_i u hp hu;split at hs
     ·rename_i z hd hz;simp only[pB]at hs;subst hs;obtain⟨us,O,k2⟩:=J;have ab:∀p,Z5p s r p=true:=λp=>by simp_all[Z5p]
      rw[ab]at hv;obtain⟨v',rfl,a6⟩:=(Zli (f:=.u K3) rfl).1 k2;have k3:=a6;obtain⟨xs,S1,S2,e2,I,h2⟩:=k3;have v:v'=.slice (K1 ad) n0 a4:=by rw[<-b7]at O;exact O.symm
      have K:n0=l.length:=by
       grind[fI]
      have A:j.toNat<l.length:=Aa
      rw[Qdm A]at hu hz;have C:=h.nodup (.m r);have i:(F (.m r)++Sy).Nodup:=Lg.2 ⟨C,(Lg.1 h.pK).1,λx hx y Q e=>h.pL _ x hx (by rw[e];simp[Q])⟩;have o:¬X ad.block:=by
       have hm:ad.block∈F (.m r):=by rw[e2,I.2,v];simp[L5]
       exact(h.own _ _ hm).2.2
      obtain⟨cc,V,g1,g2,D,g4,g5,g6⟩:=Z4o (P:=P) a6 v o C A hu (pE hd) hz hv i rfl;have am:W0.below (w.setRow ad.block cc):=
       ⟨h.below.os,h.below.tape,h.below.output,by simpa[Ly]using h.below.size,λk hk=>(D k (W0.sep hk (h.own _ _ g2).1)).trans (h.below.block k hk)⟩
      have ar:∀b,(X b\/ ∃r,s.isBox r/\Xj W0.gh a (.m r)=.pointer (K1 ⟨b,0,K2⟩))->(w.setRow ad.block cc).heap[b]? =w.heap[b]? :=by
       intro b E;refine D b λe=>?_;subst e;rcases E with E|⟨r2,I,h2⟩
       ·exact o E
       ·obtain⟨S,h3⟩:=h.boxIn I h2;have:=h.pS (.m r2) (.m r) ad.block (by rw[h3];simp) g2
        grind
      refine⟨_,w.setRow ad.block cc,Xm F (.m r) V,a5,g1,?_,ar⟩;refine h.turn' (S':=V) (H':=H) (xc ⟨?_,?_⟩) am (by simp[Ly]) (λb E=>D b λe=>o Ag)
       (λk b hk E=>D b λe=>hk (h.pS k (.m r) b E (by rw[e];exact g2))) (λb E=>?_) (Lg.2 ⟨g5,(Lg.1 h.pK).2.1,λx hx y Q e=>?_⟩)
       (by rw[hg];simp) (λe T f x b S E=>Ac) ⟨[v'],O,(Zli (f:=.u K3) rfl).2 ⟨_,rfl,g4⟩⟩
      ·rw[Ja];simp
      ·grind[Yv,Ja]
      ·grind
      ·subst e;have:=g6 x hx;rcases Lt.1 this with h'|h'
       ·exact h.pL _ x h' (by simp[Q])
       ·exact(Lg.1 h.pK).2.2 x h' x Q rfl
     ·cases hs
    ·cases hs
   ·rename_i e1 U f x hg;rw[hg]at g J;obtain⟨b,c,S,y',O,k2,k3,k4,k5⟩:=g;obtain⟨b',c',S',l1,l2,l3,l4⟩:=J;rw[O]at l2;obtain⟨rfl,rfl⟩:=Ls l2;rw[k2]at l3;simp only[pB,Mz]at l3;obtain⟨rfl,_⟩:=l3;rw[k3]at hs;split at hs
    ·rename_i e t l eo a7 hf;have ab:Z5p s r p=eo:=by simp_all[Z5p]
     rw[ab]at hv;simp only[pB]at a7;subst a7;cases k4;split at hs
     ·rename_i u hu;split at hs
      ·rename_i z hd hz;split at hs
       ·rename_i x' b8;simp only[pB]at hs;subst hs;obtain⟨pre,c0,a8,S1,S2,S3,m1,m2,m3,m4,m5⟩:=jz k3 l4;have bb:=Qk7 m1 m3 (K0 m4);rw[bb]at k5;have b9:=m4;obtain⟨v',rfl,bc⟩:=(Zli hf).1 m4;have m6:=bc;obtain⟨xs,T1,T2,e2,I,h2⟩:=m6;have v:v'=.slice (K1 ad) n0 a4:=k5.symm;have K:n0=l.length:=by
         grind[fI]
        have A:j.toNat<l.length:=Aa
        rw[Qdm A]at hu hz;have C:=h.nodup (.m r);have i:(F (.m r)++Sy).Nodup:=Lg.2 ⟨C,(Lg.1 h.pK).1,λx hx y Q e=>h.pL _ x hx (by rw[e];simp[Q])⟩;rw[O,m2]at C i;have cl:ad.block∈S2:=by rw[e2,I.2,v];simp[L5]
        have L:ad.block∈F (.m r):=Ag
        have o:¬X ad.block:=(h.own _ _ L).2.2;have bd:S2.Nodup:=by
         grind
        have au:(S2++Sy).Nodup:=by
         rw[L3]at i⊢;intro z;have:=i z
         grind
        obtain⟨cc,V,g1,g2,D,g4,g5,g6⟩:=Z4o (P:=P) bc v o bd A hu (pE hd) hz hv au rfl;have cm:b≠ad.block:=λe=>by
         grind
        have am:W0.below (w.setRow ad.block cc):=
         ⟨h.below.os,h.below.tape,h.below.output,by simpa[Ly]using h.below.size,λk hk=>(D k (W0.sep hk (h.own _ _ L).1)).trans (h.below.block k hk)⟩
        have be:∀q,q∈S1\/q∈S3->q≠ad.block:=by
         grind
        have a0:rdF w X W0.B U (ZI f p .d) x c.toList (S1++([]++S3)):=by
         have:=m5 .d ⟨.slice e0 t0,l⟩ [v'] [] x (Z4n k3) (by unfold rdF;exact⟨rfl,oH b9,rfl⟩)
         grind
        have M:rdF (w.setRow ad.block cc) X W0.B U (ZI f p .d) x c.toList (S1++([]++S3)):=
         XQ (λ_ h=>h) (λb' bl=>D b' λe=>o Ag) a0 (λb' bl=>D b' (be b' (by simpa using bl)))
        obtain⟨W,cp,a1,a2,cb,a3,q1,q2,q3,q4,q5⟩:=jz k3 M;have bx:W=pre/\a1=a8:=by
         have e1:W.length=pre.length:=by rw[q3,m3]
         have e2:=q1.symm.trans m1;have e3:=Mk e2 e1
         grind[K0,Mk]
        obtain⟨rfl,rfl⟩:=bx;have Y:=q5 (mW f p) ⟨.slice e0 t0,l.set j.toNat z⟩ [v'] V x' b8 ((Zli hf).2 ⟨_,rfl,g4⟩);rw[<-m1,Zwh]at Y;have b0:∀z,a2.count z+a3.count z<=S1.count z+S3.count z:=λz=>by
         have:=congrArg (List.count z) q2
         grind
        have b1:∀z,V.count z<=S2.count z+Sy.count z:=λz=>by
         have I:=L3.1 g5 z;by_cases hz:z∈V
         ·have:=Mm.2 (g6 z hz)
          grind
         grind
        have b4:∀z,(F (.m r)).count z=(b:: (S1++(S2++S3))).count z:=λz=>by rw[O,m2]
        have b5:((b:: (a2++(V++a3)))++H).Nodup:=by
         have K:(F (.m r)++(Sy++H)).Nodup:=Lg.2 ⟨h.nodup _,h.pK,λx hx y Q e=>h.pL _ x hx (by rw[e];exact Q)⟩;rw[L3]at K⊢;intro z;have I:=K z;have h2:=b0 z;have h3:=b1 z;have h4:=b4 z;simp only[Ma,Ml]at I h4⊢;omega
        have b6:=h.turn' (t:=.box e1 U (ZI f p (mW f p)) x') (S':=b:: (a2++(V++a3))) (H':=H) (xc ⟨?_,?_⟩) am (by simp[Ly]) (λb E=>D b λe=>o Ag)
         (λk b hk E=>D b λe=>hk (h.pS k (.m r) b E (by rw[e];exact L))) (λq hq=>?_) b5
         (by rw[hg];simp) (λe2 T2 f2 x2 b2 cb G c1=>by
          grind) ⟨b,c,_,l1,rfl,Ag,Y⟩
        ·refine⟨_,_,_,a5,g1,b6,λb2 G=>D b2 λe=>?_⟩;rw[e]at G;rcases G with G|⟨r2,I,h2⟩
         ·exact o G
         ·obtain⟨S,h3⟩:=h.boxIn I h2;have:=h.pS (.m r2) (.m r) ad.block (by rw[h3];simp) L
          grind
        ·rw[Ja];simp
        ·intro p' v2 U2 N;unfold Yv at N⊢;rw[hg]at N;rw[Ja];simp only[if_true]at N⊢;obtain⟨b3,c3,S3,y3,o1,o2,o3,o4,o5⟩:=N;rw[O]at o1;obtain⟨rfl,_⟩:=Ls o1;obtain⟨y4,o6,o7⟩:=Zk7 (x':=x') o3
         grind
        ·rw[<-Mm]at hq⊢;have h2:=b0 q;have h3:=b1 q;have h4:=b4 q;simp only[Ma,Ml]at hq h4⊢;omega
       ·cases hs
      ·cases hs
     ·cases hs
    ·cases hs
   ·cases hs
def Qcb(s:St)(r:Nat)(p:List Nat)(i:Int)(fy:Fl)(y:TV):Option St:=
 match s.get (.m r)with
 |.box e U f x=>match kd U x p with
  |some ⟨.arr n t,l⟩=>match(mW f p).live,Le (y.1=t),t.flat,fy.live with
   |true,K3,K3,K3=>match ay t y.1 y.2 with
    |some z=>match YH U x p ⟨.arr n t,l.set i.toNat z⟩with
     |some x'=>K1 (bY s r (.box e U (ZI f p (mW f p)) x'))
     |none=>K2
    |none=>K2
   |_,_,_,_=>K2
  |_=>K2
 |_=>K2
def R.setArr(h:R n W0 w X F H s a){r:Nat}{i:Int}(hs:Qcb s r p i fy y=K1 s')(hv:rdF w X W0.B y.1 fy y.2 vs S)
   (he:vt W0.gh w X W0.B s F a ve [] (.aep r p i)):
  ∃b ad w' F',ve=.pointer (K1 ad)/\(storeCells ad vs).run P w=.ok () w'/\R n W0 w' X F' H s' a/\b∈F (.m r)/\ ∀k,k≠b->w'.heap[k]? =w.heap[k]? :=by
 obtain⟨_,e0,O,Q,x0,b,S0,N,t0,A,g1,g2,g3,g4,g5,g6⟩:=he;unfold Go.Am.Qcb at hs;rw[g1]at hs;simp only[g3]at hs;split at hs
 ·rename_i o hd C am;split at hs
  ·rename_i z hz;split at hs
   ·rename_i x' ar;simp only[pB]at hs;subst hs;have U:y.1=t0:=pE hd;obtain⟨t,I⟩:=y;simp only at U;subst U;have au:I=z:=by have:=fG hz;cases this;rfl
    subst au;have V:=h.slots (.m r);rw[g1]at V;obtain⟨D,c,S',l1,l2,l3,l4⟩:=V;rw[g2]at l2;obtain⟨rfl,rfl⟩:=Ls l2;have E:b∈F (.m r):=by rw[g2];simp
    obtain⟨pre,a6,j,S1,S2,S3,m1,m2,m3,m4,m5⟩:=jz g3 l4;have a0:=Vo (X':=λb=>X b\/b∈S2) (λ_ h=>.inl h) o m4 (λ_ h=>.inr h);obtain⟨J,K⟩:=a0;have J:A.length=N:=J;have a1:i.toNat<A.length:=Aa
    obtain⟨f,l,d,T1,T2,T3,n1,n2,n3,n4,n5,n6⟩:=yz (λ_ _ _ h=>Jx h) a1 K;have a7:vs.length=t.size:=K0 hv;have a2:l.length=vs.length:=Ay
    generalize W:(c.toList.take (aB O p+i.toNat*t.size+0)++vs++c.toList.drop (aB O p+i.toNat*t.size+0+vs.length)).toArray=cc;have g:∀k,k≠b->(w.setRow b cc).heap[k]? =w.heap[k]? :=λk hk=>setRow_other w b k _ hk;have a8:c.size=pre.length+(f.length+(l.length+d.length)+j.length):=Ag
    have Y:=run_storeCells_at P b (aB O p+i.toNat*t.size) e0 vs 0 c w l3 Aa (oH hv);rw[W]at Y;have e1:cc.toList=pre++((f++(vs++d))++j):=by
     rw[<-W,m1,n1,<-m3,<-n3];have h1:List.take (pre.length+f.length+0) (pre++((f++(l++d))++j))=pre++f:=by
      grind
     have h2:List.drop (pre.length+f.length+0+vs.length) (pre++((f++(l++d))++j))=d++j:=by
      rw[Nat.add_zero,<-a2,show pre++((f++(l++d))++j)=(pre++f++l)++(d++j) by simp,Mn Af]
     rw[h1,h2];simp
    have a3:S2=[]:=by
     have:(Ty.arr N t).flat=true:=by simp_all[Ty.flat]
     have hn:so (mW Q p) (.arr N t)=true:=by
      obtain⟨c,hc⟩:=Qej m4 o;rw[hc];cases c<;>simp[so,this]
     exact kK hn m4
    have Zqh:rdF w X W0.B (.arr N t) (mW Q p) (A.set i.toNat I) (f++(vs++d)) []:=by
     have hx:rd w X W0.B K3 t I vs []:=(iU C (Vo (X':=λb=>X b\/b∈S) (λ_ h=>.inl h) am hv (λ_ h=>.inr h))).2;have hr:∀u,rd w X W0.B u (.arr N t) (A.set i.toNat I) (f++(vs++d)) []:=λu=>by
      refine⟨Ac,?_⟩;have e4:A.set i.toNat I=A.take i.toNat++(I::A.drop (i.toNat+1)):=by simp_all[Mt]
      rw[e4];have q1:=(px (r':=rd w X W0.B u t) (λx v S h=>iU C h) n5).2;have q2:=(px (r':=rd w X W0.B u t) (λx v S h=>iU C h) n6).2;show eh (rd w X W0.B u t) (A.take i.toNat++(I::A.drop (i.toNat+1))) (f++(vs++d)) ([]++([]++[]));exact rb q1 ⟨vs,d,[],[],rfl,rfl,(iU C hx).2,q2⟩
     obtain⟨c,hc⟩:=Qej m4 o
     grind[rdF]
    have Z:=m5 (mW Q p) ⟨.arr N t,A.set i.toNat I⟩ (f++(vs++d)) [] x' ar Zqh;have L:=h.nodup (.m r);rw[g2,m2,a3]at L;have a4:b∉S1++([]++S3):=(Ms.1 L).1;have ab:¬X b:=(h.own _ b E).2.2;have a5:W0.below (w.setRow b cc):=
     ⟨h.below.os,h.below.tape,h.below.output,by simpa[Ly]using h.below.size,λk hk=>(g k (W0.sep hk (h.own _ b E).1)).trans (h.below.block k hk)⟩
    have M:rdF (w.setRow b cc) X W0.B O (ZI Q p (mW Q p)) x' cc.toList (S1++([]++S3)):=by
     rw[e1];exact XQ (λ_ h=>h) (λD G=>g D λe=>ab Ac) Z (λD G=>g D λe=>a4 Ac)
    refine⟨b,⟨b,aB O p+i.toNat*t.size,K2⟩,w.setRow b cc,Xm F (.m r) (b:: (S1++([]++S3))),g6,Y,?_,E,g⟩;refine h.turn (S':=b:: (S1++([]++S3))) a5 Ac (λD G=>g D λe=>ab Ac)
     (λk D hk G=>g D λe=>hk (h.pS k (.m r) D G (by rw[e];exact E))) (λq hq=>Ac) (Lg.2 ⟨L,h.pK,λx hx y hy e=>h.pL (.m r) x Ac (by rw[e];exact hy)⟩) (by rw[g1];simp) ?_ ⟨b,_,_,l1,rfl,setRow_heap w b c _ e0 _ l3,by simpa using M⟩
    grind
   ·cases hs
  ·cases hs
 ·cases hs
def Z15(τ:Tab)(s:St)(tg:Kd)(e:Lb)(x v:Ld):Option St:=
 match τ e with
 |none=>K2
 |some T=>match VC s (op1 s tg v) T with
  |none=>K2
  |some t=>match op1 t.s tg x with
   |.tm k (.box _ _ _ _)=>Zsj t.s k [] t.f ⟨t.T,t.x⟩
   |.tm _ (.ptr r p)=>Zsj t.s r p t.f ⟨t.T,t.x⟩
   |.tm _ (.elp r p j q)=>Zyc t.s r p j q t.f ⟨t.T,t.x⟩
   |.tm _ (.aep r p i)=>Qcb t.s r p i t.f ⟨t.T,t.x⟩
   |_=>K2
def Zxl(τ:Tab)(s:St)(o:Li):Option Nat:=
 match o.op with
 |.store e x v=>match τ e with
  |none=>K2
  |some T=>match VC s (op1 s [] v) T with
   |none=>K2
   |some t=>match op1 t.s [] x with
    |.tm k (.box _ _ _ _)=>K1 k
    |.tm _ (.ptr r _)=>K1 r
    |.tm _ (.aep r _ _)=>K1 r
    |_=>K2
 |_=>K2
def Z16(h:R n W0 w X F H s a)(hτ:τ.ok P){e:Lb}{v:Ld}(ho:o.op=.store e x v)(hd:o.dst=K2)(hr:Z15 τ s [] e x v=K1 s')
  {K:Act->Lf->Prop}{Q:Exit->Act->Lf->Prop} (hK:∀w' F',R n W0 w' X F' H s' a->Zwo W0.gh X s a (Zxl τ s o) w w'->K a w'):o.wp P a w K Q:=by
 have M:Kd.ok [] W0.gh a:=λp hp=>by cases hp
 unfold Z15 at hr;split at hr
 ·cases hr
 ·rename_i T hT;split at hr
  ·cases hr
  ·rename_i t hk;obtain⟨ab,Z,S,vs,h1,D,g,_,l⟩:=eL h M hk;subst ab;have C:=Z04 (oH D) (K0 D);have fin:∀{N:Lc}{w':Lf},a.eval x=.pointer (K1 N)->(storeCells N vs).run P w=.ok () w'->(execOp a.eval o).run P w=.ok .skip w':=by
    intro N w' hx am;simp only[execOp,ho,hx,h1,Instr.storeAt,L2,storeVar,C,Lj,Lm,Ll,(hτ _ _ hT).sizeOf w];simp[K0 D,am]
   have u:∀{w'},(execOp a.eval o).run P w=.ok .skip w'->(∃F',R n W0 w' X F' H s' a/\Zwo W0.gh X s a (Zxl τ s o) w w')->o.wp P a w K Q:=by
    intro w' O ⟨F',hR,hkept⟩;unfold Ln;rw[O];show K (a.put o.dst undef) w';rw[hd];exact hK w' F' hR hkept
   have z:∀{r b:Nat}{w':Lf},Zxl τ s o=K1 r->b∈Z (.m r)->(∀k,k≠b->w'.heap[k]? =w.heap[k]?)->Zwo W0.gh X s a (Zxl τ s o) w w':=by
    intro r b w' d V hq b2 G;refine hq b2 λe=>?_;subst e;rcases G with G|⟨r2,z1,z2,z3⟩
    ·exact(g.own _ _ V).2.2 G
    ·obtain⟨S2,h4⟩:=g.boxIn (ZO hk z1) z3;have:=g.pS (.m r2) (.m r) b2 (by rw[h4];simp) V;simp_all
   split at hr
   ·rename_i k e' U f y hx;obtain⟨rfl,b,c,S',g1,W,g3,g4⟩:=V0 g M hx Ae;have hg:∃e2 U2 f2 y2,t.s.get (.m k)=.box e2 U2 f2 y2:=by
     grind[Go.Am.Zsj]
    obtain⟨e2,U2,f2,y2,hg⟩:=hg;obtain⟨w',F',Y,J,L⟩:=g.setRoot (P:=P) hr rfl D ⟨_,W⟩ hg;have d:Zxl τ s o=K1 k:=by simp_all[Zxl]
    exact u (fin g1 (by simp_all[aB])) ⟨F',J,z d (by rw[W];simp) L⟩
   ·rename_i k r p hx;obtain⟨rfl,h0,e2,U2,f2,y2,b,S',g1,W,g3⟩:=V0 g M hx Ae;obtain⟨w',F',Y,J,L⟩:=g.setRoot (P:=P) hr rfl D ⟨_,W⟩ g1;have d:Zxl τ s o=K1 r:=by simp_all[Zxl]
    exact u (fin g3 Y) ⟨F',J,z d (by rw[W];simp) L⟩
   ·rename_i k r p j q hx;obtain⟨rfl,I⟩:=V0 g M hx Ae;have E:(match Z5p t.s r p with|true=>t.f.allU K3||t.T.flat|false=>so t.f t.T)=true:=by
     grind[Go.Am.Zyc]
    have A:vt W0.gh w X W0.B t.s Z a (a.eval (.tmp k)) [] (.elp r p j q):=⟨rfl,I.2⟩
    have ar:∃Sy,rd w X W0.B (Z5p t.s r p) t.T t.x vs Sy/\R n W0 w X Z (Sy++H) t.s a:=by
     cases hel0:Z5p t.s r p<;>simp only[hel0]at E
     ·exact⟨[],Vo (λ_ h=>h) l D (λb V=>by grind[kK]),g.drop⟩
     rcases Bool.or_eq_true_iff.1 E with ho|hfl
     ·grind[Zsb]
     ·exact⟨[],(iU hfl (Vo (X':=λb=>X b\/b∈S) (λ_ h=>.inl h) l D (λ_ h=>.inr h))).2,g.drop⟩
    obtain⟨Sy,hv,au⟩:=ar;obtain⟨N,w',F',q0,Y,J,L⟩:=au.setElem (P:=P) hr hv A;exact u (fin q0 Y) ⟨F',J,λb V=>L b (V.imp id λ⟨r2,z1,_,z2⟩=>⟨r2,ZO hk z1,z2⟩)⟩
   ·rename_i k r p i hx;obtain⟨rfl,I⟩:=V0 g M hx Ae;have d:Zxl τ s o=K1 r:=by simp_all[Zxl]
    have A:vt W0.gh w X W0.B t.s Z a (a.eval (.tmp k)) [] (.aep r p i):=⟨rfl,I.2⟩
    obtain⟨b,N,w',F',q0,Y,J,L,q4⟩:=(g.drop).setArr (P:=P) hr D A
    grind
   ·cases hr
def Qk6(s:St)(x:Op1)(t:Ty):Option (t.den×St×Bool):=
 match VC s x t with
 |some u=>match u.T,u.f,u.x,t.flat with
  |T,_,y,K3=>match ay t T y with|some z=>K1 (z,u.s,u.moved)|none=>K2
  |T,f,y,K4=>match cK T f (.u K3),ay t T y with|true,K1 z=>K1 (z,u.s,u.moved)|_,_=>K2
 |none=>K2
def Qaa(h:R n W0 w X F H s a)(ht:tg.ok W0.gh a){t:Ty}{z:t.den}{mv:Bool}(hk:Qk6 s (op1 s tg x) t=K1 (z,s',mv)):
  ∃F' S vs,a.eval x=Jd t vs/\rd w X W0.B K3 t z vs S/\R n W0 w X F' (S++H) s' a/\(mv=K4->s'=s):=by
 unfold Qk6 at hk;split at hk
 ·rename_i u r;obtain⟨k,F',S,vs,l,f,m,o,v⟩:=eL h ht r;split at hk
  ·rename_i g;split at hk
   ·rename_i p i;simp only[pB,pF]at hk;obtain⟨rfl,rfl,rfl⟩:=hk;have e:=fG i;have d:u.T.flat=true:=Ac
    have y:rd w (λb=>X b\/b∈S) W0.B K4 u.T u.x vs []:=Vo (λ_ h=>.inl h) v f (λ_ h=>.inr h);have A:=(iU (X':=X) (own':=K3) (w':=w) d y).2;refine⟨F',[],vs,by rw[l,k],?_,m.drop,λj=>(o j).1⟩
    grind
   ·cases hk
  ·rename_i g;split at hk
   ·rename_i p c i;simp only[pB,pF]at hk;obtain⟨rfl,rfl,rfl⟩:=hk;have e:=fG i;refine⟨F',S,vs,by rw[l,k],?_,m,λj=>(o j).1⟩;have q:(⟨u.T,u.x⟩:TV)=⟨t,p⟩:=e;cases u with
    |mk C D E G I=>simp only at q f c;cases q;have:=oI c f;simp_all[rdF]
   ·cases hk
 ·cases hk
def Z48(tg:Kd)(t:Ty):Nat->List (Nat×Ld)->St->Bool->Option (List t.den×St×Bool)
 |_,[],s,mv=>K1 ([],s,mv)
 |k,(i,y)::r,s,mv=>match L4 i k with
  |false=>K2
  |true=>match Qk6 s (op1 s tg y) t with
   |some (z,s1,m1)=>match Z48 tg t (k+1) r s1 (mv||m1)with
    |some (l,s2,m2)=>K1 (z::l,s2,m2)
    |none=>K2
   |none=>K2
theorem Qc0:∀{r:List (Nat×Ld)}{t:Ty}{k:Nat}{s:St}{mv:Bool}{l:List t.den}{s':St}{mv':Bool},Z48 tg t k r s mv=K1 (l,s',mv')->mv'=K4->mv=K4
 |[],t,k,s,mv,l,s',mv',h,a=>by simp_all[Z48]
 |(i,y)::r,t,k,s,mv,l,s',mv',h,a=>by
  simp only[Z48]at h;split at h
  ·cases h
  ·split at h
   ·split at h
    ·rename_i b;simp only[pB,pF]at h;obtain⟨_,_,rfl⟩:=h;have:=Qc0 b a;simp_all
    ·cases h
   ·cases h
def Znm(ht:tg.ok W0.gh a){t:Ty}:∀{parts:List (Nat×Ld)}{k:Nat}{s:St}{mv:Bool}{l:List t.den}{s':St}{mv':Bool}{F:Key->List Nat}{H:List Nat}{cs:Array La}{A M C:List La},
  R n W0 w X F H s a->cs.toList=A++(M++C)->A.length=k*t.size->M.length=parts.length*t.size->Z48 tg t k parts s mv=K1 (l,s',mv')->
  ∃F' S vs cs',Lv (λi=>K1 (i*t.size,t.size)) cs (parts.map λp=>(p.1,a.eval p.2))=K1 cs'/\cs'.toList=A++(vs++C)/\eh (rd w X W0.B K3 t) l vs S/\l.length=parts.length/\
   R n W0 w X F' (S++H) s' a/\(mv'=K4->s'=s)
 |[],k,s,mv,l,s',mv',F,H,cs,A,M,C,h,d,u,x,b=>by
  simp only[Z48,pB,pF]at b;obtain⟨rfl,rfl,rfl⟩:=b;have:M=[]:=Mo (by simpa using x);subst this;exact⟨F,[],[],cs,rfl,d,⟨rfl,rfl⟩,rfl,h,λ_=>rfl⟩
 |(i,y)::r,k,s,mv,l,s',mv',F,H,cs,A,M,C,h,d,u,x,b=>by
  simp only[Z48]at b;split at b
  ·cases b
  ·rename_i e;have e:=pD e;subst e;split at b
   ·rename_i z P Q I;split at b
    ·rename_i U V W j;simp only[pB,pF]at b;obtain⟨rfl,rfl,rfl⟩:=b;obtain⟨Y,D,vs,J,m,K,Z⟩:=Qaa h ht I;have c:=Zgv (zZ m) (Jx m);have f:(a.eval y).cells.size=t.size:=by grind[Array.length_toList,Jx]
     have o:M.length=t.size+r.length*t.size:=Ag
     obtain⟨q,E,g2⟩:=Zen (place:=λi=>K1 (i*t.size,t.size)) (i:=i) (rest:=r.map λp=>(p.1,a.eval p.2)) (v:=a.eval y) rfl (pre:=A) (mid:=M.take t.size) (post:=M.drop t.size++C)
      (by rw[d,<-L9 (M.take _),Mu]) u Af f
     rw[J,c]at E;obtain⟨F',S,g,cs',k1,L,N,O,G,k6⟩:=Znm ht (k:=i+1) (cs:=q) (A:=A++vs) (M:=M.drop t.size) (C:=C) K (by rw[E];simp) Ag (by simp[o]) j;refine⟨F',D++S,vs++g,cs',Ac,by rw[L];simp,⟨vs,g,D,S,rfl,rfl,m,N⟩,by simp[O],?_,λhm=>?_⟩
     ·refine G.sub ?_ ?_
      ·grind
      ·have:=G.pK
       grind
     grind[Qc0]
    ·cases b
   ·cases b
def Zdv(τ:Tab)(s:St)(tg:Kd)(e:Lb)(len:Nat)(parts:Array (Nat×Ld)):Option Res:=
 match τ e with
 |some (.slice e' t)=>match τ e' with
  |some t2=>match Le (t2=t),L4 parts.size len&&Nat.ble (len*t.size) 16777216 with
   |true,K3=>match Z48 tg t 0 parts.toList s K4 with
    |some (l,s',mv)=>K1 ⟨.val (.slice e' t) (.u K3) l,s',mv,K2⟩
    |none=>K2
   |_,_=>K2
  |none=>K2
 |_=>K2
def Zlq(h:R n W0 w X F H s a)(ht:tg.ok W0.gh a)(hτ:τ.ok P){e:Lb}(ho:o.op=.buildSlice e len parts)(hr:Zdv τ s tg e len parts=K1 r):ZW P n W0 w X H s a o r:=by
 unfold Zdv at hr;split at hr
 ·rename_i J t u;split at hr
  ·rename_i d y;split at hr
   ·rename_i L f;split at hr
    ·rename_i l s' mv j;simp only[pB]at hr;subst hr;have:=pE L;subst this;simp only[pC,Nat.ble_eq]at f;have D:=pD f.1;obtain⟨hu,m⟩:=(hτ _ _ u).slice;obtain⟨i,hi,N,_,hz⟩:=(hτ _ _ y).size;intro _ K Q O;obtain⟨c,E⟩:∃c:Array La,c=(Array.range (len*i.size)).map ((Jd d (al d)).cells[· % (Jd d (al d)).cells.size]!):=⟨_,rfl⟩
     have G:c.toList.length=len*d.size:=Ac
     obtain⟨U,S,z,g,k1,V,W,k4,I,Y⟩:=Znm ht (k:=0) (cs:=c) (A:=[]) (M:=c.toList) (C:=[]) h Ae Ae Ac j;have p:l.length=len:=Ac
     have q:(execOp a.eval o).run P w=.ok (.value (.slice (K1 ⟨w.heap.size,0,K2⟩) len len)) (w.alloc (.cells g J)):=by
      simp only[execOp,ho,Lj];by_cases Z:len*i.size=0
      ·have ab:len=0:=by
        grind[Nat.mul_eq_zero]
       simp_all[Instr.buildSlice,run_underlying,Lo,typeInfo,newRow,Array.range_zero']
      simp_all[run_buildSlice]
     unfold Ln;rw[q];have ad:g.toList=z:=by simpa using V
     refine O _ X U (w.heap.size::S) _ (λ_ h=>h) (I.alloc _) ⟨[_],rfl,?_⟩ Y ⟨λ_=>Old.alloc _ _,h.kept (Old.alloc _ _)⟩;unfold rdF;have B:z.length=len*d.size:=by grind[XT,Jx]
     refine⟨_,z,[w.heap.size],S,rfl,rfl,⟨⟨by rw[B,p],.inr ⟨w.heap.size,len,g,by rw[p],h.below.sizeB,Zqh _ _,Aa,?_,?_,?_⟩⟩,rfl⟩,?_⟩
     ·have:=f.2;have h2:len<=len*d.size:=Nat.le_mul_of_pos_right _ m
      grind[maxLen]
     ·grind
     ·grind
     ·exact J6 W λx v T _ u hr=>eU (λ_ h=>h) (λb j=>hold w _ b (h.xlt b j)) hr λb j=>hold w _ b (I.hown b (by simp[u b j])).2.1
    ·cases hr
   ·cases hr
  ·cases hr
 ·cases hr
def Ziv(τ:Tab)(s:St)(tg:Kd)(e:Lb)(parts:Array (Nat×Ld)):Option Res:=
 match τ e with
 |some (.arr n t)=>match parts.toList with
  |[]=>K1 ⟨.val (.arr n t) (.u K3) (Lw n (zero t)),s,K4,K2⟩
  |p::ps=>match L4 (p::ps).length n,Z48 tg t 0 (p::ps) s K4 with
   |true,K1 (l,s',mv)=>K1 ⟨.val (.arr n t) (.u K3) l,s',mv,K2⟩
   |_,_=>K2
 |_=>K2
def Zp4(h:R n W0 w X F H s a)(ht:tg.ok W0.gh a)(hτ:τ.ok P){e:Lb}(ho:o.op=.build e parts)(hr:Ziv τ s tg e parts=K1 r):ZW P n W0 w X H s a o r:=by
 unfold Ziv at hr;split at hr
 ·rename_i m t f;obtain⟨y,W,z,g⟩:=(hτ _ _ f).arr;obtain⟨i,Y,B,_,Z⟩:=(hτ _ _ f).size;obtain⟨j,hj,D,_⟩:=wn g;have E:(Jd (.arr m t) (al (.arr m t))).cells=(al (.arr m t)).toArray:=rfl;split at hr
  ·rename_i q;simp only[pB]at hr;subst hr;intro _ K Q u;have c:(execOp a.eval o).run P w=.ok (.value (.agg (al (.arr m t)).toArray)) w:=by
    simp_all[execOp,L6,zeroValue,typeInfo,run_underlying,Lo,Lv]
   unfold Ln;rw[c];refine u _ X F [] w (λ_ h=>h) (by simpa using h) ⟨al (.arr m t),rfl,?_⟩ (λ_=>rfl) ⟨λ_=>Old.refl w,h.kept (Old.refl w)⟩;unfold rdF;exact JH (hτ _ _ f).plain
  ·rename_i p ps q;split at hr
   ·rename_i l s' mv b G;simp only[pB]at hr;subst hr;have b:=pD b;intro _ K Q u;have v:(al (.arr m t)).length=m*t.size:=KL (hτ _ _ f).plain;obtain⟨I,S,J,d,k1,L,N,O,U,V⟩:=Znm ht (k:=0) (cs:=(al (.arr m t)).toArray) (A:=[]) (M:=al (.arr m t)) (C:=[]) h Ae Ae (by rw[v,b]) G;have c:(execOp a.eval o).run P w=.ok (.value (.agg d)) w:=by
     simp only[execOp,ho,Lj,L6,zeroValue,typeInfo,Lm,run_underlying z,Ll];simp_all[Lo,typeInfo]
    unfold Ln;rw[c];have x:d.toList=J:=by simpa using L
    refine u _ X I S w (λ_ h=>h) U ⟨d.toList,by simp[Jd],?_⟩ V ⟨λ_=>Old.refl w,h.kept (Old.refl w)⟩;unfold rdF;rw[x];exact⟨by rw[O,b],N⟩
   ·cases hr
 ·cases hr
def YI(z:List La):∀(m j:Nat),j<m*z.length->(Lw m z).flatten[j]? =z[j%z.length]?
 |0,j,h=>by simp at h
 |m+1,j,h=>by
  rw[List.replicate_succ,List.flatten_cons];by_cases a:j<z.length
  ·rw[Lp a,Nat.mod_eq_of_lt a]
  ·rw[Lq Aa,YI z m (j-z.length) Ag];simp_all[Nat.mod_eq_sub_mod]
theorem Z0k(z:Array La){l c:Nat}(hlc:l<=c):(madeCells z (c*z.size)).toList.take (l*z.size)=(Lw l z.toList).flatten:=by
 apply Mp;intro j;have d:(Lw l z.toList).flatten.length=l*z.size:=Ae
 by_cases a:j<l*z.size
 ·have b:j<c*z.size:=Mw a (My _ hlc);have f:0<z.size:=Nat.pos_of_ne_zero λe=>Ac
  rw[List.getElem?_take,if_pos a,YI _ _ _ (by simpa using a)];simp_all[Nat.mod_lt,madeCells]
 grind
def Z6e(τ:Tab)(s:St)(tg:Kd)(e:Lb)(x y:Ld):Option Res:=
 match τ e with
 |some (.slice e' t)=>match τ e',ze s (op1 s tg x),ze s (op1 s tg y)with
  |some t2,K1 (_,l),K1 (_,c)=>match Le (t2=t)with
   |true=>K1 ⟨.val (.slice e' t) (.u K3) (Lw l.toNat (zero t)),s,K4,K1 (0<=l/\l<=c/\c<=Qp)⟩
   |false=>K2
  |_,_,_=>K2
 |_=>K2
def Z2u(h:R n W0 w X F H s a)(ht:tg.ok W0.gh a)(hτ:τ.ok P){e:Lb}{y:Ld}(ho:o.op=.makeSlice e x y)(hr:Z6e τ s tg e x y=K1 r):ZW P n W0 w X H s a o r:=by
 unfold Z6e at hr;split at hr
 ·rename_i j t m;split at hr
  ·rename_i f p l q c b u v;split at hr
   ·rename_i z;simp only[pB]at hr;subst hr;have:=pE z;subst this;obtain⟨A,k⟩:=(hτ _ _ m).slice;obtain⟨i,B,C,D,E⟩:=(hτ _ _ b).size;intro G K Q I;obtain⟨J,L,M⟩:0<=l/\l<=c/\c<=Qp:=G;have g:c<=17179869184:=M;have N:=gq h ht u;have O:=gq h ht v;have S:(i.bytes:Int)*c<=281474976710656:=by
     have:(i.bytes:Int)*c<=8192*17179869184:=Int.mul_le_mul Aa g Aa Aa;omega
    have d:(execOp a.eval o).run P w=.ok (.value (.slice (K1 ⟨w.heap.size,0,K2⟩) l.toNat c.toNat)) (w.alloc (.cells (madeCells (al f).toArray (c.toNat*i.size)) j)):=by
     simp only[execOp,ho,N,O,Lj,run_make w e j i _ A B E p q l c J L S Aa,Ll,Lm,KE (hτ _ _ b).plain]
    unfold Ln;rw[d];refine I _ X F [w.heap.size] _ (λ_ h=>h) (h.alloc _) ⟨[_],rfl,?_⟩ (λ_=>rfl) ⟨λ_=>Old.alloc _ _,h.kept (Old.alloc _ _)⟩;unfold rdF;have U:(al f).toArray.size=f.size:=by simp[KL (hτ _ _ b).plain]
    refine⟨_,(Lw l.toNat (al f)).flatten,[w.heap.size],[],rfl,rfl,⟨⟨Ac,.inr ⟨w.heap.size,c.toNat,_,Ae,h.below.sizeB,Zqh _ _,Af,by grind[maxLen],?_,?_⟩⟩,rfl⟩,Zbv (JH (hτ _ _ b).plain) _⟩
    all_goals grind[size_madeCells,Z0k]
   ·cases hr
  ·cases hr
 ·cases hr
def Zs4(τ:Tab)(s:St)(tg:Kd)(e:Lb)(x y:Ld):Option Res:=
 match τ e with
 |some (.slice e' t)=>match τ e' with
  |some t2=>match Le (t2=t),VC s (op1 s tg x) (.slice e' t)with
   |true,K1 ⟨.slice e1 t1,.u K3,l,s1,_⟩=>match Le (e1=e'/\t1=t)with
    |true=>match t.flat,Zkp s1 (op1 s1 tg y)with
     |true,K1 ⟨_,t3,_,l3⟩=>match ay (.slice e' t1) (.slice e' t3) l3 with
      |some l4=>K1 ⟨.val (.slice e' t1) (.u K3) (l++l4),s1,K3,K1 (l.length+l4.length<=Qp)⟩
      |none=>K2
     |false,_=>match VC s1 (op1 s1 tg y) (.slice e' t)with
      |some ⟨.slice e3 t3,.u K3,l3,s2,_⟩=>match ay (.slice e' t1) (.slice e3 t3) l3 with
       |some l4=>K1 ⟨.val (.slice e' t1) (.u K3) (l++l4),s2,K3,K1 (l.length+l4.length<=Qp)⟩
       |none=>K2
      |_=>K2
     |_,_=>K2
    |false=>K2
   |_,_=>K2
  |none=>K2
 |_=>K2
def Zf0{e:Lb}{t:Ty}(hT:TOK P e (.slice e' t))(hT2:TOK P e' t){vy:La}{l l4:List t.den}
  (hown:w.ownsRow B e' t.size v l.length xs) (hy:∃ad cap,vy=.slice ad l4.length cap/\l4.length<=cap/\((ad=K2/\l4.length=0/\cap=0)\/ ∃a0,ad=K1 a0/\ ∀j u,ys[j]? =K1 u->w.cell? (a0.add j)=K1 u)) (hyl:ys.length=l4.length*t.size)
  (h1:∀u∈ys,u.oneCell'=K3) (hp:l.length+l4.length<=Qp) (hB:B<=w.heap.size):
  ∃v' w',(L0 #[e,e] e #[v,vy]).run P w=.ok v' w'/\w'.ownsRow B e' t.size v' (l.length+l4.length) (xs++ys)/\w.grownBy w' v.ownBlock/\(v'.ownBlock=v.ownBlock\/ ∀b,v'.ownBlock=K1 b->w.heap.size<=b):=by
 obtain⟨o,f⟩:=hT.slice;obtain⟨i,p,a,E,F⟩:=hT2.size;have r:(Jd t (al t)).cells.size=t.size:=by rw[KE hT2.plain];simp[KL hT2.plain]
 have G:l.length+l4.length<=17179869184:=hp;obtain⟨ad,cap,rfl,Q,q⟩:=hy;rcases q with⟨rfl,s,rfl⟩|⟨a0,rfl,q⟩
 ·have H:ys=[]:=Mo Ac;subst H;have x:=hown.2;rcases x with⟨rfl,N⟩|⟨g,cap,h,rfl,I,O,y,J,z,K⟩
  ·refine⟨.slice K2 0 0,w,?_,Ac,⟨rfl,rfl,rfl,Lx _,λ_ _ _=>rfl⟩,.inl rfl⟩;rw[s];simp[L0,run_underlying o,Lo,typeInfo,p,Mh,Mg]
  ·refine⟨.slice (K1 ⟨g,0,K2⟩) l.length cap,w,?_,Ac,⟨rfl,rfl,rfl,Lx _,λ_ _ _=>rfl⟩,.inl rfl⟩;rw[s];simp[L0,run_underlying o,Lo,typeInfo,p,Mh,Mg,y,storeCells]
 ·have k:(l.length+l4.length)*i.bytes<=140737488355328:=by
   have:(l.length+l4.length)*i.bytes<=17179869184*8192:=Nat.mul_le_mul G E;omega
  have A:l.length+l4.length<=maxLen:=by grind[maxLen]
  obtain⟨v',w',L,S,U,_⟩:=run_append_own (P:=P) w B e e e' i _ t.size i.bytes o p F a rfl r f v l.length xs hown a0 l4.length cap ys hyl q h1 A k hB;refine⟨v',w',L,S,U,?_⟩;rcases hown.2 with⟨rfl,N⟩|⟨g,c,h,rfl,I,O,y,J,z,K⟩
  ·have m:w.ownsRow w.heap.size e' t.size (.slice K2 0 0) l.length xs:=⟨hown.1,.inl ⟨rfl,N⟩⟩
   obtain⟨W,X,M,V,_⟩:=run_append_own (P:=P) w w.heap.size e e e' i _ t.size i.bytes o p F a rfl r f _ l.length xs m a0 l4.length cap ys hyl q h1 A k (Lx _);rw[L]at M;simp only[M2]at M;obtain⟨rfl,rfl⟩:=M;exact .inr λb I=>(V.lt b I).1
  ·by_cases d:l.length+l4.length<=c
   ·have C:l.length*i.size+ys.length<=h.size:=by rw[hyl,z,a,<-Nat.add_mul];exact My _ d
    have D:=run_append_room (P:=P) w e e e' i o p g l.length c h O a0 l4.length cap ys (by rw[hyl,a]) q h1 d C;rw[L]at D;simp only[M2]at D;exact .inl (by rw[D.1];rfl)
   ·have n:∀j u,xs[j]? =K1 u->w.cell? ((⟨g,0,K2⟩:Lc).add j)=K1 u:=hown.cells (g:=g) rfl;have D:=run_append_grow (P:=P) w e e e' i _ o p F ⟨g,0,K2⟩ l.length c xs (by rw[hown.1,a]) n a0 l4.length cap ys (by rw[hyl,a]) q Aa Aa (growslice_fits Aa k)
    grind[L5]
def Zgu{B':Nat}{e:Lb}{nn:Nat}(h:w.ownsRow B e sz v nn xs)(hB:B'<=B):w.ownsRow B' e sz v nn xs:=
 ⟨h.1,h.2.imp id λ⟨g,a,b,c,d,f⟩=>⟨g,a,b,c,Mc hB d,f⟩⟩
def Z42{S1 S2 S4:List Nat}(h:R n W0 w X F (S1++(S2++(S4++H))) s a){t:Ty}{v':La}{l l4:List t.den}
  (h1:hdr w X W0.B K3 e' t.size l.length v xs S1) (h2:eh (rd w X W0.B K3 t) l xs S2) (h4:eh (rd w X W0.B K3 t) l4 ys S4)
  (g2:w'.ownsRow W0.B e' t.size v' (l.length+l4.length) (xs++ys)) (g3:w.grownBy w' v.ownBlock) (g4:v'.ownBlock=v.ownBlock\/ ∀b,v'.ownBlock=K1 b->w.heap.size<=b):
  ∃S,R n W0 w' X F (S++H) s a/\rd w' X W0.B K3 (.slice e' t) (l++l4) [v'] S/\(∀b,X b->w'.heap[b]? =w.heap[b]?)/\ ∀k b,b∈F k->w'.heap[b]? =w.heap[b]? :=by
 have j:S1=v.ownBlock.toList:=h1.2;have d:∀b,b<w.heap.size->b∉S1->w'.heap[b]? =w.heap[b]? :=λb c z=>g3.block b c (λe=>z Ac);have i:=h.pK;have m:∀b,X b->w'.heap[b]? =w.heap[b]? :=λb c=>d b (h.xlt b c) λf=>(h.hown b (by simp[f])).2.2 c;have r:∀k b,b∈F k->w'.heap[b]? =w.heap[b]? :=λk b c=>d b (h.own k b c).2.1 λf=>h.pL k b c (by simp[f]);have g:∀b,b∈S2++(S4++H)->b∉S1:=λb c f=>(Lg.1 i).2.2 b f b c rfl;have A:∀b,b∈S2++(S4++H)->w'.heap[b]? =w.heap[b]? :=λb c=>d b (h.hown b Ac).2.1 (g b c);have o:W0.below w':=⟨g3.os.trans h.below.os,g3.tape.trans h.below.tape,g3.output.trans h.below.output,Mc h.below.size g3.size,λk hk=>
  (d k (Mw (W0.yW k hk) h.below.size) λf=>W0.sep hk (h.hown k (by simp[f])).1 rfl).trans (h.below.block k hk)⟩
 have u:=(h.drop).world o g3.size m r;have p:=g2.lt;have C:R n W0 w' X F (v'.ownBlock.toList++(S2++(S4++H))) s a:=by
  rcases g4 with g4|g4
  ·rw[g4,<-j];refine u.hand (λb c=>?_) (Lg.1 i).1 (λk b c f=>h.pL k b c (by simp[f])) (λb c f=>g b f c);obtain⟨I,J,K⟩:=h.hown b (by simp[c]);simp_all
  ·refine u.hand (λb c=>?_) Ag (λk b c f=>?_) (λb c f=>?_)
   ·have c:v'.ownBlock=K1 b:=by simpa using c
    exact⟨.inl (Mc h.below.size (g4 b c)),(p b c).2,λhx=>Ag⟩
   all_goals grind
 have y:∀{l:List t.den}{xs:List La}{S:List Nat},eh (rd w X W0.B K3 t) l xs S->(∀b∈S,b∈S2++(S4++H))->eh (rd w' X W0.B K3 t) l xs S:=λD E=>
  J6 D λx v T _ G q=>eU (λ_ h=>h) m q λb c=>A b (E b (G b c))
 refine⟨v'.ownBlock.toList++(S2++S4),Ac,⟨v',xs++ys,v'.ownBlock.toList,S2++S4,rfl,rfl,⟨by simpa using g2,rfl⟩,?_⟩,m,r⟩;simp_all[rb]
def Zwt(h:R n W0 w X F H s a)(ht:tg.ok W0.gh a)(hτ:τ.ok P){e:Lb}{y:Ld}(ho:o.op=.call {callee:=.builtin .append,args:= #[x,y],argTypes:= #[e,e]})(hr:Zs4 τ s tg e x y=K1 r):ZW P n W0 w X H s a o r:=by
 unfold Zs4 at hr;split at hr
 ·rename_i e' t hT;split at hr
  ·rename_i t2 O;split at hr
   ·rename_i e1 U l s1 m1 hd hx;have:=pE hd;subst this;obtain⟨_,F1,S,vs,q1,V,I,_,_⟩:=eL h ht hx;split at hr
    ·rename_i W;obtain⟨rfl,rfl⟩:=pE W;simp only at q1 V I;unfold rdF at V;obtain⟨v,xs,Y,Z,rfl,rfl,k1,k2⟩:=V;have fin:∀{i m S4 z f}{p:La}{r:Res},R n W0 w X m (S4++((Y++Z)++H)) i a->(∀r,s.isBox r->i.isBox r)->a.eval y=p->
       (∃A d,p=.slice A f.length d/\f.length<=d/\((A=K2/\f.length=0/\d=0)\/ ∃J,A=K1 J/\ ∀j u,z[j]? =K1 u->w.cell? (J.add j)=K1 u))->
       eh (rd w X W0.B K3 U) f z S4->r=⟨.val (.slice e1 U) (.u K3) (l++f),i,K3,K1 (l.length+f.length<=Qp)⟩->ZW P n W0 w X H s a o r:=by
      intro i m S4 z f p r hR ab q hc c am;subst am;intro L K Q hK;obtain⟨v',M,g1,N,C,g4⟩:=Zf0 (P:=P) (hτ _ _ hT) (hτ _ _ O) k1.1 hc (XT (λ_ _ _ h=>Jx h) c) (J' (λ_ _ _ h=>zZ h) c) L h.below.sizeB;have ar:R n W0 w X m (Y++(Z++(S4++H))) i a:=hR.sub (λb g=>Ag) (by
       have:=hR.pK;simp only[Lg,Lt]at this⊢
       grind)
      obtain⟨S',z1,z2,z3,z4⟩:=Z42 ar k1 k2 c N C g4;have au:a.eval x=v:=q1;have D:(execOp a.eval o).run P w=.ok (.value v') M:=by
       simp only[execOp,ho];have a1:(L0 #[e,e] o.type #[v,p]).run P w=.ok v' M:=g1;simp[resolve,invoke,builtin,au,q,a1]
      have E:Zwo W0.gh X s a K2 w M:=by
       intro b g;rcases g with g|⟨r,h1,_,h2⟩
       ·exact z3 b g
       ·obtain⟨S,h3⟩:=hR.boxIn (ab r h1) h2
        grind
      unfold Ln;rw[D];exact hK _ X m S' M (λ_ h=>h) z1 ⟨[v'],rfl,Av⟩ Ae ⟨λL=>(by rw[ho]at L;cases L),E⟩
     split at hr
     ·rename_i e3 t3 b3 l3 G q;split at hr
      ·rename_i f k;simp only[pB]at hr;have:=fG k;cases this;obtain⟨p,z,T1,T2,g1,N,C,g4⟩:=WZ I ht q;have g5:=px (r':=rd w X W0.B K3 U) (λx v S h=>iU G h) C;refine fin (S4:=[]) (by simpa using I) (λr g=>ZO hx g) g1 ?_ g5.2 hr.symm
       grind[fI]
      ·cases hr
     ·rename_i G;split at hr
      ·rename_i e3 t3 l3 i m2 q;split at hr
       ·rename_i f k;simp only[pB]at hr;have:=fG k;cases this;obtain⟨_,m,S4,a3,u1,u2,u3,_,_⟩:=eL I ht q;simp only at u1 u2 u3;unfold rdF at u2;obtain⟨p,z,T1,T2,rfl,rfl,N,C⟩:=u2;have a2:R n W0 w X m (T2++((Y++Z)++H)) i a:=by
         rw[L9]at u3;exact u3.drop
        refine fin a2 (λr g=>ZO q (ZO hx g)) u1 ?_ C hr.symm;obtain⟨A,d,z1,z2,_,z3⟩:=fI N;exact⟨A,d,z1,z2,z3.imp id λ⟨J,u1,_,u2⟩=>⟨J,u1,u2⟩⟩
       ·cases hr
      ·cases hr
     ·cases hr
    ·cases hr
   ·cases hr
  ·cases hr
 ·cases hr
end Go.Am

/- No condition. -/
import Derived.Test.YtcnklikmapfnmaaGreatDoorAm3
import Derived.Laws.CopyRow
import Derived.Lib.AppendZerosOnto
import Derived.Lib.Overlaps
import Derived.Laws.Externs
import Derived.Laws.NewBlocks
import Derived.Shelf.RegionOpenPlain
import Derived.Shelf.SlSortCmp.InsertionK
import Derived.ArgAppend
import Derived.Lib.TrimByte
set_option linter.all false
namespace Go.Am
noncomputable section
open Go.RowKit Go.Sort Go.Proofs
open Option renaming some→K1
open Go renaming Value→K2,World→K3,Builtin→La,TypeId→Lb,Calls→Lf
open Bool renaming true→K4
open Decidable renaming decide→Lc
open List renaming nodup_append→Ld,append_nil→Lg,mem_cons→Lk,attach_map_subtype_val→Ls,ext_getElem→Lt,flatMap_cons→Lu,length→Lv,mem_append→Lw,nodup_nil→Lx
open Builtin renaming zeroCells→Le,copy_→Li,append_→Lq,clear_→Lr
open Nat renaming add_mul→Lh,lt_of_lt_of_le→Ll,mul_le_mul_right→Lm,zero_add→Ln,zero_le→Ly
open Lib renaming trimB→Lj
open World renaming cell?→Lo,frozen?→Lp,setRow→L0
open Region renaming wanted→Lz
variable{a:Act}{K:Act->K3->Prop}{ops:Array Oper}{cur:Array K2}{Q:Exit->Act->K3->Prop}{f:FuncId}{g:Jh}{vs:List K2}{k b m c:Nat}{o:Oper}{d s:Operand}{P:Program}{α:Type}{e' t' S E:Lb}{v u v':K2}{W w w':K3}
def A0{w:K3}{X X':Nat->Prop}{B:Nat}:∀{T:Ty}{x:T.den}{vs:List K2}{S:List Nat},rd w X B K4 T x vs S->rd w X' B K4 T x vs S
 |.unit,_,_,_,h|.int _,_,_,_,h|.bool,_,_,_,h|.fnc _,_,_,_,h|.str,_,_,_,h|.err,_,_,_,h=>h
 |.slice _ t,_,_,_,⟨v,j,f,g,e,i,c,d⟩=>⟨v,j,f,g,e,i,c,J0 d λ_ _ _ _ _ h=>A0 (T:=t) h⟩
 |.pair a b,_,_,_,⟨k,l,f,g,e,i,c,d⟩=>⟨k,l,f,g,e,i,A0 c,A0 d⟩
 |.arr n t,_,_,_,⟨h,m⟩=>⟨h,J0 m λ_ _ _ _ _ h=>A0 (T:=t) h⟩
 |.hid _,_,_,_,⟨e,y,h⟩=>⟨e,y,A0 h⟩
 |.sptr ..,_,_,_,⟨_,o,_⟩=>by simp at o
 |.clo ..,_,_,_,⟨e,p,c,d⟩=>⟨e,p,c,A0 d⟩
def OX{e:Lb}(hu:P.underlying e=K1 (.slice e'))(hz:∀w,(Go.sizeOf e').run P w=.ok k w)(w:K3)(ty:Lb)(g o dLen dCap:Nat)(a:Addr)(sLen sCap:Nat)(cur:Array K2)(t:Lb)(cs:List K2)
  (hg:w.heap[g]? =K1 (.cells cur t (0,0))) (nn:Nat) (hn:nn=Nat.min sLen dLen) (hl:cs.length=nn*k)
  (hsrc:∀j v,cs[j]? =K1 v->w.cell? (a.add j)=K1 v) (hfit:o+cs.length<=cur.size) (h1:∀v∈cs,v.oneCell'=K4):
  (Li #[e,e] ty #[.slice (K1 ⟨g,o,none⟩) dLen dCap,.slice (K1 a) sLen sCap]).run P w=
   .ok (goInt nn) (w.setRow g (cur.toList.take o++cs++cur.toList.drop (o+cs.length)).toArray):=by
 have b:=run_loadCells_list (P:=P) w a cs hsrc;have c:=run_storeCells_at P g o t cs 0 cur w hg (by simpa using hfit) h1;simp_all[Li,run_underlying,La.lenOf,La.firstCells]
def P5{R:Array K2}{t:Lb}{fz:Nat×Nat}(h:W.heap[b]? =K1 (.cells cur t fz)):(W.setRow b R).heap[b]? =K1 (.cells R t fz):=by simp[L0,Array.getElem?_modify,h]
def wU{x:Nat}{R:Array K2}(hne:x≠b):(W.setRow b R).heap[x]? =W.heap[x]? :=by simp[L0,Array.getElem?_modify,Ne.symm hne]
def C7{t:Lb}(ho:o.op=.call {callee:=.builtin .copy,args:= #[d,s],argTypes:= #[t,t']})(hd:a.eval d=v)(hs:a.eval s=u)
  (hr:(Li #[t,t'] o.type #[v,u]).run P w=.ok v' w'):(execOp a.eval o).run P w=.ok (.value v') w':=by
 simp_all[execOp,resolve,invoke,builtin]
def Ia{t:Lb}(ho:o.op=.call {callee:=.builtin .append,args:= #[d,s],argTypes:= #[t,t']})(hd:a.eval d=v)(hs:a.eval s=u)
  (hr:(Lq #[t,t'] o.type #[v,u]).run P w=.ok v' w'):(execOp a.eval o).run P w=.ok (.value v') w':=by
 simp_all[execOp,resolve,invoke,builtin]
def Qkx(hr:(execOp a.eval o).run P w=.ok (.value v') w')(h:K (a.put o.dst v') w'):o.wp P a w K Q:=by unfold Oper.wp;rw[hr];exact h
def IT{rest:List Oper}(hgd:o.guard=none)(hr:(execOp a.eval o).run P w=.ok (.value v') w')
  (h:wpList P ops Q rest (a.put o.dst v') w'):wpList P ops Q (o::rest) a w:=wpList_plain hgd λ_ b=>Qkx hr (b _ _ h)
def jW{E:Prop}(hg:o.guard=none)(hr:(execOp a.eval o).run P w=.ok (.value v') w')
  (hK:K (a.put o.dst v') w'):ite (Lz o (yielded ops a.tmps)=K4) (Oper.wp P o a w K Q) E:=by
 rw[if_pos (by simp[Lz,hg])];exact Qkx hr hK
def wS{R:Array K2}:(w.setRow b R).heap.size=w.heap.size:=Af
def Eb{α:Type}(l:List α)(i:Int)(v:List α):Option ((List α×Unit)×Unit):=Zd (0<=i/\i<=l.length/\0<v.length/\l.length+v.length<=Qd) (K1 ((l.take i.toNat++v++l.drop i.toNat,()),()))
def UL{α:Type}{r:α->List K2->List Nat->Prop}{sz:Nat}(hr:∀x v S,r x v S->v.length=sz):∀{l:List α}{vs:List K2}{S:List Nat}{i:Nat},i<=l.length->
  dY r l vs S-> ∃S1 S2,S=S1++S2/\dY r (l.take i) (vs.take (i*sz)) S1/\dY r (l.drop i) (vs.drop (i*sz)) S2
 |l,vs,S,0,_,h=>⟨[],S,rfl,by simp[dY],by simpa using h⟩
 |[],_,_,i+1,a,_=>by simp at a
 |x::l,vs,S,i+1,a,⟨b,m,S1,S2,e,n,c,f⟩=>by
  obtain⟨d,g,o,j,p⟩:=UL hr (i:=i) (by simpa using a) f;have q:=hr _ _ _ c;have k:(i+1)*sz=b.length+i*sz:=Ai
  refine⟨S1++d,g,Af,?_,?_⟩
  ·rw[e,k,List.take_append,List.take_of_length_le (l:=b) (Nat.le_add_right _ _),Nat.add_sub_cancel_left];exact(⟨b,_,S1,d,rfl,rfl,c,j⟩:dY r (x::l.take i) _ _)
  simp_all[List.drop_append,List.drop_of_length_le]
def zY.insert{t:Ty}(enters:∀args w,(callFunc f args).run P w=.ok (.enter f args) w)
  (hins:∀{w:K3}{v vy:K2}{xs ys:List K2}{l l4:List t.den}{i:Nat},w.ownsRow 0 e' t.size v l.length xs->w.ownsRow 0 e' t.size vy l4.length ys->(∀b,v.ownBlock=K1 b->vy.ownBlock≠K1 b)->i<=l.length->0<l4.length->l.length+l4.length<=Qd->
   (∀u∈xs,u.oneCell'=K4)->(∀u∈ys,u.oneCell'=K4)->
   Lf P f #[v,.int .i64 i,vy] w λe w'=> ∃v',e=.returned v'/\w'.ownsRow 0 e' t.size v' (l.length+l4.length) (xs.take (i*t.size)++ys++xs.drop (i*t.size))/\w.grownBy w' v.ownBlock/\(v'.ownBlock=v.ownBlock\/ ∀b,v'.ownBlock=K1 b->w.heap.size<=b)):
  zY P g {f:=f,args:=[.mv (.slice e' t) (.u K4),.sh (.int .i64),.mv (.slice e' t) (.u K4)],res:=.vals [.slice e' t],F:=λxs=>Eb xs.1 xs.2.1 xs.2.2.1} where
 enters:=enters
 calls:=by
  intro w X L xs r vals hg ad d H q I s;obtain⟨(l:List t.den),(i:Int),(l4:List t.den),u⟩:=xs;obtain⟨cs,S,us,L',rfl,rfl,h1,ar,au,rfl,h2,a0,S3,a1,L3,rfl,rfl,h3,rfl,rfl⟩:=I;obtain⟨v,xs,S1,p,rfl,rfl,⟨z,rfl⟩,A⟩:=h1;obtain⟨rfl,-⟩:=h2;obtain⟨vy,ys,S4,c,rfl,rfl,⟨k,rfl⟩,B⟩:=h3;unfold Eb at s;simp only at s;have J:0<=i/\i<=l.length/\0<l4.length/\l.length+l4.length<=Qd:=by
   simp_all[Zd]
  have s:K1 ((l.take i.toNat++l4++l.drop i.toNat,()),())=K1 r:=by
   simp_all[Zd]
  simp only[pB]at s;subst s;obtain⟨g0,g1,g2,g3⟩:=J;have g0:(0:Int)<=i:=g0;have g1:i<=((Lv l:Nat):Int):=g1;obtain⟨j,rfl⟩:∃j:Nat,i=j:=⟨i.toNat,Aa⟩
  simp only[Lg]at q H;have hj:j<=l.length:=Aa
  have K:∀x v S,rd w X 0 K4 t x v S->v.length=t.size:=λx v S h=>Jm h;have C:=Ld.1 q;have D:=Ld.1 C.1;have M:=Ld.1 C.2.1;have N:∀b,v.ownBlock=K1 b->vy.ownBlock≠K1 b:=λb hb m=>
   C.2.2 b (by simp[hb]) b (by simp[m]) rfl
  refine(hins z k N hj g2 g3 (Dv (λx v S h=>XQ h) A) (Dv (λx v S h=>XQ h) B)).mono ?_;rintro en w' ⟨v',rfl,k1,k2,k3⟩;obtain⟨O,Q,e1,r1,r2⟩:=UL K hj A;have E:∀b,b∈p\/b∈c->v.ownBlock≠K1 b:=λb hb e=>hb.elim
   (λhb=>D.2.2 b (by simp[e]) b hb rfl) (λhb=>C.2.2 b (by simp[e]) b (by simp[hb]) rfl)
  have U:∀b,b∈p\/b∈c-> ¬X b/\b<w.heap.size:=λb hb=>H b Ai;have a:∀b,b∈p\/b∈c->w'.heap[b]? =w.heap[b]? :=λb hb=>k2.block b (U b hb).2 λe=>E b hb e.symm;have V:∀b,v.ownBlock=K1 b-> ¬X b/\b<w.heap.size:=λb hb=>H b (by simp[hb]);have W:∀b,X b->w'.heap[b]? =w.heap[b]? :=λb hb=>k2.block b (d b hb) λe=>(V b e.symm).1 hb;have n:dY (rd w' X 0 K4 t) (l.take j++l4++l.drop j) (xs.take (j*t.size)++ys++xs.drop (j*t.size)) ((O++c)++Q):=by
   refine tv (tv (J0 r1 λx v T _ Y h=>?_) (J0 B λx v T _ Y h=>?_)) (J0 r2 λx v T _ Y h=>?_)
   ·exact fx (λ_ h=>h) W h λb hb=>a b (.inl Ai)
   ·exact fx (λ_ h=>h) W h λb hb=>a b (.inr (Y b hb))
   ·exact fx (λ_ h=>h) W h λb hb=>a b (.inl Ai)
  have G:(l.take j++l4++l.drop j).length=l.length+l4.length:=by
   grind
  have o:((O++c)++Q).Perm (p++c):=by
   grind
  have Z:∀b,v'.ownBlock=K1 b->b<w'.heap.size:=λb hb=>(k1.lt b hb).2;have a2:∀b,v'.ownBlock=K1 b->b∉p++c:=λb hb hm=>by
   grind
  have ab:(p++c).Nodup:=Ld.2 ⟨D.2.1,M.2.1,λx hx y hy e=>C.2.2 x (by simp[hx]) y (by simp[hy]) e⟩;refine⟨[v'],v'.ownBlock.toList++((O++c)++Q),[],[],X,rfl,?_,?_,⟨_,_,rfl,_,_,rfl,_,_,rfl,rfl,rfl,rfl⟩,trivial⟩
  ·simp only[Lg];refine⟨k2.os,k2.tape,k2.output,k2.size,λ_ h=>h,λb hb=>Ll (d b hb) k2.size,λb hb=>.inl hb,?_,λb hb=>?_,λb hb m=>k2.block b hb λe=>m (by simp[<-e])⟩
   ·refine Ld.2 ⟨Ai,o.nodup_iff.2 ab,λx hx y hy e=>?_⟩
    grind
   ·rcases Lw.1 hb with hb|hb
    ·have hb:v'.ownBlock=K1 b:=by simpa using hb
     refine⟨?_,Z b hb,λhx=>?_⟩
     ·rcases k3 with e|e
      ·grind
      grind
     grind
    grind
  ·refine⟨[v'],[],_,[],rfl,(Lg _).symm,A0 (X:=X) ?_,rfl,rfl⟩;rw[<-G]at k1;exact⟨v',_,_,_,rfl,rfl,⟨k1,rfl⟩,n⟩
@[reducible] def px:Ty:=.pair (.int .i64) (.pair .str .unit)
def wQ(x:px.den):List K2:=[.int .i64 x.1,.string ⟨⟨x.2.1⟩⟩]
def Qe1{X:Nat->Prop}{B:Nat}{own:Bool}{x:px.den}{S:List Nat}:rd w X B own px x vs S↔vs=wQ x/\S=[]:=by
 constructor
 ·rintro⟨a,b,c,d,rfl,rfl,⟨rfl,rfl⟩,e,f,g,h,rfl,rfl,⟨rfl,rfl⟩,rfl,rfl⟩;exact⟨rfl,rfl⟩
 ·rintro⟨rfl,rfl⟩;exact⟨[_],[_],[],[],rfl,rfl,⟨rfl,rfl⟩,[_],[],[],[],rfl,rfl,⟨rfl,rfl⟩,rfl,rfl⟩
def ut{w:K3}{X:Nat->Prop}{B:Nat}{own:Bool}:∀{l:List px.den}{vs:List K2}{S:List Nat},dY (rd w X B own px) l vs S↔vs=l.flatMap wQ/\S=[]
 |[],vs,S=>Iff.rfl
 |x::l,vs,S=>by
  constructor
  ·rintro⟨c,d,e,f,rfl,rfl,a,b⟩;obtain⟨rfl,rfl⟩:=Qe1.1 a;obtain⟨rfl,rfl⟩:=ut.1 b;simp_all
  ·rintro⟨rfl,rfl⟩;exact⟨_,_,[],[],rfl,rfl,Qe1.2 ⟨rfl,rfl⟩,ut.2 ⟨rfl,rfl⟩⟩
def tq{α:Type}{enc:α->List K2}{k:Nat}(hk:∀x,(enc x).length=k):∀l:List α,(l.flatMap enc).length=l.length*k
 |[]=>Ac
 |x::l=>by rw[Lu,List.length_append,hk,tq hk l,List.length_cons,Lh];omega
def Zzv{α:Type}[Inhabited α]{enc:α->List K2}{k:Nat}(hk:∀x,(enc x).length=k)(k0:0<k):∀(l:List α)(t:Nat),t<l.length*k->(l.flatMap enc)[t]! =(enc l[t/k]!)[t%k]!
 |[],t,h=>by simp at h
 |x::l,t,h=>by
  rw[Lu];by_cases e:t<k
  ·grind[Nat.div_eq_of_lt,Nat.mod_eq_of_lt]
  ·obtain⟨u,rfl⟩:∃u,t=u+k:=⟨t-k,Aa⟩
   have a:u<l.length*k:=by simp_all[Lh]
   have b:(u+k)/k=u/k+1:=Nat.add_div_right u k0;have c:(u+k)%k=u%k:=Nat.add_mod_right u k;rw[b,c];have d:(x::l)[u/k+1]! =l[u/k]! :=Ac
   rw[d,<-Zzv hk k0 l u a]
   grind
theorem Zty[Inhabited α]{enc:α->List K2}(hk:∀x,(enc x).length=k)(k0:0<k)(d:Array α):(flatK enc k d).toList=d.toList.flatMap enc:=by
 refine Lt (by rw[tq hk];simp) λt b c=>?_;have a:t<d.size*k:=by simpa using b
 have g:=Zzv hk k0 d.toList t (by simpa using a);rw[getElem!_pos _ t c]at g;have e:d.toList[t/k]! =d[t/k]! :=Ai
 rw[g,e,<-get_flatK enc k d t a,Array.getElem_toList,getElem!_pos]
def FU(l:List px.den):Option (Unit×List px.den):=Zd ((∀x∈l,0<=x.1/\x.1<=4611686018427387904)/\(l.map λx=>x.1).Nodup/\l.length<4611686018427387904) (K1 ((),l.mergeSort λx y=>Lc (x.1<=y.1)))
theorem Z8v{α:Type}{key:α->Int}:∀{l:List α},(l.map key).Nodup-> ∀{x y:α},x∈l->y∈l->key x=key y->x=y
 |[],_,_,_,hx,_,_=>by cases hx
 |z::l,h,x,y,hx,hy,e=>by
  rw[List.map_cons,List.nodup_cons]at h;rcases Lk.1 hx with hx|hx<;>rcases Lk.1 hy with hy|hy
  ·rw[hx,hy]
  ·grind
  ·simp_all
  ·exact Z8v h.2 hx hy e
def DM(key:α->Int)(x y:α):ltOf (λx y=>key x-key y) x y=Lc (key x<key y):=by
 unfold ltOf
 grind
def Qtm(key:α->Int):SWO (ltOf λx y=>key x-key y) where
 irrefl x:=by simp[DM]
 trans x y z h1 h2:=by
  rw[DM key]at h1 h2⊢
  grind
 ntrans x y z h1 h2:=by
  rw[DM key]at h1 h2⊢
  grind
def Qhh(key:α->Int)(x y:α):(!ltOf (λx y=>key x-key y) y x)=Lc (key x<=key y):=by rw[DM key,Bool.eq_iff_iff];simp_all
def Pb.sort{cf:FuncId}{e:Lb}(enters:∀args w,(callFunc f args).run P w=.ok (.enter f args) w)
  (hnone:∀(p:Option Addr)(cap:Nat)(fv:K2)(w:K3),Lf P f #[.slice p 0 cap,fv] w λen w'=>en=.returned (.tuple #[])/\w'=w)
  (hsort:∀(α:Type)[Inhabited α](enc:α->List K2)(c:α->α->Int)(blk cap:Nat)(d:Array α)(w:K3),(∀x,(enc x).length=2)->(∀x,∀v∈enc x,v.oneCell'=K4)->SWO (ltOf c)->(∀x y,ltOf c x y=false->ltOf c y x=false->x=y)->
   CmpLays P cf #[] enc 2 c blk 0 d.size w->HoldsK enc 2 w blk 0 d->blk<w.heap.size->d.size<4611686018427387904->
   Lf P f #[.slice (K1 ⟨blk,0,none⟩) d.size cap,.func (.func cf) #[] #[]] w λen w'=>en=.returned (.tuple #[])/\ ∃n os,w'=sortWorldK enc 2 w blk 0 n (d.toList.mergeSort λx y=> !(ltOf c) y x).toArray os)
  (hcmp:∀(x y:px.den)(W:K3),0<=x.1->x.1<=4611686018427387904->0<=y.1->y.1<=4611686018427387904->
   Lf P cf #[.agg #[.int .i64 x.1,.string ⟨⟨x.2.1⟩⟩],.agg #[.int .i64 y.1,.string ⟨⟨y.2.1⟩⟩]] W λen w'=>en=.returned (.int .i64 (x.1-y.1))/\ ∃q os',w'=grow (W.drewN q) os'):
  Pb P g {f:=f,e:=e,t:=px,args:=[.fnc cf],res:=[],F:=λl _=>FU l} where
 flat:=rfl
 enters:=enters
 calls:=by
  intro w X L (l:List px.den) (l':List px.den) xs r v vals hg hgx hxlt hLX hLn hrd hargs B;have B:FU l=K1 (r,l'):=B;obtain⟨cs,us,rfl,⟨rfl,-⟩,rfl⟩:=hargs;obtain⟨v1,au,S1,S2,e1,rfl,⟨o,rfl⟩,hr⟩:=hrd;simp only[List.cons.injEq,and_true]at e1;subst e1;obtain⟨rfl,rfl⟩:=ut.1 hr;unfold FU at B;rw[ot]at B;obtain⟨⟨J,a0,a3⟩,B⟩:=B;simp only[pB,pF]at B;obtain⟨-,rfl⟩:=B;have a4:Kx (Ty.fnc cf) [.func (.func cf) #[] #[]]=.func (.func cf) #[] #[]:=rfl;by_cases K:l=[]
  ·subst K;obtain⟨p,cap,rfl⟩:∃p cap,v=.slice p 0 cap:=by
    rcases o.2 with⟨rfl,_⟩|⟨b,cap,a,rfl,_⟩
    all_goals grind
   refine(hnone p cap _ w).mono ?_;rintro en w' ⟨rfl,rfl⟩;refine⟨[],[],rfl,⟨rfl,rfl⟩,Lx,⟨X,?_⟩,rfl,rfl,rfl,Nat.le_refl _,λ_ _ _=>rfl⟩;exact⟨_,[],_,[],rfl,rfl,⟨by simpa using o,rfl⟩,ut.2 ⟨Ac,rfl⟩⟩
  ·rcases o.2 with⟨rfl,h0⟩|⟨b,cap,a,rfl,_,C,E,hc,D,M⟩
   ·grind
   have ad:Inhabited {x:px.den//x∈l}:=⟨⟨l.head K,List.head_mem K⟩⟩
   obtain⟨enc,h⟩:∃enc:{x:px.den//x∈l}->List K2,enc=λx=>wQ x.1:=⟨_,rfl⟩
   have hk:∀x,(enc x).length=2:=λx=>by rw[h];rfl
   have a5:∀m:List {x:px.den//x∈l},m.flatMap enc=(m.map Subtype.val).flatMap wQ:=λm=>by rw[h,List.flatMap_map]
   have G:b<w.heap.size:=by
    grind
   have N:l.attach.toArray.size=l.length:=Ac
   have hH:HoldsK enc 2 w b 0 l.attach.toArray:=λj O=>by
    have a6:(flatK enc 2 l.attach.toArray).toList=l.flatMap wQ:=by
     grind[Zty,Ls]
    rw[Ln];refine⟨?_,by simp[Lp,C]⟩;have a7:j<l.length*2:=by simpa using O
    have e3:(flatK enc 2 l.attach.toArray)[j]! =(l.flatMap wQ)[j]! :=Ai
    rw[id,e3,<-M];have Q:l.length*2<=a.size:=by rw[D];exact Lm 2 E
    simp only[Lo,C]
    grind
   have hS:=hsort _ enc (λx y=>x.1.1-y.1.1) b cap l.attach.toArray w hk (λx u S=>by rw[h]at S;simp only[wQ,Lk,List.not_mem_nil,or_false]at S;rcases S with rfl|rfl<;>rfl)
    (Qtm λx:{x:px.den//x∈l}=>x.1.1)
    (λx y h1 U=>by
     have a1:¬x.1.1<y.1.1:=of_decide_eq_false ((DM (λx:{x:px.den//x∈l}=>x.1.1) x y).symm.trans h1);have a2:¬y.1.1<x.1.1:=of_decide_eq_false ((DM (λx:{x:px.den//x∈l}=>x.1.1) y x).symm.trans U)
     grind[Z8v])
    (λm os dk _ x y=>by rw[h];exact hcmp x.1 y.1 _ (J _ x.2).1 (J _ x.2).2 (J _ y.2).1 (J _ y.2).2)
    hH G Aa
   rw[N]at hS;refine hS.mono ?_;rintro en w' ⟨rfl,n,os,rfl⟩;obtain⟨i,H⟩:∃i:Array {x:px.den//x∈l},i=(l.attach.toArray.toList.mergeSort λx y=> !(ltOf (λx y:{x:px.den//x∈l}=>x.1.1-y.1.1)) y x).toArray:=⟨_,rfl⟩
   rw[<-H];have ar:i.toList.map Subtype.val=l.mergeSort λx y=>Lc (x.1<=y.1):=by
    rw[H];simp only[];rw[List.map_mergeSort (s:=λx y:px.den=>Lc (x.1<=y.1)) (λx _ y _=>Qhh (λx:{x:px.den//x∈l}=>x.1.1) x y),Ls]
   have I:(flatK enc 2 i).toList=(l.mergeSort λx y=>Lc (x.1<=y.1)).flatMap wQ:=by
    grind[Zty]
   have z:(l.mergeSort λx y=>Lc (x.1<=y.1)).length=l.length:=List.length_mergeSort _;have V:(flatK enc 2 i).size=l.length*2:=by
    rw[<-Array.length_toList,I,tq (k:=2) (λ_=>rfl),z]
   have Q:l.length*2<=a.size:=by rw[D];exact Lm 2 E
   have Y:(sortWorldK enc 2 w b 0 n i os).heap[b]? =K1 (.cells (putCells id 0 (flatK enc 2 i) a) e (0,0)):=by
    unfold sortWorldK grow putRowK putRow mapBlock;simp only[];rw[Array.getElem?_append_left (by simp;exact G)];simp[Array.getElem?_modify,C,onCells]
   have A:∀x,x<w.heap.size->x≠b->(sortWorldK enc 2 w b 0 n i os).heap[x]? =w.heap[x]? :=λx hx Z=>by
    unfold sortWorldK grow putRowK putRow mapBlock;simp only[];rw[Array.getElem?_append_left (by simp;exact hx)];simp[Array.getElem?_modify,Ne.symm Z]
   refine⟨[],[],rfl,⟨rfl,rfl⟩,Lx,⟨X,?_⟩,rfl,rfl,rfl,Ai,λx hx hn=>A x hx λe=>hn (by simp[K2.ownBlock,e])⟩;refine⟨_,(l.mergeSort λx y=>Lc (x.1<=y.1)).flatMap wQ,_,[],rfl,rfl,⟨⟨?_,.inr ⟨b,cap,_,by rw[z],Ly _,Y,Aa,hc,by simp[putCells,D],?_⟩⟩,rfl⟩,ut.2 ⟨rfl,rfl⟩⟩
   ·rw[tq (k:=2) (λ_=>rfl)];rfl
   ·rw[z,<-I];have ab:(putCells id 0 (flatK enc 2 i) a).size=a.size:=by simp[putCells]
    refine Lt (by rw[List.length_take,Array.length_toList (xs:=putCells id 0 (flatK enc 2 i) a),Array.length_toList (xs:=flatK enc 2 i),V,ab];show min (l.length*2) a.size=l.length*2;omega) λj h1 U=>?_;have O:j<(flatK enc 2 i).size:=by simpa using U
    rw[List.getElem_take,Array.getElem_toList,Array.getElem_toList];simp only[putCells,Array.getElem_mapIdx,Ly,true_and,Ln,O,if_true,Nat.sub_zero,id]
    grind
def Qb6{P:Program}{o:Nat}{t:Lb}(hg:w.heap[b]? =K1 (.cells cur t (0,0)))(hfit:o+vs.length<=cur.size)(h1:∀v∈vs,v.oneCell'=K4):
  w.setCells b o vs=w.setRow b (cur.toList.take o++vs++cur.toList.drop (o+vs.length)).toArray:=by
 have a:=run_storeCells_at P b o t vs 0 cur w hg (by simpa using hfit) h1
 grind[run_storeCells_cells,Lo,Lp]
def Qgc{i0:TypeInfo}(ht:P.underlying S=K1 (.slice E))(hi:P.info? E=K1 i0)(hk:i0.size=k){i cap:Nat}{ad:Addr}{news:List K2}(ty:Lb)
  (hb:w.heap[b]? =K1 (.cells cur E (0,0))) (hl:news.length=m*k) (hn:∀(j:Nat) u,news[j]? =K1 u->w.cell? (ad.add j)=K1 u) (h1:∀u∈news,u.oneCell'=K4) (hroom:i+m<=cap) (hcs:cur.size=cap*k):
  (Lq #[S,S] ty #[.slice (K1 ⟨b,0,none⟩) i cap,.slice (K1 ad) m c]).run P w=
   .ok (.slice (K1 ⟨b,0,none⟩) (i+m) cap) (w.setRow b (cur.toList.take (i*k)++news++cur.toList.drop (i*k+news.length)).toArray):=by
 subst hk;have a:i*i0.size+news.length<=cur.size:=by rw[hl,hcs,<-Lh];exact Lm _ hroom
 rw[run_append_room_cells (P:=P) (w:=w) S ty E i0 ht hi b 0 i cap ad m c news hl hn h1 hroom (λj d=>by grind[Lo]) (λj d=>by simp[Lp,hb]),Ln,Qb6 (P:=P) hb a h1]
def Zqu(z:Array K2)(m:Nat):(Le z m).toList.length=m*z.size:=by simp[Le]
def Z7s{z:Array K2}(h:∀u∈z.toList,u.oneCell'=K4)(m:Nat):∀u∈(Le z m).toList,u.oneCell'=true:=by
 intro u a;simp only[Le,Array.toList_map,List.mem_map,Array.toList_range,List.mem_range]at a;obtain⟨i,b,rfl⟩:=a
 grind[Nat.mod_lt]
def Qla(ht:P.underlying S=K1 (.slice E)){z:K2}(hv:∀w,(zeroValue E).run P w=.ok z w)(hz:z.cells.size=k)(h1:∀u∈z.cells.toList,u.oneCell'=K4){o:Nat}(ty:Lb)
  (hb:w.heap[b]? =K1 (.cells cur E (0,0))) (hfit:o+m*k<=cur.size) (hm:0<m):
  (Lr #[S] ty #[.slice (K1 ⟨b,o,none⟩) m c]).run P w=.ok (.tuple #[]) (w.setRow b (cur.toList.take o++(Le z.cells m).toList++cur.toList.drop (o+m*k)).toArray):=by
 subst hz;have d:=Zqu z.cells m;have a:=run_storeCells_at P b o E (Le z.cells m).toList 0 cur w hb Aa (Z7s h1 m);obtain⟨n,rfl⟩:∃n,m=n+1:=⟨m-1,Aa⟩
 simp_all[Lr,run_underlying]
def PB{α:Type}(l:List α)(i j:Int):Option ((List α×Unit)×Unit):=Zd (0<=i/\i<=j/\j<=l.length) (K1 ((l.take i.toNat++l.drop j.toNat,()),()))
def zY.delete{t:Ty}{fl:Fl}{eo:Bool}(hfl:wT fl=K1 eo)(enters:∀args w,(callFunc f args).run P w=.ok (.enter f args) w)
  (hdel:∀{w:K3}{v:K2}{xs:List K2}{n i j:Nat},w.ownsRow 0 e' t.size v n xs->i<=j->j<=n->(∀u∈xs,u.oneCell'=K4)->
   Lf P f #[v,.int .i64 i,.int .i64 j] w λe w'=> ∃v',e=.returned v'/\w'.ownsRow 0 e' t.size v' (n- (j-i)) (xs.take (i*t.size)++xs.drop (j*t.size))/\w.grownBy w' v.ownBlock/\v'.ownBlock=v.ownBlock):
  zY P g {f:=f,args:=[.mv (.slice e' t) fl,.sh (.int .i64),.sh (.int .i64)],res:=.flg [(.slice e' t,fl)],F:=λxs=>PB xs.1 xs.2.1 xs.2.2.1} where
 enters:=enters
 calls:=by
  intro w X L xs r O hg Z c G q H s;obtain⟨(l:List t.den),(i:Int),(j:Int),u⟩:=xs;obtain⟨cs,S,us,L',rfl,rfl,h1,ab,ad,rfl,h2,ar,au,rfl,h3,rfl,rfl⟩:=H;obtain⟨v,rfl,xs,S1,E,rfl,⟨z,rfl⟩,m⟩:=(Cu hfl).1 h1;obtain⟨rfl,-⟩:=h2;obtain⟨rfl,-⟩:=h3;unfold PB at s;simp only at s;have I:0<=i/\i<=j/\j<=l.length:=by
   simp_all[Zd]
  have s:K1 ((l.take i.toNat++l.drop j.toNat,()),())=K1 r:=by
   simp_all[Zd]
  simp only[pB]at s;subst s;obtain⟨Q,g1,U⟩:=I;have Q:(0:Int)<=i:=Q;have U:j<=((Lv l:Nat):Int):=U;obtain⟨i,rfl⟩:∃k:Nat,i=k:=⟨i.toNat,Aa⟩
  obtain⟨j,rfl⟩:∃k:Nat,j=k:=⟨j.toNat,Aa⟩
  simp only[Lg]at q G;have hi:i<=l.length:=Aa
  have V:j<=l.length:=Aa
  have o:∀x v S,rd w X 0 eo t x v S->v.length=t.size:=λx v S h=>Jm h;have A:=Ld.1 q;refine(hdel z Aa V (Dv (λx v S h=>XQ h) m)).mono ?_;rintro en w' ⟨v',rfl,k1,k2,k3⟩;obtain⟨J,Sb,e1,r1,r2⟩:=UL o hi m;obtain⟨Sc,Sd,e2,r3,r4⟩:=UL o V m
  obtain⟨Se,K,e3,r5,W⟩:=UL o (i:=j-i) Ae r2;have B:∀b,b∈E->v.ownBlock≠K1 b:=λb hb e=>A.2.2 b (by simp[e]) b hb rfl;have C:∀b,b∈E-> ¬X b/\b<w.heap.size:=λb hb=>G b (by simp[hb]);have a:∀b,b∈E->w'.heap[b]? =w.heap[b]? :=λb hb=>k2.block b (C b hb).2 λe=>B b hb e.symm;have M:∀b,v.ownBlock=K1 b-> ¬X b/\b<w.heap.size:=λb hb=>G b (by simp[hb]);have Y:∀b,X b->w'.heap[b]? =w.heap[b]? :=λb hb=>k2.block b (c b hb) λe=>(M b e.symm).1 hb;have d1:(l.drop i).drop (j-i)=l.drop j:=Af
  have d2:(xs.drop (i*t.size)).drop ((j-i)*t.size)=xs.drop (j*t.size):=by rw[List.drop_drop,<-Lh];congr 2;omega
  rw[d1,d2]at W;have p:dY (rd w' X 0 eo t) (l.take i++l.drop j) (xs.take (i*t.size)++xs.drop (j*t.size)) (J++K):=by
   refine tv (J0 r1 λx v T _ hT h=>?_) (J0 W λx v T _ hT h=>?_)
   ·exact fx (λ_ h=>h) Y h λb hb=>a b Af
   ·exact fx (λ_ h=>h) Y h λb hb=>a b Af
  have D:(l.take i++l.drop j).length=l.length- (j-i):=by
   grind
  have d:(J++K).Sublist E:=by
   simp_all
  have a0:∀b,v'.ownBlock=K1 b->b<w'.heap.size:=λb hb=>(k1.lt b hb).2;refine⟨[v'],v'.ownBlock.toList++(J++K),[],[],X,rfl,?_,?_,⟨_,_,rfl,_,_,rfl,_,_,rfl,rfl,rfl,rfl⟩,trivial⟩
  ·simp only[Lg];refine⟨k2.os,k2.tape,k2.output,k2.size,λ_ h=>h,λb hb=>Ll (c b hb) k2.size,λb hb=>.inl hb,?_,λb hb=>?_,λb hb N=>k2.block b hb λe=>N (by simp[<-e])⟩
   ·refine Ld.2 ⟨Af,A.2.1.sublist d,λx hx y hy e=>?_⟩
    grind
   ·rcases Lw.1 hb with hb|hb
    ·simp_all
    ·obtain⟨g4,g5⟩:=C b (d.subset hb);exact⟨.inr Ai,Ll g5 k2.size,g4⟩
  ·refine⟨[v'],[],_,[],rfl,(Lg _).symm,(Cu hfl).2 ⟨v',rfl,?_⟩,rfl,rfl⟩;rw[<-D]at k1;exact⟨_,_,_,rfl,⟨k1,rfl⟩,p⟩
def bQ.trim(he:∀args w,(callFunc f args).run P w=.ok (.enter f args) w)
  (hc:∀(s:ByteArray)(c:UInt8),c.toNat<128-> ∀w:K3,s.size<=9223372036854775807->Lf P f #[.string s,.string ⟨#[c]⟩] w λe w'=>e=.returned (.string ⟨(Lj s.data.toList c).toArray⟩)/\(w'=w\/w'=w.drew)):
  bQ P g {f:=f,args:=[.str,.str],res:=[.str],F:=λxs=>Zd (xs.2.1=[32]/\xs.1.length<4294967281) (K1 (Lj xs.1 32,()))} where
 enters:=he
 calls:=λw xs r i q hx a=>by
  obtain⟨(s:List UInt8),(p:List UInt8),u⟩:=xs;obtain⟨j,t,rfl,k,b,l,rfl,d,rfl⟩:=hx;obtain⟨rfl,_⟩:j=[.string ⟨⟨s⟩⟩]/\_:=k;obtain⟨rfl,_⟩:b=[.string ⟨⟨p⟩⟩]/\_:=d;obtain⟨m,a⟩:=ot.1 a;simp only[pB]at a;subst a;obtain⟨h,n⟩:p=[32]/\s.length<4294967281:=m;subst h;refine(hc ⟨⟨s⟩⟩ 32 Ah w (by show s.length<=_;omega)).mono λe w' ⟨d,o⟩=>⟨[.string ⟨(Lj s 32).toArray⟩],[],d,⟨[_],[],[],[],rfl,rfl,⟨rfl,rfl⟩,rfl,rfl⟩,Ac,?_⟩
  rcases o with rfl|rfl
  ·exact Below.refl _ _
  ·exact Zzi w 1
end
end Go.Am

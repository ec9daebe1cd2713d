/- No condition. -/
import Derived.Test.YtglbkfajafconaaGreatDoorAm3
import Derived.Laws.CopyRow
import Derived.Lib.AppendZerosOnto
import Derived.Lib.Overlaps
import Derived.Laws.Externs
import Derived.Laws.NewBlocks
import Derived.Shelf.RegionOpenPlain
import Derived.Shelf.SlSortCmp.InsertionK
import Derived.ArgAppend
import Derived.Lib.TrimByte
set_option linter.all false
namespace Go.Am
noncomputable section
open Go.RowKit Go.Sort Go.Proofs
open Option renaming some→K1
open Go renaming Value→K2,World→K3,Builtin→K4,TypeId→La
open Bool renaming true→Lb
open Decidable renaming decide→Lc
open Builtin renaming zeroCells→Ld,copy_→Lf,append_→Lo,clear_→Lp
open List renaming nodup_append→Le,append_nil→Lh,mem_cons→Li,attach_map_subtype_val→Lq,ext_getElem→Lr,flatMap_cons→Ls,nodup_nil→Lt
open Lib renaming trimB→Lg
open Nat renaming add_mul→Lj,mul_le_mul_right→Lk,zero_add→Ll,zero_le→Lu
open World renaming cell?→Lm,frozen?→Ln,setRow→Lw
open Region renaming wanted→Lv
variable{a:Act}{K:Act->K3->Prop}{ops:Array Oper}{cur:Array K2}{Q:Exit->Act->K3->Prop}{f:FuncId}{g:Kf}{vs:List K2}{k b m c:Nat}{o:Oper}{d s:Operand}{P:Program}{α:Type}{e' t' S E:La}{v u v':K2}{W w w':K3}
def Un{e:La}(hu:P.underlying e=K1 (.slice e'))(hz:∀w,(Go.sizeOf e').run P w=.ok k w)(w:K3)(ty:La)(g o dLen dCap:Nat)(a:Addr)(sLen sCap:Nat)(cur:Array K2)(t:La)(cs:List K2)
  (hg:w.heap[g]? =K1 (.cells cur t (0,0))) (nn:Nat) (hn:nn=Nat.min sLen dLen) (hl:cs.length=nn*k)
  (hsrc:∀j v,cs[j]? =K1 v->w.cell? (a.add j)=K1 v) (hfit:o+cs.length<=cur.size) (h1:∀v∈cs,v.oneCell'=Lb):
  (Lf #[e,e] ty #[.slice (K1 ⟨g,o,none⟩) dLen dCap,.slice (K1 a) sLen sCap]).run P w=
   .ok (goInt nn) (w.setRow g (cur.toList.take o++cs++cur.toList.drop (o+cs.length)).toArray):=by
 have b:=run_loadCells_list (P:=P) w a cs hsrc;have c:=run_storeCells_at P g o t cs 0 cur w hg (by simpa using hfit) h1;simp_all[Lf,run_underlying,K4.lenOf,K4.firstCells]
def Gd{R:Array K2}{t:La}{fz:Nat×Nat}(h:W.heap[b]? =K1 (.cells cur t fz)):(W.setRow b R).heap[b]? =K1 (.cells R t fz):=by simp[Lw,Array.getElem?_modify,h]
def UZ{x:Nat}{R:Array K2}(hne:x≠b):(W.setRow b R).heap[x]? =W.heap[x]? :=by simp[Lw,Array.getElem?_modify,Ne.symm hne]
def f8{t:La}(ho:o.op=.call {callee:=.builtin .copy,args:= #[d,s],argTypes:= #[t,t']})(hd:a.eval d=v)(hs:a.eval s=u)
  (hr:(Lf #[t,t'] o.type #[v,u]).run P w=.ok v' w'):(execOp a.eval o).run P w=.ok (.value v') w':=by
 simp_all[execOp,resolve,invoke,builtin]
def Cr{t:La}(ho:o.op=.call {callee:=.builtin .append,args:= #[d,s],argTypes:= #[t,t']})(hd:a.eval d=v)(hs:a.eval s=u)
  (hr:(Lo #[t,t'] o.type #[v,u]).run P w=.ok v' w'):(execOp a.eval o).run P w=.ok (.value v') w':=by
 simp_all[execOp,resolve,invoke,builtin]
def UH(hr:(execOp a.eval o).run P w=.ok (.value v') w')(h:K (a.put o.dst v') w'):o.wp P a w K Q:=by unfold Oper.wp;rw[hr];exact h
def VL{rest:List Oper}(hgd:o.guard=none)(hr:(execOp a.eval o).run P w=.ok (.value v') w')
  (h:wpList P ops Q rest (a.put o.dst v') w'):wpList P ops Q (o::rest) a w:=wpList_plain hgd λ_ b=>UH hr (b _ _ h)
def Rr{E:Prop}(hg:o.guard=none)(hr:(execOp a.eval o).run P w=.ok (.value v') w')
  (hK:K (a.put o.dst v') w'):ite (Lv o (yielded ops a.tmps)=Lb) (Oper.wp P o a w K Q) E:=by
 rw[if_pos (by simp[Lv,hg])];exact UH hr hK
def OA{R:Array K2}:(w.setRow b R).heap.size=w.heap.size:=Af
def Hp{α:Type}(l:List α)(i:Int)(v:List α):Option ((List α×Unit)×Unit):=Ze (0<=i/\i<=l.length/\0<v.length/\l.length+v.length<=Qg) (K1 ((l.take i.toNat++v++l.drop i.toNat,()),()))
def Ff{α:Type}{r:α->List K2->List Nat->Prop}{sz:Nat}(hr:∀x v S,r x v S->v.length=sz):∀{l:List α}{vs:List K2}{S:List Nat}{i:Nat},i<=l.length->
  cS r l vs S-> ∃S1 S2,S=S1++S2/\cS r (l.take i) (vs.take (i*sz)) S1/\cS r (l.drop i) (vs.drop (i*sz)) S2
 |l,vs,S,0,_,h=>⟨[],S,rfl,by simp[cS],by simpa using h⟩
 |[],_,_,i+1,a,_=>by simp at a
 |x::l,vs,S,i+1,a,⟨b,m,S1,S2,e,n,c,f⟩=>by
  obtain⟨d,g,o,j,p⟩:=Ff hr (i:=i) (by simpa using a) f;have q:=hr _ _ _ c;have k:(i+1)*sz=b.length+i*sz:=Ag
  refine⟨S1++d,g,Af,?_,?_⟩
  ·rw[e,k,List.take_append,List.take_of_length_le (l:=b) (Nat.le_add_right _ _),Nat.add_sub_cancel_left];exact(⟨b,_,S1,d,rfl,rfl,c,j⟩:cS r (x::l.take i) _ _)
  simp_all[List.drop_append,List.drop_of_length_le]
def gZ.insert{t:Ty}(enters:∀args w,(callFunc f args).run P w=.ok (.enter f args) w)
  (hins:∀{w:K3}{v vy:K2}{xs ys:List K2}{l l4:List t.den}{i:Nat},w.ownsRow 0 e' t.size v l.length xs->w.ownsRow 0 e' t.size vy l4.length ys->(∀b,v.ownBlock=K1 b->vy.ownBlock≠K1 b)->i<=l.length->0<l4.length->l.length+l4.length<=Qg->
   (∀u∈xs,u.oneCell'=Lb)->(∀u∈ys,u.oneCell'=Lb)->
   Calls P f #[v,.int .i64 i,vy] w λe w'=> ∃v',e=.returned v'/\w'.ownsRow 0 e' t.size v' (l.length+l4.length) (xs.take (i*t.size)++ys++xs.drop (i*t.size))/\w.grownBy w' v.ownBlock/\(v'.ownBlock=v.ownBlock\/ ∀b,v'.ownBlock=K1 b->w.heap.size<=b)):
  gZ P g {f:=f,args:=[.mv (.slice e' t) (.u .ow),.sh (.int .i64),.mv (.slice e' t) (.u .ow)],res:=.vals [.slice e' t],F:=λxs=>Hp xs.1 xs.2.1 xs.2.2.1} where
 enters:=enters
 calls:=by
  intro w X L xs r vals hg ad d H q I s;obtain⟨(l:List t.den),(i:Int),(l4:List t.den),u⟩:=xs;obtain⟨cs,S,us,L',rfl,rfl,h1,ar,au,rfl,h2,a0,S3,a1,L3,rfl,rfl,h3,rfl,rfl⟩:=I;obtain⟨v,xs,S1,p,rfl,rfl,⟨z,rfl⟩,A⟩:=h1;obtain⟨rfl,-⟩:=h2;obtain⟨vy,ys,S4,c,rfl,rfl,⟨k,rfl⟩,B⟩:=h3;unfold Hp at s;simp only at s;have J:0<=i/\i<=l.length/\0<l4.length/\l.length+l4.length<=Qg:=by
   simp_all[Ze]
  have s:K1 ((l.take i.toNat++l4++l.drop i.toNat,()),())=K1 r:=by
   simp_all[Ze]
  simp only[pB]at s;subst s;obtain⟨g0,g1,g2,g3⟩:=J;have g0:(0:Int)<=i:=g0;have g1:i<=((List.length l:Nat):Int):=g1;obtain⟨j,rfl⟩:∃j:Nat,i=j:=⟨i.toNat,Aa⟩
  simp only[Lh]at q H;have hj:j<=l.length:=Aa
  have K:∀x v S,rd w X 0 .ow t x v S->v.length=t.size:=λx v S h=>X9 h;have C:=Le.1 q;have D:=Le.1 C.1;have M:=Le.1 C.2.1;have N:∀b,v.ownBlock=K1 b->vy.ownBlock≠K1 b:=λb hb m=>
   C.2.2 b (by simp[hb]) b (by simp[m]) rfl
  refine(hins z k N hj g2 g3 (XK (λx v S h=>kd h) A) (XK (λx v S h=>kd h) B)).mono ?_;rintro en w' ⟨v',rfl,k1,k2,k3⟩;obtain⟨O,Q,e1,r1,r2⟩:=Ff K hj A;have E:∀b,b∈p\/b∈c->v.ownBlock≠K1 b:=λb hb e=>hb.elim
   (λhb=>D.2.2 b (by simp[e]) b hb rfl) (λhb=>C.2.2 b (by simp[e]) b (by simp[hb]) rfl)
  have U:∀b,b∈p\/b∈c-> ¬X b/\b<w.heap.size:=λb hb=>H b Ag;have a:∀b,b∈p\/b∈c->w'.heap[b]? =w.heap[b]? :=λb hb=>k2.block b (U b hb).2 λe=>E b hb e.symm;have V:∀b,v.ownBlock=K1 b-> ¬X b/\b<w.heap.size:=λb hb=>H b (by simp[hb]);have W:∀b,X b->w'.heap[b]? =w.heap[b]? :=λb hb=>k2.block b (d b hb) λe=>(V b e.symm).1 hb;have n:cS (rd w' X 0 .ow t) (l.take j++l4++l.drop j) (xs.take (j*t.size)++ys++xs.drop (j*t.size)) ((O++c)++Q):=by
   refine nD (nD (Yt r1 λx v T _ Y h=>?_) (Yt B λx v T _ Y h=>?_)) (Yt r2 λx v T _ Y h=>?_)
   ·exact Wy (λ_ h=>h) W h λb hb=>a b (.inl Ag)
   ·exact Wy (λ_ h=>h) W h λb hb=>a b (.inr (Y b hb))
   ·exact Wy (λ_ h=>h) W h λb hb=>a b (.inl Ag)
  have G:(l.take j++l4++l.drop j).length=l.length+l4.length:=by
   grind
  have o:((O++c)++Q).Perm (p++c):=by
   grind
  have Z:∀b,v'.ownBlock=K1 b->b<w'.heap.size:=λb hb=>(k1.lt b hb).2;have a2:∀b,v'.ownBlock=K1 b->b∉p++c:=λb hb hm=>by
   grind
  have ab:(p++c).Nodup:=Le.2 ⟨D.2.1,M.2.1,λx hx y hy e=>C.2.2 x (by simp[hx]) y (by simp[hy]) e⟩;refine⟨[v'],v'.ownBlock.toList++((O++c)++Q),[],[],X,rfl,?_,?_,⟨_,_,rfl,_,_,rfl,_,_,rfl,rfl,rfl,rfl⟩,trivial⟩
  ·simp only[Lh];refine⟨k2.os,k2.tape,k2.output,k2.size,λ_ h=>h,λb hb=>Nat.lt_of_lt_of_le (d b hb) k2.size,λb hb=>.inl hb,?_,λb hb=>?_,λb hb m=>k2.block b hb λe=>m (by simp[<-e])⟩
   ·refine Le.2 ⟨Ag,o.nodup_iff.2 ab,λx hx y hy e=>?_⟩
    grind
   ·rcases List.mem_append.1 hb with hb|hb
    ·have hb:v'.ownBlock=K1 b:=by simpa using hb
     refine⟨?_,Z b hb,λhx=>?_⟩
     ·rcases k3 with e|e
      ·grind
      grind
     grind
    grind
  ·refine⟨[v'],[],_,[],rfl,(Lh _).symm,I6 (X:=X) ?_,rfl,rfl⟩;rw[<-G]at k1;exact⟨v',_,_,_,rfl,rfl,⟨k1,rfl⟩,n⟩
@[reducible] def nQ:Ty:=.pair (.int .i64) (.pair .str .unit)
def Fq(x:nQ.den):List K2:=[.int .i64 x.1,.string ⟨⟨x.2.1⟩⟩]
def Bw{X:Nat->Prop}{B:Nat}{own:Ow}{x:nQ.den}{S:List Nat}:rd w X B own nQ x vs S↔vs=Fq x/\S=[]:=by
 constructor
 ·rintro⟨a,b,c,d,rfl,rfl,⟨rfl,rfl⟩,e,f,g,h,rfl,rfl,⟨rfl,rfl⟩,rfl,rfl⟩;exact⟨rfl,rfl⟩
 ·rintro⟨rfl,rfl⟩;exact⟨[_],[_],[],[],rfl,rfl,⟨rfl,rfl⟩,[_],[],[],[],rfl,rfl,⟨rfl,rfl⟩,rfl,rfl⟩
def II{w:K3}{X:Nat->Prop}{B:Nat}{own:Ow}:∀{l:List nQ.den}{vs:List K2}{S:List Nat},cS (rd w X B own nQ) l vs S↔vs=l.flatMap Fq/\S=[]
 |[],vs,S=>Iff.rfl
 |x::l,vs,S=>by
  constructor
  ·rintro⟨c,d,e,f,rfl,rfl,a,b⟩;obtain⟨rfl,rfl⟩:=Bw.1 a;obtain⟨rfl,rfl⟩:=II.1 b;simp_all
  ·rintro⟨rfl,rfl⟩;exact⟨_,_,[],[],rfl,rfl,Bw.2 ⟨rfl,rfl⟩,II.2 ⟨rfl,rfl⟩⟩
def qt{α:Type}{enc:α->List K2}{k:Nat}(hk:∀x,(enc x).length=k):∀l:List α,(l.flatMap enc).length=l.length*k
 |[]=>Ac
 |x::l=>by rw[Ls,List.length_append,hk,qt hk l,List.length_cons,Lj];omega
def HH{α:Type}[Inhabited α]{enc:α->List K2}{k:Nat}(hk:∀x,(enc x).length=k)(k0:0<k):∀(l:List α)(t:Nat),t<l.length*k->(l.flatMap enc)[t]! =(enc l[t/k]!)[t%k]!
 |[],t,h=>by simp at h
 |x::l,t,h=>by
  rw[Ls];by_cases e:t<k
  ·grind[Nat.div_eq_of_lt,Nat.mod_eq_of_lt]
  ·obtain⟨u,rfl⟩:∃u,t=u+k:=⟨t-k,Aa⟩
   have a:u<l.length*k:=by simp_all[Lj]
   have b:(u+k)/k=u/k+1:=Nat.add_div_right u k0;have c:(u+k)%k=u%k:=Nat.add_mod_right u k;rw[b,c];have d:(x::l)[u/k+1]! =l[u/k]! :=Ac
   rw[d,<-HH hk k0 l u a]
   grind
theorem WR[Inhabited α]{enc:α->List K2}(hk:∀x,(enc x).length=k)(k0:0<k)(d:Array α):(flatK enc k d).toList=d.toList.flatMap enc:=by
 refine Lr (by rw[qt hk];simp) λt b c=>?_;have a:t<d.size*k:=by simpa using b
 have g:=HH hk k0 d.toList t (by simpa using a);rw[getElem!_pos _ t c]at g;have e:d.toList[t/k]! =d[t/k]! :=Ag
 rw[g,e,<-get_flatK enc k d t a,Array.getElem_toList,getElem!_pos]
def zX(l:List nQ.den):Option (Unit×List nQ.den):=Ze ((∀x∈l,0<=x.1/\x.1<=4611686018427387904)/\(l.map λx=>x.1).Nodup/\l.length<4611686018427387904) (K1 ((),l.mergeSort λx y=>Lc (x.1<=y.1)))
theorem qU{α:Type}{key:α->Int}:∀{l:List α},(l.map key).Nodup-> ∀{x y:α},x∈l->y∈l->key x=key y->x=y
 |[],_,_,_,hx,_,_=>by cases hx
 |z::l,h,x,y,hx,hy,e=>by
  rw[List.map_cons,List.nodup_cons]at h;rcases Li.1 hx with hx|hx<;>rcases Li.1 hy with hy|hy
  ·rw[hx,hy]
  ·grind
  ·simp_all
  ·exact qU h.2 hx hy e
def OD(key:α->Int)(x y:α):ltOf (λx y=>key x-key y) x y=Lc (key x<key y):=by
 unfold ltOf
 grind
def Qqy(key:α->Int):SWO (ltOf λx y=>key x-key y) where
 irrefl x:=by simp[OD]
 trans x y z h1 h2:=by
  rw[OD key]at h1 h2⊢
  grind
 ntrans x y z h1 h2:=by
  rw[OD key]at h1 h2⊢
  grind
def Qel(key:α->Int)(x y:α):(!ltOf (λx y=>key x-key y) y x)=Lc (key x<=key y):=by rw[OD key,Bool.eq_iff_iff];simp_all
def E5.sort{cf:FuncId}{e:La}(enters:∀args w,(callFunc f args).run P w=.ok (.enter f args) w)
  (hnone:∀(p:Option Addr)(cap:Nat)(fv:K2)(w:K3),Calls P f #[.slice p 0 cap,fv] w λen w'=>en=.returned (.tuple #[])/\w'=w)
  (hsort:∀(α:Type)[Inhabited α](enc:α->List K2)(c:α->α->Int)(blk cap:Nat)(d:Array α)(w:K3),(∀x,(enc x).length=2)->(∀x,∀v∈enc x,v.oneCell'=Lb)->SWO (ltOf c)->(∀x y,ltOf c x y=false->ltOf c y x=false->x=y)->
   CmpLays P cf #[] enc 2 c blk 0 d.size w->HoldsK enc 2 w blk 0 d->blk<w.heap.size->d.size<4611686018427387904->
   Calls P f #[.slice (K1 ⟨blk,0,none⟩) d.size cap,.func (.func cf) #[] #[]] w λen w'=>en=.returned (.tuple #[])/\ ∃n os,w'=sortWorldK enc 2 w blk 0 n (d.toList.mergeSort λx y=> !(ltOf c) y x).toArray os)
  (hcmp:∀(x y:nQ.den)(W:K3),0<=x.1->x.1<=4611686018427387904->0<=y.1->y.1<=4611686018427387904->
   Calls P cf #[.agg #[.int .i64 x.1,.string ⟨⟨x.2.1⟩⟩],.agg #[.int .i64 y.1,.string ⟨⟨y.2.1⟩⟩]] W λen w'=>en=.returned (.int .i64 (x.1-y.1))/\ ∃q os',w'=grow (W.drewN q) os'):
  E5 P g {f:=f,e:=e,t:=nQ,args:=[.fnc cf],res:=[],F:=λl _=>zX l} where
 flat:=rfl
 enters:=enters
 calls:=by
  intro w X L (l:List nQ.den) (l':List nQ.den) xs r v vals hg hgx hxlt hLX hLn hrd hargs B;have B:zX l=K1 (r,l'):=B;obtain⟨cs,us,rfl,⟨rfl,-⟩,rfl⟩:=hargs;obtain⟨v1,au,S1,S2,e1,rfl,⟨o,rfl⟩,hr⟩:=hrd;simp only[List.cons.injEq,and_true]at e1;subst e1;obtain⟨rfl,rfl⟩:=II.1 hr;unfold zX at B;rw[kl]at B;obtain⟨⟨J,a0,a3⟩,B⟩:=B;simp only[pB,pF]at B;obtain⟨-,rfl⟩:=B;have a4:Yh (Ty.fnc cf) [.func (.func cf) #[] #[]]=.func (.func cf) #[] #[]:=rfl;by_cases K:l=[]
  ·subst K;obtain⟨p,cap,rfl⟩:∃p cap,v=.slice p 0 cap:=by
    rcases o.2 with⟨rfl,_⟩|⟨b,cap,a,rfl,_⟩
    all_goals grind
   refine(hnone p cap _ w).mono ?_;rintro en w' ⟨rfl,rfl⟩;refine⟨[],[],rfl,⟨rfl,rfl⟩,Lt,⟨X,?_⟩,rfl,rfl,rfl,Nat.le_refl _,λ_ _ _=>rfl⟩;exact⟨_,[],_,[],rfl,rfl,⟨by simpa using o,rfl⟩,II.2 ⟨Ac,rfl⟩⟩
  ·rcases o.2 with⟨rfl,h0⟩|⟨b,cap,a,rfl,_,C,E,hc,D,M⟩
   ·grind
   have ad:Inhabited {x:nQ.den//x∈l}:=⟨⟨l.head K,List.head_mem K⟩⟩
   obtain⟨enc,h⟩:∃enc:{x:nQ.den//x∈l}->List K2,enc=λx=>Fq x.1:=⟨_,rfl⟩
   have hk:∀x,(enc x).length=2:=λx=>by rw[h];rfl
   have a5:∀m:List {x:nQ.den//x∈l},m.flatMap enc=(m.map Subtype.val).flatMap Fq:=λm=>by rw[h,List.flatMap_map]
   have G:b<w.heap.size:=by
    grind
   have N:l.attach.toArray.size=l.length:=Ac
   have hH:HoldsK enc 2 w b 0 l.attach.toArray:=λj O=>by
    have a6:(flatK enc 2 l.attach.toArray).toList=l.flatMap Fq:=by
     grind[WR,Lq]
    rw[Ll];refine⟨?_,by simp[Ln,C]⟩;have a7:j<l.length*2:=by simpa using O
    have e3:(flatK enc 2 l.attach.toArray)[j]! =(l.flatMap Fq)[j]! :=Ag
    rw[id,e3,<-M];have Q:l.length*2<=a.size:=by rw[D];exact Lk 2 E
    simp only[Lm,C]
    grind
   have hS:=hsort _ enc (λx y=>x.1.1-y.1.1) b cap l.attach.toArray w hk (λx u S=>by rw[h]at S;simp only[Fq,Li,List.not_mem_nil,or_false]at S;rcases S with rfl|rfl<;>rfl)
    (Qqy λx:{x:nQ.den//x∈l}=>x.1.1)
    (λx y h1 U=>by
     have a1:¬x.1.1<y.1.1:=of_decide_eq_false ((OD (λx:{x:nQ.den//x∈l}=>x.1.1) x y).symm.trans h1);have a2:¬y.1.1<x.1.1:=of_decide_eq_false ((OD (λx:{x:nQ.den//x∈l}=>x.1.1) y x).symm.trans U)
     grind[qU])
    (λm os dk _ x y=>by rw[h];exact hcmp x.1 y.1 _ (J _ x.2).1 (J _ x.2).2 (J _ y.2).1 (J _ y.2).2)
    hH G Aa
   rw[N]at hS;refine hS.mono ?_;rintro en w' ⟨rfl,n,os,rfl⟩;obtain⟨i,H⟩:∃i:Array {x:nQ.den//x∈l},i=(l.attach.toArray.toList.mergeSort λx y=> !(ltOf (λx y:{x:nQ.den//x∈l}=>x.1.1-y.1.1)) y x).toArray:=⟨_,rfl⟩
   rw[<-H];have ar:i.toList.map Subtype.val=l.mergeSort λx y=>Lc (x.1<=y.1):=by
    rw[H];simp only[];rw[List.map_mergeSort (s:=λx y:nQ.den=>Lc (x.1<=y.1)) (λx _ y _=>Qel (λx:{x:nQ.den//x∈l}=>x.1.1) x y),Lq]
   have I:(flatK enc 2 i).toList=(l.mergeSort λx y=>Lc (x.1<=y.1)).flatMap Fq:=by
    grind[WR]
   have z:(l.mergeSort λx y=>Lc (x.1<=y.1)).length=l.length:=List.length_mergeSort _;have V:(flatK enc 2 i).size=l.length*2:=by
    rw[<-Array.length_toList,I,qt (k:=2) (λ_=>rfl),z]
   have Q:l.length*2<=a.size:=by rw[D];exact Lk 2 E
   have Y:(sortWorldK enc 2 w b 0 n i os).heap[b]? =K1 (.cells (putCells id 0 (flatK enc 2 i) a) e (0,0)):=by
    unfold sortWorldK grow putRowK putRow mapBlock;simp only[];rw[Array.getElem?_append_left (by simp;exact G)];simp[Array.getElem?_modify,C,onCells]
   have A:∀x,x<w.heap.size->x≠b->(sortWorldK enc 2 w b 0 n i os).heap[x]? =w.heap[x]? :=λx hx Z=>by
    unfold sortWorldK grow putRowK putRow mapBlock;simp only[];rw[Array.getElem?_append_left (by simp;exact hx)];simp[Array.getElem?_modify,Ne.symm Z]
   refine⟨[],[],rfl,⟨rfl,rfl⟩,Lt,⟨X,?_⟩,rfl,rfl,rfl,Ag,λx hx hn=>A x hx λe=>hn (by simp[K2.ownBlock,e])⟩;refine⟨_,(l.mergeSort λx y=>Lc (x.1<=y.1)).flatMap Fq,_,[],rfl,rfl,⟨⟨?_,.inr ⟨b,cap,_,by rw[z],Lu _,Y,Aa,hc,by simp[putCells,D],?_⟩⟩,rfl⟩,II.2 ⟨rfl,rfl⟩⟩
   ·rw[qt (k:=2) (λ_=>rfl)];rfl
   ·rw[z,<-I];have ab:(putCells id 0 (flatK enc 2 i) a).size=a.size:=by simp[putCells]
    refine Lr (by rw[List.length_take,Array.length_toList (xs:=putCells id 0 (flatK enc 2 i) a),Array.length_toList (xs:=flatK enc 2 i),V,ab];show min (l.length*2) a.size=l.length*2;omega) λj h1 U=>?_;have O:j<(flatK enc 2 i).size:=by simpa using U
    rw[List.getElem_take,Array.getElem_toList,Array.getElem_toList];simp only[putCells,Array.getElem_mapIdx,Lu,true_and,Ll,O,if_true,Nat.sub_zero,id]
    grind
def Z9i{P:Program}{o:Nat}{t:La}(hg:w.heap[b]? =K1 (.cells cur t (0,0)))(hfit:o+vs.length<=cur.size)(h1:∀v∈vs,v.oneCell'=Lb):
  w.setCells b o vs=w.setRow b (cur.toList.take o++vs++cur.toList.drop (o+vs.length)).toArray:=by
 have a:=run_storeCells_at P b o t vs 0 cur w hg (by simpa using hfit) h1
 grind[run_storeCells_cells,Lm,Ln]
def Qdj{i0:TypeInfo}(ht:P.underlying S=K1 (.slice E))(hi:P.info? E=K1 i0)(hk:i0.size=k){i cap:Nat}{ad:Addr}{news:List K2}(ty:La)
  (hb:w.heap[b]? =K1 (.cells cur E (0,0))) (hl:news.length=m*k) (hn:∀(j:Nat) u,news[j]? =K1 u->w.cell? (ad.add j)=K1 u) (h1:∀u∈news,u.oneCell'=Lb) (hroom:i+m<=cap) (hcs:cur.size=cap*k):
  (Lo #[S,S] ty #[.slice (K1 ⟨b,0,none⟩) i cap,.slice (K1 ad) m c]).run P w=
   .ok (.slice (K1 ⟨b,0,none⟩) (i+m) cap) (w.setRow b (cur.toList.take (i*k)++news++cur.toList.drop (i*k+news.length)).toArray):=by
 subst hk;have a:i*i0.size+news.length<=cur.size:=by rw[hl,hcs,<-Lj];exact Lk _ hroom
 rw[run_append_room_cells (P:=P) (w:=w) S ty E i0 ht hi b 0 i cap ad m c news hl hn h1 hroom (λj d=>by grind[Lm]) (λj d=>by simp[Ln,hb]),Ll,Z9i (P:=P) hb a h1]
def GS(z:Array K2)(m:Nat):(Ld z m).toList.length=m*z.size:=by simp[Ld]
def Z5p{z:Array K2}(h:∀u∈z.toList,u.oneCell'=Lb)(m:Nat):∀u∈(Ld z m).toList,u.oneCell'=true:=by
 intro u a;simp only[Ld,Array.toList_map,List.mem_map,Array.toList_range,List.mem_range]at a;obtain⟨i,b,rfl⟩:=a
 grind[Nat.mod_lt]
def Qii(ht:P.underlying S=K1 (.slice E)){z:K2}(hv:∀w,(zeroValue E).run P w=.ok z w)(hz:z.cells.size=k)(h1:∀u∈z.cells.toList,u.oneCell'=Lb){o:Nat}(ty:La)
  (hb:w.heap[b]? =K1 (.cells cur E (0,0))) (hfit:o+m*k<=cur.size) (hm:0<m):
  (Lp #[S] ty #[.slice (K1 ⟨b,o,none⟩) m c]).run P w=.ok (.tuple #[]) (w.setRow b (cur.toList.take o++(Ld z.cells m).toList++cur.toList.drop (o+m*k)).toArray):=by
 subst hz;have d:=GS z.cells m;have a:=run_storeCells_at P b o E (Ld z.cells m).toList 0 cur w hb Aa (Z5p h1 m);obtain⟨n,rfl⟩:∃n,m=n+1:=⟨m-1,Aa⟩
 simp_all[Lp,run_underlying]
def Wz.trim(he:∀args w,(callFunc f args).run P w=.ok (.enter f args) w)
  (hc:∀(s:ByteArray)(c:UInt8),c.toNat<128-> ∀w:K3,s.size<=9223372036854775807->Calls P f #[.string s,.string ⟨#[c]⟩] w λe w'=>e=.returned (.string ⟨(Lg s.data.toList c).toArray⟩)/\(w'=w\/w'=w.drew)):
  Wz P g {f:=f,args:=[.str,.str],res:=[.str],F:=λxs=>Ze (xs.2.1=[32]/\xs.1.length<4294967281) (K1 (Lg xs.1 32,()))} where
 enters:=he
 calls:=λw xs r i q hx a=>by
  obtain⟨(s:List UInt8),(p:List UInt8),u⟩:=xs;obtain⟨j,t,rfl,k,b,l,rfl,d,rfl⟩:=hx;obtain⟨rfl,_⟩:j=[.string ⟨⟨s⟩⟩]/\_:=k;obtain⟨rfl,_⟩:b=[.string ⟨⟨p⟩⟩]/\_:=d;obtain⟨m,a⟩:=kl.1 a;simp only[pB]at a;subst a;obtain⟨h,n⟩:p=[32]/\s.length<4294967281:=m;subst h;refine(hc ⟨⟨s⟩⟩ 32 Ah w (by show s.length<=_;omega)).mono λe w' ⟨d,o⟩=>⟨[.string ⟨(Lg s 32).toArray⟩],[],d,⟨[_],[],[],[],rfl,rfl,⟨rfl,rfl⟩,rfl,rfl⟩,Ac,?_⟩
  rcases o with rfl|rfl
  ·exact Below.refl _ _
  ·exact HW w 1
end
end Go.Am

/- The abstract machine, part 6: what a piece of Go code does, as plain data, and that it does so. No condition. -/
import Derived.Test.YtfhellopliifdaaGreatAm5
import Derived.Laws.CopyRow
import Derived.Lib.AppendZerosOnto
import Derived.Lib.Overlaps
import Derived.Laws.Externs
import Derived.Laws.NewBlocks
import Derived.Shelf.RegionOpenPlain
import Derived.Shelf.SlSortCmp.InsertionK
set_option linter.all false
namespace Go.Am
open Go.RowKit Go.Sort Go.Proofs
theorem Qmb{P:Program}{e e':TypeId}(hu:P.underlying e=some (.slice e')){k:Nat}(hz:∀w,(Go.sizeOf e').run P w=.ok k w)(w:World)(ty:TypeId)(g o dLen dCap:Nat)(a:Addr)(sLen sCap:Nat)(cur:Array Value)(t:TypeId)(cs:List Value)
  (hg:w.heap[g]? =some (.cells cur t (0,0))) (nn:Nat) (hn:nn=Nat.min sLen dLen) (hl:cs.length=nn*k)
  (hsrc:∀j v,cs[j]? =some v->w.cell? (a.add j)=some v) (hfit:o+cs.length<=cur.size) (h1:∀v∈cs,v.oneCell'=true):
  (Builtin.copy_ #[e,e] ty #[.slice (some ⟨g,o,none⟩) dLen dCap,.slice (some a) sLen sCap]).run P w=
   .ok (goInt nn) (w.setRow g (cur.toList.take o++cs++cur.toList.drop (o+cs.length)).toArray):=by
 have b:=run_loadCells_list (P:=P) w a cs hsrc;have c:=run_storeCells_at P g o t cs 0 cur w hg (by simpa using hfit) h1;simp_all[Builtin.copy_,run_underlying,Builtin.lenOf,Builtin.firstCells]
theorem Qrf{W:World}{b:Nat}{cur R:Array Value}{t:TypeId}{fz:Nat×Nat}(h:W.heap[b]? =some (.cells cur t fz)):(W.setRow b R).heap[b]? =some (.cells R t fz):=by simp[World.setRow,Array.getElem?_modify,h]
theorem Qrg{W:World}{b x:Nat}{R:Array Value}(hne:x≠b):(W.setRow b R).heap[x]? =W.heap[x]? :=by simp[World.setRow,Array.getElem?_modify,Ne.symm hne]
theorem Z9x{P:Program}{o:Oper}{a:Act}{w w':World}{d s:Operand}{t t':TypeId}{v u v':Value}(ho:o.op=.call {callee:=.builtin .copy,args:= #[d,s],argTypes:= #[t,t']})(hd:a.eval d=v)(hs:a.eval s=u)
  (hr:(Builtin.copy_ #[t,t'] o.type #[v,u]).run P w=.ok v' w'):(execOp a.eval o).run P w=.ok (.value v') w':=by
 simp_all[execOp,resolve,invoke,builtin]
theorem Z7z{P:Program}{o:Oper}{a:Act}{w w':World}{d s:Operand}{t t':TypeId}{v u v':Value}(ho:o.op=.call {callee:=.builtin .append,args:= #[d,s],argTypes:= #[t,t']})(hd:a.eval d=v)(hs:a.eval s=u)
  (hr:(Builtin.append_ #[t,t'] o.type #[v,u]).run P w=.ok v' w'):(execOp a.eval o).run P w=.ok (.value v') w':=by
 simp_all[execOp,resolve,invoke,builtin]
theorem Q2w{P:Program}{o:Oper}{a:Act}{w w':World}{v':Value}{K:Act->World->Prop}{Q:Exit->Act->World->Prop}(hr:(execOp a.eval o).run P w=.ok (.value v') w')(h:K (a.put o.dst v') w'):o.wp P a w K Q:=by
 unfold Oper.wp;rw[hr];exact h
theorem Zyv{P:Program}{ops:Array Oper}{rest:List Oper}{o:Oper}{a:Act}{w w':World}{v':Value}{Q:Exit->Act->World->Prop}(hgd:o.guard=none)(hr:(execOp a.eval o).run P w=.ok (.value v') w')
  (h:wpList P ops Q rest (a.put o.dst v') w'):wpList P ops Q (o::rest) a w:=wpList_plain hgd λ_ b=>Q2w hr (b _ _ h)
theorem Qsk{P:Program}{ops:Array Oper}{o:Oper}{a:Act}{w w':World}{v':Value}{K:Act->World->Prop}{Q:Exit->Act->World->Prop}{E:Prop}(hg:o.guard=none)(hr:(execOp a.eval o).run P w=.ok (.value v') w')
  (hK:K (a.put o.dst v') w'):if Region.wanted o (yielded ops a.tmps)=true then Oper.wp P o a w K Q else E:=by
 rw[if_pos (by simp[Region.wanted,hg])];exact Q2w hr hK
theorem Q1h{w:World}{b:Nat}{R:Array Value}:(w.setRow b R).heap.size=w.heap.size:=by simp_all
noncomputable def Q6s{α:Type}(l:List α)(i:Int)(v:List α):Option ((List α×Unit)×Unit):=Ze (0<=i/\i<=l.length/\0<v.length/\l.length+v.length<=Qd) (some ((l.take i.toNat++v++l.drop i.toNat,()),()))
theorem Qw5{α:Type}{r:α->List Value->List Nat->Prop}{sz:Nat}(hr:∀x v S,r x v S->v.length=sz):∀{l:List α}{vs:List Value}{S:List Nat}{i:Nat},i<=l.length->
  Zc2 r l vs S-> ∃S1 S2,S=S1++S2/\Zc2 r (l.take i) (vs.take (i*sz)) S1/\Zc2 r (l.drop i) (vs.drop (i*sz)) S2
 |l,vs,S,0,_,h=>⟨[],S,rfl,by simp[Zc2],by simpa using h⟩
 |[],_,_,i+1,a,_=>by simp at a
 |x::l,vs,S,i+1,a,⟨b,m,S1,S2,e,n,c,f⟩=>by
  obtain⟨d,g,o,j,p⟩:=Qw5 hr (i:=i) (by simpa using a) f;have q:=hr _ _ _ c;have k:(i+1)*sz=b.length+i*sz:=by grind
  refine⟨S1++d,g,by simp_all,?_,?_⟩
  ·rw[e,k,List.take_append,List.take_of_length_le (l:=b) (Nat.le_add_right _ _),Nat.add_sub_cancel_left];exact(⟨b,_,S1,d,rfl,rfl,c,j⟩:Zc2 r (x::l.take i) _ _)
  simp_all[List.drop_append,List.drop_of_length_le]
theorem Z31.insert{P:Program}{g:Kx}{f:FuncId}{e':TypeId}{t:Ty}(enters:∀args w,(callFunc f args).run P w=.ok (.enter f args) w)
  (hins:∀{w:World}{v vy:Value}{xs ys:List Value}{l l4:List t.den}{i:Nat},w.ownsRow 0 e' t.size v l.length xs->w.ownsRow 0 e' t.size vy l4.length ys->(∀b,v.ownBlock=some b->vy.ownBlock≠some b)->i<=l.length->0<l4.length->l.length+l4.length<=Qd->
   (∀u∈xs,u.oneCell'=true)->(∀u∈ys,u.oneCell'=true)->
   Calls P f #[v,.int .i64 i,vy] w λe w'=> ∃v',e=.returned v'/\w'.ownsRow 0 e' t.size v' (l.length+l4.length) (xs.take (i*t.size)++ys++xs.drop (i*t.size))/\w.grownBy w' v.ownBlock/\(v'.ownBlock=v.ownBlock\/ ∀b,v'.ownBlock=some b->w.heap.size<=b)):
  Z31 P g {f:=f,args:=[.mv (.slice e' t),.sh (.int .i64),.mv (.slice e' t)],res:=.vals [.slice e' t],F:=λxs=>Q6s xs.1 xs.2.1 xs.2.2.1} where
 enters:=enters
 calls:=by
  intro w X L xs r vals hg ab d H q I s;obtain⟨(l:List t.den),(i:Int),(l4:List t.den),u⟩:=xs;obtain⟨cs,S,us,L',rfl,rfl,h1,ad,ae,rfl,h2,ag,S3,ah,L3,rfl,rfl,h3,rfl,rfl⟩:=I;obtain⟨v,xs,S1,p,rfl,rfl,⟨z,rfl⟩,A⟩:=h1;obtain⟨rfl,-⟩:=h2;obtain⟨vy,ys,S4,c,rfl,rfl,⟨k,rfl⟩,B⟩:=h3;unfold Q6s at s;simp only at s;have J:0<=i/\i<=l.length/\0<l4.length/\l.length+l4.length<=Qd:=by
   simp_all[Ze]
  have s:some ((l.take i.toNat++l4++l.drop i.toNat,()),())=some r:=by
   simp_all[Ze]
  simp only[Osi]at s;subst s;obtain⟨g0,g1,g2,g3⟩:=J;have g0:(0:Int)<=i:=g0;have g1:i<=((List.length l:Nat):Int):=g1;obtain⟨j,rfl⟩:∃j:Nat,i=j:=⟨i.toNat,by omega⟩
  simp only[List.append_nil]at q H;have hj:j<=l.length:=by omega
  have K:∀x v S,rd w X 0 true t x v S->v.length=t.size:=λx v S h=>Y6 h;have C:=List.nodup_append.1 q;have D:=List.nodup_append.1 C.1;have M:=List.nodup_append.1 C.2.1;have N:∀b,v.ownBlock=some b->vy.ownBlock≠some b:=λb hb m=>
   C.2.2 b (by simp[hb]) b (by simp[m]) rfl
  refine(hins z k N hj g2 g3 (Z1p (λx v S h=>Zon h) A) (Z1p (λx v S h=>Zon h) B)).mono ?_;rintro en w' ⟨v',rfl,k1,k2,k3⟩;obtain⟨O,Q,e1,r1,r2⟩:=Qw5 K hj A;have E:∀b,b∈p\/b∈c->v.ownBlock≠some b:=λb hb e=>hb.elim
   (λhb=>D.2.2 b (by simp[e]) b hb rfl) (λhb=>C.2.2 b (by simp[e]) b (by simp[hb]) rfl)
  have U:∀b,b∈p\/b∈c-> ¬X b/\b<w.heap.size:=λb hb=>H b (by grind);have a:∀b,b∈p\/b∈c->w'.heap[b]? =w.heap[b]? :=λb hb=>k2.block b (U b hb).2 λe=>E b hb e.symm;have V:∀b,v.ownBlock=some b-> ¬X b/\b<w.heap.size:=λb hb=>H b (by simp[hb]);have W:∀b,X b->w'.heap[b]? =w.heap[b]? :=λb hb=>k2.block b (d b hb) λe=>(V b e.symm).1 hb;have n:Zc2 (rd w' X 0 true t) (l.take j++l4++l.drop j) (xs.take (j*t.size)++ys++xs.drop (j*t.size)) ((O++c)++Q):=by
   refine Zrd (Zrd (Jy r1 λx v T _ Y h=>?_) (Jy B λx v T _ Y h=>?_)) (Jy r2 λx v T _ Y h=>?_)
   ·exact Zgz (λ_ h=>h) W h λb hb=>a b (.inl (by grind))
   ·exact Zgz (λ_ h=>h) W h λb hb=>a b (.inr (Y b hb))
   ·exact Zgz (λ_ h=>h) W h λb hb=>a b (.inl (by grind))
  have G:(l.take j++l4++l.drop j).length=l.length+l4.length:=by
   grind
  have o:((O++c)++Q).Perm (p++c):=by
   grind
  have Z:∀b,v'.ownBlock=some b->b<w'.heap.size:=λb hb=>(k1.lt b hb).2;have ak:∀b,v'.ownBlock=some b->b∉p++c:=λb hb hm=>by
   grind
  have aa:(p++c).Nodup:=List.nodup_append.2 ⟨D.2.1,M.2.1,λx hx y hy e=>C.2.2 x (by simp[hx]) y (by simp[hy]) e⟩;refine⟨[v'],v'.ownBlock.toList++((O++c)++Q),[],[],X,rfl,?_,?_,⟨_,_,rfl,_,_,rfl,_,_,rfl,rfl,rfl,rfl⟩,trivial⟩
  ·simp only[List.append_nil];refine⟨k2.os,k2.tape,k2.output,k2.size,λ_ h=>h,λb hb=>Nat.lt_of_lt_of_le (d b hb) k2.size,λb hb=>.inl hb,?_,λb hb=>?_,λb hb m=>k2.block b hb λe=>m (by simp[<-e])⟩
   ·refine List.nodup_append.2 ⟨by grind,o.nodup_iff.2 aa,λx hx y hy e=>?_⟩
    grind
   ·rcases List.mem_append.1 hb with hb|hb
    ·have hb:v'.ownBlock=some b:=by simpa using hb
     refine⟨?_,Z b hb,λhx=>?_⟩
     ·rcases k3 with e|e
      ·grind
      grind
     grind
    grind
  ·refine⟨[v'],[],_,[],rfl,(List.append_nil _).symm,Z24 (X:=X) ?_,rfl,rfl⟩;rw[<-G]at k1;exact⟨v',_,_,_,rfl,rfl,⟨k1,rfl⟩,n⟩
@[reducible] def Zlz:Ty:=.pair (.int .i64) (.pair .str .unit)
def Qtc(x:Zlz.den):List Value:=[.int .i64 x.1,.string ⟨⟨x.2.1⟩⟩]
theorem Qw2{w:World}{X:Nat->Prop}{B:Nat}{own:Bool}{x:Zlz.den}{vs:List Value}{S:List Nat}:rd w X B own Zlz x vs S↔vs=Qtc x/\S=[]:=by
 constructor
 ·rintro⟨a,b,c,d,rfl,rfl,⟨rfl,rfl⟩,e,f,g,h,rfl,rfl,⟨rfl,rfl⟩,rfl,rfl⟩;exact⟨rfl,rfl⟩
 ·rintro⟨rfl,rfl⟩;exact⟨[_],[_],[],[],rfl,rfl,⟨rfl,rfl⟩,[_],[],[],[],rfl,rfl,⟨rfl,rfl⟩,rfl,rfl⟩
theorem Z1o{w:World}{X:Nat->Prop}{B:Nat}{own:Bool}:∀{l:List Zlz.den}{vs:List Value}{S:List Nat},Zc2 (rd w X B own Zlz) l vs S↔vs=l.flatMap Qtc/\S=[]
 |[],vs,S=>Iff.rfl
 |x::l,vs,S=>by
  constructor
  ·rintro⟨c,d,e,f,rfl,rfl,a,b⟩;obtain⟨rfl,rfl⟩:=Qw2.1 a;obtain⟨rfl,rfl⟩:=Z1o.1 b;simp_all
  ·rintro⟨rfl,rfl⟩;exact⟨_,_,[],[],rfl,rfl,Qw2.2 ⟨rfl,rfl⟩,Z1o.2 ⟨rfl,rfl⟩⟩
theorem Zn9{α:Type}{enc:α->List Value}{k:Nat}(hk:∀x,(enc x).length=k):∀l:List α,(l.flatMap enc).length=l.length*k
 |[]=>by simp
 |x::l=>by rw[List.flatMap_cons,List.length_append,hk,Zn9 hk l,List.length_cons,Nat.add_mul];omega
theorem Qkh{α:Type}[Inhabited α]{enc:α->List Value}{k:Nat}(hk:∀x,(enc x).length=k)(k0:0<k):∀(l:List α)(t:Nat),t<l.length*k->(l.flatMap enc)[t]! =(enc l[t/k]!)[t%k]!
 |[],t,h=>by simp at h
 |x::l,t,h=>by
  rw[List.flatMap_cons];by_cases e:t<k
  ·grind[Nat.div_eq_of_lt,Nat.mod_eq_of_lt]
  ·obtain⟨u,rfl⟩:∃u,t=u+k:=⟨t-k,by omega⟩
   have a:u<l.length*k:=by simp_all[Nat.add_mul]
   have b:(u+k)/k=u/k+1:=Nat.add_div_right u k0;have c:(u+k)%k=u%k:=Nat.add_mod_right u k;rw[b,c];have d:(x::l)[u/k+1]! =l[u/k]! :=by simp
   rw[d,<-Qkh hk k0 l u a]
   grind
theorem Qe4{α:Type}[Inhabited α]{enc:α->List Value}{k:Nat}(hk:∀x,(enc x).length=k)(k0:0<k)(d:Array α):(flatK enc k d).toList=d.toList.flatMap enc:=by
 refine List.ext_getElem (by rw[Zn9 hk];simp) λt b c=>?_;have a:t<d.size*k:=by simpa using b
 have g:=Qkh hk k0 d.toList t (by simpa using a);rw[getElem!_pos _ t c]at g;have e:d.toList[t/k]! =d[t/k]! :=by grind
 rw[g,e,<-get_flatK enc k d t a,Array.getElem_toList,getElem!_pos]
noncomputable def Qsh(l:List Zlz.den):Option (Unit×List Zlz.den):=Ze ((∀x∈l,0<=x.1/\x.1<=4611686018427387904)/\(l.map λx=>x.1).Nodup/\l.length<4611686018427387904) (some ((),l.mergeSort λx y=>decide (x.1<=y.1)))
theorem Qrt{α:Type}{key:α->Int}:∀{l:List α},(l.map key).Nodup-> ∀{x y:α},x∈l->y∈l->key x=key y->x=y
 |[],_,_,_,hx,_,_=>by cases hx
 |z::l,h,x,y,hx,hy,e=>by
  rw[List.map_cons,List.nodup_cons]at h;rcases List.mem_cons.1 hx with hx|hx<;>rcases List.mem_cons.1 hy with hy|hy
  ·rw[hx,hy]
  ·grind
  ·simp_all
  ·exact Qrt h.2 hx hy e
theorem Z4l{α:Type}(key:α->Int)(x y:α):ltOf (λx y=>key x-key y) x y=decide (key x<key y):=by
 unfold ltOf
 grind
theorem Xbp{α:Type}(key:α->Int):SWO (ltOf λx y=>key x-key y) where
 irrefl x:=by simp[Z4l]
 trans x y z h1 h2:=by
  rw[Z4l key]at h1 h2⊢
  grind
 ntrans x y z h1 h2:=by
  rw[Z4l key]at h1 h2⊢
  grind
theorem Qzi{α:Type}(key:α->Int)(x y:α):(!ltOf (λx y=>key x-key y) y x)=decide (key x<=key y):=by
 rw[Z4l key,Bool.eq_iff_iff];simp_all
theorem Qej.sort{P:Program}{g:Kx}{f cf:FuncId}{e:TypeId}(enters:∀args w,(callFunc f args).run P w=.ok (.enter f args) w)
  (hnone:∀(p:Option Addr)(cap:Nat)(fv:Value)(w:World),Calls P f #[.slice p 0 cap,fv] w λen w'=>en=.returned (.tuple #[])/\w'=w)
  (hsort:∀(α:Type)[Inhabited α](enc:α->List Value)(c:α->α->Int)(blk cap:Nat)(d:Array α)(w:World),(∀x,(enc x).length=2)->(∀x,∀v∈enc x,v.oneCell'=true)->SWO (ltOf c)->(∀x y,ltOf c x y=false->ltOf c y x=false->x=y)->
   CmpLays P cf #[] enc 2 c blk 0 d.size w->HoldsK enc 2 w blk 0 d->blk<w.heap.size->d.size<4611686018427387904->
   Calls P f #[.slice (some ⟨blk,0,none⟩) d.size cap,.func (.func cf) #[] #[]] w λen w'=>en=.returned (.tuple #[])/\ ∃n os,w'=sortWorldK enc 2 w blk 0 n (d.toList.mergeSort λx y=> !(ltOf c) y x).toArray os)
  (hcmp:∀(x y:Zlz.den)(W:World),0<=x.1->x.1<=4611686018427387904->0<=y.1->y.1<=4611686018427387904->
   Calls P cf #[.agg #[.int .i64 x.1,.string ⟨⟨x.2.1⟩⟩],.agg #[.int .i64 y.1,.string ⟨⟨y.2.1⟩⟩]] W λen w'=>en=.returned (.int .i64 (x.1-y.1))/\ ∃q os',w'=grow (W.drewN q) os'):
  Qej P g {f:=f,e:=e,t:=Zlz,args:=[.fnc cf],res:=[],F:=λl _=>Qsh l} where
 flat:=rfl
 enters:=enters
 calls:=by
  intro w X L (l:List Zlz.den) (l':List Zlz.den) xs r v vals hg hgx hxlt hLX hLn hrd hargs B;have B:Qsh l=some (r,l'):=B;obtain⟨cs,us,rfl,⟨rfl,-⟩,rfl⟩:=hargs;obtain⟨v1,ae,S1,S2,e1,rfl,⟨o,rfl⟩,hr⟩:=hrd;simp only[List.cons.injEq,and_true]at e1;subst e1;obtain⟨rfl,rfl⟩:=Z1o.1 hr;unfold Qsh at B;rw[Zoa]at B;obtain⟨⟨J,ag,ah⟩,B⟩:=B;simp only[Osi,Opi]at B;obtain⟨-,rfl⟩:=B;have ak:Yz (Ty.fnc cf) [.func (.func cf) #[] #[]]=.func (.func cf) #[] #[]:=rfl;by_cases K:l=[]
  ·subst K;obtain⟨p,cap,rfl⟩:∃p cap,v=.slice p 0 cap:=by
    rcases o.2 with⟨rfl,_⟩|⟨b,cap,a,rfl,_⟩
    all_goals grind
   refine(hnone p cap _ w).mono ?_;rintro en w' ⟨rfl,rfl⟩;refine⟨[],[],rfl,⟨rfl,rfl⟩,List.nodup_nil,⟨X,?_⟩,rfl,rfl,rfl,Nat.le_refl _,λ_ _ _=>rfl⟩;exact⟨_,[],_,[],rfl,rfl,⟨by simpa using o,rfl⟩,Z1o.2 ⟨by simp,rfl⟩⟩
  ·rcases o.2 with⟨rfl,h0⟩|⟨b,cap,a,rfl,_,C,E,hc,D,M⟩
   ·grind
   have ab:Inhabited {x:Zlz.den//x∈l}:=⟨⟨l.head K,List.head_mem K⟩⟩
   obtain⟨enc,h⟩:∃enc:{x:Zlz.den//x∈l}->List Value,enc=λx=>Qtc x.1:=⟨_,rfl⟩
   have hk:∀x,(enc x).length=2:=λx=>by rw[h];rfl
   have al:∀m:List {x:Zlz.den//x∈l},m.flatMap enc=(m.map Subtype.val).flatMap Qtc:=λm=>by rw[h,List.flatMap_map]
   have G:b<w.heap.size:=by
    grind
   have N:l.attach.toArray.size=l.length:=by simp
   have hH:HoldsK enc 2 w b 0 l.attach.toArray:=λj O=>by
    have am:(flatK enc 2 l.attach.toArray).toList=l.flatMap Qtc:=by
     grind[Qe4,List.attach_map_subtype_val]
    rw[Nat.zero_add];refine⟨?_,by simp[World.frozen?,C]⟩;have ap:j<l.length*2:=by simpa using O
    have e3:(flatK enc 2 l.attach.toArray)[j]! =(l.flatMap Qtc)[j]! :=by grind
    rw[id,e3,<-M];have Q:l.length*2<=a.size:=by rw[D];exact Nat.mul_le_mul_right 2 E
    simp only[World.cell?,C]
    grind
   have hS:=hsort _ enc (λx y=>x.1.1-y.1.1) b cap l.attach.toArray w hk (λx u S=>by rw[h]at S;simp only[Qtc,List.mem_cons,List.not_mem_nil,or_false]at S;rcases S with rfl|rfl<;>rfl)
    (Xbp λx:{x:Zlz.den//x∈l}=>x.1.1)
    (λx y h1 U=>by
     have a1:¬x.1.1<y.1.1:=of_decide_eq_false ((Z4l (λx:{x:Zlz.den//x∈l}=>x.1.1) x y).symm.trans h1);have a2:¬y.1.1<x.1.1:=of_decide_eq_false ((Z4l (λx:{x:Zlz.den//x∈l}=>x.1.1) y x).symm.trans U)
     grind[Qrt])
    (λm os dk _ x y=>by rw[h];exact hcmp x.1 y.1 _ (J _ x.2).1 (J _ x.2).2 (J _ y.2).1 (J _ y.2).2)
    hH G (by omega)
   rw[N]at hS;refine hS.mono ?_;rintro en w' ⟨rfl,n,os,rfl⟩;obtain⟨i,H⟩:∃i:Array {x:Zlz.den//x∈l},i=(l.attach.toArray.toList.mergeSort λx y=> !(ltOf (λx y:{x:Zlz.den//x∈l}=>x.1.1-y.1.1)) y x).toArray:=⟨_,rfl⟩
   rw[<-H];have ad:i.toList.map Subtype.val=l.mergeSort λx y=>decide (x.1<=y.1):=by
    rw[H];simp only[];rw[List.map_mergeSort (s:=λx y:Zlz.den=>decide (x.1<=y.1)) (λx _ y _=>Qzi (λx:{x:Zlz.den//x∈l}=>x.1.1) x y),List.attach_map_subtype_val]
   have I:(flatK enc 2 i).toList=(l.mergeSort λx y=>decide (x.1<=y.1)).flatMap Qtc:=by
    grind[Qe4]
   have z:(l.mergeSort λx y=>decide (x.1<=y.1)).length=l.length:=List.length_mergeSort _;have V:(flatK enc 2 i).size=l.length*2:=by
    rw[<-Array.length_toList,I,Zn9 (k:=2) (λ_=>rfl),z]
   have Q:l.length*2<=a.size:=by rw[D];exact Nat.mul_le_mul_right 2 E
   have Y:(sortWorldK enc 2 w b 0 n i os).heap[b]? =some (.cells (putCells id 0 (flatK enc 2 i) a) e (0,0)):=by
    unfold sortWorldK grow putRowK putRow mapBlock;simp only[];rw[Array.getElem?_append_left (by simp;exact G)];simp[Array.getElem?_modify,C,onCells]
   have A:∀x,x<w.heap.size->x≠b->(sortWorldK enc 2 w b 0 n i os).heap[x]? =w.heap[x]? :=λx hx Z=>by
    unfold sortWorldK grow putRowK putRow mapBlock;simp only[];rw[Array.getElem?_append_left (by simp;exact hx)];simp[Array.getElem?_modify,Ne.symm Z]
   refine⟨[],[],rfl,⟨rfl,rfl⟩,List.nodup_nil,⟨X,?_⟩,rfl,rfl,rfl,by grind,λx hx hn=>A x hx λe=>hn (by simp[Value.ownBlock,e])⟩;refine⟨_,(l.mergeSort λx y=>decide (x.1<=y.1)).flatMap Qtc,_,[],rfl,rfl,⟨⟨?_,.inr ⟨b,cap,_,by rw[z],Nat.zero_le _,Y,by omega,hc,by simp[putCells,D],?_⟩⟩,rfl⟩,Z1o.2 ⟨rfl,rfl⟩⟩
   ·rw[Zn9 (k:=2) (λ_=>rfl)];rfl
   ·rw[z,<-I];have aa:(putCells id 0 (flatK enc 2 i) a).size=a.size:=by simp[putCells]
    refine List.ext_getElem (by rw[List.length_take,Array.length_toList (xs:=putCells id 0 (flatK enc 2 i) a),Array.length_toList (xs:=flatK enc 2 i),V,aa];show min (l.length*2) a.size=l.length*2;omega) λj h1 U=>?_;have O:j<(flatK enc 2 i).size:=by simpa using U
    rw[List.getElem_take,Array.getElem_toList,Array.getElem_toList];simp only[putCells,Array.getElem_mapIdx,Nat.zero_le,true_and,Nat.zero_add,O,if_true,Nat.sub_zero,id]
    grind
end Go.Am

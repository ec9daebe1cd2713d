/- The abstract machine, part 6: what a piece of Go code does, as plain data, and that it does so. No condition. -/
import Derived.Test.YtgepmefongfeeaaGreatAm5
import Derived.Laws.CopyRow
import Derived.Lib.AppendZerosOnto
import Derived.Lib.Overlaps
import Derived.Laws.Externs
import Derived.Laws.NewBlocks
import Derived.Shelf.RegionOpenPlain
import Derived.Shelf.SlSortCmp.InsertionK
namespace Go.Am
open Go.RowKit
theorem Qob{P:Program}{e e':TypeId}(hu:P.underlying e=some (.slice e')){k:Nat}(hz: ∀w,(Go.sizeOf e').run P w= .ok k w)(w:World)(ty:TypeId)(g o dLen dCap:Nat)(a:Addr)(sLen sCap:Nat)(cur:Array Value)(t:TypeId)(cs:List Value)
  (hg:w.heap[g]? =some (.cells cur t (0,0))) (nn:Nat) (hn:nn=Nat.min sLen dLen) (hl:cs.length=nn*k)
  (hsrc: ∀j v,cs[j]? =some v->w.cell? (a.add j)=some v) (hfit:o+cs.length<=cur.size) (h1: ∀v∈cs,v.oneCell'=true):
  (Builtin.copy_ #[e,e] ty #[.slice (some ⟨g,o,none⟩) dLen dCap,.slice (some a) sLen sCap]).run P w=
   .ok (goInt nn) (w.setRow g (cur.toList.take o++cs++cur.toList.drop (o+cs.length)).toArray):=by
 have b:=run_loadCells_list (P:=P) w a cs hsrc;have c:=run_storeCells_at P g o t cs 0 cur w hg (by simpa using hfit) h1;rw[hl]at b;simp[Builtin.copy_,run_underlying hu,Builtin.lenOf,Builtin.firstCells,hz,<-hn,b,c]
theorem Quc{W:World}{b:Nat}{cur R:Array Value}{t:TypeId}{fz:Nat×Nat}(h:W.heap[b]? =some (.cells cur t fz)): (W.setRow b R).heap[b]? =some (.cells R t fz):=by simp[World.setRow,Array.getElem?_modify,h]
theorem Qud{W:World}{b x:Nat}{R:Array Value}(hne:x≠b): (W.setRow b R).heap[x]? =W.heap[x]? :=by simp[World.setRow,Array.getElem?_modify,Ne.symm hne]
theorem Z56{P:Program}{o:Oper}{a:Act}{w w':World}{d s:Operand}{t t':TypeId}{v u v':Value}(ho:o.op= .call {callee:= .builtin .copy,args:= #[d,s],argTypes:= #[t,t']})(hd:a.eval d=v)(hs:a.eval s=u)
  (hr: (Builtin.copy_ #[t,t'] o.type #[v,u]).run P w= .ok v' w'): (execOp a.eval o).run P w= .ok (.value v') w':=by
 simp[execOp,ho,resolve,invoke,builtin,hd,hs,hr]
theorem Z3r{P:Program}{o:Oper}{a:Act}{w w':World}{d s:Operand}{t t':TypeId}{v u v':Value}(ho:o.op= .call {callee:= .builtin .append,args:= #[d,s],argTypes:= #[t,t']})(hd:a.eval d=v)(hs:a.eval s=u)
  (hr: (Builtin.append_ #[t,t'] o.type #[v,u]).run P w= .ok v' w'): (execOp a.eval o).run P w= .ok (.value v') w':=by
 simp[execOp,ho,resolve,invoke,builtin,hd,hs,hr]
theorem Q3t{P:Program}{o:Oper}{a:Act}{w w':World}{v':Value}{K:Act->World->Prop}{Q:Exit->Act->World->Prop}(hr: (execOp a.eval o).run P w= .ok (.value v') w')(h:K (a.put o.dst v') w'):o.wp P a w K Q:=by
 unfold Oper.wp;rw[hr];exact h
theorem Ztk{P:Program}{ops:Array Oper}{rest:List Oper}{o:Oper}{a:Act}{w w':World}{v':Value}{Q:Exit->Act->World->Prop}(hgd:o.guard=none)(hr: (execOp a.eval o).run P w= .ok (.value v') w')
  (h:wpList P ops Q rest (a.put o.dst v') w'):wpList P ops Q (o::rest) a w:=wpList_plain hgd fun _ b=>Q3t hr (b _ _ h)
theorem Qvc{P:Program}{ops:Array Oper}{o:Oper}{a:Act}{w w':World}{v':Value}{K:Act->World->Prop}{Q:Exit->Act->World->Prop}{E:Prop}(hg:o.guard=none)(hr: (execOp a.eval o).run P w= .ok (.value v') w')
  (hK:K (a.put o.dst v') w'):if Region.wanted o (yielded ops a.tmps)=true then Oper.wp P o a w K Q else E:=by
 rw[if_pos (by simp[Region.wanted,hg])];exact Q3t hr hK
theorem Q2q{w:World}{b:Nat}{R:Array Value}: (w.setRow b R).heap.size=w.heap.size:=by simp[World.setRow]
noncomputable def Q6x{α:Type}(l:List α)(i:Int)(v:List α):Option ((List α×Unit)×Unit):=Ze (0<=i/\i<=l.length/\0<v.length/\l.length+v.length<=Qo) (some ((l.take i.toNat++v++l.drop i.toNat,()),()))
theorem Qy7{α:Type}{r:α->List Value->List Nat->Prop}{sz:Nat}(hr: ∀x v S,r x v S->v.length=sz): ∀{l:List α} {vs:List Value} {S:List Nat} {i:Nat},i<=l.length->
  Zaj r l vs S-> ∃S1 S2,S=S1++S2/\Zaj r (l.take i) (vs.take (i*sz)) S1/\Zaj r (l.drop i) (vs.drop (i*sz)) S2
 |l,vs,S,0,_,h=>⟨[],S,rfl,by simp[Zaj],by simpa using h⟩
 | [],_,_,i+1,b,_=>by simp at b
 |x::l,vs,S,i+1,b,⟨a,q,S1,S2,c,g,d,j⟩=>by
  obtain⟨e,k,m,n,o⟩:=Qy7 hr (i:=i) (by simpa using b) j;have p:=hr _ _ _ d;have f: (i+1)*sz=a.length+i*sz:=by rw[p,Nat.add_mul];omega
  refine⟨S1++e,k,by rw[g,m,List.append_assoc],?_,?_⟩
  ·rw[c,f,List.take_append,List.take_of_length_le (l:=a) (Nat.le_add_right _ _),Nat.add_sub_cancel_left];exact(⟨a,_,S1,e,rfl,rfl,d,n⟩:Zaj r (x::l.take i) _ _)
  ·rw[c,f,List.drop_append,List.drop_of_length_le (l:=a) (Nat.le_add_right _ _),Nat.add_sub_cancel_left];exact o
theorem Z26.insert{P:Program}{g:K9}{f:FuncId}{e':TypeId}{t:Ty}(enters: ∀args w,(callFunc f args).run P w= .ok (.enter f args) w)
  (hins: ∀{w:World} {v vy:Value} {xs ys:List Value} {l l4:List t.den} {i:Nat},w.ownsRow 0 e' t.size v l.length xs->w.ownsRow 0 e' t.size vy l4.length ys->(∀b,v.ownBlock=some b->vy.ownBlock≠some b)->i<=l.length->0<l4.length->l.length+l4.length<=Qo->
   (∀u∈xs,u.oneCell'=true)->(∀u∈ys,u.oneCell'=true)->
   Calls P f #[v,.int .i64 i,vy] w fun e w'=> ∃v',e= .returned v'/\w'.ownsRow 0 e' t.size v' (l.length+l4.length) (xs.take (i*t.size)++ys++xs.drop (i*t.size))/\w.grownBy w' v.ownBlock/\(v'.ownBlock=v.ownBlock\/ ∀b,v'.ownBlock=some b->w.heap.size<=b)):
  Z26 P g {f:=f,args:=[.mv (.slice e' t),.sh (.int .i64),.mv (.slice e' t)],res:= .vals [.slice e' t],F:=fun xs=>Q6x xs.1 xs.2.1 xs.2.2.1} where
 enters:=enters
 calls:=by
  intro w X L xs r vals hg ad d N A O k;obtain⟨(l:List t.den),(i:Int),(l4:List t.den),u⟩:=xs;obtain⟨cs,S,us,L',rfl,rfl,h1,ae,ag,rfl,h2,ah,S3,aj,L3,rfl,rfl,h3,rfl,rfl⟩:=O;obtain⟨v,xs,S1,z,rfl,rfl,⟨B,rfl⟩,C⟩:=h1;obtain⟨rfl,-⟩:=h2;obtain⟨vy,ys,S4,m,rfl,rfl,⟨o,rfl⟩,D⟩:=h3;unfold Q6x at k;simp only at k;have E:0<=i/\i<=l.length/\0<l4.length/\l.length+l4.length<=Qo:=by
   by_cases h:0<=i/\i<=l.length/\0<l4.length/\l.length+l4.length<=Qo
   ·exact h
   ·simp only[Ze,h]at k
    first|cases k| (simp at k)
  have k:some ((l.take i.toNat++l4++l.drop i.toNat,()),())=some r:=by
   simpa only[Ze,E,and_self,decide_true,Oct,if_true]using k
  simp only[Osi]at k;subst k;obtain⟨g0,g1,g2,g3⟩:=E;have g0: (0:Int)<=i:=g0;have g1:i<=((List.length l:Nat):Int):=g1;obtain⟨j,rfl⟩: ∃j:Nat,i=j:=⟨i.toNat,by omega⟩
  simp only[List.append_nil]at A N;have hj:j<=l.length:=by omega
  have Q: ∀x v S,rd w X 0 true t x v S->v.length=t.size:=fun x v S h=>X5 h;have G:=List.nodup_append.1 A;have H:=List.nodup_append.1 G.1;have U:=List.nodup_append.1 G.2.1;have V: ∀b,v.ownBlock=some b->vy.ownBlock≠some b:=fun b hb p=>
   G.2.2 b (by simp[hb]) b (by simp[p]) rfl
  refine(hins B o V hj g2 g3 (Zv2 (fun x v S h=>Zkc h) C) (Zv2 (fun x v S h=>Zkc h) D)).mono ?_;rintro en w' ⟨v',rfl,k1,k2,k3⟩;obtain⟨W,Y,Z,r1,r2⟩:=Qy7 Q hj C;have n: ∀b,b∈z\/b∈m->v.ownBlock≠some b:=fun b hb e=>hb.elim
   (fun hb=>H.2.2 b (by simp[e]) b hb rfl) (fun hb=>G.2.2 b (by simp[e]) b (by simp[hb]) rfl)
  have q: ∀b,b∈z\/b∈m-> ¬X b/\b<w.heap.size:=fun b hb=>N b (by simp only[List.mem_append];grind);have a: ∀b,b∈z\/b∈m->w'.heap[b]? =w.heap[b]? :=fun b hb=>k2.block b (q b hb).2 fun e=>n b hb e.symm;have I: ∀b,v.ownBlock=some b-> ¬X b/\b<w.heap.size:=fun b hb=>N b (by simp[hb]);have hX: ∀b,X b->w'.heap[b]? =w.heap[b]? :=fun b hb=>k2.block b (d b hb) fun e=>(I b e.symm).1 hb;have s:Zaj (rd w' X 0 true t) (l.take j++l4++l.drop j) (xs.take (j*t.size)++ys++xs.drop (j*t.size)) ((W++m)++Y):=by
   refine Zmk (Zmk (Kq r1 fun x v T _ J h=> ?_) (Kq D fun x v T _ J h=> ?_)) (Kq r2 fun x v T _ J h=> ?_)
   ·exact Zdd (fun _ h=>h) hX h fun b hb=>a b (.inl (by rw[Z];simp[J b hb]))
   ·exact Zdd (fun _ h=>h) hX h fun b hb=>a b (.inr (J b hb))
   ·exact Zdd (fun _ h=>h) hX h fun b hb=>a b (.inl (by rw[Z];simp[J b hb]))
  have K: (l.take j++l4++l.drop j).length=l.length+l4.length:=by
   simp only[List.length_append,List.length_take,List.length_drop];omega
  have c: ((W++m)++Y).Perm (z++m):=by
   rw[Z,List.append_assoc,List.append_assoc];exact List.Perm.append_left _ List.perm_append_comm
  have aa: ∀b,v'.ownBlock=some b->b<w'.heap.size:=fun b hb=>(k1.lt b hb).2;have ab: ∀b,v'.ownBlock=some b->b∉z++m:=fun b hb M=>by
   rcases k3 with e|e
   ·exact n b (List.mem_append.1 M) (by rw[<-e];exact hb)
   ·have:=(q b (List.mem_append.1 M)).2;have:=e b hb;omega
  have ac: (z++m).Nodup:=List.nodup_append.2 ⟨H.2.1,U.2.1,fun x hx y hy e=>G.2.2 x (by simp[hx]) y (by simp[hy]) e⟩;refine⟨[v'],v'.ownBlock.toList++ ((W++m)++Y),[],[],X,rfl,?_,?_,⟨_,_,rfl,_,_,rfl,_,_,rfl,rfl,rfl,rfl⟩,trivial⟩
  ·simp only[List.append_nil];refine⟨k2.os,k2.tape,k2.output,k2.size,fun _ h=>h,fun b hb=>Nat.lt_of_lt_of_le (d b hb) k2.size,fun b hb=> .inl hb,?_,fun b hb=> ?_,fun b hb p=>k2.block b hb fun e=>p (by simp[<-e])⟩
   ·refine List.nodup_append.2 ⟨by cases v'.ownBlock<;>simp,c.nodup_iff.2 ac,fun x hx y hy e=> ?_⟩;subst e;exact ab x (by simpa using hx) (c.mem_iff.1 hy)
   ·rcases List.mem_append.1 hb with hb|hb
    ·have hb:v'.ownBlock=some b:=by simpa using hb
     refine⟨?_,aa b hb,fun hx=> ?_⟩
     ·rcases k3 with e|e
      ·exact .inr (by simp[<-e,hb])
      ·exact .inl (e b hb)
     ·rcases k3 with e|e
      ·exact(I b (by rw[<-e];exact hb)).1 hx
      ·have:=d b hx;have:=e b hb;omega
    ·have M:=List.mem_append.1 (c.mem_iff.1 hb);obtain⟨g4,g5⟩:=q b M;exact⟨.inr (by simp only[List.mem_append];grind),Nat.lt_of_lt_of_le g5 k2.size,g4⟩
  ·refine⟨[v'],[],_,[],rfl,(List.append_nil _).symm,Zw5 (X:=X) ?_,rfl,rfl⟩;rw[<-K]at k1;exact⟨v',_,_,_,rfl,rfl,⟨k1,rfl⟩,s⟩
end Go.Am
namespace Go.Am
open Go.RowKit Go.Sort Go.Proofs
@[reducible] def Zf7:Ty:= .pair (.int .i64) (.pair .str .unit)
def Qv0(x:Zf7.den):List Value:=[.int .i64 x.1,.string ⟨⟨x.2.1⟩⟩]
theorem Qy4{w:World}{X:Nat->Prop}{B:Nat}{own:Bool}{x:Zf7.den}{vs:List Value}{S:List Nat}:rd w X B own Zf7 x vs S↔vs=Qv0 x/\S=[]:=by
 constructor
 ·rintro⟨a,b,c,d,rfl,rfl,⟨rfl,rfl⟩,e,f,g,h,rfl,rfl,⟨rfl,rfl⟩,rfl,rfl⟩;exact⟨rfl,rfl⟩
 ·rintro⟨rfl,rfl⟩;exact⟨[_],[_],[],[],rfl,rfl,⟨rfl,rfl⟩,[_],[],[],[],rfl,rfl,⟨rfl,rfl⟩,rfl,rfl⟩
theorem Zv1{w:World}{X:Nat->Prop}{B:Nat}{own:Bool}: ∀{l:List Zf7.den} {vs:List Value} {S:List Nat},Zaj (rd w X B own Zf7) l vs S↔vs=l.flatMap Qv0/\S=[]
 | [],vs,S=>Iff.rfl
 |x::l,vs,S=>by
  constructor
  ·rintro⟨c,d,e,f,rfl,rfl,a,b⟩;obtain⟨rfl,rfl⟩:=Qy4.1 a;obtain⟨rfl,rfl⟩:=Zv1.1 b;exact⟨rfl,rfl⟩
  ·rintro⟨rfl,rfl⟩;exact⟨_,_,[],[],rfl,rfl,Qy4.2 ⟨rfl,rfl⟩,Zv1.2 ⟨rfl,rfl⟩⟩
theorem Zgr{α:Type}{enc:α->List Value}{k:Nat}(hk: ∀x,(enc x).length=k): ∀l:List α,(l.flatMap enc).length=l.length*k
 | []=>by simp
 |x::l=>by rw[List.flatMap_cons,List.length_append,hk,Zgr hk l,List.length_cons,Nat.add_mul];omega
theorem Qk9{α:Type}[Inhabited α]{enc:α->List Value}{k:Nat}(hk: ∀x,(enc x).length=k)(k0:0<k): ∀(l:List α) (t:Nat),t<l.length*k->(l.flatMap enc)[t]! =(enc l[t/k]!)[t%k]!
 | [],t,h=>by simp at h
 |x::l,t,h=>by
  rw[List.flatMap_cons];by_cases a:t<k
  ·rw[Nat.div_eq_of_lt a,Nat.mod_eq_of_lt a];have:t< (enc x).length:=by rw[hk];exact a
   rw[getElem!_pos _ t (by rw[List.length_append];omega),List.getElem_append_left this];simp[this]
  ·obtain⟨u,rfl⟩: ∃u,t=u+k:=⟨t-k,by omega⟩
   have b:u<l.length*k:=by rw[List.length_cons,Nat.add_mul]at h;omega
   have c: (u+k)/k=u/k+1:=Nat.add_div_right u k0;have d: (u+k)%k=u%k:=Nat.add_mod_right u k;rw[c,d];have e: (x::l)[u/k+1]! =l[u/k]! :=by simp
   rw[e,<-Qk9 hk k0 l u b];have f:u< (l.flatMap enc).length:=by
    rw[Zgr hk];exact b
   rw[getElem!_pos _ (u+k) (by rw[List.length_append,hk];omega),getElem!_pos _ u f,List.getElem_append_right (by rw[hk];omega)];simp[hk]
theorem Qeu{α:Type}[Inhabited α]{enc:α->List Value}{k:Nat}(hk: ∀x,(enc x).length=k)(k0:0<k)(d:Array α): (flatK enc k d).toList=d.toList.flatMap enc:=by
 refine List.ext_getElem (by rw[Zgr hk];simp) fun t b c=> ?_;have a:t<d.size*k:=by simpa using b
 have g:=Qk9 hk k0 d.toList t (by simpa using a);rw[getElem!_pos _ t c]at g;have e:d.toList[t/k]! =d[t/k]! :=by rw[getElem!_def,getElem!_def,Array.getElem?_toList]
 rw[g,e,<-get_flatK enc k d t a,Array.getElem_toList,getElem!_pos]
noncomputable def Qvb(l:List Zf7.den):Option (Unit×List Zf7.den):=Ze ((∀x∈l,0<=x.1/\x.1<=4611686018427387904)/\(l.map fun x=>x.1).Nodup/\l.length<4611686018427387904) (some ((),l.mergeSort fun x y=>decide (x.1<=y.1)))
theorem Qup{α:Type}{key:α->Int}: ∀{l:List α},(l.map key).Nodup-> ∀{x y:α},x∈l->y∈l->key x=key y->x=y
 | [],_,_,_,hx,_,_=>by cases hx
 |z::l,h,x,y,hx,hy,e=>by
  rw[List.map_cons,List.nodup_cons]at h;rcases List.mem_cons.1 hx with hx|hx<;>rcases List.mem_cons.1 hy with hy|hy
  ·rw[hx,hy]
  ·exact absurd (List.mem_map.2 ⟨y,hy,by rw[<-e,hx]⟩) h.1
  ·exact absurd (List.mem_map.2 ⟨x,hx,by rw[e,hy]⟩) h.1
  ·exact Qup h.2 hx hy e
theorem Zyk{α:Type}(key:α->Int)(x y:α):ltOf (fun x y=>key x-key y) x y=decide (key x<key y):=by
 unfold ltOf;rw[Bool.eq_iff_iff];simp only[decide_eq_true_eq];omega
theorem Xai{α:Type}(key:α->Int):SWO (ltOf fun x y=>key x-key y) where
 irrefl x:=by rw[Zyk key];simp
 trans x y z h1 h2:=by
  rw[Zyk key]at h1 h2⊢;simp only[decide_eq_true_eq]at*
  omega
 ntrans x y z h1 h2:=by
  rw[Zyk key]at h1 h2⊢;simp only[decide_eq_false_iff_not]at*
  omega
theorem Q0y{α:Type}(key:α->Int)(x y:α): (!ltOf (fun x y=>key x-key y) y x)=decide (key x<=key y):=by
 rw[Zyk key,Bool.eq_iff_iff];simp only[Bool.not_eq_true',decide_eq_false_iff_not,decide_eq_true_eq];omega
theorem Qc1.sort{P:Program}{g:K9}{f cf:FuncId}{e:TypeId}(enters: ∀args w,(callFunc f args).run P w= .ok (.enter f args) w)
  (hnone: ∀(p:Option Addr) (cap:Nat) (fv:Value) (w:World),Calls P f #[.slice p 0 cap,fv] w fun en w'=>en= .returned (.tuple #[])/\w'=w)
  (hsort: ∀(α:Type) [Inhabited α] (enc:α->List Value) (c:α->α->Int) (blk cap:Nat) (d:Array α) (w:World),(∀x,(enc x).length=2)->(∀x,∀v∈enc x,v.oneCell'=true)->SWO (ltOf c)->(∀x y,ltOf c x y=false->ltOf c y x=false->x=y)->
   CmpLays P cf #[] enc 2 c blk 0 d.size w->HoldsK enc 2 w blk 0 d->blk<w.heap.size->d.size<4611686018427387904->
   Calls P f #[.slice (some ⟨blk,0,none⟩) d.size cap,.func (.func cf) #[] #[]] w fun en w'=>en= .returned (.tuple #[])/\ ∃n os,w'=sortWorldK enc 2 w blk 0 n (d.toList.mergeSort fun x y=> !(ltOf c) y x).toArray os)
  (hcmp: ∀(x y:Zf7.den) (W:World),0<=x.1->x.1<=4611686018427387904->0<=y.1->y.1<=4611686018427387904->
   Calls P cf #[.agg #[.int .i64 x.1,.string ⟨⟨x.2.1⟩⟩],.agg #[.int .i64 y.1,.string ⟨⟨y.2.1⟩⟩]] W fun en w'=>en= .returned (.int .i64 (x.1-y.1))/\ ∃q os',w'=grow (W.drewN q) os'):
  Qc1 P g {f:=f,e:=e,t:=Zf7,args:=[.fnc cf],res:=[],F:=fun l _=>Qvb l} where
 flat:=rfl
 enters:=enters
 calls:=by
  intro w X L (l:List Zf7.den) (l':List Zf7.den) xs r v vals hg hgx hxlt hLX hLn hrd hargs D;have D:Qvb l=some (r,l'):=D;obtain⟨cs,us,rfl,⟨rfl,-⟩,rfl⟩:=hargs;obtain⟨v1,ah,S1,S2,e1,rfl,⟨A,rfl⟩,hr⟩:=hrd;simp only[List.cons.injEq,and_true]at e1;subst e1;obtain⟨rfl,rfl⟩:=Zv1.1 hr;unfold Qvb at D;rw[Zs6]at D;obtain⟨⟨O,U,V⟩,D⟩:=D;simp only[Osi,Opi]at D;obtain⟨-,rfl⟩:=D;have aj:Xz (Ty.fnc cf) [.func (.func cf) #[] #[]]= .func (.func cf) #[] #[]:=rfl;by_cases Q:l=[]
  ·subst Q;obtain⟨p,cap,rfl⟩: ∃p cap,v= .slice p 0 cap:=by
    rcases A.2 with⟨rfl,_⟩| ⟨b,cap,a,rfl,_⟩
    ·exact⟨none,0,rfl⟩
    ·exact⟨_,cap,rfl⟩
   refine(hnone p cap _ w).mono ?_;rintro en w' ⟨rfl,rfl⟩;refine⟨[],[],rfl,⟨rfl,rfl⟩,List.nodup_nil,⟨X,?_⟩,rfl,rfl,rfl,Nat.le_refl _,fun _ _ _=>rfl⟩;exact⟨_,[],_,[],rfl,rfl,⟨by simpa using A,rfl⟩,Zv1.2 ⟨by simp,rfl⟩⟩
  ·rcases A.2 with⟨rfl,h0⟩| ⟨b,cap,a,rfl,_,B,E,hc,G,Y⟩
   ·exact absurd (List.eq_nil_of_length_eq_zero h0) Q
   have ag:Inhabited {x:Zf7.den//x∈l}:=⟨⟨l.head Q,List.head_mem Q⟩⟩
   obtain⟨enc,i⟩: ∃enc: {x:Zf7.den//x∈l}->List Value,enc=fun x=>Qv0 x.1:=⟨_,rfl⟩
   have hk: ∀x,(enc x).length=2:=fun x=>by rw[i];rfl
   have H: ∀m:List {x:Zf7.den//x∈l},m.flatMap enc=(m.map Subtype.val).flatMap Qv0:=fun m=>by rw[i,List.flatMap_map]
   have I:b<w.heap.size:=by
    by_cases h:b<w.heap.size
    ·exact h
    ·rw[Array.getElem?_eq_none (by omega)]at B;cases B
   have J:l.attach.toArray.size=l.length:=by simp
   have hH:HoldsK enc 2 w b 0 l.attach.toArray:=fun j S=>by
    have Z: (flatK enc 2 l.attach.toArray).toList=l.flatMap Qv0:=by
     rw[Qeu hk (by omega)];simp only[];rw[H,List.attach_map_subtype_val]
    rw[Nat.zero_add];refine⟨?_,by simp[World.frozen?,B]⟩;have ak:j<l.length*2:=by simpa using S
    have e3: (flatK enc 2 l.attach.toArray)[j]! =(l.flatMap Qv0)[j]! :=by rw[<-Z,getElem!_def,getElem!_def,Array.getElem?_toList]
    rw[id,e3,<-Y];have aa:l.length*2<=a.size:=by rw[G];exact Nat.mul_le_mul_right 2 E
    simp only[World.cell?,B];rw[getElem!_pos _ j (by rw[List.length_take,Array.length_toList];show j<min (l.length*2) a.size;omega),List.getElem_take,Array.getElem_toList];simp only[Option.isSome_none,Bool.false_eq_true,if_false];rw[Array.getElem?_eq_getElem (by omega)]
   have hS:=hsort _ enc (fun x y=>x.1.1-y.1.1) b cap l.attach.toArray w hk (fun x u hu=>by rw[i]at hu;simp only[Qv0,List.mem_cons,List.not_mem_nil,or_false]at hu;rcases hu with rfl|rfl<;>rfl)
    (Xai fun x: {x:Zf7.den//x∈l}=>x.1.1)
    (fun x y h1 h2=>by
     have a1: ¬x.1.1<y.1.1:=of_decide_eq_false ((Zyk (fun x: {x:Zf7.den//x∈l}=>x.1.1) x y).symm.trans h1);have a2: ¬y.1.1<x.1.1:=of_decide_eq_false ((Zyk (fun x: {x:Zf7.den//x∈l}=>x.1.1) y x).symm.trans h2);exact Subtype.ext (Qup (key:=fun x:Zf7.den=>x.1) U x.2 y.2 (Int.le_antisymm (Int.not_lt.1 a2) (Int.not_lt.1 a1))))
    (fun m os dk _ x y=>by rw[i];exact hcmp x.1 y.1 _ (O _ x.2).1 (O _ x.2).2 (O _ y.2).1 (O _ y.2).2)
    hH I (by rw[J];exact V)
   rw[J]at hS;refine hS.mono ?_;rintro en w' ⟨rfl,n,os,rfl⟩;obtain⟨z,K⟩: ∃z:Array {x:Zf7.den//x∈l},z=(l.attach.toArray.toList.mergeSort fun x y=> !(ltOf (fun x y: {x:Zf7.den//x∈l}=>x.1.1-y.1.1)) y x).toArray:=⟨_,rfl⟩
   rw[<-K];have M:z.toList.map Subtype.val=l.mergeSort fun x y=>decide (x.1<=y.1):=by
    rw[K];simp only[];rw[List.map_mergeSort (s:=fun x y:Zf7.den=>decide (x.1<=y.1)) (fun x _ y _=>Q0y (fun x: {x:Zf7.den//x∈l}=>x.1.1) x y),List.attach_map_subtype_val]
   have N: (flatK enc 2 z).toList=(l.mergeSort fun x y=>decide (x.1<=y.1)).flatMap Qv0:=by
    rw[Qeu hk (by omega),H,M]
   have o: (l.mergeSort fun x y=>decide (x.1<=y.1)).length=l.length:=List.length_mergeSort _;have ab: (flatK enc 2 z).size=l.length*2:=by
    rw[<-Array.length_toList,N,Zgr (k:=2) (fun _=>rfl),o]
   have aa:l.length*2<=a.size:=by rw[G];exact Nat.mul_le_mul_right 2 E
   have ac: (sortWorldK enc 2 w b 0 n z os).heap[b]? =some (.cells (putCells id 0 (flatK enc 2 z) a) e (0,0)):=by
    unfold sortWorldK grow putRowK putRow mapBlock;simp only[];rw[Array.getElem?_append_left (by simp;exact I)];simp[Array.getElem?_modify,B,onCells]
   have C: ∀x,x<w.heap.size->x≠b->(sortWorldK enc 2 w b 0 n z os).heap[x]? =w.heap[x]? :=fun x hx ad=>by
    unfold sortWorldK grow putRowK putRow mapBlock;simp only[];rw[Array.getElem?_append_left (by simp;exact hx)];simp[Array.getElem?_modify,Ne.symm ad]
   refine⟨[],[],rfl,⟨rfl,rfl⟩,List.nodup_nil,⟨X,?_⟩,rfl,rfl,rfl,by simp[sortWorldK,grow,putRowK,putRow,mapBlock],fun x hx hn=>C x hx fun e=>hn (by simp[Value.ownBlock,e])⟩;refine⟨_,(l.mergeSort fun x y=>decide (x.1<=y.1)).flatMap Qv0,_,[],rfl,rfl,⟨⟨?_,.inr ⟨b,cap,_,by rw[o],Nat.zero_le _,ac,by rw[o];exact E,hc,by simp[putCells,G],?_⟩⟩,rfl⟩,Zv1.2 ⟨rfl,rfl⟩⟩
   ·rw[Zgr (k:=2) (fun _=>rfl)];rfl
   ·rw[o,<-N];have ae: (putCells id 0 (flatK enc 2 z) a).size=a.size:=by simp[putCells]
    refine List.ext_getElem (by rw[List.length_take,Array.length_toList (xs:=putCells id 0 (flatK enc 2 z) a),Array.length_toList (xs:=flatK enc 2 z),ab,ae];show min (l.length*2) a.size=l.length*2;omega) fun j h1 h2=> ?_;have S:j< (flatK enc 2 z).size:=by simpa using h2
    rw[List.getElem_take,Array.getElem_toList,Array.getElem_toList];simp only[putCells,Array.getElem_mapIdx,Nat.zero_le,true_and,Nat.zero_add,S,if_true,Nat.sub_zero,id];rw[getElem!_pos _ j S]
end Go.Am

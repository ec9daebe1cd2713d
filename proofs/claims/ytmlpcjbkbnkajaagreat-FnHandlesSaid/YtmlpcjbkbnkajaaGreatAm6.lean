/- The abstract machine, part 6: what a piece of Go code does, as plain data, and that it does so. No condition. -/
import Derived.Test.YtmlpcjbkbnkajaaGreatAm5
import Derived.Laws.CopyRow
import Derived.Lib.AppendZerosOnto
import Derived.Lib.Overlaps
import Derived.Laws.Externs
import Derived.Laws.NewBlocks
import Derived.Shelf.RegionOpenPlain
import Derived.Shelf.SlSortCmp.InsertionK
namespace Go.Am
open Go.RowKit
theorem Qlh{P:Program}{e e':TypeId}(hu:P.underlying e=some (.slice e')){k:Nat}(hz: ∀w,(Go.sizeOf e').run P w= .ok k w)(w:World)(ty:TypeId)(g o dLen dCap:Nat)(a:Addr)(sLen sCap:Nat)(cur:Array Value)(t:TypeId)(cs:List Value)
  (hg:w.heap[g]? =some (.cells cur t (0,0))) (nn:Nat) (hn:nn=Nat.min sLen dLen) (hl:cs.length=nn*k)
  (hsrc: ∀j v,cs[j]? =some v->w.cell? (a.add j)=some v) (hfit:o+cs.length<=cur.size) (h1: ∀v∈cs,v.oneCell'=true):
  (Builtin.copy_ #[e,e] ty #[.slice (some ⟨g,o,none⟩) dLen dCap,.slice (some a) sLen sCap]).run P w=
   .ok (goInt nn) (w.setRow g (cur.toList.take o++cs++cur.toList.drop (o+cs.length)).toArray):=by
 have hl':=run_loadCells_list (P:=P) w a cs hsrc;have hst:=run_storeCells_at P g o t cs 0 cur w hg (by simpa using hfit) h1;rw[hl]at hl';simp[Builtin.copy_,run_underlying hu,Builtin.lenOf,Builtin.firstCells,hz,<-hn,hl',hst]
theorem Qri{W:World}{b:Nat}{cur R:Array Value}{t:TypeId}{fz:Nat×Nat}(h:W.heap[b]? =some (.cells cur t fz)): (W.setRow b R).heap[b]? =some (.cells R t fz):=by simp[World.setRow,Array.getElem?_modify,h]
theorem Qrj{W:World}{b x:Nat}{R:Array Value}(hne:x≠b): (W.setRow b R).heap[x]? =W.heap[x]? :=by simp[World.setRow,Array.getElem?_modify,Ne.symm hne]
theorem Z4e{P:Program}{o:Oper}{a:Act}{w w':World}{d s:Operand}{t t':TypeId}{v u v':Value}(ho:o.op= .call {callee:= .builtin .copy,args:= #[d,s],argTypes:= #[t,t']})(hd:a.eval d=v)(hs:a.eval s=u)
  (hr: (Builtin.copy_ #[t,t'] o.type #[v,u]).run P w= .ok v' w'): (execOp a.eval o).run P w= .ok (.value v') w':=by
 simp[execOp,ho,resolve,invoke,builtin,hd,hs,hr]
theorem Z14{P:Program}{o:Oper}{a:Act}{w w':World}{d s:Operand}{t t':TypeId}{v u v':Value}(ho:o.op= .call {callee:= .builtin .append,args:= #[d,s],argTypes:= #[t,t']})(hd:a.eval d=v)(hs:a.eval s=u)
  (hr: (Builtin.append_ #[t,t'] o.type #[v,u]).run P w= .ok v' w'): (execOp a.eval o).run P w= .ok (.value v') w':=by
 simp[execOp,ho,resolve,invoke,builtin,hd,hs,hr]
theorem Q0h{P:Program}{o:Oper}{a:Act}{w w':World}{v':Value}{K:Act->World->Prop}{Q:Exit->Act->World->Prop}(hr: (execOp a.eval o).run P w= .ok (.value v') w')(h:K (a.put o.dst v') w'):o.wp P a w K Q:=by
 unfold Oper.wp;rw[hr];exact h
theorem Zr2{P:Program}{ops:Array Oper}{rest:List Oper}{o:Oper}{a:Act}{w w':World}{v':Value}{Q:Exit->Act->World->Prop}(hgd:o.guard=none)(hr: (execOp a.eval o).run P w= .ok (.value v') w')
  (h:wpList P ops Q rest (a.put o.dst v') w'):wpList P ops Q (o::rest) a w:=wpList_plain hgd fun _ hK=>Q0h hr (hK _ _ h)
theorem Qsh{P:Program}{ops:Array Oper}{o:Oper}{a:Act}{w w':World}{v':Value}{K:Act->World->Prop}{Q:Exit->Act->World->Prop}{E:Prop}(hg:o.guard=none)(hr: (execOp a.eval o).run P w= .ok (.value v') w')
  (hK:K (a.put o.dst v') w'):if Region.wanted o (yielded ops a.tmps)=true then Oper.wp P o a w K Q else E:=by
 rw[if_pos (by simp[Region.wanted,hg])];exact Q0h hr hK
theorem Qzl{w:World}{b:Nat}{R:Array Value}: (w.setRow b R).heap.size=w.heap.size:=by simp[World.setRow]
noncomputable def Q3o{α:Type}(l:List α)(i:Int)(v:List α):Option ((List α×Unit)×Unit):=Zi (0<=i/\i<=l.length/\0<v.length/\l.length+v.length<=Qo) (some ((l.take i.toNat++v++l.drop i.toNat,()),()))
theorem Qwb{α:Type}{r:α->List Value->List Nat->Prop}{sz:Nat}(hr: ∀x v S,r x v S->v.length=sz): ∀{l:List α} {vs:List Value} {S:List Nat} {i:Nat},i<=l.length->
  Ww r l vs S-> ∃S1 S2,S=S1++S2/\Ww r (l.take i) (vs.take (i*sz)) S1/\Ww r (l.drop i) (vs.drop (i*sz)) S2
 |l,vs,S,0,_,h=>⟨[],S,rfl,by simp[Ww],by simpa using h⟩
 | [],_,_,i+1,hi,_=>by simp at hi
 |x::l,vs,S,i+1,hi,⟨v1,v2,S1,S2,e1,e2,h1,h2⟩=>by
  obtain⟨T1,T2,e3,k1,k2⟩:=Qwb hr (i:=i) (by simpa using hi) h2;have hl:=hr _ _ _ h1;have ei: (i+1)*sz=v1.length+i*sz:=by rw[hl,Nat.add_mul];omega
  refine⟨S1++T1,T2,by rw[e2,e3,List.append_assoc],?_,?_⟩
  ·rw[e1,ei,List.take_append,List.take_of_length_le (l:=v1) (Nat.le_add_right _ _),Nat.add_sub_cancel_left];exact(⟨v1,_,S1,T1,rfl,rfl,h1,k1⟩:Ww r (x::l.take i) _ _)
  ·rw[e1,ei,List.drop_append,List.drop_of_length_le (l:=v1) (Nat.le_add_right _ _),Nat.add_sub_cancel_left];exact k2
theorem Z1k.insert{P:Program}{g:Kr}{f:FuncId}{e':TypeId}{t:Ty}(enters: ∀args w,(callFunc f args).run P w= .ok (.enter f args) w)
  (hins: ∀{w:World} {v vy:Value} {xs ys:List Value} {l l4:List t.den} {i:Nat},w.ownsRow 0 e' t.size v l.length xs->w.ownsRow 0 e' t.size vy l4.length ys->(∀b,v.ownBlock=some b->vy.ownBlock≠some b)->i<=l.length->0<l4.length->l.length+l4.length<=Qo->
   (∀u∈xs,u.oneCell'=true)->(∀u∈ys,u.oneCell'=true)->
   Calls P f #[v,.int .i64 i,vy] w fun e w'=> ∃v',e= .returned v'/\w'.ownsRow 0 e' t.size v' (l.length+l4.length) (xs.take (i*t.size)++ys++xs.drop (i*t.size))/\w.grownBy w' v.ownBlock/\(v'.ownBlock=v.ownBlock\/ ∀b,v'.ownBlock=some b->w.heap.size<=b)):
  Z1k P g {f:=f,args:=[.mv (.slice e' t),.sh (.int .i64),.mv (.slice e' t)],res:= .vals [.slice e' t],F:=fun xs=>Q3o xs.1 xs.2.1 xs.2.2.1} where
 enters:=enters
 calls:=by
  intro w X L xs r vals hg hgx hxlt hL hLn hrd hF;obtain⟨(l:List t.den),(i:Int),(l4:List t.den),u⟩:=xs;obtain⟨cs,S,us,L',rfl,rfl,h1,cs2,us2,rfl,h2,cs3,S3,us3,L3,rfl,rfl,h3,rfl,rfl⟩:=hrd;obtain⟨v,xs,S1,S2,rfl,rfl,⟨hown,rfl⟩,hr1⟩:=h1;obtain⟨rfl,-⟩:=h2;obtain⟨vy,ys,S4,S5,rfl,rfl,⟨hown4,rfl⟩,hr4⟩:=h3;unfold Q3o at hF;simp only at hF;have hgd:0<=i/\i<=l.length/\0<l4.length/\l.length+l4.length<=Qo:=by
   by_cases h:0<=i/\i<=l.length/\0<l4.length/\l.length+l4.length<=Qo
   ·exact h
   ·simp only[Zi,h]at hF
    first|cases hF| (simp at hF)
  have hF:some ((l.take i.toNat++l4++l.drop i.toNat,()),())=some r:=by
   simpa only[Zi,hgd,and_self,decide_true,Oct,if_true]using hF
  simp only[Osi]at hF;subst hF;obtain⟨g0,g1,g2,g3⟩:=hgd;have g0: (0:Int)<=i:=g0;have g1:i<=((List.length l:Nat):Int):=g1;obtain⟨j,rfl⟩: ∃j:Nat,i=j:=⟨i.toNat,by omega⟩
  simp only[List.append_nil]at hLn hL;have hj:j<=l.length:=by omega
  have hl1: ∀x v S,rd w X 0 true t x v S->v.length=t.size:=fun x v S h=>Xv h;have nd:=List.nodup_append.1 hLn;have nd1:=List.nodup_append.1 nd.1;have nd4:=List.nodup_append.1 nd.2.1;have hne: ∀b,v.ownBlock=some b->vy.ownBlock≠some b:=fun b hb hb'=>
   nd.2.2 b (by simp[hb]) b (by simp[hb']) rfl
  refine(hins hown hown4 hne hj g2 g3 (Zuu (fun x v S h=>Zjf h) hr1) (Zuu (fun x v S h=>Zjf h) hr4)).mono ?_;rintro en w' ⟨v',rfl,k1,k2,k3⟩;obtain⟨Sa,Sb,e1,r1,r2⟩:=Qwb hl1 hj hr1;have hdis: ∀b,b∈S2\/b∈S5->v.ownBlock≠some b:=fun b hb e=>hb.elim
   (fun hb=>nd1.2.2 b (by simp[e]) b hb rfl) (fun hb=>nd.2.2 b (by simp[e]) b (by simp[hb]) rfl)
  have hin: ∀b,b∈S2\/b∈S5-> ¬X b/\b<w.heap.size:=fun b hb=>hL b (by simp only[List.mem_append];grind);have hsame: ∀b,b∈S2\/b∈S5->w'.heap[b]? =w.heap[b]? :=fun b hb=>k2.block b (hin b hb).2 fun e=>hdis b hb e.symm;have hvX: ∀b,v.ownBlock=some b-> ¬X b/\b<w.heap.size:=fun b hb=>hL b (by simp[hb]);have hX: ∀b,X b->w'.heap[b]? =w.heap[b]? :=fun b hb=>k2.block b (hxlt b hb) fun e=>(hvX b e.symm).1 hb;have hrows:Ww (rd w' X 0 true t) (l.take j++l4++l.drop j) (xs.take (j*t.size)++ys++xs.drop (j*t.size)) ((Sa++S5)++Sb):=by
   refine Zlm (Zlm (Kf r1 fun x v T _ hT h=> ?_) (Kf hr4 fun x v T _ hT h=> ?_)) (Kf r2 fun x v T _ hT h=> ?_)
   ·exact Zcp (fun _ h=>h) hX h fun b hb=>hsame b (.inl (by rw[e1];simp[hT b hb]))
   ·exact Zcp (fun _ h=>h) hX h fun b hb=>hsame b (.inr (hT b hb))
   ·exact Zcp (fun _ h=>h) hX h fun b hb=>hsame b (.inl (by rw[e1];simp[hT b hb]))
  have hlen: (l.take j++l4++l.drop j).length=l.length+l4.length:=by
   simp only[List.length_append,List.length_take,List.length_drop];omega
  have hperm: ((Sa++S5)++Sb).Perm (S2++S5):=by
   rw[e1,List.append_assoc,List.append_assoc];exact List.Perm.append_left _ List.perm_append_comm
  have hv': ∀b,v'.ownBlock=some b->b<w'.heap.size:=fun b hb=>(k1.lt b hb).2;have hvo: ∀b,v'.ownBlock=some b->b∉S2++S5:=fun b hb hm=>by
   rcases k3 with e|e
   ·exact hdis b (List.mem_append.1 hm) (by rw[<-e];exact hb)
   ·have:=(hin b (List.mem_append.1 hm)).2;have:=e b hb;omega
  have hnS: (S2++S5).Nodup:=List.nodup_append.2 ⟨nd1.2.1,nd4.2.1,fun x hx y hy e=>nd.2.2 x (by simp[hx]) y (by simp[hy]) e⟩;refine⟨[v'],v'.ownBlock.toList++ ((Sa++S5)++Sb),[],[],X,rfl,?_,?_,⟨_,_,rfl,_,_,rfl,_,_,rfl,rfl,rfl,rfl⟩,trivial⟩
  ·simp only[List.append_nil];refine⟨k2.os,k2.tape,k2.output,k2.size,fun _ h=>h,fun b hb=>Nat.lt_of_lt_of_le (hxlt b hb) k2.size,fun b hb=> .inl hb,?_,fun b hb=> ?_,fun b hb hb'=>k2.block b hb fun e=>hb' (by simp[<-e])⟩
   ·refine List.nodup_append.2 ⟨by cases v'.ownBlock<;>simp,hperm.nodup_iff.2 hnS,fun x hx y hy e=> ?_⟩;subst e;exact hvo x (by simpa using hx) (hperm.mem_iff.1 hy)
   ·rcases List.mem_append.1 hb with hb|hb
    ·have hb:v'.ownBlock=some b:=by simpa using hb
     refine⟨?_,hv' b hb,fun hx=> ?_⟩
     ·rcases k3 with e|e
      ·exact .inr (by simp[<-e,hb])
      ·exact .inl (e b hb)
     ·rcases k3 with e|e
      ·exact(hvX b (by rw[<-e];exact hb)).1 hx
      ·have:=hxlt b hx;have:=e b hb;omega
    ·have hm:=List.mem_append.1 (hperm.mem_iff.1 hb);obtain⟨g4,g5⟩:=hin b hm;exact⟨.inr (by simp only[List.mem_append];grind),Nat.lt_of_lt_of_le g5 k2.size,g4⟩
  ·refine⟨[v'],[],_,[],rfl,(List.append_nil _).symm,Zvv (X:=X) ?_,rfl,rfl⟩;rw[<-hlen]at k1;exact⟨v',_,_,_,rfl,rfl,⟨k1,rfl⟩,hrows⟩
end Go.Am
namespace Go.Am
open Go.RowKit Go.Sort Go.Proofs
@[reducible] def Ze7:Ty:= .pair (.int .i64) (.pair .str .unit)
def Qs7(x:Ze7.den):List Value:=[.int .i64 x.1,.string ⟨⟨x.2.1⟩⟩]
theorem Qv8{w:World}{X:Nat->Prop}{B:Nat}{own:Bool}{x:Ze7.den}{vs:List Value}{S:List Nat}:rd w X B own Ze7 x vs S↔vs=Qs7 x/\S=[]:=by
 constructor
 ·rintro⟨v1,v2,S1,S2,rfl,rfl,⟨rfl,rfl⟩,v3,v4,S3,S4,rfl,rfl,⟨rfl,rfl⟩,rfl,rfl⟩;exact⟨rfl,rfl⟩
 ·rintro⟨rfl,rfl⟩;exact⟨[_],[_],[],[],rfl,rfl,⟨rfl,rfl⟩,[_],[],[],[],rfl,rfl,⟨rfl,rfl⟩,rfl,rfl⟩
theorem Zut{w:World}{X:Nat->Prop}{B:Nat}{own:Bool}: ∀{l:List Ze7.den} {vs:List Value} {S:List Nat},Ww (rd w X B own Ze7) l vs S↔vs=l.flatMap Qs7/\S=[]
 | [],vs,S=>Iff.rfl
 |x::l,vs,S=>by
  constructor
  ·rintro⟨v1,v2,S1,S2,rfl,rfl,h1,h2⟩;obtain⟨rfl,rfl⟩:=Qv8.1 h1;obtain⟨rfl,rfl⟩:=Zut.1 h2;exact⟨rfl,rfl⟩
  ·rintro⟨rfl,rfl⟩;exact⟨_,_,[],[],rfl,rfl,Qv8.2 ⟨rfl,rfl⟩,Zut.2 ⟨rfl,rfl⟩⟩
theorem Zfq{α:Type}{enc:α->List Value}{k:Nat}(hk: ∀x,(enc x).length=k): ∀l:List α,(l.flatMap enc).length=l.length*k
 | []=>by simp
 |x::l=>by rw[List.flatMap_cons,List.length_append,hk,Zfq hk l,List.length_cons,Nat.add_mul];omega
theorem Qil{α:Type}[Inhabited α]{enc:α->List Value}{k:Nat}(hk: ∀x,(enc x).length=k)(k0:0<k): ∀(l:List α) (t:Nat),t<l.length*k->(l.flatMap enc)[t]! =(enc l[t/k]!)[t%k]!
 | [],t,h=>by simp at h
 |x::l,t,h=>by
  rw[List.flatMap_cons];by_cases ht:t<k
  ·rw[Nat.div_eq_of_lt ht,Nat.mod_eq_of_lt ht];have:t< (enc x).length:=by rw[hk];exact ht
   rw[getElem!_pos _ t (by rw[List.length_append];omega),List.getElem_append_left this];simp[this]
  ·obtain⟨u,rfl⟩: ∃u,t=u+k:=⟨t-k,by omega⟩
   have hu:u<l.length*k:=by rw[List.length_cons,Nat.add_mul]at h;omega
   have e1: (u+k)/k=u/k+1:=Nat.add_div_right u k0;have e2: (u+k)%k=u%k:=Nat.add_mod_right u k;rw[e1,e2];have e3: (x::l)[u/k+1]! =l[u/k]! :=by simp
   rw[e3,<-Qil hk k0 l u hu];have hl:u< (l.flatMap enc).length:=by
    rw[Zfq hk];exact hu
   rw[getElem!_pos _ (u+k) (by rw[List.length_append,hk];omega),getElem!_pos _ u hl,List.getElem_append_right (by rw[hk];omega)];simp[hk]
theorem Qca{α:Type}[Inhabited α]{enc:α->List Value}{k:Nat}(hk: ∀x,(enc x).length=k)(k0:0<k)(d:Array α): (flatK enc k d).toList=d.toList.flatMap enc:=by
 refine List.ext_getElem (by rw[Zfq hk];simp) fun t h1 h2=> ?_;have ht:t<d.size*k:=by simpa using h1
 have g:=Qil hk k0 d.toList t (by simpa using ht);rw[getElem!_pos _ t h2]at g;have e:d.toList[t/k]! =d[t/k]! :=by rw[getElem!_def,getElem!_def,Array.getElem?_toList]
 rw[g,e,<-get_flatK enc k d t ht,Array.getElem_toList,getElem!_pos]
noncomputable def Qsg(l:List Ze7.den):Option (Unit×List Ze7.den):=Zi ((∀x∈l,0<=x.1/\x.1<=4611686018427387904)/\(l.map fun x=>x.1).Nodup/\l.length<4611686018427387904) (some ((),l.mergeSort fun x y=>decide (x.1<=y.1)))
theorem Qru{α:Type}{key:α->Int}: ∀{l:List α},(l.map key).Nodup-> ∀{x y:α},x∈l->y∈l->key x=key y->x=y
 | [],_,_,_,hx,_,_=>by cases hx
 |z::l,h,x,y,hx,hy,e=>by
  rw[List.map_cons,List.nodup_cons]at h;rcases List.mem_cons.1 hx with hx|hx<;>rcases List.mem_cons.1 hy with hy|hy
  ·rw[hx,hy]
  ·exact absurd (List.mem_map.2 ⟨y,hy,by rw[<-e,hx]⟩) h.1
  ·exact absurd (List.mem_map.2 ⟨x,hx,by rw[e,hy]⟩) h.1
  ·exact Qru h.2 hx hy e
theorem Zw2{α:Type}(key:α->Int)(x y:α):ltOf (fun x y=>key x-key y) x y=decide (key x<key y):=by
 unfold ltOf;rw[Bool.eq_iff_iff];simp only[decide_eq_true_eq];omega
theorem Q65{α:Type}(key:α->Int):SWO (ltOf fun x y=>key x-key y) where
 irrefl x:=by rw[Zw2 key];simp
 trans x y z h1 h2:=by
  rw[Zw2 key]at h1 h2⊢;simp only[decide_eq_true_eq]at*
  omega
 ntrans x y z h1 h2:=by
  rw[Zw2 key]at h1 h2⊢;simp only[decide_eq_false_iff_not]at*
  omega
theorem Qx1{α:Type}(key:α->Int)(x y:α): (!ltOf (fun x y=>key x-key y) y x)=decide (key x<=key y):=by
 rw[Zw2 key,Bool.eq_iff_iff];simp only[Bool.not_eq_true',decide_eq_false_iff_not,decide_eq_true_eq];omega
theorem Qaj.sort{P:Program}{g:Kr}{f cf:FuncId}{e:TypeId}(enters: ∀args w,(callFunc f args).run P w= .ok (.enter f args) w)
  (hnone: ∀(p:Option Addr) (cap:Nat) (fv:Value) (w:World),Calls P f #[.slice p 0 cap,fv] w fun en w'=>en= .returned (.tuple #[])/\w'=w)
  (hsort: ∀(α:Type) [Inhabited α] (enc:α->List Value) (c:α->α->Int) (blk cap:Nat) (d:Array α) (w:World),(∀x,(enc x).length=2)->(∀x,∀v∈enc x,v.oneCell'=true)->SWO (ltOf c)->(∀x y,ltOf c x y=false->ltOf c y x=false->x=y)->
   CmpLays P cf #[] enc 2 c blk 0 d.size w->HoldsK enc 2 w blk 0 d->blk<w.heap.size->d.size<4611686018427387904->
   Calls P f #[.slice (some ⟨blk,0,none⟩) d.size cap,.func (.func cf) #[] #[]] w fun en w'=>en= .returned (.tuple #[])/\ ∃n os,w'=sortWorldK enc 2 w blk 0 n (d.toList.mergeSort fun x y=> !(ltOf c) y x).toArray os)
  (hcmp: ∀(x y:Ze7.den) (W:World),0<=x.1->x.1<=4611686018427387904->0<=y.1->y.1<=4611686018427387904->
   Calls P cf #[.agg #[.int .i64 x.1,.string ⟨⟨x.2.1⟩⟩],.agg #[.int .i64 y.1,.string ⟨⟨y.2.1⟩⟩]] W fun en w'=>en= .returned (.int .i64 (x.1-y.1))/\ ∃q os',w'=grow (W.drewN q) os'):
  Qaj P g {f:=f,e:=e,t:=Ze7,args:=[.fnc cf],res:=[],F:=fun l _=>Qsg l} where
 flat:=rfl
 enters:=enters
 calls:=by
  intro w X L (l:List Ze7.den) (l':List Ze7.den) xs r v vals hg hgx hxlt hLX hLn hrd hargs hF;have hF:Qsg l=some (r,l'):=hF;obtain⟨cs,us,rfl,⟨rfl,-⟩,rfl⟩:=hargs;obtain⟨v1,xs1,S1,S2,e1,rfl,⟨hown,rfl⟩,hr⟩:=hrd;simp only[List.cons.injEq,and_true]at e1;subst e1;obtain⟨rfl,rfl⟩:=Zut.1 hr;unfold Qsg at hF;rw[Zro]at hF;obtain⟨⟨hb,hnd,hsz⟩,hF⟩:=hF;simp only[Osi,Opi]at hF;obtain⟨-,rfl⟩:=hF;have hpk:Xt (Ty.fnc cf) [.func (.func cf) #[] #[]]= .func (.func cf) #[] #[]:=rfl;by_cases hl:l=[]
  ·subst hl;obtain⟨p,cap,rfl⟩: ∃p cap,v= .slice p 0 cap:=by
    rcases hown.2 with⟨rfl,_⟩| ⟨b,cap,cur,rfl,_⟩
    ·exact⟨none,0,rfl⟩
    ·exact⟨_,cap,rfl⟩
   refine(hnone p cap _ w).mono ?_;rintro en w' ⟨rfl,rfl⟩;refine⟨[],[],rfl,⟨rfl,rfl⟩,List.nodup_nil,⟨X,?_⟩,rfl,rfl,rfl,Nat.le_refl _,fun _ _ _=>rfl⟩;exact⟨_,[],_,[],rfl,rfl,⟨by simpa using hown,rfl⟩,Zut.2 ⟨by simp,rfl⟩⟩
  ·rcases hown.2 with⟨rfl,h0⟩| ⟨b,cap,cur,rfl,_,hbk,hnc,hc,hcs,htk⟩
   ·exact absurd (List.eq_nil_of_length_eq_zero h0) hl
   have inst:Inhabited {x:Ze7.den//x∈l}:=⟨⟨l.head hl,List.head_mem hl⟩⟩
   obtain⟨enc,henc⟩: ∃enc: {x:Ze7.den//x∈l}->List Value,enc=fun x=>Qs7 x.1:=⟨_,rfl⟩
   have hk: ∀x,(enc x).length=2:=fun x=>by rw[henc];rfl
   have hfm: ∀m:List {x:Ze7.den//x∈l},m.flatMap enc=(m.map Subtype.val).flatMap Qs7:=fun m=>by rw[henc,List.flatMap_map]
   have hbw:b<w.heap.size:=by
    by_cases h:b<w.heap.size
    ·exact h
    ·rw[Array.getElem?_eq_none (by omega)]at hbk;cases hbk
   have hds:l.attach.toArray.size=l.length:=by simp
   have hH:HoldsK enc 2 w b 0 l.attach.toArray:=fun j hj=>by
    have hF1: (flatK enc 2 l.attach.toArray).toList=l.flatMap Qs7:=by
     rw[Qca hk (by omega)];simp only[];rw[hfm,List.attach_map_subtype_val]
    rw[Nat.zero_add];refine⟨?_,by simp[World.frozen?,hbk]⟩;have hj2:j<l.length*2:=by simpa using hj
    have e3: (flatK enc 2 l.attach.toArray)[j]! =(l.flatMap Qs7)[j]! :=by rw[<-hF1,getElem!_def,getElem!_def,Array.getElem?_toList]
    rw[id,e3,<-htk];have hcu:l.length*2<=cur.size:=by rw[hcs];exact Nat.mul_le_mul_right 2 hnc
    simp only[World.cell?,hbk];rw[getElem!_pos _ j (by rw[List.length_take,Array.length_toList];show j<min (l.length*2) cur.size;omega),List.getElem_take,Array.getElem_toList];simp only[Option.isSome_none,Bool.false_eq_true,if_false];rw[Array.getElem?_eq_getElem (by omega)]
   have hS:=hsort _ enc (fun x y=>x.1.1-y.1.1) b cap l.attach.toArray w hk (fun x u hu=>by rw[henc]at hu;simp only[Qs7,List.mem_cons,List.not_mem_nil,or_false]at hu;rcases hu with rfl|rfl<;>rfl)
    (Q65 fun x: {x:Ze7.den//x∈l}=>x.1.1)
    (fun x y h1 h2=>by
     have a1: ¬x.1.1<y.1.1:=of_decide_eq_false ((Zw2 (fun x: {x:Ze7.den//x∈l}=>x.1.1) x y).symm.trans h1);have a2: ¬y.1.1<x.1.1:=of_decide_eq_false ((Zw2 (fun x: {x:Ze7.den//x∈l}=>x.1.1) y x).symm.trans h2);exact Subtype.ext (Qru (key:=fun x:Ze7.den=>x.1) hnd x.2 y.2 (Int.le_antisymm (Int.not_lt.1 a2) (Int.not_lt.1 a1))))
    (fun m os dk _ x y=>by rw[henc];exact hcmp x.1 y.1 _ (hb _ x.2).1 (hb _ x.2).2 (hb _ y.2).1 (hb _ y.2).2)
    hH hbw (by rw[hds];exact hsz)
   rw[hds]at hS;refine hS.mono ?_;rintro en w' ⟨rfl,n,os,rfl⟩;obtain⟨d',hd'⟩: ∃d':Array {x:Ze7.den//x∈l},d'=(l.attach.toArray.toList.mergeSort fun x y=> !(ltOf (fun x y: {x:Ze7.den//x∈l}=>x.1.1-y.1.1)) y x).toArray:=⟨_,rfl⟩
   rw[<-hd'];have hmap:d'.toList.map Subtype.val=l.mergeSort fun x y=>decide (x.1<=y.1):=by
    rw[hd'];simp only[];rw[List.map_mergeSort (s:=fun x y:Ze7.den=>decide (x.1<=y.1)) (fun x _ y _=>Qx1 (fun x: {x:Ze7.den//x∈l}=>x.1.1) x y),List.attach_map_subtype_val]
   have hFl: (flatK enc 2 d').toList=(l.mergeSort fun x y=>decide (x.1<=y.1)).flatMap Qs7:=by
    rw[Qca hk (by omega),hfm,hmap]
   have hlen: (l.mergeSort fun x y=>decide (x.1<=y.1)).length=l.length:=List.length_mergeSort _;have hFs: (flatK enc 2 d').size=l.length*2:=by
    rw[<-Array.length_toList,hFl,Zfq (k:=2) (fun _=>rfl),hlen]
   have hcu:l.length*2<=cur.size:=by rw[hcs];exact Nat.mul_le_mul_right 2 hnc
   have hat: (sortWorldK enc 2 w b 0 n d' os).heap[b]? =some (.cells (putCells id 0 (flatK enc 2 d') cur) e (0,0)):=by
    unfold sortWorldK grow putRowK putRow mapBlock;simp only[];rw[Array.getElem?_append_left (by simp;exact hbw)];simp[Array.getElem?_modify,hbk,onCells]
   have hother: ∀x,x<w.heap.size->x≠b->(sortWorldK enc 2 w b 0 n d' os).heap[x]? =w.heap[x]? :=fun x hx hne=>by
    unfold sortWorldK grow putRowK putRow mapBlock;simp only[];rw[Array.getElem?_append_left (by simp;exact hx)];simp[Array.getElem?_modify,Ne.symm hne]
   refine⟨[],[],rfl,⟨rfl,rfl⟩,List.nodup_nil,⟨X,?_⟩,rfl,rfl,rfl,by simp[sortWorldK,grow,putRowK,putRow,mapBlock],fun x hx hn=>hother x hx fun e=>hn (by simp[Value.ownBlock,e])⟩;refine⟨_,(l.mergeSort fun x y=>decide (x.1<=y.1)).flatMap Qs7,_,[],rfl,rfl,⟨⟨?_,.inr ⟨b,cap,_,by rw[hlen],Nat.zero_le _,hat,by rw[hlen];exact hnc,hc,by simp[putCells,hcs],?_⟩⟩,rfl⟩,Zut.2 ⟨rfl,rfl⟩⟩
   ·rw[Zfq (k:=2) (fun _=>rfl)];rfl
   ·rw[hlen,<-hFl];have hps: (putCells id 0 (flatK enc 2 d') cur).size=cur.size:=by simp[putCells]
    refine List.ext_getElem (by rw[List.length_take,Array.length_toList (xs:=putCells id 0 (flatK enc 2 d') cur),Array.length_toList (xs:=flatK enc 2 d'),hFs,hps];show min (l.length*2) cur.size=l.length*2;omega) fun j h1 h2=> ?_;have hj:j< (flatK enc 2 d').size:=by simpa using h2
    rw[List.getElem_take,Array.getElem_toList,Array.getElem_toList];simp only[putCells,Array.getElem_mapIdx,Nat.zero_le,true_and,Nat.zero_add,hj,if_true,Nat.sub_zero,id];rw[getElem!_pos _ j hj]
end Go.Am

/- The abstract machine, part 3: what a piece of Go code does, as plain data, and that it does so. No condition. -/
import Derived.Test.YtpadmiphiogdhaaGreatAm2
import Derived.Great.BuildSlice
namespace Go.Am
open Go.RowKit
section
variable {P:Program} {g:Y4} {W0:Zct g} {w w':World} {X X':Nat→Prop} {B n:Nat} {own:Bool} {s:St} {F:Key→List Nat} {a:Act} {H H':List Nat} {o:Oper} {tg:Xm} {τ:Tab}
def Q35(s:St)(x:Op1)(t:Ty):Option (t.den×St×Bool):=
 match Zr4 s x t with
 |some u=>match u.T,u.f,u.x,t.flat with
  |T,_,y,true=>match Kq t T y with|some z=>some (z,u.s,u.moved)|none=>none
  |T,f,y,false=>match Vq T f (.u true),Kq t T y with|true,some z=>some (z,u.s,u.moved)|_,_=>none
 |none=>none
theorem Qxa(h:R n W0 w X F H s a)(ht:tg.ok a){x:Operand}{t:Ty}{z:t.den}{s':St}{mv:Bool}(hk:Q35 s (op1 s tg x) t=some (z,s',mv)):
  ∃F' S vs,a.eval x=Xz t vs∧rd w X W0.B true t z vs S∧R n W0 w X F' (S++H) s' a∧(mv=false→s'=s):=by
 unfold Q35 at hk
 split at hk
 ·rename_i u hu
  obtain⟨hT,F',S,vs,h1,h2,h3,h4,hl⟩:=Wz h ht hu
  split at hk
  ·rename_i hfl
   split at hk
   ·rename_i z' hz
    simp only[Option.some.injEq,Prod.mk.injEq]at hk
    obtain⟨rfl,rfl,rfl⟩:=hk
    have e:=Zap hz
    have hflU:u.T.flat=true:=by rw[hT];assumption
    have hS:rd w (fun b=>X b∨b∈S) W0.B false u.T u.x vs []:=Y5 (fun _ h=> .inl h) hl h2 (fun _ h=> .inr h)
    have h5:=(Zbv (X':=X) (own':=true) (w':=w) hflU hS).2
    refine⟨F',[],vs,by rw[h1,hT],?_,h3.drop,fun hm=>(h4 hm).1⟩
    have e2: (⟨u.T,u.x⟩:TV)=⟨t,z'⟩:=e
    cases u with
    |mk UT Uf Ux Us Um=>simp only at e2 h5;cases e2;exact h5
   ·cases hk
  ·rename_i hfl
   split at hk
   ·rename_i z' hsub hz
    simp only[Option.some.injEq,Prod.mk.injEq]at hk
    obtain⟨rfl,rfl,rfl⟩:=hk
    have e:=Zap hz
    refine⟨F',S,vs,by rw[h1,hT],?_,h3,fun hm=>(h4 hm).1⟩
    have e2: (⟨u.T,u.x⟩:TV)=⟨t,z'⟩:=e
    cases u with
    |mk UT Uf Ux Us Um=>simp only at e2 h2 hsub;cases e2;have:=Zf7 hsub h2;unfold rdF at this;exact this
   ·cases hk
 ·cases hk
def Qtg(tg:Xm)(t:Ty):Nat→List (Nat×Operand)→St→Bool→Option (List t.den×St×Bool)
 |_,[],s,mv=>some ([],s,mv)
 |k,(i,y)::r,s,mv=>match Nat.beq i k with
  |false=>none
  |true=>match Q35 s (op1 s tg y) t with
   |some (z,s1,m1)=>match Qtg tg t (k+1) r s1 (mv||m1)with
    |some (l,s2,m2)=>some (z::l,s2,m2)
    |none=>none
   |none=>none
theorem Qzc: ∀{r:List (Nat×Operand)} {t:Ty} {k:Nat} {s:St} {mv:Bool} {l:List t.den} {s':St} {mv':Bool},Qtg tg t k r s mv=some (l,s',mv')→mv'=false→mv=false
 | [],t,k,s,mv,l,s',mv',h,hm=>by simp only[Qtg,Option.some.injEq,Prod.mk.injEq]at h;rw[h.2.2];exact hm
 | (i,y)::r,t,k,s,mv,l,s',mv',h,hm=>by
  simp only[Qtg]at h
  split at h
  ·cases h
  ·split at h
   ·split at h
    ·rename_i hb
     simp only[Option.some.injEq,Prod.mk.injEq]at h
     obtain⟨_,_,rfl⟩:=h
     have:=Qzc hb hm
     simp only[Bool.or_eq_false_iff]at this
     exact this.1
    ·cases h
   ·cases h
theorem Z6j(ht:tg.ok a){t:Ty}: ∀{parts:List (Nat×Operand)} {k:Nat} {s:St} {mv:Bool} {l:List t.den} {s':St} {mv':Bool} {F:Key→List Nat} {H:List Nat} {cs:Array Value} {A M C:List Value},
  R n W0 w X F H s a→cs.toList=A++ (M++C)→A.length=k*t.size→M.length=parts.length*t.size→Qtg tg t k parts s mv=some (l,s',mv')→
  ∃F' S vs cs',Instr.fill (fun i=>some (i*t.size,t.size)) cs (parts.map fun p=>(p.1,a.eval p.2))=some cs'∧cs'.toList=A++ (vs++C)∧Zbf (rd w X W0.B true t) l vs S∧l.length=parts.length∧
   R n W0 w X F' (S++H) s' a∧(mv'=false→s'=s)
 | [],k,s,mv,l,s',mv',F,H,cs,A,M,C,hR,hcs,hA,hM,hb=>by
  simp only[Qtg,Option.some.injEq,Prod.mk.injEq]at hb
  obtain⟨rfl,rfl,rfl⟩:=hb
  have:M=[]:=List.eq_nil_of_length_eq_zero (by simpa using hM)
  subst this
  exact⟨F,[],[],cs,rfl,hcs,⟨rfl,rfl⟩,rfl,hR,fun _=>rfl⟩
 | (i,y)::r,k,s,mv,l,s',mv',F,H,cs,A,M,C,hR,hcs,hA,hM,hb=>by
  simp only[Qtg]at hb
  split at hb
  ·cases hb
  ·rename_i hik
   have hik:=Nat.eq_of_beq_eq_true hik
   subst hik
   split at hb
   ·rename_i z s1 m1 hz
    split at hb
    ·rename_i l2 s2 m2 hb2
     simp only[Option.some.injEq,Prod.mk.injEq]at hb
     obtain⟨rfl,rfl,rfl⟩:=hb
     obtain⟨F1,Sn,vs,h1,h2,h3,h4⟩:=Qxa hR ht hz
     have hcells:=Zyd (Zku h2) (Yj h2)
     have hcsz: (a.eval y).cells.size=t.size:=by rw[h1,←Array.length_toList,hcells,Yj h2]
     have hM':M.length=t.size+r.length*t.size:=by rw[hM,List.length_cons,Nat.add_mul];omega
     obtain⟨cs1,g1,g2⟩:=Z3l (place:=fun i=>some (i*t.size,t.size)) (i:=i) (rest:=r.map fun p=>(p.1,a.eval p.2)) (v:=a.eval y) rfl (pre:=A) (mid:=M.take t.size) (post:=M.drop t.size++C)
      (by rw[hcs,←List.append_assoc (M.take _),List.take_append_drop]) hA (by simp;omega) hcsz
     rw[h1,hcells]at g1
     obtain⟨F',S,vs2,cs',k1,k2,k3,k4,k5,k6⟩:=Z6j ht (k:=i+1) (cs:=cs1) (A:=A++vs) (M:=M.drop t.size) (C:=C) h3 (by rw[g1];simp) (by simp[hA,Yj h2,Nat.add_mul]) (by simp[hM']) hb2
     refine⟨F',Sn++S,vs++vs2,cs',by simpa[g2]using k1,by rw[k2];simp,⟨vs,vs2,Sn,S,rfl,rfl,h2,k3⟩,by simp[k4],?_,fun hm=> ?_⟩
     ·refine k5.sub ?_ ?_
      ·intro b hb;simp only[List.mem_append]at hb⊢;grind
      ·have:=k5.hnodup
       simp only[List.nodup_append,List.mem_append]at this⊢
       grind
     ·have:=Qzc hb2 hm
      simp only[Bool.or_eq_false_iff]at this
      exact(k6 hm).trans (h4 this.2)
    ·cases hb
   ·cases hb
def Zvw(τ:Tab)(s:St)(tg:Xm)(e:TypeId)(len:Nat)(parts:Array (Nat×Operand)):Option Res:=
 match τ e with
 |some (.slice e' t)=>match τ e' with
  |some t2=>match decide (t2=t),Nat.beq parts.size len&&Nat.ble (len*t.size) 16777216 with
   |true,true=>match Qtg tg t 0 parts.toList s false with
    |some (l,s',mv)=>some ⟨.val (.slice e' t) (.u true) l,s',mv,none⟩
    |none=>none
   |_,_=>none
  |none=>none
 |_=>none
theorem Z3v(h:R n W0 w X F H s a)(ht:tg.ok a)(hτ:τ.ok P){e:TypeId}{len:Nat}{parts:Array (Nat×Operand)}(ho:o.op= .buildSlice e len parts){r:Res}(hr:Zvw τ s tg e len parts=some r):Zoz P n W0 w X H s a o r:=by
 unfold Zvw at hr
 split at hr
 ·rename_i e' t hT
  split at hr
  ·rename_i t2 hT2
   split at hr
   ·rename_i hd hbq
    split at hr
    ·rename_i l s' mv hb
     simp only[Option.some.injEq]at hr
     subst hr
     have:=of_decide_eq_true hd
     subst this
     simp only[Bool.and_eq_true,Nat.ble_eq]at hbq
     have hlen:=Nat.eq_of_beq_eq_true hbq.1
     obtain⟨hu,hpos⟩:=(hτ _ _ hT).slice
     obtain⟨i,hi,his,_,hz⟩:=(hτ _ _ hT2).size
     intro _ K Q hK
     obtain⟨cs0,hcs0⟩: ∃cs0:Array Value,cs0=(Array.range (len*i.size)).map ((Xz t2 (J7 t2)).cells[· % (Xz t2 (J7 t2)).cells.size]!):=⟨_,rfl⟩
     have hcsz:cs0.toList.length=len*t2.size:=by rw[hcs0];simp[his]
     obtain⟨F',S,vs,cs',k1,k2,k3,k4,k5,k6⟩:=Z6j ht (k:=0) (cs:=cs0) (A:=[]) (M:=cs0.toList) (C:=[]) h (by simp) (by simp) (by rw[hcsz,Array.length_toList,hlen]) hb
     have hll:l.length=len:=by rw[k4,Array.length_toList,hlen]
     have hrun: (execOp a.eval o).run P w= .ok (.value (.slice (some ⟨w.heap.size,0,none⟩) len len)) (w.alloc (.cells cs' e')):=by
      simp only[execOp,ho,Sem.run_bind]
      by_cases hz0:len*i.size=0
      ·have hl0:len=0:=by
        rcases Nat.mul_eq_zero.1 hz0 with h|h
        ·exact h
        ·omega
       subst hl0
       have hp0:parts= #[]:=Array.eq_empty_of_size_eq_zero hlen
       subst hp0
       simp only[List.map_nil,Instr.fill,Option.some.injEq]at k1
       subst k1
       simp[Instr.buildSlice,run_underlying hu,Go.sizeOf,typeInfo,hi,newRow,Instr.fill,hcs0,Array.range_zero']
      ·rw[run_buildSlice w e e' len _ cs' i _ hu hi hz (by have:=hbq.2;rw[his];omega) hz0 (by rw[←hcs0];simpa[his]using k1)]
       simp
     unfold Oper.wp
     rw[hrun]
     have hcs:cs'.toList=vs:=by simpa using k2
     refine hK _ X F' (w.heap.size::S) _ (fun _ h=>h) (k5.alloc _) ⟨[_],rfl,?_⟩ k6 ⟨fun _=>Old.alloc _ _,h.kept (Old.alloc _ _)⟩
     unfold rdF
     have hvl:vs.length=len*t2.size:=by rw[Zpl (fun _ _ _ h=>Yj h) k3,hll]
     refine⟨_,vs,[w.heap.size],S,rfl,rfl,⟨⟨by rw[hvl,hll],.inr ⟨w.heap.size,len,cs',by rw[hll],h.below.sizeB,Qk9 _ _,by rw[hll];exact Nat.le_refl _,?_,?_,?_⟩⟩,rfl⟩,?_⟩
     ·have:=hbq.2
      have h2:len≤len*t2.size:=Nat.le_mul_of_pos_right _ hpos
      simp only[maxLen];omega
     ·rw[←Array.length_toList,hcs,hvl]
     ·rw[hcs,hll,←hvl,List.take_length]
     ·exact Kt k3 fun x v T _ hT hr=>Zfe (fun _ h=>h) (fun b hb=>hold w _ b (h.xlt b hb)) hr fun b hb=>hold w _ b (k5.hown b (by simp[hT b hb])).2.1
    ·cases hr
   ·cases hr
  ·cases hr
 ·cases hr
def Z0t(τ:Tab)(s:St)(tg:Xm)(e:TypeId)(parts:Array (Nat×Operand)):Option Res:=
 match τ e with
 |some (.arr n t)=>match parts.toList with
  | []=>some ⟨.val (.arr n t) (.u true) (List.replicate n (zero t)),s,false,none⟩
  |p::ps=>match Nat.beq (p::ps).length n,Qtg tg t 0 (p::ps) s false with
   |true,some (l,s',mv)=>some ⟨.val (.arr n t) (.u true) l,s',mv,none⟩
   |_,_=>none
 |_=>none
theorem Z98(h:R n W0 w X F H s a)(ht:tg.ok a)(hτ:τ.ok P){e:TypeId}{parts:Array (Nat×Operand)}(ho:o.op= .build e parts){r:Res}(hr:Z0t τ s tg e parts=some r):Zoz P n W0 w X H s a o r:=by
 unfold Z0t at hr
 split at hr
 ·rename_i m t hT
  obtain⟨hpos,et,hu,hsz⟩:=(hτ _ _ hT).arr
  obtain⟨i,hi,his,_,hz⟩:=(hτ _ _ hT).size
  obtain⟨j,hj,hjs,_⟩:=Zkv hsz
  have hzc: (Xz (.arr m t) (J7 (.arr m t))).cells=(J7 (.arr m t)).toArray:=rfl
  split at hr
  ·rename_i hps
   simp only[Option.some.injEq]at hr
   subst hr
   intro _ K Q hK
   have hrun: (execOp a.eval o).run P w= .ok (.value (.agg (J7 (.arr m t)).toArray)) w:=by
    simp only[execOp,ho,Sem.run_bind,Instr.build,zeroValue,typeInfo,Sem.run_pure,run_underlying hu,Result.andThen_ok]
    simp[hi,hz,Go.sizeOf,typeInfo,hj,hps,Instr.fill,hzc]
   unfold Oper.wp
   rw[hrun]
   refine hK _ X F [] w (fun _ h=>h) (by simpa using h) ⟨J7 (.arr m t),rfl,?_⟩ (fun _=>rfl) ⟨fun _=>Old.refl w,h.kept (Old.refl w)⟩
   unfold rdF
   exact Zro (hτ _ _ hT).plain
  ·rename_i p ps hps
   split at hr
   ·rename_i l s' mv hlen hb
    simp only[Option.some.injEq]at hr
    subst hr
    have hlen:=Nat.eq_of_beq_eq_true hlen
    intro _ K Q hK
    have hzl: (J7 (.arr m t)).length=m*t.size:=Zuq (hτ _ _ hT).plain
    obtain⟨F',S,vs,cs',k1,k2,k3,k4,k5,k6⟩:=Z6j ht (k:=0) (cs:=(J7 (.arr m t)).toArray) (A:=[]) (M:=J7 (.arr m t)) (C:=[]) h (by simp) (by simp) (by rw[hzl,hlen]) hb
    have hrun: (execOp a.eval o).run P w= .ok (.value (.agg cs')) w:=by
     simp only[execOp,ho,Sem.run_bind,Instr.build,zeroValue,typeInfo,Sem.run_pure,run_underlying hu,Result.andThen_ok]
     rw[←hjs]at k1
     simp only[List.map_cons]at k1
     simp[hi,hz,Go.sizeOf,typeInfo,hj,hps,hzc,k1]
    unfold Oper.wp
    rw[hrun]
    have hcs:cs'.toList=vs:=by simpa using k2
    refine hK _ X F' S w (fun _ h=>h) k5 ⟨cs'.toList,by simp[Xz],?_⟩ k6 ⟨fun _=>Old.refl w,h.kept (Old.refl w)⟩
    unfold rdF
    rw[hcs]
    exact⟨by rw[k4,hlen],k3⟩
   ·cases hr
 ·cases hr
theorem Zqc(z:List Value): ∀(m j:Nat),j<m*z.length→(List.replicate m z).flatten[j]? =z[j%z.length]?
 |0,j,h=>by simp at h
 |m+1,j,h=>by
  rw[List.replicate_succ,List.flatten_cons]
  by_cases hj:j<z.length
  ·rw[List.getElem?_append_left hj,Nat.mod_eq_of_lt hj]
  ·rw[List.getElem?_append_right (by omega),Zqc z m (j-z.length) (by rw[Nat.add_mul]at h;omega)]
   congr 1
   rw[←Nat.mod_eq_sub_mod (by omega)]
theorem Qpa(z:Array Value){l c:Nat}(hlc:l≤c): (madeCells z (c*z.size)).toList.take (l*z.size)=(List.replicate l z.toList).flatten:=by
 apply List.ext_getElem?
 intro j
 have hl: (List.replicate l z.toList).flatten.length=l*z.size:=by simp
 by_cases hj:j<l*z.size
 ·have hjc:j<c*z.size:=Nat.lt_of_lt_of_le hj (Nat.mul_le_mul_right _ hlc)
  have hz:0<z.size:=Nat.pos_of_ne_zero fun e=>by rw[e]at hj;simp at hj
  rw[List.getElem?_take,if_pos hj,Zqc _ _ _ (by simpa using hj)]
  have hm:j%z.size<z.size:=Nat.mod_lt _ hz
  simp[madeCells,hjc,hm]
 ·rw[List.getElem?_eq_none (by rw[List.length_take];omega),List.getElem?_eq_none (by omega)]
def Quh(τ:Tab)(s:St)(tg:Xm)(e:TypeId)(x y:Operand):Option Res:=
 match τ e with
 |some (.slice e' t)=>match τ e',Zpk s (op1 s tg x),Zpk s (op1 s tg y)with
  |some t2,some (_,l),some (_,c)=>match decide (t2=t)with
   |true=>some ⟨.val (.slice e' t) (.u true) (List.replicate l.toNat (zero t)),s,false,some (0≤l∧l≤c∧c≤Qv)⟩
   |false=>none
  |_,_,_=>none
 |_=>none
theorem Qrv(h:R n W0 w X F H s a)(ht:tg.ok a)(hτ:τ.ok P){e:TypeId}{x y:Operand}(ho:o.op= .makeSlice e x y){r:Res}(hr:Quh τ s tg e x y=some r):Zoz P n W0 w X H s a o r:=by
 unfold Quh at hr
 split at hr
 ·rename_i e' t hT
  split at hr
  ·rename_i t2 k1 l k2 c hT2 hl hc
   split at hr
   ·rename_i hd
    simp only[Option.some.injEq]at hr
    subst hr
    have:=of_decide_eq_true hd
    subst this
    obtain⟨hu,hpos⟩:=(hτ _ _ hT).slice
    obtain⟨i,hi,his,hby,hz⟩:=(hτ _ _ hT2).size
    intro hp K Q hK
    obtain⟨p1,p2,p3⟩:0≤l∧l≤c∧c≤Qv:=hp
    have p3':c≤17179869184:=p3
    have e1:=Zc7 h ht hl
    have e2:=Zc7 h ht hc
    have hb: (i.bytes:Int)*c≤281474976710656:=by
     have: (i.bytes:Int)*c≤8192*17179869184:=Int.mul_le_mul (by omega) p3' (by omega) (by omega)
     omega
    have hrun: (execOp a.eval o).run P w= .ok (.value (.slice (some ⟨w.heap.size,0,none⟩) l.toNat c.toNat)) (w.alloc (.cells (madeCells (J7 t2).toArray (c.toNat*i.size)) e')):=by
     simp only[execOp,ho,e1,e2,Sem.run_bind,run_make w e e' i _ hu hi hz k1 k2 l c p1 p2 hb (by omega),Result.andThen_ok,Sem.run_pure,Z3o (hτ _ _ hT2).plain]
    unfold Oper.wp
    rw[hrun]
    refine hK _ X F [w.heap.size] _ (fun _ h=>h) (h.alloc _) ⟨[_],rfl,?_⟩ (fun _=>rfl) ⟨fun _=>Old.alloc _ _,h.kept (Old.alloc _ _)⟩
    unfold rdF
    have hzs: (J7 t2).toArray.size=t2.size:=by simp[Zuq (hτ _ _ hT2).plain]
    refine⟨_,(List.replicate l.toNat (J7 t2)).flatten,[w.heap.size],[],rfl,rfl,⟨⟨by simp[Zuq (hτ _ _ hT2).plain],.inr ⟨w.heap.size,c.toNat,_,by simp,h.below.sizeB,Qk9 _ _,by simp;omega,by simp only[maxLen];omega,?_,?_⟩⟩,rfl⟩,Zuj (Zro (hτ _ _ hT2).plain) _⟩
    ·rw[size_madeCells,his]
    ·have:=Qpa (J7 t2).toArray (l:=l.toNat) (c:=c.toNat) (by omega)
     rw[hzs]at this
     rw[his,List.length_replicate]
     simpa using this
   ·cases hr
  ·cases hr
 ·cases hr
def Qer(τ:Tab)(s:St)(tg:Xm)(e:TypeId)(x y:Operand):Option Res:=
 match τ e with
 |some (.slice e' t)=>match τ e' with
  |some t2=>match decide (t2=t),Zr4 s (op1 s tg x) (.slice e' t)with
   |true,some ⟨.slice e1 t1,.u true,l,s1,_⟩=>match decide (e1=e'∧t1=t)with
    |true=>match t.flat,Z14 s1 (op1 s1 tg y)with
     |true,some ⟨_,t3,_,l3⟩=>match Kq (.slice e' t1) (.slice e' t3) l3 with
      |some l4=>some ⟨.val (.slice e' t1) (.u true) (l++l4),s1,true,some (l.length+l4.length≤Qv)⟩
      |none=>none
     |false,_=>match Zr4 s1 (op1 s1 tg y) (.slice e' t)with
      |some ⟨.slice e3 t3,.u true,l3,s2,_⟩=>match Kq (.slice e' t1) (.slice e3 t3) l3 with
       |some l4=>some ⟨.val (.slice e' t1) (.u true) (l++l4),s2,true,some (l.length+l4.length≤Qv)⟩
       |none=>none
      |_=>none
     |_,_=>none
    |false=>none
   |_,_=>none
  |none=>none
 |_=>none
theorem Z6i{e e':TypeId}{t:Ty}(hT:TOK P e (.slice e' t))(hT2:TOK P e' t){v vy:Value}{xs ys:List Value}{l l4:List t.den}
  (hown:w.ownsRow B e' t.size v l.length xs) (hy: ∃ad cap,vy= .slice ad l4.length cap∧l4.length≤cap∧((ad=none∧l4.length=0∧cap=0)∨ ∃a0,ad=some a0∧ ∀j u,ys[j]? =some u→w.cell? (a0.add j)=some u)) (hyl:ys.length=l4.length*t.size)
  (h1: ∀u∈ys,u.oneCell'=true) (hp:l.length+l4.length≤Qv) (hB:B≤w.heap.size):
  ∃v' w',(Builtin.append_ #[e,e] e #[v,vy]).run P w= .ok v' w'∧w'.ownsRow B e' t.size v' (l.length+l4.length) (xs++ys)∧w.grownBy w' v.ownBlock∧(v'.ownBlock=v.ownBlock∨ ∀b,v'.ownBlock=some b→w.heap.size≤b):=by
 obtain⟨hu,hpos⟩:=hT.slice
 obtain⟨i,hi,his,hby,hz⟩:=hT2.size
 have hzs: (Xz t (J7 t)).cells.size=t.size:=by rw[Z3o hT2.plain];simp[Zuq hT2.plain]
 have hp':l.length+l4.length≤17179869184:=hp
 obtain⟨ad,cap,rfl,hle,hc⟩:=hy
 rcases hc with⟨rfl,hl0,rfl⟩| ⟨a0,rfl,hc⟩
 ·have hys:ys=[]:=List.eq_nil_of_length_eq_zero (by rw[hyl,hl0,Nat.zero_mul])
  subst hys
  have hrow:=hown.2
  rcases hrow with⟨rfl,hn⟩| ⟨g,cap,cur,rfl,hb,hg,hnc,hcm,hcs,htk⟩
  ·refine⟨.slice none 0 0,w,?_,by rw[hl0];simpa using hown,⟨rfl,rfl,rfl,Nat.le_refl _,fun _ _ _=>rfl⟩,.inl rfl⟩
   rw[hl0]
   simp[Builtin.append_,run_underlying hu,Go.sizeOf,typeInfo,hi,Builtin.lenOf,Builtin.firstCells]
  ·refine⟨.slice (some ⟨g,0,none⟩) l.length cap,w,?_,by rw[hl0];simpa using hown,⟨rfl,rfl,rfl,Nat.le_refl _,fun _ _ _=>rfl⟩,.inl rfl⟩
   rw[hl0]
   simp[Builtin.append_,run_underlying hu,Go.sizeOf,typeInfo,hi,Builtin.lenOf,Builtin.firstCells,hnc,storeCells]
 ·have hbt: (l.length+l4.length)*i.bytes≤140737488355328:=by
   have: (l.length+l4.length)*i.bytes≤17179869184*8192:=Nat.mul_le_mul hp' hby
   omega
  have h63:l.length+l4.length≤maxLen:=by simp only[maxLen];omega
  obtain⟨v',w',g1,g2,g3,_⟩:=run_append_own (P:=P) w B e e e' i _ t.size i.bytes hu hi hz his rfl hzs hpos v l.length xs hown a0 l4.length cap ys hyl hc h1 h63 hbt hB
  refine⟨v',w',g1,g2,g3,?_⟩
  rcases hown.2 with⟨rfl,hn⟩| ⟨g,cap',cur,rfl,hb,hg,hnc,hcm,hcs,htk⟩
  ·have hown':w.ownsRow w.heap.size e' t.size (.slice none 0 0) l.length xs:=⟨hown.1,.inl ⟨rfl,hn⟩⟩
   obtain⟨v2,w2,k1,k2,_⟩:=run_append_own (P:=P) w w.heap.size e e e' i _ t.size i.bytes hu hi hz his rfl hzs hpos _ l.length xs hown' a0 l4.length cap ys hyl hc h1 h63 hbt (Nat.le_refl _)
   rw[g1]at k1
   simp only[Result.ok.injEq]at k1
   obtain⟨rfl,rfl⟩:=k1
   exact .inr fun b hb=>(k2.lt b hb).1
  ·by_cases hroom:l.length+l4.length≤cap'
   ·have hfit:l.length*i.size+ys.length≤cur.size:=by rw[hyl,hcs,his,←Nat.add_mul];exact Nat.mul_le_mul_right _ hroom
    have hr:=run_append_room (P:=P) w e e e' i hu hi g l.length cap' cur hg a0 l4.length cap ys (by rw[hyl,his]) hc h1 hroom hfit
    rw[g1]at hr
    simp only[Result.ok.injEq]at hr
    exact .inl (by rw[hr.1];rfl)
   ·have holds: ∀j u,xs[j]? =some u→w.cell? ((⟨g,0,none⟩:Addr).add j)=some u:=hown.cells (g:=g) rfl
    have hr:=run_append_grow (P:=P) w e e e' i _ hu hi hz ⟨g,0,none⟩ l.length cap' xs (by rw[hown.1,his]) holds a0 l4.length cap ys (by rw[hyl,his]) hc (by omega) (by simp only[maxLen]at h63;omega) (growslice_fits (by omega) hbt)
    rw[g1]at hr
    simp only[Result.ok.injEq]at hr
    exact .inr fun b hb=>by rw[hr.1]at hb;simp[Value.ownBlock]at hb;omega
theorem Zyc{B':Nat}{e:TypeId}{sz nn:Nat}{v:Value}{xs:List Value}(h:w.ownsRow B e sz v nn xs)(hB:B'≤B):w.ownsRow B' e sz v nn xs:=
 ⟨h.1,h.2.imp id fun⟨g,cap,cur,h1,h2,h3⟩=>⟨g,cap,cur,h1,Nat.le_trans hB h2,h3⟩⟩
theorem Qta{S1 S2 S4:List Nat}(h:R n W0 w X F (S1++ (S2++ (S4++H))) s a){e':TypeId}{t:Ty}{v v':Value}{xs ys:List Value}{l l4:List t.den}
  (h1:hdr w X W0.B true e' t.size l.length v xs S1) (h2:Zbf (rd w X W0.B true t) l xs S2) (h4:Zbf (rd w X W0.B true t) l4 ys S4)
  (g2:w'.ownsRow W0.B e' t.size v' (l.length+l4.length) (xs++ys)) (g3:w.grownBy w' v.ownBlock) (g4:v'.ownBlock=v.ownBlock∨ ∀b,v'.ownBlock=some b→w.heap.size≤b):
  ∃S,R n W0 w' X F (S++H) s a∧rd w' X W0.B true (.slice e' t) (l++l4) [v'] S∧(∀b,X b→w'.heap[b]? =w.heap[b]?)∧ ∀k b,b∈F k→w'.heap[b]? =w.heap[b]? :=by
 have hS1:S1=v.ownBlock.toList:=h1.2
 have same: ∀b,b<w.heap.size→b∉S1→w'.heap[b]? =w.heap[b]? :=fun b hb hn=>g3.block b hb (fun e=>hn (by rw[hS1,←e];simp))
 have hnd:=h.hnodup
 have hX: ∀b,X b→w'.heap[b]? =w.heap[b]? :=fun b hb=>same b (h.xlt b hb) fun hm=>(h.hown b (by simp[hm])).2.2 hb
 have hF: ∀k b,b∈F k→w'.heap[b]? =w.heap[b]? :=fun k b hb=>same b (h.own k b hb).2.1 fun hm=>h.hdisj k b hb (by simp[hm])
 have hn24: ∀b,b∈S2++ (S4++H)→b∉S1:=fun b hb hm=>(List.nodup_append.1 hnd).2.2 b hm b hb rfl
 have hH: ∀b,b∈S2++ (S4++H)→w'.heap[b]? =w.heap[b]? :=fun b hb=>same b (h.hown b (by simp only[List.mem_append]at hb⊢;grind)).2.1 (hn24 b hb)
 have hbl:W0.below w':=⟨g3.os.trans h.below.os,g3.tape.trans h.below.tape,g3.output.trans h.below.output,Nat.le_trans h.below.size g3.size,fun k hk=>
  (same k (Nat.lt_of_lt_of_le (W0.yW k hk) h.below.size) fun hm=>W0.sep hk (h.hown k (by simp[hm])).1 rfl).trans (h.below.block k hk)⟩
 have hR:=(h.drop).world hbl g3.size hX hF
 have hlt:=g2.lt
 have hR2:R n W0 w' X F (v'.ownBlock.toList++ (S2++ (S4++H))) s a:=by
  rcases g4 with g4|g4
  ·rw[g4,←hS1]
   refine hR.hand (fun b hb=> ?_) (List.nodup_append.1 hnd).1 (fun k b hb hm=>h.hdisj k b hb (by simp[hm])) (fun b hb hm=>hn24 b hm hb)
   obtain⟨q1,q2,q3⟩:=h.hown b (by simp[hb])
   exact⟨q1,Nat.lt_of_lt_of_le q2 g3.size,q3⟩
  ·refine hR.hand (fun b hb=> ?_) (by cases v'.ownBlock<;>simp) (fun k b hb hm=> ?_) (fun b hb hm=> ?_)
   ·have hb:v'.ownBlock=some b:=by simpa using hb
    exact⟨.inl (Nat.le_trans h.below.size (g4 b hb)),(hlt b hb).2,fun hx=>by have:=h.xlt b hx;have:=g4 b hb;omega⟩
   ·have hm:v'.ownBlock=some b:=by simpa using hm
    have:=(h.own k b hb).2.1;have:=g4 b hm;omega
   ·have hb:v'.ownBlock=some b:=by simpa using hb
    have:=(h.hown b (by simp only[List.mem_append]at hm⊢;grind)).2.1;have:=g4 b hb;omega
 have mono: ∀{l:List t.den} {xs:List Value} {S:List Nat},Zbf (rd w X W0.B true t) l xs S→(∀b∈S,b∈S2++ (S4++H))→Zbf (rd w' X W0.B true t) l xs S:=fun hr hS=>
  Kt hr fun x v T _ hT hrd=>Zfe (fun _ h=>h) hX hrd fun b hb=>hH b (hS b (hT b hb))
 refine⟨v'.ownBlock.toList++ (S2++S4),by simpa[List.append_assoc]using hR2,⟨v',xs++ys,v'.ownBlock.toList,S2++S4,rfl,rfl,⟨by simpa using g2,rfl⟩,?_⟩,hX,hF⟩
 exact Zrz (mono h2 fun b hb=>by simp[hb]) (mono h4 fun b hb=>by simp[hb])
theorem Qjn(h:R n W0 w X F H s a)(ht:tg.ok a)(hτ:τ.ok P){e:TypeId}{x y:Operand}(ho:o.op= .call {callee:= .builtin .append,args:= #[x,y],argTypes:= #[e,e]}){r:Res}(hr:Qer τ s tg e x y=some r):Zoz P n W0 w X H s a o r:=by
 unfold Qer at hr
 split at hr
 ·rename_i e' t hT
  split at hr
  ·rename_i t2 hT2
   split at hr
   ·rename_i e1 t1 l s1 m1 hd hx
    have:=of_decide_eq_true hd
    subst this
    obtain⟨_,F1,S,vs,q1,q2,q3,_,_⟩:=Wz h ht hx
    split at hr
    ·rename_i hd2
     obtain⟨rfl,rfl⟩:=of_decide_eq_true hd2
     simp only at q1 q2 q3
     unfold rdF at q2
     obtain⟨v,xs,S1,S2,rfl,rfl,k1,k2⟩:=q2
     have fin: ∀{s2 F2 S4 ys l4} {vy:Value} {r:Res},R n W0 w X F2 (S4++ ((S1++S2)++H)) s2 a→(∀r,s.isBox r→s2.isBox r)→a.eval y=vy→
       (∃ad cap,vy= .slice ad l4.length cap∧l4.length≤cap∧((ad=none∧l4.length=0∧cap=0)∨ ∃a0,ad=some a0∧ ∀j u,ys[j]? =some u→w.cell? (a0.add j)=some u))→
       Zbf (rd w X W0.B true t1) l4 ys S4→r=⟨.val (.slice e1 t1) (.u true) (l++l4),s2,true,some (l.length+l4.length≤Qv)⟩→Zoz P n W0 w X H s a o r:=by
      intro s2 F2 S4 ys l4 vy r hR hbx hy hc hrows hre
      subst hre
      intro hp K Q hK
      obtain⟨v',w',g1,g2,g3,g4⟩:=Z6i (P:=P) (hτ _ _ hT) (hτ _ _ hT2) k1.1 hc (Zpl (fun _ _ _ h=>Yj h) hrows) (Z18 (fun _ _ _ h=>Zku h) hrows) hp h.below.sizeB
      have hR':R n W0 w X F2 (S1++ (S2++ (S4++H))) s2 a:=hR.sub (fun b hb=>by simp only[List.mem_append]at hb⊢;grind) (by
       have:=hR.hnodup
       simp only[List.nodup_append,List.mem_append]at this⊢
       grind)
      obtain⟨S',z1,z2,z3,z4⟩:=Qta hR' k1 k2 hrows g2 g3 g4
      have hx0:a.eval x=v:=q1
      have hrun: (execOp a.eval o).run P w= .ok (.value v') w':=by
       simp only[execOp,ho]
       have g1': (Builtin.append_ #[e,e] o.type #[v,vy]).run P w= .ok v' w':=g1
       simp[resolve,invoke,builtin,hx0,hy,g1']
      have kept:Qjm X s a none w w':=by
       intro b hb
       rcases hb with hb| ⟨r,h1,_,h2⟩
       ·exact z3 b hb
       ·obtain⟨S,h3⟩:=hR.boxIn (hbx r h1) h2
        exact z4 (.m r) b (by rw[h3];simp)
      unfold Oper.wp
      rw[hrun]
      exact hK _ X F2 S' w' (fun _ h=>h) z1 ⟨[v'],rfl,by unfold rdF;exact z2⟩ (by simp) ⟨fun hp=>(by rw[ho]at hp;cases hp),kept⟩
     split at hr
     ·rename_i e3 t3 b3 l3 hfl hy
      split at hr
      ·rename_i l4 hl4
       simp only[Option.some.injEq]at hr
       have:=Zap hl4
       cases this
       obtain⟨vy,ys,T1,T2,g1,g2,g3,g4⟩:=Zs8 q3 ht hy
       have g5:=Zdg (r':=rd w X W0.B true t1) (fun x v S h=>Zbv hfl h) g3
       refine fin (S4:=[]) (by simpa using q3) (fun r hb=>Zov hx hb) g1 ?_ g5.2 hr.symm
       obtain⟨ad,cap,z1,z2,_,z3⟩:=Zdd g2
       exact⟨ad,cap,z1,z2,z3.imp id fun⟨a0,u1,_,u2⟩=>⟨a0,u1,u2⟩⟩
      ·cases hr
     ·rename_i hfl
      split at hr
      ·rename_i e3 t3 l3 s2 m2 hy
       split at hr
       ·rename_i l4 hl4
        simp only[Option.some.injEq]at hr
        have:=Zap hl4
        cases this
        obtain⟨_,F2,S4,vs4,u1,u2,u3,_,_⟩:=Wz q3 ht hy
        simp only at u1 u2 u3
        unfold rdF at u2
        obtain⟨vy,ys,T1,T2,rfl,rfl,g2,g3⟩:=u2
        have u3':R n W0 w X F2 (T2++ ((S1++S2)++H)) s2 a:=by
         rw[List.append_assoc]at u3
         exact u3.drop
        refine fin u3' (fun r hb=>Zov hy (Zov hx hb)) u1 ?_ g3 hr.symm
        obtain⟨ad,cap,z1,z2,_,z3⟩:=Zdd g2
        exact⟨ad,cap,z1,z2,z3.imp id fun⟨a0,u1,_,u2⟩=>⟨a0,u1,u2⟩⟩
       ·cases hr
      ·cases hr
     ·cases hr
    ·cases hr
   ·cases hr
  ·cases hr
 ·cases hr
end
end Go.Am
namespace Go.Am
open Go.RowKit
@[reducible] def Kb:List Ty→Type
 | []=>Unit
 |t::ts=>t.den×Kb ts
def Zoe(w:World)(X:Nat→Prop)(B:Nat): (ts:List Ty)→Kb ts→List Value→Prop
 | [],_,vs=>vs=[]
 |t::ts,x,vs=> ∃cs us,vs=Xz t cs::us∧rd w X B false t x.1 cs []∧Zoe w X B ts x.2 us
def Zdq(w:World)(B:Nat): (ts:List Ty)→Kb ts→List Value→List Nat→Prop
 | [],_,vs,S=>vs=[]∧S=[]
 |t::ts,x,vs,S=> ∃cs us S1 S2,vs=Xz t cs::us∧S=S1++S2∧rd w (fun _=>False) B true t x.1 cs S1∧Zdq w B ts x.2 us S2
def X8(vs:List Value):Value:=
 match vs with
 | [v]=>v
 |vs=> .tuple vs.toArray
structure FnE where
 f:FuncId
 args:List Ty
 res:List Ty
 F:Kb args→Option (Kb res)
structure Zsx(P:Program)(g:Y4)(e:FnE):Prop where
 enters: ∀args w,(callFunc e.f args).run P w= .ok (.enter e.f args) w
 calls: ∀(w:World) (xs:Kb e.args) (r:Kb e.res) (vals:List Value),g.G w→Zoe w (· <w.heap.size) 0 e.args xs vals→e.F xs=some r→
  Calls P e.f vals.toArray w fun en w'=> ∃rs S,en= .returned (X8 rs)∧Zdq w' w.heap.size e.res r rs S∧S.Nodup∧Below w.heap.size w w'
abbrev Env:=List FnE
def Env.find(Γ:Env)(f:FuncId):Option FnE:=
 match Γ with
 | []=>none
 |e::r=>match Nat.beq e.f f with|true=>some e|false=>Env.find r f
def Env.ok(Γ:Env)(P:Program)(g:Y4):Prop:= ∀e∈Γ,Zsx P g e
theorem Env.find_ok{Γ:Env}{P:Program}{g:Y4}(h:Γ.ok P g){f:FuncId}{e:FnE}(he:Γ.find f=some e):e.f=f∧Zsx P g e:=by
 induction Γ with
 |nil=>cases he
 |cons x r ih=>
  simp only[Env.find]at he
  split at he
  ·rename_i hb
   simp only[Option.some.injEq]at he
   subst he
   exact⟨Nat.eq_of_beq_eq_true hb,h _ (by simp)⟩
  ·exact ih (fun e he=>h e (by simp[he])) he
section
variable {P:Program} {g:Y4} {W0:Zct g} {w w':World} {X X':Nat→Prop} {B B' n:Nat} {own:Bool} {s:St} {F:Key→List Nat} {a:Act} {H H':List Nat} {o:Oper} {tg:Xm} {τ:Tab}
theorem Zbu(hB:B'≤B)(hX: ∀b,X b→X' b): ∀{T:Ty} {x:T.den} {vs:List Value} {S:List Nat},rd w X B own T x vs S→rd w X' B' own T x vs S
 | .unit,_,_,_,h| .int _,_,_,_,h| .bool,_,_,_,h| .fnc _,_,_,_,h| .str,_,_,_,h=>h
 | .slice _ _,_,_,_,⟨v,xs,S1,S2,e,e2,h1,h2⟩=>by
  refine⟨v,xs,S1,S2,e,e2,?_,Kt h2 fun _ _ _ _ _ h=>Zbu hB hX h⟩
  cases own
  ·obtain⟨g1,g2,a,cap,g3,g4,g5,g6⟩:=h1
   exact⟨g1,g2,a,cap,g3,g4,g5,g6.imp id fun⟨ad,k1,k2,k3⟩=>⟨ad,k1,k2.imp id (hX _),k3⟩⟩
  ·exact⟨Zyc h1.1 hB,h1.2⟩
 | .pair a b,_,_,_,⟨v1,v2,S1,S2,e,e2,h1,h2⟩=>⟨v1,v2,S1,S2,e,e2,Zbu hB hX h1,Zbu hB hX h2⟩
 | .arr n t,_,_,_,⟨h,h'⟩=>⟨h,Kt h' fun _ _ _ _ _ h=>Zbu hB hX h⟩
 | .err,_,_,_,h=>h
 | .hid _,_,_,_,⟨e,y,h⟩=>⟨e,y,Zbu hB hX h⟩
 | .sptr ..,_,_,_,⟨e,o,b,c,h1,h2,h3,h4⟩=>⟨e,o,b,c,h1,hX b h2,h3,Zbu hB hX h4⟩
 | .clo ..,_,_,_,⟨e,cs,h1,h2⟩=>⟨e,cs,h1,Zbu hB hX h2⟩
def Zm0(s:St)(tg:Xm): (ts:List Ty)→List Operand→Option (Kb ts)
 | [],[]=>some ()
 |t::ts,x::xs=>match V3 s (op1 s tg x) t,Zm0 s tg ts xs with
  |some u,some us=>some (u,us)
  |_,_=>none
 |_,_=>none
theorem Zpj(h:R n W0 w X F H s a)(ht:tg.ok a): ∀{ts:List Ty} {xs:List Operand} {us:Kb ts},Zm0 s tg ts xs=some us→Zoe w (· <w.heap.size) 0 ts us (xs.map a.eval)
 | [],[],us,_=>rfl
 |t::ts,x::xs,us,hr=>by
  simp only[Zm0]at hr
  split at hr
  ·rename_i u us' hu hus
   simp only[Option.some.injEq]at hr
   subst hr
   obtain⟨cs,h1,h2⟩:=Vt h ht hu
   exact⟨cs,_,by simp[h1],Zbu (Nat.zero_le _) (fun _ h=>h) h2,Zpj h ht hus⟩
  ·cases hr
 | [],_::_,_,hr=>by simp[Zm0]at hr
 |_::_,[],_,hr=>by simp[Zm0]at hr
def Qab(d:Nat): (ts:List Ty)→Kb ts→Nat→List (Key×Tm)→List (Key×Tm)
 | [],_,_,r=>r
 |t::ts,x,i,r=>Qab d ts x.2 (i+1) ((.c d i,.val t (.u true) x.1)::r)
def Z83(d:Nat)(s:St): (ts:List Ty)→Kb ts→St
 | [t],r=>Yo s d (.val t (.u true) r.1)
 | [],r=>{env:=Qab d [] r 0 (Yo s d .tup).env,dirty:=(Yo s d .tup).dirty,lent:=s.lent}
 |t::u::ts,r=>{env:=Qab d (t::u::ts) r 0 (Yo s d .tup).env,dirty:=(Yo s d .tup).dirty,lent:=s.lent}
def Q12{ρ:Type}(Γ:Env)(n:Nat)(s:St)(tg:Xm)(dst:Option Nat)(f:FuncId)(xs:List Operand)(k:St→Option ρ):Option ρ:=
 match Γ.find f with
 |none=>none
 |some e=>match Zm0 s tg e.args xs with
  |none=>none
  |some us=>match dst with
   |none=>(e.F us).bind fun _=>k s
   |some d=>match J1 s d&&Nat.blt d n with
    |false=>none
    |true=>(e.F us).bind fun r=>k (Z83 d s e.res r)
theorem R.below'(h:R n W0 w X F H s a)(hb:Below w.heap.size w w'):R n W0 w' X F H s a:=
 h.world (h.below.step hb) hb.size (fun b hb'=>hb.block b (h.xlt b hb')) (fun k b hb'=>hb.block b (h.own k b hb').2.1)
theorem Qho: ∀{ts:List Ty} {x:Kb ts} {rs:List Value} {S:List Nat},Zdq w B ts x rs S→rs.length=ts.length
 | [],_,_,_,h=>by simp[h.1]
 |t::ts,_,_,_,⟨_,_,_,_,e,_,_,h⟩=>by simp[e,Qho h]
theorem Zod{rs:List Value}(h:rs.length≠1):X8 rs= .tuple rs.toArray:=by
 unfold X8
 split
 ·simp at h
 ·rfl
theorem R.putTup{d:Nat}{vs:List Value}{ts:List Ty}{x:Kb ts}{S:List Nat}(h:R n W0 w X F (S++H) s a)(hd:J1 s d=true)(hn:d<n)(hx:Zdq w W0.B ts x vs S):
  ∃F',R n W0 w X F' H {env:=Qab d ts x 0 (Yo s d .tup).env,dirty:=(Yo s d .tup).dirty,lent:=s.lent} (a.put (some d) (.tuple vs.toArray)):=by
 have h0:R n W0 w X (Qf F (.m d) []) (S++H) (Yo s d .tup) (a.put (some d) (.tuple vs.toArray)):=(by simpa using h:R n W0 w X F ([]++ (S++H)) s a).put hd hn rfl
 have hval: (a.put (some d) (.tuple vs.toArray)).tmps.getD d undef= .tuple vs.toArray:=Zkw (a:=a) (by rw[h.size];exact hn)
 have hno: ∀i,(Yo s d .tup).get (.c d i)= .junk:=fun i=>by
  rw[Ziy]
  simp only[reduceCtorEq,if_false]
  exact Classical.byContradiction fun hc=>by have:=(h.comps d i hc).1;simp[J1,this]at hd
 
 suffices hs: ∀(ts:List Ty) (x:Kb ts) (us:List Value) (i:Nat) (S:List Nat) (F:Key→List Nat) (r:List (Key×Tm)) (pre:List Value),vs=pre++us→pre.length=i→Zdq w W0.B ts x us S→
   R n W0 w X F (S++H) {env:=r,dirty:=(Yo s d .tup).dirty,lent:=s.lent} (a.put (some d) (.tuple vs.toArray))→Zow r (.m d)= .tup→(∀j,i≤j→Zow r (.c d j)= .junk)→
   ∃F',R n W0 w X F' H {env:=Qab d ts x i r,dirty:=(Yo s d .tup).dirty,lent:=s.lent} (a.put (some d) (.tuple vs.toArray)) by
  obtain⟨F',hF'⟩:=hs ts x vs 0 S _ (Yo s d .tup).env [] rfl rfl hx h0 (Zq6 _ _ _) (fun j _=>hno j)
  exact⟨F',hF'⟩
 intro ts
 induction ts with
 |nil=>
  intro x us i S F r pre _ _ hx hR _ _
  obtain⟨rfl,rfl⟩:=hx
  exact⟨F,hR⟩
 |cons t ts ih=>
  intro x us i S F r pre hvs hpre hx hR htup hjunk
  obtain⟨cs,us',S1,S2,rfl,rfl,hx1,hx2⟩:=hx
  
  have hcomp:Qi (a.put (some d) (.tuple vs.toArray)) (.c d i)=Xz t cs:=by
   simp only[Qi,hval]
   rw[hvs,←hpre]
   simp[Array.getD_eq_getD_getElem?]
  have hone:R n W0 w X (Qf F (.c d i) S1) (S2++H) {env:=(.c d i,.val t (.u true) x.1)::r,dirty:=(Yo s d .tup).dirty,lent:=s.lent} (a.put (some d) (.tuple vs.toArray)):=by
   have hFi:F (.c d i)=[]:=by
    have:=hR.slots (.c d i)
    simp only[St.get,hjunk i (Nat.le_refl _)]at this
    exact this
   have hnd:=hR.hnodup
   rw[List.append_assoc]at hnd
   exact
   {size:=hR.size
    defers:=hR.defers
    below:=hR.below
    glob:=hR.glob
    gx:=hR.gx
    xs:=hR.xs
    fix:=hR.fix
    xlt:=hR.xlt
    xin:=hR.xin
    x0:=hR.x0
    own:=fun k b hb=>by
     simp only[Qf]at hb
     split at hb
     ·exact hR.hown b (by simp[hb])
     ·exact hR.own k b hb
    nodup:=fun k=>by
     simp only[Qf]
     split
     ·exact(List.nodup_append.1 hnd).1
     ·exact hR.nodup k
    disj:=fun k k' b hb hb'=>by
     simp only[Qf]at hb hb'
     split at hb<;>split at hb'
     ·rename_i e1 e2;rw[e1,e2]
     ·exact absurd (by simp[hb]) (hR.hdisj k' b hb')
     ·exact absurd (by simp[hb']) (hR.hdisj k b hb)
     ·exact hR.disj k k' b hb hb'
    hown:=fun b hb=>hR.hown b (by simp only[List.mem_append]at hb⊢;grind)
    hnodup:=(List.nodup_append.1 hnd).2.1
    hdisj:=fun k b hb hh=>by
     simp only[Qf]at hb
     split at hb
     ·exact(List.nodup_append.1 hnd).2.2 b hb b hh rfl
     ·exact hR.hdisj k b hb (by simp only[List.mem_append]at hh⊢;grind)
    comps:=fun d' j hc=>by
     simp only[St.get,Z7]at hc⊢
     simp only[reduceCtorEq,if_false]
     split at hc
     ·rename_i e
      simp only[Key.c.injEq]at e
      obtain⟨rfl,rfl⟩:=e
      refine⟨htup,vs.toArray,hval,?_⟩
      rw[hvs,←hpre];simp
     ·exact hR.comps d' j hc
    slots:=fun k=>by
     by_cases hk:k= .c d i
     ·subst hk
      simp only[St.get,Z7,if_true,Qf]
      exact⟨cs,hcomp,by unfold rdF;exact Zbu (Nat.le_refl _) (fun _ h=>h.elim) hx1⟩
     ·have e1:St.get {env:=(Key.c d i,Tm.val t (.u true) x.1)::r,dirty:=(Yo s d .tup).dirty,lent:=s.lent} k=St.get {env:=r,dirty:=(Yo s d .tup).dirty,lent:=s.lent} k:=by simp[St.get,Z7,Ne.symm hk]
      have e2:Qf F (.c d i) S1 k=F k:=by simp[Qf,hk]
      rw[e1,e2]
      exact Qmg (s:={env:=r,dirty:=(Yo s d .tup).dirty,lent:=s.lent}) (hR.slots k)}
  obtain⟨F',hF'⟩:=ih x.2 us' (i+1) S2 _ _ (pre++ [Xz t cs]) (by rw[hvs];simp) (by simp[hpre]) hx2 hone (by rw[Z7];simpa using htup) (fun j hj=>by
   rw[Z7,if_neg (by simp;omega)];exact hjunk j (by omega))
  exact⟨F',hF'⟩
theorem R.putRes{d:Nat}{rs:List Value}: ∀{ts:List Ty} {x:Kb ts} {S:List Nat},R n W0 w X F (S++H) s a→J1 s d=true→d<n→Zdq w W0.B ts x rs S→
  ∃F',R n W0 w X F' H (Z83 d s ts x) (a.put (some d) (X8 rs))
 | [],x,S,h,hd,hn,hx=>by
  rw[Zod (by rw[Qho hx];simp)]
  exact h.putTup hd hn hx
 | [t],x,S,h,hd,hn,hx=>by
  obtain⟨cs,us',S1,S2,rfl,rfl,g1,rfl,rfl⟩:=hx
  exact⟨_,h.put hd hn ⟨cs,rfl,by unfold rdF;exact Zbu (Nat.le_refl _) (fun _ (h:False)=>h.elim) (by simpa using g1)⟩⟩
 |t::u::ts,x,S,h,hd,hn,hx=>by
  rw[Zod (by rw[Qho hx];simp)]
  exact h.putTup hd hn hx
def Qty(s:St)(tg:Xm)(x:Operand):Option FuncId:=
 match Zs5 s (op1 s tg x)with
 |some ⟨.fnc f,_,_⟩=>some f
 |_=>none
theorem Zkk(h:R n W0 w X F H s a)(ht:tg.ok a){x:Operand}{f:FuncId}(hf:Qty s tg x=some f):a.eval x= .func (.func f) #[] #[]:=by
 unfold Qty at hf
 split at hf
 ·rename_i g fl y hl
  simp only[Option.some.injEq]at hf
  subst hf
  obtain⟨hlive,vs,S,h1,h2,_⟩:=Zdo h ht hl
  have h3:=Y5 (X':=fun b=>X b∨b∈S) (fun _ h=> .inl h) hlive h2 (fun _ h=> .inr h)
  rw[h1,h3.1]
  rfl
 ·cases hf
theorem Z6l{Γ:Env}(hΓ:Γ.ok P g)(h:R n W0 w X F H s a)(ht:tg.ok a){f:FuncId}{fo:Operand}(hfo:a.eval fo= .func (.func f) #[] #[]){xs:Array Operand}{ats:Array TypeId}(ho:o.op= .call {callee:= .value fo,args:=xs,argTypes:=ats}){e:FnE}(he:Γ.find f=some e)
  {us:Kb e.args} (hus:Zm0 s tg e.args xs.toList=some us) {rv:Kb e.res} (hpre:e.F us=some rv) {K:Act→World→Prop} {Q:Exit→Act→World→Prop}
  (hK: ∀rs S w',R n W0 w' X F (S++H) s a→Zdq w' W0.B e.res rv rs S→Old w w'→K (a.put o.dst (X8 rs)) w'):o.wp P a w K Q:=by
 obtain⟨hf,hok⟩:=Env.find_ok hΓ he
 subst hf
 have hc:=hok.calls w us rv (xs.toList.map a.eval) h.glob (Zpj h ht hus) hpre
 have hrun: (execOp a.eval o).run P w= .ok (.enter e.f (xs.toList.map a.eval).toArray) w:=by
  have:execOp a.eval o=callFunc e.f (xs.map a.eval):=by
   simp only[execOp,ho,resolve,hfo,Deferred.ofValue]
   simp[invoke]
  rw[this,hok.enters]
  congr 2
  apply Array.toList_inj.mp
  simp
 unfold Oper.wp
 rw[hrun,Oper.upon_enter]
 refine hc.mono fun en w' ⟨rs,S,hen,hres,hnd,hbl⟩=> ?_
 subst hen
 show K (a.put o.dst (X8 rs)) w'
 have hlow: ∀{ts:List Ty} {x:Kb ts} {rs:List Value} {S:List Nat},Zdq w' w.heap.size ts x rs S→(∀b∈S,w.heap.size≤b∧b<w'.heap.size)∧Zdq w' W0.B ts x rs S:=by
  intro ts
  induction ts with
  |nil=>intro x rs S h;exact⟨by simp[h.2],h⟩
  |cons t ts ih=>
   intro x rs S ⟨cs,us,S1,S2,e1,e2,g1,g2⟩
   obtain⟨k1,k2⟩:=ih g2
   refine⟨fun b hb=> ?_,cs,us,S1,S2,e1,e2,Zbu h.below.sizeB (fun _ h=>h) g1,k2⟩
   rw[e2]at hb
   rcases List.mem_append.1 hb with hb|hb
   ·exact Zsj g1 b hb
   ·exact k1 b hb
 obtain⟨hfresh,hres'⟩:=hlow hres
 exact hK rs S w' ((h.below' hbl).hand (fun b hb=>⟨.inl (Nat.le_trans h.below.size (hfresh b hb).1),(hfresh b hb).2,fun hx=>by have:=h.xlt b hx;have:=(hfresh b hb).1;omega⟩) hnd
  (fun k b hb hm=>by have:=(h.own k b hb).2.1;have:=(hfresh b hm).1;omega) (fun b hb hm=>by have:=(h.hown b hm).2.1;have:=(hfresh b hb).1;omega)) hres' (fun k hk=>hbl.block k hk)
theorem Qvf{ρ:Type}{Γ:Env}(hΓ:Γ.ok P g)(h:R n W0 w X F H s a)(ht:tg.ok a){f:FuncId}{fo:Operand}(hfo:a.eval fo= .func (.func f) #[] #[]){xs:Array Operand}{ats:Array TypeId}(ho:o.op= .call {callee:= .value fo,args:=xs,argTypes:=ats}){k:St→Option ρ}{r:ρ}(hr:Q12 Γ n s tg o.dst f xs.toList k=some r)
  {K:Act→World→Prop} {Q:Exit→Act→World→Prop} (hK: ∀v w' F' s',k s'=some r→R n W0 w' X F' H s' (a.put o.dst v)→Old w w'→K (a.put o.dst v) w'):o.wp P a w K Q:=by
 unfold Q12 at hr
 split at hr
 ·cases hr
 ·rename_i e he
  split at hr
  ·cases hr
  ·rename_i us hus
   cases hd:o.dst with
   |none=>
    rw[hd]at hr
    simp only[Option.bind_eq_some_iff]at hr
    obtain⟨rv,hrv,hk⟩:=hr
    refine Z6l hΓ h ht hfo ho he hus hrv fun rs S w' hR hres' hold=> ?_
    have hK':=hK (X8 rs) w' F s hk
    rw[hd]at hK'⊢
    exact hK' hR.drop hold
   |some d=>
    rw[hd]at hr
    simp only at hr
    split at hr
    ·cases hr
    ·rename_i hdn
     simp only[Bool.and_eq_true,Nat.blt_eq]at hdn
     simp only[Option.bind_eq_some_iff]at hr
     obtain⟨rv,hrv,hk⟩:=hr
     refine Z6l hΓ h ht hfo ho he hus hrv fun rs S w' hR hres' hold=> ?_
     obtain⟨F',hF'⟩:=hR.putRes hdn.1 hdn.2 hres'
     have hK':=hK (X8 rs) w' F' _ hk
     rw[hd]at hK'⊢
     exact hK' hF' hold
end
end Go.Am
namespace Go.Am
open Go.RowKit
def Qlx(k d:Nat):List (Key×Tm)→List (Key×Tm)
 | []=>[]
 | (.c t i,x)::r=>match Nat.beq t k with
  |true=>(.c d i,x)::Qlx k d r
  |false=>match Nat.beq t d with
   |true=>Qlx k d r
   |false=>(.c t i,x)::Qlx k d r
 | (.m t,x)::r=>(.m t,x)::Qlx k d r
theorem Qp2(k d t:Nat): ∀l,Zow (Qlx k d l) (.m t)=Zow l (.m t)
 | []=>rfl
 | (.c a i,x)::r=>by
  simp only[Qlx]
  split
  ·simp only[Z7,reduceCtorEq,if_false,Qp2 k d t r]
  ·split
   ·simp only[Z7,reduceCtorEq,if_false,Qp2 k d t r]
   ·simp only[Z7,reduceCtorEq,if_false,Qp2 k d t r]
 | (.m a,x)::r=>by simp only[Qlx,Z7,Qp2 k d t r]
theorem Qyq{k d:Nat}(hkd:k≠d)(t i:Nat): ∀l,Zow (Qlx k d l) (.c t i)=if t=d then Zow l (.c k i)else if t=k then .junk else Zow l (.c t i)
 | []=>by simp[Qlx,Zow]
 | (.c a j,x)::r=>by
  have ih:=Qyq hkd t i r
  simp only[Qlx]
  split
  ·rename_i h
   have h:=Nat.eq_of_beq_eq_true h
   subst h
   simp only[Z7,ih,Key.c.injEq]
   by_cases h1:t=d
   ·subst h1;simp
   ·simp only[h1,if_false,Ne.symm h1,false_and]
    by_cases h2:t=a
    ·simp[h2]
    ·simp[h2,Ne.symm h2]
  ·rename_i h
   have hak:a≠k:=fun e=>by subst e;rw[Nat.beq_refl]at h;cases h
   split
   ·rename_i h'
    have h':=Nat.eq_of_beq_eq_true h'
    subst h'
    simp only[Z7,ih,Key.c.injEq]
    by_cases h1:t=a
    ·simp[h1,hak]
    ·simp[h1,Ne.symm h1]
   ·rename_i h'
    have had:a≠d:=fun e=>by subst e;rw[Nat.beq_refl]at h';cases h'
    simp only[Z7,ih,Key.c.injEq]
    by_cases h1:t=d
    ·subst h1;simp[had,hak]
    ·by_cases h2:t=k
     ·subst h2;simp[h1,hak]
     ·simp[h1,h2]
 | (.m a,x)::r=>by simp only[Qlx,Z7,reduceCtorEq,if_false,Qyq hkd t i r]
def Qji(s:St)(k d:Nat):St:={env:=Qlx k d ((.m d,.tup)::s.env),dirty:=(Yo s d .tup).dirty,lent:=s.lent}
section
variable {g:Y4} {W0:Zct g} {w:World} {X:Nat→Prop} {B n:Nat} {s s1 s2:St} {F F1 F2:Key→List Nat} {a:Act}
theorem Xah(hg: ∀t,s2.get (.m t)=s1.get (.m t))(hd:s2.dirty=s1.dirty)(hF: ∀t,F2 (.m t)=F1 (.m t)){v:Value}{S:List Nat}: ∀{u:Tm},vt w X B s1 F1 a v S u→vt w X B s2 F2 a v S u:=by
 have hf: ∀r,s2.foul r=s1.foul r:=fun r=>by unfold St.foul;rw[hd]
 have hv: ∀{r p v U},Yn w s1 F1 a r p v U→Yn w s2 F2 a r p v U:=by
  intro r p v U h
  unfold Yn at h⊢
  rw[hg r,hF r]
  exact h
 intro u h
 induction u with
 |junk=>exact h
 |tup=>exact h
 |val=>exact h
 |box=>exact h
 |shp=>exact h
 |ptr r p=>
  obtain⟨h0,e,T,f,x,b,S',h1,h2,h3⟩:=h
  exact⟨h0,e,T,f,x,b,S',by rw[hg];exact h1,by rw[hF];exact h2,h3⟩
 |aep r p i=>
  obtain⟨h0,e,T,f,x,b,S',n,t',y,h1,h2,h3⟩:=h
  exact⟨h0,e,T,f,x,b,S',n,t',y,by rw[hg];exact h1,by rw[hF];exact h2,h3⟩
 |bor r p=>exact⟨h.1,fun hc=>let⟨U,hU⟩:=h.2 (by rw[←hf];exact hc);⟨U,hv hU⟩⟩
 |elp r p i q=>exact⟨h.1,fun hc=>let⟨e,t,ad,m,cap,h1,h2⟩:=h.2 (by rw[←hf];exact hc);⟨e,t,ad,m,cap,hv h1,h2⟩⟩
 |pls hh l=>
  refine⟨h.1,Zqk (fun _ h=>h) (fun _ _=>rfl) (fun r p v ha=> ?_) h.2⟩
  obtain⟨e,T,f,x,b,S',h1,h2,h3⟩:=ha
  exact⟨e,T,f,x,b,S',by rw[hg];exact h1,by rw[hF];exact h2,h3⟩
 |gd g want u ih=>
  intro hc
  obtain⟨h0,h1,h2⟩:=h (by rw[←hf];exact hc)
  exact⟨by rw[hg];exact h0,fun hb=>ih (h1 hb),h2⟩
def Z5w(k d:Nat):Key→Option Key
 | .m t=>if t=d then none else some (.m t)
 | .c t i=>if t=d then some (.c k i)else if t=k then none else some (.c t i)
theorem Q3w{k d:Nat}{x y j:Key}(hx:Z5w k d x=some j)(hy:Z5w k d y=some j):x=y:=by
 cases x with
 |m t=>
  simp only[Z5w]at hx
  split at hx
  ·cases hx
  ·cases hx
   cases y with
   |m u=>
    simp only[Z5w]at hy
    split at hy
    ·cases hy
    ·simp only[Option.some.injEq]at hy;exact hy.symm
   |c u i=>
    simp only[Z5w]at hy
    split at hy
    ·cases hy
    ·split at hy<;>cases hy
 |c t i=>
  cases y with
  |m u=>
   simp only[Z5w]at hy
   split at hy
   ·cases hy
   ·cases hy
    simp only[Z5w]at hx
    split at hx
    ·cases hx
    ·split at hx<;>cases hx
  |c u i'=>
   simp only[Z5w]at hx hy
   split at hx<;>split at hy
   ·rename_i h1 h2;cases hx;cases hy;rw[h1,h2]
   ·split at hy
    ·cases hy
    ·rename_i h1 h2 h3;cases hx;cases hy;exact absurd rfl h3
   ·split at hx
    ·cases hx
    ·rename_i h1 h2 h3;cases hy;cases hx;exact absurd rfl h3
   ·split at hx
    ·cases hx
    ·split at hy
     ·cases hy
     ·cases hx;cases hy;rfl
theorem R.tupTo{k d:Nat}(h:R n W0 w X F [] s a)(hk:s.get (.m k)= .tup)(hd:J1 s d=true)(hn:d<n):
  ∃F',R n W0 w X F' [] (Qji s k d) (a.put (some d) (Qi a (.m k))):=by
 have hkd:k≠d:=fun e=>by subst e;simp[J1,hk]at hd
 let F':Key→List Nat:=fun x=>match Z5w k d x with|some j=>F j|none=>[]
 have gm: ∀t,(Go.Am.Qji s k d).get (.m t)=if d=t then .tup else s.get (.m t):=fun t=>by
  unfold Go.Am.Qji St.get
  rw[Qp2,Z7]
  simp
 have gc: ∀t i,(Go.Am.Qji s k d).get (.c t i)=if t=d then s.get (.c k i)else if t=k then .junk else s.get (.c t i):=fun t i=>by
  unfold Go.Am.Qji St.get
  rw[Qyq hkd]
  simp only[Z7,reduceCtorEq,if_false]
 have src: ∀{x b},b∈F' x→ ∃j,Z5w k d x=some j∧b∈F j:=by
  intro x b hb
  simp only[F']at hb
  split at hb
  ·rename_i j hj;exact⟨j,hj,hb⟩
  ·cases hb
 have keep: ∀{v S u},vt w X W0.B s F a v S u→vt w X W0.B (Go.Am.Qji s k d) F' (a.put (some d) (Qi a (.m k))) v S u:=by
  intro v S u hv
  refine Xah (s1:=Yo s d .tup) (s2:=Go.Am.Qji s k d) (F1:=Qf F (.m d) []) (F2:=F') (fun t=> ?_) rfl (fun t=> ?_) (Qy3 (t:= .tup) (v0:=Qi a (.m k)) (S0:=[]) hd hv)
  ·rw[gm,Ziy];simp
  ·simp only[F',Z5w,Qf,Key.m.injEq]
   by_cases e:t=d<;>simp[e]
 have hval: (a.put (some d) (Qi a (.m k))).tmps.getD d undef=Qi a (.m k):=Zkw (a:=a) (by rw[h.size];exact hn)
 have hcomp: ∀i,Qi (a.put (some d) (Qi a (.m k))) (.c d i)=Qi a (.c k i):=fun i=>by
  simp only[Qi]at hval⊢
  rw[hval]
 refine⟨F',?_⟩
 exact
  {size:=by simp[Act.put,h.size]
   defers:=by simp[Act.put,h.defers]
   below:=h.below
   glob:=h.glob
   gx:=h.gx
   xs:=h.xs
   fix:=fun p hp=>⟨(h.fix p hp).1,by
    have:=Qna hd
    have hne:p.1≠d:=fun e=>this (e▸(h.fix p hp).1)
    rw[Za2 (by simpa[Key.t]using hne)]
    exact(h.fix p hp).2⟩
   xlt:=h.xlt
   xin:=h.xin
   x0:=h.x0
   own:=fun x b hb=>let⟨j,_,hj⟩:=src hb;h.own j b hj
   nodup:=fun x=>by
    simp only[F']
    split
    ·exact h.nodup _
    ·simp
   disj:=fun x y b hb hb'=>by
    obtain⟨j,h1,h2⟩:=src hb
    obtain⟨j',h3,h4⟩:=src hb'
    have:=h.disj j j' b h2 h4
    subst this
    exact Q3w h1 h3
   hown:=by simp
   hnodup:=by simp
   hdisj:=by simp
   comps:=fun d' i hne=>by
    rw[gc]at hne
    rw[gm]
    by_cases e:d'=d
    ·subst e
     simp only[if_true]at hne⊢
     obtain⟨_,vs,h1,h2⟩:=h.comps k i hne
     exact⟨trivial,vs,by rw[hval];exact h1,h2⟩
    ·by_cases e2:d'=k
     ·simp[e2,hkd]at hne
     ·simp only[e,e2,if_false]at hne
      obtain⟨h0,vs,h1,h2⟩:=h.comps d' i hne
      refine⟨by simp[Ne.symm e,h0],vs,?_,h2⟩
      have:=Za2 (a:=a) (v:=Qi a (.m k)) (k:= .m d') (d:=d) (by simpa[Key.t]using e)
      simp only[Qi]at this⊢
      rw[this];exact h1
   slots:=fun x=>by
    cases x with
    |m t=>
     rw[gm]
     by_cases e:d=t
     ·subst e;simp only[if_true,F',Z5w];rfl
     ·have:F' (.m t)=F (.m t):=by simp[F',Z5w,Ne.symm e]
      rw[this,Za2 (by simpa[Key.t]using Ne.symm e)]
      simp only[e,if_false]
      exact keep (h.slots (.m t))
    |c t i=>
     rw[gc]
     by_cases e:t=d
     ·subst e
      have:F' (.c t i)=F (.c k i):=by simp[F',Z5w]
      rw[this,hcomp]
      simp only[if_true]
      exact keep (h.slots (.c k i))
     ·by_cases e2:t=k
      ·subst e2
       have:F' (.c t i)=[]:=by simp[F',Z5w,e]
       rw[this]
       simp only[e,if_false,if_true]
       rfl
      ·have:F' (.c t i)=F (.c t i):=by simp[F',Z5w,e,e2]
       rw[this,Za2 (by simpa[Key.t]using e)]
       simp only[e,e2,if_false]
       exact keep (h.slots (.c t i))}
end
end Go.Am
namespace Go.Am
open Go.RowKit
structure FnL where
 f:FuncId
 e:TypeId
 t:Ty
 args:List Ty
 res:List Ty
 F:List t.den→Kb args→Option (Kb res×List t.den)
structure Qu6(P:Program)(g:Y4)(e:FnL):Prop where
 flat:e.t.flat=true
 enters: ∀args w,(callFunc e.f args).run P w= .ok (.enter e.f args) w
 calls: ∀(w:World) (X:Nat→Prop) (L:List Nat) (l l':List e.t.den) (xs:Kb e.args) (r:Kb e.res) (v:Value) (vals:List Value),g.G w→(∀b,g.GB b→X b)→(∀b,X b→b<w.heap.size)→(∀b∈L,¬X b)→L.Nodup→
  rd w X 0 true (.slice e.e e.t) l [v] L→Zoe w X 0 e.args xs vals→e.F l xs=some (r,l')→
  Calls P e.f (v::vals).toArray w fun en w'=> ∃rs S,en= .returned (X8 rs)∧Zdq w' w.heap.size e.res r rs S∧S.Nodup∧(∃X',rd w' X' 0 true (.slice e.e e.t) l' [v] L)∧
   w'.os=w.os∧w'.tape=w.tape∧w'.output=w.output∧w.heap.size≤w'.heap.size∧ ∀b,b<w.heap.size→b∉L→w'.heap[b]? =w.heap[b]?
abbrev Z0q:=List FnL
def Z0q.find(Γ:Z0q)(f:FuncId):Option FnL:=
 match Γ with
 | []=>none
 |e::r=>match Nat.beq e.f f with|true=>some e|false=>Z0q.find r f
def Z0q.ok(Γ:Z0q)(P:Program)(g:Y4):Prop:= ∀e∈Γ,Qu6 P g e
theorem Z0q.find_ok{Γ:Z0q}{P:Program}{g:Y4}(h:Γ.ok P g){f:FuncId}{e:FnL}(he:Γ.find f=some e):e.f=f∧Qu6 P g e:=by
 induction Γ with
 |nil=>cases he
 |cons x r ih=>
  simp only[Z0q.find]at he
  split at he
  ·rename_i hb
   simp only[Option.some.injEq]at he
   subst he
   exact⟨Nat.eq_of_beq_eq_true hb,h _ (by simp)⟩
  ·exact ih (fun e he=>h e (by simp[he])) he
def Z85(s:St):Op1→Option Nat
 | .tm k (.val _ _ _)=>some k
 | .tm _ (.bor r [])=>match s.foul r with|false=>some r|true=>none
 |_=>none
def Qop(ts:List Ty):Bool:=ts.all Ty.flat
noncomputable def Q3h{ρ:Type}(Γ:Z0q)(n:Nat)(s:St)(dst:Option Nat)(f:FuncId)(xs:List Operand)(k:St→Option ρ):Option ρ:=
 match Γ.find f,xs with
 |some e,x0::rest=>match Z85 s (op1 s [] x0)with
  |some q=>match s.get (.m q)with
   | .val T (.u true) y=>match Kq (.slice e.e e.t) T y,Zm0 s [] e.args rest,Qop e.args with
    |some l,some us,true=>match dst with
     |none=>(e.F l us).bind fun z=>k (Zuo s q (.val (.slice e.e e.t) (.u true) z.2))
     |some d=>match J1 (Zuo s q (.val (.slice e.e e.t) (.u true) l)) d&&Nat.blt d n with
      |true=>(e.F l us).bind fun z=>k (Z83 d (Zuo s q (.val (.slice e.e e.t) (.u true) z.2)) e.res z.1)
      |false=>none
    |_,_,_=>none
   |_=>none
  |none=>none
 |_,_=>none
section
variable {P:Program} {g:Y4} {W0:Zct g} {w w':World} {X X':Nat→Prop} {B B' n:Nat} {own:Bool} {s:St} {F:Key→List Nat} {a:Act} {H H':List Nat} {o:Oper} {tg:Xm} {τ:Tab}
theorem Z12: ∀{ts:List Ty} {xs:Kb ts} {vs:List Value},Qop ts=true→Zoe w X B ts xs vs→Zoe w X' B ts xs vs
 | [],_,_,_,h=>h
 |t::ts,xs,vs,hf,⟨cs,us,h1,h2,h3⟩=>by
  simp only[Qop,List.all_cons,Bool.and_eq_true]at hf
  exact⟨cs,us,h1,(Zbv hf.1 h2).2,Z12 hf.2 h3⟩
theorem Zmz{own':Bool}{w w':World}{X X':Nat→Prop}{B B':Nat}{own:Bool}: ∀{T:Ty} {x:T.den} {vs:List Value} {S:List Nat},T.flat=true→
  rd w X B own T x vs S→S=[]∧rd w' X' B' own' T x vs []
 | .unit,_,_,_,_,h| .int _,_,_,_,_,h| .bool,_,_,_,_,h| .fnc _,_,_,_,_,h| .str,_,_,_,_,h=>⟨h.2,h.1,rfl⟩
 | .slice _ _,_,_,_,hf,_=>by simp[Ty.flat]at hf
 | .pair a b,_,_,_,hf,⟨v1,v2,S1,S2,e,e2,h1,h2⟩=>by
  simp only[Ty.flat,Bool.and_eq_true]at hf
  obtain⟨rfl,k1⟩:=Zmz hf.1 h1
  obtain⟨rfl,k2⟩:=Zmz hf.2 h2
  exact⟨by simp[e2],v1,v2,[],[],e,rfl,k1,k2⟩
 | .arr n t,_,_,_,hf,⟨h,h'⟩=>by
  obtain⟨e,k⟩:=Zdg (r':=rd w' X' B' own' t) (fun x v S h=>Zmz (by simpa[Ty.flat]using hf) h) h'
  exact⟨e,h,k⟩
 | .err,_,_,_,_,h=>⟨h.2,h.1,rfl⟩
 | .hid _,_,_,_,hf,⟨l,y,h⟩=>let⟨e,k⟩:=Zmz (by simpa[Ty.flat]using hf) h;⟨e,l,y,k⟩
 | .sptr ..,_,_,_,hf,_=>by simp[Ty.flat]at hf
 | .clo ..,_,_,_,hf,_=>by simp[Ty.flat]at hf
theorem Qum{w w':World}{B:Nat}{e:TypeId}{sz nn nn':Nat}{v:Value}{xs xs':List Value}(h:w.ownsRow B e sz v nn xs)(h':w'.ownsRow 0 e sz v nn' xs'):w'.ownsRow B e sz v nn' xs':=by
 refine⟨h'.1,h'.2.imp id fun⟨b,cap,cur,h1,h2,h3⟩=>⟨b,cap,cur,h1,?_,h3⟩⟩
 rcases h.2 with⟨h4,_⟩| ⟨b',cap',cur',h4,h5,_⟩
 ·rw[h1]at h4;cases h4
 ·rw[h1]at h4
  simp only[Value.slice.injEq,Option.some.injEq,Addr.mk.injEq]at h4
  rw[h4.1.1];exact h5
theorem Qzx{w w':World}{X X' X'':Nat→Prop}{B:Nat}{e:TypeId}{t:Ty}{l l':List t.den}{v:Value}{L L':List Nat}(hf:t.flat=true)(h:rd w X B true (.slice e t) l [v] L)(h':rd w' X' 0 true (.slice e t) l' [v] L'):rd w' X'' B true (.slice e t) l' [v] L':=by
 obtain⟨v1,xs1,S1,S2,e1,e2,h1,h2⟩:=h
 obtain⟨v2,xs2,S3,S4,e3,e4,h3,h4⟩:=h'
 simp only[List.cons.injEq,and_true]at e1 e3
 subst e1;subst e3
 obtain⟨e5,h5⟩:=Zdg (r':=rd w' X'' B true t) (fun x v S h=>Zmz hf h) h4
 exact⟨_,xs2,S3,S4,rfl,e4,⟨Qum h1.1 h3.1,h3.2⟩,by rw[e5];exact h5⟩
theorem Qdc(h:R n W0 w X F H s a){x:Operand}{q:Nat}(hq:Z85 s (op1 s [] x)=some q){T:Ty}{f:Fl}{y:T.den}(hg:s.get (.m q)= .val T f y):a.eval x=Qi a (.m q):=by
 unfold Z85 at hq
 split at hq
 ·rename_i k T' f' y' hx
  simp only[Option.some.injEq]at hq
  subst hq
  obtain⟨rfl,_⟩:=Kr h (tg:=[]) (fun p hp=>by cases hp) hx (by simp)
  rfl
 ·rename_i k r hx
  obtain⟨rfl,_,h2⟩:=Kr h (tg:=[]) (fun p hp=>by cases hp) hx (by simp)
  split at hq
  ·rename_i hfoul
   simp only[Option.some.injEq]at hq
   subst hq
   obtain⟨U,hU⟩:=h2 hfoul
   unfold Yn at hU
   rw[hg]at hU
   exact hU.2.2
  ·cases hq
 ·cases hq
theorem Qwe{ρ:Type}{Γ:Z0q}(hΓ:Γ.ok P g)(h:R n W0 w X F [] s a){f:FuncId}{fo:Operand}(hfo:a.eval fo= .func (.func f) #[] #[]){xs:Array Operand}{ats:Array TypeId}(ho:o.op= .call {callee:= .value fo,args:=xs,argTypes:=ats}){k:St→Option ρ}{r:ρ}(hr:Q3h Γ n s o.dst f xs.toList k=some r)
  {K:Act→World→Prop} {Q:Exit→Act→World→Prop} (hK: ∀v w' X' F' s',k s'=some r→R n W0 w' X' F' [] s' (a.put o.dst v)→K (a.put o.dst v) w'):o.wp P a w K Q:=by
 unfold Q3h at hr
 split at hr
 ·rename_i e x0 rest he hxs
  obtain⟨rfl,hok⟩:=Z0q.find_ok hΓ he
  split at hr
  ·rename_i q hq
   split at hr
   ·rename_i T y hg
    split at hr
    ·rename_i l us hl hus hfl
     have hT:T= .slice e.e e.t∧HEq y l:=by
      unfold Kq at hl
      split at hl
      ·rename_i eq
       subst eq
       simp only[Option.some.injEq]at hl
       exact⟨rfl,heq_of_eq hl⟩
      ·cases hl
     obtain⟨rfl,hy⟩:=hT
     have hy:=eq_of_heq hy
     subst hy
     have hev:=Qdc h hq hg
     have hs:=h.slots (.m q)
     rw[hg]at hs
     obtain⟨vs,hv,hrd⟩:=hs
     unfold rdF at hrd
     obtain⟨v,rfl⟩: ∃v,vs=[v]:=List.length_eq_one_iff.1 (Yj hrd)
     have hv:Qi a (.m q)=v:=hv
     have hlt: ∀b∈F (.m q),b<w.heap.size:=fun b hb=>(h.own _ _ hb).2.1
     
     have call: ∀{z},e.F y us=some z→ ∀{K':Act→World→Prop},(∀rs S w',R n W0 w' X F (S++ []) (Zuo s q (.val (.slice e.e e.t) (.u true) z.2)) a→Zdq w' W0.B e.res z.1 rs S→K' (a.put o.dst (X8 rs)) w')→o.wp P a w K' Q:=by
      intro z hz K' hK'
      have hrest:xs.toList.map a.eval=v::rest.map a.eval:=by rw[hxs,List.map_cons,hev,hv]
      have hc:=hok.calls w (fun b=>b<w.heap.size∧b∉F (.m q)) (F (.m q)) y z.2 us z.1 v (rest.map a.eval) h.glob (fun b hb=>⟨h.xlt b (h.gx b hb),fun hm=>(h.own _ _ hm).2.2 (h.gx b hb)⟩) (fun b hb=>hb.1) (fun b hb hx=>hx.2 hb) (h.nodup _)
       (by
        obtain⟨v1,xs1,S1,S2,e1,e2,h1,h2⟩:=hrd
        obtain⟨e5,h5⟩:=Zdg (r':=rd w (fun b=>b<w.heap.size∧b∉F (.m q)) 0 true e.t) (fun x v S h=>Zmz hok.flat h) h2
        exact⟨v1,xs1,S1,S2,e1,e2,⟨Zyc h1.1 (Nat.zero_le _),h1.2⟩,by rw[e5];exact h5⟩)
       (Z12 hfl (Zpj h (tg:=[]) (fun p hp=>by cases hp) hus)) hz
      have hrun: (execOp a.eval o).run P w= .ok (.enter e.f (v::rest.map a.eval).toArray) w:=by
       have:execOp a.eval o=callFunc e.f (xs.map a.eval):=by
        simp only[execOp,ho,resolve,hfo,Deferred.ofValue]
        simp[invoke]
       rw[this,hok.enters]
       congr 2
       apply Array.toList_inj.mp
       rw[←hrest];simp
      unfold Oper.wp
      rw[hrun,Oper.upon_enter]
      refine hc.mono fun en w' ⟨rs,S,hen,hres,hnd,⟨X2,hrd'⟩,h1,h2,h3,h4,h5⟩=> ?_
      subst hen
      show K' (a.put o.dst (X8 rs)) w'
      have hlow: ∀{ts:List Ty} {x:Kb ts} {rs:List Value} {S:List Nat},Zdq w' w.heap.size ts x rs S→(∀b∈S,w.heap.size≤b∧b<w'.heap.size)∧Zdq w' W0.B ts x rs S:=by
       intro ts
       induction ts with
       |nil=>intro x rs S h;exact⟨by simp[h.2],h⟩
       |cons t ts ih=>
        intro x rs S ⟨cs,us,S1,S2,e1,e2,g1,g2⟩
        obtain⟨k1,k2⟩:=ih g2
        refine⟨fun b hb=> ?_,cs,us,S1,S2,e1,e2,Zbu h.below.sizeB (fun _ h=>h) g1,k2⟩
        rw[e2]at hb
        rcases List.mem_append.1 hb with hb|hb
        ·exact Zsj g1 b hb
        ·exact k1 b hb
      obtain⟨hfresh,hres'⟩:=hlow hres
      have hrd2:rd w' X W0.B true (.slice e.e e.t) z.2 [v] (F (.m q)):=Qzx hok.flat hrd hrd'
      have hbl:W0.below w':=⟨h1.trans h.below.os,h2.trans h.below.tape,h3.trans h.below.output,Nat.le_trans h.below.size h4,fun b hb=>
       (h5 b (Nat.lt_of_lt_of_le (W0.yW b hb) h.below.size) fun hm=>W0.sep hb (h.own _ _ hm).1 rfl).trans (h.below.block b hb)⟩
      have hFk:Qf F (.m q) (F (.m q))=F:=by funext j;by_cases hj:j= .m q<;>simp[Qf,hj]
      have hTn:Z5x w w' s (Zuo s q (.val (.slice e.e e.t) (.u true) z.2)) F (Qf F (.m q) (F (.m q))) a q (.val (.slice e.e e.t) (.u true) z.2):=Zqr ⟨by rw[Kp];simp,fun p v U hv=>by
       unfold Yn at hv⊢
       rw[hg]at hv
       rw[Kp]
       simpa using hv⟩
      have hR:=h.turn' (w':=w') hTn hbl h4 (fun b hb=>h5 b (h.xlt b hb) fun hm=>(h.own _ _ hm).2.2 hb)
       (fun k b hk hb=>h5 b (h.own k b hb).2.1 fun hm=>hk (h.disj _ _ b hb hm)) (H':=[]) (fun b hb=>by simpa using hb) (by simpa using h.nodup (.m q)) (by rw[hg];simp) (fun e T f x b S hb=>by rw[hg]at hb;cases hb)
       ⟨[v],by rw[hv];rfl,by unfold rdF;exact hrd2⟩
      rw[hFk]at hR
      exact hK' rs S w' (hR.hand (fun b hb=>⟨.inl (Nat.le_trans h.below.size (hfresh b hb).1),(hfresh b hb).2,fun hx=>by have:=h.xlt b hx;have:=(hfresh b hb).1;omega⟩) hnd
       (fun k b hb hm=>by have:=(h.own k b hb).2.1;have:=(hfresh b hm).1;omega) (fun b hb hm=>by cases hm)) hres'
     split at hr
     ·rename_i hd
      simp only[Option.bind_eq_some_iff]at hr
      obtain⟨z,hz,hk⟩:=hr
      refine call hz fun rs S w' hR hres=> ?_
      have hK':=hK (X8 rs) w' X F _ hk
      rw[hd]at hK'⊢
      exact hK' hR.drop
     ·rename_i d hd
      split at hr
      ·rename_i hdn
       simp only[Bool.and_eq_true,Nat.blt_eq]at hdn
       simp only[Option.bind_eq_some_iff]at hr
       obtain⟨z,hz,hk⟩:=hr
       refine call hz fun rs S w' hR hres=> ?_
       have hdz:J1 (Zuo s q (.val (.slice e.e e.t) (.u true) z.2)) d=true:=by
        have:=hdn.1
        unfold J1 at this⊢
        rw[Kp]at this⊢
        by_cases hqd:Key.m q=Key.m d
        ·rw[if_pos hqd]at this⊢;exact this
        ·rw[if_neg hqd]at this⊢;exact this
       obtain⟨F',hF'⟩:=hR.putRes hdz hdn.2 hres
       have hK':=hK (X8 rs) w' X F' _ hk
       rw[hd]at hK'⊢
       exact hK' hF'
      ·cases hr
    ·cases hr
   ·cases hr
  ·cases hr
 ·cases hr
end
end Go.Am
namespace Go.Am
open Go.RowKit
inductive AK where
 |sh (T:Ty)
 |bx (e:TypeId) (T:Ty) (o:Fl)
 |mv (T:Ty)
@[reducible] def Zy7:List AK→Type
 | []=>Unit
 | .sh T::r=>T.den×Zy7 r
 | .bx _ T _::r=>T.den×Zy7 r
 | .mv T::r=>T.den×Zy7 r
@[reducible] def Zst:List AK→Type
 | []=>Unit
 | .sh _::r=>Zst r
 | .bx _ T _::r=>T.den×Zst r
 | .mv _::r=>Zst r
inductive RS where
 |vals (ts:List Ty)
 |newb (e:TypeId) (T:Ty)
 |shr (ts:List Ty)
 |flg (ts:List (Ty×Fl))
@[reducible] def Zy8:List (Ty×Fl)→Type
 | []=>Unit
 |t::r=>t.1.den×Zy8 r
@[reducible] def Qah:RS→Type
 | .vals ts=>Kb ts
 | .newb _ T=>T.den
 | .shr ts=>Kb ts
 | .flg ts=>Zy8 ts
def Qus(w:World)(X:Nat→Prop)(B:Nat): (ts:List (Ty×Fl))→Zy8 ts→List Value→List Nat→Prop
 | [],_,vs,S=>vs=[]∧S=[]
 |t::ts,x,vs,S=> ∃cs us S1 S2,vs=Xz t.1 cs::us∧S=S1++S2∧rdF w X B t.1 t.2 x.1 cs S1∧Qus w X B ts x.2 us S2
def Qws(w:World)(X:Nat→Prop): (ts:List Ty)→Kb ts→List Value→Prop
 | [],_,vs=>vs=[]
 |t::ts,x,vs=> ∃cs us,vs=Xz t cs::us∧rd w X 0 false t x.1 cs []∧Qws w X ts x.2 us
def rdA(w:World)(X:Nat→Prop): (as:List AK)→Zy7 as→List Value→List Nat→Prop
 | [],_,vs,L=>vs=[]∧L=[]
 | .sh t::r,x,vs,L=> ∃cs us,vs=Xz t cs::us∧rd w X 0 false t x.1 cs []∧rdA w X r x.2 us L
 | .bx e t o::r,x,vs,L=> ∃b c S us L',vs= .pointer (some ⟨b,0,none⟩)::us∧L=b:: (S++L')∧w.heap[b]? =some (.cells c e (0,0))∧rdF w X 0 t o x.1 c.toList S∧rdA w X r x.2 us L'
 | .mv t::r,x,vs,L=> ∃cs S us L',vs=Xz t cs::us∧L=S++L'∧rd w X 0 true t x.1 cs S∧rdA w X r x.2 us L'
def rdO(w:World)(X:Nat→Prop): (as:List AK)→Zst as→List Value→List Nat→List Nat→Prop
 | [],_,vs,BL,C=>vs=[]∧BL=[]∧C=[]
 | .sh _::r,x,vs,BL,C=> ∃v us,vs=v::us∧rdO w X r x us BL C
 | .bx e t o::r,x,vs,BL,C=> ∃b c S us BL' C',vs= .pointer (some ⟨b,0,none⟩)::us∧BL=b::BL'∧C=S++C'∧w.heap[b]? =some (.cells c e (0,0))∧rdF w X 0 t o x.1 c.toList S∧rdO w X r x.2 us BL' C'
 | .mv _::r,x,vs,BL,C=> ∃v us,vs=v::us∧rdO w X r x us BL C
def rdS(w:World)(X:Nat→Prop): (r:RS)→Qah r→List Value→List Nat→Prop
 | .vals ts,x,vs,S=>Zdq w 0 ts x vs S
 | .newb e T,x,vs,S=> ∃b c,vs=[.pointer (some ⟨b,0,none⟩)]∧S=[b]∧w.heap[b]? =some (.cells c e (0,0))∧rd w X 0 false T x c.toList []
 | .shr ts,x,vs,S=>S=[]∧Qws w X ts x vs
 | .flg ts,x,vs,S=>Qus w X 0 ts x vs S
structure FnB where
 f:FuncId
 args:List AK
 res:RS
 F:Zy7 args→Option (Qah res×Zst args)
structure Q57(w w':World)(X X':Nat→Prop)(L N:List Nat):Prop where
 os:w'.os=w.os
 tape:w'.tape=w.tape
 output:w'.output=w.output
 size:w.heap.size≤w'.heap.size
 xx: ∀b,X b→X' b
 xlt: ∀b,X' b→b<w'.heap.size
 xin: ∀b,X' b→X b∨w.heap.size≤b∨b∈L
 nd:N.Nodup
 nin: ∀b,b∈N→(w.heap.size≤b∨b∈L)∧b<w'.heap.size∧ ¬X' b
 block: ∀b,b<w.heap.size→b∉L→w'.heap[b]? =w.heap[b]?
structure Qmi(P:Program)(g:Y4)(e:FnB):Prop where
 enters: ∀args w,(callFunc e.f args).run P w= .ok (.enter e.f args) w
 calls: ∀(w:World) (X:Nat→Prop) (L:List Nat) (xs:Zy7 e.args) (r:Qah e.res×Zst e.args) (vals:List Value),g.G w→(∀b,g.GB b→X b)→(∀b,X b→b<w.heap.size)→(∀b,b∈L→ ¬X b∧b<w.heap.size)→L.Nodup→
  rdA w X e.args xs vals L→e.F xs=some r→
  Calls P e.f vals.toArray w fun en w'=> ∃rs S BL C X',en= .returned (X8 rs)∧Q57 w w' X X' L (S++ (BL++C))∧rdS w' X' e.res r.1 rs S∧rdO w' X' e.args r.2 vals BL C
abbrev Zv7:=List FnB
def Zv7.find(Γ:Zv7)(f:FuncId):Option FnB:=
 match Γ with
 | []=>none
 |e::r=>match Nat.beq e.f f with|true=>some e|false=>Zv7.find r f
def Zv7.ok(Γ:Zv7)(P:Program)(g:Y4):Prop:= ∀e∈Γ,Qmi P g e
theorem Zv7.find_ok{Γ:Zv7}{P:Program}{g:Y4}(h:Γ.ok P g){f:FuncId}{e:FnB}(he:Γ.find f=some e):e.f=f∧Qmi P g e:=by
 induction Γ with
 |nil=>cases he
 |cons x r ih=>
  simp only[Zv7.find]at he
  split at he
  ·rename_i hb
   simp only[Option.some.injEq]at he
   subst he
   exact⟨Nat.eq_of_beq_eq_true hb,h _ (by simp)⟩
  ·exact ih (fun e he=>h e (by simp[he])) he
def Qgn:Fl→Fl→Ty→Bool
 | .u true,f,T=>Vq T f (.u true)
 | .u false,f,T=>Zmf f T
 | .p a b,f,.pair A B=>Qgn a (Ztr f 0) A&&Qgn b f.snd B
 |o,f,T=>Vq T f o
def Qwx:Op1→Option Nat
 | .tm k (.box _ _ _ _)=>some k
 | .tm _ (.ptr r [])=>some r
 |_=>none
def Z84(s:St)(o:Op1)(T:Ty):Option T.den:=
 match o with
 | .cst v=>Z3n T v
 |o=>match Zs5 s o with
  |some ⟨U,f,x⟩=>match Zmf f U with
   |true=>Kq T U x
   |false=>none
  |none=>none
def Q5i:List AK→List Operand→Option (Ty×Operand)
 | .mv t::_,x::_=>some (t,x)
 |_::as,_::xs=>Q5i as xs
 |_,_=>none
def Quj(s:St)(as:List AK)(xs:List Operand):Option (Option TV×St):=
 match Q5i as xs with
 |none=>some (none,s)
 |some (t,x)=>match Zr4 s (op1 s [] x) t with
  |some u=>match Vq u.T u.f (.u true)with
   |true=>some (some ⟨u.T,u.x⟩,u.s)
   |false=>none
  |none=>none
def Zuh(s:St):Option TV→(as:List AK)→List Operand→Option (Zy7 as×List Nat)
 |_,[],[]=>some ((),[])
 |m,.sh t::as,x::xs=>match Z84 s (op1 s [] x) t,Zuh s m as xs with
  |some u,some (us,rs)=>some ((u,us),rs)
  |_,_=>none
 |m,.bx e t o::as,x::xs=>match Qwx (op1 s [] x)with
  |some q=>match s.get (.m q)with
   | .box e' U f y=>match Nat.beq e' e&&Qgn o f U,Kq t U y,Zuh s m as xs with
    |true,some u,some (us,rs)=>some ((u,us),q::rs)
    |_,_,_=>none
   |_=>none
  |none=>none
 |some z,.mv t::as,_::xs=>match Kq t z.1 z.2,Zuh s none as xs with
  |some u,some (us,rs)=>some ((u,us),rs)
  |_,_=>none
 |_,_,_=>none
def Qgl:List Nat→Bool
 | []=>true
 |x::xs=> !(xs.any (Nat.beq x))&&Qgl xs
def Zj3:List AK→List Operand→St→St
 | .sh t::as,x::xs,s=>match t.flat with
  |true=>Zj3 as xs s
  |false=>match Z85 s (op1 s [] x)with
   |some q=>match s.get (.m q)with
    | .val U f y=>match Zmf f U,f.live with
     |false,true=>Zj3 as xs (Zuo s q (.val U (.u false) y))
     |_,_=>Zj3 as xs s
    |_=>Zj3 as xs s
   |none=>Zj3 as xs s
 | .bx _ _ _::as,_::xs,s=>Zj3 as xs s
 | .mv _::as,_::xs,s=>Zj3 as xs s
 |_,_,s=>s
def Zmg:List Nat→St→St
 | [],s=>s
 |q::rs,s=>match s.get (.m q)with
  | .box e T _ y=>Zmg rs (Ka s q (.box e T .d y))
  |_=>Zmg rs s
def Qpx: (as:List AK)→Zst as→List Nat→St→St
 | [],_,_,s=>s
 | .sh _::r,x,rs,s=>Qpx r x rs s
 | .bx e T o::r,x,q::rs,s=>Qpx r x.2 rs (Ka s q (.box e T o x.1))
 | .bx _ _ _::_,_,[],s=>s
 | .mv _::r,x,rs,s=>Qpx r x rs s
def Qac(d:Nat): (ts:List Ty)→Kb ts→Nat→List (Key×Tm)→List (Key×Tm)
 | [],_,_,r=>r
 |t::ts,x,i,r=>Qac d ts x.2 (i+1) ((.c d i,.val t (.u false) x.1)::r)
def Q6n(d:Nat)(s:St): (ts:List Ty)→Kb ts→St
 | [t],r=>Yo s d (.val t (.u false) r.1)
 | [],r=>{env:=Qac d [] r 0 (Yo s d .tup).env,dirty:=(Yo s d .tup).dirty,lent:=s.lent}
 |t::u::ts,r=>{env:=Qac d (t::u::ts) r 0 (Yo s d .tup).env,dirty:=(Yo s d .tup).dirty,lent:=s.lent}
def Qm4(d:Nat): (ts:List (Ty×Fl))→Zy8 ts→Nat→List (Key×Tm)→List (Key×Tm)
 | [],_,_,r=>r
 |t::ts,x,i,r=>Qm4 d ts x.2 (i+1) ((.c d i,.val t.1 t.2 x.1)::r)
def Q9d(d:Nat)(s:St): (ts:List (Ty×Fl))→Zy8 ts→St
 | [t],r=>Yo s d (.val t.1 t.2 r.1)
 | [],r=>{env:=Qm4 d [] r 0 (Yo s d .tup).env,dirty:=(Yo s d .tup).dirty,lent:=s.lent}
 |t::u::ts,r=>{env:=Qm4 d (t::u::ts) r 0 (Yo s d .tup).env,dirty:=(Yo s d .tup).dirty,lent:=s.lent}
def Q9e(d:Nat)(s:St): (r:RS)→Qah r→St
 | .vals ts,x=>Z83 d s ts x
 | .newb e T,x=>Yo s d (.box e T (.u false) x)
 | .shr ts,x=>Q6n d s ts x
 | .flg ts,x=>Q9d d s ts x
noncomputable def Qmw{ρ:Type}(Γ:Zv7)(n:Nat)(s:St)(dst:Option Nat)(f:FuncId)(xs:List Operand)(k:St→Option ρ):Option ρ:=
 match Γ.find f with
 |none=>none
 |some e=>match Quj (Zj3 e.args xs s) e.args xs with
  |none=>none
  |some (m,s2)=>match Zuh s2 m e.args xs with
   |none=>none
   |some (us,rs)=>match Qgl rs with
    |false=>none
    |true=>match dst with
     |none=>(e.F us).bind fun z=>k (Qpx e.args z.2 rs (Zmg rs s2))
     |some d=>match J1 (Zmg rs s2) d&&Nat.blt d n&& !(rs.any (Nat.beq d))with
      |false=>none
      |true=>(e.F us).bind fun z=>k (Q9e d (Qpx e.args z.2 rs (Zmg rs s2)) e.res z.1)
section
variable {P:Program} {g:Y4} {W0:Zct g} {w w':World} {X X':Nat→Prop} {B B' n:Nat} {own:Bool} {s:St} {F:Key→List Nat} {a:Act} {H H':List Nat} {o:Oper} {tg:Xm} {τ:Tab}
theorem Z3m{x:Nat}{l:List Nat}(h: (l.any (Nat.beq x))=false):x∉l:=fun hx=>by
 have:l.any (Nat.beq x)=true:=List.any_eq_true.2 ⟨x,hx,Nat.beq_refl x⟩
 rw[h]at this;cases this
theorem Qi7: ∀{l:List Nat},Qgl l=true→l.Nodup
 | [],_=>List.nodup_nil
 |x::xs,h=>by
  simp only[Qgl,Bool.and_eq_true,Bool.not_eq_true']at h
  exact List.nodup_cons.2 ⟨Z3m h.1,Qi7 h.2⟩
theorem Je: ∀{T:Ty} {x:T.den} {vs:List Value} {S:List Nat},rd w X B own T x vs S→(∀b,b∈S→B'≤b)→rd w X B' own T x vs S
 | .unit,_,_,_,h,_| .int _,_,_,_,h,_| .bool,_,_,_,h,_| .fnc _,_,_,_,h,_| .str,_,_,_,h,_=>h
 | .slice _ _,_,_,_,⟨v,xs,S1,S2,e,e2,h1,h2⟩,hS=>by
  refine⟨v,xs,S1,S2,e,e2,?_,Kt h2 fun _ _ _ _ hT h=>Je h fun b hb=>hS b (by rw[e2];simp[hT b hb])⟩
  cases own
  ·exact h1
  ·obtain⟨h3,h4⟩:=h1
   refine⟨⟨h3.1,h3.2.imp id fun⟨b,cap,cur,h5,h6,h7⟩=>⟨b,cap,cur,h5,hS b ?_,h7⟩⟩,h4⟩
   rw[e2,h4,h5];simp[Value.ownBlock]
 | .pair a b,_,_,_,⟨v1,v2,S1,S2,e,e2,h1,h2⟩,hS=>
  ⟨v1,v2,S1,S2,e,e2,Je h1 fun b hb=>hS b (by rw[e2];simp[hb]),Je h2 fun b hb=>hS b (by rw[e2];simp[hb])⟩
 | .arr n t,_,_,_,⟨h,h'⟩,hS=>⟨h,Kt h' fun _ _ _ _ hT h=>Je h fun b hb=>hS b (hT b hb)⟩
 | .err,_,_,_,h,_=>h
 | .hid _,_,_,_,⟨e,y,h⟩,hS=>⟨e,y,Je h hS⟩
 | .sptr ..,_,_,_,⟨e,o,b,c,h1,h2,h3,h4⟩,_=>⟨e,o,b,c,h1,h2,h3,Je h4 (by simp)⟩
 | .clo ..,_,_,_,⟨e,cs,h1,h2⟩,_=>⟨e,cs,h1,Je h2 (by simp)⟩
theorem Qc8: ∀{ts:List Ty} {x:Kb ts} {vs:List Value} {S:List Nat},Zdq w B ts x vs S→(∀b,b∈S→B'≤b)→Zdq w B' ts x vs S
 | [],_,_,_,h,_=>h
 |t::ts,x,vs,S,⟨cs,us,S1,S2,h1,h2,h3,h4⟩,hS=>
  ⟨cs,us,S1,S2,h1,h2,Je h3 fun b hb=>hS b (by rw[h2];simp[hb]),Qc8 h4 fun b hb=>hS b (by rw[h2];simp[hb])⟩
theorem Q2w{e:TypeId}{sz n:Nat}{v:Value}{xs:List Value}{S:List Nat}(hB:B'≤B)(hX: ∀b,X b→X' b)(h:hdr w X B own e sz n v xs S):hdr w X' B' own e sz n v xs S:=by
 cases own
 ·obtain⟨g1,g2,a,cap,g3,g4,g5,g6⟩:=h
  exact⟨g1,g2,a,cap,g3,g4,g5,g6.imp id fun⟨ad,k1,k2,k3⟩=>⟨ad,k1,k2.imp id (hX _),k3⟩⟩
 ·obtain⟨h3,h4⟩:=h
  exact⟨⟨h3.1,h3.2.imp id fun⟨b,cap,cur,h5,h6,h7⟩=>⟨b,cap,cur,h5,Nat.le_trans hB h6,h7⟩⟩,h4⟩
theorem Qx6{e:TypeId}{sz n:Nat}{v:Value}{xs:List Value}{S:List Nat}(h1:hdr w X B own e sz n v xs S)(hS: ∀b,b∈S→B'≤b):hdr w X B' own e sz n v xs S:=by
 cases own
 ·exact h1
 ·obtain⟨h3,h4⟩:=h1
  refine⟨⟨h3.1,h3.2.imp id fun⟨b,cap,cur,h5,h6,h7⟩=>⟨b,cap,cur,h5,hS b ?_,h7⟩⟩,h4⟩
  rw[h4,h5];simp[Value.ownBlock]
theorem Zug(hB:B'≤B)(hX: ∀b,X b→X' b): ∀{T:Ty} {f:Fl} {x:T.den} {vs:List Value} {S:List Nat},rdF w X B T f x vs S→rdF w X' B' T f x vs S
 |T,.d,_,_,_,h=>by unfold rdF at*;exact h
 |T,.u b,_,_,_,h=>by unfold rdF at*;exact Zbu hB hX h
 | .pair a b,.p f g,_,_,_,⟨v1,v2,S1,S2,e,e2,h1,h2⟩=>⟨v1,v2,S1,S2,e,e2,Zug hB hX h1,Zug hB hX h2⟩
 | .slice e t,.p f g,_,_,_,h=>by
  obtain⟨rfl,rfl,v,xs,e1,h1,h2⟩:=Zfd h
  exact⟨v,xs,e1,Q2w hB hX h1,Kt h2 fun _ _ _ _ _ h=>Zbu hB hX h⟩
 | .unit,.p ..,_,_,_,h| .int _,.p ..,_,_,_,h| .bool,.p ..,_,_,_,h| .fnc _,.p ..,_,_,_,h| .str,.p ..,_,_,_,h| .err,.p ..,_,_,_,h| .hid _,.p ..,_,_,_,h| .sptr ..,.p ..,_,_,_,h| .clo ..,.p ..,_,_,_,h| .arr ..,.p ..,_,_,_,h=>by simp[rdF]at h
theorem Zyh: ∀{T:Ty} {f:Fl} {x:T.den} {vs:List Value} {S:List Nat},rdF w X B T f x vs S→(∀b,b∈S→B'≤b)→rdF w X B' T f x vs S
 |T,.d,_,_,_,h,_=>by unfold rdF at*;exact h
 |T,.u b,_,_,_,h,hS=>by unfold rdF at*;exact Je h hS
 | .pair a b,.p f g,_,_,_,⟨v1,v2,S1,S2,e,e2,h1,h2⟩,hS=>⟨v1,v2,S1,S2,e,e2,Zyh h1 fun b hb=>hS b (by rw[e2];simp[hb]),Zyh h2 fun b hb=>hS b (by rw[e2];simp[hb])⟩
 | .slice e t,.p f g,_,_,_,h,hS=>by
  obtain⟨rfl,rfl,v,xs,e1,h1,h2⟩:=Zfd h
  exact⟨v,xs,e1,Qx6 h1 hS,Kt h2 fun _ _ _ _ hT h=>Je h fun b hb=>absurd (hT b hb) (by simp)⟩
 | .unit,.p ..,_,_,_,h,_| .int _,.p ..,_,_,_,h,_| .bool,.p ..,_,_,_,h,_| .fnc _,.p ..,_,_,_,h,_| .str,.p ..,_,_,_,h,_| .err,.p ..,_,_,_,h,_| .hid _,.p ..,_,_,_,h,_| .sptr ..,.p ..,_,_,_,h,_| .clo ..,.p ..,_,_,_,h,_| .arr ..,.p ..,_,_,_,h,_=>by simp[rdF]at h
theorem Zu5: ∀{o f:Fl} {T:Ty} {x:T.den} {vs:List Value} {S:List Nat},Qgn o f T=true→rdF w X B T f x vs S→rdF w X B T o x vs S
 | .u true,f,T,x,vs,S,h,hr=>by unfold Qgn at h;exact Zf7 h hr
 | .u false,f,T,x,vs,S,h,hr=>by
  unfold Qgn at h
  have e:=Zgu h hr
  subst e
  have: ∀{f:Fl} {T:Ty},Zmf f T=true→f.live=true:=by
   intro f
   induction f with
   |u b=>intro T _;rfl
   |d=>intro T h;simp[Zmf]at h
   |p f1 f2 ih1 ih2=>
    intro T h
    cases T<;>simp[Zmf]at h
    simp[Fl.live,ih1 h.1,ih2 h.2]
  unfold rdF
  exact Y5 (fun _ h=>h) (this h) hr (by simp)
 | .p a b,f,.pair A B',x,vs,S,h,hr=>by
  unfold Qgn at h
  simp only[Bool.and_eq_true]at h
  obtain⟨v1,v2,S1,S2,e,e2,h1,h2⟩:=Zpi hr
  exact⟨v1,v2,S1,S2,e,e2,Zu5 h.1 h1,Zu5 h.2 h2⟩
 | .p a b,f,.slice ..,x,vs,S,h,hr| .p a b,f,.unit,x,vs,S,h,hr| .p a b,f,.int _,x,vs,S,h,hr| .p a b,f,.bool,x,vs,S,h,hr| .p a b,f,.str,x,vs,S,h,hr| .p a b,f,.arr ..,x,vs,S,h,hr| .p a b,f,.fnc _,x,vs,S,h,hr| .p a b,f,.err,x,vs,S,h,hr| .p a b,f,.hid _,x,vs,S,h,hr| .p a b,f,.sptr ..,x,vs,S,h,hr| .p a b,f,.clo ..,x,vs,S,h,hr=>by unfold Qgn at h;exact Zf7 h hr
 | .d,f,T,x,vs,S,h,hr=>by unfold Qgn at h;exact Zf7 h hr
theorem Zyj(h:R n W0 w X F H s a){x:Operand}{T:Ty}{y:T.den}(hr:Z84 s (op1 s [] x) T=some y):
  ∃vs,a.eval x=Xz T vs∧rd w X 0 false T y vs []:=by
 unfold Z84 at hr
 split at hr
 ·rename_i v hv
  cases x<;>simp only[op1]at hv<;>cases hv
  obtain⟨vs,h1,h2⟩:=Ztw (w:=w) (X:=X) (B:=0) (own:=false) hr
  exact⟨vs,h1,h2⟩
 ·split at hr
  ·rename_i U f y' hl
   obtain⟨hf,vs,S,h1,h2,h3⟩:=Zdo h (tg:=[]) (fun p hp=>by cases hp) hl
   split at hr
   ·rename_i hn
    cases Zap hr
    have e:=Zgu hn h2
    subst e
    exact⟨vs,h1,Zbu (Nat.zero_le _) (fun _ h=>h) (Y5 (fun _ h=>h) hf h2 (by simp))⟩
   ·cases hr
  ·cases hr
def Qyf(F:Key→List Nat)(s:St):List AK→List Nat→List Value→Prop
 | [],rs,vs=>rs=[]∧vs=[]
 | .sh _::as,rs,vs=> ∃v us,vs=v::us∧Qyf F s as rs us
 | .bx e T _::as,rs,vs=> ∃q rs' b S us f y,rs=q::rs'∧vs= .pointer (some ⟨b,0,none⟩)::us∧F (.m q)=b::S∧s.get (.m q)= .box e T f y∧Qyf F s as rs' us
 | .mv _::as,rs,vs=> ∃v us,vs=v::us∧Qyf F s as rs us
theorem Z17(h:R n W0 w X F H s a){x:Operand}{q:Nat}(hq:Qwx (op1 s [] x)=some q){e:TypeId}{T:Ty}{f:Fl}{y:T.den}(hg:s.get (.m q)= .box e T f y):a.eval x=Qi a (.m q):=by
 unfold Qwx at hq
 split at hq
 ·rename_i k e' T' f' y' hx
  simp only[Option.some.injEq]at hq
  subst hq
  obtain⟨rfl,_⟩:=Kr h (tg:=[]) (fun p hp=>by cases hp) hx (by simp)
  rfl
 ·rename_i k r hx
  simp only[Option.some.injEq]at hq
  subst hq
  obtain⟨rfl,_,e',T',f',y',b,S,h1,h2,h3⟩:=Kr h (tg:=[]) (fun p hp=>by cases hp) hx (by simp)
  have hs:=h.slots (.m r)
  rw[hg]at hs
  obtain⟨b',c,S',k1,k2,_⟩:=hs
  rw[h2]at k2
  obtain⟨rfl,_⟩:=List.cons.inj k2
  have h3:Qi a (.m k)=_:=h3
  show Qi a (.m k)=_
  rw[h3,k1]
  have:Zaa T' []=0:=by cases T'<;>rfl
  rw[this]
 ·cases hq
theorem Zvm{M:List Nat}(h:R n W0 w X F (M++H) s a): ∀{m:Option TV} {as:List AK} {xs:List Operand} {us:Zy7 as} {rs:List Nat},(∀z t x,m=some z→Q5i as xs=some (t,x)→ ∃vs,a.eval x=Xz z.1 vs∧rd w X 0 true z.1 z.2 vs M∧t=z.1)→Zuh s m as xs=some (us,rs)→Qgl rs=true→
  ∃L,rdA w X as us (xs.map a.eval) L∧Qyf F s as rs (xs.map a.eval)∧L.Nodup∧(∀b,b∈L→(∃q,q∈rs∧b∈F (.m q))∨(m≠none∧b∈M))
 |m,[],[],us,rs,hm,hr,hn=>by
  simp only[Zuh,Option.some.injEq,Prod.mk.injEq]at hr
  obtain⟨_,rfl⟩:=hr
  exact⟨[],⟨rfl,rfl⟩,⟨rfl,rfl⟩,List.nodup_nil,by simp⟩
 |m,.sh t::as,x::xs,us,rs,hm,hr,hn=>by
  simp only[Zuh]at hr
  split at hr
  ·rename_i u us' rs' hu hus
   simp only[Option.some.injEq,Prod.mk.injEq]at hr
   obtain⟨rfl,rfl⟩:=hr
   obtain⟨cs,h1,h2⟩:=Zyj h hu
   obtain⟨L,k1,k2,k3,k4⟩:=Zvm (as:=as) (xs:=xs) h (fun z t x h1 h2=>hm z t x h1 h2) hus hn
   exact⟨L,⟨cs,_,by simp[h1],h2,k1⟩,⟨_,_,rfl,k2⟩,k3,k4⟩
  ·cases hr
 |m,.bx e t o::as,x::xs,us,rs,hm,hr,hn=>by
  simp only[Zuh]at hr
  split at hr
  ·rename_i q hq
   split at hr
   ·rename_i e' U f y hg
    split at hr
    ·rename_i u us' rs' hok hu hus
     simp only[Option.some.injEq,Prod.mk.injEq]at hr
     obtain⟨rfl,rfl⟩:=hr
     simp only[Bool.and_eq_true]at hok
     have he:=Nat.eq_of_beq_eq_true hok.1
     subst he
     cases Zap hu
     simp only[Qgl,Bool.and_eq_true,Bool.not_eq_true']at hn
     obtain⟨L,k1,k2,k3,k4⟩:=Zvm (as:=as) (xs:=xs) h (fun z t x h1 h2=>hm z t x h1 h2) hus hn.2
     have hev:=Z17 h hq hg
     have hs:=h.slots (.m q)
     rw[hg]at hs
     obtain⟨b,c,S,g1,g2,g3,g4⟩:=hs
     have hqn:q∉rs':=Z3m hn.1
     refine⟨b:: (S++L),⟨b,c,S,_,L,by simp[hev,g1],rfl,g3,?_,k1⟩,⟨q,rs',b,S,_,f,_,rfl,by simp[hev,g1],g2,hg,k2⟩,?_,?_⟩
     ·exact Zug (Nat.zero_le _) (fun _ h=>h) (Zu5 hok.2 g4)
     ·have hnd:=h.nodup (.m q)
      rw[g2]at hnd
      have: (b::S++L).Nodup:=List.nodup_append.2 ⟨hnd,k3,fun x hx y hy e=>by
       subst e
       rcases k4 x hy with⟨q',hq',hb'⟩| ⟨_,hM⟩
       ·have:=h.disj (.m q) (.m q') x (by rw[g2];exact hx) hb'
        simp only[Key.m.injEq]at this
        subst this
        exact hqn hq'
       ·exact h.hdisj (.m q) x (by rw[g2];exact hx) (by simp[hM])⟩
      simpa using this
     ·intro b' hb
      have hb:b'∈b::S∨b'∈L:=by simpa[or_assoc]using hb
      rcases hb with hb|hb
      ·exact .inl ⟨q,by simp,by rw[g2];exact hb⟩
      ·exact(k4 b' hb).imp (fun⟨q',hq',hb'⟩=>⟨q',by simp[hq'],hb'⟩) id
    ·cases hr
   ·cases hr
  ·cases hr
 |some z,.mv t::as,x::xs,us,rs,hm,hr,hn=>by
  simp only[Zuh]at hr
  split at hr
  ·rename_i u us' rs' hu hus
   simp only[Option.some.injEq,Prod.mk.injEq]at hr
   obtain⟨rfl,rfl⟩:=hr
   obtain⟨vs,h1,h2,rfl⟩:=hm z t x rfl rfl
   have hu':=Zap hu
   have hxu:z.2=u:=by cases z;simpa using hu'
   obtain⟨L,k1,k2,k3,k4⟩:=Zvm h (m:=none) (fun _ _ _ hz=>by cases hz) hus hn
   have hM:=(List.nodup_append.1 h.hnodup).1
   have k5: ∀b,b∈L→ ∃q,q∈rs'∧b∈F (.m q):=fun b hb=>(k4 b hb).elim id fun hh=>absurd rfl hh.1
   refine⟨M++L,⟨vs,M,_,L,by simp[h1],rfl,by rw[←hxu];exact h2,k1⟩,⟨_,_,rfl,k2⟩,List.nodup_append.2 ⟨hM,k3,fun y hy y' hy' e=> ?_⟩,fun b hb=> ?_⟩
   ·subst e
    obtain⟨q,_,hq⟩:=k5 y hy'
    exact h.hdisj (.m q) y hq (by simp[hy])
   ·rcases List.mem_append.1 hb with hb|hb
    ·exact .inr ⟨by simp,hb⟩
    ·exact .inl (k5 b hb)
  ·cases hr
 |none,.mv _::_,_,_,_,_,hr,_=>by simp[Zuh]at hr
 |some _,.mv _::_,[],_,_,_,hr,_=>by simp[Zuh]at hr
 |_,[],_::_,_,_,_,hr,_=>by simp[Zuh]at hr
 |_,.sh _::_,[],_,_,_,hr,_|_,.bx .. ::_,[],_,_,_,hr,_=>by simp[Zuh]at hr
theorem R.frz(hs0:g.soft=false)(h:R n W0 w X F H s a){k:Nat}{T:Ty}{f:Fl}{x:T.den}(hg:s.get (.m k)= .val T f x)(hf:f.live=true):
  R n W0 w (fun b=>X b∨b∈F (.m k)) (Qf F (.m k) []) H (Zuo s k (.val T (.u false) x)) a:=by
 have hT:Z5x w w s (Zuo s k (.val T (.u false) x)) F (Qf F (.m k) []) a k (.val T (.u false) x):=Zqr ⟨by rw[Kp];simp,fun p v U hv=>by
  unfold Yn at hv⊢
  rw[hg]at hv
  rw[Kp]
  simpa using hv⟩
 exact
 {size:=h.size
  defers:=h.defers
  below:=h.below
  glob:=h.glob
  gx:=fun b hb=> .inl (h.gx b hb)
  xs:=fun e=>by rw[hs0]at e;cases e
  fix:=h.fix
  xlt:=fun b hb=>hb.elim (h.xlt b) fun hb=>(h.own _ b hb).2.1
  xin:=fun b hb=>hb.elim (h.xin b) fun hb=> .inr (h.own _ b hb).1
  x0:=fun b hb=> .inl (h.x0 b hb)
  own:=fun j b hb=>by
   simp only[Qf]at hb
   split at hb
   ·cases hb
   ·rename_i hj
    obtain⟨h1,h2,h3⟩:=h.own j b hb
    exact⟨h1,h2,fun hx=>hx.elim h3 fun hk=>hj (h.disj j (.m k) b hb hk)⟩
  nodup:=fun j=>by
   simp only[Qf]
   split
   ·simp
   ·exact h.nodup j
  disj:=fun j j' b hb hb'=>by
   simp only[Qf]at hb hb'
   split at hb
   ·cases hb
   ·split at hb'
    ·cases hb'
    ·exact h.disj j j' b hb hb'
  hown:=fun b hb=>let⟨h1,h2,h3⟩:=h.hown b hb;⟨h1,h2,fun hx=>hx.elim h3 fun hk=>h.hdisj _ b hk hb⟩
  hnodup:=h.hnodup
  hdisj:=fun j b hb=>by
   simp only[Qf]at hb
   split at hb
   ·cases hb
   ·exact h.hdisj j b hb
  comps:=fun d i hc=>by
   rw[Kp]at hc⊢
   simp only[reduceCtorEq,if_false]at hc
   obtain⟨h1,h2⟩:=h.comps d i hc
   by_cases e:k=d
   ·subst e;rw[hg]at h1;cases h1
   ·exact⟨by simpa[e]using h1,h2⟩
  slots:=fun j=>by
   by_cases hj:j= .m k
   ·subst hj
    have hs:=h.slots (.m k)
    rw[hg]at hs
    obtain⟨vs,h1,h2⟩:=hs
    rw[Kp]
    simp only[if_true,Qf]
    exact⟨vs,h1,by unfold rdF;exact Y5 (fun b hb=> .inl hb) hf h2 fun b hb=> .inr hb⟩
   ·have e:Qf F (.m k) [] j=F j:=by simp[Qf,hj]
    rw[Kp,e]
    simp only[Ne.symm hj,if_false]
    exact Qmh hT (fun _ h=> .inl h) (fun _ _=>rfl) (fun _ _ _ _=>rfl) (fun _ _=>rfl) (fun e T' f' x' b S hb=>by rw[hg]at hb;cases hb) (h.slots j)}
theorem Zc6(hs0:g.soft=false): ∀{as:List AK} {xs:List Operand} {s:St} {X:Nat→Prop} {F:Key→List Nat},R n W0 w X F H s a→ ∃X' F',R n W0 w X' F' H (Zj3 as xs s) a∧(∀b,X b→X' b)∧ ∀q,s.isBox q→(Zj3 as xs s).isBox q
 | [],_,s,X,F,h=>⟨X,F,h,fun _ h=>h,fun _ h=>h⟩
 | .sh t::as,[],s,X,F,h=>⟨X,F,h,fun _ h=>h,fun _ h=>h⟩
 | .bx _ _ _::as,[],s,X,F,h=>⟨X,F,h,fun _ h=>h,fun _ h=>h⟩
 | .mv _::as,[],s,X,F,h=>⟨X,F,h,fun _ h=>h,fun _ h=>h⟩
 | .mv _::as,_::xs,s,X,F,h=>Zc6 hs0 (as:=as) (xs:=xs) h
 | .bx _ _ _::as,_::xs,s,X,F,h=>Zc6 hs0 (as:=as) (xs:=xs) h
 | .sh t::as,x::xs,s,X,F,h=>by
  simp only[Zj3]
  split
  ·exact Zc6 hs0 h
  ·split
   ·split
    ·rename_i U f y hg
     split
     ·rename_i hl
      obtain⟨X',F',h1,h2,h3⟩:=Zc6 hs0 (as:=as) (xs:=xs) (R.frz hs0 h hg hl)
      refine⟨X',F',h1,fun b hb=>h2 b (.inl hb),fun q hq=>h3 q ?_⟩
      obtain⟨e,T,f',y',hq⟩:=hq
      refine⟨e,T,f',y',?_⟩
      rw[Kp,if_neg]
      ·exact hq
      ·intro e;simp only[Key.m.injEq]at e;subst e;rw[hg]at hq;cases hq
     ·exact Zc6 hs0 h
    ·exact Zc6 hs0 h
   ·exact Zc6 hs0 h
theorem R.xup(hs0:g.soft=false)(h:R n W0 w X F H s a)(hX: ∀b,X b→X' b)(hlt: ∀b,X' b→b<w.heap.size)(hin: ∀b,X' b→W0.X0 b∨W0.mine b)(hF: ∀k b,b∈F k→ ¬X' b)(hH: ∀b,b∈H→ ¬X' b):R n W0 w X' F H s a:=
 {h with
  gx:=fun b hb=>hX b (h.gx b hb)
  xs:=fun e=>by rw[hs0]at e;cases e
  xlt:=hlt
  xin:=hin
  x0:=fun b hb=>hX b (h.x0 b hb)
  own:=fun k b hb=>let⟨h1,h2,_⟩:=h.own k b hb;⟨h1,h2,hF k b hb⟩
  hown:=fun b hb=>let⟨h1,h2,_⟩:=h.hown b hb;⟨h1,h2,hH b hb⟩
  slots:=fun k=>Zh3 hX (fun _ _=>rfl) (fun _ _ _=>rfl) (fun _ _=>rfl) (h.slots k)}
def Qx1(s:St)(k:Nat)(e:TypeId)(T:Ty)(x:T.den):St:=Ka (Ka s k (.box e T .d x)) k (.box e T (.u false) x)
theorem R.frzX(hs0:g.soft=false)(h:R n W0 w X F H s a){k:Nat}{e:TypeId}{T:Ty}{f:Fl}{x:T.den}(hg:s.get (.m k)= .box e T f x)(hf:f.live=true):
  ∃X' F',R n W0 w X' F' H (Qx1 s k e T x) a∧ ∀b,X b→X' b:=by
 have hs:=h.slots (.m k)
 rw[hg]at hs
 obtain⟨b,c,S,g1,g2,g3,g4⟩:=hs
 have hnF:=h.nodup (.m k)
 rw[g2]at hnF
 have hd: ∀b'∈b::S,b'∉H:=fun b' hb'=>h.hdisj (.m k) b' (by rw[g2];exact hb')
 have hmem: ∀b'∈S,b'∈F (.m k):=fun b' hb'=>by rw[g2];simp[hb']
 have h2:R n W0 w X (Qf F (.m k) [b]) (S++H) (Ka s k (.box e T .d x)) a:=by
  refine h.turn (S':=[b]) (H':=S++H) h.below (Nat.le_refl _) (fun _ _=>rfl) (fun _ _ _ _=>rfl) ?_ ?_ (by rw[hg];simp) ?_ ?_
  ·intro b' hb';rw[g2];simpa using hb'
  ·refine List.nodup_append.2 ⟨by simp,List.nodup_append.2 ⟨(List.nodup_cons.1 hnF).2,h.hnodup,fun x hx y hy e=>hd x (by simp[hx]) (by rw[e];exact hy)⟩,fun x hx y hy e=> ?_⟩
   simp only[List.mem_singleton]at hx
   subst hx;subst e
   rcases List.mem_append.1 hy with hy|hy
   ·exact(List.nodup_cons.1 hnF).1 hy
   ·exact hd x (by simp) hy
  ·intro e' T' f' x' b2 S2 hb hF
   rw[hg]at hb
   cases hb
   rw[g2]at hF
   obtain⟨rfl,_⟩:=List.cons.inj hF
   exact⟨.d,_,[],rfl,rfl⟩
  ·exact⟨b,c,[],g1,rfl,g3,by unfold rdF;exact⟨Yp g4,Zia g4,rfl⟩⟩
 have h3:R n W0 w (fun b'=>X b'∨b'∈S) (Qf F (.m k) [b]) H (Ka s k (.box e T .d x)) a:=by
  refine R.xup hs0 h2.drop (fun _ h=> .inl h) (fun b' hb'=>hb'.elim (h.xlt b') fun hb'=>(h.own _ b' (hmem b' hb')).2.1) (fun b' hb'=>hb'.elim (h.xin b') fun hb'=> .inr (h.own _ b' (hmem b' hb')).1) (fun k' b' hb' hx=> ?_) (fun b' hb' hx=> ?_)
  ·simp only[Qf]at hb'
   split at hb'
   ·simp only[List.mem_singleton]at hb'
    subst hb'
    rcases hx with hx|hx
    ·exact(h.own (.m k) b' (by rw[g2];simp)).2.2 hx
    ·exact(List.nodup_cons.1 hnF).1 hx
   ·rename_i hk
    rcases hx with hx|hx
    ·exact(h.own k' b' hb').2.2 hx
    ·exact hk (h.disj _ _ b' hb' (hmem b' hx))
  ·rcases hx with hx|hx
   ·exact(h.hown b' hb').2.2 hx
   ·exact hd b' (by simp[hx]) hb'
 refine⟨fun b'=>X b'∨b'∈S,Qf (Qf F (.m k) [b]) (.m k) [b],?_,fun _ h=> .inl h⟩
 have hF:Qf F (.m k) [b] (.m k)=[b]:=by simp[Qf]
 refine h3.turn (S':=[b]) (H':=H) h3.below (Nat.le_refl _) (fun _ _=>rfl) (fun _ _ _ _=>rfl) ?_ ?_ (by rw[Ym];simp) ?_ ?_
 ·intro b' hb';rw[hF];exact hb'
 ·exact List.nodup_append.2 ⟨by simp,h.hnodup,fun x hx y hy e=>by
   simp only[List.mem_singleton]at hx
   subst hx;subst e
   exact hd x (by simp) hy⟩
 ·intro e' T' f' x' b2 S2 hb hF2
  rw[Ym]at hb
  simp only[if_true]at hb
  cases hb
  rw[hF]at hF2
  obtain⟨rfl,_⟩:=List.cons.inj hF2
  exact⟨.u false,_,[],rfl,rfl⟩
 ·exact⟨b,c,[],g1,rfl,g3,by unfold rdF;exact Y5 (fun _ h=> .inl h) hf g4 fun _ h=> .inr h⟩
def Q4v(s:St)(k:Nat):St:=match s.get (.m k)with
 | .val U f y=>match f.live with
  |true=>Zuo s k (.val U (.u false) y)
  |false=>s
 | .box e T f x=>match f.live with
  |true=>Qx1 s k e T x
  |false=>s
 |_=>s
def Q85:List Nat→St→St
 | [],s=>s
 |k::r,s=>Q85 r (Q4v s k)
theorem Qor(hs0:g.soft=false)(h:R n W0 w X F H s a)(k:Nat): ∃X' F',R n W0 w X' F' H (Q4v s k) a:=by
 unfold Q4v
 split
 ·rename_i U f y hg
  split
  ·rename_i hf;exact⟨_,_,R.frz hs0 h hg hf⟩
  ·exact⟨X,F,h⟩
 ·rename_i e T f x hg
  split
  ·rename_i hf;obtain⟨X',F',h',_⟩:=R.frzX hs0 h hg hf;exact⟨X',F',h'⟩
  ·exact⟨X,F,h⟩
 ·exact⟨X,F,h⟩
theorem Qx2(hs0:g.soft=false): ∀{L:List Nat} {s:St} {X:Nat→Prop} {F:Key→List Nat},R n W0 w X F H s a→ ∃X' F',R n W0 w X' F' H (Q85 L s) a
 | [],s,X,F,h=>⟨X,F,h⟩
 |k::r,s,X,F,h=>by
  obtain⟨X1,F1,h1⟩:=Qor hs0 h k
  exact Qx2 hs0 (L:=r) h1
def Z57:Fl→Ty→Fl→Fl
 | .u false,_,f=>match f.live with
  |true=> .u false
  |false=>f
 | .u true,_,f=>f
 | .d,_,f=>f
 | .p a b,.pair A B,f=> .p (Z57 a A (Ztr f 0)) (Z57 b B f.snd)
 | .p _ _,_,f=>f
theorem Qhn: ∀{o:Fl} {T:Ty} {f:Fl} {x:T.den} {vs:List Value} {S:List Nat},S.Nodup→rdF w X B T f x vs S→
  ∃S',S'.Sublist S∧ ∀X':Nat→Prop,(∀b,X b→X' b)→(∀b,b∈S→b∉S'→X' b)→rdF w X' B T (Z57 o T f) x vs S'
 | .u false,T,f,x,vs,S,hn,h=>by
  cases hl:f.live
  ·refine⟨S,List.Sublist.refl _,fun X' hX _=> ?_⟩
   simp only[Z57,hl]
   exact Zug (Nat.le_refl _) hX h
  ·refine⟨[],List.nil_sublist _,fun X' hX hS=> ?_⟩
   simp only[Z57,hl]
   unfold rdF
   exact Y5 hX hl h fun b hb=>hS b hb (by simp)
 | .u true,T,f,x,vs,S,hn,h=>⟨S,List.Sublist.refl _,fun X' hX _=>by unfold Z57;exact Zug (Nat.le_refl _) hX h⟩
 | .d,T,f,x,vs,S,hn,h=>⟨S,List.Sublist.refl _,fun X' hX _=>by unfold Z57;exact Zug (Nat.le_refl _) hX h⟩
 | .p a b,.pair A B',f,x,vs,S,hn,h=>by
  obtain⟨v1,v2,S1,S2,e,e2,h1,h2⟩:=Zpi h
  subst e2
  have hn':=List.nodup_append.1 hn
  obtain⟨T1,k1,l1⟩:=Qhn (o:=a) hn'.1 h1
  obtain⟨T2,k2,l2⟩:=Qhn (o:=b) hn'.2.1 h2
  refine⟨T1++T2,List.Sublist.append k1 k2,fun X' hX hS=> ?_⟩
  refine⟨v1,v2,T1,T2,e,rfl,l1 X' hX fun b hb hb'=>hS b (by simp[hb]) fun hm=> ?_,l2 X' hX fun b hb hb'=>hS b (by simp[hb]) fun hm=> ?_⟩
  ·rcases List.mem_append.1 hm with hm|hm
   ·exact hb' hm
   ·exact hn'.2.2 b hb b (k2.subset hm) rfl
  ·rcases List.mem_append.1 hm with hm|hm
   ·exact hn'.2.2 b (k1.subset hm) b hb rfl
   ·exact hb' hm
 | .p _ _,.slice ..,f,x,vs,S,hn,h| .p _ _,.unit,f,x,vs,S,hn,h| .p _ _,.int _,f,x,vs,S,hn,h| .p _ _,.bool,f,x,vs,S,hn,h| .p _ _,.str,f,x,vs,S,hn,h| .p _ _,.arr ..,f,x,vs,S,hn,h| .p _ _,.fnc _,f,x,vs,S,hn,h| .p _ _,.err,f,x,vs,S,hn,h| .p _ _,.hid _,f,x,vs,S,hn,h| .p _ _,.sptr ..,f,x,vs,S,hn,h| .p _ _,.clo ..,f,x,vs,S,hn,h=>
  ⟨S,List.Sublist.refl _,fun X' hX _=>by unfold Z57;exact Zug (Nat.le_refl _) hX h⟩
theorem R.subH(h:R n W0 w X F H s a)(hs:H'.Sublist H):R n W0 w X F H' s a:=
 {h with
  hown:=fun b hb=>h.hown b (hs.subset hb)
  hnodup:=h.hnodup.sublist hs
  hdisj:=fun k b hb hb'=>h.hdisj k b hb (hs.subset hb')}
def Q4w(s:St)(k:Nat)(o:Fl):St:=match s.get (.m k)with
 | .box e T f x=>Ka (Ka s k (.box e T .d x)) k (.box e T (Z57 o T f) x)
 |_=>s
theorem R.frzP(hs0:g.soft=false)(h:R n W0 w X F H s a)(k:Nat)(o:Fl): ∃X' F',R n W0 w X' F' H (Go.Am.Q4w s k o) a:=by
 unfold Go.Am.Q4w
 split
 ·rename_i e T f x hg
  have hs:=h.slots (.m k)
  rw[hg]at hs
  obtain⟨b,c,S,g1,g2,g3,g4⟩:=hs
  have hnF:=h.nodup (.m k)
  rw[g2]at hnF
  have hd: ∀b'∈b::S,b'∉H:=fun b' hb'=>h.hdisj (.m k) b' (by rw[g2];exact hb')
  have hmem: ∀b'∈S,b'∈F (.m k):=fun b' hb'=>by rw[g2];simp[hb']
  have h2:R n W0 w X (Qf F (.m k) [b]) (S++H) (Ka s k (.box e T .d x)) a:=by
   refine h.turn (S':=[b]) (H':=S++H) h.below (Nat.le_refl _) (fun _ _=>rfl) (fun _ _ _ _=>rfl) ?_ ?_ (by rw[hg];simp) ?_ ?_
   ·intro b' hb';rw[g2];simpa using hb'
   ·refine List.nodup_append.2 ⟨by simp,List.nodup_append.2 ⟨(List.nodup_cons.1 hnF).2,h.hnodup,fun x hx y hy e=>hd x (by simp[hx]) (by rw[e];exact hy)⟩,fun x hx y hy e=> ?_⟩
    simp only[List.mem_singleton]at hx
    subst hx;subst e
    rcases List.mem_append.1 hy with hy|hy
    ·exact(List.nodup_cons.1 hnF).1 hy
    ·exact hd x (by simp) hy
   ·intro e' T' f' x' b2 S2 hb hF
    rw[hg]at hb
    cases hb
    rw[g2]at hF
    obtain⟨rfl,_⟩:=List.cons.inj hF
    exact⟨.d,_,[],rfl,rfl⟩
   ·exact⟨b,c,[],g1,rfl,g3,by unfold rdF;exact⟨Yp g4,Zia g4,rfl⟩⟩
  obtain⟨S',hsub,hr⟩:=Qhn (o:=o) (List.nodup_cons.1 hnF).2 g4
  have h2':R n W0 w X (Qf F (.m k) [b]) (S'++H) (Ka s k (.box e T .d x)) a:=h2.subH (hsub.append_right H)
  have h3:R n W0 w (fun b'=>X b'∨(b'∈S∧b'∉S')) (Qf F (.m k) [b]) (S'++H) (Ka s k (.box e T .d x)) a:=by
   refine R.xup hs0 h2' (fun _ h=> .inl h) (fun b' hb'=>hb'.elim (h.xlt b') fun hb'=>(h.own _ b' (hmem b' hb'.1)).2.1) (fun b' hb'=>hb'.elim (h.xin b') fun hb'=> .inr (h.own _ b' (hmem b' hb'.1)).1) (fun k' b' hb' hx=> ?_) (fun b' hb' hx=> ?_)
   ·simp only[Qf]at hb'
    split at hb'
    ·simp only[List.mem_singleton]at hb'
     subst hb'
     rcases hx with hx|hx
     ·exact(h.own (.m k) b' (by rw[g2];simp)).2.2 hx
     ·exact(List.nodup_cons.1 hnF).1 hx.1
    ·rename_i hk
     rcases hx with hx|hx
     ·exact(h.own k' b' hb').2.2 hx
     ·exact hk (h.disj _ _ b' hb' (hmem b' hx.1))
   ·rcases List.mem_append.1 hb' with hb'|hb'
    ·rcases hx with hx|hx
     ·exact(h.own (.m k) b' (hmem b' (hsub.subset hb'))).2.2 hx
     ·exact hx.2 hb'
    ·rcases hx with hx|hx
     ·exact(h.hown b' hb').2.2 hx
     ·exact hd b' (by simp[hx.1]) hb'
  refine⟨fun b'=>X b'∨(b'∈S∧b'∉S'),Qf (Qf F (.m k) [b]) (.m k) (b::S'),?_⟩
  have hF:Qf F (.m k) [b] (.m k)=[b]:=by simp[Qf]
  refine h3.turn (S':=b::S') (H':=H) h3.below (Nat.le_refl _) (fun _ _=>rfl) (fun _ _ _ _=>rfl) ?_ ?_ (by rw[Ym];simp) ?_ ?_
  ·intro b' hb'
   rw[hF]
   simpa[or_assoc]using hb'
  ·refine List.nodup_append.2 ⟨List.nodup_cons.2 ⟨fun hm=>(List.nodup_cons.1 hnF).1 (hsub.subset hm),(List.nodup_cons.1 hnF).2.sublist hsub⟩,h.hnodup,fun x hx y hy e=> ?_⟩
   subst e
   rcases List.mem_cons.1 hx with rfl|hx
   ·exact hd x (by simp) hy
   ·exact hd x (by simp[hsub.subset hx]) hy
  ·intro e' T' f' x' b2 S2 hb hF2
   rw[Ym]at hb
   simp only[if_true]at hb
   cases hb
   rw[hF]at hF2
   obtain⟨rfl,_⟩:=List.cons.inj hF2
   exact⟨Z57 o T f,_,S',rfl,rfl⟩
  ·exact⟨b,c,S',g1,rfl,g3,hr _ (fun _ h=> .inl h) fun b hb hb'=> .inr ⟨hb,hb'⟩⟩
 ·exact⟨X,F,h⟩
def Q4x(s:St)(k:Nat):Fl→St
 | .u true=>s
 | .u false=>Q4v s k
 |o=>Q4w s k o
theorem Qot(hs0:g.soft=false)(h:R n W0 w X F H s a)(k:Nat)(o:Fl): ∃X' F',R n W0 w X' F' H (Q4x s k o) a:=by
 unfold Q4x
 split
 ·exact⟨X,F,h⟩
 ·exact Qor hs0 h k
 ·exact R.frzP hs0 h k _
def Q2u:List (Nat×Fl)→St→St
 | [],s=>s
 | (k,o)::r,s=>Q2u r (Q4x s k o)
theorem Qiw(hs0:g.soft=false): ∀{L:List (Nat×Fl)} {s:St} {X:Nat→Prop} {F:Key→List Nat},R n W0 w X F H s a→ ∃X' F',R n W0 w X' F' H (Q2u L s) a
 | [],s,X,F,h=>⟨X,F,h⟩
 | (k,o)::r,s,X,F,h=>by
  obtain⟨X1,F1,h1⟩:=Qot hs0 h k o
  exact Qiw hs0 (L:=r) h1
theorem Qig: ∀{rs:List Nat} {s:St} {k:Key},(∀q,q∈rs→k≠ .m q)→(Zmg rs s).get k=s.get k
 | [],s,k,_=>rfl
 |q::rs,s,k,h=>by
  simp only[Zmg]
  split
  ·rw[Qig fun q hq=>h q (by simp[hq]),Ym,if_neg (Ne.symm (h q (by simp)))]
  ·exact Qig fun q hq=>h q (by simp[hq])
theorem Z93: ∀{rs:List Nat} {s:St} {r:Nat},s.foul r=true→(Zmg rs s).foul r=true
 | [],s,r,h=>h
 |q::rs,s,r,h=>by
  simp only[Zmg]
  split
  ·refine Z93 ?_
   rename_i e T f y _
   cases hc: (Ka s q (.box e T .d y)).foul r
   ·have:=(Zxf hc).1;rw[h]at this;cases this
   ·rfl
  ·exact Z93 h
theorem Qqn(s:St)(q:Nat)(t:Tm): (Ka s q t).foul q=true:=by
 cases hc: (Ka s q t).foul q
 ·exact absurd rfl (Zxf hc).2
 ·rfl
theorem R.wreck: ∀{rs:List Nat} {s:St} {F:Key→List Nat},R n W0 w X F H s a→rs.Nodup→(∀q,q∈rs→s.isBox q)→
  ∃F',R n W0 w X F' H (Go.Am.Zmg rs s) a∧(∀k,(∀q,q∈rs→k≠ .m q)→F' k=F k)∧
   ∀q,q∈rs→ ∃e T f y b S,s.get (.m q)= .box e T f y∧F (.m q)=b::S∧(Go.Am.Zmg rs s).get (.m q)= .box e T .d y∧F' (.m q)=[b]∧(Go.Am.Zmg rs s).foul q=true
 | [],s,F,h,_,_=>⟨F,h,fun _ _=>rfl,by simp⟩
 |q::rs,s,F,h,hn,hb=>by
  obtain⟨e,T,f,y,hg⟩:=hb q (by simp)
  have hs:=h.slots (.m q)
  rw[hg]at hs
  obtain⟨b,c,S,g1,g2,g3,g4⟩:=hs
  have hnq:=List.nodup_cons.1 hn
  have h2:R n W0 w X (Qf F (.m q) [b]) H (Ka s q (.box e T .d y)) a:=by
   refine h.turn h.below (Nat.le_refl _) (fun _ _=>rfl) (fun _ _ _ _=>rfl) ?_ ?_ (by rw[hg];simp) ?_ ?_
   ·intro b' hb'
    rw[g2]
    simp only[List.mem_append,List.mem_cons,List.not_mem_nil,or_false]at hb'⊢
    exact hb'.imp .inl id
   ·refine List.nodup_append.2 ⟨by simp,h.hnodup,fun x hx y hy e=> ?_⟩
    simp only[List.mem_singleton]at hx
    subst hx;subst e
    exact h.hdisj (.m q) x (by rw[g2];simp) hy
   ·intro e' T' f' x' b2 S2 hb2 hF2
    rw[hg]at hb2
    cases hb2
    rw[g2]at hF2
    obtain⟨rfl,_⟩:=List.cons.inj hF2
    exact⟨.d,_,[],rfl,rfl⟩
   ·exact⟨b,c,[],g1,rfl,g3,by unfold rdF;exact⟨Yp g4,Zia g4,rfl⟩⟩
  have hget: ∀q',q'∈rs→(Ka s q (.box e T .d y)).get (.m q')=s.get (.m q'):=fun q' hq'=>by
   rw[Ym,if_neg]
   intro e;simp only[Key.m.injEq]at e;subst e;exact hnq.1 hq'
  obtain⟨F',k1,k2,k3⟩:=R.wreck h2 hnq.2 (fun q' hq'=>by
   obtain⟨e',T',f',y',hg'⟩:=hb q' (by simp[hq'])
   exact⟨e',T',f',y',by rw[hget q' hq'];exact hg'⟩)
  have hw:Go.Am.Zmg (q::rs) s=Go.Am.Zmg rs (Ka s q (.box e T .d y)):=by simp only[Go.Am.Zmg,hg]
  have hqk: ∀q',q'∈rs→Key.m q≠ .m q':=fun q' hq' e=>by simp only[Key.m.injEq]at e;subst e;exact hnq.1 hq'
  refine⟨F',by rw[hw];exact k1,fun k hk=> ?_,fun q' hq'=> ?_⟩
  ·rw[k2 k fun q' hq'=>hk q' (by simp[hq'])]
   simp[Qf,hk q (by simp)]
  ·rw[hw]
   rcases List.mem_cons.1 hq' with rfl|hq'
   ·refine⟨e,T,f,y,b,S,hg,g2,?_,?_,Z93 (Qqn _ _ _)⟩
    ·rw[Qig hqk,Ym];simp
    ·rw[k2 _ hqk];simp[Qf]
   ·obtain⟨e',T',f',y',b',S',m1,m2,m3⟩:=k3 q' hq'
    refine⟨e',T',f',y',b',S',by rw[←hget q' hq'];exact m1,?_,m3⟩
    have:Qf F (.m q) [b] (.m q')=F (.m q'):=by simp only[Qf];rw[if_neg (Ne.symm (hqk q' hq'))]
    rw[←this];exact m2
theorem R.worldD{rs:List Nat}(h:R n W0 w X F H s a)(hb:W0.below w')(hs:w.heap.size≤w'.heap.size)(hX: ∀b,X b→w'.heap[b]? =w.heap[b]?)
  (hr: ∀q,q∈rs→s.foul q=true∧ ∃e T y b c,s.get (.m q)= .box e T .d y∧F (.m q)=[b]∧w'.heap[b]? =some (.cells c e (0,0))∧c.toList.length=T.size∧ ∀u∈c.toList,u.oneCell'=true)
  (hF: ∀k,(∀q,q∈rs→k≠ .m q)→ ∀b∈F k,w'.heap[b]? =w.heap[b]?):R n W0 w' X F H s a:=
 {h with
  below:=hb
  glob:=g.stays _ _ h.glob fun b hb=>hX b (h.gx b hb)
  xlt:=fun b hb'=>Nat.lt_of_lt_of_le (h.xlt b hb') hs
  own:=fun k b hb'=>let⟨h1,h2,h3⟩:=h.own k b hb';⟨h1,Nat.lt_of_lt_of_le h2 hs,h3⟩
  hown:=fun b hb'=>let⟨h1,h2,h3⟩:=h.hown b hb';⟨h1,Nat.lt_of_lt_of_le h2 hs,h3⟩
  slots:=fun k=>by
   by_cases hk: ∃q,q∈rs∧k= .m q
   ·obtain⟨q,hq,rfl⟩:=hk
    obtain⟨_,e,T,y,b,c,h1,h2,h3,h4,h5⟩:=hr q hq
    have hv:=h.slots (.m q)
    rw[h1]at hv⊢
    obtain⟨b',c',S',g1,g2,_⟩:=hv
    rw[h2]at g2
    obtain⟨rfl,rfl⟩:=List.cons.inj g2
    exact⟨b,c,[],g1,h2,h3,by unfold rdF;exact⟨h4,h5,rfl⟩⟩
   ·have hk: ∀q,q∈rs→k≠ .m q:=fun q hq e=>hk ⟨q,hq,e⟩
    have hS:=hF k hk
    have vA: ∀{r:Nat} {p:List Nat} {v:Value} {U:Ty},s.foul r=false→Yn w s F a r p v U→Yn w' s F a r p v U:=fun {r p v U} hc hv=>
     Zlo hv (hF (.m r) fun q hq e=>by
      simp only[Key.m.injEq]at e
      subst e
      rw[(hr r hq).1]at hc;cases hc)
    have hu:=h.slots k
    generalize s.get k=u at hu
    generalize Qi a k=v at hu⊢
    generalize F k=S at hu hS⊢
    induction u with
    |junk=>exact hu
    |tup=>exact hu
    |val T f x=>exact Zh3 (s:=s) (F:=fun _=>[]) (a:=a) (v:=v) (t:= .val T f x) (fun _ h=>h) hX (by simp) hS (show vt w X W0.B s (fun _=>[]) a v S (.val T f x)from hu)
    |box e T f x=>exact Zh3 (s:=s) (F:=fun _=>[]) (a:=a) (v:=v) (t:= .box e T f x) (fun _ h=>h) hX (by simp) hS (show vt w X W0.B s (fun _=>[]) a v S (.box e T f x)from hu)
    |shp T x=>exact Zh3 (s:=s) (F:=fun _=>[]) (a:=a) (v:=v) (t:= .shp T x) (fun _ h=>h) hX (by simp) hS (show vt w X W0.B s (fun _=>[]) a v S (.shp T x)from hu)
    |ptr r p=>exact hu
    |aep r p i=>exact hu
    |pls hh l=>exact⟨hu.1,Zqk (fun _ h=>h) hX (fun _ _ _ h=>h) hu.2⟩
    |bor r p=>exact⟨hu.1,fun hc=>let⟨U,h⟩:=hu.2 hc;⟨U,vA hc h⟩⟩
    |elp r p i q=>exact⟨hu.1,fun hc=>let⟨e,t',ad,n,cap,h,h'⟩:=hu.2 hc;⟨e,t',ad,n,cap,vA hc h,h'⟩⟩
    |gd g want u ih=>exact fun hc=>let⟨h0,h1,h2⟩:=hu hc;⟨h0,fun hb=>ih (h1 hb),h2⟩}
def Qwh(F:Key→List Nat)(s:St):List AK→List Nat→List Nat→Prop
 | [],rs,BL=>rs=[]∧BL=[]
 | .sh _::as,rs,BL=>Qwh F s as rs BL
 | .bx e T _::as,rs,BL=> ∃q rs' b BL' y,rs=q::rs'∧BL=b::BL'∧F (.m q)=[b]∧s.get (.m q)= .box e T .d y∧Qwh F s as rs' BL'
 | .mv _::as,rs,BL=>Qwh F s as rs BL
theorem Qcg{t:Tm}{q:Nat}{b:Nat}: ∀{as:List AK} {rs BL:List Nat},q∉rs→Qwh F s as rs BL→ ∀{S:List Nat},Qwh (Qf F (.m q) S) (Ka s q t) as rs BL
 | [],_,_,_,h,_=>h
 | .sh _::as,rs,BL,hq,h,_=>Qcg (b:=b) (as:=as) hq h
 | .mv _::as,rs,BL,hq,h,_=>Qcg (b:=b) (as:=as) hq h
 | .bx e T _::as,rs,BL,hq,⟨q',rs',b',BL',y,h1,h2,h3,h4,h5⟩,S=>by
  subst h1
  have hne:q'≠q:=fun e=>hq (by simp[e])
  exact⟨q',rs',b',BL',y,rfl,h2,by simp[Qf,hne,h3],by rw[Ym,if_neg (by simpa using Ne.symm hne)];exact h4,Qcg (b:=b) (fun hm=>hq (by simp[hm])) h5⟩
theorem Zyf: ∀{as:List AK} {x:Zst as} {vals:List Value} {BL C rs:List Nat} {s:St} {F:Key→List Nat},R n W0 w X F (C++H) s a→rdO w X as x vals BL C→Qwh F s as rs BL→rs.Nodup→(∀b,b∈C→W0.B≤b)→
  ∃F',R n W0 w X F' H (Qpx as x rs s) a
 | [],x,vals,BL,C,rs,s,F,h,⟨_,_,e⟩,_,_,_=>by subst e;exact⟨F,h⟩
 | .sh _::as,x,vals,BL,C,rs,s,F,h,⟨v,us,_,ho⟩,hm,hn,hB=>Zyf (as:=as) h ho hm hn hB
 | .mv _::as,x,vals,BL,C,rs,s,F,h,⟨v,us,_,ho⟩,hm,hn,hB=>Zyf (as:=as) h ho hm hn hB
 | .bx e T o::as,x,vals,BL,C,rs,s,F,h,⟨b,c,S,us,BL',C',h1,h2,h3,h4,h5,h6⟩,⟨q,rs',b2,BL2,y,m1,m2,m3,m4,m5⟩,hn,hB=>by
  subst m1;subst h3
  rw[h2]at m2
  obtain⟨rfl,rfl⟩:=List.cons.inj m2
  have hnq:=List.nodup_cons.1 hn
  have hs:=h.slots (.m q)
  rw[m4]at hs
  obtain⟨b',c',S',g1,g2,g3,_⟩:=hs
  rw[m3]at g2
  obtain⟨rfl,rfl⟩:=List.cons.inj g2
  rw[h4]at g3
  have hnd:=h.hnodup
  rw[List.append_assoc]at hnd
  have hbn:b∉(S++C')++H:=h.hdisj (.m q) b (by rw[m3];simp)
  have h2':R n W0 w X (Qf F (.m q) (b::S)) (C'++H) (Ka s q (.box e T o x.1)) a:=by
   refine h.turn h.below (Nat.le_refl _) (fun _ _=>rfl) (fun _ _ _ _=>rfl) ?_ ?_ (by rw[m4];simp) ?_ ?_
   ·intro b' hb'
    rw[m3]
    simp only[List.mem_append,List.mem_cons,List.not_mem_nil,or_false]at hb'⊢
    grind
   ·have: (b:: (S++ (C'++H))).Nodup:=List.nodup_cons.2 ⟨by simpa using hbn,hnd⟩
    simpa using this
   ·intro e' T' f' x' b2 S2 hb2 hF2
    rw[m4]at hb2
    cases hb2
    rw[m3]at hF2
    obtain⟨rfl,_⟩:=List.cons.inj hF2
    exact⟨o,_,S,rfl,rfl⟩
   ·refine⟨b,c,S,g1,rfl,h4,?_⟩
    exact Zyh h5 fun b' hb'=>hB b' (by simp[hb'])
  show ∃F',R n W0 w X F' H (Qpx as x.2 rs' (Ka s q (.box e T o x.1))) a
  exact Zyf (as:=as) h2' h6 (Qcg (b:=b) hnq.1 m5) hnq.2 fun b' hb'=>hB b' (by simp[hb'])
theorem Zx9: ∀{as:List AK} {rs:List Nat} {vals:List Value} {x:Zst as} {BL C:List Nat},Qyf F s as rs vals→rdO w' X' as x vals BL C→ ∀q,q∈rs→
  ∃e T f y b S c,s.get (.m q)= .box e T f y∧F (.m q)=b::S∧b∈BL∧w'.heap[b]? =some (.cells c e (0,0))∧c.toList.length=T.size∧ ∀u∈c.toList,u.oneCell'=true
 | [],_,_,_,_,_,⟨h,_⟩,_,q,hq=>by subst h;cases hq
 | .sh _::as,rs,vals,x,BL,C,⟨v,us,h1,h2⟩,⟨v',us',k1,k2⟩,q,hq=>by
  rw[h1]at k1
  obtain⟨rfl,rfl⟩:=List.cons.inj k1
  exact Zx9 (as:=as) h2 k2 q hq
 | .mv _::as,rs,vals,x,BL,C,⟨v,us,h1,h2⟩,⟨v',us',k1,k2⟩,q,hq=>by
  rw[h1]at k1
  obtain⟨rfl,rfl⟩:=List.cons.inj k1
  exact Zx9 (as:=as) h2 k2 q hq
 | .bx e T o::as,rs,vals,x,BL,C,⟨q',rs',b,S,us,f,y,h1,h2,h3,h4,h5⟩,⟨b2,c,S2,us2,BL2,C2,k1,k2,k3,k4,k5,k6⟩,q,hq=>by
  rw[h2]at k1
  obtain⟨e1,rfl⟩:=List.cons.inj k1
  simp only[Value.pointer.injEq,Option.some.injEq,Addr.mk.injEq,and_true]at e1
  subst e1
  subst h1
  rcases List.mem_cons.1 hq with rfl|hq
  ·exact⟨e,T,f,y,b,S,c,h4,h3,by rw[k2];simp,k4,Yp k5,Zia k5⟩
  ·obtain⟨e',T',f',y',b',S',c',m1,m2,m3,m4⟩:=Zx9 h5 k6 q hq
   exact⟨e',T',f',y',b',S',c',m1,m2,by rw[k2];simp[m3],m4⟩
theorem Qui{s2:St}{F2:Key→List Nat}: ∀{as:List AK} {rs:List Nat} {vals:List Value} {x:Zst as} {BL C:List Nat},Qyf F s as rs vals→rdO w' X' as x vals BL C→
  (∀q,q∈rs→ ∀e T f y b S,s.get (.m q)= .box e T f y→F (.m q)=b::S→s2.get (.m q)= .box e T .d y∧F2 (.m q)=[b])→Qwh F2 s2 as rs BL
 | [],_,_,_,_,_,⟨h,_⟩,⟨_,h2,_⟩,_=>⟨h,h2⟩
 | .sh _::as,rs,vals,x,BL,C,⟨v,us,h1,h2⟩,⟨v',us',k1,k2⟩,hk=>by
  rw[h1]at k1
  obtain⟨rfl,rfl⟩:=List.cons.inj k1
  exact Qui (as:=as) h2 k2 hk
 | .mv _::as,rs,vals,x,BL,C,⟨v,us,h1,h2⟩,⟨v',us',k1,k2⟩,hk=>by
  rw[h1]at k1
  obtain⟨rfl,rfl⟩:=List.cons.inj k1
  exact Qui (as:=as) h2 k2 hk
 | .bx e T o::as,rs,vals,x,BL,C,⟨q',rs',b,S,us,f,y,h1,h2,h3,h4,h5⟩,⟨b2,c,S2,us2,BL2,C2,k1,k2,k3,k4,k5,k6⟩,hk=>by
  rw[h2]at k1
  obtain⟨e1,rfl⟩:=List.cons.inj k1
  simp only[Value.pointer.injEq,Option.some.injEq,Addr.mk.injEq,and_true]at e1
  subst e1
  subst h1
  obtain⟨m1,m2⟩:=hk q' (by simp) _ _ _ _ _ _ h4 h3
  exact⟨q',rs',b,BL2,y,rfl,k2,m2,m1,Qui h5 k6 fun q hq=>hk q (by simp[hq])⟩
theorem Qcf: ∀{as:List AK} {rs:List Nat} {vals:List Value},Qyf F s as rs vals→ ∀q,q∈rs→s.isBox q
 | [],_,_,⟨h,_⟩,q,hq=>by subst h;cases hq
 | .sh _::as,rs,vals,⟨v,us,h1,h2⟩,q,hq=>Qcf h2 q hq
 | .mv _::as,rs,vals,⟨v,us,h1,h2⟩,q,hq=>Qcf h2 q hq
 | .bx e T o::as,rs,vals,⟨q',rs',b,S,us,f,y,h1,h2,h3,h4,h5⟩,q,hq=>by
  subst h1
  rcases List.mem_cons.1 hq with rfl|hq
  ·exact⟨e,T,f,y,h4⟩
  ·exact Qcf h5 q hq
theorem Q0l{q d:Nat}{t:Tm}(h:J1 s d=true)(hq:q≠d):J1 (Ka s q t) d=true:=by
 unfold J1 at*
 rw[Ym,if_neg (by simpa using hq)]
 exact h
theorem Zxk{d:Nat}: ∀{as:List AK} {x:Zst as} {rs:List Nat} {s:St},J1 s d=true→d∉rs→J1 (Qpx as x rs s) d=true
 | [],_,_,_,h,_=>h
 | .sh _::as,x,rs,s,h,hd=>Zxk (as:=as) h hd
 | .mv _::as,x,rs,s,h,hd=>Zxk (as:=as) h hd
 | .bx e T o::as,x,q::rs,s,h,hd=>Zxk (as:=as) (Q0l h fun e=>hd (by simp[e])) fun hm=>hd (by simp[hm])
 | .bx .. ::_,x,[],s,h,_=>h
theorem Qp0: ∀{ts:List Ty} {x:Kb ts} {rs:List Value},Qws w X ts x rs→rs.length=ts.length
 | [],_,_,h=>by simp only[Qws]at h;simp[h]
 |t::ts,_,_,⟨_,_,e,_,h⟩=>by simp[e,Qp0 h]
theorem R.putTupSh{d:Nat}{vs:List Value}{ts:List Ty}{x:Kb ts}(h:R n W0 w X F H s a)(hd:J1 s d=true)(hn:d<n)(hx:Qws w X ts x vs):
  ∃F',R n W0 w X F' H {env:=Qac d ts x 0 (Yo s d .tup).env,dirty:=(Yo s d .tup).dirty,lent:=s.lent} (a.put (some d) (.tuple vs.toArray)):=by
 have h0:R n W0 w X (Qf F (.m d) []) H (Yo s d .tup) (a.put (some d) (.tuple vs.toArray)):=(by simpa using h:R n W0 w X F ([]++H) s a).put hd hn rfl
 have hval: (a.put (some d) (.tuple vs.toArray)).tmps.getD d undef= .tuple vs.toArray:=Zkw (a:=a) (by rw[h.size];exact hn)
 have hno: ∀i,(Yo s d .tup).get (.c d i)= .junk:=fun i=>by
  rw[Ziy]
  simp only[reduceCtorEq,if_false]
  exact Classical.byContradiction fun hc=>by have:=(h.comps d i hc).1;simp[J1,this]at hd
 suffices hs: ∀(ts:List Ty) (x:Kb ts) (us:List Value) (i:Nat) (F:Key→List Nat) (r:List (Key×Tm)) (pre:List Value),vs=pre++us→pre.length=i→Qws w X ts x us→
   R n W0 w X F H {env:=r,dirty:=(Yo s d .tup).dirty,lent:=s.lent} (a.put (some d) (.tuple vs.toArray))→Zow r (.m d)= .tup→(∀j,i≤j→Zow r (.c d j)= .junk)→
   ∃F',R n W0 w X F' H {env:=Qac d ts x i r,dirty:=(Yo s d .tup).dirty,lent:=s.lent} (a.put (some d) (.tuple vs.toArray)) by
  obtain⟨F',hF'⟩:=hs ts x vs 0 _ (Yo s d .tup).env [] rfl rfl hx h0 (Zq6 _ _ _) (fun j _=>hno j)
  exact⟨F',hF'⟩
 intro ts
 induction ts with
 |nil=>
  intro x us i F r pre _ _ hx hR _ _
  exact⟨F,hR⟩
 |cons t ts ih=>
  intro x us i F r pre hvs hpre hx hR htup hjunk
  obtain⟨cs,us',rfl,hx1,hx2⟩:=hx
  have hcomp:Qi (a.put (some d) (.tuple vs.toArray)) (.c d i)=Xz t cs:=by
   simp only[Qi,hval]
   rw[hvs,←hpre]
   simp[Array.getD_eq_getD_getElem?]
  have hFi:F (.c d i)=[]:=by
   have:=hR.slots (.c d i)
   simp only[St.get,hjunk i (Nat.le_refl _)]at this
   exact this
  have hone:R n W0 w X F H {env:=(.c d i,.val t (.u false) x.1)::r,dirty:=(Yo s d .tup).dirty,lent:=s.lent} (a.put (some d) (.tuple vs.toArray)):=
   {hR with
    comps:=fun d' j hc=>by
     simp only[St.get,Z7]at hc⊢
     simp only[reduceCtorEq,if_false]
     split at hc
     ·rename_i e
      simp only[Key.c.injEq]at e
      obtain⟨rfl,rfl⟩:=e
      refine⟨htup,vs.toArray,hval,?_⟩
      rw[hvs,←hpre];simp
     ·exact hR.comps d' j hc
    slots:=fun k=>by
     by_cases hk:k= .c d i
     ·subst hk
      simp only[St.get,Z7,if_true]
      rw[hFi]
      exact⟨cs,hcomp,by unfold rdF;exact Je hx1 (by simp)⟩
     ·have e1:St.get {env:=(Key.c d i,Tm.val t (.u false) x.1)::r,dirty:=(Yo s d .tup).dirty,lent:=s.lent} k=St.get {env:=r,dirty:=(Yo s d .tup).dirty,lent:=s.lent} k:=by simp[St.get,Z7,Ne.symm hk]
      rw[e1]
      have:=Qmg (s:={env:=r,dirty:=(Yo s d .tup).dirty,lent:=s.lent}) (t:=d) (i:=i) (u:=Tm.val t (.u false) x.1) (S0:=[]) (hR.slots k)
      have e2:Qf F (.c d i) []=F:=by
       funext j;simp only[Qf];split
       ·rename_i e;rw[e,hFi]
       ·rfl
      rw[e2]at this
      exact this}
  obtain⟨F',hF'⟩:=ih x.2 us' (i+1) _ _ (pre++ [Xz t cs]) (by rw[hvs];simp) (by simp[hpre]) hx2 hone (by rw[Z7];simpa using htup) (fun j hj=>by
   rw[Z7,if_neg (by simp;omega)];exact hjunk j (by omega))
  exact⟨F',hF'⟩
theorem R.putSh{d:Nat}{rs:List Value}: ∀{ts:List Ty} {x:Kb ts},R n W0 w X F H s a→J1 s d=true→d<n→Qws w X ts x rs→
  ∃F',R n W0 w X F' H (Go.Am.Q6n d s ts x) (a.put (some d) (X8 rs))
 | [],x,h,hd,hn,hx=>by
  rw[Zod (by rw[Qp0 hx];simp)]
  exact h.putTupSh hd hn hx
 | [t],x,h,hd,hn,hx=>by
  obtain⟨cs,us',rfl,g1,rfl⟩:=hx
  exact⟨_,(by simpa using h:R n W0 w X F ([]++H) s a).put hd hn ⟨cs,rfl,by unfold rdF;exact Je g1 (by simp)⟩⟩
 |t::u::ts,x,h,hd,hn,hx=>by
  rw[Zod (by rw[Qp0 hx];simp)]
  exact h.putTupSh hd hn hx
theorem Qpy: ∀{ts:List (Ty×Fl)} {x:Zy8 ts} {rs:List Value} {S:List Nat},Qus w X B ts x rs S→rs.length=ts.length
 | [],_,_,_,h=>by simp[h.1]
 |t::ts,_,_,_,⟨_,_,_,_,e,_,_,h⟩=>by simp[e,Qpy h]
theorem Qjc: ∀{ts:List (Ty×Fl)} {x:Zy8 ts} {rs:List Value} {S:List Nat},Qus w X B ts x rs S→(∀b,b∈S→B'≤b)→Qus w X B' ts x rs S
 | [],_,_,_,h,_=>h
 |t::ts,_,_,_,⟨cs,us,S1,S2,e,e2,h1,h2⟩,hS=>⟨cs,us,S1,S2,e,e2,Zyh h1 fun b hb=>hS b (by rw[e2];simp[hb]),Qjc h2 fun b hb=>hS b (by rw[e2];simp[hb])⟩
theorem R.putTupF{d:Nat}{vs:List Value}{ts:List (Ty×Fl)}{x:Zy8 ts}{S:List Nat}(h:R n W0 w X F (S++H) s a)(hd:J1 s d=true)(hn:d<n)(hx:Qus w X W0.B ts x vs S):
  ∃F',R n W0 w X F' H {env:=Qm4 d ts x 0 (Yo s d .tup).env,dirty:=(Yo s d .tup).dirty,lent:=s.lent} (a.put (some d) (.tuple vs.toArray)):=by
 have h0:R n W0 w X (Qf F (.m d) []) (S++H) (Yo s d .tup) (a.put (some d) (.tuple vs.toArray)):=(by simpa using h:R n W0 w X F ([]++ (S++H)) s a).put hd hn rfl
 have hval: (a.put (some d) (.tuple vs.toArray)).tmps.getD d undef= .tuple vs.toArray:=Zkw (a:=a) (by rw[h.size];exact hn)
 have hno: ∀i,(Yo s d .tup).get (.c d i)= .junk:=fun i=>by
  rw[Ziy]
  simp only[reduceCtorEq,if_false]
  exact Classical.byContradiction fun hc=>by have:=(h.comps d i hc).1;simp[J1,this]at hd
 
 suffices hs: ∀(ts:List (Ty×Fl)) (x:Zy8 ts) (us:List Value) (i:Nat) (S:List Nat) (F:Key→List Nat) (r:List (Key×Tm)) (pre:List Value),vs=pre++us→pre.length=i→Qus w X W0.B ts x us S→
   R n W0 w X F (S++H) {env:=r,dirty:=(Yo s d .tup).dirty,lent:=s.lent} (a.put (some d) (.tuple vs.toArray))→Zow r (.m d)= .tup→(∀j,i≤j→Zow r (.c d j)= .junk)→
   ∃F',R n W0 w X F' H {env:=Qm4 d ts x i r,dirty:=(Yo s d .tup).dirty,lent:=s.lent} (a.put (some d) (.tuple vs.toArray)) by
  obtain⟨F',hF'⟩:=hs ts x vs 0 S _ (Yo s d .tup).env [] rfl rfl hx h0 (Zq6 _ _ _) (fun j _=>hno j)
  exact⟨F',hF'⟩
 intro ts
 induction ts with
 |nil=>
  intro x us i S F r pre _ _ hx hR _ _
  obtain⟨rfl,rfl⟩:=hx
  exact⟨F,hR⟩
 |cons t ts ih=>
  intro x us i S F r pre hvs hpre hx hR htup hjunk
  obtain⟨cs,us',S1,S2,rfl,rfl,hx1,hx2⟩:=hx
  
  have hcomp:Qi (a.put (some d) (.tuple vs.toArray)) (.c d i)=Xz t.1 cs:=by
   simp only[Qi,hval]
   rw[hvs,←hpre]
   simp[Array.getD_eq_getD_getElem?]
  have hone:R n W0 w X (Qf F (.c d i) S1) (S2++H) {env:=(.c d i,.val t.1 t.2 x.1)::r,dirty:=(Yo s d .tup).dirty,lent:=s.lent} (a.put (some d) (.tuple vs.toArray)):=by
   have hFi:F (.c d i)=[]:=by
    have:=hR.slots (.c d i)
    simp only[St.get,hjunk i (Nat.le_refl _)]at this
    exact this
   have hnd:=hR.hnodup
   rw[List.append_assoc]at hnd
   exact
   {size:=hR.size
    defers:=hR.defers
    below:=hR.below
    glob:=hR.glob
    gx:=hR.gx
    xs:=hR.xs
    fix:=hR.fix
    xlt:=hR.xlt
    xin:=hR.xin
    x0:=hR.x0
    own:=fun k b hb=>by
     simp only[Qf]at hb
     split at hb
     ·exact hR.hown b (by simp[hb])
     ·exact hR.own k b hb
    nodup:=fun k=>by
     simp only[Qf]
     split
     ·exact(List.nodup_append.1 hnd).1
     ·exact hR.nodup k
    disj:=fun k k' b hb hb'=>by
     simp only[Qf]at hb hb'
     split at hb<;>split at hb'
     ·rename_i e1 e2;rw[e1,e2]
     ·exact absurd (by simp[hb]) (hR.hdisj k' b hb')
     ·exact absurd (by simp[hb']) (hR.hdisj k b hb)
     ·exact hR.disj k k' b hb hb'
    hown:=fun b hb=>hR.hown b (by simp only[List.mem_append]at hb⊢;grind)
    hnodup:=(List.nodup_append.1 hnd).2.1
    hdisj:=fun k b hb hh=>by
     simp only[Qf]at hb
     split at hb
     ·exact(List.nodup_append.1 hnd).2.2 b hb b hh rfl
     ·exact hR.hdisj k b hb (by simp only[List.mem_append]at hh⊢;grind)
    comps:=fun d' j hc=>by
     simp only[St.get,Z7]at hc⊢
     simp only[reduceCtorEq,if_false]
     split at hc
     ·rename_i e
      simp only[Key.c.injEq]at e
      obtain⟨rfl,rfl⟩:=e
      refine⟨htup,vs.toArray,hval,?_⟩
      rw[hvs,←hpre];simp
     ·exact hR.comps d' j hc
    slots:=fun k=>by
     by_cases hk:k= .c d i
     ·subst hk
      simp only[St.get,Z7,if_true,Qf]
      exact⟨cs,hcomp,hx1⟩
     ·have e1:St.get {env:=(Key.c d i,Tm.val t.1 t.2 x.1)::r,dirty:=(Yo s d .tup).dirty,lent:=s.lent} k=St.get {env:=r,dirty:=(Yo s d .tup).dirty,lent:=s.lent} k:=by simp[St.get,Z7,Ne.symm hk]
      have e2:Qf F (.c d i) S1 k=F k:=by simp[Qf,hk]
      rw[e1,e2]
      exact Qmg (s:={env:=r,dirty:=(Yo s d .tup).dirty,lent:=s.lent}) (hR.slots k)}
  obtain⟨F',hF'⟩:=ih x.2 us' (i+1) S2 _ _ (pre++ [Xz t.1 cs]) (by rw[hvs];simp) (by simp[hpre]) hx2 hone (by rw[Z7];simpa using htup) (fun j hj=>by
   rw[Z7,if_neg (by simp;omega)];exact hjunk j (by omega))
  exact⟨F',hF'⟩
theorem R.putF{d:Nat}{rs:List Value}: ∀{ts:List (Ty×Fl)} {x:Zy8 ts} {S:List Nat},R n W0 w X F (S++H) s a→J1 s d=true→d<n→Qus w X W0.B ts x rs S→
  ∃F',R n W0 w X F' H (Go.Am.Q9d d s ts x) (a.put (some d) (X8 rs))
 | [],x,S,h,hd,hn,hx=>by
  rw[Zod (by rw[Qpy hx];simp)]
  exact h.putTupF hd hn hx
 | [t],x,S,h,hd,hn,hx=>by
  obtain⟨cs,us',S1,S2,rfl,rfl,g1,rfl,rfl⟩:=hx
  exact⟨_,h.put hd hn ⟨cs,rfl,by simpa using g1⟩⟩
 |t::u::ts,x,S,h,hd,hn,hx=>by
  rw[Zod (by rw[Qpy hx];simp)]
  exact h.putTupF hd hn hx
def Q1q(X:Nat→Prop)(s:St)(a:Act)(rs:List Nat)(w w':World):Prop:=
 ∀b,(X b∨ ∃r,s.isBox r∧r∉rs∧Qi a (.m r)= .pointer (some ⟨b,0,none⟩))→w'.heap[b]? =w.heap[b]?
def Qhr(Γ:Zv7)(s:St)(f:FuncId)(xs:List Operand):List Nat:=
 match Γ.find f with
 |some e=>match Quj (Zj3 e.args xs s) e.args xs with
  |some (m,s2)=>match Zuh s2 m e.args xs with
   |some (_,rs)=>rs
   |none=>[]
  |none=>[]
 |none=>[]
theorem Z0v{ρ:Type}{Γ:Zv7}(hs0:g.soft=false)(hΓ:Γ.ok P g)(h:R n W0 w X F [] s a){f:FuncId}{fo:Operand}(hfo:a.eval fo= .func (.func f) #[] #[]){xs:Array Operand}{ats:Array TypeId}(ho:o.op= .call {callee:= .value fo,args:=xs,argTypes:=ats}){k:St→Option ρ}{r:ρ}(hr:Qmw Γ n s o.dst f xs.toList k=some r)
  {K:Act→World→Prop} {Q:Exit→Act→World→Prop} (hK: ∀v w' X' F' s',k s'=some r→R n W0 w' X' F' [] s' (a.put o.dst v)→(∀b,X b→X' b)→Q1q X s a (Qhr Γ s f xs.toList) w w'→K (a.put o.dst v) w'):o.wp P a w K Q:=by
 have hroots: ∀e m s2 us rs,Γ.find f=some e→Quj (Zj3 e.args xs.toList s) e.args xs.toList=some (m,s2)→Zuh s2 m e.args xs.toList=some (us,rs)→Qhr Γ s f xs.toList=rs:=fun e m s2 us rs h1 h3 h2=>by
  unfold Qhr;rw[h1];simp only;rw[h3];simp only;rw[h2]
 unfold Qmw at hr
 split at hr
 ·cases hr
 ·rename_i e he
  obtain⟨rfl,hok⟩:=Zv7.find_ok hΓ he
  obtain⟨X1,F1,h1,hX1,hbx1⟩:=Zc6 hs0 (as:=e.args) (xs:=xs.toList) h
  have hroots:=fun m s2 us rs=>hroots e m s2 us rs he
  generalize Zj3 e.args xs.toList s=s1 at hr h1 hbx1 hroots
  split at hr
  ·cases hr
  rename_i m s2 hmv
  obtain⟨M,F1,h1,hMB,hmz,hbx1⟩: ∃M F1',R n W0 w X1 F1' (M++ []) s2 a∧(∀b,b∈M→W0.B≤b)∧(∀z t x,m=some z→Q5i e.args xs.toList=some (t,x)→ ∃vs,a.eval x=Xz z.1 vs∧rd w X1 0 true z.1 z.2 vs M∧t=z.1)∧(∀q,s.isBox q→s2.isBox q):=by
   unfold Quj at hmv
   split at hmv
   ·cases hmv
    exact⟨[],F1,h1,by simp,(fun z t x hz=>by cases hz),hbx1⟩
   ·rename_i t x hmo
    split at hmv
    ·rename_i u hu
     split at hmv
     ·rename_i hf
      cases hmv
      obtain⟨hT,F2,S,vs,g1,g2,g3,_,_⟩:=Wz h1 (tg:=[]) (fun p hp=>by cases hp) hu
      have g4:=Zf7 hf g2
      unfold rdF at g4
      refine⟨S,F2,g3,fun b hb=>(Zsj g4 b hb).1,fun z t' x' hz ho=> ?_,fun q hq=>Zov hu (hbx1 q hq)⟩
      cases hz
      rw[hmo]at ho
      cases ho
      exact⟨vs,g1,Je g4 (by simp),hT.symm⟩
     ·cases hmv
    ·cases hmv
  have hroots:=fun us rs=>hroots m s2 us rs hmv
  generalize s2=s1 at hr h1 hbx1 hroots
  split at hr
  ·cases hr
  ·rename_i us rs hrd
   split at hr
   ·cases hr
   ·rename_i hn
    rw[hroots us rs hrd]at hK
    obtain⟨L,a1,a2,a3,a4⟩:=Zvm h1 hmz hrd hn
    have hnd:=Qi7 hn
    have hL: ∀b,b∈L→W0.mine b∧b<w.heap.size∧ ¬X1 b:=fun b hb=>by
     rcases a4 b hb with⟨q,_,hq⟩| ⟨_,hb⟩
     ·exact h1.own _ b hq
     ·exact h1.hown b (by simp[hb])
    
    have call: ∀{z},e.F us=some z→ ∀{K':Act→World→Prop},(∀rv S X' F' w',R n W0 w' X' F' (S++ []) (Qpx e.args z.2 rs (Zmg rs s1)) a→rdS w' X' e.res z.1 rv S→(∀b,b∈S→W0.B≤b)→(∀b,X b→X' b)→Q1q X s a rs w w'→K' (a.put o.dst (X8 rv)) w')→o.wp P a w K' Q:=by
     intro z hz K' hK'
     have hc:=hok.calls w X1 L us z (xs.toList.map a.eval) h1.glob h1.gx h1.xlt (fun b hb=>⟨(hL b hb).2.2,(hL b hb).2.1⟩) a3 a1 hz
     have hrun: (execOp a.eval o).run P w= .ok (.enter e.f (xs.toList.map a.eval).toArray) w:=by
      have:execOp a.eval o=callFunc e.f (xs.map a.eval):=by
       simp only[execOp,ho,resolve,hfo,Deferred.ofValue]
       simp[invoke]
      rw[this,hok.enters]
      congr 2
      apply Array.toList_inj.mp
      simp
     unfold Oper.wp
     rw[hrun,Oper.upon_enter]
     refine hc.mono fun en w' ⟨rv,S,BL,C,X',hen,hA,hS,hO⟩=> ?_
     subst hen
     show K' (a.put o.dst (X8 rv)) w'
     obtain⟨F2,h2,h2a,h2b⟩:=R.wreck h1 hnd (Qcf a2)
     have hfac:=Zx9 a2 hO
     have hbl:W0.below w':=⟨hA.os.trans h1.below.os,hA.tape.trans h1.below.tape,hA.output.trans h1.below.output,Nat.le_trans h1.below.size hA.size,fun b hb=>
      (hA.block b (Nat.lt_of_lt_of_le (W0.yW b hb) h1.below.size) fun hm=>W0.sep hb (hL b hm).1 rfl).trans (h1.below.block b hb)⟩
     have hroot: ∀q,q∈rs→ ∃b,F2 (.m q)=[b]∧b∈BL:=fun q hq=>by
      obtain⟨e1,T1,f1,y1,b1,S1,m1,m2,m3,m4,m5⟩:=h2b q hq
      obtain⟨e2,T2,f2,y2,b2,S2,c2,p1,p2,p3,_⟩:=hfac q hq
      rw[m2]at p2
      obtain⟨rfl,_⟩:=List.cons.inj p2
      exact⟨b1,m4,p3⟩
     have hother: ∀k,(∀q,q∈rs→k≠ .m q)→ ∀b,b∈F2 k→b<w.heap.size∧b∉L∧ ¬X1 b:=fun k hk b hb=>by
      rw[h2a k hk]at hb
      obtain⟨_,g2,g3⟩:=h1.own k b hb
      refine⟨g2,fun hm=> ?_,g3⟩
      rcases a4 b hm with⟨q,hq,hb'⟩| ⟨_,hb'⟩
      ·exact hk q hq (h1.disj _ _ b hb hb')
      ·exact h1.hdisj _ b hb (by simp[hb'])
     have hand: ∀b,b∈S++ (BL++C)→W0.mine b∧b<w'.heap.size∧ ¬X' b:=fun b hb=>by
      obtain⟨g1,g2,g3⟩:=hA.nin b hb
      exact⟨g1.elim (fun g=> .inl (Nat.le_trans h1.below.size g)) fun g=>(hL b g).1,g2,g3⟩
     have hlow: ∀b,b∈S++C→W0.B≤b:=fun b hb=>by
      have hb':b∈S++ (BL++C):=by simp only[List.mem_append]at hb⊢;grind
      rcases(hA.nin b hb').1 with g|g
      ·exact Nat.le_trans h1.below.sizeB g
      ·rcases a4 b g with⟨q,hq,hbq⟩| ⟨_,hbM⟩
       rotate_left
       ·exact hMB b hbM
       obtain⟨e2,T2,f2,y2,b2,S2,c2,p1,p2,p3,_⟩:=hfac q hq
       rw[p2]at hbq
       rcases List.mem_cons.1 hbq with rfl|hbq
       ·exfalso
        have hnd:=hA.nd
        rw[List.nodup_append]at hnd
        rcases List.mem_append.1 hb with hb|hb
        ·exact hnd.2.2 b hb b (by simp[p3]) rfl
        ·exact(List.nodup_append.1 hnd.2.1).2.2 b p3 b hb rfl
       ·have hs:=h1.slots (.m q)
        rw[p1]at hs
        obtain⟨b3,c3,S3,g1,g2,g3,g4⟩:=hs
        rw[p2]at g2
        obtain⟨rfl,rfl⟩:=List.cons.inj g2
        exact(Qur g4 b hbq).1
     have h3:R n W0 w' X1 F2 [] (Zmg rs s1) a:=h2.drop.worldD (rs:=rs) hbl hA.size (fun b hb=>hA.block b (h1.xlt b hb) fun hm=>(hL b hm).2.2 hb)
      (fun q hq=>by
       obtain⟨e1,T1,f1,y1,b1,S1,m1,m2,m3,m4,m5⟩:=h2b q hq
       obtain⟨e2,T2,f2,y2,b2,S2,c2,p1,p2,p3,p4,p5,p6⟩:=hfac q hq
       rw[m2]at p2
       obtain⟨rfl,_⟩:=List.cons.inj p2
       rw[m1]at p1
       cases p1
       exact⟨m5,e1,T1,y1,b1,c2,m3,m4,p4,p5,p6⟩)
      (fun k hk b hb=>hA.block b (hother k hk b hb).1 (hother k hk b hb).2.1)
     have h4:R n W0 w' X' F2 [] (Zmg rs s1) a:=R.xup hs0 h3 hA.xx hA.xlt
      (fun b hb=>(hA.xin b hb).elim (h1.xin b) fun g=> .inr (g.elim (fun g=> .inl (Nat.le_trans h1.below.size g)) fun g=>(hL b g).1))
      (fun k b hb hx=>by
       by_cases hk: ∃q,q∈rs∧k= .m q
       ·obtain⟨q,hq,rfl⟩:=hk
        obtain⟨b1,g1,g2⟩:=hroot q hq
        rw[g1]at hb
        simp only[List.mem_singleton]at hb
        subst hb
        exact(hand b (by simp[g2])).2.2 hx
       ·obtain⟨g1,g2,g3⟩:=hother k (fun q hq e=>hk ⟨q,hq,e⟩) b hb
        rcases hA.xin b hx with g|g|g
        ·exact g3 g
        ·omega
        ·exact g2 g) (fun b hb=>by cases hb)
     have hnd':=List.nodup_append.1 hA.nd
     have hnd2:=List.nodup_append.1 hnd'.2.1
     have h5:R n W0 w' X' F2 (C++ (S++ [])) (Zmg rs s1) a:=by
      have:=h4.hand (S:=C++S) (fun b hb=>hand b (by simp only[List.mem_append]at hb⊢;grind))
       (List.nodup_append.2 ⟨hnd2.2.1,hnd'.1,fun x hx y hy e=>hnd'.2.2 y hy x (by simp[hx]) e.symm⟩)
       (fun k b hb hm=>by
        have hm':b∈S++C:=by simp only[List.mem_append]at hm⊢;grind
        by_cases hk: ∃q,q∈rs∧k= .m q
        ·obtain⟨q,hq,rfl⟩:=hk
         obtain⟨b1,g1,g2⟩:=hroot q hq
         rw[g1]at hb
         simp only[List.mem_singleton]at hb
         subst hb
         rcases List.mem_append.1 hm' with hm'|hm'
         ·exact hnd'.2.2 b hm' b (by simp[g2]) rfl
         ·exact hnd2.2.2 b g2 b hm' rfl
        ·obtain⟨g1,g2,g3⟩:=hother k (fun q hq e=>hk ⟨q,hq,e⟩) b hb
         have hm2:b∈S++ (BL++C):=by simp only[List.mem_append]at hm'⊢;grind
         rcases(hA.nin b hm2).1 with g|g
         ·omega
         ·exact g2 g) (fun b _ hm=>by cases hm)
      simpa using this
     have hm:Qwh F2 (Zmg rs s1) e.args rs BL:=Qui a2 hO fun q hq e1 T1 f1 y1 b1 S1 g1 g2=>by
      obtain⟨e2,T2,f2,y2,b2,S2,m1,m2,m3,m4,m5⟩:=h2b q hq
      rw[m1]at g1
      cases g1
      rw[m2]at g2
      obtain⟨rfl,_⟩:=List.cons.inj g2
      exact⟨m3,m4⟩
     obtain⟨F6,h6⟩:=Zyf h5 hO hm hnd fun b hb=>hlow b (by simp[hb])
     refine hK' rv S X' F6 w' h6 hS (fun b hb=>hlow b (by simp[hb])) (fun b hb=>hA.xx b (hX1 b hb)) fun b hb=> ?_
     rcases hb with hb| ⟨q,hq,hqr,hv⟩
     ·exact hA.block b (h1.xlt b (hX1 b hb)) fun hm=>(hL b hm).2.2 (hX1 b hb)
     ·obtain⟨S1,hF1⟩:=h1.boxIn (hbx1 q hq) hv
      refine hA.block b (h1.own (.m q) b (by rw[hF1];simp)).2.1 fun hm=> ?_
      rcases a4 b hm with⟨q',hq',hb'⟩| ⟨_,hb'⟩
      ·have:=h1.disj (.m q) (.m q') b (by rw[hF1];simp) hb'
       simp only[Key.m.injEq]at this
       subst this
       exact hqr hq'
      ·exact h1.hdisj (.m q) b (by rw[hF1];simp) (by simp[hb'])
    split at hr
    ·rename_i hd
     simp only[Option.bind_eq_some_iff]at hr
     obtain⟨z,hz,hk⟩:=hr
     refine call hz fun rv S X' F' w' hR _ _ hxx hkp=> ?_
     have hK':=hK (X8 rv) w' X' F' _ hk
     rw[hd]at hK'⊢
     exact hK' hR.drop hxx hkp
    ·rename_i d hd
     split at hr
     ·cases hr
     ·rename_i hdn
      simp only[Bool.and_eq_true,Nat.blt_eq,Bool.not_eq_true']at hdn
      simp only[Option.bind_eq_some_iff]at hr
      obtain⟨z,hz,hk⟩:=hr
      refine call hz fun rv S X' F' w' hR hS hB hxx hkp=> ?_
      have hdz:=Zxk (as:=e.args) (x:=z.2) hdn.1.1 (Z3m hdn.2)
      have hput: ∃F',R n W0 w' X' F' [] (Q9e d (Qpx e.args z.2 rs (Zmg rs s1)) e.res z.1) (a.put (some d) (X8 rv)):=by
       generalize Qpx e.args z.2 rs (Zmg rs s1)=s3 at hR hdz
       generalize z.1=zz at hS
       revert zz
       generalize e.res=rk
       intro zz hS
       cases rk with
       |vals ts=>exact hR.putRes hdz hdn.1.2 (Qc8 hS hB)
       |newb e2 T2=>
        obtain⟨b,c,rfl,rfl,g1,g2⟩:=hS
        exact⟨_,hR.put hdz hdn.1.2 ⟨b,c,[],rfl,rfl,g1,by unfold rdF;exact Je g2 (by simp)⟩⟩
       |shr ts=>
        obtain⟨rfl,g2⟩:=hS
        exact R.putSh (by simpa using hR) hdz hdn.1.2 g2
       |flg ts=>exact R.putF hR hdz hdn.1.2 (Qjc hS hB)
      obtain⟨F2,h2⟩:=hput
      have hK':=hK (X8 rv) w' X' F2 _ hk
      rw[hd]at hK'⊢
      exact hK' h2 hxx hkp
end
end Go.Am
namespace Go.Am
open Go.RowKit
def noP(d:Nat):Tm→Bool
 | .ptr r _=> !(Nat.beq r d)
 | .aep r _ _=> !(Nat.beq r d)
 | .pls _ l=>l.all fun q=> !(Nat.beq q.1 d)
 | .gd _ _ t=>noP d t
 |_=>true
def Q5k(s:St)(d:Nat):Bool:=s.env.all fun p=>noP d (s.get p.1)
theorem Qv1: ∀{l:List (Key×Tm)} {k:Key},Zow l k= .junk∨ ∃p∈l,p.1=k
 | [],k=> .inl rfl
 | (j,t)::r,k=>by
  rw[Z7]
  split
  ·rename_i e;exact .inr ⟨(j,t),by simp,e⟩
  ·rcases Qv1 (l:=r) (k:=k)with h| ⟨p,hp,e⟩
   ·exact .inl h
   ·exact .inr ⟨p,by simp[hp],e⟩
theorem Q3k{s:St}{d:Nat}(h:Q5k s d=true)(k:Key):noP d (s.get k)=true:=by
 unfold Q5k at h
 rcases Qv1 (l:=s.env) (k:=k)with hk| ⟨p,hp,rfl⟩
 ·unfold St.get;rw[hk];rfl
 ·exact List.all_eq_true.1 h p hp
def Q13:St→List Operand→Option (TV×St)
 |s,[]=>some (⟨.unit,()⟩,s)
 |s,x::xs=>match Qwx (op1 s [] x)with
  |some q=>match s.get (.m q)with
   | .box e T f y=>match f.live&&Q5k s q with
    |true=>match Q13 (Ka s q (.shp T y)) xs with
     |some (⟨U,u⟩,s')=>some (⟨.pair (.sptr e T) U,(y,u)⟩,s')
     |none=>none
    |false=>none
   |_=>none
  |none=>none
def Zxh: (ts:List Ty)→(T:Ty)→T.den→Option (Kb ts)
 | [],.unit,_=>some ()
 | .sptr e t::ts,.pair a b,x=>match Kq (.sptr e t) a x.1,Zxh ts b x.2 with
  |some u,some us=>some (u,us)
  |_,_=>none
 |_,_,_=>none
def Zql(s:St)(tg:Xm): (ts:List Ty)→List Operand→(T:Ty)→T.den→Option (Kb ts)
 |ts,[],T,y=>Zxh ts T y
 |t::ts,x::xs,T,y=>match V3 s (op1 s tg x) t,Zql s tg ts xs T y with
  |some u,some us=>some (u,us)
  |_,_=>none
 | [],_::_,_,_=>none
def Qvg(s:St)(tg:Xm)(x:Operand):Option (FuncId×TV):=
 match Zs5 s (op1 s tg x)with
 |some ⟨.clo f T,_,y⟩=>some (f,⟨T,y⟩)
 |_=>none
def Q11{ρ:Type}(Γ:Env)(n:Nat)(s:St)(tg:Xm)(dst:Option Nat)(c:FuncId×TV)(xs:List Operand)(k:St→Option ρ):Option ρ:=
 match Γ.find c.1 with
 |none=>none
 |some e=>match Zql s tg e.args xs c.2.1 c.2.2 with
  |none=>none
  |some us=>match dst with
   |none=>(e.F us).bind fun _=>k s
   |some d=>match J1 s d&&Nat.blt d n with
    |false=>none
    |true=>(e.F us).bind fun r=>k (Z83 d s e.res r)
section
variable {P:Program} {g:Y4} {W0:Zct g} {w w':World} {X X':Nat→Prop} {B B' n:Nat} {own:Bool} {s:St} {F:Key→List Nat} {a:Act} {H H':List Nat} {o:Oper} {tg:Xm} {τ:Tab}
theorem Q38{s2:St}{d:Nat}{t:Tm}{S0:List Nat}{v:Value}{S:List Nat}(ht:Z5x w w' s s2 F (Qf F (.m d) S0) a d t)(hX: ∀b,X b→X' b)(hw: ∀b,X b→w'.heap[b]? =w.heap[b]?)
  (hF: ∀k b,k≠ .m d→b∈F k→w'.heap[b]? =w.heap[b]?) (hS: ∀b∈S,w'.heap[b]? =w.heap[b]?): ∀{u:Tm},noP d u=true→
  vt w X B s F a v S u→vt w' X' B s2 (Qf F (.m d) S0) a v S u:=by
 intro u hno hu
 have vA: ∀{r:Nat} {p:List Nat} {v:Value} {U:Ty},(r=d→Qy7 w w' s s2 F (Qf F (.m d) S0) a d)→Yn w s F a r p v U→Yn w' s2 (Qf F (.m d) S0) a r p v U:=by
  intro r p v U hk hv
  by_cases hr:r=d
  ·subst hr;exact(hk rfl).2 _ _ _ hv
  ·exact Qqq ht hr (fun b=>hF (.m r) b (by simpa using hr)) hv
 induction u with
 |junk=>exact hu
 |tup=>exact hu
 |val T f x=>exact Zh3 (s:=s) (F:=fun _=>[]) (a:=a) (v:=v) (t:= .val T f x) hX hw (by simp) hS (show vt w X B s (fun _=>[]) a v S (.val T f x)from hu)
 |box e T f x=>exact Zh3 (s:=s) (F:=fun _=>[]) (a:=a) (v:=v) (t:= .box e T f x) hX hw (by simp) hS (show vt w X B s (fun _=>[]) a v S (.box e T f x)from hu)
 |shp T x=>exact Zh3 (s:=s) (F:=fun _=>[]) (a:=a) (v:=v) (t:= .shp T x) hX hw (by simp) hS (show vt w X B s (fun _=>[]) a v S (.shp T x)from hu)
 |ptr r p=>
  obtain⟨h0,e,T,f,x,b,S',h1,h2,h3⟩:=hu
  have hr:d≠r:=fun e=>by subst e;simp[noP,Nat.beq_refl]at hno
  exact⟨h0,e,T,f,x,b,S',by rw[ht.get];simp[hr,h1],by simp[Qf,Ne.symm hr,h2],h3⟩
 |aep r p i=>
  obtain⟨h0,e,T,f,x,b,S',n,t',y,h1,h2,h3,h4⟩:=hu
  have hr:d≠r:=fun e=>by subst e;simp[noP,Nat.beq_refl]at hno
  exact⟨h0,e,T,f,x,b,S',n,t',y,by rw[ht.get];simp[hr,h1],by simp[Qf,Ne.symm hr,h2],h3,h4⟩
 |bor r p=>
  obtain⟨h0,h1⟩:=hu
  refine⟨h0,fun hc=> ?_⟩
  obtain⟨hc,hj⟩:=ht.foul r hc
  obtain⟨U,h⟩:=h1 hc
  exact⟨U,vA hj h⟩
 |elp r p i q=>
  obtain⟨h0,h1⟩:=hu
  refine⟨h0,fun hc=> ?_⟩
  obtain⟨hc,hj⟩:=ht.foul r hc
  obtain⟨e,t',ad,n,cap,h,h2,h3,h4⟩:=h1 hc
  exact⟨e,t',ad,n,cap,vA hj h,h2,h3,h4⟩
 |pls hh l=>
  obtain⟨h0,ad,us,h1,h2,h3,h4,h5⟩:=hu
  refine⟨h0,ad,us,hX _ h1,fun j u hj=> ?_,h3,fun j q hq=> ?_,h5⟩
  ·have hb: (ad.add j).block=ad.block:=by unfold Addr.add;split<;>rfl
   rw[World.cell?_of_block (w:=w) (by rw[hb];exact hw _ h1)];exact h2 j u hj
  ·obtain⟨u,hu,e,T,f,x,b,S',g1,g2,g3⟩:=h4 j q hq
   have hr:d≠q.1:=fun e=>by
    have:=List.all_eq_true.1 (show l.all (fun q=> !(Nat.beq q.1 d))=true from hno) q (List.mem_of_getElem? hq)
    simp[e]at this
   exact⟨u,hu,e,T,f,x,b,S',by rw[ht.get];simp[hr,g1],by simp[Qf,Ne.symm hr,g2],g3⟩
 |gd g want u ih=>
  intro hc
  obtain⟨hc,hj⟩:=ht.foul g hc
  obtain⟨h0,h1,h2⟩:=hu hc
  refine⟨?_,fun hb=>ih hno (h1 hb),h2⟩
  by_cases hg:g=d
  ·subst hg;exact(hj rfl).1
  ·rw[ht.get];simpa[Ne.symm hg]using h0
theorem R.frzB(hs0:g.soft=false)(h:R n W0 w X F H s a){k:Nat}{e:TypeId}{T:Ty}{f:Fl}{x:T.den}(hg:s.get (.m k)= .box e T f x)(hf:f.live=true)(hp:Q5k s k=true):
  R n W0 w (fun b=>X b∨b∈F (.m k)) (Qf F (.m k) []) H (Ka s k (.shp T x)) a∧ ∃b c,Qi a (.m k)= .pointer (some ⟨b,0,none⟩)∧b∈F (.m k)∧w.heap[b]? =some (.cells c e (0,0))∧rd w (fun b=>X b∨b∈F (.m k)) W0.B false T x c.toList []:=by
 have hs:=h.slots (.m k)
 rw[hg]at hs
 obtain⟨b,c,S',h1,h2,h3,h4⟩:=hs
 have h5:rd w (fun b=>X b∨b∈F (.m k)) W0.B false T x c.toList []:=Y5 (fun b hb=> .inl hb) hf h4 fun b hb=> .inr (by rw[h2];simp[hb])
 have hb:b∈F (.m k):=by rw[h2];simp
 refine⟨?_,b,c,h1,hb,h3,h5⟩
 exact
 {size:=h.size
  defers:=h.defers
  below:=h.below
  glob:=h.glob
  gx:=fun b hb=> .inl (h.gx b hb)
  xs:=fun e=>by rw[hs0]at e;cases e
  fix:=h.fix
  xlt:=fun b hb=>hb.elim (h.xlt b) fun hb=>(h.own _ b hb).2.1
  xin:=fun b hb=>hb.elim (h.xin b) fun hb=> .inr (h.own _ b hb).1
  x0:=fun b hb=> .inl (h.x0 b hb)
  own:=fun j b hb=>by
   simp only[Qf]at hb
   split at hb
   ·cases hb
   ·rename_i hj
    obtain⟨h1,h2,h3⟩:=h.own j b hb
    exact⟨h1,h2,fun hx=>hx.elim h3 fun hk=>hj (h.disj j (.m k) b hb hk)⟩
  nodup:=fun j=>by
   simp only[Qf]
   split
   ·simp
   ·exact h.nodup j
  disj:=fun j j' b hb hb'=>by
   simp only[Qf]at hb hb'
   split at hb
   ·cases hb
   ·split at hb'
    ·cases hb'
    ·exact h.disj j j' b hb hb'
  hown:=fun b hb=>let⟨h1,h2,h3⟩:=h.hown b hb;⟨h1,h2,fun hx=>hx.elim h3 fun hk=>h.hdisj _ b hk hb⟩
  hnodup:=h.hnodup
  hdisj:=fun j b hb=>by
   simp only[Qf]at hb
   split at hb
   ·cases hb
   ·exact h.hdisj j b hb
  comps:=fun d i hc=>by
   rw[Ym]at hc⊢
   simp only[reduceCtorEq,if_false]at hc
   obtain⟨h1,h2⟩:=h.comps d i hc
   by_cases e:k=d
   ·subst e;rw[hg]at h1;cases h1
   ·exact⟨by simpa[e]using h1,h2⟩
  slots:=fun j=>by
   by_cases hj:j= .m k
   ·subst hj
    rw[Ym]
    simp only[if_true,Qf]
    refine⟨rfl,⟨b,0,none⟩,c.toList,h1,.inr hb,fun j u hj=> ?_,Je h5 (by simp)⟩
    rw[Zh9 w h3,←Array.getElem?_toList,Nat.zero_add];exact hj
   ·have e:Qf F (.m k) [] j=F j:=by simp[Qf,hj]
    rw[Ym,e]
    simp only[Ne.symm hj,if_false]
    exact Q38 Qs4 (fun _ h=> .inl h) (fun _ _=>rfl) (fun _ _ _ _=>rfl) (fun _ _=>rfl) (Q3k hp j) (h.slots j)}
theorem Qmx(hs0:g.soft=false): ∀{xs:List Operand} {s s':St} {X:Nat→Prop} {F:Key→List Nat} {U:TV},R n W0 w X F H s a→Q13 s xs=some (U,s')→
  ∃X' F',R n W0 w X' F' H s' a∧(∀b,X b→X' b)∧rd w X' W0.B false U.1 U.2 (xs.map a.eval) []
 | [],s,s',X,F,U,h,hc=>by
  simp only[Q13,Option.some.injEq,Prod.mk.injEq]at hc
  obtain⟨rfl,rfl⟩:=hc
  exact⟨X,F,h,fun _ h=>h,rfl,rfl⟩
 |x::xs,s,s',X,F,U,h,hc=>by
  simp only[Q13]at hc
  split at hc
  ·rename_i q hq
   split at hc
   ·rename_i e T f y hg
    split at hc
    ·rename_i hl
     simp only[Bool.and_eq_true]at hl
     split at hc
     ·rename_i U' u' s1 hk
      simp only[Option.some.injEq,Prod.mk.injEq]at hc
      obtain⟨rfl,rfl⟩:=hc
      obtain⟨h1,b,c,k1,k2,k3,k4⟩:=R.frzB hs0 h hg hl.1 hl.2
      obtain⟨X',F',g1,g2,g3⟩:=Qmx hs0 h1 hk
      refine⟨X',F',g1,fun b hb=>g2 b (.inl hb),?_⟩
      have hev:=Z17 h hq hg
      exact⟨[_],_,[],[],rfl,rfl,⟨rfl,rfl,b,c,by rw[hev,k1],g2 b (.inr k2),k3,Zfe g2 (fun _ _=>rfl) k4 (by simp)⟩,g3⟩
     ·cases hc
    ·cases hc
   ·cases hc
  ·cases hc
theorem Qqu{X:Nat→Prop}(hX: ∀b,X b→b<w.heap.size){ts:List Ty}: ∀{T:Ty} {y:T.den} {us:Kb ts} {cs:List Value},Zxh ts T y=some us→rd w X B false T y cs []→Zoe w (· <w.heap.size) 0 ts us cs:=by
 induction ts with
 |nil=>
  intro T y us cs hc hr
  cases T<;>first
   |exact hr.1
   | (simp[Zxh]at hc;done)
 |cons t ts ih=>
  intro T y us cs hc hr
  cases t<;>first
   | (simp[Zxh]at hc;done)
   |skip
  cases T<;>first
   | (simp[Zxh]at hc;done)
   |skip
  rename_i e t a b
  obtain⟨v1,v2,S1,S2,e1,e2,h1,h2⟩:=hr
  simp only[Zxh]at hc
  split at hc
  ·rename_i u us' hu hus
   simp only[Option.some.injEq]at hc
   subst hc
   have:=Zap hu
   obtain⟨y1,y2⟩:=y
   cases this
   have e3:S1=[]∧S2=[]:=by simpa using e2.symm
   obtain⟨rfl,rfl⟩:=e3
   obtain⟨_,o,b',c',k1,k2,k3,k4⟩:=h1
   refine⟨v1,v2,by rw[e1,k1];rfl,?_,ih hus h2⟩
   exact Je (Zbu (Nat.zero_le _) hX ⟨rfl,o,b',c',k1,k2,k3,k4⟩) (by simp)
  ·cases hc
theorem Zzl{Y:Nat→Prop}(hY: ∀b,Y b→b<w.heap.size)(h:R n W0 w X F H s a)(ht:tg.ok a): ∀{ts:List Ty} {xs:List Operand} {T:Ty} {y:T.den} {us:Kb ts} {cs:List Value},Zql s tg ts xs T y=some us→rd w Y B false T y cs []→Zoe w (· <w.heap.size) 0 ts us (xs.map a.eval++cs)
 |ts,[],T,y,us,cs,hr,hc=>Qqu hY (by simpa[Zql]using hr) hc
 |t::ts,x::xs,T,y,us,cs,hr,hc=>by
  simp only[Zql]at hr
  split at hr
  ·rename_i u us' hu hus
   simp only[Option.some.injEq]at hr
   subst hr
   obtain⟨cs',h1,h2⟩:=Vt h ht hu
   exact⟨cs',_,by simp[h1],Zbu (Nat.zero_le _) (fun _ h=>h) h2,Zzl hY h ht hus hc⟩
  ·cases hr
 | [],_::_,_,_,_,_,hr,_=>by simp[Zql]at hr
theorem Qvh(h:R n W0 w X F H s a)(ht:tg.ok a){x:Operand}{f:FuncId}{U:TV}(hf:Qvg s tg x=some (f,U)): ∃cs:List Value,a.eval x= .func (.func f) #[] cs.toArray∧ ∃S:List Nat,rd w (fun b=>X b∨b∈S) W0.B false U.1 U.2 cs []∧ ∀b∈S,b<w.heap.size:=by
 unfold Qvg at hf
 split at hf
 ·rename_i f' T fl y hl
  simp only[Option.some.injEq,Prod.mk.injEq]at hf
  obtain⟨rfl,rfl⟩:=hf
  obtain⟨hlive,vs,S,h1,h2,h3⟩:=Zdo h ht hl
  obtain⟨_,cs,h4,h5⟩:=Y5 (X':=fun b=>X b∨b∈S) (fun _ h=> .inl h) hlive h2 (fun _ h=> .inr h)
  exact⟨cs,by rw[h1,h4];rfl,S,h5,fun b hb=>let⟨k,hk⟩:=h3 b hb;(h.own k b hk).2.1⟩
 ·cases hf
theorem Qir{Γ:Env}(hΓ:Γ.ok P g)(h:R n W0 w X F H s a)(ht:tg.ok a){f:FuncId}{U:TV}{fo:Operand}(hfo:Qvg s tg fo=some (f,U)){xs:Array Operand}{ats:Array TypeId}(ho:o.op= .call {callee:= .value fo,args:=xs,argTypes:=ats}){e:FnE}(he:Γ.find f=some e)
  {us:Kb e.args} (hus:Zql s tg e.args xs.toList U.1 U.2=some us) {rv:Kb e.res} (hpre:e.F us=some rv) {K:Act→World→Prop} {Q:Exit→Act→World→Prop}
  (hK: ∀rs S w',R n W0 w' X F (S++H) s a→Zdq w' W0.B e.res rv rs S→Old w w'→K (a.put o.dst (X8 rs)) w'):o.wp P a w K Q:=by
 obtain⟨hf,hok⟩:=Env.find_ok hΓ he
 subst hf
 obtain⟨cs,hfo,S0,hcs,hS0⟩:=Qvh h ht hfo
 have hc:=hok.calls w us rv (xs.toList.map a.eval++cs) h.glob (Zzl (fun b hb=>hb.elim (h.xlt b) (hS0 b)) h ht hus hcs) hpre
 have hrun: (execOp a.eval o).run P w= .ok (.enter e.f (xs.toList.map a.eval++cs).toArray) w:=by
  have:execOp a.eval o=callFunc e.f (xs.map a.eval++cs.toArray):=by
   simp only[execOp,ho,resolve,hfo,Deferred.ofValue]
   simp[invoke]
  rw[this,hok.enters]
  congr 2
  apply Array.toList_inj.mp
  simp
 unfold Oper.wp
 rw[hrun,Oper.upon_enter]
 refine hc.mono fun en w' ⟨rs,S,hen,hres,hnd,hbl⟩=> ?_
 subst hen
 show K (a.put o.dst (X8 rs)) w'
 have hlow: ∀{ts:List Ty} {x:Kb ts} {rs:List Value} {S:List Nat},Zdq w' w.heap.size ts x rs S→(∀b∈S,w.heap.size≤b∧b<w'.heap.size)∧Zdq w' W0.B ts x rs S:=by
  intro ts
  induction ts with
  |nil=>intro x rs S h;exact⟨by simp[h.2],h⟩
  |cons t ts ih=>
   intro x rs S ⟨cs,us,S1,S2,e1,e2,g1,g2⟩
   obtain⟨k1,k2⟩:=ih g2
   refine⟨fun b hb=> ?_,cs,us,S1,S2,e1,e2,Zbu h.below.sizeB (fun _ h=>h) g1,k2⟩
   rw[e2]at hb
   rcases List.mem_append.1 hb with hb|hb
   ·exact Zsj g1 b hb
   ·exact k1 b hb
 obtain⟨hfresh,hres'⟩:=hlow hres
 exact hK rs S w' ((h.below' hbl).hand (fun b hb=>⟨.inl (Nat.le_trans h.below.size (hfresh b hb).1),(hfresh b hb).2,fun hx=>by have:=h.xlt b hx;have:=(hfresh b hb).1;omega⟩) hnd
  (fun k b hb hm=>by have:=(h.own k b hb).2.1;have:=(hfresh b hm).1;omega) (fun b hb hm=>by have:=(h.hown b hm).2.1;have:=(hfresh b hb).1;omega)) hres' (fun k hk=>hbl.block k hk)
theorem Qve{ρ:Type}{Γ:Env}(hΓ:Γ.ok P g)(h:R n W0 w X F H s a)(ht:tg.ok a){c:FuncId×TV}{fo:Operand}(hfo:Qvg s tg fo=some c){xs:Array Operand}{ats:Array TypeId}(ho:o.op= .call {callee:= .value fo,args:=xs,argTypes:=ats}){k:St→Option ρ}{r:ρ}(hr:Q11 Γ n s tg o.dst c xs.toList k=some r)
  {K:Act→World→Prop} {Q:Exit→Act→World→Prop} (hK: ∀v w' F' s',k s'=some r→R n W0 w' X F' H s' (a.put o.dst v)→Old w w'→K (a.put o.dst v) w'):o.wp P a w K Q:=by
 unfold Q11 at hr
 split at hr
 ·cases hr
 ·rename_i e he
  split at hr
  ·cases hr
  ·rename_i us hus
   cases hd:o.dst with
   |none=>
    rw[hd]at hr
    simp only[Option.bind_eq_some_iff]at hr
    obtain⟨rv,hrv,hk⟩:=hr
    refine Qir hΓ h ht hfo ho he hus hrv fun rs S w' hR hres' hold=> ?_
    have hK':=hK (X8 rs) w' F s hk
    rw[hd]at hK'⊢
    exact hK' hR.drop hold
   |some d=>
    rw[hd]at hr
    simp only at hr
    split at hr
    ·cases hr
    ·rename_i hdn
     simp only[Bool.and_eq_true,Nat.blt_eq]at hdn
     simp only[Option.bind_eq_some_iff]at hr
     obtain⟨rv,hrv,hk⟩:=hr
     refine Qir hΓ h ht hfo ho he hus hrv fun rs S w' hR hres' hold=> ?_
     obtain⟨F',hF'⟩:=hR.putRes hdn.1 hdn.2 hres'
     have hK':=hK (X8 rs) w' F' _ hk
     rw[hd]at hK'⊢
     exact hK' hF' hold
end
end Go.Am
namespace Go.Am
open Go.RowKit
def Zq7:Ty→Bool
 | .int _=>true
 | .bool=>true
 | .str=>true
 |_=>false
def Zx8:Ty→Bool
 | .unit=>true
 | .hid t=>Zq7 t
 | .slice _ t=>Zx8 t
 | .pair a b=>Zx8 a&&Zx8 b
 | .arr _ t=>Zx8 t
 |_=>false
def Zv1:Ty→Bool
 | .unit| .int _| .bool| .str| .fnc _| .err=>true
 | .hid t=>Zq7 t
 | .slice _ t=>Zx8 t
 | .pair a b=>Zv1 a&&Zv1 b
 | .arr _ t=>Zv1 t
 | .sptr .. =>false
 | .clo .. =>false
def Zv0:Tm→Bool
 | .val T (.u false) _=>Zv1 T
 | .val T f _=>match f with
  | .d=>true
  | .u _=>T.flat
  | .p _ _=>false
 | .box _ T (.u false) _=>Zv1 T
 | .box _ T f _=>match f with
  | .d=>true
  | .u _=>T.flat
  | .p _ _=>false
 | .shp T _=>Zx8 T
 | .pls _ _=>false
 | .gd _ _ t=>Zv0 t
 |_=>true
def Qcc(s:St):Bool:=s.env.all fun p=>Zv0 p.2
def Z2b:List Value→List Value→Prop
 | [],vs=>vs=[]
 |u::us,vs=> ∃v r,vs=v::r∧Zwz u v∧Z2b us r
theorem Qht: ∀{a b c:List Value},Z2b (a++b) c→ ∃c1 c2,c=c1++c2∧Z2b a c1∧Z2b b c2
 | [],b,c,h=>⟨[],c,rfl,rfl,h⟩
 |u::a,b,c,⟨v,r,e,h1,h2⟩=>by
  obtain⟨c1,c2,rfl,k1,k2⟩:=Qht h2
  exact⟨v::c1,c2,e,⟨v,c1,rfl,h1,k1⟩,k2⟩
theorem Qhu: ∀{a c:List Value},Z2b a c→c.length=a.length
 | [],c,h=>by rw[show c=[]from h]
 |u::a,c,⟨v,r,e,_,h2⟩=>by rw[e];simp[Qhu h2]
def Zwb:Ty→Ty
 | .int k=> .hid (.int k)
 | .bool=> .hid .bool
 | .str=> .hid .str
 | .slice e t=> .slice e (Zwb t)
 | .pair a b=> .pair (Zwb a) (Zwb b)
 | .arr n t=> .arr n (Zwb t)
 |T=>T
def Qiy: (T:Ty)→T.den→(Zwb T).den
 | .int _,_=>()
 | .bool,_=>()
 | .str,_=>()
 | .slice _ t,x=>List.map (Qiy t) x
 | .pair a b,x=>(Qiy a x.1,Qiy b x.2)
 | .arr _ t,x=>List.map (Qiy t) x
 | .unit,_=>()
 | .fnc _,_=>()
 | .err,x=>x
 | .hid _,_=>()
 | .sptr _ _,x=>x
 | .clo _ _,x=>x
def Zr5:Ty→Bool
 | .unit| .int _| .bool| .str=>true
 | .slice _ t=>Zr5 t
 | .pair a b=>Zr5 a&&Zr5 b
 | .arr _ t=>Zr5 t
 |_=>false
theorem Zxu: ∀T:Ty,(Zwb T).size=T.size
 | .pair a b=>by simp[Zwb,Ty.size,Zxu a,Zxu b]
 | .arr n t=>by simp[Zwb,Ty.size,Zxu t]
 | .int _| .bool| .str| .slice .. | .unit| .fnc _| .err| .hid _| .sptr .. | .clo .. =>rfl
structure FnW where
 f:FuncId
 args:List Ty
 res:List Ty
 F:Kb args→Option (Kb res)
def Q9w(w:World)(X:Nat→Prop)(ts:List Ty)(x:Kb ts)(vs:List Value):Prop:=Zoe w X 0 ts x vs
structure Qu7(P:Program)(e:FnW):Prop where
 enters: ∀args w,(callFunc e.f args).run P w= .ok (.enter e.f args) w
 calls: ∀(w:World) (L:Nat→Prop) (xs:Kb e.args) (r:Kb e.res) (vals:List Value),(∀b,L b→Zsi w b)→Zoe w L 0 e.args xs vals→e.F xs=some r→
  Calls P e.f vals.toArray w fun en w'=> ∃rs S,en= .returned (X8 rs)∧Zdq w' w.heap.size e.res r rs S∧S.Nodup∧
   w'.os=w.os∧w'.tape=w.tape∧w'.output=w.output∧w.heap.size≤w'.heap.size∧(∀b,b<w.heap.size→ ¬L b→w'.heap[b]? =w.heap[b]?)∧Zmn L w w'∧ ∀b,L b→Zsi w' b
abbrev Zv8:=List FnW
def Zv8.find(Γ:Zv8)(f:FuncId):Option FnW:=
 match Γ with
 | []=>none
 |e::r=>match Nat.beq e.f f with|true=>some e|false=>Zv8.find r f
def Zv8.ok(Γ:Zv8)(P:Program):Prop:= ∀e∈Γ,Qu7 P e
theorem Zv8.find_ok{Γ:Zv8}{P:Program}(h:Γ.ok P){f:FuncId}{e:FnW}(he:Γ.find f=some e):e.f=f∧Qu7 P e:=by
 induction Γ with
 |nil=>cases he
 |cons x r ih=>
  simp only[Zv8.find]at he
  split at he
  ·rename_i hb
   simp only[Option.some.injEq]at he
   subst he
   exact⟨Nat.eq_of_beq_eq_true hb,h _ (by simp)⟩
  ·exact ih (fun e he=>h e (by simp[he])) he
section
variable {P:Program} {g:Y4} {W0:Zct g} {w w':World} {X X':Nat→Prop} {B B' n:Nat} {own:Bool} {s:St} {F:Key→List Nat} {a:Act} {H H':List Nat} {o:Oper} {tg:Xm} {τ:Tab}
theorem Q0e(ad:Addr)(j:Nat): (ad.add j).block=ad.block:=by unfold Addr.add;split<;>rfl
theorem Q9s(ad:Addr)(i j:Nat): (ad.add i).add j=if j=0 then ad.add i else ad.add (i+j):=by
 unfold Addr.add
 by_cases h1:i=0<;>by_cases h2:j=0<;>simp[h1,h2,Nat.add_assoc]
theorem Z6n(hso:Zmn X w w'){ad:Addr}(hX:X ad.block): ∀{xs:List Value} {i:Nat},(∀j u,xs[j]? =some u→w.cell? (ad.add (i+j))=some u)→
  ∃xs',Z2b xs xs'∧ ∀j u,xs'[j]? =some u→w'.cell? (ad.add (i+j))=some u
 | [],i,_=>⟨[],rfl,by simp⟩
 |x::xs,i,h=>by
  obtain⟨v,h1,h2⟩:=hso (ad.add i) x (by rw[Q0e];exact hX) (h 0 x rfl)
  obtain⟨xs',k1,k2⟩:=Z6n hso hX (xs:=xs) (i:=i+1) fun j u hj=>by
   have:=h (j+1) u (by simpa using hj)
   rw[show i+1+j=i+ (j+1) by omega];exact this
  refine⟨v::xs',⟨v,xs',rfl,h2,k1⟩,fun j u hj=> ?_⟩
  cases j with
  |zero=>simp only[List.getElem?_cons_zero,Option.some.injEq]at hj;subst hj;exact h1
  |succ j=>
   have:=k2 j u (by simpa using hj)
   rw[show i+ (j+1)=i+1+j by omega];exact this
theorem Qv5(hso:Zmn X w w'){e:TypeId}{sz n:Nat}{v:Value}{xs:List Value}{S:List Nat}(h:hdr w X B false e sz n v xs S): ∃xs',Z2b xs xs'∧hdr w' X B false e sz n v xs' S:=by
 obtain⟨h1,h2,ad,cap,h3,h4,h5,h6⟩:=h
 rcases h6 with⟨rfl,rfl,rfl⟩| ⟨a0,rfl,h7,h8⟩
 ·have:xs=[]:=List.eq_nil_of_length_eq_zero (by simpa using h2)
  subst this
  exact⟨[],rfl,h1,h2,none,0,h3,h4,h5,.inl ⟨rfl,rfl,rfl⟩⟩
 ·rcases h7 with rfl|h7
  ·have:xs=[]:=List.eq_nil_of_length_eq_zero (by simpa using h2)
   subst this
   exact⟨[],rfl,h1,h2,some a0,cap,h3,h4,h5,.inr ⟨a0,rfl,.inl rfl,by simp⟩⟩
  ·obtain⟨xs',k1,k2⟩:=Z6n hso h7 (xs:=xs) (i:=0) (fun j u hj=>by rw[Nat.zero_add];exact h8 j u hj)
   exact⟨xs',k1,h1,by rw[Qhu k1,h2],some a0,cap,h3,h4,h5,.inr ⟨a0,rfl,.inr h7,fun j u hj=>by have:=k2 j u hj;rwa [Nat.zero_add]at this⟩⟩
theorem Z3r{α:Type}{r r':α→List Value→List Nat→Prop}(hr: ∀x v v' T,r x v T→Z2b v v'→r' x v' T): ∀{xs:List α} {vs vs':List Value} {S:List Nat},Zbf r xs vs S→Z2b vs vs'→Zbf r' xs vs' S
 | [],vs,vs',S,h,hs=>by
  obtain⟨rfl,rfl⟩:=h
  exact⟨hs,rfl⟩
 |x::xs,vs,vs',S,⟨v1,v2,S1,S2,e1,e2,h1,h2⟩,hs=>by
  rw[e1]at hs
  obtain⟨c1,c2,rfl,k1,k2⟩:=Qht hs
  exact⟨c1,c2,S1,S2,rfl,e2,hr _ _ _ _ h1 k1,Z3r hr h2 k2⟩
theorem Qw2{t:Ty}(ht:Zq7 t=true){y:t.den}{vs vs':List Value}{S:List Nat}(h:rd w X B false t y vs S)(hs:Z2b vs vs'): ∃y',rd w' X' B false t y' vs' S:=by
 cases t<;>simp[Zq7]at ht
 case int k=>
  obtain⟨rfl,rfl⟩:=h
  obtain⟨v,r,rfl,h1,h2⟩:=hs
  obtain rfl:r=[]:=h2
  rcases h1 with rfl| ⟨k',a,b,e,rfl⟩| ⟨a,b,e,rfl⟩| ⟨a,b,e,rfl⟩
  ·exact⟨y,rfl,rfl⟩
  ·simp only[Value.int.injEq]at e;obtain⟨rfl,rfl⟩:=e;exact⟨b,rfl,rfl⟩
  ·cases e
  ·cases e
 case bool=>
  obtain⟨rfl,rfl⟩:=h
  obtain⟨v,r,rfl,h1,h2⟩:=hs
  obtain rfl:r=[]:=h2
  rcases h1 with rfl| ⟨k',a,b,e,rfl⟩| ⟨a,b,e,rfl⟩| ⟨a,b,e,rfl⟩
  ·exact⟨y,rfl,rfl⟩
  ·cases e
  ·exact⟨b,rfl,rfl⟩
  ·cases e
 case str=>
  obtain⟨rfl,rfl⟩:=h
  obtain⟨v,r,rfl,h1,h2⟩:=hs
  obtain rfl:r=[]:=h2
  rcases h1 with rfl| ⟨k',a,b,e,rfl⟩| ⟨a,b,e,rfl⟩| ⟨a,b,e,rfl⟩
  ·exact⟨y,rfl,rfl⟩
  ·cases e
  ·cases e
  ·exact⟨b.data.toList,rfl,rfl⟩
theorem Zww(hso:Zmn X w w'): ∀{T:Ty} {x:T.den} {vs vs':List Value} {S:List Nat},Zx8 T=true→rd w X B false T x vs S→Z2b vs vs'→rd w' X B false T x vs' S
 | .unit,_,_,_,_,_,⟨h1,h2⟩,hs=>by subst h1;exact⟨hs,h2⟩
 | .hid t,_,vs,vs',_,hl,⟨e,y,h⟩,hs=>let⟨y',h'⟩:=Qw2 hl h hs;⟨(Qhu hs).trans e,y',h'⟩
 | .slice _ t,_,_,_,_,hl,⟨v,xs,S1,S2,e,e2,h1,h2⟩,hs=>by
  subst e
  obtain⟨v',r,rfl,k1,k2⟩:=hs
  obtain rfl:r=[]:=k2
  obtain⟨ad,cap,hv,_⟩:=Zdd h1
  have:v'=v:=by
   rcases k1 with rfl| ⟨_,_,_,e,_⟩| ⟨_,_,e,_⟩| ⟨_,_,e,_⟩
   ·rfl
   ·rw[hv]at e;cases e
   ·rw[hv]at e;cases e
   ·rw[hv]at e;cases e
  subst this
  obtain⟨xs',g1,g2⟩:=Qv5 hso h1
  exact⟨v',xs',S1,S2,rfl,e2,g2,Z3r (r:=rd w X B false t) (r':=rd w' X B false t) (fun x v v' T h hs=>Zww (T:=t) hso hl h hs) h2 g1⟩
 | .pair a b,_,_,_,_,hl,⟨v1,v2,S1,S2,e,e2,h1,h2⟩,hs=>by
  simp only[Zx8,Bool.and_eq_true]at hl
  rw[e]at hs
  obtain⟨c1,c2,rfl,k1,k2⟩:=Qht hs
  exact⟨c1,c2,S1,S2,rfl,e2,Zww hso hl.1 h1 k1,Zww hso hl.2 h2 k2⟩
 | .arr n t,_,_,_,_,hl,⟨h,h'⟩,hs=>⟨h,Z3r (r:=rd w X B false t) (r':=rd w' X B false t) (fun x v v' T h hs=>Zww (T:=t) hso hl h hs) h' hs⟩
 | .int _,_,_,_,_,hl,_,_| .bool,_,_,_,_,hl,_,_| .str,_,_,_,_,hl,_,_| .fnc _,_,_,_,_,hl,_,_| .err,_,_,_,_,hl,_,_| .sptr ..,_,_,_,_,hl,_,_| .clo ..,_,_,_,_,hl,_,_=>by simp[Zx8]at hl
theorem Qda(hso:Zmn X w w'): ∀{T:Ty} {x:T.den} {vs:List Value} {S:List Nat},Zv1 T=true→rd w X B false T x vs S→rd w' X B false T x vs S
 | .unit,_,_,_,_,h| .int _,_,_,_,_,h| .bool,_,_,_,_,h| .str,_,_,_,_,h| .fnc _,_,_,_,_,h| .err,_,_,_,_,h=>h
 | .hid t,_,_,_,hl,⟨e,y,h⟩=>by
  refine⟨e,y,?_⟩
  cases t<;>simp[Zv1,Zq7]at hl<;>exact h
 | .slice _ t,_,_,_,hl,⟨v,xs,S1,S2,e,e2,h1,h2⟩=>by
  obtain⟨xs',g1,g2⟩:=Qv5 hso h1
  exact⟨v,xs',S1,S2,e,e2,g2,Z3r (r:=rd w X B false t) (r':=rd w' X B false t) (fun x v v' T h hs=>Zww (T:=t) hso hl h hs) h2 g1⟩
 | .pair a b,_,_,_,hl,⟨v1,v2,S1,S2,e,e2,h1,h2⟩=>by
  simp only[Zv1,Bool.and_eq_true]at hl
  exact⟨v1,v2,S1,S2,e,e2,Qda hso hl.1 h1,Qda hso hl.2 h2⟩
 | .arr n t,_,_,_,hl,⟨h,h'⟩=>⟨h,Kt h' fun _ _ _ _ _ h=>Qda (T:=t) hso hl h⟩
 | .sptr ..,_,_,_,hl,_| .clo ..,_,_,_,hl,_=>by simp[Zv1]at hl
theorem Qst(hso:Zmn X w w'){T:Ty}{f:Fl}{x:T.den}{vs:List Value}{S:List Nat}(hl: (match f with| .u false=>Zv1 T| .d=>true| .u true=>T.flat| .p _ _=>false)=true)(h:rdF w X B T f x vs S):rdF w' X B T f x vs S:=by
 cases f with
 |d=>unfold rdF at*;exact h
 |p _ _=>simp at hl
 |u b=>
  cases b
  ·unfold rdF at*;exact Qda hso hl h
  ·unfold rdF at*
   obtain⟨rfl,k⟩:=Zmz (w':=w') (X':=X) (B':=B) (own':=true) hl h
   exact k
theorem Qz7(hso:Zmn X w w')(hF: ∀k b,b∈F k→w'.heap[b]? =w.heap[b]?){v:Value}{S:List Nat}(hS: ∀b∈S,w'.heap[b]? =w.heap[b]?): ∀{t:Tm},Zv0 t=true→
  vt w X B s F a v S t→vt w' X B s F a v S t
 | .junk,_,h| .tup,_,h=>h
 | .val T f x,hl,⟨vs,h1,h2⟩=>⟨vs,h1,Qst hso (by
   cases f with
   |u b=>cases b<;>simpa[Zv0]using hl
   |d=>rfl
   |p _ _=>simp[Zv0]at hl) h2⟩
 | .box e T f x,hl,⟨b,c,S',h1,h2,h3,h4⟩=>⟨b,c,S',h1,h2,by rw[hS b (by rw[h2];simp)];exact h3,Qst hso (by
   cases f with
   |u b=>cases b<;>simpa[Zv0]using hl
   |d=>rfl
   |p _ _=>simp[Zv0]at hl) h4⟩
 | .ptr r p,_,h=>h
 | .aep r p i,_,h=>h
 | .pls hh l,hl,_=>by simp[Zv0]at hl
 | .shp T x,hl,⟨h0,ad,vs,h1,h2,h3,h4⟩=>by
  obtain⟨vs',k1,k2⟩:=Z6n hso h2 (xs:=vs) (i:=0) (fun j u hj=>by rw[Nat.zero_add];exact h3 j u hj)
  exact⟨h0,ad,vs',h1,h2,fun j u hj=>by have:=k2 j u hj;rwa [Nat.zero_add]at this,Zww hso hl h4 k1⟩
 | .bor r p,_,⟨h0,h1⟩=>⟨h0,fun hc=>let⟨U,h⟩:=h1 hc;⟨U,Zlo h (hF (.m r))⟩⟩
 | .elp r p i q,_,⟨h0,h1⟩=>⟨h0,fun hc=>let⟨e,t,ad,n,cap,h,h'⟩:=h1 hc;⟨e,t,ad,n,cap,Zlo h (hF (.m r)),h'⟩⟩
 | .gd g want t,hl,h=>fun hc=>let⟨h0,h1,h2⟩:=h hc;⟨h0,fun hg=>Qz7 hso hF hS (by simpa[Zv0]using hl) (h1 hg),h2⟩
theorem Qwf{s:St}(h:Qcc s=true)(k:Key):Zv0 (s.get k)=true:=by
 unfold Qcc at h
 unfold St.get
 rw[List.all_eq_true]at h
 generalize s.env=l at h
 induction l with
 |nil=>rfl
 |cons p r ih=>
  obtain⟨j,t⟩:=p
  rw[Z7]
  split
  ·exact h (j,t) (by simp)
  ·exact ih fun p hp=>h p (by simp[hp])
theorem R.soft(h:R n W0 w X F H s a)(hl:Qcc s=true)(hG:g.G w')(hbl:W0.below w')(hsz:w.heap.size≤w'.heap.size)(hout: ∀b,b<w.heap.size→ ¬X b→w'.heap[b]? =w.heap[b]?)(hso:Zmn X w w'):R n W0 w' X F H s a:=
 {h with
  below:=hbl
  glob:=hG
  xlt:=fun b hb'=>Nat.lt_of_lt_of_le (h.xlt b hb') hsz
  own:=fun k b hb'=>let⟨h1,h2,h3⟩:=h.own k b hb';⟨h1,Nat.lt_of_lt_of_le h2 hsz,h3⟩
  hown:=fun b hb'=>let⟨h1,h2,h3⟩:=h.hown b hb';⟨h1,Nat.lt_of_lt_of_le h2 hsz,h3⟩
  slots:=fun k=>Qz7 hso (fun k b hb=>hout b (h.own k b hb).2.1 (h.own k b hb).2.2) (fun b hb=>hout b (h.own k b hb).2.1 (h.own k b hb).2.2) (Qwf hl k) (h.slots k)}
end
end Go.Am
namespace Go.Am
open Go.RowKit
def Qhv(τ:Tab)(s:St)(e:TypeId)(x v:Operand):Option St:=
 match τ e with
 |none=>none
 |some T=>match op1 s [] x with
  | .tm _ (.shp (.hid t) _)=>match decide (t=T)&&Zq7 T&&Qcc s,V3 s (op1 s [] v) T with
   |true,some _=>some s
   |_,_=>none
  |_=>none
def Qzy(s:St)(T:Ty)(y:T.den)(rest:List Operand): (ts:List Ty)→Option (Kb ts)
 | []=>none
 |t::ts=>match Kq t (Zwb T) (Qiy T y),Zm0 s [] ts rest,Qop ts with
  |some u,some us,true=>some (u,us)
  |_,_,_=>none
def Qt4:Tm→Option (TV×Tm)
 | .val T (.u true) y=>some (⟨T,y⟩,.val T .d y)
 | .box e T (.u true) y=>some (⟨T,y⟩,.box e T .d y)
 |_=>none
noncomputable def wrK{ρ:Type}(Γ:Zv8)(n:Nat)(s:St)(dst:Option Nat)(f:FuncId)(xs:List Operand)(k:St→Option ρ):Option ρ:=
 match Γ.find f,xs with
 |some e,x0::rest=>match Z85 s (op1 s [] x0)with
  |some q=>match Qt4 (s.get (.m q))with
   |some (⟨T,y⟩,t)=>match Zr5 T,Qzy s T y rest e.args,dst with
    |true,some us,some d=>match J1 (Ka s q t) d&&Nat.blt d n with
     |true=>(e.F us).bind fun z=>k (Z83 d (Ka s q t) e.res z)
     |false=>none
    |_,_,_=>none
   |none=>none
  |none=>none
 |_,_=>none
def Z3q(s:St): (ts:List Ty)→List Operand→Option (Kb ts)
 | [],[]=>some ()
 |t::ts,x::xs=>match Z84 s (op1 s [] x) t,Z3q s ts xs with
  |some u,some us=>some (u,us)
  |_,_=>none
 |_,_=>none
noncomputable def wsK{ρ:Type}(Γ:Zv8)(n:Nat)(s:St)(dst:Option Nat)(f:FuncId)(xs:List Operand)(k:St→Option ρ):Option ρ:=
 match Γ.find f,dst with
 |some e,some d=>match Z3q s e.args xs,J1 s d&&Nat.blt d n&&Qcc s with
  |some us,true=>(e.F us).bind fun z=>k (Z83 d s e.res z)
  |_,_=>none
 |_,_=>none
section
variable {P:Program} {g:Y4} {W0:Zct g} {w w':World} {X X':Nat→Prop} {B B' n:Nat} {own:Bool} {s:St} {F:Key→List Nat} {a:Act} {H H':List Nat} {o:Oper} {tg:Xm} {τ:Tab}
theorem Qp4{α β:Type}{r:α→List Value→List Nat→Prop}{r':β→List Value→List Nat→Prop}{m:α→β}(hr: ∀x v S,r x v S→r' (m x) v S): ∀{xs:List α} {vs:List Value} {S:List Nat},Zbf r xs vs S→Zbf r' (xs.map m) vs S
 | [],_,_,h=>h
 |_::_,_,_,⟨v1,v2,S1,S2,e1,e2,h1,h2⟩=>⟨v1,v2,S1,S2,e1,e2,hr _ _ _ h1,Qp4 hr h2⟩
theorem Qc9: ∀{T:Ty} {x:T.den} {vs:List Value} {S:List Nat},Zr5 T=true→rd w X B false T x vs S→rd w X B false (Zwb T) (Qiy T x) vs S
 | .unit,_,_,_,_,h=>h
 | .int _,x,_,_,_,⟨h1,h2⟩=>⟨by rw[h1];rfl,x,h1,h2⟩
 | .bool,x,_,_,_,⟨h1,h2⟩=>⟨by rw[h1];rfl,x,h1,h2⟩
 | .str,x,_,_,_,⟨h1,h2⟩=>⟨by rw[h1];rfl,x,h1,h2⟩
 | .slice _ t,x,_,_,hk,⟨v,xs,S1,S2,e,e2,h1,h2⟩=>by
  refine⟨v,xs,S1,S2,e,e2,?_,Qp4 (r:=rd w X B false t) (r':=rd w X B false (Zwb t)) (fun _ _ _ h=>Qc9 (T:=t) hk h) h2⟩
  rw[Zxu]
  simpa[Qiy]using h1
 | .pair a b,_,_,_,hk,⟨v1,v2,S1,S2,e,e2,h1,h2⟩=>by
  simp only[Zr5,Bool.and_eq_true]at hk
  exact⟨v1,v2,S1,S2,e,e2,Qc9 hk.1 h1,Qc9 hk.2 h2⟩
 | .arr n t,x,_,_,hk,⟨h,h'⟩=>⟨by simpa[Qiy]using h,Qp4 (r:=rd w X B false t) (r':=rd w X B false (Zwb t)) (fun _ _ _ h=>Qc9 (T:=t) hk h) h'⟩
 | .fnc _,_,_,_,hk,_| .err,_,_,_,hk,_| .hid _,_,_,_,hk,_| .sptr ..,_,_,_,hk,_| .clo ..,_,_,_,hk,_=>by simp[Zr5]at hk
theorem Q05{T:Ty}(vs:List Value):Xz (Zwb T) vs=Xz T vs:=by cases T<;>rfl
theorem Z13: ∀{T:Ty} {x:T.den} {vs:List Value} {S:List Nat},Zr5 T=true→rd w X B true T x vs S→ ∀b∈S,Zsi w b
 | .unit,_,_,_,_,h| .int _,_,_,_,_,h| .bool,_,_,_,_,h| .str,_,_,_,_,h=>by simp[h.2]
 | .slice _ t,x,_,_,hk,⟨v,xs,S1,S2,e,e2,h1,h2⟩=>by
  intro b hb
  rw[e2]at hb
  rcases List.mem_append.1 hb with hb|hb
  ·obtain⟨h3,h4⟩:=h1
   rw[h4]at hb
   rcases h3.2 with⟨rfl,_⟩| ⟨g,cap,cur,rfl,_,hg,_⟩
   ·simp[Value.ownBlock]at hb
   ·simp only[Value.ownBlock,Option.toList_some,List.mem_singleton]at hb
    subst hb
    exact⟨cur,_,hg⟩
  ·exact Z19 (r:=rd w X B true t) (fun _ _ _ h=>Z13 (T:=t) hk h) h2 b hb
 | .pair a b,_,_,_,hk,⟨v1,v2,S1,S2,e,e2,h1,h2⟩=>by
  simp only[Zr5,Bool.and_eq_true]at hk
  intro b hb
  rw[e2]at hb
  exact(List.mem_append.1 hb).elim (Z13 hk.1 h1 b) (Z13 hk.2 h2 b)
 | .arr n t,x,_,_,hk,⟨h,h'⟩=>Z19 (r:=rd w X B true t) (fun _ _ _ h=>Z13 (T:=t) hk h) h'
 | .fnc _,_,_,_,hk,_| .err,_,_,_,hk,_| .hid _,_,_,_,hk,_| .sptr ..,_,_,_,hk,_| .clo ..,_,_,_,hk,_=>by simp[Zr5]at hk
theorem Qwr{w':World}{B':Nat}(hB:B'≤B): ∀{ts:List Ty} {x:Kb ts} {rs:List Value} {S:List Nat},Zdq w' B ts x rs S→(∀b∈S,B≤b∧b<w'.heap.size)∧Zdq w' B' ts x rs S:=by
 intro ts
 induction ts with
 |nil=>intro x rs S h;exact⟨by simp[h.2],h⟩
 |cons t ts ih=>
  intro x rs S ⟨cs,us,S1,S2,e1,e2,g1,g2⟩
  obtain⟨k1,k2⟩:=ih g2
  refine⟨fun b hb=> ?_,cs,us,S1,S2,e1,e2,Zbu hB (fun _ h=>h) g1,k2⟩
  rw[e2]at hb
  rcases List.mem_append.1 hb with hb|hb
  ·exact Zsj g1 b hb
  ·exact k1 b hb
theorem Zyi: ∀{T:Ty} {x:T.den} {vs:List Value} {S:List Nat},rd w X B true T x vs S→rd w X' B true T x vs S
 | .unit,_,_,_,h| .int _,_,_,_,h| .bool,_,_,_,h| .fnc _,_,_,_,h| .str,_,_,_,h| .err,_,_,_,h=>h
 | .slice _ t,_,_,_,⟨v,xs,S1,S2,e,e2,h1,h2⟩=>⟨v,xs,S1,S2,e,e2,h1,Kt h2 fun _ _ _ _ _ h=>Zyi (T:=t) h⟩
 | .pair a b,_,_,_,⟨v1,v2,S1,S2,e,e2,h1,h2⟩=>⟨v1,v2,S1,S2,e,e2,Zyi h1,Zyi h2⟩
 | .arr n t,_,_,_,⟨h,h'⟩=>⟨h,Kt h' fun _ _ _ _ _ h=>Zyi (T:=t) h⟩
 | .hid _,_,_,_,⟨e,y,h⟩=>⟨e,y,Zyi h⟩
 | .sptr ..,_,_,_,⟨_,o,_⟩=>by simp at o
 | .clo ..,_,_,_,⟨e,cs,h1,h2⟩=>⟨e,cs,h1,Zyi h2⟩
theorem Qwt(h:R n W0 w X F H s a){T:Ty}{y:T.den}{vs:List Value}{S:List Nat}{rest:List Operand}(hk:Zr5 T=true)(hrd:rd w X W0.B true T y vs S): ∀{ts:List Ty} {us:Kb ts},Qzy s T y rest ts=some us→
  Zoe w (· ∈S) 0 ts us (Xz T vs::rest.map a.eval)
 | [],_,hr=>by simp[Qzy]at hr
 |t::ts,us,hr=>by
  simp only[Qzy]at hr
  split at hr
  ·rename_i u us' hu hus hf
   simp only[Option.some.injEq]at hr
   subst hr
   unfold Kq at hu
   split at hu
   ·rename_i e
    subst e
    simp only[Option.some.injEq]at hu
    subst hu
    refine⟨vs,_,by rw[Q05],?_,Z12 hf (Zpj h (tg:=[]) (fun p hp=>by cases hp) hus)⟩
    have hS:rd w (fun _=>False) W0.B true T y vs S:=Zyi hrd
    exact Qc9 hk (Je (Ze3 (X':=(· ∈S)) (fun b hb=>hb.elim) hS (fun b hb=>hb)) (by simp))
   ·cases hu
  ·cases hr
theorem Qx3(h:R n W0 w X F [] s a){x:Operand}{q:Nat}(hq:Z85 s (op1 s [] x)=some q){T:Ty}{y:T.den}{t:Tm}(hg:Qt4 (s.get (.m q))=some (⟨T,y⟩,t)):
  ∃vs S S2,a.eval x=Xz T vs∧rd w X W0.B true T y vs S∧(∀b∈S++S2,b∈F (.m q))∧(S++S2).Nodup∧R n W0 w X (Qf F (.m q) S2) [] (Ka s q t) a:=by
 cases hs:s.get (.m q)with
 |val U f z=>
  rw[hs]at hg
  cases f with
  |u b=>
   cases b
   ·cases hg
   ·simp only[Qt4,Option.some.injEq,Prod.mk.injEq]at hg
    obtain⟨h1,rfl⟩:=hg
    cases h1
    have hev:=Qdc h hq hs
    have hsl:=h.slots (.m q)
    rw[hs]at hsl
    obtain⟨vs,hv,hrd⟩:=hsl
    unfold rdF at hrd
    refine⟨vs,F (.m q),[],by rw[hev];exact hv,hrd,by simp,by simpa using h.nodup _,?_⟩
    exact h.turn (S':=[]) (H':=[]) h.below (Nat.le_refl _) (fun _ _=>rfl) (fun _ _ _ _=>rfl) (by simp) (by simp) (by rw[hs];simp) (fun e T f x b S hb=>by rw[hs]at hb;cases hb)
     ⟨vs,hv,by unfold rdF;exact⟨Yj hrd,Zku hrd,rfl⟩⟩
  |p _ _=>cases hg
  |d=>cases hg
 |box e U f z=>
  rw[hs]at hg
  cases f with
  |u b=>
   cases b
   ·cases hg
   ·simp only[Qt4,Option.some.injEq,Prod.mk.injEq]at hg
    obtain⟨h1,rfl⟩:=hg
    cases h1
    have hsl:=h.slots (.m q)
    rw[hs]at hsl
    obtain⟨b,c,S,g1,g2,g3,g4⟩:=hsl
    unfold rdF at g4
    have hnd:=h.nodup (.m q)
    rw[g2]at hnd
    have hev:a.eval x=Xz T c.toList:=by
     unfold Z85 at hq
     split at hq
     ·rename_i k U2 f2 z2 hx
      simp only[Option.some.injEq]at hq
      subst hq
      cases x<;>simp only[op1]at hx<;>first|cases hx|skip
      simp only[Op1.tm.injEq]at hx
      obtain⟨rfl,hx⟩:=hx
      rw[hs]at hx
      cases hx
     ·rename_i k r hx
      split at hq
      ·rename_i hfl
       simp only[Option.some.injEq]at hq
       subst hq
       obtain⟨_,_,hv⟩:=Kr h (tg:=[]) (fun p hp=>by cases hp) hx (by simp)
       obtain⟨U,hv⟩:=hv hfl
       unfold Yn at hv
       rw[hs]at hv
       obtain⟨b',c',S',y',k1,k2,k3,rfl,k5⟩:=hv
       rw[g2]at k1
       obtain⟨rfl,_⟩:=List.cons.inj k1
       rw[g3]at k2
       simp only[Option.some.injEq,Obj.cells.injEq]at k2
       obtain⟨rfl,_⟩:=k2
       simp only[Zkj,Option.some.injEq]at k3
       subst k3
       rw[k5]
       have e0:Zaa T []=0:=by cases T<;>rfl
       have hl:=Yj g4
       simp only[e0,List.drop_zero]
       rw[List.take_of_length_le (by omega)]
      ·cases hq
     ·cases hq
    refine⟨c.toList,S,[b],hev,g4,fun b' hb=>by rw[g2];rcases List.mem_append.1 hb with hb|hb<;>simp at hb⊢ <;>simp[hb],?_,?_⟩
    ·refine List.nodup_append.2 ⟨(List.nodup_cons.1 hnd).2,by simp,fun x hx y hy e=> ?_⟩
     simp only[List.mem_singleton]at hy
     subst hy;subst e
     exact(List.nodup_cons.1 hnd).1 hx
    ·exact h.turn (S':=[b]) (H':=[]) h.below (Nat.le_refl _) (fun _ _=>rfl) (fun _ _ _ _=>rfl) (by rw[g2];simp) (by simp) (by rw[hs];simp) (fun e' T' f' x' b' S' hb hF=>by
      rw[hs]at hb;cases hb;rw[g2]at hF;obtain⟨rfl,_⟩:=List.cons.inj hF;exact⟨_,_,[],rfl,rfl⟩)
      ⟨b,c,[],g1,rfl,g3,by unfold rdF;exact⟨Yj g4,Zku g4,rfl⟩⟩
  |p _ _=>cases hg
  |d=>cases hg
 |_=>rw[hs]at hg;cases hg
theorem Q1o{ρ:Type}{Γ:Zv8}(hΓ:Γ.ok P)(h:R n W0 w X F [] s a){f:FuncId}{fo:Operand}(hfo:a.eval fo= .func (.func f) #[] #[]){xs:Array Operand}{ats:Array TypeId}(ho:o.op= .call {callee:= .value fo,args:=xs,argTypes:=ats}){k:St→Option ρ}{r:ρ}(hr:wrK Γ n s o.dst f xs.toList k=some r)
  {K:Act→World→Prop} {Q:Exit→Act→World→Prop} (hK: ∀v w' X' F' s',k s'=some r→R n W0 w' X' F' [] s' (a.put o.dst v)→K (a.put o.dst v) w'):o.wp P a w K Q:=by
 unfold wrK at hr
 split at hr
 ·rename_i e x0 rest he hxs
  obtain⟨rfl,hok⟩:=Zv8.find_ok hΓ he
  split at hr
  ·rename_i q hq
   split at hr
   ·rename_i T y t hg
    split at hr
    ·rename_i us d hk hus hd
     split at hr
     ·rename_i hdn
      simp only[Bool.and_eq_true,Nat.blt_eq]at hdn
      simp only[Option.bind_eq_some_iff]at hr
      obtain⟨z,hz,hk2⟩:=hr
      obtain⟨vs,S0,S2,hev,hrd,hsub,hnd2,hR0⟩:=Qx3 h hq hg
      have hlt: ∀b∈S0,b<w.heap.size:=fun b hb=>(h.own _ _ (hsub b (by simp[hb]))).2.1
      have hargs:=Qwt h hk hrd hus
      have hrest:xs.toList.map a.eval=Xz T vs::rest.map a.eval:=by rw[hxs,List.map_cons,hev]
      rw[←hrest]at hargs
      have hc:=hok.calls w (· ∈S0) us z (xs.toList.map a.eval) (fun b hb=>Z13 hk hrd b hb) hargs hz
      have hrun: (execOp a.eval o).run P w= .ok (.enter e.f (xs.toList.map a.eval).toArray) w:=by
       have:execOp a.eval o=callFunc e.f (xs.map a.eval):=by
        simp only[execOp,ho,resolve,hfo,Deferred.ofValue]
        simp[invoke]
       rw[this,hok.enters]
       congr 2
       apply Array.toList_inj.mp
       simp
      unfold Oper.wp
      rw[hrun,Oper.upon_enter]
      refine hc.mono fun en w' ⟨rs,S,hen,hres,hnd,h1,h2,h3,h4,h5,_,_⟩=> ?_
      subst hen
      show K (a.put o.dst (X8 rs)) w'
      obtain⟨hfresh,hres'⟩:=Qwr h.below.sizeB hres
      have hbl:W0.below w':=⟨h1.trans h.below.os,h2.trans h.below.tape,h3.trans h.below.output,Nat.le_trans h.below.size h4,fun b hb=>
       (h5 b (Nat.lt_of_lt_of_le (W0.yW b hb) h.below.size) fun hm=>W0.sep hb (h.own _ _ (hsub b (by simp[hm]))).1 rfl).trans (h.below.block b hb)⟩
      have hR1:R n W0 w' X (Qf F (.m q) S2) [] (Ka s q t) a:=hR0.world hbl h4 (fun b hb=>h5 b (h.xlt b hb) fun hm=>(h.own _ _ (hsub b (by simp[hm]))).2.2 hb) (fun k b hb=>by
       have hb2:=hR0.own k b hb
       refine h5 b hb2.2.1 fun hm=> ?_
       simp only[Qf]at hb
       split at hb
       ·exact(List.nodup_append.1 hnd2).2.2 b hm b hb rfl
       ·rename_i hne
        exact hne (h.disj _ _ b hb (hsub b (by simp[hm]))))
      have hR2:R n W0 w' X (Qf F (.m q) S2) (S++ []) (Ka s q t) a:=hR1.hand (fun b hb=>⟨.inl (Nat.le_trans h.below.size (hfresh b hb).1),(hfresh b hb).2,fun hx=>by have:=h.xlt b hx;have:=(hfresh b hb).1;omega⟩) hnd
       (fun k b hb hm=>by have:=(hR0.own k b hb).2.1;have:=(hfresh b hm).1;omega) (fun b hb hm=>by cases hm)
      obtain⟨F',hF'⟩:=hR2.putRes hdn.1 hdn.2 hres'
      have hK':=hK (X8 rs) w' X F' _ hk2
      rw[hd]at hK'⊢
      exact hK' hF'
     ·cases hr
    ·cases hr
   ·cases hr
  ·cases hr
 ·cases hr
theorem Z6f(h:R n W0 w X F H s a): ∀{ts:List Ty} {xs:List Operand} {us:Kb ts},Z3q s ts xs=some us→Zoe w X 0 ts us (xs.map a.eval)
 | [],[],us,_=>rfl
 |t::ts,x::xs,us,hr=>by
  simp only[Z3q]at hr
  split at hr
  ·rename_i u us' hu hus
   simp only[Option.some.injEq]at hr
   subst hr
   obtain⟨cs,h1,h2⟩:=Zyj h hu
   exact⟨cs,_,by simp[h1],h2,Z6f h hus⟩
  ·cases hr
 | [],_::_,_,hr=>by simp[Z3q]at hr
 |_::_,[],_,hr=>by simp[Z3q]at hr
theorem Quw{w0:World}{L:Nat→Prop}(hg:g=Zr1 w0 L)(h:R n W0 w X F H s a): (∀b,X b↔L b)∧g.soft=true:=by
 subst hg
 exact⟨fun b=>⟨h.xs rfl b,h.gx b⟩,rfl⟩
theorem Qs0{w0:World}{L:Nat→Prop}(hg:g=Zr1 w0 L)(h:R n W0 w X F H s a)(hso:Zmn X w w')(hpl: ∀b,X b→Zsi w' b):g.G w':=by
 obtain⟨hX,_⟩:=Quw hg h
 have hXL:X=L:=funext fun b=>propext (hX b)
 subst hg
 subst hXL
 exact⟨h.glob.1.trans hso,hpl⟩
theorem Qqe{w0:World}{L:Nat→Prop}(hg:g=Zr1 w0 L)(h:R n W0 w X F H s a)(hos:w'.os=w.os)(htape:w'.tape=w.tape)(hout:w'.output=w.output)(hsz:w.heap.size≤w'.heap.size)(hb: ∀b,b<w.heap.size→ ¬X b→w'.heap[b]? =w.heap[b]?):W0.below w':=by
 obtain⟨hX,hs⟩:=Quw hg h
 refine⟨hos.trans h.below.os,htape.trans h.below.tape,hout.trans h.below.output,Nat.le_trans h.below.size hsz,fun k hk=>(hb k (Nat.lt_of_lt_of_le (W0.yW k hk) h.below.size) fun hx=>W0.fr hs k (h.xs hs k hx) hk).trans (h.below.block k hk)⟩
theorem Q1p{ρ:Type}{Γ:Zv8}(hΓ:Γ.ok P){w0:World}{L:Nat→Prop}(hg:g=Zr1 w0 L)(h:R n W0 w X F [] s a){f:FuncId}{fo:Operand}(hfo:a.eval fo= .func (.func f) #[] #[]){xs:Array Operand}{ats:Array TypeId}(ho:o.op= .call {callee:= .value fo,args:=xs,argTypes:=ats}){k:St→Option ρ}{r:ρ}(hr:wsK Γ n s o.dst f xs.toList k=some r)
  {K:Act→World→Prop} {Q:Exit→Act→World→Prop} (hK: ∀v w' X' F' s',k s'=some r→R n W0 w' X' F' [] s' (a.put o.dst v)→K (a.put o.dst v) w'):o.wp P a w K Q:=by
 unfold wsK at hr
 split at hr
 ·rename_i e d he hd
  obtain⟨rfl,hok⟩:=Zv8.find_ok hΓ he
  split at hr
  ·rename_i us hus hdn
   simp only[Bool.and_eq_true,Nat.blt_eq]at hdn
   simp only[Option.bind_eq_some_iff]at hr
   obtain⟨z,hz,hk2⟩:=hr
   obtain⟨hX,hsf⟩:=Quw hg h
   have hpl: ∀b,X b→Zsi w b:=fun b hb=>by
    have:=h.glob
    have hb':=(hX b).1 hb
    subst hg
    exact this.2 b hb'
   have hc:=hok.calls w X us z (xs.toList.map a.eval) hpl (Z6f h hus) hz
   have hrun: (execOp a.eval o).run P w= .ok (.enter e.f (xs.toList.map a.eval).toArray) w:=by
    have:execOp a.eval o=callFunc e.f (xs.map a.eval):=by
     simp only[execOp,ho,resolve,hfo,Deferred.ofValue]
     simp[invoke]
    rw[this,hok.enters]
    congr 2
    apply Array.toList_inj.mp
    simp
   unfold Oper.wp
   rw[hrun,Oper.upon_enter]
   refine hc.mono fun en w' ⟨rs,S,hen,hres,hnd,h1,h2,h3,h4,h5,h6,h7⟩=> ?_
   subst hen
   show K (a.put o.dst (X8 rs)) w'
   obtain⟨hfresh,hres'⟩:=Qwr h.below.sizeB hres
   have hR1:R n W0 w' X F [] s a:=h.soft hdn.2 (Qs0 hg h h6 h7) (Qqe hg h h1 h2 h3 h4 h5) h4 h5 h6
   have hR2:R n W0 w' X F (S++ []) s a:=hR1.hand (fun b hb=>⟨.inl (Nat.le_trans h.below.size (hfresh b hb).1),(hfresh b hb).2,fun hx=>by have:=h.xlt b hx;have:=(hfresh b hb).1;omega⟩) hnd
    (fun k b hb hm=>by have:=(h.own k b hb).2.1;have:=(hfresh b hm).1;omega) (fun b hb hm=>by cases hm)
   obtain⟨F',hF'⟩:=hR2.putRes hdn.1.1 hdn.1.2 hres'
   have hK':=hK (X8 rs) w' X F' _ hk2
   rw[hd]at hK'⊢
   exact hK' hF'
  ·cases hr
 ·cases hr
theorem Qyt{T:Ty}(hT:Zq7 T=true){x:T.den}{vs:List Value}{S:List Nat}(h:rd w X B own T x vs S): ∃u,vs=[u]∧Xz T vs=u:=by
 cases T<;>simp[Zq7]at hT<;>exact⟨_,h.1,by rw[h.1];rfl⟩
theorem Qw1{T:Ty}(hT:Zq7 T=true){x y:T.den}{u v:Value}{S S':List Nat}(h:rd w X B own T x [u] S)(h':rd w X' B' own T y [v] S'):Zwz u v:=by
 cases T<;>simp[Zq7]at hT
 ·have e1:=(List.cons.inj h.1).1;have e2:=(List.cons.inj h'.1).1;subst e1;subst e2;exact .inr (.inl ⟨_,_,_,rfl,rfl⟩)
 ·have e1:=(List.cons.inj h.1).1;have e2:=(List.cons.inj h'.1).1;subst e1;subst e2;exact .inr (.inr (.inl ⟨_,_,rfl,rfl⟩))
 ·have e1:=(List.cons.inj h.1).1;have e2:=(List.cons.inj h'.1).1;subst e1;subst e2;exact .inr (.inr (.inr ⟨_,_,rfl,rfl⟩))
theorem Qly(hτ:τ.ok P){w0:World}{L:Nat→Prop}(hg:g=Zr1 w0 L)(h:R n W0 w X F H s a){e:TypeId}{x v:Operand}(ho:o.op= .store e x v)(hd:o.dst=none){s':St}(hr:Qhv τ s e x v=some s')
  {K:Act→World→Prop} {Q:Exit→Act→World→Prop} (hK: ∀w',R n W0 w' X F H s' a→K a w'):o.wp P a w K Q:=by
 unfold Qhv at hr
 split at hr
 ·cases hr
 ·rename_i T hT
  split at hr
  ·rename_i kk t y hx
   split at hr
   ·rename_i u hc hu
    simp only[Option.some.injEq]at hr
    subst hr
    simp only[Bool.and_eq_true,decide_eq_true_eq]at hc
    obtain⟨⟨rfl,hsc⟩,hl⟩:=hc
    obtain⟨vs,h1,h2⟩:=Vt h (tg:=[]) (fun p hp=>by cases hp) hu
    obtain⟨u1,rfl,h3⟩:=Qyt hsc h2
    obtain⟨_,_,ad,cs,k1,k2,k3,⟨k4,y',k5⟩⟩:=Kr h (tg:=[]) (fun p hp=>by cases hp) hx (by simp)
    obtain⟨u0,rfl⟩:=List.length_eq_one_iff.1 k4
    have hcell:=k3 0 u0 rfl
    have had:ad.add 0=ad:=rfl
    rw[had]at hcell
    obtain⟨hX,hsf⟩:=Quw hg h
    have hpl:Zsi w ad.block:=by
     have:=h.glob
     have hb':=(hX _).1 k2
     subst hg
     exact this.2 _ hb'
    obtain⟨c,e0,hh⟩:=hpl
    obtain⟨b,off,spot⟩:=ad
    simp only at hh k2
    unfold World.cell? at hcell
    simp only[hh]at hcell
    cases spot with
    |some sp=>simp at hcell
    |none=>
     simp only[Option.isSome_none,Bool.false_eq_true,if_false]at hcell
     have hlt:off<c.size:=(Array.getElem?_eq_some_iff.1 hcell).1
     have hst:=run_storeCells_at P b off e0 [u1] 0 c w hh (by simp;omega) (Zku h2)
     generalize hcc: (c.toList.take (off+0)++ [u1]++c.toList.drop (off+0+ [u1].length)).toArray=cc at hst
     have hhc:=setRow_heap w b c cc e0 _ hh
     have hother: ∀k,k≠b→(w.setRow b cc).heap[k]? =w.heap[k]? :=fun k hk=>by
      simp only[World.setRow]
      rw[Array.getElem?_modify]
      simp[Ne.symm hk]
     have hso:Zmn X w (w.setRow b cc):=fun ad' u' hL hu'=>by
      obtain⟨b',off',spot'⟩:=ad'
      by_cases hb:b'=b
      ·subst hb
       unfold World.cell? at hu'⊢
       simp only[hh,hhc]at hu'⊢
       cases spot' with
       |some sp=>simp at hu'
       |none=>
        simp only[Option.isSome_none,Bool.false_eq_true,if_false]at hu'⊢
        have hl':off'<c.size:=(Array.getElem?_eq_some_iff.1 hu').1
        by_cases ho':off'=off
        ·subst ho'
         rw[hcell]at hu'
         simp only[Option.some.injEq]at hu'
         subst hu'
         refine⟨u1,?_,Qw1 hsc k5 h2⟩
         rw[←hcc,←Array.getElem?_toList]
         simp only[Nat.add_zero,List.append_assoc]
         rw[List.getElem?_append_right (by simp;omega)]
         simp[Nat.min_eq_left (Nat.le_of_lt hlt)]
        ·refine⟨u',?_,Zwz.refl _⟩
         rw[←hcc,←Array.getElem?_toList]
         simp only[Nat.add_zero,List.append_assoc]
         rw[←Array.getElem?_toList]at hu'
         rcases Nat.lt_or_ge off' off with hlo|hlo
         ·rw[List.getElem?_append_left (by simp;omega),List.getElem?_take]
          simp[hlo,hu']
         ·rw[List.getElem?_append_right (by simp;omega)]
          have e1: (List.take off c.toList).length=off:=by simp;omega
          rw[e1]
          obtain⟨m,hm⟩: ∃m,off'-off=m+1:=⟨off'-off-1,by omega⟩
          rw[hm]
          simp only[List.cons_append,List.nil_append,List.getElem?_cons_succ,List.length_cons,List.length_nil,Nat.zero_add,List.getElem?_drop]
          rw[show off+1+m=off' by omega]
          exact hu'
      ·exact⟨u',by rw[World.cell?_of_block (w:=w) (hother b' hb)];exact hu',Zwz.refl _⟩
     have hpl': ∀k,X k→Zsi (w.setRow b cc) k:=fun k hk=>by
      by_cases hb:k=b
      ·subst hb;exact⟨_,_,hhc⟩
      ·have hp:Zsi w k:=by
        have:=h.glob
        have hb':=(hX _).1 hk
        subst hg
        exact this.2 _ hb'
       obtain⟨c',e',hc'⟩:=hp
       exact⟨c',e',by rw[hother k hb];exact hc'⟩
     have hsz: (w.setRow b cc).heap.size=w.heap.size:=by simp[World.setRow]
     have hout: ∀k,k<w.heap.size→ ¬X k→(w.setRow b cc).heap[k]? =w.heap[k]? :=fun k _ hk=>hother k fun e=>hk (by rw[e];exact k2)
     have hR:=h.soft hl (Qs0 hg h hso hpl') (Qqe hg h rfl rfl rfl (by omega) hout) (by omega) hout hso
     have hcells:=Qc4 (Zku h2) (Yj h2)
     have hrun: (execOp a.eval o).run P w= .ok .skip (w.setRow b cc):=by
      simp only[execOp,ho,k1,h1,Instr.storeAt,Instr.sureAddr,storeVar,hcells,Sem.run_bind,Sem.run_pure,Result.andThen_ok,(hτ _ _ hT).sizeOf w]
      have:=Yj h2
      simp only[List.length_cons,List.length_nil]at this
      simp[←this,hst]
     unfold Oper.wp
     rw[hrun]
     show K (a.put o.dst _) _
     rw[hd]
     exact hK _ hR
   ·cases hr
  ·cases hr
end
end Go.Am
namespace Go.Am
open Go.RowKit
def ppB(P:Program)(e e2:TypeId):Bool:=
 match P.underlying e,P.info? e2,P.underlying e2 with
 |some (.slice e3),some i,some (.pointer e4)=>Nat.beq e3 e2&& (Nat.beq i.size 1&& (Nat.ble i.bytes 8192&& (match i.zero with|some (.pointer none)=>true|_=>false)))&& (match P.info? e4 with|some i=>Nat.blt 0 i.size|none=>false)
 |_,_,_=>false
def erB(P:Program)(e:TypeId):Bool:=match P.underlying e with|some (.interface _)=>true|_=>false
structure Zkg where
 pp:List (TypeId×TypeId):=[]
 er:List TypeId:=[]
def Zkg.elem(t:Zkg)(e:TypeId):Option TypeId:=(t.pp.find? fun p=>Nat.beq p.1 e).map (·.2)
def Zkg.isPtr(t:Zkg)(e:TypeId):Bool:=t.pp.any fun p=>Nat.beq p.2 e
def Zkg.isErr(t:Zkg)(e:TypeId):Bool:=t.er.any (Nat.beq e)
structure Zkg.ok(t:Zkg)(P:Program):Prop where
 pp: ∀p∈t.pp,ppB P p.1 p.2=true
 er: ∀e∈t.er,erB P e=true
theorem Qc5{P:Program}{e e2:TypeId}(h:ppB P e e2=true):P.underlying e=some (.slice e2)∧(∃i,P.info? e2=some i∧i.size=1∧i.bytes≤8192∧i.zero=some (.pointer none))∧ ∃e4 i,P.underlying e2=some (.pointer e4)∧P.info? e4=some i∧0<i.size:=by
 unfold ppB at h
 split at h
 ·rename_i e3 i e4 h1 h2 h3
  simp only[Bool.and_eq_true]at h
  obtain⟨⟨g1,g2,g3,g4⟩,g5⟩:=h
  have:=Nat.eq_of_beq_eq_true g1
  subst this
  refine⟨h1,⟨i,h2,Nat.eq_of_beq_eq_true g2,by simpa using g3,?_⟩,?_⟩
  ·split at g4
   ·assumption
   ·cases g4
  ·split at g5
   ·rename_i i4 h4;exact⟨e4,i4,h3,h4,by simp[Nat.blt]at g5;omega⟩
   ·cases g5
 ·cases h
theorem Zkg.elem_ok{t:Zkg}{P:Program}(h:t.ok P){e e2:TypeId}(he:t.elem e=some e2):ppB P e e2=true:=by
 unfold Zkg.elem at he
 simp only[Option.map_eq_some_iff]at he
 obtain⟨p,hp,rfl⟩:=he
 have h1:=List.find?_some hp
 have:=h.pp p (List.mem_of_find?_eq_some hp)
 rwa [Nat.eq_of_beq_eq_true h1]at this
theorem Zkg.isPtr_ok{t:Zkg}{P:Program}(h:t.ok P){e:TypeId}(he:t.isPtr e=true): ∃e4 i,P.underlying e=some (.pointer e4)∧P.info? e4=some i∧0<i.size:=by
 unfold Zkg.isPtr at he
 rw[List.any_eq_true]at he
 obtain⟨p,hp,hb⟩:=he
 have:=(Qc5 (h.pp p hp)).2.2
 rwa [Nat.eq_of_beq_eq_true hb]at this
theorem Zkg.isErr_ok{t:Zkg}{P:Program}(h:t.ok P){e:TypeId}(he:t.isErr e=true): ∃ms,P.underlying e=some (.interface ms):=by
 unfold Zkg.isErr at he
 rw[List.any_eq_true]at he
 obtain⟨p,hp,hb⟩:=he
 have:=h.er p hp
 rw[←Nat.eq_of_beq_eq_true hb]at this
 unfold erB at this
 split at this
 ·rename_i ms hm;exact⟨ms,hm⟩
 ·cases this
section
variable {P:Program} {g:Y4} {W0:Zct g} {w w':World} {X X':Nat→Prop} {B B' n:Nat} {own:Bool} {s:St} {F:Key→List Nat} {a:Act} {H H':List Nat} {o:Oper} {tg:Xm} {τ:Tab} {pt:Zkg}
def Qwo(s:St)(tg:Xm):Nat→List (Nat×Operand)→Option (List (Nat×List Nat))
 |_,[]=>some []
 |k,(i,y)::r=>match Nat.beq i k,op1 s tg y with
  |true,.tm _ (.ptr q p)=>match Qwo s tg (k+1) r with
   |some l=>some ((q,p)::l)
   |none=>none
  |_,_=>none
theorem Qi9(h:R n W0 w X F H s a)(ht:tg.ok a): ∀{parts:List (Nat×Operand)} {k:Nat} {l:List (Nat×List Nat)} {cs:Array Value} {A M:List Value},
  Qwo s tg k parts=some l→cs.toList=A++M→A.length=k→M.length=parts.length→
  ∃us cs',Instr.fill (fun i=>some (i*1,1)) cs (parts.map fun p=>(p.1,a.eval p.2))=some cs'∧cs'.toList=A++us∧us.length=l.length∧l.length=parts.length∧ ∀(j:Nat) (q:Nat×List Nat),l[j]? =some q→ ∃u,us[j]? =some u∧atP s F q.1 q.2 u
 | [],k,l,cs,A,M,hl,hcs,hA,hM=>by
  simp only[Qwo,Option.some.injEq]at hl
  subst hl
  have:M=[]:=List.eq_nil_of_length_eq_zero hM
  subst this
  exact⟨[],cs,rfl,by simpa using hcs,rfl,rfl,by simp⟩
 | (i,y)::r,k,l,cs,A,M,hl,hcs,hA,hM=>by
  simp only[Qwo]at hl
  split at hl
  ·rename_i k' q p hik hy
   have hik:=Nat.eq_of_beq_eq_true hik
   subst hik
   split at hl
   ·rename_i l2 hl2
    simp only[Option.some.injEq]at hl
    subst hl
    obtain⟨_,hv⟩:=Kr h ht hy (by simp)
    obtain⟨_,e,T,f,x,b,S',h1,h2,h3⟩:=hv
    obtain⟨m0,M',rfl⟩: ∃m0 M',M=m0::M':=by
     cases M with
     |nil=>simp at hM
     |cons m0 M'=>exact⟨m0,M',rfl⟩
    have hc: (a.eval y).cells= #[a.eval y]:=by rw[h3];rfl
    obtain⟨cs1,g1,g2⟩:=Z3l (place:=fun i=>some (i*1,1)) (i:=i) (rest:=r.map fun p=>(p.1,a.eval p.2)) (v:=a.eval y) rfl (pre:=A) (mid:=[m0]) (post:=M') (by rw[hcs];simp) (by omega) rfl (by rw[hc];rfl)
    rw[hc]at g1
    obtain⟨us,cs',k1,k2,k3,k4,k5⟩:=Qi9 h ht (k:=i+1) (cs:=cs1) (A:=A++ [a.eval y]) (M:=M') hl2 (by rw[g1];simp) (by simp[hA]) (by simpa using hM)
    refine⟨a.eval y::us,cs',by rw[List.map_cons];rw[g2];exact k1,by rw[k2];simp,by simp[k3],by simp[k4],fun j q' hj=> ?_⟩
    cases j with
    |zero=>
     simp only[List.getElem?_cons_zero,Option.some.injEq]at hj
     subst hj
     exact⟨_,rfl,e,T,f,x,b,S',h1,h2,h3⟩
    |succ j=>exact k5 j q' (by simpa using hj)
   ·cases hl
  ·cases hl
def Qyn(pt:Zkg)(s:St)(tg:Xm)(e:TypeId)(len:Nat)(parts:Array (Nat×Operand)):Option Res:=
 match pt.elem e with
 |some _=>match Nat.beq parts.size len&& (Nat.blt 0 len&&Nat.ble len 16777216),Qwo s tg 0 parts.toList with
  |true,some l=>some ⟨.pls true l,s,true,none⟩
  |_,_=>none
 |none=>none
theorem Qup(hs:g.soft=false)(h:R n W0 w X F H s a)(ht:tg.ok a)(hp:pt.ok P){e:TypeId}{len:Nat}{parts:Array (Nat×Operand)}(ho:o.op= .buildSlice e len parts){r:Res}(hr:Qyn pt s tg e len parts=some r):Zoz P n W0 w X H s a o r:=by
 unfold Qyn at hr
 split at hr
 ·rename_i e2 he
  split at hr
  ·rename_i l hb hl
   simp only[Option.some.injEq]at hr
   subst hr
   simp only[Bool.and_eq_true,Nat.ble_eq]at hb
   obtain⟨hlen,hpos,hmax⟩:=hb
   have hlen:=Nat.eq_of_beq_eq_true hlen
   have hpos:0<len:=by simp[Nat.blt]at hpos;omega
   obtain⟨hu,⟨i,hi,his,_,hz⟩,_⟩:=Qc5 (Zkg.elem_ok hp he)
   intro _ K Q hK
   obtain⟨cs0,hcs0⟩: ∃cs0:Array Value,cs0=(Array.range (len*i.size)).map ((Value.pointer none).cells[· % (Value.pointer none).cells.size]!):=⟨_,rfl⟩
   obtain⟨us,cs',k1,k2,k3,k4,k5⟩:=Qi9 h ht (cs:=cs0) (A:=[]) (M:=cs0.toList) hl rfl rfl (by rw[hcs0];simp[his,hlen])
   have hll:l.length=len:=by rw[k4,Array.length_toList,hlen]
   have hrun: (execOp a.eval o).run P w= .ok (.value (.slice (some ⟨w.heap.size,0,none⟩) len len)) (w.alloc (.cells cs' e2)):=by
    simp only[execOp,ho,Sem.run_bind]
    rw[run_buildSlice w e e2 len _ cs' i _ hu hi hz (by rw[his];omega) (by rw[his];omega) (by rw[←hcs0];simpa[his]using k1)]
    simp
   unfold Oper.wp
   rw[hrun]
   have hcs:cs'.toList=us:=by simpa using k2
   have hR:=R.give (S:=[w.heap.size]) (H:=H) hs (h.alloc (.cells cs' e2))
   refine hK _ _ F [] _ (fun b hb=> .inl hb) hR ⟨rfl,⟨w.heap.size,0,none⟩,us,.inr (by simp),fun j u hj=> ?_,k3,fun j q hq=>k5 j q hq,⟨by rw[hll],by rw[hll];unfold maxLen;omega⟩⟩ (fun hm=>by cases hm) ⟨fun _=>Old.alloc _ _,h.kept (Old.alloc _ _)⟩
   rw[Zh9 (c:=cs') (e:=e2) _ (Qk9 _ _),←Array.getElem?_toList,hcs,Nat.zero_add]
   exact hj
  ·cases hr
 ·cases hr
def Qyd(pt:Zkg)(s:St)(tg:Xm)(e:TypeId)(x:Operand):Option Res:=
 match pt.elem e,op1 s tg x with
 |some _,.tm _ (.pls true l)=>some ⟨.val (.int .i64) (.u false) (l.length:Int),s,false,none⟩
 |_,_=>none
theorem Que(h:R n W0 w X F H s a)(ht:tg.ok a)(hp:pt.ok P){e:TypeId}{x:Operand}(ho:o.op= .call {callee:= .builtin .len,args:= #[x],argTypes:= #[e]}){r:Res}(hr:Qyd pt s tg e x=some r):W1 P τ W0 w X F s a o r:=by
 unfold Qyd at hr
 split at hr
 ·rename_i e2 k l he hx
  simp only[Option.some.injEq]at hr
  subst hr
  obtain⟨_,hv⟩:=Kr h ht hx (by simp)
  obtain⟨_,ad,us,_,_,_,_,hv,_⟩:=hv
  refine Yk rfl fun _=>⟨_,fun w' _=> ?_,Zv5 _ _⟩
  simp only[execOp,ho]
  simp[resolve,invoke,builtin,hv,Builtin.len_,run_underlying (Qc5 (Zkg.elem_ok hp he)).1,goInt]
 ·cases hr
def Qx8(pt:Zkg)(s:St)(tg:Xm)(e:TypeId)(x i:Operand):Option Res:=
 match pt.elem e,op1 s tg x,Zpk s (op1 s tg i)with
 |some _,.tm _ (.pls true l),some (_,j)=>match decide (0≤j),l.drop j.toNat with
  |true,q::r=>some ⟨.pls false (q::r),s,false,none⟩
  |_,_=>none
 |_,_,_=>none
theorem Qt5(h:R n W0 w X F H s a)(ht:tg.ok a)(hp:pt.ok P){e:TypeId}{x i:Operand}(ho:o.op= .indexAddr e x i){r:Res}(hr:Qx8 pt s tg e x i=some r):W1 P τ W0 w X F s a o r:=by
 unfold Qx8 at hr
 split at hr
 ·rename_i e2 k l k2 j he hx hj
  split at hr
  ·rename_i q l2 h0 hl
   simp only[Option.some.injEq]at hr
   subst hr
   have h0:0≤j:=of_decide_eq_true h0
   have e3:=Zc7 h ht hj
   obtain⟨_,hv⟩:=Kr h ht hx (by simp)
   obtain⟨_,ad,us,h1,h2,h3,h4,hv,hm⟩:=hv
   obtain⟨hu,⟨i',hi,his,hby,_⟩,_⟩:=Qc5 (Zkg.elem_ok hp he)
   have hlt:j.toNat<l.length:=by
    apply Nat.lt_of_not_le
    intro hle
    rw[List.drop_eq_nil_of_le hle]at hl;cases hl
   have hsz: ∀w,(sizeOf e2).run P w= .ok 1 w:=fun w=>by simp[sizeOf,typeInfo,hi,his]
   refine Yk rfl fun _=>⟨.pointer (some (ad.add j.toNat)),fun w' _=> ?_,rfl,ad.add j.toNat,us.drop j.toNat,?_,fun m u hm=> ?_,by rw[List.length_drop,h3,←hl,List.length_drop],fun m q' hq=> ?_,rfl⟩
   ·have hrun: (Instr.indexAt e (.slice (some ad) l.length l.length) (.int k2 j)).run P w'= .ok (.pointer (some (ad.add j.toNat))) w':=by
     simp only[Instr.indexAt,Sem.run_bind,asIntOf,Sem.run_pure,Result.andThen_ok,run_underlying hu]
     have:j<l.length:=by omega
     simp[h0,this,hsz w']
    simp only[execOp,ho,hv,e3,Sem.run_bind,hrun,Result.andThen_ok,Sem.run_pure]
   ·have: (ad.add j.toNat).block=ad.block:=by unfold Addr.add;split<;>rfl
    rw[this];exact h1
   ·rw[Addr.add_add'];apply h2;rw[←hm,List.getElem?_drop]
   ·rw[←hl,List.getElem?_drop]at hq
    obtain⟨u,hu',ha⟩:=h4 _ _ hq
    exact⟨u,by rw[List.getElem?_drop];exact hu',ha⟩
  ·cases hr
 ·cases hr
def Qug(pt:Zkg)(s:St)(tg:Xm)(e:TypeId)(x:Operand):Option Res:=
 match pt.isPtr e,op1 s tg x with
 |true,.tm _ (.pls false (q::_))=>some ⟨.ptr q.1 q.2,s,false,none⟩
 |_,_=>none
theorem Qru(h:R n W0 w X F H s a)(ht:tg.ok a)(hp:pt.ok P){e:TypeId}{x:Operand}(ho:o.op= .load e x){r:Res}(hr:Qug pt s tg e x=some r):W1 P τ W0 w X F s a o r:=by
 unfold Qug at hr
 split at hr
 ·rename_i k q l he hx
  simp only[Option.some.injEq]at hr
  subst hr
  obtain⟨rfl,hv⟩:=Kr h ht hx (by simp)
  obtain⟨_,ad,us,h1,h2,h3,h4,hv⟩:=hv
  obtain⟨u,hu,hat⟩:=h4 0 q rfl
  obtain⟨e4,i4,hu4,hi4,_⟩:=Zkg.isPtr_ok hp he
  have hc:w.cell? ad=some u:=by have:=h2 0 u hu;rwa [show ad.add 0=ad by unfold Addr.add;split<;>simp_all]at this
  refine Yk rfl fun _=>⟨u,fun w' hd=> ?_,rfl,hat⟩
  have hc':w'.cell? ad=some u:=by
   have hd:=hd (by rw[ho];rfl)
   rw[ho,Zoi hx (by simp)]at hd
   have hd: ∀b,b<w.heap.size→X b→w'.heap[b]? =w.heap[b]? :=hd
   rw[World.cell?_of_block (w:=w) (hd _ (h.xlt _ h1) h1)]
   exact hc
  have hagg: (isAgg e).run P w'= .ok false w':=by simp[isAgg,run_underlying hu4]
  simp only[execOp,ho,hv,Sem.run_bind,Instr.loadAt,Instr.sureAddr,Sem.run_pure,Result.andThen_ok,loadVar,hagg]
  simp[run_load,hc']
 ·cases hr
def Qpv(pt:Zkg)(s:St)(tg:Xm)(op:BinOp)(e:TypeId)(x y:Operand):Option Res:=
 match pt.isPtr e,op1 s tg x,op1 s tg y with
 |true,.tm _ (.ptr q p),.tm _ (.ptr q2 p2)=>match Nat.beq q q2,s.get (.m q)with
  |true,.box _ T _ _=>match op with
   | .eql=>some ⟨.val .bool (.u false) (Nat.beq (Zaa T p) (Zaa T p2)),s,false,none⟩
   | .neq=>some ⟨.val .bool (.u false) (!(Nat.beq (Zaa T p) (Zaa T p2))),s,false,none⟩
   |_=>none
  |_,_=>none
 |_,_,_=>none
theorem Qpw(h:R n W0 w X F H s a)(ht:tg.ok a)(hp:pt.ok P){op:BinOp}{e e2:TypeId}{x y:Operand}(ho:o.op= .binOp op e x y e2){r:Res}(hr:Qpv pt s tg op e x y=some r):W1 P τ W0 w X F s a o r:=by
 unfold Qpv at hr
 split at hr
 ·rename_i k q p k2 q2 p2 he hx hy
  split at hr
  ·rename_i e' T f z hq hg
   have:=Nat.eq_of_beq_eq_true hq
   subst this
   obtain⟨_,hv⟩:=Kr h ht hx (by simp)
   obtain⟨_,e1,T1,f1,x1,b1,S1,g1,g2,g3⟩:=hv
   obtain⟨_,hv2⟩:=Kr h ht hy (by simp)
   obtain⟨_,e2',T2,f2,x2,b2,S2,l1,l2,l3⟩:=hv2
   rw[hg]at g1 l1
   cases g1;cases l1
   rw[g2]at l2
   obtain⟨rfl,rfl⟩:=List.cons.inj l2
   obtain⟨e4,i4,hu4,hi4,hpos⟩:=Zkg.isPtr_ok hp he
   have hcmp: ∀w,(Op.equal e (.pointer (some ⟨b1,Zaa T p,none⟩)) (.pointer (some ⟨b1,Zaa T p2,none⟩))).run P w= .ok (Nat.beq (Zaa T p) (Zaa T p2)) w:=fun w=>by
    have h0:i4.size≠0:=by omega
    have hb: ((⟨b1,Zaa T p,none⟩:Addr)==⟨b1,Zaa T p2,none⟩)=Nat.beq (Zaa T p) (Zaa T p2):=by
     rw[Bool.eq_iff_iff]
     simp[Nat.beq_eq]
    obtain⟨d,hd⟩: ∃d,Op.maxDepth=d+1:=⟨9999,rfl⟩
    unfold Op.equal
    rw[hd]
    simp only[Op.equalIn,Sem.run_bind,run_underlying hu4,Result.andThen_ok]
    simp[sizeOf,typeInfo,hi4,h0,sameAddr,hb]
   split at hr
   ·simp only[Option.some.injEq]at hr
    subst hr
    refine Yk rfl fun _=>⟨_,fun w' _=> ?_,Zrn _⟩
    simp only[execOp,ho,g3,l3]
    simp[eqGuard,Go.binOp,hcmp w']
   ·simp only[Option.some.injEq]at hr
    subst hr
    refine Yk rfl fun _=>⟨_,fun w' _=> ?_,Zrn _⟩
    simp only[execOp,ho,g3,l3]
    simp[eqGuard,Go.binOp,hcmp w']
   ·cases hr
  ·cases hr
 ·cases hr
def Qxw(pt:Zkg)(s:St)(tg:Xm)(op:BinOp)(e:TypeId)(x y:Operand):Option Res:=
 match pt.isErr e,V3 s (op1 s tg x) .err,y with
 |true,some z,.const .nilIface=>match op with
  | .eql=>some ⟨.val .bool (.u false) z,s,false,none⟩
  | .neq=>some ⟨.val .bool (.u false) (!z),s,false,none⟩
  |_=>none
 |_,_,_=>none
theorem Qtv(h:R n W0 w X F H s a)(ht:tg.ok a)(hp:pt.ok P){op:BinOp}{e e2:TypeId}{x y:Operand}(ho:o.op= .binOp op e x y e2){r:Res}(hr:Qxw pt s tg op e x y=some r):W1 P τ W0 w X F s a o r:=by
 unfold Qxw at hr
 split at hr
 ·rename_i z he hl
  obtain⟨ms,hu⟩:=Zkg.isErr_ok hp he
  have hx: ∃v,a.eval x=v∧((z=true∧v= .nilIface)∨(z=false∧ ∃t u,v= .iface t u)):=by
   obtain⟨vs,h1,h2⟩:=Vt h ht hl
   obtain⟨⟨v,rfl,_,h3⟩,_⟩: (∃v,vs=[v]∧v.oneCell'=true∧((z=true∧v= .nilIface)∨(z=false∧ ∃t u,v= .iface t u)))∧_:=h2
   exact⟨v,h1,h3⟩
  obtain⟨v,hv,hk⟩:=hx
  have hrun: ∀w,(Op.equal e v .nilIface).run P w= .ok z w:=fun w=>by
   obtain⟨d,hd⟩: ∃d,Op.maxDepth=d+1:=⟨9999,rfl⟩
   unfold Op.equal
   rw[hd]
   rcases hk with⟨rfl,rfl⟩| ⟨rfl,t,u,rfl⟩
   ·simp only[Op.equalIn,Sem.run_bind,run_underlying hu,Result.andThen_ok]
    simp
   ·simp only[Op.equalIn,Sem.run_bind,run_underlying hu,Result.andThen_ok]
    simp
  have hgd: ∀op w,(eqGuard op e x (.const .nilIface) v .nilIface).run P w= .ok () w:=fun op w=>by
   unfold eqGuard
   rcases hk with⟨rfl,rfl⟩| ⟨rfl,t,u,rfl⟩<;>cases op<;>simp
  split at hr
  ·simp only[Option.some.injEq]at hr
   subst hr
   refine Yk rfl fun _=>⟨.bool z,fun w' _=> ?_,Zrn _⟩
   have hb: (Go.binOp .eql e v .nilIface).run P w'= .ok (.bool z) w':=by
    rcases hk with⟨rfl,rfl⟩| ⟨rfl,t,u,rfl⟩<;>simp[Go.binOp,hrun w']
   have he0:a.eval (.const .nilIface)= .nilIface:=rfl
   simp only[execOp,ho,hv,he0,Sem.run_bind,hgd,Result.andThen_ok,hb,Sem.run_pure]
  ·simp only[Option.some.injEq]at hr
   subst hr
   refine Yk rfl fun _=>⟨.bool (!z),fun w' _=> ?_,Zrn _⟩
   have hb: (Go.binOp .neq e v .nilIface).run P w'= .ok (.bool (!z)) w':=by
    rcases hk with⟨rfl,rfl⟩| ⟨rfl,t,u,rfl⟩<;>simp[Go.binOp,hrun w']
   have he0:a.eval (.const .nilIface)= .nilIface:=rfl
   simp only[execOp,ho,hv,he0,Sem.run_bind,hgd,Result.andThen_ok,hb,Sem.run_pure]
  ·cases hr
 ·cases hr
end
end Go.Am
namespace Go.Am
theorem Zkg.ok_none{P:Program}: ({}:Zkg).ok P:=⟨by simp,by simp⟩
theorem Zkg.ok_of{P:Program}{t:Zkg}(h1: (t.pp.all fun p=>ppB P p.1 p.2)=true)(h2: (t.er.all fun e=>erB P e)=true):t.ok P:=⟨fun p hp=>List.all_eq_true.1 h1 p hp,fun e he=>List.all_eq_true.1 h2 e he⟩
end Go.Am
namespace Go.Am
open Go.RowKit
abbrev Fl.e:Fl:= .p (.u true) (.u false)
section
variable {P:Program} {g:Y4} {W0:Zct g} {w w':World} {X X':Nat→Prop} {B n:Nat} {own:Bool} {s:St} {F:Key→List Nat} {a:Act} {H H':List Nat} {o:Oper} {tg:Xm} {τ:Tab}
def Qut(s:St)(o:Op1)(T:Ty):Option T.den:=Z84 s o T
theorem Qr0(h:R n W0 w X F H s a)(ht:tg.ok a){x:Operand}{T:Ty}{y:T.den}(hr:Qut s (op1 s tg x) T=some y):
  ∃vs,a.eval x=Xz T vs∧rd w X W0.B false T y vs []:=by
 unfold Qut Z84 at hr
 split at hr
 ·rename_i v hv
  cases x<;>simp only[op1]at hv<;>cases hv
  obtain⟨vs,h1,h2⟩:=Ztw (w:=w) (X:=X) (B:=W0.B) (own:=false) hr
  exact⟨vs,h1,h2⟩
 ·split at hr
  ·rename_i U f y' hl
   obtain⟨hf,vs,S,h1,h2,h3⟩:=Zdo h ht hl
   split at hr
   ·rename_i hn
    cases Zap hr
    have e:=Zgu hn h2
    subst e
    exact⟨vs,h1,Je (Y5 (fun _ h=>h) hf h2 (by simp)) (by simp)⟩
   ·cases hr
  ·cases hr
def Qvd(s:St)(tg:Xm)(t:Ty):Nat→List (Nat×Operand)→Option (List t.den)
 |_,[]=>some []
 |k,(i,y)::r=>match Nat.beq i k,Qut s (op1 s tg y) t,Qvd s tg t (k+1) r with
  |true,some z,some l=>some (z::l)
  |_,_,_=>none
theorem Qip(h:R n W0 w X F H s a)(ht:tg.ok a){t:Ty}: ∀{parts:List (Nat×Operand)} {k:Nat} {l:List t.den} {cs:Array Value} {A M C:List Value},
  cs.toList=A++ (M++C)→A.length=k*t.size→M.length=parts.length*t.size→Qvd s tg t k parts=some l→
  ∃vs cs',Instr.fill (fun i=>some (i*t.size,t.size)) cs (parts.map fun p=>(p.1,a.eval p.2))=some cs'∧cs'.toList=A++ (vs++C)∧Zbf (rd w X W0.B false t) l vs []∧l.length=parts.length
 | [],k,l,cs,A,M,C,hcs,hA,hM,hb=>by
  simp only[Qvd,Option.some.injEq]at hb
  subst hb
  have:M=[]:=List.eq_nil_of_length_eq_zero (by simpa using hM)
  subst this
  exact⟨[],cs,rfl,hcs,⟨rfl,rfl⟩,rfl⟩
 | (i,y)::r,k,l,cs,A,M,C,hcs,hA,hM,hb=>by
  simp only[Qvd]at hb
  split at hb
  ·rename_i z l2 hik hz hb2
   have hik:=Nat.eq_of_beq_eq_true hik
   subst hik
   simp only[Option.some.injEq]at hb
   subst hb
   obtain⟨vs,h1,h2⟩:=Qr0 h ht hz
   have hcells:=Zyd (Zku h2) (Yj h2)
   have hcsz: (a.eval y).cells.size=t.size:=by rw[h1,←Array.length_toList,hcells,Yj h2]
   have hM':M.length=t.size+r.length*t.size:=by rw[hM,List.length_cons,Nat.add_mul];omega
   obtain⟨cs1,g1,g2⟩:=Z3l (place:=fun i=>some (i*t.size,t.size)) (i:=i) (rest:=r.map fun p=>(p.1,a.eval p.2)) (v:=a.eval y) rfl (pre:=A) (mid:=M.take t.size) (post:=M.drop t.size++C)
    (by rw[hcs,←List.append_assoc (M.take _),List.take_append_drop]) hA (by simp;omega) hcsz
   rw[h1,hcells]at g1
   obtain⟨vs2,cs',k1,k2,k3,k4⟩:=Qip h ht (k:=i+1) (cs:=cs1) (A:=A++vs) (M:=M.drop t.size) (C:=C) (by rw[g1];simp) (by simp[hA,Yj h2,Nat.add_mul]) (by simp[hM']) hb2
   exact⟨vs++vs2,cs',by simpa[g2]using k1,by rw[k2];simp,⟨vs,vs2,[],[],rfl,rfl,h2,k3⟩,by simp[k4]⟩
  ·cases hb
def Z0u(τ:Tab)(s:St)(tg:Xm)(e:TypeId)(len:Nat)(parts:Array (Nat×Operand)):Option Res:=
 match τ e with
 |some (.slice e' t)=>match τ e' with
  |some t2=>match decide (t2=t),Nat.beq parts.size len&&Nat.ble (len*t.size) 16777216 with
   |true,true=>match Qvd s tg t 0 parts.toList with
    |some l=>some ⟨.val (.slice e' t) .e l,s,false,none⟩
    |none=>none
   |_,_=>none
  |none=>none
 |_=>none
theorem Z99(h:R n W0 w X F H s a)(ht:tg.ok a)(hτ:τ.ok P){e:TypeId}{len:Nat}{parts:Array (Nat×Operand)}(ho:o.op= .buildSlice e len parts){r:Res}(hr:Z0u τ s tg e len parts=some r):Zoz P n W0 w X H s a o r:=by
 unfold Z0u at hr
 split at hr
 ·rename_i e' t hT
  split at hr
  ·rename_i t2 hT2
   split at hr
   ·rename_i hd hbq
    split at hr
    ·rename_i l hb
     simp only[Option.some.injEq]at hr
     subst hr
     have:=of_decide_eq_true hd
     subst this
     simp only[Bool.and_eq_true,Nat.ble_eq]at hbq
     have hlen:=Nat.eq_of_beq_eq_true hbq.1
     obtain⟨hu,hpos⟩:=(hτ _ _ hT).slice
     obtain⟨i,hi,his,_,hz⟩:=(hτ _ _ hT2).size
     intro _ K Q hK
     obtain⟨cs0,hcs0⟩: ∃cs0:Array Value,cs0=(Array.range (len*i.size)).map ((Xz t2 (J7 t2)).cells[· % (Xz t2 (J7 t2)).cells.size]!):=⟨_,rfl⟩
     have hcsz:cs0.toList.length=len*t2.size:=by rw[hcs0];simp[his]
     obtain⟨vs,cs',k1,k2,k3,k4⟩:=Qip h ht (k:=0) (cs:=cs0) (A:=[]) (M:=cs0.toList) (C:=[]) (by simp) (by simp) (by rw[hcsz,Array.length_toList,hlen]) hb
     have hll:l.length=len:=by rw[k4,Array.length_toList,hlen]
     have hrun: (execOp a.eval o).run P w= .ok (.value (.slice (some ⟨w.heap.size,0,none⟩) len len)) (w.alloc (.cells cs' e')):=by
      simp only[execOp,ho,Sem.run_bind]
      by_cases hz0:len*i.size=0
      ·have hl0:len=0:=by
        rcases Nat.mul_eq_zero.1 hz0 with h|h
        ·exact h
        ·omega
       subst hl0
       have hp0:parts= #[]:=Array.eq_empty_of_size_eq_zero hlen
       subst hp0
       simp only[List.map_nil,Instr.fill,Option.some.injEq]at k1
       subst k1
       simp[Instr.buildSlice,run_underlying hu,Go.sizeOf,typeInfo,hi,newRow,Instr.fill,hcs0,Array.range_zero']
      ·rw[run_buildSlice w e e' len _ cs' i _ hu hi hz (by have:=hbq.2;rw[his];omega) hz0 (by rw[←hcs0];simpa[his]using k1)]
       simp
     unfold Oper.wp
     rw[hrun]
     have hcs:cs'.toList=vs:=by simpa using k2
     refine hK _ X F [w.heap.size] _ (fun _ h=>h) (h.alloc _) ⟨[_],rfl,?_⟩ (fun _=>rfl) ⟨fun _=>Old.alloc _ _,h.kept (Old.alloc _ _)⟩
     have hvl:vs.length=len*t2.size:=by rw[Zpl (fun _ _ _ h=>Yj h) k3,hll]
     refine⟨_,vs,rfl,⟨⟨by rw[hvl,hll],.inr ⟨w.heap.size,len,cs',by rw[hll],h.below.sizeB,Qk9 _ _,by rw[hll];exact Nat.le_refl _,?_,?_,?_⟩⟩,rfl⟩,?_⟩
     ·have:=hbq.2
      have h2:len≤len*t2.size:=Nat.le_mul_of_pos_right _ hpos
      simp only[maxLen];omega
     ·rw[←Array.length_toList,hcs,hvl]
     ·rw[hcs,hll,←hvl,List.take_length]
     ·exact Kt k3 fun x v T _ hT hr=>Zfe (fun _ h=>h) (fun b hb=>hold w _ b (h.xlt b hb)) hr fun b hb=>absurd (hT b hb) (by simp)
    ·cases hr
   ·cases hr
  ·cases hr
 ·cases hr
def Qmc(s:St)(x:Op1):Option ((_:TypeId)×(t:Ty)×List t.den):=
 match Zs5 s x with
 |some ⟨.slice e t,.u false,l⟩=>some ⟨e,t,l⟩
 |some ⟨.slice e t,.p (.u true) (.u false),l⟩=>some ⟨e,t,l⟩
 |_=>none
theorem Z6g(h:R n W0 w X F H s a)(ht:tg.ok a){x:Operand}{e:TypeId}{t:Ty}{l:List t.den}(hr:Qmc s (op1 s tg x)=some ⟨e,t,l⟩):
  ∃v ys,a.eval x=v∧Zbf (rd w X W0.B false t) l ys []∧ ∃ad cap,v= .slice ad l.length cap∧l.length≤cap∧((ad=none∧l.length=0∧cap=0)∨ ∃a0,ad=some a0∧ ∀j u,ys[j]? =some u→w.cell? (a0.add j)=some u):=by
 unfold Qmc at hr
 have fin: ∀{own:Bool} {e:TypeId} {l:List t.den} {v:Value} {xs:List Value} {S:List Nat},hdr w X W0.B own e t.size l.length v xs S→ ∃ad cap,v= .slice ad l.length cap∧l.length≤cap∧((ad=none∧l.length=0∧cap=0)∨ ∃a0,ad=some a0∧ ∀j u,xs[j]? =some u→w.cell? (a0.add j)=some u):=by
  intro own e l v xs S hh
  obtain⟨ad,cap,z1,z2,_,z3⟩:=Zdd hh
  exact⟨ad,cap,z1,z2,z3.imp id fun⟨a0,u1,_,u2⟩=>⟨a0,u1,u2⟩⟩
 split at hr
 ·rename_i e' t' l' hl
  simp only[Option.some.injEq,Sigma.mk.injEq]at hr
  obtain⟨rfl,hr⟩:=hr
  simp only[heq_eq_eq,Sigma.mk.injEq]at hr
  obtain⟨rfl,hr⟩:=hr
  cases hr
  obtain⟨_,vs,S,h1,h2,h3⟩:=Zdo h ht hl
  unfold rdF at h2
  have hS:=Ze4 h2
  subst hS
  obtain⟨v,xs,S1,S2,rfl,e2,k1,k2⟩:=h2
  obtain⟨rfl,rfl⟩:=List.append_eq_nil_iff.1 e2.symm
  exact⟨v,xs,h1,k2,fin k1⟩
 ·rename_i e' t' l' hl
  simp only[Option.some.injEq,Sigma.mk.injEq]at hr
  obtain⟨rfl,hr⟩:=hr
  simp only[heq_eq_eq,Sigma.mk.injEq]at hr
  obtain⟨rfl,hr⟩:=hr
  cases hr
  obtain⟨_,vs,S,h1,h2,h3⟩:=Zdo h ht hl
  obtain⟨v,xs,rfl,k1,k2⟩:=h2
  exact⟨v,xs,h1,k2,fin k1⟩
 ·cases hr
def Qs9(τ:Tab)(s:St)(tg:Xm)(e:TypeId)(x y:Operand):Option Res:=
 match τ e with
 |some (.slice e' t)=>match τ e' with
  |some t2=>match decide (t2=t),Zr4 s (op1 s tg x) (.slice e' t)with
   |true,some ⟨.slice e1 t1,.p (.u true) (.u false),l,s1,_⟩=>match decide (e1=e'∧t1=t)with
    |true=>match Qmc s1 (op1 s1 tg y)with
     |some ⟨_,t3,l3⟩=>match Kq (.slice e' t1) (.slice e' t3) l3 with
      |some l4=>some ⟨.val (.slice e' t1) .e (l++l4),s1,true,some (l.length+l4.length≤Qv)⟩
      |none=>none
     |none=>none
    |false=>none
   |_,_=>none
  |none=>none
 |_=>none
theorem Z5y{S1:List Nat}(h:R n W0 w X F (S1++H) s a){e':TypeId}{t:Ty}{v v':Value}{xs ys:List Value}{l l4:List t.den}
  (h1:hdr w X W0.B true e' t.size l.length v xs S1) (h2:Zbf (rd w X W0.B false t) l xs []) (h4:Zbf (rd w X W0.B false t) l4 ys [])
  (g2:w'.ownsRow W0.B e' t.size v' (l.length+l4.length) (xs++ys)) (g3:w.grownBy w' v.ownBlock) (g4:v'.ownBlock=v.ownBlock∨ ∀b,v'.ownBlock=some b→w.heap.size≤b):
  ∃S,R n W0 w' X F (S++H) s a∧rdF w' X W0.B (.slice e' t) .e (l++l4) [v'] S∧(∀b,X b→w'.heap[b]? =w.heap[b]?)∧ ∀k b,b∈F k→w'.heap[b]? =w.heap[b]? :=by
 have hS1:S1=v.ownBlock.toList:=h1.2
 have same: ∀b,b<w.heap.size→b∉S1→w'.heap[b]? =w.heap[b]? :=fun b hb hn=>g3.block b hb (fun e=>hn (by rw[hS1,←e];simp))
 have hnd:=h.hnodup
 have hX: ∀b,X b→w'.heap[b]? =w.heap[b]? :=fun b hb=>same b (h.xlt b hb) fun hm=>(h.hown b (by simp[hm])).2.2 hb
 have hF: ∀k b,b∈F k→w'.heap[b]? =w.heap[b]? :=fun k b hb=>same b (h.own k b hb).2.1 fun hm=>h.hdisj k b hb (by simp[hm])
 have hn24: ∀b,b∈H→b∉S1:=fun b hb hm=>(List.nodup_append.1 hnd).2.2 b hm b hb rfl
 have hbl:W0.below w':=⟨g3.os.trans h.below.os,g3.tape.trans h.below.tape,g3.output.trans h.below.output,Nat.le_trans h.below.size g3.size,fun k hk=>
  (same k (Nat.lt_of_lt_of_le (W0.yW k hk) h.below.size) fun hm=>W0.sep hk (h.hown k (by simp[hm])).1 rfl).trans (h.below.block k hk)⟩
 have hR:=(h.drop).world hbl g3.size hX hF
 have hlt:=g2.lt
 have hR2:R n W0 w' X F (v'.ownBlock.toList++H) s a:=by
  rcases g4 with g4|g4
  ·rw[g4,←hS1]
   refine hR.hand (fun b hb=> ?_) (List.nodup_append.1 hnd).1 (fun k b hb hm=>h.hdisj k b hb (by simp[hm])) (fun b hb hm=>hn24 b hm hb)
   obtain⟨q1,q2,q3⟩:=h.hown b (by simp[hb])
   exact⟨q1,Nat.lt_of_lt_of_le q2 g3.size,q3⟩
  ·refine hR.hand (fun b hb=> ?_) (by cases v'.ownBlock<;>simp) (fun k b hb hm=> ?_) (fun b hb hm=> ?_)
   ·have hb:v'.ownBlock=some b:=by simpa using hb
    exact⟨.inl (Nat.le_trans h.below.size (g4 b hb)),(hlt b hb).2,fun hx=>by have:=h.xlt b hx;have:=g4 b hb;omega⟩
   ·have hm:v'.ownBlock=some b:=by simpa using hm
    have:=(h.own k b hb).2.1;have:=g4 b hm;omega
   ·have hb:v'.ownBlock=some b:=by simpa using hb
    have:=(h.hown b (by simp[hm])).2.1;have:=g4 b hb;omega
 have mono: ∀{l:List t.den} {xs:List Value},Zbf (rd w X W0.B false t) l xs []→Zbf (rd w' X W0.B false t) l xs []:=fun hr=>
  Kt hr fun x v T _ hT hrd=>Zfe (fun _ h=>h) hX hrd fun b hb=>absurd (hT b hb) (by simp)
 refine⟨v'.ownBlock.toList,hR2,⟨v',xs++ys,rfl,⟨by simpa using g2,rfl⟩,?_⟩,hX,hF⟩
 exact Zrz (S:=[]) (S':=[]) (mono h2) (mono h4)
theorem Qqt(h:R n W0 w X F H s a)(ht:tg.ok a)(hτ:τ.ok P){e:TypeId}{x y:Operand}(ho:o.op= .call {callee:= .builtin .append,args:= #[x,y],argTypes:= #[e,e]}){r:Res}(hr:Qs9 τ s tg e x y=some r):Zoz P n W0 w X H s a o r:=by
 unfold Qs9 at hr
 split at hr
 ·rename_i e' t hT
  split at hr
  ·rename_i t2 hT2
   split at hr
   ·rename_i e1 t1 l s1 m1 hd hx
    have:=of_decide_eq_true hd
    subst this
    obtain⟨_,F1,S,vs,q1,q2,q3,_,_⟩:=Wz h ht hx
    split at hr
    ·rename_i hd2
     obtain⟨rfl,rfl⟩:=of_decide_eq_true hd2
     simp only at q1 q2 q3
     obtain⟨v,xs,rfl,k1,k2⟩:=q2
     split at hr
     ·rename_i e3 t3 l3 hy
      split at hr
      ·rename_i l4 hl4
       simp only[Option.some.injEq]at hr
       have:=Zap hl4
       cases this
       subst hr
       obtain⟨vy,ys,g1,g5,hc⟩:=Z6g q3 ht hy
       intro hp K Q hK
       obtain⟨v',w',u1,u2,u3,u4⟩:=Z6i (P:=P) (hτ _ _ hT) (hτ _ _ hT2) k1.1 hc (Zpl (fun _ _ _ h=>Yj h) g5) (Z18 (fun _ _ _ h=>Zku h) g5) hp h.below.sizeB
       obtain⟨S',z1,z2,z3,z4⟩:=Z5y q3 k1 k2 g5 u2 u3 u4
       have hx0:a.eval x=v:=q1
       have hrun: (execOp a.eval o).run P w= .ok (.value v') w':=by
        simp only[execOp,ho]
        have g1': (Builtin.append_ #[e,e] o.type #[v,vy]).run P w= .ok v' w':=u1
        simp[resolve,invoke,builtin,hx0,g1,g1']
       have kept:Qjm X s a none w w':=by
        intro b hb
        rcases hb with hb| ⟨r,h1,_,h2⟩
        ·exact z3 b hb
        ·obtain⟨S,h3⟩:=q3.boxIn (Zov hx h1) h2
         exact z4 (.m r) b (by rw[h3];simp)
       unfold Oper.wp
       rw[hrun]
       exact hK _ X F1 S' w' (fun _ h=>h) z1 ⟨[v'],rfl,z2⟩ (by simp) ⟨fun hp=>(by rw[ho]at hp;cases hp),kept⟩
      ·cases hr
     ·cases hr
    ·cases hr
   ·cases hr
  ·cases hr
 ·cases hr
def Z95(sf:Bool)(τ:Tab)(s:St)(tg:Xm)(e:TypeId)(x y:Operand):Option Res:=
 match τ e,sf with
 |some (.slice e' t),false=>match τ e' with
  |some t2=>match decide (t2=t),Zr4 s (op1 s tg x) (.slice e' t)with
   |true,some ⟨.slice e1 t1,.u true,l,s1,_⟩=>match decide (e1=e'∧t1=t)with
    |true=>match Qmc s1 (op1 s1 tg y)with
     |some ⟨_,t3,l3⟩=>match Kq (.slice e' t1) (.slice e' t3) l3 with
      |some l4=>some ⟨.val (.slice e' t1) .e (l++l4),s1,true,some (l.length+l4.length≤Qv)⟩
      |none=>none
     |none=>none
    |false=>none
   |_,_=>none
  |none=>none
 |_,_=>none
theorem Qmm(hs0:g.soft=false)(h:R n W0 w X F H s a)(ht:tg.ok a)(hτ:τ.ok P){e:TypeId}{x y:Operand}(ho:o.op= .call {callee:= .builtin .append,args:= #[x,y],argTypes:= #[e,e]}){sf:Bool}{r:Res}(hr:Z95 sf τ s tg e x y=some r):Zoz P n W0 w X H s a o r:=by
 unfold Z95 at hr
 split at hr
 ·rename_i e' t hT
  split at hr
  ·rename_i t2 hT2
   split at hr
   ·rename_i e1 t1 l s1 m1 hd hx
    have:=of_decide_eq_true hd
    subst this
    obtain⟨_,F1,S,vs,q1,q2,q3,_,_⟩:=Wz h ht hx
    split at hr
    ·rename_i hd2
     obtain⟨rfl,rfl⟩:=of_decide_eq_true hd2
     simp only at q1 q2 q3
     unfold rdF at q2
     obtain⟨v,xs,S1,S2,rfl,rfl,k1,k2⟩:=q2
     split at hr
     ·rename_i e3 t3 l3 hy
      split at hr
      ·rename_i l4 hl4
       simp only[Option.some.injEq]at hr
       have:=Zap hl4
       cases this
       subst hr
       have hnd:=q3.hnodup
       have q4:R n W0 w X F1 (S1++H) s1 a:=q3.sub (fun b hb=>by simp only[List.mem_append]at hb⊢;grind) (by
        simp only[List.nodup_append,List.mem_append]at hnd⊢
        grind)
       have q5:R n W0 w (fun b=>X b∨b∈S2) F1 (S1++H) s1 a:=by
        refine R.xup hs0 q4 (fun _ h=> .inl h) (fun b hb=>hb.elim (q4.xlt b) fun hb=>(q3.hown b (by simp[hb])).2.1) (fun b hb=>hb.elim (q4.xin b) fun hb=> .inr (q3.hown b (by simp[hb])).1) (fun k b hb hx=> ?_) (fun b hb hx=> ?_)
        ·rcases hx with hx|hx
         ·exact(q4.own k b hb).2.2 hx
         ·exact q3.hdisj k b hb (by simp[hx])
        ·rcases hx with hx|hx
         ·exact(q4.hown b hb).2.2 hx
         ·simp only[List.nodup_append,List.mem_append]at hnd
          simp only[List.mem_append]at hb
          rcases hb with hb|hb
          ·exact hnd.1.2.2 b hb b hx rfl
          ·exact hnd.2.2 b (.inr hx) b hb rfl
       have k1':hdr w (fun b=>X b∨b∈S2) W0.B true e1 t1.size l.length v xs S1:=Qb3 k1 (fun _ h=> .inl h) (fun _ _=>rfl) (fun _ _=>rfl)
       have k2':Zbf (rd w (fun b=>X b∨b∈S2) W0.B false t1) l xs []:=Zoq k2 fun _ _ _ _ hT h=>Ze3 (fun _ h=> .inl h) h fun b hb=> .inr (hT b hb)
       obtain⟨vy,ys,g1,g5,hc⟩:=Z6g q5 ht hy
       intro hp K Q hK
       obtain⟨v',w',u1,u2,u3,u4⟩:=Z6i (P:=P) (hτ _ _ hT) (hτ _ _ hT2) k1'.1 hc (Zpl (fun _ _ _ h=>Yj h) g5) (Z18 (fun _ _ _ h=>Zku h) g5) hp h.below.sizeB
       obtain⟨S',z1,z2,z3,z4⟩:=Z5y q5 k1' k2' g5 u2 u3 u4
       have hx0:a.eval x=v:=q1
       have hrun: (execOp a.eval o).run P w= .ok (.value v') w':=by
        simp only[execOp,ho]
        have g1': (Builtin.append_ #[e,e] o.type #[v,vy]).run P w= .ok v' w':=u1
        simp[resolve,invoke,builtin,hx0,g1,g1']
       have kept:Qjm X s a none w w':=by
        intro b hb
        rcases hb with hb| ⟨r,h1,_,h2⟩
        ·exact z3 b (.inl hb)
        ·obtain⟨S,h3⟩:=q5.boxIn (Zov hx h1) h2
         exact z4 (.m r) b (by rw[h3];simp)
       unfold Oper.wp
       rw[hrun]
       exact hK _ _ F1 S' w' (fun _ h=> .inl h) z1 ⟨[v'],rfl,z2⟩ (by simp) ⟨fun hp=>(by rw[ho]at hp;cases hp),kept⟩
      ·cases hr
     ·cases hr
    ·cases hr
   ·cases hr
  ·cases hr
 ·cases hr
theorem R.frzE(hs0:g.soft=false)(h:R n W0 w X F H s a){k:Nat}{e:TypeId}{t:Ty}{x:List t.den}(hg:s.get (.m k)= .val (.slice e t) (.u true) x):
  ∃X' F',R n W0 w X' F' H (Zuo s k (.val (.slice e t) .e x)) a:=by
 have hs:=h.slots (.m k)
 rw[hg]at hs
 obtain⟨vs,hv,hr⟩:=hs
 unfold rdF at hr
 obtain⟨v,xs,S1,S2,rfl,e2,k1,k2⟩:=hr
 have hnd:=h.nodup (.m k)
 rw[e2]at hnd
 have hT:Z5x w w s (Zuo s k (.val (.slice e t) .e x)) F (Qf F (.m k) S1) a k (.val (.slice e t) .e x):=Zqr ⟨by rw[Kp];simp,fun p v U hv=>by
  unfold Yn at hv⊢
  rw[hg]at hv
  rw[Kp]
  simpa using hv⟩
 have hmem: ∀b∈S2,b∈F (.m k):=fun b hb=>by rw[e2];simp[hb]
 refine⟨fun b=>X b∨b∈S2,Qf F (.m k) S1,?_⟩
 exact
 {size:=h.size
  defers:=h.defers
  below:=h.below
  glob:=h.glob
  gx:=fun b hb=> .inl (h.gx b hb)
  xs:=fun e=>by rw[hs0]at e;cases e
  fix:=h.fix
  xlt:=fun b hb=>hb.elim (h.xlt b) fun hb=>(h.own _ b (hmem b hb)).2.1
  xin:=fun b hb=>hb.elim (h.xin b) fun hb=> .inr (h.own _ b (hmem b hb)).1
  x0:=fun b hb=> .inl (h.x0 b hb)
  own:=fun j b hb=>by
   simp only[Qf]at hb
   split at hb
   ·obtain⟨h1,h2,h3⟩:=h.own (.m k) b (by rw[e2];simp[hb])
    exact⟨h1,h2,fun hx=>hx.elim h3 fun hk=>(List.nodup_append.1 hnd).2.2 b hb b hk rfl⟩
   ·rename_i hj
    obtain⟨h1,h2,h3⟩:=h.own j b hb
    exact⟨h1,h2,fun hx=>hx.elim h3 fun hk=>hj (h.disj j (.m k) b hb (hmem b hk))⟩
  nodup:=fun j=>by
   simp only[Qf]
   split
   ·exact(List.nodup_append.1 hnd).1
   ·exact h.nodup j
  disj:=fun j j' b hb hb'=>by
   simp only[Qf]at hb hb'
   split at hb<;>split at hb'
   ·rename_i e1 e2;rw[e1,e2]
   ·exact absurd (h.disj (.m k) j' b (by rw[e2];simp[hb]) hb').symm (by assumption)
   ·exact absurd (h.disj j (.m k) b hb (by rw[e2];simp[hb'])) (by assumption)
   ·exact h.disj j j' b hb hb'
  hown:=fun b hb=>let⟨h1,h2,h3⟩:=h.hown b hb;⟨h1,h2,fun hx=>hx.elim h3 fun hk=>h.hdisj _ b (hmem b hk) hb⟩
  hnodup:=h.hnodup
  hdisj:=fun j b hb=>by
   simp only[Qf]at hb
   split at hb
   ·exact h.hdisj (.m k) b (by rw[e2];simp[hb])
   ·exact h.hdisj j b hb
  comps:=fun d i hc=>by
   rw[Kp]at hc⊢
   simp only[reduceCtorEq,if_false]at hc
   obtain⟨h1,h2⟩:=h.comps d i hc
   by_cases e:k=d
   ·subst e;rw[hg]at h1;cases h1
   ·exact⟨by simpa[e]using h1,h2⟩
  slots:=fun j=>by
   by_cases hj:j= .m k
   ·subst hj
    rw[Kp]
    simp only[if_true,Qf]
    exact⟨[v],hv,v,xs,rfl,Qb3 k1 (fun _ h=> .inl h) (fun _ _=>rfl) (fun _ _=>rfl),Zoq k2 fun _ _ _ _ hT h=>Ze3 (fun _ h=> .inl h) h fun b hb=> .inr (hT b hb)⟩
   ·have e:Qf F (.m k) S1 j=F j:=by simp[Qf,hj]
    rw[Kp,e]
    simp only[Ne.symm hj,if_false]
    exact Qmh hT (fun _ h=> .inl h) (fun _ _=>rfl) (fun _ _ _ _=>rfl) (fun _ _=>rfl) (fun e T' f' x' b S hb=>by rw[hg]at hb;cases hb) (h.slots j)}
end
end Go.Am

/- The abstract machine, part 3: what a piece of Go code does, as plain data, and that it does so. No condition. -/
import Derived.Test.YtgepmefongfeeaaGreatAm2
import Derived.Great.BuildSlice
import Derived.WalkKit
namespace Go.Am
open Go.RowKit
@[reducible] def Jp:List Ty->Type| []=>Unit|t::ts=>t.den×Jp ts
def Zq5(w:World)(X:Nat->Prop)(B:Nat): (ts:List Ty)->Jp ts->List Value->Prop| [],_,vs=>vs=[]|t::ts,x,vs=> ∃cs us,vs=Xz t cs::us/\rd w X B false t x.1 cs []/\Zq5 w X B ts x.2 us
def Zfd(w:World)(B:Nat): (ts:List Ty)->Jp ts->List Value->List Nat->Prop| [],_,vs,S=>vs=[]/\S=[]|t::ts,x,vs,S=> ∃cs us S1 S2,vs=Xz t cs::us/\S=S1++S2/\rd w (fun _=>False) B true t x.1 cs S1/\Zfd w B ts x.2 us S2
def X4(vs:List Value):Value:=
 match vs with
 | [v]=>v
 |vs=> .tuple vs.toArray
structure FnE where
 f:FuncId
 args:List Ty
 res:List Ty
 F:Jp args->Option (Jp res)
structure Zqc(P:Program)(g:K9)(e:FnE):Prop where
 enters: ∀args w,(callFunc e.f args).run P w= .ok (.enter e.f args) w
 calls: ∀(w:World) (xs:Jp e.args) (r:Jp e.res) (vals:List Value),g.G w->Zq5 w (· <w.heap.size) 0 e.args xs vals->e.F xs=some r->
  Calls P e.f vals.toArray w fun en w'=> ∃rs S,en= .returned (X4 rs)/\Zfd w' w.heap.size e.res r rs S/\S.Nodup/\Below w.heap.size w w'
abbrev Env:=List FnE
def Env.find(Γ:Env)(f:FuncId):Option FnE:=
 match Γ with
 | []=>none
 |e::r=>match Nat.beq e.f f with|true=>some e|false=>Env.find r f
def Env.ok(Γ:Env)(P:Program)(g:K9):Prop:= ∀e∈Γ,Zqc P g e
theorem Env.find_ok{Γ:Env}{P:Program}{g:K9}(h:Γ.ok P g){f:FuncId}{e:FnE}(he:Γ.find f=some e):e.f=f/\Zqc P g e:=by
 induction Γ with
 |nil=>cases he
 |cons x r a=>
  simp only[Env.find]at he;split at he
  ·rename_i b;simp only[Osi]at he;subst he;exact⟨Onb b,h _ (by simp)⟩
  ·exact a (fun e he=>h e (by simp[he])) he
section
variable {P:Program} {g:K9} {W0:Zam g} {w w':World} {X X':Nat->Prop} {B B' n:Nat} {own:Bool} {s:St} {F:Key->List Nat} {a:Act} {H H':List Nat} {o:Oper} {tg:Xo} {τ:Tab} {gh:Nat->Value}
theorem Zdb(hB:B'<=B)(hX: ∀b,X b->X' b): ∀{T:Ty} {x:T.den} {vs:List Value} {S:List Nat},rd w X B own T x vs S->rd w X' B' own T x vs S
 | .unit,_,_,_,h| .int _,_,_,_,h| .bool,_,_,_,h| .fnc _,_,_,_,h| .str,_,_,_,h=>h
 | .slice _ _,_,_,_,⟨v,l,g,i,e,j,d,f⟩=>by
  refine⟨v,l,g,i,e,j,?_,Kq f fun _ _ _ _ _ h=>Zdb hB hX h⟩;cases own
  ·obtain⟨m,p,a,k,q,r,s,u⟩:=d;exact⟨m,p,a,k,q,r,s,u.imp id fun⟨z,A,C,D⟩=>⟨z,A,C.imp id (hX _),D⟩⟩
  ·exact⟨Z0s d.1 hB,d.2⟩
 | .pair a b,_,_,_,⟨E,F,g,i,e,j,d,f⟩=>⟨E,F,g,i,e,j,Zdb hB hX d,Zdb hB hX f⟩
 | .arr n t,_,_,_,⟨h,G⟩=>⟨h,Kq G fun _ _ _ _ _ h=>Zdb hB hX h⟩
 | .err,_,_,_,h=>h
 | .hid _,_,_,_,⟨e,y,h⟩=>⟨e,y,Zdb hB hX h⟩
 | .sptr ..,_,_,_,⟨e,o,b,c,d,f,H,I⟩=>⟨e,o,b,c,d,hX b f,H,Zdb hB hX I⟩
 | .clo ..,_,_,_,⟨e,J,d,f⟩=>⟨e,J,d,Zdb hB hX f⟩
def Zoi(s:St)(tg:Xo): (ts:List Ty)->List Operand->Option (Jp ts)
 | [],[]=>some ()
 |t::ts,x::xs=>match Wi s (op1 s tg x) t,Zoi s tg ts xs with
  |some u,some us=>some (u,us)
  |_,_=>none
 |_,_=>none
theorem Zq8(h:R n W0 w X F H s a)(ht:tg.ok W0.gh a): ∀{ts:List Ty} {xs:List Operand} {us:Jp ts},Zoi s tg ts xs=some us->Zq5 w (· <w.heap.size) 0 ts us (xs.map a.eval)
 | [],[],us,_=>rfl
 |t::ts,x::xs,us,b=>by
  simp only[Zoi]at b;split at b
  ·rename_i u d e c;simp only[Osi]at b;subst b;obtain⟨f,g,i⟩:=W5 h ht e;exact⟨f,_,by simp[g],Zdb (Nat.zero_le _) (fun _ h=>h) i,Zq8 h ht c⟩
  ·cases b
 | [],_::_,_,b=>by simp[Zoi]at b
 |_::_,[],_,b=>by simp[Zoi]at b
def Qdd(d:Nat): (ts:List Ty)->Jp ts->Nat->List (Key×Tm)->List (Key×Tm)| [],_,_,r=>r|t::ts,x,i,r=>Qdd d ts x.2 (i+1) ((.c d i,.val t (.u true) x.1)::r)
def Qb3(d:Nat)(s:St): (ts:List Ty)->Jp ts->St| [t],r=>Y2 s d (.val t (.u true) r.1)| [],r=>{env:=Qdd d [] r 0 (Y2 s d .tup).env,dirty:=(Y2 s d .tup).dirty,lent:=s.lent}|t::u::ts,r=>{env:=Qdd d (t::u::ts) r 0 (Y2 s d .tup).env,dirty:=(Y2 s d .tup).dirty,lent:=s.lent}
def Q5u{ρ:Type}(Γ:Env)(n:Nat)(s:St)(tg:Xo)(dst:Option Nat)(f:FuncId)(xs:List Operand)(k:St->Option ρ):Option ρ:=
 match Γ.find f with
 |none=>none
 |some e=>match Zoi s tg e.args xs with
  |none=>none
  |some us=>match dst with
   |none=>(e.F us).bind fun _=>k s
   |some d=>match Jy s d&&Nat.blt d n with
    |false=>none
    |true=>(e.F us).bind fun r=>k (Qb3 d s e.res r)
theorem R.below'(h:R n W0 w X F H s a)(hb:Below w.heap.size w w'):R n W0 w' X F H s a:=
 h.world (h.below.step hb) hb.size (fun b c=>hb.block b (h.xlt b c)) (fun k b c=>hb.block b (h.own k b c).2.1)
theorem Qj2: ∀{ts:List Ty} {x:Jp ts} {rs:List Value} {S:List Nat},Zfd w B ts x rs S->rs.length=ts.length
 | [],_,_,_,h=>by simp[h.1]
 |t::ts,_,_,_,⟨_,_,_,_,e,_,_,h⟩=>by simp[e,Qj2 h]
theorem Zpq{rs:List Value}(h:rs.length≠1):X4 rs= .tuple rs.toArray:=by
 unfold X4;split
 ·simp at h
 ·rfl
theorem R.putTup{d:Nat}{vs:List Value}{ts:List Ty}{x:Jp ts}{S:List Nat}(h:R n W0 w X F (S++H) s a)(hd:Jy s d=true)(hn:d<n)(hx:Zfd w W0.B ts x vs S):
  ∃F',R n W0 w X F' H {env:=Qdd d ts x 0 (Y2 s d .tup).env,dirty:=(Y2 s d .tup).dirty,lent:=s.lent} (a.put (some d) (.tuple vs.toArray)):=by
 have W:R n W0 w X (Qg F (.m d) []) (S++H) (Y2 s d .tup) (a.put (some d) (.tuple vs.toArray)):=(by simpa using h:R n W0 w X F ([]++ (S++H)) s a).put hd hn rfl;have v:Zlw W0.gh (a.put (some d) (.tuple vs.toArray)) d= .tuple vs.toArray:=Zmm (a:=a) (by rw[h.size];exact hn);have I: ∀i,(Y2 s d .tup).get (.c d i)= .junk:=fun i=>by
  rw[Zk0];simp only[reduceCtorEq,if_false];exact Classical.byContradiction fun D=>by have:=(h.comps d i D).1;simp[Jy,this]at hd
 
 suffices hs: ∀(ts:List Ty) (x:Jp ts) (G:List Value) (i:Nat) (S:List Nat) (F:Key->List Nat) (r:List (Key×Tm)) (pre:List Value),vs=pre++G->pre.length=i->Zfd w W0.B ts x G S->
   R n W0 w X F (S++H) {env:=r,dirty:=(Y2 s d .tup).dirty,lent:=s.lent} (a.put (some d) (.tuple vs.toArray))->Zf8 r (.m d)= .tup->(∀j,i<=j->Zf8 r (.c d j)= .junk)->
   ∃F',R n W0 w X F' H {env:=Qdd d ts x i r,dirty:=(Y2 s d .tup).dirty,lent:=s.lent} (a.put (some d) (.tuple vs.toArray)) by
  obtain⟨F',z⟩:=hs ts x vs 0 S _ (Y2 s d .tup).env [] rfl rfl hx W (Zsm _ _ _) (fun j _=>I j);exact⟨F',z⟩
 intro ts
 induction ts with
 |nil=>
  intro x G i S F r pre _ _ hx f _ _;obtain⟨rfl,rfl⟩:=hx;exact⟨F,f⟩
 |cons t ts Y=>
  intro x G i S F r pre A l hx f y o;obtain⟨J,K,P,Q,rfl,rfl,L,M⟩:=hx
  
  have C:Qp W0.gh (a.put (some d) (.tuple vs.toArray)) (.c d i)=Xz t J:=by
   simp only[Qp,v];rw[A,<-l];simp[Array.getD_eq_getD_getElem?]
  have E:R n W0 w X (Qg F (.c d i) P) (Q++H) {env:=(.c d i,.val t (.u true) x.1)::r,dirty:=(Y2 s d .tup).dirty,lent:=s.lent} (a.put (some d) (.tuple vs.toArray)):=by
   have Z:F (.c d i)=[]:=by
    have:=f.slots (.c d i);simp only[St.get,o i (Nat.le_refl _)]at this;exact this
   have q:=f.hnodup;rw[List.append_assoc]at q;exact
   {size:=f.size
    defers:=f.defers
    below:=f.below
    glob:=f.glob
    gx:=f.gx
    xs:=f.xs
    fix:=f.fix
    xlt:=f.xlt
    xin:=f.xin
    x0:=f.x0
    own:=fun k b g=>by
     simp only[Qg]at g;split at g
     ·exact f.hown b (by simp[g])
     ·exact f.own k b g
    nodup:=fun k=>by
     simp only[Qg];split
     ·exact(List.nodup_append.1 q).1
     ·exact f.nodup k
    disj:=fun k U b g p=>by
     simp only[Qg]at g p;split at g<;>split at p
     ·rename_i N O;rw[N,O]
     ·exact absurd (by simp[g]) (f.hdisj U b p)
     ·exact absurd (by simp[p]) (f.hdisj k b g)
     ·exact f.disj k U b g p
    hown:=fun b g=>f.hown b (by simp only[List.mem_append]at g⊢;grind)
    hnodup:=(List.nodup_append.1 q).2.1
    hdisj:=fun k b g V=>by
     simp only[Qg]at g;split at g
     ·exact(List.nodup_append.1 q).2.2 b g b V rfl
     ·exact f.hdisj k b g (by simp only[List.mem_append]at V⊢;grind)
    comps:=fun d' j D=>by
     simp only[St.get,Z2]at D⊢;simp only[reduceCtorEq,if_false];split at D
     ·rename_i e;simp only[Key.c.injEq]at e;obtain⟨rfl,rfl⟩:=e;refine⟨y,vs.toArray,v,?_⟩;rw[A,<-l];simp
     ·exact f.comps d' j D
    slots:=fun k=>by
     by_cases hk:k= .c d i
     ·subst hk;simp only[St.get,Z2,if_true,Qg];exact⟨J,C,by unfold rdF;exact Zdb (Nat.le_refl _) (fun _ h=>h.elim) L⟩
     ·have N:St.get {env:=(Key.c d i,Tm.val t (.u true) x.1)::r,dirty:=(Y2 s d .tup).dirty,lent:=s.lent} k=St.get {env:=r,dirty:=(Y2 s d .tup).dirty,lent:=s.lent} k:=by simp[St.get,Z2,Ne.symm hk]
      have O:Qg F (.c d i) P k=F k:=by simp[Qg,hk]
      rw[N,O];exact Qom (s:={env:=r,dirty:=(Y2 s d .tup).dirty,lent:=s.lent}) (f.slots k)}
  obtain⟨F',z⟩:=Y x.2 K (i+1) Q _ _ (pre++ [Xz t J]) (by rw[A];simp) (by simp[l]) M E (by rw[Z2];simpa using y) (fun j hj=>by
   rw[Z2,if_neg (by simp;omega)];exact o j (by omega))
  exact⟨F',z⟩
theorem R.putRes{d:Nat}{rs:List Value}: ∀{ts:List Ty} {x:Jp ts} {S:List Nat},R n W0 w X F (S++H) s a->Jy s d=true->d<n->Zfd w W0.B ts x rs S->
  ∃F',R n W0 w X F' H (Qb3 d s ts x) (a.put (some d) (X4 rs))
 | [],x,S,h,b,c,hx=>by
  rw[Zpq (by rw[Qj2 hx];simp)];exact h.putTup b c hx
 | [t],x,S,h,b,c,hx=>by
  obtain⟨e,f,i,j,rfl,rfl,g,rfl,rfl⟩:=hx;exact⟨_,h.put b c ⟨e,rfl,by unfold rdF;exact Zdb (Nat.le_refl _) (fun _ (h:False)=>h.elim) (by simpa using g)⟩⟩
 |t::u::ts,x,S,h,b,c,hx=>by
  rw[Zpq (by rw[Qj2 hx];simp)];exact h.putTup b c hx
def Qtl(s:St)(tg:Xo)(x:Operand):Option FuncId:=
 match Ztc s (op1 s tg x)with
 |some ⟨.fnc f,_,_⟩=>some f
 |_=>none
theorem Zj8(h:R n W0 w X F H s a)(ht:tg.ok W0.gh a){x:Operand}{f:FuncId}(hf:Qtl s tg x=some f):a.eval x= .func (.func f) #[] #[]:=by
 unfold Qtl at hf;split at hf
 ·rename_i g k y d;simp only[Osi]at hf;subst hf;obtain⟨c,l,S,e,i,_⟩:=Zfa h ht d;have j:=K6 (X':=fun b=>X b\/b∈S) (fun _ h=> .inl h) c i (fun _ h=> .inr h);rw[e,j.1];rfl
 ·cases hf
theorem Z9i{Γ:Env}(hΓ:Γ.ok P g)(h:R n W0 w X F H s a)(ht:tg.ok W0.gh a){f:FuncId}{fo:Operand}(hfo:a.eval fo= .func (.func f) #[] #[]){xs:Array Operand}{ats:Array TypeId}(ho:o.op= .call {callee:= .value fo,args:=xs,argTypes:=ats}){e:FnE}(he:Γ.find f=some e)
  {us:Jp e.args} (hus:Zoi s tg e.args xs.toList=some us) {rv:Jp e.res} (hpre:e.F us=some rv) {K:Act->World->Prop} {Q:Exit->Act->World->Prop}
  (hK: ∀rs S w',R n W0 w' X F (S++H) s a->Zfd w' W0.B e.res rv rs S->Old w w'->K (a.put o.dst (X4 rs)) w'):o.wp P a w K Q:=by
 obtain⟨y,j⟩:=Env.find_ok hΓ he;subst y;have z:=j.calls w us rv (xs.toList.map a.eval) h.glob (Zq8 h ht hus) hpre;have l: (execOp a.eval o).run P w= .ok (.enter e.f (xs.toList.map a.eval).toArray) w:=by
  have:execOp a.eval o=callFunc e.f (xs.map a.eval):=by
   simp only[execOp,ho,resolve,hfo,Deferred.ofValue];simp[invoke]
  rw[this,j.enters];congr 2;apply Array.toList_inj.mp;simp
 unfold Oper.wp;rw[l,Oper.upon_enter];refine z.mono fun E w' ⟨rs,S,r,m,u,p⟩=> ?_;subst r;show K (a.put o.dst (X4 rs)) w';have q: ∀{i:List Ty} {x:Jp i} {rs:List Value} {S:List Nat},Zfd w' w.heap.size i x rs S->(∀b∈S,w.heap.size<=b/\b<w'.heap.size)/\Zfd w' W0.B i x rs S:=by
  intro i
  induction i with
  |nil=>intro x rs S h;exact⟨by simp[h.2],h⟩
  |cons t i A=>
   intro x rs S ⟨cs,us,S1,S2,e1,e2,g1,g2⟩;obtain⟨C,D⟩:=A g2;refine⟨fun b hb=> ?_,cs,us,S1,S2,e1,e2,Zdb h.below.sizeB (fun _ h=>h) g1,D⟩;rw[e2]at hb;rcases List.mem_append.1 hb with hb|hb
   ·exact Zt7 g1 b hb
   ·exact C b hb
 obtain⟨c,d⟩:=q m;exact hK rs S w' ((h.below' p).hand (fun b hb=>⟨.inl (Nat.le_trans h.below.size (c b hb).1),(c b hb).2,fun hx=>by have:=h.xlt b hx;have:=(c b hb).1;omega⟩) u
  (fun k b hb v=>by have:=(h.own k b hb).2.1;have:=(c b v).1;omega) (fun b hb v=>by have:=(h.hown b v).2.1;have:=(c b hb).1;omega)) d (fun k hk=>p.block k hk)
theorem Qxj{ρ:Type}{Γ:Env}(hΓ:Γ.ok P g)(h:R n W0 w X F H s a)(ht:tg.ok W0.gh a){f:FuncId}{fo:Operand}(hfo:a.eval fo= .func (.func f) #[] #[]){xs:Array Operand}{ats:Array TypeId}(ho:o.op= .call {callee:= .value fo,args:=xs,argTypes:=ats}){k:St->Option ρ}{r:ρ}(hr:Q5u Γ n s tg o.dst f xs.toList k=some r)
  {K:Act->World->Prop} {Q:Exit->Act->World->Prop} (hK: ∀v w' F' s',k s'=some r->R n W0 w' X F' H s' (a.put o.dst v)->Old w w'->K (a.put o.dst v) w'):o.wp P a w K Q:=by
 unfold Q5u at hr;split at hr
 ·cases hr
 ·rename_i e q;split at hr
  ·cases hr
  ·rename_i u j;cases hd:o.dst with
   |none=>
    rw[hd]at hr;simp only[Option.bind_eq_some_iff]at hr;obtain⟨t,i,hk⟩:=hr;refine Z9i hΓ h ht hfo ho q j i fun l S w' m b hold=> ?_;have c:=hK (X4 l) w' F s hk;rw[hd]at c⊢;exact c m.drop hold
   |some d=>
    rw[hd]at hr;simp only at hr;split at hr
    ·cases hr
    ·rename_i hdn;simp only[Oba,Nat.blt_eq]at hdn;simp only[Option.bind_eq_some_iff]at hr;obtain⟨t,i,hk⟩:=hr;refine Z9i hΓ h ht hfo ho q j i fun l S w' m b hold=> ?_;obtain⟨F',p⟩:=m.putRes hdn.1 hdn.2 b;have c:=hK (X4 l) w' F' _ hk;rw[hd]at c⊢;exact c p hold
end
end Go.Am
namespace Go.Am
open Go.RowKit
def Qnz(k d:Nat):List (Key×Tm)->List (Key×Tm)
 | []=>[]
 | (.c t i,x)::r=>match Nat.beq t k with
  |true=>(.c d i,x)::Qnz k d r
  |false=>match Nat.beq t d with
   |true=>Qnz k d r
   |false=>(.c t i,x)::Qnz k d r
 | (.m t,x)::r=>(.m t,x)::Qnz k d r
theorem Qr3(k d t:Nat): ∀l,Zf8 (Qnz k d l) (.m t)=Zf8 l (.m t)
 | []=>rfl
 | (.c a i,x)::r=>by
  simp only[Qnz];split
  ·simp only[Z2,reduceCtorEq,if_false,Qr3 k d t r]
  ·split
   ·simp only[Z2,reduceCtorEq,if_false,Qr3 k d t r]
   ·simp only[Z2,reduceCtorEq,if_false,Qr3 k d t r]
 | (.m a,x)::r=>by simp only[Qnz,Z2,Qr3 k d t r]
theorem Q03{k d:Nat}(hkd:k≠d)(t i:Nat): ∀l,Zf8 (Qnz k d l) (.c t i)=if t=d then Zf8 l (.c k i)else if t=k then .junk else Zf8 l (.c t i)
 | []=>by simp[Qnz,Zf8]
 | (.c a j,x)::r=>by
  have o:=Q03 hkd t i r;simp only[Qnz];split
  ·rename_i h;have h:=Onb h;subst h;simp only[Z2,o,Key.c.injEq];by_cases b:t=d
   ·subst b;simp
   ·simp only[b,if_false,Ne.symm b,false_and];by_cases g:t=a
    ·simp[g]
    ·simp[g,Ne.symm g]
  ·rename_i h;have f:a≠k:=fun e=>by subst e;rw[Nat.beq_refl]at h;cases h
   split
   ·rename_i n;have n:=Onb n;subst n;simp only[Z2,o,Key.c.injEq];by_cases b:t=a
    ·simp[b,f]
    ·simp[b,Ne.symm b]
   ·rename_i n;have p:a≠d:=fun e=>by subst e;rw[Nat.beq_refl]at n;cases n
    simp only[Z2,o,Key.c.injEq];by_cases b:t=d
    ·subst b;simp[p,f]
    ·by_cases g:t=k
     ·subst g;simp[b,f]
     ·simp[b,g]
 | (.m a,x)::r=>by simp only[Qnz,Z2,reduceCtorEq,if_false,Q03 hkd t i r]
def Qlq(s:St)(k d:Nat):St:={env:=Qnz k d ((.m d,.tup)::s.env),dirty:=(Y2 s d .tup).dirty,lent:=s.lent}
section
variable {g:K9} {W0:Zam g} {w:World} {X:Nat->Prop} {B n:Nat} {s s1 s2:St} {F F1 F2:Key->List Nat} {a:Act} {gh:Nat->Value}
theorem Xgc(hg: ∀t,s2.get (.m t)=s1.get (.m t))(hd:s2.dirty=s1.dirty)(hF: ∀t,F2 (.m t)=F1 (.m t)){v:Value}{S:List Nat}: ∀{u:Tm},vt gh w X B s1 F1 a v S u->vt gh w X B s2 F2 a v S u:=by
 have s: ∀r,s2.foul r=s1.foul r:=fun r=>by unfold St.foul;rw[hd]
 have hv: ∀{r p v U},Xi gh w s1 F1 a r p v U->Xi gh w s2 F2 a r p v U:=by
  intro r p v U h;unfold Xi at h⊢;rw[hg r,hF r];exact h
 intro u h
 induction u with
 |junk=>exact h
 |tup=>exact h
 |val=>exact h
 |box=>exact h
 |shp=>exact h
 |ptr r p=>
  obtain⟨z,e,T,f,x,b,j,c,d,k⟩:=h;exact⟨z,e,T,f,x,b,j,by rw[hg];exact c,by rw[hF];exact d,k⟩
 |aep r p i=>
  obtain⟨z,e,T,f,x,b,j,n,D,y,c,d,k⟩:=h;exact⟨z,e,T,f,x,b,j,n,D,y,by rw[hg];exact c,by rw[hF];exact d,k⟩
 |bor r p=>exact⟨h.1,fun o=>let⟨U,hU⟩:=h.2 (Zxg (fun r h=>(s r).symm.trans h) o);⟨U,hv hU⟩⟩
 |elp r p i q=>exact⟨h.1,fun o=>let⟨e,t,ad,m,cap,c,d⟩:=h.2 (Zxg (fun r h=>(s r).symm.trans h) o);⟨e,t,ad,m,cap,hv c,d⟩⟩
 |bel r p i q=>exact⟨h.1,fun o E=>let⟨e,t,ad,m,cap,x0,y,cs,c,k1,k2,k3,d⟩:=h.2 (Zxg (fun r h=>(s r).symm.trans h) o) ((s _).symm.trans E);⟨e,t,ad,m,cap,x0,y,cs,hv c,k1,k2,by rw[hF];exact k3,d⟩⟩
 |cl f l=>
  refine⟨h.1,Z3e (fun r p v A=> ?_) h.2⟩;obtain⟨e,T,f,x,b,j,c,d,k⟩:=A;exact⟨e,T,f,x,b,j,by rw[hg];exact c,by rw[hF];exact d,k⟩
 |pls H l=>
  refine⟨h.1,Zr7 (fun _ h=>h) (fun _ _=>rfl) (fun r p v A=> ?_) h.2⟩;obtain⟨e,T,f,x,b,j,c,d,k⟩:=A;exact⟨e,T,f,x,b,j,by rw[hg];exact c,by rw[hF];exact d,k⟩
 |gd g C u F=>
  intro o;obtain⟨z,c,d⟩:=h (by rw[<-s];exact o);exact⟨by rw[hg];exact z,fun G=>F (c G),d⟩
def Z8r(k d:Nat):Key->Option Key| .m t=>if t=d then none else some (.m t)| .c t i=>if t=d then some (.c k i)else if t=k then none else some (.c t i)
theorem Q76{k d:Nat}{x y j:Key}(hx:Z8r k d x=some j)(hy:Z8r k d y=some j):x=y:=by
 cases x with
 |m t=>
  simp only[Z8r]at hx;split at hx
  ·cases hx
  ·cases hx;cases y with
   |m u=>
    simp only[Z8r]at hy;split at hy
    ·cases hy
    ·simp only[Osi]at hy;exact hy.symm
   |c u i=>
    simp only[Z8r]at hy;split at hy
    ·cases hy
    ·split at hy<;>cases hy
 |c t i=>
  cases y with
  |m u=>
   simp only[Z8r]at hy;split at hy
   ·cases hy
   ·cases hy;simp only[Z8r]at hx;split at hx
    ·cases hx
    ·split at hx<;>cases hx
  |c u f=>
   simp only[Z8r]at hx hy;split at hx<;>split at hy
   ·rename_i a b;cases hx;cases hy;rw[a,b]
   ·split at hy
    ·cases hy
    ·rename_i a b e;cases hx;cases hy;exact absurd rfl e
   ·split at hx
    ·cases hx
    ·rename_i a b e;cases hy;cases hx;exact absurd rfl e
   ·split at hx
    ·cases hx
    ·split at hy
     ·cases hy
     ·cases hx;cases hy;rfl
theorem R.tupTo{k d:Nat}(h:R n W0 w X F [] s a)(hk:s.get (.m k)= .tup)(hd:Jy s d=true)(hn:d<n):
  ∃F',R n W0 w X F' [] (Qlq s k d) (a.put (some d) (Qp W0.gh a (.m k))):=by
 have A:k≠d:=fun e=>by subst e;simp[Jy,hk]at hd
 let F':Key->List Nat:=fun x=>match Z8r k d x with|some j=>F j|none=>[]
 have G: ∀t,(Go.Am.Qlq s k d).get (.m t)=if d=t then .tup else s.get (.m t):=fun t=>by
  unfold Go.Am.Qlq St.get;rw[Qr3,Z2];simp
 have L: ∀t i,(Go.Am.Qlq s k d).get (.c t i)=if t=d then s.get (.c k i)else if t=k then .junk else s.get (.c t i):=fun t i=>by
  unfold Go.Am.Qlq St.get;rw[Q03 A];simp only[Z2,reduceCtorEq,if_false]
 have q: ∀{x b},b∈F' x-> ∃j,Z8r k d x=some j/\b∈F j:=by
  intro x b o;simp only[F']at o;split at o
  ·rename_i j H;exact⟨j,H,o⟩
  ·cases o
 have g: ∀{v S u},vt W0.gh w X W0.B s F a v S u->vt W0.gh w X W0.B (Go.Am.Qlq s k d) F' (a.put (some d) (Qp W0.gh a (.m k))) v S u:=by
  intro v S u hv;refine Xgc (s1:=Y2 s d .tup) (s2:=Go.Am.Qlq s k d) (F1:=Qg F (.m d) []) (F2:=F') (fun t=> ?_) rfl (fun t=> ?_) (Q1q (t:= .tup) (v0:=Qp W0.gh a (.m k)) (S0:=[]) hd hv)
  ·rw[G,Zk0];simp
  ·simp only[F',Z8r,Qg,Key.m.injEq];by_cases e:t=d<;>simp[e]
 have l:Qp W0.gh (a.put (some d) (Qp W0.gh a (.m k))) (.m d)=Qp W0.gh a (.m k):=Zmm (a:=a) (by rw[h.size];exact hn);have r: ∀i,Qp W0.gh (a.put (some d) (Qp W0.gh a (.m k))) (.c d i)=Qp W0.gh a (.c k i):=fun i=>by
  simp only[Qp]at l⊢;rw[l]
 refine⟨F',?_⟩;exact
  {size:=by simp[Act.put,h.size]
   defers:=by simp[Act.put,h.defers]
   below:=h.below
   glob:=h.glob
   gx:=h.gx
   xs:=h.xs
   fix:=fun p I=>⟨(h.fix p I).1,by
    have:=Qpj hd;have f:p.1≠d:=fun e=>this (e▸(h.fix p I).1);rw[Zcm (by simpa[Key.t]using f)];exact(h.fix p I).2⟩
   xlt:=h.xlt
   xin:=h.xin
   x0:=h.x0
   own:=fun x b o=>let⟨j,_,H⟩:=q o;h.own j b H
   nodup:=fun x=>by
    simp only[F'];split
    ·exact h.nodup _
    ·simp
   disj:=fun x y b o J=>by
    obtain⟨j,C,D⟩:=q o;obtain⟨M,N,O⟩:=q J;have:=h.disj j M b D O;subst this;exact Q76 C N
   hown:=by simp
   hnodup:=by simp
   hdisj:=by simp
   comps:=fun E i f=>by
    rw[L]at f;rw[G];by_cases e:E=d
    ·subst e;simp only[if_true]at f⊢;obtain⟨_,K,C,D⟩:=h.comps k i f;exact⟨trivial,K,by rw[l];exact C,D⟩
    ·by_cases z:E=k
     ·simp[z,A]at f
     ·simp only[e,z,if_false]at f;obtain⟨P,K,C,D⟩:=h.comps E i f;refine⟨by simp[Ne.symm e,P],K,?_,D⟩;rw[Zcm (a:=a) (v:=Qp W0.gh a (.m k)) (k:= .m E) (d:=d) (by simpa[Key.t]using e)];exact C
   slots:=fun x=>by
    cases x with
    |m t=>
     rw[G];by_cases e:d=t
     ·subst e;simp only[if_true,F',Z8r];rfl
     ·have:F' (.m t)=F (.m t):=by simp[F',Z8r,Ne.symm e]
      rw[this,Zcm (by simpa[Key.t]using Ne.symm e)];simp only[e,if_false];exact g (h.slots (.m t))
    |c t i=>
     rw[L];by_cases e:t=d
     ·subst e;have:F' (.c t i)=F (.c k i):=by simp[F',Z8r]
      rw[this,r];simp only[if_true];exact g (h.slots (.c k i))
     ·by_cases z:t=k
      ·subst z;have:F' (.c t i)=[]:=by simp[F',Z8r,e]
       rw[this];simp only[e,if_false,if_true];rfl
      ·have:F' (.c t i)=F (.c t i):=by simp[F',Z8r,e,z]
       rw[this,Zcm (by simpa[Key.t]using e)];simp only[e,z,if_false];exact g (h.slots (.c t i))}
end
end Go.Am
namespace Go.Am
open Go.RowKit
structure FnL where
 f:FuncId
 e:TypeId
 t:Ty
 args:List Ty
 res:List Ty
 F:List t.den->Jp args->Option (Jp res×List t.den)
structure Qc1(P:Program)(g:K9)(e:FnL):Prop where
 flat:e.t.flat=true
 enters: ∀args w,(callFunc e.f args).run P w= .ok (.enter e.f args) w
 calls: ∀(w:World) (X:Nat->Prop) (L:List Nat) (l l':List e.t.den) (xs:Jp e.args) (r:Jp e.res) (v:Value) (vals:List Value),g.G w->(∀b,g.GB b->X b)->(∀b,X b->b<w.heap.size)->(∀b∈L,¬X b)->L.Nodup->
  rd w X 0 true (.slice e.e e.t) l [v] L->Zq5 w X 0 e.args xs vals->e.F l xs=some (r,l')->
  Calls P e.f (v::vals).toArray w fun en w'=> ∃rs S,en= .returned (X4 rs)/\Zfd w' w.heap.size e.res r rs S/\S.Nodup/\(∃X',rd w' X' 0 true (.slice e.e e.t) l' [v] L)/\
   w'.os=w.os/\w'.tape=w.tape/\w'.output=w.output/\w.heap.size<=w'.heap.size/\ ∀b,b<w.heap.size->b∉L->w'.heap[b]? =w.heap[b]?
abbrev Zzu:=List FnL
def Zzu.find(Γ:Zzu)(f:FuncId):Option FnL:=
 match Γ with
 | []=>none
 |e::r=>match Nat.beq e.f f with|true=>some e|false=>Zzu.find r f
def Zzu.ok(Γ:Zzu)(P:Program)(g:K9):Prop:= ∀e∈Γ,Qc1 P g e
theorem Zzu.find_ok{Γ:Zzu}{P:Program}{g:K9}(h:Γ.ok P g){f:FuncId}{e:FnL}(he:Γ.find f=some e):e.f=f/\Qc1 P g e:=by
 induction Γ with
 |nil=>cases he
 |cons x r a=>
  simp only[Zzu.find]at he;split at he
  ·rename_i b;simp only[Osi]at he;subst he;exact⟨Onb b,h _ (by simp)⟩
  ·exact a (fun e he=>h e (by simp[he])) he
def Z00(s:St):Op1->Option Nat
 | .tm k (.val _ _ _)=>some k
 | .tm _ (.bor r [])=>match s.bad r []with|false=>some r|true=>none
 |_=>none
def Qqs(ts:List Ty):Bool:=ts.all Ty.flat
def Q7g(e:FnL):Tm->Option (List e.t.den×(List e.t.den->Tm))
 | .val T (.u true) y=>match Ky (.slice e.e e.t) T y with|some l=>some (l,fun z=> .val (.slice e.e e.t) (.u true) z)|none=>none
 | .box k T (.u true) y=>match Ky (.slice e.e e.t) T y with|some l=>some (l,fun z=> .box k (.slice e.e e.t) (.u true) z)|none=>none
 |_=>none
noncomputable def Q7f{ρ:Type}(Γ:Zzu)(n:Nat)(s:St)(dst:Option Nat)(f:FuncId)(xs:List Operand)(k:St->Option ρ):Option ρ:=
 match Γ.find f,xs with
 |some e,x0::rest=>match Z00 s (op1 s [] x0)with
  |some q=>match Q7g e (s.get (.m q)),Zoi s [] e.args rest,Qqs e.args with
   |some lm,some us,true=>match dst with
    |none=>(e.F lm.1 us).bind fun z=>k (Zua s q (lm.2 z.2))
    |some d=>match Jy (Zua s q (lm.2 lm.1)) d&&Nat.blt d n with
     |true=>(e.F lm.1 us).bind fun z=>k (Qb3 d (Zua s q (lm.2 z.2)) e.res z.1)
     |false=>none
   |_,_,_=>none
  |none=>none
 |_,_=>none
section
variable {P:Program} {g:K9} {W0:Zam g} {w w':World} {X X':Nat->Prop} {B B' n:Nat} {own:Bool} {s:St} {F:Key->List Nat} {a:Act} {H H':List Nat} {o:Oper} {tg:Xo} {τ:Tab} {gh:Nat->Value}
theorem Z4x: ∀{ts:List Ty} {xs:Jp ts} {vs:List Value},Qqs ts=true->Zq5 w X B ts xs vs->Zq5 w X' B ts xs vs
 | [],_,_,_,h=>h
 |t::ts,xs,vs,a,⟨b,c,d,e,f⟩=>by
  simp only[Qqs,List.all_cons,Oba]at a;exact⟨b,c,d,(Zdc a.1 e).2,Z4x a.2 f⟩
theorem Zoh{own':Bool}{w w':World}{X X':Nat->Prop}{B B':Nat}{own:Bool}: ∀{T:Ty} {x:T.den} {vs:List Value} {S:List Nat},T.flat=true->
  rd w X B own T x vs S->S=[]/\rd w' X' B' own' T x vs []
 | .unit,_,_,_,_,h| .int _,_,_,_,_,h| .bool,_,_,_,_,h| .fnc _,_,_,_,_,h| .str,_,_,_,_,h=>⟨h.2,h.1,rfl⟩
 | .slice _ _,_,_,_,c,_=>by simp[Ty.flat]at c
 | .pair a b,_,_,_,c,⟨d,f,q,r,e,g,i,j⟩=>by
  simp only[Ty.flat,Oba]at c;obtain⟨rfl,m⟩:=Zoh c.1 i;obtain⟨rfl,o⟩:=Zoh c.2 j;exact⟨by simp[g],d,f,[],[],e,rfl,m,o⟩
 | .arr n t,_,_,_,c,⟨h,p⟩=>by
  obtain⟨e,k⟩:=Zeq (r':=rd w' X' B' own' t) (fun x v S h=>Zoh (by simpa[Ty.flat]using c) h) p;exact⟨e,h,k⟩
 | .err,_,_,_,_,h=>⟨h.2,h.1,rfl⟩
 | .hid _,_,_,_,c,⟨l,y,h⟩=>let⟨e,k⟩:=Zoh (by simpa[Ty.flat]using c) h;⟨e,l,y,k⟩
 | .sptr ..,_,_,_,c,_=>by simp[Ty.flat]at c
 | .clo ..,_,_,_,c,_=>by simp[Ty.flat]at c
theorem Qww{w w':World}{B:Nat}{e:TypeId}{sz nn nn':Nat}{v:Value}{xs xs':List Value}(h:w.ownsRow B e sz v nn xs)(h':w'.ownsRow 0 e sz v nn' xs'):w'.ownsRow B e sz v nn' xs':=by
 refine⟨h'.1,h'.2.imp id fun⟨b,c,d,f,l,j⟩=>⟨b,c,d,f,?_,j⟩⟩;rcases h.2 with⟨a,_⟩| ⟨m,g,i,a,k,_⟩
 ·rw[f]at a;cases a
 ·rw[f]at a;simp only[Value.slice.injEq,Osi,Addr.mk.injEq]at a;rw[a.1.1];exact k
theorem Q29{w w':World}{X X' X'':Nat->Prop}{B:Nat}{e:TypeId}{t:Ty}{l l':List t.den}{v:Value}{L L':List Nat}(hf:t.flat=true)(h:rd w X B true (.slice e t) l [v] L)(h':rd w' X' 0 true (.slice e t) l' [v] L'):rd w' X'' B true (.slice e t) l' [v] L':=by
 obtain⟨p,f,q,r,b,s,g,u⟩:=h;obtain⟨y,a,i,j,c,k,d,m⟩:=h';simp only[List.cons.injEq,and_true]at b c;subst b;subst c;obtain⟨n,o⟩:=Zeq (r':=rd w' X'' B true t) (fun x v S h=>Zoh hf h) m;exact⟨_,a,i,j,rfl,k,⟨Qww g.1 d.1,d.2⟩,by rw[n];exact o⟩
theorem Qgi(h:R n W0 w X F H s a){x:Operand}{q:Nat}(hq:Z00 s (op1 s [] x)=some q){T:Ty}{f:Fl}{y:T.den}(hg:s.get (.m q)= .val T f y):a.eval x=Qp W0.gh a (.m q):=by
 unfold Z00 at hq;split at hq
 ·rename_i k i j l hx;simp only[Osi]at hq;subst hq;obtain⟨rfl,d,_⟩:=Zlh hx;exact(Ye W0 a d).symm
 ·rename_i k r hx;obtain⟨rfl,_,e⟩:=Kp h (tg:=[]) (fun p g=>by cases g) hx (by simp);split at hq
  ·rename_i b;simp only[Osi]at hq;subst hq;obtain⟨U,c⟩:=e b;unfold Xi at c;rw[hg]at c;exact c.2.2
  ·cases hq
 ·cases hq
theorem Qyl(h:R n W0 w X F H s a){e:FnL}(_hf:e.t.flat=true){x:Operand}{q:Nat}(hq:Z00 s (op1 s [] x)=some q){lm:List e.t.den×(List e.t.den->Tm)}(hl:Q7g e (s.get (.m q))=some lm):
  ∃v L,a.eval x=v/\rd w X W0.B true (.slice e.e e.t) lm.1 [v] L/\(∀b∈L,b∈F (.m q))/\L.Nodup/\s.get (.m q)≠ .tup/\
   (∀z e T f x b S,s.get (.m q)= .box e T f x->F (.m q)=b::S-> ∃f' x' S'',lm.2 z= .box e T f' x'/\F (.m q)=b::S'')/\
   (∀z d,Jy (Zua s q (lm.2 lm.1)) d=true->Jy (Zua s q (lm.2 z)) d=true)/\
   ∀z w',(∀b,b<w.heap.size->b∉L->w'.heap[b]? =w.heap[b]?)->Z1g W0.gh w w' s (Zua s q (lm.2 z)) F F a q (lm.2 z)/\
    (rd w' X W0.B true (.slice e.e e.t) z [v] L->vt W0.gh w' X W0.B (Zua s q (lm.2 z)) F a (Qp W0.gh a (.m q)) (F (.m q)) (lm.2 z)):=by
 have A: ∀{T:Ty} {y:T.den} {l:List e.t.den},Ky (.slice e.e e.t) T y=some l->T= .slice e.e e.t/\HEq y l:=by
  intro T y l hl;unfold Ky at hl;split at hl
  ·rename_i eq;subst eq;simp only[Osi]at hl;exact⟨rfl,heq_of_eq hl⟩
  ·cases hl
 have V:=h.slots (.m q);unfold Q7g at hl;split at hl
 ·rename_i T y u;split at hl
  ·rename_i l Y;obtain⟨rfl,j⟩:=A Y;have j:=eq_of_heq j;subst j;simp only[Osi]at hl;subst hl;rw[u]at V;obtain⟨vs,hv,g⟩:=V;unfold rdF at g;obtain⟨v,rfl⟩: ∃v,vs=[v]:=List.length_eq_one_iff.1 (X5 g);have hv:Qp W0.gh a (.m q)=v:=hv;refine⟨v,F (.m q),(Qgi h hq u).trans hv,g,fun _ E=>E,h.nodup _,by rw[u];simp,(fun z e T f x b S E=>by rw[u]at E;cases E),fun z d o=> ?_,fun z w' _=>⟨Zpv ⟨by rw[Kr];simp,fun p v U hv=> ?_⟩,fun Z=>⟨[v],by rw[hv];rfl,by unfold rdF;exact Z⟩⟩⟩
   ·unfold Jy at o⊢;rw[Kr]at o⊢;by_cases C:Key.m q=Key.m d
    ·rw[if_pos C]at o⊢;exact o
    ·rw[if_neg C]at o⊢;exact o
   ·unfold Xi at hv⊢;rw[u]at hv;rw[Kr];simpa using hv
  ·cases hl
 ·rename_i k T y u;split at hl
  ·rename_i l Y;obtain⟨rfl,j⟩:=A Y;have j:=eq_of_heq j;subst j;simp only[Osi]at hl;subst hl;rw[u]at V;obtain⟨b,c,W,hv,D,E,g⟩:=V;unfold rdF at g;obtain⟨v,G⟩: ∃v,c.toList=[v]:=List.length_eq_one_iff.1 (X5 g);rw[G]at g;have N:b∉W:=fun hm=>by have:=h.nodup (.m q);rw[D]at this;exact(List.nodup_cons.1 this).1 hm
   have O:b<w.heap.size:=(h.own (.m q) b (by rw[D];simp)).2.1;have aa:a.eval x=v:=by
    unfold Z00 at hq;split at hq
    ·rename_i k' T' f' y' hx;simp only[Osi]at hq;subst hq;obtain⟨_,_,P⟩:=Zlh hx;rw[u]at P;cases P
    ·rename_i k' r hx;obtain⟨rfl,_,h2⟩:=Kp h (tg:=[]) (fun p hp=>by cases hp) hx (by simp);split at hq
     ·rename_i I;simp only[Osi]at hq;subst hq;obtain⟨U,hU⟩:=h2 I;unfold Xi at hU;rw[u]at hU;obtain⟨b',c',S'',y',J,K,M,rfl,e4⟩:=hU;rw[D]at J;simp only[List.cons.injEq]at J;obtain⟨rfl,rfl⟩:=J;rw[E]at K;simp only[Osi,Obj.cells.injEq,and_true]at K;simp only[Zdx,Osi]at M;subst M;rw[e4,<-K,G];rfl
     ·cases hq
    ·cases hq
   refine⟨v,W,aa,g,fun b' ab=>by rw[D];simp[ab],by have:=h.nodup (.m q);rw[D]at this;exact(List.nodup_cons.1 this).2,by rw[u];simp,fun z K T f x b2 S Q ac=> ?_,fun z d o=> ?_,fun z w' hw=>⟨Zpv ⟨by rw[Kr];simp,fun p v U hv=> ?_⟩,fun Z=>⟨b,c,W,hv,D,by rw[hw b O N];exact E,by unfold rdF;rw[G];exact Z⟩⟩⟩
   ·rw[u]at Q;cases Q;exact⟨_,_,S,rfl,ac⟩
   ·unfold Jy at o⊢;rw[Kr]at o⊢;by_cases C:Key.m q=Key.m d
    ·rw[if_pos C]at o;cases o
    ·rw[if_neg C]at o⊢;exact o
   ·unfold Xi at hv⊢;rw[u]at hv;rw[Kr];simp only[if_true];obtain⟨b',c',S'',y',J,K,M,e4,e5⟩:=hv;rw[D]at J;simp only[List.cons.injEq]at J;obtain⟨rfl,rfl⟩:=J;cases p with
    |nil=>
     simp only[Zdx,Osi]at M;subst M;exact⟨b,c',W,_,D,by rw[hw b O N];exact K,rfl,e4,e5⟩
    |cons i p=>simp[Zdx,fld]at M
  ·cases hl
 ·cases hl
theorem Qyk{ρ:Type}{Γ:Zzu}(hΓ:Γ.ok P g)(h:R n W0 w X F [] s a){f:FuncId}{fo:Operand}(hfo:a.eval fo= .func (.func f) #[] #[]){xs:Array Operand}{ats:Array TypeId}(ho:o.op= .call {callee:= .value fo,args:=xs,argTypes:=ats}){k:St->Option ρ}{r:ρ}(hr:Q7f Γ n s o.dst f xs.toList k=some r)
  {K:Act->World->Prop} {Q:Exit->Act->World->Prop} (hK: ∀v w' X' F' s',k s'=some r->R n W0 w' X' F' [] s' (a.put o.dst v)->K (a.put o.dst v) w'):o.wp P a w K Q:=by
 unfold Q7f at hr;split at hr
 ·rename_i e x0 y he ac;obtain⟨rfl,A⟩:=Zzu.find_ok hΓ he;split at hr
  ·rename_i q hq;split at hr
   ·rename_i lm us hl ad ae;obtain⟨v,L,hv,O,C,ag,U,E,V,Qew⟩:=Qyl h A.flat hq hl;have ar: ∀b∈L,b<w.heap.size:=fun b hb=>(h.own _ _ (C b hb)).2.1
    
    have call: ∀{z},e.F lm.1 us=some z-> ∀{K':Act->World->Prop},(∀l S w',R n W0 w' X F (S++ []) (Zua s q (lm.2 z.2)) a->Zfd w' W0.B e.res z.1 l S->K' (a.put o.dst (X4 l)) w')->o.wp P a w K' Q:=by
     intro z W K' i;have G:xs.toList.map a.eval=v::y.map a.eval:=by rw[ac,List.map_cons,hv]
     have hc:=A.calls w (fun b=>b<w.heap.size/\b∉L) L lm.1 z.2 us z.1 v (y.map a.eval) h.glob (fun b hb=>⟨h.xlt b (h.gx b hb),fun D=>(h.own _ _ (C b D)).2.2 (h.gx b hb)⟩) (fun b hb=>hb.1) (fun b hb hx=>hx.2 hb) ag
      (by
       obtain⟨v1,ah,S1,S2,e1,e2,h1,h2⟩:=O;obtain⟨e5,J⟩:=Zeq (r':=rd w (fun b=>b<w.heap.size/\b∉L) 0 true e.t) (fun x v S h=>Zoh A.flat h) h2;exact⟨v1,ah,S1,S2,e1,e2,⟨Z0s h1.1 (Nat.zero_le _),h1.2⟩,by rw[e5];exact J⟩)
      (Z4x ae (Zq8 h (tg:=[]) (fun p hp=>by cases hp) ad)) W
     have Y: (execOp a.eval o).run P w= .ok (.enter e.f (v::y.map a.eval).toArray) w:=by
      have:execOp a.eval o=callFunc e.f (xs.map a.eval):=by
       simp only[execOp,ho,resolve,hfo,Deferred.ofValue];simp[invoke]
      rw[this,A.enters];congr 2;apply Array.toList_inj.mp;rw[<-G];simp
     unfold Oper.wp;rw[Y,Oper.upon_enter];refine hc.mono fun en w' ⟨l,S,aj,u,ak,⟨X2,Z⟩,h1,h2,h3,h4,J⟩=> ?_;subst aj;show K' (a.put o.dst (X4 l)) w';have aa: ∀{M:List Ty} {x:Jp M} {l:List Value} {S:List Nat},Zfd w' w.heap.size M x l S->(∀b∈S,w.heap.size<=b/\b<w'.heap.size)/\Zfd w' W0.B M x l S:=by
      intro M
      induction M with
      |nil=>intro x l S h;exact⟨by simp[h.2],h⟩
      |cons t M ih=>
       intro x l S ⟨cs,us,S1,S2,e1,e2,g1,g2⟩;obtain⟨k1,k2⟩:=ih g2;refine⟨fun b hb=> ?_,cs,us,S1,S2,e1,e2,Zdb h.below.sizeB (fun _ h=>h) g1,k2⟩;rw[e2]at hb;rcases List.mem_append.1 hb with hb|hb
       ·exact Zt7 g1 b hb
       ·exact k1 b hb
     obtain⟨c,H⟩:=aa u;have ab:rd w' X W0.B true (.slice e.e e.t) z.2 [v] L:=Q29 A.flat O Z;have al:W0.below w':=⟨h1.trans h.below.os,h2.trans h.below.tape,h3.trans h.below.output,Nat.le_trans h.below.size h4,fun b hb=>
      (J b (Nat.lt_of_lt_of_le (W0.yW b hb) h.below.size) fun D=>W0.sep hb (h.own _ _ (C b D)).1 rfl).trans (h.below.block b hb)⟩
     have I:Qg F (.m q) (F (.m q))=F:=by funext j;by_cases hj:j= .m q<;>simp[Qg,hj]
     obtain⟨am,ap⟩:=Qew z.2 w' J;have N:=h.turn' (w':=w') (S':=F (.m q)) (by rw[I];exact am) al h4 (fun b hb=>J b (h.xlt b hb) fun D=>(h.own _ _ (C b D)).2.2 hb)
      (fun k b hk hb=>J b (h.own k b hb).2.1 fun D=>hk (h.disj _ _ b hb (C b D))) (H':=[]) (fun b hb=>by simpa using hb) (by simpa using h.nodup (.m q)) U (E z.2)
      (by rw[I];exact ap ab)
     rw[I]at N;exact i l S w' (N.hand (fun b hb=>⟨.inl (Nat.le_trans h.below.size (c b hb).1),(c b hb).2,fun hx=>by have:=h.xlt b hx;have:=(c b hb).1;omega⟩) ak
      (fun k b hb D=>by have:=(h.own k b hb).2.1;have:=(c b D).1;omega) (fun b hb D=>by cases D)) H
    split at hr
    ·rename_i hd;simp only[Option.bind_eq_some_iff]at hr;obtain⟨z,W,hk⟩:=hr;refine call W fun l S w' N u=> ?_;have i:=hK (X4 l) w' X F _ hk;rw[hd]at i⊢;exact i N.drop
    ·rename_i d hd;split at hr
     ·rename_i hdn;simp only[Oba,Nat.blt_eq]at hdn;simp only[Option.bind_eq_some_iff]at hr;obtain⟨z,W,hk⟩:=hr;refine call W fun l S w' N u=> ?_;obtain⟨F',aq⟩:=N.putRes (V z.2 d hdn.1) hdn.2 u;have i:=hK (X4 l) w' X F' _ hk;rw[hd]at i⊢;exact i aq
     ·cases hr
   ·cases hr
  ·cases hr
 ·cases hr
end
end Go.Am
namespace Go.Am
open Go.RowKit
inductive AK where
 |sh (T:Ty)
 |bx (e:TypeId) (T:Ty) (o:Fl)
 |mv (T:Ty)
@[reducible] def Z1h:List AK->Type| []=>Unit| .sh T::r=>T.den×Z1h r| .bx _ T _::r=>T.den×Z1h r| .mv T::r=>T.den×Z1h r
@[reducible] def Zs0:List AK->Type| []=>Unit| .sh _::r=>Zs0 r| .bx _ T _::r=>T.den×Zs0 r| .mv _::r=>Zs0 r
inductive RS where
 |vals (ts:List Ty)
 |newb (e:TypeId) (T:Ty)
 |shr (ts:List Ty)
 |flg (ts:List (Ty×Fl))
 |fp (T:Ty) (j:Nat) (p1 p2:List Nat)
@[reducible] def Zwf:List (Ty×Fl)->Type| []=>Unit|t::r=>t.1.den×Zwf r
@[reducible] def Z1i:RS->Type| .vals ts=>Jp ts| .newb _ T=>T.den| .shr ts=>Jp ts| .flg ts=>Zwf ts| .fp .. =>Bool
def Qtr(w:World)(X:Nat->Prop)(B:Nat): (ts:List (Ty×Fl))->Zwf ts->List Value->List Nat->Prop| [],_,vs,S=>vs=[]/\S=[]|t::ts,x,vs,S=> ∃cs us S1 S2,vs=Xz t.1 cs::us/\S=S1++S2/\rdF w X B t.1 t.2 x.1 cs S1/\Qtr w X B ts x.2 us S2
def Qy3(w:World)(X:Nat->Prop): (ts:List Ty)->Jp ts->List Value->Prop| [],_,vs=>vs=[]|t::ts,x,vs=> ∃cs us,vs=Xz t cs::us/\rd w X 0 false t x.1 cs []/\Qy3 w X ts x.2 us
def rdA(w:World)(X:Nat->Prop): (as:List AK)->Z1h as->List Value->List Nat->Prop| [],_,vs,L=>vs=[]/\L=[]| .sh t::r,x,vs,L=> ∃cs us,vs=Xz t cs::us/\rd w X 0 false t x.1 cs []/\rdA w X r x.2 us L| .bx e t o::r,x,vs,L=> ∃b c S us L',vs= .pointer (some ⟨b,0,none⟩)::us/\L=b:: (S++L')/\w.heap[b]? =some (.cells c e (0,0))/\rdF w X 0 t o x.1 c.toList S/\rdA w X r x.2 us L'| .mv t::r,x,vs,L=> ∃cs S us L',vs=Xz t cs::us/\L=S++L'/\rd w X 0 true t x.1 cs S/\rdA w X r x.2 us L'
def rdO(w:World)(X:Nat->Prop): (as:List AK)->Zs0 as->List Value->List Nat->List Nat->Prop| [],_,vs,BL,C=>vs=[]/\BL=[]/\C=[]| .sh _::r,x,vs,BL,C=> ∃v us,vs=v::us/\rdO w X r x us BL C| .bx e t o::r,x,vs,BL,C=> ∃b c S us BL' C',vs= .pointer (some ⟨b,0,none⟩)::us/\BL=b::BL'/\C=S++C'/\w.heap[b]? =some (.cells c e (0,0))/\rdF w X 0 t o x.1 c.toList S/\rdO w X r x.2 us BL' C'| .mv _::r,x,vs,BL,C=> ∃v us,vs=v::us/\rdO w X r x us BL C
def rdS(w:World)(X:Nat->Prop): (r:RS)->Z1i r->List Value->List Nat->Prop| .vals ts,x,vs,S=>Zfd w 0 ts x vs S| .newb e T,x,vs,S=> ∃b c,vs=[.pointer (some ⟨b,0,none⟩)]/\S=[b]/\w.heap[b]? =some (.cells c e (0,0))/\rd w X 0 false T x c.toList []| .shr ts,x,vs,S=>S=[]/\Qy3 w X ts x vs| .flg ts,x,vs,S=>Qtr w X 0 ts x vs S| .fp ..,_,_,S=>S=[]
def rdP: (r:RS)->Z1i r->List Value->List Nat->Prop| .fp T j p1 p2,x,vs,BL=> ∃b,BL[j]? =some b/\vs=[.pointer (some ⟨b,J1 T (bif x then p1 else p2),none⟩)]| .vals _,_,_,_| .newb ..,_,_,_| .shr _,_,_,_| .flg _,_,_,_=>True
structure FnB where
 f:FuncId
 args:List AK
 res:RS
 F:Z1h args->Option (Z1i res×Zs0 args)
structure Xay(w w':World)(X X':Nat->Prop)(L N:List Nat):Prop where
 os:w'.os=w.os
 tape:w'.tape=w.tape
 output:w'.output=w.output
 size:w.heap.size<=w'.heap.size
 xx: ∀b,X b->X' b
 xlt: ∀b,X' b->b<w'.heap.size
 xin: ∀b,X' b->X b\/w.heap.size<=b\/b∈L
 nd:N.Nodup
 nin: ∀b,b∈N->(w.heap.size<=b\/b∈L)/\b<w'.heap.size/\ ¬X' b
 block: ∀b,b<w.heap.size->b∉L->w'.heap[b]? =w.heap[b]?
structure Z26(P:Program)(g:K9)(e:FnB):Prop where
 enters: ∀args w,(callFunc e.f args).run P w= .ok (.enter e.f args) w
 calls: ∀(w:World) (X:Nat->Prop) (L:List Nat) (xs:Z1h e.args) (r:Z1i e.res×Zs0 e.args) (vals:List Value),g.G w->(∀b,g.GB b->X b)->(∀b,X b->b<w.heap.size)->(∀b,b∈L-> ¬X b/\b<w.heap.size)->L.Nodup->
  rdA w X e.args xs vals L->e.F xs=some r->
  Calls P e.f vals.toArray w fun en w'=> ∃rs S BL C X',en= .returned (X4 rs)/\Xay w w' X X' L (S++ (BL++C))/\rdS w' X' e.res r.1 rs S/\rdO w' X' e.args r.2 vals BL C/\rdP e.res r.1 rs BL
abbrev Zv7:=List FnB
def Zv7.find(Γ:Zv7)(f:FuncId):Option FnB:=
 match Γ with
 | []=>none
 |e::r=>match Nat.beq e.f f with|true=>some e|false=>Zv7.find r f
def Zv7.ok(Γ:Zv7)(P:Program)(g:K9):Prop:= ∀e∈Γ,Z26 P g e
theorem Zv7.find_ok{Γ:Zv7}{P:Program}{g:K9}(h:Γ.ok P g){f:FuncId}{e:FnB}(he:Γ.find f=some e):e.f=f/\Z26 P g e:=by
 induction Γ with
 |nil=>cases he
 |cons x r a=>
  simp only[Zv7.find]at he;split at he
  ·rename_i b;simp only[Osi]at he;subst he;exact⟨Onb b,h _ (by simp)⟩
  ·exact a (fun e he=>h e (by simp[he])) he
def Qi3:Fl->Fl->Ty->Bool| .u true,f,T=>Wz T f (.u true)| .u false,f,T=>Znv f T| .p a b,f,.pair A B=>Qi3 a (Zuj f 0) A&&Qi3 b f.snd B|o,f,T=>Wz T f o
def Quz:Op1->Option Nat| .tm k (.box _ _ _ _)=>some k| .tm _ (.ptr r [])=>some r|_=>none
def Qb6(s:St)(o:Op1)(T:Ty):Option T.den:=
 match o with
 | .cst v=>Z6h T v
 |o=>match Ztc s o with
  |some ⟨U,f,x⟩=>match Znv f U with
   |true=>Ky T U x
   |false=>none
  |none=>none
def Ztw:St->List AK->List Operand->Option (List TV×St)
 |s,.mv t::as,x::xs=>match Ztj s (op1 s [] x) t with
  |some u=>match Wz u.T u.f (.u true),Ztw u.s as xs with
   |true,some (l,s')=>some (⟨u.T,u.x⟩::l,s')
   |_,_=>none
  |none=>none
 |s,.sh _::as,_::xs=>Ztw s as xs
 |s,.bx _ _ _::as,_::xs=>Ztw s as xs
 |s,_,_=>some ([],s)
def Zv0(s:St):List TV->(as:List AK)->List Operand->Option (Z1h as×List Nat)
 |_,[],[]=>some ((),[])
 |m,.sh t::as,x::xs=>match Qb6 s (op1 s [] x) t,Zv0 s m as xs with
  |some u,some (us,rs)=>some ((u,us),rs)
  |_,_=>none
 |m,.bx e t o::as,x::xs=>match Quz (op1 s [] x)with
  |some q=>match s.get (.m q)with
   | .box e' U f y=>match Nat.beq e' e&&Qi3 o f U,Ky t U y,Zv0 s m as xs with
    |true,some u,some (us,rs)=>some ((u,us),q::rs)
    |_,_,_=>none
   |_=>none
  |none=>none
 |z::m,.mv t::as,_::xs=>match Ky t z.1 z.2,Zv0 s m as xs with
  |some u,some (us,rs)=>some ((u,us),rs)
  |_,_=>none
 |_,_,_=>none
def Qi2:List Nat->Bool| []=>true|x::xs=> !(xs.any (Nat.beq x))&&Qi2 xs
def Zls:List AK->List Operand->St->St
 | .sh t::as,x::xs,s=>match t.flat with
  |true=>Zls as xs s
  |false=>match Z00 s (op1 s [] x)with
   |some q=>match s.get (.m q)with
    | .val U f y=>match Znv f U,f.live with
     |false,true=>Zls as xs (Zua s q (.val U (.u false) y))
     |_,_=>Zls as xs s
    |_=>Zls as xs s
   |none=>Zls as xs s
 | .bx _ _ _::as,_::xs,s=>Zls as xs s
 | .mv _::as,_::xs,s=>Zls as xs s
 |_,_,s=>s
def Zor:List Nat->St->St
 | [],s=>s
 |q::rs,s=>match s.get (.m q)with
  | .box e T _ y=>Zor rs (Y6 s q (.box e T .d y))
  |_=>Zor rs s
def Qtq: (as:List AK)->Zs0 as->List Nat->St->St| [],_,_,s=>s| .sh _::r,x,rs,s=>Qtq r x rs s| .bx e T o::r,x,q::rs,s=>Qtq r x.2 rs (Y6 s q (.box e T o x.1))| .bx _ _ _::_,_,[],s=>s| .mv _::r,x,rs,s=>Qtq r x rs s
def Qde(d:Nat): (ts:List Ty)->Jp ts->Nat->List (Key×Tm)->List (Key×Tm)| [],_,_,r=>r|t::ts,x,i,r=>Qde d ts x.2 (i+1) ((.c d i,.val t (.u false) x.1)::r)
def Xbi(d:Nat)(s:St): (ts:List Ty)->Jp ts->St| [t],r=>Y2 s d (.val t (.u false) r.1)| [],r=>{env:=Qde d [] r 0 (Y2 s d .tup).env,dirty:=(Y2 s d .tup).dirty,lent:=s.lent}|t::u::ts,r=>{env:=Qde d (t::u::ts) r 0 (Y2 s d .tup).env,dirty:=(Y2 s d .tup).dirty,lent:=s.lent}
def Qpd(d:Nat): (ts:List (Ty×Fl))->Zwf ts->Nat->List (Key×Tm)->List (Key×Tm)| [],_,_,r=>r|t::ts,x,i,r=>Qpd d ts x.2 (i+1) ((.c d i,.val t.1 t.2 x.1)::r)
def Xcz(d:Nat)(s:St): (ts:List (Ty×Fl))->Zwf ts->St| [t],r=>Y2 s d (.val t.1 t.2 r.1)| [],r=>{env:=Qpd d [] r 0 (Y2 s d .tup).env,dirty:=(Y2 s d .tup).dirty,lent:=s.lent}|t::u::ts,r=>{env:=Qpd d (t::u::ts) r 0 (Y2 s d .tup).env,dirty:=(Y2 s d .tup).dirty,lent:=s.lent}
def Qw0(d:Nat)(s:St): (r:RS)->Z1i r->St| .vals ts,x=>Qb3 d s ts x| .newb e T,x=>Y2 s d (.box e T (.u false) x)| .shr ts,x=>Xbi d s ts x| .flg ts,x=>Xcz d s ts x| .fp ..,_=>s
noncomputable def Q96{ρ:Type}(d:Nat)(rs:List Nat)(s:St): (r:RS)->Z1i r->(St->Option ρ)->Option ρ
 | .fp T j p1 p2,x,k=>match rs[j]? with
  |some q=>match s.get (.m q)with
   | .box _ U _ _=>match decide (U=T)with
    |true=>bif x then k (Y2 s d (.ptr q p1))else k (Y2 s d (.ptr q p2))
    |false=>none
   |_=>none
  |none=>none
 | .vals ts,x,k=>k (Qw0 d s (.vals ts) x)
 | .newb e T,x,k=>k (Qw0 d s (.newb e T) x)
 | .shr ts,x,k=>k (Qw0 d s (.shr ts) x)
 | .flg ts,x,k=>k (Qw0 d s (.flg ts) x)
noncomputable def Qo6{ρ:Type}(Γ:Zv7)(n:Nat)(s:St)(dst:Option Nat)(f:FuncId)(xs:List Operand)(k:St->Option ρ):Option ρ:=
 match Γ.find f with
 |none=>none
 |some e=>match Ztw (Zls e.args xs s) e.args xs with
  |none=>none
  |some (m,s2)=>match Zv0 s2 m e.args xs with
   |none=>none
   |some (us,rs)=>match Qi2 rs with
    |false=>none
    |true=>match dst with
     |none=>(e.F us).bind fun z=>k (Qtq e.args z.2 rs (Zor rs s2))
     |some d=>match Jy (Zor rs s2) d&&Nat.blt d n&& !(rs.any (Nat.beq d))with
      |false=>none
      |true=>(e.F us).bind fun z=>Q96 d rs (Qtq e.args z.2 rs (Zor rs s2)) e.res z.1 k
section
variable {P:Program} {g:K9} {W0:Zam g} {w w':World} {X X':Nat->Prop} {B B' n:Nat} {own:Bool} {s:St} {F:Key->List Nat} {a:Act} {H H':List Nat} {o:Oper} {tg:Xo} {τ:Tab} {gh:Nat->Value}
theorem Z6g{x:Nat}{l:List Nat}(h: (l.any (Nat.beq x))=false):x∉l:=fun hx=>by
 have:l.any (Nat.beq x)=true:=List.any_eq_true.2 ⟨x,hx,Nat.beq_refl x⟩;rw[h]at this;cases this
theorem Qlk: ∀{l:List Nat},Qi2 l=true->l.Nodup
 | [],_=>List.nodup_nil
 |x::a,h=>by
  simp only[Qi2,Oba,Bool.not_eq_true']at h;exact List.nodup_cons.2 ⟨Z6g h.1,Qlk h.2⟩
theorem Vn: ∀{T:Ty} {x:T.den} {vs:List Value} {S:List Nat},rd w X B own T x vs S->(∀b,b∈S->B'<=b)->rd w X B' own T x vs S
 | .unit,_,_,_,h,_| .int _,_,_,_,h,_| .bool,_,_,_,h,_| .fnc _,_,_,_,h,_| .str,_,_,_,h,_=>h
 | .slice _ _,_,_,_,⟨v,z,m,p,e,g,f,i⟩,d=>by
  refine⟨v,z,m,p,e,g,?_,Kq i fun _ _ _ _ q h=>Vn h fun b j=>d b (by rw[g];simp[q b j])⟩;cases own
  ·exact f
  ·obtain⟨k,l⟩:=f;refine⟨⟨k.1,k.2.imp id fun⟨b,r,s,u,G,A⟩=>⟨b,r,s,u,d b ?_,A⟩⟩,l⟩;rw[g,l,u];simp[Value.ownBlock]
 | .pair a b,_,_,_,⟨C,D,m,p,e,g,f,i⟩,d=>
  ⟨C,D,m,p,e,g,Vn f fun b j=>d b (by rw[g];simp[j]),Vn i fun b j=>d b (by rw[g];simp[j])⟩
 | .arr n t,_,_,_,⟨h,E⟩,d=>⟨h,Kq E fun _ _ _ _ q h=>Vn h fun b j=>d b (q b j)⟩
 | .err,_,_,_,h,_=>h
 | .hid _,_,_,_,⟨e,y,h⟩,d=>⟨e,y,Vn h d⟩
 | .sptr ..,_,_,_,⟨e,o,b,c,f,i,k,l⟩,_=>⟨e,o,b,c,f,i,k,Vn l (by simp)⟩
 | .clo ..,_,_,_,⟨e,F,f,i⟩,_=>⟨e,F,f,Vn i (by simp)⟩
theorem Qgf: ∀{ts:List Ty} {x:Jp ts} {vs:List Value} {S:List Nat},Zfd w B ts x vs S->(∀b,b∈S->B'<=b)->Zfd w B' ts x vs S
 | [],_,_,_,h,_=>h
 |t::ts,x,vs,S,⟨e,f,g,i,j,a,k,l⟩,d=>
  ⟨e,f,g,i,j,a,Vn k fun b c=>d b (by rw[a];simp[c]),Qgf l fun b c=>d b (by rw[a];simp[c])⟩
theorem Q6s{e:TypeId}{sz n:Nat}{v:Value}{xs:List Value}{S:List Nat}(hB:B'<=B)(hX: ∀b,X b->X' b)(h:hdr w X B own e sz n v xs S):hdr w X' B' own e sz n v xs S:=by
 cases own
 ·obtain⟨g,i,a,c,j,k,l,m⟩:=h;exact⟨g,i,a,c,j,k,l,m.imp id fun⟨o,p,q,r⟩=>⟨o,p,q.imp id (hX _),r⟩⟩
 ·obtain⟨f,s⟩:=h;exact⟨⟨f.1,f.2.imp id fun⟨b,c,d,t,u,x⟩=>⟨b,c,d,t,Nat.le_trans hB u,x⟩⟩,s⟩
theorem Q0e{e:TypeId}{sz n:Nat}{v:Value}{xs:List Value}{S:List Nat}(h1:hdr w X B own e sz n v xs S)(hS: ∀b,b∈S->B'<=b):hdr w X B' own e sz n v xs S:=by
 cases own
 ·exact h1
 ·obtain⟨d,f⟩:=h1;refine⟨⟨d.1,d.2.imp id fun⟨b,a,c,g,i,h⟩=>⟨b,a,c,g,hS b ?_,h⟩⟩,f⟩;rw[f,g];simp[Value.ownBlock]
theorem Zvz(hB:B'<=B)(hX: ∀b,X b->X' b): ∀{T:Ty} {f:Fl} {x:T.den} {vs:List Value} {S:List Nat},rdF w X B T f x vs S->rdF w X' B' T f x vs S
 |T,.d,_,_,_,h=>by unfold rdF at*;exact h
 |T,.u b,_,_,_,h=>by unfold rdF at*;exact Zdb hB hX h
 | .pair a b,.p f g,_,_,_,⟨j,k,l,m,e,n,c,i⟩=>⟨j,k,l,m,e,n,Zvz hB hX c,Zvz hB hX i⟩
 | .slice e t,.p f g,_,_,_,h=>by
  obtain⟨rfl,rfl,v,o,q,c,i⟩:=Zg0 h;exact⟨v,o,q,Q6s hB hX c,Kq i fun _ _ _ _ _ h=>Zdb hB hX h⟩
 | .unit,.p ..,_,_,_,h| .int _,.p ..,_,_,_,h| .bool,.p ..,_,_,_,h| .fnc _,.p ..,_,_,_,h| .str,.p ..,_,_,_,h| .err,.p ..,_,_,_,h| .hid _,.p ..,_,_,_,h| .sptr ..,.p ..,_,_,_,h| .clo ..,.p ..,_,_,_,h| .arr ..,.p ..,_,_,_,h=>by simp[rdF]at h
theorem Z0w: ∀{T:Ty} {f:Fl} {x:T.den} {vs:List Value} {S:List Nat},rdF w X B T f x vs S->(∀b,b∈S->B'<=b)->rdF w X B' T f x vs S
 |T,.d,_,_,_,h,_=>by unfold rdF at*;exact h
 |T,.u b,_,_,_,h,c=>by unfold rdF at*;exact Vn h c
 | .pair a b,.p f g,_,_,_,⟨m,n,o,q,e,j,k,l⟩,c=>⟨m,n,o,q,e,j,Z0w k fun b i=>c b (by rw[j];simp[i]),Z0w l fun b i=>c b (by rw[j];simp[i])⟩
 | .slice e t,.p f g,_,_,_,h,c=>by
  obtain⟨rfl,rfl,v,r,s,k,l⟩:=Zg0 h;exact⟨v,r,s,Q0e k c,Kq l fun _ _ _ _ y h=>Vn h fun b i=>absurd (y b i) (by simp)⟩
 | .unit,.p ..,_,_,_,h,_| .int _,.p ..,_,_,_,h,_| .bool,.p ..,_,_,_,h,_| .fnc _,.p ..,_,_,_,h,_| .str,.p ..,_,_,_,h,_| .err,.p ..,_,_,_,h,_| .hid _,.p ..,_,_,_,h,_| .sptr ..,.p ..,_,_,_,h,_| .clo ..,.p ..,_,_,_,h,_| .arr ..,.p ..,_,_,_,h,_=>by simp[rdF]at h
theorem Zwy: ∀{o f:Fl} {T:Ty} {x:T.den} {vs:List Value} {S:List Nat},Qi3 o f T=true->rdF w X B T f x vs S->rdF w X B T o x vs S
 | .u true,f,T,x,vs,S,h,c=>by unfold Qi3 at h;exact Zh3 h c
 | .u false,f,T,x,vs,S,h,c=>by
  unfold Qi3 at h;have e:=Zi0 h c;subst e;have: ∀{f:Fl} {T:Ty},Znv f T=true->f.live=true:=by
   intro f
   induction f with
   |u b=>intro T _;rfl
   |d=>intro T h;simp[Znv]at h
   |p s t g i=>
    intro T h;cases T<;>simp[Znv]at h
    simp[Fl.live,g h.1,i h.2]
  unfold rdF;exact K6 (fun _ h=>h) (this h) c (by simp)
 | .p a b,f,.pair A v,x,vs,S,h,c=>by
  unfold Qi3 at h;simp only[Oba]at h;obtain⟨j,k,l,m,e,n,q,r⟩:=Zq7 c;exact⟨j,k,l,m,e,n,Zwy h.1 q,Zwy h.2 r⟩
 | .p a b,f,.slice ..,x,vs,S,h,c| .p a b,f,.unit,x,vs,S,h,c| .p a b,f,.int _,x,vs,S,h,c| .p a b,f,.bool,x,vs,S,h,c| .p a b,f,.str,x,vs,S,h,c| .p a b,f,.arr ..,x,vs,S,h,c| .p a b,f,.fnc _,x,vs,S,h,c| .p a b,f,.err,x,vs,S,h,c| .p a b,f,.hid _,x,vs,S,h,c| .p a b,f,.sptr ..,x,vs,S,h,c| .p a b,f,.clo ..,x,vs,S,h,c=>by unfold Qi3 at h;exact Zh3 h c
 | .d,f,T,x,vs,S,h,c=>by unfold Qi3 at h;exact Zh3 h c
theorem Z0x(h:R n W0 w X F H s a){x:Operand}{T:Ty}{y:T.den}(hr:Qb6 s (op1 s [] x) T=some y):
  ∃vs,a.eval x=Xz T vs/\rd w X 0 false T y vs []:=by
 unfold Qb6 at hr;split at hr
 ·rename_i v hv;obtain rfl:=Zw4 hv;obtain⟨vs,c,b⟩:=Zvi (w:=w) (X:=X) (B:=0) (own:=false) hr;exact⟨vs,c,b⟩
 ·split at hr
  ·rename_i U f k d;obtain⟨g,vs,S,c,b,l⟩:=Zfa h (tg:=[]) (fun p i=>by cases i) d;split at hr
   ·rename_i j;cases Zb5 hr;have e:=Zi0 j b;subst e;exact⟨vs,c,Zdb (Nat.zero_le _) (fun _ h=>h) (K6 (fun _ h=>h) g b (by simp))⟩
   ·cases hr
  ·cases hr
def Q0q(F:Key->List Nat)(s:St):List AK->List Nat->List Value->Prop| [],rs,vs=>rs=[]/\vs=[]| .sh _::as,rs,vs=> ∃v us,vs=v::us/\Q0q F s as rs us| .bx e T _::as,rs,vs=> ∃q rs' b S us f y,rs=q::rs'/\vs= .pointer (some ⟨b,0,none⟩)::us/\F (.m q)=b::S/\s.get (.m q)= .box e T f y/\Q0q F s as rs' us| .mv _::as,rs,vs=> ∃v us,vs=v::us/\Q0q F s as rs us
theorem Zw9(h:R n W0 w X F H s a){x:Operand}{q:Nat}(hq:Quz (op1 s [] x)=some q){e:TypeId}{T:Ty}{f:Fl}{y:T.den}(hg:s.get (.m q)= .box e T f y):a.eval x=Qp W0.gh a (.m q):=by
 unfold Quz at hq;split at hq
 ·rename_i k j d l o hx;simp only[Osi]at hq;subst hq;obtain⟨rfl,t,_⟩:=Zlh hx;exact(Ye W0 a t).symm
 ·rename_i k r hx;simp only[Osi]at hq;subst hq;obtain⟨rfl,_,j,d,l,o,b,S,B,u,v⟩:=Kp h (tg:=[]) (fun p z=>by cases z) hx (by simp);have g:=h.slots (.m r);rw[hg]at g;obtain⟨C,c,D,A,i,_⟩:=g;rw[u]at i;obtain⟨rfl,_⟩:=List.cons.inj i;rw[v,A];have:J1 d []=0:=by cases d<;>rfl
  rw[this]
 ·cases hq
def mvs(w:World)(X:Nat->Prop)(ev:Operand->Value):List TV->List AK->List Operand->List Nat->Prop|z::m,.mv t::as,x::xs,M=> ∃vs S M',M=S++M'/\ev x=Xz z.1 vs/\rd w X 0 true z.1 z.2 vs S/\t=z.1/\mvs w X ev m as xs M'|m,.sh _::as,_::xs,M=>mvs w X ev m as xs M|m,.bx _ _ _::as,_::xs,M=>mvs w X ev m as xs M|_,_,_,_=>True
theorem R.perm(h:R n W0 w X F H s a)(hp:H'.Perm H):R n W0 w X F H' s a:=
 {h with
  hown:=fun b c=>h.hown b (hp.mem_iff.1 c)
  hnodup:=hp.nodup_iff.2 h.hnodup
  hdisj:=fun k b c d=>h.hdisj k b c (hp.mem_iff.1 d)}
theorem Zuq: ∀{as:List AK} {xs:List Operand} {s s2:St} {m:List TV} {F:Key->List Nat} {H:List Nat},R n W0 w X F H s a->Ztw s as xs=some (m,s2)->
  ∃M F',R n W0 w X F' (M++H) s2 a/\(∀b,b∈M->W0.B<=b)/\mvs w X a.eval m as xs M/\(∀q,s.isBox q->s2.isBox q)
 | .mv t::as,x::xs,s,s2,m,F,H,h,c=>by
  simp only[Ztw]at c;split at c
  ·rename_i u o;split at c
   ·rename_i l I r v;simp only[Osi,Opi]at c;obtain⟨rfl,rfl⟩:=c;obtain⟨y,J,S,z,A,C,D,_,_⟩:=Zbg h (tg:=[]) (fun p E=>by cases E) o;have j:=Zh3 r C;unfold rdF at j;obtain⟨M,d,e,f,g,i⟩:=Zuq D v;refine⟨S++M,d,e.perm ?_,fun b k=>(List.mem_append.1 k).elim (fun k=>(Zt7 j b k).1) (f b),⟨z,S,M,rfl,A,Vn j (by simp),y.symm,g⟩,fun q G=>i q (Zp9 o G)⟩;rw[List.append_assoc];exact List.perm_append_comm_assoc _ _ _
   ·cases c
  ·cases c
 | .sh t::as,x::xs,s,s2,m,F,H,h,c=>by
  simp only[Ztw]at c;obtain⟨M,d,e,f,g,i⟩:=Zuq h c;exact⟨M,d,e,f,by cases m<;>exact g,i⟩
 | .bx _ _ _::as,x::xs,s,s2,m,F,H,h,c=>by
  simp only[Ztw]at c;obtain⟨M,d,e,f,g,i⟩:=Zuq h c;exact⟨M,d,e,f,by cases m<;>exact g,i⟩
 | [],xs,s,s2,m,F,H,h,c=>by
  simp only[Ztw,Osi,Opi]at c;obtain⟨rfl,rfl⟩:=c;exact⟨[],F,h,by simp,by cases xs<;>trivial,fun _ h=>h⟩
 | .mv _::_,[],s,s2,m,F,H,h,c| .sh _::_,[],s,s2,m,F,H,h,c| .bx _ _ _::_,[],s,s2,m,F,H,h,c=>by
  simp only[Ztw,Osi,Opi]at c;obtain⟨rfl,rfl⟩:=c;exact⟨[],F,h,by simp,trivial,fun _ h=>h⟩
theorem Zw6(h:R n W0 w X F H s a): ∀{m:List TV} {as:List AK} {xs:List Operand} {us:Z1h as} {rs:List Nat} {M:List Nat},mvs w X a.eval m as xs M->M.Nodup->(∀k b,b∈F k->b∉M)->Zv0 s m as xs=some (us,rs)->Qi2 rs=true->
  ∃L,rdA w X as us (xs.map a.eval) L/\Q0q F s as rs (xs.map a.eval)/\L.Nodup/\(∀b,b∈L->(∃q,q∈rs/\b∈F (.m q))\/b∈M)
 |m,[],[],us,rs,M,p,i,g,d,r=>by
  simp only[Zv0,Osi,Opi]at d;obtain⟨_,rfl⟩:=d;exact⟨[],⟨rfl,rfl⟩,⟨rfl,rfl⟩,List.nodup_nil,by simp⟩
 |m,.sh t::as,x::xs,us,rs,M,p,i,g,d,r=>by
  have v:mvs w X a.eval m as xs M:=by cases m<;>exact p
  simp only[Zv0]at d;split at d
  ·rename_i u G l I j;simp only[Osi,Opi]at d;obtain⟨rfl,rfl⟩:=d;obtain⟨cs,W,Y⟩:=Z0x h I;obtain⟨L,J,K,N,A⟩:=Zw6 (as:=as) (xs:=xs) h v i g j r;exact⟨L,⟨cs,_,by simp[W],Y,J⟩,⟨_,_,rfl,K⟩,N,A⟩
  ·cases d
 |m,.bx e t o::as,x::xs,us,rs,M,p,i,g,d,r=>by
  have v:mvs w X a.eval m as xs M:=by cases m<;>exact p
  simp only[Zv0]at d;split at d
  ·rename_i q Z;split at d
   ·rename_i e' U f y hg;split at d
    ·rename_i u G l B I j;simp only[Osi,Opi]at d;obtain⟨rfl,rfl⟩:=d;simp only[Oba]at B;have he:=Onb B.1;subst he;cases Zb5 I;simp only[Qi2,Oba,Bool.not_eq_true']at r;obtain⟨L,J,K,N,A⟩:=Zw6 (as:=as) (xs:=xs) h v i g j r.2;have O:=Zw9 h Z hg;have hs:=h.slots (.m q);rw[hg]at hs;obtain⟨b,c,S,Q,C,g3,g4⟩:=hs;have aa:q∉l:=Z6g r.1;refine⟨b:: (S++L),⟨b,c,S,_,L,by simp[O,Q],rfl,g3,?_,J⟩,⟨q,l,b,S,_,f,_,rfl,by simp[O,Q],C,hg,K⟩,?_,?_⟩
     ·exact Zvz (Nat.zero_le _) (fun _ h=>h) (Zwy B.2 g4)
     ·have P:=h.nodup (.m q);rw[C]at P;have: (b::S++L).Nodup:=List.nodup_append.2 ⟨P,N,fun x hx y V e=>by
       subst e;rcases A x V with⟨q',D,E⟩|hM
       ·have:=h.disj (.m q) (.m q') x (by rw[C];exact hx) E;simp only[Key.m.injEq]at this;subst this;exact aa D
       ·exact g (.m q) x (by rw[C];exact hx) hM⟩
      simpa using this
     ·intro b' hb;have hb:b'∈b::S\/b'∈L:=by simpa[or_assoc]using hb
      rcases hb with hb|hb
      ·exact .inl ⟨q,by simp,by rw[C];exact hb⟩
      ·exact(A b' hb).imp (fun⟨q',D,E⟩=>⟨q',by simp[D],E⟩) id
    ·cases d
   ·cases d
  ·cases d
 |z::m,.mv t::as,x::xs,us,rs,M,p,i,g,d,r=>by
  simp only[Zv0]at d;split at d
  ·rename_i u G l I j;simp only[Osi,Opi]at d;obtain⟨rfl,rfl⟩:=d;obtain⟨vs,S,M',rfl,W,Y,rfl,h3⟩:=p;have ab:=Zb5 I;have ac:z.2=u:=by cases z;simpa using ab
   obtain⟨Q,C,g3⟩:=List.nodup_append.1 i;obtain⟨L,J,K,N,A⟩:=Zw6 h h3 C (fun k b hb p=>g k b hb (by simp[p])) j r;refine⟨S++L,⟨vs,S,_,L,by simp[W],rfl,by rw[<-ac];exact Y,J⟩,⟨_,_,rfl,K⟩,List.nodup_append.2 ⟨Q,N,fun y V y' ad e=> ?_⟩,fun b hb=> ?_⟩
   ·subst e;rcases A y ad with⟨q,_,Z⟩|hM
    ·exact g (.m q) y Z (by simp[V])
    ·exact g3 y V y hM rfl
   ·rcases List.mem_append.1 hb with hb|hb
    ·exact .inr (by simp[hb])
    ·exact(A b hb).imp id fun hb=>by simp[hb]
  ·cases d
 | [],.mv _::_,_,_,_,_,_,_,_,d,_=>by simp[Zv0]at d
 |_::_,.mv _::_,[],_,_,_,_,_,_,d,_=>by simp[Zv0]at d
 |_,[],_::_,_,_,_,_,_,_,d,_=>by simp[Zv0]at d
 |_,.sh _::_,[],_,_,_,_,_,_,d,_|_,.bx .. ::_,[],_,_,_,_,_,_,d,_=>by simp[Zv0]at d
theorem R.frz(hs0:g.soft=false)(h:R n W0 w X F H s a){k:Nat}{T:Ty}{f:Fl}{x:T.den}(hg:s.get (.m k)= .val T f x)(hf:f.live=true):
  R n W0 w (fun b=>X b\/b∈F (.m k)) (Qg F (.m k) []) H (Zua s k (.val T (.u false) x)) a:=by
 have A:Z1g W0.gh w w s (Zua s k (.val T (.u false) x)) F (Qg F (.m k) []) a k (.val T (.u false) x):=Zpv ⟨by rw[Kr];simp,fun p v U hv=>by
  unfold Xi at hv⊢;rw[hg]at hv;rw[Kr];simpa using hv⟩
 exact
 {size:=h.size
  defers:=h.defers
  below:=h.below
  glob:=h.glob
  gx:=fun b c=> .inl (h.gx b c)
  xs:=fun e=>by rw[hs0]at e;cases e
  fix:=h.fix
  xlt:=fun b c=>c.elim (h.xlt b) fun c=>(h.own _ b c).2.1
  xin:=fun b c=>c.elim (h.xin b) fun c=> .inr (h.own _ b c).1
  x0:=fun b c=> .inl (h.x0 b c)
  own:=fun j b c=>by
   simp only[Qg]at c;split at c
   ·cases c
   ·rename_i r;obtain⟨l,q,t⟩:=h.own j b c;exact⟨l,q,fun hx=>hx.elim t fun hk=>r (h.disj j (.m k) b c hk)⟩
  nodup:=fun j=>by
   simp only[Qg];split
   ·simp
   ·exact h.nodup j
  disj:=fun j B b c o=>by
   simp only[Qg]at c o;split at c
   ·cases c
   ·split at o
    ·cases o
    ·exact h.disj j B b c o
  hown:=fun b c=>let⟨l,q,t⟩:=h.hown b c;⟨l,q,fun hx=>hx.elim t fun hk=>h.hdisj _ b hk c⟩
  hnodup:=h.hnodup
  hdisj:=fun j b c=>by
   simp only[Qg]at c;split at c
   ·cases c
   ·exact h.hdisj j b c
  comps:=fun d i y=>by
   rw[Kr]at y⊢;simp only[reduceCtorEq,if_false]at y;obtain⟨l,q⟩:=h.comps d i y;by_cases e:k=d
   ·subst e;rw[hg]at l;cases l
   ·exact⟨by simpa[e]using l,q⟩
  slots:=fun j=>by
   by_cases r:j= .m k
   ·subst r;have z:=h.slots (.m k);rw[hg]at z;obtain⟨C,l,q⟩:=z;rw[Kr];simp only[if_true,Qg];exact⟨C,l,by unfold rdF;exact K6 (fun b c=> .inl c) hf q fun b c=> .inr c⟩
   ·have e:Qg F (.m k) [] j=F j:=by simp[Qg,r]
    rw[Kr,e];simp only[Ne.symm r,if_false];exact Qon A (fun _ h=> .inl h) (fun _ _=>rfl) (fun _ _ _ _=>rfl) (fun _ _=>rfl) (fun e D E G b S c=>by rw[hg]at c;cases c) (h.slots j)}
theorem Zei(hs0:g.soft=false): ∀{as:List AK} {xs:List Operand} {s:St} {X:Nat->Prop} {F:Key->List Nat},R n W0 w X F H s a-> ∃X' F',R n W0 w X' F' H (Zls as xs s) a/\(∀b,X b->X' b)/\ ∀q,s.isBox q->(Zls as xs s).isBox q
 | [],_,s,X,F,h=>⟨X,F,h,fun _ h=>h,fun _ h=>h⟩
 | .sh t::as,[],s,X,F,h=>⟨X,F,h,fun _ h=>h,fun _ h=>h⟩
 | .bx _ _ _::as,[],s,X,F,h=>⟨X,F,h,fun _ h=>h,fun _ h=>h⟩
 | .mv _::as,[],s,X,F,h=>⟨X,F,h,fun _ h=>h,fun _ h=>h⟩
 | .mv _::as,_::xs,s,X,F,h=>Zei hs0 (as:=as) (xs:=xs) h
 | .bx _ _ _::as,_::xs,s,X,F,h=>Zei hs0 (as:=as) (xs:=xs) h
 | .sh t::as,x::xs,s,X,F,h=>by
  simp only[Zls];split
  ·exact Zei hs0 h
  ·split
   ·split
    ·rename_i U f y d;split
     ·rename_i i;obtain⟨X',F',j,k,l⟩:=Zei hs0 (as:=as) (xs:=xs) (R.frz hs0 h d i);refine⟨X',F',j,fun b o=>k b (.inl o),fun q c=>l q ?_⟩;obtain⟨e,T,p,r,c⟩:=c;refine⟨e,T,p,r,?_⟩;rw[Kr,if_neg]
      ·exact c
      ·intro e;simp only[Key.m.injEq]at e;subst e;rw[d]at c;cases c
     ·exact Zei hs0 h
    ·exact Zei hs0 h
   ·exact Zei hs0 h
theorem R.xup(hs0:g.soft=false)(h:R n W0 w X F H s a)(hX: ∀b,X b->X' b)(hlt: ∀b,X' b->b<w.heap.size)(hin: ∀b,X' b->W0.X0 b\/W0.mine b)(hF: ∀k b,b∈F k-> ¬X' b)(hH: ∀b,b∈H-> ¬X' b):R n W0 w X' F H s a:=
 {h with
  gx:=fun b c=>hX b (h.gx b c)
  xs:=fun e=>by rw[hs0]at e;cases e
  xlt:=hlt
  xin:=hin
  x0:=fun b c=>hX b (h.x0 b c)
  own:=fun k b c=>let⟨h1,h2,_⟩:=h.own k b c;⟨h1,h2,hF k b c⟩
  hown:=fun b c=>let⟨h1,h2,_⟩:=h.hown b c;⟨h1,h2,hH b c⟩
  slots:=fun k=>Zjy hX (fun _ _=>rfl) (fun _ _ _=>rfl) (fun _ _=>rfl) (h.slots k)}
def Qz9(s:St)(k:Nat)(e:TypeId)(T:Ty)(x:T.den):St:=Y6 (Y6 s k (.box e T .d x)) k (.box e T (.u false) x)
theorem R.frzX(hs0:g.soft=false)(h:R n W0 w X F H s a){k:Nat}{e:TypeId}{T:Ty}{f:Fl}{x:T.den}(hg:s.get (.m k)= .box e T f x)(hf:f.live=true):
  ∃X' F',R n W0 w X' F' H (Qz9 s k e T x) a/\ ∀b,X b->X' b:=by
 have A:=h.slots (.m k);rw[hg]at A;obtain⟨b,c,S,B,p,C,z⟩:=A;have o:=h.nodup (.m k);rw[p]at o;have v: ∀j∈b::S,j∉H:=fun j i=>h.hdisj (.m k) j (by rw[p];exact i);have l: ∀j∈S,j∈F (.m k):=fun j i=>by rw[p];simp[i]
 have E:R n W0 w X (Qg F (.m k) [b]) (S++H) (Y6 s k (.box e T .d x)) a:=by
  refine h.turn (S':=[b]) (H':=S++H) h.below (Nat.le_refl _) (fun _ _=>rfl) (fun _ _ _ _=>rfl) ?_ ?_ (by rw[hg];simp) ?_ ?_
  ·intro j i;rw[p];simpa using i
  ·refine List.nodup_append.2 ⟨by simp,List.nodup_append.2 ⟨(List.nodup_cons.1 o).2,h.hnodup,fun x hx y hy e=>v x (by simp[hx]) (by rw[e];exact hy)⟩,fun x hx y hy e=> ?_⟩;simp only[List.mem_singleton]at hx;subst hx;subst e;rcases List.mem_append.1 hy with hy|hy
   ·exact(List.nodup_cons.1 o).1 hy
   ·exact v x (by simp) hy
  ·intro G I J K L M q r;rw[hg]at q;cases q;rw[p]at r;obtain⟨rfl,_⟩:=List.cons.inj r;exact⟨.d,_,[],rfl,rfl⟩
  ·exact⟨b,c,[],B,rfl,C,by unfold rdF;exact⟨X8 z,Zh2 z,rfl⟩⟩
 have D:R n W0 w (fun j=>X j\/j∈S) (Qg F (.m k) [b]) H (Y6 s k (.box e T .d x)) a:=by
  refine R.xup hs0 E.drop (fun _ h=> .inl h) (fun j i=>i.elim (h.xlt j) fun i=>(h.own _ j (l j i)).2.1) (fun j i=>i.elim (h.xin j) fun i=> .inr (h.own _ j (l j i)).1) (fun N j i hx=> ?_) (fun j i hx=> ?_)
  ·simp only[Qg]at i;split at i
   ·simp only[List.mem_singleton]at i;subst i;rcases hx with hx|hx
    ·exact(h.own (.m k) j (by rw[p];simp)).2.2 hx
    ·exact(List.nodup_cons.1 o).1 hx
   ·rename_i hk;rcases hx with hx|hx
    ·exact(h.own N j i).2.2 hx
    ·exact hk (h.disj _ _ j i (l j hx))
  ·rcases hx with hx|hx
   ·exact(h.hown j i).2.2 hx
   ·exact v j (by simp[hx]) i
 refine⟨fun j=>X j\/j∈S,Qg (Qg F (.m k) [b]) (.m k) [b],?_,fun _ h=> .inl h⟩;have r:Qg F (.m k) [b] (.m k)=[b]:=by simp[Qg]
 refine D.turn (S':=[b]) (H':=H) D.below (Nat.le_refl _) (fun _ _=>rfl) (fun _ _ _ _=>rfl) ?_ ?_ (by rw[Yp];simp) ?_ ?_
 ·intro j i;rw[r];exact i
 ·exact List.nodup_append.2 ⟨by simp,h.hnodup,fun x hx y hy e=>by
   simp only[List.mem_singleton]at hx;subst hx;subst e;exact v x (by simp) hy⟩
 ·intro G I J K L M q t;rw[Yp]at q;simp only[if_true]at q;cases q;rw[r]at t;obtain⟨rfl,_⟩:=List.cons.inj t;exact⟨.u false,_,[],rfl,rfl⟩
 ·exact⟨b,c,[],B,rfl,C,by unfold rdF;exact K6 (fun _ h=> .inl h) hf z fun _ h=> .inr h⟩
def Xcf(s:St)(k:Nat):St:=match s.get (.m k)with
 | .val U f y=>match f.live with
  |true=>Zua s k (.val U (.u false) y)
  |false=>s
 | .box e T f x=>match f.live with
  |true=>Qz9 s k e T x
  |false=>s
 |_=>s
theorem Qz7(hs0:g.soft=false)(h:R n W0 w X F H s a)(k:Nat): ∃X' F',R n W0 w X' F' H (Xcf s k) a:=by
 unfold Xcf;split
 ·rename_i U f y b;split
  ·rename_i c;exact⟨_,_,R.frz hs0 h b c⟩
  ·exact⟨X,F,h⟩
 ·rename_i e T f x b;split
  ·rename_i c;obtain⟨X',F',d,_⟩:=R.frzX hs0 h b c;exact⟨X',F',d⟩
  ·exact⟨X,F,h⟩
 ·exact⟨X,F,h⟩
def Z83:Fl->Ty->Fl->Fl
 | .u false,_,f=>match f.live with
  |true=> .u false
  |false=>f
 | .u true,_,f=>f
 | .d,_,f=>f
 | .p a b,.pair A B,f=> .p (Z83 a A (Zuj f 0)) (Z83 b B f.snd)
 | .p _ _,_,f=>f
theorem Qj0: ∀{o:Fl} {T:Ty} {f:Fl} {x:T.den} {vs:List Value} {S:List Nat},S.Nodup->rdF w X B T f x vs S->
  ∃S',S'.Sublist S/\ ∀X':Nat->Prop,(∀b,X b->X' b)->(∀b,b∈S->b∉S'->X' b)->rdF w X' B T (Z83 o T f) x vs S'
 | .u false,T,f,x,vs,S,c,h=>by
  cases hl:f.live
  ·refine⟨S,List.Sublist.refl _,fun X' g _=> ?_⟩;simp only[Z83,hl];exact Zvz (Nat.le_refl _) g h
  ·refine⟨[],List.nil_sublist _,fun X' g l=> ?_⟩;simp only[Z83,hl];unfold rdF;exact K6 g hl h fun b j=>l b j (by simp)
 | .u true,T,f,x,vs,S,c,h=>⟨S,List.Sublist.refl _,fun X' g _=>by unfold Z83;exact Zvz (Nat.le_refl _) g h⟩
 | .d,T,f,x,vs,S,c,h=>⟨S,List.Sublist.refl _,fun X' g _=>by unfold Z83;exact Zvz (Nat.le_refl _) g h⟩
 | .p a b,.pair A E,f,x,vs,S,c,h=>by
  obtain⟨s,t,F,G,e,v,y,z⟩:=Zq7 h;subst v;have i:=List.nodup_append.1 c;obtain⟨m,n,C⟩:=Qj0 (o:=a) i.1 y;obtain⟨q,r,D⟩:=Qj0 (o:=b) i.2.1 z;refine⟨m++q,List.Sublist.append n r,fun X' g l=> ?_⟩;refine⟨s,t,m,q,e,rfl,C X' g fun b j k=>l b (by simp[j]) fun hm=> ?_,D X' g fun b j k=>l b (by simp[j]) fun hm=> ?_⟩
  ·rcases List.mem_append.1 hm with hm|hm
   ·exact k hm
   ·exact i.2.2 b j b (r.subset hm) rfl
  ·rcases List.mem_append.1 hm with hm|hm
   ·exact i.2.2 b (n.subset hm) b j rfl
   ·exact k hm
 | .p _ _,.slice ..,f,x,vs,S,c,h| .p _ _,.unit,f,x,vs,S,c,h| .p _ _,.int _,f,x,vs,S,c,h| .p _ _,.bool,f,x,vs,S,c,h| .p _ _,.str,f,x,vs,S,c,h| .p _ _,.arr ..,f,x,vs,S,c,h| .p _ _,.fnc _,f,x,vs,S,c,h| .p _ _,.err,f,x,vs,S,c,h| .p _ _,.hid _,f,x,vs,S,c,h| .p _ _,.sptr ..,f,x,vs,S,c,h| .p _ _,.clo ..,f,x,vs,S,c,h=>
  ⟨S,List.Sublist.refl _,fun X' g _=>by unfold Z83;exact Zvz (Nat.le_refl _) g h⟩
theorem R.subH(h:R n W0 w X F H s a)(hs:H'.Sublist H):R n W0 w X F H' s a:=
 {h with
  hown:=fun b c=>h.hown b (hs.subset c)
  hnodup:=h.hnodup.sublist hs
  hdisj:=fun k b c d=>h.hdisj k b c (hs.subset d)}
def Q9e(s:St)(k:Nat)(o:Fl):St:=match s.get (.m k)with
 | .box e T f x=>Y6 (Y6 s k (.box e T .d x)) k (.box e T (Z83 o T f) x)
 |_=>s
theorem R.frzP(hs0:g.soft=false)(h:R n W0 w X F H s a)(k:Nat)(o:Fl): ∃X' F',R n W0 w X' F' H (Go.Am.Q9e s k o) a:=by
 unfold Go.Am.Q9e;split
 ·rename_i e T f x z;have C:=h.slots (.m k);rw[z]at C;obtain⟨b,c,S,D,r,E,A⟩:=C;have l:=h.nodup (.m k);rw[r]at l;have t: ∀i∈b::S,i∉H:=fun i hb'=>h.hdisj (.m k) i (by rw[r];exact hb');have p: ∀i∈S,i∈F (.m k):=fun i hb'=>by rw[r];simp[hb']
  have I:R n W0 w X (Qg F (.m k) [b]) (S++H) (Y6 s k (.box e T .d x)) a:=by
   refine h.turn (S':=[b]) (H':=S++H) h.below (Nat.le_refl _) (fun _ _=>rfl) (fun _ _ _ _=>rfl) ?_ ?_ (by rw[z];simp) ?_ ?_
   ·intro i hb';rw[r];simpa using hb'
   ·refine List.nodup_append.2 ⟨by simp,List.nodup_append.2 ⟨(List.nodup_cons.1 l).2,h.hnodup,fun x hx y hy e=>t x (by simp[hx]) (by rw[e];exact hy)⟩,fun x hx y hy e=> ?_⟩;simp only[List.mem_singleton]at hx;subst hx;subst e;rcases List.mem_append.1 hy with hy|hy
    ·exact(List.nodup_cons.1 l).1 hy
    ·exact t x (by simp) hy
   ·intro J K L M N O q u;rw[z]at q;cases q;rw[r]at u;obtain⟨rfl,_⟩:=List.cons.inj u;exact⟨.d,_,[],rfl,rfl⟩
   ·exact⟨b,c,[],D,rfl,E,by unfold rdF;exact⟨X8 A,Zh2 A,rfl⟩⟩
  obtain⟨S',j,P⟩:=Qj0 (o:=o) (List.nodup_cons.1 l).2 A;have B:R n W0 w X (Qg F (.m k) [b]) (S'++H) (Y6 s k (.box e T .d x)) a:=I.subH (j.append_right H);have G:R n W0 w (fun i=>X i\/(i∈S/\i∉S')) (Qg F (.m k) [b]) (S'++H) (Y6 s k (.box e T .d x)) a:=by
   refine R.xup hs0 B (fun _ h=> .inl h) (fun i hb'=>hb'.elim (h.xlt i) fun hb'=>(h.own _ i (p i hb'.1)).2.1) (fun i hb'=>hb'.elim (h.xin i) fun hb'=> .inr (h.own _ i (p i hb'.1)).1) (fun Q i hb' hx=> ?_) (fun i hb' hx=> ?_)
   ·simp only[Qg]at hb';split at hb'
    ·simp only[List.mem_singleton]at hb';subst hb';rcases hx with hx|hx
     ·exact(h.own (.m k) i (by rw[r];simp)).2.2 hx
     ·exact(List.nodup_cons.1 l).1 hx.1
    ·rename_i hk;rcases hx with hx|hx
     ·exact(h.own Q i hb').2.2 hx
     ·exact hk (h.disj _ _ i hb' (p i hx.1))
   ·rcases List.mem_append.1 hb' with hb'|hb'
    ·rcases hx with hx|hx
     ·exact(h.own (.m k) i (p i (j.subset hb'))).2.2 hx
     ·exact hx.2 hb'
    ·rcases hx with hx|hx
     ·exact(h.hown i hb').2.2 hx
     ·exact t i (by simp[hx.1]) hb'
  refine⟨fun i=>X i\/(i∈S/\i∉S'),Qg (Qg F (.m k) [b]) (.m k) (b::S'),?_⟩;have u:Qg F (.m k) [b] (.m k)=[b]:=by simp[Qg]
  refine G.turn (S':=b::S') (H':=H) G.below (Nat.le_refl _) (fun _ _=>rfl) (fun _ _ _ _=>rfl) ?_ ?_ (by rw[Yp];simp) ?_ ?_
  ·intro i hb';rw[u];simpa[or_assoc]using hb'
  ·refine List.nodup_append.2 ⟨List.nodup_cons.2 ⟨fun U=>(List.nodup_cons.1 l).1 (j.subset U),(List.nodup_cons.1 l).2.sublist j⟩,h.hnodup,fun x hx y hy e=> ?_⟩;subst e;rcases List.mem_cons.1 hx with rfl|hx
   ·exact t x (by simp) hy
   ·exact t x (by simp[j.subset hx]) hy
  ·intro J K L M N O q v;rw[Yp]at q;simp only[if_true]at q;cases q;rw[u]at v;obtain⟨rfl,_⟩:=List.cons.inj v;exact⟨Z83 o T f,_,S',rfl,rfl⟩
  ·exact⟨b,c,S',D,rfl,E,P _ (fun _ h=> .inl h) fun b q hb'=> .inr ⟨q,hb'⟩⟩
 ·exact⟨X,F,h⟩
def Q9f(s:St)(k:Nat):Fl->St| .u true=>s| .u false=>Xcf s k|o=>Q9e s k o
theorem Qqu(hs0:g.soft=false)(h:R n W0 w X F H s a)(k:Nat)(o:Fl): ∃X' F',R n W0 w X' F' H (Q9f s k o) a:=by
 unfold Q9f;split
 ·exact⟨X,F,h⟩
 ·exact Qz7 hs0 h k
 ·exact R.frzP hs0 h k _
def Q6q:List (Nat×Fl)->St->St| [],s=>s| (k,o)::r,s=>Q6q r (Q9f s k o)
theorem Qla(hs0:g.soft=false): ∀{L:List (Nat×Fl)} {s:St} {X:Nat->Prop} {F:Key->List Nat},R n W0 w X F H s a-> ∃X' F',R n W0 w X' F' H (Q6q L s) a
 | [],s,X,F,h=>⟨X,F,h⟩
 | (k,o)::r,s,X,F,h=>by
  obtain⟨c,d,b⟩:=Qqu hs0 h k o;exact Qla hs0 (L:=r) b
theorem Qku: ∀{rs:List Nat} {s:St} {k:Key},(∀q,q∈rs->k≠ .m q)->(Zor rs s).get k=s.get k
 | [],s,k,_=>rfl
 |q::rs,s,k,h=>by
  simp only[Zor];split
  ·rw[Qku fun q a=>h q (by simp[a]),Yp,if_neg (Ne.symm (h q (by simp)))]
  ·exact Qku fun q a=>h q (by simp[a])
theorem Qc0: ∀{rs:List Nat} {s:St} {r:Nat},s.foul r=true->(Zor rs s).foul r=true
 | [],s,r,h=>h
 |q::rs,s,r,h=>by
  simp only[Zor];split
  ·refine Qc0 ?_;rename_i e T f y _;cases hc: (Y6 s q (.box e T .d y)).foul r
   ·have:=(Zqa hc).1;rw[h]at this;cases this
   ·rfl
  ·exact Qc0 h
theorem Qsk(s:St)(q:Nat)(t:Tm): (Y6 s q t).foul q=true:=by
 cases hc: (Y6 s q t).foul q
 ·exact absurd rfl (Zqa hc).2
 ·rfl
theorem R.wreck: ∀{rs:List Nat} {s:St} {F:Key->List Nat},R n W0 w X F H s a->rs.Nodup->(∀q,q∈rs->s.isBox q)->
  ∃F',R n W0 w X F' H (Go.Am.Zor rs s) a/\(∀k,(∀q,q∈rs->k≠ .m q)->F' k=F k)/\
   ∀q,q∈rs-> ∃e T f y b S,s.get (.m q)= .box e T f y/\F (.m q)=b::S/\(Go.Am.Zor rs s).get (.m q)= .box e T .d y/\F' (.m q)=[b]/\(Go.Am.Zor rs s).foul q=true
 | [],s,F,h,_,_=>⟨F,h,fun _ _=>rfl,by simp⟩
 |q::rs,s,F,h,L,D=>by
  obtain⟨e,T,f,y,o⟩:=D q (by simp);have E:=h.slots (.m q);rw[o]at E;obtain⟨b,c,S,M,u,N,G⟩:=E;have j:=List.nodup_cons.1 L;have O:R n W0 w X (Qg F (.m q) [b]) H (Y6 s q (.box e T .d y)) a:=by
   refine h.turn h.below (Nat.le_refl _) (fun _ _=>rfl) (fun _ _ _ _=>rfl) ?_ ?_ (by rw[o];simp) ?_ ?_
   ·intro I p;rw[u];simp only[List.mem_append,List.mem_cons,List.not_mem_nil,or_false]at p⊢;exact p.imp .inl id
   ·refine List.nodup_append.2 ⟨by simp,h.hnodup,fun x hx y P e=> ?_⟩;simp only[List.mem_singleton]at hx;subst hx;subst e;exact h.hdisj (.m q) x (by rw[u];simp) P
   ·intro v z A x' b2 S2 r t;rw[o]at r;cases r;rw[u]at t;obtain⟨rfl,_⟩:=List.cons.inj t;exact⟨.d,_,[],rfl,rfl⟩
   ·exact⟨b,c,[],M,rfl,N,by unfold rdF;exact⟨X8 G,Zh2 G,rfl⟩⟩
  have i: ∀g,g∈rs->(Y6 s q (.box e T .d y)).get (.m g)=s.get (.m g):=fun g hq'=>by
   rw[Yp,if_neg];intro e;simp only[Key.m.injEq]at e;subst e;exact j.1 hq'
  obtain⟨F',Q,J,U⟩:=R.wreck O j.2 (fun g hq'=>by
   obtain⟨v,z,A,B,C⟩:=D g (by simp[hq']);exact⟨v,z,A,B,by rw[i g hq'];exact C⟩)
  have K:Go.Am.Zor (q::rs) s=Go.Am.Zor rs (Y6 s q (.box e T .d y)):=by simp only[Go.Am.Zor,o]
  have l: ∀g,g∈rs->Key.m q≠ .m g:=fun g hq' e=>by simp only[Key.m.injEq]at e;subst e;exact j.1 hq'
  refine⟨F',by rw[K];exact Q,fun k hk=> ?_,fun g hq'=> ?_⟩
  ·rw[J k fun g hq'=>hk g (by simp[hq'])];simp[Qg,hk q (by simp)]
  ·rw[K];rcases List.mem_cons.1 hq' with rfl|hq'
   ·refine⟨e,T,f,y,b,S,o,u,?_,?_,Qc0 (Qsk _ _ _)⟩
    ·rw[Qku l,Yp];simp
    ·rw[J _ l];simp[Qg]
   ·obtain⟨v,z,A,B,I,V,W,Y,Z⟩:=U g hq';refine⟨v,z,A,B,I,V,by rw[<-i g hq'];exact W,?_,Z⟩;have:Qg F (.m q) [b] (.m g)=F (.m g):=by simp only[Qg];rw[if_neg (Ne.symm (l g hq'))]
    rw[<-this];exact Y
theorem R.worldD{rs:List Nat}(h:R n W0 w X F H s a)(hb:W0.below w')(hs:w.heap.size<=w'.heap.size)(hX: ∀b,X b->w'.heap[b]? =w.heap[b]?)
  (hr: ∀q,q∈rs->s.foul q=true/\ ∃e T y b c,s.get (.m q)= .box e T .d y/\F (.m q)=[b]/\w'.heap[b]? =some (.cells c e (0,0))/\c.toList.length=T.size/\ ∀u∈c.toList,u.oneCell'=true)
  (hF: ∀k,(∀q,q∈rs->k≠ .m q)-> ∀b∈F k,w'.heap[b]? =w.heap[b]?):R n W0 w' X F H s a:=
 {h with
  below:=hb
  glob:=g.stays _ _ h.glob fun b hb=>hX b (h.gx b hb)
  xlt:=fun b A=>Nat.lt_of_lt_of_le (h.xlt b A) hs
  own:=fun k b A=>let⟨D,C,G⟩:=h.own k b A;⟨D,Nat.lt_of_lt_of_le C hs,G⟩
  hown:=fun b A=>let⟨D,C,G⟩:=h.hown b A;⟨D,Nat.lt_of_lt_of_le C hs,G⟩
  slots:=fun k=>by
   by_cases hk: ∃q,q∈rs/\k= .m q
   ·obtain⟨q,E,rfl⟩:=hk;obtain⟨_,e,T,y,b,c,D,C,G,M,N⟩:=hr q E;have hv:=h.slots (.m q);rw[D]at hv⊢;obtain⟨W,Y,Z,O,K,_⟩:=hv;rw[C]at K;obtain⟨rfl,rfl⟩:=List.cons.inj K;exact⟨b,c,[],O,C,G,by unfold rdF;exact⟨M,N,rfl⟩⟩
   ·have hk: ∀q,q∈rs->k≠ .m q:=fun q E e=>hk ⟨q,E,e⟩;have I:=hF k hk;have J: ∀{r:Nat} {p:List Nat} {v:Value} {U:Ty},s.foul r=false->Xi W0.gh w s F a r p v U->Xi W0.gh w' s F a r p v U:=fun {r p v U} z hv=>
     Zj7 hv (hF (.m r) fun q E e=>by
      simp only[Key.m.injEq]at e;subst e;rw[(hr r E).1]at z;cases z)
    have o:=h.slots k;generalize s.get k=u at o;generalize Qp W0.gh a k=v at o⊢;generalize F k=S at o I⊢
    induction u with
    |junk=>exact o
    |tup=>exact o
    |val T f x=>exact Zjy (s:=s) (F:=fun _=>[]) (a:=a) (v:=v) (t:= .val T f x) (fun _ h=>h) hX (by simp) I (show vt W0.gh w X W0.B s (fun _=>[]) a v S (.val T f x)from o)
    |box e T f x=>exact Zjy (s:=s) (F:=fun _=>[]) (a:=a) (v:=v) (t:= .box e T f x) (fun _ h=>h) hX (by simp) I (show vt W0.gh w X W0.B s (fun _=>[]) a v S (.box e T f x)from o)
    |shp T x=>exact Zjy (s:=s) (F:=fun _=>[]) (a:=a) (v:=v) (t:= .shp T x) (fun _ h=>h) hX (by simp) I (show vt W0.gh w X W0.B s (fun _=>[]) a v S (.shp T x)from o)
    |ptr r p=>exact o
    |aep r p i=>exact o
    |pls hh l=>exact⟨o.1,Zr7 (fun _ h=>h) hX (fun _ _ _ h=>h) o.2⟩
    |bor r p=>exact⟨o.1,fun z=>let⟨U,h⟩:=o.2 z;⟨U,J (St.bad_foul z) h⟩⟩
    |elp r p i q=>exact⟨o.1,fun z=>let⟨e,t',ad,n,cap,h,h'⟩:=o.2 z;⟨e,t',ad,n,cap,J (St.bad_foul z) h,h'⟩⟩
    |bel r p i q=>exact⟨o.1,fun z P=>let⟨e,t',ad,n,cap,x0,y,cs,h,k1,k2,k3,k4,k5,k6,k7⟩:=o.2 z P;⟨e,t',ad,n,cap,x0,y,cs,J (St.bad_foul z) h,k1,k2,k3,k4,k5,k6,fun j u Q=>by
      have hb: ∀m,(ad.add m).block=ad.block:=fun m=>by unfold Addr.add;split<;>rfl
      rw[World.cell?_of_block (w:=w) (by rw[hb];exact hF (.m r) (fun q E e=>by
       simp only[Key.m.injEq]at e;subst e;have:=St.bad_foul z;rw[(hr r E).1]at this;cases this) _ k3)];exact k7 j u Q⟩⟩
    |cl f l=>exact o
    |gd g L u V=>exact fun z=>let⟨h0,D,C⟩:=o z;⟨h0,fun hb=>V (D hb),C⟩}
def Qws(F:Key->List Nat)(s:St):List AK->List Nat->List Nat->Prop| [],rs,BL=>rs=[]/\BL=[]| .sh _::as,rs,BL=>Qws F s as rs BL| .bx e T _::as,rs,BL=> ∃q rs' b BL' y,rs=q::rs'/\BL=b::BL'/\F (.m q)=[b]/\s.get (.m q)= .box e T .d y/\Qws F s as rs' BL'| .mv _::as,rs,BL=>Qws F s as rs BL
theorem Qfg(h:R n W0 w X F H s a): ∀{as:List AK} {rs BL:List Nat},Qws F s as rs BL-> ∀{j q b:Nat},rs[j]? =some q->BL[j]? =some b->Qp W0.gh a (.m q)= .pointer (some ⟨b,0,none⟩)
 | [],_,_,⟨l,B⟩,j,q,b,d,_=>by subst l;simp at d
 | .sh _::as,_,_,g,j,q,b,d,f=>Qfg h (as:=as) g d f
 | .mv _::as,_,_,g,j,q,b,d,f=>Qfg h (as:=as) g d f
 | .bx e T _::as,rs,BL,⟨o,p,C,r,y,t,u,v,x,z⟩,j,q,b,d,f=>by
  subst t;subst u;cases j with
  |zero=>
   simp only[List.getElem?_cons_zero,Osi]at d f;subst d;subst f;have i:=h.slots (.m o);rw[x]at i;obtain⟨D,c,S,A,k,_⟩:=i;rw[v]at k;obtain⟨rfl,_⟩:=List.cons.inj k;exact A
  |succ j=>exact Qfg h (as:=as) z (by simpa using d) (by simpa using f)
theorem Qfh{t:Tm}{q:Nat}{b:Nat}: ∀{as:List AK} {rs BL:List Nat},q∉rs->Qws F s as rs BL-> ∀{S:List Nat},Qws (Qg F (.m q) S) (Y6 s q t) as rs BL
 | [],_,_,_,h,_=>h
 | .sh _::as,rs,BL,a,h,_=>Qfh (b:=b) (as:=as) a h
 | .mv _::as,rs,BL,a,h,_=>Qfh (b:=b) (as:=as) a h
 | .bx e T _::as,rs,BL,a,⟨g,d,i,f,y,j,k,l,n,o⟩,S=>by
  subst j;have c:g≠q:=fun e=>a (by simp[e]);exact⟨g,d,i,f,y,rfl,k,by simp[Qg,c,l],by rw[Yp,if_neg (by simpa using Ne.symm c)];exact n,Qfh (b:=b) (fun p=>a (by simp[p])) o⟩
theorem Z0u: ∀{as:List AK} {x:Zs0 as} {vals:List Value} {BL C rs:List Nat} {s:St} {F:Key->List Nat},R n W0 w X F (C++H) s a->rdO w X as x vals BL C->Qws F s as rs BL->rs.Nodup->(∀b,b∈C->W0.B<=b)->
  ∃F',R n W0 w X F' H (Qtq as x rs s) a
 | [],x,vals,BL,C,rs,s,F,h,⟨_,_,e⟩,_,_,_=>by subst e;exact⟨F,h⟩
 | .sh _::as,x,vals,BL,C,rs,s,F,h,⟨v,I,_,t⟩,u,g,f=>Z0u (as:=as) h t u g f
 | .mv _::as,x,vals,BL,C,rs,s,F,h,⟨v,I,_,t⟩,u,g,f=>Z0u (as:=as) h t u g f
 | .bx e T o::as,x,vals,BL,C,rs,s,F,h,⟨b,c,S,I,N,z,h1,O,P,J,Q,U⟩,⟨q,A,V,W,y,Y,K,r,D,Z⟩,g,f=>by
  subst Y;subst P;rw[O]at K;obtain⟨rfl,rfl⟩:=List.cons.inj K;have i:=List.nodup_cons.1 g;have L:=h.slots (.m q);rw[D]at L;obtain⟨j,c',S',g1,M,g3,_⟩:=L;rw[r]at M;obtain⟨rfl,rfl⟩:=List.cons.inj M;rw[J]at g3;have k:=h.hnodup;rw[List.append_assoc]at k;have E:b∉(S++z)++H:=h.hdisj (.m q) b (by rw[r];simp);have G:R n W0 w X (Qg F (.m q) (b::S)) (z++H) (Y6 s q (.box e T o x.1)) a:=by
   refine h.turn h.below (Nat.le_refl _) (fun _ _=>rfl) (fun _ _ _ _=>rfl) ?_ ?_ (by rw[D];simp) ?_ ?_
   ·intro j d;rw[r];simp only[List.mem_append,List.mem_cons,List.not_mem_nil,or_false]at d⊢
    grind
   ·have: (b:: (S++ (z++H))).Nodup:=List.nodup_cons.2 ⟨by simpa using E,k⟩;simpa using this
   ·intro e' T' f' x' V S2 l p;rw[D]at l;cases l;rw[r]at p;obtain⟨rfl,_⟩:=List.cons.inj p;exact⟨o,_,S,rfl,rfl⟩
   ·refine⟨b,c,S,g1,rfl,J,?_⟩;exact Z0w Q fun j d=>f j (by simp[d])
  show ∃F',R n W0 w X F' H (Qtq as x.2 A (Y6 s q (.box e T o x.1))) a;exact Z0u (as:=as) G U (Qfh (b:=b) i.1 Z) i.2 fun j d=>f j (by simp[d])
theorem Z0m: ∀{as:List AK} {rs:List Nat} {vals:List Value} {x:Zs0 as} {BL C:List Nat},Q0q F s as rs vals->rdO w' X' as x vals BL C-> ∀q,q∈rs->
  ∃e T f y b S c,s.get (.m q)= .box e T f y/\F (.m q)=b::S/\b∈BL/\w'.heap[b]? =some (.cells c e (0,0))/\c.toList.length=T.size/\ ∀u∈c.toList,u.oneCell'=true
 | [],_,_,_,_,_,⟨h,_⟩,_,q,hq=>by subst h;cases hq
 | .sh _::as,rs,vals,x,BL,C,⟨v,k,g,i⟩,⟨p,j,a,d⟩,q,hq=>by
  rw[g]at a;obtain⟨rfl,rfl⟩:=List.cons.inj a;exact Z0m (as:=as) i d q hq
 | .mv _::as,rs,vals,x,BL,C,⟨v,k,g,i⟩,⟨p,j,a,d⟩,q,hq=>by
  rw[g]at a;obtain⟨rfl,rfl⟩:=List.cons.inj a;exact Z0m (as:=as) i d q hq
 | .bx e T o::as,rs,vals,x,BL,C,⟨U,r,b,S,k,f,y,g,i,t,w,z⟩,⟨V,c,W,A,B,X,a,d,Y,D,l,E⟩,q,hq=>by
  rw[i]at a;obtain⟨n,rfl⟩:=List.cons.inj a;simp only[Value.pointer.injEq,Osi,Addr.mk.injEq,and_true]at n;subst n;subst g;rcases List.mem_cons.1 hq with rfl|hq
  ·exact⟨e,T,f,y,b,S,c,w,t,by rw[d];simp,D,X8 l,Zh2 l⟩
  ·obtain⟨G,H,I,J,K,L,M,N,O,P,Q⟩:=Z0m z E q hq;exact⟨G,H,I,J,K,L,M,N,O,by rw[d];simp[P],Q⟩
theorem Qwr{s2:St}{F2:Key->List Nat}: ∀{as:List AK} {rs:List Nat} {vals:List Value} {x:Zs0 as} {BL C:List Nat},Q0q F s as rs vals->rdO w' X' as x vals BL C->
  (∀q,q∈rs-> ∀e T f y b S,s.get (.m q)= .box e T f y->F (.m q)=b::S->s2.get (.m q)= .box e T .d y/\F2 (.m q)=[b])->Qws F2 s2 as rs BL
 | [],_,_,_,_,_,⟨h,_⟩,⟨_,g,_⟩,_=>⟨h,g⟩
 | .sh _::as,rs,vals,x,BL,C,⟨v,p,i,g⟩,⟨u,k,a,j⟩,hk=>by
  rw[i]at a;obtain⟨rfl,rfl⟩:=List.cons.inj a;exact Qwr (as:=as) g j hk
 | .mv _::as,rs,vals,x,BL,C,⟨v,p,i,g⟩,⟨u,k,a,j⟩,hk=>by
  rw[i]at a;obtain⟨rfl,rfl⟩:=List.cons.inj a;exact Qwr (as:=as) g j hk
 | .bx e T o::as,rs,vals,x,BL,C,⟨r,l,b,S,p,f,y,i,g,w,z,A⟩,⟨I,c,J,B,n,K,a,j,L,M,N,D⟩,hk=>by
  rw[g]at a;obtain⟨t,rfl⟩:=List.cons.inj a;simp only[Value.pointer.injEq,Osi,Addr.mk.injEq,and_true]at t;subst t;subst i;obtain⟨E,G⟩:=hk r (by simp) _ _ _ _ _ _ z w;exact⟨r,l,b,n,y,rfl,j,G,E,Qwr A D fun q H=>hk q (by simp[H])⟩
theorem Qff: ∀{as:List AK} {rs:List Nat} {vals:List Value},Q0q F s as rs vals-> ∀q,q∈rs->s.isBox q
 | [],_,_,⟨h,_⟩,q,hq=>by subst h;cases hq
 | .sh _::as,rs,vals,⟨v,d,c,a⟩,q,hq=>Qff a q hq
 | .mv _::as,rs,vals,⟨v,d,c,a⟩,q,hq=>Qff a q hq
 | .bx e T o::as,rs,vals,⟨k,g,b,S,d,f,y,c,a,l,i,j⟩,q,hq=>by
  subst c;rcases List.mem_cons.1 hq with rfl|hq
  ·exact⟨e,T,f,y,i⟩
  ·exact Qff j q hq
theorem Q34{q d:Nat}{t:Tm}(h:Jy s d=true)(hq:q≠d):Jy (Y6 s q t) d=true:=by
 unfold Jy at*
 rw[Yp,if_neg (by simpa using hq)];exact h
theorem Zz1{d:Nat}: ∀{as:List AK} {x:Zs0 as} {rs:List Nat} {s:St},Jy s d=true->d∉rs->Jy (Qtq as x rs s) d=true
 | [],_,_,_,h,_=>h
 | .sh _::as,x,rs,s,h,a=>Zz1 (as:=as) h a
 | .mv _::as,x,rs,s,h,a=>Zz1 (as:=as) h a
 | .bx e T o::as,x,q::rs,s,h,a=>Zz1 (as:=as) (Q34 h fun e=>a (by simp[e])) fun b=>a (by simp[b])
 | .bx .. ::_,x,[],s,h,_=>h
theorem Qr1: ∀{ts:List Ty} {x:Jp ts} {rs:List Value},Qy3 w X ts x rs->rs.length=ts.length
 | [],_,_,h=>by simp only[Qy3]at h;simp[h]
 |t::ts,_,_,⟨_,_,e,_,h⟩=>by simp[e,Qr1 h]
theorem R.putTupSh{d:Nat}{vs:List Value}{ts:List Ty}{x:Jp ts}(h:R n W0 w X F H s a)(hd:Jy s d=true)(hn:d<n)(hx:Qy3 w X ts x vs):
  ∃F',R n W0 w X F' H {env:=Qde d ts x 0 (Y2 s d .tup).env,dirty:=(Y2 s d .tup).dirty,lent:=s.lent} (a.put (some d) (.tuple vs.toArray)):=by
 have J:R n W0 w X (Qg F (.m d) []) H (Y2 s d .tup) (a.put (some d) (.tuple vs.toArray)):=(by simpa using h:R n W0 w X F ([]++H) s a).put hd hn rfl;have g:Zlw W0.gh (a.put (some d) (.tuple vs.toArray)) d= .tuple vs.toArray:=Zmm (a:=a) (by rw[h.size];exact hn);have C: ∀i,(Y2 s d .tup).get (.c d i)= .junk:=fun i=>by
  rw[Zk0];simp only[reduceCtorEq,if_false];exact Classical.byContradiction fun y=>by have:=(h.comps d i y).1;simp[Jy,this]at hd
 suffices hs: ∀(ts:List Ty) (x:Jp ts) (B:List Value) (i:Nat) (F:Key->List Nat) (r:List (Key×Tm)) (pre:List Value),vs=pre++B->pre.length=i->Qy3 w X ts x B->
   R n W0 w X F H {env:=r,dirty:=(Y2 s d .tup).dirty,lent:=s.lent} (a.put (some d) (.tuple vs.toArray))->Zf8 r (.m d)= .tup->(∀j,i<=j->Zf8 r (.c d j)= .junk)->
   ∃F',R n W0 w X F' H {env:=Qde d ts x i r,dirty:=(Y2 s d .tup).dirty,lent:=s.lent} (a.put (some d) (.tuple vs.toArray)) by
  obtain⟨F',o⟩:=hs ts x vs 0 _ (Y2 s d .tup).env [] rfl rfl hx J (Zsm _ _ _) (fun j _=>C j);exact⟨F',o⟩
 intro ts
 induction ts with
 |nil=>
  intro x B i F r pre _ _ hx v _ _;exact⟨F,v⟩
 |cons t ts K=>
  intro x B i F r pre p b hx v l f;obtain⟨D,E,rfl,G,I⟩:=hx;have q:Qp W0.gh (a.put (some d) (.tuple vs.toArray)) (.c d i)=Xz t D:=by
   simp only[Qp,g];rw[p,<-b];simp[Array.getD_eq_getD_getElem?]
  have z:F (.c d i)=[]:=by
   have:=v.slots (.c d i);simp only[St.get,f i (Nat.le_refl _)]at this;exact this
  have A:R n W0 w X F H {env:=(.c d i,.val t (.u false) x.1)::r,dirty:=(Y2 s d .tup).dirty,lent:=s.lent} (a.put (some d) (.tuple vs.toArray)):=
   {v with
    comps:=fun L j y=>by
     simp only[St.get,Z2]at y⊢;simp only[reduceCtorEq,if_false];split at y
     ·rename_i e;simp only[Key.c.injEq]at e;obtain⟨rfl,rfl⟩:=e;refine⟨l,vs.toArray,g,?_⟩;rw[p,<-b];simp
     ·exact v.comps L j y
    slots:=fun k=>by
     by_cases hk:k= .c d i
     ·subst hk;simp only[St.get,Z2,if_true];rw[z];exact⟨D,q,by unfold rdF;exact Vn G (by simp)⟩
     ·have M:St.get {env:=(Key.c d i,Tm.val t (.u false) x.1)::r,dirty:=(Y2 s d .tup).dirty,lent:=s.lent} k=St.get {env:=r,dirty:=(Y2 s d .tup).dirty,lent:=s.lent} k:=by simp[St.get,Z2,Ne.symm hk]
      rw[M];have:=Qom (s:={env:=r,dirty:=(Y2 s d .tup).dirty,lent:=s.lent}) (t:=d) (i:=i) (u:=Tm.val t (.u false) x.1) (S0:=[]) (v.slots k);have N:Qg F (.c d i) []=F:=by
       funext j;simp only[Qg];split
       ·rename_i e;rw[e,z]
       ·rfl
      rw[N]at this;exact this}
  obtain⟨F',o⟩:=K x.2 E (i+1) _ _ (pre++ [Xz t D]) (by rw[p];simp) (by simp[b]) I A (by rw[Z2];simpa using l) (fun j O=>by
   rw[Z2,if_neg (by simp;omega)];exact f j (by omega))
  exact⟨F',o⟩
theorem R.putSh{d:Nat}{rs:List Value}: ∀{ts:List Ty} {x:Jp ts},R n W0 w X F H s a->Jy s d=true->d<n->Qy3 w X ts x rs->
  ∃F',R n W0 w X F' H (Go.Am.Xbi d s ts x) (a.put (some d) (X4 rs))
 | [],x,h,b,c,hx=>by
  rw[Zpq (by rw[Qr1 hx];simp)];exact h.putTupSh b c hx
 | [t],x,h,b,c,hx=>by
  obtain⟨e,f,rfl,g,rfl⟩:=hx;exact⟨_,(by simpa using h:R n W0 w X F ([]++H) s a).put b c ⟨e,rfl,by unfold rdF;exact Vn g (by simp)⟩⟩
 |t::u::ts,x,h,b,c,hx=>by
  rw[Zpq (by rw[Qr1 hx];simp)];exact h.putTupSh b c hx
theorem Qrz: ∀{ts:List (Ty×Fl)} {x:Zwf ts} {rs:List Value} {S:List Nat},Qtr w X B ts x rs S->rs.length=ts.length
 | [],_,_,_,h=>by simp[h.1]
 |t::ts,_,_,_,⟨_,_,_,_,e,_,_,h⟩=>by simp[e,Qrz h]
theorem Qln: ∀{ts:List (Ty×Fl)} {x:Zwf ts} {rs:List Value} {S:List Nat},Qtr w X B ts x rs S->(∀b,b∈S->B'<=b)->Qtr w X B' ts x rs S
 | [],_,_,_,h,_=>h
 |t::ts,_,_,_,⟨f,g,i,j,e,a,k,l⟩,d=>⟨f,g,i,j,e,a,Z0w k fun b c=>d b (by rw[a];simp[c]),Qln l fun b c=>d b (by rw[a];simp[c])⟩
theorem R.putTupF{d:Nat}{vs:List Value}{ts:List (Ty×Fl)}{x:Zwf ts}{S:List Nat}(h:R n W0 w X F (S++H) s a)(hd:Jy s d=true)(hn:d<n)(hx:Qtr w X W0.B ts x vs S):
  ∃F',R n W0 w X F' H {env:=Qpd d ts x 0 (Y2 s d .tup).env,dirty:=(Y2 s d .tup).dirty,lent:=s.lent} (a.put (some d) (.tuple vs.toArray)):=by
 have V:R n W0 w X (Qg F (.m d) []) (S++H) (Y2 s d .tup) (a.put (some d) (.tuple vs.toArray)):=(by simpa using h:R n W0 w X F ([]++ (S++H)) s a).put hd hn rfl;have u:Zlw W0.gh (a.put (some d) (.tuple vs.toArray)) d= .tuple vs.toArray:=Zmm (a:=a) (by rw[h.size];exact hn);have G: ∀i,(Y2 s d .tup).get (.c d i)= .junk:=fun i=>by
  rw[Zk0];simp only[reduceCtorEq,if_false];exact Classical.byContradiction fun C=>by have:=(h.comps d i C).1;simp[Jy,this]at hd
 
 suffices hs: ∀(ts:List (Ty×Fl)) (x:Zwf ts) (E:List Value) (i:Nat) (S:List Nat) (F:Key->List Nat) (r:List (Key×Tm)) (pre:List Value),vs=pre++E->pre.length=i->Qtr w X W0.B ts x E S->
   R n W0 w X F (S++H) {env:=r,dirty:=(Y2 s d .tup).dirty,lent:=s.lent} (a.put (some d) (.tuple vs.toArray))->Zf8 r (.m d)= .tup->(∀j,i<=j->Zf8 r (.c d j)= .junk)->
   ∃F',R n W0 w X F' H {env:=Qpd d ts x i r,dirty:=(Y2 s d .tup).dirty,lent:=s.lent} (a.put (some d) (.tuple vs.toArray)) by
  obtain⟨F',y⟩:=hs ts x vs 0 S _ (Y2 s d .tup).env [] rfl rfl hx V (Zsm _ _ _) (fun j _=>G j);exact⟨F',y⟩
 intro ts
 induction ts with
 |nil=>
  intro x E i S F r pre _ _ hx f _ _;obtain⟨rfl,rfl⟩:=hx;exact⟨F,f⟩
 |cons t ts W=>
  intro x E i S F r pre z l hx f v o;obtain⟨I,J,O,P,rfl,rfl,K,L⟩:=hx
  
  have A:Qp W0.gh (a.put (some d) (.tuple vs.toArray)) (.c d i)=Xz t.1 I:=by
   simp only[Qp,u];rw[z,<-l];simp[Array.getD_eq_getD_getElem?]
  have D:R n W0 w X (Qg F (.c d i) O) (P++H) {env:=(.c d i,.val t.1 t.2 x.1)::r,dirty:=(Y2 s d .tup).dirty,lent:=s.lent} (a.put (some d) (.tuple vs.toArray)):=by
   have Y:F (.c d i)=[]:=by
    have:=f.slots (.c d i);simp only[St.get,o i (Nat.le_refl _)]at this;exact this
   have q:=f.hnodup;rw[List.append_assoc]at q;exact
   {size:=f.size
    defers:=f.defers
    below:=f.below
    glob:=f.glob
    gx:=f.gx
    xs:=f.xs
    fix:=f.fix
    xlt:=f.xlt
    xin:=f.xin
    x0:=f.x0
    own:=fun k b g=>by
     simp only[Qg]at g;split at g
     ·exact f.hown b (by simp[g])
     ·exact f.own k b g
    nodup:=fun k=>by
     simp only[Qg];split
     ·exact(List.nodup_append.1 q).1
     ·exact f.nodup k
    disj:=fun k Q b g p=>by
     simp only[Qg]at g p;split at g<;>split at p
     ·rename_i M N;rw[M,N]
     ·exact absurd (by simp[g]) (f.hdisj Q b p)
     ·exact absurd (by simp[p]) (f.hdisj k b g)
     ·exact f.disj k Q b g p
    hown:=fun b g=>f.hown b (by simp only[List.mem_append]at g⊢;grind)
    hnodup:=(List.nodup_append.1 q).2.1
    hdisj:=fun k b g U=>by
     simp only[Qg]at g;split at g
     ·exact(List.nodup_append.1 q).2.2 b g b U rfl
     ·exact f.hdisj k b g (by simp only[List.mem_append]at U⊢;grind)
    comps:=fun Z j C=>by
     simp only[St.get,Z2]at C⊢;simp only[reduceCtorEq,if_false];split at C
     ·rename_i e;simp only[Key.c.injEq]at e;obtain⟨rfl,rfl⟩:=e;refine⟨v,vs.toArray,u,?_⟩;rw[z,<-l];simp
     ·exact f.comps Z j C
    slots:=fun k=>by
     by_cases hk:k= .c d i
     ·subst hk;simp only[St.get,Z2,if_true,Qg];exact⟨I,A,K⟩
     ·have M:St.get {env:=(Key.c d i,Tm.val t.1 t.2 x.1)::r,dirty:=(Y2 s d .tup).dirty,lent:=s.lent} k=St.get {env:=r,dirty:=(Y2 s d .tup).dirty,lent:=s.lent} k:=by simp[St.get,Z2,Ne.symm hk]
      have N:Qg F (.c d i) O k=F k:=by simp[Qg,hk]
      rw[M,N];exact Qom (s:={env:=r,dirty:=(Y2 s d .tup).dirty,lent:=s.lent}) (f.slots k)}
  obtain⟨F',y⟩:=W x.2 J (i+1) P _ _ (pre++ [Xz t.1 I]) (by rw[z];simp) (by simp[l]) L D (by rw[Z2];simpa using v) (fun j hj=>by
   rw[Z2,if_neg (by simp;omega)];exact o j (by omega))
  exact⟨F',y⟩
theorem R.putF{d:Nat}{rs:List Value}: ∀{ts:List (Ty×Fl)} {x:Zwf ts} {S:List Nat},R n W0 w X F (S++H) s a->Jy s d=true->d<n->Qtr w X W0.B ts x rs S->
  ∃F',R n W0 w X F' H (Go.Am.Xcz d s ts x) (a.put (some d) (X4 rs))
 | [],x,S,h,b,c,hx=>by
  rw[Zpq (by rw[Qrz hx];simp)];exact h.putTupF b c hx
 | [t],x,S,h,b,c,hx=>by
  obtain⟨e,f,i,j,rfl,rfl,g,rfl,rfl⟩:=hx;exact⟨_,h.put b c ⟨e,rfl,by simpa using g⟩⟩
 |t::u::ts,x,S,h,b,c,hx=>by
  rw[Zpq (by rw[Qrz hx];simp)];exact h.putTupF b c hx
def Q5g(gh:Nat->Value)(X:Nat->Prop)(s:St)(a:Act)(rs:List Nat)(w w':World):Prop:=∀b,(X b\/ ∃r,s.isBox r/\r∉rs/\Qp gh a (.m r)= .pointer (some ⟨b,0,none⟩))->w'.heap[b]? =w.heap[b]?
def Qj5(Γ:Zv7)(s:St)(f:FuncId)(xs:List Operand):List Nat:=
 match Γ.find f with
 |some e=>match Ztw (Zls e.args xs s) e.args xs with
  |some (m,s2)=>match Zv0 s2 m e.args xs with
   |some (_,rs)=>rs
   |none=>[]
  |none=>[]
 |none=>[]
theorem Z3d{ρ:Type}{Γ:Zv7}(hs0:g.soft=false)(hΓ:Γ.ok P g)(h:R n W0 w X F [] s a){f:FuncId}{fo:Operand}(hfo:a.eval fo= .func (.func f) #[] #[]){xs:Array Operand}{ats:Array TypeId}(ho:o.op= .call {callee:= .value fo,args:=xs,argTypes:=ats}){k:St->Option ρ}{r:ρ}(hr:Qo6 Γ n s o.dst f xs.toList k=some r)
  {K:Act->World->Prop} {Q:Exit->Act->World->Prop} (hK: ∀v w' X' F' s',k s'=some r->R n W0 w' X' F' [] s' (a.put o.dst v)->(∀b,X b->X' b)->Q5g W0.gh X s a (Qj5 Γ s f xs.toList) w w'->K (a.put o.dst v) w'):o.wp P a w K Q:=by
 have i: ∀e m s2 us rs,Γ.find f=some e->Ztw (Zls e.args xs.toList s) e.args xs.toList=some (m,s2)->Zv0 s2 m e.args xs.toList=some (us,rs)->Qj5 Γ s f xs.toList=rs:=fun e m s2 us rs l h3 V=>by
  unfold Qj5;rw[l];simp only;rw[h3];simp only;rw[V]
 unfold Qo6 at hr;split at hr
 ·cases hr
 ·rename_i e he;obtain⟨rfl,al⟩:=Zv7.find_ok hΓ he;obtain⟨X1,F1,l,ae,E⟩:=Zei hs0 (as:=e.args) (xs:=xs.toList) h;have i:=fun m s2 us rs=>i e m s2 us rs he;generalize Zls e.args xs.toList s=s1 at hr l E i;split at hr
  ·cases hr
  rename_i m s2 am;obtain⟨M,F1,l,av,aw,ap⟩:=Zuq l am;have E:=fun q p=>ap q (E q p);have i:=fun us rs=>i m s2 us rs am;generalize s2=s1 at hr l E i;split at hr
  ·cases hr
  ·rename_i us rs aq;split at hr
   ·cases hr
   ·rename_i hn;rw[i us rs aq]at hK;obtain⟨L,a1,a2,a3,a4⟩:=Zw6 l aw (List.nodup_append.1 l.hnodup).1 (fun k b hb D=>l.hdisj k b hb (by simp[D])) aq hn;have O:=Qlk hn;have hL: ∀b,b∈L->W0.mine b/\b<w.heap.size/\ ¬X1 b:=fun b hb=>by
     rcases a4 b hb with⟨q,_,p⟩|hb
     ·exact l.own _ b p
     ·exact l.hown b (by simp[hb])
    
    have call: ∀{z},e.F us=some z-> ∀{K':Act->World->Prop},(∀W S X' F' w',R n W0 w' X' F' (S++ []) (Qtq e.args z.2 rs (Zor rs s1)) a->rdS w' X' e.res z.1 W S->(∃BL:List Nat,rdP e.res z.1 W BL/\ ∀(j q b:Nat),rs[j]? =some q->BL[j]? =some b->Qp W0.gh a (.m q)= .pointer (some ⟨b,0,none⟩))->(∀b,b∈S->W0.B<=b)->(∀b,X b->X' b)->Q5g W0.gh X s a rs w w'->K' (a.put o.dst (X4 W)) w')->o.wp P a w K' Q:=by
     intro z hz K' H;have hc:=al.calls w X1 L us z (xs.toList.map a.eval) l.glob l.gx l.xlt (fun b hb=>⟨(hL b hb).2.2,(hL b hb).2.1⟩) a3 a1 hz;have ar: (execOp a.eval o).run P w= .ok (.enter e.f (xs.toList.map a.eval).toArray) w:=by
      have:execOp a.eval o=callFunc e.f (xs.map a.eval):=by
       simp only[execOp,ho,resolve,hfo,Deferred.ofValue];simp[invoke]
      rw[this,al.enters];congr 2;apply Array.toList_inj.mp;simp
     unfold Oper.wp;rw[ar,Oper.upon_enter];refine hc.mono fun en w' ⟨W,S,BL,C,X',ax,A,Y,hO,hP⟩=> ?_;subst ax;show K' (a.put o.dst (X4 W)) w';obtain⟨J,V,ay,ag⟩:=R.wreck l O (Qff a2);have Z:=Z0m a2 hO;have az:W0.below w':=⟨A.os.trans l.below.os,A.tape.trans l.below.tape,A.output.trans l.below.output,Nat.le_trans l.below.size A.size,fun b hb=>
      (A.block b (Nat.lt_of_lt_of_le (W0.yW b hb) l.below.size) fun D=>W0.sep hb (hL b D).1 rfl).trans (l.below.block b hb)⟩
     have aa: ∀q,q∈rs-> ∃b,J (.m q)=[b]/\b∈BL:=fun q p=>by
      obtain⟨e1,T1,f1,y1,b1,S1,m1,m2,m3,m4,m5⟩:=ag q p;obtain⟨e2,T2,f2,y2,b2,S2,c2,p1,p2,p3,_⟩:=Z q p;rw[m2]at p2;obtain⟨rfl,_⟩:=List.cons.inj p2;exact⟨b1,m4,p3⟩
     have u: ∀k,(∀q,q∈rs->k≠ .m q)-> ∀b,b∈J k->b<w.heap.size/\b∉L/\ ¬X1 b:=fun k hk b hb=>by
      rw[ay k hk]at hb;obtain⟨_,t,g3⟩:=l.own k b hb;refine⟨t,fun D=> ?_,g3⟩;rcases a4 b D with⟨q,p,hb'⟩|hb'
      ·exact hk q p (l.disj _ _ b hb hb')
      ·exact l.hdisj _ b hb (by simp[hb'])
     have ab: ∀b,b∈S++ (BL++C)->W0.mine b/\b<w'.heap.size/\ ¬X' b:=fun b hb=>by
      obtain⟨G,t,g3⟩:=A.nin b hb;exact⟨G.elim (fun g=> .inl (Nat.le_trans l.below.size g)) fun g=>(hL b g).1,t,g3⟩
     have ac: ∀b,b∈S++C->W0.B<=b:=fun b hb=>by
      have hb':b∈S++ (BL++C):=by simp only[List.mem_append]at hb⊢;grind
      rcases(A.nin b hb').1 with g|g
      ·exact Nat.le_trans l.below.sizeB g
      ·rcases a4 b g with⟨q,p,hbq⟩|hbM
       rotate_left
       ·exact av b hbM
       obtain⟨e2,T2,f2,y2,b2,S2,c2,p1,p2,p3,_⟩:=Z q p;rw[p2]at hbq;rcases List.mem_cons.1 hbq with rfl|hbq
       ·exfalso;have O:=A.nd;rw[List.nodup_append]at O;rcases List.mem_append.1 hb with hb|hb
        ·exact O.2.2 b hb b (by simp[p3]) rfl
        ·exact(List.nodup_append.1 O.2.1).2.2 b p3 b hb rfl
       ·have hs:=l.slots (.m q);rw[p1]at hs;obtain⟨b3,c3,S3,G,t,g3,g4⟩:=hs;rw[p2]at t;obtain⟨rfl,rfl⟩:=List.cons.inj t;exact(Qw1 g4 b hbq).1
     have h3:R n W0 w' X1 J [] (Zor rs s1) a:=V.drop.worldD (rs:=rs) az A.size (fun b hb=>A.block b (l.xlt b hb) fun D=>(hL b D).2.2 hb)
      (fun q p=>by
       obtain⟨e1,T1,f1,y1,b1,S1,m1,m2,m3,m4,m5⟩:=ag q p;obtain⟨e2,T2,f2,y2,b2,S2,c2,p1,p2,p3,p4,p5,p6⟩:=Z q p;rw[m2]at p2;obtain⟨rfl,_⟩:=List.cons.inj p2;rw[m1]at p1;cases p1;exact⟨m5,e1,T1,y1,b1,c2,m3,m4,p4,p5,p6⟩)
      (fun k hk b hb=>A.block b (u k hk b hb).1 (u k hk b hb).2.1)
     have h4:R n W0 w' X' J [] (Zor rs s1) a:=R.xup hs0 h3 A.xx A.xlt
      (fun b hb=>(A.xin b hb).elim (l.xin b) fun g=> .inr (g.elim (fun g=> .inl (Nat.le_trans l.below.size g)) fun g=>(hL b g).1))
      (fun k b hb hx=>by
       by_cases hk: ∃q,q∈rs/\k= .m q
       ·obtain⟨q,p,rfl⟩:=hk;obtain⟨b1,G,t⟩:=aa q p;rw[G]at hb;simp only[List.mem_singleton]at hb;subst hb;exact(ab b (by simp[t])).2.2 hx
       ·obtain⟨G,t,g3⟩:=u k (fun q p e=>hk ⟨q,p,e⟩) b hb;rcases A.xin b hx with g|g|g
        ·exact g3 g
        ·omega
        ·exact t g) (fun b hb=>by cases hb)
     have N:=List.nodup_append.1 A.nd;have ad:=List.nodup_append.1 N.2.1;have h5:R n W0 w' X' J (C++ (S++ [])) (Zor rs s1) a:=by
      have:=h4.hand (S:=C++S) (fun b hb=>ab b (by simp only[List.mem_append]at hb⊢;grind))
       (List.nodup_append.2 ⟨ad.2.1,N.1,fun x hx y hy e=>N.2.2 y hy x (by simp[hx]) e.symm⟩)
       (fun k b hb D=>by
        have hm':b∈S++C:=by simp only[List.mem_append]at D⊢;grind
        by_cases hk: ∃q,q∈rs/\k= .m q
        ·obtain⟨q,p,rfl⟩:=hk;obtain⟨b1,G,t⟩:=aa q p;rw[G]at hb;simp only[List.mem_singleton]at hb;subst hb;rcases List.mem_append.1 hm' with hm'|hm'
         ·exact N.2.2 b hm' b (by simp[t]) rfl
         ·exact ad.2.2 b t b hm' rfl
        ·obtain⟨G,t,g3⟩:=u k (fun q p e=>hk ⟨q,p,e⟩) b hb;have a0:b∈S++ (BL++C):=by simp only[List.mem_append]at hm'⊢;grind
         rcases(A.nin b a0).1 with g|g
         ·omega
         ·exact t g) (fun b _ D=>by cases D)
      simpa using this
     have D:Qws J (Zor rs s1) e.args rs BL:=Qwr a2 hO fun q p e1 T1 f1 y1 b1 S1 G t=>by
      obtain⟨e2,T2,f2,y2,b2,S2,m1,m2,m3,m4,m5⟩:=ag q p;rw[m1]at G;cases G;rw[m2]at t;obtain⟨rfl,_⟩:=List.cons.inj t;exact⟨m3,m4⟩
     obtain⟨F6,h6⟩:=Z0u h5 hO D O fun b hb=>ac b (by simp[hb]);refine H W S X' F6 w' h6 Y ⟨BL,hP,fun j q b=>Qfg h5 D⟩ (fun b hb=>ac b (by simp[hb])) (fun b hb=>A.xx b (ae b hb)) fun b hb=> ?_;rcases hb with hb| ⟨q,p,a5,hv⟩
     ·exact A.block b (l.xlt b (ae b hb)) fun D=>(hL b D).2.2 (ae b hb)
     ·obtain⟨S1,ah⟩:=l.boxIn (E q p) hv;refine A.block b (l.own (.m q) b (by rw[ah];simp)).2.1 fun D=> ?_;rcases a4 b D with⟨q',a6,hb'⟩|hb'
      ·have:=l.disj (.m q) (.m q') b (by rw[ah];simp) hb';simp only[Key.m.injEq]at this;subst this;exact a5 a6
      ·exact l.hdisj (.m q) b (by rw[ah];simp) (by simp[hb'])
    split at hr
    ·rename_i hd;simp only[Option.bind_eq_some_iff]at hr;obtain⟨z,hz,hk⟩:=hr;refine call hz fun W S X' F' w' hR _ _ _ aj ak=> ?_;have H:=hK (X4 W) w' X' F' _ hk;rw[hd]at H⊢;exact H hR.drop aj ak
    ·rename_i d hd;split at hr
     ·cases hr
     ·rename_i hdn;simp only[Oba,Nat.blt_eq,Bool.not_eq_true']at hdn;simp only[Option.bind_eq_some_iff]at hr;obtain⟨z,hz,hk⟩:=hr;refine call hz fun W S X' F' w' hR Y a7 hB aj ak=> ?_;obtain⟨BL,hP,p⟩:=a7;have I:=Zz1 (as:=e.args) (x:=z.2) hdn.1.1 (Z6g hdn.2);have au: ∃F' s',k s'=some r/\R n W0 w' X' F' [] s' (a.put (some d) (X4 W)):=by
       generalize Qtq e.args z.2 rs (Zor rs s1)=s3 at hR I hk;generalize z.1=zz at Y hP hk;revert zz;generalize e.res=rk;intro zz Y hP hk;cases rk with
       |vals ts=>
        obtain⟨J,V⟩:=hR.putRes I hdn.1.2 (Qgf Y hB);exact⟨J,_,hk,V⟩
       |newb e2 T2=>
        obtain⟨b,c,rfl,rfl,G,t⟩:=Y;exact⟨_,_,hk,hR.put I hdn.1.2 ⟨b,c,[],rfl,rfl,G,by unfold rdF;exact Vn t (by simp)⟩⟩
       |shr ts=>
        obtain⟨rfl,t⟩:=Y;obtain⟨J,V⟩:=R.putSh (by simpa using hR) I hdn.1.2 t;exact⟨J,_,hk,V⟩
       |flg ts=>
        obtain⟨J,V⟩:=R.putF hR I hdn.1.2 (Qln Y hB);exact⟨J,_,hk,V⟩
       |fp T j p1 p2=>
        have Y:S=[]:=Y;subst Y;obtain⟨b,hb,rfl⟩:=hP;simp only[Q96]at hk;split at hk
        ·rename_i q a8;split at hk
         ·rename_i e2 U f y hg;split at hk
          ·rename_i hU;have hU:=Ode hU;subst hU;have hs:=hR.slots (.m q);rw[hg]at hs;obtain⟨b2,c2,S2,G,t,g3,g4⟩:=hs;have hv:=p j q b a8 hb;rw[hv]at G;simp only[Value.pointer.injEq,Osi,Addr.mk.injEq,and_true]at G;subst G;cases zz with
           |true=>exact⟨_,_,hk,hR.put I hdn.1.2 ⟨rfl,e2,U,f,y,b,S2,hg,t,rfl⟩⟩
           |false=>exact⟨_,_,hk,hR.put I hdn.1.2 ⟨rfl,e2,U,f,y,b,S2,hg,t,rfl⟩⟩
          ·cases hk
         ·cases hk
        ·cases hk
      obtain⟨J,s',hk,V⟩:=au;have H:=hK (X4 W) w' X' J _ hk;rw[hd]at H⊢;exact H V aj ak
end
end Go.Am
namespace Go.Am
open Go.RowKit
def noP(d:Nat):Tm->Bool| .ptr r _=> !(Nat.beq r d)| .aep r _ _=> !(Nat.beq r d)| .pls _ l=>l.all fun q=> !(Nat.beq q.1 d)| .cl _ l=>l.all fun q=> !(Nat.beq q d)| .gd _ _ t=>noP d t|_=>true
def Q94(s:St)(d:Nat):Bool:=s.env.all fun p=>noP d (s.get p.1)
theorem Qx4: ∀{l:List (Key×Tm)} {k:Key},Zf8 l k= .junk\/ ∃p∈l,p.1=k
 | [],k=> .inl rfl
 | (j,t)::r,k=>by
  rw[Z2];split
  ·rename_i e;exact .inr ⟨(j,t),by simp,e⟩
  ·rcases Qx4 (l:=r) (k:=k)with h| ⟨p,a,e⟩
   ·exact .inl h
   ·exact .inr ⟨p,by simp[a],e⟩
theorem Q7o{s:St}{d:Nat}(h:Q94 s d=true)(k:Key):noP d (s.get k)=true:=by
 unfold Q94 at h;rcases Qx4 (l:=s.env) (k:=k)with hk| ⟨p,a,rfl⟩
 ·unfold St.get;rw[hk];rfl
 ·exact List.all_eq_true.1 h p a
def Z8y(q:Nat):List (Key×Tm)->St->St
 | [],s=>s
 | (.m k,_)::r,s=>match s.get (.m k)with
  | .ptr q' _=>match Nat.beq q' q with
   |true=>Z8y q r (Y6 s k .junk)
   |false=>Z8y q r s
  |_=>Z8y q r s
 | (.c _ _,_)::r,s=>Z8y q r s
theorem Zx4{q k:Nat}{e:TypeId}{T:Ty}{f:Fl}{y:T.den}: ∀{l:List (Key×Tm)} {s:St},s.get (.m k)= .box e T f y->(Z8y q l s).get (.m k)= .box e T f y
 | [],s,h=>h
 | (.m j,_)::r,s,h=>by
  simp only[Z8y];split
  ·rename_i d p b;split
   ·refine Zx4 ?_;rw[Yp,if_neg]
    ·exact h
    ·intro a;simp only[Key.m.injEq]at a;subst a;rw[b]at h;cases h
   ·exact Zx4 h
  ·exact Zx4 h
 | (.c _ _,_)::r,s,h=>Zx4 (l:=r) h
def Q5v:St->List Operand->Option (TV×St)
 |s,[]=>some (⟨.unit,()⟩,s)
 |s,x::xs=>match Quz (op1 s [] x)with
  |some q=>match s.get (.m q)with
   | .box e T f y=>match f.live&&Q94 (Z8y q s.env s) q with
    |true=>match Q5v (Y6 (Z8y q s.env s) q (.shp T y)) xs with
     |some (⟨U,u⟩,s')=>some (⟨.pair (.sptr e T) U,(y,u)⟩,s')
     |none=>none
    |false=>none
   |_=>none
  |none=>none
def Zzy: (ts:List Ty)->(T:Ty)->T.den->Option (Jp ts)
 | [],.unit,_=>some ()
 | .sptr e t::ts,.pair a b,x=>match Ky (.sptr e t) a x.1,Zzy ts b x.2 with
  |some u,some us=>some (u,us)
  |_,_=>none
 |_,_,_=>none
def Zr8(s:St)(tg:Xo): (ts:List Ty)->List Operand->(T:Ty)->T.den->Option (Jp ts)
 |ts,[],T,y=>Zzy ts T y
 |t::ts,x::xs,T,y=>match Wi s (op1 s tg x) t,Zr8 s tg ts xs T y with
  |some u,some us=>some (u,us)
  |_,_=>none
 | [],_::_,_,_=>none
def Qxm(s:St)(tg:Xo)(x:Operand):Option (FuncId×TV):=
 match Ztc s (op1 s tg x)with
 |some ⟨.clo f T,_,y⟩=>some (f,⟨T,y⟩)
 |_=>none
def Q5t{ρ:Type}(Γ:Env)(n:Nat)(s:St)(tg:Xo)(dst:Option Nat)(c:FuncId×TV)(xs:List Operand)(k:St->Option ρ):Option ρ:=
 match Γ.find c.1 with
 |none=>none
 |some e=>match Zr8 s tg e.args xs c.2.1 c.2.2 with
  |none=>none
  |some us=>match dst with
   |none=>(e.F us).bind fun _=>k s
   |some d=>match Jy s d&&Nat.blt d n with
    |false=>none
    |true=>(e.F us).bind fun r=>k (Qb3 d s e.res r)
section
variable {P:Program} {g:K9} {W0:Zam g} {w w':World} {X X':Nat->Prop} {B B' n:Nat} {own:Bool} {s:St} {F:Key->List Nat} {a:Act} {H H':List Nat} {o:Oper} {tg:Xo} {τ:Tab} {gh:Nat->Value}
theorem Q8i{s2:St}{d:Nat}{t:Tm}{S0:List Nat}{v:Value}{S:List Nat}(ht:Z1g gh w w' s s2 F (Qg F (.m d) S0) a d t)(hX: ∀b,X b->X' b)(hw: ∀b,X b->w'.heap[b]? =w.heap[b]?)
  (hF: ∀k b,k≠ .m d->b∈F k->w'.heap[b]? =w.heap[b]?) (hS: ∀b∈S,w'.heap[b]? =w.heap[b]?): ∀{u:Tm},noP d u=true->
  vt gh w X B s F a v S u->vt gh w' X' B s2 (Qg F (.m d) S0) a v S u:=by
 intro u D o;have P: ∀{r:Nat} {p:List Nat} {v:Value} {U:Ty},(r=d-> ∀v U,Xi gh w s F a d p v U->Xi gh w' s2 (Qg F (.m d) S0) a d p v U)->Xi gh w s F a r p v U->Xi gh w' s2 (Qg F (.m d) S0) a r p v U:=by
  intro r p v U hk hv;by_cases c:r=d
  ·subst c;exact hk rfl _ _ hv
  ·exact Qsm ht c (fun b=>hF (.m r) b (by simpa using c)) hv
 induction u with
 |junk=>exact o
 |tup=>exact o
 |val T f x=>exact Zjy (s:=s) (F:=fun _=>[]) (a:=a) (v:=v) (t:= .val T f x) hX hw (by simp) hS (show vt gh w X B s (fun _=>[]) a v S (.val T f x)from o)
 |box e T f x=>exact Zjy (s:=s) (F:=fun _=>[]) (a:=a) (v:=v) (t:= .box e T f x) hX hw (by simp) hS (show vt gh w X B s (fun _=>[]) a v S (.box e T f x)from o)
 |shp T x=>exact Zjy (s:=s) (F:=fun _=>[]) (a:=a) (v:=v) (t:= .shp T x) hX hw (by simp) hS (show vt gh w X B s (fun _=>[]) a v S (.shp T x)from o)
 |ptr r p=>
  obtain⟨C,e,T,f,x,b,J,z,E,H⟩:=o;have c:d≠r:=fun e=>by subst e;simp[noP,Nat.beq_refl]at D
  exact⟨C,e,T,f,x,b,J,by rw[ht.get];simp[c,z],by simp[Qg,Ne.symm c,E],H⟩
 |aep r p i=>
  obtain⟨C,e,T,f,x,b,J,n,L,y,z,E,H,M⟩:=o;have c:d≠r:=fun e=>by subst e;simp[noP,Nat.beq_refl]at D
  exact⟨C,e,T,f,x,b,J,n,L,y,by rw[ht.get];simp[c,z],by simp[Qg,Ne.symm c,E],H,M⟩
 |bor r p=>
  obtain⟨C,z⟩:=o;refine⟨C,fun A=> ?_⟩;obtain⟨A,G⟩:=ht.bad r p A;obtain⟨U,h⟩:=z A;exact⟨U,P G h⟩
 |elp r p i q=>
  obtain⟨C,z⟩:=o;refine⟨C,fun A=> ?_⟩;obtain⟨A,G⟩:=ht.bad r p A;obtain⟨e,L,I,n,K,h,E,H,M⟩:=z A;exact⟨e,L,I,n,K,P G h,E,H,M⟩
 |bel r p i q=>
  obtain⟨C,z⟩:=o;refine⟨C,fun A Q=> ?_⟩;obtain⟨Q,c⟩:=ht.el r (St.bad_foul A) Q;obtain⟨A,G⟩:=ht.bad r p A;obtain⟨e,L,I,n,K,x0,y,cs,h,k1,k2,k3,k4,k5,k6,k7⟩:=z A Q;have N: ∀m,(I.add m).block=I.block:=fun m=>by unfold Addr.add;split<;>rfl
  exact⟨e,L,I,n,K,x0,y,cs,P G h,k1,k2,by simpa[Qg,c]using k3,k4,k5,k6,fun j u G=>by
   rw[World.cell?_of_block (w:=w) (by rw[N];exact hF (.m r) _ (by simpa using c) k3)];exact k7 j u G⟩
 |cl f l=>
  obtain⟨C,V,z,E,H⟩:=o;refine⟨C,V,z,E,fun j q O=> ?_⟩;obtain⟨u,o,e,T,f,x,b,J,W,Y,Z⟩:=H j q O;have c:d≠q:=fun e=>by
   have:=List.all_eq_true.1 (show l.all (fun q=> !(Nat.beq q d))=true from D) q (List.mem_of_getElem? O);simp[e]at this
  exact⟨u,o,e,T,f,x,b,J,by rw[ht.get];simp[c,W],by simp[Qg,Ne.symm c,Y],Z⟩
 |pls hh l=>
  obtain⟨C,I,V,z,E,H,M,h5⟩:=o;refine⟨C,I,V,hX _ z,fun j u G=> ?_,H,fun j q O=> ?_,h5⟩
  ·have N: (I.add j).block=I.block:=by unfold Addr.add;split<;>rfl
   rw[World.cell?_of_block (w:=w) (by rw[N];exact hw _ z)];exact E j u G
  ·obtain⟨u,o,e,T,f,x,b,J,W,Y,Z⟩:=M j q O;have c:d≠q.1:=fun e=>by
    have:=List.all_eq_true.1 (show l.all (fun q=> !(Nat.beq q.1 d))=true from D) q (List.mem_of_getElem? O);simp[e]at this
   exact⟨u,o,e,T,f,x,b,J,by rw[ht.get];simp[c,W],by simp[Qg,Ne.symm c,Y],Z⟩
 |gd g aa u ih=>
  intro A;obtain⟨A,G⟩:=ht.foul g A;obtain⟨C,z,E⟩:=o A;refine⟨?_,fun N=>ih D (z N),E⟩;by_cases hg:g=d
  ·subst hg;exact G rfl
  ·rw[ht.get];simpa[Ne.symm hg]using C
theorem R.frzB(hs0:g.soft=false)(h:R n W0 w X F H s a){k:Nat}{e:TypeId}{T:Ty}{f:Fl}{x:T.den}(hg:s.get (.m k)= .box e T f x)(hf:f.live=true)(hp:Q94 s k=true):
  R n W0 w (fun b=>X b\/b∈F (.m k)) (Qg F (.m k) []) H (Y6 s k (.shp T x)) a/\ ∃b c,Qp W0.gh a (.m k)= .pointer (some ⟨b,0,none⟩)/\b∈F (.m k)/\w.heap[b]? =some (.cells c e (0,0))/\rd w (fun b=>X b\/b∈F (.m k)) W0.B false T x c.toList []:=by
 have y:=h.slots (.m k);rw[hg]at y;obtain⟨b,c,D,o,q,t,A⟩:=y;have z:rd w (fun b=>X b\/b∈F (.m k)) W0.B false T x c.toList []:=K6 (fun b l=> .inl l) hf A fun b l=> .inr (by rw[q];simp[l]);have l:b∈F (.m k):=by rw[q];simp
 refine⟨?_,b,c,o,l,t,z⟩;exact
 {size:=h.size
  defers:=h.defers
  below:=h.below
  glob:=h.glob
  gx:=fun b l=> .inl (h.gx b l)
  xs:=fun e=>by rw[hs0]at e;cases e
  fix:=h.fix
  xlt:=fun b l=>l.elim (h.xlt b) fun l=>(h.own _ b l).2.1
  xin:=fun b l=>l.elim (h.xin b) fun l=> .inr (h.own _ b l).1
  x0:=fun b l=> .inl (h.x0 b l)
  own:=fun j b l=>by
   simp only[Qg]at l;split at l
   ·cases l
   ·rename_i r;obtain⟨o,q,t⟩:=h.own j b l;exact⟨o,q,fun hx=>hx.elim t fun hk=>r (h.disj j (.m k) b l hk)⟩
  nodup:=fun j=>by
   simp only[Qg];split
   ·simp
   ·exact h.nodup j
  disj:=fun j C b l p=>by
   simp only[Qg]at l p;split at l
   ·cases l
   ·split at p
    ·cases p
    ·exact h.disj j C b l p
  hown:=fun b l=>let⟨o,q,t⟩:=h.hown b l;⟨o,q,fun hx=>hx.elim t fun hk=>h.hdisj _ b hk l⟩
  hnodup:=h.hnodup
  hdisj:=fun j b l=>by
   simp only[Qg]at l;split at l
   ·cases l
   ·exact h.hdisj j b l
  comps:=fun d i v=>by
   rw[Yp]at v⊢;simp only[reduceCtorEq,if_false]at v;obtain⟨o,q⟩:=h.comps d i v;by_cases e:k=d
   ·subst e;rw[hg]at o;cases o
   ·exact⟨by simpa[e]using o,q⟩
  slots:=fun j=>by
   by_cases r:j= .m k
   ·subst r;rw[Yp];simp only[if_true,Qg];refine⟨rfl,⟨b,0,none⟩,c.toList,o,.inr l,fun j u r=> ?_,Vn z (by simp)⟩;rw[Zhk w t,<-Array.getElem?_toList,Nat.zero_add];exact r
   ·have e:Qg F (.m k) [] j=F j:=by simp[Qg,r]
    rw[Yp,e];simp only[Ne.symm r,if_false];exact Q8i Qkr (fun _ h=> .inl h) (fun _ _=>rfl) (fun _ _ _ _=>rfl) (fun _ _=>rfl) (Q7o hp j) (h.slots j)}
theorem Zs1{q:Nat}: ∀{l:List (Key×Tm)} {s:St} {F:Key->List Nat},R n W0 w X F H s a-> ∃F',R n W0 w X F' H (Z8y q l s) a
 | [],s,F,h=>⟨F,h⟩
 | (.m k,_)::r,s,F,h=>by
  simp only[Z8y];split
  ·rename_i i p g;split
   ·exact Zs1 (h.turn (S':=[]) (H':=H) h.below (Nat.le_refl _) (fun _ _=>rfl) (fun _ _ _ _=>rfl) (fun b d=>by simpa using .inr d) (by simpa using h.hnodup) (by rw[g];simp) (fun e T f x b S d j=>by rw[g]at d;cases d) rfl)
   ·exact Zs1 h
  ·exact Zs1 h
 | (.c _ _,_)::r,s,F,h=>Zs1 (l:=r) h
theorem Qo8(hs0:g.soft=false): ∀{xs:List Operand} {s s':St} {X:Nat->Prop} {F:Key->List Nat} {U:TV},R n W0 w X F H s a->Q5v s xs=some (U,s')->
  ∃X' F',R n W0 w X' F' H s' a/\(∀b,X b->X' b)/\rd w X' W0.B false U.1 U.2 (xs.map a.eval) []
 | [],s,s',X,F,U,h,d=>by
  simp only[Q5v,Osi,Opi]at d;obtain⟨rfl,rfl⟩:=d;exact⟨X,F,h,fun _ h=>h,rfl,rfl⟩
 |x::xs,s,s',X,F,U,h,d=>by
  simp only[Q5v]at d;split at d
  ·rename_i q o;split at d
   ·rename_i e T f y m;split at d
    ·rename_i i;simp only[Oba]at i;split at d
     ·rename_i E G I hk;simp only[Osi,Opi]at d;obtain⟨rfl,rfl⟩:=d;obtain⟨J,p⟩:=Zs1 (q:=q) (l:=s.env) h;obtain⟨r,b,c,t,u,v,z⟩:=R.frzB hs0 p (Zx4 m) i.1 i.2;obtain⟨X',F',A,j,C⟩:=Qo8 hs0 r hk;refine⟨X',F',A,fun b D=>j b (.inl D),?_⟩;have k:=Zw9 h o m;exact⟨[_],_,[],[],rfl,rfl,⟨rfl,rfl,b,c,by rw[k,t],j b (.inr u),v,Zdd j (fun _ _=>rfl) z (by simp)⟩,C⟩
     ·cases d
    ·cases d
   ·cases d
  ·cases d
theorem Qsq{X:Nat->Prop}(hX: ∀b,X b->b<w.heap.size){ts:List Ty}: ∀{T:Ty} {y:T.den} {us:Jp ts} {cs:List Value},Zzy ts T y=some us->rd w X B false T y cs []->Zq5 w (· <w.heap.size) 0 ts us cs:=by
 induction ts with
 |nil=>
  intro T y us cs c d;cases T<;>first
   |exact d.1
   | (simp[Zzy]at c;done)
 |cons t ts h=>
  intro T y us cs c d;cases t<;>first
   | (simp[Zzy]at c;done)
   |skip
  cases T<;>first
   | (simp[Zzy]at c;done)
   |skip
  rename_i e t a b;obtain⟨i,j,k,l,m,n,p,q⟩:=d;simp only[Zzy]at c;split at c
  ·rename_i u r s f;simp only[Osi]at c;subst c;have:=Zb5 s;obtain⟨E,F⟩:=y;cases this;have v:k=[]/\l=[]:=by simpa using n.symm
   obtain⟨rfl,rfl⟩:=v;obtain⟨_,o,x,z,g,A,C,D⟩:=p;refine⟨i,j,by rw[m,g];rfl,?_,h f q⟩;exact Vn (Zdb (Nat.zero_le _) hX ⟨rfl,o,x,z,g,A,C,D⟩) (by simp)
  ·cases c
theorem Z1t{Y:Nat->Prop}(hY: ∀b,Y b->b<w.heap.size)(h:R n W0 w X F H s a)(ht:tg.ok W0.gh a): ∀{ts:List Ty} {xs:List Operand} {T:Ty} {y:T.den} {us:Jp ts} {cs:List Value},Zr8 s tg ts xs T y=some us->rd w Y B false T y cs []->Zq5 w (· <w.heap.size) 0 ts us (xs.map a.eval++cs)
 |ts,[],T,y,us,cs,c,d=>Qsq hY (by simpa[Zr8]using c) d
 |t::ts,x::xs,T,y,us,cs,c,d=>by
  simp only[Zr8]at c;split at c
  ·rename_i u g i e;simp only[Osi]at c;subst c;obtain⟨f,j,k⟩:=W5 h ht i;exact⟨f,_,by simp[j],Zdb (Nat.zero_le _) (fun _ h=>h) k,Z1t hY h ht e d⟩
  ·cases c
 | [],_::_,_,_,_,_,c,_=>by simp[Zr8]at c
theorem Qxn(h:R n W0 w X F H s a)(ht:tg.ok W0.gh a){x:Operand}{f:FuncId}{U:TV}(hf:Qxm s tg x=some (f,U)): ∃cs:List Value,a.eval x= .func (.func f) #[] cs.toArray/\ ∃S:List Nat,rd w (fun b=>X b\/b∈S) W0.B false U.1 U.2 cs []/\ ∀b∈S,b<w.heap.size:=by
 unfold Qxm at hf;split at hf
 ·rename_i o T p y d;simp only[Osi,Opi]at hf;obtain⟨rfl,rfl⟩:=hf;obtain⟨c,q,S,e,g,i⟩:=Zfa h ht d;obtain⟨_,cs,j,l⟩:=K6 (X':=fun b=>X b\/b∈S) (fun _ h=> .inl h) c g (fun _ h=> .inr h);exact⟨cs,by rw[e,j];rfl,S,l,fun b m=>let⟨k,hk⟩:=i b m;(h.own k b hk).2.1⟩
 ·cases hf
theorem Qk3{Γ:Env}(hΓ:Γ.ok P g)(h:R n W0 w X F H s a)(ht:tg.ok W0.gh a){f:FuncId}{U:TV}{fo:Operand}(hfo:Qxm s tg fo=some (f,U)){xs:Array Operand}{ats:Array TypeId}(ho:o.op= .call {callee:= .value fo,args:=xs,argTypes:=ats}){e:FnE}(he:Γ.find f=some e)
  {us:Jp e.args} (hus:Zr8 s tg e.args xs.toList U.1 U.2=some us) {rv:Jp e.res} (hpre:e.F us=some rv) {K:Act->World->Prop} {Q:Exit->Act->World->Prop}
  (hK: ∀rs S w',R n W0 w' X F (S++H) s a->Zfd w' W0.B e.res rv rs S->Old w w'->K (a.put o.dst (X4 rs)) w'):o.wp P a w K Q:=by
 obtain⟨C,j⟩:=Env.find_ok hΓ he;subst C;obtain⟨l,hfo,J,u,v⟩:=Qxn h ht hfo;have D:=j.calls w us rv (xs.toList.map a.eval++l) h.glob (Z1t (fun b hb=>hb.elim (h.xlt b) (v b)) h ht hus u) hpre;have m: (execOp a.eval o).run P w= .ok (.enter e.f (xs.toList.map a.eval++l).toArray) w:=by
  have:execOp a.eval o=callFunc e.f (xs.map a.eval++l.toArray):=by
   simp only[execOp,ho,resolve,hfo,Deferred.ofValue];simp[invoke]
  rw[this,j.enters];congr 2;apply Array.toList_inj.mp;simp
 unfold Oper.wp;rw[m,Oper.upon_enter];refine D.mono fun L w' ⟨rs,S,y,p,z,q⟩=> ?_;subst y;show K (a.put o.dst (X4 rs)) w';have r: ∀{i:List Ty} {x:Jp i} {rs:List Value} {S:List Nat},Zfd w' w.heap.size i x rs S->(∀b∈S,w.heap.size<=b/\b<w'.heap.size)/\Zfd w' W0.B i x rs S:=by
  intro i
  induction i with
  |nil=>intro x rs S h;exact⟨by simp[h.2],h⟩
  |cons t i E=>
   intro x rs S ⟨l,us,S1,S2,e1,e2,g1,g2⟩;obtain⟨G,I⟩:=E g2;refine⟨fun b hb=> ?_,l,us,S1,S2,e1,e2,Zdb h.below.sizeB (fun _ h=>h) g1,I⟩;rw[e2]at hb;rcases List.mem_append.1 hb with hb|hb
   ·exact Zt7 g1 b hb
   ·exact G b hb
 obtain⟨c,d⟩:=r p;exact hK rs S w' ((h.below' q).hand (fun b hb=>⟨.inl (Nat.le_trans h.below.size (c b hb).1),(c b hb).2,fun hx=>by have:=h.xlt b hx;have:=(c b hb).1;omega⟩) z
  (fun k b hb A=>by have:=(h.own k b hb).2.1;have:=(c b A).1;omega) (fun b hb A=>by have:=(h.hown b A).2.1;have:=(c b hb).1;omega)) d (fun k hk=>q.block k hk)
theorem Qxi{ρ:Type}{Γ:Env}(hΓ:Γ.ok P g)(h:R n W0 w X F H s a)(ht:tg.ok W0.gh a){c:FuncId×TV}{fo:Operand}(hfo:Qxm s tg fo=some c){xs:Array Operand}{ats:Array TypeId}(ho:o.op= .call {callee:= .value fo,args:=xs,argTypes:=ats}){k:St->Option ρ}{r:ρ}(hr:Q5t Γ n s tg o.dst c xs.toList k=some r)
  {K:Act->World->Prop} {Q:Exit->Act->World->Prop} (hK: ∀v w' F' s',k s'=some r->R n W0 w' X F' H s' (a.put o.dst v)->Old w w'->K (a.put o.dst v) w'):o.wp P a w K Q:=by
 unfold Q5t at hr;split at hr
 ·cases hr
 ·rename_i e q;split at hr
  ·cases hr
  ·rename_i u j;cases hd:o.dst with
   |none=>
    rw[hd]at hr;simp only[Option.bind_eq_some_iff]at hr;obtain⟨t,i,hk⟩:=hr;refine Qk3 hΓ h ht hfo ho q j i fun l S w' m b hold=> ?_;have f:=hK (X4 l) w' F s hk;rw[hd]at f⊢;exact f m.drop hold
   |some d=>
    rw[hd]at hr;simp only at hr;split at hr
    ·cases hr
    ·rename_i hdn;simp only[Oba,Nat.blt_eq]at hdn;simp only[Option.bind_eq_some_iff]at hr;obtain⟨t,i,hk⟩:=hr;refine Qk3 hΓ h ht hfo ho q j i fun l S w' m b hold=> ?_;obtain⟨F',p⟩:=m.putRes hdn.1 hdn.2 b;have f:=hK (X4 l) w' F' _ hk;rw[hd]at f⊢;exact f p hold
end
end Go.Am
namespace Go.Am
open Go.RowKit
def Zso:Ty->Bool| .int _=>true| .bool=>true| .str=>true|_=>false
def Z0l:Ty->Bool| .unit=>true| .hid t=>Zso t| .slice _ t=>Z0l t| .pair a b=>Z0l a&&Z0l b| .arr _ t=>Z0l t|_=>false
def Zxt:Ty->Bool| .unit| .int _| .bool| .str| .fnc _| .err=>true| .hid t=>Zso t| .slice _ t=>Z0l t| .pair a b=>Zxt a&&Zxt b| .arr _ t=>Zxt t| .sptr .. =>false| .clo .. =>false
def Zxs:Tm->Bool
 | .val T (.u false) _=>Zxt T
 | .val T f _=>match f with
  | .d=>true
  | .u _=>T.flat
  | .p _ _=>false
 | .box _ T (.u false) _=>Zxt T
 | .box _ T f _=>match f with
  | .d=>true
  | .u _=>T.flat
  | .p _ _=>false
 | .shp T _=>Z0l T
 | .pls _ _=>false
 | .gd _ _ t=>Zxs t
 |_=>true
def Qfb(s:St):Bool:=s.env.all fun p=>Zxs p.2
def Z43:List Value->List Value->Prop| [],vs=>vs=[]|u::us,vs=> ∃v r,vs=v::r/\Zza u v/\Z43 us r
theorem Qj7: ∀{a b c:List Value},Z43 (a++b) c-> ∃c1 c2,c=c1++c2/\Z43 a c1/\Z43 b c2
 | [],b,c,h=>⟨[],c,rfl,rfl,h⟩
 |u::a,b,c,⟨v,r,e,d,f⟩=>by
  obtain⟨c1,c2,rfl,g,i⟩:=Qj7 f;exact⟨v::c1,c2,e,⟨v,c1,rfl,d,g⟩,i⟩
theorem Qj8: ∀{a c:List Value},Z43 a c->c.length=a.length
 | [],c,h=>by rw[show c=[]from h]
 |u::a,c,⟨v,r,e,_,b⟩=>by rw[e];simp[Qj8 b]
def Zx9:Ty->Ty| .int k=> .hid (.int k)| .bool=> .hid .bool| .str=> .hid .str| .slice e t=> .slice e (Zx9 t)| .pair a b=> .pair (Zx9 a) (Zx9 b)| .arr n t=> .arr n (Zx9 t)|T=>T
def Qlc: (T:Ty)->T.den->(Zx9 T).den| .int _,_=>()| .bool,_=>()| .str,_=>()| .slice _ t,x=>List.map (Qlc t) x| .pair a b,x=>(Qlc a x.1,Qlc b x.2)| .arr _ t,x=>List.map (Qlc t) x| .unit,_=>()| .fnc _,_=>()| .err,x=>x| .hid _,_=>()| .sptr _ _,x=>x| .clo _ _,x=>x
def Ztr:Ty->Bool| .unit| .int _| .bool| .str=>true| .slice _ t=>Ztr t| .pair a b=>Ztr a&&Ztr b| .arr _ t=>Ztr t|_=>false
theorem Z0c: ∀T:Ty,(Zx9 T).size=T.size
 | .pair a b=>by simp[Zx9,Ty.size,Z0c a,Z0c b]
 | .arr n t=>by simp[Zx9,Ty.size,Z0c t]
 | .int _| .bool| .str| .slice .. | .unit| .fnc _| .err| .hid _| .sptr .. | .clo .. =>rfl
structure FnW where
 f:FuncId
 args:List Ty
 res:List Ty
 F:Jp args->Option (Jp res)
structure Q1v(P:Program)(e:FnW):Prop where
 enters: ∀args w,(callFunc e.f args).run P w= .ok (.enter e.f args) w
 calls: ∀(w:World) (L:Nat->Prop) (xs:Jp e.args) (r:Jp e.res) (vals:List Value),(∀b,L b->Zt6 w b)->Zq5 w L 0 e.args xs vals->e.F xs=some r->
  Calls P e.f vals.toArray w fun en w'=> ∃rs S,en= .returned (X4 rs)/\Zfd w' w.heap.size e.res r rs S/\S.Nodup/\
   w'.os=w.os/\w'.tape=w.tape/\w'.output=w.output/\w.heap.size<=w'.heap.size/\(∀b,b<w.heap.size-> ¬L b->w'.heap[b]? =w.heap[b]?)/\Zn4 L w w'/\ ∀b,L b->Zt6 w' b
abbrev Zx3:=List FnW
def Zx3.find(Γ:Zx3)(f:FuncId):Option FnW:=
 match Γ with
 | []=>none
 |e::r=>match Nat.beq e.f f with|true=>some e|false=>Zx3.find r f
def Zx3.ok(Γ:Zx3)(P:Program):Prop:= ∀e∈Γ,Q1v P e
theorem Zx3.find_ok{Γ:Zx3}{P:Program}(h:Γ.ok P){f:FuncId}{e:FnW}(he:Γ.find f=some e):e.f=f/\Q1v P e:=by
 induction Γ with
 |nil=>cases he
 |cons x r a=>
  simp only[Zx3.find]at he;split at he
  ·rename_i b;simp only[Osi]at he;subst he;exact⟨Onb b,h _ (by simp)⟩
  ·exact a (fun e he=>h e (by simp[he])) he
section
variable {P:Program} {g:K9} {W0:Zam g} {w w':World} {X X':Nat->Prop} {B B' n:Nat} {own:Bool} {s:St} {F:Key->List Nat} {a:Act} {H H':List Nat} {o:Oper} {tg:Xo} {τ:Tab} {gh:Nat->Value}
theorem Q3x(ad:Addr)(j:Nat): (ad.add j).block=ad.block:=by unfold Addr.add;split<;>rfl
theorem Xfj(ad:Addr)(i j:Nat): (ad.add i).add j=if j=0 then ad.add i else ad.add (i+j):=by
 unfold Addr.add;by_cases a:i=0<;>by_cases b:j=0<;>simp[a,b,Nat.add_assoc]
theorem Z9j(hso:Zn4 X w w'){ad:Addr}(hX:X ad.block): ∀{xs:List Value} {i:Nat},(∀j u,xs[j]? =some u->w.cell? (ad.add (i+j))=some u)->
  ∃xs',Z43 xs xs'/\ ∀j u,xs'[j]? =some u->w'.cell? (ad.add (i+j))=some u
 | [],i,_=>⟨[],rfl,by simp⟩
 |x::xs,i,h=>by
  obtain⟨v,b,c⟩:=hso (ad.add i) x (by rw[Q3x];exact hX) (h 0 x rfl);obtain⟨xs',d,e⟩:=Z9j hso hX (xs:=xs) (i:=i+1) fun j u a=>by
   have:=h (j+1) u (by simpa using a);rw[show i+1+j=i+ (j+1) by omega];exact this
  refine⟨v::xs',⟨v,xs',rfl,c,d⟩,fun j u a=> ?_⟩;cases j with
  |zero=>simp only[List.getElem?_cons_zero,Osi]at a;subst a;exact b
  |succ j=>
   have:=e j u (by simpa using a);rw[show i+ (j+1)=i+1+j by omega];exact this
theorem Qx7(hso:Zn4 X w w'){e:TypeId}{sz n:Nat}{v:Value}{xs:List Value}{S:List Nat}(h:hdr w X B false e sz n v xs S): ∃xs',Z43 xs xs'/\hdr w' X B false e sz n v xs' S:=by
 obtain⟨d,a,r,b,f,g,k,o⟩:=h;rcases o with⟨rfl,rfl,rfl⟩| ⟨c,rfl,h7,p⟩
 ·have:xs=[]:=List.eq_nil_of_length_eq_zero (by simpa using a);subst this;exact⟨[],rfl,d,a,none,0,f,g,k,.inl ⟨rfl,rfl,rfl⟩⟩
 ·rcases h7 with rfl|h7
  ·have:xs=[]:=List.eq_nil_of_length_eq_zero (by simpa using a);subst this;exact⟨[],rfl,d,a,some c,b,f,g,k,.inr ⟨c,rfl,.inl rfl,by simp⟩⟩
  ·obtain⟨xs',m,q⟩:=Z9j hso h7 (xs:=xs) (i:=0) (fun j u l=>by rw[Nat.zero_add];exact p j u l);exact⟨xs',m,d,by rw[Qj8 m,a],some c,b,f,g,k,.inr ⟨c,rfl,.inr h7,fun j u l=>by have:=q j u l;rwa [Nat.zero_add]at this⟩⟩
theorem Z6m{α:Type}{r r':α->List Value->List Nat->Prop}(hr: ∀x v v' T,r x v T->Z43 v v'->r' x v' T): ∀{xs:List α} {vs vs':List Value} {S:List Nat},Zaj r xs vs S->Z43 vs vs'->Zaj r' xs vs' S
 | [],vs,vs',S,h,a=>by
  obtain⟨rfl,rfl⟩:=h;exact⟨a,rfl⟩
 |x::xs,vs,vs',S,⟨m,n,b,c,d,e,f,g⟩,a=>by
  rw[d]at a;obtain⟨i,j,rfl,k,l⟩:=Qj7 a;exact⟨i,j,b,c,rfl,e,hr _ _ _ _ f k,Z6m hr g l⟩
theorem Qzb{t:Ty}(ht:Zso t=true){y:t.den}{vs vs':List Value}{S:List Nat}(h:rd w X B false t y vs S)(hs:Z43 vs vs'): ∃y',rd w' X' B false t y' vs' S:=by
 cases t<;>simp[Zso]at ht
 case int k=>
  obtain⟨rfl,rfl⟩:=h;obtain⟨v,r,rfl,c,d⟩:=hs;obtain rfl:r=[]:=d;rcases c with rfl| ⟨f,a,b,e,rfl⟩| ⟨a,b,e,rfl⟩| ⟨a,b,e,rfl⟩
  ·exact⟨y,rfl,rfl⟩
  ·simp only[Value.int.injEq]at e;obtain⟨rfl,rfl⟩:=e;exact⟨b,rfl,rfl⟩
  ·cases e
  ·cases e
 case bool=>
  obtain⟨rfl,rfl⟩:=h;obtain⟨v,r,rfl,c,d⟩:=hs;obtain rfl:r=[]:=d;rcases c with rfl| ⟨f,a,b,e,rfl⟩| ⟨a,b,e,rfl⟩| ⟨a,b,e,rfl⟩
  ·exact⟨y,rfl,rfl⟩
  ·cases e
  ·exact⟨b,rfl,rfl⟩
  ·cases e
 case str=>
  obtain⟨rfl,rfl⟩:=h;obtain⟨v,r,rfl,c,d⟩:=hs;obtain rfl:r=[]:=d;rcases c with rfl| ⟨f,a,b,e,rfl⟩| ⟨a,b,e,rfl⟩| ⟨a,b,e,rfl⟩
  ·exact⟨y,rfl,rfl⟩
  ·cases e
  ·cases e
  ·exact⟨b.data.toList,rfl,rfl⟩
theorem Zy3(hso:Zn4 X w w'): ∀{T:Ty} {x:T.den} {vs vs':List Value} {S:List Nat},Z0l T=true->rd w X B false T x vs S->Z43 vs vs'->rd w' X B false T x vs' S
 | .unit,_,_,_,_,_,⟨f,g⟩,d=>by subst f;exact⟨d,g⟩
 | .hid t,_,vs,vs',_,c,⟨e,y,h⟩,d=>let⟨y',j⟩:=Qzb c h d;⟨(Qj8 d).trans e,y',j⟩
 | .slice _ t,_,_,_,_,c,⟨v,D,k,l,e,m,f,g⟩,d=>by
  subst e;obtain⟨i,r,rfl,o,p⟩:=d;obtain rfl:r=[]:=p;obtain⟨E,s,hv,_⟩:=Zc8 f;have:i=v:=by
   rcases o with rfl| ⟨_,_,_,e,_⟩| ⟨_,_,e,_⟩| ⟨_,_,e,_⟩
   ·rfl
   ·rw[hv]at e;cases e
   ·rw[hv]at e;cases e
   ·rw[hv]at e;cases e
  subst this;obtain⟨q,u,z⟩:=Qx7 hso f;exact⟨i,q,k,l,rfl,m,z,Z6m (r:=rd w X B false t) (r':=rd w' X B false t) (fun x v i T h d=>Zy3 (T:=t) hso c h d) g u⟩
 | .pair a b,_,_,_,_,c,⟨F,G,k,l,e,m,f,g⟩,d=>by
  simp only[Z0l,Oba]at c;rw[e]at d;obtain⟨A,C,rfl,o,p⟩:=Qj7 d;exact⟨A,C,k,l,rfl,m,Zy3 hso c.1 f o,Zy3 hso c.2 g p⟩
 | .arr n t,_,_,_,_,c,⟨h,j⟩,d=>⟨h,Z6m (r:=rd w X B false t) (r':=rd w' X B false t) (fun x v i T h d=>Zy3 (T:=t) hso c h d) j d⟩
 | .int _,_,_,_,_,c,_,_| .bool,_,_,_,_,c,_,_| .str,_,_,_,_,c,_,_| .fnc _,_,_,_,_,c,_,_| .err,_,_,_,_,c,_,_| .sptr ..,_,_,_,_,c,_,_| .clo ..,_,_,_,_,c,_,_=>by simp[Z0l]at c
theorem Qgh(hso:Zn4 X w w'): ∀{T:Ty} {x:T.den} {vs:List Value} {S:List Nat},Zxt T=true->rd w X B false T x vs S->rd w' X B false T x vs S
 | .unit,_,_,_,_,h| .int _,_,_,_,_,h| .bool,_,_,_,_,h| .str,_,_,_,_,h| .fnc _,_,_,_,_,h| .err,_,_,_,_,h=>h
 | .hid t,_,_,_,c,⟨e,y,h⟩=>by
  refine⟨e,y,?_⟩;cases t<;>simp[Zxt,Zso]at c<;>exact h
 | .slice _ t,_,_,_,c,⟨v,u,d,f,e,g,i,j⟩=>by
  obtain⟨k,l,m⟩:=Qx7 hso i;exact⟨v,k,d,f,e,g,m,Z6m (r:=rd w X B false t) (r':=rd w' X B false t) (fun x v z T h o=>Zy3 (T:=t) hso c h o) j l⟩
 | .pair a b,_,_,_,c,⟨p,q,d,f,e,g,i,j⟩=>by
  simp only[Zxt,Oba]at c;exact⟨p,q,d,f,e,g,Qgh hso c.1 i,Qgh hso c.2 j⟩
 | .arr n t,_,_,_,c,⟨h,s⟩=>⟨h,Kq s fun _ _ _ _ _ h=>Qgh (T:=t) hso c h⟩
 | .sptr ..,_,_,_,c,_| .clo ..,_,_,_,c,_=>by simp[Zxt]at c
theorem Qux(hso:Zn4 X w w'){T:Ty}{f:Fl}{x:T.den}{vs:List Value}{S:List Nat}(hl: (match f with| .u false=>Zxt T| .d=>true| .u true=>T.flat| .p _ _=>false)=true)(h:rdF w X B T f x vs S):rdF w' X B T f x vs S:=by
 cases f with
 |d=>unfold rdF at*;exact h
 |p _ _=>simp at hl
 |u b=>
  cases b
  ·unfold rdF at*;exact Qgh hso hl h
  ·unfold rdF at*
   obtain⟨rfl,k⟩:=Zoh (w':=w') (X':=X) (B':=B) (own':=true) hl h;exact k
theorem Q3r(hso:Zn4 X w w')(hF: ∀k b,b∈F k->w'.heap[b]? =w.heap[b]?){v:Value}{S:List Nat}(hS: ∀b∈S,w'.heap[b]? =w.heap[b]?): ∀{t:Tm},Zxs t=true->
  vt gh w X B s F a v S t->vt gh w' X B s F a v S t
 | .junk,_,h| .tup,_,h=>h
 | .val T f x,z,⟨H,o,A⟩=>⟨H,o,Qux hso (by
   cases f with
   |u b=>cases b<;>simpa[Zxs]using z
   |d=>rfl
   |p _ _=>simp[Zxs]at z) A⟩
 | .box e T f x,z,⟨b,c,O,o,A,I,J⟩=>⟨b,c,O,o,A,by rw[hS b (by rw[A];simp)];exact I,Qux hso (by
   cases f with
   |u b=>cases b<;>simpa[Zxs]using z
   |d=>rfl
   |p _ _=>simp[Zxs]at z) J⟩
 | .ptr r p,_,h=>h
 | .aep r p i,_,h=>h
 | .pls W l,z,_=>by simp[Zxs]at z
 | .shp T x,z,⟨C,D,H,o,A,I,J⟩=>by
  obtain⟨K,L,M⟩:=Z9j hso A (xs:=H) (i:=0) (fun j u G=>by rw[Nat.zero_add];exact I j u G);exact⟨C,D,K,o,A,fun j u G=>by have:=M j u G;rwa [Nat.zero_add]at this,Zy3 hso z J L⟩
 | .bor r p,_,⟨C,o⟩=>⟨C,fun E=>let⟨U,h⟩:=o E;⟨U,Zj7 h (hF (.m r))⟩⟩
 | .elp r p i q,_,⟨C,o⟩=>⟨C,fun E=>let⟨e,t,D,n,cap,h,h'⟩:=o E;⟨e,t,D,n,cap,Zj7 h (hF (.m r)),h'⟩⟩
 | .cl f l,_,h=>h
 | .bel r p i q,_,⟨C,o⟩=>⟨C,fun E P=>let⟨e,t,D,n,cap,x0,y,cs,h,L,M,k3,k4,k5,k6,k7⟩:=o E P;⟨e,t,D,n,cap,x0,y,cs,Zj7 h (hF (.m r)),L,M,k3,k4,k5,k6,fun j u G=>by
   have Q: ∀m,(D.add m).block=D.block:=fun m=>by unfold Addr.add;split<;>rfl
   rw[World.cell?_of_block (w:=w) (by rw[Q];exact hF (.m r) _ k3)];exact k7 j u G⟩⟩
 | .gd g N t,z,h=>fun E=>let⟨C,o,A⟩:=h E;⟨C,fun V=>Q3r hso hF hS (by simpa[Zxs]using z) (o V),A⟩
theorem Qyn{s:St}(h:Qfb s=true)(k:Key):Zxs (s.get k)=true:=by
 unfold Qfb at h;unfold St.get;rw[List.all_eq_true]at h;generalize s.env=l at h
 induction l with
 |nil=>rfl
 |cons p r a=>
  obtain⟨j,t⟩:=p;rw[Z2];split
  ·exact h (j,t) (by simp)
  ·exact a fun p b=>h p (by simp[b])
theorem R.soft(h:R n W0 w X F H s a)(hl:Qfb s=true)(hG:g.G w')(hbl:W0.below w')(hsz:w.heap.size<=w'.heap.size)(hout: ∀b,b<w.heap.size-> ¬X b->w'.heap[b]? =w.heap[b]?)(hso:Zn4 X w w'):R n W0 w' X F H s a:=
 {h with
  below:=hbl
  glob:=hG
  xlt:=fun b c=>Nat.lt_of_lt_of_le (h.xlt b c) hsz
  own:=fun k b c=>let⟨h1,h2,h3⟩:=h.own k b c;⟨h1,Nat.lt_of_lt_of_le h2 hsz,h3⟩
  hown:=fun b c=>let⟨h1,h2,h3⟩:=h.hown b c;⟨h1,Nat.lt_of_lt_of_le h2 hsz,h3⟩
  slots:=fun k=>Q3r hso (fun k b d=>hout b (h.own k b d).2.1 (h.own k b d).2.2) (fun b d=>hout b (h.own k b d).2.1 (h.own k b d).2.2) (Qyn hl k) (h.slots k)}
end
end Go.Am
namespace Go.Am
open Go.RowKit
def Qj9(τ:Tab)(s:St)(e:TypeId)(x v:Operand):Option St:=
 match τ e with
 |none=>none
 |some T=>match op1 s [] x with
  | .tm _ (.shp (.hid t) _)=>match decide (t=T)&&Zso T&&Qfb s,Wi s (op1 s [] v) T with
   |true,some _=>some s
   |_,_=>none
  |_=>none
def Q3a(s:St)(T:Ty)(y:T.den)(rest:List Operand): (ts:List Ty)->Option (Jp ts)
 | []=>none
 |t::ts=>match Ky t (Zx9 T) (Qlc T y),Zoi s [] ts rest,Qqs ts with
  |some u,some us,true=>some (u,us)
  |_,_,_=>none
def Qwb:Tm->Option (TV×Tm)| .val T (.u true) y=>some (⟨T,y⟩,.val T .d y)| .box e T (.u true) y=>some (⟨T,y⟩,.box e T .d y)|_=>none
noncomputable def wrK{ρ:Type}(Γ:Zx3)(n:Nat)(s:St)(dst:Option Nat)(f:FuncId)(xs:List Operand)(k:St->Option ρ):Option ρ:=
 match Γ.find f,xs with
 |some e,x0::rest=>match Z00 s (op1 s [] x0)with
  |some q=>match Qwb (s.get (.m q))with
   |some (⟨T,y⟩,t)=>match Ztr T,Q3a s T y rest e.args,dst with
    |true,some us,some d=>match Jy (Y6 s q t) d&&Nat.blt d n with
     |true=>(e.F us).bind fun z=>k (Qb3 d (Y6 s q t) e.res z)
     |false=>none
    |_,_,_=>none
   |none=>none
  |none=>none
 |_,_=>none
def Z6l(s:St): (ts:List Ty)->List Operand->Option (Jp ts)
 | [],[]=>some ()
 |t::ts,x::xs=>match Qb6 s (op1 s [] x) t,Z6l s ts xs with
  |some u,some us=>some (u,us)
  |_,_=>none
 |_,_=>none
noncomputable def wsK{ρ:Type}(Γ:Zx3)(n:Nat)(s:St)(dst:Option Nat)(f:FuncId)(xs:List Operand)(k:St->Option ρ):Option ρ:=
 match Γ.find f,dst with
 |some e,some d=>match Z6l s e.args xs,Jy s d&&Nat.blt d n&&Qfb s with
  |some us,true=>(e.F us).bind fun z=>k (Qb3 d s e.res z)
  |_,_=>none
 |_,_=>none
section
variable {P:Program} {g:K9} {W0:Zam g} {w w':World} {X X':Nat->Prop} {B B' n:Nat} {own:Bool} {s:St} {F:Key->List Nat} {a:Act} {H H':List Nat} {o:Oper} {tg:Xo} {τ:Tab} {gh:Nat->Value}
theorem Qr5{α β:Type}{r:α->List Value->List Nat->Prop}{r':β->List Value->List Nat->Prop}{m:α->β}(hr: ∀x v S,r x v S->r' (m x) v S): ∀{xs:List α} {vs:List Value} {S:List Nat},Zaj r xs vs S->Zaj r' (xs.map m) vs S
 | [],_,_,h=>h
 |_::_,_,_,⟨a,b,c,d,e,f,g,i⟩=>⟨a,b,c,d,e,f,hr _ _ _ g,Qr5 hr i⟩
theorem Qgg: ∀{T:Ty} {x:T.den} {vs:List Value} {S:List Nat},Ztr T=true->rd w X B false T x vs S->rd w X B false (Zx9 T) (Qlc T x) vs S
 | .unit,_,_,_,_,h=>h
 | .int _,x,_,_,_,⟨c,d⟩=>⟨by rw[c];rfl,x,c,d⟩
 | .bool,x,_,_,_,⟨c,d⟩=>⟨by rw[c];rfl,x,c,d⟩
 | .str,x,_,_,_,⟨c,d⟩=>⟨by rw[c];rfl,x,c,d⟩
 | .slice _ t,x,_,_,hk,⟨v,j,f,g,e,i,c,d⟩=>by
  refine⟨v,j,f,g,e,i,?_,Qr5 (r:=rd w X B false t) (r':=rd w X B false (Zx9 t)) (fun _ _ _ h=>Qgg (T:=t) hk h) d⟩;rw[Z0c];simpa[Qlc]using c
 | .pair a b,_,_,_,hk,⟨k,l,f,g,e,i,c,d⟩=>by
  simp only[Ztr,Oba]at hk;exact⟨k,l,f,g,e,i,Qgg hk.1 c,Qgg hk.2 d⟩
 | .arr n t,x,_,_,hk,⟨h,m⟩=>⟨by simpa[Qlc]using h,Qr5 (r:=rd w X B false t) (r':=rd w X B false (Zx9 t)) (fun _ _ _ h=>Qgg (T:=t) hk h) m⟩
 | .fnc _,_,_,_,hk,_| .err,_,_,_,hk,_| .hid _,_,_,_,hk,_| .sptr ..,_,_,_,hk,_| .clo ..,_,_,_,hk,_=>by simp[Ztr]at hk
theorem Q4q{T:Ty}(vs:List Value):Xz (Zx9 T) vs=Xz T vs:=by cases T<;>rfl
theorem Z4y: ∀{T:Ty} {x:T.den} {vs:List Value} {S:List Nat},Ztr T=true->rd w X B true T x vs S-> ∀b∈S,Zt6 w b
 | .unit,_,_,_,_,h| .int _,_,_,_,_,h| .bool,_,_,_,_,h| .str,_,_,_,_,h=>by simp[h.2]
 | .slice _ t,x,_,_,hk,⟨v,s,j,k,e,c,d,f⟩=>by
  intro b hb;rw[c]at hb;rcases List.mem_append.1 hb with hb|hb
  ·obtain⟨l,m⟩:=d;rw[m]at hb;rcases l.2 with⟨rfl,_⟩| ⟨g,o,i,rfl,_,p,_⟩
   ·simp[Value.ownBlock]at hb
   ·simp only[Value.ownBlock,Option.toList_some,List.mem_singleton]at hb;subst hb;exact⟨i,_,p⟩
  ·exact Z42 (r:=rd w X B true t) (fun _ _ _ h=>Z4y (T:=t) hk h) f b hb
 | .pair a b,_,_,_,hk,⟨u,y,j,k,e,c,d,f⟩=>by
  simp only[Ztr,Oba]at hk;intro b hb;rw[c]at hb;exact(List.mem_append.1 hb).elim (Z4y hk.1 d b) (Z4y hk.2 f b)
 | .arr n t,x,_,_,hk,⟨h,q⟩=>Z42 (r:=rd w X B true t) (fun _ _ _ h=>Z4y (T:=t) hk h) q
 | .fnc _,_,_,_,hk,_| .err,_,_,_,hk,_| .hid _,_,_,_,hk,_| .sptr ..,_,_,_,hk,_| .clo ..,_,_,_,hk,_=>by simp[Ztr]at hk
theorem Qy2{w':World}{B':Nat}(hB:B'<=B): ∀{ts:List Ty} {x:Jp ts} {rs:List Value} {S:List Nat},Zfd w' B ts x rs S->(∀b∈S,B<=b/\b<w'.heap.size)/\Zfd w' B' ts x rs S:=by
 intro ts
 induction ts with
 |nil=>intro x rs S h;exact⟨by simp[h.2],h⟩
 |cons t ts a=>
  intro x rs S ⟨cs,us,S1,S2,e1,e2,g1,g2⟩;obtain⟨c,d⟩:=a g2;refine⟨fun b hb=> ?_,cs,us,S1,S2,e1,e2,Zdb hB (fun _ h=>h) g1,d⟩;rw[e2]at hb;rcases List.mem_append.1 hb with hb|hb
  ·exact Zt7 g1 b hb
  ·exact c b hb
theorem Zw5: ∀{T:Ty} {x:T.den} {vs:List Value} {S:List Nat},rd w X B true T x vs S->rd w X' B true T x vs S
 | .unit,_,_,_,h| .int _,_,_,_,h| .bool,_,_,_,h| .fnc _,_,_,_,h| .str,_,_,_,h| .err,_,_,_,h=>h
 | .slice _ t,_,_,_,⟨v,j,f,g,e,i,c,d⟩=>⟨v,j,f,g,e,i,c,Kq d fun _ _ _ _ _ h=>Zw5 (T:=t) h⟩
 | .pair a b,_,_,_,⟨k,l,f,g,e,i,c,d⟩=>⟨k,l,f,g,e,i,Zw5 c,Zw5 d⟩
 | .arr n t,_,_,_,⟨h,m⟩=>⟨h,Kq m fun _ _ _ _ _ h=>Zw5 (T:=t) h⟩
 | .hid _,_,_,_,⟨e,y,h⟩=>⟨e,y,Zw5 h⟩
 | .sptr ..,_,_,_,⟨_,o,_⟩=>by simp at o
 | .clo ..,_,_,_,⟨e,p,c,d⟩=>⟨e,p,c,Zw5 d⟩
theorem Qy5(h:R n W0 w X F H s a){T:Ty}{y:T.den}{vs:List Value}{S:List Nat}{rest:List Operand}(hk:Ztr T=true)(hrd:rd w X W0.B true T y vs S): ∀{ts:List Ty} {us:Jp ts},Q3a s T y rest ts=some us->
  Zq5 w (· ∈S) 0 ts us (Xz T vs::rest.map a.eval)
 | [],_,c=>by simp[Q3a]at c
 |t::ts,us,c=>by
  simp only[Q3a]at c;split at c
  ·rename_i u i d f j;simp only[Osi]at c;subst c;unfold Ky at d;split at d
   ·rename_i e;subst e;simp only[Osi]at d;subst d;refine⟨vs,_,by rw[Q4q],?_,Z4x j (Zq8 h (tg:=[]) (fun p k=>by cases k) f)⟩;have l:rd w (fun _=>False) W0.B true T y vs S:=Zw5 hrd;exact Qgg hk (Vn (Zgf (X':=(· ∈S)) (fun b g=>g.elim) l (fun b g=>g)) (by simp))
   ·cases d
  ·cases c
theorem Q0a(h:R n W0 w X F [] s a){x:Operand}{q:Nat}(hq:Z00 s (op1 s [] x)=some q){T:Ty}{y:T.den}{t:Tm}(hg:Qwb (s.get (.m q))=some (⟨T,y⟩,t)):
  ∃vs S S2,a.eval x=Xz T vs/\rd w X W0.B true T y vs S/\(∀b∈S++S2,b∈F (.m q))/\(S++S2).Nodup/\R n W0 w X (Qg F (.m q) S2) [] (Y6 s q t) a:=by
 cases hs:s.get (.m q)with
 |val U f z=>
  rw[hs]at hg;cases f with
  |u b=>
   cases b
   ·cases hg
   ·simp only[Qwb,Osi,Opi]at hg;obtain⟨A,rfl⟩:=hg;cases A;have j:=Qgi h hq hs;have g:=h.slots (.m q);rw[hs]at g;obtain⟨vs,hv,i⟩:=g;unfold rdF at i;refine⟨vs,F (.m q),[],by rw[j];exact hv,i,by simp,by simpa using h.nodup _,?_⟩;exact h.turn (S':=[]) (H':=[]) h.below (Nat.le_refl _) (fun _ _=>rfl) (fun _ _ _ _=>rfl) (by simp) (by simp) (by rw[hs];simp) (fun e T f x b S hb=>by rw[hs]at hb;cases hb)
     ⟨vs,hv,by unfold rdF;exact⟨X5 i,Zkc i,rfl⟩⟩
  |p _ _=>cases hg
  |d=>cases hg
 |box e U f z=>
  rw[hs]at hg;cases f with
  |u b=>
   cases b
   ·cases hg
   ·simp only[Qwb,Osi,Opi]at hg;obtain⟨A,rfl⟩:=hg;cases A;have g:=h.slots (.m q);rw[hs]at g;obtain⟨b,c,S,L,o,E,v⟩:=g;unfold rdF at v;have l:=h.nodup (.m q);rw[o]at l;have j:a.eval x=Xz T c.toList:=by
     unfold Z00 at hq;split at hq
     ·rename_i k P Q V hx;simp only[Osi]at hq;subst hq;obtain⟨rfl,_,hx⟩:=Zlh hx;rw[hs]at hx;cases hx
     ·rename_i k r hx;split at hq
      ·rename_i C;simp only[Osi]at hq;subst hq;obtain⟨_,_,hv⟩:=Kp h (tg:=[]) (fun p M=>by cases M) hx (by simp);obtain⟨U,hv⟩:=hv C;unfold Xi at hv;rw[hs]at hv;obtain⟨G,W,S',Y,H,D,I,rfl,N⟩:=hv;rw[o]at H;obtain⟨rfl,_⟩:=List.cons.inj H;rw[E]at D;simp only[Osi,Obj.cells.injEq]at D;obtain⟨rfl,_⟩:=D;simp only[Zdx,Osi]at I;subst I;rw[N];have O:J1 T []=0:=by cases T<;>rfl
       have Z:=X5 v;simp only[O,List.drop_zero];rw[List.take_of_length_le (by omega)]
      ·cases hq
     ·cases hq
    refine⟨c.toList,S,[b],j,v,fun G hb=>by rw[o];rcases List.mem_append.1 hb with hb|hb<;>simp at hb⊢ <;>simp[hb],?_,?_⟩
    ·refine List.nodup_append.2 ⟨(List.nodup_cons.1 l).2,by simp,fun x hx y J e=> ?_⟩;simp only[List.mem_singleton]at J;subst J;subst e;exact(List.nodup_cons.1 l).1 hx
    ·exact h.turn (S':=[b]) (H':=[]) h.below (Nat.le_refl _) (fun _ _=>rfl) (fun _ _ _ _=>rfl) (by rw[o];simp) (by simp) (by rw[hs];simp) (fun e' T' f' x' G S' hb K=>by
      rw[hs]at hb;cases hb;rw[o]at K;obtain⟨rfl,_⟩:=List.cons.inj K;exact⟨_,_,[],rfl,rfl⟩)
      ⟨b,c,[],L,rfl,E,by unfold rdF;exact⟨X5 v,Zkc v,rfl⟩⟩
  |p _ _=>cases hg
  |d=>cases hg
 |_=>rw[hs]at hg;cases hg
theorem Q5d{ρ:Type}{Γ:Zx3}(hΓ:Γ.ok P)(h:R n W0 w X F [] s a){f:FuncId}{fo:Operand}(hfo:a.eval fo= .func (.func f) #[] #[]){xs:Array Operand}{ats:Array TypeId}(ho:o.op= .call {callee:= .value fo,args:=xs,argTypes:=ats}){k:St->Option ρ}{r:ρ}(hr:wrK Γ n s o.dst f xs.toList k=some r)
  {K:Act->World->Prop} {Q:Exit->Act->World->Prop} (hK: ∀v w' X' F' s',k s'=some r->R n W0 w' X' F' [] s' (a.put o.dst v)->K (a.put o.dst v) w'):o.wp P a w K Q:=by
 unfold wrK at hr;split at hr
 ·rename_i e x0 A he I;obtain⟨rfl,B⟩:=Zx3.find_ok hΓ he;split at hr
  ·rename_i q hq;split at hr
   ·rename_i T y t hg;split at hr
    ·rename_i us d hk J hd;split at hr
     ·rename_i hdn;simp only[Oba,Nat.blt_eq]at hdn;simp only[Option.bind_eq_some_iff]at hr;obtain⟨z,hz,L⟩:=hr;obtain⟨vs,S0,S2,M,C,i,D,p⟩:=Q0a h hq hg;have ac: ∀b∈S0,b<w.heap.size:=fun b g=>(h.own _ _ (i b (by simp[g]))).2.1;have j:=Qy5 h hk C J;have u:xs.toList.map a.eval=Xz T vs::A.map a.eval:=by rw[I,List.map_cons,M]
      rw[<-u]at j;have hc:=B.calls w (· ∈S0) us z (xs.toList.map a.eval) (fun b g=>Z4y hk C b g) j hz;have E: (execOp a.eval o).run P w= .ok (.enter e.f (xs.toList.map a.eval).toArray) w:=by
       have:execOp a.eval o=callFunc e.f (xs.map a.eval):=by
        simp only[execOp,ho,resolve,hfo,Deferred.ofValue];simp[invoke]
       rw[this,B.enters];congr 2;apply Array.toList_inj.mp;simp
      unfold Oper.wp;rw[E,Oper.upon_enter];refine hc.mono fun en w' ⟨rs,S,N,G,O,h1,h2,h3,h4,U,_,_⟩=> ?_;subst N;show K (a.put o.dst (X4 rs)) w';obtain⟨c,x⟩:=Qy2 h.below.sizeB G;have V:W0.below w':=⟨h1.trans h.below.os,h2.trans h.below.tape,h3.trans h.below.output,Nat.le_trans h.below.size h4,fun b g=>
       (U b (Nat.lt_of_lt_of_le (W0.yW b g) h.below.size) fun l=>W0.sep g (h.own _ _ (i b (by simp[l]))).1 rfl).trans (h.below.block b g)⟩
      have W:R n W0 w' X (Qg F (.m q) S2) [] (Y6 s q t) a:=p.world V h4 (fun b g=>U b (h.xlt b g) fun l=>(h.own _ _ (i b (by simp[l]))).2.2 g) (fun k b g=>by
       have Y:=p.own k b g;refine U b Y.2.1 fun l=> ?_;simp only[Qg]at g;split at g
       ·exact(List.nodup_append.1 D).2.2 b l b g rfl
       ·rename_i Z;exact Z (h.disj _ _ b g (i b (by simp[l]))))
      have aa:R n W0 w' X (Qg F (.m q) S2) (S++ []) (Y6 s q t) a:=W.hand (fun b g=>⟨.inl (Nat.le_trans h.below.size (c b g).1),(c b g).2,fun hx=>by have:=h.xlt b hx;have:=(c b g).1;omega⟩) O
       (fun k b g l=>by have:=(p.own k b g).2.1;have:=(c b l).1;omega) (fun b g l=>by cases l)
      obtain⟨F',ab⟩:=aa.putRes hdn.1 hdn.2 x;have H:=hK (X4 rs) w' X F' _ L;rw[hd]at H⊢;exact H ab
     ·cases hr
    ·cases hr
   ·cases hr
  ·cases hr
 ·cases hr
theorem Z9d(h:R n W0 w X F H s a): ∀{ts:List Ty} {xs:List Operand} {us:Jp ts},Z6l s ts xs=some us->Zq5 w X 0 ts us (xs.map a.eval)
 | [],[],us,_=>rfl
 |t::ts,x::xs,us,b=>by
  simp only[Z6l]at b;split at b
  ·rename_i u d e c;simp only[Osi]at b;subst b;obtain⟨f,g,i⟩:=Z0x h e;exact⟨f,_,by simp[g],i,Z9d h c⟩
  ·cases b
 | [],_::_,_,b=>by simp[Z6l]at b
 |_::_,[],_,b=>by simp[Z6l]at b
theorem Qw7{w0:World}{L:Nat->Prop}(hg:g=Zth w0 L)(h:R n W0 w X F H s a): (∀b,X b↔L b)/\g.soft=true:=by
 subst hg;exact⟨fun b=>⟨h.xs rfl b,h.gx b⟩,rfl⟩
theorem Qva{w0:World}{L:Nat->Prop}(hg:g=Zth w0 L)(h:R n W0 w X F H s a)(hso:Zn4 X w w')(hpl: ∀b,X b->Zt6 w' b):g.G w':=by
 obtain⟨d,_⟩:=Qw7 hg h;have c:X=L:=funext fun b=>propext (d b);subst hg;subst c;exact⟨h.glob.1.trans hso,hpl⟩
theorem Qsb{w0:World}{L:Nat->Prop}(hg:g=Zth w0 L)(h:R n W0 w X F H s a)(hos:w'.os=w.os)(htape:w'.tape=w.tape)(hout:w'.output=w.output)(hsz:w.heap.size<=w'.heap.size)(hb: ∀b,b<w.heap.size-> ¬X b->w'.heap[b]? =w.heap[b]?):W0.below w':=by
 obtain⟨d,c⟩:=Qw7 hg h;refine⟨hos.trans h.below.os,htape.trans h.below.tape,hout.trans h.below.output,Nat.le_trans h.below.size hsz,fun k hk=>(hb k (Nat.lt_of_lt_of_le (W0.yW k hk) h.below.size) fun hx=>W0.fr c k (h.xs c k hx) hk).trans (h.below.block k hk)⟩
theorem Q5f{ρ:Type}{Γ:Zx3}(hΓ:Γ.ok P){w0:World}{L:Nat->Prop}(hg:g=Zth w0 L)(h:R n W0 w X F [] s a){f:FuncId}{fo:Operand}(hfo:a.eval fo= .func (.func f) #[] #[]){xs:Array Operand}{ats:Array TypeId}(ho:o.op= .call {callee:= .value fo,args:=xs,argTypes:=ats}){k:St->Option ρ}{r:ρ}(hr:wsK Γ n s o.dst f xs.toList k=some r)
  {K:Act->World->Prop} {Q:Exit->Act->World->Prop} (hK: ∀v w' X' F' s',k s'=some r->R n W0 w' X' F' [] s' (a.put o.dst v)->K (a.put o.dst v) w'):o.wp P a w K Q:=by
 unfold wsK at hr;split at hr
 ·rename_i e d N O;obtain⟨rfl,l⟩:=Zx3.find_ok hΓ N;split at hr
  ·rename_i U t hdn;simp only[Oba,Nat.blt_eq]at hdn;simp only[Option.bind_eq_some_iff]at hr;obtain⟨z,V,u⟩:=hr;obtain⟨W,Y⟩:=Qw7 hg h;have x: ∀b,X b->Zt6 w b:=fun b i=>by
    have:=h.glob;have y:=(W b).1 i;subst hg;exact this.2 b y
   have Z:=l.calls w X U z (xs.toList.map a.eval) x (Z9d h t) V;have m: (execOp a.eval o).run P w= .ok (.enter e.f (xs.toList.map a.eval).toArray) w:=by
    have:execOp a.eval o=callFunc e.f (xs.map a.eval):=by
     simp only[execOp,ho,resolve,hfo,Deferred.ofValue];simp[invoke]
    rw[this,l.enters];congr 2;apply Array.toList_inj.mp;simp
   unfold Oper.wp;rw[m,Oper.upon_enter];refine Z.mono fun en w' ⟨H,S,A,p,B,h1,h2,h3,I,J,M,h7⟩=> ?_;subst A;show K (a.put o.dst (X4 H)) w';obtain⟨c,j⟩:=Qy2 h.below.sizeB p;have C:R n W0 w' X F [] s a:=h.soft hdn.2 (Qva hg h M h7) (Qsb hg h h1 h2 h3 I J) I J M;have D:R n W0 w' X F (S++ []) s a:=C.hand (fun b i=>⟨.inl (Nat.le_trans h.below.size (c b i).1),(c b i).2,fun hx=>by have:=h.xlt b hx;have:=(c b i).1;omega⟩) B
    (fun k b i E=>by have:=(h.own k b i).2.1;have:=(c b E).1;omega) (fun b i E=>by cases E)
   obtain⟨F',G⟩:=D.putRes hdn.1.1 hdn.1.2 j;have q:=hK (X4 H) w' X F' _ u;rw[O]at q⊢;exact q G
  ·cases hr
 ·cases hr
theorem Q09{T:Ty}(hT:Zso T=true){x:T.den}{vs:List Value}{S:List Nat}(h:rd w X B own T x vs S): ∃u,vs=[u]/\Xz T vs=u:=by
 cases T<;>simp[Zso]at hT<;>exact⟨_,h.1,by rw[h.1];rfl⟩
theorem Qza{T:Ty}(hT:Zso T=true){x y:T.den}{u v:Value}{S S':List Nat}(h:rd w X B own T x [u] S)(h':rd w X' B' own T y [v] S'):Zza u v:=by
 cases T<;>simp[Zso]at hT
 ·have a:=(List.cons.inj h.1).1;have b:=(List.cons.inj h'.1).1;subst a;subst b;exact .inr (.inl ⟨_,_,_,rfl,rfl⟩)
 ·have a:=(List.cons.inj h.1).1;have b:=(List.cons.inj h'.1).1;subst a;subst b;exact .inr (.inr (.inl ⟨_,_,rfl,rfl⟩))
 ·have a:=(List.cons.inj h.1).1;have b:=(List.cons.inj h'.1).1;subst a;subst b;exact .inr (.inr (.inr ⟨_,_,rfl,rfl⟩))
theorem Qn2(hτ:τ.ok P){w0:World}{L:Nat->Prop}(hg:g=Zth w0 L)(h:R n W0 w X F H s a){e:TypeId}{x v:Operand}(ho:o.op= .store e x v)(hd:o.dst=none){s':St}(hr:Qj9 τ s e x v=some s')
  {K:Act->World->Prop} {Q:Exit->Act->World->Prop} (hK: ∀w',R n W0 w' X F H s' a->K a w'):o.wp P a w K Q:=by
 unfold Qj9 at hr;split at hr
 ·cases hr
 ·rename_i T hT;split at hr
  ·rename_i kk t y hx;split at hr
   ·rename_i u hc hu;simp only[Osi]at hr;subst hr;simp only[Oba,decide_eq_true_eq]at hc;obtain⟨⟨rfl,C⟩,hl⟩:=hc;obtain⟨vs,h1,B⟩:=W5 h (tg:=[]) (fun p D=>by cases D) hu;obtain⟨V,rfl,h3⟩:=Q09 C B;obtain⟨_,_,W,cs,k1,Y,k3,⟨k4,y',k5⟩⟩:=Kp h (tg:=[]) (fun p D=>by cases D) hx (by simp);obtain⟨u0,rfl⟩:=List.length_eq_one_iff.1 k4;have d:=k3 0 u0 rfl;have Z:W.add 0=W:=rfl;rw[Z]at d;obtain⟨hX,ah⟩:=Qw7 hg h;have aa:Zt6 w W.block:=by
     have:=h.glob;have z:=(hX _).1 Y;subst hg;exact this.2 _ z
    obtain⟨c,e0,E⟩:=aa;obtain⟨b,i,G⟩:=W;simp only at E Y;unfold World.cell? at d;simp only[E]at d;cases G with
    |some sp=>simp at d
    |none=>
     simp only[Option.isSome_none,Bool.false_eq_true,if_false]at d;have ab:i<c.size:=(Array.getElem?_eq_some_iff.1 d).1;have I:=run_storeCells_at P b i e0 [V] 0 c w E (by simp;omega) (Zkc B);generalize J: (c.toList.take (i+0)++ [V]++c.toList.drop (i+0+ [V].length)).toArray=cc at I;have M:=setRow_heap w b c cc e0 _ E;have l: ∀k,k≠b->(w.setRow b cc).heap[k]? =w.heap[k]? :=fun k hk=>by
      simp only[World.setRow];rw[Array.getElem?_modify];simp[Ne.symm hk]
     have N:Zn4 X w (w.setRow b cc):=fun ac u' hL f=>by
      obtain⟨b',j,A⟩:=ac;by_cases O:b'=b
      ·subst O;unfold World.cell? at f⊢;simp only[E,M]at f⊢;cases A with
       |some sp=>simp at f
       |none=>
        simp only[Option.isSome_none,Bool.false_eq_true,if_false]at f⊢;have aj:j<c.size:=(Array.getElem?_eq_some_iff.1 f).1;by_cases ae:j=i
        ·subst ae;rw[d]at f;simp only[Osi]at f;subst f;refine⟨V,?_,Qza C k5 B⟩;rw[<-J,<-Array.getElem?_toList];simp only[Nat.add_zero,List.append_assoc];rw[List.getElem?_append_right (by simp;omega)];simp[Nat.min_eq_left (Nat.le_of_lt ab)]
        ·refine⟨u',?_,Zza.refl _⟩;rw[<-J,<-Array.getElem?_toList];simp only[Nat.add_zero,List.append_assoc];rw[<-Array.getElem?_toList]at f;rcases Nat.lt_or_ge j i with hlo|hlo
         ·rw[List.getElem?_append_left (by simp;omega),List.getElem?_take];simp[hlo,f]
         ·rw[List.getElem?_append_right (by simp;omega)];have e1: (List.take i c.toList).length=i:=by simp;omega
          rw[e1];obtain⟨m,hm⟩: ∃m,j-i=m+1:=⟨j-i-1,by omega⟩
          rw[hm];simp only[List.cons_append,List.nil_append,List.getElem?_cons_succ,List.length_cons,List.length_nil,Nat.zero_add,List.getElem?_drop];rw[show i+1+m=j by omega];exact f
      ·exact⟨u',by rw[World.cell?_of_block (w:=w) (l b' O)];exact f,Zza.refl _⟩
     have S: ∀k,X k->Zt6 (w.setRow b cc) k:=fun k hk=>by
      by_cases O:k=b
      ·subst O;exact⟨_,_,M⟩
      ·have D:Zt6 w k:=by
        have:=h.glob;have z:=(hX _).1 hk;subst hg;exact this.2 _ z
       obtain⟨c',e',ag⟩:=D;exact⟨c',e',by rw[l k O];exact ag⟩
     have ak: (w.setRow b cc).heap.size=w.heap.size:=by simp[World.setRow]
     have r: ∀k,k<w.heap.size-> ¬X k->(w.setRow b cc).heap[k]? =w.heap[k]? :=fun k _ hk=>l k fun e=>hk (by rw[e];exact Y);have hR:=h.soft hl (Qva hg h N S) (Qsb hg h rfl rfl rfl (by omega) r) (by omega) r N;have q:=Qga (Zkc B) (X5 B);have U: (execOp a.eval o).run P w= .ok .skip (w.setRow b cc):=by
      simp only[execOp,ho,k1,h1,Instr.storeAt,Instr.sureAddr,storeVar,q,Sem.run_bind,Sem.run_pure,Result.andThen_ok,(hτ _ _ hT).sizeOf w];have:=X5 B;simp only[List.length_cons,List.length_nil]at this;simp[<-this,I]
     unfold Oper.wp;rw[U];show K (a.put o.dst _) _;rw[hd];exact hK _ hR
   ·cases hr
  ·cases hr
end
end Go.Am
namespace Go.Am
open Go.RowKit
def ppB(P:Program)(e e2:TypeId):Bool:=
 match P.underlying e,P.info? e2,P.underlying e2 with
 |some (.slice e3),some i,some (.pointer e4)=>Nat.beq e3 e2&& (Nat.beq i.size 1&& (Nat.ble i.bytes 8192&& (match i.zero with|some (.pointer none)=>true|_=>false)))&& (match P.info? e4 with|some i=>Nat.blt 0 i.size|none=>false)
 |_,_,_=>false
def erB(P:Program)(e:TypeId):Bool:=match P.underlying e with|some (.interface _)=>true|_=>false
structure Zl3 where
 pp:List (TypeId×TypeId):=[]
 er:List TypeId:=[]
def Zl3.elem(t:Zl3)(e:TypeId):Option TypeId:=(t.pp.find? fun p=>Nat.beq p.1 e).map (·.2)
def Zl3.isPtr(t:Zl3)(e:TypeId):Bool:=t.pp.any fun p=>Nat.beq p.2 e
def Zl3.isErr(t:Zl3)(e:TypeId):Bool:=t.er.any (Nat.beq e)
structure Zl3.ok(t:Zl3)(P:Program):Prop where
 pp: ∀p∈t.pp,ppB P p.1 p.2=true
 er: ∀e∈t.er,erB P e=true
theorem Qgc{P:Program}{e e2:TypeId}(h:ppB P e e2=true):P.underlying e=some (.slice e2)/\(∃i,P.info? e2=some i/\i.size=1/\i.bytes<=8192/\i.zero=some (.pointer none))/\ ∃e4 i,P.underlying e2=some (.pointer e4)/\P.info? e4=some i/\0<i.size:=by
 unfold ppB at h;split at h
 ·rename_i n i e4 c d f;simp only[Oba]at h;obtain⟨⟨g,j,k,b⟩,a⟩:=h;have:=Onb g;subst this;refine⟨c,⟨i,d,Onb j,by simpa using k,?_⟩,?_⟩
  ·split at b
   ·assumption
   ·cases b
  ·split at a
   ·rename_i l m;exact⟨e4,l,f,m,by simp[Nat.blt]at a;omega⟩
   ·cases a
 ·cases h
theorem Zl3.elem_ok{t:Zl3}{P:Program}(h:t.ok P){e e2:TypeId}(he:t.elem e=some e2):ppB P e e2=true:=by
 unfold Zl3.elem at he;simp only[Option.map_eq_some_iff]at he;obtain⟨p,a,rfl⟩:=he;have b:=List.find?_some a;have:=h.pp p (List.mem_of_find?_eq_some a)
 rwa [Onb b]at this
theorem Zl3.isPtr_ok{t:Zl3}{P:Program}(h:t.ok P){e:TypeId}(he:t.isPtr e=true): ∃e4 i,P.underlying e=some (.pointer e4)/\P.info? e4=some i/\0<i.size:=by
 unfold Zl3.isPtr at he;rw[List.any_eq_true]at he;obtain⟨p,a,b⟩:=he;have:=(Qgc (h.pp p a)).2.2
 rwa [Onb b]at this
theorem Zl3.isErr_ok{t:Zl3}{P:Program}(h:t.ok P){e:TypeId}(he:t.isErr e=true): ∃ms,P.underlying e=some (.interface ms):=by
 unfold Zl3.isErr at he;rw[List.any_eq_true]at he;obtain⟨p,a,b⟩:=he;have:=h.er p a;rw[<-Onb b]at this;unfold erB at this;split at this
 ·rename_i ms c;exact⟨ms,c⟩
 ·cases this
section
variable {P:Program} {g:K9} {W0:Zam g} {w w':World} {X X':Nat->Prop} {B B' n:Nat} {own:Bool} {s:St} {F:Key->List Nat} {a:Act} {H H':List Nat} {o:Oper} {tg:Xo} {τ:Tab} {pt:Zl3} {gh:Nat->Value}
def Quv(s:St)(tg:Xo):Nat->List (Nat×Operand)->Option (List (Nat×List Nat))
 |_,[]=>some []
 |k,(i,y)::r=>match Nat.beq i k,op1 s tg y with
  |true,.tm _ (.ptr q p)=>match Quv s tg (k+1) r with
   |some l=>some ((q,p)::l)
   |none=>none
  |true,.tm q (.box ..)=>match s.get (.m q),Quv s tg (k+1) r with
   | .box ..,some l=>some ((q,[])::l)
   |_,_=>none
  |_,_=>none
theorem Z4w(h:R n W0 w X F H s a)(ht:tg.ok W0.gh a): ∀{parts:List (Nat×Operand)} {k:Nat} {l:List (Nat×List Nat)} {cs:Array Value} {A M:List Value},
  Quv s tg k parts=some l->cs.toList=A++M->A.length=k->M.length=parts.length->
  ∃us cs',Instr.fill (fun i=>some (i*1,1)) cs (parts.map fun p=>(p.1,a.eval p.2))=some cs'/\cs'.toList=A++us/\us.length=l.length/\l.length=parts.length/\ ∀(j:Nat) (q:Nat×List Nat),l[j]? =some q-> ∃u,us[j]? =some u/\atP s F q.1 q.2 u
 | [],k,l,cs,A,M,g,z,K,E=>by
  simp only[Quv,Osi]at g;subst g;have:M=[]:=List.eq_nil_of_length_eq_zero E;subst this;exact⟨[],cs,rfl,by simpa using z,rfl,rfl,by simp⟩
 | (i,y)::r,k,l,cs,A,M,g,z,K,E=>by
  simp only[Quv]at g;split at g
  ·rename_i k' q p d L;have d:=Onb d;subst d;split at g
   ·rename_i l2 B;simp only[Osi]at g;subst g;obtain⟨_,hv⟩:=Kp h ht L (by simp);obtain⟨_,e,T,f,x,b,N,h1,h2,G⟩:=hv;obtain⟨t,o,rfl⟩: ∃t o,M=t::o:=by
     cases M with
     |nil=>simp at E
     |cons t o=>exact⟨t,o,rfl⟩
    have I: (a.eval y).cells= #[a.eval y]:=by rw[G];rfl
    obtain⟨C,J,O⟩:=Zx7 (place:=fun i=>some (i*1,1)) (i:=i) (rest:=r.map fun p=>(p.1,a.eval p.2)) (v:=a.eval y) rfl (pre:=A) (mid:=[t]) (post:=o) (by rw[z];simp) (by omega) rfl (by rw[I];rfl);rw[I]at J;obtain⟨us,cs',P,Q,S,U,V⟩:=Z4w h ht (k:=i+1) (cs:=C) (A:=A++ [a.eval y]) (M:=o) B (by rw[J];simp) (by simp[K]) (by simpa using E);refine⟨a.eval y::us,cs',by rw[List.map_cons];rw[O];exact P,by rw[Q];simp,by simp[S],by simp[U],fun j W D=> ?_⟩;cases j with
    |zero=>
     simp only[List.getElem?_cons_zero,Osi]at D;subst D;exact⟨_,rfl,e,T,f,x,b,N,h1,h2,G⟩
    |succ j=>exact V j W (by simpa using D)
   ·cases g
  ·rename_i q e0 T0 f0 x0 d L;have d:=Onb d;subst d;split at g
   ·rename_i e T f x l2 hg B;simp only[Osi]at g;subst g;obtain⟨rfl,Y,_⟩:=Zlh L;have hs:=h.slots (.m q);rw[hg]at hs;obtain⟨b,c,N,Z,aa,_⟩:=hs;have ab:a.eval (.tmp q)= .pointer (some ⟨b,0,none⟩):=(Ye W0 a Y).symm.trans Z;have G:a.eval (.tmp q)= .pointer (some ⟨b,J1 T [],none⟩):=by
     have:J1 T []=0:=by cases T<;>rfl
     rw[this];exact ab
    obtain⟨t,o,rfl⟩: ∃t o,M=t::o:=by
     cases M with
     |nil=>simp at E
     |cons t o=>exact⟨t,o,rfl⟩
    have I: (a.eval (.tmp q)).cells= #[a.eval (.tmp q)]:=by rw[G];rfl
    obtain⟨C,J,O⟩:=Zx7 (place:=fun i=>some (i*1,1)) (i:=i) (rest:=r.map fun p=>(p.1,a.eval p.2)) (v:=a.eval (.tmp q)) rfl (pre:=A) (mid:=[t]) (post:=o) (by rw[z];simp) (by omega) rfl (by rw[I];rfl);rw[I]at J;obtain⟨us,cs',P,Q,S,U,V⟩:=Z4w h ht (k:=i+1) (cs:=C) (A:=A++ [a.eval (.tmp q)]) (M:=o) B (by rw[J];simp) (by simp[K]) (by simpa using E);refine⟨a.eval (.tmp q)::us,cs',by rw[List.map_cons];rw[O];exact P,by rw[Q];simp,by simp[S],by simp[U],fun j W D=> ?_⟩;cases j with
    |zero=>
     simp only[List.getElem?_cons_zero,Osi]at D;subst D;exact⟨_,rfl,e,T,f,x,b,N,hg,aa,G⟩
    |succ j=>exact V j W (by simpa using D)
   ·cases g
  ·cases g
def Q00(pt:Zl3)(s:St)(tg:Xo)(e:TypeId)(len:Nat)(parts:Array (Nat×Operand)):Option Res:=
 match pt.elem e with
 |some _=>match Nat.beq parts.size len&& (Nat.blt 0 len&&Nat.ble len 16777216),Quv s tg 0 parts.toList with
  |true,some l=>some ⟨.pls true l,s,true,none⟩
  |_,_=>none
 |none=>none
theorem Qwx(hs:g.soft=false)(h:R n W0 w X F H s a)(ht:tg.ok W0.gh a)(hp:pt.ok P){e:TypeId}{len:Nat}{parts:Array (Nat×Operand)}(ho:o.op= .buildSlice e len parts){r:Res}(hr:Q00 pt s tg e len parts=some r):Zqd P n W0 w X H s a o r:=by
 unfold Q00 at hr;split at hr
 ·rename_i y E;split at hr
  ·rename_i l z G;simp only[Osi]at hr;subst hr;simp only[Oba,Nat.ble_eq]at z;obtain⟨d,p,C⟩:=z;have d:=Onb d;have p:0<len:=by simp[Nat.blt]at p;omega
   obtain⟨I,⟨i,J,k,_,L⟩,_⟩:=Qgc (Zl3.elem_ok hp E);intro _ K Q N;obtain⟨m,t⟩: ∃m:Array Value,m=(Array.range (len*i.size)).map ((Value.pointer none).cells[· % (Value.pointer none).cells.size]!):=⟨_,rfl⟩
   obtain⟨D,f,O,U,V,W,Y⟩:=Z4w h ht (cs:=m) (A:=[]) (M:=m.toList) G rfl rfl (by rw[t];simp[k,d]);have v:l.length=len:=by rw[W,Array.length_toList,d]
   have x: (execOp a.eval o).run P w= .ok (.value (.slice (some ⟨w.heap.size,0,none⟩) len len)) (w.alloc (.cells f y)):=by
    simp only[execOp,ho,Sem.run_bind];rw[run_buildSlice w e y len _ f i _ I J L (by rw[k];omega) (by rw[k];omega) (by rw[<-t];simpa[k]using O)];simp
   unfold Oper.wp;rw[x];have B:f.toList=D:=by simpa using U
   have Z:=R.give (S:=[w.heap.size]) (H:=H) hs (h.alloc (.cells f y));refine N _ _ F [] _ (fun b z=> .inl z) Z ⟨rfl,⟨w.heap.size,0,none⟩,D,.inr (by simp),fun j u hj=> ?_,V,fun j q hq=>Y j q hq,⟨by rw[v],by rw[v];unfold maxLen;omega⟩⟩ (fun hm=>by cases hm) ⟨fun _=>Old.alloc _ _,h.kept (Old.alloc _ _)⟩;rw[Zhk (c:=f) (e:=y) _ (Qew _ _),<-Array.getElem?_toList,B,Nat.zero_add];exact hj
  ·cases hr
 ·cases hr
def Q0m(pt:Zl3)(s:St)(tg:Xo)(e:TypeId)(x:Operand):Option Res:=
 match pt.elem e,op1 s tg x with
 |some _,.tm _ (.pls true l)=>some ⟨.val (.int .i64) (.u false) (l.length:Int),s,false,none⟩
 |_,_=>none
theorem Qwl(h:R n W0 w X F H s a)(ht:tg.ok W0.gh a)(hp:pt.ok P){e:TypeId}{x:Operand}(ho:o.op= .call {callee:= .builtin .len,args:= #[x],argTypes:= #[e]}){r:Res}(hr:Q0m pt s tg e x=some r):Zbh P τ W0 w X F s a o r:=by
 unfold Q0m at hr;split at hr
 ·rename_i c k l b hx;simp only[Osi]at hr;subst hr;obtain⟨_,hv⟩:=Kp h ht hx (by simp);obtain⟨_,d,f,_,_,_,_,hv,_⟩:=hv;refine Yr rfl fun _=>⟨_,fun g _=> ?_,Zx2 _ _⟩
  simp only[execOp,ho];simp[resolve,invoke,builtin,hv,Builtin.len_,run_underlying (Qgc (Zl3.elem_ok hp b)).1,goInt]
 ·cases hr
def Q0f(pt:Zl3)(s:St)(tg:Xo)(e:TypeId)(x i:Operand):Option Res:=
 match pt.elem e,op1 s tg x,Zq9 s (op1 s tg i)with
 |some _,.tm _ (.pls true l),some (_,j)=>match decide (0<=j),l.drop j.toNat with
  |true,q::r=>some ⟨.pls false (q::r),s,false,none⟩
  |_,_=>none
 |_,_,_=>none
theorem Qwc(h:R n W0 w X F H s a)(ht:tg.ok W0.gh a)(hp:pt.ok P){e:TypeId}{x i:Operand}(ho:o.op= .indexAddr e x i){r:Res}(hr:Q0f pt s tg e x i=some r):Zbh P τ W0 w X F s a o r:=by
 unfold Q0f at hr;split at hr
 ·rename_i B k l C j D hx E;split at hr
  ·rename_i q V f d;simp only[Osi]at hr;subst hr;have f:0<=j:=Ode f;have G:=Zej h ht E;obtain⟨_,hv⟩:=Kp h ht hx (by simp);obtain⟨_,b,I,J,K,L,M,hv,z⟩:=hv;obtain⟨N,⟨W,O,g,Q,_⟩,_⟩:=Qgc (Zl3.elem_ok hp D);have S:j.toNat<l.length:=by
    apply Nat.lt_of_not_le;intro p;rw[List.drop_eq_nil_of_le p]at d;cases d
   have t: ∀w,(sizeOf B).run P w= .ok 1 w:=fun w=>by simp[sizeOf,typeInfo,O,g]
   refine Yr rfl fun _=>⟨.pointer (some (b.add j.toNat)),fun v _=> ?_,rfl,b.add j.toNat,I.drop j.toNat,?_,fun m u z=> ?_,by rw[List.length_drop,L,<-d,List.length_drop],fun m Y A=> ?_,rfl⟩
   ·have c: (Instr.indexAt e (.slice (some b) l.length l.length) (.int C j)).run P v= .ok (.pointer (some (b.add j.toNat))) v:=by
     simp only[Instr.indexAt,Sem.run_bind,asIntOf,Sem.run_pure,Result.andThen_ok,run_underlying N];have:j<l.length:=by omega
     simp[f,this,t v]
    simp only[execOp,ho,hv,G,Sem.run_bind,c,Result.andThen_ok,Sem.run_pure]
   ·have: (b.add j.toNat).block=b.block:=by unfold Addr.add;split<;>rfl
    rw[this];exact J
   ·rw[Addr.add_add'];apply K;rw[<-z,List.getElem?_drop]
   ·rw[<-d,List.getElem?_drop]at A;obtain⟨u,y,U⟩:=M _ _ A;exact⟨u,by rw[List.getElem?_drop];exact y,U⟩
  ·cases hr
 ·cases hr
def Qwn(pt:Zl3)(s:St)(tg:Xo)(e:TypeId)(x:Operand):Option Res:=
 match pt.isPtr e,op1 s tg x with
 |true,.tm _ (.pls false (q::_))=>some ⟨.ptr q.1 q.2,s,false,none⟩
 |_,_=>none
theorem Qtm(h:R n W0 w X F H s a)(ht:tg.ok W0.gh a)(hp:pt.ok P){e:TypeId}{x:Operand}(ho:o.op= .load e x){r:Res}(hr:Qwn pt s tg e x=some r):Zbh P τ W0 w X F s a o r:=by
 unfold Qwn at hr;split at hr
 ·rename_i k q l t hx;simp only[Osi]at hr;subst hr;obtain⟨rfl,hv⟩:=Kp h ht hx (by simp);obtain⟨_,f,C,p,v,D,y,hv⟩:=hv;obtain⟨u,z,i⟩:=y 0 q rfl;obtain⟨E,G,j,A,_⟩:=Zl3.isPtr_ok hp t;have B:w.cell? f=some u:=by have:=v 0 u z;rwa [show f.add 0=f by unfold Addr.add;split<;>simp_all]at this
  refine Yr rfl fun _=>⟨u,fun g c=> ?_,rfl,i⟩
  have m:g.cell? f=some u:=by
   have c:=c (by rw[ho];rfl);rw[ho,Zl5 hx (by simp)]at c;have c: ∀b,b<w.heap.size->X b->g.heap[b]? =w.heap[b]? :=c;rw[World.cell?_of_block (w:=w) (c _ (h.xlt _ p) p)];exact B
  have d: (isAgg e).run P g= .ok false g:=by simp[isAgg,run_underlying j]
  simp only[execOp,ho,hv,Sem.run_bind,Instr.loadAt,Instr.sureAddr,Sem.run_pure,Result.andThen_ok,loadVar,d];simp[run_load,m]
 ·cases hr
def Qru(pt:Zl3)(s:St)(tg:Xo)(op:BinOp)(e:TypeId)(x y:Operand):Option Res:=
 match pt.isPtr e,op1 s tg x,op1 s tg y with
 |true,.tm _ (.ptr q p),.tm _ (.ptr q2 p2)=>match Nat.beq q q2,s.get (.m q)with
  |true,.box _ T _ _=>match op with
   | .eql=>some ⟨.val .bool (.u false) (Nat.beq (J1 T p) (J1 T p2)),s,false,none⟩
   | .neq=>some ⟨.val .bool (.u false) (!(Nat.beq (J1 T p) (J1 T p2))),s,false,none⟩
   |_=>none
  |_,_=>none
 |_,_,_=>none
theorem Qrv(h:R n W0 w X F H s a)(ht:tg.ok W0.gh a)(hp:pt.ok P){op:BinOp}{e e2:TypeId}{x y:Operand}(ho:o.op= .binOp op e x y e2){r:Res}(hr:Qru pt s tg op e x y=some r):Zbh P τ W0 w X F s a o r:=by
 unfold Qru at hr;split at hr
 ·rename_i k q p Q S c D hx E;split at hr
  ·rename_i U T f z G I;have:=Onb G;subst this;obtain⟨_,hv⟩:=Kp h ht hx (by simp);obtain⟨_,V,W,Y,Z,g,S1,t,J,u⟩:=hv;obtain⟨_,i⟩:=Kp h ht E (by simp);obtain⟨_,K,T2,f2,x2,b2,S2,v,A,B⟩:=i;rw[I]at t v;cases t;cases v;rw[J]at A;obtain⟨rfl,rfl⟩:=List.cons.inj A;obtain⟨e4,L,j,l,C⟩:=Zl3.isPtr_ok hp D;have b: ∀w,(Op.equal e (.pointer (some ⟨g,J1 T p,none⟩)) (.pointer (some ⟨g,J1 T c,none⟩))).run P w= .ok (Nat.beq (J1 T p) (J1 T c)) w:=fun w=>by
    have M:L.size≠0:=by omega
    have N: ((⟨g,J1 T p,none⟩:Addr)==⟨g,J1 T c,none⟩)=Nat.beq (J1 T p) (J1 T c):=by
     rw[Bool.eq_iff_iff];simp[Nat.beq_eq]
    obtain⟨d,O⟩: ∃d,Op.maxDepth=d+1:=⟨9999,rfl⟩
    unfold Op.equal;rw[O];simp only[Op.equalIn,Sem.run_bind,run_underlying j,Result.andThen_ok];simp[sizeOf,typeInfo,l,M,sameAddr,N]
   split at hr
   ·simp only[Osi]at hr;subst hr;refine Yr rfl fun _=>⟨_,fun m _=> ?_,Zsy _⟩
    simp only[execOp,ho,u,B];simp[eqGuard,Go.binOp,b m]
   ·simp only[Osi]at hr;subst hr;refine Yr rfl fun _=>⟨_,fun m _=> ?_,Zsy _⟩
    simp only[execOp,ho,u,B];simp[eqGuard,Go.binOp,b m]
   ·cases hr
  ·cases hr
 ·cases hr
def Qz3(pt:Zl3)(s:St)(tg:Xo)(op:BinOp)(e:TypeId)(x y:Operand):Option Res:=
 match pt.isErr e,Wi s (op1 s tg x) .err,y with
 |true,some z,.const .nilIface=>match op with
  | .eql=>some ⟨.val .bool (.u false) z,s,false,none⟩
  | .neq=>some ⟨.val .bool (.u false) (!z),s,false,none⟩
  |_=>none
 |_,_,_=>none
theorem Qv2(h:R n W0 w X F H s a)(ht:tg.ok W0.gh a)(hp:pt.ok P){op:BinOp}{e e2:TypeId}{x y:Operand}(ho:o.op= .binOp op e x y e2){r:Res}(hr:Qz3 pt s tg op e x y=some r):Zbh P τ W0 w X F s a o r:=by
 unfold Qz3 at hr;split at hr
 ·rename_i z k l;obtain⟨C,j⟩:=Zl3.isErr_ok hp k;have hx: ∃v,a.eval x=v/\((z=true/\v= .nilIface)\/(z=false/\ ∃t u,v= .iface t u)):=by
   obtain⟨m,p,q⟩:=W5 h ht l;obtain⟨⟨v,rfl,_,A⟩,_⟩: (∃v,m=[v]/\v.oneCell'=true/\((z=true/\v= .nilIface)\/(z=false/\ ∃t u,v= .iface t u)))/\_:=q;exact⟨v,p,A⟩
  obtain⟨v,hv,hk⟩:=hx;have b: ∀w,(Op.equal e v .nilIface).run P w= .ok z w:=fun w=>by
   obtain⟨d,B⟩: ∃d,Op.maxDepth=d+1:=⟨9999,rfl⟩
   unfold Op.equal;rw[B];rcases hk with⟨rfl,rfl⟩| ⟨rfl,t,u,rfl⟩
   ·simp only[Op.equalIn,Sem.run_bind,run_underlying j,Result.andThen_ok];simp
   ·simp only[Op.equalIn,Sem.run_bind,run_underlying j,Result.andThen_ok];simp
  have g: ∀op w,(eqGuard op e x (.const .nilIface) v .nilIface).run P w= .ok () w:=fun op w=>by
   unfold eqGuard;rcases hk with⟨rfl,rfl⟩| ⟨rfl,t,u,rfl⟩<;>cases op<;>simp
  split at hr
  ·simp only[Osi]at hr;subst hr;refine Yr rfl fun _=>⟨.bool z,fun c _=> ?_,Zsy _⟩
   have i: (Go.binOp .eql e v .nilIface).run P c= .ok (.bool z) c:=by
    rcases hk with⟨rfl,rfl⟩| ⟨rfl,t,u,rfl⟩<;>simp[Go.binOp,b c]
   have f:a.eval (.const .nilIface)= .nilIface:=rfl;simp only[execOp,ho,hv,f,Sem.run_bind,g,Result.andThen_ok,i,Sem.run_pure]
  ·simp only[Osi]at hr;subst hr;refine Yr rfl fun _=>⟨.bool (!z),fun c _=> ?_,Zsy _⟩
   have i: (Go.binOp .neq e v .nilIface).run P c= .ok (.bool (!z)) c:=by
    rcases hk with⟨rfl,rfl⟩| ⟨rfl,t,u,rfl⟩<;>simp[Go.binOp,b c]
   have f:a.eval (.const .nilIface)= .nilIface:=rfl;simp only[execOp,ho,hv,f,Sem.run_bind,g,Result.andThen_ok,i,Sem.run_pure]
  ·cases hr
 ·cases hr
end
end Go.Am
namespace Go.Am
theorem Zl3.ok_of{P:Program}{t:Zl3}(h1: (t.pp.all fun p=>ppB P p.1 p.2)=true)(h2: (t.er.all fun e=>erB P e)=true):t.ok P:=⟨fun p a=>List.all_eq_true.1 h1 p a,fun e b=>List.all_eq_true.1 h2 e b⟩
end Go.Am
namespace Go.Am
open Go.RowKit
abbrev Fl.e:Fl:= .p (.u true) (.u false)
section
variable {P:Program} {g:K9} {W0:Zam g} {w w':World} {X X':Nat->Prop} {B n:Nat} {own:Bool} {s:St} {F:Key->List Nat} {a:Act} {H H':List Nat} {o:Oper} {tg:Xo} {τ:Tab} {gh:Nat->Value}
def Qw3(s:St)(o:Op1)(T:Ty):Option T.den:=Qb6 s o T
theorem Qts(h:R n W0 w X F H s a)(ht:tg.ok W0.gh a){x:Operand}{T:Ty}{y:T.den}(hr:Qw3 s (op1 s tg x) T=some y):
  ∃vs,a.eval x=Xz T vs/\rd w X W0.B false T y vs []:=by
 unfold Qw3 Qb6 at hr;split at hr
 ·rename_i v hv;obtain rfl:=Zw4 hv;obtain⟨vs,c,b⟩:=Zvi (w:=w) (X:=X) (B:=W0.B) (own:=false) hr;exact⟨vs,c,b⟩
 ·split at hr
  ·rename_i U f j d;obtain⟨g,vs,S,c,b,k⟩:=Zfa h ht d;split at hr
   ·rename_i i;cases Zb5 hr;have e:=Zi0 i b;subst e;exact⟨vs,c,Vn (K6 (fun _ h=>h) g b (by simp)) (by simp)⟩
   ·cases hr
  ·cases hr
def Qxh(s:St)(tg:Xo)(t:Ty):Nat->List (Nat×Operand)->Option (List t.den)
 |_,[]=>some []
 |k,(i,y)::r=>match Nat.beq i k,Qw3 s (op1 s tg y) t,Qxh s tg t (k+1) r with
  |true,some z,some l=>some (z::l)
  |_,_,_=>none
theorem Qk1(h:R n W0 w X F H s a)(ht:tg.ok W0.gh a){t:Ty}: ∀{parts:List (Nat×Operand)} {k:Nat} {l:List t.den} {cs:Array Value} {A M C:List Value},
  cs.toList=A++ (M++C)->A.length=k*t.size->M.length=parts.length*t.size->Qxh s tg t k parts=some l->
  ∃vs cs',Instr.fill (fun i=>some (i*t.size,t.size)) cs (parts.map fun p=>(p.1,a.eval p.2))=some cs'/\cs'.toList=A++ (vs++C)/\Zaj (rd w X W0.B false t) l vs []/\l.length=parts.length
 | [],k,l,cs,A,M,C,d,m,o,c=>by
  simp only[Qxh,Osi]at c;subst c;have:M=[]:=List.eq_nil_of_length_eq_zero (by simpa using o);subst this;exact⟨[],cs,rfl,d,⟨rfl,rfl⟩,rfl⟩
 | (i,y)::r,k,l,cs,A,M,C,d,m,o,c=>by
  simp only[Qxh]at c;split at c
  ·rename_i z O e G q;have e:=Onb e;subst e;simp only[Osi]at c;subst c;obtain⟨vs,D,f⟩:=Qts h ht G;have b:=Z0t (Zkc f) (X5 f);have g: (a.eval y).cells.size=t.size:=by rw[D,<-Array.length_toList,b,X5 f]
   have u:M.length=t.size+r.length*t.size:=by rw[o,List.length_cons,Nat.add_mul];omega
   obtain⟨x,E,I⟩:=Zx7 (place:=fun i=>some (i*t.size,t.size)) (i:=i) (rest:=r.map fun p=>(p.1,a.eval p.2)) (v:=a.eval y) rfl (pre:=A) (mid:=M.take t.size) (post:=M.drop t.size++C)
    (by rw[d,<-List.append_assoc (M.take _),List.take_append_drop]) m (by simp;omega) g
   rw[D,b]at E;obtain⟨j,cs',J,K,L,N⟩:=Qk1 h ht (k:=i+1) (cs:=x) (A:=A++vs) (M:=M.drop t.size) (C:=C) (by rw[E];simp) (by simp[m,X5 f,Nat.add_mul]) (by simp[u]) q;exact⟨vs++j,cs',by simpa[I]using J,by rw[K];simp,⟨vs,j,[],[],rfl,rfl,f,L⟩,by simp[N]⟩
  ·cases c
def Z3c(τ:Tab)(s:St)(tg:Xo)(e:TypeId)(len:Nat)(parts:Array (Nat×Operand)):Option Res:=
 match τ e with
 |some (.slice e' t)=>match τ e' with
  |some t2=>match decide (t2=t),Nat.beq parts.size len&&Nat.ble (len*t.size) 16777216 with
   |true,true=>match Qxh s tg t 0 parts.toList with
    |some l=>some ⟨.val (.slice e' t) .e l,s,false,none⟩
    |none=>none
   |_,_=>none
  |none=>none
 |_=>none
theorem Qc9(h:R n W0 w X F H s a)(ht:tg.ok W0.gh a)(hτ:τ.ok P){e:TypeId}{len:Nat}{parts:Array (Nat×Operand)}(ho:o.op= .buildSlice e len parts){r:Res}(hr:Z3c τ s tg e len parts=some r):Zqd P n W0 w X H s a o r:=by
 unfold Z3c at hr;split at hr
 ·rename_i U t I;split at hr
  ·rename_i p J;split at hr
   ·rename_i Z j;split at hr
    ·rename_i l y;simp only[Osi]at hr;subst hr;have:=Ode Z;subst this;simp only[Oba,Nat.ble_eq]at j;have c:=Onb j.1;obtain⟨V,z⟩:=(hτ _ _ I).slice;obtain⟨i,W,q,_,hz⟩:=(hτ _ _ J).size;intro _ K Q hK;obtain⟨d,f⟩: ∃d:Array Value,d=(Array.range (len*i.size)).map ((Xz p (Vh p)).cells[· % (Xz p (Vh p)).cells.size]!):=⟨_,rfl⟩
     have B:d.toList.length=len*p.size:=by rw[f];simp[q]
     obtain⟨L,m,N,k2,Y,k4⟩:=Qk1 h ht (k:=0) (cs:=d) (A:=[]) (M:=d.toList) (C:=[]) (by simp) (by simp) (by rw[B,Array.length_toList,c]) y;have g:l.length=len:=by rw[k4,Array.length_toList,c]
     have D: (execOp a.eval o).run P w= .ok (.value (.slice (some ⟨w.heap.size,0,none⟩) len len)) (w.alloc (.cells m U)):=by
      simp only[execOp,ho,Sem.run_bind];by_cases E:len*i.size=0
      ·have O:len=0:=by
        rcases Nat.mul_eq_zero.1 E with h|h
        ·exact h
        ·omega
       subst O;have S:parts= #[]:=Array.eq_empty_of_size_eq_zero c;subst S;simp only[List.map_nil,Instr.fill,Osi]at N;subst N;simp[Instr.buildSlice,run_underlying V,Go.sizeOf,typeInfo,W,newRow,Instr.fill,f,Array.range_zero']
      ·rw[run_buildSlice w e U len _ m i _ V W hz (by have:=j.2;rw[q];omega) E (by rw[<-f];simpa[q]using N)];simp
     unfold Oper.wp;rw[D];have G:m.toList=L:=by simpa using k2
     refine hK _ X F [w.heap.size] _ (fun _ h=>h) (h.alloc _) ⟨[_],rfl,?_⟩ (fun _=>rfl) ⟨fun _=>Old.alloc _ _,h.kept (Old.alloc _ _)⟩;have u:L.length=len*p.size:=by rw[Zrb (fun _ _ _ h=>X5 h) Y,g]
     refine⟨_,L,rfl,⟨⟨by rw[u,g],.inr ⟨w.heap.size,len,m,by rw[g],h.below.sizeB,Qew _ _,by rw[g];exact Nat.le_refl _,?_,?_,?_⟩⟩,rfl⟩,?_⟩
     ·have:=j.2;have h2:len<=len*p.size:=Nat.le_mul_of_pos_right _ z;simp only[maxLen];omega
     ·rw[<-Array.length_toList,G,u]
     ·rw[G,g,<-u,List.take_length]
     ·exact Kq Y fun x v T _ I hr=>Zdd (fun _ h=>h) (fun b y=>hold w _ b (h.xlt b y)) hr fun b y=>absurd (I b y) (by simp)
    ·cases hr
   ·cases hr
  ·cases hr
 ·cases hr
def Qoj(s:St)(x:Op1):Option ((_:TypeId)×(t:Ty)×List t.den):=
 match Ztc s x with
 |some ⟨.slice e t,.u false,l⟩=>some ⟨e,t,l⟩
 |some ⟨.slice e t,.p (.u true) (.u false),l⟩=>some ⟨e,t,l⟩
 |_=>none
theorem Z9e(h:R n W0 w X F H s a)(ht:tg.ok W0.gh a){x:Operand}{e:TypeId}{t:Ty}{l:List t.den}(hr:Qoj s (op1 s tg x)=some ⟨e,t,l⟩):
  ∃v ys,a.eval x=v/\Zaj (rd w X W0.B false t) l ys []/\ ∃ad cap,v= .slice ad l.length cap/\l.length<=cap/\((ad=none/\l.length=0/\cap=0)\/ ∃a0,ad=some a0/\ ∀j u,ys[j]? =some u->w.cell? (a0.add j)=some u):=by
 unfold Qoj at hr;have fin: ∀{c:Bool} {e:TypeId} {l:List t.den} {v:Value} {b:List Value} {S:List Nat},hdr w X W0.B c e t.size l.length v b S-> ∃ad cap,v= .slice ad l.length cap/\l.length<=cap/\((ad=none/\l.length=0/\cap=0)\/ ∃a0,ad=some a0/\ ∀j u,b[j]? =some u->w.cell? (a0.add j)=some u):=by
  intro c e l v b S m;obtain⟨ad,cap,o,p,_,q⟩:=Zc8 m;exact⟨ad,cap,o,p,q.imp id fun⟨a0,r,_,y⟩=>⟨a0,r,y⟩⟩
 split at hr
 ·rename_i z A C f;simp only[Osi,Sigma.mk.injEq]at hr;obtain⟨rfl,hr⟩:=hr;simp only[heq_eq_eq,Sigma.mk.injEq]at hr;obtain⟨rfl,hr⟩:=hr;cases hr;obtain⟨_,D,S,g,d,E⟩:=Zfa h ht f;unfold rdF at d;have G:=Zgg d;subst G;obtain⟨v,b,J,K,rfl,I,i,k⟩:=d;obtain⟨rfl,rfl⟩:=List.append_eq_nil_iff.1 I.symm;exact⟨v,b,g,k,fin i⟩
 ·rename_i z A C f;simp only[Osi,Sigma.mk.injEq]at hr;obtain⟨rfl,hr⟩:=hr;simp only[heq_eq_eq,Sigma.mk.injEq]at hr;obtain⟨rfl,hr⟩:=hr;cases hr;obtain⟨_,D,S,g,d,E⟩:=Zfa h ht f;obtain⟨v,b,rfl,i,k⟩:=d;exact⟨v,b,g,k,fin i⟩
 ·cases hr
def Qvi(τ:Tab)(s:St)(tg:Xo)(e:TypeId)(x y:Operand):Option Res:=
 match τ e with
 |some (.slice e' t)=>match τ e' with
  |some t2=>match decide (t2=t),Ztj s (op1 s tg x) (.slice e' t)with
   |true,some ⟨.slice e1 t1,.p (.u true) (.u false),l,s1,_⟩=>match decide (e1=e'/\t1=t)with
    |true=>match Qoj s1 (op1 s1 tg y)with
     |some ⟨_,t3,l3⟩=>match Ky (.slice e' t1) (.slice e' t3) l3 with
      |some l4=>some ⟨.val (.slice e' t1) .e (l++l4),s1,true,some (l.length+l4.length<=Qo)⟩
      |none=>none
     |none=>none
    |false=>none
   |_,_=>none
  |none=>none
 |_=>none
theorem Z8t{S1:List Nat}(h:R n W0 w X F (S1++H) s a){e':TypeId}{t:Ty}{v v':Value}{xs ys:List Value}{l l4:List t.den}
  (h1:hdr w X W0.B true e' t.size l.length v xs S1) (h2:Zaj (rd w X W0.B false t) l xs []) (h4:Zaj (rd w X W0.B false t) l4 ys [])
  (g2:w'.ownsRow W0.B e' t.size v' (l.length+l4.length) (xs++ys)) (g3:w.grownBy w' v.ownBlock) (g4:v'.ownBlock=v.ownBlock\/ ∀b,v'.ownBlock=some b->w.heap.size<=b):
  ∃S,R n W0 w' X F (S++H) s a/\rdF w' X W0.B (.slice e' t) .e (l++l4) [v'] S/\(∀b,X b->w'.heap[b]? =w.heap[b]?)/\ ∀k b,b∈F k->w'.heap[b]? =w.heap[b]? :=by
 have i:S1=v.ownBlock.toList:=h1.2;have f: ∀b,b<w.heap.size->b∉S1->w'.heap[b]? =w.heap[b]? :=fun b c A=>g3.block b c (fun e=>A (by rw[i,<-e];simp));have j:=h.hnodup;have o: ∀b,X b->w'.heap[b]? =w.heap[b]? :=fun b c=>f b (h.xlt b c) fun d=>(h.hown b (by simp[d])).2.2 c;have y: ∀k b,b∈F k->w'.heap[b]? =w.heap[b]? :=fun k b c=>f b (h.own k b c).2.1 fun d=>h.hdisj k b c (by simp[d]);have m: ∀b,b∈H->b∉S1:=fun b c d=>(List.nodup_append.1 j).2.2 b d b c rfl;have p:W0.below w':=⟨g3.os.trans h.below.os,g3.tape.trans h.below.tape,g3.output.trans h.below.output,Nat.le_trans h.below.size g3.size,fun k hk=>
  (f k (Nat.lt_of_lt_of_le (W0.yW k hk) h.below.size) fun d=>W0.sep hk (h.hown k (by simp[d])).1 rfl).trans (h.below.block k hk)⟩
 have z:=(h.drop).world p g3.size o y;have q:=g2.lt;have r:R n W0 w' X F (v'.ownBlock.toList++H) s a:=by
  rcases g4 with g4|g4
  ·rw[g4,<-i];refine z.hand (fun b c=> ?_) (List.nodup_append.1 j).1 (fun k b c d=>h.hdisj k b c (by simp[d])) (fun b c d=>m b d c);obtain⟨C,D,E⟩:=h.hown b (by simp[c]);exact⟨C,Nat.lt_of_lt_of_le D g3.size,E⟩
  ·refine z.hand (fun b c=> ?_) (by cases v'.ownBlock<;>simp) (fun k b c d=> ?_) (fun b c d=> ?_)
   ·have c:v'.ownBlock=some b:=by simpa using c
    exact⟨.inl (Nat.le_trans h.below.size (g4 b c)),(q b c).2,fun hx=>by have:=h.xlt b hx;have:=g4 b c;omega⟩
   ·have d:v'.ownBlock=some b:=by simpa using d
    have:=(h.own k b c).2.1;have:=g4 b d;omega
   ·have c:v'.ownBlock=some b:=by simpa using c
    have:=(h.hown b (by simp[d])).2.1;have:=g4 b c;omega
 have g: ∀{l:List t.den} {xs:List Value},Zaj (rd w X W0.B false t) l xs []->Zaj (rd w' X W0.B false t) l xs []:=fun G=>
  Kq G fun x v T _ I u=>Zdd (fun _ h=>h) o u fun b c=>absurd (I b c) (by simp)
 refine⟨v'.ownBlock.toList,r,⟨v',xs++ys,rfl,⟨by simpa using g2,rfl⟩,?_⟩,o,y⟩;exact Zmk (S:=[]) (S':=[]) (g h2) (g h4)
theorem Qsp(h:R n W0 w X F H s a)(ht:tg.ok W0.gh a)(hτ:τ.ok P){e:TypeId}{x y:Operand}(ho:o.op= .call {callee:= .builtin .append,args:= #[x,y],argTypes:= #[e,e]}){r:Res}(hr:Qvi τ s tg e x y=some r):Zqd P n W0 w X H s a o r:=by
 unfold Qvi at hr;split at hr
 ·rename_i e' t G;split at hr
  ·rename_i t2 j;split at hr
   ·rename_i e1 t1 l s1 m1 I hx;have:=Ode I;subst this;obtain⟨_,J,S,vs,C,D,f,_,_⟩:=Zbg h ht hx;split at hr
    ·rename_i k;obtain⟨rfl,rfl⟩:=Ode k;simp only at C D f;obtain⟨v,xs,rfl,E,L⟩:=D;split at hr
     ·rename_i e3 t3 l3 M;split at hr
      ·rename_i l4 p;simp only[Osi]at hr;have:=Zb5 p;cases this;subst hr;obtain⟨N,ys,O,q,U⟩:=Z9e f ht M;intro g K Q V;obtain⟨u,i,W,Y,Z,u4⟩:=Zzw (P:=P) (hτ _ _ G) (hτ _ _ j) E.1 U (Zrb (fun _ _ _ h=>X5 h) q) (Zv2 (fun _ _ _ h=>Zkc h) q) g h.below.sizeB;obtain⟨S',z1,z2,z3,z4⟩:=Z8t f E L q Y Z u4;have z:a.eval x=v:=C;have c: (execOp a.eval o).run P w= .ok (.value u) i:=by
        simp only[execOp,ho];have A: (Builtin.append_ #[e,e] o.type #[v,N]).run P w= .ok u i:=W;simp[resolve,invoke,builtin,z,O,A]
       have d:Qlu W0.gh X s a none w i:=by
        intro b B;rcases B with B| ⟨r,h1,_,h2⟩
        ·exact z3 b B
        ·obtain⟨S,h3⟩:=f.boxIn (Zp9 hx h1) h2;exact z4 (.m r) b (by rw[h3];simp)
       unfold Oper.wp;rw[c];exact V _ X J S' i (fun _ h=>h) z1 ⟨[u],rfl,z2⟩ (by simp) ⟨fun g=>(by rw[ho]at g;cases g),d⟩
      ·cases hr
     ·cases hr
    ·cases hr
   ·cases hr
  ·cases hr
 ·cases hr
def Qc3(sf:Bool)(τ:Tab)(s:St)(tg:Xo)(e:TypeId)(x y:Operand):Option Res:=
 match τ e,sf with
 |some (.slice e' t),false=>match τ e' with
  |some t2=>match decide (t2=t),Ztj s (op1 s tg x) (.slice e' t)with
   |true,some ⟨.slice e1 t1,.u true,l,s1,_⟩=>match decide (e1=e'/\t1=t)with
    |true=>match Qoj s1 (op1 s1 tg y)with
     |some ⟨_,t3,l3⟩=>match Ky (.slice e' t1) (.slice e' t3) l3 with
      |some l4=>some ⟨.val (.slice e' t1) .e (l++l4),s1,true,some (l.length+l4.length<=Qo)⟩
      |none=>none
     |none=>none
    |false=>none
   |_,_=>none
  |none=>none
 |_,_=>none
theorem Qou(hs0:g.soft=false)(h:R n W0 w X F H s a)(ht:tg.ok W0.gh a)(hτ:τ.ok P){e:TypeId}{x y:Operand}(ho:o.op= .call {callee:= .builtin .append,args:= #[x,y],argTypes:= #[e,e]}){sf:Bool}{r:Res}(hr:Qc3 sf τ s tg e x y=some r):Zqd P n W0 w X H s a o r:=by
 unfold Qc3 at hr;split at hr
 ·rename_i e' t z;split at hr
  ·rename_i t2 A;split at hr
   ·rename_i e1 W l Y m1 hd hx;have:=Ode hd;subst this;obtain⟨_,C,S,vs,Z,D,d,_,_⟩:=Zbg h ht hx;split at hr
    ·rename_i E;obtain⟨rfl,rfl⟩:=Ode E;simp only at Z D d;unfold rdF at D;obtain⟨v,xs,G,I,rfl,rfl,k1,k2⟩:=D;split at hr
     ·rename_i e3 t3 l3 hy;split at hr
      ·rename_i l4 J;simp only[Osi]at hr;have:=Zb5 J;cases this;subst hr;have c:=d.hnodup;have f:R n W0 w X C (G++H) Y a:=d.sub (fun b hb=>by simp only[List.mem_append]at hb⊢;grind) (by
        simp only[List.nodup_append,List.mem_append]at c⊢
        grind)
       have L:R n W0 w (fun b=>X b\/b∈I) C (G++H) Y a:=by
        refine R.xup hs0 f (fun _ h=> .inl h) (fun b hb=>hb.elim (f.xlt b) fun hb=>(d.hown b (by simp[hb])).2.1) (fun b hb=>hb.elim (f.xin b) fun hb=> .inr (d.hown b (by simp[hb])).1) (fun k b hb hx=> ?_) (fun b hb hx=> ?_)
        ·rcases hx with hx|hx
         ·exact(f.own k b hb).2.2 hx
         ·exact d.hdisj k b hb (by simp[hx])
        ·rcases hx with hx|hx
         ·exact(f.hown b hb).2.2 hx
         ·simp only[List.nodup_append,List.mem_append]at c;simp only[List.mem_append]at hb;rcases hb with hb|hb
          ·exact c.1.2.2 b hb b hx rfl
          ·exact c.2.2 b (.inr hx) b hb rfl
       have i:hdr w (fun b=>X b\/b∈I) W0.B true e1 W.size l.length v xs G:=Qev k1 (fun _ h=> .inl h) (fun _ _=>rfl) (fun _ _=>rfl);have M:Zaj (rd w (fun b=>X b\/b∈I) W0.B false W) l xs []:=Zp3 k2 fun _ _ _ _ z h=>Zgf (fun _ h=> .inl h) h fun b hb=> .inr (z b hb);obtain⟨vy,ys,g1,N,hc⟩:=Z9e L ht hy;intro q K Q hK;obtain⟨O,u,u1,u2,u3,u4⟩:=Zzw (P:=P) (hτ _ _ z) (hτ _ _ A) i.1 hc (Zrb (fun _ _ _ h=>X5 h) N) (Zv2 (fun _ _ _ h=>Zkc h) N) q h.below.sizeB;obtain⟨S',z1,z2,z3,z4⟩:=Z8t L i M N u2 u3 u4;have U:a.eval x=v:=Z;have j: (execOp a.eval o).run P w= .ok (.value O) u:=by
        simp only[execOp,ho];have V: (Builtin.append_ #[e,e] o.type #[v,vy]).run P w= .ok O u:=u1;simp[resolve,invoke,builtin,U,g1,V]
       have p:Qlu W0.gh X s a none w u:=by
        intro b hb;rcases hb with hb| ⟨r,h1,_,h2⟩
        ·exact z3 b (.inl hb)
        ·obtain⟨S,h3⟩:=L.boxIn (Zp9 hx h1) h2;exact z4 (.m r) b (by rw[h3];simp)
       unfold Oper.wp;rw[j];exact hK _ _ C S' u (fun _ h=> .inl h) z1 ⟨[O],rfl,z2⟩ (by simp) ⟨fun q=>(by rw[ho]at q;cases q),p⟩
      ·cases hr
     ·cases hr
    ·cases hr
   ·cases hr
  ·cases hr
 ·cases hr
theorem R.frzE(hs0:g.soft=false)(h:R n W0 w X F H s a){k:Nat}{e:TypeId}{t:Ty}{x:List t.den}(hg:s.get (.m k)= .val (.slice e t) (.u true) x):
  ∃X' F',R n W0 w X' F' H (Zua s k (.val (.slice e t) .e x)) a:=by
 have E:=h.slots (.m k);rw[hg]at E;obtain⟨N,hv,G⟩:=E;unfold rdF at G;obtain⟨v,xs,B,I,rfl,q,K,L⟩:=G;have r:=h.nodup (.m k);rw[q]at r;have C:Z1g W0.gh w w s (Zua s k (.val (.slice e t) .e x)) F (Qg F (.m k) B) a k (.val (.slice e t) .e x):=Zpv ⟨by rw[Kr];simp,fun p v U hv=>by
  unfold Xi at hv⊢;rw[hg]at hv;rw[Kr];simpa using hv⟩
 have f: ∀b∈I,b∈F (.m k):=fun b c=>by rw[q];simp[c]
 refine⟨fun b=>X b\/b∈I,Qg F (.m k) B,?_⟩;exact
 {size:=h.size
  defers:=h.defers
  below:=h.below
  glob:=h.glob
  gx:=fun b c=> .inl (h.gx b c)
  xs:=fun e=>by rw[hs0]at e;cases e
  fix:=h.fix
  xlt:=fun b c=>c.elim (h.xlt b) fun c=>(h.own _ b (f b c)).2.1
  xin:=fun b c=>c.elim (h.xin b) fun c=> .inr (h.own _ b (f b c)).1
  x0:=fun b c=> .inl (h.x0 b c)
  own:=fun j b c=>by
   simp only[Qg]at c;split at c
   ·obtain⟨o,y,z⟩:=h.own (.m k) b (by rw[q];simp[c]);exact⟨o,y,fun hx=>hx.elim z fun hk=>(List.nodup_append.1 r).2.2 b c b hk rfl⟩
   ·rename_i A;obtain⟨o,y,z⟩:=h.own j b c;exact⟨o,y,fun hx=>hx.elim z fun hk=>A (h.disj j (.m k) b c (f b hk))⟩
  nodup:=fun j=>by
   simp only[Qg];split
   ·exact(List.nodup_append.1 r).1
   ·exact h.nodup j
  disj:=fun j J b c l=>by
   simp only[Qg]at c l;split at c<;>split at l
   ·rename_i M q;rw[M,q]
   ·exact absurd (h.disj (.m k) J b (by rw[q];simp[c]) l).symm (by assumption)
   ·exact absurd (h.disj j (.m k) b c (by rw[q];simp[l])) (by assumption)
   ·exact h.disj j J b c l
  hown:=fun b c=>let⟨o,y,z⟩:=h.hown b c;⟨o,y,fun hx=>hx.elim z fun hk=>h.hdisj _ b (f b hk) c⟩
  hnodup:=h.hnodup
  hdisj:=fun j b c=>by
   simp only[Qg]at c;split at c
   ·exact h.hdisj (.m k) b (by rw[q];simp[c])
   ·exact h.hdisj j b c
  comps:=fun d i D=>by
   rw[Kr]at D⊢;simp only[reduceCtorEq,if_false]at D;obtain⟨o,y⟩:=h.comps d i D;by_cases e:k=d
   ·subst e;rw[hg]at o;cases o
   ·exact⟨by simpa[e]using o,y⟩
  slots:=fun j=>by
   by_cases A:j= .m k
   ·subst A;rw[Kr];simp only[if_true,Qg];exact⟨[v],hv,v,xs,rfl,Qev K (fun _ h=> .inl h) (fun _ _=>rfl) (fun _ _=>rfl),Zp3 L fun _ _ _ _ C h=>Zgf (fun _ h=> .inl h) h fun b c=> .inr (C b c)⟩
   ·have e:Qg F (.m k) B j=F j:=by simp[Qg,A]
    rw[Kr,e];simp only[Ne.symm A,if_false];exact Qon C (fun _ h=> .inl h) (fun _ _=>rfl) (fun _ _ _ _=>rfl) (fun _ _=>rfl) (fun e O P Q b S c=>by rw[hg]at c;cases c) (h.slots j)}
end
end Go.Am
namespace Go.Am
open Go.RowKit
def Key.up:Key->Key| .m t=> .m (t+big)| .c t i=> .c (t+big) i
def upT:Tm->Tm| .ptr r p=> .ptr (r+big) p| .bor r p=> .bor (r+big) p| .elp r p i q=> .elp (r+big) p i q| .bel r p i q=> .bel (r+big) p i q| .aep r p i=> .aep (r+big) p i| .pls h l=> .pls h (l.map fun q=>(q.1+big,q.2))| .cl f l=> .cl f (l.map (· +big))| .gd g w t=> .gd (g+big) w (upT t)|t=>t
def upE:List (Key×Tm)->List (Key×Tm)| []=>[]| (k,t)::r=>(k.up,upT t)::upE r
def Qiz:List Tm->Nat->List (Key×Tm)| [],_=>[]|t::ts,i=>(.m i,upT t)::Qiz ts (i+1)
def Qb2(s:St)(ts:List Tm):St:={env:=Qiz ts 0++upE s.env,dirty:=s.dirty.map (· +big),lent:=s.lent.map (· +big)}
theorem Key.up_inj{k j:Key}:k.up=j.up↔k=j:=by
 cases k<;>cases j<;>simp[Key.up]
theorem Qxb: ∀(l:List (Key×Tm)) (k:Key),Zf8 (upE l) k.up=upT (Zf8 l k)
 | [],k=>rfl
 | (j,t)::r,k=>by
  simp only[upE,Z2,Key.up_inj];split
  ·rfl
  ·exact Qxb r k
theorem Qol: ∀(l:List (Key×Tm)) (k:Key),k.t<big->Zf8 (upE l) k= .junk
 | [],_,_=>rfl
 | (j,t)::r,k,hk=>by
  simp only[upE,Z2];rw[if_neg (fun e=>by subst e;cases j<;>simp only[Key.up,Key.t]at hk<;>omega),Qol r k hk]
theorem Qwo: ∀(ts:List Tm) (i:Nat) (E:List (Key×Tm)) (k:Key),i+ts.length<=big->Zf8 (Qiz ts i++E) k.up=Zf8 E k.up
 | [],_,_,_,_=>rfl
 |t::ts,i,E,k,h=>by
  simp only[Qiz,List.cons_append,Z2];simp only[List.length_cons]at h;rw[if_neg (fun e=>by cases k<;>simp[Key.up]at e;omega),Qwo ts (i+1) E k (by omega)]
theorem Q22: ∀(ts:List Tm) (i j:Nat) (E:List (Key×Tm)) (t:Tm),ts[j]? =some t->Zf8 (Qiz ts i++E) (.m (i+j))=upT t
 | [],_,_,_,_,h=>by simp at h
 |u::ts,i,j,E,t,h=>by
  simp only[Qiz,List.cons_append,Z2];cases j with
  |zero=>simp only[List.getElem?_cons_zero,Osi]at h;subst h;simp
  |succ j=>
   rw[if_neg (by simp),show i+ (j+1)=(i+1)+j from by omega];exact Q22 ts (i+1) j E t (by simpa using h)
theorem Qfe: ∀(ts:List Tm) (i:Nat) (E:List (Key×Tm)) (k:Key),(∀t,k= .m t->t<i\/i+ts.length<=t)->Zf8 (Qiz ts i++E) k=Zf8 E k
 | [],_,_,_,_=>rfl
 |u::ts,i,E,k,h=>by
  simp only[Qiz,List.cons_append,Z2];rw[if_neg (fun e=>by have:=h i e.symm;simp only[List.length_cons]at this;omega)];exact Qfe ts (i+1) E k fun t e=>by have:=h t e;simp only[List.length_cons]at this;omega
section
variable {P:Program} {g:K9} {W0:Zam g} {w w':World} {X X':Nat->Prop} {B B' n:Nat} {own:Bool} {s:St} {F:Key->List Nat} {a:Act} {H H':List Nat} {o:Oper} {tg:Xo} {τ:Tab} {gh:Nat->Value}
theorem Q8x(m x c:Nat):Nat.beq (m+c) (x+c)=Nat.beq m x:=by
 cases h:Nat.beq m x
 ·cases h2:Nat.beq (m+c) (x+c)
  ·rfl
  ·have:=Onb h2;have:m=x:=by omega
   subst this;rw[Nat.beq_refl]at h;cases h
 ·rw[Onb h,Nat.beq_refl]
theorem Q1w(m c:Nat): ∀l:List Nat,(l.map (· +c)).any (Nat.beq (m+c))=l.any (Nat.beq m)
 | []=>rfl
 |x::l=>by simp only[List.map_cons,List.any_cons,Q8x,Q1w m c l]
theorem Z59{s:St}{ts:List Tm}{m:Nat}: (Qb2 s ts).foul (m+big)=s.foul m:=Q1w m big s.dirty
theorem Qzw{s:St}{ts:List Tm}{r:Nat}: ∀{p:List Nat},(Qb2 s ts).bad (r+big) p=s.bad r p
 | []=>by
  simp only[St.bad,Z59];rw[show Z88 (r+big)=Z88 r+big from Nat.add_right_comm _ _ _,Z59]
 |i::_=>by
  simp only[St.bad,Z59];rw[show Z87 (r+big) i=Z87 r i+big from Nat.add_right_comm _ _ _,Z59]
theorem Q6o{s:St}{ts:List Tm}{r:Nat}: (Qb2 s ts).foul (Zkx (r+big))=s.foul (Zkx r):=by
 rw[show Zkx (r+big)=Zkx r+big from Nat.add_right_comm _ _ _,Z59]
def Qwy(gh:Nat->Value)(a:Act)(t:Nat):Value:=if t<big then undef else Zlw gh a (t-big)
def Zam.push(z:Zam g)(a:Act):Zam g:=
 {z with
  gh:=Qwy z.gh a
  ghU:=fun t ht=>by unfold Qwy;rw[if_pos ht]
  fix:=z.fix.map fun p=>(p.1+big,p.2)}
theorem Q9h(z:Zam g)(a:Act)(t:Nat): (z.push a).gh (t+big)=Zlw z.gh a t:=by
 have b: ¬(t+big<big):=by omega
 have c: (z.push a).gh=Qwy z.gh a:=rfl;rw[c];unfold Qwy;rw[if_neg b,Nat.add_sub_cancel]
theorem Zrd{a':Act}(ha:a'.tmps.size<=big)(t:Nat):Zlw (W0.push a).gh a' (t+big)=Zlw W0.gh a t:=by
 have h:a'.tmps[t+big]? =none:=Array.getElem?_eq_none (by omega);rw[Zlw,h];exact Q9h W0 a t
theorem Qzg{a':Act}(ha:a'.tmps.size<=big)(k:Key):Qp (W0.push a).gh a' k.up=Qp W0.gh a k:=by
 cases k with
 |m t=>exact Zrd ha t
 |c t i=>simp only[Key.up,Qp,Zrd ha]
def upF(F:Key->List Nat):Key->List Nat| .m t=>if t<big then[]else F (.m (t-big))| .c t i=>if t<big then[]else F (.c (t-big) i)
theorem Q1p(k:Key):upF F k.up=F k:=by
 cases k with
 |m t=>simp only[upF,Key.up];rw[if_neg (by omega),Nat.add_sub_cancel]
 |c t i=>simp only[upF,Key.up];rw[if_neg (by omega),Nat.add_sub_cancel]
theorem Qxc{k:Key}{b:Nat}(h:b∈upF F k): ∃j:Key,k=j.up/\b∈F j:=by
 cases k with
 |m t=>
  simp only[upF]at h;split at h
  ·cases h
  ·exact⟨.m (t-big),by simp only[Key.up];congr 1;omega,h⟩
 |c t i=>
  simp only[upF]at h;split at h
  ·cases h
  ·exact⟨.c (t-big) i,by simp only[Key.up];congr 1;omega,h⟩
theorem Xbn{ts:List Tm}(hts:ts.length<=big){a':Act}(ha:a'.tmps.size<=big){v:Value}{S:List Nat}: ∀{t:Tm},vt W0.gh w X B s F a v S t->
  vt (W0.push a).gh w X B (Qb2 s ts) (upF F) a' v S (upT t):=by
 have C: ∀r,(Qb2 s ts).get (.m (r+big))=upT (s.get (.m r)):=fun r=>by
  show Zf8 (Qiz ts 0++upE s.env) (Key.up (.m r))=_;rw[Qwo _ _ _ _ (by omega),Qxb];rfl
 have D: ∀r,upF F (.m (r+big))=F (.m r):=fun r=>Q1p (.m r);have G: ∀{r p v},atP s F r p v->atP (Qb2 s ts) (upF F) (r+big) p v:=fun {r p v} ⟨e,T,f,x,b,H,c,d,n⟩=>
  ⟨e,T,f,x,b,H,by rw[C,c];rfl,by rw[D];exact d,n⟩
 have hv: ∀{r p v U},Xi W0.gh w s F a r p v U->Xi (W0.push a).gh w (Qb2 s ts) (upF F) a' (r+big) p v U:=fun {r p v U} h=>by
  unfold Xi at h⊢;rw[C,D];cases I:s.get (.m r)<;>rw[I]at h<;>simp only[upT]at h⊢
  ·exact⟨h.1,h.2.1,h.2.2.trans (Zrd ha r).symm⟩
  ·exact h
 intro t h
 induction t with
 |junk=>exact h
 |tup=>exact h
 |val T f x=>exact h
 |box e T f x=>exact h
 |shp T x=>exact h
 |ptr r p=>exact⟨h.1,G h.2⟩
 |bor r p=>exact⟨h.1,fun g=>let⟨U,hU⟩:=h.2 (Qzw▸g);⟨U,hv hU⟩⟩
 |elp r p i q=>exact⟨h.1,fun g=>let⟨e,t,z,m,cap,k1,k2⟩:=h.2 (Qzw▸g);⟨e,t,z,m,cap,hv k1,k2⟩⟩
 |bel r p i q=>exact⟨h.1,fun g I=>let⟨e,t,z,m,cap,x0,y,cs,k1,k2,k3,k4,k5⟩:=h.2 (Qzw▸g) (Q6o▸I);⟨e,t,z,m,cap,x0,y,cs,hv k1,k2,k3,by rw[D];exact k4,k5⟩⟩
 |aep r p i=>
  obtain⟨k,e,T,f,x,b,H,m,Q,y,c,d,n⟩:=h;exact⟨k,e,T,f,x,b,H,m,Q,y,by rw[C,c];rfl,by rw[D];exact d,n⟩
 |pls Z l=>
  obtain⟨k,z,J,c,d,n,V,W⟩:=h;refine⟨k,z,J,c,d,by simpa using n,fun j q A=> ?_,by simpa using W⟩;simp only[List.getElem?_map,Option.map_eq_some_iff]at A;obtain⟨K,o,rfl⟩:=A;obtain⟨u,L,M⟩:=V j K o;exact⟨u,L,G M⟩
 |cl f l=>
  obtain⟨k,J,c,d,n⟩:=h;refine⟨k,J,c,by simpa using d,fun j q A=> ?_⟩;simp only[List.getElem?_map,Option.map_eq_some_iff]at A;obtain⟨K,o,rfl⟩:=A;obtain⟨u,L,M⟩:=n j K o;exact⟨u,L,G M⟩
 |gd E O t Y=>
  intro g;rw[Z59]at g;obtain⟨k,c,d⟩:=h g;have P:Qp (W0.push a).gh a' (.m (E+big))=Qp W0.gh a (.m E):=Zrd ha E;refine⟨?_,fun N=>Y (c (P▸N)),fun N=>d (P▸N)⟩;rw[C];generalize s.get (.m E)=u at k;cases u<;>simp[upT]at k⊢
theorem R.push(h:R n W0 w X F [] s a){ts:List Tm}{vs:List Value}{m:Nat}(hl:ts.length=vs.length)(hm:ts.length<=m)(hb:m<=big)(hts: ∀(i:Nat) t,ts[i]? =some t-> ∃v,vs[i]? =some v/\vt W0.gh w X W0.B s F a v [] t):
  R m (W0.push a) w X (upF F) [] (Go.Am.Qb2 s ts) {tmps:=vs.toArray++Array.replicate (m-vs.toArray.size) undef,defers:=[]}:=by
 generalize r: ({tmps:=vs.toArray++Array.replicate (m-vs.toArray.size) undef,defers:=[]}:Act)=a';have u:a'.tmps.size=m:=by rw[<-r];simp;omega
 have o:ts.length<=big:=by omega
 have f: ∀k:Key,(Go.Am.Qb2 s ts).get k.up=upT (s.get k):=fun k=>by
  show Zf8 (Qiz ts 0++upE s.env) k.up=_;rw[Qwo _ _ _ _ (by omega),Qxb];rfl
 have g: ∀k:Key,k.t<big\/ ∃j:Key,k=j.up:=fun k=>by
  cases k with
  |m t=>
   rcases Nat.lt_or_ge t big with h|h
   ·exact .inl h
   ·exact .inr ⟨.m (t-big),by simp only[Key.up];congr 1;omega⟩
  |c t i=>
   rcases Nat.lt_or_ge t big with h|h
   ·exact .inl h
   ·exact .inr ⟨.c (t-big) i,by simp only[Key.up];congr 1;omega⟩
 exact
 {size:=u
  defers:=by rw[<-r]
  below:=⟨h.below.os,h.below.tape,h.below.output,h.below.size,h.below.block⟩
  glob:=h.glob
  gx:=h.gx
  xs:=h.xs
  fix:=fun p E=>by
   simp only[Zam.push,List.mem_map]at E;obtain⟨q,I,rfl⟩:=E;obtain⟨x,y⟩:=h.fix q I;exact⟨by simp only[Go.Am.Qb2,List.mem_map];exact⟨_,x,rfl⟩,(Zrd (by omega) q.1).trans y⟩
  xlt:=h.xlt
  xin:=h.xin
  x0:=h.x0
  own:=fun k b hb=>by obtain⟨j,_,l⟩:=Qxc hb;exact h.own j b l
  nodup:=fun k=>by
   rcases g k with hk| ⟨j,rfl⟩
   ·have:upF F k=[]:=by cases k<;>simp only[upF,Key.t]at hk⊢ <;>rw[if_pos hk]
    rw[this];simp
   ·rw[Q1p];exact h.nodup j
  disj:=fun k N b hb z=>by
   obtain⟨j,rfl,l⟩:=Qxc hb;obtain⟨J,rfl,A⟩:=Qxc z;rw[h.disj j J b l A]
  hown:=by simp
  hnodup:=by simp
  hdisj:=by simp
  comps:=fun d i C=>by
   rcases g (.c d i)with hk| ⟨j,l⟩
   ·exfalso;apply C;show Zf8 (Qiz ts 0++upE s.env) _=_;rw[Qfe _ _ _ _ (fun t e=>by cases e),Qol _ _ hk]
   ·cases j with
    |m t=>simp[Key.up]at l
    |c t O=>
     simp only[Key.up,Key.c.injEq]at l;obtain⟨rfl,rfl⟩:=l;have G:=f (.c t i);have H:=f (.m t);simp only[Key.up]at G H;rw[G]at C;obtain⟨x,K,y,L⟩:=h.comps t i (fun e=>C (by rw[e];rfl));exact⟨by rw[H,x];rfl,K,(Zrd (by omega) t).trans y,L⟩
  slots:=fun k=>by
   rcases g k with hk| ⟨j,rfl⟩
   ·have M:upF F k=[]:=by cases k<;>simp only[upF,Key.t]at hk⊢ <;>rw[if_pos hk]
    rw[M];cases k with
    |c t i=>
     have: (Go.Am.Qb2 s ts).get (.c t i)= .junk:=by
      show Zf8 (Qiz ts 0++upE s.env) _=_;rw[Qfe _ _ _ _ (fun t e=>by cases e),Qol _ _ hk]
     rw[this];rfl
    |m t=>
     rcases Nat.lt_or_ge t ts.length with ht|ht
     ·have e: (Go.Am.Qb2 s ts).get (.m t)=upT ts[t]:=by
       have:=Q22 ts 0 t (upE s.env) ts[t] (List.getElem?_eq_getElem ht);rw[Nat.zero_add]at this;exact this
      rw[e];obtain⟨v,hv,D⟩:=hts t ts[t] (List.getElem?_eq_getElem ht);have:Qp (W0.push a).gh a' (.m t)=v:=by
       show Zlw _ _ _=_;unfold Zlw;have:a'.tmps[t]? =some v:=by
        rw[<-r];simp only;rw[Array.getElem?_append_left (by simp;omega)];simpa using hv
       rw[this]
      rw[this];exact Xbn o (by omega) D
     ·have: (Go.Am.Qb2 s ts).get (.m t)= .junk:=by
       show Zf8 (Qiz ts 0++upE s.env) _=_;rw[Qfe _ _ _ _ (fun P e=>by cases e;right;omega),Qol _ _ hk]
      rw[this];rfl
   ·rw[f,Q1p,Qzg (by omega)];exact Xbn o (by omega) (h.slots j)}
def geB(r:Nat):Bool:=Nat.ble big r
def dnT(s:St):Tm->Tm
 | .ptr r p=>match geB r with|true=> .ptr (r-big) p|false=> .junk
 | .bor r p=>match geB r&& !(s.bad r p)with|true=> .bor (r-big) p|false=> .junk
 | .elp r p i q=>match geB r&& !(s.bad r p)with|true=> .elp (r-big) p i q|false=> .junk
 | .bel r p i q=>match geB r&& !(s.bad r p)&& !(s.foul (Zkx r))with|true=> .bel (r-big) p i q|false=> .junk
 | .aep r p i=>match geB r with|true=> .aep (r-big) p i|false=> .junk
 | .pls h l=>match l.all fun q=>geB q.1 with|true=> .pls h (l.map fun q=>(q.1-big,q.2))|false=> .junk
 | .cl f l=>match l.all geB with|true=> .cl f (l.map (· -big))|false=> .junk
 | .gd _ _ _=> .junk
 |t=>t
def dnE(s:St):List (Key×Tm)->List (Key×Tm)
 | []=>[]
 | (.m t,u)::r=>match geB t with|true=>(.m (t-big),dnT s u)::dnE s r|false=>dnE s r
 | (.c t i,u)::r=>match geB t with|true=>(.c (t-big) i,dnT s u)::dnE s r|false=>dnE s r
def dnL:List Nat->List Nat
 | []=>[]
 |r::l=>match geB r with|true=>(r-big)::dnL l|false=>dnL l
def pop(s:St):St:={env:=dnE s s.env,dirty:=[],lent:=dnL s.lent}
theorem Zii{r:Nat}:geB r=true↔big<=r:=by simp[geB]
theorem Z55(s:St): ∀(l:List (Key×Tm)) (k:Key),Zf8 (dnE s l) k=dnT s (Zf8 l k.up)
 | [],k=>rfl
 | (.m t,u)::r,k=>by
  simp only[dnE];cases hb:geB t
  ·have: ¬big<=t:=fun h=>by rw[Zii.2 h]at hb;cases hb
   simp only[Z2];rw[if_neg (fun e=>by cases k<;>simp[Key.up]at e;omega),Z55 s r k]
  ·have:=Zii.1 hb;simp only[Z2];by_cases hk:k= .m (t-big)
   ·subst hk;rw[if_pos rfl,if_pos (by simp only[Key.up];congr 1;omega)]
   ·rw[if_neg (Ne.symm hk),if_neg (fun e=>hk (by cases k<;>simp[Key.up]at e;simp;omega)),Z55 s r k]
 | (.c t i,u)::r,k=>by
  simp only[dnE];cases hb:geB t
  ·have: ¬big<=t:=fun h=>by rw[Zii.2 h]at hb;cases hb
   simp only[Z2];rw[if_neg (fun e=>by cases k<;>simp[Key.up]at e;omega),Z55 s r k]
  ·have:=Zii.1 hb;simp only[Z2];by_cases hk:k= .c (t-big) i
   ·subst hk;rw[if_pos rfl,if_pos (by simp only[Key.up];congr 1;omega)]
   ·rw[if_neg (Ne.symm hk),if_neg (fun e=>hk (by cases k<;>simp[Key.up]at e;simp;omega)),Z55 s r k]
theorem Qvt: ∀{l:List Nat} {r:Nat},r+big∈l->r∈dnL l
 |x::l,r,h=>by
  simp only[dnL];rcases List.mem_cons.1 h with e|h
  ·rw[show geB x=true from Zii.2 (by omega)];simp;left;omega
  ·cases geB x
   ·exact Qvt h
   ·exact List.mem_cons_of_mem _ (Qvt h)
def dnF(s:St)(F:Key->List Nat):Key->List Nat:=fun k=>match(pop s).get k with| .junk=>[]|_=>F k.up
theorem Qvs{k:Key}(h: (pop s).get k≠ .junk):dnF s F k=F k.up:=by
 unfold dnF;cases hk: (pop s).get k<;>first|rfl|exact absurd hk h
theorem Qn8{k:Key}{b:Nat}(h:b∈dnF s F k):b∈F k.up:=by
 unfold dnF at h;split at h
 ·cases h
 ·exact h
theorem Xbm{a':Act}(ha:a'.tmps.size<=big){v:Value}{S:List Nat}: ∀{t:Tm},vt (W0.push a).gh w X B s F a' v S t->dnT s t≠ .junk->
  vt W0.gh w X B (pop s) (dnF s F) a v S (dnT s t):=by
 have I: ∀r,(pop s).get (.m r)=dnT s (s.get (.m (r+big))):=fun r=>Z55 s s.env (.m r);have d: ∀{r:Nat},big<=r->r-big+big=r:=fun h=>by omega
 have K: ∀{r p v},big<=r->atP s F r p v->atP (pop s) (dnF s F) (r-big) p v:=fun {r p v} g ⟨e,T,f,x,b,L,o,z,A⟩=>by
  have k: (pop s).get (.m (r-big))= .box e T f x:=by rw[I,d g,o];rfl
  exact⟨e,T,f,x,b,L,k,by rw[Qvs (by rw[k];simp)];simp only[Key.up];rw[d g];exact z,A⟩
 have V: ∀{r p v U},big<=r->Xi (W0.push a).gh w s F a' r p v U->dnF s F (.m (r-big))=F (.m r):=fun {r p v U} g h=>by
  have: (pop s).get (.m (r-big))≠ .junk:=by
   rw[I,d g];unfold Xi at h;cases he:s.get (.m r)<;>rw[he]at h<;>simp[dnT]at h⊢
  rw[Qvs this];simp only[Key.up];rw[d g]
 have hv: ∀{r p v U},big<=r->Xi (W0.push a).gh w s F a' r p v U->Xi W0.gh w (pop s) (dnF s F) a (r-big) p v U:=fun {r p v U} g h=>by
  have M:=V g h;unfold Xi at h⊢;rw[I,d g,M];cases he:s.get (.m r)<;>rw[he]at h<;>simp only[dnT]at h⊢
  ·refine⟨h.1,h.2.1,h.2.2.trans ?_⟩;have:=Zrd (W0:=W0) (a:=a) ha (r-big);rw[d g]at this;exact this
  ·exact h
 intro t h c;cases t with
 |junk=>exact h
 |tup=>exact h
 |val T f x=>exact h
 |box e T f x=>exact h
 |shp T x=>exact h
 |ptr r p=>
  simp only[dnT]at c⊢;cases hb:geB r<;>simp only[hb]at c⊢
  ·exact absurd rfl c
  ·exact⟨h.1,K (Zii.1 hb) h.2⟩
 |bor r p=>
  simp only[dnT]at c⊢;cases hb: (geB r&& !(s.bad r p))<;>simp only[hb]at c⊢
  ·exact absurd rfl c
  ·simp only[Oba,Bool.not_eq_true']at hb;obtain⟨U,Y⟩:=h.2 hb.2;exact⟨h.1,fun _=>⟨U,hv (Zii.1 hb.1) Y⟩⟩
 |elp r p i q=>
  simp only[dnT]at c⊢;cases hb: (geB r&& !(s.bad r p))<;>simp only[hb]at c⊢
  ·exact absurd rfl c
  ·simp only[Oba,Bool.not_eq_true']at hb;obtain⟨e,t,D,m,C,J,N⟩:=h.2 hb.2;exact⟨h.1,fun _=>⟨e,t,D,m,C,hv (Zii.1 hb.1) J,N⟩⟩
 |bel r p i q=>
  simp only[dnT]at c⊢;cases hb: (geB r&& !(s.bad r p)&& !(s.foul (Zkx r)))<;>simp only[hb]at c⊢
  ·exact absurd rfl c
  ·simp only[Oba,Bool.not_eq_true']at hb;obtain⟨e,t,D,m,C,Z,y,cs,J,N,k3,k4,k5⟩:=h.2 hb.1.2 hb.2;exact⟨h.1,fun _ _=>⟨e,t,D,m,C,Z,y,cs,hv (Zii.1 hb.1.1) J,N,k3,by rw[V (Zii.1 hb.1.1) J];exact k4,k5⟩⟩
 |aep r p i=>
  simp only[dnT]at c⊢;cases hb:geB r<;>simp only[hb]at c⊢
  ·exact absurd rfl c
  ·obtain⟨E,e,T,f,x,b,L,m,t',y,o,z,A⟩:=h;have g:=Zii.1 hb;have k: (pop s).get (.m (r-big))= .box e T f x:=by rw[I,d g,o];rfl
   exact⟨E,e,T,f,x,b,L,m,t',y,k,by rw[Qvs (by rw[k];simp)];simp only[Key.up];rw[d g];exact z,A⟩
 |pls hh l=>
  simp only[dnT]at c⊢;cases hb: (l.all fun q=>geB q.1)<;>simp only[hb]at c⊢
  ·exact absurd rfl c
  ·obtain⟨E,D,O,o,z,A,h4,h5⟩:=h;refine⟨E,D,O,o,z,by simpa using A,fun j q G=> ?_,by simpa using h5⟩;simp only[List.getElem?_map,Option.map_eq_some_iff]at G;obtain⟨H,n,rfl⟩:=G;obtain⟨u,P,Q⟩:=h4 j H n;exact⟨u,P,K (Zii.1 (List.all_eq_true.1 hb H (List.mem_of_getElem? n))) Q⟩
 |cl f l=>
  simp only[dnT]at c⊢;cases hb:l.all geB<;>simp only[hb]at c⊢
  ·exact absurd rfl c
  ·obtain⟨E,O,o,z,A⟩:=h;refine⟨E,O,o,by simpa using z,fun j q G=> ?_⟩;simp only[List.getElem?_map,Option.map_eq_some_iff]at G;obtain⟨H,n,rfl⟩:=G;obtain⟨u,P,Q⟩:=A j H n;exact⟨u,P,K (Zii.1 (List.all_eq_true.1 hb H (List.mem_of_getElem? n))) Q⟩
 |gd gk W t=>exact absurd rfl c
theorem R.pop{m:Nat}{a':Act}(h:R m (W0.push a) w X F H s a')(hm:m<=big)(hsz:a.tmps.size=n)(hd:a.defers=[]):R n W0 w X (dnF s F) H (Go.Am.pop s) a:=by
 have g:a'.tmps.size<=big:=by rw[h.size];exact hm
 have q: ∀k:Key,(Go.Am.pop s).get k=dnT s (s.get k.up):=fun k=>Z55 s s.env k;exact
 {size:=hsz
  defers:=hd
  below:=⟨h.below.os,h.below.tape,h.below.output,h.below.size,h.below.block⟩
  glob:=h.glob
  gx:=h.gx
  xs:=h.xs
  fix:=fun p u=>by
   obtain⟨j,l⟩:=h.fix (p.1+big,p.2) (by simp only[Zam.push,List.mem_map];exact⟨p,u,rfl⟩);exact⟨Qvt j,(Zrd g p.1).symm.trans l⟩
  xlt:=h.xlt
  xin:=h.xin
  x0:=h.x0
  own:=fun k b c=>h.own _ b (Qn8 c)
  nodup:=fun k=>by
   unfold dnF;split
   ·simp
   ·exact h.nodup _
  disj:=fun k y b c o=>Key.up_inj.1 (h.disj _ _ b (Qn8 c) (Qn8 o))
  hown:=h.hown
  hnodup:=h.hnodup
  hdisj:=fun k b c=>h.hdisj _ b (Qn8 c)
  comps:=fun d i r=>by
   rw[q]at r⊢;obtain⟨j,v,l,x⟩:=h.comps (d+big) i (fun e=>r (by simp only[Key.up];rw[e];rfl));exact⟨by simp only[Key.up];rw[j];rfl,v,(Zrd g d).symm.trans l,x⟩
  slots:=fun k=>by
   by_cases f: (Go.Am.pop s).get k= .junk
   ·rw[f];unfold dnF;rw[f];rfl
   ·rw[Qvs f];have t:=h.slots k.up;rw[Qzg g]at t;rw[q]at f⊢;exact Xbm g t f}
end
end Go.Am
namespace Go.Am
open Go.RowKit
def Zk1(a:Act):ResultVar->Sem Value
 | .tmp t=>pure (a.tmps.getD t undef)
 | .cell d t=>do loadVar t (<-asAddr (a.tmps.getD d undef))
def Z1e(τ:Tab):List ResultVar->St->Option (((ts:List (Ty×Fl))×Zwf ts)×St)
 | [],s=>some (⟨[],()⟩,s)
 | .tmp k::rs,s=>match Qg9 s (op1 s [] (.tmp k))with
  |some q=>match Z1e τ rs q.s with
   |some (z,s')=>some (⟨(q.T,q.f)::z.1,(q.x,z.2)⟩,s')
   |none=>none
  |none=>none
 | .cell k e::rs,s=>match s.get (.m k),τ e with
  | .box e0 U f y,some U'=>match(Nat.blt k 1048576&&decide (U=U'))&&f.live with
   |true=>match Z1e τ rs (Y6 s k (.box e0 U .d y))with
    |some (z,s')=>some (⟨(U,f)::z.1,(y,z.2)⟩,s')
    |none=>none
   |false=>none
  |_,_=>none
def Xc3(rv:List ResultVar)(s:St):Option Tm:=
 match rv with
 | [.tmp k]=>match op1 s [] (.tmp k)with
  | .tm _ (.ptr r p)=>match geB r with|true=>some (.ptr r p)|false=>none
  | .tm _ (.elp r p i q)=>match geB r&& !(s.bad r p)with|true=>some (.elp r p i q)|false=>none
  |_=>none
 |_=>none
def Xad{ρ:Type}(τ:Tab)(n:Nat)(rv:List ResultVar)(s:St)(dst:Option Nat)(k:St->Option ρ):Option ρ:=
 match Xc3 rv s with
 |some t=>match dst with
  |some d=>match Jy (pop s) d&&Nat.blt d n with
   |true=>k (Y2 (pop s) d (dnT s t))
   |false=>none
  |none=>none
 |none=>match Z1e τ rv s with
  |some (z,s2)=>match dst with
   |none=>k (pop s2)
   |some d=>match Jy (pop s2) d&&Nat.blt d n with
    |true=>k (Xcz d (pop s2) z.1 z.2)
    |false=>none
  |none=>none
structure Zro where
 f:FuncId
 n:Nat
 np:Nat
 rv:List ResultVar
 run:List Nat->{ρ:Type}->(Exit->St->Option ρ)->St->Option ρ
structure V4(P:Program)(g:K9)(E:Zro):Prop where
 enters: ∀args w,(callFunc E.f args).run P w= .ok (.enter E.f args) w
 le:E.np<=E.n/\E.n<=1048576
 code: ∃fn c,P.funcs[E.f]? =some fn/\fn.body=some c/\fn.ntmps=E.n/\fn.results.toList=E.rv/\
  ∀{ρ:Type} {k:Exit->St->Option ρ} {r:ρ} {ln:List Nat} {W0:Zam g} {w:World} {X:Nat->Prop} {F:Key->List Nat} {s:St} {a:Act},
   E.run ln k s=some r->(∀p,p∈W0.fix->p.1∈ln)->R E.n W0 w X F [] s a->c.wp P (fun e a' w'=> ∃s' X' F',k e s'=some r/\R E.n W0 w' X' F' [] s' a') a w
abbrev Z6o:=List Zro
def Z6o.find(Γ:Z6o)(f:FuncId):Option Zro:=
 match Γ with
 | []=>none
 |e::r=>match Nat.beq e.f f with|true=>some e|false=>Z6o.find r f
def Z6o.ok(Γ:Z6o)(P:Program)(g:K9):Prop:= ∀e∈Γ,V4 P g e
theorem Z6o.find_ok{Γ:Z6o}{P:Program}{g:K9}(h:Γ.ok P g){f:FuncId}{e:Zro}(he:Γ.find f=some e):e.f=f/\V4 P g e:=by
 induction Γ with
 |nil=>cases he
 |cons x r a=>
  simp only[Z6o.find]at he;split at he
  ·rename_i b;simp only[Osi]at he;subst he;exact⟨Onb b,h _ (by simp)⟩
  ·exact a (fun e he=>h e (by simp[he])) he
def Q9m{ρ:Type}(τ:Tab)(n:Nat)(s:St)(dst:Option Nat)(E:Zro)(ts:List Tm)(k:St->Option ρ):Option ρ:=
 match Nat.beq ts.length E.np with
 |true=>E.run (Qb2 s ts).lent (fun e s'=>match e with| .normal| .ret=>Xad τ n E.rv s' dst k|_=>none) (Qb2 s ts)
 |false=>none
def Qoz(τ:Tab)(s:St):List Operand->List TypeId->Option (List Tm)
 | [],_=>some []
 |x::xs,e::es=>match Z0n τ s [] e x,Qoz τ s xs es with
  |some r,some ts=>some (r.t::ts)
  |_,_=>none
 |_::_,[]=>none
section
variable {P:Program} {g:K9} {W0:Zam g} {w w':World} {X X':Nat->Prop} {B B' n:Nat} {own:Bool} {s:St} {F:Key->List Nat} {a:Act} {H H':List Nat} {o:Oper} {tg:Xo} {τ:Tab} {gh:Nat->Value}
theorem Zmj{fn:Func}{vs:List Value}(h: (fn.results.toList.mapM (Zk1 a)).run P w= .ok vs w): (results fn a.tmps).run P w= .ok (X4 vs) w:=by
 have e: (fn.results.mapM (Zk1 a)).run P w= .ok vs.toArray w:=by
  rw[Array.mapM_eq_mapM_toList,Sem.run_map,h];rfl
 unfold results;rw[Sem.run_bind];have c: (fn.results.mapM fun
  | .tmp t=>pure (a.tmps.getD t undef)
  | .cell d t=>do loadVar t (<-asAddr (a.tmps.getD d undef)))=fn.results.mapM (Zk1 a):=by
  congr 1
 erw [c,e];simp only[Result.andThen_ok,Sem.run_pure];congr 1;by_cases b:vs.length=1
 ·obtain⟨v,rfl⟩:=List.length_eq_one_iff.1 b;rfl
 ·rw[Zpq b];simp[b]
theorem Zx1(hτ:τ.ok P): ∀{rs:List ResultVar} {s:St} {F:Key->List Nat} {H:List Nat} {z: (ts:List (Ty×Fl))×Zwf ts} {s':St},R n W0 w X F H s a->Z1e τ rs s=some (z,s')->
  ∃vs S F',(rs.mapM (Zk1 a)).run P w= .ok vs w/\Qtr w X W0.B z.1 z.2 vs S/\R n W0 w X F' (S++H) s' a
 | [],s,F,H,z,s',h,g=>by
  simp only[Z1e,Osi,Opi]at g;obtain⟨rfl,rfl⟩:=g;exact⟨[],[],F,by simp,⟨rfl,rfl⟩,h⟩
 | .tmp k::rs,s,F,H,z,s',h,g=>by
  simp only[Z1e]at g;split at g
  ·rename_i q hq;split at g
   ·rename_i z2 s2 t;simp only[Osi,Opi]at g;obtain⟨rfl,rfl⟩:=g;obtain⟨F1,i,E,h1,h2,K,_,_⟩:=Zxe h (tg:=[]) (fun p o=>by cases o) hq;obtain⟨vs,S,F',L,M,r⟩:=Zx1 hτ K t;refine⟨_,i++S,F',?_,⟨E,vs,i,S,rfl,rfl,h2,M⟩,?_⟩
    ·have v: (a.tmps.getD k undef)=Xz q.T E:=h1;simp only[List.mapM_cons,Zk1,Sem.run_bind,Sem.run_pure,Result.andThen_ok,L,v]
    ·have o: (i++S++H).Perm (S++ (i++H)):=by rw[List.append_assoc];exact List.perm_append_comm_assoc _ _ _
     exact {r with
      hown:=fun b l=>r.hown b (o.mem_iff.1 l)
      hnodup:=o.nodup_iff.2 r.hnodup
      hdisj:=fun k b l N=>r.hdisj k b l (o.mem_iff.1 N)}
   ·cases g
  ·cases g
 | .cell k e::rs,s,F,H,z,s',h,g=>by
  simp only[Z1e]at g;split at g
  ·rename_i e' U f y U' O hU;split at g
   ·rename_i Q;split at g
    ·rename_i z2 s2 t;simp only[Oba,decide_eq_true_eq]at Q;obtain⟨⟨V,rfl⟩,Q⟩:=Q;simp only[Osi,Opi]at g;obtain⟨rfl,rfl⟩:=g;have W:=h.slots (.m k);rw[O]at W;obtain⟨b,c,i,Y,G,Z,I⟩:=W;have A:=h.nodup (.m k);rw[G]at A;have K:R n W0 w X (Qg F (.m k) [b]) (i++H) (Y6 s k (.box e' U .d y)) a:=by
      refine h.turn (S':=[b]) (H':=i++H) h.below (Nat.le_refl _) (fun _ _=>rfl) (fun _ _ _ _=>rfl) ?_ ?_ (by rw[O];simp) ?_ ?_
      ·intro J C;rw[G];simpa using C
      ·have hd: ∀J∈b::i,J∉H:=fun J C=>h.hdisj (.m k) J (by rw[G];exact C);refine List.nodup_append.2 ⟨by simp,List.nodup_append.2 ⟨(List.nodup_cons.1 A).2,h.hnodup,fun x hx y hy e=>hd x (by simp[hx]) (by rw[e];exact hy)⟩,fun x hx y hy e=> ?_⟩;simp only[List.mem_singleton]at hx;subst hx;subst e;rcases List.mem_append.1 hy with hy|hy
       ·exact(List.nodup_cons.1 A).1 hy
       ·exact hd x (by simp) hy
      ·intro e T f x b2 S l hF;rw[O]at l;cases l;rw[G]at hF;obtain⟨rfl,_⟩:=List.cons.inj hF;exact⟨.d,_,[],rfl,rfl⟩
      ·exact⟨b,c,[],Y,rfl,Z,by unfold rdF;exact⟨X8 I,Zh2 I,rfl⟩⟩
     obtain⟨vs,S,F',L,M,r⟩:=Zx1 hτ K t;refine⟨_,i++S,F',?_,⟨c.toList,vs,i,S,rfl,rfl,I,M⟩,?_⟩
     ·have v: (a.tmps.getD k undef)= .pointer (some ⟨b,0,none⟩):=(Ye W0 a V).symm.trans Y;have D:=(hτ _ _ hU).load (w:=w) (ad:=⟨b,0,none⟩) (vs:=c.toList) (X8 I) (fun j u hj=>by
       rw[Zhk w Z,<-Array.getElem?_toList,Nat.zero_add];exact hj)
      simp only[List.mapM_cons,Zk1,Sem.run_bind,Sem.run_pure,Result.andThen_ok,L,v,D,asAddr]
     ·have o: (i++S++H).Perm (S++ (i++H)):=by rw[List.append_assoc];exact List.perm_append_comm_assoc _ _ _
      exact {r with
       hown:=fun b l=>r.hown b (o.mem_iff.1 l)
       hnodup:=o.nodup_iff.2 r.hnodup
       hdisj:=fun k b l N=>r.hdisj k b l (o.mem_iff.1 N)}
    ·cases g
   ·cases g
  ·cases g
theorem Q05{m:Nat}{a':Act}{rv:List ResultVar}{t:Tm}(h:R m (W0.push a) w X F [] s a')(hr:Xc3 rv s=some t):
  ∃k S,rv=[.tmp k]/\dnT s t≠ .junk/\vt (W0.push a).gh w X W0.B s F a' (a'.eval (.tmp k)) S t/\S=[]:=by
 unfold Xc3 at hr;split at hr
 ·rename_i k;split at hr
  ·rename_i j r p hx;split at hr
   ·rename_i b;cases hr;obtain⟨_,hv⟩:=Kp h (tg:=[]) (fun p c=>by cases c) hx (by simp);exact⟨k,_,rfl,by simp[dnT,b],hv,hv.1⟩
   ·cases hr
  ·rename_i j r p i q hx;split at hr
   ·rename_i b;cases hr;obtain⟨_,hv⟩:=Kp h (tg:=[]) (fun p c=>by cases c) hx (by simp);exact⟨k,_,rfl,by simp only[dnT,b];simp,hv,hv.1⟩
   ·cases hr
  ·cases hr
 ·cases hr
theorem Q04{ρ:Type}{r:ρ}(hτ:τ.ok P){m:Nat}{a':Act}(h:R m (W0.push a) w X F [] s a')(hm:m<=1048576)(hsz:a.tmps.size=n)(hd:a.defers=[]){fn:Func}{rv:List ResultVar}(hrv:fn.results.toList=rv){dst:Option Nat}{k:St->Option ρ}(hk:Xad τ n rv s dst k=some r):
  ∃v s2 F2,(results fn a'.tmps).run P w= .ok v w/\k s2=some r/\R n W0 w X F2 [] s2 (a.put dst v):=by
 unfold Xad at hk;split at hk
 ·rename_i t l;obtain⟨j,S,rfl,o,hv,rfl⟩:=Q05 h l;split at hk
  ·rename_i d;split at hk
   ·rename_i hdn;simp only[Oba,Nat.blt_eq]at hdn;have c:=h.pop hm hsz hd;have e:=Xbm (by rw[h.size];exact hm) hv o;have f:=(by simpa using c:R n W0 w X (dnF s F) ([]++ []) (pop s) a).put hdn.1 hdn.2 e;have b: (fn.results.toList.mapM (Zk1 a')).run P w= .ok [a'.eval (.tmp j)] w:=by rw[hrv];simp[Zk1,Act.eval]
    exact⟨X4 [a'.eval (.tmp j)],_,_,Zmj (a:=a') b,hk,f⟩
   ·cases hk
  ·cases hk
 ·split at hk
  ·rename_i z s2 p;obtain⟨g,S,y,i,q,u⟩:=Zx1 hτ h p;have c:=u.pop hm hsz hd;split at hk
   ·exact⟨X4 g,_,_,Zmj (a:=a') (by rw[hrv];exact i),hk,c.drop⟩
   ·rename_i d;split at hk
    ·rename_i hdn;simp only[Oba,Nat.blt_eq]at hdn;obtain⟨F2,x⟩:=R.putF c hdn.1 hdn.2 q;exact⟨X4 g,_,F2,Zmj (a:=a') (by rw[hrv];exact i),hk,x⟩
    ·cases hk
  ·cases hk
theorem Qq2{ρ:Type}{r:ρ}(hτ:τ.ok P){E:Zro}(hE:V4 P g E)(h:R n W0 w X F [] s a){ts:List Tm}{vs:List Value}(hl:ts.length=vs.length)(hts: ∀(i:Nat) t,ts[i]? =some t-> ∃v,vs[i]? =some v/\vt W0.gh w X W0.B s F a v [] t)
  (hrun: (execOp a.eval o).run P w= .ok (.enter E.f vs.toArray) w) {k:St->Option ρ} (hr:Q9m τ n s o.dst E ts k=some r)
  {K:Act->World->Prop} {Q:Exit->Act->World->Prop} (hK: ∀v w' X' F' s',k s'=some r->R n W0 w' X' F' [] s' (a.put o.dst v)->K (a.put o.dst v) w'):o.wp P a w K Q:=by
 unfold Q9m at hr;split at hr
 ·rename_i b;have b:=Onb b;obtain⟨x,c,y,z,A,j,d⟩:=hE.code;have l:=h.push (m:=E.n) hl (by rw[b];exact hE.le.1) hE.le.2 hts;unfold Oper.wp;rw[hrun,Oper.upon_enter];refine calls_of_wp y z ?_;rw[A];refine wp_mono (d hr (fun p C=>(l.fix p C).1) l) fun e q w' ⟨s',X',F',hk,u⟩=> ?_;have fin:Xad τ n E.rv s' o.dst k=some r->q.defers=[]/\ ∃v,(results x q.tmps).run P w'= .ok v w'/\K (a.put o.dst v) w':=fun hk=>by
   obtain⟨v,D,G,H,I,J⟩:=Q04 hτ u hE.le.2 h.size h.defers j hk;exact⟨u.defers,v,H,hK v w' X' G D I J⟩
  cases e with
  |normal=>exact fin hk
  |ret=>exact fin hk
  |_=>cases hk
 ·cases hr
theorem Z28(h:R n W0 w X F H s a): ∀{xs:List Operand} {es:List TypeId} {ts:List Tm},Qoz τ s xs es=some ts->
  ts.length=xs.length/\ ∀(i:Nat) t,ts[i]? =some t-> ∃v,(xs.map a.eval)[i]? =some v/\vt W0.gh w X W0.B s F a v [] t
 | [],es,ts,b=>by
  simp only[Qoz,Osi]at b;subst b;exact⟨rfl,fun i t h=>by simp at h⟩
 |x::xs,[],ts,b=>by simp[Qoz]at b
 |x::xs,e::es,ts,b=>by
  simp only[Qoz]at b;split at b
  ·rename_i r l d f;simp only[Osi]at b;subst b;obtain⟨g,j⟩:=Z28 h f;refine⟨by simp[g],fun i t c=> ?_⟩;cases i with
   |zero=>
    simp only[List.getElem?_cons_zero,Osi]at c;subst c;exact⟨a.eval x,by simp,(Q7l h (tg:=[]) (fun p k=>by cases k) d).2⟩
   |succ i=>simpa using j i t (by simpa using c)
  ·cases b
end
end Go.Am

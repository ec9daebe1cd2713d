/- The abstract machine, part 3: what a piece of Go code does, as plain data, and that it does so. No condition. -/
import Derived.Test.YtmlpcjbkbnkajaaGreatAm2
import Derived.Great.BuildSlice
import Derived.WalkKit
namespace Go.Am
open Go.RowKit
@[reducible] def Jb:List Ty->Type| []=>Unit|t::ts=>t.den×Jb ts
def Zps(w:World)(X:Nat->Prop)(B:Nat): (ts:List Ty)->Jb ts->List Value->Prop| [],_,vs=>vs=[]|t::ts,x,vs=> ∃cs us,vs=Xt t cs::us/\rd w X B false t x.1 cs []/\Zps w X B ts x.2 us
def Zeh(w:World)(B:Nat): (ts:List Ty)->Jb ts->List Value->List Nat->Prop| [],_,vs,S=>vs=[]/\S=[]|t::ts,x,vs,S=> ∃cs us S1 S2,vs=Xt t cs::us/\S=S1++S2/\rd w (fun _=>False) B true t x.1 cs S1/\Zeh w B ts x.2 us S2
def Xu(vs:List Value):Value:=
 match vs with
 | [v]=>v
 |vs=> .tuple vs.toArray
structure FnE where
 f:FuncId
 args:List Ty
 res:List Ty
 F:Jb args->Option (Jb res)
structure Zr3(P:Program)(g:Kr)(e:FnE):Prop where
 enters: ∀args w,(callFunc e.f args).run P w= .ok (.enter e.f args) w
 calls: ∀(w:World) (xs:Jb e.args) (r:Jb e.res) (vals:List Value),g.G w->Zps w (· <w.heap.size) 0 e.args xs vals->e.F xs=some r->
  Calls P e.f vals.toArray w fun en w'=> ∃rs S,en= .returned (Xu rs)/\Zeh w' w.heap.size e.res r rs S/\S.Nodup/\Below w.heap.size w w'
abbrev Env:=List FnE
def Env.find(Γ:Env)(f:FuncId):Option FnE:=
 match Γ with
 | []=>none
 |e::r=>match Nat.beq e.f f with|true=>some e|false=>Env.find r f
def Env.ok(Γ:Env)(P:Program)(g:Kr):Prop:= ∀e∈Γ,Zr3 P g e
theorem Env.find_ok{Γ:Env}{P:Program}{g:Kr}(h:Γ.ok P g){f:FuncId}{e:FnE}(he:Γ.find f=some e):e.f=f/\Zr3 P g e:=by
 induction Γ with
 |nil=>cases he
 |cons x r ih=>
  simp only[Env.find]at he;split at he
  ·rename_i hb;simp only[Osi]at he;subst he;exact⟨Onb hb,h _ (by simp)⟩
  ·exact ih (fun e he=>h e (by simp[he])) he
section
variable {P:Program} {g:Kr} {W0:Wz g} {w w':World} {X X':Nat->Prop} {B B' n:Nat} {own:Bool} {s:St} {F:Key->List Nat} {a:Act} {H H':List Nat} {o:Oper} {tg:Xi} {τ:Tab} {gh:Nat->Value}
theorem Zcn(hB:B'<=B)(hX: ∀b,X b->X' b): ∀{T:Ty} {x:T.den} {vs:List Value} {S:List Nat},rd w X B own T x vs S->rd w X' B' own T x vs S
 | .unit,_,_,_,h| .int _,_,_,_,h| .bool,_,_,_,h| .fnc _,_,_,_,h| .str,_,_,_,h=>h
 | .slice _ _,_,_,_,⟨v,xs,S1,S2,e,e2,h1,h2⟩=>by
  refine⟨v,xs,S1,S2,e,e2,?_,Kf h2 fun _ _ _ _ _ h=>Zcn hB hX h⟩;cases own
  ·obtain⟨g1,g2,a,cap,g3,g4,g5,g6⟩:=h1;exact⟨g1,g2,a,cap,g3,g4,g5,g6.imp id fun⟨ad,k1,k2,k3⟩=>⟨ad,k1,k2.imp id (hX _),k3⟩⟩
  ·exact⟨Zy9 h1.1 hB,h1.2⟩
 | .pair a b,_,_,_,⟨v1,v2,S1,S2,e,e2,h1,h2⟩=>⟨v1,v2,S1,S2,e,e2,Zcn hB hX h1,Zcn hB hX h2⟩
 | .arr n t,_,_,_,⟨h,h'⟩=>⟨h,Kf h' fun _ _ _ _ _ h=>Zcn hB hX h⟩
 | .err,_,_,_,h=>h
 | .hid _,_,_,_,⟨e,y,h⟩=>⟨e,y,Zcn hB hX h⟩
 | .sptr ..,_,_,_,⟨e,o,b,c,h1,h2,h3,h4⟩=>⟨e,o,b,c,h1,hX b h2,h3,Zcn hB hX h4⟩
 | .clo ..,_,_,_,⟨e,cs,h1,h2⟩=>⟨e,cs,h1,Zcn hB hX h2⟩
def Znc(s:St)(tg:Xi): (ts:List Ty)->List Operand->Option (Jb ts)
 | [],[]=>some ()
 |t::ts,x::xs=>match Zaa s (op1 s tg x) t,Znc s tg ts xs with
  |some u,some us=>some (u,us)
  |_,_=>none
 |_,_=>none
theorem Zpv(h:R n W0 w X F H s a)(ht:tg.ok W0.gh a): ∀{ts:List Ty} {xs:List Operand} {us:Jb ts},Znc s tg ts xs=some us->Zps w (· <w.heap.size) 0 ts us (xs.map a.eval)
 | [],[],us,_=>rfl
 |t::ts,x::xs,us,hr=>by
  simp only[Znc]at hr;split at hr
  ·rename_i u us' hu hus;simp only[Osi]at hr;subst hr;obtain⟨cs,h1,h2⟩:=Wl h ht hu;exact⟨cs,_,by simp[h1],Zcn (Nat.zero_le _) (fun _ h=>h) h2,Zpv h ht hus⟩
  ·cases hr
 | [],_::_,_,hr=>by simp[Znc]at hr
 |_::_,[],_,hr=>by simp[Znc]at hr
def Qau(d:Nat): (ts:List Ty)->Jb ts->Nat->List (Key×Tm)->List (Key×Tm)| [],_,_,r=>r|t::ts,x,i,r=>Qau d ts x.2 (i+1) ((.c d i,.val t (.u true) x.1)::r)
def Z9q(d:Nat)(s:St): (ts:List Ty)->Jb ts->St| [t],r=>Yx s d (.val t (.u true) r.1)| [],r=>{env:=Qau d [] r 0 (Yx s d .tup).env,dirty:=(Yx s d .tup).dirty,lent:=s.lent}|t::u::ts,r=>{env:=Qau d (t::u::ts) r 0 (Yx s d .tup).env,dirty:=(Yx s d .tup).dirty,lent:=s.lent}
def Q2l{ρ:Type}(Γ:Env)(n:Nat)(s:St)(tg:Xi)(dst:Option Nat)(f:FuncId)(xs:List Operand)(k:St->Option ρ):Option ρ:=
 match Γ.find f with
 |none=>none
 |some e=>match Znc s tg e.args xs with
  |none=>none
  |some us=>match dst with
   |none=>(e.F us).bind fun _=>k s
   |some d=>match Jm s d&&Nat.blt d n with
    |false=>none
    |true=>(e.F us).bind fun r=>k (Z9q d s e.res r)
theorem R.below'(h:R n W0 w X F H s a)(hb:Below w.heap.size w w'):R n W0 w' X F H s a:=
 h.world (h.below.step hb) hb.size (fun b hb'=>hb.block b (h.xlt b hb')) (fun k b hb'=>hb.block b (h.own k b hb').2.1)
theorem Qhi: ∀{ts:List Ty} {x:Jb ts} {rs:List Value} {S:List Nat},Zeh w B ts x rs S->rs.length=ts.length
 | [],_,_,_,h=>by simp[h.1]
 |t::ts,_,_,_,⟨_,_,_,_,e,_,_,h⟩=>by simp[e,Qhi h]
theorem Zoj{rs:List Value}(h:rs.length≠1):Xu rs= .tuple rs.toArray:=by
 unfold Xu;split
 ·simp at h
 ·rfl
theorem R.putTup{d:Nat}{vs:List Value}{ts:List Ty}{x:Jb ts}{S:List Nat}(h:R n W0 w X F (S++H) s a)(hd:Jm s d=true)(hn:d<n)(hx:Zeh w W0.B ts x vs S):
  ∃F',R n W0 w X F' H {env:=Qau d ts x 0 (Yx s d .tup).env,dirty:=(Yx s d .tup).dirty,lent:=s.lent} (a.put (some d) (.tuple vs.toArray)):=by
 have h0:R n W0 w X (Qd F (.m d) []) (S++H) (Yx s d .tup) (a.put (some d) (.tuple vs.toArray)):=(by simpa using h:R n W0 w X F ([]++ (S++H)) s a).put hd hn rfl;have hval:Zkz W0.gh (a.put (some d) (.tuple vs.toArray)) d= .tuple vs.toArray:=Zlo (a:=a) (by rw[h.size];exact hn);have hno: ∀i,(Yx s d .tup).get (.c d i)= .junk:=fun i=>by
  rw[Zj6];simp only[reduceCtorEq,if_false];exact Classical.byContradiction fun hc=>by have:=(h.comps d i hc).1;simp[Jm,this]at hd
 
 suffices hs: ∀(ts:List Ty) (x:Jb ts) (us:List Value) (i:Nat) (S:List Nat) (F:Key->List Nat) (r:List (Key×Tm)) (pre:List Value),vs=pre++us->pre.length=i->Zeh w W0.B ts x us S->
   R n W0 w X F (S++H) {env:=r,dirty:=(Yx s d .tup).dirty,lent:=s.lent} (a.put (some d) (.tuple vs.toArray))->Ze8 r (.m d)= .tup->(∀j,i<=j->Ze8 r (.c d j)= .junk)->
   ∃F',R n W0 w X F' H {env:=Qau d ts x i r,dirty:=(Yx s d .tup).dirty,lent:=s.lent} (a.put (some d) (.tuple vs.toArray)) by
  obtain⟨F',hF'⟩:=hs ts x vs 0 S _ (Yx s d .tup).env [] rfl rfl hx h0 (Zq5 _ _ _) (fun j _=>hno j);exact⟨F',hF'⟩
 intro ts
 induction ts with
 |nil=>
  intro x us i S F r pre _ _ hx hR _ _;obtain⟨rfl,rfl⟩:=hx;exact⟨F,hR⟩
 |cons t ts ih=>
  intro x us i S F r pre hvs hpre hx hR htup hjunk;obtain⟨cs,us',S1,S2,rfl,rfl,hx1,hx2⟩:=hx
  
  have hcomp:Qk W0.gh (a.put (some d) (.tuple vs.toArray)) (.c d i)=Xt t cs:=by
   simp only[Qk,hval];rw[hvs,<-hpre];simp[Array.getD_eq_getD_getElem?]
  have hone:R n W0 w X (Qd F (.c d i) S1) (S2++H) {env:=(.c d i,.val t (.u true) x.1)::r,dirty:=(Yx s d .tup).dirty,lent:=s.lent} (a.put (some d) (.tuple vs.toArray)):=by
   have hFi:F (.c d i)=[]:=by
    have:=hR.slots (.c d i);simp only[St.get,hjunk i (Nat.le_refl _)]at this;exact this
   have hnd:=hR.hnodup;rw[List.append_assoc]at hnd;exact
   {size:=hR.size
    defers:=hR.defers
    below:=hR.below
    glob:=hR.glob
    gx:=hR.gx
    xs:=hR.xs
    fix:=hR.fix
    xlt:=hR.xlt
    xin:=hR.xin
    x0:=hR.x0
    own:=fun k b hb=>by
     simp only[Qd]at hb;split at hb
     ·exact hR.hown b (by simp[hb])
     ·exact hR.own k b hb
    nodup:=fun k=>by
     simp only[Qd];split
     ·exact(List.nodup_append.1 hnd).1
     ·exact hR.nodup k
    disj:=fun k k' b hb hb'=>by
     simp only[Qd]at hb hb';split at hb<;>split at hb'
     ·rename_i e1 e2;rw[e1,e2]
     ·exact absurd (by simp[hb]) (hR.hdisj k' b hb')
     ·exact absurd (by simp[hb']) (hR.hdisj k b hb)
     ·exact hR.disj k k' b hb hb'
    hown:=fun b hb=>hR.hown b (by simp only[List.mem_append]at hb⊢;grind)
    hnodup:=(List.nodup_append.1 hnd).2.1
    hdisj:=fun k b hb hh=>by
     simp only[Qd]at hb;split at hb
     ·exact(List.nodup_append.1 hnd).2.2 b hb b hh rfl
     ·exact hR.hdisj k b hb (by simp only[List.mem_append]at hh⊢;grind)
    comps:=fun d' j hc=>by
     simp only[St.get,Z1]at hc⊢;simp only[reduceCtorEq,if_false];split at hc
     ·rename_i e;simp only[Key.c.injEq]at e;obtain⟨rfl,rfl⟩:=e;refine⟨htup,vs.toArray,hval,?_⟩;rw[hvs,<-hpre];simp
     ·exact hR.comps d' j hc
    slots:=fun k=>by
     by_cases hk:k= .c d i
     ·subst hk;simp only[St.get,Z1,if_true,Qd];exact⟨cs,hcomp,by unfold rdF;exact Zcn (Nat.le_refl _) (fun _ h=>h.elim) hx1⟩
     ·have e1:St.get {env:=(Key.c d i,Tm.val t (.u true) x.1)::r,dirty:=(Yx s d .tup).dirty,lent:=s.lent} k=St.get {env:=r,dirty:=(Yx s d .tup).dirty,lent:=s.lent} k:=by simp[St.get,Z1,Ne.symm hk]
      have e2:Qd F (.c d i) S1 k=F k:=by simp[Qd,hk]
      rw[e1,e2];exact Qlu (s:={env:=r,dirty:=(Yx s d .tup).dirty,lent:=s.lent}) (hR.slots k)}
  obtain⟨F',hF'⟩:=ih x.2 us' (i+1) S2 _ _ (pre++ [Xt t cs]) (by rw[hvs];simp) (by simp[hpre]) hx2 hone (by rw[Z1];simpa using htup) (fun j hj=>by
   rw[Z1,if_neg (by simp;omega)];exact hjunk j (by omega))
  exact⟨F',hF'⟩
theorem R.putRes{d:Nat}{rs:List Value}: ∀{ts:List Ty} {x:Jb ts} {S:List Nat},R n W0 w X F (S++H) s a->Jm s d=true->d<n->Zeh w W0.B ts x rs S->
  ∃F',R n W0 w X F' H (Z9q d s ts x) (a.put (some d) (Xu rs))
 | [],x,S,h,hd,hn,hx=>by
  rw[Zoj (by rw[Qhi hx];simp)];exact h.putTup hd hn hx
 | [t],x,S,h,hd,hn,hx=>by
  obtain⟨cs,us',S1,S2,rfl,rfl,g1,rfl,rfl⟩:=hx;exact⟨_,h.put hd hn ⟨cs,rfl,by unfold rdF;exact Zcn (Nat.le_refl _) (fun _ (h:False)=>h.elim) (by simpa using g1)⟩⟩
 |t::u::ts,x,S,h,hd,hn,hx=>by
  rw[Zoj (by rw[Qhi hx];simp)];exact h.putTup hd hn hx
def Qqs(s:St)(tg:Xi)(x:Operand):Option FuncId:=
 match Zrt s (op1 s tg x)with
 |some ⟨.fnc f,_,_⟩=>some f
 |_=>none
theorem Zjb(h:R n W0 w X F H s a)(ht:tg.ok W0.gh a){x:Operand}{f:FuncId}(hf:Qqs s tg x=some f):a.eval x= .func (.func f) #[] #[]:=by
 unfold Qqs at hf;split at hf
 ·rename_i g fl y hl;simp only[Osi]at hf;subst hf;obtain⟨hlive,vs,S,h1,h2,_⟩:=Zee h ht hl;have h3:=Ko (X':=fun b=>X b\/b∈S) (fun _ h=> .inl h) hlive h2 (fun _ h=> .inr h);rw[h1,h3.1];rfl
 ·cases hf
theorem Z7g{Γ:Env}(hΓ:Γ.ok P g)(h:R n W0 w X F H s a)(ht:tg.ok W0.gh a){f:FuncId}{fo:Operand}(hfo:a.eval fo= .func (.func f) #[] #[]){xs:Array Operand}{ats:Array TypeId}(ho:o.op= .call {callee:= .value fo,args:=xs,argTypes:=ats}){e:FnE}(he:Γ.find f=some e)
  {us:Jb e.args} (hus:Znc s tg e.args xs.toList=some us) {rv:Jb e.res} (hpre:e.F us=some rv) {K:Act->World->Prop} {Q:Exit->Act->World->Prop}
  (hK: ∀rs S w',R n W0 w' X F (S++H) s a->Zeh w' W0.B e.res rv rs S->Old w w'->K (a.put o.dst (Xu rs)) w'):o.wp P a w K Q:=by
 obtain⟨hf,hok⟩:=Env.find_ok hΓ he;subst hf;have hc:=hok.calls w us rv (xs.toList.map a.eval) h.glob (Zpv h ht hus) hpre;have hrun: (execOp a.eval o).run P w= .ok (.enter e.f (xs.toList.map a.eval).toArray) w:=by
  have:execOp a.eval o=callFunc e.f (xs.map a.eval):=by
   simp only[execOp,ho,resolve,hfo,Deferred.ofValue];simp[invoke]
  rw[this,hok.enters];congr 2;apply Array.toList_inj.mp;simp
 unfold Oper.wp;rw[hrun,Oper.upon_enter];refine hc.mono fun en w' ⟨rs,S,hen,hres,hnd,hbl⟩=> ?_;subst hen;show K (a.put o.dst (Xu rs)) w';have hlow: ∀{ts:List Ty} {x:Jb ts} {rs:List Value} {S:List Nat},Zeh w' w.heap.size ts x rs S->(∀b∈S,w.heap.size<=b/\b<w'.heap.size)/\Zeh w' W0.B ts x rs S:=by
  intro ts
  induction ts with
  |nil=>intro x rs S h;exact⟨by simp[h.2],h⟩
  |cons t ts ih=>
   intro x rs S ⟨cs,us,S1,S2,e1,e2,g1,g2⟩;obtain⟨k1,k2⟩:=ih g2;refine⟨fun b hb=> ?_,cs,us,S1,S2,e1,e2,Zcn h.below.sizeB (fun _ h=>h) g1,k2⟩;rw[e2]at hb;rcases List.mem_append.1 hb with hb|hb
   ·exact Zsp g1 b hb
   ·exact k1 b hb
 obtain⟨hfresh,hres'⟩:=hlow hres;exact hK rs S w' ((h.below' hbl).hand (fun b hb=>⟨.inl (Nat.le_trans h.below.size (hfresh b hb).1),(hfresh b hb).2,fun hx=>by have:=h.xlt b hx;have:=(hfresh b hb).1;omega⟩) hnd
  (fun k b hb hm=>by have:=(h.own k b hb).2.1;have:=(hfresh b hm).1;omega) (fun b hb hm=>by have:=(h.hown b hm).2.1;have:=(hfresh b hb).1;omega)) hres' (fun k hk=>hbl.block k hk)
theorem Qut{ρ:Type}{Γ:Env}(hΓ:Γ.ok P g)(h:R n W0 w X F H s a)(ht:tg.ok W0.gh a){f:FuncId}{fo:Operand}(hfo:a.eval fo= .func (.func f) #[] #[]){xs:Array Operand}{ats:Array TypeId}(ho:o.op= .call {callee:= .value fo,args:=xs,argTypes:=ats}){k:St->Option ρ}{r:ρ}(hr:Q2l Γ n s tg o.dst f xs.toList k=some r)
  {K:Act->World->Prop} {Q:Exit->Act->World->Prop} (hK: ∀v w' F' s',k s'=some r->R n W0 w' X F' H s' (a.put o.dst v)->Old w w'->K (a.put o.dst v) w'):o.wp P a w K Q:=by
 unfold Q2l at hr;split at hr
 ·cases hr
 ·rename_i e he;split at hr
  ·cases hr
  ·rename_i us hus;cases hd:o.dst with
   |none=>
    rw[hd]at hr;simp only[Option.bind_eq_some_iff]at hr;obtain⟨rv,hrv,hk⟩:=hr;refine Z7g hΓ h ht hfo ho he hus hrv fun rs S w' hR hres' hold=> ?_;have hK':=hK (Xu rs) w' F s hk;rw[hd]at hK'⊢;exact hK' hR.drop hold
   |some d=>
    rw[hd]at hr;simp only at hr;split at hr
    ·cases hr
    ·rename_i hdn;simp only[Oba,Nat.blt_eq]at hdn;simp only[Option.bind_eq_some_iff]at hr;obtain⟨rv,hrv,hk⟩:=hr;refine Z7g hΓ h ht hfo ho he hus hrv fun rs S w' hR hres' hold=> ?_;obtain⟨F',hF'⟩:=hR.putRes hdn.1 hdn.2 hres';have hK':=hK (Xu rs) w' F' _ hk;rw[hd]at hK'⊢;exact hK' hF' hold
end
end Go.Am
namespace Go.Am
open Go.RowKit
def Qk6(k d:Nat):List (Key×Tm)->List (Key×Tm)
 | []=>[]
 | (.c t i,x)::r=>match Nat.beq t k with
  |true=>(.c d i,x)::Qk6 k d r
  |false=>match Nat.beq t d with
   |true=>Qk6 k d r
   |false=>(.c t i,x)::Qk6 k d r
 | (.m t,x)::r=>(.m t,x)::Qk6 k d r
theorem Qo9(k d t:Nat): ∀l,Ze8 (Qk6 k d l) (.m t)=Ze8 l (.m t)
 | []=>rfl
 | (.c a i,x)::r=>by
  simp only[Qk6];split
  ·simp only[Z1,reduceCtorEq,if_false,Qo9 k d t r]
  ·split
   ·simp only[Z1,reduceCtorEq,if_false,Qo9 k d t r]
   ·simp only[Z1,reduceCtorEq,if_false,Qo9 k d t r]
 | (.m a,x)::r=>by simp only[Qk6,Z1,Qo9 k d t r]
theorem Qx6{k d:Nat}(hkd:k≠d)(t i:Nat): ∀l,Ze8 (Qk6 k d l) (.c t i)=if t=d then Ze8 l (.c k i)else if t=k then .junk else Ze8 l (.c t i)
 | []=>by simp[Qk6,Ze8]
 | (.c a j,x)::r=>by
  have ih:=Qx6 hkd t i r;simp only[Qk6];split
  ·rename_i h;have h:=Onb h;subst h;simp only[Z1,ih,Key.c.injEq];by_cases h1:t=d
   ·subst h1;simp
   ·simp only[h1,if_false,Ne.symm h1,false_and];by_cases h2:t=a
    ·simp[h2]
    ·simp[h2,Ne.symm h2]
  ·rename_i h;have hak:a≠k:=fun e=>by subst e;rw[Nat.beq_refl]at h;cases h
   split
   ·rename_i h';have h':=Onb h';subst h';simp only[Z1,ih,Key.c.injEq];by_cases h1:t=a
    ·simp[h1,hak]
    ·simp[h1,Ne.symm h1]
   ·rename_i h';have had:a≠d:=fun e=>by subst e;rw[Nat.beq_refl]at h';cases h'
    simp only[Z1,ih,Key.c.injEq];by_cases h1:t=d
    ·subst h1;simp[had,hak]
    ·by_cases h2:t=k
     ·subst h2;simp[h1,hak]
     ·simp[h1,h2]
 | (.m a,x)::r=>by simp only[Qk6,Z1,reduceCtorEq,if_false,Qx6 hkd t i r]
def Qi4(s:St)(k d:Nat):St:={env:=Qk6 k d ((.m d,.tup)::s.env),dirty:=(Yx s d .tup).dirty,lent:=s.lent}
section
variable {g:Kr} {W0:Wz g} {w:World} {X:Nat->Prop} {B n:Nat} {s s1 s2:St} {F F1 F2:Key->List Nat} {a:Act} {gh:Nat->Value}
theorem Xcl(hg: ∀t,s2.get (.m t)=s1.get (.m t))(hd:s2.dirty=s1.dirty)(hF: ∀t,F2 (.m t)=F1 (.m t)){v:Value}{S:List Nat}: ∀{u:Tm},vt gh w X B s1 F1 a v S u->vt gh w X B s2 F2 a v S u:=by
 have hf: ∀r,s2.foul r=s1.foul r:=fun r=>by unfold St.foul;rw[hd]
 have hv: ∀{r p v U},Xb gh w s1 F1 a r p v U->Xb gh w s2 F2 a r p v U:=by
  intro r p v U h;unfold Xb at h⊢;rw[hg r,hF r];exact h
 intro u h
 induction u with
 |junk=>exact h
 |tup=>exact h
 |val=>exact h
 |box=>exact h
 |shp=>exact h
 |ptr r p=>
  obtain⟨h0,e,T,f,x,b,S',h1,h2,h3⟩:=h;exact⟨h0,e,T,f,x,b,S',by rw[hg];exact h1,by rw[hF];exact h2,h3⟩
 |aep r p i=>
  obtain⟨h0,e,T,f,x,b,S',n,t',y,h1,h2,h3⟩:=h;exact⟨h0,e,T,f,x,b,S',n,t',y,by rw[hg];exact h1,by rw[hF];exact h2,h3⟩
 |bor r p=>exact⟨h.1,fun hc=>let⟨U,hU⟩:=h.2 (Zv4 (fun r h=>(hf r).symm.trans h) hc);⟨U,hv hU⟩⟩
 |elp r p i q=>exact⟨h.1,fun hc=>let⟨e,t,ad,m,cap,h1,h2⟩:=h.2 (Zv4 (fun r h=>(hf r).symm.trans h) hc);⟨e,t,ad,m,cap,hv h1,h2⟩⟩
 |bel r p i q=>exact⟨h.1,fun hc he=>let⟨e,t,ad,m,cap,x0,y,cs,h1,k1,k2,k3,h2⟩:=h.2 (Zv4 (fun r h=>(hf r).symm.trans h) hc) ((hf _).symm.trans he);⟨e,t,ad,m,cap,x0,y,cs,hv h1,k1,k2,by rw[hF];exact k3,h2⟩⟩
 |cl f l=>
  refine⟨h.1,Z1t (fun r p v ha=> ?_) h.2⟩;obtain⟨e,T,f,x,b,S',h1,h2,h3⟩:=ha;exact⟨e,T,f,x,b,S',by rw[hg];exact h1,by rw[hF];exact h2,h3⟩
 |pls hh l=>
  refine⟨h.1,Zqp (fun _ h=>h) (fun _ _=>rfl) (fun r p v ha=> ?_) h.2⟩;obtain⟨e,T,f,x,b,S',h1,h2,h3⟩:=ha;exact⟨e,T,f,x,b,S',by rw[hg];exact h1,by rw[hF];exact h2,h3⟩
 |gd g want u ih=>
  intro hc;obtain⟨h0,h1,h2⟩:=h (by rw[<-hf];exact hc);exact⟨by rw[hg];exact h0,fun hb=>ih (h1 hb),h2⟩
def Z6o(k d:Nat):Key->Option Key| .m t=>if t=d then none else some (.m t)| .c t i=>if t=d then some (.c k i)else if t=k then none else some (.c t i)
theorem Q4v{k d:Nat}{x y j:Key}(hx:Z6o k d x=some j)(hy:Z6o k d y=some j):x=y:=by
 cases x with
 |m t=>
  simp only[Z6o]at hx;split at hx
  ·cases hx
  ·cases hx;cases y with
   |m u=>
    simp only[Z6o]at hy;split at hy
    ·cases hy
    ·simp only[Osi]at hy;exact hy.symm
   |c u i=>
    simp only[Z6o]at hy;split at hy
    ·cases hy
    ·split at hy<;>cases hy
 |c t i=>
  cases y with
  |m u=>
   simp only[Z6o]at hy;split at hy
   ·cases hy
   ·cases hy;simp only[Z6o]at hx;split at hx
    ·cases hx
    ·split at hx<;>cases hx
  |c u i'=>
   simp only[Z6o]at hx hy;split at hx<;>split at hy
   ·rename_i h1 h2;cases hx;cases hy;rw[h1,h2]
   ·split at hy
    ·cases hy
    ·rename_i h1 h2 h3;cases hx;cases hy;exact absurd rfl h3
   ·split at hx
    ·cases hx
    ·rename_i h1 h2 h3;cases hy;cases hx;exact absurd rfl h3
   ·split at hx
    ·cases hx
    ·split at hy
     ·cases hy
     ·cases hx;cases hy;rfl
theorem R.tupTo{k d:Nat}(h:R n W0 w X F [] s a)(hk:s.get (.m k)= .tup)(hd:Jm s d=true)(hn:d<n):
  ∃F',R n W0 w X F' [] (Qi4 s k d) (a.put (some d) (Qk W0.gh a (.m k))):=by
 have hkd:k≠d:=fun e=>by subst e;simp[Jm,hk]at hd
 let F':Key->List Nat:=fun x=>match Z6o k d x with|some j=>F j|none=>[]
 have gm: ∀t,(Go.Am.Qi4 s k d).get (.m t)=if d=t then .tup else s.get (.m t):=fun t=>by
  unfold Go.Am.Qi4 St.get;rw[Qo9,Z1];simp
 have gc: ∀t i,(Go.Am.Qi4 s k d).get (.c t i)=if t=d then s.get (.c k i)else if t=k then .junk else s.get (.c t i):=fun t i=>by
  unfold Go.Am.Qi4 St.get;rw[Qx6 hkd];simp only[Z1,reduceCtorEq,if_false]
 have src: ∀{x b},b∈F' x-> ∃j,Z6o k d x=some j/\b∈F j:=by
  intro x b hb;simp only[F']at hb;split at hb
  ·rename_i j hj;exact⟨j,hj,hb⟩
  ·cases hb
 have keep: ∀{v S u},vt W0.gh w X W0.B s F a v S u->vt W0.gh w X W0.B (Go.Am.Qi4 s k d) F' (a.put (some d) (Qk W0.gh a (.m k))) v S u:=by
  intro v S u hv;refine Xcl (s1:=Yx s d .tup) (s2:=Go.Am.Qi4 s k d) (F1:=Qd F (.m d) []) (F2:=F') (fun t=> ?_) rfl (fun t=> ?_) (Qyp (t:= .tup) (v0:=Qk W0.gh a (.m k)) (S0:=[]) hd hv)
  ·rw[gm,Zj6];simp
  ·simp only[F',Z6o,Qd,Key.m.injEq];by_cases e:t=d<;>simp[e]
 have hval:Qk W0.gh (a.put (some d) (Qk W0.gh a (.m k))) (.m d)=Qk W0.gh a (.m k):=Zlo (a:=a) (by rw[h.size];exact hn);have hcomp: ∀i,Qk W0.gh (a.put (some d) (Qk W0.gh a (.m k))) (.c d i)=Qk W0.gh a (.c k i):=fun i=>by
  simp only[Qk]at hval⊢;rw[hval]
 refine⟨F',?_⟩;exact
  {size:=by simp[Act.put,h.size]
   defers:=by simp[Act.put,h.defers]
   below:=h.below
   glob:=h.glob
   gx:=h.gx
   xs:=h.xs
   fix:=fun p hp=>⟨(h.fix p hp).1,by
    have:=Qmp hd;have hne:p.1≠d:=fun e=>this (e▸(h.fix p hp).1);rw[Zb0 (by simpa[Key.t]using hne)];exact(h.fix p hp).2⟩
   xlt:=h.xlt
   xin:=h.xin
   x0:=h.x0
   own:=fun x b hb=>let⟨j,_,hj⟩:=src hb;h.own j b hj
   nodup:=fun x=>by
    simp only[F'];split
    ·exact h.nodup _
    ·simp
   disj:=fun x y b hb hb'=>by
    obtain⟨j,h1,h2⟩:=src hb;obtain⟨j',h3,h4⟩:=src hb';have:=h.disj j j' b h2 h4;subst this;exact Q4v h1 h3
   hown:=by simp
   hnodup:=by simp
   hdisj:=by simp
   comps:=fun d' i hne=>by
    rw[gc]at hne;rw[gm];by_cases e:d'=d
    ·subst e;simp only[if_true]at hne⊢;obtain⟨_,vs,h1,h2⟩:=h.comps k i hne;exact⟨trivial,vs,by rw[hval];exact h1,h2⟩
    ·by_cases e2:d'=k
     ·simp[e2,hkd]at hne
     ·simp only[e,e2,if_false]at hne;obtain⟨h0,vs,h1,h2⟩:=h.comps d' i hne;refine⟨by simp[Ne.symm e,h0],vs,?_,h2⟩;rw[Zb0 (a:=a) (v:=Qk W0.gh a (.m k)) (k:= .m d') (d:=d) (by simpa[Key.t]using e)];exact h1
   slots:=fun x=>by
    cases x with
    |m t=>
     rw[gm];by_cases e:d=t
     ·subst e;simp only[if_true,F',Z6o];rfl
     ·have:F' (.m t)=F (.m t):=by simp[F',Z6o,Ne.symm e]
      rw[this,Zb0 (by simpa[Key.t]using Ne.symm e)];simp only[e,if_false];exact keep (h.slots (.m t))
    |c t i=>
     rw[gc];by_cases e:t=d
     ·subst e;have:F' (.c t i)=F (.c k i):=by simp[F',Z6o]
      rw[this,hcomp];simp only[if_true];exact keep (h.slots (.c k i))
     ·by_cases e2:t=k
      ·subst e2;have:F' (.c t i)=[]:=by simp[F',Z6o,e]
       rw[this];simp only[e,if_false,if_true];rfl
      ·have:F' (.c t i)=F (.c t i):=by simp[F',Z6o,e,e2]
       rw[this,Zb0 (by simpa[Key.t]using e)];simp only[e,e2,if_false];exact keep (h.slots (.c t i))}
end
end Go.Am
namespace Go.Am
open Go.RowKit
structure FnL where
 f:FuncId
 e:TypeId
 t:Ty
 args:List Ty
 res:List Ty
 F:List t.den->Jb args->Option (Jb res×List t.den)
structure Qaj(P:Program)(g:Kr)(e:FnL):Prop where
 flat:e.t.flat=true
 enters: ∀args w,(callFunc e.f args).run P w= .ok (.enter e.f args) w
 calls: ∀(w:World) (X:Nat->Prop) (L:List Nat) (l l':List e.t.den) (xs:Jb e.args) (r:Jb e.res) (v:Value) (vals:List Value),g.G w->(∀b,g.GB b->X b)->(∀b,X b->b<w.heap.size)->(∀b∈L,¬X b)->L.Nodup->
  rd w X 0 true (.slice e.e e.t) l [v] L->Zps w X 0 e.args xs vals->e.F l xs=some (r,l')->
  Calls P e.f (v::vals).toArray w fun en w'=> ∃rs S,en= .returned (Xu rs)/\Zeh w' w.heap.size e.res r rs S/\S.Nodup/\(∃X',rd w' X' 0 true (.slice e.e e.t) l' [v] L)/\
   w'.os=w.os/\w'.tape=w.tape/\w'.output=w.output/\w.heap.size<=w'.heap.size/\ ∀b,b<w.heap.size->b∉L->w'.heap[b]? =w.heap[b]?
abbrev Zx7:=List FnL
def Zx7.find(Γ:Zx7)(f:FuncId):Option FnL:=
 match Γ with
 | []=>none
 |e::r=>match Nat.beq e.f f with|true=>some e|false=>Zx7.find r f
def Zx7.ok(Γ:Zx7)(P:Program)(g:Kr):Prop:= ∀e∈Γ,Qaj P g e
theorem Zx7.find_ok{Γ:Zx7}{P:Program}{g:Kr}(h:Γ.ok P g){f:FuncId}{e:FnL}(he:Γ.find f=some e):e.f=f/\Qaj P g e:=by
 induction Γ with
 |nil=>cases he
 |cons x r ih=>
  simp only[Zx7.find]at he;split at he
  ·rename_i hb;simp only[Osi]at he;subst he;exact⟨Onb hb,h _ (by simp)⟩
  ·exact ih (fun e he=>h e (by simp[he])) he
def Zzg(s:St):Op1->Option Nat
 | .tm k (.val _ _ _)=>some k
 | .tm _ (.bor r [])=>match s.bad r []with|false=>some r|true=>none
 |_=>none
def Qnu(ts:List Ty):Bool:=ts.all Ty.flat
def Q36(e:FnL):Tm->Option (List e.t.den×(List e.t.den->Tm))
 | .val T (.u true) y=>match Km (.slice e.e e.t) T y with|some l=>some (l,fun z=> .val (.slice e.e e.t) (.u true) z)|none=>none
 | .box k T (.u true) y=>match Km (.slice e.e e.t) T y with|some l=>some (l,fun z=> .box k (.slice e.e e.t) (.u true) z)|none=>none
 |_=>none
noncomputable def Q35{ρ:Type}(Γ:Zx7)(n:Nat)(s:St)(dst:Option Nat)(f:FuncId)(xs:List Operand)(k:St->Option ρ):Option ρ:=
 match Γ.find f,xs with
 |some e,x0::rest=>match Zzg s (op1 s [] x0)with
  |some q=>match Q36 e (s.get (.m q)),Znc s [] e.args rest,Qnu e.args with
   |some lm,some us,true=>match dst with
    |none=>(e.F lm.1 us).bind fun z=>k (Zst s q (lm.2 z.2))
    |some d=>match Jm (Zst s q (lm.2 lm.1)) d&&Nat.blt d n with
     |true=>(e.F lm.1 us).bind fun z=>k (Z9q d (Zst s q (lm.2 z.2)) e.res z.1)
     |false=>none
   |_,_,_=>none
  |none=>none
 |_,_=>none
section
variable {P:Program} {g:Kr} {W0:Wz g} {w w':World} {X X':Nat->Prop} {B B' n:Nat} {own:Bool} {s:St} {F:Key->List Nat} {a:Act} {H H':List Nat} {o:Oper} {tg:Xi} {τ:Tab} {gh:Nat->Value}
theorem Z24: ∀{ts:List Ty} {xs:Jb ts} {vs:List Value},Qnu ts=true->Zps w X B ts xs vs->Zps w X' B ts xs vs
 | [],_,_,_,h=>h
 |t::ts,xs,vs,hf,⟨cs,us,h1,h2,h3⟩=>by
  simp only[Qnu,List.all_cons,Oba]at hf;exact⟨cs,us,h1,(Zco hf.1 h2).2,Z24 hf.2 h3⟩
theorem Znb{own':Bool}{w w':World}{X X':Nat->Prop}{B B':Nat}{own:Bool}: ∀{T:Ty} {x:T.den} {vs:List Value} {S:List Nat},T.flat=true->
  rd w X B own T x vs S->S=[]/\rd w' X' B' own' T x vs []
 | .unit,_,_,_,_,h| .int _,_,_,_,_,h| .bool,_,_,_,_,h| .fnc _,_,_,_,_,h| .str,_,_,_,_,h=>⟨h.2,h.1,rfl⟩
 | .slice _ _,_,_,_,hf,_=>by simp[Ty.flat]at hf
 | .pair a b,_,_,_,hf,⟨v1,v2,S1,S2,e,e2,h1,h2⟩=>by
  simp only[Ty.flat,Oba]at hf;obtain⟨rfl,k1⟩:=Znb hf.1 h1;obtain⟨rfl,k2⟩:=Znb hf.2 h2;exact⟨by simp[e2],v1,v2,[],[],e,rfl,k1,k2⟩
 | .arr n t,_,_,_,hf,⟨h,h'⟩=>by
  obtain⟨e,k⟩:=Zdy (r':=rd w' X' B' own' t) (fun x v S h=>Znb (by simpa[Ty.flat]using hf) h) h';exact⟨e,h,k⟩
 | .err,_,_,_,_,h=>⟨h.2,h.1,rfl⟩
 | .hid _,_,_,_,hf,⟨l,y,h⟩=>let⟨e,k⟩:=Znb (by simpa[Ty.flat]using hf) h;⟨e,l,y,k⟩
 | .sptr ..,_,_,_,hf,_=>by simp[Ty.flat]at hf
 | .clo ..,_,_,_,hf,_=>by simp[Ty.flat]at hf
theorem Qt3{w w':World}{B:Nat}{e:TypeId}{sz nn nn':Nat}{v:Value}{xs xs':List Value}(h:w.ownsRow B e sz v nn xs)(h':w'.ownsRow 0 e sz v nn' xs'):w'.ownsRow B e sz v nn' xs':=by
 refine⟨h'.1,h'.2.imp id fun⟨b,cap,cur,h1,h2,h3⟩=>⟨b,cap,cur,h1,?_,h3⟩⟩;rcases h.2 with⟨h4,_⟩| ⟨b',cap',cur',h4,h5,_⟩
 ·rw[h1]at h4;cases h4
 ·rw[h1]at h4;simp only[Value.slice.injEq,Osi,Addr.mk.injEq]at h4;rw[h4.1.1];exact h5
theorem Qz2{w w':World}{X X' X'':Nat->Prop}{B:Nat}{e:TypeId}{t:Ty}{l l':List t.den}{v:Value}{L L':List Nat}(hf:t.flat=true)(h:rd w X B true (.slice e t) l [v] L)(h':rd w' X' 0 true (.slice e t) l' [v] L'):rd w' X'' B true (.slice e t) l' [v] L':=by
 obtain⟨v1,xs1,S1,S2,e1,e2,h1,h2⟩:=h;obtain⟨v2,xs2,S3,S4,e3,e4,h3,h4⟩:=h';simp only[List.cons.injEq,and_true]at e1 e3;subst e1;subst e3;obtain⟨e5,h5⟩:=Zdy (r':=rd w' X'' B true t) (fun x v S h=>Znb hf h) h4;exact⟨_,xs2,S3,S4,rfl,e4,⟨Qt3 h1.1 h3.1,h3.2⟩,by rw[e5];exact h5⟩
theorem Qd0(h:R n W0 w X F H s a){x:Operand}{q:Nat}(hq:Zzg s (op1 s [] x)=some q){T:Ty}{f:Fl}{y:T.den}(hg:s.get (.m q)= .val T f y):a.eval x=Qk W0.gh a (.m q):=by
 unfold Zzg at hq;split at hq
 ·rename_i k T' f' y' hx;simp only[Osi]at hq;subst hq;obtain⟨rfl,hb,_⟩:=Zli hx;exact(Yh W0 a hb).symm
 ·rename_i k r hx;obtain⟨rfl,_,h2⟩:=Ke h (tg:=[]) (fun p hp=>by cases hp) hx (by simp);split at hq
  ·rename_i hfoul;simp only[Osi]at hq;subst hq;obtain⟨U,hU⟩:=h2 hfoul;unfold Xb at hU;rw[hg]at hU;exact hU.2.2
  ·cases hq
 ·cases hq
theorem Qvr(h:R n W0 w X F H s a){e:FnL}(_hf:e.t.flat=true){x:Operand}{q:Nat}(hq:Zzg s (op1 s [] x)=some q){lm:List e.t.den×(List e.t.den->Tm)}(hl:Q36 e (s.get (.m q))=some lm):
  ∃v L,a.eval x=v/\rd w X W0.B true (.slice e.e e.t) lm.1 [v] L/\(∀b∈L,b∈F (.m q))/\L.Nodup/\s.get (.m q)≠ .tup/\
   (∀z e T f x b S,s.get (.m q)= .box e T f x->F (.m q)=b::S-> ∃f' x' S'',lm.2 z= .box e T f' x'/\F (.m q)=b::S'')/\
   (∀z d,Jm (Zst s q (lm.2 lm.1)) d=true->Jm (Zst s q (lm.2 z)) d=true)/\
   ∀z w',(∀b,b<w.heap.size->b∉L->w'.heap[b]? =w.heap[b]?)->Zzy W0.gh w w' s (Zst s q (lm.2 z)) F F a q (lm.2 z)/\
    (rd w' X W0.B true (.slice e.e e.t) z [v] L->vt W0.gh w' X W0.B (Zst s q (lm.2 z)) F a (Qk W0.gh a (.m q)) (F (.m q)) (lm.2 z)):=by
 have castE: ∀{T:Ty} {y:T.den} {l:List e.t.den},Km (.slice e.e e.t) T y=some l->T= .slice e.e e.t/\HEq y l:=by
  intro T y l hl;unfold Km at hl;split at hl
  ·rename_i eq;subst eq;simp only[Osi]at hl;exact⟨rfl,heq_of_eq hl⟩
  ·cases hl
 have hs:=h.slots (.m q);unfold Q36 at hl;split at hl
 ·rename_i T y hg;split at hl
  ·rename_i l hc;obtain⟨rfl,hyl⟩:=castE hc;have hyl:=eq_of_heq hyl;subst hyl;simp only[Osi]at hl;subst hl;rw[hg]at hs;obtain⟨vs,hv,hrd⟩:=hs;unfold rdF at hrd;obtain⟨v,rfl⟩: ∃v,vs=[v]:=List.length_eq_one_iff.1 (Xv hrd);have hv:Qk W0.gh a (.m q)=v:=hv;refine⟨v,F (.m q),(Qd0 h hq hg).trans hv,hrd,fun _ hb=>hb,h.nodup _,by rw[hg];simp,(fun z e T f x b S hb=>by rw[hg]at hb;cases hb),fun z d hd=> ?_,fun z w' _=>⟨Zom ⟨by rw[Kg];simp,fun p v U hv=> ?_⟩,fun hr=>⟨[v],by rw[hv];rfl,by unfold rdF;exact hr⟩⟩⟩
   ·unfold Jm at hd⊢;rw[Kg]at hd⊢;by_cases hqd:Key.m q=Key.m d
    ·rw[if_pos hqd]at hd⊢;exact hd
    ·rw[if_neg hqd]at hd⊢;exact hd
   ·unfold Xb at hv⊢;rw[hg]at hv;rw[Kg];simpa using hv
  ·cases hl
 ·rename_i k T y hg;split at hl
  ·rename_i l hc;obtain⟨rfl,hyl⟩:=castE hc;have hyl:=eq_of_heq hyl;subst hyl;simp only[Osi]at hl;subst hl;rw[hg]at hs;obtain⟨b,c,S',hv,hF,hb,hrd⟩:=hs;unfold rdF at hrd;obtain⟨v,hcv⟩: ∃v,c.toList=[v]:=List.length_eq_one_iff.1 (Xv hrd);rw[hcv]at hrd;have hbS:b∉S':=fun hm=>by have:=h.nodup (.m q);rw[hF]at this;exact(List.nodup_cons.1 this).1 hm
   have hbw:b<w.heap.size:=(h.own (.m q) b (by rw[hF];simp)).2.1;have hev:a.eval x=v:=by
    unfold Zzg at hq;split at hq
    ·rename_i k' T' f' y' hx;simp only[Osi]at hq;subst hq;obtain⟨_,_,hst⟩:=Zli hx;rw[hg]at hst;cases hst
    ·rename_i k' r hx;obtain⟨rfl,_,h2⟩:=Ke h (tg:=[]) (fun p hp=>by cases hp) hx (by simp);split at hq
     ·rename_i hfoul;simp only[Osi]at hq;subst hq;obtain⟨U,hU⟩:=h2 hfoul;unfold Xb at hU;rw[hg]at hU;obtain⟨b',c',S'',y',e1,e2,e3,rfl,e4⟩:=hU;rw[hF]at e1;simp only[List.cons.injEq]at e1;obtain⟨rfl,rfl⟩:=e1;rw[hb]at e2;simp only[Osi,Obj.cells.injEq,and_true]at e2;simp only[Zc9,Osi]at e3;subst e3;rw[e4,<-e2,hcv];rfl
     ·cases hq
    ·cases hq
   refine⟨v,S',hev,hrd,fun b' hb'=>by rw[hF];simp[hb'],by have:=h.nodup (.m q);rw[hF]at this;exact(List.nodup_cons.1 this).2,by rw[hg];simp,fun z e2 T f x b2 S hb2 hF2=> ?_,fun z d hd=> ?_,fun z w' hw=>⟨Zom ⟨by rw[Kg];simp,fun p v U hv=> ?_⟩,fun hr=>⟨b,c,S',hv,hF,by rw[hw b hbw hbS];exact hb,by unfold rdF;rw[hcv];exact hr⟩⟩⟩
   ·rw[hg]at hb2;cases hb2;exact⟨_,_,S,rfl,hF2⟩
   ·unfold Jm at hd⊢;rw[Kg]at hd⊢;by_cases hqd:Key.m q=Key.m d
    ·rw[if_pos hqd]at hd;cases hd
    ·rw[if_neg hqd]at hd⊢;exact hd
   ·unfold Xb at hv⊢;rw[hg]at hv;rw[Kg];simp only[if_true];obtain⟨b',c',S'',y',e1,e2,e3,e4,e5⟩:=hv;rw[hF]at e1;simp only[List.cons.injEq]at e1;obtain⟨rfl,rfl⟩:=e1;cases p with
    |nil=>
     simp only[Zc9,Osi]at e3;subst e3;exact⟨b,c',S',_,hF,by rw[hw b hbw hbS];exact e2,rfl,e4,e5⟩
    |cons i p=>simp[Zc9,fld]at e3
  ·cases hl
 ·cases hl
theorem Qvq{ρ:Type}{Γ:Zx7}(hΓ:Γ.ok P g)(h:R n W0 w X F [] s a){f:FuncId}{fo:Operand}(hfo:a.eval fo= .func (.func f) #[] #[]){xs:Array Operand}{ats:Array TypeId}(ho:o.op= .call {callee:= .value fo,args:=xs,argTypes:=ats}){k:St->Option ρ}{r:ρ}(hr:Q35 Γ n s o.dst f xs.toList k=some r)
  {K:Act->World->Prop} {Q:Exit->Act->World->Prop} (hK: ∀v w' X' F' s',k s'=some r->R n W0 w' X' F' [] s' (a.put o.dst v)->K (a.put o.dst v) w'):o.wp P a w K Q:=by
 unfold Q35 at hr;split at hr
 ·rename_i e x0 rest he hxs;obtain⟨rfl,hok⟩:=Zx7.find_ok hΓ he;split at hr
  ·rename_i q hq;split at hr
   ·rename_i lm us hl hus hfl;obtain⟨v,L,hv,hrd,hLF,hLn,htup,hsame,hdst,Qcc⟩:=Qvr h hok.flat hq hl;have hlt: ∀b∈L,b<w.heap.size:=fun b hb=>(h.own _ _ (hLF b hb)).2.1
    
    have call: ∀{z},e.F lm.1 us=some z-> ∀{K':Act->World->Prop},(∀rs S w',R n W0 w' X F (S++ []) (Zst s q (lm.2 z.2)) a->Zeh w' W0.B e.res z.1 rs S->K' (a.put o.dst (Xu rs)) w')->o.wp P a w K' Q:=by
     intro z hz K' hK';have hrest:xs.toList.map a.eval=v::rest.map a.eval:=by rw[hxs,List.map_cons,hv]
     have hc:=hok.calls w (fun b=>b<w.heap.size/\b∉L) L lm.1 z.2 us z.1 v (rest.map a.eval) h.glob (fun b hb=>⟨h.xlt b (h.gx b hb),fun hm=>(h.own _ _ (hLF b hm)).2.2 (h.gx b hb)⟩) (fun b hb=>hb.1) (fun b hb hx=>hx.2 hb) hLn
      (by
       obtain⟨v1,xs1,S1,S2,e1,e2,h1,h2⟩:=hrd;obtain⟨e5,h5⟩:=Zdy (r':=rd w (fun b=>b<w.heap.size/\b∉L) 0 true e.t) (fun x v S h=>Znb hok.flat h) h2;exact⟨v1,xs1,S1,S2,e1,e2,⟨Zy9 h1.1 (Nat.zero_le _),h1.2⟩,by rw[e5];exact h5⟩)
      (Z24 hfl (Zpv h (tg:=[]) (fun p hp=>by cases hp) hus)) hz
     have hrun: (execOp a.eval o).run P w= .ok (.enter e.f (v::rest.map a.eval).toArray) w:=by
      have:execOp a.eval o=callFunc e.f (xs.map a.eval):=by
       simp only[execOp,ho,resolve,hfo,Deferred.ofValue];simp[invoke]
      rw[this,hok.enters];congr 2;apply Array.toList_inj.mp;rw[<-hrest];simp
     unfold Oper.wp;rw[hrun,Oper.upon_enter];refine hc.mono fun en w' ⟨rs,S,hen,hres,hnd,⟨X2,hrd'⟩,h1,h2,h3,h4,h5⟩=> ?_;subst hen;show K' (a.put o.dst (Xu rs)) w';have hlow: ∀{ts:List Ty} {x:Jb ts} {rs:List Value} {S:List Nat},Zeh w' w.heap.size ts x rs S->(∀b∈S,w.heap.size<=b/\b<w'.heap.size)/\Zeh w' W0.B ts x rs S:=by
      intro ts
      induction ts with
      |nil=>intro x rs S h;exact⟨by simp[h.2],h⟩
      |cons t ts ih=>
       intro x rs S ⟨cs,us,S1,S2,e1,e2,g1,g2⟩;obtain⟨k1,k2⟩:=ih g2;refine⟨fun b hb=> ?_,cs,us,S1,S2,e1,e2,Zcn h.below.sizeB (fun _ h=>h) g1,k2⟩;rw[e2]at hb;rcases List.mem_append.1 hb with hb|hb
       ·exact Zsp g1 b hb
       ·exact k1 b hb
     obtain⟨hfresh,hres'⟩:=hlow hres;have hrd2:rd w' X W0.B true (.slice e.e e.t) z.2 [v] L:=Qz2 hok.flat hrd hrd';have hbl:W0.below w':=⟨h1.trans h.below.os,h2.trans h.below.tape,h3.trans h.below.output,Nat.le_trans h.below.size h4,fun b hb=>
      (h5 b (Nat.lt_of_lt_of_le (W0.yW b hb) h.below.size) fun hm=>W0.sep hb (h.own _ _ (hLF b hm)).1 rfl).trans (h.below.block b hb)⟩
     have hFk:Qd F (.m q) (F (.m q))=F:=by funext j;by_cases hj:j= .m q<;>simp[Qd,hj]
     obtain⟨hTn,hvt⟩:=Qcc z.2 w' h5;have hR:=h.turn' (w':=w') (S':=F (.m q)) (by rw[hFk];exact hTn) hbl h4 (fun b hb=>h5 b (h.xlt b hb) fun hm=>(h.own _ _ (hLF b hm)).2.2 hb)
      (fun k b hk hb=>h5 b (h.own k b hb).2.1 fun hm=>hk (h.disj _ _ b hb (hLF b hm))) (H':=[]) (fun b hb=>by simpa using hb) (by simpa using h.nodup (.m q)) htup (hsame z.2)
      (by rw[hFk];exact hvt hrd2)
     rw[hFk]at hR;exact hK' rs S w' (hR.hand (fun b hb=>⟨.inl (Nat.le_trans h.below.size (hfresh b hb).1),(hfresh b hb).2,fun hx=>by have:=h.xlt b hx;have:=(hfresh b hb).1;omega⟩) hnd
      (fun k b hb hm=>by have:=(h.own k b hb).2.1;have:=(hfresh b hm).1;omega) (fun b hb hm=>by cases hm)) hres'
    split at hr
    ·rename_i hd;simp only[Option.bind_eq_some_iff]at hr;obtain⟨z,hz,hk⟩:=hr;refine call hz fun rs S w' hR hres=> ?_;have hK':=hK (Xu rs) w' X F _ hk;rw[hd]at hK'⊢;exact hK' hR.drop
    ·rename_i d hd;split at hr
     ·rename_i hdn;simp only[Oba,Nat.blt_eq]at hdn;simp only[Option.bind_eq_some_iff]at hr;obtain⟨z,hz,hk⟩:=hr;refine call hz fun rs S w' hR hres=> ?_;obtain⟨F',hF'⟩:=hR.putRes (hdst z.2 d hdn.1) hdn.2 hres;have hK':=hK (Xu rs) w' X F' _ hk;rw[hd]at hK'⊢;exact hK' hF'
     ·cases hr
   ·cases hr
  ·cases hr
 ·cases hr
end
end Go.Am
namespace Go.Am
open Go.RowKit
inductive AK where
 |sh (T:Ty)
 |bx (e:TypeId) (T:Ty) (o:Fl)
 |mv (T:Ty)
@[reducible] def Zzz:List AK->Type| []=>Unit| .sh T::r=>T.den×Zzz r| .bx _ T _::r=>T.den×Zzz r| .mv T::r=>T.den×Zzz r
@[reducible] def Zri:List AK->Type| []=>Unit| .sh _::r=>Zri r| .bx _ T _::r=>T.den×Zri r| .mv _::r=>Zri r
inductive RS where
 |vals (ts:List Ty)
 |newb (e:TypeId) (T:Ty)
 |shr (ts:List Ty)
 |flg (ts:List (Ty×Fl))
 |fp (T:Ty) (j:Nat) (p1 p2:List Nat)
@[reducible] def Zu9:List (Ty×Fl)->Type| []=>Unit|t::r=>t.1.den×Zu9 r
@[reducible] def Zz0:RS->Type| .vals ts=>Jb ts| .newb _ T=>T.den| .shr ts=>Jb ts| .flg ts=>Zu9 ts| .fp .. =>Bool
def Qq1(w:World)(X:Nat->Prop)(B:Nat): (ts:List (Ty×Fl))->Zu9 ts->List Value->List Nat->Prop| [],_,vs,S=>vs=[]/\S=[]|t::ts,x,vs,S=> ∃cs us S1 S2,vs=Xt t.1 cs::us/\S=S1++S2/\rdF w X B t.1 t.2 x.1 cs S1/\Qq1 w X B ts x.2 us S2
def Qv7(w:World)(X:Nat->Prop): (ts:List Ty)->Jb ts->List Value->Prop| [],_,vs=>vs=[]|t::ts,x,vs=> ∃cs us,vs=Xt t cs::us/\rd w X 0 false t x.1 cs []/\Qv7 w X ts x.2 us
def rdA(w:World)(X:Nat->Prop): (as:List AK)->Zzz as->List Value->List Nat->Prop| [],_,vs,L=>vs=[]/\L=[]| .sh t::r,x,vs,L=> ∃cs us,vs=Xt t cs::us/\rd w X 0 false t x.1 cs []/\rdA w X r x.2 us L| .bx e t o::r,x,vs,L=> ∃b c S us L',vs= .pointer (some ⟨b,0,none⟩)::us/\L=b:: (S++L')/\w.heap[b]? =some (.cells c e (0,0))/\rdF w X 0 t o x.1 c.toList S/\rdA w X r x.2 us L'| .mv t::r,x,vs,L=> ∃cs S us L',vs=Xt t cs::us/\L=S++L'/\rd w X 0 true t x.1 cs S/\rdA w X r x.2 us L'
def rdO(w:World)(X:Nat->Prop): (as:List AK)->Zri as->List Value->List Nat->List Nat->Prop| [],_,vs,BL,C=>vs=[]/\BL=[]/\C=[]| .sh _::r,x,vs,BL,C=> ∃v us,vs=v::us/\rdO w X r x us BL C| .bx e t o::r,x,vs,BL,C=> ∃b c S us BL' C',vs= .pointer (some ⟨b,0,none⟩)::us/\BL=b::BL'/\C=S++C'/\w.heap[b]? =some (.cells c e (0,0))/\rdF w X 0 t o x.1 c.toList S/\rdO w X r x.2 us BL' C'| .mv _::r,x,vs,BL,C=> ∃v us,vs=v::us/\rdO w X r x us BL C
def rdS(w:World)(X:Nat->Prop): (r:RS)->Zz0 r->List Value->List Nat->Prop| .vals ts,x,vs,S=>Zeh w 0 ts x vs S| .newb e T,x,vs,S=> ∃b c,vs=[.pointer (some ⟨b,0,none⟩)]/\S=[b]/\w.heap[b]? =some (.cells c e (0,0))/\rd w X 0 false T x c.toList []| .shr ts,x,vs,S=>S=[]/\Qv7 w X ts x vs| .flg ts,x,vs,S=>Qq1 w X 0 ts x vs S| .fp ..,_,_,S=>S=[]
def rdP: (r:RS)->Zz0 r->List Value->List Nat->Prop| .fp T j p1 p2,x,vs,BL=> ∃b,BL[j]? =some b/\vs=[.pointer (some ⟨b,J3 T (bif x then p1 else p2),none⟩)]| .vals _,_,_,_| .newb ..,_,_,_| .shr _,_,_,_| .flg _,_,_,_=>True
structure FnB where
 f:FuncId
 args:List AK
 res:RS
 F:Zzz args->Option (Zz0 res×Zri args)
structure Q7m(w w':World)(X X':Nat->Prop)(L N:List Nat):Prop where
 os:w'.os=w.os
 tape:w'.tape=w.tape
 output:w'.output=w.output
 size:w.heap.size<=w'.heap.size
 xx: ∀b,X b->X' b
 xlt: ∀b,X' b->b<w'.heap.size
 xin: ∀b,X' b->X b\/w.heap.size<=b\/b∈L
 nd:N.Nodup
 nin: ∀b,b∈N->(w.heap.size<=b\/b∈L)/\b<w'.heap.size/\ ¬X' b
 block: ∀b,b<w.heap.size->b∉L->w'.heap[b]? =w.heap[b]?
structure Z1k(P:Program)(g:Kr)(e:FnB):Prop where
 enters: ∀args w,(callFunc e.f args).run P w= .ok (.enter e.f args) w
 calls: ∀(w:World) (X:Nat->Prop) (L:List Nat) (xs:Zzz e.args) (r:Zz0 e.res×Zri e.args) (vals:List Value),g.G w->(∀b,g.GB b->X b)->(∀b,X b->b<w.heap.size)->(∀b,b∈L-> ¬X b/\b<w.heap.size)->L.Nodup->
  rdA w X e.args xs vals L->e.F xs=some r->
  Calls P e.f vals.toArray w fun en w'=> ∃rs S BL C X',en= .returned (Xu rs)/\Q7m w w' X X' L (S++ (BL++C))/\rdS w' X' e.res r.1 rs S/\rdO w' X' e.args r.2 vals BL C/\rdP e.res r.1 rs BL
abbrev Zu2:=List FnB
def Zu2.find(Γ:Zu2)(f:FuncId):Option FnB:=
 match Γ with
 | []=>none
 |e::r=>match Nat.beq e.f f with|true=>some e|false=>Zu2.find r f
def Zu2.ok(Γ:Zu2)(P:Program)(g:Kr):Prop:= ∀e∈Γ,Z1k P g e
theorem Zu2.find_ok{Γ:Zu2}{P:Program}{g:Kr}(h:Γ.ok P g){f:FuncId}{e:FnB}(he:Γ.find f=some e):e.f=f/\Z1k P g e:=by
 induction Γ with
 |nil=>cases he
 |cons x r ih=>
  simp only[Zu2.find]at he;split at he
  ·rename_i hb;simp only[Osi]at he;subst he;exact⟨Onb hb,h _ (by simp)⟩
  ·exact ih (fun e he=>h e (by simp[he])) he
def Qgn:Fl->Fl->Ty->Bool| .u true,f,T=>Wh T f (.u true)| .u false,f,T=>Zmu f T| .p a b,f,.pair A B=>Qgn a (Zs9 f 0) A&&Qgn b f.snd B|o,f,T=>Wh T f o
def Qr4:Op1->Option Nat| .tm k (.box _ _ _ _)=>some k| .tm _ (.ptr r [])=>some r|_=>none
def Z9t(s:St)(o:Op1)(T:Ty):Option T.den:=
 match o with
 | .cst v=>Z4r T v
 |o=>match Zrt s o with
  |some ⟨U,f,x⟩=>match Zmu f U with
   |true=>Km T U x
   |false=>none
  |none=>none
def Zse:St->List AK->List Operand->Option (List TV×St)
 |s,.mv t::as,x::xs=>match Zr1 s (op1 s [] x) t with
  |some u=>match Wh u.T u.f (.u true),Zse u.s as xs with
   |true,some (l,s')=>some (⟨u.T,u.x⟩::l,s')
   |_,_=>none
  |none=>none
 |s,.sh _::as,_::xs=>Zse s as xs
 |s,.bx _ _ _::as,_::xs=>Zse s as xs
 |s,_,_=>some ([],s)
def Zur(s:St):List TV->(as:List AK)->List Operand->Option (Zzz as×List Nat)
 |_,[],[]=>some ((),[])
 |m,.sh t::as,x::xs=>match Z9t s (op1 s [] x) t,Zur s m as xs with
  |some u,some (us,rs)=>some ((u,us),rs)
  |_,_=>none
 |m,.bx e t o::as,x::xs=>match Qr4 (op1 s [] x)with
  |some q=>match s.get (.m q)with
   | .box e' U f y=>match Nat.beq e' e&&Qgn o f U,Km t U y,Zur s m as xs with
    |true,some u,some (us,rs)=>some ((u,us),q::rs)
    |_,_,_=>none
   |_=>none
  |none=>none
 |z::m,.mv t::as,_::xs=>match Km t z.1 z.2,Zur s m as xs with
  |some u,some (us,rs)=>some ((u,us),rs)
  |_,_=>none
 |_,_,_=>none
def Qgm:List Nat->Bool| []=>true|x::xs=> !(xs.any (Nat.beq x))&&Qgm xs
def Zkv:List AK->List Operand->St->St
 | .sh t::as,x::xs,s=>match t.flat with
  |true=>Zkv as xs s
  |false=>match Zzg s (op1 s [] x)with
   |some q=>match s.get (.m q)with
    | .val U f y=>match Zmu f U,f.live with
     |false,true=>Zkv as xs (Zst s q (.val U (.u false) y))
     |_,_=>Zkv as xs s
    |_=>Zkv as xs s
   |none=>Zkv as xs s
 | .bx _ _ _::as,_::xs,s=>Zkv as xs s
 | .mv _::as,_::xs,s=>Zkv as xs s
 |_,_,s=>s
def Znl:List Nat->St->St
 | [],s=>s
 |q::rs,s=>match s.get (.m q)with
  | .box e T _ y=>Znl rs (Y0 s q (.box e T .d y))
  |_=>Znl rs s
def Qqz: (as:List AK)->Zri as->List Nat->St->St| [],_,_,s=>s| .sh _::r,x,rs,s=>Qqz r x rs s| .bx e T o::r,x,q::rs,s=>Qqz r x.2 rs (Y0 s q (.box e T o x.1))| .bx _ _ _::_,_,[],s=>s| .mv _::r,x,rs,s=>Qqz r x rs s
def Qav(d:Nat): (ts:List Ty)->Jb ts->Nat->List (Key×Tm)->List (Key×Tm)| [],_,_,r=>r|t::ts,x,i,r=>Qav d ts x.2 (i+1) ((.c d i,.val t (.u false) x.1)::r)
def Q78(d:Nat)(s:St): (ts:List Ty)->Jb ts->St| [t],r=>Yx s d (.val t (.u false) r.1)| [],r=>{env:=Qav d [] r 0 (Yx s d .tup).env,dirty:=(Yx s d .tup).dirty,lent:=s.lent}|t::u::ts,r=>{env:=Qav d (t::u::ts) r 0 (Yx s d .tup).env,dirty:=(Yx s d .tup).dirty,lent:=s.lent}
def Qml(d:Nat): (ts:List (Ty×Fl))->Zu9 ts->Nat->List (Key×Tm)->List (Key×Tm)| [],_,_,r=>r|t::ts,x,i,r=>Qml d ts x.2 (i+1) ((.c d i,.val t.1 t.2 x.1)::r)
def Q9j(d:Nat)(s:St): (ts:List (Ty×Fl))->Zu9 ts->St| [t],r=>Yx s d (.val t.1 t.2 r.1)| [],r=>{env:=Qml d [] r 0 (Yx s d .tup).env,dirty:=(Yx s d .tup).dirty,lent:=s.lent}|t::u::ts,r=>{env:=Qml d (t::u::ts) r 0 (Yx s d .tup).env,dirty:=(Yx s d .tup).dirty,lent:=s.lent}
def Qt7(d:Nat)(s:St): (r:RS)->Zz0 r->St| .vals ts,x=>Z9q d s ts x| .newb e T,x=>Yx s d (.box e T (.u false) x)| .shr ts,x=>Q78 d s ts x| .flg ts,x=>Q9j d s ts x| .fp ..,_=>s
noncomputable def Q6o{ρ:Type}(d:Nat)(rs:List Nat)(s:St): (r:RS)->Zz0 r->(St->Option ρ)->Option ρ
 | .fp T j p1 p2,x,k=>match rs[j]? with
  |some q=>match s.get (.m q)with
   | .box _ U _ _=>match decide (U=T)with
    |true=>bif x then k (Yx s d (.ptr q p1))else k (Yx s d (.ptr q p2))
    |false=>none
   |_=>none
  |none=>none
 | .vals ts,x,k=>k (Qt7 d s (.vals ts) x)
 | .newb e T,x,k=>k (Qt7 d s (.newb e T) x)
 | .shr ts,x,k=>k (Qt7 d s (.shr ts) x)
 | .flg ts,x,k=>k (Qt7 d s (.flg ts) x)
noncomputable def Qmd{ρ:Type}(Γ:Zu2)(n:Nat)(s:St)(dst:Option Nat)(f:FuncId)(xs:List Operand)(k:St->Option ρ):Option ρ:=
 match Γ.find f with
 |none=>none
 |some e=>match Zse (Zkv e.args xs s) e.args xs with
  |none=>none
  |some (m,s2)=>match Zur s2 m e.args xs with
   |none=>none
   |some (us,rs)=>match Qgm rs with
    |false=>none
    |true=>match dst with
     |none=>(e.F us).bind fun z=>k (Qqz e.args z.2 rs (Znl rs s2))
     |some d=>match Jm (Znl rs s2) d&&Nat.blt d n&& !(rs.any (Nat.beq d))with
      |false=>none
      |true=>(e.F us).bind fun z=>Q6o d rs (Qqz e.args z.2 rs (Znl rs s2)) e.res z.1 k
section
variable {P:Program} {g:Kr} {W0:Wz g} {w w':World} {X X':Nat->Prop} {B B' n:Nat} {own:Bool} {s:St} {F:Key->List Nat} {a:Act} {H H':List Nat} {o:Oper} {tg:Xi} {τ:Tab} {gh:Nat->Value}
theorem Z4q{x:Nat}{l:List Nat}(h: (l.any (Nat.beq x))=false):x∉l:=fun hx=>by
 have:l.any (Nat.beq x)=true:=List.any_eq_true.2 ⟨x,hx,Nat.beq_refl x⟩;rw[h]at this;cases this
theorem Qix: ∀{l:List Nat},Qgm l=true->l.Nodup
 | [],_=>List.nodup_nil
 |x::xs,h=>by
  simp only[Qgm,Oba,Bool.not_eq_true']at h;exact List.nodup_cons.2 ⟨Z4q h.1,Qix h.2⟩
theorem J6: ∀{T:Ty} {x:T.den} {vs:List Value} {S:List Nat},rd w X B own T x vs S->(∀b,b∈S->B'<=b)->rd w X B' own T x vs S
 | .unit,_,_,_,h,_| .int _,_,_,_,h,_| .bool,_,_,_,h,_| .fnc _,_,_,_,h,_| .str,_,_,_,h,_=>h
 | .slice _ _,_,_,_,⟨v,xs,S1,S2,e,e2,h1,h2⟩,hS=>by
  refine⟨v,xs,S1,S2,e,e2,?_,Kf h2 fun _ _ _ _ hT h=>J6 h fun b hb=>hS b (by rw[e2];simp[hT b hb])⟩;cases own
  ·exact h1
  ·obtain⟨h3,h4⟩:=h1;refine⟨⟨h3.1,h3.2.imp id fun⟨b,cap,cur,h5,h6,h7⟩=>⟨b,cap,cur,h5,hS b ?_,h7⟩⟩,h4⟩;rw[e2,h4,h5];simp[Value.ownBlock]
 | .pair a b,_,_,_,⟨v1,v2,S1,S2,e,e2,h1,h2⟩,hS=>
  ⟨v1,v2,S1,S2,e,e2,J6 h1 fun b hb=>hS b (by rw[e2];simp[hb]),J6 h2 fun b hb=>hS b (by rw[e2];simp[hb])⟩
 | .arr n t,_,_,_,⟨h,h'⟩,hS=>⟨h,Kf h' fun _ _ _ _ hT h=>J6 h fun b hb=>hS b (hT b hb)⟩
 | .err,_,_,_,h,_=>h
 | .hid _,_,_,_,⟨e,y,h⟩,hS=>⟨e,y,J6 h hS⟩
 | .sptr ..,_,_,_,⟨e,o,b,c,h1,h2,h3,h4⟩,_=>⟨e,o,b,c,h1,h2,h3,J6 h4 (by simp)⟩
 | .clo ..,_,_,_,⟨e,cs,h1,h2⟩,_=>⟨e,cs,h1,J6 h2 (by simp)⟩
theorem Qdx: ∀{ts:List Ty} {x:Jb ts} {vs:List Value} {S:List Nat},Zeh w B ts x vs S->(∀b,b∈S->B'<=b)->Zeh w B' ts x vs S
 | [],_,_,_,h,_=>h
 |t::ts,x,vs,S,⟨cs,us,S1,S2,h1,h2,h3,h4⟩,hS=>
  ⟨cs,us,S1,S2,h1,h2,J6 h3 fun b hb=>hS b (by rw[h2];simp[hb]),Qdx h4 fun b hb=>hS b (by rw[h2];simp[hb])⟩
theorem Q3m{e:TypeId}{sz n:Nat}{v:Value}{xs:List Value}{S:List Nat}(hB:B'<=B)(hX: ∀b,X b->X' b)(h:hdr w X B own e sz n v xs S):hdr w X' B' own e sz n v xs S:=by
 cases own
 ·obtain⟨g1,g2,a,cap,g3,g4,g5,g6⟩:=h;exact⟨g1,g2,a,cap,g3,g4,g5,g6.imp id fun⟨ad,k1,k2,k3⟩=>⟨ad,k1,k2.imp id (hX _),k3⟩⟩
 ·obtain⟨h3,h4⟩:=h;exact⟨⟨h3.1,h3.2.imp id fun⟨b,cap,cur,h5,h6,h7⟩=>⟨b,cap,cur,h5,Nat.le_trans hB h6,h7⟩⟩,h4⟩
theorem Qxh{e:TypeId}{sz n:Nat}{v:Value}{xs:List Value}{S:List Nat}(h1:hdr w X B own e sz n v xs S)(hS: ∀b,b∈S->B'<=b):hdr w X B' own e sz n v xs S:=by
 cases own
 ·exact h1
 ·obtain⟨h3,h4⟩:=h1;refine⟨⟨h3.1,h3.2.imp id fun⟨b,cap,cur,h5,h6,h7⟩=>⟨b,cap,cur,h5,hS b ?_,h7⟩⟩,h4⟩;rw[h4,h5];simp[Value.ownBlock]
theorem Zuq(hB:B'<=B)(hX: ∀b,X b->X' b): ∀{T:Ty} {f:Fl} {x:T.den} {vs:List Value} {S:List Nat},rdF w X B T f x vs S->rdF w X' B' T f x vs S
 |T,.d,_,_,_,h=>by unfold rdF at*;exact h
 |T,.u b,_,_,_,h=>by unfold rdF at*;exact Zcn hB hX h
 | .pair a b,.p f g,_,_,_,⟨v1,v2,S1,S2,e,e2,h1,h2⟩=>⟨v1,v2,S1,S2,e,e2,Zuq hB hX h1,Zuq hB hX h2⟩
 | .slice e t,.p f g,_,_,_,h=>by
  obtain⟨rfl,rfl,v,xs,e1,h1,h2⟩:=Zfz h;exact⟨v,xs,e1,Q3m hB hX h1,Kf h2 fun _ _ _ _ _ h=>Zcn hB hX h⟩
 | .unit,.p ..,_,_,_,h| .int _,.p ..,_,_,_,h| .bool,.p ..,_,_,_,h| .fnc _,.p ..,_,_,_,h| .str,.p ..,_,_,_,h| .err,.p ..,_,_,_,h| .hid _,.p ..,_,_,_,h| .sptr ..,.p ..,_,_,_,h| .clo ..,.p ..,_,_,_,h| .arr ..,.p ..,_,_,_,h=>by simp[rdF]at h
theorem Zzd: ∀{T:Ty} {f:Fl} {x:T.den} {vs:List Value} {S:List Nat},rdF w X B T f x vs S->(∀b,b∈S->B'<=b)->rdF w X B' T f x vs S
 |T,.d,_,_,_,h,_=>by unfold rdF at*;exact h
 |T,.u b,_,_,_,h,hS=>by unfold rdF at*;exact J6 h hS
 | .pair a b,.p f g,_,_,_,⟨v1,v2,S1,S2,e,e2,h1,h2⟩,hS=>⟨v1,v2,S1,S2,e,e2,Zzd h1 fun b hb=>hS b (by rw[e2];simp[hb]),Zzd h2 fun b hb=>hS b (by rw[e2];simp[hb])⟩
 | .slice e t,.p f g,_,_,_,h,hS=>by
  obtain⟨rfl,rfl,v,xs,e1,h1,h2⟩:=Zfz h;exact⟨v,xs,e1,Qxh h1 hS,Kf h2 fun _ _ _ _ hT h=>J6 h fun b hb=>absurd (hT b hb) (by simp)⟩
 | .unit,.p ..,_,_,_,h,_| .int _,.p ..,_,_,_,h,_| .bool,.p ..,_,_,_,h,_| .fnc _,.p ..,_,_,_,h,_| .str,.p ..,_,_,_,h,_| .err,.p ..,_,_,_,h,_| .hid _,.p ..,_,_,_,h,_| .sptr ..,.p ..,_,_,_,h,_| .clo ..,.p ..,_,_,_,h,_| .arr ..,.p ..,_,_,_,h,_=>by simp[rdF]at h
theorem Zvo: ∀{o f:Fl} {T:Ty} {x:T.den} {vs:List Value} {S:List Nat},Qgn o f T=true->rdF w X B T f x vs S->rdF w X B T o x vs S
 | .u true,f,T,x,vs,S,h,hr=>by unfold Qgn at h;exact Zg4 h hr
 | .u false,f,T,x,vs,S,h,hr=>by
  unfold Qgn at h;have e:=Zh5 h hr;subst e;have: ∀{f:Fl} {T:Ty},Zmu f T=true->f.live=true:=by
   intro f
   induction f with
   |u b=>intro T _;rfl
   |d=>intro T h;simp[Zmu]at h
   |p f1 f2 ih1 ih2=>
    intro T h;cases T<;>simp[Zmu]at h
    simp[Fl.live,ih1 h.1,ih2 h.2]
  unfold rdF;exact Ko (fun _ h=>h) (this h) hr (by simp)
 | .p a b,f,.pair A B',x,vs,S,h,hr=>by
  unfold Qgn at h;simp only[Oba]at h;obtain⟨v1,v2,S1,S2,e,e2,h1,h2⟩:=Zpu hr;exact⟨v1,v2,S1,S2,e,e2,Zvo h.1 h1,Zvo h.2 h2⟩
 | .p a b,f,.slice ..,x,vs,S,h,hr| .p a b,f,.unit,x,vs,S,h,hr| .p a b,f,.int _,x,vs,S,h,hr| .p a b,f,.bool,x,vs,S,h,hr| .p a b,f,.str,x,vs,S,h,hr| .p a b,f,.arr ..,x,vs,S,h,hr| .p a b,f,.fnc _,x,vs,S,h,hr| .p a b,f,.err,x,vs,S,h,hr| .p a b,f,.hid _,x,vs,S,h,hr| .p a b,f,.sptr ..,x,vs,S,h,hr| .p a b,f,.clo ..,x,vs,S,h,hr=>by unfold Qgn at h;exact Zg4 h hr
 | .d,f,T,x,vs,S,h,hr=>by unfold Qgn at h;exact Zg4 h hr
theorem Zze(h:R n W0 w X F H s a){x:Operand}{T:Ty}{y:T.den}(hr:Z9t s (op1 s [] x) T=some y):
  ∃vs,a.eval x=Xt T vs/\rd w X 0 false T y vs []:=by
 unfold Z9t at hr;split at hr
 ·rename_i v hv;obtain rfl:=Zvu hv;obtain⟨vs,h1,h2⟩:=Zt6 (w:=w) (X:=X) (B:=0) (own:=false) hr;exact⟨vs,h1,h2⟩
 ·split at hr
  ·rename_i U f y' hl;obtain⟨hf,vs,S,h1,h2,h3⟩:=Zee h (tg:=[]) (fun p hp=>by cases hp) hl;split at hr
   ·rename_i hn;cases Zbn hr;have e:=Zh5 hn h2;subst e;exact⟨vs,h1,Zcn (Nat.zero_le _) (fun _ h=>h) (Ko (fun _ h=>h) hf h2 (by simp))⟩
   ·cases hr
  ·cases hr
def Qxs(F:Key->List Nat)(s:St):List AK->List Nat->List Value->Prop| [],rs,vs=>rs=[]/\vs=[]| .sh _::as,rs,vs=> ∃v us,vs=v::us/\Qxs F s as rs us| .bx e T _::as,rs,vs=> ∃q rs' b S us f y,rs=q::rs'/\vs= .pointer (some ⟨b,0,none⟩)::us/\F (.m q)=b::S/\s.get (.m q)= .box e T f y/\Qxs F s as rs' us| .mv _::as,rs,vs=> ∃v us,vs=v::us/\Qxs F s as rs us
theorem Zvy(h:R n W0 w X F H s a){x:Operand}{q:Nat}(hq:Qr4 (op1 s [] x)=some q){e:TypeId}{T:Ty}{f:Fl}{y:T.den}(hg:s.get (.m q)= .box e T f y):a.eval x=Qk W0.gh a (.m q):=by
 unfold Qr4 at hq;split at hq
 ·rename_i k e' T' f' y' hx;simp only[Osi]at hq;subst hq;obtain⟨rfl,hb,_⟩:=Zli hx;exact(Yh W0 a hb).symm
 ·rename_i k r hx;simp only[Osi]at hq;subst hq;obtain⟨rfl,_,e',T',f',y',b,S,h1,h2,h3⟩:=Ke h (tg:=[]) (fun p hp=>by cases hp) hx (by simp);have hs:=h.slots (.m r);rw[hg]at hs;obtain⟨b',c,S',k1,k2,_⟩:=hs;rw[h2]at k2;obtain⟨rfl,_⟩:=List.cons.inj k2;rw[h3,k1];have:J3 T' []=0:=by cases T'<;>rfl
  rw[this]
 ·cases hq
def mvs(w:World)(X:Nat->Prop)(ev:Operand->Value):List TV->List AK->List Operand->List Nat->Prop|z::m,.mv t::as,x::xs,M=> ∃vs S M',M=S++M'/\ev x=Xt z.1 vs/\rd w X 0 true z.1 z.2 vs S/\t=z.1/\mvs w X ev m as xs M'|m,.sh _::as,_::xs,M=>mvs w X ev m as xs M|m,.bx _ _ _::as,_::xs,M=>mvs w X ev m as xs M|_,_,_,_=>True
theorem R.perm(h:R n W0 w X F H s a)(hp:H'.Perm H):R n W0 w X F H' s a:=
 {h with
  hown:=fun b hb=>h.hown b (hp.mem_iff.1 hb)
  hnodup:=hp.nodup_iff.2 h.hnodup
  hdisj:=fun k b hb hh=>h.hdisj k b hb (hp.mem_iff.1 hh)}
theorem Ztg: ∀{as:List AK} {xs:List Operand} {s s2:St} {m:List TV} {F:Key->List Nat} {H:List Nat},R n W0 w X F H s a->Zse s as xs=some (m,s2)->
  ∃M F',R n W0 w X F' (M++H) s2 a/\(∀b,b∈M->W0.B<=b)/\mvs w X a.eval m as xs M/\(∀q,s.isBox q->s2.isBox q)
 | .mv t::as,x::xs,s,s2,m,F,H,h,hr=>by
  simp only[Zse]at hr;split at hr
  ·rename_i u hu;split at hr
   ·rename_i l s' hf hm;simp only[Osi,Opi]at hr;obtain⟨rfl,rfl⟩:=hr;obtain⟨hT,F2,S,vs,g1,g2,g3,_,_⟩:=Zav h (tg:=[]) (fun p hp=>by cases hp) hu;have g4:=Zg4 hf g2;unfold rdF at g4;obtain⟨M,F3,k1,k2,k3,k4⟩:=Ztg g3 hm;refine⟨S++M,F3,k1.perm ?_,fun b hb=>(List.mem_append.1 hb).elim (fun hb=>(Zsp g4 b hb).1) (k2 b),⟨vs,S,M,rfl,g1,J6 g4 (by simp),hT.symm,k3⟩,fun q hq=>k4 q (Zoz hu hq)⟩;rw[List.append_assoc];exact List.perm_append_comm_assoc _ _ _
   ·cases hr
  ·cases hr
 | .sh t::as,x::xs,s,s2,m,F,H,h,hr=>by
  simp only[Zse]at hr;obtain⟨M,F3,k1,k2,k3,k4⟩:=Ztg h hr;exact⟨M,F3,k1,k2,by cases m<;>exact k3,k4⟩
 | .bx _ _ _::as,x::xs,s,s2,m,F,H,h,hr=>by
  simp only[Zse]at hr;obtain⟨M,F3,k1,k2,k3,k4⟩:=Ztg h hr;exact⟨M,F3,k1,k2,by cases m<;>exact k3,k4⟩
 | [],xs,s,s2,m,F,H,h,hr=>by
  simp only[Zse,Osi,Opi]at hr;obtain⟨rfl,rfl⟩:=hr;exact⟨[],F,h,by simp,by cases xs<;>trivial,fun _ h=>h⟩
 | .mv _::_,[],s,s2,m,F,H,h,hr| .sh _::_,[],s,s2,m,F,H,h,hr| .bx _ _ _::_,[],s,s2,m,F,H,h,hr=>by
  simp only[Zse,Osi,Opi]at hr;obtain⟨rfl,rfl⟩:=hr;exact⟨[],F,h,by simp,trivial,fun _ h=>h⟩
theorem Zvw(h:R n W0 w X F H s a): ∀{m:List TV} {as:List AK} {xs:List Operand} {us:Zzz as} {rs:List Nat} {M:List Nat},mvs w X a.eval m as xs M->M.Nodup->(∀k b,b∈F k->b∉M)->Zur s m as xs=some (us,rs)->Qgm rs=true->
  ∃L,rdA w X as us (xs.map a.eval) L/\Qxs F s as rs (xs.map a.eval)/\L.Nodup/\(∀b,b∈L->(∃q,q∈rs/\b∈F (.m q))\/b∈M)
 |m,[],[],us,rs,M,hm,hMn,hMd,hr,hn=>by
  simp only[Zur,Osi,Opi]at hr;obtain⟨_,rfl⟩:=hr;exact⟨[],⟨rfl,rfl⟩,⟨rfl,rfl⟩,List.nodup_nil,by simp⟩
 |m,.sh t::as,x::xs,us,rs,M,hm,hMn,hMd,hr,hn=>by
  have hm1:mvs w X a.eval m as xs M:=by cases m<;>exact hm
  simp only[Zur]at hr;split at hr
  ·rename_i u us' rs' hu hus;simp only[Osi,Opi]at hr;obtain⟨rfl,rfl⟩:=hr;obtain⟨cs,h1,h2⟩:=Zze h hu;obtain⟨L,k1,k2,k3,k4⟩:=Zvw (as:=as) (xs:=xs) h hm1 hMn hMd hus hn;exact⟨L,⟨cs,_,by simp[h1],h2,k1⟩,⟨_,_,rfl,k2⟩,k3,k4⟩
  ·cases hr
 |m,.bx e t o::as,x::xs,us,rs,M,hm,hMn,hMd,hr,hn=>by
  have hm1:mvs w X a.eval m as xs M:=by cases m<;>exact hm
  simp only[Zur]at hr;split at hr
  ·rename_i q hq;split at hr
   ·rename_i e' U f y hg;split at hr
    ·rename_i u us' rs' hok hu hus;simp only[Osi,Opi]at hr;obtain⟨rfl,rfl⟩:=hr;simp only[Oba]at hok;have he:=Onb hok.1;subst he;cases Zbn hu;simp only[Qgm,Oba,Bool.not_eq_true']at hn;obtain⟨L,k1,k2,k3,k4⟩:=Zvw (as:=as) (xs:=xs) h hm1 hMn hMd hus hn.2;have hev:=Zvy h hq hg;have hs:=h.slots (.m q);rw[hg]at hs;obtain⟨b,c,S,g1,g2,g3,g4⟩:=hs;have hqn:q∉rs':=Z4q hn.1;refine⟨b:: (S++L),⟨b,c,S,_,L,by simp[hev,g1],rfl,g3,?_,k1⟩,⟨q,rs',b,S,_,f,_,rfl,by simp[hev,g1],g2,hg,k2⟩,?_,?_⟩
     ·exact Zuq (Nat.zero_le _) (fun _ h=>h) (Zvo hok.2 g4)
     ·have hnd:=h.nodup (.m q);rw[g2]at hnd;have: (b::S++L).Nodup:=List.nodup_append.2 ⟨hnd,k3,fun x hx y hy e=>by
       subst e;rcases k4 x hy with⟨q',hq',hb'⟩|hM
       ·have:=h.disj (.m q) (.m q') x (by rw[g2];exact hx) hb';simp only[Key.m.injEq]at this;subst this;exact hqn hq'
       ·exact hMd (.m q) x (by rw[g2];exact hx) hM⟩
      simpa using this
     ·intro b' hb;have hb:b'∈b::S\/b'∈L:=by simpa[or_assoc]using hb
      rcases hb with hb|hb
      ·exact .inl ⟨q,by simp,by rw[g2];exact hb⟩
      ·exact(k4 b' hb).imp (fun⟨q',hq',hb'⟩=>⟨q',by simp[hq'],hb'⟩) id
    ·cases hr
   ·cases hr
  ·cases hr
 |z::m,.mv t::as,x::xs,us,rs,M,hm,hMn,hMd,hr,hn=>by
  simp only[Zur]at hr;split at hr
  ·rename_i u us' rs' hu hus;simp only[Osi,Opi]at hr;obtain⟨rfl,rfl⟩:=hr;obtain⟨vs,S,M',rfl,h1,h2,rfl,h3⟩:=hm;have hu':=Zbn hu;have hxu:z.2=u:=by cases z;simpa using hu'
   obtain⟨g1,g2,g3⟩:=List.nodup_append.1 hMn;obtain⟨L,k1,k2,k3,k4⟩:=Zvw h h3 g2 (fun k b hb hm=>hMd k b hb (by simp[hm])) hus hn;refine⟨S++L,⟨vs,S,_,L,by simp[h1],rfl,by rw[<-hxu];exact h2,k1⟩,⟨_,_,rfl,k2⟩,List.nodup_append.2 ⟨g1,k3,fun y hy y' hy' e=> ?_⟩,fun b hb=> ?_⟩
   ·subst e;rcases k4 y hy' with⟨q,_,hq⟩|hM
    ·exact hMd (.m q) y hq (by simp[hy])
    ·exact g3 y hy y hM rfl
   ·rcases List.mem_append.1 hb with hb|hb
    ·exact .inr (by simp[hb])
    ·exact(k4 b hb).imp id fun hb=>by simp[hb]
  ·cases hr
 | [],.mv _::_,_,_,_,_,_,_,_,hr,_=>by simp[Zur]at hr
 |_::_,.mv _::_,[],_,_,_,_,_,_,hr,_=>by simp[Zur]at hr
 |_,[],_::_,_,_,_,_,_,_,hr,_=>by simp[Zur]at hr
 |_,.sh _::_,[],_,_,_,_,_,_,hr,_|_,.bx .. ::_,[],_,_,_,_,_,_,hr,_=>by simp[Zur]at hr
theorem R.frz(hs0:g.soft=false)(h:R n W0 w X F H s a){k:Nat}{T:Ty}{f:Fl}{x:T.den}(hg:s.get (.m k)= .val T f x)(hf:f.live=true):
  R n W0 w (fun b=>X b\/b∈F (.m k)) (Qd F (.m k) []) H (Zst s k (.val T (.u false) x)) a:=by
 have hT:Zzy W0.gh w w s (Zst s k (.val T (.u false) x)) F (Qd F (.m k) []) a k (.val T (.u false) x):=Zom ⟨by rw[Kg];simp,fun p v U hv=>by
  unfold Xb at hv⊢;rw[hg]at hv;rw[Kg];simpa using hv⟩
 exact
 {size:=h.size
  defers:=h.defers
  below:=h.below
  glob:=h.glob
  gx:=fun b hb=> .inl (h.gx b hb)
  xs:=fun e=>by rw[hs0]at e;cases e
  fix:=h.fix
  xlt:=fun b hb=>hb.elim (h.xlt b) fun hb=>(h.own _ b hb).2.1
  xin:=fun b hb=>hb.elim (h.xin b) fun hb=> .inr (h.own _ b hb).1
  x0:=fun b hb=> .inl (h.x0 b hb)
  own:=fun j b hb=>by
   simp only[Qd]at hb;split at hb
   ·cases hb
   ·rename_i hj;obtain⟨h1,h2,h3⟩:=h.own j b hb;exact⟨h1,h2,fun hx=>hx.elim h3 fun hk=>hj (h.disj j (.m k) b hb hk)⟩
  nodup:=fun j=>by
   simp only[Qd];split
   ·simp
   ·exact h.nodup j
  disj:=fun j j' b hb hb'=>by
   simp only[Qd]at hb hb';split at hb
   ·cases hb
   ·split at hb'
    ·cases hb'
    ·exact h.disj j j' b hb hb'
  hown:=fun b hb=>let⟨h1,h2,h3⟩:=h.hown b hb;⟨h1,h2,fun hx=>hx.elim h3 fun hk=>h.hdisj _ b hk hb⟩
  hnodup:=h.hnodup
  hdisj:=fun j b hb=>by
   simp only[Qd]at hb;split at hb
   ·cases hb
   ·exact h.hdisj j b hb
  comps:=fun d i hc=>by
   rw[Kg]at hc⊢;simp only[reduceCtorEq,if_false]at hc;obtain⟨h1,h2⟩:=h.comps d i hc;by_cases e:k=d
   ·subst e;rw[hg]at h1;cases h1
   ·exact⟨by simpa[e]using h1,h2⟩
  slots:=fun j=>by
   by_cases hj:j= .m k
   ·subst hj;have hs:=h.slots (.m k);rw[hg]at hs;obtain⟨vs,h1,h2⟩:=hs;rw[Kg];simp only[if_true,Qd];exact⟨vs,h1,by unfold rdF;exact Ko (fun b hb=> .inl hb) hf h2 fun b hb=> .inr hb⟩
   ·have e:Qd F (.m k) [] j=F j:=by simp[Qd,hj]
    rw[Kg,e];simp only[Ne.symm hj,if_false];exact Qlv hT (fun _ h=> .inl h) (fun _ _=>rfl) (fun _ _ _ _=>rfl) (fun _ _=>rfl) (fun e T' f' x' b S hb=>by rw[hg]at hb;cases hb) (h.slots j)}
theorem Zdr(hs0:g.soft=false): ∀{as:List AK} {xs:List Operand} {s:St} {X:Nat->Prop} {F:Key->List Nat},R n W0 w X F H s a-> ∃X' F',R n W0 w X' F' H (Zkv as xs s) a/\(∀b,X b->X' b)/\ ∀q,s.isBox q->(Zkv as xs s).isBox q
 | [],_,s,X,F,h=>⟨X,F,h,fun _ h=>h,fun _ h=>h⟩
 | .sh t::as,[],s,X,F,h=>⟨X,F,h,fun _ h=>h,fun _ h=>h⟩
 | .bx _ _ _::as,[],s,X,F,h=>⟨X,F,h,fun _ h=>h,fun _ h=>h⟩
 | .mv _::as,[],s,X,F,h=>⟨X,F,h,fun _ h=>h,fun _ h=>h⟩
 | .mv _::as,_::xs,s,X,F,h=>Zdr hs0 (as:=as) (xs:=xs) h
 | .bx _ _ _::as,_::xs,s,X,F,h=>Zdr hs0 (as:=as) (xs:=xs) h
 | .sh t::as,x::xs,s,X,F,h=>by
  simp only[Zkv];split
  ·exact Zdr hs0 h
  ·split
   ·split
    ·rename_i U f y hg;split
     ·rename_i hl;obtain⟨X',F',h1,h2,h3⟩:=Zdr hs0 (as:=as) (xs:=xs) (R.frz hs0 h hg hl);refine⟨X',F',h1,fun b hb=>h2 b (.inl hb),fun q hq=>h3 q ?_⟩;obtain⟨e,T,f',y',hq⟩:=hq;refine⟨e,T,f',y',?_⟩;rw[Kg,if_neg]
      ·exact hq
      ·intro e;simp only[Key.m.injEq]at e;subst e;rw[hg]at hq;cases hq
     ·exact Zdr hs0 h
    ·exact Zdr hs0 h
   ·exact Zdr hs0 h
theorem R.xup(hs0:g.soft=false)(h:R n W0 w X F H s a)(hX: ∀b,X b->X' b)(hlt: ∀b,X' b->b<w.heap.size)(hin: ∀b,X' b->W0.X0 b\/W0.mine b)(hF: ∀k b,b∈F k-> ¬X' b)(hH: ∀b,b∈H-> ¬X' b):R n W0 w X' F H s a:=
 {h with
  gx:=fun b hb=>hX b (h.gx b hb)
  xs:=fun e=>by rw[hs0]at e;cases e
  xlt:=hlt
  xin:=hin
  x0:=fun b hb=>hX b (h.x0 b hb)
  own:=fun k b hb=>let⟨h1,h2,_⟩:=h.own k b hb;⟨h1,h2,hF k b hb⟩
  hown:=fun b hb=>let⟨h1,h2,_⟩:=h.hown b hb;⟨h1,h2,hH b hb⟩
  slots:=fun k=>Zi1 hX (fun _ _=>rfl) (fun _ _ _=>rfl) (fun _ _=>rfl) (h.slots k)}
def Qxe(s:St)(k:Nat)(e:TypeId)(T:Ty)(x:T.den):St:=Y0 (Y0 s k (.box e T .d x)) k (.box e T (.u false) x)
theorem R.frzX(hs0:g.soft=false)(h:R n W0 w X F H s a){k:Nat}{e:TypeId}{T:Ty}{f:Fl}{x:T.den}(hg:s.get (.m k)= .box e T f x)(hf:f.live=true):
  ∃X' F',R n W0 w X' F' H (Qxe s k e T x) a/\ ∀b,X b->X' b:=by
 have hs:=h.slots (.m k);rw[hg]at hs;obtain⟨b,c,S,g1,g2,g3,g4⟩:=hs;have hnF:=h.nodup (.m k);rw[g2]at hnF;have hd: ∀b'∈b::S,b'∉H:=fun b' hb'=>h.hdisj (.m k) b' (by rw[g2];exact hb');have hmem: ∀b'∈S,b'∈F (.m k):=fun b' hb'=>by rw[g2];simp[hb']
 have h2:R n W0 w X (Qd F (.m k) [b]) (S++H) (Y0 s k (.box e T .d x)) a:=by
  refine h.turn (S':=[b]) (H':=S++H) h.below (Nat.le_refl _) (fun _ _=>rfl) (fun _ _ _ _=>rfl) ?_ ?_ (by rw[hg];simp) ?_ ?_
  ·intro b' hb';rw[g2];simpa using hb'
  ·refine List.nodup_append.2 ⟨by simp,List.nodup_append.2 ⟨(List.nodup_cons.1 hnF).2,h.hnodup,fun x hx y hy e=>hd x (by simp[hx]) (by rw[e];exact hy)⟩,fun x hx y hy e=> ?_⟩;simp only[List.mem_singleton]at hx;subst hx;subst e;rcases List.mem_append.1 hy with hy|hy
   ·exact(List.nodup_cons.1 hnF).1 hy
   ·exact hd x (by simp) hy
  ·intro e' T' f' x' b2 S2 hb hF;rw[hg]at hb;cases hb;rw[g2]at hF;obtain⟨rfl,_⟩:=List.cons.inj hF;exact⟨.d,_,[],rfl,rfl⟩
  ·exact⟨b,c,[],g1,rfl,g3,by unfold rdF;exact⟨Xx g4,Zg3 g4,rfl⟩⟩
 have h3:R n W0 w (fun b'=>X b'\/b'∈S) (Qd F (.m k) [b]) H (Y0 s k (.box e T .d x)) a:=by
  refine R.xup hs0 h2.drop (fun _ h=> .inl h) (fun b' hb'=>hb'.elim (h.xlt b') fun hb'=>(h.own _ b' (hmem b' hb')).2.1) (fun b' hb'=>hb'.elim (h.xin b') fun hb'=> .inr (h.own _ b' (hmem b' hb')).1) (fun k' b' hb' hx=> ?_) (fun b' hb' hx=> ?_)
  ·simp only[Qd]at hb';split at hb'
   ·simp only[List.mem_singleton]at hb';subst hb';rcases hx with hx|hx
    ·exact(h.own (.m k) b' (by rw[g2];simp)).2.2 hx
    ·exact(List.nodup_cons.1 hnF).1 hx
   ·rename_i hk;rcases hx with hx|hx
    ·exact(h.own k' b' hb').2.2 hx
    ·exact hk (h.disj _ _ b' hb' (hmem b' hx))
  ·rcases hx with hx|hx
   ·exact(h.hown b' hb').2.2 hx
   ·exact hd b' (by simp[hx]) hb'
 refine⟨fun b'=>X b'\/b'∈S,Qd (Qd F (.m k) [b]) (.m k) [b],?_,fun _ h=> .inl h⟩;have hF:Qd F (.m k) [b] (.m k)=[b]:=by simp[Qd]
 refine h3.turn (S':=[b]) (H':=H) h3.below (Nat.le_refl _) (fun _ _=>rfl) (fun _ _ _ _=>rfl) ?_ ?_ (by rw[Yg];simp) ?_ ?_
 ·intro b' hb';rw[hF];exact hb'
 ·exact List.nodup_append.2 ⟨by simp,h.hnodup,fun x hx y hy e=>by
   simp only[List.mem_singleton]at hx;subst hx;subst e;exact hd x (by simp) hy⟩
 ·intro e' T' f' x' b2 S2 hb hF2;rw[Yg]at hb;simp only[if_true]at hb;cases hb;rw[hF]at hF2;obtain⟨rfl,_⟩:=List.cons.inj hF2;exact⟨.u false,_,[],rfl,rfl⟩
 ·exact⟨b,c,[],g1,rfl,g3,by unfold rdF;exact Ko (fun _ h=> .inl h) hf g4 fun _ h=> .inr h⟩
def Q81(s:St)(k:Nat):St:=match s.get (.m k)with
 | .val U f y=>match f.live with
  |true=>Zst s k (.val U (.u false) y)
  |false=>s
 | .box e T f x=>match f.live with
  |true=>Qxe s k e T x
  |false=>s
 |_=>s
theorem Qxc(hs0:g.soft=false)(h:R n W0 w X F H s a)(k:Nat): ∃X' F',R n W0 w X' F' H (Q81 s k) a:=by
 unfold Q81;split
 ·rename_i U f y hg;split
  ·rename_i hf;exact⟨_,_,R.frz hs0 h hg hf⟩
  ·exact⟨X,F,h⟩
 ·rename_i e T f x hg;split
  ·rename_i hf;obtain⟨X',F',h',_⟩:=R.frzX hs0 h hg hf;exact⟨X',F',h'⟩
  ·exact⟨X,F,h⟩
 ·exact⟨X,F,h⟩
def Z6z:Fl->Ty->Fl->Fl
 | .u false,_,f=>match f.live with
  |true=> .u false
  |false=>f
 | .u true,_,f=>f
 | .d,_,f=>f
 | .p a b,.pair A B,f=> .p (Z6z a A (Zs9 f 0)) (Z6z b B f.snd)
 | .p _ _,_,f=>f
theorem Qhh: ∀{o:Fl} {T:Ty} {f:Fl} {x:T.den} {vs:List Value} {S:List Nat},S.Nodup->rdF w X B T f x vs S->
  ∃S',S'.Sublist S/\ ∀X':Nat->Prop,(∀b,X b->X' b)->(∀b,b∈S->b∉S'->X' b)->rdF w X' B T (Z6z o T f) x vs S'
 | .u false,T,f,x,vs,S,hn,h=>by
  cases hl:f.live
  ·refine⟨S,List.Sublist.refl _,fun X' hX _=> ?_⟩;simp only[Z6z,hl];exact Zuq (Nat.le_refl _) hX h
  ·refine⟨[],List.nil_sublist _,fun X' hX hS=> ?_⟩;simp only[Z6z,hl];unfold rdF;exact Ko hX hl h fun b hb=>hS b hb (by simp)
 | .u true,T,f,x,vs,S,hn,h=>⟨S,List.Sublist.refl _,fun X' hX _=>by unfold Z6z;exact Zuq (Nat.le_refl _) hX h⟩
 | .d,T,f,x,vs,S,hn,h=>⟨S,List.Sublist.refl _,fun X' hX _=>by unfold Z6z;exact Zuq (Nat.le_refl _) hX h⟩
 | .p a b,.pair A B',f,x,vs,S,hn,h=>by
  obtain⟨v1,v2,S1,S2,e,e2,h1,h2⟩:=Zpu h;subst e2;have hn':=List.nodup_append.1 hn;obtain⟨T1,k1,l1⟩:=Qhh (o:=a) hn'.1 h1;obtain⟨T2,k2,l2⟩:=Qhh (o:=b) hn'.2.1 h2;refine⟨T1++T2,List.Sublist.append k1 k2,fun X' hX hS=> ?_⟩;refine⟨v1,v2,T1,T2,e,rfl,l1 X' hX fun b hb hb'=>hS b (by simp[hb]) fun hm=> ?_,l2 X' hX fun b hb hb'=>hS b (by simp[hb]) fun hm=> ?_⟩
  ·rcases List.mem_append.1 hm with hm|hm
   ·exact hb' hm
   ·exact hn'.2.2 b hb b (k2.subset hm) rfl
  ·rcases List.mem_append.1 hm with hm|hm
   ·exact hn'.2.2 b (k1.subset hm) b hb rfl
   ·exact hb' hm
 | .p _ _,.slice ..,f,x,vs,S,hn,h| .p _ _,.unit,f,x,vs,S,hn,h| .p _ _,.int _,f,x,vs,S,hn,h| .p _ _,.bool,f,x,vs,S,hn,h| .p _ _,.str,f,x,vs,S,hn,h| .p _ _,.arr ..,f,x,vs,S,hn,h| .p _ _,.fnc _,f,x,vs,S,hn,h| .p _ _,.err,f,x,vs,S,hn,h| .p _ _,.hid _,f,x,vs,S,hn,h| .p _ _,.sptr ..,f,x,vs,S,hn,h| .p _ _,.clo ..,f,x,vs,S,hn,h=>
  ⟨S,List.Sublist.refl _,fun X' hX _=>by unfold Z6z;exact Zuq (Nat.le_refl _) hX h⟩
theorem R.subH(h:R n W0 w X F H s a)(hs:H'.Sublist H):R n W0 w X F H' s a:=
 {h with
  hown:=fun b hb=>h.hown b (hs.subset hb)
  hnodup:=h.hnodup.sublist hs
  hdisj:=fun k b hb hb'=>h.hdisj k b hb (hs.subset hb')}
def Q5w(s:St)(k:Nat)(o:Fl):St:=match s.get (.m k)with
 | .box e T f x=>Y0 (Y0 s k (.box e T .d x)) k (.box e T (Z6z o T f) x)
 |_=>s
theorem R.frzP(hs0:g.soft=false)(h:R n W0 w X F H s a)(k:Nat)(o:Fl): ∃X' F',R n W0 w X' F' H (Go.Am.Q5w s k o) a:=by
 unfold Go.Am.Q5w;split
 ·rename_i e T f x hg;have hs:=h.slots (.m k);rw[hg]at hs;obtain⟨b,c,S,g1,g2,g3,g4⟩:=hs;have hnF:=h.nodup (.m k);rw[g2]at hnF;have hd: ∀b'∈b::S,b'∉H:=fun b' hb'=>h.hdisj (.m k) b' (by rw[g2];exact hb');have hmem: ∀b'∈S,b'∈F (.m k):=fun b' hb'=>by rw[g2];simp[hb']
  have h2:R n W0 w X (Qd F (.m k) [b]) (S++H) (Y0 s k (.box e T .d x)) a:=by
   refine h.turn (S':=[b]) (H':=S++H) h.below (Nat.le_refl _) (fun _ _=>rfl) (fun _ _ _ _=>rfl) ?_ ?_ (by rw[hg];simp) ?_ ?_
   ·intro b' hb';rw[g2];simpa using hb'
   ·refine List.nodup_append.2 ⟨by simp,List.nodup_append.2 ⟨(List.nodup_cons.1 hnF).2,h.hnodup,fun x hx y hy e=>hd x (by simp[hx]) (by rw[e];exact hy)⟩,fun x hx y hy e=> ?_⟩;simp only[List.mem_singleton]at hx;subst hx;subst e;rcases List.mem_append.1 hy with hy|hy
    ·exact(List.nodup_cons.1 hnF).1 hy
    ·exact hd x (by simp) hy
   ·intro e' T' f' x' b2 S2 hb hF;rw[hg]at hb;cases hb;rw[g2]at hF;obtain⟨rfl,_⟩:=List.cons.inj hF;exact⟨.d,_,[],rfl,rfl⟩
   ·exact⟨b,c,[],g1,rfl,g3,by unfold rdF;exact⟨Xx g4,Zg3 g4,rfl⟩⟩
  obtain⟨S',hsub,hr⟩:=Qhh (o:=o) (List.nodup_cons.1 hnF).2 g4;have h2':R n W0 w X (Qd F (.m k) [b]) (S'++H) (Y0 s k (.box e T .d x)) a:=h2.subH (hsub.append_right H);have h3:R n W0 w (fun b'=>X b'\/(b'∈S/\b'∉S')) (Qd F (.m k) [b]) (S'++H) (Y0 s k (.box e T .d x)) a:=by
   refine R.xup hs0 h2' (fun _ h=> .inl h) (fun b' hb'=>hb'.elim (h.xlt b') fun hb'=>(h.own _ b' (hmem b' hb'.1)).2.1) (fun b' hb'=>hb'.elim (h.xin b') fun hb'=> .inr (h.own _ b' (hmem b' hb'.1)).1) (fun k' b' hb' hx=> ?_) (fun b' hb' hx=> ?_)
   ·simp only[Qd]at hb';split at hb'
    ·simp only[List.mem_singleton]at hb';subst hb';rcases hx with hx|hx
     ·exact(h.own (.m k) b' (by rw[g2];simp)).2.2 hx
     ·exact(List.nodup_cons.1 hnF).1 hx.1
    ·rename_i hk;rcases hx with hx|hx
     ·exact(h.own k' b' hb').2.2 hx
     ·exact hk (h.disj _ _ b' hb' (hmem b' hx.1))
   ·rcases List.mem_append.1 hb' with hb'|hb'
    ·rcases hx with hx|hx
     ·exact(h.own (.m k) b' (hmem b' (hsub.subset hb'))).2.2 hx
     ·exact hx.2 hb'
    ·rcases hx with hx|hx
     ·exact(h.hown b' hb').2.2 hx
     ·exact hd b' (by simp[hx.1]) hb'
  refine⟨fun b'=>X b'\/(b'∈S/\b'∉S'),Qd (Qd F (.m k) [b]) (.m k) (b::S'),?_⟩;have hF:Qd F (.m k) [b] (.m k)=[b]:=by simp[Qd]
  refine h3.turn (S':=b::S') (H':=H) h3.below (Nat.le_refl _) (fun _ _=>rfl) (fun _ _ _ _=>rfl) ?_ ?_ (by rw[Yg];simp) ?_ ?_
  ·intro b' hb';rw[hF];simpa[or_assoc]using hb'
  ·refine List.nodup_append.2 ⟨List.nodup_cons.2 ⟨fun hm=>(List.nodup_cons.1 hnF).1 (hsub.subset hm),(List.nodup_cons.1 hnF).2.sublist hsub⟩,h.hnodup,fun x hx y hy e=> ?_⟩;subst e;rcases List.mem_cons.1 hx with rfl|hx
   ·exact hd x (by simp) hy
   ·exact hd x (by simp[hsub.subset hx]) hy
  ·intro e' T' f' x' b2 S2 hb hF2;rw[Yg]at hb;simp only[if_true]at hb;cases hb;rw[hF]at hF2;obtain⟨rfl,_⟩:=List.cons.inj hF2;exact⟨Z6z o T f,_,S',rfl,rfl⟩
  ·exact⟨b,c,S',g1,rfl,g3,hr _ (fun _ h=> .inl h) fun b hb hb'=> .inr ⟨hb,hb'⟩⟩
 ·exact⟨X,F,h⟩
def Q5x(s:St)(k:Nat):Fl->St| .u true=>s| .u false=>Q81 s k|o=>Q5w s k o
theorem Qnw(hs0:g.soft=false)(h:R n W0 w X F H s a)(k:Nat)(o:Fl): ∃X' F',R n W0 w X' F' H (Q5x s k o) a:=by
 unfold Q5x;split
 ·exact⟨X,F,h⟩
 ·exact Qxc hs0 h k
 ·exact R.frzP hs0 h k _
def Q3k:List (Nat×Fl)->St->St| [],s=>s| (k,o)::r,s=>Q3k r (Q5x s k o)
theorem Qim(hs0:g.soft=false): ∀{L:List (Nat×Fl)} {s:St} {X:Nat->Prop} {F:Key->List Nat},R n W0 w X F H s a-> ∃X' F',R n W0 w X' F' H (Q3k L s) a
 | [],s,X,F,h=>⟨X,F,h⟩
 | (k,o)::r,s,X,F,h=>by
  obtain⟨X1,F1,h1⟩:=Qnw hs0 h k o;exact Qim hs0 (L:=r) h1
theorem Qh6: ∀{rs:List Nat} {s:St} {k:Key},(∀q,q∈rs->k≠ .m q)->(Znl rs s).get k=s.get k
 | [],s,k,_=>rfl
 |q::rs,s,k,h=>by
  simp only[Znl];split
  ·rw[Qh6 fun q hq=>h q (by simp[hq]),Yg,if_neg (Ne.symm (h q (by simp)))]
  ·exact Qh6 fun q hq=>h q (by simp[hq])
theorem Qai: ∀{rs:List Nat} {s:St} {r:Nat},s.foul r=true->(Znl rs s).foul r=true
 | [],s,r,h=>h
 |q::rs,s,r,h=>by
  simp only[Znl];split
  ·refine Qai ?_;rename_i e T f y _;cases hc: (Y0 s q (.box e T .d y)).foul r
   ·have:=(Zo0 hc).1;rw[h]at this;cases this
   ·rfl
  ·exact Qai h
theorem Qpp(s:St)(q:Nat)(t:Tm): (Y0 s q t).foul q=true:=by
 cases hc: (Y0 s q t).foul q
 ·exact absurd rfl (Zo0 hc).2
 ·rfl
theorem R.wreck: ∀{rs:List Nat} {s:St} {F:Key->List Nat},R n W0 w X F H s a->rs.Nodup->(∀q,q∈rs->s.isBox q)->
  ∃F',R n W0 w X F' H (Go.Am.Znl rs s) a/\(∀k,(∀q,q∈rs->k≠ .m q)->F' k=F k)/\
   ∀q,q∈rs-> ∃e T f y b S,s.get (.m q)= .box e T f y/\F (.m q)=b::S/\(Go.Am.Znl rs s).get (.m q)= .box e T .d y/\F' (.m q)=[b]/\(Go.Am.Znl rs s).foul q=true
 | [],s,F,h,_,_=>⟨F,h,fun _ _=>rfl,by simp⟩
 |q::rs,s,F,h,hn,hb=>by
  obtain⟨e,T,f,y,hg⟩:=hb q (by simp);have hs:=h.slots (.m q);rw[hg]at hs;obtain⟨b,c,S,g1,g2,g3,g4⟩:=hs;have hnq:=List.nodup_cons.1 hn;have h2:R n W0 w X (Qd F (.m q) [b]) H (Y0 s q (.box e T .d y)) a:=by
   refine h.turn h.below (Nat.le_refl _) (fun _ _=>rfl) (fun _ _ _ _=>rfl) ?_ ?_ (by rw[hg];simp) ?_ ?_
   ·intro b' hb';rw[g2];simp only[List.mem_append,List.mem_cons,List.not_mem_nil,or_false]at hb'⊢;exact hb'.imp .inl id
   ·refine List.nodup_append.2 ⟨by simp,h.hnodup,fun x hx y hy e=> ?_⟩;simp only[List.mem_singleton]at hx;subst hx;subst e;exact h.hdisj (.m q) x (by rw[g2];simp) hy
   ·intro e' T' f' x' b2 S2 hb2 hF2;rw[hg]at hb2;cases hb2;rw[g2]at hF2;obtain⟨rfl,_⟩:=List.cons.inj hF2;exact⟨.d,_,[],rfl,rfl⟩
   ·exact⟨b,c,[],g1,rfl,g3,by unfold rdF;exact⟨Xx g4,Zg3 g4,rfl⟩⟩
  have hget: ∀q',q'∈rs->(Y0 s q (.box e T .d y)).get (.m q')=s.get (.m q'):=fun q' hq'=>by
   rw[Yg,if_neg];intro e;simp only[Key.m.injEq]at e;subst e;exact hnq.1 hq'
  obtain⟨F',k1,k2,k3⟩:=R.wreck h2 hnq.2 (fun q' hq'=>by
   obtain⟨e',T',f',y',hg'⟩:=hb q' (by simp[hq']);exact⟨e',T',f',y',by rw[hget q' hq'];exact hg'⟩)
  have hw:Go.Am.Znl (q::rs) s=Go.Am.Znl rs (Y0 s q (.box e T .d y)):=by simp only[Go.Am.Znl,hg]
  have hqk: ∀q',q'∈rs->Key.m q≠ .m q':=fun q' hq' e=>by simp only[Key.m.injEq]at e;subst e;exact hnq.1 hq'
  refine⟨F',by rw[hw];exact k1,fun k hk=> ?_,fun q' hq'=> ?_⟩
  ·rw[k2 k fun q' hq'=>hk q' (by simp[hq'])];simp[Qd,hk q (by simp)]
  ·rw[hw];rcases List.mem_cons.1 hq' with rfl|hq'
   ·refine⟨e,T,f,y,b,S,hg,g2,?_,?_,Qai (Qpp _ _ _)⟩
    ·rw[Qh6 hqk,Yg];simp
    ·rw[k2 _ hqk];simp[Qd]
   ·obtain⟨e',T',f',y',b',S',m1,m2,m3⟩:=k3 q' hq';refine⟨e',T',f',y',b',S',by rw[<-hget q' hq'];exact m1,?_,m3⟩;have:Qd F (.m q) [b] (.m q')=F (.m q'):=by simp only[Qd];rw[if_neg (Ne.symm (hqk q' hq'))]
    rw[<-this];exact m2
theorem R.worldD{rs:List Nat}(h:R n W0 w X F H s a)(hb:W0.below w')(hs:w.heap.size<=w'.heap.size)(hX: ∀b,X b->w'.heap[b]? =w.heap[b]?)
  (hr: ∀q,q∈rs->s.foul q=true/\ ∃e T y b c,s.get (.m q)= .box e T .d y/\F (.m q)=[b]/\w'.heap[b]? =some (.cells c e (0,0))/\c.toList.length=T.size/\ ∀u∈c.toList,u.oneCell'=true)
  (hF: ∀k,(∀q,q∈rs->k≠ .m q)-> ∀b∈F k,w'.heap[b]? =w.heap[b]?):R n W0 w' X F H s a:=
 {h with
  below:=hb
  glob:=g.stays _ _ h.glob fun b hb=>hX b (h.gx b hb)
  xlt:=fun b hb'=>Nat.lt_of_lt_of_le (h.xlt b hb') hs
  own:=fun k b hb'=>let⟨h1,h2,h3⟩:=h.own k b hb';⟨h1,Nat.lt_of_lt_of_le h2 hs,h3⟩
  hown:=fun b hb'=>let⟨h1,h2,h3⟩:=h.hown b hb';⟨h1,Nat.lt_of_lt_of_le h2 hs,h3⟩
  slots:=fun k=>by
   by_cases hk: ∃q,q∈rs/\k= .m q
   ·obtain⟨q,hq,rfl⟩:=hk;obtain⟨_,e,T,y,b,c,h1,h2,h3,h4,h5⟩:=hr q hq;have hv:=h.slots (.m q);rw[h1]at hv⊢;obtain⟨b',c',S',g1,g2,_⟩:=hv;rw[h2]at g2;obtain⟨rfl,rfl⟩:=List.cons.inj g2;exact⟨b,c,[],g1,h2,h3,by unfold rdF;exact⟨h4,h5,rfl⟩⟩
   ·have hk: ∀q,q∈rs->k≠ .m q:=fun q hq e=>hk ⟨q,hq,e⟩;have hS:=hF k hk;have vA: ∀{r:Nat} {p:List Nat} {v:Value} {U:Ty},s.foul r=false->Xb W0.gh w s F a r p v U->Xb W0.gh w' s F a r p v U:=fun {r p v U} hc hv=>
     Zi9 hv (hF (.m r) fun q hq e=>by
      simp only[Key.m.injEq]at e;subst e;rw[(hr r hq).1]at hc;cases hc)
    have hu:=h.slots k;generalize s.get k=u at hu;generalize Qk W0.gh a k=v at hu⊢;generalize F k=S at hu hS⊢
    induction u with
    |junk=>exact hu
    |tup=>exact hu
    |val T f x=>exact Zi1 (s:=s) (F:=fun _=>[]) (a:=a) (v:=v) (t:= .val T f x) (fun _ h=>h) hX (by simp) hS (show vt W0.gh w X W0.B s (fun _=>[]) a v S (.val T f x)from hu)
    |box e T f x=>exact Zi1 (s:=s) (F:=fun _=>[]) (a:=a) (v:=v) (t:= .box e T f x) (fun _ h=>h) hX (by simp) hS (show vt W0.gh w X W0.B s (fun _=>[]) a v S (.box e T f x)from hu)
    |shp T x=>exact Zi1 (s:=s) (F:=fun _=>[]) (a:=a) (v:=v) (t:= .shp T x) (fun _ h=>h) hX (by simp) hS (show vt W0.gh w X W0.B s (fun _=>[]) a v S (.shp T x)from hu)
    |ptr r p=>exact hu
    |aep r p i=>exact hu
    |pls hh l=>exact⟨hu.1,Zqp (fun _ h=>h) hX (fun _ _ _ h=>h) hu.2⟩
    |bor r p=>exact⟨hu.1,fun hc=>let⟨U,h⟩:=hu.2 hc;⟨U,vA (St.bad_foul hc) h⟩⟩
    |elp r p i q=>exact⟨hu.1,fun hc=>let⟨e,t',ad,n,cap,h,h'⟩:=hu.2 hc;⟨e,t',ad,n,cap,vA (St.bad_foul hc) h,h'⟩⟩
    |bel r p i q=>exact⟨hu.1,fun hc he=>let⟨e,t',ad,n,cap,x0,y,cs,h,k1,k2,k3,k4,k5,k6,k7⟩:=hu.2 hc he;⟨e,t',ad,n,cap,x0,y,cs,vA (St.bad_foul hc) h,k1,k2,k3,k4,k5,k6,fun j u hj=>by
      have hb: ∀m,(ad.add m).block=ad.block:=fun m=>by unfold Addr.add;split<;>rfl
      rw[World.cell?_of_block (w:=w) (by rw[hb];exact hF (.m r) (fun q hq e=>by
       simp only[Key.m.injEq]at e;subst e;have:=St.bad_foul hc;rw[(hr r hq).1]at this;cases this) _ k3)];exact k7 j u hj⟩⟩
    |cl f l=>exact hu
    |gd g want u ih=>exact fun hc=>let⟨h0,h1,h2⟩:=hu hc;⟨h0,fun hb=>ih (h1 hb),h2⟩}
def Qtz(F:Key->List Nat)(s:St):List AK->List Nat->List Nat->Prop| [],rs,BL=>rs=[]/\BL=[]| .sh _::as,rs,BL=>Qtz F s as rs BL| .bx e T _::as,rs,BL=> ∃q rs' b BL' y,rs=q::rs'/\BL=b::BL'/\F (.m q)=[b]/\s.get (.m q)= .box e T .d y/\Qtz F s as rs' BL'| .mv _::as,rs,BL=>Qtz F s as rs BL
theorem Qcy(h:R n W0 w X F H s a): ∀{as:List AK} {rs BL:List Nat},Qtz F s as rs BL-> ∀{j q b:Nat},rs[j]? =some q->BL[j]? =some b->Qk W0.gh a (.m q)= .pointer (some ⟨b,0,none⟩)
 | [],_,_,⟨e1,e2⟩,j,q,b,hq,_=>by subst e1;simp at hq
 | .sh _::as,_,_,hm,j,q,b,hq,hb=>Qcy h (as:=as) hm hq hb
 | .mv _::as,_,_,hm,j,q,b,hq,hb=>Qcy h (as:=as) hm hq hb
 | .bx e T _::as,rs,BL,⟨q',rs',b',BL',y,h1,h2,h3,h4,h5⟩,j,q,b,hq,hb=>by
  subst h1;subst h2;cases j with
  |zero=>
   simp only[List.getElem?_cons_zero,Osi]at hq hb;subst hq;subst hb;have hs:=h.slots (.m q');rw[h4]at hs;obtain⟨b2,c,S,g1,g2,_⟩:=hs;rw[h3]at g2;obtain⟨rfl,_⟩:=List.cons.inj g2;exact g1
  |succ j=>exact Qcy h (as:=as) h5 (by simpa using hq) (by simpa using hb)
theorem Qcz{t:Tm}{q:Nat}{b:Nat}: ∀{as:List AK} {rs BL:List Nat},q∉rs->Qtz F s as rs BL-> ∀{S:List Nat},Qtz (Qd F (.m q) S) (Y0 s q t) as rs BL
 | [],_,_,_,h,_=>h
 | .sh _::as,rs,BL,hq,h,_=>Qcz (b:=b) (as:=as) hq h
 | .mv _::as,rs,BL,hq,h,_=>Qcz (b:=b) (as:=as) hq h
 | .bx e T _::as,rs,BL,hq,⟨q',rs',b',BL',y,h1,h2,h3,h4,h5⟩,S=>by
  subst h1;have hne:q'≠q:=fun e=>hq (by simp[e]);exact⟨q',rs',b',BL',y,rfl,h2,by simp[Qd,hne,h3],by rw[Yg,if_neg (by simpa using Ne.symm hne)];exact h4,Qcz (b:=b) (fun hm=>hq (by simp[hm])) h5⟩
theorem Zzb: ∀{as:List AK} {x:Zri as} {vals:List Value} {BL C rs:List Nat} {s:St} {F:Key->List Nat},R n W0 w X F (C++H) s a->rdO w X as x vals BL C->Qtz F s as rs BL->rs.Nodup->(∀b,b∈C->W0.B<=b)->
  ∃F',R n W0 w X F' H (Qqz as x rs s) a
 | [],x,vals,BL,C,rs,s,F,h,⟨_,_,e⟩,_,_,_=>by subst e;exact⟨F,h⟩
 | .sh _::as,x,vals,BL,C,rs,s,F,h,⟨v,us,_,ho⟩,hm,hn,hB=>Zzb (as:=as) h ho hm hn hB
 | .mv _::as,x,vals,BL,C,rs,s,F,h,⟨v,us,_,ho⟩,hm,hn,hB=>Zzb (as:=as) h ho hm hn hB
 | .bx e T o::as,x,vals,BL,C,rs,s,F,h,⟨b,c,S,us,BL',C',h1,h2,h3,h4,h5,h6⟩,⟨q,rs',b2,BL2,y,m1,m2,m3,m4,m5⟩,hn,hB=>by
  subst m1;subst h3;rw[h2]at m2;obtain⟨rfl,rfl⟩:=List.cons.inj m2;have hnq:=List.nodup_cons.1 hn;have hs:=h.slots (.m q);rw[m4]at hs;obtain⟨b',c',S',g1,g2,g3,_⟩:=hs;rw[m3]at g2;obtain⟨rfl,rfl⟩:=List.cons.inj g2;rw[h4]at g3;have hnd:=h.hnodup;rw[List.append_assoc]at hnd;have hbn:b∉(S++C')++H:=h.hdisj (.m q) b (by rw[m3];simp);have h2':R n W0 w X (Qd F (.m q) (b::S)) (C'++H) (Y0 s q (.box e T o x.1)) a:=by
   refine h.turn h.below (Nat.le_refl _) (fun _ _=>rfl) (fun _ _ _ _=>rfl) ?_ ?_ (by rw[m4];simp) ?_ ?_
   ·intro b' hb';rw[m3];simp only[List.mem_append,List.mem_cons,List.not_mem_nil,or_false]at hb'⊢
    grind
   ·have: (b:: (S++ (C'++H))).Nodup:=List.nodup_cons.2 ⟨by simpa using hbn,hnd⟩;simpa using this
   ·intro e' T' f' x' b2 S2 hb2 hF2;rw[m4]at hb2;cases hb2;rw[m3]at hF2;obtain⟨rfl,_⟩:=List.cons.inj hF2;exact⟨o,_,S,rfl,rfl⟩
   ·refine⟨b,c,S,g1,rfl,h4,?_⟩;exact Zzd h5 fun b' hb'=>hB b' (by simp[hb'])
  show ∃F',R n W0 w X F' H (Qqz as x.2 rs' (Y0 s q (.box e T o x.1))) a;exact Zzb (as:=as) h2' h6 (Qcz (b:=b) hnq.1 m5) hnq.2 fun b' hb'=>hB b' (by simp[hb'])
theorem Zy2: ∀{as:List AK} {rs:List Nat} {vals:List Value} {x:Zri as} {BL C:List Nat},Qxs F s as rs vals->rdO w' X' as x vals BL C-> ∀q,q∈rs->
  ∃e T f y b S c,s.get (.m q)= .box e T f y/\F (.m q)=b::S/\b∈BL/\w'.heap[b]? =some (.cells c e (0,0))/\c.toList.length=T.size/\ ∀u∈c.toList,u.oneCell'=true
 | [],_,_,_,_,_,⟨h,_⟩,_,q,hq=>by subst h;cases hq
 | .sh _::as,rs,vals,x,BL,C,⟨v,us,h1,h2⟩,⟨v',us',k1,k2⟩,q,hq=>by
  rw[h1]at k1;obtain⟨rfl,rfl⟩:=List.cons.inj k1;exact Zy2 (as:=as) h2 k2 q hq
 | .mv _::as,rs,vals,x,BL,C,⟨v,us,h1,h2⟩,⟨v',us',k1,k2⟩,q,hq=>by
  rw[h1]at k1;obtain⟨rfl,rfl⟩:=List.cons.inj k1;exact Zy2 (as:=as) h2 k2 q hq
 | .bx e T o::as,rs,vals,x,BL,C,⟨q',rs',b,S,us,f,y,h1,h2,h3,h4,h5⟩,⟨b2,c,S2,us2,BL2,C2,k1,k2,k3,k4,k5,k6⟩,q,hq=>by
  rw[h2]at k1;obtain⟨e1,rfl⟩:=List.cons.inj k1;simp only[Value.pointer.injEq,Osi,Addr.mk.injEq,and_true]at e1;subst e1;subst h1;rcases List.mem_cons.1 hq with rfl|hq
  ·exact⟨e,T,f,y,b,S,c,h4,h3,by rw[k2];simp,k4,Xx k5,Zg3 k5⟩
  ·obtain⟨e',T',f',y',b',S',c',m1,m2,m3,m4⟩:=Zy2 h5 k6 q hq;exact⟨e',T',f',y',b',S',c',m1,m2,by rw[k2];simp[m3],m4⟩
theorem Qty{s2:St}{F2:Key->List Nat}: ∀{as:List AK} {rs:List Nat} {vals:List Value} {x:Zri as} {BL C:List Nat},Qxs F s as rs vals->rdO w' X' as x vals BL C->
  (∀q,q∈rs-> ∀e T f y b S,s.get (.m q)= .box e T f y->F (.m q)=b::S->s2.get (.m q)= .box e T .d y/\F2 (.m q)=[b])->Qtz F2 s2 as rs BL
 | [],_,_,_,_,_,⟨h,_⟩,⟨_,h2,_⟩,_=>⟨h,h2⟩
 | .sh _::as,rs,vals,x,BL,C,⟨v,us,h1,h2⟩,⟨v',us',k1,k2⟩,hk=>by
  rw[h1]at k1;obtain⟨rfl,rfl⟩:=List.cons.inj k1;exact Qty (as:=as) h2 k2 hk
 | .mv _::as,rs,vals,x,BL,C,⟨v,us,h1,h2⟩,⟨v',us',k1,k2⟩,hk=>by
  rw[h1]at k1;obtain⟨rfl,rfl⟩:=List.cons.inj k1;exact Qty (as:=as) h2 k2 hk
 | .bx e T o::as,rs,vals,x,BL,C,⟨q',rs',b,S,us,f,y,h1,h2,h3,h4,h5⟩,⟨b2,c,S2,us2,BL2,C2,k1,k2,k3,k4,k5,k6⟩,hk=>by
  rw[h2]at k1;obtain⟨e1,rfl⟩:=List.cons.inj k1;simp only[Value.pointer.injEq,Osi,Addr.mk.injEq,and_true]at e1;subst e1;subst h1;obtain⟨m1,m2⟩:=hk q' (by simp) _ _ _ _ _ _ h4 h3;exact⟨q',rs',b,BL2,y,rfl,k2,m2,m1,Qty h5 k6 fun q hq=>hk q (by simp[hq])⟩
theorem Qcx: ∀{as:List AK} {rs:List Nat} {vals:List Value},Qxs F s as rs vals-> ∀q,q∈rs->s.isBox q
 | [],_,_,⟨h,_⟩,q,hq=>by subst h;cases hq
 | .sh _::as,rs,vals,⟨v,us,h1,h2⟩,q,hq=>Qcx h2 q hq
 | .mv _::as,rs,vals,⟨v,us,h1,h2⟩,q,hq=>Qcx h2 q hq
 | .bx e T o::as,rs,vals,⟨q',rs',b,S,us,f,y,h1,h2,h3,h4,h5⟩,q,hq=>by
  subst h1;rcases List.mem_cons.1 hq with rfl|hq
  ·exact⟨e,T,f,y,h4⟩
  ·exact Qcx h5 q hq
theorem Q0w{q d:Nat}{t:Tm}(h:Jm s d=true)(hq:q≠d):Jm (Y0 s q t) d=true:=by
 unfold Jm at*
 rw[Yg,if_neg (by simpa using hq)];exact h
theorem Zye{d:Nat}: ∀{as:List AK} {x:Zri as} {rs:List Nat} {s:St},Jm s d=true->d∉rs->Jm (Qqz as x rs s) d=true
 | [],_,_,_,h,_=>h
 | .sh _::as,x,rs,s,h,hd=>Zye (as:=as) h hd
 | .mv _::as,x,rs,s,h,hd=>Zye (as:=as) h hd
 | .bx e T o::as,x,q::rs,s,h,hd=>Zye (as:=as) (Q0w h fun e=>hd (by simp[e])) fun hm=>hd (by simp[hm])
 | .bx .. ::_,x,[],s,h,_=>h
theorem Qo7: ∀{ts:List Ty} {x:Jb ts} {rs:List Value},Qv7 w X ts x rs->rs.length=ts.length
 | [],_,_,h=>by simp only[Qv7]at h;simp[h]
 |t::ts,_,_,⟨_,_,e,_,h⟩=>by simp[e,Qo7 h]
theorem R.putTupSh{d:Nat}{vs:List Value}{ts:List Ty}{x:Jb ts}(h:R n W0 w X F H s a)(hd:Jm s d=true)(hn:d<n)(hx:Qv7 w X ts x vs):
  ∃F',R n W0 w X F' H {env:=Qav d ts x 0 (Yx s d .tup).env,dirty:=(Yx s d .tup).dirty,lent:=s.lent} (a.put (some d) (.tuple vs.toArray)):=by
 have h0:R n W0 w X (Qd F (.m d) []) H (Yx s d .tup) (a.put (some d) (.tuple vs.toArray)):=(by simpa using h:R n W0 w X F ([]++H) s a).put hd hn rfl;have hval:Zkz W0.gh (a.put (some d) (.tuple vs.toArray)) d= .tuple vs.toArray:=Zlo (a:=a) (by rw[h.size];exact hn);have hno: ∀i,(Yx s d .tup).get (.c d i)= .junk:=fun i=>by
  rw[Zj6];simp only[reduceCtorEq,if_false];exact Classical.byContradiction fun hc=>by have:=(h.comps d i hc).1;simp[Jm,this]at hd
 suffices hs: ∀(ts:List Ty) (x:Jb ts) (us:List Value) (i:Nat) (F:Key->List Nat) (r:List (Key×Tm)) (pre:List Value),vs=pre++us->pre.length=i->Qv7 w X ts x us->
   R n W0 w X F H {env:=r,dirty:=(Yx s d .tup).dirty,lent:=s.lent} (a.put (some d) (.tuple vs.toArray))->Ze8 r (.m d)= .tup->(∀j,i<=j->Ze8 r (.c d j)= .junk)->
   ∃F',R n W0 w X F' H {env:=Qav d ts x i r,dirty:=(Yx s d .tup).dirty,lent:=s.lent} (a.put (some d) (.tuple vs.toArray)) by
  obtain⟨F',hF'⟩:=hs ts x vs 0 _ (Yx s d .tup).env [] rfl rfl hx h0 (Zq5 _ _ _) (fun j _=>hno j);exact⟨F',hF'⟩
 intro ts
 induction ts with
 |nil=>
  intro x us i F r pre _ _ hx hR _ _;exact⟨F,hR⟩
 |cons t ts ih=>
  intro x us i F r pre hvs hpre hx hR htup hjunk;obtain⟨cs,us',rfl,hx1,hx2⟩:=hx;have hcomp:Qk W0.gh (a.put (some d) (.tuple vs.toArray)) (.c d i)=Xt t cs:=by
   simp only[Qk,hval];rw[hvs,<-hpre];simp[Array.getD_eq_getD_getElem?]
  have hFi:F (.c d i)=[]:=by
   have:=hR.slots (.c d i);simp only[St.get,hjunk i (Nat.le_refl _)]at this;exact this
  have hone:R n W0 w X F H {env:=(.c d i,.val t (.u false) x.1)::r,dirty:=(Yx s d .tup).dirty,lent:=s.lent} (a.put (some d) (.tuple vs.toArray)):=
   {hR with
    comps:=fun d' j hc=>by
     simp only[St.get,Z1]at hc⊢;simp only[reduceCtorEq,if_false];split at hc
     ·rename_i e;simp only[Key.c.injEq]at e;obtain⟨rfl,rfl⟩:=e;refine⟨htup,vs.toArray,hval,?_⟩;rw[hvs,<-hpre];simp
     ·exact hR.comps d' j hc
    slots:=fun k=>by
     by_cases hk:k= .c d i
     ·subst hk;simp only[St.get,Z1,if_true];rw[hFi];exact⟨cs,hcomp,by unfold rdF;exact J6 hx1 (by simp)⟩
     ·have e1:St.get {env:=(Key.c d i,Tm.val t (.u false) x.1)::r,dirty:=(Yx s d .tup).dirty,lent:=s.lent} k=St.get {env:=r,dirty:=(Yx s d .tup).dirty,lent:=s.lent} k:=by simp[St.get,Z1,Ne.symm hk]
      rw[e1];have:=Qlu (s:={env:=r,dirty:=(Yx s d .tup).dirty,lent:=s.lent}) (t:=d) (i:=i) (u:=Tm.val t (.u false) x.1) (S0:=[]) (hR.slots k);have e2:Qd F (.c d i) []=F:=by
       funext j;simp only[Qd];split
       ·rename_i e;rw[e,hFi]
       ·rfl
      rw[e2]at this;exact this}
  obtain⟨F',hF'⟩:=ih x.2 us' (i+1) _ _ (pre++ [Xt t cs]) (by rw[hvs];simp) (by simp[hpre]) hx2 hone (by rw[Z1];simpa using htup) (fun j hj=>by
   rw[Z1,if_neg (by simp;omega)];exact hjunk j (by omega))
  exact⟨F',hF'⟩
theorem R.putSh{d:Nat}{rs:List Value}: ∀{ts:List Ty} {x:Jb ts},R n W0 w X F H s a->Jm s d=true->d<n->Qv7 w X ts x rs->
  ∃F',R n W0 w X F' H (Go.Am.Q78 d s ts x) (a.put (some d) (Xu rs))
 | [],x,h,hd,hn,hx=>by
  rw[Zoj (by rw[Qo7 hx];simp)];exact h.putTupSh hd hn hx
 | [t],x,h,hd,hn,hx=>by
  obtain⟨cs,us',rfl,g1,rfl⟩:=hx;exact⟨_,(by simpa using h:R n W0 w X F ([]++H) s a).put hd hn ⟨cs,rfl,by unfold rdF;exact J6 g1 (by simp)⟩⟩
 |t::u::ts,x,h,hd,hn,hx=>by
  rw[Zoj (by rw[Qo7 hx];simp)];exact h.putTupSh hd hn hx
theorem Qo5: ∀{ts:List (Ty×Fl)} {x:Zu9 ts} {rs:List Value} {S:List Nat},Qq1 w X B ts x rs S->rs.length=ts.length
 | [],_,_,_,h=>by simp[h.1]
 |t::ts,_,_,_,⟨_,_,_,_,e,_,_,h⟩=>by simp[e,Qo5 h]
theorem Qi1: ∀{ts:List (Ty×Fl)} {x:Zu9 ts} {rs:List Value} {S:List Nat},Qq1 w X B ts x rs S->(∀b,b∈S->B'<=b)->Qq1 w X B' ts x rs S
 | [],_,_,_,h,_=>h
 |t::ts,_,_,_,⟨cs,us,S1,S2,e,e2,h1,h2⟩,hS=>⟨cs,us,S1,S2,e,e2,Zzd h1 fun b hb=>hS b (by rw[e2];simp[hb]),Qi1 h2 fun b hb=>hS b (by rw[e2];simp[hb])⟩
theorem R.putTupF{d:Nat}{vs:List Value}{ts:List (Ty×Fl)}{x:Zu9 ts}{S:List Nat}(h:R n W0 w X F (S++H) s a)(hd:Jm s d=true)(hn:d<n)(hx:Qq1 w X W0.B ts x vs S):
  ∃F',R n W0 w X F' H {env:=Qml d ts x 0 (Yx s d .tup).env,dirty:=(Yx s d .tup).dirty,lent:=s.lent} (a.put (some d) (.tuple vs.toArray)):=by
 have h0:R n W0 w X (Qd F (.m d) []) (S++H) (Yx s d .tup) (a.put (some d) (.tuple vs.toArray)):=(by simpa using h:R n W0 w X F ([]++ (S++H)) s a).put hd hn rfl;have hval:Zkz W0.gh (a.put (some d) (.tuple vs.toArray)) d= .tuple vs.toArray:=Zlo (a:=a) (by rw[h.size];exact hn);have hno: ∀i,(Yx s d .tup).get (.c d i)= .junk:=fun i=>by
  rw[Zj6];simp only[reduceCtorEq,if_false];exact Classical.byContradiction fun hc=>by have:=(h.comps d i hc).1;simp[Jm,this]at hd
 
 suffices hs: ∀(ts:List (Ty×Fl)) (x:Zu9 ts) (us:List Value) (i:Nat) (S:List Nat) (F:Key->List Nat) (r:List (Key×Tm)) (pre:List Value),vs=pre++us->pre.length=i->Qq1 w X W0.B ts x us S->
   R n W0 w X F (S++H) {env:=r,dirty:=(Yx s d .tup).dirty,lent:=s.lent} (a.put (some d) (.tuple vs.toArray))->Ze8 r (.m d)= .tup->(∀j,i<=j->Ze8 r (.c d j)= .junk)->
   ∃F',R n W0 w X F' H {env:=Qml d ts x i r,dirty:=(Yx s d .tup).dirty,lent:=s.lent} (a.put (some d) (.tuple vs.toArray)) by
  obtain⟨F',hF'⟩:=hs ts x vs 0 S _ (Yx s d .tup).env [] rfl rfl hx h0 (Zq5 _ _ _) (fun j _=>hno j);exact⟨F',hF'⟩
 intro ts
 induction ts with
 |nil=>
  intro x us i S F r pre _ _ hx hR _ _;obtain⟨rfl,rfl⟩:=hx;exact⟨F,hR⟩
 |cons t ts ih=>
  intro x us i S F r pre hvs hpre hx hR htup hjunk;obtain⟨cs,us',S1,S2,rfl,rfl,hx1,hx2⟩:=hx
  
  have hcomp:Qk W0.gh (a.put (some d) (.tuple vs.toArray)) (.c d i)=Xt t.1 cs:=by
   simp only[Qk,hval];rw[hvs,<-hpre];simp[Array.getD_eq_getD_getElem?]
  have hone:R n W0 w X (Qd F (.c d i) S1) (S2++H) {env:=(.c d i,.val t.1 t.2 x.1)::r,dirty:=(Yx s d .tup).dirty,lent:=s.lent} (a.put (some d) (.tuple vs.toArray)):=by
   have hFi:F (.c d i)=[]:=by
    have:=hR.slots (.c d i);simp only[St.get,hjunk i (Nat.le_refl _)]at this;exact this
   have hnd:=hR.hnodup;rw[List.append_assoc]at hnd;exact
   {size:=hR.size
    defers:=hR.defers
    below:=hR.below
    glob:=hR.glob
    gx:=hR.gx
    xs:=hR.xs
    fix:=hR.fix
    xlt:=hR.xlt
    xin:=hR.xin
    x0:=hR.x0
    own:=fun k b hb=>by
     simp only[Qd]at hb;split at hb
     ·exact hR.hown b (by simp[hb])
     ·exact hR.own k b hb
    nodup:=fun k=>by
     simp only[Qd];split
     ·exact(List.nodup_append.1 hnd).1
     ·exact hR.nodup k
    disj:=fun k k' b hb hb'=>by
     simp only[Qd]at hb hb';split at hb<;>split at hb'
     ·rename_i e1 e2;rw[e1,e2]
     ·exact absurd (by simp[hb]) (hR.hdisj k' b hb')
     ·exact absurd (by simp[hb']) (hR.hdisj k b hb)
     ·exact hR.disj k k' b hb hb'
    hown:=fun b hb=>hR.hown b (by simp only[List.mem_append]at hb⊢;grind)
    hnodup:=(List.nodup_append.1 hnd).2.1
    hdisj:=fun k b hb hh=>by
     simp only[Qd]at hb;split at hb
     ·exact(List.nodup_append.1 hnd).2.2 b hb b hh rfl
     ·exact hR.hdisj k b hb (by simp only[List.mem_append]at hh⊢;grind)
    comps:=fun d' j hc=>by
     simp only[St.get,Z1]at hc⊢;simp only[reduceCtorEq,if_false];split at hc
     ·rename_i e;simp only[Key.c.injEq]at e;obtain⟨rfl,rfl⟩:=e;refine⟨htup,vs.toArray,hval,?_⟩;rw[hvs,<-hpre];simp
     ·exact hR.comps d' j hc
    slots:=fun k=>by
     by_cases hk:k= .c d i
     ·subst hk;simp only[St.get,Z1,if_true,Qd];exact⟨cs,hcomp,hx1⟩
     ·have e1:St.get {env:=(Key.c d i,Tm.val t.1 t.2 x.1)::r,dirty:=(Yx s d .tup).dirty,lent:=s.lent} k=St.get {env:=r,dirty:=(Yx s d .tup).dirty,lent:=s.lent} k:=by simp[St.get,Z1,Ne.symm hk]
      have e2:Qd F (.c d i) S1 k=F k:=by simp[Qd,hk]
      rw[e1,e2];exact Qlu (s:={env:=r,dirty:=(Yx s d .tup).dirty,lent:=s.lent}) (hR.slots k)}
  obtain⟨F',hF'⟩:=ih x.2 us' (i+1) S2 _ _ (pre++ [Xt t.1 cs]) (by rw[hvs];simp) (by simp[hpre]) hx2 hone (by rw[Z1];simpa using htup) (fun j hj=>by
   rw[Z1,if_neg (by simp;omega)];exact hjunk j (by omega))
  exact⟨F',hF'⟩
theorem R.putF{d:Nat}{rs:List Value}: ∀{ts:List (Ty×Fl)} {x:Zu9 ts} {S:List Nat},R n W0 w X F (S++H) s a->Jm s d=true->d<n->Qq1 w X W0.B ts x rs S->
  ∃F',R n W0 w X F' H (Go.Am.Q9j d s ts x) (a.put (some d) (Xu rs))
 | [],x,S,h,hd,hn,hx=>by
  rw[Zoj (by rw[Qo5 hx];simp)];exact h.putTupF hd hn hx
 | [t],x,S,h,hd,hn,hx=>by
  obtain⟨cs,us',S1,S2,rfl,rfl,g1,rfl,rfl⟩:=hx;exact⟨_,h.put hd hn ⟨cs,rfl,by simpa using g1⟩⟩
 |t::u::ts,x,S,h,hd,hn,hx=>by
  rw[Zoj (by rw[Qo5 hx];simp)];exact h.putTupF hd hn hx
def Q16(gh:Nat->Value)(X:Nat->Prop)(s:St)(a:Act)(rs:List Nat)(w w':World):Prop:=∀b,(X b\/ ∃r,s.isBox r/\r∉rs/\Qk gh a (.m r)= .pointer (some ⟨b,0,none⟩))->w'.heap[b]? =w.heap[b]?
def Qhl(Γ:Zu2)(s:St)(f:FuncId)(xs:List Operand):List Nat:=
 match Γ.find f with
 |some e=>match Zse (Zkv e.args xs s) e.args xs with
  |some (m,s2)=>match Zur s2 m e.args xs with
   |some (_,rs)=>rs
   |none=>[]
  |none=>[]
 |none=>[]
theorem Z1s{ρ:Type}{Γ:Zu2}(hs0:g.soft=false)(hΓ:Γ.ok P g)(h:R n W0 w X F [] s a){f:FuncId}{fo:Operand}(hfo:a.eval fo= .func (.func f) #[] #[]){xs:Array Operand}{ats:Array TypeId}(ho:o.op= .call {callee:= .value fo,args:=xs,argTypes:=ats}){k:St->Option ρ}{r:ρ}(hr:Qmd Γ n s o.dst f xs.toList k=some r)
  {K:Act->World->Prop} {Q:Exit->Act->World->Prop} (hK: ∀v w' X' F' s',k s'=some r->R n W0 w' X' F' [] s' (a.put o.dst v)->(∀b,X b->X' b)->Q16 W0.gh X s a (Qhl Γ s f xs.toList) w w'->K (a.put o.dst v) w'):o.wp P a w K Q:=by
 have hroots: ∀e m s2 us rs,Γ.find f=some e->Zse (Zkv e.args xs.toList s) e.args xs.toList=some (m,s2)->Zur s2 m e.args xs.toList=some (us,rs)->Qhl Γ s f xs.toList=rs:=fun e m s2 us rs h1 h3 h2=>by
  unfold Qhl;rw[h1];simp only;rw[h3];simp only;rw[h2]
 unfold Qmd at hr;split at hr
 ·cases hr
 ·rename_i e he;obtain⟨rfl,hok⟩:=Zu2.find_ok hΓ he;obtain⟨X1,F1,h1,hX1,hbx1⟩:=Zdr hs0 (as:=e.args) (xs:=xs.toList) h;have hroots:=fun m s2 us rs=>hroots e m s2 us rs he;generalize Zkv e.args xs.toList s=s1 at hr h1 hbx1 hroots;split at hr
  ·cases hr
  rename_i m s2 hmv;obtain⟨M,F1,h1,hMB,hmz,hbx2⟩:=Ztg h1 hmv;have hbx1:=fun q hq=>hbx2 q (hbx1 q hq);have hroots:=fun us rs=>hroots m s2 us rs hmv;generalize s2=s1 at hr h1 hbx1 hroots;split at hr
  ·cases hr
  ·rename_i us rs hrd;split at hr
   ·cases hr
   ·rename_i hn;rw[hroots us rs hrd]at hK;obtain⟨L,a1,a2,a3,a4⟩:=Zvw h1 hmz (List.nodup_append.1 h1.hnodup).1 (fun k b hb hm=>h1.hdisj k b hb (by simp[hm])) hrd hn;have hnd:=Qix hn;have hL: ∀b,b∈L->W0.mine b/\b<w.heap.size/\ ¬X1 b:=fun b hb=>by
     rcases a4 b hb with⟨q,_,hq⟩|hb
     ·exact h1.own _ b hq
     ·exact h1.hown b (by simp[hb])
    
    have call: ∀{z},e.F us=some z-> ∀{K':Act->World->Prop},(∀rv S X' F' w',R n W0 w' X' F' (S++ []) (Qqz e.args z.2 rs (Znl rs s1)) a->rdS w' X' e.res z.1 rv S->(∃BL:List Nat,rdP e.res z.1 rv BL/\ ∀(j q b:Nat),rs[j]? =some q->BL[j]? =some b->Qk W0.gh a (.m q)= .pointer (some ⟨b,0,none⟩))->(∀b,b∈S->W0.B<=b)->(∀b,X b->X' b)->Q16 W0.gh X s a rs w w'->K' (a.put o.dst (Xu rv)) w')->o.wp P a w K' Q:=by
     intro z hz K' hK';have hc:=hok.calls w X1 L us z (xs.toList.map a.eval) h1.glob h1.gx h1.xlt (fun b hb=>⟨(hL b hb).2.2,(hL b hb).2.1⟩) a3 a1 hz;have hrun: (execOp a.eval o).run P w= .ok (.enter e.f (xs.toList.map a.eval).toArray) w:=by
      have:execOp a.eval o=callFunc e.f (xs.map a.eval):=by
       simp only[execOp,ho,resolve,hfo,Deferred.ofValue];simp[invoke]
      rw[this,hok.enters];congr 2;apply Array.toList_inj.mp;simp
     unfold Oper.wp;rw[hrun,Oper.upon_enter];refine hc.mono fun en w' ⟨rv,S,BL,C,X',hen,hA,hS,hO,hP⟩=> ?_;subst hen;show K' (a.put o.dst (Xu rv)) w';obtain⟨F2,h2,h2a,h2b⟩:=R.wreck h1 hnd (Qcx a2);have hfac:=Zy2 a2 hO;have hbl:W0.below w':=⟨hA.os.trans h1.below.os,hA.tape.trans h1.below.tape,hA.output.trans h1.below.output,Nat.le_trans h1.below.size hA.size,fun b hb=>
      (hA.block b (Nat.lt_of_lt_of_le (W0.yW b hb) h1.below.size) fun hm=>W0.sep hb (hL b hm).1 rfl).trans (h1.below.block b hb)⟩
     have hroot: ∀q,q∈rs-> ∃b,F2 (.m q)=[b]/\b∈BL:=fun q hq=>by
      obtain⟨e1,T1,f1,y1,b1,S1,m1,m2,m3,m4,m5⟩:=h2b q hq;obtain⟨e2,T2,f2,y2,b2,S2,c2,p1,p2,p3,_⟩:=hfac q hq;rw[m2]at p2;obtain⟨rfl,_⟩:=List.cons.inj p2;exact⟨b1,m4,p3⟩
     have hother: ∀k,(∀q,q∈rs->k≠ .m q)-> ∀b,b∈F2 k->b<w.heap.size/\b∉L/\ ¬X1 b:=fun k hk b hb=>by
      rw[h2a k hk]at hb;obtain⟨_,g2,g3⟩:=h1.own k b hb;refine⟨g2,fun hm=> ?_,g3⟩;rcases a4 b hm with⟨q,hq,hb'⟩|hb'
      ·exact hk q hq (h1.disj _ _ b hb hb')
      ·exact h1.hdisj _ b hb (by simp[hb'])
     have hand: ∀b,b∈S++ (BL++C)->W0.mine b/\b<w'.heap.size/\ ¬X' b:=fun b hb=>by
      obtain⟨g1,g2,g3⟩:=hA.nin b hb;exact⟨g1.elim (fun g=> .inl (Nat.le_trans h1.below.size g)) fun g=>(hL b g).1,g2,g3⟩
     have hlow: ∀b,b∈S++C->W0.B<=b:=fun b hb=>by
      have hb':b∈S++ (BL++C):=by simp only[List.mem_append]at hb⊢;grind
      rcases(hA.nin b hb').1 with g|g
      ·exact Nat.le_trans h1.below.sizeB g
      ·rcases a4 b g with⟨q,hq,hbq⟩|hbM
       rotate_left
       ·exact hMB b hbM
       obtain⟨e2,T2,f2,y2,b2,S2,c2,p1,p2,p3,_⟩:=hfac q hq;rw[p2]at hbq;rcases List.mem_cons.1 hbq with rfl|hbq
       ·exfalso;have hnd:=hA.nd;rw[List.nodup_append]at hnd;rcases List.mem_append.1 hb with hb|hb
        ·exact hnd.2.2 b hb b (by simp[p3]) rfl
        ·exact(List.nodup_append.1 hnd.2.1).2.2 b p3 b hb rfl
       ·have hs:=h1.slots (.m q);rw[p1]at hs;obtain⟨b3,c3,S3,g1,g2,g3,g4⟩:=hs;rw[p2]at g2;obtain⟨rfl,rfl⟩:=List.cons.inj g2;exact(Qt8 g4 b hbq).1
     have h3:R n W0 w' X1 F2 [] (Znl rs s1) a:=h2.drop.worldD (rs:=rs) hbl hA.size (fun b hb=>hA.block b (h1.xlt b hb) fun hm=>(hL b hm).2.2 hb)
      (fun q hq=>by
       obtain⟨e1,T1,f1,y1,b1,S1,m1,m2,m3,m4,m5⟩:=h2b q hq;obtain⟨e2,T2,f2,y2,b2,S2,c2,p1,p2,p3,p4,p5,p6⟩:=hfac q hq;rw[m2]at p2;obtain⟨rfl,_⟩:=List.cons.inj p2;rw[m1]at p1;cases p1;exact⟨m5,e1,T1,y1,b1,c2,m3,m4,p4,p5,p6⟩)
      (fun k hk b hb=>hA.block b (hother k hk b hb).1 (hother k hk b hb).2.1)
     have h4:R n W0 w' X' F2 [] (Znl rs s1) a:=R.xup hs0 h3 hA.xx hA.xlt
      (fun b hb=>(hA.xin b hb).elim (h1.xin b) fun g=> .inr (g.elim (fun g=> .inl (Nat.le_trans h1.below.size g)) fun g=>(hL b g).1))
      (fun k b hb hx=>by
       by_cases hk: ∃q,q∈rs/\k= .m q
       ·obtain⟨q,hq,rfl⟩:=hk;obtain⟨b1,g1,g2⟩:=hroot q hq;rw[g1]at hb;simp only[List.mem_singleton]at hb;subst hb;exact(hand b (by simp[g2])).2.2 hx
       ·obtain⟨g1,g2,g3⟩:=hother k (fun q hq e=>hk ⟨q,hq,e⟩) b hb;rcases hA.xin b hx with g|g|g
        ·exact g3 g
        ·omega
        ·exact g2 g) (fun b hb=>by cases hb)
     have hnd':=List.nodup_append.1 hA.nd;have hnd2:=List.nodup_append.1 hnd'.2.1;have h5:R n W0 w' X' F2 (C++ (S++ [])) (Znl rs s1) a:=by
      have:=h4.hand (S:=C++S) (fun b hb=>hand b (by simp only[List.mem_append]at hb⊢;grind))
       (List.nodup_append.2 ⟨hnd2.2.1,hnd'.1,fun x hx y hy e=>hnd'.2.2 y hy x (by simp[hx]) e.symm⟩)
       (fun k b hb hm=>by
        have hm':b∈S++C:=by simp only[List.mem_append]at hm⊢;grind
        by_cases hk: ∃q,q∈rs/\k= .m q
        ·obtain⟨q,hq,rfl⟩:=hk;obtain⟨b1,g1,g2⟩:=hroot q hq;rw[g1]at hb;simp only[List.mem_singleton]at hb;subst hb;rcases List.mem_append.1 hm' with hm'|hm'
         ·exact hnd'.2.2 b hm' b (by simp[g2]) rfl
         ·exact hnd2.2.2 b g2 b hm' rfl
        ·obtain⟨g1,g2,g3⟩:=hother k (fun q hq e=>hk ⟨q,hq,e⟩) b hb;have hm2:b∈S++ (BL++C):=by simp only[List.mem_append]at hm'⊢;grind
         rcases(hA.nin b hm2).1 with g|g
         ·omega
         ·exact g2 g) (fun b _ hm=>by cases hm)
      simpa using this
     have hm:Qtz F2 (Znl rs s1) e.args rs BL:=Qty a2 hO fun q hq e1 T1 f1 y1 b1 S1 g1 g2=>by
      obtain⟨e2,T2,f2,y2,b2,S2,m1,m2,m3,m4,m5⟩:=h2b q hq;rw[m1]at g1;cases g1;rw[m2]at g2;obtain⟨rfl,_⟩:=List.cons.inj g2;exact⟨m3,m4⟩
     obtain⟨F6,h6⟩:=Zzb h5 hO hm hnd fun b hb=>hlow b (by simp[hb]);refine hK' rv S X' F6 w' h6 hS ⟨BL,hP,fun j q b=>Qcy h5 hm⟩ (fun b hb=>hlow b (by simp[hb])) (fun b hb=>hA.xx b (hX1 b hb)) fun b hb=> ?_;rcases hb with hb| ⟨q,hq,hqr,hv⟩
     ·exact hA.block b (h1.xlt b (hX1 b hb)) fun hm=>(hL b hm).2.2 (hX1 b hb)
     ·obtain⟨S1,hF1⟩:=h1.boxIn (hbx1 q hq) hv;refine hA.block b (h1.own (.m q) b (by rw[hF1];simp)).2.1 fun hm=> ?_;rcases a4 b hm with⟨q',hq',hb'⟩|hb'
      ·have:=h1.disj (.m q) (.m q') b (by rw[hF1];simp) hb';simp only[Key.m.injEq]at this;subst this;exact hqr hq'
      ·exact h1.hdisj (.m q) b (by rw[hF1];simp) (by simp[hb'])
    split at hr
    ·rename_i hd;simp only[Option.bind_eq_some_iff]at hr;obtain⟨z,hz,hk⟩:=hr;refine call hz fun rv S X' F' w' hR _ _ _ hxx hkp=> ?_;have hK':=hK (Xu rv) w' X' F' _ hk;rw[hd]at hK'⊢;exact hK' hR.drop hxx hkp
    ·rename_i d hd;split at hr
     ·cases hr
     ·rename_i hdn;simp only[Oba,Nat.blt_eq,Bool.not_eq_true']at hdn;simp only[Option.bind_eq_some_iff]at hr;obtain⟨z,hz,hk⟩:=hr;refine call hz fun rv S X' F' w' hR hS hPP hB hxx hkp=> ?_;obtain⟨BL,hP,hq⟩:=hPP;have hdz:=Zye (as:=e.args) (x:=z.2) hdn.1.1 (Z4q hdn.2);have hput: ∃F' s',k s'=some r/\R n W0 w' X' F' [] s' (a.put (some d) (Xu rv)):=by
       generalize Qqz e.args z.2 rs (Znl rs s1)=s3 at hR hdz hk;generalize z.1=zz at hS hP hk;revert zz;generalize e.res=rk;intro zz hS hP hk;cases rk with
       |vals ts=>
        obtain⟨F2,h2⟩:=hR.putRes hdz hdn.1.2 (Qdx hS hB);exact⟨F2,_,hk,h2⟩
       |newb e2 T2=>
        obtain⟨b,c,rfl,rfl,g1,g2⟩:=hS;exact⟨_,_,hk,hR.put hdz hdn.1.2 ⟨b,c,[],rfl,rfl,g1,by unfold rdF;exact J6 g2 (by simp)⟩⟩
       |shr ts=>
        obtain⟨rfl,g2⟩:=hS;obtain⟨F2,h2⟩:=R.putSh (by simpa using hR) hdz hdn.1.2 g2;exact⟨F2,_,hk,h2⟩
       |flg ts=>
        obtain⟨F2,h2⟩:=R.putF hR hdz hdn.1.2 (Qi1 hS hB);exact⟨F2,_,hk,h2⟩
       |fp T j p1 p2=>
        have hS:S=[]:=hS;subst hS;obtain⟨b,hb,rfl⟩:=hP;simp only[Q6o]at hk;split at hk
        ·rename_i q hqj;split at hk
         ·rename_i e2 U f y hg;split at hk
          ·rename_i hU;have hU:=Ode hU;subst hU;have hs:=hR.slots (.m q);rw[hg]at hs;obtain⟨b2,c2,S2,g1,g2,g3,g4⟩:=hs;have hv:=hq j q b hqj hb;rw[hv]at g1;simp only[Value.pointer.injEq,Osi,Addr.mk.injEq,and_true]at g1;subst g1;cases zz with
           |true=>exact⟨_,_,hk,hR.put hdz hdn.1.2 ⟨rfl,e2,U,f,y,b,S2,hg,g2,rfl⟩⟩
           |false=>exact⟨_,_,hk,hR.put hdz hdn.1.2 ⟨rfl,e2,U,f,y,b,S2,hg,g2,rfl⟩⟩
          ·cases hk
         ·cases hk
        ·cases hk
      obtain⟨F2,s',hk,h2⟩:=hput;have hK':=hK (Xu rv) w' X' F2 _ hk;rw[hd]at hK'⊢;exact hK' h2 hxx hkp
end
end Go.Am
namespace Go.Am
open Go.RowKit
def noP(d:Nat):Tm->Bool| .ptr r _=> !(Nat.beq r d)| .aep r _ _=> !(Nat.beq r d)| .pls _ l=>l.all fun q=> !(Nat.beq q.1 d)| .cl _ l=>l.all fun q=> !(Nat.beq q d)| .gd _ _ t=>noP d t|_=>true
def Q6m(s:St)(d:Nat):Bool:=s.env.all fun p=>noP d (s.get p.1)
theorem Qvb: ∀{l:List (Key×Tm)} {k:Key},Ze8 l k= .junk\/ ∃p∈l,p.1=k
 | [],k=> .inl rfl
 | (j,t)::r,k=>by
  rw[Z1];split
  ·rename_i e;exact .inr ⟨(j,t),by simp,e⟩
  ·rcases Qvb (l:=r) (k:=k)with h| ⟨p,hp,e⟩
   ·exact .inl h
   ·exact .inr ⟨p,by simp[hp],e⟩
theorem Q4d{s:St}{d:Nat}(h:Q6m s d=true)(k:Key):noP d (s.get k)=true:=by
 unfold Q6m at h;rcases Qvb (l:=s.env) (k:=k)with hk| ⟨p,hp,rfl⟩
 ·unfold St.get;rw[hk];rfl
 ·exact List.all_eq_true.1 h p hp
def Z6v(q:Nat):List (Key×Tm)->St->St
 | [],s=>s
 | (.m k,_)::r,s=>match s.get (.m k)with
  | .ptr q' _=>match Nat.beq q' q with
   |true=>Z6v q r (Y0 s k .junk)
   |false=>Z6v q r s
  |_=>Z6v q r s
 | (.c _ _,_)::r,s=>Z6v q r s
theorem Zwq{q k:Nat}{e:TypeId}{T:Ty}{f:Fl}{y:T.den}: ∀{l:List (Key×Tm)} {s:St},s.get (.m k)= .box e T f y->(Z6v q l s).get (.m k)= .box e T f y
 | [],s,h=>h
 | (.m j,_)::r,s,h=>by
  simp only[Z6v];split
  ·rename_i q' p hg;split
   ·refine Zwq ?_;rw[Yg,if_neg]
    ·exact h
    ·intro e';simp only[Key.m.injEq]at e';subst e';rw[hg]at h;cases h
   ·exact Zwq h
  ·exact Zwq h
 | (.c _ _,_)::r,s,h=>Zwq (l:=r) h
def Q2m:St->List Operand->Option (TV×St)
 |s,[]=>some (⟨.unit,()⟩,s)
 |s,x::xs=>match Qr4 (op1 s [] x)with
  |some q=>match s.get (.m q)with
   | .box e T f y=>match f.live&&Q6m (Z6v q s.env s) q with
    |true=>match Q2m (Y0 (Z6v q s.env s) q (.shp T y)) xs with
     |some (⟨U,u⟩,s')=>some (⟨.pair (.sptr e T) U,(y,u)⟩,s')
     |none=>none
    |false=>none
   |_=>none
  |none=>none
def Zyb: (ts:List Ty)->(T:Ty)->T.den->Option (Jb ts)
 | [],.unit,_=>some ()
 | .sptr e t::ts,.pair a b,x=>match Km (.sptr e t) a x.1,Zyb ts b x.2 with
  |some u,some us=>some (u,us)
  |_,_=>none
 |_,_,_=>none
def Zqq(s:St)(tg:Xi): (ts:List Ty)->List Operand->(T:Ty)->T.den->Option (Jb ts)
 |ts,[],T,y=>Zyb ts T y
 |t::ts,x::xs,T,y=>match Zaa s (op1 s tg x) t,Zqq s tg ts xs T y with
  |some u,some us=>some (u,us)
  |_,_=>none
 | [],_::_,_,_=>none
def Quw(s:St)(tg:Xi)(x:Operand):Option (FuncId×TV):=
 match Zrt s (op1 s tg x)with
 |some ⟨.clo f T,_,y⟩=>some (f,⟨T,y⟩)
 |_=>none
def Q2k{ρ:Type}(Γ:Env)(n:Nat)(s:St)(tg:Xi)(dst:Option Nat)(c:FuncId×TV)(xs:List Operand)(k:St->Option ρ):Option ρ:=
 match Γ.find c.1 with
 |none=>none
 |some e=>match Zqq s tg e.args xs c.2.1 c.2.2 with
  |none=>none
  |some us=>match dst with
   |none=>(e.F us).bind fun _=>k s
   |some d=>match Jm s d&&Nat.blt d n with
    |false=>none
    |true=>(e.F us).bind fun r=>k (Z9q d s e.res r)
section
variable {P:Program} {g:Kr} {W0:Wz g} {w w':World} {X X':Nat->Prop} {B B' n:Nat} {own:Bool} {s:St} {F:Key->List Nat} {a:Act} {H H':List Nat} {o:Oper} {tg:Xi} {τ:Tab} {gh:Nat->Value}
theorem Q48{s2:St}{d:Nat}{t:Tm}{S0:List Nat}{v:Value}{S:List Nat}(ht:Zzy gh w w' s s2 F (Qd F (.m d) S0) a d t)(hX: ∀b,X b->X' b)(hw: ∀b,X b->w'.heap[b]? =w.heap[b]?)
  (hF: ∀k b,k≠ .m d->b∈F k->w'.heap[b]? =w.heap[b]?) (hS: ∀b∈S,w'.heap[b]? =w.heap[b]?): ∀{u:Tm},noP d u=true->
  vt gh w X B s F a v S u->vt gh w' X' B s2 (Qd F (.m d) S0) a v S u:=by
 intro u hno hu;have vA: ∀{r:Nat} {p:List Nat} {v:Value} {U:Ty},(r=d-> ∀v U,Xb gh w s F a d p v U->Xb gh w' s2 (Qd F (.m d) S0) a d p v U)->Xb gh w s F a r p v U->Xb gh w' s2 (Qd F (.m d) S0) a r p v U:=by
  intro r p v U hk hv;by_cases hr:r=d
  ·subst hr;exact hk rfl _ _ hv
  ·exact Qpr ht hr (fun b=>hF (.m r) b (by simpa using hr)) hv
 induction u with
 |junk=>exact hu
 |tup=>exact hu
 |val T f x=>exact Zi1 (s:=s) (F:=fun _=>[]) (a:=a) (v:=v) (t:= .val T f x) hX hw (by simp) hS (show vt gh w X B s (fun _=>[]) a v S (.val T f x)from hu)
 |box e T f x=>exact Zi1 (s:=s) (F:=fun _=>[]) (a:=a) (v:=v) (t:= .box e T f x) hX hw (by simp) hS (show vt gh w X B s (fun _=>[]) a v S (.box e T f x)from hu)
 |shp T x=>exact Zi1 (s:=s) (F:=fun _=>[]) (a:=a) (v:=v) (t:= .shp T x) hX hw (by simp) hS (show vt gh w X B s (fun _=>[]) a v S (.shp T x)from hu)
 |ptr r p=>
  obtain⟨h0,e,T,f,x,b,S',h1,h2,h3⟩:=hu;have hr:d≠r:=fun e=>by subst e;simp[noP,Nat.beq_refl]at hno
  exact⟨h0,e,T,f,x,b,S',by rw[ht.get];simp[hr,h1],by simp[Qd,Ne.symm hr,h2],h3⟩
 |aep r p i=>
  obtain⟨h0,e,T,f,x,b,S',n,t',y,h1,h2,h3,h4⟩:=hu;have hr:d≠r:=fun e=>by subst e;simp[noP,Nat.beq_refl]at hno
  exact⟨h0,e,T,f,x,b,S',n,t',y,by rw[ht.get];simp[hr,h1],by simp[Qd,Ne.symm hr,h2],h3,h4⟩
 |bor r p=>
  obtain⟨h0,h1⟩:=hu;refine⟨h0,fun hc=> ?_⟩;obtain⟨hc,hj⟩:=ht.bad r p hc;obtain⟨U,h⟩:=h1 hc;exact⟨U,vA hj h⟩
 |elp r p i q=>
  obtain⟨h0,h1⟩:=hu;refine⟨h0,fun hc=> ?_⟩;obtain⟨hc,hj⟩:=ht.bad r p hc;obtain⟨e,t',ad,n,cap,h,h2,h3,h4⟩:=h1 hc;exact⟨e,t',ad,n,cap,vA hj h,h2,h3,h4⟩
 |bel r p i q=>
  obtain⟨h0,h1⟩:=hu;refine⟨h0,fun hc he=> ?_⟩;obtain⟨he,hr⟩:=ht.el r (St.bad_foul hc) he;obtain⟨hc,hj⟩:=ht.bad r p hc;obtain⟨e,t',ad,n,cap,x0,y,cs,h,k1,k2,k3,k4,k5,k6,k7⟩:=h1 hc he;have hb: ∀m,(ad.add m).block=ad.block:=fun m=>by unfold Addr.add;split<;>rfl
  exact⟨e,t',ad,n,cap,x0,y,cs,vA hj h,k1,k2,by simpa[Qd,hr]using k3,k4,k5,k6,fun j u hj=>by
   rw[World.cell?_of_block (w:=w) (by rw[hb];exact hF (.m r) _ (by simpa using hr) k3)];exact k7 j u hj⟩
 |cl f l=>
  obtain⟨h0,us,h1,h2,h3⟩:=hu;refine⟨h0,us,h1,h2,fun j q hq=> ?_⟩;obtain⟨u,hu,e,T,f,x,b,S',g1,g2,g3⟩:=h3 j q hq;have hr:d≠q:=fun e=>by
   have:=List.all_eq_true.1 (show l.all (fun q=> !(Nat.beq q d))=true from hno) q (List.mem_of_getElem? hq);simp[e]at this
  exact⟨u,hu,e,T,f,x,b,S',by rw[ht.get];simp[hr,g1],by simp[Qd,Ne.symm hr,g2],g3⟩
 |pls hh l=>
  obtain⟨h0,ad,us,h1,h2,h3,h4,h5⟩:=hu;refine⟨h0,ad,us,hX _ h1,fun j u hj=> ?_,h3,fun j q hq=> ?_,h5⟩
  ·have hb: (ad.add j).block=ad.block:=by unfold Addr.add;split<;>rfl
   rw[World.cell?_of_block (w:=w) (by rw[hb];exact hw _ h1)];exact h2 j u hj
  ·obtain⟨u,hu,e,T,f,x,b,S',g1,g2,g3⟩:=h4 j q hq;have hr:d≠q.1:=fun e=>by
    have:=List.all_eq_true.1 (show l.all (fun q=> !(Nat.beq q.1 d))=true from hno) q (List.mem_of_getElem? hq);simp[e]at this
   exact⟨u,hu,e,T,f,x,b,S',by rw[ht.get];simp[hr,g1],by simp[Qd,Ne.symm hr,g2],g3⟩
 |gd g want u ih=>
  intro hc;obtain⟨hc,hj⟩:=ht.foul g hc;obtain⟨h0,h1,h2⟩:=hu hc;refine⟨?_,fun hb=>ih hno (h1 hb),h2⟩;by_cases hg:g=d
  ·subst hg;exact hj rfl
  ·rw[ht.get];simpa[Ne.symm hg]using h0
theorem R.frzB(hs0:g.soft=false)(h:R n W0 w X F H s a){k:Nat}{e:TypeId}{T:Ty}{f:Fl}{x:T.den}(hg:s.get (.m k)= .box e T f x)(hf:f.live=true)(hp:Q6m s k=true):
  R n W0 w (fun b=>X b\/b∈F (.m k)) (Qd F (.m k) []) H (Y0 s k (.shp T x)) a/\ ∃b c,Qk W0.gh a (.m k)= .pointer (some ⟨b,0,none⟩)/\b∈F (.m k)/\w.heap[b]? =some (.cells c e (0,0))/\rd w (fun b=>X b\/b∈F (.m k)) W0.B false T x c.toList []:=by
 have hs:=h.slots (.m k);rw[hg]at hs;obtain⟨b,c,S',h1,h2,h3,h4⟩:=hs;have h5:rd w (fun b=>X b\/b∈F (.m k)) W0.B false T x c.toList []:=Ko (fun b hb=> .inl hb) hf h4 fun b hb=> .inr (by rw[h2];simp[hb]);have hb:b∈F (.m k):=by rw[h2];simp
 refine⟨?_,b,c,h1,hb,h3,h5⟩;exact
 {size:=h.size
  defers:=h.defers
  below:=h.below
  glob:=h.glob
  gx:=fun b hb=> .inl (h.gx b hb)
  xs:=fun e=>by rw[hs0]at e;cases e
  fix:=h.fix
  xlt:=fun b hb=>hb.elim (h.xlt b) fun hb=>(h.own _ b hb).2.1
  xin:=fun b hb=>hb.elim (h.xin b) fun hb=> .inr (h.own _ b hb).1
  x0:=fun b hb=> .inl (h.x0 b hb)
  own:=fun j b hb=>by
   simp only[Qd]at hb;split at hb
   ·cases hb
   ·rename_i hj;obtain⟨h1,h2,h3⟩:=h.own j b hb;exact⟨h1,h2,fun hx=>hx.elim h3 fun hk=>hj (h.disj j (.m k) b hb hk)⟩
  nodup:=fun j=>by
   simp only[Qd];split
   ·simp
   ·exact h.nodup j
  disj:=fun j j' b hb hb'=>by
   simp only[Qd]at hb hb';split at hb
   ·cases hb
   ·split at hb'
    ·cases hb'
    ·exact h.disj j j' b hb hb'
  hown:=fun b hb=>let⟨h1,h2,h3⟩:=h.hown b hb;⟨h1,h2,fun hx=>hx.elim h3 fun hk=>h.hdisj _ b hk hb⟩
  hnodup:=h.hnodup
  hdisj:=fun j b hb=>by
   simp only[Qd]at hb;split at hb
   ·cases hb
   ·exact h.hdisj j b hb
  comps:=fun d i hc=>by
   rw[Yg]at hc⊢;simp only[reduceCtorEq,if_false]at hc;obtain⟨h1,h2⟩:=h.comps d i hc;by_cases e:k=d
   ·subst e;rw[hg]at h1;cases h1
   ·exact⟨by simpa[e]using h1,h2⟩
  slots:=fun j=>by
   by_cases hj:j= .m k
   ·subst hj;rw[Yg];simp only[if_true,Qd];refine⟨rfl,⟨b,0,none⟩,c.toList,h1,.inr hb,fun j u hj=> ?_,J6 h5 (by simp)⟩;rw[Zgl w h3,<-Array.getElem?_toList,Nat.zero_add];exact hj
   ·have e:Qd F (.m k) [] j=F j:=by simp[Qd,hj]
    rw[Yg,e];simp only[Ne.symm hj,if_false];exact Q48 Qh3 (fun _ h=> .inl h) (fun _ _=>rfl) (fun _ _ _ _=>rfl) (fun _ _=>rfl) (Q4d hp j) (h.slots j)}
theorem Zrj{q:Nat}: ∀{l:List (Key×Tm)} {s:St} {F:Key->List Nat},R n W0 w X F H s a-> ∃F',R n W0 w X F' H (Z6v q l s) a
 | [],s,F,h=>⟨F,h⟩
 | (.m k,_)::r,s,F,h=>by
  simp only[Z6v];split
  ·rename_i q' p hg;split
   ·exact Zrj (h.turn (S':=[]) (H':=H) h.below (Nat.le_refl _) (fun _ _=>rfl) (fun _ _ _ _=>rfl) (fun b hb=>by simpa using .inr hb) (by simpa using h.hnodup) (by rw[hg];simp) (fun e T f x b S hb hF=>by rw[hg]at hb;cases hb) rfl)
   ·exact Zrj h
  ·exact Zrj h
 | (.c _ _,_)::r,s,F,h=>Zrj (l:=r) h
theorem Qmf(hs0:g.soft=false): ∀{xs:List Operand} {s s':St} {X:Nat->Prop} {F:Key->List Nat} {U:TV},R n W0 w X F H s a->Q2m s xs=some (U,s')->
  ∃X' F',R n W0 w X' F' H s' a/\(∀b,X b->X' b)/\rd w X' W0.B false U.1 U.2 (xs.map a.eval) []
 | [],s,s',X,F,U,h,hc=>by
  simp only[Q2m,Osi,Opi]at hc;obtain⟨rfl,rfl⟩:=hc;exact⟨X,F,h,fun _ h=>h,rfl,rfl⟩
 |x::xs,s,s',X,F,U,h,hc=>by
  simp only[Q2m]at hc;split at hc
  ·rename_i q hq;split at hc
   ·rename_i e T f y hg;split at hc
    ·rename_i hl;simp only[Oba]at hl;split at hc
     ·rename_i U' u' s1 hk;simp only[Osi,Opi]at hc;obtain⟨rfl,rfl⟩:=hc;obtain⟨F1,h0⟩:=Zrj (q:=q) (l:=s.env) h;obtain⟨h1,b,c,k1,k2,k3,k4⟩:=R.frzB hs0 h0 (Zwq hg) hl.1 hl.2;obtain⟨X',F',g1,g2,g3⟩:=Qmf hs0 h1 hk;refine⟨X',F',g1,fun b hb=>g2 b (.inl hb),?_⟩;have hev:=Zvy h hq hg;exact⟨[_],_,[],[],rfl,rfl,⟨rfl,rfl,b,c,by rw[hev,k1],g2 b (.inr k2),k3,Zcp g2 (fun _ _=>rfl) k4 (by simp)⟩,g3⟩
     ·cases hc
    ·cases hc
   ·cases hc
  ·cases hc
theorem Qpx{X:Nat->Prop}(hX: ∀b,X b->b<w.heap.size){ts:List Ty}: ∀{T:Ty} {y:T.den} {us:Jb ts} {cs:List Value},Zyb ts T y=some us->rd w X B false T y cs []->Zps w (· <w.heap.size) 0 ts us cs:=by
 induction ts with
 |nil=>
  intro T y us cs hc hr;cases T<;>first
   |exact hr.1
   | (simp[Zyb]at hc;done)
 |cons t ts ih=>
  intro T y us cs hc hr;cases t<;>first
   | (simp[Zyb]at hc;done)
   |skip
  cases T<;>first
   | (simp[Zyb]at hc;done)
   |skip
  rename_i e t a b;obtain⟨v1,v2,S1,S2,e1,e2,h1,h2⟩:=hr;simp only[Zyb]at hc;split at hc
  ·rename_i u us' hu hus;simp only[Osi]at hc;subst hc;have:=Zbn hu;obtain⟨y1,y2⟩:=y;cases this;have e3:S1=[]/\S2=[]:=by simpa using e2.symm
   obtain⟨rfl,rfl⟩:=e3;obtain⟨_,o,b',c',k1,k2,k3,k4⟩:=h1;refine⟨v1,v2,by rw[e1,k1];rfl,?_,ih hus h2⟩;exact J6 (Zcn (Nat.zero_le _) hX ⟨rfl,o,b',c',k1,k2,k3,k4⟩) (by simp)
  ·cases hc
theorem Z0b{Y:Nat->Prop}(hY: ∀b,Y b->b<w.heap.size)(h:R n W0 w X F H s a)(ht:tg.ok W0.gh a): ∀{ts:List Ty} {xs:List Operand} {T:Ty} {y:T.den} {us:Jb ts} {cs:List Value},Zqq s tg ts xs T y=some us->rd w Y B false T y cs []->Zps w (· <w.heap.size) 0 ts us (xs.map a.eval++cs)
 |ts,[],T,y,us,cs,hr,hc=>Qpx hY (by simpa[Zqq]using hr) hc
 |t::ts,x::xs,T,y,us,cs,hr,hc=>by
  simp only[Zqq]at hr;split at hr
  ·rename_i u us' hu hus;simp only[Osi]at hr;subst hr;obtain⟨cs',h1,h2⟩:=Wl h ht hu;exact⟨cs',_,by simp[h1],Zcn (Nat.zero_le _) (fun _ h=>h) h2,Z0b hY h ht hus hc⟩
  ·cases hr
 | [],_::_,_,_,_,_,hr,_=>by simp[Zqq]at hr
theorem Qux(h:R n W0 w X F H s a)(ht:tg.ok W0.gh a){x:Operand}{f:FuncId}{U:TV}(hf:Quw s tg x=some (f,U)): ∃cs:List Value,a.eval x= .func (.func f) #[] cs.toArray/\ ∃S:List Nat,rd w (fun b=>X b\/b∈S) W0.B false U.1 U.2 cs []/\ ∀b∈S,b<w.heap.size:=by
 unfold Quw at hf;split at hf
 ·rename_i f' T fl y hl;simp only[Osi,Opi]at hf;obtain⟨rfl,rfl⟩:=hf;obtain⟨hlive,vs,S,h1,h2,h3⟩:=Zee h ht hl;obtain⟨_,cs,h4,h5⟩:=Ko (X':=fun b=>X b\/b∈S) (fun _ h=> .inl h) hlive h2 (fun _ h=> .inr h);exact⟨cs,by rw[h1,h4];rfl,S,h5,fun b hb=>let⟨k,hk⟩:=h3 b hb;(h.own k b hk).2.1⟩
 ·cases hf
theorem Qif{Γ:Env}(hΓ:Γ.ok P g)(h:R n W0 w X F H s a)(ht:tg.ok W0.gh a){f:FuncId}{U:TV}{fo:Operand}(hfo:Quw s tg fo=some (f,U)){xs:Array Operand}{ats:Array TypeId}(ho:o.op= .call {callee:= .value fo,args:=xs,argTypes:=ats}){e:FnE}(he:Γ.find f=some e)
  {us:Jb e.args} (hus:Zqq s tg e.args xs.toList U.1 U.2=some us) {rv:Jb e.res} (hpre:e.F us=some rv) {K:Act->World->Prop} {Q:Exit->Act->World->Prop}
  (hK: ∀rs S w',R n W0 w' X F (S++H) s a->Zeh w' W0.B e.res rv rs S->Old w w'->K (a.put o.dst (Xu rs)) w'):o.wp P a w K Q:=by
 obtain⟨hf,hok⟩:=Env.find_ok hΓ he;subst hf;obtain⟨cs,hfo,S0,hcs,hS0⟩:=Qux h ht hfo;have hc:=hok.calls w us rv (xs.toList.map a.eval++cs) h.glob (Z0b (fun b hb=>hb.elim (h.xlt b) (hS0 b)) h ht hus hcs) hpre;have hrun: (execOp a.eval o).run P w= .ok (.enter e.f (xs.toList.map a.eval++cs).toArray) w:=by
  have:execOp a.eval o=callFunc e.f (xs.map a.eval++cs.toArray):=by
   simp only[execOp,ho,resolve,hfo,Deferred.ofValue];simp[invoke]
  rw[this,hok.enters];congr 2;apply Array.toList_inj.mp;simp
 unfold Oper.wp;rw[hrun,Oper.upon_enter];refine hc.mono fun en w' ⟨rs,S,hen,hres,hnd,hbl⟩=> ?_;subst hen;show K (a.put o.dst (Xu rs)) w';have hlow: ∀{ts:List Ty} {x:Jb ts} {rs:List Value} {S:List Nat},Zeh w' w.heap.size ts x rs S->(∀b∈S,w.heap.size<=b/\b<w'.heap.size)/\Zeh w' W0.B ts x rs S:=by
  intro ts
  induction ts with
  |nil=>intro x rs S h;exact⟨by simp[h.2],h⟩
  |cons t ts ih=>
   intro x rs S ⟨cs,us,S1,S2,e1,e2,g1,g2⟩;obtain⟨k1,k2⟩:=ih g2;refine⟨fun b hb=> ?_,cs,us,S1,S2,e1,e2,Zcn h.below.sizeB (fun _ h=>h) g1,k2⟩;rw[e2]at hb;rcases List.mem_append.1 hb with hb|hb
   ·exact Zsp g1 b hb
   ·exact k1 b hb
 obtain⟨hfresh,hres'⟩:=hlow hres;exact hK rs S w' ((h.below' hbl).hand (fun b hb=>⟨.inl (Nat.le_trans h.below.size (hfresh b hb).1),(hfresh b hb).2,fun hx=>by have:=h.xlt b hx;have:=(hfresh b hb).1;omega⟩) hnd
  (fun k b hb hm=>by have:=(h.own k b hb).2.1;have:=(hfresh b hm).1;omega) (fun b hb hm=>by have:=(h.hown b hm).2.1;have:=(hfresh b hb).1;omega)) hres' (fun k hk=>hbl.block k hk)
theorem Qus{ρ:Type}{Γ:Env}(hΓ:Γ.ok P g)(h:R n W0 w X F H s a)(ht:tg.ok W0.gh a){c:FuncId×TV}{fo:Operand}(hfo:Quw s tg fo=some c){xs:Array Operand}{ats:Array TypeId}(ho:o.op= .call {callee:= .value fo,args:=xs,argTypes:=ats}){k:St->Option ρ}{r:ρ}(hr:Q2k Γ n s tg o.dst c xs.toList k=some r)
  {K:Act->World->Prop} {Q:Exit->Act->World->Prop} (hK: ∀v w' F' s',k s'=some r->R n W0 w' X F' H s' (a.put o.dst v)->Old w w'->K (a.put o.dst v) w'):o.wp P a w K Q:=by
 unfold Q2k at hr;split at hr
 ·cases hr
 ·rename_i e he;split at hr
  ·cases hr
  ·rename_i us hus;cases hd:o.dst with
   |none=>
    rw[hd]at hr;simp only[Option.bind_eq_some_iff]at hr;obtain⟨rv,hrv,hk⟩:=hr;refine Qif hΓ h ht hfo ho he hus hrv fun rs S w' hR hres' hold=> ?_;have hK':=hK (Xu rs) w' F s hk;rw[hd]at hK'⊢;exact hK' hR.drop hold
   |some d=>
    rw[hd]at hr;simp only at hr;split at hr
    ·cases hr
    ·rename_i hdn;simp only[Oba,Nat.blt_eq]at hdn;simp only[Option.bind_eq_some_iff]at hr;obtain⟨rv,hrv,hk⟩:=hr;refine Qif hΓ h ht hfo ho he hus hrv fun rs S w' hR hres' hold=> ?_;obtain⟨F',hF'⟩:=hR.putRes hdn.1 hdn.2 hres';have hK':=hK (Xu rs) w' F' _ hk;rw[hd]at hK'⊢;exact hK' hF' hold
end
end Go.Am
namespace Go.Am
open Go.RowKit
def Zq6:Ty->Bool| .int _=>true| .bool=>true| .str=>true|_=>false
def Zy1:Ty->Bool| .unit=>true| .hid t=>Zq6 t| .slice _ t=>Zy1 t| .pair a b=>Zy1 a&&Zy1 b| .arr _ t=>Zy1 t|_=>false
def Zwd:Ty->Bool| .unit| .int _| .bool| .str| .fnc _| .err=>true| .hid t=>Zq6 t| .slice _ t=>Zy1 t| .pair a b=>Zwd a&&Zwd b| .arr _ t=>Zwd t| .sptr .. =>false| .clo .. =>false
def Zwc:Tm->Bool
 | .val T (.u false) _=>Zwd T
 | .val T f _=>match f with
  | .d=>true
  | .u _=>T.flat
  | .p _ _=>false
 | .box _ T (.u false) _=>Zwd T
 | .box _ T f _=>match f with
  | .d=>true
  | .u _=>T.flat
  | .p _ _=>false
 | .shp T _=>Zy1 T
 | .pls _ _=>false
 | .gd _ _ t=>Zwc t
 |_=>true
def Qct(s:St):Bool:=s.env.all fun p=>Zwc p.2
def Z29:List Value->List Value->Prop| [],vs=>vs=[]|u::us,vs=> ∃v r,vs=v::r/\Zxs u v/\Z29 us r
theorem Qho: ∀{a b c:List Value},Z29 (a++b) c-> ∃c1 c2,c=c1++c2/\Z29 a c1/\Z29 b c2
 | [],b,c,h=>⟨[],c,rfl,rfl,h⟩
 |u::a,b,c,⟨v,r,e,h1,h2⟩=>by
  obtain⟨c1,c2,rfl,k1,k2⟩:=Qho h2;exact⟨v::c1,c2,e,⟨v,c1,rfl,h1,k1⟩,k2⟩
theorem Qhp: ∀{a c:List Value},Z29 a c->c.length=a.length
 | [],c,h=>by rw[show c=[]from h]
 |u::a,c,⟨v,r,e,_,h2⟩=>by rw[e];simp[Qhp h2]
def Zwu:Ty->Ty| .int k=> .hid (.int k)| .bool=> .hid .bool| .str=> .hid .str| .slice e t=> .slice e (Zwu t)| .pair a b=> .pair (Zwu a) (Zwu b)| .arr n t=> .arr n (Zwu t)|T=>T
def Qip: (T:Ty)->T.den->(Zwu T).den| .int _,_=>()| .bool,_=>()| .str,_=>()| .slice _ t,x=>List.map (Qip t) x| .pair a b,x=>(Qip a x.1,Qip b x.2)| .arr _ t,x=>List.map (Qip t) x| .unit,_=>()| .fnc _,_=>()| .err,x=>x| .hid _,_=>()| .sptr _ _,x=>x| .clo _ _,x=>x
def Zr8:Ty->Bool| .unit| .int _| .bool| .str=>true| .slice _ t=>Zr8 t| .pair a b=>Zr8 a&&Zr8 b| .arr _ t=>Zr8 t|_=>false
theorem Zyr: ∀T:Ty,(Zwu T).size=T.size
 | .pair a b=>by simp[Zwu,Ty.size,Zyr a,Zyr b]
 | .arr n t=>by simp[Zwu,Ty.size,Zyr t]
 | .int _| .bool| .str| .slice .. | .unit| .fnc _| .err| .hid _| .sptr .. | .clo .. =>rfl
structure FnW where
 f:FuncId
 args:List Ty
 res:List Ty
 F:Jb args->Option (Jb res)
structure Qyt(P:Program)(e:FnW):Prop where
 enters: ∀args w,(callFunc e.f args).run P w= .ok (.enter e.f args) w
 calls: ∀(w:World) (L:Nat->Prop) (xs:Jb e.args) (r:Jb e.res) (vals:List Value),(∀b,L b->Zso w b)->Zps w L 0 e.args xs vals->e.F xs=some r->
  Calls P e.f vals.toArray w fun en w'=> ∃rs S,en= .returned (Xu rs)/\Zeh w' w.heap.size e.res r rs S/\S.Nodup/\
   w'.os=w.os/\w'.tape=w.tape/\w'.output=w.output/\w.heap.size<=w'.heap.size/\(∀b,b<w.heap.size-> ¬L b->w'.heap[b]? =w.heap[b]?)/\Zm1 L w w'/\ ∀b,L b->Zso w' b
abbrev Zwn:=List FnW
def Zwn.find(Γ:Zwn)(f:FuncId):Option FnW:=
 match Γ with
 | []=>none
 |e::r=>match Nat.beq e.f f with|true=>some e|false=>Zwn.find r f
def Zwn.ok(Γ:Zwn)(P:Program):Prop:= ∀e∈Γ,Qyt P e
theorem Zwn.find_ok{Γ:Zwn}{P:Program}(h:Γ.ok P){f:FuncId}{e:FnW}(he:Γ.find f=some e):e.f=f/\Qyt P e:=by
 induction Γ with
 |nil=>cases he
 |cons x r ih=>
  simp only[Zwn.find]at he;split at he
  ·rename_i hb;simp only[Osi]at he;subst he;exact⟨Onb hb,h _ (by simp)⟩
  ·exact ih (fun e he=>h e (by simp[he])) he
section
variable {P:Program} {g:Kr} {W0:Wz g} {w w':World} {X X':Nat->Prop} {B B' n:Nat} {own:Bool} {s:St} {F:Key->List Nat} {a:Act} {H H':List Nat} {o:Oper} {tg:Xi} {τ:Tab} {gh:Nat->Value}
theorem Q0n(ad:Addr)(j:Nat): (ad.add j).block=ad.block:=by unfold Addr.add;split<;>rfl
theorem Xbz(ad:Addr)(i j:Nat): (ad.add i).add j=if j=0 then ad.add i else ad.add (i+j):=by
 unfold Addr.add;by_cases h1:i=0<;>by_cases h2:j=0<;>simp[h1,h2,Nat.add_assoc]
theorem Z7h(hso:Zm1 X w w'){ad:Addr}(hX:X ad.block): ∀{xs:List Value} {i:Nat},(∀j u,xs[j]? =some u->w.cell? (ad.add (i+j))=some u)->
  ∃xs',Z29 xs xs'/\ ∀j u,xs'[j]? =some u->w'.cell? (ad.add (i+j))=some u
 | [],i,_=>⟨[],rfl,by simp⟩
 |x::xs,i,h=>by
  obtain⟨v,h1,h2⟩:=hso (ad.add i) x (by rw[Q0n];exact hX) (h 0 x rfl);obtain⟨xs',k1,k2⟩:=Z7h hso hX (xs:=xs) (i:=i+1) fun j u hj=>by
   have:=h (j+1) u (by simpa using hj);rw[show i+1+j=i+ (j+1) by omega];exact this
  refine⟨v::xs',⟨v,xs',rfl,h2,k1⟩,fun j u hj=> ?_⟩;cases j with
  |zero=>simp only[List.getElem?_cons_zero,Osi]at hj;subst hj;exact h1
  |succ j=>
   have:=k2 j u (by simpa using hj);rw[show i+ (j+1)=i+1+j by omega];exact this
theorem Qvd(hso:Zm1 X w w'){e:TypeId}{sz n:Nat}{v:Value}{xs:List Value}{S:List Nat}(h:hdr w X B false e sz n v xs S): ∃xs',Z29 xs xs'/\hdr w' X B false e sz n v xs' S:=by
 obtain⟨h1,h2,ad,cap,h3,h4,h5,h6⟩:=h;rcases h6 with⟨rfl,rfl,rfl⟩| ⟨a0,rfl,h7,h8⟩
 ·have:xs=[]:=List.eq_nil_of_length_eq_zero (by simpa using h2);subst this;exact⟨[],rfl,h1,h2,none,0,h3,h4,h5,.inl ⟨rfl,rfl,rfl⟩⟩
 ·rcases h7 with rfl|h7
  ·have:xs=[]:=List.eq_nil_of_length_eq_zero (by simpa using h2);subst this;exact⟨[],rfl,h1,h2,some a0,cap,h3,h4,h5,.inr ⟨a0,rfl,.inl rfl,by simp⟩⟩
  ·obtain⟨xs',k1,k2⟩:=Z7h hso h7 (xs:=xs) (i:=0) (fun j u hj=>by rw[Nat.zero_add];exact h8 j u hj);exact⟨xs',k1,h1,by rw[Qhp k1,h2],some a0,cap,h3,h4,h5,.inr ⟨a0,rfl,.inr h7,fun j u hj=>by have:=k2 j u hj;rwa [Nat.zero_add]at this⟩⟩
theorem Z4w{α:Type}{r r':α->List Value->List Nat->Prop}(hr: ∀x v v' T,r x v T->Z29 v v'->r' x v' T): ∀{xs:List α} {vs vs':List Value} {S:List Nat},Ww r xs vs S->Z29 vs vs'->Ww r' xs vs' S
 | [],vs,vs',S,h,hs=>by
  obtain⟨rfl,rfl⟩:=h;exact⟨hs,rfl⟩
 |x::xs,vs,vs',S,⟨v1,v2,S1,S2,e1,e2,h1,h2⟩,hs=>by
  rw[e1]at hs;obtain⟨c1,c2,rfl,k1,k2⟩:=Qho hs;exact⟨c1,c2,S1,S2,rfl,e2,hr _ _ _ _ h1 k1,Z4w hr h2 k2⟩
theorem Qwf{t:Ty}(ht:Zq6 t=true){y:t.den}{vs vs':List Value}{S:List Nat}(h:rd w X B false t y vs S)(hs:Z29 vs vs'): ∃y',rd w' X' B false t y' vs' S:=by
 cases t<;>simp[Zq6]at ht
 case int k=>
  obtain⟨rfl,rfl⟩:=h;obtain⟨v,r,rfl,h1,h2⟩:=hs;obtain rfl:r=[]:=h2;rcases h1 with rfl| ⟨k',a,b,e,rfl⟩| ⟨a,b,e,rfl⟩| ⟨a,b,e,rfl⟩
  ·exact⟨y,rfl,rfl⟩
  ·simp only[Value.int.injEq]at e;obtain⟨rfl,rfl⟩:=e;exact⟨b,rfl,rfl⟩
  ·cases e
  ·cases e
 case bool=>
  obtain⟨rfl,rfl⟩:=h;obtain⟨v,r,rfl,h1,h2⟩:=hs;obtain rfl:r=[]:=h2;rcases h1 with rfl| ⟨k',a,b,e,rfl⟩| ⟨a,b,e,rfl⟩| ⟨a,b,e,rfl⟩
  ·exact⟨y,rfl,rfl⟩
  ·cases e
  ·exact⟨b,rfl,rfl⟩
  ·cases e
 case str=>
  obtain⟨rfl,rfl⟩:=h;obtain⟨v,r,rfl,h1,h2⟩:=hs;obtain rfl:r=[]:=h2;rcases h1 with rfl| ⟨k',a,b,e,rfl⟩| ⟨a,b,e,rfl⟩| ⟨a,b,e,rfl⟩
  ·exact⟨y,rfl,rfl⟩
  ·cases e
  ·cases e
  ·exact⟨b.data.toList,rfl,rfl⟩
theorem Zxo(hso:Zm1 X w w'): ∀{T:Ty} {x:T.den} {vs vs':List Value} {S:List Nat},Zy1 T=true->rd w X B false T x vs S->Z29 vs vs'->rd w' X B false T x vs' S
 | .unit,_,_,_,_,_,⟨h1,h2⟩,hs=>by subst h1;exact⟨hs,h2⟩
 | .hid t,_,vs,vs',_,hl,⟨e,y,h⟩,hs=>let⟨y',h'⟩:=Qwf hl h hs;⟨(Qhp hs).trans e,y',h'⟩
 | .slice _ t,_,_,_,_,hl,⟨v,xs,S1,S2,e,e2,h1,h2⟩,hs=>by
  subst e;obtain⟨v',r,rfl,k1,k2⟩:=hs;obtain rfl:r=[]:=k2;obtain⟨ad,cap,hv,_⟩:=Zck h1;have:v'=v:=by
   rcases k1 with rfl| ⟨_,_,_,e,_⟩| ⟨_,_,e,_⟩| ⟨_,_,e,_⟩
   ·rfl
   ·rw[hv]at e;cases e
   ·rw[hv]at e;cases e
   ·rw[hv]at e;cases e
  subst this;obtain⟨xs',g1,g2⟩:=Qvd hso h1;exact⟨v',xs',S1,S2,rfl,e2,g2,Z4w (r:=rd w X B false t) (r':=rd w' X B false t) (fun x v v' T h hs=>Zxo (T:=t) hso hl h hs) h2 g1⟩
 | .pair a b,_,_,_,_,hl,⟨v1,v2,S1,S2,e,e2,h1,h2⟩,hs=>by
  simp only[Zy1,Oba]at hl;rw[e]at hs;obtain⟨c1,c2,rfl,k1,k2⟩:=Qho hs;exact⟨c1,c2,S1,S2,rfl,e2,Zxo hso hl.1 h1 k1,Zxo hso hl.2 h2 k2⟩
 | .arr n t,_,_,_,_,hl,⟨h,h'⟩,hs=>⟨h,Z4w (r:=rd w X B false t) (r':=rd w' X B false t) (fun x v v' T h hs=>Zxo (T:=t) hso hl h hs) h' hs⟩
 | .int _,_,_,_,_,hl,_,_| .bool,_,_,_,_,hl,_,_| .str,_,_,_,_,hl,_,_| .fnc _,_,_,_,_,hl,_,_| .err,_,_,_,_,hl,_,_| .sptr ..,_,_,_,_,hl,_,_| .clo ..,_,_,_,_,hl,_,_=>by simp[Zy1]at hl
theorem Qdz(hso:Zm1 X w w'): ∀{T:Ty} {x:T.den} {vs:List Value} {S:List Nat},Zwd T=true->rd w X B false T x vs S->rd w' X B false T x vs S
 | .unit,_,_,_,_,h| .int _,_,_,_,_,h| .bool,_,_,_,_,h| .str,_,_,_,_,h| .fnc _,_,_,_,_,h| .err,_,_,_,_,h=>h
 | .hid t,_,_,_,hl,⟨e,y,h⟩=>by
  refine⟨e,y,?_⟩;cases t<;>simp[Zwd,Zq6]at hl<;>exact h
 | .slice _ t,_,_,_,hl,⟨v,xs,S1,S2,e,e2,h1,h2⟩=>by
  obtain⟨xs',g1,g2⟩:=Qvd hso h1;exact⟨v,xs',S1,S2,e,e2,g2,Z4w (r:=rd w X B false t) (r':=rd w' X B false t) (fun x v v' T h hs=>Zxo (T:=t) hso hl h hs) h2 g1⟩
 | .pair a b,_,_,_,hl,⟨v1,v2,S1,S2,e,e2,h1,h2⟩=>by
  simp only[Zwd,Oba]at hl;exact⟨v1,v2,S1,S2,e,e2,Qdz hso hl.1 h1,Qdz hso hl.2 h2⟩
 | .arr n t,_,_,_,hl,⟨h,h'⟩=>⟨h,Kf h' fun _ _ _ _ _ h=>Qdz (T:=t) hso hl h⟩
 | .sptr ..,_,_,_,hl,_| .clo ..,_,_,_,hl,_=>by simp[Zwd]at hl
theorem Qr1(hso:Zm1 X w w'){T:Ty}{f:Fl}{x:T.den}{vs:List Value}{S:List Nat}(hl: (match f with| .u false=>Zwd T| .d=>true| .u true=>T.flat| .p _ _=>false)=true)(h:rdF w X B T f x vs S):rdF w' X B T f x vs S:=by
 cases f with
 |d=>unfold rdF at*;exact h
 |p _ _=>simp at hl
 |u b=>
  cases b
  ·unfold rdF at*;exact Qdz hso hl h
  ·unfold rdF at*
   obtain⟨rfl,k⟩:=Znb (w':=w') (X':=X) (B':=B) (own':=true) hl h;exact k
theorem Q0f(hso:Zm1 X w w')(hF: ∀k b,b∈F k->w'.heap[b]? =w.heap[b]?){v:Value}{S:List Nat}(hS: ∀b∈S,w'.heap[b]? =w.heap[b]?): ∀{t:Tm},Zwc t=true->
  vt gh w X B s F a v S t->vt gh w' X B s F a v S t
 | .junk,_,h| .tup,_,h=>h
 | .val T f x,hl,⟨vs,h1,h2⟩=>⟨vs,h1,Qr1 hso (by
   cases f with
   |u b=>cases b<;>simpa[Zwc]using hl
   |d=>rfl
   |p _ _=>simp[Zwc]at hl) h2⟩
 | .box e T f x,hl,⟨b,c,S',h1,h2,h3,h4⟩=>⟨b,c,S',h1,h2,by rw[hS b (by rw[h2];simp)];exact h3,Qr1 hso (by
   cases f with
   |u b=>cases b<;>simpa[Zwc]using hl
   |d=>rfl
   |p _ _=>simp[Zwc]at hl) h4⟩
 | .ptr r p,_,h=>h
 | .aep r p i,_,h=>h
 | .pls hh l,hl,_=>by simp[Zwc]at hl
 | .shp T x,hl,⟨h0,ad,vs,h1,h2,h3,h4⟩=>by
  obtain⟨vs',k1,k2⟩:=Z7h hso h2 (xs:=vs) (i:=0) (fun j u hj=>by rw[Nat.zero_add];exact h3 j u hj);exact⟨h0,ad,vs',h1,h2,fun j u hj=>by have:=k2 j u hj;rwa [Nat.zero_add]at this,Zxo hso hl h4 k1⟩
 | .bor r p,_,⟨h0,h1⟩=>⟨h0,fun hc=>let⟨U,h⟩:=h1 hc;⟨U,Zi9 h (hF (.m r))⟩⟩
 | .elp r p i q,_,⟨h0,h1⟩=>⟨h0,fun hc=>let⟨e,t,ad,n,cap,h,h'⟩:=h1 hc;⟨e,t,ad,n,cap,Zi9 h (hF (.m r)),h'⟩⟩
 | .cl f l,_,h=>h
 | .bel r p i q,_,⟨h0,h1⟩=>⟨h0,fun hc he=>let⟨e,t,ad,n,cap,x0,y,cs,h,k1,k2,k3,k4,k5,k6,k7⟩:=h1 hc he;⟨e,t,ad,n,cap,x0,y,cs,Zi9 h (hF (.m r)),k1,k2,k3,k4,k5,k6,fun j u hj=>by
   have hb: ∀m,(ad.add m).block=ad.block:=fun m=>by unfold Addr.add;split<;>rfl
   rw[World.cell?_of_block (w:=w) (by rw[hb];exact hF (.m r) _ k3)];exact k7 j u hj⟩⟩
 | .gd g want t,hl,h=>fun hc=>let⟨h0,h1,h2⟩:=h hc;⟨h0,fun hg=>Q0f hso hF hS (by simpa[Zwc]using hl) (h1 hg),h2⟩
theorem Qvt{s:St}(h:Qct s=true)(k:Key):Zwc (s.get k)=true:=by
 unfold Qct at h;unfold St.get;rw[List.all_eq_true]at h;generalize s.env=l at h
 induction l with
 |nil=>rfl
 |cons p r ih=>
  obtain⟨j,t⟩:=p;rw[Z1];split
  ·exact h (j,t) (by simp)
  ·exact ih fun p hp=>h p (by simp[hp])
theorem R.soft(h:R n W0 w X F H s a)(hl:Qct s=true)(hG:g.G w')(hbl:W0.below w')(hsz:w.heap.size<=w'.heap.size)(hout: ∀b,b<w.heap.size-> ¬X b->w'.heap[b]? =w.heap[b]?)(hso:Zm1 X w w'):R n W0 w' X F H s a:=
 {h with
  below:=hbl
  glob:=hG
  xlt:=fun b hb'=>Nat.lt_of_lt_of_le (h.xlt b hb') hsz
  own:=fun k b hb'=>let⟨h1,h2,h3⟩:=h.own k b hb';⟨h1,Nat.lt_of_lt_of_le h2 hsz,h3⟩
  hown:=fun b hb'=>let⟨h1,h2,h3⟩:=h.hown b hb';⟨h1,Nat.lt_of_lt_of_le h2 hsz,h3⟩
  slots:=fun k=>Q0f hso (fun k b hb=>hout b (h.own k b hb).2.1 (h.own k b hb).2.2) (fun b hb=>hout b (h.own k b hb).2.1 (h.own k b hb).2.2) (Qvt hl k) (h.slots k)}
end
end Go.Am
namespace Go.Am
open Go.RowKit
def Qhq(τ:Tab)(s:St)(e:TypeId)(x v:Operand):Option St:=
 match τ e with
 |none=>none
 |some T=>match op1 s [] x with
  | .tm _ (.shp (.hid t) _)=>match decide (t=T)&&Zq6 T&&Qct s,Zaa s (op1 s [] v) T with
   |true,some _=>some s
   |_,_=>none
  |_=>none
def Qz3(s:St)(T:Ty)(y:T.den)(rest:List Operand): (ts:List Ty)->Option (Jb ts)
 | []=>none
 |t::ts=>match Km t (Zwu T) (Qip T y),Znc s [] ts rest,Qnu ts with
  |some u,some us,true=>some (u,us)
  |_,_,_=>none
def Qtj:Tm->Option (TV×Tm)| .val T (.u true) y=>some (⟨T,y⟩,.val T .d y)| .box e T (.u true) y=>some (⟨T,y⟩,.box e T .d y)|_=>none
noncomputable def wrK{ρ:Type}(Γ:Zwn)(n:Nat)(s:St)(dst:Option Nat)(f:FuncId)(xs:List Operand)(k:St->Option ρ):Option ρ:=
 match Γ.find f,xs with
 |some e,x0::rest=>match Zzg s (op1 s [] x0)with
  |some q=>match Qtj (s.get (.m q))with
   |some (⟨T,y⟩,t)=>match Zr8 T,Qz3 s T y rest e.args,dst with
    |true,some us,some d=>match Jm (Y0 s q t) d&&Nat.blt d n with
     |true=>(e.F us).bind fun z=>k (Z9q d (Y0 s q t) e.res z)
     |false=>none
    |_,_,_=>none
   |none=>none
  |none=>none
 |_,_=>none
def Z4v(s:St): (ts:List Ty)->List Operand->Option (Jb ts)
 | [],[]=>some ()
 |t::ts,x::xs=>match Z9t s (op1 s [] x) t,Z4v s ts xs with
  |some u,some us=>some (u,us)
  |_,_=>none
 |_,_=>none
noncomputable def wsK{ρ:Type}(Γ:Zwn)(n:Nat)(s:St)(dst:Option Nat)(f:FuncId)(xs:List Operand)(k:St->Option ρ):Option ρ:=
 match Γ.find f,dst with
 |some e,some d=>match Z4v s e.args xs,Jm s d&&Nat.blt d n&&Qct s with
  |some us,true=>(e.F us).bind fun z=>k (Z9q d s e.res z)
  |_,_=>none
 |_,_=>none
section
variable {P:Program} {g:Kr} {W0:Wz g} {w w':World} {X X':Nat->Prop} {B B' n:Nat} {own:Bool} {s:St} {F:Key->List Nat} {a:Act} {H H':List Nat} {o:Oper} {tg:Xi} {τ:Tab} {gh:Nat->Value}
theorem Qpb{α β:Type}{r:α->List Value->List Nat->Prop}{r':β->List Value->List Nat->Prop}{m:α->β}(hr: ∀x v S,r x v S->r' (m x) v S): ∀{xs:List α} {vs:List Value} {S:List Nat},Ww r xs vs S->Ww r' (xs.map m) vs S
 | [],_,_,h=>h
 |_::_,_,_,⟨v1,v2,S1,S2,e1,e2,h1,h2⟩=>⟨v1,v2,S1,S2,e1,e2,hr _ _ _ h1,Qpb hr h2⟩
theorem Qdy: ∀{T:Ty} {x:T.den} {vs:List Value} {S:List Nat},Zr8 T=true->rd w X B false T x vs S->rd w X B false (Zwu T) (Qip T x) vs S
 | .unit,_,_,_,_,h=>h
 | .int _,x,_,_,_,⟨h1,h2⟩=>⟨by rw[h1];rfl,x,h1,h2⟩
 | .bool,x,_,_,_,⟨h1,h2⟩=>⟨by rw[h1];rfl,x,h1,h2⟩
 | .str,x,_,_,_,⟨h1,h2⟩=>⟨by rw[h1];rfl,x,h1,h2⟩
 | .slice _ t,x,_,_,hk,⟨v,xs,S1,S2,e,e2,h1,h2⟩=>by
  refine⟨v,xs,S1,S2,e,e2,?_,Qpb (r:=rd w X B false t) (r':=rd w X B false (Zwu t)) (fun _ _ _ h=>Qdy (T:=t) hk h) h2⟩;rw[Zyr];simpa[Qip]using h1
 | .pair a b,_,_,_,hk,⟨v1,v2,S1,S2,e,e2,h1,h2⟩=>by
  simp only[Zr8,Oba]at hk;exact⟨v1,v2,S1,S2,e,e2,Qdy hk.1 h1,Qdy hk.2 h2⟩
 | .arr n t,x,_,_,hk,⟨h,h'⟩=>⟨by simpa[Qip]using h,Qpb (r:=rd w X B false t) (r':=rd w X B false (Zwu t)) (fun _ _ _ h=>Qdy (T:=t) hk h) h'⟩
 | .fnc _,_,_,_,hk,_| .err,_,_,_,hk,_| .hid _,_,_,_,hk,_| .sptr ..,_,_,_,hk,_| .clo ..,_,_,_,hk,_=>by simp[Zr8]at hk
theorem Q1h{T:Ty}(vs:List Value):Xt (Zwu T) vs=Xt T vs:=by cases T<;>rfl
theorem Z25: ∀{T:Ty} {x:T.den} {vs:List Value} {S:List Nat},Zr8 T=true->rd w X B true T x vs S-> ∀b∈S,Zso w b
 | .unit,_,_,_,_,h| .int _,_,_,_,_,h| .bool,_,_,_,_,h| .str,_,_,_,_,h=>by simp[h.2]
 | .slice _ t,x,_,_,hk,⟨v,xs,S1,S2,e,e2,h1,h2⟩=>by
  intro b hb;rw[e2]at hb;rcases List.mem_append.1 hb with hb|hb
  ·obtain⟨h3,h4⟩:=h1;rw[h4]at hb;rcases h3.2 with⟨rfl,_⟩| ⟨g,cap,cur,rfl,_,hg,_⟩
   ·simp[Value.ownBlock]at hb
   ·simp only[Value.ownBlock,Option.toList_some,List.mem_singleton]at hb;subst hb;exact⟨cur,_,hg⟩
  ·exact Z28 (r:=rd w X B true t) (fun _ _ _ h=>Z25 (T:=t) hk h) h2 b hb
 | .pair a b,_,_,_,hk,⟨v1,v2,S1,S2,e,e2,h1,h2⟩=>by
  simp only[Zr8,Oba]at hk;intro b hb;rw[e2]at hb;exact(List.mem_append.1 hb).elim (Z25 hk.1 h1 b) (Z25 hk.2 h2 b)
 | .arr n t,x,_,_,hk,⟨h,h'⟩=>Z28 (r:=rd w X B true t) (fun _ _ _ h=>Z25 (T:=t) hk h) h'
 | .fnc _,_,_,_,hk,_| .err,_,_,_,hk,_| .hid _,_,_,_,hk,_| .sptr ..,_,_,_,hk,_| .clo ..,_,_,_,hk,_=>by simp[Zr8]at hk
theorem Qv6{w':World}{B':Nat}(hB:B'<=B): ∀{ts:List Ty} {x:Jb ts} {rs:List Value} {S:List Nat},Zeh w' B ts x rs S->(∀b∈S,B<=b/\b<w'.heap.size)/\Zeh w' B' ts x rs S:=by
 intro ts
 induction ts with
 |nil=>intro x rs S h;exact⟨by simp[h.2],h⟩
 |cons t ts ih=>
  intro x rs S ⟨cs,us,S1,S2,e1,e2,g1,g2⟩;obtain⟨k1,k2⟩:=ih g2;refine⟨fun b hb=> ?_,cs,us,S1,S2,e1,e2,Zcn hB (fun _ h=>h) g1,k2⟩;rw[e2]at hb;rcases List.mem_append.1 hb with hb|hb
  ·exact Zsp g1 b hb
  ·exact k1 b hb
theorem Zvv: ∀{T:Ty} {x:T.den} {vs:List Value} {S:List Nat},rd w X B true T x vs S->rd w X' B true T x vs S
 | .unit,_,_,_,h| .int _,_,_,_,h| .bool,_,_,_,h| .fnc _,_,_,_,h| .str,_,_,_,h| .err,_,_,_,h=>h
 | .slice _ t,_,_,_,⟨v,xs,S1,S2,e,e2,h1,h2⟩=>⟨v,xs,S1,S2,e,e2,h1,Kf h2 fun _ _ _ _ _ h=>Zvv (T:=t) h⟩
 | .pair a b,_,_,_,⟨v1,v2,S1,S2,e,e2,h1,h2⟩=>⟨v1,v2,S1,S2,e,e2,Zvv h1,Zvv h2⟩
 | .arr n t,_,_,_,⟨h,h'⟩=>⟨h,Kf h' fun _ _ _ _ _ h=>Zvv (T:=t) h⟩
 | .hid _,_,_,_,⟨e,y,h⟩=>⟨e,y,Zvv h⟩
 | .sptr ..,_,_,_,⟨_,o,_⟩=>by simp at o
 | .clo ..,_,_,_,⟨e,cs,h1,h2⟩=>⟨e,cs,h1,Zvv h2⟩
theorem Qv9(h:R n W0 w X F H s a){T:Ty}{y:T.den}{vs:List Value}{S:List Nat}{rest:List Operand}(hk:Zr8 T=true)(hrd:rd w X W0.B true T y vs S): ∀{ts:List Ty} {us:Jb ts},Qz3 s T y rest ts=some us->
  Zps w (· ∈S) 0 ts us (Xt T vs::rest.map a.eval)
 | [],_,hr=>by simp[Qz3]at hr
 |t::ts,us,hr=>by
  simp only[Qz3]at hr;split at hr
  ·rename_i u us' hu hus hf;simp only[Osi]at hr;subst hr;unfold Km at hu;split at hu
   ·rename_i e;subst e;simp only[Osi]at hu;subst hu;refine⟨vs,_,by rw[Q1h],?_,Z24 hf (Zpv h (tg:=[]) (fun p hp=>by cases hp) hus)⟩;have hS:rd w (fun _=>False) W0.B true T y vs S:=Zvv hrd;exact Qdy hk (J6 (Zff (X':=(· ∈S)) (fun b hb=>hb.elim) hS (fun b hb=>hb)) (by simp))
   ·cases hu
  ·cases hr
theorem Qxf(h:R n W0 w X F [] s a){x:Operand}{q:Nat}(hq:Zzg s (op1 s [] x)=some q){T:Ty}{y:T.den}{t:Tm}(hg:Qtj (s.get (.m q))=some (⟨T,y⟩,t)):
  ∃vs S S2,a.eval x=Xt T vs/\rd w X W0.B true T y vs S/\(∀b∈S++S2,b∈F (.m q))/\(S++S2).Nodup/\R n W0 w X (Qd F (.m q) S2) [] (Y0 s q t) a:=by
 cases hs:s.get (.m q)with
 |val U f z=>
  rw[hs]at hg;cases f with
  |u b=>
   cases b
   ·cases hg
   ·simp only[Qtj,Osi,Opi]at hg;obtain⟨h1,rfl⟩:=hg;cases h1;have hev:=Qd0 h hq hs;have hsl:=h.slots (.m q);rw[hs]at hsl;obtain⟨vs,hv,hrd⟩:=hsl;unfold rdF at hrd;refine⟨vs,F (.m q),[],by rw[hev];exact hv,hrd,by simp,by simpa using h.nodup _,?_⟩;exact h.turn (S':=[]) (H':=[]) h.below (Nat.le_refl _) (fun _ _=>rfl) (fun _ _ _ _=>rfl) (by simp) (by simp) (by rw[hs];simp) (fun e T f x b S hb=>by rw[hs]at hb;cases hb)
     ⟨vs,hv,by unfold rdF;exact⟨Xv hrd,Zjf hrd,rfl⟩⟩
  |p _ _=>cases hg
  |d=>cases hg
 |box e U f z=>
  rw[hs]at hg;cases f with
  |u b=>
   cases b
   ·cases hg
   ·simp only[Qtj,Osi,Opi]at hg;obtain⟨h1,rfl⟩:=hg;cases h1;have hsl:=h.slots (.m q);rw[hs]at hsl;obtain⟨b,c,S,g1,g2,g3,g4⟩:=hsl;unfold rdF at g4;have hnd:=h.nodup (.m q);rw[g2]at hnd;have hev:a.eval x=Xt T c.toList:=by
     unfold Zzg at hq;split at hq
     ·rename_i k U2 f2 z2 hx;simp only[Osi]at hq;subst hq;obtain⟨rfl,_,hx⟩:=Zli hx;rw[hs]at hx;cases hx
     ·rename_i k r hx;split at hq
      ·rename_i hfl;simp only[Osi]at hq;subst hq;obtain⟨_,_,hv⟩:=Ke h (tg:=[]) (fun p hp=>by cases hp) hx (by simp);obtain⟨U,hv⟩:=hv hfl;unfold Xb at hv;rw[hs]at hv;obtain⟨b',c',S',y',k1,k2,k3,rfl,k5⟩:=hv;rw[g2]at k1;obtain⟨rfl,_⟩:=List.cons.inj k1;rw[g3]at k2;simp only[Osi,Obj.cells.injEq]at k2;obtain⟨rfl,_⟩:=k2;simp only[Zc9,Osi]at k3;subst k3;rw[k5];have e0:J3 T []=0:=by cases T<;>rfl
       have hl:=Xv g4;simp only[e0,List.drop_zero];rw[List.take_of_length_le (by omega)]
      ·cases hq
     ·cases hq
    refine⟨c.toList,S,[b],hev,g4,fun b' hb=>by rw[g2];rcases List.mem_append.1 hb with hb|hb<;>simp at hb⊢ <;>simp[hb],?_,?_⟩
    ·refine List.nodup_append.2 ⟨(List.nodup_cons.1 hnd).2,by simp,fun x hx y hy e=> ?_⟩;simp only[List.mem_singleton]at hy;subst hy;subst e;exact(List.nodup_cons.1 hnd).1 hx
    ·exact h.turn (S':=[b]) (H':=[]) h.below (Nat.le_refl _) (fun _ _=>rfl) (fun _ _ _ _=>rfl) (by rw[g2];simp) (by simp) (by rw[hs];simp) (fun e' T' f' x' b' S' hb hF=>by
      rw[hs]at hb;cases hb;rw[g2]at hF;obtain⟨rfl,_⟩:=List.cons.inj hF;exact⟨_,_,[],rfl,rfl⟩)
      ⟨b,c,[],g1,rfl,g3,by unfold rdF;exact⟨Xv g4,Zjf g4,rfl⟩⟩
  |p _ _=>cases hg
  |d=>cases hg
 |_=>rw[hs]at hg;cases hg
theorem Q12{ρ:Type}{Γ:Zwn}(hΓ:Γ.ok P)(h:R n W0 w X F [] s a){f:FuncId}{fo:Operand}(hfo:a.eval fo= .func (.func f) #[] #[]){xs:Array Operand}{ats:Array TypeId}(ho:o.op= .call {callee:= .value fo,args:=xs,argTypes:=ats}){k:St->Option ρ}{r:ρ}(hr:wrK Γ n s o.dst f xs.toList k=some r)
  {K:Act->World->Prop} {Q:Exit->Act->World->Prop} (hK: ∀v w' X' F' s',k s'=some r->R n W0 w' X' F' [] s' (a.put o.dst v)->K (a.put o.dst v) w'):o.wp P a w K Q:=by
 unfold wrK at hr;split at hr
 ·rename_i e x0 rest he hxs;obtain⟨rfl,hok⟩:=Zwn.find_ok hΓ he;split at hr
  ·rename_i q hq;split at hr
   ·rename_i T y t hg;split at hr
    ·rename_i us d hk hus hd;split at hr
     ·rename_i hdn;simp only[Oba,Nat.blt_eq]at hdn;simp only[Option.bind_eq_some_iff]at hr;obtain⟨z,hz,hk2⟩:=hr;obtain⟨vs,S0,S2,hev,hrd,hsub,hnd2,hR0⟩:=Qxf h hq hg;have hlt: ∀b∈S0,b<w.heap.size:=fun b hb=>(h.own _ _ (hsub b (by simp[hb]))).2.1;have hargs:=Qv9 h hk hrd hus;have hrest:xs.toList.map a.eval=Xt T vs::rest.map a.eval:=by rw[hxs,List.map_cons,hev]
      rw[<-hrest]at hargs;have hc:=hok.calls w (· ∈S0) us z (xs.toList.map a.eval) (fun b hb=>Z25 hk hrd b hb) hargs hz;have hrun: (execOp a.eval o).run P w= .ok (.enter e.f (xs.toList.map a.eval).toArray) w:=by
       have:execOp a.eval o=callFunc e.f (xs.map a.eval):=by
        simp only[execOp,ho,resolve,hfo,Deferred.ofValue];simp[invoke]
       rw[this,hok.enters];congr 2;apply Array.toList_inj.mp;simp
      unfold Oper.wp;rw[hrun,Oper.upon_enter];refine hc.mono fun en w' ⟨rs,S,hen,hres,hnd,h1,h2,h3,h4,h5,_,_⟩=> ?_;subst hen;show K (a.put o.dst (Xu rs)) w';obtain⟨hfresh,hres'⟩:=Qv6 h.below.sizeB hres;have hbl:W0.below w':=⟨h1.trans h.below.os,h2.trans h.below.tape,h3.trans h.below.output,Nat.le_trans h.below.size h4,fun b hb=>
       (h5 b (Nat.lt_of_lt_of_le (W0.yW b hb) h.below.size) fun hm=>W0.sep hb (h.own _ _ (hsub b (by simp[hm]))).1 rfl).trans (h.below.block b hb)⟩
      have hR1:R n W0 w' X (Qd F (.m q) S2) [] (Y0 s q t) a:=hR0.world hbl h4 (fun b hb=>h5 b (h.xlt b hb) fun hm=>(h.own _ _ (hsub b (by simp[hm]))).2.2 hb) (fun k b hb=>by
       have hb2:=hR0.own k b hb;refine h5 b hb2.2.1 fun hm=> ?_;simp only[Qd]at hb;split at hb
       ·exact(List.nodup_append.1 hnd2).2.2 b hm b hb rfl
       ·rename_i hne;exact hne (h.disj _ _ b hb (hsub b (by simp[hm]))))
      have hR2:R n W0 w' X (Qd F (.m q) S2) (S++ []) (Y0 s q t) a:=hR1.hand (fun b hb=>⟨.inl (Nat.le_trans h.below.size (hfresh b hb).1),(hfresh b hb).2,fun hx=>by have:=h.xlt b hx;have:=(hfresh b hb).1;omega⟩) hnd
       (fun k b hb hm=>by have:=(hR0.own k b hb).2.1;have:=(hfresh b hm).1;omega) (fun b hb hm=>by cases hm)
      obtain⟨F',hF'⟩:=hR2.putRes hdn.1 hdn.2 hres';have hK':=hK (Xu rs) w' X F' _ hk2;rw[hd]at hK'⊢;exact hK' hF'
     ·cases hr
    ·cases hr
   ·cases hr
  ·cases hr
 ·cases hr
theorem Z69(h:R n W0 w X F H s a): ∀{ts:List Ty} {xs:List Operand} {us:Jb ts},Z4v s ts xs=some us->Zps w X 0 ts us (xs.map a.eval)
 | [],[],us,_=>rfl
 |t::ts,x::xs,us,hr=>by
  simp only[Z4v]at hr;split at hr
  ·rename_i u us' hu hus;simp only[Osi]at hr;subst hr;obtain⟨cs,h1,h2⟩:=Zze h hu;exact⟨cs,_,by simp[h1],h2,Z69 h hus⟩
  ·cases hr
 | [],_::_,_,hr=>by simp[Z4v]at hr
 |_::_,[],_,hr=>by simp[Z4v]at hr
theorem Qug{w0:World}{L:Nat->Prop}(hg:g=Zrz w0 L)(h:R n W0 w X F H s a): (∀b,X b↔L b)/\g.soft=true:=by
 subst hg;exact⟨fun b=>⟨h.xs rfl b,h.gx b⟩,rfl⟩
theorem Qsf{w0:World}{L:Nat->Prop}(hg:g=Zrz w0 L)(h:R n W0 w X F H s a)(hso:Zm1 X w w')(hpl: ∀b,X b->Zso w' b):g.G w':=by
 obtain⟨hX,_⟩:=Qug hg h;have hXL:X=L:=funext fun b=>propext (hX b);subst hg;subst hXL;exact⟨h.glob.1.trans hso,hpl⟩
theorem Qpi{w0:World}{L:Nat->Prop}(hg:g=Zrz w0 L)(h:R n W0 w X F H s a)(hos:w'.os=w.os)(htape:w'.tape=w.tape)(hout:w'.output=w.output)(hsz:w.heap.size<=w'.heap.size)(hb: ∀b,b<w.heap.size-> ¬X b->w'.heap[b]? =w.heap[b]?):W0.below w':=by
 obtain⟨hX,hs⟩:=Qug hg h;refine⟨hos.trans h.below.os,htape.trans h.below.tape,hout.trans h.below.output,Nat.le_trans h.below.size hsz,fun k hk=>(hb k (Nat.lt_of_lt_of_le (W0.yW k hk) h.below.size) fun hx=>W0.fr hs k (h.xs hs k hx) hk).trans (h.below.block k hk)⟩
theorem Q14{ρ:Type}{Γ:Zwn}(hΓ:Γ.ok P){w0:World}{L:Nat->Prop}(hg:g=Zrz w0 L)(h:R n W0 w X F [] s a){f:FuncId}{fo:Operand}(hfo:a.eval fo= .func (.func f) #[] #[]){xs:Array Operand}{ats:Array TypeId}(ho:o.op= .call {callee:= .value fo,args:=xs,argTypes:=ats}){k:St->Option ρ}{r:ρ}(hr:wsK Γ n s o.dst f xs.toList k=some r)
  {K:Act->World->Prop} {Q:Exit->Act->World->Prop} (hK: ∀v w' X' F' s',k s'=some r->R n W0 w' X' F' [] s' (a.put o.dst v)->K (a.put o.dst v) w'):o.wp P a w K Q:=by
 unfold wsK at hr;split at hr
 ·rename_i e d he hd;obtain⟨rfl,hok⟩:=Zwn.find_ok hΓ he;split at hr
  ·rename_i us hus hdn;simp only[Oba,Nat.blt_eq]at hdn;simp only[Option.bind_eq_some_iff]at hr;obtain⟨z,hz,hk2⟩:=hr;obtain⟨hX,hsf⟩:=Qug hg h;have hpl: ∀b,X b->Zso w b:=fun b hb=>by
    have:=h.glob;have hb':=(hX b).1 hb;subst hg;exact this.2 b hb'
   have hc:=hok.calls w X us z (xs.toList.map a.eval) hpl (Z69 h hus) hz;have hrun: (execOp a.eval o).run P w= .ok (.enter e.f (xs.toList.map a.eval).toArray) w:=by
    have:execOp a.eval o=callFunc e.f (xs.map a.eval):=by
     simp only[execOp,ho,resolve,hfo,Deferred.ofValue];simp[invoke]
    rw[this,hok.enters];congr 2;apply Array.toList_inj.mp;simp
   unfold Oper.wp;rw[hrun,Oper.upon_enter];refine hc.mono fun en w' ⟨rs,S,hen,hres,hnd,h1,h2,h3,h4,h5,h6,h7⟩=> ?_;subst hen;show K (a.put o.dst (Xu rs)) w';obtain⟨hfresh,hres'⟩:=Qv6 h.below.sizeB hres;have hR1:R n W0 w' X F [] s a:=h.soft hdn.2 (Qsf hg h h6 h7) (Qpi hg h h1 h2 h3 h4 h5) h4 h5 h6;have hR2:R n W0 w' X F (S++ []) s a:=hR1.hand (fun b hb=>⟨.inl (Nat.le_trans h.below.size (hfresh b hb).1),(hfresh b hb).2,fun hx=>by have:=h.xlt b hx;have:=(hfresh b hb).1;omega⟩) hnd
    (fun k b hb hm=>by have:=(h.own k b hb).2.1;have:=(hfresh b hm).1;omega) (fun b hb hm=>by cases hm)
   obtain⟨F',hF'⟩:=hR2.putRes hdn.1.1 hdn.1.2 hres';have hK':=hK (Xu rs) w' X F' _ hk2;rw[hd]at hK'⊢;exact hK' hF'
  ·cases hr
 ·cases hr
theorem Qyb{T:Ty}(hT:Zq6 T=true){x:T.den}{vs:List Value}{S:List Nat}(h:rd w X B own T x vs S): ∃u,vs=[u]/\Xt T vs=u:=by
 cases T<;>simp[Zq6]at hT<;>exact⟨_,h.1,by rw[h.1];rfl⟩
theorem Qwe{T:Ty}(hT:Zq6 T=true){x y:T.den}{u v:Value}{S S':List Nat}(h:rd w X B own T x [u] S)(h':rd w X' B' own T y [v] S'):Zxs u v:=by
 cases T<;>simp[Zq6]at hT
 ·have e1:=(List.cons.inj h.1).1;have e2:=(List.cons.inj h'.1).1;subst e1;subst e2;exact .inr (.inl ⟨_,_,_,rfl,rfl⟩)
 ·have e1:=(List.cons.inj h.1).1;have e2:=(List.cons.inj h'.1).1;subst e1;subst e2;exact .inr (.inr (.inl ⟨_,_,rfl,rfl⟩))
 ·have e1:=(List.cons.inj h.1).1;have e2:=(List.cons.inj h'.1).1;subst e1;subst e2;exact .inr (.inr (.inr ⟨_,_,rfl,rfl⟩))
theorem Qk8(hτ:τ.ok P){w0:World}{L:Nat->Prop}(hg:g=Zrz w0 L)(h:R n W0 w X F H s a){e:TypeId}{x v:Operand}(ho:o.op= .store e x v)(hd:o.dst=none){s':St}(hr:Qhq τ s e x v=some s')
  {K:Act->World->Prop} {Q:Exit->Act->World->Prop} (hK: ∀w',R n W0 w' X F H s' a->K a w'):o.wp P a w K Q:=by
 unfold Qhq at hr;split at hr
 ·cases hr
 ·rename_i T hT;split at hr
  ·rename_i kk t y hx;split at hr
   ·rename_i u hc hu;simp only[Osi]at hr;subst hr;simp only[Oba,decide_eq_true_eq]at hc;obtain⟨⟨rfl,hsc⟩,hl⟩:=hc;obtain⟨vs,h1,h2⟩:=Wl h (tg:=[]) (fun p hp=>by cases hp) hu;obtain⟨u1,rfl,h3⟩:=Qyb hsc h2;obtain⟨_,_,ad,cs,k1,k2,k3,⟨k4,y',k5⟩⟩:=Ke h (tg:=[]) (fun p hp=>by cases hp) hx (by simp);obtain⟨u0,rfl⟩:=List.length_eq_one_iff.1 k4;have hcell:=k3 0 u0 rfl;have had:ad.add 0=ad:=rfl;rw[had]at hcell;obtain⟨hX,hsf⟩:=Qug hg h;have hpl:Zso w ad.block:=by
     have:=h.glob;have hb':=(hX _).1 k2;subst hg;exact this.2 _ hb'
    obtain⟨c,e0,hh⟩:=hpl;obtain⟨b,off,spot⟩:=ad;simp only at hh k2;unfold World.cell? at hcell;simp only[hh]at hcell;cases spot with
    |some sp=>simp at hcell
    |none=>
     simp only[Option.isSome_none,Bool.false_eq_true,if_false]at hcell;have hlt:off<c.size:=(Array.getElem?_eq_some_iff.1 hcell).1;have hst:=run_storeCells_at P b off e0 [u1] 0 c w hh (by simp;omega) (Zjf h2);generalize hcc: (c.toList.take (off+0)++ [u1]++c.toList.drop (off+0+ [u1].length)).toArray=cc at hst;have hhc:=setRow_heap w b c cc e0 _ hh;have hother: ∀k,k≠b->(w.setRow b cc).heap[k]? =w.heap[k]? :=fun k hk=>by
      simp only[World.setRow];rw[Array.getElem?_modify];simp[Ne.symm hk]
     have hso:Zm1 X w (w.setRow b cc):=fun ad' u' hL hu'=>by
      obtain⟨b',off',spot'⟩:=ad';by_cases hb:b'=b
      ·subst hb;unfold World.cell? at hu'⊢;simp only[hh,hhc]at hu'⊢;cases spot' with
       |some sp=>simp at hu'
       |none=>
        simp only[Option.isSome_none,Bool.false_eq_true,if_false]at hu'⊢;have hl':off'<c.size:=(Array.getElem?_eq_some_iff.1 hu').1;by_cases ho':off'=off
        ·subst ho';rw[hcell]at hu';simp only[Osi]at hu';subst hu';refine⟨u1,?_,Qwe hsc k5 h2⟩;rw[<-hcc,<-Array.getElem?_toList];simp only[Nat.add_zero,List.append_assoc];rw[List.getElem?_append_right (by simp;omega)];simp[Nat.min_eq_left (Nat.le_of_lt hlt)]
        ·refine⟨u',?_,Zxs.refl _⟩;rw[<-hcc,<-Array.getElem?_toList];simp only[Nat.add_zero,List.append_assoc];rw[<-Array.getElem?_toList]at hu';rcases Nat.lt_or_ge off' off with hlo|hlo
         ·rw[List.getElem?_append_left (by simp;omega),List.getElem?_take];simp[hlo,hu']
         ·rw[List.getElem?_append_right (by simp;omega)];have e1: (List.take off c.toList).length=off:=by simp;omega
          rw[e1];obtain⟨m,hm⟩: ∃m,off'-off=m+1:=⟨off'-off-1,by omega⟩
          rw[hm];simp only[List.cons_append,List.nil_append,List.getElem?_cons_succ,List.length_cons,List.length_nil,Nat.zero_add,List.getElem?_drop];rw[show off+1+m=off' by omega];exact hu'
      ·exact⟨u',by rw[World.cell?_of_block (w:=w) (hother b' hb)];exact hu',Zxs.refl _⟩
     have hpl': ∀k,X k->Zso (w.setRow b cc) k:=fun k hk=>by
      by_cases hb:k=b
      ·subst hb;exact⟨_,_,hhc⟩
      ·have hp:Zso w k:=by
        have:=h.glob;have hb':=(hX _).1 hk;subst hg;exact this.2 _ hb'
       obtain⟨c',e',hc'⟩:=hp;exact⟨c',e',by rw[hother k hb];exact hc'⟩
     have hsz: (w.setRow b cc).heap.size=w.heap.size:=by simp[World.setRow]
     have hout: ∀k,k<w.heap.size-> ¬X k->(w.setRow b cc).heap[k]? =w.heap[k]? :=fun k _ hk=>hother k fun e=>hk (by rw[e];exact k2);have hR:=h.soft hl (Qsf hg h hso hpl') (Qpi hg h rfl rfl rfl (by omega) hout) (by omega) hout hso;have hcells:=Qdr (Zjf h2) (Xv h2);have hrun: (execOp a.eval o).run P w= .ok .skip (w.setRow b cc):=by
      simp only[execOp,ho,k1,h1,Instr.storeAt,Instr.sureAddr,storeVar,hcells,Sem.run_bind,Sem.run_pure,Result.andThen_ok,(hτ _ _ hT).sizeOf w];have:=Xv h2;simp only[List.length_cons,List.length_nil]at this;simp[<-this,hst]
     unfold Oper.wp;rw[hrun];show K (a.put o.dst _) _;rw[hd];exact hK _ hR
   ·cases hr
  ·cases hr
end
end Go.Am
namespace Go.Am
open Go.RowKit
def ppB(P:Program)(e e2:TypeId):Bool:=
 match P.underlying e,P.info? e2,P.underlying e2 with
 |some (.slice e3),some i,some (.pointer e4)=>Nat.beq e3 e2&& (Nat.beq i.size 1&& (Nat.ble i.bytes 8192&& (match i.zero with|some (.pointer none)=>true|_=>false)))&& (match P.info? e4 with|some i=>Nat.blt 0 i.size|none=>false)
 |_,_,_=>false
def erB(P:Program)(e:TypeId):Bool:=match P.underlying e with|some (.interface _)=>true|_=>false
structure Zk6 where
 pp:List (TypeId×TypeId):=[]
 er:List TypeId:=[]
def Zk6.elem(t:Zk6)(e:TypeId):Option TypeId:=(t.pp.find? fun p=>Nat.beq p.1 e).map (·.2)
def Zk6.isPtr(t:Zk6)(e:TypeId):Bool:=t.pp.any fun p=>Nat.beq p.2 e
def Zk6.isErr(t:Zk6)(e:TypeId):Bool:=t.er.any (Nat.beq e)
structure Zk6.ok(t:Zk6)(P:Program):Prop where
 pp: ∀p∈t.pp,ppB P p.1 p.2=true
 er: ∀e∈t.er,erB P e=true
theorem Qdt{P:Program}{e e2:TypeId}(h:ppB P e e2=true):P.underlying e=some (.slice e2)/\(∃i,P.info? e2=some i/\i.size=1/\i.bytes<=8192/\i.zero=some (.pointer none))/\ ∃e4 i,P.underlying e2=some (.pointer e4)/\P.info? e4=some i/\0<i.size:=by
 unfold ppB at h;split at h
 ·rename_i e3 i e4 h1 h2 h3;simp only[Oba]at h;obtain⟨⟨g1,g2,g3,g4⟩,g5⟩:=h;have:=Onb g1;subst this;refine⟨h1,⟨i,h2,Onb g2,by simpa using g3,?_⟩,?_⟩
  ·split at g4
   ·assumption
   ·cases g4
  ·split at g5
   ·rename_i i4 h4;exact⟨e4,i4,h3,h4,by simp[Nat.blt]at g5;omega⟩
   ·cases g5
 ·cases h
theorem Zk6.elem_ok{t:Zk6}{P:Program}(h:t.ok P){e e2:TypeId}(he:t.elem e=some e2):ppB P e e2=true:=by
 unfold Zk6.elem at he;simp only[Option.map_eq_some_iff]at he;obtain⟨p,hp,rfl⟩:=he;have h1:=List.find?_some hp;have:=h.pp p (List.mem_of_find?_eq_some hp)
 rwa [Onb h1]at this
theorem Zk6.isPtr_ok{t:Zk6}{P:Program}(h:t.ok P){e:TypeId}(he:t.isPtr e=true): ∃e4 i,P.underlying e=some (.pointer e4)/\P.info? e4=some i/\0<i.size:=by
 unfold Zk6.isPtr at he;rw[List.any_eq_true]at he;obtain⟨p,hp,hb⟩:=he;have:=(Qdt (h.pp p hp)).2.2
 rwa [Onb hb]at this
theorem Zk6.isErr_ok{t:Zk6}{P:Program}(h:t.ok P){e:TypeId}(he:t.isErr e=true): ∃ms,P.underlying e=some (.interface ms):=by
 unfold Zk6.isErr at he;rw[List.any_eq_true]at he;obtain⟨p,hp,hb⟩:=he;have:=h.er p hp;rw[<-Onb hb]at this;unfold erB at this;split at this
 ·rename_i ms hm;exact⟨ms,hm⟩
 ·cases this
section
variable {P:Program} {g:Kr} {W0:Wz g} {w w':World} {X X':Nat->Prop} {B B' n:Nat} {own:Bool} {s:St} {F:Key->List Nat} {a:Act} {H H':List Nat} {o:Oper} {tg:Xi} {τ:Tab} {pt:Zk6} {gh:Nat->Value}
def Qv2(s:St)(tg:Xi):Nat->List (Nat×Operand)->Option (List (Nat×List Nat))
 |_,[]=>some []
 |k,(i,y)::r=>match Nat.beq i k,op1 s tg y with
  |true,.tm _ (.ptr q p)=>match Qv2 s tg (k+1) r with
   |some l=>some ((q,p)::l)
   |none=>none
  |_,_=>none
theorem Qiy(h:R n W0 w X F H s a)(ht:tg.ok W0.gh a): ∀{parts:List (Nat×Operand)} {k:Nat} {l:List (Nat×List Nat)} {cs:Array Value} {A M:List Value},
  Qv2 s tg k parts=some l->cs.toList=A++M->A.length=k->M.length=parts.length->
  ∃us cs',Instr.fill (fun i=>some (i*1,1)) cs (parts.map fun p=>(p.1,a.eval p.2))=some cs'/\cs'.toList=A++us/\us.length=l.length/\l.length=parts.length/\ ∀(j:Nat) (q:Nat×List Nat),l[j]? =some q-> ∃u,us[j]? =some u/\atP s F q.1 q.2 u
 | [],k,l,cs,A,M,hl,hcs,hA,hM=>by
  simp only[Qv2,Osi]at hl;subst hl;have:M=[]:=List.eq_nil_of_length_eq_zero hM;subst this;exact⟨[],cs,rfl,by simpa using hcs,rfl,rfl,by simp⟩
 | (i,y)::r,k,l,cs,A,M,hl,hcs,hA,hM=>by
  simp only[Qv2]at hl;split at hl
  ·rename_i k' q p hik hy;have hik:=Onb hik;subst hik;split at hl
   ·rename_i l2 hl2;simp only[Osi]at hl;subst hl;obtain⟨_,hv⟩:=Ke h ht hy (by simp);obtain⟨_,e,T,f,x,b,S',h1,h2,h3⟩:=hv;obtain⟨m0,M',rfl⟩: ∃m0 M',M=m0::M':=by
     cases M with
     |nil=>simp at hM
     |cons m0 M'=>exact⟨m0,M',rfl⟩
    have hc: (a.eval y).cells= #[a.eval y]:=by rw[h3];rfl
    obtain⟨cs1,g1,g2⟩:=Z4f (place:=fun i=>some (i*1,1)) (i:=i) (rest:=r.map fun p=>(p.1,a.eval p.2)) (v:=a.eval y) rfl (pre:=A) (mid:=[m0]) (post:=M') (by rw[hcs];simp) (by omega) rfl (by rw[hc];rfl);rw[hc]at g1;obtain⟨us,cs',k1,k2,k3,k4,k5⟩:=Qiy h ht (k:=i+1) (cs:=cs1) (A:=A++ [a.eval y]) (M:=M') hl2 (by rw[g1];simp) (by simp[hA]) (by simpa using hM);refine⟨a.eval y::us,cs',by rw[List.map_cons];rw[g2];exact k1,by rw[k2];simp,by simp[k3],by simp[k4],fun j q' hj=> ?_⟩;cases j with
    |zero=>
     simp only[List.getElem?_cons_zero,Osi]at hj;subst hj;exact⟨_,rfl,e,T,f,x,b,S',h1,h2,h3⟩
    |succ j=>exact k5 j q' (by simpa using hj)
   ·cases hl
  ·cases hl
def Qx3(pt:Zk6)(s:St)(tg:Xi)(e:TypeId)(len:Nat)(parts:Array (Nat×Operand)):Option Res:=
 match pt.elem e with
 |some _=>match Nat.beq parts.size len&& (Nat.blt 0 len&&Nat.ble len 16777216),Qv2 s tg 0 parts.toList with
  |true,some l=>some ⟨.pls true l,s,true,none⟩
  |_,_=>none
 |none=>none
theorem Qt4(hs:g.soft=false)(h:R n W0 w X F H s a)(ht:tg.ok W0.gh a)(hp:pt.ok P){e:TypeId}{len:Nat}{parts:Array (Nat×Operand)}(ho:o.op= .buildSlice e len parts){r:Res}(hr:Qx3 pt s tg e len parts=some r):Zo2 P n W0 w X H s a o r:=by
 unfold Qx3 at hr;split at hr
 ·rename_i e2 he;split at hr
  ·rename_i l hb hl;simp only[Osi]at hr;subst hr;simp only[Oba,Nat.ble_eq]at hb;obtain⟨hlen,hpos,hmax⟩:=hb;have hlen:=Onb hlen;have hpos:0<len:=by simp[Nat.blt]at hpos;omega
   obtain⟨hu,⟨i,hi,his,_,hz⟩,_⟩:=Qdt (Zk6.elem_ok hp he);intro _ K Q hK;obtain⟨cs0,hcs0⟩: ∃cs0:Array Value,cs0=(Array.range (len*i.size)).map ((Value.pointer none).cells[· % (Value.pointer none).cells.size]!):=⟨_,rfl⟩
   obtain⟨us,cs',k1,k2,k3,k4,k5⟩:=Qiy h ht (cs:=cs0) (A:=[]) (M:=cs0.toList) hl rfl rfl (by rw[hcs0];simp[his,hlen]);have hll:l.length=len:=by rw[k4,Array.length_toList,hlen]
   have hrun: (execOp a.eval o).run P w= .ok (.value (.slice (some ⟨w.heap.size,0,none⟩) len len)) (w.alloc (.cells cs' e2)):=by
    simp only[execOp,ho,Sem.run_bind];rw[run_buildSlice w e e2 len _ cs' i _ hu hi hz (by rw[his];omega) (by rw[his];omega) (by rw[<-hcs0];simpa[his]using k1)];simp
   unfold Oper.wp;rw[hrun];have hcs:cs'.toList=us:=by simpa using k2
   have hR:=R.give (S:=[w.heap.size]) (H:=H) hs (h.alloc (.cells cs' e2));refine hK _ _ F [] _ (fun b hb=> .inl hb) hR ⟨rfl,⟨w.heap.size,0,none⟩,us,.inr (by simp),fun j u hj=> ?_,k3,fun j q hq=>k5 j q hq,⟨by rw[hll],by rw[hll];unfold maxLen;omega⟩⟩ (fun hm=>by cases hm) ⟨fun _=>Old.alloc _ _,h.kept (Old.alloc _ _)⟩;rw[Zgl (c:=cs') (e:=e2) _ (Qcc _ _),<-Array.getElem?_toList,hcs,Nat.zero_add];exact hj
  ·cases hr
 ·cases hr
def Qxp(pt:Zk6)(s:St)(tg:Xi)(e:TypeId)(x:Operand):Option Res:=
 match pt.elem e,op1 s tg x with
 |some _,.tm _ (.pls true l)=>some ⟨.val (.int .i64) (.u false) (l.length:Int),s,false,none⟩
 |_,_=>none
theorem Qts(h:R n W0 w X F H s a)(ht:tg.ok W0.gh a)(hp:pt.ok P){e:TypeId}{x:Operand}(ho:o.op= .call {callee:= .builtin .len,args:= #[x],argTypes:= #[e]}){r:Res}(hr:Qxp pt s tg e x=some r):Zaw P τ W0 w X F s a o r:=by
 unfold Qxp at hr;split at hr
 ·rename_i e2 k l he hx;simp only[Osi]at hr;subst hr;obtain⟨_,hv⟩:=Ke h ht hx (by simp);obtain⟨_,ad,us,_,_,_,_,hv,_⟩:=hv;refine Yi rfl fun _=>⟨_,fun w' _=> ?_,Zwm _ _⟩
  simp only[execOp,ho];simp[resolve,invoke,builtin,hv,Builtin.len_,run_underlying (Qdt (Zk6.elem_ok hp he)).1,goInt]
 ·cases hr
def Qxi(pt:Zk6)(s:St)(tg:Xi)(e:TypeId)(x i:Operand):Option Res:=
 match pt.elem e,op1 s tg x,Zpw s (op1 s tg i)with
 |some _,.tm _ (.pls true l),some (_,j)=>match decide (0<=j),l.drop j.toNat with
  |true,q::r=>some ⟨.pls false (q::r),s,false,none⟩
  |_,_=>none
 |_,_,_=>none
theorem Qtk(h:R n W0 w X F H s a)(ht:tg.ok W0.gh a)(hp:pt.ok P){e:TypeId}{x i:Operand}(ho:o.op= .indexAddr e x i){r:Res}(hr:Qxi pt s tg e x i=some r):Zaw P τ W0 w X F s a o r:=by
 unfold Qxi at hr;split at hr
 ·rename_i e2 k l k2 j he hx hj;split at hr
  ·rename_i q l2 h0 hl;simp only[Osi]at hr;subst hr;have h0:0<=j:=Ode h0;have e3:=Zds h ht hj;obtain⟨_,hv⟩:=Ke h ht hx (by simp);obtain⟨_,ad,us,h1,h2,h3,h4,hv,hm⟩:=hv;obtain⟨hu,⟨i',hi,his,hby,_⟩,_⟩:=Qdt (Zk6.elem_ok hp he);have hlt:j.toNat<l.length:=by
    apply Nat.lt_of_not_le;intro hle;rw[List.drop_eq_nil_of_le hle]at hl;cases hl
   have hsz: ∀w,(sizeOf e2).run P w= .ok 1 w:=fun w=>by simp[sizeOf,typeInfo,hi,his]
   refine Yi rfl fun _=>⟨.pointer (some (ad.add j.toNat)),fun w' _=> ?_,rfl,ad.add j.toNat,us.drop j.toNat,?_,fun m u hm=> ?_,by rw[List.length_drop,h3,<-hl,List.length_drop],fun m q' hq=> ?_,rfl⟩
   ·have hrun: (Instr.indexAt e (.slice (some ad) l.length l.length) (.int k2 j)).run P w'= .ok (.pointer (some (ad.add j.toNat))) w':=by
     simp only[Instr.indexAt,Sem.run_bind,asIntOf,Sem.run_pure,Result.andThen_ok,run_underlying hu];have:j<l.length:=by omega
     simp[h0,this,hsz w']
    simp only[execOp,ho,hv,e3,Sem.run_bind,hrun,Result.andThen_ok,Sem.run_pure]
   ·have: (ad.add j.toNat).block=ad.block:=by unfold Addr.add;split<;>rfl
    rw[this];exact h1
   ·rw[Addr.add_add'];apply h2;rw[<-hm,List.getElem?_drop]
   ·rw[<-hl,List.getElem?_drop]at hq;obtain⟨u,hu',ha⟩:=h4 _ _ hq;exact⟨u,by rw[List.getElem?_drop];exact hu',ha⟩
  ·cases hr
 ·cases hr
def Qtu(pt:Zk6)(s:St)(tg:Xi)(e:TypeId)(x:Operand):Option Res:=
 match pt.isPtr e,op1 s tg x with
 |true,.tm _ (.pls false (q::_))=>some ⟨.ptr q.1 q.2,s,false,none⟩
 |_,_=>none
theorem Qqu(h:R n W0 w X F H s a)(ht:tg.ok W0.gh a)(hp:pt.ok P){e:TypeId}{x:Operand}(ho:o.op= .load e x){r:Res}(hr:Qtu pt s tg e x=some r):Zaw P τ W0 w X F s a o r:=by
 unfold Qtu at hr;split at hr
 ·rename_i k q l he hx;simp only[Osi]at hr;subst hr;obtain⟨rfl,hv⟩:=Ke h ht hx (by simp);obtain⟨_,ad,us,h1,h2,h3,h4,hv⟩:=hv;obtain⟨u,hu,hat⟩:=h4 0 q rfl;obtain⟨e4,i4,hu4,hi4,_⟩:=Zk6.isPtr_ok hp he;have hc:w.cell? ad=some u:=by have:=h2 0 u hu;rwa [show ad.add 0=ad by unfold Addr.add;split<;>simp_all]at this
  refine Yi rfl fun _=>⟨u,fun w' hd=> ?_,rfl,hat⟩
  have hc':w'.cell? ad=some u:=by
   have hd:=hd (by rw[ho];rfl);rw[ho,Zk8 hx (by simp)]at hd;have hd: ∀b,b<w.heap.size->X b->w'.heap[b]? =w.heap[b]? :=hd;rw[World.cell?_of_block (w:=w) (hd _ (h.xlt _ h1) h1)];exact hc
  have hagg: (isAgg e).run P w'= .ok false w':=by simp[isAgg,run_underlying hu4]
  simp only[execOp,ho,hv,Sem.run_bind,Instr.loadAt,Instr.sureAddr,Sem.run_pure,Result.andThen_ok,loadVar,hagg];simp[run_load,hc']
 ·cases hr
def Qo0(pt:Zk6)(s:St)(tg:Xi)(op:BinOp)(e:TypeId)(x y:Operand):Option Res:=
 match pt.isPtr e,op1 s tg x,op1 s tg y with
 |true,.tm _ (.ptr q p),.tm _ (.ptr q2 p2)=>match Nat.beq q q2,s.get (.m q)with
  |true,.box _ T _ _=>match op with
   | .eql=>some ⟨.val .bool (.u false) (Nat.beq (J3 T p) (J3 T p2)),s,false,none⟩
   | .neq=>some ⟨.val .bool (.u false) (!(Nat.beq (J3 T p) (J3 T p2))),s,false,none⟩
   |_=>none
  |_,_=>none
 |_,_,_=>none
theorem Qo1(h:R n W0 w X F H s a)(ht:tg.ok W0.gh a)(hp:pt.ok P){op:BinOp}{e e2:TypeId}{x y:Operand}(ho:o.op= .binOp op e x y e2){r:Res}(hr:Qo0 pt s tg op e x y=some r):Zaw P τ W0 w X F s a o r:=by
 unfold Qo0 at hr;split at hr
 ·rename_i k q p k2 q2 p2 he hx hy;split at hr
  ·rename_i e' T f z hq hg;have:=Onb hq;subst this;obtain⟨_,hv⟩:=Ke h ht hx (by simp);obtain⟨_,e1,T1,f1,x1,b1,S1,g1,g2,g3⟩:=hv;obtain⟨_,hv2⟩:=Ke h ht hy (by simp);obtain⟨_,e2',T2,f2,x2,b2,S2,l1,l2,l3⟩:=hv2;rw[hg]at g1 l1;cases g1;cases l1;rw[g2]at l2;obtain⟨rfl,rfl⟩:=List.cons.inj l2;obtain⟨e4,i4,hu4,hi4,hpos⟩:=Zk6.isPtr_ok hp he;have hcmp: ∀w,(Op.equal e (.pointer (some ⟨b1,J3 T p,none⟩)) (.pointer (some ⟨b1,J3 T p2,none⟩))).run P w= .ok (Nat.beq (J3 T p) (J3 T p2)) w:=fun w=>by
    have h0:i4.size≠0:=by omega
    have hb: ((⟨b1,J3 T p,none⟩:Addr)==⟨b1,J3 T p2,none⟩)=Nat.beq (J3 T p) (J3 T p2):=by
     rw[Bool.eq_iff_iff];simp[Nat.beq_eq]
    obtain⟨d,hd⟩: ∃d,Op.maxDepth=d+1:=⟨9999,rfl⟩
    unfold Op.equal;rw[hd];simp only[Op.equalIn,Sem.run_bind,run_underlying hu4,Result.andThen_ok];simp[sizeOf,typeInfo,hi4,h0,sameAddr,hb]
   split at hr
   ·simp only[Osi]at hr;subst hr;refine Yi rfl fun _=>⟨_,fun w' _=> ?_,Zrf _⟩
    simp only[execOp,ho,g3,l3];simp[eqGuard,Go.binOp,hcmp w']
   ·simp only[Osi]at hr;subst hr;refine Yi rfl fun _=>⟨_,fun w' _=> ?_,Zrf _⟩
    simp only[execOp,ho,g3,l3];simp[eqGuard,Go.binOp,hcmp w']
   ·cases hr
  ·cases hr
 ·cases hr
def Qw8(pt:Zk6)(s:St)(tg:Xi)(op:BinOp)(e:TypeId)(x y:Operand):Option Res:=
 match pt.isErr e,Zaa s (op1 s tg x) .err,y with
 |true,some z,.const .nilIface=>match op with
  | .eql=>some ⟨.val .bool (.u false) z,s,false,none⟩
  | .neq=>some ⟨.val .bool (.u false) (!z),s,false,none⟩
  |_=>none
 |_,_,_=>none
theorem Qs8(h:R n W0 w X F H s a)(ht:tg.ok W0.gh a)(hp:pt.ok P){op:BinOp}{e e2:TypeId}{x y:Operand}(ho:o.op= .binOp op e x y e2){r:Res}(hr:Qw8 pt s tg op e x y=some r):Zaw P τ W0 w X F s a o r:=by
 unfold Qw8 at hr;split at hr
 ·rename_i z he hl;obtain⟨ms,hu⟩:=Zk6.isErr_ok hp he;have hx: ∃v,a.eval x=v/\((z=true/\v= .nilIface)\/(z=false/\ ∃t u,v= .iface t u)):=by
   obtain⟨vs,h1,h2⟩:=Wl h ht hl;obtain⟨⟨v,rfl,_,h3⟩,_⟩: (∃v,vs=[v]/\v.oneCell'=true/\((z=true/\v= .nilIface)\/(z=false/\ ∃t u,v= .iface t u)))/\_:=h2;exact⟨v,h1,h3⟩
  obtain⟨v,hv,hk⟩:=hx;have hrun: ∀w,(Op.equal e v .nilIface).run P w= .ok z w:=fun w=>by
   obtain⟨d,hd⟩: ∃d,Op.maxDepth=d+1:=⟨9999,rfl⟩
   unfold Op.equal;rw[hd];rcases hk with⟨rfl,rfl⟩| ⟨rfl,t,u,rfl⟩
   ·simp only[Op.equalIn,Sem.run_bind,run_underlying hu,Result.andThen_ok];simp
   ·simp only[Op.equalIn,Sem.run_bind,run_underlying hu,Result.andThen_ok];simp
  have hgd: ∀op w,(eqGuard op e x (.const .nilIface) v .nilIface).run P w= .ok () w:=fun op w=>by
   unfold eqGuard;rcases hk with⟨rfl,rfl⟩| ⟨rfl,t,u,rfl⟩<;>cases op<;>simp
  split at hr
  ·simp only[Osi]at hr;subst hr;refine Yi rfl fun _=>⟨.bool z,fun w' _=> ?_,Zrf _⟩
   have hb: (Go.binOp .eql e v .nilIface).run P w'= .ok (.bool z) w':=by
    rcases hk with⟨rfl,rfl⟩| ⟨rfl,t,u,rfl⟩<;>simp[Go.binOp,hrun w']
   have he0:a.eval (.const .nilIface)= .nilIface:=rfl;simp only[execOp,ho,hv,he0,Sem.run_bind,hgd,Result.andThen_ok,hb,Sem.run_pure]
  ·simp only[Osi]at hr;subst hr;refine Yi rfl fun _=>⟨.bool (!z),fun w' _=> ?_,Zrf _⟩
   have hb: (Go.binOp .neq e v .nilIface).run P w'= .ok (.bool (!z)) w':=by
    rcases hk with⟨rfl,rfl⟩| ⟨rfl,t,u,rfl⟩<;>simp[Go.binOp,hrun w']
   have he0:a.eval (.const .nilIface)= .nilIface:=rfl;simp only[execOp,ho,hv,he0,Sem.run_bind,hgd,Result.andThen_ok,hb,Sem.run_pure]
  ·cases hr
 ·cases hr
end
end Go.Am
namespace Go.Am
theorem Zk6.ok_none{P:Program}: ({}:Zk6).ok P:=⟨by simp,by simp⟩
end Go.Am
namespace Go.Am
open Go.RowKit
abbrev Fl.e:Fl:= .p (.u true) (.u false)
section
variable {P:Program} {g:Kr} {W0:Wz g} {w w':World} {X X':Nat->Prop} {B n:Nat} {own:Bool} {s:St} {F:Key->List Nat} {a:Act} {H H':List Nat} {o:Oper} {tg:Xi} {τ:Tab} {gh:Nat->Value}
def Qua(s:St)(o:Op1)(T:Ty):Option T.den:=Z9t s o T
theorem Qq2(h:R n W0 w X F H s a)(ht:tg.ok W0.gh a){x:Operand}{T:Ty}{y:T.den}(hr:Qua s (op1 s tg x) T=some y):
  ∃vs,a.eval x=Xt T vs/\rd w X W0.B false T y vs []:=by
 unfold Qua Z9t at hr;split at hr
 ·rename_i v hv;obtain rfl:=Zvu hv;obtain⟨vs,h1,h2⟩:=Zt6 (w:=w) (X:=X) (B:=W0.B) (own:=false) hr;exact⟨vs,h1,h2⟩
 ·split at hr
  ·rename_i U f y' hl;obtain⟨hf,vs,S,h1,h2,h3⟩:=Zee h ht hl;split at hr
   ·rename_i hn;cases Zbn hr;have e:=Zh5 hn h2;subst e;exact⟨vs,h1,J6 (Ko (fun _ h=>h) hf h2 (by simp)) (by simp)⟩
   ·cases hr
  ·cases hr
def Qur(s:St)(tg:Xi)(t:Ty):Nat->List (Nat×Operand)->Option (List t.den)
 |_,[]=>some []
 |k,(i,y)::r=>match Nat.beq i k,Qua s (op1 s tg y) t,Qur s tg t (k+1) r with
  |true,some z,some l=>some (z::l)
  |_,_,_=>none
theorem Qid(h:R n W0 w X F H s a)(ht:tg.ok W0.gh a){t:Ty}: ∀{parts:List (Nat×Operand)} {k:Nat} {l:List t.den} {cs:Array Value} {A M C:List Value},
  cs.toList=A++ (M++C)->A.length=k*t.size->M.length=parts.length*t.size->Qur s tg t k parts=some l->
  ∃vs cs',Instr.fill (fun i=>some (i*t.size,t.size)) cs (parts.map fun p=>(p.1,a.eval p.2))=some cs'/\cs'.toList=A++ (vs++C)/\Ww (rd w X W0.B false t) l vs []/\l.length=parts.length
 | [],k,l,cs,A,M,C,hcs,hA,hM,hb=>by
  simp only[Qur,Osi]at hb;subst hb;have:M=[]:=List.eq_nil_of_length_eq_zero (by simpa using hM);subst this;exact⟨[],cs,rfl,hcs,⟨rfl,rfl⟩,rfl⟩
 | (i,y)::r,k,l,cs,A,M,C,hcs,hA,hM,hb=>by
  simp only[Qur]at hb;split at hb
  ·rename_i z l2 hik hz hb2;have hik:=Onb hik;subst hik;simp only[Osi]at hb;subst hb;obtain⟨vs,h1,h2⟩:=Qq2 h ht hz;have hcells:=Zza (Zjf h2) (Xv h2);have hcsz: (a.eval y).cells.size=t.size:=by rw[h1,<-Array.length_toList,hcells,Xv h2]
   have hM':M.length=t.size+r.length*t.size:=by rw[hM,List.length_cons,Nat.add_mul];omega
   obtain⟨cs1,g1,g2⟩:=Z4f (place:=fun i=>some (i*t.size,t.size)) (i:=i) (rest:=r.map fun p=>(p.1,a.eval p.2)) (v:=a.eval y) rfl (pre:=A) (mid:=M.take t.size) (post:=M.drop t.size++C)
    (by rw[hcs,<-List.append_assoc (M.take _),List.take_append_drop]) hA (by simp;omega) hcsz
   rw[h1,hcells]at g1;obtain⟨vs2,cs',k1,k2,k3,k4⟩:=Qid h ht (k:=i+1) (cs:=cs1) (A:=A++vs) (M:=M.drop t.size) (C:=C) (by rw[g1];simp) (by simp[hA,Xv h2,Nat.add_mul]) (by simp[hM']) hb2;exact⟨vs++vs2,cs',by simpa[g2]using k1,by rw[k2];simp,⟨vs,vs2,[],[],rfl,rfl,h2,k3⟩,by simp[k4]⟩
  ·cases hb
def Z1r(τ:Tab)(s:St)(tg:Xi)(e:TypeId)(len:Nat)(parts:Array (Nat×Operand)):Option Res:=
 match τ e with
 |some (.slice e' t)=>match τ e' with
  |some t2=>match decide (t2=t),Nat.beq parts.size len&&Nat.ble (len*t.size) 16777216 with
   |true,true=>match Qur s tg t 0 parts.toList with
    |some l=>some ⟨.val (.slice e' t) .e l,s,false,none⟩
    |none=>none
   |_,_=>none
  |none=>none
 |_=>none
theorem Qar(h:R n W0 w X F H s a)(ht:tg.ok W0.gh a)(hτ:τ.ok P){e:TypeId}{len:Nat}{parts:Array (Nat×Operand)}(ho:o.op= .buildSlice e len parts){r:Res}(hr:Z1r τ s tg e len parts=some r):Zo2 P n W0 w X H s a o r:=by
 unfold Z1r at hr;split at hr
 ·rename_i e' t hT;split at hr
  ·rename_i t2 hT2;split at hr
   ·rename_i hd hbq;split at hr
    ·rename_i l hb;simp only[Osi]at hr;subst hr;have:=Ode hd;subst this;simp only[Oba,Nat.ble_eq]at hbq;have hlen:=Onb hbq.1;obtain⟨hu,hpos⟩:=(hτ _ _ hT).slice;obtain⟨i,hi,his,_,hz⟩:=(hτ _ _ hT2).size;intro _ K Q hK;obtain⟨cs0,hcs0⟩: ∃cs0:Array Value,cs0=(Array.range (len*i.size)).map ((Xt t2 (Jy t2)).cells[· % (Xt t2 (Jy t2)).cells.size]!):=⟨_,rfl⟩
     have hcsz:cs0.toList.length=len*t2.size:=by rw[hcs0];simp[his]
     obtain⟨vs,cs',k1,k2,k3,k4⟩:=Qid h ht (k:=0) (cs:=cs0) (A:=[]) (M:=cs0.toList) (C:=[]) (by simp) (by simp) (by rw[hcsz,Array.length_toList,hlen]) hb;have hll:l.length=len:=by rw[k4,Array.length_toList,hlen]
     have hrun: (execOp a.eval o).run P w= .ok (.value (.slice (some ⟨w.heap.size,0,none⟩) len len)) (w.alloc (.cells cs' e')):=by
      simp only[execOp,ho,Sem.run_bind];by_cases hz0:len*i.size=0
      ·have hl0:len=0:=by
        rcases Nat.mul_eq_zero.1 hz0 with h|h
        ·exact h
        ·omega
       subst hl0;have hp0:parts= #[]:=Array.eq_empty_of_size_eq_zero hlen;subst hp0;simp only[List.map_nil,Instr.fill,Osi]at k1;subst k1;simp[Instr.buildSlice,run_underlying hu,Go.sizeOf,typeInfo,hi,newRow,Instr.fill,hcs0,Array.range_zero']
      ·rw[run_buildSlice w e e' len _ cs' i _ hu hi hz (by have:=hbq.2;rw[his];omega) hz0 (by rw[<-hcs0];simpa[his]using k1)];simp
     unfold Oper.wp;rw[hrun];have hcs:cs'.toList=vs:=by simpa using k2
     refine hK _ X F [w.heap.size] _ (fun _ h=>h) (h.alloc _) ⟨[_],rfl,?_⟩ (fun _=>rfl) ⟨fun _=>Old.alloc _ _,h.kept (Old.alloc _ _)⟩;have hvl:vs.length=len*t2.size:=by rw[Zpy (fun _ _ _ h=>Xv h) k3,hll]
     refine⟨_,vs,rfl,⟨⟨by rw[hvl,hll],.inr ⟨w.heap.size,len,cs',by rw[hll],h.below.sizeB,Qcc _ _,by rw[hll];exact Nat.le_refl _,?_,?_,?_⟩⟩,rfl⟩,?_⟩
     ·have:=hbq.2;have h2:len<=len*t2.size:=Nat.le_mul_of_pos_right _ hpos;simp only[maxLen];omega
     ·rw[<-Array.length_toList,hcs,hvl]
     ·rw[hcs,hll,<-hvl,List.take_length]
     ·exact Kf k3 fun x v T _ hT hr=>Zcp (fun _ h=>h) (fun b hb=>hold w _ b (h.xlt b hb)) hr fun b hb=>absurd (hT b hb) (by simp)
    ·cases hr
   ·cases hr
  ·cases hr
 ·cases hr
def Qlq(s:St)(x:Op1):Option ((_:TypeId)×(t:Ty)×List t.den):=
 match Zrt s x with
 |some ⟨.slice e t,.u false,l⟩=>some ⟨e,t,l⟩
 |some ⟨.slice e t,.p (.u true) (.u false),l⟩=>some ⟨e,t,l⟩
 |_=>none
theorem Z7a(h:R n W0 w X F H s a)(ht:tg.ok W0.gh a){x:Operand}{e:TypeId}{t:Ty}{l:List t.den}(hr:Qlq s (op1 s tg x)=some ⟨e,t,l⟩):
  ∃v ys,a.eval x=v/\Ww (rd w X W0.B false t) l ys []/\ ∃ad cap,v= .slice ad l.length cap/\l.length<=cap/\((ad=none/\l.length=0/\cap=0)\/ ∃a0,ad=some a0/\ ∀j u,ys[j]? =some u->w.cell? (a0.add j)=some u):=by
 unfold Qlq at hr;have fin: ∀{own:Bool} {e:TypeId} {l:List t.den} {v:Value} {xs:List Value} {S:List Nat},hdr w X W0.B own e t.size l.length v xs S-> ∃ad cap,v= .slice ad l.length cap/\l.length<=cap/\((ad=none/\l.length=0/\cap=0)\/ ∃a0,ad=some a0/\ ∀j u,xs[j]? =some u->w.cell? (a0.add j)=some u):=by
  intro own e l v xs S hh;obtain⟨ad,cap,z1,z2,_,z3⟩:=Zck hh;exact⟨ad,cap,z1,z2,z3.imp id fun⟨a0,u1,_,u2⟩=>⟨a0,u1,u2⟩⟩
 split at hr
 ·rename_i e' t' l' hl;simp only[Osi,Sigma.mk.injEq]at hr;obtain⟨rfl,hr⟩:=hr;simp only[heq_eq_eq,Sigma.mk.injEq]at hr;obtain⟨rfl,hr⟩:=hr;cases hr;obtain⟨_,vs,S,h1,h2,h3⟩:=Zee h ht hl;unfold rdF at h2;have hS:=Zfg h2;subst hS;obtain⟨v,xs,S1,S2,rfl,e2,k1,k2⟩:=h2;obtain⟨rfl,rfl⟩:=List.append_eq_nil_iff.1 e2.symm;exact⟨v,xs,h1,k2,fin k1⟩
 ·rename_i e' t' l' hl;simp only[Osi,Sigma.mk.injEq]at hr;obtain⟨rfl,hr⟩:=hr;simp only[heq_eq_eq,Sigma.mk.injEq]at hr;obtain⟨rfl,hr⟩:=hr;cases hr;obtain⟨_,vs,S,h1,h2,h3⟩:=Zee h ht hl;obtain⟨v,xs,rfl,k1,k2⟩:=h2;exact⟨v,xs,h1,k2,fin k1⟩
 ·cases hr
def Qsn(τ:Tab)(s:St)(tg:Xi)(e:TypeId)(x y:Operand):Option Res:=
 match τ e with
 |some (.slice e' t)=>match τ e' with
  |some t2=>match decide (t2=t),Zr1 s (op1 s tg x) (.slice e' t)with
   |true,some ⟨.slice e1 t1,.p (.u true) (.u false),l,s1,_⟩=>match decide (e1=e'/\t1=t)with
    |true=>match Qlq s1 (op1 s1 tg y)with
     |some ⟨_,t3,l3⟩=>match Km (.slice e' t1) (.slice e' t3) l3 with
      |some l4=>some ⟨.val (.slice e' t1) .e (l++l4),s1,true,some (l.length+l4.length<=Qo)⟩
      |none=>none
     |none=>none
    |false=>none
   |_,_=>none
  |none=>none
 |_=>none
theorem Z6q{S1:List Nat}(h:R n W0 w X F (S1++H) s a){e':TypeId}{t:Ty}{v v':Value}{xs ys:List Value}{l l4:List t.den}
  (h1:hdr w X W0.B true e' t.size l.length v xs S1) (h2:Ww (rd w X W0.B false t) l xs []) (h4:Ww (rd w X W0.B false t) l4 ys [])
  (g2:w'.ownsRow W0.B e' t.size v' (l.length+l4.length) (xs++ys)) (g3:w.grownBy w' v.ownBlock) (g4:v'.ownBlock=v.ownBlock\/ ∀b,v'.ownBlock=some b->w.heap.size<=b):
  ∃S,R n W0 w' X F (S++H) s a/\rdF w' X W0.B (.slice e' t) .e (l++l4) [v'] S/\(∀b,X b->w'.heap[b]? =w.heap[b]?)/\ ∀k b,b∈F k->w'.heap[b]? =w.heap[b]? :=by
 have hS1:S1=v.ownBlock.toList:=h1.2;have same: ∀b,b<w.heap.size->b∉S1->w'.heap[b]? =w.heap[b]? :=fun b hb hn=>g3.block b hb (fun e=>hn (by rw[hS1,<-e];simp));have hnd:=h.hnodup;have hX: ∀b,X b->w'.heap[b]? =w.heap[b]? :=fun b hb=>same b (h.xlt b hb) fun hm=>(h.hown b (by simp[hm])).2.2 hb;have hF: ∀k b,b∈F k->w'.heap[b]? =w.heap[b]? :=fun k b hb=>same b (h.own k b hb).2.1 fun hm=>h.hdisj k b hb (by simp[hm]);have hn24: ∀b,b∈H->b∉S1:=fun b hb hm=>(List.nodup_append.1 hnd).2.2 b hm b hb rfl;have hbl:W0.below w':=⟨g3.os.trans h.below.os,g3.tape.trans h.below.tape,g3.output.trans h.below.output,Nat.le_trans h.below.size g3.size,fun k hk=>
  (same k (Nat.lt_of_lt_of_le (W0.yW k hk) h.below.size) fun hm=>W0.sep hk (h.hown k (by simp[hm])).1 rfl).trans (h.below.block k hk)⟩
 have hR:=(h.drop).world hbl g3.size hX hF;have hlt:=g2.lt;have hR2:R n W0 w' X F (v'.ownBlock.toList++H) s a:=by
  rcases g4 with g4|g4
  ·rw[g4,<-hS1];refine hR.hand (fun b hb=> ?_) (List.nodup_append.1 hnd).1 (fun k b hb hm=>h.hdisj k b hb (by simp[hm])) (fun b hb hm=>hn24 b hm hb);obtain⟨q1,q2,q3⟩:=h.hown b (by simp[hb]);exact⟨q1,Nat.lt_of_lt_of_le q2 g3.size,q3⟩
  ·refine hR.hand (fun b hb=> ?_) (by cases v'.ownBlock<;>simp) (fun k b hb hm=> ?_) (fun b hb hm=> ?_)
   ·have hb:v'.ownBlock=some b:=by simpa using hb
    exact⟨.inl (Nat.le_trans h.below.size (g4 b hb)),(hlt b hb).2,fun hx=>by have:=h.xlt b hx;have:=g4 b hb;omega⟩
   ·have hm:v'.ownBlock=some b:=by simpa using hm
    have:=(h.own k b hb).2.1;have:=g4 b hm;omega
   ·have hb:v'.ownBlock=some b:=by simpa using hb
    have:=(h.hown b (by simp[hm])).2.1;have:=g4 b hb;omega
 have mono: ∀{l:List t.den} {xs:List Value},Ww (rd w X W0.B false t) l xs []->Ww (rd w' X W0.B false t) l xs []:=fun hr=>
  Kf hr fun x v T _ hT hrd=>Zcp (fun _ h=>h) hX hrd fun b hb=>absurd (hT b hb) (by simp)
 refine⟨v'.ownBlock.toList,hR2,⟨v',xs++ys,rfl,⟨by simpa using g2,rfl⟩,?_⟩,hX,hF⟩;exact Zlm (S:=[]) (S':=[]) (mono h2) (mono h4)
theorem Qpw(h:R n W0 w X F H s a)(ht:tg.ok W0.gh a)(hτ:τ.ok P){e:TypeId}{x y:Operand}(ho:o.op= .call {callee:= .builtin .append,args:= #[x,y],argTypes:= #[e,e]}){r:Res}(hr:Qsn τ s tg e x y=some r):Zo2 P n W0 w X H s a o r:=by
 unfold Qsn at hr;split at hr
 ·rename_i e' t hT;split at hr
  ·rename_i t2 hT2;split at hr
   ·rename_i e1 t1 l s1 m1 hd hx;have:=Ode hd;subst this;obtain⟨_,F1,S,vs,q1,q2,q3,_,_⟩:=Zav h ht hx;split at hr
    ·rename_i hd2;obtain⟨rfl,rfl⟩:=Ode hd2;simp only at q1 q2 q3;obtain⟨v,xs,rfl,k1,k2⟩:=q2;split at hr
     ·rename_i e3 t3 l3 hy;split at hr
      ·rename_i l4 hl4;simp only[Osi]at hr;have:=Zbn hl4;cases this;subst hr;obtain⟨vy,ys,g1,g5,hc⟩:=Z7a q3 ht hy;intro hp K Q hK;obtain⟨v',w',u1,u2,u3,u4⟩:=Zx9 (P:=P) (hτ _ _ hT) (hτ _ _ hT2) k1.1 hc (Zpy (fun _ _ _ h=>Xv h) g5) (Zuu (fun _ _ _ h=>Zjf h) g5) hp h.below.sizeB;obtain⟨S',z1,z2,z3,z4⟩:=Z6q q3 k1 k2 g5 u2 u3 u4;have hx0:a.eval x=v:=q1;have hrun: (execOp a.eval o).run P w= .ok (.value v') w':=by
        simp only[execOp,ho];have g1': (Builtin.append_ #[e,e] o.type #[v,vy]).run P w= .ok v' w':=u1;simp[resolve,invoke,builtin,hx0,g1,g1']
       have kept:Qi7 W0.gh X s a none w w':=by
        intro b hb;rcases hb with hb| ⟨r,h1,_,h2⟩
        ·exact z3 b hb
        ·obtain⟨S,h3⟩:=q3.boxIn (Zoz hx h1) h2;exact z4 (.m r) b (by rw[h3];simp)
       unfold Oper.wp;rw[hrun];exact hK _ X F1 S' w' (fun _ h=>h) z1 ⟨[v'],rfl,z2⟩ (by simp) ⟨fun hp=>(by rw[ho]at hp;cases hp),kept⟩
      ·cases hr
     ·cases hr
    ·cases hr
   ·cases hr
  ·cases hr
 ·cases hr
def Qal(sf:Bool)(τ:Tab)(s:St)(tg:Xi)(e:TypeId)(x y:Operand):Option Res:=
 match τ e,sf with
 |some (.slice e' t),false=>match τ e' with
  |some t2=>match decide (t2=t),Zr1 s (op1 s tg x) (.slice e' t)with
   |true,some ⟨.slice e1 t1,.u true,l,s1,_⟩=>match decide (e1=e'/\t1=t)with
    |true=>match Qlq s1 (op1 s1 tg y)with
     |some ⟨_,t3,l3⟩=>match Km (.slice e' t1) (.slice e' t3) l3 with
      |some l4=>some ⟨.val (.slice e' t1) .e (l++l4),s1,true,some (l.length+l4.length<=Qo)⟩
      |none=>none
     |none=>none
    |false=>none
   |_,_=>none
  |none=>none
 |_,_=>none
theorem Ql1(hs0:g.soft=false)(h:R n W0 w X F H s a)(ht:tg.ok W0.gh a)(hτ:τ.ok P){e:TypeId}{x y:Operand}(ho:o.op= .call {callee:= .builtin .append,args:= #[x,y],argTypes:= #[e,e]}){sf:Bool}{r:Res}(hr:Qal sf τ s tg e x y=some r):Zo2 P n W0 w X H s a o r:=by
 unfold Qal at hr;split at hr
 ·rename_i e' t hT;split at hr
  ·rename_i t2 hT2;split at hr
   ·rename_i e1 t1 l s1 m1 hd hx;have:=Ode hd;subst this;obtain⟨_,F1,S,vs,q1,q2,q3,_,_⟩:=Zav h ht hx;split at hr
    ·rename_i hd2;obtain⟨rfl,rfl⟩:=Ode hd2;simp only at q1 q2 q3;unfold rdF at q2;obtain⟨v,xs,S1,S2,rfl,rfl,k1,k2⟩:=q2;split at hr
     ·rename_i e3 t3 l3 hy;split at hr
      ·rename_i l4 hl4;simp only[Osi]at hr;have:=Zbn hl4;cases this;subst hr;have hnd:=q3.hnodup;have q4:R n W0 w X F1 (S1++H) s1 a:=q3.sub (fun b hb=>by simp only[List.mem_append]at hb⊢;grind) (by
        simp only[List.nodup_append,List.mem_append]at hnd⊢
        grind)
       have q5:R n W0 w (fun b=>X b\/b∈S2) F1 (S1++H) s1 a:=by
        refine R.xup hs0 q4 (fun _ h=> .inl h) (fun b hb=>hb.elim (q4.xlt b) fun hb=>(q3.hown b (by simp[hb])).2.1) (fun b hb=>hb.elim (q4.xin b) fun hb=> .inr (q3.hown b (by simp[hb])).1) (fun k b hb hx=> ?_) (fun b hb hx=> ?_)
        ·rcases hx with hx|hx
         ·exact(q4.own k b hb).2.2 hx
         ·exact q3.hdisj k b hb (by simp[hx])
        ·rcases hx with hx|hx
         ·exact(q4.hown b hb).2.2 hx
         ·simp only[List.nodup_append,List.mem_append]at hnd;simp only[List.mem_append]at hb;rcases hb with hb|hb
          ·exact hnd.1.2.2 b hb b hx rfl
          ·exact hnd.2.2 b (.inr hx) b hb rfl
       have k1':hdr w (fun b=>X b\/b∈S2) W0.B true e1 t1.size l.length v xs S1:=Qcb k1 (fun _ h=> .inl h) (fun _ _=>rfl) (fun _ _=>rfl);have k2':Ww (rd w (fun b=>X b\/b∈S2) W0.B false t1) l xs []:=Zot k2 fun _ _ _ _ hT h=>Zff (fun _ h=> .inl h) h fun b hb=> .inr (hT b hb);obtain⟨vy,ys,g1,g5,hc⟩:=Z7a q5 ht hy;intro hp K Q hK;obtain⟨v',w',u1,u2,u3,u4⟩:=Zx9 (P:=P) (hτ _ _ hT) (hτ _ _ hT2) k1'.1 hc (Zpy (fun _ _ _ h=>Xv h) g5) (Zuu (fun _ _ _ h=>Zjf h) g5) hp h.below.sizeB;obtain⟨S',z1,z2,z3,z4⟩:=Z6q q5 k1' k2' g5 u2 u3 u4;have hx0:a.eval x=v:=q1;have hrun: (execOp a.eval o).run P w= .ok (.value v') w':=by
        simp only[execOp,ho];have g1': (Builtin.append_ #[e,e] o.type #[v,vy]).run P w= .ok v' w':=u1;simp[resolve,invoke,builtin,hx0,g1,g1']
       have kept:Qi7 W0.gh X s a none w w':=by
        intro b hb;rcases hb with hb| ⟨r,h1,_,h2⟩
        ·exact z3 b (.inl hb)
        ·obtain⟨S,h3⟩:=q5.boxIn (Zoz hx h1) h2;exact z4 (.m r) b (by rw[h3];simp)
       unfold Oper.wp;rw[hrun];exact hK _ _ F1 S' w' (fun _ h=> .inl h) z1 ⟨[v'],rfl,z2⟩ (by simp) ⟨fun hp=>(by rw[ho]at hp;cases hp),kept⟩
      ·cases hr
     ·cases hr
    ·cases hr
   ·cases hr
  ·cases hr
 ·cases hr
theorem R.frzE(hs0:g.soft=false)(h:R n W0 w X F H s a){k:Nat}{e:TypeId}{t:Ty}{x:List t.den}(hg:s.get (.m k)= .val (.slice e t) (.u true) x):
  ∃X' F',R n W0 w X' F' H (Zst s k (.val (.slice e t) .e x)) a:=by
 have hs:=h.slots (.m k);rw[hg]at hs;obtain⟨vs,hv,hr⟩:=hs;unfold rdF at hr;obtain⟨v,xs,S1,S2,rfl,e2,k1,k2⟩:=hr;have hnd:=h.nodup (.m k);rw[e2]at hnd;have hT:Zzy W0.gh w w s (Zst s k (.val (.slice e t) .e x)) F (Qd F (.m k) S1) a k (.val (.slice e t) .e x):=Zom ⟨by rw[Kg];simp,fun p v U hv=>by
  unfold Xb at hv⊢;rw[hg]at hv;rw[Kg];simpa using hv⟩
 have hmem: ∀b∈S2,b∈F (.m k):=fun b hb=>by rw[e2];simp[hb]
 refine⟨fun b=>X b\/b∈S2,Qd F (.m k) S1,?_⟩;exact
 {size:=h.size
  defers:=h.defers
  below:=h.below
  glob:=h.glob
  gx:=fun b hb=> .inl (h.gx b hb)
  xs:=fun e=>by rw[hs0]at e;cases e
  fix:=h.fix
  xlt:=fun b hb=>hb.elim (h.xlt b) fun hb=>(h.own _ b (hmem b hb)).2.1
  xin:=fun b hb=>hb.elim (h.xin b) fun hb=> .inr (h.own _ b (hmem b hb)).1
  x0:=fun b hb=> .inl (h.x0 b hb)
  own:=fun j b hb=>by
   simp only[Qd]at hb;split at hb
   ·obtain⟨h1,h2,h3⟩:=h.own (.m k) b (by rw[e2];simp[hb]);exact⟨h1,h2,fun hx=>hx.elim h3 fun hk=>(List.nodup_append.1 hnd).2.2 b hb b hk rfl⟩
   ·rename_i hj;obtain⟨h1,h2,h3⟩:=h.own j b hb;exact⟨h1,h2,fun hx=>hx.elim h3 fun hk=>hj (h.disj j (.m k) b hb (hmem b hk))⟩
  nodup:=fun j=>by
   simp only[Qd];split
   ·exact(List.nodup_append.1 hnd).1
   ·exact h.nodup j
  disj:=fun j j' b hb hb'=>by
   simp only[Qd]at hb hb';split at hb<;>split at hb'
   ·rename_i e1 e2;rw[e1,e2]
   ·exact absurd (h.disj (.m k) j' b (by rw[e2];simp[hb]) hb').symm (by assumption)
   ·exact absurd (h.disj j (.m k) b hb (by rw[e2];simp[hb'])) (by assumption)
   ·exact h.disj j j' b hb hb'
  hown:=fun b hb=>let⟨h1,h2,h3⟩:=h.hown b hb;⟨h1,h2,fun hx=>hx.elim h3 fun hk=>h.hdisj _ b (hmem b hk) hb⟩
  hnodup:=h.hnodup
  hdisj:=fun j b hb=>by
   simp only[Qd]at hb;split at hb
   ·exact h.hdisj (.m k) b (by rw[e2];simp[hb])
   ·exact h.hdisj j b hb
  comps:=fun d i hc=>by
   rw[Kg]at hc⊢;simp only[reduceCtorEq,if_false]at hc;obtain⟨h1,h2⟩:=h.comps d i hc;by_cases e:k=d
   ·subst e;rw[hg]at h1;cases h1
   ·exact⟨by simpa[e]using h1,h2⟩
  slots:=fun j=>by
   by_cases hj:j= .m k
   ·subst hj;rw[Kg];simp only[if_true,Qd];exact⟨[v],hv,v,xs,rfl,Qcb k1 (fun _ h=> .inl h) (fun _ _=>rfl) (fun _ _=>rfl),Zot k2 fun _ _ _ _ hT h=>Zff (fun _ h=> .inl h) h fun b hb=> .inr (hT b hb)⟩
   ·have e:Qd F (.m k) S1 j=F j:=by simp[Qd,hj]
    rw[Kg,e];simp only[Ne.symm hj,if_false];exact Qlv hT (fun _ h=> .inl h) (fun _ _=>rfl) (fun _ _ _ _=>rfl) (fun _ _=>rfl) (fun e T' f' x' b S hb=>by rw[hg]at hb;cases hb) (h.slots j)}
end
end Go.Am
namespace Go.Am
open Go.RowKit
def Key.up:Key->Key| .m t=> .m (t+big)| .c t i=> .c (t+big) i
def upT:Tm->Tm| .ptr r p=> .ptr (r+big) p| .bor r p=> .bor (r+big) p| .elp r p i q=> .elp (r+big) p i q| .bel r p i q=> .bel (r+big) p i q| .aep r p i=> .aep (r+big) p i| .pls h l=> .pls h (l.map fun q=>(q.1+big,q.2))| .cl f l=> .cl f (l.map (· +big))| .gd g w t=> .gd (g+big) w (upT t)|t=>t
def upE:List (Key×Tm)->List (Key×Tm)| []=>[]| (k,t)::r=>(k.up,upT t)::upE r
def Qgj:List Tm->Nat->List (Key×Tm)| [],_=>[]|t::ts,i=>(.m i,upT t)::Qgj ts (i+1)
def Z9p(s:St)(ts:List Tm):St:={env:=Qgj ts 0++upE s.env,dirty:=s.dirty.map (· +big),lent:=s.lent.map (· +big)}
theorem Key.up_inj{k j:Key}:k.up=j.up↔k=j:=by
 cases k<;>cases j<;>simp[Key.up]
theorem Qul: ∀(l:List (Key×Tm)) (k:Key),Ze8 (upE l) k.up=upT (Ze8 l k)
 | [],k=>rfl
 | (j,t)::r,k=>by
  simp only[upE,Z1,Key.up_inj];split
  ·rfl
  ·exact Qul r k
theorem Qlt: ∀(l:List (Key×Tm)) (k:Key),k.t<big->Ze8 (upE l) k= .junk
 | [],_,_=>rfl
 | (j,t)::r,k,hk=>by
  simp only[upE,Z1];rw[if_neg (fun e=>by subst e;cases j<;>simp only[Key.up,Key.t]at hk<;>omega),Qlt r k hk]
theorem Qtv: ∀(ts:List Tm) (i:Nat) (E:List (Key×Tm)) (k:Key),i+ts.length<=big->Ze8 (Qgj ts i++E) k.up=Ze8 E k.up
 | [],_,_,_,_=>rfl
 |t::ts,i,E,k,h=>by
  simp only[Qgj,List.cons_append,Z1];simp only[List.length_cons]at h;rw[if_neg (fun e=>by cases k<;>simp[Key.up]at e;omega),Qtv ts (i+1) E k (by omega)]
theorem Qzw: ∀(ts:List Tm) (i j:Nat) (E:List (Key×Tm)) (t:Tm),ts[j]? =some t->Ze8 (Qgj ts i++E) (.m (i+j))=upT t
 | [],_,_,_,_,h=>by simp at h
 |u::ts,i,j,E,t,h=>by
  simp only[Qgj,List.cons_append,Z1];cases j with
  |zero=>simp only[List.getElem?_cons_zero,Osi]at h;subst h;simp
  |succ j=>
   rw[if_neg (by simp),show i+ (j+1)=(i+1)+j from by omega];exact Qzw ts (i+1) j E t (by simpa using h)
theorem Qcw: ∀(ts:List Tm) (i:Nat) (E:List (Key×Tm)) (k:Key),(∀t,k= .m t->t<i\/i+ts.length<=t)->Ze8 (Qgj ts i++E) k=Ze8 E k
 | [],_,_,_,_=>rfl
 |u::ts,i,E,k,h=>by
  simp only[Qgj,List.cons_append,Z1];rw[if_neg (fun e=>by have:=h i e.symm;simp only[List.length_cons]at this;omega)];exact Qcw ts (i+1) E k fun t e=>by have:=h t e;simp only[List.length_cons]at this;omega
section
variable {P:Program} {g:Kr} {W0:Wz g} {w w':World} {X X':Nat->Prop} {B B' n:Nat} {own:Bool} {s:St} {F:Key->List Nat} {a:Act} {H H':List Nat} {o:Oper} {tg:Xi} {τ:Tab} {gh:Nat->Value}
theorem Q5k(m x c:Nat):Nat.beq (m+c) (x+c)=Nat.beq m x:=by
 cases h:Nat.beq m x
 ·cases h2:Nat.beq (m+c) (x+c)
  ·rfl
  ·have:=Onb h2;have:m=x:=by omega
   subst this;rw[Nat.beq_refl]at h;cases h
 ·rw[Onb h,Nat.beq_refl]
theorem Qyv(m c:Nat): ∀l:List Nat,(l.map (· +c)).any (Nat.beq (m+c))=l.any (Nat.beq m)
 | []=>rfl
 |x::l=>by simp only[List.map_cons,List.any_cons,Q5k,Qyv m c l]
theorem Z4i{s:St}{ts:List Tm}{m:Nat}: (Z9p s ts).foul (m+big)=s.foul m:=Qyv m big s.dirty
theorem Qw2{s:St}{ts:List Tm}{r:Nat}: ∀{p:List Nat},(Z9p s ts).bad (r+big) p=s.bad r p
 | []=>by
  simp only[St.bad,Z4i];rw[show Z64 (r+big)=Z64 r+big from Nat.add_right_comm _ _ _,Z4i]
 |i::_=>by
  simp only[St.bad,Z4i];rw[show Z63 (r+big) i=Z63 r i+big from Nat.add_right_comm _ _ _,Z4i]
theorem Q3i{s:St}{ts:List Tm}{r:Nat}: (Z9p s ts).foul (Zj2 (r+big))=s.foul (Zj2 r):=by
 rw[show Zj2 (r+big)=Zj2 r+big from Nat.add_right_comm _ _ _,Z4i]
def Qt5(gh:Nat->Value)(a:Act)(t:Nat):Value:=if t<big then undef else Zkz gh a (t-big)
def Wz.push(z:Wz g)(a:Act):Wz g:=
 {z with
  gh:=Qt5 z.gh a
  ghU:=fun t ht=>by unfold Qt5;rw[if_pos ht]
  fix:=z.fix.map fun p=>(p.1+big,p.2)}
theorem Q5z(z:Wz g)(a:Act)(t:Nat): (z.push a).gh (t+big)=Zkz z.gh a t:=by
 have h1: ¬(t+big<big):=by omega
 have h2: (z.push a).gh=Qt5 z.gh a:=rfl;rw[h2];unfold Qt5;rw[if_neg h1,Nat.add_sub_cancel]
theorem Zp0{a':Act}(ha:a'.tmps.size<=big)(t:Nat):Zkz (W0.push a).gh a' (t+big)=Zkz W0.gh a t:=by
 have h:a'.tmps[t+big]? =none:=Array.getElem?_eq_none (by omega);rw[Zkz,h];exact Q5z W0 a t
theorem Qwj{a':Act}(ha:a'.tmps.size<=big)(k:Key):Qk (W0.push a).gh a' k.up=Qk W0.gh a k:=by
 cases k with
 |m t=>exact Zp0 ha t
 |c t i=>simp only[Key.up,Qk,Zp0 ha]
def upF(F:Key->List Nat):Key->List Nat| .m t=>if t<big then[]else F (.m (t-big))| .c t i=>if t<big then[]else F (.c (t-big) i)
theorem Qyo(k:Key):upF F k.up=F k:=by
 cases k with
 |m t=>simp only[upF,Key.up];rw[if_neg (by omega),Nat.add_sub_cancel]
 |c t i=>simp only[upF,Key.up];rw[if_neg (by omega),Nat.add_sub_cancel]
theorem Qum{k:Key}{b:Nat}(h:b∈upF F k): ∃j:Key,k=j.up/\b∈F j:=by
 cases k with
 |m t=>
  simp only[upF]at h;split at h
  ·cases h
  ·exact⟨.m (t-big),by simp only[Key.up];congr 1;omega,h⟩
 |c t i=>
  simp only[upF]at h;split at h
  ·cases h
  ·exact⟨.c (t-big) i,by simp only[Key.up];congr 1;omega,h⟩
theorem Q8g{ts:List Tm}(hts:ts.length<=big){a':Act}(ha:a'.tmps.size<=big){v:Value}{S:List Nat}: ∀{t:Tm},vt W0.gh w X B s F a v S t->
  vt (W0.push a).gh w X B (Z9p s ts) (upF F) a' v S (upT t):=by
 have hg: ∀r,(Z9p s ts).get (.m (r+big))=upT (s.get (.m r)):=fun r=>by
  show Ze8 (Qgj ts 0++upE s.env) (Key.up (.m r))=_;rw[Qtv _ _ _ _ (by omega),Qul];rfl
 have hF: ∀r,upF F (.m (r+big))=F (.m r):=fun r=>Qyo (.m r);have hA: ∀{r p v},atP s F r p v->atP (Z9p s ts) (upF F) (r+big) p v:=fun {r p v} ⟨e,T,f,x,b,S',h1,h2,h3⟩=>
  ⟨e,T,f,x,b,S',by rw[hg,h1];rfl,by rw[hF];exact h2,h3⟩
 have hv: ∀{r p v U},Xb W0.gh w s F a r p v U->Xb (W0.push a).gh w (Z9p s ts) (upF F) a' (r+big) p v U:=fun {r p v U} h=>by
  unfold Xb at h⊢;rw[hg,hF];cases he:s.get (.m r)<;>rw[he]at h<;>simp only[upT]at h⊢
  ·exact⟨h.1,h.2.1,h.2.2.trans (Zp0 ha r).symm⟩
  ·exact h
 intro t h
 induction t with
 |junk=>exact h
 |tup=>exact h
 |val T f x=>exact h
 |box e T f x=>exact h
 |shp T x=>exact h
 |ptr r p=>exact⟨h.1,hA h.2⟩
 |bor r p=>exact⟨h.1,fun hc=>let⟨U,hU⟩:=h.2 (Qw2▸hc);⟨U,hv hU⟩⟩
 |elp r p i q=>exact⟨h.1,fun hc=>let⟨e,t,ad,m,cap,k1,k2⟩:=h.2 (Qw2▸hc);⟨e,t,ad,m,cap,hv k1,k2⟩⟩
 |bel r p i q=>exact⟨h.1,fun hc he=>let⟨e,t,ad,m,cap,x0,y,cs,k1,k2,k3,k4,k5⟩:=h.2 (Qw2▸hc) (Q3i▸he);⟨e,t,ad,m,cap,x0,y,cs,hv k1,k2,k3,by rw[hF];exact k4,k5⟩⟩
 |aep r p i=>
  obtain⟨h0,e,T,f,x,b,S',m,t',y,h1,h2,h3⟩:=h;exact⟨h0,e,T,f,x,b,S',m,t',y,by rw[hg,h1];rfl,by rw[hF];exact h2,h3⟩
 |pls hh l=>
  obtain⟨h0,ad,us,h1,h2,h3,h4,h5⟩:=h;refine⟨h0,ad,us,h1,h2,by simpa using h3,fun j q hq=> ?_,by simpa using h5⟩;simp only[List.getElem?_map,Option.map_eq_some_iff]at hq;obtain⟨q',hq',rfl⟩:=hq;obtain⟨u,hu,ht⟩:=h4 j q' hq';exact⟨u,hu,hA ht⟩
 |cl f l=>
  obtain⟨h0,us,h1,h2,h3⟩:=h;refine⟨h0,us,h1,by simpa using h2,fun j q hq=> ?_⟩;simp only[List.getElem?_map,Option.map_eq_some_iff]at hq;obtain⟨q',hq',rfl⟩:=hq;obtain⟨u,hu,ht⟩:=h3 j q' hq';exact⟨u,hu,hA ht⟩
 |gd gk want t ih=>
  intro hc;rw[Z4i]at hc;obtain⟨h0,h1,h2⟩:=h hc;have hs:Qk (W0.push a).gh a' (.m (gk+big))=Qk W0.gh a (.m gk):=Zp0 ha gk;refine⟨?_,fun hb=>ih (h1 (hs▸hb)),fun hb=>h2 (hs▸hb)⟩;rw[hg];generalize s.get (.m gk)=u at h0;cases u<;>simp[upT]at h0⊢
theorem R.push(h:R n W0 w X F [] s a){ts:List Tm}{vs:List Value}{m:Nat}(hl:ts.length=vs.length)(hm:ts.length<=m)(hb:m<=big)(hts: ∀(i:Nat) t,ts[i]? =some t-> ∃v,vs[i]? =some v/\vt W0.gh w X W0.B s F a v [] t):
  R m (W0.push a) w X (upF F) [] (Go.Am.Z9p s ts) {tmps:=vs.toArray++Array.replicate (m-vs.toArray.size) undef,defers:=[]}:=by
 generalize hA: ({tmps:=vs.toArray++Array.replicate (m-vs.toArray.size) undef,defers:=[]}:Act)=a';have hsz:a'.tmps.size=m:=by rw[<-hA];simp;omega
 have htl:ts.length<=big:=by omega
 have hgU: ∀k:Key,(Go.Am.Z9p s ts).get k.up=upT (s.get k):=fun k=>by
  show Ze8 (Qgj ts 0++upE s.env) k.up=_;rw[Qtv _ _ _ _ (by omega),Qul];rfl
 have hup: ∀k:Key,k.t<big\/ ∃j:Key,k=j.up:=fun k=>by
  cases k with
  |m t=>
   rcases Nat.lt_or_ge t big with h|h
   ·exact .inl h
   ·exact .inr ⟨.m (t-big),by simp only[Key.up];congr 1;omega⟩
  |c t i=>
   rcases Nat.lt_or_ge t big with h|h
   ·exact .inl h
   ·exact .inr ⟨.c (t-big) i,by simp only[Key.up];congr 1;omega⟩
 exact
 {size:=hsz
  defers:=by rw[<-hA]
  below:=⟨h.below.os,h.below.tape,h.below.output,h.below.size,h.below.block⟩
  glob:=h.glob
  gx:=h.gx
  xs:=h.xs
  fix:=fun p hp=>by
   simp only[Wz.push,List.mem_map]at hp;obtain⟨q,hq,rfl⟩:=hp;obtain⟨h1,h2⟩:=h.fix q hq;exact⟨by simp only[Go.Am.Z9p,List.mem_map];exact⟨_,h1,rfl⟩,(Zp0 (by omega) q.1).trans h2⟩
  xlt:=h.xlt
  xin:=h.xin
  x0:=h.x0
  own:=fun k b hb=>by obtain⟨j,_,hj⟩:=Qum hb;exact h.own j b hj
  nodup:=fun k=>by
   rcases hup k with hk| ⟨j,rfl⟩
   ·have:upF F k=[]:=by cases k<;>simp only[upF,Key.t]at hk⊢ <;>rw[if_pos hk]
    rw[this];simp
   ·rw[Qyo];exact h.nodup j
  disj:=fun k k' b hb hb'=>by
   obtain⟨j,rfl,hj⟩:=Qum hb;obtain⟨j',rfl,hj'⟩:=Qum hb';rw[h.disj j j' b hj hj']
  hown:=by simp
  hnodup:=by simp
  hdisj:=by simp
  comps:=fun d i hc=>by
   rcases hup (.c d i)with hk| ⟨j,hj⟩
   ·exfalso;apply hc;show Ze8 (Qgj ts 0++upE s.env) _=_;rw[Qcw _ _ _ _ (fun t e=>by cases e),Qlt _ _ hk]
   ·cases j with
    |m t=>simp[Key.up]at hj
    |c t i'=>
     simp only[Key.up,Key.c.injEq]at hj;obtain⟨rfl,rfl⟩:=hj;have e1:=hgU (.c t i);have e2:=hgU (.m t);simp only[Key.up]at e1 e2;rw[e1]at hc;obtain⟨h1,us,h2,h3⟩:=h.comps t i (fun e=>hc (by rw[e];rfl));exact⟨by rw[e2,h1];rfl,us,(Zp0 (by omega) t).trans h2,h3⟩
  slots:=fun k=>by
   rcases hup k with hk| ⟨j,rfl⟩
   ·have hF:upF F k=[]:=by cases k<;>simp only[upF,Key.t]at hk⊢ <;>rw[if_pos hk]
    rw[hF];cases k with
    |c t i=>
     have: (Go.Am.Z9p s ts).get (.c t i)= .junk:=by
      show Ze8 (Qgj ts 0++upE s.env) _=_;rw[Qcw _ _ _ _ (fun t e=>by cases e),Qlt _ _ hk]
     rw[this];rfl
    |m t=>
     rcases Nat.lt_or_ge t ts.length with ht|ht
     ·have e: (Go.Am.Z9p s ts).get (.m t)=upT ts[t]:=by
       have:=Qzw ts 0 t (upE s.env) ts[t] (List.getElem?_eq_getElem ht);rw[Nat.zero_add]at this;exact this
      rw[e];obtain⟨v,hv,hvt⟩:=hts t ts[t] (List.getElem?_eq_getElem ht);have:Qk (W0.push a).gh a' (.m t)=v:=by
       show Zkz _ _ _=_;unfold Zkz;have:a'.tmps[t]? =some v:=by
        rw[<-hA];simp only;rw[Array.getElem?_append_left (by simp;omega)];simpa using hv
       rw[this]
      rw[this];exact Q8g htl (by omega) hvt
     ·have: (Go.Am.Z9p s ts).get (.m t)= .junk:=by
       show Ze8 (Qgj ts 0++upE s.env) _=_;rw[Qcw _ _ _ _ (fun t' e=>by cases e;right;omega),Qlt _ _ hk]
      rw[this];rfl
   ·rw[hgU,Qyo,Qwj (by omega)];exact Q8g htl (by omega) (h.slots j)}
def geB(r:Nat):Bool:=Nat.ble big r
def dnT(s:St):Tm->Tm
 | .ptr r p=>match geB r with|true=> .ptr (r-big) p|false=> .junk
 | .bor r p=>match geB r&& !(s.bad r p)with|true=> .bor (r-big) p|false=> .junk
 | .elp r p i q=>match geB r&& !(s.bad r p)with|true=> .elp (r-big) p i q|false=> .junk
 | .bel r p i q=>match geB r&& !(s.bad r p)&& !(s.foul (Zj2 r))with|true=> .bel (r-big) p i q|false=> .junk
 | .aep r p i=>match geB r with|true=> .aep (r-big) p i|false=> .junk
 | .pls h l=>match l.all fun q=>geB q.1 with|true=> .pls h (l.map fun q=>(q.1-big,q.2))|false=> .junk
 | .cl f l=>match l.all geB with|true=> .cl f (l.map (· -big))|false=> .junk
 | .gd _ _ _=> .junk
 |t=>t
def dnE(s:St):List (Key×Tm)->List (Key×Tm)
 | []=>[]
 | (.m t,u)::r=>match geB t with|true=>(.m (t-big),dnT s u)::dnE s r|false=>dnE s r
 | (.c t i,u)::r=>match geB t with|true=>(.c (t-big) i,dnT s u)::dnE s r|false=>dnE s r
def dnL:List Nat->List Nat
 | []=>[]
 |r::l=>match geB r with|true=>(r-big)::dnL l|false=>dnL l
def pop(s:St):St:={env:=dnE s s.env,dirty:=[],lent:=dnL s.lent}
theorem Zhl{r:Nat}:geB r=true↔big<=r:=by simp[geB]
theorem Z4c(s:St): ∀(l:List (Key×Tm)) (k:Key),Ze8 (dnE s l) k=dnT s (Ze8 l k.up)
 | [],k=>rfl
 | (.m t,u)::r,k=>by
  simp only[dnE];cases hb:geB t
  ·have: ¬big<=t:=fun h=>by rw[Zhl.2 h]at hb;cases hb
   simp only[Z1];rw[if_neg (fun e=>by cases k<;>simp[Key.up]at e;omega),Z4c s r k]
  ·have:=Zhl.1 hb;simp only[Z1];by_cases hk:k= .m (t-big)
   ·subst hk;rw[if_pos rfl,if_pos (by simp only[Key.up];congr 1;omega)]
   ·rw[if_neg (Ne.symm hk),if_neg (fun e=>hk (by cases k<;>simp[Key.up]at e;simp;omega)),Z4c s r k]
 | (.c t i,u)::r,k=>by
  simp only[dnE];cases hb:geB t
  ·have: ¬big<=t:=fun h=>by rw[Zhl.2 h]at hb;cases hb
   simp only[Z1];rw[if_neg (fun e=>by cases k<;>simp[Key.up]at e;omega),Z4c s r k]
  ·have:=Zhl.1 hb;simp only[Z1];by_cases hk:k= .c (t-big) i
   ·subst hk;rw[if_pos rfl,if_pos (by simp only[Key.up];congr 1;omega)]
   ·rw[if_neg (Ne.symm hk),if_neg (fun e=>hk (by cases k<;>simp[Key.up]at e;simp;omega)),Z4c s r k]
theorem Qsy: ∀{l:List Nat} {r:Nat},r+big∈l->r∈dnL l
 |x::l,r,h=>by
  simp only[dnL];rcases List.mem_cons.1 h with e|h
  ·rw[show geB x=true from Zhl.2 (by omega)];simp;left;omega
  ·cases geB x
   ·exact Qsy h
   ·exact List.mem_cons_of_mem _ (Qsy h)
def dnF(s:St)(F:Key->List Nat):Key->List Nat:=fun k=>match(pop s).get k with| .junk=>[]|_=>F k.up
theorem Qsx{k:Key}(h: (pop s).get k≠ .junk):dnF s F k=F k.up:=by
 unfold dnF;cases hk: (pop s).get k<;>first|rfl|exact absurd hk h
theorem Qlf{k:Key}{b:Nat}(h:b∈dnF s F k):b∈F k.up:=by
 unfold dnF at h;split at h
 ·cases h
 ·exact h
theorem Q8f{a':Act}(ha:a'.tmps.size<=big){v:Value}{S:List Nat}: ∀{t:Tm},vt (W0.push a).gh w X B s F a' v S t->dnT s t≠ .junk->
  vt W0.gh w X B (pop s) (dnF s F) a v S (dnT s t):=by
 have hg: ∀r,(pop s).get (.m r)=dnT s (s.get (.m (r+big))):=fun r=>Z4c s s.env (.m r);have sub: ∀{r:Nat},big<=r->r-big+big=r:=fun h=>by omega
 have hA: ∀{r p v},big<=r->atP s F r p v->atP (pop s) (dnF s F) (r-big) p v:=fun {r p v} hr ⟨e,T,f,x,b,S',h1,h2,h3⟩=>by
  have hgr: (pop s).get (.m (r-big))= .box e T f x:=by rw[hg,sub hr,h1];rfl
  exact⟨e,T,f,x,b,S',hgr,by rw[Qsx (by rw[hgr];simp)];simp only[Key.up];rw[sub hr];exact h2,h3⟩
 have hF: ∀{r p v U},big<=r->Xb (W0.push a).gh w s F a' r p v U->dnF s F (.m (r-big))=F (.m r):=fun {r p v U} hr h=>by
  have: (pop s).get (.m (r-big))≠ .junk:=by
   rw[hg,sub hr];unfold Xb at h;cases he:s.get (.m r)<;>rw[he]at h<;>simp[dnT]at h⊢
  rw[Qsx this];simp only[Key.up];rw[sub hr]
 have hv: ∀{r p v U},big<=r->Xb (W0.push a).gh w s F a' r p v U->Xb W0.gh w (pop s) (dnF s F) a (r-big) p v U:=fun {r p v U} hr h=>by
  have hF':=hF hr h;unfold Xb at h⊢;rw[hg,sub hr,hF'];cases he:s.get (.m r)<;>rw[he]at h<;>simp only[dnT]at h⊢
  ·refine⟨h.1,h.2.1,h.2.2.trans ?_⟩;have:=Zp0 (W0:=W0) (a:=a) ha (r-big);rw[sub hr]at this;exact this
  ·exact h
 intro t h hj;cases t with
 |junk=>exact h
 |tup=>exact h
 |val T f x=>exact h
 |box e T f x=>exact h
 |shp T x=>exact h
 |ptr r p=>
  simp only[dnT]at hj⊢;cases hb:geB r<;>simp only[hb]at hj⊢
  ·exact absurd rfl hj
  ·exact⟨h.1,hA (Zhl.1 hb) h.2⟩
 |bor r p=>
  simp only[dnT]at hj⊢;cases hb: (geB r&& !(s.bad r p))<;>simp only[hb]at hj⊢
  ·exact absurd rfl hj
  ·simp only[Oba,Bool.not_eq_true']at hb;obtain⟨U,hU⟩:=h.2 hb.2;exact⟨h.1,fun _=>⟨U,hv (Zhl.1 hb.1) hU⟩⟩
 |elp r p i q=>
  simp only[dnT]at hj⊢;cases hb: (geB r&& !(s.bad r p))<;>simp only[hb]at hj⊢
  ·exact absurd rfl hj
  ·simp only[Oba,Bool.not_eq_true']at hb;obtain⟨e,t,ad,m,cap,k1,k2⟩:=h.2 hb.2;exact⟨h.1,fun _=>⟨e,t,ad,m,cap,hv (Zhl.1 hb.1) k1,k2⟩⟩
 |bel r p i q=>
  simp only[dnT]at hj⊢;cases hb: (geB r&& !(s.bad r p)&& !(s.foul (Zj2 r)))<;>simp only[hb]at hj⊢
  ·exact absurd rfl hj
  ·simp only[Oba,Bool.not_eq_true']at hb;obtain⟨e,t,ad,m,cap,x0,y,cs,k1,k2,k3,k4,k5⟩:=h.2 hb.1.2 hb.2;exact⟨h.1,fun _ _=>⟨e,t,ad,m,cap,x0,y,cs,hv (Zhl.1 hb.1.1) k1,k2,k3,by rw[hF (Zhl.1 hb.1.1) k1];exact k4,k5⟩⟩
 |aep r p i=>
  simp only[dnT]at hj⊢;cases hb:geB r<;>simp only[hb]at hj⊢
  ·exact absurd rfl hj
  ·obtain⟨h0,e,T,f,x,b,S',m,t',y,h1,h2,h3⟩:=h;have hr:=Zhl.1 hb;have hgr: (pop s).get (.m (r-big))= .box e T f x:=by rw[hg,sub hr,h1];rfl
   exact⟨h0,e,T,f,x,b,S',m,t',y,hgr,by rw[Qsx (by rw[hgr];simp)];simp only[Key.up];rw[sub hr];exact h2,h3⟩
 |pls hh l=>
  simp only[dnT]at hj⊢;cases hb: (l.all fun q=>geB q.1)<;>simp only[hb]at hj⊢
  ·exact absurd rfl hj
  ·obtain⟨h0,ad,us,h1,h2,h3,h4,h5⟩:=h;refine⟨h0,ad,us,h1,h2,by simpa using h3,fun j q hq=> ?_,by simpa using h5⟩;simp only[List.getElem?_map,Option.map_eq_some_iff]at hq;obtain⟨q',hq',rfl⟩:=hq;obtain⟨u,hu,ht⟩:=h4 j q' hq';exact⟨u,hu,hA (Zhl.1 (List.all_eq_true.1 hb q' (List.mem_of_getElem? hq'))) ht⟩
 |cl f l=>
  simp only[dnT]at hj⊢;cases hb:l.all geB<;>simp only[hb]at hj⊢
  ·exact absurd rfl hj
  ·obtain⟨h0,us,h1,h2,h3⟩:=h;refine⟨h0,us,h1,by simpa using h2,fun j q hq=> ?_⟩;simp only[List.getElem?_map,Option.map_eq_some_iff]at hq;obtain⟨q',hq',rfl⟩:=hq;obtain⟨u,hu,ht⟩:=h3 j q' hq';exact⟨u,hu,hA (Zhl.1 (List.all_eq_true.1 hb q' (List.mem_of_getElem? hq'))) ht⟩
 |gd gk want t=>exact absurd rfl hj
theorem R.pop{m:Nat}{a':Act}(h:R m (W0.push a) w X F H s a')(hm:m<=big)(hsz:a.tmps.size=n)(hd:a.defers=[]):R n W0 w X (dnF s F) H (Go.Am.pop s) a:=by
 have ha:a'.tmps.size<=big:=by rw[h.size];exact hm
 have hg: ∀k:Key,(Go.Am.pop s).get k=dnT s (s.get k.up):=fun k=>Z4c s s.env k;exact
 {size:=hsz
  defers:=hd
  below:=⟨h.below.os,h.below.tape,h.below.output,h.below.size,h.below.block⟩
  glob:=h.glob
  gx:=h.gx
  xs:=h.xs
  fix:=fun p hp=>by
   obtain⟨h1,h2⟩:=h.fix (p.1+big,p.2) (by simp only[Wz.push,List.mem_map];exact⟨p,hp,rfl⟩);exact⟨Qsy h1,(Zp0 ha p.1).symm.trans h2⟩
  xlt:=h.xlt
  xin:=h.xin
  x0:=h.x0
  own:=fun k b hb=>h.own _ b (Qlf hb)
  nodup:=fun k=>by
   unfold dnF;split
   ·simp
   ·exact h.nodup _
  disj:=fun k k' b hb hb'=>Key.up_inj.1 (h.disj _ _ b (Qlf hb) (Qlf hb'))
  hown:=h.hown
  hnodup:=h.hnodup
  hdisj:=fun k b hb=>h.hdisj _ b (Qlf hb)
  comps:=fun d i hc=>by
   rw[hg]at hc⊢;obtain⟨h1,us,h2,h3⟩:=h.comps (d+big) i (fun e=>hc (by simp only[Key.up];rw[e];rfl));exact⟨by simp only[Key.up];rw[h1];rfl,us,(Zp0 ha d).symm.trans h2,h3⟩
  slots:=fun k=>by
   by_cases hj: (Go.Am.pop s).get k= .junk
   ·rw[hj];unfold dnF;rw[hj];rfl
   ·rw[Qsx hj];have hs:=h.slots k.up;rw[Qwj ha]at hs;rw[hg]at hj⊢;exact Q8f ha hs hj}
end
end Go.Am
namespace Go.Am
open Go.RowKit
def Zj7(a:Act):ResultVar->Sem Value
 | .tmp t=>pure (a.tmps.getD t undef)
 | .cell d t=>do loadVar t (<-asAddr (a.tmps.getD d undef))
def Zzv(τ:Tab):List ResultVar->St->Option (((ts:List (Ty×Fl))×Zu9 ts)×St)
 | [],s=>some (⟨[],()⟩,s)
 | .tmp k::rs,s=>match Qeu s (op1 s [] (.tmp k))with
  |some q=>match Zzv τ rs q.s with
   |some (z,s')=>some (⟨(q.T,q.f)::z.1,(q.x,z.2)⟩,s')
   |none=>none
  |none=>none
 | .cell k e::rs,s=>match s.get (.m k),τ e with
  | .box e0 U f y,some U'=>match(Nat.blt k 1048576&&decide (U=U'))&&f.live with
   |true=>match Zzv τ rs (Y0 s k (.box e0 U .d y))with
    |some (z,s')=>some (⟨(U,f)::z.1,(y,z.2)⟩,s')
    |none=>none
   |false=>none
  |_,_=>none
def Q9n(rv:List ResultVar)(s:St):Option Tm:=
 match rv with
 | [.tmp k]=>match op1 s [] (.tmp k)with
  | .tm _ (.ptr r p)=>match geB r with|true=>some (.ptr r p)|false=>none
  | .tm _ (.elp r p i q)=>match geB r&& !(s.bad r p)with|true=>some (.elp r p i q)|false=>none
  |_=>none
 |_=>none
def Q6w{ρ:Type}(τ:Tab)(n:Nat)(rv:List ResultVar)(s:St)(dst:Option Nat)(k:St->Option ρ):Option ρ:=
 match Q9n rv s with
 |some t=>match dst with
  |some d=>match Jm (pop s) d&&Nat.blt d n with
   |true=>k (Yx (pop s) d (dnT s t))
   |false=>none
  |none=>none
 |none=>match Zzv τ rv s with
  |some (z,s2)=>match dst with
   |none=>k (pop s2)
   |some d=>match Jm (pop s2) d&&Nat.blt d n with
    |true=>k (Q9j d (pop s2) z.1 z.2)
    |false=>none
  |none=>none
structure Zqg where
 f:FuncId
 n:Nat
 np:Nat
 rv:List ResultVar
 run:List Nat->{ρ:Type}->(Exit->St->Option ρ)->St->Option ρ
structure Wg(P:Program)(g:Kr)(E:Zqg):Prop where
 enters: ∀args w,(callFunc E.f args).run P w= .ok (.enter E.f args) w
 le:E.np<=E.n/\E.n<=1048576
 code: ∃fn c,P.funcs[E.f]? =some fn/\fn.body=some c/\fn.ntmps=E.n/\fn.results.toList=E.rv/\
  ∀{ρ:Type} {k:Exit->St->Option ρ} {r:ρ} {ln:List Nat} {W0:Wz g} {w:World} {X:Nat->Prop} {F:Key->List Nat} {s:St} {a:Act},
   E.run ln k s=some r->(∀p,p∈W0.fix->p.1∈ln)->R E.n W0 w X F [] s a->c.wp P (fun e a' w'=> ∃s' X' F',k e s'=some r/\R E.n W0 w' X' F' [] s' a') a w
abbrev Z4y:=List Zqg
def Z4y.find(Γ:Z4y)(f:FuncId):Option Zqg:=
 match Γ with
 | []=>none
 |e::r=>match Nat.beq e.f f with|true=>some e|false=>Z4y.find r f
def Z4y.ok(Γ:Z4y)(P:Program)(g:Kr):Prop:= ∀e∈Γ,Wg P g e
theorem Z4y.find_ok{Γ:Z4y}{P:Program}{g:Kr}(h:Γ.ok P g){f:FuncId}{e:Zqg}(he:Γ.find f=some e):e.f=f/\Wg P g e:=by
 induction Γ with
 |nil=>cases he
 |cons x r ih=>
  simp only[Z4y.find]at he;split at he
  ·rename_i hb;simp only[Osi]at he;subst he;exact⟨Onb hb,h _ (by simp)⟩
  ·exact ih (fun e he=>h e (by simp[he])) he
def Q54{ρ:Type}(τ:Tab)(n:Nat)(s:St)(dst:Option Nat)(E:Zqg)(ts:List Tm)(k:St->Option ρ):Option ρ:=
 match Nat.beq ts.length E.np with
 |true=>E.run (Z9p s ts).lent (fun e s'=>match e with| .normal| .ret=>Q6w τ n E.rv s' dst k|_=>none) (Z9p s ts)
 |false=>none
def Ql6(τ:Tab)(s:St):List Operand->List TypeId->Option (List Tm)
 | [],_=>some []
 |x::xs,e::es=>match Zy3 τ s [] e x,Ql6 τ s xs es with
  |some r,some ts=>some (r.t::ts)
  |_,_=>none
 |_::_,[]=>none
section
variable {P:Program} {g:Kr} {W0:Wz g} {w w':World} {X X':Nat->Prop} {B B' n:Nat} {own:Bool} {s:St} {F:Key->List Nat} {a:Act} {H H':List Nat} {o:Oper} {tg:Xi} {τ:Tab} {gh:Nat->Value}
theorem Zll{fn:Func}{vs:List Value}(h: (fn.results.toList.mapM (Zj7 a)).run P w= .ok vs w): (results fn a.tmps).run P w= .ok (Xu vs) w:=by
 have e: (fn.results.mapM (Zj7 a)).run P w= .ok vs.toArray w:=by
  rw[Array.mapM_eq_mapM_toList,Sem.run_map,h];rfl
 unfold results;rw[Sem.run_bind];have e2: (fn.results.mapM fun
  | .tmp t=>pure (a.tmps.getD t undef)
  | .cell d t=>do loadVar t (<-asAddr (a.tmps.getD d undef)))=fn.results.mapM (Zj7 a):=by
  congr 1
 erw [e2,e];simp only[Result.andThen_ok,Sem.run_pure];congr 1;by_cases h1:vs.length=1
 ·obtain⟨v,rfl⟩:=List.length_eq_one_iff.1 h1;rfl
 ·rw[Zoj h1];simp[h1]
theorem Zwl(hτ:τ.ok P): ∀{rs:List ResultVar} {s:St} {F:Key->List Nat} {H:List Nat} {z: (ts:List (Ty×Fl))×Zu9 ts} {s':St},R n W0 w X F H s a->Zzv τ rs s=some (z,s')->
  ∃vs S F',(rs.mapM (Zj7 a)).run P w= .ok vs w/\Qq1 w X W0.B z.1 z.2 vs S/\R n W0 w X F' (S++H) s' a
 | [],s,F,H,z,s',h,hr=>by
  simp only[Zzv,Osi,Opi]at hr;obtain⟨rfl,rfl⟩:=hr;exact⟨[],[],F,by simp,⟨rfl,rfl⟩,h⟩
 | .tmp k::rs,s,F,H,z,s',h,hr=>by
  simp only[Zzv]at hr;split at hr
  ·rename_i q hq;split at hr
   ·rename_i z2 s2 hxs;simp only[Osi,Opi]at hr;obtain⟨rfl,rfl⟩:=hr;obtain⟨F1,S1,vs1,h1,h2,h3,_,_⟩:=Zv2 h (tg:=[]) (fun p hp=>by cases hp) hq;obtain⟨vs,S,F',k1,k2,k3⟩:=Zwl hτ h3 hxs;refine⟨_,S1++S,F',?_,⟨vs1,vs,S1,S,rfl,rfl,h2,k2⟩,?_⟩
    ·have h1': (a.tmps.getD k undef)=Xt q.T vs1:=h1;simp only[List.mapM_cons,Zj7,Sem.run_bind,Sem.run_pure,Result.andThen_ok,k1,h1']
    ·have hp: (S1++S++H).Perm (S++ (S1++H)):=by rw[List.append_assoc];exact List.perm_append_comm_assoc _ _ _
     exact {k3 with
      hown:=fun b hb=>k3.hown b (hp.mem_iff.1 hb)
      hnodup:=hp.nodup_iff.2 k3.hnodup
      hdisj:=fun k b hb hh=>k3.hdisj k b hb (hp.mem_iff.1 hh)}
   ·cases hr
  ·cases hr
 | .cell k e::rs,s,F,H,z,s',h,hr=>by
  simp only[Zzv]at hr;split at hr
  ·rename_i e' U f y U' hg hU;split at hr
   ·rename_i hf;split at hr
    ·rename_i z2 s2 hxs;simp only[Oba,decide_eq_true_eq]at hf;obtain⟨⟨hkb,rfl⟩,hf⟩:=hf;simp only[Osi,Opi]at hr;obtain⟨rfl,rfl⟩:=hr;have hs:=h.slots (.m k);rw[hg]at hs;obtain⟨b,c,S1,g1,g2,g3,g4⟩:=hs;have hnF:=h.nodup (.m k);rw[g2]at hnF;have h3:R n W0 w X (Qd F (.m k) [b]) (S1++H) (Y0 s k (.box e' U .d y)) a:=by
      refine h.turn (S':=[b]) (H':=S1++H) h.below (Nat.le_refl _) (fun _ _=>rfl) (fun _ _ _ _=>rfl) ?_ ?_ (by rw[hg];simp) ?_ ?_
      ·intro b' hb';rw[g2];simpa using hb'
      ·have hd: ∀b'∈b::S1,b'∉H:=fun b' hb'=>h.hdisj (.m k) b' (by rw[g2];exact hb');refine List.nodup_append.2 ⟨by simp,List.nodup_append.2 ⟨(List.nodup_cons.1 hnF).2,h.hnodup,fun x hx y hy e=>hd x (by simp[hx]) (by rw[e];exact hy)⟩,fun x hx y hy e=> ?_⟩;simp only[List.mem_singleton]at hx;subst hx;subst e;rcases List.mem_append.1 hy with hy|hy
       ·exact(List.nodup_cons.1 hnF).1 hy
       ·exact hd x (by simp) hy
      ·intro e T f x b2 S hb hF;rw[hg]at hb;cases hb;rw[g2]at hF;obtain⟨rfl,_⟩:=List.cons.inj hF;exact⟨.d,_,[],rfl,rfl⟩
      ·exact⟨b,c,[],g1,rfl,g3,by unfold rdF;exact⟨Xx g4,Zg3 g4,rfl⟩⟩
     obtain⟨vs,S,F',k1,k2,k3⟩:=Zwl hτ h3 hxs;refine⟨_,S1++S,F',?_,⟨c.toList,vs,S1,S,rfl,rfl,g4,k2⟩,?_⟩
     ·have h1': (a.tmps.getD k undef)= .pointer (some ⟨b,0,none⟩):=(Yh W0 a hkb).symm.trans g1;have hload:=(hτ _ _ hU).load (w:=w) (ad:=⟨b,0,none⟩) (vs:=c.toList) (Xx g4) (fun j u hj=>by
       rw[Zgl w g3,<-Array.getElem?_toList,Nat.zero_add];exact hj)
      simp only[List.mapM_cons,Zj7,Sem.run_bind,Sem.run_pure,Result.andThen_ok,k1,h1',hload,asAddr]
     ·have hp: (S1++S++H).Perm (S++ (S1++H)):=by rw[List.append_assoc];exact List.perm_append_comm_assoc _ _ _
      exact {k3 with
       hown:=fun b hb=>k3.hown b (hp.mem_iff.1 hb)
       hnodup:=hp.nodup_iff.2 k3.hnodup
       hdisj:=fun k b hb hh=>k3.hdisj k b hb (hp.mem_iff.1 hh)}
    ·cases hr
   ·cases hr
  ·cases hr
theorem Qx8{m:Nat}{a':Act}{rv:List ResultVar}{t:Tm}(h:R m (W0.push a) w X F [] s a')(hr:Q9n rv s=some t):
  ∃k S,rv=[.tmp k]/\dnT s t≠ .junk/\vt (W0.push a).gh w X W0.B s F a' (a'.eval (.tmp k)) S t/\S=[]:=by
 unfold Q9n at hr;split at hr
 ·rename_i k;split at hr
  ·rename_i j r p hx;split at hr
   ·rename_i hb;cases hr;obtain⟨_,hv⟩:=Ke h (tg:=[]) (fun p hp=>by cases hp) hx (by simp);exact⟨k,_,rfl,by simp[dnT,hb],hv,hv.1⟩
   ·cases hr
  ·rename_i j r p i q hx;split at hr
   ·rename_i hb;cases hr;obtain⟨_,hv⟩:=Ke h (tg:=[]) (fun p hp=>by cases hp) hx (by simp);exact⟨k,_,rfl,by simp only[dnT,hb];simp,hv,hv.1⟩
   ·cases hr
  ·cases hr
 ·cases hr
theorem Qx7{ρ:Type}{r:ρ}(hτ:τ.ok P){m:Nat}{a':Act}(h:R m (W0.push a) w X F [] s a')(hm:m<=1048576)(hsz:a.tmps.size=n)(hd:a.defers=[]){fn:Func}{rv:List ResultVar}(hrv:fn.results.toList=rv){dst:Option Nat}{k:St->Option ρ}(hk:Q6w τ n rv s dst k=some r):
  ∃v s2 F2,(results fn a'.tmps).run P w= .ok v w/\k s2=some r/\R n W0 w X F2 [] s2 (a.put dst v):=by
 unfold Q6w at hk;split at hk
 ·rename_i t ht;obtain⟨j,S,rfl,hj,hv,rfl⟩:=Qx8 h ht;split at hk
  ·rename_i d;split at hk
   ·rename_i hdn;simp only[Oba,Nat.blt_eq]at hdn;have hp:=h.pop hm hsz hd;have hv':=Q8f (by rw[h.size];exact hm) hv hj;have hp2:=(by simpa using hp:R n W0 w X (dnF s F) ([]++ []) (pop s) a).put hdn.1 hdn.2 hv';have hrun: (fn.results.toList.mapM (Zj7 a')).run P w= .ok [a'.eval (.tmp j)] w:=by rw[hrv];simp[Zj7,Act.eval]
    exact⟨Xu [a'.eval (.tmp j)],_,_,Zll (a:=a') hrun,hk,hp2⟩
   ·cases hk
  ·cases hk
 ·split at hk
  ·rename_i z s2 hz;obtain⟨vs,S,F',k1,k2,k3⟩:=Zwl hτ h hz;have hp:=k3.pop hm hsz hd;split at hk
   ·exact⟨Xu vs,_,_,Zll (a:=a') (by rw[hrv];exact k1),hk,hp.drop⟩
   ·rename_i d;split at hk
    ·rename_i hdn;simp only[Oba,Nat.blt_eq]at hdn;obtain⟨F2,h2⟩:=R.putF hp hdn.1 hdn.2 k2;exact⟨Xu vs,_,F2,Zll (a:=a') (by rw[hrv];exact k1),hk,h2⟩
    ·cases hk
  ·cases hk
theorem Qn5{ρ:Type}{r:ρ}(hτ:τ.ok P){E:Zqg}(hE:Wg P g E)(h:R n W0 w X F [] s a){ts:List Tm}{vs:List Value}(hl:ts.length=vs.length)(hts: ∀(i:Nat) t,ts[i]? =some t-> ∃v,vs[i]? =some v/\vt W0.gh w X W0.B s F a v [] t)
  (hrun: (execOp a.eval o).run P w= .ok (.enter E.f vs.toArray) w) {k:St->Option ρ} (hr:Q54 τ n s o.dst E ts k=some r)
  {K:Act->World->Prop} {Q:Exit->Act->World->Prop} (hK: ∀v w' X' F' s',k s'=some r->R n W0 w' X' F' [] s' (a.put o.dst v)->K (a.put o.dst v) w'):o.wp P a w K Q:=by
 unfold Q54 at hr;split at hr
 ·rename_i hnp;have hnp:=Onb hnp;obtain⟨fn,c,hf,hb,hn,hrv,hcode⟩:=hE.code;have hP:=h.push (m:=E.n) hl (by rw[hnp];exact hE.le.1) hE.le.2 hts;unfold Oper.wp;rw[hrun,Oper.upon_enter];refine calls_of_wp hf hb ?_;rw[hn];refine wp_mono (hcode hr (fun p hp=>(hP.fix p hp).1) hP) fun e a' w' ⟨s',X',F',hk,hR⟩=> ?_;have fin:Q6w τ n E.rv s' o.dst k=some r->a'.defers=[]/\ ∃v,(results fn a'.tmps).run P w'= .ok v w'/\K (a.put o.dst v) w':=fun hk=>by
   obtain⟨v,s2,F2,g1,g2,g3⟩:=Qx7 hτ hR hE.le.2 h.size h.defers hrv hk;exact⟨hR.defers,v,g1,hK v w' X' F2 s2 g2 g3⟩
  cases e with
  |normal=>exact fin hk
  |ret=>exact fin hk
  |_=>cases hk
 ·cases hr
theorem Z1n(h:R n W0 w X F H s a): ∀{xs:List Operand} {es:List TypeId} {ts:List Tm},Ql6 τ s xs es=some ts->
  ts.length=xs.length/\ ∀(i:Nat) t,ts[i]? =some t-> ∃v,(xs.map a.eval)[i]? =some v/\vt W0.gh w X W0.B s F a v [] t
 | [],es,ts,ht=>by
  simp only[Ql6,Osi]at ht;subst ht;exact⟨rfl,fun i t h=>by simp at h⟩
 |x::xs,[],ts,ht=>by simp[Ql6]at ht
 |x::xs,e::es,ts,ht=>by
  simp only[Ql6]at ht;split at ht
  ·rename_i r us hr hu;simp only[Osi]at ht;subst ht;obtain⟨h1,h2⟩:=Z1n h hu;refine⟨by simp[h1],fun i t hi=> ?_⟩;cases i with
   |zero=>
    simp only[List.getElem?_cons_zero,Osi]at hi;subst hi;exact⟨a.eval x,by simp,(Q4a h (tg:=[]) (fun p hp=>by cases hp) hr).2⟩
   |succ i=>simpa using h2 i t (by simpa using hi)
  ·cases ht
end
end Go.Am

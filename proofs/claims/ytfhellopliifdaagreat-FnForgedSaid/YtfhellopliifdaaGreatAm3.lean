/- The abstract machine, part 3: what a piece of Go code does, as plain data, and that it does so. No condition. -/
import Derived.Test.YtfhellopliifdaaGreatAm2
import Derived.Great.BuildSlice
import Derived.WalkKit
set_option linter.all false
namespace Go.Am
open Go.RowKit
@[reducible] def Vm:List Ty->Type|[]=>Unit|t::ts=>t.den×Vm ts
def Zuh(w:World)(X:Nat->Prop)(B:Nat):(ts:List Ty)->Vm ts->List Value->Prop|[],_,vs=>vs=[]|t::ts,x,vs=> ∃cs us,vs=Yz t cs::us/\rd w X B false t x.1 cs []/\Zuh w X B ts x.2 us
def Zjl(w:World)(B:Nat):(ts:List Ty)->Vm ts->List Value->List Nat->Prop|[],_,vs,S=>vs=[]/\S=[]|t::ts,x,vs,S=> ∃cs us S1 S2,vs=Yz t cs::us/\S=S1++S2/\rd w (λ_=>False) B true t x.1 cs S1/\Zjl w B ts x.2 us S2
def Jq(vs:List Value):Value:=
 match vs with
 |[v]=>v
 |vs=>.tuple vs.toArray
structure FnE where
 f:FuncId
 args:List Ty
 res:List Ty
 F:Vm args->Option (Vm res)
structure Zn8(P:Program)(g:Kx)(e:FnE):Prop where
 enters:∀args w,(callFunc e.f args).run P w=.ok (.enter e.f args) w
 calls:∀(w:World)(xs:Vm e.args)(r:Vm e.res)(vals:List Value),g.G w->Zuh w (· <w.heap.size) 0 e.args xs vals->e.F xs=some r->
  Calls P e.f vals.toArray w λen w'=> ∃rs S,en=.returned (Jq rs)/\Zjl w' w.heap.size e.res r rs S/\S.Nodup/\Below w.heap.size w w'
abbrev Env:=List FnE
def Env.find(Γ:Env)(f:FuncId):Option FnE:=
 match Γ with
 |[]=>none
 |e::r=>match Nat.beq e.f f with|true=>some e|false=>Env.find r f
def Env.ok(Γ:Env)(P:Program)(g:Kx):Prop:= ∀e∈Γ,Zn8 P g e
theorem Env.find_ok{Γ:Env}{P:Program}{g:Kx}(h:Γ.ok P g){f:FuncId}{e:FnE}(he:Γ.find f=some e):e.f=f/\Zn8 P g e:=by
 induction Γ with
 |nil=>cases he
 |cons x r a=>
  simp only[Env.find]at he;split at he
  ·rename_i b;simp only[Osi]at he;subst he;exact⟨Onb b,h _ (by simp)⟩
  ·exact a (λe he=>h e (by simp[he])) he
variable {P:Program}{g:Kx}{W0:Zc6 g}{w w':World}{X X':Nat->Prop}{B B' n:Nat}{own:Bool}{s:St}{F:Key->List Nat}{a:Act}{H H':List Nat}{o:Oper}{tg:Ye}{τ:Tab}{gh:Nat->Value}
theorem Zgx(hB:B'<=B)(hX:∀b,X b->X' b):∀{T:Ty}{x:T.den}{vs:List Value}{S:List Nat},rd w X B own T x vs S->rd w X' B' own T x vs S
 |.unit,_,_,_,h|.int _,_,_,_,h|.bool,_,_,_,h|.fnc _,_,_,_,h|.str,_,_,_,h=>h
 |.slice _ _,_,_,_,⟨v,l,g,i,e,j,d,f⟩=>by
  refine⟨v,l,g,i,e,j,?_,Jy f λ_ _ _ _ _ h=>Zgx hB hX h⟩;cases own
  ·obtain⟨m,p,a,k,q,r,s,u⟩:=d;exact⟨m,p,a,k,q,r,s,u.imp id λ⟨z,A,C,D⟩=>⟨z,A,C.imp id (hX _),D⟩⟩
  ·exact⟨Z55 d.1 hB,d.2⟩
 |.pair a b,_,_,_,⟨E,F,g,i,e,j,d,f⟩=>⟨E,F,g,i,e,j,Zgx hB hX d,Zgx hB hX f⟩
 |.arr n t,_,_,_,⟨h,G⟩=>⟨h,Jy G λ_ _ _ _ _ h=>Zgx hB hX h⟩
 |.err,_,_,_,h=>h
 |.hid _,_,_,_,⟨e,y,h⟩=>⟨e,y,Zgx hB hX h⟩
 |.sptr ..,_,_,_,⟨e,o,b,c,d,f,H,I⟩=>⟨e,o,b,c,d,hX b f,H,Zgx hB hX I⟩
 |.clo ..,_,_,_,⟨e,J,d,f⟩=>⟨e,J,d,Zgx hB hX f⟩
def Ztc(s:St)(tg:Ye):(ts:List Ty)->List Operand->Option (Vm ts)
 |[],[]=>some ()
 |t::ts,x::xs=>match Zbw s (op1 s tg x) t,Ztc s tg ts xs with
  |some u,some us=>some (u,us)
  |_,_=>none
 |_,_=>none
theorem Zwe(h:R n W0 w X F H s a)(ht:tg.ok W0.gh a):∀{ts:List Ty}{xs:List Operand}{us:Vm ts},Ztc s tg ts xs=some us->Zuh w (· <w.heap.size) 0 ts us (xs.map a.eval)
 |[],[],us,_=>rfl
 |t::ts,x::xs,us,b=>by
  simp only[Ztc]at b;split at b
  ·rename_i u d e c;simp only[Osi]at b;subst b;obtain⟨f,g,i⟩:=Zci h ht e;exact⟨f,_,by simp[g],Zgx (Nat.zero_le _) (λ_ h=>h) i,Zwe h ht c⟩
  ·cases b
 |[],_::_,_,b=>by grind[Ztc]
 |_::_,[],_,b=>by grind[Ztc]
def Qew(d:Nat):(ts:List Ty)->Vm ts->Nat->List (Key×Tm)->List (Key×Tm)|[],_,_,r=>r|t::ts,x,i,r=>Qew d ts x.2 (i+1) ((.c d i,.val t (.u true) x.1)::r)
def Qd8(d:Nat)(s:St):(ts:List Ty)->Vm ts->St|[t],r=>Jd s d (.val t (.u true) r.1)|[],r=>{env:=Qew d [] r 0 (Jd s d .tup).env,dirty:=(Jd s d .tup).dirty,lent:=s.lent}|t::u::ts,r=>{env:=Qew d (t::u::ts) r 0 (Jd s d .tup).env,dirty:=(Jd s d .tup).dirty,lent:=s.lent}
def Q5k{ρ:Type}(Γ:Env)(n:Nat)(s:St)(tg:Ye)(dst:Option Nat)(f:FuncId)(xs:List Operand)(k:St->Option ρ):Option ρ:=
 match Γ.find f with
 |none=>none
 |some e=>match Ztc s tg e.args xs with
  |none=>none
  |some us=>match dst with
   |none=>(e.F us).bind λ_=>k s
   |some d=>match Wn s d&&Nat.blt d n with
    |false=>none
    |true=>(e.F us).bind λr=>k (Qd8 d s e.res r)
theorem R.below'(h:R n W0 w X F H s a)(hb:Below w.heap.size w w'):R n W0 w' X F H s a:=
 h.world (h.below.step hb) hb.size (λb c=>hb.block b (h.xlt b c)) (λk b c=>hb.block b (h.own k b c).2.1)
theorem Qji:∀{ts:List Ty}{x:Vm ts}{rs:List Value}{S:List Nat},Zjl w B ts x rs S->rs.length=ts.length
 |[],_,_,_,h=>by simp[h.1]
 |t::ts,_,_,_,⟨_,_,_,_,e,_,_,h⟩=>by simp[e,Qji h]
theorem Zug{rs:List Value}(h:rs.length≠1):Jq rs=.tuple rs.toArray:=by
 unfold Jq
 grind
theorem R.putTup{d:Nat}{vs:List Value}{ts:List Ty}{x:Vm ts}{S:List Nat}(h:R n W0 w X F (S++H) s a)(hd:Wn s d=true)(hn:d<n)(hx:Zjl w W0.B ts x vs S):
  ∃F',R n W0 w X F' H {env:=Qew d ts x 0 (Jd s d .tup).env,dirty:=(Jd s d .tup).dirty,lent:=s.lent} (a.put (some d) (.tuple vs.toArray)):=by
 have Q:R n W0 w X (Xb F (.m d) []) (S++H) (Jd s d .tup) (a.put (some d) (.tuple vs.toArray)):=(by simpa using h:R n W0 w X F ([]++(S++H)) s a).put hd hn rfl;have q:Zqf W0.gh (a.put (some d) (.tuple vs.toArray)) d=.tuple vs.toArray:=Zrg (a:=a) (by rw[h.size];exact hn);have G:∀i,(Jd s d .tup).get (.c d i)=.junk:=λi=>by
  rw[Zpa];simp only[reduceCtorEq,if_false];exact Classical.byContradiction λv=>by have:=(h.comps d i v).1;simp_all[Wn]
 suffices hs:∀(ts:List Ty)(x:Vm ts)(E:List Value)(i:Nat)(S:List Nat)(F:Key->List Nat)(r:List (Key×Tm))(pre:List Value),vs=pre++E->pre.length=i->Zjl w W0.B ts x E S->
   R n W0 w X F (S++H) {env:=r,dirty:=(Jd s d .tup).dirty,lent:=s.lent} (a.put (some d) (.tuple vs.toArray))->Zka r (.m d)=.tup->(∀j,i<=j->Zka r (.c d j)=.junk)->
   ∃F',R n W0 w X F' H {env:=Qew d ts x i r,dirty:=(Jd s d .tup).dirty,lent:=s.lent} (a.put (some d) (.tuple vs.toArray)) by
  obtain⟨F',y⟩:=hs ts x vs 0 S _ (Jd s d .tup).env [] rfl rfl hx Q (Zx0 _ _ _) (λj _=>G j)
  grind
 intro ts
 induction ts with
 |nil=>
  intro x E i S F r pre _ _ hx f _ _;obtain⟨rfl,rfl⟩:=hx;exact⟨F,f⟩
 |cons t ts U=>
  intro x E i S F r pre I z hx f A o;obtain⟨J,K,N,O,rfl,rfl,L,M⟩:=hx
  have p:Q2 W0.gh (a.put (some d) (.tuple vs.toArray)) (.c d i)=Yz t J:=by
   simp_all[Q2]
  have C:R n W0 w X (Xb F (.c d i) N) (O++H) {env:=(.c d i,.val t (.u true) x.1)::r,dirty:=(Jd s d .tup).dirty,lent:=s.lent} (a.put (some d) (.tuple vs.toArray)):=by
   have V:F (.c d i)=[]:=by
    have:=f.slots (.c d i);simp only[St.get,o i (Nat.le_refl _)]at this;exact this
   have D:=f.hnodup;rw[List.append_assoc]at D;exact
   {size:=f.size
    defers:=f.defers
    below:=f.below
    glob:=f.glob
    gx:=f.gx
    xs:=f.xs
    fix:=f.fix
    xlt:=f.xlt
    xin:=f.xin
    x0:=f.x0
    own:=λk b g=>by
     simp only[Xb]at g;split at g
     ·exact f.hown b (by simp[g])
     ·exact f.own k b g
    nodup:=λk=>by
     simp only[Xb];split
     ·grind
     ·exact f.nodup k
    disj:=λk P b g l=>by
     simp only[Xb]at g l;split at g<;>split at l
     ·simp_all
     ·exact absurd (by simp[g]) (f.hdisj P b l)
     ·exact absurd (by simp[l]) (f.hdisj k b g)
     ·exact f.disj k P b g l
    hown:=λb g=>f.hown b (by simp_all)
    hnodup:=(List.nodup_append.1 D).2.1
    hdisj:=λk b g hh=>by
     simp only[Xb]at g;split at g
     ·grind
     ·exact f.hdisj k b g (by simp_all)
    comps:=λW j v=>by
     simp only[St.get,Z7]at v⊢;simp only[reduceCtorEq,if_false];split at v
     ·rename_i e;simp only[Key.c.injEq]at e;obtain⟨rfl,rfl⟩:=e;refine⟨A,vs.toArray,q,?_⟩;simp_all
     ·exact f.comps W j v
    slots:=λk=>by
     by_cases hk:k=.c d i
     ·subst hk;simp only[St.get,Z7,if_true,Xb];exact⟨J,p,by unfold rdF;exact Zgx (Nat.le_refl _) (λ_ h=>h.elim) L⟩
     ·have Y:St.get {env:=(Key.c d i,Tm.val t (.u true) x.1)::r,dirty:=(Jd s d .tup).dirty,lent:=s.lent} k=St.get {env:=r,dirty:=(Jd s d .tup).dirty,lent:=s.lent} k:=by simp[St.get,Z7,Ne.symm hk]
      have Z:Xb F (.c d i) N k=F k:=by simp[Xb,hk]
      rw[Y,Z];exact Qmt (s:={env:=r,dirty:=(Jd s d .tup).dirty,lent:=s.lent}) (f.slots k)}
  obtain⟨F',y⟩:=U x.2 K (i+1) O _ _ (pre++[Yz t J]) (by rw[I];simp) (by simp[z]) M C (by simp_all[Z7]) (λj hj=>by
   rw[Z7,if_neg (by simp;omega)];grind)
  exact⟨F',y⟩
theorem R.putRes{d:Nat}{rs:List Value}:∀{ts:List Ty}{x:Vm ts}{S:List Nat},R n W0 w X F (S++H) s a->Wn s d=true->d<n->Zjl w W0.B ts x rs S->
  ∃F',R n W0 w X F' H (Qd8 d s ts x) (a.put (some d) (Jq rs))
 |[],x,S,h,b,c,hx=>by
  rw[Zug (by rw[Qji hx];simp)];exact h.putTup b c hx
 |[t],x,S,h,b,c,hx=>by
  obtain⟨e,f,i,j,rfl,rfl,g,rfl,rfl⟩:=hx;exact⟨_,h.put b c ⟨e,rfl,by unfold rdF;exact Zgx (Nat.le_refl _) (λ_ (h:False)=>h.elim) (by simpa using g)⟩⟩
 |t::u::ts,x,S,h,b,c,hx=>by
  rw[Zug (by rw[Qji hx];simp)];exact h.putTup b c hx
def Qqg(s:St)(tg:Ye)(x:Operand):Option FuncId:=
 match Zxa s (op1 s tg x)with
 |some ⟨.fnc f,_,_⟩=>some f
 |_=>none
theorem Zog(h:R n W0 w X F H s a)(ht:tg.ok W0.gh a){x:Operand}{f:FuncId}(hf:Qqg s tg x=some f):a.eval x=.func (.func f) #[] #[]:=by
 unfold Qqg at hf;split at hf
 ·rename_i g k y d;simp only[Osi]at hf;subst hf;obtain⟨c,l,S,e,i,_⟩:=Zji h ht d;have j:=Vc (X':=λb=>X b\/b∈S) (λ_ h=>.inl h) c i (λ_ h=>.inr h);rw[e,j.1];rfl
 ·cases hf
theorem Qcd{Γ:Env}(hΓ:Γ.ok P g)(h:R n W0 w X F H s a)(ht:tg.ok W0.gh a){f:FuncId}{fo:Operand}(hfo:a.eval fo=.func (.func f) #[] #[]){xs:Array Operand}{ats:Array TypeId}(ho:o.op=.call {callee:=.value fo,args:=xs,argTypes:=ats}){e:FnE}(he:Γ.find f=some e)
  {us:Vm e.args} (hus:Ztc s tg e.args xs.toList=some us) {rv:Vm e.res} (hpre:e.F us=some rv) {K:Act->World->Prop}{Q:Exit->Act->World->Prop}
  (hK:∀rs S w',R n W0 w' X F (S++H) s a->Zjl w' W0.B e.res rv rs S->Old w w'->K (a.put o.dst (Jq rs)) w'):o.wp P a w K Q:=by
 obtain⟨z,l⟩:=Env.find_ok hΓ he;subst z;have A:=l.calls w us rv (xs.toList.map a.eval) h.glob (Zwe h ht hus) hpre;have m:(execOp a.eval o).run P w=.ok (.enter e.f (xs.toList.map a.eval).toArray) w:=by
  have:execOp a.eval o=callFunc e.f (xs.map a.eval):=by
   simp_all[execOp,resolve,Deferred.ofValue,invoke]
  rw[this,l.enters];congr 2
  grind
 unfold Oper.wp;rw[m,Oper.upon_enter];refine A.mono λE w' ⟨rs,S,u,p,v,q⟩=>?_;subst u;show K (a.put o.dst (Jq rs)) w';have r:∀{i:List Ty}{x:Vm i}{rs:List Value}{S:List Nat},Zjl w' w.heap.size i x rs S->(∀b∈S,w.heap.size<=b/\b<w'.heap.size)/\Zjl w' W0.B i x rs S:=by
  intro i
  induction i with
  |nil=>intro x rs S h;exact⟨by simp[h.2],h⟩
  |cons t i C=>
   intro x rs S ⟨cs,us,S1,S2,e1,e2,g1,g2⟩;obtain⟨G,D⟩:=C g2;refine⟨λb j=>?_,cs,us,S1,S2,e1,e2,Zgx h.below.sizeB (λ_ h=>h) g1,D⟩
   grind[Zzg]
 obtain⟨c,d⟩:=r p;exact hK rs S w' ((h.below' q).hand (λb j=>⟨.inl (Nat.le_trans h.below.size (c b j).1),(c b j).2,λhx=>by have:=h.xlt b hx;grind⟩) v
  (λk b j y=>by have:=(h.own k b j).2.1;grind) (λb j y=>by have:=(h.hown b y).2.1;grind)) d (λk hk=>q.block k hk)
theorem Qu7{ρ:Type}{Γ:Env}(hΓ:Γ.ok P g)(h:R n W0 w X F H s a)(ht:tg.ok W0.gh a){f:FuncId}{fo:Operand}(hfo:a.eval fo=.func (.func f) #[] #[]){xs:Array Operand}{ats:Array TypeId}(ho:o.op=.call {callee:=.value fo,args:=xs,argTypes:=ats}){k:St->Option ρ}{r:ρ}(hr:Q5k Γ n s tg o.dst f xs.toList k=some r)
  {K:Act->World->Prop}{Q:Exit->Act->World->Prop} (hK:∀v w' F' s',k s'=some r->R n W0 w' X F' H s' (a.put o.dst v)->Old w w'->K (a.put o.dst v) w'):o.wp P a w K Q:=by
 unfold Q5k at hr;split at hr
 ·cases hr
 ·rename_i e m;split at hr
  ·cases hr
  ·rename_i u i;cases hd:o.dst with
   |none=>
    rw[hd]at hr;simp only[Option.bind_eq_some_iff]at hr;obtain⟨q,c,hk⟩:=hr;refine Qcd hΓ h ht hfo ho m i c λp S w' l b hold=>?_;have j:=hK (Jq p) w' F s hk;rw[hd]at j⊢;exact j l.drop hold
   |some d=>
    rw[hd]at hr;simp only at hr;split at hr
    ·cases hr
    ·rename_i hdn;simp only[Oba,Nat.blt_eq]at hdn;simp only[Option.bind_eq_some_iff]at hr;obtain⟨q,c,hk⟩:=hr;refine Qcd hΓ h ht hfo ho m i c λp S w' l b hold=>?_;obtain⟨F',t⟩:=l.putRes hdn.1 hdn.2 b
     grind
def Qlx(k d:Nat):List (Key×Tm)->List (Key×Tm)
 |[]=>[]
 |(.c t i,x)::r=>match Nat.beq t k with
  |true=>(.c d i,x)::Qlx k d r
  |false=>match Nat.beq t d with
   |true=>Qlx k d r
   |false=>(.c t i,x)::Qlx k d r
 |(.m t,x)::r=>(.m t,x)::Qlx k d r
theorem Qpm(k d t:Nat):∀l,Zka (Qlx k d l) (.m t)=Zka l (.m t)
 |[]=>rfl
 |(.c a i,x)::r=>by
  simp only[Qlx];split
  ·simp only[Z7,reduceCtorEq,if_false,Qpm k d t r]
  ·split
   ·simp only[Z7,reduceCtorEq,if_false,Qpm k d t r]
   ·simp only[Z7,reduceCtorEq,if_false,Qpm k d t r]
 |(.m a,x)::r=>by simp only[Qlx,Z7,Qpm k d t r]
theorem Qzq{k d:Nat}(hkd:k≠d)(t i:Nat):∀l,Zka (Qlx k d l) (.c t i)=if t=d then Zka l (.c k i)else if t=k then .junk else Zka l (.c t i)
 |[]=>by simp[Qlx,Zka]
 |(.c a j,x)::r=>by
  have b:=Qzq hkd t i r;simp only[Qlx];split
  ·rename_i h;have h:=Onb h;subst h;simp only[Z7,b,Key.c.injEq]
   grind
  ·rename_i h;have f:a≠k:=λe=>by simp_all
   split
   ·simp_all[Z7,Ne.symm]
   grind[Nat.beq_refl,Z7]
 |(.m a,x)::r=>by simp only[Qlx,Z7,reduceCtorEq,if_false,Qzq hkd t i r]
def Qk0(s:St)(k d:Nat):St:={env:=Qlx k d ((.m d,.tup)::s.env),dirty:=(Jd s d .tup).dirty,lent:=s.lent}
variable {s1 s2:St}{F1 F2:Key->List Nat}
theorem Xlb(hg:∀t,s2.get (.m t)=s1.get (.m t))(hd:s2.dirty=s1.dirty)(hF:∀t,F2 (.m t)=F1 (.m t)){v:Value}{S:List Nat}:∀{u:Tm},vt gh w X B s1 F1 a v S u->vt gh w X B s2 F2 a v S u:=by
 have s:∀r,s2.foul r=s1.foul r:=λr=>by simp_all[St.foul]
 have hv:∀{r p v U},Xw gh w s1 F1 a r p v U->Xw gh w s2 F2 a r p v U:=by
  simp_all[Xw]
 intro u h
 induction u with
 |junk=>exact h
 |tup=>exact h
 |val=>exact h
 |box=>exact h
 |shp=>exact h
 |ptr r p=>
  obtain⟨z,e,T,f,x,b,j,c,d,k⟩:=h;exact⟨z,e,T,f,x,b,j,by rw[hg];exact c,by rw[hF];exact d,k⟩
 |aep r p i=>
  obtain⟨z,e,T,f,x,b,j,n,D,y,c,d,k⟩:=h;exact⟨z,e,T,f,x,b,j,n,D,y,by rw[hg];exact c,by rw[hF];exact d,k⟩
 |bor r p=>exact⟨h.1,λo=>let⟨U,hU⟩:=h.2 (Z3f (λr h=>(s r).symm.trans h) o);⟨U,hv hU⟩⟩
 |elp r p i q=>exact⟨h.1,λo=>let⟨e,t,ad,m,cap,c,d⟩:=h.2 (Z3f (λr h=>(s r).symm.trans h) o);⟨e,t,ad,m,cap,hv c,d⟩⟩
 |bel r p i q=>exact⟨h.1,λo E=>let⟨e,t,ad,m,cap,x0,y,cs,c,k1,k2,k3,d⟩:=h.2 (Z3f (λr h=>(s r).symm.trans h) o) ((s _).symm.trans E);⟨e,t,ad,m,cap,x0,y,cs,hv c,k1,k2,by rw[hF];exact k3,d⟩⟩
 |cl f l=>
  refine⟨h.1,Z7s (λr p v A=>?_) h.2⟩;obtain⟨e,T,f,x,b,j,c,d,k⟩:=A;exact⟨e,T,f,x,b,j,by rw[hg];exact c,by rw[hF];exact d,k⟩
 |pls F l=>
  refine⟨h.1,Zxg (λ_ h=>h) (λ_ _=>rfl) (λr p v A=>?_) h.2⟩;obtain⟨e,T,f,x,b,j,c,d,k⟩:=A;exact⟨e,T,f,x,b,j,by rw[hg];exact c,by rw[hF];exact d,k⟩
 |gd g C u G=>
  intro o;obtain⟨z,c,d⟩:=h (by simp_all);simp_all
def Qef(k d:Nat):Key->Option Key|.m t=>if t=d then none else some (.m t)|.c t i=>if t=d then some (.c k i)else if t=k then none else some (.c t i)
theorem Q8h{k d:Nat}{x y j:Key}(hx:Qef k d x=some j)(hy:Qef k d y=some j):x=y:=by
 cases x with
 |m t=>
  simp only[Qef]at hx;split at hx
  ·cases hx
  ·cases hx;cases y with
   |m u=>
    simp_all[Qef]
   |c u i=>
    grind[Qef]
 |c t i=>
  cases y with
  |m u=>
   grind[Qef]
  |c u a=>
   simp only[Qef]at hx hy
   grind
theorem R.tupTo{k d:Nat}(h:R n W0 w X F [] s a)(hk:s.get (.m k)=.tup)(hd:Wn s d=true)(hn:d<n):
  ∃F',R n W0 w X F' [] (Qk0 s k d) (a.put (some d) (Q2 W0.gh a (.m k))):=by
 have K:k≠d:=λe=>by simp_all[Wn]
 let F':Key->List Nat:=λx=>match Qef k d x with|some j=>F j|none=>[]
 have E:∀t,(Go.Am.Qk0 s k d).get (.m t)=if d=t then .tup else s.get (.m t):=λt=>by
  simp_all[Go.Am.Qk0,St.get,Qpm,Z7]
 have G:∀t i,(Go.Am.Qk0 s k d).get (.c t i)=if t=d then s.get (.c k i)else if t=k then .junk else s.get (.c t i):=λt i=>by
  simp_all[Go.Am.Qk0,St.get,Qzq,Z7]
 have l:∀{x b},b∈F' x-> ∃j,Qef k d x=some j/\b∈F j:=by
  grind
 have g:∀{v S u},vt W0.gh w X W0.B s F a v S u->vt W0.gh w X W0.B (Go.Am.Qk0 s k d) F' (a.put (some d) (Q2 W0.gh a (.m k))) v S u:=by
  intro v S u hv;refine Xlb (s1:=Jd s d .tup) (s2:=Go.Am.Qk0 s k d) (F1:=Xb F (.m d) []) (F2:=F') (λt=>?_) rfl (λt=>?_) (Q0d (t:=.tup) (v0:=Q2 W0.gh a (.m k)) (S0:=[]) hd hv)
  ·grind[Zpa]
  ·simp only[F',Qef,Xb,Key.m.injEq]
   grind
 have H:Q2 W0.gh (a.put (some d) (Q2 W0.gh a (.m k))) (.m d)=Q2 W0.gh a (.m k):=Zrg (a:=a) (by rw[h.size];exact hn);have o:∀i,Q2 W0.gh (a.put (some d) (Q2 W0.gh a (.m k))) (.c d i)=Q2 W0.gh a (.c k i):=λi=>by
  simp_all[Q2]
 refine⟨F',?_⟩;exact
  {size:=by simp[Act.put,h.size]
   defers:=by simp[Act.put,h.defers]
   below:=h.below
   glob:=h.glob
   gx:=h.gx
   xs:=h.xs
   fix:=λp z=>⟨(h.fix p z).1,by
    have:=Qns hd;have f:p.1≠d:=λe=>this (e▸(h.fix p z).1);rw[Zfw (by simp_all[Key.t])];exact(h.fix p z).2⟩
   xlt:=h.xlt
   xin:=h.xin
   x0:=h.x0
   own:=λx b A=>let⟨j,_,hj⟩:=l A;h.own j b hj
   nodup:=λx=>by
    simp only[F'];split
    ·exact h.nodup _
    ·simp
   disj:=λx y b A C=>by
    obtain⟨j,I,q⟩:=l A;obtain⟨L,N,M⟩:=l C;have:=h.disj j L b q M
    grind[Q8h]
   hown:=by simp
   hnodup:=by simp
   hdisj:=by simp
   comps:=λD i f=>by
    rw[G]at f;rw[E];by_cases e:D=d
    ·subst e;simp only[if_true]at f⊢;obtain⟨_,J,I,q⟩:=h.comps k i f;simp_all
    ·by_cases r:D=k
     ·simp_all
     ·simp only[e,r,if_false]at f;obtain⟨O,J,I,q⟩:=h.comps D i f;refine⟨by simp_all,J,?_,q⟩
      grind[Zfw,Key.t]
   slots:=λx=>by
    cases x with
    |m t=>
     rw[E];by_cases e:d=t
     ·subst e;simp only[if_true,F',Qef];rfl
     ·have:F' (.m t)=F (.m t):=by simp[F',Qef,Ne.symm e]
      rw[this,Zfw (by simp_all[Key.t,Ne.symm])];simp only[e,if_false];exact g (h.slots (.m t))
    |c t i=>
     rw[G];by_cases e:t=d
     ·subst e;have:F' (.c t i)=F (.c k i):=by simp[F',Qef]
      rw[this,o];simp only[if_true];exact g (h.slots (.c k i))
     ·by_cases r:t=k
      ·subst r;have:F' (.c t i)=[]:=by grind[Qef]
       rw[this];simp only[e,if_false,if_true];rfl
      ·have:F' (.c t i)=F (.c t i):=by grind[Qef]
       rw[this,Zfw (by simp_all[Key.t])];simp only[e,r,if_false];exact g (h.slots (.c t i))}
structure FnL where
 f:FuncId
 e:TypeId
 t:Ty
 args:List Ty
 res:List Ty
 F:List t.den->Vm args->Option (Vm res×List t.den)
structure Qej(P:Program)(g:Kx)(e:FnL):Prop where
 flat:e.t.flat=true
 enters:∀args w,(callFunc e.f args).run P w=.ok (.enter e.f args) w
 calls:∀(w:World)(X:Nat->Prop)(L:List Nat)(l l':List e.t.den)(xs:Vm e.args)(r:Vm e.res)(v:Value)(vals:List Value),g.G w->(∀b,g.GB b->X b)->(∀b,X b->b<w.heap.size)->(∀b∈L,¬X b)->L.Nodup->
  rd w X 0 true (.slice e.e e.t) l [v] L->Zuh w X 0 e.args xs vals->e.F l xs=some (r,l')->
  Calls P e.f (v::vals).toArray w λen w'=> ∃rs S,en=.returned (Jq rs)/\Zjl w' w.heap.size e.res r rs S/\S.Nodup/\(∃X',rd w' X' 0 true (.slice e.e e.t) l' [v] L)/\
   w'.os=w.os/\w'.tape=w.tape/\w'.output=w.output/\w.heap.size<=w'.heap.size/\ ∀b,b<w.heap.size->b∉L->w'.heap[b]? =w.heap[b]?
abbrev Z5d:=List FnL
def Z5d.find(Γ:Z5d)(f:FuncId):Option FnL:=
 match Γ with
 |[]=>none
 |e::r=>match Nat.beq e.f f with|true=>some e|false=>Z5d.find r f
def Z5d.ok(Γ:Z5d)(P:Program)(g:Kx):Prop:= ∀e∈Γ,Qej P g e
theorem Z5d.find_ok{Γ:Z5d}{P:Program}{g:Kx}(h:Γ.ok P g){f:FuncId}{e:FnL}(he:Γ.find f=some e):e.f=f/\Qej P g e:=by
 induction Γ with
 |nil=>cases he
 |cons x r a=>
  simp only[Z5d.find]at he;split at he
  ·rename_i b;simp only[Osi]at he;subst he;exact⟨Onb b,h _ (by simp)⟩
  ·exact a (λe he=>h e (by simp[he])) he
def Z6e(s:St):Op1->Option Nat
 |.tm k (.val _ _ _)=>some k
 |.tm _ (.bor r [])=>match s.bad r []with|false=>some r|true=>none
 |_=>none
def Qn4(ts:List Ty):Bool:=ts.all Ty.flat
def Q7c(e:FnL):Tm->Option (List e.t.den×(List e.t.den->Tm))
 |.val T (.u true) y=>match J8 (.slice e.e e.t) T y with|some l=>some (l,λz=>.val (.slice e.e e.t) (.u true) z)|none=>none
 |.box k T (.u true) y=>match J8 (.slice e.e e.t) T y with|some l=>some (l,λz=>.box k (.slice e.e e.t) (.u true) z)|none=>none
 |_=>none
noncomputable def Q7b{ρ:Type}(Γ:Z5d)(n:Nat)(s:St)(dst:Option Nat)(f:FuncId)(xs:List Operand)(k:St->Option ρ):Option ρ:=
 match Γ.find f,xs with
 |some e,x0::rest=>match Z6e s (op1 s [] x0)with
  |some q=>match Q7c e (s.get (.m q)),Ztc s [] e.args rest,Qn4 e.args with
   |some lm,some us,true=>match dst with
    |none=>(e.F lm.1 us).bind λz=>k (Zzj s q (lm.2 z.2))
    |some d=>match Wn (Zzj s q (lm.2 lm.1)) d&&Nat.blt d n with
     |true=>(e.F lm.1 us).bind λz=>k (Qd8 d (Zzj s q (lm.2 z.2)) e.res z.1)
     |false=>none
   |_,_,_=>none
  |none=>none
 |_,_=>none
theorem Z9d:∀{ts:List Ty}{xs:Vm ts}{vs:List Value},Qn4 ts=true->Zuh w X B ts xs vs->Zuh w X' B ts xs vs
 |[],_,_,_,h=>h
 |t::ts,xs,vs,a,⟨b,c,d,e,f⟩=>by
  simp only[Qn4,List.all_cons,Oba]at a;exact⟨b,c,d,(Zgy a.1 e).2,Z9d a.2 f⟩
theorem Ztb{own':Bool}{w w':World}{X X':Nat->Prop}{B B':Nat}{own:Bool}:∀{T:Ty}{x:T.den}{vs:List Value}{S:List Nat},T.flat=true->
  rd w X B own T x vs S->S=[]/\rd w' X' B' own' T x vs []
 |.unit,_,_,_,_,h|.int _,_,_,_,_,h|.bool,_,_,_,_,h|.fnc _,_,_,_,_,h|.str,_,_,_,_,h=>⟨h.2,h.1,rfl⟩
 |.slice _ _,_,_,_,c,_=>by grind[Ty.flat]
 |.pair a b,_,_,_,c,⟨d,f,q,r,e,g,i,j⟩=>by
  simp only[Ty.flat,Oba]at c;obtain⟨rfl,m⟩:=Ztb c.1 i;obtain⟨rfl,o⟩:=Ztb c.2 j;exact⟨by simp[g],d,f,[],[],e,rfl,m,o⟩
 |.arr n t,_,_,_,c,⟨h,p⟩=>by
  obtain⟨e,k⟩:=Ziy (r':=rd w' X' B' own' t) (λx v S h=>Ztb (by simp_all[Ty.flat]) h) p;exact⟨e,h,k⟩
 |.err,_,_,_,_,h=>⟨h.2,h.1,rfl⟩
 |.hid _,_,_,_,c,⟨l,y,h⟩=>let⟨e,k⟩:=Ztb (by simp_all[Ty.flat]) h;⟨e,l,y,k⟩
 |.sptr ..,_,_,_,c,_=>by grind[Ty.flat]
 |.clo ..,_,_,_,c,_=>by grind[Ty.flat]
theorem Qt5{w w':World}{B:Nat}{e:TypeId}{sz nn nn':Nat}{v:Value}{xs xs':List Value}(h:w.ownsRow B e sz v nn xs)(h':w'.ownsRow 0 e sz v nn' xs'):w'.ownsRow B e sz v nn' xs':=by
 refine⟨h'.1,h'.2.imp id λ⟨b,a,c,g,k,i⟩=>⟨b,a,c,g,?_,i⟩⟩;rcases h.2 with⟨j,_⟩|⟨l,d,f,j,m,_⟩
 all_goals simp_all
theorem Q17{w w':World}{X X' X'':Nat->Prop}{B:Nat}{e:TypeId}{t:Ty}{l l':List t.den}{v:Value}{L L':List Nat}(hf:t.flat=true)(h:rd w X B true (.slice e t) l [v] L)(h':rd w' X' 0 true (.slice e t) l' [v] L'):rd w' X'' B true (.slice e t) l' [v] L':=by
 obtain⟨p,f,q,r,b,s,g,u⟩:=h;obtain⟨y,a,i,j,c,k,d,m⟩:=h';simp only[List.cons.injEq,and_true]at b c;subst b;subst c;obtain⟨n,o⟩:=Ziy (r':=rd w' X'' B true t) (λx v S h=>Ztb hf h) m;exact⟨_,a,i,j,rfl,k,⟨Qt5 g.1 d.1,d.2⟩,by rw[n];exact o⟩
theorem Qg3(h:R n W0 w X F H s a){x:Operand}{q:Nat}(hq:Z6e s (op1 s [] x)=some q){T:Ty}{f:Fl}{y:T.den}(hg:s.get (.m q)=.val T f y):a.eval x=Q2 W0.gh a (.m q):=by
 unfold Z6e at hq;split at hq
 ·rename_i k c d e hx;simp only[Osi]at hq;subst hq;obtain⟨rfl,g,_⟩:=Zpx hx;simp_all[Yr]
 ·rename_i k r hx;obtain⟨rfl,_,i⟩:=Jx h (tg:=[]) (λp b=>by cases b) hx (by simp)
  grind[Xw]
 ·cases hq
theorem Qwk(h:R n W0 w X F H s a){e:FnL}(_hf:e.t.flat=true){x:Operand}{q:Nat}(hq:Z6e s (op1 s [] x)=some q){lm:List e.t.den×(List e.t.den->Tm)}(hl:Q7c e (s.get (.m q))=some lm):
  ∃v L,a.eval x=v/\rd w X W0.B true (.slice e.e e.t) lm.1 [v] L/\(∀b∈L,b∈F (.m q))/\L.Nodup/\s.get (.m q)≠ .tup/\
   (∀z e T f x b S,s.get (.m q)=.box e T f x->F (.m q)=b::S-> ∃f' x' S'',lm.2 z=.box e T f' x'/\F (.m q)=b::S'')/\
   (∀z d,Wn (Zzj s q (lm.2 lm.1)) d=true->Wn (Zzj s q (lm.2 z)) d=true)/\
   ∀z w',(∀b,b<w.heap.size->b∉L->w'.heap[b]? =w.heap[b]?)->Z6n W0.gh w w' s (Zzj s q (lm.2 z)) F F a q (lm.2 z)/\
    (rd w' X W0.B true (.slice e.e e.t) z [v] L->vt W0.gh w' X W0.B (Zzj s q (lm.2 z)) F a (Q2 W0.gh a (.m q)) (F (.m q)) (lm.2 z)):=by
 have o:∀{T:Ty}{y:T.den}{l:List e.t.den},J8 (.slice e.e e.t) T y=some l->T=.slice e.e e.t/\HEq y l:=by
  simp_all[J8]
 have O:=h.slots (.m q);unfold Q7c at hl;split at hl
 ·rename_i T y A;split at hl
  ·rename_i l V;obtain⟨rfl,j⟩:=o V;have j:=eq_of_heq j;subst j;simp only[Osi]at hl;subst hl;rw[A]at O;obtain⟨vs,hv,g⟩:=O;unfold rdF at g;obtain⟨v,rfl⟩:∃v,vs=[v]:=List.length_eq_one_iff.1 (Y6 g);have hv:Q2 W0.gh a (.m q)=v:=hv;refine⟨v,F (.m q),(Qg3 h hq A).trans hv,g,λ_ P=>P,h.nodup _,by rw[A];simp,(λz e T f x b S P=>by simp_all),λz d u=>?_,λz w' _=>⟨Zum ⟨by rw[Jz];simp,λp v U hv=>?_⟩,λhr=>⟨[v],by rw[hv];rfl,by grind[rdF]⟩⟩⟩
   ·unfold Wn at u⊢;rw[Jz]at u⊢;by_cases C:Key.m q=Key.m d
    ·rw[if_pos C]at u⊢;exact u
    ·rw[if_neg C]at u⊢;exact u
   grind[Xw,Jz]
  ·cases hl
 ·rename_i k T y A;split at hl
  ·rename_i l V;obtain⟨rfl,j⟩:=o V;have j:=eq_of_heq j;subst j;simp only[Osi]at hl;subst hl;rw[A]at O;obtain⟨b,c,Q,hv,G,P,g⟩:=O;unfold rdF at g;obtain⟨v,I⟩:∃v,c.toList=[v]:=List.length_eq_one_iff.1 (Y6 g);rw[I]at g;have aa:b∉Q:=λhm=>by have:=h.nodup (.m q);simp_all
   have ab:b<w.heap.size:=(h.own (.m q) b (by rw[G];simp)).2.1;have W:a.eval x=v:=by
    unfold Z6e at hq;split at hq
    ·rename_i k' T' f' y' hx;simp only[Osi]at hq;subst hq;obtain⟨_,_,J⟩:=Zpx hx;rw[A]at J;cases J
    ·rename_i k' r hx;obtain⟨rfl,_,h2⟩:=Jx h (tg:=[]) (λp hp=>by cases hp) hx (by simp);split at hq
     ·rename_i D;simp only[Osi]at hq;subst hq;obtain⟨U,Y⟩:=h2 D;unfold Xw at Y;rw[A]at Y;obtain⟨b',c',S'',y',E,K,M,rfl,Z⟩:=Y;rw[G]at E;simp only[List.cons.injEq]at E;obtain⟨rfl,rfl⟩:=E;rw[P]at K;simp only[Osi,Obj.cells.injEq,and_true]at K;simp only[Zh2,Osi]at M;subst M;rw[Z,<-K,I];rfl
     ·cases hq
    ·cases hq
   refine⟨v,Q,W,g,λb' ad=>by simp_all,by have:=h.nodup (.m q);simp_all,by rw[A];simp,λz K T f x b2 S N ae=>?_,λz d u=>?_,λz w' hw=>⟨Zum ⟨by rw[Jz];simp,λp v U hv=>?_⟩,λhr=>⟨b,c,Q,hv,G,by simp_all,by simp_all[rdF]⟩⟩⟩
   ·rw[A]at N;cases N;simp_all
   ·unfold Wn at u⊢;rw[Jz]at u⊢;by_cases C:Key.m q=Key.m d
    ·simp_all
    ·rw[if_neg C]at u⊢;exact u
   ·unfold Xw at hv⊢;rw[A]at hv;rw[Jz];simp only[if_true];obtain⟨b',c',S'',y',E,K,M,Z,e5⟩:=hv;rw[G]at E;simp only[List.cons.injEq]at E;obtain⟨rfl,rfl⟩:=E;cases p with
    |nil=>
     simp only[Zh2,Osi]at M;subst M;exact⟨b,c',Q,_,G,by simp_all,rfl,Z,e5⟩
    |cons i p=>grind[Zh2,fld]
  ·cases hl
 ·cases hl
theorem Qwj{ρ:Type}{Γ:Z5d}(hΓ:Γ.ok P g)(h:R n W0 w X F [] s a){f:FuncId}{fo:Operand}(hfo:a.eval fo=.func (.func f) #[] #[]){xs:Array Operand}{ats:Array TypeId}(ho:o.op=.call {callee:=.value fo,args:=xs,argTypes:=ats}){k:St->Option ρ}{r:ρ}(hr:Q7b Γ n s o.dst f xs.toList k=some r)
  {K:Act->World->Prop}{Q:Exit->Act->World->Prop} (hK:∀v w' X' F' s',k s'=some r->R n W0 w' X' F' [] s' (a.put o.dst v)->K (a.put o.dst v) w'):o.wp P a w K Q:=by
 unfold Q7b at hr;split at hr
 ·rename_i e x0 u he ar;obtain⟨rfl,y⟩:=Z5d.find_ok hΓ he;split at hr
  ·rename_i q hq;split at hr
   ·rename_i lm us hl aa ab;obtain⟨v,L,hv,M,A,ad,N,E,O,Qe9⟩:=Qwk h y.flat hq hl;have au:∀b∈L,b<w.heap.size:=λb c=>(h.own _ _ (A b c)).2.1
    have call:∀{z},e.F lm.1 us=some z-> ∀{K':Act->World->Prop},(∀l S w',R n W0 w' X F (S++[]) (Zzj s q (lm.2 z.2)) a->Zjl w' W0.B e.res z.1 l S->K' (a.put o.dst (Jq l)) w')->o.wp P a w K' Q:=by
     intro z U K' D;have ae:xs.toList.map a.eval=v::u.map a.eval:=by simp_all
     have hc:=y.calls w (λb=>b<w.heap.size/\b∉L) L lm.1 z.2 us z.1 v (u.map a.eval) h.glob (λb c=>⟨h.xlt b (h.gx b c),λC=>(h.own _ _ (A b C)).2.2 (h.gx b c)⟩) (λb c=>c.1) (λb c hx=>hx.2 c) ad
      (by
       obtain⟨v1,ag,S1,S2,e1,e2,h1,h2⟩:=M;obtain⟨e5,H⟩:=Ziy (r':=rd w (λb=>b<w.heap.size/\b∉L) 0 true e.t) (λx v S h=>Ztb y.flat h) h2;exact⟨v1,ag,S1,S2,e1,e2,⟨Z55 h1.1 (Nat.zero_le _),h1.2⟩,by rw[e5];exact H⟩)
      (Z9d ab (Zwe h (tg:=[]) (λp hp=>by cases hp) aa)) U
     have V:(execOp a.eval o).run P w=.ok (.enter e.f (v::u.map a.eval).toArray) w:=by
      have:execOp a.eval o=callFunc e.f (xs.map a.eval):=by
       simp_all[execOp,resolve,Deferred.ofValue,invoke]
      rw[this,y.enters];congr 2
      grind
     unfold Oper.wp;rw[V,Oper.upon_enter];refine hc.mono λen w' ⟨l,S,ah,i,ak,⟨X2,W⟩,h1,h2,h3,h4,H⟩=>?_;subst ah;show K' (a.put o.dst (Jq l)) w';have Y:∀{I:List Ty}{x:Vm I}{l:List Value}{S:List Nat},Zjl w' w.heap.size I x l S->(∀b∈S,w.heap.size<=b/\b<w'.heap.size)/\Zjl w' W0.B I x l S:=by
      intro I
      induction I with
      |nil=>intro x l S h;exact⟨by simp[h.2],h⟩
      |cons t I ih=>
       intro x l S ⟨cs,us,S1,S2,e1,e2,g1,g2⟩;obtain⟨k1,k2⟩:=ih g2;refine⟨λb c=>?_,cs,us,S1,S2,e1,e2,Zgx h.below.sizeB (λ_ h=>h) g1,k2⟩
       grind[Zzg]
     obtain⟨j,G⟩:=Y i;have ap:rd w' X W0.B true (.slice e.e e.t) z.2 [v] L:=Q17 y.flat M W;have al:W0.below w':=⟨h1.trans h.below.os,h2.trans h.below.tape,h3.trans h.below.output,Nat.le_trans h.below.size h4,λb c=>
      (H b (Nat.lt_of_lt_of_le (W0.yW b c) h.below.size) λC=>W0.sep c (h.own _ _ (A b C)).1 rfl).trans (h.below.block b c)⟩
     have Z:Xb F (.m q) (F (.m q))=F:=by grind
     obtain⟨am,av⟩:=Qe9 z.2 w' H;have J:=h.turn' (w':=w') (S':=F (.m q)) (by rw[Z];exact am) al h4 (λb c=>H b (h.xlt b c) λC=>(h.own _ _ (A b C)).2.2 c)
      (λk b hk c=>H b (h.own k b c).2.1 λC=>hk (h.disj _ _ b c (A b C))) (H':=[]) (λb c=>by simpa using c) (by simpa using h.nodup (.m q)) N (E z.2)
      (by simp_all)
     rw[Z]at J;exact D l S w' (J.hand (λb c=>⟨.inl (Nat.le_trans h.below.size (j b c).1),(j b c).2,λhx=>by have:=h.xlt b hx;grind⟩) ak
      (λk b c C=>by have:=(h.own k b c).2.1;grind) (λb c C=>by cases C)) G
    split at hr
    ·rename_i hd;simp only[Option.bind_eq_some_iff]at hr;obtain⟨z,U,hk⟩:=hr;refine call U λl S w' J i=>?_;have D:=hK (Jq l) w' X F _ hk;rw[hd]at D⊢;exact D J.drop
    ·rename_i d hd;split at hr
     ·rename_i hdn;simp only[Oba,Nat.blt_eq]at hdn;simp only[Option.bind_eq_some_iff]at hr;obtain⟨z,U,hk⟩:=hr;refine call U λl S w' J i=>?_;obtain⟨F',aw⟩:=J.putRes (O z.2 d hdn.1) hdn.2 i
      grind
     ·cases hr
   ·cases hr
  ·cases hr
 ·cases hr
inductive AK where
 |sh (T:Ty)
 |bx (e:TypeId) (T:Ty) (o:Fl)
 |mv (T:Ty)
@[reducible] def Z6o:List AK->Type|[]=>Unit|.sh T::r=>T.den×Z6o r|.bx _ T _::r=>T.den×Z6o r|.mv T::r=>T.den×Z6o r
@[reducible] def Zyb:List AK->Type|[]=>Unit|.sh _::r=>Zyb r|.bx _ T _::r=>T.den×Zyb r|.mv _::r=>Zyb r
inductive RS where
 |vals (ts:List Ty)
 |newb (e:TypeId) (T:Ty)
 |shr (ts:List Ty)
 |flg (ts:List (Ty×Fl))
 |fp (T:Ty) (j:Nat) (p1 p2:List Nat)
@[reducible] def Z13:List (Ty×Fl)->Type|[]=>Unit|t::r=>t.1.den×Z13 r
@[reducible] def Z6p:RS->Type|.vals ts=>Vm ts|.newb _ T=>T.den|.shr ts=>Vm ts|.flg ts=>Z13 ts|.fp .. =>Bool
def Qqr(w:World)(X:Nat->Prop)(B:Nat):(ts:List (Ty×Fl))->Z13 ts->List Value->List Nat->Prop|[],_,vs,S=>vs=[]/\S=[]|t::ts,x,vs,S=> ∃cs us S1 S2,vs=Yz t.1 cs::us/\S=S1++S2/\rdF w X B t.1 t.2 x.1 cs S1/\Qqr w X B ts x.2 us S2
def Qw1(w:World)(X:Nat->Prop):(ts:List Ty)->Vm ts->List Value->Prop|[],_,vs=>vs=[]|t::ts,x,vs=> ∃cs us,vs=Yz t cs::us/\rd w X 0 false t x.1 cs []/\Qw1 w X ts x.2 us
def rdA(w:World)(X:Nat->Prop):(as:List AK)->Z6o as->List Value->List Nat->Prop|[],_,vs,L=>vs=[]/\L=[]|.sh t::r,x,vs,L=> ∃cs us,vs=Yz t cs::us/\rd w X 0 false t x.1 cs []/\rdA w X r x.2 us L|.bx e t o::r,x,vs,L=> ∃b c S us L',vs=.pointer (some ⟨b,0,none⟩)::us/\L=b:: (S++L')/\w.heap[b]? =some (.cells c e (0,0))/\rdF w X 0 t o x.1 c.toList S/\rdA w X r x.2 us L'|.mv t::r,x,vs,L=> ∃cs S us L',vs=Yz t cs::us/\L=S++L'/\rd w X 0 true t x.1 cs S/\rdA w X r x.2 us L'
def rdO(w:World)(X:Nat->Prop):(as:List AK)->Zyb as->List Value->List Nat->List Nat->Prop|[],_,vs,BL,C=>vs=[]/\BL=[]/\C=[]|.sh _::r,x,vs,BL,C=> ∃v us,vs=v::us/\rdO w X r x us BL C|.bx e t o::r,x,vs,BL,C=> ∃b c S us BL' C',vs=.pointer (some ⟨b,0,none⟩)::us/\BL=b::BL'/\C=S++C'/\w.heap[b]? =some (.cells c e (0,0))/\rdF w X 0 t o x.1 c.toList S/\rdO w X r x.2 us BL' C'|.mv _::r,x,vs,BL,C=> ∃v us,vs=v::us/\rdO w X r x us BL C
def rdS(w:World)(X:Nat->Prop):(r:RS)->Z6p r->List Value->List Nat->Prop|.vals ts,x,vs,S=>Zjl w 0 ts x vs S|.newb e T,x,vs,S=> ∃b c,vs=[.pointer (some ⟨b,0,none⟩)]/\S=[b]/\w.heap[b]? =some (.cells c e (0,0))/\rd w X 0 false T x c.toList []|.shr ts,x,vs,S=>S=[]/\Qw1 w X ts x vs|.flg ts,x,vs,S=>Qqr w X 0 ts x vs S|.fp ..,_,_,S=>S=[]
def rdP:(r:RS)->Z6p r->List Value->List Nat->Prop|.fp T j p1 p2,x,vs,BL=> ∃b,BL[j]? =some b/\vs=[.pointer (some ⟨b,Wr T (bif x then p1 else p2),none⟩)]|.vals _,_,_,_|.newb ..,_,_,_|.shr _,_,_,_|.flg _,_,_,_=>True
structure FnB where
 f:FuncId
 args:List AK
 res:RS
 F:Z6o args->Option (Z6p res×Zyb args)
structure Xb6(w w':World)(X X':Nat->Prop)(L N:List Nat):Prop where
 os:w'.os=w.os
 tape:w'.tape=w.tape
 output:w'.output=w.output
 size:w.heap.size<=w'.heap.size
 xx:∀b,X b->X' b
 xlt:∀b,X' b->b<w'.heap.size
 xin:∀b,X' b->X b\/w.heap.size<=b\/b∈L
 nd:N.Nodup
 nin:∀b,b∈N->(w.heap.size<=b\/b∈L)/\b<w'.heap.size/\ ¬X' b
 block:∀b,b<w.heap.size->b∉L->w'.heap[b]? =w.heap[b]?
structure Z31(P:Program)(g:Kx)(e:FnB):Prop where
 enters:∀args w,(callFunc e.f args).run P w=.ok (.enter e.f args) w
 calls:∀(w:World)(X:Nat->Prop)(L:List Nat)(xs:Z6o e.args)(r:Z6p e.res×Zyb e.args)(vals:List Value),g.G w->(∀b,g.GB b->X b)->(∀b,X b->b<w.heap.size)->(∀b,b∈L-> ¬X b/\b<w.heap.size)->L.Nodup->
  rdA w X e.args xs vals L->e.F xs=some r->
  Calls P e.f vals.toArray w λen w'=> ∃rs S BL C X',en=.returned (Jq rs)/\Xb6 w w' X X' L (S++(BL++C))/\rdS w' X' e.res r.1 rs S/\rdO w' X' e.args r.2 vals BL C/\rdP e.res r.1 rs BL
abbrev Z1w:=List FnB
def Z1w.find(Γ:Z1w)(f:FuncId):Option FnB:=
 match Γ with
 |[]=>none
 |e::r=>match Nat.beq e.f f with|true=>some e|false=>Z1w.find r f
def Z1w.ok(Γ:Z1w)(P:Program)(g:Kx):Prop:= ∀e∈Γ,Z31 P g e
theorem Z1w.find_ok{Γ:Z1w}{P:Program}{g:Kx}(h:Γ.ok P g){f:FuncId}{e:FnB}(he:Γ.find f=some e):e.f=f/\Z31 P g e:=by
 induction Γ with
 |nil=>cases he
 |cons x r a=>
  simp only[Z1w.find]at he;split at he
  ·rename_i b;simp only[Osi]at he;subst he;exact⟨Onb b,h _ (by simp)⟩
  ·exact a (λe he=>h e (by simp[he])) he
def Qic:Fl->Fl->Ty->Bool|.u true,f,T=>Zcb T f (.u true)|.u false,f,T=>Zq4 f T|.p a b,f,.pair A B=>Qic a (Zz1 f 0) A&&Qic b f.snd B|o,f,T=>Zcb T f o
def Qr6:Op1->Option Nat|.tm k (.box _ _ _ _)=>some k|.tm _ (.ptr r [])=>some r|_=>none
def Qea(s:St)(o:Op1)(T:Ty):Option T.den:=
 match o with
 |.cst v=>Z97 T v
 |o=>match Zxa s o with
  |some ⟨U,f,x⟩=>match Zq4 f U with
   |true=>J8 T U x
   |false=>none
  |none=>none
def Zy7:St->List AK->List Operand->Option (List TV×St)
 |s,.mv t::as,x::xs=>match Zyu s (op1 s [] x) t with
  |some u=>match Zcb u.T u.f (.u true),Zy7 u.s as xs with
   |true,some (l,s')=>some (⟨u.T,u.x⟩::l,s')
   |_,_=>none
  |none=>none
 |s,.sh _::as,_::xs=>Zy7 s as xs
 |s,.bx _ _ _::as,_::xs=>Zy7 s as xs
 |s,_,_=>some ([],s)
def Z1n(s:St):List TV->(as:List AK)->List Operand->Option (Z6o as×List Nat)
 |_,[],[]=>some ((),[])
 |m,.sh t::as,x::xs=>match Qea s (op1 s [] x) t,Z1n s m as xs with
  |some u,some (us,rs)=>some ((u,us),rs)
  |_,_=>none
 |m,.bx e t o::as,x::xs=>match Qr6 (op1 s [] x)with
  |some q=>match s.get (.m q)with
   |.box e' U f y=>match Nat.beq e' e&&Qic o f U,J8 t U y,Z1n s m as xs with
    |true,some u,some (us,rs)=>some ((u,us),q::rs)
    |_,_,_=>none
   |_=>none
  |none=>none
 |z::m,.mv t::as,_::xs=>match J8 t z.1 z.2,Z1n s m as xs with
  |some u,some (us,rs)=>some ((u,us),rs)
  |_,_=>none
 |_,_,_=>none
def Qib:List Nat->Bool|[]=>true|x::xs=> !(xs.any (Nat.beq x))&&Qib xs
def Zp5:List AK->List Operand->St->St
 |.sh t::as,x::xs,s=>match t.flat with
  |true=>Zp5 as xs s
  |false=>match Z6e s (op1 s [] x)with
   |some q=>match s.get (.m q)with
    |.val U f y=>match Zq4 f U,f.live with
     |false,true=>Zp5 as xs (Zzj s q (.val U (.u false) y))
     |_,_=>Zp5 as xs s
    |_=>Zp5 as xs s
   |none=>Zp5 as xs s
 |.bx _ _ _::as,_::xs,s=>Zp5 as xs s
 |.mv _::as,_::xs,s=>Zp5 as xs s
 |_,_,s=>s
def Zth:List Nat->St->St
 |[],s=>s
 |q::rs,s=>match s.get (.m q)with
  |.box e T _ y=>Zth rs (Vv s q (.box e T .d y))
  |_=>Zth rs s
def Qqp:(as:List AK)->Zyb as->List Nat->St->St|[],_,_,s=>s|.sh _::r,x,rs,s=>Qqp r x rs s|.bx e T o::r,x,q::rs,s=>Qqp r x.2 rs (Vv s q (.box e T o x.1))|.bx _ _ _::_,_,[],s=>s|.mv _::r,x,rs,s=>Qqp r x rs s
def Qex(d:Nat):(ts:List Ty)->Vm ts->Nat->List (Key×Tm)->List (Key×Tm)|[],_,_,r=>r|t::ts,x,i,r=>Qex d ts x.2 (i+1) ((.c d i,.val t (.u false) x.1)::r)
def Xc8(d:Nat)(s:St):(ts:List Ty)->Vm ts->St|[t],r=>Jd s d (.val t (.u false) r.1)|[],r=>{env:=Qex d [] r 0 (Jd s d .tup).env,dirty:=(Jd s d .tup).dirty,lent:=s.lent}|t::u::ts,r=>{env:=Qex d (t::u::ts) r 0 (Jd s d .tup).env,dirty:=(Jd s d .tup).dirty,lent:=s.lent}
def Qnj(d:Nat):(ts:List (Ty×Fl))->Z13 ts->Nat->List (Key×Tm)->List (Key×Tm)|[],_,_,r=>r|t::ts,x,i,r=>Qnj d ts x.2 (i+1) ((.c d i,.val t.1 t.2 x.1)::r)
def Xfa(d:Nat)(s:St):(ts:List (Ty×Fl))->Z13 ts->St|[t],r=>Jd s d (.val t.1 t.2 r.1)|[],r=>{env:=Qnj d [] r 0 (Jd s d .tup).env,dirty:=(Jd s d .tup).dirty,lent:=s.lent}|t::u::ts,r=>{env:=Qnj d (t::u::ts) r 0 (Jd s d .tup).env,dirty:=(Jd s d .tup).dirty,lent:=s.lent}
def Qua(d:Nat)(s:St):(r:RS)->Z6p r->St|.vals ts,x=>Qd8 d s ts x|.newb e T,x=>Jd s d (.box e T (.u false) x)|.shr ts,x=>Xc8 d s ts x|.flg ts,x=>Xfa d s ts x|.fp ..,_=>s
noncomputable def Xa5{ρ:Type}(d:Nat)(rs:List Nat)(s:St):(r:RS)->Z6p r->(St->Option ρ)->Option ρ
 |.fp T j p1 p2,x,k=>match rs[j]? with
  |some q=>match s.get (.m q)with
   |.box _ U _ _=>match decide (U=T)with
    |true=>bif x then k (Jd s d (.ptr q p1))else k (Jd s d (.ptr q p2))
    |false=>none
   |_=>none
  |none=>none
 |.vals ts,x,k=>k (Qua d s (.vals ts) x)
 |.newb e T,x,k=>k (Qua d s (.newb e T) x)
 |.shr ts,x,k=>k (Qua d s (.shr ts) x)
 |.flg ts,x,k=>k (Qua d s (.flg ts) x)
noncomputable def Qnb{ρ:Type}(Γ:Z1w)(n:Nat)(s:St)(dst:Option Nat)(f:FuncId)(xs:List Operand)(k:St->Option ρ):Option ρ:=
 match Γ.find f with
 |none=>none
 |some e=>match Zy7 (Zp5 e.args xs s) e.args xs with
  |none=>none
  |some (m,s2)=>match Z1n s2 m e.args xs with
   |none=>none
   |some (us,rs)=>match Qib rs with
    |false=>none
    |true=>match dst with
     |none=>(e.F us).bind λz=>k (Qqp e.args z.2 rs (Zth rs s2))
     |some d=>match Wn (Zth rs s2) d&&Nat.blt d n&& !(rs.any (Nat.beq d))with
      |false=>none
      |true=>(e.F us).bind λz=>Xa5 d rs (Qqp e.args z.2 rs (Zth rs s2)) e.res z.1 k
theorem Qfu{x:Nat}{l:List Nat}(h:(l.any (Nat.beq x))=false):x∉l:=λhx=>by
 grind[Nat.beq,List.any_eq_true,Nat.beq_refl]
theorem Qkt:∀{l:List Nat},Qib l=true->l.Nodup
 |[],_=>List.nodup_nil
 |x::a,h=>by
  simp only[Qib,Oba,Bool.not_eq_true']at h;exact List.nodup_cons.2 ⟨Qfu h.1,Qkt h.2⟩
theorem Zap:∀{T:Ty}{x:T.den}{vs:List Value}{S:List Nat},rd w X B own T x vs S->(∀b,b∈S->B'<=b)->rd w X B' own T x vs S
 |.unit,_,_,_,h,_|.int _,_,_,_,h,_|.bool,_,_,_,h,_|.fnc _,_,_,_,h,_|.str,_,_,_,h,_=>h
 |.slice _ _,_,_,_,⟨v,u,k,l,e,m,f,g⟩,d=>by
  refine⟨v,u,k,l,e,m,?_,Jy g λ_ _ _ _ s h=>Zap h λb i=>d b (by simp_all)⟩;cases own
  ·exact f
  ·obtain⟨j,p⟩:=f;refine⟨⟨j.1,j.2.imp id λ⟨b,q,r,z,G,A⟩=>⟨b,q,r,z,d b ?_,A⟩⟩,p⟩;simp_all[Value.ownBlock]
 |.pair a b,_,_,_,⟨C,D,k,l,e,m,f,g⟩,d=>
  ⟨C,D,k,l,e,m,Zap f λb i=>d b (by simp_all),Zap g λb i=>d b (by simp_all)⟩
 |.arr n t,_,_,_,⟨h,E⟩,d=>⟨h,Jy E λ_ _ _ _ s h=>Zap h λb i=>d b (s b i)⟩
 |.err,_,_,_,h,_=>h
 |.hid _,_,_,_,⟨e,y,h⟩,d=>⟨e,y,Zap h d⟩
 |.sptr ..,_,_,_,⟨e,o,b,c,f,g,j,p⟩,_=>⟨e,o,b,c,f,g,j,Zap p (by simp)⟩
 |.clo ..,_,_,_,⟨e,F,f,g⟩,_=>⟨e,F,f,Zap g (by simp)⟩
theorem Qg0:∀{ts:List Ty}{x:Vm ts}{vs:List Value}{S:List Nat},Zjl w B ts x vs S->(∀b,b∈S->B'<=b)->Zjl w B' ts x vs S
 |[],_,_,_,h,_=>h
 |t::ts,x,vs,S,⟨c,d,e,f,g,i,j,k⟩,a=>
  ⟨c,d,e,f,g,i,Zap j λb l=>a b (by simp_all),Qg0 k λb l=>a b (by simp_all)⟩
theorem Q6p{e:TypeId}{sz n:Nat}{v:Value}{xs:List Value}{S:List Nat}(hB:B'<=B)(hX:∀b,X b->X' b)(h:hdr w X B own e sz n v xs S):hdr w X' B' own e sz n v xs S:=by
 cases own
 ·obtain⟨g,i,a,c,j,k,l,m⟩:=h;exact⟨g,i,a,c,j,k,l,m.imp id λ⟨o,p,q,r⟩=>⟨o,p,q.imp id (hX _),r⟩⟩
 ·obtain⟨f,s⟩:=h;exact⟨⟨f.1,f.2.imp id λ⟨b,c,d,t,u,x⟩=>⟨b,c,d,t,Nat.le_trans hB u,x⟩⟩,s⟩
theorem Qyq{e:TypeId}{sz n:Nat}{v:Value}{xs:List Value}{S:List Nat}(h1:hdr w X B own e sz n v xs S)(hS:∀b,b∈S->B'<=b):hdr w X B' own e sz n v xs S:=by
 cases own
 ·exact h1
 ·obtain⟨d,f⟩:=h1;refine⟨⟨d.1,d.2.imp id λ⟨b,a,c,g,i,h⟩=>⟨b,a,c,g,hS b ?_,h⟩⟩,f⟩;simp_all[Value.ownBlock]
theorem Z1m(hB:B'<=B)(hX:∀b,X b->X' b):∀{T:Ty}{f:Fl}{x:T.den}{vs:List Value}{S:List Nat},rdF w X B T f x vs S->rdF w X' B' T f x vs S
 |T,.d,_,_,_,h=>by simp_all[rdF]
 |T,.u b,_,_,_,h=>by grind[rdF,Zgx]
 |.pair a b,.p f g,_,_,_,⟨j,k,l,m,e,n,c,i⟩=>⟨j,k,l,m,e,n,Z1m hB hX c,Z1m hB hX i⟩
 |.slice e t,.p f g,_,_,_,h=>by
  obtain⟨rfl,rfl,v,o,q,c,i⟩:=Zlj h;exact⟨v,o,q,Q6p hB hX c,Jy i λ_ _ _ _ _ h=>Zgx hB hX h⟩
 |.unit,.p ..,_,_,_,h|.int _,.p ..,_,_,_,h|.bool,.p ..,_,_,_,h|.fnc _,.p ..,_,_,_,h|.str,.p ..,_,_,_,h|.err,.p ..,_,_,_,h|.hid _,.p ..,_,_,_,h|.sptr ..,.p ..,_,_,_,h|.clo ..,.p ..,_,_,_,h|.arr ..,.p ..,_,_,_,h=>by simp[rdF]at h
theorem Z6a:∀{T:Ty}{f:Fl}{x:T.den}{vs:List Value}{S:List Nat},rdF w X B T f x vs S->(∀b,b∈S->B'<=b)->rdF w X B' T f x vs S
 |T,.d,_,_,_,h,_=>by simp_all[rdF]
 |T,.u b,_,_,_,h,c=>by grind[rdF,Zap]
 |.pair a b,.p f g,_,_,_,⟨l,m,n,o,e,q,i,j⟩,c=>⟨l,m,n,o,e,q,Z6a i λb k=>c b (by simp_all),Z6a j λb k=>c b (by simp_all)⟩
 |.slice e t,.p f g,_,_,_,h,c=>by
  obtain⟨rfl,rfl,v,r,s,i,j⟩:=Zlj h;exact⟨v,r,s,Qyq i c,Jy j λ_ _ _ _ y h=>Zap h λb k=>absurd (y b k) (by simp)⟩
 |.unit,.p ..,_,_,_,h,_|.int _,.p ..,_,_,_,h,_|.bool,.p ..,_,_,_,h,_|.fnc _,.p ..,_,_,_,h,_|.str,.p ..,_,_,_,h,_|.err,.p ..,_,_,_,h,_|.hid _,.p ..,_,_,_,h,_|.sptr ..,.p ..,_,_,_,h,_|.clo ..,.p ..,_,_,_,h,_|.arr ..,.p ..,_,_,_,h,_=>by simp[rdF]at h
theorem Z2r:∀{o f:Fl}{T:Ty}{x:T.den}{vs:List Value}{S:List Nat},Qic o f T=true->rdF w X B T f x vs S->rdF w X B T o x vs S
 |.u true,f,T,x,vs,S,h,c=>by grind[Qic,Zms]
 |.u false,f,T,x,vs,S,h,c=>by
  unfold Qic at h;have e:=Znm h c;subst e;have:∀{f:Fl}{T:Ty},Zq4 f T=true->f.live=true:=by
   intro f
   induction f with
   |u b=>intro T _;rfl
   |d=>simp_all[Zq4]
   |p s t g i=>
    intro T h;cases T<;>simp[Zq4]at h
    grind[Fl.live]
  unfold rdF;exact Vc (λ_ h=>h) (this h) c (by simp)
 |.p a b,f,.pair A v,x,vs,S,h,c=>by
  unfold Qic at h;simp only[Oba]at h;obtain⟨j,k,l,m,e,n,q,r⟩:=Zwd c;exact⟨j,k,l,m,e,n,Z2r h.1 q,Z2r h.2 r⟩
 |.p a b,f,.slice ..,x,vs,S,h,c|.p a b,f,.unit,x,vs,S,h,c|.p a b,f,.int _,x,vs,S,h,c|.p a b,f,.bool,x,vs,S,h,c|.p a b,f,.str,x,vs,S,h,c|.p a b,f,.arr ..,x,vs,S,h,c|.p a b,f,.fnc _,x,vs,S,h,c|.p a b,f,.err,x,vs,S,h,c|.p a b,f,.hid _,x,vs,S,h,c|.p a b,f,.sptr ..,x,vs,S,h,c|.p a b,f,.clo ..,x,vs,S,h,c=>by unfold Qic at h;exact Zms h c
 |.d,f,T,x,vs,S,h,c=>by grind[Qic,Zms]
theorem Z6b(h:R n W0 w X F H s a){x:Operand}{T:Ty}{y:T.den}(hr:Qea s (op1 s [] x) T=some y):
  ∃vs,a.eval x=Yz T vs/\rd w X 0 false T y vs []:=by
 unfold Qea at hr;split at hr
 ·rename_i v hv;obtain rfl:=Z23 hv;obtain⟨vs,c,b⟩:=Z00 (w:=w) (X:=X) (B:=0) (own:=false) hr;exact⟨vs,c,b⟩
 ·split at hr
  ·rename_i U f k d;obtain⟨g,vs,S,c,b,l⟩:=Zji h (tg:=[]) (λp i=>by cases i) d;split at hr
   ·rename_i j;cases Ze3 hr;have e:=Znm j b;subst e;exact⟨vs,c,Zgx (Nat.zero_le _) (λ_ h=>h) (Vc (λ_ h=>h) g b (by simp))⟩
   ·cases hr
  ·cases hr
def Qy4(F:Key->List Nat)(s:St):List AK->List Nat->List Value->Prop|[],rs,vs=>rs=[]/\vs=[]|.sh _::as,rs,vs=> ∃v us,vs=v::us/\Qy4 F s as rs us|.bx e T _::as,rs,vs=> ∃q rs' b S us f y,rs=q::rs'/\vs=.pointer (some ⟨b,0,none⟩)::us/\F (.m q)=b::S/\s.get (.m q)=.box e T f y/\Qy4 F s as rs' us|.mv _::as,rs,vs=> ∃v us,vs=v::us/\Qy4 F s as rs us
theorem Z28(h:R n W0 w X F H s a){x:Operand}{q:Nat}(hq:Qr6 (op1 s [] x)=some q){e:TypeId}{T:Ty}{f:Fl}{y:T.den}(hg:s.get (.m q)=.box e T f y):a.eval x=Q2 W0.gh a (.m q):=by
 unfold Qr6 at hq;split at hq
 ·rename_i k i j l o hx;simp only[Osi]at hq;subst hq;obtain⟨rfl,v,_⟩:=Zpx hx;simp_all[Yr]
 ·rename_i k r hx;simp only[Osi]at hq;subst hq;obtain⟨rfl,_,i,j,l,o,b,S,z,t,A⟩:=Jx h (tg:=[]) (λp u=>by cases u) hx (by simp);have d:=h.slots (.m r);rw[hg]at d;obtain⟨B,c,C,D,g,_⟩:=d;rw[t]at g;obtain⟨rfl,_⟩:=List.cons.inj g;simp_all[Wr]
 ·cases hq
def mvs(w:World)(X:Nat->Prop)(ev:Operand->Value):List TV->List AK->List Operand->List Nat->Prop|z::m,.mv t::as,x::xs,M=> ∃vs S M',M=S++M'/\ev x=Yz z.1 vs/\rd w X 0 true z.1 z.2 vs S/\t=z.1/\mvs w X ev m as xs M'|m,.sh _::as,_::xs,M=>mvs w X ev m as xs M|m,.bx _ _ _::as,_::xs,M=>mvs w X ev m as xs M|_,_,_,_=>True
theorem R.perm(h:R n W0 w X F H s a)(hp:H'.Perm H):R n W0 w X F H' s a:=
 {h with
  hown:=λb c=>h.hown b (hp.mem_iff.1 c)
  hnodup:=hp.nodup_iff.2 h.hnodup
  hdisj:=λk b c d=>h.hdisj k b c (hp.mem_iff.1 d)}
theorem Z0a:∀{as:List AK}{xs:List Operand}{s s2:St}{m:List TV}{F:Key->List Nat}{H:List Nat},R n W0 w X F H s a->Zy7 s as xs=some (m,s2)->
  ∃M F',R n W0 w X F' (M++H) s2 a/\(∀b,b∈M->W0.B<=b)/\mvs w X a.eval m as xs M/\(∀q,s.isBox q->s2.isBox q)
 |.mv t::as,x::xs,s,s2,m,F,H,h,c=>by
  simp only[Zy7]at c;split at c
  ·rename_i u o;split at c
   ·rename_i l I r v;simp only[Osi,Opi]at c;obtain⟨rfl,rfl⟩:=c;obtain⟨y,J,S,z,A,C,D,_,_⟩:=Zea h (tg:=[]) (λp E=>by cases E) o;have j:=Zms r C;unfold rdF at j;obtain⟨M,d,e,f,g,i⟩:=Z0a D v;refine⟨S++M,d,e.perm ?_,λb k=>(List.mem_append.1 k).elim (λk=>(Zzg j b k).1) (f b),⟨z,S,M,rfl,A,Zap j (by simp),y.symm,g⟩,λq G=>i q (Zu8 o G)⟩
    grind
   ·cases c
  ·cases c
 |.sh t::as,x::xs,s,s2,m,F,H,h,c=>by
  simp only[Zy7]at c;obtain⟨M,d,e,f,g,i⟩:=Z0a h c;exact⟨M,d,e,f,by cases m<;>exact g,i⟩
 |.bx _ _ _::as,x::xs,s,s2,m,F,H,h,c=>by
  simp only[Zy7]at c;obtain⟨M,d,e,f,g,i⟩:=Z0a h c;exact⟨M,d,e,f,by cases m<;>exact g,i⟩
 |[],xs,s,s2,m,F,H,h,c=>by
  simp only[Zy7,Osi,Opi]at c;obtain⟨rfl,rfl⟩:=c;exact⟨[],F,h,by simp,by cases xs<;>trivial,λ_ h=>h⟩
 |.mv _::_,[],s,s2,m,F,H,h,c|.sh _::_,[],s,s2,m,F,H,h,c|.bx _ _ _::_,[],s,s2,m,F,H,h,c=>by
  simp only[Zy7,Osi,Opi]at c;obtain⟨rfl,rfl⟩:=c;exact⟨[],F,h,by simp,trivial,λ_ h=>h⟩
theorem Z25(h:R n W0 w X F H s a):∀{m:List TV}{as:List AK}{xs:List Operand}{us:Z6o as}{rs:List Nat}{M:List Nat},mvs w X a.eval m as xs M->M.Nodup->(∀k b,b∈F k->b∉M)->Z1n s m as xs=some (us,rs)->Qib rs=true->
  ∃L,rdA w X as us (xs.map a.eval) L/\Qy4 F s as rs (xs.map a.eval)/\L.Nodup/\(∀b,b∈L->(∃q,q∈rs/\b∈F (.m q))\/b∈M)
 |m,[],[],us,rs,M,p,g,i,d,r=>by
  simp only[Z1n,Osi,Opi]at d;obtain⟨_,rfl⟩:=d;exact⟨[],⟨rfl,rfl⟩,⟨rfl,rfl⟩,List.nodup_nil,by simp⟩
 |m,.sh t::as,x::xs,us,rs,M,p,g,i,d,r=>by
  have v:mvs w X a.eval m as xs M:=by cases m<;>exact p
  simp only[Z1n]at d;split at d
  ·rename_i u B l C j;simp only[Osi,Opi]at d;obtain⟨rfl,rfl⟩:=d;obtain⟨cs,P,W⟩:=Z6b h C;obtain⟨L,D,E,G,N⟩:=Z25 (as:=as) (xs:=xs) h v g i j r;exact⟨L,⟨cs,_,by simp[P],W,D⟩,⟨_,_,rfl,E⟩,G,N⟩
  ·cases d
 |m,.bx e t o::as,x::xs,us,rs,M,p,g,i,d,r=>by
  have v:mvs w X a.eval m as xs M:=by cases m<;>exact p
  simp only[Z1n]at d;split at d
  ·rename_i q hq;split at d
   ·rename_i e' U f y Q;split at d
    ·rename_i u B l A C j;simp only[Osi,Opi]at d;obtain⟨rfl,rfl⟩:=d;simp only[Oba]at A;have he:=Onb A.1;subst he;cases Ze3 C;simp only[Qib,Oba,Bool.not_eq_true']at r;obtain⟨L,D,E,G,N⟩:=Z25 (as:=as) (xs:=xs) h v g i j r.2;have I:=Z28 h hq Q;have Y:=h.slots (.m q);rw[Q]at Y;obtain⟨b,c,S,O,J,Z,g4⟩:=Y;have aa:q∉l:=Qfu r.1;refine⟨b:: (S++L),⟨b,c,S,_,L,by simp[I,O],rfl,Z,?_,D⟩,⟨q,l,b,S,_,f,_,rfl,by simp[I,O],J,Q,E⟩,?_,?_⟩
     ·exact Z1m (Nat.zero_le _) (λ_ h=>h) (Z2r A.2 g4)
     ·have K:=h.nodup (.m q);rw[J]at K;have:(b::S++L).Nodup:=List.nodup_append.2 ⟨K,G,λx hx y hy e=>by
       subst e;rcases N x hy with⟨q',ab,V⟩|hM
       ·have:=h.disj (.m q) (.m q') x (by rw[J];exact hx) V;simp_all
       grind⟩
      simpa using this
     grind
    ·cases d
   ·cases d
  ·cases d
 |z::m,.mv t::as,x::xs,us,rs,M,p,g,i,d,r=>by
  simp only[Z1n]at d;split at d
  ·rename_i u B l C j;simp only[Osi,Opi]at d;obtain⟨rfl,rfl⟩:=d;obtain⟨vs,S,M',rfl,P,W,rfl,h3⟩:=p;have ad:=Ze3 C;have ae:z.2=u:=by simp_all
   obtain⟨O,J,Z⟩:=List.nodup_append.1 g;obtain⟨L,D,E,G,N⟩:=Z25 h h3 J (λk b hb p=>i k b hb (by simp[p])) j r;refine⟨S++L,⟨vs,S,_,L,by simp[P],rfl,by simp_all,D⟩,⟨_,_,rfl,E⟩,List.nodup_append.2 ⟨O,G,λy hy y' ag e=>?_⟩,λb hb=>?_⟩
   all_goals grind
  ·cases d
 |[],.mv _::_,_,_,_,_,_,_,_,d,_=>by grind[Z1n]
 |_::_,.mv _::_,[],_,_,_,_,_,_,d,_=>by grind[Z1n]
 |_,[],_::_,_,_,_,_,_,_,d,_=>by grind[Z1n]
 |_,.sh _::_,[],_,_,_,_,_,_,d,_|_,.bx .. ::_,[],_,_,_,_,_,_,d,_=>by simp[Z1n]at d
theorem R.frz(hs0:g.soft=false)(h:R n W0 w X F H s a){k:Nat}{T:Ty}{f:Fl}{x:T.den}(hg:s.get (.m k)=.val T f x)(hf:f.live=true):
  R n W0 w (λb=>X b\/b∈F (.m k)) (Xb F (.m k) []) H (Zzj s k (.val T (.u false) x)) a:=by
 have A:Z6n W0.gh w w s (Zzj s k (.val T (.u false) x)) F (Xb F (.m k) []) a k (.val T (.u false) x):=Zum ⟨by rw[Jz];simp,λp v U hv=>by
  simp_all[Xw,Jz]⟩
 exact
 {size:=h.size
  defers:=h.defers
  below:=h.below
  glob:=h.glob
  gx:=λb c=>.inl (h.gx b c)
  xs:=λe=>by simp_all
  fix:=h.fix
  xlt:=λb c=>c.elim (h.xlt b) λc=>(h.own _ b c).2.1
  xin:=λb c=>c.elim (h.xin b) λc=>.inr (h.own _ b c).1
  x0:=λb c=>.inl (h.x0 b c)
  own:=λj b c=>by
   simp only[Xb]at c;split at c
   ·cases c
   ·rename_i q;obtain⟨o,r,t⟩:=h.own j b c;exact⟨o,r,λhx=>hx.elim t λhk=>q (h.disj j (.m k) b c hk)⟩
  nodup:=λj=>by
   simp only[Xb];split
   ·simp
   ·exact h.nodup j
  disj:=λj B b c l=>by
   simp only[Xb]at c l;split at c
   ·cases c
   ·split at l
    ·cases l
    ·exact h.disj j B b c l
  hown:=λb c=>let⟨o,r,t⟩:=h.hown b c;⟨o,r,λhx=>hx.elim t λhk=>h.hdisj _ b hk c⟩
  hnodup:=h.hnodup
  hdisj:=λj b c=>by
   simp only[Xb]at c;split at c
   ·cases c
   ·exact h.hdisj j b c
  comps:=λd i y=>by
   rw[Jz]at y⊢;simp only[reduceCtorEq,if_false]at y;obtain⟨o,r⟩:=h.comps d i y
   grind
  slots:=λj=>by
   by_cases q:j=.m k
   ·subst q;have z:=h.slots (.m k);rw[hg]at z;obtain⟨C,o,r⟩:=z;rw[Jz];simp only[if_true,Xb];exact⟨C,o,by grind[rdF,Vc]⟩
   ·have e:Xb F (.m k) [] j=F j:=by simp[Xb,q]
    rw[Jz,e];simp only[Ne.symm q,if_false];exact Qmu A (λ_ h=>.inl h) (λ_ _=>rfl) (λ_ _ _ _=>rfl) (λ_ _=>rfl) (λe D E G b S c=>by simp_all) (h.slots j)}
theorem Zie(hs0:g.soft=false):∀{as:List AK}{xs:List Operand}{s:St}{X:Nat->Prop}{F:Key->List Nat},R n W0 w X F H s a-> ∃X' F',R n W0 w X' F' H (Zp5 as xs s) a/\(∀b,X b->X' b)/\ ∀q,s.isBox q->(Zp5 as xs s).isBox q
 |[],_,s,X,F,h=>⟨X,F,h,λ_ h=>h,λ_ h=>h⟩
 |.sh t::as,[],s,X,F,h=>⟨X,F,h,λ_ h=>h,λ_ h=>h⟩
 |.bx _ _ _::as,[],s,X,F,h=>⟨X,F,h,λ_ h=>h,λ_ h=>h⟩
 |.mv _::as,[],s,X,F,h=>⟨X,F,h,λ_ h=>h,λ_ h=>h⟩
 |.mv _::as,_::xs,s,X,F,h=>Zie hs0 (as:=as) (xs:=xs) h
 |.bx _ _ _::as,_::xs,s,X,F,h=>Zie hs0 (as:=as) (xs:=xs) h
 |.sh t::as,x::xs,s,X,F,h=>by
  simp only[Zp5];split
  ·exact Zie hs0 h
  ·split
   ·split
    ·rename_i U f y d;split
     ·rename_i i;obtain⟨X',F',j,k,l⟩:=Zie hs0 (as:=as) (xs:=xs) (R.frz hs0 h d i);refine⟨X',F',j,λb m=>k b (.inl m),λq c=>l q ?_⟩;obtain⟨e,T,o,p,c⟩:=c;refine⟨e,T,o,p,?_⟩;rw[Jz,if_neg]
      all_goals grind
     ·exact Zie hs0 h
    ·exact Zie hs0 h
   ·exact Zie hs0 h
theorem R.xup(hs0:g.soft=false)(h:R n W0 w X F H s a)(hX:∀b,X b->X' b)(hlt:∀b,X' b->b<w.heap.size)(hin:∀b,X' b->W0.X0 b\/W0.mine b)(hF:∀k b,b∈F k-> ¬X' b)(hH:∀b,b∈H-> ¬X' b):R n W0 w X' F H s a:=
 {h with
  gx:=λb c=>hX b (h.gx b c)
  xs:=λe=>by simp_all
  xlt:=hlt
  xin:=hin
  x0:=λb c=>hX b (h.x0 b c)
  own:=λk b c=>let⟨h1,h2,_⟩:=h.own k b c;⟨h1,h2,hF k b c⟩
  hown:=λb c=>let⟨h1,h2,_⟩:=h.hown b c;⟨h1,h2,hH b c⟩
  slots:=λk=>Zn7 hX (λ_ _=>rfl) (λ_ _ _=>rfl) (λ_ _=>rfl) (h.slots k)}
def Qyl(s:St)(k:Nat)(e:TypeId)(T:Ty)(x:T.den):St:=Vv (Vv s k (.box e T .d x)) k (.box e T (.u false) x)
theorem R.frzX(hs0:g.soft=false)(h:R n W0 w X F H s a){k:Nat}{e:TypeId}{T:Ty}{f:Fl}{x:T.den}(hg:s.get (.m k)=.box e T f x)(hf:f.live=true):
  ∃X' F',R n W0 w X' F' H (Qyl s k e T x) a/\ ∀b,X b->X' b:=by
 have q:=h.slots (.m k);rw[hg]at q;obtain⟨b,c,S,r,t,u,v⟩:=q;have o:=h.nodup (.m k);rw[t]at o;have A:∀j∈b::S,j∉H:=λj i=>h.hdisj (.m k) j (by simp_all);have l:∀j∈S,j∈F (.m k):=λj i=>by simp_all
 have B:R n W0 w X (Xb F (.m k) [b]) (S++H) (Vv s k (.box e T .d x)) a:=by
  refine h.turn (S':=[b]) (H':=S++H) h.below (Nat.le_refl _) (λ_ _=>rfl) (λ_ _ _ _=>rfl) ?_ ?_ (by rw[hg];simp) ?_ ?_
  ·simp_all
  ·refine List.nodup_append.2 ⟨by simp,List.nodup_append.2 ⟨(List.nodup_cons.1 o).2,h.hnodup,λx hx y p e=>A x (by simp[hx]) (by rw[e];exact p)⟩,λx hx y p e=>?_⟩;simp_all
  ·grind
  ·exact⟨b,c,[],r,rfl,u,by unfold rdF;exact⟨Y2 v,Zmr v,rfl⟩⟩
 have z:R n W0 w (λj=>X j\/j∈S) (Xb F (.m k) [b]) H (Vv s k (.box e T .d x)) a:=by
  refine R.xup hs0 B.drop (λ_ h=>.inl h) (λj i=>i.elim (h.xlt j) λi=>(h.own _ j (l j i)).2.1) (λj i=>i.elim (h.xin j) λi=>.inr (h.own _ j (l j i)).1) (λC j i hx=>?_) (λj i hx=>?_)
  ·simp only[Xb]at i;split at i
   ·simp only[List.mem_singleton]at i;subst i;rcases hx with hx|hx
    ·exact(h.own (.m k) j (by rw[t];simp)).2.2 hx
    simp_all
   ·rename_i hk;rcases hx with hx|hx
    ·exact(h.own C j i).2.2 hx
    ·exact hk (h.disj _ _ j i (l j hx))
  ·rcases hx with hx|hx
   ·exact(h.hown j i).2.2 hx
   simp_all
 refine⟨λj=>X j\/j∈S,Xb (Xb F (.m k) [b]) (.m k) [b],?_,λ_ h=>.inl h⟩;have G:Xb F (.m k) [b] (.m k)=[b]:=by simp[Xb]
 refine z.turn (S':=[b]) (H':=H) z.below (Nat.le_refl _) (λ_ _=>rfl) (λ_ _ _ _=>rfl) ?_ ?_ (by rw[Ks];simp) ?_ ?_
 ·grind
 ·exact List.nodup_append.2 ⟨by simp,h.hnodup,λx hx y p e=>by
   simp_all⟩
 ·intro I J K L M N D E;rw[Ks]at D
  grind
 ·exact⟨b,c,[],r,rfl,u,by grind[rdF,Vc]⟩
def Q94(s:St)(k:Nat):St:=match s.get (.m k)with
 |.val U f y=>match f.live with
  |true=>Zzj s k (.val U (.u false) y)
  |false=>s
 |.box e T f x=>match f.live with
  |true=>Qyl s k e T x
  |false=>s
 |_=>s
theorem Qn7(hs0:g.soft=false)(h:R n W0 w X F H s a)(k:Nat):∃X' F',R n W0 w X' F' H (Q94 s k) a:=by
 unfold Q94;split
 ·rename_i U f y b;split
  ·rename_i c;exact⟨_,_,R.frz hs0 h b c⟩
  grind
 all_goals grind[R.frzX]
def Qe6:Fl->Ty->Fl->Fl
 |.u false,_,f=>match f.live with
  |true=>.u false
  |false=>f
 |.u true,_,f=>f
 |.d,_,f=>f
 |.p a b,.pair A B,f=>.p (Qe6 a A (Zz1 f 0)) (Qe6 b B f.snd)
 |.p _ _,_,f=>f
theorem Qjg:∀{o:Fl}{T:Ty}{f:Fl}{x:T.den}{vs:List Value}{S:List Nat},S.Nodup->rdF w X B T f x vs S->
  ∃S',S'.Sublist S/\ ∀X':Nat->Prop,(∀b,X b->X' b)->(∀b,b∈S->b∉S'->X' b)->rdF w X' B T (Qe6 o T f) x vs S'
 |.u false,T,f,x,vs,S,c,h=>by
  cases hl:f.live
  ·refine⟨S,List.Sublist.refl _,λX' g _=>?_⟩;simp only[Qe6,hl];exact Z1m (Nat.le_refl _) g h
  ·refine⟨[],List.nil_sublist _,λX' g j=>?_⟩
   grind[Qe6,rdF,Vc]
 |.u true,T,f,x,vs,S,c,h=>⟨S,List.Sublist.refl _,λX' g _=>by unfold Qe6;exact Z1m (Nat.le_refl _) g h⟩
 |.d,T,f,x,vs,S,c,h=>⟨S,List.Sublist.refl _,λX' g _=>by unfold Qe6;exact Z1m (Nat.le_refl _) g h⟩
 |.p a b,.pair A F,f,x,vs,S,c,h=>by
  obtain⟨q,r,G,H,e,s,t,v⟩:=Zwd h;subst s;have i:=List.nodup_append.1 c;obtain⟨m,y,z⟩:=Qjg (o:=a) i.1 t;obtain⟨n,C,D⟩:=Qjg (o:=b) i.2.1 v;refine⟨m++n,List.Sublist.append y C,λX' g j=>?_⟩;refine⟨q,r,m,n,e,rfl,z X' g λb k l=>j b (by simp[k]) λE=>?_,D X' g λb k l=>j b (by simp[k]) λE=>?_⟩
  all_goals grind
 |.p _ _,.slice ..,f,x,vs,S,c,h|.p _ _,.unit,f,x,vs,S,c,h|.p _ _,.int _,f,x,vs,S,c,h|.p _ _,.bool,f,x,vs,S,c,h|.p _ _,.str,f,x,vs,S,c,h|.p _ _,.arr ..,f,x,vs,S,c,h|.p _ _,.fnc _,f,x,vs,S,c,h|.p _ _,.err,f,x,vs,S,c,h|.p _ _,.hid _,f,x,vs,S,c,h|.p _ _,.sptr ..,f,x,vs,S,c,h|.p _ _,.clo ..,f,x,vs,S,c,h=>
  ⟨S,List.Sublist.refl _,λX' g _=>by unfold Qe6;exact Z1m (Nat.le_refl _) g h⟩
theorem R.subH(h:R n W0 w X F H s a)(hs:H'.Sublist H):R n W0 w X F H' s a:=
 {h with
  hown:=λb c=>h.hown b (hs.subset c)
  hnodup:=h.hnodup.sublist hs
  hdisj:=λk b c d=>h.hdisj k b c (hs.subset d)}
def Q95(s:St)(k:Nat)(o:Fl):St:=match s.get (.m k)with
 |.box e T f x=>Vv (Vv s k (.box e T .d x)) k (.box e T (Qe6 o T f) x)
 |_=>s
theorem R.frzP(hs0:g.soft=false)(h:R n W0 w X F H s a)(k:Nat)(o:Fl):∃X' F',R n W0 w X' F' H (Go.Am.Q95 s k o) a:=by
 unfold Go.Am.Q95;split
 ·rename_i e T f x v;have z:=h.slots (.m k);rw[v]at z;obtain⟨b,c,S,A,B,C,q⟩:=z;have p:=h.nodup (.m k);rw[B]at p;have E:∀i∈b::S,i∉H:=λi hb'=>h.hdisj (.m k) i (by simp_all);have j:∀i∈S,i∈F (.m k):=λi hb'=>by simp_all
  have G:R n W0 w X (Xb F (.m k) [b]) (S++H) (Vv s k (.box e T .d x)) a:=by
   refine h.turn (S':=[b]) (H':=S++H) h.below (Nat.le_refl _) (λ_ _=>rfl) (λ_ _ _ _=>rfl) ?_ ?_ (by rw[v];simp) ?_ ?_
   ·simp_all
   ·refine List.nodup_append.2 ⟨by simp,List.nodup_append.2 ⟨(List.nodup_cons.1 p).2,h.hnodup,λx hx y r e=>E x (by simp[hx]) (by rw[e];exact r)⟩,λx hx y r e=>?_⟩;simp_all
   ·grind
   ·exact⟨b,c,[],A,rfl,C,by unfold rdF;exact⟨Y2 q,Zmr q,rfl⟩⟩
  obtain⟨S',l,I⟩:=Qjg (o:=o) (List.nodup_cons.1 p).2 q;have t:R n W0 w X (Xb F (.m k) [b]) (S'++H) (Vv s k (.box e T .d x)) a:=G.subH (l.append_right H);have D:R n W0 w (λi=>X i\/(i∈S/\i∉S')) (Xb F (.m k) [b]) (S'++H) (Vv s k (.box e T .d x)) a:=by
   refine R.xup hs0 t (λ_ h=>.inl h) (λi hb'=>hb'.elim (h.xlt i) λhb'=>(h.own _ i (j i hb'.1)).2.1) (λi hb'=>hb'.elim (h.xin i) λhb'=>.inr (h.own _ i (j i hb'.1)).1) (λJ i hb' hx=>?_) (λi hb' hx=>?_)
   ·simp only[Xb]at hb';split at hb'
    ·simp only[List.mem_singleton]at hb';subst hb';rcases hx with hx|hx
     ·exact(h.own (.m k) i (by rw[B];simp)).2.2 hx
     simp_all
    ·rename_i hk;rcases hx with hx|hx
     ·exact(h.own J i hb').2.2 hx
     ·exact hk (h.disj _ _ i hb' (j i hx.1))
   ·rcases List.mem_append.1 hb' with hb'|hb'
    ·rcases hx with hx|hx
     ·exact(h.own (.m k) i (j i (l.subset hb'))).2.2 hx
     ·exact hx.2 hb'
    ·rcases hx with hx|hx
     ·exact(h.hown i hb').2.2 hx
     simp_all
  refine⟨λi=>X i\/(i∈S/\i∉S'),Xb (Xb F (.m k) [b]) (.m k) (b::S'),?_⟩;have M:Xb F (.m k) [b] (.m k)=[b]:=by simp[Xb]
  refine D.turn (S':=b::S') (H':=H) D.below (Nat.le_refl _) (λ_ _=>rfl) (λ_ _ _ _=>rfl) ?_ ?_ (by rw[Ks];simp) ?_ ?_
  ·grind
  ·refine List.nodup_append.2 ⟨List.nodup_cons.2 ⟨λK=>(List.nodup_cons.1 p).1 (l.subset K),(List.nodup_cons.1 p).2.sublist l⟩,h.hnodup,λx hx y r e=>?_⟩
   grind
  ·intro N O P Q U V u L;rw[Ks]at u
   grind
  ·exact⟨b,c,S',A,rfl,C,I _ (λ_ h=>.inl h) λb u hb'=>.inr ⟨u,hb'⟩⟩
 grind
def Q96(s:St)(k:Nat):Fl->St|.u true=>s|.u false=>Q94 s k|o=>Q95 s k o
theorem Qn9(hs0:g.soft=false)(h:R n W0 w X F H s a)(k:Nat)(o:Fl):∃X' F',R n W0 w X' F' H (Q96 s k o) a:=by
 unfold Q96;split
 ·grind
 ·exact Qn7 hs0 h k
 ·exact R.frzP hs0 h k _
def Q6m:List (Nat×Fl)->St->St|[],s=>s|(k,o)::r,s=>Q6m r (Q96 s k o)
theorem Qki(hs0:g.soft=false):∀{L:List (Nat×Fl)}{s:St}{X:Nat->Prop}{F:Key->List Nat},R n W0 w X F H s a-> ∃X' F',R n W0 w X' F' H (Q6m L s) a
 |[],s,X,F,h=>⟨X,F,h⟩
 |(k,o)::r,s,X,F,h=>by
  obtain⟨c,d,b⟩:=Qn9 hs0 h k o;exact Qki hs0 (L:=r) b
theorem Qj0:∀{rs:List Nat}{s:St}{k:Key},(∀q,q∈rs->k≠ .m q)->(Zth rs s).get k=s.get k
 |[],s,k,_=>rfl
 |q::rs,s,k,h=>by
  simp only[Zth];split
  ·rw[Qj0 λq a=>h q (by simp[a]),Ks,if_neg (Ne.symm (h q (by simp)))]
  ·exact Qj0 λq a=>h q (by simp[a])
theorem Qei:∀{rs:List Nat}{s:St}{r:Nat},s.foul r=true->(Zth rs s).foul r=true
 |[],s,r,h=>h
 |q::rs,s,r,h=>by
  simp only[Zth];split
  ·refine Qei ?_
   grind[Vv,Zva]
  ·exact Qei h
theorem Qp3(s:St)(q:Nat)(t:Tm):(Vv s q t).foul q=true:=by
 cases hc:(Vv s q t).foul q
 ·exact absurd rfl (Zva hc).2
 ·rfl
theorem R.wreck:∀{rs:List Nat}{s:St}{F:Key->List Nat},R n W0 w X F H s a->rs.Nodup->(∀q,q∈rs->s.isBox q)->
  ∃F',R n W0 w X F' H (Go.Am.Zth rs s) a/\(∀k,(∀q,q∈rs->k≠ .m q)->F' k=F k)/\
   ∀q,q∈rs-> ∃e T f y b S,s.get (.m q)=.box e T f y/\F (.m q)=b::S/\(Go.Am.Zth rs s).get (.m q)=.box e T .d y/\F' (.m q)=[b]/\(Go.Am.Zth rs s).foul q=true
 |[],s,F,h,_,_=>⟨F,h,λ_ _=>rfl,by simp⟩
 |q::rs,s,F,h,v,l=>by
  obtain⟨e,T,f,y,i⟩:=l q (by simp);have o:=h.slots (.m q);rw[i]at o;obtain⟨b,c,S,z,p,A,r⟩:=o;have j:=List.nodup_cons.1 v;have B:R n W0 w X (Xb F (.m q) [b]) H (Vv s q (.box e T .d y)) a:=by
   refine h.turn h.below (Nat.le_refl _) (λ_ _=>rfl) (λ_ _ _ _=>rfl) ?_ ?_ (by rw[i];simp) ?_ ?_
   ·simp_all
   ·refine List.nodup_append.2 ⟨by simp,h.hnodup,λx hx y C e=>?_⟩;simp only[List.mem_singleton]at hx;subst hx;subst e;exact h.hdisj (.m q) x (by rw[p];simp) C
   ·grind
   ·exact⟨b,c,[],z,rfl,A,by unfold rdF;exact⟨Y2 r,Zmr r,rfl⟩⟩
  have t:∀g,g∈rs->(Vv s q (.box e T .d y)).get (.m g)=s.get (.m g):=λg hq'=>by
   rw[Ks,if_neg]
   grind
  obtain⟨F',D,M,N⟩:=R.wreck B j.2 (λg hq'=>by
   obtain⟨E,G,I,J,K⟩:=l g (by simp[hq']);exact⟨E,G,I,J,by simp_all⟩)
  have u:Go.Am.Zth (q::rs) s=Go.Am.Zth rs (Vv s q (.box e T .d y)):=by simp_all[Go.Am.Zth]
  have L:∀g,g∈rs->Key.m q≠ .m g:=λg hq' e=>by simp_all
  refine⟨F',by rw[u];exact D,λk hk=>?_,λg hq'=>?_⟩
  ·simp_all
  ·rw[u];rcases List.mem_cons.1 hq' with rfl|hq'
   ·refine⟨e,T,f,y,b,S,i,p,?_,?_,Qei (Qp3 _ _ _)⟩
    ·simp_all[Qj0,Ks]
    simp_all
   grind
theorem R.worldD{rs:List Nat}(h:R n W0 w X F H s a)(hb:W0.below w')(hs:w.heap.size<=w'.heap.size)(hX:∀b,X b->w'.heap[b]? =w.heap[b]?)
  (hr:∀q,q∈rs->s.foul q=true/\ ∃e T y b c,s.get (.m q)=.box e T .d y/\F (.m q)=[b]/\w'.heap[b]? =some (.cells c e (0,0))/\c.toList.length=T.size/\ ∀u∈c.toList,u.oneCell'=true)
  (hF:∀k,(∀q,q∈rs->k≠ .m q)-> ∀b∈F k,w'.heap[b]? =w.heap[b]?):R n W0 w' X F H s a:=
 {h with
  below:=hb
  glob:=g.stays _ _ h.glob λb hb=>hX b (h.gx b hb)
  xlt:=λb z=>Nat.lt_of_lt_of_le (h.xlt b z) hs
  own:=λk b z=>let⟨D,C,E⟩:=h.own k b z;⟨D,Nat.lt_of_lt_of_le C hs,E⟩
  hown:=λb z=>let⟨D,C,E⟩:=h.hown b z;⟨D,Nat.lt_of_lt_of_le C hs,E⟩
  slots:=λk=>by
   by_cases hk:∃q,q∈rs/\k=.m q
   ·obtain⟨q,G,rfl⟩:=hk;obtain⟨_,e,T,y,b,c,D,C,E,M,N⟩:=hr q G;have hv:=h.slots (.m q);rw[D]at hv⊢;obtain⟨V,W,Y,O,K,_⟩:=hv;rw[C]at K;obtain⟨rfl,rfl⟩:=List.cons.inj K;exact⟨b,c,[],O,C,E,by unfold rdF;exact⟨M,N,rfl⟩⟩
   ·have hk:∀q,q∈rs->k≠ .m q:=λq G e=>hk ⟨q,G,e⟩;have I:=hF k hk;have J:∀{r:Nat}{p:List Nat}{v:Value}{U:Ty},s.foul r=false->Xw W0.gh w s F a r p v U->Xw W0.gh w' s F a r p v U:=λ{r p v U} A hv=>
     Zly hv (hF (.m r) λq G e=>by
      simp_all)
    have o:=h.slots k;generalize s.get k=u at o;generalize Q2 W0.gh a k=v at o⊢;generalize F k=S at o I⊢
    induction u with
    |junk=>exact o
    |tup=>exact o
    |val T f x=>exact Zn7 (s:=s) (F:=λ_=>[]) (a:=a) (v:=v) (t:=.val T f x) (λ_ h=>h) hX (by simp) I (show vt W0.gh w X W0.B s (λ_=>[]) a v S (.val T f x)from o)
    |box e T f x=>exact Zn7 (s:=s) (F:=λ_=>[]) (a:=a) (v:=v) (t:=.box e T f x) (λ_ h=>h) hX (by simp) I (show vt W0.gh w X W0.B s (λ_=>[]) a v S (.box e T f x)from o)
    |shp T x=>exact Zn7 (s:=s) (F:=λ_=>[]) (a:=a) (v:=v) (t:=.shp T x) (λ_ h=>h) hX (by simp) I (show vt W0.gh w X W0.B s (λ_=>[]) a v S (.shp T x)from o)
    |ptr r p=>exact o
    |aep r p i=>exact o
    |pls Z l=>exact⟨o.1,Zxg (λ_ h=>h) hX (λ_ _ _ h=>h) o.2⟩
    |bor r p=>exact⟨o.1,λA=>let⟨U,h⟩:=o.2 A;⟨U,J (St.bad_foul A) h⟩⟩
    |elp r p i q=>exact⟨o.1,λA=>let⟨e,t',ad,n,cap,h,h'⟩:=o.2 A;⟨e,t',ad,n,cap,J (St.bad_foul A) h,h'⟩⟩
    |bel r p i q=>exact⟨o.1,λA P=>let⟨e,t',ad,n,cap,x0,y,cs,h,k1,k2,k3,k4,k5,k6,k7⟩:=o.2 A P;⟨e,t',ad,n,cap,x0,y,cs,J (St.bad_foul A) h,k1,k2,k3,k4,k5,k6,λj u hj=>by
      grind[Addr.add,World.cell?_of_block,Key.m.injEq,St.bad_foul]⟩⟩
    |cl f l=>exact o
    |gd g L u Q=>exact λA=>let⟨h0,D,C⟩:=o A;⟨h0,λhb=>Q (D hb),C⟩}
def Qt1(F:Key->List Nat)(s:St):List AK->List Nat->List Nat->Prop|[],rs,BL=>rs=[]/\BL=[]|.sh _::as,rs,BL=>Qt1 F s as rs BL|.bx e T _::as,rs,BL=> ∃q rs' b BL' y,rs=q::rs'/\BL=b::BL'/\F (.m q)=[b]/\s.get (.m q)=.box e T .d y/\Qt1 F s as rs' BL'|.mv _::as,rs,BL=>Qt1 F s as rs BL
theorem Qfr(h:R n W0 w X F H s a):∀{as:List AK}{rs BL:List Nat},Qt1 F s as rs BL-> ∀{j q b:Nat},rs[j]? =some q->BL[j]? =some b->Q2 W0.gh a (.m q)=.pointer (some ⟨b,0,none⟩)
 |[],_,_,⟨v,x⟩,j,q,b,d,_=>by simp_all
 |.sh _::as,_,_,g,j,q,b,d,f=>Qfr h (as:=as) g d f
 |.mv _::as,_,_,g,j,q,b,d,f=>Qfr h (as:=as) g d f
 |.bx e T _::as,rs,BL,⟨k,l,z,o,y,p,r,A,t,u⟩,j,q,b,d,f=>by
  subst p;subst r;cases j with
  |zero=>
   simp only[List.getElem?_cons_zero,Osi]at d f;subst d;subst f;have i:=h.slots (.m k);rw[t]at i;obtain⟨B,c,S,C,D,_⟩:=i;simp_all
  |succ j=>exact Qfr h (as:=as) u (by simpa using d) (by simpa using f)
theorem Qfs{t:Tm}{q:Nat}{b:Nat}:∀{as:List AK}{rs BL:List Nat},q∉rs->Qt1 F s as rs BL-> ∀{S:List Nat},Qt1 (Xb F (.m q) S) (Vv s q t) as rs BL
 |[],_,_,_,h,_=>h
 |.sh _::as,rs,BL,a,h,_=>Qfs (b:=b) (as:=as) a h
 |.mv _::as,rs,BL,a,h,_=>Qfs (b:=b) (as:=as) a h
 |.bx e T _::as,rs,BL,a,⟨f,c,g,d,y,i,j,o,p,k⟩,S=>by
  subst i;have l:f≠q:=λe=>a (by simp[e]);exact⟨f,c,g,d,y,rfl,j,by grind,by simp_all[Ks,if_neg,Ne.symm],Qfs (b:=b) (λn=>a (by simp[n])) k⟩
theorem Z58:∀{as:List AK}{x:Zyb as}{vals:List Value}{BL C rs:List Nat}{s:St}{F:Key->List Nat},R n W0 w X F (C++H) s a->rdO w X as x vals BL C->Qt1 F s as rs BL->rs.Nodup->(∀b,b∈C->W0.B<=b)->
  ∃F',R n W0 w X F' H (Qqp as x rs s) a
 |[],x,vals,BL,C,rs,s,F,h,⟨_,_,e⟩,_,_,_=>by subst e;exact⟨F,h⟩
 |.sh _::as,x,vals,BL,C,rs,s,F,h,⟨v,t,_,i⟩,j,d,f=>Z58 (as:=as) h i j d f
 |.mv _::as,x,vals,BL,C,rs,s,F,h,⟨v,t,_,i⟩,j,d,f=>Z58 (as:=as) h i j d f
 |.bx e T o::as,x,vals,BL,C,rs,s,F,h,⟨b,c,S,t,K,u,Y,L,M,z,Z,N⟩,⟨q,k,b2,O,y,P,A,D,E,Q⟩,d,f=>by
  subst P;subst M;rw[L]at A;obtain⟨rfl,rfl⟩:=List.cons.inj A;have g:=List.nodup_cons.1 d;have G:=h.slots (.m q);rw[E]at G;obtain⟨I,c',S',U,J,V,_⟩:=G;rw[D]at J;obtain⟨rfl,rfl⟩:=List.cons.inj J;rw[z]at V;have l:=h.hnodup;rw[List.append_assoc]at l;have W:b∉(S++u)++H:=h.hdisj (.m q) b (by rw[D];simp);have p:R n W0 w X (Xb F (.m q) (b::S)) (u++H) (Vv s q (.box e T o x.1)) a:=by
   refine h.turn h.below (Nat.le_refl _) (λ_ _=>rfl) (λ_ _ _ _=>rfl) ?_ ?_ (by rw[E];simp) ?_ ?_
   ·simp_all
   ·simp_all
   ·grind
   ·refine⟨b,c,S,U,rfl,z,?_⟩
    grind[Z6a]
  show ∃F',R n W0 w X F' H (Qqp as x.2 k (Vv s q (.box e T o x.1))) a;exact Z58 (as:=as) p N (Qfs (b:=b) g.1 Q) g.2 λI r=>f I (by simp[r])
theorem Z5y:∀{as:List AK}{rs:List Nat}{vals:List Value}{x:Zyb as}{BL C:List Nat},Qy4 F s as rs vals->rdO w' X' as x vals BL C-> ∀q,q∈rs->
  ∃e T f y b S c,s.get (.m q)=.box e T f y/\F (.m q)=b::S/\b∈BL/\w'.heap[b]? =some (.cells c e (0,0))/\c.toList.length=T.size/\ ∀u∈c.toList,u.oneCell'=true
 |[],_,_,_,_,_,⟨h,_⟩,_,q,hq=>by subst h;cases hq
 |.sh _::as,rs,vals,x,BL,C,⟨v,k,d,g⟩,⟨n,j,a,i⟩,q,hq=>by
  rw[d]at a;obtain⟨rfl,rfl⟩:=List.cons.inj a;exact Z5y (as:=as) g i q hq
 |.mv _::as,rs,vals,x,BL,C,⟨v,k,d,g⟩,⟨n,j,a,i⟩,q,hq=>by
  rw[d]at a;obtain⟨rfl,rfl⟩:=List.cons.inj a;exact Z5y (as:=as) g i q hq
 |.bx e T o::as,rs,vals,x,BL,C,⟨A,p,b,S,k,f,y,d,g,B,D,r⟩,⟨E,c,G,t,w,H,a,i,I,J,K,z⟩,q,hq=>by
  rw[g]at a;obtain⟨l,rfl⟩:=List.cons.inj a;simp only[Value.pointer.injEq,Osi,Addr.mk.injEq,and_true]at l;subst l;subst d;rcases List.mem_cons.1 hq with rfl|hq
  ·grind[Y2,Zmr]
  ·obtain⟨L,M,N,O,P,Q,U,V,W,X,Y⟩:=Z5y r z q hq
   grind
theorem Qt0{s2:St}{F2:Key->List Nat}:∀{as:List AK}{rs:List Nat}{vals:List Value}{x:Zyb as}{BL C:List Nat},Qy4 F s as rs vals->rdO w' X' as x vals BL C->
  (∀q,q∈rs-> ∀e T f y b S,s.get (.m q)=.box e T f y->F (.m q)=b::S->s2.get (.m q)=.box e T .d y/\F2 (.m q)=[b])->Qt1 F2 s2 as rs BL
 |[],_,_,_,_,_,⟨h,_⟩,⟨_,g,_⟩,_=>⟨h,g⟩
 |.sh _::as,rs,vals,x,BL,C,⟨v,p,i,g⟩,⟨u,k,a,j⟩,hk=>by
  rw[i]at a;obtain⟨rfl,rfl⟩:=List.cons.inj a;exact Qt0 (as:=as) g j hk
 |.mv _::as,rs,vals,x,BL,C,⟨v,p,i,g⟩,⟨u,k,a,j⟩,hk=>by
  rw[i]at a;obtain⟨rfl,rfl⟩:=List.cons.inj a;exact Qt0 (as:=as) g j hk
 |.bx e T o::as,rs,vals,x,BL,C,⟨r,l,b,S,p,f,y,i,g,w,z,A⟩,⟨I,c,J,B,n,K,a,j,L,M,N,D⟩,hk=>by
  rw[g]at a;obtain⟨t,rfl⟩:=List.cons.inj a;simp only[Value.pointer.injEq,Osi,Addr.mk.injEq,and_true]at t;subst t;subst i;obtain⟨E,G⟩:=hk r (by simp) _ _ _ _ _ _ z w;exact⟨r,l,b,n,y,rfl,j,G,E,Qt0 A D λq H=>hk q (by simp[H])⟩
theorem Qfq:∀{as:List AK}{rs:List Nat}{vals:List Value},Qy4 F s as rs vals-> ∀q,q∈rs->s.isBox q
 |[],_,_,⟨h,_⟩,q,hq=>by subst h;cases hq
 |.sh _::as,rs,vals,⟨v,d,c,a⟩,q,hq=>Qfq a q hq
 |.mv _::as,rs,vals,⟨v,d,c,a⟩,q,hq=>Qfq a q hq
 |.bx e T o::as,rs,vals,⟨k,g,b,S,d,f,y,c,a,l,i,j⟩,q,hq=>by
  subst c;rcases List.mem_cons.1 hq with rfl|hq
  ·exact⟨e,T,f,y,i⟩
  ·exact Qfq j q hq
theorem Q3e{q d:Nat}{t:Tm}(h:Wn s d=true)(hq:q≠d):Wn (Vv s q t) d=true:=by
 unfold Wn at*
 rw[Ks,if_neg (by simpa using hq)];exact h
theorem Z5j{d:Nat}:∀{as:List AK}{x:Zyb as}{rs:List Nat}{s:St},Wn s d=true->d∉rs->Wn (Qqp as x rs s) d=true
 |[],_,_,_,h,_=>h
 |.sh _::as,x,rs,s,h,a=>Z5j (as:=as) h a
 |.mv _::as,x,rs,s,h,a=>Z5j (as:=as) h a
 |.bx e T o::as,x,q::rs,s,h,a=>Z5j (as:=as) (Q3e h λe=>a (by simp[e])) λb=>a (by simp[b])
 |.bx .. ::_,x,[],s,h,_=>h
theorem Qpk:∀{ts:List Ty}{x:Vm ts}{rs:List Value},Qw1 w X ts x rs->rs.length=ts.length
 |[],_,_,h=>by simp_all[Qw1]
 |t::ts,_,_,⟨_,_,e,_,h⟩=>by simp[e,Qpk h]
theorem R.putTupSh{d:Nat}{vs:List Value}{ts:List Ty}{x:Vm ts}(h:R n W0 w X F H s a)(hd:Wn s d=true)(hn:d<n)(hx:Qw1 w X ts x vs):
  ∃F',R n W0 w X F' H {env:=Qex d ts x 0 (Jd s d .tup).env,dirty:=(Jd s d .tup).dirty,lent:=s.lent} (a.put (some d) (.tuple vs.toArray)):=by
 have I:R n W0 w X (Xb F (.m d) []) H (Jd s d .tup) (a.put (some d) (.tuple vs.toArray)):=(by simpa using h:R n W0 w X F ([]++H) s a).put hd hn rfl;have l:Zqf W0.gh (a.put (some d) (.tuple vs.toArray)) d=.tuple vs.toArray:=Zrg (a:=a) (by rw[h.size];exact hn);have A:∀i,(Jd s d .tup).get (.c d i)=.junk:=λi=>by
  rw[Zpa];simp only[reduceCtorEq,if_false];exact Classical.byContradiction λo=>by have:=(h.comps d i o).1;simp_all[Wn]
 suffices hs:∀(ts:List Ty)(x:Vm ts)(z:List Value)(i:Nat)(F:Key->List Nat)(r:List (Key×Tm))(pre:List Value),vs=pre++z->pre.length=i->Qw1 w X ts x z->
   R n W0 w X F H {env:=r,dirty:=(Jd s d .tup).dirty,lent:=s.lent} (a.put (some d) (.tuple vs.toArray))->Zka r (.m d)=.tup->(∀j,i<=j->Zka r (.c d j)=.junk)->
   ∃F',R n W0 w X F' H {env:=Qex d ts x i r,dirty:=(Jd s d .tup).dirty,lent:=s.lent} (a.put (some d) (.tuple vs.toArray)) by
  obtain⟨F',p⟩:=hs ts x vs 0 _ (Jd s d .tup).env [] rfl rfl hx I (Zx0 _ _ _) (λj _=>A j)
  grind
 intro ts
 induction ts with
 |nil=>
  intro x z i F r pre _ _ hx g _ _;exact⟨F,g⟩
 |cons t ts J=>
  intro x z i F r pre B q hx g v b;obtain⟨C,D,rfl,K,E⟩:=hx;have f:Q2 W0.gh (a.put (some d) (.tuple vs.toArray)) (.c d i)=Yz t C:=by
   simp_all[Q2,Array.getD_eq_getD_getElem?]
  have G:F (.c d i)=[]:=by
   have:=g.slots (.c d i);simp only[St.get,b i (Nat.le_refl _)]at this;exact this
  have y:R n W0 w X F H {env:=(.c d i,.val t (.u false) x.1)::r,dirty:=(Jd s d .tup).dirty,lent:=s.lent} (a.put (some d) (.tuple vs.toArray)):=
   {g with
    comps:=λL j o=>by
     simp only[St.get,Z7]at o⊢;simp only[reduceCtorEq,if_false];split at o
     ·rename_i e;simp only[Key.c.injEq]at e;obtain⟨rfl,rfl⟩:=e;refine⟨v,vs.toArray,l,?_⟩;simp_all
     ·exact g.comps L j o
    slots:=λk=>by
     by_cases hk:k=.c d i
     ·subst hk;simp only[St.get,Z7,if_true];rw[G];exact⟨C,f,by grind[rdF,Zap]⟩
     ·have M:St.get {env:=(Key.c d i,Tm.val t (.u false) x.1)::r,dirty:=(Jd s d .tup).dirty,lent:=s.lent} k=St.get {env:=r,dirty:=(Jd s d .tup).dirty,lent:=s.lent} k:=by simp[St.get,Z7,Ne.symm hk]
      rw[M];have:=Qmt (s:={env:=r,dirty:=(Jd s d .tup).dirty,lent:=s.lent}) (t:=d) (i:=i) (u:=Tm.val t (.u false) x.1) (S0:=[]) (g.slots k);have N:Xb F (.c d i) []=F:=by
       grind
      simp_all}
  obtain⟨F',p⟩:=J x.2 D (i+1) _ _ (pre++[Yz t C]) (by rw[B];simp) (by simp[q]) E y (by simp_all[Z7]) (λj O=>by
   rw[Z7,if_neg (by simp;omega)];grind)
  exact⟨F',p⟩
theorem R.putSh{d:Nat}{rs:List Value}:∀{ts:List Ty}{x:Vm ts},R n W0 w X F H s a->Wn s d=true->d<n->Qw1 w X ts x rs->
  ∃F',R n W0 w X F' H (Go.Am.Xc8 d s ts x) (a.put (some d) (Jq rs))
 |[],x,h,b,c,hx=>by
  rw[Zug (by rw[Qpk hx];simp)];exact h.putTupSh b c hx
 |[t],x,h,b,c,hx=>by
  obtain⟨e,f,rfl,g,rfl⟩:=hx;exact⟨_,(by simpa using h:R n W0 w X F ([]++H) s a).put b c ⟨e,rfl,by grind[rdF,Zap]⟩⟩
 |t::u::ts,x,h,b,c,hx=>by
  rw[Zug (by rw[Qpk hx];simp)];exact h.putTupSh b c hx
theorem Qpi:∀{ts:List (Ty×Fl)}{x:Z13 ts}{rs:List Value}{S:List Nat},Qqr w X B ts x rs S->rs.length=ts.length
 |[],_,_,_,h=>by simp[h.1]
 |t::ts,_,_,_,⟨_,_,_,_,e,_,_,h⟩=>by simp[e,Qpi h]
theorem Qkx:∀{ts:List (Ty×Fl)}{x:Z13 ts}{rs:List Value}{S:List Nat},Qqr w X B ts x rs S->(∀b,b∈S->B'<=b)->Qqr w X B' ts x rs S
 |[],_,_,_,h,_=>h
 |t::ts,_,_,_,⟨c,d,f,g,e,i,j,k⟩,a=>⟨c,d,f,g,e,i,Z6a j λb l=>a b (by simp_all),Qkx k λb l=>a b (by simp_all)⟩
theorem R.putTupF{d:Nat}{vs:List Value}{ts:List (Ty×Fl)}{x:Z13 ts}{S:List Nat}(h:R n W0 w X F (S++H) s a)(hd:Wn s d=true)(hn:d<n)(hx:Qqr w X W0.B ts x vs S):
  ∃F',R n W0 w X F' H {env:=Qnj d ts x 0 (Jd s d .tup).env,dirty:=(Jd s d .tup).dirty,lent:=s.lent} (a.put (some d) (.tuple vs.toArray)):=by
 have P:R n W0 w X (Xb F (.m d) []) (S++H) (Jd s d .tup) (a.put (some d) (.tuple vs.toArray)):=(by simpa using h:R n W0 w X F ([]++(S++H)) s a).put hd hn rfl;have q:Zqf W0.gh (a.put (some d) (.tuple vs.toArray)) d=.tuple vs.toArray:=Zrg (a:=a) (by rw[h.size];exact hn);have E:∀i,(Jd s d .tup).get (.c d i)=.junk:=λi=>by
  rw[Zpa];simp only[reduceCtorEq,if_false];exact Classical.byContradiction λu=>by have:=(h.comps d i u).1;simp_all[Wn]
 suffices hs:∀(ts:List (Ty×Fl))(x:Z13 ts)(D:List Value)(i:Nat)(S:List Nat)(F:Key->List Nat)(r:List (Key×Tm))(pre:List Value),vs=pre++D->pre.length=i->Qqr w X W0.B ts x D S->
   R n W0 w X F (S++H) {env:=r,dirty:=(Jd s d .tup).dirty,lent:=s.lent} (a.put (some d) (.tuple vs.toArray))->Zka r (.m d)=.tup->(∀j,i<=j->Zka r (.c d j)=.junk)->
   ∃F',R n W0 w X F' H {env:=Qnj d ts x i r,dirty:=(Jd s d .tup).dirty,lent:=s.lent} (a.put (some d) (.tuple vs.toArray)) by
  obtain⟨F',v⟩:=hs ts x vs 0 S _ (Jd s d .tup).env [] rfl rfl hx P (Zx0 _ _ _) (λj _=>E j)
  grind
 intro ts
 induction ts with
 |nil=>
  intro x D i S F r pre _ _ hx f _ _;obtain⟨rfl,rfl⟩:=hx;exact⟨F,f⟩
 |cons t ts Q=>
  intro x D i S F r pre G y hx f z o;obtain⟨I,J,M,N,rfl,rfl,K,L⟩:=hx
  have p:Q2 W0.gh (a.put (some d) (.tuple vs.toArray)) (.c d i)=Yz t.1 I:=by
   simp_all[Q2,Array.getD_eq_getD_getElem?]
  have A:R n W0 w X (Xb F (.c d i) M) (N++H) {env:=(.c d i,.val t.1 t.2 x.1)::r,dirty:=(Jd s d .tup).dirty,lent:=s.lent} (a.put (some d) (.tuple vs.toArray)):=by
   have U:F (.c d i)=[]:=by
    have:=f.slots (.c d i);simp only[St.get,o i (Nat.le_refl _)]at this;exact this
   have C:=f.hnodup;rw[List.append_assoc]at C;exact
   {size:=f.size
    defers:=f.defers
    below:=f.below
    glob:=f.glob
    gx:=f.gx
    xs:=f.xs
    fix:=f.fix
    xlt:=f.xlt
    xin:=f.xin
    x0:=f.x0
    own:=λk b g=>by
     simp only[Xb]at g;split at g
     ·exact f.hown b (by simp[g])
     ·exact f.own k b g
    nodup:=λk=>by
     simp only[Xb];split
     ·grind
     ·exact f.nodup k
    disj:=λk O b g l=>by
     simp only[Xb]at g l;split at g<;>split at l
     ·simp_all
     ·exact absurd (by simp[g]) (f.hdisj O b l)
     ·exact absurd (by simp[l]) (f.hdisj k b g)
     ·exact f.disj k O b g l
    hown:=λb g=>f.hown b (by simp_all)
    hnodup:=(List.nodup_append.1 C).2.1
    hdisj:=λk b g Z=>by
     simp only[Xb]at g;split at g
     ·grind
     ·exact f.hdisj k b g (by simp_all)
    comps:=λV j u=>by
     simp only[St.get,Z7]at u⊢;simp only[reduceCtorEq,if_false];split at u
     ·rename_i e;simp only[Key.c.injEq]at e;obtain⟨rfl,rfl⟩:=e;refine⟨z,vs.toArray,q,?_⟩;simp_all
     ·exact f.comps V j u
    slots:=λk=>by
     by_cases hk:k=.c d i
     ·subst hk;simp only[St.get,Z7,if_true,Xb];exact⟨I,p,K⟩
     ·have W:St.get {env:=(Key.c d i,Tm.val t.1 t.2 x.1)::r,dirty:=(Jd s d .tup).dirty,lent:=s.lent} k=St.get {env:=r,dirty:=(Jd s d .tup).dirty,lent:=s.lent} k:=by simp[St.get,Z7,Ne.symm hk]
      have Y:Xb F (.c d i) M k=F k:=by simp[Xb,hk]
      rw[W,Y];exact Qmt (s:={env:=r,dirty:=(Jd s d .tup).dirty,lent:=s.lent}) (f.slots k)}
  obtain⟨F',v⟩:=Q x.2 J (i+1) N _ _ (pre++[Yz t.1 I]) (by rw[G];simp) (by simp[y]) L A (by simp_all[Z7]) (λj hj=>by
   rw[Z7,if_neg (by simp;omega)];grind)
  exact⟨F',v⟩
theorem R.putF{d:Nat}{rs:List Value}:∀{ts:List (Ty×Fl)}{x:Z13 ts}{S:List Nat},R n W0 w X F (S++H) s a->Wn s d=true->d<n->Qqr w X W0.B ts x rs S->
  ∃F',R n W0 w X F' H (Go.Am.Xfa d s ts x) (a.put (some d) (Jq rs))
 |[],x,S,h,b,c,hx=>by
  rw[Zug (by rw[Qpi hx];simp)];exact h.putTupF b c hx
 |[t],x,S,h,b,c,hx=>by
  obtain⟨e,f,i,j,rfl,rfl,g,rfl,rfl⟩:=hx;exact⟨_,h.put b c ⟨e,rfl,by simpa using g⟩⟩
 |t::u::ts,x,S,h,b,c,hx=>by
  rw[Zug (by rw[Qpi hx];simp)];exact h.putTupF b c hx
def Q41(gh:Nat->Value)(X:Nat->Prop)(s:St)(a:Act)(rs:List Nat)(w w':World):Prop:=∀b,(X b\/ ∃r,s.isBox r/\r∉rs/\Q2 gh a (.m r)=.pointer (some ⟨b,0,none⟩))->w'.heap[b]? =w.heap[b]?
def Qjl(Γ:Z1w)(s:St)(f:FuncId)(xs:List Operand):List Nat:=
 match Γ.find f with
 |some e=>match Zy7 (Zp5 e.args xs s) e.args xs with
  |some (m,s2)=>match Z1n s2 m e.args xs with
   |some (_,rs)=>rs
   |none=>[]
  |none=>[]
 |none=>[]
theorem Z7r{ρ:Type}{Γ:Z1w}(hs0:g.soft=false)(hΓ:Γ.ok P g)(h:R n W0 w X F [] s a){f:FuncId}{fo:Operand}(hfo:a.eval fo=.func (.func f) #[] #[]){xs:Array Operand}{ats:Array TypeId}(ho:o.op=.call {callee:=.value fo,args:=xs,argTypes:=ats}){k:St->Option ρ}{r:ρ}(hr:Qnb Γ n s o.dst f xs.toList k=some r)
  {K:Act->World->Prop}{Q:Exit->Act->World->Prop} (hK:∀v w' X' F' s',k s'=some r->R n W0 w' X' F' [] s' (a.put o.dst v)->(∀b,X b->X' b)->Q41 W0.gh X s a (Qjl Γ s f xs.toList) w w'->K (a.put o.dst v) w'):o.wp P a w K Q:=by
 have i:∀e m s2 V rs,Γ.find f=some e->Zy7 (Zp5 e.args xs.toList s) e.args xs.toList=some (m,s2)->Z1n s2 m e.args xs.toList=some (V,rs)->Qjl Γ s f xs.toList=rs:=λe m s2 V rs l h3 h2=>by
  simp_all[Qjl]
 unfold Qnb at hr;split at hr
 ·cases hr
 ·rename_i e he;obtain⟨rfl,al⟩:=Z1w.find_ok hΓ he;obtain⟨X1,F1,l,ae,A⟩:=Zie hs0 (as:=e.args) (xs:=xs.toList) h;have i:=λm s2 V rs=>i e m s2 V rs he;generalize Zp5 e.args xs.toList s=s1 at hr l A i;split at hr
  ·cases hr
  rename_i m s2 am;obtain⟨M,F1,l,az,a0,ap⟩:=Z0a l am;have A:=λq p=>ap q (A q p);have i:=λV rs=>i m s2 V rs am;generalize s2=s1 at hr l A i;split at hr
  ·cases hr
  ·rename_i V rs ar;split at hr
   ·cases hr
   ·rename_i hn;rw[i V rs ar]at hK;obtain⟨L,a1,a2,a3,a4⟩:=Z25 l a0 (List.nodup_append.1 l.hnodup).1 (λk b hb D=>l.hdisj k b hb (by simp[D])) ar hn;have ag:=Qkt hn;have hL:∀b,b∈L->W0.mine b/\b<w.heap.size/\ ¬X1 b:=λb hb=>by
     rcases a4 b hb with⟨q,_,p⟩|hb
     ·exact l.own _ b p
     ·exact l.hown b (by simp[hb])
    have call:∀{z},e.F V=some z-> ∀{K':Act->World->Prop},(∀W S X' F' w',R n W0 w' X' F' (S++[]) (Qqp e.args z.2 rs (Zth rs s1)) a->rdS w' X' e.res z.1 W S->(∃Y:List Nat,rdP e.res z.1 W Y/\ ∀(j q b:Nat),rs[j]? =some q->Y[j]? =some b->Q2 W0.gh a (.m q)=.pointer (some ⟨b,0,none⟩))->(∀b,b∈S->W0.B<=b)->(∀b,X b->X' b)->Q41 W0.gh X s a rs w w'->K' (a.put o.dst (Jq W)) w')->o.wp P a w K' Q:=by
     intro z hz K' aa;have hc:=al.calls w X1 L V z (xs.toList.map a.eval) l.glob l.gx l.xlt (λb hb=>⟨(hL b hb).2.2,(hL b hb).2.1⟩) a3 a1 hz;have au:(execOp a.eval o).run P w=.ok (.enter e.f (xs.toList.map a.eval).toArray) w:=by
      have:execOp a.eval o=callFunc e.f (xs.map a.eval):=by
       grind[execOp,resolve,Deferred.ofValue,invoke]
      rw[this,al.enters];congr 2
      grind
     unfold Oper.wp;rw[au,Oper.upon_enter];refine hc.mono λen w' ⟨W,S,Y,C,X',a5,u,J,hO,hP⟩=>?_;subst a5;show K' (a.put o.dst (Jq W)) w';obtain⟨I,h2,a6,ah⟩:=R.wreck l ag (Qfq a2);have ab:=Z5y a2 hO;have a7:W0.below w':=⟨u.os.trans l.below.os,u.tape.trans l.below.tape,u.output.trans l.below.output,Nat.le_trans l.below.size u.size,λb hb=>
      (u.block b (Nat.lt_of_lt_of_le (W0.yW b hb) l.below.size) λD=>W0.sep hb (hL b D).1 rfl).trans (l.below.block b hb)⟩
     have N:∀q,q∈rs-> ∃b,I (.m q)=[b]/\b∈Y:=λq p=>by
      obtain⟨e1,T1,f1,y1,b1,S1,m1,m2,m3,m4,m5⟩:=ah q p
      grind
     have t:∀k,(∀q,q∈rs->k≠ .m q)-> ∀b,b∈I k->b<w.heap.size/\b∉L/\ ¬X1 b:=λk hk b hb=>by
      rw[a6 k hk]at hb;obtain⟨_,E,g3⟩:=l.own k b hb;refine⟨E,λD=>?_,g3⟩;rcases a4 b D with⟨q,p,hb'⟩|hb'
      ·exact hk q p (l.disj _ _ b hb hb')
      ·exact l.hdisj _ b hb (by simp[hb'])
     have av:∀b,b∈S++(Y++C)->W0.mine b/\b<w'.heap.size/\ ¬X' b:=λb hb=>by
      obtain⟨H,E,g3⟩:=u.nin b hb;exact⟨H.elim (λg=>.inl (Nat.le_trans l.below.size g)) λg=>(hL b g).1,E,g3⟩
     have ad:∀b,b∈S++C->W0.B<=b:=λb hb=>by
      have hb':b∈S++(Y++C):=by grind
      rcases(u.nin b hb').1 with g|g
      ·exact Nat.le_trans l.below.sizeB g
      ·rcases a4 b g with⟨q,p,hbq⟩|hbM
       rotate_left
       ·exact az b hbM
       obtain⟨e2,T2,f2,y2,b2,S2,c2,p1,p2,p3,_⟩:=ab q p;rw[p2]at hbq;rcases List.mem_cons.1 hbq with rfl|hbq
       ·exfalso;have ag:=u.nd
        grind
       ·have hs:=l.slots (.m q);rw[p1]at hs;obtain⟨b3,c3,S3,H,E,g3,g4⟩:=hs;rw[p2]at E;obtain⟨rfl,rfl⟩:=List.cons.inj E
        grind[Qud]
     have h3:R n W0 w' X1 I [] (Zth rs s1) a:=h2.drop.worldD (rs:=rs) a7 u.size (λb hb=>u.block b (l.xlt b hb) λD=>(hL b D).2.2 hb)
      (λq p=>by
       obtain⟨e1,T1,f1,y1,b1,S1,m1,m2,m3,m4,m5⟩:=ah q p;obtain⟨e2,T2,f2,y2,b2,S2,c2,p1,p2,p3,p4,p5,p6⟩:=ab q p
       grind)
      (λk hk b hb=>u.block b (t k hk b hb).1 (t k hk b hb).2.1)
     have h4:R n W0 w' X' I [] (Zth rs s1) a:=R.xup hs0 h3 u.xx u.xlt
      (λb hb=>(u.xin b hb).elim (l.xin b) λg=>.inr (g.elim (λg=>.inl (Nat.le_trans l.below.size g)) λg=>(hL b g).1))
      (λk b hb hx=>by
       by_cases hk:∃q,q∈rs/\k=.m q
       ·obtain⟨q,p,rfl⟩:=hk;obtain⟨b1,H,E⟩:=N q p
        grind
       ·obtain⟨H,E,g3⟩:=t k (λq p e=>hk ⟨q,p,e⟩) b hb;rcases u.xin b hx with g|g|g
        ·exact g3 g
        all_goals grind) (λb hb=>by cases hb)
     have O:=List.nodup_append.1 u.nd;have aw:=List.nodup_append.1 O.2.1;have h5:R n W0 w' X' I (C++(S++[])) (Zth rs s1) a:=by
      have:=h4.hand (S:=C++S) (λb hb=>av b (by grind))
       (List.nodup_append.2 ⟨aw.2.1,O.1,λx hx y hy e=>O.2.2 y hy x (by simp[hx]) e.symm⟩)
       (λk b hb D=>by
        have bc:b∈S++C:=by grind
        by_cases hk:∃q,q∈rs/\k=.m q
        ·obtain⟨q,p,rfl⟩:=hk;obtain⟨b1,H,E⟩:=N q p
         grind
        ·obtain⟨H,E,g3⟩:=t k (λq p e=>hk ⟨q,p,e⟩) b hb;have a8:b∈S++(Y++C):=by grind
         rcases(u.nin b a8).1 with g|g
         all_goals grind) (λb _ D=>by cases D)
      simpa using this
     have D:Qt1 I (Zth rs s1) e.args rs Y:=Qt0 a2 hO λq p e1 T1 f1 y1 b1 S1 H E=>by
      obtain⟨e2,T2,f2,y2,b2,S2,m1,m2,m3,m4,m5⟩:=ah q p
      grind
     obtain⟨F6,h6⟩:=Z58 h5 hO D ag λb hb=>ad b (by simp[hb]);refine aa W S X' F6 w' h6 J ⟨Y,hP,λj q b=>Qfr h5 D⟩ (λb hb=>ad b (by simp[hb])) (λb hb=>u.xx b (ae b hb)) λb hb=>?_;rcases hb with hb|⟨q,p,bd,hv⟩
     ·exact u.block b (l.xlt b (ae b hb)) λD=>(hL b D).2.2 (ae b hb)
     ·obtain⟨S1,ak⟩:=l.boxIn (A q p) hv;refine u.block b (l.own (.m q) b (by rw[ak];simp)).2.1 λD=>?_;rcases a4 b D with⟨q',be,hb'⟩|hb'
      ·have:=l.disj (.m q) (.m q') b (by rw[ak];simp) hb'
       grind
      ·exact l.hdisj (.m q) b (by rw[ak];simp) (by simp[hb'])
    split at hr
    ·rename_i hd;simp only[Option.bind_eq_some_iff]at hr;obtain⟨z,hz,hk⟩:=hr;refine call hz λW S X' F' w' Z _ _ _ ax ay=>?_;have aa:=hK (Jq W) w' X' F' _ hk;rw[hd]at aa⊢;exact aa Z.drop ax ay
    ·rename_i d hd;split at hr
     ·cases hr
     ·rename_i hdn;simp only[Oba,Nat.blt_eq,Bool.not_eq_true']at hdn;simp only[Option.bind_eq_some_iff]at hr;obtain⟨z,hz,hk⟩:=hr;refine call hz λW S X' F' w' Z J a9 hB ax ay=>?_;obtain⟨Y,hP,p⟩:=a9;have G:=Z5j (as:=e.args) (x:=z.2) hdn.1.1 (Qfu hdn.2);have bb:∃F' s',k s'=some r/\R n W0 w' X' F' [] s' (a.put (some d) (Jq W)):=by
       generalize Qqp e.args z.2 rs (Zth rs s1)=s3 at Z G hk;generalize z.1=zz at J hP hk;revert zz;generalize e.res=rk;intro zz J hP hk;cases rk with
       |vals ts=>
        obtain⟨I,h2⟩:=Z.putRes G hdn.1.2 (Qg0 J hB);exact⟨I,_,hk,h2⟩
       |newb e2 T2=>
        obtain⟨b,c,rfl,rfl,H,E⟩:=J;exact⟨_,_,hk,Z.put G hdn.1.2 ⟨b,c,[],rfl,rfl,H,by grind[rdF,Zap]⟩⟩
       |shr ts=>
        obtain⟨rfl,E⟩:=J;obtain⟨I,h2⟩:=R.putSh (by simpa using Z) G hdn.1.2 E;exact⟨I,_,hk,h2⟩
       |flg ts=>
        obtain⟨I,h2⟩:=R.putF Z G hdn.1.2 (Qkx J hB);exact⟨I,_,hk,h2⟩
       |fp T j p1 p2=>
        have J:S=[]:=J;subst J;obtain⟨b,hb,rfl⟩:=hP;simp only[Xa5]at hk;split at hk
        ·rename_i q ba;split at hk
         ·rename_i e2 U f y hg;split at hk
          ·rename_i hU;have hU:=Ode hU;subst hU;have hs:=Z.slots (.m q);rw[hg]at hs;obtain⟨b2,c2,S2,H,E,g3,g4⟩:=hs;have hv:=p j q b ba hb;rw[hv]at H;simp only[Value.pointer.injEq,Osi,Addr.mk.injEq,and_true]at H;subst H;cases zz with
           |true=>exact⟨_,_,hk,Z.put G hdn.1.2 ⟨rfl,e2,U,f,y,b,S2,hg,E,rfl⟩⟩
           |false=>exact⟨_,_,hk,Z.put G hdn.1.2 ⟨rfl,e2,U,f,y,b,S2,hg,E,rfl⟩⟩
          ·cases hk
         ·cases hk
        ·cases hk
      grind
def noP(d:Nat):Tm->Bool|.ptr r _=> !(Nat.beq r d)|.aep r _ _=> !(Nat.beq r d)|.pls _ l=>l.all λq=> !(Nat.beq q.1 d)|.cl _ l=>l.all λq=> !(Nat.beq q d)|.gd _ _ t=>noP d t|_=>true
def Xa2(s:St)(d:Nat):Bool:=s.env.all λp=>noP d (s.get p.1)
theorem Qvz:∀{l:List (Key×Tm)}{k:Key},Zka l k=.junk\/ ∃p∈l,p.1=k
 |[],k=>.inl rfl
 |(j,t)::r,k=>by
  rw[Z7];split
  ·simp_all
  ·rcases Qvz (l:=r) (k:=k)with h|⟨p,a,e⟩
   all_goals grind
theorem Q7n{s:St}{d:Nat}(h:Xa2 s d=true)(k:Key):noP d (s.get k)=true:=by
 unfold Xa2 at h;rcases Qvz (l:=s.env) (k:=k)with hk|⟨p,a,rfl⟩
 ·unfold St.get;rw[hk];rfl
 grind
def Qbu(q:Nat):List (Key×Tm)->St->St
 |[],s=>s
 |(.m k,_)::r,s=>match s.get (.m k)with
  |.ptr q' _=>match Nat.beq q' q with
   |true=>Qbu q r (Vv s k .junk)
   |false=>Qbu q r s
  |_=>Qbu q r s
 |(.c _ _,_)::r,s=>Qbu q r s
theorem Z33{q k:Nat}{e:TypeId}{T:Ty}{f:Fl}{y:T.den}:∀{l:List (Key×Tm)}{s:St},s.get (.m k)=.box e T f y->(Qbu q l s).get (.m k)=.box e T f y
 |[],s,h=>h
 |(.m j,_)::r,s,h=>by
  simp only[Qbu];split
  ·rename_i a p b;split
   ·refine Z33 ?_;rw[Ks,if_neg]
    all_goals grind
   ·exact Z33 h
  ·exact Z33 h
 |(.c _ _,_)::r,s,h=>Z33 (l:=r) h
def Q5l:St->List Operand->Option (TV×St)
 |s,[]=>some (⟨.unit,()⟩,s)
 |s,x::xs=>match Qr6 (op1 s [] x)with
  |some q=>match s.get (.m q)with
   |.box e T f y=>match f.live&&Xa2 (Qbu q s.env s) q with
    |true=>match Q5l (Vv (Qbu q s.env s) q (.shp T y)) xs with
     |some (⟨U,u⟩,s')=>some (⟨.pair (.sptr e T) U,(y,u)⟩,s')
     |none=>none
    |false=>none
   |_=>none
  |none=>none
def Z5h:(ts:List Ty)->(T:Ty)->T.den->Option (Vm ts)
 |[],.unit,_=>some ()
 |.sptr e t::ts,.pair a b,x=>match J8 (.sptr e t) a x.1,Z5h ts b x.2 with
  |some u,some us=>some (u,us)
  |_,_=>none
 |_,_,_=>none
def Zxh(s:St)(tg:Ye):(ts:List Ty)->List Operand->(T:Ty)->T.den->Option (Vm ts)
 |ts,[],T,y=>Z5h ts T y
 |t::ts,x::xs,T,y=>match Zbw s (op1 s tg x) t,Zxh s tg ts xs T y with
  |some u,some us=>some (u,us)
  |_,_=>none
 |[],_::_,_,_=>none
def Qva(s:St)(tg:Ye)(x:Operand):Option (FuncId×TV):=
 match Zxa s (op1 s tg x)with
 |some ⟨.clo f T,_,y⟩=>some (f,⟨T,y⟩)
 |_=>none
def Q5j{ρ:Type}(Γ:Env)(n:Nat)(s:St)(tg:Ye)(dst:Option Nat)(c:FuncId×TV)(xs:List Operand)(k:St->Option ρ):Option ρ:=
 match Γ.find c.1 with
 |none=>none
 |some e=>match Zxh s tg e.args xs c.2.1 c.2.2 with
  |none=>none
  |some us=>match dst with
   |none=>(e.F us).bind λ_=>k s
   |some d=>match Wn s d&&Nat.blt d n with
    |false=>none
    |true=>(e.F us).bind λr=>k (Qd8 d s e.res r)
theorem Q8x{s2:St}{d:Nat}{t:Tm}{S0:List Nat}{v:Value}{S:List Nat}(ht:Z6n gh w w' s s2 F (Xb F (.m d) S0) a d t)(hX:∀b,X b->X' b)(hw:∀b,X b->w'.heap[b]? =w.heap[b]?)
  (hF:∀k b,k≠ .m d->b∈F k->w'.heap[b]? =w.heap[b]?) (hS:∀b∈S,w'.heap[b]? =w.heap[b]?):∀{u:Tm},noP d u=true->
  vt gh w X B s F a v S u->vt gh w' X' B s2 (Xb F (.m d) S0) a v S u:=by
 intro u D c;have Z:∀{r:Nat}{p:List Nat}{v:Value}{U:Ty},(r=d-> ∀v U,Xw gh w s F a d p v U->Xw gh w' s2 (Xb F (.m d) S0) a d p v U)->Xw gh w s F a r p v U->Xw gh w' s2 (Xb F (.m d) S0) a r p v U:=by
  intro r p v U hk hv;by_cases C:r=d
  ·simp_all
  ·exact Qp5 ht C (λb=>hF (.m r) b (by simpa using C)) hv
 induction u with
 |junk=>exact c
 |tup=>exact c
 |val T f x=>exact Zn7 (s:=s) (F:=λ_=>[]) (a:=a) (v:=v) (t:=.val T f x) hX hw (by simp) hS (show vt gh w X B s (λ_=>[]) a v S (.val T f x)from c)
 |box e T f x=>exact Zn7 (s:=s) (F:=λ_=>[]) (a:=a) (v:=v) (t:=.box e T f x) hX hw (by simp) hS (show vt gh w X B s (λ_=>[]) a v S (.box e T f x)from c)
 |shp T x=>exact Zn7 (s:=s) (F:=λ_=>[]) (a:=a) (v:=v) (t:=.shp T x) hX hw (by simp) hS (show vt gh w X B s (λ_=>[]) a v S (.shp T x)from c)
 |ptr r p=>
  obtain⟨o,e,T,f,x,b,E,A,H,G⟩:=c;have C:d≠r:=λe=>by simp_all[noP]
  exact⟨o,e,T,f,x,b,E,by rw[ht.get];simp[C,A],by grind,G⟩
 |aep r p i=>
  obtain⟨o,e,T,f,x,b,E,n,L,y,A,H,G,M⟩:=c;have C:d≠r:=λe=>by simp_all[noP]
  exact⟨o,e,T,f,x,b,E,n,L,y,by rw[ht.get];simp[C,A],by grind,G,M⟩
 |bor r p=>
  obtain⟨o,A⟩:=c;refine⟨o,λz=>?_⟩;obtain⟨z,I⟩:=ht.bad r p z
  grind
 |elp r p i q=>
  obtain⟨o,A⟩:=c;refine⟨o,λz=>?_⟩;obtain⟨z,I⟩:=ht.bad r p z
  grind
 |bel r p i q=>
  obtain⟨o,A⟩:=c;refine⟨o,λz N=>?_⟩;obtain⟨N,C⟩:=ht.el r (St.bad_foul z) N;obtain⟨z,I⟩:=ht.bad r p z;obtain⟨e,L,J,n,O,x0,y,cs,h,k1,k2,k3,k4,k5,k6,k7⟩:=A z N;have W:∀m,(J.add m).block=J.block:=λm=>by grind[Addr.add]
  exact⟨e,L,J,n,O,x0,y,cs,Z I h,k1,k2,by grind,k4,k5,k6,λj u I=>by
   grind[World.cell?_of_block]⟩
 |cl f l=>
  obtain⟨o,P,A,H,G⟩:=c;refine⟨o,P,A,H,λj q K=>?_⟩;obtain⟨u,c,e,T,f,x,b,E,Q,g2,V⟩:=G j q K;have C:d≠q:=λe=>by
   have:=List.all_eq_true.1 (show l.all (λq=> !(Nat.beq q d))=true from D) q (List.mem_of_getElem? K);simp[e]at this
  exact⟨u,c,e,T,f,x,b,E,by rw[ht.get];simp[C,Q],by grind,V⟩
 |pls hh l=>
  obtain⟨o,J,P,A,H,G,M,h5⟩:=c;refine⟨o,J,P,hX _ A,λj u I=>?_,G,λj q K=>?_,h5⟩
  ·grind[Addr.add,World.cell?_of_block]
  ·obtain⟨u,c,e,T,f,x,b,E,Q,g2,V⟩:=M j q K;have C:d≠q.1:=λe=>by
    have:=List.all_eq_true.1 (show l.all (λq=> !(Nat.beq q.1 d))=true from D) q (List.mem_of_getElem? K);simp[e]at this
   exact⟨u,c,e,T,f,x,b,E,by rw[ht.get];simp[C,Q],by grind,V⟩
 |gd g Y u ih=>
  intro z;obtain⟨z,I⟩:=ht.foul g z;obtain⟨o,A,H⟩:=c z;refine⟨?_,λW=>ih D (A W),H⟩;by_cases hg:g=d
  ·simp_all
  ·rw[ht.get];grind
theorem R.frzB(hs0:g.soft=false)(h:R n W0 w X F H s a){k:Nat}{e:TypeId}{T:Ty}{f:Fl}{x:T.den}(hg:s.get (.m k)=.box e T f x)(hf:f.live=true)(hp:Xa2 s k=true):
  R n W0 w (λb=>X b\/b∈F (.m k)) (Xb F (.m k) []) H (Vv s k (.shp T x)) a/\ ∃b c,Q2 W0.gh a (.m k)=.pointer (some ⟨b,0,none⟩)/\b∈F (.m k)/\w.heap[b]? =some (.cells c e (0,0))/\rd w (λb=>X b\/b∈F (.m k)) W0.B false T x c.toList []:=by
 have y:=h.slots (.m k);rw[hg]at y;obtain⟨b,c,D,p,r,t,A⟩:=y;have z:rd w (λb=>X b\/b∈F (.m k)) W0.B false T x c.toList []:=Vc (λb l=>.inl l) hf A λb l=>.inr (by simp_all);have l:b∈F (.m k):=by rw[r];simp
 refine⟨?_,b,c,p,l,t,z⟩;exact
 {size:=h.size
  defers:=h.defers
  below:=h.below
  glob:=h.glob
  gx:=λb l=>.inl (h.gx b l)
  xs:=λe=>by simp_all
  fix:=h.fix
  xlt:=λb l=>l.elim (h.xlt b) λl=>(h.own _ b l).2.1
  xin:=λb l=>l.elim (h.xin b) λl=>.inr (h.own _ b l).1
  x0:=λb l=>.inl (h.x0 b l)
  own:=λj b l=>by
   simp only[Xb]at l;split at l
   ·cases l
   ·rename_i q;obtain⟨p,r,t⟩:=h.own j b l;exact⟨p,r,λhx=>hx.elim t λhk=>q (h.disj j (.m k) b l hk)⟩
  nodup:=λj=>by
   simp only[Xb];split
   ·simp
   ·exact h.nodup j
  disj:=λj C b l o=>by
   simp only[Xb]at l o;split at l
   ·cases l
   ·split at o
    ·cases o
    ·exact h.disj j C b l o
  hown:=λb l=>let⟨p,r,t⟩:=h.hown b l;⟨p,r,λhx=>hx.elim t λhk=>h.hdisj _ b hk l⟩
  hnodup:=h.hnodup
  hdisj:=λj b l=>by
   simp only[Xb]at l;split at l
   ·cases l
   ·exact h.hdisj j b l
  comps:=λd i v=>by
   rw[Ks]at v⊢;simp only[reduceCtorEq,if_false]at v;obtain⟨p,r⟩:=h.comps d i v
   grind
  slots:=λj=>by
   by_cases q:j=.m k
   ·subst q;rw[Ks];simp only[if_true,Xb];refine⟨rfl,⟨b,0,none⟩,c.toList,p,.inr l,λj u q=>?_,Zap z (by simp)⟩;rw[Zl0 w t,<-Array.getElem?_toList,Nat.zero_add];exact q
   ·have e:Xb F (.m k) [] j=F j:=by simp[Xb,q]
    rw[Ks,e];simp only[Ne.symm q,if_false];exact Q8x Qju (λ_ h=>.inl h) (λ_ _=>rfl) (λ_ _ _ _=>rfl) (λ_ _=>rfl) (Q7n hp j) (h.slots j)}
theorem Zyc{q:Nat}:∀{l:List (Key×Tm)}{s:St}{F:Key->List Nat},R n W0 w X F H s a-> ∃F',R n W0 w X F' H (Qbu q l s) a
 |[],s,F,h=>⟨F,h⟩
 |(.m k,_)::r,s,F,h=>by
  simp only[Qbu];split
  ·rename_i i p d;split
   ·exact Zyc (h.turn (S':=[]) (H':=H) h.below (Nat.le_refl _) (λ_ _=>rfl) (λ_ _ _ _=>rfl) (λb g=>by simp_all) (by simpa using h.hnodup) (by rw[d];simp) (λe T f x b S g j=>by simp_all) rfl)
   ·exact Zyc h
  ·exact Zyc h
 |(.c _ _,_)::r,s,F,h=>Zyc (l:=r) h
theorem Qne(hs0:g.soft=false):∀{xs:List Operand}{s s':St}{X:Nat->Prop}{F:Key->List Nat}{U:TV},R n W0 w X F H s a->Q5l s xs=some (U,s')->
  ∃X' F',R n W0 w X' F' H s' a/\(∀b,X b->X' b)/\rd w X' W0.B false U.1 U.2 (xs.map a.eval) []
 |[],s,s',X,F,U,h,d=>by
  simp only[Q5l,Osi,Opi]at d;obtain⟨rfl,rfl⟩:=d;exact⟨X,F,h,λ_ h=>h,rfl,rfl⟩
 |x::xs,s,s',X,F,U,h,d=>by
  simp only[Q5l]at d;split at d
  ·rename_i q o;split at d
   ·rename_i e T f y m;split at d
    ·rename_i i;simp only[Oba]at i;split at d
     ·rename_i E G I hk;simp only[Osi,Opi]at d;obtain⟨rfl,rfl⟩:=d;obtain⟨J,p⟩:=Zyc (q:=q) (l:=s.env) h;obtain⟨r,b,c,t,u,v,z⟩:=R.frzB hs0 p (Z33 m) i.1 i.2;obtain⟨X',F',A,j,C⟩:=Qne hs0 r hk;refine⟨X',F',A,λb D=>j b (.inl D),?_⟩;have k:=Z28 h o m;exact⟨[_],_,[],[],rfl,rfl,⟨rfl,rfl,b,c,by rw[k,t],j b (.inr u),v,Zgz j (λ_ _=>rfl) z (by simp)⟩,C⟩
     ·cases d
    ·cases d
   ·cases d
  ·cases d
theorem Qqc{X:Nat->Prop}(hX:∀b,X b->b<w.heap.size){ts:List Ty}:∀{T:Ty}{y:T.den}{us:Vm ts}{cs:List Value},Z5h ts T y=some us->rd w X B false T y cs []->Zuh w (· <w.heap.size) 0 ts us cs:=by
 induction ts with
 |nil=>
  intro T y us cs c d;cases T<;>first
   |exact d.1
   |(simp[Z5h]at c;done)
 |cons t ts h=>
  intro T y us cs c d;cases t<;>first
   |(simp[Z5h]at c;done)
   |skip
  cases T<;>first
   |(simp[Z5h]at c;done)
   |skip
  rename_i e t a b;obtain⟨i,j,k,l,m,D,n,p⟩:=d;simp only[Z5h]at c;split at c
  ·rename_i u q r f;simp only[Osi]at c;subst c;have:=Ze3 r;obtain⟨E,F⟩:=y;cases this;have s:k=[]/\l=[]:=by simp_all
   obtain⟨rfl,rfl⟩:=s;obtain⟨_,o,v,x,g,z,A,C⟩:=n;refine⟨i,j,by rw[m,g];rfl,?_,h f p⟩;exact Zap (Zgx (Nat.zero_le _) hX ⟨rfl,o,v,x,g,z,A,C⟩) (by simp)
  ·cases c
theorem Z63{Y:Nat->Prop}(hY:∀b,Y b->b<w.heap.size)(h:R n W0 w X F H s a)(ht:tg.ok W0.gh a):∀{ts:List Ty}{xs:List Operand}{T:Ty}{y:T.den}{us:Vm ts}{cs:List Value},Zxh s tg ts xs T y=some us->rd w Y B false T y cs []->Zuh w (· <w.heap.size) 0 ts us (xs.map a.eval++cs)
 |ts,[],T,y,us,cs,c,d=>Qqc hY (by simp_all[Zxh]) d
 |t::ts,x::xs,T,y,us,cs,c,d=>by
  simp only[Zxh]at c;split at c
  ·rename_i u g i e;simp only[Osi]at c;subst c;obtain⟨f,j,k⟩:=Zci h ht i;exact⟨f,_,by simp[j],Zgx (Nat.zero_le _) (λ_ h=>h) k,Z63 hY h ht e d⟩
  ·cases c
 |[],_::_,_,_,_,_,c,_=>by grind[Zxh]
theorem Qvb(h:R n W0 w X F H s a)(ht:tg.ok W0.gh a){x:Operand}{f:FuncId}{U:TV}(hf:Qva s tg x=some (f,U)):∃cs:List Value,a.eval x=.func (.func f) #[] cs.toArray/\ ∃S:List Nat,rd w (λb=>X b\/b∈S) W0.B false U.1 U.2 cs []/\ ∀b∈S,b<w.heap.size:=by
 unfold Qva at hf;split at hf
 ·rename_i o T p y d;simp only[Osi,Opi]at hf;obtain⟨rfl,rfl⟩:=hf;obtain⟨c,q,S,e,g,i⟩:=Zji h ht d;obtain⟨_,cs,j,l⟩:=Vc (X':=λb=>X b\/b∈S) (λ_ h=>.inl h) c g (λ_ h=>.inr h);exact⟨cs,by rw[e,j];rfl,S,l,λb m=>let⟨k,hk⟩:=i b m;(h.own k b hk).2.1⟩
 ·cases hf
theorem Qkb{Γ:Env}(hΓ:Γ.ok P g)(h:R n W0 w X F H s a)(ht:tg.ok W0.gh a){f:FuncId}{U:TV}{fo:Operand}(hfo:Qva s tg fo=some (f,U)){xs:Array Operand}{ats:Array TypeId}(ho:o.op=.call {callee:=.value fo,args:=xs,argTypes:=ats}){e:FnE}(he:Γ.find f=some e)
  {us:Vm e.args} (hus:Zxh s tg e.args xs.toList U.1 U.2=some us) {rv:Vm e.res} (hpre:e.F us=some rv) {K:Act->World->Prop}{Q:Exit->Act->World->Prop}
  (hK:∀rs S w',R n W0 w' X F (S++H) s a->Zjl w' W0.B e.res rv rs S->Old w w'->K (a.put o.dst (Jq rs)) w'):o.wp P a w K Q:=by
 obtain⟨D,l⟩:=Env.find_ok hΓ he;subst D;obtain⟨m,hfo,J,v,y⟩:=Qvb h ht hfo;have E:=l.calls w us rv (xs.toList.map a.eval++m) h.glob (Z63 (λb d=>d.elim (h.xlt b) (y b)) h ht hus v) hpre;have p:(execOp a.eval o).run P w=.ok (.enter e.f (xs.toList.map a.eval++m).toArray) w:=by
  have:execOp a.eval o=callFunc e.f (xs.map a.eval++m.toArray):=by
   simp_all[execOp,resolve,Deferred.ofValue,invoke]
  rw[this,l.enters];simp_all
 unfold Oper.wp;rw[p,Oper.upon_enter];refine E.mono λL w' ⟨rs,S,z,q,A,r⟩=>?_;subst z;show K (a.put o.dst (Jq rs)) w';have u:∀{j:List Ty}{x:Vm j}{rs:List Value}{S:List Nat},Zjl w' w.heap.size j x rs S->(∀b∈S,w.heap.size<=b/\b<w'.heap.size)/\Zjl w' W0.B j x rs S:=by
  intro j
  induction j with
  |nil=>intro x rs S h;exact⟨by simp[h.2],h⟩
  |cons t j G=>
   intro x rs S ⟨m,us,S1,S2,e1,e2,g1,g2⟩;obtain⟨M,I⟩:=G g2;refine⟨λb d=>?_,m,us,S1,S2,e1,e2,Zgx h.below.sizeB (λ_ h=>h) g1,I⟩
   grind[Zzg]
 obtain⟨c,i⟩:=u q;exact hK rs S w' ((h.below' r).hand (λb d=>⟨.inl (Nat.le_trans h.below.size (c b d).1),(c b d).2,λhx=>by have:=h.xlt b hx;grind⟩) A
  (λk b d C=>by have:=(h.own k b d).2.1;grind) (λb d C=>by have:=(h.hown b C).2.1;grind)) i (λk hk=>r.block k hk)
theorem Qu6{ρ:Type}{Γ:Env}(hΓ:Γ.ok P g)(h:R n W0 w X F H s a)(ht:tg.ok W0.gh a){c:FuncId×TV}{fo:Operand}(hfo:Qva s tg fo=some c){xs:Array Operand}{ats:Array TypeId}(ho:o.op=.call {callee:=.value fo,args:=xs,argTypes:=ats}){k:St->Option ρ}{r:ρ}(hr:Q5j Γ n s tg o.dst c xs.toList k=some r)
  {K:Act->World->Prop}{Q:Exit->Act->World->Prop} (hK:∀v w' F' s',k s'=some r->R n W0 w' X F' H s' (a.put o.dst v)->Old w w'->K (a.put o.dst v) w'):o.wp P a w K Q:=by
 unfold Q5j at hr;split at hr
 ·cases hr
 ·rename_i e m;split at hr
  ·cases hr
  ·rename_i u i;cases hd:o.dst with
   |none=>
    rw[hd]at hr;simp only[Option.bind_eq_some_iff]at hr;obtain⟨q,f,hk⟩:=hr;refine Qkb hΓ h ht hfo ho m i f λp S w' l b hold=>?_;have j:=hK (Jq p) w' F s hk;rw[hd]at j⊢;exact j l.drop hold
   |some d=>
    rw[hd]at hr;simp only at hr;split at hr
    ·cases hr
    ·rename_i hdn;simp only[Oba,Nat.blt_eq]at hdn;simp only[Option.bind_eq_some_iff]at hr;obtain⟨q,f,hk⟩:=hr;refine Qkb hΓ h ht hfo ho m i f λp S w' l b hold=>?_;obtain⟨F',t⟩:=l.putRes hdn.1 hdn.2 b
     grind
def Zx1:Ty->Bool|.int _=>true|.bool=>true|.str=>true|_=>false
def Z5x:Ty->Bool|.unit=>true|.hid t=>Zx1 t|.slice _ t=>Z5x t|.pair a b=>Z5x a&&Z5x b|.arr _ t=>Z5x t|_=>false
def Z3p:Ty->Bool|.unit|.int _|.bool|.str|.fnc _|.err=>true|.hid t=>Zx1 t|.slice _ t=>Z5x t|.pair a b=>Z3p a&&Z3p b|.arr _ t=>Z3p t|.sptr .. =>false|.clo .. =>false
def Z8e:Tm->Bool
 |.val T (.u false) _=>Z3p T
 |.val T f _=>match f with
  |.d=>true
  |.u _=>T.flat
  |.p _ _=>false
 |.box _ T (.u false) _=>Z3p T
 |.box _ T f _=>match f with
  |.d=>true
  |.u _=>T.flat
  |.p _ _=>false
 |.shp T _=>Z5x T
 |.pls _ _=>false
 |.gd _ _ t=>Z8e t
 |_=>true
def Qfm(s:St):Bool:=s.env.all λp=>Z8e p.2
def Z9i:List Value->List Value->Prop|[],vs=>vs=[]|u::us,vs=> ∃v r,vs=v::r/\Z5a u v/\Z9i us r
theorem Qjp:∀{a b c:List Value},Z9i (a++b) c-> ∃c1 c2,c=c1++c2/\Z9i a c1/\Z9i b c2
 |[],b,c,h=>⟨[],c,rfl,rfl,h⟩
 |u::a,b,c,⟨v,r,e,d,f⟩=>by
  obtain⟨c1,c2,rfl,g,i⟩:=Qjp f;exact⟨v::c1,c2,e,⟨v,c1,rfl,d,g⟩,i⟩
theorem Qjq:∀{a c:List Value},Z9i a c->c.length=a.length
 |[],c,h=>by rw[show c=[]from h]
 |u::a,c,⟨v,r,e,_,b⟩=>by rw[e];simp[Qjq b]
def Z4b:Ty->Ty|.int k=>.hid (.int k)|.bool=>.hid .bool|.str=>.hid .str|.slice e t=>.slice e (Z4b t)|.pair a b=>.pair (Z4b a) (Z4b b)|.arr n t=>.arr n (Z4b t)|T=>T
def Qkk:(T:Ty)->T.den->(Z4b T).den|.int _,_=>()|.bool,_=>()|.str,_=>()|.slice _ t,x=>List.map (Qkk t) x|.pair a b,x=>(Qkk a x.1,Qkk b x.2)|.arr _ t,x=>List.map (Qkk t) x|.unit,_=>()|.fnc _,_=>()|.err,x=>x|.hid _,_=>()|.sptr _ _,x=>x|.clo _ _,x=>x
def Zy1:Ty->Bool|.unit|.int _|.bool|.str=>true|.slice _ t=>Zy1 t|.pair a b=>Zy1 a&&Zy1 b|.arr _ t=>Zy1 t|_=>false
theorem Z5r:∀T:Ty,(Z4b T).size=T.size
 |.pair a b=>by simp[Z4b,Ty.size,Z5r a,Z5r b]
 |.arr n t=>by simp[Z4b,Ty.size,Z5r t]
 |.int _|.bool|.str|.slice .. |.unit|.fnc _|.err|.hid _|.sptr .. |.clo .. =>rfl
structure FnW where
 f:FuncId
 args:List Ty
 res:List Ty
 F:Vm args->Option (Vm res)
structure Qu1(P:Program)(e:FnW):Prop where
 enters:∀args w,(callFunc e.f args).run P w=.ok (.enter e.f args) w
 calls:∀(w:World)(L:Nat->Prop)(xs:Vm e.args)(r:Vm e.res)(vals:List Value),(∀b,L b->Zzf w b)->Zuh w L 0 e.args xs vals->e.F xs=some r->
  Calls P e.f vals.toArray w λen w'=> ∃rs S,en=.returned (Jq rs)/\Zjl w' w.heap.size e.res r rs S/\S.Nodup/\
   w'.os=w.os/\w'.tape=w.tape/\w'.output=w.output/\w.heap.size<=w'.heap.size/\(∀b,b<w.heap.size-> ¬L b->w'.heap[b]? =w.heap[b]?)/\Zsz L w w'/\ ∀b,L b->Zzf w' b
abbrev Z1x:=List FnW
def Z1x.find(Γ:Z1x)(f:FuncId):Option FnW:=
 match Γ with
 |[]=>none
 |e::r=>match Nat.beq e.f f with|true=>some e|false=>Z1x.find r f
def Z1x.ok(Γ:Z1x)(P:Program):Prop:= ∀e∈Γ,Qu1 P e
theorem Z1x.find_ok{Γ:Z1x}{P:Program}(h:Γ.ok P){f:FuncId}{e:FnW}(he:Γ.find f=some e):e.f=f/\Qu1 P e:=by
 induction Γ with
 |nil=>cases he
 |cons x r a=>
  simp only[Z1x.find]at he;split at he
  ·rename_i b;simp only[Osi]at he;subst he;exact⟨Onb b,h _ (by simp)⟩
  ·exact a (λe he=>h e (by simp[he])) he
theorem Q22(ad:Addr)(j:Nat):(ad.add j).block=ad.block:=by grind[Addr.add]
theorem Qcg(hso:Zsz X w w'){ad:Addr}(hX:X ad.block):∀{xs:List Value}{i:Nat},(∀j u,xs[j]? =some u->w.cell? (ad.add (i+j))=some u)->
  ∃xs',Z9i xs xs'/\ ∀j u,xs'[j]? =some u->w'.cell? (ad.add (i+j))=some u
 |[],i,_=>⟨[],rfl,by simp⟩
 |x::xs,i,h=>by
  obtain⟨v,d,b⟩:=hso (ad.add i) x (by grind[Q22]) (h 0 x rfl);obtain⟨xs',c,e⟩:=Qcg hso hX (xs:=xs) (i:=i+1) λj u a=>by
   have:=h (j+1) u (by simpa using a)
   grind
  refine⟨v::xs',⟨v,xs',rfl,b,c⟩,λj u a=>?_⟩
  grind
theorem Qv2(hso:Zsz X w w'){e:TypeId}{sz n:Nat}{v:Value}{xs:List Value}{S:List Nat}(h:hdr w X B false e sz n v xs S):∃xs',Z9i xs xs'/\hdr w' X B false e sz n v xs' S:=by
 obtain⟨d,a,p,b,f,g,k,m⟩:=h;rcases m with⟨rfl,rfl,rfl⟩|⟨c,rfl,h7,q⟩
 ·have:xs=[]:=List.eq_nil_of_length_eq_zero (by simpa using a);subst this;exact⟨[],rfl,d,a,none,0,f,g,k,.inl ⟨rfl,rfl,rfl⟩⟩
 ·rcases h7 with rfl|h7
  ·have:xs=[]:=List.eq_nil_of_length_eq_zero (by simpa using a);subst this;exact⟨[],rfl,d,a,some c,b,f,g,k,.inr ⟨c,rfl,.inl rfl,by simp⟩⟩
  ·obtain⟨xs',l,r⟩:=Qcg hso h7 (xs:=xs) (i:=0) (λj u o=>by simp_all);exact⟨xs',l,d,by rw[Qjq l,a],some c,b,f,g,k,.inr ⟨c,rfl,.inr h7,λj u o=>by simp_all⟩⟩
theorem Qab{α:Type}{r r':α->List Value->List Nat->Prop}(hr:∀x v v' T,r x v T->Z9i v v'->r' x v' T):∀{xs:List α}{vs vs':List Value}{S:List Nat},Zc2 r xs vs S->Z9i vs vs'->Zc2 r' xs vs' S
 |[],vs,vs',S,h,a=>by
  obtain⟨rfl,rfl⟩:=h;exact⟨a,rfl⟩
 |x::xs,vs,vs',S,⟨m,n,b,c,d,e,f,g⟩,a=>by
  rw[d]at a;obtain⟨i,j,rfl,k,l⟩:=Qjp a;exact⟨i,j,b,c,rfl,e,hr _ _ _ _ f k,Qab hr g l⟩
theorem Qxa{t:Ty}(ht:Zx1 t=true){y:t.den}{vs vs':List Value}{S:List Nat}(h:rd w X B false t y vs S)(hs:Z9i vs vs'):∃y',rd w' X' B false t y' vs' S:=by
 cases t<;>simp[Zx1]at ht
 case int k=>
  obtain⟨rfl,rfl⟩:=h;obtain⟨v,r,rfl,c,d⟩:=hs;obtain rfl:r=[]:=d;rcases c with rfl|⟨f,a,b,e,rfl⟩|⟨a,b,e,rfl⟩|⟨a,b,e,rfl⟩
  ·exact⟨y,rfl,rfl⟩
  ·simp only[Value.int.injEq]at e;obtain⟨rfl,rfl⟩:=e;exact⟨b,rfl,rfl⟩
  all_goals simp_all
 case bool=>
  obtain⟨rfl,rfl⟩:=h;obtain⟨v,r,rfl,c,d⟩:=hs;obtain rfl:r=[]:=d;rcases c with rfl|⟨f,a,b,e,rfl⟩|⟨a,b,e,rfl⟩|⟨a,b,e,rfl⟩
  ·exact⟨y,rfl,rfl⟩
  ·cases e
  ·exact⟨b,rfl,rfl⟩
  ·cases e
 case str=>
  obtain⟨rfl,rfl⟩:=h;obtain⟨v,r,rfl,c,d⟩:=hs;obtain rfl:r=[]:=d;rcases c with rfl|⟨f,a,b,e,rfl⟩|⟨a,b,e,rfl⟩|⟨a,b,e,rfl⟩
  ·exact⟨y,rfl,rfl⟩
  ·cases e
  ·cases e
  ·exact⟨b.data.toList,rfl,rfl⟩
theorem Z47(hso:Zsz X w w'):∀{T:Ty}{x:T.den}{vs vs':List Value}{S:List Nat},Z5x T=true->rd w X B false T x vs S->Z9i vs vs'->rd w' X B false T x vs' S
 |.unit,_,_,_,_,_,⟨f,g⟩,d=>by subst f;exact⟨d,g⟩
 |.hid t,_,vs,vs',_,c,⟨e,y,h⟩,d=>let⟨y',j⟩:=Qxa c h d;⟨(Qjq d).trans e,y',j⟩
 |.slice _ t,_,_,_,_,c,⟨v,D,k,l,e,m,f,g⟩,d=>by
  subst e;obtain⟨i,r,rfl,o,p⟩:=d;obtain rfl:r=[]:=p;obtain⟨E,s,hv,_⟩:=Zgp f;have:i=v:=by
   rcases o with rfl|⟨_,_,_,e,_⟩|⟨_,_,e,_⟩|⟨_,_,e,_⟩
   all_goals simp_all
  subst this;obtain⟨q,u,z⟩:=Qv2 hso f;exact⟨i,q,k,l,rfl,m,z,Qab (r:=rd w X B false t) (r':=rd w' X B false t) (λx v i T h d=>Z47 (T:=t) hso c h d) g u⟩
 |.pair a b,_,_,_,_,c,⟨F,G,k,l,e,m,f,g⟩,d=>by
  simp only[Z5x,Oba]at c;rw[e]at d;obtain⟨A,C,rfl,o,p⟩:=Qjp d;exact⟨A,C,k,l,rfl,m,Z47 hso c.1 f o,Z47 hso c.2 g p⟩
 |.arr n t,_,_,_,_,c,⟨h,j⟩,d=>⟨h,Qab (r:=rd w X B false t) (r':=rd w' X B false t) (λx v i T h d=>Z47 (T:=t) hso c h d) j d⟩
 |.int _,_,_,_,_,c,_,_|.bool,_,_,_,_,c,_,_|.str,_,_,_,_,c,_,_|.fnc _,_,_,_,_,c,_,_|.err,_,_,_,_,c,_,_|.sptr ..,_,_,_,_,c,_,_|.clo ..,_,_,_,_,c,_,_=>by simp[Z5x]at c
theorem Qg2(hso:Zsz X w w'):∀{T:Ty}{x:T.den}{vs:List Value}{S:List Nat},Z3p T=true->rd w X B false T x vs S->rd w' X B false T x vs S
 |.unit,_,_,_,_,h|.int _,_,_,_,_,h|.bool,_,_,_,_,h|.str,_,_,_,_,h|.fnc _,_,_,_,_,h|.err,_,_,_,_,h=>h
 |.hid t,_,_,_,c,⟨e,y,h⟩=>by
  refine⟨e,y,?_⟩;cases t<;>simp[Z3p,Zx1]at c<;>exact h
 |.slice _ t,_,_,_,c,⟨v,u,d,f,e,g,i,j⟩=>by
  obtain⟨k,l,m⟩:=Qv2 hso i;exact⟨v,k,d,f,e,g,m,Qab (r:=rd w X B false t) (r':=rd w' X B false t) (λx v z T h o=>Z47 (T:=t) hso c h o) j l⟩
 |.pair a b,_,_,_,c,⟨p,q,d,f,e,g,i,j⟩=>by
  simp only[Z3p,Oba]at c;exact⟨p,q,d,f,e,g,Qg2 hso c.1 i,Qg2 hso c.2 j⟩
 |.arr n t,_,_,_,c,⟨h,s⟩=>⟨h,Jy s λ_ _ _ _ _ h=>Qg2 (T:=t) hso c h⟩
 |.sptr ..,_,_,_,c,_|.clo ..,_,_,_,c,_=>by simp[Z3p]at c
theorem Qr3(hso:Zsz X w w'){T:Ty}{f:Fl}{x:T.den}{vs:List Value}{S:List Nat}(hl:(match f with|.u false=>Z3p T|.d=>true|.u true=>T.flat|.p _ _=>false)=true)(h:rdF w X B T f x vs S):rdF w' X B T f x vs S:=by
 cases f with
 |d=>simp_all[rdF]
 |p _ _=>simp at hl
 |u b=>
  cases b
  ·grind[rdF,Qg2]
  ·unfold rdF at*
   obtain⟨rfl,k⟩:=Ztb (w':=w') (X':=X) (B':=B) (own':=true) hl h;exact k
theorem Q2u(hso:Zsz X w w')(hF:∀k b,b∈F k->w'.heap[b]? =w.heap[b]?){v:Value}{S:List Nat}(hS:∀b∈S,w'.heap[b]? =w.heap[b]?):∀{t:Tm},Z8e t=true->
  vt gh w X B s F a v S t->vt gh w' X B s F a v S t
 |.junk,_,h|.tup,_,h=>h
 |.val T f x,C,⟨E,d,z⟩=>⟨E,d,Qr3 hso (by
   grind[Z8e]) z⟩
 |.box e T f x,C,⟨b,c,M,d,z,N,G⟩=>⟨b,c,M,d,z,by simp_all,Qr3 hso (by
   grind[Z8e]) G⟩
 |.ptr r p,_,h=>h
 |.aep r p i,_,h=>h
 |.pls Q l,C,_=>by grind[Z8e]
 |.shp T x,C,⟨o,D,E,d,z,N,G⟩=>by
  obtain⟨H,I,J⟩:=Qcg hso z (xs:=E) (i:=0) (λj u K=>by simp_all);exact⟨o,D,H,d,z,λj u K=>by simp_all,Z47 hso C G I⟩
 |.bor r p,_,⟨o,d⟩=>⟨o,λA=>let⟨U,h⟩:=d A;⟨U,Zly h (hF (.m r))⟩⟩
 |.elp r p i q,_,⟨o,d⟩=>⟨o,λA=>let⟨e,t,D,n,cap,h,h'⟩:=d A;⟨e,t,D,n,cap,Zly h (hF (.m r)),h'⟩⟩
 |.cl f l,_,h=>h
 |.bel r p i q,_,⟨o,d⟩=>⟨o,λA O=>let⟨e,t,D,n,cap,x0,y,cs,h,I,J,k3,k4,k5,k6,k7⟩:=d A O;⟨e,t,D,n,cap,x0,y,cs,Zly h (hF (.m r)),I,J,k3,k4,k5,k6,λj u K=>by
   grind[Addr.add,World.cell?_of_block]⟩⟩
 |.gd g L t,C,h=>λA=>let⟨o,d,z⟩:=h A;⟨o,λP=>Q2u hso hF hS (by simp_all[Z8e]) (d P),z⟩
theorem Qwm{s:St}(h:Qfm s=true)(k:Key):Z8e (s.get k)=true:=by
 unfold Qfm at h;unfold St.get;rw[List.all_eq_true]at h;generalize s.env=l at h
 induction l with
 |nil=>rfl
 |cons p r a=>
  grind[Z7]
theorem R.soft(h:R n W0 w X F H s a)(hl:Qfm s=true)(hG:g.G w')(hbl:W0.below w')(hsz:w.heap.size<=w'.heap.size)(hout:∀b,b<w.heap.size-> ¬X b->w'.heap[b]? =w.heap[b]?)(hso:Zsz X w w'):R n W0 w' X F H s a:=
 {h with
  below:=hbl
  glob:=hG
  xlt:=λb c=>Nat.lt_of_lt_of_le (h.xlt b c) hsz
  own:=λk b c=>let⟨h1,h2,h3⟩:=h.own k b c;⟨h1,Nat.lt_of_lt_of_le h2 hsz,h3⟩
  hown:=λb c=>let⟨h1,h2,h3⟩:=h.hown b c;⟨h1,Nat.lt_of_lt_of_le h2 hsz,h3⟩
  slots:=λk=>Q2u hso (λk b d=>hout b (h.own k b d).2.1 (h.own k b d).2.2) (λb d=>hout b (h.own k b d).2.1 (h.own k b d).2.2) (Qwm hl k) (h.slots k)}
def Qjr(τ:Tab)(s:St)(e:TypeId)(x v:Operand):Option St:=
 match τ e with
 |none=>none
 |some T=>match op1 s [] x with
  |.tm _ (.shp (.hid t) _)=>match decide (t=T)&&Zx1 T&&Qfm s,Zbw s (op1 s [] v) T with
   |true,some _=>some s
   |_,_=>none
  |_=>none
def Q18(s:St)(T:Ty)(y:T.den)(rest:List Operand):(ts:List Ty)->Option (Vm ts)
 |[]=>none
 |t::ts=>match J8 t (Z4b T) (Qkk T y),Ztc s [] ts rest,Qn4 ts with
  |some u,some us,true=>some (u,us)
  |_,_,_=>none
def Qtk:Tm->Option (TV×Tm)|.val T (.u true) y=>some (⟨T,y⟩,.val T .d y)|.box e T (.u true) y=>some (⟨T,y⟩,.box e T .d y)|_=>none
noncomputable def wrK{ρ:Type}(Γ:Z1x)(n:Nat)(s:St)(dst:Option Nat)(f:FuncId)(xs:List Operand)(k:St->Option ρ):Option ρ:=
 match Γ.find f,xs with
 |some e,x0::rest=>match Z6e s (op1 s [] x0)with
  |some q=>match Qtk (s.get (.m q))with
   |some (⟨T,y⟩,t)=>match Zy1 T,Q18 s T y rest e.args,dst with
    |true,some us,some d=>match Wn (Vv s q t) d&&Nat.blt d n with
     |true=>(e.F us).bind λz=>k (Qd8 d (Vv s q t) e.res z)
     |false=>none
    |_,_,_=>none
   |none=>none
  |none=>none
 |_,_=>none
def Qaa(s:St):(ts:List Ty)->List Operand->Option (Vm ts)
 |[],[]=>some ()
 |t::ts,x::xs=>match Qea s (op1 s [] x) t,Qaa s ts xs with
  |some u,some us=>some (u,us)
  |_,_=>none
 |_,_=>none
noncomputable def wsK{ρ:Type}(Γ:Z1x)(n:Nat)(s:St)(dst:Option Nat)(f:FuncId)(xs:List Operand)(k:St->Option ρ):Option ρ:=
 match Γ.find f,dst with
 |some e,some d=>match Qaa s e.args xs,Wn s d&&Nat.blt d n&&Qfm s with
  |some us,true=>(e.F us).bind λz=>k (Qd8 d s e.res z)
  |_,_=>none
 |_,_=>none
theorem Qpn{α β:Type}{r:α->List Value->List Nat->Prop}{r':β->List Value->List Nat->Prop}{m:α->β}(hr:∀x v S,r x v S->r' (m x) v S):∀{xs:List α}{vs:List Value}{S:List Nat},Zc2 r xs vs S->Zc2 r' (xs.map m) vs S
 |[],_,_,h=>h
 |_::_,_,_,⟨a,b,c,d,e,f,g,i⟩=>⟨a,b,c,d,e,f,hr _ _ _ g,Qpn hr i⟩
theorem Qg1:∀{T:Ty}{x:T.den}{vs:List Value}{S:List Nat},Zy1 T=true->rd w X B false T x vs S->rd w X B false (Z4b T) (Qkk T x) vs S
 |.unit,_,_,_,_,h=>h
 |.int _,x,_,_,_,⟨c,d⟩=>⟨by rw[c];rfl,x,c,d⟩
 |.bool,x,_,_,_,⟨c,d⟩=>⟨by rw[c];rfl,x,c,d⟩
 |.str,x,_,_,_,⟨c,d⟩=>⟨by rw[c];rfl,x,c,d⟩
 |.slice _ t,x,_,_,hk,⟨v,j,f,g,e,i,c,d⟩=>by
  refine⟨v,j,f,g,e,i,?_,Qpn (r:=rd w X B false t) (r':=rd w X B false (Z4b t)) (λ_ _ _ h=>Qg1 (T:=t) hk h) d⟩;simp_all[Z5r,Qkk]
 |.pair a b,_,_,_,hk,⟨k,l,f,g,e,i,c,d⟩=>by
  simp only[Zy1,Oba]at hk;exact⟨k,l,f,g,e,i,Qg1 hk.1 c,Qg1 hk.2 d⟩
 |.arr n t,x,_,_,hk,⟨h,m⟩=>⟨by simp_all[Qkk],Qpn (r:=rd w X B false t) (r':=rd w X B false (Z4b t)) (λ_ _ _ h=>Qg1 (T:=t) hk h) m⟩
 |.fnc _,_,_,_,hk,_|.err,_,_,_,hk,_|.hid _,_,_,_,hk,_|.sptr ..,_,_,_,hk,_|.clo ..,_,_,_,hk,_=>by simp[Zy1]at hk
theorem Q38{T:Ty}(vs:List Value):Yz (Z4b T) vs=Yz T vs:=by cases T<;>rfl
theorem Z9e:∀{T:Ty}{x:T.den}{vs:List Value}{S:List Nat},Zy1 T=true->rd w X B true T x vs S-> ∀b∈S,Zzf w b
 |.unit,_,_,_,_,h|.int _,_,_,_,_,h|.bool,_,_,_,_,h|.str,_,_,_,_,h=>by simp[h.2]
 |.slice _ t,x,_,_,hk,⟨v,s,j,k,e,c,d,f⟩=>by
  intro b hb;rw[c]at hb;rcases List.mem_append.1 hb with hb|hb
  ·obtain⟨l,m⟩:=d;rw[m]at hb;rcases l.2 with⟨rfl,_⟩|⟨g,o,i,rfl,_,p,_⟩
   ·grind[Value.ownBlock]
   ·simp only[Value.ownBlock,Option.toList_some,List.mem_singleton]at hb;subst hb;exact⟨i,_,p⟩
  ·exact Z9g (r:=rd w X B true t) (λ_ _ _ h=>Z9e (T:=t) hk h) f b hb
 |.pair a b,_,_,_,hk,⟨u,y,j,k,e,c,d,f⟩=>by
  simp only[Zy1,Oba]at hk;intro b hb;rw[c]at hb;exact(List.mem_append.1 hb).elim (Z9e hk.1 d b) (Z9e hk.2 f b)
 |.arr n t,x,_,_,hk,⟨h,q⟩=>Z9g (r:=rd w X B true t) (λ_ _ _ h=>Z9e (T:=t) hk h) q
 |.fnc _,_,_,_,hk,_|.err,_,_,_,hk,_|.hid _,_,_,_,hk,_|.sptr ..,_,_,_,hk,_|.clo ..,_,_,_,hk,_=>by simp[Zy1]at hk
theorem Qw0{w':World}{B':Nat}(hB:B'<=B):∀{ts:List Ty}{x:Vm ts}{rs:List Value}{S:List Nat},Zjl w' B ts x rs S->(∀b∈S,B<=b/\b<w'.heap.size)/\Zjl w' B' ts x rs S:=by
 intro ts
 induction ts with
 |nil=>intro x rs S h;exact⟨by simp[h.2],h⟩
 |cons t ts a=>
  intro x rs S ⟨cs,us,S1,S2,e1,e2,g1,g2⟩;obtain⟨d,c⟩:=a g2;refine⟨λb e=>?_,cs,us,S1,S2,e1,e2,Zgx hB (λ_ h=>h) g1,c⟩
  grind[Zzg]
theorem Z24:∀{T:Ty}{x:T.den}{vs:List Value}{S:List Nat},rd w X B true T x vs S->rd w X' B true T x vs S
 |.unit,_,_,_,h|.int _,_,_,_,h|.bool,_,_,_,h|.fnc _,_,_,_,h|.str,_,_,_,h|.err,_,_,_,h=>h
 |.slice _ t,_,_,_,⟨v,j,f,g,e,i,c,d⟩=>⟨v,j,f,g,e,i,c,Jy d λ_ _ _ _ _ h=>Z24 (T:=t) h⟩
 |.pair a b,_,_,_,⟨k,l,f,g,e,i,c,d⟩=>⟨k,l,f,g,e,i,Z24 c,Z24 d⟩
 |.arr n t,_,_,_,⟨h,m⟩=>⟨h,Jy m λ_ _ _ _ _ h=>Z24 (T:=t) h⟩
 |.hid _,_,_,_,⟨e,y,h⟩=>⟨e,y,Z24 h⟩
 |.sptr ..,_,_,_,⟨_,o,_⟩=>by simp at o
 |.clo ..,_,_,_,⟨e,p,c,d⟩=>⟨e,p,c,Z24 d⟩
theorem Qw3(h:R n W0 w X F H s a){T:Ty}{y:T.den}{vs:List Value}{S:List Nat}{rest:List Operand}(hk:Zy1 T=true)(hrd:rd w X W0.B true T y vs S):∀{ts:List Ty}{us:Vm ts},Q18 s T y rest ts=some us->
  Zuh w (· ∈S) 0 ts us (Yz T vs::rest.map a.eval)
 |[],_,c=>by grind[Q18]
 |t::ts,us,c=>by
  simp only[Q18]at c;split at c
  ·rename_i u i d f j;simp only[Osi]at c;subst c;unfold J8 at d;split at d
   ·rename_i e;subst e;simp only[Osi]at d;subst d;refine⟨vs,_,by rw[Q38],?_,Z9d j (Zwe h (tg:=[]) (λp k=>by cases k) f)⟩;have l:rd w (λ_=>False) W0.B true T y vs S:=Z24 hrd;exact Qg1 hk (Zap (Zks (X':=(· ∈S)) (λb g=>g.elim) l (λb g=>g)) (by simp))
   ·cases d
  ·cases c
theorem Qyn(h:R n W0 w X F [] s a){x:Operand}{q:Nat}(hq:Z6e s (op1 s [] x)=some q){T:Ty}{y:T.den}{t:Tm}(hg:Qtk (s.get (.m q))=some (⟨T,y⟩,t)):
  ∃vs S S2,a.eval x=Yz T vs/\rd w X W0.B true T y vs S/\(∀b∈S++S2,b∈F (.m q))/\(S++S2).Nodup/\R n W0 w X (Xb F (.m q) S2) [] (Vv s q t) a:=by
 cases hs:s.get (.m q)with
 |val U f z=>
  rw[hs]at hg;cases f with
  |u b=>
   cases b
   ·cases hg
   ·simp only[Qtk,Osi,Opi]at hg;obtain⟨o,rfl⟩:=hg;cases o;have j:=Qg3 h hq hs;have g:=h.slots (.m q);rw[hs]at g;obtain⟨vs,hv,i⟩:=g;unfold rdF at i;refine⟨vs,F (.m q),[],by simp_all,i,by simp,by simpa using h.nodup _,?_⟩;exact h.turn (S':=[]) (H':=[]) h.below (Nat.le_refl _) (λ_ _=>rfl) (λ_ _ _ _=>rfl) (by simp) (by simp) (by rw[hs];simp) (λe T f x b S E=>by simp_all)
     ⟨vs,hv,by unfold rdF;exact⟨Y6 i,Zon i,rfl⟩⟩
  |p _ _=>cases hg
  |d=>cases hg
 |box e U f z=>
  rw[hs]at hg;cases f with
  |u b=>
   cases b
   ·cases hg
   ·simp only[Qtk,Osi,Opi]at hg;obtain⟨o,rfl⟩:=hg;cases o;have g:=h.slots (.m q);rw[hs]at g;obtain⟨b,c,S,J,v,G,l⟩:=g;unfold rdF at l;have A:=h.nodup (.m q);rw[v]at A;have j:a.eval x=Yz T c.toList:=by
     unfold Z6e at hq;split at hq
     ·rename_i k L M N hx;simp only[Osi]at hq;subst hq;obtain⟨rfl,_,hx⟩:=Zpx hx;rw[hs]at hx;cases hx
     ·rename_i k r hx;split at hq
      ·rename_i C;simp only[Osi]at hq;subst hq;obtain⟨_,_,hv⟩:=Jx h (tg:=[]) (λp K=>by cases K) hx (by simp);obtain⟨U,hv⟩:=hv C;unfold Xw at hv;rw[hs]at hv;obtain⟨H,O,S',P,I,D,Q,rfl,V⟩:=hv;rw[v]at I;obtain⟨rfl,_⟩:=List.cons.inj I;rw[G]at D;simp only[Osi,Obj.cells.injEq]at D;obtain⟨rfl,_⟩:=D
       grind[Zh2,Wr,Y6,List.take_of_length_le]
      ·cases hq
     ·cases hq
    refine⟨c.toList,S,[b],j,l,λH E=>by grind,?_,?_⟩
    ·grind
    ·exact h.turn (S':=[b]) (H':=[]) h.below (Nat.le_refl _) (λ_ _=>rfl) (λ_ _ _ _=>rfl) (by rw[v];simp) (by simp) (by rw[hs];simp) (λW Y Z x' H S' E hF=>by
      grind)
      ⟨b,c,[],J,rfl,G,by unfold rdF;exact⟨Y6 l,Zon l,rfl⟩⟩
  |p _ _=>cases hg
  |d=>cases hg
 |_=>rw[hs]at hg;cases hg
theorem Q4w{ρ:Type}{Γ:Z1x}(hΓ:Γ.ok P)(h:R n W0 w X F [] s a){f:FuncId}{fo:Operand}(hfo:a.eval fo=.func (.func f) #[] #[]){xs:Array Operand}{ats:Array TypeId}(ho:o.op=.call {callee:=.value fo,args:=xs,argTypes:=ats}){k:St->Option ρ}{r:ρ}(hr:wrK Γ n s o.dst f xs.toList k=some r)
  {K:Act->World->Prop}{Q:Exit->Act->World->Prop} (hK:∀v w' X' F' s',k s'=some r->R n W0 w' X' F' [] s' (a.put o.dst v)->K (a.put o.dst v) w'):o.wp P a w K Q:=by
 unfold wrK at hr;split at hr
 ·rename_i e x0 A he aa;obtain⟨rfl,B⟩:=Z1x.find_ok hΓ he;split at hr
  ·rename_i q hq;split at hr
   ·rename_i T y t hg;split at hr
    ·rename_i us d hk G hd;split at hr
     ·rename_i hdn;simp only[Oba,Nat.blt_eq]at hdn;simp only[Option.bind_eq_some_iff]at hr;obtain⟨z,hz,ab⟩:=hr;obtain⟨vs,V,W,ad,C,g,Y,p⟩:=Qyn h hq hg;have ae:∀b∈V,b<w.heap.size:=λb c=>(h.own _ _ (g b (by simp[c]))).2.1;have j:=Qw3 h hk C G;have u:xs.toList.map a.eval=Yz T vs::A.map a.eval:=by simp_all
      rw[<-u]at j;have hc:=B.calls w (· ∈V) us z (xs.toList.map a.eval) (λb c=>Z9e hk C b c) j hz;have D:(execOp a.eval o).run P w=.ok (.enter e.f (xs.toList.map a.eval).toArray) w:=by
       have:execOp a.eval o=callFunc e.f (xs.map a.eval):=by
        simp_all[execOp,resolve,Deferred.ofValue,invoke]
       rw[this,B.enters];congr 2
       grind
      unfold Oper.wp;rw[D,Oper.upon_enter];refine hc.mono λen w' ⟨rs,S,H,E,I,h1,h2,h3,Z,J,_,_⟩=>?_;subst H;show K (a.put o.dst (Jq rs)) w';obtain⟨i,x⟩:=Qw0 h.below.sizeB E;have L:W0.below w':=⟨h1.trans h.below.os,h2.trans h.below.tape,h3.trans h.below.output,Nat.le_trans h.below.size Z,λb c=>
       (J b (Nat.lt_of_lt_of_le (W0.yW b c) h.below.size) λl=>W0.sep c (h.own _ _ (g b (by simp[l]))).1 rfl).trans (h.below.block b c)⟩
      have M:R n W0 w' X (Xb F (.m q) W) [] (Vv s q t) a:=p.world L Z (λb c=>J b (h.xlt b c) λl=>(h.own _ _ (g b (by simp[l]))).2.2 c) (λk b c=>by
       have N:=p.own k b c;refine J b N.2.1 λl=>?_;simp only[Xb]at c;split at c
       ·grind
       ·rename_i O;exact O (h.disj _ _ b c (g b (by simp[l]))))
      have U:R n W0 w' X (Xb F (.m q) W) (S++[]) (Vv s q t) a:=M.hand (λb c=>⟨.inl (Nat.le_trans h.below.size (i b c).1),(i b c).2,λhx=>by have:=h.xlt b hx;grind⟩) I
       (λk b c l=>by have:=(p.own k b c).2.1;grind) (λb c l=>by cases l)
      obtain⟨F',ag⟩:=U.putRes hdn.1 hdn.2 x
      grind
     ·cases hr
    ·cases hr
   ·cases hr
  ·cases hr
 ·cases hr
theorem Qb6(h:R n W0 w X F H s a):∀{ts:List Ty}{xs:List Operand}{us:Vm ts},Qaa s ts xs=some us->Zuh w X 0 ts us (xs.map a.eval)
 |[],[],us,_=>rfl
 |t::ts,x::xs,us,b=>by
  simp only[Qaa]at b;split at b
  ·rename_i u d e c;simp only[Osi]at b;subst b;obtain⟨f,g,i⟩:=Z6b h e;exact⟨f,_,by simp[g],i,Qb6 h c⟩
  ·cases b
 |[],_::_,_,b=>by grind[Qaa]
 |_::_,[],_,b=>by grind[Qaa]
theorem Qun{w0:World}{L:Nat->Prop}(hg:g=Zys w0 L)(h:R n W0 w X F H s a):(∀b,X b↔L b)/\g.soft=true:=by
 subst hg;exact⟨λb=>⟨h.xs rfl b,h.gx b⟩,rfl⟩
theorem Qsg{w0:World}{L:Nat->Prop}(hg:g=Zys w0 L)(h:R n W0 w X F H s a)(hso:Zsz X w w')(hpl:∀b,X b->Zzf w' b):g.G w':=by
 obtain⟨d,_⟩:=Qun hg h;have c:X=L:=funext λb=>propext (d b);subst hg;subst c;exact⟨h.glob.1.trans hso,hpl⟩
theorem Qpw{w0:World}{L:Nat->Prop}(hg:g=Zys w0 L)(h:R n W0 w X F H s a)(hos:w'.os=w.os)(htape:w'.tape=w.tape)(hout:w'.output=w.output)(hsz:w.heap.size<=w'.heap.size)(hb:∀b,b<w.heap.size-> ¬X b->w'.heap[b]? =w.heap[b]?):W0.below w':=by
 obtain⟨d,c⟩:=Qun hg h;refine⟨hos.trans h.below.os,htape.trans h.below.tape,hout.trans h.below.output,Nat.le_trans h.below.size hsz,λk hk=>(hb k (Nat.lt_of_lt_of_le (W0.yW k hk) h.below.size) λhx=>W0.fr c k (h.xs c k hx) hk).trans (h.below.block k hk)⟩
theorem Q4y{ρ:Type}{Γ:Z1x}(hΓ:Γ.ok P){w0:World}{L:Nat->Prop}(hg:g=Zys w0 L)(h:R n W0 w X F [] s a){f:FuncId}{fo:Operand}(hfo:a.eval fo=.func (.func f) #[] #[]){xs:Array Operand}{ats:Array TypeId}(ho:o.op=.call {callee:=.value fo,args:=xs,argTypes:=ats}){k:St->Option ρ}{r:ρ}(hr:wsK Γ n s o.dst f xs.toList k=some r)
  {K:Act->World->Prop}{Q:Exit->Act->World->Prop} (hK:∀v w' X' F' s',k s'=some r->R n W0 w' X' F' [] s' (a.put o.dst v)->K (a.put o.dst v) w'):o.wp P a w K Q:=by
 unfold wsK at hr;split at hr
 ·rename_i e d H hd;obtain⟨rfl,l⟩:=Z1x.find_ok hΓ H;split at hr
  ·rename_i I q hdn;simp only[Oba,Nat.blt_eq]at hdn;simp only[Option.bind_eq_some_iff]at hr;obtain⟨z,J,M⟩:=hr;obtain⟨N,O⟩:=Qun hg h;have t:∀b,X b->Zzf w b:=λb i=>by
    have:=h.glob;have u:=(N b).1 i;subst hg;exact this.2 b u
   have U:=l.calls w X I z (xs.toList.map a.eval) t (Qb6 h q) J;have m:(execOp a.eval o).run P w=.ok (.enter e.f (xs.toList.map a.eval).toArray) w:=by
    have:execOp a.eval o=callFunc e.f (xs.map a.eval):=by
     simp_all[execOp,resolve,Deferred.ofValue,invoke]
    rw[this,l.enters];congr 2
    grind
   unfold Oper.wp;rw[m,Oper.upon_enter];refine U.mono λen w' ⟨V,S,x,p,y,W,Y,Z,C,D,E,h7⟩=>?_;subst x;show K (a.put o.dst (Jq V)) w';obtain⟨c,j⟩:=Qw0 h.below.sizeB p;have A:R n W0 w' X F [] s a:=h.soft hdn.2 (Qsg hg h E h7) (Qpw hg h W Y Z C D) C D E;have B:R n W0 w' X F (S++[]) s a:=A.hand (λb i=>⟨.inl (Nat.le_trans h.below.size (c b i).1),(c b i).2,λhx=>by have:=h.xlt b hx;grind⟩) y
    (λk b i G=>by have:=(h.own k b i).2.1;grind) (λb i G=>by cases G)
   obtain⟨F',aa⟩:=B.putRes hdn.1.1 hdn.1.2 j
   grind
  ·cases hr
 ·cases hr
theorem Qzv{T:Ty}(hT:Zx1 T=true){x:T.den}{vs:List Value}{S:List Nat}(h:rd w X B own T x vs S):∃u,vs=[u]/\Yz T vs=u:=by
 cases T<;>simp[Zx1]at hT<;>exact⟨_,h.1,by rw[h.1];rfl⟩
theorem Qw9{T:Ty}(hT:Zx1 T=true){x y:T.den}{u v:Value}{S S':List Nat}(h:rd w X B own T x [u] S)(h':rd w X' B' own T y [v] S'):Z5a u v:=by
 cases T<;>simp[Zx1]at hT
 ·have a:=(List.cons.inj h.1).1;have b:=(List.cons.inj h'.1).1;subst a;subst b;exact .inr (.inl ⟨_,_,_,rfl,rfl⟩)
 ·have a:=(List.cons.inj h.1).1;have b:=(List.cons.inj h'.1).1;subst a;subst b;exact .inr (.inr (.inl ⟨_,_,rfl,rfl⟩))
 ·have a:=(List.cons.inj h.1).1;have b:=(List.cons.inj h'.1).1;subst a;subst b;exact .inr (.inr (.inr ⟨_,_,rfl,rfl⟩))
theorem Ql0(hτ:τ.ok P){w0:World}{L:Nat->Prop}(hg:g=Zys w0 L)(h:R n W0 w X F H s a){e:TypeId}{x v:Operand}(ho:o.op=.store e x v)(hd:o.dst=none){s':St}(hr:Qjr τ s e x v=some s')
  {K:Act->World->Prop}{Q:Exit->Act->World->Prop} (hK:∀w',R n W0 w' X F H s' a->K a w'):o.wp P a w K Q:=by
 unfold Qjr at hr;split at hr
 ·cases hr
 ·rename_i T hT;split at hr
  ·rename_i kk t y hx;split at hr
   ·rename_i u hc hu;simp only[Osi]at hr;subst hr;simp only[Oba,decide_eq_true_eq]at hc;obtain⟨⟨rfl,C⟩,hl⟩:=hc;obtain⟨vs,h1,B⟩:=Zci h (tg:=[]) (λp D=>by cases D) hu;obtain⟨u1,rfl,h3⟩:=Qzv C B;obtain⟨_,_,O,cs,k1,S,k3,k4,y',k5⟩:=Jx h (tg:=[]) (λp D=>by cases D) hx (by simp);obtain⟨u0,rfl⟩:=List.length_eq_one_iff.1 k4;have d:=k3 0 u0 rfl;have U:O.add 0=O:=rfl;rw[U]at d;obtain⟨hX,ab⟩:=Qun hg h;have V:Zzf w O.block:=by
     have:=h.glob;have z:=(hX _).1 S;subst hg;exact this.2 _ z
    obtain⟨c,e0,E⟩:=V;obtain⟨b,f,G⟩:=O;simp only at E S;unfold World.cell? at d;simp only[E]at d;cases G with
    |some sp=>simp at d
    |none=>
     simp only[Option.isSome_none,Bool.false_eq_true,if_false]at d;have ae:f<c.size:=(Array.getElem?_eq_some_iff.1 d).1;have W:=run_storeCells_at P b f e0 [u1] 0 c w E (by simp;omega) (Zon B);generalize Y:(c.toList.take (f+0)++[u1]++c.toList.drop (f+0+[u1].length)).toArray=cc at W;have I:=setRow_heap w b c cc e0 _ E;have l:∀k,k≠b->(w.setRow b cc).heap[k]? =w.heap[k]? :=λk hk=>by
      simp_all[World.setRow,Array.getElem?_modify,Ne.symm]
     have J:Zsz X w (w.setRow b cc):=λZ u' hL i=>by
      obtain⟨b',j,A⟩:=Z;by_cases hb:b'=b
      ·subst hb;unfold World.cell? at i⊢;simp only[E,I]at i⊢;cases A with
       |some sp=>simp at i
       |none=>
        simp only[Option.isSome_none,Bool.false_eq_true,if_false]at i⊢;have ag:j<c.size:=(Array.getElem?_eq_some_iff.1 i).1;by_cases aa:j=f
        ·subst aa;rw[d]at i;simp only[Osi]at i;subst i;refine⟨u1,?_,Qw9 C k5 B⟩
         grind
        ·refine⟨u',?_,Z5a.refl _⟩;rw[<-Y,<-Array.getElem?_toList];simp only[Nat.add_zero,List.append_assoc];rw[<-Array.getElem?_toList]at i;rcases Nat.lt_or_ge j f with hlo|hlo
         ·grind
         ·rw[List.getElem?_append_right (by simp;omega)];have e1:(List.take f c.toList).length=f:=by simp;omega
          rw[e1];obtain⟨m,hm⟩:∃m,j-f=m+1:=⟨j-f-1,by omega⟩
          rw[hm];simp only[List.cons_append,List.nil_append,List.getElem?_cons_succ,List.length_cons,List.length_nil,Nat.zero_add,List.getElem?_drop]
          grind
      grind[World.cell?_of_block,Z5a.refl]
     have M:∀k,X k->Zzf (w.setRow b cc) k:=λk hk=>by
      by_cases hb:k=b
      ·subst hb;exact⟨_,_,I⟩
      ·have D:Zzf w k:=by
        have:=h.glob;have z:=(hX _).1 hk;subst hg;exact this.2 _ z
       obtain⟨c',e',ah⟩:=D;exact⟨c',e',by simp_all⟩
     have ak:(w.setRow b cc).heap.size=w.heap.size:=by simp_all
     have r:∀k,k<w.heap.size-> ¬X k->(w.setRow b cc).heap[k]? =w.heap[k]? :=λk _ hk=>l k λe=>hk (by rw[e];exact S);have hR:=h.soft hl (Qsg hg h J M) (Qpw hg h rfl rfl rfl (by omega) r) (by omega) r J;have q:=Qgs (Zon B) (Y6 B);have N:(execOp a.eval o).run P w=.ok .skip (w.setRow b cc):=by
      simp only[execOp,ho,k1,h1,Instr.storeAt,Instr.sureAddr,storeVar,q,Sem.run_bind,Sem.run_pure,Result.andThen_ok,(hτ _ _ hT).sizeOf w];have:=Y6 B;simp_all
     unfold Oper.wp;rw[N];show K (a.put o.dst _) _;rw[hd];exact hK _ hR
   ·cases hr
  ·cases hr
def ppB(P:Program)(e e2:TypeId):Bool:=
 match P.underlying e,P.info? e2,P.underlying e2 with
 |some (.slice e3),some i,some (.pointer e4)=>Nat.beq e3 e2&&(Nat.beq i.size 1&&(Nat.ble i.bytes 8192&&(match i.zero with|some (.pointer none)=>true|_=>false)))&&(match P.info? e4 with|some i=>Nat.blt 0 i.size|none=>false)
 |_,_,_=>false
def erB(P:Program)(e:TypeId):Bool:=match P.underlying e with|some (.interface _)=>true|_=>false
structure Zpq where
 pp:List (TypeId×TypeId):=[]
 er:List TypeId:=[]
def Zpq.elem(t:Zpq)(e:TypeId):Option TypeId:=(t.pp.find? λp=>Nat.beq p.1 e).map (·.2)
def Zpq.isPtr(t:Zpq)(e:TypeId):Bool:=t.pp.any λp=>Nat.beq p.2 e
def Zpq.isErr(t:Zpq)(e:TypeId):Bool:=t.er.any (Nat.beq e)
structure Zpq.ok(t:Zpq)(P:Program):Prop where
 pp:∀p∈t.pp,ppB P p.1 p.2=true
 er:∀e∈t.er,erB P e=true
theorem Qgv{P:Program}{e e2:TypeId}(h:ppB P e e2=true):P.underlying e=some (.slice e2)/\(∃i,P.info? e2=some i/\i.size=1/\i.bytes<=8192/\i.zero=some (.pointer none))/\ ∃e4 i,P.underlying e2=some (.pointer e4)/\P.info? e4=some i/\0<i.size:=by
 unfold ppB at h;split at h
 ·rename_i j i e4 a b k;simp only[Oba]at h;obtain⟨⟨c,d,f,l⟩,g⟩:=h;have:=Onb c;subst this;refine⟨a,⟨i,b,Onb d,by simpa using f,?_⟩,?_⟩
  ·grind
  ·split at g
   all_goals simp_all
 ·cases h
theorem Zpq.elem_ok{t:Zpq}{P:Program}(h:t.ok P){e e2:TypeId}(he:t.elem e=some e2):ppB P e e2=true:=by
 unfold Zpq.elem at he;simp only[Option.map_eq_some_iff]at he;obtain⟨p,a,rfl⟩:=he;have b:=List.find?_some a;have:=h.pp p (List.mem_of_find?_eq_some a);simp_all
theorem Zpq.isPtr_ok{t:Zpq}{P:Program}(h:t.ok P){e:TypeId}(he:t.isPtr e=true):∃e4 i,P.underlying e=some (.pointer e4)/\P.info? e4=some i/\0<i.size:=by
 unfold Zpq.isPtr at he;rw[List.any_eq_true]at he;obtain⟨p,a,b⟩:=he;have:=(Qgv (h.pp p a)).2.2;simp_all
theorem Zpq.isErr_ok{t:Zpq}{P:Program}(h:t.ok P){e:TypeId}(he:t.isErr e=true):∃ms,P.underlying e=some (.interface ms):=by
 unfold Zpq.isErr at he;rw[List.any_eq_true]at he;obtain⟨p,a,b⟩:=he;have:=h.er p a
 grind[Onb,erB]
variable {pt:Zpq}
def Qr0(s:St)(tg:Ye):Nat->List (Nat×Operand)->Option (List (Nat×List Nat))
 |_,[]=>some []
 |k,(i,y)::r=>match Nat.beq i k,op1 s tg y with
  |true,.tm _ (.ptr q p)=>match Qr0 s tg (k+1) r with
   |some l=>some ((q,p)::l)
   |none=>none
  |true,.tm q (.box ..)=>match s.get (.m q),Qr0 s tg (k+1) r with
   |.box ..,some l=>some ((q,[])::l)
   |_,_=>none
  |_,_=>none
theorem Z9b(h:R n W0 w X F H s a)(ht:tg.ok W0.gh a):∀{parts:List (Nat×Operand)}{k:Nat}{l:List (Nat×List Nat)}{cs:Array Value}{A M:List Value},
  Qr0 s tg k parts=some l->cs.toList=A++M->A.length=k->M.length=parts.length->
  ∃us cs',Instr.fill (λi=>some (i*1,1)) cs (parts.map λp=>(p.1,a.eval p.2))=some cs'/\cs'.toList=A++us/\us.length=l.length/\l.length=parts.length/\ ∀(j:Nat)(q:Nat×List Nat),l[j]? =some q-> ∃u,us[j]? =some u/\atP s F q.1 q.2 u
 |[],k,l,cs,A,M,g,t,K,D=>by
  simp only[Qr0,Osi]at g;subst g;have:M=[]:=List.eq_nil_of_length_eq_zero D;subst this;exact⟨[],cs,rfl,by simpa using t,rfl,rfl,by simp⟩
 |(i,y)::r,k,l,cs,A,M,g,t,K,D=>by
  simp only[Qr0]at g;split at g
  ·rename_i k' q p d L;have d:=Onb d;subst d;split at g
   ·rename_i Z B;simp only[Osi]at g;subst g;obtain⟨_,hv⟩:=Jx h ht L (by simp);obtain⟨_,e,T,f,x,b,N,h1,h2,E⟩:=hv;obtain⟨z,o,rfl⟩:∃z o,M=z::o:=by
     cases M with
     |nil=>simp at D
     |cons z o=>simp_all
    have G:(a.eval y).cells= #[a.eval y]:=by rw[E];rfl
    obtain⟨C,I,g2⟩:=Z38 (place:=λi=>some (i*1,1)) (i:=i) (rest:=r.map λp=>(p.1,a.eval p.2)) (v:=a.eval y) rfl (pre:=A) (mid:=[z]) (post:=o) (by rw[t];simp) (by omega) rfl (by rw[G];rfl);rw[G]at I;obtain⟨us,cs',k1,O,P,Q,k5⟩:=Z9b h ht (k:=i+1) (cs:=C) (A:=A++[a.eval y]) (M:=o) B (by rw[I];simp) (by simp[K]) (by simpa using D);refine⟨a.eval y::us,cs',by simp_all,by rw[O];simp,by simp[P],by simp[Q],λj q' J=>?_⟩;cases j with
    |zero=>
     simp only[List.getElem?_cons_zero,Osi]at J;subst J;exact⟨_,rfl,e,T,f,x,b,N,h1,h2,E⟩
    |succ j=>simp_all
   ·cases g
  ·rename_i q e0 T0 f0 x0 d L;have d:=Onb d;subst d;split at g
   ·rename_i e T f x Z W B;simp only[Osi]at g;subst g;obtain⟨rfl,S,_⟩:=Zpx L;have Y:=h.slots (.m q);rw[W]at Y;obtain⟨b,c,N,U,V,_⟩:=Y;have aa:a.eval (.tmp q)=.pointer (some ⟨b,0,none⟩):=(Yr W0 a S).symm.trans U;have E:a.eval (.tmp q)=.pointer (some ⟨b,Wr T [],none⟩):=by
     simp_all[Wr]
    obtain⟨z,o,rfl⟩:∃z o,M=z::o:=by
     cases M with
     |nil=>simp at D
     |cons z o=>simp_all
    have G:(a.eval (.tmp q)).cells= #[a.eval (.tmp q)]:=by rw[E];rfl
    obtain⟨C,I,g2⟩:=Z38 (place:=λi=>some (i*1,1)) (i:=i) (rest:=r.map λp=>(p.1,a.eval p.2)) (v:=a.eval (.tmp q)) rfl (pre:=A) (mid:=[z]) (post:=o) (by rw[t];simp) (by omega) rfl (by rw[G];rfl);rw[G]at I;obtain⟨us,cs',k1,O,P,Q,k5⟩:=Z9b h ht (k:=i+1) (cs:=C) (A:=A++[a.eval (.tmp q)]) (M:=o) B (by rw[I];simp) (by simp[K]) (by simpa using D);refine⟨a.eval (.tmp q)::us,cs',by simp_all,by rw[O];simp,by simp[P],by simp[Q],λj q' J=>?_⟩;cases j with
    |zero=>
     simp only[List.getElem?_cons_zero,Osi]at J;subst J;exact⟨_,rfl,e,T,f,x,b,N,W,V,E⟩
    |succ j=>simp_all
   ·cases g
  ·cases g
def Qzm(pt:Zpq)(s:St)(tg:Ye)(e:TypeId)(len:Nat)(parts:Array (Nat×Operand)):Option Res:=
 match pt.elem e with
 |some _=>match Nat.beq parts.size len&&(Nat.blt 0 len&&Nat.ble len 16777216),Qr0 s tg 0 parts.toList with
  |true,some l=>some ⟨.pls true l,s,true,none⟩
  |_,_=>none
 |none=>none
theorem Qt7(hs:g.soft=false)(h:R n W0 w X F H s a)(ht:tg.ok W0.gh a)(hp:pt.ok P){e:TypeId}{len:Nat}{parts:Array (Nat×Operand)}(ho:o.op=.buildSlice e len parts){r:Res}(hr:Qzm pt s tg e len parts=some r):Zve P n W0 w X H s a o r:=by
 unfold Qzm at hr;split at hr
 ·rename_i v E;split at hr
  ·rename_i l x G;simp only[Osi]at hr;subst hr;simp only[Oba,Nat.ble_eq]at x;obtain⟨k,m,B⟩:=x;have k:=Onb k;have m:0<len:=by simp_all
   obtain⟨I,⟨i,J,p,_,L⟩,_⟩:=Qgv (Zpq.elem_ok hp E);intro _ K Q N;obtain⟨f,C⟩:∃f:Array Value,f=(Array.range (len*i.size)).map ((Value.pointer none).cells[· % (Value.pointer none).cells.size]!):=⟨_,rfl⟩
   obtain⟨D,d,k1,O,U,k4,V⟩:=Z9b h ht (cs:=f) (A:=[]) (M:=f.toList) G rfl rfl (by simp_all);have y:l.length=len:=by simp_all
   have t:(execOp a.eval o).run P w=.ok (.value (.slice (some ⟨w.heap.size,0,none⟩) len len)) (w.alloc (.cells d v)):=by
    simp only[execOp,ho,Sem.run_bind];rw[run_buildSlice w e v len _ d i _ I J L (by rw[p];omega) (by rw[p];omega) (by simp_all)];simp
   unfold Oper.wp;rw[t];have z:d.toList=D:=by simpa using O
   have W:=R.give (S:=[w.heap.size]) (H:=H) hs (h.alloc (.cells d v));refine N _ _ F [] _ (λb x=>.inl x) W ⟨rfl,⟨w.heap.size,0,none⟩,D,.inr (by simp),λj u Y=>?_,U,λj q Z=>V j q Z,by rw[y],by grind[maxLen]⟩ (λhm=>by cases hm) ⟨λ_=>Old.alloc _ _,h.kept (Old.alloc _ _)⟩;rw[Zl0 (c:=d) (e:=v) _ (Qe9 _ _),<-Array.getElem?_toList,z,Nat.zero_add];exact Y
  ·cases hr
 ·cases hr
def Qyz(pt:Zpq)(s:St)(tg:Ye)(e:TypeId)(x:Operand):Option Res:=
 match pt.elem e,op1 s tg x with
 |some _,.tm _ (.pls true l)=>some ⟨.val (.int .i64) (.u false) (l.length:Int),s,false,none⟩
 |_,_=>none
theorem Qtt(h:R n W0 w X F H s a)(ht:tg.ok W0.gh a)(hp:pt.ok P){e:TypeId}{x:Operand}(ho:o.op=.call {callee:=.builtin .len,args:= #[x],argTypes:= #[e]}){r:Res}(hr:Qyz pt s tg e x=some r):Zeb P τ W0 w X F s a o r:=by
 unfold Qyz at hr;split at hr
 ·rename_i c k l b hx;simp only[Osi]at hr;subst hr;obtain⟨_,hv⟩:=Jx h ht hx (by simp);obtain⟨_,d,f,_,_,_,_,hv,_⟩:=hv;refine Ku rfl λ_=>⟨_,λg _=>?_,Z30 _ _⟩
  simp only[execOp,ho];simp[resolve,invoke,builtin,hv,Builtin.len_,run_underlying (Qgv (Zpq.elem_ok hp b)).1,goInt]
 ·cases hr
def Qys(pt:Zpq)(s:St)(tg:Ye)(e:TypeId)(x i:Operand):Option Res:=
 match pt.elem e,op1 s tg x,Zwf s (op1 s tg i)with
 |some _,.tm _ (.pls true l),some (_,j)=>match decide (0<=j),l.drop j.toNat with
  |true,q::r=>some ⟨.pls false (q::r),s,false,none⟩
  |_,_=>none
 |_,_,_=>none
theorem Qtm(h:R n W0 w X F H s a)(ht:tg.ok W0.gh a)(hp:pt.ok P){e:TypeId}{x i:Operand}(ho:o.op=.indexAddr e x i){r:Res}(hr:Qys pt s tg e x i=some r):Zeb P τ W0 w X F s a o r:=by
 unfold Qys at hr;split at hr
 ·rename_i g k l p j t hx v;split at hr
  ·rename_i q G c I;simp only[Osi]at hr;subst hr;have c:0<=j:=Ode c;have J:=Zih h ht v;obtain⟨_,hv⟩:=Jx h ht hx (by simp);obtain⟨_,b,y,K,L,M,N,hv,z⟩:=hv;obtain⟨A,⟨O,Q,B,C,_⟩,_⟩:=Qgv (Zpq.elem_ok hp t);have D:j.toNat<l.length:=by
    grind[List.drop_eq_nil_of_le]
   have E:∀w,(sizeOf g).run P w=.ok 1 w:=λw=>by simp_all[sizeOf,typeInfo]
   refine Ku rfl λ_=>⟨.pointer (some (b.add j.toNat)),λd _=>?_,rfl,b.add j.toNat,y.drop j.toNat,?_,λm u z=>?_,by grind,λm S U=>?_,rfl⟩
   ·have f:(Instr.indexAt e (.slice (some b) l.length l.length) (.int p j)).run P d=.ok (.pointer (some (b.add j.toNat))) d:=by
     simp only[Instr.indexAt,Sem.run_bind,asIntOf,Sem.run_pure,Result.andThen_ok,run_underlying A];simp_all
    simp_all[execOp]
   all_goals grind[Addr.add]
  ·cases hr
 ·cases hr
def Qtv(pt:Zpq)(s:St)(tg:Ye)(e:TypeId)(x:Operand):Option Res:=
 match pt.isPtr e,op1 s tg x with
 |true,.tm _ (.pls false (q::_))=>some ⟨.ptr q.1 q.2,s,false,none⟩
 |_,_=>none
theorem Qqj(h:R n W0 w X F H s a)(ht:tg.ok W0.gh a)(hp:pt.ok P){e:TypeId}{x:Operand}(ho:o.op=.load e x){r:Res}(hr:Qtv pt s tg e x=some r):Zeb P τ W0 w X F s a o r:=by
 unfold Qtv at hr;split at hr
 ·rename_i k q l j hx;simp only[Osi]at hr;subst hr;obtain⟨rfl,hv⟩:=Jx h ht hx (by simp);obtain⟨_,f,z,g,A,B,m,hv⟩:=hv;obtain⟨u,C,d⟩:=m 0 q rfl;obtain⟨D,E,p,t,_⟩:=Zpq.isPtr_ok hp j;have v:w.cell? f=some u:=by grind[Addr.add]
  refine Ku rfl λ_=>⟨u,λi c=>?_,rfl,d⟩
  have y:i.cell? f=some u:=by
   have c:=c (by rw[ho];rfl);rw[ho,Zqp hx (by simp)]at c;have c:∀b,b<w.heap.size->X b->i.heap[b]? =w.heap[b]? :=c;rw[World.cell?_of_block (w:=w) (c _ (h.xlt _ g) g)];exact v
  simp_all[isAgg,run_underlying,execOp,Instr.loadAt,Instr.sureAddr,loadVar]
 ·cases hr
def Qpd(pt:Zpq)(s:St)(tg:Ye)(op:BinOp)(e:TypeId)(x y:Operand):Option Res:=
 match pt.isPtr e,op1 s tg x,op1 s tg y with
 |true,.tm _ (.ptr q p),.tm _ (.ptr q2 p2)=>match Nat.beq q q2,s.get (.m q)with
  |true,.box _ T _ _=>match op with
   |.eql=>some ⟨.val .bool (.u false) (Nat.beq (Wr T p) (Wr T p2)),s,false,none⟩
   |.neq=>some ⟨.val .bool (.u false) (!(Nat.beq (Wr T p) (Wr T p2))),s,false,none⟩
   |_=>none
  |_,_=>none
 |_,_,_=>none
theorem Qpe(h:R n W0 w X F H s a)(ht:tg.ok W0.gh a)(hp:pt.ok P){op:BinOp}{e e2:TypeId}{x y:Operand}(ho:o.op=.binOp op e x y e2){r:Res}(hr:Qpd pt s tg op e x y=some r):Zeb P τ W0 w X F s a o r:=by
 unfold Qpd at hr;split at hr
 ·rename_i k q p L M b v hx A;split at hr
  ·rename_i N T f z B C;have:=Onb B;subst this;obtain⟨_,hv⟩:=Jx h ht hx (by simp);obtain⟨_,O,Q,S,U,c,V,j,D,W⟩:=hv;obtain⟨_,g⟩:=Jx h ht A (by simp);obtain⟨_,E,Y,Z,x2,b2,S2,l,m,l3⟩:=g;rw[C]at j l;cases j;cases l;rw[D]at m;obtain⟨rfl,rfl⟩:=List.cons.inj m;obtain⟨e4,G,i,I,t⟩:=Zpq.isPtr_ok hp v;have u:∀w,(Op.equal e (.pointer (some ⟨c,Wr T p,none⟩)) (.pointer (some ⟨c,Wr T b,none⟩))).run P w=.ok (Nat.beq (Wr T p) (Wr T b)) w:=λw=>by
    have h0:G.size≠0:=by omega
    have hb:((⟨c,Wr T p,none⟩:Addr)==⟨c,Wr T b,none⟩)=Nat.beq (Wr T p) (Wr T b):=by
     rw[Bool.eq_iff_iff];simp[Nat.beq_eq]
    obtain⟨d,J⟩:∃d,Op.maxDepth=d+1:=⟨9999,rfl⟩
    unfold Op.equal;rw[J];simp only[Op.equalIn,Sem.run_bind,run_underlying i,Result.andThen_ok];simp_all[sizeOf,typeInfo,sameAddr]
   split at hr
   ·simp only[Osi]at hr;subst hr;refine Ku rfl λ_=>⟨_,λK _=>?_,Zx8 _⟩
    simp_all[execOp,eqGuard,Go.binOp]
   ·simp only[Osi]at hr;subst hr;refine Ku rfl λ_=>⟨_,λK _=>?_,Zx8 _⟩
    simp_all[execOp,eqGuard,Go.binOp]
   ·cases hr
  ·cases hr
 ·cases hr
def Qyh(pt:Zpq)(s:St)(tg:Ye)(op:BinOp)(e:TypeId)(x y:Operand):Option Res:=
 match pt.isErr e,Zbw s (op1 s tg x) .err,y with
 |true,some z,.const .nilIface=>match op with
  |.eql=>some ⟨.val .bool (.u false) z,s,false,none⟩
  |.neq=>some ⟨.val .bool (.u false) (!z),s,false,none⟩
  |_=>none
 |_,_,_=>none
theorem Qte(h:R n W0 w X F H s a)(ht:tg.ok W0.gh a)(hp:pt.ok P){op:BinOp}{e e2:TypeId}{x y:Operand}(ho:o.op=.binOp op e x y e2){r:Res}(hr:Qyh pt s tg op e x y=some r):Zeb P τ W0 w X F s a o r:=by
 unfold Qyh at hr;split at hr
 ·rename_i z i j;obtain⟨C,f⟩:=Zpq.isErr_ok hp i;have hx:∃v,a.eval x=v/\((z=true/\v=.nilIface)\/(z=false/\ ∃t u,v=.iface t u)):=by
   obtain⟨k,l,m⟩:=Zci h ht j;obtain⟨⟨v,rfl,_,p⟩,_⟩:(∃v,k=[v]/\v.oneCell'=true/\((z=true/\v=.nilIface)\/(z=false/\ ∃t u,v=.iface t u)))/\_:=m;exact⟨v,l,p⟩
  obtain⟨v,hv,hk⟩:=hx;have g:∀w,(Op.equal e v .nilIface).run P w=.ok z w:=λw=>by
   obtain⟨d,q⟩:∃d,Op.maxDepth=d+1:=⟨9999,rfl⟩
   unfold Op.equal;rw[q];rcases hk with⟨rfl,rfl⟩|⟨rfl,t,u,rfl⟩
   ·simp only[Op.equalIn,Sem.run_bind,run_underlying f,Result.andThen_ok];simp
   ·simp only[Op.equalIn,Sem.run_bind,run_underlying f,Result.andThen_ok];simp
  have A:∀op w,(eqGuard op e x (.const .nilIface) v .nilIface).run P w=.ok () w:=λop w=>by
   unfold eqGuard;rcases hk with⟨rfl,rfl⟩|⟨rfl,t,u,rfl⟩<;>cases op<;>simp
  split at hr
  ·simp only[Osi]at hr;subst hr;refine Ku rfl λ_=>⟨.bool z,λb _=>?_,Zx8 _⟩
   have B:(Go.binOp .eql e v .nilIface).run P b=.ok (.bool z) b:=by
    simp_all[Go.binOp]
   have c:a.eval (.const .nilIface)=.nilIface:=rfl;simp_all[execOp]
  ·simp only[Osi]at hr;subst hr;refine Ku rfl λ_=>⟨.bool (!z),λb _=>?_,Zx8 _⟩
   have B:(Go.binOp .neq e v .nilIface).run P b=.ok (.bool (!z)) b:=by
    simp_all[Go.binOp]
   have c:a.eval (.const .nilIface)=.nilIface:=rfl;simp_all[execOp]
  ·cases hr
 ·cases hr
theorem Zpq.ok_of{P:Program}{t:Zpq}(h1:(t.pp.all λp=>ppB P p.1 p.2)=true)(h2:(t.er.all λe=>erB P e)=true):t.ok P:=⟨λp a=>List.all_eq_true.1 h1 p a,λe b=>List.all_eq_true.1 h2 e b⟩
abbrev Fl.e:Fl:=.p (.u true) (.u false)
def Quf(s:St)(o:Op1)(T:Ty):Option T.den:=Qea s o T
theorem Qqs(h:R n W0 w X F H s a)(ht:tg.ok W0.gh a){x:Operand}{T:Ty}{y:T.den}(hr:Quf s (op1 s tg x) T=some y):
  ∃vs,a.eval x=Yz T vs/\rd w X W0.B false T y vs []:=by
 unfold Quf Qea at hr;split at hr
 ·rename_i v hv;obtain rfl:=Z23 hv;obtain⟨vs,c,b⟩:=Z00 (w:=w) (X:=X) (B:=W0.B) (own:=false) hr;exact⟨vs,c,b⟩
 ·split at hr
  ·rename_i U f j d;obtain⟨g,vs,S,c,b,k⟩:=Zji h ht d;split at hr
   ·rename_i i;cases Ze3 hr;have e:=Znm i b;subst e;exact⟨vs,c,Zap (Vc (λ_ h=>h) g b (by simp)) (by simp)⟩
   ·cases hr
  ·cases hr
def Qu5(s:St)(tg:Ye)(t:Ty):Nat->List (Nat×Operand)->Option (List t.den)
 |_,[]=>some []
 |k,(i,y)::r=>match Nat.beq i k,Quf s (op1 s tg y) t,Qu5 s tg t (k+1) r with
  |true,some z,some l=>some (z::l)
  |_,_,_=>none
theorem Qj9(h:R n W0 w X F H s a)(ht:tg.ok W0.gh a){t:Ty}:∀{parts:List (Nat×Operand)}{k:Nat}{l:List t.den}{cs:Array Value}{A M C:List Value},
  cs.toList=A++(M++C)->A.length=k*t.size->M.length=parts.length*t.size->Qu5 s tg t k parts=some l->
  ∃vs cs',Instr.fill (λi=>some (i*t.size,t.size)) cs (parts.map λp=>(p.1,a.eval p.2))=some cs'/\cs'.toList=A++(vs++C)/\Zc2 (rd w X W0.B false t) l vs []/\l.length=parts.length
 |[],k,l,cs,A,M,C,d,u,x,c=>by
  simp only[Qu5,Osi]at c;subst c;have:M=[]:=List.eq_nil_of_length_eq_zero (by simpa using x);subst this;exact⟨[],cs,rfl,d,⟨rfl,rfl⟩,rfl⟩
 |(i,y)::r,k,l,cs,A,M,C,d,u,x,c=>by
  simp only[Qu5]at c;split at c
  ·rename_i z L e E j;have e:=Onb e;subst e;simp only[Osi]at c;subst c;obtain⟨vs,G,m⟩:=Qqs h ht E;have b:=Z56 (Zon m) (Y6 m);have f:(a.eval y).cells.size=t.size:=by grind[Array.length_toList,Y6]
   have o:M.length=t.size+r.length*t.size:=by grind
   obtain⟨q,D,N⟩:=Z38 (place:=λi=>some (i*t.size,t.size)) (i:=i) (rest:=r.map λp=>(p.1,a.eval p.2)) (v:=a.eval y) rfl (pre:=A) (mid:=M.take t.size) (post:=M.drop t.size++C)
    (by rw[d,<-List.append_assoc (M.take _),List.take_append_drop]) u (by simp;omega) f
   rw[G,b]at D;obtain⟨g,cs',O,I,J,K⟩:=Qj9 h ht (k:=i+1) (cs:=q) (A:=A++vs) (M:=M.drop t.size) (C:=C) (by rw[D];simp) (by grind) (by simp[o]) j;exact⟨vs++g,cs',by simp_all,by rw[I];simp,⟨vs,g,[],[],rfl,rfl,m,J⟩,by simp[K]⟩
  ·cases c
def Z7o(τ:Tab)(s:St)(tg:Ye)(e:TypeId)(len:Nat)(parts:Array (Nat×Operand)):Option Res:=
 match τ e with
 |some (.slice e' t)=>match τ e' with
  |some t2=>match decide (t2=t),Nat.beq parts.size len&&Nat.ble (len*t.size) 16777216 with
   |true,true=>match Qu5 s tg t 0 parts.toList with
    |some l=>some ⟨.val (.slice e' t) .e l,s,false,none⟩
    |none=>none
   |_,_=>none
  |none=>none
 |_=>none
theorem Qes(h:R n W0 w X F H s a)(ht:tg.ok W0.gh a)(hτ:τ.ok P){e:TypeId}{len:Nat}{parts:Array (Nat×Operand)}(ho:o.op=.buildSlice e len parts){r:Res}(hr:Z7o τ s tg e len parts=some r):Zve P n W0 w X H s a o r:=by
 unfold Z7o at hr;split at hr
 ·rename_i I t u;split at hr
  ·rename_i d y;split at hr
   ·rename_i J f;split at hr
    ·rename_i l j;simp only[Osi]at hr;subst hr;have:=Ode J;subst this;simp only[Oba,Nat.ble_eq]at f;have D:=Onb f.1;obtain⟨Y,m⟩:=(hτ _ _ u).slice;obtain⟨i,Z,L,_,hz⟩:=(hτ _ _ y).size;intro _ K Q N;obtain⟨c,E⟩:∃c:Array Value,c=(Array.range (len*i.size)).map ((Yz d (Zax d)).cells[· % (Yz d (Zax d)).cells.size]!):=⟨_,rfl⟩
     have G:c.toList.length=len*d.size:=by simp_all
     obtain⟨z,g,k1,O,S,k4⟩:=Qj9 h ht (k:=0) (cs:=c) (A:=[]) (M:=c.toList) (C:=[]) (by simp) (by simp) (by simp_all) j;have p:l.length=len:=by simp_all
     have q:(execOp a.eval o).run P w=.ok (.value (.slice (some ⟨w.heap.size,0,none⟩) len len)) (w.alloc (.cells g I)):=by
      simp only[execOp,ho,Sem.run_bind];by_cases U:len*i.size=0
      ·have V:len=0:=by
        grind[Nat.mul_eq_zero]
       simp_all[Instr.buildSlice,run_underlying,Go.sizeOf,typeInfo,newRow,Array.range_zero']
      simp_all[run_buildSlice]
     unfold Oper.wp;rw[q];have W:g.toList=z:=by simpa using O
     refine N _ X F [w.heap.size] _ (λ_ h=>h) (h.alloc _) ⟨[_],rfl,?_⟩ (λ_=>rfl) ⟨λ_=>Old.alloc _ _,h.kept (Old.alloc _ _)⟩;have B:z.length=len*d.size:=by grind[Zwh,Y6]
     refine⟨_,z,rfl,⟨⟨by rw[B,p],.inr ⟨w.heap.size,len,g,by rw[p],h.below.sizeB,Qe9 _ _,by omega,?_,?_,?_⟩⟩,rfl⟩,?_⟩
     ·have:=f.2;have h2:len<=len*d.size:=Nat.le_mul_of_pos_right _ m
      grind[maxLen]
     ·grind
     ·grind
     ·exact Jy S λx v T _ u hr=>Zgz (λ_ h=>h) (λb j=>hold w _ b (h.xlt b j)) hr λb j=>absurd (u b j) (by simp)
    ·cases hr
   ·cases hr
  ·cases hr
 ·cases hr
def Qmo(s:St)(x:Op1):Option ((_:TypeId)×(t:Ty)×List t.den):=
 match Zxa s x with
 |some ⟨.slice e t,.u false,l⟩=>some ⟨e,t,l⟩
 |some ⟨.slice e t,.p (.u true) (.u false),l⟩=>some ⟨e,t,l⟩
 |_=>none
theorem Qb7(h:R n W0 w X F H s a)(ht:tg.ok W0.gh a){x:Operand}{e:TypeId}{t:Ty}{l:List t.den}(hr:Qmo s (op1 s tg x)=some ⟨e,t,l⟩):
  ∃v ys,a.eval x=v/\Zc2 (rd w X W0.B false t) l ys []/\ ∃ad cap,v=.slice ad l.length cap/\l.length<=cap/\((ad=none/\l.length=0/\cap=0)\/ ∃a0,ad=some a0/\ ∀j u,ys[j]? =some u->w.cell? (a0.add j)=some u):=by
 unfold Qmo at hr;have fin:∀{own:Bool}{e:TypeId}{l:List t.den}{v:Value}{b:List Value}{S:List Nat},hdr w X W0.B own e t.size l.length v b S-> ∃ad cap,v=.slice ad l.length cap/\l.length<=cap/\((ad=none/\l.length=0/\cap=0)\/ ∃a0,ad=some a0/\ ∀j u,b[j]? =some u->w.cell? (a0.add j)=some u):=by
  grind[Zgp]
 split at hr
 ·rename_i k m o d;simp only[Osi,Sigma.mk.injEq]at hr;obtain⟨rfl,hr⟩:=hr;simp only[heq_eq_eq,Sigma.mk.injEq]at hr;obtain⟨rfl,hr⟩:=hr;cases hr;obtain⟨_,p,S,f,c,q⟩:=Zji h ht d;unfold rdF at c;have r:=Znn c;subst r;obtain⟨v,b,z,A,rfl,y,g,i⟩:=c;obtain⟨rfl,rfl⟩:=List.append_eq_nil_iff.1 y.symm;exact⟨v,b,f,i,fin g⟩
 ·rename_i k m o d;simp only[Osi,Sigma.mk.injEq]at hr;obtain⟨rfl,hr⟩:=hr;simp only[heq_eq_eq,Sigma.mk.injEq]at hr;obtain⟨rfl,hr⟩:=hr;cases hr;obtain⟨_,p,S,f,c,q⟩:=Zji h ht d;obtain⟨v,b,rfl,g,i⟩:=c;exact⟨v,b,f,i,fin g⟩
 ·cases hr
def Qss(τ:Tab)(s:St)(tg:Ye)(e:TypeId)(x y:Operand):Option Res:=
 match τ e with
 |some (.slice e' t)=>match τ e' with
  |some t2=>match decide (t2=t),Zyu s (op1 s tg x) (.slice e' t)with
   |true,some ⟨.slice e1 t1,.p (.u true) (.u false),l,s1,_⟩=>match decide (e1=e'/\t1=t)with
    |true=>match Qmo s1 (op1 s1 tg y)with
     |some ⟨_,t3,l3⟩=>match J8 (.slice e' t1) (.slice e' t3) l3 with
      |some l4=>some ⟨.val (.slice e' t1) .e (l++l4),s1,true,some (l.length+l4.length<=Qd)⟩
      |none=>none
     |none=>none
    |false=>none
   |_,_=>none
  |none=>none
 |_=>none
theorem Qbl{S1:List Nat}(h:R n W0 w X F (S1++H) s a){e':TypeId}{t:Ty}{v v':Value}{xs ys:List Value}{l l4:List t.den}
  (h1:hdr w X W0.B true e' t.size l.length v xs S1) (h2:Zc2 (rd w X W0.B false t) l xs []) (h4:Zc2 (rd w X W0.B false t) l4 ys [])
  (g2:w'.ownsRow W0.B e' t.size v' (l.length+l4.length) (xs++ys)) (g3:w.grownBy w' v.ownBlock) (g4:v'.ownBlock=v.ownBlock\/ ∀b,v'.ownBlock=some b->w.heap.size<=b):
  ∃S,R n W0 w' X F (S++H) s a/\rdF w' X W0.B (.slice e' t) .e (l++l4) [v'] S/\(∀b,X b->w'.heap[b]? =w.heap[b]?)/\ ∀k b,b∈F k->w'.heap[b]? =w.heap[b]? :=by
 have m:S1=v.ownBlock.toList:=h1.2;have f:∀b,b<w.heap.size->b∉S1->w'.heap[b]? =w.heap[b]? :=λb c A=>g3.block b c (λe=>A (by simp_all));have i:=h.hnodup;have o:∀b,X b->w'.heap[b]? =w.heap[b]? :=λb c=>f b (h.xlt b c) λd=>(h.hown b (by simp[d])).2.2 c;have y:∀k b,b∈F k->w'.heap[b]? =w.heap[b]? :=λk b c=>f b (h.own k b c).2.1 λd=>h.hdisj k b c (by simp[d]);have j:∀b,b∈H->b∉S1:=λb c d=>(List.nodup_append.1 i).2.2 b d b c rfl;have p:W0.below w':=⟨g3.os.trans h.below.os,g3.tape.trans h.below.tape,g3.output.trans h.below.output,Nat.le_trans h.below.size g3.size,λk hk=>
  (f k (Nat.lt_of_lt_of_le (W0.yW k hk) h.below.size) λd=>W0.sep hk (h.hown k (by simp[d])).1 rfl).trans (h.below.block k hk)⟩
 have z:=(h.drop).world p g3.size o y;have q:=g2.lt;have r:R n W0 w' X F (v'.ownBlock.toList++H) s a:=by
  rcases g4 with g4|g4
  ·rw[g4,<-m];refine z.hand (λb c=>?_) (List.nodup_append.1 i).1 (λk b c d=>h.hdisj k b c (by simp[d])) (λb c d=>j b d c);obtain⟨E,G,I⟩:=h.hown b (by simp[c]);simp_all
  ·refine z.hand (λb c=>?_) (by grind) (λk b c d=>?_) (λb c d=>?_)
   ·have c:v'.ownBlock=some b:=by simpa using c
    exact⟨.inl (Nat.le_trans h.below.size (g4 b c)),(q b c).2,λhx=>by grind⟩
   ·grind
   ·have c:v'.ownBlock=some b:=by simpa using c
    have:=(h.hown b (by simp[d])).2.1;grind
 have g:∀{l:List t.den}{xs:List Value},Zc2 (rd w X W0.B false t) l xs []->Zc2 (rd w' X W0.B false t) l xs []:=λC=>
  Jy C λx v T _ D u=>Zgz (λ_ h=>h) o u λb c=>absurd (D b c) (by simp)
 refine⟨v'.ownBlock.toList,r,⟨v',xs++ys,rfl,⟨by simpa using g2,rfl⟩,?_⟩,o,y⟩;exact Zrd (S:=[]) (S':=[]) (g h2) (g h4)
theorem Qqb(h:R n W0 w X F H s a)(ht:tg.ok W0.gh a)(hτ:τ.ok P){e:TypeId}{x y:Operand}(ho:o.op=.call {callee:=.builtin .append,args:= #[x,y],argTypes:= #[e,e]}){r:Res}(hr:Qss τ s tg e x y=some r):Zve P n W0 w X H s a o r:=by
 unfold Qss at hr;split at hr
 ·rename_i e' t E;split at hr
  ·rename_i t2 j;split at hr
   ·rename_i e1 t1 l s1 m1 G hx;have:=Ode G;subst this;obtain⟨_,I,S,vs,B,C,f,_,_⟩:=Zea h ht hx;split at hr
    ·rename_i k;obtain⟨rfl,rfl⟩:=Ode k;simp only at B C f;obtain⟨v,xs,rfl,D,J⟩:=C;split at hr
     ·rename_i e3 t3 l3 L;split at hr
      ·rename_i l4 m;simp only[Osi]at hr;have:=Ze3 m;cases this;subst hr;obtain⟨M,ys,N,p,O⟩:=Qb7 f ht L;intro g K Q U;obtain⟨q,i,u1,u2,u3,u4⟩:=Z5e (P:=P) (hτ _ _ E) (hτ _ _ j) D.1 O (Zwh (λ_ _ _ h=>Y6 h) p) (Z1p (λ_ _ _ h=>Zon h) p) g h.below.sizeB;obtain⟨V,W,Y,Z,z4⟩:=Qbl f D J p u2 u3 u4;have u:a.eval x=v:=B;have c:(execOp a.eval o).run P w=.ok (.value q) i:=by
        simp only[execOp,ho];have z:(Builtin.append_ #[e,e] o.type #[v,M]).run P w=.ok q i:=u1;simp[resolve,invoke,builtin,u,N,z]
       have d:Qk3 W0.gh X s a none w i:=by
        intro b A;rcases A with A|⟨r,h1,_,h2⟩
        ·exact Z b A
        ·obtain⟨S,h3⟩:=f.boxIn (Zu8 hx h1) h2
         grind
       unfold Oper.wp;rw[c];exact U _ X I V i (λ_ h=>h) W ⟨[q],rfl,Y⟩ (by simp) ⟨λg=>(by rw[ho]at g;cases g),d⟩
      ·cases hr
     ·cases hr
    ·cases hr
   ·cases hr
  ·cases hr
 ·cases hr
def Qem(sf:Bool)(τ:Tab)(s:St)(tg:Ye)(e:TypeId)(x y:Operand):Option Res:=
 match τ e,sf with
 |some (.slice e' t),false=>match τ e' with
  |some t2=>match decide (t2=t),Zyu s (op1 s tg x) (.slice e' t)with
   |true,some ⟨.slice e1 t1,.u true,l,s1,_⟩=>match decide (e1=e'/\t1=t)with
    |true=>match Qmo s1 (op1 s1 tg y)with
     |some ⟨_,t3,l3⟩=>match J8 (.slice e' t1) (.slice e' t3) l3 with
      |some l4=>some ⟨.val (.slice e' t1) .e (l++l4),s1,true,some (l.length+l4.length<=Qd)⟩
      |none=>none
     |none=>none
    |false=>none
   |_,_=>none
  |none=>none
 |_,_=>none
theorem Qm0(hs0:g.soft=false)(h:R n W0 w X F H s a)(ht:tg.ok W0.gh a)(hτ:τ.ok P){e:TypeId}{x y:Operand}(ho:o.op=.call {callee:=.builtin .append,args:= #[x,y],argTypes:= #[e,e]}){sf:Bool}{r:Res}(hr:Qem sf τ s tg e x y=some r):Zve P n W0 w X H s a o r:=by
 unfold Qem at hr;split at hr
 ·rename_i e' t u;split at hr
  ·rename_i t2 z;split at hr
   ·rename_i e1 V l W m1 hd hx;have:=Ode hd;subst this;obtain⟨_,A,S,vs,Y,C,d,_,_⟩:=Zea h ht hx;split at hr
    ·rename_i D;obtain⟨rfl,rfl⟩:=Ode D;simp only at Y C d;unfold rdF at C;obtain⟨v,Z,E,G,rfl,rfl,k1,k2⟩:=C;split at hr
     ·rename_i e3 t3 l3 hy;split at hr
      ·rename_i l4 I;simp only[Osi]at hr;have:=Ze3 I;cases this;subst hr;have aa:=d.hnodup;have f:R n W0 w X A (E++H) W a:=d.sub (λb c=>by grind) (by
        grind)
       have J:R n W0 w (λb=>X b\/b∈G) A (E++H) W a:=by
        refine R.xup hs0 f (λ_ h=>.inl h) (λb c=>c.elim (f.xlt b) λc=>(d.hown b (by simp[c])).2.1) (λb c=>c.elim (f.xin b) λc=>.inr (d.hown b (by simp[c])).1) (λk b c hx=>?_) (λb c hx=>?_)
        ·rcases hx with hx|hx
         ·exact(f.own k b c).2.2 hx
         ·exact d.hdisj k b c (by simp[hx])
        ·rcases hx with hx|hx
         ·exact(f.hown b c).2.2 hx
         grind
       have i:hdr w (λb=>X b\/b∈G) W0.B true e1 V.size l.length v Z E:=Qe8 k1 (λ_ h=>.inl h) (λ_ _=>rfl) (λ_ _=>rfl);have L:Zc2 (rd w (λb=>X b\/b∈G) W0.B false V) l Z []:=Zuz k2 λ_ _ _ _ u h=>Zks (λ_ h=>.inl h) h λb c=>.inr (u b c);obtain⟨vy,ys,g1,M,hc⟩:=Qb7 J ht hy;intro p K Q hK;obtain⟨N,q,u1,u2,u3,u4⟩:=Z5e (P:=P) (hτ _ _ u) (hτ _ _ z) i.1 hc (Zwh (λ_ _ _ h=>Y6 h) M) (Z1p (λ_ _ _ h=>Zon h) M) p h.below.sizeB;obtain⟨S',z1,z2,z3,z4⟩:=Qbl J i L M u2 u3 u4;have O:a.eval x=v:=Y;have j:(execOp a.eval o).run P w=.ok (.value N) q:=by
        simp only[execOp,ho];have U:(Builtin.append_ #[e,e] o.type #[v,vy]).run P w=.ok N q:=u1;simp[resolve,invoke,builtin,O,g1,U]
       have m:Qk3 W0.gh X s a none w q:=by
        intro b c;rcases c with c|⟨r,h1,_,h2⟩
        ·grind
        ·obtain⟨S,h3⟩:=J.boxIn (Zu8 hx h1) h2
         grind
       unfold Oper.wp;rw[j];exact hK _ _ A S' q (λ_ h=>.inl h) z1 ⟨[N],rfl,z2⟩ (by simp) ⟨λp=>(by rw[ho]at p;cases p),m⟩
      ·cases hr
     ·cases hr
    ·cases hr
   ·cases hr
  ·cases hr
 ·cases hr
theorem R.frzE(hs0:g.soft=false)(h:R n W0 w X F H s a){k:Nat}{e:TypeId}{t:Ty}{x:List t.den}(hg:s.get (.m k)=.val (.slice e t) (.u true) x):
  ∃X' F',R n W0 w X' F' H (Zzj s k (.val (.slice e t) .e x)) a:=by
 have D:=h.slots (.m k);rw[hg]at D;obtain⟨M,hv,E⟩:=D;unfold rdF at E;obtain⟨v,xs,z,G,rfl,J,K,L⟩:=E;have A:=h.nodup (.m k);rw[J]at A;have B:Z6n W0.gh w w s (Zzj s k (.val (.slice e t) .e x)) F (Xb F (.m k) z) a k (.val (.slice e t) .e x):=Zum ⟨by rw[Jz];simp,λp v U hv=>by
  simp_all[Xw,Jz]⟩
 have f:∀b∈G,b∈F (.m k):=λb c=>by simp_all
 refine⟨λb=>X b\/b∈G,Xb F (.m k) z,?_⟩;exact
 {size:=h.size
  defers:=h.defers
  below:=h.below
  glob:=h.glob
  gx:=λb c=>.inl (h.gx b c)
  xs:=λe=>by simp_all
  fix:=h.fix
  xlt:=λb c=>c.elim (h.xlt b) λc=>(h.own _ b (f b c)).2.1
  xin:=λb c=>c.elim (h.xin b) λc=>.inr (h.own _ b (f b c)).1
  x0:=λb c=>.inl (h.x0 b c)
  own:=λj b c=>by
   simp only[Xb]at c;split at c
   ·obtain⟨o,q,y⟩:=h.own (.m k) b (by simp_all)
    grind
   ·rename_i r;obtain⟨o,q,y⟩:=h.own j b c;exact⟨o,q,λhx=>hx.elim y λhk=>r (h.disj j (.m k) b c (f b hk))⟩
  nodup:=λj=>by
   simp only[Xb];split
   ·grind
   ·exact h.nodup j
  disj:=λj I b c l=>by
   simp only[Xb]at c l;split at c<;>split at l
   ·simp_all
   ·exact absurd (h.disj (.m k) I b (by simp_all) l).symm (by assumption)
   ·exact absurd (h.disj j (.m k) b c (by simp_all)) (by assumption)
   ·exact h.disj j I b c l
  hown:=λb c=>let⟨o,q,y⟩:=h.hown b c;⟨o,q,λhx=>hx.elim y λhk=>h.hdisj _ b (f b hk) c⟩
  hnodup:=h.hnodup
  hdisj:=λj b c=>by
   simp only[Xb]at c;split at c
   ·exact h.hdisj (.m k) b (by simp_all)
   ·exact h.hdisj j b c
  comps:=λd i C=>by
   rw[Jz]at C⊢;simp only[reduceCtorEq,if_false]at C;obtain⟨o,q⟩:=h.comps d i C
   grind
  slots:=λj=>by
   by_cases r:j=.m k
   ·subst r;rw[Jz];simp only[if_true,Xb];exact⟨[v],hv,v,xs,rfl,Qe8 K (λ_ h=>.inl h) (λ_ _=>rfl) (λ_ _=>rfl),Zuz L λ_ _ _ _ B h=>Zks (λ_ h=>.inl h) h λb c=>.inr (B b c)⟩
   ·have e:Xb F (.m k) z j=F j:=by simp[Xb,r]
    rw[Jz,e];simp only[Ne.symm r,if_false];exact Qmu B (λ_ h=>.inl h) (λ_ _=>rfl) (λ_ _ _ _=>rfl) (λ_ _=>rfl) (λe N O P b S c=>by simp_all) (h.slots j)}
def Key.up:Key->Key|.m t=>.m (t+big)|.c t i=>.c (t+big) i
def upT:Tm->Tm|.ptr r p=>.ptr (r+big) p|.bor r p=>.bor (r+big) p|.elp r p i q=>.elp (r+big) p i q|.bel r p i q=>.bel (r+big) p i q|.aep r p i=>.aep (r+big) p i|.pls h l=>.pls h (l.map λq=>(q.1+big,q.2))|.cl f l=>.cl f (l.map (· +big))|.gd g w t=>.gd (g+big) w (upT t)|t=>t
def upE:List (Key×Tm)->List (Key×Tm)|[]=>[]|(k,t)::r=>(k.up,upT t)::upE r
def Qh7:List Tm->Nat->List (Key×Tm)|[],_=>[]|t::ts,i=>(.m i,upT t)::Qh7 ts (i+1)
def Qd7(s:St)(ts:List Tm):St:={env:=Qh7 ts 0++upE s.env,dirty:=s.dirty.map (· +big),lent:=s.lent.map (· +big)}
theorem Key.up_inj{k j:Key}:k.up=j.up↔k=j:=by
 cases k<;>cases j<;>simp[Key.up]
theorem Quu:∀(l:List (Key×Tm))(k:Key),Zka (upE l) k.up=upT (Zka l k)
 |[],k=>rfl
 |(j,t)::r,k=>by
  simp only[upE,Z7,Key.up_inj];split
  ·rfl
  ·exact Quu r k
theorem Qmr:∀(l:List (Key×Tm))(k:Key),k.t<big->Zka (upE l) k=.junk
 |[],_,_=>rfl
 |(j,t)::r,k,hk=>by
  simp only[upE,Z7];rw[if_neg (λe=>by subst e;cases j<;>simp only[Key.up,Key.t]at hk<;>omega),Qmr r k hk]
theorem Qtw:∀(ts:List Tm)(i:Nat)(E:List (Key×Tm))(k:Key),i+ts.length<=big->Zka (Qh7 ts i++E) k.up=Zka E k.up
 |[],_,_,_,_=>rfl
 |t::ts,i,E,k,h=>by
  simp only[Qh7,List.cons_append,Z7];simp only[List.length_cons]at h;rw[if_neg (λe=>by cases k<;>simp[Key.up]at e;omega),Qtw ts (i+1) E k (by omega)]
theorem Q1v:∀(ts:List Tm)(i j:Nat)(E:List (Key×Tm))(t:Tm),ts[j]? =some t->Zka (Qh7 ts i++E) (.m (i+j))=upT t
 |[],_,_,_,_,h=>by simp at h
 |u::ts,i,j,E,t,h=>by
  simp only[Qh7,List.cons_append,Z7];cases j with
  |zero=>simp_all
  |succ j=>
   rw[if_neg (by simp),show i+(j+1)=(i+1)+j from by omega];exact Q1v ts (i+1) j E t (by simpa using h)
theorem Qfp:∀(ts:List Tm)(i:Nat)(E:List (Key×Tm))(k:Key),(∀t,k=.m t->t<i\/i+ts.length<=t)->Zka (Qh7 ts i++E) k=Zka E k
 |[],_,_,_,_=>rfl
 |u::ts,i,E,k,h=>by
  simp only[Qh7,List.cons_append,Z7];rw[if_neg (λe=>by grind)];exact Qfp ts (i+1) E k λt e=>by grind
theorem Q9d(m x c:Nat):Nat.beq (m+c) (x+c)=Nat.beq m x:=by
 cases h:Nat.beq m x
 all_goals grind[Onb,Nat.beq_refl]
theorem Q0g(m c:Nat):∀l:List Nat,(l.map (· +c)).any (Nat.beq (m+c))=l.any (Nat.beq m)
 |[]=>rfl
 |x::l=>by simp only[List.map_cons,List.any_cons,Q9d,Q0g m c l]
theorem Z90{s:St}{ts:List Tm}{m:Nat}:(Qd7 s ts).foul (m+big)=s.foul m:=Q0g m big s.dirty
theorem Qx1{s:St}{ts:List Tm}{r:Nat}:∀{p:List Nat},(Qd7 s ts).bad (r+big) p=s.bad r p
 |[]=>by
  simp only[St.bad,Z90];rw[show Qb3 (r+big)=Qb3 r+big from Nat.add_right_comm _ _ _,Z90]
 |i::_=>by
  simp only[St.bad,Z90];rw[show Qb2 (r+big) i=Qb2 r i+big from Nat.add_right_comm _ _ _,Z90]
theorem Q6j{s:St}{ts:List Tm}{r:Nat}:(Qd7 s ts).foul (Zo6 (r+big))=s.foul (Zo6 r):=by
 rw[show Zo6 (r+big)=Zo6 r+big from Nat.add_right_comm _ _ _,Z90]
def Qt8(gh:Nat->Value)(a:Act)(t:Nat):Value:=if t<big then undef else Zqf gh a (t-big)
def Zc6.push(z:Zc6 g)(a:Act):Zc6 g:=
 {z with
  gh:=Qt8 z.gh a
  ghU:=λt ht=>by simp_all[Qt8]
  fix:=z.fix.map λp=>(p.1+big,p.2)}
theorem Q99(z:Zc6 g)(a:Act)(t:Nat):(z.push a).gh (t+big)=Zqf z.gh a t:=by
 have b:¬(t+big<big):=by omega
 have c:(z.push a).gh=Qt8 z.gh a:=rfl;simp_all[Qt8,if_neg]
theorem Zwj{a':Act}(ha:a'.tmps.size<=big)(t:Nat):Zqf (W0.push a).gh a' (t+big)=Zqf W0.gh a t:=by
 grind[Zqf,Q99]
theorem Qxg{a':Act}(ha:a'.tmps.size<=big)(k:Key):Q2 (W0.push a).gh a' k.up=Q2 W0.gh a k:=by
 cases k with
 |m t=>exact Zwj ha t
 |c t i=>simp_all[Key.up,Q2,Zwj]
def upF(F:Key->List Nat):Key->List Nat|.m t=>if t<big then[]else F (.m (t-big))|.c t i=>if t<big then[]else F (.c (t-big) i)
theorem Q0a(k:Key):upF F k.up=F k:=by
 cases k with
 |m t=>simp_all[upF,Key.up,if_neg]
 |c t i=>simp_all[upF,Key.up,if_neg]
theorem Quv{k:Key}{b:Nat}(h:b∈upF F k):∃j:Key,k=j.up/\b∈F j:=by
 cases k with
 |m t=>
  grind[upF,Key.up]
 |c t i=>
  grind[upF,Key.up]
theorem Xdk{ts:List Tm}(hts:ts.length<=big){a':Act}(ha:a'.tmps.size<=big){v:Value}{S:List Nat}:∀{t:Tm},vt W0.gh w X B s F a v S t->
  vt (W0.push a).gh w X B (Qd7 s ts) (upF F) a' v S (upT t):=by
 have z:∀r,(Qd7 s ts).get (.m (r+big))=upT (s.get (.m r)):=λr=>by
  show Zka (Qh7 ts 0++upE s.env) (Key.up (.m r))=_;rw[Qtw _ _ _ _ (by omega),Quu];rfl
 have A:∀r,upF F (.m (r+big))=F (.m r):=λr=>Q0a (.m r);have K:∀{r p v},atP s F r p v->atP (Qd7 s ts) (upF F) (r+big) p v:=λ{r p v} ⟨e,T,f,x,b,D,c,d,n⟩=>
  ⟨e,T,f,x,b,D,by rw[z,c];rfl,by rw[A];exact d,n⟩
 have hv:∀{r p v U},Xw W0.gh w s F a r p v U->Xw (W0.push a).gh w (Qd7 s ts) (upF F) a' (r+big) p v U:=λ{r p v U} h=>by
  unfold Xw at h⊢;rw[z,A];cases E:s.get (.m r)<;>rw[E]at h<;>simp only[upT]at h⊢
  ·exact⟨h.1,h.2.1,h.2.2.trans (Zwj ha r).symm⟩
  ·exact h
 intro t h
 induction t with
 |junk=>exact h
 |tup=>exact h
 |val T f x=>exact h
 |box e T f x=>exact h
 |shp T x=>exact h
 |ptr r p=>exact⟨h.1,K h.2⟩
 |bor r p=>exact⟨h.1,λg=>let⟨U,hU⟩:=h.2 (Qx1▸g);⟨U,hv hU⟩⟩
 |elp r p i q=>exact⟨h.1,λg=>let⟨e,t,o,m,cap,k1,k2⟩:=h.2 (Qx1▸g);⟨e,t,o,m,cap,hv k1,k2⟩⟩
 |bel r p i q=>exact⟨h.1,λg E=>let⟨e,t,o,m,cap,x0,y,cs,k1,k2,k3,k4,k5⟩:=h.2 (Qx1▸g) (Q6j▸E);⟨e,t,o,m,cap,x0,y,cs,hv k1,k2,k3,by rw[A];exact k4,k5⟩⟩
 |aep r p i=>
  obtain⟨k,e,T,f,x,b,D,m,L,y,c,d,n⟩:=h;exact⟨k,e,T,f,x,b,D,m,L,y,by rw[z,c];rfl,by rw[A];exact d,n⟩
 |pls P l=>
  obtain⟨k,o,G,c,d,n,Q,M⟩:=h;refine⟨k,o,G,c,d,by simpa using n,λj q N=>?_,by simpa using M⟩
  grind
 |cl f l=>
  obtain⟨k,G,c,d,n⟩:=h;refine⟨k,G,c,by simpa using d,λj q N=>?_⟩
  grind
 |gd C I t O=>
  intro g;rw[Z90]at g;obtain⟨k,c,d⟩:=h g;have J:Q2 (W0.push a).gh a' (.m (C+big))=Q2 W0.gh a (.m C):=Zwj ha C;refine⟨?_,λH=>O (c (J▸H)),λH=>d (J▸H)⟩;rw[z];generalize s.get (.m C)=u at k;cases u<;>simp[upT]at k⊢
theorem R.push(h:R n W0 w X F [] s a){ts:List Tm}{vs:List Value}{m:Nat}(hl:ts.length=vs.length)(hm:ts.length<=m)(hb:m<=big)(hts:∀(i:Nat) t,ts[i]? =some t-> ∃v,vs[i]? =some v/\vt W0.gh w X W0.B s F a v [] t):
  R m (W0.push a) w X (upF F) [] (Go.Am.Qd7 s ts) {tmps:=vs.toArray++Array.replicate (m-vs.toArray.size) undef,defers:=[]}:=by
 generalize H:({tmps:=vs.toArray++Array.replicate (m-vs.toArray.size) undef,defers:=[]}:Act)=a';have r:a'.tmps.size=m:=by grind
 have o:ts.length<=big:=by omega
 have f:∀k:Key,(Go.Am.Qd7 s ts).get k.up=upT (s.get k):=λk=>by
  show Zka (Qh7 ts 0++upE s.env) k.up=_;rw[Qtw _ _ _ _ (by omega),Quu];rfl
 have g:∀k:Key,k.t<big\/ ∃j:Key,k=j.up:=λk=>by
  cases k with
  |m t=>
   rcases Nat.lt_or_ge t big with h|h
   ·exact .inl h
   ·exact .inr ⟨.m (t-big),by simp_all[Key.up]⟩
  |c t i=>
   rcases Nat.lt_or_ge t big with h|h
   ·exact .inl h
   ·exact .inr ⟨.c (t-big) i,by simp_all[Key.up]⟩
 exact
 {size:=r
  defers:=by rw[<-H]
  below:=⟨h.below.os,h.below.tape,h.below.output,h.below.size,h.below.block⟩
  glob:=h.glob
  gx:=h.gx
  xs:=h.xs
  fix:=λp C=>by
   simp only[Zc6.push,List.mem_map]at C;obtain⟨q,I,rfl⟩:=C;obtain⟨D,u⟩:=h.fix q I;exact⟨by simp_all[Go.Am.Qd7],(Zwj (by omega) q.1).trans u⟩
  xlt:=h.xlt
  xin:=h.xin
  x0:=h.x0
  own:=λk b hb=>by obtain⟨j,_,l⟩:=Quv hb;exact h.own j b l
  nodup:=λk=>by
   rcases g k with hk|⟨j,rfl⟩
   ·have:upF F k=[]:=by cases k<;>simp only[upF,Key.t]at hk⊢ <;>rw[if_pos hk]
    rw[this];simp
   ·rw[Q0a];exact h.nodup j
  disj:=λk N b hb x=>by
   obtain⟨j,rfl,l⟩:=Quv hb;obtain⟨J,rfl,y⟩:=Quv x;rw[h.disj j J b l y]
  hown:=by simp
  hnodup:=by simp
  hdisj:=by simp
  comps:=λd i z=>by
   rcases g (.c d i)with hk|⟨j,l⟩
   ·exfalso;apply z;show Zka (Qh7 ts 0++upE s.env) _=_;simp_all[Qfp,Qmr]
   ·cases j with
    |m t=>grind[Key.up]
    |c t O=>
     simp only[Key.up,Key.c.injEq]at l;obtain⟨rfl,rfl⟩:=l;have E:=f (.c t i);have G:=f (.m t);simp only[Key.up]at E G;rw[E]at z;obtain⟨D,K,u,L⟩:=h.comps t i (λe=>z (by rw[e];rfl));exact⟨by rw[G,D];rfl,K,(Zwj (by omega) t).trans u,L⟩
  slots:=λk=>by
   rcases g k with hk|⟨j,rfl⟩
   ·have M:upF F k=[]:=by cases k<;>simp only[upF,Key.t]at hk⊢ <;>rw[if_pos hk]
    rw[M];cases k with
    |c t i=>
     have:(Go.Am.Qd7 s ts).get (.c t i)=.junk:=by
      show Zka (Qh7 ts 0++upE s.env) _=_;simp_all[Qfp,Qmr]
     rw[this];rfl
    |m t=>
     rcases Nat.lt_or_ge t ts.length with ht|ht
     ·have e:(Go.Am.Qd7 s ts).get (.m t)=upT ts[t]:=by
       have:=Q1v ts 0 t (upE s.env) ts[t] (List.getElem?_eq_getElem ht);rw[Nat.zero_add]at this;exact this
      rw[e];obtain⟨v,hv,A⟩:=hts t ts[t] (List.getElem?_eq_getElem ht);have:Q2 (W0.push a).gh a' (.m t)=v:=by
       show Zqf _ _ _=_
       grind[Zqf]
      rw[this];exact Xdk o (by omega) A
     ·have:(Go.Am.Qd7 s ts).get (.m t)=.junk:=by
       show Zka (Qh7 ts 0++upE s.env) _=_;simp_all[Qfp,Qmr]
      rw[this];rfl
   ·rw[f,Q0a,Qxg (by omega)];exact Xdk o (by omega) (h.slots j)}
def geB(r:Nat):Bool:=Nat.ble big r
def dnT(s:St):Tm->Tm
 |.ptr r p=>match geB r with|true=>.ptr (r-big) p|false=>.junk
 |.bor r p=>match geB r&& !(s.bad r p)with|true=>.bor (r-big) p|false=>.junk
 |.elp r p i q=>match geB r&& !(s.bad r p)with|true=>.elp (r-big) p i q|false=>.junk
 |.bel r p i q=>match geB r&& !(s.bad r p)&& !(s.foul (Zo6 r))with|true=>.bel (r-big) p i q|false=>.junk
 |.aep r p i=>match geB r with|true=>.aep (r-big) p i|false=>.junk
 |.pls h l=>match l.all λq=>geB q.1 with|true=>.pls h (l.map λq=>(q.1-big,q.2))|false=>.junk
 |.cl f l=>match l.all geB with|true=>.cl f (l.map (· -big))|false=>.junk
 |.gd _ _ _=>.junk
 |t=>t
def dnE(s:St):List (Key×Tm)->List (Key×Tm)
 |[]=>[]
 |(.m t,u)::r=>match geB t with|true=>(.m (t-big),dnT s u)::dnE s r|false=>dnE s r
 |(.c t i,u)::r=>match geB t with|true=>(.c (t-big) i,dnT s u)::dnE s r|false=>dnE s r
def dnL:List Nat->List Nat
 |[]=>[]
 |r::l=>match geB r with|true=>(r-big)::dnL l|false=>dnL l
def pop(s:St):St:={env:=dnE s s.env,dirty:=[],lent:=dnL s.lent}
theorem Zm2{r:Nat}:geB r=true↔big<=r:=by simp[geB]
theorem Z9v(s:St):∀(l:List (Key×Tm))(k:Key),Zka (dnE s l) k=dnT s (Zka l k.up)
 |[],k=>rfl
 |(.m t,u)::r,k=>by
  simp only[dnE];cases hb:geB t
  ·have:¬big<=t:=λh=>by grind[Zm2]
   simp only[Z7];rw[if_neg (λe=>by cases k<;>simp[Key.up]at e;omega),Z9v s r k]
  ·have:=Zm2.1 hb;simp only[Z7];by_cases hk:k=.m (t-big)
   ·simp_all[Key.up]
   ·rw[if_neg (Ne.symm hk),if_neg (λe=>hk (by cases k<;>simp[Key.up]at e;simp;omega)),Z9v s r k]
 |(.c t i,u)::r,k=>by
  simp only[dnE];cases hb:geB t
  ·have:¬big<=t:=λh=>by grind[Zm2]
   simp only[Z7];rw[if_neg (λe=>by cases k<;>simp[Key.up]at e;omega),Z9v s r k]
  ·have:=Zm2.1 hb;simp only[Z7];by_cases hk:k=.c (t-big) i
   ·simp_all[Key.up]
   ·rw[if_neg (Ne.symm hk),if_neg (λe=>hk (by cases k<;>simp[Key.up]at e;simp;omega)),Z9v s r k]
theorem Qs8:∀{l:List Nat}{r:Nat},r+big∈l->r∈dnL l
 |x::l,r,h=>by
  simp only[dnL];rcases List.mem_cons.1 h with e|h
  ·grind[Zm2]
  ·cases geB x
   ·exact Qs8 h
   ·exact List.mem_cons_of_mem _ (Qs8 h)
def dnF(s:St)(F:Key->List Nat):Key->List Nat:=λk=>match(pop s).get k with|.junk=>[]|_=>F k.up
theorem Qs7{k:Key}(h:(pop s).get k≠ .junk):dnF s F k=F k.up:=by
 simp_all[dnF]
theorem Ql9{k:Key}{b:Nat}(h:b∈dnF s F k):b∈F k.up:=by
 grind[dnF]
theorem Xdj{a':Act}(ha:a'.tmps.size<=big){v:Value}{S:List Nat}:∀{t:Tm},vt (W0.push a).gh w X B s F a' v S t->dnT s t≠ .junk->
  vt W0.gh w X B (pop s) (dnF s F) a v S (dnT s t):=by
 have H:∀r,(pop s).get (.m r)=dnT s (s.get (.m (r+big))):=λr=>Z9v s s.env (.m r);have d:∀{r:Nat},big<=r->r-big+big=r:=λh=>by omega
 have O:∀{r p v},big<=r->atP s F r p v->atP (pop s) (dnF s F) (r-big) p v:=λ{r p v} g ⟨e,T,f,x,b,I,k,C,n⟩=>by
  have o:(pop s).get (.m (r-big))=.box e T f x:=by rw[H,d g,k];rfl
  exact⟨e,T,f,x,b,I,o,by simp_all[Qs7,Key.up],n⟩
 have Q:∀{r p v U},big<=r->Xw (W0.push a).gh w s F a' r p v U->dnF s F (.m (r-big))=F (.m r):=λ{r p v U} g h=>by
  grind[Xw,dnT,Qs7,Key.up]
 have hv:∀{r p v U},big<=r->Xw (W0.push a).gh w s F a' r p v U->Xw W0.gh w (pop s) (dnF s F) a (r-big) p v U:=λ{r p v U} g h=>by
  have J:=Q g h;unfold Xw at h⊢;rw[H,d g,J];cases he:s.get (.m r)<;>rw[he]at h<;>simp only[dnT]at h⊢
  ·refine⟨h.1,h.2.1,h.2.2.trans ?_⟩;have:=Zwj (W0:=W0) (a:=a) ha (r-big);rw[d g]at this;exact this
  ·exact h
 intro t h c;cases t with
 |junk=>exact h
 |tup=>exact h
 |val T f x=>exact h
 |box e T f x=>exact h
 |shp T x=>exact h
 |ptr r p=>
  simp only[dnT]at c⊢;cases hb:geB r<;>simp only[hb]at c⊢
  ·simp_all
  ·exact⟨h.1,O (Zm2.1 hb) h.2⟩
 |bor r p=>
  simp only[dnT]at c⊢;cases hb:(geB r&& !(s.bad r p))<;>simp only[hb]at c⊢
  ·simp_all
  ·simp only[Oba,Bool.not_eq_true']at hb;obtain⟨U,V⟩:=h.2 hb.2;exact⟨h.1,λ_=>⟨U,hv (Zm2.1 hb.1) V⟩⟩
 |elp r p i q=>
  simp only[dnT]at c⊢;cases hb:(geB r&& !(s.bad r p))<;>simp only[hb]at c⊢
  ·simp_all
  ·simp only[Oba,Bool.not_eq_true']at hb;obtain⟨e,t,D,m,z,K,L⟩:=h.2 hb.2;exact⟨h.1,λ_=>⟨e,t,D,m,z,hv (Zm2.1 hb.1) K,L⟩⟩
 |bel r p i q=>
  simp only[dnT]at c⊢;cases hb:(geB r&& !(s.bad r p)&& !(s.foul (Zo6 r)))<;>simp only[hb]at c⊢
  ·simp_all
  ·simp only[Oba,Bool.not_eq_true']at hb;obtain⟨e,t,D,m,z,W,y,Y,K,L,Z,k4,k5⟩:=h.2 hb.1.2 hb.2;exact⟨h.1,λ_ _=>⟨e,t,D,m,z,W,y,Y,hv (Zm2.1 hb.1.1) K,L,Z,by grind[Zm2],k5⟩⟩
 |aep r p i=>
  simp only[dnT]at c⊢;cases hb:geB r<;>simp only[hb]at c⊢
  ·simp_all
  ·obtain⟨E,e,T,f,x,b,I,m,t',y,k,C,n⟩:=h;have g:=Zm2.1 hb;have o:(pop s).get (.m (r-big))=.box e T f x:=by rw[H,d g,k];rfl
   exact⟨E,e,T,f,x,b,I,m,t',y,o,by simp_all[Qs7,Key.up],n⟩
 |pls hh l=>
  simp only[dnT]at c⊢;cases hb:(l.all λq=>geB q.1)<;>simp only[hb]at c⊢
  ·simp_all
  ·obtain⟨E,D,M,k,C,n,h4,h5⟩:=h;refine⟨E,D,M,k,C,by simpa using n,λj q G=>?_,by simpa using h5⟩;simp only[List.getElem?_map,Option.map_eq_some_iff]at G;obtain⟨N,A,rfl⟩:=G
   grind[Zm2]
 |cl f l=>
  simp only[dnT]at c⊢;cases hb:l.all geB<;>simp only[hb]at c⊢
  ·simp_all
  ·obtain⟨E,M,k,C,n⟩:=h;refine⟨E,M,k,by simpa using C,λj q G=>?_⟩;simp only[List.getElem?_map,Option.map_eq_some_iff]at G;obtain⟨N,A,rfl⟩:=G;obtain⟨u,hu,ht⟩:=n j N A;exact⟨u,hu,O (Zm2.1 (List.all_eq_true.1 hb N (List.mem_of_getElem? A))) ht⟩
 |gd gk P t=>exact absurd rfl c
theorem R.pop{m:Nat}{a':Act}(h:R m (W0.push a) w X F H s a')(hm:m<=big)(hsz:a.tmps.size=n)(hd:a.defers=[]):R n W0 w X (dnF s F) H (Go.Am.pop s) a:=by
 have g:a'.tmps.size<=big:=by rw[h.size];exact hm
 have q:∀k:Key,(Go.Am.pop s).get k=dnT s (s.get k.up):=λk=>Z9v s s.env k;exact
 {size:=hsz
  defers:=hd
  below:=⟨h.below.os,h.below.tape,h.below.output,h.below.size,h.below.block⟩
  glob:=h.glob
  gx:=h.gx
  xs:=h.xs
  fix:=λp x=>by
   obtain⟨j,l⟩:=h.fix (p.1+big,p.2) (by simp_all[Zc6.push]);exact⟨Qs8 j,(Zwj g p.1).symm.trans l⟩
  xlt:=h.xlt
  xin:=h.xin
  x0:=h.x0
  own:=λk b c=>h.own _ b (Ql9 c)
  nodup:=λk=>by
   unfold dnF;split
   ·simp
   ·exact h.nodup _
  disj:=λk y b c o=>Key.up_inj.1 (h.disj _ _ b (Ql9 c) (Ql9 o))
  hown:=h.hown
  hnodup:=h.hnodup
  hdisj:=λk b c=>h.hdisj _ b (Ql9 c)
  comps:=λd i r=>by
   rw[q]at r⊢;obtain⟨j,u,l,v⟩:=h.comps (d+big) i (λe=>r (by simp only[Key.up];rw[e];rfl));exact⟨by simp only[Key.up];rw[j];rfl,u,(Zwj g d).symm.trans l,v⟩
  slots:=λk=>by
   by_cases f:(Go.Am.pop s).get k=.junk
   ·rw[f];unfold dnF;rw[f];rfl
   ·rw[Qs7 f];have t:=h.slots k.up;rw[Qxg g]at t;rw[q]at f⊢;exact Xdj g t f}
def Zqd(a:Act):ResultVar->Sem Value
 |.tmp t=>pure (a.tmps.getD t undef)
 |.cell d t=>do loadVar t (<-asAddr (a.tmps.getD d undef))
def Z6j(τ:Tab):List ResultVar->St->Option (((ts:List (Ty×Fl))×Z13 ts)×St)
 |[],s=>some (⟨[],()⟩,s)
 |.tmp k::rs,s=>match Qhc s (op1 s [] (.tmp k))with
  |some q=>match Z6j τ rs q.s with
   |some (z,s')=>some (⟨(q.T,q.f)::z.1,(q.x,z.2)⟩,s')
   |none=>none
  |none=>none
 |.cell k e::rs,s=>match s.get (.m k),τ e with
  |.box e0 U f y,some U'=>match(Nat.blt k 1048576&&decide (U=U'))&&f.live with
   |true=>match Z6j τ rs (Vv s k (.box e0 U .d y))with
    |some (z,s')=>some (⟨(U,f)::z.1,(y,z.2)⟩,s')
    |none=>none
   |false=>none
  |_,_=>none
def Xfg(rv:List ResultVar)(s:St):Option Tm:=
 match rv with
 |[.tmp k]=>match op1 s [] (.tmp k)with
  |.tm _ (.ptr r p)=>match geB r with|true=>some (.ptr r p)|false=>none
  |.tm _ (.elp r p i q)=>match geB r&& !(s.bad r p)with|true=>some (.elp r p i q)|false=>none
  |_=>none
 |_=>none
def Xbf{ρ:Type}(τ:Tab)(n:Nat)(rv:List ResultVar)(s:St)(dst:Option Nat)(k:St->Option ρ):Option ρ:=
 match Xfg rv s with
 |some t=>match dst with
  |some d=>match Wn (pop s) d&&Nat.blt d n with
   |true=>k (Jd (pop s) d (dnT s t))
   |false=>none
  |none=>none
 |none=>match Z6j τ rv s with
  |some (z,s2)=>match dst with
   |none=>k (pop s2)
   |some d=>match Wn (pop s2) d&&Nat.blt d n with
    |true=>k (Xfa d (pop s2) z.1 z.2)
    |false=>none
  |none=>none
structure Zvd where
 f:FuncId
 n:Nat
 np:Nat
 rv:List ResultVar
 run:List Nat->{ρ:Type}->(Exit->St->Option ρ)->St->Option ρ
structure Zay(P:Program)(g:Kx)(E:Zvd):Prop where
 enters:∀args w,(callFunc E.f args).run P w=.ok (.enter E.f args) w
 le:E.np<=E.n/\E.n<=1048576
 code:∃fn c,P.funcs[E.f]? =some fn/\fn.body=some c/\fn.ntmps=E.n/\fn.results.toList=E.rv/\
  ∀{ρ:Type}{k:Exit->St->Option ρ}{r:ρ}{ln:List Nat}{W0:Zc6 g}{w:World}{X:Nat->Prop}{F:Key->List Nat}{s:St}{a:Act},
   E.run ln k s=some r->(∀p,p∈W0.fix->p.1∈ln)->R E.n W0 w X F [] s a->c.wp P (λe a' w'=> ∃s' X' F',k e s'=some r/\R E.n W0 w' X' F' [] s' a') a w
abbrev Qad:=List Zvd
def Qad.find(Γ:Qad)(f:FuncId):Option Zvd:=
 match Γ with
 |[]=>none
 |e::r=>match Nat.beq e.f f with|true=>some e|false=>Qad.find r f
def Qad.ok(Γ:Qad)(P:Program)(g:Kx):Prop:= ∀e∈Γ,Zay P g e
theorem Qad.find_ok{Γ:Qad}{P:Program}{g:Kx}(h:Γ.ok P g){f:FuncId}{e:Zvd}(he:Γ.find f=some e):e.f=f/\Zay P g e:=by
 induction Γ with
 |nil=>cases he
 |cons x r a=>
  simp only[Qad.find]at he;split at he
  ·rename_i b;simp only[Osi]at he;subst he;exact⟨Onb b,h _ (by simp)⟩
  ·exact a (λe he=>h e (by simp[he])) he
def Xag{ρ:Type}(τ:Tab)(n:Nat)(s:St)(dst:Option Nat)(E:Zvd)(ts:List Tm)(k:St->Option ρ):Option ρ:=
 match Nat.beq ts.length E.np with
 |true=>E.run (Qd7 s ts).lent (λe s'=>match e with|.normal|.ret=>Xbf τ n E.rv s' dst k|_=>none) (Qd7 s ts)
 |false=>none
def Qm5(τ:Tab)(s:St):List Operand->List TypeId->Option (List Tm)
 |[],_=>some []
 |x::xs,e::es=>match Z5z τ s [] e x,Qm5 τ s xs es with
  |some r,some ts=>some (r.t::ts)
  |_,_=>none
 |_::_,[]=>none
theorem Zrc{fn:Func}{vs:List Value}(h:(fn.results.toList.mapM (Zqd a)).run P w=.ok vs w):(results fn a.tmps).run P w=.ok (Jq vs) w:=by
 have e:(fn.results.mapM (Zqd a)).run P w=.ok vs.toArray w:=by
  simp_all[Array.mapM_eq_mapM_toList]
 unfold results;rw[Sem.run_bind];have b:(fn.results.mapM fun
  |.tmp t=>pure (a.tmps.getD t undef)
  |.cell d t=>do loadVar t (<-asAddr (a.tmps.getD d undef)))=fn.results.mapM (Zqd a):=by
  congr 1
 erw [b,e];simp only[Result.andThen_ok,Sem.run_pure];congr 1;by_cases c:vs.length=1
 ·obtain⟨v,rfl⟩:=List.length_eq_one_iff.1 c;rfl
 simp_all[Zug]
theorem Z3z(hτ:τ.ok P):∀{rs:List ResultVar}{s:St}{F:Key->List Nat}{H:List Nat}{z:(ts:List (Ty×Fl))×Z13 ts}{s':St},R n W0 w X F H s a->Z6j τ rs s=some (z,s')->
  ∃vs S F',(rs.mapM (Zqd a)).run P w=.ok vs w/\Qqr w X W0.B z.1 z.2 vs S/\R n W0 w X F' (S++H) s' a
 |[],s,F,H,z,s',h,g=>by
  simp only[Z6j,Osi,Opi]at g;obtain⟨rfl,rfl⟩:=g;exact⟨[],[],F,by simp,⟨rfl,rfl⟩,h⟩
 |.tmp k::rs,s,F,H,z,s',h,g=>by
  simp only[Z6j]at g;split at g
  ·rename_i q Y;split at g
   ·rename_i Z s2 r;simp only[Osi,Opi]at g;obtain⟨rfl,rfl⟩:=g;obtain⟨F1,i,v,h1,h2,D,_,_⟩:=Z3c h (tg:=[]) (λp l=>by cases l) Y;obtain⟨vs,S,F',k1,E,o⟩:=Z3z hτ D r;refine⟨_,i++S,F',?_,⟨v,vs,i,S,rfl,rfl,h2,E⟩,?_⟩
    ·have G:(a.tmps.getD k undef)=Yz q.T v:=h1;simp_all[Zqd]
    ·have l:(i++S++H).Perm (S++(i++H)):=by grind
     exact {o with
      hown:=λb t=>o.hown b (l.mem_iff.1 t)
      hnodup:=l.nodup_iff.2 o.hnodup
      hdisj:=λk b t I=>o.hdisj k b t (l.mem_iff.1 I)}
   ·cases g
  ·cases g
 |.cell k e::rs,s,F,H,z,s',h,g=>by
  simp only[Z6j]at g;split at g
  ·rename_i e' U f y U' N hU;split at g
   ·rename_i J;split at g
    ·rename_i Z s2 r;simp only[Oba,decide_eq_true_eq]at J;obtain⟨⟨K,rfl⟩,J⟩:=J;simp only[Osi,Opi]at g;obtain⟨rfl,rfl⟩:=g;have O:=h.slots (.m k);rw[N]at O;obtain⟨b,c,i,Q,g2,V,C⟩:=O;have A:=h.nodup (.m k);rw[g2]at A;have D:R n W0 w X (Xb F (.m k) [b]) (i++H) (Vv s k (.box e' U .d y)) a:=by
      refine h.turn (S':=[b]) (H':=i++H) h.below (Nat.le_refl _) (λ_ _=>rfl) (λ_ _ _ _=>rfl) ?_ ?_ (by rw[N];simp) ?_ ?_
      ·simp_all
      ·have hd:∀L∈b::i,L∉H:=λL aa=>h.hdisj (.m k) L (by simp_all);refine List.nodup_append.2 ⟨by simp,List.nodup_append.2 ⟨(List.nodup_cons.1 A).2,h.hnodup,λx hx y W e=>hd x (by simp[hx]) (by rw[e];exact W)⟩,λx hx y W e=>?_⟩;simp_all
      ·grind
      ·exact⟨b,c,[],Q,rfl,V,by unfold rdF;exact⟨Y2 C,Zmr C,rfl⟩⟩
     obtain⟨vs,S,F',k1,E,o⟩:=Z3z hτ D r;refine⟨_,i++S,F',?_,⟨c.toList,vs,i,S,rfl,rfl,C,E⟩,?_⟩
     ·have G:(a.tmps.getD k undef)=.pointer (some ⟨b,0,none⟩):=(Yr W0 a K).symm.trans Q;have M:=(hτ _ _ hU).load (w:=w) (ad:=⟨b,0,none⟩) (vs:=c.toList) (Y2 C) (λj u hj=>by
       rw[Zl0 w V,<-Array.getElem?_toList,Nat.zero_add];exact hj)
      simp_all[Zqd,asAddr]
     ·have l:(i++S++H).Perm (S++(i++H)):=by grind
      exact {o with
       hown:=λb t=>o.hown b (l.mem_iff.1 t)
       hnodup:=l.nodup_iff.2 o.hnodup
       hdisj:=λk b t I=>o.hdisj k b t (l.mem_iff.1 I)}
    ·cases g
   ·cases g
  ·cases g
theorem Qzs{m:Nat}{a':Act}{rv:List ResultVar}{t:Tm}(h:R m (W0.push a) w X F [] s a')(hr:Xfg rv s=some t):
  ∃k S,rv=[.tmp k]/\dnT s t≠ .junk/\vt (W0.push a).gh w X W0.B s F a' (a'.eval (.tmp k)) S t/\S=[]:=by
 unfold Xfg at hr;split at hr
 ·rename_i k;split at hr
  ·rename_i j r p hx;split at hr
   ·rename_i c;cases hr;obtain⟨_,hv⟩:=Jx h (tg:=[]) (λp b=>by cases b) hx (by simp);exact⟨k,_,rfl,by simp[dnT,c],hv,hv.1⟩
   ·cases hr
  ·rename_i j r p i q hx;split at hr
   ·rename_i c;cases hr;obtain⟨_,hv⟩:=Jx h (tg:=[]) (λp b=>by cases b) hx (by simp);exact⟨k,_,rfl,by simp_all[dnT],hv,hv.1⟩
   ·cases hr
  ·cases hr
 ·cases hr
theorem Qzr{ρ:Type}{r:ρ}(hτ:τ.ok P){m:Nat}{a':Act}(h:R m (W0.push a) w X F [] s a')(hm:m<=1048576)(hsz:a.tmps.size=n)(hd:a.defers=[]){fn:Func}{rv:List ResultVar}(hrv:fn.results.toList=rv){dst:Option Nat}{k:St->Option ρ}(hk:Xbf τ n rv s dst k=some r):
  ∃v s2 F2,(results fn a'.tmps).run P w=.ok v w/\k s2=some r/\R n W0 w X F2 [] s2 (a.put dst v):=by
 unfold Xbf at hk;split at hk
 ·rename_i t g;obtain⟨j,S,rfl,i,hv,rfl⟩:=Qzs h g;split at hk
  ·rename_i d;split at hk
   ·rename_i hdn;simp only[Oba,Nat.blt_eq]at hdn;have c:=h.pop hm hsz hd;have e:=Xdj (by rw[h.size];exact hm) hv i;have f:=(by simpa using c:R n W0 w X (dnF s F) ([]++[]) (pop s) a).put hdn.1 hdn.2 e;have b:(fn.results.toList.mapM (Zqd a')).run P w=.ok [a'.eval (.tmp j)] w:=by simp_all[Zqd,Act.eval]
    exact⟨Jq [a'.eval (.tmp j)],_,_,Zrc (a:=a') b,hk,f⟩
   ·cases hk
  ·cases hk
 ·split at hk
  ·rename_i z s2 l;obtain⟨o,S,u,x,p,q⟩:=Z3z hτ h l;have c:=q.pop hm hsz hd;split at hk
   ·exact⟨Jq o,_,_,Zrc (a:=a') (by simp_all),hk,c.drop⟩
   ·rename_i d;split at hk
    ·rename_i hdn;simp only[Oba,Nat.blt_eq]at hdn;obtain⟨F2,y⟩:=R.putF c hdn.1 hdn.2 p
     grind[Zrc]
    ·cases hk
  ·cases hk
theorem Qof{ρ:Type}{r:ρ}(hτ:τ.ok P){E:Zvd}(hE:Zay P g E)(h:R n W0 w X F [] s a){ts:List Tm}{vs:List Value}(hl:ts.length=vs.length)(hts:∀(i:Nat) t,ts[i]? =some t-> ∃v,vs[i]? =some v/\vt W0.gh w X W0.B s F a v [] t)
  (hrun:(execOp a.eval o).run P w=.ok (.enter E.f vs.toArray) w) {k:St->Option ρ} (hr:Xag τ n s o.dst E ts k=some r)
  {K:Act->World->Prop}{Q:Exit->Act->World->Prop} (hK:∀v w' X' F' s',k s'=some r->R n W0 w' X' F' [] s' (a.put o.dst v)->K (a.put o.dst v) w'):o.wp P a w K Q:=by
 unfold Xag at hr;split at hr
 ·rename_i b;have b:=Onb b;obtain⟨x,c,y,z,A,j,d⟩:=hE.code;have l:=h.push (m:=E.n) hl (by rw[b];exact hE.le.1) hE.le.2 hts;unfold Oper.wp;rw[hrun,Oper.upon_enter];refine calls_of_wp y z ?_;rw[A];refine wp_mono (d hr (λp C=>(l.fix p C).1) l) λe q w' ⟨s',X',F',hk,u⟩=>?_;have fin:Xbf τ n E.rv s' o.dst k=some r->q.defers=[]/\ ∃v,(results x q.tmps).run P w'=.ok v w'/\K (a.put o.dst v) w':=λhk=>by
   obtain⟨v,D,G,H,I,J⟩:=Qzr hτ u hE.le.2 h.size h.defers j hk;exact⟨u.defers,v,H,hK v w' X' G D I J⟩
  cases e with
  |normal=>exact fin hk
  |ret=>exact fin hk
  |_=>cases hk
 ·cases hr
theorem Z7l(h:R n W0 w X F H s a):∀{xs:List Operand}{es:List TypeId}{ts:List Tm},Qm5 τ s xs es=some ts->
  ts.length=xs.length/\ ∀(i:Nat) t,ts[i]? =some t-> ∃v,(xs.map a.eval)[i]? =some v/\vt W0.gh w X W0.B s F a v [] t
 |[],es,ts,b=>by
  simp_all[Qm5]
 |x::xs,[],ts,b=>by grind[Qm5]
 |x::xs,e::es,ts,b=>by
  simp only[Qm5]at b;split at b
  ·rename_i r k d f;simp only[Osi]at b;subst b;obtain⟨g,l⟩:=Z7l h f;refine⟨by simp[g],λi t c=>?_⟩;cases i with
   |zero=>
    simp only[List.getElem?_cons_zero,Osi]at c;subst c;exact⟨a.eval x,by simp,(Q7j h (tg:=[]) (λp j=>by cases j) d).2⟩
   |succ i=>simp_all
  ·cases b
end Go.Am

/- No condition. -/
import Derived.Test.YtglbkfajafconaaGreatDoorM2
set_option linter.all false
namespace Go.Proofs.YtglbkfajafconaaGreatDoor
noncomputable section
open Go.Am Go.Proofs.Tryz
open Go.Proofs.Tryz renaming prog→qA
set_option maxRecDepth 100000
open Option renaming some→O,none→S,bind_eq_some_iff→Md
open Eq renaming symm→U,trans→X
open Go renaming World→Y,Value→Lb,Builtin→Le,Addr→Lf,IntKind→Lg,Calls→Li,sizeOf→L3
open List renaming length_take→La,length_append→Lh,length_drop→Lj,getElem?_take→Ln,size_toArray→Lo,append_assoc→Lz,take_left'→L0,take_take→L4,getElem?_drop→L8,mem_of_mem_drop→L9,take_append_of_le_length→Mb
open Bool renaming true→Lc,false→Ll
open Nat renaming mul_le_mul_right→Ld,add_mul→Lm,le_refl→Lp,min_eq_left→Lv,zero_le→Lw,min_def→L5,mul_sub_right_distrib→Mc
open Decidable renaming decide→Lk
open Act renaming eval→Lq,put→Lr
open Addr renaming add_lit→Ls
open IntKind renaming i64→Lt,wrap_i64→Lu
open World renaming cell?→Lx,frozen?→Me
open Departure renaming mixedOrders→Ly
open Builtin renaming append_→L1,copy_→L2,zeroCells→L7,clear_→Ma
open Go.RowKit.Below renaming refl→L6
variable{C:ML}{Γ:Ur}{a b c d f g h i j k l m:LR}{fn:Func}{gl:Kf}{ln:List Nat}{xs:List Lb}{n:Nat}{P Q P' Q':Prop}{ρ:Type}{v:Lb}{w:Y}{ΓB:E7}{ΓL:la}
abbrev wR:Ty:=.int .i64
abbrev sA{ρ:Type}:An ρ:=.leaf
abbrev sC:Fl:=.u .ow
abbrev sD:Fl:=.u .sh
abbrev pY(k:Nat)(f:Fl):PE:=.box k 37 Zq f
abbrev pZ(k:Nat)(f:Fl):PE:=.box k 87 Zv f
abbrev tY(k:Nat)(f:Fl):PE:=.box k 154 Zt f
abbrev tZ(k:Nat)(f:Fl):PE:=.val k (.slice 154 Zt) f
abbrev wA(k:Nat)(f:Fl):PE:=.box k 74 Q8 f
abbrev wB(k:Nat)(f:Fl):PE:=.val k (.slice 150 Zw) f
abbrev wC(k:Nat)(f:Fl):PE:=.box k 84 Ku f
abbrev wD(k:Nat)(f:Fl):PE:=.box k 90 Xi f
abbrev wE(k:Nat)(f:Fl):PE:=.box k 96 Z1 f
abbrev wF(k:Nat)(f:Fl):PE:=.box k 218 Y1 f
abbrev wG(k:Nat)(f:Fl):PE:=.box k 92 Qh f
abbrev wH(k:Nat)(f:Fl):PE:=.val k (.slice 3 wR) f
abbrev wI(k:Nat)(f:Fl):PE:=.box k 150 Zw f
abbrev wJ(k:Nat)(f:Fl):PE:=.val k (.slice 9 (.str)) f
abbrev wK(k:Nat)(f:Fl):PE:=.box k 94 Y6 f
abbrev wL(k:Nat)(f:Fl):PE:=.val k (.slice 281 Qm) f
abbrev wM(k:Nat)(f:Fl):PE:=.box k 3 wR f
abbrev wO(k:Nat)(f:Fl):PE:=.val k (.slice 5 (.int .u8)) f
abbrev wP(k:Nat)(f:Fl):PE:=.val k (.slice 100 Yk) f
abbrev wQ(k:Nat)(f:Fl):PE:=.val k (.slice 96 Z1) f
abbrev sE(a:Fl):Fl:=.p sD a
abbrev sF{ρ:Type}(p:List PE)(f:Nat->PE.dens p->Option ρ)(fuel:PE.dens p->Nat)(a:(PE.dens p->Option ρ)->An ρ):An ρ:=.seq (.seq .leaf (.block (.loop p f fuel a))) .leaf
abbrev sG{ρ:Type}(a:An ρ):An ρ:=.seq .leaf a
abbrev sH{ρ:Type}(a:An ρ):An ρ:=.seq .leaf (.seq .leaf a)
abbrev sI{ρ:Type}(a:An ρ):An ρ:=.seq .leaf (.seq .leaf (.seq .leaf a))
abbrev sJ{ρ:Type}(a:An ρ):An ρ:=.seq .leaf (.seq .leaf (.seq .leaf (.seq .leaf a)))
abbrev sK{ρ:Type}(a:An ρ):An ρ:=.seq .leaf (.seq .leaf (.seq .leaf (.seq .leaf (.seq .leaf a))))
abbrev sL{ρ:Type}(a:An ρ):An ρ:=.seq .leaf (.seq .leaf (.seq .leaf (.seq .leaf (.seq .leaf (.seq .leaf a)))))
abbrev sM{ρ:Type}(a:An ρ):An ρ:=.seq .leaf (.seq .leaf (.seq .leaf (.seq .leaf (.seq .leaf (.seq .leaf (.seq .leaf a))))))
def Ul:vJ:=NU [(3,wR),(4,.bool),(5,.int .u8),(9,.str),(23,cR),(24,.slice 9 (.str)),(25,cR),(26,.slice 96 Z1),(28,Q7),(30,Kk),(32,gg),(34,Q7),(35,.slice 100 Yk),(37,Zq),(48,.slice 74 Q8),(74,Q8),(82,.slice 3 wR),(84,Ku),(85,.slice 150 Zw),(87,Zv),(88,.slice 152 bI),(90,Xi),(92,Qh),(94,Y6),(96,Z1),(98,.slice 154 Zt),(100,Yk),(101,.slice 5 (.int .u8)),(150,Zw),(152,bI),(154,Zt),(215,.slice 281 Qm),(218,Y1),(234,.int .u64),(281,Qm)]
abbrev pW(e:Nat)(T:Ty):=Fs qA e T
def pX{e:Nat}{T:Ty}(h:(qA.info? e).map (·.zero)=O (O (Yh T (Jk T))):=by kernel_rfl)(i:XM qA e T=true:=by kernel_rfl):pW e T:=⟨h,i⟩
def Qxy:pW 3 wR:=pX
def Qxz:pW 4 .bool:=pX
def Qx0:pW 5 (.int .u8):=pX
def Qx1:pW 9 .str:=pX
def Qvg:pW 23 cR:=pX
def Qvh:pW 24 (.slice 9 (.str)):=pX
def Qvi:pW 25 cR:=pX
def GL:pW 26 (.slice 96 Z1):=pX
def Qvj:pW 28 Q7:=pX
def Qvk:pW 30 Kk:=pX
def Qvl:pW 32 gg:=pX
def Qvm:pW 34 Q7:=pX
def SX:pW 35 (.slice 100 Yk):=pX
def C4:pW 37 Zq:=pX
def Qvn:pW 48 (.slice 74 Q8):=pX
def Qvo:pW 74 Q8:=pX
def Qvp:pW 82 (.slice 3 wR):=pX
def Qvq:pW 84 Ku:=pX
def Qvr:pW 85 (.slice 150 Zw):=pX
def Qvs:pW 87 Zv:=pX
def Qvt:pW 88 (.slice 152 bI):=pX
def Qvu:pW 90 Xi:=pX
def Qvv:pW 92 Qh:=pX
def Qvw:pW 94 Y6:=pX
def O6:pW 96 Z1:=pX
def Qvx:pW 98 (.slice 154 Zt):=pX
def WP:pW 100 Yk:=pX
def Qq1:pW 101 (.slice 5 (.int .u8)):=pX
def Qq2:pW 150 Zw:=pX
def Qq3:pW 152 bI:=pX
def Qq4:pW 154 Zt:=pX
def Qq5:pW 215 (.slice 281 Qm):=pX
def Qq6:pW 218 Y1:=pX
def Qq7:pW 234 (.int .u64):=pX
def Qq8:pW 281 Qm:=pX
def Rc:Ul.ok qA:=(Y5 Qxy (Y5 Qxz (Y5 Qx0 (Y5 Qx1 (Y5 Qvg (Y5 Qvh (Y5 Qvi (Y5 GL (Y5 Qvj (Y5 Qvk (Y5 Qvl (Y5 Qvm (Y5 SX (Y5 C4 (Y5 Qvn (Y5 Qvo (Y5 Qvp (Y5 Qvq (Y5 Qvr (Y5 Qvs (Y5 Qvt (Y5 Qvu (Y5 Qvv (Y5 Qvw (Y5 O6 (Y5 Qvx (Y5 WP (Y5 Qq1 (Y5 Qq2 (Y5 Qq3 (Y5 Qq4 (Y5 Qq5 (Y5 Qq6 (Y5 Qq7 (Y5 Qq8 Qqz)))))))))))))))))))))))))))))))))))
noncomputable abbrev glob : Kf := Kf.vars qA [("internal/bytealg.MaxLen", HT), ("loop.example/g01633/impl.eventWords", (· = (KK.map fun z => Lb.string ⟨⟨z⟩⟩).toArray)), ("internal/strconv.uint64pow10", (· = (Go.Lib.pow10Tab.map fun z => Lb.int .u64 z).toArray)), ("strconv.ErrSyntax", B1)]
def Qtv:EV qA 74 (Q8):=EV.of Ab Ab rfl Ah
def Qpj:EV qA 150 (Zw):=EV.of Ab Ab rfl Ah
def Qpk:EV qA 154 (Zt):=EV.of Ab Ab rfl Ah
def Bx:List Nat:=[74,150,154]
def Sj:Ta qA Ul Bx:=(Da Qtv rfl (Da Qpj rfl (Da Qpk rfl Qpl)))
@[reducible] def A5:uN:={pp:=[(139,138)],er:=[204]}
def Py:A5.ok qA:=uN.ok_of Ab Ab
@[reducible] def gW(ln:List Nat)(Γ:Ur)(ΓL:la)(ΓB:E7)(ΓW:List Unit):ML:={τ:=Ul,eq:=λe=>Bx.any (Nat.beq e),Γ:=Γ,ΓL:=ΓL,ΓB:=ΓB,pQ:=ln,pt:=A5,cut:=λe=>Nat.beq e 88}
def ZG(hs:gl.soft=Ll)(h:Γ.ok qA gl)(hL:ΓL.ok qA gl)(hB:ΓB.ok qA gl)(hW:True):(gW ln Γ ΓL ΓB []).ok qA gl:=⟨Rc,Sj,h,Ab,hL,hB,hs,Py,(λ_ h=>by cases h),(λ_ _ _ _ h=>by cases h),Up⟩
@[reducible] def Vc(I:qM)(ln:List Nat)(Γ:Ur)(ΓL:la)(ΓB:E7)(ΓW:List Unit):ML:={gW ln Γ ΓL ΓB ΓW with inl:=I}
def X8{I:qM}(hI:I.ok qA gl)(hs:gl.soft=Ll)(h:Γ.ok qA gl)(hL:ΓL.ok qA gl)(hB:ΓB.ok qA gl)(hW:True):(Vc I ln Γ ΓL ΓB []).ok qA gl:=⟨Rc,Sj,h,Ab,hL,hB,hs,Py,hI,(λ_ _ _ _ h=>by cases h),Up⟩
abbrev u1{a z:Type}(f:a->z)(x:a×Unit):z:=f x.1
abbrev u2{a b z:Type}(f:a->b->z)(x:a×b×Unit):z:=f x.1 x.2.1
abbrev u3{a b c z:Type}(f:a->b->c->z)(x:a×b×c×Unit):z:=f x.1 x.2.1 x.2.2.1
abbrev u4{a b c d z:Type}(f:a->b->c->d->z)(x:a×b×c×d×Unit):z:=f x.1 x.2.1 x.2.2.1 x.2.2.2.1
abbrev u5{a b c d e z:Type}(f:a->b->c->d->e->z)(x:a×b×c×d×e×Unit):z:=f x.1 x.2.1 x.2.2.1 x.2.2.2.1 x.2.2.2.2.1
abbrev u6{a b c d e g z:Type}(f:a->b->c->d->e->g->z)(x:a×b×c×d×e×g×Unit):z:=f x.1 x.2.1 x.2.2.1 x.2.2.2.1 x.2.2.2.2.1 x.2.2.2.2.2.1
abbrev u7{a b c d e g h z:Type}(f:a->b->c->d->e->g->h->z)(x:a×b×c×d×e×g×h×Unit):z:=f x.1 x.2.1 x.2.2.1 x.2.2.2.1 x.2.2.2.2.1 x.2.2.2.2.2.1 x.2.2.2.2.2.2.1
abbrev u8{a b c d e g h i z:Type}(f:a->b->c->d->e->g->h->i->z)(x:a×b×c×d×e×g×h×i×Unit):z:=f x.1 x.2.1 x.2.2.1 x.2.2.2.1 x.2.2.2.2.1 x.2.2.2.2.2.1 x.2.2.2.2.2.2.1 x.2.2.2.2.2.2.2.1
abbrev u9{a b c d e g h i j z:Type}(f:a->b->c->d->e->g->h->i->j->z)(x:a×b×c×d×e×g×h×i×j×Unit):z:=f x.1 x.2.1 x.2.2.1 x.2.2.2.1 x.2.2.2.2.1 x.2.2.2.2.2.1 x.2.2.2.2.2.2.1 x.2.2.2.2.2.2.2.1 x.2.2.2.2.2.2.2.2.1
abbrev u10{a b c d e g h i j k z:Type}(f:a->b->c->d->e->g->h->i->j->k->z)(x:a×b×c×d×e×g×h×i×j×k×Unit):z:=f x.1 x.2.1 x.2.2.1 x.2.2.2.1 x.2.2.2.2.1 x.2.2.2.2.2.1 x.2.2.2.2.2.2.1 x.2.2.2.2.2.2.2.1 x.2.2.2.2.2.2.2.2.1 x.2.2.2.2.2.2.2.2.2.1
abbrev u11{a b c d e g h i j k l z:Type}(f:a->b->c->d->e->g->h->i->j->k->l->z)(x:a×b×c×d×e×g×h×i×j×k×l×Unit):z:=f x.1 x.2.1 x.2.2.1 x.2.2.2.1 x.2.2.2.2.1 x.2.2.2.2.2.1 x.2.2.2.2.2.2.1 x.2.2.2.2.2.2.2.1 x.2.2.2.2.2.2.2.2.1 x.2.2.2.2.2.2.2.2.2.1 x.2.2.2.2.2.2.2.2.2.2.1
abbrev u12{a b c d e g h i j k l m z:Type}(f:a->b->c->d->e->g->h->i->j->k->l->m->z)(x:a×b×c×d×e×g×h×i×j×k×l×m×Unit):z:=f x.1 x.2.1 x.2.2.1 x.2.2.2.1 x.2.2.2.2.1 x.2.2.2.2.2.1 x.2.2.2.2.2.2.1 x.2.2.2.2.2.2.2.1 x.2.2.2.2.2.2.2.2.1 x.2.2.2.2.2.2.2.2.2.1 x.2.2.2.2.2.2.2.2.2.2.1 x.2.2.2.2.2.2.2.2.2.2.2.1
abbrev u13{a b c d e g h i j k l m n z:Type}(f:a->b->c->d->e->g->h->i->j->k->l->m->n->z)(x:a×b×c×d×e×g×h×i×j×k×l×m×n×Unit):z:=f x.1 x.2.1 x.2.2.1 x.2.2.2.1 x.2.2.2.2.1 x.2.2.2.2.2.1 x.2.2.2.2.2.2.1 x.2.2.2.2.2.2.2.1 x.2.2.2.2.2.2.2.2.1 x.2.2.2.2.2.2.2.2.2.1 x.2.2.2.2.2.2.2.2.2.2.1 x.2.2.2.2.2.2.2.2.2.2.2.1 x.2.2.2.2.2.2.2.2.2.2.2.2.1
abbrev u14{a b c d e g h i j k l m n o z:Type}(f:a->b->c->d->e->g->h->i->j->k->l->m->n->o->z)(x:a×b×c×d×e×g×h×i×j×k×l×m×n×o×Unit):z:=f x.1 x.2.1 x.2.2.1 x.2.2.2.1 x.2.2.2.2.1 x.2.2.2.2.2.1 x.2.2.2.2.2.2.1 x.2.2.2.2.2.2.2.1 x.2.2.2.2.2.2.2.2.1 x.2.2.2.2.2.2.2.2.2.1 x.2.2.2.2.2.2.2.2.2.2.1 x.2.2.2.2.2.2.2.2.2.2.2.1 x.2.2.2.2.2.2.2.2.2.2.2.2.1 x.2.2.2.2.2.2.2.2.2.2.2.2.2.1
def lA{ρ:Type}:An ρ->Bool|.leaf=>Lc|.frz _=>Lc|.seq A B=>lA A&&lA B|.cond A B=>lA A&&lA B|.block A=>lA A|_=>Ll
def aj(a b:Bool)(P Q:Prop):Prop:=match a,b with
 |true,Lc=>True
 |true,Ll=>Q
 |false,Lc=>P
 |false,Ll=>P/\Q
def aq(a b:Bool)(P J Q:Prop):Prop:=match a,b with
 |true,Lc=>J
 |true,Ll=>J/\Q
 |false,Lc=>P/\J
 |false,Ll=>P/\J/\Q
def cj{ρ:Type}(C:ML)(n:Nat):Code->An ρ->(Exit->St->Option ρ)->Prop
 |.seq a b,A,k=>match A with
  |.seq A B=>aj (lA A) (lA B) (cj C n a A (ZB (Kz C n b B k) k)) (cj C n b B k)
  |.join p f A B=>aq (lA A) (lA B) (cj C n a A (ZB (Hy C.soft p f) k)) (∀v,f v=Kz C n b B k (B5 C.pQ p v)) (cj C n b B k)
  |_=>True
 |.cond _ a b,A,k=>match A with
  |.cond A B=>aj (lA A) (lA B) (cj C n a A k) (cj C n b B k)
  |_=>True
 |.block id b,A,k=>match A with
  |.block A=>cj C n b A (FK id k)
  |_=>True
 |.loop b,A,k=>match A with
  |.loop p f _ A=>(∀v,f 0 v=S)/\ ∀N,match lA (A (f N))with
   |true=> ∀v,f (N+1) v=Kz C n b (A (f N)) (ZB (Hy C.soft p (f N)) k) (B5 C.pQ p v)
   |false=>(∀v,f (N+1) v=Kz C n b (A (f N)) (ZB (Hy C.soft p (f N)) k) (B5 C.pQ p v))/\cj C n b (A (f N)) (ZB (Hy C.soft p (f N)) k)
  |.unroll L m A=> ∀i,i<m->cj C n b (A i) (ZB (IU (λi kk s=>Kz C n b (A i) (ZB kk k) (RT L s)) i) k)
  |_=>True
 |.region _ ops _,A,_=>match A with
  |.ext G=>H0 C n ops G
  |_=>True
 |_,_,_=>True
def SN:∀(c:Code)(A:An ρ)(k:Exit->St->Option ρ),lA A=Lc->Vx C n c A k:=by
 intro c
 induction c with
 |seq a b iha ihb=>
  intro A k h;cases A<;>simp only[lA,pC]at h<;>simp only[Vx]
  ·exact⟨iha _ _ h.1,ihb _ _ h.2⟩
  ·cases h
 |cond o a b iha ihb=>
  intro A k h;cases A<;>simp only[lA,pC]at h<;>simp only[Vx]
  exact⟨iha _ _ h.1,ihb _ _ h.2⟩
 |block id b ih=>
  intro A k h;cases A<;>simp only[lA]at h<;>simp only[Vx]
  exact ih _ _ h
 |loop b ih=>
  intro A k h;cases A<;>simp only[lA]at h<;>simp only[Vx]
  ·cases h
  ·cases h
 |region=>
  intro A k h;cases A<;>simp only[lA]at h<;>simp only[Vx]
  cases h
 |_=>intros;simp only[Vx]
def RK{a b:Bool}(h:aj a b P Q)(hp:P->P')(hq:Q->Q')(ha:a=Lc->P')(hb:b=Lc->Q'):P'/\Q':=by
 cases a<;>cases b
 ·exact⟨hp h.1,hq h.2⟩
 ·exact⟨hp h,hb rfl⟩
 ·exact⟨ha rfl,hq h⟩
 ·exact⟨ha rfl,hb rfl⟩
def Qv5{a b:Bool}{J:Prop}(h:aq a b P J Q)(hp:P->P')(hq:Q->Q')(ha:a=Lc->P')(hb:b=Lc->Q'):P'/\J/\Q':=by
 cases a<;>cases b
 ·exact⟨hp h.1,h.2.1,hq h.2.2⟩
 ·exact⟨hp h.1,h.2,hb rfl⟩
 ·exact⟨ha rfl,h.1,hq h.2⟩
 ·exact⟨ha rfl,h,hb rfl⟩
def He:∀(c:Code)(A:An ρ)(k:Exit->St->Option ρ),cj C n c A k->Vx C n c A k:=by
 intro c
 induction c with
 |seq a b iha ihb=>
  intro A k h;cases A<;>simp only[Vx]<;>simp only[cj]at h
  ·exact RK h (iha _ _) (ihb _ _) (SN _ _ _) (SN _ _ _)
  ·exact Qv5 h (iha _ _) (ihb _ _) (SN _ _ _) (SN _ _ _)
 |cond o a b iha ihb=>
  intro A k h;cases A<;>simp only[Vx]<;>simp only[cj]at h
  exact RK h (iha _ _) (ihb _ _) (SN _ _ _) (SN _ _ _)
 |block id b ih=>
  intro A k h;cases A<;>simp only[Vx]<;>simp only[cj]at h
  exact ih _ _ h
 |loop b ih=>
  intro A k h;cases A<;>simp only[Vx]<;>simp only[cj]at h
  ·refine⟨h.1,λN=>?_⟩;have h:=h.2 N;split at h
   ·rename_i e;exact⟨h,SN _ _ _ e⟩
   ·exact⟨h.1,ih _ _ h.2⟩
  ·exact λi hi=>ih _ _ (h i hi)
 |region=>
  intro A k h;cases A<;>simp only[Vx]<;>simp only[cj]at h
  exact h
 |_=>intros;simp only[Vx]
def lf{c:Code}{k:Exit->St->Option ρ}:Vx C n c (sA:An ρ) k:=Xj c k
def hk{α β:Type}{f g:α->Option β}(h:∀x,f x=g x)(x:α)(r:β)(e:g x=O r):f x=O r:=(h x).trans e
abbrev okE(e:LR):=Wz qA glob e
abbrev DQ(e:A9):=gZ qA glob e
def sN(A:okE a):Ur.ok [a] qA glob:=(Za A Zg)
def sO(A:okE a)(B:okE b):Ur.ok [a,b] qA glob:=(Za A (Za B Zg))
def sP(A:okE a)(B:okE b)(C:okE c):Ur.ok [a,b,c] qA glob:=(Za A (Za B (Za C Zg)))
def sQ(A:okE a)(B:okE b)(C:okE c)(D:okE d):Ur.ok [a,b,c,d] qA glob:=(Za A (Za B (Za C (Za D Zg))))
def sR{e:LR}(A:okE a)(B:okE b)(C:okE c)(D:okE d)(E:okE e):Ur.ok [a,b,c,d,e] qA glob:=(Za A (Za B (Za C (Za D (Za E Zg)))))
def sS{e:LR}(A:okE a)(B:okE b)(C:okE c)(D:okE d)(E:okE e)(F:okE f):Ur.ok [a,b,c,d,e,f] qA glob:=(Za A (Za B (Za C (Za D (Za E (Za F Zg))))))
def sT{e:LR}(A:okE a)(B:okE b)(C:okE c)(D:okE d)(E:okE e)(F:okE f)(G:okE g):Ur.ok [a,b,c,d,e,f,g] qA glob:=(Za A (Za B (Za C (Za D (Za E (Za F (Za G Zg)))))))
def sU{e:LR}(A:okE a)(B:okE b)(C:okE c)(D:okE d)(E:okE e)(F:okE f)(G:okE g)(H:okE h):Ur.ok [a,b,c,d,e,f,g,h] qA glob:=(Za A (Za B (Za C (Za D (Za E (Za F (Za G (Za H Zg))))))))
def sV{e:LR}(A:okE a)(B:okE b)(C:okE c)(D:okE d)(E:okE e)(F:okE f)(G:okE g)(H:okE h)(I:okE i):Ur.ok [a,b,c,d,e,f,g,h,i] qA glob:=(Za A (Za B (Za C (Za D (Za E (Za F (Za G (Za H (Za I Zg)))))))))
def sW{e:LR}(A:okE a)(B:okE b)(C:okE c)(D:okE d)(E:okE e)(F:okE f)(G:okE g)(H:okE h)(I:okE i)(J:okE j):Ur.ok [a,b,c,d,e,f,g,h,i,j] qA glob:=(Za A (Za B (Za C (Za D (Za E (Za F (Za G (Za H (Za I (Za J Zg))))))))))
def Zx1{e:LR}(A:okE a)(B:okE b)(C:okE c)(D:okE d)(E:okE e)(F:okE f)(G:okE g)(H:okE h)(I:okE i)(J:okE j)(K:okE k)(L:okE l)(M:okE m):Ur.ok [a,b,c,d,e,f,g,h,i,j,k,l,m] qA glob:=(Za A (Za B (Za C (Za D (Za E (Za F (Za G (Za H (Za I (Za J (Za K (Za L (Za M Zg)))))))))))))
def lI{e n:LR}(A:okE a)(B:okE b)(C:okE c)(D:okE d)(E:okE e)(F:okE f)(G:okE g)(H:okE h)(I:okE i)(J:okE j)(K:okE k)(L:okE l)(M:okE m)(N:okE n):Ur.ok [a,b,c,d,e,f,g,h,i,j,k,l,m,n] qA glob:=(Za A (Za B (Za C (Za D (Za E (Za F (Za G (Za H (Za I (Za J (Za K (Za L (Za M (Za N Zg))))))))))))))
def TJ{e:LR}(h1:Γ.ok qA glob)(h2:ΓB.ok qA glob)(hf:qA.funcs[e.f]? =O fn)(hcall:∀args w,(callFunc e.f args).run qA w=.ok (.enter e.f args) w)(A:An (J6 e.res))(hA:cj (gW [] Γ [] ΓB []) fn.ntmps (Xr fn) A (Fw e.ro (gW [] Γ [] ΓB []).τ e.res fn.results.toList):=by trivial)
  (hF:∀xs,Kz (gW [] Γ [] ΓB []) fn.ntmps (Xr fn) A (Fw e.ro (gW [] Γ [] ΓB []).τ e.res fn.results.toList) (NQ e.args xs)=e.F xs:=by intro _;kernel_rfl) (hb:fn.body=O (Xr fn):=by rfl) (hn:e.args.length<=fn.ntmps:=by decide) (hr:e.ro.mine=true:=by rfl):okE e:=Wz.of (ZG rfl h1 Qk h2 Ql) rfl hf hb hcall hn A (He _ _ _ hA) (hk hF) hr
def Gv{e:A9}(L:List Nat)(h1:Γ.ok qA glob)(h2:ΓB.ok qA glob)(hf:qA.funcs[e.f]? =O fn)(hcall:∀args w,(callFunc e.f args).run qA w=.ok (.enter e.f args) w)(A:An (FT e.res×JM e.args))(hA:cj (gW L Γ [] ΓB []) fn.ntmps (Xr fn) A (G0 (gW L Γ [] ΓB []).τ e.args e.res fn.results.toList):=by trivial)
  (hF:∀xs,Kz (gW L Γ [] ΓB []) fn.ntmps (Xr fn) A (G0 (gW L Γ [] ΓB []).τ e.args e.res fn.results.toList) (vD e.args xs)=e.F xs:=by intro _;kernel_rfl) (hb:fn.body=O (Xr fn):=by rfl) (hn:e.args.length<=fn.ntmps:=by decide) (hlent:L=pj e.args 0:=by rfl):DQ e:=gZ.of (ZG rfl h1 Qk h2 Ql) rfl hlent hf hb hcall hn A (He _ _ _ hA) (hk hF)
abbrev tI:Ty:=.int .i64
abbrev pV(k:Nat)(t:Ty):PE:=.val k t sD
abbrev UE:LR:=⟨5,[cR],[cR],u1 Ve,.ow⟩
def Z3j:okE UE:=TJ Zg Zd func5 call5 sA
def WI:okE ⟨59,[wR],[.bool],u1 dE,.ow⟩:=TJ Zg Zd func59 call59 sA
def X5:okE ⟨60,[wR,wR,wR],[.bool],u3 Z8,.ow⟩:=TJ Zg Zd func60 call60 sA
def CI:okE ⟨31,[cR],[.bool],u1 a9,.ow⟩:=TJ (sO WI X5) Zd func31 call31 sA
def Xu:okE ⟨61,[wR],[.bool],u1 Q0,.ow⟩:=TJ (sN X5) Zd func61 call61 sA
def WZ:okE ⟨32,[wR],[Q7,.bool],u1 ig,.ow⟩:=TJ (sN Xu) Zd func32 call32 sA
def Uu:okE ⟨33,[wR,wR],[Kk,.bool],u2 ii,.ow⟩:=TJ (sN X5) Zd func33 call33 sA
def Zwq:okE ⟨34,[wR],[gg,.bool],u1 JG,.ow⟩:=TJ (sN X5) Zd func34 call34 sA
def Zwo:okE ⟨35,[wR],[Q7,.bool],u1 JF,.ow⟩:=TJ (sN X5) Zd func35 call35 sA
def Zzs:okE ⟨13,[.bool,cR,cR],[Zq,.bool],u3 xq,.ow⟩:=TJ (sR CI WZ Uu Zwq Zwo) Zd func13 call13 sA
def Zln:okE ⟨36,[.str,.int .u8],[.slice 9 (.str)],u2 wi,.ow⟩:=TJ Zg Zd func36 call36 (sI (sF [pV 0 .str,pV 1 (.int .u8),wJ 5 sC,pV 6 .str,pV 7 tI] (λN=>u5 (dA N)) (u5 oK) (λK1=>(sG (.join [pV 0 .str,pV 1 (.int .u8),wJ 5 sC,pV 6 .str,pV 7 tI] (u5 (lN K1)) sA sA))))) ⟨λ_=>rfl,λN=>⟨(λv=>Ab),λv=>Ab⟩⟩
def Zz1:okE ⟨62,[.str],[.str,.str],u1 XV,.ow⟩:=TJ Zg Zd func62 call62 (sG (sF [pV 0 .str,pV 4 tI] (λN=>u2 (mO N)) (u2 nN) (λK1=>sA))) ⟨λ_=>rfl,λN v=>Ab⟩
def XA:okE ⟨63,[wR],[.str],u1 lC,.ow⟩:=TJ (sN X5) Zd func63 call63 sA
def XB:okE ⟨72,[wR],[.str],u1 J5,.ow⟩:=TJ Zg Zd func72 call72 (sJ (.seq (.block (.loop [pV 0 tI,pV 3 .str,pV 4 .bool] (λN=>u3 (aZ N)) (u3 rx) (λK1=>(sG (.block (sG (.join [pV 0 tI,pV 3 .str,pV 4 .bool,pV 5 tI] (u4 (iU K1)) sA sA))))))) sA)) ⟨λ_=>rfl,λN=>⟨(λv=>Ab),λv=>Ab⟩⟩
def Zws:okE ⟨115,[.str],[wR,.bool],u1 oe,.ow⟩:=TJ (sN XB) Zd func115 call115 (sI (.seq (sG (.block (.loop [pV 0 .str,pV 4 tI,pV 5 tI,pV 6 tI] (λN=>u4 (kR N)) (u4 um) (λK1=>(sG (.join [pV 0 .str,pV 4 tI,pV 5 tI,pV 6 tI] (u4 (qf K1)) sA sA)))))) (.join [pV 0 .str,pV 4 tI,pV 5 tI] (u3 aE) sA sA))) ⟨⟨λ_=>rfl,λN=>⟨(λv=>Ab),λv=>Ab⟩⟩,λv=>Ab⟩
def Z3p:okE ⟨64,[.str],[wR],u1 qx,.ow⟩:=TJ (sN Zws) Zd func64 call64 sA
def Zz0:okE ⟨126,[Q8],[Q8],u1 XU,.ow⟩:=TJ Zg Zd func126 call126 (sH (.seq (sG (.block (.join [wA 1 sD,wA 2 sD,wA 3 sD,pV 8 tI,pV 12 .bool] (u5 sq) sA (.cond sA (.join [wA 1 sD,wA 2 sD,wA 3 sD,pV 8 tI,pV 18 .bool] (u5 sr) sA (.cond sA (sG (.cond sA (.join [wA 1 sD,wA 2 sD,wA 3 sD,pV 32 .bool] (u4 mM) sA sA))))))))) sA)) ⟨(λv=>Ab),(λv=>Ab),λv=>Ab⟩
def Zq7:okE ⟨127,[.str],[.bool],u1 zd,.ow⟩:=TJ (sN X5) Zd func127 call127 (sG (sF [pV 0 .str,pV 3 tI] (λN=>u2 (fO N)) (u2 qo) (λK1=>sA))) ⟨λ_=>rfl,λN v=>Ab⟩
def Zlo:okE ⟨128,[.str],[.bool],u1 uL,.ow⟩:=TJ (sN X5) Zd func128 call128 (sG (sF [pV 0 .str,pV 3 tI] (λN=>u2 (cN N)) (u2 mg) (λK1=>sA))) ⟨λ_=>rfl,λN v=>Ab⟩
def Zi0:okE ⟨140,[wR],[.int .u8],u1 nJ,.ow⟩:=TJ Zg Zd func140 call140 sA
def Zt2:okE ⟨152,[.int .u8],[wR],u1 wk,.ow⟩:=TJ (sN Zi0) Zd func152 call152 (sG (sF [pV 0 (.int .u8),pV 3 tI] (λN=>u2 (bb N)) (u2 rI) (λK1=>sA))) ⟨λ_=>rfl,λN v=>Ab⟩
def Zec:okE ⟨83,[.str],[.str,.bool],u1 lz,.ow⟩:=TJ (sN Zt2) Zd func83 call83 (sI (sF [pV 0 .str,wO 4 sC,pV 5 tI] (λN=>u3 (aY N)) (u3 ke) (λK1=>sA))) ⟨λ_=>rfl,λN v=>Ab⟩
def Zix:okE ⟨69,[Q8],[.bool],u1 du,.ow⟩:=TJ (sS XA Zz0 X5 Zq7 Zlo Zec) Zd func69 call69 sA
def Znr:okE ⟨65,[Q8],[.str],u1 cC,.ow⟩:=TJ (sP Zix XA XB) Zd func65 call65 (sI (.seq (sG (.block (.join [wA 1 sD,pV 3 .str,pV 11 tI,pV 12 .bool] (u4 jr) sA (.cond sA (.join [wA 1 sD,pV 3 .str,pV 11 tI,pV 20 .bool] (u4 js) sA (.cond sA (sG (.cond sA (.join [wA 1 sD,pV 3 .str,pV 41 .bool] (u3 dQ) sA sA))))))))) sA)) ⟨(λv=>Ab),(λv=>Ab),λv=>Ab⟩
def Zqy:okE ⟨37,[.str],[Q8,.bool],u1 si,.ow⟩:=TJ (sQ Zz1 XA Z3p Znr) Zd func37 call37 (sI (.seq (sG (.block (.loop [pV 0 .str,wA 2 sD,pV 4 .str,pV 5 .str,wA 6 sD,pV 7 tI] (λN=>u6 (Vu N)) (u6 Z6y) (λK1=>(sG (.join [pV 0 .str,wA 2 sD,pV 4 .str,pV 5 .str,wA 6 sD,pV 7 tI] (u6 (rC K1)) sA sA)))))) (sG (.join [pV 0 .str,wA 2 sD,wA 6 sD] (u3 ak) (sG (.block (.join [pV 0 .str,wA 2 sD,pV 5 .str,wA 6 sD,pV 8 .str,pV 9 .str,pV 32 tI,pV 36 .bool] (u8 rD) sA (.cond sA (.join [pV 0 .str,wA 2 sD,pV 5 .str,wA 6 sD,pV 8 .str,pV 9 .str,pV 32 tI,pV 41 .bool] (u8 rE) sA (.cond sA (sG (.cond sA (.join [pV 0 .str,wA 2 sD,pV 5 .str,wA 6 sD,pV 8 .str,pV 9 .str,pV 54 .bool] (u7 lK) sA sA))))))))) sA)))) ⟨⟨λ_=>rfl,λN=>⟨(λv=>Ab),λv=>Ab⟩⟩,⟨(λv=>Ab),(λv=>Ab),λv=>Ab⟩,λv=>Ab⟩
def Zlj:okE ⟨14,[.str],[.slice 74 Q8,.bool],u1 uK,.ow⟩:=TJ (sO Zln Zqy) Zd func14 call14 (sI (sF [.val 4 (.slice 74 Q8) sC,wJ 5 sC,pV 6 tI] (λN=>u3 (cz N)) (u3 mf) (λK1=>sA))) ⟨λ_=>rfl,λN v=>Ab⟩
def EG:okE ⟨211,[Ku],[Ku],u1 z9,.ow⟩:=TJ Zg Zd func211 call211 sA
def Fc:okE ⟨212,[.slice 150 Zw],[.slice 150 Zw],u1 qy,.ow⟩:=TJ Zg Zd func212 call212 sA
def gz:okE ⟨116,[Zv],[Zv],u1 it,.ow⟩:=TJ (sO EG Fc) Zd func116 call116 sA
def vM:okE ⟨213,[Xi],[Xi],u1 qz,.ow⟩:=TJ Zg Zd func213 call213 sA
def XF:okE ⟨117,[Qh],[Qh],u1 nO,.ow⟩:=TJ (sN vM) Zd func117 call117 sA
def WH:okE ⟨66,[Z1],[Z1],u1 kh,.ow⟩:=TJ (sO gz XF) Zd func66 call66 sA
def Zq4:okE ⟨67,[.slice 100 Yk],[.slice 100 Yk],u1 zb,.ow⟩:=TJ Zg Zd func67 call67 (sH (sF [pV 0 (.slice 100 Yk),wP 3 sC,pV 4 tI] (λN=>u3 (lO N)) (u3 qj) (λK1=>sA))) ⟨λ_=>rfl,λN v=>Ab⟩
def Q3:okE ⟨38,[Zq],[Zq],u1 Qf,.ow⟩:=TJ (sO WH Zq4) Zd func38 call38 (sI (sF [pY 1 sD,pY 2 sC,pY 3 (sE (sE (sE (.p sC sD)))),pV 4 tI] (λN=>u4 (sl N)) (u4 wj) (λK1=>sA))) ⟨λ_=>rfl,λN v=>Ab⟩
def XD:okE ⟨337,[Ku],[.bool],u1 cE,.ow⟩:=TJ (sO WI X5) Zd func337 call337 (sH (sF [wC 1 sD,pV 3 tI] (λN=>u2 (lE N)) (u2 aT) (λK1=>sA))) ⟨λ_=>rfl,λN v=>Ab⟩
def jF:okE ⟨343,[Zw],[.bool],u1 VH,.ow⟩:=TJ Zg Zd func343 call343 sA
def kH:okE ⟨338,[.slice 150 Zw],[.bool],u1 V9,.ow⟩:=TJ (sN jF) Zd func338 call338 (sG (sF [pV 0 (.slice 150 Zw),pV 3 tI] (λN=>u2 (cD N)) (u2 eY) (λK1=>sA))) ⟨λ_=>rfl,λN v=>Ab⟩
def kG:okE ⟨224,[.slice 150 Zw,Zw],[.slice 150 Zw],u2 cW,.ow⟩:=TJ (sP kH jF Fc) Zd func224 call224 (sJ (sF [pV 0 (.slice 150 Zw),wI 3 sD,wB 5 sC,pV 6 .bool,pV 7 tI] (λN=>u5 (K7 N)) (u5 lV) (λK1=>(sG (.join [pV 0 (.slice 150 Zw),wI 3 sD,wB 5 sC,pV 6 .bool,pV 7 tI] (u5 (cw K1)) (.block (.block (sG (.cond sA (sG (.cond (.join [pV 0 (.slice 150 Zw),wI 3 sD,wB 5 sC,pV 6 .bool,pV 7 tI] (u5 (qa K1)) sA sA) sA)))))) sA))))) ⟨λ_=>rfl,λN=>⟨(λv=>Ab),λv=>Ab,λv=>Ab⟩⟩
def Zli:okE ⟨339,[.slice 150 Zw],[wR],u1 aX,.ow⟩:=TJ (sN kH) Zd func339 call339 (sI (sF [pV 0 (.slice 150 Zw),pV 3 tI,pV 4 tI] (λN=>u3 (Vh N)) (u3 eE) (λK1=>sA))) ⟨λ_=>rfl,λN v=>Ab⟩
def Zgi:okE ⟨340,[.slice 150 Zw,wR],[wR],u2 oa,.ow⟩:=TJ (sN kH) Zd func340 call340 (sH (sF [pV 0 (.slice 150 Zw),pV 1 tI,pV 5 tI] (λN=>u3 (aA N)) (u3 uk) (λK1=>(sG (.join [pV 0 (.slice 150 Zw),pV 1 tI,pV 5 tI] (u3 (qe K1)) sA sA))))) ⟨λ_=>rfl,λN=>⟨(λv=>Ab),λv=>Ab⟩⟩
def yZ:okE ⟨341,[Zv],[wR],u1 dF,.ow⟩:=TJ Zg Zd func341 call341 sA
def ay:okE ⟨222,[Zv],[.bool],u1 Km,.ow⟩:=TJ (sU XD kH X5 Xu kG Zli Zgi yZ) Zd func222 call222 (sJ (.seq (sG (.block (.loop [pZ 1 sD,pV 3 (.slice 150 Zw),pV 4 tI] (λN=>u3 (fG N)) (u3 Jr) (λK1=>sA)))) (.seq (sG (.block (.loop [pZ 1 sD,pV 3 (.slice 150 Zw),pV 5 tI] (λN=>u3 (fH N)) (u3 eZ) (λK2=>sA)))) (sH (.seq (sG (.block (.loop [pZ 1 sD,pV 7 tI] (λN=>u2 (fI N)) (u2 lY) (λK3=>sA)))) (sF [pZ 1 sD,pV 8 tI] (λN=>u2 (fJ N)) (u2 lZ) (λK4=>sA))))))) ⟨⟨λ_=>rfl,λN v=>Ab⟩,⟨λ_=>rfl,λN v=>Ab⟩,⟨λ_=>rfl,λN v=>Ab⟩,λ_=>rfl,λN v=>Ab⟩
def ct:okE ⟨119,[Q7],[.bool],u1 J9,.ow⟩:=TJ (sO Xu X5) Zd func119 call119 sA
def po:okE ⟨344,[Xi],[.bool],u1 kq,.ow⟩:=TJ (sN Xu) Zd func344 call344 (sH (sF [wD 1 sD,pV 3 tI,pV 4 tI] (λN=>u3 (kP N)) (u3 ul) (λK1=>sA))) ⟨λ_=>rfl,λN v=>Ab⟩
def Z5d:okE ⟨345,[Xi],[wR],u1 we,.ow⟩:=TJ (sN po) Zd func345 call345 sA
def zy:okE ⟨346,[Xi],[wR],u1 ee,.ow⟩:=TJ (sN po) Zd func346 call346 sA
def fu:okE ⟨225,[Qh],[.bool],u1 Yj,.ow⟩:=TJ (sQ po Xu Z5d zy) Zd func225 call225 (sI (.seq (sG (.block (sG (.cond sA (sG (.cond sA (sG (.cond sA (sG (.cond sA (.join [wG 1 sD,pV 114 .bool] (u2 Kt) sA sA))))))))))) sA)) (λv=>Ab)
def pq:okE ⟨120,[Kk],[.bool],u1 bp,.ow⟩:=TJ (sN X5) Zd func120 call120 sA
def zx:okE ⟨229,[Y6],[.bool],u1 bF,.ow⟩:=TJ (sN X5) Zd func229 call229 sA
def Zgj:okE ⟨214,[Z1],[.bool],u1 f7,.ow⟩:=TJ (sS Xu ay ct fu pq zx) Zd func214 call214 sA
def zu:okE ⟨118,[.slice 96 Z1],[.bool],u1 Jy,.ow⟩:=TJ (sN Zgj) Zd func118 call118 (sG (sF [pV 0 (.slice 96 Z1),pV 3 tI] (λN=>u2 (Ks N)) (u2 cx) (λK1=>sA))) ⟨λ_=>rfl,λN v=>Ab⟩
def WG:okE ⟨121,[gg],[.bool],u1 fZ,.ow⟩:=TJ (sN X5) Zd func121 call121 sA
def yX:okE ⟨122,[Q7],[.bool],u1 aB,.ow⟩:=TJ (sN X5) Zd func122 call122 sA
def Zwn:okE ⟨332,[wR],[.str],u1 yz,.ow⟩:=TJ Zg Zd func332 call332 sA
def uf:okE ⟨245,[Zt],[.bool],u1 Vr,.ow⟩:=TJ Zg Zd func245 call245 (sG (.seq (sG (.block (.join [pV 5 .bool] (u1 Kv) sA sA))) sA)) (λv=>Ab)
def Z3q:okE ⟨333,[Zt],[Zt],u1 VI,.ow⟩:=TJ (sN uf) Zd func333 call333 (sH (.join [tY 1 sD,tY 2 sD,tY 3 sD] (u3 XW) sA (.seq (sG (.block (sG (.cond sA (sG (.cond sA (sG (.cond sA (.join [tY 1 sD,tY 2 sD,tY 3 sD,pV 41 .bool] (u4 XX) sA sA))))))))) sA))) ⟨(λv=>Ab),λv=>Ab⟩
def dZ:okE ⟨215,[Zt],[.bool],u1 aC,.ow⟩:=TJ (sP Zwn Z3q Xu) Zd func215 call215 (sH (.seq (sG (.block (sG (.cond sA (.join [tY 1 sD,pV 60 .bool] (u2 y6) sA sA))))) sA)) (λv=>Ab)
def Zt1:okE ⟨123,[.slice 154 Zt],[.bool],u1 ir,.ow⟩:=TJ (sN dZ) Zd func123 call123 (sG (sF [pV 0 (.slice 154 Zt),pV 3 tI] (λN=>u2 (Wt N)) (u2 Vv) (λK1=>sA))) ⟨λ_=>rfl,λN v=>Ab⟩
def Ztx:okE ⟨124,[.slice 96 Z1],[wR],u1 io,.ow⟩:=TJ (sN zu) Zd func124 call124 (sH (sF [pV 0 (.slice 96 Z1),pV 3 tI,pV 4 tI] (λN=>u3 (Vb N)) (u3 Je) (λK1=>sA))) ⟨λ_=>rfl,λN v=>Ab⟩
def Ztv:okE ⟨125,[.slice 96 Z1],[wR],u1 ij,.ow⟩:=TJ (sN zu) Zd func125 call125 (sH (sF [pV 0 (.slice 96 Z1),pV 3 tI,pV 4 tI] (λN=>u3 (Va N)) (u3 Jd) (λK1=>sA))) ⟨λ_=>rfl,λN v=>Ab⟩
def aa:okE ⟨68,[Zq],[.bool],u1 Ky,.ow⟩:=TJ (sW CI zu ct pq WG yX X5 Zt1 Ztx Ztv) Zd func68 call68 (sH (sF [pY 1 sD,pV 3 tI] (λN=>u2 (dr N)) (u2 Wg) (λK1=>sA))) ⟨λ_=>rfl,λN v=>Ab⟩
def KE:okE ⟨70,[Zq],[.bool],u1 oc,.ow⟩:=TJ Zg Zd func70 call70 sA
def Jx:okE ⟨129,[Zq],[.bool],u1 Ka,.ow⟩:=TJ (sO aa KE) Zd func129 call129 sA
def Zwr:okE ⟨130,[gg],[wR,gg,.bool],u1 tf,.ow⟩:=TJ (sN WG) Zd func130 call130 sA
def Z3m:okE ⟨131,[wR,.bool,.bool],[wR],u3 qw,.ow⟩:=TJ (sN X5) Zd func131 call131 (sI (.join [pV 2 .bool,pV 7 tI] (u2 lG) sA sA)) (λv=>Ab)
def Zeg:okE ⟨216,[],[Y6],λ_=>cA,.ow⟩:=TJ Zg Zd func216 call216 sA
def Znw:okE ⟨217,[],[Qh],λ_=>xr,.ow⟩:=TJ Zg Zd func217 call217 sA
def yY:okE ⟨334,[wR],[.bool],u1 aD,.ow⟩:=TJ (sN Xu) Zd func334 call334 sA
def Zqt:okE ⟨441,[wR],[.bool],u1 sg,.ow⟩:=TJ (sN Xu) Zd func441 call441 sA
def JD:okE ⟨335,[.bool,wR],[.bool],u2 jd,.ow⟩:=TJ (sO Xu Zqt) Zd func335 call335 sA
def QZ:okE ⟨218,[.bool,wR],[.bool],u2 V4,.ow⟩:=TJ (sP Xu yY JD) Zd func218 call218 sA
def nl:okE ⟨219,[.bool,wR],[.bool],u2 Y9,.ow⟩:=TJ (sP Xu yY JD) Zd func219 call219 sA
def Zzt:okE ⟨336,[wR],[Ku,.bool],u1 BK,.ow⟩:=TJ (sN WI) Zd func336 call336 sA
def Ztr:okE ⟨220,[wR],[Zv,.bool],u1 lJ,.ow⟩:=TJ (sN Zzt) Zd func220 call220 sA
def Zef:okE ⟨132,[.bool,wR,cR,cR],[Z1,.bool],u4 bq,.ow⟩:=TJ (sV Xu CI Zeg Znw QZ nl Ztr WZ Uu) Zd func132 call132 sA
def zw:okE ⟨221,[.slice 96 Z1,wR],[wR],u2 Kc,.ow⟩:=TJ Zg Zd func221 call221 (sG (sF [pV 0 (.slice 96 Z1),pV 1 tI,pV 5 tI] (λN=>u3 (Kd N)) (u3 Kx) (λK1=>sA))) ⟨λ_=>rfl,λN v=>Ab⟩
def Ko:okE ⟨133,[.slice 96 Z1,Z1],[.slice 96 Z1],u2 Xe,.ow⟩:=TJ (sO zw WH) Zd func133 call133 (sJ (sF [pV 0 (.slice 96 Z1),wE 3 sD,wQ 5 sC,pV 6 tI,pV 7 .bool,pV 8 tI] (λN=>u6 (Ys N)) (u6 aF) (λK1=>(sG (.seq (.block (sG (.join [pV 0 (.slice 96 Z1),wE 3 sD,wQ 5 sC,pV 6 tI,pV 7 .bool,pV 8 tI,wE 9 sC] (u7 (Jc K1)) sA sA))) sA))))) ⟨λ_=>rfl,λN=>⟨(λv=>Ab),λv=>Ab⟩⟩
def Zqx:okE ⟨71,[Zq,.bool],[wR,Zq,.bool],u2 ed,.ow⟩:=TJ (sS Q3 Jx Zwr Z3m Zef Ko) Zd func71 call71 (sJ (.join [pV 1 .bool,pY 2 sD,pY 5 sC,pY 7 sC,.box 8 32 gg sD] (u5 Vs) sA (sG (.join [pV 1 .bool,pY 2 sD,pY 5 sC,pY 7 (sE (sE (sE (.p sC (sE (sE (sE (sE sC)))))))),pV 9 tI,pV 11 .bool] (u6 Vt) sA sA)))) ⟨(λv=>Ab),λv=>Ab⟩
def Yf:okE ⟨134,[Zq,wR],[Z1,.bool],u2 Xy,.ow⟩:=TJ (sO zw WH) Zd func134 call134 sA
def Z3n:okE ⟨342,[Ku],[wR],u1 wh,.ow⟩:=TJ (sN XD) Zd func342 call342 sA
def Zt0:okE ⟨223,[Ku,.str],[Ku,wR],u2 ip,.ow⟩:=TJ (sO EG Z3n) Zd func223 call223 (sI (sF [pV 1 .str,wC 2 sD,wC 4 sC,wC 6 sC,pV 7 tI,pV 8 tI] (λN=>u6 (Jf N)) (u6 kg) (λK1=>sA))) ⟨λ_=>rfl,λN v=>Ab⟩
def Zn1:okE ⟨135,[Zv,.str],[Zv,wR],u2 cL,.ow⟩:=TJ (sQ gz ay Zt0 kG) Zd func135 call135 (sJ (.join [pZ 4 sC,pZ 6 (sE sC),wC 7 sC,pV 8 tI] (u4 jw) sA sA)) (λv=>Ab)
def Zn2:okE ⟨73,[Zq,wR,.str],[wR,Zq],u3 cM,.ow⟩:=TJ (sR Q3 Yf Jx Zn1 Ko) Zd func73 call73 sA
def Znn:okE ⟨136,[Zv],[Zv,.bool],u1 kK,.ow⟩:=TJ (sO gz ay) Zd func136 call136 sA
def Zlk:okE ⟨74,[Zq,wR],[Zq,.bool],u2 iT,.ow⟩:=TJ (sR Q3 Yf Jx Znn Ko) Zd func74 call74 sA
def Zty:okE ⟨226,[Xi,wR],[.str,Xi],u2 qi,.ow⟩:=TJ (sO zy vM) Zd func226 call226 sA
def Zll:DQ ⟨137,[.sh Qh,.sh wR],.flg [(.str,sC),(Qh,sD)],u2 ba⟩:=Gv [] (sP XF fu Zty) Zd func137 call137 (sH (.seq (sG (.cond (sG (.frz [(5,.u .sh)])) sA)) (.seq (sG (.cond (sH (.frz [(5,.u .sh)])) sA)) (sG (.seq (.frz [(8,.u .sh)]) (.join [wG 5 sC,wG 6 sD,pV 7 .str] (u3 cJ) sA sA)))))) (λv=>Ab)
def Ztt:okE ⟨227,[Kk,wR],[Kk,.bool],u2 lL,.ow⟩:=TJ (sN pq) Zd func227 call227 sA
def Ziz:DQ ⟨138,[.bx 37 Zq sD,.bx 96 Z1 sD,.sh wR],.vals [],u3 rH⟩:=Gv [0,1] (sN Ztt) Zd func138 call138 sA
def Zqs:okE ⟨442,[Z1],[.bool],u1 y7,.ow⟩:=TJ Zg Zd func442 call442 sA
def Zqq:okE ⟨492,[Qh],[.bool],u1 sd,.ow⟩:=TJ (sN fu) Zd func492 call492 sA
def Zqr:okE ⟨443,[Z1],[.bool],u1 se,.ow⟩:=TJ (sN Zqq) Zd func443 call443 sA
def Z3l:okE ⟨347,[Z1],[.bool],u1 wg,.ow⟩:=TJ (sP Zgj Zqs Zqr) Zd func347 call347 sA
def Zwl:okE ⟨348,[Q7],[Q7,.bool],u1 fX,.ow⟩:=TJ (sN yX) Zd func348 call348 sA
def Zzw:DQ ⟨228,[.bx 37 Zq sD,.bx 96 Z1 sD],.vals [],u2 XT⟩:=Gv [0,1] (sQ JD Z3l yY Zwl) Zd func228 call228 sA
def mu:DQ ⟨139,[.bx 37 Zq sD,.sh Z1],.vals [],u2 bG⟩:=Gv [0] (sN Ko) (Q5 Zzw Zd) func139 call139 sA
def Zq1:DQ ⟨75,[.sh Zq,.sh wR,.sh wR],.flg [(.str,sC),(.bool,sC),(Zq,sD)],u3 mH⟩:=Gv [] (sP Q3 Yf Jx) (Q5 Zll (Q5 Ziz (Q5 mu Zd))) func75 call75 (sI (.seq (sG (.cond (sG (.frz [(8,.u .sh)])) sA)) (.seq (.frz [(10,.u .sh)]) (sG (.join [pY 8 sC,pY 9 (.p sC (.p (.p sC (.p sC (.p sC (.p sC (.p sC (.p sC (.p sC (.p sC sC)))))))) (.p (.p sC (.p sC (.p sC (.p sC (.p sC (.p sC (.p sC (.p sC sC)))))))) (sE (.p (.p sC (.p sC (.p sC (.p sC sC)))) (.p (.p sC (.p sC (.p sC (.p sC (.p sC (.p sC sC)))))) (.p (.p sC (.p sC (.p sC sC))) (.p (.p sC (.p sC (.p sC sC))) (.p (.p sC (.p sC (.p sC (.p sC sC)))) (.p (.p sC (.p sC (.p sC (.p sC sC)))) (.p sC (.p sC (.p sC (.p sC (.p sC (sE (.p sC (.p sC sC)))))))))))))))))),wE 10 sD,pV 12 .str,wG 13 sD] (u5 bZ) (sG (.cond (.frz [(9,.u .sh)]) sA)) sA))))) (λv=>Ab)
def Zto:okE ⟨76,[.str],[.str],u1 qd,.ow⟩:=TJ (sN Zi0) Zd func76 call76 (sH (sF [pV 0 .str,wO 3 sC,pV 4 tI] (λN=>u3 (nF N)) (u3 ru) (λK1=>sA))) ⟨λ_=>rfl,λN v=>Ab⟩
def Zee:okE ⟨141,[Zv,wR],[Zv,.bool],u2 cK,.ow⟩:=TJ (sP ay Xu gz) Zd func141 call141 (sH (.join [pV 1 tI,pZ 2 sD,pZ 4 sC,wC 6 (sE (sE (sE (.p sC sD))))] (u4 xV) sA sA)) (λv=>Ab)
def Znz:DQ ⟨77,[.sh Zq,.sh wR,.sh wR],.flg [(Zq,sD),(.bool,sC)],u3 kU⟩:=Gv [] (sQ Q3 Yf Jx Zee) (Q5 mu Zd) func77 call77 (sI (.seq (sG (.cond (sG (.frz [(6,.u .sh)])) sA)) (sG (.seq (sG (.cond (sG (.frz [(6,.u .sh)])) sA)) (sH (.seq (.frz [(8,.u .sh),(9,.u .sh)]) sA))))))
def Zq3:okE ⟨78,[Zq,wR,wR],[Zq,.bool],u3 mJ,.ow⟩:=TJ (sR Q3 Yf Jx Xu Ko) Zd func78 call78 sA
def Zzu:okE ⟨230,[.str],[.str],u1 xu,.ow⟩:=TJ Zg Zd func230 call230 (sG (.seq (.block (.loop [pV 0 .str] (λN=>u1 (ef N)) (u1 nH) (λK1=>sA))) (.seq (.block (.loop [pV 0 .str] (λN=>u1 (jh N)) (u1 iq) (λK2=>sA))) sA))) ⟨⟨λ_=>rfl,λN v=>Ab⟩,λ_=>rfl,λN v=>Ab⟩
def Zjs:okE ⟨142,[Y6,.str],[Y6],u2 fK,.ow⟩:=TJ (sQ zx Zeg Zln Zzu) Zd func142 call142 (sG (.join [pV 1 .str,wK 2 sD,wK 4 sD] (u3 Wo) sA (sG (sF [wK 2 sD,wK 4 sD,wJ 5 sC,pV 6 tI] (λN=>u4 (Yq N)) (u4 lH) (λK1=>(sG (.join [wK 2 sD,wK 4 sD,wJ 5 sC,pV 6 tI] (u4 (Js K1)) sA sA))))))) ⟨(λv=>Ab),λ_=>rfl,λN=>⟨(λv=>Ab),λv=>Ab⟩⟩
def Zn0:okE ⟨79,[Zq,wR,.str],[Zq,.bool],u3 kV,.ow⟩:=TJ (sR Q3 Yf Jx Zjs Ko) Zd func79 call79 sA
def XE:okE ⟨349,[Kk],[.bool],u1 dx,.ow⟩:=TJ (sN pq) Zd func349 call349 sA
def Zog:okE ⟨350,[Kk,wR,wR],[Kk,.bool],u3 cI,.ow⟩:=TJ (sO XE X5) Zd func350 call350 (sH (.join [pV 1 tI,.box 3 30 Kk sD,.box 6 30 Kk sD] (u3 oI) sA sA)) (λv=>Ab)
def Zgo:okE ⟨231,[Zq],[Kk,.bool],u1 tk,.ow⟩:=TJ (sO XE Zog) Zd func231 call231 sA
def Zed:okE ⟨351,[Q7],[.bool],u1 ie,.ow⟩:=TJ (sN yX) Zd func351 call351 sA
def Zqz:okE ⟨352,[Q7],[Q7,.bool],u1 je,.ow⟩:=TJ (sN Zed) Zd func352 call352 sA
def Zgn:okE ⟨232,[Q7,.bool],[Q7,.bool],u2 gf,.ow⟩:=TJ (sO Zed Zqz) Zd func232 call232 sA
def Zeh:okE ⟨353,[Zq,Z1],[Kk,.bool],u2 qn,.ow⟩:=TJ (sO XE Zog) Zd func353 call353 sA
def Zgk:okE ⟨234,[Q7],[.bool],u1 yA,.ow⟩:=TJ (sN ct) Zd func234 call234 sA
def Zt3:okE ⟨233,[Zq,Z1],[.slice 154 Zt],u2 ql,.ow⟩:=TJ (sO Zeh Zgk) Zd func233 call233 (sH (.join [pY 2 sD,wE 3 sD,tZ 5 sC] (u3 dB) sA (.join [pY 2 sD,wE 3 sD,tZ 5 sC] (u3 dC) sA (sG (.join [wE 3 sD,tZ 5 sC] (u2 nL) sA sA))))) ⟨(λv=>Ab),(λv=>Ab),λv=>Ab⟩
def Zjo:okE ⟨143,[Zq],[.slice 154 Zt],u1 fC,.ow⟩:=TJ (sR Jx Zgo Zgn Zt3 Zgk) Zd func143 call143 (sJ (.join [pY 1 sD,tZ 3 sC] (u2 Wj) sA (sG (.join [pY 1 sD,tZ 3 sC] (u2 Wk) sA (sG (.join [pY 1 sD,tZ 3 sC] (u2 Wl) sA (.seq (sG (.block (.loop [pY 1 sD,tZ 3 sC,pV 10 tI] (λN=>u3 (Wm N)) (u3 dn) (λK1=>sA)))) (.join [pY 1 sD,tZ 3 sC] (u2 eW) sA (.join [pY 1 sD,tZ 3 sC] (u2 eX) sA sA))))))))) ⟨(λv=>Ab),(λv=>Ab),(λv=>Ab),⟨λ_=>rfl,λN v=>Ab⟩,(λv=>Ab),λv=>Ab⟩
def Zgm:okE ⟨444,[wR],[wR],u1 kr,.ow⟩:=TJ Zg Zd func444 call444 sA
def Znp:okE ⟨517,[wR,wR],[.str],u2 qc,.ow⟩:=TJ (sN X5) Zd func517 call517 (sI (sF [pV 0 tI,pV 1 tI,pV 5 .str,pV 6 tI] (λN=>u4 (Yy N)) (u4 Qc3) (λK1=>sA))) ⟨λ_=>rfl,λN v=>Ab⟩
def Ft:okE ⟨493,[wR],[.str],u1 eh,.ow⟩:=TJ (sN Znp) Zd func493 call493 sA
def Zqm:okE ⟨445,[wR],[.str],u1 V5,.ow⟩:=TJ (sO Zgm Ft) Zd func445 call445 (sI (sF [pV 0 tI,pV 3 tI,pV 4 .str,pV 5 tI] (λN=>u4 (Qs N)) (u4 J4) (λK1=>(sG (.seq (.block (sG (.join [pV 0 tI,pV 3 tI,pV 4 .str,pV 5 tI,pV 6 tI] (u5 (Yv K1)) sA sA))) sA))))) ⟨λ_=>rfl,λN=>⟨(λv=>Ab),λv=>Ab⟩⟩
def Znq:okE ⟨354,[.slice 3 wR],[.str],u1 Xt,.ow⟩:=TJ (sO Zgm Zqm) Zd func354 call354 (sH (sF [pV 0 (.slice 3 wR),pV 3 .str,pV 4 tI] (λN=>u3 (Jv N)) (u3 fY) (λK1=>sA))) ⟨λ_=>rfl,λN v=>Ab⟩
def Qrv:okE ⟨235,[Zt],[.str],u1 az,.ow⟩:=TJ (sO dZ Znq) Zd func235 call235 (sH (.seq (sG (.block (sG (.cond sA (sG (.cond sA (sG (.cond (sG (.join [tY 1 sD,pV 3 tI] (u2 We) sA sA)) (.join [tY 1 sD,pV 9 tI,pV 62 .bool] (u3 Xd) sA (.cond sA (.join [tY 1 sD,pV 71 .bool] (u2 Yz) sA sA))))))))))) (sG (.join [tY 1 sD,pV 4 tI] (u2 Wf) sA sA)))) ⟨⟨λv=>Ab,(λv=>Ab),λv=>Ab⟩,λv=>Ab⟩
def XC:okE ⟨144,[Zt],[wR],u1 lD,.ow⟩:=TJ (sN Qrv) Zd func144 call144 sA
def Qrk:okE ⟨236,[Q7],[Q7],u1 iR,.ow⟩:=TJ (sN ct) Zd func236 call236 sA
def Zzx:DQ ⟨237,[.sh Zq,.sh Z1,.sh wR],.shr [Z1],u3 U5⟩:=Gv [] (sO Zeh Qrk) Zd func237 call237 sA
def Znv:okE ⟨145,[Zq,Zt],[Zq],u2 xp,.ow⟩:=TJ (sT Q3 aa Zgo Zgn Qrk Yf Ko) (Q5 Zzx Zd) func145 call145 (sI (.seq (sG (.block (sG (.cond sA (sG (.cond sA (sG (.cond sA (sG (.cond sA (sH (.cond (.frz [(12,.u .sh)]) sA)))))))))))) sA))
def Zq5:okE ⟨238,[Zq],[.slice 281 Qm],u1 zc,.ow⟩:=TJ Zg Zd func238 call238 (sH (sF [pY 1 sD,wL 3 sC,pV 4 tI] (λN=>u3 (fM N)) (u3 qm) (λK1=>(sG (.join [pY 1 sD,wL 3 sC,pV 4 tI] (u3 (rJ K1)) sA sA))))) ⟨λ_=>rfl,λN=>⟨(λv=>Ab),λv=>Ab⟩⟩
def Zq6:okE ⟨239,[.slice 281 Qm,wR],[.slice 281 Qm],u2 mK,.ow⟩:=TJ Zg Zd func239 call239 (sH (sF [pV 0 (.slice 281 Qm),pV 1 tI,wL 5 sC,pV 6 tI] (λN=>u4 (Vw N)) (u4 iZ) (λK1=>(sG (.join [pV 0 (.slice 281 Qm),pV 1 tI,wL 5 sC,pV 6 tI] (u4 (fN K1)) sA sA))))) ⟨λ_=>rfl,λN=>⟨(λv=>Ab),λv=>Ab⟩⟩
def Zjn:okE ⟨446,[.slice 281 Qm],[.bool],u1 rq,.ow⟩:=TJ (sO Xu zx) Zd func446 call446 (sG (sF [pV 0 (.slice 281 Qm),pV 3 tI] (λN=>u2 (bg N)) (u2 dl) (λK1=>sA))) ⟨λ_=>rfl,λN v=>Ab⟩
def Zqv:okE ⟨355,[.slice 281 Qm],[.slice 3 wR],u1 y8,.ow⟩:=TJ (sN Zjn) Zd func355 call355 (sI (sF [pV 0 (.slice 281 Qm),wH 3 sC,pV 4 tI,pV 5 tI] (λN=>u4 (ai N)) (u4 cH) (λK1=>(sG (.join [pV 0 (.slice 281 Qm),wH 3 sC,pV 4 tI,pV 5 tI] (u4 (rz K1)) (.block (.join [pV 0 (.slice 281 Qm),wH 3 sC,pV 4 tI,pV 5 tI] (u4 (rA K1)) sA sA)) sA))))) ⟨λ_=>rfl,λN=>⟨(λv=>Ab),λv=>Ab,λv=>Ab⟩⟩
def Zwy:okE ⟨356,[.slice 3 wR,wR],[wR],u2 JI,.ow⟩:=TJ Zg Zd func356 call356 (sG (sF [pV 0 (.slice 3 wR),pV 1 tI,pV 5 tI] (λN=>u3 (kW N)) (u3 l8) (λK1=>sA))) ⟨λ_=>rfl,λN v=>Ab⟩
def Zqw:okE ⟨240,[.slice 281 Qm,wR],[wR],u2 y9,.ow⟩:=TJ (sO Zqv Zwy) Zd func240 call240 (sI (sF [pV 0 (.slice 281 Qm),pV 1 tI,wH 5 sC,wH 6 sC,pV 7 tI] (λN=>u5 (bX N)) (u5 iW) (λK1=>(sG (.seq (.block (sG (.block (.loop [pV 0 (.slice 281 Qm),pV 1 tI,wH 5 sC,wH 6 sC,pV 7 tI,pV 8 tI] (λN=>u6 (bY K1 N)) (u6 iX) (λK2=>(sG (.join [pV 0 (.slice 281 Qm),pV 1 tI,wH 5 sC,wH 6 sC,pV 7 tI,pV 8 tI] (u6 (rB K1 K2)) sA sA))))))) sA))))) ⟨λ_=>rfl,λN=>⟨(λv=>Ab),λ_=>rfl,λN=>⟨(λv=>Ab),λv=>Ab⟩⟩⟩
def Zqk:okE ⟨357,[Q7],[wR],u1 sb,.ow⟩:=TJ (sN ct) Zd func357 call357 sA
def Zwu:okE ⟨447,[Ku,wR,wR],[.str,.bool],u3 tj,.ow⟩:=TJ (sO XD Ft) Zd func447 call447 (sI (sF [pV 1 tI,pV 2 tI,wC 3 sD,pV 8 .str,pV 9 tI] (λN=>u5 (qg N)) (u5 uo) (λK1=>sA))) ⟨λ_=>rfl,λN v=>Ab⟩
def Zts:okE ⟨358,[Zv,wR,wR],[Y1,.bool],u3 XP,.ow⟩:=TJ (sO ay Zwu) Zd func358 call358 (sI (.seq (sG (.cond (sI (.join [pZ 3 sD,wF 6 sD,wF 8 sD,wI 9 sD,pV 10 tI] (u5 nG) sA sA)) sA)) sA)) (λv=>Ab)
def Zcg:okE ⟨244,[wR,Y1],[Zt],u2 sj,.ow⟩:=TJ Zg Zd func244 call244 sA
def Zwv:okE ⟨241,[Zq,wR,wR],[Y1,.bool],u3 JH,.ow⟩:=TJ (sS Yf aa Zqk Zts Zcg XC) Zd func241 call241 (sJ (sF [pV 1 tI,pV 2 tI,wF 6 sD,wE 8 sC,pV 10 tI,pV 11 tI] (λN=>u6 (kS N)) (u6 uq) (λK1=>sA))) ⟨λ_=>rfl,λN v=>Ab⟩
def Znx:okE ⟨359,[Q7],[Q7],u1 kQ,.ow⟩:=TJ (sN ct) Zd func359 call359 sA
def Zw0:DQ ⟨242,[.bx 37 Zq sC,.sh wR],.vals [],u2 JJ⟩:=Gv [0] (sP Yf Znx Ko) Zd func242 call242 sA
def WJ:okE ⟨362,[Zv,Y1],[.bool],u2 xy,.ow⟩:=TJ Zg Zd func362 call362 sA
def WK:okE ⟨364,[Y1],[Zw],u1 ki,.ow⟩:=TJ Zg Zd func364 call364 sA
def vu:okE ⟨363,[.slice 150 Zw,.slice 150 Zw],[.slice 150 Zw],u2 dm,.ow⟩:=TJ (sN kH) Zd func363 call363 (sH (sF [pV 0 (.slice 150 Zw),pV 1 (.slice 150 Zw),wB 5 sC,pV 6 tI] (λN=>u4 (af N)) (u4 eB) (λK1=>(sG (.seq (.block (sG (.block (.loop [pV 0 (.slice 150 Zw),pV 1 (.slice 150 Zw),wB 5 sC,pV 6 tI,pV 7 tI] (λN=>u5 (cy K1 N)) (u5 eD) (λK2=>(sG (.join [pV 0 (.slice 150 Zw),pV 1 (.slice 150 Zw),wB 5 sC,pV 6 tI,pV 7 tI] (u5 (nE K1 K2)) (.block (.join [pV 0 (.slice 150 Zw),pV 1 (.slice 150 Zw),wB 5 sC,pV 6 tI,pV 7 tI,wI 8 sD] (u6 (wd K1 K2)) sA sA)) sA))))))) sA))))) ⟨λ_=>rfl,λN=>⟨(λv=>Ab),λ_=>rfl,λN=>⟨(λv=>Ab),λv=>Ab,λv=>Ab⟩⟩⟩
def xO:okE ⟨365,[.slice 150 Zw,Zw],[.slice 150 Zw],u2 kT,.ow⟩:=TJ (sP kH jF Fc) Zd func365 call365 (sI (sF [pV 0 (.slice 150 Zw),wI 3 sD,wB 5 sC,pV 6 tI] (λN=>u4 (Wh N)) (u4 ge) (λK1=>(sG (.join [pV 0 (.slice 150 Zw),wI 3 sD,wB 5 sC,pV 6 tI] (u4 (oJ K1)) (.block (.join [pV 0 (.slice 150 Zw),wI 3 sD,wB 5 sC,pV 6 tI] (u4 (jv K1)) sA sA)) sA))))) ⟨λ_=>rfl,λN=>⟨(λv=>Ab),λv=>Ab,λv=>Ab⟩⟩
def Ztw:okE ⟨360,[Zv,Y1],[Zv,.bool],u2 qh,.ow⟩:=TJ (sU gz ay WJ WK vu xO kG yZ) Zd func360 call360 (sI (.join [wF 3 sD,pZ 4 sC,pZ 6 (sE (.p sC (.p sC (.p sC (.p sC sD)))))] (u3 dz) sA (.join [pZ 4 sC,pZ 6 (sE (.p sC (.p sC (.p sC (.p sC sD)))))] (u2 iY) sA sA))) ⟨(λv=>Ab),λv=>Ab⟩
def Ztz:okE ⟨361,[Q7,wR],[Q7,.bool],u2 lM,.ow⟩:=TJ (sN ct) Zd func361 call361 sA
def Ztq:okE ⟨243,[Zq,wR,Y1],[Zq,.bool],u3 XO,.ow⟩:=TJ (sS Q3 Yf aa Ztw Ztz Ko) Zd func243 call243 sA
def Zzy:DQ ⟨146,[.bx 37 Zq sC,.mv (.slice 154 Zt) sC,.sh wR],.vals [.slice 154 Zt],u3 Bv⟩:=Gv [0] (sT Zq5 Zq6 Zqw Zwv Ztq Zcg XC) (Q5 Zw0 Zd) func146 call146 (sH (sF [pY 0 sC,tZ 1 sC,pV 2 tI,wH 7 sC,pV 8 tI] (λN=>u5 (ji N)) (u5 wl) (λK1=>(sG (.join [pY 0 sC,tZ 1 sC,pV 2 tI,wH 7 sC,pV 8 tI] (u5 (sm K1)) (.block (sG (.seq (sG (.block (.loop [pY 0 sC,tZ 1 sC,pV 2 tI,wH 7 sC,pV 8 tI,wL 9 sC,pV 10 tI] (λN=>u7 (sn K1 N)) (u7 wm) (λK2=>sA)))) (sJ (.join [pY 0 sC,tZ 1 sC,pV 2 tI,wH 7 sC,pV 8 tI,pV 11 tI,wF 12 sD,pY 14 sC,pV 15 .bool] (u9 (WM K1)) sA sA))))) sA))))) ⟨λ_=>rfl,λN=>⟨(λv=>Ab),⟨⟨λ_=>rfl,λN v=>Ab⟩,λv=>Ab⟩,λv=>Ab⟩⟩
def Zjq:okE ⟨147,[.slice 154 Zt],[.str],u1 bU,.ow⟩:=TJ (sN Qrv) Zd func147 call147 (sH (sF [pV 0 (.slice 154 Zt),pV 3 .str,pV 4 tI] (λN=>u3 (Yp N)) (u3 dp) (λK1=>sA))) ⟨λ_=>rfl,λN v=>Ab⟩
def Zql:DQ ⟨80,[.sh Zq,.sh wR],.flg [(.str,sC),(wR,sC),(Zq,(sE (sE (sE (.p sC sD)))))],u2 y5⟩:=Gv [] (sT Q3 Jx X5 Zjo XC Znv Zjq) (Q5 Zzy Zd) func80 call80 (sH (.seq (sG (.cond (sG (.frz [(6,(sE (sE (sE (.p sC sD)))))])) sA)) (sI (.seq (sG (.block (.loop [pY 2 sD,pY 6 sC,pY 7 sC,tZ 8 sC,pV 9 tI,tZ 10 sC,pV 11 tI] (λN=>u7 (Vp N)) (u7 iS) (λK1=>(sG (.join [pY 2 sD,pY 6 sC,pY 7 sC,tZ 8 sC,pV 9 tI,tZ 10 sC,pV 11 tI] (u7 (rr K1)) sA sA)))))) (sG (.seq (sG (.cond (sG (.frz [(6,(sE (sE (sE (.p sC sD)))))])) sA)) (.seq (.frz [(8,.u .sh)]) (sH (.frz [(6,(sE (sE (sE (.p sC sD)))))]))))))))) ⟨λ_=>rfl,λN=>⟨(λv=>Ab),λv=>Ab⟩⟩
def Zgl:okE ⟨148,[Zq,wR],[Yk,.bool],u2 od,.ow⟩:=TJ Zg Zd func148 call148 (sG (sF [pV 1 tI,pY 2 sD,.box 4 100 Yk sC,pV 6 tI] (λN=>u4 (fL N)) (u4 l6) (λK1=>sA))) ⟨λ_=>rfl,λN v=>Ab⟩
def Zi1:DQ ⟨149,[.bx 37 Zq sD,.sh wR],.vals [],u2 rK⟩:=Gv [0] Zg Zd func149 call149 (sG (sF [pY 0 sD,pV 1 tI,wP 4 (.p sC sD),pV 5 tI] (λN=>u4 (bH N)) (u4 nM) (λK1=>(sG (.join [pY 0 sD,pV 1 tI,wP 4 (.p sC sD),pV 5 tI] (u4 (mL K1)) sA sA))))) ⟨λ_=>rfl,λN=>⟨(λv=>Ab),λv=>Ab⟩⟩
def Zgp:okE ⟨247,[Zt],[Y1],u1 yC,.ow⟩:=TJ Zg Zd func247 call247 sA
def Zwm:okE ⟨366,[Ku,wR],[Ku,.bool],u2 nZ,.ow⟩:=TJ (sO EG XD) Zd func366 call366 (sI (sF [pV 1 tI,wC 2 sD,wC 4 sC,wC 6 sC,pV 7 tI] (λN=>u5 (fD N)) (u5 lW) (λK1=>sA))) ⟨λ_=>rfl,λN v=>Ab⟩
def Zwj:okE ⟨246,[Zv,Y1],[Zv],u2 nY,.ow⟩:=TJ (sW gz ay WJ WK vu xO kG Zgi Zwm yZ) Zd func246 call246 (sI (.join [pZ 2 sD,wF 3 sD,pZ 4 sC,pZ 5 sC] (u4 fx) (sG (.cond (sH (.block (.loop [pZ 2 sD,wF 3 sD,pZ 4 sC,pZ 5 sC,wB 6 sC,pV 7 tI] (λN=>u6 (fB N)) (u6 lU) (λK1=>sA)))) sA)) (.join [pZ 2 sD,pZ 4 sC,pZ 5 (sE (.p sC (.p sC (.p sC (.p sC sD)))))] (u3 fA) sA (.join [pZ 4 sC,pZ 5 (sE (.p sC (.p sC (.p sC (.p sC sD))))),wC 8 sC] (u3 pz) sA sA)))) ⟨⟨λ_=>rfl,λN v=>Ab⟩,(λv=>Ab),(λv=>Ab),λv=>Ab⟩
def Zwk:okE ⟨248,[Zv],[Zv,.bool],u1 kp,.ow⟩:=TJ (sO gz ay) Zd func248 call248 sA
def Z3o:DQ ⟨150,[.bx 37 Zq sD,.sh Zt],.vals [],u2 z8⟩:=Gv [0] (sR Yf uf Zgp Zwj Zwk) (Q5 mu Zd) func150 call150 (sG (.join [pY 0 sD,tY 3 sD,wE 4 sC,pV 5 .bool] (u4 wn) sA (sG (.join [pY 0 sD,wE 4 (sE (.p sC (sE (.p sC sD))))] (u2 br) sA (.frz [(4,.u .sh)]))))) ⟨(λv=>Ab),λv=>Ab⟩
def Ztm:DQ ⟨81,[.sh Zq,.sh wR],.flg [(Zq,sD),(.bool,sC)],u2 py⟩:=Gv [] (sP Q3 Zgl Jx) (Q5 Zi1 (Q5 Z3o Zd)) func81 call81 (sI (.seq (sG (.cond (sG (.frz [(4,.u .sh)])) sA)) (.seq (.frz [(6,.u .sh)]) (sF [pY 4 sC,pY 6 sD,.box 7 100 Yk sC,pV 9 tI] (λN=>u4 (di N)) (u4 dj) (λK1=>sA))))) ⟨λ_=>rfl,λN v=>Ab⟩
def Ztp:okE ⟨249,[Zv,Y1],[Zv],u2 lF,.ow⟩:=TJ (sU gz ay WJ WK vu xO kG yZ) Zd func249 call249 (sI (.join [pZ 2 sD,wF 3 sD,pZ 4 sC,pZ 5 sC] (u4 dv) (sG (.cond (sH (.block (.loop [pZ 2 sD,wF 3 sD,pZ 4 sC,pZ 5 sC,wB 6 sC,pV 7 tI] (λN=>u6 (dw N)) (u6 kf) (λK1=>sA)))) sA)) (.join [pZ 4 sC,pZ 5 (sE (.p sC (.p sC (.p sC (.p sC sD)))))] (u2 iV) sA sA))) ⟨⟨λ_=>rfl,λN v=>Ab⟩,(λv=>Ab),λv=>Ab⟩
def Zzz:DQ ⟨151,[.bx 37 Zq sD,.sh Zt],.vals [],u2 xw⟩:=Gv [0] (sR Yf uf Zgp Ztp Ko) Zd func151 call151 (sH (.join [pY 0 sD,tY 3 sD,wE 4 sC,pV 5 .bool] (u4 so) sA (sG (.join [pY 0 sD,wE 4 (sE (.p sC (sE (.p sC sD))))] (u2 ao) sA sA)))) ⟨(λv=>Ab),λv=>Ab⟩
def Zqu:DQ ⟨82,[.sh Zq,.sh wR],.flg [(Zq,sD),(.bool,sC)],u2 mF⟩:=Gv [] (sP Q3 Zgl Jx) (Q5 Zi1 (Q5 Zzz Zd)) func82 call82 (sI (.seq (sG (.cond (sG (.frz [(4,.u .sh)])) sA)) (.seq (.frz [(6,.u .sh)]) (sF [pY 4 sC,pY 6 sD,.box 7 100 Yk sC,pV 9 tI] (λN=>u4 (bW N)) (u4 cG) (λK1=>sA))))) ⟨λ_=>rfl,λN v=>Ab⟩
def Zce:okE ⟨448,[.str,wR],[wR,wR,.bool],u2 X7,.ow⟩:=TJ Zg Zd func448 call448 (sK (sF [pV 0 .str,pV 1 tI,pV 7 tI,pV 8 tI,pV 9 tI] (λN=>u5 (bT N)) (u5 qb) (λK1=>sA))) ⟨λ_=>rfl,λN v=>Ab⟩
def Zlp:okE ⟨368,[.str,wR,wR],[.slice 3 wR,wR,.bool],u3 cO,.ow⟩:=TJ (sN Zce) Zd func368 call368 (sH (sF [pV 0 .str,pV 1 tI,pV 2 tI,wH 9 sC,pV 10 tI] (λN=>u5 (dD N)) (u5 dU) (λK1=>sA))) ⟨λ_=>rfl,λN v=>Ab⟩
def Zw1:okE ⟨367,[.str,wR,wR],[Zt,wR,.bool],u3 ol,.ow⟩:=TJ (sP Zlp Zce dZ) Zd func367 call367 (sI (.join [pV 0 .str,pV 1 tI,pV 2 tI,tY 6 sD,tY 9 sD,pV 10 tI] (u6 kY) sA (sI (.join [pV 0 .str,pV 2 tI,tY 6 sD,tY 9 sD,pV 12 tI] (u5 fP) sA (sG (.join [pV 0 .str,tY 6 sD,tY 9 sD,pV 12 tI,pV 14 tI] (u5 fQ) sA sA)))))) ⟨(λv=>Ab),(λv=>Ab),λv=>Ab⟩
def Zno:okE ⟨250,[.str,wR],[Zt,wR,.bool],u2 kL,.ow⟩:=TJ (sP Zw1 Zlp dZ) Zd func250 call250 (sL (.join [pV 0 .str,pV 1 tI,tY 4 sD,tY 11 sD,pV 12 tI] (u5 Ju) (sG (.block (sG (.cond sA (.join [pV 0 .str,pV 1 tI,tY 4 sD,pV 7 tI,tY 11 sD,pV 12 tI,pV 55 tI,pV 58 .bool] (u8 aR) sA (.cond sA (.join [pV 0 .str,pV 1 tI,tY 4 sD,pV 7 tI,tY 11 sD,pV 12 tI,pV 62 .bool] (u7 dP) sA sA))))))) (sG (.join [tY 4 sD,tY 11 sD,pV 14 tI,pV 15 .bool] (u4 Yx) (sG (.block (sG (.cond sA (sG (.cond sA (.join [tY 4 sD,tY 11 sD,wH 13 sC,pV 14 tI,pV 15 .bool,pV 117 .bool] (u6 dO) sA sA))))))) sA)))) ⟨⟨(λv=>Ab),λv=>Ab⟩,(λv=>Ab),λv=>Ab,λv=>Ab⟩
def Zjp:okE ⟨153,[.str],[.slice 154 Zt,.bool],u1 Vo,.ow⟩:=TJ (sO Zno X5) Zd func153 call153 (sI (.seq (.block (.loop [pV 0 .str,tZ 4 sC,pV 5 tI] (λN=>u3 (Jq N)) (u3 lB) (λK1=>sA))) sA)) ⟨λ_=>rfl,λN v=>Ab⟩
def Ztn:okE ⟨154,[Zq,wR],[Zq],u2 ly,.ow⟩:=TJ (sO Q3 X5) Zd func154 call154 sA
def Zzr:okE ⟨450,[wR],[wR],u1 ry,.ow⟩:=TJ (sN Xu) Zd func450 call450 sA
def Zwx:okE ⟨449,[Q7,wR],[Q7,wR,.bool],u2 oh,.ow⟩:=TJ (sN yX) Zd func449 call449 sA
def Zzv:DQ ⟨451,[.bx 37 Zq sC,.sh wR,.sh wR],.vals [],u3 XS⟩:=Gv [0] (sO Zef Ko) Zd func451 call451 (sG (.block (.loop [pY 0 sC,pV 1 tI,pV 6 tI] (λN=>u3 (eg N)) (u3 nI) (λK1=>(sG (.seq (.block (.join [pY 0 sC,pV 1 tI,pV 6 tI,wE 7 sC] (u4 (za K1)) sA sA)) sA)))))) ⟨λ_=>rfl,λN=>⟨(λv=>Ab),λv=>Ab⟩⟩
def nr:okE ⟨369,[Zq,wR],[Zq,wR],u2 Wr,.ow⟩:=TJ (sU Q3 aa Xu zw JD yY Zzr Zwx) (Q5 Zzv Zd) func369 call369 (sL (.join [pV 1 tI,pY 2 sD,pY 4 sC,pY 6 sC,.box 7 34 Q7 sD] (u5 Kl) sA (.join [pV 1 tI,pY 2 sD,pY 4 sC,pY 6 sC,.box 8 34 Q7 sD,pV 9 tI,pV 10 .bool] (u7 cB) sA (sG (.join [pV 1 tI,pY 4 sC,pY 6 (sE (sE (sE (.p sC (sE (sE (sE (sE (sE (sE sC)))))))))),pV 9 tI] (u4 ag) sA sA))))) ⟨(λv=>Ab),(λv=>Ab),λv=>Ab⟩
def Zi2:okE ⟨452,[Qh,wR,.bool],[wR],u3 rL,.ow⟩:=TJ Zg Zd func452 call452 sA
def Zlh:okE ⟨494,[Xi],[.slice 150 Zw],u1 uJ,.ow⟩:=TJ (sN po) Zd func494 call494 (sH (sF [wD 1 sD,wB 3 sC,pV 4 tI] (λN=>u3 (Vg N)) (u3 eA) (λK1=>sA))) ⟨λ_=>rfl,λN v=>Ab⟩
def Z3k:okE ⟨495,[Xi,wR],[wR],u2 z6,.ow⟩:=TJ Zg Zd func495 call495 (sG (sF [pV 1 tI,wD 2 sD,pV 5 tI] (λN=>u3 (ic N)) (u3 oH) (λK1=>sA))) ⟨λ_=>rfl,λN v=>Ab⟩
def Zqp:okE ⟨453,[Xi,wR,.str],[Xi],u3 mC,.ow⟩:=TJ (sS po vM Zlh kG Z3k Ft) Zd func453 call453 (sM (sF [pV 1 tI,pV 2 .str,wD 3 sD,wD 6 sC,wD 9 (sE sC),wB 10 sC,pV 11 tI] (λN=>u7 (Vq N)) (u7 Ww) (λK1=>(sG (.seq (.block (sG (sF [pV 1 tI,pV 2 .str,wD 3 sD,wD 6 sC,wD 9 (sE sC),wB 10 sC,pV 11 tI,pV 12 .str,pV 13 tI] (λN=>u9 (Ke K1 N)) (u9 Wx) (λK2=>(sG (.seq (.block (sG (.join [pV 1 tI,pV 2 .str,wD 3 sD,wD 6 sC,wD 9 (sE sC),wB 10 sC,pV 11 tI,pV 12 .str,pV 13 tI,pV 14 tI] (u10 (bV K1 K2)) sA sA))) sA)))))) sA))))) ⟨λ_=>rfl,λN=>⟨(λv=>Ab),λ_=>rfl,λN=>⟨(λv=>Ab),λv=>Ab⟩⟩⟩
def Zny:okE ⟨370,[Qh,wR,.str,.bool],[Qh,wR],u4 K8,.ow⟩:=TJ (sR XF fu Zi2 Zqp zy) Zd func370 call370 (sM (.join [pV 1 tI,pV 2 .str,wG 4 sD,wG 8 sC,wG 10 (sE (.p sC sD))] (u5 Jw) sA (sG (.join [wG 8 sC,wG 10 (sE (.p sC sD))] (u2 ju) sA sA)))) ⟨(λv=>Ab),λv=>Ab⟩
def Zwp:okE ⟨454,[Qh,wR],[wR],u2 td,.ow⟩:=TJ (sO fu Xu) Zd func454 call454 sA
def Zww:okE ⟨455,[Kk,wR],[Kk,.bool],u2 og,.ow⟩:=TJ (sN pq) Zd func455 call455 sA
def Ziy:DQ ⟨371,[.bx 37 Zq sD,.bx 96 Z1 sD,.sh wR],.vals [wR],u3 rG⟩:=Gv [0,1] (sO Zwp Zww) Zd func371 call371 sA
def Zqn:DQ ⟨251,[.sh Zq,.sh Zt],.flg [(Zq,sD),(wR,sC)],u2 mz⟩:=Gv [] (sT aa dZ Q3 nl nr Yf Zny) (Q5 Ziy (Q5 mu Zd)) func251 call251 (sG (.seq (sG (.cond (sG (.frz [(4,.u .sh)])) sA)) (.seq (sG (.cond (sG (.frz [(4,.u .sh)])) sA)) (sG (.seq (sG (.cond (sG (.frz [(4,.u .sh)])) sA)) (sH (.seq (.frz [(6,.u .sh),(8,.u .sh)]) (.seq (sG (.cond (sG (.frz [(4,.u .sh)])) sA)) (.seq (sG (.cond (sG (.frz [(4,.u .sh)])) sA)) (sG (.seq (.frz [(8,.u .sh)]) sA)))))))))))
def Zlm:okE ⟨372,[Qh,wR,wR],[Qh,wR],u3 Ws,.ow⟩:=TJ (sQ XF fu Xu Zi2) Zd func372 call372 sA
def Znu:DQ ⟨252,[.sh Zq,.sh Zt],.flg [(Zq,sD),(wR,sC)],u2 kO⟩:=Gv [] (sT aa dZ Q3 nl nr Yf Zlm) (Q5 Ziy (Q5 Ziz (Q5 mu Zd))) func252 call252 (sG (.seq (sG (.cond (sG (.frz [(4,.u .sh)])) sA)) (.seq (sG (.cond (sG (.frz [(4,.u .sh)])) sA)) (sG (.seq (sG (.cond (sG (.frz [(4,.u .sh)])) sA)) (sH (.seq (.frz [(6,.u .sh),(8,.u .sh)]) (.seq (sG (.cond (sG (.frz [(4,.u .sh)])) sA)) (.seq (sG (.cond (sG (.frz [(4,.u .sh)])) sA)) (.join [pY 4 sC,pY 6 sD,wE 8 sD,wG 10 sC] (u4 dT) sA (sG (.seq (.frz [(8,.u .sh)]) sA)))))))))))) (λv=>Ab)
def Zqo:DQ ⟨253,[.sh Zq,.sh Zt],.flg [(Zq,sD),(wR,sC)],u2 mA⟩:=Gv [] (sT aa dZ Q3 QZ nr Yf Zee) (Q5 mu Zd) func253 call253 (sG (.seq (sG (.cond (sG (.frz [(4,.u .sh)])) sA)) (.seq (sG (.cond (sG (.frz [(4,.u .sh)])) sA)) (sG (.seq (sG (.cond (sG (.frz [(4,.u .sh)])) sA)) (sH (.join [pY 4 sC,pY 6 sC,wE 8 (sE (.p sC (sE (.p sC sD))))] (u3 fF) sA (.seq (.frz [(6,.u .sh),(8,.u .sh)]) sA)))))))) (λv=>Ab)
def Zch:okE ⟨373,[Q7,wR],[Q7],u2 jg,.ow⟩:=TJ (sO ct Xu) Zd func373 call373 sA
def Zq0:okE ⟨374,[gg,wR],[gg],u2 jf,.ow⟩:=TJ (sN WG) Zd func374 call374 sA
def Zwz:okE ⟨375,[Zq,Zt],[Zq,wR],u2 yB,.ow⟩:=TJ (sT QZ nl Q3 nr Yf Zch Ko) Zd func375 call375 (sH (.join [pY 2 sD,tY 3 sD,pY 4 sC,pV 6 .bool] (u4 kX) sA (sI (.join [pY 4 sC,pY 7 (sE (sE (sE sC)))] (u2 qk) sA sA)))) ⟨(λv=>Ab),λv=>Ab⟩
def Znt:okE ⟨254,[Zq,Zt],[Zq,wR],u2 kN,.ow⟩:=TJ (sS Q3 aa dZ Zch Zq0 Zwz) Zd func254 call254 (sI (.seq (sG (.block (sG (.cond sA (sG (.cond (.join [pY 4 sC,pY 6 (sE (sE (sE (.p sC (sE (sE (sE (sE sC))))))))] (u2 jt) sA sA) (.join [pY 2 sD,tY 3 sD,pY 4 sC,pY 6 sC,pV 21 tI,pV 48 .bool] (u6 dR) sA (.cond sA (.join [pY 2 sD,tY 3 sD,pY 4 sC,pY 6 sC,pV 52 .bool] (u5 dS) sA sA))))))))) sA)) ⟨λv=>Ab,(λv=>Ab),λv=>Ab⟩
def Zns:DQ ⟨155,[.sh Zq,.sh Zt],.flg [(Zq,sD),(wR,sC)],u2 kM⟩:=Gv [] (sO Q3 Znt) (Q5 Zqn (Q5 Znu (Q5 Zqo Zd))) func155 call155 (sI (.join [pY 4 sC,pY 6 (.p sC (.p (.p sC (.p sC (.p sC (.p sC (.p sC (.p sC (.p sC (.p sC sC)))))))) (.p (.p sC (.p sC (.p sC (.p sC (.p sC (.p sC (.p sC (.p sC sC)))))))) (sE (.p (.p sC (.p sC (.p sC (.p sC sC)))) (.p (.p sC (.p sC (.p sC (.p sC (.p sC (.p sC sC)))))) (.p (.p sC (.p sC (.p sC sC))) (.p (.p sC (.p sC (.p sC sC))) (.p (.p sC (.p sC (.p sC (.p sC sC)))) (.p (.p sC (.p sC (.p sC (.p sC sC)))) (.p sC (.p sC (.p sC (.p sC (.p sC (sE (.p sC (.p sC sC)))))))))))))))))),pV 7 tI] (u3 aS) sA sA)) (λv=>Ab)
def Zjr:DQ ⟨84,[.sh Zq,.sh (.str)],.flg [(Zq,sD),(wR,sC)],u2 fE⟩:=Gv [] (sR Q3 aa KE Zjp Ztn) (Q5 Zns Zd) func84 call84 (sH (.seq (sG (.cond (sG (.frz [(4,.u .sh)])) sA)) (sG (.seq (sG (.cond (sG (.frz [(4,.u .sh)])) sA)) (sF [pY 4 sC,pY 6 sD,tZ 7 sC,pV 9 tI] (λN=>u4 (Wn N)) (u4 ah) (λK1=>(sG (.seq (.block (.join [pY 4 sC,pY 6 sD,tZ 7 sC,pV 9 tI,pY 10 sD,pV 11 tI] (u6 (lX K1)) (.frz [(6,.u .sh)]) (.seq (sG (.cond (sG (.frz [(4,.u .sh)])) sA)) sA))) sA)))))))) ⟨λ_=>rfl,λN=>⟨(λv=>Ab),λv=>Ab⟩⟩
def Zwt:okE ⟨85,[Zq,wR],[Zq,.bool],u2 th,.ow⟩:=TJ (sP Q3 Jx X5) Zd func85 call85 sA
def Z5e:okE ⟨86,[.bool],[.str],u1 Z4k,.ow⟩:=TJ Zg Zd func86 call86 sA
def Zqj:DQ ⟨39,[.sh Zq,.sh Q8],.flg [(.str,sC),(Zq,sD)],u2 my⟩:=Gv [] (lI Q3 aa Zix KE Zqx XB Zn2 Zlk Zto Zq3 Zn0 Zec Zwt Z5e) (Q5 Zq1 (Q5 Znz (Q5 Zql (Q5 Ztm (Q5 Zqu (Q5 Zjr Zd)))))) func39 call39 (sH (.seq (sG (.cond (sG (.frz [(5,.u .sh)])) sA)) (.seq (sG (.cond (sG (.frz [(5,.u .sh)])) sA)) (sG (.join [pY 5 sC,pY 6 (.p sC (.p (.p sC (.p sC (.p sC (.p sC (.p sC (.p sC (.p sC (.p sC sC)))))))) (.p (.p sC (.p sC (.p sC (.p sC (.p sC (.p sC (.p sC (.p sC sC)))))))) (sE (.p (.p sC (.p sC (.p sC (.p sC sC)))) (.p (.p sC (.p sC (.p sC (.p sC (.p sC (.p sC sC)))))) (.p (.p sC (.p sC (.p sC sC))) (.p (.p sC (.p sC (.p sC sC))) (.p (.p sC (.p sC (.p sC (.p sC sC)))) (.p (.p sC (.p sC (.p sC (.p sC sC)))) (.p sC (.p sC (.p sC (.p sC (.p sC (sE (.p sC (.p sC sC)))))))))))))))))),pV 7 .bool] (u3 Jj) (sG (.block (sG (.cond (sG (.seq (sG (.cond (sG (.frz [(5,.u .sh)])) sA)) (sG (.frz [(5,.u .sh)])))) (sG (.cond (sH (.frz [(5,.u .sh)])) (sG (.cond sA (sG (.cond sA (sG (.cond sA (sG (.cond sA (sG (.cond sA (sG (.cond (sG (.seq (sG (.cond (sG (.frz [(5,.u .sh)])) sA)) (sG (.frz [(5,.u .sh)])))) sA)))))))))))))))))) sA))))) (λv=>Ab)
def Ztu:DQ ⟨15,[.sh Zq,.sh (.slice 74 Q8)],.flg [(.slice 9 (.str),sC),(Zq,sD)],u2 XQ⟩:=Gv [] (sN Q3) (Q5 Zqj Zd) func15 call15 (sI (sF [pV 1 (.slice 74 Q8),pY 5 sC,pY 6 sD,wJ 7 sC,pV 8 tI] (λN=>u5 (dy N)) (u5 rF) (λK1=>(sG (.seq (.block (.join [pV 1 (.slice 74 Q8),pY 5 sC,pY 6 sD,wJ 7 sC,pV 8 tI,pV 9 .str,pY 10 sD] (u7 (XR K1)) (.frz [(6,.u .sh)]) sA)) sA))))) ⟨λ_=>rfl,λN=>⟨(λv=>Ab),λv=>Ab⟩⟩
abbrev Zdk:A9:=⟨4,[.sh (.bool),.sh cR,.sh cR,.sh (.str)],.flg [(.slice 9 (.str),sC),(Zq,sD),(.bool,sC)],u4 mI⟩
def Zq2:DQ Zdk:=Gv [] (sO Zzs Zlj) (Q5 Ztu Zd) func4 call4 (sI (.seq (sG (.cond (sG (.frz [(9,.u .sh)])) sA)) (.seq (.frz [(11,.u .sh)]) sA)))
abbrev IR:LR:=⟨88,[wR,wR,wR],[.bool],u3 Zy,.ow⟩
def Qc:okE IR:=TJ Zg Zd func88 call88 sA
def zt:okE ⟨87,[wR],[.bool],u1 mq,.ow⟩:=TJ (sN Qc) Zd func87 call87 sA
def Oz:okE ⟨40,[cR],[.bool],u1 mW,.ow⟩:=TJ (sO zt Qc) Zd func40 call40 sA
abbrev Ez:LR:=⟨89,[wR],[.bool],u1 Xk,.ow⟩
def Kj:okE Ez:=TJ (sN Qc) Zd func89 call89 sA
def Zd7:okE ⟨41,[wR],[Q7,.bool],u1 Th,.ow⟩:=TJ (sN Kj) Zd func41 call41 sA
def Zd9:okE ⟨42,[wR,wR],[Kk,.bool],u2 Ij,.ow⟩:=TJ (sN Qc) Zd func42 call42 sA
def Zvv:okE ⟨43,[wR],[gg,.bool],u1 GH,.ow⟩:=TJ (sN Qc) Zd func43 call43 sA
def Zvt:okE ⟨44,[wR],[Q7,.bool],u1 SY,.ow⟩:=TJ (sN Qc) Zd func44 call44 sA
def Zzi:okE ⟨16,[.bool,cR,cR],[Zq,.bool],u3 Is,.ow⟩:=TJ (sR Oz Zd7 Zd9 Zvv Zvt) Zd func16 call16 sA
abbrev Zzc:LR:=⟨45,[.str,.str],[.slice 9 (.str)],u2 tl,.ow⟩
def Zgq:Wz qA glob Zzc:=
 Wz.split Tryz.call45 Ah (λw hg=>Kf.vars_int (b:=1) hg 0 Ah rfl rfl Ab)
  (λs p k w h1 h2 h3=>Tryz.strings_Split s p k w h1 h2 h3)
abbrev Zoh:LR:=⟨91,[.str,.str],[.str,.str,.bool],u2 wo,.ow⟩
def Z3r:Wz qA glob Zoh:=
 Wz.cut Tryz.call91 (λw hg=>Kf.vars_int (b:=1) hg 0 Ah rfl rfl Ab)
  (λs p k w h1 h2=>Tryz.strings_Cut s p k w h1 h2)
abbrev Zfp:LR:=⟨92,[wR],[.str],u1 K9,.ow⟩
open Go.RowKit in
def Zn6(k:Int)(w:Y)(hw:∀i,i<13->w.cell? ⟨0,i,S⟩=O (.string ⟨⟨KK.getD i []⟩⟩)):
  Li qA 92 #[.int .i64 k] w λe w'=>e=.returned (.string ⟨⟨cond (Lk (1<=k)&&Lk (k<=12)) (KK.getD k.toNat []) []⟩⟩)/\Below w.heap.size w w':=by
 by_cases h1:1<=k
 ·by_cases h2:k<=12
  ·have hc:=hw k.toNat Aa
   have e:(cond (Lk (1<=k)&&Lk (k<=12)) (KK.getD k.toNat []) [])=KK.getD k.toNat []:=by simp[h1,h2]
   rw[e];generalize KK.getD k.toNat []=t at*
   go_enter Tryz.func92,Tryz.ntmps92
   go_wp2
   go_ret
   exact⟨rfl,L6 _ _⟩
  ·have e:(cond (Lk (1<=k)&&Lk (k<=12)) (KK.getD k.toNat []) [])=[]:=by simp[h2]
   rw[e]
   go_enter Tryz.func92,Tryz.ntmps92
   go_wp2
   go_ret
   exact⟨rfl,L6 _ _⟩
 ·have e:(cond (Lk (1<=k)&&Lk (k<=12)) (KK.getD k.toNat []) [])=[]:=by simp[h1]
  rw[e]
  go_enter Tryz.func92,Tryz.ntmps92
  go_wp2
  go_ret
  exact⟨rfl,L6 _ _⟩
def QX:Wz qA glob Zfp where
 enters:=Tryz.call92
 calls:=λw xs r vals hg hx hr=>by
  obtain⟨cs,us,rfl,h1,rfl⟩:=hx;obtain⟨rfl,_⟩:cs=[.int .i64 xs.1]/\_:=h1;simp only[K9,pB]at hr;subst hr;have hv:=Kf.vars_eq hg 1 Ah rfl rfl;exact(Zn6 xs.1 w (λj hj=>Qjy hv Ab j hj)).mono λe w' ⟨h2,h3⟩=>⟨[_],[],h2,⟨[_],[],[],[],rfl,rfl,⟨rfl,rfl⟩,rfl,rfl⟩,Ac,h3⟩
abbrev Zx9:LR:=⟨93,[wR],[.bool,.bool,.bool],u1 ta,.ow⟩
def UK:okE Zx9:=TJ Zg Zd func93 call93 (sG (.seq (sG (.block (.join [pV 5 tI,pV 6 .bool] (u2 rh) sA (.cond sA (.join [pV 5 tI,pV 9 .bool] (u2 ri) sA (.cond sA (sG (.cond sA (.join [pV 14 .bool] (u1 nj) sA sA))))))))) sA)) ⟨(λv=>Ab),(λv=>Ab),λv=>Ab⟩
def Zv4:okE ⟨262,[.str,.int .u8,.int .u8],[.bool],u3 yf,.ow⟩:=TJ (sN Qc) Zd func262 call262 (sG (sF [pV 0 .str,pV 1 (.int .u8),pV 2 (.int .u8),pV 7 tI] (λN=>u4 (fe N)) (u4 ub) (λK1=>sA))) ⟨λ_=>rfl,λN v=>Ab⟩
def Zv6:okE ⟨196,[.int .u8],[wR],u1 fW,.ow⟩:=TJ Zg Zd func196 call196 sA
def Zd2:okE ⟨108,[.str],[.str,.bool],u1 ld,.ow⟩:=TJ (sN Zv6) Zd func108 call108 (sI (sF [pV 0 .str,wO 4 sC,pV 5 tI] (λN=>u3 (aV N)) (u3 q9) (λK1=>sA))) ⟨λ_=>rfl,λN v=>Ab⟩
def Z3c:okE ⟨162,[Q8],[.bool],u1 Rz,.ow⟩:=TJ (sP Zv4 Zd2 Qc) Zd func162 call162 sA
abbrev Zkd:LR:=⟨95,[Q8],[.bool],u1 mX,.ow⟩
def WE:okE Zkd:=TJ (sQ UK QX Qc Z3c) Zd func95 call95 sA
abbrev Z14:LR:=⟨161,[wR],[.str],u1 XY,.ow⟩
def Zi3:Wz qA glob Z14:=Wz.intStr Tryz.call161 λn w hg h0 h1=>(Tryz.strconv_Itoa n h0 h1 w (Kf.vars_eq hg 2 Ah rfl rfl)).mono λe w' ⟨he,k,os,hw⟩=>⟨he,hw▸Go.Lib.below_grow _ _ (Lp _) k os⟩
def Zd3:okE ⟨103,[wR],[.str],u1 dd,.ow⟩:=TJ (sN Zi3) Zd func103 call103 sA
abbrev Zbd:LR:=⟨96,[Q8],[.str],u1 oS,.ow⟩
def Zm0:okE Zbd:=TJ (sQ WE UK QX Zd3) Zd func96 call96 (sJ (.join [wA 1 sD,pV 4 .bool,pV 5 .bool,pV 6 .str] (u4 ox) sA (.join [wA 1 sD,pV 5 .bool,pV 6 .str] (u3 oy) sA sA))) ⟨(λv=>Ab),λv=>Ab⟩
abbrev Z13:LR:=⟨160,[.str],[wR,.err],u1 MM,.ow⟩
def Zz2:Wz qA glob Z13:=
 Wz.atoi Tryz.call160 (λw hg=>Kf.vars_err hg 3 Ah rfl rfl) (λs n hl h w=>Tryz.strconv_Atoi s n hl h w)
  (λs hl h tp p w hv=>(Tryz.strconv_Atoi_err_var s hl h tp p w hv).mono λe w' ⟨N,h1,_,_,h2⟩=>⟨_,N,h1,h2⟩)
abbrev Zin:LR:=⟨94,[.str],[wR,.bool],u1 cV,.ow⟩
def Zvx:okE Zin:=TJ (sP Zz2 Zi3 Qc) Zd func94 call94 sA
abbrev Zdc:LR:=⟨46,[.str],[Q8,.bool],u1 rP,.ow⟩
def Zp2:Wz qA glob Zdc:=by
 refine Wz.of (e:=Zdc) (C:=gW [] [Zoh,Zfp,Zx9,Zkd,Zbd,Zin] [] [] []) (ZG rfl (sS Z3r QX UK WE Zm0 Zvx) Qk Zd Ql) rfl Tryz.func46 (c:=Xr Tryz.f46) rfl Tryz.call46 Ah
  ((sI (.seq (sG (.block (.loop [pV 0 .str,wA 2 sD,pV 4 .str,pV 5 .str,wA 7 sD,pV 8 tI] (λN v=>Vl N v.1 v.2.1 v.2.2.1 v.2.2.2.1 v.2.2.2.2.1 v.2.2.2.2.2.1) (λv=>Qb2 v.1 v.2.1 v.2.2.1 v.2.2.2.1 v.2.2.2.2.1 v.2.2.2.2.2.1) (λK1=>(sG (.join [pV 0 .str,wA 2 sD,pV 4 .str,pV 5 .str,wA 7 sD,pV 8 tI] (λv=>rf K1 v.1 v.2.1 v.2.2.1 v.2.2.2.1 v.2.2.2.2.1 v.2.2.2.2.2.1) sA sA)))))) (sG (.seq (sG (.block (.unroll [0,2,5,7,9,10,11,45,46,47,55,56,59,60,61,62,63,64,65,93,94,95,96] 3 (λ_=>sA)))) (.join [pV 0 .str,wA 2 sD,wA 7 sD] (λv=>Kq v.1 v.2.1 v.2.2.1) sA sA)))))) ?_ ?_
 ·exact⟨lf,lf,lf,⟨lf,λ_=>rfl,λN=>⟨(λv=>Ab),lf,lf,(λv=>Ab),lf⟩⟩,lf,⟨lf,(λi _=>lf)⟩,lf,(λv=>Ab),lf⟩
 ·intro xs r h;refine X (U ?_) h;kernel_rfl
def Zk8:okE ⟨17,[.str],[.slice 74 Q8,.bool],u1 ux,.ow⟩:=TJ (sO Zgq Zp2) Zd func17 call17 (sI (sF [pV 4 (.slice 9 (.str)),.val 5 (.slice 74 Q8) sC,pV 6 tI,pV 19 (.slice 9 (.str)),pV 20 tI,pV 21 tI] (λN=>u6 (ch N)) (u6 me) (λK1=>sA))) ⟨λ_=>rfl,λN v=>Ab⟩
def KA:okE ⟨387,[Ku],[Ku],u1 kn,.ow⟩:=TJ Zg Zd func387 call387 sA
def rj:okE ⟨388,[.slice 150 Zw],[.slice 150 Zw],u1 am,.ow⟩:=TJ Zg Zd func388 call388 sA
abbrev ZL:LR:=⟨263,[Zv],[Zv],u1 Vy,.ow⟩
def W8:okE ZL:=TJ (sO KA rj) Zd func263 call263 sA
abbrev Zdi:LR:=⟨389,[Xi],[Xi],u1 dX,.ow⟩
def zr:okE Zdi:=TJ Zg Zd func389 call389 sA
def nk:okE ⟨264,[Qh],[Qh],u1 aW,.ow⟩:=TJ (sN zr) Zd func264 call264 sA
def Zcb:okE ⟨163,[Z1],[Z1],u1 mo,.ow⟩:=TJ (sO W8 nk) Zd func163 call163 sA
def Qhd:okE ⟨97,[.slice 96 Z1],[.slice 96 Z1],u1 cn,.ow⟩:=TJ (sN Zcb) Zd func97 call97 (sH (sF [wQ 3 sC,pV 7 (.slice 96 Z1),pV 8 tI,pV 9 tI] (λN=>u4 (jp N)) (u4 V7) (λK1=>sA))) ⟨λ_=>rfl,λN v=>Ab⟩
def Znf:okE ⟨98,[.slice 100 Yk],[.slice 100 Yk],u1 YU,.ow⟩:=TJ Zg Zd func98 call98 (sH (sF [wP 3 sC,pV 7 (.slice 100 Yk),pV 8 tI,pV 9 tI] (λN=>u4 (jo N)) (u4 fV) (λK1=>sA))) ⟨λ_=>rfl,λN v=>Ab⟩
abbrev Q2:LR:=⟨47,[Zq],[Zq],u1 Zu,.ow⟩
def Xb:okE Q2:=TJ (sO Qhd Znf) Zd func47 call47 sA
def Zvr:okE ⟨504,[wR],[.bool],u1 HP,.ow⟩:=TJ (sN Qc) Zd func504 call504 sA
def Qb4:okE ⟨520,[.slice 3 wR,.fnc 504],[wR],λxs=>ae xs.1,.ow⟩:=TJ (sN Zvr) Zd func520 call520 (sG (sF [pV 0 (.slice 3 wR),pV 1 (.fnc 504),pV 7 tI,pV 8 tI] (λN=>u4 (Yi N)) (u4 Y0) (λK1=>sA))) ⟨λ_=>rfl,λN v=>Ab⟩
def Zx3:okE ⟨503,[.slice 3 wR,.fnc 504],[.bool],λxs=>V0 xs.1,.ow⟩:=TJ (sN Qb4) Zd func503 call503 sA
def QY:okE ⟨465,[Ku],[.bool],u1 qu,.ow⟩:=TJ (sQ zt Zx3 Kj Qc) Zd func465 call465 sA
def WF:okE ⟨402,[Zw],[.bool],u1 QK,.ow⟩:=TJ Zg Zd func402 call402 sA
def kD:okE ⟨401,[.slice 150 Zw],[.bool],u1 al,.ow⟩:=TJ (sN WF) Zd func401 call401 (sG (sF [pV 0 (.slice 150 Zw),pV 5 (.slice 150 Zw),pV 6 tI,pV 7 tI] (λN=>u4 (oW N)) (u4 tw) (λK1=>sA))) ⟨λ_=>rfl,λN v=>Ab⟩
def Zk7:okE ⟨505,[.slice 150 Zw],[wR],u1 db,.ow⟩:=TJ (sN kD) Zd func505 call505 (sI (sF [pV 3 tI,pV 9 (.slice 150 Zw),pV 10 tI,pV 11 tI] (λN=>u4 (gn N)) (u4 md) (λK1=>sA))) ⟨λ_=>rfl,λN v=>Ab⟩
abbrev VM:LR:=⟨285,[.slice 150 Zw,Zw],[.slice 150 Zw],u2 fS,.ow⟩
def pl:okE VM:=TJ (sP kD WF rj) Zd func285 call285 (sI (sF [wI 3 sD,wB 5 sC,pV 6 .bool,pV 20 (.slice 150 Zw),pV 21 tI,pV 22 tI] (λN=>u6 (K6 N)) (u6 lP) (λK1=>(sH (.seq (.block (sG (.block (sG (.cond sA (sG (.cond (.join [wI 3 sD,wB 5 sC,pV 6 .bool,wI 8 sD,pV 20 (.slice 150 Zw),pV 21 tI,pV 22 tI] (u7 (oP K1)) sA sA) sA))))))) sA))))) ⟨λ_=>rfl,λN=>⟨(λv=>Ab),λv=>Ab⟩⟩
def Zcc:okE ⟨468,[.slice 150 Zw,wR],[.bool],u2 jb,.ow⟩:=TJ Zg Zd func468 call468 sA
def Zv5:okE ⟨466,[.slice 150 Zw,.slice 150 Zw,.slice 150 Zw,wR],[.bool],u4 KW,.ow⟩:=TJ (sQ Zk7 rj pl Zcc) Zd func466 call466 (sI (sF [pV 3 tI,wB 9 sC,wB 27 sC,pV 28 tI,pV 29 tI] (λN=>u5 (pd N)) (u5 lR) (λK1=>sA))) ⟨λ_=>rfl,λN v=>Ab⟩
abbrev VO:LR:=⟨467,[.slice 150 Zw,wR],[wR],u2 sx,.ow⟩
def YZ:okE VO:=TJ (sN kD) Zd func467 call467 (sH (sF [pV 1 tI,pV 14 (.slice 150 Zw),pV 15 tI,pV 16 tI] (λN=>u4 (ks N)) (u4 tv) (λK1=>sA))) ⟨λ_=>rfl,λN v=>Ab⟩
abbrev YT:LR:=⟨422,[Zv],[wR],u1 lq,.ow⟩
def uG:okE YT:=TJ Zg Zd func422 call422 sA
def xm:okE ⟨390,[Zv],[.bool],u1 nW,.ow⟩:=TJ (sU QY kD Qc Kj Zv5 YZ Zcc uG) Zd func390 call390 (sJ (.join [pZ 1 sD,pV 4 tI] (u2 oX) sA sA)) (λv=>Ab)
def cq:okE ⟨165,[Q7],[.bool],u1 cU,.ow⟩:=TJ (sO Kj Qc) Zd func165 call165 sA
abbrev Zfo:LR:=⟨470,[bI],[wR],u1 gi,.ow⟩
def uF:okE Zfo:=TJ Zg Zd func470 call470 sA
abbrev Zim:LR:=⟨403,[Xi],[.bool],u1 nV,.ow⟩
def xl:okE Zim:=TJ (sO Kj uF) Zd func403 call403 (sI (sF [pV 3 tI,pV 13 (.slice 152 bI),pV 14 tI,pV 15 tI] (λN=>u4 (oV N)) (u4 lQ) (λK1=>sA))) ⟨λ_=>rfl,λN v=>Ab⟩
def Z5c:okE ⟨404,[Xi],[wR],u1 Iu,.ow⟩:=TJ (sO xl uF) Zd func404 call404 sA
def Zca:okE ⟨406,[Xi],[wR],u1 mn,.ow⟩:=TJ (sN xl) Zd func406 call406 sA
def Zge:okE ⟨405,[Xi],[wR],u1 yh,.ow⟩:=TJ (sN Zca) Zd func405 call405 sA
def ft:okE ⟨286,[Qh],[.bool],u1 bw,.ow⟩:=TJ (sR xl Z5c Kj Qc Zge) Zd func286 call286 (sI (.seq (sG (.block (sG (.cond sA (sG (.cond sA (sG (.cond sA (sG (.cond sA (.join [wG 1 sD,pV 101 .bool] (u2 fc) sA sA))))))))))) sA)) (λv=>Ab)
def kE:okE ⟨166,[Kk],[.bool],u1 km,.ow⟩:=TJ (sN Qc) Zd func166 call166 sA
def zq:okE ⟨391,[Y6],[.bool],u1 mj,.ow⟩:=TJ (sN Qc) Zd func391 call391 sA
def Zgb:okE ⟨265,[Z1],[.bool],u1 yc,.ow⟩:=TJ (sS Kj xm cq ft kE zq) Zd func265 call265 sA
def zp:okE ⟨164,[.slice 96 Z1],[.bool],u1 ja,.ow⟩:=TJ (sN Zgb) Zd func164 call164 (sG (sF [pV 0 (.slice 96 Z1),pV 5 (.slice 96 Z1),pV 6 tI,pV 7 tI] (λN=>u4 (bL N)) (u4 iA) (λK1=>sA))) ⟨λ_=>rfl,λN v=>Ab⟩
def WD:okE ⟨167,[gg],[.bool],u1 wy,.ow⟩:=TJ (sN Qc) Zd func167 call167 sA
def yU:okE ⟨168,[Q7],[.bool],u1 rc,.ow⟩:=TJ (sN Qc) Zd func168 call168 sA
def Zvs:okE ⟨393,[wR],[.str],u1 G9,.ow⟩:=TJ Zg Zd func393 call393 sA
abbrev uR:LR:=⟨298,[Zt],[.bool],u1 Vj,.ow⟩
def lT:okE uR:=TJ Zg Zd func298 call298 (sG (.seq (sG (.block (.join [pV 5 .bool] (u1 Wi) sA sA))) sA)) (λv=>Ab)
def Z81:okE ⟨394,[Zt],[Zt],u1 ND,.ow⟩:=TJ (sN lT) Zd func394 call394 (sH (.join [tY 1 sD,tY 2 sD,tY 3 sD] (u3 I4) sA (.seq (sG (.block (sG (.cond sA (sG (.cond sA (sG (.cond sA (.join [tY 1 sD,tY 2 sD,tY 3 sD,pV 41 .bool] (u4 BV) sA sA))))))))) sA))) ⟨(λv=>Ab),λv=>Ab⟩
abbrev cZ:LR:=⟨268,[Zt],[.bool],u1 Wq,.ow⟩
def dY:okE cZ:=TJ (sP Zvs Z81 Kj) Zd func268 call268 sA
def Zle:okE ⟨267,[Zt],[.bool],u1 QI,.ow⟩:=TJ (sN dY) Zd func267 call267 sA
def Zja:okE ⟨392,[.slice 154 Zt,.fnc 267],[wR],λxs=>Y3 xs.1,.ow⟩:=TJ (sN Zle) Zd func392 call392 (sG (sF [pV 0 (.slice 154 Zt),pV 1 (.fnc 267),pV 7 tI,pV 8 tI] (λN=>u4 (Qy N)) (u4 X6) (λK1=>sA))) ⟨λ_=>rfl,λN v=>Ab⟩
def Z1r:okE ⟨266,[.slice 154 Zt,.fnc 267],[.bool],λxs=>Xh xs.1,.ow⟩:=TJ (sN Zja) Zd func266 call266 sA
def Zp8:okE ⟨169,[.slice 100 Yk,wR],[.bool],u2 VX,.ow⟩:=TJ (sO Qc Z1r) Zd func169 call169 (sG (sF [pV 0 (.slice 100 Yk),pV 1 tI,pV 7 (.slice 100 Yk),pV 8 tI,pV 9 tI] (λN=>u5 (ll N)) (u5 pb) (λK1=>sA))) ⟨λ_=>rfl,λN v=>Ab⟩
def Znb:okE ⟨270,[Z1],[wR],u1 Zfy,.ow⟩:=TJ Zg Zd func270 call270 sA
def Qa3:okE ⟨269,[.slice 96 Z1,.fnc 270],[wR],λxs=>kb xs.1,.ow⟩:=TJ (sO zp Znb) Zd func269 call269 (sI (sF [pV 1 (.fnc 270),pV 5 tI,pV 11 (.slice 96 Z1),pV 12 tI,pV 13 tI] (λN=>u5 (J2 N)) (u5 bj) (λK1=>sA))) ⟨λ_=>rfl,λN v=>Ab⟩
def Ztd:okE ⟨170,[.slice 96 Z1],[wR],u1 QD,.ow⟩:=TJ (sN Qa3) Zd func170 call170 sA
def Zna:okE ⟨271,[Z1],[wR],u1 Zfx,.ow⟩:=TJ Zg Zd func271 call271 sA
def Zyu:okE ⟨269,[.slice 96 Z1,.fnc 271],[wR],λxs=>ka xs.1,.ow⟩:=TJ (sO zp Zna) Zd func269 call269 (sI (sF [pV 1 (.fnc 271),pV 5 tI,pV 11 (.slice 96 Z1),pV 12 tI,pV 13 tI] (λN=>u5 (J1 N)) (u5 bi) (λK1=>sA))) ⟨λ_=>rfl,λN v=>Ab⟩
def Ztb:okE ⟨171,[.slice 96 Z1],[wR],u1 QA,.ow⟩:=TJ (sN Zyu) Zd func171 call171 sA
abbrev cT:LR:=⟨99,[Zq],[.bool],u1 ck,.ow⟩
def bm:okE cT:=TJ (sW Oz zp cq kE WD yU Qc Zp8 Ztd Ztb) Zd func99 call99 sA
def Y':okE ⟨100,[Zq],[.bool],u1 sy,.ow⟩:=TJ Zg Zd func100 call100 sA
abbrev Jg:LR:=⟨172,[Zq],[.bool],u1 Kw,.ow⟩
def W9:okE Jg:=TJ (sO bm Y') Zd func172 call172 sA
abbrev mU:A9:=⟨174,[.bx 37 Zq sC,.sh (.bool)],.fp Zq 0 [7] [6],u2 Kp⟩
def ue:DQ mU:=Gv [0] Zg Zd func174 call174 sA
def Zvw:okE ⟨173,[gg],[wR,gg,.bool],u1 ye,.ow⟩:=TJ (sN WD) Zd func173 call173 sA
abbrev Z12:LR:=⟨272,[.bool],[wR],u1 pe,.ow⟩
def Ud:okE Z12:=TJ Zg Zd func272 call272 sA
def Z3a:okE ⟨175,[wR,.bool,.bool],[wR],u3 Ib,.ow⟩:=TJ (sO Qc Ud) Zd func175 call175 sA
def bR:okE ⟨273,[wR],[.bool],u1 bz,.ow⟩:=TJ (sN Kj) Zd func273 call273 sA
def Zm5:okE ⟨274,[],[Qh],λ_=>Zfv,.ow⟩:=TJ Zg Zd func274 call274 sA
def Qxc:okE ⟨275,[],[Y6],λ_=>uZ,.ow⟩:=TJ Zg Zd func275 call275 sA
def yV:okE ⟨395,[wR],[.bool],u1 wz,.ow⟩:=TJ (sN bR) Zd func395 call395 sA
def Zpy:okE ⟨407,[wR],[.bool],u1 Zis,.ow⟩:=TJ (sN bR) Zd func407 call407 sA
abbrev ZI:LR:=⟨289,[.bool,wR],[.bool],u2 Vk,.ow⟩
def yt:okE ZI:=TJ (sO bR Zpy) Zd func289 call289 sA
abbrev oN:LR:=⟨276,[.bool,wR],[.bool],u2 uV,.ow⟩
def QW:okE oN:=TJ (sP bR yV yt) Zd func276 call276 sA
abbrev jk:LR:=⟨277,[.bool,wR],[.bool],u2 iB,.ow⟩
def vq:okE jk:=TJ (sP bR yV yt) Zd func277 call277 sA
def Zzj:okE ⟨396,[wR],[Ku,.bool],u1 Zsf,.ow⟩:=TJ (sN zt) Zd func396 call396 sA
def Zs6:okE ⟨278,[wR],[Zv,.bool],u1 RM,.ow⟩:=TJ (sN Zzj) Zd func278 call278 sA
def Zd8:okE ⟨176,[.bool,wR,cR,cR],[Z1,.bool],u4 vi,.ow⟩:=TJ (sV bR Oz Zm5 Qxc QW vq Zs6 Zd7 Zd9) Zd func176 call176 sA
def Zk9:okE ⟨397,[Z1,.sptr 3 wR],[.bool],u2 Zdr,.ow⟩:=TJ Zg Zd func397 call397 sA
def Zyb:okE ⟨280,[.slice 96 Z1,.clo 397 (.pair (.sptr 3 wR) (.unit))],[wR],u2 Yu,.ow⟩:=TJ (sN Zk9) Zd func280 call280 (sG (sF [pV 0 (.slice 96 Z1),pV 1 (.clo 397 (.pair (.sptr 3 wR) (.unit))),pV 7 tI,pV 8 tI] (λN=>u4 (Qu N)) (u4 Xw) (λK1=>sA))) ⟨λ_=>rfl,λN v=>Ab⟩
abbrev Xp:LR:=⟨279,[.slice 96 Z1,wR],[wR],u2 Z5,.ow⟩
def Yd:okE Xp:=TJ (sN Zyb) Zd func279 call279 sA
def Zm7:okE ⟨281,[Z1,.sptr 96 Z1],[.bool],u2 Zfw,.ow⟩:=TJ Zg Zd func281 call281 sA
def Z2k:okE ⟨280,[.slice 96 Z1,.clo 281 (.pair (.sptr 96 Z1) (.unit))],[wR],u2 Xn,.ow⟩:=TJ (sN Zm7) Zd func280 call280 (sG (sF [pV 0 (.slice 96 Z1),pV 1 (.clo 281 (.pair (.sptr 96 Z1) (.unit))),pV 7 tI,pV 8 tI] (λN=>u4 (Qv N)) (u4 Xz) (λK1=>sA))) ⟨λ_=>rfl,λN v=>Ab⟩
set_option maxHeartbeats 4000000 in
def Qix(k:Nat)(hk:0<k)(zE:∀w,(L3 96).run qA w=.ok k w)(b n c i vb m vc:Nat)(cur vcur:Array Lb)(t:TypeId)(w:Y)(hi:i<n)(hm:0<m)(hroom:n+m<=c)(hc:c<=maxLen)(hvb:vb≠b)
  (hb:w.heap[b]? =O (.cells cur 96 (0,0))) (hcs:cur.size=c*k) (hv:w.heap[vb]? =O (.cells vcur t (0,0))) (hvs:m*k<=vcur.size)
  (h1:∀u∈cur.toList.take (n*k),u.oneCell'=Lc) (h1v:∀u∈vcur.toList.take (m*k),u.oneCell'=Lc):
  Li qA 282 #[.slice (O ⟨b,0,S⟩) n c,.int .i64 i,.slice (O ⟨vb,0,S⟩) m vc] w λe w'=>
   e=.returned (.slice (O ⟨b,0,S⟩) (n+m) c)/\ ∃R1 R2:Array Lb,w'=(w.drew.setRow b R1).setRow b R2/\R2.size=cur.size/\
    R2.toList.take ((n+m)*k)=cur.toList.take (i*k)++vcur.toList.take (m*k)++(cur.toList.take (n*k)).drop (i*k):=by
 have hz1:¬((m:Int)=0):=Aa
 have hz2:¬((i:Int)=(n:Int)):=Aa
 have h63:c<=9223372036854775807:=by unfold maxLen at hc;omega
 have hw1:Lt.wrap ((i:Int)+(m:Int))=(i:Int)+(m:Int):=by rw[Lu];omega
 have hw2:Lt.wrap ((n:Int)+(m:Int))=(n:Int)+(m:Int):=by rw[Lu];omega
 have hb1:(0:Int)<=(i:Int)+(m:Int):=Aa
 have hin:i<=n:=Aa
 have htn:((i:Int)+(m:Int)).toNat=i+m:=Aa
 have hb2:¬(c=i+m):=Aa
 have hb3:(i:Int)<=(n:Int)+(m:Int):=Aa
 have hb4:¬(c=i):=Aa
 have hov:∀lb cb,(callFunc 398 #[.slice (O ⟨vb,0,S⟩) m vc,.slice (O ⟨b,(i+m)*k,S⟩) lb cb]).run qA w=.ok (.value (.bool Ll)) w:=λlb cb=>by
  rw[run_callFunc_extern Tryz.func398 Ab Ab Ab (e:=Extern.SlicesOverlaps.overlaps #[26,26] #[4]) Ab,
   Lib.run_overlaps_apart w 26 4 96 Ab k zE ⟨vb,0,S⟩ ⟨b,(i+m)*k,S⟩ m vc lb cb hvb t 96 vcur.size cur.size (by simp[Y.shape?,hv]) (by simp[Y.shape?,hb]) (by rw[hcs];exact Nat.mul_ne_zero (by omega) (by omega)) (by simp[Me,hv]) (by simp[Me,hv])]
  rfl
 obtain⟨C,hC⟩:∃C,C=(cur.toList.take (n*k)).drop (i*k):=⟨_,rfl⟩
 obtain⟨V,hV⟩:∃V,V=vcur.toList.take (m*k):=⟨_,rfl⟩
 have hnk:n*k<=cur.size:=by rw[hcs];exact Ld _ Aa
 have hmk:(n+m)*k<=cur.size:=by rw[hcs];exact Ld _ hroom
 have hCl:C.length=(n-i)*k:=by rw[hC];simp only[Lj,La,Array.length_toList];rw[Lv hnk,Mc]
 have hVl:V.length=m*k:=by rw[hV];simp only[La,Array.length_toList];omega
 obtain⟨R1,hR1⟩:∃R1:Array Lb,R1=(cur.toList.take ((i+m)*k)++C++cur.toList.drop ((i+m)*k+C.length)).toArray:=⟨_,rfl⟩
 have e1:(i+m)*k+(n-i)*k=(n+m)*k:=by rw[<-Lm];congr 1;omega
 have e2:i*k+m*k=(i+m)*k:=by rw[<-Lm]
 have hR1s:R1.size=cur.size:=by rw[hR1];simp only[Lo,Lh,La,Lj,Array.length_toList];omega
 obtain⟨R2,hR2⟩:∃R2:Array Lb,R2=(R1.toList.take (i*k)++V++R1.toList.drop (i*k+V.length)).toArray:=⟨_,rfl⟩
 have hcp1:∀ty dc sc,(L2 #[26,26] ty #[.slice (O ⟨b,(i+m)*k,S⟩) (n+m- (i+m)) dc,.slice (O ⟨b,i*k,S⟩) (n+m-i) sc]).run qA w.drew=.ok (goInt (n-i:Nat)) (w.drew.setRow b R1):=λty dc sc=>by
  rw[hR1];exact Un Ab zE w.drew ty b ((i+m)*k) (n+m- (i+m)) dc ⟨b,i*k,S⟩ (n+m-i) sc cur 96 C hb (n-i) (by simp only[L5];split<;>omega) hCl
   (λj u hj=>by
    rw[hC,L8,Ln]at hj;split at hj
    ·rw[Ls];have hd:w.drew.heap[b]? =O (.cells cur 96 (0,0)):=hb;simp only[Lx,hd];simpa using hj
    ·cases hj) Aa (λu hu=>h1 u (by rw[hC]at hu;exact L9 hu))
 have hcp2:∀(W:Y),W.heap=(w.drew.setRow b R1).heap-> ∀ty dc,(L2 #[26,26] ty #[.slice (O ⟨b,i*k,S⟩) (n+m-i) dc,.slice (O ⟨vb,0,S⟩) m vc]).run qA W=.ok (goInt m) (W.setRow b R2):=λW hW ty dc=>by
  rw[hR2];exact Un Ab zE W ty b (i*k) (n+m-i) dc ⟨vb,0,S⟩ m vc R1 96 V (by rw[hW];exact Gd (W:=w.drew) hb) m (by simp only[L5];split<;>omega) hVl
   (λj u hj=>by
    rw[hV,Ln]at hj;split at hj
    ·rw[Ls];simp only[Lx,hW];have:(w.drew.setRow b R1).heap[vb]? =O (.cells vcur t (0,0)):=(UZ (W:=w.drew) hvb).trans hv;rw[this];simpa using hj
    ·cases hj) Aa (λu hu=>h1v u (by rw[hV]at hu;exact hu))
 have hT:(cur.toList.take ((i+m)*k)).length=(i+m)*k:=by
  have:(i+m)*k<=(n+m)*k:=Ld _ Aa;rw[La,Array.length_toList];omega
 have hTi:(cur.toList.take (i*k)).length=i*k:=by
  have:i*k<=(n+m)*k:=Ld _ Aa;rw[La,Array.length_toList];omega
 have r1:R1.toList.take (i*k)=cur.toList.take (i*k):=by
  rw[hR1];simp only[];rw[Lz,Mb (by rw[hT];omega),L4,Lv Aa]
 have r2:R1.toList.drop (i*k+V.length)=C++cur.toList.drop ((n+m)*k):=by
  rw[hVl,e2,hR1];simp only[];rw[Lz,List.drop_left' hT,hCl,e1]
 have hf1:R2.size=cur.size:=by rw[hR2];simp only[Lo,Lh,La,Lj,Array.length_toList];omega
 have hf2:R2.toList.take ((n+m)*k)=cur.toList.take (i*k)++V++C:=by
  rw[hR2];simp only[];rw[r1,r2,<-Lz,L0 (by simp only[Lh,hTi,hVl,hCl];omega)]
 rw[<-hV,<-hC];clear hR1 hR2 hC hV r1 r2 hTi hT e1 e2 hR1s hCl hVl hnk hmk h1 h1v hvs hcs hv hb;have mixed:qA.follows Ly=true:=Ab
 go_enter Tryz.func282,Tryz.ntmps282
 go_wp2_with (simp only[hov])
 go_region_law_o (refine Rr rfl (f8 (t:=26) (t':=26) rfl (by simp[Lq,Lr]) (by simp[Lq,Lr]) (hcp1 _ _ _)) ?_)
 go_wp2_with (at_builtin;refine VL rfl (f8 (t:=26) (t':=26) rfl rfl rfl (hcp2 _ rfl _ _)) ?_)
 go_ret
 exact⟨rfl,R1,R2,rfl,hf1,hf2⟩
set_option maxHeartbeats 4000000 in
def Qp4(k:Nat)(hk:0<k)(zE:∀w,(L3 96).run qA w=.ok k w)(base:Option Lf)(n c vb m vc:Nat)(w w':Y)(v':Lb)(hm:0<m)(hnc:n<=c)(hc:c<=maxLen)(hnil:base=S->n=0/\c=0)
  (hap:(L1 #[26,26] 26 #[.slice base n c,.slice (O ⟨vb,0,S⟩) m vc]).run qA w=.ok v' w'):
  Li qA 282 #[.slice base n c,.int .i64 n,.slice (O ⟨vb,0,S⟩) m vc] w λe w2=>e=.returned v'/\w2=w':=by
 have hz1:¬((m:Int)=0):=Aa
 have h63:c<=9223372036854775807:=by unfold maxLen at hc;omega
 have mixed:qA.follows Ly=true:=Ab
 cases base with
 |none=>
  obtain⟨rfl,rfl⟩:=hnil rfl
  go_enter Tryz.func282,Tryz.ntmps282
  go_wp2_with (at_builtin;refine VL rfl (Cr (t:=26) (t':=26) rfl rfl rfl hap) ?_)
  go_ret
  exact⟨rfl,rfl⟩
 |some ad=>
  go_enter Tryz.func282,Tryz.ntmps282
  go_wp2_with (at_builtin;refine VL rfl (Cr (t:=26) (t':=26) rfl rfl rfl hap) ?_)
  all_goals (go_ret;exact⟨rfl,rfl⟩)
set_option maxHeartbeats 4000000 in
def Ql7(k:Nat)(hk:0<k)(zE:∀w,(L3 96).run qA w=.ok k w)(b n c i vb m vc g G:Nat)(cur vcur ROW:Array Lb)(t:TypeId)(w W1:Y)(hi:i<n)(hm:0<m)(hnc:n<=c)(hroom:c<n+m)(hc:c<=maxLen)(hGn:n+m<=G)(hGm:G<=maxLen)
  (hb:W1.heap[b]? =O (.cells cur 96 (0,0))) (hcs:cur.size=c*k) (hv:W1.heap[vb]? =O (.cells vcur t (0,0))) (hvs:m*k<=vcur.size) (hg:W1.heap[g]? =O (.cells ROW 96 (0,0))) (hRs:ROW.size=G*k) (hgb:b≠g) (hgv:vb≠g)
  (h1:∀u∈cur.toList.take (n*k),u.oneCell'=Lc) (h1v:∀u∈vcur.toList.take (m*k),u.oneCell'=Lc)
  (hap:(L1 #[26,3] 26 #[.slice (O ⟨b,0,S⟩) i c,.int .i64 ((n:Int)+(m:Int)- (i:Int))]).run qA w=.ok (.slice (O ⟨g,0,S⟩) (n+m) G) W1):
  Li qA 282 #[.slice (O ⟨b,0,S⟩) n c,.int .i64 i,.slice (O ⟨vb,0,S⟩) m vc] w λe w'=>
   e=.returned (.slice (O ⟨g,0,S⟩) (n+m) G)/\ ∃R1 R2:Array Lb,w'=((W1.setRow g R1).drew).setRow g R2/\R2.size=ROW.size/\
    R2.toList.take ((n+m)*k)=ROW.toList.take (i*k)++vcur.toList.take (m*k)++(cur.toList.take (n*k)).drop (i*k):=by
 have hz1:¬((m:Int)=0):=Aa
 have hz2:¬((i:Int)=(n:Int)):=Aa
 have hz3:(c:Int)<(n:Int)+(m:Int):=Aa
 have h63:c<=9223372036854775807:=by unfold maxLen at hc;omega
 have hG63:G<=9223372036854775807:=by unfold maxLen at hGm;omega
 have hw1:Lt.wrap ((i:Int)+(m:Int))=(i:Int)+(m:Int):=by rw[Lu];omega
 have hw2:Lt.wrap ((n:Int)+(m:Int))=(n:Int)+(m:Int):=by rw[Lu];omega
 have hw3:Lt.wrap ((n:Int)+(m:Int)- (i:Int))=(n:Int)+(m:Int)- (i:Int):=by rw[Lu];omega
 have hb1:(0:Int)<=(i:Int)+(m:Int):=Aa
 have hin:i<=n:=Aa
 have htn:((i:Int)+(m:Int)).toNat=i+m:=Aa
 have hb3:(i:Int)<=(n:Int)+(m:Int):=Aa
 have hGi:¬(G=i):=Aa
 have hGim:¬(G=i+m):=Aa
 have hci:¬(c=i):=Aa
 obtain⟨C,hC⟩:∃C,C=(cur.toList.take (n*k)).drop (i*k):=⟨_,rfl⟩
 obtain⟨V,hV⟩:∃V,V=vcur.toList.take (m*k):=⟨_,rfl⟩
 have hnk:n*k<=cur.size:=by rw[hcs];exact Ld _ hnc
 have hmk:(n+m)*k<=ROW.size:=by rw[hRs];exact Ld _ hGn
 have hCl:C.length=(n-i)*k:=by rw[hC];simp only[Lj,La,Array.length_toList];rw[Lv hnk,Mc]
 have hVl:V.length=m*k:=by rw[hV];simp only[La,Array.length_toList];omega
 have e1:(i+m)*k+(n-i)*k=(n+m)*k:=by rw[<-Lm];congr 1;omega
 have e2:i*k+m*k=(i+m)*k:=by rw[<-Lm]
 obtain⟨R1,hR1⟩:∃R1:Array Lb,R1=(ROW.toList.take (i*k)++V++ROW.toList.drop (i*k+V.length)).toArray:=⟨_,rfl⟩
 have hR1s:R1.size=ROW.size:=by rw[hR1];simp only[Lo,Lh,La,Lj,Array.length_toList];omega
 obtain⟨R2,hR2⟩:∃R2:Array Lb,R2=(R1.toList.take ((i+m)*k)++C++R1.toList.drop ((i+m)*k+C.length)).toArray:=⟨_,rfl⟩
 have hcp1:∀(W:Y),W.heap=W1.heap-> ∀ty dc,(L2 #[26,26] ty #[.slice (O ⟨g,i*k,S⟩) (n+m-i) dc,.slice (O ⟨vb,0,S⟩) m vc]).run qA W=.ok (goInt m) (W.setRow g R1):=λW hW ty dc=>by
  rw[hR1];exact Un Ab zE W ty g (i*k) (n+m-i) dc ⟨vb,0,S⟩ m vc ROW 96 V (by rw[hW];exact hg) m (by simp only[L5];split<;>omega) hVl
   (λj u hj=>by
    rw[hV,Ln]at hj;split at hj
    ·rw[Ls];simp only[Lx,hW,hv];simpa using hj
    ·cases hj) Aa (λu hu=>h1v u (by rw[hV]at hu;exact hu))
 have hcp2:∀(W:Y),W.heap=(W1.setRow g R1).heap-> ∀ty dc sc,(L2 #[26,26] ty #[.slice (O ⟨g,(i+m)*k,S⟩) (n+m- (i+m)) dc,.slice (O ⟨b,i*k,S⟩) (n-i) sc]).run qA W=.ok (goInt (n-i:Nat)) (W.setRow g R2):=λW hW ty dc sc=>by
  rw[hR2];exact Un Ab zE W ty g ((i+m)*k) (n+m- (i+m)) dc ⟨b,i*k,S⟩ (n-i) sc R1 96 C (by rw[hW];exact Gd hg) (n-i) (by simp only[L5];split<;>omega) hCl
   (λj u hj=>by
    rw[hC,L8,Ln]at hj;split at hj
    ·rw[Ls];have hd:W.heap[b]? =O (.cells cur 96 (0,0)):=by rw[hW];exact(UZ hgb).trans hb
     simp only[Lx,hd];simpa using hj
    ·cases hj) Aa (λu hu=>h1 u (by rw[hC]at hu;exact L9 hu))
 have hTi:(ROW.toList.take (i*k)).length=i*k:=by
  have:i*k<=(n+m)*k:=Ld _ Aa;rw[La,Array.length_toList];omega
 have r1:R1.toList.take ((i+m)*k)=ROW.toList.take (i*k)++V:=by
  rw[hR1];simp only[];rw[L0 (by rw[Lh,hTi,hVl,e2])]
 have hf1:R2.size=ROW.size:=by rw[hR2];simp only[Lo,Lh,La,Lj,Array.length_toList];omega
 have hf2:R2.toList.take ((n+m)*k)=ROW.toList.take (i*k)++V++C:=by
  rw[hR2];simp only[];rw[r1,L0 (by simp only[Lh,hTi,hVl,hCl];omega)]
 rw[<-hV,<-hC];clear hR1 hR2 hC hV r1 hTi e1 e2 hR1s hCl hVl hnk hmk h1 h1v hvs hcs hv hb hg hRs;have mixed:qA.follows Ly=true:=Ab
 go_enter Tryz.func282,Tryz.ntmps282
 go_wp2_with (at_builtin;first|refine VL rfl (Cr (t:=26) (t':=3) rfl rfl rfl hap) ?_|refine VL rfl (f8 (t:=26) (t':=26) rfl rfl rfl (hcp1 _ rfl _ _)) ?_)
 go_region_law_o (refine Rr rfl (f8 (t:=26) (t':=26) rfl (by simp[Lq,Lr]) (by simp[Lq,Lr]) (hcp2 (W1.setRow g R1).drew (Eq.refl (W1.setRow g R1).heap) 3 (G- (i+m)) (c-i))) ?_)
 go_wp2
 go_ret
 exact⟨rfl,R1,R2,rfl,hf1,hf2⟩
def Qp3{t:Ty}(hT:Fs qA 26 (.slice 96 t))(hT2:Fs qA 96 t){vy:Lb}{ys:List Lb}{l l4:List t.den}{i:Nat}
  (hown:w.ownsRow 0 96 t.size v l.length xs) (hy:w.ownsRow 0 96 t.size vy l4.length ys) (hne:∀b,v.ownBlock=O b->vy.ownBlock≠O b) (hi:i<=l.length) (hm:0<l4.length) (hp:l.length+l4.length<=Qg)
  (h1:∀u∈xs,u.oneCell'=Lc) (h1v:∀u∈ys,u.oneCell'=Lc):
  Li qA 282 #[v,.int .i64 i,vy] w λe w'=> ∃v',e=.returned v'/\w'.ownsRow 0 96 t.size v' (l.length+l4.length) (xs.take (i*t.size)++ys++xs.drop (i*t.size))/\w.grownBy w' v.ownBlock/\(v'.ownBlock=v.ownBlock\/ ∀b,v'.ownBlock=O b->w.heap.size<=b):=by
 have hp':l.length+l4.length<=17179869184:=hp;obtain⟨hu,hpos⟩:=hT.slice;have zE:=λw=>hT2.sizeOf w;obtain⟨hyl,hy2⟩:=hy;rcases hy2 with⟨_,h0⟩|⟨vb,vc,vcur,rfl,_,hv,hmc,hvm,hvs,hvt⟩
 ·omega
 have hvs':l4.length*t.size<=vcur.size:=by rw[hvs];exact Ld _ hmc
 have ends:∀base n c,v=.slice base n c->n=l.length->n<=c->c<=maxLen->(base=S->n=0/\c=0)->i=n->Li qA 282 #[v,.int .i64 i,.slice (O ⟨vb,0,S⟩) l4.length vc] w λe w'=> ∃v',e=.returned v'/\w'.ownsRow 0 96 t.size v' (l.length+l4.length) (xs.take (i*t.size)++ys++xs.drop (i*t.size))/\w.grownBy w' v.ownBlock/\(v'.ownBlock=v.ownBlock\/ ∀b,v'.ownBlock=O b->w.heap.size<=b):=by
  rintro base n c rfl rfl hnc hc hnil rfl;obtain⟨v',w',g1,g2,g3,g4⟩:=OX hT hT2 hown (l4:=l4) (ys:=ys) ⟨O ⟨vb,0,S⟩,vc,rfl,hmc,.inr ⟨_,rfl,λj u hj=>by
   rw[<-hvt,Ln]at hj;split at hj
   ·rw[Ls];simp only[Lx,hv];simpa using hj
   ·cases hj⟩⟩ hyl h1v hp (Lw _)
  refine(Qp4 t.size hpos zE base _ c vb _ vc w w' v' hm hnc hc hnil g1).mono λe w2 ⟨he,hw⟩=>?_;subst hw;refine⟨v',he,?_,g3,g4⟩;have e1:xs.take (l.length*t.size)=xs:=List.take_of_length_le (by rw[hown.1];exact Lp _);have e2:xs.drop (l.length*t.size)=[]:=List.drop_of_length_le (by rw[hown.1];exact Lp _);rw[e1,e2,List.append_nil];exact g2
 rcases hown.2 with⟨rfl,h0⟩|⟨b,c,cur,rfl,_,hb,hnc,hc,hcs,htk⟩
 ·exact ends S 0 0 rfl h0.symm (Lp _) (Lw _) (λ_=>⟨rfl,rfl⟩) Aa
 by_cases hin:i=l.length
 ·exact ends (O ⟨b,0,S⟩) l.length c rfl rfl hnc hc (λh=>by cases h) hin
 have hil:i<l.length:=Aa
 have hvb:vb≠b:=λe=>hne b rfl (by rw[e];rfl);have h1':∀u∈cur.toList.take (l.length*t.size),u.oneCell'=true:=by rw[htk];exact h1
 have h1v':∀u∈vcur.toList.take (l4.length*t.size),u.oneCell'=true:=by rw[hvt];exact h1v
 have hlen:(xs.take (i*t.size)++ys++xs.drop (i*t.size)).length=(l.length+l4.length)*t.size:=by
  have:i*t.size<=l.length*t.size:=Ld _ hi;simp only[Lh,La,Lj,hown.1,hyl,Lm];omega
 have hcap:l.length+l4.length<=maxLen:=by simp only[maxLen];omega
 by_cases hroom:l.length+l4.length<=c
 ·refine(Qix t.size hpos zE b _ c i vb _ vc cur vcur 96 w hil hm hroom hc hvb hb hcs hv hvs' h1' h1v').mono ?_;rintro e w' ⟨he,R1,R2,rfl,hs,ht⟩;have hik:i*t.size<=l.length*t.size:=Ld _ hi;have hct:cur.toList.take (i*t.size)=xs.take (i*t.size):=by rw[<-htk,L4,Lv hik]
  rw[htk,hvt,hct]at ht;refine⟨_,he,⟨hlen,.inr ⟨b,c,R2,rfl,Lw _,Gd (Gd (W:=w.drew) hb),hroom,hc,by rw[hs,hcs],ht⟩⟩,?_,.inl rfl⟩;refine⟨rfl,rfl,rfl,by rw[OA,OA];exact Lp _,λx hx hne=>?_⟩;have:x≠b:=λe=>hne (by rw[e];rfl);rw[UZ this,UZ this];rfl
 ·obtain⟨i0,hi0,his,hby,hz0⟩:=hT2.size;have hzs:(Yh t (Jk t)).cells.size=t.size:=by rw[zY hT2.plain];simp[zF hT2.plain]
  have hbt:(l.length+l4.length)*i0.bytes<=140737488355328:=by
   have:(l.length+l4.length)*i0.bytes<=17179869184*8192:=Nat.mul_le_mul hp' hby;omega
  have hik:i*t.size<=l.length*t.size:=Ld _ hi;have hold:(Le.firstCells i0.size i (.slice (O ⟨b,0,S⟩) i c)).run qA w.drew=.ok (xs.take (i*t.size)).toArray w.drew:=
   run_firstCells_some w.drew i0.size i ⟨b,0,S⟩ i c (xs.take (i*t.size)) (by rw[La,hown.1,his];omega) λj u hj=>by
    rw[Ln]at hj;split at hj
    ·exact Y.ownsRow.cells (w:=w) hown rfl j u hj
    ·cases hj
  have ek:i+(l.length+l4.length-i)=l.length+l4.length:=Aa
  have h48:(l.length+l4.length-i)*i0.bytes<=281474976710656:=by
   have:(l.length+l4.length-i)*i0.bytes<=(l.length+l4.length)*i0.bytes:=Ld _ Aa;omega
  have hap:=Lib.run_append_grow_zeros (P:=qA) w 26 3 26 96 i0 _ .i64 .i64 hu Ab hi0 hz0 (O ⟨b,0,S⟩) i c _ hold (l.length+l4.length-i) Aa (by rw[his];exact hpos) Aa
   (by simp only[maxLen]at hcap;omega) h48 (by rw[ek];exact growslice_fits (by omega) hbt)
  rw[ek,show(((l.length+l4.length-i:Nat)):Int)=(l.length:Int)+(l4.length:Int)- (i:Int) by omega]at hap;have hge:=grownCap_ge w (l.length+l4.length) c 96;have hcm:grownCap w (l.length+l4.length) c 96<=maxLen:=grownCap_le_maxLen w (l.length+l4.length) c 96 hcap;generalize grownCap w (l.length+l4.length) c 96=G at hap hge hcm;obtain⟨ROW,hROW⟩:∃ROW:Array Lb,ROW=(xs.take (i*t.size)).toArray++L7 (Yh t (Jk t)).cells (l.length+l4.length-i)++L7 (Yh t (Jk t)).cells (G- (l.length+l4.length)):=⟨_,rfl⟩
  rw[<-hROW]at hap;have hRs:ROW.size=G*t.size:=by
   have e3:i+(l.length+l4.length-i)+(G- (l.length+l4.length))=G:=Aa
   rw[<-e3,hROW];simp only[Array.size_append,Lo,size_zeroCells,hzs,La,hown.1,Lm,Lv hik]
  have hRt:ROW.toList.take (i*t.size)=xs.take (i*t.size):=by
   rw[hROW];simp only[Array.toList_append,Lz];rw[L0 (by rw[La,hown.1];omega)]
  have hbw:b<w.heap.size:=by
   by_cases h:b<w.heap.size
   ·exact h
   ·rw[Array.getElem?_eq_none Aa]at hb;cases hb
  have hvw:vb<w.heap.size:=by
   by_cases h:vb<w.heap.size
   ·exact h
   ·rw[Array.getElem?_eq_none Aa]at hv;cases hv
  have hW1:∀x,x<w.heap.size->(w.drew.alloc (.cells ROW 96)).heap[x]? =w.heap[x]? :=λx hx=>heap_alloc_old w.drew _ hx;refine(Ql7 t.size hpos zE b _ c i vb _ vc w.heap.size G cur vcur ROW 96 w (w.drew.alloc (.cells ROW 96)) hil hm hnc Aa hc hge hcm (by rw[hW1 b hbw];exact hb) hcs (by rw[hW1 vb hvw];exact hv) hvs' (heap_alloc_new w.drew _) hRs Aa Aa h1' h1v' hap).mono ?_;rintro e w' ⟨he,R1,R2,rfl,hs,ht⟩;rw[htk,hvt,hRt]at ht;refine⟨_,he,⟨hlen,.inr ⟨w.heap.size,G,R2,rfl,Lw _,Gd (W:=((w.drew.alloc (.cells ROW 96)).setRow w.heap.size R1).drew) (Gd (heap_alloc_new w.drew _)),hge,hcm,by rw[hs,hRs],ht⟩⟩,?_,.inr λb' hb'=>?_⟩
  ·refine⟨rfl,rfl,rfl,?_,λx hx hne=>?_⟩
   ·rw[OA];show w.heap.size<=((w.drew.alloc (.cells ROW 96)).setRow w.heap.size R1).heap.size;rw[OA];simp[Y.alloc]
   ·have:x≠w.heap.size:=Aa
    rw[UZ this];show((w.drew.alloc (.cells ROW 96)).setRow w.heap.size R1).heap[x]? =_;rw[UZ this];exact hW1 x hx
  ·simp only[Lb.ownBlock,pB]at hb';omega
abbrev Zzb:A9:=⟨282,[.mv (.slice 96 Z1) sC,.sh wR,.mv (.slice 96 Z1) sC],.vals [.slice 96 Z1],u3 Hp⟩
def Zwi:gZ qA glob Zzb:=gZ.insert Tryz.call282 λh1 h2 h3 h4 h5 h6 h7 h8=>Qp3 GL O6 h1 h2 h3 h4 h5 h6 h7 h8
def Zea:okE ⟨177,[.slice 96 Z1,Z1],[.slice 96 Z1],u2 lk,.ow⟩:=TJ (sQ Qhd Yd Zcb Z2k) (Q5 Zwi Zd) func177 call177 (sJ (.join [.shp 3 Z1,wQ 5 sC,pV 7 tI] (u3 mZ) sA sA)) (λv=>Ab)
def Zp1:okE ⟨101,[Zq,.bool],[wR,Zq,.bool],u2 yN,.ow⟩:=TJ (sS Xb W9 Zvw Z3a Zd8 Zea) (Q5 ue Zd) func101 call101 (sJ (.join [pV 1 .bool,pY 2 sD,pY 5 sC,pY 7 (sE (sE (sE (.p sC (sE (sE (sE (sE sC)))))))),pV 8 tI,pV 10 .bool] (u6 bP) sA sA)) (λv=>Ab)
def Z80:okE ⟨102,[.bool,.str,.str],[.str],u3 zN,.ow⟩:=TJ Zg Zd func102 call102 sA
def Zgd:okE ⟨283,[Zv],[.bool],u1 yg,.ow⟩:=TJ (sN xm) Zd func283 call283 sA
def Z3b:okE ⟨400,[Ku],[wR],u1 JS,.ow⟩:=TJ (sN QY) Zd func400 call400 sA
def Ztg:okE ⟨284,[Ku,.str],[Ku,wR],u2 QG,.ow⟩:=TJ (sO KA Z3b) Zd func284 call284 (sG (.join [pV 1 .str,wC 2 sD,wC 4 sC,wC 6 sC,pV 7 tI] (u5 uE) sA (sF [pV 1 .str,wC 2 sD,wC 4 sC,wC 6 sC,pV 7 tI,pV 16 tI,pV 17 tI] (λN=>u7 (m9 N)) (u7 Qr8) (λK1=>sA)))) ⟨(λv=>Ab),λ_=>rfl,λN v=>Ab⟩
abbrev zk:LR:=⟨180,[Zv,.str],[Zv,wR],u2 pa,.ow⟩
def Znd:okE zk:=TJ (sQ W8 Zgd Ztg pl) Zd func180 call180 sA
abbrev nz:oq:={f:=179,n:=19,np:=4,rv:=Tryz.f179.results.toList,run:=λln _ k s=>Kz (Vc [] ln [zk] [] [] []) 19 (Xr Tryz.f179) .leaf k s}
def Qlo:Y2 qA glob nz:=Y2.of (C:=Vc [] [] [zk] [] [] []) (λln=>X8 (ln:=ln) Xa rfl (sN Znd) Qk Zd Ql) Tryz.func179 rfl Tryz.call179 Ah rfl rfl .leaf (λ_ _ _=>rfl)
abbrev Zop:oq:={f:=178,n:=61,np:=4,rv:=Tryz.f178.results.toList,run:=λln _ k s=>Kz (Vc [nz] ln [Q2,Xp,Jg] [] [] []) 61 (Xr Tryz.f178) .leaf k s}
def Z2u:Y2 qA glob Zop:=Y2.of (C:=Vc [nz] [] [Q2,Xp,Jg] [] [] []) (λln=>X8 (ln:=ln) (Qi Qlo Xa) rfl (sP Xb Yd W9) Qk Zd Ql) Tryz.func178 rfl Tryz.call178 Ah rfl rfl .leaf (λ_ _ _=>rfl)
abbrev Zbk:LR:=⟨104,[Zq,wR,.str],[wR,Zq],u3 xd,.ow⟩
def Zne:Wz qA glob Zbk:=by
 refine Wz.of (e:=Zbk) (C:=Vc [nz,Zop] [] [] [] [] []) (X8 (Qi Qlo (Qi Z2u Xa)) rfl Zg Qk Zd Ql) rfl Tryz.func104 (c:=Xr Tryz.f104) rfl Tryz.call104 Ah
  sA ?_ ?_
 ·exact lf
 ·intro xs r h;refine X (U ?_) h;kernel_rfl
def Zte:okE ⟨287,[Xi,wR],[.str,Xi],u2 QE,.an⟩:=TJ (sO zr Zca) Zd func287 call287 (sG (.join [wD 5 sC,wD 6 sC,pV 7 tI] (u3 uC) sA (sI (.join [wD 5 sC,wD 6 (sE (.p (.u .an) sD)),pV 8 .str] (u3 uD) sA sA)))) ⟨(λv=>Ab),λv=>Ab⟩
abbrev xD:LR:=⟨182,[Qh,wR],[.str,Qh],u2 iI,.an⟩
def Zlc:okE xD:=TJ (sP nk ft Zte) Zd func182 call182 (sL (.join [wG 5 sC,wG 6 (sE (.p (sE (.p (.u .an) sD)) sD)),pV 7 .str] (u3 m7) sA sA)) (λv=>Ab)
abbrev YS:LR:=⟨288,[Kk,wR],[Kk,.bool],u2 W7,.ow⟩
def Zs9:okE YS:=TJ (sO kE Qc) Zd func288 call288 sA
def Zpx:okE ⟨408,[Z1],[.bool],u1 VW,.ow⟩:=TJ Zg Zd func408 call408 sA
def Zpv:okE ⟨471,[Qh],[.bool],u1 VV,.ow⟩:=TJ (sN ft) Zd func471 call471 sA
def Zpw:okE ⟨409,[Z1],[.bool],u1 yJ,.ow⟩:=TJ (sN Zpv) Zd func409 call409 sA
abbrev xZ:LR:=⟨290,[Z1],[.bool],u1 Vd,.ow⟩
def Zlb:okE xZ:=TJ (sP Zgb Zpx Zpw) Zd func290 call290 sA
abbrev uQ:A9:=⟨292,[.bx 37 Zq sC,.sh wR],.fp Zq 0 [9] [8],u2 Z2⟩
def Qwm:DQ uQ:=Gv [0] (sN yV) Zd func292 call292 sA
abbrev tn:A9:=⟨292,[.bx 37 Zq (.u .an),.sh wR],.fp Zq 0 [9] [8],u2 Xc⟩
def Zhv:DQ tn:=Gv [0] (sN yV) Zd func292 call292 sA
abbrev rM:LR:=⟨291,[Q7],[Q7,.bool],u1 Z0,.ow⟩
def Zf9:okE rM:=TJ (sN yU) Zd func291 call291 sA
abbrev hD:oq:={f:=183,n:=38,np:=3,rv:=Tryz.f183.results.toList,run:=λln _ k s=>Kz (Vc [] ln [YS] [] [] []) 38 (Xr Tryz.f183) .leaf k s}
def Qob:Y2 qA glob hD:=Y2.of (C:=Vc [] [] [YS] [] [] []) (λln=>X8 (ln:=ln) Xa rfl (sN Zs9) Qk Zd Ql) Tryz.func183 rfl Tryz.call183 Ah rfl rfl .leaf (λ_ _ _=>rfl)
abbrev Ja:oq:={f:=191,n:=16,np:=2,rv:=Tryz.f191.results.toList,run:=λln _ k s=>Kz (Vc [] ln [Xp] [] [] []) 16 (Xr Tryz.f191) .leaf k s}
def jc:Y2 qA glob Ja:=Y2.of (C:=Vc [] [] [Xp] [] [] []) (λln=>X8 (ln:=ln) Xa rfl (sN Yd) Qk Zd Ql) Tryz.func191 rfl Tryz.call191 Ah rfl rfl .leaf (λ_ _ _=>rfl)
abbrev rl:oq:={f:=184,n:=43,np:=2,rv:=Tryz.f184.results.toList,run:=λln _ k s=>Kz (Vc [Ja] ln [ZI,xZ,rM] [] [tn] []) 43 (Xr Tryz.f184) .leaf k s}
def Zf2:Y2 qA glob rl:=Y2.of (C:=Vc [Ja] [] [ZI,xZ,rM] [] [tn] []) (λln=>X8 (ln:=ln) (Qi jc Xa) rfl (sP yt Zlb Zf9) Qk (Q5 Zhv Zd) Ql) Tryz.func184 rfl Tryz.call184 Ah rfl rfl .leaf (λ_ _ _=>rfl)
abbrev oF:oq:={f:=181,n:=51,np:=6,rv:=Tryz.f181.results.toList,run:=λln _ k s=>Kz (Vc [hD,rl] ln [xD] [] [] []) 51 (Xr Tryz.f181) .leaf k s}
def Qhy:Y2 qA glob oF:=Y2.of (C:=Vc [hD,rl] [] [xD] [] [] []) (λln=>X8 (ln:=ln) (Qi Qob (Qi Zf2 Xa)) rfl (sN Zlc) Qk Zd Ql) Tryz.func181 rfl Tryz.call181 Ah rfl rfl .leaf (λ_ _ _=>rfl)
abbrev Zi4:oq:={f:=178,n:=61,np:=4,rv:=Tryz.f178.results.toList,run:=λln _ k s=>Kz (Vc [oF] ln [Q2,Xp,Jg] [] [] []) 61 (Xr Tryz.f178) .leaf k s}
def Zvd:Y2 qA glob Zi4:=Y2.of (C:=Vc [oF] [] [Q2,Xp,Jg] [] [] []) (λln=>X8 (ln:=ln) (Qi Qhy Xa) rfl (sP Xb Yd W9) Qk Zd Ql) Tryz.func178 rfl Tryz.call178 Ah rfl rfl .leaf (λ_ _ _=>rfl)
abbrev Zdf:LR:=⟨105,[Zq,wR,wR],[.str,.bool,Zq],u3 yO,.an⟩
def Zp5:Wz qA glob Zdf:=by
 refine Wz.of (e:=Zdf) (C:=Vc [oF,Zi4] [] [] [] [] []) (X8 (Qi Qhy (Qi Zvd Xa)) rfl Zg Qk Zd Ql) rfl Tryz.func105 (c:=Xr Tryz.f105) rfl Tryz.call105 Ah
  sA ?_ ?_
 ·exact lf
 ·intro xs r h;refine X (U ?_) h;kernel_rfl
def Zs3:okE ⟨106,[.str],[.str],u1 vd,.ow⟩:=TJ Zg Zd func106 call106 (sH (sF [pV 0 .str,wO 3 sC,pV 4 tI] (λN=>u3 (mV N)) (u3 ra) (λK1=>sA))) ⟨λ_=>rfl,λN v=>Ab⟩
def Zd6:okE ⟨410,[Kk],[.bool],u1 ZW,.ow⟩:=TJ (sN kE) Zd func410 call410 sA
abbrev q6:LR:=⟨299,[Kk,wR,wR],[Kk,.bool],u3 oZ,.ow⟩
def xM:okE q6:=TJ (sO Zd6 Qc) Zd func299 call299 (sH (.join [pV 1 tI,.box 3 30 Kk sD,.box 6 30 Kk sD] (u3 xG) sA sA)) (λv=>Ab)
def Qoe:okE ⟨293,[Zq,Kk,.bool],[wR,.bool],u3 gj,.ow⟩:=TJ (sO Zd6 xM) Zd func293 call293 sA
def Zd5:okE ⟨411,[Q7],[.bool],u1 vh,.ow⟩:=TJ (sN yU) Zd func411 call411 sA
abbrev Zde:LR:=⟨300,[Q7],[Q7,.bool],u1 mm,.ow⟩
def Zb9:okE Zde:=TJ (sN Zd5) Zd func300 call300 sA
def Zti:okE ⟨294,[Q7,.bool],[wR,.bool],u2 vm,.ow⟩:=TJ (sO Zd5 Zb9) Zd func294 call294 sA
abbrev Bn:LR:=⟨321,[Qh],[.bool],u1 lv,.ow⟩
def yu:okE Bn:=TJ Zg Zd func321 call321 sA
def Zgc:okE ⟨296,[Q7],[.bool],u1 D9,.ow⟩:=TJ (sN cq) Zd func296 call296 sA
def Zcz:okE ⟨295,[Zq,Z1],[.slice 154 Zt],u2 j6,.ow⟩:=TJ (sP yu Qoe Zgc) Zd func295 call295 (sH (.join [pY 2 sD,wE 3 sD,tZ 5 sC] (u3 aI) sA (.join [pY 2 sD,wE 3 sD,tZ 5 sC] (u3 aJ) sA (.join [wE 3 sD,tZ 5 sC] (u2 ey) sA sA)))) ⟨(λv=>Ab),(λv=>Ab),λv=>Ab⟩
abbrev Qod:LR:=⟨185,[Zq],[.slice 154 Zt],u1 q8,.ow⟩
def Zjg:okE Qod:=TJ (sR W9 Qoe Zti Zcz Zgc) Zd func185 call185 (sI (.join [pY 1 sD,tZ 3 sC] (u2 eG) sA (.join [pY 1 sD,tZ 3 sC] (u2 eH) sA (.join [pY 1 sD,tZ 3 sC] (u2 eJ) sA (.seq (sG (.block (.loop [pY 1 sD,tZ 3 sC,pV 61 (.slice 96 Z1),pV 62 tI,pV 63 tI] (λN=>u5 (eN N)) (u5 Qwp) (λK1=>sA)))) (.join [pY 1 sD,tZ 3 sC] (u2 tq) sA (.join [pY 1 sD,tZ 3 sC] (u2 tu) sA sA))))))) ⟨(λv=>Ab),(λv=>Ab),(λv=>Ab),⟨λ_=>rfl,λN v=>Ab⟩,(λv=>Ab),λv=>Ab⟩
def Zji:okE ⟨412,[wR],[.str],u1 Xv,.ow⟩:=TJ Zg Zd func412 call412 sA
def Zv3:okE ⟨472,[wR],[wR],u1 KV,.ow⟩:=TJ (sN Kj) Zd func472 call472 sA
def Zb6:okE ⟨414,[wR],[.str],u1 Yw,.ow⟩:=TJ (sN Zv3) Zd func414 call414 (sJ (.seq (sG (.block (.loop [pV 0 tI,pV 3 tI,wO 4 sC,pV 5 tI] (λN=>u4 (Kb N)) (u4 ci) (λK1=>sA)))) (.join [wO 4 sC] (u1 bN) sA sA))) ⟨⟨λ_=>rfl,λN v=>Ab⟩,λv=>Ab⟩
def Zmy:okE ⟨413,[.slice 3 wR],[.str],u1 ax,.ow⟩:=TJ (sO Kj Zb6) Zd func413 call413 (sH (sF [pV 3 .str,pV 6 (.slice 3 wR),pV 7 tI,pV 8 tI] (λN=>u4 (aQ N)) (u4 nU) (λK1=>sA))) ⟨λ_=>rfl,λN v=>Ab⟩
def Zov:okE ⟨297,[Zt],[.str],u1 fa,.ow⟩:=TJ (sR dY Zji Zmy Ud Zb6) Zd func297 call297 (sI (.seq (sG (.block (sG (.cond sA (sG (.cond sA (sG (.cond (sG (.join [tY 1 sD,pV 4 .str] (u2 Wc) sA sA)) (.join [tY 1 sD,pV 3 (.fnc 412),pV 9 tI,pV 73 .bool] (u4 Xo) sA (.cond sA (.join [tY 1 sD,pV 3 (.fnc 412),pV 84 .bool] (u3 Ki) sA sA))))))))))) sA)) ⟨λv=>Ab,(λv=>Ab),λv=>Ab⟩
abbrev Zfq:LR:=⟨186,[Zt],[wR],u1 oT,.ow⟩
def Zd4:okE Zfq:=TJ (sN Zov) Zd func186 call186 sA
abbrev ot:LR:=⟨301,[Q7],[Q7],u1 uw,.ow⟩
def Z6n:okE ot:=TJ (sN cq) Zd func301 call301 sA
abbrev Zsa:oq:={f:=302,n:=52,np:=3,rv:=Tryz.f302.results.toList,run:=λln _ k s=>Kz (Vc [] ln [q6,ot] [] [] []) 52 (Xr Tryz.f302) .leaf k s}
def Zf0:Y2 qA glob Zsa:=Y2.of (C:=Vc [] [] [q6,ot] [] [] []) (λln=>X8 (ln:=ln) Xa rfl (sO xM Z6n) Qk Zd Ql) Tryz.func302 rfl Tryz.call302 Ah rfl rfl .leaf (λ_ _ _=>rfl)
abbrev zh:LR:=⟨187,[Zq,Zt],[Zq],u2 w5,.ow⟩
def Zm4:Wz qA glob zh:=by
 refine Wz.of (e:=zh) (C:=Vc [Zsa] [] [Q2,Xp,cT,uR,q6,Zde,ot] [] [mU] []) (X8 (Qi Zf0 Xa) rfl (sT Xb Yd bm lT xM Zb9 Z6n) Qk (Q5 ue Zd) Ql) rfl Tryz.func187 (c:=Xr Tryz.f187) rfl Tryz.call187 Ah
  ((sG (.join [pY 2 sD,tY 3 sD,pY 4 sC,pY 5 sC,pV 6 tI] (λv=>oz v.1 v.2.1 v.2.2.1 v.2.2.2.1 v.2.2.2.2.1) sA sA))) ?_ ?_
 ·exact⟨lf,lf,(λv=>Ab),lf⟩
 ·intro xs r h;refine X (U ?_) h;kernel_rfl
def Zgh:okE ⟨415,[.slice 3 wR,wR],[wR],u2 v9,.ow⟩:=TJ Zg Zd func415 call415 (sG (sF [pV 0 (.slice 3 wR),pV 1 tI,pV 7 tI,pV 8 tI] (λN=>u4 (cv N)) (u4 bE) (λK1=>sA))) ⟨λ_=>rfl,λN v=>Ab⟩
def Zcd:okE ⟨306,[.slice 3 wR,wR],[.bool],u2 iQ,.ow⟩:=TJ (sN Zgh) Zd func306 call306 sA
abbrev Zkf:LR:=⟨189,[Zq,.slice 3 wR],[.slice 281 Qm],u2 OY,.ow⟩
def Zzl:okE Zkf:=TJ (sO Qc Zcd) Zd func189 call189 (sH (sF [pV 1 (.slice 3 wR),wL 5 sC,pV 11 (.slice 96 Z1),pV 12 tI,pV 13 tI] (λN=>u5 (mr N)) (u5 vn) (λK1=>sA))) ⟨λ_=>rfl,λN v=>Ab⟩
def Zya:okE ⟨303,[.slice 281 Qm],[.bool],u1 k9,.ow⟩:=TJ (sO Kj zq) Zd func303 call303 (sG (sF [pV 0 (.slice 281 Qm),pV 5 (.slice 281 Qm),pV 6 tI,pV 7 tI] (λN=>u4 (bd N)) (u4 da) (λK1=>sA))) ⟨λ_=>rfl,λN v=>Ab⟩
def Z3e:okE ⟨304,[.slice 281 Qm],[.slice 281 Qm],u1 sY,.ow⟩:=TJ Zg Zd func304 call304 (sH (.seq (sG (.block (.loop [pV 0 (.slice 281 Qm),pV 3 tI,wL 4 sC,pV 10 (.slice 281 Qm),pV 11 tI,pV 12 tI] (λN=>u6 (ph N)) (u6 oA) (λK1=>sA)))) (sF [pV 3 tI,wL 4 sC,pV 22 (.slice 281 Qm),pV 23 tI,pV 24 tI] (λN=>u5 (gy N)) (u5 oB) (λK2=>sA)))) ⟨⟨λ_=>rfl,λN v=>Ab⟩,λ_=>rfl,λN v=>Ab⟩
def Zs8:okE ⟨305,[.slice 281 Qm,wR],[wR],u2 ZY,.ow⟩:=TJ (sN Zya) Zd func305 call305 (sH (sF [pV 0 (.slice 281 Qm),pV 1 tI,pV 15 (.slice 281 Qm),pV 16 tI,pV 17 tI] (λN=>u5 (iH N)) (u5 j8) (λK1=>sA))) ⟨λ_=>rfl,λN v=>Ab⟩
abbrev Zdb:LR:=⟨188,[.slice 281 Qm,wR],[wR],u2 yM,.ow⟩
def Zp0:okE Zdb:=TJ (sP Zya Z3e Zs8) Zd func188 call188 (sI (sF [pV 1 tI,wL 5 sC,.bor 18 5 [],pV 19 tI,pV 20 tI] (λN=>u4 (fd N)) (u4 iG) (λK1=>sA))) ⟨λ_=>rfl,λN v=>Ab⟩
def Zpp:okE ⟨307,[Q7],[wR],u1 VU,.ow⟩:=TJ (sN cq) Zd func307 call307 sA
abbrev VR:LR:=⟨416,[Zv],[.bool],u1 bh,.ow⟩
def pm:okE VR:=TJ (sO xm Qc) Zd func416 call416 sA
def Zvz:okE ⟨417,[Ku,wR,wR],[.str,.bool],u3 s5,.ow⟩:=TJ (sO QY Qc) Zd func417 call417 (sI (sF [pV 1 tI,wC 3 sD,wO 8 sC,pV 35 tI,pV 36 tI] (λN=>u5 (oY N)) (u5 tz) (λK1=>sA))) ⟨λ_=>rfl,λN v=>Ab⟩
def Zs7:okE ⟨308,[Zv,wR,wR],[Y1,.bool],u3 ZX,.ow⟩:=TJ (sP pm Ud Zvz) Zd func308 call308 (sL (.join [pZ 3 sD,wF 6 sD,wI 8 sD,pV 9 tI] (u4 mY) sA sA)) (λv=>Ab)
abbrev Zdd:LR:=⟨194,[wR,Y1],[Zt],u2 ml,.ow⟩
def Zb8:okE Zdd:=TJ Zg Zd func194 call194 sA
abbrev Zio:LR:=⟨190,[Zq,wR,wR],[Y1,.bool],u3 KU,.ow⟩
def Zv0:okE Zio:=TJ (sT Yd bm Zpp Zs7 Zb8 Zd4 Qc) Zd func190 call190 (sK (sF [pV 1 tI,pV 2 tI,wF 6 sD,wE 9 sD,pV 10 tI,pV 11 tI] (λN=>u6 (kt N)) (u6 ua) (λK1=>sA))) ⟨λ_=>rfl,λN v=>Ab⟩
abbrev Zbh:LR:=⟨192,[Q7],[Q7],u1 w8,.ow⟩
def Zm6:okE Zbh:=TJ (sN cq) Zd func192 call192 sA
abbrev VS:LR:=⟨418,[Zv,Y1],[.bool],u2 s6,.ow⟩
def KB:okE VS:=TJ Zg Zd func418 call418 sA
abbrev xC:LR:=⟨420,[.slice 150 Zw,.slice 150 Zw],[.slice 150 Zw],u2 iC,.ow⟩
def vr:okE xC:=TJ (sN kD) Zd func420 call420 (sI (sF [pV 1 (.slice 150 Zw),wB 5 sC,pV 22 (.slice 150 Zw),pV 23 tI,pV 24 tI] (λN=>u5 (ce N)) (u5 eu) (λK1=>(sH (.seq (.block (sH (.block (.loop [pV 1 (.slice 150 Zw),wB 5 sC,wI 7 sD,pV 22 (.slice 150 Zw),pV 23 tI,pV 24 tI,pV 28 (.slice 150 Zw),pV 29 tI,pV 30 tI] (λN=>u9 (W4 K1 N)) (u9 mc) (λK2=>sA))))) sA))))) ⟨λ_=>rfl,λN=>⟨(λv=>Ab),λ_=>rfl,λN v=>Ab⟩⟩
def Zuc:okE ⟨473,[.slice 150 Zw,.slice 150 Zw],[.bool],u2 bS,.ow⟩:=TJ Zg Zd func473 call473 (sH (sF [pV 0 (.slice 150 Zw),pV 1 (.slice 150 Zw),pV 12 tI,pV 13 tI] (λN=>u4 (Jm N)) (u4 Vn) (λK1=>sA))) ⟨λ_=>rfl,λN v=>Ab⟩
def Zmz:okE ⟨419,[.slice 150 Zw,.slice 150 Zw],[.bool],u2 wu,.ow⟩:=TJ (sN Zuc) Zd func419 call419 sA
abbrev zj:LR:=⟨421,[.slice 150 Zw,Zw],[.slice 150 Zw],u2 ku,.ow⟩
def xN:okE zj:=TJ (sP kD WF rj) Zd func421 call421 (sI (sF [wI 3 sD,wB 5 sC,pV 19 (.slice 150 Zw),pV 20 tI,pV 21 tI] (λN=>u5 (Wd N)) (u5 fT) (λK1=>(sH (.seq (.block (sG (.join [wI 3 sD,wB 5 sC,wI 7 sD,pV 19 (.slice 150 Zw),pV 20 tI,pV 21 tI] (u6 (jn K1)) sA sA))) sA))))) ⟨λ_=>rfl,λN=>⟨(λv=>Ab),λv=>Ab⟩⟩
def Ztc:okE ⟨309,[Zv,Y1],[Zv,.bool],u2 QB,.ow⟩:=TJ (sU W8 pm KB vr Zmz xN pl uG) Zd func309 call309 (sI (.join [wF 3 sD,pZ 4 sC,pZ 6 (sE (.p sC (.p sC (.p sC (.p sC sD)))))] (u3 m8) (sG (.cond (sG (.seq (.join [pZ 2 sD,wF 3 sD,pZ 4 sC,pZ 6 sC,wI 7 sD,pV 59 .bool] (u6 QC) sA sA) sA)) sA)) (.join [pZ 4 sC,pZ 6 (sE (.p sC (.p sC (.p sC (.p sC sD)))))] (u2 uB) sA sA))) ⟨λv=>Ab,(λv=>Ab),λv=>Ab⟩
def Ztf:okE ⟨310,[Q7,wR],[Q7,.bool],u2 vj,.ow⟩:=TJ (sO cq Qc) Zd func310 call310 sA
abbrev Zfr:LR:=⟨193,[Zq,wR,Y1],[Zq,.bool],u3 ZU,.ow⟩
def Zs5:okE Zfr:=TJ (sR Xb Yd bm Ztc Ztf) Zd func193 call193 (sG (.join [pV 1 tI,pY 3 sD,wF 5 sD,pY 6 sC,pY 8 sC,pV 9 tI] (u6 uz) sA (sH (.join [pV 1 tI,pY 3 sD,pY 6 sC,pY 8 sC,.elp 10 8 [3] [],pZ 11 sC,pV 12 .bool] (u7 ZV) sA sA)))) ⟨(λv=>Ab),λv=>Ab⟩
abbrev Qb6:LR:=⟨195,[.slice 154 Zt],[.str],u1 zn,.ow⟩
def Zjj:okE Qb6:=TJ (sO dY Zov) Zd func195 call195 (sH (sF [pV 3 .str,pV 6 (.slice 154 Zt),pV 7 tI,pV 8 tI] (λN=>u4 (eO N)) (u4 li) (λK1=>sA))) ⟨λ_=>rfl,λN v=>Ab⟩
abbrev Zc7:LR:=⟨107,[Zq,wR],[.str,wR,Zq],u2 yF,.ow⟩
def Zpr:Wz qA glob Zc7:=by
 refine Wz.of (e:=Zc7) (C:=Vc [Ja] [] [Q2,Jg,IR,Qod,Zfq,zh,Zkf,Zdb,Zio,Zbh,Zfr,Zdd,Qb6] [] [] []) (X8 (Qi jc Xa) rfl (Zx1 Xb W9 Qc Zjg Zd4 Zm4 Zzl Zp0 Zv0 Zm6 Zs5 Zb8 Zjj) Qk Zd Ql) rfl Tryz.func107 (c:=Xr Tryz.f107) rfl Tryz.call107 Ah
  ((sJ (.seq (sG (.block (.loop [pY 6 sC,pY 7 sC,tZ 8 sC,wH 9 sC,pV 10 tI,tZ 40 sC,pV 41 tI,pV 42 tI] (λN v=>Vi N v.1 v.2.1 v.2.2.1 v.2.2.2.1 v.2.2.2.2.1 v.2.2.2.2.2.1 v.2.2.2.2.2.2.1 v.2.2.2.2.2.2.2.1) (λv=>iD v.1 v.2.1 v.2.2.1 v.2.2.2.1 v.2.2.2.2.1 v.2.2.2.2.2.1 v.2.2.2.2.2.2.1 v.2.2.2.2.2.2.2.1) (λK1=>sA)))) (.join [pY 6 sC,pY 7 sC,tZ 8 sC] (λv=>bM v.1 v.2.1 v.2.2.1) (sG (.block (.loop [pY 6 sC,pY 7 sC,tZ 8 sC,wH 9 sC,pV 10 tI,pV 62 tI] (λN v=>W5 N v.1 v.2.1 v.2.2.1 v.2.2.2.1 v.2.2.2.2.1 v.2.2.2.2.2.1) (λv=>iE v.1 v.2.1 v.2.2.1 v.2.2.2.1 v.2.2.2.2.1 v.2.2.2.2.2.1) (λK2=>sA)))) (sG (.seq (.ext (Rj Ul 145 7 8 15 14 37 35 100 3 [126,127,128,129,130,131,132,133,134])) (.seq (.ext (CW Ul 145 7 8 14 37 3 [135,136,137,138])) sA))))))) ?_ ?_
 ·exact⟨lf,lf,lf,lf,⟨lf,λ_=>rfl,λN=>⟨(λv=>Ab),lf⟩⟩,⟨lf,λ_=>rfl,λN=>⟨(λv=>Ab),lf⟩⟩,(λv=>Ab),lf,(Qqg ⟨⟨_,_,_,_,_,_,_,_,_,_,rfl,⟨rfl,rfl,rfl⟩,⟨rfl,rfl,rfl⟩,⟨rfl,rfl,rfl⟩,⟨rfl,rfl,rfl⟩,⟨rfl,rfl,rfl⟩,⟨rfl,rfl,rfl⟩,⟨rfl,rfl,rfl⟩,⟨rfl,rfl,rfl⟩,⟨rfl,rfl,rfl⟩,rfl,rfl,rfl⟩⟩ Ah),(Qt7 ⟨⟨_,_,_,_,_,rfl,⟨rfl,rfl,rfl⟩,⟨rfl,rfl,rfl⟩,⟨rfl,rfl,_,rfl⟩,⟨rfl,rfl,rfl⟩,rfl,rfl,rfl⟩⟩ Ah),lf⟩
 ·intro xs r h;refine X (U ?_) h;kernel_rfl
abbrev ZH:LR:=⟨507,[.str,wR],[wR,wR,.bool],u2 Yg,.ow⟩
def Zpq:okE ZH:=TJ (sN Qc) Zd func507 call507 (sK (sF [pV 0 .str,pV 1 tI,pV 7 tI,pV 8 tI,pV 9 tI] (λN=>u5 (lh N)) (u5 Zuf) (λK1=>sA))) ⟨λ_=>rfl,λN v=>Ab⟩
abbrev KF:oq:={f:=474,n:=34,np:=3,rv:=Tryz.f474.results.toList,run:=λln _ k s=>Kz (Vc [] ln [ZH] [] [] []) 34 (Xr Tryz.f474) .leaf k s}
def Zdw:Y2 qA glob KF:=Y2.of (C:=Vc [] [] [ZH] [] [] []) (λln=>X8 (ln:=ln) Xa rfl (sN Zpq) Qk Zd Ql) Tryz.func474 rfl Tryz.call474 Ah rfl rfl .leaf (λ_ _ _=>rfl)
abbrev ZM:LR:=⟨475,[.str,wR,wR],[Zt,wR,.bool],u3 rS,.ow⟩
def Zp9:Wz qA glob ZM:=by
 refine Wz.of (e:=ZM) (C:=Vc [KF] [] [] [] [] []) (X8 (Qi Zdw Xa) rfl Zg Qk Zd Ql) rfl Tryz.func475 (c:=Xr Tryz.f475) rfl Tryz.call475 Ah
  ((sI (.join [pV 0 .str,pV 1 tI,pV 2 tI,tY 6 sD,tY 9 sD,wM 10 sD,pV 11 .bool] (λv=>Vm v.1 v.2.1 v.2.2.1 v.2.2.2.1 v.2.2.2.2.1 v.2.2.2.2.2.1 v.2.2.2.2.2.2.1) sA (sH (.join [pV 0 .str,pV 1 tI,tY 6 sD,tY 9 sD,wM 10 sD,pV 11 .bool] (λv=>bQ v.1 v.2.1 v.2.2.1 v.2.2.2.1 v.2.2.2.2.1 v.2.2.2.2.2.1) sA sA))))) ?_ ?_
 ·exact⟨lf,lf,lf,lf,(λv=>Ab),lf,lf,lf,(λv=>Ab),lf⟩
 ·intro xs r h;refine X (U ?_) h;kernel_rfl
abbrev Zfs:LR:=⟨423,[.str,wR],[Zt,wR,.bool],u2 I9,.ow⟩
def Zth:Wz qA glob Zfs:=by
 refine Wz.of (e:=Zfs) (C:=Vc [KF] [] [IR,Z12,ZM] [] [] []) (X8 (Qi Zdw Xa) rfl (sP Qc Ud Zp9) Qk Zd Ql) rfl Tryz.func423 (c:=Xr Tryz.f423) rfl Tryz.call423 Ah
  ((sK (.join [tY 4 sD,tY 8 sD,pV 9 tI,pV 10 .bool] (λv=>Xg v.1 v.2.1 v.2.2.1 v.2.2.2.1) (sG (.block (sG (.cond sA (sG (.cond sA (.join [pV 0 .str,pV 1 tI,tY 4 sD,pV 7 tI,tY 8 sD,pV 9 tI,pV 10 .bool,pV 24 tI,pV 60 .bool] (λv=>nc v.1 v.2.1 v.2.2.1 v.2.2.2.1 v.2.2.2.2.1 v.2.2.2.2.2.1 v.2.2.2.2.2.2.1 v.2.2.2.2.2.2.2.1 v.2.2.2.2.2.2.2.2.1) sA (.cond sA (.join [pV 0 .str,pV 1 tI,tY 4 sD,pV 7 tI,tY 8 sD,pV 9 tI,pV 10 .bool,pV 24 tI,pV 72 .bool] (λv=>nf v.1 v.2.1 v.2.2.1 v.2.2.2.1 v.2.2.2.2.1 v.2.2.2.2.2.1 v.2.2.2.2.2.2.1 v.2.2.2.2.2.2.2.1 v.2.2.2.2.2.2.2.2.1) sA (.cond sA (.join [pV 0 .str,pV 1 tI,tY 4 sD,pV 7 tI,tY 8 sD,pV 9 tI,pV 10 .bool,pV 85 .bool] (λv=>de v.1 v.2.1 v.2.2.1 v.2.2.2.1 v.2.2.2.2.1 v.2.2.2.2.2.1 v.2.2.2.2.2.2.1 v.2.2.2.2.2.2.2.1) sA sA))))))))))) sA))) ?_ ?_
 ·exact⟨lf,lf,lf,lf,lf,⟨lf,lf,lf,lf,lf,lf,(λv=>Ab),lf,lf,(λv=>Ab),lf,lf,(λv=>Ab),lf⟩,(λv=>Ab),lf⟩
 ·intro xs r h;refine X (U ?_) h;kernel_rfl
def Zmx:okE ⟨311,[.str,wR],[Zt,wR,.bool],u2 wt,.ow⟩:=TJ (sO Zth dY) Zd func311 call311 sA
def Zjh:okE ⟨197,[.str],[.slice 154 Zt,.bool],u1 zm,.ow⟩:=TJ (sO Zmx Qc) Zd func197 call197 (sH (sF [pV 0 .str,tZ 4 sC,pV 5 tI] (λN=>u3 (bf N)) (u3 nOp) (λK1=>sA))) ⟨λ_=>rfl,λN v=>Ab⟩
def Zs2:okE ⟨198,[Zq,wR],[Zq],u2 uW,.ow⟩:=TJ (sO Xb Qc) Zd func198 call198 sA
def Zzg:okE ⟨509,[wR],[wR],u1 j7,.ow⟩:=TJ (sN bR) Zd func509 call509 sA
def Zv2:okE ⟨508,[Q7,wR],[Q7,wR,.bool],u2 fU,.ow⟩:=TJ (sO yU Qc) Zd func508 call508 sA
abbrev bK:A9:=⟨476,[.bx 37 Zq sC,.sh wR],.vals [wR],u2 cg⟩
def xL:DQ bK:=Gv [0] (sS Yd yt Zzg Zv2 Zd8 Zea) (Q5 Qwm Zd) func476 call476 (sI (.join [pY 0 sC,pV 1 tI,.box 5 34 Q7 sD,pV 6 tI,pV 7 .bool] (u5 Jt) sA (sG (.join [pY 0 (sE (sE (sE (.p sC (sE (sE (sE (sE (sE (sE sC)))))))))),pV 1 tI,pV 6 tI] (u3 jl) sA (sF [pY 0 (sE (sE (sE (.p sC (sE (sE (sE (sE (sE (sE sC)))))))))),pV 1 tI,pV 8 tI] (λN=>u3 (dH N)) (u3 nT) (λK1=>(sG (.seq (.block (.join [pY 0 (sE (sE (sE (.p sC (sE (sE (sE (sE (sE (sE sC)))))))))),pV 1 tI,pV 8 tI,wE 9 sC] (u4 (xF K1)) sA sA)) sA)))))))) ⟨(λv=>Ab),(λv=>Ab),λ_=>rfl,λN=>⟨(λv=>Ab),λv=>Ab⟩⟩
abbrev VP:LR:=⟨477,[Qh,wR],[wR],u2 yd,.ow⟩
def Zvu:okE VP:=TJ (sO ft Kj) Zd func477 call477 sA
abbrev Ht:LR:=⟨478,[Kk],[wR],u1 re,.ow⟩
def Zzh:okE Ht:=TJ (sN kE) Zd func478 call478 sA
def Qca:okE ⟨479,[Qh,wR,.bool],[.bool],u3 xe,.ow⟩:=TJ Zg Zd func479 call479 sA
open Go.RowKit Go.Sort Go.Shelf Go.Lib in
def Qqv(x1 y1:Int)(x2 y2:List UInt8)(W:Y)(h1:0<=x1)(h2:x1<=4611686018427387904)(h3:0<=y1)(h4:y1<=4611686018427387904):
  Li qA 512 #[.agg #[.int .i64 x1,.string ⟨⟨x2⟩⟩],.agg #[.int .i64 y1,.string ⟨⟨y2⟩⟩]] W λen w'=>en=.returned (.int .i64 (x1-y1))/\ ∃q os',w'=grow (W.drewN q) os':=by
 have hw:Lt.wrap (x1-y1)=x1-y1:=by rw[Lu];omega
 go_enter Tryz.func512,Tryz.ntmps512
 go_wp2
 go_ret
 exact⟨rfl,0,_,by rw[alloc_eq_grow,alloc_eq_grow,grow_grow];rfl⟩
abbrev Zdj:GE:={f:=511,e:=152,t:=bI,args:=[.fnc 512],res:=[],F:=λl _=>zX l}
def Zqi:E5 qA glob Zdj:=E5.sort Tryz.call511 (λp cap fv w=>Go.Proofs.AnyF.slices_SortFunc_none Tryz.sortLaid p cap fv w)
  (λα _ enc c blk cap d w hk h1 hO hT hcmp hH hblk hsz=>Go.Proofs.AnyQ.slices_SortFunc_total Tryz.sortLaid 2 (λw=>Ab) (λw=>Ab) enc hk h1 c hO 512 #[] blk 0 cap d w (λ_ _=>Tryz.call512 _ _) hcmp hH hblk hsz hT)
  (λx y W h1 h2 h3 h4=>Qqv x.1 y.1 x.2.1 y.2.1 W h1 h2 h3 h4)
abbrev Zoe:LR:=⟨513,[.slice 152 bI],[.slice 152 bI],u1 zM,.ow⟩
def Z3d:okE Zoe:=TJ (sN uF) Zd func513 call513 (sH (sF [.val 3 (.slice 152 bI) sC,pV 8 (.slice 152 bI),pV 9 tI,pV 10 tI] (λN=>u4 (lu N)) (u4 xJ) (λK1=>sA))) ⟨λ_=>rfl,λN v=>Ab⟩
abbrev Zaa:oq:={f:=510,n:=27,np:=6,rv:=Tryz.f510.results.toList,run:=λln _ k s=>Kz (Vc [] ln [] [] [] []) 27 (Xr Tryz.f510) .leaf k s}
def Zkx:Y2 qA glob Zaa:=Y2.of (C:=Vc [] [] [] [] [] []) (λln=>X8 (ln:=ln) Xa rfl Zg Qk Zd Ql) Tryz.func510 rfl Tryz.call510 Ah rfl rfl .leaf (λ_ _ _=>rfl)
abbrev Zda:LR:=⟨480,[Xi,wR,.str],[Xi],u3 yI,.ow⟩
def Zpu:Wz qA glob Zda:=by
 refine Wz.of (e:=Zda) (C:=Vc [Zaa] [] [Zim,Zdi,Zfo,Zoe] [Zdj] [] []) (X8 (Qi Zkx Xa) rfl (sQ xl zr uF Z3d) (UD Zqi Qk) Zd Ql) rfl Tryz.func480 (c:=Xr Tryz.f480) rfl Tryz.call480 Ah
  ((sH (.join [wD 3 sD,wM 4 sD,.box 5 9 (.str) sD,wD 6 sC,wM 7 sD,wM 8 sD] (λv=>zo v.1 v.2.1 v.2.2.1 v.2.2.2.1 v.2.2.2.2.1 v.2.2.2.2.2.1) sA (sH (sF [wD 3 sD,wM 4 sD,.box 5 9 (.str) sD,wD 6 sC,wM 7 sD,wM 8 sD,.box 9 88 (.slice 152 bI) sC,.clo 10 510 [7,8,9,5,4],pV 53 (.slice 152 bI),pV 54 tI,pV 55 tI] (λN v=>fb N v.1 v.2.1 v.2.2.1 v.2.2.2.1 v.2.2.2.2.1 v.2.2.2.2.2.1 v.2.2.2.2.2.2.1 v.2.2.2.2.2.2.2.1 v.2.2.2.2.2.2.2.2.1 v.2.2.2.2.2.2.2.2.2.1) (λv=>oU v.1 v.2.1 v.2.2.1 v.2.2.2.1 v.2.2.2.2.1 v.2.2.2.2.2.1 v.2.2.2.2.2.2.1 v.2.2.2.2.2.2.2.1 v.2.2.2.2.2.2.2.2.1 v.2.2.2.2.2.2.2.2.2.1) (λK1=>sA)))))) ?_ ?_
 ·exact⟨lf,lf,lf,(λv=>Ab),lf,lf,⟨lf,λ_=>rfl,λN=>⟨(λv=>Ab),lf⟩⟩,lf⟩
 ·intro xs r h;refine X (U ?_) h;kernel_rfl
abbrev zi:LR:=⟨428,[Qh,wR,.str,.bool],[Qh,wR],u4 xa,.ow⟩
def Zm8:okE zi:=TJ (sS nk ft Qca yu Zpu Zge) Zd func428 call428 (sM (.join [pV 1 tI,pV 2 .str,wG 4 sD,wG 8 sC,wG 10 (sE (.p sC sD))] (u5 jm) sA (sG (.join [wG 8 sC,wG 10 (sE (.p sC sD))] (u2 xH) sA sA)))) ⟨(λv=>Ab),λv=>Ab⟩
abbrev VQ:LR:=⟨481,[Kk,wR],[Kk,.bool],u2 nX,.ow⟩
def Zv1:okE VQ:=TJ (sO kE Qc) Zd func481 call481 sA
abbrev pw:oq:={f:=426,n:=18,np:=3,rv:=Tryz.f426.results.toList,run:=λln _ k s=>Kz (Vc [] ln [jk] [] [bK] []) 18 (Xr Tryz.f426) .leaf k s}
def Zdv:Y2 qA glob pw:=Y2.of (C:=Vc [] [] [jk] [] [bK] []) (λln=>X8 (ln:=ln) Xa rfl (sN vq) Qk (Q5 xL Zd) Ql) Tryz.func426 rfl Tryz.call426 Ah rfl rfl .leaf (λ_ _ _=>rfl)
abbrev nt:oq:={f:=427,n:=32,np:=3,rv:=Tryz.f427.results.toList,run:=λln _ k s=>Kz (Vc [] ln [VP,Ht] [] [] []) 32 (Xr Tryz.f427) .leaf k s}
def Zb0:Y2 qA glob nt:=Y2.of (C:=Vc [] [] [VP,Ht] [] [] []) (λln=>X8 (ln:=ln) Xa rfl (sO Zvu Zzh) Qk Zd Ql) Tryz.func427 rfl Tryz.call427 Ah rfl rfl .leaf (λ_ _ _=>rfl)
abbrev rX:oq:={f:=429,n:=30,np:=3,rv:=Tryz.f429.results.toList,run:=λln _ k s=>Kz (Vc [] ln [VQ] [] [] []) 30 (Xr Tryz.f429) .leaf k s}
def Zf1:Y2 qA glob rX:=Y2.of (C:=Vc [] [] [VQ] [] [] []) (λln=>X8 (ln:=ln) Xa rfl (sN Zv1) Qk Zd Ql) Tryz.func429 rfl Tryz.call429 Ah rfl rfl .leaf (λ_ _ _=>rfl)
abbrev Ya:oq:={f:=184,n:=43,np:=2,rv:=Tryz.f184.results.toList,run:=λln _ k s=>Kz (Vc [Ja] ln [ZI,xZ,rM] [] [uQ] []) 43 (Xr Tryz.f184) .leaf k s}
def aK:Y2 qA glob Ya:=Y2.of (C:=Vc [Ja] [] [ZI,xZ,rM] [] [uQ] []) (λln=>X8 (ln:=ln) (Qi jc Xa) rfl (sP yt Zlb Zf9) Qk (Q5 Qwm Zd) Ql) Tryz.func184 rfl Tryz.call184 Ah rfl rfl .leaf (λ_ _ _=>rfl)
abbrev oD:oq:={f:=425,n:=64,np:=2,rv:=Tryz.f425.results.toList,run:=λln _ k s=>Kz (Vc [pw,Ja,nt,rX,Ya] ln [zi] [] [] []) 64 (Xr Tryz.f425) .leaf k s}
def Qh6:Y2 qA glob oD:=Y2.of (C:=Vc [pw,Ja,nt,rX,Ya] [] [zi] [] [] []) (λln=>X8 (ln:=ln) (Qi Zdv (Qi jc (Qi Zb0 (Qi Zf1 (Qi aK Xa))))) rfl (sN Zm8) Qk Zd Ql) Tryz.func425 rfl Tryz.call425 Ah rfl rfl .leaf (λ_ _ _=>rfl)
abbrev Zlq:oq:={f:=424,n:=36,np:=4,rv:=Tryz.f424.results.toList,run:=λln _ k s=>Kz (Vc [oD] ln [cT,cZ,Q2] [] [] []) 36 (Xr Tryz.f424) .leaf k s}
def Zze:Y2 qA glob Zlq:=Y2.of (C:=Vc [oD] [] [cT,cZ,Q2] [] [] []) (λln=>X8 (ln:=ln) (Qi Qh6 Xa) rfl (sP bm dY Xb) Qk Zd Ql) Tryz.func424 rfl Tryz.call424 Ah rfl rfl .leaf (λ_ _ _=>rfl)
abbrev Zc8:LR:=⟨312,[Zq,Zt],[Zq,wR],u2 yG,.ow⟩
def Zps:Wz qA glob Zc8:=by
 refine Wz.of (e:=Zc8) (C:=Vc [oD,Zlq] [] [] [] [] []) (X8 (Qi Qh6 (Qi Zze Xa)) rfl Zg Qk Zd Ql) rfl Tryz.func312 (c:=Xr Tryz.f312) rfl Tryz.call312 Ah
  sA ?_ ?_
 ·exact lf
 ·intro xs r h;refine X (U ?_) h;kernel_rfl
abbrev xE:LR:=⟨431,[Qh,wR,wR],[Qh,wR],u3 uA,.ow⟩
def Zld:okE xE:=TJ (sR nk ft Kj Qca yu) Zd func431 call431 sA
abbrev nw:oq:={f:=430,n:=76,np:=2,rv:=Tryz.f430.results.toList,run:=λln _ k s=>Kz (Vc [pw,Ja,nt,rX,hD,Ya] ln [xE] [] [] []) 76 (Xr Tryz.f430) .leaf k s}
def Z64:Y2 qA glob nw:=Y2.of (C:=Vc [pw,Ja,nt,rX,hD,Ya] [] [xE] [] [] []) (λln=>X8 (ln:=ln) (Qi Zdv (Qi jc (Qi Zb0 (Qi Zf1 (Qi Qob (Qi aK Xa)))))) rfl (sN Zld) Qk Zd Ql) Tryz.func430 rfl Tryz.call430 Ah rfl rfl .leaf (λ_ _ _=>rfl)
abbrev Zgr:oq:={f:=424,n:=36,np:=4,rv:=Tryz.f424.results.toList,run:=λln _ k s=>Kz (Vc [nw] ln [cT,cZ,Q2] [] [] []) 36 (Xr Tryz.f424) .leaf k s}
def Zsj:Y2 qA glob Zgr:=Y2.of (C:=Vc [nw] [] [cT,cZ,Q2] [] [] []) (λln=>X8 (ln:=ln) (Qi Z64 Xa) rfl (sP bm dY Xb) Qk Zd Ql) Tryz.func424 rfl Tryz.call424 Ah rfl rfl .leaf (λ_ _ _=>rfl)
abbrev Zbf:LR:=⟨313,[Zq,Zt],[Zq,wR],u2 wx,.ow⟩
def Zm3:Wz qA glob Zbf:=by
 refine Wz.of (e:=Zbf) (C:=Vc [nw,Zgr] [] [] [] [] []) (X8 (Qi Z64 (Qi Zsj Xa)) rfl Zg Qk Zd Ql) rfl Tryz.func313 (c:=Xr Tryz.f313) rfl Tryz.call313 Ah
  sA ?_ ?_
 ·exact lf
 ·intro xs r h;refine X (U ?_) h;kernel_rfl
abbrev kZ:LR:=⟨319,[Zv,wR],[Zv,.bool],u2 kv,.ow⟩
def Zx0:okE kZ:=TJ (sP pm Kj W8) Zd func319 call319 (sH (.join [pV 1 tI,pZ 2 sD,pZ 4 sC,wC 6 (sE (sE (sE (.p sC sD))))] (u4 xI) sA sA)) (λv=>Ab)
abbrev zA:oq:={f:=426,n:=18,np:=3,rv:=Tryz.f426.results.toList,run:=λln _ k s=>Kz (Vc [] ln [oN] [] [bK] []) 18 (Xr Tryz.f426) .leaf k s}
def Zmu:Y2 qA glob zA:=Y2.of (C:=Vc [] [] [oN] [] [bK] []) (λln=>X8 (ln:=ln) Xa rfl (sN QW) Qk (Q5 xL Zd) Ql) Tryz.func426 rfl Tryz.call426 Ah rfl rfl .leaf (λ_ _ _=>rfl)
abbrev oE:oq:={f:=432,n:=41,np:=2,rv:=Tryz.f432.results.toList,run:=λln _ k s=>Kz (Vc [zA,Ja,Ya] ln [kZ] [] [] []) 41 (Xr Tryz.f432) .leaf k s}
def Zul:Y2 qA glob oE:=Y2.of (C:=Vc [zA,Ja,Ya] [] [kZ] [] [] []) (λln=>X8 (ln:=ln) (Qi Zmu (Qi jc (Qi aK Xa))) rfl (sN Zx0) Qk Zd Ql) Tryz.func432 rfl Tryz.call432 Ah rfl rfl .leaf (λ_ _ _=>rfl)
abbrev Zgs:oq:={f:=424,n:=36,np:=4,rv:=Tryz.f424.results.toList,run:=λln _ k s=>Kz (Vc [oE] ln [cT,cZ,Q2] [] [] []) 36 (Xr Tryz.f424) .leaf k s}
def Zsk:Y2 qA glob Zgs:=Y2.of (C:=Vc [oE] [] [cT,cZ,Q2] [] [] []) (λln=>X8 (ln:=ln) (Qi Zul Xa) rfl (sP bm dY Xb) Qk Zd Ql) Tryz.func424 rfl Tryz.call424 Ah rfl rfl .leaf (λ_ _ _=>rfl)
abbrev Zc9:LR:=⟨314,[Zq,Zt],[Zq,wR],u2 yH,.ow⟩
def Zpt:Wz qA glob Zc9:=by
 refine Wz.of (e:=Zc9) (C:=Vc [oE,Zgs] [] [] [] [] []) (X8 (Qi Zul (Qi Zsk Xa)) rfl Zg Qk Zd Ql) rfl Tryz.func314 (c:=Xr Tryz.f314) rfl Tryz.call314 Ah
  sA ?_ ?_
 ·exact lf
 ·intro xs r h;refine X (U ?_) h;kernel_rfl
abbrev ZK:LR:=⟨434,[Q7,wR],[Q7],u2 rR,.ow⟩
def Zp4:okE ZK:=TJ (sN cq) Zd func434 call434 sA
abbrev ZJ:LR:=⟨435,[gg,wR],[gg],u2 rQ,.ow⟩
def Zp3:okE ZJ:=TJ (sN WD) Zd func435 call435 sA
abbrev zB:oq:={f:=426,n:=18,np:=3,rv:=Tryz.f426.results.toList,run:=λln _ k s=>Kz (Vc [] ln [oN,jk] [] [bK] []) 18 (Xr Tryz.f426) .leaf k s}
def Zmv:Y2 qA glob zB:=Y2.of (C:=Vc [] [] [oN,jk] [] [bK] []) (λln=>X8 (ln:=ln) Xa rfl (sO QW vq) Qk (Q5 xL Zd) Ql) Tryz.func426 rfl Tryz.call426 Ah rfl rfl .leaf (λ_ _ _=>rfl)
abbrev nu:oq:={f:=433,n:=64,np:=2,rv:=Tryz.f433.results.toList,run:=λln _ k s=>Kz (Vc [zB,Ja] ln [ZK,ZJ] [] [mU] []) 64 (Xr Tryz.f433) .leaf k s}
def Qnb:Y2 qA glob nu:=Y2.of (C:=Vc [zB,Ja] [] [ZK,ZJ] [] [mU] []) (λln=>X8 (ln:=ln) (Qi Zmv (Qi jc Xa)) rfl (sO Zp4 Zp3) Qk (Q5 ue Zd) Ql) Tryz.func433 rfl Tryz.call433 Ah rfl rfl .leaf (λ_ _ _=>rfl)
abbrev Zgt:oq:={f:=424,n:=36,np:=4,rv:=Tryz.f424.results.toList,run:=λln _ k s=>Kz (Vc [nu] ln [cT,cZ,Q2] [] [] []) 36 (Xr Tryz.f424) .leaf k s}
def Zsl:Y2 qA glob Zgt:=Y2.of (C:=Vc [nu] [] [cT,cZ,Q2] [] [] []) (λln=>X8 (ln:=ln) (Qi Qnb Xa) rfl (sP bm dY Xb) Qk Zd Ql) Tryz.func424 rfl Tryz.call424 Ah rfl rfl .leaf (λ_ _ _=>rfl)
abbrev Zbe:LR:=⟨315,[Zq,Zt],[Zq,wR],u2 ww,.ow⟩
def Zm2:Wz qA glob Zbe:=by
 refine Wz.of (e:=Zbe) (C:=Vc [nu,Zgt] [] [] [] [] []) (X8 (Qi Qnb (Qi Zsl Xa)) rfl Zg Qk Zd Ql) rfl Tryz.func315 (c:=Xr Tryz.f315) rfl Tryz.call315 Ah
  sA ?_ ?_
 ·exact lf
 ·intro xs r h;refine X (U ?_) h;kernel_rfl
def Zm1:okE ⟨199,[Zq,Zt],[Zq,wR],u2 wv,.ow⟩:=TJ (sQ Zps Zm3 Zpt Zm2) Zd func199 call199 sA
def Zjk:okE ⟨109,[Zq,.str],[Zq,wR],u2 rb,.ow⟩:=TJ (sS bm Y' Xb Zjh Zs2 Zm1) Zd func109 call109 (sK (sF [pY 4 sC,tZ 6 sC,pY 8 sC,.bor 35 6 [],pV 36 tI,pV 37 tI] (λN=>u5 (eQ N)) (u5 Qwg) (λK1=>sA))) ⟨λ_=>rfl,λN v=>Ab⟩
abbrev zg:LR:=⟨317,[Zv],[Zv,.bool],u1 oQ,.ow⟩
def Zmw:okE zg:=TJ (sO W8 Zgd) Zd func317 call317 sA
abbrev uh:oq:={f:=316,n:=18,np:=2,rv:=Tryz.f316.results.toList,run:=λln _ k s=>Kz (Vc [] ln [zg] [] [] []) 18 (Xr Tryz.f316) .leaf k s}
def Zhp:Y2 qA glob uh:=Y2.of (C:=Vc [] [] [zg] [] [] []) (λln=>X8 (ln:=ln) Xa rfl (sN Zmw) Qk Zd Ql) Tryz.func316 rfl Tryz.call316 Ah rfl rfl .leaf (λ_ _ _=>rfl)
abbrev Zi5:oq:={f:=178,n:=61,np:=4,rv:=Tryz.f178.results.toList,run:=λln _ k s=>Kz (Vc [uh] ln [Q2,Xp,Jg] [] [] []) 61 (Xr Tryz.f178) .leaf k s}
def Zve:Y2 qA glob Zi5:=Y2.of (C:=Vc [uh] [] [Q2,Xp,Jg] [] [] []) (λln=>X8 (ln:=ln) (Qi Zhp Xa) rfl (sP Xb Yd W9) Qk Zd Ql) Tryz.func178 rfl Tryz.call178 Ah rfl rfl .leaf (λ_ _ _=>rfl)
abbrev Z5s:LR:=⟨200,[Zq,wR],[Zq,.bool],u2 uy,.ow⟩
def Zla:Wz qA glob Z5s:=by
 refine Wz.of (e:=Z5s) (C:=Vc [Zi5] [] [] [] [] []) (X8 (Qi Zve Xa) rfl Zg Qk Zd Ql) rfl Tryz.func200 (c:=Xr Tryz.f200) rfl Tryz.call200 Ah
  sA ?_ ?_
 ·exact lf
 ·intro xs r h;refine X (U ?_) h;kernel_rfl
abbrev nx:oq:={f:=318,n:=29,np:=4,rv:=Tryz.f318.results.toList,run:=λln _ k s=>Kz (Vc [Ya] ln [kZ] [] [] []) 29 (Xr Tryz.f318) .leaf k s}
def Z6p:Y2 qA glob nx:=Y2.of (C:=Vc [Ya] [] [kZ] [] [] []) (λln=>X8 (ln:=ln) (Qi aK Xa) rfl (sN Zx0) Qk Zd Ql) Tryz.func318 rfl Tryz.call318 Ah rfl rfl .leaf (λ_ _ _=>rfl)
abbrev Zi6:oq:={f:=178,n:=61,np:=4,rv:=Tryz.f178.results.toList,run:=λln _ k s=>Kz (Vc [nx] ln [Q2,Xp,Jg] [] [] []) 61 (Xr Tryz.f178) .leaf k s}
def Zvf:Y2 qA glob Zi6:=Y2.of (C:=Vc [nx] [] [Q2,Xp,Jg] [] [] []) (λln=>X8 (ln:=ln) (Qi Z6p Xa) rfl (sP Xb Yd W9) Qk Zd Ql) Tryz.func178 rfl Tryz.call178 Ah rfl rfl .leaf (λ_ _ _=>rfl)
abbrev Zbi:LR:=⟨201,[Zq,wR,wR],[Zq,.bool],u3 xb,.ow⟩
def Zm9:Wz qA glob Zbi:=by
 refine Wz.of (e:=Zbi) (C:=Vc [nx,Zi6] [] [] [] [] []) (X8 (Qi Z6p (Qi Zvf Xa)) rfl Zg Qk Zd Ql) rfl Tryz.func201 (c:=Xr Tryz.f201) rfl Tryz.call201 Ah
  sA ?_ ?_
 ·exact lf
 ·intro xs r h;refine X (U ?_) h;kernel_rfl
abbrev oG:oq:={f:=320,n:=33,np:=3,rv:=Tryz.f320.results.toList,run:=λln _ k s=>Kz (Vc [] ln [Bn,Ez] [] [] []) 33 (Xr Tryz.f320) .leaf k s}
def Z52:Y2 qA glob oG:=Y2.of (C:=Vc [] [] [Bn,Ez] [] [] []) (λln=>X8 (ln:=ln) Xa rfl (sO yu Kj) Qk Zd Ql) Tryz.func320 rfl Tryz.call320 Ah rfl rfl .leaf (λ_ _ _=>rfl)
abbrev Zi7:oq:={f:=178,n:=61,np:=4,rv:=Tryz.f178.results.toList,run:=λln _ k s=>Kz (Vc [oG] ln [Q2,Xp,Jg] [] [] []) 61 (Xr Tryz.f178) .leaf k s}
def Zvg:Y2 qA glob Zi7:=Y2.of (C:=Vc [oG] [] [Q2,Xp,Jg] [] [] []) (λln=>X8 (ln:=ln) (Qi Z52 Xa) rfl (sP Xb Yd W9) Qk Zd Ql) Tryz.func178 rfl Tryz.call178 Ah rfl rfl .leaf (λ_ _ _=>rfl)
abbrev Zdh:LR:=⟨202,[Zq,wR,wR],[Zq,.bool],u3 yP,.ow⟩
def Zp7:Wz qA glob Zdh:=by
 refine Wz.of (e:=Zdh) (C:=Vc [oG,Zi7] [] [] [] [] []) (X8 (Qi Z52 (Qi Zvg Xa)) rfl Zg Qk Zd Ql) rfl Tryz.func202 (c:=Xr Tryz.f202) rfl Tryz.call202 Ah
  sA ?_ ?_
 ·exact lf
 ·intro xs r h;refine X (U ?_) h;kernel_rfl
abbrev Z15:LR:=⟨436,[.str,.str],[.str],u2 TA,.ow⟩
def Zz3:Wz qA glob Z15:=Wz.trim Tryz.call436 (λs c hc w hs=>Tryz.strings_Trim_one s c hc w hs)
abbrev uS:LR:=⟨323,[Y6,.str],[Y6],u2 lj,.ow⟩
def Zjl:okE uS:=TJ (sQ zq Qxc Zgq Zz3) Zd func323 call323 (sG (.join [pV 1 .str,wK 2 sD,wK 4 sD] (u3 eT) sA (sF [wK 2 sD,wK 4 sD,wJ 12 sC,pV 13 tI,pV 14 tI] (λN=>u5 (Jp N)) (u5 Z6f) (λK1=>sA)))) ⟨(λv=>Ab),λ_=>rfl,λN v=>Ab⟩
abbrev ny:oq:={f:=322,n:=15,np:=3,rv:=Tryz.f322.results.toList,run:=λln _ k s=>Kz (Vc [] ln [uS] [] [] []) 15 (Xr Tryz.f322) .leaf k s}
def Qcx:Y2 qA glob ny:=Y2.of (C:=Vc [] [] [uS] [] [] []) (λln=>X8 (ln:=ln) Xa rfl (sN Zjl) Qk Zd Ql) Tryz.func322 rfl Tryz.call322 Ah rfl rfl .leaf (λ_ _ _=>rfl)
abbrev Zi8:oq:={f:=178,n:=61,np:=4,rv:=Tryz.f178.results.toList,run:=λln _ k s=>Kz (Vc [ny] ln [Q2,Xp,Jg] [] [] []) 61 (Xr Tryz.f178) .leaf k s}
def Zvh:Y2 qA glob Zi8:=Y2.of (C:=Vc [ny] [] [Q2,Xp,Jg] [] [] []) (λln=>X8 (ln:=ln) (Qi Qcx Xa) rfl (sP Xb Yd W9) Qk Zd Ql) Tryz.func178 rfl Tryz.call178 Ah rfl rfl .leaf (λ_ _ _=>rfl)
abbrev Zbj:LR:=⟨203,[Zq,wR,.str],[Zq,.bool],u3 xc,.ow⟩
def Znc:Wz qA glob Zbj:=by
 refine Wz.of (e:=Zbj) (C:=Vc [ny,Zi8] [] [] [] [] []) (X8 (Qi Qcx (Qi Zvh Xa)) rfl Zg Qk Zd Ql) rfl Tryz.func203 (c:=Xr Tryz.f203) rfl Tryz.call203 Ah
  sA ?_ ?_
 ·exact lf
 ·intro xs r h;refine X (U ?_) h;kernel_rfl
def Zjm:okE ⟨490,[Yk,.sptr 3 wR],[.bool],u2 Zbx,.ow⟩:=TJ Zg Zd func490 call490 sA
def Zyq:okE ⟨489,[.slice 100 Yk,.clo 490 (.pair (.sptr 3 wR) (.unit))],[wR],u2 Yo,.ow⟩:=TJ (sN Zjm) Zd func489 call489 (sG (sF [pV 0 (.slice 100 Yk),pV 1 (.clo 490 (.pair (.sptr 3 wR) (.unit))),pV 7 tI,pV 8 tI] (λN=>u4 (Qt N)) (u4 Q4) (λK1=>sA))) ⟨λ_=>rfl,λN v=>Ab⟩
abbrev Zbl:LR:=⟨437,[Zq,wR],[wR],u2 pg,.ow⟩
def Zng:okE Zbl:=TJ (sN Zyq) Zd func437 call437 sA
set_option maxHeartbeats 4000000 in
def Qxe(k b n c i j:Nat)(Ad:Lf)(w W1 W2:Y)(hij:i<j)(hj:j<=n)(hnc:n<=c)(hc:c<=maxLen)
  (zE:∀w,(L3 100).run qA w=.ok k w) (hA:(ite (c=j) (O (⟨b,0,S⟩:Lf)) (O ⟨b,j*k,S⟩))=O Ad)
  (happ:∀ty,(L1 #[35,35] ty #[.slice (O ⟨b,0,S⟩) i c,.slice (O Ad) (n-j) (c-j)]).run qA w.drew=.ok (.slice (O ⟨b,0,S⟩) (i+(n-j)) c) W1)
  (hcl:∀ty,(Ma #[35] ty #[.slice (O ⟨b,(i+(n-j))*k,S⟩) (n- (i+(n-j))) (c- (i+(n-j)))]).run qA W1=.ok (.tuple #[]) W2):
  Li qA 438 #[.slice (O ⟨b,0,S⟩) n c,.int .i64 i,.int .i64 j] w λe w'=>e=.returned (.slice (O ⟨b,0,S⟩) (i+(n-j)) c)/\w'=W2:=by
 have h63:c<=9223372036854775807:=by unfold maxLen at hc;omega
 have hne:¬((i:Int)=(j:Int)):=Aa
 have hic:i<=c:=Aa
 have hjc:j<=c:=Aa
 have hx:¬(c=i+(n-j)):=Aa
 have mixed:qA.follows Ly=true:=Ab
 go_enter Tryz.func438,Tryz.ntmps438
 go_wp2_with fail
 go_region_law_o (refine Rr rfl (Cr (t:=35) (t':=35) rfl (by simp[Lq,Lr]) (by simp[Lq,Lr]) (happ _)) ?_)
 go_wp2
 go_ret
 exact⟨rfl,rfl⟩
set_option maxHeartbeats 4000000 in
def Qrg(base:Option Lf)(n c i:Nat)(w:Y)(hi:i<=n)(hnc:n<=c)(hc:c<=maxLen)(hnil:base=S->n=0/\c=0):
  Li qA 438 #[.slice base n c,.int .i64 i,.int .i64 i] w λe w'=>e=.returned (.slice base n c)/\w'=w:=by
 have h63:c<=9223372036854775807:=by unfold maxLen at hc;omega
 have mixed:qA.follows Ly=true:=Ab
 cases base with
 |none=>
  obtain⟨rfl,rfl⟩:=hnil rfl;obtain rfl:i=0:=Aa
  go_enter Tryz.func438,Tryz.ntmps438
  go_wp2
  go_ret
  exact⟨rfl,rfl⟩
 |some ad=>
  go_enter Tryz.func438,Tryz.ntmps438
  go_wp2
  all_goals (go_ret;exact⟨rfl,rfl⟩)
def Zue{t:Ty}(hT:Fs qA 35 (.slice 100 t))(hT2:Fs qA 100 t){i j:Nat}(hown:w.ownsRow 0 100 t.size v n xs)(hij:i<=j)(hj:j<=n)(h1:∀u∈xs,u.oneCell'=Lc):
  Li qA 438 #[v,.int .i64 i,.int .i64 j] w λe w'=> ∃v',e=.returned v'/\w'.ownsRow 0 100 t.size v' (n- (j-i)) (xs.take (i*t.size)++xs.drop (j*t.size))/\w.grownBy w' v.ownBlock/\v'.ownBlock=v.ownBlock:=by
 obtain⟨hu,hpos⟩:=hT.slice;have zE:=λw=>hT2.sizeOf w;have same:∀base c,v=.slice base n c->n<=c->c<=maxLen->(base=S->n=0/\c=0)->i=j->Li qA 438 #[v,.int .i64 i,.int .i64 j] w λe w'=> ∃v',e=.returned v'/\w'.ownsRow 0 100 t.size v' (n- (j-i)) (xs.take (i*t.size)++xs.drop (j*t.size))/\w.grownBy w' v.ownBlock/\v'.ownBlock=v.ownBlock:=by
  rintro base c rfl hnc hc hnil rfl;refine(Qrg base n c i w hj hnc hc hnil).mono λe w' ⟨he,hw⟩=>?_;subst hw;refine⟨_,he,?_,⟨rfl,rfl,rfl,Lp _,λ_ _ _=>rfl⟩,rfl⟩;rw[Nat.sub_self,Nat.sub_zero,List.take_append_drop];exact hown
 rcases hown.2 with⟨rfl,h0⟩|⟨b,c,cur,rfl,_,hb,hnc,hc,hcs,htk⟩
 ·exact same S 0 (by rw[h0]) Aa (Lw _) (λ_=>⟨h0,rfl⟩) Aa
 by_cases hne:i=j
 ·exact same (O ⟨b,0,S⟩) c rfl hnc hc (λh=>by cases h) hne
 have hlt:i<j:=Aa
 obtain⟨i0,hi0,hi1,_,hi2⟩:=hT2.size;have hnk:n*t.size<=cur.size:=by rw[hcs];exact Ld _ hnc
 have hjk:j*t.size<=n*t.size:=Ld _ hj;have hik:i*t.size<=j*t.size:=Ld _ hij;have hxl:xs.length=n*t.size:=hown.1;obtain⟨news,hnews⟩:∃news,news=xs.drop (j*t.size):=⟨_,rfl⟩
 have hl:news.length=(n-j)*t.size:=by rw[hnews,Lj,hxl,Nat.sub_mul]
 obtain⟨R1,hR1⟩:∃R1:Array Lb,R1=(cur.toList.take (i*t.size)++news++cur.toList.drop (i*t.size+news.length)).toArray:=⟨_,rfl⟩
 have e1:i*t.size+(n-j)*t.size=(i+(n-j))*t.size:=by rw[<-Lm]
 have e2:(i+(n-j))*t.size<=n*t.size:=Ld _ Aa;have hR1s:R1.size=cur.size:=by rw[hR1];simp only[Lo,Lh,La,Lj,Array.length_toList];omega
 obtain⟨Ad,hA,hsrc⟩:∃Ad:Lf,(ite (c=j) (O (⟨b,0,S⟩:Lf)) (O ⟨b,j*t.size,S⟩))=O Ad/\ ∀(q:Nat) u,news[q]? =O u->w.drew.cell? (Ad.add q)=O u:=by
  by_cases h:c=j
  ·refine⟨_,if_pos h,λq u hq=>?_⟩;have:news.length=0:=by rw[hl,show n-j=0 from by omega,Nat.zero_mul]
   rw[List.length_eq_zero_iff.1 this]at hq;simp at hq
  ·refine⟨_,if_neg h,λq u hq=>?_⟩;rw[hnews,L8]at hq;have hd:w.drew.heap[b]? =O (.cells cur 100 (0,0)):=hb;rw[Ls];simp only[Lx,hd];rw[<-htk,Ln]at hq;split at hq
   ·simpa using hq
   ·cases hq
 obtain⟨W1,hW1⟩:∃W1,W1=w.drew.setRow b R1:=⟨_,rfl⟩
 have happ:∀ty,(L1 #[35,35] ty #[.slice (O ⟨b,0,S⟩) i c,.slice (O Ad) (n-j) (c-j)]).run qA w.drew=.ok (.slice (O ⟨b,0,S⟩) (i+(n-j)) c) W1:=λty=>by
  rw[hW1,hR1];exact Qdj hu hi0 hi1 ty hb hl hsrc (λu hu=>h1 u (by rw[hnews]at hu;exact L9 hu)) Aa hcs
 have hb1:W1.heap[b]? =O (.cells R1 100 (0,0)):=by rw[hW1];exact Gd (W:=w.drew) hb
 have hz:(Yh t (Jk t)).cells.size=t.size:=by rw[zY hT2.plain];simp[zF hT2.plain]
 obtain⟨Z,hZ⟩:∃Z,Z=(L7 (Yh t (Jk t)).cells (n- (i+(n-j)))).toList:=⟨_,rfl⟩
 have hZl:Z.length=(n- (i+(n-j)))*t.size:=by rw[hZ,GS,hz]
 obtain⟨R2,hR2⟩:∃R2:Array Lb,R2=(R1.toList.take ((i+(n-j))*t.size)++Z++R1.toList.drop ((i+(n-j))*t.size+(n- (i+(n-j)))*t.size)).toArray:=⟨_,rfl⟩
 have hv:∀w,(zeroValue 100).run qA w=.ok (Yh t (Jk t)) w:=λw=>by
  simp[zeroValue,typeInfo,hi0,hi2]
 have e3:(i+(n-j))*t.size+(n- (i+(n-j)))*t.size=n*t.size:=by rw[<-Lm];congr 1;omega
 have hcl:∀ty,(Ma #[35] ty #[.slice (O ⟨b,(i+(n-j))*t.size,S⟩) (n- (i+(n-j))) (c- (i+(n-j)))]).run qA W1=.ok (.tuple #[]) (W1.setRow b R2):=λty=>by
  rw[hR2,hZ];exact Qii hu hv hz (λu hu=>by rw[zY hT2.plain]at hu;exact DH hT2.plain u (by simpa using hu)) ty hb1 (by rw[hR1s];omega) Aa
 refine(Qxe t.size b n c i j Ad w W1 (W1.setRow b R2) hlt hj hnc hc zE hA happ hcl).mono ?_;rintro e w' ⟨he,rfl⟩;have hT1:(cur.toList.take (i*t.size)).length=i*t.size:=by rw[La,Array.length_toList];omega
 have hs2:R2.size=R1.size:=by
  rw[hR2];simp only[Lo,Lh,La,Lj,Array.length_toList,hZl];omega
 have hlen:n- (j-i)=i+(n-j):=Aa
 refine⟨_,he,⟨?_,.inr ⟨b,c,R2,by rw[hlen],Lw _,Gd hb1,Aa,hc,by rw[hs2,hR1s,hcs],?_⟩⟩,?_,rfl⟩
 ·rw[Lh,La,Lj,hxl,hlen,<-e1,Nat.sub_mul];omega
 ·rw[hlen,hR2];simp only[];rw[Lz,Mb (by rw[La,Array.length_toList];omega),L4,Nat.min_self,hR1];simp only[];rw[L0 (by rw[Lh,hT1,hl,e1]),hnews,<-htk,L4,Lv Aa]
 ·refine⟨?_,?_,?_,?_,λx hx hne=>?_⟩
  ·rw[hW1];rfl
  ·rw[hW1];rfl
  ·rw[hW1];rfl
  ·rw[OA,hW1,OA];exact Lp _
  ·have:x≠b:=λe=>hne (by rw[e];rfl);rw[UZ this,hW1,UZ this];rfl
def Zru:Sn qA 438 100 (Yk):=⟨Tryz.call438,λh1 h2 h3 h4=>Zue SX WP h1 h2 h3 h4⟩
abbrev Pv:LR:=⟨324,[Zq,wR],[Zq,.slice 154 Zt,.bool],u2 QM,.ow⟩
def Ziw:Wz qA glob Pv:=by
 refine Wz.of (e:=Pv) (C:=ML.wdel (gW [] [Q2,Zbl,Jg] [] [] []) 438 9 100 Yk) (ML.ok.wdel (ZG rfl (sP Xb Zng W9) Qk Zd Ql) Zru) rfl Tryz.func324 (c:=Xr Tryz.f324) rfl Tryz.call324 Ah
  ((sG (.join [pY 2 sD,pY 4 sC,pY 7 sC,pV 8 tI] (λv=>yQ v.1 v.2.1 v.2.2.1 v.2.2.2.1) sA sA))) ?_ ?_
 ·exact⟨lf,lf,(λv=>Ab),lf⟩
 ·intro xs r h;refine X (U ?_) h;kernel_rfl
abbrev Zke:LR:=⟨326,[Zt],[Y1],u1 QL,.ow⟩
def Ziv:okE Zke:=TJ Zg Zd func326 call326 sA
abbrev VN:LR:=⟨491,[Ku,wR],[Ku,.bool],u2 yb,.ow⟩
def Zga:okE VN:=TJ (sP KA QY Qc) Zd func491 call491 (sI (sF [pV 1 tI,wC 2 sD,wC 4 sC,wC 6 sC,pV 7 tI] (λN=>u5 (oR N)) (u5 Z6r) (λK1=>sA))) ⟨λ_=>rfl,λN v=>Ab⟩
abbrev Qrm:LR:=⟨439,[Zv,Y1,.bool],[Zv],u3 QO,.ow⟩
def Zlg:Wz qA glob Qrm:=by
 refine Wz.of (e:=Qrm) (C:=gW [] [ZL,VR,VS,xC,zj,VM,VO,VN,YT] [] [] []) (ZG rfl (sV W8 pm KB vr xN pl YZ Zga uG) Qk Zd Ql) rfl Tryz.func439 (c:=Xr Tryz.f439) rfl Tryz.call439 Ah
  ((sJ (.join [pV 2 .bool,pZ 3 sD,wF 4 sD,pZ 6 sC,pZ 7 sC,.ptr 8 7 [4],pV 9 tI] (λv=>vl v.1 v.2.1 v.2.2.1 v.2.2.2.1 v.2.2.2.2.1 v.2.2.2.2.2.1) sA (.join [pV 2 .bool,pZ 3 sD,wF 4 sD,pZ 6 sC,pZ 7 sC,pV 9 tI] (λv=>gu v.1 v.2.1 v.2.2.1 v.2.2.2.1 v.2.2.2.2.1 v.2.2.2.2.2.1) (sG (.cond (sG (.block (.loop [pV 2 .bool,pZ 3 sD,wF 4 sD,pZ 6 sC,pZ 7 sC,.ptr 8 7 [4],pV 9 tI,wB 42 sC,pV 43 tI,pV 44 tI] (λN v=>gw N v.1 v.2.1 v.2.2.1 v.2.2.2.1 v.2.2.2.2.1 v.2.2.2.2.2.1 v.2.2.2.2.2.2.1 v.2.2.2.2.2.2.2.1 v.2.2.2.2.2.2.2.2.1) (λv=>Z2l v.1 v.2.1 v.2.2.1 v.2.2.2.1 v.2.2.2.2.1 v.2.2.2.2.2.1 v.2.2.2.2.2.2.1 v.2.2.2.2.2.2.2.1 v.2.2.2.2.2.2.2.2.1) (λK1=>sA)))) sA)) (.join [pV 2 .bool,pZ 6 sC,pZ 7 (sE (.p sC (.p sC (.p sC (.p sC sD)))))] (λv=>gv v.1 v.2.1 v.2.2.1) sA (.join [pZ 6 sC,pZ 7 (sE (.p sC (.p sC (.p sC (.p sC sD)))))] (λv=>ni v.1 v.2.1) sA sA)))))) ?_ ?_
 ·exact⟨lf,lf,lf,lf,lf,(λv=>Ab),⟨lf,⟨lf,λ_=>rfl,λN=>⟨(λv=>Ab),lf⟩⟩,lf⟩,(λv=>Ab),lf,(λv=>Ab),lf,(λv=>Ab),lf⟩
 ·intro xs r h;obtain⟨a,b,c,u⟩:=xs;cases c
  ·have h2:(none:Option _)=O r:=h;cases h2
  refine X (U ?_) h;kernel_rfl
abbrev Zik:LR:=⟨325,[Zv,Y1],[Zv],u2 KQ,.ow⟩
def Zvp:okE Zik:=TJ (sN Zlg) Zd func325 call325 sA
abbrev Zil:LR:=⟨327,[Zv],[Zv,.bool],u1 KR,.ow⟩
def Zvq:okE Zil:=TJ (sO W8 xm) Zd func327 call327 sA
abbrev Zfn:LR:=⟨204,[Zq,wR],[Zq,.bool],u2 ZS,.ow⟩
def Zs1:Wz qA glob Zfn:=by
 refine Wz.of (e:=Zfn) (C:=Vc [Ya] [] [Pv,Xp,uR,Zke,Zik,Zil] [] [] []) (X8 (Qi aK Xa) rfl (sS Ziw Yd lT Ziv Zvp Zvq) Qk Zd Ql) rfl Tryz.func204 (c:=Xr Tryz.f204) rfl Tryz.call204 Ah
  ((sI (sF [pY 4 sC,pY 6 sC,tZ 7 sC,.bor 25 7 [],pV 26 tI,pV 27 tI] (λN v=>Yc N v.1 v.2.1 v.2.2.1 v.2.2.2.1 v.2.2.2.2.1) (λv=>j0 v.1 v.2.1 v.2.2.1 v.2.2.2.1 v.2.2.2.2.1) (λK1=>(sH (.seq (.block (sJ (.join [pY 4 sC,pY 6 (sE (sE (sE sC))),tZ 7 sC,tY 10 sD,.bor 25 7 [],pV 26 tI,pV 27 tI] (λv=>aU K1 v.1 v.2.1 v.2.2.1 v.2.2.2.1 v.2.2.2.2.1 v.2.2.2.2.2.1) sA sA))) sA)))))) ?_ ?_
 ·exact⟨lf,lf,lf,⟨lf,λ_=>rfl,λN=>⟨(λv=>Ab),lf,lf,⟨lf,lf,lf,lf,lf,(λv=>Ab),lf⟩,lf⟩⟩,lf⟩
 ·intro xs r h;refine X (U ?_) h;kernel_rfl
abbrev Qr6:LR:=⟨439,[Zv,Y1,.bool],[Zv],u3 QN,.ow⟩
def Zlf:Wz qA glob Qr6:=by
 refine Wz.of (e:=Qr6) (C:=gW [] [ZL,VR,VS,xC,zj,VM,VO,VN,YT] [] [] []) (ZG rfl (sV W8 pm KB vr xN pl YZ Zga uG) Qk Zd Ql) rfl Tryz.func439 (c:=Xr Tryz.f439) rfl Tryz.call439 Ah
  ((sJ (.join [pV 2 .bool,pZ 3 sD,wF 4 sD,pZ 6 sC,pZ 7 sC,.ptr 8 7 [2],pV 9 tI] (λv=>vk v.1 v.2.1 v.2.2.1 v.2.2.2.1 v.2.2.2.2.1 v.2.2.2.2.2.1) sA (.join [pV 2 .bool,pZ 3 sD,wF 4 sD,pZ 6 sC,pZ 7 sC,pV 9 tI] (λv=>gq v.1 v.2.1 v.2.2.1 v.2.2.2.1 v.2.2.2.2.1 v.2.2.2.2.2.1) (sG (.cond (sG (.block (.loop [pV 2 .bool,pZ 3 sD,wF 4 sD,pZ 6 sC,pZ 7 sC,.ptr 8 7 [2],pV 9 tI,wB 42 sC,pV 43 tI,pV 44 tI] (λN v=>gt N v.1 v.2.1 v.2.2.1 v.2.2.2.1 v.2.2.2.2.1 v.2.2.2.2.2.1 v.2.2.2.2.2.2.1 v.2.2.2.2.2.2.2.1 v.2.2.2.2.2.2.2.2.1) (λv=>Zye v.1 v.2.1 v.2.2.1 v.2.2.2.1 v.2.2.2.2.1 v.2.2.2.2.2.1 v.2.2.2.2.2.2.1 v.2.2.2.2.2.2.2.1 v.2.2.2.2.2.2.2.2.1) (λK1=>sA)))) sA)) (.join [pV 2 .bool,pZ 6 sC,pZ 7 (sE (.p sC (.p sC (.p sC (.p sC sD)))))] (λv=>ng v.1 v.2.1 v.2.2.1) sA (.join [pZ 6 sC,pZ 7 (sE (.p sC (.p sC (.p sC (.p sC sD)))))] (λv=>nh v.1 v.2.1) sA sA)))))) ?_ ?_
 ·exact⟨lf,lf,lf,lf,lf,(λv=>Ab),⟨lf,⟨lf,λ_=>rfl,λN=>⟨(λv=>Ab),lf⟩⟩,lf⟩,(λv=>Ab),lf,(λv=>Ab),lf,(λv=>Ab),lf⟩
 ·intro xs r h;obtain⟨a,b,c,u⟩:=xs;cases c
  case true=>(have h2:(none:Option _)=O r:=h;cases h2)
  refine X (U ?_) h;kernel_rfl
def Zs4:okE ⟨328,[Zv,Y1],[Zv],u2 ZT,.ow⟩:=TJ (sN Zlf) Zd func328 call328 sA
def Zpz:okE ⟨205,[Zq,wR],[Zq,.bool],u2 yK,.ow⟩:=TJ (sS Ziw Yd lT Ziv Zs4 yu) Zd func205 call205 (sI (sF [pY 4 sC,pY 6 sC,tZ 7 sC,.bor 23 7 [],pV 24 tI,pV 25 tI] (λN=>u5 (Jh N)) (u5 iF) (λK1=>(sH (.seq (.block (sG (.join [pY 4 sC,pY 6 (sE (sE (sE (.p sC (sE (sE (sE (sE (sE (sE (sE (sE (sE sC))))))))))))),tZ 7 sC,tY 10 sD,.bor 23 7 [],pV 24 tI,pV 25 tI] (u6 (W6 K1)) sA sA))) sA))))) ⟨λ_=>rfl,λN=>⟨(λv=>Ab),λv=>Ab⟩⟩
def Zvy:okE ⟨206,[Zq,wR],[Zq,.bool],u2 KS,.ow⟩:=TJ (sP Xb W9 Qc) Zd func206 call206 sA
def Zzk:okE ⟨110,[Zq,Q8],[Zq,.bool],u2 j9,.ow⟩:=TJ (sT Zla Zm9 Zp7 Znc Zs1 Zpz Zvy) Zd func110 call110 sA
def Zpo:okE ⟨48,[Zq,Q8],[.str,Zq],u2 rO,.an⟩:=TJ (lI bm WE Xb Y' Zp1 Zd3 Z80 Zne Zp5 Zs3 Zpr Zd2 Zjk Zzk) Zd func48 call48 sA
def Zta:DQ ⟨18,[.sh Zq,.sh (.slice 74 Q8)],.flg [(.slice 9 (.str),sC),(Zq,(.u .an))],u2 ZZ⟩:=Gv [] (sO Xb Zpo) Zd func18 call18 (sH (sF [pY 5 sC,wJ 6 sC,pY 7 (.u .an),pV 19 (.slice 74 Q8),pV 20 tI,pV 21 tI] (λN=>u6 (iJ N)) (u6 rg) (λK1=>sA))) ⟨λ_=>rfl,λN v=>Ab⟩
abbrev Zdg:A9:=⟨6,[.sh (.bool),.sh cR,.sh cR,.sh (.str)],.flg [(.slice 9 (.str),sC),(Zq,(.u .an)),(.bool,sC)],u4 bC⟩
def Zp6:DQ Zdg:=Gv [] (sO Zzi Zk8) (Q5 Zta Zd) func6 call6 (sJ (.seq (.frz [(11,.u .sh)]) sA))
abbrev Zft:LR:=⟨7,[.slice 9 (.str),.slice 9 (.str)],[.bool],u2 vp,.ow⟩
def Ztl:okE Zft:=TJ Zg Zd func7 call7 (sH (sF [pV 0 (.slice 9 (.str)),pV 1 (.slice 9 (.str)),pV 5 tI] (λN=>u3 (iM N)) (u3 Z5r) (λK1=>sA))) ⟨λ_=>rfl,λN v=>Ab⟩
def Z3f:okE ⟨19,[cR,cR],[.bool],u2 JY,.ow⟩:=TJ Zg Zd func19 call19 sA
def Z3h:okE ⟨329,[.slice 3 wR,.slice 3 wR],[.bool],u2 ES,.ow⟩:=TJ Zg Zd func329 call329 (sH (sF [pV 0 (.slice 3 wR),pV 1 (.slice 3 wR),pV 5 tI] (λN=>u3 (pi N)) (u3 Qsx) (λK1=>sA))) ⟨λ_=>rfl,λN v=>Ab⟩
def Z3i:okE ⟨207,[Ku,Ku],[.bool],u2 NE,.ow⟩:=TJ (sN Z3h) Zd func207 call207 sA
def Zzq:okE ⟨330,[Zw,Zw],[.bool],u2 l5,.ow⟩:=TJ Zg Zd func330 call330 sA
def Zwb:okE ⟨208,[.slice 150 Zw,.slice 150 Zw],[.bool],u2 yj,.ow⟩:=TJ (sN Zzq) Zd func208 call208 (sH (sF [pV 0 (.slice 150 Zw),pV 1 (.slice 150 Zw),pV 5 tI] (λN=>u3 (kz N)) (u3 Qru) (λK1=>sA))) ⟨λ_=>rfl,λN v=>Ab⟩
def Zwc:okE ⟨111,[Zv,Zv],[.bool],u2 Bu,.ow⟩:=TJ (sO Z3i Zwb) Zd func111 call111 sA
def Zgf:okE ⟨21,[Q7,Q7],[.bool],u2 yi,.ow⟩:=TJ Zg Zd func21 call21 sA
def Zzn:okE ⟨440,[bI,bI],[.bool],u2 MJ,.ow⟩:=TJ Zg Zd func440 call440 sA
def Zv8:okE ⟨331,[.slice 152 bI,.slice 152 bI],[.bool],u2 Im,.ow⟩:=TJ (sN Zzn) Zd func331 call331 (sH (sF [pV 0 (.slice 152 bI),pV 1 (.slice 152 bI),pV 5 tI] (λN=>u3 (kw N)) (u3 Zus) (λK1=>sA))) ⟨λ_=>rfl,λN v=>Ab⟩
def Zv7:okE ⟨209,[Xi,Xi],[.bool],u2 DS,.ow⟩:=TJ (sN Zv8) Zd func209 call209 sA
def Zqb:okE ⟨112,[Qh,Qh],[.bool],u2 VY,.ow⟩:=TJ (sN Zv7) Zd func112 call112 sA
def Zgg:okE ⟨22,[Kk,Kk],[.bool],u2 yk,.ow⟩:=TJ Zg Zd func22 call22 sA
def Zqa:okE ⟨113,[Y6,Y6],[.bool],u2 yS,.ow⟩:=TJ Zg Zd func113 call113 sA
def Zwd:okE ⟨49,[Z1,Z1],[.bool],u2 JA,.ow⟩:=TJ (sR Zwc Zgf Zqb Zgg Zqa) Zd func49 call49 sA
def Ztk:okE ⟨20,[.slice 96 Z1,.slice 96 Z1],[.bool],u2 UJ,.ow⟩:=TJ (sN Zwd) Zd func20 call20 (sH (sF [pV 0 (.slice 96 Z1),pV 1 (.slice 96 Z1),pV 5 tI] (λN=>u3 (iL N)) (u3 Z4z) (λK1=>sA))) ⟨λ_=>rfl,λN v=>Ab⟩
def Zzo:okE ⟨23,[gg,gg],[.bool],u2 QQ,.ow⟩:=TJ Zg Zd func23 call23 sA
def Zzm:okE ⟨24,[Q7,Q7],[.bool],u2 QP,.ow⟩:=TJ Zg Zd func24 call24 sA
def Zzp:okE ⟨210,[Zt,Zt],[.bool],u2 O9,.ow⟩:=TJ Zg Zd func210 call210 sA
def Zv9:okE ⟨114,[.slice 154 Zt,.slice 154 Zt],[.bool],u2 A7,.ow⟩:=TJ (sN Zzp) Zd func114 call114 (sH (sF [pV 0 (.slice 154 Zt),pV 1 (.slice 154 Zt),pV 5 tI] (λN=>u3 (ky N)) (u3 Zy2) (λK1=>sA))) ⟨λ_=>rfl,λN v=>Ab⟩
def Zwa:okE ⟨50,[Yk,Yk],[.bool],u2 KZ,.ow⟩:=TJ (sN Zv9) Zd func50 call50 sA
def Ztj:okE ⟨25,[.slice 100 Yk,.slice 100 Yk],[.bool],u2 RR,.ow⟩:=TJ (sN Zwa) Zd func25 call25 (sH (sF [pV 0 (.slice 100 Yk),pV 1 (.slice 100 Yk),pV 5 tI] (λN=>u3 (iK N)) (u3 Zx8) (λK1=>sA))) ⟨λ_=>rfl,λN v=>Ab⟩
abbrev Zof:LR:=⟨8,[Zq,Zq],[.bool],u2 JZ,.ow⟩
def Z3g:okE Zof:=TJ (sT Z3f Ztk Zgf Zgg Zzo Zzm Ztj) Zd func8 call8 sA
abbrev yE:LR:=⟨26,[wR],[.str],u1 bk,.ow⟩
def kF:okE yE:=TJ Zg Zd func26 call26 (sI (.seq (.block (.loop [pV 0 tI,pV 3 .str] (λN=>u2 (kC N)) (u2 ud) (λK1=>sA))) sA)) ⟨λ_=>rfl,λN v=>Ab⟩
abbrev zl:GE:={f:=9,e:=9,t:=.str,args:=[wR],res:=[wR],F:=λl xs=>YY l xs.1}
def Znm:E5 qA glob zl:=by
 refine E5.of (e:=zl) (C:=gW [0] [yE] [] [] []) (ZG rfl (sN kF) Qk Zd Ql) rfl rfl rfl rfl Tryz.func9 (c:=Xr Tryz.f9) rfl Tryz.call9 Ah
  ((sG (sF [wJ 0 sC,pV 1 tI,pV 5 tI] (λN v=>dN N v.1 v.2.1 v.2.2.1) (λv=>Zor v.1 v.2.1 v.2.2.1) (λK1=>sA)))) ?_ ?_
 ·exact⟨lf,⟨lf,λ_=>rfl,λN=>⟨(λv=>Ab),lf⟩⟩,lf⟩
 ·intro l xs r h;refine X (U ?_) h;kernel_rfl
abbrev VT:CN:={f:=51,T:=.slice 3 wR,args:=[wR],res:=[wR],F:=λl xs=>Tu l xs.1}
def Zwh:oL qA glob VT:=by
 refine oL.of (e:=VT) (C:=gW [0] [] [] [] []) (ZG rfl Zg Qk Zd Ql) rfl rfl rfl rfl Tryz.func51 (c:=Xr Tryz.f51) rfl Tryz.call51 Ah
  ((sG (sF [wH 0 (.u .an),pV 1 tI,pV 5 tI] (λN v=>kB N v.1 v.2.1 v.2.2.1) (λv=>Qau v.1 v.2.1 v.2.2.1) (λK1=>sA)))) ?_ ?_
 ·exact⟨lf,⟨lf,λ_=>rfl,λN=>⟨(λv=>Ab),lf⟩⟩,lf⟩
 ·intro l xs r h;refine X (U ?_) h;kernel_rfl
abbrev ZP:CN:={f:=52,T:=.slice 150 Zw,args:=[wR],res:=[wR],F:=λl xs=>rU l xs.1}
def Zqh:oL qA glob ZP:=by
 refine oL.of (e:=ZP) (C:=gW [0] [] [] [] []) (ZG rfl Zg Qk Zd Ql) rfl rfl rfl rfl Tryz.func52 (c:=Xr Tryz.f52) rfl Tryz.call52 Ah
  ((sG (sF [wB 0 (.u .an),pV 1 tI,pV 5 tI] (λN v=>fm N v.1 v.2.1 v.2.2.1) (λv=>Z1s v.1 v.2.1 v.2.2.1) (λK1=>sA)))) ?_ ?_
 ·exact⟨lf,⟨lf,λ_=>rfl,λN=>⟨(λv=>Ab),lf⟩⟩,lf⟩
 ·intro l xs r h;refine X (U ?_) h;kernel_rfl
abbrev ZN:CN:={f:=53,T:=.slice 152 bI,args:=[wR],res:=[wR],F:=λl xs=>WA l xs.1}
def Zqf:oL qA glob ZN:=by
 refine oL.of (e:=ZN) (C:=gW [0] [yE] [] [] []) (ZG rfl (sN kF) Qk Zd Ql) rfl rfl rfl rfl Tryz.func53 (c:=Xr Tryz.f53) rfl Tryz.call53 Ah
  ((sG (sF [.val 0 (.slice 152 bI) (.u .an),pV 1 tI,pV 5 tI] (λN v=>fi N v.1 v.2.1 v.2.2.1) (λv=>Z5w v.1 v.2.1 v.2.2.1) (λK1=>sA)))) ?_ ?_
 ·exact⟨lf,⟨lf,λ_=>rfl,λN=>⟨(λv=>Ab),lf⟩⟩,lf⟩
 ·intro l xs r h;refine X (U ?_) h;kernel_rfl
abbrev Zbp:CN:={f:=27,T:=.slice 96 Z1,args:=[wR],res:=[wR],F:=λl xs=>xk l xs.1}
def Znl:oL qA glob Zbp:=by
 refine oL.of (e:=Zbp) (C:=ML.wN (gW [0] [] [] [] []) [VT,ZP,ZN]) (ML.ok.wN (ZG rfl Zg Qk Zd Ql) (Gk Zwh (Gk Zqh (Gk Zqf Up)))) rfl rfl rfl rfl Tryz.func27 (c:=Xr Tryz.f27) rfl Tryz.call27 Ah
  ((sG (sF [wQ 0 (.u .an),pV 1 tI,pV 5 tI] (λN v=>dM N v.1 v.2.1 v.2.2.1) (λv=>Zr5 v.1 v.2.1 v.2.2.1) (λK1=>sA)))) ?_ ?_
 ·exact⟨lf,⟨lf,λ_=>rfl,λN=>⟨(λv=>Ab),lf⟩⟩,lf⟩
 ·intro l xs r h;refine X (U ?_) h;kernel_rfl
abbrev ZO:CN:={f:=54,T:=.slice 154 Zt,args:=[wR],res:=[wR],F:=λl xs=>WB l xs.1}
def Zqg:oL qA glob ZO:=by
 refine oL.of (e:=ZO) (C:=gW [0] [yE] [] [] []) (ZG rfl (sN kF) Qk Zd Ql) rfl rfl rfl rfl Tryz.func54 (c:=Xr Tryz.f54) rfl Tryz.call54 Ah
  ((sG (sF [tZ 0 (.u .an),pV 1 tI,pV 5 tI] (λN v=>fj N v.1 v.2.1 v.2.2.1) (λv=>Zun v.1 v.2.1 v.2.2.1) (λK1=>sA)))) ?_ ?_
 ·exact⟨lf,⟨lf,λ_=>rfl,λN=>⟨(λv=>Ab),lf⟩⟩,lf⟩
 ·intro l xs r h;refine X (U ?_) h;kernel_rfl
abbrev Zbo:CN:={f:=28,T:=.slice 100 Yk,args:=[wR],res:=[wR],F:=λl xs=>xj l xs.1}
def Znk:oL qA glob Zbo:=by
 refine oL.of (e:=Zbo) (C:=ML.wN (gW [0] [] [] [] []) [ZO]) (ML.ok.wN (ZG rfl Zg Qk Zd Ql) (Gk Zqg Up)) rfl rfl rfl rfl Tryz.func28 (c:=Xr Tryz.f28) rfl Tryz.call28 Ah
  ((sG (sF [wP 0 (.u .an),pV 1 tI,pV 5 tI] (λN v=>dL N v.1 v.2.1 v.2.2.1) (λv=>Zum v.1 v.2.1 v.2.2.1) (λK1=>sA)))) ?_ ?_
 ·exact⟨lf,⟨lf,λ_=>rfl,λN=>⟨(λv=>Ab),lf⟩⟩,lf⟩
 ·intro l xs r h;refine X (U ?_) h;kernel_rfl
abbrev Ziq:CN:={f:=10,T:=Zq,args:=[wR],res:=[wR],F:=λl xs=>yo l xs.1}
def Zwg:oL qA glob Ziq:=by refine oL.two (TC:=Zq) (T1:=.slice 96 Z1) (T2:=.slice 100 Yk) (F:=λl xs=>yo l xs.1) (F1:=λl xs=>xk l xs.1) (F2:=λl xs=>xj l xs.1) (i:=3) (j:=15) C4 GL SX rfl rfl Znl Znk Tryz.func10 rfl Tryz.call10 rfl rfl ⟨⟨_,_,rfl,⟨rfl,rfl,rfl⟩,rfl,rfl,rfl⟩⟩ ⟨⟨_,_,_,_,_,rfl,⟨rfl,rfl,rfl⟩,⟨rfl,rfl,rfl⟩,⟨rfl,rfl,rfl⟩,⟨rfl,rfl,_,rfl⟩,rfl,rfl,rfl⟩⟩ ⟨⟨_,_,_,_,_,rfl,⟨rfl,rfl,rfl⟩,⟨rfl,rfl,rfl⟩,⟨rfl,rfl,rfl⟩,⟨rfl,rfl,_,rfl⟩,rfl,rfl,rfl⟩⟩ ⟨⟨_,_,rfl,⟨rfl,rfl,rfl⟩,rfl,rfl,rfl⟩⟩ ?_;intro a k r h;unfold yo at h;rw[Md]at h;obtain⟨z,h1,h⟩:=h;rw[Md]at h;obtain⟨u,h2,h⟩:=h;simp only[pB]at h;exact⟨a.2.2.2.1,z,(a.1,a.2.1,a.2.2.1,z.2,a.2.2.2.2),a.2.2.2.2.2.2.2.2.2.2.2.2.2.2.2.1,u,(a.1,a.2.1,a.2.2.1,z.2,a.2.2.2.2.1,a.2.2.2.2.2.1,a.2.2.2.2.2.2.1,a.2.2.2.2.2.2.2.1,a.2.2.2.2.2.2.2.2.1,a.2.2.2.2.2.2.2.2.2.1,a.2.2.2.2.2.2.2.2.2.2.1,a.2.2.2.2.2.2.2.2.2.2.2.1,a.2.2.2.2.2.2.2.2.2.2.2.2.1,a.2.2.2.2.2.2.2.2.2.2.2.2.2.1,a.2.2.2.2.2.2.2.2.2.2.2.2.2.2.1,u.2,a.2.2.2.2.2.2.2.2.2.2.2.2.2.2.2.2),Ab,h1,Ab,Ab,h2,Ab,h.symm⟩
abbrev Zbn:LR:=⟨11,[.slice 9 (.str),wR],[wR],u2 xi,.ow⟩
def Znj:okE Zbn:=TJ (sN kF) Zd func11 call11 (sG (sF [pV 0 (.slice 9 (.str)),pV 1 tI,pV 5 tI] (λN=>u3 (dK N)) (u3 Zup) (λK1=>sA))) ⟨λ_=>rfl,λN v=>Ab⟩
def Zwf:okE ⟨55,[.slice 3 wR,wR],[wR],u2 Pf,.ow⟩:=TJ Zg Zd func55 call55 (sG (sF [pV 0 (.slice 3 wR),pV 1 tI,pV 5 tI] (λN=>u3 (kA N)) (u3 Zd0) (λK1=>sA))) ⟨λ_=>rfl,λN v=>Ab⟩
def Zqe:okE ⟨56,[.slice 150 Zw,wR],[wR],u2 rT,.ow⟩:=TJ Zg Zd func56 call56 (sG (sF [pV 0 (.slice 150 Zw),pV 1 tI,pV 5 tI] (λN=>u3 (fh N)) (u3 Qkp) (λK1=>sA))) ⟨λ_=>rfl,λN v=>Ab⟩
def Zqc:okE ⟨57,[.slice 152 bI,wR],[wR],u2 VZ,.ow⟩:=TJ (sN kF) Zd func57 call57 (sG (sF [pV 0 (.slice 152 bI),pV 1 tI,pV 5 tI] (λN=>u3 (ff N)) (u3 Z2r) (λK1=>sA))) ⟨λ_=>rfl,λN v=>Ab⟩
def Zni:okE ⟨29,[.slice 96 Z1,wR],[wR],u2 YX,.ow⟩:=TJ (sP Zwf Zqe Zqc) Zd func29 call29 (sG (sF [pV 0 (.slice 96 Z1),pV 1 tI,pV 5 tI] (λN=>u3 (dJ N)) (u3 Qsz) (λK1=>sA))) ⟨λ_=>rfl,λN v=>Ab⟩
def Zqd:okE ⟨58,[.slice 154 Zt,wR],[wR],u2 V',.ow⟩:=TJ (sN kF) Zd func58 call58 (sG (sF [pV 0 (.slice 154 Zt),pV 1 tI,pV 5 tI] (λN=>u3 (fg N)) (u3 Qs0) (λK1=>sA))) ⟨λ_=>rfl,λN v=>Ab⟩
def Znh:okE ⟨30,[.slice 100 Yk,wR],[wR],u2 YW,.ow⟩:=TJ (sN Zqd) Zd func30 call30 (sG (sF [pV 0 (.slice 100 Yk),pV 1 tI,pV 5 tI] (λN=>u3 (dI N)) (u3 Qck) (λK1=>sA))) ⟨λ_=>rfl,λN v=>Ab⟩
abbrev Zip:LR:=⟨12,[Zq,wR],[wR],u2 JB,.ow⟩
def Zwe:okE Zip:=TJ (sO Zni Znh) Zd func12 call12 sA
abbrev fR:LR:=⟨3,[.bool,cR,cR,.str],[.bool],u4 kc,.ow⟩
def Zc0:Wz qA glob fR:=by
 refine Wz.of (e:=fR) (C:=ML.wN (gW [] [UE,Zft,Zof,Zbn,Zip] [zl] [Zdk,Zdg] []) [Ziq]) (ML.ok.wN (ZG rfl (sR Z3j Ztl Z3g Znj Zwe) (UD Znm Qk) (Q5 Zq2 (Q5 Zp6 Zd)) Ql) (Gk Zwg Up)) rfl Tryz.func3 (c:=Xr Tryz.f3) rfl Tryz.call3 Ah
  ((sH (.join [pV 0 .bool,pV 3 .str,.box 5 23 cR sD,.box 6 23 cR sD,wJ 9 sC,pY 10 sD,pV 11 .bool] (λv=>aL v.1 v.2.1 v.2.2.1 v.2.2.2.1 v.2.2.2.2.1 v.2.2.2.2.2.1 v.2.2.2.2.2.2.1) sA (.join [pV 0 .bool,pV 3 .str,.box 5 23 cR sD,.box 6 23 cR sD,wJ 9 sC,pY 10 sD,pV 11 .bool,wJ 12 sC,pY 13 (sE (sE (sE (.p (.u .an) (sE (sE (sE (sE (sE (sE (sE (sE (sE (sE (sE (.p (.u .an) sD)))))))))))))))),pV 14 .bool] (λv=>aM v.1 v.2.1 v.2.2.1 v.2.2.2.1 v.2.2.2.2.1 v.2.2.2.2.2.1 v.2.2.2.2.2.2.1 v.2.2.2.2.2.2.2.1 v.2.2.2.2.2.2.2.2.1 v.2.2.2.2.2.2.2.2.2.1) sA (sM (sI (.join [wJ 9 sC,pY 10 sD,pV 11 .bool,wJ 12 sC,pY 13 (sE (sE (sE (.p (.u .an) (sE (sE (sE (sE (sE (sE (sE (sE (sE (sE (sE (.p (.u .an) sD)))))))))))))))),pV 15 tI,wJ 17 sC,pY 18 (sE (sE (sE (.p (.u .an) (sE (sE (sE (sE (sE (sE (sE (sE (sE (sE (sE (.p (.u .an) sD)))))))))))))))),pV 19 .bool] (λv=>aN v.1 v.2.1 v.2.2.1 v.2.2.2.1 v.2.2.2.2.1 v.2.2.2.2.2.1 v.2.2.2.2.2.2.1 v.2.2.2.2.2.2.2.1 v.2.2.2.2.2.2.2.2.1) sA sA))))))) ?_ ?_
 ·exact⟨lf,lf,lf,(λv=>Ab),lf,(λv=>Ab),lf,lf,lf,lf,lf,lf,lf,lf,lf,lf,lf,(λv=>Ab),lf⟩
 ·intro xs r h;refine X (U ?_) h;kernel_rfl
end
end Go.Proofs.YtglbkfajafconaaGreatDoor

/- No condition. -/
import Derived.Test.YtcnklikmapfnmaaGreatDoorM2
set_option linter.all false
namespace Go.Proofs.YtcnklikmapfnmaaGreatDoor
noncomputable section
open Go.Am Go.Proofs.Tryz
open Go.Proofs.Tryz renaming prog→qA
set_option maxRecDepth 100000
open Bool renaming false→S,true→Lb
open Option renaming some→U,none→X
open Go renaming World→Y,Value→Le,Builtin→Lg,Addr→Lh,IntKind→Li,Calls→Lk,sizeOf→L4
open List renaming length_take→La,length_append→Lj,length_drop→Ll,getElem?_take→Lo,size_toArray→Lp,append_assoc→L0,take_left'→L1,take_take→L5,getElem?_drop→L9,mem_of_mem_drop→Ma,take_append_of_le_length→Mc
open Eq renaming symm→Lc,trans→Ld
open Nat renaming mul_le_mul_right→Lf,add_mul→Ln,le_refl→Lq,min_eq_left→Lw,zero_le→Lx,min_def→L6,mul_sub_right_distrib→Md
open Decidable renaming decide→Lm
open Act renaming eval→Lr,put→Ls
open Addr renaming add_lit→Lt
open IntKind renaming i64→Lu,wrap_i64→Lv
open World renaming cell?→Ly,frozen?→Me
open Departure renaming mixedOrders→Lz
open Builtin renaming append_→L2,copy_→L3,zeroCells→L8,clear_→Mb
open Go.RowKit.Below renaming refl→L7
variable{C:DL}{Γ:IC}{a b c d f g h i j k l m:P3}{fn:Func}{gl:Jh}{ln:List Nat}{xs:List Le}{n:Nat}{P Q P' Q':Prop}{ρ:Type}{v:Le}{w:Y}{ΓB:Il}{ΓL:qK}
abbrev wO:Ty:=.int .i64
abbrev sA{ρ:Type}:An ρ:=.leaf
abbrev sC:Fl:=.u Lb
abbrev sD:Fl:=.u S
abbrev lI(k:Nat)(f:Fl):PE:=.box k 37 Zq f
abbrev lP(k:Nat)(f:Fl):PE:=.box k 89 Zy f
abbrev lS(k:Nat)(f:Fl):PE:=.box k 127 Zu f
abbrev pY(k:Nat)(f:Fl):PE:=.box k 70 Qs f
abbrev pZ(k:Nat)(f:Fl):PE:=.val k (.slice 127 Zu) f
abbrev tX(k:Nat)(f:Fl):PE:=.val k (.slice 257 Zx) f
abbrev tY(k:Nat)(f:Fl):PE:=.box k 86 Kq f
abbrev tZ(k:Nat)(f:Fl):PE:=.box k 92 Xg f
abbrev wA(k:Nat)(f:Fl):PE:=.box k 98 Z2 f
abbrev wB(k:Nat)(f:Fl):PE:=.box k 239 Y6 f
abbrev wC(k:Nat)(f:Fl):PE:=.box k 257 Zx f
abbrev wD(k:Nat)(f:Fl):PE:=.box k 94 Qo f
abbrev wE(k:Nat)(f:Fl):PE:=.val k (.slice 3 wO) f
abbrev wF(k:Nat)(f:Fl):PE:=.val k (.slice 9 (.str)) f
abbrev wG(k:Nat)(f:Fl):PE:=.box k 110 Ve f
abbrev wH(k:Nat)(f:Fl):PE:=.val k (.slice 5 (.int .u8)) f
abbrev wI(k:Nat)(f:Fl):PE:=.box k 96 Yw f
abbrev wJ(k:Nat)(f:Fl):PE:=.val k (.slice 311 Qt) f
abbrev wK(k:Nat)(f:Fl):PE:=.box k 3 wO f
abbrev wL(k:Nat)(f:Fl):PE:=.val k (.slice 70 Qs) f
abbrev wM(k:Nat)(f:Fl):PE:=.val k (.slice 98 Z2) f
abbrev wN(k:Nat)(f:Fl):PE:=.val k (.slice 102 Kb) f
abbrev sE(a:Fl):Fl:=.p sD a
abbrev sF{ρ:Type}(p:List PE)(f:Nat->PE.dens p->Option ρ)(fuel:PE.dens p->Nat)(a:(PE.dens p->Option ρ)->An ρ):An ρ:=.seq (.seq .leaf (.block (.loop p f fuel a))) .leaf
abbrev sG{ρ:Type}(a:An ρ):An ρ:=.seq .leaf a
abbrev sH{ρ:Type}(a:An ρ):An ρ:=.seq .leaf (.seq .leaf a)
abbrev sI{ρ:Type}(a:An ρ):An ρ:=.seq .leaf (.seq .leaf (.seq .leaf a))
abbrev sJ{ρ:Type}(a:An ρ):An ρ:=.seq .leaf (.seq .leaf (.seq .leaf (.seq .leaf a)))
abbrev sK{ρ:Type}(a:An ρ):An ρ:=.seq .leaf (.seq .leaf (.seq .leaf (.seq .leaf (.seq .leaf a))))
abbrev sL{ρ:Type}(a:An ρ):An ρ:=.seq .leaf (.seq .leaf (.seq .leaf (.seq .leaf (.seq .leaf (.seq .leaf a)))))
abbrev sM{ρ:Type}(a:An ρ):An ρ:=.seq .leaf (.seq .leaf (.seq .leaf (.seq .leaf (.seq .leaf (.seq .leaf (.seq .leaf a))))))
def MM:nR:=Sx [(3,wO),(4,.bool),(5,.int .u8),(9,.str),(22,.slice 5 (.int .u8)),(25,iv),(26,.slice 98 Z2),(28,Q4),(30,Yr),(32,eH),(34,Q4),(35,.slice 102 Kb),(37,Zq),(38,.slice 70 Qs),(44,.slice 9 (.str)),(70,Qs),(84,.slice 3 wO),(86,Kq),(87,.slice 257 Zx),(89,Zy),(90,.slice 260 ng),(92,Xg),(94,Qo),(96,Yw),(98,Z2),(100,.slice 127 Zu),(102,Kb),(110,Ve),(127,Zu),(182,.int .u64),(236,.slice 311 Qt),(239,Y6),(255,.arr 6 (.str)),(257,Zx),(260,ng),(311,Qt)]
abbrev pW(e:Nat)(T:Ty):=Uy qA e T
def pX{e:Nat}{T:Ty}(h:(qA.info? e).map (·.zero)=U (U (Kx T (Wz T))):=by kernel_rfl)(i:JS qA e T=true:=by kernel_rfl):pW e T:=⟨h,i⟩
def Q1b:pW 3 wO:=pX
def Q1c:pW 4 .bool:=pX
def Q1d:pW 5 (.int .u8):=pX
def Q1e:pW 9 .str:=pX
def Qyq:pW 22 (.slice 5 (.int .u8)):=pX
def Qyr:pW 25 iv:=pX
def Qqt:pW 26 (.slice 98 Z2):=pX
def Qys:pW 28 Q4:=pX
def Qyt:pW 30 Yr:=pX
def Qyu:pW 32 eH:=pX
def Qyv:pW 34 Q4:=pX
def Qqu:pW 35 (.slice 102 Kb):=pX
def Qyw:pW 37 Zq:=pX
def Qyx:pW 38 (.slice 70 Qs):=pX
def Qyy:pW 44 (.slice 9 (.str)):=pX
def Qyz:pW 70 Qs:=pX
def Qy0:pW 84 (.slice 3 wO):=pX
def Qy1:pW 86 Kq:=pX
def Qy2:pW 87 (.slice 257 Zx):=pX
def Qy3:pW 89 Zy:=pX
def Qy4:pW 90 (.slice 260 ng):=pX
def Qy5:pW 92 Xg:=pX
def Qy6:pW 94 Qo:=pX
def Qy7:pW 96 Yw:=pX
def Qqv:pW 98 Z2:=pX
def Qtq:pW 100 (.slice 127 Zu):=pX
def Qkp:pW 102 Kb:=pX
def Qtr:pW 110 Ve:=pX
def Qts:pW 127 Zu:=pX
def Qtt:pW 182 (.int .u64):=pX
def Qtu:pW 236 (.slice 311 Qt):=pX
def Qtv:pW 239 Y6:=pX
def Qtw:pW 255 (.arr 6 (.str)):=pX
def Qtx:pW 257 Zx:=pX
def Qty:pW 260 ng:=pX
def Qtz:pW 311 Qt:=pX
def Qqq:MM.ok qA:=(Yy Q1b (Yy Q1c (Yy Q1d (Yy Q1e (Yy Qyq (Yy Qyr (Yy Qqt (Yy Qys (Yy Qyt (Yy Qyu (Yy Qyv (Yy Qqu (Yy Qyw (Yy Qyx (Yy Qyy (Yy Qyz (Yy Qy0 (Yy Qy1 (Yy Qy2 (Yy Qy3 (Yy Qy4 (Yy Qy5 (Yy Qy6 (Yy Qy7 (Yy Qqv (Yy Qtq (Yy Qkp (Yy Qtr (Yy Qts (Yy Qtt (Yy Qtu (Yy Qtv (Yy Qtw (Yy Qtx (Yy Qty (Yy Qtz Qto))))))))))))))))))))))))))))))))))))
noncomputable abbrev glob : Jh := Jh.vars qA [("loop.example/g01633/impl.eventWords", (· = (WM.map fun z => Le.string ⟨⟨z⟩⟩).toArray)), ("internal/strconv.uint64pow10", (· = (Go.Lib.pow10Tab.map fun z => Le.int .u64 z).toArray)), ("internal/bytealg.MaxLen", NQ), ("strconv.ErrSyntax", Qpp)]
def Qwv:II qA 25 (iv):=II.of Ab Ab rfl Ah
def Qww:II qA 28 (Q4):=II.of Ab Ab rfl Ah
def Qwx:II qA 30 (Yr):=II.of Ab Ab rfl Ah
def Qwy:II qA 32 (eH):=II.of Ab Ab rfl Ah
def Qwz:II qA 34 (Q4):=II.of Ab Ab rfl Ah
def Qw0:II qA 70 (Qs):=II.of Ab Ab rfl Ah
def Qw1:II qA 96 (Yw):=II.of Ab Ab rfl Ah
def Qr0:II qA 127 (Zu):=II.of Ab Ab rfl Ah
def Qr1:II qA 257 (Zx):=II.of Ab Ab rfl Ah
def Qr2:II qA 260 (ng):=II.of Ab Ab rfl Ah
def Qz1:List Nat:=[25,28,30,32,34,70,96,127,257,260]
def Qn6:IS qA MM Qz1:=(z5 Qwv rfl (z5 Qww rfl (z5 Qwx rfl (z5 Qwy rfl (z5 Qwz rfl (z5 Qw0 rfl (z5 Qw1 rfl (z5 Qr0 rfl (z5 Qr1 rfl (z5 Qr2 rfl Qr3))))))))))
@[reducible] def Q0p:xQ:={pp:=[(138,137)],er:=[191]}
def Qj5:Q0p.ok qA:=xQ.ok_of Ab Ab
@[reducible] def Dd(ln:List Nat)(Γ:IC)(ΓL:qK)(ΓB:Il)(ΓW:List Unit):DL:={τ:=MM,eq:=λe=>Qz1.any (Nat.beq e),Γ:=Γ,ΓL:=ΓL,ΓB:=ΓB,pQ:=ln,pt:=Q0p}
def IA(hs:gl.soft=S)(h:Γ.ok qA gl)(hL:ΓL.ok qA gl)(hB:ΓB.ok qA gl)(hW:True):(Dd ln Γ ΓL ΓB []).ok qA gl:=⟨Qqq,Qn6,h,Ab,hL,hB,hs,Qj5,(λ_ h=>by cases h)⟩
@[reducible] def Vi(I:Tl)(ln:List Nat)(Γ:IC)(ΓL:qK)(ΓB:Il)(ΓW:List Unit):DL:={Dd ln Γ ΓL ΓB ΓW with inl:=I}
def Ya{I:Tl}(hI:I.ok qA gl)(hs:gl.soft=S)(h:Γ.ok qA gl)(hL:ΓL.ok qA gl)(hB:ΓB.ok qA gl)(hW:True):(Vi I ln Γ ΓL ΓB []).ok qA gl:=⟨Qqq,Qn6,h,Ab,hL,hB,hs,Qj5,hI⟩
abbrev u1{a z:Type}(f:a->z)(x:a×Unit):z:=f x.1
abbrev u2{a b z:Type}(f:a->b->z)(x:a×b×Unit):z:=f x.1 x.2.1
abbrev u3{a b c z:Type}(f:a->b->c->z)(x:a×b×c×Unit):z:=f x.1 x.2.1 x.2.2.1
abbrev u4{a b c d z:Type}(f:a->b->c->d->z)(x:a×b×c×d×Unit):z:=f x.1 x.2.1 x.2.2.1 x.2.2.2.1
abbrev u5{a b c d e z:Type}(f:a->b->c->d->e->z)(x:a×b×c×d×e×Unit):z:=f x.1 x.2.1 x.2.2.1 x.2.2.2.1 x.2.2.2.2.1
abbrev u6{a b c d e g z:Type}(f:a->b->c->d->e->g->z)(x:a×b×c×d×e×g×Unit):z:=f x.1 x.2.1 x.2.2.1 x.2.2.2.1 x.2.2.2.2.1 x.2.2.2.2.2.1
abbrev u7{a b c d e g h z:Type}(f:a->b->c->d->e->g->h->z)(x:a×b×c×d×e×g×h×Unit):z:=f x.1 x.2.1 x.2.2.1 x.2.2.2.1 x.2.2.2.2.1 x.2.2.2.2.2.1 x.2.2.2.2.2.2.1
abbrev u8{a b c d e g h i z:Type}(f:a->b->c->d->e->g->h->i->z)(x:a×b×c×d×e×g×h×i×Unit):z:=f x.1 x.2.1 x.2.2.1 x.2.2.2.1 x.2.2.2.2.1 x.2.2.2.2.2.1 x.2.2.2.2.2.2.1 x.2.2.2.2.2.2.2.1
abbrev u9{a b c d e g h i j z:Type}(f:a->b->c->d->e->g->h->i->j->z)(x:a×b×c×d×e×g×h×i×j×Unit):z:=f x.1 x.2.1 x.2.2.1 x.2.2.2.1 x.2.2.2.2.1 x.2.2.2.2.2.1 x.2.2.2.2.2.2.1 x.2.2.2.2.2.2.2.1 x.2.2.2.2.2.2.2.2.1
abbrev u10{a b c d e g h i j k z:Type}(f:a->b->c->d->e->g->h->i->j->k->z)(x:a×b×c×d×e×g×h×i×j×k×Unit):z:=f x.1 x.2.1 x.2.2.1 x.2.2.2.1 x.2.2.2.2.1 x.2.2.2.2.2.1 x.2.2.2.2.2.2.1 x.2.2.2.2.2.2.2.1 x.2.2.2.2.2.2.2.2.1 x.2.2.2.2.2.2.2.2.2.1
abbrev u11{a b c d e g h i j k l z:Type}(f:a->b->c->d->e->g->h->i->j->k->l->z)(x:a×b×c×d×e×g×h×i×j×k×l×Unit):z:=f x.1 x.2.1 x.2.2.1 x.2.2.2.1 x.2.2.2.2.1 x.2.2.2.2.2.1 x.2.2.2.2.2.2.1 x.2.2.2.2.2.2.2.1 x.2.2.2.2.2.2.2.2.1 x.2.2.2.2.2.2.2.2.2.1 x.2.2.2.2.2.2.2.2.2.2.1
abbrev u12{a b c d e g h i j k l m z:Type}(f:a->b->c->d->e->g->h->i->j->k->l->m->z)(x:a×b×c×d×e×g×h×i×j×k×l×m×Unit):z:=f x.1 x.2.1 x.2.2.1 x.2.2.2.1 x.2.2.2.2.1 x.2.2.2.2.2.1 x.2.2.2.2.2.2.1 x.2.2.2.2.2.2.2.1 x.2.2.2.2.2.2.2.2.1 x.2.2.2.2.2.2.2.2.2.1 x.2.2.2.2.2.2.2.2.2.2.1 x.2.2.2.2.2.2.2.2.2.2.2.1
abbrev u13{a b c d e g h i j k l m n z:Type}(f:a->b->c->d->e->g->h->i->j->k->l->m->n->z)(x:a×b×c×d×e×g×h×i×j×k×l×m×n×Unit):z:=f x.1 x.2.1 x.2.2.1 x.2.2.2.1 x.2.2.2.2.1 x.2.2.2.2.2.1 x.2.2.2.2.2.2.1 x.2.2.2.2.2.2.2.1 x.2.2.2.2.2.2.2.2.1 x.2.2.2.2.2.2.2.2.2.1 x.2.2.2.2.2.2.2.2.2.2.1 x.2.2.2.2.2.2.2.2.2.2.2.1 x.2.2.2.2.2.2.2.2.2.2.2.2.1
abbrev u14{a b c d e g h i j k l m n o z:Type}(f:a->b->c->d->e->g->h->i->j->k->l->m->n->o->z)(x:a×b×c×d×e×g×h×i×j×k×l×m×n×o×Unit):z:=f x.1 x.2.1 x.2.2.1 x.2.2.2.1 x.2.2.2.2.1 x.2.2.2.2.2.1 x.2.2.2.2.2.2.1 x.2.2.2.2.2.2.2.1 x.2.2.2.2.2.2.2.2.1 x.2.2.2.2.2.2.2.2.2.1 x.2.2.2.2.2.2.2.2.2.2.1 x.2.2.2.2.2.2.2.2.2.2.2.1 x.2.2.2.2.2.2.2.2.2.2.2.2.1 x.2.2.2.2.2.2.2.2.2.2.2.2.2.1
def lA{ρ:Type}:An ρ->Bool|.leaf=>Lb|.frz _=>Lb|.seq A B=>lA A&&lA B|.cond A B=>lA A&&lA B|.block A=>lA A|_=>S
def aj(a b:Bool)(P Q:Prop):Prop:=match a,b with
 |true,Lb=>True
 |true,S=>Q
 |false,Lb=>P
 |false,S=>P/\Q
def Zvu(a b:Bool)(P J Q:Prop):Prop:=match a,b with
 |true,Lb=>J
 |true,S=>J/\Q
 |false,Lb=>P/\J
 |false,S=>P/\J/\Q
def cj{ρ:Type}(C:DL)(n:Nat):Code->An ρ->(Exit->St->Option ρ)->Prop
 |.seq a b,A,k=>match A with
  |.seq A B=>aj (lA A) (lA B) (cj C n a A (YO (Ji C n b B k) k)) (cj C n b B k)
  |.join p f A B=>Zvu (lA A) (lA B) (cj C n a A (YO (AV C.soft p f) k)) (∀v,f v=Ji C n b B k (PV C.pQ p v)) (cj C n b B k)
  |_=>True
 |.cond _ a b,A,k=>match A with
  |.cond A B=>aj (lA A) (lA B) (cj C n a A k) (cj C n b B k)
  |_=>True
 |.block id b,A,k=>match A with
  |.block A=>cj C n b A (DI id k)
  |_=>True
 |.loop b,A,k=>match A with
  |.loop p f _ A=>(∀v,f 0 v=X)/\ ∀N,match lA (A (f N))with
   |true=> ∀v,f (N+1) v=Ji C n b (A (f N)) (YO (AV C.soft p (f N)) k) (PV C.pQ p v)
   |false=>(∀v,f (N+1) v=Ji C n b (A (f N)) (YO (AV C.soft p (f N)) k) (PV C.pQ p v))/\cj C n b (A (f N)) (YO (AV C.soft p (f N)) k)
  |.unroll L m A=> ∀i,i<m->cj C n b (A i) (YO (Go.Am.SW (λi kk s=>Ji C n b (A i) (YO kk k) (Du L s)) i) k)
  |_=>True
 |_,_,_=>True
def IO:∀(c:Code)(A:An ρ)(k:Exit->St->Option ρ),lA A=Lb->aW C n c A k:=by
 intro c
 induction c with
 |seq a b iha ihb=>
  intro A k h;cases A<;>simp only[lA,pC]at h<;>simp only[aW]
  ·exact⟨iha _ _ h.1,ihb _ _ h.2⟩
  ·cases h
 |cond o a b iha ihb=>
  intro A k h;cases A<;>simp only[lA,pC]at h<;>simp only[aW]
  exact⟨iha _ _ h.1,ihb _ _ h.2⟩
 |block id b ih=>
  intro A k h;cases A<;>simp only[lA]at h<;>simp only[aW]
  exact ih _ _ h
 |loop b ih=>
  intro A k h;cases A<;>simp only[lA]at h<;>simp only[aW]
  ·cases h
  ·cases h
 |_=>intros;simp only[aW]
def Quf{a b:Bool}(h:aj a b P Q)(hp:P->P')(hq:Q->Q')(ha:a=Lb->P')(hb:b=Lb->Q'):P'/\Q':=by
 cases a<;>cases b
 ·exact⟨hp h.1,hq h.2⟩
 ·exact⟨hp h,hb rfl⟩
 ·exact⟨ha rfl,hq h⟩
 ·exact⟨ha rfl,hb rfl⟩
def Qzh{a b:Bool}{J:Prop}(h:Zvu a b P J Q)(hp:P->P')(hq:Q->Q')(ha:a=Lb->P')(hb:b=Lb->Q'):P'/\J/\Q':=by
 cases a<;>cases b
 ·exact⟨hp h.1,h.2.1,hq h.2.2⟩
 ·exact⟨hp h.1,h.2,hb rfl⟩
 ·exact⟨ha rfl,h.1,hq h.2⟩
 ·exact⟨ha rfl,h,hb rfl⟩
def Quq:∀(c:Code)(A:An ρ)(k:Exit->St->Option ρ),cj C n c A k->aW C n c A k:=by
 intro c
 induction c with
 |seq a b iha ihb=>
  intro A k h;cases A<;>simp only[aW]<;>simp only[cj]at h
  ·exact Quf h (iha _ _) (ihb _ _) (IO _ _ _) (IO _ _ _)
  ·exact Qzh h (iha _ _) (ihb _ _) (IO _ _ _) (IO _ _ _)
 |cond o a b iha ihb=>
  intro A k h;cases A<;>simp only[aW]<;>simp only[cj]at h
  exact Quf h (iha _ _) (ihb _ _) (IO _ _ _) (IO _ _ _)
 |block id b ih=>
  intro A k h;cases A<;>simp only[aW]<;>simp only[cj]at h
  exact ih _ _ h
 |loop b ih=>
  intro A k h;cases A<;>simp only[aW]<;>simp only[cj]at h
  ·refine⟨h.1,λN=>?_⟩;have h:=h.2 N;split at h
   ·rename_i e;exact⟨h,IO _ _ _ e⟩
   ·exact⟨h.1,ih _ _ h.2⟩
  ·exact λi hi=>ih _ _ (h i hi)
 |_=>intros;simp only[aW]
def lf{c:Code}{k:Exit->St->Option ρ}:aW C n c (sA:An ρ) k:=Ko c k
def hk{α β:Type}{f g:α->Option β}(h:∀x,f x=g x)(x:α)(r:β)(e:g x=U r):f x=U r:=(h x).trans e
abbrev okE(e:P3):=bQ qA glob e
abbrev TH(e:BW):=zY qA glob e
def sN(A:okE a):IC.ok [a] qA glob:=(Za A Zg)
def sO(A:okE a)(B:okE b):IC.ok [a,b] qA glob:=(Za A (Za B Zg))
def sP(A:okE a)(B:okE b)(C:okE c):IC.ok [a,b,c] qA glob:=(Za A (Za B (Za C Zg)))
def sQ(A:okE a)(B:okE b)(C:okE c)(D:okE d):IC.ok [a,b,c,d] qA glob:=(Za A (Za B (Za C (Za D Zg))))
def sR{e:P3}(A:okE a)(B:okE b)(C:okE c)(D:okE d)(E:okE e):IC.ok [a,b,c,d,e] qA glob:=(Za A (Za B (Za C (Za D (Za E Zg)))))
def sS{e:P3}(A:okE a)(B:okE b)(C:okE c)(D:okE d)(E:okE e)(F:okE f):IC.ok [a,b,c,d,e,f] qA glob:=(Za A (Za B (Za C (Za D (Za E (Za F Zg))))))
def sT{e:P3}(A:okE a)(B:okE b)(C:okE c)(D:okE d)(E:okE e)(F:okE f)(G:okE g):IC.ok [a,b,c,d,e,f,g] qA glob:=(Za A (Za B (Za C (Za D (Za E (Za F (Za G Zg)))))))
def sU{e:P3}(A:okE a)(B:okE b)(C:okE c)(D:okE d)(E:okE e)(F:okE f)(G:okE g)(H:okE h):IC.ok [a,b,c,d,e,f,g,h] qA glob:=(Za A (Za B (Za C (Za D (Za E (Za F (Za G (Za H Zg))))))))
def sV{e:P3}(A:okE a)(B:okE b)(C:okE c)(D:okE d)(E:okE e)(F:okE f)(G:okE g)(H:okE h)(I:okE i):IC.ok [a,b,c,d,e,f,g,h,i] qA glob:=(Za A (Za B (Za C (Za D (Za E (Za F (Za G (Za H (Za I Zg)))))))))
def sW{e:P3}(A:okE a)(B:okE b)(C:okE c)(D:okE d)(E:okE e)(F:okE f)(G:okE g)(H:okE h)(I:okE i)(J:okE j):IC.ok [a,b,c,d,e,f,g,h,i,j] qA glob:=(Za A (Za B (Za C (Za D (Za E (Za F (Za G (Za H (Za I (Za J Zg))))))))))
def Z3c{e:P3}(A:okE a)(B:okE b)(C:okE c)(D:okE d)(E:okE e)(F:okE f)(G:okE g)(H:okE h)(I:okE i)(J:okE j)(K:okE k):IC.ok [a,b,c,d,e,f,g,h,i,j,k] qA glob:=(Za A (Za B (Za C (Za D (Za E (Za F (Za G (Za H (Za I (Za J (Za K Zg)))))))))))
def Qds{e:P3}(A:okE a)(B:okE b)(C:okE c)(D:okE d)(E:okE e)(F:okE f)(G:okE g)(H:okE h)(I:okE i)(J:okE j)(K:okE k)(L:okE l)(M:okE m):IC.ok [a,b,c,d,e,f,g,h,i,j,k,l,m] qA glob:=(Za A (Za B (Za C (Za D (Za E (Za F (Za G (Za H (Za I (Za J (Za K (Za L (Za M Zg)))))))))))))
def Z0f{e n:P3}(A:okE a)(B:okE b)(C:okE c)(D:okE d)(E:okE e)(F:okE f)(G:okE g)(H:okE h)(I:okE i)(J:okE j)(K:okE k)(L:okE l)(M:okE m)(N:okE n):IC.ok [a,b,c,d,e,f,g,h,i,j,k,l,m,n] qA glob:=(Za A (Za B (Za C (Za D (Za E (Za F (Za G (Za H (Za I (Za J (Za K (Za L (Za M (Za N Zg))))))))))))))
def Zzx{e n o:P3}(A:okE a)(B:okE b)(C:okE c)(D:okE d)(E:okE e)(F:okE f)(G:okE g)(H:okE h)(I:okE i)(J:okE j)(K:okE k)(L:okE l)(M:okE m)(N:okE n)(O:okE o):IC.ok [a,b,c,d,e,f,g,h,i,j,k,l,m,n,o] qA glob:=(Za A (Za B (Za C (Za D (Za E (Za F (Za G (Za H (Za I (Za J (Za K (Za L (Za M (Za N (Za O Zg)))))))))))))))
def Sk{e:P3}(h1:Γ.ok qA glob)(h2:ΓB.ok qA glob)(hf:qA.funcs[e.f]? =U fn)(hcall:∀args w,(callFunc e.f args).run qA w=.ok (.enter e.f args) w)(A:An (dJ e.res))(hA:cj (Dd [] Γ [] ΓB []) fn.ntmps (Yh fn) A (BY (Dd [] Γ [] ΓB []).τ e.res fn.results.toList):=by trivial)
  (hF:∀xs,Ji (Dd [] Γ [] ΓB []) fn.ntmps (Yh fn) A (BY (Dd [] Γ [] ΓB []).τ e.res fn.results.toList) (Gt e.args xs)=e.F xs:=by intro _;kernel_rfl) (hb:fn.body=U (Yh fn):=by rfl) (hn:e.args.length<=fn.ntmps:=by decide):okE e:=bQ.of (IA rfl h1 Q6 h2 Q7) rfl hf hb hcall hn A (Quq _ _ _ hA) (hk hF)
def GU{e:BW}(L:List Nat)(h1:Γ.ok qA glob)(h2:ΓB.ok qA glob)(hf:qA.funcs[e.f]? =U fn)(hcall:∀args w,(callFunc e.f args).run qA w=.ok (.enter e.f args) w)(A:An (IZ e.res×BS e.args))(hA:cj (Dd L Γ [] ΓB []) fn.ntmps (Yh fn) A (BH (Dd L Γ [] ΓB []).τ e.args e.res fn.results.toList):=by trivial)
  (hF:∀xs,Ji (Dd L Γ [] ΓB []) fn.ntmps (Yh fn) A (BH (Dd L Γ [] ΓB []).τ e.args e.res fn.results.toList) (AB e.args xs)=e.F xs:=by intro _;kernel_rfl) (hb:fn.body=U (Yh fn):=by rfl) (hn:e.args.length<=fn.ntmps:=by decide) (hlent:L=rU e.args 0:=by rfl):TH e:=zY.of (IA rfl h1 Q6 h2 Q7) rfl hlent hf hb hcall hn A (Quq _ _ _ hA) (hk hF)
abbrev tI:Ty:=.int .i64
abbrev pV(k:Nat)(t:Ty):PE:=.val k t sD
def Qeo:okE ⟨4,[.slice 5 (.int .u8)],[.bool],u1 Im⟩:=Sk Zg Ze func4 call4 sA
def wj:TH ⟨28,[.sh (.slice 5 (.int .u8))],.newb 110 Ve,u1 qr⟩:=GU [] Zg Ze func28 call28 (sH (sF [pV 0 (.slice 5 (.int .u8)),pV 3 tI,pV 4 tI] (λN=>u3 (ZP N)) (u3 XT) (λK1=>sA))) ⟨λ_=>rfl,λN v=>Ab⟩
def UU:TH ⟨69,[.bx 110 Ve sD],.vals [wO],u1 aP⟩:=GU [0] Zg Ze func69 call69 sA
def Yj:TH ⟨32,[.bx 110 Ve sD,.sh wO],.vals [wO],u2 Qm⟩:=GU [0] Zg (Zt UU Ze) func32 call32 sA
def mF:TH ⟨30,[.bx 110 Ve sD,.sh wO],.vals [.bool],u2 aQ⟩:=GU [0] Zg (Zt Yj Ze) func30 call30 sA
def Zpq:okE ⟨68,[],[iv],λ_=>zn⟩:=Sk Zg Ze func68 call68 sA
def QK:TH ⟨31,[.bx 110 Ve sD],.vals [iv],u1 cy⟩:=GU [0] (sN Zpq) (Zt Yj Ze) func31 call31 sA
def Uc:okE ⟨163,[wO],[.bool],u1 eF⟩:=Sk Zg Ze func163 call163 sA
def Xs:okE ⟨146,[wO,wO,wO],[.bool],u3 Z9⟩:=Sk Zg Ze func146 call146 sA
def RB:okE ⟨63,[iv],[.bool],u1 aL⟩:=Sk (sO Uc Xs) Ze func63 call63 sA
def Xy:okE ⟨164,[wO],[.bool],u1 Q5⟩:=Sk (sN Xs) Ze func164 call164 sA
def Zgd:okE ⟨64,[wO],[Q4,.bool],u1 bZ⟩:=Sk (sN Xy) Ze func64 call64 sA
def Zgf:okE ⟨65,[wO,wO],[Yr,.bool],u2 cd⟩:=Sk (sN Xs) Ze func65 call65 sA
def Zx2:okE ⟨66,[wO],[eH,.bool],u1 wm⟩:=Sk (sN Xs) Ze func66 call66 sA
def Zx0:okE ⟨67,[wO],[Q4,.bool],u1 wk⟩:=Sk (sN Xs) Ze func67 call67 sA
def RF:okE ⟨29,[.bool,iv,iv],[Zq,.bool],u3 ej⟩:=Sk (sR RB Zgd Zgf Zx2 Zx0) Ze func29 call29 sA
def oQ:TH ⟨70,[.bx 110 Ve sD,.sh (.slice 3 wO)],.vals [wO],u2 Js⟩:=GU [0] Zg (Zt Yj Ze) func70 call70 sA
def JJ:TH ⟨71,[.bx 110 Ve sD,.sh (.slice 9 (.str))],.vals [.str],u2 lQ⟩:=GU [0] Zg (Zt Yj Ze) func71 call71 sA
def JK:TH ⟨62,[.bx 110 Ve sD,.sh wO],.vals [.str],u2 lT⟩:=GU [0] Zg (Zt Yj (Zt JJ Ze)) func62 call62 (sH (sF [wG 0 sD,pV 5 .str,pV 6 tI] (λN=>u3 (jr N)) (u3 rq) (λK1=>sA))) ⟨λ_=>rfl,λN v=>Ab⟩
def xg:okE ⟨277,[Zu],[.bool],u1 Jx⟩:=Sk Zg Ze func277 call277 (sG (.seq (sG (.block (.join [pV 5 .bool] (u1 Kc) sA sA))) sA)) (λv=>Ab)
def Znt:okE ⟨168,[Zu],[Zu],u1 po⟩:=Sk (sN xg) Ze func168 call168 (sH (.join [lS 1 sD,lS 2 sD,lS 3 sD] (u3 td) sA (.seq (sG (.block (sG (.cond sA (sG (.cond sA (sG (.cond sA (.join [lS 1 sD,lS 2 sD,lS 3 sD,pV 41 .bool] (u4 tf) sA sA))))))))) sA))) ⟨(λv=>Ab),λv=>Ab⟩
def Zk8:TH ⟨74,[.bx 110 Ve sD],.vals [Zu],u1 uR⟩:=GU [0] (sN Znt) (Zt oQ (Zt Yj (Zt JK (Zt mF Ze)))) func74 call74 sA
def Zin:okE ⟨270,[wO],[.str],u1 ql⟩:=Sk Zg Ze func270 call270 sA
def ct:okE ⟨166,[Zu],[.bool],u1 W5⟩:=Sk (sP Zin Znt Xy) Ze func166 call166 (sH (.seq (sG (.block (sG (.cond sA (.join [lS 1 sD,pV 60 .bool] (u2 QO) sA sA))))) sA)) (λv=>Ab)
def Ziq:okE ⟨275,[wO],[wO],u1 lO⟩:=Sk Zg Ze func275 call275 sA
def Zps:okE ⟨491,[wO,wO],[.str],u2 sl⟩:=Sk (sN Xs) Ze func491 call491 (sI (sF [pV 0 tI,pV 1 tI,pV 5 .str,pV 6 tI] (λN=>u4 (Y1 N)) (u4 Z71) (λK1=>sA))) ⟨λ_=>rfl,λN v=>Ab⟩
def Px:okE ⟨400,[wO],[.str],u1 fe⟩:=Sk (sN Zps) Ze func400 call400 sA
def Zr9:okE ⟨276,[wO],[.str],u1 Wg⟩:=Sk (sO Ziq Px) Ze func276 call276 (sI (sF [pV 0 tI,pV 3 tI,pV 4 .str,pV 5 tI] (λN=>u4 (Qw N)) (u4 Vo) (λK1=>(sG (.seq (.block (sG (.join [pV 0 tI,pV 3 tI,pV 4 .str,pV 5 tI,pV 6 tI] (u5 (Yv K1)) sA sA))) sA))))) ⟨λ_=>rfl,λN=>⟨(λv=>Ab),λv=>Ab⟩⟩
def Zpt:okE ⟨167,[.slice 3 wO],[.str],u1 Xx⟩:=Sk (sO Ziq Zr9) Ze func167 call167 (sH (sF [pV 0 (.slice 3 wO),pV 3 .str,pV 4 tI] (λN=>u3 (Vb N)) (u3 iI) (λK1=>sA))) ⟨λ_=>rfl,λN v=>Ab⟩
def zR:okE ⟨73,[Zu],[.str],u1 Wj⟩:=Sk (sO ct Zpt) Ze func73 call73 (sH (.seq (sG (.block (sG (.cond sA (sG (.cond sA (sG (.cond (sG (.join [lS 1 sD,pV 3 tI] (u2 Wq) sA sA)) (.join [lS 1 sD,pV 9 tI,pV 62 .bool] (u3 Xl) sA (.cond sA (.join [lS 1 sD,pV 71 .bool] (u2 Y2) sA sA))))))))))) (sG (.join [lS 1 sD,pV 4 tI] (u2 Wr) sA sA)))) ⟨⟨λv=>Ab,(λv=>Ab),λv=>Ab⟩,λv=>Ab⟩
def Zk5:okE ⟨165,[wO],[.int .u8],u1 ph⟩:=Sk Zg Ze func165 call165 sA
def JE:okE ⟨72,[.str],[.str],u1 je⟩:=Sk (sN Zk5) Ze func72 call72 (sH (sF [pV 0 .str,wH 3 sC,pV 4 tI] (λN=>u3 (pa N)) (u3 uD) (λK1=>sA))) ⟨λ_=>rfl,λN v=>Ab⟩
def Zk7:okE ⟨75,[Qs],[Qs],u1 uP⟩:=Sk Zg Ze func75 call75 (sH (.seq (sG (.block (.join [pY 1 sD,pY 2 sD,pY 3 sD,pV 8 tI,pV 12 .bool] (u5 v7) sA (.cond sA (.join [pY 1 sD,pY 2 sD,pY 3 sD,pV 8 tI,pV 18 .bool] (u5 v8) sA (.cond sA (sG (.cond sA (.join [pY 1 sD,pY 2 sD,pY 3 sD,pV 32 .bool] (u4 oc) sA sA))))))))) sA)) ⟨(λv=>Ab),(λv=>Ab),λv=>Ab⟩
def WE:TH ⟨33,[.bx 110 Ve sD],.vals [Qs],u1 wu⟩:=GU [0] (sP zR JE Zk7) (Zt oQ (Zt Yj (Zt JJ (Zt JK (Zt Zk8 Ze))))) func33 call33 (sI (.join [wG 0 sD,pY 2 sD,pY 4 sD] (u3 Wm) (sG (.block (sG (.cond sA (sG (.cond sA (sG (.cond sA (sG (.cond sA (sG (.cond sA (.join [wG 0 sD,pY 2 sD,pY 4 sD,pV 46 .bool] (u4 ta) sA sA))))))))))))) sA)) ⟨λv=>Ab,λv=>Ab⟩
def Zpr:okE ⟨5,[.slice 5 (.int .u8)],[Zq,.slice 70 Qs],u1 zo⟩:=Sk (sN RF) (Zt wj (Zt mF (Zt QK (Zt Yj (Zt WE Ze))))) func5 call5 (sJ (sF [lI 2 sC,.ptr 4 11 [],lI 5 sC,wL 7 sC,pV 8 tI,wG 11 sD] (λN=>u5 (kK N)) (u5 qg) (λK1=>sA))) ⟨λ_=>rfl,λN v=>Ab⟩
abbrev Zzu:P3:=⟨77,[wO],[.bool,.bool,.bool],u1 wh⟩
def PR:okE Zzu:=Sk Zg Ze func77 call77 (sG (.seq (sG (.block (.join [pV 5 tI,pV 6 .bool] (u2 uu) sA (.cond sA (.join [pV 5 tI,pV 9 .bool] (u2 uv) sA (.cond sA (sG (.cond sA (.join [pV 14 .bool] (u1 oK) sA sA))))))))) sA)) ⟨(λv=>Ab),(λv=>Ab),λv=>Ab⟩
abbrev Zhq:P3:=⟨78,[wO],[.str],u1 Jj⟩
open Go.RowKit in
def Zp7(k:Int)(w:Y)(hw:∀i,i<13->w.cell? ⟨0,i,X⟩=U (.string ⟨⟨WM.getD i []⟩⟩)):
  Lk qA 78 #[.int .i64 k] w λe w'=>e=.returned (.string ⟨⟨cond (Lm (1<=k)&&Lm (k<=12)) (WM.getD k.toNat []) []⟩⟩)/\Below w.heap.size w w':=by
 by_cases h1:1<=k
 ·by_cases h2:k<=12
  ·have hc:=hw k.toNat Aa
   have e:(cond (Lm (1<=k)&&Lm (k<=12)) (WM.getD k.toNat []) [])=WM.getD k.toNat []:=by simp[h1,h2]
   rw[e];generalize WM.getD k.toNat []=t at*
   go_enter Tryz.func78,Tryz.ntmps78
   go_wp2
   go_ret
   exact⟨rfl,L7 _ _⟩
  ·have e:(cond (Lm (1<=k)&&Lm (k<=12)) (WM.getD k.toNat []) [])=[]:=by simp[h2]
   rw[e]
   go_enter Tryz.func78,Tryz.ntmps78
   go_wp2
   go_ret
   exact⟨rfl,L7 _ _⟩
 ·have e:(cond (Lm (1<=k)&&Lm (k<=12)) (WM.getD k.toNat []) [])=[]:=by simp[h1]
  rw[e]
  go_enter Tryz.func78,Tryz.ntmps78
  go_wp2
  go_ret
  exact⟨rfl,L7 _ _⟩
def JB:bQ qA glob Zhq where
 enters:=Tryz.call78
 calls:=λw xs r vals hg hx hr=>by
  obtain⟨cs,us,rfl,h1,rfl⟩:=hx;obtain⟨rfl,_⟩:cs=[.int .i64 xs.1]/\_:=h1;simp only[Jj,pB]at hr;subst hr;have hv:=Jh.vars_eq hg 0 Ah rfl rfl;exact(Zp7 xs.1 w (λj hj=>Qmn hv Ab j hj)).mono λe w' ⟨h2,h3⟩=>⟨[_],[],h2,⟨[_],[],[],[],rfl,rfl,⟨rfl,rfl⟩,rfl,rfl⟩,Ac,h3⟩
abbrev qR:P3:=⟨126,[wO,wO,wO],[.bool],u3 Z0⟩
def Qc:okE qR:=Sk Zg Ze func126 call126 sA
def Zxr:okE ⟨278,[.str,.int .u8,.int .u8],[.bool],u3 ZB⟩:=Sk (sN Qc) Ze func278 call278 (sG (sF [pV 0 .str,pV 1 (.int .u8),pV 2 (.int .u8),pV 7 tI] (λN=>u4 (ge N)) (u4 xc) (λK1=>sA))) ⟨λ_=>rfl,λN v=>Ab⟩
def Zxt:okE ⟨233,[.int .u8],[wO],u1 iD⟩:=Sk Zg Ze func233 call233 sA
def Zfz:okE ⟨117,[.str],[.str,.bool],u1 mt⟩:=Sk (sN Zxt) Ze func117 call117 (sI (sF [pV 0 .str,wH 4 sC,pV 5 tI] (λN=>u3 (bE N)) (u3 uj) (λK1=>sA))) ⟨λ_=>rfl,λN v=>Ab⟩
def Z46:okE ⟨169,[Qs],[.bool],u1 Ss⟩:=Sk (sP Zxr Zfz Qc) Ze func169 call169 sA
abbrev Zme:P3:=⟨76,[Qs],[.bool],u1 oz⟩
def BT:okE Zme:=Sk (sQ PR JB Qc Z46) Ze func76 call76 sA
abbrev Z3u:P3:=⟨170,[wO],[.str],u1 JZ⟩
def Zla:bQ qA glob Z3u:=bQ.intStr Tryz.call170 λn w hg h0 h1=>(Tryz.strconv_Itoa n h0 h1 w (Jh.vars_eq hg 1 Ah rfl rfl)).mono λe w' ⟨he,k,os,hw⟩=>⟨he,hw▸Go.Lib.below_grow _ _ (Lq _) k os⟩
def ka:okE ⟨79,[wO],[.str],u1 Xb⟩:=Sk (sN Zla) Ze func79 call79 sA
abbrev Zc8:P3:=⟨34,[Qs],[.str],u1 lV⟩
def Zb3:okE Zc8:=Sk (sQ BT PR JB ka) Ze func34 call34 (sJ (.join [pY 1 sD,pV 4 .bool,pV 5 .bool,pV 6 .str] (u4 qw) sA (.join [pY 1 sD,pV 5 .bool,pV 6 .str] (u3 qx) sA sA))) ⟨(λv=>Ab),λv=>Ab⟩
def Zm3:okE ⟨6,[.slice 70 Qs],[.str],u1 xt⟩:=Sk (sN Zb3) Ze func6 call6 (sH (sF [pV 3 .str,pV 7 (.slice 70 Qs),pV 8 tI,pV 9 tI] (λN=>u4 (cV N)) (u4 nt) (λK1=>sA))) ⟨λ_=>rfl,λN v=>Ab⟩
abbrev Z00:P3:=⟨35,[.str,.str],[.slice 9 (.str)],u2 wv⟩
def Ziu:bQ qA glob Z00:=
 bQ.split Tryz.call35 Ah (λw hg=>Jh.vars_int (b:=1) hg 2 Ah rfl rfl Ab)
  (λs p k w h1 h2 h3=>Tryz.strings_Split s p k w h1 h2 h3)
abbrev Zqg:P3:=⟨81,[.str,.str],[.str,.str,.bool],u2 yR⟩
def Z5l:bQ qA glob Zqg:=
 bQ.cut Tryz.call81 (λw hg=>Jh.vars_int (b:=1) hg 2 Ah rfl rfl Ab)
  (λs p k w h1 h2=>Tryz.strings_Cut s p k w h1 h2)
abbrev Z3t:P3:=⟨175,[.str],[wO,.err],u1 CI⟩
def Z1q:bQ qA glob Z3t:=
 bQ.atoi Tryz.call175 (λw hg=>Jh.vars_err hg 3 Ah rfl rfl) (λs n hl h w=>Tryz.strconv_Atoi s n hl h w)
  (λs hl h tp p w hv=>(Tryz.strconv_Atoi_err_var s hl h tp p w hv).mono λe w' ⟨N,h1,_,_,h2⟩=>⟨_,N,h1,h2⟩)
abbrev Zkt:P3:=⟨82,[.str],[wO,.bool],u1 dN⟩
def Zxi:okE Zkt:=Sk (sP Z1q Zla Qc) Ze func82 call82 sA
abbrev Zfa:P3:=⟨36,[.str],[Qs,.bool],u1 uV⟩
def Zrz:bQ qA glob Zfa:=by
 refine bQ.of (e:=Zfa) (C:=Dd [] [Zqg,Zhq,Zzu,Zme,Zc8,Zkt] [] [] []) (IA rfl (sS Z5l JB PR BT Zb3 Zxi) Q6 Ze Q7) rfl Tryz.func36 (c:=Yh Tryz.f36) rfl Tryz.call36 Ah
  ((sI (.seq (sG (.block (.loop [pV 0 .str,pY 2 sD,pV 4 .str,pV 5 .str,pY 7 sD,pV 8 tI] (λN v=>V1 N v.1 v.2.1 v.2.2.1 v.2.2.2.1 v.2.2.2.2.1 v.2.2.2.2.2.1) (λv=>Ztr v.1 v.2.1 v.2.2.1 v.2.2.2.1 v.2.2.2.2.1 v.2.2.2.2.2.1) (λK1=>(sG (.join [pV 0 .str,pY 2 sD,pV 4 .str,pV 5 .str,pY 7 sD,pV 8 tI] (λv=>uq K1 v.1 v.2.1 v.2.2.1 v.2.2.2.1 v.2.2.2.2.1 v.2.2.2.2.2.1) sA sA)))))) (sG (.seq (sG (.block (.unroll [0,2,5,7,9,10,11,45,46,47,55,56,59,60,61,62,63,64,65,93,94,95,96] 3 (λ_=>sA)))) (.join [pV 0 .str,pY 2 sD,pY 7 sD] (λv=>Kw v.1 v.2.1 v.2.2.1) sA sA)))))) ?_ ?_
 ·exact⟨lf,lf,lf,⟨lf,λ_=>rfl,λN=>⟨(λv=>Ab),lf,lf,(λv=>Ab),lf⟩⟩,lf,⟨lf,(λi _=>lf)⟩,lf,(λv=>Ab),lf⟩
 ·intro xs r h;refine Ld (Lc ?_) h;kernel_rfl
def Zat:okE ⟨7,[.str],[.slice 70 Qs,.bool],u1 jy⟩:=Sk (sO Ziu Zrz) Ze func7 call7 (sI (sF [pV 4 (.slice 9 (.str)),wL 5 sC,pV 6 tI,pV 19 (.slice 9 (.str)),pV 20 tI,pV 21 tI] (λN=>u6 (cU N)) (u6 nr) (λK1=>sA))) ⟨λ_=>rfl,λN v=>Ab⟩
def JF:okE ⟨84,[wO],[.str],u1 d9⟩:=Sk (sN Xs) Ze func84 call84 sA
def Zsv:okE ⟨176,[.str],[.bool],u1 QV⟩:=Sk (sN Xs) Ze func176 call176 (sG (sF [pV 0 .str,pV 3 tI] (λN=>u2 (ir N)) (u2 tc) (λK1=>sA))) ⟨λ_=>rfl,λN v=>Ab⟩
def Znq:okE ⟨177,[.str],[.bool],u1 xO⟩:=Sk (sN Xs) Ze func177 call177 (sG (sF [pV 0 .str,pV 3 tI] (λN=>u2 (dE N)) (u2 nA) (λK1=>sA))) ⟨λ_=>rfl,λN v=>Ab⟩
def Zvg:okE ⟨204,[.int .u8],[wO],u1 yJ⟩:=Sk (sN Zk5) Ze func204 call204 (sG (sF [pV 0 (.int .u8),pV 3 tI] (λN=>u2 (bK N)) (u2 uN) (λK1=>sA))) ⟨λ_=>rfl,λN v=>Ab⟩
def Zgb:okE ⟨104,[.str],[.str,.bool],u1 mI⟩:=Sk (sN Zvg) Ze func104 call104 (sI (sF [pV 0 .str,wH 4 sC,pV 5 tI] (λN=>u3 (bH N)) (u3 lv) (λK1=>sA))) ⟨λ_=>rfl,λN v=>Ab⟩
def Zk2:okE ⟨83,[Qs],[.bool],u1 bc⟩:=Sk (sS JF Zk7 Xs Zsv Znq Zgb) Ze func83 call83 sA
def dX:okE ⟨85,[wO],[.str],u1 Qh⟩:=Sk Zg Ze func85 call85 (sJ (.seq (.block (.loop [pV 0 tI,pV 3 .str,pV 4 .bool] (λN=>u3 (bI N)) (u3 uE) (λK1=>(sG (.block (sG (.join [pV 0 tI,pV 3 .str,pV 4 .bool,pV 5 tI] (u4 (kf K1)) sA sA))))))) sA)) ⟨λ_=>rfl,λN=>⟨(λv=>Ab),λv=>Ab⟩⟩
def Zb7:okE ⟨37,[Qs],[.str],u1 ba⟩:=Sk (sP Zk2 JF dX) Ze func37 call37 (sI (.seq (sG (.block (.join [pY 1 sD,pV 3 .str,pV 11 tI,pV 12 .bool] (u4 kN) sA (.cond sA (.join [pY 1 sD,pV 3 .str,pV 11 tI,pV 20 .bool] (u4 kO) sA (.cond sA (sG (.cond sA (.join [pY 1 sD,pV 3 .str,pV 41 .bool] (u3 eP) sA sA))))))))) sA)) ⟨(λv=>Ab),(λv=>Ab),λv=>Ab⟩
def Zay:okE ⟨8,[.slice 70 Qs],[.str],u1 o9⟩:=Sk (sN Zb7) Ze func8 call8 (sH (sF [pV 0 (.slice 70 Qs),pV 3 .str,pV 4 tI] (λN=>u3 (dn N)) (u3 nx) (λK1=>sA))) ⟨λ_=>rfl,λN v=>Ab⟩
def XI:okE ⟨178,[wO],[.bool],u1 nH⟩:=Sk (sN Qc) Ze func178 call178 sA
def Ey:okE ⟨86,[iv],[.bool],u1 oy⟩:=Sk (sO XI Qc) Ze func86 call86 sA
abbrev XY:P3:=⟨179,[wO],[.bool],u1 Xt⟩
def Km:okE XY:=Sk (sN Qc) Ze func179 call179 sA
def Zf4:okE ⟨87,[wO],[Q4,.bool],u1 Bi⟩:=Sk (sN Km) Ze func87 call87 sA
def Zf6:okE ⟨88,[wO,wO],[Yr,.bool],u2 NR⟩:=Sk (sN Qc) Ze func88 call88 sA
def Zxg:okE ⟨89,[wO],[eH,.bool],u1 Tb⟩:=Sk (sN Qc) Ze func89 call89 sA
def Zxe:okE ⟨90,[wO],[Q4,.bool],u1 Sq⟩:=Sk (sN Qc) Ze func90 call90 sA
def Z08:okE ⟨38,[.bool,iv,iv],[Zq,.bool],u3 Ip⟩:=Sk (sR Ey Zf4 Zf6 Zxg Zxe) Ze func38 call38 sA
def V':okE ⟨444,[Kq],[Kq],u1 lJ⟩:=Sk Zg Ze func444 call444 sA
def uy:okE ⟨445,[.slice 257 Zx],[.slice 257 Zx],u1 aS⟩:=Sk Zg Ze func445 call445 sA
abbrev YY:P3:=⟨323,[Zy],[Zy],u1 Wc⟩
def ay:okE YY:=Sk (sO V' uy) Ze func323 call323 sA
abbrev Zff:P3:=⟨446,[Xg],[Xg],u1 eY⟩
def XH:okE Zff:=Sk Zg Ze func446 call446 sA
def oN:okE ⟨324,[Qo],[Qo],u1 bF⟩:=Sk (sN XH) Ze func324 call324 sA
def Zd3:okE ⟨208,[Z2],[Z2],u1 nG⟩:=Sk (sO ay oN) Ze func208 call208 sA
def Zb6:okE ⟨108,[.slice 98 Z2],[.slice 98 Z2],u1 cZ⟩:=Sk (sN Zd3) Ze func108 call108 (sH (sF [wM 3 sC,pV 7 (.slice 98 Z2),pV 8 tI,pV 9 tI] (λN=>u4 (kH N)) (u4 Wi) (λK1=>sA))) ⟨λ_=>rfl,λN v=>Ab⟩
def Zpm:okE ⟨109,[.slice 102 Kb],[.slice 102 Kb],u1 VU⟩:=Sk Zg Ze func109 call109 (sH (sF [wN 3 sC,pV 7 (.slice 102 Kb),pV 8 tI,pV 9 tI] (λN=>u4 (kG N)) (u4 iC) (λK1=>sA))) ⟨λ_=>rfl,λN v=>Ab⟩
abbrev Xe:P3:=⟨41,[Zq],[Zq],u1 Zw⟩
def Xi:okE Xe:=Sk (sO Zb6 Zpm) Ze func41 call41 sA
def Zxd:okE ⟨488,[wO],[.bool],u1 CX⟩:=Sk (sN Qc) Ze func488 call488 sA
def Z4c:okE ⟨535,[.slice 3 wO,.fnc 488],[wO],λxs=>aB xs.1⟩:=Sk (sN Zxd) Ze func535 call535 (sG (sF [pV 0 (.slice 3 wO),pV 1 (.fnc 488),pV 7 tI,pV 8 tI] (λN=>u4 (Yk N)) (u4 Y5) (λK1=>sA))) ⟨λ_=>rfl,λN v=>Ab⟩
def Zvs:okE ⟨487,[.slice 3 wO,.fnc 488],[.bool],λxs=>We xs.1⟩:=Sk (sN Z4c) Ze func487 call487 sA
def JC:okE ⟨385,[Kq],[.bool],u1 tu⟩:=Sk (sQ XI Zvs Km Qc) Ze func385 call385 sA
def Oh:okE ⟨453,[Zx],[.bool],u1 KQ⟩:=Sk Zg Ze func453 call453 sA
def lZ:okE ⟨384,[.slice 257 Zx],[.bool],u1 aR⟩:=Sk (sN Oh) Ze func384 call384 (sG (sF [pV 0 (.slice 257 Zx),pV 5 (.slice 257 Zx),pV 6 tI,pV 7 tI] (λN=>u4 (rI N)) (u4 w9) (λK1=>sA))) ⟨λ_=>rfl,λN v=>Ab⟩
def Zas:okE ⟨252,[.slice 257 Zx],[wO],u1 bD⟩:=Sk (sN lZ) Ze func252 call252 (sI (sF [pV 3 tI,pV 9 (.slice 257 Zx),pV 10 tI,pV 11 tI] (λN=>u4 (iP N)) (u4 nq) (λK1=>sA))) ⟨λ_=>rfl,λN v=>Ab⟩
abbrev wy:P3:=⟨338,[.slice 257 Zx,Zx],[.slice 257 Zx],u2 iy⟩
def rV:okE wy:=Sk (sP lZ Oh uy) Ze func338 call338 (sI (sF [wC 3 sD,tX 5 sC,pV 6 .bool,pV 20 (.slice 257 Zx),pV 21 tI,pV 22 tI] (λN=>u6 (Je N)) (u6 mU) (λK1=>(sH (.seq (.block (sG (.block (sG (.cond sA (sG (.cond (.join [wC 3 sD,tX 5 sC,pV 6 .bool,wC 8 sD,pV 20 (.slice 257 Zx),pV 21 tI,pV 22 tI] (u7 (rx K1)) sA sA) sA))))))) sA))))) ⟨λ_=>rfl,λN=>⟨(λv=>Ab),λv=>Ab⟩⟩
def Zd4:okE ⟨388,[.slice 257 Zx,wO],[.bool],u2 kq⟩:=Sk Zg Ze func388 call388 sA
def Zxs:okE ⟨386,[.slice 257 Zx,.slice 257 Zx,.slice 257 Zx,wO],[.bool],u4 WZ⟩:=Sk (sQ Zas uy rV Zd4) Ze func386 call386 (sI (sF [pV 3 tI,tX 9 sC,tX 27 sC,pV 28 tI,pV 29 tI] (λN=>u5 (rP N)) (u5 mW) (λK1=>sA))) ⟨λ_=>rfl,λN v=>Ab⟩
abbrev OJ:P3:=⟨387,[.slice 257 Zx,wO],[wO],u2 wc⟩
def VY:okE OJ:=Sk (sN lZ) Ze func387 call387 (sH (sF [pV 1 tI,pV 14 (.slice 257 Zx),pV 15 tI,pV 16 tI] (λN=>u4 (lU N)) (u4 w8) (λK1=>sA))) ⟨λ_=>rfl,λN v=>Ab⟩
abbrev VS:P3:=⟨389,[Zy],[wO],u1 mB⟩
def xF:okE VS:=Sk Zg Ze func389 call389 sA
def zk:okE ⟨253,[Zy],[.bool],u1 qd⟩:=Sk (sU JC lZ Qc Km Zxs VY Zd4 xF) Ze func253 call253 (sJ (.join [lP 1 sD,pV 4 tI] (u2 rJ) sA sA)) (λv=>Ab)
def c8:okE ⟨122,[Q4],[.bool],u1 dM⟩:=Sk (sO Km Qc) Ze func122 call122 sA
abbrev Zhp:P3:=⟨257,[ng],[wO],u1 bS⟩
def oM:okE Zhp:=Sk Zg Ze func257 call257 sA
abbrev Zks:P3:=⟨256,[Xg],[.bool],u1 lE⟩
def rW:okE Zks:=Sk (sO Km oM) Ze func256 call256 (sI (sF [pV 3 tI,pV 13 (.slice 260 ng),pV 14 tI,pV 15 tI] (λN=>u4 (rH N)) (u4 mV) (λK1=>sA))) ⟨λ_=>rfl,λN v=>Ab⟩
def Z7f:okE ⟨390,[Xg],[wO],u1 E1⟩:=Sk (sO rW oM) Ze func390 call390 sA
def Zd2:okE ⟨454,[Xg],[wO],u1 nF⟩:=Sk (sN rW) Ze func454 call454 sA
def Zij:okE ⟨391,[Xg],[wO],u1 ZE⟩:=Sk (sN Zd2) Ze func391 call391 sA
def gf:okE ⟨254,[Qo],[.bool],u1 ck⟩:=Sk (sR rW Z7f Km Qc Zij) Ze func254 call254 (sI (.seq (sG (.block (sG (.cond sA (sG (.cond sA (sG (.cond sA (sG (.cond sA (.join [wD 1 sD,pV 101 .bool] (u2 f6) sA sA))))))))))) sA)) (λv=>Ab)
def l6:okE ⟨123,[Yr],[.bool],u1 lH⟩:=Sk (sN Qc) Ze func123 call123 sA
def XG:okE ⟨255,[Yw],[.bool],u1 nC⟩:=Sk (sN Qc) Ze func255 call255 sA
def VZ:okE ⟨133,[Z2],[.bool],u1 wd⟩:=Sk (sS Km zk c8 gf l6 XG) Ze func133 call133 sA
def XF:okE ⟨121,[.slice 98 Z2],[.bool],u1 kn⟩:=Sk (sN VZ) Ze func121 call121 (sG (sF [pV 0 (.slice 98 Z2),pV 5 (.slice 98 Z2),pV 6 tI,pV 7 tI] (λN=>u4 (cC N)) (u4 jv) (λK1=>sA))) ⟨λ_=>rfl,λN v=>Ab⟩
def ei:okE ⟨124,[eH],[.bool],u1 y7⟩:=Sk (sN Qc) Ze func124 call124 sA
def QH:okE ⟨125,[Q4],[.bool],u1 um⟩:=Sk (sN Qc) Ze func125 call125 sA
def Zig:okE ⟨259,[wO],[.str],u1 WV⟩:=Sk Zg Ze func259 call259 sA
abbrev xU:P3:=⟨260,[Zu],[.bool],u1 Ju⟩
def fO:okE xU:=Sk Zg Ze func260 call260 (sG (.seq (sG (.block (.join [pV 5 .bool] (u1 Wu) sA sA))) sA)) (λv=>Ab)
def Qbo:okE ⟨383,[Zu],[Zu],u1 co⟩:=Sk (sN fO) Ze func383 call383 (sH (.join [lS 1 sD,lS 2 sD,lS 3 sD] (u3 jV) sA (.seq (sG (.block (sG (.cond sA (sG (.cond sA (sG (.cond sA (.join [lS 1 sD,lS 2 sD,lS 3 sD,pV 41 .bool] (u4 EO) sA sA))))))))) sA))) ⟨(λv=>Ab),λv=>Ab⟩
abbrev dQ:P3:=⟨248,[Zu],[.bool],u1 Vz⟩
def cq:okE dQ:=Sk (sP Zig Qbo Km) Ze func248 call248 sA
def Znc:okE ⟨247,[Zu],[.bool],u1 KP⟩:=Sk (sN cq) Ze func247 call247 sA
def Zvq:okE ⟨382,[.slice 127 Zu,.fnc 247],[wO],λxs=>Y8 xs.1⟩:=Sk (sN Znc) Ze func382 call382 (sG (sF [pV 0 (.slice 127 Zu),pV 1 (.fnc 247),pV 7 tI,pV 8 tI] (λN=>u4 (Q3 N)) (u4 Yb) (λK1=>sA))) ⟨λ_=>rfl,λN v=>Ab⟩
def Z0a:okE ⟨246,[.slice 127 Zu,.fnc 247],[.bool],λxs=>Xr xs.1⟩:=Sk (sN Zvq) Ze func246 call246 sA
def Zr5:okE ⟨127,[.slice 102 Kb,wO],[.bool],u2 Hs⟩:=Sk (sO Qc Z0a) Ze func127 call127 (sG (sF [pV 0 (.slice 102 Kb),pV 1 tI,pV 7 (.slice 102 Kb),pV 8 tI,pV 9 tI] (λN=>u5 (mA N)) (u5 rO) (λK1=>sA))) ⟨λ_=>rfl,λN v=>Ab⟩
def Zpi:okE ⟨250,[Z2],[wO],u1 Zh2⟩:=Sk Zg Ze func250 call250 sA
def Q0r:okE ⟨249,[.slice 98 Z2,.fnc 250],[wO],λxs=>lq xs.1⟩:=Sk (sO XF Zpi) Ze func249 call249 (sI (sF [pV 1 (.fnc 250),pV 5 tI,pV 11 (.slice 98 Z2),pV 12 tI,pV 13 tI] (λN=>u5 (Vl N)) (u5 bV) (λK1=>sA))) ⟨λ_=>rfl,λN v=>Ab⟩
def Zuv:okE ⟨128,[.slice 98 Z2],[wO],u1 KL⟩:=Sk (sN Q0r) Ze func128 call128 sA
def Zph:okE ⟨251,[Z2],[wO],u1 Zh1⟩:=Sk Zg Ze func251 call251 sA
def Qub:okE ⟨249,[.slice 98 Z2,.fnc 251],[wO],λxs=>lk xs.1⟩:=Sk (sO XF Zph) Ze func249 call249 (sI (sF [pV 1 (.fnc 251),pV 5 tI,pV 11 (.slice 98 Z2),pV 12 tI,pV 13 tI] (λN=>u5 (Vk N)) (u5 bU) (λK1=>sA))) ⟨λ_=>rfl,λN v=>Ab⟩
def Zut:okE ⟨129,[.slice 98 Z2],[wO],u1 KI⟩:=Sk (sN Qub) Ze func129 call129 sA
abbrev dL:P3:=⟨45,[Zq],[.bool],u1 Wo⟩
def Vm:okE dL:=Sk (sW Ey XF c8 l6 ei QH Qc Zr5 Zuv Zut) Ze func45 call45 sA
def zj:okE ⟨110,[Zq],[.bool],u1 lG⟩:=Sk Zg Ze func110 call110 sA
abbrev Vq:P3:=⟨209,[Zq],[.bool],u1 Jb⟩
def az:okE Vq:=Sk (sO Vm zj) Ze func209 call209 sA
abbrev om:BW:=⟨211,[.bx 37 Zq sC,.sh (.bool)],.fp Zq 0 [7] [6],u2 Kv⟩
def xe:TH om:=GU [0] Zg Ze func211 call211 sA
def Zxh:okE ⟨210,[eH],[wO,eH,.bool],u1 ZA⟩:=Sk (sN ei) Ze func210 call210 sA
abbrev Z3s:P3:=⟨325,[.bool],[wO],u1 rQ⟩
def DX:okE Z3s:=Sk Zg Ze func325 call325 sA
def Z44:okE ⟨212,[wO,.bool,.bool],[wO],u3 Ge⟩:=Sk (sO Qc DX) Ze func212 call212 sA
def cI:okE ⟨326,[wO],[.bool],u1 cn⟩:=Sk (sN Km) Ze func326 call326 sA
def Zpc:okE ⟨327,[],[Qo],λ_=>Zhz⟩:=Sk Zg Ze func327 call327 sA
def Z8l:okE ⟨328,[],[Yw],λ_=>ye⟩:=Sk Zg Ze func328 call328 sA
def vg:okE ⟨447,[wO],[.bool],u1 uo⟩:=Sk (sN cI) Ze func447 call447 sA
def Zrv:okE ⟨455,[wO],[.bool],u1 Zkw⟩:=Sk (sN cI) Ze func455 call455 sA
abbrev ue:P3:=⟨341,[.bool,wO],[.bool],u2 V0⟩
def wi:okE ue:=Sk (sO cI Zrv) Ze func341 call341 sA
abbrev rt:P3:=⟨329,[.bool,wO],[.bool],u2 ya⟩
def JA:okE rt:=Sk (sP cI vg wi) Ze func329 call329 sA
abbrev kB:P3:=⟨330,[.bool,wO],[.bool],u2 jw⟩
def yq:okE kB:=Sk (sP cI vg wi) Ze func330 call330 sA
def Z09:okE ⟨448,[wO],[Kq,.bool],u1 Zt1⟩:=Sk (sN XI) Ze func448 call448 sA
def Zup:okE ⟨331,[wO],[Zy,.bool],u1 Dn⟩:=Sk (sN Z09) Ze func331 call331 sA
def Zf5:okE ⟨213,[.bool,wO,iv,iv],[Z2,.bool],u4 yj⟩:=Sk (sV cI Ey Zpc Z8l JA yq Zup Zf4 Zf6) Ze func213 call213 sA
def Zm4:okE ⟨449,[Z2,.sptr 3 wO],[.bool],u2 Zfn⟩:=Sk Zg Ze func449 call449 sA
def Z0e:okE ⟨333,[.slice 98 Z2,.clo 449 (.pair (.sptr 3 wO) (.unit))],[wO],u2 Yu⟩:=Sk (sN Zm4) Ze func333 call333 (sG (sF [pV 0 (.slice 98 Z2),pV 1 (.clo 449 (.pair (.sptr 3 wO) (.unit))),pV 7 tI,pV 8 tI] (λN=>u4 (Qz N)) (u4 X7) (λK1=>sA))) ⟨λ_=>rfl,λN v=>Ab⟩
abbrev Xw:P3:=⟨332,[.slice 98 Z2,wO],[wO],u2 Z8⟩
def Yf:okE Xw:=Sk (sN Z0e) Ze func332 call332 sA
def Zpe:okE ⟨334,[Z2,.sptr 98 Z2],[.bool],u2 Zh0⟩:=Sk Zg Ze func334 call334 sA
def Qis:okE ⟨333,[.slice 98 Z2,.clo 334 (.pair (.sptr 98 Z2) (.unit))],[wO],u2 Xu⟩:=Sk (sN Zpe) Ze func333 call333 (sG (sF [pV 0 (.slice 98 Z2),pV 1 (.clo 334 (.pair (.sptr 98 Z2) (.unit))),pV 7 tI,pV 8 tI] (λN=>u4 (Q2 N)) (u4 X9) (λK1=>sA))) ⟨λ_=>rfl,λN v=>Ab⟩
set_option maxHeartbeats 4000000 in
def Qlm(k:Nat)(hk:0<k)(zE:∀w,(L4 98).run qA w=.ok k w)(b n c i vb m vc:Nat)(cur vcur:Array Le)(t:TypeId)(w:Y)(hi:i<n)(hm:0<m)(hroom:n+m<=c)(hc:c<=maxLen)(hvb:vb≠b)
  (hb:w.heap[b]? =U (.cells cur 98 (0,0))) (hcs:cur.size=c*k) (hv:w.heap[vb]? =U (.cells vcur t (0,0))) (hvs:m*k<=vcur.size)
  (h1:∀u∈cur.toList.take (n*k),u.oneCell'=Lb) (h1v:∀u∈vcur.toList.take (m*k),u.oneCell'=Lb):
  Lk qA 335 #[.slice (U ⟨b,0,X⟩) n c,.int .i64 i,.slice (U ⟨vb,0,X⟩) m vc] w λe w'=>
   e=.returned (.slice (U ⟨b,0,X⟩) (n+m) c)/\ ∃R1 R2:Array Le,w'=(w.drew.setRow b R1).setRow b R2/\R2.size=cur.size/\
    R2.toList.take ((n+m)*k)=cur.toList.take (i*k)++vcur.toList.take (m*k)++(cur.toList.take (n*k)).drop (i*k):=by
 have hz1:¬((m:Int)=0):=Aa
 have hz2:¬((i:Int)=(n:Int)):=Aa
 have h63:c<=9223372036854775807:=by unfold maxLen at hc;omega
 have hw1:Lu.wrap ((i:Int)+(m:Int))=(i:Int)+(m:Int):=by rw[Lv];omega
 have hw2:Lu.wrap ((n:Int)+(m:Int))=(n:Int)+(m:Int):=by rw[Lv];omega
 have hb1:(0:Int)<=(i:Int)+(m:Int):=Aa
 have hin:i<=n:=Aa
 have htn:((i:Int)+(m:Int)).toNat=i+m:=Aa
 have hb2:¬(c=i+m):=Aa
 have hb3:(i:Int)<=(n:Int)+(m:Int):=Aa
 have hb4:¬(c=i):=Aa
 have hov:∀lb cb,(callFunc 450 #[.slice (U ⟨vb,0,X⟩) m vc,.slice (U ⟨b,(i+m)*k,X⟩) lb cb]).run qA w=.ok (.value (.bool S)) w:=λlb cb=>by
  rw[run_callFunc_extern Tryz.func450 Ab Ab Ab (e:=Extern.SlicesOverlaps.overlaps #[26,26] #[4]) Ab,
   Lib.run_overlaps_apart w 26 4 98 Ab k zE ⟨vb,0,X⟩ ⟨b,(i+m)*k,X⟩ m vc lb cb hvb t 98 vcur.size cur.size (by simp[Y.shape?,hv]) (by simp[Y.shape?,hb]) (by rw[hcs];exact Nat.mul_ne_zero (by omega) (by omega)) (by simp[Me,hv]) (by simp[Me,hv])]
  rfl
 obtain⟨C,hC⟩:∃C,C=(cur.toList.take (n*k)).drop (i*k):=⟨_,rfl⟩
 obtain⟨V,hV⟩:∃V,V=vcur.toList.take (m*k):=⟨_,rfl⟩
 have hnk:n*k<=cur.size:=by rw[hcs];exact Lf _ Aa
 have hmk:(n+m)*k<=cur.size:=by rw[hcs];exact Lf _ hroom
 have hCl:C.length=(n-i)*k:=by rw[hC];simp only[Ll,La,Array.length_toList];rw[Lw hnk,Md]
 have hVl:V.length=m*k:=by rw[hV];simp only[La,Array.length_toList];omega
 obtain⟨R1,hR1⟩:∃R1:Array Le,R1=(cur.toList.take ((i+m)*k)++C++cur.toList.drop ((i+m)*k+C.length)).toArray:=⟨_,rfl⟩
 have e1:(i+m)*k+(n-i)*k=(n+m)*k:=by rw[<-Ln];congr 1;omega
 have e2:i*k+m*k=(i+m)*k:=by rw[<-Ln]
 have hR1s:R1.size=cur.size:=by rw[hR1];simp only[Lp,Lj,La,Ll,Array.length_toList];omega
 obtain⟨R2,hR2⟩:∃R2:Array Le,R2=(R1.toList.take (i*k)++V++R1.toList.drop (i*k+V.length)).toArray:=⟨_,rfl⟩
 have hcp1:∀ty dc sc,(L3 #[26,26] ty #[.slice (U ⟨b,(i+m)*k,X⟩) (n+m- (i+m)) dc,.slice (U ⟨b,i*k,X⟩) (n+m-i) sc]).run qA w.drew=.ok (goInt (n-i:Nat)) (w.drew.setRow b R1):=λty dc sc=>by
  rw[hR1];exact OX Ab zE w.drew ty b ((i+m)*k) (n+m- (i+m)) dc ⟨b,i*k,X⟩ (n+m-i) sc cur 98 C hb (n-i) (by simp only[L6];split<;>omega) hCl
   (λj u hj=>by
    rw[hC,L9,Lo]at hj;split at hj
    ·rw[Lt];have hd:w.drew.heap[b]? =U (.cells cur 98 (0,0)):=hb;simp only[Ly,hd];simpa using hj
    ·cases hj) Aa (λu hu=>h1 u (by rw[hC]at hu;exact Ma hu))
 have hcp2:∀(W:Y),W.heap=(w.drew.setRow b R1).heap-> ∀ty dc,(L3 #[26,26] ty #[.slice (U ⟨b,i*k,X⟩) (n+m-i) dc,.slice (U ⟨vb,0,X⟩) m vc]).run qA W=.ok (goInt m) (W.setRow b R2):=λW hW ty dc=>by
  rw[hR2];exact OX Ab zE W ty b (i*k) (n+m-i) dc ⟨vb,0,X⟩ m vc R1 98 V (by rw[hW];exact P5 (W:=w.drew) hb) m (by simp only[L6];split<;>omega) hVl
   (λj u hj=>by
    rw[hV,Lo]at hj;split at hj
    ·rw[Lt];simp only[Ly,hW];have:(w.drew.setRow b R1).heap[vb]? =U (.cells vcur t (0,0)):=(wU (W:=w.drew) hvb).trans hv;rw[this];simpa using hj
    ·cases hj) Aa (λu hu=>h1v u (by rw[hV]at hu;exact hu))
 have hT:(cur.toList.take ((i+m)*k)).length=(i+m)*k:=by
  have:(i+m)*k<=(n+m)*k:=Lf _ Aa;rw[La,Array.length_toList];omega
 have hTi:(cur.toList.take (i*k)).length=i*k:=by
  have:i*k<=(n+m)*k:=Lf _ Aa;rw[La,Array.length_toList];omega
 have r1:R1.toList.take (i*k)=cur.toList.take (i*k):=by
  rw[hR1];simp only[];rw[L0,Mc (by rw[hT];omega),L5,Lw Aa]
 have r2:R1.toList.drop (i*k+V.length)=C++cur.toList.drop ((n+m)*k):=by
  rw[hVl,e2,hR1];simp only[];rw[L0,List.drop_left' hT,hCl,e1]
 have hf1:R2.size=cur.size:=by rw[hR2];simp only[Lp,Lj,La,Ll,Array.length_toList];omega
 have hf2:R2.toList.take ((n+m)*k)=cur.toList.take (i*k)++V++C:=by
  rw[hR2];simp only[];rw[r1,r2,<-L0,L1 (by simp only[Lj,hTi,hVl,hCl];omega)]
 rw[<-hV,<-hC];clear hR1 hR2 hC hV r1 r2 hTi hT e1 e2 hR1s hCl hVl hnk hmk h1 h1v hvs hcs hv hb;have mixed:qA.follows Lz=true:=Ab
 go_enter Tryz.func335,Tryz.ntmps335
 go_wp2_with (simp only[hov])
 go_region_law_o (refine jW rfl (C7 (t:=26) (t':=26) rfl (by simp[Lr,Ls]) (by simp[Lr,Ls]) (hcp1 _ _ _)) ?_)
 go_wp2_with (at_builtin;refine IT rfl (C7 (t:=26) (t':=26) rfl rfl rfl (hcp2 _ rfl _ _)) ?_)
 go_ret
 exact⟨rfl,R1,R2,rfl,hf1,hf2⟩
set_option maxHeartbeats 4000000 in
def Qso(k:Nat)(hk:0<k)(zE:∀w,(L4 98).run qA w=.ok k w)(base:Option Lh)(n c vb m vc:Nat)(w w':Y)(v':Le)(hm:0<m)(hnc:n<=c)(hc:c<=maxLen)(hnil:base=X->n=0/\c=0)
  (hap:(L2 #[26,26] 26 #[.slice base n c,.slice (U ⟨vb,0,X⟩) m vc]).run qA w=.ok v' w'):
  Lk qA 335 #[.slice base n c,.int .i64 n,.slice (U ⟨vb,0,X⟩) m vc] w λe w2=>e=.returned v'/\w2=w':=by
 have hz1:¬((m:Int)=0):=Aa
 have h63:c<=9223372036854775807:=by unfold maxLen at hc;omega
 have mixed:qA.follows Lz=true:=Ab
 cases base with
 |none=>
  obtain⟨rfl,rfl⟩:=hnil rfl
  go_enter Tryz.func335,Tryz.ntmps335
  go_wp2_with (at_builtin;refine IT rfl (Ia (t:=26) (t':=26) rfl rfl rfl hap) ?_)
  go_ret
  exact⟨rfl,rfl⟩
 |some ad=>
  go_enter Tryz.func335,Tryz.ntmps335
  go_wp2_with (at_builtin;refine IT rfl (Ia (t:=26) (t':=26) rfl rfl rfl hap) ?_)
  all_goals (go_ret;exact⟨rfl,rfl⟩)
set_option maxHeartbeats 4000000 in
def Qom(k:Nat)(hk:0<k)(zE:∀w,(L4 98).run qA w=.ok k w)(b n c i vb m vc g G:Nat)(cur vcur ROW:Array Le)(t:TypeId)(w W1:Y)(hi:i<n)(hm:0<m)(hnc:n<=c)(hroom:c<n+m)(hc:c<=maxLen)(hGn:n+m<=G)(hGm:G<=maxLen)
  (hb:W1.heap[b]? =U (.cells cur 98 (0,0))) (hcs:cur.size=c*k) (hv:W1.heap[vb]? =U (.cells vcur t (0,0))) (hvs:m*k<=vcur.size) (hg:W1.heap[g]? =U (.cells ROW 98 (0,0))) (hRs:ROW.size=G*k) (hgb:b≠g) (hgv:vb≠g)
  (h1:∀u∈cur.toList.take (n*k),u.oneCell'=Lb) (h1v:∀u∈vcur.toList.take (m*k),u.oneCell'=Lb)
  (hap:(L2 #[26,3] 26 #[.slice (U ⟨b,0,X⟩) i c,.int .i64 ((n:Int)+(m:Int)- (i:Int))]).run qA w=.ok (.slice (U ⟨g,0,X⟩) (n+m) G) W1):
  Lk qA 335 #[.slice (U ⟨b,0,X⟩) n c,.int .i64 i,.slice (U ⟨vb,0,X⟩) m vc] w λe w'=>
   e=.returned (.slice (U ⟨g,0,X⟩) (n+m) G)/\ ∃R1 R2:Array Le,w'=((W1.setRow g R1).drew).setRow g R2/\R2.size=ROW.size/\
    R2.toList.take ((n+m)*k)=ROW.toList.take (i*k)++vcur.toList.take (m*k)++(cur.toList.take (n*k)).drop (i*k):=by
 have hz1:¬((m:Int)=0):=Aa
 have hz2:¬((i:Int)=(n:Int)):=Aa
 have hz3:(c:Int)<(n:Int)+(m:Int):=Aa
 have h63:c<=9223372036854775807:=by unfold maxLen at hc;omega
 have hG63:G<=9223372036854775807:=by unfold maxLen at hGm;omega
 have hw1:Lu.wrap ((i:Int)+(m:Int))=(i:Int)+(m:Int):=by rw[Lv];omega
 have hw2:Lu.wrap ((n:Int)+(m:Int))=(n:Int)+(m:Int):=by rw[Lv];omega
 have hw3:Lu.wrap ((n:Int)+(m:Int)- (i:Int))=(n:Int)+(m:Int)- (i:Int):=by rw[Lv];omega
 have hb1:(0:Int)<=(i:Int)+(m:Int):=Aa
 have hin:i<=n:=Aa
 have htn:((i:Int)+(m:Int)).toNat=i+m:=Aa
 have hb3:(i:Int)<=(n:Int)+(m:Int):=Aa
 have hGi:¬(G=i):=Aa
 have hGim:¬(G=i+m):=Aa
 have hci:¬(c=i):=Aa
 obtain⟨C,hC⟩:∃C,C=(cur.toList.take (n*k)).drop (i*k):=⟨_,rfl⟩
 obtain⟨V,hV⟩:∃V,V=vcur.toList.take (m*k):=⟨_,rfl⟩
 have hnk:n*k<=cur.size:=by rw[hcs];exact Lf _ hnc
 have hmk:(n+m)*k<=ROW.size:=by rw[hRs];exact Lf _ hGn
 have hCl:C.length=(n-i)*k:=by rw[hC];simp only[Ll,La,Array.length_toList];rw[Lw hnk,Md]
 have hVl:V.length=m*k:=by rw[hV];simp only[La,Array.length_toList];omega
 have e1:(i+m)*k+(n-i)*k=(n+m)*k:=by rw[<-Ln];congr 1;omega
 have e2:i*k+m*k=(i+m)*k:=by rw[<-Ln]
 obtain⟨R1,hR1⟩:∃R1:Array Le,R1=(ROW.toList.take (i*k)++V++ROW.toList.drop (i*k+V.length)).toArray:=⟨_,rfl⟩
 have hR1s:R1.size=ROW.size:=by rw[hR1];simp only[Lp,Lj,La,Ll,Array.length_toList];omega
 obtain⟨R2,hR2⟩:∃R2:Array Le,R2=(R1.toList.take ((i+m)*k)++C++R1.toList.drop ((i+m)*k+C.length)).toArray:=⟨_,rfl⟩
 have hcp1:∀(W:Y),W.heap=W1.heap-> ∀ty dc,(L3 #[26,26] ty #[.slice (U ⟨g,i*k,X⟩) (n+m-i) dc,.slice (U ⟨vb,0,X⟩) m vc]).run qA W=.ok (goInt m) (W.setRow g R1):=λW hW ty dc=>by
  rw[hR1];exact OX Ab zE W ty g (i*k) (n+m-i) dc ⟨vb,0,X⟩ m vc ROW 98 V (by rw[hW];exact hg) m (by simp only[L6];split<;>omega) hVl
   (λj u hj=>by
    rw[hV,Lo]at hj;split at hj
    ·rw[Lt];simp only[Ly,hW,hv];simpa using hj
    ·cases hj) Aa (λu hu=>h1v u (by rw[hV]at hu;exact hu))
 have hcp2:∀(W:Y),W.heap=(W1.setRow g R1).heap-> ∀ty dc sc,(L3 #[26,26] ty #[.slice (U ⟨g,(i+m)*k,X⟩) (n+m- (i+m)) dc,.slice (U ⟨b,i*k,X⟩) (n-i) sc]).run qA W=.ok (goInt (n-i:Nat)) (W.setRow g R2):=λW hW ty dc sc=>by
  rw[hR2];exact OX Ab zE W ty g ((i+m)*k) (n+m- (i+m)) dc ⟨b,i*k,X⟩ (n-i) sc R1 98 C (by rw[hW];exact P5 hg) (n-i) (by simp only[L6];split<;>omega) hCl
   (λj u hj=>by
    rw[hC,L9,Lo]at hj;split at hj
    ·rw[Lt];have hd:W.heap[b]? =U (.cells cur 98 (0,0)):=by rw[hW];exact(wU hgb).trans hb
     simp only[Ly,hd];simpa using hj
    ·cases hj) Aa (λu hu=>h1 u (by rw[hC]at hu;exact Ma hu))
 have hTi:(ROW.toList.take (i*k)).length=i*k:=by
  have:i*k<=(n+m)*k:=Lf _ Aa;rw[La,Array.length_toList];omega
 have r1:R1.toList.take ((i+m)*k)=ROW.toList.take (i*k)++V:=by
  rw[hR1];simp only[];rw[L1 (by rw[Lj,hTi,hVl,e2])]
 have hf1:R2.size=ROW.size:=by rw[hR2];simp only[Lp,Lj,La,Ll,Array.length_toList];omega
 have hf2:R2.toList.take ((n+m)*k)=ROW.toList.take (i*k)++V++C:=by
  rw[hR2];simp only[];rw[r1,L1 (by simp only[Lj,hTi,hVl,hCl];omega)]
 rw[<-hV,<-hC];clear hR1 hR2 hC hV r1 hTi e1 e2 hR1s hCl hVl hnk hmk h1 h1v hvs hcs hv hb hg hRs;have mixed:qA.follows Lz=true:=Ab
 go_enter Tryz.func335,Tryz.ntmps335
 go_wp2_with (at_builtin;first|refine IT rfl (Ia (t:=26) (t':=3) rfl rfl rfl hap) ?_|refine IT rfl (C7 (t:=26) (t':=26) rfl rfl rfl (hcp1 _ rfl _ _)) ?_)
 go_region_law_o (refine jW rfl (C7 (t:=26) (t':=26) rfl (by simp[Lr,Ls]) (by simp[Lr,Ls]) (hcp2 (W1.setRow g R1).drew (Eq.refl (W1.setRow g R1).heap) 3 (G- (i+m)) (c-i))) ?_)
 go_wp2
 go_ret
 exact⟨rfl,R1,R2,rfl,hf1,hf2⟩
def Qsn{t:Ty}(hT:Uy qA 26 (.slice 98 t))(hT2:Uy qA 98 t){vy:Le}{ys:List Le}{l l4:List t.den}{i:Nat}
  (hown:w.ownsRow 0 98 t.size v l.length xs) (hy:w.ownsRow 0 98 t.size vy l4.length ys) (hne:∀b,v.ownBlock=U b->vy.ownBlock≠U b) (hi:i<=l.length) (hm:0<l4.length) (hp:l.length+l4.length<=Qd)
  (h1:∀u∈xs,u.oneCell'=Lb) (h1v:∀u∈ys,u.oneCell'=Lb):
  Lk qA 335 #[v,.int .i64 i,vy] w λe w'=> ∃v',e=.returned v'/\w'.ownsRow 0 98 t.size v' (l.length+l4.length) (xs.take (i*t.size)++ys++xs.drop (i*t.size))/\w.grownBy w' v.ownBlock/\(v'.ownBlock=v.ownBlock\/ ∀b,v'.ownBlock=U b->w.heap.size<=b):=by
 have hp':l.length+l4.length<=17179869184:=hp;obtain⟨hu,hpos⟩:=hT.slice;have zE:=λw=>hT2.sizeOf w;obtain⟨hyl,hy2⟩:=hy;rcases hy2 with⟨_,h0⟩|⟨vb,vc,vcur,rfl,_,hv,hmc,hvm,hvs,hvt⟩
 ·omega
 have hvs':l4.length*t.size<=vcur.size:=by rw[hvs];exact Lf _ hmc
 have ends:∀base n c,v=.slice base n c->n=l.length->n<=c->c<=maxLen->(base=X->n=0/\c=0)->i=n->Lk qA 335 #[v,.int .i64 i,.slice (U ⟨vb,0,X⟩) l4.length vc] w λe w'=> ∃v',e=.returned v'/\w'.ownsRow 0 98 t.size v' (l.length+l4.length) (xs.take (i*t.size)++ys++xs.drop (i*t.size))/\w.grownBy w' v.ownBlock/\(v'.ownBlock=v.ownBlock\/ ∀b,v'.ownBlock=U b->w.heap.size<=b):=by
  rintro base n c rfl rfl hnc hc hnil rfl;obtain⟨v',w',g1,g2,g3,g4⟩:=jP hT hT2 hown (l4:=l4) (ys:=ys) ⟨U ⟨vb,0,X⟩,vc,rfl,hmc,.inr ⟨_,rfl,λj u hj=>by
   rw[<-hvt,Lo]at hj;split at hj
   ·rw[Lt];simp only[Ly,hv];simpa using hj
   ·cases hj⟩⟩ hyl h1v hp (Lx _)
  refine(Qso t.size hpos zE base _ c vb _ vc w w' v' hm hnc hc hnil g1).mono λe w2 ⟨he,hw⟩=>?_;subst hw;refine⟨v',he,?_,g3,g4⟩;have e1:xs.take (l.length*t.size)=xs:=List.take_of_length_le (by rw[hown.1];exact Lq _);have e2:xs.drop (l.length*t.size)=[]:=List.drop_of_length_le (by rw[hown.1];exact Lq _);rw[e1,e2,List.append_nil];exact g2
 rcases hown.2 with⟨rfl,h0⟩|⟨b,c,cur,rfl,_,hb,hnc,hc,hcs,htk⟩
 ·exact ends X 0 0 rfl h0.symm (Lq _) (Lx _) (λ_=>⟨rfl,rfl⟩) Aa
 by_cases hin:i=l.length
 ·exact ends (U ⟨b,0,X⟩) l.length c rfl rfl hnc hc (λh=>by cases h) hin
 have hil:i<l.length:=Aa
 have hvb:vb≠b:=λe=>hne b rfl (by rw[e];rfl);have h1':∀u∈cur.toList.take (l.length*t.size),u.oneCell'=true:=by rw[htk];exact h1
 have h1v':∀u∈vcur.toList.take (l4.length*t.size),u.oneCell'=true:=by rw[hvt];exact h1v
 have hlen:(xs.take (i*t.size)++ys++xs.drop (i*t.size)).length=(l.length+l4.length)*t.size:=by
  have:i*t.size<=l.length*t.size:=Lf _ hi;simp only[Lj,La,Ll,hown.1,hyl,Ln];omega
 have hcap:l.length+l4.length<=maxLen:=by simp only[maxLen];omega
 by_cases hroom:l.length+l4.length<=c
 ·refine(Qlm t.size hpos zE b _ c i vb _ vc cur vcur 98 w hil hm hroom hc hvb hb hcs hv hvs' h1' h1v').mono ?_;rintro e w' ⟨he,R1,R2,rfl,hs,ht⟩;have hik:i*t.size<=l.length*t.size:=Lf _ hi;have hct:cur.toList.take (i*t.size)=xs.take (i*t.size):=by rw[<-htk,L5,Lw hik]
  rw[htk,hvt,hct]at ht;refine⟨_,he,⟨hlen,.inr ⟨b,c,R2,rfl,Lx _,P5 (P5 (W:=w.drew) hb),hroom,hc,by rw[hs,hcs],ht⟩⟩,?_,.inl rfl⟩;refine⟨rfl,rfl,rfl,by rw[wS,wS];exact Lq _,λx hx hne=>?_⟩;have:x≠b:=λe=>hne (by rw[e];rfl);rw[wU this,wU this];rfl
 ·obtain⟨i0,hi0,his,hby,hz0⟩:=hT2.size;have hzs:(Kx t (Wz t)).cells.size=t.size:=by rw[WG hT2.plain];simp[WN hT2.plain]
  have hbt:(l.length+l4.length)*i0.bytes<=140737488355328:=by
   have:(l.length+l4.length)*i0.bytes<=17179869184*8192:=Nat.mul_le_mul hp' hby;omega
  have hik:i*t.size<=l.length*t.size:=Lf _ hi;have hold:(Lg.firstCells i0.size i (.slice (U ⟨b,0,X⟩) i c)).run qA w.drew=.ok (xs.take (i*t.size)).toArray w.drew:=
   run_firstCells_some w.drew i0.size i ⟨b,0,X⟩ i c (xs.take (i*t.size)) (by rw[La,hown.1,his];omega) λj u hj=>by
    rw[Lo]at hj;split at hj
    ·exact Y.ownsRow.cells (w:=w) hown rfl j u hj
    ·cases hj
  have ek:i+(l.length+l4.length-i)=l.length+l4.length:=Aa
  have h48:(l.length+l4.length-i)*i0.bytes<=281474976710656:=by
   have:(l.length+l4.length-i)*i0.bytes<=(l.length+l4.length)*i0.bytes:=Lf _ Aa;omega
  have hap:=Lib.run_append_grow_zeros (P:=qA) w 26 3 26 98 i0 _ .i64 .i64 hu Ab hi0 hz0 (U ⟨b,0,X⟩) i c _ hold (l.length+l4.length-i) Aa (by rw[his];exact hpos) Aa
   (by simp only[maxLen]at hcap;omega) h48 (by rw[ek];exact growslice_fits (by omega) hbt)
  rw[ek,show(((l.length+l4.length-i:Nat)):Int)=(l.length:Int)+(l4.length:Int)- (i:Int) by omega]at hap;have hge:=grownCap_ge w (l.length+l4.length) c 98;have hcm:grownCap w (l.length+l4.length) c 98<=maxLen:=grownCap_le_maxLen w (l.length+l4.length) c 98 hcap;generalize grownCap w (l.length+l4.length) c 98=G at hap hge hcm;obtain⟨ROW,hROW⟩:∃ROW:Array Le,ROW=(xs.take (i*t.size)).toArray++L8 (Kx t (Wz t)).cells (l.length+l4.length-i)++L8 (Kx t (Wz t)).cells (G- (l.length+l4.length)):=⟨_,rfl⟩
  rw[<-hROW]at hap;have hRs:ROW.size=G*t.size:=by
   have e3:i+(l.length+l4.length-i)+(G- (l.length+l4.length))=G:=Aa
   rw[<-e3,hROW];simp only[Array.size_append,Lp,size_zeroCells,hzs,La,hown.1,Ln,Lw hik]
  have hRt:ROW.toList.take (i*t.size)=xs.take (i*t.size):=by
   rw[hROW];simp only[Array.toList_append,L0];rw[L1 (by rw[La,hown.1];omega)]
  have hbw:b<w.heap.size:=by
   by_cases h:b<w.heap.size
   ·exact h
   ·rw[Array.getElem?_eq_none Aa]at hb;cases hb
  have hvw:vb<w.heap.size:=by
   by_cases h:vb<w.heap.size
   ·exact h
   ·rw[Array.getElem?_eq_none Aa]at hv;cases hv
  have hW1:∀x,x<w.heap.size->(w.drew.alloc (.cells ROW 98)).heap[x]? =w.heap[x]? :=λx hx=>heap_alloc_old w.drew _ hx;refine(Qom t.size hpos zE b _ c i vb _ vc w.heap.size G cur vcur ROW 98 w (w.drew.alloc (.cells ROW 98)) hil hm hnc Aa hc hge hcm (by rw[hW1 b hbw];exact hb) hcs (by rw[hW1 vb hvw];exact hv) hvs' (heap_alloc_new w.drew _) hRs Aa Aa h1' h1v' hap).mono ?_;rintro e w' ⟨he,R1,R2,rfl,hs,ht⟩;rw[htk,hvt,hRt]at ht;refine⟨_,he,⟨hlen,.inr ⟨w.heap.size,G,R2,rfl,Lx _,P5 (W:=((w.drew.alloc (.cells ROW 98)).setRow w.heap.size R1).drew) (P5 (heap_alloc_new w.drew _)),hge,hcm,by rw[hs,hRs],ht⟩⟩,?_,.inr λb' hb'=>?_⟩
  ·refine⟨rfl,rfl,rfl,?_,λx hx hne=>?_⟩
   ·rw[wS];show w.heap.size<=((w.drew.alloc (.cells ROW 98)).setRow w.heap.size R1).heap.size;rw[wS];simp[Y.alloc]
   ·have:x≠w.heap.size:=Aa
    rw[wU this];show((w.drew.alloc (.cells ROW 98)).setRow w.heap.size R1).heap[x]? =_;rw[wU this];exact hW1 x hx
  ·simp only[Le.ownBlock,pB]at hb';omega
abbrev Z0z:BW:=⟨335,[.mv (.slice 98 Z2) sC,.sh wO,.mv (.slice 98 Z2) sC],.vals [.slice 98 Z2],u3 Eb⟩
def Zxu:zY qA glob Z0z:=zY.insert Tryz.call335 λh1 h2 h3 h4 h5 h6 h7 h8=>Qsn Qqt Qqv h1 h2 h3 h4 h5 h6 h7 h8
def Zf7:okE ⟨214,[.slice 98 Z2,Z2],[.slice 98 Z2],u2 mz⟩:=Sk (sQ Zb6 Yf Zd3 Qis) (Zt Zxu Ze) func214 call214 (sJ (.join [.shp 3 Z2,wM 5 sC,pV 7 tI] (u3 oB) sA sA)) (λv=>Ab)
def Zry:okE ⟨111,[Zq,.bool],[wO,Zq,.bool],u2 QB⟩:=Sk (sS Xi az Zxh Z44 Zf5 Zf7) (Zt xe Ze) func111 call111 (sJ (.join [pV 1 .bool,lI 2 sD,lI 5 sC,lI 7 (sE (sE (sE (.p sC (sE (sE (sE (sE sC)))))))),pV 8 tI,pV 10 .bool] (u6 cG) sA sA)) (λv=>Ab)
def vP:okE ⟨112,[.bool,.str,.str],[.str],u3 nI⟩:=Sk Zg Ze func112 call112 sA
def Zii:okE ⟨336,[Zy],[.bool],u1 ZC⟩:=Sk (sN zk) Ze func336 call336 sA
def Z45:okE ⟨452,[Kq],[wO],u1 MU⟩:=Sk (sN JC) Ze func452 call452 sA
def Zuy:okE ⟨337,[Kq,.str],[Kq,wO],u2 KN⟩:=Sk (sO V' Z45) Ze func337 call337 (sG (.join [pV 1 .str,tY 2 sD,tY 4 sC,tY 6 sC,pV 7 tI] (u5 xD) sA (sF [pV 1 .str,tY 2 sD,tY 4 sC,tY 6 sC,pV 7 tI,pV 16 tI,pV 17 tI] (λN=>u7 (oE N)) (u7 Zv6) (λK1=>sA)))) ⟨(λv=>Ab),λ_=>rfl,λN v=>Ab⟩
abbrev XA:P3:=⟨217,[Zy,.str],[Zy,wO],u2 rN⟩
def Zpk:okE XA:=Sk (sQ ay Zii Zuy rV) Ze func217 call217 sA
abbrev oW:py:={f:=216,n:=19,np:=4,rv:=Tryz.f216.results.toList,run:=λln _ k s=>Ji (Vi [] ln [XA] [] [] []) 19 (Yh Tryz.f216) .leaf k s}
def Z8z:Yx qA glob oW:=Yx.of (C:=Vi [] [] [XA] [] [] []) (λln=>Ya (ln:=ln) Xf rfl (sN Zpk) Q6 Ze Q7) Tryz.func216 rfl Tryz.call216 Ah rfl rfl .leaf (λ_ _ _=>rfl)
abbrev Zqn:py:={f:=215,n:=61,np:=4,rv:=Tryz.f215.results.toList,run:=λln _ k s=>Ji (Vi [oW] ln [Xe,Xw,Vq] [] [] []) 61 (Yh Tryz.f215) .leaf k s}
def Z4l:Yx qA glob Zqn:=Yx.of (C:=Vi [oW] [] [Xe,Xw,Vq] [] [] []) (λln=>Ya (ln:=ln) (Qp Z8z Xf) rfl (sP Xi Yf az) Q6 Ze Q7) Tryz.func215 rfl Tryz.call215 Ah rfl rfl .leaf (λ_ _ _=>rfl)
abbrev Zdf:P3:=⟨113,[Zq,wO,.str],[wO,Zq],u3 zd⟩
def Zpl:bQ qA glob Zdf:=by
 refine bQ.of (e:=Zdf) (C:=Vi [oW,Zqn] [] [] [] [] []) (Ya (Qp Z8z (Qp Z4l Xf)) rfl Zg Q6 Ze Q7) rfl Tryz.func113 (c:=Yh Tryz.f113) rfl Tryz.call113 Ah
  sA ?_ ?_
 ·exact lf
 ·intro xs r h;refine Ld (Lc ?_) h;kernel_rfl
def Zuw:TH ⟨339,[.sh Xg,.sh wO],.shr [.str,Xg],u2 KM⟩:=GU [] (sO XH Zd2) Ze func339 call339 (sG (.join [tZ 5 sC,tZ 6 sC,pV 7 tI] (u3 xB) sA (.seq (sG (.cond (sG (.frz [(5,.u S)])) sA)) (sH (.join [tZ 5 sC,tZ 6 (sE (sE sC)),pV 8 .str] (u3 xC) (sG (.cond (.frz [(6,.u S)]) sA)) sA))))) ⟨(λv=>Ab),λv=>Ab⟩
abbrev zH:BW:=⟨219,[.sh Qo,.sh wO],.shr [.str,Qo],u2 oC⟩
def Zna:TH zH:=GU [] (sO oN gf) (Zt Zuw Ze) func219 call219 (sH (.seq (sG (.cond (sG (.frz [(5,.u S)])) sA)) (.seq (sG (.cond (sH (.frz [(5,.u S)])) sA)) (sH (.join [wD 5 sC,wD 6 sD,pV 7 .str] (u3 yk) sA sA))))) (λv=>Ab)
abbrev VR:P3:=⟨340,[Yr,wO],[Yr,.bool],u2 ax⟩
def Zus:okE VR:=Sk (sO l6 Qc) Ze func340 call340 sA
def Zru:okE ⟨456,[Z2],[.bool],u1 Rl⟩:=Sk Zg Ze func456 call456 sA
def Zrs:okE ⟨515,[Qo],[.bool],u1 CN⟩:=Sk (sN gf) Ze func515 call515 sA
def Zrt:okE ⟨457,[Z2],[.bool],u1 ZY⟩:=Sk (sN Zrs) Ze func457 call457 sA
abbrev qa:P3:=⟨342,[Z2],[.bool],u1 Vv⟩
def Sp:okE qa:=Sk (sP VZ Zru Zrt) Ze func342 call342 sA
abbrev xT:BW:=⟨344,[.bx 37 Zq sC,.sh wO],.fp Zq 0 [9] [8],u2 Z7⟩
def Z4d:TH xT:=GU [0] (sN vg) Ze func344 call344 sA
abbrev wx:BW:=⟨344,[.bx 37 Zq (sE (sE (sE (.p (.p sC sD) sC)))),.sh wO],.fp Zq 0 [9] [8],u2 Xk⟩
def Zjv:TH wx:=GU [0] (sN vg) Ze func344 call344 sA
abbrev km:P3:=⟨343,[Q4],[Q4,.bool],u1 Z3⟩
def VX:okE km:=Sk (sN QH) Ze func343 call343 sA
abbrev ja:py:={f:=220,n:=38,np:=3,rv:=Tryz.f220.results.toList,run:=λln _ k s=>Ji (Vi [] ln [VR] [] [] []) 38 (Yh Tryz.f220) .leaf k s}
def Zzz:Yx qA glob ja:=Yx.of (C:=Vi [] [] [VR] [] [] []) (λln=>Ya (ln:=ln) Xf rfl (sN Zus) Q6 Ze Q7) Tryz.func220 rfl Tryz.call220 Ah rfl rfl .leaf (λ_ _ _=>rfl)
abbrev Kn:py:={f:=228,n:=16,np:=2,rv:=Tryz.f228.results.toList,run:=λln _ k s=>Ji (Vi [] ln [Xw] [] [] []) 16 (Yh Tryz.f228) .leaf k s}
def eZ:Yx qA glob Kn:=Yx.of (C:=Vi [] [] [Xw] [] [] []) (λln=>Ya (ln:=ln) Xf rfl (sN Yf) Q6 Ze Q7) Tryz.func228 rfl Tryz.call228 Ah rfl rfl .leaf (λ_ _ _=>rfl)
abbrev uz:py:={f:=221,n:=43,np:=2,rv:=Tryz.f221.results.toList,run:=λln _ k s=>Ji (Vi [Kn] ln [ue,qa,km] [] [wx] []) 43 (Yh Tryz.f221) .leaf k s}
def Zh6:Yx qA glob uz:=Yx.of (C:=Vi [Kn] [] [ue,qa,km] [] [wx] []) (λln=>Ya (ln:=ln) (Qp eZ Xf) rfl (sP wi Sp VX) Q6 (Zt Zjv Ze) Q7) Tryz.func221 rfl Tryz.call221 Ah rfl rfl .leaf (λ_ _ _=>rfl)
abbrev ra:py:={f:=218,n:=51,np:=6,rv:=Tryz.f218.results.toList,run:=λln _ k s=>Ji (Vi [ja,uz] ln [] [] [zH] []) 51 (Yh Tryz.f218) (FA.an (.seq .leaf (.seq (.frz [(1048586,(.p sC (.p sC (.p sC (.p (.p sC sD) sC)))))]) .leaf))) k s}
def Zap:Yx qA glob ra:=Yx.of (C:=Vi [ja,uz] [] [] [] [zH] []) (λln=>Ya (ln:=ln) (Qp Zzz (Qp Zh6 Xf)) rfl Zg Q6 (Zt Zna Ze) Q7) Tryz.func218 rfl Tryz.call218 Ah rfl rfl (.seq .leaf (.seq (.frz [(1048586,(.p sC (.p sC (.p sC (.p (.p sC sD) sC)))))]) .leaf)) (λ_ _ _=>rfl)
abbrev Zlc:py:={f:=215,n:=61,np:=4,rv:=Tryz.f215.results.toList,run:=λln _ k s=>Ji (Vi [ra] ln [Xe,Xw,Vq] [] [] []) 61 (Yh Tryz.f215) .leaf k s}
def Zwy:Yx qA glob Zlc:=Yx.of (C:=Vi [ra] [] [Xe,Xw,Vq] [] [] []) (λln=>Ya (ln:=ln) (Qp Zap Xf) rfl (sP Xi Yf az) Q6 Ze Q7) Tryz.func215 rfl Tryz.call215 Ah rfl rfl .leaf (λ_ _ _=>rfl)
abbrev Zfd:BW:=⟨114,[.sh Zq,.sh wO,.sh wO],.flg [(.str,sC),(.bool,sC),(Zq,(sE (sE (sE (sE sC)))))],u3 QC⟩
def Zr2:zY qA glob Zfd:=by
 refine zY.of (e:=Zfd) (C:=Vi [ra,Zlc] [] [] [] [] []) (Ya (Qp Zap (Qp Zwy Xf)) rfl Zg Q6 Ze Q7) rfl rfl Tryz.func114 (c:=Yh Tryz.f114) rfl Tryz.call114 Ah
  ((sJ (.frz [(8,(sE (sE (sE (sE sC)))))]))) ?_ ?_
 ·exact⟨lf,lf,lf,lf,trivial⟩
 ·intro xs r h;refine Ld (Lc ?_) h;kernel_rfl
def Zf0:okE ⟨115,[.str],[.str],u1 rD⟩:=Sk Zg Ze func115 call115 (sH (sF [pV 0 .str,wH 3 sC,pV 4 tI] (λN=>u3 (ov N)) (u3 uk) (λK1=>sA))) ⟨λ_=>rfl,λN v=>Ab⟩
def Zf3:okE ⟨458,[Yr],[.bool],u1 KF⟩:=Sk (sN l6) Ze func458 call458 sA
abbrev uf:P3:=⟨350,[Yr,wO,wO],[Yr,.bool],u3 rL⟩
def zP:okE uf:=Sk (sO Zf3 Qc) Ze func350 call350 (sH (.join [pV 1 tI,.box 3 30 Yr sD,.box 6 30 Yr sD] (u3 zK) sA sA)) (λv=>Ab)
def Z7v:okE ⟨345,[Zq,Yr,.bool],[wO,.bool],u3 iO⟩:=Sk (sO Zf3 zP) Ze func345 call345 sA
def Zf2:okE ⟨459,[Q4],[.bool],u1 yi⟩:=Sk (sN QH) Ze func459 call459 sA
abbrev Zfc:P3:=⟨351,[Q4],[Q4,.bool],u1 nE⟩
def Zd1:okE Zfc:=Sk (sN Zf2) Ze func351 call351 sA
def Zu0:okE ⟨346,[Q4,.bool],[wO,.bool],u2 yo⟩:=Sk (sO Zf2 Zd1) Ze func346 call346 sA
abbrev CU:P3:=⟨371,[Qo],[.bool],u1 mD⟩
def ZF:okE CU:=Sk Zg Ze func371 call371 sA
def Zih:okE ⟨348,[Q4],[.bool],u1 Tn⟩:=Sk (sN c8) Ze func348 call348 sA
def Zey:okE ⟨347,[Zq,Z2],[.slice 127 Zu],u2 kX⟩:=Sk (sP ZF Z7v Zih) Ze func347 call347 (sH (.join [lI 2 sD,wA 3 sD,pZ 5 sC] (u3 bm) sA (.join [lI 2 sD,wA 3 sD,pZ 5 sC] (u3 bn) sA (.join [wA 3 sD,pZ 5 sC] (u2 ft) sA sA)))) ⟨(λv=>Ab),(λv=>Ab),λv=>Ab⟩
abbrev Zah:P3:=⟨222,[Zq],[.slice 127 Zu],u1 uh⟩
def Zll:okE Zah:=Sk (sR az Z7v Zu0 Zey Zih) Ze func222 call222 (sI (.join [lI 1 sD,pZ 3 sC] (u2 fG) sA (.join [lI 1 sD,pZ 3 sC] (u2 fH) sA (.join [lI 1 sD,pZ 3 sC] (u2 fI) sA (.seq (sG (.block (.loop [lI 1 sD,pZ 3 sC,pV 61 (.slice 98 Z2),pV 62 tI,pV 63 tI] (λN=>u5 (fJ N)) (u5 Zv5) (λK1=>sA)))) (.join [lI 1 sD,pZ 3 sC] (u2 wz) sA (.join [lI 1 sD,pZ 3 sC] (u2 w5) sA sA))))))) ⟨(λv=>Ab),(λv=>Ab),(λv=>Ab),⟨λ_=>rfl,λN v=>Ab⟩,(λv=>Ab),λv=>Ab⟩
def Zln:okE ⟨460,[wO],[.str],u1 X6⟩:=Sk Zg Ze func460 call460 sA
def Zxq:okE ⟨516,[wO],[wO],u1 WY⟩:=Sk (sN Km) Ze func516 call516 sA
def Zdx:okE ⟨462,[wO],[.str],u1 Yz⟩:=Sk (sN Zxq) Ze func462 call462 (sJ (.seq (sG (.block (.loop [pV 0 tI,pV 3 tI,wH 4 sC,pV 5 tI] (λN=>u4 (Kd N)) (u4 cW) (λK1=>sA)))) (.join [wH 4 sC] (u1 cE) sA sA))) ⟨⟨λ_=>rfl,λN v=>Ab⟩,λv=>Ab⟩
def Zo5:okE ⟨461,[.slice 3 wO],[.str],u1 aY⟩:=Sk (sO Km Zdx) Ze func461 call461 (sH (sF [pV 3 .str,pV 6 (.slice 3 wO),pV 7 tI,pV 8 tI] (λN=>u4 (bo N)) (u4 qc) (λK1=>sA))) ⟨λ_=>rfl,λN v=>Ab⟩
def Zb2:okE ⟨349,[Zu],[.str],u1 fZ⟩:=Sk (sR cq Zln Zo5 DX Zdx) Ze func349 call349 (sI (.seq (sG (.block (sG (.cond sA (sG (.cond sA (sG (.cond (sG (.join [lS 1 sD,pV 4 .str] (u2 Wn) sA sA)) (.join [lS 1 sD,pV 3 (.fnc 460),pV 9 tI,pV 73 .bool] (u4 Xv) sA (.cond sA (.join [lS 1 sD,pV 3 (.fnc 460),pV 84 .bool] (u3 Kl) sA sA))))))))))) sA)) ⟨λv=>Ab,(λv=>Ab),λv=>Ab⟩
abbrev Zhr:P3:=⟨223,[Zu],[wO],u1 rF⟩
def Zf1:okE Zhr:=Sk (sN Zb2) Ze func223 call223 sA
abbrev qu:P3:=⟨352,[Q4],[Q4],u1 xr⟩
def Zar:okE qu:=Sk (sN c8) Ze func352 call352 sA
abbrev Qvy:py:={f:=353,n:=52,np:=3,rv:=Tryz.f353.results.toList,run:=λln _ k s=>Ji (Vi [] ln [uf,qu] [] [] []) 52 (Yh Tryz.f353) .leaf k s}
def Zh4:Yx qA glob Qvy:=Yx.of (C:=Vi [] [] [uf,qu] [] [] []) (λln=>Ya (ln:=ln) Xf rfl (sO zP Zar) Q6 Ze Q7) Tryz.func353 rfl Tryz.call353 Ah rfl rfl .leaf (λ_ _ _=>rfl)
abbrev QX:P3:=⟨224,[Zq,Zu],[Zq],u2 y8⟩
def Zpb:bQ qA glob QX:=by
 refine bQ.of (e:=QX) (C:=Vi [Qvy] [] [Xe,Xw,dL,xU,uf,Zfc,qu] [] [om] []) (Ya (Qp Zh4 Xf) rfl (sT Xi Yf Vm fO zP Zd1 Zar) Q6 (Zt xe Ze) Q7) rfl Tryz.func224 (c:=Yh Tryz.f224) rfl Tryz.call224 Ah
  ((sG (.join [lI 2 sD,lS 3 sD,lI 4 sC,lI 5 sC,pV 6 tI] (λv=>qz v.1 v.2.1 v.2.2.1 v.2.2.2.1 v.2.2.2.2.1) sA sA))) ?_ ?_
 ·exact⟨lf,lf,(λv=>Ab),lf⟩
 ·intro xs r h;refine Ld (Lc ?_) h;kernel_rfl
def Zik:okE ⟨463,[.slice 3 wO,wO],[wO],u2 yz⟩:=Sk Zg Ze func463 call463 (sG (sF [pV 0 (.slice 3 wO),pV 1 tI,pV 7 tI,pV 8 tI] (λN=>u4 (df N)) (u4 cu) (λK1=>sA))) ⟨λ_=>rfl,λN v=>Ab⟩
def Zd5:okE ⟨357,[.slice 3 wO,wO],[.bool],u2 ke⟩:=Sk (sN Zik) Ze func357 call357 sA
abbrev Zmh:P3:=⟨226,[Zq,.slice 3 wO],[.slice 311 Qt],u2 Hf⟩
def Z1c:okE Zmh:=Sk (sO Qc Zd5) Ze func226 call226 (sH (sF [pV 1 (.slice 3 wO),wJ 5 sC,pV 11 (.slice 98 Z2),pV 12 tI,pV 13 tI] (λN=>u5 (nJ N)) (u5 yp) (λK1=>sA))) ⟨λ_=>rfl,λN v=>Ab⟩
def Qup:okE ⟨354,[.slice 311 Qt],[.bool],u1 mr⟩:=Sk (sO Km XG) Ze func354 call354 (sG (sF [pV 0 (.slice 311 Qt),pV 5 (.slice 311 Qt),pV 6 tI,pV 7 tI] (λN=>u4 (bM N)) (u4 dR) (λK1=>sA))) ⟨λ_=>rfl,λN v=>Ab⟩
def Z49:okE ⟨355,[.slice 311 Qt],[.slice 311 Qt],u1 A3⟩:=Sk Zg Ze func355 call355 (sH (.seq (sG (.block (.loop [pV 0 (.slice 311 Qt),pV 3 tI,wJ 4 sC,pV 10 (.slice 311 Qt),pV 11 tI,pV 12 tI] (λN=>u6 (rS N)) (u6 q6) (λK1=>sA)))) (sF [pV 3 tI,wJ 4 sC,pV 22 (.slice 311 Qt),pV 23 tI,pV 24 tI] (λN=>u5 (iY N)) (u5 q7) (λK2=>sA)))) ⟨⟨λ_=>rfl,λN v=>Ab⟩,λ_=>rfl,λN v=>Ab⟩
def Zur:okE ⟨356,[.slice 311 Qt,wO],[wO],u2 KH⟩:=Sk (sN Qup) Ze func356 call356 (sH (sF [pV 0 (.slice 311 Qt),pV 1 tI,pV 15 (.slice 311 Qt),pV 16 tI,pV 17 tI] (λN=>u5 (j8 N)) (u5 li) (λK1=>sA))) ⟨λ_=>rfl,λN v=>Ab⟩
abbrev Ze9:P3:=⟨225,[.slice 311 Qt,wO],[wO],u2 QA⟩
def Zrx:okE Ze9:=Sk (sP Qup Z49 Zur) Ze func225 call225 (sI (sF [pV 1 tI,wJ 5 sC,.bor 18 5 [],pV 19 tI,pV 20 tI] (λN=>u4 (f7 N)) (u4 j7) (λK1=>sA))) ⟨λ_=>rfl,λN v=>Ab⟩
def Zdw:okE ⟨130,[Q4],[wO],u1 ZS⟩:=Sk (sN c8) Ze func130 call130 sA
abbrev MD:P3:=⟨464,[Zy],[.bool],u1 bT⟩
def rX:okE MD:=Sk (sO zk Qc) Ze func464 call464 sA
def Zxk:okE ⟨465,[Kq,wO,wO],[.str,.bool],u3 we⟩:=Sk (sO JC Qc) Ze func465 call465 (sI (sF [pV 1 tI,tY 3 sD,wH 8 sC,pV 35 tI,pV 36 tI] (λN=>u5 (rK N)) (u5 xa) (λK1=>sA))) ⟨λ_=>rfl,λN v=>Ab⟩
def Zuq:okE ⟨358,[Zy,wO,wO],[Y6,.bool],u3 KG⟩:=Sk (sP rX DX Zxk) Ze func358 call358 (sL (.join [lP 3 sD,wB 6 sD,wC 8 sD,pV 9 tI] (u4 oA) sA sA)) (λv=>Ab)
abbrev Zfb:P3:=⟨231,[wO,Y6],[Zu],u2 nD⟩
def Zd0:okE Zfb:=Sk Zg Ze func231 call231 sA
abbrev Zku:P3:=⟨227,[Zq,wO,wO],[Y6,.bool],u3 WX⟩
def Zxl:okE Zku:=Sk (sT Yf Vm Zdw Zuq Zd0 Zf1 Qc) Ze func227 call227 (sK (sF [pV 1 tI,pV 2 tI,wB 6 sD,wA 9 sD,pV 10 tI,pV 11 tI] (λN=>u6 (lW N)) (u6 xb) (λK1=>sA))) ⟨λ_=>rfl,λN v=>Ab⟩
abbrev Zdc:P3:=⟨229,[Q4],[Q4],u1 y9⟩
def Zpd:okE Zdc:=Sk (sN c8) Ze func229 call229 sA
abbrev OM:P3:=⟨466,[Zy,Y6],[.bool],u2 wg⟩
def WA:okE OM:=Sk Zg Ze func466 call466 sA
abbrev zG:P3:=⟨468,[.slice 257 Zx,.slice 257 Zx],[.slice 257 Zx],u2 jx⟩
def yr:okE zG:=Sk (sN lZ) Ze func468 call468 (sI (sF [pV 1 (.slice 257 Zx),tX 5 sC,pV 22 (.slice 257 Zx),pV 23 tI,pV 24 tI] (λN=>u5 (cR N)) (u5 fj) (λK1=>(sH (.seq (.block (sH (.block (.loop [pV 1 (.slice 257 Zx),tX 5 sC,wC 7 sD,pV 22 (.slice 257 Zx),pV 23 tI,pV 24 tI,pV 28 (.slice 257 Zx),pV 29 tI,pV 30 tI] (λN=>u9 (ao K1 N)) (u9 nl) (λK2=>sA))))) sA))))) ⟨λ_=>rfl,λN=>⟨(λv=>Ab),λ_=>rfl,λN v=>Ab⟩⟩
def Qjb:okE ⟨517,[.slice 257 Zx,.slice 257 Zx],[.bool],u2 cJ⟩:=Sk Zg Ze func517 call517 (sH (sF [pV 0 (.slice 257 Zx),pV 1 (.slice 257 Zx),pV 12 tI,pV 13 tI] (λN=>u4 (J1 N)) (u4 V3) (λK1=>sA))) ⟨λ_=>rfl,λN v=>Ab⟩
def Zo6:okE ⟨467,[.slice 257 Zx,.slice 257 Zx],[.bool],u2 yX⟩:=Sk (sN Qjb) Ze func467 call467 sA
abbrev QZ:P3:=⟨469,[.slice 257 Zx,Zx],[.slice 257 Zx],u2 lX⟩
def zQ:okE QZ:=Sk (sP lZ Oh uy) Ze func469 call469 (sI (sF [wC 3 sD,tX 5 sC,pV 19 (.slice 257 Zx),pV 20 tI,pV 21 tI] (λN=>u5 (Wp N)) (u5 iA) (λK1=>(sH (.seq (.block (sG (.join [wC 3 sD,tX 5 sC,wC 7 sD,pV 19 (.slice 257 Zx),pV 20 tI,pV 21 tI] (u6 (kF K1)) sA sA))) sA))))) ⟨λ_=>rfl,λN=>⟨(λv=>Ab),λv=>Ab⟩⟩
def Zuu:okE ⟨359,[Zy,Y6],[Zy,.bool],u2 KJ⟩:=Sk (sU ay rX WA yr Zo6 zQ rV xF) Ze func359 call359 (sI (.join [wB 3 sD,lP 4 sC,lP 6 (sE (.p sC (.p sC (.p sC (.p sC sD)))))] (u3 oD) (sG (.cond (sG (.seq (.join [lP 2 sD,wB 3 sD,lP 4 sC,lP 6 sC,wC 7 sD,pV 59 .bool] (u6 KK) sA sA) sA)) sA)) (.join [lP 4 sC,lP 6 (sE (.p sC (.p sC (.p sC (.p sC sD)))))] (u2 xA) sA sA))) ⟨λv=>Ab,(λv=>Ab),λv=>Ab⟩
def Zux:okE ⟨360,[Q4,wO],[Q4,.bool],u2 yl⟩:=Sk (sO c8 Qc) Ze func360 call360 sA
abbrev Zhs:P3:=⟨230,[Zq,wO,Y6],[Zq,.bool],u3 KD⟩
def Zuo:okE Zhs:=Sk (sR Xi Yf Vm Zuu Zux) Ze func230 call230 (sG (.join [pV 1 tI,lI 3 sD,wB 5 sD,lI 6 sC,lI 8 sC,pV 9 tI] (u6 xw) sA (sH (.join [pV 1 tI,lI 3 sD,lI 6 sC,lI 8 sC,.elp 10 8 [3] [],lP 11 sC,pV 12 .bool] (u7 KE) sA sA)))) ⟨(λv=>Ab),λv=>Ab⟩
abbrev Zai:P3:=⟨232,[.slice 127 Zu],[.str],u1 XD⟩
def Zlo:okE Zai:=Sk (sO cq Zb2) Ze func232 call232 (sH (sF [pV 3 .str,pV 6 (.slice 127 Zu),pV 7 tI,pV 8 tI] (λN=>u4 (fK N)) (u4 mw) (λK1=>sA))) ⟨λ_=>rfl,λN v=>Ab⟩
abbrev Ze5:BW:=⟨116,[.sh Zq,.sh wO],.flg [(.str,sC),(wO,sC),(Zq,(sE (sE (sE (.p sC sD)))))],u2 ZT⟩
def Zrn:zY qA glob Ze5:=by
 refine zY.of (e:=Ze5) (C:=Vi [Kn] [] [Xe,Vq,qR,Zah,Zhr,QX,Zmh,Ze9,Zku,Zdc,Zhs,Zfb,Zai] [] [] []) (Ya (Qp eZ Xf) rfl (Qds Xi az Qc Zll Zf1 Zpb Z1c Zrx Zxl Zpd Zuo Zd0 Zlo) Q6 Ze Q7) rfl rfl Tryz.func116 (c:=Yh Tryz.f116) rfl Tryz.call116 Ah
  ((sH (.seq (sG (.cond (sG (.frz [(6,(sE (sE (sE (.p sC sD)))))])) sA)) (sG (.seq (sG (.block (.loop [lI 6 sC,lI 7 sC,pZ 8 sC,wE 9 sC,pV 10 tI,pZ 40 sC,pV 41 tI,pV 42 tI] (λN v=>Vy N v.1 v.2.1 v.2.2.1 v.2.2.2.1 v.2.2.2.2.1 v.2.2.2.2.2.1 v.2.2.2.2.2.2.1 v.2.2.2.2.2.2.2.1) (λv=>jz v.1 v.2.1 v.2.2.1 v.2.2.2.1 v.2.2.2.2.1 v.2.2.2.2.2.1 v.2.2.2.2.2.2.1 v.2.2.2.2.2.2.2.1) (λK1=>sA)))) (.join [lI 6 sC,lI 7 sC,pZ 8 sC] (λv=>cD v.1 v.2.1 v.2.2.1) (sG (.block (.loop [lI 6 sC,lI 7 sC,pZ 8 sC,wE 9 sC,pV 10 tI,pV 62 tI] (λN v=>ap N v.1 v.2.1 v.2.2.1 v.2.2.2.1 v.2.2.2.2.1 v.2.2.2.2.2.1) (λv=>j0 v.1 v.2.1 v.2.2.1 v.2.2.2.1 v.2.2.2.2.1 v.2.2.2.2.2.1) (λK2=>sA)))) (.seq (sG (.cond (sG (.frz [(6,(sE (sE (sE (.p sC sD)))))])) sA)) (.seq (.frz [(8,.u S)]) (sH (.frz [(6,(sE (sE (sE (.p sC sD)))))])))))))))) ?_ ?_
 ·exact⟨lf,lf,⟨lf,⟨lf,trivial⟩,lf⟩,lf,⟨lf,λ_=>rfl,λN=>⟨(λv=>Ab),lf⟩⟩,⟨lf,λ_=>rfl,λN=>⟨(λv=>Ab),lf⟩⟩,(λv=>Ab),⟨lf,⟨lf,trivial⟩,lf⟩,trivial,lf,lf,trivial⟩
 ·intro xs r h;refine Ld (Lc ?_) h;kernel_rfl
abbrev YV:P3:=⟨546,[.str,wO],[wO,wO,.bool],u2 Yi⟩
def Zrm:okE YV:=Sk (sN Qc) Ze func546 call546 (sK (sF [pV 0 .str,pV 1 tI,pV 7 tI,pV 8 tI,pV 9 tI] (λN=>u5 (mu N)) (u5 Zv7) (λK1=>sA))) ⟨λ_=>rfl,λN v=>Ab⟩
abbrev WF:py:={f:=518,n:=34,np:=3,rv:=Tryz.f518.results.toList,run:=λln _ k s=>Ji (Vi [] ln [YV] [] [] []) 34 (Yh Tryz.f518) .leaf k s}
def Zfr:Yx qA glob WF:=Yx.of (C:=Vi [] [] [YV] [] [] []) (λln=>Ya (ln:=ln) Xf rfl (sN Zrm) Q6 Ze Q7) Tryz.func518 rfl Tryz.call518 Ah rfl rfl .leaf (λ_ _ _=>rfl)
abbrev YZ:P3:=⟨519,[.str,wO,wO],[Zu,wO,.bool],u3 uY⟩
def Zr6:bQ qA glob YZ:=by
 refine bQ.of (e:=YZ) (C:=Vi [WF] [] [] [] [] []) (Ya (Qp Zfr Xf) rfl Zg Q6 Ze Q7) rfl Tryz.func519 (c:=Yh Tryz.f519) rfl Tryz.call519 Ah
  ((sI (.join [pV 0 .str,pV 1 tI,pV 2 tI,lS 6 sD,lS 9 sD,wK 10 sD,pV 11 .bool] (λv=>V2 v.1 v.2.1 v.2.2.1 v.2.2.2.1 v.2.2.2.2.1 v.2.2.2.2.2.1 v.2.2.2.2.2.2.1) sA (sH (.join [pV 0 .str,pV 1 tI,lS 6 sD,lS 9 sD,wK 10 sD,pV 11 .bool] (λv=>cH v.1 v.2.1 v.2.2.1 v.2.2.2.1 v.2.2.2.2.1 v.2.2.2.2.2.1) sA sA))))) ?_ ?_
 ·exact⟨lf,lf,lf,lf,(λv=>Ab),lf,lf,lf,(λv=>Ab),lf⟩
 ·intro xs r h;refine Ld (Lc ?_) h;kernel_rfl
abbrev Zht:P3:=⟨470,[.str,wO],[Zu,wO,.bool],u2 EK⟩
def Zuz:bQ qA glob Zht:=by
 refine bQ.of (e:=Zht) (C:=Vi [WF] [] [qR,Z3s,YZ] [] [] []) (Ya (Qp Zfr Xf) rfl (sP Qc DX Zr6) Q6 Ze Q7) rfl Tryz.func470 (c:=Yh Tryz.f470) rfl Tryz.call470 Ah
  ((sK (.join [lS 4 sD,lS 8 sD,pV 9 tI,pV 10 .bool] (λv=>Xq v.1 v.2.1 v.2.2.1 v.2.2.2.1) (sG (.block (sG (.cond sA (sG (.cond sA (.join [pV 0 .str,pV 1 tI,lS 4 sD,pV 7 tI,lS 8 sD,pV 9 tI,pV 10 .bool,pV 24 tI,pV 60 .bool] (λv=>oF v.1 v.2.1 v.2.2.1 v.2.2.2.1 v.2.2.2.2.1 v.2.2.2.2.2.1 v.2.2.2.2.2.2.1 v.2.2.2.2.2.2.2.1 v.2.2.2.2.2.2.2.2.1) sA (.cond sA (.join [pV 0 .str,pV 1 tI,lS 4 sD,pV 7 tI,lS 8 sD,pV 9 tI,pV 10 .bool,pV 24 tI,pV 72 .bool] (λv=>oG v.1 v.2.1 v.2.2.1 v.2.2.2.1 v.2.2.2.2.1 v.2.2.2.2.2.1 v.2.2.2.2.2.2.1 v.2.2.2.2.2.2.2.1 v.2.2.2.2.2.2.2.2.1) sA (.cond sA (.join [pV 0 .str,pV 1 tI,lS 4 sD,pV 7 tI,lS 8 sD,pV 9 tI,pV 10 .bool,pV 85 .bool] (λv=>dT v.1 v.2.1 v.2.2.1 v.2.2.2.1 v.2.2.2.2.1 v.2.2.2.2.2.1 v.2.2.2.2.2.2.1 v.2.2.2.2.2.2.2.1) sA sA))))))))))) sA))) ?_ ?_
 ·exact⟨lf,lf,lf,lf,lf,⟨lf,lf,lf,lf,lf,lf,(λv=>Ab),lf,lf,(λv=>Ab),lf,lf,(λv=>Ab),lf⟩,(λv=>Ab),lf⟩
 ·intro xs r h;refine Ld (Lc ?_) h;kernel_rfl
def Zo4:okE ⟨361,[.str,wO],[Zu,wO,.bool],u2 yV⟩:=Sk (sO Zuz cq) Ze func361 call361 sA
def Zlm:okE ⟨234,[.str],[.slice 127 Zu,.bool],u1 XC⟩:=Sk (sO Zo4 Qc) Ze func234 call234 (sH (sF [pV 0 .str,pZ 4 sC,pV 5 tI] (λN=>u3 (bN N)) (u3 Zfx) (λK1=>sA))) ⟨λ_=>rfl,λN v=>Ab⟩
def Zum:okE ⟨235,[Zq,wO],[Zq],u2 yb⟩:=Sk (sO Xi Qc) Ze func235 call235 sA
def Z07:okE ⟨548,[wO],[wO],u1 kY⟩:=Sk (sN cI) Ze func548 call548 sA
def Zxo:okE ⟨547,[Q4,wO],[Q4,wO,.bool],u2 iB⟩:=Sk (sO QH Qc) Ze func547 call547 sA
abbrev cB:BW:=⟨520,[.bx 37 Zq sC,.sh wO],.vals [wO],u2 cT⟩
def zO:TH cB:=GU [0] (sS Yf wi Z07 Zxo Zf5 Zf7) (Zt Z4d Ze) func520 call520 (sI (.join [lI 0 sC,pV 1 tI,.box 5 34 Q4 sD,pV 6 tI,pV 7 .bool] (u5 J9) sA (sG (.join [lI 0 (sE (sE (sE (.p sC (sE (sE (sE (sE (sE (sE sC)))))))))),pV 1 tI,pV 6 tI] (u3 kC) sA (sF [lI 0 (sE (sE (sE (.p sC (sE (sE (sE (sE (sE (sE sC)))))))))),pV 1 tI,pV 8 tI] (λN=>u3 (eL N)) (u3 qb) (λK1=>(sG (.seq (.block (.join [lI 0 (sE (sE (sE (.p sC (sE (sE (sE (sE (sE (sE sC)))))))))),pV 1 tI,pV 8 tI,wA 9 sC] (u4 (zJ K1)) sA sA)) sA)))))))) ⟨(λv=>Ab),(λv=>Ab),λ_=>rfl,λN=>⟨(λv=>Ab),λv=>Ab⟩⟩
abbrev Ro:P3:=⟨521,[Qo,wO],[wO],u2 z9⟩
def Zxf:okE Ro:=Sk (sO gf Km) Ze func521 call521 sA
abbrev Ix:P3:=⟨131,[Yr],[wO],u1 kZ⟩
def Zkz:okE Ix:=Sk (sN l6) Ze func131 call131 sA
def Zb5:okE ⟨522,[Qo,wO,.bool],[.bool],u3 ze⟩:=Sk Zg Ze func522 call522 sA
open Go.RowKit Go.Sort Go.Shelf Go.Lib in
def Qtj(x1 y1:Int)(x2 y2:List UInt8)(W:Y)(h1:0<=x1)(h2:x1<=4611686018427387904)(h3:0<=y1)(h4:y1<=4611686018427387904):
  Lk qA 551 #[.agg #[.int .i64 x1,.string ⟨⟨x2⟩⟩],.agg #[.int .i64 y1,.string ⟨⟨y2⟩⟩]] W λen w'=>en=.returned (.int .i64 (x1-y1))/\ ∃q os',w'=grow (W.drewN q) os':=by
 have hw:Lu.wrap (x1-y1)=x1-y1:=by rw[Lv];omega
 go_enter Tryz.func551,Tryz.ntmps551
 go_wp2
 go_ret
 exact⟨rfl,0,_,by rw[alloc_eq_grow,alloc_eq_grow,grow_grow];rfl⟩
abbrev Zfg:Hl:={f:=550,e:=260,t:=ng,args:=[.fnc 551],res:=[],F:=λl _=>FU l}
def Zr7:Pb qA glob Zfg:=Pb.sort Tryz.call550 (λp cap fv w=>Go.Proofs.AnyF.slices_SortFunc_none Tryz.sortLaid p cap fv w)
  (λα _ enc c blk cap d w hk h1 hO hT hcmp hH hblk hsz=>Go.Proofs.AnyQ.slices_SortFunc_total Tryz.sortLaid 2 (λw=>Ab) (λw=>Ab) enc hk h1 c hO 551 #[] blk 0 cap d w (λ_ _=>Tryz.call551 _ _) hcmp hH hblk hsz hT)
  (λx y W h1 h2 h3 h4=>Qtj x.1 y.1 x.2.1 y.2.1 W h1 h2 h3 h4)
abbrev Zqf:P3:=⟨552,[.slice 260 ng],[.slice 260 ng],u1 YA⟩
def Z47:okE Zqf:=Sk (sN oM) Ze func552 call552 (sH (sF [.val 3 (.slice 260 ng) sC,pV 8 (.slice 260 ng),pV 9 tI,pV 10 tI] (λN=>u4 (mC N)) (u4 zN) (λK1=>sA))) ⟨λ_=>rfl,λN v=>Ab⟩
abbrev Zce:py:={f:=549,n:=27,np:=6,rv:=Tryz.f549.results.toList,run:=λln _ k s=>Ji (Vi [] ln [] [] [] []) 27 (Yh Tryz.f549) .leaf k s}
def Zmw:Yx qA glob Zce:=Yx.of (C:=Vi [] [] [] [] [] []) (λln=>Ya (ln:=ln) Xf rfl Zg Q6 Ze Q7) Tryz.func549 rfl Tryz.call549 Ah rfl rfl .leaf (λ_ _ _=>rfl)
abbrev Ze8:P3:=⟨523,[Xg,wO,.str],[Xg],u3 ZX⟩
def Zrr:bQ qA glob Ze8:=by
 refine bQ.of (e:=Ze8) (C:=Vi [Zce] [] [Zks,Zff,Zhp,Zqf] [Zfg] [] []) (Ya (Qp Zmw Xf) rfl (sQ rW XH oM Z47) (Qle Zr7 Q6) Ze Q7) rfl Tryz.func523 (c:=Yh Tryz.f523) rfl Tryz.call523 Ah
  ((sH (.join [tZ 3 sD,wK 4 sD,.box 5 9 (.str) sD,tZ 6 sC,wK 7 sD,wK 8 sD] (λv=>XE v.1 v.2.1 v.2.2.1 v.2.2.2.1 v.2.2.2.2.1 v.2.2.2.2.2.1) sA (sH (sF [tZ 3 sD,wK 4 sD,.box 5 9 (.str) sD,tZ 6 sC,wK 7 sD,wK 8 sD,.box 9 90 (.slice 260 ng) sC,.clo 10 549 [7,8,9,5,4],pV 53 (.slice 260 ng),pV 54 tI,pV 55 tI] (λN v=>f5 N v.1 v.2.1 v.2.2.1 v.2.2.2.1 v.2.2.2.2.1 v.2.2.2.2.2.1 v.2.2.2.2.2.2.1 v.2.2.2.2.2.2.2.1 v.2.2.2.2.2.2.2.2.1 v.2.2.2.2.2.2.2.2.2.1) (λv=>rG v.1 v.2.1 v.2.2.1 v.2.2.2.1 v.2.2.2.2.1 v.2.2.2.2.2.1 v.2.2.2.2.2.2.1 v.2.2.2.2.2.2.2.1 v.2.2.2.2.2.2.2.2.1 v.2.2.2.2.2.2.2.2.2.1) (λK1=>sA)))))) ?_ ?_
 ·exact⟨lf,lf,lf,(λv=>Ab),lf,lf,⟨lf,λ_=>rfl,λN=>⟨(λv=>Ab),lf⟩⟩,lf⟩
 ·intro xs r h;refine Ld (Lc ?_) h;kernel_rfl
abbrev QY:P3:=⟨475,[Qo,wO,.str,.bool],[Qo,wO],u4 za⟩
def Zpf:okE QY:=Sk (sS oN gf Zb5 ZF Zrr Zij) Ze func475 call475 (sM (.join [pV 1 tI,pV 2 .str,wD 4 sD,wD 8 sC,wD 10 (sE (.p sC sD))] (u5 kE) sA (sG (.join [wD 8 sC,wD 10 (sE (.p sC sD))] (u2 zL) sA sA)))) ⟨(λv=>Ab),λv=>Ab⟩
abbrev NV:P3:=⟨524,[Yr,wO],[Yr,.bool],u2 qe⟩
def Zxn:okE NV:=Sk (sO l6 Qc) Ze func524 call524 sA
abbrev sa:py:={f:=473,n:=18,np:=3,rv:=Tryz.f473.results.toList,run:=λln _ k s=>Ji (Vi [] ln [kB] [] [cB] []) 18 (Yh Tryz.f473) .leaf k s}
def Zfq:Yx qA glob sa:=Yx.of (C:=Vi [] [] [kB] [] [cB] []) (λln=>Ya (ln:=ln) Xf rfl (sN yq) Q6 (Zt zO Ze) Q7) Tryz.func473 rfl Tryz.call473 Ah rfl rfl .leaf (λ_ _ _=>rfl)
abbrev oR:py:={f:=474,n:=32,np:=3,rv:=Tryz.f474.results.toList,run:=λln _ k s=>Ji (Vi [] ln [Ro,Ix] [] [] []) 32 (Yh Tryz.f474) .leaf k s}
def Zdq:Yx qA glob oR:=Yx.of (C:=Vi [] [] [Ro,Ix] [] [] []) (λln=>Ya (ln:=ln) Xf rfl (sO Zxf Zkz) Q6 Ze Q7) Tryz.func474 rfl Tryz.call474 Ah rfl rfl .leaf (λ_ _ _=>rfl)
abbrev vj:py:={f:=476,n:=30,np:=3,rv:=Tryz.f476.results.toList,run:=λln _ k s=>Ji (Vi [] ln [NV] [] [] []) 30 (Yh Tryz.f476) .leaf k s}
def Zh5:Yx qA glob vj:=Yx.of (C:=Vi [] [] [NV] [] [] []) (λln=>Ya (ln:=ln) Xf rfl (sN Zxn) Q6 Ze Q7) Tryz.func476 rfl Tryz.call476 Ah rfl rfl .leaf (λ_ _ _=>rfl)
abbrev Y4:py:={f:=221,n:=43,np:=2,rv:=Tryz.f221.results.toList,run:=λln _ k s=>Ji (Vi [Kn] ln [ue,qa,km] [] [xT] []) 43 (Yh Tryz.f221) .leaf k s}
def fw:Yx qA glob Y4:=Yx.of (C:=Vi [Kn] [] [ue,qa,km] [] [xT] []) (λln=>Ya (ln:=ln) (Qp eZ Xf) rfl (sP wi Sp VX) Q6 (Zt Z4d Ze) Q7) Tryz.func221 rfl Tryz.call221 Ah rfl rfl .leaf (λ_ _ _=>rfl)
abbrev q8:py:={f:=472,n:=64,np:=2,rv:=Tryz.f472.results.toList,run:=λln _ k s=>Ji (Vi [sa,Kn,oR,vj,Y4] ln [QY] [] [] []) 64 (Yh Tryz.f472) .leaf k s}
def Zan:Yx qA glob q8:=Yx.of (C:=Vi [sa,Kn,oR,vj,Y4] [] [QY] [] [] []) (λln=>Ya (ln:=ln) (Qp Zfq (Qp eZ (Qp Zdq (Qp Zh5 (Qp fw Xf))))) rfl (sN Zpf) Q6 Ze Q7) Tryz.func472 rfl Tryz.call472 Ah rfl rfl .leaf (λ_ _ _=>rfl)
abbrev Znu:py:={f:=471,n:=36,np:=4,rv:=Tryz.f471.results.toList,run:=λln _ k s=>Ji (Vi [q8] ln [dL,dQ,Xe] [] [] []) 36 (Yh Tryz.f471) .leaf k s}
def Z05:Yx qA glob Znu:=Yx.of (C:=Vi [q8] [] [dL,dQ,Xe] [] [] []) (λln=>Ya (ln:=ln) (Qp Zan Xf) rfl (sP Vm cq Xi) Q6 Ze Q7) Tryz.func471 rfl Tryz.call471 Ah rfl rfl .leaf (λ_ _ _=>rfl)
abbrev Ze6:P3:=⟨362,[Zq,Zu],[Zq,wO],u2 ZV⟩
def Zrp:bQ qA glob Ze6:=by
 refine bQ.of (e:=Ze6) (C:=Vi [q8,Znu] [] [] [] [] []) (Ya (Qp Zan (Qp Z05 Xf)) rfl Zg Q6 Ze Q7) rfl Tryz.func362 (c:=Yh Tryz.f362) rfl Tryz.call362 Ah
  sA ?_ ?_
 ·exact lf
 ·intro xs r h;refine Ld (Lc ?_) h;kernel_rfl
abbrev zI:P3:=⟨478,[Qo,wO,wO],[Qo,wO],u3 xz⟩
def Znb:okE zI:=Sk (sR oN gf Km Zb5 ZF) Ze func478 call478 sA
abbrev oT:py:={f:=477,n:=76,np:=2,rv:=Tryz.f477.results.toList,run:=λln _ k s=>Ji (Vi [sa,Kn,oR,vj,ja,Y4] ln [zI] [] [] []) 76 (Yh Tryz.f477) .leaf k s}
def Zwa:Yx qA glob oT:=Yx.of (C:=Vi [sa,Kn,oR,vj,ja,Y4] [] [zI] [] [] []) (λln=>Ya (ln:=ln) (Qp Zfq (Qp eZ (Qp Zdq (Qp Zh5 (Qp Zzz (Qp fw Xf)))))) rfl (sN Znb) Q6 Ze Q7) Tryz.func477 rfl Tryz.call477 Ah rfl rfl .leaf (λ_ _ _=>rfl)
abbrev Ziv:py:={f:=471,n:=36,np:=4,rv:=Tryz.f471.results.toList,run:=λln _ k s=>Ji (Vi [oT] ln [dL,dQ,Xe] [] [] []) 36 (Yh Tryz.f471) .leaf k s}
def Zt5:Yx qA glob Ziv:=Yx.of (C:=Vi [oT] [] [dL,dQ,Xe] [] [] []) (λln=>Ya (ln:=ln) (Qp Zwa Xf) rfl (sP Vm cq Xi) Q6 Ze Q7) Tryz.func471 rfl Tryz.call471 Ah rfl rfl .leaf (λ_ _ _=>rfl)
abbrev Zda:P3:=⟨363,[Zq,Zu],[Zq,wO],u2 y5⟩
def Zpa:bQ qA glob Zda:=by
 refine bQ.of (e:=Zda) (C:=Vi [oT,Ziv] [] [] [] [] []) (Ya (Qp Zwa (Qp Zt5 Xf)) rfl Zg Q6 Ze Q7) rfl Tryz.func363 (c:=Yh Tryz.f363) rfl Tryz.call363 Ah
  sA ?_ ?_
 ·exact lf
 ·intro xs r h;refine Ld (Lc ?_) h;kernel_rfl
abbrev mq:P3:=⟨369,[Zy,wO],[Zy,.bool],u2 lY⟩
def Zb4:okE mq:=Sk (sP rX Km ay) Ze func369 call369 (sH (.join [pV 1 tI,lP 2 sD,lP 4 sC,tY 6 (sE (sE (sE (.p sC sD))))] (u4 zM) sA sA)) (λv=>Ab)
abbrev XN:py:={f:=473,n:=18,np:=3,rv:=Tryz.f473.results.toList,run:=λln _ k s=>Ji (Vi [] ln [rt] [] [cB] []) 18 (Yh Tryz.f473) .leaf k s}
def Zo1:Yx qA glob XN:=Yx.of (C:=Vi [] [] [rt] [] [cB] []) (λln=>Ya (ln:=ln) Xf rfl (sN JA) Q6 (Zt zO Ze) Q7) Tryz.func473 rfl Tryz.call473 Ah rfl rfl .leaf (λ_ _ _=>rfl)
abbrev q9:py:={f:=479,n:=41,np:=2,rv:=Tryz.f479.results.toList,run:=λln _ k s=>Ji (Vi [XN,Kn,Y4] ln [mq] [] [] []) 41 (Yh Tryz.f479) .leaf k s}
def Zao:Yx qA glob q9:=Yx.of (C:=Vi [XN,Kn,Y4] [] [mq] [] [] []) (λln=>Ya (ln:=ln) (Qp Zo1 (Qp eZ (Qp fw Xf))) rfl (sN Zb4) Q6 Ze Q7) Tryz.func479 rfl Tryz.call479 Ah rfl rfl .leaf (λ_ _ _=>rfl)
abbrev Ziw:py:={f:=471,n:=36,np:=4,rv:=Tryz.f471.results.toList,run:=λln _ k s=>Ji (Vi [q9] ln [dL,dQ,Xe] [] [] []) 36 (Yh Tryz.f471) .leaf k s}
def Zt6:Yx qA glob Ziw:=Yx.of (C:=Vi [q9] [] [dL,dQ,Xe] [] [] []) (λln=>Ya (ln:=ln) (Qp Zao Xf) rfl (sP Vm cq Xi) Q6 Ze Q7) Tryz.func471 rfl Tryz.call471 Ah rfl rfl .leaf (λ_ _ _=>rfl)
abbrev Ze7:P3:=⟨364,[Zq,Zu],[Zq,wO],u2 ZW⟩
def Zrq:bQ qA glob Ze7:=by
 refine bQ.of (e:=Ze7) (C:=Vi [q9,Ziw] [] [] [] [] []) (Ya (Qp Zao (Qp Zt6 Xf)) rfl Zg Q6 Ze Q7) rfl Tryz.func364 (c:=Yh Tryz.f364) rfl Tryz.call364 Ah
  sA ?_ ?_
 ·exact lf
 ·intro xs r h;refine Ld (Lc ?_) h;kernel_rfl
abbrev YX:P3:=⟨481,[Q4,wO],[Q4],u2 uX⟩
def Zr1:okE YX:=Sk (sN c8) Ze func481 call481 sA
abbrev YW:P3:=⟨482,[eH,wO],[eH],u2 uW⟩
def Zr0:okE YW:=Sk (sN ei) Ze func482 call482 sA
abbrev XO:py:={f:=473,n:=18,np:=3,rv:=Tryz.f473.results.toList,run:=λln _ k s=>Ji (Vi [] ln [rt,kB] [] [cB] []) 18 (Yh Tryz.f473) .leaf k s}
def Zo2:Yx qA glob XO:=Yx.of (C:=Vi [] [] [rt,kB] [] [cB] []) (λln=>Ya (ln:=ln) Xf rfl (sO JA yq) Q6 (Zt zO Ze) Q7) Tryz.func473 rfl Tryz.call473 Ah rfl rfl .leaf (λ_ _ _=>rfl)
abbrev oS:py:={f:=480,n:=64,np:=2,rv:=Tryz.f480.results.toList,run:=λln _ k s=>Ji (Vi [XO,Kn] ln [YX,YW] [] [om] []) 64 (Yh Tryz.f480) .leaf k s}
def Z60:Yx qA glob oS:=Yx.of (C:=Vi [XO,Kn] [] [YX,YW] [] [om] []) (λln=>Ya (ln:=ln) (Qp Zo2 (Qp eZ Xf)) rfl (sO Zr1 Zr0) Q6 (Zt xe Ze) Q7) Tryz.func480 rfl Tryz.call480 Ah rfl rfl .leaf (λ_ _ _=>rfl)
abbrev Zix:py:={f:=471,n:=36,np:=4,rv:=Tryz.f471.results.toList,run:=λln _ k s=>Ji (Vi [oS] ln [dL,dQ,Xe] [] [] []) 36 (Yh Tryz.f471) .leaf k s}
def Zt7:Yx qA glob Zix:=Yx.of (C:=Vi [oS] [] [dL,dQ,Xe] [] [] []) (λln=>Ya (ln:=ln) (Qp Z60 Xf) rfl (sP Vm cq Xi) Q6 Ze Q7) Tryz.func471 rfl Tryz.call471 Ah rfl rfl .leaf (λ_ _ _=>rfl)
abbrev Zc9:P3:=⟨365,[Zq,Zu],[Zq,wO],u2 yZ⟩
def Zo9:bQ qA glob Zc9:=by
 refine bQ.of (e:=Zc9) (C:=Vi [oS,Zix] [] [] [] [] []) (Ya (Qp Z60 (Qp Zt7 Xf)) rfl Zg Q6 Ze Q7) rfl Tryz.func365 (c:=Yh Tryz.f365) rfl Tryz.call365 Ah
  sA ?_ ?_
 ·exact lf
 ·intro xs r h;refine Ld (Lc ?_) h;kernel_rfl
def Zo8:okE ⟨236,[Zq,Zu],[Zq,wO],u2 yY⟩:=Sk (sQ Zrp Zpa Zrq Zo9) Ze func236 call236 sA
def Zlp:okE ⟨118,[Zq,.str],[Zq,wO],u2 ul⟩:=Sk (sS Vm zj Xi Zlm Zum Zo8) Ze func118 call118 (sK (sF [lI 4 sC,pZ 6 sC,lI 8 sC,.bor 35 6 [],pV 36 tI,pV 37 tI] (λN=>u5 (fL N)) (u5 Z4i) (λK1=>sA))) ⟨λ_=>rfl,λN v=>Ab⟩
abbrev QW:P3:=⟨367,[Zy],[Zy,.bool],u1 ry⟩
def Zo3:okE QW:=Sk (sO ay Zii) Ze func367 call367 sA
abbrev xh:py:={f:=366,n:=18,np:=2,rv:=Tryz.f366.results.toList,run:=λln _ k s=>Ji (Vi [] ln [QW] [] [] []) 18 (Yh Tryz.f366) .leaf k s}
def Zjp:Yx qA glob xh:=Yx.of (C:=Vi [] [] [QW] [] [] []) (λln=>Ya (ln:=ln) Xf rfl (sN Zo3) Q6 Ze Q7) Tryz.func366 rfl Tryz.call366 Ah rfl rfl .leaf (λ_ _ _=>rfl)
abbrev Zld:py:={f:=215,n:=61,np:=4,rv:=Tryz.f215.results.toList,run:=λln _ k s=>Ji (Vi [xh] ln [Xe,Xw,Vq] [] [] []) 61 (Yh Tryz.f215) .leaf k s}
def Zwz:Yx qA glob Zld:=Yx.of (C:=Vi [xh] [] [Xe,Xw,Vq] [] [] []) (λln=>Ya (ln:=ln) (Qp Zjp Xf) rfl (sP Xi Yf az) Q6 Ze Q7) Tryz.func215 rfl Tryz.call215 Ah rfl rfl .leaf (λ_ _ _=>rfl)
abbrev Zbz:P3:=⟨237,[Zq,wO],[Zq,.bool],u2 xu⟩
def Zm5:bQ qA glob Zbz:=by
 refine bQ.of (e:=Zbz) (C:=Vi [Zld] [] [] [] [] []) (Ya (Qp Zwz Xf) rfl Zg Q6 Ze Q7) rfl Tryz.func237 (c:=Yh Tryz.f237) rfl Tryz.call237 Ah
  sA ?_ ?_
 ·exact lf
 ·intro xs r h;refine Ld (Lc ?_) h;kernel_rfl
abbrev oU:py:={f:=368,n:=29,np:=4,rv:=Tryz.f368.results.toList,run:=λln _ k s=>Ji (Vi [Y4] ln [mq] [] [] []) 29 (Yh Tryz.f368) .leaf k s}
def Z0p:Yx qA glob oU:=Yx.of (C:=Vi [Y4] [] [mq] [] [] []) (λln=>Ya (ln:=ln) (Qp fw Xf) rfl (sN Zb4) Q6 Ze Q7) Tryz.func368 rfl Tryz.call368 Ah rfl rfl .leaf (λ_ _ _=>rfl)
abbrev Zle:py:={f:=215,n:=61,np:=4,rv:=Tryz.f215.results.toList,run:=λln _ k s=>Ji (Vi [oU] ln [Xe,Xw,Vq] [] [] []) 61 (Yh Tryz.f215) .leaf k s}
def Zw0:Yx qA glob Zle:=Yx.of (C:=Vi [oU] [] [Xe,Xw,Vq] [] [] []) (λln=>Ya (ln:=ln) (Qp Z0p Xf) rfl (sP Xi Yf az) Q6 Ze Q7) Tryz.func215 rfl Tryz.call215 Ah rfl rfl .leaf (λ_ _ _=>rfl)
abbrev Zdd:P3:=⟨238,[Zq,wO,wO],[Zq,.bool],u3 zb⟩
def Zpg:bQ qA glob Zdd:=by
 refine bQ.of (e:=Zdd) (C:=Vi [oU,Zle] [] [] [] [] []) (Ya (Qp Z0p (Qp Zw0 Xf)) rfl Zg Q6 Ze Q7) rfl Tryz.func238 (c:=Yh Tryz.f238) rfl Tryz.call238 Ah
  sA ?_ ?_
 ·exact lf
 ·intro xs r h;refine Ld (Lc ?_) h;kernel_rfl
abbrev rb:py:={f:=370,n:=33,np:=3,rv:=Tryz.f370.results.toList,run:=λln _ k s=>Ji (Vi [] ln [CU,XY] [] [] []) 33 (Yh Tryz.f370) .leaf k s}
def Zaq:Yx qA glob rb:=Yx.of (C:=Vi [] [] [CU,XY] [] [] []) (λln=>Ya (ln:=ln) Xf rfl (sO ZF Km) Q6 Ze Q7) Tryz.func370 rfl Tryz.call370 Ah rfl rfl .leaf (λ_ _ _=>rfl)
abbrev Zlf:py:={f:=215,n:=61,np:=4,rv:=Tryz.f215.results.toList,run:=λln _ k s=>Ji (Vi [rb] ln [Xe,Xw,Vq] [] [] []) 61 (Yh Tryz.f215) .leaf k s}
def Zw1:Yx qA glob Zlf:=Yx.of (C:=Vi [rb] [] [Xe,Xw,Vq] [] [] []) (λln=>Ya (ln:=ln) (Qp Zaq Xf) rfl (sP Xi Yf az) Q6 Ze Q7) Tryz.func215 rfl Tryz.call215 Ah rfl rfl .leaf (λ_ _ _=>rfl)
abbrev Zfe:P3:=⟨239,[Zq,wO,wO],[Zq,.bool],u3 QD⟩
def Zr4:bQ qA glob Zfe:=by
 refine bQ.of (e:=Zfe) (C:=Vi [rb,Zlf] [] [] [] [] []) (Ya (Qp Zaq (Qp Zw1 Xf)) rfl Zg Q6 Ze Q7) rfl Tryz.func239 (c:=Yh Tryz.f239) rfl Tryz.call239 Ah
  sA ?_ ?_
 ·exact lf
 ·intro xs r h;refine Ld (Lc ?_) h;kernel_rfl
abbrev Z3w:P3:=⟨483,[.str,.str],[.str],u2 B2⟩
def Z1r:bQ qA glob Z3w:=bQ.trim Tryz.call483 (λs c hc w hs=>Tryz.strings_Trim_one s c hc w hs)
abbrev xV:P3:=⟨373,[Yw,.str],[Yw],u2 my⟩
def Zlq:okE xV:=Sk (sQ XG Z8l Ziu Z1r) Ze func373 call373 (sG (.join [pV 1 .str,wI 2 sD,wI 4 sD] (u3 fM) sA (sF [wI 2 sD,wI 4 sD,wF 12 sC,pV 13 tI,pV 14 tI] (λN=>u5 (J4 N)) (u5 Qv0) (λK1=>sA)))) ⟨(λv=>Ab),λ_=>rfl,λN v=>Ab⟩
abbrev oV:py:={f:=372,n:=15,np:=3,rv:=Tryz.f372.results.toList,run:=λln _ k s=>Ji (Vi [] ln [xV] [] [] []) 15 (Yh Tryz.f372) .leaf k s}
def Zzs:Yx qA glob oV:=Yx.of (C:=Vi [] [] [xV] [] [] []) (λln=>Ya (ln:=ln) Xf rfl (sN Zlq) Q6 Ze Q7) Tryz.func372 rfl Tryz.call372 Ah rfl rfl .leaf (λ_ _ _=>rfl)
abbrev Zlg:py:={f:=215,n:=61,np:=4,rv:=Tryz.f215.results.toList,run:=λln _ k s=>Ji (Vi [oV] ln [Xe,Xw,Vq] [] [] []) 61 (Yh Tryz.f215) .leaf k s}
def Zw2:Yx qA glob Zlg:=Yx.of (C:=Vi [oV] [] [Xe,Xw,Vq] [] [] []) (λln=>Ya (ln:=ln) (Qp Zzs Xf) rfl (sP Xi Yf az) Q6 Ze Q7) Tryz.func215 rfl Tryz.call215 Ah rfl rfl .leaf (λ_ _ _=>rfl)
abbrev Zde:P3:=⟨240,[Zq,wO,.str],[Zq,.bool],u3 zc⟩
def Zpj:bQ qA glob Zde:=by
 refine bQ.of (e:=Zde) (C:=Vi [oV,Zlg] [] [] [] [] []) (Ya (Qp Zzs (Qp Zw2 Xf)) rfl Zg Q6 Ze Q7) rfl Tryz.func240 (c:=Yh Tryz.f240) rfl Tryz.call240 Ah
  sA ?_ ?_
 ·exact lf
 ·intro xs r h;refine Ld (Lc ?_) h;kernel_rfl
def Zlr:okE ⟨533,[Kb,.sptr 3 wO],[.bool],u2 Zdm⟩:=Sk Zg Ze func533 call533 sA
def Z0j:okE ⟨532,[.slice 102 Kb,.clo 533 (.pair (.sptr 3 wO) (.unit))],[wO],u2 Yo⟩:=Sk (sN Zlr) Ze func532 call532 (sG (sF [pV 0 (.slice 102 Kb),pV 1 (.clo 533 (.pair (.sptr 3 wO) (.unit))),pV 7 tI,pV 8 tI] (λN=>u4 (Qy N)) (u4 Xa) (λK1=>sA))) ⟨λ_=>rfl,λN v=>Ab⟩
def Zpn:okE ⟨484,[Zq,wO],[wO],u2 rR⟩:=Sk (sN Z0j) Ze func484 call484 sA
set_option maxHeartbeats 4000000 in
set_option maxHeartbeats 4000000 in
set_option maxHeartbeats 4000000 in
def Z9j(k b n c i j:Nat)(Ad:Lh)(w W1 W2:Y)(hij:i<j)(hj:j<=n)(hnc:n<=c)(hc:c<=maxLen)
  (zE:∀w,(L4 102).run qA w=.ok k w) (hA:(ite (c=j) (U (⟨b,0,X⟩:Lh)) (U ⟨b,j*k,X⟩))=U Ad)
  (happ:∀ty,(L2 #[35,35] ty #[.slice (U ⟨b,0,X⟩) i c,.slice (U Ad) (n-j) (c-j)]).run qA w.drew=.ok (.slice (U ⟨b,0,X⟩) (i+(n-j)) c) W1)
  (hcl:∀ty,(Mb #[35] ty #[.slice (U ⟨b,(i+(n-j))*k,X⟩) (n- (i+(n-j))) (c- (i+(n-j)))]).run qA W1=.ok (.tuple #[]) W2):
  Lk qA 485 #[.slice (U ⟨b,0,X⟩) n c,.int .i64 i,.int .i64 j] w λe w'=>e=.returned (.slice (U ⟨b,0,X⟩) (i+(n-j)) c)/\w'=W2:=by
 have h63:c<=9223372036854775807:=by unfold maxLen at hc;omega
 have hne:¬((i:Int)=(j:Int)):=Aa
 have hic:i<=c:=Aa
 have hjc:j<=c:=Aa
 have hx:¬(c=i+(n-j)):=Aa
 have mixed:qA.follows Lz=true:=Ab
 go_enter Tryz.func485,Tryz.ntmps485
 go_wp2_with fail
 go_region_law_o (refine jW rfl (Ia (t:=35) (t':=35) rfl (by simp[Lr,Ls]) (by simp[Lr,Ls]) (happ _)) ?_)
 go_wp2
 go_ret
 exact⟨rfl,rfl⟩
set_option maxHeartbeats 4000000 in
def Z0h(base:Option Lh)(n c i:Nat)(w:Y)(hi:i<=n)(hnc:n<=c)(hc:c<=maxLen)(hnil:base=X->n=0/\c=0):
  Lk qA 485 #[.slice base n c,.int .i64 i,.int .i64 i] w λe w'=>e=.returned (.slice base n c)/\w'=w:=by
 have h63:c<=9223372036854775807:=by unfold maxLen at hc;omega
 have mixed:qA.follows Lz=true:=Ab
 cases base with
 |none=>
  obtain⟨rfl,rfl⟩:=hnil rfl;obtain rfl:i=0:=Aa
  go_enter Tryz.func485,Tryz.ntmps485
  go_wp2
  go_ret
  exact⟨rfl,rfl⟩
 |some ad=>
  go_enter Tryz.func485,Tryz.ntmps485
  go_wp2
  all_goals (go_ret;exact⟨rfl,rfl⟩)
def Z6c{t:Ty}(hT:Uy qA 35 (.slice 102 t))(hT2:Uy qA 102 t){i j:Nat}(hown:w.ownsRow 0 102 t.size v n xs)(hij:i<=j)(hj:j<=n)(h1:∀u∈xs,u.oneCell'=Lb):
  Lk qA 485 #[v,.int .i64 i,.int .i64 j] w λe w'=> ∃v',e=.returned v'/\w'.ownsRow 0 102 t.size v' (n- (j-i)) (xs.take (i*t.size)++xs.drop (j*t.size))/\w.grownBy w' v.ownBlock/\v'.ownBlock=v.ownBlock:=by
 obtain⟨hu,hpos⟩:=hT.slice;have zE:=λw=>hT2.sizeOf w;have same:∀base c,v=.slice base n c->n<=c->c<=maxLen->(base=X->n=0/\c=0)->i=j->Lk qA 485 #[v,.int .i64 i,.int .i64 j] w λe w'=> ∃v',e=.returned v'/\w'.ownsRow 0 102 t.size v' (n- (j-i)) (xs.take (i*t.size)++xs.drop (j*t.size))/\w.grownBy w' v.ownBlock/\v'.ownBlock=v.ownBlock:=by
  rintro base c rfl hnc hc hnil rfl;refine(Z0h base n c i w hj hnc hc hnil).mono λe w' ⟨he,hw⟩=>?_;subst hw;refine⟨_,he,?_,⟨rfl,rfl,rfl,Lq _,λ_ _ _=>rfl⟩,rfl⟩;rw[Nat.sub_self,Nat.sub_zero,List.take_append_drop];exact hown
 rcases hown.2 with⟨rfl,h0⟩|⟨b,c,cur,rfl,_,hb,hnc,hc,hcs,htk⟩
 ·exact same X 0 (by rw[h0]) Aa (Lx _) (λ_=>⟨h0,rfl⟩) Aa
 by_cases hne:i=j
 ·exact same (U ⟨b,0,X⟩) c rfl hnc hc (λh=>by cases h) hne
 have hlt:i<j:=Aa
 obtain⟨i0,hi0,hi1,_,hi2⟩:=hT2.size;have hnk:n*t.size<=cur.size:=by rw[hcs];exact Lf _ hnc
 have hjk:j*t.size<=n*t.size:=Lf _ hj;have hik:i*t.size<=j*t.size:=Lf _ hij;have hxl:xs.length=n*t.size:=hown.1;obtain⟨news,hnews⟩:∃news,news=xs.drop (j*t.size):=⟨_,rfl⟩
 have hl:news.length=(n-j)*t.size:=by rw[hnews,Ll,hxl,Nat.sub_mul]
 obtain⟨R1,hR1⟩:∃R1:Array Le,R1=(cur.toList.take (i*t.size)++news++cur.toList.drop (i*t.size+news.length)).toArray:=⟨_,rfl⟩
 have e1:i*t.size+(n-j)*t.size=(i+(n-j))*t.size:=by rw[<-Ln]
 have e2:(i+(n-j))*t.size<=n*t.size:=Lf _ Aa;have hR1s:R1.size=cur.size:=by rw[hR1];simp only[Lp,Lj,La,Ll,Array.length_toList];omega
 obtain⟨Ad,hA,hsrc⟩:∃Ad:Lh,(ite (c=j) (U (⟨b,0,X⟩:Lh)) (U ⟨b,j*t.size,X⟩))=U Ad/\ ∀(q:Nat) u,news[q]? =U u->w.drew.cell? (Ad.add q)=U u:=by
  by_cases h:c=j
  ·refine⟨_,if_pos h,λq u hq=>?_⟩;have:news.length=0:=by rw[hl,show n-j=0 from by omega,Nat.zero_mul]
   rw[List.length_eq_zero_iff.1 this]at hq;simp at hq
  ·refine⟨_,if_neg h,λq u hq=>?_⟩;rw[hnews,L9]at hq;have hd:w.drew.heap[b]? =U (.cells cur 102 (0,0)):=hb;rw[Lt];simp only[Ly,hd];rw[<-htk,Lo]at hq;split at hq
   ·simpa using hq
   ·cases hq
 obtain⟨W1,hW1⟩:∃W1,W1=w.drew.setRow b R1:=⟨_,rfl⟩
 have happ:∀ty,(L2 #[35,35] ty #[.slice (U ⟨b,0,X⟩) i c,.slice (U Ad) (n-j) (c-j)]).run qA w.drew=.ok (.slice (U ⟨b,0,X⟩) (i+(n-j)) c) W1:=λty=>by
  rw[hW1,hR1];exact Qgc hu hi0 hi1 ty hb hl hsrc (λu hu=>h1 u (by rw[hnews]at hu;exact Ma hu)) Aa hcs
 have hb1:W1.heap[b]? =U (.cells R1 102 (0,0)):=by rw[hW1];exact P5 (W:=w.drew) hb
 have hz:(Kx t (Wz t)).cells.size=t.size:=by rw[WG hT2.plain];simp[WN hT2.plain]
 obtain⟨Z,hZ⟩:∃Z,Z=(L8 (Kx t (Wz t)).cells (n- (i+(n-j)))).toList:=⟨_,rfl⟩
 have hZl:Z.length=(n- (i+(n-j)))*t.size:=by rw[hZ,Zqu,hz]
 obtain⟨R2,hR2⟩:∃R2:Array Le,R2=(R1.toList.take ((i+(n-j))*t.size)++Z++R1.toList.drop ((i+(n-j))*t.size+(n- (i+(n-j)))*t.size)).toArray:=⟨_,rfl⟩
 have hv:∀w,(zeroValue 102).run qA w=.ok (Kx t (Wz t)) w:=λw=>by
  simp[zeroValue,typeInfo,hi0,hi2]
 have e3:(i+(n-j))*t.size+(n- (i+(n-j)))*t.size=n*t.size:=by rw[<-Ln];congr 1;omega
 have hcl:∀ty,(Mb #[35] ty #[.slice (U ⟨b,(i+(n-j))*t.size,X⟩) (n- (i+(n-j))) (c- (i+(n-j)))]).run qA W1=.ok (.tuple #[]) (W1.setRow b R2):=λty=>by
  rw[hR2,hZ];exact Qla hu hv hz (λu hu=>by rw[WG hT2.plain]at hu;exact VK hT2.plain u (by simpa using hu)) ty hb1 (by rw[hR1s];omega) Aa
 refine(Z9j t.size b n c i j Ad w W1 (W1.setRow b R2) hlt hj hnc hc zE hA happ hcl).mono ?_;rintro e w' ⟨he,rfl⟩;have hT1:(cur.toList.take (i*t.size)).length=i*t.size:=by rw[La,Array.length_toList];omega
 have hs2:R2.size=R1.size:=by
  rw[hR2];simp only[Lp,Lj,La,Ll,Array.length_toList,hZl];omega
 have hlen:n- (j-i)=i+(n-j):=Aa
 refine⟨_,he,⟨?_,.inr ⟨b,c,R2,by rw[hlen],Lx _,P5 hb1,Aa,hc,by rw[hs2,hR1s,hcs],?_⟩⟩,?_,rfl⟩
 ·rw[Lj,La,Ll,hxl,hlen,<-e1,Nat.sub_mul];omega
 ·rw[hlen,hR2];simp only[];rw[L0,Mc (by rw[La,Array.length_toList];omega),L5,Nat.min_self,hR1];simp only[];rw[L1 (by rw[Lj,hT1,hl,e1]),hnews,<-htk,L5,Lw Aa]
 ·refine⟨?_,?_,?_,?_,λx hx hne=>?_⟩
  ·rw[hW1];rfl
  ·rw[hW1];rfl
  ·rw[hW1];rfl
  ·rw[wS,hW1,wS];exact Lq _
  ·have:x≠b:=λe=>hne (by rw[e];rfl);rw[wU this,hW1,wU this];rfl
abbrev Q1i:BW:=⟨485,[.mv (.slice 102 Kb) (.p sC sD),.sh wO,.sh wO],.flg [(.slice 102 Kb,(.p sC sD))],u3 aA⟩
def Z9h:zY qA glob Q1i:=zY.delete rfl Tryz.call485 λh1 h2 h3 h4=>Z6c Qqu Qkp h1 h2 h3 h4
abbrev Zmg:BW:=⟨374,[.sh Zq,.sh wO],.flg [(Zq,(sE (sE (sE (.p sC sD))))),(.slice 127 Zu,sD),(.bool,sC)],u2 KS⟩
def Zk1:TH Zmg:=GU [] (sP Xi Zpn az) (Zt Z9h Ze) func374 call374 (sG (.join [lI 2 sD,lI 4 sC,lI 7 sC,pV 8 tI] (u4 QE) sA (.seq (sG (.cond (sG (.frz [(4,(sE (sE (sE (.p sC sD))))),(5,.u S)])) sA)) (.seq (.frz [(7,(.p sC (.p sC (.p sC (.p sC (.p sC (.p sC (.p sC (.p sC (.p sC (.p sC (.p sC (.p sC (.p sC (.p sC (.p sC (.p (.p sC sD) sC)))))))))))))))))]) (sH (.frz [(4,(sE (sE (sE (.p sC sD)))))])))))) (λv=>Ab)
abbrev Zmf:P3:=⟨376,[Zu],[Y6],u1 KR⟩
def Zk0:okE Zmf:=Sk Zg Ze func376 call376 sA
abbrev qM:P3:=⟨534,[Kq,wO],[Kq,.bool],u2 z8⟩
def Zie:okE qM:=Sk (sP V' JC Qc) Ze func534 call534 (sI (sF [pV 1 tI,tY 2 sD,tY 4 sC,tY 6 sC,pV 7 tI] (λN=>u5 (rC N)) (u5 Qv1) (λK1=>sA))) ⟨λ_=>rfl,λN v=>Ab⟩
abbrev Zb1:P3:=⟨486,[Zy,Y6,.bool],[Zy],u3 KV⟩
def Zne:bQ qA glob Zb1:=by
 refine bQ.of (e:=Zb1) (C:=Dd [] [YY,MD,OM,zG,QZ,wy,OJ,qM,VS] [] [] []) (IA rfl (sV ay rX WA yr zQ rV VY Zie xF) Q6 Ze Q7) rfl Tryz.func486 (c:=Yh Tryz.f486) rfl Tryz.call486 Ah
  ((sJ (.join [pV 2 .bool,lP 3 sD,wB 4 sD,lP 6 sC,lP 7 sC,.ptr 8 7 [4],pV 9 tI] (λv=>yn v.1 v.2.1 v.2.2.1 v.2.2.2.1 v.2.2.2.2.1 v.2.2.2.2.2.1) sA (.join [pV 2 .bool,lP 3 sD,wB 4 sD,lP 6 sC,lP 7 sC,pV 9 tI] (λv=>iV v.1 v.2.1 v.2.2.1 v.2.2.2.1 v.2.2.2.2.1 v.2.2.2.2.2.1) (sG (.cond (sG (.block (.loop [pV 2 .bool,lP 3 sD,wB 4 sD,lP 6 sC,lP 7 sC,.ptr 8 7 [4],pV 9 tI,tX 42 sC,pV 43 tI,pV 44 tI] (λN v=>iX N v.1 v.2.1 v.2.2.1 v.2.2.2.1 v.2.2.2.2.1 v.2.2.2.2.2.1 v.2.2.2.2.2.2.1 v.2.2.2.2.2.2.2.1 v.2.2.2.2.2.2.2.2.1) (λv=>Qfe v.1 v.2.1 v.2.2.1 v.2.2.2.1 v.2.2.2.2.1 v.2.2.2.2.2.1 v.2.2.2.2.2.2.1 v.2.2.2.2.2.2.2.1 v.2.2.2.2.2.2.2.2.1) (λK1=>sA)))) sA)) (.join [pV 2 .bool,lP 6 sC,lP 7 (sE (.p sC (.p sC (.p sC (.p sC sD)))))] (λv=>iW v.1 v.2.1 v.2.2.1) sA (.join [lP 6 sC,lP 7 (sE (.p sC (.p sC (.p sC (.p sC sD)))))] (λv=>oJ v.1 v.2.1) sA sA)))))) ?_ ?_
 ·exact⟨lf,lf,lf,lf,lf,(λv=>Ab),⟨lf,⟨lf,λ_=>rfl,λN=>⟨(λv=>Ab),lf⟩⟩,lf⟩,(λv=>Ab),lf,(λv=>Ab),lf,(λv=>Ab),lf⟩
 ·intro xs r h;obtain⟨a,b,c,u⟩:=xs;cases c
  ·have h2:(none:Option _)=U r:=h;cases h2
  refine Ld (Lc ?_) h;kernel_rfl
abbrev Zkq:P3:=⟨375,[Zy,Y6],[Zy],u2 WT⟩
def Zxa:okE Zkq:=Sk (sN Zne) Ze func375 call375 sA
abbrev Zkr:P3:=⟨377,[Zy],[Zy,.bool],u1 WU⟩
def Zxb:okE Zkr:=Sk (sO ay zk) Ze func377 call377 sA
abbrev ud:BW:=⟨344,[.bx 37 Zq (sE (sE (sE (.p sC sD)))),.sh wO],.fp Zq 0 [9] [8],u2 cS⟩
def Zid:TH ud:=GU [0] (sN vg) Ze func344 call344 sA
abbrev Zqq:py:={f:=221,n:=43,np:=2,rv:=Tryz.f221.results.toList,run:=λln _ k s=>Ji (Vi [Kn] ln [ue,qa,km] [] [ud] []) 43 (Yh Tryz.f221) .leaf k s}
def Zex:Yx qA glob Zqq:=Yx.of (C:=Vi [Kn] [] [ue,qa,km] [] [ud] []) (λln=>Ya (ln:=ln) (Qp eZ Xf) rfl (sP wi Sp VX) Q6 (Zt Zid Ze) Q7) Tryz.func221 rfl Tryz.call221 Ah rfl rfl .leaf (λ_ _ _=>rfl)
abbrev Zho:BW:=⟨241,[.sh Zq,.sh wO],.flg [(Zq,(sE (sE (sE (.p sC sD))))),(.bool,sC)],u2 KB⟩
def Zul:zY qA glob Zho:=by
 refine zY.of (e:=Zho) (C:=Vi [Zqq] [] [Xw,xU,Zmf,Zkq,Zkr] [] [Zmg] []) (Ya (Qp Zex Xf) rfl (sR Yf fO Zk0 Zxa Zxb) Q6 (Zt Zk1 Ze) Q7) rfl rfl Tryz.func241 (c:=Yh Tryz.f241) rfl Tryz.call241 Ah
  ((sI (sF [lI 4 sC,lI 6 (sE (sE (sE (.p sC sD)))),pV 25 (.slice 127 Zu),pV 26 tI,pV 27 tI] (λN v=>Ye N v.1 v.2.1 v.2.2.1 v.2.2.2.1 v.2.2.2.2.1) (λv=>kW v.1 v.2.1 v.2.2.1 v.2.2.2.1 v.2.2.2.2.1) (λK1=>(sH (.seq (.block (sJ (.join [lI 4 sC,lI 6 (sE (sE (sE (.p sC sD)))),lS 10 sD,pV 25 (.slice 127 Zu),pV 26 tI,pV 27 tI] (λv=>bC K1 v.1 v.2.1 v.2.2.1 v.2.2.2.1 v.2.2.2.2.1 v.2.2.2.2.2.1) sA sA))) sA)))))) ?_ ?_
 ·exact⟨lf,lf,lf,⟨lf,λ_=>rfl,λN=>⟨(λv=>Ab),lf,lf,⟨lf,lf,lf,lf,lf,(λv=>Ab),lf⟩,lf⟩⟩,lf⟩
 ·intro xs r h;refine Ld (Lc ?_) h;kernel_rfl
abbrev Zb0:P3:=⟨486,[Zy,Y6,.bool],[Zy],u3 KU⟩
def Znd:bQ qA glob Zb0:=by
 refine bQ.of (e:=Zb0) (C:=Dd [] [YY,MD,OM,zG,QZ,wy,OJ,qM,VS] [] [] []) (IA rfl (sV ay rX WA yr zQ rV VY Zie xF) Q6 Ze Q7) rfl Tryz.func486 (c:=Yh Tryz.f486) rfl Tryz.call486 Ah
  ((sJ (.join [pV 2 .bool,lP 3 sD,wB 4 sD,lP 6 sC,lP 7 sC,.ptr 8 7 [2],pV 9 tI] (λv=>ym v.1 v.2.1 v.2.2.1 v.2.2.2.1 v.2.2.2.2.1 v.2.2.2.2.2.1) sA (.join [pV 2 .bool,lP 3 sD,wB 4 sD,lP 6 sC,lP 7 sC,pV 9 tI] (λv=>iT v.1 v.2.1 v.2.2.1 v.2.2.2.1 v.2.2.2.2.1 v.2.2.2.2.2.1) (sG (.cond (sG (.block (.loop [pV 2 .bool,lP 3 sD,wB 4 sD,lP 6 sC,lP 7 sC,.ptr 8 7 [2],pV 9 tI,tX 42 sC,pV 43 tI,pV 44 tI] (λN v=>iU N v.1 v.2.1 v.2.2.1 v.2.2.2.1 v.2.2.2.2.1 v.2.2.2.2.2.1 v.2.2.2.2.2.2.1 v.2.2.2.2.2.2.2.1 v.2.2.2.2.2.2.2.2.1) (λv=>Qij v.1 v.2.1 v.2.2.1 v.2.2.2.1 v.2.2.2.2.1 v.2.2.2.2.2.1 v.2.2.2.2.2.2.1 v.2.2.2.2.2.2.2.1 v.2.2.2.2.2.2.2.2.1) (λK1=>sA)))) sA)) (.join [pV 2 .bool,lP 6 sC,lP 7 (sE (.p sC (.p sC (.p sC (.p sC sD)))))] (λv=>oH v.1 v.2.1 v.2.2.1) sA (.join [lP 6 sC,lP 7 (sE (.p sC (.p sC (.p sC (.p sC sD)))))] (λv=>oI v.1 v.2.1) sA sA)))))) ?_ ?_
 ·exact⟨lf,lf,lf,lf,lf,(λv=>Ab),⟨lf,⟨lf,λ_=>rfl,λN=>⟨(λv=>Ab),lf⟩⟩,lf⟩,(λv=>Ab),lf,(λv=>Ab),lf,(λv=>Ab),lf⟩
 ·intro xs r h;obtain⟨a,b,c,u⟩:=xs;cases c
  case true=>(have h2:(none:Option _)=U r:=h;cases h2)
  refine Ld (Lc ?_) h;kernel_rfl
def Zun:okE ⟨378,[Zy,Y6],[Zy],u2 KC⟩:=Sk (sN Znd) Ze func378 call378 sA
def Zrw:TH ⟨242,[.sh Zq,.sh wO],.flg [(Zq,(sE (sE (sE (.p sC sD))))),(.bool,sC)],u2 ZZ⟩:=GU [] (sR Yf fO Zk0 Zun ZF) (Zt Zk1 Ze) func242 call242 (sI (sF [lI 4 sC,lI 6 (sE (sE (sE (.p sC sD)))),pV 23 (.slice 127 Zu),pV 24 tI,pV 25 tI] (λN=>u5 (Jv N)) (u5 j6) (λK1=>(sH (.seq (.block (sG (.join [lI 4 sC,lI 6 (sE (sE (sE (.p sC sD)))),lS 10 sD,pV 23 (.slice 127 Zu),pV 24 tI,pV 25 tI] (u6 (aw K1)) sA sA))) sA))))) ⟨λ_=>rfl,λN=>⟨(λv=>Ab),λv=>Ab⟩⟩
def Zxj:okE ⟨243,[Zq,wO],[Zq,.bool],u2 WW⟩:=Sk (sP Xi az Qc) Ze func243 call243 sA
def Z1a:TH ⟨119,[.sh Zq,.sh Qs],.flg [(Zq,(sE (sE (sE (.p sC sD))))),(.bool,sC)],u2 lj⟩:=GU [] (sR Zm5 Zpg Zr4 Zpj Zxj) (Zt Zul (Zt Zrw Ze)) func119 call119 (sG (.seq (sG (.block (sG (.cond (sG (.frz [(4,(sE (sE (sE (.p sC sD)))))])) (sG (.cond (sG (.frz [(4,(sE (sE (sE (.p sC sD)))))])) (sG (.cond (sG (.frz [(4,(sE (sE (sE (.p sC sD)))))])) (sG (.cond (sG (.frz [(4,(sE (sE (sE (.p sC sD)))))])) sA)))))))))) (sG (.frz [(4,(sE (sE (sE (.p sC sD)))))]))))
def Zrl:TH ⟨42,[.sh Zq,.sh Qs],.flg [(.str,sC),(Zq,sD)],u2 uU⟩:=GU [] (Z3c Vm BT Xi zj Zry ka vP Zpl Zf0 Zfz Zlp) (Zt Zr2 (Zt Zrn (Zt Z1a Ze))) func42 call42 (sG (.seq (.block (sG (.cond (sG (.frz [(5,(sE (sE (sE (sE sC))))),(5,.u S)])) (sG (.cond (sG (.frz [(5,(sE (sE (sE (sE sC))))),(5,.u S)])) sA))))) (.seq (sG (.block (sG (.cond (sH (.frz [(5,(sE (sE (sE (sE sC))))),(5,.u S)])) (sG (.cond (sH (.frz [(5,(sE (sE (sE (sE sC))))),(5,.u S)])) (sG (.cond (sH (.frz [(5,.u S)])) (sG (.cond (sH (.frz [(5,.u S)])) (sG (.cond (sI (.frz [(5,.u S)])) sA)))))))))))) (sH (.frz [(5,.u S)])))))
def Zf8:TH ⟨11,[.sh Zq,.sh (.slice 70 Qs)],.flg [(.slice 9 (.str),sC),(Zq,sD)],u2 rM⟩:=GU [] (sN Xi) (Zt Zrl Ze) func11 call11 (sH (sF [lI 5 sC,wF 6 sC,lI 7 sD,pV 19 (.slice 70 Qs),pV 20 tI,pV 21 tI] (λN=>u6 (j9 N)) (u6 ur) (λK1=>(sH (.seq (.block (sG (.seq (.frz [(7,.u S)]) sA))) sA))))) ⟨λ_=>rfl,λN v=>Ab⟩
def Zr3:TH ⟨9,[.sh (.bool),.sh iv,.sh iv,.sh (.str)],.flg [(.slice 9 (.str),sC),(Zq,sD),(.bool,sC)],u4 kp⟩:=GU [] (sO Z08 Zat) (Zt Zf8 Ze) func9 call9 (sI (.seq (sG (.cond (sG (.frz [(9,.u S)])) sA)) (.seq (.frz [(11,.u S)]) sA)))
def IY:okE ⟨286,[Kq],[Kq],u1 YM⟩:=Sk Zg Ze func286 call286 sA
def Hv:okE ⟨287,[.slice 257 Zx],[.slice 257 Zx],u1 tz⟩:=Sk Zg Ze func287 call287 sA
def iZ:okE ⟨180,[Zy],[Zy],u1 js⟩:=Sk (sO IY Hv) Ze func180 call180 sA
def sX:okE ⟨288,[Xg],[Xg],u1 ua⟩:=Sk Zg Ze func288 call288 sA
def JL:okE ⟨181,[Qo],[Qo],u1 pq⟩:=Sk (sN sX) Ze func181 call181 sA
def BX:okE ⟨91,[Z2],[Z2],u1 ly⟩:=Sk (sO iZ JL) Ze func91 call91 sA
def Zss:okE ⟨92,[.slice 102 Kb],[.slice 102 Kb],u1 QU⟩:=Sk Zg Ze func92 call92 (sH (sF [pV 0 (.slice 102 Kb),wN 3 sC,pV 4 tI] (λN=>u3 (mT N)) (u3 sy) (λK1=>sA))) ⟨λ_=>rfl,λN v=>Ab⟩
def Q9:okE ⟨39,[Zq],[Zq],u1 Qi⟩:=Sk (sO BX Zss) Ze func39 call39 (sI (sF [lI 1 sD,lI 2 sC,lI 3 (sE (sE (sE (.p sC sD)))),pV 4 tI] (λN=>u4 (vu N)) (u4 yI) (λK1=>sA))) ⟨λ_=>rfl,λN v=>Ab⟩
def JH:okE ⟨395,[Kq],[.bool],u1 dv⟩:=Sk (sO Uc Xs) Ze func395 call395 (sH (sF [tY 1 sD,pV 3 tI] (λN=>u2 (mL N)) (u2 bt) (λK1=>sA))) ⟨λ_=>rfl,λN v=>Ab⟩
def AP:okE ⟨416,[Zx],[.bool],u1 By⟩:=Sk Zg Ze func416 call416 sA
def ma:okE ⟨394,[.slice 257 Zx],[.bool],u1 Wk⟩:=Sk (sN AP) Ze func394 call394 (sG (sF [pV 0 (.slice 257 Zx),pV 3 tI] (λN=>u2 (du N)) (u2 fS) (λK1=>sA))) ⟨λ_=>rfl,λN v=>Ab⟩
def l8:okE ⟨296,[.slice 257 Zx,Zx],[.slice 257 Zx],u2 dO⟩:=Sk (sP ma AP Hv) Ze func296 call296 (sJ (sF [pV 0 (.slice 257 Zx),wC 3 sD,tX 5 sC,pV 6 .bool,pV 7 tI] (λN=>u5 (Jf N)) (u5 mY) (λK1=>(sG (.join [pV 0 (.slice 257 Zx),wC 3 sD,tX 5 sC,pV 6 .bool,pV 7 tI] (u5 (dg K1)) (.block (.block (sG (.cond sA (sG (.cond (.join [pV 0 (.slice 257 Zx),wC 3 sD,tX 5 sC,pV 6 .bool,pV 7 tI] (u5 (se K1)) sA sA) sA)))))) sA))))) ⟨λ_=>rfl,λN=>⟨(λv=>Ab),λv=>Ab,λv=>Ab⟩⟩
def Zaw:okE ⟨264,[.slice 257 Zx],[wO],u1 W3⟩:=Sk (sN ma) Ze func264 call264 (sI (sF [pV 0 (.slice 257 Zx),pV 3 tI,pV 4 tI] (λN=>u3 (Vx N)) (u3 fD) (λK1=>sA))) ⟨λ_=>rfl,λN v=>Ab⟩
def Zim:okE ⟨396,[.slice 257 Zx,wO],[wO],u2 qk⟩:=Sk (sN ma) Ze func396 call396 (sH (sF [pV 0 (.slice 257 Zx),pV 1 tI,pV 5 tI] (λN=>u3 (a9 N)) (u3 xk) (λK1=>(sG (.join [pV 0 (.slice 257 Zx),pV 1 tI,pV 5 tI] (u3 (sn K1)) sA sA))))) ⟨λ_=>rfl,λN=>⟨(λv=>Ab),λv=>Ab⟩⟩
def QL:okE ⟨397,[Zy],[wO],u1 eG⟩:=Sk Zg Ze func397 call397 sA
def aZ:okE ⟨265,[Zy],[.bool],u1 Ks⟩:=Sk (sU JH ma Xs Xy l8 Zaw Zim QL) Ze func265 call265 (sJ (.seq (sG (.block (.loop [lP 1 sD,pV 3 (.slice 257 Zx),pV 4 tI] (λN=>u3 (g8 N)) (u3 J7) (λK1=>sA)))) (.seq (sG (.block (.loop [lP 1 sD,pV 3 (.slice 257 Zx),pV 5 tI] (λN=>u3 (g9 N)) (u3 fT) (λK2=>sA)))) (sH (.seq (sG (.block (.loop [lP 1 sD,pV 7 tI] (λN=>u2 (hD N)) (u2 m9) (λK3=>sA)))) (sF [lP 1 sD,pV 8 tI] (λN=>u2 (hQ N)) (u2 na) (λK4=>sA))))))) ⟨⟨λ_=>rfl,λN v=>Ab⟩,⟨λ_=>rfl,λN v=>Ab⟩,⟨λ_=>rfl,λN v=>Ab⟩,λ_=>rfl,λN v=>Ab⟩
def c9:okE ⟨142,[Q4],[.bool],u1 Jd⟩:=Sk (sO Xy Xs) Ze func142 call142 sA
def rZ:okE ⟨268,[Xg],[.bool],u1 lM⟩:=Sk (sN Xy) Ze func268 call268 (sH (sF [tZ 1 sD,pV 3 tI,pV 4 tI] (λN=>u3 (mi N)) (u3 xl) (λK1=>sA))) ⟨λ_=>rfl,λN v=>Ab⟩
def Z7g:okE ⟨398,[Xg],[wO],u1 yC⟩:=Sk (sN rZ) Ze func398 call398 sA
def XM:okE ⟨399,[Xg],[wO],u1 fb⟩:=Sk (sN rZ) Ze func399 call399 sA
def gg:okE ⟨266,[Qo],[.bool],u1 X4⟩:=Sk (sQ rZ Xy Z7g XM) Ze func266 call266 (sI (.seq (sG (.block (sG (.cond sA (sG (.cond sA (sG (.cond sA (sG (.cond sA (.join [wD 1 sD,pV 114 .bool] (u2 K6) sA sA))))))))))) sA)) (λv=>Ab)
def mb:okE ⟨143,[Yr],[.bool],u1 Vr⟩:=Sk (sN Xs) Ze func143 call143 sA
def XL:okE ⟨267,[Yw],[.bool],u1 cv⟩:=Sk (sN Xs) Ze func267 call267 sA
def WD:okE ⟨153,[Z2],[.bool],u1 aU⟩:=Sk (sS Xy aZ c9 gg mb XL) Ze func153 call153 sA
def XJ:okE ⟨141,[.slice 98 Z2],[.bool],u1 Vg⟩:=Sk (sN WD) Ze func141 call141 (sG (sF [pV 0 (.slice 98 Z2),pV 3 tI] (λN=>u2 (K5 N)) (u2 dh) (λK1=>sA))) ⟨λ_=>rfl,λN v=>Ab⟩
def EC:okE ⟨144,[eH],[.bool],u1 iK⟩:=Sk (sN Xs) Ze func144 call144 sA
def QI:okE ⟨145,[Q4],[.bool],u1 bb⟩:=Sk (sN Xs) Ze func145 call145 sA
def Zvf:okE ⟨147,[.slice 127 Zu],[.bool],u1 jn⟩:=Sk (sN ct) Ze func147 call147 (sG (sF [pV 0 (.slice 127 Zu),pV 3 tI] (λN=>u2 (W7 N)) (u2 V9) (λK1=>sA))) ⟨λ_=>rfl,λN v=>Ab⟩
def Zvb:okE ⟨148,[.slice 98 Z2],[wO],u1 jk⟩:=Sk (sN XJ) Ze func148 call148 (sH (sF [pV 0 (.slice 98 Z2),pV 3 tI,pV 4 tI] (λN=>u3 (Vt N)) (u3 Jq) (λK1=>sA))) ⟨λ_=>rfl,λN v=>Ab⟩
def Zu9:okE ⟨149,[.slice 98 Z2],[wO],u1 jj⟩:=Sk (sN XJ) Ze func149 call149 (sH (sF [pV 0 (.slice 98 Z2),pV 3 tI,pV 4 tI] (λN=>u3 (Vs N)) (u3 Jp) (λK1=>sA))) ⟨λ_=>rfl,λN v=>Ab⟩
def Jk:okE ⟨50,[Zq],[.bool],u1 Yd⟩:=Sk (sW RB XJ c9 mb EC QI Xs Zvf Zvb Zu9) Ze func50 call50 (sH (sF [lI 1 sD,pV 3 tI] (λN=>u2 (aM N)) (u2 Vc) (λK1=>sA))) ⟨λ_=>rfl,λN v=>Ab⟩
def zm:okE ⟨93,[Zq],[.bool],u1 iJ⟩:=Sk Zg Ze func93 call93 sA
def Vf:okE ⟨182,[Zq],[.bool],u1 Ka⟩:=Sk (sO Jk zm) Ze func182 call182 sA
def Zx3:okE ⟨183,[eH],[wO,eH,.bool],u1 wn⟩:=Sk (sN EC) Ze func183 call183 sA
def Z5c:okE ⟨184,[wO,.bool,.bool],[wO],u3 tw⟩:=Sk (sN Xs) Ze func184 call184 (sI (.join [pV 2 .bool,pV 7 tI] (u2 mN) sA sA)) (λv=>Ab)
def Z3f:okE ⟨289,[],[Yw],λ_=>dl⟩:=Sk Zg Ze func289 call289 sA
def Zp0:okE ⟨290,[],[Qo],λ_=>zq⟩:=Sk Zg Ze func290 call290 sA
def QJ:okE ⟨412,[wO],[.bool],u1 bd⟩:=Sk (sN Xy) Ze func412 call412 sA
def Zsj:okE ⟨501,[wO],[.bool],u1 vp⟩:=Sk (sN Xy) Ze func501 call501 sA
def SR:okE ⟨413,[.bool,wO],[.bool],u2 kt⟩:=Sk (sO Xy Zsj) Ze func413 call413 sA
def JD:okE ⟨291,[.bool,wO],[.bool],u2 Wf⟩:=Sk (sP Xy QJ SR) Ze func291 call291 sA
def oO:okE ⟨292,[.bool,wO],[.bool],u2 Y9⟩:=Sk (sP Xy QJ SR) Ze func292 call292 sA
def Z1f:okE ⟨414,[wO],[Kq,.bool],u1 E6⟩:=Sk (sN Uc) Ze func414 call414 sA
def Zu6:okE ⟨293,[wO],[Zy,.bool],u1 mP⟩:=Sk (sN Z1f) Ze func293 call293 sA
def Zge:okE ⟨185,[.bool,wO,iv,iv],[Z2,.bool],u4 ca⟩:=Sk (sV Xy RB Z3f Zp0 JD oO Zu6 Zgd Zgf) Ze func185 call185 sA
def XK:okE ⟨294,[.slice 98 Z2,wO],[wO],u2 Kf⟩:=Sk Zg Ze func294 call294 (sG (sF [pV 0 (.slice 98 Z2),pV 1 tI,pV 5 tI] (λN=>u3 (Kg N)) (u3 Jc) (λK1=>sA))) ⟨λ_=>rfl,λN v=>Ab⟩
def Ku:okE ⟨186,[.slice 98 Z2,Z2],[.slice 98 Z2],u2 Xn⟩:=Sk (sO XK BX) Ze func186 call186 (sJ (sF [pV 0 (.slice 98 Z2),wA 3 sD,wM 5 sC,pV 6 tI,pV 7 .bool,pV 8 tI] (λN=>u6 (Yt N)) (u6 bg) (λK1=>(sG (.seq (.block (sG (.join [pV 0 (.slice 98 Z2),wA 3 sD,wM 5 sC,pV 6 tI,pV 7 .bool,pV 8 tI,wA 9 sC] (u7 (Jo K1)) sA sA))) sA))))) ⟨λ_=>rfl,λN=>⟨(λv=>Ab),λv=>Ab⟩⟩
def Zeb:okE ⟨94,[Zq,.bool],[wO,Zq,.bool],u2 cw⟩:=Sk (sS Q9 Vf Zx3 Z5c Zge Ku) Ze func94 call94 (sJ (.join [pV 1 .bool,lI 2 sD,lI 5 sC,lI 7 sC,.box 8 32 eH sD] (u5 V6) sA (sG (.join [pV 1 .bool,lI 2 sD,lI 5 sC,lI 7 (sE (sE (sE (.p sC (sE (sE (sE (sE sC)))))))),pV 9 tI,pV 11 .bool] (u6 V7) sA sA)))) ⟨(λv=>Ab),λv=>Ab⟩
def Yg:okE ⟨187,[Zq,wO],[Z2,.bool],u2 X8⟩:=Sk (sO XK BX) Ze func187 call187 sA
def Z5d:okE ⟨415,[Kq],[wO],u1 yF⟩:=Sk (sN JH) Ze func415 call415 sA
def Zve:okE ⟨295,[Kq,.str],[Kq,wO],u2 jl⟩:=Sk (sO IY Z5d) Ze func295 call295 (sI (sF [pV 1 .str,tY 2 sD,tY 4 sC,tY 6 sC,pV 7 tI,pV 8 tI] (λN=>u6 (Jr N)) (u6 lx) (λK1=>sA))) ⟨λ_=>rfl,λN v=>Ab⟩
def Zp3:okE ⟨188,[Zy,.str],[Zy,wO],u2 dC⟩:=Sk (sQ iZ aZ Zve l8) Ze func188 call188 (sJ (.join [lP 4 sC,lP 6 (sE sC),tY 7 sC,pV 8 tI] (u4 kT) sA sA)) (λv=>Ab)
def Zcd:okE ⟨95,[Zq,wO,.str],[wO,Zq],u3 bh⟩:=Sk (sR Q9 Yg Vf Zp3 Ku) Ze func95 call95 sA
def Zpo:okE ⟨189,[Zy],[Zy,.bool],u1 md⟩:=Sk (sO iZ aZ) Ze func189 call189 sA
def Zaz:okE ⟨96,[Zq,wO],[Zq,.bool],u2 ea⟩:=Sk (sR Q9 Yg Vf Zpo Ku) Ze func96 call96 sA
def Zvc:okE ⟨297,[Xg,wO],[.str,Xg],u2 sx⟩:=Sk (sO XM sX) Ze func297 call297 (sL (.seq (sG (.cond (.seq (.frz [(7,.u S)]) sA) sA)) sA))
def Znn:TH ⟨190,[.sh Qo,.sh wO],.shr [.str,Qo],u2 bJ⟩:=GU [] (sP JL gg Zvc) Ze func190 call190 (sH (.seq (sG (.cond (sG (.frz [(5,.u S)])) sA)) (.seq (sG (.cond (sH (.frz [(5,.u S)])) sA)) (sG (.seq (.frz [(8,.u S)]) (.join [wD 5 sC,wD 6 sD,pV 7 .str] (u3 ji) sA sA)))))) (λv=>Ab)
def Zu8:okE ⟨298,[Yr,wO],[Yr,.bool],u2 mR⟩:=Sk (sN mb) Ze func298 call298 sA
def Zk4:TH ⟨191,[.bx 37 Zq sD,.bx 98 Z2 sD,.sh wO],.vals [],u3 uM⟩:=GU [0,1] (sN Zu8) Ze func191 call191 sA
def Zsi:okE ⟨502,[Z2],[.bool],u1 QP⟩:=Sk Zg Ze func502 call502 sA
def Zsg:okE ⟨543,[Qo],[.bool],u1 vn⟩:=Sk (sN gg) Ze func543 call543 sA
def Zsh:okE ⟨503,[Z2],[.bool],u1 vo⟩:=Sk (sN Zsg) Ze func503 call503 sA
def Z5b:okE ⟨417,[Z2],[.bool],u1 yE⟩:=Sk (sP WD Zsi Zsh) Ze func417 call417 sA
def Zxx:okE ⟨418,[Q4],[Q4,.bool],u1 iG⟩:=Sk (sN QI) Ze func418 call418 sA
def Z1i:TH ⟨299,[.bx 37 Zq sD,.bx 98 Z2 sD],.vals [],u2 JX⟩:=GU [0,1] (sQ SR Z5b QJ Zxx) Ze func299 call299 sA
def nL:TH ⟨192,[.bx 37 Zq sD,.sh Z2],.vals [],u2 cz⟩:=GU [0] (sN Ku) (Zt Z1i Ze) func192 call192 sA
def Zee:TH ⟨97,[.sh Zq,.sh wO,.sh wO],.flg [(.str,sC),(.bool,sC),(Zq,sD)],u3 kx⟩:=GU [] (sP Q9 Yg Vf) (Zt Znn (Zt Zk4 (Zt nL Ze))) func97 call97 (sI (.seq (sG (.cond (sG (.frz [(8,.u S)])) sA)) (.seq (.frz [(10,.u S)]) (sG (.join [lI 8 sC,lI 9 (.p sC (.p (.p sC (.p sC (.p sC (.p sC (.p sC (.p sC (.p sC (.p sC sC)))))))) (.p (.p sC (.p sC (.p sC (.p sC (.p sC (.p sC (.p sC (.p sC sC)))))))) (sE (.p (.p sC (.p sC (.p sC (.p sC sC)))) (.p (.p sC (.p sC (.p sC (.p sC (.p sC (.p sC sC)))))) (.p (.p sC (.p sC (.p sC sC))) (.p (.p sC (.p sC (.p sC sC))) (.p (.p sC (.p sC (.p sC (.p sC sC)))) (.p (.p sC (.p sC (.p sC (.p sC sC)))) (.p sC (.p sC (.p sC (.p sC (.p sC (sE (.p sC (.p sC sC)))))))))))))))))),wA 10 sD,pV 12 .str,wD 13 sD] (u5 cO) (sG (.cond (.frz [(9,.u S)]) sA)) sA))))) (λv=>Ab)
def Zca:okE ⟨193,[Zy,wO],[Zy,.bool],u2 dB⟩:=Sk (sP aZ Xy iZ) Ze func193 call193 (sH (.join [pV 1 tI,lP 2 sD,lP 4 sC,tY 6 (sE (sE (sE (.p sC sD))))] (u4 zV) sA sA)) (λv=>Ab)
def Zcb:TH ⟨98,[.sh Zq,.sh wO,.sh wO],.flg [(Zq,sD),(.bool,sC)],u3 ij⟩:=GU [] (sQ Q9 Yg Vf Zca) (Zt nL Ze) func98 call98 (sI (.seq (sG (.cond (sG (.frz [(6,.u S)])) sA)) (sG (.seq (sG (.cond (sG (.frz [(6,.u S)])) sA)) (sH (.seq (.frz [(8,.u S),(9,.u S)]) sA))))))
def Zsq:okE ⟨99,[Zq,wO,wO],[Zq,.bool],u3 nX⟩:=Sk (sR Q9 Yg Vf Xy Ku) Ze func99 call99 sA
def Znp:okE ⟨59,[.str,.int .u8],[.slice 9 (.str)],u2 yH⟩:=Sk Zg Ze func59 call59 (sI (sF [pV 0 .str,pV 1 (.int .u8),wF 5 sC,pV 6 .str,pV 7 tI] (λN=>u5 (eA N)) (u5 rm) (λK1=>(sG (.join [pV 0 .str,pV 1 (.int .u8),wF 5 sC,pV 6 .str,pV 7 tI] (u5 (mS K1)) sA sA))))) ⟨λ_=>rfl,λN=>⟨(λv=>Ab),λv=>Ab⟩⟩
def Z1g:okE ⟨300,[.str],[.str],u1 zr⟩:=Sk Zg Ze func300 call300 (sG (.seq (.block (.loop [pV 0 .str] (λN=>u1 (fc N)) (u1 pe) (λK1=>sA))) (.seq (.block (.loop [pV 0 .str] (λN=>u1 (ky N)) (u1 jm) (λK2=>sA))) sA))) ⟨⟨λ_=>rfl,λN v=>Ab⟩,λ_=>rfl,λN v=>Ab⟩
def Zly:okE ⟨194,[Yw,.str],[Yw],u2 ia⟩:=Sk (sQ XL Z3f Znp Z1g) Ze func194 call194 (sG (.join [pV 1 .str,wI 2 sD,wI 4 sD] (u3 Wy) sA (sG (sF [wI 2 sD,wI 4 sD,wF 5 sC,pV 6 tI] (λN=>u4 (Yq N)) (u4 mO) (λK1=>(sG (.join [wI 2 sD,wI 4 sD,wF 5 sC,pV 6 tI] (u4 (J8 K1)) sA sA))))))) ⟨(λv=>Ab),λ_=>rfl,λN=>⟨(λv=>Ab),λv=>Ab⟩⟩
def Zcc:okE ⟨100,[Zq,wO,.str],[Zq,.bool],u3 io⟩:=Sk (sR Q9 Yg Vf Zly Ku) Ze func100 call100 sA
def JI:okE ⟨419,[Yr],[.bool],u1 aN⟩:=Sk (sN mb) Ze func419 call419 sA
def Zb9:okE ⟨420,[Yr,wO,wO],[Yr,.bool],u3 Wl⟩:=Sk (sO JI Xs) Ze func420 call420 (sH (.join [pV 1 tI,.box 3 30 Yr sD,.box 6 30 Yr sD] (u3 kQ) sA sA)) (λv=>Ab)
def Zis:okE ⟨301,[Zq],[Yr,.bool],u1 lR⟩:=Sk (sO JI Zb9) Ze func301 call301 sA
def Zgc:okE ⟨421,[Q4],[.bool],u1 bY⟩:=Sk (sN QI) Ze func421 call421 sA
def Zsn:okE ⟨422,[Q4],[Q4,.bool],u1 cx⟩:=Sk (sN Zgc) Ze func422 call422 sA
def Zir:okE ⟨302,[Q4,.bool],[Q4,.bool],u2 ce⟩:=Sk (sO Zgc Zsn) Ze func302 call302 sA
def Zgh:okE ⟨423,[Zq,Z2],[Yr,.bool],u2 jq⟩:=Sk (sO JI Zb9) Ze func423 call423 sA
def Zio:okE ⟨304,[Q4],[.bool],u1 qm⟩:=Sk (sN c9) Ze func304 call304 sA
def Zvh:okE ⟨303,[Zq,Z2],[.slice 127 Zu],u2 jp⟩:=Sk (sO Zgh Zio) Ze func303 call303 (sH (.join [lI 2 sD,wA 3 sD,pZ 5 sC] (u3 W8) sA (.join [lI 2 sD,wA 3 sD,pZ 5 sC] (u3 W9) sA (sG (.join [wA 3 sD,pZ 5 sC] (u2 eD) sA sA))))) ⟨(λv=>Ab),(λv=>Ab),λv=>Ab⟩
def Zlu:okE ⟨195,[Zq],[.slice 127 Zu],u1 aF⟩:=Sk (sR Vf Zis Zir Zvh Zio) Ze func195 call195 (sJ (.join [lI 1 sD,pZ 3 sC] (u2 K7) sA (sG (.join [lI 1 sD,pZ 3 sC] (u2 K8) sA (sG (.join [lI 1 sD,pZ 3 sC] (u2 K9) sA (.seq (sG (.block (.loop [lI 1 sD,pZ 3 sC,pV 10 tI] (λN=>u3 (Ja N)) (u3 aG) (λK1=>sA)))) (.join [lI 1 sD,pZ 3 sC] (u2 Wv) sA (.join [lI 1 sD,pZ 3 sC] (u2 Ww) sA sA))))))))) ⟨(λv=>Ab),(λv=>Ab),(λv=>Ab),⟨λ_=>rfl,λN v=>Ab⟩,(λv=>Ab),λv=>Ab⟩
def JG:okE ⟨196,[Zu],[wO],u1 ee⟩:=Sk (sN zR) Ze func196 call196 sA
def Zav:okE ⟨305,[Q4],[Q4],u1 bG⟩:=Sk (sN c9) Ze func305 call305 sA
def Z1l:TH ⟨306,[.sh Zq,.sh Z2,.sh wO],.shr [Z2],u3 zt⟩:=GU [] (sO Zgh Zav) Ze func306 call306 sA
def Zpz:okE ⟨197,[Zq,Zu],[Zq],u2 mj⟩:=Sk (sT Q9 Jk Zis Zir Zav Yg Ku) (Zt Z1l Ze) func197 call197 (sI (.seq (sG (.block (sG (.cond sA (sG (.cond sA (sG (.cond sA (sG (.cond sA (sH (.cond (.frz [(12,.u S)]) sA)))))))))))) sA))
def Zst:okE ⟨307,[Zq],[.slice 311 Qt],u1 nY⟩:=Sk Zg Ze func307 call307 (sH (sF [lI 1 sD,wJ 3 sC,pV 4 tI] (λN=>u3 (Wa N)) (u3 kj) (λK1=>(sG (.join [lI 1 sD,wJ 3 sC,pV 4 tI] (u3 (ip K1)) sA sA))))) ⟨λ_=>rfl,λN=>⟨(λv=>Ab),λv=>Ab⟩⟩
def Zsu:okE ⟨308,[.slice 311 Qt,wO],[.slice 311 Qt],u2 nZ⟩:=Sk Zg Ze func308 call308 (sH (sF [pV 0 (.slice 311 Qt),pV 1 tI,wJ 5 sC,pV 6 tI] (λN=>u4 (Wb N)) (u4 kl) (λK1=>(sG (.join [pV 0 (.slice 311 Qt),pV 1 tI,wJ 5 sC,pV 6 tI] (u4 (iq K1)) sA sA))))) ⟨λ_=>rfl,λN=>⟨(λv=>Ab),λv=>Ab⟩⟩
def Zls:okE ⟨504,[.slice 311 Qt],[.bool],u1 gt⟩:=Sk (sO Xy XL) Ze func504 call504 (sG (sF [pV 0 (.slice 311 Qt),pV 3 tI] (λN=>u2 (J5 N)) (u2 aC) (λK1=>sA))) ⟨λ_=>rfl,λN v=>Ab⟩
def Zsk:okE ⟨424,[.slice 311 Qt],[.slice 3 wO],u1 nV⟩:=Sk (sN Zls) Ze func424 call424 (sI (sF [pV 0 (.slice 311 Qt),wE 3 sC,pV 4 tI,pV 5 tI] (λN=>u4 (Ki N)) (u4 ah) (λK1=>(sG (.join [pV 0 (.slice 311 Qt),wE 3 sC,pV 4 tI,pV 5 tI] (u4 (ib K1)) (.block (.join [pV 0 (.slice 311 Qt),wE 3 sC,pV 4 tI,pV 5 tI] (u4 (ic K1)) sA sA)) sA))))) ⟨λ_=>rfl,λN=>⟨(λv=>Ab),λv=>Ab,λv=>Ab⟩⟩
def Zyc:okE ⟨425,[.slice 3 wO,wO],[wO],u2 wr⟩:=Sk Zg Ze func425 call425 (sG (sF [pV 0 (.slice 3 wO),pV 1 tI,pV 5 tI] (λN=>u3 (dD N)) (u3 fV) (λK1=>sA))) ⟨λ_=>rfl,λN v=>Ab⟩
def Zsl:okE ⟨309,[.slice 311 Qt,wO],[wO],u2 nW⟩:=Sk (sO Zsk Zyc) Ze func309 call309 (sI (sF [pV 0 (.slice 311 Qt),pV 1 tI,wE 5 sC,wE 6 sC,pV 7 tI] (λN=>u5 (Kj N)) (u5 dx) (λK1=>(sG (.seq (.block (sG (.block (.loop [pV 0 (.slice 311 Qt),pV 1 tI,wE 5 sC,wE 6 sC,pV 7 tI,pV 8 tI] (λN=>u6 (Jy K1 N)) (u6 dy) (λK2=>(sG (.join [pV 0 (.slice 311 Qt),pV 1 tI,wE 5 sC,wE 6 sC,pV 7 tI,pV 8 tI] (u6 (ie K1 K2)) sA sA))))))) sA))))) ⟨λ_=>rfl,λN=>⟨(λv=>Ab),λ_=>rfl,λN=>⟨(λv=>Ab),λv=>Ab⟩⟩⟩
def Zd6:okE ⟨150,[Q4],[wO],u1 aT⟩:=Sk (sN c9) Ze func150 call150 sA
def Zx6:okE ⟨505,[Kq,wO,wO],[.str,.bool],u3 lN⟩:=Sk (sO JH Px) Ze func505 call505 (sI (sF [pV 1 tI,pV 2 tI,tY 3 sD,pV 8 .str,pV 9 tI] (λN=>u5 (ii N)) (u5 fU) (λK1=>sA))) ⟨λ_=>rfl,λN v=>Ab⟩
def Zu7:okE ⟨426,[Zy,wO,wO],[Y6,.bool],u3 sq⟩:=Sk (sO aZ Zx6) Ze func426 call426 (sI (.seq (sG (.cond (sI (.join [lP 3 sD,wB 6 sD,wB 8 sD,wC 9 sD,pV 10 tI] (u5 ep) sA sA)) sA)) sA)) (λv=>Ab)
def Zec:okE ⟨313,[wO,Y6],[Zu],u2 vr⟩:=Sk Zg Ze func313 call313 sA
def Zx7:okE ⟨310,[Zq,wO,wO],[Y6,.bool],u3 wq⟩:=Sk (sS Yg Jk Zd6 Zu7 Zec JG) Ze func310 call310 (sJ (sF [pV 1 tI,pV 2 tI,wB 6 sD,wA 8 sC,pV 10 tI,pV 11 tI] (λN=>u6 (dA N)) (u6 nf) (λK1=>sA))) ⟨λ_=>rfl,λN v=>Ab⟩
def Zp1:okE ⟨427,[Q4],[Q4],u1 dz⟩:=Sk (sN c9) Ze func427 call427 sA
def Zye:TH ⟨311,[.bx 37 Zq sC,.sh wO],.vals [],u2 wt⟩:=GU [0] (sP Yg Zp1 Ku) Ze func311 call311 sA
def Cw:okE ⟨430,[Zy,Y6],[.bool],u2 zx⟩:=Sk Zg Ze func430 call430 sA
def DT:okE ⟨432,[Y6],[Zx],u1 lC⟩:=Sk Zg Ze func432 call432 sA
def yt:okE ⟨431,[.slice 257 Zx,.slice 257 Zx],[.slice 257 Zx],u2 d7⟩:=Sk (sN ma) Ze func431 call431 (sH (sF [pV 0 (.slice 257 Zx),pV 1 (.slice 257 Zx),tX 5 sC,pV 6 tI] (λN=>u4 (aE N)) (u4 fB) (λK1=>(sG (.seq (.block (sG (.block (.loop [pV 0 (.slice 257 Zx),pV 1 (.slice 257 Zx),tX 5 sC,pV 6 tI,pV 7 tI] (λN=>u5 (di K1 N)) (u5 fC) (λK2=>(sG (.join [pV 0 (.slice 257 Zx),pV 1 (.slice 257 Zx),tX 5 sC,pV 6 tI,pV 7 tI] (u5 (o0 K1 K2)) (.block (.join [pV 0 (.slice 257 Zx),pV 1 (.slice 257 Zx),tX 5 sC,pV 6 tI,pV 7 tI,wC 8 sD] (u6 (yB K1 K2)) sA sA)) sA))))))) sA))))) ⟨λ_=>rfl,λN=>⟨(λv=>Ab),λ_=>rfl,λN=>⟨(λv=>Ab),λv=>Ab,λv=>Ab⟩⟩⟩
def zS:okE ⟨433,[.slice 257 Zx,Zx],[.slice 257 Zx],u2 mm⟩:=Sk (sP ma AP Hv) Ze func433 call433 (sI (sF [pV 0 (.slice 257 Zx),wC 3 sD,tX 5 sC,pV 6 tI] (λN=>u4 (Ws N)) (u4 iL) (λK1=>(sG (.join [pV 0 (.slice 257 Zx),wC 3 sD,tX 5 sC,pV 6 tI] (u4 (rl K1)) (.block (.join [pV 0 (.slice 257 Zx),wC 3 sD,tX 5 sC,pV 6 tI] (u4 (kS K1)) sA sA)) sA))))) ⟨λ_=>rfl,λN=>⟨(λv=>Ab),λv=>Ab,λv=>Ab⟩⟩
def Zva:okE ⟨428,[Zy,Y6],[Zy,.bool],u2 sw⟩:=Sk (sU iZ aZ Cw DT yt zS l8 QL) Ze func428 call428 (sI (.join [wB 3 sD,lP 4 sC,lP 6 (sE (.p sC (.p sC (.p sC (.p sC sD)))))] (u3 ey) sA (.join [lP 4 sC,lP 6 (sE (.p sC (.p sC (.p sC (.p sC sD)))))] (u2 ki) sA sA))) ⟨(λv=>Ab),λv=>Ab⟩
def Zvd:okE ⟨429,[Q4,wO],[Q4,.bool],u2 ez⟩:=Sk (sN c9) Ze func429 call429 sA
def Zu5:okE ⟨312,[Zq,wO,Y6],[Zq,.bool],u3 so⟩:=Sk (sS Q9 Yg Jk Zva Zvd Ku) Ze func312 call312 sA
def Z1m:TH ⟨198,[.bx 37 Zq sC,.mv (.slice 127 Zu) sC,.sh wO],.vals [.slice 127 Zu],u3 zu⟩:=GU [0] (sT Zst Zsu Zsl Zx7 Zu5 Zec JG) (Zt Zye Ze) func198 call198 (sH (sF [lI 0 sC,pZ 1 sC,pV 2 tI,wE 7 sC,pV 8 tI] (λN=>u5 (Vh N)) (u5 pi) (λK1=>(sG (.join [lI 0 sC,pZ 1 sC,pV 2 tI,wE 7 sC,pV 8 tI] (u5 (kz K1)) (.block (sG (.seq (sG (.block (.loop [lI 0 sC,pZ 1 sC,pV 2 tI,wE 7 sC,pV 8 tI,wJ 9 sC,pV 10 tI] (λN=>u7 (kA K1 N)) (u7 pj) (λK2=>sA)))) (sJ (.join [lI 0 sC,pZ 1 sC,pV 2 tI,wE 7 sC,pV 8 tI,pV 11 tI,wB 12 sD,lI 14 sC,pV 15 .bool] (u9 (vw K1)) sA sA))))) sA))))) ⟨λ_=>rfl,λN=>⟨(λv=>Ab),⟨⟨λ_=>rfl,λN v=>Ab⟩,λv=>Ab⟩,λv=>Ab⟩⟩
def Zlw:okE ⟨199,[.slice 127 Zu],[.str],u1 cL⟩:=Sk (sN zR) Ze func199 call199 (sH (sF [pV 0 (.slice 127 Zu),pV 3 .str,pV 4 tI] (λN=>u3 (Yp N)) (u3 d8) (λK1=>sA))) ⟨λ_=>rfl,λN v=>Ab⟩
def Zd8:TH ⟨101,[.sh Zq,.sh wO],.flg [(.str,sC),(wO,sC),(Zq,(sE (sE (sE (.p sC sD)))))],u2 kr⟩:=GU [] (sT Q9 Vf Xs Zlu JG Zpz Zlw) (Zt Z1m Ze) func101 call101 (sH (.seq (sG (.cond (sG (.frz [(6,(sE (sE (sE (.p sC sD)))))])) sA)) (sI (.seq (sG (.block (.loop [lI 2 sD,lI 6 sC,lI 7 sC,pZ 8 sC,pV 9 tI,pZ 10 sC,pV 11 tI] (λN=>u7 (Ke N)) (u7 dm) (λK1=>(sG (.join [lI 2 sD,lI 6 sC,lI 7 sC,pZ 8 sC,pV 9 tI,pZ 10 sC,pV 11 tI] (u7 (gv K1)) sA sA)))))) (sG (.seq (sG (.cond (sG (.frz [(6,(sE (sE (sE (.p sC sD)))))])) sA)) (.seq (.frz [(8,.u S)]) (sH (.frz [(6,(sE (sE (sE (.p sC sD)))))]))))))))) ⟨λ_=>rfl,λN=>⟨(λv=>Ab),λv=>Ab⟩⟩
def Zip:okE ⟨200,[Zq,wO],[Kb,.bool],u2 qn⟩:=Sk Zg Ze func200 call200 (sG (sF [pV 1 tI,lI 2 sD,.box 4 102 Kb sC,pV 6 tI] (λN=>u4 (ig N)) (u4 nc) (λK1=>sA))) ⟨λ_=>rfl,λN v=>Ab⟩
def Zk6:TH ⟨201,[.bx 37 Zq sD,.sh wO],.vals [],u2 uO⟩:=GU [0] Zg Ze func201 call201 (sG (sF [lI 0 sD,pV 1 tI,wN 4 (.p sC sD),pV 5 tI] (λN=>u4 (cA N)) (u4 pl) (λK1=>(sG (.join [lI 0 sD,pV 1 tI,wN 4 (.p sC sD),pV 5 tI] (u4 (oa K1)) sA sA))))) ⟨λ_=>rfl,λN=>⟨(λv=>Ab),λv=>Ab⟩⟩
def Zit:okE ⟨315,[Zu],[Y6],u1 ZQ⟩:=Sk Zg Ze func315 call315 sA
def Zxz:okE ⟨434,[Kq,wO],[Kq,.bool],u2 qh⟩:=Sk (sO IY JH) Ze func434 call434 (sI (sF [pV 1 tI,tY 2 sD,tY 4 sC,tY 6 sC,pV 7 tI] (λN=>u5 (gu N)) (u5 m7) (λK1=>sA))) ⟨λ_=>rfl,λN v=>Ab⟩
def Zxv:okE ⟨314,[Zy,Y6],[Zy],u2 qf⟩:=Sk (sW iZ aZ Cw DT yt zS l8 Zim Zxz QL) Ze func314 call314 (sI (.join [lP 2 sD,wB 3 sD,lP 4 sC,lP 5 sC] (u4 gj) (sG (.cond (sH (.block (.loop [lP 2 sD,wB 3 sD,lP 4 sC,lP 5 sC,tX 6 sC,pV 7 tI] (λN=>u6 (gq N)) (u6 mX) (λK1=>sA)))) sA)) (.join [lP 2 sD,lP 4 sC,lP 5 (sE (.p sC (.p sC (.p sC (.p sC sD)))))] (u3 gn) sA (.join [lP 4 sC,lP 5 (sE (.p sC (.p sC (.p sC (.p sC sD))))),tY 8 sC] (u3 sd) sA sA)))) ⟨⟨λ_=>rfl,λN v=>Ab⟩,(λv=>Ab),(λv=>Ab),λv=>Ab⟩
def Zxw:okE ⟨316,[Zy],[Zy,.bool],u1 lL⟩:=Sk (sO iZ aZ) Ze func316 call316 sA
def Z5g:TH ⟨202,[.bx 37 Zq sD,.sh Zu],.vals [],u2 YK⟩:=GU [0] (sR Yg xg Zit Zxv Zxw) (Zt nL Ze) func202 call202 (sG (.join [lI 0 sD,lS 3 sD,wA 4 sC,pV 5 .bool] (u4 yO) sA (sG (.join [lI 0 sD,wA 4 (sE (.p sC (sE (.p sC sD))))] (u2 cg) sA (.frz [(4,.u S)]))))) ⟨(λv=>Ab),λv=>Ab⟩
def Zga:TH ⟨102,[.sh Zq,.sh wO],.flg [(Zq,sD),(.bool,sC)],u2 mG⟩:=GU [] (sP Q9 Zip Vf) (Zt Zk6 (Zt Z5g Ze)) func102 call102 (sI (.seq (sG (.cond (sG (.frz [(4,.u S)])) sA)) (.seq (.frz [(6,.u S)]) (sF [lI 4 sC,lI 6 sD,.box 7 102 Kb sC,pV 9 tI] (λN=>u4 (dZ N)) (u4 d6) (λK1=>sA))))) ⟨λ_=>rfl,λN v=>Ab⟩
def Zu4:okE ⟨317,[Zy,Y6],[Zy],u2 mM⟩:=Sk (sU iZ aZ Cw DT yt zS l8 QL) Ze func317 call317 (sI (.join [lP 2 sD,wB 3 sD,lP 4 sC,lP 5 sC] (u4 ef) (sG (.cond (sH (.block (.loop [lP 2 sD,wB 3 sD,lP 4 sC,lP 5 sC,tX 6 sC,pV 7 tI] (λN=>u6 (eg N)) (u6 lw) (λK1=>sA)))) sA)) (.join [lP 4 sC,lP 5 (sE (.p sC (.p sC (.p sC (.p sC sD)))))] (u2 kh) sA sA))) ⟨⟨λ_=>rfl,λN v=>Ab⟩,(λv=>Ab),λv=>Ab⟩
def Z1o:TH ⟨203,[.bx 37 Zq sD,.sh Zu],.vals [],u2 zw⟩:=GU [0] (sR Yg xg Zit Zu4 Ku) Ze func203 call203 (sH (.join [lI 0 sD,lS 3 sD,wA 4 sC,pV 5 .bool] (u4 v6) sA (sG (.join [lI 0 sD,wA 4 (sE (.p sC (sE (.p sC sD))))] (u2 aV) sA sA)))) ⟨(λv=>Ab),λv=>Ab⟩
def Zea:TH ⟨103,[.sh Zq,.sh wO],.flg [(Zq,sD),(.bool,sC)],u2 ku⟩:=GU [] (sP Q9 Zip Vf) (Zt Zk6 (Zt Z1o Ze)) func103 call103 (sI (.seq (sG (.cond (sG (.frz [(4,.u S)])) sA)) (.seq (.frz [(6,.u S)]) (sF [lI 4 sC,lI 6 sD,.box 7 102 Kb sC,pV 9 tI] (λN=>u4 (cN N)) (u4 dw) (λK1=>sA))))) ⟨λ_=>rfl,λN v=>Ab⟩
def Zd7:okE ⟨506,[.str,wO],[wO,wO,.bool],u2 Yc⟩:=Sk Zg Ze func506 call506 (sK (sF [pV 0 .str,pV 1 tI,pV 7 tI,pV 8 tI,pV 9 tI] (λN=>u5 (cK N)) (u5 sg) (λK1=>sA))) ⟨λ_=>rfl,λN v=>Ab⟩
def Zns:okE ⟨436,[.str,wO,wO],[.slice 3 wO,wO,.bool],u3 dF⟩:=Sk (sN Zd7) Ze func436 call436 (sH (sF [pV 0 .str,pV 1 tI,pV 2 tI,wE 9 sC,pV 10 tI] (λN=>u5 (eE N)) (u5 eV) (λK1=>sA))) ⟨λ_=>rfl,λN v=>Ab⟩
def Zyg:okE ⟨435,[.str,wO,wO],[Zu,wO,.bool],u3 qt⟩:=Sk (sP Zns Zd7 ct) Ze func435 call435 (sI (.join [pV 0 .str,pV 1 tI,pV 2 tI,lS 6 sD,lS 9 sD,pV 10 tI] (u6 mo) sA (sI (.join [pV 0 .str,pV 2 tI,lS 6 sD,lS 9 sD,pV 12 tI] (u5 it) sA (sG (.join [pV 0 .str,lS 6 sD,lS 9 sD,pV 12 tI,pV 14 tI] (u5 iu) sA sA)))))) ⟨(λv=>Ab),(λv=>Ab),λv=>Ab⟩
def Zpp:okE ⟨318,[.str,wO],[Zu,wO,.bool],u2 me⟩:=Sk (sP Zyg Zns ct) Ze func318 call318 (sL (.join [pV 0 .str,pV 1 tI,lS 4 sD,lS 11 sD,pV 12 tI] (u5 Va) (sG (.block (sG (.cond sA (.join [pV 0 .str,pV 1 tI,lS 4 sD,pV 7 tI,lS 11 sD,pV 12 tI,pV 55 tI,pV 58 .bool] (u8 bq) sA (.cond sA (.join [pV 0 .str,pV 1 tI,lS 4 sD,pV 7 tI,lS 11 sD,pV 12 tI,pV 62 .bool] (u7 eO) sA sA))))))) (sG (.join [lS 4 sD,lS 11 sD,pV 14 tI,pV 15 .bool] (u4 Y0) (sG (.block (sG (.cond sA (sG (.cond sA (.join [lS 4 sD,lS 11 sD,wE 13 sC,pV 14 tI,pV 15 .bool,pV 117 .bool] (u6 eN) sA sA))))))) sA)))) ⟨⟨(λv=>Ab),λv=>Ab⟩,(λv=>Ab),λv=>Ab,λv=>Ab⟩
def Zlv:okE ⟨205,[.str],[.slice 127 Zu,.bool],u1 V4⟩:=Sk (sO Zpp Xs) Ze func205 call205 (sI (.seq (.block (.loop [pV 0 .str,pZ 4 sC,pV 5 tI] (λN=>u3 (J6 N)) (u3 mJ) (λK1=>sA))) sA)) ⟨λ_=>rfl,λN v=>Ab⟩
def Zu3:okE ⟨206,[Zq,wO],[Zq],u2 mH⟩:=Sk (sO Q9 Xs) Ze func206 call206 sA
def Z1d:okE ⟨508,[wO],[wO],u1 uF⟩:=Sk (sN Xy) Ze func508 call508 sA
def Zya:okE ⟨507,[Q4,wO],[Q4,wO,.bool],u2 qq⟩:=Sk (sN QI) Ze func507 call507 sA
def Z1h:TH ⟨509,[.bx 37 Zq sC,.sh wO,.sh wO],.vals [],u3 JW⟩:=GU [0] (sO Zge Ku) Ze func509 call509 (sG (.block (.loop [lI 0 sC,pV 1 tI,pV 6 tI] (λN=>u3 (fd N)) (u3 pg) (λK1=>(sG (.seq (.block (.join [lI 0 sC,pV 1 tI,pV 6 tI,wA 7 sC] (u4 (QT K1)) sA sA)) sA)))))) ⟨λ_=>rfl,λN=>⟨(λv=>Ab),λv=>Ab⟩⟩
def oP:okE ⟨437,[Zq,wO],[Zq,wO],u2 W4⟩:=Sk (sU Q9 Jk Xy XK SR QJ Z1d Zya) (Zt Z1h Ze) func437 call437 (sL (.join [pV 1 tI,lI 2 sD,lI 4 sC,lI 6 sC,.box 7 34 Q4 sD] (u5 Kr) sA (.join [pV 1 tI,lI 2 sD,lI 4 sC,lI 6 sC,.box 8 34 Q4 sD,pV 9 tI,pV 10 .bool] (u7 dp) sA (sG (.join [pV 1 tI,lI 4 sC,lI 6 (sE (sE (sE (.p sC (sE (sE (sE (sE (sE (sE sC)))))))))),pV 9 tI] (u4 aH) sA sA))))) ⟨(λv=>Ab),(λv=>Ab),λv=>Ab⟩
def Zk9:okE ⟨510,[Qo,wO,.bool],[wO],u3 uS⟩:=Sk Zg Ze func510 call510 sA
def Zau:okE ⟨157,[Xg],[.slice 257 Zx],u1 oZ⟩:=Sk (sN rZ) Ze func157 call157 (sH (sF [tZ 1 sD,tX 3 sC,pV 4 tI] (λN=>u3 (Vw N)) (u3 fA) (λK1=>sA))) ⟨λ_=>rfl,λN v=>Ab⟩
def Z5a:okE ⟨544,[Xg,wO],[wO],u2 YI⟩:=Sk Zg Ze func544 call544 (sG (sF [pV 1 tI,tZ 2 sD,pV 5 tI] (λN=>u3 (jc N)) (u3 rf) (λK1=>sA))) ⟨λ_=>rfl,λN v=>Ab⟩
def Zsf:okE ⟨511,[Xg,wO,.str],[Xg],u3 nU⟩:=Sk (sS rZ sX Zau l8 Z5a Px) Ze func511 call511 (sM (sF [pV 1 tI,pV 2 .str,tZ 3 sD,tZ 6 sC,tZ 9 (sE sC),tX 10 sC,pV 11 tI] (λN=>u7 (V5 N)) (u7 af) (λK1=>(sG (.seq (.block (sG (sF [pV 1 tI,pV 2 .str,tZ 3 sD,tZ 6 sC,tZ 9 (sE sC),tX 10 sC,pV 11 tI,pV 12 .str,pV 13 tI] (λN=>u9 (Kh K1 N)) (u9 ag) (λK2=>(sG (.seq (.block (sG (.join [pV 1 tI,pV 2 .str,tZ 3 sD,tZ 6 sC,tZ 9 (sE sC),tX 10 sC,pV 11 tI,pV 12 .str,pV 13 tI,pV 14 tI] (u10 (cM K1 K2)) sA sA))) sA)))))) sA))))) ⟨λ_=>rfl,λN=>⟨(λv=>Ab),λ_=>rfl,λN=>⟨(λv=>Ab),λv=>Ab⟩⟩⟩
def Zp2:okE ⟨438,[Qo,wO,.str,.bool],[Qo,wO],u4 Jg⟩:=Sk (sR JL gg Zk9 Zsf XM) Ze func438 call438 (sM (.join [pV 1 tI,pV 2 .str,wD 4 sD,wD 8 sC,wD 10 (sE (.p sC sD))] (u5 Vd) sA (sG (.join [wD 8 sC,wD 10 (sE (.p sC sD))] (u2 kR) sA sA)))) ⟨(λv=>Ab),λv=>Ab⟩
def Zx1:okE ⟨512,[Qo,wO],[wO],u2 wl⟩:=Sk (sO gg Xy) Ze func512 call512 sA
def Zx9:okE ⟨513,[Yr,wO],[Yr,.bool],u2 qp⟩:=Sk (sN mb) Ze func513 call513 sA
def Zk3:TH ⟨439,[.bx 37 Zq sD,.bx 98 Z2 sD,.sh wO],.vals [wO],u3 uL⟩:=GU [0,1] (sO Zx1 Zx9) Ze func439 call439 sA
def Zsd:TH ⟨319,[.sh Zq,.sh Zu],.flg [(Zq,sD),(wO,sC)],u2 nQ⟩:=GU [] (sT Jk ct Q9 oO oP Yg Zp2) (Zt Zk3 (Zt nL Ze)) func319 call319 (sG (.seq (sG (.cond (sG (.frz [(4,.u S)])) sA)) (.seq (sG (.cond (sG (.frz [(4,.u S)])) sA)) (sG (.seq (sG (.cond (sG (.frz [(4,.u S)])) sA)) (sH (.seq (.frz [(6,.u S),(8,.u S)]) (.seq (sG (.cond (sG (.frz [(4,.u S)])) sA)) (.seq (sG (.cond (sG (.frz [(4,.u S)])) sA)) (sG (.seq (.frz [(8,.u S)]) sA)))))))))))
def Zno:okE ⟨440,[Qo,wO,wO],[Qo,wO],u3 W6⟩:=Sk (sQ JL gg Xy Zk9) Ze func440 call440 sA
def Zpy:TH ⟨320,[.sh Zq,.sh Zu],.flg [(Zq,sD),(wO,sC)],u2 mh⟩:=GU [] (sT Jk ct Q9 oO oP Yg Zno) (Zt Zk3 (Zt Zk4 (Zt nL Ze))) func320 call320 (sG (.seq (sG (.cond (sG (.frz [(4,.u S)])) sA)) (.seq (sG (.cond (sG (.frz [(4,.u S)])) sA)) (sG (.seq (sG (.cond (sG (.frz [(4,.u S)])) sA)) (sH (.seq (.frz [(6,.u S),(8,.u S)]) (.seq (sG (.cond (sG (.frz [(4,.u S)])) sA)) (.seq (sG (.cond (sG (.frz [(4,.u S)])) sA)) (.join [lI 4 sC,lI 6 sD,wA 8 sD,wD 10 sC] (u4 eU) sA (sG (.seq (.frz [(8,.u S)]) sA)))))))))))) (λv=>Ab)
def Zse:TH ⟨321,[.sh Zq,.sh Zu],.flg [(Zq,sD),(wO,sC)],u2 nT⟩:=GU [] (sT Jk ct Q9 JD oP Yg Zca) (Zt nL Ze) func321 call321 (sG (.seq (sG (.cond (sG (.frz [(4,.u S)])) sA)) (.seq (sG (.cond (sG (.frz [(4,.u S)])) sA)) (sG (.seq (sG (.cond (sG (.frz [(4,.u S)])) sA)) (sH (.join [lI 4 sC,lI 6 sC,wA 8 (sE (.p sC (sE (.p sC sD))))] (u3 g7) sA (.seq (.frz [(6,.u S),(8,.u S)]) sA)))))))) (λv=>Ab)
def Zed:okE ⟨441,[Q4,wO],[Q4],u2 kw⟩:=Sk (sO c9 Xy) Ze func441 call441 sA
def Zso:okE ⟨442,[eH,wO],[eH],u2 kv⟩:=Sk (sN EC) Ze func442 call442 sA
def Zyd:okE ⟨443,[Zq,Zu],[Zq,wO],u2 ZO⟩:=Sk (sT JD oO Q9 oP Yg Zed Ku) Ze func443 call443 (sH (.join [lI 2 sD,lS 3 sD,lI 4 sC,pV 6 .bool] (u4 mn) sA (sI (.join [lI 4 sC,lI 7 (sE (sE (sE sC)))] (u2 s6) sA sA)))) ⟨(λv=>Ab),λv=>Ab⟩
def Zpx:okE ⟨322,[Zq,Zu],[Zq,wO],u2 mg⟩:=Sk (sS Q9 Jk ct Zed Zso Zyd) Ze func322 call322 (sI (.seq (sG (.block (sG (.cond sA (sG (.cond (.join [lI 4 sC,lI 6 (sE (sE (sE (.p sC (sE (sE (sE (sE sC))))))))] (u2 kP) sA sA) (.join [lI 2 sD,lS 3 sD,lI 4 sC,lI 6 sC,pV 21 tI,pV 48 .bool] (u6 eQ) sA (.cond sA (.join [lI 2 sD,lS 3 sD,lI 4 sC,lI 6 sC,pV 52 .bool] (u5 eT) sA sA))))))))) sA)) ⟨λv=>Ab,(λv=>Ab),λv=>Ab⟩
def Zb8:TH ⟨207,[.sh Zq,.sh Zu],.flg [(Zq,sD),(wO,sC)],u2 gy⟩:=GU [] (sO Q9 Zpx) (Zt Zsd (Zt Zpy (Zt Zse Ze))) func207 call207 (sI (.join [lI 4 sC,lI 6 (.p sC (.p (.p sC (.p sC (.p sC (.p sC (.p sC (.p sC (.p sC (.p sC sC)))))))) (.p (.p sC (.p sC (.p sC (.p sC (.p sC (.p sC (.p sC (.p sC sC)))))))) (sE (.p (.p sC (.p sC (.p sC (.p sC sC)))) (.p (.p sC (.p sC (.p sC (.p sC (.p sC (.p sC sC)))))) (.p (.p sC (.p sC (.p sC sC))) (.p (.p sC (.p sC (.p sC sC))) (.p (.p sC (.p sC (.p sC (.p sC sC)))) (.p (.p sC (.p sC (.p sC (.p sC sC)))) (.p sC (.p sC (.p sC (.p sC (.p sC (sE (.p sC (.p sC sC)))))))))))))))))),pV 7 tI] (u3 br) sA sA)) (λv=>Ab)
def Zlx:TH ⟨105,[.sh Zq,.sh (.str)],.flg [(Zq,sD),(wO,sC)],u2 gz⟩:=GU [] (sR Q9 Jk zm Zlv Zu3) (Zt Zb8 Ze) func105 call105 (sH (.seq (sG (.cond (sG (.frz [(4,.u S)])) sA)) (sG (.seq (sG (.cond (sG (.frz [(4,.u S)])) sA)) (sF [lI 4 sC,lI 6 sD,pZ 7 sC,pV 9 tI] (λN=>u4 (Wx N)) (u4 aK) (λK1=>(sG (.seq (.block (.join [lI 4 sC,lI 6 sD,pZ 7 sC,pV 9 tI,lI 10 sD,pV 11 tI] (u6 (m8 K1)) (.frz [(6,.u S)]) (.seq (sG (.cond (sG (.frz [(4,.u S)])) sA)) sA))) sA)))))))) ⟨λ_=>rfl,λN=>⟨(λv=>Ab),λv=>Ab⟩⟩
def Zx5:okE ⟨106,[Zq,wO],[Zq,.bool],u2 wo⟩:=Sk (sP Q9 Vf Xs) Ze func106 call106 sA
def Z7h:okE ⟨107,[.bool],[.str],u1 Z6j⟩:=Sk Zg Ze func107 call107 sA
def Zr8:TH ⟨40,[.sh Zq,.sh Qs],.flg [(.str,sC),(Zq,sD)],u2 nO⟩:=GU [] (Z0f Q9 Jk Zk2 zm Zeb dX Zcd Zaz JE Zsq Zcc Zgb Zx5 Z7h) (Zt Zee (Zt Zcb (Zt Zd8 (Zt Zga (Zt Zea (Zt Zlx Ze)))))) func40 call40 (sH (.seq (sG (.cond (sG (.frz [(5,.u S)])) sA)) (.seq (sG (.cond (sG (.frz [(5,.u S)])) sA)) (sG (.join [lI 5 sC,lI 6 (.p sC (.p (.p sC (.p sC (.p sC (.p sC (.p sC (.p sC (.p sC (.p sC sC)))))))) (.p (.p sC (.p sC (.p sC (.p sC (.p sC (.p sC (.p sC (.p sC sC)))))))) (sE (.p (.p sC (.p sC (.p sC (.p sC sC)))) (.p (.p sC (.p sC (.p sC (.p sC (.p sC (.p sC sC)))))) (.p (.p sC (.p sC (.p sC sC))) (.p (.p sC (.p sC (.p sC sC))) (.p (.p sC (.p sC (.p sC (.p sC sC)))) (.p (.p sC (.p sC (.p sC (.p sC sC)))) (.p sC (.p sC (.p sC (.p sC (.p sC (sE (.p sC (.p sC sC)))))))))))))))))),pV 7 .bool] (u3 Jw) (sG (.block (sG (.cond (sG (.seq (sG (.cond (sG (.frz [(5,.u S)])) sA)) (sG (.frz [(5,.u S)])))) (sG (.cond (sH (.frz [(5,.u S)])) (sG (.cond sA (sG (.cond sA (sG (.cond sA (sG (.cond sA (sG (.cond sA (sG (.cond (sG (.seq (sG (.cond (sG (.frz [(5,.u S)])) sA)) (sG (.frz [(5,.u S)])))) sA)))))))))))))))))) sA))))) (λv=>Ab)
def Zgg:TH ⟨10,[.sh Zq,.sh (.slice 70 Qs)],.flg [(.slice 9 (.str),sC),(Zq,sD)],u2 yG⟩:=GU [] (sN Q9) (Zt Zr8 Ze) func10 call10 (sI (sF [pV 1 (.slice 70 Qs),lI 5 sC,lI 6 sD,wF 7 sC,pV 8 tI] (λN=>u5 (eu N)) (u5 uJ) (λK1=>(sG (.seq (.block (.join [pV 1 (.slice 70 Qs),lI 5 sC,lI 6 sD,wF 7 sC,pV 8 tI,pV 9 .str,lI 10 sD] (u7 (JV K1)) (.frz [(6,.u S)]) sA)) sA))))) ⟨λ_=>rfl,λN=>⟨(λv=>Ab),λv=>Ab⟩⟩
def Zu2:okE ⟨12,[.slice 9 (.str),.slice 9 (.str)],[.bool],u2 rT⟩:=Sk Zg Ze func12 call12 (sH (sF [pV 0 (.slice 9 (.str)),pV 1 (.slice 9 (.str)),pV 5 tI] (λN=>u3 (oL N)) (u3 ux) (λK1=>sA))) ⟨λ_=>rfl,λN v=>Ab⟩
def Zsb:okE ⟨379,[Kq,Kq],[.bool],u2 QN⟩:=Sk Zg Ze func379 call379 (sH (sF [tY 2 sD,tY 3 sD,pV 5 tI] (λN=>u3 (mK N)) (u3 sm) (λK1=>sA))) ⟨λ_=>rfl,λN v=>Ab⟩
def Zpu:okE ⟨380,[.slice 257 Zx,.slice 257 Zx],[.bool],u2 mf⟩:=Sk Zg Ze func380 call380 (sH (sF [pV 0 (.slice 257 Zx),pV 1 (.slice 257 Zx),pV 5 tI] (λN=>u3 (kL N)) (u3 qi) (λK1=>sA))) ⟨λ_=>rfl,λN v=>Ab⟩
def Znh:okE ⟨244,[Zy,Zy],[.bool],u2 xL⟩:=Sk (sO Zsb Zpu) Ze func244 call244 sA
def Zng:okE ⟨381,[Xg,Xg],[.bool],u2 xK⟩:=Sk Zg Ze func381 call381 (sH (sF [tZ 2 sD,tZ 3 sD,pV 5 tI] (λN=>u3 (jf N)) (u3 ny) (λK1=>sA))) ⟨λ_=>rfl,λN v=>Ab⟩
def Zjz:okE ⟨245,[Qo,Qo],[.bool],u2 rh⟩:=Sk (sN Zng) Ze func245 call245 sA
def Zni:okE ⟨120,[Z2,Z2],[.bool],u2 xM⟩:=Sk (sO Znh Zjz) Ze func120 call120 sA
def Zpv:okE ⟨43,[.slice 98 Z2,.slice 98 Z2],[.bool],u2 zp⟩:=Sk (sN Zni) Ze func43 call43 (sH (sF [pV 0 (.slice 98 Z2),pV 1 (.slice 98 Z2),pV 5 tI] (λN=>u3 (kM N)) (u3 qj) (λK1=>sA))) ⟨λ_=>rfl,λN v=>Ab⟩
def Zj0:okE ⟨44,[.slice 102 Kb,.slice 102 Kb],[.bool],u2 ro⟩:=Sk Zg Ze func44 call44 (sH (sF [pV 0 (.slice 102 Kb),pV 1 (.slice 102 Kb),pV 5 tI] (λN=>u3 (eB N)) (u3 lz) (λK1=>(sG (.seq (.block (sH (.block (.loop [pV 0 (.slice 102 Kb),pV 1 (.slice 102 Kb),pV 5 tI,pV 6 tI] (λN=>u4 (eC K1 N)) (u4 dH) (λK2=>sA))))) sA))))) ⟨λ_=>rfl,λN=>⟨(λv=>Ab),λ_=>rfl,λN v=>Ab⟩⟩
def Zsa:okE ⟨13,[Zq,Zq],[.bool],u2 vm⟩:=Sk (sO Zpv Zj0) Ze func13 call13 sA
def Zlk:okE ⟨132,[Zq],[wO],u1 ug⟩:=Sk (sO Vm Zas) Ze func132 call132 (sI (sF [pV 3 tI,pV 10 (.slice 98 Z2),pV 11 tI,pV 12 tI] (λN=>u4 (fF N)) (u4 Qju) (λK1=>sA))) ⟨λ_=>rfl,λN v=>Ab⟩
def Zro:okE ⟨47,[Zq],[.str],u1 ZU⟩:=Sk (sS Vm zj ka Zdw Zkz Zlk) Ze func47 call47 sA
def Zqm:okE ⟨46,[wO,.str],[wO],u2 VV⟩:=Sk Zg Ze func46 call46 (sG (sF [pV 0 tI,pV 1 .str,pV 5 tI] (λN=>u3 (ZD N)) (u3 Zdl) (λK1=>sA))) ⟨λ_=>rfl,λN v=>Ab⟩
def Zxp:okE ⟨134,[wO],[.str],u1 H9⟩:=Sk (sN Qc) Ze func134 call134 sA
def Zm7:okE ⟨135,[.slice 257 Zx],[.str],u1 dS⟩:=Sk (sN ka) Ze func135 call135 (sI (sF [pV 3 .str,pV 9 (.slice 257 Zx),pV 10 tI,pV 11 tI] (λN=>u4 (av N)) (u4 fu) (λK1=>(sH (.seq (.block (sG (.join [pV 3 .str,wC 5 sD,pV 9 (.slice 257 Zx),pV 10 tI,pV 11 tI] (u5 (iQ K1)) sA sA))) sA))))) ⟨λ_=>rfl,λN=>⟨(λv=>Ab),λv=>Ab⟩⟩
def Zxm:okE ⟨136,[wO],[.str],u1 VI⟩:=Sk (sN Qc) Ze func136 call136 sA
def Zm2:okE ⟨137,[Xg],[.slice 257 Zx],u1 xq⟩:=Sk (sO rW oM) Ze func137 call137 (sI (sF [tX 3 sC,pV 12 (.slice 260 ng),pV 13 tI,pV 14 tI] (λN=>u4 (iN N)) (u4 nk) (λK1=>sA))) ⟨λ_=>rfl,λN v=>Ab⟩
def Zm8:okE ⟨48,[Z2],[.str],u1 xv⟩:=Sk (sS VZ ka Zxp Zm7 Zxm Zm2) Ze func48 call48 (sI (.join [wA 1 sD,pV 3 .str] (u2 iR) sA sA)) (λv=>Ab)
def Z1b:okE ⟨258,[Zu],[.bool],u1 Oy⟩:=Sk Zg Ze func258 call258 sA
abbrev Z3v:P3:=⟨140,[.slice 9 (.str),.str],[.str],u2 zy⟩
def Zlb:bQ qA glob Z3v:=bQ.join Tryz.call140 (λ_=>rfl) (λa c sep w=>Tryz.strings_Join_none a c sep w) (λbk o c xs sep w h1 h2 h3 h4 h5=>Tryz.strings_Join bk o c xs sep w h1 h2 h3 h4 h5)
def Zo7:okE ⟨138,[Zu],[.str],u1 rE⟩:=Sk (sU cq Z1b Zig fO ka Zf0 vP Zlb) Ze func138 call138 (sI (.join [lS 1 sD,wF 3 sC] (u2 qy) sA (.join [lS 1 sD,wF 3 sC] (u2 bp) sA (.join [wF 3 sC] (u1 kD) sA sA)))) ⟨(λv=>Ab),(λv=>Ab),λv=>Ab⟩
def Z48:okE ⟨139,[.str],[.str],u1 Gp⟩:=Sk (sN vP) Ze func139 call139 sA
def Zm6:okE ⟨49,[.slice 127 Zu],[.str],u1 ow⟩:=Sk (sP Zo7 Zlb Z48) Ze func49 call49 (sH (sF [wF 3 sC,pV 7 (.slice 127 Zu),pV 8 tI,pV 9 tI] (λN=>u4 (cY N)) (u4 nu) (λK1=>sA))) ⟨λ_=>rfl,λN v=>Ab⟩
end
end Go.Proofs.YtcnklikmapfnmaaGreatDoor

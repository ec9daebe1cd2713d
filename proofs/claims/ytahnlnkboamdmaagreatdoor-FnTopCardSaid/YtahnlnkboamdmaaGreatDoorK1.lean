/- No condition. -/
import Derived.Test.YtahnlnkboamdmaaGreatDoorM2
set_option linter.all false
namespace Go.Proofs.YtahnlnkboamdmaaGreatDoor
noncomputable section
open Go.Am Go.Proofs.Tryz
open Go.Proofs.Tryz renaming prog→pZ
set_option maxRecDepth 100000
open Option renaming some→O,none→S
open Bool renaming false→U,true→K3
open Go renaming World→X,Value→K4,Builtin→Ld,Addr→Le,IntKind→Lf,Calls→Lh,sizeOf→L1
open List renaming length_take→Y,length_append→Lg,length_drop→Li,getElem?_take→Ll,size_toArray→Lm,append_assoc→Lx,take_left'→Ly,take_take→L2,getElem?_drop→L6,mem_of_mem_drop→L7,take_append_of_le_length→L9
open Eq renaming symm→La,trans→Lb
open Nat renaming mul_le_mul_right→Lc,add_mul→Lk,le_refl→Ln,min_eq_left→Lt,zero_le→Lu,min_def→L3,mul_sub_right_distrib→Ma
open Decidable renaming decide→Lj
open Act renaming eval→Lo,put→Lp
open Addr renaming add_lit→Lq
open IntKind renaming i64→Lr,wrap_i64→Ls
open World renaming cell?→Lv,frozen?→Mb
open Departure renaming mixedOrders→Lw
open Builtin renaming append_→Lz,copy_→L0,zeroCells→L5,clear_→L8
open Go.RowKit.Below renaming refl→L4
variable{C:Cfg}{Γ:Env}{a b c d f g h i j k l m:FnE}{fn:Func}{ln:List Nat}{xs:List K4}{n:Nat}{P Q P' Q':Prop}{ρ:Type}{v:K4}{gl:Vc}{w:X}{ΓB:Zb1}{ΓL:Zfx}
abbrev wS:Ty:=.int .i64
abbrev sA{ρ:Type}:An ρ:=.leaf
abbrev sC:Fl:=.u K3
abbrev sD:Fl:=.u U
abbrev tX(k:Nat)(f:Fl):PE:=.box k 37 Zq f
abbrev tY(k:Nat)(f:Fl):PE:=.box k 53 Zx f
abbrev tZ(k:Nat)(f:Fl):PE:=.box k 118 Zt f
abbrev wA(k:Nat)(f:Fl):PE:=.val k (.slice 118 Zt) f
abbrev wB(k:Nat)(f:Fl):PE:=.val k (.slice 218 Zz) f
abbrev wC(k:Nat)(f:Fl):PE:=.box k 50 Ks f
abbrev wD(k:Nat)(f:Fl):PE:=.box k 56 Xh f
abbrev wE(k:Nat)(f:Fl):PE:=.box k 62 Zy f
abbrev wF(k:Nat)(f:Fl):PE:=.box k 158 Km f
abbrev wG(k:Nat)(f:Fl):PE:=.box k 58 Qi f
abbrev wH(k:Nat)(f:Fl):PE:=.box k 218 Zz f
abbrev wI(k:Nat)(f:Fl):PE:=.val k (.slice 3 wS) f
abbrev wJ(k:Nat)(f:Fl):PE:=.box k 44 Jp f
abbrev wK(k:Nat)(f:Fl):PE:=.box k 60 Yn f
abbrev wL(k:Nat)(f:Fl):PE:=.val k (.slice 234 Qr) f
abbrev wM(k:Nat)(f:Fl):PE:=.box k 3 wS f
abbrev wN(k:Nat)(f:Fl):PE:=.val k (.slice 5 (.int .u8)) f
abbrev wO(k:Nat)(f:Fl):PE:=.val k (.slice 44 Jp) f
abbrev wP(k:Nat)(f:Fl):PE:=.val k (.slice 9 (.str)) f
abbrev wQ(k:Nat)(f:Fl):PE:=.val k (.slice 62 Zy) f
abbrev wR(k:Nat)(f:Fl):PE:=.val k (.slice 166 X8) f
abbrev sE(a:Fl):Fl:=.p sD a
abbrev sF{ρ:Type}(p:List PE)(f:Nat->PE.dens p->Option ρ)(fuel:PE.dens p->Nat)(a:(PE.dens p->Option ρ)->An ρ):An ρ:=.seq (.seq .leaf (.block (.loop p f fuel a))) .leaf
abbrev sG{ρ:Type}(a:An ρ):An ρ:=.seq .leaf a
abbrev sH{ρ:Type}(a:An ρ):An ρ:=.seq .leaf (.seq .leaf a)
abbrev sI{ρ:Type}(a:An ρ):An ρ:=.seq .leaf (.seq .leaf (.seq .leaf a))
abbrev sJ{ρ:Type}(a:An ρ):An ρ:=.seq .leaf (.seq .leaf (.seq .leaf (.seq .leaf a)))
abbrev sK{ρ:Type}(a:An ρ):An ρ:=.seq .leaf (.seq .leaf (.seq .leaf (.seq .leaf (.seq .leaf a))))
abbrev sL{ρ:Type}(a:An ρ):An ρ:=.seq .leaf (.seq .leaf (.seq .leaf (.seq .leaf (.seq .leaf (.seq .leaf a)))))
abbrev sM{ρ:Type}(a:An ρ):An ρ:=.seq .leaf (.seq .leaf (.seq .leaf (.seq .leaf (.seq .leaf (.seq .leaf (.seq .leaf a))))))
def tab:Tab:=Qd4 [(3,wS),(4,.bool),(5,.int .u8),(9,.str),(22,.slice 5 (.int .u8)),(25,ot),(26,.slice 62 Zy),(28,Qx),(30,Yi),(32,ci),(34,Qx),(35,.slice 166 X8),(37,Zq),(38,.slice 44 Jp),(44,Jp),(48,.slice 3 wS),(50,Ks),(51,.slice 218 Zz),(53,Zx),(54,.slice 274 fc),(56,Xh),(58,Qi),(60,Yn),(62,Zy),(100,oR),(114,.slice 9 (.str)),(118,Zt),(150,.slice 118 Zt),(155,.slice 234 Qr),(158,Km),(166,X8),(191,.arr 2 wS),(200,.int .u64),(218,Zz),(234,Qr),(274,fc),(309,.arr 7 (.bool))]
abbrev pW(e:Nat)(T:Ty):=TOK pZ e T
def pX{e:Nat}{T:Ty}(h:(pZ.info? e).map (·.zero)=O (O (Jd T (al T))):=by kernel_rfl)(i:XV pZ e T=true:=by kernel_rfl):pW e T:=⟨h,i⟩
def Qv5:pW 3 wS:=pX
def Qv6:pW 4 .bool:=pX
def Qv7:pW 5 (.int .u8):=pX
def Qv8:pW 9 .str:=pX
def Qs0:pW 22 (.slice 5 (.int .u8)):=pX
def Qs1:pW 25 ot:=pX
def Qk8:pW 26 (.slice 62 Zy):=pX
def Qs2:pW 28 Qx:=pX
def Qs3:pW 30 Yi:=pX
def Qs4:pW 32 ci:=pX
def Qs5:pW 34 Qx:=pX
def Qk9:pW 35 (.slice 166 X8):=pX
def Qs6:pW 37 Zq:=pX
def Qs7:pW 38 (.slice 44 Jp):=pX
def Qs8:pW 44 Jp:=pX
def Qs9:pW 48 (.slice 3 wS):=pX
def Qta:pW 50 Ks:=pX
def Qtb:pW 51 (.slice 218 Zz):=pX
def Qtc:pW 53 Zx:=pX
def Qtd:pW 54 (.slice 274 fc):=pX
def Qte:pW 56 Xh:=pX
def Qtf:pW 58 Qi:=pX
def Qtg:pW 60 Yn:=pX
def Qla:pW 62 Zy:=pX
def Qnv:pW 100 oR:=pX
def Qnw:pW 114 (.slice 9 (.str)):=pX
def Qnx:pW 118 Zt:=pX
def Qny:pW 150 (.slice 118 Zt):=pX
def Qnz:pW 155 (.slice 234 Qr):=pX
def Qn0:pW 158 Km:=pX
def Qe0:pW 166 X8:=pX
def Qn1:pW 191 (.arr 2 wS):=pX
def Qn2:pW 200 (.int .u64):=pX
def Qn3:pW 218 Zz:=pX
def Qn4:pW 234 Qr:=pX
def Qn5:pW 274 fc:=pX
def Qn6:pW 309 (.arr 7 (.bool)):=pX
def Qk5:tab.ok pZ:=(Yz Qv5 (Yz Qv6 (Yz Qv7 (Yz Qv8 (Yz Qs0 (Yz Qs1 (Yz Qk8 (Yz Qs2 (Yz Qs3 (Yz Qs4 (Yz Qs5 (Yz Qk9 (Yz Qs6 (Yz Qs7 (Yz Qs8 (Yz Qs9 (Yz Qta (Yz Qtb (Yz Qtc (Yz Qtd (Yz Qte (Yz Qtf (Yz Qtg (Yz Qla (Yz Qnv (Yz Qnw (Yz Qnx (Yz Qny (Yz Qnz (Yz Qn0 (Yz Qe0 (Yz Qn1 (Yz Qn2 (Yz Qn3 (Yz Qn4 (Yz Qn5 (Yz Qn6 Qnt)))))))))))))))))))))))))))))))))))))
noncomputable abbrev glob : Vc := Vc.vars pZ [("loop.example/g01633/impl.eventWords", (· = (VZ.map fun z => K4.string ⟨⟨z⟩⟩).toArray)), ("internal/strconv.uint64pow10", (· = (Go.Lib.pow10Tab.map fun z => K4.int .u64 z).toArray)), ("internal/bytealg.MaxLen", Qb0)]
def Qq2:ZU pZ 25 (ot):=ZU.of Ah Ah rfl Ai
def Qq3:ZU pZ 28 (Qx):=ZU.of Ah Ah rfl Ai
def Qq4:ZU pZ 30 (Yi):=ZU.of Ah Ah rfl Ai
def Qq5:ZU pZ 32 (ci):=ZU.of Ah Ah rfl Ai
def Qq6:ZU pZ 34 (Qx):=ZU.of Ah Ah rfl Ai
def Qq7:ZU pZ 44 (Jp):=ZU.of Ah Ah rfl Ai
def Qq8:ZU pZ 60 (Yn):=ZU.of Ah Ah rfl Ai
def Ql7:ZU pZ 118 (Zt):=ZU.of Ah Ah rfl Ai
def Ql8:ZU pZ 191 (.arr 2 wS):=ZU.of Ah Ah rfl Ai
def Ql9:ZU pZ 218 (Zz):=ZU.of Ah Ah rfl Ai
def Qma:ZU pZ 274 (fc):=ZU.of Ah Ah rfl Ai
def Qmb:ZU pZ 309 (.arr 7 (.bool)):=ZU.of Ah Ah rfl Ai
def Quh:List Nat:=[25,28,30,32,34,44,60,118,191,218,274,309]
def Qic:Qlj pZ tab Quh:=(sa Qq2 rfl (sa Qq3 rfl (sa Qq4 rfl (sa Qq5 rfl (sa Qq6 rfl (sa Qq7 rfl (sa Qq8 rfl (sa Ql7 rfl (sa Ql8 rfl (sa Ql9 rfl (sa Qma rfl (sa Qmb rfl Qmc))))))))))))
@[reducible] def Qu9:uZ:={pp:=[(350,321)],er:=[]}
def Qeg:Qu9.ok pZ:=uZ.ok_of Ah Ah
@[reducible] def cfg(ln:List Nat)(Γ:Env)(ΓL:Zfx)(ΓB:Zb1)(ΓW:List Unit):Cfg:={τ:=tab,eq:=λe=>Quh.any (Nat.beq e),Γ:=Γ,ΓL:=ΓL,ΓB:=ΓB,pQ:=ln,pt:=Qu9}
def Qhr(hs:gl.soft=U)(h:Γ.ok pZ gl)(hL:ΓL.ok pZ gl)(hB:ΓB.ok pZ gl)(hW:True):(cfg ln Γ ΓL ΓB []).ok pZ gl:=⟨Qk5,Qic,h,Ah,hL,hB,hs,Qeg,(λ_ h=>by cases h)⟩
@[reducible] def Vk(I:Zlp)(ln:List Nat)(Γ:Env)(ΓL:Zfx)(ΓB:Zb1)(ΓW:List Unit):Cfg:={cfg ln Γ ΓL ΓB ΓW with inl:=I}
def Ye{I:Zlp}(hI:I.ok pZ gl)(hs:gl.soft=U)(h:Γ.ok pZ gl)(hL:ΓL.ok pZ gl)(hB:ΓB.ok pZ gl)(hW:True):(Vk I ln Γ ΓL ΓB []).ok pZ gl:=⟨Qk5,Qic,h,Ah,hL,hB,hs,Qeg,hI⟩
abbrev u1{a z:Type}(f:a->z)(x:a×Unit):z:=f x.1
abbrev u2{a b z:Type}(f:a->b->z)(x:a×b×Unit):z:=f x.1 x.2.1
abbrev u3{a b c z:Type}(f:a->b->c->z)(x:a×b×c×Unit):z:=f x.1 x.2.1 x.2.2.1
abbrev u4{a b c d z:Type}(f:a->b->c->d->z)(x:a×b×c×d×Unit):z:=f x.1 x.2.1 x.2.2.1 x.2.2.2.1
abbrev u5{a b c d e z:Type}(f:a->b->c->d->e->z)(x:a×b×c×d×e×Unit):z:=f x.1 x.2.1 x.2.2.1 x.2.2.2.1 x.2.2.2.2.1
abbrev u6{a b c d e g z:Type}(f:a->b->c->d->e->g->z)(x:a×b×c×d×e×g×Unit):z:=f x.1 x.2.1 x.2.2.1 x.2.2.2.1 x.2.2.2.2.1 x.2.2.2.2.2.1
abbrev u7{a b c d e g h z:Type}(f:a->b->c->d->e->g->h->z)(x:a×b×c×d×e×g×h×Unit):z:=f x.1 x.2.1 x.2.2.1 x.2.2.2.1 x.2.2.2.2.1 x.2.2.2.2.2.1 x.2.2.2.2.2.2.1
abbrev u8{a b c d e g h i z:Type}(f:a->b->c->d->e->g->h->i->z)(x:a×b×c×d×e×g×h×i×Unit):z:=f x.1 x.2.1 x.2.2.1 x.2.2.2.1 x.2.2.2.2.1 x.2.2.2.2.2.1 x.2.2.2.2.2.2.1 x.2.2.2.2.2.2.2.1
abbrev u9{a b c d e g h i j z:Type}(f:a->b->c->d->e->g->h->i->j->z)(x:a×b×c×d×e×g×h×i×j×Unit):z:=f x.1 x.2.1 x.2.2.1 x.2.2.2.1 x.2.2.2.2.1 x.2.2.2.2.2.1 x.2.2.2.2.2.2.1 x.2.2.2.2.2.2.2.1 x.2.2.2.2.2.2.2.2.1
abbrev u10{a b c d e g h i j k z:Type}(f:a->b->c->d->e->g->h->i->j->k->z)(x:a×b×c×d×e×g×h×i×j×k×Unit):z:=f x.1 x.2.1 x.2.2.1 x.2.2.2.1 x.2.2.2.2.1 x.2.2.2.2.2.1 x.2.2.2.2.2.2.1 x.2.2.2.2.2.2.2.1 x.2.2.2.2.2.2.2.2.1 x.2.2.2.2.2.2.2.2.2.1
abbrev u11{a b c d e g h i j k l z:Type}(f:a->b->c->d->e->g->h->i->j->k->l->z)(x:a×b×c×d×e×g×h×i×j×k×l×Unit):z:=f x.1 x.2.1 x.2.2.1 x.2.2.2.1 x.2.2.2.2.1 x.2.2.2.2.2.1 x.2.2.2.2.2.2.1 x.2.2.2.2.2.2.2.1 x.2.2.2.2.2.2.2.2.1 x.2.2.2.2.2.2.2.2.2.1 x.2.2.2.2.2.2.2.2.2.2.1
abbrev u12{a b c d e g h i j k l m z:Type}(f:a->b->c->d->e->g->h->i->j->k->l->m->z)(x:a×b×c×d×e×g×h×i×j×k×l×m×Unit):z:=f x.1 x.2.1 x.2.2.1 x.2.2.2.1 x.2.2.2.2.1 x.2.2.2.2.2.1 x.2.2.2.2.2.2.1 x.2.2.2.2.2.2.2.1 x.2.2.2.2.2.2.2.2.1 x.2.2.2.2.2.2.2.2.2.1 x.2.2.2.2.2.2.2.2.2.2.1 x.2.2.2.2.2.2.2.2.2.2.2.1
abbrev u13{a b c d e g h i j k l m n z:Type}(f:a->b->c->d->e->g->h->i->j->k->l->m->n->z)(x:a×b×c×d×e×g×h×i×j×k×l×m×n×Unit):z:=f x.1 x.2.1 x.2.2.1 x.2.2.2.1 x.2.2.2.2.1 x.2.2.2.2.2.1 x.2.2.2.2.2.2.1 x.2.2.2.2.2.2.2.1 x.2.2.2.2.2.2.2.2.1 x.2.2.2.2.2.2.2.2.2.1 x.2.2.2.2.2.2.2.2.2.2.1 x.2.2.2.2.2.2.2.2.2.2.2.1 x.2.2.2.2.2.2.2.2.2.2.2.2.1
abbrev u14{a b c d e g h i j k l m n o z:Type}(f:a->b->c->d->e->g->h->i->j->k->l->m->n->o->z)(x:a×b×c×d×e×g×h×i×j×k×l×m×n×o×Unit):z:=f x.1 x.2.1 x.2.2.1 x.2.2.2.1 x.2.2.2.2.1 x.2.2.2.2.2.1 x.2.2.2.2.2.2.1 x.2.2.2.2.2.2.2.1 x.2.2.2.2.2.2.2.2.1 x.2.2.2.2.2.2.2.2.2.1 x.2.2.2.2.2.2.2.2.2.2.1 x.2.2.2.2.2.2.2.2.2.2.2.1 x.2.2.2.2.2.2.2.2.2.2.2.2.1 x.2.2.2.2.2.2.2.2.2.2.2.2.2.1
def lA{ρ:Type}:An ρ->Bool|.leaf=>K3|.frz _=>K3|.seq A B=>lA A&&lA B|.cond A B=>lA A&&lA B|.block A=>lA A|_=>U
def aj(a b:Bool)(P Q:Prop):Prop:=match a,b with
 |true,K3=>True
 |true,U=>Q
 |false,K3=>P
 |false,U=>P/\Q
def aq(a b:Bool)(P J Q:Prop):Prop:=match a,b with
 |true,K3=>J
 |true,U=>J/\Q
 |false,K3=>P/\J
 |false,U=>P/\J/\Q
def cj{ρ:Type}(C:Cfg)(n:Nat):Code->An ρ->(Exit->St->Option ρ)->Prop
 |.seq a b,A,k=>match A with
  |.seq A B=>aj (lA A) (lA B) (cj C n a A (ZP (Jw C n b B k) k)) (cj C n b B k)
  |.join p f A B=>aq (lA A) (lA B) (cj C n a A (ZP (Zjo C.soft p f) k)) (∀v,f v=Jw C n b B k (Zr9 C.pQ p v)) (cj C n b B k)
  |_=>True
 |.cond _ a b,A,k=>match A with
  |.cond A B=>aj (lA A) (lA B) (cj C n a A k) (cj C n b B k)
  |_=>True
 |.block id b,A,k=>match A with
  |.block A=>cj C n b A (Zit id k)
  |_=>True
 |.loop b,A,k=>match A with
  |.loop p f _ A=>(∀v,f 0 v=S)/\ ∀N,match lA (A (f N))with
   |true=> ∀v,f (N+1) v=Jw C n b (A (f N)) (ZP (Zjo C.soft p (f N)) k) (Zr9 C.pQ p v)
   |false=>(∀v,f (N+1) v=Jw C n b (A (f N)) (ZP (Zjo C.soft p (f N)) k) (Zr9 C.pQ p v))/\cj C n b (A (f N)) (ZP (Zjo C.soft p (f N)) k)
  |.unroll L m A=> ∀i,i<m->cj C n b (A i) (ZP (Zha (λi kk s=>Jw C n b (A i) (ZP kk k) (Zn2 L s)) i) k)
  |_=>True
 |_,_,_=>True
def Z0h:∀(c:Code)(A:An ρ)(k:Exit->St->Option ρ),lA A=K3->aW C n c A k:=by
 intro c
 induction c with
 |seq a b iha ihb=>
  intro A k h;cases A<;>simp only[lA,pC]at h<;>simp only[aW]
  ·exact⟨iha _ _ h.1,ihb _ _ h.2⟩
  ·cases h
 |cond o a b iha ihb=>
  intro A k h;cases A<;>simp only[lA,pC]at h<;>simp only[aW]
  exact⟨iha _ _ h.1,ihb _ _ h.2⟩
 |block id b ih=>
  intro A k h;cases A<;>simp only[lA]at h<;>simp only[aW]
  exact ih _ _ h
 |loop b ih=>
  intro A k h;cases A<;>simp only[lA]at h<;>simp only[aW]
  ·cases h
  ·cases h
 |_=>intros;simp only[aW]
def Qok{a b:Bool}(h:aj a b P Q)(hp:P->P')(hq:Q->Q')(ha:a=K3->P')(hb:b=K3->Q'):P'/\Q':=by
 cases a<;>cases b
 ·exact⟨hp h.1,hq h.2⟩
 ·exact⟨hp h,hb rfl⟩
 ·exact⟨ha rfl,hq h⟩
 ·exact⟨ha rfl,hb rfl⟩
def Qtw{a b:Bool}{J:Prop}(h:aq a b P J Q)(hp:P->P')(hq:Q->Q')(ha:a=K3->P')(hb:b=K3->Q'):P'/\J/\Q':=by
 cases a<;>cases b
 ·exact⟨hp h.1,h.2.1,hq h.2.2⟩
 ·exact⟨hp h.1,h.2,hb rfl⟩
 ·exact⟨ha rfl,h.1,hq h.2⟩
 ·exact⟨ha rfl,h,hb rfl⟩
def Qou:∀(c:Code)(A:An ρ)(k:Exit->St->Option ρ),cj C n c A k->aW C n c A k:=by
 intro c
 induction c with
 |seq a b iha ihb=>
  intro A k h;cases A<;>simp only[aW]<;>simp only[cj]at h
  ·exact Qok h (iha _ _) (ihb _ _) (Z0h _ _ _) (Z0h _ _ _)
  ·exact Qtw h (iha _ _) (ihb _ _) (Z0h _ _ _) (Z0h _ _ _)
 |cond o a b iha ihb=>
  intro A k h;cases A<;>simp only[aW]<;>simp only[cj]at h
  exact Qok h (iha _ _) (ihb _ _) (Z0h _ _ _) (Z0h _ _ _)
 |block id b ih=>
  intro A k h;cases A<;>simp only[aW]<;>simp only[cj]at h
  exact ih _ _ h
 |loop b ih=>
  intro A k h;cases A<;>simp only[aW]<;>simp only[cj]at h
  ·refine⟨h.1,λN=>?_⟩;have h:=h.2 N;split at h
   ·rename_i e;exact⟨h,Z0h _ _ _ e⟩
   ·exact⟨h.1,ih _ _ h.2⟩
  ·exact λi hi=>ih _ _ (h i hi)
 |_=>intros;simp only[aW]
def lf{c:Code}{k:Exit->St->Option ρ}:aW C n c (sA:An ρ) k:=Kz c k
def hk{α β:Type}{f g:α->Option β}(h:∀x,f x=g x)(x:α)(r:β)(e:g x=O r):f x=O r:=(h x).trans e
abbrev okE(e:FnE):=lh pZ glob e
abbrev okB(e:FnB):=yi pZ glob e
def sN(A:okE a):Env.ok [a] pZ glob:=(Za A Zg)
def sO(A:okE a)(B:okE b):Env.ok [a,b] pZ glob:=(Za A (Za B Zg))
def sP(A:okE a)(B:okE b)(C:okE c):Env.ok [a,b,c] pZ glob:=(Za A (Za B (Za C Zg)))
def sQ(A:okE a)(B:okE b)(C:okE c)(D:okE d):Env.ok [a,b,c,d] pZ glob:=(Za A (Za B (Za C (Za D Zg))))
def sR{e:FnE}(A:okE a)(B:okE b)(C:okE c)(D:okE d)(E:okE e):Env.ok [a,b,c,d,e] pZ glob:=(Za A (Za B (Za C (Za D (Za E Zg)))))
def sS{e:FnE}(A:okE a)(B:okE b)(C:okE c)(D:okE d)(E:okE e)(F:okE f):Env.ok [a,b,c,d,e,f] pZ glob:=(Za A (Za B (Za C (Za D (Za E (Za F Zg))))))
def sT{e:FnE}(A:okE a)(B:okE b)(C:okE c)(D:okE d)(E:okE e)(F:okE f)(G:okE g):Env.ok [a,b,c,d,e,f,g] pZ glob:=(Za A (Za B (Za C (Za D (Za E (Za F (Za G Zg)))))))
def sU{e:FnE}(A:okE a)(B:okE b)(C:okE c)(D:okE d)(E:okE e)(F:okE f)(G:okE g)(H:okE h):Env.ok [a,b,c,d,e,f,g,h] pZ glob:=(Za A (Za B (Za C (Za D (Za E (Za F (Za G (Za H Zg))))))))
def sV{e:FnE}(A:okE a)(B:okE b)(C:okE c)(D:okE d)(E:okE e)(F:okE f)(G:okE g)(H:okE h)(I:okE i):Env.ok [a,b,c,d,e,f,g,h,i] pZ glob:=(Za A (Za B (Za C (Za D (Za E (Za F (Za G (Za H (Za I Zg)))))))))
def sW{e:FnE}(A:okE a)(B:okE b)(C:okE c)(D:okE d)(E:okE e)(F:okE f)(G:okE g)(H:okE h)(I:okE i)(J:okE j):Env.ok [a,b,c,d,e,f,g,h,i,j] pZ glob:=(Za A (Za B (Za C (Za D (Za E (Za F (Za G (Za H (Za I (Za J Zg))))))))))
def sX{e:FnE}(A:okE a)(B:okE b)(C:okE c)(D:okE d)(E:okE e)(F:okE f)(G:okE g)(H:okE h)(I:okE i)(J:okE j)(K:okE k):Env.ok [a,b,c,d,e,f,g,h,i,j,k] pZ glob:=(Za A (Za B (Za C (Za D (Za E (Za F (Za G (Za H (Za I (Za J (Za K Zg)))))))))))
def sZ{e:FnE}(A:okE a)(B:okE b)(C:okE c)(D:okE d)(E:okE e)(F:okE f)(G:okE g)(H:okE h)(I:okE i)(J:okE j)(K:okE k)(L:okE l)(M:okE m):Env.ok [a,b,c,d,e,f,g,h,i,j,k,l,m] pZ glob:=(Za A (Za B (Za C (Za D (Za E (Za F (Za G (Za H (Za I (Za J (Za K (Za L (Za M Zg)))))))))))))
def pY{e n:FnE}(A:okE a)(B:okE b)(C:okE c)(D:okE d)(E:okE e)(F:okE f)(G:okE g)(H:okE h)(I:okE i)(J:okE j)(K:okE k)(L:okE l)(M:okE m)(N:okE n):Env.ok [a,b,c,d,e,f,g,h,i,j,k,l,m,n] pZ glob:=(Za A (Za B (Za C (Za D (Za E (Za F (Za G (Za H (Za I (Za J (Za K (Za L (Za M (Za N Zg))))))))))))))
def ofE{e:FnE}(h1:Γ.ok pZ glob)(h2:ΓB.ok pZ glob)(hf:pZ.funcs[e.f]? =O fn)(hcall:∀args w,(callFunc e.f args).run pZ w=.ok (.enter e.f args) w)(A:An (dp e.res))(hA:cj (cfg [] Γ [] ΓB []) fn.ntmps (Y0 fn) A (fnK (cfg [] Γ [] ΓB []).τ e.res fn.results.toList):=by trivial)
  (hF:∀xs,Jw (cfg [] Γ [] ΓB []) fn.ntmps (Y0 fn) A (fnK (cfg [] Γ [] ΓB []).τ e.res fn.results.toList) (Qcu e.args xs)=e.F xs:=by intro _;kernel_rfl) (hb:fn.body=O (Y0 fn):=by rfl) (hn:e.args.length<=fn.ntmps:=by decide):okE e:=lh.of (Qhr rfl h1 Xe h2 Xf) rfl hf hb hcall hn A (Qou _ _ _ hA) (hk hF)
def ofB{e:FnB}(L:List Nat)(h1:Γ.ok pZ glob)(h2:ΓB.ok pZ glob)(hf:pZ.funcs[e.f]? =O fn)(hcall:∀args w,(callFunc e.f args).run pZ w=.ok (.enter e.f args) w)(A:An (Zhf e.res×JJ e.args))(hA:cj (cfg L Γ [] ΓB []) fn.ntmps (Y0 fn) A (Qaz (cfg L Γ [] ΓB []).τ e.args e.res fn.results.toList):=by trivial)
  (hF:∀xs,Jw (cfg L Γ [] ΓB []) fn.ntmps (Y0 fn) A (Qaz (cfg L Γ [] ΓB []).τ e.args e.res fn.results.toList) (Zyu e.args xs)=e.F xs:=by intro _;kernel_rfl) (hb:fn.body=O (Y0 fn):=by rfl) (hn:e.args.length<=fn.ntmps:=by decide) (hlent:L=pj e.args 0:=by rfl):okB e:=yi.of (Qhr rfl h1 Xe h2 Xf) rfl hlent hf hb hcall hn A (Qou _ _ _ hA) (hk hF)
abbrev tI:Ty:=.int .i64
abbrev pV(k:Nat)(t:Ty):PE:=.val k t sD
def Z9e:okE ⟨4,[.slice 5 (.int .u8)],[.bool],u1 Z0i⟩:=
 ofE Zg Zd func4 call4 sA
def Z2z:okB ⟨14,[.sh (.slice 5 (.int .u8))],.newb 100 oR,u1 Zg4⟩:=
 ofB [] Zg Zd func14 call14 (sH (sF [pV 0 (.slice 5 (.int .u8)),pV 3 tI,pV 4 tI] (λN=>u3 (yJ N)) (u3 z5) (λK1=>sA))) ⟨λ_=>rfl,λN v=>Ah⟩
def Z00:okB ⟨68,[.bx 100 oR sD],.vals [wS],u1 rh⟩:=
 ofB [0] Zg Zd func68 call68 sA
def eC:okB ⟨18,[.bx 100 oR sD,.sh wS],.vals [wS],u2 K6⟩:=
 ofB [0] Zg (Z7 Z00 Zd) func18 call18 sA
def Zkd:okB ⟨16,[.bx 100 oR sD,.sh wS],.vals [.bool],u2 w8⟩:=
 ofB [0] Zg (Z7 eC Zd) func16 call16 sA
def Zmk:okE ⟨67,[],[ot],λ_=>KH⟩:=
 ofE Zg Zd func67 call67 sA
def Zxa:okB ⟨17,[.bx 100 oR sD],.vals [ot],u1 YB⟩:=
 ofB [0] (sN Zmk) (Z7 eC Zd) func17 call17 sA
def VS:okE ⟨182,[wS],[.bool],u1 bp⟩:=
 ofE Zg Zd func182 call182 sA
def Yf:okE ⟨133,[wS,wS,wS],[.bool],u3 Z9⟩:=
 ofE Zg Zd func133 call133 sA
def Zbh:okE ⟨62,[ot],[.bool],u1 aO⟩:=
 ofE (sO VS Yf) Zd func62 call62 sA
def X7:okE ⟨153,[wS],[.bool],u1 Q9⟩:=
 ofE (sN Yf) Zd func153 call153 sA
def Zdh:okE ⟨63,[wS],[Qx,.bool],u1 aS⟩:=
 ofE (sN X7) Zd func63 call63 sA
def Zdj:okE ⟨64,[wS,wS],[Yi,.bool],u2 aT⟩:=
 ofE (sN Yf) Zd func64 call64 sA
def Zum:okE ⟨65,[wS],[ci,.bool],u1 yF⟩:=
 ofE (sN Yf) Zd func65 call65 sA
def Zuk:okE ⟨66,[wS],[Qx,.bool],u1 yE⟩:=
 ofE (sN Yf) Zd func66 call66 sA
def Zw7:okE ⟨15,[.bool,ot,ot],[Zq,.bool],u3 Zaf⟩:=
 ofE (sR Zbh Zdh Zdj Zum Zuk) Zd func15 call15 sA
def Zdk:okB ⟨69,[.bx 100 oR sD,.sh (.slice 3 wS)],.vals [wS],u2 qh⟩:=
 ofB [0] Zg (Z7 eC Zd) func69 call69 sA
def Zke:okB ⟨70,[.bx 100 oR sD,.sh (.slice 9 (.str))],.vals [.str],u2 ri⟩:=
 ofB [0] Zg (Z7 eC Zd) func70 call70 sA
def Zkg:okB ⟨71,[.bx 100 oR sD,.sh wS],.vals [.str],u2 rl⟩:=
 ofB [0] Zg (Z7 eC (Z7 Zke Zd)) func71 call71 (sH (sF [.box 0 100 oR sD,pV 5 .str,pV 6 tI] (λN=>u3 (iI N)) (u3 oQ) (λK1=>sA))) ⟨λ_=>rfl,λN v=>Ah⟩
def um:okE ⟨283,[Zt],[.bool],u1 Wk⟩:=
 ofE Zg Zd func283 call283 (sG (.seq (sG (.block (.join [pV 5 .bool] (u1 Jj) sA sA))) sA)) (λv=>Ah)
def Zki:okE ⟨185,[Zt],[Zt],u1 nO⟩:=
 ofE (sN um) Zd func185 call185 (sH (.join [tZ 1 sD,tZ 2 sD,tZ 3 sD] (u3 qn) sA (.seq (sG (.block (sG (.cond sA (sG (.cond sA (sG (.cond sA (.join [tZ 1 sD,tZ 2 sD,tZ 3 sD,pV 41 .bool] (u4 qo) sA sA))))))))) sA))) ⟨(λv=>Ah),λv=>Ah⟩
def Zxg:okB ⟨73,[.bx 100 oR sD],.vals [Zt],u1 Zaj⟩:=
 ofB [0] (sN Zki) (Z7 Zdk (Z7 eC (Z7 Zkg (Z7 Zkd Zd)))) func73 call73 sA
def Zuj:okE ⟨305,[wS],[.str],u1 yC⟩:=
 ofE Zg Zd func305 call305 sA
def eB:okE ⟨183,[Zt],[.bool],u1 bm⟩:=
 ofE (sP Zuj Zki X7) Zd func183 call183 (sH (.seq (sG (.block (sG (.cond sA (.join [tZ 1 sD,pV 60 .bool] (u2 zi) sA sA))))) sA)) (λv=>Ah)
def Zfj:okE ⟨306,[wS],[wS],u1 ky⟩:=
 ofE Zg Zd func306 call306 sA
def Zmm:okE ⟨451,[wS,wS],[.str],u2 p6⟩:=
 ofE (sN Yf) Zd func451 call451 (sI (sF [pV 0 tI,pV 1 tI,pV 5 .str,pV 6 tI] (λN=>u4 (Y9 N)) (u4 yB) (λK1=>sA))) ⟨λ_=>rfl,λN v=>Ah⟩
def Zbk:okE ⟨405,[wS],[.str],u1 eJ⟩:=
 ofE (sN Zmm) Zd func405 call405 sA
def Zov:okE ⟨307,[wS],[.str],u1 Wr⟩:=
 ofE (sO Zfj Zbk) Zd func307 call307 (sI (sF [pV 0 tI,pV 3 tI,pV 4 .str,pV 5 tI] (λN=>u4 (Qv N)) (u4 Vp) (λK1=>(sG (.seq (.block (sG (.join [pV 0 tI,pV 3 tI,pV 4 .str,pV 5 tI,pV 6 tI] (u5 (Y5 K1)) sA sA))) sA))))) ⟨λ_=>rfl,λN=>⟨(λv=>Ah),λv=>Ah⟩⟩
def Zmn:okE ⟨184,[.slice 3 wS],[.str],u1 X5⟩:=
 ofE (sO Zfj Zov) Zd func184 call184 (sH (sF [pV 0 (.slice 3 wS),pV 3 .str,pV 4 tI] (λN=>u3 (Vf N)) (u3 gy) (λK1=>sA))) ⟨λ_=>rfl,λN v=>Ah⟩
def yd:okE ⟨72,[Zt],[.str],u1 Wx⟩:=
 ofE (sO eB Zmn) Zd func72 call72 (sH (.seq (sG (.block (sG (.cond sA (sG (.cond sA (sG (.cond (sG (.join [tZ 1 sD,pV 3 tI] (u2 W8) sA sA)) (.join [tZ 1 sD,pV 9 tI,pV 62 .bool] (u3 Xl) sA (.cond sA (.join [tZ 1 sD,pV 71 .bool] (u2 Ka) sA sA))))))))))) (sG (.join [tZ 1 sD,pV 4 tI] (u2 W9) sA sA)))) ⟨⟨λv=>Ah,(λv=>Ah),λv=>Ah⟩,λv=>Ah⟩
def Zhs:okE ⟨151,[wS],[.int .u8],u1 nM⟩:=
 ofE Zg Zd func151 call151 sA
def Zdf:okE ⟨42,[.str],[.str],u1 lO⟩:=
 ofE (sN Zhs) Zd func42 call42 (sH (sF [pV 0 .str,wN 3 sC,pV 4 tI] (λN=>u3 (nH N)) (u3 rM) (λK1=>sA))) ⟨λ_=>rfl,λN v=>Ah⟩
def Zhu:okE ⟨74,[Jp],[Jp],u1 YF⟩:=
 ofE Zg Zd func74 call74 (sH (.seq (sG (.block (.join [wJ 1 sD,wJ 2 sD,wJ 3 sD,pV 8 tI,pV 12 .bool] (u5 zq) sA (.cond sA (.join [wJ 1 sD,wJ 2 sD,wJ 3 sD,pV 8 tI,pV 18 .bool] (u5 zr) sA (.cond sA (sG (.cond sA (.join [wJ 1 sD,wJ 2 sD,wJ 3 sD,pV 32 .bool] (u4 tj) sA sA))))))))) sA)) ⟨(λv=>Ah),(λv=>Ah),λv=>Ah⟩
def Zuw:okB ⟨19,[.bx 100 oR sD],.vals [Jp],u1 JE⟩:=
 ofB [0] (sP yd Zdf Zhu) (Z7 Zdk (Z7 eC (Z7 Zke (Z7 Zkg (Z7 Zxg Zd))))) func19 call19 (sI (.join [.box 0 100 oR sD,wJ 2 sD,wJ 4 sD] (u3 Wz) (sG (.block (sG (.cond sA (sG (.cond sA (sG (.cond sA (sG (.cond sA (sG (.cond sA (.join [.box 0 100 oR sD,wJ 2 sD,wJ 4 sD,pV 46 .bool] (u4 ql) sA sA))))))))))))) sA)) ⟨λv=>Ah,λv=>Ah⟩
def Zml:okE ⟨5,[.slice 5 (.int .u8)],[Zq,.slice 44 Jp],u1 xI⟩:=
 ofE (sN Zw7) (Z7 Z2z (Z7 Zkd (Z7 Zxa (Z7 eC (Z7 Zuw Zd))))) func5 call5 (sJ (sF [tX 2 sC,.ptr 4 11 [],tX 5 sC,wO 7 sC,pV 8 tI,.box 11 100 oR sD] (λN=>u5 (j6 N)) (u5 oe) (λK1=>sA))) ⟨λ_=>rfl,λN v=>Ah⟩
abbrev Zd0:FnE:=⟨81,[wS,wS,wS],[.bool],u3 Z1⟩
def Qf:okE Zd0:=
 ofE Zg Zd func81 call81 sA
def zR:okE ⟨186,[wS],[.bool],u1 mD⟩:=
 ofE (sN Qf) Zd func186 call186 sA
def Zj1:okE ⟨75,[ot],[.bool],u1 vu⟩:=
 ofE (sO zR Qf) Zd func75 call75 sA
abbrev Zdz:FnE:=⟨188,[wS],[.bool],u1 Xq⟩
def Kw:okE Zdz:=
 ofE (sN Qf) Zd func188 call188 sA
def Zty:okE ⟨453,[wS],[.bool],u1 Zd3⟩:=
 ofE (sN Qf) Zd func453 call453 sA
def sr:okE ⟨480,[.slice 3 wS,.fnc 453],[wS],λxs=>aL xs.1⟩:=
 ofE (sN Zty) Zd func480 call480 (sG (sF [pV 0 (.slice 3 wS),pV 1 (.fnc 453),pV 7 tI,pV 8 tI] (λN=>u4 (Ys N)) (u4 Kc) (λK1=>sA))) ⟨λ_=>rfl,λN v=>Ah⟩
def pm:okE ⟨452,[.slice 3 wS,.fnc 453],[.bool],λxs=>Wq xs.1⟩:=
 ofE (sN sr) Zd func452 call452 sA
def XI:okE ⟨406,[Ks],[.bool],u1 q8⟩:=
 ofE (sQ zR pm Kw Qf) Zd func406 call406 sA
def VP:okE ⟨319,[Zz],[.bool],u1 QX⟩:=
 ofE Zg Zd func319 call319 sA
def kG:okE ⟨318,[.slice 218 Zz],[.bool],u1 aU⟩:=
 ofE (sN VP) Zd func318 call318 (sG (sF [pV 0 (.slice 218 Zz),pV 5 (.slice 218 Zz),pV 6 tI,pV 7 tI] (λN=>u4 (o0 N)) (u4 uh) (λK1=>sA))) ⟨λ_=>rfl,λN v=>Ah⟩
def Zjv:okE ⟨454,[.slice 218 Zz],[wS],u1 dC⟩:=
 ofE (sN kG) Zd func454 call454 (sI (sF [pV 3 tI,pV 9 (.slice 218 Zz),pV 10 tI,pV 11 tI] (λN=>u4 (im N)) (u4 mt) (λK1=>sA))) ⟨λ_=>rfl,λN v=>Ah⟩
def rE:okE ⟨303,[.slice 218 Zz],[.slice 218 Zz],u1 aV⟩:=
 ofE Zg Zd func303 call303 sA
abbrev e_impl_AddRange:FnE:=⟨209,[.slice 218 Zz,Zz],[.slice 218 Zz],u2 dv⟩
def kF:okE e_impl_AddRange:=
 ofE (sP kG VP rE) Zd func209 call209 (sI (sF [wH 3 sD,wB 5 sC,pV 6 .bool,pV 20 (.slice 218 Zz),pV 21 tI,pV 22 tI] (λN=>u6 (Js N)) (u6 l6) (λK1=>(sH (.seq (.block (sG (.block (sG (.cond sA (sG (.cond (.join [wH 3 sD,wB 5 sC,pV 6 .bool,wH 8 sD,pV 20 (.slice 218 Zz),pV 21 tI,pV 22 tI] (u7 (oU K1)) sA sA) sA))))))) sA))))) ⟨λ_=>rfl,λN=>⟨(λv=>Ah),λv=>Ah⟩⟩
def Zbe:okE ⟨409,[.slice 218 Zz,wS],[.bool],u2 jj⟩:=
 ofE Zg Zd func409 call409 sA
def Zub:okE ⟨407,[.slice 218 Zz,.slice 218 Zz,.slice 218 Zz,wS],[.bool],u4 KX⟩:=
 ofE (sQ Zjv rE kF Zbe) Zd func407 call407 (sI (sF [pV 3 tI,wB 9 sC,wB 27 sC,pV 28 tI,pV 29 tI] (λN=>u5 (pg N)) (u5 ma) (λK1=>sA))) ⟨λ_=>rfl,λN v=>Ah⟩
abbrev e_impl_FirstGap:FnE:=⟨408,[.slice 218 Zz,wS],[wS],u2 tn⟩
def YY:okE e_impl_FirstGap:=
 ofE (sN kG) Zd func408 call408 (sH (sF [pV 1 tI,pV 14 (.slice 218 Zz),pV 15 tI,pV 16 tI] (λN=>u4 (kz N)) (u4 ug) (λK1=>sA))) ⟨λ_=>rfl,λN v=>Ah⟩
abbrev e_impl_following:FnE:=⟨335,[Zx],[wS],u1 lE⟩
def uR:okE e_impl_following:=
 ofE Zg Zd func335 call335 sA
def xC:okE ⟨308,[Zx],[.bool],u1 oa⟩:=
 ofE (sU XI kG Qf Kw Zub YY Zbe uR) Zd func308 call308 (sJ (.join [tY 1 sD,pV 4 tI] (u2 o8) sA sA)) (λv=>Ah)
def cQ:okE ⟨77,[Qx],[.bool],u1 dw⟩:=
 ofE (sO Kw Qf) Zd func77 call77 sA
abbrev Zej:FnE:=⟨415,[fc],[wS],u1 ii⟩
def uQ:okE Zej:=
 ofE Zg Zd func415 call415 sA
abbrev Zhh:FnE:=⟨320,[Xh],[.bool],u1 nZ⟩
def xA:okE Zhh:=
 ofE (sO Kw uQ) Zd func320 call320 (sI (sF [pV 3 tI,pV 13 (.slice 274 fc),pV 14 tI,pV 15 tI] (λN=>u4 (oZ N)) (u4 l8) (λK1=>sA))) ⟨λ_=>rfl,λN v=>Ah⟩
def Z2v:okE ⟨321,[Xh],[wS],u1 Zge⟩:=
 ofE (sO xA uQ) Zd func321 call321 sA
def Zbd:okE ⟨323,[Xh],[wS],u1 mC⟩:=
 ofE (sN xA) Zd func323 call323 sA
def Zfc:okE ⟨322,[Xh],[wS],u1 yt⟩:=
 ofE (sN Zbd) Zd func322 call322 sA
def fN:okE ⟨210,[Qi],[.bool],u1 ca⟩:=
 ofE (sR xA Z2v Kw Qf Zfc) Zd func210 call210 (sI (.seq (sG (.block (sG (.cond sA (sG (.cond sA (sG (.cond sA (sG (.cond sA (.join [wG 1 sD,pV 101 .bool] (u2 cx) sA sA))))))))))) sA)) (λv=>Ah)
def kH:okE ⟨78,[Yi],[.bool],u1 kv⟩:=
 ofE (sN Qf) Zd func78 call78 sA
def zO:okE ⟨309,[Yn],[.bool],u1 mz⟩:=
 ofE (sN Qf) Zd func309 call309 sA
def Ze9:okE ⟨187,[Zy],[.bool],u1 yn⟩:=
 ofE (sS Kw xC cQ fN kH zO) Zd func187 call187 sA
def zN:okE ⟨76,[.slice 62 Zy],[.bool],u1 jh⟩:=
 ofE (sN Ze9) Zd func76 call76 (sG (sF [pV 0 (.slice 62 Zy),pV 5 (.slice 62 Zy),pV 6 tI,pV 7 tI] (λN=>u4 (cq N)) (u4 iL) (λK1=>sA))) ⟨λ_=>rfl,λN v=>Ah⟩
def VO:okE ⟨79,[ci],[.bool],u1 xk⟩:=
 ofE (sN Qf) Zd func79 call79 sA
def za:okE ⟨80,[Qx],[.bool],u1 rA⟩:=
 ofE (sN Qf) Zd func80 call80 sA
def Zt0:okE ⟨311,[wS],[.str],u1 Zd4⟩:=
 ofE Zg Zd func311 call311 sA
abbrev vh:FnE:=⟨220,[Zt],[.bool],u1 Wa⟩
def md:okE vh:=
 ofE Zg Zd func220 call220 (sG (.seq (sG (.block (.join [pV 5 .bool] (u1 af) sA sA))) sA)) (λv=>Ah)
def Z6m:okE ⟨312,[Zt],[Zt],u1 Zth⟩:=
 ofE (sN md) Zd func312 call312 (sH (.join [tZ 1 sD,tZ 2 sD,tZ 3 sD] (u3 Zgg) sA (.seq (sG (.block (sG (.cond sA (sG (.cond sA (sG (.cond sA (.join [tZ 1 sD,tZ 2 sD,tZ 3 sD,pV 41 .bool] (u4 Zgh) sA sA))))))))) sA))) ⟨(λv=>Ah),λv=>Ah⟩
abbrev dA:FnE:=⟨191,[Zt],[.bool],u1 ao⟩
def eA:okE dA:=
 ofE (sP Zt0 Z6m Kw) Zd func191 call191 sA
def Zj4:okE ⟨190,[Zt],[.bool],u1 QV⟩:=
 ofE (sN eA) Zd func190 call190 sA
def fw:okE ⟨310,[.slice 118 Zt,.fnc 190],[wS],λxs=>Kg xs.1⟩:=
 ofE (sN Zj4) Zd func310 call310 (sG (sF [pV 0 (.slice 118 Zt),pV 1 (.fnc 190),pV 7 tI,pV 8 tI] (λN=>u4 (Q6 N)) (u4 Yg) (λK1=>sA))) ⟨λ_=>rfl,λN v=>Ah⟩
def dE:okE ⟨189,[.slice 118 Zt,.fnc 190],[.bool],λxs=>Xo xs.1⟩:=
 ofE (sN fw) Zd func189 call189 sA
def Zop:okE ⟨82,[.slice 166 X8,wS],[.bool],u2 VM⟩:=
 ofE (sO Qf dE) Zd func82 call82 (sG (sF [pV 0 (.slice 166 X8),pV 1 tI,pV 7 (.slice 166 X8),pV 8 tI,pV 9 tI] (λN=>u5 (lC N)) (u5 pf) (λK1=>sA))) ⟨λ_=>rfl,λN v=>Ah⟩
def Zmb:okE ⟨193,[Zy],[wS],u1 Zew⟩:=
 ofE Zg Zd func193 call193 sA
def KB:okE ⟨192,[.slice 62 Zy,.fnc 193],[wS],λxs=>kl xs.1⟩:=
 ofE (sO zN Zmb) Zd func192 call192 (sI (sF [pV 1 (.fnc 193),pV 5 tI,pV 11 (.slice 62 Zy),pV 12 tI,pV 13 tI] (λN=>u5 (Vn N)) (u5 bW) (λK1=>sA))) ⟨λ_=>rfl,λN v=>Ah⟩
def Zdd:okE ⟨83,[.slice 62 Zy],[wS],u1 pd⟩:=
 ofE (sN KB) Zd func83 call83 sA
def Zma:okE ⟨194,[Zy],[wS],u1 Zev⟩:=
 ofE Zg Zd func194 call194 sA
def KA:okE ⟨192,[.slice 62 Zy,.fnc 194],[wS],λxs=>kj xs.1⟩:=
 ofE (sO zN Zma) Zd func192 call192 (sI (sF [pV 1 (.fnc 194),pV 5 tI,pV 11 (.slice 62 Zy),pV 12 tI,pV 13 tI] (λN=>u5 (Vm N)) (u5 bV) (λK1=>sA))) ⟨λ_=>rfl,λN v=>Ah⟩
def Zdc:okE ⟨84,[.slice 62 Zy],[wS],u1 pb⟩:=
 ofE (sN KA) Zd func84 call84 sA
abbrev du:FnE:=⟨20,[Zq],[.bool],u1 K7⟩
def Kf:okE du:=
 ofE (sW Zj1 zN cQ kH VO za Qf Zop Zdd Zdc) Zd func20 call20 sA
def Z6n:okE ⟨85,[wS],[.bool,.bool,.bool],u1 Zex⟩:=
 ofE Zg Zd func85 call85 (sG (.seq (sG (.block (.join [pV 5 tI,pV 6 .bool] (u2 XC) sA (.cond sA (.join [pV 5 tI,pV 9 .bool] (u2 XD) sA (.cond sA (sG (.cond sA (.join [pV 14 .bool] (u1 xu) sA sA))))))))) sA)) ⟨(λv=>Ah),(λv=>Ah),λv=>Ah⟩
abbrev Ztb:FnE:=⟨86,[wS],[.str],u1 lx⟩
open Go.RowKit in
def Zm2(k:Int)(w:X)(hw:∀i,i<13->w.cell? ⟨0,i,S⟩=O (.string ⟨⟨VZ.getD i []⟩⟩)):
  Lh pZ 86 #[.int .i64 k] w λe w'=>e=.returned (.string ⟨⟨cond (Lj (1<=k)&&Lj (k<=12)) (VZ.getD k.toNat []) []⟩⟩)/\Below w.heap.size w w':=by
 by_cases h1:1<=k
 ·by_cases h2:k<=12
  ·have hc:=hw k.toNat Aa
   have e:(cond (Lj (1<=k)&&Lj (k<=12)) (VZ.getD k.toNat []) [])=VZ.getD k.toNat []:=by simp[h1,h2]
   rw[e];generalize VZ.getD k.toNat []=t at*
   go_enter Tryz.func86,Tryz.ntmps86
   go_wp2
   go_ret
   exact⟨rfl,L4 _ _⟩
  ·have e:(cond (Lj (1<=k)&&Lj (k<=12)) (VZ.getD k.toNat []) [])=[]:=by simp[h2]
   rw[e]
   go_enter Tryz.func86,Tryz.ntmps86
   go_wp2
   go_ret
   exact⟨rfl,L4 _ _⟩
 ·have e:(cond (Lj (1<=k)&&Lj (k<=12)) (VZ.getD k.toNat []) [])=[]:=by simp[h1]
  rw[e]
  go_enter Tryz.func86,Tryz.ntmps86
  go_wp2
  go_ret
  exact⟨rfl,L4 _ _⟩
def Zra:lh pZ glob Ztb where
 enters:=Tryz.call86
 calls:=λw xs r vals hg hx hr=>by
  obtain⟨cs,us,rfl,h1,rfl⟩:=hx;obtain⟨rfl,_⟩:cs=[.int .i64 xs.1]/\_:=h1;simp only[lx,pB]at hr;subst hr;have hv:=Vc.vars_eq hg 0 Ai rfl rfl;exact(Zm2 xs.1 w (λj hj=>Qgu hv Ah j hj)).mono λe w' ⟨h2,h3⟩=>⟨[_],[],h2,⟨[_],[],[],[],rfl,rfl,⟨rfl,rfl⟩,rfl,rfl⟩,Ae,h3⟩
def Zua:okE ⟨195,[.str,.int .u8,.int .u8],[.bool],u3 yq⟩:=
 ofE (sN Qf) Zd func195 call195 (sG (sF [pV 0 .str,pV 1 (.int .u8),pV 2 (.int .u8),pV 7 tI] (λN=>u4 (fM N)) (u4 uk) (λK1=>sA))) ⟨λ_=>rfl,λN v=>Ah⟩
def Zud:okE ⟨115,[.int .u8],[wS],u1 gn⟩:=
 ofE Zg Zd func115 call115 sA
def Zc6:okE ⟨31,[.str],[.str,.bool],u1 lu⟩:=
 ofE (sN Zud) Zd func31 call31 (sI (sF [pV 0 .str,wN 4 sC,pV 5 tI] (λN=>u3 (bF N)) (u3 ru) (λK1=>sA))) ⟨λ_=>rfl,λN v=>Ah⟩
def Z0s:okE ⟨87,[Jp],[.bool],u1 Zjg⟩:=
 ofE (sP Zua Zc6 Qf) Zd func87 call87 sA
def Zw0:okE ⟨21,[Jp],[.bool],u1 QJ⟩:=
 ofE (sQ Z6n Zra Qf Z0s) Zd func21 call21 sA
def YZ:okE ⟨302,[Ks],[Ks],u1 kw⟩:=
 ofE Zg Zd func302 call302 sA
abbrev e_impl_copySender:FnE:=⟨180,[Zx],[Zx],u1 Wo⟩
def aH:okE e_impl_copySender:=
 ofE (sO YZ rE) Zd func180 call180 sA
abbrev Zcm:FnE:=⟨304,[Xh],[Xh],u1 ej⟩
def zP:okE Zcm:=
 ofE Zg Zd func304 call304 sA
def nl:okE ⟨181,[Qi],[Qi],u1 bG⟩:=
 ofE (sN zP) Zd func181 call181 sA
def zQ:okE ⟨61,[Zy],[Zy],u1 eu⟩:=
 ofE (sO aH nl) Zd func61 call61 sA
def WD:okE ⟨88,[.slice 62 Zy],[.slice 62 Zy],u1 cP⟩:=
 ofE (sN zQ) Zd func88 call88 (sH (sF [wQ 3 sC,pV 7 (.slice 62 Zy),pV 8 tI,pV 9 tI] (λN=>u4 (jw N)) (u4 Wv) (λK1=>sA))) ⟨λ_=>rfl,λN v=>Ah⟩
def Zmf:okE ⟨89,[.slice 166 X8],[.slice 166 X8],u1 YW⟩:=
 ofE Zg Zd func89 call89 (sH (sF [wR 3 sC,pV 7 (.slice 166 X8),pV 8 tI,pV 9 tI] (λN=>u4 (jv N)) (u4 gj) (λK1=>sA))) ⟨λ_=>rfl,λN v=>Ah⟩
abbrev Xd:FnE:=⟨22,[Zq],[Zq],u1 Zw⟩
def Xp:okE Xd:=
 ofE (sO WD Zmf) Zd func22 call22 sA
def xB:okE ⟨23,[Zq],[.bool],u1 ku⟩:=
 ofE Zg Zd func23 call23 sA
abbrev Vt:FnE:=⟨90,[Zq],[.bool],u1 Jl⟩
def aI:okE Vt:=
 ofE (sO Kf xB) Zd func90 call90 sA
abbrev mV:FnB:=⟨92,[.bx 37 Zq sC,.sh (.bool)],.fp Zq 0 [7] [6],u2 Jc⟩
def ul:okB mV:=
 ofB [0] Zg Zd func92 call92 sA
def Zt2:okE ⟨91,[ci],[wS,ci,.bool],u1 yp⟩:=
 ofE (sN VO) Zd func91 call91 sA
abbrev Zzk:FnE:=⟨173,[.bool],[wS],u1 jx⟩
def JU:okE Zzk:=
 ofE Zg Zd func173 call173 sA
def Z0q:okE ⟨93,[wS,.bool,.bool],[wS],u3 Zcu⟩:=
 ofE (sO Qf JU) Zd func93 call93 sA
def cB:okE ⟨196,[wS],[.bool],u1 cd⟩:=
 ofE (sN Kw) Zd func196 call196 sA
def Zl5:okE ⟨197,[],[Qi],λ_=>Zet⟩:=
 ofE Zg Zd func197 call197 sA
def ZE:okE ⟨198,[],[Yn],λ_=>vp⟩:=
 ofE Zg Zd func198 call198 sA
def mF:okE ⟨174,[wS],[.bool],u1 m7⟩:=
 ofE (sN cB) Zd func174 call174 sA
def Zoh:okE ⟨296,[wS],[.bool],u1 Zhk⟩:=
 ofE (sN cB) Zd func296 call296 sA
abbrev rq:FnE:=⟨171,[.bool,wS],[.bool],u2 Vl⟩
def od:okE rq:=
 ofE (sO cB Zoh) Zd func171 call171 sA
abbrev oS:FnE:=⟨199,[.bool,wS],[.bool],u2 vl⟩
def XG:okE oS:=
 ofE (sP cB mF od) Zd func199 call199 sA
abbrev jq:FnE:=⟨200,[.bool,wS],[.bool],u2 iM⟩
def wd:okE jq:=
 ofE (sP cB mF od) Zd func200 call200 sA
def Zw2:okE ⟨313,[wS],[Ks,.bool],u1 Zqj⟩:=
 ofE (sN zR) Zd func313 call313 sA
def Zre:okE ⟨201,[wS],[Zx,.bool],u1 Za0⟩:=
 ofE (sN Zw2) Zd func201 call201 sA
def Zrd:okE ⟨202,[wS],[Qx,.bool],u1 Zje⟩:=
 ofE (sN Kw) Zd func202 call202 sA
def Zrf:okE ⟨203,[wS,wS],[Yi,.bool],u2 Zjf⟩:=
 ofE (sN Qf) Zd func203 call203 sA
def Zda:okE ⟨94,[.bool,wS,ot,ot],[Zy,.bool],u4 vx⟩:=
 ofE (sV cB Zj1 Zl5 ZE XG wd Zre Zrd Zrf) Zd func94 call94 sA
def Zjz:okE ⟨179,[Zy,.sptr 3 wS],[.bool],u2 Zct⟩:=
 ofE Zg Zd func179 call179 sA
def ee:okE ⟨178,[.slice 62 Zy,.clo 179 (.pair (.sptr 3 wS) (.unit))],[wS],u2 Y4⟩:=
 ofE (sN Zjz) Zd func178 call178 (sG (sF [pV 0 (.slice 62 Zy),pV 1 (.clo 179 (.pair (.sptr 3 wS) (.unit))),pV 7 tI,pV 8 tI] (λN=>u4 (Qz N)) (u4 Yc) (λK1=>sA))) ⟨λ_=>rfl,λN v=>Ah⟩
abbrev Xy:FnE:=⟨60,[.slice 62 Zy,wS],[wS],u2 Z4⟩
def Yb:okE Xy:=
 ofE (sN ee) Zd func60 call60 sA
def Zl7:okE ⟨204,[Zy,.sptr 62 Zy],[.bool],u2 Zeu⟩:=
 ofE Zg Zd func204 call204 sA
def eN:okE ⟨178,[.slice 62 Zy,.clo 204 (.pair (.sptr 62 Zy) (.unit))],[wS],u2 Xs⟩:=
 ofE (sN Zl7) Zd func178 call178 (sG (sF [pV 0 (.slice 62 Zy),pV 1 (.clo 204 (.pair (.sptr 62 Zy) (.unit))),pV 7 tI,pV 8 tI] (λN=>u4 (Q4 N)) (u4 Yd) (λK1=>sA))) ⟨λ_=>rfl,λN v=>Ah⟩
set_option maxHeartbeats 4000000 in
def Qfz(k:Nat)(hk:0<k)(zE:∀w,(L1 62).run pZ w=.ok k w)(b n c i vb m vc:Nat)(cur vcur:Array K4)(t:TypeId)(w:X)(hi:i<n)(hm:0<m)(hroom:n+m<=c)(hc:c<=maxLen)(hvb:vb≠b)
  (hb:w.heap[b]? =O (.cells cur 62 (0,0))) (hcs:cur.size=c*k) (hv:w.heap[vb]? =O (.cells vcur t (0,0))) (hvs:m*k<=vcur.size)
  (h1:∀u∈cur.toList.take (n*k),u.oneCell'=K3) (h1v:∀u∈vcur.toList.take (m*k),u.oneCell'=K3):
  Lh pZ 205 #[.slice (O ⟨b,0,S⟩) n c,.int .i64 i,.slice (O ⟨vb,0,S⟩) m vc] w λe w'=>
   e=.returned (.slice (O ⟨b,0,S⟩) (n+m) c)/\ ∃R1 R2:Array K4,w'=(w.drew.setRow b R1).setRow b R2/\R2.size=cur.size/\
    R2.toList.take ((n+m)*k)=cur.toList.take (i*k)++vcur.toList.take (m*k)++(cur.toList.take (n*k)).drop (i*k):=by
 have hz1:¬((m:Int)=0):=Aa
 have hz2:¬((i:Int)=(n:Int)):=Aa
 have h63:c<=9223372036854775807:=by unfold maxLen at hc;omega
 have hw1:Lr.wrap ((i:Int)+(m:Int))=(i:Int)+(m:Int):=by rw[Ls];omega
 have hw2:Lr.wrap ((n:Int)+(m:Int))=(n:Int)+(m:Int):=by rw[Ls];omega
 have hb1:(0:Int)<=(i:Int)+(m:Int):=Aa
 have hin:i<=n:=Aa
 have htn:((i:Int)+(m:Int)).toNat=i+m:=Aa
 have hb2:¬(c=i+m):=Aa
 have hb3:(i:Int)<=(n:Int)+(m:Int):=Aa
 have hb4:¬(c=i):=Aa
 have hov:∀lb cb,(callFunc 314 #[.slice (O ⟨vb,0,S⟩) m vc,.slice (O ⟨b,(i+m)*k,S⟩) lb cb]).run pZ w=.ok (.value (.bool U)) w:=λlb cb=>by
  rw[run_callFunc_extern Tryz.func314 Ah Ah Ah (e:=Extern.SlicesOverlaps.overlaps #[26,26] #[4]) Ah,
   Lib.run_overlaps_apart w 26 4 62 Ah k zE ⟨vb,0,S⟩ ⟨b,(i+m)*k,S⟩ m vc lb cb hvb t 62 vcur.size cur.size (by simp[X.shape?,hv]) (by simp[X.shape?,hb]) (by rw[hcs];exact Nat.mul_ne_zero (by omega) (by omega)) (by simp[Mb,hv]) (by simp[Mb,hv])]
  rfl
 obtain⟨C,hC⟩:∃C,C=(cur.toList.take (n*k)).drop (i*k):=⟨_,rfl⟩
 obtain⟨V,hV⟩:∃V,V=vcur.toList.take (m*k):=⟨_,rfl⟩
 have hnk:n*k<=cur.size:=by rw[hcs];exact Lc _ Aa
 have hmk:(n+m)*k<=cur.size:=by rw[hcs];exact Lc _ hroom
 have hCl:C.length=(n-i)*k:=by rw[hC];simp only[Li,Y,Array.length_toList];rw[Lt hnk,Ma]
 have hVl:V.length=m*k:=by rw[hV];simp only[Y,Array.length_toList];omega
 obtain⟨R1,hR1⟩:∃R1:Array K4,R1=(cur.toList.take ((i+m)*k)++C++cur.toList.drop ((i+m)*k+C.length)).toArray:=⟨_,rfl⟩
 have e1:(i+m)*k+(n-i)*k=(n+m)*k:=by rw[<-Lk];congr 1;omega
 have e2:i*k+m*k=(i+m)*k:=by rw[<-Lk]
 have hR1s:R1.size=cur.size:=by rw[hR1];simp only[Lm,Lg,Y,Li,Array.length_toList];omega
 obtain⟨R2,hR2⟩:∃R2:Array K4,R2=(R1.toList.take (i*k)++V++R1.toList.drop (i*k+V.length)).toArray:=⟨_,rfl⟩
 have hcp1:∀ty dc sc,(L0 #[26,26] ty #[.slice (O ⟨b,(i+m)*k,S⟩) (n+m- (i+m)) dc,.slice (O ⟨b,i*k,S⟩) (n+m-i) sc]).run pZ w.drew=.ok (goInt (n-i:Nat)) (w.drew.setRow b R1):=λty dc sc=>by
  rw[hR1];exact Zxz Ah zE w.drew ty b ((i+m)*k) (n+m- (i+m)) dc ⟨b,i*k,S⟩ (n+m-i) sc cur 62 C hb (n-i) (by simp only[L3];split<;>omega) hCl
   (λj u hj=>by
    rw[hC,L6,Ll]at hj;split at hj
    ·rw[Lq];have hd:w.drew.heap[b]? =O (.cells cur 62 (0,0)):=hb;simp only[Lv,hd];simpa using hj
    ·cases hj) Aa (λu hu=>h1 u (by rw[hC]at hu;exact L7 hu))
 have hcp2:∀(W:X),W.heap=(w.drew.setRow b R1).heap-> ∀ty dc,(L0 #[26,26] ty #[.slice (O ⟨b,i*k,S⟩) (n+m-i) dc,.slice (O ⟨vb,0,S⟩) m vc]).run pZ W=.ok (goInt m) (W.setRow b R2):=λW hW ty dc=>by
  rw[hR2];exact Zxz Ah zE W ty b (i*k) (n+m-i) dc ⟨vb,0,S⟩ m vc R1 62 V (by rw[hW];exact Zv1 (W:=w.drew) hb) m (by simp only[L3];split<;>omega) hVl
   (λj u hj=>by
    rw[hV,Ll]at hj;split at hj
    ·rw[Lq];simp only[Lv,hW];have:(w.drew.setRow b R1).heap[vb]? =O (.cells vcur t (0,0)):=(Zv2 (W:=w.drew) hvb).trans hv;rw[this];simpa using hj
    ·cases hj) Aa (λu hu=>h1v u (by rw[hV]at hu;exact hu))
 have hT:(cur.toList.take ((i+m)*k)).length=(i+m)*k:=by
  have:(i+m)*k<=(n+m)*k:=Lc _ Aa;rw[Y,Array.length_toList];omega
 have hTi:(cur.toList.take (i*k)).length=i*k:=by
  have:i*k<=(n+m)*k:=Lc _ Aa;rw[Y,Array.length_toList];omega
 have r1:R1.toList.take (i*k)=cur.toList.take (i*k):=by
  rw[hR1];simp only[];rw[Lx,L9 (by rw[hT];omega),L2,Lt Aa]
 have r2:R1.toList.drop (i*k+V.length)=C++cur.toList.drop ((n+m)*k):=by
  rw[hVl,e2,hR1];simp only[];rw[Lx,List.drop_left' hT,hCl,e1]
 have hf1:R2.size=cur.size:=by rw[hR2];simp only[Lm,Lg,Y,Li,Array.length_toList];omega
 have hf2:R2.toList.take ((n+m)*k)=cur.toList.take (i*k)++V++C:=by
  rw[hR2];simp only[];rw[r1,r2,<-Lx,Ly (by simp only[Lg,hTi,hVl,hCl];omega)]
 rw[<-hV,<-hC];clear hR1 hR2 hC hV r1 r2 hTi hT e1 e2 hR1s hCl hVl hnk hmk h1 h1v hvs hcs hv hb;have mixed:pZ.follows Lw=true:=Ah
 go_enter Tryz.func205,Tryz.ntmps205
 go_wp2_with (simp only[hov])
 go_region_law_o (refine Zvc rfl (Zk6 (t:=26) (t':=26) rfl (by simp[Lo,Lp]) (by simp[Lo,Lp]) (hcp1 _ _ _)) ?_)
 go_wp2_with (at_builtin;refine VE rfl (Zk6 (t:=26) (t':=26) rfl rfl rfl (hcp2 _ rfl _ _)) ?_)
 go_ret
 exact⟨rfl,R1,R2,rfl,hf1,hf2⟩
set_option maxHeartbeats 4000000 in
def Qmv(k:Nat)(hk:0<k)(zE:∀w,(L1 62).run pZ w=.ok k w)(base:Option Le)(n c vb m vc:Nat)(w w':X)(v':K4)(hm:0<m)(hnc:n<=c)(hc:c<=maxLen)(hnil:base=S->n=0/\c=0)
  (hap:(Lz #[26,26] 26 #[.slice base n c,.slice (O ⟨vb,0,S⟩) m vc]).run pZ w=.ok v' w'):
  Lh pZ 205 #[.slice base n c,.int .i64 n,.slice (O ⟨vb,0,S⟩) m vc] w λe w2=>e=.returned v'/\w2=w':=by
 have hz1:¬((m:Int)=0):=Aa
 have h63:c<=9223372036854775807:=by unfold maxLen at hc;omega
 have mixed:pZ.follows Lw=true:=Ah
 cases base with
 |none=>
  obtain⟨rfl,rfl⟩:=hnil rfl
  go_enter Tryz.func205,Tryz.ntmps205
  go_wp2_with (at_builtin;refine VE rfl (Zcr (t:=26) (t':=26) rfl rfl rfl hap) ?_)
  go_ret
  exact⟨rfl,rfl⟩
 |some ad=>
  go_enter Tryz.func205,Tryz.ntmps205
  go_wp2_with (at_builtin;refine VE rfl (Zcr (t:=26) (t':=26) rfl rfl rfl hap) ?_)
  all_goals (go_ret;exact⟨rfl,rfl⟩)
set_option maxHeartbeats 4000000 in
def Qi1(k:Nat)(hk:0<k)(zE:∀w,(L1 62).run pZ w=.ok k w)(b n c i vb m vc g G:Nat)(cur vcur ROW:Array K4)(t:TypeId)(w W1:X)(hi:i<n)(hm:0<m)(hnc:n<=c)(hroom:c<n+m)(hc:c<=maxLen)(hGn:n+m<=G)(hGm:G<=maxLen)
  (hb:W1.heap[b]? =O (.cells cur 62 (0,0))) (hcs:cur.size=c*k) (hv:W1.heap[vb]? =O (.cells vcur t (0,0))) (hvs:m*k<=vcur.size) (hg:W1.heap[g]? =O (.cells ROW 62 (0,0))) (hRs:ROW.size=G*k) (hgb:b≠g) (hgv:vb≠g)
  (h1:∀u∈cur.toList.take (n*k),u.oneCell'=K3) (h1v:∀u∈vcur.toList.take (m*k),u.oneCell'=K3)
  (hap:(Lz #[26,3] 26 #[.slice (O ⟨b,0,S⟩) i c,.int .i64 ((n:Int)+(m:Int)- (i:Int))]).run pZ w=.ok (.slice (O ⟨g,0,S⟩) (n+m) G) W1):
  Lh pZ 205 #[.slice (O ⟨b,0,S⟩) n c,.int .i64 i,.slice (O ⟨vb,0,S⟩) m vc] w λe w'=>
   e=.returned (.slice (O ⟨g,0,S⟩) (n+m) G)/\ ∃R1 R2:Array K4,w'=((W1.setRow g R1).drew).setRow g R2/\R2.size=ROW.size/\
    R2.toList.take ((n+m)*k)=ROW.toList.take (i*k)++vcur.toList.take (m*k)++(cur.toList.take (n*k)).drop (i*k):=by
 have hz1:¬((m:Int)=0):=Aa
 have hz2:¬((i:Int)=(n:Int)):=Aa
 have hz3:(c:Int)<(n:Int)+(m:Int):=Aa
 have h63:c<=9223372036854775807:=by unfold maxLen at hc;omega
 have hG63:G<=9223372036854775807:=by unfold maxLen at hGm;omega
 have hw1:Lr.wrap ((i:Int)+(m:Int))=(i:Int)+(m:Int):=by rw[Ls];omega
 have hw2:Lr.wrap ((n:Int)+(m:Int))=(n:Int)+(m:Int):=by rw[Ls];omega
 have hw3:Lr.wrap ((n:Int)+(m:Int)- (i:Int))=(n:Int)+(m:Int)- (i:Int):=by rw[Ls];omega
 have hb1:(0:Int)<=(i:Int)+(m:Int):=Aa
 have hin:i<=n:=Aa
 have htn:((i:Int)+(m:Int)).toNat=i+m:=Aa
 have hb3:(i:Int)<=(n:Int)+(m:Int):=Aa
 have hGi:¬(G=i):=Aa
 have hGim:¬(G=i+m):=Aa
 have hci:¬(c=i):=Aa
 obtain⟨C,hC⟩:∃C,C=(cur.toList.take (n*k)).drop (i*k):=⟨_,rfl⟩
 obtain⟨V,hV⟩:∃V,V=vcur.toList.take (m*k):=⟨_,rfl⟩
 have hnk:n*k<=cur.size:=by rw[hcs];exact Lc _ hnc
 have hmk:(n+m)*k<=ROW.size:=by rw[hRs];exact Lc _ hGn
 have hCl:C.length=(n-i)*k:=by rw[hC];simp only[Li,Y,Array.length_toList];rw[Lt hnk,Ma]
 have hVl:V.length=m*k:=by rw[hV];simp only[Y,Array.length_toList];omega
 have e1:(i+m)*k+(n-i)*k=(n+m)*k:=by rw[<-Lk];congr 1;omega
 have e2:i*k+m*k=(i+m)*k:=by rw[<-Lk]
 obtain⟨R1,hR1⟩:∃R1:Array K4,R1=(ROW.toList.take (i*k)++V++ROW.toList.drop (i*k+V.length)).toArray:=⟨_,rfl⟩
 have hR1s:R1.size=ROW.size:=by rw[hR1];simp only[Lm,Lg,Y,Li,Array.length_toList];omega
 obtain⟨R2,hR2⟩:∃R2:Array K4,R2=(R1.toList.take ((i+m)*k)++C++R1.toList.drop ((i+m)*k+C.length)).toArray:=⟨_,rfl⟩
 have hcp1:∀(W:X),W.heap=W1.heap-> ∀ty dc,(L0 #[26,26] ty #[.slice (O ⟨g,i*k,S⟩) (n+m-i) dc,.slice (O ⟨vb,0,S⟩) m vc]).run pZ W=.ok (goInt m) (W.setRow g R1):=λW hW ty dc=>by
  rw[hR1];exact Zxz Ah zE W ty g (i*k) (n+m-i) dc ⟨vb,0,S⟩ m vc ROW 62 V (by rw[hW];exact hg) m (by simp only[L3];split<;>omega) hVl
   (λj u hj=>by
    rw[hV,Ll]at hj;split at hj
    ·rw[Lq];simp only[Lv,hW,hv];simpa using hj
    ·cases hj) Aa (λu hu=>h1v u (by rw[hV]at hu;exact hu))
 have hcp2:∀(W:X),W.heap=(W1.setRow g R1).heap-> ∀ty dc sc,(L0 #[26,26] ty #[.slice (O ⟨g,(i+m)*k,S⟩) (n+m- (i+m)) dc,.slice (O ⟨b,i*k,S⟩) (n-i) sc]).run pZ W=.ok (goInt (n-i:Nat)) (W.setRow g R2):=λW hW ty dc sc=>by
  rw[hR2];exact Zxz Ah zE W ty g ((i+m)*k) (n+m- (i+m)) dc ⟨b,i*k,S⟩ (n-i) sc R1 62 C (by rw[hW];exact Zv1 hg) (n-i) (by simp only[L3];split<;>omega) hCl
   (λj u hj=>by
    rw[hC,L6,Ll]at hj;split at hj
    ·rw[Lq];have hd:W.heap[b]? =O (.cells cur 62 (0,0)):=by rw[hW];exact(Zv2 hgb).trans hb
     simp only[Lv,hd];simpa using hj
    ·cases hj) Aa (λu hu=>h1 u (by rw[hC]at hu;exact L7 hu))
 have hTi:(ROW.toList.take (i*k)).length=i*k:=by
  have:i*k<=(n+m)*k:=Lc _ Aa;rw[Y,Array.length_toList];omega
 have r1:R1.toList.take ((i+m)*k)=ROW.toList.take (i*k)++V:=by
  rw[hR1];simp only[];rw[Ly (by rw[Lg,hTi,hVl,e2])]
 have hf1:R2.size=ROW.size:=by rw[hR2];simp only[Lm,Lg,Y,Li,Array.length_toList];omega
 have hf2:R2.toList.take ((n+m)*k)=ROW.toList.take (i*k)++V++C:=by
  rw[hR2];simp only[];rw[r1,Ly (by simp only[Lg,hTi,hVl,hCl];omega)]
 rw[<-hV,<-hC];clear hR1 hR2 hC hV r1 hTi e1 e2 hR1s hCl hVl hnk hmk h1 h1v hvs hcs hv hb hg hRs;have mixed:pZ.follows Lw=true:=Ah
 go_enter Tryz.func205,Tryz.ntmps205
 go_wp2_with (at_builtin;first|refine VE rfl (Zcr (t:=26) (t':=3) rfl rfl rfl hap) ?_|refine VE rfl (Zk6 (t:=26) (t':=26) rfl rfl rfl (hcp1 _ rfl _ _)) ?_)
 go_region_law_o (refine Zvc rfl (Zk6 (t:=26) (t':=26) rfl (by simp[Lo,Lp]) (by simp[Lo,Lp]) (hcp2 (W1.setRow g R1).drew (Eq.refl (W1.setRow g R1).heap) 3 (G- (i+m)) (c-i))) ?_)
 go_wp2
 go_ret
 exact⟨rfl,R1,R2,rfl,hf1,hf2⟩
def Qmu{t:Ty}(hT:TOK pZ 26 (.slice 62 t))(hT2:TOK pZ 62 t){vy:K4}{ys:List K4}{l l4:List t.den}{i:Nat}
  (hown:w.ownsRow 0 62 t.size v l.length xs) (hy:w.ownsRow 0 62 t.size vy l4.length ys) (hne:∀b,v.ownBlock=O b->vy.ownBlock≠O b) (hi:i<=l.length) (hm:0<l4.length) (hp:l.length+l4.length<=Qp)
  (h1:∀u∈xs,u.oneCell'=K3) (h1v:∀u∈ys,u.oneCell'=K3):
  Lh pZ 205 #[v,.int .i64 i,vy] w λe w'=> ∃v',e=.returned v'/\w'.ownsRow 0 62 t.size v' (l.length+l4.length) (xs.take (i*t.size)++ys++xs.drop (i*t.size))/\w.grownBy w' v.ownBlock/\(v'.ownBlock=v.ownBlock\/ ∀b,v'.ownBlock=O b->w.heap.size<=b):=by
 have hp':l.length+l4.length<=17179869184:=hp;obtain⟨hu,hpos⟩:=hT.slice;have zE:=λw=>hT2.sizeOf w;obtain⟨hyl,hy2⟩:=hy;rcases hy2 with⟨_,h0⟩|⟨vb,vc,vcur,rfl,_,hv,hmc,hvm,hvs,hvt⟩
 ·omega
 have hvs':l4.length*t.size<=vcur.size:=by rw[hvs];exact Lc _ hmc
 have ends:∀base n c,v=.slice base n c->n=l.length->n<=c->c<=maxLen->(base=S->n=0/\c=0)->i=n->Lh pZ 205 #[v,.int .i64 i,.slice (O ⟨vb,0,S⟩) l4.length vc] w λe w'=> ∃v',e=.returned v'/\w'.ownsRow 0 62 t.size v' (l.length+l4.length) (xs.take (i*t.size)++ys++xs.drop (i*t.size))/\w.grownBy w' v.ownBlock/\(v'.ownBlock=v.ownBlock\/ ∀b,v'.ownBlock=O b->w.heap.size<=b):=by
  rintro base n c rfl rfl hnc hc hnil rfl;obtain⟨v',w',g1,g2,g3,g4⟩:=Zf0 hT hT2 hown (l4:=l4) (ys:=ys) ⟨O ⟨vb,0,S⟩,vc,rfl,hmc,.inr ⟨_,rfl,λj u hj=>by
   rw[<-hvt,Ll]at hj;split at hj
   ·rw[Lq];simp only[Lv,hv];simpa using hj
   ·cases hj⟩⟩ hyl h1v hp (Lu _)
  refine(Qmv t.size hpos zE base _ c vb _ vc w w' v' hm hnc hc hnil g1).mono λe w2 ⟨he,hw⟩=>?_;subst hw;refine⟨v',he,?_,g3,g4⟩;have e1:xs.take (l.length*t.size)=xs:=List.take_of_length_le (by rw[hown.1];exact Ln _);have e2:xs.drop (l.length*t.size)=[]:=List.drop_of_length_le (by rw[hown.1];exact Ln _);rw[e1,e2,List.append_nil];exact g2
 rcases hown.2 with⟨rfl,h0⟩|⟨b,c,cur,rfl,_,hb,hnc,hc,hcs,htk⟩
 ·exact ends S 0 0 rfl h0.symm (Ln _) (Lu _) (λ_=>⟨rfl,rfl⟩) Aa
 by_cases hin:i=l.length
 ·exact ends (O ⟨b,0,S⟩) l.length c rfl rfl hnc hc (λh=>by cases h) hin
 have hil:i<l.length:=Aa
 have hvb:vb≠b:=λe=>hne b rfl (by rw[e];rfl);have h1':∀u∈cur.toList.take (l.length*t.size),u.oneCell'=true:=by rw[htk];exact h1
 have h1v':∀u∈vcur.toList.take (l4.length*t.size),u.oneCell'=true:=by rw[hvt];exact h1v
 have hlen:(xs.take (i*t.size)++ys++xs.drop (i*t.size)).length=(l.length+l4.length)*t.size:=by
  have:i*t.size<=l.length*t.size:=Lc _ hi;simp only[Lg,Y,Li,hown.1,hyl,Lk];omega
 have hcap:l.length+l4.length<=maxLen:=by simp only[maxLen];omega
 by_cases hroom:l.length+l4.length<=c
 ·refine(Qfz t.size hpos zE b _ c i vb _ vc cur vcur 62 w hil hm hroom hc hvb hb hcs hv hvs' h1' h1v').mono ?_;rintro e w' ⟨he,R1,R2,rfl,hs,ht⟩;have hik:i*t.size<=l.length*t.size:=Lc _ hi;have hct:cur.toList.take (i*t.size)=xs.take (i*t.size):=by rw[<-htk,L2,Lt hik]
  rw[htk,hvt,hct]at ht;refine⟨_,he,⟨hlen,.inr ⟨b,c,R2,rfl,Lu _,Zv1 (Zv1 (W:=w.drew) hb),hroom,hc,by rw[hs,hcs],ht⟩⟩,?_,.inl rfl⟩;refine⟨rfl,rfl,rfl,by rw[Z3w,Z3w];exact Ln _,λx hx hne=>?_⟩;have:x≠b:=λe=>hne (by rw[e];rfl);rw[Zv2 this,Zv2 this];rfl
 ·obtain⟨i0,hi0,his,hby,hz0⟩:=hT2.size;have hzs:(Jd t (al t)).cells.size=t.size:=by rw[KE hT2.plain];simp[KL hT2.plain]
  have hbt:(l.length+l4.length)*i0.bytes<=140737488355328:=by
   have:(l.length+l4.length)*i0.bytes<=17179869184*8192:=Nat.mul_le_mul hp' hby;omega
  have hik:i*t.size<=l.length*t.size:=Lc _ hi;have hold:(Ld.firstCells i0.size i (.slice (O ⟨b,0,S⟩) i c)).run pZ w.drew=.ok (xs.take (i*t.size)).toArray w.drew:=
   run_firstCells_some w.drew i0.size i ⟨b,0,S⟩ i c (xs.take (i*t.size)) (by rw[Y,hown.1,his];omega) λj u hj=>by
    rw[Ll]at hj;split at hj
    ·exact X.ownsRow.cells (w:=w) hown rfl j u hj
    ·cases hj
  have ek:i+(l.length+l4.length-i)=l.length+l4.length:=Aa
  have h48:(l.length+l4.length-i)*i0.bytes<=281474976710656:=by
   have:(l.length+l4.length-i)*i0.bytes<=(l.length+l4.length)*i0.bytes:=Lc _ Aa;omega
  have hap:=Lib.run_append_grow_zeros (P:=pZ) w 26 3 26 62 i0 _ .i64 .i64 hu Ah hi0 hz0 (O ⟨b,0,S⟩) i c _ hold (l.length+l4.length-i) Aa (by rw[his];exact hpos) Aa
   (by simp only[maxLen]at hcap;omega) h48 (by rw[ek];exact growslice_fits (by omega) hbt)
  rw[ek,show(((l.length+l4.length-i:Nat)):Int)=(l.length:Int)+(l4.length:Int)- (i:Int) by omega]at hap;have hge:=grownCap_ge w (l.length+l4.length) c 62;have hcm:grownCap w (l.length+l4.length) c 62<=maxLen:=grownCap_le_maxLen w (l.length+l4.length) c 62 hcap;generalize grownCap w (l.length+l4.length) c 62=G at hap hge hcm;obtain⟨ROW,hROW⟩:∃ROW:Array K4,ROW=(xs.take (i*t.size)).toArray++L5 (Jd t (al t)).cells (l.length+l4.length-i)++L5 (Jd t (al t)).cells (G- (l.length+l4.length)):=⟨_,rfl⟩
  rw[<-hROW]at hap;have hRs:ROW.size=G*t.size:=by
   have e3:i+(l.length+l4.length-i)+(G- (l.length+l4.length))=G:=Aa
   rw[<-e3,hROW];simp only[Array.size_append,Lm,size_zeroCells,hzs,Y,hown.1,Lk,Lt hik]
  have hRt:ROW.toList.take (i*t.size)=xs.take (i*t.size):=by
   rw[hROW];simp only[Array.toList_append,Lx];rw[Ly (by rw[Y,hown.1];omega)]
  have hbw:b<w.heap.size:=by
   by_cases h:b<w.heap.size
   ·exact h
   ·rw[Array.getElem?_eq_none Aa]at hb;cases hb
  have hvw:vb<w.heap.size:=by
   by_cases h:vb<w.heap.size
   ·exact h
   ·rw[Array.getElem?_eq_none Aa]at hv;cases hv
  have hW1:∀x,x<w.heap.size->(w.drew.alloc (.cells ROW 62)).heap[x]? =w.heap[x]? :=λx hx=>heap_alloc_old w.drew _ hx;refine(Qi1 t.size hpos zE b _ c i vb _ vc w.heap.size G cur vcur ROW 62 w (w.drew.alloc (.cells ROW 62)) hil hm hnc Aa hc hge hcm (by rw[hW1 b hbw];exact hb) hcs (by rw[hW1 vb hvw];exact hv) hvs' (heap_alloc_new w.drew _) hRs Aa Aa h1' h1v' hap).mono ?_;rintro e w' ⟨he,R1,R2,rfl,hs,ht⟩;rw[htk,hvt,hRt]at ht;refine⟨_,he,⟨hlen,.inr ⟨w.heap.size,G,R2,rfl,Lu _,Zv1 (W:=((w.drew.alloc (.cells ROW 62)).setRow w.heap.size R1).drew) (Zv1 (heap_alloc_new w.drew _)),hge,hcm,by rw[hs,hRs],ht⟩⟩,?_,.inr λb' hb'=>?_⟩
  ·refine⟨rfl,rfl,rfl,?_,λx hx hne=>?_⟩
   ·rw[Z3w];show w.heap.size<=((w.drew.alloc (.cells ROW 62)).setRow w.heap.size R1).heap.size;rw[Z3w];simp[X.alloc]
   ·have:x≠w.heap.size:=Aa
    rw[Zv2 this];show((w.drew.alloc (.cells ROW 62)).setRow w.heap.size R1).heap[x]? =_;rw[Zv2 this];exact hW1 x hx
  ·simp only[K4.ownBlock,pB]at hb';omega
abbrev Zwv:FnB:=⟨205,[.mv (.slice 62 Zy) sC,.sh wS,.mv (.slice 62 Zy) sC],.vals [.slice 62 Zy],u3 Qi0⟩
def Zue:yi pZ glob Zwv:=yi.insert Tryz.call205 λh1 h2 h3 h4 h5 h6 h7 h8=>Qmu Qk8 Qla h1 h2 h3 h4 h5 h6 h7 h8
def Zdb:okE ⟨95,[.slice 62 Zy,Zy],[.slice 62 Zy],u2 lB⟩:=
 ofE (sQ WD Yb zQ eN) (Z7 Zue Zd) func95 call95 (sJ (.join [.shp 3 Zy,wQ 5 sC,pV 7 tI] (u3 m9) sA sA)) (λv=>Ah)
def Zok:okE ⟨24,[Zq,.bool],[wS,Zq,.bool],u2 yZ⟩:=
 ofE (sS Xp aI Zt2 Z0q Zda Zdb) (Z7 ul Zd) func24 call24 (sJ (.join [pV 1 .bool,tX 2 sD,tX 5 sC,tX 7 (sE (sE (sE (.p sC (sE (sE (sE (sE sC)))))))),pV 8 tI,pV 10 .bool] (u6 cy) sA sA)) (λv=>Ah)
abbrev Zzl:FnE:=⟨96,[wS],[.str],u1 Zg6⟩
def Zxh:lh pZ glob Zzl:=
 lh.intStr Tryz.call96 λn w hg h0 h1=>(Tryz.strconv_Itoa n h0 h1 w (Vc.vars_eq hg 1 Ai rfl rfl)).mono λe w' ⟨he,k,os,hw⟩=>⟨he,hw▸Go.Lib.below_grow _ _ (Ln _) k os⟩
def Zrb:okE ⟨26,[wS],[.str],u1 ly⟩:=
 ofE (sN Zxh) Zd func26 call26 sA
def Z6l:okE ⟨25,[.bool,.str,.str],[.str],u3 ZB⟩:=
 ofE Zg Zd func25 call25 sA
def Zfb:okE ⟨207,[Zx],[.bool],u1 yr⟩:=
 ofE (sN xC) Zd func207 call207 sA
def Z0r:okE ⟨317,[Ks],[wS],u1 JO⟩:=
 ofE (sN XI) Zd func317 call317 sA
def Zrm:okE ⟨208,[Ks,.str],[Ks,wS],u2 QT⟩:=
 ofE (sO YZ Z0r) Zd func208 call208 (sG (.join [pV 1 .str,wC 2 sD,wC 4 sC,wC 6 sC,pV 7 tI] (u5 uP) sA (sF [pV 1 .str,wC 2 sD,wC 4 sC,wC 6 sC,pV 7 tI,pV 16 tI,pV 17 tI] (λN=>u7 (nf N)) (u7 QU) (λK1=>sA)))) ⟨(λv=>Ah),λ_=>rfl,λN v=>Ah⟩
abbrev zC:FnE:=⟨99,[Zx,.str],[Zx,wS],u2 pe⟩
def Zmd:okE zC:=
 ofE (sQ aH Zfb Zrm kF) Zd func99 call99 sA
abbrev nB:nR:={f:=98,n:=19,np:=4,rv:=Tryz.f98.results.toList,run:=λln _ k s=>Jw (Vk [] ln [zC] [] [] []) 19 (Y0 Tryz.f98) .leaf k s}
def YQ:Y6 pZ glob nB:=Y6.of (C:=Vk [] [] [zC] [] [] []) (λln=>Ye (ln:=ln) Xi rfl (sN Zmd) Xe Zd Xf) Tryz.func98 rfl Tryz.call98 Ai rfl rfl .leaf (λ_ _ _=>rfl)
abbrev Znf:nR:={f:=97,n:=61,np:=4,rv:=Tryz.f97.results.toList,run:=λln _ k s=>Jw (Vk [nB] ln [Xd,Xy,Vt] [] [] []) 61 (Y0 Tryz.f97) .leaf k s}
def Z0a:Y6 pZ glob Znf:=Y6.of (C:=Vk [nB] [] [Xd,Xy,Vt] [] [] []) (λln=>Ye (ln:=ln) (Qk YQ Xi) rfl (sP Xp Yb aI) Xe Zd Xf) Tryz.func97 rfl Tryz.call97 Ai rfl rfl .leaf (λ_ _ _=>rfl)
abbrev Zav:FnE:=⟨27,[Zq,wS,.str],[wS,Zq],u3 xq⟩
def Zme:lh pZ glob Zav:=by
 refine lh.of (e:=Zav) (C:=Vk [nB,Znf] [] [] [] [] []) (Ye (Qk YQ (Qk Z0a Xi)) rfl Zg Xe Zd Xf) rfl Tryz.func27 (c:=Y0 Tryz.f27) rfl Tryz.call27 Ai
  sA ?_ ?_
 ·exact lf
 ·intro xs r h;refine Lb (La ?_) h;kernel_rfl
def Zrk:okB ⟨211,[.sh Xh,.sh wS],.shr [.str,Xh],u2 QS⟩:=
 ofB [] (sO zP Zbd) Zd func211 call211 (sG (.join [wD 5 sC,wD 6 sC,pV 7 tI] (u3 uN) sA (.seq (sG (.cond (sG (.frz [(5,.u U)])) sA)) (sH (.join [wD 5 sC,wD 6 (sE (sE sC)),pV 8 .str] (u3 uO) (sG (.cond (.frz [(6,.u U)]) sA)) sA))))) ⟨(λv=>Ah),λv=>Ah⟩
abbrev xS:FnB:=⟨101,[.sh Qi,.sh wS],.shr [.str,Qi],u2 na⟩
def Zj2:okB xS:=
 ofB [] (sO nl fN) (Z7 Zrk Zd) func101 call101 (sH (.seq (sG (.cond (sG (.frz [(5,.u U)])) sA)) (.seq (sG (.cond (sH (.frz [(5,.u U)])) sA)) (sH (.join [wG 5 sC,wG 6 sD,pV 7 .str] (u3 vz) sA sA))))) (λv=>Ah)
abbrev YU:FnE:=⟨212,[Yi,wS],[Yi,.bool],u2 aG⟩
def Zri:okE YU:=
 ofE (sO kH Qf) Zd func212 call212 sA
def Zog:okE ⟨297,[Zy],[.bool],u1 VL⟩:=
 ofE Zg Zd func297 call297 sA
def Zoe:okE ⟨401,[Qi],[.bool],u1 VK⟩:=
 ofE (sN fN) Zd func401 call401 sA
def Zof:okE ⟨298,[Zy],[.bool],u1 yV⟩:=
 ofE (sN Zoe) Zd func298 call298 sA
abbrev nU:FnE:=⟨172,[Zy],[.bool],u1 J7⟩
def XH:okE nU:=
 ofE (sP Ze9 Zog Zof) Zd func172 call172 sA
abbrev vg:FnB:=⟨214,[.bx 37 Zq sC,.sh wS],.fp Zq 0 [9] [8],u2 Z5⟩
def YS:okB vg:=
 ofB [0] (sN mF) Zd func214 call214 sA
abbrev uc:FnB:=⟨214,[.bx 37 Zq (sE (sE (sE (.p (.p sC sD) sC)))),.sh wS],.fp Zq 0 [9] [8],u2 Xk⟩
def Zgp:okB uc:=
 ofB [0] (sN mF) Zd func214 call214 sA
abbrev jg:FnE:=⟨213,[Qx],[Qx,.bool],u1 Z0⟩
def YX:okE jg:=
 ofE (sN za) Zd func213 call213 sA
abbrev iw:nR:={f:=102,n:=38,np:=3,rv:=Tryz.f102.results.toList,run:=λln _ k s=>Jw (Vk [] ln [YU] [] [] []) 38 (Y0 Tryz.f102) .leaf k s}
def YL:Y6 pZ glob iw:=Y6.of (C:=Vk [] [] [YU] [] [] []) (λln=>Ye (ln:=ln) Xi rfl (sN Zri) Xe Zd Xf) Tryz.func102 rfl Tryz.call102 Ai rfl rfl .leaf (λ_ _ _=>rfl)
abbrev Kx:nR:={f:=110,n:=16,np:=2,rv:=Tryz.f110.results.toList,run:=λln _ k s=>Jw (Vk [] ln [Xy] [] [] []) 16 (Y0 Tryz.f110) .leaf k s}
def ez:Y6 pZ glob Kx:=Y6.of (C:=Vk [] [] [Xy] [] [] []) (λln=>Ye (ln:=ln) Xi rfl (sN Yb) Xe Zd Xf) Tryz.func110 rfl Tryz.call110 Ai rfl rfl .leaf (λ_ _ _=>rfl)
abbrev rG:nR:={f:=103,n:=43,np:=2,rv:=Tryz.f103.results.toList,run:=λln _ k s=>Jw (Vk [Kx] ln [rq,nU,jg] [] [uc] []) 43 (Y0 Tryz.f103) .leaf k s}
def Ze0:Y6 pZ glob rG:=Y6.of (C:=Vk [Kx] [] [rq,nU,jg] [] [uc] []) (λln=>Ye (ln:=ln) (Qk ez Xi) rfl (sP od XH YX) Xe (Z7 Zgp Zd) Xf) Tryz.func103 rfl Tryz.call103 Ai rfl rfl .leaf (λ_ _ _=>rfl)
abbrev oF:nR:={f:=100,n:=51,np:=6,rv:=Tryz.f100.results.toList,run:=λln _ k s=>Jw (Vk [iw,rG] ln [] [] [xS] []) 51 (Y0 Tryz.f100) (FA.an (.seq .leaf (.seq (.frz [(1048586,(.p sC (.p sC (.p sC (.p (.p sC sD) sC)))))]) .leaf))) k s}
def JR:Y6 pZ glob oF:=Y6.of (C:=Vk [iw,rG] [] [] [] [xS] []) (λln=>Ye (ln:=ln) (Qk YL (Qk Ze0 Xi)) rfl Zg Xe (Z7 Zj2 Zd) Xf) Tryz.func100 rfl Tryz.call100 Ai rfl rfl (.seq .leaf (.seq (.frz [(1048586,(.p sC (.p sC (.p sC (.p (.p sC sD) sC)))))]) .leaf)) (λ_ _ _=>rfl)
abbrev Zhw:nR:={f:=97,n:=61,np:=4,rv:=Tryz.f97.results.toList,run:=λln _ k s=>Jw (Vk [oF] ln [Xd,Xy,Vt] [] [] []) 61 (Y0 Tryz.f97) .leaf k s}
def Ztj:Y6 pZ glob Zhw:=Y6.of (C:=Vk [oF] [] [Xd,Xy,Vt] [] [] []) (λln=>Ye (ln:=ln) (Qk JR Xi) rfl (sP Xp Yb aI) Xe Zd Xf) Tryz.func97 rfl Tryz.call97 Ai rfl rfl .leaf (λ_ _ _=>rfl)
abbrev Zck:FnB:=⟨28,[.sh Zq,.sh wS,.sh wS],.flg [(.str,sC),(.bool,sC),(Zq,(sE (sE (sE (sE sC)))))],u3 y5⟩
def Zon:yi pZ glob Zck:=by
 refine yi.of (e:=Zck) (C:=Vk [oF,Zhw] [] [] [] [] []) (Ye (Qk JR (Qk Ztj Xi)) rfl Zg Xe Zd Xf) rfl rfl Tryz.func28 (c:=Y0 Tryz.f28) rfl Tryz.call28 Ai
  ((sJ (.frz [(8,(sE (sE (sE (sE sC)))))]))) ?_ ?_
 ·exact⟨lf,lf,lf,lf,trivial⟩
 ·intro xs r h;refine Lb (La ?_) h;kernel_rfl
def Zq9:okE ⟨29,[.str],[.str],u1 vq⟩:=
 ofE Zg Zd func29 call29 (sH (sF [pV 0 .str,wN 3 sC,pV 4 tI] (λN=>u3 (mZ N)) (u3 ry) (λK1=>sA))) ⟨λ_=>rfl,λN v=>Ah⟩
def Zc9:okE ⟨324,[Yi],[.bool],u1 QM⟩:=
 ofE (sN kH) Zd func324 call324 sA
abbrev rr:FnE:=⟨221,[Yi,wS,wS],[Yi,.bool],u3 pa⟩
def yb:okE rr:=
 ofE (sO Zc9 Qf) Zd func221 call221 (sH (.join [pV 1 tI,.box 3 30 Yi sD,.box 6 30 Yi sD] (u3 xV) sA sA)) (λv=>Ah)
def ZD:okE ⟨215,[Zq,Yi,.bool],[wS,.bool],u3 ij⟩:=
 ofE (sO Zc9 yb) Zd func215 call215 sA
def Zc8:okE ⟨325,[Qx],[.bool],u1 vw⟩:=
 ofE (sN za) Zd func325 call325 sA
abbrev Zcj:FnE:=⟨222,[Qx],[Qx,.bool],u1 mB⟩
def Zbc:okE Zcj:=
 ofE (sN Zc8) Zd func222 call222 sA
def Zro:okE ⟨216,[Qx,.bool],[wS,.bool],u2 v8⟩:=
 ofE (sO Zc8 Zbc) Zd func216 call216 sA
abbrev Zf6:FnE:=⟨243,[Qi],[.bool],u1 lG⟩
def yx:okE Zf6:=
 ofE Zg Zd func243 call243 sA
def Zfa:okE ⟨218,[Qx],[.bool],u1 Zd5⟩:=
 ofE (sN cQ) Zd func218 call218 sA
def Zb5:okE ⟨217,[Zq,Zy],[.slice 118 Zt],u2 kf⟩:=
 ofE (sP yx ZD Zfa) Zd func217 call217 (sH (.join [tX 2 sD,wE 3 sD,wA 5 sC] (u3 br) sA (.join [tX 2 sD,wE 3 sD,wA 5 sC] (u3 bt) sA (.join [wE 3 sD,wA 5 sC] (u2 eQ) sA sA)))) ⟨(λv=>Ah),(λv=>Ah),λv=>Ah⟩
abbrev JL:FnE:=⟨104,[Zq],[.slice 118 Zt],u1 rt⟩
def Zh6:okE JL:=
 ofE (sR aI ZD Zro Zb5 Zfa) Zd func104 call104 (sI (.join [tX 1 sD,wA 3 sC] (u2 fd) sA (.join [tX 1 sD,wA 3 sC] (u2 fe) sA (.join [tX 1 sD,wA 3 sC] (u2 ff) sA (.seq (sG (.block (.loop [tX 1 sD,wA 3 sC,pV 61 (.slice 62 Zy),pV 62 tI,pV 63 tI] (λN=>u5 (fg N)) (u5 vn) (λK1=>sA)))) (.join [tX 1 sD,wA 3 sC] (u2 ue) sA (.join [tX 1 sD,wA 3 sC] (u2 uf) sA sA))))))) ⟨(λv=>Ah),(λv=>Ah),(λv=>Ah),⟨λ_=>rfl,λN v=>Ah⟩,(λv=>Ah),λv=>Ah⟩
def Zh8:okE ⟨326,[wS],[.str],u1 Ya⟩:=
 ofE Zg Zd func326 call326 sA
def Zt8:okE ⟨416,[wS],[wS],u1 KV⟩:=
 ofE (sN Kw) Zd func416 call416 sA
def Zba:okE ⟨328,[wS],[.str],u1 Y7⟩:=
 ofE (sN Zt8) Zd func328 call328 (sJ (.seq (sG (.block (.loop [pV 0 tI,pV 3 tI,wN 4 sC,pV 5 tI] (λN=>u4 (Kn N)) (u4 cO) (λK1=>sA)))) (.join [wN 4 sC] (u1 cw) sA sA))) ⟨⟨λ_=>rfl,λN v=>Ah⟩,λv=>Ah⟩
def Zlz:okE ⟨327,[.slice 3 wS],[.str],u1 aZ⟩:=
 ofE (sO Kw Zba) Zd func327 call327 (sH (sF [pV 3 .str,pV 6 (.slice 3 wS),pV 7 tI,pV 8 tI] (λN=>u4 (bw N)) (u4 nY) (λK1=>sA))) ⟨λ_=>rfl,λN v=>Ah⟩
def WA:okE ⟨219,[Zt],[.str],u1 fJ⟩:=
 ofE (sR eA Zh8 Zlz JU Zba) Zd func219 call219 (sI (.seq (sG (.block (sG (.cond sA (sG (.cond sA (sG (.cond (sG (.join [tZ 1 sD,pV 4 .str] (u2 W5) sA sA)) (.join [tZ 1 sD,pV 3 (.fnc 326),pV 9 tI,pV 73 .bool] (u4 Xv) sA (.cond sA (.join [tZ 1 sD,pV 3 (.fnc 326),pV 84 .bool] (u3 Kv) sA sA))))))))))) sA)) ⟨λv=>Ah,(λv=>Ah),λv=>Ah⟩
abbrev Zek:FnE:=⟨105,[Zt],[wS],u1 oX⟩
def Zc7:okE Zek:=
 ofE (sN WA) Zd func105 call105 sA
abbrev ox:FnE:=⟨223,[Qx],[Qx],u1 uG⟩
def JT:okE ox:=
 ofE (sN cQ) Zd func223 call223 sA
abbrev XO:nR:={f:=224,n:=52,np:=3,rv:=Tryz.f224.results.toList,run:=λln _ k s=>Jw (Vk [] ln [rr,ox] [] [] []) 52 (Y0 Tryz.f224) .leaf k s}
def Zey:Y6 pZ glob XO:=Y6.of (C:=Vk [] [] [rr,ox] [] [] []) (λln=>Ye (ln:=ln) Xi rfl (sO yb JT) Xe Zd Xf) Tryz.func224 rfl Tryz.call224 Ai rfl rfl .leaf (λ_ _ _=>rfl)
abbrev zA:FnE:=⟨106,[Zq,Zt],[Zq],u2 xl⟩
def Zl4:lh pZ glob zA:=by
 refine lh.of (e:=zA) (C:=Vk [XO] [] [Xd,Xy,du,vh,rr,Zcj,ox] [] [mV] []) (Ye (Qk Zey Xi) rfl (sT Xp Yb Kf md yb Zbc JT) Xe (Z7 ul Zd) Xf) rfl Tryz.func106 (c:=Y0 Tryz.f106) rfl Tryz.call106 Ai
  ((sG (.join [tX 2 sD,tZ 3 sD,tX 4 sC,tX 5 sC,pV 6 tI] (λv=>oA v.1 v.2.1 v.2.2.1 v.2.2.2.1 v.2.2.2.2.1) sA sA))) ?_ ?_
 ·exact⟨lf,lf,(λv=>Ah),lf⟩
 ·intro xs r h;refine Lb (La ?_) h;kernel_rfl
def Zfe:okE ⟨329,[.slice 3 wS,wS],[wS],u2 wo⟩:=
 ofE Zg Zd func329 call329 (sG (sF [pV 0 (.slice 3 wS),pV 1 tI,pV 7 tI,pV 8 tI] (λN=>u4 (cV N)) (u4 ce) (λK1=>sA))) ⟨λ_=>rfl,λN v=>Ah⟩
def Zbf:okE ⟨228,[.slice 3 wS,wS],[.bool],u2 iV⟩:=
 ofE (sN Zfe) Zd func228 call228 sA
abbrev Zi6:FnE:=⟨108,[Zq,.slice 3 wS],[.slice 234 Qr],u2 WT⟩
def Zw4:okE Zi6:=
 ofE (sO Qf Zbf) Zd func108 call108 (sH (sF [pV 1 (.slice 3 wS),wL 5 sC,pV 11 (.slice 62 Zy),pV 12 tI,pV 13 tI] (λN=>u5 (mE N)) (u5 v9) (λK1=>sA))) ⟨λ_=>rfl,λN v=>Ah⟩
def YR:okE ⟨225,[.slice 234 Qr],[.bool],u1 lq⟩:=
 ofE (sO Kw zO) Zd func225 call225 (sG (sF [pV 0 (.slice 234 Qr),pV 5 (.slice 234 Qr),pV 6 tI,pV 7 tI] (λN=>u4 (bQ N)) (u4 dB) (λK1=>sA))) ⟨λ_=>rfl,λN v=>Ah⟩
def Z0u:okE ⟨226,[.slice 234 Qr],[.slice 234 Qr],u1 Zcv⟩:=
 ofE Zg Zd func226 call226 (sH (.seq (sG (.block (.loop [pV 0 (.slice 234 Qr),pV 3 tI,wL 4 sC,pV 10 (.slice 234 Qr),pV 11 tI,pV 12 tI] (λN=>u6 (pi N)) (u6 oB) (λK1=>sA)))) (sF [pV 3 tI,wL 4 sC,pV 22 (.slice 234 Qr),pV 23 tI,pV 24 tI] (λN=>u5 (iu N)) (u5 oC) (λK2=>sA)))) ⟨⟨λ_=>rfl,λN v=>Ah⟩,λ_=>rfl,λN v=>Ah⟩
def Zrh:okE ⟨227,[.slice 234 Qr,wS],[wS],u2 QO⟩:=
 ofE (sN YR) Zd func227 call227 (sH (sF [pV 0 (.slice 234 Qr),pV 1 tI,pV 15 (.slice 234 Qr),pV 16 tI,pV 17 tI] (λN=>u5 (iS N)) (u5 kh) (λK1=>sA))) ⟨λ_=>rfl,λN v=>Ah⟩
abbrev Zch:FnE:=⟨107,[.slice 234 Qr,wS],[wS],u2 yY⟩
def Zoj:okE Zch:=
 ofE (sP YR Z0u Zrh) Zd func107 call107 (sI (sF [pV 1 tI,wL 5 sC,.bor 18 5 [],pV 19 tI,pV 20 tI] (λN=>u4 (fL N)) (u4 iR) (λK1=>sA))) ⟨λ_=>rfl,λN v=>Ah⟩
def Zn7:okE ⟨229,[Qx],[wS],u1 VI⟩:=
 ofE (sN cQ) Zd func229 call229 sA
abbrev e_impl_isActive:FnE:=⟨330,[Zx],[.bool],u1 bU⟩
def pl:okE e_impl_isActive:=
 ofE (sO xC Qf) Zd func330 call330 sA
def Zt4:okE ⟨331,[Ks,wS,wS],[.str,.bool],u3 tp⟩:=
 ofE (sO XI Qf) Zd func331 call331 (sI (sF [pV 1 tI,wC 3 sD,wN 8 sC,pV 35 tI,pV 36 tI] (λN=>u5 (o9 N)) (u5 ui) (λK1=>sA))) ⟨λ_=>rfl,λN v=>Ah⟩
def Zrg:okE ⟨230,[Zx,wS,wS],[Km,.bool],u3 QN⟩:=
 ofE (sP pl JU Zt4) Zd func230 call230 (sL (.join [tY 3 sD,wF 6 sD,wH 8 sD,pV 9 tI] (u4 m8) sA sA)) (λv=>Ah)
abbrev Zci:FnE:=⟨113,[wS,Km],[Zt],u2 mA⟩
def Zbb:okE Zci:=
 ofE Zg Zd func113 call113 sA
abbrev Zhi:FnE:=⟨109,[Zq,wS,wS],[Km,.bool],u3 KU⟩
def Zt5:okE Zhi:=
 ofE (sT Yb Kf Zn7 Zrg Zbb Zc7 Qf) Zd func109 call109 (sK (sF [pV 1 tI,pV 2 tI,wF 6 sD,wE 9 sD,pV 10 tI,pV 11 tI] (λN=>u6 (kA N)) (u6 uj) (λK1=>sA))) ⟨λ_=>rfl,λN v=>Ah⟩
abbrev Zas:FnE:=⟨111,[Qx],[Qx],u1 xm⟩
def Zl6:okE Zas:=
 ofE (sN cQ) Zd func111 call111 sA
abbrev e_impl_isInside:FnE:=⟨332,[Zx,Km],[.bool],u2 tq⟩
def Y':okE e_impl_isInside:=
 ofE Zg Zd func332 call332 sA
abbrev e_impl_CommonRanges:FnE:=⟨333,[.slice 218 Zz,.slice 218 Zz],[.slice 218 Zz],u2 iN⟩
def we:okE e_impl_CommonRanges:=
 ofE (sN kG) Zd func333 call333 (sI (sF [pV 1 (.slice 218 Zz),wB 5 sC,pV 22 (.slice 218 Zz),pV 23 tI,pV 24 tI] (λN=>u5 (cL N)) (u5 eO) (λK1=>(sH (.seq (.block (sH (.block (.loop [pV 1 (.slice 218 Zz),wB 5 sC,wH 7 sD,pV 22 (.slice 218 Zz),pV 23 tI,pV 24 tI,pV 28 (.slice 218 Zz),pV 29 tI,pV 30 tI] (λN=>u9 (aD K1 N)) (u9 mr) (λK2=>sA))))) sA))))) ⟨λ_=>rfl,λN=>⟨(λv=>Ah),λ_=>rfl,λN v=>Ah⟩⟩
def xF:okE ⟨295,[.slice 218 Zz,.slice 218 Zz],[.bool],u2 Je⟩:=
 ofE Zg Zd func295 call295 (sH (sF [pV 0 (.slice 218 Zz),pV 1 (.slice 218 Zz),pV 12 tI,pV 13 tI] (λN=>u4 (Yj N)) (u4 K5) (λK1=>sA))) ⟨λ_=>rfl,λN v=>Ah⟩
def ya:okE ⟨169,[.slice 218 Zz,.slice 218 Zz],[.bool],u2 Wu⟩:=
 ofE (sN xF) Zd func169 call169 sA
abbrev e_impl_RemoveRange:FnE:=⟨334,[.slice 218 Zz,Zz],[.slice 218 Zz],u2 kB⟩
def yc:okE e_impl_RemoveRange:=
 ofE (sP kG VP rE) Zd func334 call334 (sI (sF [wH 3 sD,wB 5 sC,pV 19 (.slice 218 Zz),pV 20 tI,pV 21 tI] (λN=>u5 (W6 N)) (u5 gg) (λK1=>(sH (.seq (.block (sG (.join [wH 3 sD,wB 5 sC,wH 7 sD,pV 19 (.slice 218 Zz),pV 20 tI,pV 21 tI] (u6 (ju K1)) sA sA))) sA))))) ⟨λ_=>rfl,λN=>⟨(λv=>Ah),λv=>Ah⟩⟩
def Zrj:okE ⟨231,[Zx,Km],[Zx,.bool],u2 QP⟩:=
 ofE (sU aH pl Y' we ya yc kF uR) Zd func231 call231 (sI (.join [wF 3 sD,tY 4 sC,tY 6 (sE (.p sC (.p sC (.p sC (.p sC sD)))))] (u3 nc) (sG (.cond (sG (.seq (.join [tY 2 sD,wF 3 sD,tY 4 sC,tY 6 sC,wH 7 sD,pV 59 .bool] (u6 QQ) sA sA) sA)) sA)) (.join [tY 4 sC,tY 6 (sE (.p sC (.p sC (.p sC (.p sC sD)))))] (u2 uM) sA sA))) ⟨λv=>Ah,(λv=>Ah),λv=>Ah⟩
def Zrl:okE ⟨232,[Qx,wS],[Qx,.bool],u2 v5⟩:=
 ofE (sO cQ Qf) Zd func232 call232 sA
abbrev Zel:FnE:=⟨112,[Zq,wS,Km],[Zq,.bool],u3 QK⟩
def Zrc:okE Zel:=
 ofE (sR Xp Yb Kf Zrj Zrl) Zd func112 call112 (sG (.join [pV 1 tI,tX 3 sD,wF 5 sD,tX 6 sC,tX 8 sC,pV 9 tI] (u6 uK) sA (sH (.join [pV 1 tI,tX 3 sD,tX 6 sC,tX 8 sC,.elp 10 8 [3] [],tY 11 sC,pV 12 .bool] (u7 QL) sA sA)))) ⟨(λv=>Ah),λv=>Ah⟩
abbrev JM:FnE:=⟨114,[.slice 118 Zt],[.str],u1 zG⟩
def Zh9:okE JM:=
 ofE (sO eA WA) Zd func114 call114 (sH (sF [pV 3 .str,pV 6 (.slice 118 Zt),pV 7 tI,pV 8 tI] (λN=>u4 (fh N)) (u4 lw) (λK1=>sA))) ⟨λ_=>rfl,λN v=>Ah⟩
abbrev Zcd:FnB:=⟨30,[.sh Zq,.sh wS],.flg [(.str,sC),(wS,sC),(Zq,(sE (sE (sE (.p sC sD)))))],u2 ji⟩
def Za9:yi pZ glob Zcd:=by
 refine yi.of (e:=Zcd) (C:=Vk [Kx] [] [Xd,Vt,Zd0,JL,Zek,zA,Zi6,Zch,Zhi,Zas,Zel,Zci,JM] [] [] []) (Ye (Qk ez Xi) rfl (sZ Xp aI Qf Zh6 Zc7 Zl4 Zw4 Zoj Zt5 Zl6 Zrc Zbb Zh9) Xe Zd Xf) rfl rfl Tryz.func30 (c:=Y0 Tryz.f30) rfl Tryz.call30 Ai
  ((sH (.seq (sG (.cond (sG (.frz [(6,(sE (sE (sE (.p sC sD)))))])) sA)) (sG (.seq (sG (.block (.loop [tX 6 sC,tX 7 sC,wA 8 sC,wI 9 sC,pV 10 tI,wA 40 sC,pV 41 tI,pV 42 tI] (λN v=>V9 N v.1 v.2.1 v.2.2.1 v.2.2.2.1 v.2.2.2.2.1 v.2.2.2.2.2.1 v.2.2.2.2.2.2.1 v.2.2.2.2.2.2.2.1) (λv=>iO v.1 v.2.1 v.2.2.1 v.2.2.2.1 v.2.2.2.2.1 v.2.2.2.2.2.1 v.2.2.2.2.2.2.1 v.2.2.2.2.2.2.2.1) (λK1=>sA)))) (.join [tX 6 sC,tX 7 sC,wA 8 sC] (λv=>cv v.1 v.2.1 v.2.2.1) (sG (.block (.loop [tX 6 sC,tX 7 sC,wA 8 sC,wI 9 sC,pV 10 tI,pV 62 tI] (λN v=>aE N v.1 v.2.1 v.2.2.1 v.2.2.2.1 v.2.2.2.2.1 v.2.2.2.2.2.1) (λv=>iP v.1 v.2.1 v.2.2.1 v.2.2.2.1 v.2.2.2.2.1 v.2.2.2.2.2.1) (λK2=>sA)))) (.seq (sG (.cond (sG (.frz [(6,(sE (sE (sE (.p sC sD)))))])) sA)) (.seq (.frz [(8,.u U)]) (sH (.frz [(6,(sE (sE (sE (.p sC sD)))))])))))))))) ?_ ?_
 ·exact⟨lf,lf,⟨lf,⟨lf,trivial⟩,lf⟩,lf,⟨lf,λ_=>rfl,λN=>⟨(λv=>Ah),lf⟩⟩,⟨lf,λ_=>rfl,λN=>⟨(λv=>Ah),lf⟩⟩,(λv=>Ah),⟨lf,⟨lf,trivial⟩,lf⟩,trivial,lf,lf,trivial⟩
 ·intro xs r h;refine Lb (La ?_) h;kernel_rfl
abbrev ZY:FnE:=⟨461,[.str,wS],[wS,wS,.bool],u2 Yr⟩
def Zn8:okE ZY:=
 ofE (sN Qf) Zd func461 call461 (sK (sF [pV 0 .str,pV 1 tI,pV 7 tI,pV 8 tI,pV 9 tI] (λN=>u5 (lv N)) (u5 z9) (λK1=>sA))) ⟨λ_=>rfl,λN v=>Ah⟩
abbrev KD:nR:={f:=417,n:=34,np:=3,rv:=Tryz.f417.results.toList,run:=λln _ k s=>Jw (Vk [] ln [ZY] [] [] []) 34 (Y0 Tryz.f417) .leaf k s}
def Zcz:Y6 pZ glob KD:=Y6.of (C:=Vk [] [] [ZY] [] [] []) (λln=>Ye (ln:=ln) Xi rfl (sN Zn8) Xe Zd Xf) Tryz.func417 rfl Tryz.call417 Ai rfl rfl .leaf (λ_ _ _=>rfl)
abbrev QB:FnE:=⟨418,[.str,wS,wS],[Zt,wS,.bool],u3 sj⟩
def Zoq:lh pZ glob QB:=by
 refine lh.of (e:=QB) (C:=Vk [KD] [] [] [] [] []) (Ye (Qk Zcz Xi) rfl Zg Xe Zd Xf) rfl Tryz.func418 (c:=Y0 Tryz.f418) rfl Tryz.call418 Ai
  ((sI (.join [pV 0 .str,pV 1 tI,pV 2 tI,tZ 6 sD,tZ 9 sD,wM 10 sD,pV 11 .bool] (λv=>Wb v.1 v.2.1 v.2.2.1 v.2.2.2.1 v.2.2.2.2.1 v.2.2.2.2.2.1 v.2.2.2.2.2.2.1) sA (sH (.join [pV 0 .str,pV 1 tI,tZ 6 sD,tZ 9 sD,wM 10 sD,pV 11 .bool] (λv=>cA v.1 v.2.1 v.2.2.1 v.2.2.2.1 v.2.2.2.2.1 v.2.2.2.2.2.1) sA sA))))) ?_ ?_
 ·exact⟨lf,lf,lf,lf,(λv=>Ah),lf,lf,lf,(λv=>Ah),lf⟩
 ·intro xs r h;refine Lb (La ?_) h;kernel_rfl
abbrev Zem:FnE:=⟨336,[.str,wS],[Zt,wS,.bool],u2 Za2⟩
def Zrn:lh pZ glob Zem:=by
 refine lh.of (e:=Zem) (C:=Vk [KD] [] [Zd0,Zzk,QB] [] [] []) (Ye (Qk Zcz Xi) rfl (sP Qf JU Zoq) Xe Zd Xf) rfl Tryz.func336 (c:=Y0 Tryz.f336) rfl Tryz.call336 Ai
  ((sK (.join [tZ 4 sD,tZ 8 sD,pV 9 tI,pV 10 .bool] (λv=>Xn v.1 v.2.1 v.2.2.1 v.2.2.2.1) (sG (.block (sG (.cond sA (sG (.cond sA (.join [pV 0 .str,pV 1 tI,tZ 4 sD,pV 7 tI,tZ 8 sD,pV 9 tI,pV 10 .bool,pV 24 tI,pV 60 .bool] (λv=>ng v.1 v.2.1 v.2.2.1 v.2.2.2.1 v.2.2.2.2.1 v.2.2.2.2.2.1 v.2.2.2.2.2.2.1 v.2.2.2.2.2.2.2.1 v.2.2.2.2.2.2.2.2.1) sA (.cond sA (.join [pV 0 .str,pV 1 tI,tZ 4 sD,pV 7 tI,tZ 8 sD,pV 9 tI,pV 10 .bool,pV 24 tI,pV 72 .bool] (λv=>nh v.1 v.2.1 v.2.2.1 v.2.2.2.1 v.2.2.2.2.1 v.2.2.2.2.2.1 v.2.2.2.2.2.2.1 v.2.2.2.2.2.2.2.1 v.2.2.2.2.2.2.2.2.1) sA (.cond sA (.join [pV 0 .str,pV 1 tI,tZ 4 sD,pV 7 tI,tZ 8 sD,pV 9 tI,pV 10 .bool,pV 85 .bool] (λv=>dD v.1 v.2.1 v.2.2.1 v.2.2.2.1 v.2.2.2.2.1 v.2.2.2.2.2.1 v.2.2.2.2.2.2.1 v.2.2.2.2.2.2.2.1) sA sA))))))))))) sA))) ?_ ?_
 ·exact⟨lf,lf,lf,lf,lf,⟨lf,lf,lf,lf,lf,lf,(λv=>Ah),lf,lf,(λv=>Ah),lf,lf,(λv=>Ah),lf⟩,(λv=>Ah),lf⟩
 ·intro xs r h;refine Lb (La ?_) h;kernel_rfl
def Zly:okE ⟨233,[.str,wS],[Zt,wS,.bool],u2 xg⟩:=
 ofE (sO Zrn eA) Zd func233 call233 sA
def Zh7:okE ⟨116,[.str],[.slice 118 Zt,.bool],u1 zF⟩:=
 ofE (sO Zly Qf) Zd func116 call116 (sH (sF [pV 0 .str,wA 4 sC,pV 5 tI] (λN=>u3 (bR N)) (u3 vo) (λK1=>sA))) ⟨λ_=>rfl,λN v=>Ah⟩
def Zq8:okE ⟨117,[Zq,wS],[Zq],u2 vm⟩:=
 ofE (sO Xp Qf) Zd func117 call117 sA
def Zwz:okE ⟨463,[wS],[wS],u1 kg⟩:=
 ofE (sN cB) Zd func463 call463 sA
def Zt7:okE ⟨462,[Qx,wS],[Qx,wS,.bool],u2 gi⟩:=
 ofE (sO za Qf) Zd func462 call462 sA
abbrev ck:FnB:=⟨419,[.bx 37 Zq sC,.sh wS],.vals [wS],u2 cN⟩
def xZ:okB ck:=
 ofB [0] (sS Yb od Zwz Zt7 Zda Zdb) (Z7 YS Zd) func419 call419 (sI (.join [tX 0 sC,pV 1 tI,.box 5 34 Qx sD,pV 6 tI,pV 7 .bool] (u5 Vd) sA (sG (.join [tX 0 (sE (sE (sE (.p sC (sE (sE (sE (sE (sE (sE sC)))))))))),pV 1 tI,pV 6 tI] (u3 js) sA (sF [tX 0 (sE (sE (sE (.p sC (sE (sE (sE (sE (sE (sE sC)))))))))),pV 1 tI,pV 8 tI] (λN=>u3 (dY N)) (u3 nX) (λK1=>(sG (.seq (.block (.join [tX 0 (sE (sE (sE (.p sC (sE (sE (sE (sE (sE (sE sC)))))))))),pV 1 tI,pV 8 tI,wE 9 sC] (u4 (xU K1)) sA sA)) sA)))))))) ⟨(λv=>Ah),(λv=>Ah),λ_=>rfl,λN=>⟨(λv=>Ah),λv=>Ah⟩⟩
abbrev VF:FnE:=⟨420,[Qi,wS],[wS],u2 yo⟩
def Zt1:okE VF:=
 ofE (sO fN Kw) Zd func420 call420 sA
abbrev Zar:FnE:=⟨421,[Yi],[wS],u1 rC⟩
def Zw1:okE Zar:=
 ofE (sN kH) Zd func421 call421 sA
def WC:okE ⟨422,[Qi,wS,.bool],[.bool],u3 xr⟩:=
 ofE Zg Zd func422 call422 sA
open Go.RowKit Go.Sort Go.Shelf Go.Lib in
def Qnn(x1 y1:Int)(x2 y2:List UInt8)(W:X)(h1:0<=x1)(h2:x1<=4611686018427387904)(h3:0<=y1)(h4:y1<=4611686018427387904):
  Lh pZ 466 #[.agg #[.int .i64 x1,.string ⟨⟨x2⟩⟩],.agg #[.int .i64 y1,.string ⟨⟨y2⟩⟩]] W λen w'=>en=.returned (.int .i64 (x1-y1))/\ ∃q os',w'=grow (W.drewN q) os':=by
 have hw:Lr.wrap (x1-y1)=x1-y1:=by rw[Ls];omega
 go_enter Tryz.func466,Tryz.ntmps466
 go_wp2
 go_ret
 exact⟨rfl,0,_,by rw[alloc_eq_grow,alloc_eq_grow,grow_grow];rfl⟩
abbrev Zcn:FnL:={f:=465,e:=274,t:=fc,args:=[.fnc 466],res:=[],F:=λl _=>Z4p l}
def Zor:Zyk pZ glob Zcn:=Zyk.sort Tryz.call465 (λp cap fv w=>Go.Proofs.AnyF.slices_SortFunc_none Tryz.sortLaid p cap fv w)
  (λα _ enc c blk cap d w hk h1 hO hT hcmp hH hblk hsz=>Go.Proofs.AnyQ.slices_SortFunc_total Tryz.sortLaid 2 (λw=>Ah) (λw=>Ah) enc hk h1 c hO 466 #[] blk 0 cap d w (λ_ _=>Tryz.call466 _ _) hcmp hH hblk hsz hT)
  (λx y W h1 h2 h3 h4=>Qnn x.1 y.1 x.2.1 y.2.1 W h1 h2 h3 h4)
abbrev Zm9:FnE:=⟨467,[.slice 274 fc],[.slice 274 fc],u1 ZA⟩
def Z0t:okE Zm9:=
 ofE (sN uQ) Zd func467 call467 (sH (sF [.val 3 (.slice 274 fc) sC,pV 8 (.slice 274 fc),pV 9 tI,pV 10 tI] (λN=>u4 (lF N)) (u4 xY) (λK1=>sA))) ⟨λ_=>rfl,λN v=>Ah⟩
abbrev WG:nR:={f:=464,n:=27,np:=6,rv:=Tryz.f464.results.toList,run:=λln _ k s=>Jw (Vk [] ln [] [] [] []) 27 (Y0 Tryz.f464) .leaf k s}
def Zjk:Y6 pZ glob WG:=Y6.of (C:=Vk [] [] [] [] [] []) (λln=>Ye (ln:=ln) Xi rfl Zg Xe Zd Xf) Tryz.func464 rfl Tryz.call464 Ai rfl rfl .leaf (λ_ _ _=>rfl)
abbrev Zcg:FnE:=⟨423,[Xh,wS,.str],[Xh],u3 yU⟩
def Zod:lh pZ glob Zcg:=by
 refine lh.of (e:=Zcg) (C:=Vk [WG] [] [Zhh,Zcm,Zej,Zm9] [Zcn] [] []) (Ye (Qk Zjk Xi) rfl (sQ xA zP uQ Z0t) (Qfr Zor Xe) Zd Xf) rfl Tryz.func423 (c:=Y0 Tryz.f423) rfl Tryz.call423 Ai
  ((sH (.join [wD 3 sD,wM 4 sD,.box 5 9 (.str) sD,wD 6 sC,wM 7 sD,wM 8 sD] (λv=>zH v.1 v.2.1 v.2.2.1 v.2.2.2.1 v.2.2.2.2.1 v.2.2.2.2.2.1) sA (sH (sF [wD 3 sD,wM 4 sD,.box 5 9 (.str) sD,wD 6 sC,wM 7 sD,wM 8 sD,.box 9 54 (.slice 274 fc) sC,.clo 10 464 [7,8,9,5,4],pV 53 (.slice 274 fc),pV 54 tI,pV 55 tI] (λN v=>fK N v.1 v.2.1 v.2.2.1 v.2.2.2.1 v.2.2.2.2.1 v.2.2.2.2.2.1 v.2.2.2.2.2.2.1 v.2.2.2.2.2.2.2.1 v.2.2.2.2.2.2.2.2.1 v.2.2.2.2.2.2.2.2.2.1) (λv=>oY v.1 v.2.1 v.2.2.1 v.2.2.2.1 v.2.2.2.2.1 v.2.2.2.2.2.1 v.2.2.2.2.2.2.1 v.2.2.2.2.2.2.2.1 v.2.2.2.2.2.2.2.2.1 v.2.2.2.2.2.2.2.2.2.1) (λK1=>sA)))))) ?_ ?_
 ·exact⟨lf,lf,lf,(λv=>Ah),lf,lf,⟨lf,λ_=>rfl,λN=>⟨(λv=>Ah),lf⟩⟩,lf⟩
 ·intro xs r h;refine Lb (La ?_) h;kernel_rfl
abbrev zB:FnE:=⟨341,[Qi,wS,.str,.bool],[Qi,wS],u4 xn⟩
def Zl8:okE zB:=
 ofE (sS nl fN WC yx Zod Zfc) Zd func341 call341 (sM (.join [pV 1 tI,pV 2 .str,wG 4 sD,wG 8 sC,wG 10 (sE (.p sC sD))] (u5 jt) sA (sG (.join [wG 8 sC,wG 10 (sE (.p sC sD))] (u2 xW) sA sA)))) ⟨(λv=>Ah),λv=>Ah⟩
abbrev VG:FnE:=⟨424,[Yi,wS],[Yi,.bool],u2 oc⟩
def Zt6:okE VG:=
 ofE (sO kH Qf) Zd func424 call424 sA
abbrev pq:nR:={f:=339,n:=18,np:=3,rv:=Tryz.f339.results.toList,run:=λln _ k s=>Jw (Vk [] ln [jq] [] [ck] []) 18 (Y0 Tryz.f339) .leaf k s}
def Zcy:Y6 pZ glob pq:=Y6.of (C:=Vk [] [] [jq] [] [ck] []) (λln=>Ye (ln:=ln) Xi rfl (sN wd) Xe (Z7 xZ Zd) Xf) Tryz.func339 rfl Tryz.call339 Ai rfl rfl .leaf (λ_ _ _=>rfl)
abbrev nr:nR:={f:=340,n:=32,np:=3,rv:=Tryz.f340.results.toList,run:=λln _ k s=>Jw (Vk [] ln [VF,Zar] [] [] []) 32 (Y0 Tryz.f340) .leaf k s}
def Za6:Y6 pZ glob nr:=Y6.of (C:=Vk [] [] [VF,Zar] [] [] []) (λln=>Ye (ln:=ln) Xi rfl (sO Zt1 Zw1) Xe Zd Xf) Tryz.func340 rfl Tryz.call340 Ai rfl rfl .leaf (λ_ _ _=>rfl)
abbrev sw:nR:={f:=342,n:=30,np:=3,rv:=Tryz.f342.results.toList,run:=λln _ k s=>Jw (Vk [] ln [VG] [] [] []) 30 (Y0 Tryz.f342) .leaf k s}
def Zez:Y6 pZ glob sw:=Y6.of (C:=Vk [] [] [VG] [] [] []) (λln=>Ye (ln:=ln) Xi rfl (sN Zt6) Xe Zd Xf) Tryz.func342 rfl Tryz.call342 Ai rfl rfl .leaf (λ_ _ _=>rfl)
abbrev Kb:nR:={f:=103,n:=43,np:=2,rv:=Tryz.f103.results.toList,run:=λln _ k s=>Jw (Vk [Kx] ln [rq,nU,jg] [] [vg] []) 43 (Y0 Tryz.f103) .leaf k s}
def eT:Y6 pZ glob Kb:=Y6.of (C:=Vk [Kx] [] [rq,nU,jg] [] [vg] []) (λln=>Ye (ln:=ln) (Qk ez Xi) rfl (sP od XH YX) Xe (Z7 YS Zd) Xf) Tryz.func103 rfl Tryz.call103 Ai rfl rfl .leaf (λ_ _ _=>rfl)
abbrev oD:nR:={f:=338,n:=64,np:=2,rv:=Tryz.f338.results.toList,run:=λln _ k s=>Jw (Vk [pq,Kx,nr,sw,Kb] ln [zB] [] [] []) 64 (Y0 Tryz.f338) .leaf k s}
def JP:Y6 pZ glob oD:=Y6.of (C:=Vk [pq,Kx,nr,sw,Kb] [] [zB] [] [] []) (λln=>Ye (ln:=ln) (Qk Zcy (Qk ez (Qk Za6 (Qk Zez (Qk eT Xi))))) rfl (sN Zl8) Xe Zd Xf) Tryz.func338 rfl Tryz.call338 Ai rfl rfl .leaf (λ_ _ _=>rfl)
abbrev Zkj:nR:={f:=337,n:=36,np:=4,rv:=Tryz.f337.results.toList,run:=λln _ k s=>Jw (Vk [oD] ln [du,dA,Xd] [] [] []) 36 (Y0 Tryz.f337) .leaf k s}
def Zwy:Y6 pZ glob Zkj:=Y6.of (C:=Vk [oD] [] [du,dA,Xd] [] [] []) (λln=>Ye (ln:=ln) (Qk JP Xi) rfl (sP Kf eA Xp) Xe Zd Xf) Tryz.func337 rfl Tryz.call337 Ai rfl rfl .leaf (λ_ _ _=>rfl)
abbrev Zce:FnE:=⟨234,[Zq,Zt],[Zq,wS],u2 yR⟩
def Zob:lh pZ glob Zce:=by
 refine lh.of (e:=Zce) (C:=Vk [oD,Zkj] [] [] [] [] []) (Ye (Qk JP (Qk Zwy Xi)) rfl Zg Xe Zd Xf) rfl Tryz.func234 (c:=Y0 Tryz.f234) rfl Tryz.call234 Ai
  sA ?_ ?_
 ·exact lf
 ·intro xs r h;refine Lb (La ?_) h;kernel_rfl
abbrev xT:FnE:=⟨344,[Qi,wS,wS],[Qi,wS],u3 uL⟩
def Zj3:okE xT:=
 ofE (sR nl fN Kw WC yx) Zd func344 call344 sA
abbrev nu:nR:={f:=343,n:=76,np:=2,rv:=Tryz.f343.results.toList,run:=λln _ k s=>Jw (Vk [pq,Kx,nr,sw,iw,Kb] ln [xT] [] [] []) 76 (Y0 Tryz.f343) .leaf k s}
def YN:Y6 pZ glob nu:=Y6.of (C:=Vk [pq,Kx,nr,sw,iw,Kb] [] [xT] [] [] []) (λln=>Ye (ln:=ln) (Qk Zcy (Qk ez (Qk Za6 (Qk Zez (Qk YL (Qk eT Xi)))))) rfl (sN Zj3) Xe Zd Xf) Tryz.func343 rfl Tryz.call343 Ai rfl rfl .leaf (λ_ _ _=>rfl)
abbrev Zfn:nR:={f:=337,n:=36,np:=4,rv:=Tryz.f337.results.toList,run:=λln _ k s=>Jw (Vk [nu] ln [du,dA,Xd] [] [] []) 36 (Y0 Tryz.f337) .leaf k s}
def Zqn:Y6 pZ glob Zfn:=Y6.of (C:=Vk [nu] [] [du,dA,Xd] [] [] []) (λln=>Ye (ln:=ln) (Qk YN Xi) rfl (sP Kf eA Xp) Xe Zd Xf) Tryz.func337 rfl Tryz.call337 Ai rfl rfl .leaf (λ_ _ _=>rfl)
abbrev Zaq:FnE:=⟨235,[Zq,Zt],[Zq,wS],u2 xj⟩
def Zl3:lh pZ glob Zaq:=by
 refine lh.of (e:=Zaq) (C:=Vk [nu,Zfn] [] [] [] [] []) (Ye (Qk YN (Qk Zqn Xi)) rfl Zg Xe Zd Xf) rfl Tryz.func235 (c:=Y0 Tryz.f235) rfl Tryz.call235 Ai
  sA ?_ ?_
 ·exact lf
 ·intro xs r h;refine Lb (La ?_) h;kernel_rfl
abbrev lk:FnE:=⟨241,[Zx,wS],[Zx,.bool],u2 kC⟩
def WB:okE lk:=
 ofE (sP pl Kw aH) Zd func241 call241 (sH (.join [pV 1 tI,tY 2 sD,tY 4 sC,wC 6 (sE (sE (sE (.p sC sD))))] (u4 xX) sA sA)) (λv=>Ah)
abbrev zW:nR:={f:=339,n:=18,np:=3,rv:=Tryz.f339.results.toList,run:=λln _ k s=>Jw (Vk [] ln [oS] [] [ck] []) 18 (Y0 Tryz.f339) .leaf k s}
def Zlt:Y6 pZ glob zW:=Y6.of (C:=Vk [] [] [oS] [] [ck] []) (λln=>Ye (ln:=ln) Xi rfl (sN XG) Xe (Z7 xZ Zd) Xf) Tryz.func339 rfl Tryz.call339 Ai rfl rfl .leaf (λ_ _ _=>rfl)
abbrev oE:nR:={f:=345,n:=41,np:=2,rv:=Tryz.f345.results.toList,run:=λln _ k s=>Jw (Vk [zW,Kx,Kb] ln [lk] [] [] []) 41 (Y0 Tryz.f345) .leaf k s}
def JQ:Y6 pZ glob oE:=Y6.of (C:=Vk [zW,Kx,Kb] [] [lk] [] [] []) (λln=>Ye (ln:=ln) (Qk Zlt (Qk ez (Qk eT Xi))) rfl (sN WB) Xe Zd Xf) Tryz.func345 rfl Tryz.call345 Ai rfl rfl .leaf (λ_ _ _=>rfl)
abbrev Zfo:nR:={f:=337,n:=36,np:=4,rv:=Tryz.f337.results.toList,run:=λln _ k s=>Jw (Vk [oE] ln [du,dA,Xd] [] [] []) 36 (Y0 Tryz.f337) .leaf k s}
def Zqo:Y6 pZ glob Zfo:=Y6.of (C:=Vk [oE] [] [du,dA,Xd] [] [] []) (λln=>Ye (ln:=ln) (Qk JQ Xi) rfl (sP Kf eA Xp) Xe Zd Xf) Tryz.func337 rfl Tryz.call337 Ai rfl rfl .leaf (λ_ _ _=>rfl)
abbrev Zcf:FnE:=⟨236,[Zq,Zt],[Zq,wS],u2 yS⟩
def Zoc:lh pZ glob Zcf:=by
 refine lh.of (e:=Zcf) (C:=Vk [oE,Zfo] [] [] [] [] []) (Ye (Qk JQ (Qk Zqo Xi)) rfl Zg Xe Zd Xf) rfl Tryz.func236 (c:=Y0 Tryz.f236) rfl Tryz.call236 Ai
  sA ?_ ?_
 ·exact lf
 ·intro xs r h;refine Lb (La ?_) h;kernel_rfl
abbrev QA:FnE:=⟨347,[Qx,wS],[Qx],u2 sg⟩
def Zom:okE QA:=
 ofE (sN cQ) Zd func347 call347 sA
abbrev ZZ:FnE:=⟨348,[ci,wS],[ci],u2 se⟩
def Zol:okE ZZ:=
 ofE (sN VO) Zd func348 call348 sA
abbrev zX:nR:={f:=339,n:=18,np:=3,rv:=Tryz.f339.results.toList,run:=λln _ k s=>Jw (Vk [] ln [oS,jq] [] [ck] []) 18 (Y0 Tryz.f339) .leaf k s}
def Zlu:Y6 pZ glob zX:=Y6.of (C:=Vk [] [] [oS,jq] [] [ck] []) (λln=>Ye (ln:=ln) Xi rfl (sO XG wd) Xe (Z7 xZ Zd) Xf) Tryz.func339 rfl Tryz.call339 Ai rfl rfl .leaf (λ_ _ _=>rfl)
abbrev nt:nR:={f:=346,n:=64,np:=2,rv:=Tryz.f346.results.toList,run:=λln _ k s=>Jw (Vk [zX,Kx] ln [QA,ZZ] [] [mV] []) 64 (Y0 Tryz.f346) .leaf k s}
def YM:Y6 pZ glob nt:=Y6.of (C:=Vk [zX,Kx] [] [QA,ZZ] [] [mV] []) (λln=>Ye (ln:=ln) (Qk Zlu (Qk ez Xi)) rfl (sO Zom Zol) Xe (Z7 ul Zd) Xf) Tryz.func346 rfl Tryz.call346 Ai rfl rfl .leaf (λ_ _ _=>rfl)
abbrev Zfp:nR:={f:=337,n:=36,np:=4,rv:=Tryz.f337.results.toList,run:=λln _ k s=>Jw (Vk [nt] ln [du,dA,Xd] [] [] []) 36 (Y0 Tryz.f337) .leaf k s}
def Zqp:Y6 pZ glob Zfp:=Y6.of (C:=Vk [nt] [] [du,dA,Xd] [] [] []) (λln=>Ye (ln:=ln) (Qk YM Xi) rfl (sP Kf eA Xp) Xe Zd Xf) Tryz.func337 rfl Tryz.call337 Ai rfl rfl .leaf (λ_ _ _=>rfl)
abbrev Zap:FnE:=⟨237,[Zq,Zt],[Zq,wS],u2 xi⟩
def Zl2:lh pZ glob Zap:=by
 refine lh.of (e:=Zap) (C:=Vk [nt,Zfp] [] [] [] [] []) (Ye (Qk YM (Qk Zqp Xi)) rfl Zg Xe Zd Xf) rfl Tryz.func237 (c:=Y0 Tryz.f237) rfl Tryz.call237 Ai
  sA ?_ ?_
 ·exact lf
 ·intro xs r h;refine Lb (La ?_) h;kernel_rfl
def Zl1:okE ⟨118,[Zq,Zt],[Zq,wS],u2 xh⟩:=
 ofE (sQ Zob Zl3 Zoc Zl2) Zd func118 call118 sA
def Zia:okE ⟨32,[Zq,.str],[Zq,wS],u2 rz⟩:=
 ofE (sS Kf xB Xp Zh7 Zq8 Zl1) Zd func32 call32 (sK (sF [tX 4 sC,wA 6 sC,tX 8 sC,.bor 35 6 [],pV 36 tI,pV 37 tI] (λN=>u5 (fj N)) (u5 vr) (λK1=>sA))) ⟨λ_=>rfl,λN v=>Ah⟩
abbrev zy:FnE:=⟨239,[Zx],[Zx,.bool],u1 oV⟩
def Zlx:okE zy:=
 ofE (sO aH Zfb) Zd func239 call239 sA
abbrev uo:nR:={f:=238,n:=18,np:=2,rv:=Tryz.f238.results.toList,run:=λln _ k s=>Jw (Vk [] ln [zy] [] [] []) 18 (Y0 Tryz.f238) .leaf k s}
def Zgj:Y6 pZ glob uo:=Y6.of (C:=Vk [] [] [zy] [] [] []) (λln=>Ye (ln:=ln) Xi rfl (sN Zlx) Xe Zd Xf) Tryz.func238 rfl Tryz.call238 Ai rfl rfl .leaf (λ_ _ _=>rfl)
abbrev Zhx:nR:={f:=97,n:=61,np:=4,rv:=Tryz.f97.results.toList,run:=λln _ k s=>Jw (Vk [uo] ln [Xd,Xy,Vt] [] [] []) 61 (Y0 Tryz.f97) .leaf k s}
def Ztk:Y6 pZ glob Zhx:=Y6.of (C:=Vk [uo] [] [Xd,Xy,Vt] [] [] []) (λln=>Ye (ln:=ln) (Qk Zgj Xi) rfl (sP Xp Yb aI) Xe Zd Xf) Tryz.func97 rfl Tryz.call97 Ai rfl rfl .leaf (λ_ _ _=>rfl)
abbrev V':FnE:=⟨119,[Zq,wS],[Zq,.bool],u2 uJ⟩
def Zj0:lh pZ glob V':=by
 refine lh.of (e:=V') (C:=Vk [Zhx] [] [] [] [] []) (Ye (Qk Ztk Xi) rfl Zg Xe Zd Xf) rfl Tryz.func119 (c:=Y0 Tryz.f119) rfl Tryz.call119 Ai
  sA ?_ ?_
 ·exact lf
 ·intro xs r h;refine Lb (La ?_) h;kernel_rfl
abbrev nw:nR:={f:=240,n:=29,np:=4,rv:=Tryz.f240.results.toList,run:=λln _ k s=>Jw (Vk [Kb] ln [lk] [] [] []) 29 (Y0 Tryz.f240) .leaf k s}
def YO:Y6 pZ glob nw:=Y6.of (C:=Vk [Kb] [] [lk] [] [] []) (λln=>Ye (ln:=ln) (Qk eT Xi) rfl (sN WB) Xe Zd Xf) Tryz.func240 rfl Tryz.call240 Ai rfl rfl .leaf (λ_ _ _=>rfl)
abbrev Zhy:nR:={f:=97,n:=61,np:=4,rv:=Tryz.f97.results.toList,run:=λln _ k s=>Jw (Vk [nw] ln [Xd,Xy,Vt] [] [] []) 61 (Y0 Tryz.f97) .leaf k s}
def Ztl:Y6 pZ glob Zhy:=Y6.of (C:=Vk [nw] [] [Xd,Xy,Vt] [] [] []) (λln=>Ye (ln:=ln) (Qk YO Xi) rfl (sP Xp Yb aI) Xe Zd Xf) Tryz.func97 rfl Tryz.call97 Ai rfl rfl .leaf (λ_ _ _=>rfl)
abbrev Zat:FnE:=⟨120,[Zq,wS,wS],[Zq,.bool],u3 xo⟩
def Zl9:lh pZ glob Zat:=by
 refine lh.of (e:=Zat) (C:=Vk [nw,Zhy] [] [] [] [] []) (Ye (Qk YO (Qk Ztl Xi)) rfl Zg Xe Zd Xf) rfl Tryz.func120 (c:=Y0 Tryz.f120) rfl Tryz.call120 Ai
  sA ?_ ?_
 ·exact lf
 ·intro xs r h;refine Lb (La ?_) h;kernel_rfl
abbrev oG:nR:={f:=242,n:=33,np:=3,rv:=Tryz.f242.results.toList,run:=λln _ k s=>Jw (Vk [] ln [Zf6,Zdz] [] [] []) 33 (Y0 Tryz.f242) .leaf k s}
def JS:Y6 pZ glob oG:=Y6.of (C:=Vk [] [] [Zf6,Zdz] [] [] []) (λln=>Ye (ln:=ln) Xi rfl (sO yx Kw) Xe Zd Xf) Tryz.func242 rfl Tryz.call242 Ai rfl rfl .leaf (λ_ _ _=>rfl)
abbrev Zhz:nR:={f:=97,n:=61,np:=4,rv:=Tryz.f97.results.toList,run:=λln _ k s=>Jw (Vk [oG] ln [Xd,Xy,Vt] [] [] []) 61 (Y0 Tryz.f97) .leaf k s}
def Ztm:Y6 pZ glob Zhz:=Y6.of (C:=Vk [oG] [] [Xd,Xy,Vt] [] [] []) (λln=>Ye (ln:=ln) (Qk JS Xi) rfl (sP Xp Yb aI) Xe Zd Xf) Tryz.func97 rfl Tryz.call97 Ai rfl rfl .leaf (λ_ _ _=>rfl)
abbrev Zcl:FnE:=⟨121,[Zq,wS,wS],[Zq,.bool],u3 y6⟩
def Zoo:lh pZ glob Zcl:=by
 refine lh.of (e:=Zcl) (C:=Vk [oG,Zhz] [] [] [] [] []) (Ye (Qk JS (Qk Ztm Xi)) rfl Zg Xe Zd Xf) rfl Tryz.func121 (c:=Y0 Tryz.f121) rfl Tryz.call121 Ai
  sA ?_ ?_
 ·exact lf
 ·intro xs r h;refine Lb (La ?_) h;kernel_rfl
abbrev Zww:FnE:=⟨349,[.str,.str],[.slice 9 (.str)],u2 JF⟩
def Zuy:lh pZ glob Zww:=
 lh.split Tryz.call349 Ai (λw hg=>Vc.vars_int (b:=4) hg 2 Ai rfl rfl Ah)
  (λs p k w h1 h2 h3=>Tryz.strings_Split s p k w h1 h2 h3)
abbrev Zzm:FnE:=⟨350,[.str,.str],[.str],u2 Zg7⟩
def Zxi:lh pZ glob Zzm:=
 lh.trim Tryz.call350 (λs c hc w hs=>Tryz.strings_Trim_one s c hc w hs)
abbrev vi:FnE:=⟨245,[Yn,.str],[Yn],u2 lz⟩
def Zib:okE vi:=
 ofE (sQ zO ZE Zuy Zxi) Zd func245 call245 (sG (.join [pV 1 .str,wK 2 sD,wK 4 sD] (u3 ft) sA (sF [wK 2 sD,wK 4 sD,wP 12 sC,pV 13 tI,pV 14 tI] (λN=>u5 (J8 N)) (u5 vv) (λK1=>sA)))) ⟨(λv=>Ah),λ_=>rfl,λN v=>Ah⟩
abbrev nA:nR:={f:=244,n:=15,np:=3,rv:=Tryz.f244.results.toList,run:=λln _ k s=>Jw (Vk [] ln [vi] [] [] []) 15 (Y0 Tryz.f244) .leaf k s}
def YP:Y6 pZ glob nA:=Y6.of (C:=Vk [] [] [vi] [] [] []) (λln=>Ye (ln:=ln) Xi rfl (sN Zib) Xe Zd Xf) Tryz.func244 rfl Tryz.call244 Ai rfl rfl .leaf (λ_ _ _=>rfl)
abbrev Zh0:nR:={f:=97,n:=61,np:=4,rv:=Tryz.f97.results.toList,run:=λln _ k s=>Jw (Vk [nA] ln [Xd,Xy,Vt] [] [] []) 61 (Y0 Tryz.f97) .leaf k s}
def Ztn:Y6 pZ glob Zh0:=Y6.of (C:=Vk [nA] [] [Xd,Xy,Vt] [] [] []) (λln=>Ye (ln:=ln) (Qk YP Xi) rfl (sP Xp Yb aI) Xe Zd Xf) Tryz.func97 rfl Tryz.call97 Ai rfl rfl .leaf (λ_ _ _=>rfl)
abbrev Zau:FnE:=⟨122,[Zq,wS,.str],[Zq,.bool],u3 xp⟩
def Zmc:lh pZ glob Zau:=by
 refine lh.of (e:=Zau) (C:=Vk [nA,Zh0] [] [] [] [] []) (Ye (Qk YP (Qk Ztn Xi)) rfl Zg Xe Zd Xf) rfl Tryz.func122 (c:=Y0 Tryz.f122) rfl Tryz.call122 Ai
  sA ?_ ?_
 ·exact lf
 ·intro xs r h;refine Lb (La ?_) h;kernel_rfl
def Zic:okE ⟨434,[X8,.sptr 3 wS],[.bool],u2 Za1⟩:=
 ofE Zg Zd func434 call434 sA
def dF:okE ⟨433,[.slice 166 X8,.clo 434 (.pair (.sptr 3 wS) (.unit))],[wS],u2 Yx⟩:=
 ofE (sN Zic) Zd func433 call433 (sG (sF [pV 0 (.slice 166 X8),pV 1 (.clo 434 (.pair (.sptr 3 wS) (.unit))),pV 7 tI,pV 8 tI] (λN=>u4 (Qw N)) (u4 Xb) (λK1=>sA))) ⟨λ_=>rfl,λN v=>Ah⟩
def Zmg:okE ⟨351,[Zq,wS],[wS],u2 ph⟩:=
 ofE (sN dF) Zd func351 call351 sA
set_option maxHeartbeats 4000000 in
set_option maxHeartbeats 4000000 in
set_option maxHeartbeats 4000000 in
def mm(k b n c i j:Nat)(Ad:Le)(w W1 W2:X)(hij:i<j)(hj:j<=n)(hnc:n<=c)(hc:c<=maxLen)
  (zE:∀w,(L1 166).run pZ w=.ok k w) (hA:(ite (c=j) (O (⟨b,0,S⟩:Le)) (O ⟨b,j*k,S⟩))=O Ad)
  (happ:∀ty,(Lz #[35,35] ty #[.slice (O ⟨b,0,S⟩) i c,.slice (O Ad) (n-j) (c-j)]).run pZ w.drew=.ok (.slice (O ⟨b,0,S⟩) (i+(n-j)) c) W1)
  (hcl:∀ty,(L8 #[35] ty #[.slice (O ⟨b,(i+(n-j))*k,S⟩) (n- (i+(n-j))) (c- (i+(n-j)))]).run pZ W1=.ok (.tuple #[]) W2):
  Lh pZ 352 #[.slice (O ⟨b,0,S⟩) n c,.int .i64 i,.int .i64 j] w λe w'=>e=.returned (.slice (O ⟨b,0,S⟩) (i+(n-j)) c)/\w'=W2:=by
 have h63:c<=9223372036854775807:=by unfold maxLen at hc;omega
 have hne:¬((i:Int)=(j:Int)):=Aa
 have hic:i<=c:=Aa
 have hjc:j<=c:=Aa
 have hx:¬(c=i+(n-j)):=Aa
 have mixed:pZ.follows Lw=true:=Ah
 go_enter Tryz.func352,Tryz.ntmps352
 go_wp2_with fail
 go_region_law_o (refine Zvc rfl (Zcr (t:=35) (t':=35) rfl (by simp[Lo,Lp]) (by simp[Lo,Lp]) (happ _)) ?_)
 go_wp2
 go_ret
 exact⟨rfl,rfl⟩
set_option maxHeartbeats 4000000 in
def mU(base:Option Le)(n c i:Nat)(w:X)(hi:i<=n)(hnc:n<=c)(hc:c<=maxLen)(hnil:base=S->n=0/\c=0):
  Lh pZ 352 #[.slice base n c,.int .i64 i,.int .i64 i] w λe w'=>e=.returned (.slice base n c)/\w'=w:=by
 have h63:c<=9223372036854775807:=by unfold maxLen at hc;omega
 have mixed:pZ.follows Lw=true:=Ah
 cases base with
 |none=>
  obtain⟨rfl,rfl⟩:=hnil rfl;obtain rfl:i=0:=Aa
  go_enter Tryz.func352,Tryz.ntmps352
  go_wp2
  go_ret
  exact⟨rfl,rfl⟩
 |some ad=>
  go_enter Tryz.func352,Tryz.ntmps352
  go_wp2
  all_goals (go_ret;exact⟨rfl,rfl⟩)
def nT{t:Ty}(hT:TOK pZ 35 (.slice 166 t))(hT2:TOK pZ 166 t){i j:Nat}(hown:w.ownsRow 0 166 t.size v n xs)(hij:i<=j)(hj:j<=n)(h1:∀u∈xs,u.oneCell'=K3):
  Lh pZ 352 #[v,.int .i64 i,.int .i64 j] w λe w'=> ∃v',e=.returned v'/\w'.ownsRow 0 166 t.size v' (n- (j-i)) (xs.take (i*t.size)++xs.drop (j*t.size))/\w.grownBy w' v.ownBlock/\v'.ownBlock=v.ownBlock:=by
 obtain⟨hu,hpos⟩:=hT.slice;have zE:=λw=>hT2.sizeOf w;have same:∀base c,v=.slice base n c->n<=c->c<=maxLen->(base=S->n=0/\c=0)->i=j->Lh pZ 352 #[v,.int .i64 i,.int .i64 j] w λe w'=> ∃v',e=.returned v'/\w'.ownsRow 0 166 t.size v' (n- (j-i)) (xs.take (i*t.size)++xs.drop (j*t.size))/\w.grownBy w' v.ownBlock/\v'.ownBlock=v.ownBlock:=by
  rintro base c rfl hnc hc hnil rfl;refine(mU base n c i w hj hnc hc hnil).mono λe w' ⟨he,hw⟩=>?_;subst hw;refine⟨_,he,?_,⟨rfl,rfl,rfl,Ln _,λ_ _ _=>rfl⟩,rfl⟩;rw[Nat.sub_self,Nat.sub_zero,List.take_append_drop];exact hown
 rcases hown.2 with⟨rfl,h0⟩|⟨b,c,cur,rfl,_,hb,hnc,hc,hcs,htk⟩
 ·exact same S 0 (by rw[h0]) Aa (Lu _) (λ_=>⟨h0,rfl⟩) Aa
 by_cases hne:i=j
 ·exact same (O ⟨b,0,S⟩) c rfl hnc hc (λh=>by cases h) hne
 have hlt:i<j:=Aa
 obtain⟨i0,hi0,hi1,_,hi2⟩:=hT2.size;have hnk:n*t.size<=cur.size:=by rw[hcs];exact Lc _ hnc
 have hjk:j*t.size<=n*t.size:=Lc _ hj;have hik:i*t.size<=j*t.size:=Lc _ hij;have hxl:xs.length=n*t.size:=hown.1;obtain⟨news,hnews⟩:∃news,news=xs.drop (j*t.size):=⟨_,rfl⟩
 have hl:news.length=(n-j)*t.size:=by rw[hnews,Li,hxl,Nat.sub_mul]
 obtain⟨R1,hR1⟩:∃R1:Array K4,R1=(cur.toList.take (i*t.size)++news++cur.toList.drop (i*t.size+news.length)).toArray:=⟨_,rfl⟩
 have e1:i*t.size+(n-j)*t.size=(i+(n-j))*t.size:=by rw[<-Lk]
 have e2:(i+(n-j))*t.size<=n*t.size:=Lc _ Aa;have hR1s:R1.size=cur.size:=by rw[hR1];simp only[Lm,Lg,Y,Li,Array.length_toList];omega
 obtain⟨Ad,hA,hsrc⟩:∃Ad:Le,(ite (c=j) (O (⟨b,0,S⟩:Le)) (O ⟨b,j*t.size,S⟩))=O Ad/\ ∀(q:Nat) u,news[q]? =O u->w.drew.cell? (Ad.add q)=O u:=by
  by_cases h:c=j
  ·refine⟨_,if_pos h,λq u hq=>?_⟩;have:news.length=0:=by rw[hl,show n-j=0 from by omega,Nat.zero_mul]
   rw[List.length_eq_zero_iff.1 this]at hq;simp at hq
  ·refine⟨_,if_neg h,λq u hq=>?_⟩;rw[hnews,L6]at hq;have hd:w.drew.heap[b]? =O (.cells cur 166 (0,0)):=hb;rw[Lq];simp only[Lv,hd];rw[<-htk,Ll]at hq;split at hq
   ·simpa using hq
   ·cases hq
 obtain⟨W1,hW1⟩:∃W1,W1=w.drew.setRow b R1:=⟨_,rfl⟩
 have happ:∀ty,(Lz #[35,35] ty #[.slice (O ⟨b,0,S⟩) i c,.slice (O Ad) (n-j) (c-j)]).run pZ w.drew=.ok (.slice (O ⟨b,0,S⟩) (i+(n-j)) c) W1:=λty=>by
  rw[hW1,hR1];exact Qau hu hi0 hi1 ty hb hl hsrc (λu hu=>h1 u (by rw[hnews]at hu;exact L7 hu)) Aa hcs
 have hb1:W1.heap[b]? =O (.cells R1 166 (0,0)):=by rw[hW1];exact Zv1 (W:=w.drew) hb
 have hz:(Jd t (al t)).cells.size=t.size:=by rw[KE hT2.plain];simp[KL hT2.plain]
 obtain⟨Z,hZ⟩:∃Z,Z=(L5 (Jd t (al t)).cells (n- (i+(n-j)))).toList:=⟨_,rfl⟩
 have hZl:Z.length=(n- (i+(n-j)))*t.size:=by rw[hZ,Znk,hz]
 obtain⟨R2,hR2⟩:∃R2:Array K4,R2=(R1.toList.take ((i+(n-j))*t.size)++Z++R1.toList.drop ((i+(n-j))*t.size+(n- (i+(n-j)))*t.size)).toArray:=⟨_,rfl⟩
 have hv:∀w,(zeroValue 166).run pZ w=.ok (Jd t (al t)) w:=λw=>by
  simp[zeroValue,typeInfo,hi0,hi2]
 have e3:(i+(n-j))*t.size+(n- (i+(n-j)))*t.size=n*t.size:=by rw[<-Lk];congr 1;omega
 have hcl:∀ty,(L8 #[35] ty #[.slice (O ⟨b,(i+(n-j))*t.size,S⟩) (n- (i+(n-j))) (c- (i+(n-j)))]).run pZ W1=.ok (.tuple #[]) (W1.setRow b R2):=λty=>by
  rw[hR2,hZ];exact Qfn hu hv hz (λu hu=>by rw[KE hT2.plain]at hu;exact Z2j hT2.plain u (by simpa using hu)) ty hb1 (by rw[hR1s];omega) Aa
 refine(mm t.size b n c i j Ad w W1 (W1.setRow b R2) hlt hj hnc hc zE hA happ hcl).mono ?_;rintro e w' ⟨he,rfl⟩;have hT1:(cur.toList.take (i*t.size)).length=i*t.size:=by rw[Y,Array.length_toList];omega
 have hs2:R2.size=R1.size:=by
  rw[hR2];simp only[Lm,Lg,Y,Li,Array.length_toList,hZl];omega
 have hlen:n- (j-i)=i+(n-j):=Aa
 refine⟨_,he,⟨?_,.inr ⟨b,c,R2,by rw[hlen],Lu _,Zv1 hb1,Aa,hc,by rw[hs2,hR1s,hcs],?_⟩⟩,?_,rfl⟩
 ·rw[Lg,Y,Li,hxl,hlen,<-e1,Nat.sub_mul];omega
 ·rw[hlen,hR2];simp only[];rw[Lx,L9 (by rw[Y,Array.length_toList];omega),L2,Nat.min_self,hR1];simp only[];rw[Ly (by rw[Lg,hT1,hl,e1]),hnews,<-htk,L2,Lt Aa]
 ·refine⟨?_,?_,?_,?_,λx hx hne=>?_⟩
  ·rw[hW1];rfl
  ·rw[hW1];rfl
  ·rw[hW1];rfl
  ·rw[Z3w,hW1,Z3w];exact Ln _
  ·have:x≠b:=λe=>hne (by rw[e];rfl);rw[Zv2 this,hW1,Zv2 this];rfl
abbrev ud:FnB:=⟨352,[.mv (.slice 166 X8) (.p sC sD),.sh wS,.sh wS],.flg [(.slice 166 X8,(.p sC sD))],u3 aK⟩
def sq:yi pZ glob ud:=yi.delete rfl Tryz.call352 λh1 h2 h3 h4=>nT Qk9 Qe0 h1 h2 h3 h4
abbrev Zi5:FnB:=⟨246,[.sh Zq,.sh wS],.flg [(Zq,(sE (sE (sE (.p sC sD))))),(.slice 118 Zt,sD),(.bool,sC)],u2 QZ⟩
def Zhp:okB Zi5:=
 ofB [] (sP Xp Zmg aI) (Z7 sq Zd) func246 call246 (sG (.join [tX 2 sD,tX 4 sC,tX 7 sC,pV 8 tI] (u4 y7) sA (.seq (sG (.cond (sG (.frz [(4,(sE (sE (sE (.p sC sD))))),(5,.u U)])) sA)) (.seq (.frz [(7,(.p sC (.p sC (.p sC (.p sC (.p sC (.p sC (.p sC (.p sC (.p sC (.p sC (.p sC (.p sC (.p sC (.p sC (.p sC (.p (.p sC sD) sC)))))))))))))))))]) (sH (.frz [(4,(sE (sE (sE (.p sC sD)))))])))))) (λv=>Ah)
abbrev Zi4:FnE:=⟨248,[Zt],[Km],u1 QY⟩
def Zho:okE Zi4:=
 ofE Zg Zd func248 call248 sA
abbrev e_impl_DropRing:FnE:=⟨435,[Ks,wS],[Ks,.bool],u2 yl⟩
def Ze8:okE e_impl_DropRing:=
 ofE (sP YZ XI Qf) Zd func435 call435 (sI (sF [pV 1 tI,wC 2 sD,wC 4 sC,wC 6 sC,pV 7 tI] (λN=>u5 (oW N)) (u5 YK) (λK1=>sA))) ⟨λ_=>rfl,λN v=>Ah⟩
abbrev e_impl_settlePieceT:FnE:=⟨353,[Zx,Km,.bool],[Zx],u3 XB⟩
def Z9d:lh pZ glob e_impl_settlePieceT:=by
 refine lh.of (e:=e_impl_settlePieceT) (C:=cfg [] [e_impl_copySender,e_impl_isActive,e_impl_isInside,e_impl_CommonRanges,e_impl_RemoveRange,e_impl_AddRange,e_impl_FirstGap,e_impl_DropRing,e_impl_following] [] [] []) (Qhr rfl (sV aH pl Y' we yc kF YY Ze8 uR) Xe Zd Xf) rfl Tryz.func353 (c:=Y0 Tryz.f353) rfl Tryz.call353 Ai
  ((sJ (.join [pV 2 .bool,tY 3 sD,wF 4 sD,tY 6 sC,tY 7 sC,.ptr 8 7 [4],pV 9 tI] (λv=>v7 v.1 v.2.1 v.2.2.1 v.2.2.2.1 v.2.2.2.2.1 v.2.2.2.2.2.1) sA (.join [pV 2 .bool,tY 3 sD,wF 4 sD,tY 6 sC,tY 7 sC,pV 9 tI] (λv=>iq v.1 v.2.1 v.2.2.1 v.2.2.2.1 v.2.2.2.2.1 v.2.2.2.2.2.1) (sG (.cond (sG (.block (.loop [pV 2 .bool,tY 3 sD,wF 4 sD,tY 6 sC,tY 7 sC,.ptr 8 7 [4],pV 9 tI,wB 42 sC,pV 43 tI,pV 44 tI] (λN v=>it N v.1 v.2.1 v.2.2.1 v.2.2.2.1 v.2.2.2.2.1 v.2.2.2.2.2.1 v.2.2.2.2.2.2.1 v.2.2.2.2.2.2.2.1 v.2.2.2.2.2.2.2.2.1) (λv=>xP v.1 v.2.1 v.2.2.1 v.2.2.2.1 v.2.2.2.2.1 v.2.2.2.2.2.1 v.2.2.2.2.2.2.1 v.2.2.2.2.2.2.2.1 v.2.2.2.2.2.2.2.2.1) (λK1=>sA)))) sA)) (.join [pV 2 .bool,tY 6 sC,tY 7 (sE (.p sC (.p sC (.p sC (.p sC sD)))))] (λv=>ir v.1 v.2.1 v.2.2.1) sA (.join [tY 6 sC,tY 7 (sE (.p sC (.p sC (.p sC (.p sC sD)))))] (λv=>nk v.1 v.2.1) sA sA)))))) ?_ ?_
 ·exact⟨lf,lf,lf,lf,lf,(λv=>Ah),⟨lf,⟨lf,λ_=>rfl,λN=>⟨(λv=>Ah),lf⟩⟩,lf⟩,(λv=>Ah),lf,(λv=>Ah),lf,(λv=>Ah),lf⟩
 ·intro xs r h;obtain⟨a,b,c,u⟩:=xs;cases c
  ·have h2:(none:Option _)=O r:=h;cases h2
  refine Lb (La ?_) h;kernel_rfl
abbrev e_impl_AckPiece:FnE:=⟨247,[Zx,Km],[Zx],u2 Zd2⟩
def ok_impl_AckPiece:okE e_impl_AckPiece:=
 ofE (sN Z9d) Zd func247 call247 sA
abbrev Zhg:FnE:=⟨249,[Zx],[Zx,.bool],u1 KR⟩
def Ztx:okE Zhg:=
 ofE (sO aH xC) Zd func249 call249 sA
abbrev rp:FnB:=⟨214,[.bx 37 Zq (sE (sE (sE (.p sC sD)))),.sh wS],.fp Zq 0 [9] [8],u2 cM⟩
def Ze7:okB rp:=
 ofB [0] (sN mF) Zd func214 call214 sA
abbrev yy:nR:={f:=103,n:=43,np:=2,rv:=Tryz.f103.results.toList,run:=λln _ k s=>Jw (Vk [Kx] ln [rq,nU,jg] [] [rp] []) 43 (Y0 Tryz.f103) .leaf k s}
def Zb3:Y6 pZ glob yy:=Y6.of (C:=Vk [Kx] [] [rq,nU,jg] [] [rp] []) (λln=>Ye (ln:=ln) (Qk ez Xi) rfl (sP od XH YX) Xe (Z7 Ze7 Zd) Xf) Tryz.func103 rfl Tryz.call103 Ai rfl rfl .leaf (λ_ _ _=>rfl)
abbrev Zei:FnB:=⟨123,[.sh Zq,.sh wS],.flg [(Zq,(sE (sE (sE (.p sC sD))))),(.bool,sC)],u2 QE⟩
def Zq6:yi pZ glob Zei:=by
 refine yi.of (e:=Zei) (C:=Vk [yy] [] [Xy,vh,Zi4,e_impl_AckPiece,Zhg] [] [Zi5] []) (Ye (Qk Zb3 Xi) rfl (sR Yb md Zho ok_impl_AckPiece Ztx) Xe (Z7 Zhp Zd) Xf) rfl rfl Tryz.func123 (c:=Y0 Tryz.f123) rfl Tryz.call123 Ai
  ((sI (sF [tX 4 sC,tX 6 (sE (sE (sE (.p sC sD)))),pV 25 (.slice 118 Zt),pV 26 tI,pV 27 tI] (λN v=>Yl N v.1 v.2.1 v.2.2.1 v.2.2.2.1 v.2.2.2.2.1) (λv=>ke v.1 v.2.1 v.2.2.1 v.2.2.2.1 v.2.2.2.2.1) (λK1=>(sH (.seq (.block (sJ (.join [tX 4 sC,tX 6 (sE (sE (sE (.p sC sD)))),tZ 10 sD,pV 25 (.slice 118 Zt),pV 26 tI,pV 27 tI] (λv=>bE K1 v.1 v.2.1 v.2.2.1 v.2.2.2.1 v.2.2.2.2.1 v.2.2.2.2.2.1) sA sA))) sA)))))) ?_ ?_
 ·exact⟨lf,lf,lf,⟨lf,λ_=>rfl,λN=>⟨(λv=>Ah),lf,lf,⟨lf,lf,lf,lf,lf,(λv=>Ah),lf⟩,lf⟩⟩,lf⟩
 ·intro xs r h;refine Lb (La ?_) h;kernel_rfl
abbrev e_impl_settlePieceN:FnE:=⟨353,[Zx,Km,.bool],[Zx],u3 XA⟩
def Z9c:lh pZ glob e_impl_settlePieceN:=by
 refine lh.of (e:=e_impl_settlePieceN) (C:=cfg [] [e_impl_copySender,e_impl_isActive,e_impl_isInside,e_impl_CommonRanges,e_impl_RemoveRange,e_impl_AddRange,e_impl_FirstGap,e_impl_DropRing,e_impl_following] [] [] []) (Qhr rfl (sV aH pl Y' we yc kF YY Ze8 uR) Xe Zd Xf) rfl Tryz.func353 (c:=Y0 Tryz.f353) rfl Tryz.call353 Ai
  ((sJ (.join [pV 2 .bool,tY 3 sD,wF 4 sD,tY 6 sC,tY 7 sC,.ptr 8 7 [2],pV 9 tI] (λv=>v6 v.1 v.2.1 v.2.2.1 v.2.2.2.1 v.2.2.2.2.1 v.2.2.2.2.2.1) sA (.join [pV 2 .bool,tY 3 sD,wF 4 sD,tY 6 sC,tY 7 sC,pV 9 tI] (λv=>io v.1 v.2.1 v.2.2.1 v.2.2.2.1 v.2.2.2.2.1 v.2.2.2.2.2.1) (sG (.cond (sG (.block (.loop [pV 2 .bool,tY 3 sD,wF 4 sD,tY 6 sC,tY 7 sC,.ptr 8 7 [2],pV 9 tI,wB 42 sC,pV 43 tI,pV 44 tI] (λN v=>ip N v.1 v.2.1 v.2.2.1 v.2.2.2.1 v.2.2.2.2.1 v.2.2.2.2.2.1 v.2.2.2.2.2.2.1 v.2.2.2.2.2.2.2.1 v.2.2.2.2.2.2.2.2.1) (λv=>xO v.1 v.2.1 v.2.2.1 v.2.2.2.1 v.2.2.2.2.1 v.2.2.2.2.2.1 v.2.2.2.2.2.2.1 v.2.2.2.2.2.2.2.1 v.2.2.2.2.2.2.2.2.1) (λK1=>sA)))) sA)) (.join [pV 2 .bool,tY 6 sC,tY 7 (sE (.p sC (.p sC (.p sC (.p sC sD)))))] (λv=>ni v.1 v.2.1 v.2.2.1) sA (.join [tY 6 sC,tY 7 (sE (.p sC (.p sC (.p sC (.p sC sD)))))] (λv=>nj v.1 v.2.1) sA sA)))))) ?_ ?_
 ·exact⟨lf,lf,lf,lf,lf,(λv=>Ah),⟨lf,⟨lf,λ_=>rfl,λN=>⟨(λv=>Ah),lf⟩⟩,lf⟩,(λv=>Ah),lf,(λv=>Ah),lf,(λv=>Ah),lf⟩
 ·intro xs r h;obtain⟨a,b,c,u⟩:=xs;cases c
  case true=>(have h2:(none:Option _)=O r:=h;cases h2)
  refine Lb (La ?_) h;kernel_rfl
def ok_impl_LosePiece:okE ⟨250,[Zx,Km],[Zx],u2 Zaz⟩:=
 ofE (sN Z9c) Zd func250 call250 sA
def Zoi:okB ⟨124,[.sh Zq,.sh wS],.flg [(Zq,(sE (sE (sE (.p sC sD))))),(.bool,sC)],u2 yX⟩:=
 ofB [] (sR Yb md Zho ok_impl_LosePiece yx) (Z7 Zhp Zd) func124 call124 (sI (sF [tX 4 sC,tX 6 (sE (sE (sE (.p sC sD)))),pV 23 (.slice 118 Zt),pV 24 tI,pV 25 tI] (λN=>u5 (J3 N)) (u5 iQ) (λK1=>(sH (.seq (.block (sG (.join [tX 4 sC,tX 6 (sE (sE (sE (.p sC sD)))),tZ 10 sD,pV 23 (.slice 118 Zt),pV 24 tI,pV 25 tI] (u6 (aF K1)) sA sA))) sA))))) ⟨λ_=>rfl,λN=>⟨(λv=>Ah),λv=>Ah⟩⟩
def Zt3:okE ⟨125,[Zq,wS],[Zq,.bool],u2 KS⟩:=
 ofE (sP Xp aI Qf) Zd func125 call125 sA
def Zw3:okB ⟨33,[.sh Zq,.sh Jp],.flg [(Zq,(sE (sE (sE (.p sC sD))))),(.bool,sC)],u2 ki⟩:=
 ofB [] (sR Zj0 Zl9 Zoo Zmc Zt3) (Z7 Zq6 (Z7 Zoi Zd)) func33 call33 (sG (.seq (sG (.block (sG (.cond (sG (.frz [(4,(sE (sE (sE (.p sC sD)))))])) (sG (.cond (sG (.frz [(4,(sE (sE (sE (.p sC sD)))))])) (sG (.cond (sG (.frz [(4,(sE (sE (sE (.p sC sD)))))])) (sG (.cond (sG (.frz [(4,(sE (sE (sE (.p sC sD)))))])) sA)))))))))) (sG (.frz [(4,(sE (sE (sE (.p sC sD)))))]))))
def Zn6:okB ⟨6,[.sh Zq,.sh Jp],.flg [(.str,sC),(Zq,sD)],u2 yP⟩:=
 ofB [] (sX Kf Zw0 Xp xB Zok Zrb Z6l Zme Zq9 Zc6 Zia) (Z7 Zon (Z7 Za9 (Z7 Zw3 Zd))) func6 call6 (sG (.seq (.block (sG (.cond (sG (.frz [(5,(sE (sE (sE (sE sC))))),(5,.u U)])) (sG (.cond (sG (.frz [(5,(sE (sE (sE (sE sC))))),(5,.u U)])) sA))))) (.seq (sG (.block (sG (.cond (sH (.frz [(5,(sE (sE (sE (sE sC))))),(5,.u U)])) (sG (.cond (sH (.frz [(5,(sE (sE (sE (sE sC))))),(5,.u U)])) (sG (.cond (sH (.frz [(5,.u U)])) (sG (.cond (sH (.frz [(5,.u U)])) (sG (.cond (sI (.frz [(5,.u U)])) sA)))))))))))) (sH (.frz [(5,.u U)])))))
def Zbo:okE ⟨354,[Ks],[Ks],u1 ZN⟩:=
 ofE Zg Zd func354 call354 sA
def Zbl:okE ⟨355,[.slice 218 Zz],[.slice 218 Zz],u1 rj⟩:=
 ofE Zg Zd func355 call355 sA
def iv:okE ⟨251,[Zx],[Zx],u1 iJ⟩:=
 ofE (sO Zbo Zbl) Zd func251 call251 sA
def Zbn:okE ⟨356,[Xh],[Xh],u1 ro⟩:=
 ofE Zg Zd func356 call356 sA
def XN:okE ⟨252,[Qi],[Qi],u1 nP⟩:=
 ofE (sN Zbn) Zd func252 call252 sA
def VR:okE ⟨126,[Zy],[Zy],u1 dR⟩:=
 ofE (sO iv XN) Zd func126 call126 sA
def Zpd:okE ⟨127,[.slice 166 X8],[.slice 166 X8],u1 zn⟩:=
 ofE Zg Zd func127 call127 (sH (sF [pV 0 (.slice 166 X8),wR 3 sC,pV 4 tI] (λN=>u3 (lZ N)) (u3 qf) (λK1=>sA))) ⟨λ_=>rfl,λN v=>Ah⟩
def Xg:okE ⟨34,[Zq],[Zq],u1 Qj⟩:=
 ofE (sO VR Zpd) Zd func34 call34 (sI (sF [tX 1 sD,tX 2 sC,tX 3 (sE (sE (sE (.p sC sD)))),pV 4 tI] (λN=>u4 (tf N)) (u4 wy) (λK1=>sA))) ⟨λ_=>rfl,λN v=>Ah⟩
def XL:okE ⟨360,[Ks],[.bool],u1 aP⟩:=
 ofE (sO VS Yf) Zd func360 call360 (sH (sF [wC 1 sD,pV 3 tI] (λN=>u2 (lT N)) (u2 Vg) (λK1=>sA))) ⟨λ_=>rfl,λN v=>Ah⟩
def Zbm:okE ⟨366,[Zz],[.bool],u1 VB⟩:=
 ofE Zg Zd func366 call366 sA
def kJ:okE ⟨361,[.slice 218 Zz],[.bool],u1 Wy⟩:=
 ofE (sN Zbm) Zd func361 call361 (sG (sF [pV 0 (.slice 218 Zz),pV 3 tI] (λN=>u2 (c9 N)) (u2 fC) (λK1=>sA))) ⟨λ_=>rfl,λN v=>Ah⟩
def kI:okE ⟨262,[.slice 218 Zz,Zz],[.slice 218 Zz],u2 dx⟩:=
 ofE (sP kJ Zbm Zbl) Zd func262 call262 (sJ (sF [pV 0 (.slice 218 Zz),wH 3 sD,wB 5 sC,pV 6 .bool,pV 7 tI] (λN=>u5 (Jt N)) (u5 me) (λK1=>(sG (.join [pV 0 (.slice 218 Zz),wH 3 sD,wB 5 sC,pV 6 .bool,pV 7 tI] (u5 (cW K1)) (.block (.block (sG (.cond sA (sG (.cond (.join [pV 0 (.slice 218 Zz),wH 3 sD,wB 5 sC,pV 6 .bool,pV 7 tI] (u5 (py K1)) sA sA) sA)))))) sA))))) ⟨λ_=>rfl,λN=>⟨(λv=>Ah),λv=>Ah,λv=>Ah⟩⟩
def Zj6:okE ⟨362,[.slice 218 Zz],[wS],u1 bH⟩:=
 ofE (sN kJ) Zd func362 call362 (sI (sF [pV 0 (.slice 218 Zz),pV 3 tI,pV 4 tI] (λN=>u3 (V6 N)) (u3 fa) (λK1=>sA))) ⟨λ_=>rfl,λN v=>Ah⟩
def Zff:okE ⟨363,[.slice 218 Zz,wS],[wS],u2 ol⟩:=
 ofE (sN kJ) Zd func363 call363 (sH (sF [pV 0 (.slice 218 Zz),pV 1 tI,pV 5 tI] (λN=>u3 (bj N)) (u3 uq) (λK1=>(sG (.join [pV 0 (.slice 218 Zz),pV 1 tI,pV 5 tI] (u3 (qa K1)) sA sA))))) ⟨λ_=>rfl,λN=>⟨(λv=>Ah),λv=>Ah⟩⟩
def zd:okE ⟨364,[Zx],[wS],u1 ch⟩:=
 ofE Zg Zd func364 call364 sA
end
end Go.Proofs.YtahnlnkboamdmaaGreatDoor

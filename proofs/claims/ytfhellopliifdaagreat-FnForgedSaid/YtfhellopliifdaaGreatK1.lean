/- FnForged: that the program code computes these plain functions, part 1. No condition. -/
import Derived.Test.YtfhellopliifdaaGreatM2
set_option linter.all false
namespace Go.Proofs.YtfhellopliifdaaGreat
noncomputable section
open Go.Am Go.Proofs.Tryz
set_option maxRecDepth 100000
def tab:Tab:=Q1t [(3,.int .i64),(4,.bool),(5,.int .u8),(9,.str),(22,.slice 5 (.int .u8)),(25,Zmg),(26,.slice 96 (Zu)),(28,Qq),(30,Xr),(32,Zdr),(34,Qq),(35,.slice 63 (Yo)),(37,Zq),(38,.slice 9 (.str)),(61,.slice 80 (Zt)),(63,Yo),(80,Zt),(82,.slice 3 (.int .i64)),(84,Wh),(85,.slice 214 (Zw)),(87,Z1),(88,.slice 268 (Zf2)),(90,Xe),(92,Qi),(94,Kf),(96,Zu),(106,.slice 157 (Ql)),(109,J3),(123,Vw),(157,Ql),(173,.int .u64),(214,Zw),(229,.arr 7 (.bool)),(268,Zf2)]
theorem Xja:TOK Tryz.prog 3 (.int .i64):=⟨by kernel_rfl,by kernel_rfl⟩
theorem Xjb:TOK Tryz.prog 4 (.bool):=⟨by kernel_rfl,by kernel_rfl⟩
theorem Xjc:TOK Tryz.prog 5 (.int .u8):=⟨by kernel_rfl,by kernel_rfl⟩
theorem Xjd:TOK Tryz.prog 9 (.str):=⟨by kernel_rfl,by kernel_rfl⟩
theorem Xfr:TOK Tryz.prog 22 (.slice 5 (.int .u8)):=⟨by kernel_rfl,by kernel_rfl⟩
theorem Xfs:TOK Tryz.prog 25 (Zmg):=⟨by kernel_rfl,by kernel_rfl⟩
theorem Q8r:TOK Tryz.prog 26 (.slice 96 (Zu)):=⟨by kernel_rfl,by kernel_rfl⟩
theorem Xft:TOK Tryz.prog 28 (Qq):=⟨by kernel_rfl,by kernel_rfl⟩
theorem Xfu:TOK Tryz.prog 30 (Xr):=⟨by kernel_rfl,by kernel_rfl⟩
theorem Xfv:TOK Tryz.prog 32 (Zdr):=⟨by kernel_rfl,by kernel_rfl⟩
theorem Xfw:TOK Tryz.prog 34 (Qq):=⟨by kernel_rfl,by kernel_rfl⟩
theorem Xfx:TOK Tryz.prog 35 (.slice 63 (Yo)):=⟨by kernel_rfl,by kernel_rfl⟩
theorem Xfy:TOK Tryz.prog 37 (Zq):=⟨by kernel_rfl,by kernel_rfl⟩
theorem Xfz:TOK Tryz.prog 38 (.slice 9 (.str)):=⟨by kernel_rfl,by kernel_rfl⟩
theorem Xf0:TOK Tryz.prog 61 (.slice 80 (Zt)):=⟨by kernel_rfl,by kernel_rfl⟩
theorem Xf1:TOK Tryz.prog 63 (Yo):=⟨by kernel_rfl,by kernel_rfl⟩
theorem Xf2:TOK Tryz.prog 80 (Zt):=⟨by kernel_rfl,by kernel_rfl⟩
theorem Xf3:TOK Tryz.prog 82 (.slice 3 (.int .i64)):=⟨by kernel_rfl,by kernel_rfl⟩
theorem Xf4:TOK Tryz.prog 84 (Wh):=⟨by kernel_rfl,by kernel_rfl⟩
theorem Xf5:TOK Tryz.prog 85 (.slice 214 (Zw)):=⟨by kernel_rfl,by kernel_rfl⟩
theorem Xf6:TOK Tryz.prog 87 (Z1):=⟨by kernel_rfl,by kernel_rfl⟩
theorem Xf7:TOK Tryz.prog 88 (.slice 268 (Zf2)):=⟨by kernel_rfl,by kernel_rfl⟩
theorem Xf8:TOK Tryz.prog 90 (Xe):=⟨by kernel_rfl,by kernel_rfl⟩
theorem Xf9:TOK Tryz.prog 92 (Qi):=⟨by kernel_rfl,by kernel_rfl⟩
theorem Xga:TOK Tryz.prog 94 (Kf):=⟨by kernel_rfl,by kernel_rfl⟩
theorem Q8s:TOK Tryz.prog 96 (Zu):=⟨by kernel_rfl,by kernel_rfl⟩
theorem Xbs:TOK Tryz.prog 106 (.slice 157 (Ql)):=⟨by kernel_rfl,by kernel_rfl⟩
theorem Xbt:TOK Tryz.prog 109 (J3):=⟨by kernel_rfl,by kernel_rfl⟩
theorem Xbu:TOK Tryz.prog 123 (Vw):=⟨by kernel_rfl,by kernel_rfl⟩
theorem Xbv:TOK Tryz.prog 157 (Ql):=⟨by kernel_rfl,by kernel_rfl⟩
theorem Xbw:TOK Tryz.prog 173 (.int .u64):=⟨by kernel_rfl,by kernel_rfl⟩
theorem Xbx:TOK Tryz.prog 214 (Zw):=⟨by kernel_rfl,by kernel_rfl⟩
theorem Xby:TOK Tryz.prog 229 (.arr 7 (.bool)):=⟨by kernel_rfl,by kernel_rfl⟩
theorem Xbz:TOK Tryz.prog 268 (Zf2):=⟨by kernel_rfl,by kernel_rfl⟩
theorem Q8n:tab.ok Tryz.prog:=(Yn Xja (Yn Xjb (Yn Xjc (Yn Xjd (Yn Xfr (Yn Xfs (Yn Q8r (Yn Xft (Yn Xfu (Yn Xfv (Yn Xfw (Yn Xfx (Yn Xfy (Yn Xfz (Yn Xf0 (Yn Xf1 (Yn Xf2 (Yn Xf3 (Yn Xf4 (Yn Xf5 (Yn Xf6 (Yn Xf7 (Yn Xf8 (Yn Xf9 (Yn Xga (Yn Q8s (Yn Xbs (Yn Xbt (Yn Xbu (Yn Xbv (Yn Xbw (Yn Xbx (Yn Xby (Yn Xbz Xbr))))))))))))))))))))))))))))))))))
abbrev glob:Kx:=Kx.none
theorem Xd4:Zyw Tryz.prog 25 (Zmg):=Zyw.of (by kernel_rfl) (by kernel_rfl) rfl (by decide)
theorem Xd5:Zyw Tryz.prog 28 (Qq):=Zyw.of (by kernel_rfl) (by kernel_rfl) rfl (by decide)
theorem Xd6:Zyw Tryz.prog 30 (Xr):=Zyw.of (by kernel_rfl) (by kernel_rfl) rfl (by decide)
theorem Xd7:Zyw Tryz.prog 32 (Zdr):=Zyw.of (by kernel_rfl) (by kernel_rfl) rfl (by decide)
theorem Xd8:Zyw Tryz.prog 34 (Qq):=Zyw.of (by kernel_rfl) (by kernel_rfl) rfl (by decide)
theorem Xd9:Zyw Tryz.prog 80 (Zt):=Zyw.of (by kernel_rfl) (by kernel_rfl) rfl (by decide)
theorem Xea:Zyw Tryz.prog 94 (Kf):=Zyw.of (by kernel_rfl) (by kernel_rfl) rfl (by decide)
theorem Q9w:Zyw Tryz.prog 214 (Zw):=Zyw.of (by kernel_rfl) (by kernel_rfl) rfl (by decide)
theorem Q9x:Zyw Tryz.prog 229 (.arr 7 (.bool)):=Zyw.of (by kernel_rfl) (by kernel_rfl) rfl (by decide)
theorem Q9y:Zyw Tryz.prog 268 (Zf2):=Zyw.of (by kernel_rfl) (by kernel_rfl) rfl (by decide)
def Xhn:List Nat:=[25,28,30,32,34,80,94,214,229,268]
theorem Q59:Q84 Tryz.prog tab Xhn:=(Zs2 Xd4 rfl (Zs2 Xd5 rfl (Zs2 Xd6 rfl (Zs2 Xd7 rfl (Zs2 Xd8 rfl (Zs2 Xd9 rfl (Zs2 Xea rfl (Zs2 Q9w rfl (Zs2 Q9x rfl (Zs2 Q9y rfl Q9z))))))))))
@[reducible] def Xif:Zpq:={pp:=[(286,251)],er:=[]}
theorem Q14:Xif.ok Tryz.prog:=Zpq.ok_of (by kernel_rfl) (by kernel_rfl)
@[reducible] def cfg(ln:List Nat)(Γ:Env)(ΓL:Z5d)(ΓB:Z1w)(ΓW:Z1x):Cfg:={τ:=tab,eq:=λe=>Xhn.any (Nat.beq e),Γ:=Γ,ΓL:=ΓL,ΓB:=ΓB,lent:=ln,ΓW:=ΓW,pt:=Xif}
theorem Q5p{gl:Kx}{ln:List Nat}{Γ:Env}{ΓL:Z5d}{ΓB:Z1w}{ΓW:Z1x}(hs:gl.soft=false)(h:Γ.ok Tryz.prog gl)(hL:ΓL.ok Tryz.prog gl)(hB:ΓB.ok Tryz.prog gl)(hW:ΓW.ok Tryz.prog):(cfg ln Γ ΓL ΓB ΓW).ok Tryz.prog gl:=⟨Q8n,Q59,h,by kernel_rfl,hL,hB,hs,(λh=>by cases h),hW,Q14,(λ_ h=>by cases h)⟩
@[reducible] def Ziq(I:Qad)(ln:List Nat)(Γ:Env)(ΓL:Z5d)(ΓB:Z1w)(ΓW:Z1x):Cfg:={cfg ln Γ ΓL ΓB ΓW with inl:=I}
theorem Ws{gl:Kx}{I:Qad}{ln:List Nat}{Γ:Env}{ΓL:Z5d}{ΓB:Z1w}{ΓW:Z1x}(hI:I.ok Tryz.prog gl)(hs:gl.soft=false)(h:Γ.ok Tryz.prog gl)(hL:ΓL.ok Tryz.prog gl)(hB:ΓB.ok Tryz.prog gl)(hW:ΓW.ok Tryz.prog):(Ziq I ln Γ ΓL ΓB ΓW).ok Tryz.prog gl:=⟨Q8n,Q59,h,by kernel_rfl,hL,hB,hs,(λh=>by cases h),hW,Q14,hI⟩
abbrev u1{a z:Type}(f:a->z)(x:a×Unit):z:=f x.1
abbrev u2{a b z:Type}(f:a->b->z)(x:a×b×Unit):z:=f x.1 x.2.1
abbrev u3{a b c z:Type}(f:a->b->c->z)(x:a×b×c×Unit):z:=f x.1 x.2.1 x.2.2.1
abbrev u4{a b c d z:Type}(f:a->b->c->d->z)(x:a×b×c×d×Unit):z:=f x.1 x.2.1 x.2.2.1 x.2.2.2.1
abbrev u5{a b c d e z:Type}(f:a->b->c->d->e->z)(x:a×b×c×d×e×Unit):z:=f x.1 x.2.1 x.2.2.1 x.2.2.2.1 x.2.2.2.2.1
abbrev u6{a b c d e g z:Type}(f:a->b->c->d->e->g->z)(x:a×b×c×d×e×g×Unit):z:=f x.1 x.2.1 x.2.2.1 x.2.2.2.1 x.2.2.2.2.1 x.2.2.2.2.2.1
abbrev u7{a b c d e g h z:Type}(f:a->b->c->d->e->g->h->z)(x:a×b×c×d×e×g×h×Unit):z:=f x.1 x.2.1 x.2.2.1 x.2.2.2.1 x.2.2.2.2.1 x.2.2.2.2.2.1 x.2.2.2.2.2.2.1
abbrev u8{a b c d e g h i z:Type}(f:a->b->c->d->e->g->h->i->z)(x:a×b×c×d×e×g×h×i×Unit):z:=f x.1 x.2.1 x.2.2.1 x.2.2.2.1 x.2.2.2.2.1 x.2.2.2.2.2.1 x.2.2.2.2.2.2.1 x.2.2.2.2.2.2.2.1
abbrev u9{a b c d e g h i j z:Type}(f:a->b->c->d->e->g->h->i->j->z)(x:a×b×c×d×e×g×h×i×j×Unit):z:=f x.1 x.2.1 x.2.2.1 x.2.2.2.1 x.2.2.2.2.1 x.2.2.2.2.2.1 x.2.2.2.2.2.2.1 x.2.2.2.2.2.2.2.1 x.2.2.2.2.2.2.2.2.1
abbrev u10{a b c d e g h i j k z:Type}(f:a->b->c->d->e->g->h->i->j->k->z)(x:a×b×c×d×e×g×h×i×j×k×Unit):z:=f x.1 x.2.1 x.2.2.1 x.2.2.2.1 x.2.2.2.2.1 x.2.2.2.2.2.1 x.2.2.2.2.2.2.1 x.2.2.2.2.2.2.2.1 x.2.2.2.2.2.2.2.2.1 x.2.2.2.2.2.2.2.2.2.1
def lA{ρ:Type}:An ρ->Bool|.leaf=>true|.frz _=>true|.seq A B=>lA A&&lA B|.cond A B=>lA A&&lA B|.block A=>lA A|_=>false
def aj(a b:Bool)(P Q:Prop):Prop:=match a,b with
 |true,true=>True
 |true,false=>Q
 |false,true=>P
 |false,false=>P/\Q
def aq(a b:Bool)(P J Q:Prop):Prop:=match a,b with
 |true,true=>J
 |true,false=>J/\Q
 |false,true=>P/\J
 |false,false=>P/\J/\Q
def cj{ρ:Type}(C:Cfg)(n:Nat):Code->An ρ->(Exit->St->Option ρ)->Prop
 |.seq a b,A,k=>match A with
  |.seq A B=>aj (lA A) (lA B) (cj C n a A (Zu9 (Vo C n b B k) k)) (cj C n b B k)
  |.join p f A B=>aq (lA A) (lA B) (cj C n a A (Zu9 (Z8d C.soft p f) k)) (∀v,f v=Vo C n b B k (Qgu C.lent p v)) (cj C n b B k)
  |_=>True
 |.cond _ a b,A,k=>match A with
  |.cond A B=>aj (lA A) (lA B) (cj C n a A k) (cj C n b B k)
  |_=>True
 |.block id b,A,k=>match A with
  |.block A=>cj C n b A (Z5g id k)
  |_=>True
 |.loop b,A,k=>match A with
  |.loop p f _ A=>(∀v,f 0 v=none)/\ ∀N,match lA (A (f N))with
   |true=> ∀v,f (N+1) v=Vo C n b (A (f N)) (Zu9 (Z8d C.soft p (f N)) k) (Qgu C.lent p v)
   |false=>(∀v,f (N+1) v=Vo C n b (A (f N)) (Zu9 (Z8d C.soft p (f N)) k) (Qgu C.lent p v))/\cj C n b (A (f N)) (Zu9 (Z8d C.soft p (f N)) k)
  |.unroll L m A=> ∀i,i<m->cj C n b (A i) (Zu9 (Z6l (λi kk s=>Vo C n b (A i) (Zu9 kk k) (Qcr L s)) i) k)
  |_=>True
 |_,_,_=>True
theorem Qom{ρ:Type}{C:Cfg}{n:Nat}:∀(c:Code)(A:An ρ)(k:Exit->St->Option ρ),lA A=true->Zbg C n c A k:=by
 intro c
 induction c with
 |seq a b iha ihb=>
  intro A k h;cases A<;>simp only[lA,Oba]at h<;>simp only[Zbg]
  ·exact⟨iha _ _ h.1,ihb _ _ h.2⟩
  ·cases h
 |cond o a b iha ihb=>
  intro A k h;cases A<;>simp only[lA,Oba]at h<;>simp only[Zbg]
  exact⟨iha _ _ h.1,ihb _ _ h.2⟩
 |block id b ih=>
  intro A k h;cases A<;>simp only[lA]at h<;>simp only[Zbg]
  exact ih _ _ h
 |loop b ih=>
  intro A k h;cases A<;>simp only[lA]at h<;>simp only[Zbg]
  ·cases h
  ·cases h
 |_=>intros;simp only[Zbg]
theorem Xb7{a b:Bool}{P Q P' Q':Prop}(h:aj a b P Q)(hp:P->P')(hq:Q->Q')(ha:a=true->P')(hb:b=true->Q'):P'/\Q':=by
 cases a<;>cases b
 ·exact⟨hp h.1,hq h.2⟩
 ·exact⟨hp h,hb rfl⟩
 ·exact⟨ha rfl,hq h⟩
 ·exact⟨ha rfl,hb rfl⟩
theorem Xgy{a b:Bool}{P J Q P' Q':Prop}(h:aq a b P J Q)(hp:P->P')(hq:Q->Q')(ha:a=true->P')(hb:b=true->Q'):P'/\J/\Q':=by
 cases a<;>cases b
 ·exact⟨hp h.1,h.2.1,hq h.2.2⟩
 ·exact⟨hp h.1,h.2,hb rfl⟩
 ·exact⟨ha rfl,h.1,hq h.2⟩
 ·exact⟨ha rfl,h,hb rfl⟩
theorem Xcd{ρ:Type}{C:Cfg}{n:Nat}:∀(c:Code)(A:An ρ)(k:Exit->St->Option ρ),cj C n c A k->Zbg C n c A k:=by
 intro c
 induction c with
 |seq a b iha ihb=>
  intro A k h;cases A<;>simp only[Zbg]<;>simp only[cj]at h
  ·exact Xb7 h (iha _ _) (ihb _ _) (Qom _ _ _) (Qom _ _ _)
  ·exact Xgy h (iha _ _) (ihb _ _) (Qom _ _ _) (Qom _ _ _)
 |cond o a b iha ihb=>
  intro A k h;cases A<;>simp only[Zbg]<;>simp only[cj]at h
  exact Xb7 h (iha _ _) (ihb _ _) (Qom _ _ _) (Qom _ _ _)
 |block id b ih=>
  intro A k h;cases A<;>simp only[Zbg]<;>simp only[cj]at h
  exact ih _ _ h
 |loop b ih=>
  intro A k h;cases A<;>simp only[Zbg]<;>simp only[cj]at h
  ·refine⟨h.1,λN=>?_⟩;have h:=h.2 N;split at h
   ·rename_i e;exact⟨h,Qom _ _ _ e⟩
   ·exact⟨h.1,ih _ _ h.2⟩
  ·exact λi hi=>ih _ _ (h i hi)
 |_=>intros;simp only[Zbg]
theorem lf{ρ:Type}{C:Cfg}{n:Nat}{c:Code}{k:Exit->St->Option ρ}:Zbg C n c (.leaf:An ρ) k:=Y0 c k
theorem hk{α β:Type}{f g:α->Option β}(h:∀x,f x=g x)(x:α)(r:β)(e:g x=some r):f x=some r:=(h x).trans e
abbrev okE(e:FnE):=Zn8 Tryz.prog glob e
abbrev okB(e:FnB):=Z31 Tryz.prog glob e
theorem ofE{e:FnE}{Γ:Env}{ΓB:Z1w}(h1:Γ.ok Tryz.prog glob)(h2:ΓB.ok Tryz.prog glob){fn:Func}(hf:Tryz.prog.funcs[e.f]? =some fn)(hcall:∀args w,(callFunc e.f args).run Tryz.prog w=.ok (.enter e.f args) w)(A:An (Vm e.res))(hA:cj (cfg [] Γ [] ΓB []) fn.ntmps (Zam fn) A (fnK (cfg [] Γ [] ΓB []).τ e.res fn.results.toList):=by trivial)
  (hF:∀xs,Vo (cfg [] Γ [] ΓB []) fn.ntmps (Zam fn) A (fnK (cfg [] Γ [] ΓB []).τ e.res fn.results.toList) (Qm2 e.args xs)=e.F xs:=by intro _;kernel_rfl) (hb:fn.body=some (Zam fn):=by rfl) (hn:e.args.length<=fn.ntmps:=by decide):okE e:=Zn8.of (Q5p rfl h1 Kq h2 Kr) rfl hf hb hcall hn A (Xcd _ _ _ hA) (hk hF)
theorem ofB{e:FnB}{Γ:Env}{ΓB:Z1w}(L:List Nat)(h1:Γ.ok Tryz.prog glob)(h2:ΓB.ok Tryz.prog glob){fn:Func}(hf:Tryz.prog.funcs[e.f]? =some fn)(hcall:∀args w,(callFunc e.f args).run Tryz.prog w=.ok (.enter e.f args) w)(A:An (Z6p e.res×Zyb e.args))(hA:cj (cfg L Γ [] ΓB []) fn.ntmps (Zam fn) A (Qyi (cfg L Γ [] ΓB []).τ e.args e.res fn.results.toList):=by trivial)
  (hF:∀xs,Vo (cfg L Γ [] ΓB []) fn.ntmps (Zam fn) A (Qyi (cfg L Γ [] ΓB []).τ e.args e.res fn.results.toList) (Qm3 e.args xs)=e.F xs:=by intro _;kernel_rfl) (hb:fn.body=some (Zam fn):=by rfl) (hn:e.args.length<=fn.ntmps:=by decide) (hlent:L=Znh e.args 0:=by rfl):okB e:=Z31.of (Q5p rfl h1 Kq h2 Kr) rfl hlent hf hb hcall hn A (Xcd _ _ _ hA) (hk hF)
abbrev tI:Ty:=.int .i64
abbrev pV(k:Nat)(t:Ty):PE:=.val k t (.u false)
theorem Qwr:okE ⟨4,[.slice 5 (.int .u8)],[.bool],u1 Qon⟩:=
 ofE Zh Zd func4 call4 .leaf
theorem Z3t:okB ⟨42,[.sh (.slice 5 (.int .u8))],.newb 123 (Vw),u1 Zuk⟩:=
 ofB [] Zh Zd func42 call42 (.seq .leaf (.seq .leaf (.seq (.seq .leaf (.block (.loop [pV 0 (.slice 5 (.int .u8)),pV 3 tI,pV 4 tI] (λN=>u3 (Ztg N)) (u3 Zul) (λK1=>.leaf)))) .leaf))) ⟨λ_=>rfl,λN v=>by kernel_rfl⟩
theorem Z1g:okB ⟨89,[.bx 123 (Vw) (.u false)],.vals [.int .i64],u1 Zae⟩:=
 ofB [0] Zh Zd func89 call89 .leaf
theorem Yp:okB ⟨46,[.bx 123 (Vw) (.u false),.sh (.int .i64)],.vals [.int .i64],u2 Qo⟩:=
 ofB [0] Zh (Zy Z1g Zd) func46 call46 .leaf
theorem Zq9:okB ⟨44,[.bx 123 (Vw) (.u false),.sh (.int .i64)],.vals [.bool],u2 Zbb⟩:=
 ofB [0] Zh (Zy Yp Zd) func44 call44 .leaf
theorem Qa2:okE ⟨253,[],[Zmg],λ_=>Zxj⟩:=
 ofE Zh Zd func253 call253 .leaf
theorem Qlm:okB ⟨151,[.bx 123 (Vw) (.u false)],.vals [Zmg],u1 Zsj⟩:=
 ofB [0] (Za Qa2 Zh) (Zy Yp Zd) func151 call151 .leaf
theorem Zzc:okE ⟨59,[.int .i64],[.bool],u1 Vl⟩:=
 ofE Zh Zd func59 call59 .leaf
theorem Y1:okE ⟨34,[.int .i64,.int .i64,.int .i64],[.bool],u3 Z8⟩:=
 ofE Zh Zd func34 call34 .leaf
theorem Z1d:okE ⟨28,[Zmg],[.bool],u1 Za9⟩:=
 ofE (Za Zzc (Za Y1 Zh)) Zd func28 call28 .leaf
theorem Xm:okE ⟨61,[.int .i64],[.bool],u1 Qz⟩:=
 ofE (Za Y1 Zh) Zd func61 call61 .leaf
theorem Z2y:okE ⟨249,[.int .i64],[Qq,.bool],u1 Zgf⟩:=
 ofE (Za Xm Zh) Zd func249 call249 .leaf
theorem Z20:okE ⟨250,[.int .i64,.int .i64],[Xr,.bool],u2 Zgg⟩:=
 ofE (Za Y1 Zh) Zd func250 call250 .leaf
theorem Qi1:okE ⟨251,[.int .i64],[Zdr,.bool],u1 Zx5⟩:=
 ofE (Za Y1 Zh) Zd func251 call251 .leaf
theorem Qiz:okE ⟨252,[.int .i64],[Qq,.bool],u1 Zx4⟩:=
 ofE (Za Y1 Zh) Zd func252 call252 .leaf
theorem Qlj:okE ⟨150,[.bool,Zmg,Zmg],[Zq,.bool],u3 Zsg⟩:=
 ofE (Za Z1d (Za Z2y (Za Z20 (Za Qi1 (Za Qiz Zh))))) Zd func150 call150 .leaf
theorem Z1k:okE ⟨192,[Wh],[Wh],u1 Zu6⟩:=
 ofE Zh Zd func192 call192 .leaf
theorem Z1h:okE ⟨193,[.slice 214 (Zw)],[.slice 214 (Zw)],u1 Zob⟩:=
 ofE Zh Zd func193 call193 .leaf
theorem Zf8:okE ⟨104,[Z1],[Z1],u1 Zgo⟩:=
 ofE (Za Z1k (Za Z1h Zh)) Zd func104 call104 .leaf
theorem Z1j:okE ⟨194,[Xe],[Xe],u1 Zod⟩:=
 ofE Zh Zd func194 call194 .leaf
theorem Zwa:okE ⟨105,[Qi],[Qi],u1 Zlx⟩:=
 ofE (Za Z1j Zh) Zd func105 call105 .leaf
theorem Zzb:okE ⟨54,[Zu],[Zu],u1 Zdm⟩:=
 ofE (Za Zf8 (Za Zwa Zh)) Zd func54 call54 .leaf
theorem Qd0:okE ⟨55,[.slice 63 (Yo)],[.slice 63 (Yo)],u1 Ztz⟩:=
 ofE Zh Zd func55 call55 (.seq .leaf (.seq .leaf (.seq (.seq .leaf (.block (.loop [pV 0 (.slice 63 (Yo)),.val 3 (.slice 63 (Yo)) (.u true),pV 4 tI] (λN=>u3 (Zjw N)) (u3 Zn1) (λK1=>.leaf)))) .leaf))) ⟨λ_=>rfl,λN v=>by kernel_rfl⟩
theorem Q3:okE ⟨22,[Zq],[Zq],u1 Z9⟩:=
 ofE (Za Zzb (Za Qd0 Zh)) Zd func22 call22 (.seq .leaf (.seq .leaf (.seq .leaf (.seq (.seq .leaf (.block (.loop [.box 1 37 (Zq) (.u false),.box 2 37 (Zq) (.u true),.box 3 37 (Zq) (.p (.u false) (.p (.u false) (.p (.u false) (.p (.u true) (.u false))))),pV 4 tI] (λN=>u4 (Zhf N)) (u4 Zro) (λK1=>.leaf)))) .leaf)))) ⟨λ_=>rfl,λN v=>by kernel_rfl⟩
theorem Zv7:okE ⟨212,[Wh],[.bool],u1 Zba⟩:=
 ofE (Za Zzc (Za Y1 Zh)) Zd func212 call212 (.seq .leaf (.seq .leaf (.seq (.seq .leaf (.block (.loop [.box 1 84 (Wh) (.u false),pV 3 tI] (λN=>u2 (Zjs N)) (u2 Za6) (λK1=>.leaf)))) .leaf))) ⟨λ_=>rfl,λN v=>by kernel_rfl⟩
theorem Z1i:okE ⟨310,[Zw],[.bool],u1 Zyt⟩:=
 ofE Zh Zd func310 call310 .leaf
theorem Zix:okE ⟨213,[.slice 214 (Zw)],[.bool],u1 Vz⟩:=
 ofE (Za Z1i Zh) Zd func213 call213 (.seq .leaf (.seq (.seq .leaf (.block (.loop [pV 0 (.slice 214 (Zw)),pV 3 tI] (λN=>u2 (Zcr N)) (u2 Zew) (λK1=>.leaf)))) .leaf)) ⟨λ_=>rfl,λN v=>by kernel_rfl⟩
theorem Ziw:okE ⟨214,[.slice 214 (Zw),Zw],[.slice 214 (Zw)],u2 Zc5⟩:=
 ofE (Za Zix (Za Z1i (Za Z1h Zh))) Zd func214 call214 (.seq .leaf (.seq .leaf (.seq .leaf (.seq .leaf (.seq (.seq .leaf (.block (.loop [pV 0 (.slice 214 (Zw)),.box 3 214 (Zw) (.u false),.val 5 (.slice 214 (Zw)) (.u true),pV 6 .bool,pV 7 tI] (λN=>u5 (Kw N)) (u5 Zj2) (λK1=>(.seq .leaf (.join [pV 0 (.slice 214 (Zw)),.box 3 214 (Zw) (.u false),.val 5 (.slice 214 (Zw)) (.u true),pV 6 .bool,pV 7 tI] (u5 (Zcl K1)) (.block (.block (.seq .leaf (.cond .leaf (.seq .leaf (.cond (.join [pV 0 (.slice 214 (Zw)),.box 3 214 (Zw) (.u false),.val 5 (.slice 214 (Zw)) (.u true),pV 6 .bool,pV 7 tI] (u5 (Zns K1)) .leaf .leaf) .leaf)))))) .leaf)))))) .leaf))))) ⟨λ_=>rfl,λN=>⟨(λv=>by kernel_rfl),λv=>by kernel_rfl,λv=>by kernel_rfl⟩⟩
theorem Z8u:okE ⟨215,[.slice 214 (Zw)],[.int .i64],u1 Za8⟩:=
 ofE (Za Zix Zh) Zd func215 call215 (.seq .leaf (.seq .leaf (.seq .leaf (.seq (.seq .leaf (.block (.loop [pV 0 (.slice 214 (Zw)),pV 3 tI,pV 4 tI] (λN=>u3 (J6 N)) (u3 Zej) (λK1=>.leaf)))) .leaf)))) ⟨λ_=>rfl,λN v=>by kernel_rfl⟩
theorem Z4v:okE ⟨216,[.slice 214 (Zw),.int .i64],[.int .i64],u2 Zma⟩:=
 ofE (Za Zix Zh) Zd func216 call216 (.seq .leaf (.seq .leaf (.seq (.seq .leaf (.block (.loop [pV 0 (.slice 214 (Zw)),pV 1 tI,pV 5 tI] (λN=>u3 (Zaq N)) (u3 Zpz) (λK1=>(.seq .leaf (.join [pV 0 (.slice 214 (Zw)),pV 1 tI,pV 5 tI] (u3 (Znx K1)) .leaf .leaf)))))) .leaf))) ⟨λ_=>rfl,λN=>⟨(λv=>by kernel_rfl),λv=>by kernel_rfl⟩⟩
theorem Ztu:okE ⟨217,[Z1],[.int .i64],u1 Zdq⟩:=
 ofE Zh Zd func217 call217 .leaf
theorem Zao:okE ⟨113,[Z1],[.bool],u1 Y5⟩:=
 ofE (Za Zv7 (Za Zix (Za Y1 (Za Xm (Za Ziw (Za Z8u (Za Z4v (Za Ztu Zh)))))))) Zd func113 call113 (.seq .leaf (.seq .leaf (.seq .leaf (.seq .leaf (.seq (.seq .leaf (.block (.loop [.box 1 87 (Z1) (.u false),pV 3 (.slice 214 (Zw)),pV 4 tI] (λN=>u3 (Zff N)) (u3 Jn) (λK1=>.leaf)))) (.seq (.seq .leaf (.block (.loop [.box 1 87 (Z1) (.u false),pV 3 (.slice 214 (Zw)),pV 5 tI] (λN=>u3 (Zfg N)) (u3 Zex) (λK2=>.leaf)))) (.seq .leaf (.seq .leaf (.seq (.seq .leaf (.block (.loop [.box 1 87 (Z1) (.u false),pV 7 tI] (λN=>u2 (Zfh N)) (u2 Zey) (λK3=>.leaf)))) (.seq (.seq .leaf (.block (.loop [.box 1 87 (Z1) (.u false),pV 8 tI] (λN=>u2 (Zfi N)) (u2 Zj6) (λK4=>.leaf)))) .leaf)))))))))) ⟨⟨λ_=>rfl,λN v=>by kernel_rfl⟩,⟨λ_=>rfl,λN v=>by kernel_rfl⟩,⟨λ_=>rfl,λN v=>by kernel_rfl⟩,λ_=>rfl,λN v=>by kernel_rfl⟩
theorem Zch:okE ⟨30,[Qq],[.bool],u1 Kp⟩:=
 ofE (Za Xm (Za Y1 Zh)) Zd func30 call30 .leaf
theorem Znj:okE ⟨218,[Xe],[.bool],u1 Zii⟩:=
 ofE (Za Xm Zh) Zd func218 call218 (.seq .leaf (.seq .leaf (.seq (.seq .leaf (.block (.loop [.box 1 90 (Xe) (.u false),pV 3 tI,pV 4 tI] (λN=>u3 (Zi1 N)) (u3 Zp0) (λK1=>.leaf)))) .leaf))) ⟨λ_=>rfl,λN v=>by kernel_rfl⟩
theorem Qqo:okE ⟨219,[Xe],[.int .i64],u1 Zri⟩:=
 ofE (Za Znj Zh) Zd func219 call219 .leaf
theorem Zud:okE ⟨220,[Xe],[.int .i64],u1 Zd8⟩:=
 ofE (Za Znj Zh) Zd func220 call220 .leaf
theorem Zfb:okE ⟨114,[Qi],[.bool],u1 Xq⟩:=
 ofE (Za Znj (Za Xm (Za Qqo (Za Zud Zh)))) Zd func114 call114 (.seq .leaf (.seq .leaf (.seq .leaf (.seq (.seq .leaf (.block (.seq .leaf (.cond .leaf (.seq .leaf (.cond .leaf (.seq .leaf (.cond .leaf (.seq .leaf (.cond .leaf (.join [.box 1 92 (Qi) (.u false),pV 114 .bool] (u2 Ke) .leaf .leaf))))))))))) .leaf)))) (λv=>by kernel_rfl)
theorem Znk:okE ⟨31,[Xr],[.bool],u1 V0⟩:=
 ofE (Za Y1 Zh) Zd func31 call31 .leaf
theorem Zuc:okE ⟨115,[Kf],[.bool],u1 Zbs⟩:=
 ofE (Za Y1 Zh) Zd func115 call115 .leaf
theorem Z4w:okE ⟨60,[Zu],[.bool],u1 Zbl⟩:=
 ofE (Za Xm (Za Zao (Za Zch (Za Zfb (Za Znk (Za Zuc Zh)))))) Zd func60 call60 .leaf
theorem Zua:okE ⟨29,[.slice 96 (Zu)],[.bool],u1 Jt⟩:=
 ofE (Za Z4w Zh) Zd func29 call29 (.seq .leaf (.seq (.seq .leaf (.block (.loop [pV 0 (.slice 96 (Zu)),pV 3 tI] (λN=>u2 (Kc N)) (u2 Zcm) (λK1=>.leaf)))) .leaf)) ⟨λ_=>rfl,λN v=>by kernel_rfl⟩
theorem Zza:okE ⟨32,[Zdr],[.bool],u1 Zf0⟩:=
 ofE (Za Y1 Zh) Zd func32 call32 .leaf
theorem Zts:okE ⟨33,[Qq],[.bool],u1 Zas⟩:=
 ofE (Za Y1 Zh) Zd func33 call33 .leaf
theorem Qiy:okE ⟨116,[.int .i64],[.str],u1 Zij⟩:=
 ofE Zh Zd func116 call116 .leaf
theorem Zpw:okE ⟨221,[Zt],[.bool],u1 Zab⟩:=
 ofE Zh Zd func221 call221 (.seq .leaf (.seq (.seq .leaf (.block (.join [pV 5 .bool] (u1 Kk) .leaf .leaf))) .leaf)) (λv=>by kernel_rfl)
theorem Z87:okE ⟨117,[Zt],[Zt],u1 Zoc⟩:=
 ofE (Za Zpw Zh) Zd func117 call117 (.seq .leaf (.seq .leaf (.join [.box 1 80 (Zt) (.u false),.box 2 80 (Zt) (.u false),.box 3 80 (Zt) (.u false)] (u3 Zn5) .leaf (.seq (.seq .leaf (.block (.seq .leaf (.cond .leaf (.seq .leaf (.cond .leaf (.seq .leaf (.cond .leaf (.join [.box 1 80 (Zt) (.u false),.box 2 80 (Zt) (.u false),.box 3 80 (Zt) (.u false),pV 41 .bool] (u4 Zn6) .leaf .leaf))))))))) .leaf)))) ⟨(λv=>by kernel_rfl),λv=>by kernel_rfl⟩
theorem Zd4:okE ⟨62,[Zt],[.bool],u1 Zat⟩:=
 ofE (Za Qiy (Za Z87 (Za Xm Zh))) Zd func62 call62 (.seq .leaf (.seq .leaf (.seq (.seq .leaf (.block (.seq .leaf (.cond .leaf (.join [.box 1 80 (Zt) (.u false),pV 60 .bool] (u2 Ztx) .leaf .leaf))))) .leaf))) (λv=>by kernel_rfl)
theorem Qgp:okE ⟨35,[.slice 80 (Zt)],[.bool],u1 Zgj⟩:=
 ofE (Za Zd4 Zh) Zd func35 call35 (.seq .leaf (.seq (.seq .leaf (.block (.loop [pV 0 (.slice 80 (Zt)),pV 3 tI] (λN=>u2 (Wj N)) (u2 Vi) (λK1=>.leaf)))) .leaf)) ⟨λ_=>rfl,λN v=>by kernel_rfl⟩
theorem Qgl:okE ⟨36,[.slice 96 (Zu)],[.int .i64],u1 Zgi⟩:=
 ofE (Za Zua Zh) Zd func36 call36 (.seq .leaf (.seq .leaf (.seq (.seq .leaf (.block (.loop [pV 0 (.slice 96 (Zu)),pV 3 tI,pV 4 tI] (λN=>u3 (J2 N)) (u3 Ja) (λK1=>.leaf)))) .leaf))) ⟨λ_=>rfl,λN v=>by kernel_rfl⟩
theorem Qgj:okE ⟨37,[.slice 96 (Zu)],[.int .i64],u1 Zgh⟩:=
 ofE (Za Zua Zh) Zd func37 call37 (.seq .leaf (.seq .leaf (.seq (.seq .leaf (.block (.loop [pV 0 (.slice 96 (Zu)),pV 3 tI,pV 4 tI] (λN=>u3 (J1 N)) (u3 K9) (λK1=>.leaf)))) .leaf))) ⟨λ_=>rfl,λN v=>by kernel_rfl⟩
theorem Vq:okE ⟨11,[Zq],[.bool],u1 X9⟩:=
 ofE (Za Z1d (Za Zua (Za Zch (Za Znk (Za Zza (Za Zts (Za Y1 (Za Qgp (Za Qgl (Za Qgj Zh)))))))))) Zd func11 call11 (.seq .leaf (.seq .leaf (.seq (.seq .leaf (.block (.loop [.box 1 37 (Zq) (.u false),pV 3 tI] (λN=>u2 (Zac N)) (u2 Js) (λK1=>.leaf)))) .leaf))) ⟨λ_=>rfl,λN v=>by kernel_rfl⟩
theorem Zsc:okE ⟨12,[Zq],[.bool],u1 Zfz⟩:=
 ofE Zh Zd func12 call12 .leaf
theorem Vr:okE ⟨25,[Zq],[.bool],u1 Y4⟩:=
 ofE (Za Vq (Za Zsc Zh)) Zd func25 call25 .leaf
theorem Qi2:okE ⟨323,[Zdr],[.int .i64,Zdr,.bool],u1 Zx6⟩:=
 ofE (Za Zza Zh) Zd func323 call323 .leaf
theorem Qo0:okE ⟨324,[.int .i64,.bool,.bool],[.int .i64],u3 Z29⟩:=
 ofE (Za Y1 Zh) Zd func324 call324 (.seq .leaf (.seq .leaf (.seq .leaf (.join [pV 2 .bool,pV 7 tI] (u2 Zrl) .leaf .leaf)))) (λv=>by kernel_rfl)
theorem Zuw:okE ⟨366,[],[Kf],λ_=>W7⟩:=
 ofE Zh Zd func366 call366 .leaf
theorem Qba:okE ⟨367,[],[Qi],λ_=>Zsh⟩:=
 ofE Zh Zd func367 call367 .leaf
theorem Ztt:okE ⟨299,[.int .i64],[.bool],u1 Zau⟩:=
 ofE (Za Xm Zh) Zd func299 call299 .leaf
theorem Qds:okE ⟨356,[.int .i64],[.bool],u1 Zpe⟩:=
 ofE (Za Xm Zh) Zd func356 call356 .leaf
theorem Zxy:okE ⟨300,[.bool,.int .i64],[.bool],u2 Zhc⟩:=
 ofE (Za Xm (Za Qds Zh)) Zd func300 call300 .leaf
theorem Zv5:okE ⟨204,[.bool,.int .i64],[.bool],u2 K0⟩:=
 ofE (Za Xm (Za Ztt (Za Zxy Zh))) Zd func204 call204 .leaf
theorem Zle:okE ⟨197,[.bool,.int .i64],[.bool],u2 Xv⟩:=
 ofE (Za Xm (Za Ztt (Za Zxy Zh))) Zd func197 call197 .leaf
theorem Qlk:okE ⟨390,[.int .i64],[Wh,.bool],u1 Zwl⟩:=
 ofE (Za Zzc Zh) Zd func390 call390 .leaf
theorem Qgg:okE ⟨368,[.int .i64],[Z1,.bool],u1 Zdg⟩:=
 ofE (Za Qlk Zh) Zd func368 call368 .leaf
theorem Z2z:okE ⟨325,[.bool,.int .i64,Zmg,Zmg],[Zu,.bool],u4 K7⟩:=
 ofE (Za Xm (Za Z1d (Za Zuw (Za Qba (Za Zv5 (Za Zle (Za Qgg (Za Z2y (Za Z20 Zh))))))))) Zd func325 call325 .leaf
theorem Zub:okE ⟨270,[.slice 96 (Zu),.int .i64],[.int .i64],u2 Ys⟩:=
 ofE Zh Zd func270 call270 (.seq .leaf (.seq (.seq .leaf (.block (.loop [pV 0 (.slice 96 (Zu)),pV 1 tI,pV 5 tI] (λN=>u3 (Yt N)) (u3 Kn) (λK1=>.leaf)))) .leaf)) ⟨λ_=>rfl,λN v=>by kernel_rfl⟩
theorem Ky:okE ⟨160,[.slice 96 (Zu),Zu],[.slice 96 (Zu)],u2 Q0⟩:=
 ofE (Za Zub (Za Zzb Zh)) Zd func160 call160 (.seq .leaf (.seq .leaf (.seq .leaf (.seq .leaf (.seq (.seq .leaf (.block (.loop [pV 0 (.slice 96 (Zu)),.box 3 96 (Zu) (.u false),.val 5 (.slice 96 (Zu)) (.u true),pV 6 tI,pV 7 .bool,pV 8 tI] (λN=>u6 (Xd N)) (u6 Zav) (λK1=>(.seq .leaf (.seq (.block (.seq .leaf (.join [pV 0 (.slice 96 (Zu)),.box 3 96 (Zu) (.u false),.val 5 (.slice 96 (Zu)) (.u true),pV 6 tI,pV 7 .bool,pV 8 tI,.box 9 96 (Zu) (.u true)] (u7 (Yl K1)) .leaf .leaf))) .leaf)))))) .leaf))))) ⟨λ_=>rfl,λN=>⟨(λv=>by kernel_rfl),λv=>by kernel_rfl⟩⟩
theorem Qdw:okE ⟨254,[Zq,.bool],[.int .i64,Zq,.bool],u2 Zkz⟩:=
 ofE (Za Q3 (Za Vr (Za Qi2 (Za Qo0 (Za Z2z (Za Ky Zh)))))) Zd func254 call254 (.seq .leaf (.seq .leaf (.seq .leaf (.seq .leaf (.join [pV 1 .bool,.box 2 37 (Zq) (.u false),.box 5 37 (Zq) (.u true),.box 7 37 (Zq) (.u true),.box 8 32 (Zdr) (.u false)] (u5 Zb8) .leaf (.seq .leaf (.join [pV 1 .bool,.box 2 37 (Zq) (.u false),.box 5 37 (Zq) (.u true),.box 7 37 (Zq) (.p (.u false) (.p (.u false) (.p (.u false) (.p (.u true) (.p (.u false) (.p (.u false) (.p (.u false) (.p (.u false) (.u true))))))))),pV 9 tI,pV 11 .bool] (u6 Zb9) .leaf .leaf))))))) ⟨(λv=>by kernel_rfl),λv=>by kernel_rfl⟩
theorem Z83:okB ⟨261,[.bx 123 (Vw) (.u false),.sh (.slice 9 (.str))],.vals [.str],u2 Zu3⟩:=
 ofB [0] Zh (Zy Yp Zd) func261 call261 .leaf
theorem Z85:okB ⟨256,[.bx 123 (Vw) (.u false),.sh (.int .i64)],.vals [.str],u2 Zu5⟩:=
 ofB [0] Zh (Zy Yp (Zy Z83 Zd)) func256 call256 (.seq .leaf (.seq .leaf (.seq (.seq .leaf (.block (.loop [.box 0 123 (Vw) (.u false),pV 5 .str,pV 6 tI] (λN=>u3 (Zn3 N)) (u3 Zm0) (λK1=>.leaf)))) .leaf))) ⟨λ_=>rfl,λN v=>by kernel_rfl⟩
theorem Ya:okE ⟨159,[Zq,.int .i64],[Zu,.bool],u2 Xf⟩:=
 ofE (Za Zub (Za Zzb Zh)) Zd func159 call159 .leaf
theorem Qo1:okE ⟨391,[Wh],[.int .i64],u1 Z9j⟩:=
 ofE (Za Zv7 Zh) Zd func391 call391 .leaf
theorem Qgo:okE ⟨369,[Wh,.str],[Wh,.int .i64],u2 Zwn⟩:=
 ofE (Za Z1k (Za Qo1 Zh)) Zd func369 call369 (.seq .leaf (.seq .leaf (.seq .leaf (.seq (.seq .leaf (.block (.loop [pV 1 .str,.box 2 84 (Wh) (.u false),.box 4 84 (Wh) (.u true),.box 6 84 (Wh) (.u true),pV 7 tI,pV 8 tI] (λN=>u6 (Zdk N)) (u6 Zh9) (λK1=>.leaf)))) .leaf)))) ⟨λ_=>rfl,λN v=>by kernel_rfl⟩
theorem Qbf:okE ⟨326,[Z1,.str],[Z1,.int .i64],u2 Zsi⟩:=
 ofE (Za Zf8 (Za Zao (Za Qgo (Za Ziw Zh)))) Zd func326 call326 (.seq .leaf (.seq .leaf (.seq .leaf (.seq .leaf (.join [.box 4 87 (Z1) (.u true),.box 6 87 (Z1) (.p (.u false) (.u true)),.box 7 84 (Wh) (.u true),pV 8 tI] (u4 Zmx) .leaf .leaf))))) (λv=>by kernel_rfl)
theorem Qbg:okE ⟨255,[Zq,.int .i64,.str],[.int .i64,Zq],u3 Zi5⟩:=
 ofE (Za Q3 (Za Ya (Za Vr (Za Qbf (Za Ky Zh))))) Zd func255 call255 .leaf
theorem Qa0:okE ⟨327,[Z1],[Z1,.bool],u1 Zse⟩:=
 ofE (Za Zf8 (Za Zao Zh)) Zd func327 call327 .leaf
theorem Z80:okE ⟨257,[Zq,.int .i64],[Zq,.bool],u2 Zg2⟩:=
 ofE (Za Q3 (Za Ya (Za Vr (Za Qa0 (Za Ky Zh))))) Zd func257 call257 .leaf
theorem Qgm:okE ⟨370,[Xe,.int .i64],[.str,Xe],u2 Zwm⟩:=
 ofE (Za Zud (Za Z1j Zh)) Zd func370 call370 (.seq .leaf (.seq .leaf (.seq .leaf (.seq .leaf (.seq .leaf (.seq .leaf (.seq (.seq .leaf (.cond (.seq (.frz [(7,.u false)]) .leaf) .leaf)) .leaf)))))))
theorem Z81:okB ⟨328,[.sh (Qi),.sh (.int .i64)],.shr [.str,Qi],u2 Zql⟩:=
 ofB [] (Za Zwa (Za Zfb (Za Qgm Zh))) Zd func328 call328 (.seq .leaf (.seq .leaf (.seq (.seq .leaf (.cond (.seq .leaf (.frz [(5,.u false)])) .leaf)) (.seq (.seq .leaf (.cond (.seq .leaf (.seq .leaf (.frz [(5,.u false)]))) .leaf)) (.seq .leaf (.seq (.frz [(8,.u false)]) (.join [.box 5 92 (Qi) (.u true),.box 6 92 (Qi) (.u false),pV 7 .str] (u3 Zlr) .leaf .leaf))))))) (λv=>by kernel_rfl)
theorem Qgi:okE ⟨309,[Xr,.int .i64],[Xr,.bool],u2 Zju⟩:=
 ofE (Za Znk Zh) Zd func309 call309 .leaf
theorem Z6y:okB ⟨203,[.bx 37 (Zq) (.u false),.bx 96 (Zu) (.u false),.sh (.int .i64)],.vals [],u3 Zlt⟩:=
 ofB [0,1] (Za Qgi Zh) Zd func203 call203 .leaf
theorem Qdr:okE ⟨387,[Zu],[.bool],u1 Zty⟩:=
 ofE Zh Zd func387 call387 .leaf
theorem Qdp:okE ⟨406,[Qi],[.bool],u1 Zpc⟩:=
 ofE (Za Zfb Zh) Zd func406 call406 .leaf
theorem Qdq:okE ⟨388,[Zu],[.bool],u1 Zpd⟩:=
 ofE (Za Qdp Zh) Zd func388 call388 .leaf
theorem Qoz:okE ⟨359,[Zu],[.bool],u1 Zrk⟩:=
 ofE (Za Z4w (Za Qdr (Za Qdq Zh))) Zd func359 call359 .leaf
theorem Qiv:okE ⟨360,[Qq],[Qq,.bool],u1 Zfx⟩:=
 ofE (Za Zts Zh) Zd func360 call360 .leaf
theorem Qlo:okB ⟨308,[.bx 37 (Zq) (.u false),.bx 96 (Zu) (.u false)],.vals [],u2 Zot⟩:=
 ofB [0,1] (Za Zxy (Za Qoz (Za Ztt (Za Qiv Zh)))) Zd func308 call308 .leaf
theorem Zkr:okB ⟨201,[.bx 37 (Zq) (.u false),.sh (Zu)],.vals [],u2 Wk⟩:=
 ofB [0] (Za Ky Zh) (Zy Qlo Zd) func201 call201 .leaf
theorem Qdz:okB ⟨258,[.sh (Zq),.sh (.int .i64),.sh (.int .i64)],.shr [.str,.bool,Zq],u3 Zk0⟩:=
 ofB [] (Za Q3 (Za Ya (Za Vr Zh))) (Zy Z81 (Zy Z6y (Zy Zkr Zd))) func258 call258 (.seq .leaf (.seq .leaf (.seq .leaf (.seq (.seq .leaf (.cond (.seq .leaf (.frz [(8,.u false)])) .leaf)) (.seq (.frz [(10,.u false)]) (.seq .leaf (.join [.box 8 37 (Zq) (.u true),.box 9 37 (Zq) (.p (.u true) (.p (.p (.u true) (.p (.u true) (.p (.u true) (.p (.u true) (.p (.u true) (.p (.u true) (.p (.u true) (.p (.u true) (.u true))))))))) (.p (.p (.u true) (.p (.u true) (.p (.u true) (.p (.u true) (.p (.u true) (.p (.u true) (.p (.u true) (.p (.u true) (.u true))))))))) (.p (.u false) (.p (.p (.u true) (.p (.u true) (.p (.u true) (.p (.u true) (.u true))))) (.p (.p (.u true) (.p (.u true) (.p (.u true) (.p (.u true) (.p (.u true) (.p (.u true) (.u true))))))) (.p (.p (.u true) (.p (.u true) (.p (.u true) (.u true)))) (.p (.p (.u true) (.p (.u true) (.p (.u true) (.u true)))) (.p (.p (.u true) (.p (.u true) (.p (.u true) (.p (.u true) (.u true))))) (.p (.p (.u true) (.p (.u true) (.p (.u true) (.p (.u true) (.u true))))) (.p (.u true) (.p (.u true) (.p (.u true) (.p (.u true) (.p (.u true) (.p (.u false) (.p (.u true) (.p (.u true) (.u true))))))))))))))))))),.box 10 96 (Zu) (.u false),pV 12 .str,.box 13 92 (Qi) (.u false)] (u5 Zca) (.seq .leaf (.cond (.frz [(9,.u false)]) .leaf)) .leaf))))))) (λv=>by kernel_rfl)
theorem Zzt:okE ⟨205,[Z1,.int .i64],[Z1,.bool],u2 V6⟩:=
 ofE (Za Zao (Za Xm (Za Zf8 Zh))) Zd func205 call205 (.seq .leaf (.seq .leaf (.join [pV 1 tI,.box 2 87 (Z1) (.u false),.box 4 87 (Z1) (.u true),.box 6 84 (Wh) (.p (.u false) (.p (.u false) (.p (.u false) (.p (.u true) (.u false)))))] (u4 Zmw) .leaf .leaf))) (λv=>by kernel_rfl)
theorem Qbd:okB ⟨259,[.sh (Zq),.sh (.int .i64),.sh (.int .i64)],.shr [Zq,.bool],u3 Zi3⟩:=
 ofB [] (Za Q3 (Za Ya (Za Vr (Za Zzt Zh)))) (Zy Zkr Zd) func259 call259 (.seq .leaf (.seq .leaf (.seq .leaf (.seq (.seq .leaf (.cond (.seq .leaf (.frz [(6,.u false)])) .leaf)) (.seq .leaf (.seq (.seq .leaf (.cond (.seq .leaf (.frz [(6,.u false)])) .leaf)) (.seq .leaf (.seq .leaf (.seq (.frz [(8,.u false),(9,.u false)]) .leaf)))))))))
theorem Qo2:okE ⟨371,[.str,.int .u8],[.slice 9 (.str)],u2 Zu2⟩:=
 ofE Zh Zd func371 call371 (.seq .leaf (.seq .leaf (.seq .leaf (.seq (.seq .leaf (.block (.loop [pV 0 .str,pV 1 (.int .u8),.val 5 (.slice 9 (.str)) (.u true),pV 6 .str,pV 7 tI] (λN=>u5 (Zdl N)) (u5 Zmy) (λK1=>(.seq .leaf (.join [pV 0 .str,pV 1 (.int .u8),.val 5 (.slice 9 (.str)) (.u true),pV 6 .str,pV 7 tI] (u5 (Zjv K1)) .leaf .leaf)))))) .leaf)))) ⟨λ_=>rfl,λN=>⟨(λv=>by kernel_rfl),λv=>by kernel_rfl⟩⟩
theorem Qll:okE ⟨372,[.str],[.str],u1 Z0e⟩:=
 ofE Zh Zd func372 call372 (.seq .leaf (.seq (.block (.loop [pV 0 .str] (λN=>u1 (Zpg N)) (u1 Zrm) (λK1=>.leaf))) (.seq (.block (.loop [pV 0 .str] (λN=>u1 (Zph N)) (u1 Zrn) (λK2=>.leaf))) .leaf))) ⟨⟨λ_=>rfl,λN v=>by kernel_rfl⟩,λ_=>rfl,λN v=>by kernel_rfl⟩
theorem Z7f:okE ⟨329,[Kf,.str],[Kf],u2 Zos⟩:=
 ofE (Za Zuc (Za Zuw (Za Qo2 (Za Qll Zh)))) Zd func329 call329 (.seq .leaf (.join [pV 1 .str,.box 2 94 (Kf) (.u false),.box 4 94 (Kf) (.u false)] (u3 Zez) .leaf (.seq .leaf (.seq (.seq .leaf (.block (.loop [.box 2 94 (Kf) (.u false),.box 4 94 (Kf) (.u false),.val 5 (.slice 9 (.str)) (.u true),pV 6 tI] (λN=>u4 (Kl N)) (u4 Zjt) (λK1=>(.seq .leaf (.join [.box 2 94 (Kf) (.u false),.box 4 94 (Kf) (.u false),.val 5 (.slice 9 (.str)) (.u true),pV 6 tI] (u4 (Wg K1)) .leaf .leaf)))))) .leaf)))) ⟨(λv=>by kernel_rfl),λ_=>rfl,λN=>⟨(λv=>by kernel_rfl),λv=>by kernel_rfl⟩⟩
theorem Qbe:okE ⟨260,[Zq,.int .i64,.str],[Zq,.bool],u3 Zi4⟩:=
 ofE (Za Q3 (Za Ya (Za Vr (Za Z7f (Za Ky Zh))))) Zd func260 call260 .leaf
theorem Zv8:okE ⟨264,[Xr],[.bool],u1 Zad⟩:=
 ofE (Za Znk Zh) Zd func264 call264 .leaf
theorem Zzs:okE ⟨265,[Xr,.int .i64,.int .i64],[Xr,.bool],u3 V5⟩:=
 ofE (Za Zv8 (Za Y1 Zh)) Zd func265 call265 (.seq .leaf (.seq .leaf (.join [pV 1 tI,.box 3 30 (Xr) (.u false),.box 6 30 (Xr) (.u false)] (u3 Zhz) .leaf .leaf))) (λv=>by kernel_rfl)
theorem Z41:okE ⟨153,[Zq],[Xr,.bool],u1 Zio⟩:=
 ofE (Za Zv8 (Za Zzs Zh)) Zd func153 call153 .leaf
theorem Z2x:okE ⟨266,[Qq],[.bool],u1 Zbm⟩:=
 ofE (Za Zts Zh) Zd func266 call266 .leaf
theorem Qdx:okE ⟨267,[Qq],[Qq,.bool],u1 Zbt⟩:=
 ofE (Za Z2x Zh) Zd func267 call267 .leaf
theorem Z40:okE ⟨154,[Qq,.bool],[Qq,.bool],u2 Zbn⟩:=
 ofE (Za Z2x (Za Qdx Zh)) Zd func154 call154 .leaf
theorem Z22:okE ⟨268,[Zq,Zu],[Xr,.bool],u2 Zgn⟩:=
 ofE (Za Zv8 (Za Zzs Zh)) Zd func268 call268 .leaf
theorem Z4x:okE ⟨156,[Qq],[.bool],u1 Zik⟩:=
 ofE (Za Zch Zh) Zd func156 call156 .leaf
theorem Qgq:okE ⟨155,[Zq,Zu],[.slice 80 (Zt)],u2 Zgm⟩:=
 ofE (Za Z22 (Za Z4x Zh)) Zd func155 call155 (.seq .leaf (.seq .leaf (.join [.box 2 37 (Zq) (.u false),.box 3 96 (Zu) (.u false),.val 5 (.slice 80 (Zt)) (.u true)] (u3 Wl) .leaf (.join [.box 2 37 (Zq) (.u false),.box 3 96 (Zu) (.u false),.val 5 (.slice 80 (Zt)) (.u true)] (u3 Wm) .leaf (.seq .leaf (.join [.box 3 96 (Zu) (.u false),.val 5 (.slice 80 (Zt)) (.u true)] (u2 Zbc) .leaf .leaf)))))) ⟨(λv=>by kernel_rfl),(λv=>by kernel_rfl),λv=>by kernel_rfl⟩
theorem Z7c:okE ⟨90,[Zq],[.slice 80 (Zt)],u1 W5⟩:=
 ofE (Za Vr (Za Z41 (Za Z40 (Za Qgq (Za Z4x Zh))))) Zd func90 call90 (.seq .leaf (.seq .leaf (.seq .leaf (.seq .leaf (.join [.box 1 37 (Zq) (.u false),.val 3 (.slice 80 (Zt)) (.u true)] (u2 Kg) .leaf (.seq .leaf (.join [.box 1 37 (Zq) (.u false),.val 3 (.slice 80 (Zt)) (.u true)] (u2 Kh) .leaf (.seq .leaf (.join [.box 1 37 (Zq) (.u false),.val 3 (.slice 80 (Zt)) (.u true)] (u2 Ki) .leaf (.seq (.seq .leaf (.block (.loop [.box 1 37 (Zq) (.u false),.val 3 (.slice 80 (Zt)) (.u true),pV 10 tI] (λN=>u3 (Kj N)) (u3 W6) (λK1=>.leaf)))) (.join [.box 1 37 (Zq) (.u false),.val 3 (.slice 80 (Zt)) (.u true)] (u2 Jk) .leaf (.join [.box 1 37 (Zq) (.u false),.val 3 (.slice 80 (Zt)) (.u true)] (u2 Jl) .leaf .leaf)))))))))))) ⟨(λv=>by kernel_rfl),(λv=>by kernel_rfl),(λv=>by kernel_rfl),⟨λ_=>rfl,λN v=>by kernel_rfl⟩,(λv=>by kernel_rfl),λv=>by kernel_rfl⟩
theorem Z4z:okE ⟨334,[.int .i64],[.int .i64],u1 Zim⟩:=
 ofE Zh Zd func334 call334 .leaf
theorem Qa3:okE ⟨278,[.int .i64,.int .i64],[.str],u2 Znv⟩:=
 ofE (Za Y1 Zh) Zd func278 call278 (.seq .leaf (.seq .leaf (.seq .leaf (.seq (.seq .leaf (.block (.loop [pV 0 tI,pV 1 tI,pV 5 .str,pV 6 tI] (λN=>u4 (Yd N)) (u4 Zte) (λK1=>.leaf)))) .leaf)))) ⟨λ_=>rfl,λN v=>by kernel_rfl⟩
theorem Zv9:okE ⟨169,[.int .i64],[.str],u1 Zd9⟩:=
 ofE (Za Qa3 Zh) Zd func169 call169 .leaf
theorem Qdj:okE ⟨335,[.int .i64],[.str],u1 Zkt⟩:=
 ofE (Za Z4z (Za Zv9 Zh)) Zd func335 call335 (.seq .leaf (.seq .leaf (.seq .leaf (.seq (.seq .leaf (.block (.loop [pV 0 tI,pV 3 tI,pV 4 .str,pV 5 tI] (λN=>u4 (Xk N)) (u4 Zg1) (λK1=>(.seq .leaf (.seq (.block (.seq .leaf (.join [pV 0 tI,pV 3 tI,pV 4 .str,pV 5 tI,pV 6 tI] (u5 (Je K1)) .leaf .leaf))) .leaf)))))) .leaf)))) ⟨λ_=>rfl,λN=>⟨(λv=>by kernel_rfl),λv=>by kernel_rfl⟩⟩
theorem Qa4:okE ⟨269,[.slice 3 (.int .i64)],[.str],u1 Yc⟩:=
 ofE (Za Z4z (Za Qdj Zh)) Zd func269 call269 (.seq .leaf (.seq .leaf (.seq (.seq .leaf (.block (.loop [pV 0 (.slice 3 (.int .i64)),pV 3 .str,pV 4 tI] (λN=>u3 (Za5 N)) (u3 Zfy) (λK1=>.leaf)))) .leaf))) ⟨λ_=>rfl,λN v=>by kernel_rfl⟩
theorem Zzq:okE ⟨157,[Zt],[.str],u1 Zfe⟩:=
 ofE (Za Zd4 (Za Qa4 Zh)) Zd func157 call157 (.seq .leaf (.seq .leaf (.seq (.seq .leaf (.block (.seq .leaf (.cond .leaf (.seq .leaf (.cond .leaf (.seq .leaf (.cond (.seq .leaf (.join [.box 1 80 (Zt) (.u false),pV 3 tI] (u2 Zdw) .leaf .leaf)) (.join [.box 1 80 (Zt) (.u false),pV 9 tI,pV 62 .bool] (u3 Ko) .leaf (.cond .leaf (.join [.box 1 80 (Zt) (.u false),pV 71 .bool] (u2 V8) .leaf .leaf))))))))))) (.seq .leaf (.join [.box 1 80 (Zt) (.u false),pV 4 tI] (u2 Zdx) .leaf .leaf))))) ⟨⟨λv=>by kernel_rfl,(λv=>by kernel_rfl),λv=>by kernel_rfl⟩,λv=>by kernel_rfl⟩
theorem Zv6:okE ⟨91,[Zt],[.int .i64],u1 Zdf⟩:=
 ofE (Za Zzq Zh) Zd func91 call91 .leaf
theorem Zym:okE ⟨158,[Qq],[Qq],u1 Za7⟩:=
 ofE (Za Zch Zh) Zd func158 call158 .leaf
theorem Qlr:okB ⟨161,[.sh (Zq),.sh (Zu),.sh (.int .i64)],.shr [Zu],u3 Zlu⟩:=
 ofB [] (Za Z22 (Za Zym Zh)) Zd func161 call161 .leaf
theorem Qa9:okE ⟨92,[Zq,Zt],[Zq],u2 Zcs⟩:=
 ofE (Za Q3 (Za Vq (Za Z41 (Za Z40 (Za Zym (Za Ya (Za Ky Zh))))))) (Zy Qlr Zd) func92 call92 (.seq .leaf (.seq .leaf (.seq .leaf (.seq (.seq .leaf (.block (.seq .leaf (.cond .leaf (.seq .leaf (.cond .leaf (.seq .leaf (.cond .leaf (.seq .leaf (.cond .leaf (.seq .leaf (.seq .leaf (.cond (.frz [(12,.u false)]) .leaf))))))))))))) .leaf))))
theorem Qd1:okE ⟨162,[Zq],[.slice 157 (Ql)],u1 Zk1⟩:=
 ofE Zh Zd func162 call162 (.seq .leaf (.seq .leaf (.seq (.seq .leaf (.block (.loop [.box 1 37 (Zq) (.u false),.val 3 (.slice 157 (Ql)) (.u true),pV 4 tI] (λN=>u3 (Vj N)) (u3 Zg5) (λK1=>(.seq .leaf (.join [.box 1 37 (Zq) (.u false),.val 3 (.slice 157 (Ql)) (.u true),pV 4 tI] (u3 (Zfo K1)) .leaf .leaf)))))) .leaf))) ⟨λ_=>rfl,λN=>⟨(λv=>by kernel_rfl),λv=>by kernel_rfl⟩⟩
theorem Qd2:okE ⟨163,[.slice 157 (Ql),.int .i64],[.slice 157 (Ql)],u2 Zk2⟩:=
 ofE Zh Zd func163 call163 (.seq .leaf (.seq .leaf (.seq (.seq .leaf (.block (.loop [pV 0 (.slice 157 (Ql)),pV 1 tI,.val 5 (.slice 157 (Ql)) (.u true),pV 6 tI] (λN=>u4 (Vk N)) (u4 Zg6) (λK1=>(.seq .leaf (.join [pV 0 (.slice 157 (Ql)),pV 1 tI,.val 5 (.slice 157 (Ql)) (.u true),pV 6 tI] (u4 (Zfp K1)) .leaf .leaf)))))) .leaf))) ⟨λ_=>rfl,λN=>⟨(λv=>by kernel_rfl),λv=>by kernel_rfl⟩⟩
theorem Z7b:okE ⟨336,[.slice 157 (Ql)],[.bool],u1 Zfd⟩:=
 ofE (Za Xm (Za Zuc Zh)) Zd func336 call336 (.seq .leaf (.seq (.seq .leaf (.block (.loop [pV 0 (.slice 157 (Ql)),pV 3 tI] (λN=>u2 (Jj N)) (u2 Wy) (λK1=>.leaf)))) .leaf)) ⟨λ_=>rfl,λN v=>by kernel_rfl⟩
theorem Qdu:okE ⟨271,[.slice 157 (Ql)],[.slice 3 (.int .i64)],u1 Zkx⟩:=
 ofE (Za Z7b Zh) Zd func271 call271 (.seq .leaf (.seq .leaf (.seq .leaf (.seq (.seq .leaf (.block (.loop [pV 0 (.slice 157 (Ql)),.val 3 (.slice 3 (.int .i64)) (.u true),pV 4 tI,pV 5 tI] (λN=>u4 (Yv N)) (u4 Wq) (λK1=>(.seq .leaf (.join [pV 0 (.slice 157 (Ql)),.val 3 (.slice 3 (.int .i64)) (.u true),pV 4 tI,pV 5 tI] (u4 (Zfj K1)) (.block (.join [pV 0 (.slice 157 (Ql)),.val 3 (.slice 3 (.int .i64)) (.u true),pV 4 tI,pV 5 tI] (u4 (Zfk K1)) .leaf .leaf)) .leaf)))))) .leaf)))) ⟨λ_=>rfl,λN=>⟨(λv=>by kernel_rfl),λv=>by kernel_rfl,λv=>by kernel_rfl⟩⟩
theorem Qi7:okE ⟨272,[.slice 3 (.int .i64),.int .i64],[.int .i64],u2 Zpp⟩:=
 ofE Zh Zd func272 call272 (.seq .leaf (.seq (.seq .leaf (.block (.loop [pV 0 (.slice 3 (.int .i64)),pV 1 tI,pV 5 tI] (λN=>u3 (Zcx N)) (u3 Ze1) (λK1=>.leaf)))) .leaf)) ⟨λ_=>rfl,λN v=>by kernel_rfl⟩
theorem Qdv:okE ⟨164,[.slice 157 (Ql),.int .i64],[.int .i64],u2 Zky⟩:=
 ofE (Za Qdu (Za Qi7 Zh)) Zd func164 call164 (.seq .leaf (.seq .leaf (.seq .leaf (.seq (.seq .leaf (.block (.loop [pV 0 (.slice 157 (Ql)),pV 1 tI,.val 5 (.slice 3 (.int .i64)) (.u true),.val 6 (.slice 3 (.int .i64)) (.u true),pV 7 tI] (λN=>u5 (Yw N)) (u5 Zct) (λK1=>(.seq .leaf (.seq (.block (.seq .leaf (.block (.loop [pV 0 (.slice 157 (Ql)),pV 1 tI,.val 5 (.slice 3 (.int .i64)) (.u true),.val 6 (.slice 3 (.int .i64)) (.u true),pV 7 tI,pV 8 tI] (λN=>u6 (Jf K1 N)) (u6 Zcu) (λK2=>(.seq .leaf (.join [pV 0 (.slice 157 (Ql)),pV 1 tI,.val 5 (.slice 3 (.int .i64)) (.u true),.val 6 (.slice 3 (.int .i64)) (.u true),pV 7 tI,pV 8 tI] (u6 (Zfl K1 K2)) .leaf .leaf))))))) .leaf)))))) .leaf)))) ⟨λ_=>rfl,λN=>⟨(λv=>by kernel_rfl),λ_=>rfl,λN=>⟨(λv=>by kernel_rfl),λv=>by kernel_rfl⟩⟩⟩
theorem Qdi:okE ⟨273,[Qq],[.int .i64],u1 Zbr⟩:=
 ofE (Za Zch Zh) Zd func273 call273 .leaf
theorem Qi3:okE ⟨337,[Wh,.int .i64,.int .i64],[.str,.bool],u3 Zil⟩:=
 ofE (Za Zv7 (Za Zv9 Zh)) Zd func337 call337 (.seq .leaf (.seq .leaf (.seq .leaf (.seq (.seq .leaf (.block (.loop [pV 1 tI,pV 2 tI,.box 3 84 (Wh) (.u false),pV 8 .str,pV 9 tI] (λN=>u5 (Zfn N)) (u5 Ze0) (λK1=>.leaf)))) .leaf)))) ⟨λ_=>rfl,λN v=>by kernel_rfl⟩
theorem Qgh:okE ⟨274,[Z1,.int .i64,.int .i64],[J3,.bool],u3 Znz⟩:=
 ofE (Za Zao (Za Qi3 Zh)) Zd func274 call274 (.seq .leaf (.seq .leaf (.seq .leaf (.seq (.seq .leaf (.cond (.seq .leaf (.seq .leaf (.seq .leaf (.join [.box 3 87 (Z1) (.u false),.box 6 109 (J3) (.u false),.box 8 109 (J3) (.u false),.box 9 214 (Zw) (.u false),pV 10 tI] (u5 Zdh) .leaf .leaf)))) .leaf)) .leaf)))) (λv=>by kernel_rfl)
theorem Z1e:okE ⟨168,[.int .i64,J3],[Zt],u2 Zpf⟩:=
 ofE Zh Zd func168 call168 .leaf
theorem Qi4:okE ⟨165,[Zq,.int .i64,.int .i64],[J3,.bool],u3 Zpo⟩:=
 ofE (Za Ya (Za Vq (Za Qdi (Za Qgh (Za Z1e (Za Zv6 Zh)))))) Zd func165 call165 (.seq .leaf (.seq .leaf (.seq .leaf (.seq .leaf (.seq (.seq .leaf (.block (.loop [pV 1 tI,pV 2 tI,.box 6 109 (J3) (.u false),.box 8 96 (Zu) (.u true),pV 10 tI,pV 11 tI] (λN=>u6 (Zcw N)) (u6 Zj8) (λK1=>.leaf)))) .leaf))))) ⟨λ_=>rfl,λN v=>by kernel_rfl⟩
theorem Qbb:okE ⟨275,[Qq],[Qq],u1 Zcv⟩:=
 ofE (Za Zch Zh) Zd func275 call275 .leaf
theorem Qi9:okB ⟨166,[.bx 37 (Zq) (.u true),.sh (.int .i64)],.vals [],u2 Zin⟩:=
 ofB [0] (Za Ya (Za Qbb (Za Ky Zh))) Zd func166 call166 .leaf
theorem Zzd:okE ⟨338,[Z1,J3],[.bool],u2 Zsn⟩:=
 ofE Zh Zd func338 call338 .leaf
theorem Zze:okE ⟨339,[J3],[Zw],u1 Zox⟩:=
 ofE Zh Zd func339 call339 .leaf
theorem Zq8:okE ⟨340,[.slice 214 (Zw),.slice 214 (Zw)],[.slice 214 (Zw)],u2 Zde⟩:=
 ofE (Za Zix Zh) Zd func340 call340 (.seq .leaf (.seq .leaf (.seq (.seq .leaf (.block (.loop [pV 0 (.slice 214 (Zw)),pV 1 (.slice 214 (Zw)),.val 5 (.slice 214 (Zw)) (.u true),pV 6 tI] (λN=>u4 (Wz N)) (u4 Zeh) (λK1=>(.seq .leaf (.seq (.block (.seq .leaf (.block (.loop [pV 0 (.slice 214 (Zw)),pV 1 (.slice 214 (Zw)),.val 5 (.slice 214 (Zw)) (.u true),pV 6 tI,pV 7 tI] (λN=>u5 (Zcn K1 N)) (u5 Zei) (λK2=>(.seq .leaf (.join [pV 0 (.slice 214 (Zw)),pV 1 (.slice 214 (Zw)),.val 5 (.slice 214 (Zw)) (.u true),pV 6 tI,pV 7 tI] (u5 (Zlm K1 K2)) (.block (.join [pV 0 (.slice 214 (Zw)),pV 1 (.slice 214 (Zw)),.val 5 (.slice 214 (Zw)) (.u true),pV 6 tI,pV 7 tI,.box 8 214 (Zw) (.u false)] (u6 (Zrh K1 K2)) .leaf .leaf)) .leaf))))))) .leaf)))))) .leaf))) ⟨λ_=>rfl,λN=>⟨(λv=>by kernel_rfl),λ_=>rfl,λN=>⟨(λv=>by kernel_rfl),λv=>by kernel_rfl,λv=>by kernel_rfl⟩⟩⟩
theorem Zsy:okE ⟨341,[.slice 214 (Zw),Zw],[.slice 214 (Zw)],u2 Zi2⟩:=
 ofE (Za Zix (Za Z1i (Za Z1h Zh))) Zd func341 call341 (.seq .leaf (.seq .leaf (.seq .leaf (.seq (.seq .leaf (.block (.loop [pV 0 (.slice 214 (Zw)),.box 3 214 (Zw) (.u false),.val 5 (.slice 214 (Zw)) (.u true),pV 6 tI] (λN=>u4 (Wd N)) (u4 Zf1) (λK1=>(.seq .leaf (.join [pV 0 (.slice 214 (Zw)),.box 3 214 (Zw) (.u false),.val 5 (.slice 214 (Zw)) (.u true),pV 6 tI] (u4 (Zmv K1)) (.block (.join [pV 0 (.slice 214 (Zw)),.box 3 214 (Zw) (.u false),.val 5 (.slice 214 (Zw)) (.u true),pV 6 tI] (u4 (Zh0 K1)) .leaf .leaf)) .leaf)))))) .leaf)))) ⟨λ_=>rfl,λN=>⟨(λv=>by kernel_rfl),λv=>by kernel_rfl,λv=>by kernel_rfl⟩⟩
theorem Qgk:okE ⟨276,[Z1,J3],[Z1,.bool],u2 Zn0⟩:=
 ofE (Za Zf8 (Za Zao (Za Zzd (Za Zze (Za Zq8 (Za Zsy (Za Ziw (Za Ztu Zh)))))))) Zd func276 call276 (.seq .leaf (.seq .leaf (.seq .leaf (.join [.box 3 109 (J3) (.u false),.box 4 87 (Z1) (.u true),.box 6 87 (Z1) (.p (.u false) (.p (.u true) (.p (.u true) (.p (.u true) (.p (.u true) (.u false))))))] (u3 Zdi) .leaf (.join [.box 4 87 (Z1) (.u true),.box 6 87 (Z1) (.p (.u false) (.p (.u true) (.p (.u true) (.p (.u true) (.p (.u true) (.u false))))))] (u2 Zg4) .leaf .leaf))))) ⟨(λv=>by kernel_rfl),λv=>by kernel_rfl⟩
theorem Qgn:okE ⟨277,[Qq,.int .i64],[Qq,.bool],u2 Zdj⟩:=
 ofE (Za Zch Zh) Zd func277 call277 .leaf
theorem Qgf:okE ⟨167,[Zq,.int .i64,J3],[Zq,.bool],u3 Zge⟩:=
 ofE (Za Q3 (Za Ya (Za Vq (Za Qgk (Za Qgn (Za Ky Zh)))))) Zd func167 call167 .leaf
theorem Qls:okB ⟨93,[.bx 37 (Zq) (.u true),.mv (.slice 80 (Zt)),.sh (.int .i64)],.vals [.slice 80 (Zt)],u3 Zou⟩:=
 ofB [0] (Za Qd1 (Za Qd2 (Za Qdv (Za Qi4 (Za Qgf (Za Z1e (Za Zv6 Zh))))))) (Zy Qi9 Zd) func93 call93 (.seq .leaf (.seq .leaf (.seq (.seq .leaf (.block (.loop [.box 0 37 (Zq) (.u true),.val 1 (.slice 80 (Zt)) (.u true),pV 2 tI,.val 7 (.slice 3 (.int .i64)) (.u true),pV 8 tI] (λN=>u5 (Y9 N)) (u5 Zlv) (λK1=>(.seq .leaf (.join [.box 0 37 (Zq) (.u true),.val 1 (.slice 80 (Zt)) (.u true),pV 2 tI,.val 7 (.slice 3 (.int .i64)) (.u true),pV 8 tI] (u5 (Zbu K1)) (.block (.seq .leaf (.seq (.seq .leaf (.block (.loop [.box 0 37 (Zq) (.u true),.val 1 (.slice 80 (Zt)) (.u true),pV 2 tI,.val 7 (.slice 3 (.int .i64)) (.u true),pV 8 tI,.val 9 (.slice 157 (Ql)) (.u true),pV 10 tI] (λN=>u7 (Zbv K1 N)) (u7 Zlw) (λK2=>.leaf)))) (.seq .leaf (.seq .leaf (.seq .leaf (.seq .leaf (.join [.box 0 37 (Zq) (.u true),.val 1 (.slice 80 (Zt)) (.u true),pV 2 tI,.val 7 (.slice 3 (.int .i64)) (.u true),pV 8 tI,pV 11 tI,.box 12 109 (J3) (.u false),.box 14 37 (Zq) (.u true),pV 15 .bool] (u9 (Zhi K1)) .leaf .leaf)))))))) .leaf)))))) .leaf))) ⟨λ_=>rfl,λN=>⟨(λv=>by kernel_rfl),⟨⟨λ_=>rfl,λN v=>by kernel_rfl⟩,λv=>by kernel_rfl⟩,λv=>by kernel_rfl⟩⟩
theorem Zwz:okE ⟨94,[.slice 80 (Zt)],[.str],u1 Zjo⟩:=
 ofE (Za Zzq Zh) Zd func94 call94 (.seq .leaf (.seq .leaf (.seq (.seq .leaf (.block (.loop [pV 0 (.slice 80 (Zt)),pV 3 .str,pV 4 tI] (λN=>u3 (Zev N)) (u3 Zjp) (λK1=>.leaf)))) .leaf))) ⟨λ_=>rfl,λN v=>by kernel_rfl⟩
theorem Z1b:okB ⟨47,[.sh (Zq),.sh (.int .i64)],.shr [.str,.int .i64,Zq],u2 Vu⟩:=
 ofB [] (Za Q3 (Za Vr (Za Y1 (Za Z7c (Za Zv6 (Za Qa9 (Za Zwz Zh))))))) (Zy Qls Zd) func47 call47 (.seq .leaf (.seq .leaf (.seq (.seq .leaf (.cond (.seq .leaf (.frz [(6,.u false)])) .leaf)) (.seq .leaf (.seq .leaf (.seq .leaf (.seq (.seq .leaf (.block (.loop [.box 2 37 (Zq) (.u false),.box 6 37 (Zq) (.u true),.box 7 37 (Zq) (.u true),.val 8 (.slice 80 (Zt)) (.u true),pV 9 tI,.val 10 (.slice 80 (Zt)) (.u true),pV 11 tI] (λN=>u7 (Xj N)) (u7 Zco) (λK1=>(.seq .leaf (.join [.box 2 37 (Zq) (.u false),.box 6 37 (Zq) (.u true),.box 7 37 (Zq) (.u true),.val 8 (.slice 80 (Zt)) (.u true),pV 9 tI,.val 10 (.slice 80 (Zt)) (.u true),pV 11 tI] (u7 (W8 K1)) .leaf .leaf)))))) (.seq .leaf (.seq (.seq .leaf (.cond (.seq .leaf (.frz [(6,.u false)])) .leaf)) (.seq (.frz [(8,.u false)]) (.seq .leaf (.seq .leaf (.frz [(6,.u false)]))))))))))))) ⟨λ_=>rfl,λN=>⟨(λv=>by kernel_rfl),λv=>by kernel_rfl⟩⟩
theorem Z21:okB ⟨88,[.bx 123 (Vw) (.u false),.sh (.slice 3 (.int .i64))],.vals [.int .i64],u2 Zdp⟩:=
 ofB [0] Zh (Zy Yp Zd) func88 call88 .leaf
theorem Z60:okB ⟨170,[.bx 123 (Vw) (.u false)],.vals [Zt],u1 Zwp⟩:=
 ofB [0] (Za Z87 Zh) (Zy Z21 (Zy Yp (Zy Z85 (Zy Zq9 Zd)))) func170 call170 .leaf
theorem Qli:okE ⟨302,[.int .i64],[.int .i64],u1 Zoq⟩:=
 ofE (Za Xm Zh) Zd func302 call302 .leaf
theorem Qi6:okE ⟨301,[Qq,.int .i64],[Qq,.int .i64,.bool],u2 Zmd⟩:=
 ofE (Za Zts Zh) Zd func301 call301 .leaf
theorem Qln:okB ⟨303,[.bx 37 (Zq) (.u true),.sh (.int .i64),.sh (.int .i64)],.vals [],u3 Zls⟩:=
 ofB [0] (Za Z2z (Za Ky Zh)) Zd func303 call303 (.seq .leaf (.block (.loop [.box 0 37 (Zq) (.u true),pV 1 tI,pV 6 tI] (λN=>u3 (Y8 N)) (u3 Zgk) (λK1=>(.seq .leaf (.seq (.block (.join [.box 0 37 (Zq) (.u true),pV 1 tI,pV 6 tI,.box 7 96 (Zu) (.u true)] (u4 (Zhg K1)) .leaf .leaf)) .leaf)))))) ⟨λ_=>rfl,λN=>⟨(λv=>by kernel_rfl),λv=>by kernel_rfl⟩⟩
theorem Zlf:okE ⟨198,[Zq,.int .i64],[Zq,.int .i64],u2 K5⟩:=
 ofE (Za Q3 (Za Vq (Za Xm (Za Zub (Za Zxy (Za Ztt (Za Qli (Za Qi6 Zh)))))))) (Zy Qln Zd) func198 call198 (.seq .leaf (.seq .leaf (.seq .leaf (.seq .leaf (.seq .leaf (.seq .leaf (.join [pV 1 tI,.box 2 37 (Zq) (.u false),.box 4 37 (Zq) (.u true),.box 6 37 (Zq) (.u true),.box 7 34 (Qq) (.u false)] (u5 X7) .leaf (.join [pV 1 tI,.box 2 37 (Zq) (.u false),.box 4 37 (Zq) (.u true),.box 6 37 (Zq) (.u true),.box 8 34 (Qq) (.u false),pV 9 tI,pV 10 .bool] (u7 J7) .leaf (.seq .leaf (.join [pV 1 tI,.box 4 37 (Zq) (.u true),.box 6 37 (Zq) (.p (.u false) (.p (.u false) (.p (.u false) (.p (.u true) (.p (.u false) (.p (.u false) (.p (.u false) (.p (.u false) (.p (.u false) (.p (.u false) (.u true))))))))))),pV 9 tI] (u4 K6) .leaf .leaf)))))))))) ⟨(λv=>by kernel_rfl),(λv=>by kernel_rfl),λv=>by kernel_rfl⟩
theorem Z61:okE ⟨304,[Qi,.int .i64,.bool],[.int .i64],u3 Zow⟩:=
 ofE Zh Zd func304 call304 .leaf
theorem Z8t:okE ⟨357,[Xe],[.slice 214 (Zw)],u1 Zqg⟩:=
 ofE (Za Znj Zh) Zd func357 call357 (.seq .leaf (.seq .leaf (.seq (.seq .leaf (.block (.loop [.box 1 90 (Xe) (.u false),.val 3 (.slice 214 (Zw)) (.u true),pV 4 tI] (λN=>u3 (J5 N)) (u3 Zeg) (λK1=>.leaf)))) .leaf))) ⟨λ_=>rfl,λN v=>by kernel_rfl⟩
theorem Qoy:okE ⟨358,[Xe,.int .i64],[.int .i64],u2 Zu1⟩:=
 ofE Zh Zd func358 call358 (.seq .leaf (.seq (.seq .leaf (.block (.loop [pV 1 tI,.box 2 90 (Xe) (.u false),pV 5 tI] (λN=>u3 (Zga N)) (u3 Zmt) (λK1=>.leaf)))) .leaf)) ⟨λ_=>rfl,λN v=>by kernel_rfl⟩
theorem Qdo:okE ⟨305,[Xe,.int .i64,.str],[Xe],u3 Zkv⟩:=
 ofE (Za Znj (Za Z1j (Za Z8t (Za Ziw (Za Qoy (Za Zv9 Zh)))))) Zd func305 call305 (.seq .leaf (.seq .leaf (.seq .leaf (.seq .leaf (.seq .leaf (.seq .leaf (.seq .leaf (.seq (.seq .leaf (.block (.loop [pV 1 tI,pV 2 .str,.box 3 90 (Xe) (.u false),.box 6 90 (Xe) (.u true),.box 9 90 (Xe) (.p (.u false) (.u true)),.val 10 (.slice 214 (Zw)) (.u true),pV 11 tI] (λN=>u7 (Vh N)) (u7 Wo) (λK1=>(.seq .leaf (.seq (.block (.seq .leaf (.seq (.seq .leaf (.block (.loop [pV 1 tI,pV 2 .str,.box 3 90 (Xe) (.u false),.box 6 90 (Xe) (.u true),.box 9 90 (Xe) (.p (.u false) (.u true)),.val 10 (.slice 214 (Zw)) (.u true),pV 11 tI,pV 12 .str,pV 13 tI] (λN=>u9 (Yu K1 N)) (u9 Wp) (λK2=>(.seq .leaf (.seq (.block (.seq .leaf (.join [pV 1 tI,pV 2 .str,.box 3 90 (Xe) (.u false),.box 6 90 (Xe) (.u true),.box 9 90 (Xe) (.p (.u false) (.u true)),.val 10 (.slice 214 (Zw)) (.u true),pV 11 tI,pV 12 .str,pV 13 tI,pV 14 tI] (u10 (Zb6 K1 K2)) .leaf .leaf))) .leaf)))))) .leaf))) .leaf)))))) .leaf)))))))) ⟨λ_=>rfl,λN=>⟨(λv=>by kernel_rfl),λ_=>rfl,λN=>⟨(λv=>by kernel_rfl),λv=>by kernel_rfl⟩⟩⟩
theorem Qbc:okE ⟨199,[Qi,.int .i64,.str,.bool],[Qi,.int .i64],u4 Ym⟩:=
 ofE (Za Zwa (Za Zfb (Za Z61 (Za Qdo (Za Zud Zh))))) Zd func199 call199 (.seq .leaf (.seq .leaf (.seq .leaf (.seq .leaf (.seq .leaf (.seq .leaf (.seq .leaf (.join [pV 1 tI,pV 2 .str,.box 4 92 (Qi) (.u false),.box 8 92 (Qi) (.u true),.box 10 92 (Qi) (.p (.u false) (.p (.u true) (.u false)))] (u5 Yy) .leaf (.seq .leaf (.join [.box 8 92 (Qi) (.u true),.box 10 92 (Qi) (.p (.u false) (.p (.u true) (.u false)))] (u2 Zdz) .leaf .leaf)))))))))) ⟨(λv=>by kernel_rfl),λv=>by kernel_rfl⟩
theorem Qi0:okE ⟨306,[Qi,.int .i64],[.int .i64],u2 Zpn⟩:=
 ofE (Za Zfb (Za Xm Zh)) Zd func306 call306 .leaf
theorem Qi5:okE ⟨307,[Xr,.int .i64],[Xr,.bool],u2 Zmc⟩:=
 ofE (Za Znk Zh) Zd func307 call307 .leaf
theorem Z6x:okB ⟨200,[.bx 37 (Zq) (.u false),.bx 96 (Zu) (.u false),.sh (.int .i64)],.vals [.int .i64],u3 Zib⟩:=
 ofB [0,1] (Za Qi0 (Za Qi5 Zh)) Zd func200 call200 .leaf
theorem Qdm:okB ⟨107,[.sh (Zq),.sh (Zt)],.shr [Zq,.int .i64],u2 Zd6⟩:=
 ofB [] (Za Vq (Za Zd4 (Za Q3 (Za Zle (Za Zlf (Za Ya (Za Qbc Zh))))))) (Zy Z6x (Zy Zkr Zd)) func107 call107 (.seq .leaf (.seq (.seq .leaf (.cond (.seq .leaf (.frz [(4,.u false)])) .leaf)) (.seq (.seq .leaf (.cond (.seq .leaf (.frz [(4,.u false)])) .leaf)) (.seq .leaf (.seq (.seq .leaf (.cond (.seq .leaf (.frz [(4,.u false)])) .leaf)) (.seq .leaf (.seq .leaf (.seq (.frz [(6,.u false),(8,.u false)]) (.seq (.seq .leaf (.cond (.seq .leaf (.frz [(4,.u false)])) .leaf)) (.seq (.seq .leaf (.cond (.seq .leaf (.frz [(4,.u false)])) .leaf)) (.seq .leaf (.seq (.frz [(8,.u false)]) .leaf))))))))))))
theorem Z82:okE ⟨202,[Qi,.int .i64,.int .i64],[Qi,.int .i64],u3 K8⟩:=
 ofE (Za Zwa (Za Zfb (Za Xm (Za Z61 Zh)))) Zd func202 call202 .leaf
theorem Qa8:okB ⟨108,[.sh (Zq),.sh (Zt)],.shr [Zq,.int .i64],u2 Zcq⟩:=
 ofB [] (Za Vq (Za Zd4 (Za Q3 (Za Zle (Za Zlf (Za Ya (Za Z82 Zh))))))) (Zy Z6x (Zy Z6y (Zy Zkr Zd))) func108 call108 (.seq .leaf (.seq (.seq .leaf (.cond (.seq .leaf (.frz [(4,.u false)])) .leaf)) (.seq (.seq .leaf (.cond (.seq .leaf (.frz [(4,.u false)])) .leaf)) (.seq .leaf (.seq (.seq .leaf (.cond (.seq .leaf (.frz [(4,.u false)])) .leaf)) (.seq .leaf (.seq .leaf (.seq (.frz [(6,.u false),(8,.u false)]) (.seq (.seq .leaf (.cond (.seq .leaf (.frz [(4,.u false)])) .leaf)) (.seq (.seq .leaf (.cond (.seq .leaf (.frz [(4,.u false)])) .leaf)) (.join [.box 4 37 (Zq) (.u true),.box 6 37 (Zq) (.u false),.box 8 96 (Zu) (.u false),.box 10 92 (Qi) (.u true)] (u4 Wc) .leaf (.seq .leaf (.seq (.frz [(8,.u false)]) .leaf))))))))))))) (λv=>by kernel_rfl)
theorem Qdn:okB ⟨109,[.sh (Zq),.sh (Zt)],.shr [Zq,.int .i64],u2 Zd7⟩:=
 ofB [] (Za Vq (Za Zd4 (Za Q3 (Za Zv5 (Za Zlf (Za Ya (Za Zzt Zh))))))) (Zy Zkr Zd) func109 call109 (.seq .leaf (.seq (.seq .leaf (.cond (.seq .leaf (.frz [(4,.u false)])) .leaf)) (.seq (.seq .leaf (.cond (.seq .leaf (.frz [(4,.u false)])) .leaf)) (.seq .leaf (.seq (.seq .leaf (.cond (.seq .leaf (.frz [(4,.u false)])) .leaf)) (.seq .leaf (.seq .leaf (.join [.box 4 37 (Zq) (.u true),.box 6 37 (Zq) (.u true),.box 8 96 (Zu) (.p (.u false) (.p (.u true) (.p (.u false) (.p (.u true) (.u false)))))] (u3 Zaa) .leaf (.seq (.frz [(6,.u false),(8,.u false)]) .leaf))))))))) (λv=>by kernel_rfl)
theorem Z1f:okE ⟨206,[Qq,.int .i64],[Qq],u2 Zhe⟩:=
 ofE (Za Zch (Za Xm Zh)) Zd func206 call206 .leaf
theorem Qdy:okE ⟨207,[Zdr,.int .i64],[Zdr],u2 Zhd⟩:=
 ofE (Za Zza Zh) Zd func207 call207 .leaf
theorem Qi8:okE ⟨208,[Zq,Zt],[Zq,.int .i64],u2 Zme⟩:=
 ofE (Za Zv5 (Za Zle (Za Q3 (Za Zlf (Za Ya (Za Z1f (Za Ky Zh))))))) Zd func208 call208 (.seq .leaf (.seq .leaf (.join [.box 2 37 (Zq) (.u false),.box 3 80 (Zt) (.u false),.box 4 37 (Zq) (.u true),pV 6 .bool] (u4 Zcy) .leaf (.seq .leaf (.seq .leaf (.seq .leaf (.join [.box 4 37 (Zq) (.u true),.box 7 37 (Zq) (.p (.u false) (.p (.u false) (.p (.u false) (.u true))))] (u2 Zi6) .leaf .leaf))))))) ⟨(λv=>by kernel_rfl),λv=>by kernel_rfl⟩
theorem Qa7:okE ⟨110,[Zq,Zt],[Zq,.int .i64],u2 Zcp⟩:=
 ofE (Za Q3 (Za Vq (Za Zd4 (Za Z1f (Za Qdy (Za Qi8 Zh)))))) Zd func110 call110 (.seq .leaf (.seq .leaf (.seq .leaf (.seq (.seq .leaf (.block (.seq .leaf (.cond .leaf (.seq .leaf (.cond (.join [.box 4 37 (Zq) (.u true),.box 6 37 (Zq) (.p (.u false) (.p (.u false) (.p (.u false) (.p (.u true) (.p (.u false) (.p (.u false) (.p (.u false) (.p (.u false) (.u true)))))))))] (u2 Zdy) .leaf .leaf) (.join [.box 2 37 (Zq) (.u false),.box 3 80 (Zt) (.u false),.box 4 37 (Zq) (.u true),.box 6 37 (Zq) (.u true),pV 21 tI,pV 48 .bool] (u6 Wa) .leaf (.cond .leaf (.join [.box 2 37 (Zq) (.u false),.box 3 80 (Zt) (.u false),.box 4 37 (Zq) (.u true),.box 6 37 (Zq) (.u true),pV 52 .bool] (u5 Wb) .leaf .leaf))))))))) .leaf)))) ⟨λv=>by kernel_rfl,(λv=>by kernel_rfl),λv=>by kernel_rfl⟩
theorem Zzr:okB ⟨57,[.sh (Zq),.sh (Zt)],.shr [Zq,.int .i64],u2 Zar⟩:=
 ofB [] (Za Q3 (Za Qa7 Zh)) (Zy Qdm (Zy Qa8 (Zy Qdn Zd))) func57 call57 (.seq .leaf (.seq .leaf (.seq .leaf (.join [.box 4 37 (Zq) (.u true),.box 6 37 (Zq) (.p (.u true) (.p (.p (.u true) (.p (.u true) (.p (.u true) (.p (.u true) (.p (.u true) (.p (.u true) (.p (.u true) (.p (.u true) (.u true))))))))) (.p (.p (.u true) (.p (.u true) (.p (.u true) (.p (.u true) (.p (.u true) (.p (.u true) (.p (.u true) (.p (.u true) (.u true))))))))) (.p (.u false) (.p (.p (.u true) (.p (.u true) (.p (.u true) (.p (.u true) (.u true))))) (.p (.p (.u true) (.p (.u true) (.p (.u true) (.p (.u true) (.p (.u true) (.p (.u true) (.u true))))))) (.p (.p (.u true) (.p (.u true) (.p (.u true) (.u true)))) (.p (.p (.u true) (.p (.u true) (.p (.u true) (.u true)))) (.p (.p (.u true) (.p (.u true) (.p (.u true) (.p (.u true) (.u true))))) (.p (.p (.u true) (.p (.u true) (.p (.u true) (.p (.u true) (.u true))))) (.p (.u true) (.p (.u true) (.p (.u true) (.p (.u true) (.p (.u true) (.p (.u false) (.p (.u true) (.p (.u true) (.u true))))))))))))))))))),pV 7 tI] (u3 V9) .leaf .leaf)))) (λv=>by kernel_rfl)
theorem Z4y:okE ⟨330,[Zq,.int .i64],[Yo,.bool],u2 Zmb⟩:=
 ofE Zh Zd func330 call330 (.seq .leaf (.seq (.seq .leaf (.block (.loop [pV 1 tI,.box 2 37 (Zq) (.u false),.box 4 63 (Yo) (.u true),pV 6 tI] (λN=>u4 (Zfm N)) (u4 Zj7) (λK1=>.leaf)))) .leaf)) ⟨λ_=>rfl,λN v=>by kernel_rfl⟩
theorem Z6z:okB ⟨331,[.bx 37 (Zq) (.u false),.sh (.int .i64)],.vals [],u2 Zov⟩:=
 ofB [0] Zh Zd func331 call331 (.seq .leaf (.seq (.seq .leaf (.block (.loop [.box 0 37 (Zq) (.u false),pV 1 tI,.val 4 (.slice 63 (Yo)) (.p (.u true) (.u false)),pV 5 tI] (λN=>u4 (Zak N)) (u4 Zrt) (λK1=>(.seq .leaf (.join [.box 0 37 (Zq) (.u false),pV 1 tI,.val 4 (.slice 63 (Yo)) (.p (.u true) (.u false)),pV 5 tI] (u4 (Zhm K1)) .leaf .leaf)))))) .leaf)) ⟨λ_=>rfl,λN=>⟨(λv=>by kernel_rfl),λv=>by kernel_rfl⟩⟩
theorem Z42:okE ⟨374,[Zt],[J3],u1 Z3y⟩:=
 ofE Zh Zd func374 call374 .leaf
theorem Qge:okE ⟨373,[Z1,J3],[Z1],u2 Zwk⟩:=
 ofE (Za Zf8 (Za Zao (Za Zzd (Za Zze (Za Zq8 (Za Zsy (Za Ziw (Za Ztu Zh)))))))) Zd func373 call373 (.seq .leaf (.seq .leaf (.seq .leaf (.join [.box 2 87 (Z1) (.u false),.box 3 109 (J3) (.u false),.box 4 87 (Z1) (.u true),.box 5 87 (Z1) (.u true)] (u4 Zlo) (.seq .leaf (.cond (.seq .leaf (.seq .leaf (.block (.loop [.box 2 87 (Z1) (.u false),.box 3 109 (J3) (.u false),.box 4 87 (Z1) (.u true),.box 5 87 (Z1) (.u true),.val 6 (.slice 214 (Zw)) (.u true),pV 7 tI] (λN=>u6 (Zlq N)) (u6 Zor) (λK1=>.leaf))))) .leaf)) (.join [.box 4 87 (Z1) (.u true),.box 5 87 (Z1) (.p (.u false) (.p (.u true) (.p (.u true) (.p (.u true) (.p (.u true) (.u false))))))] (u2 Zlp) .leaf .leaf))))) ⟨⟨λ_=>rfl,λN v=>by kernel_rfl⟩,(λv=>by kernel_rfl),λv=>by kernel_rfl⟩
theorem Qlu:okB ⟨332,[.bx 37 (Zq) (.u false),.sh (Zt)],.vals [],u2 Zsm⟩:=
 ofB [0] (Za Ya (Za Zpw (Za Z42 (Za Qge (Za Ky Zh))))) Zd func332 call332 (.seq .leaf (.seq .leaf (.join [.box 0 37 (Zq) (.u false),.box 3 80 (Zt) (.u false),.box 4 96 (Zu) (.u true),pV 5 .bool] (u4 Zk3) .leaf (.seq .leaf (.join [.box 0 37 (Zq) (.u false),.box 4 96 (Zu) (.p (.u false) (.p (.u true) (.p (.u false) (.p (.u true) (.u false)))))] (u2 Zal) .leaf .leaf))))) ⟨(λv=>by kernel_rfl),λv=>by kernel_rfl⟩
theorem Qdt:okB ⟨262,[.sh (Zq),.sh (.int .i64)],.shr [Zq,.bool],u2 Zkw⟩:=
 ofB [] (Za Q3 (Za Z4y (Za Vr Zh))) (Zy Z6z (Zy Qlu Zd)) func262 call262 (.seq .leaf (.seq .leaf (.seq .leaf (.seq (.seq .leaf (.cond (.seq .leaf (.frz [(4,.u false)])) .leaf)) (.seq (.frz [(6,.u false)]) (.seq (.seq .leaf (.block (.loop [.box 4 37 (Zq) (.u true),.box 6 37 (Zq) (.u false),.box 7 63 (Yo) (.u true),pV 9 tI] (λN=>u4 (Zb7 N)) (u4 Zny) (λK1=>.leaf)))) .leaf)))))) ⟨λ_=>rfl,λN v=>by kernel_rfl⟩
theorem Qiw:okE ⟨392,[Wh,.int .i64],[Wh,.bool],u2 Ztd⟩:=
 ofE (Za Z1k (Za Zv7 Zh)) Zd func392 call392 (.seq .leaf (.seq .leaf (.seq .leaf (.seq (.seq .leaf (.block (.loop [pV 1 tI,.box 2 84 (Wh) (.u false),.box 4 84 (Wh) (.u true),.box 6 84 (Wh) (.u true),pV 7 tI] (λN=>u5 (Znu N)) (u5 Zj4) (λK1=>.leaf)))) .leaf)))) ⟨λ_=>rfl,λN v=>by kernel_rfl⟩
theorem Qit:okE ⟨375,[Z1,J3],[Z1],u2 Zx2⟩:=
 ofE (Za Zf8 (Za Zao (Za Zzd (Za Zze (Za Zq8 (Za Zsy (Za Ziw (Za Z4v (Za Qiw (Za Ztu Zh)))))))))) Zd func375 call375 (.seq .leaf (.seq .leaf (.seq .leaf (.join [.box 2 87 (Z1) (.u false),.box 3 109 (J3) (.u false),.box 4 87 (Z1) (.u true),.box 5 87 (Z1) (.u true)] (u4 Znp) (.seq .leaf (.cond (.seq .leaf (.seq .leaf (.block (.loop [.box 2 87 (Z1) (.u false),.box 3 109 (J3) (.u false),.box 4 87 (Z1) (.u true),.box 5 87 (Z1) (.u true),.val 6 (.slice 214 (Zw)) (.u true),pV 7 tI] (λN=>u6 (Znr N)) (u6 Zpy) (λK1=>.leaf))))) .leaf)) (.join [.box 2 87 (Z1) (.u false),.box 4 87 (Z1) (.u true),.box 5 87 (Z1) (.p (.u false) (.p (.u true) (.p (.u true) (.p (.u true) (.p (.u true) (.u false))))))] (u3 Znq) .leaf (.join [.box 4 87 (Z1) (.u true),.box 5 87 (Z1) (.p (.u false) (.p (.u true) (.p (.u true) (.p (.u true) (.p (.u true) (.u false)))))),.box 8 84 (Wh) (.u true)] (u3 Zsd) .leaf .leaf)))))) ⟨⟨λ_=>rfl,λN v=>by kernel_rfl⟩,(λv=>by kernel_rfl),(λv=>by kernel_rfl),λv=>by kernel_rfl⟩
theorem Qiu:okE ⟨376,[Z1],[Z1,.bool],u1 Zx3⟩:=
 ofE (Za Zf8 (Za Zao Zh)) Zd func376 call376 .leaf
theorem Qo4:okB ⟨333,[.bx 37 (Zq) (.u false),.sh (Zt)],.vals [],u2 Zu4⟩:=
 ofB [0] (Za Ya (Za Zpw (Za Z42 (Za Qit (Za Qiu Zh))))) (Zy Zkr Zd) func333 call333 (.seq .leaf (.join [.box 0 37 (Zq) (.u false),.box 3 80 (Zt) (.u false),.box 4 96 (Zu) (.u true),pV 5 .bool] (u4 Zn2) .leaf (.seq .leaf (.join [.box 0 37 (Zq) (.u false),.box 4 96 (Zu) (.p (.u false) (.p (.u true) (.p (.u false) (.p (.u true) (.u false)))))] (u2 Zbo) .leaf (.frz [(4,.u false)]))))) ⟨(λv=>by kernel_rfl),λv=>by kernel_rfl⟩
theorem Qgc:okB ⟨263,[.sh (Zq),.sh (.int .i64)],.shr [Zq,.bool],u2 Zno⟩:=
 ofB [] (Za Q3 (Za Z4y (Za Vr Zh))) (Zy Z6z (Zy Qo4 Zd)) func263 call263 (.seq .leaf (.seq .leaf (.seq .leaf (.seq (.seq .leaf (.cond (.seq .leaf (.frz [(4,.u false)])) .leaf)) (.seq (.frz [(6,.u false)]) (.seq (.seq .leaf (.block (.loop [.box 4 37 (Zq) (.u true),.box 6 37 (Zq) (.u false),.box 7 63 (Yo) (.u true),pV 9 tI] (λN=>u4 (Zdd N)) (u4 Zop) (λK1=>.leaf)))) .leaf)))))) ⟨λ_=>rfl,λN v=>by kernel_rfl⟩
theorem Qlt:okB ⟨152,[.bx 123 (Vw) (.u false),.sh (Zq)],.shr [Zq],u2 Zsl⟩:=
 ofB [0] (Za Qdw (Za Qbg (Za Z80 (Za Qbe Zh)))) (Zy Yp (Zy Zq9 (Zy Z85 (Zy Qdz (Zy Qbd (Zy Z83 (Zy Z1b (Zy Z60 (Zy Zzr (Zy Qdt (Zy Qgc Zd))))))))))) func152 call152 (.seq .leaf (.seq .leaf (.join [.box 0 123 (Vw) (.u false),.box 3 37 (Zq) (.u false),.box 4 37 (Zq) (.u true),pV 5 tI] (u4 Zhj) .leaf (.seq .leaf (.seq (.seq .leaf (.block (.seq .leaf (.cond .leaf (.join [.box 0 123 (Vw) (.u false),.box 3 37 (Zq) (.u false),.box 4 37 (Zq) (.u true),pV 5 tI,.box 6 37 (Zq) (.u false),pV 27 tI,pV 38 .bool] (u7 Zhk) .leaf (.cond .leaf (.seq .leaf (.cond .leaf (.seq .leaf (.cond .leaf (.seq .leaf (.cond .leaf (.join [.box 0 123 (Vw) (.u false),.box 3 37 (Zq) (.u false),.box 4 37 (Zq) (.u true),.box 6 37 (Zq) (.u false),pV 27 tI,pV 91 .bool] (u6 Zhl) .leaf .leaf))))))))))))) (.seq .leaf (.frz [(4,.u false)]))))))) ⟨(λv=>by kernel_rfl),(λv=>by kernel_rfl),λv=>by kernel_rfl⟩
theorem Qlq:okB ⟨87,[.bx 123 (Vw) (.u false)],.shr [Zq],u1 Zsk⟩:=
 ofB [0] (Za Qlj Zh) (Zy Zq9 (Zy Qlm (Zy Yp (Zy Qlt Zd)))) func87 call87 (.seq .leaf (.seq .leaf (.seq (.seq .leaf (.block (.loop [.box 0 123 (Vw) (.u false),.box 2 37 (Zq) (.u true),.box 3 37 (Zq) (.u false),pV 5 tI] (λN=>u4 (Zhh N)) (u4 Zrs) (λK1=>(.seq .leaf (.seq (.block (.frz [(3,.u false)])) .leaf)))))) .leaf))) ⟨λ_=>rfl,λN v=>by kernel_rfl⟩
theorem Z84:okB ⟨43,[.bx 123 (Vw) (.u false)],.shr [Zq],u1 Zrr⟩:=
 ofB [0] Zh (Zy Qlq (Zy Yp (Zy Z21 Zd))) func43 call43 .leaf
theorem Qlw:okB ⟨95,[.bx 123 (Vw) (.u false),.sh (.int .i64)],.vals [.str],u2 Z0h⟩:=
 ofB [0] (Za Zv9 Zh) (Zy Yp Zd) func95 call95 (.seq .leaf (.seq .leaf (.seq (.seq .leaf (.block (.loop [.box 0 123 (Vw) (.u false),pV 5 .str,pV 6 tI] (λN=>u3 (Zpj N)) (u3 Zrv) (λK1=>.leaf)))) .leaf))) ⟨λ_=>rfl,λN v=>by kernel_rfl⟩
theorem Qja:okB ⟨96,[.bx 123 (Vw) (.u false)],.vals [.slice 80 (Zt)],u1 Zx7⟩:=
 ofB [0] Zh (Zy Yp (Zy Z60 Zd)) func96 call96 (.seq .leaf (.seq .leaf (.seq (.seq .leaf (.block (.loop [.box 0 123 (Vw) (.u false),.val 3 (.slice 80 (Zt)) (.u true),pV 4 tI] (λN=>u3 (Zn4 N)) (u3 Zp1) (λK1=>.leaf)))) .leaf))) ⟨λ_=>rfl,λN v=>by kernel_rfl⟩
theorem Qo3:okB ⟨171,[.bx 123 (Vw) (.u false),.sh (.int .i64)],.vals [.str],u2 Z3a⟩:=
 ofB [0] Zh (Zy Yp (Zy Z1g Zd)) func171 call171 (.seq .leaf (.seq .leaf (.seq .leaf (.seq (.seq .leaf (.block (.loop [.box 0 123 (Vw) (.u false),.val 5 (.slice 5 (.int .u8)) (.u true),pV 6 tI,pV 7 tI] (λN=>u4 (Zgl N)) (u4 Zs0) (λK1=>(.seq .leaf (.seq (.block (.seq .leaf (.join [.box 0 123 (Vw) (.u false),.val 5 (.slice 5 (.int .u8)) (.u true),pV 6 tI,pV 7 tI,pV 8 tI] (u5 (Zrp K1)) .leaf (.join [.box 0 123 (Vw) (.u false),.val 5 (.slice 5 (.int .u8)) (.u true),pV 6 tI,pV 7 tI,pV 8 tI] (u5 (Zrq K1)) .leaf .leaf)))) .leaf)))))) .leaf)))) ⟨λ_=>rfl,λN=>⟨(λv=>by kernel_rfl),(λv=>by kernel_rfl),λv=>by kernel_rfl⟩⟩
theorem Qlp:okB ⟨97,[.bx 123 (Vw) (.u false),.sh (.str)],.vals [.str],u2 Z0f⟩:=
 ofB [0] Zh (Zy Qo3 (Zy Yp (Zy Z1g Zd))) func97 call97 .leaf
theorem Qd3:okB ⟨48,[.bx 123 (Vw) (.u false)],.vals [.str],u1 Zt0⟩:=
 ofB [0] (Za Zwz Zh) (Zy Zq9 (Zy Qlw (Zy Qja (Zy Qlp Zd)))) func48 call48 .leaf
theorem Qlv:okB ⟨19,[.sh (.slice 5 (.int .u8))],.shr [Zq,.slice 9 (.str)],u1 Z0g⟩:=
 ofB [] Zh (Zy Z3t (Zy Z84 (Zy Yp (Zy Qd3 Zd)))) func19 call19 (.seq .leaf (.seq .leaf (.seq .leaf (.seq .leaf (.seq (.seq .leaf (.block (.loop [.box 2 37 (Zq) (.u true),.ptr 4 9 [],.box 5 37 (Zq) (.u false),.val 6 (.slice 9 (.str)) (.u true),pV 7 tI,.box 9 123 (Vw) (.u false)] (λN=>u5 (Zpi N)) (u5 Zru) (λK1=>.leaf)))) (.seq .leaf (.frz [(3,.u false)]))))))) ⟨λ_=>rfl,λN v=>by kernel_rfl⟩
theorem Z3s:okB ⟨5,[.sh (.slice 5 (.int .u8))],.shr [Zq,.slice 9 (.str)],u1 Zj3⟩:=
 ofB [] Zh (Zy Qlv Zd) func5 call5 .leaf
theorem Qip:okE ⟨279,[Wh],[Wh],u1 Z3n⟩:=
 ofE Zh Zd func279 call279 .leaf
theorem Zom:okE ⟨280,[.slice 214 (Zw)],[.slice 214 (Zw)],u1 Zaj⟩:=
 ofE Zh Zd func280 call280 .leaf
theorem Zt8:okE ⟨172,[Z1],[Z1],u1 Zkl⟩:=
 ofE (Za Qip (Za Zom Zh)) Zd func172 call172 .leaf
abbrev Z2c:FnE:=⟨281,[Xe],[Xe],u1 Zkk⟩
theorem Z05:okE Z2c:=
 ofE Zh Zd func281 call281 .leaf
theorem Zq7:okE ⟨173,[Qi],[Qi],u1 Zda⟩:=
 ofE (Za Z05 Zh) Zd func173 call173 .leaf
theorem Z06:okE ⟨98,[Zu],[Zu],u1 Zkm⟩:=
 ofE (Za Zt8 (Za Zq7 Zh)) Zd func98 call98 .leaf
theorem Zzp:okE ⟨49,[.slice 96 (Zu)],[.slice 96 (Zu)],u1 Zcf⟩:=
 ofE (Za Z06 Zh) Zd func49 call49 (.seq .leaf (.seq .leaf (.seq (.seq .leaf (.block (.loop [.val 3 (.slice 96 (Zu)) (.u true),pV 7 (.slice 96 (Zu)),pV 8 tI,pV 9 tI] (λN=>u4 (Zhw N)) (u4 Vx) (λK1=>.leaf)))) .leaf))) ⟨λ_=>rfl,λN v=>by kernel_rfl⟩
theorem Qay:okE ⟨50,[.slice 63 (Yo)],[.slice 63 (Yo)],u1 Zw6⟩:=
 ofE Zh Zd func50 call50 (.seq .leaf (.seq .leaf (.seq (.seq .leaf (.block (.loop [.val 3 (.slice 63 (Yo)) (.u true),pV 7 (.slice 63 (Yo)),pV 8 tI,pV 9 tI] (λN=>u4 (Zhv N)) (u4 Zfv) (λK1=>.leaf)))) .leaf))) ⟨λ_=>rfl,λN v=>by kernel_rfl⟩
abbrev Vn:FnE:=⟨20,[Zq],[Zq],u1 Qf⟩
theorem Vy:okE Vn:=
 ofE (Za Zzp (Za Qay Zh)) Zd func20 call20 .leaf
abbrev Z3j:FnE:=⟨63,[.int .i64,.int .i64,.int .i64],[.bool],u3 Z0⟩
theorem Qp:okE Z3j:=
 ofE Zh Zd func63 call63 .leaf
theorem Zt9:okE ⟨139,[.int .i64],[.bool],u1 Zkn⟩:=
 ofE (Za Qp Zh) Zd func139 call139 .leaf
theorem Z8o:okE ⟨75,[Zmg],[.bool],u1 Zqy⟩:=
 ofE (Za Zt9 (Za Qp Zh)) Zd func75 call75 .leaf
theorem Ka:okE ⟨141,[.int .i64],[.bool],u1 Xg⟩:=
 ofE (Za Qp Zh) Zd func141 call141 .leaf
theorem Qif:okE ⟨362,[.int .i64],[.bool],u1 Z3m⟩:=
 ofE (Za Qp Zh) Zd func362 call362 .leaf
theorem Zo7:okE ⟨389,[.slice 3 (.int .i64),.fnc 362],[.int .i64],λxs=>Wx xs.1⟩:=
 ofE (Za Qif Zh) Zd func389 call389 (.seq .leaf (.seq (.seq .leaf (.block (.loop [pV 0 (.slice 3 (.int .i64)),pV 1 (.fnc 362),pV 7 tI,pV 8 tI] (λN=>u4 (X6 N)) (u4 Yf) (λK1=>.leaf)))) .leaf)) ⟨λ_=>rfl,λN v=>by kernel_rfl⟩
theorem Zni:okE ⟨361,[.slice 3 (.int .i64),.fnc 362],[.bool],λxs=>Vt xs.1⟩:=
 ofE (Za Zo7 Zh) Zd func361 call361 .leaf
theorem Z8p:okE ⟨312,[Wh],[.bool],u1 Zur⟩:=
 ofE (Za Zt9 (Za Zni (Za Ka (Za Qp Zh)))) Zd func312 call312 .leaf
theorem Zy9:okE ⟨315,[Zw],[.bool],u1 Zv0⟩:=
 ofE Zh Zd func315 call315 .leaf
theorem Ziu:okE ⟨314,[.slice 214 (Zw)],[.bool],u1 Zai⟩:=
 ofE (Za Zy9 Zh) Zd func314 call314 (.seq .leaf (.seq (.seq .leaf (.block (.loop [pV 0 (.slice 214 (Zw)),pV 5 (.slice 214 (Zw)),pV 6 tI,pV 7 tI] (λN=>u4 (Zm9 N)) (u4 Zpt) (λK1=>.leaf)))) .leaf)) ⟨λ_=>rfl,λN v=>by kernel_rfl⟩
theorem Z8i:okE ⟨363,[.slice 214 (Zw)],[.int .i64],u1 Zc9⟩:=
 ofE (Za Ziu Zh) Zd func363 call363 (.seq .leaf (.seq .leaf (.seq .leaf (.seq (.seq .leaf (.block (.loop [pV 3 tI,pV 9 (.slice 214 (Zw)),pV 10 tI,pV 11 tI] (λN=>u4 (Zf5 N)) (u4 Zkc) (λK1=>.leaf)))) .leaf)))) ⟨λ_=>rfl,λN v=>by kernel_rfl⟩
theorem Z4n:okE ⟨239,[.slice 214 (Zw),Zw],[.slice 214 (Zw)],u2 Zs4⟩:=
 ofE (Za Ziu (Za Zy9 (Za Zom Zh))) Zd func239 call239 (.seq .leaf (.seq .leaf (.seq .leaf (.seq (.seq .leaf (.block (.loop [.box 3 214 (Zw) (.u false),.val 5 (.slice 214 (Zw)) (.u true),pV 6 .bool,pV 20 (.slice 214 (Zw)),pV 21 tI,pV 22 tI] (λN=>u6 (Kv N)) (u6 Zjx) (λK1=>(.seq .leaf (.seq .leaf (.seq (.block (.seq .leaf (.block (.seq .leaf (.cond .leaf (.seq .leaf (.cond (.join [.box 3 214 (Zw) (.u false),.val 5 (.slice 214 (Zw)) (.u true),pV 6 .bool,.box 8 214 (Zw) (.u false),pV 20 (.slice 214 (Zw)),pV 21 tI,pV 22 tI] (u7 (Zm3 K1)) .leaf .leaf) .leaf))))))) .leaf))))))) .leaf)))) ⟨λ_=>rfl,λN=>⟨(λv=>by kernel_rfl),λv=>by kernel_rfl⟩⟩
theorem Z07:okE ⟨318,[.slice 214 (Zw),.int .i64],[.bool],u2 Zha⟩:=
 ofE Zh Zd func318 call318 .leaf
theorem Qio:okE ⟨316,[.slice 214 (Zw),.slice 214 (Zw),.slice 214 (Zw),.int .i64],[.bool],u4 Zxt⟩:=
 ofE (Za Z8i (Za Zom (Za Z4n (Za Z07 Zh)))) Zd func316 call316 (.seq .leaf (.seq .leaf (.seq .leaf (.seq (.seq .leaf (.block (.loop [pV 3 tI,.val 9 (.slice 214 (Zw)) (.u true),.val 27 (.slice 214 (Zw)) (.u true),pV 28 tI,pV 29 tI] (λN=>u5 (Zne N)) (u5 Zj1) (λK1=>.leaf)))) .leaf)))) ⟨λ_=>rfl,λN v=>by kernel_rfl⟩
theorem Qie:okE ⟨317,[.slice 214 (Zw),.int .i64],[.int .i64],u2 Zxp⟩:=
 ofE (Za Ziu Zh) Zd func317 call317 (.seq .leaf (.seq .leaf (.seq (.seq .leaf (.block (.loop [pV 1 tI,pV 14 (.slice 214 (Zw)),pV 15 tI,pV 16 tI] (λN=>u4 (Zir N)) (u4 Zps) (λK1=>.leaf)))) .leaf))) ⟨λ_=>rfl,λN v=>by kernel_rfl⟩
theorem Z2v:okE ⟨240,[Z1],[.int .i64],u1 Zq1⟩:=
 ofE Zh Zd func240 call240 .leaf
theorem Z4p:okE ⟨243,[Z1],[.bool],u1 Zs5⟩:=
 ofE (Za Z8p (Za Ziu (Za Qp (Za Ka (Za Qio (Za Qie (Za Z07 (Za Z2v Zh)))))))) Zd func243 call243 (.seq .leaf (.seq .leaf (.seq .leaf (.seq .leaf (.join [.box 1 87 (Z1) (.u false),pV 4 tI] (u2 Zna) .leaf .leaf))))) (λv=>by kernel_rfl)
theorem Zcg:okE ⟨77,[Qq],[.bool],u1 Zc4⟩:=
 ofE (Za Ka (Za Qp Zh)) Zd func77 call77 .leaf
abbrev Z34:FnE:=⟨349,[Zf2],[.int .i64],u1 Zf3⟩
theorem Zqc:okE Z34:=
 ofE Zh Zd func349 call349 .leaf
abbrev Z6q:FnE:=⟨319,[Xe],[.bool],u1 Zl3⟩
theorem Zr8:okE Z6q:=
 ofE (Za Ka (Za Zqc Zh)) Zd func319 call319 (.seq .leaf (.seq .leaf (.seq .leaf (.seq (.seq .leaf (.block (.loop [pV 3 tI,pV 13 (.slice 268 (Zf2)),pV 14 tI,pV 15 tI] (λN=>u4 (Zm8 N)) (u4 Zj0) (λK1=>.leaf)))) .leaf)))) ⟨λ_=>rfl,λN v=>by kernel_rfl⟩
theorem Qqm:okE ⟨320,[Xe],[.int .i64],u1 Z5s⟩:=
 ofE (Za Zr8 (Za Zqc Zh)) Zd func320 call320 .leaf
theorem Qde:okE ⟨353,[Xe],[.int .i64],u1 Ztp⟩:=
 ofE (Za Zr8 Zh) Zd func353 call353 .leaf
theorem Z4s:okE ⟨292,[Xe],[.int .i64],u1 Zta⟩:=
 ofE (Za Qde Zh) Zd func292 call292 .leaf
theorem Zjj:okE ⟨244,[Qi],[.bool],u1 Zd2⟩:=
 ofE (Za Zr8 (Za Qqm (Za Ka (Za Qp (Za Z4s Zh))))) Zd func244 call244 (.seq .leaf (.seq .leaf (.seq .leaf (.seq (.seq .leaf (.block (.seq .leaf (.cond .leaf (.seq .leaf (.cond .leaf (.seq .leaf (.cond .leaf (.seq .leaf (.cond .leaf (.join [.box 1 92 (Qi) (.u false),pV 101 .bool] (u2 Zb2) .leaf .leaf))))))))))) .leaf)))) (λv=>by kernel_rfl)
theorem Ziv:okE ⟨78,[Xr],[.bool],u1 Zif⟩:=
 ofE (Za Qp Zh) Zd func78 call78 .leaf
theorem Z02:okE ⟨231,[Kf],[.bool],u1 Zo1⟩:=
 ofE (Za Qp Zh) Zd func231 call231 .leaf
theorem Z4q:okE ⟨140,[Zu],[.bool],u1 Zs6⟩:=
 ofE (Za Ka (Za Z4p (Za Zcg (Za Zjj (Za Ziv (Za Z02 Zh)))))) Zd func140 call140 .leaf
theorem Zt7:okE ⟨76,[.slice 96 (Zu)],[.bool],u1 Zg9⟩:=
 ofE (Za Z4q Zh) Zd func76 call76 (.seq .leaf (.seq (.seq .leaf (.block (.loop [pV 0 (.slice 96 (Zu)),pV 5 (.slice 96 (Zu)),pV 6 tI,pV 7 tI] (λN=>u4 (Zbz N)) (u4 Zgq) (λK1=>.leaf)))) .leaf)) ⟨λ_=>rfl,λN v=>by kernel_rfl⟩
theorem Z6w:okE ⟨79,[Zdr],[.bool],u1 Zvn⟩:=
 ofE (Za Qp Zh) Zd func79 call79 .leaf
theorem Ztr:okE ⟨80,[Qq],[.bool],u1 Zoj⟩:=
 ofE (Za Qp Zh) Zd func80 call80 .leaf
theorem Qih:okE ⟨241,[.int .i64],[.str],u1 Zs7⟩:=
 ofE Zh Zd func241 call241 .leaf
abbrev Zyf:FnE:=⟨124,[Zt],[.bool],u1 Zb1⟩
theorem Zwy:okE Zyf:=
 ofE Zh Zd func124 call124 (.seq .leaf (.seq (.seq .leaf (.block (.join [pV 5 .bool] (u1 We) .leaf .leaf))) .leaf)) (λv=>by kernel_rfl)
theorem Qt3:okE ⟨242,[Zt],[Zt],u1 Qh2⟩:=
 ofE (Za Zwy Zh) Zd func242 call242 (.seq .leaf (.seq .leaf (.join [.box 1 80 (Zt) (.u false),.box 2 80 (Zt) (.u false),.box 3 80 (Zt) (.u false)] (u3 Z5u) .leaf (.seq (.seq .leaf (.block (.seq .leaf (.cond .leaf (.seq .leaf (.cond .leaf (.seq .leaf (.cond .leaf (.join [.box 1 80 (Zt) (.u false),.box 2 80 (Zt) (.u false),.box 3 80 (Zt) (.u false),pV 41 .bool] (u4 Z5v) .leaf .leaf))))))))) .leaf)))) ⟨(λv=>by kernel_rfl),λv=>by kernel_rfl⟩
abbrev Zc7:FnE:=⟨138,[Zt],[.bool],u1 Wi⟩
theorem Zd3:okE Zc7:=
 ofE (Za Qih (Za Qt3 (Za Ka Zh))) Zd func138 call138 .leaf
theorem Z8r:okE ⟨143,[Zt],[.bool],u1 Zvz⟩:=
 ofE (Za Zd3 Zh) Zd func143 call143 .leaf
theorem Zet:okE ⟨245,[.slice 80 (Zt),.fnc 143],[.int .i64],λxs=>Yg xs.1⟩:=
 ofE (Za Z8r Zh) Zd func245 call245 (.seq .leaf (.seq (.seq .leaf (.block (.loop [pV 0 (.slice 80 (Zt)),pV 1 (.fnc 143),pV 7 tI,pV 8 tI] (λN=>u4 (Qw N)) (u4 Xo) (λK1=>.leaf)))) .leaf)) ⟨λ_=>rfl,λN v=>by kernel_rfl⟩
theorem Zdc:okE ⟨142,[.slice 80 (Zt),.fnc 143],[.bool],λxs=>Xa xs.1⟩:=
 ofE (Za Zet Zh) Zd func142 call142 .leaf
theorem Qdf:okE ⟨81,[.slice 63 (Yo),.int .i64],[.bool],u2 Zy6⟩:=
 ofE (Za Qp (Za Zdc Zh)) Zd func81 call81 (.seq .leaf (.seq (.seq .leaf (.block (.loop [pV 0 (.slice 63 (Yo)),pV 1 tI,pV 7 (.slice 63 (Yo)),pV 8 tI,pV 9 tI] (λN=>u5 (Zjf N)) (u5 Znd) (λK1=>.leaf)))) .leaf)) ⟨λ_=>rfl,λN v=>by kernel_rfl⟩
theorem Qax:okE ⟨145,[Zu],[.int .i64],u1 Z4f⟩:=
 ofE Zh Zd func145 call145 .leaf
theorem Zxe:okE ⟨144,[.slice 96 (Zu),.fnc 145],[.int .i64],λxs=>Zh7 xs.1⟩:=
 ofE (Za Zt7 (Za Qax Zh)) Zd func144 call144 (.seq .leaf (.seq .leaf (.seq .leaf (.seq (.seq .leaf (.block (.loop [pV 1 (.fnc 145),pV 5 tI,pV 11 (.slice 96 (Zu)),pV 12 tI,pV 13 tI] (λN=>u5 (Jw N)) (u5 Zbj) (λK1=>.leaf)))) .leaf)))) ⟨λ_=>rfl,λN v=>by kernel_rfl⟩
theorem Qf8:okE ⟨82,[.slice 96 (Zu)],[.int .i64],u1 Zvy⟩:=
 ofE (Za Zxe Zh) Zd func82 call82 .leaf
theorem Qaw:okE ⟨146,[Zu],[.int .i64],u1 Z4e⟩:=
 ofE Zh Zd func146 call146 .leaf
theorem Zxd:okE ⟨144,[.slice 96 (Zu),.fnc 146],[.int .i64],λxs=>Zh6 xs.1⟩:=
 ofE (Za Zt7 (Za Qaw Zh)) Zd func144 call144 (.seq .leaf (.seq .leaf (.seq .leaf (.seq (.seq .leaf (.block (.loop [pV 1 (.fnc 146),pV 5 tI,pV 11 (.slice 96 (Zu)),pV 12 tI,pV 13 tI] (λN=>u5 (Jv N)) (u5 Zbi) (λK1=>.leaf)))) .leaf)))) ⟨λ_=>rfl,λN v=>by kernel_rfl⟩
theorem Qf6:okE ⟨83,[.slice 96 (Zu)],[.int .i64],u1 Zvv⟩:=
 ofE (Za Zxd Zh) Zd func83 call83 .leaf
abbrev Zc3:FnE:=⟨39,[Zq],[.bool],u1 Zce⟩
theorem Zbk:okE Zc3:=
 ofE (Za Z8o (Za Zt7 (Za Zcg (Za Ziv (Za Z6w (Za Ztr (Za Qp (Za Qdf (Za Qf8 (Za Qf6 Zh)))))))))) Zd func39 call39 .leaf
theorem Zxb:okE ⟨40,[Zq],[.bool],u1 Zpl⟩:=
 ofE Zh Zd func40 call40 .leaf
abbrev Zvh:FnE:=⟨342,[.str,.int .i64],[.int .i64,.int .i64,.bool],u2 X5⟩
theorem Qcz:okE Zvh:=
 ofE (Za Qp Zh) Zd func342 call342 (.seq .leaf (.seq .leaf (.seq .leaf (.seq .leaf (.seq .leaf (.seq (.seq .leaf (.block (.loop [pV 0 .str,pV 1 tI,pV 7 tI,pV 8 tI,pV 9 tI] (λN=>u5 (Zi9 N)) (u5 Zuq) (λK1=>.leaf)))) .leaf)))))) ⟨λ_=>rfl,λN v=>by kernel_rfl⟩
abbrev Qnt:FnE:=⟨227,[.bool],[.int .i64],u1 Zs9⟩
theorem Z8s:okE Qnt:=
 ofE Zh Zd func227 call227 .leaf
abbrev Zxf:Zvd:={f:=282,n:=34,np:=3,rv:=Tryz.f282.results.toList,run:=λln _ k s=>Vo (Ziq [] ln [Zvh] [] [] []) 34 (Zam Tryz.f282) .leaf k s}
theorem Z2l:Zay Tryz.prog glob Zxf:=Zay.of (C:=Ziq [] [] [Zvh] [] [] []) (λln=>Ws (ln:=ln) Jh rfl (Za Qcz Zh) Kq Zd Kr) Tryz.func282 rfl Tryz.call282 (by decide) rfl rfl (λ_ _ _=>rfl)
abbrev Zvk:FnE:=⟨283,[.str,.int .i64,.int .i64],[Zt,.int .i64,.bool],u3 Zo4⟩
theorem Qdg:Zn8 Tryz.prog glob Zvk:=by
 refine Zn8.of (e:=Zvk) (C:=Ziq [Zxf] [] [] [] [] []) (Ws (Xs Z2l Jh) rfl Zh Kq Zd Kr) rfl Tryz.func283 (c:=Zam Tryz.f283) rfl Tryz.call283 (by decide)
  ((.seq .leaf (.seq .leaf (.seq .leaf (.join [pV 0 .str,pV 1 tI,pV 2 tI,.box 6 80 (Zt) (.u false),.box 9 80 (Zt) (.u false),.box 10 3 (.int .i64) (.u false),pV 11 .bool] (λv=>Va v.1 v.2.1 v.2.2.1 v.2.2.2.1 v.2.2.2.2.1 v.2.2.2.2.2.1 v.2.2.2.2.2.2.1) .leaf (.seq .leaf (.seq .leaf (.join [pV 0 .str,pV 1 tI,.box 6 80 (Zt) (.u false),.box 9 80 (Zt) (.u false),.box 10 3 (.int .i64) (.u false),pV 11 .bool] (λv=>Ww v.1 v.2.1 v.2.2.1 v.2.2.2.1 v.2.2.2.2.1 v.2.2.2.2.2.1) .leaf .leaf)))))))) ?_ ?_
 ·exact⟨lf,lf,lf,lf,(λv=>by kernel_rfl),lf,lf,lf,(λv=>by kernel_rfl),lf⟩
 ·intro xs r h;refine Eq.trans (Eq.symm ?_) h;kernel_rfl
abbrev Z37:FnE:=⟨174,[.str,.int .i64],[Zt,.int .i64,.bool],u2 Z0u⟩
theorem Qga:Zn8 Tryz.prog glob Z37:=by
 refine Zn8.of (e:=Z37) (C:=Ziq [Zxf] [] [Z3j,Qnt,Zvk] [] [] []) (Ws (Xs Z2l Jh) rfl (Za Qp (Za Z8s (Za Qdg Zh))) Kq Zd Kr) rfl Tryz.func174 (c:=Zam Tryz.f174) rfl Tryz.call174 (by decide)
  ((.seq .leaf (.seq .leaf (.seq .leaf (.seq .leaf (.seq .leaf (.join [.box 4 80 (Zt) (.u false),.box 8 80 (Zt) (.u false),pV 9 tI,pV 10 .bool] (λv=>Q9 v.1 v.2.1 v.2.2.1 v.2.2.2.1) (.seq .leaf (.block (.seq .leaf (.cond .leaf (.seq .leaf (.cond .leaf (.join [pV 0 .str,pV 1 tI,.box 4 80 (Zt) (.u false),pV 7 tI,.box 8 80 (Zt) (.u false),pV 9 tI,pV 10 .bool,pV 24 tI,pV 60 .bool] (λv=>Zlc v.1 v.2.1 v.2.2.1 v.2.2.2.1 v.2.2.2.2.1 v.2.2.2.2.2.1 v.2.2.2.2.2.2.1 v.2.2.2.2.2.2.2.1 v.2.2.2.2.2.2.2.2.1) .leaf (.cond .leaf (.join [pV 0 .str,pV 1 tI,.box 4 80 (Zt) (.u false),pV 7 tI,.box 8 80 (Zt) (.u false),pV 9 tI,pV 10 .bool,pV 24 tI,pV 72 .bool] (λv=>Zld v.1 v.2.1 v.2.2.1 v.2.2.2.1 v.2.2.2.2.1 v.2.2.2.2.2.1 v.2.2.2.2.2.2.1 v.2.2.2.2.2.2.2.1 v.2.2.2.2.2.2.2.2.1) .leaf (.cond .leaf (.join [pV 0 .str,pV 1 tI,.box 4 80 (Zt) (.u false),pV 7 tI,.box 8 80 (Zt) (.u false),pV 9 tI,pV 10 .bool,pV 85 .bool] (λv=>Zdb v.1 v.2.1 v.2.2.1 v.2.2.2.1 v.2.2.2.2.1 v.2.2.2.2.2.1 v.2.2.2.2.2.2.1 v.2.2.2.2.2.2.2.1) .leaf .leaf))))))))))) .leaf))))))) ?_ ?_
 ·exact⟨lf,lf,lf,lf,lf,⟨lf,lf,lf,lf,lf,lf,(λv=>by kernel_rfl),lf,lf,(λv=>by kernel_rfl),lf,lf,(λv=>by kernel_rfl),lf⟩,(λv=>by kernel_rfl),lf⟩
 ·intro xs r h;refine Eq.trans (Eq.symm ?_) h;kernel_rfl
theorem Qaj:okE ⟨99,[.str,.int .i64],[Zt,.int .i64,.bool],u2 Zrw⟩:=
 ofE (Za Qga (Za Zd3 Zh)) Zd func99 call99 .leaf
theorem Z68:okE ⟨51,[.str],[.slice 80 (Zt),.bool],u1 Zt4⟩:=
 ofE (Za Qaj (Za Qp Zh)) Zd func51 call51 (.seq .leaf (.seq .leaf (.seq (.seq .leaf (.block (.loop [pV 0 .str,.val 4 (.slice 80 (Zt)) (.u true),pV 5 tI] (λN=>u3 (Zbf N)) (u3 Zqv) (λK1=>.leaf)))) .leaf))) ⟨λ_=>rfl,λN v=>by kernel_rfl⟩
theorem Qfv:okE ⟨52,[Zq,.int .i64],[Zq],u2 Zqt⟩:=
 ofE (Za Vy (Za Qp Zh)) Zd func52 call52 .leaf
theorem Zb3:okE ⟨285,[.int .i64],[.bool],u1 Zbp⟩:=
 ofE (Za Ka Zh) Zd func285 call285 .leaf
theorem Zy8:okE ⟨286,[.int .i64],[.bool],u1 Zvo⟩:=
 ofE (Za Zb3 Zh) Zd func286 call286 .leaf
theorem Qda:okE ⟨347,[.int .i64],[.bool],u1 Z6t⟩:=
 ofE (Za Zb3 Zh) Zd func347 call347 .leaf
abbrev Z5k:FnE:=⟨287,[.bool,.int .i64],[.bool],u2 Zjd⟩
theorem Zxx:okE Z5k:=
 ofE (Za Zb3 (Za Qda Zh)) Zd func287 call287 .leaf
abbrev Zho:FnE:=⟨178,[.bool,.int .i64],[.bool],u2 Zgr⟩
theorem Zq5:okE Zho:=
 ofE (Za Zb3 (Za Zy8 (Za Zxx Zh))) Zd func178 call178 .leaf
theorem Z8n:okE ⟨230,[Zu,.sptr 3 (.int .i64)],[.bool],u2 Z2h⟩:=
 ofE Zh Zd func230 call230 .leaf
theorem Zd1:okE ⟨229,[.slice 96 (Zu),.clo 230 (.pair (.sptr 3 (.int .i64)) (.unit))],[.int .i64],u2 Yb⟩:=
 ofE (Za Z8n Zh) Zd func229 call229 (.seq .leaf (.seq (.seq .leaf (.block (.loop [pV 0 (.slice 96 (Zu)),pV 1 (.clo 230 (.pair (.sptr 3 (.int .i64)) (.unit))),pV 7 tI,pV 8 tI] (λN=>u4 (Qr N)) (u4 Xi) (λK1=>.leaf)))) .leaf)) ⟨λ_=>rfl,λN v=>by kernel_rfl⟩
abbrev Zp3:FnE:=⟨123,[.slice 96 (Zu),.int .i64],[.int .i64],u2 Q8⟩
theorem Zfa:okE Zp3:=
 ofE (Za Zd1 Zh) Zd func123 call123 .leaf
abbrev Zqq:FnB:=⟨296,[.bx 37 (Zq) (.u true),.sh (.int .i64)],.fp (Zq) 0 [9] [8],u2 Qa⟩
theorem Zwv:okB Zqq:=
 ofB [0] (Za Zy8 Zh) Zd func296 call296 .leaf
theorem Qle:okE ⟨344,[.int .i64],[.int .i64],u1 Zh4⟩:=
 ofE (Za Zb3 Zh) Zd func344 call344 .leaf
theorem Qim:okE ⟨343,[Qq,.int .i64],[Qq,.int .i64,.bool],u2 Zfu⟩:=
 ofE (Za Ztr (Za Qp Zh)) Zd func343 call343 .leaf
theorem Qaq:okE ⟨377,[],[Qi],λ_=>Z4c⟩:=
 ofE Zh Zd func377 call377 .leaf
theorem Z4o:okE ⟨378,[],[Kf],λ_=>Zyi⟩:=
 ofE Zh Zd func378 call378 .leaf
abbrev Zm1:FnE:=⟨187,[.bool,.int .i64],[.bool],u2 Zqs⟩
theorem Zv4:okE Zm1:=
 ofE (Za Zb3 (Za Zy8 (Za Zxx Zh))) Zd func187 call187 .leaf
theorem Qlg:okE ⟨393,[.int .i64],[Wh,.bool],u1 Qfb⟩:=
 ofE (Za Zt9 Zh) Zd func393 call393 .leaf
theorem Qfz:okE ⟨379,[.int .i64],[Z1,.bool],u1 Z0t⟩:=
 ofE (Za Qlg Zh) Zd func379 call379 .leaf
theorem Qfy:okE ⟨380,[.int .i64],[Qq,.bool],u1 Z74⟩:=
 ofE (Za Ka Zh) Zd func380 call380 .leaf
theorem Qf1:okE ⟨381,[.int .i64,.int .i64],[Xr,.bool],u2 Z75⟩:=
 ofE (Za Qp Zh) Zd func381 call381 .leaf
theorem Qf0:okE ⟨345,[.bool,.int .i64,Zmg,Zmg],[Zu,.bool],u4 Zvs⟩:=
 ofE (Za Zb3 (Za Z8o (Za Qaq (Za Z4o (Za Zv4 (Za Zq5 (Za Qfz (Za Qfy (Za Qf1 Zh))))))))) Zd func345 call345 .leaf
theorem Qas:okE ⟨382,[Zu,.sptr 96 (Zu)],[.bool],u2 Z4d⟩:=
 ofE Zh Zd func382 call382 .leaf
theorem Zec:okE ⟨229,[.slice 96 (Zu),.clo 382 (.pair (.sptr 96 (Zu)) (.unit))],[.int .i64],u2 Xc⟩:=
 ofE (Za Qas Zh) Zd func229 call229 (.seq .leaf (.seq (.seq .leaf (.block (.loop [pV 0 (.slice 96 (Zu)),pV 1 (.clo 382 (.pair (.sptr 96 (Zu)) (.unit))),pV 7 tI,pV 8 tI] (λN=>u4 (Qv N)) (u4 Xn) (λK1=>.leaf)))) .leaf)) ⟨λ_=>rfl,λN v=>by kernel_rfl⟩
set_option maxHeartbeats 4000000 in
theorem Q3n(k:Nat)(hk:0<k)(zE:∀w,(Go.sizeOf 96).run Tryz.prog w=.ok k w)(b n c i vb m vc:Nat)(cur vcur:Array Value)(t:TypeId)(w:World)(hi:i<n)(hm:0<m)(hroom:n+m<=c)(hc:c<=maxLen)(hvb:vb≠b)
  (hb:w.heap[b]? =some (.cells cur 96 (0,0))) (hcs:cur.size=c*k) (hv:w.heap[vb]? =some (.cells vcur t (0,0))) (hvs:m*k<=vcur.size)
  (h1:∀u∈cur.toList.take (n*k),u.oneCell'=true) (h1v:∀u∈vcur.toList.take (m*k),u.oneCell'=true):
  Calls Tryz.prog 383 #[.slice (some ⟨b,0,none⟩) n c,.int .i64 i,.slice (some ⟨vb,0,none⟩) m vc] w λe w'=>
   e=.returned (.slice (some ⟨b,0,none⟩) (n+m) c)/\ ∃R1 R2:Array Value,w'=(w.drew.setRow b R1).setRow b R2/\R2.size=cur.size/\
    R2.toList.take ((n+m)*k)=cur.toList.take (i*k)++vcur.toList.take (m*k)++(cur.toList.take (n*k)).drop (i*k):=by
 have hz1:¬((m:Int)=0):=by omega
 have hz2:¬((i:Int)=(n:Int)):=by omega
 have h63:c<=9223372036854775807:=by unfold maxLen at hc;omega
 have hw1:IntKind.i64.wrap ((i:Int)+(m:Int))=(i:Int)+(m:Int):=by rw[IntKind.wrap_i64];omega
 have hw2:IntKind.i64.wrap ((n:Int)+(m:Int))=(n:Int)+(m:Int):=by rw[IntKind.wrap_i64];omega
 have hb1:(0:Int)<=(i:Int)+(m:Int):=by omega
 have hin:i<=n:=by omega
 have htn:((i:Int)+(m:Int)).toNat=i+m:=by omega
 have hb2:¬(c=i+m):=by omega
 have hb3:(i:Int)<=(n:Int)+(m:Int):=by omega
 have hb4:¬(c=i):=by omega
 have hov:∀lb cb,(callFunc 394 #[.slice (some ⟨vb,0,none⟩) m vc,.slice (some ⟨b,(i+m)*k,none⟩) lb cb]).run Tryz.prog w=.ok (.value (.bool false)) w:=λlb cb=>by
  rw[run_callFunc_extern Tryz.func394 (by kernel_rfl) (by kernel_rfl) (by kernel_rfl) (e:=Extern.SlicesOverlaps.overlaps #[26,26] #[4]) (by kernel_rfl),
   Lib.run_overlaps_apart w 26 4 96 (by kernel_rfl) k zE ⟨vb,0,none⟩ ⟨b,(i+m)*k,none⟩ m vc lb cb hvb t 96 vcur.size cur.size (by simp[World.shape?,hv]) (by simp[World.shape?,hb]) (by rw[hcs];exact Nat.mul_ne_zero (by omega) (by omega)) (by simp[World.frozen?,hv]) (by simp[World.frozen?,hv])]
  rfl
 obtain⟨C,hC⟩:∃C,C=(cur.toList.take (n*k)).drop (i*k):=⟨_,rfl⟩
 obtain⟨V,hV⟩:∃V,V=vcur.toList.take (m*k):=⟨_,rfl⟩
 have hnk:n*k<=cur.size:=by rw[hcs];exact Nat.mul_le_mul_right _ (by omega)
 have hmk:(n+m)*k<=cur.size:=by rw[hcs];exact Nat.mul_le_mul_right _ hroom
 have hCl:C.length=(n-i)*k:=by rw[hC];simp only[List.length_drop,List.length_take,Array.length_toList];rw[Nat.min_eq_left hnk,Nat.mul_sub_right_distrib]
 have hVl:V.length=m*k:=by rw[hV];simp only[List.length_take,Array.length_toList];omega
 obtain⟨R1,hR1⟩:∃R1:Array Value,R1=(cur.toList.take ((i+m)*k)++C++cur.toList.drop ((i+m)*k+C.length)).toArray:=⟨_,rfl⟩
 have e1:(i+m)*k+(n-i)*k=(n+m)*k:=by rw[<-Nat.add_mul];congr 1;omega
 have e2:i*k+m*k=(i+m)*k:=by rw[<-Nat.add_mul]
 have hR1s:R1.size=cur.size:=by rw[hR1];simp only[List.size_toArray,List.length_append,List.length_take,List.length_drop,Array.length_toList];omega
 obtain⟨R2,hR2⟩:∃R2:Array Value,R2=(R1.toList.take (i*k)++V++R1.toList.drop (i*k+V.length)).toArray:=⟨_,rfl⟩
 have hcp1:∀ty dc sc,(Builtin.copy_ #[26,26] ty #[.slice (some ⟨b,(i+m)*k,none⟩) (n+m- (i+m)) dc,.slice (some ⟨b,i*k,none⟩) (n+m-i) sc]).run Tryz.prog w.drew=.ok (goInt (n-i:Nat)) (w.drew.setRow b R1):=λty dc sc=>by
  rw[hR1];exact Qmb (by kernel_rfl) zE w.drew ty b ((i+m)*k) (n+m- (i+m)) dc ⟨b,i*k,none⟩ (n+m-i) sc cur 96 C hb (n-i) (by simp only[Nat.min_def];split<;>omega) hCl
   (λj u hj=>by
    rw[hC,List.getElem?_drop,List.getElem?_take]at hj;split at hj
    ·rw[Addr.add_lit];have hd:w.drew.heap[b]? =some (.cells cur 96 (0,0)):=hb;simp only[World.cell?,hd];simpa using hj
    ·cases hj) (by omega) (λu hu=>h1 u (by rw[hC]at hu;exact List.mem_of_mem_drop hu))
 have hcp2:∀(W:World),W.heap=(w.drew.setRow b R1).heap-> ∀ty dc,(Builtin.copy_ #[26,26] ty #[.slice (some ⟨b,i*k,none⟩) (n+m-i) dc,.slice (some ⟨vb,0,none⟩) m vc]).run Tryz.prog W=.ok (goInt m) (W.setRow b R2):=λW hW ty dc=>by
  rw[hR2];exact Qmb (by kernel_rfl) zE W ty b (i*k) (n+m-i) dc ⟨vb,0,none⟩ m vc R1 96 V (by rw[hW];exact Qrf (W:=w.drew) hb) m (by simp only[Nat.min_def];split<;>omega) hVl
   (λj u hj=>by
    rw[hV,List.getElem?_take]at hj;split at hj
    ·rw[Addr.add_lit];simp only[World.cell?,hW];have:(w.drew.setRow b R1).heap[vb]? =some (.cells vcur t (0,0)):=(Qrg (W:=w.drew) hvb).trans hv;rw[this];simpa using hj
    ·cases hj) (by omega) (λu hu=>h1v u (by rw[hV]at hu;exact hu))
 have hT:(cur.toList.take ((i+m)*k)).length=(i+m)*k:=by
  have:(i+m)*k<=(n+m)*k:=Nat.mul_le_mul_right _ (by omega);rw[List.length_take,Array.length_toList];omega
 have hTi:(cur.toList.take (i*k)).length=i*k:=by
  have:i*k<=(n+m)*k:=Nat.mul_le_mul_right _ (by omega);rw[List.length_take,Array.length_toList];omega
 have r1:R1.toList.take (i*k)=cur.toList.take (i*k):=by
  rw[hR1];simp only[];rw[List.append_assoc,List.take_append_of_le_length (by rw[hT];omega),List.take_take,Nat.min_eq_left (by omega)]
 have r2:R1.toList.drop (i*k+V.length)=C++cur.toList.drop ((n+m)*k):=by
  rw[hVl,e2,hR1];simp only[];rw[List.append_assoc,List.drop_left' hT,hCl,e1]
 have hf1:R2.size=cur.size:=by rw[hR2];simp only[List.size_toArray,List.length_append,List.length_take,List.length_drop,Array.length_toList];omega
 have hf2:R2.toList.take ((n+m)*k)=cur.toList.take (i*k)++V++C:=by
  rw[hR2];simp only[];rw[r1,r2,<-List.append_assoc,List.take_left' (by simp only[List.length_append,hTi,hVl,hCl];omega)]
 rw[<-hV,<-hC];clear hR1 hR2 hC hV r1 r2 hTi hT e1 e2 hR1s hCl hVl hnk hmk h1 h1v hvs hcs hv hb;have mixed:Tryz.prog.follows Departure.mixedOrders=true:=by kernel_rfl
 go_enter Tryz.func383,Tryz.ntmps383
 go_wp2_with (simp only[hov])
 go_region_law_o (refine Qsk rfl (Z9x (t:=26) (t':=26) rfl (by simp[Act.eval,Act.put]) (by simp[Act.eval,Act.put]) (hcp1 _ _ _)) ?_)
 go_wp2_with (at_builtin;refine Zyv rfl (Z9x (t:=26) (t':=26) rfl rfl rfl (hcp2 _ rfl _ _)) ?_)
 go_ret
 exact⟨rfl,R1,R2,rfl,hf1,hf2⟩
set_option maxHeartbeats 4000000 in
theorem Xak(k:Nat)(hk:0<k)(zE:∀w,(Go.sizeOf 96).run Tryz.prog w=.ok k w)(base:Option Addr)(n c vb m vc:Nat)(w w':World)(v':Value)(hm:0<m)(hnc:n<=c)(hc:c<=maxLen)(hnil:base=none->n=0/\c=0)
  (hap:(Builtin.append_ #[26,26] 26 #[.slice base n c,.slice (some ⟨vb,0,none⟩) m vc]).run Tryz.prog w=.ok v' w'):
  Calls Tryz.prog 383 #[.slice base n c,.int .i64 n,.slice (some ⟨vb,0,none⟩) m vc] w λe w2=>e=.returned v'/\w2=w':=by
 have hz1:¬((m:Int)=0):=by omega
 have h63:c<=9223372036854775807:=by unfold maxLen at hc;omega
 have mixed:Tryz.prog.follows Departure.mixedOrders=true:=by kernel_rfl
 cases base with
 |none=>
  obtain⟨rfl,rfl⟩:=hnil rfl
  go_enter Tryz.func383,Tryz.ntmps383
  go_wp2_with (at_builtin;refine Zyv rfl (Z7z (t:=26) (t':=26) rfl rfl rfl hap) ?_)
  go_ret
  exact⟨rfl,rfl⟩
 |some ad=>
  go_enter Tryz.func383,Tryz.ntmps383
  go_wp2_with (at_builtin;refine Zyv rfl (Z7z (t:=26) (t':=26) rfl rfl rfl hap) ?_)
  all_goals (go_ret;exact⟨rfl,rfl⟩)
set_option maxHeartbeats 4000000 in
theorem Q6u(k:Nat)(hk:0<k)(zE:∀w,(Go.sizeOf 96).run Tryz.prog w=.ok k w)(b n c i vb m vc g G:Nat)(cur vcur ROW:Array Value)(t:TypeId)(w W1:World)(hi:i<n)(hm:0<m)(hnc:n<=c)(hroom:c<n+m)(hc:c<=maxLen)(hGn:n+m<=G)(hGm:G<=maxLen)
  (hb:W1.heap[b]? =some (.cells cur 96 (0,0))) (hcs:cur.size=c*k) (hv:W1.heap[vb]? =some (.cells vcur t (0,0))) (hvs:m*k<=vcur.size) (hg:W1.heap[g]? =some (.cells ROW 96 (0,0))) (hRs:ROW.size=G*k) (hgb:b≠g) (hgv:vb≠g)
  (h1:∀u∈cur.toList.take (n*k),u.oneCell'=true) (h1v:∀u∈vcur.toList.take (m*k),u.oneCell'=true)
  (hap:(Builtin.append_ #[26,3] 26 #[.slice (some ⟨b,0,none⟩) i c,.int .i64 ((n:Int)+(m:Int)- (i:Int))]).run Tryz.prog w=.ok (.slice (some ⟨g,0,none⟩) (n+m) G) W1):
  Calls Tryz.prog 383 #[.slice (some ⟨b,0,none⟩) n c,.int .i64 i,.slice (some ⟨vb,0,none⟩) m vc] w λe w'=>
   e=.returned (.slice (some ⟨g,0,none⟩) (n+m) G)/\ ∃R1 R2:Array Value,w'=((W1.setRow g R1).drew).setRow g R2/\R2.size=ROW.size/\
    R2.toList.take ((n+m)*k)=ROW.toList.take (i*k)++vcur.toList.take (m*k)++(cur.toList.take (n*k)).drop (i*k):=by
 have hz1:¬((m:Int)=0):=by omega
 have hz2:¬((i:Int)=(n:Int)):=by omega
 have hz3:(c:Int)<(n:Int)+(m:Int):=by omega
 have h63:c<=9223372036854775807:=by unfold maxLen at hc;omega
 have hG63:G<=9223372036854775807:=by unfold maxLen at hGm;omega
 have hw1:IntKind.i64.wrap ((i:Int)+(m:Int))=(i:Int)+(m:Int):=by rw[IntKind.wrap_i64];omega
 have hw2:IntKind.i64.wrap ((n:Int)+(m:Int))=(n:Int)+(m:Int):=by rw[IntKind.wrap_i64];omega
 have hw3:IntKind.i64.wrap ((n:Int)+(m:Int)- (i:Int))=(n:Int)+(m:Int)- (i:Int):=by rw[IntKind.wrap_i64];omega
 have hb1:(0:Int)<=(i:Int)+(m:Int):=by omega
 have hin:i<=n:=by omega
 have htn:((i:Int)+(m:Int)).toNat=i+m:=by omega
 have hb3:(i:Int)<=(n:Int)+(m:Int):=by omega
 have hGi:¬(G=i):=by omega
 have hGim:¬(G=i+m):=by omega
 have hci:¬(c=i):=by omega
 obtain⟨C,hC⟩:∃C,C=(cur.toList.take (n*k)).drop (i*k):=⟨_,rfl⟩
 obtain⟨V,hV⟩:∃V,V=vcur.toList.take (m*k):=⟨_,rfl⟩
 have hnk:n*k<=cur.size:=by rw[hcs];exact Nat.mul_le_mul_right _ hnc
 have hmk:(n+m)*k<=ROW.size:=by rw[hRs];exact Nat.mul_le_mul_right _ hGn
 have hCl:C.length=(n-i)*k:=by rw[hC];simp only[List.length_drop,List.length_take,Array.length_toList];rw[Nat.min_eq_left hnk,Nat.mul_sub_right_distrib]
 have hVl:V.length=m*k:=by rw[hV];simp only[List.length_take,Array.length_toList];omega
 have e1:(i+m)*k+(n-i)*k=(n+m)*k:=by rw[<-Nat.add_mul];congr 1;omega
 have e2:i*k+m*k=(i+m)*k:=by rw[<-Nat.add_mul]
 obtain⟨R1,hR1⟩:∃R1:Array Value,R1=(ROW.toList.take (i*k)++V++ROW.toList.drop (i*k+V.length)).toArray:=⟨_,rfl⟩
 have hR1s:R1.size=ROW.size:=by rw[hR1];simp only[List.size_toArray,List.length_append,List.length_take,List.length_drop,Array.length_toList];omega
 obtain⟨R2,hR2⟩:∃R2:Array Value,R2=(R1.toList.take ((i+m)*k)++C++R1.toList.drop ((i+m)*k+C.length)).toArray:=⟨_,rfl⟩
 have hcp1:∀(W:World),W.heap=W1.heap-> ∀ty dc,(Builtin.copy_ #[26,26] ty #[.slice (some ⟨g,i*k,none⟩) (n+m-i) dc,.slice (some ⟨vb,0,none⟩) m vc]).run Tryz.prog W=.ok (goInt m) (W.setRow g R1):=λW hW ty dc=>by
  rw[hR1];exact Qmb (by kernel_rfl) zE W ty g (i*k) (n+m-i) dc ⟨vb,0,none⟩ m vc ROW 96 V (by rw[hW];exact hg) m (by simp only[Nat.min_def];split<;>omega) hVl
   (λj u hj=>by
    rw[hV,List.getElem?_take]at hj;split at hj
    ·rw[Addr.add_lit];simp only[World.cell?,hW,hv];simpa using hj
    ·cases hj) (by omega) (λu hu=>h1v u (by rw[hV]at hu;exact hu))
 have hcp2:∀(W:World),W.heap=(W1.setRow g R1).heap-> ∀ty dc sc,(Builtin.copy_ #[26,26] ty #[.slice (some ⟨g,(i+m)*k,none⟩) (n+m- (i+m)) dc,.slice (some ⟨b,i*k,none⟩) (n-i) sc]).run Tryz.prog W=.ok (goInt (n-i:Nat)) (W.setRow g R2):=λW hW ty dc sc=>by
  rw[hR2];exact Qmb (by kernel_rfl) zE W ty g ((i+m)*k) (n+m- (i+m)) dc ⟨b,i*k,none⟩ (n-i) sc R1 96 C (by rw[hW];exact Qrf hg) (n-i) (by simp only[Nat.min_def];split<;>omega) hCl
   (λj u hj=>by
    rw[hC,List.getElem?_drop,List.getElem?_take]at hj;split at hj
    ·rw[Addr.add_lit];have hd:W.heap[b]? =some (.cells cur 96 (0,0)):=by rw[hW];exact(Qrg hgb).trans hb
     simp only[World.cell?,hd];simpa using hj
    ·cases hj) (by omega) (λu hu=>h1 u (by rw[hC]at hu;exact List.mem_of_mem_drop hu))
 have hTi:(ROW.toList.take (i*k)).length=i*k:=by
  have:i*k<=(n+m)*k:=Nat.mul_le_mul_right _ (by omega);rw[List.length_take,Array.length_toList];omega
 have r1:R1.toList.take ((i+m)*k)=ROW.toList.take (i*k)++V:=by
  rw[hR1];simp only[];rw[List.take_left' (by rw[List.length_append,hTi,hVl,e2])]
 have hf1:R2.size=ROW.size:=by rw[hR2];simp only[List.size_toArray,List.length_append,List.length_take,List.length_drop,Array.length_toList];omega
 have hf2:R2.toList.take ((n+m)*k)=ROW.toList.take (i*k)++V++C:=by
  rw[hR2];simp only[];rw[r1,List.take_left' (by simp only[List.length_append,hTi,hVl,hCl];omega)]
 rw[<-hV,<-hC];clear hR1 hR2 hC hV r1 hTi e1 e2 hR1s hCl hVl hnk hmk h1 h1v hvs hcs hv hb hg hRs;have mixed:Tryz.prog.follows Departure.mixedOrders=true:=by kernel_rfl
 go_enter Tryz.func383,Tryz.ntmps383
 go_wp2_with (at_builtin;first|refine Zyv rfl (Z7z (t:=26) (t':=3) rfl rfl rfl hap) ?_|refine Zyv rfl (Z9x (t:=26) (t':=26) rfl rfl rfl (hcp1 _ rfl _ _)) ?_)
 go_region_law_o (refine Qsk rfl (Z9x (t:=26) (t':=26) rfl (by simp[Act.eval,Act.put]) (by simp[Act.eval,Act.put]) (hcp2 (W1.setRow g R1).drew (Eq.refl (W1.setRow g R1).heap) 3 (G- (i+m)) (c-i))) ?_)
 go_wp2
 go_ret
 exact⟨rfl,R1,R2,rfl,hf1,hf2⟩
theorem Xaj{t:Ty}(hT:TOK Tryz.prog 26 (.slice 96 t))(hT2:TOK Tryz.prog 96 t){w:World}{v vy:Value}{xs ys:List Value}{l l4:List t.den}{i:Nat}
  (hown:w.ownsRow 0 96 t.size v l.length xs) (hy:w.ownsRow 0 96 t.size vy l4.length ys) (hne:∀b,v.ownBlock=some b->vy.ownBlock≠some b) (hi:i<=l.length) (hm:0<l4.length) (hp:l.length+l4.length<=Qd)
  (h1:∀u∈xs,u.oneCell'=true) (h1v:∀u∈ys,u.oneCell'=true):
  Calls Tryz.prog 383 #[v,.int .i64 i,vy] w λe w'=> ∃v',e=.returned v'/\w'.ownsRow 0 96 t.size v' (l.length+l4.length) (xs.take (i*t.size)++ys++xs.drop (i*t.size))/\w.grownBy w' v.ownBlock/\(v'.ownBlock=v.ownBlock\/ ∀b,v'.ownBlock=some b->w.heap.size<=b):=by
 have hp':l.length+l4.length<=17179869184:=hp;obtain⟨hu,hpos⟩:=hT.slice;have zE:=λw=>hT2.sizeOf w;obtain⟨hyl,hy2⟩:=hy;rcases hy2 with⟨_,h0⟩|⟨vb,vc,vcur,rfl,_,hv,hmc,hvm,hvs,hvt⟩
 ·omega
 have hvs':l4.length*t.size<=vcur.size:=by rw[hvs];exact Nat.mul_le_mul_right _ hmc
 have ends:∀base n c,v=.slice base n c->n=l.length->n<=c->c<=maxLen->(base=none->n=0/\c=0)->i=n->Calls Tryz.prog 383 #[v,.int .i64 i,.slice (some ⟨vb,0,none⟩) l4.length vc] w λe w'=> ∃v',e=.returned v'/\w'.ownsRow 0 96 t.size v' (l.length+l4.length) (xs.take (i*t.size)++ys++xs.drop (i*t.size))/\w.grownBy w' v.ownBlock/\(v'.ownBlock=v.ownBlock\/ ∀b,v'.ownBlock=some b->w.heap.size<=b):=by
  rintro base n c rfl rfl hnc hc hnil rfl;obtain⟨v',w',g1,g2,g3,g4⟩:=Z5e hT hT2 hown (l4:=l4) (ys:=ys) ⟨some ⟨vb,0,none⟩,vc,rfl,hmc,.inr ⟨_,rfl,λj u hj=>by
   rw[<-hvt,List.getElem?_take]at hj;split at hj
   ·rw[Addr.add_lit];simp only[World.cell?,hv];simpa using hj
   ·cases hj⟩⟩ hyl h1v hp (Nat.zero_le _)
  refine(Xak t.size hpos zE base _ c vb _ vc w w' v' hm hnc hc hnil g1).mono λe w2 ⟨he,hw⟩=>?_;subst hw;refine⟨v',he,?_,g3,g4⟩;have e1:xs.take (l.length*t.size)=xs:=List.take_of_length_le (by rw[hown.1];exact Nat.le_refl _);have e2:xs.drop (l.length*t.size)=[]:=List.drop_of_length_le (by rw[hown.1];exact Nat.le_refl _);rw[e1,e2,List.append_nil];exact g2
 rcases hown.2 with⟨rfl,h0⟩|⟨b,c,cur,rfl,_,hb,hnc,hc,hcs,htk⟩
 ·exact ends none 0 0 rfl h0.symm (Nat.le_refl _) (Nat.zero_le _) (λ_=>⟨rfl,rfl⟩) (by omega)
 by_cases hin:i=l.length
 ·exact ends (some ⟨b,0,none⟩) l.length c rfl rfl hnc hc (λh=>by cases h) hin
 have hil:i<l.length:=by omega
 have hvb:vb≠b:=λe=>hne b rfl (by rw[e];rfl);have h1':∀u∈cur.toList.take (l.length*t.size),u.oneCell'=true:=by rw[htk];exact h1
 have h1v':∀u∈vcur.toList.take (l4.length*t.size),u.oneCell'=true:=by rw[hvt];exact h1v
 have hlen:(xs.take (i*t.size)++ys++xs.drop (i*t.size)).length=(l.length+l4.length)*t.size:=by
  have:i*t.size<=l.length*t.size:=Nat.mul_le_mul_right _ hi;simp only[List.length_append,List.length_take,List.length_drop,hown.1,hyl,Nat.add_mul];omega
 have hcap:l.length+l4.length<=maxLen:=by simp only[maxLen];omega
 by_cases hroom:l.length+l4.length<=c
 ·refine(Q3n t.size hpos zE b _ c i vb _ vc cur vcur 96 w hil hm hroom hc hvb hb hcs hv hvs' h1' h1v').mono ?_;rintro e w' ⟨he,R1,R2,rfl,hs,ht⟩;have hik:i*t.size<=l.length*t.size:=Nat.mul_le_mul_right _ hi;have hct:cur.toList.take (i*t.size)=xs.take (i*t.size):=by rw[<-htk,List.take_take,Nat.min_eq_left hik]
  rw[htk,hvt,hct]at ht;refine⟨_,he,⟨hlen,.inr ⟨b,c,R2,rfl,Nat.zero_le _,Qrf (Qrf (W:=w.drew) hb),hroom,hc,by rw[hs,hcs],ht⟩⟩,?_,.inl rfl⟩;refine⟨rfl,rfl,rfl,by rw[Q1h,Q1h];exact Nat.le_refl _,λx hx hne=>?_⟩;have:x≠b:=λe=>hne (by rw[e];rfl);rw[Qrg this,Qrg this];rfl
 ·obtain⟨i0,hi0,his,hby,hz0⟩:=hT2.size;have hzs:(Yz t (Zax t)).cells.size=t.size:=by rw[Z46 hT2.plain];simp[Z1v hT2.plain]
  have hbt:(l.length+l4.length)*i0.bytes<=140737488355328:=by
   have:(l.length+l4.length)*i0.bytes<=17179869184*8192:=Nat.mul_le_mul hp' hby;omega
  have hik:i*t.size<=l.length*t.size:=Nat.mul_le_mul_right _ hi;have hold:(Builtin.firstCells i0.size i (.slice (some ⟨b,0,none⟩) i c)).run Tryz.prog w.drew=.ok (xs.take (i*t.size)).toArray w.drew:=
   run_firstCells_some w.drew i0.size i ⟨b,0,none⟩ i c (xs.take (i*t.size)) (by rw[List.length_take,hown.1,his];omega) λj u hj=>by
    rw[List.getElem?_take]at hj;split at hj
    ·exact World.ownsRow.cells (w:=w) hown rfl j u hj
    ·cases hj
  have ek:i+(l.length+l4.length-i)=l.length+l4.length:=by omega
  have h48:(l.length+l4.length-i)*i0.bytes<=281474976710656:=by
   have:(l.length+l4.length-i)*i0.bytes<=(l.length+l4.length)*i0.bytes:=Nat.mul_le_mul_right _ (by omega);omega
  have hap:=Lib.run_append_grow_zeros (P:=Tryz.prog) w 26 3 26 96 i0 _ .i64 .i64 hu (by kernel_rfl) hi0 hz0 (some ⟨b,0,none⟩) i c _ hold (l.length+l4.length-i) (by omega) (by rw[his];exact hpos) (by omega)
   (by simp only[maxLen]at hcap;omega) h48 (by rw[ek];exact growslice_fits (by omega) hbt)
  rw[ek,show(((l.length+l4.length-i:Nat)):Int)=(l.length:Int)+(l4.length:Int)- (i:Int) by omega]at hap;have hge:=grownCap_ge w (l.length+l4.length) c 96;have hcm:grownCap w (l.length+l4.length) c 96<=maxLen:=grownCap_le_maxLen w (l.length+l4.length) c 96 hcap;generalize grownCap w (l.length+l4.length) c 96=G at hap hge hcm;obtain⟨ROW,hROW⟩:∃ROW:Array Value,ROW=(xs.take (i*t.size)).toArray++Builtin.zeroCells (Yz t (Zax t)).cells (l.length+l4.length-i)++Builtin.zeroCells (Yz t (Zax t)).cells (G- (l.length+l4.length)):=⟨_,rfl⟩
  rw[<-hROW]at hap;have hRs:ROW.size=G*t.size:=by
   have e3:i+(l.length+l4.length-i)+(G- (l.length+l4.length))=G:=by omega
   rw[<-e3,hROW];simp only[Array.size_append,List.size_toArray,size_zeroCells,hzs,List.length_take,hown.1,Nat.add_mul,Nat.min_eq_left hik]
  have hRt:ROW.toList.take (i*t.size)=xs.take (i*t.size):=by
   rw[hROW];simp only[Array.toList_append,List.append_assoc];rw[List.take_left' (by rw[List.length_take,hown.1];omega)]
  have hbw:b<w.heap.size:=by
   by_cases h:b<w.heap.size
   ·exact h
   ·rw[Array.getElem?_eq_none (by omega)]at hb;cases hb
  have hvw:vb<w.heap.size:=by
   by_cases h:vb<w.heap.size
   ·exact h
   ·rw[Array.getElem?_eq_none (by omega)]at hv;cases hv
  have hW1:∀x,x<w.heap.size->(w.drew.alloc (.cells ROW 96)).heap[x]? =w.heap[x]? :=λx hx=>heap_alloc_old w.drew _ hx;refine(Q6u t.size hpos zE b _ c i vb _ vc w.heap.size G cur vcur ROW 96 w (w.drew.alloc (.cells ROW 96)) hil hm hnc (by omega) hc hge hcm (by rw[hW1 b hbw];exact hb) hcs (by rw[hW1 vb hvw];exact hv) hvs' (heap_alloc_new w.drew _) hRs (by omega) (by omega) h1' h1v' hap).mono ?_;rintro e w' ⟨he,R1,R2,rfl,hs,ht⟩;rw[htk,hvt,hRt]at ht;refine⟨_,he,⟨hlen,.inr ⟨w.heap.size,G,R2,rfl,Nat.zero_le _,Qrf (W:=((w.drew.alloc (.cells ROW 96)).setRow w.heap.size R1).drew) (Qrf (heap_alloc_new w.drew _)),hge,hcm,by rw[hs,hRs],ht⟩⟩,?_,.inr λb' hb'=>?_⟩
  ·refine⟨rfl,rfl,rfl,?_,λx hx hne=>?_⟩
   ·rw[Q1h];show w.heap.size<=((w.drew.alloc (.cells ROW 96)).setRow w.heap.size R1).heap.size;rw[Q1h];simp[World.alloc]
   ·have:x≠w.heap.size:=by omega
    rw[Qrg this];show((w.drew.alloc (.cells ROW 96)).setRow w.heap.size R1).heap[x]? =_;rw[Qrg this];exact hW1 x hx
  ·simp only[Value.ownBlock,Osi]at hb';omega
abbrev Qk8:FnB:=⟨383,[.mv (.slice 96 (Zu)),.sh (.int .i64),.mv (.slice 96 (Zu))],.vals [.slice 96 (Zu)],u3 Q6s⟩
theorem Qis:Z31 Tryz.prog glob Qk8:=Z31.insert Tryz.call383 λh1 h2 h3 h4 h5 h6 h7 h8=>Xaj Q8r Q8s h1 h2 h3 h4 h5 h6 h7 h8
theorem Qf4:okE ⟨346,[.slice 96 (Zu),Zu],[.slice 96 (Zu)],u2 Znc⟩:=
 ofE (Za Zzp (Za Zfa (Za Z06 (Za Zec Zh)))) (Zy Qis Zd) func346 call346 (.seq .leaf (.seq .leaf (.seq .leaf (.seq .leaf (.join [.shp 3 (Zu),.val 5 (.slice 96 (Zu)) (.u true),pV 7 tI] (u3 Zla) .leaf .leaf))))) (λv=>by kernel_rfl)
abbrev Zby:FnB:=⟨284,[.bx 37 (Zq) (.u true),.sh (.int .i64)],.vals [.int .i64],u2 Zcd⟩
theorem Zsx:okB Zby:=
 ofB [0] (Za Zfa (Za Zxx (Za Qle (Za Qim (Za Qf0 (Za Qf4 Zh)))))) (Zy Zwv Zd) func284 call284 (.seq .leaf (.seq .leaf (.seq .leaf (.join [.box 0 37 (Zq) (.u true),pV 1 tI,.box 5 34 (Qq) (.u false),pV 6 tI,pV 7 .bool] (u5 Jo) .leaf (.seq .leaf (.join [.box 0 37 (Zq) (.p (.u false) (.p (.u false) (.p (.u false) (.p (.u true) (.p (.u false) (.p (.u false) (.p (.u false) (.p (.u false) (.p (.u false) (.p (.u false) (.u true))))))))))),pV 1 tI,pV 6 tI] (u3 Zhq) .leaf (.seq (.seq .leaf (.block (.loop [.box 0 37 (Zq) (.p (.u false) (.p (.u false) (.p (.u false) (.p (.u true) (.p (.u false) (.p (.u false) (.p (.u false) (.p (.u false) (.p (.u false) (.p (.u false) (.u true))))))))))),pV 1 tI,pV 8 tI] (λN=>u3 (Zdt N)) (u3 Zl1) (λK1=>(.seq .leaf (.seq (.block (.join [.box 0 37 (Zq) (.p (.u false) (.p (.u false) (.p (.u false) (.p (.u true) (.p (.u false) (.p (.u false) (.p (.u false) (.p (.u false) (.p (.u false) (.p (.u false) (.u true))))))))))),pV 1 tI,pV 8 tI,.box 9 96 (Zu) (.u true)] (u4 (Zss K1)) .leaf .leaf)) .leaf)))))) .leaf))))))) ⟨(λv=>by kernel_rfl),(λv=>by kernel_rfl),λ_=>rfl,λN=>⟨(λv=>by kernel_rfl),λv=>by kernel_rfl⟩⟩
abbrev Zyy:FnE:=⟨288,[Qi,.int .i64],[.int .i64],u2 Zs8⟩
theorem Qii:okE Zyy:=
 ofE (Za Zjj (Za Ka Zh)) Zd func288 call288 .leaf
abbrev Z0o:FnE:=⟨289,[Xr],[.int .i64],u1 Zok⟩
theorem Qlf:okE Z0o:=
 ofE (Za Ziv Zh) Zd func289 call289 .leaf
theorem Zzo:okE ⟨290,[Qi,.int .i64,.bool],[.bool],u3 Zr5⟩:=
 ofE Zh Zd func290 call290 .leaf
theorem Z3r:okE ⟨224,[Qi],[.bool],u1 Zt6⟩:=
 ofE Zh Zd func224 call224 .leaf
open Go.RowKit Go.Sort Go.Shelf Go.Lib in
theorem Xbk(x1 y1:Int)(x2 y2:List UInt8)(W:World)(h1:0<=x1)(h2:x1<=4611686018427387904)(h3:0<=y1)(h4:y1<=4611686018427387904):
  Calls Tryz.prog 351 #[.agg #[.int .i64 x1,.string ⟨⟨x2⟩⟩],.agg #[.int .i64 y1,.string ⟨⟨y2⟩⟩]] W λen w'=>en=.returned (.int .i64 (x1-y1))/\ ∃q os',w'=grow (W.drewN q) os':=by
 have hw:IntKind.i64.wrap (x1-y1)=x1-y1:=by rw[IntKind.wrap_i64];omega
 go_enter Tryz.func351,Tryz.ntmps351
 go_wp2
 go_ret
 exact⟨rfl,0,_,by rw[alloc_eq_grow,alloc_eq_grow,grow_grow];rfl⟩
abbrev Z2d:FnL:={f:=350,e:=268,t:=Zf2,args:=[.fnc 351],res:=[],F:=λl _=>Qsh l}
theorem Qdh:Qej Tryz.prog glob Z2d:=Qej.sort Tryz.call350 (λp cap fv w=>Go.Proofs.AnyF.slices_SortFunc_none Tryz.sortLaid p cap fv w)
  (λα _ enc c blk cap d w hk h1 hO hT hcmp hH hblk hsz=>Go.Proofs.AnyQ.slices_SortFunc_total Tryz.sortLaid 2 (λw=>by kernel_rfl) (λw=>by kernel_rfl) enc hk h1 c hO 351 #[] blk 0 cap d w (λ_ _=>Tryz.call351 _ _) hcmp hH hblk hsz hT)
  (λx y W h1 h2 h3 h4=>Xbk x.1 y.1 x.2.1 y.2.1 W h1 h2 h3 h4)
abbrev Qbw:FnE:=⟨352,[.slice 268 (Zf2)],[.slice 268 (Zf2)],u1 Zus⟩
theorem Qow:okE Qbw:=
 ofE (Za Zqc Zh) Zd func352 call352 (.seq .leaf (.seq .leaf (.seq (.seq .leaf (.block (.loop [.val 3 (.slice 268 (Zf2)) (.u true),pV 8 (.slice 268 (Zf2)),pV 9 tI,pV 10 tI] (λN=>u4 (Zjg N)) (u4 Zsw) (λK1=>.leaf)))) .leaf))) ⟨λ_=>rfl,λN v=>by kernel_rfl⟩
abbrev Zzu:Zvd:={f:=348,n:=27,np:=6,rv:=Tryz.f348.results.toList,run:=λln _ k s=>Vo (Ziq [] ln [] [] [] []) 27 (Zam Tryz.f348) .leaf k s}
theorem Z8a:Zay Tryz.prog glob Zzu:=Zay.of (C:=Ziq [] [] [] [] [] []) (λln=>Ws (ln:=ln) Jh rfl Zh Kq Zd Kr) Tryz.func348 rfl Tryz.call348 (by decide) rfl rfl (λ_ _ _=>rfl)
abbrev Z18:FnE:=⟨291,[Xe,.int .i64,.str],[Xe],u3 Ztm⟩
theorem Qc6:Zn8 Tryz.prog glob Z18:=by
 refine Zn8.of (e:=Z18) (C:=Ziq [Zzu] [] [Z6q,Z2c,Z34,Qbw] [Z2d] [] []) (Ws (Xs Z8a Jh) rfl (Za Zr8 (Za Z05 (Za Zqc (Za Qow Zh)))) (Q3f Qdh Kq) Zd Kr) rfl Tryz.func291 (c:=Zam Tryz.f291) rfl Tryz.call291 (by decide)
  ((.seq .leaf (.seq .leaf (.join [.box 3 90 (Xe) (.u false),.box 4 3 (.int .i64) (.u false),.box 5 9 (.str) (.u false),.box 6 90 (Xe) (.u true),.box 7 3 (.int .i64) (.u false),.box 8 3 (.int .i64) (.u false)] (λv=>Zt5 v.1 v.2.1 v.2.2.1 v.2.2.2.1 v.2.2.2.2.1 v.2.2.2.2.2.1) .leaf (.seq .leaf (.seq .leaf (.seq (.seq .leaf (.block (.loop [.box 3 90 (Xe) (.u false),.box 4 3 (.int .i64) (.u false),.box 5 9 (.str) (.u false),.box 6 90 (Xe) (.u true),.box 7 3 (.int .i64) (.u false),.box 8 3 (.int .i64) (.u false),.box 9 88 (.slice 268 (Zf2)) (.u true),.clo 10 348 [7,8,9,5,4],pV 53 (.slice 268 (Zf2)),pV 54 tI,pV 55 tI] (λN v=>Ze8 N v.1 v.2.1 v.2.2.1 v.2.2.2.1 v.2.2.2.2.1 v.2.2.2.2.2.1 v.2.2.2.2.2.2.1 v.2.2.2.2.2.2.2.1 v.2.2.2.2.2.2.2.2.1 v.2.2.2.2.2.2.2.2.2.1) (λv=>Zm7 v.1 v.2.1 v.2.2.1 v.2.2.2.1 v.2.2.2.2.1 v.2.2.2.2.2.1 v.2.2.2.2.2.2.1 v.2.2.2.2.2.2.2.1 v.2.2.2.2.2.2.2.2.1 v.2.2.2.2.2.2.2.2.2.1) (λK1=>.leaf)))) .leaf))))))) ?_ ?_
 ·exact⟨lf,lf,lf,(λv=>by kernel_rfl),lf,lf,⟨lf,λ_=>rfl,λN=>⟨(λv=>by kernel_rfl),lf⟩⟩,lf⟩
 ·intro xs r h;refine Eq.trans (Eq.symm ?_) h;kernel_rfl
abbrev Zt2:FnE:=⟨180,[Qi,.int .i64,.str,.bool],[Qi,.int .i64],u4 Zr2⟩
theorem Qat:okE Zt2:=
 ofE (Za Zq7 (Za Zjj (Za Zzo (Za Z3r (Za Qc6 (Za Z4s Zh)))))) Zd func180 call180 (.seq .leaf (.seq .leaf (.seq .leaf (.seq .leaf (.seq .leaf (.seq .leaf (.seq .leaf (.join [pV 1 tI,pV 2 .str,.box 4 92 (Qi) (.u false),.box 8 92 (Qi) (.u true),.box 10 92 (Qi) (.p (.u false) (.p (.u true) (.u false)))] (u5 Zht) .leaf (.seq .leaf (.join [.box 8 92 (Qi) (.u true),.box 10 92 (Qi) (.p (.u false) (.p (.u true) (.u false)))] (u2 Zsu) .leaf .leaf)))))))))) ⟨(λv=>by kernel_rfl),λv=>by kernel_rfl⟩
abbrev Zyz:FnE:=⟨293,[Xr,.int .i64],[Xr,.bool],u2 Zl5⟩
theorem Qil:okE Zyz:=
 ofE (Za Ziv (Za Qp Zh)) Zd func293 call293 .leaf
theorem Qc9:okE ⟨354,[Zu],[.bool],u1 Zy5⟩:=
 ofE Zh Zd func354 call354 .leaf
theorem Qc7:okE ⟨386,[Qi],[.bool],u1 Zy4⟩:=
 ofE (Za Zjj Zh) Zd func386 call386 .leaf
theorem Qc8:okE ⟨355,[Zu],[.bool],u1 Ztn⟩:=
 ofE (Za Qc7 Zh) Zd func355 call355 .leaf
abbrev Z3i:FnE:=⟨294,[Zu],[.bool],u1 Zk8⟩
theorem Qov:okE Z3i:=
 ofE (Za Z4q (Za Qc9 (Za Qc8 Zh))) Zd func294 call294 .leaf
abbrev Zyx:FnE:=⟨295,[Qq],[Qq,.bool],u1 Q1⟩
theorem Qid:okE Zyx:=
 ofE (Za Ztr Zh) Zd func295 call295 .leaf
abbrev Znl:Zvd:={f:=177,n:=18,np:=3,rv:=Tryz.f177.results.toList,run:=λln _ k s=>Vo (Ziq [] ln [Zho] [] [Zby] []) 18 (Zam Tryz.f177) .leaf k s}
theorem Z2k:Zay Tryz.prog glob Znl:=Zay.of (C:=Ziq [] [] [Zho] [] [Zby] []) (λln=>Ws (ln:=ln) Jh rfl (Za Zq5 Zh) Kq (Zy Zsx Zd) Kr) Tryz.func177 rfl Tryz.call177 (by decide) rfl rfl (λ_ _ _=>rfl)
abbrev Vs:Zvd:={f:=70,n:=16,np:=2,rv:=Tryz.f70.results.toList,run:=λln _ k s=>Vo (Ziq [] ln [Zp3] [] [] []) 16 (Zam Tryz.f70) .leaf k s}
theorem Zkp:Zay Tryz.prog glob Vs:=Zay.of (C:=Ziq [] [] [Zp3] [] [] []) (λln=>Ws (ln:=ln) Jh rfl (Za Zfa Zh) Kq Zd Kr) Tryz.func70 rfl Tryz.call70 (by decide) rfl rfl (λ_ _ _=>rfl)
abbrev Zlg:Zvd:={f:=179,n:=32,np:=3,rv:=Tryz.f179.results.toList,run:=λln _ k s=>Vo (Ziq [] ln [Zyy,Z0o] [] [] []) 32 (Zam Tryz.f179) .leaf k s}
theorem Z0w:Zay Tryz.prog glob Zlg:=Zay.of (C:=Ziq [] [] [Zyy,Z0o] [] [] []) (λln=>Ws (ln:=ln) Jh rfl (Za Qii (Za Qlf Zh)) Kq Zd Kr) Tryz.func179 rfl Tryz.call179 (by decide) rfl rfl (λ_ _ _=>rfl)
abbrev Zo8:Zvd:={f:=181,n:=30,np:=3,rv:=Tryz.f181.results.toList,run:=λln _ k s=>Vo (Ziq [] ln [Zyz] [] [] []) 30 (Zam Tryz.f181) .leaf k s}
theorem Z4i:Zay Tryz.prog glob Zo8:=Zay.of (C:=Ziq [] [] [Zyz] [] [] []) (λln=>Ws (ln:=ln) Jh rfl (Za Qil Zh) Kq Zd Kr) Tryz.func181 rfl Tryz.call181 (by decide) rfl rfl (λ_ _ _=>rfl)
abbrev Vb:Zvd:={f:=182,n:=43,np:=2,rv:=Tryz.f182.results.toList,run:=λln _ k s=>Vo (Ziq [Vs] ln [Z5k,Z3i,Zyx] [] [Zqq] []) 43 (Zam Tryz.f182) .leaf k s}
theorem Zng:Zay Tryz.prog glob Vb:=Zay.of (C:=Ziq [Vs] [] [Z5k,Z3i,Zyx] [] [Zqq] []) (λln=>Ws (ln:=ln) (Xs Zkp Jh) rfl (Za Zxx (Za Qov (Za Qid Zh))) Kq (Zy Zwv Zd) Kr) Tryz.func182 rfl Tryz.call182 (by decide) rfl rfl (λ_ _ _=>rfl)
abbrev Zmp:Zvd:={f:=176,n:=64,np:=2,rv:=Tryz.f176.results.toList,run:=λln _ k s=>Vo (Ziq [Znl,Vs,Zlg,Zo8,Vb] ln [Zt2] [] [] []) 64 (Zam Tryz.f176) .leaf k s}
theorem Zyj:Zay Tryz.prog glob Zmp:=Zay.of (C:=Ziq [Znl,Vs,Zlg,Zo8,Vb] [] [Zt2] [] [] []) (λln=>Ws (ln:=ln) (Xs Z2k (Xs Zkp (Xs Z0w (Xs Z4i (Xs Zng Jh))))) rfl (Za Qat Zh) Kq Zd Kr) Tryz.func176 rfl Tryz.call176 (by decide) rfl rfl (λ_ _ _=>rfl)
abbrev Z88:Zvd:={f:=175,n:=36,np:=4,rv:=Tryz.f175.results.toList,run:=λln _ k s=>Vo (Ziq [Zmp] ln [Zc3,Zc7,Vn] [] [] []) 36 (Zam Tryz.f175) .leaf k s}
theorem Qld:Zay Tryz.prog glob Z88:=Zay.of (C:=Ziq [Zmp] [] [Zc3,Zc7,Vn] [] [] []) (λln=>Ws (ln:=ln) (Xs Zyj Jh) rfl (Za Zbk (Za Zd3 (Za Vy Zh))) Kq Zd Kr) Tryz.func175 rfl Tryz.call175 (by decide) rfl rfl (λ_ _ _=>rfl)
abbrev Z16:FnE:=⟨100,[Zq,Zt],[Zq,.int .i64],u2 Ztk⟩
theorem Qc4:Zn8 Tryz.prog glob Z16:=by
 refine Zn8.of (e:=Z16) (C:=Ziq [Zmp,Z88] [] [] [] [] []) (Ws (Xs Zyj (Xs Qld Jh)) rfl Zh Kq Zd Kr) rfl Tryz.func100 (c:=Zam Tryz.f100) rfl Tryz.call100 (by decide)
  (.leaf) ?_ ?_
 ·exact lf
 ·intro xs r h;refine Eq.trans (Eq.symm ?_) h;kernel_rfl
abbrev Zsr:FnE:=⟨184,[Qi,.int .i64,.int .i64],[Qi,.int .i64],u3 Zqa⟩
theorem Z8q:okE Zsr:=
 ofE (Za Zq7 (Za Zjj (Za Ka (Za Zzo (Za Z3r Zh))))) Zd func184 call184 .leaf
abbrev Zw4:FnE:=⟨297,[Xr,.int .i64],[Xr,.bool],u2 Zje⟩
theorem Qf5:okE Zw4:=
 ofE (Za Ziv (Za Qp Zh)) Zd func297 call297 .leaf
abbrev Zra:Zvd:={f:=185,n:=38,np:=3,rv:=Tryz.f185.results.toList,run:=λln _ k s=>Vo (Ziq [] ln [Zw4] [] [] []) 38 (Zam Tryz.f185) .leaf k s}
theorem Z66:Zay Tryz.prog glob Zra:=Zay.of (C:=Ziq [] [] [Zw4] [] [] []) (λln=>Ws (ln:=ln) Jh rfl (Za Qf5 Zh) Kq Zd Kr) Tryz.func185 rfl Tryz.call185 (by decide) rfl rfl (λ_ _ _=>rfl)
abbrev Zli:Zvd:={f:=183,n:=76,np:=2,rv:=Tryz.f183.results.toList,run:=λln _ k s=>Vo (Ziq [Znl,Vs,Zlg,Zo8,Zra,Vb] ln [Zsr] [] [] []) 76 (Zam Tryz.f183) .leaf k s}
theorem Zwt:Zay Tryz.prog glob Zli:=Zay.of (C:=Ziq [Znl,Vs,Zlg,Zo8,Zra,Vb] [] [Zsr] [] [] []) (λln=>Ws (ln:=ln) (Xs Z2k (Xs Zkp (Xs Z0w (Xs Z4i (Xs Z66 (Xs Zng Jh)))))) rfl (Za Z8q Zh) Kq Zd Kr) Tryz.func183 rfl Tryz.call183 (by decide) rfl rfl (λ_ _ _=>rfl)
abbrev Z43:Zvd:={f:=175,n:=36,np:=4,rv:=Tryz.f175.results.toList,run:=λln _ k s=>Vo (Ziq [Zli] ln [Zc3,Zc7,Vn] [] [] []) 36 (Zam Tryz.f175) .leaf k s}
theorem Qff:Zay Tryz.prog glob Z43:=Zay.of (C:=Ziq [Zli] [] [Zc3,Zc7,Vn] [] [] []) (λln=>Ws (ln:=ln) (Xs Zwt Jh) rfl (Za Zbk (Za Zd3 (Za Vy Zh))) Kq Zd Kr) Tryz.func175 rfl Tryz.call175 (by decide) rfl rfl (λ_ _ _=>rfl)
abbrev Z0n:FnE:=⟨101,[Zq,Zt],[Zq,.int .i64],u2 Zrz⟩
theorem Qao:Zn8 Tryz.prog glob Z0n:=by
 refine Zn8.of (e:=Z0n) (C:=Ziq [Zli,Z43] [] [] [] [] []) (Ws (Xs Zwt (Xs Qff Jh)) rfl Zh Kq Zd Kr) rfl Tryz.func101 (c:=Zam Tryz.f101) rfl Tryz.call101 (by decide)
  (.leaf) ?_ ?_
 ·exact lf
 ·intro xs r h;refine Eq.trans (Eq.symm ?_) h;kernel_rfl
theorem Zxc:okE ⟨233,[Z1],[.bool],u1 Zl6⟩:=
 ofE (Za Z4p (Za Qp Zh)) Zd func233 call233 .leaf
abbrev Zt3:FnE:=⟨188,[Z1,.int .i64],[Z1,.bool],u2 Zr4⟩
theorem Qav:okE Zt3:=
 ofE (Za Zxc (Za Ka (Za Zt8 Zh))) Zd func188 call188 (.seq .leaf (.seq .leaf (.join [pV 1 tI,.box 2 87 (Z1) (.u false),.box 4 87 (Z1) (.u true),.box 6 84 (Wh) (.p (.u false) (.p (.u false) (.p (.u false) (.p (.u true) (.u false)))))] (u4 Zsv) .leaf .leaf))) (λv=>by kernel_rfl)
end
end Go.Proofs.YtfhellopliifdaaGreat

/- FnHandles returns true for all arguments. No condition. -/
import Derived.Test.YtmlpcjbkbnkajaaGreatK2
import Derived.Test.YtmlpcjbkbnkajaaGreatP3
import Derived.KernelRfl
namespace Go.Proofs.YtmlpcjbkbnkajaaGreat
open Go.Am Go.ChangeShapes Go.WideShapes Go.ChangeAt Go.RowKit
set_option linter.unusedVariables false
structure DQ(c:Zg)(f:Zl):Prop where
 inv:Qe 30000 c
 fok:FOK f
 key: ∃v,KC v c
theorem Qsz(code:List Int)(h:code.length<=1048576)(kind:Int):T (Zjo code kind) fun r=>DQ r.1.1 r.1.2.1:=by
 obtain⟨c,e,hc⟩:=Qsw code h;have j: ∀t g x f,DQ x f->T (Zke t g x f) fun r=>DQ r.1.1 r.1.2.1:=fun t g x f hq=>by
  unfold Zke;exact T.pure hq
 unfold Zjo;rw[e,Obs];refine((Q3y c hc).pc (Xak c)).bind fun x hx=>(Qtn _ hx.1.1).bind fun t1 h1=>(Zjt _ _ h1.1).bind fun t2 h2=>(Q40 _ 5 h2.1 (by omega)).bind fun t3 h3=>(Qet _ _ h3.1).bind fun t4 h4=>(Zjt _ _ h4).bind fun t5 h5=>(Zjt _ _ h5.1).bind fun t6 h6=>(Zjt _ _ h6.1).bind fun t7 h7=>(Zjt _ _ h7.1).bind fun t8 h8=>(Q31 _ ?_).bind fun t9 h9=>(Qet _ _ h8.1).bind fun t10 h10=>T.if ((Zuy _ _ h10 (by decide)).bind fun t11 h11=>j _ _ _ _ ⟨hx.1.2,h9,hx.2⟩) (j _ _ _ _ ⟨hx.1.2,h9,hx.2⟩);have:=h3.2;unfold FOK;simp only;omega
theorem Q24(code:List Int)(h:code.length<=1048576):T (Zg6 code) fun r=>DQ r.1.1 r.1.2.1:=by
 unfold Zg6;exact(Qsz code h _).bind fun t ht=>T.pure ht
theorem Q0v(code:List Int)(h:code.length<=1048576):T (Zf4 code) fun r=>DQ r.1.1 r.1.2.1:=by
 unfold Zf4;exact(Qsz code h _).bind fun t ht=>T.pure ht
theorem Q25(code:List Int)(h:code.length<=1048576):T (Zg7 code) fun r=>DQ r.1.1 r.1.2.1:=by
 unfold Zg7;exact(Qsz code h _).bind fun t ht=>T.pure ht
theorem Q0u(code:List Int)(h:code.length<=1048576):T (Zf3 code) fun r=>DQ r.1.1 r.1.2.1:=by
 obtain⟨c,e,hc⟩:=Qsw code h;unfold Zf3;rw[e,Obs];exact(Zuy _ _ hc (by decide)).bind fun t1 h1=>(Qsz code h _).bind fun t ht=>T.pure ht
theorem Xaz(c:Qx)(hc:Wf c):T (Zzu c) fun r=>FOK r.1.1:=by
 unfold Zzu;exact(Qtn c hc).bind fun t1 h1=>(Zjt _ _ h1.1).bind fun t2 h2=>T.if ((Zuy _ _ h2.1 (by decide)).bind fun t3 h3=>T.pure h1.2) (T.if ((Zuy _ _ h2.1 (by decide)).bind fun t3 h3=>T.pure h1.2) (T.if ((Zuy _ _ h2.1 (by decide)).bind fun t3 h3=>T.pure h1.2) (T.if ((Zuy _ _ h2.1 (by decide)).bind fun t3 h3=>T.pure h1.2) (T.pure h1.2))))
theorem Q0t(code:List Int)(h:code.length<=1048576):T (Zf2 code) fun r=>DQ r.1.1 r.1.2.1:=by
 obtain⟨c,e,hc⟩:=Qsw code h;unfold Zf2;rw[e,Obs];exact((Q3y c hc).pc (Xak c)).bind fun x hx=>(Xaz _ hx.1.1).bind fun t1 h1=>T.pure ⟨hx.1.2,h1,hx.2⟩
theorem Qoy{c:Zg}{f:Zl}{g can:Bool}{k:Zg->Zg×Int×Unit}(hk: ∀x,(k x).2.1≠0->(k x).1=c)(h: (pre c f g can k).2.1≠0): (pre c f g can k).1=c:=by
 unfold pre at h⊢;cases hG: (Ztr c&&Yo f)&&g
 ·rfl
 cases can
 ·rfl
 cases h0: (Zd7 c f.2.1).1==0
 ·rfl
 ·rw[hG,h0]at h;exact hk _ h
theorem Qdu{v:Bool}{c:Zg}{f:Zl}{g can:Bool}{k:Zg->Zg×Int×Unit}(D:Qe 30000 c)(kc:KC v c)(hk: ∀x,EnF 30000 x f.2.1->KC v x->g=true->can=true->Yo f=true->(k x).2.1=0->Zx6 (k x).1)(h: (pre c f g can k).2.1=0):Zx6 (pre c f g can k).1:=by
 unfold pre at h⊢;cases hc:Ztr c
 ·rw[hc]at h;cases h
 cases hf:Yo f
 ·rw[hc,hf]at h;cases h
 cases g
 ·rw[hc,hf]at h;cases h
 cases can
 ·rw[hc,hf]at h;cases h
 rw[hc,hf]at h;cases h0: (Zd7 c f.2.1).1==0
 ·rw[h0]at h;have h: (Zd7 c f.2.1).1=0:=h;rw[h]at h0;cases h0
 ·rw[h0]at h;have q:=(okF hf).1;have e:=Zs7 D hc (by omega) (by omega) q (by simpa using h0);exact hk _ ⟨Zs8 D hc (by omega) (by omega) q,e.1,e.2.1⟩ (Q5p D hc (by omega) (by omega) q kc) rfl rfl hf h
structure HF(c y:Zg)(e:Int):Prop where
 eq:Ym y y=some (true,())
 ne: (e !=0)=true->Ym y c=some (true,())
 ok: (e==0)=true->Zaq y=some (true,())
theorem HF.of{K:Nat}{c y:Zg}{e:Int}(D:Qe 30000 c)(h:Qe K y)(hK:K<=1000000)(h1:e≠0->y=c)(h2:e=0->Zx6 y):HF c y e:=by
 refine⟨Q7v h hK,fun he=> ?_,fun he=> ?_⟩
 ·rw[h1 (by simpa using he)];exact Q7v D (by omega)
 ·rw[Qcm h hK,Qpy h hK,(Q2u h hK).2 (h2 (by simpa using he))]
theorem Q22{c:Zg}{f:Zl}(x:Zg)(h: (Zu8 c f x).2.1≠0): (Zu8 c f x).1=c:=by
 unfold Zu8 at h⊢;cases hb:flB x (atV x f.2.1) (nbV (atV x f.2.1).2.2.2.1 (IntKind.i64.wrap (f.2.2.1+ (f.2.2.2.1.length:Int))))
 ·rfl
 rw[hb]at h;cases hv: (Qwv (Yn (atV x f.2.1).2.2.2.1 f.2.2.1 f.2.2.2.1 f.2.2.2.2.1)).2.1==0
 ·rfl
 ·rw[hv]at h;exact absurd rfl h
theorem Q6x{c:Zg}{f:Zl}(x:Zg)(h: (Qd1 c f x).2.1≠0): (Qd1 c f x).1=c:=by
 unfold Qd1 at h⊢;cases hb:flB x (atV x f.2.1) (Zu3 x f)
 ·rfl
 rw[hb]at h;cases hv: (Qhm x f).2.1==0
 ·rfl
 ·rw[hv]at h;revert h;simp only[Oct];cases ((Qhm x f).1.1==4)&& ((atV x f.2.1).2.2.2.1.1 !=4)<;>exact fun h=>absurd rfl h
theorem Q63{c:Zg}{f:Zl}(x:Zg)(h: (Qh2 f x).2.1≠0): (Qh2 f x).1=c:=by
 unfold Qh2 at h;cases hb: (Quh x f).2.1<;>(rw[hb]at h;exact absurd rfl h)
theorem Q20{c:Zg}{f:Zl}(D:DQ c f):HF c (pre c f (f.1==8) (Zup c.1 f.2.1) (Zu8 c f)).1 (pre c f (f.1==8) (Zup c.1 f.2.1) (Zu8 c f)).2.1:=by
 obtain⟨v,kc⟩:=D.key;obtain⟨y,e,hy⟩:=Qnz D.inv D.fok (by omega) (by omega);rw[Q21 D.inv D.fok (by omega) (by omega)]at e;cases e;have:=D.fok;unfold FOK at this;refine HF.of D.inv hy (by omega) (Qoy Q22) (Qdu D.inv kc fun x E k h8 hr hk h0=>Q23 E k (by omega) hk (by simpa using h8) (by rw[<-kc.sv];exact hr) h0)
theorem Q8b{c:Zg}{f:Zl}(D:DQ c f):HF c (pre c f (f.1==4) (Zup c.1 f.2.1) (Qd1 c f)).1 (pre c f (f.1==4) (Zup c.1 f.2.1) (Qd1 c f)).2.1:=by
 obtain⟨v,kc⟩:=D.key;obtain⟨y,e,hy⟩:=Qio D.inv D.fok (by omega) (by omega);rw[Q9p D.inv D.fok (by omega) (by omega)]at e;cases e;have:=D.fok;unfold FOK at this;refine HF.of D.inv hy (by omega) (Qoy Q6x) (Qdu D.inv kc fun x E k _ hr hk h0=>Q6y E k (by omega) (by rw[<-kc.sv];exact hr) h0)
theorem Q8d{c:Zg}{f:Zl}(D:DQ c f):HF c (pre c f (f.1==5) (Qd7 c.1 f.2.1) (Qh2 f)).1 (pre c f (f.1==5) (Qd7 c.1 f.2.1) (Qh2 f)).2.1:=by
 obtain⟨v,kc⟩:=D.key;obtain⟨y,e,hy⟩:=Qn0 D.inv D.fok (by omega) (by omega);rw[Q9t D.inv D.fok (by omega) (by omega)]at e;cases e;have:=D.fok;unfold FOK at this;refine HF.of D.inv hy (by omega) (Qoy Q63) (Qdu D.inv kc fun x E k _ hr hk h0=>Q64 E k (by omega) (by rw[<-kc.sv];exact hr))
theorem Q72{c:Zg}{f:Zl}(D:DQ c f):HF c (Qqt c f).1 (Qqt c f).2.1:=by
 obtain⟨v,kc⟩:=D.key;obtain⟨y,e,hy⟩:=Qin D.inv D.fok (by omega) (by omega);rw[Q87 D.inv D.fok (by omega) (by omega)]at e;cases e;have hF:=D.fok;unfold FOK at hF;refine HF.of D.inv hy (by omega) ?_ ?_
 ·unfold Qqt;cases f.1==17
  ·cases f.1==21
   ·simp only[Ocf];cases Ztr c&&Yo f
    ·exact fun _=>rfl
    cases f.1==16
    ·cases f.1==18
     ·cases (f.1==20)|| (f.1==22)<;>exact fun _=>rfl
     ·exact fun h=>absurd rfl h
    ·exact fun h=>absurd rfl h
   ·exact Qoy (k:=fun x=>(x,0,())) fun x h=>absurd rfl h
  ·exact Qoy (k:=mlX f) fun x h=>absurd rfl h
 ·unfold Qqt;cases f.1==17
  ·cases f.1==21
   ·simp only[Ocf];cases hc:Ztr c
    ·intro h;cases h
    have C:=(Q2u D.inv (by omega)).1 hc;have L:=C.LF D.inv (by omega);have hl:=(Qwq.1 C.sts).len;have t:=Qsu.1 C.tot;have a1:=Z7d.1 C.ab;have a2:=Z7d.1 C.au;have w:=Zu1.1 C.inf;cases Yo f
    ·intro h;cases h
    cases f.1==16
    ·cases f.1==18
     ·cases (f.1==20)|| (f.1==22)
      ·intro h;cases h
      ·exact fun _=>C
     ·refine fun _=> ?_;show Zx6 (Q2s c f.2.2.2.2.2.2.2.2.1 f.2.2.2.2.2.2.1);unfold Q2s;cases f.2.2.2.2.2.2.2.2.1
      ·exact Qiw C (by omega) rfl rfl L hl t w (Qmi C.ob _) C.ou a1 a2 rfl
      ·exact Qiw C (by omega) rfl rfl L hl t w C.ob (Qmi C.ou _) a1 a2 rfl
    ·refine fun _=> ?_;obtain⟨t1,t2⟩:=Qmn t f.2.2.2.2.2.2.1;exact Qiw C (by omega) rfl rfl (L.mono (Int.le_of_eq t2.symm) (Int.le_refl _)) hl t1 w C.ob C.ou a1 a2 rfl
   ·exact Qdu (k:=fun x=>(x,0,())) D.inv kc fun x E k _ _ _ _=>E.con
  ·exact Qdu (k:=mlX f) D.inv kc fun x E k _ _ _ _=>Q9c E (by omega)
theorem Xav{c:Zg}{f:Zl}(D:DQ c f):HF c (Qva c f).1 (Qva c f).2.1:=by
 unfold Qva;cases h8:f.1==8
 ·cases h4:f.1==4
  ·cases h5:f.1==5
   ·exact Q72 D
   ·have:=Q8d D;rw[h5]at this;exact this
  ·have:=Q8b D;rw[h4]at this;exact this
 ·have:=Q20 D;rw[h8]at this;exact this
theorem Q0o{β:Type}{b:Bool}{m:Option (Bool×Unit)}{k:Bool×Unit->Option β}(h:b=true->m=some (true,())):Option.bind (bif b then m else some (false,())) k=k (b,()):=by
 cases b
 ·rfl
 ·rw[h rfl];rfl
theorem Q6j(code:List Int):Zpk code=some (true,()):=by
 unfold Zpk Qod;rw[Obs];by_cases hb:code.length>1048576
 ·rw[Zn (Zj (by omega))]
 rw[Zm (Zk (by omega))];have hl:code.length<=1048576:=by omega
 obtain⟨⟨⟨c1,f1,u1⟩,w1⟩,e1,D1⟩:=Q24 code hl;obtain⟨⟨⟨c2,f2,u2⟩,w2⟩,e2,D2⟩:=Q0v code hl;obtain⟨⟨⟨c3,f3,u3⟩,w3⟩,e3,D3⟩:=Q25 code hl;obtain⟨⟨⟨c4,f4,u4⟩,w4⟩,e4,D4⟩:=Q0u code hl;obtain⟨⟨⟨c5,f5,u5⟩,w5⟩,e5,D5⟩:=Q0t code hl;simp only at D1 D2 D3 D4 D5;have H1:=Q20 D1;have H2:=Q8b D2;have H3:=Q8d D3;have H4:=Q72 D4;have H5:=Xav D5;rw[e1,Obs,Q7s D1.inv D1.fok (by omega) (by omega),Obs,Q21 D1.inv D1.fok (by omega) (by omega),Obs,e2,Obs,Xbf D2.inv D2.fok (by omega) (by omega),Obs,Q9p D2.inv D2.fok (by omega) (by omega),Obs];generalize pre c1 f1 (f1.1==8) (Zup c1.1 f1.2.1) (Zu8 c1 f1)=y1 at H1⊢;generalize pre c2 f2 (f2.1==4) (Zup c2.1 f2.2.1) (Qd1 c2 f2)=y2 at H2⊢;simp only[bne_self_eq_false,Ocf,H1.eq,H2.eq,Obs,Ont,Bool.or_self];rw[Q0o H1.ne];simp only[Bool.false_or,Bool.and_not_self,Ocf,Bool.or_self];rw[Q0o H2.ne];simp only[Bool.and_not_self,Ocf];rw[Q0o H1.ok];simp only[Bool.and_not_self,Ocf,Bool.or_self];rw[Q0o H2.ok];simp only[Bool.and_not_self,Ocf,Bool.or_self];rw[e3,Obs,Xbo D3.inv D3.fok (by omega) (by omega),Obs,Q9t D3.inv D3.fok (by omega) (by omega),Obs,e4,Obs,Xa0 D4.inv D4.fok (by omega) (by omega),Obs,Q87 D4.inv D4.fok (by omega) (by omega),Obs];generalize pre c3 f3 (f3.1==5) (Qd7 c3.1 f3.2.1) (Qh2 f3)=y3 at H3⊢;generalize Qqt c4 f4=y4 at H4⊢;simp only[bne_self_eq_false,Ocf,H3.eq,H4.eq,Obs,Ont,Bool.or_self];rw[Q0o H3.ok];simp only[Bool.false_or,Bool.and_not_self,Ocf,Bool.or_self];rw[Q0o H4.ok];simp only[Bool.and_not_self,Ocf];rw[e5,Obs];unfold Ztz;rw[Xb8 D5.inv D5.fok (by omega) (by omega),Obs,Xb9 D5.inv D5.fok (by omega) (by omega),Obs];generalize Qva c5 f5=y5 at H5⊢;simp only[beq_self_eq_true,Oct,H5.eq,Obs,Ota];cases h0:y5.2.1==0
 ·have hn:=H5.ne (by rw[bne,h0];rfl);rw[Ocf,hn];simp only[Obs,Bool.false_or,Oct,beq_self_eq_true,Bool.and_self]
 ·simp only[Oct,Obs,Bool.true_or,beq_self_eq_true,Bool.and_self]
theorem Q33: ∀xs:Jb Zqk.args,wfA Zqk.args xs->Zpk xs.1=some (true,()):=fun xs _=>Q6j xs.1
end Go.Proofs.YtmlpcjbkbnkajaaGreat

/- FnHandles: the plain law, part 3. No condition. -/
import Derived.Test.YtmlpcjbkbnkajaaGreatP2
namespace Go.Proofs.YtmlpcjbkbnkajaaGreat
open Go.Am
set_option maxRecDepth 100000
set_option linter.unusedVariables false
theorem Q1v(s:Zo):0<=stF s/\stF s<=3:=by
 have e:=Qyk s;unfold Zaj at e;revert e;generalize stF s=k;intro e;cases hA: (s.2.2.2.2.2.2.1==3)&& (s.2.1.2.1==s.2.1.2.2.1)
 ·revert e;rw[hA];simp only[Ocf]
  repeat' (rw[Bool.cond_eq_ite];split)
  all_goals intro e;cases e;omega
 ·rw[hA]at e;cases e;omega
theorem Q18.st{s:Zo}(h:Q18 s):0<=s.1/\s.1<=5:=by
 by_cases hc:s.1=4\/s.1=5
 ·omega
 ·have:=(h.no hc).st;have:=Q1v s;omega
theorem Qub{K:Int}{s:Zo}(h:Za6 K s)(hK:K<=1000000)(code:Int):Zl9 s code=K0 s code:=by
 have hc:=h.cells;unfold Zl9 K0 Zwb;rw[Qrk h hK,Q9r h hK,Obs,Qij h hK,Zsd h hK];simp only[Zrg,Z4o,Y5,Obs,bO,bO2,bA,bA2,Je,Zja];cases hs:Qyj s
 ·rfl
 ·have g:=((Q9s h hK).1 hs).st;have e: (decide (s.1>=0)&&decide (s.1<=2))= !decide (s.1>2):=by
   rw[Zj (p:=s.1>=0) (by omega),Ota,<-decide_not];exact decide_eq_decide.2 (by omega)
  rw[e];cases decide (s.1>2)<;>cases J4 code<;>rfl
noncomputable def Xck(m:Option (Zo×Bool×Unit)):Zo×Bool×Unit:=match m with|some y=>y|none=>(Zak,false,())
noncomputable def Quh(x:Zg)(f:Zl):Zo×Bool×Unit:=Xck (K0 (atV x f.2.1).2.1 f.2.2.2.2.2.1)
abbrev Quf(s:Zd)(d:Zo):Zd:=(s.1,(d,s.2.2))
abbrev Qev(s:Zd):Zd:=(s.1,(s.2.1,(s.2.2.1,(s.2.2.2.1,(s.2.2.2.2.1,(s.2.2.2.2.2.1,(s.2.2.2.2.2.2.1,(s.2.2.2.2.2.2.2.1,(true,s.2.2.2.2.2.2.2.2.2)))))))))
noncomputable def Qh2(f:Zl)(x:Zg):Zg×Int×Unit:=bif(Quh x f).2.1 then(fin (Zzi x f.2.1 (Qev (Quf (atV x f.2.1) (Quh x f).1))) f.2.1,0,())else(fin x f.2.1,0,())
theorem Q9t{K:Nat}{c:Zg}{f:Zl}(h:Qe K c)(hf:FOK f)(h25:25<=K)(hK:K<=390000):Vw c f=some (pre c f (f.1==5) (Qd7 c.1 f.2.1) (Qh2 f),()):=by
 unfold FOK at hf;unfold Vw Jv pre;simp only[Qpy h (by omega),Qcn hf,Wu h (by omega),bO,bO2,Obs,Qwl];cases hc:Ztr c
 ·rfl
 cases hk:Yo f
 ·rfl
 rw[bne];cases hg:f.1==5
 ·rfl
 simp only[Ont,Bool.or_self,Ocf,Bool.and_self,Oct];cases Qd7 c.1 f.2.1
 ·rfl
 simp only[Ont,Ocf,Oct];obtain⟨q1,q2,q3,q4⟩:=okF hk;rw[Z4d h hc h25 (by omega) q1,Obs,bne];cases h0: (Zd7 c f.2.1).1==0
 ·rfl
 have E:EnF K (Zd7 c f.2.1).2 f.2.1:=by
  have e:=Zs7 h hc h25 (by omega) q1 (by simpa using h0);exact⟨Zs8 h hc h25 (by omega) q1,e.1,e.2.1⟩
 simp only[Ont,Ocf,Oct];generalize (Zd7 c f.2.1).2=x at E⊢;obtain⟨m1,m2,m3⟩:=E.mem (by omega);have hs:=E.inv.str.all _ m1;have F:=E.con.st E.inv (by omega) m1;rw[Z4x E.inv (by omega),if_pos E.idx,Obs];obtain⟨d,v,e,hd⟩:=Zrx hs.snd f.2.2.2.2.2.1 (by omega);have eR:Quh x f=(d,v,()):=by unfold Quh;rw[e];rfl
 simp only;unfold Qh2;rw[e,Obs,eR];cases v
 ·have hx:Zzi x f.2.1 (atV x f.2.1)=x:=by
   show(x.1,(x.2.1,(x.2.2.1,(x.2.2.2.1.set (Yw x.2.2.2.1 f.2.1).toNat (x.2.2.2.1.getD (Yw x.2.2.2.1 f.2.1).toNat Zh),x.2.2.2.2))))=x;rw[Q4u]
  have sv:=Qz8 (x:=x) (id:=f.2.1) (K:=K) E.inv hs (by omega) m3 E.idx;rw[hx]at sv;exact Eq.trans (congrArg (fun m:Option (Unit×Zg×Unit)=>Option.bind m fun t67=>some ((t67.2.1,((0:Int),())),())) sv) rfl
 ·have hw:Xc K (Qev (Quf (atV x f.2.1) d)):=⟨hd,hs.rcv⟩
  have sv:=Qz8 (x:=x) (id:=f.2.1) (K:=K) E.inv hw (by omega) m3 E.idx;exact Eq.trans (congrArg (fun m:Option (Unit×Zg×Unit)=>Option.bind m fun t67=>some ((t67.2.1,((0:Int),())),())) sv) rfl
set_option maxHeartbeats 2000000 in
theorem Xbo{K:Nat}{c:Zg}{f:Zl}(h:Qe K c)(hf:FOK f)(h25:25<=K)(hK:K<=390000):Zjx c f=some (pre c f (f.1==5) (Qd7 c.1 f.2.1) (Qh2 f)):=by
 unfold FOK at hf;unfold Zjx pre;simp only[Qcm h (by omega),Qpy h (by omega),Qco hf,Z4a h (by omega),bO,bO2,Je,Obs,Q8c,Qwl];cases hc:Ztr c
 ·rfl
 cases hk:Yo f
 ·rfl
 cases hg:f.1==5
 ·rfl
 simp only[Ont,Bool.or_self,Ocf,Bool.and_self,Oct];cases Qd7 c.1 f.2.1
 ·rfl
 simp only[Ont,Ocf,Oct];obtain⟨q1,q2,q3,q4⟩:=okF hk;rw[Qlg h hc h25 (by omega),Obs,bne];cases h0: (Zd7 c f.2.1).1==0
 ·rfl
 have E:EnF K (Zd7 c f.2.1).2 f.2.1:=by
  have e:=Zs7 h hc h25 (by omega) q1 (by simpa using h0);exact⟨Zs8 h hc h25 (by omega) q1,e.1,e.2.1⟩
 simp only[Ont,Ocf,Oct];generalize (Zd7 c f.2.1).2=x at E⊢;obtain⟨m1,m2,m3⟩:=E.mem (by omega);have hs:=E.inv.str.all _ m1;have F:=E.con.st E.inv (by omega) m1;have hl:=E.inv.str.len;have hi:=E.idx;rw[Qb8 (by omega),Qcd (by omega),Obs];simp only;rw[Zb (by omega)];obtain⟨d,v,e,hd⟩:=Zrx hs.snd f.2.2.2.2.2.1 (by omega);have eR:Quh x f=(d,v,()):=by unfold Quh;rw[e];rfl
 unfold Qh2;rw[Qub hs.snd (by omega),e,Obs,eR];cases v
 ·have hx:=Q60 (K:=K) (x:=x) E.inv.str (by omega) E.idx;unfold Qyf at hx;rw[Qb8 (by omega),Qcd (by omega)]at hx;simp only[Ocf];exact hx
 ·have hw:Xc K (Qev (Quf (atV x f.2.1) d)):=⟨hd,hs.rcv⟩
  refine Eq.trans (show _=(fun l:List Zd=>Qyf (Qk7 x (l.set (Yw x.2.2.2.1 f.2.1).toNat (Qev (l.getD (Yw x.2.2.2.1 f.2.1).toNat Zh)))) f.2.1) (x.2.2.2.1.set (Yw x.2.2.2.1 f.2.1).toNat (Quf (atV x f.2.1) d))from rfl) ?_;simp only[Z17 m2,List.set_set];refine Q60 (K:=K) (x:=Zzi x f.2.1 (Qev (Quf (atV x f.2.1) d))) (E.inv.str.set hw _) (by omega) ?_;show 0<=Yw (x.2.2.2.1.set (Yw x.2.2.2.1 f.2.1).toNat (Qev (Quf (atV x f.2.1) d))) f.2.1;rw[show Yw (x.2.2.2.1.set (Yw x.2.2.2.1 f.2.1).toNat (Qev (Quf (atV x f.2.1) d))) f.2.1=Yw x.2.2.2.1 f.2.1 from Qce _ rfl];exact E.idx
abbrev Qpd(s:Zd)(c:Vk):Zd:=(s.1,(s.2.1,(c,s.2.2.2)))
noncomputable def mlX(f:Zl)(x:Zg):Zg×Int×Unit:=(Zzi x f.2.1 (Qpd (atV x f.2.1) (rlV (atV x f.2.1).2.2.1 f.2.2.2.2.2.2.1)),0,())
def Xcj(c:Zg)(n:Int):Zg:=(c.1,(c.2.1,(c.2.2.1,(c.2.2.2.1,(rlV c.2.2.2.2.1 n,c.2.2.2.2.2)))))
def Q2s(c:Zg)(u:Bool)(n:Int):Zg:=bif u then(c.1,(c.2.1,(c.2.2.1,(c.2.2.2.1,(c.2.2.2.2.1,(c.2.2.2.2.2.1,(c.2.2.2.2.2.2.1,(rcV c.2.2.2.2.2.2.2.1 n,c.2.2.2.2.2.2.2.2))))))))else(c.1,(c.2.1,(c.2.2.1,(c.2.2.2.1,(c.2.2.2.2.1,(c.2.2.2.2.2.1,(rcV c.2.2.2.2.2.2.1 n,c.2.2.2.2.2.2.2)))))))
noncomputable def Qqt(c:Zg)(f:Zl):Zg×Int×Unit:=bif f.1==17 then pre c f true (Qd7 c.1 f.2.1) (mlX f)else bif f.1==21 then pre c f true (Zup c.1 f.2.1) (fun x=>(x,0,()))else bif Ztr c&&Yo f then bif f.1==16 then(Xcj c f.2.2.2.2.2.2.1,0,())else bif f.1==18 then(Q2s c f.2.2.2.2.2.2.2.2.1 f.2.2.2.2.2.2.1,0,())else bif(f.1==20)|| (f.1==22)then(c,0,())else(c,7,()) else(c,7,())
theorem Q71{f:Zl}(h:Yo f=true):f.1=4\/f.1=5\/f.1=8\/f.1=17\/f.1=21\/f.1=18\/f.1=22\/f.1=16\/f.1=20:=by
 unfold Yo Xo at h;simp only[Oba]at h;have h:=h.1.1.1.1.1.1.1;by_cases h4:f.1=4
 ·exact .inl h4
 by_cases h5:f.1=5
 ·omega
 by_cases h8:f.1=8
 ·omega
 by_cases h17:f.1=17\/f.1=21
 ·omega
 by_cases h18:f.1=18\/f.1=22
 ·omega
 by_cases h16:f.1=16\/f.1=20
 ·omega
 rw[Zm (by simpa using h4),Zm (by simpa using h5),Zm (by simpa using h8),Zm (by simpa using h17),Zm (by simpa using h18),Zm (by simpa using h16)]at h;cases h
theorem Q87{K:Nat}{c:Zg}{f:Zl}(h:Qe K c)(hf:FOK f)(h25:25<=K)(hK:K<=390000):J9 c f=some (Qqt c f):=by
 unfold FOK at hf;unfold J9 Zam K6 K7 Zgw Wr Zd6 Qqt pre;simp only[Wu h (show K<=1000000 by omega),Qpy h (show K<=1000000 by omega),Qcn hf,bO,bO2,Obs,Qwl,Qo4,Q9l,Q6t];cases hc:Ztr c
 ·cases f.1==17<;>cases f.1==21<;>rfl
 cases hk:Yo f
 ·cases f.1==17<;>cases f.1==21<;>rfl
 obtain⟨q1,q2,q3,q4⟩:=okF hk;rw[Z4d h hc h25 (by omega) q1];have E: (Zd7 c f.2.1).1=0->EnF K (Zd7 c f.2.1).2 f.2.1:=fun h0=>by
  have e:=Zs7 h hc h25 (by omega) q1 h0;exact⟨Zs8 h hc h25 (by omega) q1,e.1,e.2.1⟩
 rcases Q71 hk with k|k|k|k|k|k|k|k|k<;>rw[k]<;>simp only[Int.reduceBEq,Oct,Ocf,Ont,Bool.or_self,Bool.and_self,Bool.or_true,Bool.or_false,Obs,bne]
 ·cases Qd7 c.1 f.2.1
  ·rfl
  cases h0: (Zd7 c f.2.1).1==0
  ·rfl
  have E:=E (by simpa using h0);simp only[Ont,Ocf,Oct];generalize (Zd7 c f.2.1).2=x at E⊢;obtain⟨m1,m2,m3⟩:=E.mem (by omega);have hs:=E.inv.str.all _ m1;rw[Z4x E.inv (by omega),if_pos E.idx,Obs];have hw:Xc K (Qpd (atV x f.2.1) (rlV (atV x f.2.1).2.2.1 f.2.2.2.2.2.2.1)):=⟨hs.snd,hs.rcv⟩
  have sv:=Qt7 E.inv.str hw (by omega);have e2:Zwg x.2.2.2.1 (Qpd (atV x f.2.1) (rlV (atV x f.2.1).2.2.1 f.2.2.2.2.2.2.1))=x.2.2.2.1.set (Yw x.2.2.2.1 f.2.1).toNat (Qpd (atV x f.2.1) (rlV (atV x f.2.1).2.2.1 f.2.2.2.2.2.2.1)):=by
   unfold Zwg;rw[show(Qpd (atV x f.2.1) (rlV (atV x f.2.1).2.2.1 f.2.2.2.2.2.2.1)).1=f.2.1 from m3,if_pos E.idx]
  rw[e2]at sv;exact Eq.trans (congrArg (fun m:Option (List Zd×Unit)=>Option.bind (Option.bind m fun t59=>(some ((x.1,(x.2.1,(x.2.2.1,(t59.1,x.2.2.2.2)))),(0:Int),()):Option (Zg×Int×Unit))) fun t58=>some (t58.1,t58.2.1,())) sv) rfl
 ·cases Zup c.1 f.2.1
  ·rfl
  cases h0: (Zd7 c f.2.1).1==0
  ·rfl
  ·rfl
 ·unfold Q2s;cases f.2.2.2.2.2.2.2.2.1<;>rfl
 ·rfl
theorem Xa0{K:Nat}{c:Zg}{f:Zl}(h:Qe K c)(hf:FOK f)(h25:25<=K)(hK:K<=390000):Zho c f=some (Qqt c f):=by
 unfold FOK at hf;have cF: ∀x u,Zjc x u=some (u,(x,())):=fun x u=>by unfold Zjc;cases u<;>rfl
 unfold Zho Qqt pre;simp only[Z4a h (show K<=1000000 by omega),Qcm h (show K<=1000000 by omega),Qpy h (show K<=1000000 by omega),Qco hf,bO,bO2,Obs,Q8c,Q4o,Qwl,Qo4,Q9k,Q6s,cF];cases hc:Ztr c
 ·cases f.1==17<;>cases f.1==21<;>rfl
 cases hk:Yo f
 ·cases f.1==17<;>cases f.1==21<;>rfl
 obtain⟨q1,q2,q3,q4⟩:=okF hk;simp only[Qlg h hc h25 (show K<=400000 by omega)];have E: (Zd7 c f.2.1).1=0->EnF K (Zd7 c f.2.1).2 f.2.1:=fun h0=>by
  have e:=Zs7 h hc h25 (by omega) q1 h0;exact⟨Zs8 h hc h25 (by omega) q1,e.1,e.2.1⟩
 rcases Q71 hk with k|k|k|k|k|k|k|k|k<;>rw[k]<;>simp only[Int.reduceBEq,Oct,Ocf,Ont,Bool.not_false,Bool.or_self,Bool.and_self,Bool.or_true,Bool.or_false,Obs,bne,Bool.and_false,Bool.and_true]
 ·cases Qd7 c.1 f.2.1
  ·rfl
  cases h0: (Zd7 c f.2.1).1==0
  ·rfl
  have E:=E (by simpa using h0);simp only[Ont,Ocf,Oct];generalize (Zd7 c f.2.1).2=x at E⊢;obtain⟨m1,m2,m3⟩:=E.mem (by omega);have hl:=E.inv.str.len;have hi:=E.idx;rw[Qb8 (by omega),Qcd (by omega),Obs];simp only;rw[Zb (by omega)];rfl
 ·cases Zup c.1 f.2.1
  ·rfl
  cases h0: (Zd7 c f.2.1).1==0
  ·rfl
  ·rfl
 ·unfold Q2s;cases f.2.2.2.2.2.2.2.2.1<;>rfl
 ·rfl
noncomputable def Qva(c:Zg)(f:Zl):Zg×Int×Unit:=bif f.1==8 then pre c f (f.1==8) (Zup c.1 f.2.1) (Zu8 c f)else bif f.1==4 then pre c f (f.1==4) (Zup c.1 f.2.1) (Qd1 c f)else bif f.1==5 then pre c f (f.1==5) (Qd7 c.1 f.2.1) (Qh2 f)else Qqt c f
theorem Xb9{K:Nat}{c:Zg}{f:Zl}(h:Qe K c)(hf:FOK f)(h25:25<=K)(hK:K<=390000):J8 c f=some (Qva c f,()):=by
 unfold J8 K5 Qva;rw[Wu h (by omega),Obs,Q21 h hf h25 hK,Q9p h hf h25 hK,Q9t h hf h25 hK,Q87 h hf h25 hK];cases f.1==8<;>cases f.1==4<;>cases f.1==5<;>rfl
theorem Xb8{K:Nat}{c:Zg}{f:Zl}(h:Qe K c)(hf:FOK f)(h25:25<=K)(hK:K<=390000):Zhn c f=some (Qva c f):=by
 unfold Zhn Qva;rw[Q7s h hf h25 hK,Xbf h hf h25 hK,Xbo h hf h25 hK,Xa0 h hf h25 hK];cases f.1==8<;>cases f.1==4<;>cases f.1==5<;>rfl
theorem LF.mono{K:Nat}{S S' H H':Int}{l:List Zd}(L:LF K S H l)(h1:S<=S')(h2:H<=H'):LF K S' H' l:=⟨L.inv,L.all,L.srt,Int.le_trans L.snt h1,Int.le_trans L.hgh h2⟩
theorem LF.set{K K':Nat}{S H d:Int}{l:List Zd}(L:LF K S H l)(hk:K<=K'){i:Nat}(hi:i<l.length){s:Zd}(hs:Xc K' s)(F:StF s)(e:s.1=(l.getD i Zh).1)(h1:Zxr s<=Zxr (l.getD i Zh))(h2:Zyq s<=Zyq (l.getD i Zh)+d):LF K' S (H+d) (l.set i s):=by
 refine⟨(L.inv.mono hk).set hs i,fun x hx=> ?_,?_,?_,?_⟩
 ·rcases List.mem_or_eq_of_mem_set hx with h|h
  ·exact L.all x h
  ·rw[h];exact F
 ·have e:=Zte (g:=fun s:Zd=>s.1) (s:=s) (l:=l) (i:=i) (d:=Zh) e;exact List.pairwise_map.1 (by rw[e];exact List.pairwise_map.2 L.srt)
 ·rw[Z33 hi];have:=L.snt;omega
 ·rw[Z33 hi];have:=L.hgh;omega
theorem EnF.set{K K':Nat}{x:Zg}{id:Int}(h:EnF K x id)(hk:K<=K')(hK:K'<=900000){w:Qq}{s:Zd}{d:Int}(hs:Xc K' s)(F:StF s)(e:s.1=id)(h1:Zxr s<=Zxr (atV x id))(h2:Zyq s<=Zyq (atV x id)+d)(W:Qpv w)(hw:w.2.2.2.1=x.2.2.2.2.2.1.2.2.2.1+d):EnF K' (Zzi (Zuw x w) id s) id:=by
 obtain⟨m1,m2,m3⟩:=h.mem (by omega);have L:=(h.con.LF h.inv (by omega)).set (d:=d) hk m2 hs F (by rw[e];exact m3.symm) h1 h2;have hix:Yw (x.2.2.2.1.set (Yw x.2.2.2.1 id).toNat s) id=Yw x.2.2.2.1 id:=Qce id (by rw[e];exact m3.symm);have hl:=(Qwq.1 h.con.sts).len;exact⟨⟨L.inv,h.inv.pk.mono hk⟩,Qiw h.con (by omega) rfl rfl (L.mono (Int.le_refl _) (by simp only;omega)) (by simp only[List.length_set];exact hl) (Qsu.1 h.con.tot) W h.con.ob h.con.ou (Z7d.1 h.con.ab) (Z7d.1 h.con.au) rfl,by show 0<=Yw (x.2.2.2.1.set (Yw x.2.2.2.1 id).toNat s) id;rw[hix];exact h.idx⟩
theorem Qyu{a:Q0}(h:Q0i a):Q0i (coV a):=by
 unfold coV;cases hc:Z1l a&& !(a.2.2.2.1==a.2.2.1)
 ·exact h
 ·simp only[Oba,Bool.not_eq_true',beq_eq_false_iff_ne]at hc;have:=h.clo;have:=h.lc
  exact⟨h.most,h.lim,h.seen,by simp only[Oct];omega,by simp only[Oct];omega⟩
theorem EnF.settled{K:Nat}{x:Zg}{id:Int}(h:EnF K x id)(hK:K<=900000):Zx6 (fin x id):=by
 unfold fin;cases ovB x.1 (atV x id)
 ·exact h.con
 rw[Oct];obtain⟨m1,m2,m3⟩:=h.mem (by omega);have hs:=h.inv.str.all _ m1;have F:=h.con.st h.inv (by omega) m1;have Fc:StF (Qja (atV x id)):=⟨F.id,F.snd,F.cre,F.rcv,F.win,F.pr,F.code,F.can,F.su,F.hs,F.tr,F.ts,F.sc,F.cs,F.cr⟩
 have L:=(h.con.LF h.inv (by omega)).set (d:=0) (Nat.le_refl K) m2 (s:=Qja (atV x id)) ⟨hs.snd,hs.rcv⟩ Fc rfl (Int.le_refl _) (Int.le_of_eq (Int.add_zero _).symm);have L:=L.mono (Int.le_refl _) (Int.le_of_eq (Int.add_zero _));have hl:=(Qwq.1 h.con.sts).len;have a1:=Z7d.1 h.con.ab;have a2:=Z7d.1 h.con.au;unfold Que Kt;cases Zzw id
 ·exact Qiw h.con (by omega) rfl rfl L (by simp only[Ocf,List.length_set];exact hl) (Qsu.1 h.con.tot) (Zu1.1 h.con.inf) h.con.ob h.con.ou (Qyu a1) a2 rfl
 ·exact Qiw h.con (by omega) rfl rfl L (by simp only[Oct,List.length_set];exact hl) (Qsu.1 h.con.tot) (Zu1.1 h.con.inf) h.con.ob h.con.ou a1 (Qyu a2) rfl
theorem Qez{w:Qq}(W:Qpv w){n:Int}(h0:0<=n)(h1:n<=lft w):Qpv (snV w n)/\(snV w n).2.2.2.1=w.2.2.2.1+n:=by
 have ok:Zu4 w n=true:=by unfold Zu4;rw[Zu1.2 W,Zj h0,Zj h1];rfl
 have e:snV w n=(w.1,(w.2.1,(w.2.2.1,(w.2.2.2.1+n,w.2.2.2.2)))):=by unfold snV;rw[ok];rfl
 rw[e];unfold lft at h1;have:=W.seen;have:=W.read
 exact⟨⟨W.most,W.size,W.lim,by simp only;omega,by simp only;omega,W.lr,W.since⟩,rfl⟩
theorem Qsl{w:Qq}(W:Qpv w)(n:Int):Qpv (rdV w n)/\(rdV w n).2.2.2.1=w.2.2.2.1:=by
 unfold rdV;cases h:Zxn w n
 ·exact⟨W,rfl⟩
 ·unfold Zxn at h;simp only[Oba,decide_eq_true_eq]at h;have:=W.seen;have:=W.read;have:=W.lr
  exact⟨⟨W.most,W.size,W.lim,W.seen,by simp only[Oct];omega,by simp only[Oct];omega,W.since⟩,rfl⟩
theorem Xay{v:Bool}{s:Zd}(k:Zgy v s)(F:StF s)(h:Zup v s.1=true):s.2.2.2.2.2.2.2.1=true:=by
 rcases k with⟨a,b⟩| ⟨-,b⟩
 ·rcases F.can with c|c
  ·rw[a]at c;cases c
  ·exact c
 ·rw[Qo4,h]at b;simpa using b.symm
theorem Xcc{v:Bool}{s:Zd}(k:Zgy v s)(F:StF s)(h:Qd7 v s.1=true):s.2.2.2.2.2.2.1=true:=by
 rcases k with⟨a,b⟩| ⟨b,-⟩
 ·rcases F.can with c|c
  ·exact c
  ·rw[b]at c;cases c
 ·rw[Qwl,h]at b;simpa using b.symm
theorem Qzd{x:Zg}{s:Zd}{n:Int}:flB x s n=true↔n<=lft s.2.2.2.2.1/\n<=lft x.2.2.2.2.2.1:=by
 unfold flB;simp only[Oba,decide_eq_true_eq]
theorem Q23{K:Nat}{v:Bool}{c x:Zg}{f:Zl}(E:EnF K x f.2.1)(k:KC v x)(hK:K<=390000)(hk:Yo f=true)(h8:f.1=8)(hr:Zup v f.2.1=true)(h0: (Zu8 c f x).2.1=0):Zx6 (Zu8 c f x).1:=by
 obtain⟨q1,q2,q3,q4⟩:=okF hk;have q3:=q3 h8;obtain⟨m1,m2,m3⟩:=E.mem (by omega);have hs:=E.inv.str.all _ m1;have F:=E.con.st E.inv (by omega) m1;have hw:IntKind.i64.wrap (f.2.2.1+ (f.2.2.2.1.length:Int))=f.2.2.1+ (f.2.2.2.1.length:Int):=Zv (by omega) (by omega);obtain⟨r,w,e,hri⟩:=Zvx hs.rcv f.2.2.1 f.2.2.2.1 f.2.2.2.2.1 (by omega);have R:=(Z9s hs.rcv (by omega)).1 F.rcv;have g:=Q6u hs.rcv f.2.2.2.2.1 (by omega) R q2.1 q3 _ e;have nn:=Qxu (atV x f.2.1).2.2.2.1 (f.2.2.1+ (f.2.2.2.1.length:Int));unfold Zu8 at h0⊢;rw[hw,e]at h0⊢;simp only[Qwv]at h0⊢;generalize nbV (atV x f.2.1).2.2.2.1 (f.2.2.1+ (f.2.2.2.1.length:Int))=n at*
 cases hf:flB x (atV x f.2.1) n
 ·rw[hf]at h0;cases h0
 rw[hf]at h0;cases hw0:w==0
 ·rw[hw0]at h0;simp only[Oct,Ocf]at h0;rw[h0]at hw0;cases hw0
 have g:=g (by simpa using hw0);obtain⟨f1,f2⟩:=Qzd.1 hf;obtain⟨W1,W2⟩:=Qez F.win nn f1;obtain⟨V1,V2⟩:=Qez (Zu1.1 E.con.inf) nn f2;have cr:=Xay (k.str _ m1) F (by rw[m3];exact hr);have FS:StF (Zqr (Zsr (atV x f.2.1) (snV (atV x f.2.1).2.2.2.2.1 n)) r):=⟨F.id,F.snd,F.cre,(Z9s (K:=K+f.2.2.2.1.length+1) hri (by omega)).2 g.1,W1,F.pr,F.code,F.can,F.su,by have g2:r.2.2.2.1<=(atV x f.2.1).2.2.2.1.2.2.2.1+n:=g.2;have:=F.hs;simp only;rw[W2];omega,F.tr,F.ts,F.sc,F.cs,.inl cr⟩
 have SI:Xc (K+f.2.2.2.1.length+1) (Zqr (Zsr (atV x f.2.1) (snV (atV x f.2.1).2.2.2.2.1 n)) r):=⟨hs.snd.mono (by omega),hri⟩
 exact(E.set (K':=K+f.2.2.2.1.length+1) (by omega) (by omega) (d:=n) SI FS m3 (Int.le_refl _) g.2 V1 V2).settled (by omega)
theorem Q6y{K:Nat}{v:Bool}{c x:Zg}{f:Zl}(E:EnF K x f.2.1)(k:KC v x)(hK:K<=390000)(hr:Zup v f.2.1=true)(h0: (Qd1 c f x).2.1=0):Zx6 (Qd1 c f x).1:=by
 obtain⟨m1,m2,m3⟩:=E.mem (by omega);have hs:=E.inv.str.all _ m1;have F:=E.con.st E.inv (by omega) m1;obtain⟨r,w,e,hri⟩:=Zti hs.rcv (by omega) f.2.2.2.2.2.1 f.2.2.2.2.2.2.2.1;have R:=(Z9s hs.rcv (by omega)).1 F.rcv;have g:=Q4j hs.rcv (by omega) R f.2.2.2.2.2.1 f.2.2.2.2.2.2.2.1 _ e;have nn:0<=Zu3 x f:=Qxu _ _;have eR:Qhm x f=(r,w,()):=by unfold Qhm;rw[e];rfl
 unfold Qd1 at h0⊢;rw[eR]at h0⊢;rw[show nbV (atV x f.2.1).2.2.2.1 f.2.2.2.2.2.2.2.1=Zu3 x f from rfl]at g;simp only at h0⊢;generalize Q9o x f=m at*
 generalize Zu3 x f=n at*
 cases hf:flB x (atV x f.2.1) n
 ·rw[hf]at h0;cases h0
 rw[hf]at h0;cases hw0:w==0
 ·rw[hw0]at h0;simp only[Oct,Ocf]at h0;rw[h0]at hw0;cases hw0
 have g:=g (by simpa using hw0);obtain⟨f1,f2⟩:=Qzd.1 hf;obtain⟨W1,W2⟩:=Qez F.win nn f1;obtain⟨V1,V2⟩:=Qez (Zu1.1 E.con.inf) nn f2;obtain⟨W3,W4⟩:=Qsl W1 m;obtain⟨V3,V4⟩:=Qsl V1 m;have cr:=Xay (k.str _ m1) F (by rw[m3];exact hr);have key: ∀w1 w2,Qpv w1->Qpv w2->w1.2.2.2.1=x.2.2.2.2.2.1.2.2.2.1+n->w2.2.2.2.1=(atV x f.2.1).2.2.2.2.1.2.2.2.1+n->Zx6 (fin (Zzi (Zuw x w1) f.2.1 (Zqr (Zsr (atV x f.2.1) w2) r)) f.2.1):=fun w1 w2 G1 G2 e1 e2=>by
  have FS:StF (Zqr (Zsr (atV x f.2.1) w2) r):=⟨F.id,F.snd,F.cre,(Z9s hri (by omega)).2 g.1,G2,F.pr,F.code,F.can,F.su,by have g2:r.2.2.2.1<=(atV x f.2.1).2.2.2.1.2.2.2.1+n:=g.2;have:=F.hs;simp only;rw[e2];omega,F.tr,F.ts,F.sc,F.cs,.inl cr⟩
  have SI:Xc K (Zqr (Zsr (atV x f.2.1) w2) r):=⟨hs.snd,hri⟩
  exact(E.set (Nat.le_refl K) (by omega) (d:=n) SI FS m3 (Int.le_refl _) g.2 G1 e1).settled (by omega)
 simp only[Oct];cases ((r.1==4)&& ((atV x f.2.1).2.2.2.1.1 !=4))
 ·exact key _ _ V1 W1 V2 W2
 ·exact key _ _ V3 W3 (by rw[V4];exact V2) (by rw[W4];exact W2)
theorem Q4s{r:Yj}(hl:r.2.2.2.1.length<=1048576)(h:Zus r=true):Jl r.1=some (true,()):=by
 have e:=(Zy0 r hl).1;rw[h]at e;unfold Vn at e;obtain⟨p,hp⟩:=Qox r.1;rw[hp]at e⊢;cases p
 ·simp only[Obs,Bool.not_false,Bool.true_or,Oct]at e;simp at e
 ·rfl
theorem Xbe{K:Int}{s:Zo}(h:Za6 K s)(hK:K<=1000000)(code:Int):Pc (K0 s code) fun r=>r.2.1=true->Q18 r.1/\r.1.1=4/\r.1.2.2.2.2.2.2.2.1=s.2.2.2.2.2.2.2.1:=by
 unfold K0 Zhf;rw[Q9r h hK,Obs,Zsd h hK];simp only[Je,Zja,Y5,bO,bO2];refine Pc.ite (fun _=>Pc.pure fun h=>by cases h) fun hc=>Pc.guard (Pc.pure fun _=> ?_);simp only[Bool.or_eq_false_iff,Bool.not_eq_false',decide_eq_false_iff_not]at hc;obtain⟨⟨h1,h2⟩,h3⟩:=hc;have F:=(Q9s h hK).1 h1;have hcl:=h.cells;have hs:=F.sent;have hE:=h.eK;have hz:=Q8a (m:=s.2.2.2.2.2.2.2.1) (Q4s (by omega) F.ring) hs.1 (by omega);refine⟨{ring:=hz.1,pr:=rfl,fr:=rfl,ar:=rfl,sent:=⟨hs.1,Int.le_refl _⟩,code:=X4.1 h3,fin:=⟨Int.le_refl _,by simp only;omega⟩,rst:=fun _=>⟨rfl,rfl,rfl,rfl,rfl,rfl,rfl⟩,no:=fun h=>absurd (.inl rfl) h},rfl,rfl⟩
theorem Q64{K:Nat}{v:Bool}{x:Zg}{f:Zl}(E:EnF K x f.2.1)(k:KC v x)(hK:K<=390000)(hr:Qd7 v f.2.1=true):Zx6 (Qh2 f x).1:=by
 obtain⟨m1,m2,m3⟩:=E.mem (by omega);have hs:=E.inv.str.all _ m1;have F:=E.con.st E.inv (by omega) m1;obtain⟨d,w,e,hd⟩:=Zrx hs.snd f.2.2.2.2.2.1 (by omega);have g:=Xbe hs.snd (by omega) f.2.2.2.2.2.1 _ e;have eR:Quh x f=(d,w,()):=by unfold Quh;rw[e];rfl
 unfold Qh2;rw[eR];cases w
 ·exact E.settled (by omega)
 obtain⟨g1,g2,g3⟩:=g rfl;have cr:=Xcc (k.str _ m1) F (by rw[m3];exact hr);have FS:StF (Qev (Quf (atV x f.2.1) d)):=⟨F.id,g1,F.cre,F.rcv,F.win,F.pr,F.code,F.can,by have:=F.su;simp only at g3⊢;rw[g3];exact this,F.hs,fun _=>g2,F.ts,F.sc,.inl cr,F.cr⟩
 have SI:Xc K (Qev (Quf (atV x f.2.1) d)):=⟨hd,hs.rcv⟩
 have E2:=E.set (Nat.le_refl K) (by omega) (w:=x.2.2.2.2.2.1) (d:=0) SI FS m3 (Int.le_of_eq g3) (Int.le_of_eq (Int.add_zero _).symm) (Zu1.1 E.con.inf) (Int.add_zero _).symm;exact E2.settled (by omega)
theorem Qmn{c:Vk}(h:Q15 c)(n:Int):Q15 (rlV c n)/\(rlV c n).2.1=c.2.1:=by
 unfold rlV;cases hc: (Qjb c&&decide (n>c.1))&&decide (n<=4611686018427387903)
 ·exact⟨h,rfl⟩
 ·simp only[Oba,decide_eq_true_eq]at hc;have a1:=h.use0;have a2:=h.use;have a3:=h.told0;have a4:=h.told
  exact⟨⟨hc.2,a1,by simp only[Oct];omega,by simp only[Oct];omega,by simp only[Oct];omega,a3,by simp only[Oct];omega⟩,rfl⟩
theorem Qmi{c:Zbm}(h:Zwp c=true)(n:Int):Zwp (rcV c n)=true:=by
 unfold rcV;cases hc: (Zwp c&&decide (n>c.1))&&decide (n<=1152921504606846976)
 ·exact h
 ·simp only[Oba,decide_eq_true_eq]at hc;have a:=Xam.1 h;exact Xam.2 (by simp only[Oct];omega)
theorem Q9c{K:Nat}{x:Zg}{f:Zl}(E:EnF K x f.2.1)(hK:K<=390000):Zx6 (mlX f x).1:=by
 obtain⟨m1,m2,m3⟩:=E.mem (by omega);have hs:=E.inv.str.all _ m1;have F:=E.con.st E.inv (by omega) m1;obtain⟨c1,c2⟩:=Qmn F.cre f.2.2.2.2.2.2.1;have FS:StF (Qpd (atV x f.2.1) (rlV (atV x f.2.1).2.2.1 f.2.2.2.2.2.2.1)):=⟨F.id,F.snd,c1,F.rcv,F.win,F.pr,F.code,F.can,by have:=F.su;simp only;rw[c2];exact this,F.hs,F.tr,F.ts,F.sc,F.cs,F.cr⟩
 have SI:Xc K (Qpd (atV x f.2.1) (rlV (atV x f.2.1).2.2.1 f.2.2.2.2.2.2.1)):=⟨hs.snd,hs.rcv⟩
 exact(E.set (Nat.le_refl K) (by omega) (w:=x.2.2.2.2.2.1) (d:=0) SI FS m3 (Int.le_refl _) (Int.le_of_eq (Int.add_zero _).symm) (Zu1.1 E.con.inf) (Int.add_zero _).symm).con
def plT:Ty->Bool| .unit=>true| .int _=>true| .bool=>true| .str=>true| .pair a b=>plT a&&plT b|_=>false
theorem Zm4: ∀{T:Ty},plT T=true-> ∀x:T.den,eqV T x x=true:=fun {T}=>by
 induction T with
 |int k=>intro _ x;simp[eqV]
 |bool=>intro _ x;simp[eqV]
 |str=>intro _ x;simp[eqV]
 |unit=>intro _ x;rfl
 |pair a b iha ihb=>
  intro h x;simp only[plT,Oba]at h;simp only[eqV,iha h.1,ihb h.2,Bool.and_self]
 |_=>intro h;cases h
theorem Q8r(r:Yj)(hl:r.2.2.2.1.length<=1048576):Znx r r=some (true,()):=by
 have lp: ∀(N i:Nat),r.2.2.2.1.length-i<N->i<=r.2.2.2.1.length->Zen N r r (i:Int)=some (true,()):=by
  intro N
  induction N with
  |zero=>intro i h;omega
  |succ N ih=>
   intro i hN hi;unfold Zen;by_cases hh:i<r.2.2.2.1.length
   ·rw[Zn (Zj (by omega)),Zb (by omega),Zb (by omega),bne_self_eq_false,Ocf,Zs hh (by omega)];exact ih (i+1) (by omega) (by omega)
   ·rw[Zm (Zk (by omega))]
 unfold Znx;simp only[bne_self_eq_false,Bool.or_self,Ocf];exact lp _ 0 (by unfold Zif;omega) (by omega)
theorem Qnt(l:List Ze)(hl:l.length<=1048576):Zdz l l=some (true,()):=by
 have lp: ∀(N i:Nat),l.length-i<N->i<=l.length->Zdf N l l (i:Int)=some (true,()):=by
  intro N
  induction N with
  |zero=>intro i h;omega
  |succ N ih=>
   intro i hN hi;unfold Zdf;by_cases hh:i<l.length
   ·rw[Zn (Zj (by omega)),Zb (by omega),Zb (by omega),Zm4 rfl,Ont,Ocf,Zs hh (by omega)];exact ih (i+1) (by omega) (by omega)
   ·rw[Zm (Zk (by omega))]
 unfold Zdz;simp only[bne_self_eq_false,Ocf];exact lp _ 0 (by unfold Zgr;omega) (by omega)
theorem Xas(b:Zq)(hl:b.2.1.length<=1048576):Zk1 b b=some (true,()):=by
 have lp: ∀(N i:Nat),b.2.1.length-i<N->i<=b.2.1.length->Zcb N b b (i:Int)=some (true,()):=by
  intro N
  induction N with
  |zero=>intro i h;omega
  |succ N ih=>
   intro i hN hi;unfold Zcb;by_cases hh:i<b.2.1.length
   ·rw[Zn (Zj (by omega)),Zb (by omega),Zb (by omega),Zm4 rfl,Ont,Ocf,Zs hh (by omega)];exact ih (i+1) (by omega) (by omega)
   ·rw[Zm (Zk (by omega))]
 unfold Zk1;simp only[bne_self_eq_false,Bool.or_self,Ocf];exact lp _ 0 (by unfold Zfa;omega) (by omega)
theorem Q29{K:Nat}{s:Zd}(h:Xc K s)(hK:K<=1000000):Zk3 s s=some (true,()):=by
 have g:=h.snd;have e0:=g.e0;have eK:=g.eK;have gc:=g.cells
 have hs:Zk2 s.2.1 s.2.1=some (true,()):=by
  unfold Zk2;simp only[beq_self_eq_true,Oct,Q8r _ (show s.2.1.2.1.2.2.2.1.length<=1048576 by omega),Bool.and_self,Obs,Qnt _ (Nat.le_trans (Qz g.pend e0 eK (show(K:Int)<=1000000 by omega)) (by omega)),Qnt _ (Nat.le_trans (Qz g.flight e0 eK (show(K:Int)<=1000000 by omega)) (by omega)),Qnt _ (Nat.le_trans (Qz g.acked e0 eK (show(K:Int)<=1000000 by omega)) (by omega))]
 have hr:Zhc s.2.2.2.1 s.2.2.2.1=some (true,()):=by
  unfold Zhc;simp only[beq_self_eq_true,Oct,Xas _ (show s.2.2.2.1.2.1.2.1.length<=1048576 by have:=h.rcv.len;omega),Bool.and_self,Obs]
 unfold Zk3;simp only[beq_self_eq_true,Oct,hs,hr,Zm4 (T:=Qu) rfl,Zm4 (T:=Yf) rfl,Zm4 (T:=Yz) rfl,Bool.and_self,Obs]
theorem Xat{K:Nat}{l:List Zd}(h:Zgj K l)(hK:K<=1000000):Zmh l l=some (true,()):=by
 have hl:=h.len;have lp: ∀(N i:Nat),l.length-i<N->i<=l.length->Zdg N l l (i:Int)=some (true,()):=by
  intro N
  induction N with
  |zero=>intro i h;omega
  |succ N ih=>
   intro i hN hi;unfold Zdg;by_cases hh:i<l.length
   ·rw[Zn (Zj (by omega)),Zb (by omega),Zb (by omega),Q29 (h.all _ (Qh (d:=Zh) (show(i:Int).toNat<l.length by omega))) hK,Obs,Ont,Ocf,Zs hh (by omega)];exact ih (i+1) (by omega) (by omega)
   ·rw[Zm (Zk (by omega))]
 unfold Zmh;simp only[bne_self_eq_false,Ocf];exact lp _ 0 (by unfold Zgs;omega) (by omega)
theorem Q7w{l:List Z8}(hl:l.length<=1000000)(K1: (List Z8×List Z8×Int×Unit)->Option (Bool×Unit))(i:Nat)(hi:i<l.length)(hf: (l.getD i Qg).2.1.length<=1000): ∀(N k:Nat),(l.getD i Qg).2.1.length-k<N->k<=(l.getD i Qg).2.1.length->Zai K1 N l l (i:Int) (k:Int)=K1 (l,l,((i+1:Nat):Int),())
 |0,_,h,_=>by omega
 |N+1,k,hN,hk=>by
  unfold Zai;have ei: (i:Int).toNat=i:=rfl;rw[Zb (by omega),ei];by_cases hh:k< (l.getD i Qg).2.1.length
  ·rw[Zn (Zj (by omega)),Zb (by omega),Zb (by omega),Zb (by omega),Zb (by omega),Zm4 rfl,Ont,Ocf,Zs hh (by omega)];exact Q7w hl K1 i hi hf N (k+1) (by omega) (by omega)
  ·rw[Zm (Zk (by omega)),Zs hi (by omega)]
theorem Xb7{K:Nat}{l:List Z8}(h:Qpu K l)(hK:K<=1000000):Zhh l l=some (true,()):=by
 have hl:=h.1;have lp: ∀(N i:Nat),l.length-i<N->i<=l.length->Zah N l l (i:Int)=some (true,()):=by
  intro N
  induction N with
  |zero=>intro i h;omega
  |succ N ih=>
   intro i hN hi;unfold Zah;by_cases hh:i<l.length
   ·have hf:=(h.2 _ (Qh (d:=Qg) hh)).1;rw[Zn (Zj (by omega)),Zb (by omega),Zb (by omega)];simp only[bne_self_eq_false];rw[Zb (fun _=>by omega),Zb (fun _=>by omega),Bool.or_self,Ocf];exact Eq.trans (Q7w (by omega) _ i hh hf (Wv l l (i:Int) 0) 0 (by unfold Wv;rw[show(i:Int).toNat=i from rfl];omega) (by omega)) (ih (i+1) (by omega) (by omega))
   ·rw[Zm (Zk (by omega))]
 unfold Zhh;simp only[bne_self_eq_false,Ocf];exact lp _ 0 (by unfold Zdp;omega) (by omega)
theorem Q7v{K:Nat}{c:Zg}(h:Qe K c)(hK:K<=1000000):Ym c c=some (true,()):=by
 unfold Ym;simp only[beq_self_eq_true,Zm4 (T:=Qu) rfl,Zm4 (T:=Yf) rfl,Zm4 (T:=Zks) rfl,Zm4 (T:=Zcs) rfl,Bool.and_self,Oct,Xat h.str hK,Xb7 h.pk hK,Obs]
end Go.Proofs.YtmlpcjbkbnkajaaGreat

/- FnErrors: the plain law, part 3. No condition. -/
import Derived.Test.YtgepmefongfeeaaGreatP2
namespace Go.Proofs.YtgepmefongfeeaaGreat
open Go.Am
set_option maxRecDepth 100000
set_option linter.unusedVariables false
theorem Q45(s:Zp):0<=stF s/\stF s<=3:=by
 have e:=Q1j s;unfold Za0 at e;revert e;generalize stF s=k;intro e;cases hA: (s.2.2.2.2.2.2.1==3)&& (s.2.1.2.1==s.2.1.2.2.1)
 ·revert e;rw[hA];simp only[Ocf]
  repeat' (rw[Bool.cond_eq_ite];split)
  all_goals intro e;cases e;omega
 ·rw[hA]at e;cases e;omega
theorem Q8q.st{s:Zp}(h:Q8q s):0<=s.1/\s.1<=5:=by
 by_cases a:s.1=4\/s.1=5
 ·omega
 ·have:=(h.no a).st;have:=Q45 s;omega
theorem Qw4{K:Int}{s:Zp}(h:Zb4 K s)(hK:K<=1000000)(code:Int):Znb s code=Zae s code:=by
 have a:=h.cells;unfold Znb Zae Zxq;rw[Que h hK,Xe2 h hK,Obs,Qk7 h hK,Zvh h hK];simp only[Zko,Z6e,K5,Obs,bO,bO2,bA,bA2,Kj,Zhj];cases hs:Q1i s
 ·rfl
 ·have g:=((Xe3 h hK).1 hs).st;have e: (decide (s.1>=0)&&decide (s.1<=2))= !decide (s.1>2):=by
   rw[Zk (p:=s.1>=0) (by omega),Ota,<-decide_not];exact decide_eq_decide.2 (by omega)
  rw[e];cases decide (s.1>2)<;>cases V6 code<;>rfl
noncomputable def Xgb(m:Option (Zp×Bool×Unit)):Zp×Bool×Unit:=match m with|some y=>y|none=>(Za1,false,())
noncomputable def Q1l(x:Zf)(f:Zi):Zp×Bool×Unit:=Xgb (Zae (atV x f.2.1).2.1 f.2.2.2.2.2.1)
abbrev Q1e(s:Zd)(d:Zp):Zd:=(s.1,(d,s.2.2))
abbrev Qsg(s:Zd):Zd:=(s.1,(s.2.1,(s.2.2.1,(s.2.2.2.1,(s.2.2.2.2.1,(s.2.2.2.2.2.1,(s.2.2.2.2.2.2.1,(s.2.2.2.2.2.2.2.1,(true,s.2.2.2.2.2.2.2.2.2)))))))))
noncomputable def Q1m(f:Zi)(x:Zf):Zf×Int×Unit:=bif(Q1l x f).2.1 then(fin (Zy6 x f.2.1 (Qsg (Q1e (atV x f.2.1) (Q1l x f).1))) f.2.1,0,())else(fin x f.2.1,0,())
theorem Xf8{K:Nat}{c:Zf}{f:Zi}(h:Qd K c)(hf:FOK f)(h25:25<=K)(hK:K<=390000):Zbd c f=some (pre c f (f.1==5) (Qw6 c.1 f.2.1) (Q1m f),()):=by
 unfold FOK at hf;unfold Zbd Vc pre;simp only[Qho h (by omega),Zta hf,J2 h (by omega),bO,bO2,Obs,Q3i];cases hc:Ztm c
 ·rfl
 cases hk:Y7 f
 ·rfl
 rw[bne];cases hg:f.1==5
 ·rfl
 simp only[Ont,Bool.or_self,Ocf,Bool.and_self,Oct];cases Qw6 c.1 f.2.1
 ·rfl
 simp only[Ont,Ocf,Oct];obtain⟨g,p,q,r⟩:=okF hk;rw[Qeq h hc h25 (by omega) g,Obs,bne];cases h0: (Zdw c f.2.1).1==0
 ·rfl
 have E:EnF K (Zdw c f.2.1).2 f.2.1:=by
  have e:=Zwm h hc h25 (by omega) g (by simpa using h0);exact⟨Zwn h hc h25 (by omega) g,e.1,e.2.1⟩
 simp only[Ont,Ocf,Oct];generalize (Zdw c f.2.1).2=x at E⊢;obtain⟨j,s,k⟩:=E.mem (by omega);have i:=E.inv.str.all _ j;have F:=E.con.st E.inv (by omega) j;rw[Zzq E.inv (by omega),if_pos E.idx,Obs];obtain⟨d,v,e,l⟩:=Zw7 i.snd f.2.2.2.2.2.1 (by omega);have n:Q1l x f=(d,v,()):=by unfold Q1l;rw[e];rfl
 simp only;unfold Q1m;rw[e,Obs,n];cases v
 ·have hx:Zy6 x f.2.1 (atV x f.2.1)=x:=by
   show(x.1,(x.2.1,(x.2.2.1,(x.2.2.2.1.set (Yq x.2.2.2.1 f.2.1).toNat (x.2.2.2.1.getD (Yq x.2.2.2.1 f.2.1).toNat Zj),x.2.2.2.2))))=x;rw[Q74]
  have b:=Q3g (x:=x) (id:=f.2.1) (K:=K) E.inv i (by omega) k E.idx;rw[hx]at b;exact Eq.trans (congrArg (fun m:Option (Unit×Zf×Unit)=>Option.bind m fun a=>some ((a.2.1,((0:Int),())),())) b) rfl
 ·have o:Xq K (Qsg (Q1e (atV x f.2.1) d)):=⟨l,i.rcv⟩
  have b:=Q3g (x:=x) (id:=f.2.1) (K:=K) E.inv o (by omega) k E.idx;exact Eq.trans (congrArg (fun m:Option (Unit×Zf×Unit)=>Option.bind m fun a=>some ((a.2.1,((0:Int),())),())) b) rfl
set_option maxHeartbeats 2000000 in
theorem Xf6{K:Nat}{c:Zf}{f:Zi}(h:Qd K c)(hf:FOK f)(h25:25<=K)(hK:K<=390000):Zos c f=some (pre c f (f.1==5) (Qw6 c.1 f.2.1) (Q1m f)):=by
 unfold FOK at hf;unfold Zos pre;simp only[Qe6 h (by omega),Qho h (by omega),Zyi hf,Zux h (by omega),bO,bO2,Kj,Obs,Xbk,Q3i];cases hc:Ztm c
 ·rfl
 cases hk:Y7 f
 ·rfl
 cases hg:f.1==5
 ·rfl
 simp only[Ont,Bool.or_self,Ocf,Bool.and_self,Oct];cases Qw6 c.1 f.2.1
 ·rfl
 simp only[Ont,Ocf,Oct];obtain⟨b,n,o,p⟩:=okF hk;rw[Qn9 h hc h25 (by omega),Obs,bne];cases h0: (Zdw c f.2.1).1==0
 ·rfl
 have E:EnF K (Zdw c f.2.1).2 f.2.1:=by
  have e:=Zwm h hc h25 (by omega) b (by simpa using h0);exact⟨Zwn h hc h25 (by omega) b,e.1,e.2.1⟩
 simp only[Ont,Ocf,Oct];generalize (Zdw c f.2.1).2=x at E⊢;obtain⟨g,i,q⟩:=E.mem (by omega);have a:=E.inv.str.all _ g;have F:=E.con.st E.inv (by omega) g;have r:=E.inv.str.len;have s:=E.idx;rw[Qes (by omega),Qex (by omega),Obs];simp only;rw[Zb (by omega)];obtain⟨d,v,e,j⟩:=Zw7 a.snd f.2.2.2.2.2.1 (by omega);have k:Q1l x f=(d,v,()):=by unfold Q1l;rw[e];rfl
 unfold Q1m;rw[Qw4 a.snd (by omega),e,Obs,k];cases v
 ·have hx:=Xaf (K:=K) (x:=x) E.inv.str (by omega) E.idx;unfold Q1d at hx;rw[Qes (by omega),Qex (by omega)]at hx;simp only[Ocf];exact hx
 ·have m:Xq K (Qsg (Q1e (atV x f.2.1) d)):=⟨j,a.rcv⟩
  refine Eq.trans (show _=(fun l:List Zd=>Q1d (Qn1 x (l.set (Yq x.2.2.2.1 f.2.1).toNat (Qsg (l.getD (Yq x.2.2.2.1 f.2.1).toNat Zj)))) f.2.1) (x.2.2.2.1.set (Yq x.2.2.2.1 f.2.1).toNat (Q1e (atV x f.2.1) d))from rfl) ?_;simp only[Z3u i,List.set_set];refine Xaf (K:=K) (x:=Zy6 x f.2.1 (Qsg (Q1e (atV x f.2.1) d))) (E.inv.str.set m _) (by omega) ?_;show 0<=Yq (x.2.2.2.1.set (Yq x.2.2.2.1 f.2.1).toNat (Qsg (Q1e (atV x f.2.1) d))) f.2.1;rw[show Yq (x.2.2.2.1.set (Yq x.2.2.2.1 f.2.1).toNat (Qsg (Q1e (atV x f.2.1) d))) f.2.1=Yq x.2.2.2.1 f.2.1 from Qey _ rfl];exact E.idx
abbrev Qzc(s:Zd)(c:Wb):Zd:=(s.1,(s.2.1,(c,s.2.2.2)))
noncomputable def mlX(f:Zi)(x:Zf):Zf×Int×Unit:=(Zy6 x f.2.1 (Qzc (atV x f.2.1) (rlV (atV x f.2.1).2.2.1 f.2.2.2.2.2.2.1)),0,())
def Xga(c:Zf)(n:Int):Zf:=(c.1,(c.2.1,(c.2.2.1,(c.2.2.2.1,(rlV c.2.2.2.2.1 n,c.2.2.2.2.2)))))
def Q51(c:Zf)(u:Bool)(n:Int):Zf:=bif u then(c.1,(c.2.1,(c.2.2.1,(c.2.2.2.1,(c.2.2.2.2.1,(c.2.2.2.2.2.1,(c.2.2.2.2.2.2.1,(rcV c.2.2.2.2.2.2.2.1 n,c.2.2.2.2.2.2.2.2))))))))else(c.1,(c.2.1,(c.2.2.1,(c.2.2.2.1,(c.2.2.2.2.1,(c.2.2.2.2.2.1,(rcV c.2.2.2.2.2.2.1 n,c.2.2.2.2.2.2.2)))))))
noncomputable def Q0n(c:Zf)(f:Zi):Zf×Int×Unit:=bif f.1==17 then pre c f true (Qw6 c.1 f.2.1) (mlX f)else bif f.1==21 then pre c f true (Qb5 c.1 f.2.1) (fun x=>(x,0,()))else bif Ztm c&&Y7 f then bif f.1==16 then(Xga c f.2.2.2.2.2.2.1,0,())else bif f.1==18 then(Q51 c f.2.2.2.2.2.2.2.2.1 f.2.2.2.2.2.2.1,0,())else bif(f.1==20)|| (f.1==22)then(c,0,())else(c,7,()) else(c,7,())
theorem Q66{f:Zi}(h:Y7 f=true):f.1=4\/f.1=5\/f.1=8\/f.1=17\/f.1=21\/f.1=18\/f.1=22\/f.1=16\/f.1=20:=by
 unfold Y7 Xu at h;simp only[Oba]at h;have h:=h.1.1.1.1.1.1.1;by_cases d:f.1=4
 ·exact .inl d
 by_cases e:f.1=5
 ·omega
 by_cases g:f.1=8
 ·omega
 by_cases a:f.1=17\/f.1=21
 ·omega
 by_cases b:f.1=18\/f.1=22
 ·omega
 by_cases c:f.1=16\/f.1=20
 ·omega
 rw[Zm (by simpa using d),Zm (by simpa using e),Zm (by simpa using g),Zm (by simpa using a),Zm (by simpa using b),Zm (by simpa using c)]at h;cases h
theorem Xfz{K:Nat}{c:Zf}{f:Zi}(h:Qd K c)(hf:FOK f)(h25:25<=K)(hK:K<=390000):Zaa c f=some (Q0n c f):=by
 unfold FOK at hf;unfold Zaa Za5 Jk Jl Zhv Zaf Zez Q0n pre;simp only[J2 h (show K<=1000000 by omega),Qho h (show K<=1000000 by omega),Zta hf,bO,bO2,Obs,Q3i,Qry,Xc1,Xab];cases hc:Ztm c
 ·cases f.1==17<;>cases f.1==21<;>rfl
 cases hk:Y7 f
 ·cases f.1==17<;>cases f.1==21<;>rfl
 obtain⟨d,q,r,s⟩:=okF hk;rw[Qeq h hc h25 (by omega) d];have E: (Zdw c f.2.1).1=0->EnF K (Zdw c f.2.1).2 f.2.1:=fun b=>by
  have e:=Zwm h hc h25 (by omega) d b;exact⟨Zwn h hc h25 (by omega) d,e.1,e.2.1⟩
 rcases Q66 hk with k|k|k|k|k|k|k|k|k<;>rw[k]<;>simp only[Int.reduceBEq,Oct,Ocf,Ont,Bool.or_self,Bool.and_self,Bool.or_true,Bool.or_false,Obs,bne]
 ·cases Qw6 c.1 f.2.1
  ·rfl
  cases b: (Zdw c f.2.1).1==0
  ·rfl
  have E:=E (by simpa using b);simp only[Ont,Ocf,Oct];generalize (Zdw c f.2.1).2=x at E⊢;obtain⟨l,t,n⟩:=E.mem (by omega);have i:=E.inv.str.all _ l;rw[Zzq E.inv (by omega),if_pos E.idx,Obs];have o:Xq K (Qzc (atV x f.2.1) (rlV (atV x f.2.1).2.2.1 f.2.2.2.2.2.2.1)):=⟨i.snd,i.rcv⟩
  have j:=Qw0 E.inv.str o (by omega);have p:Zxw x.2.2.2.1 (Qzc (atV x f.2.1) (rlV (atV x f.2.1).2.2.1 f.2.2.2.2.2.2.1))=x.2.2.2.1.set (Yq x.2.2.2.1 f.2.1).toNat (Qzc (atV x f.2.1) (rlV (atV x f.2.1).2.2.1 f.2.2.2.2.2.2.1)):=by
   unfold Zxw;rw[show(Qzc (atV x f.2.1) (rlV (atV x f.2.1).2.2.1 f.2.2.2.2.2.2.1)).1=f.2.1 from n,if_pos E.idx]
  rw[p]at j;exact Eq.trans (congrArg (fun m:Option (List Zd×Unit)=>Option.bind (Option.bind m fun g=>(some ((x.1,(x.2.1,(x.2.2.1,(g.1,x.2.2.2.2)))),(0:Int),()):Option (Zf×Int×Unit))) fun a=>some (a.1,a.2.1,())) j) rfl
 ·cases Qb5 c.1 f.2.1
  ·rfl
  cases b: (Zdw c f.2.1).1==0
  ·rfl
  ·rfl
 ·unfold Q51;cases f.2.2.2.2.2.2.2.2.1<;>rfl
 ·rfl
theorem Xfx{K:Nat}{c:Zf}{f:Zi}(h:Qd K c)(hf:FOK f)(h25:25<=K)(hK:K<=390000):Zm7 c f=some (Q0n c f):=by
 unfold FOK at hf;have d: ∀x u,Zj9 x u=some (u,(x,())):=fun x u=>by unfold Zj9;cases u<;>rfl
 unfold Zm7 Q0n pre;simp only[Zux h (show K<=1000000 by omega),Qe6 h (show K<=1000000 by omega),Qho h (show K<=1000000 by omega),Zyi hf,bO,bO2,Obs,Xbk,Q70,Q3i,Qry,Xc0,Xaa,d];cases hc:Ztm c
 ·cases f.1==17<;>cases f.1==21<;>rfl
 cases hk:Y7 f
 ·cases f.1==17<;>cases f.1==21<;>rfl
 obtain⟨b,g,i,j⟩:=okF hk;simp only[Qn9 h hc h25 (show K<=400000 by omega)];have E: (Zdw c f.2.1).1=0->EnF K (Zdw c f.2.1).2 f.2.1:=fun a=>by
  have e:=Zwm h hc h25 (by omega) b a;exact⟨Zwn h hc h25 (by omega) b,e.1,e.2.1⟩
 rcases Q66 hk with k|k|k|k|k|k|k|k|k<;>rw[k]<;>simp only[Int.reduceBEq,Oct,Ocf,Ont,Bool.not_false,Bool.or_self,Bool.and_self,Bool.or_true,Bool.or_false,Obs,bne,Bool.and_false,Bool.and_true]
 ·cases Qw6 c.1 f.2.1
  ·rfl
  cases a: (Zdw c f.2.1).1==0
  ·rfl
  have E:=E (by simpa using a);simp only[Ont,Ocf,Oct];generalize (Zdw c f.2.1).2=x at E⊢;obtain⟨l,m,n⟩:=E.mem (by omega);have o:=E.inv.str.len;have p:=E.idx;rw[Qes (by omega),Qex (by omega),Obs];simp only;rw[Zb (by omega)];rfl
 ·cases Qb5 c.1 f.2.1
  ·rfl
  cases a: (Zdw c f.2.1).1==0
  ·rfl
  ·rfl
 ·unfold Q51;cases f.2.2.2.2.2.2.2.2.1<;>rfl
 ·rfl
noncomputable def Z0a(c:Zf)(f:Zi):Zf×Int×Unit:=bif f.1==8 then pre c f (f.1==8) (Qb5 c.1 f.2.1) (Qdg c f)else bif f.1==4 then pre c f (f.1==4) (Qb5 c.1 f.2.1) (Q07 c f)else bif f.1==5 then pre c f (f.1==5) (Qw6 c.1 f.2.1) (Q1m f)else Q0n c f
theorem Xcd{K:Nat}{c:Zf}{f:Zi}(h:Qd K c)(hf:FOK f)(h25:25<=K)(hK:K<=390000):Jg c f=some (Z0a c f,()):=by
 unfold Jg Jj Z0a;rw[J2 h (by omega),Obs,Xd4 h hf h25 hK,Xf5 h hf h25 hK,Xf8 h hf h25 hK,Xfz h hf h25 hK];cases f.1==8<;>cases f.1==4<;>cases f.1==5<;>rfl
theorem Xfu{K:Nat}{c:Zf}{f:Zi}(h:Qd K c)(hf:FOK f)(h25:25<=K)(hK:K<=390000):Zm6 c f=some (Z0a c f):=by
 unfold Zm6 Z0a;rw[Xa4 h hf h25 hK,Xf3 h hf h25 hK,Xf6 h hf h25 hK,Xfx h hf h25 hK];cases f.1==8<;>cases f.1==4<;>cases f.1==5<;>rfl
theorem LF.mono{K:Nat}{S S' H H':Int}{l:List Zd}(L:LF K S H l)(h1:S<=S')(h2:H<=H'):LF K S' H' l:=⟨L.inv,L.all,L.srt,Int.le_trans L.snt h1,Int.le_trans L.hgh h2⟩
theorem LF.set{K K':Nat}{S H d:Int}{l:List Zd}(L:LF K S H l)(hk:K<=K'){i:Nat}(hi:i<l.length){s:Zd}(hs:Xq K' s)(F:StF s)(e:s.1=(l.getD i Zj).1)(h1:Zy9 s<=Zy9 (l.getD i Zj))(h2:Z0b s<=Z0b (l.getD i Zj)+d):LF K' S (H+d) (l.set i s):=by
 refine⟨(L.inv.mono hk).set hs i,fun x hx=> ?_,?_,?_,?_⟩
 ·rcases List.mem_or_eq_of_mem_set hx with h|h
  ·exact L.all x h
  ·rw[h];exact F
 ·have e:=Zuo (g:=fun s:Zd=>s.1) (s:=s) (l:=l) (i:=i) (d:=Zj) e;exact List.pairwise_map.1 (by rw[e];exact List.pairwise_map.2 L.srt)
 ·rw[Z5y hi];have:=L.snt;omega
 ·rw[Z5y hi];have:=L.hgh;omega
theorem EnF.set{K K':Nat}{x:Zf}{id:Int}(h:EnF K x id)(hk:K<=K')(hK:K'<=900000){w:Qw}{s:Zd}{d:Int}(hs:Xq K' s)(F:StF s)(e:s.1=id)(h1:Zy9 s<=Zy9 (atV x id))(h2:Z0b s<=Z0b (atV x id)+d)(W:Q8s w)(hw:w.2.2.2.1=x.2.2.2.2.2.1.2.2.2.1+d):EnF K' (Zy6 (Zui x w) id s) id:=by
 obtain⟨g,c,b⟩:=h.mem (by omega);have L:=(h.con.LF h.inv (by omega)).set (d:=d) hk c hs F (by rw[e];exact b.symm) h1 h2;have a:Yq (x.2.2.2.1.set (Yq x.2.2.2.1 id).toNat s) id=Yq x.2.2.2.1 id:=Qey id (by rw[e];exact b.symm);have f:=(Q46.1 h.con.sts).len;exact⟨⟨L.inv,h.inv.pk.mono hk⟩,Q7i h.con (by omega) rfl rfl (L.mono (Int.le_refl _) (by simp only;omega)) (by simp only[List.length_set];exact f) (Q31.1 h.con.tot) W h.con.ob h.con.ou (Qot.1 h.con.ab) (Qot.1 h.con.au) rfl,by show 0<=Yq (x.2.2.2.1.set (Yq x.2.2.2.1 id).toNat s) id;rw[a];exact h.idx⟩
def plT:Ty->Bool| .unit=>true| .int _=>true| .bool=>true| .str=>true| .pair a b=>plT a&&plT b|_=>false
theorem Zn9: ∀{T:Ty},plT T=true-> ∀x:T.den,eqV T x x=true:=fun {T}=>by
 induction T with
 |int k=>intro _ x;simp[eqV]
 |bool=>intro _ x;simp[eqV]
 |str=>intro _ x;simp[eqV]
 |unit=>intro _ x;rfl
 |pair a b c d=>
  intro h x;simp only[plT,Oba]at h;simp only[eqV,c h.1,d h.2,Bool.and_self]
 |_=>intro h;cases h
theorem Xb2(r:Yv)(hl:r.2.2.2.1.length<=1048576):Zo3 r r=some (true,()):=by
 have a: ∀(N i:Nat),r.2.2.2.1.length-i<N->i<=r.2.2.2.1.length->Zfl N r r (i:Int)=some (true,()):=by
  intro N
  induction N with
  |zero=>intro i h;omega
  |succ N b=>
   intro i d e;unfold Zfl;by_cases c:i<r.2.2.2.1.length
   ·rw[Zn (Zk (by omega)),Zb (by omega),Zb (by omega),bne_self_eq_false,Ocf,Zt c (by omega)];exact b (i+1) (by omega) (by omega)
   ·rw[Zm (Zl (by omega))]
 unfold Zo3;simp only[bne_self_eq_false,Bool.or_self,Ocf];exact a _ 0 (by unfold Zjb;omega) (by omega)
theorem Qqq(l:List Zh)(hl:l.length<=1048576):Zes l l=some (true,()):=by
 have a: ∀(N i:Nat),l.length-i<N->i<=l.length->Zd3 N l l (i:Int)=some (true,()):=by
  intro N
  induction N with
  |zero=>intro i h;omega
  |succ N b=>
   intro i d e;unfold Zd3;by_cases c:i<l.length
   ·rw[Zn (Zk (by omega)),Zb (by omega),Zb (by omega),Zn9 rfl,Ont,Ocf,Zt c (by omega)];exact b (i+1) (by omega) (by omega)
   ·rw[Zm (Zl (by omega))]
 unfold Zes;simp only[bne_self_eq_false,Ocf];exact a _ 0 (by unfold Zhq;omega) (by omega)
theorem Xd8(b:Zs)(hl:b.2.1.length<=1048576):Zly b b=some (true,()):=by
 have a: ∀(N i:Nat),b.2.1.length-i<N->i<=b.2.1.length->Zcz N b b (i:Int)=some (true,()):=by
  intro N
  induction N with
  |zero=>intro i h;omega
  |succ N c=>
   intro i e f;unfold Zcz;by_cases d:i<b.2.1.length
   ·rw[Zn (Zk (by omega)),Zb (by omega),Zb (by omega),Zn9 rfl,Ont,Ocf,Zt d (by omega)];exact c (i+1) (by omega) (by omega)
   ·rw[Zm (Zl (by omega))]
 unfold Zly;simp only[bne_self_eq_false,Bool.or_self,Ocf];exact a _ 0 (by unfold Zga;omega) (by omega)
theorem Q6f{K:Nat}{s:Zd}(h:Xq K s)(hK:K<=1000000):Zl0 s s=some (true,()):=by
 have g:=h.snd;have a:=g.e0;have b:=g.eK;have e:=g.cells
 have c:Zlz s.2.1 s.2.1=some (true,()):=by
  unfold Zlz;simp only[beq_self_eq_true,Oct,Xb2 _ (show s.2.1.2.1.2.2.2.1.length<=1048576 by omega),Bool.and_self,Obs,Qqq _ (Nat.le_trans (Q5 g.pend a b (show(K:Int)<=1000000 by omega)) (by omega)),Qqq _ (Nat.le_trans (Q5 g.flight a b (show(K:Int)<=1000000 by omega)) (by omega)),Qqq _ (Nat.le_trans (Q5 g.acked a b (show(K:Int)<=1000000 by omega)) (by omega))]
 have d:Zia s.2.2.2.1 s.2.2.2.1=some (true,()):=by
  unfold Zia;simp only[beq_self_eq_true,Oct,Xd8 _ (show s.2.2.2.1.2.1.2.1.length<=1048576 by have:=h.rcv.len;omega),Bool.and_self,Obs]
 unfold Zl0;simp only[beq_self_eq_true,Oct,c,d,Zn9 (T:=Q1) rfl,Zn9 (T:=Yo) rfl,Zn9 (T:=Y5) rfl,Bool.and_self,Obs]
theorem Xea{K:Nat}{l:List Zd}(h:Zhh K l)(hK:K<=1000000):Zni l l=some (true,()):=by
 have e:=h.len;have a: ∀(N i:Nat),l.length-i<N->i<=l.length->Zd4 N l l (i:Int)=some (true,()):=by
  intro N
  induction N with
  |zero=>intro i h;omega
  |succ N b=>
   intro i f g;unfold Zd4;by_cases c:i<l.length
   ·rw[Zn (Zk (by omega)),Zb (by omega),Zb (by omega),Q6f (h.all _ (Qh (d:=Zj) (show(i:Int).toNat<l.length by omega))) hK,Obs,Ont,Ocf,Zt c (by omega)];exact b (i+1) (by omega) (by omega)
   ·rw[Zm (Zl (by omega))]
 unfold Zni;simp only[bne_self_eq_false,Ocf];exact a _ 0 (by unfold Zhr;omega) (by omega)
theorem Xa7{l:List Z9}(hl:l.length<=1000000)(K1: (List Z9×List Z9×Int×Unit)->Option (Bool×Unit))(i:Nat)(hi:i<l.length)(hf: (l.getD i Qk).2.1.length<=1000): ∀(N k:Nat),(l.getD i Qk).2.1.length-k<N->k<=(l.getD i Qk).2.1.length->Zay K1 N l l (i:Int) (k:Int)=K1 (l,l,((i+1:Nat):Int),())
 |0,_,h,_=>by omega
 |N+1,k,c,hk=>by
  unfold Zay;have a: (i:Int).toNat=i:=rfl;rw[Zb (by omega),a];by_cases b:k< (l.getD i Qk).2.1.length
  ·rw[Zn (Zk (by omega)),Zb (by omega),Zb (by omega),Zb (by omega),Zb (by omega),Zn9 rfl,Ont,Ocf,Zt b (by omega)];exact Xa7 hl K1 i hi hf N (k+1) (by omega) (by omega)
  ·rw[Zm (Zl (by omega)),Zt hi (by omega)]
theorem Xft{K:Nat}{l:List Z9}(h:Qso K l)(hK:K<=1000000):Zie l l=some (true,()):=by
 have f:=h.1;have b: ∀(N i:Nat),l.length-i<N->i<=l.length->Zax N l l (i:Int)=some (true,()):=by
  intro N
  induction N with
  |zero=>intro i h;omega
  |succ N c=>
   intro i g j;unfold Zax;by_cases a:i<l.length
   ·have e:=(h.2 _ (Qh (d:=Qk) a)).1;rw[Zn (Zk (by omega)),Zb (by omega),Zb (by omega)];simp only[bne_self_eq_false];rw[Zb (fun _=>by omega),Zb (fun _=>by omega),Bool.or_self,Ocf];exact Eq.trans (Xa7 (by omega) _ i a e (Zai l l (i:Int) 0) 0 (by unfold Zai;rw[show(i:Int).toNat=i from rfl];omega) (by omega)) (c (i+1) (by omega) (by omega))
   ·rw[Zm (Zl (by omega))]
 unfold Zie;simp only[bne_self_eq_false,Ocf];exact b _ 0 (by unfold Zee;omega) (by omega)
theorem Xd9{K:Nat}{c:Zf}(h:Qd K c)(hK:K<=1000000):Zo2 c c=some (true,()):=by
 unfold Zo2;simp only[beq_self_eq_true,Zn9 (T:=Q1) rfl,Zn9 (T:=Yo) rfl,Zn9 (T:=Zlp) rfl,Zn9 (T:=Zdg) rfl,Bool.and_self,Oct,Xea h.str hK,Xft h.pk hK,Obs]
theorem orQ{a b:Int}{n:Nat}(hn:n<=62)(ha:0<=a)(ha':a< (2^n:Nat))(hb:0<=b)(hb':b< (2^n:Nat)):0<=bits .or .i64 a b/\bits .or .i64 a b< (2^n:Nat):=by
 have h:bits .or .i64 a b=IntKind.i64.wrap (((BitVec.ofInt 64 a|||BitVec.ofInt 64 b).toNat:Nat):Int):=rfl;have c:2^n<=2^62:=Nat.pow_le_pow_right (by omega) hn;have e: ∀x:Int,0<=x->x< (2^n:Nat)->(BitVec.ofInt 64 x).toNat=x.toNat:=fun x d g=>by
  rw[BitVec.toNat_ofInt];have: ((2^n:Nat):Int)<=((2^62:Nat):Int):=by exact_mod_cast c
  rw[Int.emod_eq_of_lt d (by omega)]
 have f: (BitVec.ofInt 64 a|||BitVec.ofInt 64 b).toNat<2^n:=by
  rw[BitVec.toNat_or,e a ha ha',e b hb hb'];exact Nat.or_lt_two_pow (by omega) (by omega)
 rw[h,Zr (by omega) (by omega)];constructor
 ·omega
 ·exact_mod_cast f
theorem Xdz(b:UInt8):0<=IntKind.i64.wrap (bits .and .u8 (b.toNat:Int) 63)/\IntKind.i64.wrap (bits .and .u8 (b.toNat:Int) 63)<64:=by
 have h:bits .and .u8 (b.toNat:Int) 63=IntKind.u8.wrap (((BitVec.ofInt 8 (b.toNat:Int)&&&BitVec.ofInt 8 63).toNat:Nat):Int):=rfl;have c: (BitVec.ofInt 8 (b.toNat:Int)&&&BitVec.ofInt 8 63).toNat<=63:=by
  rw[BitVec.toNat_and];exact Nat.le_trans Nat.and_le_right (by decide)
 have a:IntKind.u8.wrap (((BitVec.ofInt 8 (b.toNat:Int)&&&BitVec.ofInt 8 63).toNat:Nat):Int)=(((BitVec.ofInt 8 (b.toNat:Int)&&&BitVec.ofInt 8 63).toNat:Nat):Int):=by
  simp only[IntKind.wrap,IntKind.bits,IntKind.signed,Bool.false_and,Bool.false_eq_true,if_false];omega
 rw[h,a,Zr (by omega) (by omega)];omega
def QR(s:List UInt8)(at':Int)(r:Int×Int×Bool×Unit):Prop:=r.2.2.1=true->0<=r.1/\r.1<4611686018427387904/\at'<r.2.1/\r.2.1<=s.length
theorem Q57(s:List UInt8)(hs:s.length<=1000000)(a k:Nat)(hk:k<=8)(h1:1<=k)(ha:a+k<=s.length): ∀(N i:Nat) (n:Int),k-i<N->1<=i->i<=k->0<=n->n< (2^ (8*i-2):Nat)->T (Wo N s (a:Int) (k:Int) n (i:Int)) (QR s a)
 |0,_,_,h,_,_,_,_=>by omega
 |N+1,i,n,p,q,g,r,t=>by
  unfold Wo;refine T.ite (fun c=> ?_) fun c=>T.pure fun _=> ?_
  ·have c:=Ode c;have e:IntKind.i64.wrap ((a:Int)+i)=((a+i:Nat):Int):=by rw[Zr (by omega) (by omega)];omega
   have j:IntKind.i64.wrap ((i:Int)+1)=((i+1:Nat):Int):=by rw[Zr (by omega) (by omega)];omega
   rw[e,j];refine T.guard (by omega) (T.guard (by omega) ?_);have u:=(s.getD (a+i) 0).toNat_lt;have v:2^ (8* (i+1)-2)=2^ (8*i-2)*256:=by rw[show 8* (i+1)-2=8*i-2+8 by omega,Nat.pow_add]
   have l:2^14<=2^ (8* (i+1)-2):=Nat.pow_le_pow_right (by omega) (by omega);have d:2^ (8* (i+1)-2)<=2^62:=Nat.pow_le_pow_right (by omega) (by omega);have m:IntKind.i64.wrap (n*2^ (min (8:Int).toNat IntKind.i64.bits))=n*256:=by
    rw[show(min (8:Int).toNat IntKind.i64.bits)=8 from rfl,show(2:Int)^8=256 from rfl];exact Zr (by omega) (by omega)
   have f:IntKind.i64.wrap ((s.getD ((a+i:Nat):Int).toNat 0).toNat:Int)=((s.getD (a+i) 0).toNat:Int):=by
    rw[show((a+i:Nat):Int).toNat=a+i from rfl];exact Zr (by omega) (by omega)
   rw[m,f];have o:=orQ (a:=n*256) (b:=((s.getD (a+i) 0).toNat:Int)) (n:=8* (i+1)-2) (by omega) (by omega) (by omega) (by omega) (by omega);exact Q57 s hs a k hk h1 ha N (i+1) _ (by omega) (by omega) (by omega) o.1 o.2
  ·have c:=of_decide_eq_false c;have d:2^ (8*i-2)<=2^62:=Nat.pow_le_pow_right (by omega) (by omega);simp only;rw[Zr (by omega) (by omega)];omega
theorem Q33(s:List UInt8)(hs:s.length<=1000000)(a:Int)(ha: -1000000<=a/\a<=1000000):T (Xb s a) (QR s a):=by
 unfold Xb;refine T.ite (fun _=>T.pure (by unfold QR;simp)) fun e=> ?_;simp at e;obtain⟨a,rfl⟩:=Int.eq_ofNat_of_zero_le e.1;refine T.guard (by omega) (T.guard (by omega) ?_);have j:=(s.getD a 0).toNat_lt;have g: ((2:Int)^ (min (6:Int).toNat IntKind.u8.bits))=64:=rfl;simp only[g,show(a:Int).toNat=a from rfl];have i: ((s.getD a 0).toNat:Int).fdiv 64=(((s.getD a 0).toNat/64:Nat):Int):=by
  rw[Int.fdiv_eq_ediv_of_nonneg _ (by omega)];rfl
 rw[i];have f: (s.getD a 0).toNat/64<=3:=by omega
 obtain⟨k,b,c,hk⟩: ∃k:Nat,1<=k/\k<=8/\IntKind.i64.wrap (1*2^ (min (((s.getD a 0).toNat/64:Nat):Int).toNat IntKind.i64.bits))=(k:Int):=by
  generalize (s.getD a 0).toNat/64=q at f
  match q,f with
  |0,_=>exact⟨1,by omega,by omega,rfl⟩
  |1,_=>exact⟨2,by omega,by omega,rfl⟩
  |2,_=>exact⟨4,by omega,by omega,rfl⟩
  |3,_=>exact⟨8,by omega,by omega,rfl⟩
  |n+4,h=>omega
 refine T.guard (by omega) ?_;rw[hk];refine T.ite (fun _=>T.pure (by unfold QR;simp)) fun d=>T.guard (by omega) ?_;have d:=of_decide_eq_false d;rw[Zr (by omega) (by omega)]at d;have m:=Xdz (s.getD a 0);exact Q57 s hs a k c b (by omega) _ 1 _ (by unfold Zi6;omega) (by omega) b m.1 (by simpa using m.2)
def RR(s:List UInt8)(a:Int)(n:Nat)(r:List Int×Int×Bool×Unit):Prop:=0<r.1.length/\r.1.length<=3/\(r.2.2.1=true->a<r.2.1/\r.2.1<=s.length/\r.1.length=n)
theorem Q7y(s:List UInt8)(hs:s.length<=1000000)(a:Int)(n:Nat)(h1:1<=n)(h3:n<=3): ∀(N i:Nat) (b:Int) (out:List Int),n-i<N->i<=n->out.length=i->(-1000000<=b/\b<=1000000)->(i=0->b=a)->(0<i->a<b/\b<=s.length)->T (Zaz N s b (n:Int) out (i:Int)) (RR s a n)
 |0,_,_,_,h,_,_,_,_,_=>by omega
 |N+1,i,b,out,j,k,l,g,e,d=>by
  unfold Zaz;refine T.ite (fun c=> ?_) fun c=>T.pure ⟨by simp only;have:=of_decide_eq_false c;omega,by simp only;omega,fun _=> ?_⟩
  ·have c:=Ode c;refine(Q33 s hs b g).bind fun r f=>T.ite (fun _=>T.pure ⟨by simp,by simp,by simp⟩) fun hk=>T.guard (by unfold Qo;simp only[List.length_singleton];omega) ?_;have f:=f (by simpa using hk);rw[Zr (n:=(i:Int)+1) (by omega) (by omega)];exact Q7y s hs a n h1 h3 N (i+1) _ _ (by omega) (by omega) (by simp;omega) (by omega) (by omega) (fun _=>by
    by_cases h:i=0
    ·have:=e h;omega
    ·have:=d (by omega);omega)
  ·have c:=of_decide_eq_false c;have:=d (by omega);simp only;omega
theorem Wi(s:List UInt8)(hs:s.length<=1000000)(a:Int)(ha: -1000000<=a/\a<=1000000)(n:Nat)(h1:1<=n)(h3:n<=3):T (Zah s a (n:Int)) (RR s a n):=by
 unfold Zah;exact Q7y s hs a n h1 h3 _ 0 a [] (by unfold Za6;omega) (by omega) rfl ha (fun _=>rfl) (by omega)
def FR(s:List UInt8)(a:Int)(r:Zi×Int×Bool×Unit):Prop:=r.2.2.1=true->a<r.2.1/\r.2.1<=s.length/\(r.1.2.2.2.1.length:Int)+1<=r.2.1-a
theorem FR.no{s:List UInt8}{a:Int}{f:Zi}{i:Int}:FR s a (f,i,false,()):=by unfold FR;simp
theorem Qyh(s:List UInt8)(hs:s.length<=1000)(a:Int)(ha:0<=a/\a<=s.length)(k:Int):T (Zhx s a k) (FR s a):=by
 have d: ∀(t f:Zi) (n z:Int),a<n->0<=z->n+z<=s.length->T (Zch s t f n z) (FR s a):=fun t f n z c e l=>by
  unfold Zch;rw[Zr (n:=n+z) (by omega) (by omega)];have m: (((s.drop n.toNat).take ((n+z).toNat-n.toNat)).length:Int)<=z:=by rw[List.length_take];omega
  exact T.guard (by omega) ((Zwv (by unfold FOK;simp only;omega)).bind fun r _=>T.if (T.pure FR.no) (T.pure fun _=>by simp only;omega))
 have g: ∀(t f:Zi) (n:Int),a<n->n<=s.length->T (Zcg s k t f n) (FR s a):=fun t f n c e=>by
  unfold Zcg;refine T.if ((Q33 s (by omega) n (by omega)).bind fun r b=>T.ite (fun _=>T.pure FR.no) fun hk=> ?_) ?_
  ·simp at hk;have b:=b hk.1;have h:=hk.2;rw[Zr (by omega) (by omega)]at h;exact d _ _ _ _ (by omega) (by omega) (by omega)
  ·rw[Zr (by omega) (by omega)];exact d _ _ _ _ c (by omega) (by omega)
 have i: ∀(t f:Zi) (n:Nat),1<=n->n<=2->T (Ze0 s a k t f (n:Int)) (FR s a):=fun t f n c e=>by
  unfold Ze0;refine(Wi s (by omega) a (by omega) n c (by omega)).bind fun r b=>T.ite (fun _=>T.pure FR.no) fun hk=>T.guard (by have:=b.1;omega) ?_;have q:=b.2.2 (by simpa using hk);refine T.ite (fun j=>T.guard ?_ (g _ _ _ q.1 q.2.1)) fun _=>g _ _ _ q.1 q.2.1;have j:=eq_of_beq j;omega
 unfold Zhx;exact T.if (i _ _ 2 (by omega) (by omega)) (i _ _ 1 (by omega) (by omega))
theorem Qha{k:Int}(h:0<=k){n:Nat}(hn:0<n):0<=Int.tmod k (n:Int)/\Int.tmod k (n:Int)<n:=
 ⟨Int.tmod_nonneg _ h,Int.tmod_lt_of_pos _ (by omega)⟩
theorem Qxs(s:List UInt8)(hs:s.length<=1000)(a:Int)(ha:0<=a/\a<s.length):T (Zer s a) (FR s a):=by
 have e: ∀(t f:Zi) (n:Int) (b:Bool),f.2.2.2.1=[]->(b=true->a<n/\n<=s.length)->T (Xn t f n b) (FR s a):=fun t f n b c h=>by
  unfold Xn;refine T.bind (Q:=fun _=>True) (T.if T.tt (Zwv (by unfold FOK;rw[c];simp))) fun r _=>T.ite (fun _=>T.pure FR.no) fun hk=>T.pure fun _=> ?_;simp at hk;have:=h hk.1;simp only[c,List.length_nil];omega
 have m: ∀(t f:Zi) (l:List Int) (n:Int) (b q:Bool),f.2.2.2.1=[]->0<l.length->(b=true->a<n/\n<=s.length)->T (Za3 t f l n b q) (FR s a):=fun t f l n b q c d h=>by
  unfold Za3;exact T.if (T.guard (by omega) (T.guard (by omega) (T.guard (Qha (by omega) d) (e _ _ _ _ c h)))) (T.guard (by omega) (e _ _ _ _ c h))
 have g: ∀(t f:Zi) (n:Nat),1<=n->n<=3->f.2.2.2.1=[]->T (Ke s a t f (n:Int)) (FR s a):=fun t f n u v c=>by
  unfold Ke;rw[Zr (by omega) (by omega)];refine(Wi s (by omega) _ (by omega) n u v).bind fun r i=> ?_;have d:=i.1;have h:r.2.2.1=true->a<r.2.1/\r.2.1<=s.length:=fun hk=>by have:=i.2.2 hk;omega
  have o:=Qha (k:=1) (by omega) d;have w:=Qha (k:=2) (by omega) d;exact T.if (T.guard (by omega) (T.guard (by omega) (T.guard o (T.guard (by omega) (T.guard w (e _ _ _ _ c h)))))) (T.if (T.guard (by omega) (T.guard (by omega) (T.guard o (e _ _ _ _ c h)))) (T.if (m _ _ _ _ _ _ c d h) (m _ _ _ _ _ _ c d h)))
 have p: ∀(t f:Zi) (k:Int) (q:Bool),f.2.2.2.1=[]->T (Za4 s a t k f 1 q) (FR s a):=fun t f k q c=>by
  unfold Za4;exact T.if (g _ _ 1 (by omega) (by omega) c) (g _ _ 1 (by omega) (by omega) c)
 have j: ∀(t f:Zi) (k x:Int) (q:Bool),f.2.2.2.1=[]->T (Vv s a t k f 1 x q) (FR s a):=fun t f k x q c=>by
  unfold Vv;exact T.if (g _ _ 2 (by omega) (by omega) c) (T.if (p _ _ _ _ c) (p _ _ _ _ c))
 unfold Zer;refine T.guard (fun _=>by omega) (T.if (T.pure FR.no) (T.guard (by omega) (T.if ?_ (T.if (g _ _ 3 (by omega) (by omega) rfl) (T.if (j _ _ _ _ _ rfl) (T.if (j _ _ _ _ _ rfl) (j _ _ _ _ _ rfl)))))));rw[Zr (n:=a+1) (by omega) (by omega)];refine(Qyh s hs _ (by omega) _).bind fun r i=>T.pure fun hk=> ?_;have:=i hk;simp only;omega
def gr(l:List Zi):Nat:=(l.map fun f=>f.2.2.2.1.length+2).sum
theorem Xch(l:List Zi)(f:Zi):gr (l++ [f])=gr l+f.2.2.2.1.length+2:=by simp[gr];omega
theorem Qpi(s:List UInt8)(hs:s.length<=1000): ∀(N a:Nat) (out:List Zi),s.length-a<N->a<=s.length->out.length<=a->gr out<=2*a->(∀f∈out,FOK f)->T (Kb N s out (a:Int)) fun r=>gr r.1<=2*s.length/\r.1.length<=s.length/\ ∀f∈r.1,FOK f
 |0,_,_,h,_,_,_,_=>by omega
 |N+1,a,out,i,j,k,l,c=>by
  unfold Kb;refine T.ite (fun d=> ?_) fun d=>(tIn _ _ _).bind fun t _=>T.pure ⟨by simp only;omega,by simp only;omega,c⟩;have d:=Ode d;refine T.guard (by omega) (T.if ?_ ?_)
  ·rw[show IntKind.i64.wrap ((a:Int)+1)=((a+1:Nat):Int) by rw[Zr (by omega) (by omega)];rfl];exact Qpi s hs N (a+1) out (by omega) (by omega) (by omega) (by omega) c
  ·refine(Qxs s hs a (by omega)).bind fun r e=>T.ite (fun _=>T.pure ⟨by simp[gr],by simp,by simp⟩) fun hk=>T.guard (by unfold Qo;simp only[List.length_singleton];omega) ?_;have e:=e (by simpa using hk);obtain⟨b,g⟩:=Int.eq_ofNat_of_zero_le (show 0<=r.2.1 by omega);rw[g];refine Qpi s hs N b _ (by omega) (by omega) (by simp;omega) (by rw[Xch];omega) fun f h=> ?_;rcases List.mem_append.1 h with h|h
   ·exact c f h
   ·rw[List.mem_singleton.1 h];unfold FOK;omega
theorem Qzz(s:List UInt8)(hs:s.length<=1000):T (Y3 s) fun r=>gr r.1<=2*s.length/\r.1.length<=s.length/\ ∀f∈r.1,FOK f:=by
 unfold Y3;exact Qpi s hs _ 0 [] (by unfold Zfi;omega) (by omega) (by simp) (by simp[gr]) (by simp)
theorem T.and{α:Type}{m:Option α}{Q R:α->Prop}(h1:T m Q)(h2:T m R):T m fun y=>Q y/\R y:=by
 obtain⟨y,e,b⟩:=h1;obtain⟨z,a,c⟩:=h2;rw[e]at a;cases a;exact⟨y,e,b,c⟩
theorem Qt4{K:Nat}{c:Zf}(h:Qd K c)(hK:K<=1000000)(n:Int):T (Zfg c n) fun r=>Qd K r.1:=by
 unfold Zfg;rw[J2 h hK,Obs];exact T.bind (Q:=fun _=>True) (T.if (tIn _ _ _) T.tt) fun t _=>T.if (T.pure ⟨h.str,h.pk⟩) (T.pure h)
theorem Qlb(l:List Zi)(hf: ∀f∈l,FOK f)(hl:l.length<=1000): ∀(N i K:Nat) (t x:Zf),l.length-i<N->i<=l.length->Qd K x->25<=K->K+gr (l.drop i)<=390000->T (Jq N t x l (i:Int)) fun r=>Qd (K+gr (l.drop i)) r.1.1
 |0,_,_,_,_,h,_,_,_,_=>by omega
 |N+1,i,K,t,x,k,m,hx,a,n=>by
  unfold Jq;simp only[Kj];refine T.ite (fun b=> ?_) fun b=>T.pure (hx.mono (by omega));have b:=Ode b;have c:i<l.length:=by omega
  have g:=hf _ (Qh (d:=Qr) c);have o:gr (l.drop i)=(l.getD i Qr).2.2.2.1.length+2+gr (l.drop (i+1)):=by rw[Yl (d:=Qr) c];simp[gr]
  refine T.guard (by omega) ((Z3w hx g a (by omega)).bind fun r e=> ?_);unfold Zf1;refine T.if ((Qt4 hx (by omega) _).bind fun t j=>T.pure (j.mono (by omega))) ?_;rw[Zt c (by omega)];exact(Qlb l hf hl N (i+1) (K+ (l.getD i Qr).2.2.2.1.length+2) _ _ (by omega) (by omega) e (by omega) (by omega)).mono fun r e=>e.mono (by omega)
theorem Q4a{K:Nat}{c:Zf}(h:Qd K c)(h25:25<=K)(s:List UInt8)(hs:s.length<=1000)(hK:K+2*s.length<=390000):T (Zcb c s) fun r=>Qd (K+2*s.length) r.1.1:=by
 unfold Zcb;rw[J2 h (by omega),Obs];refine(Zxr h (by omega)).bind fun t _=>T.bind (Q:=fun _=>True) (T.if T.tt T.tt) fun t _=>T.if (T.pure (h.mono (by omega))) ((Qzz s hs).bind fun r a=>T.if ((Qt4 h (by omega) _).bind fun t b=>T.pure (b.mono (by omega))) ?_);exact(Qlb r.1 a.2.2 (by omega) _ 0 K _ _ (by unfold Vb;omega) (by omega) h h25 (by simp only[List.drop_zero];omega)).mono fun y d=>d.mono (by simp only[List.drop_zero];omega)
theorem Xe9(c:Qb)(h:Y8 c):T (Vf c) fun r=>Y8 r.2.1:=by
 obtain⟨x,b,e,a,-⟩:=Zu2 c h;exact⟨_,e,a⟩
theorem Qt1(l:List Int): (Qq l).length=l.length:=by simp[Qq]
theorem Xck(c:Qb)(hc:Y8 c)(m:Nat)(hm:m<=200):T (Zxc c (m:Int)) fun r=>Y8 r.2.1/\r.1.1.length<=m:=by
 have k: ∀(N n:Nat) (c:Qb) (o:List Int) (y:Int),Y8 c->n<N->n<=1000->o.length+n<=m->T (Zc6 N c o y (n:Int)) fun r=>Y8 r.2.1/\r.1.1.length<=m:=by
  intro N
  induction N with
  |zero=>intro n c o y _ h;omega
  |succ N l=>
   intro n c o y hc f p q;unfold Zc6;refine T.ite (fun g=>(Xe9 c hc).bind fun t a=> ?_) fun _=>T.pure ⟨hc,by rw[Qt1];omega⟩;have g:=Ode g;have i: ∀c b,Y8 c->T (Zmy (fun v=>Zc6 N v.1 v.2.1 v.2.2.1 v.2.2.2.1) c o y (n:Int) b) fun r=>Y8 r.2.1/\r.1.1.length<=m:=fun c b hc=>by
    unfold Zmy;rw[show IntKind.i64.wrap ((n:Int)-1)=((n-1:Nat):Int) by rw[Zr (by omega) (by omega)];omega];exact T.guard (by unfold Qo;simp only[List.length_singleton];omega) (l (n-1) c _ y hc (by omega) (by omega) (by simp;omega))
   have j: ∀c b,Y8 c->T (Zmx (fun v=>Zc6 N v.1 v.2.1 v.2.2.1 v.2.2.2.1) c o y (n:Int) b) fun r=>Y8 r.2.1/\r.1.1.length<=m:=fun c b hc=>by
    unfold Zmx;exact T.if (T.guard (by omega) (i _ _ hc)) (i _ _ hc)
   exact T.if (T.guard (by omega) (j _ _ a)) (j _ _ a)
 unfold Zxc;refine(Zeg c 4 hc).bind fun t a=>(Zeg _ _ a.1).bind fun s d=> ?_;have e:IntKind.i64.wrap ((m:Int)+1)=(m:Int)+1:=Zr (by omega) (by omega);rw[e]at d;have u:=d.2.2 (by omega);obtain⟨n,f⟩:=Int.eq_ofNat_of_zero_le d.2.1;rw[f];exact k _ n _ _ _ d.1 (by unfold Zn7;omega) (by omega) (by simp;omega)
theorem Q9u(c:Qb)(hc:Y8 c)(s:List UInt8)(hs:s.length<=1000000):T (Zuv c s) fun r=>Y8 r.2.1/\r.1.1.length<=s.length+3:=by
 unfold Zuv;refine T.ite (fun _=>(Xck c hc 3 (by omega)).bind fun t l=>T.pure ⟨l.1,by simp only;omega⟩) fun f=> ?_;have f:0<s.length:=by
  rw[beq_eq_false_iff_ne]at f;omega
 refine(Zeg c _ hc).bind fun m d=>(Zeg _ 4 d.1).bind fun g a=> ?_;have hk:=d.2.2 (by omega);have h:=d.2.1;generalize m.1.1=k at hk h;obtain⟨n,rfl⟩:=Int.eq_ofNat_of_zero_le h;have e:IntKind.i64.wrap ((n:Int)+1)=((n+1:Nat):Int):=by rw[Zr (by omega) (by omega)];omega
 obtain⟨y,i,o,p,-⟩:=Zu2 g.2.1 a.1;obtain⟨z,j,q,u,-⟩:=Zry g.2.1 255 a.1;rw[e];have v: (0:Int)<=0/\0<=(n:Int)/\(n:Int)<=(s.length:Int):=by omega
 have w: (0:Int)<=((n+1:Nat):Int)/\((n+1:Nat):Int)<=(s.length:Int)/\(s.length:Int)<=(s.length:Int):=by omega
 have x: (0:Int)<=(n:Int)/\(n:Int)<=(s.length:Int)/\(s.length:Int)<=(s.length:Int):=by omega
 have C: (0:Int)<=(n:Int)/\(n:Int)< (s.length:Int):=by omega
 simp only[o,q,Obs,Zb v,Zb w,Zb x,Zb C,Kj];have E: ((s.drop (0:Int).toNat).take ((n:Int).toNat- (0:Int).toNat)).length<=n:=by simp only[List.length_take];omega
 have F: ((s.drop ((n+1:Nat):Int).toNat).take ((s.length:Int).toNat- ((n+1:Nat):Int).toNat)).length<=s.length-n-1:=by simp only[List.length_take,List.length_drop];omega
 have G: ((s.drop (n:Int).toNat).take ((s.length:Int).toNat- (n:Int).toNat)).length<=s.length-n:=by simp only[List.length_take,List.length_drop];omega
 generalize (s.drop (0:Int).toNat).take ((n:Int).toNat- (0:Int).toNat)=A at E;generalize (s.drop ((n+1:Nat):Int).toNat).take ((s.length:Int).toNat- ((n+1:Nat):Int).toNat)=B at F;generalize (s.drop (n:Int).toNat).take ((s.length:Int).toNat- (n:Int).toNat)=D at G;have M: ∀b:Int,(Qq [b]).length=1:=fun b=>Qt1 _;have H:A.length+B.length<=Ka:=by unfold Ka;omega
 have I: ∀b:Int,A.length+ (Qq [b]).length<=Ka:=fun b=>by rw[M];unfold Ka;omega
 have i: ∀b:Int,(A++Qq [b]).length+D.length<=Ka:=fun b=>by rw[List.length_append,M];unfold Ka;omega
 have j: ∀b:Int,(A++Qq [b]).length+B.length<=Ka:=fun b=>by rw[List.length_append,M];unfold Ka;omega
 simp only[Zb H,Zb (I _),Zb (i _),Zb (j _),Zhj];refine T.if (T.pure ⟨a.1,by simp only[List.length_append];omega⟩) (T.if (T.pure ⟨p,by simp only[List.length_append,M];omega⟩) (T.if (T.pure ⟨a.1,by simp only;omega⟩) (T.pure ⟨u,by simp only[List.length_append,M];omega⟩)))
theorem Xby(code:List Int)(h:code.length<=1048576):T (Zpt code) fun r=>Y8 r.1:=by
 obtain⟨c,e,k⟩:=Qvr code h;exact⟨_,e,k⟩
theorem Q2b(s:List UInt8)(a k:Int): ∀(N:Nat) (n i:Int),Ze3 N s a k n i=Wo N s a k n i
 |0,_,_=>rfl
 |N+1,n,i=>by
  unfold Ze3 Wo;rw[Q2b s a k N]
theorem Q2a(s:List UInt8)(hs:s.length<=1000000)(a:Int):Xe s a=Xb s a:=by
 unfold Xe Xb;rw[Zko,Obs];have e: (!(decide (a>=0)&&decide (a<=IntKind.i64.wrap ((s.length:Int)-1))))=(decide (a<0)||decide (a>=(s.length:Int))):=by
  rw[Zr (by omega) (by omega),show decide (a<0)= !decide (a>=0) by rw[<-decide_not];exact decide_eq_decide.2 (by omega),show decide (a>=(s.length:Int))= !decide (a<=(s.length:Int)-1) by rw[<-decide_not];exact decide_eq_decide.2 (by omega)];cases decide (a>=0)<;>cases decide (a<=(s.length:Int)-1)<;>rfl
 simp only;rw[e];simp only[Q2b];rfl
theorem Qj1(s:List UInt8)(a:Int)(n:Int)(out:List Int)(i:Int)(N:Nat)(h:i<n)(hl:out.length<=10)(hi:0<=i/\i<=10):Zaz (N+1) s a n out i=Option.bind (Xb s a) fun t=>bif t.2.2.1 then Zaz N s t.2.1 n (out++ [t.1]) (i+1)else some ([(0:Int),(0:Int),(0:Int)],(0:Int),false,()):=by
 rw[Zaz];rw[Zn (Zk h)];congr 1;funext t;rw[Zb (by unfold Qo;simp only[List.length_singleton];omega),Zr (by omega) (by omega)];cases t.2.2.1<;>rfl
theorem rd1(s:List UInt8)(a:Int):Zah s a 1=Option.bind (Xb s a) fun t=>bif t.2.2.1 then some ([t.1],t.2.1,true,())else some ([(0:Int),(0:Int),(0:Int)],(0:Int),false,()):=by
 unfold Zah;rw[show Za6 s a 1 ([]:List Int) 0=1+1 from rfl,Qj1 s a 1 [] 0 1 (by omega) (by simp) (by omega)];congr 1
theorem rd2(s:List UInt8)(a:Int):Zah s a 2=Option.bind (Xb s a) fun t=>bif t.2.2.1 then Option.bind (Xb s t.2.1) fun u=>bif u.2.2.1 then some ([t.1,u.1],u.2.1,true,())else some ([(0:Int),(0:Int),(0:Int)],(0:Int),false,())else some ([(0:Int),(0:Int),(0:Int)],(0:Int),false,()):=by
 unfold Zah;rw[show Za6 s a 2 ([]:List Int) 0=2+1 from rfl,Qj1 s a 2 [] 0 2 (by omega) (by simp) (by omega)];congr 1;funext t;rw[Qj1 s _ 2 _ _ 1 (by omega) (by simp) (by omega)];rfl
theorem rd3(s:List UInt8)(a:Int):Zah s a 3=Option.bind (Xb s a) fun t=>bif t.2.2.1 then Option.bind (Xb s t.2.1) fun u=>bif u.2.2.1 then Option.bind (Xb s u.2.1) fun v=>bif v.2.2.1 then some ([t.1,u.1,v.1],v.2.1,true,())else some ([(0:Int),(0:Int),(0:Int)],(0:Int),false,())else some ([(0:Int),(0:Int),(0:Int)],(0:Int),false,())else some ([(0:Int),(0:Int),(0:Int)],(0:Int),false,()):=by
 unfold Zah;rw[show Za6 s a 3 ([]:List Int) 0=3+1 from rfl,Qj1 s a 3 [] 0 3 (by omega) (by simp) (by omega)];congr 1;funext t;rw[Qj1 s _ 3 _ _ 2 (by omega) (by simp) (by omega)];have e: ∀u:Int×Int×Bool×Unit,(bif u.2.2.1 then Zaz 2 s u.2.1 3 (([]++ [t.1])++ [u.1]) (0+1+1)else some ([(0:Int),(0:Int),(0:Int)],(0:Int),false,()))=(bif u.2.2.1 then Option.bind (Xb s u.2.1) fun v=>bif v.2.2.1 then some ([t.1,u.1,v.1],v.2.1,true,())else some ([(0:Int),(0:Int),(0:Int)],(0:Int),false,())else some ([(0:Int),(0:Int),(0:Int)],(0:Int),false,())):=fun u=>by
  rw[Qj1 s _ 3 _ _ 1 (by omega) (by simp) (by omega)];rfl
 simp only[e]
theorem Qv8{f:Zi}(h:f.2.2.2.1=[]):FOK f:=by unfold FOK;rw[h];exact Nat.zero_le _
theorem Zxi(f:Zi)(n:Int)(h:f.2.2.2.1=[])(t:Zi):Option.bind (bif !true then some (false,())else(We f)) (fun t21=>bif(!true)|| (!t21.1)then some (Qr,(0:Int),false,())else some (f,n,true,()))=Xn t f n true:=by
 unfold Xn;rw[Zyi (Qv8 h),Zta (Qv8 h)]
theorem Xd1(s:List UInt8)(i:Nat):IntKind.i64.wrap ((s.getD i 0).toNat:Int)=((s.getD i 0).toNat:Int)/\((s.getD i 0).toNat:Int)<=255:=by
 have:=(s.getD i 0).toNat_lt;exact⟨Zr (by omega) (by omega),by omega⟩
noncomputable abbrev Q58(r:Zi×Int×Bool×Unit):Option (Zi×Int×Bool×Unit):=Option.bind (bif !r.2.2.1 then some (false,())else(We r.1)) fun t21=>bif(!r.2.2.1)|| (!t21.1)then some (Qr,(0:Int),false,())else some (r.1,r.2.1,true,())
theorem Xe6(s:List UInt8)(hs:s.length<=1000)(f t:Zi){x z:Int}(hx:0<=x/\x<=s.length)(hz:0<=z/\z<=(s.length:Int)-x):Option.bind (J5 s x t f z true) Q58=Zch s t f x z:=by
 unfold J5 Zch;rw[Zr (n:=(s.length:Int)-x) (by omega) (by omega),Zr (n:=x+z) (by omega) (by omega),Ont,Bool.false_or,Zm (Zl (by omega)),Zb (by omega),Zb (by omega),Obs];have a:FOK (f.1,(f.2.1,(f.2.2.1,((s.drop x.toNat).take ((x+z).toNat-x.toNat),f.2.2.2.2)))):=by unfold FOK;simp only[List.length_take,List.length_drop];omega
 unfold Q58;simp only[Ont,Ocf];rw[Zyi a,Zta a];simp only[Obs,Bool.false_or]
theorem Xe8(s:List UInt8)(f t:Zi)(x z:Int):Option.bind (J5 s x t f z false) Q58=some (Qr,(0:Int),false,()):=rfl
theorem Xe5(s:List UInt8)(hs:s.length<=1000)(f t:Zi)(k:Int){x:Int}(hx:0<=x/\x<=s.length):Option.bind (Kz s x k t f 0 true) Q58=Zcg s k t f x:=by
 unfold Kz Zcg;simp only[Ont,Ocf];rw[Zr (n:=(s.length:Int)-x) (by omega) (by omega)];cases (bits .and .i64 k (2:Int))==(2:Int)
 ·exact Xe6 s hs f t hx (by omega)
 ·rw[Oct,Oct,Q2a s (by omega)];obtain⟨⟨n,y,c,u⟩,e,h⟩:=Q33 s (by omega) x (by omega);rw[e];cases c
  ·exact Xe8 s f t 0 ((s.length:Int)-x)
  ·have h:=h rfl;simp only at h;simp only[Obs,Ont,Ocf,Bool.false_or];rw[Zr (n:=(s.length:Int)-y) (by omega) (by omega)];by_cases a:n>(s.length:Int)-y
   ·rw[Zn (Zk a)];unfold J5;rw[Zr (n:=(s.length:Int)-y) (by omega) (by omega),Zn (by rw[Zk a];rfl)];rfl
   ·rw[Zm (Zl a)];exact Xe6 s hs f t (by omega) (by omega)
theorem Xf9(s:List UInt8)(hs:s.length<=1000)(k:Int){x:Int}(hx:0<=x/\x<=s.length):Option.bind (Zkv s x k) Q58=Zhx s x k:=by
 unfold Zkv Zhx Ze0;rw[Q2a s (by omega),rd1,rd2];obtain⟨⟨n,y,c,u⟩,e,h⟩:=Q33 s (by omega) x (by omega);rw[e];simp only[Obs];cases c
 ·cases (bits .and .i64 k (4:Int))==(4:Int)<;>rfl
 ·have h:=h rfl;simp only at h;simp only[Ont,Ocf,Oct,Ota];cases (bits .and .i64 k (4:Int))==(4:Int)
  ·simp only[Ocf,Obs,Ont];rw[Zb (by simp),Zm (by decide)];exact Xe5 s hs _ _ k (by omega)
  ·simp only[Oct];rw[Q2a s (by omega)];obtain⟨⟨f,g,b,i⟩,d,a⟩:=Q33 s (by omega) y (by omega);rw[d];simp only[Obs];cases b
   ·rfl
   ·have a:=a rfl;simp only at a;simp only[Ont,Ocf,Oct,Obs];rw[Zb (by simp),Zn (by decide),Zb (by simp)];exact Xe5 s hs _ _ k (by omega)
def fld(f:Zi)(l:List Int):Zi:=bif f.1==(4:Int)then(f.1,(l.getD (0:Int).toNat (0:Int),(f.2.2.1,(f.2.2.2.1,(f.2.2.2.2.1,(l.getD (Int.tmod (1:Int) (l.length:Int)).toNat (0:Int),(f.2.2.2.2.2.2.1,(l.getD (Int.tmod (2:Int) (l.length:Int)).toNat (0:Int),f.2.2.2.2.2.2.2.2))))))))else bif f.1==(5:Int)then(f.1,(l.getD (0:Int).toNat (0:Int),(f.2.2.1,(f.2.2.2.1,(f.2.2.2.2.1,(l.getD (Int.tmod (1:Int) (l.length:Int)).toNat (0:Int),f.2.2.2.2.2.2))))))else bif(f.1==(17:Int))|| (f.1==(21:Int))then(f.1,(l.getD (0:Int).toNat (0:Int),(f.2.2.1,(f.2.2.2.1,(f.2.2.2.2.1,(f.2.2.2.2.2.1,(l.getD (Int.tmod (1:Int) (l.length:Int)).toNat (0:Int),f.2.2.2.2.2.2.2)))))))else (f.1,(f.2.1,(f.2.2.1,(f.2.2.2.1,(f.2.2.2.2.1,(f.2.2.2.2.2.1,(l.getD (0:Int).toNat (0:Int),f.2.2.2.2.2.2.2)))))))
theorem Xa8(f:Zi)(l:List Int): (fld f l).1=f.1/\(fld f l).2.2.2.1=f.2.2.2.1:=by
 unfold fld;cases f.1==(4:Int)<;>cases f.1==(5:Int)<;>cases f.1==(17:Int)<;>cases f.1==(21:Int)<;>exact⟨rfl,rfl⟩
theorem j1E{s:List UInt8}{a:Int}{n:Int}{l:List Int}{x:Int}{c:Bool}(t f:Zi)(e:Zah s (IntKind.i64.wrap (a+1)) n=some (l,x,c,()))(hl:0<l.length):Ke s a t f n=Xn t (fld f l) x c:=by
 have b:=Qha (k:=1) (by omega) hl;have d:=Qha (k:=2) (by omega) hl;unfold Ke Za3 fld;rw[e,Obs];simp only;cases h4:f.1==(4:Int)
 ·cases h5:f.1==(5:Int)
  ·cases h17:f.1==(17:Int)
   ·cases h21:f.1==(21:Int)
    ·simp only[Ocf,Bool.or_self];rw[Zb (by omega)]
    ·simp only[Ocf,Oct,Bool.or_true];rw[Zb (by omega),Zb (by omega),Zb b]
   ·simp only[Ocf,Oct,Bool.true_or];rw[Zb (by omega),Zb (by omega),Zb b]
  ·simp only[Ocf,Oct];rw[Zb (by omega),Zb (by omega),Zb b]
 ·simp only[Oct];rw[Zb (by omega),Zb (by omega),Zb b,Zb (by omega),Zb d]
theorem Q32(s:List UInt8)(hs:s.length<=1000)(a:Int)(ha:0<=a/\a<s.length):Zm5 s a=Zer s a:=by
 obtain⟨Z,k1⟩:=Xd1 s a.toNat
 have d:IntKind.i64.wrap (a+1)=a+1:=Zr (by omega) (by omega);have dq: ∀b:Int,Xe s b=Xb s b:=Q2a s (by omega);have P: ∀b:Int,0<=b->b<=1000-> ∃n x c,Xb s b=some (n,x,c,())/\(c=true->(0<=n/\n<4611686018427387904)/\b<x/\x<=s.length):=fun b Y h1=>by
  obtain⟨⟨n,x,c,u⟩,e,h⟩:=Q33 s (by omega) b (by omega);exact⟨n,x,c,e,fun Q=>by have:=h Q;simp only at this;omega⟩
 unfold Zm5 Zva Zer;rw[Zko,Obs,Zr (n:=(s.length:Int)-1) (by omega) (by omega),Zk (p:=a>=0) ha.1,Zk (p:=a<=(s.length:Int)-1) (by omega),Zl (p:=a<0) (by omega),Zl (p:=a>=(s.length:Int)) (by omega)];simp only[Bool.and_self,Ont,Ocf,Bool.false_or,Bool.or_self];rw[Zb (by omega),Zb (fun _=>by omega),Z,d];generalize hk: ((s.getD a.toNat 0).toNat:Int)=k at k1;have aa:0<=k:=by omega
 by_cases K:k>23
 ·rw[Zn (b:=decide (k>23)) (Zk K)];have S: (k==4)=false:=by simp;omega
  have U: (k==5)=false:=by simp;omega
  have y: (k==16)=false:=by simp;omega
  have z: (k==20)=false:=by simp;omega
  have A: (k==17)=false:=by simp;omega
  have B: (k==21)=false:=by simp;omega
  have C: (k==18)=false:=by simp;omega
  have D: (k==19)=false:=by simp;omega
  have E: (k==22)=false:=by simp;omega
  have F: (k==23)=false:=by simp;omega
  unfold Zgu Zgv Zaq Qt;simp only[S,U,y,z,A,B,C,D,E,F,Ocf,Zko,Obs,Zk (show k>=8 by omega),Zl (show ¬k<=15 by omega),Bool.and_false];rfl
 rw[Zm (b:=decide (k>23)) (Zl K),Zb (by omega)];have J: ∀b:Int,0<=b->b<=s.length-> ∃n x c,Xb s b=some (n,x,c,())/\(c=true->b<x/\x<=s.length):=fun b Y h1=>by
  obtain⟨n,x,c,e,h⟩:=P b Y (by omega);exact⟨n,x,c,e,fun Q=>(h Q).2⟩
 obtain⟨L,M,m,i,w⟩:=J (a+1) (by omega) (by omega);have V: ∀(f t:Zi) (n:Int) (b:Bool),(f.1≠4/\f.1≠5/\f.1≠8/\f.1≠17/\f.1≠21/\f.1≠18/\f.1≠22/\f.1≠16/\f.1≠20)->f.2.2.2.1=[]->Xn t f n b=some (Qr,(0:Int),false,()):=fun f t n b hf hd=>by
  unfold Xn;rw[Zta (Qv8 hd)];have:Y7 f=false:=by
   cases h:Y7 f
   ·rfl
   ·have:=Q66 h;omega
  rw[this];cases b<;>rfl
 have W:k=4\/k=5\/k=16\/k=20\/k=17\/k=21\/k=18\/k=19\/k=22\/k=23\/(8<=k/\k<=15)\/(k=0\/k=1\/k=2\/k=3\/k=6\/k=7):=by omega
 unfold Zgu Zgv Zaq Qt Qqz;unfold Vv Za4;simp only[dq,d,i,Obs];have v: ∃l,Zah s (IntKind.i64.wrap (a+1)) 1=some (l,bif m then M else 0,m,())/\0<l.length/\(m=true->l=[L]):=by
  rw[d,rd1,i];cases m
  ·exact⟨_,rfl,by simp,fun h=>by cases h⟩
  ·exact⟨_,rfl,by simp,fun _=>rfl⟩
 obtain⟨l1,v,j,o⟩:=v;rcases W with h|h|h|h|h|h|h|h|h|h|h|h
 ·subst h;simp only[Int.reduceBEq,Oct,Ocf,Int.reduceGE,Int.reduceLT,decide_false,decide_true,Bool.false_and];cases m
  ·rw[j1E (l:=[0,0,0]) (x:=0) (c:=false) _ _ (by rw[d,rd3,i];rfl) (by simp)];rfl
  have w:=w rfl;obtain⟨G,H,I,g,N⟩:=J M (by omega) (by omega);simp only[Ont,Ocf,g,Obs];cases I
  ·rw[j1E (l:=[0,0,0]) (x:=0) (c:=false) _ _ (by rw[d,rd3,i];simp only[Obs,Oct];rw[g];rfl) (by simp)];rfl
  have N:=N rfl;obtain⟨n3,x3,c3,X,g3⟩:=J H (by omega) (by omega);simp only[Ont,Ocf,X,Obs];cases c3
  ·rw[j1E (l:=[0,0,0]) (x:=0) (c:=false) _ _ (by rw[d,rd3,i];simp only[Obs,Oct];rw[g];simp only[Obs,Oct];rw[X];rfl) (by simp)];rfl
  ·rw[j1E (l:=[L,G,n3]) (x:=x3) (c:=true) _ _ (by rw[d,rd3,i];simp only[Obs,Oct];rw[g];simp only[Obs,Oct];rw[X];rfl) (by simp)];exact Zxi _ _ (by rfl) _
 ·subst h;simp only[Int.reduceBEq,Oct,Ocf,Int.reduceGE,Int.reduceLT,decide_false,decide_true,Bool.false_and];cases m
  ·rw[j1E (l:=[0,0,0]) (x:=0) (c:=false) _ _ (by rw[d,rd2,i];rfl) (by simp)];rfl
  have w:=w rfl;obtain⟨G,H,I,g,N⟩:=J M (by omega) (by omega);simp only[Ont,Ocf,g,Obs];cases I
  ·rw[j1E (l:=[0,0,0]) (x:=0) (c:=false) _ _ (by rw[d,rd2,i];simp only[Obs,Oct];rw[g];rfl) (by simp)];rfl
  ·rw[j1E (l:=[L,G]) (x:=H) (c:=true) _ _ (by rw[d,rd2,i];simp only[Obs,Oct];rw[g];rfl) (by simp)];exact Zxi _ _ (by rfl) _
 ·subst h;simp only[Int.reduceBEq,Oct,Ocf,Int.reduceGE,Int.reduceLT,decide_false,decide_true,Bool.and_false];rw[j1E _ _ v j];cases m
  ·rfl
  ·rw[o rfl];exact Zxi _ _ (by rfl) _
 ·subst h;simp only[Int.reduceBEq,Oct,Ocf,Int.reduceGE,Int.reduceLT,decide_false,decide_true,Bool.and_false];rw[j1E _ _ v j];cases m
  ·rfl
  ·rw[o rfl];exact Zxi _ _ (by rfl) _
 ·subst h;simp only[Int.reduceBEq,Oct,Ocf,Int.reduceGE,Int.reduceLT,decide_false,decide_true,Bool.and_false];cases m
  ·rw[j1E (l:=[0,0,0]) (x:=0) (c:=false) _ _ (by rw[d,rd2,i];rfl) (by simp)];rfl
  have w:=w rfl;obtain⟨G,H,I,g,N⟩:=J M (by omega) (by omega);simp only[Ont,Ocf,g,Obs];cases I
  ·rw[j1E (l:=[0,0,0]) (x:=0) (c:=false) _ _ (by rw[d,rd2,i];simp only[Obs,Oct];rw[g];rfl) (by simp)];rfl
  ·rw[j1E (l:=[L,G]) (x:=H) (c:=true) _ _ (by rw[d,rd2,i];simp only[Obs,Oct];rw[g];rfl) (by simp)];exact Zxi _ _ (by rfl) _
 ·subst h;simp only[Int.reduceBEq,Oct,Ocf,Int.reduceGE,Int.reduceLT,decide_false,decide_true,Bool.and_false];cases m
  ·rw[j1E (l:=[0,0,0]) (x:=0) (c:=false) _ _ (by rw[d,rd2,i];rfl) (by simp)];rfl
  have w:=w rfl;obtain⟨G,H,I,g,N⟩:=J M (by omega) (by omega);simp only[Ont,Ocf,g,Obs];cases I
  ·rw[j1E (l:=[0,0,0]) (x:=0) (c:=false) _ _ (by rw[d,rd2,i];simp only[Obs,Oct];rw[g];rfl) (by simp)];rfl
  ·rw[j1E (l:=[L,G]) (x:=H) (c:=true) _ _ (by rw[d,rd2,i];simp only[Obs,Oct];rw[g];rfl) (by simp)];exact Zxi _ _ (by rfl) _
 ·subst h;simp only[Int.reduceBEq,Oct,Ocf,Int.reduceGE,Int.reduceLT,decide_false,decide_true,Bool.and_false];rw[j1E _ _ v j,Zb (by decide)];cases m
  ·rfl
  ·rw[o rfl];exact Zxi _ _ (by rfl) _
 ·subst h;simp only[Int.reduceBEq,Oct,Ocf,Int.reduceGE,Int.reduceLT,decide_false,decide_true,Bool.and_false];rw[j1E _ _ v j,Zb (by decide)];cases m
  ·rfl
  ·rw[o rfl];exact Zxi _ _ (by rfl) _
 ·subst h;simp only[Int.reduceBEq,Oct,Ocf,Int.reduceGE,Int.reduceLT,decide_false,decide_true,Bool.and_false];rw[j1E _ _ v j,Zb (by decide)];cases m
  ·rfl
  ·rw[o rfl];exact Zxi _ _ (by rfl) _
 ·subst h;simp only[Int.reduceBEq,Oct,Ocf,Int.reduceGE,Int.reduceLT,decide_false,decide_true,Bool.and_false];rw[j1E _ _ v j,Zb (by decide)];cases m
  ·rfl
  ·rw[o rfl];exact Zxi _ _ (by rfl) _
 ·have S: (k==4)=false:=by simp;omega
  have U: (k==5)=false:=by simp;omega
  have y: (k==16)=false:=by simp;omega
  have z: (k==20)=false:=by simp;omega
  have A: (k==17)=false:=by simp;omega
  have B: (k==21)=false:=by simp;omega
  have C: (k==18)=false:=by simp;omega
  have D: (k==19)=false:=by simp;omega
  have E: (k==22)=false:=by simp;omega
  have F: (k==23)=false:=by simp;omega
  simp only[S,U,y,z,A,B,C,D,E,F,Ocf,Zko,Obs,Zk (show k>=8 by omega),Zk (show k<=15 by omega),Zk (show k<16 by omega),Bool.and_self,Oct];have e:=Xf9 s hs k (x:=a+1) (by omega);rw[<-e];obtain⟨r,O⟩: ∃r,Zhx s (a+1) k=some r:=by
   obtain⟨r,O,-⟩:=Qyh s hs (a+1) (by omega) k;exact⟨r,O⟩
  rw[e,O];cases hr:Zkv s (a+1) k with
  |none=>rw[hr,O]at e;cases e
  |some q=>
   rw[hr,O]at e;exact e
 ·rcases h with h|h|h|h|h|h<;>subst h<;>simp only[Int.reduceBEq,Ocf,Int.reduceGE,Int.reduceLT,decide_false,decide_true,Bool.false_and,Zko,Obs,Int.reduceLE]<;>(rw[j1E _ _ v j];exact(V _ _ _ _ (by rw[(Xa8 _ _).1];simp) (Xa8 _ _).2).symm)
theorem Qhq(s:List UInt8)(hs:s.length<=1000): ∀(N a:Nat) (out:List Zi),a<=s.length->V1 N s out (a:Int)=Kb N s out (a:Int)
 |0,_,_,_=>rfl
 |N+1,a,out,d=>by
  unfold V1 Kb;by_cases c:a<s.length
  ·rw[Zn (Zk (by omega)),Zn (Zk (by omega)),Zb (by omega),Zb (by omega),Zt c (by omega)];cases ((s.getD (a:Int).toNat 0).toNat:Int)==(0:Int)
   ·rw[Ocf,Ocf,Q32 s hs _ (by omega)];obtain⟨⟨f,n,b,u⟩,e,h⟩:=Qxs s hs (a:Int) (by omega);rw[e];cases b
    ·rfl
    ·have h:=h rfl;simp only at h;simp only[Obs,Ont,Ocf];rw[show n=((n.toNat:Nat):Int) by omega,Qhq s hs N n.toNat _ (by omega)]
   ·exact Qhq s hs N (a+1) _ (by omega)
  ·rw[Zm (Zl (by omega)),Zm (Zl (by omega))];rfl
theorem Q83(s:List UInt8)(hs:s.length<=1000):Zpe s=Y3 s:=Qhq s hs _ 0 [] (by omega)
abbrev Z6s(c:Zf):Int:=c.2.2.2.2.2.2.2.2.2.2.2.2.2.2.2.2.2.1
abbrev cTl(c:Zf):=c.2.2.2.2.2.2.2.2.2.2.2.2.2
def clV(c:Zf)(n:Int):Zf:=bif(Z6s c==(0:Int))&&inB n 1 255 then(c.1,(c.2.1,(c.2.2.1,(c.2.2.2.1,(c.2.2.2.2.1,(c.2.2.2.2.2.1,(c.2.2.2.2.2.2.1,(c.2.2.2.2.2.2.2.1,(c.2.2.2.2.2.2.2.2.1,(c.2.2.2.2.2.2.2.2.2.1,(c.2.2.2.2.2.2.2.2.2.2.1,(c.2.2.2.2.2.2.2.2.2.2.2.1,(c.2.2.2.2.2.2.2.2.2.2.2.2.1,(c.2.2.2.2.2.2.2.2.2.2.2.2.2.1,(c.2.2.2.2.2.2.2.2.2.2.2.2.2.2.1,(c.2.2.2.2.2.2.2.2.2.2.2.2.2.2.2.1,(c.2.2.2.2.2.2.2.2.2.2.2.2.2.2.2.2.1,(n,c.2.2.2.2.2.2.2.2.2.2.2.2.2.2.2.2.2.2))))))))))))))))))else c
theorem clS{K:Nat}{c:Zf}(h:Qd K c)(hK:K<=1000000)(n:Int):Zfg c n=some (clV c n,()):=by
 unfold Zfg clV;rw[J2 h hK,Obs,inQ];simp only[bA,bA2];cases (Z6s c==(0:Int))&&inB n 1 255<;>rfl
theorem clI{K:Nat}{c:Zf}(h:Qd K c)(hK:K<=1000000)(n:Int):Zma c n=some (clV c n,()):=by
 unfold Zma clV;rw[Zux h hK,Obs,show Zy n 1 255=some (inB n 1 255,())from rfl];simp only[bA,bA2];cases (Z6s c==(0:Int))&&inB n 1 255<;>rfl
noncomputable def hpF:Zf->List Zi->Zf×Int|x,[]=>(x,0)|x,f::r=>bif(Z0a x f).2.1 !=(0:Int)then(clV x (Z0a x f).2.1,(Z0a x f).2.1)else hpF (Z0a x f).1 r
theorem Q2i{K:Nat}{c:Zf}{f:Zi}(h:Qd K c)(hf:FOK f)(h25:25<=K)(hK:K<=390000):Qd (K+f.2.2.2.1.length+2) (Z0a c f).1:=by
 obtain⟨y,e,a⟩:=Z3w h hf h25 hK;rw[Xcd h hf h25 hK]at e;cases e;exact a
theorem Q2k(f:Zi)(r:List Zi):gr (f::r)=f.2.2.2.1.length+2+gr r:=by unfold gr;simp
theorem hpS(l:List Zi)(hf: ∀f∈l,FOK f)(hl:l.length<=1000): ∀(N i K:Nat) (t x:Zf),l.length-i<N->i<=l.length->Qd K x->25<=K->K+gr (l.drop i)<=390000->
  Jq N t x l (i:Int)=some (((hpF x (l.drop i)).1,((hpF x (l.drop i)).2,())),())/\Zbp N t l x (l.length:Int) (i:Int)=some ((hpF x (l.drop i)).1,(hpF x (l.drop i)).2,())
 |0,_,_,_,_,h,_,_,_,_=>by omega
 |N+1,i,K,t,x,n,o,hx,c,k=>by
  unfold Jq Zbp Zf1;by_cases e:i<l.length
  ·have j:=Yl (d:=Qr) e;have g:=hf _ (Qh (d:=Qr) e);rw[j,Q2k]at k;rw[j,Zn (Zk (by omega)),Zn (Zk (by omega)),Zb (by omega),Zb (by omega),Zt e (by omega),show(i:Int).toNat=i from rfl,Xcd hx g c (by omega),Xfu hx g c (by omega)];simp only[Kj,Obs];unfold hpF;cases hc: (Z0a x (l.getD i Qr)).2.1 !=(0:Int)
   ·have m:=Q2i hx g c (by omega);obtain⟨a,b⟩:=hpS l hf hl N (i+1) _ t (Z0a x (l.getD i Qr)).1 (by omega) (by omega) m (by omega) (by omega);exact⟨a,b⟩
   ·rw[clS hx (by omega),clI hx (by omega)];exact⟨rfl,rfl⟩
  ·rw[Zm (Zl (by omega)),Zm (Zl (by omega)),List.drop_eq_nil_of_le (by omega)];exact⟨rfl,rfl⟩
noncomputable def Xav(m:Option (List Zi×Bool×Unit)):List Zi×Bool×Unit:=match m with|some y=>y|none=>([],false,())
noncomputable def hpV(c:Zf)(s:List UInt8):Zf×Int:=bif Ztm c&& !(Z6s c !=(0:Int))then bif(Xav (Y3 s)).2.1 then hpF c (Xav (Y3 s)).1 else(clV c 7,7)else(c,Z6s c)
theorem hpE{K:Nat}{c:Zf}(h:Qd K c)(h25:25<=K)(s:List UInt8)(hs:s.length<=1000)(hK:K+2*s.length<=390000):Zcb c s=some (((hpV c s).1,((hpV c s).2,())),())/\Ze4 c s=some ((hpV c s).1,(hpV c s).2,()):=by
 obtain⟨⟨l,b,u⟩,e,g,i,f⟩:=Qzz s hs;simp only at g i f;have j:Xav (Y3 s)=(l,b,()):=by rw[e];rfl
 unfold hpV;rw[j];unfold Zcb Ze4;rw[J2 h (by omega),Obs,Qho h (by omega),Qe6 h (by omega),Qho h (by omega),Zux h (by omega),Q83 s hs,e];unfold Zla Zoa;simp only[bO,Obs];cases hc:Ztm c
 ·exact⟨rfl,rfl⟩
 cases hcl:Z6s c !=(0:Int)
 ·simp only[Ont,Bool.not_false,Bool.and_self,Ocf,Oct,Bool.and_false,Bool.or_self];cases b
  ·rw[clS h (by omega),clI h (by omega)];exact⟨rfl,rfl⟩
  ·obtain⟨a,d⟩:=hpS l f (by omega) (Vb Vg c l 0) 0 K Vg c (by unfold Vb;omega) (by omega) h h25 (by rw[List.drop_zero];omega);exact⟨a,d⟩
 ·exact⟨rfl,rfl⟩
theorem Xca(x:Zf)(id:Int):cTl (fin x id)=cTl x:=by
 unfold fin Qtu;cases ovB x.1 (atV x id)
 ·rfl
 ·cases Zzt id<;>rfl
theorem Xb1(c:Zf)(id:Int):cTl (Zdw c id).2=cTl c:=by
 unfold Zdw Qv1 Qtu;cases decide (0<=Yq c.2.2.2.1 id)
 ·cases Qjz c.1 id
  ·cases Zv8 c id
   ·rfl
   ·cases Zzt id<;>rfl
  ·rfl
 ·rfl
theorem Q6e(c:Zf)(id:Int):0<=(Zdw c id).1/\(Zdw c id).1<=7:=by
 unfold Zdw;cases decide (0<=Yq c.2.2.2.1 id)
 ·cases Qjz c.1 id
  ·cases Zv8 c id<;>(simp only[Oct,Ocf];omega)
  ·simp only[Oct,Ocf];omega
 ·simp only[Oct];omega
def TC(c:Zf)(r:Zf×Int×Unit):Prop:=cTl r.1=cTl c/\0<=r.2.1/\r.2.1<=7
theorem Qrs{c:Zf}{f:Zi}{g can:Bool}{k:Zf->Zf×Int×Unit}(hk: ∀x,cTl x=cTl c->TC c (k x)):TC c (pre c f g can k):=by
 unfold pre;cases (Ztm c&&Y7 f)&&g
 ·exact⟨rfl,by simp only[Ocf];omega,by simp only[Ocf];omega⟩
 cases can
 ·exact⟨rfl,by simp only[Oct,Ocf];omega,by simp only[Oct,Ocf];omega⟩
 cases (Zdw c f.2.1).1==0
 ·have:=Q6e c f.2.1;exact⟨rfl,by simp only[Oct,Ocf];omega,by simp only[Oct,Ocf];omega⟩
 ·exact hk _ (Xb1 c f.2.1)
theorem rdC{r:Zu}{o:Int}{d:List UInt8}{fin:Bool}:Pc (Yu r o d fin) fun y=>0<=y.2.1/\y.2.1<=7:=by
 unfold Yu;refine Pc.skip fun a=>Pc.skip fun b=>Pc.if (Pc.pure ⟨by simp only;omega,by simp only;omega⟩) ?_;simp only[Qv4,Obs];have j: ∀t x,Pc (Kg o d r t x) fun y=>0<=y.2.1/\y.2.1<=7:=fun t x=>by
  unfold Kg Zd5;exact Pc.skip fun c=>Pc.skip fun e=>Pc.if (Pc.pure ⟨by simp only;omega,by simp only;omega⟩) (Pc.pure ⟨by simp only;omega,by simp only;omega⟩)
 cases Qpe r (IntKind.i64.wrap (o+ (d.length:Int))) fin
 ·exact Pc.if (Pc.pure ⟨by simp only[Ocf];omega,by simp only[Ocf];omega⟩) (Pc.if (j _ _) (j _ _))
 ·exact Pc.if (Pc.pure ⟨by simp only[Oct];omega,by simp only[Oct];omega⟩) (Pc.if (j _ _) (j _ _))
theorem rrC{r:Zu}{k f:Int}:Pc (Ju r k f) fun y=>0<=y.2.1/\y.2.1<=7:=by
 unfold Ju;refine Pc.skip fun a=>Pc.skip fun b=>Pc.skip fun c=>Pc.skip fun d=>Pc.if (Pc.pure ⟨by simp only;omega,by simp only;omega⟩) ?_;simp only[Qv4,Obs];cases Qpe r f true
 ·exact Pc.if (Pc.pure ⟨by simp only[Ocf];omega,by simp only[Ocf];omega⟩) (Pc.pure ⟨by simp only;omega,by simp only;omega⟩)
 ·exact Pc.if (Pc.pure ⟨by simp only[Oct];omega,by simp only[Oct];omega⟩) (Pc.pure ⟨by simp only;omega,by simp only;omega⟩)
theorem Q3q{m:Option (Zu×Int×Unit)}(h:Pc m fun y=>0<=y.2.1/\y.2.1<=7):0<=(Qtw m).2.1/\(Qtw m).2.1<=7:=by
 unfold Qtw;cases m with
 |none=>exact⟨Int.le_refl _,by simp only;omega⟩
 |some y=>exact h y rfl
theorem Qqr{c x:Zf}(h:cTl x=cTl c)(id:Int):TC c (fin x id,0,()):=⟨(Xca x id).trans h,Int.le_refl _,by simp only;omega⟩
theorem Q1t(c:Zf){n:Int}(a:0<=n)(b:n<=7):TC c (c,n,()):=⟨rfl,a,b⟩
theorem Xcn(c:Zf)(f:Zi):TC c (Q0n c f):=by
 unfold Q0n;cases f.1==17
 ·cases f.1==21
  ·simp only[Ocf];cases Ztm c&&Y7 f
   ·exact Q1t c (by omega) (by omega)
   cases f.1==16
   ·cases f.1==18
    ·cases (f.1==20)|| (f.1==22)
     ·exact Q1t c (by omega) (by omega)
     ·exact Q1t c (by omega) (by omega)
    ·refine⟨?_,Int.le_refl _,by simp only[Oct,Ocf];omega⟩;show cTl (Q51 c f.2.2.2.2.2.2.2.2.1 f.2.2.2.2.2.2.1)=_;unfold Q51;cases f.2.2.2.2.2.2.2.2.1<;>rfl
   ·exact⟨rfl,Int.le_refl _,by simp only[Oct];omega⟩
  ·exact Qrs (k:=fun x=>(x,0,())) fun x h=>⟨h,Int.le_refl _,by simp only;omega⟩
 ·exact Qrs (k:=mlX f) fun x h=>⟨h,Int.le_refl _,by unfold mlX;simp only;omega⟩
theorem Q3j{c x:Zf}(h:cTl x=cTl c)(id:Int)(y):cTl (Zy6 x id y)=cTl c:=(show cTl (Zy6 x id y)=cTl x from rfl).trans h
theorem Q75{c x:Zf}(h:cTl x=cTl c)(y):cTl (Zui x y)=cTl c:=(show cTl (Zui x y)=cTl x from rfl).trans h
theorem Xc6(c:Zf)(f:Zi){x:Zf}(h:cTl x=cTl c):TC c (Q1m f x):=by
 unfold Q1m;cases (Q1l x f).2.1
 ·rw[Ocf];exact Qqr h _
 ·rw[Oct];exact Qqr (Q3j h _ _) _
theorem Xc4(c:Zf)(f:Zi){x:Zf}(h:cTl x=cTl c):TC c (Q07 c f x):=by
 have hv:0<=(Qn0 x f).2.1/\(Qn0 x f).2.1<=7:=Q3q rrC;unfold Q07;generalize Qn0 x f=r at hv⊢;cases flB x (atV x f.2.1) (Z01 x f)
 ·rw[Ocf];exact Q1t c (by omega) (by omega)
 rw[Oct];cases r.2.1==0
 ·rw[Ocf];exact Q1t c hv.1 hv.2
 rw[Oct];cases (r.1.1==4)&& ((atV x f.2.1).2.2.2.1.1 !=4)
 ·rw[Ocf];exact Qqr (Q3j (Q75 h _) _ _) _
 ·rw[Oct];exact Qqr (Q3j (Q75 h _) _ _) _
theorem Q82(c:Zf)(f:Zi){x:Zf}(h:cTl x=cTl c):TC c (Qdg c f x):=by
 have hv:=Q3q (rdC (r:=(atV x f.2.1).2.2.2.1) (o:=f.2.2.1) (d:=f.2.2.2.1) (fin:=f.2.2.2.2.1));unfold Qdg;generalize Qtw (Yu (atV x f.2.1).2.2.2.1 f.2.2.1 f.2.2.2.1 f.2.2.2.2.1)=r at hv⊢;cases flB x (atV x f.2.1) (nbV (atV x f.2.1).2.2.2.1 (IntKind.i64.wrap (f.2.2.1+ (f.2.2.2.1.length:Int))))
 ·rw[Ocf];exact Q1t c (by omega) (by omega)
 rw[Oct];cases r.2.1==0
 ·rw[Ocf];exact Q1t c hv.1 hv.2
 ·rw[Oct];exact Qqr (Q3j (Q75 h _) _ _) _
theorem Xce(c:Zf)(f:Zi):TC c (Z0a c f):=by
 unfold Z0a;cases f.1==8
 ·cases f.1==4
  ·cases f.1==5
   ·exact Xcn c f
   ·exact Qrs fun x h=>Xc6 c f h
  ·exact Qrs fun x h=>Xc4 c f h
 ·exact Qrs fun x h=>Q82 c f h
theorem Q16{c:Zf}(h:Z6s c=0){n:Int}(h1:1<=n)(h2:n<=255):Z6s (clV c n)=n:=by
 unfold clV;rw[h,Zlu.2 ⟨h1,h2⟩];rfl
theorem Q6u: ∀(l:List Zi) (x:Zf),Z6s x=0->((hpF x l).2=0->Z6s (hpF x l).1=0)/\((hpF x l).2≠0->Z6s (hpF x l).1=(hpF x l).2)
 | [],x,h=>⟨fun _=>h,fun h=>absurd rfl h⟩
 |f::r,x,h=>by
  obtain⟨a,c,d⟩:=Xce x f;unfold hpF;cases hc: (Z0a x f).2.1 !=(0:Int)
  ·have e:Z6s (Z0a x f).1=0:=by
    have:Z6s (Z0a x f).1=Z6s x:=congrArg (fun t:Int×Int×List Z9×Int×Int×Unit=>t.2.2.2.2.1) a;rw[this,h]
   exact Q6u r _ e
  ·have b: (Z0a x f).2.1≠0:=by simpa using hc
   exact⟨fun h=>absurd h b,fun _=>Q16 h (by omega) (by omega)⟩
structure DQ(c:Zf)(f:Zi):Prop where
 inv:Qd 30000 c
 fok:FOK f
 key: ∃v,KC v c
theorem Xbz(code:List Int)(h:code.length<=1048576)(kind:Int):T (Zuu code kind) fun r=>DQ r.1.1 r.1.2.1:=by
 obtain⟨c,e,i⟩:=Qvr code h;have j: ∀t g x f,DQ x f->T (Zk8 t g x f) fun r=>DQ r.1.1 r.1.2.1:=fun t g x f k=>by
  unfold Zk8;exact T.pure k
 unfold Zuu;rw[e,Obs];refine((Q68 c i).pc (Xfp c)).bind fun x hx=>(Qwf _ hx.1.1).bind fun y l=>(Zeg _ _ l.1).bind fun z m=>(Q3k _ 5 m.1 (by omega)).bind fun A b=>(Qg8 _ _ b.1).bind fun B n=>(Zeg _ _ n).bind fun C o=>(Zeg _ _ o.1).bind fun D p=>(Zeg _ _ p.1).bind fun E q=>(Zeg _ _ q.1).bind fun F s=>(Q7b _ ?_).bind fun G d=>(Qg8 _ _ s.1).bind fun u a=>T.if ((Qkq _ _ a (by decide)).bind fun v w=>j _ _ _ _ ⟨hx.1.2,d,hx.2⟩) (j _ _ _ _ ⟨hx.1.2,d,hx.2⟩);have:=b.2;unfold FOK;simp only;omega
theorem Q59(code:List Int)(h:code.length<=1048576):T (Zh5 code) fun r=>DQ r.1.1 r.1.2.1:=by
 unfold Zh5;exact(Xbz code h _).bind fun t a=>T.pure a
end Go.Proofs.YtgepmefongfeeaaGreat

/- No condition. -/
import Derived.Test.YtcnklikmapfnmaaGreatDoorP1
set_option linter.all false
namespace Go.Proofs.YtcnklikmapfnmaaGreatDoor
noncomputable section
open Go.Am
set_option maxRecDepth 100000
open Option renaming some→K2,bind→Ld,isSome_some→Ng
open Bool renaming true→K3,false→Lc,and_self→Lf,or_self→Lg,false_and→Lh,false_or→Lk,or_false→Ll,and_false→Lm,not_false→L0,and_true→L6,eq_iff_iff→Md,not_eq_true'→Mn,not_not→Mo,or_true→Mp,and_eq_false_iff→M4,true_or→M5
open Go renaming IntKind→K4
open Decidable renaming decide→La
open IntKind renaming i64→Lb,u8→L4
open Int renaming reduceBEq→Le,reduceGE→Lq,reduceLT→Lr,eq_ofNat_of_zero_le→Lu,tmod→Lx,le_refl→L3,natCast_zero→Ma,fdiv_eq_ediv_of_nonneg→M6
open List renaming length_cons→Li,length_nil→Lo,mem_cons_of_mem→Ls,mem_cons→Lv,drop_eq_nil_of_le→Ly,set_set→Lz,mem_append→L1,mem_cons_self→L2,length_append→L5,drop_of_length_le→L8,length_filter_le→Mb,nil_append→Mc,eq_nil_of_length_eq_zero→Mf,filter_cons_of_pos→Mg,foldl_cons→Mh,length_pos_iff→Mi,mem_nil_iff→Mj,mem_or_eq_of_mem_set→Mk,replicate→Ml,append_assoc→Mq,drop_zero→Mr,filter_eq_nil_iff→Ms,find?_cons→Mt,getD_cons_zero→Mu,getD_eq_getElem?_getD→Mv,mem_filter→Mw,mem_map→Mx,set_cons_zero→My,append_nil→M7,filter_cons→M8,filter_eq_self→M9,getElem?_set_self→Na,map_cons→Nb
open BitVec renaming ofInt→Lj,toNat_and→M2,toNat_ofInt→M3
open Eq renaming trans→Ln
open Go.Lib renaming itoa→Lp,trimRightB→Lt,join→L7,trimLeftB→L9,trimB→Me
open Nat renaming le_trans→Lw,pow_le_pow_right→Mm,le_refl→Mz,zero_le→M1,and_two_pow_sub_one_eq_mod→Nc,div_div_eq_div_mul→Nd,mod_eq_of_lt→Nf
open Nat.succ renaming inj→M0
open UInt8 renaming toNat_inj→Nh
open List.Pairwise renaming cons→Ni,nil→Nj
variable{id n k z o most limit last:Int}{sk:List Int}{a b:Ba}{l:List Zp}{K i:Nat}{α β:Type}{r:Z1}{x c:Zf}{f:Zh}{s:Zn}{y:α}
theorem Qqi(w:Qr):Sw w 0=w:=by simp_all[Sw]
abbrev p4(w:Qr):Int:=w.2.2.1-w.2.2.2.1
def s7(x:Zf)(s:Zj)(n:Int):Bool:=La (n<=p4 s.2.2.2.2.1)&&La (n<=p4 x.2.2.2.2.2.1)
abbrev vW(s:Zj)(w:Qr):Zj:=(s.1,s.2.1,s.2.2.1,s.2.2.2.1,w,s.2.2.2.2.2)
abbrev U7(s:Zj)(r:Z1):Zj:=(s.1,s.2.1,s.2.2.1,r,s.2.2.2.2)
theorem Qxs(r:Z1)(e:Int):0<=MO r e:=by
 unfold MO
 grind
theorem Qu3{s:Zj}(hs:Xz K s)(hK:K<=1000000)(w1:N8 s.2.2.2.2.1=K3)(w2:N8 x.2.2.2.2.2.1=K3)(e:Int):uL x s e=K2 (cond (s7 x s (MO s.2.2.2.1 e)) (((0:Int),()),DK x (Sw x.2.2.2.2.2.1 (MO s.2.2.2.1 e)),vW s (Sw s.2.2.2.2.1 (MO s.2.2.2.1 e)),()) (((3:Int),()),x,s,())):=by
 have a:=Dj.1 w1;have b:=Dj.1 w2;have h:=a.seen;have i:=b.seen
 have j:0<=p4 s.2.2.2.2.1:=by unfold p4;omega
 have k:0<=p4 x.2.2.2.2.2.1:=by unfold p4;omega
 have c:=Qxs s.2.2.2.1 e;unfold uL tJ tT;rw[Qlt hs.rcv hK,pA];generalize MO s.2.2.2.1 e=n at c⊢;simp only;by_cases d:n=0
 ·simp_all[s7,Qqi]
 ·rw[Zo (by simpa using d),Q0z,Q0z];have f:Fz s.2.2.2.2.1 n=La (n<=p4 s.2.2.2.2.1):=Ax
  have g:Fz x.2.2.2.2.2.1 n=La (n<=p4 x.2.2.2.2.2.1):=Ax
  simp only[pA];rw[f,g];unfold s7;cases La (n<=p4 s.2.2.2.2.1)<;>cases La (n<=p4 x.2.2.2.2.2.1)<;>rfl
theorem OZ(h:Ym f=K3):kb f.2.1=K3/\(0<=f.2.2.1/\f.2.2.1<=4611686018427387903)/\(f.1=8->f.2.2.1+(f.2.2.2.1.length:Int)<=4611686018427387903)/\f.2.2.2.1.length<=400:=by unfold Ym fq at h;simp only[pC,decide_eq_true_eq]at h;constructor<;>grind[Jz]
theorem nh.set{K:Nat}{l:List Zj}(h:nh K l){s:Zj}(hs:Xz K s)(i:Nat):nh K (l.set i s):=⟨by rw[List.length_set];exact h.len,λx hx=>by
 rcases Mk hx with h1|h1
 ·exact h.all x h1
 simp_all⟩
def pre(c:Zf)(f:Zh)(g can:Bool)(k:Zf->Zf×Int×Unit):Zf×Int×Unit:=cond ((ci c&&Ym f)&&g) (cond can (cond ((kU c f.2.1).1==0) (k (kU c f.2.1).2) (c,(kU c f.2.1).1,())) (c,5,())) (c,7,())
def UF(v:Bool)(n:Int):Bool:=PC (Wf v n)
theorem So(v:Bool)(n:Int):Wf v n=K2 (UF v n,()):=AL (D3 v n)
def OK(v:Bool)(n:Int):Bool:=PC (Y9 v n)
theorem il(v:Bool)(n:Int):Y9 v n=K2 (OK v n,()):=AL (qZ v n)
def s8(m:Oc Z1 Int):Z1×Int×Unit:=match m with|some y=>y|none=>(tj,0,())
def Fd(c:Zf)(f:Zh)(x:Zf):Zf×Int×Unit:=cond (s7 x (vO x f.2.1) (MO (vO x f.2.1).2.2.2.1 (Lb.wrap (f.2.2.1+f.2.2.2.1)))) (cond ((s8 (Jg (vO x f.2.1).2.2.2.1 f.2.2.1 f.2.2.2.1 f.2.2.2.2.1)).2.1==0) (fin (zU (DK x (Sw x.2.2.2.2.2.1 (MO (vO x f.2.1).2.2.2.1 (Lb.wrap (f.2.2.1+f.2.2.2.1))))) f.2.1 (U7 (vW (vO x f.2.1) (Sw (vO x f.2.1).2.2.2.2.1 (MO (vO x f.2.1).2.2.2.1 (Lb.wrap (f.2.2.1+f.2.2.2.1))))) (s8 (Jg (vO x f.2.1).2.2.2.1 f.2.2.1 f.2.2.2.1 f.2.2.2.2.1)).1)) f.2.1,0,()) (c,(s8 (Jg (vO x f.2.1).2.2.2.1 f.2.2.1 f.2.2.2.1 f.2.2.2.2.1)).2.1,())) (c,3,())
structure MK(K:Nat)(x:Zf)(id:Int):Prop where
 inv:Qa K x
 con:ew x
 idx:0<=Qk x.2.2.2.1 id
theorem MK.mem(h:MK K x id)(hK:K<=1000000):vO x id∈x.2.2.2.1/\(Qk x.2.2.2.1 id).toNat<x.2.2.2.1.length/\(vO x id).1=id:=by
 have a:=h.inv.str.len;obtain⟨b,-,c⟩:=uT (l:=x.2.2.2.1) Aa id;have d:=h.idx
 grind(splits:=20)[Z5]
theorem Qzr(h:Qa K c)(hf:RH f)(h25:25<=K)(hK:K<=390000):nQ c f=K2 (pre c f (f.1==8) (OK c.1 f.2.1) (Fd c f),()):=by
 unfold RH at hf;unfold nQ gH tD pre;simp only[Ih h,TK hf,Yn h,bO,Ur,pA,il];cases hc:ci c
 ·rfl
 cases hk:Ym f
 ·rfl
 rw[bne];cases hg:f.1==8
 ·rfl
 simp only[pI,Lg,pH,Lf,pG];cases OK c.1 f.2.1
 ·rfl
 simp only[pI,pH,pG];obtain⟨a,o,p,q⟩:=OZ hk;rw[Pd h hc h25 Aa a,pA,bne];cases h0:(kU c f.2.1).1==0
 ·rfl
 have E:MK K (kU c f.2.1).2 f.2.1:=by
  have e:=nv h hc h25 Aa a (by simpa using h0);exact⟨RE h hc h25 Aa a,e.1,e.2.1⟩
 simp only[pI,pH,pG];generalize (kU c f.2.1).2=x at E⊢;obtain⟨g,s,i⟩:=E.mem Aa;have b:=E.inv.str.all _ g;have F:=E.con.st E.inv Aa g;rw[eW E.inv Aa,if_pos E.idx,pA];obtain⟨r,v,e,j⟩:=To b.rcv f.2.2.1 f.2.2.2.1 f.2.2.2.2.1;simp only;unfold Fd;rw[e,pA,Qu3 b Aa (Dj.2 F.win) E.con.inf,pA];cases s7 x (vO x f.2.1) (MO (vO x f.2.1).2.2.2.1 (Lb.wrap (f.2.2.1+f.2.2.2.1)))
 ·rfl
 simp only[pG,show((0:Int) !=0)=Lc from rfl,pH,s8];rw[bne];cases v==0
 ·rfl
 simp only[pI,pH,pG];generalize MO (vO x f.2.1).2.2.2.1 (Lb.wrap (f.2.2.1+f.2.2.2.1))=n;have k:Xz (K+f.2.2.2.1+1) (U7 (vW (vO x f.2.1) (Sw (vO x f.2.1).2.2.2.2.1 n)) r):=⟨b.snd.mono Aa,j⟩
 have l:=yg (x:=DK x (Sw x.2.2.2.2.2.1 n)) (id:=f.2.1) (K:=K+f.2.2.2.1+1) ⟨E.inv.str.mono Aa,E.inv.pk.mono Aa⟩ k Aa i E.idx;exact Ln (congrArg (λm:Oc Unit Zf=>Ld m λd=>K2 ((d.2.1,(0:Int),()),())) l) rfl
theorem Qzq(h:Qa K c)(hf:RH f)(h25:25<=K)(hK:K<=390000):ZV c f=K2 (pre c f (f.1==8) (OK c.1 f.2.1) (Fd c f)):=by
 unfold RH at hf;unfold ZV gG gH gJ tA tB tC tD tJ tQ pre;simp only[zg h,Ih h,I5 hf,Wh h,bO,Ur,Xm,pA,GQ,il];cases hc:ci c
 ·rfl
 cases hk:Ym f
 ·rfl
 cases hg:f.1==8
 ·rfl
 simp only[pI,Lg,pH,Lf,pG];cases OK c.1 f.2.1
 ·rfl
 simp only[pI,pH,pG];obtain⟨b,k,l,m⟩:=OZ hk;rw[Fv h hc h25 Aa,pA,bne];cases h0:(kU c f.2.1).1==0
 ·rfl
 have E:MK K (kU c f.2.1).2 f.2.1:=by
  have e:=nv h hc h25 Aa b (by simpa using h0);exact⟨RE h hc h25 Aa b,e.1,e.2.1⟩
 simp only[pI,pH,pG];generalize (kU c f.2.1).2=x at E⊢;obtain⟨d,g,o⟩:=E.mem Aa;have a:=E.inv.str.all _ d;have F:=E.con.st E.inv Aa d;have p:=E.inv.str.len;have q:=E.idx;rw[xX Aa,VB Aa,pA];simp only;rw[Zb,Z8s a.rcv Aa,pA,Fr,pA,Fr,Dj.2 F.win,E.con.inf];obtain⟨r,v,e,i⟩:=To a.rcv f.2.2.1 f.2.2.2.1 f.2.2.2.2.1;unfold Fd s7;simp only[pG];rw[show La (MO (vO x f.2.1).2.2.2.1 (Lb.wrap (f.2.2.1+f.2.2.2.1))>p4 (vO x f.2.1).2.2.2.2.1)= !La (MO (vO x f.2.1).2.2.2.1 (Lb.wrap (f.2.2.1+f.2.2.2.1))<=p4 (vO x f.2.1).2.2.2.2.1) by grind];cases La (MO (vO x f.2.1).2.2.2.1 (Lb.wrap (f.2.2.1+f.2.2.2.1))<=p4 (vO x f.2.1).2.2.2.2.1)
 ·rfl
 simp only[pI,pH,pA,Lk,pJ];rw[show La (MO (vO x f.2.1).2.2.2.1 (Lb.wrap (f.2.2.1+f.2.2.2.1))>p4 x.2.2.2.2.2.1)= !La (MO (vO x f.2.1).2.2.2.1 (Lb.wrap (f.2.2.1+f.2.2.2.1))<=p4 x.2.2.2.2.2.1) by grind];cases La (MO (vO x f.2.1).2.2.2.1 (Lb.wrap (f.2.2.1+f.2.2.2.1))<=p4 x.2.2.2.2.2.1)
 ·rfl
 simp only[pI,pH,pG];rw[Qp5 a.rcv _ _ _ Aa Aa,e,pA];simp only[s8];rw[bne];cases v==0
 ·rfl
 simp only[pI,pH,pG];rw[UJ,UJ,pA,pA];simp only[KA g,Lz];generalize s:MO (vO x f.2.1).2.2.2.1 (Lb.wrap (f.2.2.1+f.2.2.2.1))=n;have j:Xz (K+f.2.2.2.1+1) (U7 (vW (vO x f.2.1) (Sw (vO x f.2.1).2.2.2.2.1 n)) r):=⟨a.snd.mono Aa,i⟩
 refine Ln ?_ (Ok (K:=K+f.2.2.2.1+1) (x:=zU (DK x (Sw x.2.2.2.2.2.1 n)) f.2.1 (U7 (vW (vO x f.2.1) (Sw (vO x f.2.1).2.2.2.2.1 n)) r)) (id:=f.2.1) ?_ Aa ?_)
 ·rfl
 ·exact(E.inv.str.mono Aa).set j _
 ·show 0<=Qk (x.2.2.2.1.set (Qk x.2.2.2.1 f.2.1).toNat (U7 (vW (vO x f.2.1) (Sw (vO x f.2.1).2.2.2.2.1 n)) r)) f.2.1;rw[show Qk (x.2.2.2.1.set (Qk x.2.2.2.1 f.2.1).toNat (U7 (vW (vO x f.2.1) (Sw (vO x f.2.1).2.2.2.2.1 n)) r)) f.2.1=Qk x.2.2.2.1 f.2.1 from gc _ rfl];exact E.idx
theorem Qj8(w:Qr)(n:Int):OB w (max 0 n)=OB w n:=by grind(splits:=20)[GW,OB]
def gW(x:Zf)(f:Zh):Int:=MO (vO x f.2.1).2.2.2.1 f.2.2.2.2.2.2.2.1
def Pm(x:Zf)(f:Zh):Z1×Int×Unit:=s8 (W6 (vO x f.2.1).2.2.2.1 f.2.2.2.2.2.1 f.2.2.2.2.2.2.2.1)
def Q0v(x:Zf)(f:Zh):Int:=Lb.wrap (f.2.2.2.2.2.2.2.1- (Sw (vO x f.2.1).2.2.2.2.1 (gW x f)).2.2.2.2.1)
def Et(c:Zf)(f:Zh)(x:Zf):Zf×Int×Unit:=cond (s7 x (vO x f.2.1) (gW x f)) (cond ((Pm x f).2.1==0) (cond (((Pm x f).1.1==4)&&((vO x f.2.1).2.2.2.1.1 !=4)) (fin (zU (DK x (OB (Sw x.2.2.2.2.2.1 (gW x f)) (Q0v x f))) f.2.1 (U7 (vW (vO x f.2.1) (OB (Sw (vO x f.2.1).2.2.2.2.1 (gW x f)) (Q0v x f))) (Pm x f).1)) f.2.1,0,()) (fin (zU (DK x (Sw x.2.2.2.2.2.1 (gW x f))) f.2.1 (U7 (vW (vO x f.2.1) (Sw (vO x f.2.1).2.2.2.2.1 (gW x f))) (Pm x f).1)) f.2.1,0,())) (c,(Pm x f).2.1,())) (c,3,())
theorem Q2b(h:Qa K c)(hf:RH f)(h25:25<=K)(hK:K<=390000):mh c f=K2 (pre c f (f.1==4) (OK c.1 f.2.1) (Et c f),()):=by
 unfold RH at hf;unfold mh gH eU tD pre;simp only[Ih h,TK hf,Yn h,bO,Ur,pA,il];cases hc:ci c
 ·rfl
 cases hk:Ym f
 ·rfl
 rw[bne];cases hg:f.1==4
 ·rfl
 simp only[pI,Lg,pH,Lf,pG];cases OK c.1 f.2.1
 ·rfl
 simp only[pI,pH,pG];obtain⟨j,p,q,s⟩:=OZ hk;rw[Pd h hc h25 Aa j,pA,bne];cases h0:(kU c f.2.1).1==0
 ·rfl
 have E:MK K (kU c f.2.1).2 f.2.1:=by
  have e:=nv h hc h25 Aa j (by simpa using h0);constructor<;>grind[RE]
 simp only[pI,pH,pG];generalize (kU c f.2.1).2=x at E⊢;obtain⟨k,t,l⟩:=E.mem Aa;have g:=E.inv.str.all _ k;have F:=E.con.st E.inv Aa k;rw[eW E.inv Aa,if_pos E.idx,pA];obtain⟨r,v,e,m⟩:=IK g.rcv Aa f.2.2.2.2.2.1 f.2.2.2.2.2.2.2.1;have n:Pm x f=(r,v,()):=by unfold Pm;rw[e];rfl
 simp only;unfold Et;rw[e,pA,Qu3 g Aa (Dj.2 F.win) E.con.inf,pA,n];rw[show MO (vO x f.2.1).2.2.2.1 f.2.2.2.2.2.2.2.1=gW x f from rfl];cases s7 x (vO x f.2.1) (gW x f)
 ·rfl
 simp only[pG,show((0:Int) !=0)=Lc from rfl,pH];rw[bne];cases v==0
 ·rfl
 simp only[pI,pH,pG];have a:∀b d,Ld (cz (DK x b) (U7 (vW (vO x f.2.1) d) r)) (λi=>K2 ((i.2.1,(0:Int),()),()))=K2 ((fin (zU (DK x b) f.2.1 (U7 (vW (vO x f.2.1) d) r)) f.2.1,0,()),()):=λb d=>by
  have o:Xz K (U7 (vW (vO x f.2.1) d) r):=⟨g.snd,m⟩
  rw[yg (x:=DK x b) (id:=f.2.1) (K:=K) ⟨E.inv.str,E.inv.pk⟩ o Aa l E.idx];rfl
 cases ((r.1==4)&&((vO x f.2.1).2.2.2.1.1 !=4))
 ·exact a _ _
 ·simp only[pG];unfold uM;simp only[Qvr,Qj8,pA];exact a _ _
def Q0w(x:Zf)(f:Zh)(i:Nat)(l:List Zj)(w:Qr)(r:Z1):Oc Zf Int:=cond ((r.1==(4:Int))&&((l.getD i Zc).2.2.2.1.1 !=(4:Int))) (Ld (ax ((l.set i (U7 (l.getD i Zc) r)).getD i Zc).2.2.2.2.1 (Lb.wrap (f.2.2.2.2.2.2.2.1- ((l.set i (U7 (l.getD i Zc) r)).getD i Zc).2.2.2.2.1.2.2.2.2.1))) λt21=>Ld (ax w (Lb.wrap (f.2.2.2.2.2.2.2.1- ((l.set i (U7 (l.getD i Zc) r)).getD i Zc).2.2.2.2.1.2.2.2.2.1))) λt33=>Gb (CZ (DK x t33.1) ((l.set i (U7 (l.getD i Zc) r)).set i (vW ((l.set i (U7 (l.getD i Zc) r)).getD i Zc) t21.1))) f.2.1) (Gb (CZ (DK x w) (l.set i (U7 (l.getD i Zc) r))) f.2.1)
set_option maxHeartbeats 2000000 in
theorem Q2a(h:Qa K c)(hf:RH f)(h25:25<=K)(hK:K<=390000):y5 c f=K2 (pre c f (f.1==4) (OK c.1 f.2.1) (Et c f)):=by
 unfold RH at hf;unfold y5 gG gH gJ tA tB tC tD tJ tQ pre;simp only[zg h,Ih h,I5 hf,Wh h,bO,Ur,Xm,pA,GQ,il];cases hc:ci c
 ·rfl
 cases hk:Ym f
 ·rfl
 cases hg:f.1==4
 ·rfl
 simp only[pI,Lg,pH,Lf,pG];cases OK c.1 f.2.1
 ·rfl
 simp only[pI,pH,pG];obtain⟨j,p,q,s⟩:=OZ hk;rw[Fv h hc h25 Aa,pA,bne];cases h0:(kU c f.2.1).1==0
 ·rfl
 have E:MK K (kU c f.2.1).2 f.2.1:=by
  have e:=nv h hc h25 Aa j (by simpa using h0);constructor<;>grind[RE]
 simp only[pI,pH,pG];generalize (kU c f.2.1).2=x at E⊢;obtain⟨i,k,t⟩:=E.mem Aa;have d:=E.inv.str.all _ i;have F:=E.con.st E.inv Aa i;have u:=E.inv.str.len;have w:=E.idx;rw[xX Aa,VB Aa,pA];simp only;rw[Zb,Z8s d.rcv Aa,pA,Fr,pA,Fr,Dj.2 F.win,E.con.inf];obtain⟨r,v,e,l⟩:=IK d.rcv Aa f.2.2.2.2.2.1 f.2.2.2.2.2.2.2.1;have m:Pm x f=(r,v,()):=by unfold Pm;rw[e];rfl
 unfold Et s7;rw[m];simp only[pG];rw[show MO (vO x f.2.1).2.2.2.1 f.2.2.2.2.2.2.2.1=gW x f from rfl];rw[show La (gW x f>p4 (vO x f.2.1).2.2.2.2.1)= !La (gW x f<=p4 (vO x f.2.1).2.2.2.2.1) by grind];cases La (gW x f<=p4 (vO x f.2.1).2.2.2.2.1)
 ·rfl
 simp only[pI,pH,pA,Lk,pJ];rw[show La (gW x f>p4 x.2.2.2.2.2.1)= !La (gW x f<=p4 x.2.2.2.2.2.1) by grind];cases La (gW x f<=p4 x.2.2.2.2.2.1)
 ·rfl
 simp only[pI,pH,pG];rw[Z7m d.rcv _ _ Aa,e,pA];simp only;rw[bne];cases v==0
 ·rfl
 simp only[pI,pH,pG];have b:∀g a,Gb (zU (DK x g) f.2.1 (U7 (vW (vO x f.2.1) a) r)) f.2.1=K2 (fin (zU (DK x g) f.2.1 (U7 (vW (vO x f.2.1) a) r)) f.2.1,(0:Int),()):=λg a=>by
  have n:Xz K (U7 (vW (vO x f.2.1) a) r):=⟨d.snd,l⟩
  refine Ok (K:=K) (E.inv.str.set n _) Aa ?_;show 0<=Qk (x.2.2.2.1.set (Qk x.2.2.2.1 f.2.1).toNat (U7 (vW (vO x f.2.1) a) r)) f.2.1;rw[show Qk (x.2.2.2.1.set (Qk x.2.2.2.1 f.2.1).toNat (U7 (vW (vO x f.2.1) a) r)) f.2.1=Qk x.2.2.2.1 f.2.1 from gc _ rfl];exact E.idx
 rw[UJ,UJ,pA,pA];refine Ln (show _=Q0w x f (Qk x.2.2.2.1 f.2.1).toNat (x.2.2.2.1.set (Qk x.2.2.2.1 f.2.1).toNat (vW (vO x f.2.1) (Sw (vO x f.2.1).2.2.2.2.1 (gW x f)))) (Sw x.2.2.2.2.2.1 (gW x f)) r from rfl) ?_;unfold Q0w;have o:(Qk x.2.2.2.1 f.2.1).toNat<(x.2.2.2.1.set (Qk x.2.2.2.1 f.2.1).toNat (vW (vO x f.2.1) (Sw (vO x f.2.1).2.2.2.2.1 (gW x f)))).length:=Af
 rw[KA k,KA o];simp only[Lz];cases ((r.1==4)&&((vO x f.2.1).2.2.2.1.1 !=4))
 ·exact b _ _
 ·simp only[pG,Qvq,pA];exact b _ _
theorem C3(s:Zn):0<=NJ s/\NJ s<=3:=by
 have e:=zC s;unfold eG at e
 grind
theorem Uj.st{s:Zn}(h:Uj s):0<=s.1/\s.1<=5:=by
 by_cases a:s.1=4\/s.1=5
 ·omega
 ·have:=(h.no a).st;have:=C3 s;omega
theorem Zvt{K:Int}(h:Wt K s)(hK:K<=1000000)(code:Int):lY s code=dB s code:=by
 have a:=h.cells;unfold lY gH dB gH bT;rw[zi h hK,lg h hK,pA,tl h hK,xd h hK];simp only[bL,PX,Jl,pA,bO,Ur,bA,sZ,Xm,X5];cases hs:j4 s
 ·rfl
 ·have g:=((R7 h hK).1 hs).st;have e:(La (s.1>=0)&&La (s.1<=2))= !La (s.1>2):=by
   grind
  rw[e];cases La (s.1>2)<;>cases kb code<;>rfl
def Q2j(m:Oc Zn Bool):Zn×Bool×Unit:=match m with|some y=>y|none=>(J2,Lc,())
def E4(x:Zf)(f:Zh):Zn×Bool×Unit:=Q2j (dB (vO x f.2.1).2.1 f.2.2.2.2.2.1)
abbrev Ov(s:Zj)(d:Zn):Zj:=(s.1,d,s.2.2)
abbrev p7(s:Zj):Zj:=(s.1,s.2.1,s.2.2.1,s.2.2.2.1,s.2.2.2.2.1,s.2.2.2.2.2.1,s.2.2.2.2.2.2.1,s.2.2.2.2.2.2.2.1,K3,s.2.2.2.2.2.2.2.2.2)
def SS(f:Zh)(x:Zf):Zf×Int×Unit:=cond (E4 x f).2.1 (fin (zU x f.2.1 (p7 (Ov (vO x f.2.1) (E4 x f).1))) f.2.1,0,()) (fin x f.2.1,0,())
theorem Q2f(h:Qa K c)(hf:RH f)(h25:25<=K)(hK:K<=390000):nT c f=K2 (pre c f (f.1==5) (UF c.1 f.2.1) (SS f),()):=by
 unfold RH at hf;unfold nT gH tV g7 pre;simp only[Ih h,TK hf,Yn h,bO,Ur,pA,So];cases hc:ci c
 ·rfl
 cases hk:Ym f
 ·rfl
 rw[bne];cases hg:f.1==5
 ·rfl
 simp only[pI,Lg,pH,Lf,pG];cases UF c.1 f.2.1
 ·rfl
 simp only[pI,pH,pG];obtain⟨g,p,q,r⟩:=OZ hk;rw[Pd h hc h25 Aa g,pA,bne];cases h0:(kU c f.2.1).1==0
 ·rfl
 have E:MK K (kU c f.2.1).2 f.2.1:=by
  have e:=nv h hc h25 Aa g (by simpa using h0);constructor<;>grind[RE]
 simp only[pI,pH,pG];generalize (kU c f.2.1).2=x at E⊢;obtain⟨i,s,j⟩:=E.mem Aa;have a:=E.inv.str.all _ i;have F:=E.con.st E.inv Aa i;rw[eW E.inv Aa,if_pos E.idx,pA];obtain⟨d,v,e,l⟩:=Bl a.snd f.2.2.2.2.2.1;have n:E4 x f=(d,v,()):=by unfold E4;rw[e];rfl
 simp only;unfold SS;rw[e,pA,n];cases v
 ·have hx:zU x f.2.1 (vO x f.2.1)=x:=by
   grind(splits:=20)[Qfa]
  have k:=yg (x:=x) (id:=f.2.1) (K:=K) E.inv a Aa j E.idx;simp_all
 ·have o:Xz K (p7 (Ov (vO x f.2.1) d)):=⟨l,a.rcv⟩
  have k:=yg (x:=x) (id:=f.2.1) (K:=K) E.inv o Aa j E.idx;exact Ln (congrArg (λm:Oc Unit Zf=>Ld m λb=>K2 ((b.2.1,(0:Int),()),())) k) rfl
set_option maxHeartbeats 2000000 in
theorem Q2e(h:Qa K c)(hf:RH f)(h25:25<=K)(hK:K<=390000):ZW c f=K2 (pre c f (f.1==5) (UF c.1 f.2.1) (SS f)):=by
 unfold RH at hf;unfold ZW gG gH gJ tA tB tC tD tR pre;simp only[zg h,Ih h,I5 hf,Wh h,bO,Ur,Xm,pA,Qvt,So];cases hc:ci c
 ·rfl
 cases hk:Ym f
 ·rfl
 cases hg:f.1==5
 ·rfl
 simp only[pI,Lg,pH,Lf,pG];cases UF c.1 f.2.1
 ·rfl
 simp only[pI,pH,pG];obtain⟨g,n,o,p⟩:=OZ hk;rw[Fv h hc h25 Aa,pA,bne];cases h0:(kU c f.2.1).1==0
 ·rfl
 have E:MK K (kU c f.2.1).2 f.2.1:=by
  have e:=nv h hc h25 Aa g (by simpa using h0);constructor<;>grind[RE]
 simp only[pI,pH,pG];generalize (kU c f.2.1).2=x at E⊢;obtain⟨b,i,q⟩:=E.mem Aa;have a:=E.inv.str.all _ b;have F:=E.con.st E.inv Aa b;have r:=E.inv.str.len;have s:=E.idx;rw[xX Aa,VB Aa,pA];simp only;rw[Zb];obtain⟨d,v,e,j⟩:=Bl a.snd f.2.2.2.2.2.1;have k:E4 x f=(d,v,()):=by unfold E4;rw[e];rfl
 unfold SS;rw[Zvt a.snd Aa,e,pA,k];cases v
 ·have hx:=Ok (K:=K) (x:=x) E.inv.str Aa E.idx;unfold Gb at hx;rw[xX Aa,VB Aa]at hx;simp only[pH];exact hx
 ·have m:Xz K (p7 (Ov (vO x f.2.1) d)):=⟨j,a.rcv⟩
  refine Ln (show _=(λl:List Zj=>Gb (CZ x (l.set (Qk x.2.2.2.1 f.2.1).toNat (p7 (l.getD (Qk x.2.2.2.1 f.2.1).toNat Zc)))) f.2.1) (x.2.2.2.1.set (Qk x.2.2.2.1 f.2.1).toNat (Ov (vO x f.2.1) d))from rfl) ?_;simp only[KA i,Lz];refine Ok (K:=K) (x:=zU x f.2.1 (p7 (Ov (vO x f.2.1) d))) (E.inv.str.set m _) Aa ?_;show 0<=Qk (x.2.2.2.1.set (Qk x.2.2.2.1 f.2.1).toNat (p7 (Ov (vO x f.2.1) d))) f.2.1;rw[show Qk (x.2.2.2.1.set (Qk x.2.2.2.1 f.2.1).toNat (p7 (Ov (vO x f.2.1) d))) f.2.1=Qk x.2.2.2.1 f.2.1 from gc _ rfl];exact E.idx
abbrev GJ(s:Zj)(c:Y3):Zj:=(s.1,s.2.1,c,s.2.2.2)
def Tr(f:Zh)(x:Zf):Zf×Int×Unit:=(zU x f.2.1 (GJ (vO x f.2.1) (Ds (vO x f.2.1).2.2.1 f.2.2.2.2.2.2.1)),0,())
def Q2i(c:Zf)(n:Int):Zf:=(c.1,c.2.1,c.2.2.1,c.2.2.2.1,Ds c.2.2.2.2.1 n,c.2.2.2.2.2)
def Bw(c:Zf)(u:Bool)(n:Int):Zf:=cond u (c.1,c.2.1,c.2.2.1,c.2.2.2.1,c.2.2.2.2.1,c.2.2.2.2.2.1,c.2.2.2.2.2.2.1,Bv c.2.2.2.2.2.2.2.1 n,c.2.2.2.2.2.2.2.2) (c.1,c.2.1,c.2.2.1,c.2.2.2.1,c.2.2.2.2.1,c.2.2.2.2.2.1,Bv c.2.2.2.2.2.2.1 n,c.2.2.2.2.2.2.2)
def Dg(c:Zf)(f:Zh):Zf×Int×Unit:=cond (f.1==17) (pre c f K3 (UF c.1 f.2.1) (Tr f)) (cond (f.1==21) (pre c f K3 (OK c.1 f.2.1) (λx=>(x,0,()))) (cond (ci c&&Ym f) (cond (f.1==16) (Q2i c f.2.2.2.2.2.2.1,0,()) (cond (f.1==18) (Bw c f.2.2.2.2.2.2.2.2.1 f.2.2.2.2.2.2.1,0,()) (cond ((f.1==20)||(f.1==22)) (c,0,()) (c,7,())))) (c,7,())))
theorem HA(h:Ym f=K3):f.1=4\/f.1=5\/f.1=8\/f.1=17\/f.1=21\/f.1=18\/f.1=22\/f.1=16\/f.1=20:=by
 unfold Ym Ky at h
 grind
theorem Q15(h:Qa K c)(hf:RH f)(h25:25<=K)(hK:K<=390000):mg c f=K2 (Dg c f):=by
 unfold RH at hf;unfold mg gH tH tJ tL kP eQ eT ZO mn tD tN s6 Dg pre;simp only[Yn h (show K<=1000000 by omega),Ih h (show K<=1000000 by omega),TK hf,bO,Ur,pA,So,il,Qx9,Qtc];cases hc:ci c
 ·simp_all
 cases hk:Ym f
 ·simp_all
 obtain⟨g,q,r,s⟩:=OZ hk;rw[Pd h hc h25 Aa g];have E:(kU c f.2.1).1=0->MK K (kU c f.2.1).2 f.2.1:=λb=>by
  have e:=nv h hc h25 Aa g b;constructor<;>grind[RE]
 rcases HA hk with k|k|k|k|k|k|k|k|k<;>rw[k]<;>simp only[Le,pG,pH,pI,Lg,Lf,Mp,Ll,pA,bne]
 ·cases UF c.1 f.2.1
  ·rfl
  cases b:(kU c f.2.1).1==0
  ·rfl
  have E:=E (by simpa using b);simp only[pI,pH,pG];generalize (kU c f.2.1).2=x at E⊢;obtain⟨l,t,n⟩:=E.mem Aa;have i:=E.inv.str.all _ l;rw[eW E.inv Aa,if_pos E.idx,pA];have o:Xz K (GJ (vO x f.2.1) (Ds (vO x f.2.1).2.2.1 f.2.2.2.2.2.2.1)):=⟨i.snd,i.rcv⟩
  have j:=Z7j E.inv.str o;have p:ZH x.2.2.2.1 (GJ (vO x f.2.1) (Ds (vO x f.2.1).2.2.1 f.2.2.2.2.2.2.1))=x.2.2.2.1.set (Qk x.2.2.2.1 f.2.1).toNat (GJ (vO x f.2.1) (Ds (vO x f.2.1).2.2.1 f.2.2.2.2.2.2.1)):=by
   unfold ZH;rw[show(GJ (vO x f.2.1) (Ds (vO x f.2.1).2.2.1 f.2.2.2.2.2.2.1)).1=f.2.1 from n,if_pos E.idx]
  rw[p]at j;exact Ln (congrArg (λm:Oa (List Zj)=>Ld (Ld m λd=>(K2 ((x.1,x.2.1,x.2.2.1,d.1,x.2.2.2.2),(0:Int),()):Oc Zf Int)) λa=>K2 (a.1,a.2.1,())) j) rfl
 ·cases OK c.1 f.2.1
  ·rfl
  cases b:(kU c f.2.1).1==0
  ·rfl
  ·rfl
 ·unfold Bw;cases f.2.2.2.2.2.2.2.2.1<;>rfl
 ·rfl
theorem Q14(h:Qa K c)(hf:RH f)(h25:25<=K)(hK:K<=390000):yZ c f=K2 (Dg c f):=by
 unfold RH at hf;have b:∀x u,Kv x u=K2 (u,x,()):=λx u=>by grind[Kv]
 unfold yZ gG gH gJ tD tH tJ tL tN Dg pre;simp only[Wh h (show K<=1000000 by omega),zg h (show K<=1000000 by omega),Ih h (show K<=1000000 by omega),I5 hf,bO,Ur,pA,Qvt,GQ,So,il,Qx8,Qtb,b];cases hc:ci c
 ·simp<;>omega
 cases hk:Ym f
 ·simp<;>omega
 obtain⟨d,g,i,j⟩:=OZ hk;simp only[Fv h hc h25 (show K<=400000 by omega)];have E:(kU c f.2.1).1=0->MK K (kU c f.2.1).2 f.2.1:=λa=>by
  have e:=nv h hc h25 Aa d a;constructor<;>grind[RE]
 rcases HA hk with k|k|k|k|k|k|k|k|k<;>rw[k]<;>simp only[Le,pG,pH,pI,L0,Lg,Lf,Mp,Ll,pA,bne,Lm,L6]
 ·cases UF c.1 f.2.1
  ·rfl
  cases a:(kU c f.2.1).1==0
  ·rfl
  have E:=E (by simpa using a);simp only[pI,pH,pG];generalize (kU c f.2.1).2=x at E⊢;obtain⟨l,m,n⟩:=E.mem Aa;have o:=E.inv.str.len;have p:=E.idx;rw[xX Aa,VB Aa,pA];simp only;rw[Zb];rfl
 ·cases OK c.1 f.2.1
  ·rfl
  cases a:(kU c f.2.1).1==0
  ·rfl
  ·rfl
 ·unfold Bw;cases f.2.2.2.2.2.2.2.2.1<;>rfl
 ·rfl
def qN(c:Zf)(f:Zh):Zf×Int×Unit:=cond (f.1==8) (pre c f (f.1==8) (OK c.1 f.2.1) (Fd c f)) (cond (f.1==4) (pre c f (f.1==4) (OK c.1 f.2.1) (Et c f)) (cond (f.1==5) (pre c f (f.1==5) (UF c.1 f.2.1) (SS f)) (Dg c f)))
theorem Qz3(h:Qa K c)(hf:RH f)(h25:25<=K)(hK:K<=390000):gy c f=K2 (qN c f,()):=by unfold gy br qN;rw[Yn h,pA,Qzr h hf h25 hK,Q2b h hf h25 hK,Q2f h hf h25 hK,Q15 h hf h25 hK];cases f.1==8<;>cases f.1==4<;>cases f.1==5<;>rfl
theorem Q11(h:Qa K c)(hf:RH f)(h25:25<=K)(hK:K<=390000):yY c f=K2 (qN c f):=by unfold yY qN;rw[Qzq h hf h25 hK,Q2a h hf h25 hK,Q2e h hf h25 hK,Q14 h hf h25 hK];cases f.1==8<;>cases f.1==4<;>cases f.1==5<;>rfl
def SV:Ty->Bool|.unit=>K3|.int _=>K3|.bool=>K3|.str=>K3|.pair a b=>SV a&&SV b|_=>Lc
theorem xW:∀{T:Ty},SV T=K3-> ∀x:T.den,A7 T x x=true:=λ{T}=>by
 induction T with
 |int k=>simp_all[A7]
 |bool=>simp_all[A7]
 |str=>simp_all[A7]
 |unit=>intro _ x;rfl
 |pair a b c d=>
  simp_all[SV,A7]
 |_=>intro h;cases h
theorem Qwu(r:Xc)(hl:r.2.2.2.1.length<=1048576):QN r r=K2 (K3,()):=by
 have b:∀(N i:Nat),r.2.2.2.1.length-i<N->i<=r.2.2.2.1.length->mK N r r (i:Int)=K2 (K3,()):=by
  intro N
  induction N with
  |zero=>intro i h;omega
  |succ N c=>
   intro i d e;unfold mK gG;by_cases a:i<r.2.2.2.1.length
   ·rw[Zl (Zk),Zb,Zb,bne_self_eq_false,pH,Zr a]
    grind
   grind
 unfold QN;simp only[bne_self_eq_false,Lg,pH]
 grind[sm]
theorem G9(l:List Zi)(hl:l.length<=1048576):mf l l=K2 (K3,()):=by
 have b:∀(N i:Nat),l.length-i<N->i<=l.length->kL N l l (i:Int)=K2 (K3,()):=by
  intro N
  induction N with
  |zero=>intro i h;omega
  |succ N c=>
   intro i d e;unfold kL gG gL;by_cases a:i<l.length
   ·rw[Zl (Zk),Zb,Zb,xW rfl,pI,pH,Zr a]
    grind
   grind
 unfold mf;simp only[bne_self_eq_false,pH]
 grind[qi]
theorem Qzz(b:Zz)(hl:b.2.1.length<=1048576):xK b b=K2 (K3,()):=by
 have c:∀(N i:Nat),b.2.1.length-i<N->i<=b.2.1.length->jf N b b (i:Int)=K2 (K3,()):=by
  intro N
  induction N with
  |zero=>intro i h;omega
  |succ N d=>
   intro i e f;unfold jf gG gM;by_cases a:i<b.2.1.length
   ·rw[Zl (Zk),Zb,Zb,xW rfl,pI,pH,Zr a]
    grind
   grind
 unfold xK;simp only[bne_self_eq_false,Lg,pH]
 grind[ny]
theorem Qn5{s:Zj}(h:Xz K s)(hK:K<=1000000):xM s s=K2 (K3,()):=by
 have g:=h.snd;have a:=g.e0;have b:=g.eK;have e:=g.cells
 have c:xL s.2.1 s.2.1=K2 (K3,()):=by
  unfold xL;simp only[beq_self_eq_true,pG,Qwu _ (show s.2.1.2.1.2.2.2.1.length<=1048576 by omega),Lf,pA,G9 _ (Lw (Q0 g.pend a b (show(K:Int)<=1000000 by omega)) Aa),G9 _ (Lw (Q0 g.pT a b (show(K:Int)<=1000000 by omega)) Aa),G9 _ (Lw (Q0 g.pO a b (show(K:Int)<=1000000 by omega)) Aa)]
 have d:rh s.2.2.2.1 s.2.2.2.1=K2 (K3,()):=by
  unfold rh;simp only[beq_self_eq_true,pG,Qzz _ (show s.2.2.2.1.2.1.2.1.length<=1048576 by have:=h.rcv.len;omega),Lf,pA]
 unfold xM;simp only[beq_self_eq_true,pG,c,d,xW (T:=Q4) rfl,xW (T:=Yr) rfl,xW (T:=Yw) rfl,Lf,pA]
theorem Qz0{l:List Zj}(h:nh K l)(hK:K<=1000000):zp l l=K2 (K3,()):=by
 have b:=h.len;have c:∀(N i:Nat),l.length-i<N->i<=l.length->kM N l l (i:Int)=K2 (K3,()):=by
  intro N
  induction N with
  |zero=>intro i h;omega
  |succ N e=>
   intro i f g;unfold kM gG gJ;by_cases a:i<l.length
   ·rw[Zl (Zk),Zb,Zb,Qn5 (h.all _ (Z5 (d:=Zc) (show(i:Int).toNat<l.length by omega))) hK,pA,pI,pH,Zr a]
    grind
   grind
 unfold zp;simp only[bne_self_eq_false,pH]
 grind[qj]
theorem Qux{l:List Qf}(hl:l.length<=1000000)(K1:(List Qf×List Qf×Int×Unit)->Oa Bool)(i:Nat)(hi:i<l.length)(hf:(l.getD i Q8).2.1.length<=1000):∀(N k:Nat),(l.getD i Q8).2.1.length-k<N->k<=(l.getD i Q8).2.1.length->eC K1 N l l (i:Int) (k:Int)=K1 (l,l,((i+1:Nat):Int),())
 |0,_,h,_=>Aa
 |N+1,k,c,hk=>by
  unfold eC gG gK;have a:(i:Int).toNat=i:=rfl;rw[Zb,a];by_cases b:k<(l.getD i Q8).2.1.length
  ·rw[Zl (Zk),Zb,Zb,Zb,Zb,xW rfl,pI,pH,Zr b];exact Qux hl K1 i hi hf N (k+1) Aa Aa
  ·rw[Zo (Zm),Zr hi]
theorem Q10{l:List Qf}(h:P0 K l)(hK:K<=1000000):ro l l=K2 (K3,()):=by
 have e:=h.1;have f:∀(N i:Nat),l.length-i<N->i<=l.length->eB N l l (i:Int)=K2 (K3,()):=by
  intro N
  induction N with
  |zero=>intro i h;omega
  |succ N b=>
   intro i g j;unfold eB gG gK;by_cases a:i<l.length
   ·have c:=(h.2 _ (Z5 (d:=Q8) a)).1;rw[Zl (Zk),Zb,Zb];simp only[bne_self_eq_false];rw[Zb (λ_=>Aa),Zb (λ_=>Aa),Lg,pH];exact Ln (Qux Aa _ i a c (dH l l (i:Int) 0) 0 (by simp_all[dH]) Aa) (b (i+1) Aa Aa)
   grind
 unfold ro;simp only[bne_self_eq_false,pH]
 grind[lz]
theorem Quw(h:Qa K c)(hK:K<=1000000):vm c c=K2 (K3,()):=by unfold vm;simp only[beq_self_eq_true,xW (T:=Q4) rfl,xW (T:=Yr) rfl,xW (T:=iv) rfl,xW (T:=eH) rfl,Lf,pG,Qz0 h.str hK,Q10 h.pk hK,pA]
theorem orQ{a b:Int}{n:Nat}(hn:n<=62)(ha:0<=a)(ha':a<(2^n:Nat))(hb:0<=b)(hb':b<(2^n:Nat)):0<=bits .or .i64 a b/\bits .or .i64 a b<(2^n:Nat):=by
 have h:bits .or .i64 a b=Lb.wrap (((Lj 64 a|||Lj 64 b).toNat:Nat):Int):=rfl;have c:2^n<=2^62:=Mm Aa hn;have e:∀x:Int,0<=x->x<(2^n:Nat)->(Lj 64 x).toNat=x.toNat:=λx d f=>by
  grind
 have g:(Lj 64 a|||Lj 64 b).toNat<2^n:=by
  simp_all[Nat.or_lt_two_pow]
 grind[Zs]
theorem Qzg(b:UInt8):0<=Lb.wrap (bits .and .u8 (b.toNat:Int) 63)/\Lb.wrap (bits .and .u8 (b.toNat:Int) 63)<64:=by
 have h:bits .and .u8 (b.toNat:Int) 63=L4.wrap (((Lj 8 (b.toNat:Int)&&&Lj 8 63).toNat:Nat):Int):=rfl;have a:(Lj 8 (b.toNat:Int)&&&Lj 8 63).toNat<=63:=by
  simp_all[Nat.and_le_right]
 simp_all[K4.wrap,K4.bits]<;>omega
def QR(s:Ba)(at':Int)(r:Int×Int×Bool×Unit):Prop:=r.2.2.1=K3->0<=r.1/\r.1<4611686018427387904/\at'<r.2.1/\r.2.1<=s.length
theorem Qnx(s:Ba)(hs:s.length<=1000000)(a k:Nat)(hk:k<=8)(h1:1<=k)(ha:a+k<=s.length):∀(N i:Nat)(n:Int),k-i<N->1<=i->i<=k->0<=n->n<(2^ (8*i-2):Nat)->T (cK N s (a:Int) (k:Int) n (i:Int)) (QR s a)
 |0,_,_,h,_,_,_,_=>Aa
 |N+1,i,n,p,q,g,r,t=>by
  unfold cK;refine T.ite (λc=>?_) λc=>T.pure λ_=>?_
  ·have c:=pE c;have e:Lb.wrap ((a:Int)+i)=((a+i:Nat):Int):=Al
   have j:Lb.wrap ((i:Int)+1)=((i+1:Nat):Int):=Al
   rw[e,j];refine T.guard Aa (T.guard Aa ?_);have u:=(s.getD (a+i) 0).toNat_lt;have v:2^ (8*(i+1)-2)=2^ (8*i-2)*256:=by rw[show 8*(i+1)-2=8*i-2+8 by omega,Nat.pow_add]
   have l:2^14<=2^ (8*(i+1)-2):=Mm Aa Aa;have d:2^ (8*(i+1)-2)<=2^62:=Mm Aa Aa;have m:Lb.wrap (n*2^ (min (8:Int).toNat Lb.bits))=n*256:=by
    rw[show(min (8:Int).toNat Lb.bits)=8 from rfl,show(2:Int)^8=256 from rfl]
    grind[Zs]
   have f:Lb.wrap ((s.getD ((a+i:Nat):Int).toNat 0).toNat:Int)=((s.getD (a+i) 0).toNat:Int):=by
    rw[show((a+i:Nat):Int).toNat=a+i from rfl]
    grind[Zs]
   rw[m,f];have o:=orQ (a:=n*256) (b:=((s.getD (a+i) 0).toNat:Int)) (n:=8*(i+1)-2) Aa Aa Aa Aa Aa;exact Qnx s hs a k hk h1 ha N (i+1) _ Aa Aa Aa o.1 o.2
  ·have c:=of_decide_eq_false c;have d:2^ (8*i-2)<=2^62:=Mm Aa Aa
   grind[Zs]
theorem PN(s:Ba)(hs:s.length<=1000000)(a:Int)(ha: -1000000<=a/\a<=1000000:=by omega):T (Yc s a) (QR s a):=by
 unfold Yc gG;refine T.ite (λ_=>T.pure (by unfold QR;simp)) λe=>?_;simp at e;obtain⟨a,rfl⟩:=Lu e.1;refine T.guard Aa (T.guard Aa ?_);have j:=(s.getD a 0).toNat_lt;have g:((2:Int)^ (min (6:Int).toNat L4.bits))=64:=rfl;simp only[g,show(a:Int).toNat=a from rfl];have i:((s.getD a 0).toNat:Int).fdiv 64=(((s.getD a 0).toNat/64:Nat):Int):=by
  grind
 rw[i];have f:(s.getD a 0).toNat/64<=3:=Aa
 obtain⟨k,b,c,hk⟩:∃k:Nat,1<=k/\k<=8/\Lb.wrap (1*2^ (min (((s.getD a 0).toNat/64:Nat):Int).toNat Lb.bits))=(k:Int):=by
  generalize (s.getD a 0).toNat/64=q at f
  match q,f with
  |0,_=>exact⟨1,Aa,Aa,rfl⟩
  |1,_=>exact⟨2,Aa,Aa,rfl⟩
  |2,_=>exact⟨4,Aa,Aa,rfl⟩
  |3,_=>exact⟨8,Aa,Aa,rfl⟩
  |n+4,h=>omega
 refine T.guard Aa ?_;rw[hk];refine T.ite (λ_=>T.pure (by unfold QR;simp)) λd=>T.guard Aa ?_;have d:=of_decide_eq_false d;rw[Zs]at d;have m:=Qzg (s.getD a 0);exact Qnx s hs a k c b Aa _ 1 _ (by simp[sg]) Aa b m.1 (by simpa using m.2)
def Zzl(s:Ba)(a:Int)(n:Nat)(r:List Int×Int×Bool×Unit):Prop:=0<r.1.length/\r.1.length<=3/\(r.2.2.1=K3->a<r.2.1/\r.2.1<=s.length/\r.1.length=n)
theorem Qp4(s:Ba)(hs:s.length<=1000000)(a:Int)(n:Nat)(h1:1<=n)(h3:n<=3):∀(N i:Nat)(b:Int)(out:List Int),n-i<N->i<=n->out.length=i->(-1000000<=b/\b<=1000000)->(i=0->b=a)->(0<i->a<b/\b<=s.length)->T (eE N s b (n:Int) out (i:Int)) (Zzl s a n)
 |0,_,_,_,h,_,_,_,_,_=>Aa
 |N+1,i,b,out,j,k,l,e,f,g=>by
  unfold eE;refine T.ite (λc=>?_) λc=>T.pure ⟨Ai,Ag,λ_=>?_⟩
  ·have c:=pE c;refine(PN s hs b e).bind λr d=>T.ite (λ_=>T.pure ⟨Ac,Ac,Ac⟩) λhk=>T.guard Aj ?_;have d:=d (by simpa using hk);rw[Zs (n:=(i:Int)+1)];exact Qp4 s hs a n h1 h3 N (i+1) _ _ Aa Aa Ae Aa Aa (λ_=>by
    omega)
  grind
theorem de(s:Ba)(hs:s.length<=1000000)(a:Int)(ha: -1000000<=a/\a<=1000000)(n:Nat)(h1:1<=n)(h3:n<=3):T (dF s a (n:Int)) (Zzl s a n):=by unfold dF;exact Qp4 s hs a n h1 h3 _ 0 a [] (by simp[eV]) Aa rfl ha (λ_=>rfl) Aa
def FR(s:Ba)(a:Int)(r:Zh×Int×Bool×Unit):Prop:=r.2.2.1=K3->a<r.2.1/\r.2.1<=s.length/\(r.1.2.2.2.1.length:Int)+1<=r.2.1-a
theorem FR.no{s:Ba}{a:Int}{i:Int}:FR s a (f,i,Lc,()):=by unfold FR;simp
theorem Qd8(s:Ba)(hs:s.length<=1000)(a:Int)(ha:0<=a/\a<=s.length)(k:Int):T (qt s a k) (FR s a):=by
 have h:∀(t f:Zh)(n z:Int),a<n->0<=z->n+z<=s.length->T (iu s t f n z) (FR s a):=λt f n z c d i=>by
  unfold iu tD;rw[Zs (n:=n+z)];have j:(((s.drop n.toNat).take ((n+z).toNat-n.toNat)).length:Int)<=z:=Ai
  exact T.guard Aa ((qH Ap).bind λr _=>T.if (T.pure FR.no) (T.pure λ_=>Ag))
 have e:∀(t f:Zh)(n:Int),a<n->n<=s.length->T (it s k t f n) (FR s a):=λt f n c d=>by
  unfold it;refine T.if ((PN s Aa n).bind λr b=>T.ite (λ_=>T.pure FR.no) λhk=>?_) ?_
  ·simp at hk;have b:=b hk.1
   grind[Zs]
  grind[Zs]
 have g:∀(t f:Zh)(n:Nat),1<=n->n<=2->T (mo s a k t f (n:Int)) (FR s a):=λt f n c d=>by
  unfold mo;refine(de s Aa a Aa n c Aa).bind λr b=>T.ite (λ_=>T.pure FR.no) λhk=>T.guard (by have:=b.1;omega) ?_;have q:=b.2.2 (by simpa using hk);refine T.ite (λl=>T.guard ?_ (e _ _ _ q.1 q.2.1)) λ_=>e _ _ _ q.1 q.2.1
  grind
 unfold qt;exact T.if (g _ _ 2 Aa Aa) (g _ _ 1 Aa Aa)
theorem zA(h:0<=k){n:Nat}(hn:0<n):0<=Lx k (n:Int)/\Lx k (n:Int)<n:=⟨Int.tmod_nonneg _ h,Int.tmod_lt_of_pos _ Aa⟩
theorem Qdd(s:Ba)(hs:s.length<=1000)(a:Int)(ha:0<=a/\a<s.length:=by omega):T (me s a) (FR s a):=by
 have e:∀(t f:Zh)(n:Int)(b:Bool),f.2.2.2.1=[]->(b=K3->a<n/\n<=s.length)->T (Y0 t f n b) (FR s a):=λt f n b c h=>by
  unfold Y0;refine T.bind (Q:=λ_=>True) (T.if T.tt (qH (by simp_all[RH]))) λr _=>T.ite (λ_=>T.pure FR.no) λhk=>T.pure λ_=>?_
  grind
 have m:∀(t f:Zh)(l:List Int)(n:Int)(b q:Bool),f.2.2.2.1=[]->0<l.length->(b=K3->a<n/\n<=s.length)->T (eN t f l n b q) (FR s a):=λt f l n b q c d h=>by
  unfold eN tH;exact T.if (T.guard Aa (T.guard Aa (T.guard (zA Aa d) (e _ _ _ _ c h)))) (T.guard Aa (e _ _ _ _ c h))
 have g:∀(t f:Zh)(n:Nat),1<=n->n<=3->f.2.2.2.1=[]->T (Va s a t f (n:Int)) (FR s a):=λt f n u v c=>by
  unfold Va;rw[Zs];refine(de s Aa _ Aa n u v).bind λr i=>?_;have d:=i.1;have h:r.2.2.1=K3->a<r.2.1/\r.2.1<=s.length:=λhk=>by have:=i.2.2 hk;omega
  have o:=zA (k:=1) Aa d;have w:=zA (k:=2) Aa d;exact T.if (T.guard Aa (T.guard Aa (T.guard o (T.guard Aa (T.guard w (e _ _ _ _ c h)))))) (T.if (T.guard Aa (T.guard Aa (T.guard o (e _ _ _ _ c h)))) (T.if (m _ _ _ _ _ _ c d h) (m _ _ _ _ _ _ c d h)))
 have p:∀(t f:Zh)(k:Int)(q:Bool),f.2.2.2.1=[]->T (eO s a t k f 1 q) (FR s a):=λt f k q c=>by
  unfold eO;exact T.if (g _ _ 1 Aa Aa c) (g _ _ 1 Aa Aa c)
 have j:∀(t f:Zh)(k x:Int)(q:Bool),f.2.2.2.1=[]->T (bq s a t k f 1 x q) (FR s a):=λt f k x q c=>by
  unfold bq;exact T.if (g _ _ 2 Aa Aa c) (T.if (p _ _ _ _ c) (p _ _ _ _ c))
 unfold me;refine T.guard (λ_=>Aa) (T.if (T.pure FR.no) (T.guard Aa (T.if ?_ (T.if (g _ _ 3 Aa Aa rfl) (T.if (j _ _ _ _ _ rfl) (T.if (j _ _ _ _ _ rfl) (j _ _ _ _ _ rfl)))))));rw[Zs (n:=a+1)];refine(Qd8 s hs _ Aa _).bind λr i=>T.pure λhk=>?_;have:=i hk;simp only;omega
def gr(l:List Zh):Nat:=(l.map λf=>f.2.2.2.1.length+2).sum
theorem Qxa(l:List Zh)(f:Zh):gr (l++[f])=gr l+f.2.2.2.1.length+2:=by simp[gr];omega
theorem Fe(s:Ba)(hs:s.length<=1000):∀(N a:Nat)(out:List Zh),s.length-a<N->a<=s.length->out.length<=a->gr out<=2*a->(∀f∈out,RH f)->T (J6 N s out (a:Int)) λr=>gr r.1<=2*s.length/\r.1.length<=s.length/\ ∀f∈r.1,RH f
 |0,_,_,h,_,_,_,_=>Aa
 |N+1,a,out,i,j,k,l,d=>by
  unfold J6;refine T.ite (λc=>?_) λc=>(Hm _ _ _).bind λt _=>T.pure ⟨Ag,Ag,d⟩;have c:=pE c;refine T.guard Aa (T.if ?_ ?_)
  ·rw[show Lb.wrap ((a:Int)+1)=((a+1:Nat):Int) by grind[Zs]];exact Fe s hs N (a+1) out Aa Aa Aa Aa d
  ·refine(Qdd s hs a).bind λr e=>T.ite (λ_=>T.pure ⟨by simp[gr],Ac,Ac⟩) λhk=>T.guard Aj ?_;have e:=e (by simpa using hk);obtain⟨b,g⟩:=Lu (show 0<=r.2.1 by omega);rw[g];refine Fe s hs N b _ Aa Aa Ae (by rw[Qxa];omega) λf h=>?_
   grind[RH]
theorem Qnw(s:Ba)(hs:s.length<=1000):T (V4 s) λr=>gr r.1<=2*s.length/\r.1.length<=s.length/\ ∀f∈r.1,RH f:=by grind[V4,Fe,mJ,gr]
theorem Z72(h:Qa K c)(hK:K<=1000000)(n:Int):T (mH c n) λr=>Qa K r.1:=by unfold mH tE;rw[Yn h hK,pA];exact T.bind (Q:=λ_=>True) (T.if (Hm _ _ _) T.tt) λt _=>T.if (T.pure ⟨h.str,h.pk⟩) (T.pure h)
theorem Qpq(h:Qa K c)(hK:K<=1000000)(n:Int):T (wo c n) λr=>Qa K r.1:=by unfold wo gH tG;rw[Yn h hK,pA];exact(KX h hK).bind λt _=>T.bind (Q:=λ_=>True) (T.if T.tt (Hm _ _ _)) λt _=>T.if (T.pure h) (T.pure ⟨h.str,h.pk⟩)
theorem Qh5(h:Qa K c)(hK:K+1<=500000)(i n:Int):T (nX c i n) λr=>Qa (K+1) r.1:=by unfold nX gH tD;rw[Yn h,pA];exact(rr h Aa i).bind λs a=>(KX h).bind λt _=>T.bind (Q:=λ_=>True) (T.if T.tt (ME _)) λt _=>T.if (T.pure (h.mono Aa)) ((Jt h.str (K':=K) (by exact⟨a.snd,a.rcv⟩) (Mz _)).bind λd b=>T.pure (h.up Aa b))
theorem Zzy(l:List Zh)(hf:∀f∈l,RH f)(hl:l.length<=1000):∀(N i K:Nat)(t x:Zf),l.length-i<N->i<=l.length->Qa K x->25<=K->K+gr (l.drop i)<=390000->T (Wx N t x l (i:Int)) λr=>Qa (K+gr (l.drop i)) r.1.1
 |0,_,_,_,_,h,_,_,_,_=>Aa
 |N+1,i,K,t,x,k,m,hx,a,n=>by
  unfold Wx gG gO;simp only[Xm,X5];refine T.ite (λb=>?_) λb=>T.pure (hx.mono Aa);have b:=pE b;have e:i<l.length:=Aa
  have g:=hf _ (Z5 (d:=Qe) e);have o:gr (l.drop i)=(l.getD i Qe).2.2.2.1.length+2+gr (l.drop (i+1)):=by grind[Qx,gr]
  refine T.guard Aa ((zT hx g a).bind λr c=>?_);unfold m8;refine T.if ((Z72 hx Aa _).bind λt j=>T.pure (j.mono Aa)) ?_;rw[Zr e];exact(Zzy l hf hl N (i+1) (K+(l.getD i Qe).2.2.2.1.length+2) _ _ Aa Aa c Aa Aa).mono λr c=>c.mono Aa
theorem Qlj(h:Qa K c)(h25:25<=K)(s:Ba)(hs:s.length<=1000)(hK:K+2*s.length<=390000):T (gz c s) λr=>Qa (K+2*s.length) r.1.1:=by unfold gz gH;rw[Yn h,pA];refine(Fi h).bind λt _=>T.bind (Q:=λ_=>True) (T.if T.tt T.tt) λt _=>T.if (T.pure (h.mono Aa)) ((Qnw s hs).bind λr a=>T.if ((Z72 h Aa _).bind λt b=>T.pure (b.mono Aa)) ?_);exact(Zzy r.1 a.2.2 Aa _ 0 K _ _ (by simp[aK]) Aa h h25 Ai).mono λy d=>d.mono Af
theorem Q1a(c:Qg)(h:Ys c):T (aP c) λr=>Ys r.2.1:=by obtain⟨x,b,e,a,-⟩:=HS c h;exact⟨_,e,a⟩
theorem Z7z(l:List Int):(Qb l).length=l.length:=by simp[Qb]
theorem Qxh(c:Qg)(hc:Ys c)(m:Nat)(hm:m<=200):T (x7 c (m:Int)) λr=>Ys r.2.1/\r.1.1.length<=m:=by
 have h:∀(N n:Nat)(c:Qg)(o:List Int)(y:Int),Ys c->n<N->n<=1000->o.length+n<=m->T (jo N c o y (n:Int)) λr=>Ys r.2.1/\r.1.1.length<=m:=by
  intro N
  induction N with
  |zero=>omega
  |succ N i=>
   intro n c o y hc j g k;unfold jo;refine T.ite (λd=>(Q1a c hc).bind λt a=>?_) λ_=>T.pure ⟨hc,by rw[Z7z];omega⟩;have d:=pE d;have e:∀c b,Ys c->T (yM (λv=>jo N v.1 v.2.1 v.2.2.1 v.2.2.2.1) c o y (n:Int) b) λr=>Ys r.2.1/\r.1.1.length<=m:=λc b hc=>by
    unfold yM;rw[show Lb.wrap ((n:Int)-1)=((n-1:Nat):Int) by grind[Zs]]
    grind[T.guard,Qd]
   have f:∀c b,Ys c->T (yK (λv=>jo N v.1 v.2.1 v.2.2.1 v.2.2.2.1) c o y (n:Int) b) λr=>Ys r.2.1/\r.1.1.length<=m:=λc b hc=>by
    unfold yK;exact T.if (T.guard Aa (e _ _ hc)) (e _ _ hc)
   exact T.if (T.guard Aa (f _ _ a)) (f _ _ a)
 unfold x7;refine(bw c 4 hc).bind λt a=>(bw _ _ a.1).bind λl p=>?_
 grind[Zs,zW]
theorem Qsr(c:Qg)(hc:Ys c)(s:Ba)(hs:s.length<=1000000):T (Fo c s) λr=>Ys r.2.1/\r.1.1.length<=s.length+3:=by
 unfold Fo gG;refine T.ite (λ_=>(Qxh c hc 3 Aa).bind λt j=>T.pure ⟨j.1,Ag⟩) λl=>?_;have l:0<s.length:=by
  grind
 refine(bw c _ hc).bind λm d=>(bw _ 4 d.1).bind λf a=>?_;have hk:=d.2.2 Aa;have g:=d.2.1;generalize m.1.1=k at hk g;obtain⟨n,rfl⟩:=Lu g;have e:Lb.wrap ((n:Int)+1)=((n+1:Nat):Int):=Al
 obtain⟨y,h,o,p,-⟩:=HS f.2.1 a.1;obtain⟨z,i,q,u,-⟩:=VQ f.2.1 255 a.1;rw[e];have v:(0:Int)<=0/\0<=(n:Int)/\(n:Int)<=(s.length:Int):=Aa
 have w:(0:Int)<=((n+1:Nat):Int)/\((n+1:Nat):Int)<=(s.length:Int)/\(s.length:Int)<=(s.length:Int):=Aa
 have x:(0:Int)<=(n:Int)/\(n:Int)<=(s.length:Int)/\(s.length:Int)<=(s.length:Int):=Aa
 have C:(0:Int)<=(n:Int)/\(n:Int)<(s.length:Int):=Aa
 simp only[o,q,pA,Zb v,Zb w,Zb x,Zb C,Xm];have E:((s.drop (0:Int).toNat).take ((n:Int).toNat- (0:Int).toNat)).length<=n:=Af
 have F:((s.drop ((n+1:Nat):Int).toNat).take ((s.length:Int).toNat- ((n+1:Nat):Int).toNat)).length<=s.length-n-1:=Ai
 have G:((s.drop (n:Int).toNat).take ((s.length:Int).toNat- (n:Int).toNat)).length<=s.length-n:=Af
 generalize (s.drop (0:Int).toNat).take ((n:Int).toNat- (0:Int).toNat)=A at E;generalize (s.drop ((n+1:Nat):Int).toNat).take ((s.length:Int).toNat- ((n+1:Nat):Int).toNat)=B at F;generalize (s.drop (n:Int).toNat).take ((s.length:Int).toNat- (n:Int).toNat)=D at G;have M:∀b:Int,(Qb [b]).length=1:=λb=>Z7z _;have H:A.length+B.length<=Z6:=Ak
 have I:∀b:Int,A.length+(Qb [b]).length<=Z6:=λb=>Ak
 have h:∀b:Int,(A++Qb [b]).length+D.length<=Z6:=λb=>Ak
 have i:∀b:Int,(A++Qb [b]).length+B.length<=Z6:=λb=>Ak
 simp only[Zb H,Zb (I _),Zb (h _),Zb (i _),X5];refine T.if (T.pure ⟨a.1,Ai⟩) (T.if (T.pure ⟨p,Ai⟩) (T.if (T.pure ⟨a.1,Ag⟩) (T.pure ⟨u,Ai⟩)))
theorem TX(code:List Int)(h:code.length<=1048576):T (qr code) λr=>Ys r.1:=by obtain⟨c,e,k⟩:=Qix code h;exact⟨_,e,k⟩
theorem Qi0(s:Ba)(a k:Int):∀(N:Nat)(n i:Int),mu N s a k n i=cK N s a k n i
 |0,_,_=>rfl
 |N+1,n,i=>by
  unfold mu cK;rw[Qi0 s a k N]
theorem s4(s:Ba)(hs:s.length<=1000000)(a:Int):Yi s a=Yc s a:=by
 unfold Yi gG Yc gG;rw[bL,pA];have e:(!(La (a>=0)&&La (a<=Lb.wrap ((s.length:Int)-1))))=(La (a<0)||La (a>=(s.length:Int))):=by
  grind(splits:=20)[Zs]
 simp only;rw[e];simp only[Qi0];rfl
theorem YD(s:Ba)(a:Int)(n:Int)(out:List Int)(i:Int)(N:Nat)(h:i<n)(hl:out.length<=10)(hi:0<=i/\i<=10:=by omega):eE (N+1) s a n out i=Ld (Yc s a) λt=>cond t.2.2.1 (eE N s t.2.1 n (out++[t.1]) (i+1)) (K2 ([(0:Int),(0:Int),(0:Int)],(0:Int),Lc,())):=by
 rw[eE];rw[Zl (Zk h)]
 grind[Zb,Qd,Zs]
theorem rd1(s:Ba)(a:Int):dF s a 1=Ld (Yc s a) λt=>cond t.2.2.1 (K2 ([t.1],t.2.1,K3,())) (K2 ([(0:Int),(0:Int),(0:Int)],(0:Int),Lc,())):=by unfold dF;rw[show eV s a 1 ([]:List Int) 0=1+1 from rfl,YD s a 1 [] 0 1 Aa Ac];congr 1
theorem HO(s:Ba)(a:Int):dF s a 2=Ld (Yc s a) λt=>cond t.2.2.1 (Ld (Yc s t.2.1) λu=>cond u.2.2.1 (K2 ([t.1,u.1],u.2.1,K3,())) (K2 ([(0:Int),(0:Int),(0:Int)],(0:Int),Lc,()))) (K2 ([(0:Int),(0:Int),(0:Int)],(0:Int),Lc,())):=by unfold dF;rw[show eV s a 2 ([]:List Int) 0=2+1 from rfl,YD s a 2 [] 0 2 Aa Ac];congr 1;funext t;rw[YD s _ 2 _ _ 1 Aa Ac];rfl
theorem HX(s:Ba)(a:Int):dF s a 3=Ld (Yc s a) λt=>cond t.2.2.1 (Ld (Yc s t.2.1) λu=>cond u.2.2.1 (Ld (Yc s u.2.1) λv=>cond v.2.2.1 (K2 ([t.1,u.1,v.1],v.2.1,K3,())) (K2 ([(0:Int),(0:Int),(0:Int)],(0:Int),Lc,()))) (K2 ([(0:Int),(0:Int),(0:Int)],(0:Int),Lc,()))) (K2 ([(0:Int),(0:Int),(0:Int)],(0:Int),Lc,())):=by
 unfold dF;rw[show eV s a 3 ([]:List Int) 0=3+1 from rfl,YD s a 3 [] 0 3 Aa Ac];congr 1;funext t;rw[YD s _ 3 _ _ 2 Aa Ac];have e:∀u:Int×Int×Bool×Unit,(cond u.2.2.1 (eE 2 s u.2.1 3 (([]++[t.1])++[u.1]) (0+1+1)) (K2 ([(0:Int),(0:Int),(0:Int)],(0:Int),Lc,())))=(cond u.2.2.1 (Ld (Yc s u.2.1) λv=>cond v.2.2.1 (K2 ([t.1,u.1,v.1],v.2.1,K3,())) (K2 ([(0:Int),(0:Int),(0:Int)],(0:Int),Lc,()))) (K2 ([(0:Int),(0:Int),(0:Int)],(0:Int),Lc,()))):=λu=>by
  rw[YD s _ 3 _ _ 1 Aa Ac];rfl
 simp only[e]
theorem Qja(h:f.2.2.2.1=[]):RH f:=by simp_all[RH]
theorem Sa(f:Zh)(n:Int)(h:f.2.2.2.1=[])(t:Zh):Ld (cond (!K3) (K2 (Lc,())) (Vz f)) (λt21=>bif(!K3)||(!t21.1)then K2 (Qe,(0:Int),Lc,())else K2 (f,n,K3,()))=Y0 t f n true:=by simp_all[Y0,I5,Qja,TK]
theorem Qzl(s:Ba)(i:Nat):Lb.wrap ((s.getD i 0).toNat:Int)=((s.getD i 0).toNat:Int)/\((s.getD i 0).toNat:Int)<=255:=by
 have:=(s.getD i 0).toNat_lt
 grind[Zs]
abbrev Tt(r:Zh×Int×Bool×Unit):Od Zh Int Bool:=Ld (cond (!r.2.2.1) (K2 (Lc,())) (Vz r.1)) λt21=>bif(!r.2.2.1)||(!t21.1)then K2 (Qe,(0:Int),Lc,())else K2 (r.1,r.2.1,K3,())
theorem Q08(s:Ba)(hs:s.length<=1000)(f t:Zh){x:Int}(hx:0<=x/\x<=s)(hz:0<=z/\z<=s-x):Ld (cH s x t f z K3) Tt=iu s t f x z:=by
 unfold cH tD iu tD;rw[Zs (n:=s-x),Zs (n:=x+z),pI,Lk,Zo (Zm),Zb,Zb,pA];have a:RH (f.1,f.2.1,f.2.2.1,(s.drop x.toNat).take ((x+z).toNat-x.toNat),f.2.2.2.2):=Ap
 simp_all[Tt,I5,TK]
theorem Q07(s:Ba)(hs:s.length<=1000)(f t:Zh)(k:Int){x:Int}(hx:0<=x/\x<=s):Ld (V2 s x k t f 0 K3) Tt=it s k t f x:=by
 unfold V2 it;simp only[pI,pH];rw[Zs (n:=s-x)];cases (bits .and .i64 k (2:Int))==(2:Int)
 ·simp_all[Q08]
 ·rw[pG,pG,s4 s Aa];obtain⟨⟨n,y,c,u⟩,e,h⟩:=PN s Aa x;rw[e];cases c
  ·rfl
  ·have h:=h rfl;simp only at h;simp only[pA,pI,pH,Lk];rw[Zs (n:=s-y)];by_cases a:n>s-y
   ·rw[Zl (Zk a)];unfold cH tD;rw[Zs (n:=s-y),Zl Af];rfl
   ·rw[Zo (Zm a)]
    grind[Q08]
theorem Q2g(s:Ba)(hs:s.length<=1000)(k:Int){x:Int}(hx:0<=x/\x<=s):Ld (uY s x k) Tt=qt s x k:=by
 unfold uY qt mo;rw[s4 s Aa,rd1,HO];obtain⟨⟨n,y,c,u⟩,e,h⟩:=PN s Aa x;rw[e];simp only[pA];cases c
 ·cases (bits .and .i64 k (4:Int))==(4:Int)<;>rfl
 ·have h:=h rfl;simp only at h;simp only[pI,pH,pG,pJ];cases (bits .and .i64 k (4:Int))==(4:Int)
  ·simp only[pH,pA,pI];rw[Zb Ac,Zo Ah]
   grind[Q07]
  ·simp only[pG];rw[s4 s Aa];obtain⟨⟨f,g,b,u2⟩,d,a⟩:=PN s Aa y;rw[d];simp only[pA];cases b
   ·rfl
   ·have a:=a rfl;simp only at a;simp only[pI,pH,pG,pA];rw[Zb Ac,Zl Ah,Zb Ac]
    grind[Q07]
def fld(f:Zh)(l:List Int):Zh:=cond (f.1==(4:Int)) (f.1,l.getD (0:Int).toNat (0:Int),f.2.2.1,f.2.2.2.1,f.2.2.2.2.1,l.getD (Lx (1:Int) l).toNat (0:Int),f.2.2.2.2.2.2.1,l.getD (Lx (2:Int) l).toNat (0:Int),f.2.2.2.2.2.2.2.2) (cond (f.1==(5:Int)) (f.1,l.getD (0:Int).toNat (0:Int),f.2.2.1,f.2.2.2.1,f.2.2.2.2.1,l.getD (Lx (1:Int) l).toNat (0:Int),f.2.2.2.2.2.2) (cond ((f.1==(17:Int))||(f.1==(21:Int))) (f.1,l.getD (0:Int).toNat (0:Int),f.2.2.1,f.2.2.2.1,f.2.2.2.2.1,f.2.2.2.2.2.1,l.getD (Lx (1:Int) l).toNat (0:Int),f.2.2.2.2.2.2.2) (f.1,f.2.1,f.2.2.1,f.2.2.2.1,f.2.2.2.2.1,f.2.2.2.2.2.1,l.getD (0:Int).toNat (0:Int),f.2.2.2.2.2.2.2)))
theorem Qu2(f:Zh)(l:List Int):(fld f l).1=f.1/\(fld f l).2.2.2.1=f.2.2.2.1:=by
 unfold fld
 grind
theorem Oi{s:Ba}{a:Int}{l:List Int}{x:Int}{c:Bool}(t f:Zh)(e:dF s (Lb.wrap (a+1)) n=K2 (l,x,c,()))(hl:0<l.length):Va s a t f n=Y0 t (fld f l) x c:=by
 have b:=zA (k:=1) Aa hl;have d:=zA (k:=2) Aa hl;unfold Va eN tH fld;rw[e,pA];simp only;cases h4:f.1==(4:Int)
 ·cases h5:f.1==(5:Int)
  ·cases h17:f.1==(17:Int)
   ·cases h21:f.1==(21:Int)
    ·simp_all[Zb]
    ·simp only[pH,pG,Mp]
     grind[Zb]
   ·simp only[pH,pG,M5]
    grind[Zb]
  ·simp only[pH,pG]
   grind[Zb]
 ·simp only[pG]
  grind[Zb]
theorem Qk8(s:Ba)(hs:s.length<=1000)(a:Int)(ha:0<=a/\a<s):yV s a=me s a:=by
 obtain⟨V,W⟩:=Qzl s a.toNat
 have j:Lb.wrap (a+1)=a+1:=Zs;have X:∀b:Int,Yi s b=Yc s b:=s4 s Aa;have Y:∀b:Int,0<=b->b<=1000-> ∃n x c,Yc s b=K2 (n,x,c,())/\(c=K3->(0<=n/\n<4611686018427387904)/\b<x/\x<=s):=λb Z h1=>by
  obtain⟨⟨n,x,c,u⟩,e,h⟩:=PN s Aa b;exact⟨n,x,c,e,λhc=>by have:=h hc;simp_all⟩
 unfold yV gH EK gG me;rw[bL,pA,Zs (n:=s-1),Zk (p:=a>=0) ha.1,Zk (p:=a<=s-1),Zm (p:=a<0),Zm (p:=a>=s)];simp only[Lf,pI,pH,Lk,Lg];rw[Zb,Zb (λ_=>Aa),V,j];generalize hk:((s.getD a.toNat 0).toNat:Int)=k at W;have ab:0<=k:=Aa
 by_cases K:k>23
 ·rw[Zl (b:=La (k>23)) (Zk K)];have O:(k==4)=false:=Ae
  have P:(k==5)=false:=Ae
  have w:(k==16)=false:=Ae
  have y:(k==20)=false:=Ae
  have z:(k==17)=false:=Ae
  have A:(k==21)=false:=Ae
  have B:(k==18)=false:=Ae
  have C:(k==19)=false:=Ae
  have D:(k==22)=false:=Ae
  have E:(k==23)=false:=Ae
  unfold oF tH oG dT tH Xq;simp only[O,P,w,y,z,A,B,C,D,E,pH,bL,pA,Zk (show k>=8 by omega),Zm (show ¬k<=15 by omega),Lm];rfl
 rw[Zo (b:=La (k>23)) (Zm K),Zb];have J:∀b:Int,0<=b->b<=s-> ∃n x c,Yc s b=K2 (n,x,c,())/\(c=K3->b<x/\x<=s):=λb Z h1=>by
  grind
 obtain⟨L,M,g,m,v⟩:=J (a+1) Aa Aa;have Q:∀(f t:Zh)(n:Int)(b:Bool),(f.1≠4/\f.1≠5/\f.1≠8/\f.1≠17/\f.1≠21/\f.1≠18/\f.1≠22/\f.1≠16/\f.1≠20)->f.2.2.2.1=[]->Y0 t f n b=K2 (Qe,(0:Int),Lc,()):=λf t n b hf hd=>by
  grind[Y0,TK,Qja,HA]
 have S:k=4\/k=5\/k=16\/k=20\/k=17\/k=21\/k=18\/k=19\/k=22\/k=23\/(8<=k/\k<=15)\/(k=0\/k=1\/k=2\/k=3\/k=6\/k=7):=Aa
 unfold oF tH oG dT tH Xq rQ;unfold bq eO;simp only[X,j,m,pA];have o:∃l,dF s (Lb.wrap (a+1)) 1=K2 (l,cond g M 0,g,())/\0<l.length/\(g=K3->l=[L]):=by
  rw[j,rd1,m];cases g
  all_goals simp
 obtain⟨l1,o,d,i⟩:=o;rcases S with h|h|h|h|h|h|h|h|h|h|h|h
 ·subst h;simp only[Le,pG,pH,Lq,Lr,decide_false,decide_true,Lh];cases g
  ·rw[Oi (l:=[0,0,0]) (x:=0) (c:=Lc) _ _ (by grind[HX]) Ac];rfl
  have v:=v rfl;obtain⟨F,G,H,I,N⟩:=J M Aa Aa;simp only[pI,pH,I,pA];cases H
  ·rw[Oi (l:=[0,0,0]) (x:=0) (c:=Lc) _ _ (by rw[j,HX,m];grind) Ac];rfl
  have N:=N rfl;obtain⟨n3,x3,c3,e3,g3⟩:=J G Aa Aa;simp only[pI,pH,e3,pA];cases c3
  ·rw[Oi (l:=[0,0,0]) (x:=0) (c:=Lc) _ _ (by rw[j,HX,m];grind) Ac];rfl
  ·rw[Oi (l:=[L,F,n3]) (x:=x3) (c:=K3) _ _ (by rw[j,HX,m];grind) Ac];exact Sa _ _ (by rfl) _
 ·subst h;simp only[Le,pG,pH,Lq,Lr,decide_false,decide_true,Lh,Lm];cases g
  ·rw[Oi (l:=[0,0,0]) (x:=0) (c:=Lc) _ _ (by grind[HO]) Ac];rfl
  have v:=v rfl;obtain⟨F,G,H,I,N⟩:=J M Aa Aa;simp only[pI,pH,I,pA];cases H
  ·rw[Oi (l:=[0,0,0]) (x:=0) (c:=Lc) _ _ (by rw[j,HO,m];grind) Ac];rfl
  ·rw[Oi (l:=[L,F]) (x:=G) (c:=K3) _ _ (by rw[j,HO,m];grind) Ac];exact Sa _ _ (by rfl) _
 ·subst h;simp only[Le,pG,pH,Lq,Lr,decide_false,decide_true,Lh,Lm];rw[Oi _ _ o d];cases g
  ·rfl
  ·rw[i rfl];exact Sa _ _ (by rfl) _
 ·subst h;simp only[Le,pG,pH,Lq,Lr,decide_false,decide_true,Lh,Lm];rw[Oi _ _ o d];cases g
  ·rfl
  ·rw[i rfl];exact Sa _ _ (by rfl) _
 ·subst h;simp only[Le,pG,pH,Lq,Lr,decide_false,decide_true,Lh,Lm];cases g
  ·rw[Oi (l:=[0,0,0]) (x:=0) (c:=Lc) _ _ (by grind[HO]) Ac];rfl
  have v:=v rfl;obtain⟨F,G,H,I,N⟩:=J M Aa Aa;simp only[pI,pH,I,pA];cases H
  ·rw[Oi (l:=[0,0,0]) (x:=0) (c:=Lc) _ _ (by rw[j,HO,m];grind) Ac];rfl
  ·rw[Oi (l:=[L,F]) (x:=G) (c:=K3) _ _ (by rw[j,HO,m];grind) Ac];exact Sa _ _ (by rfl) _
 ·subst h;simp only[Le,pG,pH,Lq,Lr,decide_false,decide_true,Lh,Lm];cases g
  ·rw[Oi (l:=[0,0,0]) (x:=0) (c:=Lc) _ _ (by grind[HO]) Ac];rfl
  have v:=v rfl;obtain⟨F,G,H,I,N⟩:=J M Aa Aa;simp only[pI,pH,I,pA];cases H
  ·rw[Oi (l:=[0,0,0]) (x:=0) (c:=Lc) _ _ (by rw[j,HO,m];grind) Ac];rfl
  ·rw[Oi (l:=[L,F]) (x:=G) (c:=K3) _ _ (by rw[j,HO,m];grind) Ac];exact Sa _ _ (by rfl) _
 ·subst h;simp only[Le,pG,pH,Lq,Lr,decide_false,decide_true,Lh,Lm];rw[Oi _ _ o d,Zb Ah];cases g
  ·rfl
  ·rw[i rfl];exact Sa _ _ (by rfl) _
 ·subst h;simp only[Le,pG,pH,Lq,Lr,decide_false,decide_true,Lh,Lm];rw[Oi _ _ o d,Zb Ah];cases g
  ·rfl
  ·rw[i rfl];exact Sa _ _ (by rfl) _
 ·subst h;simp only[Le,pG,pH,Lq,Lr,decide_false,decide_true,Lh,Lm];rw[Oi _ _ o d,Zb Ah];cases g
  ·rfl
  ·rw[i rfl];exact Sa _ _ (by rfl) _
 ·subst h;simp only[Le,pG,pH,Lq,Lr,decide_false,decide_true,Lh,Lm];rw[Oi _ _ o d,Zb Ah];cases g
  ·rfl
  ·rw[i rfl];exact Sa _ _ (by rfl) _
 ·have O:(k==4)=false:=Ae
  have P:(k==5)=false:=Ae
  have w:(k==16)=false:=Ae
  have y:(k==20)=false:=Ae
  have z:(k==17)=false:=Ae
  have A:(k==21)=false:=Ae
  have B:(k==18)=false:=Ae
  have C:(k==19)=false:=Ae
  have D:(k==22)=false:=Ae
  have E:(k==23)=false:=Ae
  simp only[O,P,w,y,z,A,B,C,D,E,pH,bL,pA,Zk (show k>=8 by omega),Zk (show k<=15 by omega),Zk (show k<16 by omega),Lf,pG];have e:=Q2g s hs k (x:=a+1) Aa;rw[<-e];obtain⟨r,U⟩:∃r,qt s (a+1) k=K2 r:=by
   obtain⟨r,U,-⟩:=Qd8 s hs (a+1) Aa k;exact⟨r,U⟩
  rw[e,U];cases hr:uY s (a+1) k with
  |none=>grind
  |some q=>
   grind
 ·rcases h with h|h|h|h|h|h<;>subst h<;>simp only[Le,pH,Lq,Lr,decide_false,decide_true,Lh,Lm,bL,pA,Int.reduceLE]<;>(rw[Oi _ _ o d];exact(Q _ _ _ _ (by rw[(Qu2 _ _).1];simp) (Qu2 _ _).2).symm)
theorem B1(s:Ba)(hs:s.length<=1000):∀(N a:Nat)(out:List Zh),a<=s->bN N s out (a:Int)=J6 N s out (a:Int)
 |0,_,_,_=>rfl
 |N+1,a,out,d=>by
  unfold bN gG J6;by_cases c:a<s
  ·rw[Zl (Zk),Zl (Zk),Zb,Zb,Zr c];cases ((s.getD (a:Int).toNat 0).toNat:Int)==(0:Int)
   ·rw[pH,pH,Qk8 s hs _ Aa];obtain⟨⟨f,n,b,u⟩,e,h⟩:=Qdd s hs (a:Int);rw[e];cases b
    ·rfl
    ·have h:=h rfl;simp only at h;simp only[pA,pI,pH];rw[show n=((n.toNat:Nat):Int) by omega,B1 s hs N n.toNat _ Aa]
   ·exact B1 s hs N (a+1) _ Aa
  ·rw[Zo (Zm),Zo (Zm)];rfl
theorem Qrm(s:Ba)(hs:s.length<=1000):XC s=V4 s:=B1 s hs _ 0 [] Aa
abbrev R3(c:Zf):Int:=c.2.2.2.2.2.2.2.2.2.2.2.2.2.2.2.2.2.1
abbrev PQ(c:Zf):=c.2.2.2.2.2.2.2.2.2.2.2.2.2
def clV(c:Zf)(n:Int):Zf:=cond ((R3 c==(0:Int))&&PF n 1 255) (c.1,c.2.1,c.2.2.1,c.2.2.2.1,c.2.2.2.2.1,c.2.2.2.2.2.1,c.2.2.2.2.2.2.1,c.2.2.2.2.2.2.2.1,c.2.2.2.2.2.2.2.2.1,c.2.2.2.2.2.2.2.2.2.1,c.2.2.2.2.2.2.2.2.2.2.1,c.2.2.2.2.2.2.2.2.2.2.2.1,c.2.2.2.2.2.2.2.2.2.2.2.2.1,c.2.2.2.2.2.2.2.2.2.2.2.2.2.1,c.2.2.2.2.2.2.2.2.2.2.2.2.2.2.1,c.2.2.2.2.2.2.2.2.2.2.2.2.2.2.2.1,c.2.2.2.2.2.2.2.2.2.2.2.2.2.2.2.2.1,n,c.2.2.2.2.2.2.2.2.2.2.2.2.2.2.2.2.2.2) c
theorem clS(h:Qa K c)(hK:K<=1000000)(n:Int):mH c n=K2 (clV c n,()):=by unfold mH tE clV;rw[Yn h hK,pA,Uk];simp only[bA,sZ];cases (R3 c==(0:Int))&&PF n 1 255<;>rfl
theorem clI(h:Qa K c)(hK:K<=1000000)(n:Int):yb c n=K2 (clV c n,()):=by unfold yb tE clV;rw[Wh h hK,pA,show Z0 n 1 255=K2 (PF n 1 255,())from rfl];simp only[bA,sZ];cases (R3 c==(0:Int))&&PF n 1 255<;>rfl
def qW:Zf->List Zh->Zf×Int|x,[]=>(x,0)|x,f::r=>cond ((qN x f).2.1 !=(0:Int)) (clV x (qN x f).2.1,(qN x f).2.1) (qW (qN x f).1 r)
theorem Qr8(h:Qa K c)(hf:RH f)(h25:25<=K)(hK:K<=390000):Qa (K+f.2.2.2.1+2) (qN c f).1:=by
 obtain⟨y,e,a⟩:=zT h hf h25 hK
 grind[Qz3]
theorem Qse(f:Zh)(r:List Zh):gr (f::r)=f.2.2.2.1+2+gr r:=by unfold gr;simp
theorem hpS(l:List Zh)(hf:∀f∈l,RH f)(hl:l.length<=1000):∀(N i K:Nat)(t x:Zf),l-i<N->i<=l->Qa K x->25<=K->K+gr (l.drop i)<=390000->
  Wx N t x l (i:Int)=K2 (((qW x (l.drop i)).1,(qW x (l.drop i)).2,()),())/\fL N t l x l (i:Int)=K2 ((qW x (l.drop i)).1,(qW x (l.drop i)).2,())
 |0,_,_,_,_,h,_,_,_,_=>Aa
 |N+1,i,K,t,x,n,o,hx,c,k=>by
  unfold Wx gG gO fL gG gO m8;by_cases e:i<l
  ·have j:=Qx (d:=Qe) e;have g:=hf _ (Z5 (d:=Qe) e);rw[j,Qse]at k;rw[j,Zl (Zk),Zl (Zk),Zb,Zb,Zr e,show(i:Int).toNat=i from rfl,Qz3 hx g c Aa,Q11 hx g c Aa];simp only[Xm,pA];unfold qW;cases hc:(qN x (l.getD i Qe)).2.1 !=(0:Int)
   ·have m:=Qr8 hx g c Aa;obtain⟨a,b⟩:=hpS l hf hl N (i+1) _ t (qN x (l.getD i Qe)).1 Aa Aa m Aa Aa;exact⟨a,b⟩
   ·rw[clS hx Aa,clI hx Aa];simp_all
  ·rw[Zo (Zm),Zo (Zm),Ly Aa];exact⟨rfl,rfl⟩
def LY(m:Oc (List Zh) Bool):List Zh×Bool×Unit:=match m with|some y=>y|none=>([],Lc,())
def Pq(c:Zf)(s:Ba):Zf×Int:=cond (ci c&& !(R3 c !=(0:Int))) (cond (LY (V4 s)).2.1 (qW c (LY (V4 s)).1) (clV c 7,7)) (c,R3 c)
theorem hpE(h:Qa K c)(h25:25<=K)(s:Ba)(hs:s.length<=1000:=by omega)(hK:K+2*s.length<=390000:=by omega):gz c s=K2 (((Pq c s).1,(Pq c s).2,()),())/\ul c s=K2 ((Pq c s).1,(Pq c s).2,()):=by
 obtain⟨⟨l,b,u⟩,e,g,i,f⟩:=Qnw s hs;simp only at g i f;have j:LY (V4 s)=(l,b,()):=by rw[e];rfl
 unfold Pq;rw[j];unfold gz gH ul gH;rw[Yn h,pA,Ih h,zg h,Ih h,Wh h,Qrm s hs,e];unfold iJ lG;simp only[bO,pA];cases hc:ci c
 ·simp_all
 cases hcl:R3 c !=(0:Int)
 ·simp only[pI,L0,Lf,Lk,pH,pG,Lm,Lg];cases b
  ·constructor<;>grind[clS,clI]
  ·obtain⟨a,d⟩:=hpS l f Aa (aK Xh c l 0) 0 K Xh c (by simp[aK]) Aa h h25 Ai;exact⟨a,d⟩
 simp_all
theorem Qw2(x:Zf)(id:Int):PQ (fin x id)=PQ x:=by
 unfold fin Fn;cases O8 x.1 (vO x id)
 ·rfl
 ·cases SN id<;>rfl
theorem Qwt(c:Zf)(id:Int):PQ (kU c id).2=PQ c:=by
 unfold kU Cg Fn;cases La (0<=Qk c.2.2.2.1 id)
 ·cases MN c.1 id
  ·cases B9 c id
   all_goals grind
  ·rfl
 ·rfl
theorem Qn4(c:Zf)(id:Int):0<=(kU c id).1/\(kU c id).1<=7:=by
 unfold kU;cases La (0<=Qk c.2.2.2.1 id)
 ·cases MN c.1 id
  ·cases B9 c id<;>(simp only[pG,pH];omega)
  simp_all
 simp_all
def TC(c:Zf)(r:Zf×Int×Unit):Prop:=PQ r.1=PQ c/\0<=r.2.1/\r.2.1<=7
theorem qI{g can:Bool}{k:Zf->Zf×Int×Unit}(hk:∀x,PQ x=PQ c->TC c (k x)):TC c (pre c f g can k):=by
 unfold pre;cases (ci c&&Ym f)&&g
 ·exact⟨rfl,Ai,Ai⟩
 cases can
 ·exact⟨rfl,Ai,Ai⟩
 cases (kU c f.2.1).1==0
 ·have:=Qn4 c f.2.1;exact⟨rfl,Ai,Ai⟩
 ·exact hk _ (Qwt c f.2.1)
theorem rdC{d:Ba}{fin:Bool}:Pc (Jg r o d fin) λy=>0<=y.2.1/\y.2.1<=7:=by
 unfold Jg tD;refine Pc.skip λa=>Pc.skip λb=>Pc.if (Pc.pure ⟨Ag,Ag⟩) ?_;simp only[P6,pA];have j:∀t x,Pc (Vd o d r t x) λy=>0<=y.2.1/\y.2.1<=7:=λt x=>by
  unfold Vd kR;exact Pc.skip λc=>Pc.skip λe=>Pc.if (Pc.pure ⟨Ag,Ag⟩) (Pc.pure ⟨Ag,Ag⟩)
 cases OG r (Lb.wrap (o+d)) fin
 all_goals simp_all[Pc.if,Pc.pure]
theorem rrC{f:Int}:Pc (W6 r k f) λy=>0<=y.2.1/\y.2.1<=7:=by
 unfold W6 gH;refine Pc.skip λa=>Pc.skip λb=>Pc.skip λc=>Pc.skip λd=>Pc.if (Pc.pure ⟨Ag,Ag⟩) ?_;simp only[P6,pA];cases OG r f K3
 all_goals simp_all[Pc.if,Pc.pure]
theorem Qkv{m:Oc Z1 Int}(h:Pc m λy=>0<=y.2.1/\y.2.1<=7):0<=(s8 m).2.1/\(s8 m).2.1<=7:=by
 unfold s8;cases m with
 |none=>simp_all
 |some y=>exact h y rfl
theorem Pg(h:PQ x=PQ c)(id:Int):TC c (fin x id,0,()):=⟨(Qw2 x id).trans h,L3 _,Ag⟩
theorem Sg(c:Zf)(a:0<=n)(b:n<=7):TC c (c,n,()):=⟨rfl,a,b⟩
theorem Qxn(c:Zf)(f:Zh):TC c (Dg c f):=by
 unfold Dg;cases f.1==17
 ·cases f.1==21
  ·simp only[pH];cases ci c&&Ym f
   ·simp_all[Sg]
   cases f.1==16
   ·cases f.1==18
    ·grind(splits:=20)[Sg]
    ·refine⟨?_,L3 _,Af⟩;show PQ (Bw c f.2.2.2.2.2.2.2.2.1 f.2.2.2.2.2.2.1)=_;unfold Bw
     grind
   ·exact⟨rfl,L3 _,Af⟩
  ·exact qI (k:=λx=>(x,0,())) λx h=>⟨h,L3 _,Ag⟩
 ·exact qI (k:=Tr f) λx h=>⟨h,L3 _,by simp_all[Tr]⟩
theorem BD(h:PQ x=PQ c)(id:Int)(y):PQ (zU x id y)=PQ c:=(show PQ (zU x id y)=PQ x from rfl).trans h
theorem jZ(h:PQ x=PQ c)(y):PQ (DK x y)=PQ c:=(show PQ (DK x y)=PQ x from rfl).trans h
theorem Qym(c:Zf)(f:Zh)(h:PQ x=PQ c):TC c (SS f x):=by
 unfold SS;cases (E4 x f).2.1
 ·simp_all[Pg]
 ·rw[pG];exact Pg (BD h _ _) _
theorem Qyh(c:Zf)(f:Zh)(h:PQ x=PQ c):TC c (Et c f x):=by
 have hv:0<=(Pm x f).2.1/\(Pm x f).2.1<=7:=Qkv rrC;unfold Et;generalize Pm x f=r at hv⊢;cases s7 x (vO x f.2.1) (gW x f)
 ·simp_all[Sg]
 rw[pG];cases r.2.1==0
 ·simp_all[Sg]
 rw[pG];cases (r.1.1==4)&&((vO x f.2.1).2.2.2.1.1 !=4)
 ·rw[pH];exact Pg (BD (jZ h _) _ _) _
 ·rw[pG];exact Pg (BD (jZ h _) _ _) _
theorem Qrl(c:Zf)(f:Zh)(h:PQ x=PQ c):TC c (Fd c f x):=by
 have hv:=Qkv (rdC (r:=(vO x f.2.1).2.2.2.1) (o:=f.2.2.1) (d:=f.2.2.2.1) (fin:=f.2.2.2.2.1));unfold Fd;generalize s8 (Jg (vO x f.2.1).2.2.2.1 f.2.2.1 f.2.2.2.1 f.2.2.2.2.1)=r at hv⊢;cases s7 x (vO x f.2.1) (MO (vO x f.2.1).2.2.2.1 (Lb.wrap (f.2.2.1+f.2.2.2.1)))
 ·simp_all[Sg]
 rw[pG];cases r.2.1==0
 ·simp_all[Sg]
 ·rw[pG];exact Pg (BD (jZ h _) _ _) _
theorem Qw6(c:Zf)(f:Zh):TC c (qN c f):=by
 unfold qN;cases f.1==8
 ·cases f.1==4
  ·cases f.1==5
   all_goals simp_all[Qxn,qI,Qym]
  simp_all[qI,Qyh]
 simp_all[qI,Qrl]
def qJ(c:Zf)(s1:Zj)(k:Int):Zj:=cond (k==(4:Int)) (s1.1,s1.2.1,s1.2.2.1,s1.2.2.2.1,s1.2.2.2.2.1,s1.2.2.2.2.2.1,s1.2.2.2.2.2.2.1,s1.2.2.2.2.2.2.2.1,Lc,s1.2.2.2.2.2.2.2.2.2) (cond (k==(5:Int)) (s1.1,s1.2.1,s1.2.2.1,s1.2.2.2.1,s1.2.2.2.2.1,s1.2.2.2.2.2.1,s1.2.2.2.2.2.2.1,s1.2.2.2.2.2.2.2.1,s1.2.2.2.2.2.2.2.2.1,Lc,s1.2.2.2.2.2.2.2.2.2.2) (cond (k==(17:Int)) (s1.1,s1.2.1,s1.2.2.1,s1.2.2.2.1,(cond (wR s1) (R0 s1.2.2.2.2.1 (En c) (D5 c)) s1.2.2.2.2.1),s1.2.2.2.2.2.1,s1.2.2.2.2.2.2.1,s1.2.2.2.2.2.2.2.1,s1.2.2.2.2.2.2.2.2.1,s1.2.2.2.2.2.2.2.2.2.1,Lc,s1.2.2.2.2.2.2.2.2.2.2.2) (cond (k==(21:Int)) (s1.1,s1.2.1,AM s1.2.2.1,s1.2.2.2) s1)))
theorem Qzt(c:Zf)(s:Zj)(k:Int):zt c s k=K2 ((qJ c s k,()),()):=by
 unfold zt tB tC tF tN qJ;rw[lwE,Ib];cases k==(4:Int)
 ·cases k==(5:Int)
  ·cases k==(17:Int)
   ·grind
   ·simp only[pH,pG,pA];cases hw:wR s
    ·rfl
    ·cases hm:Dp s.2.2.2.2.1
     ·simp_all[R0,UC]
     ·cases ho:D2 s.2.2.2.2.1 (En c) (D5 c)
      all_goals simp_all[R0]
  ·rfl
 ·rfl
theorem Qi1(c:Zf)(s:Zj)(k:Int):(qJ c s k).1=s.1:=by unfold qJ;cases k==(4:Int)<;>cases k==(5:Int)<;>cases k==(17:Int)<;>cases k==(21:Int)<;>rfl
theorem Qdj(c:Zf)(s:Zj)(k:Int):(qJ c s k).2.1=s.2.1:=by unfold qJ;cases k==(4:Int)<;>cases k==(5:Int)<;>cases k==(17:Int)<;>cases k==(21:Int)<;>rfl
theorem Qdi(c:Zf)(s:Zj)(k:Int):(qJ c s k).2.2.2.1=s.2.2.2.1:=by unfold qJ;cases k==(4:Int)<;>cases k==(5:Int)<;>cases k==(17:Int)<;>cases k==(21:Int)<;>rfl
theorem Qny{s:Zj}(h:Xz K s)(c:Zf)(k:Int):Xz K (qJ c s k):=⟨by rw[Qdj];exact h.snd,by rw[Qdi];exact h.rcv⟩
theorem Qrr(c:Zf)(s:Zj)(k:Int):wR (qJ c s k)=wR s:=by unfold qJ;cases k==(4:Int)<;>cases k==(5:Int)<;>cases k==(17:Int)<;>cases k==(21:Int)<;>rfl
abbrev Q1k(c:Zf)(l:List Zj):Zf:=(c.1,c.2.1,c.2.2.1,l,c.2.2.2.2)
def GH(c:Zf)(f:Zh):Zf:=cond (f.1==(16:Int)) (c.1,c.2.1,c.2.2.1,c.2.2.2.1,c.2.2.2.2.1,R0 c.2.2.2.2.2.1 (En c) (D5 c),c.2.2.2.2.2.2.1,c.2.2.2.2.2.2.2.1,c.2.2.2.2.2.2.2.2.1,c.2.2.2.2.2.2.2.2.2.1,Lc,c.2.2.2.2.2.2.2.2.2.2.2) (cond (f.1==(18:Int)) (cond f.2.2.2.2.2.2.2.2.1 (c.1,c.2.1,c.2.2.1,c.2.2.2.1,c.2.2.2.2.1,c.2.2.2.2.2.1,c.2.2.2.2.2.2.1,c.2.2.2.2.2.2.2.1,c.2.2.2.2.2.2.2.2.1,t8 c.2.2.2.2.2.2.2.2.2.1,c.2.2.2.2.2.2.2.2.2.2.1,c.2.2.2.2.2.2.2.2.2.2.2.1,Lc,c.2.2.2.2.2.2.2.2.2.2.2.2.2) (c.1,c.2.1,c.2.2.1,c.2.2.2.1,c.2.2.2.2.1,c.2.2.2.2.2.1,c.2.2.2.2.2.2.1,c.2.2.2.2.2.2.2.1,t8 c.2.2.2.2.2.2.2.2.1,c.2.2.2.2.2.2.2.2.2.1,c.2.2.2.2.2.2.2.2.2.2.1,Lc,c.2.2.2.2.2.2.2.2.2.2.2.2)) (cond (f.1==(20:Int)) (c.1,c.2.1,c.2.2.1,c.2.2.2.1,AM c.2.2.2.2.1,c.2.2.2.2.2) (cond (f.1==(22:Int)) (cond f.2.2.2.2.2.2.2.2.1 (c.1,c.2.1,c.2.2.1,c.2.2.2.1,c.2.2.2.2.1,c.2.2.2.2.2.1,c.2.2.2.2.2.2.1,(c.2.2.2.2.2.2.2.1.1,c.2.2.2.2.2.2.2.1.2.1,(-1:Int),c.2.2.2.2.2.2.2.1.2.2.2),c.2.2.2.2.2.2.2.2) (c.1,c.2.1,c.2.2.1,c.2.2.2.1,c.2.2.2.2.1,c.2.2.2.2.2.1,(c.2.2.2.2.2.2.1.1,c.2.2.2.2.2.2.1.2.1,(-1:Int),c.2.2.2.2.2.2.1.2.2.2),c.2.2.2.2.2.2.2)) (ite (0<=Qk c.2.2.2.1 f.2.1) (Q1k c (c.2.2.2.1.set (Qk c.2.2.2.1 f.2.1).toNat (qJ c (c.2.2.2.1.getD (Qk c.2.2.2.1 f.2.1).toNat Zc) f.1))) c))))
theorem mkE(h:Qa K c)(hK:K<=1000000)(f:Zh):mj c f=K2 (cond (ci c) (GH c f) c,()):=by
 have g:=h.str.len;obtain⟨i,-,j⟩:=uT (l:=c.2.2.2.1) Aa f.2.1;unfold mj tD tH tJ tL tN tS tU tW GH;rw[Yn h hK,Ih h hK,pA,pA];cases ci c
 ·rfl
 ·simp only[pI,pH,pG,ttE,Hx,Ib,pA,eW h hK];cases f.1==(16:Int)
  ·cases f.1==(18:Int)
   ·cases f.1==(20:Int)
    ·cases f.1==(22:Int)
     ·simp only[pH];by_cases a:0<=Qk c.2.2.2.1 f.2.1
      ·have b:=h.str.all _ (Z5 (d:=Zc) (show(Qk c.2.2.2.1 f.2.1).toNat<c.2.2.2.1.length by omega));have e:(qJ c (c.2.2.2.1.getD (Qk c.2.2.2.1 f.2.1).toNat Zc) f.1).1=f.2.1:=by simp_all[Qi1]
       rw[if_pos a,if_pos a];simp only[pG,Qzt,pA];rw[EJ h.str (Qny b c f.1) hK (by rw[e];exact a),e];rfl
      simp_all[if_neg]
     ·cases f.2.2.2.2.2.2.2.2.1<;>rfl
    ·rfl
   ·cases f.2.2.2.2.2.2.2.2.1<;>rfl
  ·rfl
theorem Un(f:Zh):Ju f=K2 ((((f.1==(4:Int))||(f.1==(5:Int)))||(f.1==(8:Int)))||((f.1==(17:Int))||(f.1==(21:Int))),()):=by grind[Ju,Wu]
theorem Qbj(h:Qa K c)(hK:K<=1000000)(f:Zh)(h17:f.1=17-> ∀s∈c.2.2.2.1,s.1=f.2.1->wR s=K3):y8 c f=K2 (cond (ci c) (GH c f) c,()):=by
 have v:=h.str.len;obtain⟨w,-,r⟩:=uT (l:=c.2.2.2.1) Aa f.2.1;unfold y8;simp only[Xm,X5];rw[Wh h hK,pA,xX Aa,VB Aa,pA];unfold qz gG gH gJ tB tC tD tF tH tJ tL tN tS tU tW Kv;simp only[zg h hK,Ih h hK,pA,Un,bO,Xm,X5,Qby,Z0b,Qwi,Py,raE,Ib];cases ci c
 ·rfl
 ·simp only[pI,Lk,pG];by_cases m:0<=Qk c.2.2.2.1 f.2.1
  ·have t:=Z5 (d:=Zc) (show(Qk c.2.2.2.1 f.2.1).toNat<c.2.2.2.1.length by omega);rw[Zm (p:=Qk c.2.2.2.1 f.2.1<0),Lm,pH,Zb];unfold GH;rw[if_pos m];generalize y:(Qk c.2.2.2.1 f.2.1).toNat=j at*
   have n:j<c.2.2.2.1.length:=Aa
   have u:∀x:Zj,(c.2.2.2.1.set j x).getD j Zc=x:=λx=>by
    rw[Mv,Na n];rfl
   by_cases a:f.1=16
   ·rw[a];rfl
   by_cases b:f.1=18
   ·rw[b];cases f.2.2.2.2.2.2.2.2.1<;>rfl
   by_cases e:f.1=20
   ·rw[e];rfl
   by_cases g:f.1=22
   ·rw[g];cases f.2.2.2.2.2.2.2.2.1<;>rfl
   simp only[beq_false_of_ne a,beq_false_of_ne b,beq_false_of_ne e,beq_false_of_ne g,pH];by_cases o:f.1=4
   ·rw[o];rfl
   by_cases q:f.1=5
   ·rw[q];rfl
   by_cases i:f.1=17
   ·have z:=h17 i _ t (r m);rw[i];simp only[u,Lz];unfold qJ
    grind
   by_cases k:f.1=21
   ·rw[k];rfl
   simp only[beq_false_of_ne o,beq_false_of_ne q,beq_false_of_ne i,beq_false_of_ne k,pH,qJ,Qfa];cases (f.1==8)<;>rfl
  ·rw[Zk (p:=Qk c.2.2.2.1 f.2.1<0),L6];unfold GH;rw[if_neg m];by_cases a:f.1=16
   ·rw[a];rfl
   by_cases b:f.1=18
   ·rw[b];cases f.2.2.2.2.2.2.2.2.1<;>rfl
   by_cases e:f.1=20
   ·rw[e];rfl
   by_cases g:f.1=22
   ·rw[g];cases f.2.2.2.2.2.2.2.2.1<;>rfl
   simp only[beq_false_of_ne a,beq_false_of_ne b,beq_false_of_ne e,beq_false_of_ne g,pH]
   grind
theorem Qum(n:Int):fe n=K2 (Qb [L4.wrap (bits .and .i64 n (255:Int))],()):=by
 unfold fe sl;have h:=jE n;generalize bits .and .i64 n (255:Int)=m at*
 rw[show Z9 1 1 7=K2 (K3,())from rfl];simp only[pA,pI,Lk];rw[Zo (Zm)];show Ld (Y1 2 m 1 [] 0) _=_;unfold Y1;rw[Zl Ah,Zb Ah];simp only;rw[Zb (by simp[Z6,Qb]),Zb Ah];unfold Y1;have a:Lx m 256=m:=Ai
 have b:Int.tdiv m 256=0:=Ai
 rw[show Lb.wrap ((0:Int)+1)=1 from rfl,Zo Ah,a,b,show Lb.wrap (0:Int)=0 from rfl];simp
theorem DN(l:List Int):(Qb l)=l.length:=by simp[Qb]
theorem Quo(h0:0<=n)(h1:n<=255):fe n=K2 (Qb [L4.wrap n],()):=by
 rw[Qum];have h:bits .and .i64 n 255=Lb.wrap (((Lj 64 n&&&Lj 64 255).toNat:Nat):Int):=rfl;have e:(Lj 64 n&&&Lj 64 255).toNat=n.toNat:=by
  rw[M2,M3,M3];have a:(n% ((2^64:Nat):Int)).toNat=n.toNat:=Aa
  have b:((255:Int)% ((2^64:Nat):Int)).toNat=2^8-1:=Aa
  rw[a,b,Nc];omega
 grind[Zs]
def Dk(n:Int):Int:=ite (n<0\/n>4611686018427387903) 0 (ite (n<64) 1 (ite (n<16384) 2 (ite (n<1073741824) 4 8)))
theorem yw(n:Int):0<=Dk n/\Dk n<=8:=by grind[Dk]
theorem Qj6(h:fq n=K3):1<=Dk n:=by simp_all[fq,Dk]<;>omega
theorem Qvp(h0:0<=n)(h1:n<64):Dk n=1:=by unfold Dk;omega
theorem Re(n:Int):lO n=K2 (Dk n,()):=by
 unfold lO Dk
 grind
theorem szI(n:Int):WY n=K2 (Dk n,()):=by
 rw[<-Re]
 grind(splits:=20)[WY,lO,PX,kb]
theorem Quu(n k:Int):∀(N m:Nat)(s:Ba),m<N->m<=8->s+m<=8->T (Qw N n k s ((m:Int)-1)) λr=>r.1=s+m
 |0,_,_,h,_,_=>Aa
 |N+1,0,s,_,_,a=>by
  simp_all[Qw,T.pure]
 |N+1,m+1,s,d,e,a=>by
  unfold Qw;have j:∀b,T (Yv (λv=>Qw N v.1 v.2.1 v.2.2.1 v.2.2.2.1) n k s (((m+1:Nat):Int)-1) b) λr=>r.1=s+(m+1):=λb=>by
   unfold Yv;have c:Lb.wrap (((m+1:Nat):Int)-1-1)=(m:Int)-1:=Al
   rw[Qum,pA,c];exact T.guard (by grind[Z6,DN]) ((Quu n k N m _ Aa Aa (by grind[DN])).mono λy f=>by grind[DN])
  exact T.ite (λ_=>T.guard Al (T.if (T.if (j _) (T.if (j _) (T.if (j _) (j _)))) (j _))) λh=>Af
theorem enS(n:Int):T (Wg n) λr=>r.1=Dk n:=by
 unfold Wg;rw[Re,pA];have a:=yw n
 grind[Lu,Zs,Quu,Vo]
theorem Qut(k:Int):∀(N m:Nat)(n:Int)(o:List Int),m<N->m<=o->0<o.length->o.length<=8->T (Kd N n k o ((m:Int)-1)) λr=>r.1=o.length
 |0,_,_,_,h,_,_,_=>Aa
 |N+1,0,n,o,_,_,a,_=>by
  unfold Kd;have j:∀x:List Int,x=o.length->T (cE x) λr=>r.1=o.length:=λx hx=>T.pure (by simp_all[DN]);exact T.ite (λh=>by simp at h) λ_=>T.if (T.guard Aa (T.guard Aa (j _ Ac))) (T.if (T.guard Aa (T.guard Aa (j _ Ac))) (T.if (T.guard Aa (T.guard Aa (j _ Ac))) (j _ rfl)))
 |N+1,m+1,n,o,d,e,a,f=>by
  unfold Kd;have b:Lb.wrap (((m+1:Nat):Int)-1-1)=(m:Int)-1:=Al
  refine T.ite (λ_=>T.guard Aa (T.guard Aa ?_)) λh=>Af
  rw[b];exact(Qut k N m _ _ Aa Ai Af Af).mono λy c=>by rw[c];simp
theorem IJ(n:Int):T (Yz n) λr=>r.1=Dk n:=by
 unfold Yz;rw[szI,pA];have b:=yw n;by_cases a:Dk n=0
 ·simp_all[T.pure]
 ·have e:(Dk n==0)=false:=by simpa using a
  rw[Zo e,Zb Aj]
  grind[Zs,Qut,cW]
def zX:List Int->Int|[]=>0|x::r=>Dk x+zX r
theorem IG:∀l:List Int,0<=zX l/\zX l<=8*l
 |[]=>by simp[zX]
 |x::r=>by
  have:=IG r;have:=yw x
  grind[zX]
theorem Quz(l:List Int)(hl:l.length<=1000)(hq:∀x∈l,fq x=K3):∀(N i:Nat)(s:Ba),l-i<N->i<=l->s<=8*i->T (Vb N l s (i:Int)) λr=>r.1=s+zX (l.drop i)
 |0,_,_,h,_,_=>Aa
 |N+1,i,s,b,c,e=>by
  unfold Vb gG;refine T.ite (λa=>?_) λa=>T.pure (by simp_all[Ly,zX]);have a:=pE a;have f:=Qj6 (hq _ (Z5 (d:=0) (show i<l by omega)));rw[Zb,Re,pA,show(i:Int).toNat=i from rfl];refine T.ite (λh=>Af) λ_=>T.guard Aa ((enS _).bind λt g=>?_);have j:=yw (l.getD i 0);refine T.guard Ak ?_;rw[Zr (m:=l),Qx (d:=0) (show i<l by omega)];exact(Quz l hl hq N (i+1) _ Aa Aa Ai).mono λy k=>by grind[zX]
theorem f8(l:List Int)(hl:l.length<=1000)(hq:∀x∈l,fq x=K3):T (Xx l) λr=>r.1=zX l:=by grind[Xx,Quz,iI]
theorem Quy(l:List Int)(hl:l.length<=1000)(hq:∀x∈l,fq x=K3):∀(N i:Nat)(s:Ba),l-i<N->i<=l->s<=8*i->T (bo N s l l (i:Int)) λr=>r.1=s+zX (l.drop i)
 |0,_,_,h,_,_=>Aa
 |N+1,i,s,c,e,f=>by
  unfold bo;refine T.ite (λa=>?_) λa=>T.pure (by simp_all[Ly,zX]);have a:=pE a;have b:=hq _ (Z5 (d:=0) (show i<l by omega));rw[Zb,A5,pA,show(i:Int).toNat=i from rfl,b];refine T.ite (λh=>by cases h) λ_=>((IJ _).bind λt g=>?_)
  have j:=yw (l.getD i 0);refine T.guard Ak ?_;rw[Zr (m:=l),Qx (d:=0) (show i<l by omega)];exact(Quy l hl hq N (i+1) _ Aa Aa Ai).mono λy k=>by grind[zX]
theorem esI(l:List Int)(hl:l.length<=1000)(hq:∀x∈l,fq x=K3):T (aY l) λr=>r.1=zX l:=by grind[aY,Quy,qc]
def gS(f:Zh):Int:=ite (Ym f=K3) (1+(ite (f.1=4) (Dk f.2.1+Dk f.2.2.2.2.2.1+Dk f.2.2.2.2.2.2.2.1) (ite (f.1=5) (Dk f.2.1+Dk f.2.2.2.2.2.1) (ite (f.1=8) (Dk f.2.1+(ite (f.2.2.1=0) 0 (Dk f.2.2.1))+Dk f.2.2.2.1+f.2.2.2.1) (ite (f.1=17\/f.1=21) (Dk f.2.1+Dk f.2.2.2.2.2.2.1) (Dk f.2.2.2.2.2.2.1)))))) 0
structure FrF(f:Zh):Prop where
 kind:f.1=4\/f.1=5\/f.1=8\/f.1=16\/f.1=17\/f.1=18\/f.1=20\/f.1=21\/f.1=22
 st:fq f.2.1=K3
 off:fq f.2.2.1=K3
 code:fq f.2.2.2.2.2.1=K3
 lim:fq f.2.2.2.2.2.2.1=K3
 fin:fq f.2.2.2.2.2.2.2.1=K3
 len:f.2.2.2.1.length<=400
theorem gm(h:Ym f=K3):FrF f:=by unfold Ym at h;simp only[pC,decide_eq_true_eq]at h;obtain⟨⟨⟨⟨⟨⟨⟨a,b⟩,c⟩,d⟩,e⟩,g⟩,i⟩,-⟩:=h;have hk:=Hw a;simp only[Bool.or_eq_true,beq_iff_eq]at hk;exact⟨Aa,b,c,d,e,g,i⟩
theorem fg(h0:0<=n:=by omega)(h1:n<=100000:=by omega):fq n=true:=by grind[fq]
theorem VM{a b:Int}(ha:fq a=K3)(hb:fq b=K3):∀x∈[a,b],fq x=true:=by simp[ha,hb]
theorem PT{a b c:Int}(ha:fq a=K3)(hb:fq b=K3)(hc:fq c=K3):∀x∈[a,b,c],fq x=true:=by simp[ha,hb,hc]
theorem P8{a b c d:Int}(ha:fq a=K3)(hb:fq b=K3)(hc:fq c=K3)(hd:fq d=K3):∀x∈[a,b,c,d],fq x=true:=Af
theorem PW(h:RH f):T (Wj f) λr=>r.1=gS f:=by
 have p:=h;unfold RH at p;unfold Wj gS;rw[uK _,pA];by_cases d:Ym f=K3
 ·have F:=gm d;rw[if_pos d,d];simp only[pI,pH];have l:∀{n:Int},0<=n->n<64-> ∀r,zX (n::r)=1+zX r:=λm q r=>by simp_all[zX,Qvp]
  have g:∀{n:Int},0<=n->n<64->fq n=true:=λa b=>fg a;rcases F.kind with e|e|e|e|e|e|e|e|e
  ·rw[e];exact(f8 _ Ac (P8 (g Aa Aa) F.st F.code F.fin)).bind λt c=>T.pure (by grind[zX])
  ·rw[e];exact(f8 _ Ac (PT (g Aa Aa) F.st F.code)).bind λt c=>T.pure Ar
  ·have j:∀k:Int,0<=k->k<50->T (Wq f k) λr=>r.1=1+(Dk f.2.1+(ite (f.2.2.1=0) 0 (Dk f.2.2.1))+Dk f.2.2.2.1+f.2.2.2.1):=λk m q=>by
    unfold Wq;have o:fq f.2.2.2.1=true:=fg;refine T.ite (λh=>?_) λh=>?_
    ·refine(f8 _ Ac (PT (g m Aa) F.st o)).bind λt c=>?_;have i:=IG [k,f.2.1,f.2.2.2.1];simp only[Li,Lo]at i;refine T.guard Ak (T.pure ?_);rw[if_pos (eq_of_beq h)]
     grind[zX]
    ·have hk:Lb.wrap (k+4)=k+4:=Zs;rw[hk];refine(f8 _ Ac (P8 (g (n:=k+4) Aa Aa) F.st F.off o)).bind λt c=>?_;have i:=IG [k+4,f.2.1,f.2.2.1,f.2.2.2.1];simp only[Li,Lo]at i;refine T.guard Ak (T.pure ?_);rw[if_neg (λs=>Af)]
     grind[zX]
   rw[e];simp only[Le,Int.reduceEq,pH,pG,if_false,if_true];exact T.if (j _ Ah Ah) (j _ Ah Ah)
  ·rw[e];unfold Xl;exact(f8 _ Ac (VM (by rw[e];rfl) F.lim)).bind λt c=>T.pure Ar
  ·rw[e];unfold Xl Y2;exact(f8 _ Ac (PT (by rw[e];rfl) F.st F.lim)).bind λt c=>T.pure Ar
  ·rw[e];unfold Xl Y2 Wr;simp only[Le,pH];refine T.if ?_ ?_
   ·rw[e];exact(f8 _ Ac (VM (by rfl) F.lim)).bind λt c=>T.pure (by rw[c,l (by decide) (by decide)];simp[zX])
   ·exact(f8 _ Ac (VM (by rw[e];rfl) F.lim)).bind λt c=>T.pure Ar
  ·rw[e];unfold Xl;exact(f8 _ Ac (VM (by rw[e];rfl) F.lim)).bind λt c=>T.pure Ar
  ·rw[e];unfold Xl Y2;exact(f8 _ Ac (PT (by rw[e];rfl) F.st F.lim)).bind λt c=>T.pure Ar
  ·rw[e];unfold Xl Y2 Wr;simp only[Le,pH];refine T.if ?_ ?_
   ·rw[e];exact(f8 _ Ac (VM (by rfl) F.lim)).bind λt c=>T.pure (by rw[c,l (by decide) (by decide)];simp[zX])
   ·exact(f8 _ Ac (VM (by rw[e];rfl) F.lim)).bind λt c=>T.pure Ar
 ·rw[if_neg d];have d:Ym f=false:=by simpa using d
  rw[d];exact T.pure rfl
theorem GK{x y:Int}(hz:x+y=z)(ha:a=x)(hb:b=y):((a++b:Ba))=z:=Af
theorem Q13(h:RH f):T (fZ f) λr=>r.1=gS f:=by
 have A:=h;unfold RH at A;unfold fZ gS;rw[zf _,pA];by_cases s:Ym f=K3
 ·have F:=gm s;rw[if_pos s,s];simp only[pI,pH,Xm];have w:∀k:Int,T (X6 k) λr=>(r.1:Int)=1:=λk=>T.pure rfl;have g:∀{a b:Ba}{x y:Int},a=x->b=y->x+y<=1000->a+b<=Z6:=λG H I=>Ak
  have m:∀(k:Int)(l:List Int),l.length<=4->(∀x∈l,fq x=K3)->T (Ld (X6 k) λt=>Ld (aY l) λq=>Zd (t.1+q.1<=Z6)<|some (t.1++q.1,())) λr=>r.1=1+zX l:=λk l J B=>by
   have C:=IG l;exact(w k).bind λt i=>(esI l Aa B).bind λq c=>T.guard (g i c Aa) (T.pure (GK rfl i c))
  have u:∀(k n:Int),T (Ld (X6 k) λt=>Ld (Yz n) λq=>Zd (t.1+q.1<=Z6)<|some (t.1++q.1,())) λr=>r.1=1+Dk n:=λk n=>by
   have C:=yw n;exact(w k).bind λt i=>(IJ n).bind λq c=>T.guard (g i c Aa) (T.pure (GK rfl i c))
  have d:∀b:Bool,TT (rQ b):=λb=>by cases b<;>exact T.tt
  rcases F.kind with e|e|e|e|e|e|e|e|e
  ·rw[e];exact(m _ _ Ac (PT F.st F.code F.fin)).mono λy p=>by grind[zX]
  ·rw[e];exact(m _ _ Ac (VM F.st F.code)).mono λy p=>Ar
  ·rw[e];simp only[Le,Int.reduceEq,pH,pG,if_false,if_true];have K:=yw f.2.1;have L:=yw f.2.2.1;have M:=yw f.2.2.2.1;have z:=F.len;have j:∀(o:Ba)(x:Int),o=x->x<=100->T (Wn f o) λr=>r.1=x+Dk f.2.2.2.1+f.2.2.2.1:=λo x D hx=>by
    unfold Wn;refine(IJ _).bind λt i=>T.guard (g D i Aa) (T.guard ?_ (T.pure ?_))
    ·grind[Z6]
    grind
   refine(d _).bind λ_ _=>(d _).bind λ_ _=>(w _).bind λt i=>(IJ _).bind λq c=>T.guard (g i c Aa) ?_;refine T.ite (λh=>?_) λh=>?_
   ·have E:f.2.2.1≠0:=by simpa using h
    rw[if_neg E];refine(IJ _).bind λN v=>T.guard (g (GK rfl i c) v Aa) ((j _ _ (GK rfl (GK rfl i c) v) Aa).mono λy p=>by rw[p];omega)
   grind
  ·simp_all[Xv]
  ·rw[e];unfold Xv Kl;simp only[Le,pH,pG,Xm];exact(m _ _ Ac (VM F.st F.lim)).mono λy p=>Ar
  ·rw[e];unfold Xv Kl;simp only[Le,pH];exact(d _).bind λ_ _=>(u _ _).mono λy p=>by rw[p];simp
  ·simp_all[Xv]
  ·rw[e];unfold Xv Kl;simp only[Le,pH,pG,Xm];exact(m _ _ Ac (VM F.st F.lim)).mono λy p=>Ar
  ·rw[e];unfold Xv Kl;simp only[Le,pH];exact(d _).bind λ_ _=>(u _ _).mono λy p=>by rw[p];simp
 ·rw[if_neg s];have s:Ym f=false:=by simpa using s
  rw[s];exact T.pure rfl
theorem Sl(h:RH f):ee f=K2 (gS f,()):=by obtain⟨⟨y,u⟩,e,a⟩:=PW h;simp_all[ee]
theorem qS(h:RH f):rF f=K2 (gS f,()):=by obtain⟨⟨y,u⟩,e,a⟩:=Q13 h;simp_all[rF]
theorem Us(h:Ym f=K3):1<=gS f:=by have F:=gm h;unfold gS;rw[if_pos h];have a:=yw f.2.1;have b:=yw f.2.2.1;have c:=yw f.2.2.2.2.2.1;have d:=yw f.2.2.2.2.2.2.1;have e:=yw f.2.2.2.2.2.2.2.1;have g:=yw f.2.2.2.1;omega
def OP(r:Xc)(o:Int):Nat->List Int|0=>[]|n+1=>OP r o n++[L4.wrap (r.2.2.2.1.getD (Lx (o+n) r.1).toNat 0)]
theorem GV(r:Xc)(o:Int):∀n,(OP r o n)=n
 |0=>rfl
 |n+1=>by simp[OP,GV r o n]
theorem Qk2(a b:List Int):Qb (a++b)=Qb a++Qb b:=by simp[Qb]
structure Dx(r:Xc):Prop where
 size:0<r.1/\r.1<=64
 len:(r.2.2.2.1:Int)=r.1
 b0:0<=r.2.1
 be:r.2.1<=r.2.2.1
 sz:r.2.2.1-r.2.1<=r.1
 eM:r.2.2.1<=4611686018427387903
 cell:∀j,j<r.2.2.2.1.length->0<=r.2.2.2.1.getD j 0/\r.2.2.2.1.getD j 0<=255
theorem LL{r:Xc}(hl:r.2.2.2.1.length<=1048576)(h:VN r=K3):Dx r:=by obtain⟨a,b,c,d,e,f,g⟩:=(Gm r hl).2 h;exact⟨a,b,c,d,e,f,g⟩
theorem Qvh{r:Xc}(h:Dx r)(o n:Nat)(ho:(o:Int)+n<=4611686018427387903)(hn:n<=64):∀(N i:Nat),n-i<N->i<=n->ii N (o:Int) (n:Int) r (Qb (OP r o i)) (i:Int)=K2 (Qb (OP r o n),K3,())
 |0,_,h,_=>Aa
 |N+1,i,c,d=>by
  unfold ii;by_cases b:i<n
  ·have e:=R5 (x:=(o:Int)+(i:Int)) (n:=r.1) Aa h.size.1;have f:=h.len;have a:=h.cell (Lx ((o:Int)+(i:Int)) r.1).toNat Aa
   rw[Zl (Zk),Zb,Zs];simp only;rw[Zb,Quo a.1 a.2,pA,Zb (by grind[Z6,DN,GV]),Zr b,<-Qk2];exact Qvh h o n ho hn N (i+1) Aa Aa
  grind
theorem Qvf{r:Xc}(h:Dx r)(o n:Nat)(ho:(o:Int)+n<=4611686018427387903)(hn:n<=64):∀(N i:Nat),n-i<N->i<=n->rK N (o:Int) r (OP r o i) (n:Int) (i:Int)=K2 (Qb (OP r o n),K3,())
 |0,_,h,_=>Aa
 |N+1,i,b,c=>by
  unfold rK gG;by_cases a:i<n
  ·have d:=R5 (x:=(o:Int)+(i:Int)) (n:=r.1) Aa h.size.1;have e:=h.len;rw[Zl (Zk),Zb,Zs];simp only;rw[Zb,Zb (by grind[Qd,GV]),Zr a];exact Qvf h o n ho hn N (i+1) Aa Aa
  grind
theorem Qd2{r:Xc}(hl:r.2.2.2.1.length<=1048576):tu r=K2 (VN r,()):=by simp_all[O3,Gm]
theorem Q0m{r:Xc}(hl:r.2.2.2.1.length<=1048576)(h:VN r=K3)(h1:r.2.1<=o)(h2:0<=n)(h3:o+n<=r.2.2.1):lN r o n=K2 (Qb (OP r o n.toNat),K3,()):=by
 have F:=LL hl h;have:=F.b0;have:=F.sz;have:=F.eM;have:=F.size
 unfold lN;rw[(Gm r hl).1,h,pA,Zm (p:=o<r.2.1),Zm (p:=n<0),Zm (p:=o>r.2.2.1),Zs,Zm (p:=n>r.2.2.1-o)];obtain⟨a,rfl⟩:=Lu (show 0<=o by omega);obtain⟨b,rfl⟩:=Lu h2;exact Qvh F a b Aa Aa _ 0 (by simp[fU]) Aa
theorem Q0l{r:Xc}(hl:r.2.2.2.1.length<=1048576)(h:VN r=K3)(h1:r.2.1<=o)(h2:0<=n)(h3:o+n<=r.2.2.1):we r o n=K2 (Qb (OP r o n.toNat),K3,()):=by
 have F:=LL hl h;have:=F.b0;have:=F.sz;have:=F.eM;have:=F.size
 unfold we;rw[Qd2 hl,h,pA,Zm (p:=n<0),bL,Zs,Zm (p:=n>r.2.2.1-o),Zk (p:=o>=r.2.1),Zk (p:=o<=r.2.2.1)];obtain⟨a,rfl⟩:=Lu (show 0<=o by omega);obtain⟨b,rfl⟩:=Lu h2;exact Qvf F a b Aa Aa _ 0 (by simp[xa]) Aa
abbrev xP(s:Zn):Zi:=s.2.2.1.getD 0 Z4
def UE(s:Zn)(limit:Int):Prop:=(j4 s=K3/\s.1<=2)/\((s.2.2.1=[]/\s.2.2.2.2.2.2.1=1)\/(s.2.2.1≠[]/\(xP s).1<min (xP s).2.1 limit))
def U9(s:Zn)(most limit:Int):Int:=min most (min (xP s).2.1 limit- (xP s).1)
def T8(r:Xc)(o:Int)(n:Nat):Ba:=ite (r.2.1<=o) (Qb (OP r o n)) []
theorem Qj4(r:Xc)(o:Int)(n:Nat):(T8 r o n)<=n:=by grind[T8,DN,GV]
theorem Qx1{r:Xc}(hl:r.2.2.2.1.length<=1048576)(h:VN r=K3)(h2:0<=n)(h3:o+n<=r.2.2.1):∃b,lN r o n=K2 (T8 r o n.toNat,b,()):=by
 unfold T8;by_cases a:r.2.1<=o
 ·simp_all[Q0m]
 simp_all[if_neg,lN,Gm]
theorem Qx0{r:Xc}(hl:r.2.2.2.1.length<=1048576)(h:VN r=K3)(h2:0<=n)(h3:o+n<=r.2.2.1):∃b,we r o n=K2 (T8 r o n.toNat,b,()):=by
 unfold T8;by_cases a:r.2.1<=o
 ·simp_all[Q0l]
 simp_all[if_neg,we,Qd2,Zm,bL]
def AQ(s:Zn)(most limit:Int):Qq:=ite (s.2.2.1=[]) (s.2.2.2.2.2.1,[],K3,()) ((xP s).1,T8 s.2.1 (xP s).1 (U9 s most limit).toNat,(s.2.2.2.2.2.2.1==(1:Int))&&((xP s).1+U9 s most limit==s.2.2.2.2.2.1),())
theorem Hn{K:Int}(h:Wt K s)(hp:s.2.2.1≠[]):0<=(xP s).1/\(xP s).1<(xP s).2.1/\(xP s).2.1<=s.2.1.2.2.1:=by have b:0<s.2.2.1.length:=Mi.2 hp;have a:xP s∈s.2.2.1:=Z5 (d:=Z4) b;have:=Xo.1 (xI h.pend.1 _ a).2;have:=h.pend.2 _ a;omega
open Classical in
def Pk(s:Zn)(most limit:Int):Qq×Bool×Unit:=ite (UE s limit) (AQ s most limit,K3,()) (eJ,Lc,())
theorem Q0g{K:Int}(h:Wt K s)(hK:K<=1000000)(hm:1<=most)(hl:0<=limit):sq s most limit=K2 (Pk s most limit):=by
 have l:=h.cells;unfold sq Pk;rw[lg h hK,pA];by_cases a:j4 s=K3/\s.1<=2
 ·have F:=(R7 h hK).1 a.1;rw[a.1,Zm (p:=s.1>2)];simp only[pI,Lg,pH];by_cases c:s.2.2.1=[]
  ·rw[c];simp only[Lo,Ma,gt_iff_lt,Int.lt_irrefl,decide_false,pH];by_cases g:s.2.2.2.2.2.2.1=1
   ·rw[if_pos ⟨a,.inl ⟨c,g⟩⟩];simp_all[AQ]
   ·rw[if_neg (λhn=>by rcases hn.2 with hn|hn;all_goals simp_all),beq_false_of_ne g];rfl
  ·have i:0<s.2.2.1.length:=Mi.2 c;obtain⟨m,q,t⟩:=Hn h c;have u:=(LL Aa F.ring).eM;have v:(xP s).1=(s.2.2.1.getD 0 Z4).1:=rfl;have w:(xP s).2.1=(s.2.2.1.getD 0 Z4).2.1:=rfl;rw[Zl (Zk),Zb,show(0:Int).toNat=0 from rfl];by_cases d:min (xP s).2.1 limit<=(xP s).1
   ·rw[Zl (Zk d),if_neg (λhn=>by rcases hn.2 with hn|hn;all_goals grind)]
   ·rw[Zo (Zm d),if_pos ⟨a,.inr ⟨c,Aa⟩⟩];have j:∀f:Int,f=(xP s).1+U9 s most limit->ep s eJ (s.2.2.2.2.2.1,([]:Ba),s.2.2.2.2.2.2.1==(1:Int),()) (xP s) f=K2 (AQ s most limit,K3,()):=λf e=>by
     have hn:1<=U9 s most limit/\(xP s).1+U9 s most limit<=(xP s).2.1:=by unfold U9;omega
     unfold ep;rw[Zo (Zm),Zs,show f- (xP s).1=U9 s most limit by omega];obtain⟨b,x⟩:=Qx1 (r:=s.2.1) Aa F.ring (o:=(xP s).1) (n:=U9 s most limit) Aa Aa;simp_all[AQ]
    by_cases k:most<min (xP s).2.1 limit- (xP s).1
    ·rw[Zs,Zl (Zk k),Zs]
     grind[U9]
    ·rw[Zs,Zo (Zm k)]
     grind[U9]
 ·rw[if_neg (λhn=>a hn.1)]
  grind
theorem Q0f{K:Int}(h:Wt K s)(hK:K<=1000000)(hm:1<=most)(hl:0<=limit)(hM:most<=1000):KG s most limit=K2 (Pk s most limit):=by
 have t:=h.cells;unfold KG bT Pk;rw[zi h hK,lg h hK,pA];simp only[bL,bA,sZ,pA];by_cases f:j4 s=K3/\s.1<=2
 ·have F:=(R7 h hK).1 f.1;rw[f.1,Zk (p:=s.1<=2),Zk (p:=s.1>=0) F.st.1];simp only[Lf,pI,pH];by_cases d:s.2.2.1=[]
  ·rw[d];simp only[Lo,Ma,BEq.rfl,pG];by_cases i:s.2.2.2.2.2.2.1=1
   ·have c:=(F.no Aa).fin;unfold SF at c;have m:0<=s.2.2.2.2.2.1/\s.2.2.2.2.2.1<=K:=by
     simp only[i,Bool.not_or,Mo,pC,Mn,M4,bne_eq_false_iff_eq,beq_iff_eq]at c;obtain⟨a,b⟩:=c;have u:=h.eK;have m:=h.e0
     simp_all
    rw[if_pos ⟨f,.inl ⟨d,i⟩⟩];unfold AQ;rw[if_pos d,i];simp only[rQ,BEq.rfl,pG,pA]
    grind[Zs]
   ·rw[if_neg (λhn=>by rcases hn.2 with hn|hn;all_goals simp_all),beq_false_of_ne i];simp only[rQ,pH,pA,Int.mul_zero];rfl
  ·have k:0<s.2.2.1.length:=Mi.2 d;obtain⟨v,w,x⟩:=Hn h d;have y:=(LL Aa F.ring).eM;have z:(xP s).1=(s.2.2.1.getD 0 Z4).1:=rfl;have A:(xP s).2.1=(s.2.2.1.getD 0 Z4).2.1:=rfl;have q:(((s.2.2.1:Nat):Int)==0)=false:=by simp;exact d
   rw[Zo q,Zb,show(0:Int).toNat=0 from rfl,Zs (n:=(s.2.2.1.getD 0 Z4).2.1- (s.2.2.1.getD 0 Z4).1)];by_cases g:limit<=(xP s).1
   ·rw[Zl (Zk g),if_neg (λhn=>by rcases hn.2 with hn|hn;all_goals grind)]
   ·rw[Zo (Zm g),if_pos ⟨f,.inr ⟨d,Aa⟩⟩];have j:∀n:Int,n=U9 s most limit->oA s eJ (xP s) n=K2 (AQ s most limit,K3,()):=λn e=>by
     have hn:1<=U9 s most limit/\(xP s).1+U9 s most limit<=(xP s).2.1:=by unfold U9;omega
     subst e;unfold oA;rw[Zo (Zm),Zs];obtain⟨b,B⟩:=Qx0 (r:=s.2.1) Aa F.ring (o:=(xP s).1) (n:=U9 s most limit) Aa Aa;simp_all[AQ]
    by_cases l:limit<(xP s).1+min ((xP s).2.1- (xP s).1) most
    ·rw[Zs,Zl (Zk l),Zs]
     grind[U9]
    ·rw[Zs,Zo (Zm l)]
     grind[U9]
 ·rw[if_neg (λhn=>f hn.1)]
  grind
theorem oh(hm:most<=60):(AQ s most limit).2.1.length<=60:=by
 unfold AQ;split
 ·simp
 ·have:=Qj4 s.2.1 (xP s).1 (U9 s most limit).toNat
  grind[U9]
abbrev FG(id:Int)(p:Qq):Zh:=((8:Int),id,p.1,p.2.1,p.2.2.1,(0:Int),(0:Int),(0:Int),Lc,())
theorem Qx3{K:Int}(h:Wt K s)(hK:K<=1000000)(hi:0<=id/\id<=4611686018427387903)(hm:1<=most/\most<=60)(hn:UE s limit):Ym (FG id (AQ s most limit))=true:=by
 have F:=(R7 h hK).1 hn.1.1;have g:=h.cells;have i:=(LL Aa F.ring).eM;have j:fq id=true:=by simp_all[fq]
 have e:=oh (s:=s) (limit:=limit) hm.2;have k:0<=(AQ s most limit).1/\(AQ s most limit).1+(AQ s most limit).2.1.length<=4611686018427387903:=by
  unfold AQ;by_cases d:s.2.2.1=[]
  ·rw[if_pos d];rcases hn.2 with⟨-,f⟩|⟨hx,-⟩
   ·have c:=(F.no (by have:=hn.1.2;omega)).fin;unfold SF at c;simp only[f,Bool.not_or,Mo,pC,Mn,M4,bne_eq_false_iff_eq,beq_iff_eq]at c;obtain⟨a,b⟩:=c;have l:=h.eK;have m:=h.e0
    simp_all
   simp_all
  ·rw[if_neg d];obtain⟨n,o,p⟩:=Hn h d;have a:=Qj4 s.2.1 (xP s).1 (U9 s most limit).toNat
   simp_all[U9]<;>omega
 grind[Ym,Ky,fq]
def Cd(s:Zn)(id room limit:Int):Nat->Qq×Bool×Unit|0=>(eJ,Lc,())|m+1=>ite (gS (FG id (AQ s ((m+1:Nat):Int) limit))<=room) (AQ s ((m+1:Nat):Int) limit,K3,()) (Cd s id room limit m)
open Classical in
def IL(s:Zn)(id room limit:Int)(m:Nat):Qq×Bool×Unit:=ite (UE s limit) (Cd s id room limit m) (eJ,Lc,())
theorem Qj3{K:Nat}{s:Zj}(h:Xz K s)(hK:K<=1000000){id room limit:Int}(hi:0<=id/\id<=4611686018427387903)(hl:0<=limit)(t:Qq):∀(N m:Nat),m<N->m<=60->dA N id room t s limit (m:Int)=K2 (IL s.2.1 id room limit m)
 |0,_,h,_=>Aa
 |N+1,0,_,_=>by
  unfold dA IL;rw[Zo (Zm)];split<;>rfl
 |N+1,m+1,e,f=>by
  unfold dA;rw[Zl (Zk),Q0g h.snd Aa Aa hl,pA];have c:=Qj3 h hK hi hl t N m Aa Aa (room:=room);unfold Pk IL;by_cases a:UE s.2.1 limit
  ·rw[if_pos a,if_pos a];have d:RH (FG id (AQ s.2.1 ((m+1:Nat):Int) limit)):=by grind[RH,oh]
   simp only[pI,pH,vr,pA];rw[Sl d,pA,Cd];by_cases b:gS (FG id (AQ s.2.1 ((m+1:Nat):Int) limit))<=room
   ·simp_all
   ·rw[Zo (Zm b),if_neg b,show Lb.wrap (((m+1:Nat):Int)-1)=(m:Int) by grind[Zs],c];simp_all[IL]
  simp_all
theorem Qj2{K:Nat}{s:Zj}(h:Xz K s)(hK:K<=1000000){id room limit:Int}(hi:0<=id/\id<=4611686018427387903)(hl:0<=limit)(t:Qq):∀(N m:Nat),m<N->m<=60->lW N id room t s limit (m:Int)=K2 (IL s.2.1 id room limit m)
 |0,_,h,_=>Aa
 |N+1,0,_,_=>by
  unfold lW IL;rw[Zo (Zm)];split<;>rfl
 |N+1,m+1,c,d=>by
  unfold lW;rw[Zl (Zk),Q0f h.snd Aa Aa hl Aa,pA];have e:=Qj2 h hK hi hl t N m Aa Aa (room:=room);have f:Lb.wrap (((m+1:Nat):Int)-1)=(m:Int):=Al
  unfold Pk IL;by_cases a:UE s.2.1 limit
  ·rw[if_pos a,if_pos a];have b:RH (FG id (AQ s.2.1 ((m+1:Nat):Int) limit)):=by grind[RH,oh]
   have g:=Us (Qx3 h.snd Aa hi (most:=((m+1:Nat):Int)) Aa a);simp only[pG,nD,pA];rw[qS b,pA,bL,pA,Cd,Zk (p:=gS _>=1)];by_cases i:gS (FG id (AQ s.2.1 ((m+1:Nat):Int) limit))<=room
   all_goals simp_all[Zm,if_neg,IL]
  simp_all[IL]
theorem Qc9(c:Y3):aT c=K2 (cond (CJ c) (c.1-c.2.1) 0,()):=by
 unfold aT;rw[DG,pA];cases h:CJ c
 ·rfl
 ·obtain⟨a,b,d,-,-,-,-⟩:=O5.1 h;simp only[pI,pH,pG]
  grind[Zs]
def NT(c:Zf)(s:Zj):Int:=min s.2.2.1.1 (s.2.1.2.2.2.2.2.2.2.1+(c.2.2.2.2.1.1-c.2.2.2.2.1.2.1))
open Classical in
def H0(c:Zf)(id room:Int):Qq×Bool×Unit:=ite ((ci c=K3/\0<=Qk c.2.2.2.1 id)/\(c.2.2.2.1.getD (Qk c.2.2.2.1 id).toNat Zc).2.2.2.2.2.2.1=K3/\3<=room) (IL (c.2.2.2.1.getD (Qk c.2.2.2.1 id).toNat Zc).2.1 id room (NT c (c.2.2.2.1.getD (Qk c.2.2.2.1 id).toNat Zc)) (min room 60).toNat) (eJ,Lc,())
theorem Qjq(h:Qa K c)(hK:K<=1000000)(hc:ci c=K3){s:Zj}(hs:s∈c.2.2.2.1):0<=NT c s/\Lb.wrap (s.2.1.2.2.2.2.2.2.2.1+(c.2.2.2.2.1.1-c.2.2.2.2.1.2.1))=s.2.1.2.2.2.2.2.2.2.1+(c.2.2.2.2.1.1-c.2.2.2.2.1.2.1):=by
 have C:=(BK h hK).1 hc;have S:=C.st h hK hs;obtain⟨d,e,f,-,-,-,-⟩:=O5.1 C.tot;obtain⟨g,i,j,-,-,-,-⟩:=S.cre;have a:=S.snd.sent;have b:=(h.str.all _ hs).snd.eK
 grind[NT,Zs]
theorem Ql9(h:Qa K c)(hK:K<=1000000)(id room:Int):wq c id room=K2 (H0 c id room):=by
 have k:=h.str.len;obtain⟨m,-,e⟩:=uT (l:=c.2.2.2.1) Aa id;unfold wq H0;rw[eW h hK,pA,Ih h hK,pA];by_cases f:0<=Qk c.2.2.2.1 id
 ·rw[if_pos f];have b:=Z5 (d:=Zc) (show(Qk c.2.2.2.1 id).toNat<c.2.2.2.1.length by omega);have e:=e f;generalize c.2.2.2.1.getD (Qk c.2.2.2.1 id).toNat Zc=s at*
  by_cases a:(ci c=K3/\0<=Qk c.2.2.2.1 id)/\s.2.2.2.2.2.2.1=K3/\3<=room
  ·obtain⟨g,i⟩:=Qjq h hK a.1.1 b;have S:=((BK h hK).1 a.1.1).st h hK b;have j:=S.id;rw[if_pos a,a.1.1,a.2.1,Zm (p:=room<3),Qc9,pA,((BK h hK).1 a.1.1).tot];simp only[pI,Lg,pH,pG];rw[i,show min room (60:Int)=((min room 60).toNat:Int) by omega];exact Qj3 (h.str.all _ b) hK Aa g _ _ _ (by grind[nf]) Aa
  grind
 grind
theorem Ql8(h:Qa K c)(hK:K<=1000000)(id room:Int):WX c id room=K2 (H0 c id room):=by
 have k:=h.str.len;obtain⟨m,-,e⟩:=uT (l:=c.2.2.2.1) Aa id;unfold WX gG gJ H0;rw[xX Aa,VB Aa,pA,zg h hK,Ih h hK,pA];by_cases f:0<=Qk c.2.2.2.1 id
 ·rw[Zm (p:=Qk c.2.2.2.1 id<0)];have b:=Z5 (d:=Zc) (show(Qk c.2.2.2.1 id).toNat<c.2.2.2.1.length by omega);have e:=e f;simp only;rw[Zb (λ_=>Aa)];generalize c.2.2.2.1.getD (Qk c.2.2.2.1 id).toNat Zc=s at*
  by_cases a:(ci c=K3/\0<=Qk c.2.2.2.1 id)/\s.2.2.2.2.2.2.1=K3/\3<=room
  ·obtain⟨g,i⟩:=Qjq h hK a.1.1 b;have S:=((BK h hK).1 a.1.1).st h hK b;have j:=S.id;rw[if_pos a,a.1.1,a.2.1,Zm (p:=room<3),Zzq,Qc9,pA,((BK h hK).1 a.1.1).tot];simp only[pI,Lg,pH,pG];rw[Zb,i,show min (60:Int) room=((min room 60).toNat:Int) by omega];exact Qj2 (h.str.all _ b) hK Aa g _ _ _ (by grind[xb]) Aa
  grind
 simp_all[Zb]<;>omega
theorem DQ(r:Zi):∀(N:Nat)(pre rest:List Zi)(out:List Zi),(pre++rest).length<=1048576->rest<N->out<=pre.length->
  cR N [r] out (pre++rest) (pre++rest) pre=K2 (out++rest.flatMap λx=>[r].flatMap (vG x),())
 |0,_,_,_,_,h,_=>Aa
 |N+1,pre,[],out,e,b,f=>by
  simp_all[cR]
 |N+1,pre,x::rest,out,e,b,f=>by
  have a:(pre++x::rest).length=pre+rest+1:=Ae
  simp only[Li]at b;have j:(pre++[x])++rest=pre++x::rest:=Ac
  have k:((pre++[x]):Int)=((pre+1:Nat):Int):=Ac
  have c:Lb.wrap (pre+1)=((pre+1:Nat):Int):=Zr (m:=pre+1);unfold cR;rw[Zl (Zk (by rw[a];omega)),Zb (by rw[a];omega),am];rw[show nl [r] out x (pre++x::rest) (pre++x::rest) pre [r] ([r]:List Zi) 0=2 from rfl];unfold ao gG gL;rw[Zl (Zk Ac),Zb Ac];have g:([r]:List Zi).getD (0:Int).toNat Z4=r:=rfl;simp only[g];have d:Lb.wrap ((0:Int)+1)=1:=rfl;by_cases h:max x.1 r.1<min x.2.1 r.2.1
  ·rw[Zl (Zk h),Zb Aj,d];unfold ao gG gL;rw[Zo (Zm Ac)];simp only[c];have i:=DQ r N (pre++[x]) rest (out++[(max x.1 r.1,min x.2.1 r.2.1,())]) Ae Aa Ae;simp_all[vG]
  ·rw[Zo (Zm h),d];unfold ao gG gL;rw[Zo (Zm Ac)];simp only[c];have i:=DQ r N (pre++[x]) rest out Ae Aa Ae;simp_all[vG]
def Gx(l:List Zi)(r:Zi):List Zi:=ite (CQ (-1) l=K3/\CQ (-1) [r]=K3) (l.flatMap λx=>[r].flatMap (vG x)) []
theorem Pw(l:List Zi)(r:Zi)(hl:l.length<=1048576:=by omega):d7 l [r]=K2 (Gx l r,()):=AA l [r] hl Ac
theorem SX(l:List Zi)(r:Zi)(hl:l.length<=1048576:=by omega):jx l [r]=K2 (Gx l r,()):=by
 unfold jx gH Gx;rw[zh l hl,zh [r] Ac,pA];cases h1:CQ (-1) l
 ·simp
 ·cases h2:CQ (-1) [r]
  ·simp
  ·simp only[pI,pH,pA,Lg,and_self,if_true];have:=DQ r (fj [r] [] l l 0) [] l [] (by simpa using hl) (by simp[fj]) Ac;simpa using this
theorem Qc7(l:List Zi)(r:Zi):(Gx l r)<=l.length:=TM
def Bs(l:List Zi)(r:Zi):Bool:=((l:Int)==1)&&A7 (Zx) (l.getD 0 Z4) r
theorem Q1z(l:List Zi)(r:Zi):yX l [r]=K2 (Bs l r,()):=by
 unfold yX cJ Bs;by_cases h:(l:Int)=1
 ·have a:(l !=(([r]:List Zi):Int))=false:=Ae
  rw[a,h];simp only[pH,BEq.rfl,pJ];rw[show V3 l [r] 1 0=2 from rfl];unfold J1 gG gL;rw[Zl Ah,Zb,Zb Ac,show(0:Int).toNat=0 from rfl,show([r]:List Zi).getD 0 Z4=r from rfl];cases A7 (Zx) (l.getD 0 Z4) r
  ·rfl
  ·rfl
 grind
def IW(l:List Zi)(r:Zi):List Zi:=ite (CQ (-1) l=K3/\kd r=K3) (Rv r l) l
def Q1r(l:List Zi)(r:Zi):List Zi:=ite (CQ (-1) l=K3/\kd r=K3) (pz l r) l
theorem y6:∀(N:Nat)(pre rest:List Zi)(r:Zi)(out:List Zi),(pre++rest).length<=1048576->rest<N->out<=2*pre.length->
  Wp N r out (pre++rest) (pre++rest) pre=K2 (out++Rv r rest,())
 |0,_,_,_,_,_,h,_=>Aa
 |N+1,pre,[],r,out,e,c,f=>by
  simp_all[Wp,Rv]
 |N+1,pre,x::rest,r,out,e,c,f=>by
  have b:(pre++x::rest).length=pre+rest+1:=Ae
  simp only[Li]at c;have j:(pre++[x])++rest=pre++x::rest:=Ac
  have k:((pre++[x]):Int)=((pre+1:Nat):Int):=Ac
  have d:∀a:List Zi,a<=2*pre.length+1->kF (λv=>Wp N v.1 v.2.1 v.2.2.1 v.2.2.2.1 v.2.2.2.2.1) r a x (pre++x::rest) (pre++x::rest) pre=K2 (a++(ite (max x.1 r.2.1<x.2.1) [(max x.1 r.2.1,x.2.1,())] [])++Rv r rest,()):=by
   intro a g;unfold kF;rw[Zr (m:=pre+1)];by_cases h:max x.1 r.2.1<x.2.1
   ·rw[Zl (Zk h),if_pos h,Zb Aj];have i:=y6 N (pre++[x]) rest r (a++[(max x.1 r.2.1,x.2.1,())]) Ae Aa Ae;simp_all
   ·rw[Zo (Zm h),if_neg h];have i:=y6 N (pre++[x]) rest r a Ae Aa Ae;simp_all
  unfold Wp;rw[Zl (Zk (by rw[b];omega)),Zb (by rw[b];omega),am];by_cases h:x.1<min x.2.1 r.1
  ·rw[Zl (Zk h),Zb Aj,d _ Ae];simp[Rv,Gy,h]
  ·rw[Zo (Zm h),d _ Aa];simp[Rv,Gy,h]
theorem EQ(l:List Zi)(r:Zi)(hl:l.length<=1048576:=by omega):lX l r=K2 (IW l r,()):=by
 unfold lX gH IW;rw[zh l hl,pA];cases h1:CQ (-1) l
 ·simp[XV l hl]
 ·simp only[pI,pH,vQ,pA,Lk];cases h2:kd r
  ·simp[XV l hl]
  ·have:=y6 (iA r [] l l 0) [] l r [] (by simpa using hl) (by simp[iA]) Ac;simp_all
def Ub(s:Zn)(p:Qq):Bool:=(((La (p.1>=(0:Int)))&&(La (p.1<=s.2.1.2.2.1)))&&(La (p.2.1<=(Lb.wrap (s.2.1.2.2.1-p.1)))))&&((!p.2.2.1)||((s.2.2.2.2.2.1 !=(-1:Int))&&((Lb.wrap (p.1+p.2.1))==s.2.2.2.2.2.1)))
theorem P4(s:Zn)(p:Qq):zx s p=K2 (Ub s p,()):=rfl
theorem Fs{K:Int}(h:Wt K s)(hK:K<=1000000)(p:Qq):wg s p=K2 (Ub s p,()):=by
 have f:=h.e0;have g:=h.eK
 unfold wg Ub;by_cases a:0<=p.1
 ·by_cases b:p.1<=s.2.1.2.2.1
  ·by_cases c:p.2.1<=s.2.1.2.2.1-p.1
   ·have e:Lb.wrap (p.1+p.2.1)=p.1+p.2.1:=Zs;rw[Zs (n:=s.2.1.2.2.1-p.1),e,Zm (p:=p.1<0),Zm (p:=p.1>s.2.1.2.2.1),Zm (p:=p.2.1>s.2.1.2.2.1-p.1),Zk (p:=p.1>=0) a,Zk b,Zk c];simp only[Lg,pH,Lf,pJ];by_cases d:p.1+p.2.1=s.2.2.2.2.2.1
    ·have:(s.2.2.2.2.2.1 != -1)=true:=Ae
     simp_all
    grind
   grind[Zs]
  grind
 grind
abbrev TY(p:Qq):Zi:=(p.1,Lb.wrap (p.1+p.2.1),())
def O4(s:Zn)(p:Qq):Bool:=(((j4 s&&La (s.1<=2))&&Ub s p)&& !((p.2.1==([]:Ba))&&(!p.2.2.1)))&& !(p.2.2.1&&(s.2.2.2.2.2.2.1 !=(1:Int)))
def Pt(s:Zn)(p:Qq):Bool:=O4 s p&&((p.2.1==([]:Ba))||Bs (Gx s.2.2.1 (TY p)) (TY p))
def Dr(s:Zn)(p:Qq):Zn:=cond (p.2.1==([]:Ba)) s (s.1,s.2.1,IW s.2.2.1 (TY p),Q1r s.2.2.2.1 (TY p),s.2.2.2.2.1,s.2.2.2.2.2.1,s.2.2.2.2.2.2.1,max s.2.2.2.2.2.2.2.1 (TY p).2.1,s.2.2.2.2.2.2.2.2)
def r8(s:Zn)(p:Qq):Zn:=cond p.2.2.1 ((Dr s p).1,(Dr s p).2.1,(Dr s p).2.2.1,(Dr s p).2.2.2.1,(Dr s p).2.2.2.2.1,(Dr s p).2.2.2.2.2.1,(2:Int),(Dr s p).2.2.2.2.2.2.2) (Dr s p)
def I1(s:Zn)(p:Qq):Zn:=(NJ (r8 s p),(r8 s p).2)
theorem Qtk(s:Zn)(p:Qq):(Dr s p).2.2.2.2.2.2.1=s.2.2.2.2.2.2.1:=by grind[Dr]
theorem Qvu{K:Int}(h:Wt K s)(hK:K<=1000000)(p:Qq):sw s p=K2 (cond (Pt s p) (I1 s p) s,Pt s p,()):=by
 have c:=Q0 h.pend h.e0 h.eK hK;have d:=Q0 h.pT h.e0 h.eK hK;unfold sw gH;rw[xd h hK,pA,lg h hK,pA];simp only[P4,bO];have e:(((((!j4 s)||La (s.1>2))|| !(!((!j4 s)||La (s.1>2))&&Ub s p))||((p.2.1==([]:Ba))&&(!p.2.2.1)))||(p.2.2.1&&(s.2.2.2.2.2.2.1 !=(1:Int))))= !O4 s p:=by
  grind(splits:=20)[O4]
 rw[e];have fin:∀y:Zn,y=Dr s p->ey p J2 y=K2 (I1 s p,K3,()):=λy f=>by
  grind(splits:=20)[ey,ki,I1,r8,zC]
 unfold Pt;cases hg:O4 s p
 ·rfl
 ·simp only[pI,pH,pJ];cases hd:p.2.1==([]:Ba)
  ·simp only[L0,pG,lC,pA,Lk];rw[Pw _ _,pA];have a:(((Gx s.2.2.1 (TY p)).length:Int) !=(1:Int))=Lc->(0<=(0:Int)/\(0:Int)<(Gx s.2.2.1 (TY p)).length):=λh=>by simp at h;omega
   rw[Zb a,show(0:Int).toNat=0 from rfl];have b:((((Gx s.2.2.1 (TY p)).length:Int) !=(1:Int))||(!(A7 (Zx) ((Gx s.2.2.1 (TY p)).getD 0 Z4) (TY p))))= !Bs (Gx s.2.2.1 (TY p)) (TY p):=by
    simp_all[Bs,bne]
   rw[b];cases Bs (Gx s.2.2.1 (TY p)) (TY p)
   ·rfl
   ·simp only[pI,pH,pG];rw[YG _ _,pA,og _ _,pA];exact fin _ (by unfold Dr;rw[hd];rfl)
  simp_all[Dr]
theorem Q05{K:Int}(h:Wt K s)(hK:K<=1000000)(p:Qq):KJ s p=K2 (cond (Pt s p) (I1 s p) s,Pt s p,()):=by
 have c:=Q0 h.pend h.e0 h.eK hK;have d:=Q0 h.pT h.e0 h.eK hK;unfold KJ gH bT;rw[tl h hK,pA,zi h hK,lg h hK,pA];simp only[bL,bA,sZ,pA,Fs h hK,bO];have a:(j4 s&&(La (s.1>=0)&&La (s.1<=2)))=(j4 s&&La (s.1<=2)):=by
  cases hb:j4 s
  ·rfl
  ·have:=((R7 h hK).1 hb).st.1;simp_all
 rw[a];have e:((((!(j4 s&&La (s.1<=2)))|| !(!(!(j4 s&&La (s.1<=2)))&&Ub s p))||(p.2.2.1&&(s.2.2.2.2.2.2.1 !=(1:Int))))||((p.2.1==([]:Ba))&&(!p.2.2.1)))= !O4 s p:=by
  grind[O4]
 rw[e];unfold Pt;cases hg:O4 s p
 ·rfl
 ·have b:0<=s.2.2.2.2.2.2.1/\s.2.2.2.2.2.2.1<=3:=by
   unfold O4 at hg;simp only[pC]at hg;exact((R7 h hK).1 hg.1.1.1.1).fin
  have fin:∀y:Zn,y=Dr s p->oD p J2 y=K2 (I1 s p,K3,()):=λy f=>by
   grind(splits:=20)[oD,xA,I1,r8,Qtk,OO]
  simp only[pI,pH,pJ];cases hd:p.2.1==([]:Ba)
  ·simp only[L0,pG,Xm,X5,Lk];rw[SX _ _,pA,Q1z,pA];unfold KK;cases Bs (Gx s.2.2.1 (TY p)) (TY p)
   ·rfl
   ·simp only[pI,pH,pG];rw[EQ _ _,pA,eX _ _,pA];exact fin _ (by unfold Dr;rw[hd];rfl)
  simp_all[Dr]
theorem Qkj{K:Int}(h:Wt K s)(hK:K<=1000000)(p:Qq)(ho:Pt s p=K3):Wt K (I1 s p):=by
 obtain⟨x,a,e,hx⟩:=Z9g h p hK
 grind[Qvu]
theorem Qzj{c:Bool}{x:α}:(cond c (K2 x) (K2 y))=K2 (cond c x y):=by cases c<;>rfl
theorem Qzi{c:Bool}{x y:α×β}:(cond c x y).1=cond c x.1 y.1:=by cases c<;>rfl
theorem z6(d:α)(pre:List α)(x:α)(rest:List α):(pre++x::rest).getD ((pre.length:Int).toNat) d=x:=by simp_all
theorem x6(pre:List α)(x:α)(rest:List α):pre++x::rest=(pre++[x])++rest:=Ac
theorem WK(pre:List α)(x:α)(rest:List α)(h:(pre++x::rest).length<=100000):Lb.wrap ((pre.length:Int)+1)=(((pre++[x]).length:Nat):Int):=by grind[Zs]
theorem HU(pre:List α)(x:α)(rest:List α):0<=(pre.length:Int)/\(pre.length:Int)<((pre++x::rest).length:Int):=Ae
theorem wW(pre:List α)(x:α)(rest:List α):La ((pre.length:Int)<((pre++x::rest).length:Int))=true:=Zk (HU pre x rest).2
theorem UP(pre:List α):La ((pre.length:Int)<((pre++([]:List α)).length:Int))=false:=Zm Ac
def vC(x:Zp):Bool:=(La (0<=x.1)&&La (x.1<=4611686018427387903))&&(La (0<=x.2.1.1)&&La (x.2.1.1<=7))
def Ha:Option Int->List Zp->Bool
 |_,[]=>K3
 |p,x::r=>vC x&&(match p with|none=>K3|some q=>La (q<x.1))&&Ha (K2 x.1) r
abbrev ac(l:List Zp):Bool:=Ha none l
theorem MI(p:Option Int)(x:Zp)(r:List Zp):Ha p (x::r)=(vC x&&(match p with|none=>K3|some q=>La (q<x.1))&&Ha (K2 x.1) r):=by cases p<;>rfl
def Iv(pre:List Zp):Option Int:=pre.getLast?.map (·.1)
theorem Z84(pre:List Zp)(x:Zp):Iv (pre++[x])=K2 x.1:=by simp[Iv]
theorem Qew(pre:List Zp)(x:Zp)(rest:List Zp)(h:0<pre.length)(hl:pre.length<=100000):0<=Lb.wrap ((pre.length:Int)-1)/\Lb.wrap ((pre.length:Int)-1)<((pre++x::rest).length:Int)/\
  Iv pre=K2 ((pre++x::rest).getD (Lb.wrap ((pre.length:Int)-1)).toNat Qu).1:=by
 rw[Zs];refine⟨Aa,Ae,?_⟩;have e:((pre.length:Int)-1).toNat=pre.length-1:=Aa
 rw[e,Mv,List.getElem?_append_left Aa]
 grind[Iv]
theorem Qkk:∀(N:Nat)(pre rest:List Zp),(pre++rest).length<=100000->rest.length<N->J5 N (pre++rest) (pre.length:Int)=K2 (Ha (Iv pre) rest,())
 |0,_,_,_,h=>Aa
 |N+1,pre,[],b,g=>by
  unfold J5 gG gH gN;rw[Zo (UP pre)];rfl
 |N+1,pre,x::rest,b,g=>by
  have j:pre.length<=100000:=by simp at b;omega
  unfold J5 gG gH gN Q5 cv Z9;rw[Zl (wW pre x rest),Zb (HU pre x rest)];simp only[z6,pA];rw[Zb (λ_=>HU pre x rest)];have i:=Qkk N (pre++[x]) rest (by simpa using b) (by simp at g;omega);rw[<-x6,Z84]at i;simp only[Qzj,Qzi,pA];by_cases k:0<pre.length
  ·obtain⟨l,m,n⟩:=Qew pre x rest k j;by_cases hv:vC x=K3
   ·have a:=hv;simp only[vC,pC,decide_eq_true_eq]at a;simp only[ge_iff_le,a.1.1,a.1.2,a.2.1,a.2.2,decide_true,Lf,pI,pH,Lg,Lk];rw[Zb (λ_ _=>HU pre x rest),Zb (λ_ _=>⟨l,m⟩)];rw[Zk (show(pre.length:Int)>0 by omega),pJ];have o:La (x.1<=((pre++x::rest).getD (Lb.wrap ((pre.length:Int)-1)).toNat Qu).1)= !(La (((pre++x::rest).getD (Lb.wrap ((pre.length:Int)-1)).toNat Qu).1<x.1)):=by
     grind
    rw[o,MI,n,hv,WK pre x rest b,i];generalize ((pre++x::rest).getD (Lb.wrap ((pre.length:Int)-1)).toNat Qu).1=y;by_cases p:y<x.1<;>simp[p]
   ·have c:vC x=false:=by simpa using hv
    have d:((!((La (x.1>=0))&&(La (x.1<=4611686018427387903))))||(!(cond (!((La (x.1>=0))&&(La (x.1<=4611686018427387903)))) Lc ((La (x.2.1.1>=0))&&(La (x.2.1.1<=7))))))=true:=by
     grind[vC]
    rw[Zb (λh=>Ai),Zb (λh=>Aa),d,M5,Zl rfl,MI,c];simp
  ·have e:pre=[]:=Mf Aa;subst e;rw[Zb (λ_ h=>by simp at h),Zb (λ_ h=>by simp at h)];have f:La (((([]:List Zp).length:Nat):Int)>0)=false:=Zm Ac;rw[f,Lh,Ll]
   grind[vC,WK,MI,Iv]
theorem Qjh:∀(N:Nat)(pre rest:List Zp),(pre++rest).length<=100000->rest.length<N->bM N (pre++rest) (pre++rest) ((pre++rest).length:Int) (pre.length:Int)=K2 (Ha (Iv pre) rest,())
 |0,_,_,_,h=>Aa
 |N+1,pre,[],a,f=>by
  unfold bM gG gH gN;rw[Zo (UP pre)];rfl
 |N+1,pre,x::rest,a,f=>by
  have g:pre.length<=100000:=by simp at a;omega
  unfold bM gG gH gN Xt nC Z0;rw[Zl (wW pre x rest),Zb (HU pre x rest)];simp only[z6,pA];have b:=Qjh N (pre++[x]) rest (by simpa using a) (by simp at f;omega);rw[<-x6,Z84]at b;simp only[Qzj,Qzi,pA];have c:((!((La (0<=x.1))&&(La (x.1<=4611686018427387903))))||(!(cond (!((La (0<=x.1))&&(La (x.1<=4611686018427387903)))) Lc ((La (0<=x.2.1.1))&&(La (x.2.1.1<=7))))))= !vC x:=by
   simp_all[vC]
  simp only[c];by_cases i:0<pre.length
  ·obtain⟨j,k,l⟩:=Qew pre x rest i g;rw[Zb (λ_ _=>⟨j,k⟩),Zk (show(pre.length:Int)>0 by omega),pJ];have m:La (((pre++x::rest).getD (Lb.wrap ((pre.length:Int)-1)).toNat Qu).1>=x.1)= !(La (((pre++x::rest).getD (Lb.wrap ((pre.length:Int)-1)).toNat Qu).1<x.1)):=by
    grind
   rw[m,MI,l,WK pre x rest a,b];generalize ((pre++x::rest).getD (Lb.wrap ((pre.length:Int)-1)).toNat Qu).1=y;cases vC x<;>by_cases n:y<x.1<;>simp[n]
  ·have d:pre=[]:=Mf Aa;subst d;rw[Zb (λ_ h=>by simp at h)];have e:La (((([]:List Zp).length:Nat):Int)>0)=false:=Zm Ac;rw[e,Lh,Ll,WK [] x rest a,b,MI]
   grind[Iv]
theorem Qff(l:List Zp)(h:l.length<=100000):gt l=K2 (ac l,()):=by have:=Qkk (aC l 0) [] l (by simpa using h) (by simp[aC]);simp_all[gt,Iv]
theorem Qdy(l:List Zp)(h:l.length<=100000):mr l=K2 (ac l,()):=by have:=Qjh (dR l l (l.length:Int) 0) [] l (by simpa using h) (by simp[dR]);simp_all[mr,Iv]
theorem Pp:∀(l:List Zp)(p:Option Int),Ha p l=K3->(∀x,x∈l->0<=x.1/\0<=x.2.1.1/\x.2.1.1<=7/\ ∀q,p=K2 q->q<x.1)/\l.Pairwise (λa b=>a.1<b.1)
 |[],_,_=>⟨Ac,Nj⟩
 |x::r,p,h=>by
  simp only[Ha,pC]at h;obtain⟨⟨d,i⟩,e⟩:=h;obtain⟨f,g⟩:=Pp r (K2 x.1) e;simp only[vC,pC,decide_eq_true_eq]at d;refine⟨λy c=>?_,Ni (λy c=>(f y c).2.2.2 _ rfl) g⟩
  grind
theorem Z7t(f:Zp->Bool):∀(l:List Zp)(p:Option Int),Ha p l=K3->Ha p (l.filter f)=K3
 |[],_,_=>rfl
 |x::r,p,h=>by
  simp only[Ha,pC]at h;obtain⟨⟨e,g⟩,c⟩:=h;have i:=Z7t f r (K2 x.1) c;simp only[M8];split
  ·simp_all[Ha]
  ·
   have b:∀(l:List Zp)(a:Int)(p:Option Int),(∀q,p=K2 q->q<=a)->Ha (K2 a) l=K3->Ha p l=true:=by
    intro l a p j d;cases l with
    |nil=>rfl
    |cons y l=>
     simp only[Ha,pC,decide_eq_true_eq]at d⊢
     grind
   grind
def G0(b:Int)(l:List Zp):Int:=l.foldl (λb x=>min b x.2.1.1) b
def Hg(b:Int)(x:Zp):Bool:=x.2.1.1==b
abbrev H4(l:List Zp):List Zp:=l.filter (Hg (G0 7 l))
abbrev LZ(l:List Zp):List Int:=l.map (λx=>x.1)
def jR(L:List Int)(last:Int):Int:=match L.find? (λx=>La (x>last))with|some x=>x|none=>L.headD (-1)
theorem dV(b:Int):∀(N:Nat)(out pre rest:List Zp),(pre++rest).length<=100000->out+rest.length<=100000->rest<N->
  iY N b out (pre++rest) (pre++rest) pre=K2 (out++rest.filter (Hg b),())
 |0,_,_,_,_,_,h=>Aa
 |N+1,out,pre,[],c,d,f=>by
  simp_all[iY]
 |N+1,out,pre,x::rest,c,d,f=>by
  have a:rest<N:=by simp at f;omega
  have g:out+1+rest.length<=100000:=by simp at d;omega
  unfold iY;rw[Zl (wW pre x rest),Zb (HU pre x rest)];simp only[z6];rw[WK pre x rest c,Zb Aj];have e:=x6 pre x rest;by_cases h:Hg b x=K3
  ·rw[Zl (show(x.2.1.1==b)=K3 from h),e,dV b N (out++[x]) (pre++[x]) rest (by simpa using c) Ae a];simp[h]
  ·have h:Hg b x=false:=by simpa using h
   rw[Zo (show(x.2.1.1==b)=Lc from h),e,dV b N out (pre++[x]) rest (by simpa using c) Aa a];simp[h]
theorem Qku(l0:List Zp):∀(N:Nat)(b:Int)(out pre rest:List Zp),(pre++rest).length<=100000->rest<N->
  rS N l0 b out (pre++rest) (pre++rest) pre=iY (q7 (G0 b rest) out l0 l0 (0:Int)) (G0 b rest) out l0 l0 (0:Int)
 |0,_,_,_,_,_,h=>Aa
 |N+1,b,out,pre,[],a,c=>by
  unfold rS gG gN;rw[Zo (UP pre)];rfl
 |N+1,b,out,pre,x::rest,a,c=>by
  unfold rS gG gN;rw[Zl (wW pre x rest),Zb (HU pre x rest)];simp only[z6];rw[WK pre x rest a,x6 pre x rest,Qku l0 N _ out (pre++[x]) rest (by simpa using a) (by simp at c;omega)];rfl
theorem Qmq(l:List Zp)(h:l.length<=100000):A3 l=K2 (H4 l,()):=by
 have a:=Qku l (q6 l 7 [] l l 0) 7 [] [] l (by simpa using h) (by simp[q6])
 grind[dV,q7,A3]
def vM(l:List Zp):List Int:=cond (ac l) (LZ (H4 l)) []
theorem KZ:∀(N:Nat)(out:List Int)(b:Int)(pre rest:List Zp),(pre++rest).length<=100000->ac (pre++rest)=K3->out=LZ (pre.filter (Hg b))->(∀x,x∈pre->b<=x.2.1.1)->rest<N->
  Ki N (pre++rest) out b pre=K2 (LZ ((pre++rest).filter (Hg (G0 b rest))),())
 |0,_,_,_,_,_,_,_,_,h=>Aa
 |N+1,out,b,pre,[],a,f,j,k,g=>by
  simp_all[Ki,G0]
 |N+1,out,b,pre,x::rest,a,f,j,k,g=>by
  have c:rest<N:=by simp at g;omega
  have m:pre.length<=100000:=by simp at a;omega
  have l:out.length<=100000:=Ai
  unfold Ki ic gG gN ib;simp only[wW pre x rest,pG,Qff _ a,pA,f,Lf,z6];rw[Zb (HU pre x rest)];have e:=x6 pre x rest;by_cases h:x.2.1.1<b
  ·rw[Zl (Zk h),Zb (HU pre x rest),Zb (HU pre x rest),Zl Ac,Zb (HU pre x rest),Zb (by unfold Qd;simp),Mc,WK pre x rest a,e,
    KZ N [x.1] x.2.1.1 (pre++[x]) rest (by simpa using a) Ai ?_ ?_ c]
   ·grind[G0]
   ·grind[Hg,Ms]
   grind
  ·rw[Zo (Zm h),Zb (HU pre x rest)];have i:G0 b (x::rest)=G0 b rest:=by grind[G0]
   have d:∀y,y∈pre++[x]->b<=y.2.1.1:=λy n=>by
    grind
   by_cases hx:Hg b x=K3
   ·rw[Zl (show(x.2.1.1==b)=K3 from hx),Zb (HU pre x rest),Zb Aj,WK pre x rest a,e,i,
     KZ N (out++[x.1]) b (pre++[x]) rest (by simpa using a) Ai Ai d c]
   ·have hx:Hg b x=false:=by simpa using hx
    rw[Zo (show(x.2.1.1==b)=Lc from hx),WK pre x rest a,e,i,KZ N out b (pre++[x]) rest (by simpa using a) Ai Ai d c]
theorem Q0b(l:List Zp)(h:ac l=K3):l.filter (Hg (G0 8 l))=H4 l:=by
 cases l with
 |nil=>rfl
 |cons x r=>
  have:=(Pp _ _ h).1 x Ac
  grind[G0]
theorem Qls(l:List Zp)(h:l.length<=100000):nV l=K2 (vM l,()):=by
 unfold nV vM;by_cases a:ac l=K3
 ·have:=KZ (ah l [] 8 0) [] 8 [] l (by simpa using h) a rfl Ac (by simp[ah]);simp_all[Q0b]
 simp_all[ah,Ki,Qff]
theorem Z2t(last:Int):∀(N:Nat)(pre rest:List Int),(pre++rest).length<=100000->rest<N->dD N (pre++rest) last pre=K2 ((match rest.find? (λx=>La (x>last))with|some x=>x|none=>(pre++rest).headD (-1)),())
 |0,_,_,_,h=>Aa
 |N+1,pre,[],a,b=>by
  unfold dD gG;rw[Zo (UP pre)];cases pre with
  |nil=>rfl
  |cons y pre=>
   rw[Zo (beq_eq_false_iff_ne.2 Ai),Zb ⟨L3 0,Af⟩];rfl
 |N+1,pre,x::rest,a,b=>by
  unfold dD gG;rw[Zl (wW pre x rest),Zb (HU pre x rest)];simp only[z6,Mt];rw[WK pre x rest a];by_cases h:x>last
  ·rw[Zl (Zk h),Zb (HU pre x rest),Zk h]
  ·rw[Zo (Zm h),Zm h,x6 pre x rest,Z2t last N (pre++[x]) rest (by simpa using a) (by simp at b;omega)]
theorem Qm3(l:List Int)(last:Int)(h:l.length<=100000):wr l last=K2 (jR l last,()):=by have:=Z2t last (fV l last 0) [] l (by simpa using h) (by simp[fV]);simp_all[wr,jR]
theorem Zlh(l0:List Zp)(last:Int)(h0:0<l0.length):∀(N:Nat)(pre rest:List Zp),(pre++rest).length<=100000->rest<N->
  j8 N l0 last (pre++rest) (pre++rest) pre=K2 ((match(LZ rest).find? (λx=>La (x>last))with|some x=>x|none=>(LZ l0).headD (-1)),())
 |0,_,_,_,h=>Aa
 |N+1,pre,[],a,b=>by
  unfold j8 gG gN;rw[Zo (UP pre),Zb];cases l0 with
  |nil=>simp at h0
  |cons y l0=>rfl
 |N+1,pre,x::rest,a,b=>by
  unfold j8 gG gN;rw[Zl (wW pre x rest),Zb (HU pre x rest)];simp only[z6,Nb,Mt];rw[WK pre x rest a];by_cases h:x.1>last
  ·simp_all
  ·rw[Zo (Zm h),Zm h,x6 pre x rest,Zlh l0 last h0 N (pre++[x]) rest (by simpa using a) (by simp at b;omega)]
def SZ(l:List Zp)(last:Int):Int:=cond (ac l) (jR (LZ l) last) (-1)
theorem Qhk(l:List Zp)(last:Int)(h:l.length<=100000):KH l last=K2 (SZ l last,()):=by
 unfold KH gH SZ;by_cases a:l.length=0
 ·have:=Mf a;subst this;rfl
 ·have b:((l:Int)==0)=false:=beq_eq_false_iff_ne.2 Aa;simp only[b,pH,Qdy l h,pA,Lk];cases ac l
  ·rfl
  ·have:=Zlh l last Aa (li l last l l 0) [] l (by simpa using h) (by simp[li]);simp_all[jR]
def dq(x:Zp):Bool:=x.2.1.2.1
def lK(l:List Zp)(last:Int):Int:=cond (ac l) (match(H4 l).find? (λx=> !dq x)with|some x=>x.1|none=>jR (LZ (H4 l)) last) (-1)
theorem Zm0(last:Int):∀(N:Nat)(pre rest:List Zp),(pre++rest).length<=100000->rest<N->
  f7 N last (pre++rest) (pre++rest) pre=K2 ((match rest.find? (λx=> !dq x)with|some x=>x.1|none=>SZ (pre++rest) last),())
 |0,_,_,_,h=>Aa
 |N+1,pre,[],a,b=>by
  simp_all[f7,Qhk]
 |N+1,pre,x::rest,a,b=>by
  unfold f7;rw[Zl (wW pre x rest),Zb (HU pre x rest)];simp only[z6,Mt];rw[WK pre x rest a];cases h:dq x
  ·simp_all[dq]
  ·rw[Zo (by simp_all[dq]),x6 pre x rest,Zm0 last N (pre++[x]) rest (by simpa using a) (by simp at b;omega)];rfl
theorem Qly(l:List Zp)(last:Int)(h:l.length<=100000):QA l last=K2 (lK l last,()):=by
 unfold QA gH lK;by_cases a:l.length=0
 ·have:=Mf a;subst this;rfl
 ·have b:((l:Int)==0)=false:=beq_eq_false_iff_ne.2 Aa;simp only[b,pH,Qdy l h,pA,Lk];cases ha:ac l
  ·rfl
  ·rw[pI,Zo rfl,Qmq l h,pA];have c:(H4 l).length<=100000:=Lw (Mb _ _) h;have:=Zm0 last (j7 last (H4 l) (H4 l) 0) [] (H4 l) (by simpa using c) (by simp[j7]);simp_all[Z7t,SZ]
theorem Z43(K1:(List Zp×Int×List Int×List Int×Int×Unit)->Oa Int)(l:List Zp)(last:Int)(i:Nat)(hi:i<l)(hl:l.length<=100000):
  ∀(N:Nat)(some0 preM restM:List Int),(preM++restM).length<=100000->some0+restM.length<=200000->restM.Nodup->restM<N->
  Jy K1 N l last (preM++restM) some0 (i:Int) preM=
   bif La ((l.getD (i:Int).toNat Qu).1∈restM)&& !dq (l.getD (i:Int).toNat Qu)then K2 ((l.getD (i:Int).toNat Qu).1,())
   else K1 (l,last,preM++restM,some0++(ite ((l.getD (i:Int).toNat Qu).1∈restM) [(l.getD (i:Int).toNat Qu).1] []),((i+1:Nat):Int),())
 |0,_,_,_,_,_,_,h=>Aa
 |N+1,some0,preM,[],a,g,d,f=>by
  unfold Jy gG gN;rw[Zo (UP preM),Zr hi];simp
 |N+1,some0,preM,y::restM,a,g,d,f=>by
  have b:restM<N:=by simp at f;omega
  have c:=List.nodup_cons.1 d;unfold Jy gG gN ie;rw[Zl (wW preM y restM),Zb (HU preM y restM),Zb];simp only[z6];rw[Zb (λ_=>Aa)];generalize hx:l.getD (i:Int).toNat Qu=x;have e:=x6 preM y restM;have j:=λsome0 h=>Z43 K1 l last i hi hl N some0 (preM++[y]) restM (by simpa using a) h c.2 b;rw[hx,<-e]at j;rw[WK preM y restM a,Zb (HU preM y restM),Zb,Zb,Zb,Zb Aj];by_cases k:y=x.1
  ·subst k;simp only[beq_self_eq_true,pJ,Lv,true_or,decide_true];cases hxi:dq x
   ·rw[Zl (by grind[dq])];rfl
   ·rw[Zo (by grind[dq]),Zl rfl]
    grind
  grind
def GR(m:List Int)(x:Zp):Bool:=La (x.1∈m)
theorem Z42(last:Int)(m:List Int)(hmn:m.Nodup)(hml:m.length<=100000):∀(N:Nat)(some0:List Int)(pre rest:List Zp),(pre++rest).length<=100000->some0.length+rest.length<=100000->rest.length<N->
  Kj N (pre++rest) last m some0 (pre.length:Int)=K2 ((match(rest.filter (GR m)).find? (λx=> !dq x)with|some x=>x.1|none=>jR (some0++LZ (rest.filter (GR m))) last),())
 |0,_,_,_,_,_,h=>Aa
 |N+1,some0,pre,[],a,d,f=>by
  simp_all[Kj,Qm3]
 |N+1,some0,pre,x::rest,a,d,f=>by
  have b:rest.length<N:=by simp at f;omega
  have g:pre.length<(pre++x::rest).length:=Ac
  unfold Kj;rw[Zl (wW pre x rest)];have c:=Z43 (λv=>Kj N v.1 v.2.1 v.2.2.1 v.2.2.2.1 v.2.2.2.2.1) (pre++x::rest) last pre.length g a (dy (pre++x::rest) last m some0 (pre.length:Int) 0) some0 [] m (by simpa using hml) (by simp at d;omega) hmn (by simp[dy]);simp only[Mc,Lo,z6]at c;rw[show((0:Nat):Int)=0 from rfl]at c;rw[c];have e:=x6 pre x rest;have i:((pre.length+1:Nat):Int)=(((pre++[x]).length:Nat):Int):=Ac
  have j:=λsome0 h=>Z42 last m hmn hml N some0 (pre++[x]) rest (by simpa using a) h b;rw[<-e]at j;rw[i];by_cases hx:x.1∈m
  ·have k:(x::rest).filter (GR m)=x::rest.filter (GR m):=by simp[GR,hx]
   grind
  grind(splits:=20)[GR]
theorem Qp1:∀{l:List Zp},l.Pairwise (λa b=>a.1<b.1)-> ∀{x y:Zp},x∈l->y∈l->x.1=y.1->x=y
 |[],_,_,_,h,_,_=>by cases h
 |z::l,c,x,y,hx,d,e=>by
  obtain⟨g,f⟩:=List.pairwise_cons.1 c;rcases Lv.1 hx with hx'|hx'<;>rcases Lv.1 d with hy'|hy'
  ·rw[hx',hy']
  ·grind
  ·grind
  ·exact Qp1 f hx' hy' e
theorem Qgt(h:l.Pairwise (λa b=>a.1<b.1)):(LZ l).Pairwise (· < ·):=List.pairwise_map.2 h
theorem Qig(h:ac l=K3):(LZ (H4 l)).Pairwise (· < ·):=Qgt ((Pp _ _ h).2.filter _)
theorem Qek(l:List Zp):(vM l).Nodup:=by
 unfold vM;cases h:ac l
 all_goals grind[Qig]
theorem Qs2(h:ac l=K3){x:Zp}(hx:x∈l):x.1∈LZ (H4 l)↔Hg (G0 7 l) x=true:=by
 constructor
 ·intro b;obtain⟨y,c,e⟩:=Mx.1 b;obtain⟨a,d⟩:=Mw.1 c;have:=Qp1 (Pp _ _ h).2 hx a e.symm;simp_all
 grind
theorem Qlz(l:List Zp)(last:Int)(h:l.length<=100000):nW l last=K2 (lK l last,()):=by
 unfold nW lK;rw[Qls l h,pA];have a:(vM l).length<=100000:=by
  unfold vM
  grind
 have:=Z42 last (vM l) (Qek l) a (dx l last (vM l) [] 0) [] [] l (by simpa using h) (by simpa using h) (by simp[dx]);simp only[Mc,Lo]at this;rw[show((0:Nat):Int)=0 from rfl]at this;simp only[];rw[this];cases ha:ac l
 ·have b:l.filter (GR (vM l))=[]:=Ms.2 λx _=>by simp[GR,vM,ha]
  rw[b];rfl
 ·have b:l.filter (GR (vM l))=H4 l:=List.filter_congr λx hx=>by
   rw[Md];simp_all[GR,vM,Qs2]
  rw[b];rfl
theorem Qpc(b:Int):∀(l:List Zp)(b:Int),G0 b l<=b/\ ∀x,x∈l->G0 b l<=x.2.1.1
 |[],b=>⟨L3 _,Ac⟩
 |y::l,b=>by
  obtain⟨a,c⟩:=Qpc b l (min b y.2.1.1);have e:G0 b (y::l)=G0 (min b y.2.1.1) l:=rfl
  grind
theorem Qjv:∀(l:List Zp)(b:Int),G0 b l=b\/ ∃x,x∈l/\x.2.1.1=G0 b l
 |[],b=>.inl rfl
 |y::l,b=>by
  have e:G0 b (y::l)=G0 (min b y.2.1.1) l:=rfl;rw[e];rcases Qjv l (min b y.2.1.1)with h|⟨x,hx,h⟩
  all_goals grind
theorem Qy9(h:ac l=K3)(h0:l≠[]):H4 l≠[]:=by
 obtain⟨a,b⟩:=Qpc 7 l 7;have c:∃x,x∈l/\x.2.1.1=G0 7 l:=by
  rcases Qjv l 7 with e|e
  ·cases l with
   |nil=>simp_all
   |cons x l=>
    have:=((Pp _ _ h).1 x Ac).2.2.1
    grind
  ·exact e
 grind[Ms,Hg]
theorem Qk0{L:List Int}(h:L≠[])(last:Int):jR L last∈L:=by
 unfold jR;split
 ·grind
 ·cases L with
  |nil=>simp_all
  |cons y L=>simp
theorem Qlv(h:ac l=K3)(h0:l≠[])(last:Int):lK l last∈LZ (H4 l):=by
 unfold lK;rw[h,pG]
 grind(splits:=20)[Qk0,Qy9,List.map_eq_nil_iff]
theorem Qlw(last:Int):lK [] last= -1:=rfl
def Ox(s:Zj):Bool:=(s.2.2.2.2.2.2.1&&La (s.2.1.1<(3:Int)))&&(La (s.2.1.2.2.1>(0:Int))||(s.2.1.2.2.2.2.2.2.1==(1:Int)))
abbrev LJ(s:Zj):Zp:=(s.1,s.2.2.2.2.2.1,())
def j5(c:Zf):List Zp:=(c.2.2.2.1.filter Ox).map LJ
def P1(sk:List Int)(x:Zp):Bool:=sk.all λi=>x.1 !=i
def YS(c:Zf)(sk:List Int):List Zp:=(j5 c).filter (P1 sk)
theorem Qft(c:Zf):(j5 c)<=c.2.2.2.1.length:=by simp_all[j5,Mb]
theorem Q2m(hl:c.2.2.2.1.length<=1000000):nY c=K2 (j5 c,()):=by
 have g:∀(N i:Nat),c.2.2.2.1-i<N->i<=c.2.2.2.1-> ∀o:List Zp,o<=i->Wa N c o (i:Int)=K2 (o++((c.2.2.2.1.drop i).filter Ox).map LJ,()):=by
  intro N
  induction N with
  |zero=>intro i h;omega
  |succ N e=>
   intro i j k o l;unfold Wa gG gJ;by_cases f:i<c.2.2.2.1
   ·rw[Zl (Zk),Zb,show(i:Int).toNat=i from rfl,Qx (d:=Zc) f];unfold ip;simp only;rw[Zr f];by_cases a:Ox (c.2.2.2.1.getD i Zc)=K3
    ·have b:=a;unfold Ox at a;rw[Zl a,Zb Aj,e (i+1) Aa Aa _ Ae,Mg b];simp
    ·have b:=a;have a:Ox (c.2.2.2.1.getD i Zc)=false:=by simpa using a
     unfold Ox at a;rw[Zo a,e (i+1) Aa Aa _ Aa,List.filter_cons_of_neg b]
   grind
 grind[nY,kj,j5]
theorem Qq1(hl:l.length<=1000000)(n:Int):nZ l n=K2 (l.filter (λx=>x.1 !=n),()):=by
 have e:∀(N i:Nat),l-i<N->i<=l-> ∀o:List Zp,o<=i->Wb N l n o (i:Int)=K2 (o++(l.drop i).filter (λx=>x.1 !=n),()):=by
  intro N
  induction N with
  |zero=>intro i h;omega
  |succ N c=>
   intro i f g o j;unfold Wb gG gN;by_cases a:i<l
   ·rw[Zl (Zk),Zb,show(i:Int).toNat=i from rfl,Qx (d:=Qu) a];unfold iq;simp only;rw[Zr a];by_cases b:((l.getD i Qu).1 !=n)=K3
    ·rw[Zl b,Zb,Zb Aj,c (i+1) Aa Aa _ Ae,Mg (p:=λx:Zp=>x.1 !=n) b];simp
    grind
   grind
 grind[nZ,kl]
theorem Zzp(l:List Int)(hl:l.length<=1000000)(n:Int):∀(N i:Nat),l-i<N->i<=l-> ∃v,df N l n l (i:Int)=K2 (v,())/\La (v>=0)= !(l.drop i).all λi=>n !=i
 |0,_,h,_=>Aa
 |N+1,i,b,c=>by
  unfold df gG;by_cases a:i<l
  ·rw[Zl (Zk),Zb,show(i:Int).toNat=i from rfl,Qx (d:=0) a,Zr a];by_cases e:n=l.getD i 0
   ·refine⟨(i:Int),Af,?_⟩
    grind
   ·obtain⟨v,f,g⟩:=Zzp l hl n N (i+1) Aa Aa
    grind
  simp_all[Zm,Ly]
theorem Qk7{l:List Int}(hl:l.length<=1000000)(n:Int):ke l n=K2 (!(l.all λi=>n !=i),()):=by unfold ke yz;obtain⟨v,a,b⟩:=Zzp l hl n (cu l n l 0) 0 (by simp[cu]) Aa;simp_all
theorem Q2l(hl:c.2.2.2.1.length<=1000000)(h0:∀s∈c.2.2.2.1,0<=s.2.1.1)(hk:sk.length<=1000000):Hf c sk=K2 (YS c sk,()):=by
 have m:∀(N i:Nat),c.2.2.2.1.length-i<N->i<=c.2.2.2.1.length-> ∀o:List Zp,o.length<=i->nJ N sk o c.2.2.2.1 (c.2.2.2.1.length:Int) (i:Int)=K2 (o++(((c.2.2.2.1.drop i).filter Ox).map LJ).filter (P1 sk),()):=by
  intro N
  induction N with
  |zero=>intro i h;omega
  |succ N g=>
   intro i n q o r;unfold nJ gG gJ;by_cases a:i<c.2.2.2.1.length
   ·rw[Zl (Zk),Zb,show(i:Int).toNat=i from rfl,Qx (d:=Zc) a,Zr a];have t:=h0 _ (Z5 (d:=Zc) a);generalize c.2.2.2.1.getD i Zc=s at*
    simp only[bL,Qk7 hk,bA,sZ];rw[Zk (p:=s.2.1.1>=0),pJ];have j:La (s.2.1.1<=2)=La (s.2.1.1<3):=Ai
    rw[j];have k:((s.2.2.2.2.2.2.1&&La (s.2.1.1<3))&&(La ((s.2.1.2.2.1.length:Int)>0)||(s.2.1.2.2.2.2.2.2.1==1)))=Ox s:=rfl;rw[k];by_cases e:Ox s=K3
    ·have l:(s::List.drop (i+1) c.2.2.2.1).filter Ox=s:: (List.drop (i+1) c.2.2.2.1).filter Ox:=Mg e;rw[l,Nb,e,pJ,pJ,Mo];by_cases f:P1 sk (LJ s)=K3
     ·have b:(sk.all λi=>s.1 !=i)=true:=f;rw[b,pG,Zb Aj,g (i+1) Aa Aa _ Ae,Mg f];simp
     grind(splits:=20)[P1]
    grind
   grind
 grind[Hf,yp,YS,j5]
theorem Qhe(h:0<=lK l last):ac l=K3/\ ∃x∈H4 l,x.1=lK l last:=by
 have a:ac l=true:=by
  cases e:ac l
  all_goals simp_all[lK]
 grind[Qlw,Qlv]
theorem Qt5{x:Zp}(h:x∈YS c sk):(∃s∈c.2.2.2.1,Ox s=K3/\x=LJ s)/\P1 sk x=true:=by grind[YS,j5]
theorem AO(hl:c.2.2.2.1.length<=1000000)(h:0<=lK (YS c sk) last:=by omega):0<=Qk c.2.2.2.1 (lK (YS c sk) last):=by
 obtain⟨-,x,hx,e⟩:=Qhe h;obtain⟨⟨s,a,-,b⟩,-⟩:=Qt5 (Mw.1 hx).1;rw[<-e,b];by_cases d:0<=Qk c.2.2.2.1 (LJ s).1
 ·exact d
 ·exact absurd rfl ((uT hl (LJ s).1).2.1 Aa s a)
def Pu(c:Zf)(id:Int):Zf:=(c.1,c.2.1,c.2.2.1,c.2.2.2.1.set (Qk c.2.2.2.1 id).toNat ((c.2.2.2.1.getD (Qk c.2.2.2.1 id).toNat Zc).1,(c.2.2.2.1.getD (Qk c.2.2.2.1 id).toNat Zc).2.1,Gg (c.2.2.2.1.getD (Qk c.2.2.2.1 id).toNat Zc).2.2.1,(c.2.2.2.1.getD (Qk c.2.2.2.1 id).toNat Zc).2.2.2),Gg c.2.2.2.2.1,c.2.2.2.2.2)
theorem LC(h:Qa K c)(hK:K<=1000000)(hi:0<=Qk c.2.2.2.1 id):wt c id=K2 ((),Pu c id,())/\Qa K (Pu c id):=by
 have e:=h.str.len;obtain⟨f,-,g⟩:=uT (l:=c.2.2.2.1) Aa id;have a:=h.str.all _ (Z5 (d:=Zc) (show(Qk c.2.2.2.1 id).toNat<c.2.2.2.1 by omega));have b:Xz K ((c.2.2.2.1.getD (Qk c.2.2.2.1 id).toNat Zc).1,(c.2.2.2.1.getD (Qk c.2.2.2.1 id).toNat Zc).2.1,Gg (c.2.2.2.1.getD (Qk c.2.2.2.1 id).toNat Zc).2.2.1,(c.2.2.2.1.getD (Qk c.2.2.2.1 id).toNat Zc).2.2.2):=⟨a.snd,a.rcv⟩
 refine⟨?_,h.str.set b _,h.pk⟩;unfold wt tN;rw[eW h hK,if_pos hi];simp only[pA,nbE];rw[EJ h.str b hK Af];simp_all[Pu]
def UB(c:Y3)(n:Int):Bool:= !(((!CJ c)||La (n<0))||La (n>Lb.wrap (c.1-c.2.1)))
def RX(c:Y3)(n:Int):Y3:=cond (UB c n) (c.1,Lb.wrap (c.2.1+n),c.2.2) c
theorem ucE(c:Y3)(n:Int):ez c n=K2 (RX c n,UB c n,()):=by grind[ez,RX,UB,DG]
abbrev OU(c:Zf)(id:Int):Zj:=c.2.2.2.1.getD (Qk c.2.2.2.1 id).toNat Zc
def Rp(s:Zn)(p:Qq):Zn:=cond (Pt s p) (I1 s p) s
def jU(c:Zf)(id:Int)(p:Qq):Int:=Lb.wrap ((Rp (OU c id).2.1 p).2.2.2.2.2.2.2.1- (OU c id).2.1.2.2.2.2.2.2.2.1)
def w0(c:Zf)(id:Int)(p:Qq):Bool:=((ci c&&La (0<=Qk c.2.2.2.1 id))&&(OU c id).2.2.2.2.2.2.1)&&((Pt (OU c id).2.1 p&&UB (OU c id).2.2.1 (jU c id p))&&UB c.2.2.2.2.1 (jU c id p))
def Ir(c:Zf)(id:Int)(p:Qq):Zf:=(c.1,c.2.1,c.2.2.1,c.2.2.2.1.set (Qk c.2.2.2.1 id).toNat ((OU c id).1,I1 (OU c id).2.1 p,RX (OU c id).2.2.1 (jU c id p),(OU c id).2.2.2),RX c.2.2.2.2.1 (jU c id p),c.2.2.2.2.2.1,c.2.2.2.2.2.2.1,c.2.2.2.2.2.2.2.1,c.2.2.2.2.2.2.2.2.1,c.2.2.2.2.2.2.2.2.2.1,c.2.2.2.2.2.2.2.2.2.2.1,c.2.2.2.2.2.2.2.2.2.2.2.1,c.2.2.2.2.2.2.2.2.2.2.2.2.1,id,c.2.2.2.2.2.2.2.2.2.2.2.2.2.2)
theorem ER(h:Qa K c)(hK:K<=1000000){p:Qq}(ho:w0 c id p=K3):Qa K (Ir c id p):=by have e:=h.str.len;obtain⟨f,-,g⟩:=uT (l:=c.2.2.2.1) Aa id;unfold w0 at ho;simp only[pC,decide_eq_true_eq]at ho;obtain⟨⟨⟨-,i⟩,-⟩,⟨b,-⟩,-⟩:=ho;have a:=h.str.all _ (Z5 (d:=Zc) (show(Qk c.2.2.2.1 id).toNat<c.2.2.2.1 by omega));exact⟨h.str.set (by exact⟨Qkj a.snd (by omega) p b,a.rcv⟩) _,h.pk⟩
theorem Qg5(h:Qa K c)(hK:K<=1000000)(id:Int)(p:Qq):so c id p=K2 (cond (w0 c id p) (Ir c id p) c,w0 c id p,()):=by
 have j:=h.str.len;obtain⟨k,-,m⟩:=uT (l:=c.2.2.2.1) Aa id;unfold so tP;rw[Yn h hK,pA,eW h hK,pA,Ih h hK,pA];by_cases e:0<=Qk c.2.2.2.1 id
 ·rw[if_pos e];have a:=h.str.all _ (Z5 (d:=Zc) (show(Qk c.2.2.2.1 id).toNat<c.2.2.2.1 by omega));have f:w0 c id p=((ci c&&(OU c id).2.2.2.2.2.2.1)&&((Pt (OU c id).2.1 p&&UB (OU c id).2.2.1 (jU c id p))&&UB c.2.2.2.2.1 (jU c id p))):=by
   simp_all[w0]
  rw[f];simp only[pI,Ll];cases hc:ci c
  ·rfl
  ·cases hcs:(OU c id).2.2.2.2.2.2.1
   ·rfl
   ·simp only[pI,Lg,pH,Lf,pJ];rw[Qvu a.snd Aa,pA];simp only[ucE,pA];have g:(cond (Pt (OU c id).2.1 p) (I1 (OU c id).2.1 p) (OU c id).2.1)=Rp (OU c id).2.1 p:=rfl;have i:Lb.wrap ((Rp (OU c id).2.1 p).2.2.2.2.2.2.2.1- (OU c id).2.1.2.2.2.2.2.2.2.1)=jU c id p:=rfl;rw[g,i];cases ho:Pt (OU c id).2.1 p
    ·rfl
    ·cases hu:UB (OU c id).2.2.1 (jU c id p)
     ·rfl
     ·cases hv:UB c.2.2.2.2.1 (jU c id p)
      ·rfl
      ·simp only[pI,Lg,pH,Lf,pG];have hx:Xz K ((OU c id).1,I1 (OU c id).2.1 p,RX (OU c id).2.2.1 (jU c id p),(OU c id).2.2.2):=⟨Qkj a.snd Aa p ho,a.rcv⟩
       have b:Rp (OU c id).2.1 p=I1 (OU c id).2.1 p:=Af
       rw[b,EJ h.str hx hK Af,pA];simp_all[Ir]
 simp_all[if_neg,w0,Zm]
theorem Qg4(h:Qa K c)(hK:K<=1000000)(id:Int)(p:Qq):KD c id p=K2 (cond (w0 c id p) (Ir c id p) c,w0 c id p,()):=by
 have j:=h.str.len;obtain⟨k,-,m⟩:=uT (l:=c.2.2.2.1) Aa id;unfold KD;simp only[Xm,X5];rw[Wh h hK,pA,xX Aa,VB Aa,pA];unfold xw gG gJ;simp only[Xm,X5];rw[zg h hK,Ih h hK,pA];by_cases n:0<=Qk c.2.2.2.1 id
 ·rw[Zm (p:=Qk c.2.2.2.1 id<0),Zb (λ_=>Aa)];have b:=h.str.all _ (Z5 (d:=Zc) (show(Qk c.2.2.2.1 id).toNat<c.2.2.2.1.length by omega));have e:w0 c id p=((ci c&&(OU c id).2.2.2.2.2.2.1)&&((Pt (OU c id).2.1 p&&UB (OU c id).2.2.1 (jU c id p))&&UB c.2.2.2.2.1 (jU c id p))):=by
   simp_all[w0]
  rw[e];simp only[Ll];cases hc:ci c
  ·rfl
  ·cases hcs:(OU c id).2.2.2.2.2.2.1
   ·rfl
   ·simp only[pI,Lg,pH,Lf,pJ];rw[Zb,Q05 b.snd Aa,pA];unfold KE gJ tN tP tR;simp only[Qih,ucE,pA];have f:(cond (Pt (OU c id).2.1 p) (I1 (OU c id).2.1 p) (OU c id).2.1)=Rp (OU c id).2.1 p:=rfl;have g:Lb.wrap ((Rp (OU c id).2.1 p).2.2.2.2.2.2.2.1- (OU c id).2.1.2.2.2.2.2.2.2.1)=jU c id p:=rfl;rw[f,g,Wh h hK,pA];cases ho:Pt (OU c id).2.1 p
    ·rfl
    ·cases hu:UB (OU c id).2.2.1 (jU c id p)
     ·rfl
     ·cases hv:UB c.2.2.2.2.1 (jU c id p)
      ·rfl
      ·simp only[pI,Lg,pH,Lf,pG];have a:Rp (OU c id).2.1 p=I1 (OU c id).2.1 p:=Af
       have i:∀x:Zj,(c.2.2.2.1.set (Qk c.2.2.2.1 id).toNat x).getD (Qk c.2.2.2.1 id).toNat Zc=x:=λx=>by
        rw[Mv,Na Aa];rfl
       rw[a,i,Lz];rfl
 grind(splits:=20)[w0,Zb]
def fP(c:Y3):Bool:=CJ c&&(c.2.2.1==c.1)
theorem mtE(c:Y3):qm c=K2 (fP c,()):=by unfold qm;rw[DG];rfl
abbrev PD(k st lim:Int)(uni:Bool):Zh:=(k,st,(0:Int),([]:Ba),Lc,(0:Int),lim,(0:Int),uni,())
abbrev frR(s:Zj):Zh:=((4:Int),s.1,(0:Int),([]:Ba),Lc,s.2.1.2.2.2.2.2.2.2.2.1,(0:Int),s.2.1.2.2.2.2.2.2.2.1,Lc,())
abbrev jC(s:Zj):Zh:=((5:Int),s.1,(0:Int),([]:Ba),Lc,s.2.2.2.2.2.2.2.2.2.2.2.2.1,(0:Int),(0:Int),Lc,())
def rB(c:Zf)(s:Zj):Qr:=cond (wR s) (R0 s.2.2.2.2.1 (En c) (D5 c)) s.2.2.2.2.1
def HT(c:Zf)(s:Zj):Bool:=wR s&&(cond (Dp s.2.2.2.2.1) (D2 s.2.2.2.2.1 (En c) (D5 c)) s.2.2.2.2.2.2.2.2.2.2.1)
def UI(s:Zj):Bool:=(fP s.2.2.1&&s.2.2.2.2.2.2.1)&&La (s.2.1.2.2.1>(0:Int))
def PA(c:Zf)(s:Zj):List Zh:=(cond s.2.2.2.2.2.2.2.2.1 [frR s] [])++(cond (s.2.2.2.2.2.2.2.2.2.1&&La (s.2.2.2.1.1<(2:Int))) [jC s] [])++(cond (HT c s) [PD 17 s.1 (rB c s).2.2.1 Lc] [])++(cond (UI s) [PD 21 s.1 s.2.2.1.1 Lc] [])
theorem DU{a b:List Zh}(h:a+b.length<=1000000):a+b<=Qd:=Aj
theorem sfE(c:Zf)(s:Zj):jp c s=K2 (PA c s,()):=by
 have b:∀o:List Zh,o.length<=10->eD s o=K2 (o++(cond (UI s) [PD 21 s.1 s.2.2.1.1 Lc] []),()):=λo a=>by
  unfold eD;rw[mtE,pA];cases h:UI s
  ·simp_all[UI,Zo]
  ·unfold UI at h;rw[Zl h,pG]
   grind[Zb,DU]
 have d:∀o:List Zh,o.length<=9->W9 c s o=K2 (o++(cond (HT c s) [PD 17 s.1 (rB c s).2.2.1 Lc] [])++(cond (UI s) [PD 21 s.1 s.2.2.1.1 Lc] []),()):=λo a=>by
  unfold W9;rw[lwE,pA];cases h:HT c s
  ·unfold HT at h
   grind
  ·unfold HT at h;rw[Zl h,pG];simp only;rw[Zb (DU Ae),b _ Ae];rfl
 have e:∀o:List Zh,o.length<=8->W8 c s o=K2 (o++(cond (s.2.2.2.2.2.2.2.2.2.1&&La (s.2.2.2.1.1<(2:Int))) [jC s] [])++(cond (HT c s) [PD 17 s.1 (rB c s).2.2.1 Lc] [])++(cond (UI s) [PD 21 s.1 s.2.2.1.1 Lc] []),()):=λo a=>by
  unfold W8;cases h:s.2.2.2.2.2.2.2.2.2.1&&La (s.2.2.2.1.1<(2:Int))
  ·grind
  ·rw[pG,pG];simp only;rw[Zb (DU Ae),d _ Ae]
 unfold jp PA;cases s.2.2.2.2.2.2.2.2.1
 ·simp_all
 ·rw[pG,pG];simp only;rw[Zb (DU Ac),e _ Ac];rfl
theorem Qkf(c:Zf)(s:Zj):(PA c s).length<=4:=by unfold PA;cases s.2.2.2.2.2.2.2.2.1<;>cases s.2.2.2.2.2.2.2.2.2.1&&La (s.2.2.2.1.1<(2:Int))<;>cases HT c s<;>cases UI s<;>simp
def BB(c:Zf):Bool:=cond (Dp c.2.2.2.2.2.1) (D2 c.2.2.2.2.2.1 (En c) (D5 c)) c.2.2.2.2.2.2.2.2.2.2.1
def SU(a:Q1)(t:Bool):Bool:=cond (Th a) (A6 a) t
def vI(c:Zf):List Zh:=(cond (BB c) [PD 16 0 (R0 c.2.2.2.2.2.1 (En c) (D5 c)).2.2.1 Lc] [])++(cond (SU c.2.2.2.2.2.2.2.2.1 c.2.2.2.2.2.2.2.2.2.2.2.1) [PD 18 0 (t8 c.2.2.2.2.2.2.2.2.1).2.1 Lc] [])++(cond (SU c.2.2.2.2.2.2.2.2.2.1 c.2.2.2.2.2.2.2.2.2.2.2.2.1) [PD 18 0 (t8 c.2.2.2.2.2.2.2.2.2.1).2.1 K3] [])
def N7(c:Zf):List Zh:=(cond (fP c.2.2.2.2.1) [PD 20 0 c.2.2.2.2.1.1 Lc] [])++(cond (c.2.2.2.2.2.2.1.2.2.1==c.2.2.2.2.2.2.1.1) [PD 22 0 c.2.2.2.2.2.2.1.1 Lc] [])++(cond (c.2.2.2.2.2.2.2.1.2.2.1==c.2.2.2.2.2.2.2.1.1) [PD 22 0 c.2.2.2.2.2.2.2.1.1 K3] [])
def ga(c:Zf):List Zh:=cond (ci c&& !(c.2.2.2.2.2.2.2.2.2.2.2.2.2.2.2.2.2.1 !=(0:Int))) (vI c++c.2.2.2.1.flatMap (PA c)++N7 c) []
theorem Qzo(h:Qa K c)(hK:K<=100000:=by omega):aF c=K2 (ga c,()):=by
 have m:=h.str.len;unfold aF ga;rw[YJ h,pA];cases hc:ci c&& !(c.2.2.2.2.2.2.2.2.2.2.2.2.2.2.2.2.2.1 !=(0:Int))
 ·rfl
 ·simp only[pI,pH,pG];have n:∀o:List Zh,o.length<=900005->Ww c o=K2 (o++(cond (c.2.2.2.2.2.2.2.1.2.2.1==c.2.2.2.2.2.2.2.1.1) [PD 22 0 c.2.2.2.2.2.2.2.1.1 K3] []),()):=λo a=>by
   unfold Ww;cases c.2.2.2.2.2.2.2.1.2.2.1==c.2.2.2.2.2.2.2.1.1
   ·simp_all
   ·rw[pG,pG]
    grind[Zb,DU]
  have e:∀o:List Zh,o.length<=900004->Wv c o=K2 (o++(cond (c.2.2.2.2.2.2.1.2.2.1==c.2.2.2.2.2.2.1.1) [PD 22 0 c.2.2.2.2.2.2.1.1 Lc] [])++(cond (c.2.2.2.2.2.2.2.1.2.2.1==c.2.2.2.2.2.2.2.1.1) [PD 22 0 c.2.2.2.2.2.2.2.1.1 K3] []),()):=λo a=>by
   unfold Wv;cases c.2.2.2.2.2.2.1.2.2.1==c.2.2.2.2.2.2.1.1
   ·grind
   ·rw[pG,pG]
    grind[Zb,DU]
  have f:∀(N i:Nat)(o:List Zh),c.2.2.2.1-i<N->i<=c.2.2.2.1->o<=4*i+3->Ja N c o (i:Int)=K2 (o++(c.2.2.2.1.drop i).flatMap (PA c)++N7 c,()):=by
   intro N
   induction N with
   |zero=>omega
   |succ N g=>
    intro i o p q a;unfold Ja;by_cases b:i<c.2.2.2.1
    ·have r:=Qkf c (c.2.2.2.1.getD i Zc);rw[Zl (Zk),Zb,show(i:Int).toNat=i from rfl,sfE,pA,Zb (DU (by dsimp only;omega)),Zr b,g (i+1) _ Aa Aa Ai,Qx (d:=Zc) b,List.flatMap_cons,Mq o]
    ·rw[Zo (Zm),Ly Aa,mtE,pA,List.flatMap_nil,M7];unfold N7;cases fP c.2.2.2.2.1
     ·grind
     ·rw[pG,pG];simp only;rw[Zb (DU Ae),e _ Ae];simp
  have j:∀o:List Zh,o.length<=3->K9 c o=K2 (o++c.2.2.2.1.flatMap (PA c)++N7 c,()):=λo a=>by
   unfold K9;have:=f (aG c o 0) 0 o (by simp[aG]) Aa Aa;simpa using this
  have k:∀o:List Zh,o.length<=2->K8 c o=K2 (o++(cond (SU c.2.2.2.2.2.2.2.2.2.1 c.2.2.2.2.2.2.2.2.2.2.2.2.1) [PD 18 0 (t8 c.2.2.2.2.2.2.2.2.2.1).2.1 K3] [])++c.2.2.2.1.flatMap (PA c)++N7 c,()):=λo a=>by
   unfold K8;rw[Hx,pA];change (cond (SU _ _) _ _)=_;cases SU c.2.2.2.2.2.2.2.2.2.1 c.2.2.2.2.2.2.2.2.2.2.2.2.1
   ·grind
   ·rw[pG,pG];simp only;rw[Zb (DU Ae),j _ Ae]
  have l:∀o:List Zh,o.length<=1->K7 c o=K2 (o++(cond (SU c.2.2.2.2.2.2.2.2.1 c.2.2.2.2.2.2.2.2.2.2.2.1) [PD 18 0 (t8 c.2.2.2.2.2.2.2.2.1).2.1 Lc] [])++(cond (SU c.2.2.2.2.2.2.2.2.2.1 c.2.2.2.2.2.2.2.2.2.2.2.2.1) [PD 18 0 (t8 c.2.2.2.2.2.2.2.2.2.1).2.1 K3] [])++c.2.2.2.1.flatMap (PA c)++N7 c,()):=λo a=>by
   unfold K7;rw[Hx,pA];change (cond (SU _ _) _ _)=_;cases SU c.2.2.2.2.2.2.2.2.1 c.2.2.2.2.2.2.2.2.2.2.2.1
   ·grind
   ·rw[pG,pG];simp only;rw[Zb (DU Ae),k _ Ae]
  rw[ttE,pA];change (cond (BB c) _ _)=_;unfold vI;cases BB c
  ·simp_all
  ·rw[pG,pG];simp only;rw[Zb (DU Ac),l _ Ac];rfl
theorem Qdp(c:Zf):∀l:List Zj,(l.flatMap (PA c))<=4*l.length
 |[]=>Ac
 |x::l=>by
  have:=Qdp c l
  grind[Qkf]
theorem Qiu(c:Zf):(ga c).length<=4*c.2.2.2.1.length+6:=by
 unfold ga;cases ci c&& !(c.2.2.2.2.2.2.2.2.2.2.2.2.2.2.2.2.2.1 !=(0:Int))
 ·simp
 ·have a:(vI c).length<=3:=by
   grind(splits:=20)[vI]
  have b:(N7 c).length<=3:=by
   grind[N7]
  grind(splits:=20)[Qdp]
theorem Qnl(h:f∈ga c):ci c=K3/\(f∈vI c\/(∃s∈c.2.2.2.1,f∈PA c s)\/f∈N7 c):=by
 unfold ga at h
 grind
theorem Qio{b:Bool}{x:α}(h:x∈(cond b [y] [])):b=K3/\x=y:=by grind
theorem Qqe{s:Zj}(h:f∈PA c s):(s.2.2.2.2.2.2.2.2.1=K3/\f=frR s)\/(s.2.2.2.2.2.2.2.2.2.1=K3/\f=jC s)\/(HT c s=K3/\f=PD 17 s.1 (rB c s).2.2.1 Lc)\/(UI s=K3/\f=PD 21 s.1 s.2.2.1.1 Lc):=by
 unfold PA at h;rcases L1.1 h with h|h
 ·rcases L1.1 h with h|h
  ·rcases L1.1 h with h|h
   ·exact .inl (Qio h)
   ·obtain⟨a,b⟩:=Qio h;simp_all
  grind
 grind
theorem Qrh(h:f∈vI c):f.1=16\/f.1=18:=by
 unfold vI at h;rcases L1.1 h with h|h
 ·grind
 grind
theorem Qrk(h:f∈N7 c):f.1=20\/f.1=22:=by
 unfold N7 at h;rcases L1.1 h with h|h
 ·grind
 grind
theorem Qzm(h:Qa K c)(hK:K<=1000000)(hf:f∈ga c)(h17:f.1=17):∀s∈c.2.2.2.1,s.1=f.2.1->wR s=true:=by
 obtain⟨b,hm⟩:=Qnl hf;have C:=(BK h hK).1 b;rcases hm with hm|⟨s,d,hm⟩|hm
 ·grind[Qrh]
 ·rcases Qqe hm with⟨-,e⟩|⟨-,e⟩|⟨j,e⟩|⟨-,e⟩
  ·simp_all
  ·simp_all
  ·intro g a i;have:g=s:=Qkm (NZ.1 C.sts).srt a d (by rw[i,e]);simp_all[HT]
  simp_all
 grind[Qrk]
theorem Tj(hf:f∈ga c):f.2.2.2.1=[]:=by
 obtain⟨-,hm⟩:=Qnl hf;rcases hm with hm|⟨s,a,hm⟩|hm
 ·unfold vI at hm;rcases L1.1 hm with h|h
  ·grind
  grind
 ·rcases Qqe hm with⟨-,e⟩|⟨-,e⟩|⟨-,e⟩|⟨-,e⟩<;>rw[e]
 ·unfold N7 at hm;rcases L1.1 hm with h|h
  ·grind
  grind
theorem Z80(s:Zn)(id room limit:Int):∀m:Nat,m<=60->(Cd s id room limit m).1.2.1.length<=60
 |0,_=>M1 _
 |m+1,a=>by
  unfold Cd;split
  ·grind[oh]
  ·exact Z80 s id room limit m Aa
theorem Te(c:Zf)(id room:Int):(H0 c id room).1.2.1.length<=60:=by
 unfold H0;split
 ·unfold IL;split
  ·grind[Z80]
  ·exact M1 _
 ·exact M1 _
abbrev xR(c:Zf):Int:=c.2.2.2.2.2.2.2.2.2.2.2.2.2.1
abbrev IM(c:Zf):Int:=c.2.2.2.2.2.2.2.2.2.2.2.2.2.2.1
def XX:Nat->Zf->List Zh->Int->List Int->List Zh×Zf|0,c,fr,_,_=>(fr,c)|n+1,c,fr,room,sk=>ite (lK (YS c sk) (xR c)<0) (fr,c) (cond (H0 c (lK (YS c sk) (xR c)) room).2.1 (cond (w0 c (lK (YS c sk) (xR c)) (H0 c (lK (YS c sk) (xR c)) room).1) (XX n (Ir c (lK (YS c sk) (xR c)) (H0 c (lK (YS c sk) (xR c)) room).1) (fr++[FG (lK (YS c sk) (xR c)) (H0 c (lK (YS c sk) (xR c)) room).1]) (Lb.wrap (room-gS (FG (lK (YS c sk) (xR c)) (H0 c (lK (YS c sk) (xR c)) room).1))) sk) (fr,c)) (XX n (Pu c (lK (YS c sk) (xR c))) fr room (sk++[lK (YS c sk) (xR c)])))
theorem Qq0(h:Qa K c)(sk:List Int):(YS c sk)<=K:=by unfold YS;have:=Mb (P1 sk) (j5 c);have:=Qft c;have:=h.str.len;omega
theorem Ql0(l:List Zp):l.filter (P1 [])=l:=by rw[M9];intro x _;rfl
theorem Qhg(l:List Zp)(i:Int)(sk:List Int):(l.filter (λx=>x.1 !=i)).filter (P1 sk)=l.filter (P1 (i::sk)):=by
 rw[List.filter_filter];congr 1
 grind[P1]
theorem Qu1{K:Nat}(hK:K<=90000):∀(n N i:Nat)(x:Zf)(fr:List Zh)(room:Int)(sk:List Int),i+n=200->n<N->Qa K x->fr<=1000000+i->sk<=i->
  Vh N x fr room sk (i:Int)=K2 (((XX n x fr room sk).1,()),(XX n x fr room sk).2,())
 |_,0,_,_,_,_,_,_,h,_,_,_=>Aa
 |0,N+1,i,x,fr,room,sk,q,r,hx,f,g=>by
  unfold Vh;rw[Zo (Zm)];rfl
 |n+1,N+1,i,x,fr,room,sk,q,r,hx,f,g=>by
  have y:=hx.str.len;have a:i<200:=Aa
  unfold Vh;rw[Zl (Zk),Q2m Aa,pA];have s:=λx fr room sk hx f g=>Qu1 hK n N (i+1) x fr room sk Aa Aa hx f g;have t:∀(M k:Nat)(l:List Zp),sk-k<M->k<=sk->l<=K->l.filter (P1 (sk.drop k))=YS x sk->
    kA (λv=>Vh N v.1 v.2.1 v.2.2.1 v.2.2.2.1 v.2.2.2.2.1) M x fr room sk (i:Int) l (k:Int)=K2 (((XX (n+1) x fr room sk).1,()),(XX (n+1) x fr room sk).2,()):=by
   intro M
   induction M with
   |zero=>omega
   |succ M j=>
    intro k l z hk m o;unfold kA;by_cases p:k<sk
    ·rw[Zl (Zk),Zb,show(k:Int).toNat=k from rfl,Qq1 Aa,pA,Zr p];refine j (k+1) _ Aa Aa (Lw (Mb _ _) m) ?_;rw[Qhg,<-Qx (d:=0) p];exact o
    ·rw[Ly Aa,Ql0]at o;rw[Zo (Zm),o,Qlz _ _ Ai,pA];simp only[Xm,X5];rw[XX];by_cases e:lK (YS x sk) (xR x)<0
     ·rw[Zl (Zk e),if_pos e]
     ·have b:=AO (c:=x) Aa (sk:=sk) (last:=xR x);rw[Zo (Zm e),if_neg e];generalize lK (YS x sk) (xR x)=id at*
      rw[Ql9 hx Aa,pA];have u:=Te x id room;cases hp:(H0 x id room).2.1
      ·obtain⟨w,A⟩:=LC hx Aa b;rw[w,pA];simp only[L0,pG,pH];rw[Zb Aj];unfold kz;rw[Zr a]
       grind
      ·simp only[pI,pG,pH];rw[Qg5 hx Aa,pA];unfold vw;cases hm:w0 x id (H0 x id room).1
       ·rfl
       ·simp only[pI,pG,pH,vr,pA];rw[Zb Aj,Sl Ap,pA];unfold kz;rw[Zr a];exact s (Ir x id (H0 x id room).1) (fr++[FG id (H0 x id room).1]) _ sk (ER hx Aa hm) Ae Aa
  have B:=Qft x;exact t _ 0 (j5 x) (by simp[pj]) Aa Aa (by rfl)
def G1(c:Zf):Prop:= ∀s∈c.2.2.2.1,0<=s.2.1.1
theorem Qkl(h:G1 c){s:Zj}(hs:0<=s.2.1.1):∀x∈c.2.2.2.1.set i s,0<=x.2.1.1:=λx hx=>by
 rcases Mk hx with h1|h1
 ·exact h x h1
 simp_all
theorem Qyk(h:G1 c)(hl:c.2.2.2.1.length<=1000000)(hi:0<=Qk c.2.2.2.1 id):G1 (Pu c id):=by have b:=(uT hl id).1;have a:=h _ (Z5 (d:=Zc) (show(Qk c.2.2.2.1 id).toNat<c.2.2.2.1 by omega));exact Qkl h a
theorem Qyl(h:G1 c)(id:Int)(p:Qq):G1 (Ir c id p):=Qkl h (C3 _).1
theorem Qu0{K:Nat}(hK:K<=90000)(t:Zf):∀(n N i:Nat)(x:Zf)(fr:List Zh)(room:Int)(sk:List Int),i+n=200->n<N->Qa K x->G1 x->fr<=1000000+i->sk<=i->
  ap N t x fr sk room (i:Int)=cD t (XX n x fr room sk).2 (XX n x fr room sk).1
 |_,0,_,_,_,_,_,_,h,_,_,_,_=>Aa
 |0,N+1,i,x,fr,room,sk,k,m,hx,a,f,g=>by
  unfold ap gG gJ tN;rw[Zo (Zm)];rfl
 |n+1,N+1,i,x,fr,room,sk,k,m,hx,a,f,g=>by
  have q:=hx.str.len;have d:i<200:=Aa
  have j:=λx fr room sk hx a f g=>Qu0 hK t n N (i+1) x fr room sk Aa Aa hx a f g;unfold ap gG gJ tN;rw[Zl (Zk),Q2l Aa a Aa,pA,Qly (YS x sk) _ (by have:=Qq0 hx sk;omega),pA,XX];by_cases e:lK (YS x sk) (xR x)<0
  ·rw[Zl (Zk e),if_pos e]
  ·have b:=AO (c:=x) Aa (sk:=sk) (last:=xR x);rw[Zo (Zm e),if_neg e];generalize lK (YS x sk) (xR x)=id at*
   rw[Ql8 hx Aa,pA];have o:=Te x id room;have r:=(uT (l:=x.2.2.2.1) Aa id).1;cases hp:(H0 x id room).2.1
   ·obtain⟨s,p⟩:=LC hx Aa b;simp only[L0,pG,pH];rw[xX Aa,VB Aa,pA,Zb];simp only[Q0i,nbE,pA];rw[Zb Aj,Zr d];exact j (Pu x id) _ _ _ p (Qyk a Aa b) Aa Ae
   ·simp only[pI,pG,pH];rw[Qg4 hx Aa,pA];cases hm:w0 x id (H0 x id room).1
    ·rfl
    ·simp only[pI,pG,pH,nD,pA];rw[Zb Aj,qS Ap,pA,Zr d];exact j (Ir x id (H0 x id room).1) (fr++[FG id (H0 x id room).1]) _ sk (ER hx Aa hm) (Qyl a _ _) Ae Aa
def vH(c:Zf)(f:Zh):Zf:=cond (ci c) (GH c f) c
theorem Qph(hl:c.2.2.2.1.length<=1000000)(f:Zh):(GH c f).2.2.2.1=c.2.2.2.1\/(0<=Qk c.2.2.2.1 f.2.1/\(GH c f).2.2.2.1=c.2.2.2.1.set (Qk c.2.2.2.1 f.2.1).toNat (qJ c (OU c f.2.1) f.1)):=by
 unfold GH;cases f.1==(16:Int)<;>cases f.1==(18:Int)<;>cases f.1==(20:Int)<;>cases f.1==(22:Int)<;>cases f.2.2.2.2.2.2.2.2.1<;>first
  |exact .inl rfl
  |(simp only[pH];exact(Classical.em (0<=Qk c.2.2.2.1 f.2.1)).elim (λa=>by rw[if_pos a];exact .inr ⟨a,rfl⟩) (λa=>by rw[if_neg a];exact .inl rfl))
theorem Q0c(c:Zf)(f:Zh):(GH c f).2.2.2.2.2.2.2.2.2.2.2.2.2=c.2.2.2.2.2.2.2.2.2.2.2.2.2:=by
 unfold GH;cases f.1==(16:Int)<;>cases f.1==(18:Int)<;>cases f.1==(20:Int)<;>cases f.1==(22:Int)<;>cases f.2.2.2.2.2.2.2.2.1<;>first
  |rfl
  |(simp only[pH];split<;>rfl)
theorem Qpg(c:Zf)(f:Zh):(vH c f).2.2.2.2.2.2.2.2.2.2.2.2.2=c.2.2.2.2.2.2.2.2.2.2.2.2.2:=by
 unfold vH;cases ci c
 all_goals simp[Q0c]
theorem BZ(hl:c.2.2.2.1.length<=1000000)(f:Zh){x:Zj}(hx:x∈(vH c f).2.2.2.1):∃s∈c.2.2.2.1,x.1=s.1/\x.2.1=s.2.1/\x.2.2.2.1=s.2.2.2.1/\wR x=wR s:=by
 unfold vH at hx;cases hc:ci c
 ·grind
 ·rw[hc,pG]at hx;rcases Qph hl f with e|⟨a,e⟩
  ·grind
  ·rw[e]at hx;rcases Mk hx with h1|h1
   ·grind
   ·have b:=(uT hl f.2.1).1;refine⟨OU c f.2.1,Z5 (d:=Zc),?_⟩;simp_all[Qi1,Qdj,Qdi,Qrr]
theorem R6(h:Qa K c)(hK:K<=1000000)(f:Zh):Qa K (vH c f):=by
 have a:=h.str.len;refine⟨⟨?_,λx hx=>?_⟩,?_⟩
 ·unfold vH;cases ci c
  ·exact a
  ·rcases Qph (c:=c) Aa f with e|⟨-,e⟩
   all_goals simp_all
 ·obtain⟨s,b,-,d,g,-⟩:=BZ Aa f hx;have:=h.str.all s b;exact⟨by rw[d];exact this.snd,by rw[g];exact this.rcv⟩
 ·rw[show(vH c f).2.2.2.2.2.2.2.2.2.2.2.2.2.2.2.1=c.2.2.2.2.2.2.2.2.2.2.2.2.2.2.2.1 from congrArg (λz=>z.2.2.1) (Qpg c f)];exact h.pk
def HF:List Zh->Zf->List Zh->Int->Zf×List Zh×Int|[],c,fr,room=>(c,fr,room)|f::r,c,fr,room=>ite (gS f<=room) (HF r (vH c f) (fr++[f]) (Lb.wrap (room-gS f))) (HF r c fr room)
theorem C2{K:Nat}(hK:K<=1000000):∀(l:List Zh)(c:Zf)(fr:List Zh)(room:Int),Qa K c->Qa K (HF l c fr room).1
 |[],_,_,_,h=>h
 |f::r,c,fr,room,h=>by
  unfold HF;split
  ·exact C2 hK r _ _ _ (R6 h hK f)
  ·exact C2 hK r _ _ _ h
theorem Be{K:Nat}(hK:K<=1000000):∀(l:List Zh)(c:Zf)(fr:List Zh)(room:Int),Qa K c->G1 c->G1 (HF l c fr room).1
 |[],_,_,_,_,h=>h
 |f::r,c,fr,room,h,b=>by
  have d:=h.str.len;unfold HF;split
  ·exact Be hK r _ _ _ (R6 h hK f) λx hx=>by
    obtain⟨s,a,-,e,-,-⟩:=BZ Aa f hx;rw[e];exact b s a
  ·exact Be hK r _ _ _ h b
theorem DE:∀(l:List Zh)(c:Zf)(fr:List Zh)(room:Int),(HF l c fr room).1.2.2.2.2.2.2.2.2.2.2.2.2.2=c.2.2.2.2.2.2.2.2.2.2.2.2.2
 |[],_,_,_=>rfl
 |f::r,c,fr,room=>by
  unfold HF;split
  ·rw[DE r,Qpg]
  ·exact DE r _ _ _
theorem O1:∀(l:List Zh)(c:Zf)(fr:List Zh)(room:Int),(HF l c fr room).2.1<=fr+l.length
 |[],_,_,_=>by simp[HF]
 |f::r,c,fr,room=>by
  unfold HF;split
  ·have:=O1 r (vH c f) (fr++[f]) (Lb.wrap (room-gS f))
   grind
  ·have:=O1 r c fr room
   grind
theorem Uo:∀(n:Nat)(c:Zf)(fr:List Zh)(room:Int)(sk:List Int),(XX n c fr room sk).2.2.2.2.2.2.2.2.2.2.2.2.2.2.2=c.2.2.2.2.2.2.2.2.2.2.2.2.2.2
 |0,_,_,_,_=>rfl
 |n+1,c,fr,room,sk=>by
  unfold XX;split
  ·rfl
  ·generalize lK (YS c sk) (xR c)=id;cases (H0 c id room).2.1
   ·rw[pH,Uo n];rfl
   ·rw[pG];cases w0 c id (H0 c id room).1
    ·rfl
    ·rw[pG,Uo n];rfl
theorem r6:∀(n:Nat)(c:Zf)(fr:List Zh)(room:Int)(sk:List Int),(XX n c fr room sk).1<=fr+n
 |0,_,_,_,_=>by simp[XX]
 |n+1,c,fr,room,sk=>by
  unfold XX;split
  ·simp
  ·generalize lK (YS c sk) (xR c)=id;cases (H0 c id room).2.1
   ·rw[pH];have:=r6 n (Pu c id) fr room (sk++[id]);omega
   ·rw[pG];cases w0 c id (H0 c id room).1
    ·simp
    ·rw[pG];have:=r6 n (Ir c id (H0 c id room).1) (fr++[FG id (H0 c id room).1]) (Lb.wrap (room-gS (FG id (H0 c id room).1))) sk
     grind
theorem NM{K:Nat}(hK:K<=1000000):∀(n:Nat)(c:Zf)(fr:List Zh)(room:Int)(sk:List Int),Qa K c->Qa K (XX n c fr room sk).2
 |0,_,_,_,_,h=>h
 |n+1,c,fr,room,sk,h=>by
  have b:=h.str.len;unfold XX;split
  ·exact h
  ·rename_i d;have a:=AO (c:=c) Aa (sk:=sk) (last:=xR c);generalize lK (YS c sk) (xR c)=id at*
   cases (H0 c id room).2.1
   ·rw[pH];exact NM hK n _ _ _ _ (LC h hK a).2
   ·rw[pG];cases hm:w0 c id (H0 c id room).1
    ·exact h
    ·rw[pG];exact NM hK n _ _ _ _ (ER h hK hm)
theorem Br:∀(n:Nat)(c:Zf)(fr:List Zh)(room:Int)(sk:List Int),(∀f∈fr,RH f)-> ∀f∈(XX n c fr room sk).1,RH f
 |0,_,_,_,_,h=>h
 |n+1,c,fr,room,sk,h=>by
  unfold XX;split
  ·exact h
  ·generalize lK (YS c sk) (xR c)=id;cases (H0 c id room).2.1
   ·rw[pH];exact Br n _ _ _ _ h
   ·rw[pG];cases w0 c id (H0 c id room).1
    ·exact h
    ·rw[pG];refine Br n _ _ _ _ λf a=>?_
     grind[Te,RH]
theorem DJ:∀(l:List Zh)(c:Zf)(fr:List Zh)(room:Int),(∀f∈l,RH f)->(∀f∈fr,RH f)-> ∀f∈(HF l c fr room).2.1,RH f
 |[],_,_,_,_,h=>h
 |g::r,c,fr,room,b,h=>by
  unfold HF;split
  ·refine DJ r _ _ _ (λf a=>b f (Ls _ a)) λf a=>?_
   grind
  ·exact DJ r _ _ _ (λf a=>b f (Ls _ a)) h
def AY:Nat->Nat->List Int|0,_=>[]|m+1,n=>((n/256^m%256:Nat):Int)::AY m n
theorem Qdb:∀(m n:Nat),AY (m+1) n=AY m (n/256)++[((n%256:Nat):Int)]
 |0,n=>by simp[AY]
 |m+1,n=>by
  rw[AY,Qdb m n,AY,Nd,Nat.pow_succ,Nat.mul_comm 256];rfl
theorem Qwa{n:Nat}(h:n<9223372036854775808):bits .and .i64 (n:Int) 255=((n%256:Nat):Int):=by
 have e:bits .and .i64 (n:Int) 255=Lb.wrap (((Lj 64 (n:Int)&&&Lj 64 255).toNat:Nat):Int):=rfl;have a:(Lj 64 (n:Int)).toNat=n:=Ai
 have b:(Lj 64 255).toNat=255:=rfl;rw[e,M2,a,b,show(255:Nat)=2^8-1 from rfl,Nc,Zs]
theorem Qvb:∀k:Fin 64,(bits .or .i64 (k.val:Int) 64=(k.val:Int)+64/\bits .or .u8 (k.val:Int) 64=(k.val:Int)+64)/\(bits .or .i64 (k.val:Int) 128=(k.val:Int)+128/\bits .or .u8 (k.val:Int) 128=(k.val:Int)+128)/\bits .or .i64 (k.val:Int) 192=(k.val:Int)+192/\bits .or .u8 (k.val:Int) 192=(k.val:Int)+192:=Ah
theorem shQ(n:Nat)(h:n<9223372036854775808){m:Nat}(hm:m<=7):bits .and .i64 ((n:Int).fdiv (2^ (min (Lb.wrap ((8:Int)*(m:Int))).toNat Lb.bits))) 255=((n/256^m%256:Nat):Int):=by
 have e:min (Lb.wrap ((8:Int)*(m:Int))).toNat Lb.bits=8*m:=by
  rw[Zs,show Lb.bits=64 from rfl];omega
 have a:(n:Int).fdiv (2^ (8*m))=((n/256^m:Nat):Int):=by
  rw[M6 _ Ai,show(256:Nat)=2^8 from rfl,<-Nat.pow_mul]
  norm_cast
 rw[e,a,Qwa (Nat.lt_of_le_of_lt (Nat.div_le_self _ _) h)]
theorem Qun{n:Nat}(h:n<256):fe (n:Int)=K2 (Qb [(n:Int)],()):=by grind[Quo,UG]
theorem Qn3(n k:Nat)(h:n<9223372036854775808)(hk:k<=8):∀(N m:Nat)(s:Ba),m<N->m<k->s.length+m<=8->Qw N (n:Int) (k:Int) s ((m:Int)-1)=K2 (s++Qb (AY m n),())
 |0,_,_,h,_,_=>Aa
 |N+1,0,s,_,_,a=>by
  simp_all[Qw,AY,Qb]
 |N+1,m+1,s,d,e,a=>by
  unfold Qw;have b:((m+1:Nat):Int)-1=(m:Int):=Aa
  rw[b,Zl (Zk),Zb Al];simp only[shQ n h (m:=m) Aa];have c:((m:Int)==Lb.wrap ((k:Int)-1))=false:=Al
  rw[c,pH];unfold Yv;rw[Qun Aa,pA,Zb (by grind[Z6,Qb]),Zs];refine Ln (Qn3 n k h hk N m (s++Qb [((n/256^m%256:Nat):Int)]) Aa Aa (by grind[Qb])) ?_;rw[Mq];rfl
theorem Qy8(n:Nat):L4.wrap (n:Int)=((n%256:Nat):Int):=by rfl
theorem Qn0(k:Int):∀(m N n:Nat)(out:List Int),m<=out.length->out.length<=8->Kd (N+m) (n:Int) k out ((m:Int)-1)=Kd N ((n/256^m:Nat):Int) k (AY m n++out.drop m) (-1)
 |0,N,n,out,_,_=>by simp[AY]
 |m+1,N,n,out,e,a=>by
  rw[show N+(m+1)=(N+m)+1 from rfl,Kd];have b:((m+1:Nat):Int)-1=(m:Int):=Aa
  have c:(n:Int).fdiv (2^ (min (8:Int).toNat Lb.bits))=((n/256:Nat):Int):=by
   rw[M6 _ Ah];rfl
  rw[b,Zl (Zk),Zb,Zb,c,Zs,Qn0 k m N (n/256) _ Ae (by simpa using a),Qdb,Nd,Nat.pow_succ,Nat.mul_comm 256];have f:(out.set (m:Int).toNat (L4.wrap (n:Int))).drop m=((n%256:Nat):Int)::out.drop (m+1):=by
   rw[Qx (d:=0) Ae]
   grind[Qy8,List.drop_set]
  simp_all
def OH(k:Nat):Nat:=ite (k=2) 64 (ite (k=4) 128 (ite (k=8) 192 0))
def i1(k n:Nat):Ba:=Qb (((n/256^ (k-1)+OH k:Nat):Int)::AY (k-1) n)
def Ux(k n:Nat):Prop:=(k=1/\n<64)\/(k=2/\n<16384)\/(k=4/\n<1073741824)\/(k=8/\n<4611686018427387904)
theorem Qvz{k n:Nat}(h:Ux (k+1) n):n/256^k<64:=by rw[Nat.div_lt_iff_lt_mul (Nat.pos_of_ne_zero Ac)];rcases h with⟨e,h⟩|⟨e,h⟩|⟨e,h⟩|⟨e,h⟩<;>(have:k=_:=M0 e)<;>subst this<;>omega
theorem Qzy{k n:Nat}(h:Ux (k+1) n):Qw (k+2) (n:Int) ((k+1:Nat):Int) [] (k:Int)=K2 (i1 (k+1) n,()):=by
 have c:k<=7:=by rcases h with⟨e,h⟩|⟨e,h⟩|⟨e,h⟩|⟨e,h⟩<;>omega
 have a:n<9223372036854775808:=by rcases h with⟨e,h⟩|⟨e,h⟩|⟨e,h⟩|⟨e,h⟩<;>omega
 have d:=Qvz h;have o:=Qvb ⟨n/256^k,d⟩;simp only at o;rw[Qw,Zl (Zk),Zb Al];simp only[shQ n a c,Nf (show n/256^k<256 by omega)];have f:((k:Int)==Lb.wrap (((k+1:Nat):Int)-1))=true:=Al
 rw[f,pG,o.1.1,o.2.1.1,o.2.2.1];have j:∀b:Nat,b<256->b=n/256^k+OH (k+1)->Yv (λv=>Qw (k+1) v.1 v.2.1 v.2.2.1 v.2.2.2.1) (n:Int) ((k+1:Nat):Int) [] (k:Int) (b:Int)=K2 (i1 (k+1) n,()):=λb g e=>by
  unfold Yv;rw[Qun g,pA,Zb (by simp[Z6,Qb]),Zs];refine Ln (Qn3 n (k+1) a Aa (k+1) k ([]++Qb [(b:Int)]) Aa Aa (by grind[Qb])) ?_;rw[e];rfl
 rcases h with⟨e,h⟩|⟨e,h⟩|⟨e,h⟩|⟨e,h⟩<;>(have:k=_:=M0 e)<;>subst this
 all_goals grind[OH]
theorem Q1w{k n:Nat}(h:Ux (k+1) n):Kd (k+2) (n:Int) ((k+1:Nat):Int) (Ml (k+1) 0) (k:Int)=K2 (i1 (k+1) n,()):=by
 have b:k<=7:=by rcases h with⟨e,h⟩|⟨e,h⟩|⟨e,h⟩|⟨e,h⟩<;>omega
 have a:=Qvz h;have o:=Qvb ⟨n/256^k,a⟩;simp only at o;have e:=Qn0 ((k+1:Nat):Int) (k+1) 1 n (Ml (k+1) 0) Ac Ae;rw[show 1+(k+1)=k+2 by omega,show((k+1:Nat):Int)-1=(k:Int) by omega,L8 Ac,M7]at e;rw[e,Kd,Zo Ah];rw[AY,Nf (show n/256^k<256 by omega)];unfold i1 cE;rw[show(0:Int).toNat=0 from rfl,Mu,My,My,My,o.1.2,o.2.1.2,o.2.2.2];simp only[Zb (show(0:Int)<=0/\(0:Int)<((((n/256^k:Nat):Int)::AY k n).length:Int) by simp)];rcases h with⟨e,h⟩|⟨e,h⟩|⟨e,h⟩|⟨e,h⟩<;>(have:k=_:=M0 e)<;>subst this<;>rfl
theorem Q0s(n:Int):Yz n=Wg n:=by
 unfold Yz Wg;rw[szI,Re,pA,pA];have a:∀(k:Nat)(m:Nat),n=(m:Int)->Dk n=((k+1:Nat):Int)->Ux (k+1) m->(Zd (0<=Dk n/\Dk n<=Dk n/\Dk n<=Qd) (Kd (cW n (Dk n) (Ml (Dk n).toNat (0:Int)) (Lb.wrap (Dk n- (1:Int)))) n (Dk n) (Ml (Dk n).toNat (0:Int)) (Lb.wrap (Dk n- (1:Int)))))=Qw (Vo n (Dk n) ([]:Ba) (Lb.wrap (Dk n- (1:Int)))) n (Dk n) ([]:Ba) (Lb.wrap (Dk n- (1:Int))):=λk m b c hk=>by
  have i:k<=7:=by rcases hk with⟨e,h⟩|⟨e,h⟩|⟨e,h⟩|⟨e,h⟩<;>omega
  rw[Zb Aj,c,Zs,b,show((k+1:Nat):Int)-1=(k:Int) by omega];unfold cW Vo;rw[show((k:Int)-0).toNat+2=k+2 by omega,Qzy hk];exact Q1w hk
 by_cases h:0<=n/\n<=4611686018427387903
 ·obtain⟨m,rfl⟩:=Lu h.1;have:(Dk (m:Int)==0)=false:=by unfold Dk;grind
  rw[this,pH];by_cases d:m<64
  ·exact a 0 m rfl (by unfold Dk;grind) (.inl ⟨rfl,d⟩)
  ·by_cases f:m<16384
   ·exact a 1 m rfl (by unfold Dk;grind) (.inr (.inl ⟨rfl,f⟩))
   ·by_cases g:m<1073741824
    ·exact a 3 m rfl (by unfold Dk;grind) (.inr (.inr (.inl ⟨rfl,g⟩)))
    ·exact a 7 m rfl (by unfold Dk;grind) (.inr (.inr (.inr ⟨rfl,Aa⟩)))
 ·have:Dk n=0:=by unfold Dk;grind
  rw[this];rfl
def qV(n:Int):Ba:=match Wg n with|some (s,_)=>s|none=>[]
theorem Tq(n:Int):Wg n=K2 (qV n,())/\(qV n)=Dk n:=by obtain⟨⟨y,u⟩,e,a⟩:=enS n;simp_all[qV]
theorem Rc(n:Int):Yz n=K2 (qV n,()):=by simp[Q0s,Tq]
theorem SH(h0:0<=k)(h1:k<64):X6 k=K2 (qV k,()):=by
 obtain⟨m,rfl⟩:=Lu h0;have h1:m<64:=Aa
 have e:=(Tq (m:Int)).1;unfold Wg at e;rw[Re,pA,Qvp Aa Aa]at e;have a:=Qzy (k:=0) (n:=m) (.inl ⟨rfl,h1⟩);rw[show Vo (m:Int) 1 ([]:Ba) (Lb.wrap (1-1))=2 from rfl]at e;have b:=a.symm.trans e
 grind[X6,UG,i1,OH,AY]
theorem Qx7(ha:a.length<=10000)(hb:b.length<=10000):a+b<=Z6:=Ak
def DS(l:List Int):Ba:=l.flatMap qV
theorem BC(n:Int):(qV n).length<=8:=by have:=(Tq n).2;have:=yw n;omega
theorem Qvo(l:List Int)(hl:l.length<=1000)(hq:∀x∈l,fq x=K3):∀(N i:Nat)(s:Ba),l-i<N->i<=l->s<=8*i->Vb N l s (i:Int)=K2 (s++DS (l.drop i),())/\bo N s l l (i:Int)=K2 (s++DS (l.drop i),())
 |0,_,_,h,_,_=>Aa
 |N+1,i,s,j,k,n=>by
  unfold Vb gG bo;by_cases a:i<l
  ·have b:=hq _ (Z5 (d:=0) a);rw[Zl (Zk),Zl (Zk),Zb,Zb,show(i:Int).toNat=i from rfl,Qx (d:=0) a];generalize l.getD i 0=x at*
   have o:=Qj6 b;have hv:=BC x;have e:(Dk x==0)=false:=Ae
   obtain⟨f,g⟩:=Qvo l hl hq N (i+1) (s++qV x) Aa Aa Ai;have c:s+(qV x)<=Z6:=Qx7 Aa Aa;rw[Re,pA,A5,pA,b,e,pH,pI,pH,Zb,Rc,(Tq x).1,pA,pA,Zb c,Zb c,Zr (m:=l),f,g];simp[DS]
  simp_all[Zm,L8,DS]
theorem qY{l:List Int}(hl:l.length<=1000)(hq:∀x∈l,fq x=K3):Xx l=K2 (DS l,())/\aY l=K2 (DS l,()):=by obtain⟨a,b⟩:=Qvo l hl hq (l+1) 0 [] Aa Aa Ac;exact⟨a,b⟩
theorem De(h:a.length<=1000)(h2:b.length<=1000):a+b<=Z6:=Ak
theorem Qs9(l:List Int):(DS l)<=8*l.length:=by
 induction l with
 |nil=>simp[DS]
 |cons x r a=>
  grind[BC,DS]
theorem Qw5(h:RH f):fZ f=Wj f:=by
 have w:=h;unfold RH at w;unfold fZ Wj;rw[zf _,uK _,pA,pA];cases hf:Ym f
 ·rfl
 ·have F:=gm hf;have s:∀{n:Int},0<=n->n<64->fq n=true:=λa b=>fg a;have d:∀(k:Int)(l:List Int),0<=k->k<64->l.length<=4->(∀x∈l,fq x=K3)->(Ld (X6 k) λt=>Ld (aY l) λq=>Zd (t.1.length+q.1.length<=Z6)<|some (t.1++q.1,()))=Ld (Xx (k::l)) λt=>K2 (t.1,()):=λk l m o A y=>by
   have a:=BC k;have b:=Qs9 l;have z:(qV k).length+(DS l).length<=Z6:=De Aa Aa;rw[SH m o,(qY Aa y).2,(qY (l:=k::l) Ae Af).1,pA,pA,pA,Zb z];rfl
  have c:∀(k n:Int),0<=k->k<64->fq n=K3->(Ld (X6 k) λt=>Ld (Yz n) λq=>Zd (t.1.length+q.1.length<=Z6)<|some (t.1++q.1,()))=Ld (Xx [k,n]) λt=>K2 (t.1,()):=λk n m o p=>by
   rw[<-d k [n] m o Ac (by simpa using p),(qY (l:=[n]) Ac (by simpa using p)).2,Rc];simp[DS]
  simp only[pI,pH,Xm];rcases F.kind with e|e|e|e|e|e|e|e|e
  ·rw[e];exact d _ _ Ah Ah Ac (PT F.st F.code F.fin)
  ·rw[e];exact d _ _ Ah Ah Ac (VM F.st F.code)
  ·have u:=F.len;have v:fq (f.2.2.2.1.length:Int)=true:=fg;have j:∀k:Int,0<=k->k+4<64->(Ld (X6 (cond (f.2.2.1 !=0) (k+4) k)) λg=>Ld (Yz f.2.1) λi=>Zd (g.1.length+i.1.length<=Z6)<|cond (f.2.2.1 !=(0:Int)) (Ld (Yz f.2.2.1) λr=>Zd ((g.1++i.1).length+r.1.length<=Z6)<|Wn f ((g.1++i.1)++r.1)) (Wn f (g.1++i.1)))=Wq f k:=λk m o=>by
    unfold Wq Wn;have B:=BC k;have C:=BC (k+4);have D:=BC f.2.1;have E:=BC f.2.2.1;have G:=BC (f.2.2.2.1.length:Int)
    rw[Rc,Rc,Rc];cases hz:f.2.2.1==0
    ·have p:(f.2.2.1 !=0)=true:=by simp[bne,hz]
     simp only[p,pG,pH];rw[Zs (n:=k+4),SH Aa o,(qY Ac (P8 (s (n:=k+4) Aa o) F.st F.off v)).1];simp only[pA]
     grind(splits:=20)[Zb,De,DS]
    ·have p:(f.2.2.1 !=0)=false:=by simp[bne,hz]
     simp only[p,pG,pH];rw[SH m Aa,(qY Ac (PT (s m Aa) F.st v)).1];simp only[pA]
     grind[Zb,De,DS]
   rw[e];simp only[Le,pH,pG];cases f.2.2.2.2.1
   ·rw[pH,<-j 10 Ah Ah];cases f.2.2.1 !=0<;>rfl
   ·rw[pG,show Lb.wrap ((10:Int)+1)=11 from rfl,<-j 11 Ah Ah];cases f.2.2.1 !=0<;>rfl
  ·rw[e];unfold Xv Xl;rw[e];exact c _ _ Ah Ah F.lim
  ·rw[e];unfold Xv Xl Kl Y2;rw[e,Xm];exact d 17 _ Ah Ah Ac (VM F.st F.lim)
  ·rw[e];unfold Xv Xl Kl Y2 Wr;rw[e];cases f.2.2.2.2.2.2.2.2.1
   ·exact c 18 _ Ah Ah F.lim
   ·exact c 19 _ Ah Ah F.lim
  ·rw[e];unfold Xv Xl;rw[e];exact c _ _ Ah Ah F.lim
  ·rw[e];unfold Xv Xl Kl Y2;rw[e,Xm];exact d 21 _ Ah Ah Ac (VM F.st F.lim)
  ·rw[e];unfold Xv Xl Kl Y2 Wr;rw[e];cases f.2.2.2.2.2.2.2.2.1
   ·exact c 22 _ Ah Ah F.lim
   ·exact c 23 _ Ah Ah F.lim
def IV(l:List Zh):Ba:=match cL l with|some (s,_)=>s|none=>[]
theorem Q0k{l:List Zh}(h:Ep l):cL l=K2 (IV l,()):=by obtain⟨y,e,-⟩:=Qn1 h;simp_all[IV]
theorem Qer{l:List Zh}(h:Ep l):∀(N i:Nat)(s:Ba),l-i<N->i<=l->400<s.length->s<=1100*(i+1)->Yp N l s (i:Int)=K2 ([],())
 |0,_,_,h,_,_,_=>Aa
 |N+1,i,s,b,c,f,g=>by
  have j:=h.1;unfold Yp;by_cases a:i<l
  ·obtain⟨y,e,k⟩:=DC (h.2 _ (Z5 (d:=Qe) a));rw[Zl (Zk),Zb,show(i:Int).toNat=i from rfl,e,pA];cases y.1==[]
   ·rw[pH,Zb Ak,Zr a];exact Qer h N (i+1) _ Aa Aa Ae Ae
   ·rfl
  grind
theorem Qve{l:List Zh}(h:Ep l):∀(N i:Nat)(s:Ba),l-i<N->i<=l->s.length<=400->fK N s l l (i:Int)=Yp N l s (i:Int)
 |0,_,_,h,_,_=>Aa
 |N+1,i,s,g,j,k=>by
  have m:=h.1;rw[fK,Yp];by_cases b:i<l
  ·have a:=h.2 _ (Z5 (d:=Qe) b);obtain⟨y,e,n⟩:=PW a;rw[Zl (Zk),Zl (Zk),Zb,Zb,show(i:Int).toNat=i from rfl,zf _ Ap,pA,Qw5 a,e,pA,pA];cases hk:Ym (l.getD i Qe)
   ·simp_all[gS]
   ·have o:=Us hk;have c:(y.1==[])=false:=Ai
    have p:y.1.length<=1100:=by
     obtain⟨z,q,r⟩:=DC a;simp_all
    rw[c,pI,pH,pH,Zb Ak,Zb Ak,Zr b];by_cases f:(s++y.1).length<=400
    ·rw[Zo (Zm),Qve h N (i+1) _ Aa Aa f]
    ·rw[Zl (Zk),Qer h N (i+1) _ Aa Aa Aa Ae]
  grind
theorem Q16{l:List Zh}(h:Ep l):XD l=K2 (IV l,()):=by rw[<-Q0k h];exact Qve h _ 0 [] (by simp[d8,mw]) Aa Ac
def IU(c:Zf)(b:Int):Bool:=((ci c&& !(c.2.2.2.2.2.2.2.2.2.2.2.2.2.2.2.2.2.1 !=(0:Int)))&&PF b 1 400)&& !La (IM c>=1000000)
def Rd(c:Zf)(b:Int):Zf×List Zh×Int:=HF (ga c) c [] b
def GL(c:Zf)(b:Int):List Zh×Zf:=XX 200 (Rd c b).1 (Rd c b).2.1 (Rd c b).2.2 []
abbrev Q1q(x:Zf)(n:Int)(fr:List Zh):Zf:=(x.1,x.2.1,x.2.2.1,x.2.2.2.1,x.2.2.2.2.1,x.2.2.2.2.2.1,x.2.2.2.2.2.2.1,x.2.2.2.2.2.2.2.1,x.2.2.2.2.2.2.2.2.1,x.2.2.2.2.2.2.2.2.2.1,x.2.2.2.2.2.2.2.2.2.2.1,x.2.2.2.2.2.2.2.2.2.2.2.1,x.2.2.2.2.2.2.2.2.2.2.2.2.1,x.2.2.2.2.2.2.2.2.2.2.2.2.2.1,n+1,x.2.2.2.2.2.2.2.2.2.2.2.2.2.2.2.1++[(n,fr,())],x.2.2.2.2.2.2.2.2.2.2.2.2.2.2.2.2)
def TP(c:Zf)(b:Int):Int:=cond (IU c b) (cond (((GL c b).1:Int)==0) (-1) (IM c)) (-1)
def OS(c:Zf)(b:Int):Zf:=cond (IU c b) (cond (((GL c b).1:Int)==0) (GL c b).2 (Q1q (GL c b).2 (IM c) (GL c b).1)) c
def LK(c:Zf)(b:Int):Ba:=cond (IU c b) (cond (((GL c b).1:Int)==0) [] (IV (GL c b).1)) []
theorem O2(h:Qa K c)(hK:K<=1000000)(b:Int):Qa K (Rd c b).1:=C2 hK _ _ _ _ h
theorem jB(h:Qa K c)(hK:K<=1000000)(b:Int):Qa K (GL c b).2:=NM hK _ _ _ _ _ (O2 h hK b)
theorem Qi5(h:Qa K c)(hK:K<=100000)(b:Int):(Rd c b).2.1<=4*K+6:=by
 have:=O1 (ga c) c [] b;have:=Qiu c;have:=h.str.len
 grind[Rd]
theorem Qrw(c:Zf)(b:Int):∀f∈(GL c b).1,RH f:=Br _ _ _ _ _ (DJ _ _ _ _ (λf a=>by grind[RH,Tj]) (λf a=>by cases a))
theorem Qyo(hc:ew c):c.2.2.2.1.length<=24:=(NZ.1 hc.sts).len
theorem E9(h:Qa K c)(hK:K<=1000000):(ga c).length<=102:=by grind[Qiu,Qyo,BK,ga]
theorem Qrx(h:Qa K c)(hK:K<=1000000)(b:Int):(GL c b).1.length<=302:=by grind(splits:=20)[r6,Rd,O1,E9,GL]
theorem IX(h:Qa K c)(hK:K<=1000000)(b:Int):Ep (GL c b).1:=⟨by grind[Qrx],Qrw c b⟩
theorem Qrv(h:Qa K c)(hK:K<=1000000)(b:Int):Qa (K+1) (OS c b):=by
 unfold OS;have e:=jB h hK b;cases IU c b
 ·exact h.mono Aa
 ·rw[pG];cases ((GL c b).1:Int)==0
  ·rw[pH];refine⟨e.str.mono Aa,?_,λp hp=>?_⟩
   ·have:=e.pk.1;simp_all
   ·rcases L1.1 hp with hp|hp
    ·exact e.pk.2 p hp
    grind[IX]
  ·exact e.mono Aa
theorem Qwq(c:Zf)(b:Int):IM (GL c b).2=IM c:=by have a:=Uo 200 (Rd c b).1 (Rd c b).2.1 (Rd c b).2.2 [];have d:=DE (ga c) c [] b;exact(congrArg (λz=>z.1) a).trans (congrArg (λz=>z.2.1) d)
theorem qD{K:Nat}(hK:K<=90000)(c0 t:Zf):∀(N:Nat)(l:List Zh)(i:Nat)(x:Zf)(fr:List Zh)(room:Int),l-i<N->i<=l->l.length<=500000->(∀f∈l,RH f)->Qa K x->fr<=i->
  Ke N c0 t x fr room l (i:Int)=Ke 1 c0 t (HF (l.drop i) x fr room).1 (HF (l.drop i) x fr room).2.1 (HF (l.drop i) x fr room).2.2 l l
 |0,_,_,_,_,_,h,_,_,_,_,_=>Aa
 |N+1,l,i,x,fr,room,k,m,g,b,hx,j=>by
  by_cases c:i<l
  ·have e:=b _ (Z5 (d:=Qe) c);rw[Ke,Zl (Zk),Zb,show(i:Int).toNat=i from rfl,Sl e,pA,Qx (d:=Qe) c,HF];unfold gv;rw[Zr c];by_cases a:gS (l.getD i Qe)<=room
   ·rw[Zl (Zk a),if_pos a,Zb,pA,Zb,mkE hx Aa,pA,Zb,Zb Aj];exact qD hK c0 t N l (i+1) (vH x (l.getD i Qe)) (fr++[l.getD i Qe]) _ Aa Aa g b (R6 hx Aa _) Ae
   ·rw[Zo (Zm a),if_neg a];exact qD hK c0 t N l (i+1) x fr room Aa Aa g b hx Aa
  simp_all[Ly,HF,Ke,Zm]
theorem Qzv(h:Qa K c)(hK:K<=80000)(b:Int):kr c b=K2 ((LK c b,TP c b,OS c b,()),()):=by
 unfold kr gH;rw[Yn h,pA,YJ h,pA];simp only[Uk,bO,Ur];have g:(((!(ci c&& !(c.2.2.2.2.2.2.2.2.2.2.2.2.2.2.2.2.2.1 !=(0:Int))))|| !PF b 1 400)||La (IM c>=1000000))= !IU c b:=by
  simp_all[IU]
 rw[g];unfold TP OS LK;cases hg:IU c b
 ·simp_all
 ·simp only[pI,pH,pG];have i:ew c:=(BK h).1 Af;have a:=i.num;rw[Qzo h,pA];have d:=qD (K:=K) Aa c Xh (dm c Xh c [] b (ga c) 0) (ga c) 0 c [] b (by simp[dm]) Aa (by grind[E9]) (λf l=>by grind[RH,Tj]) h Ac;rw[Mr,Ma]at d;rw[d,Ke,Zo (Zm)];have j:=O2 h Aa b;have k:=Qi5 h Aa b;have e:zu (Rd c b).1 (Rd c b).2.1 (Rd c b).2.2=K2 (((GL c b).1,()),(GL c b).2,()):=by
   unfold zu;exact Qu1 (K:=K) Aa 200 _ 0 _ _ _ _ Aa (by simp[pi]) j Aa Ac
  unfold Rd at e;rw[e,pA];cases hz:(((GL c b).1.length:Int)==0)
  ·simp only[pH];have m:=(jB h Aa b).pk.1
   grind(splits:=20)[Zb,Qd,Q0k,IX,Zs]
  simp_all
def HI(l:List Zh)(c:Zf):Prop:= ∀f∈l,f.1=17-> ∀s∈c.2.2.2.1,s.1=f.2.1->wR s=K3
theorem Qxw{l:List Zh}(h:HI l c)(hl:c.2.2.2.1.length<=1000000)(f:Zh):HI l (vH c f):=λg b a x hx e=>by
 obtain⟨s,d,j,-,-,i⟩:=BZ hl f hx;rw[i];exact h g b a s d Aa
theorem F9{K:Nat}(hK:K<=90000)(t:Zf)(sk:List Int):∀(N:Nat)(l:List Zh)(i:Nat)(x:Zf)(fr:List Zh)(room:Int),l-i<N->i<=l->l.length<=500000->(∀f∈l,RH f)->HI l x->Qa K x->fr<=i->
  Vy N t x fr sk room l l (i:Int)=Vy 1 t (HF (l.drop i) x fr room).1 (HF (l.drop i) x fr room).2.1 sk (HF (l.drop i) x fr room).2.2 l l l
 |0,_,_,_,_,_,h,_,_,_,_,_,_=>Aa
 |N+1,l,i,x,fr,room,n,o,j,c,e,hx,k=>by
  have m:=hx.str.len;by_cases a:i<l
  ·have g:=c _ (Z5 (d:=Qe) a);rw[Vy,Zl (Zk),Zb,show(i:Int).toNat=i from rfl,qS g,pA,Qx (d:=Qe) a,HF,Zr a];by_cases b:gS (l.getD i Qe)<=room
   ·rw[Zl (Zk b),if_pos b,Zb Aj,Qbj hx Aa _ (e _ (Z5 (d:=Qe) a)),pA];exact F9 hK t sk N l (i+1) (vH x (l.getD i Qe)) (fr++[l.getD i Qe]) _ Aa Aa j c (Qxw e Aa _) (R6 hx Aa _) Ae
   ·rw[Zo (Zm b),if_neg b];exact F9 hK t sk N l (i+1) x fr room Aa Aa j c e hx Aa
  simp_all[Ly,HF,Vy,Zm]
theorem Qzu(h:Qa K c)(hK:K<=80000)(b:Int):ZT c b=K2 ((LK c b,TP c b,OS c b,()),()):=by
 unfold ZT gH;rw[Wh h,pA,J' h,YJ h,pA];simp only[bL,bO,Ur];have l:(((!(ci c&& !(c.2.2.2.2.2.2.2.2.2.2.2.2.2.2.2.2.2.1 !=(0:Int))))|| !(La (b>=1)&&La (b<=400)))||(IM c==1000000))= !IU c b:=by
  unfold IU PF;by_cases m:ci c=K3
  ·have:=((BK h).1 m).num
   grind
  simp_all
 rw[l];unfold TP OS LK;cases hg:IU c b
 ·simp_all
 ·simp only[pI,pH,pG];have e:ew c:=(BK h).1 Af;have g:=e.num;rw[Z3j h Aa,Qzo h,pA];have a:G1 c:=λs n=>(e.st h Aa n).snd.st.1;have i:=F9 (K:=K) Aa Xh [] (jz Xh c [] [] b (ga c) ((ga c).length:Int) 0) (ga c) 0 c [] b (by simp[jz]) Aa (by grind[E9]) (λf j=>by grind[RH,Tj]) (λf j=>Qzm h Aa j) h Ac;rw[Mr,Ma]at i;rw[i,Vy,Zo (Zm)];have o:=O2 h Aa b;have p:=Qi5 h Aa b;have k:ap (j0 Xh (Rd c b).1 (Rd c b).2.1 [] (Rd c b).2.2 0) Xh (Rd c b).1 (Rd c b).2.1 [] (Rd c b).2.2 0=cD Xh (GL c b).2 (GL c b).1:=Qu0 (K:=K) Aa Xh 200 _ 0 _ _ _ _ Aa (by simp[j0]) o (Be (K:=K) Aa _ _ _ _ h a) Aa Ac;unfold Rd at k;rw[k];unfold cD;have d:=Qwq c b;cases hz:(((GL c b).1.length:Int)==0)
  ·simp only[pH];have r:=(jB h Aa b).pk.1;rw[Zb Aj];rw[Q16 (IX h Aa b),pA];have q:(GL c b).2.2.2.2.2.2.2.2.2.2.2.2.2.2.2.1=c.2.2.2.2.2.2.2.2.2.2.2.2.2.2.1:=d
   grind(splits:=20)[Zs]
  simp_all
def LE(n:Int):List Qf->Qf×Bool×Unit|[]=>(((0:Int),([]:List Zh),()),Lc,())|p::r=>ite (p.1=n) (p,K3,()) (LE n r)
theorem Qvg(h:Qa K c)(hK:K<=1000000)(n:Int):qn c n=K2 (LE n c.2.2.2.2.2.2.2.2.2.2.2.2.2.2.2.1):=by
 have f:=h.pk.1;have g:∀(t:Qf)(N i:Nat),c.2.2.2.2.2.2.2.2.2.2.2.2.2.2.2.1-i<N->i<=c.2.2.2.2.2.2.2.2.2.2.2.2.2.2.2.1->ig N n c t (i:Int)=K2 (LE n (c.2.2.2.2.2.2.2.2.2.2.2.2.2.2.2.1.drop i)):=by
  intro t N
  induction N with
  |zero=>intro i h;omega
  |succ N b=>
   intro i j k;unfold ig gG gK;by_cases a:i<c.2.2.2.2.2.2.2.2.2.2.2.2.2.2.2.1
   ·have l:=(h.pk.2 _ (Z5 (d:=Q8) a)).1;rw[Zl (Zk),Zb,show(i:Int).toNat=i from rfl,Qx (d:=Q8) a,LE];by_cases e:(c.2.2.2.2.2.2.2.2.2.2.2.2.2.2.2.1.getD i Q8).1=n
    ·rw[Zl (by simpa using e),if_pos e,Zb,Zb Aj,<-e,Mc]
    ·rw[Zo (beq_false_of_ne e),if_neg e,Zr a,b (i+1) Aa Aa]
   ·rw[Zo (Zm),Ly Aa];rfl
 grind[qn,nc]
theorem Fp{l:List Qf}(h:P0 K l)(n:Int):(LE n l).1.2.1.length<=1000:=by
 obtain⟨-,h⟩:=h
 induction l with
 |nil=>simp[LE]
 |cons p r a=>
  unfold LE;split
  ·exact(h p L2).1
  simp_all
theorem Qfw(d:Ba)(r t:Xc)(n:Int):∀(N:Nat)(x:Xc)(i:Int),x.2.2.1=r.2.2.1->oE N d r t x n n i=Jr N d r t x n i
 |0,_,_,_=>rfl
 |N+1,x,i,h=>by
  rw[oE,Jr,h];cases La (i<n)
  ·rfl
  ·simp only[pG];congr 1;congr 1;congr 1;exact Qfw d r t n N _ _ rfl
theorem Z76(r:Xc)(hl:r.2.2.2.1.length<=1048576):lJ r=K2 (r,()):=by grind[lJ,Zb,Qd]
theorem Q0u(r:Xc)(hl:r.2.2.2.1.length<=1048576):MU r=yF r:=by simp_all[MU,yF,O3]
theorem Qt9(r:Xc)(d:Ba)(hl:r.2.2.2.1.length<=1048576):KN r d=jl r d:=by unfold KN jl;rw[Z76 r hl,Er r hl,Q0u r hl];simp only[pA,Xm,X5];congr 1;funext t;unfold xD;rw[Int.min_comm];exact Qfw d r BQ _ _ _ _ rfl
theorem GO(F:Uj s):0<=s.1:=by
 by_cases h:s.1=4\/s.1=5
 ·omega
 ·have:=(F.no h).st;simp_all[C3]
theorem Qq8(l:List Zi)(a:Int)(hl:l.length<=1048576):iy l (a,a,())=K2 (l,()):=by simp_all[eX,kd]
theorem Qzc{K:Int}(h:Wt K s)(d:Ba)(hK:K+d.length<=1000000):rN s d=dC s d:=by
 have b:=h.e0;have f:=h.cells;have a:=h.eK;have i:=Q0 h.pend b a;unfold rN dC tN ZC;rw[tl h,xd h,zi h,lg h,Qt9 s.2.1 d Aa];simp only[pA];cases hb:j4 s
 ·rfl
 have F:=(R7 h Aa).1 hb;have e:(!((K3&&((s.1==(0:Int))||(s.1==(1:Int))))&&(s.2.2.2.2.2.1==(-1:Int))))=(((!K3)||(La (s.1>(1:Int))))||(s.2.2.2.2.2.1 !=(-1:Int))):=by
  have:=GO F;rw[Md];simp;omega
 rw[e];cases (((!K3)||(La (s.1>(1:Int))))||(s.2.2.2.2.2.1 !=(-1:Int)))
 ·obtain⟨j,n,g,k,l,m⟩:=Z9s s.2.1 d Aa Aa b;simp only[pH,g,pA];rw[Zs (n:=s.2.1.2.2.1+(n:Int))];by_cases c:(n:Int)>0
  ·rw[Zl (Zk c),eX _ _,og _ _];rfl
  ·obtain rfl:n=0:=Aa
   rw[Zo (Zm c)];simp only[Ma,Int.add_zero];rw[Qq8 _ _ Aa];rfl
 ·rfl
theorem Qco(h:Qa K c)(id:Int)(d:Ba)(hK:K+d.length<=490000):zd c id d=bh c id d:=by
 have b:c.2.2.2.1.length<=1000000:=by have:=h.str.len;omega
 obtain⟨o,q,k⟩:=uT b id;unfold zd gA gG gJ tD tR bh tD tR;rw[Wh h,Yn h,xX b,VB b,J' h,YJ h,eW h Aa];simp only[pA,Xm,X5];generalize (ci c&& !(c.2.2.2.2.2.2.2.2.2.2.2.2.2.2.2.2.2.1 !=(0:Int)))=u;by_cases a:0<=Qk c.2.2.2.1 id
 ·have f:0<=Qk c.2.2.2.1 id/\Qk c.2.2.2.1 id<c.2.2.2.1.length:=⟨a,Aa⟩
  rw[Zb (by intros;exact f),Zb (by intros;exact f),Zb f,if_pos a,Zm];have l:c.2.2.2.1.getD (Qk c.2.2.2.1 id).toNat Zc∈c.2.2.2.1:=Z5;have g:=h.str.all _ l;have i:=k a;generalize r:c.2.2.2.1.getD (Qk c.2.2.2.1 id).toNat Zc=s at*
  simp only[pI,Ll,Lh,pJ];cases (!u|| !s.2.2.2.2.2.2.1)
  ·obtain⟨x,n,e,hx⟩:=Z0q g.snd d;have m:0<=Qk c.2.2.2.1 (s.1,x,s.2.2).1:=Ai
   have j:Xz (K+d.length) (s.1,x,s.2.2):=⟨hx.mono Aa,(g.mono (K':=K+d.length) Aa).rcv⟩
   rw[pH,pH,Qzc g.snd d Aa,e];simp only[pA];rw[EJ (h.str.mono Aa) j Aa m,i];rfl
  ·rfl
 ·rw[Zk (p:=Qk c.2.2.2.1 id<0),Zb Ac,Zb Ac,if_neg a];simp
def Xp{β:Type}(A:Zf->Int->Option ((Bool)×(Zf×Unit)))(x:Zf)(id:Int)(k:Zf->Option β):Option β:=Ld (Z8 x.2.2.2.1 id) λt14=>Zd (0<=t14.1/\t14.1<x.2.2.2.1.length)<|Ld (V0 x.1 id) λt13=>Ld (cond (t13.1||DY (x.2.2.2.1.getD t14.1.toNat Zc)) (K2 (Lc,())) (Vv (x.2.2.2.1.getD t14.1.toNat Zc))) λt24=>cond ((t13.1||DY (x.2.2.2.1.getD t14.1.toNat Zc))||(!t24.1)) (k x) (Ld (A (CZ x (x.2.2.2.1.set t14.1.toNat (vE (x.2.2.2.1.getD t14.1.toNat Zc)))) id) λt33=>cond t33.1 (Ld (A t33.2.1 id) λt36=>cond t36.1 (Ld (Z3 t36.2.1.2.2.2.2.2.2.2.2.2.1) λt39=>k (t36.2.1.1,t36.2.1.2.1,t36.2.1.2.2.1,t36.2.1.2.2.2.1,t36.2.1.2.2.2.2.1,t36.2.1.2.2.2.2.2.1,t36.2.1.2.2.2.2.2.2.1,t36.2.1.2.2.2.2.2.2.2.1,t36.2.1.2.2.2.2.2.2.2.2.1,t39.1,t36.2.1.2.2.2.2.2.2.2.2.2.2)) (Ld (Z3 t36.2.1.2.2.2.2.2.2.2.2.1) λt39=>k (t36.2.1.1,t36.2.1.2.1,t36.2.1.2.2.1,t36.2.1.2.2.2.1,t36.2.1.2.2.2.2.1,t36.2.1.2.2.2.2.2.1,t36.2.1.2.2.2.2.2.2.1,t36.2.1.2.2.2.2.2.2.2.1,t36.2.1.2.2.2.2.2.2.2.2.1,t39.1,t36.2.1.2.2.2.2.2.2.2.2.2.2))) (Ld (A t33.2.1 id) λt36=>cond t36.1 (Ld (Z3 t36.2.1.2.2.2.2.2.2.2.2.2.1) λt39=>k (t36.2.1.1,t36.2.1.2.1,t36.2.1.2.2.1,t36.2.1.2.2.2.1,t36.2.1.2.2.2.2.1,t36.2.1.2.2.2.2.2.1,t36.2.1.2.2.2.2.2.2.1,t36.2.1.2.2.2.2.2.2.2.1,t39.1,t36.2.1.2.2.2.2.2.2.2.2.2)) (Ld (Z3 t36.2.1.2.2.2.2.2.2.2.2.1) λt39=>k (t36.2.1.1,t36.2.1.2.1,t36.2.1.2.2.1,t36.2.1.2.2.2.1,t36.2.1.2.2.2.2.1,t36.2.1.2.2.2.2.2.1,t36.2.1.2.2.2.2.2.2.1,t36.2.1.2.2.2.2.2.2.2.1,t39.1,t36.2.1.2.2.2.2.2.2.2.2.2))))
theorem Qv9(x:Zf)(n:Int):Z7 x n=K2 (SN n,x,()):=by grind[Z7,DW,JM]
theorem Qrb(x:Zf)(n:Int):Xk x n=K2 (SN n,x,()):=by grind[Xk,DW,JM]
theorem Qm6(x:Zf)(n:Int):cS x n=K2 (SN n,x,()):=by grind[cS,DW,JM]
theorem F4{A:Zf->Int->Option ((Bool)×(Zf×Unit))}(hA:∀x n,A x n=K2 (SN n,x,()))(h:nh K x.2.2.2.1)(hK:K<=500000)(hi:0<=Qk x.2.2.2.1 id)(k:Zf->Option β):Xp A x id k=k (fin x id):=by
 have i:=h.len;obtain⟨j,-,f⟩:=uT (l:=x.2.2.2.1) Aa id;have g:=h.all _ (Z5 (d:=Zc) (show(Qk x.2.2.2.1 id).toNat<x.2.2.2.1.length by omega));have c:∀a,∃b,Z3 a=K2 (Ct a,b,()):=λa=>by
  obtain⟨⟨y,b,u⟩,e,m⟩:=BV a
  grind[Qnp]
 unfold Xp fin;rw[xX Aa,VB Aa,pA];simp only;rw[Zb,Dh,qC,pA,Qvc g];simp only[bO,Ur];have e:((MN x.1 id||DY (vO x id))|| !f4 (vO x id))= !O8 x.1 (vO x id):=by
  unfold O8;rw[f hi];cases DY (vO x id)<;>cases MN x.1 id<;>cases f4 (vO x id)<;>rfl
 rw[e];cases O8 x.1 (vO x id)
 ·rfl
 ·rw[pI,pH,pG,hA,pA];obtain⟨o,p⟩:=c x.2.2.2.2.2.2.2.2.2.1;obtain⟨q,r⟩:=c x.2.2.2.2.2.2.2.2.1;unfold Fn bj;cases hu:SN id
  ·grind
  grind
theorem Q1s{K:Int}(h:Wt K s)(hK:K<=1000000)(hb:j4 s=K3):(!((K3&&((s.1==(0:Int))||(s.1==(1:Int))))&&(s.2.2.2.2.2.1==(-1:Int))))=(((!K3)||(La (s.1>(1:Int))))||(s.2.2.2.2.2.1 !=(-1:Int))):=by have:=(((R7 h hK).1 hb).st).1;rw[Md];simp;omega
theorem Qk3{K:Int}(h:Wt K s)(hK:K<=1000000):ry s=md s:=by
 unfold ry md ZC;rw[tl h hK,xd h hK,zi h hK,lg h hK];simp only[pA]
 grind[Q1s]
theorem Z68(h:Qa K c)(id:Int)(hK:K<=490000):xu c id=ea c id:=by
 have b:c.2.2.2.1.length<=1000000:=by have:=h.str.len;omega
 obtain⟨m,o,j⟩:=uT b id;unfold xu gC gG gJ tD tR ea tD tR;rw[Wh h,Yn h,xX b,VB b,J' h,YJ h,eW h Aa];simp only[pA,Xm,X5];generalize (ci c&& !(c.2.2.2.2.2.2.2.2.2.2.2.2.2.2.2.2.2.1 !=(0:Int)))=u;by_cases a:0<=Qk c.2.2.2.1 id
 ·have d:0<=Qk c.2.2.2.1 id/\Qk c.2.2.2.1 id<c.2.2.2.1.length:=⟨a,Aa⟩
  rw[Zb (by intros;exact d),Zb (by intros;exact d),Zb d,if_pos a,Zm];have k:c.2.2.2.1.getD (Qk c.2.2.2.1 id).toNat Zc∈c.2.2.2.1:=Z5;have f:=h.str.all _ k;have g:=j a;generalize q:c.2.2.2.1.getD (Qk c.2.2.2.1 id).toNat Zc=s at*
  simp only[pI,Ll,Lh,pJ];cases (!u|| !s.2.2.2.2.2.2.1)
  ·obtain⟨x,n,e,hx⟩:=Zzo f.snd;have l:0<=Qk c.2.2.2.1 (s.1,x,s.2.2).1:=Ai
   have i:Xz K (s.1,x,s.2.2):=⟨hx,f.rcv⟩
   rw[pH,pH,Qk3 f.snd Aa,e];simp only[pA];rw[EJ h.str i Aa l,g];rfl
  ·rfl
 ·rw[Zk (p:=Qk c.2.2.2.1 id<0),Zb Ac,Zb Ac,if_neg a];simp
theorem Ql6(h:Qa K c)(n:Int)(hK:K<=490000):WW c n=wo c n:=by unfold WW gH tG wo gH tG;rw[Wh h,Yn h,J' h,show Z0 n (1:Int) (1000:Int)=Z9 n (1:Int) (1000:Int)from rfl,pA,pA]
theorem Qb1(h:Qa K c)(id n:Int)(hK:K<=490000):zb c id n=Ld (ij c id n) λy=>K2 y.1:=by
 have g:c.2.2.2.1.length<=1000000:=by have:=h.str.len;omega
 obtain⟨r,s,m⟩:=uT g id;unfold zb gD gG gH gJ tA tB tC tD tR ij tV;rw[Wh h,Yn h,xX g,VB g,J' h,YJ h,eW h Aa];simp only[pA,Xm,X5];generalize (ci c&& !(c.2.2.2.2.2.2.2.2.2.2.2.2.2.2.2.2.2.1 !=(0:Int)))=u;by_cases a:0<=Qk c.2.2.2.1 id
 ·have i:0<=Qk c.2.2.2.1 id/\Qk c.2.2.2.1 id<c.2.2.2.1.length:=⟨a,Aa⟩
  rw[Zb (by intros;exact i),Zb (by intros;exact i),Zb i,if_pos a,Zm];have l:(Qk c.2.2.2.1 id).toNat<c.2.2.2.1.length:=Aa
  have o:c.2.2.2.1.getD (Qk c.2.2.2.1 id).toNat Zc∈c.2.2.2.1:=Z5 l;have j:=h.str.all _ o;have d:=m a;simp only[pI,Ll,Lh,pJ];cases (!u|| !(c.2.2.2.1.getD (Qk c.2.2.2.1 id).toNat Zc).2.2.2.2.2.2.1)
  ·obtain⟨x,k,e,hx⟩:=Bl j.snd n;have f:Xz K (p7 (Ov (vO c id) x)):=⟨hx,j.rcv⟩
   rw[pH,pH,Zvt j.snd Aa,e];simp only[pA];have q:0<=Qk (c.2.2.2.1.set (Qk c.2.2.2.1 id).toNat (p7 (Ov (vO c id) x))) id:=by
    rw[show Qk (c.2.2.2.1.set (Qk c.2.2.2.1 id).toNat (p7 (Ov (vO c id) x))) id=Qk c.2.2.2.1 id from gc _ rfl];exact a
   have hk:=F4 (β:=Zf×Bool×Unit) Qv9 (x:=zU c id (p7 (Ov (vO c id) x))) (id:=id) (h.str.set f _) Aa q (λy=>cond (!k) (K2 (c,Lc,())) (K2 (y,K3,())));have hv:yg h f Aa (show(p7 (Ov (vO c id) x)).1=id from d) a=yg h f Aa d a:=rfl;refine Ln (b:=Xp Z7 (zU c id (p7 (Ov (vO c id) x))) id (λy=>cond (!k) (K2 (c,Lc,())) (K2 (y,K3,())))) ?_ ?_
   ·simp only[KA l,Lz];rfl
   ·rw[hk];cases k
    ·rfl
    ·have t:=yg h f Aa (show(p7 (Ov (vO c id) x)).1=id from d) a
     grind
  ·rfl
 ·rw[Zk (p:=Qk c.2.2.2.1 id<0),Zb Ac,Zb Ac,if_neg a];simp
theorem Qfl(h:Qa K c)(id n:Int)(hK:K<=490000):QD c id n=nX c id n:=by
 have b:c.2.2.2.1.length<=1000000:=by have:=h.str.len;omega
 obtain⟨o,r,j⟩:=uT b id;unfold QD gE gG gH gJ tB tD tM tO nX gH tD;rw[Wh h,Yn h,xX b,VB b,J' h,YJ h,eW h Aa];simp only[pA,Xm,X5,PX,Jl,bO,Ur];by_cases a:0<=Qk c.2.2.2.1 id
 ·have d:0<=Qk c.2.2.2.1 id/\Qk c.2.2.2.1 id<c.2.2.2.1.length:=⟨a,Aa⟩
  rw[Zb (by intros;exact d),Zb (by intros;exact d),Zb d,if_pos a,Zm];have g:(Qk c.2.2.2.1 id).toNat<c.2.2.2.1.length:=Aa
  have i:c.2.2.2.1.getD (Qk c.2.2.2.1 id).toNat Zc∈c.2.2.2.1:=Z5 g;have e:=h.str.all _ i;have f:=j a;cases hc:ci c
  ·rfl
  have F:=((BK h).1 hc).st h Aa i;have k:0<=(c.2.2.2.1.getD (Qk c.2.2.2.1 id).toNat Zc).2.2.2.1.1:=n9 e.rcv Aa F.rcv;rw[yh k];simp only[KA g,Lz];generalize t:c.2.2.2.1.getD (Qk c.2.2.2.1 id).toNat Zc=s at*
  have l:0<=Qk c.2.2.2.1 (s.1,s.2.1,s.2.2.1,s.2.2.2.1,s.2.2.2.2.1,s.2.2.2.2.2.1,s.2.2.2.2.2.2.1,s.2.2.2.2.2.2.2.1,s.2.2.2.2.2.2.2.2.1,K3,s.2.2.2.2.2.2.2.2.2.2.1,K3,n,s.2.2.2.2.2.2.2.2.2.2.2.2.2).1:=Ai
  have m:=EJ h.str (s:=(s.1,s.2.1,s.2.2.1,s.2.2.2.1,s.2.2.2.2.1,s.2.2.2.2.2.1,s.2.2.2.2.2.2.1,s.2.2.2.2.2.2.2.1,s.2.2.2.2.2.2.2.2.1,K3,s.2.2.2.2.2.2.2.2.2.2.1,K3,n,s.2.2.2.2.2.2.2.2.2.2.2.2.2)) ⟨e.snd,e.rcv⟩ Aa l;rw[m,f];generalize (c.2.2.2.2.2.2.2.2.2.2.2.2.2.2.2.2.2.1 !=(0:Int))=q;cases q<;>cases s.2.2.2.2.2.2.2.1<;>cases s.2.2.2.2.2.2.2.2.2.2.2.1<;>cases La (s.2.2.2.1.1>1)<;>cases kb n<;>rfl
 ·rw[Zk (p:=Qk c.2.2.2.1 id<0),Zb Ac,Zb Ac,if_neg a];simp
theorem Qib{b:Zz}(h:iw K b)(hK:K<=1000000)(m:Int):KM b m=Ld (sx b m) λy=>K2 (y,()):=by
 have d:=h.len;have f:=h.tot;obtain⟨r,s,i⟩:=Z88 h;unfold KM sx;rw[xS h hK,BG h hK,uB b,VW h hK];simp only[pA,Xm,X5];unfold xB xC;by_cases j:min (dK b) (max m 0)=0
 ·grind
 ·have e:min m (dK b)=min (dK b) (max m 0):=Aa
  rw[e];generalize t:min (dK b) (max m 0)=n at*
  rw[Zo (Zm),Zo (by simp[j])];obtain⟨k,c,l,g,u⟩:=i Aa;obtain⟨o,p,v⟩:=uc Aa k;rw[Zs];obtain⟨z,w,_⟩:=b;simp only at g d f o p;subst g;simp only[Li]at d;simp only[pw]at f;simp only[show(0:Int).toNat=0 from rfl,Mu,Li];rw[Zb,Zb,Zb,Zb];by_cases a:n=(c.2.1.length:Int)
  ·rw[Zl (by simp[a]),Zl (by simp[a]),Zb,Zb];simp only[show(1:Int).toNat=1 from rfl,List.drop_succ_cons,Mr];have q:iw K ((z+n,(l.take (((l.length+1:Nat):Int).toNat-1)),()):Zz):=by
    constructor<;>grind[List.take_length]
   rw[VW q hK];simp_all
  ·rw[Zo (by simp[a]),Zo (by simp[a]),Zb,Zb,Zb,Zb,Zb,Zb]
   grind[Zb]
theorem Qp3(h:iw K r.2.1)(hK:K<=1000000)(m:Int):oC r m=bJ r m:=by unfold oC tR bJ;rw[l5 h hK,LM h hK,YB h hK,D9 h hK,Qib h hK];obtain⟨s,y,e,a,-⟩:=Co h hK m;rw[e];rfl
theorem Q18(h:iw K r.2.1)(hK:K<=1000000)(hb:FT r=K3):r.1<=5:=by
 have e:=D9 h hK;rw[hb]at e;unfold X4 gH at e;have a:=h.len;obtain⟨v,k⟩:=PO h hK;rw[kI _,uB _,k]at e;simp only[pA,Jl,Vj]at e
 grind[K6]
theorem Qyc(h:iw K r.2.1)(hK:K<=1000000)(h5:r.1<=5)(m:Int):
  ∃s y,bJ r m=K2 ((s,y,()),())/\iw K y.2.1/\(y.1 !=4&&y.1 !=5)=La (y.1<4):=by
 obtain⟨s,y,e,k,-⟩:=Zvr h hK m;refine⟨s,y,e,k,?_⟩;have j:y.1=r.1\/y.1=3\/y.1=5:=by
  unfold bJ at e;obtain⟨d,b,a,-,-⟩:=Co h hK m
  grind[Rj,D9,ji]
 grind
theorem Qe2(h:Qa K c)(id n:Int)(hK:K<=490000):QC c id n=kx c id n:=by
 have i:c.2.2.2.1.length<=1000000:=by have:=h.str.len;omega
 obtain⟨A,B,t⟩:=uT i id;unfold QC gB gG gH gJ tA tB tC tD tJ tQ kx tD;rw[Wh h,Yn h,xX i,VB i,J' h,YJ h,eW h Aa];simp only[pA,Xm,X5];by_cases b:0<=Qk c.2.2.2.1 id
 ·have j:0<=Qk c.2.2.2.1 id/\Qk c.2.2.2.1 id<c.2.2.2.1.length:=⟨b,Aa⟩
  rw[Zb (by intros;exact j),Zb (by intros;exact j),Zb j,if_pos b,Zm];have l:(Qk c.2.2.2.1 id).toNat<c.2.2.2.1.length:=Aa
  have m:c.2.2.2.1.getD (Qk c.2.2.2.1 id).toNat Zc∈c.2.2.2.1:=Z5 l;have d:=h.str.all _ m;have f:=t b;simp only[pI,Ll,Lh,pJ];cases hc:(ci c&& !(c.2.2.2.2.2.2.2.2.2.2.2.2.2.2.2.2.2.1 !=(0:Int)))
  ·rfl
  cases (c.2.2.2.1.getD (Qk c.2.2.2.1 id).toNat Zc).2.2.2.2.2.2.2.1
  ·rfl
  have F:=((BK h).1 Ai).st h Aa m;obtain⟨s,y,e,o,u⟩:=Qyc d.rcv Aa (Q18 d.rcv Aa F.rcv) n;rw[Qp3 d.rcv Aa,e];simp only[pA,KA l,Lz,u,pI,Ll,pH];have q:∀(x:Zf)(a:Zj),x.2.2.2.1=c.2.2.2.1->P0 K x.2.2.2.2.2.2.2.2.2.2.2.2.2.2.2.1->Xz K a->a.1=id->Xp Xk (zU x id a) id (λz=>K2 ((s,(a.2.2.2.1.1==(3:Int))||(a.2.2.2.1.1==(5:Int)),z,()),()))=cO Xh x a s a.2.2.2.1:=by
   intro x a hx v g w;have r:Qa K x:=⟨by rw[hx];exact h.str,v⟩
   have k:0<=Qk x.2.2.2.1 id:=by rw[hx];exact b
   unfold cO;rw[yg r g Aa w k,F4 Qrb (r.str.set g _) Aa _ _]
   ·rfl
   grind(splits:=20)[gc]
  cases La (y.1<4)
  ·exact q c (U7 (c.2.2.2.1.getD (Qk c.2.2.2.1 id).toNat Zc) y) rfl h.pk ⟨d.snd,o⟩ f
  ·simp only[Qvq,Qvr,uM,pA,Qj8,pG];exact q (DK c (OB c.2.2.2.2.2.1 (Lb.wrap (y.2.1.1- (c.2.2.2.1.getD (Qk c.2.2.2.1 id).toNat Zc).2.2.2.2.1.2.2.2.2.1)))) (vW (U7 (c.2.2.2.1.getD (Qk c.2.2.2.1 id).toNat Zc) y) (OB (c.2.2.2.1.getD (Qk c.2.2.2.1 id).toNat Zc).2.2.2.2.1 (Lb.wrap (y.2.1.1- (c.2.2.2.1.getD (Qk c.2.2.2.1 id).toNat Zc).2.2.2.2.1.2.2.2.2.1)))) rfl h.pk ⟨d.snd,o⟩ f
 ·rw[Zk (p:=Qk c.2.2.2.1 id<0),Zb Ac,Zb Ac,if_neg b];simp
theorem Z8w(c:dI):ZA c=wn c:=by grind[ZA,wn,EX,XZ,Q1u,Zs]
theorem Qs0(n:Int)(s u:Bool):Ge n s u=tw n s u:=by
 unfold Ge tw;rw[bL,CM];simp only[pA];cases hb:(La (n>=0)&&La (n<=1152921504606846975))
 ·rfl
 ·simp at hb;rw[Zb,show(min (2:Int).toNat Lb.bits)=2 from rfl,Int.mul_comm 4];cases s<;>cases u<;>simp(disch:=omega) only[rQ,mN,pG,pH,pI,pA,Zs]<;>grind
theorem Qep(h:Qa K c)(u:Bool)(hK:K<=490000):QB c u=cw c u:=by
 have j:∀x n b,nh K x.2.2.2.1->cG u c Xh x n b=V7 u c Xh x n b:=λx n b hx=>by
  unfold cG tD V7 tD;cases b
  ·rfl
  ·simp only[Qs0,Z40,pI,pH];refine congrArg (Ld _) (funext λt=>?_);obtain⟨b,e,a⟩:=gY c.1 t.1 c.2.1 c.2.2.1;rw[e,pA,pA,Q0q hx (a.mono Aa),Z7j hx (a.mono Aa)]
 unfold QB tH tL cw;rw[Wh h,Yn h,J' h,YJ h];simp only[pA];generalize ((!(ci c&&_))||_:Bool)=q;cases q
 ·cases u
  ·unfold V6 tH tL;simp only[Kv,pH,pA,Z8w];exact congrArg (Ld _) (funext λt=>j _ _ _ h.str)
  ·unfold V6 tH tL;simp only[Kv,pH,pG,pA,Z8w];exact congrArg (Ld _) (funext λt=>j _ _ _ h.str)
 ·rfl
theorem Z6r(x:UInt8)(l:Ba):Lt (x::l) 32=ite (Lt l 32=[]/\x=32) [] (x::Lt l 32):=by
 unfold Lt;rw[List.reverse_cons,List.dropWhile_append];by_cases h:(l.reverse.dropWhile (· ==32))=[]
 ·by_cases hx:x=32<;>simp[h,hx]
 ·simp[h]
theorem Qid(l:Ba)(x:UInt8):Lt (l++[x]) 32=ite (x=32) (Lt l 32) (l++[x]):=by unfold Lt;by_cases hx:x=32<;>simp[hx]
theorem MC(x:UInt8)(l:Ba):L9 (x::l) 32=ite (x=32) (L9 l 32) (x::l):=by unfold L9;by_cases hx:x=32<;>simp[hx]
theorem KO:∀l:Ba,Me l 32=Lt (L9 l 32) 32
 |[]=>rfl
 |x::l=>by
  have a:=KO l;unfold Me at a⊢;rw[MC,Z6r];by_cases hx:x=32
  ·rw[if_pos hx,<-a]
   grind(splits:=20)[MC]
  simp_all[MC,Z6r]
theorem Qng(x:UInt8):((x.toNat:Int)==32)=La (x=32):=by rw[Md,beq_iff_eq,decide_eq_true_iff,<-Nh,show(32:UInt8).toNat=32 from rfl];omega
theorem Ol:∀(N:Nat)(s:Ba),s.length<N->s.length<=1000000->ky N s=K2 (Lt s 32,())
 |0,_,h,_=>Aa
 |N+1,s,a,b=>by
  unfold ky;rcases List.eq_nil_or_concat s with rfl|⟨l,x,rfl⟩
  ·simp[Lt,Zd]
  ·simp only[List.concat_eq_append]at*
   have c:(l++[x]).length=l.length+1:=Ac
   have e:Lb.wrap (((l++[x]).length:Int)-1)=(l.length:Int):=Al
   have g:(l++[x]).getD (l.length:Int).toNat 0=x:=Ac
   simp only[e];rw[g,Zb,Zk,pJ,Qid,Qng];by_cases hx:x=32
   ·rw[Zk hx,pG,Zb,if_pos hx,<-Ol N l Aa Aa];simp
   simp_all
theorem Qqw:∀(N:Nat)(s:Ba),s.length<N->s.length<=1000000->fc N s=K2 (Me s 32,())
 |0,_,h,_=>Aa
 |N+1,[],a,b=>by
  simp_all[fc,Ol,jm,KO,L9,Zd]
 |N+1,x::s,a,b=>by
  have c:(x::s).length=s.length+1:=rfl;unfold fc;rw[Zb,show(0:Int).toNat=0 from rfl,Mu,Zk,pJ,Qng,KO,MC];by_cases hx:x=32
  ·rw[Zk hx,pG,Zb,if_pos hx,<-KO,<-Qqw N s Aa Aa];simp
  simp_all[Ol,jm]
theorem Q1f(s:Ba)(hs:s.length<=1000000):zr s=K2 (Me s 32,()):=by simp_all[zr,pe,Qqw]
theorem Qxp(p:Xd)(s:Ba)(hs:s.length<=100000):my p s=ia p s:=by
 have c:∀(l:List Ba),l.length<=100001->(∀x∈l,x.length<=100000)-> ∀(t:Xd)(N i:Nat)(b:Xd),i<=l.length->J4 N b t l (l.length:Int) (i:Int)=Yq N b t l (i:Int):=by
  intro l g hx t N
  induction N with
  |zero=>intros;rfl
  |succ N d=>
   intro i b k;unfold J4 gG tR Yq tR;by_cases a:i<l.length
   ·have m:(l.getD i []).length<=100000:=hx _ (Z5 a);rw[Zl (Zk),Zl (Zk),Zb,Zb];simp only[J8,Zr a,d (i+1) _ Aa,show(i:Int).toNat=i from rfl]
    grind(splits:=20)[Q1f,B2,Zb]
   grind
 have j:∀b t,fM s b t=Wy s b t:=λb t=>by
  unfold fM Wy;obtain⟨y,e,n,o⟩:=Qzp s Aa 44;have f:=Qov 44 s Aa;rw[show((44:UInt8).toNat:Int)=44 from rfl]at f;have:wv s [44]=K2 y:=by
   unfold wv;rw[Zb Ae,Qfh 44 _ _ (Mz _)]
   grind
  rw[this,e];exact c y.1 Aa (λx h=>Ai) t _ 0 b Aa
 unfold my ia;rw[Zz3];simp only[j];rfl
theorem Qqd(h:Qa K c)(id:Int)(t:Ba)(ht:t.length<=100000)(hK:K<=490000):zc c id t=io c id t:=by
 have b:c.2.2.2.1.length<=1000000:=by have:=h.str.len;omega
 obtain⟨l,m,g⟩:=uT b id;unfold zc gF gG gJ tD tT io tD tT;rw[Wh h,Yn h,xX b,VB b,J' h,YJ h,eW h Aa];simp only[pA,Xm,X5,Qxp _ t ht];generalize (ci c&& !(c.2.2.2.2.2.2.2.2.2.2.2.2.2.2.2.2.2.1 !=(0:Int)))=u;by_cases a:0<=Qk c.2.2.2.1 id
 ·have d:0<=Qk c.2.2.2.1 id/\Qk c.2.2.2.1 id<c.2.2.2.1.length:=⟨a,Aa⟩
  rw[Zb (by intros;exact d),Zb (by intros;exact d),Zb d,if_pos a,Zm];have i:(Qk c.2.2.2.1 id).toNat<c.2.2.2.1.length:=Aa
  have j:c.2.2.2.1.getD (Qk c.2.2.2.1 id).toNat Zc∈c.2.2.2.1:=Z5 i;have f:=h.str.all _ j;have e:=g a;simp only[pI,Ll,Lh,pJ];cases (!u|| !(c.2.2.2.1.getD (Qk c.2.2.2.1 id).toNat Zc).2.2.2.2.2.2.1)
  ·rw[pH,pH];refine congrArg (Ld _) (funext λq=>?_);generalize c.2.2.2.1.getD (Qk c.2.2.2.1 id).toNat Zc=s at*
   have k:0<=Qk c.2.2.2.1 (s.1,s.2.1,s.2.2.1,s.2.2.2.1,s.2.2.2.2.1,q.1,s.2.2.2.2.2.2).1:=Ai
   rw[EJ h.str (s:=(s.1,s.2.1,s.2.2.1,s.2.2.2.1,s.2.2.2.2.1,q.1,s.2.2.2.2.2.2)) ⟨f.snd,f.rcv⟩ Aa k,e];rfl
  ·rfl
 ·rw[Zk (p:=Qk c.2.2.2.1 id<0),Zb Ac,Zb Ac,if_neg a];simp
theorem Qi4(r t:Xc)(n:Int):∀(N:Nat)(x:Xc)(i:Int),rC N n r t x i=gu N n r t x i
 |0,_,_=>rfl
 |N+1,x,i=>by
  rw[rC,gu];simp only[Qi4 r t n N]
theorem Qlc(r:Xc)(n:Int)(hl:r.2.2.2.1.length<=1048576):z8 r n=qh r n:=by
 unfold z8 gH qh;rw[Z76 r hl,Er r hl,O3 r hl];refine congrArg (Ld _) (funext λa=>congrArg (Ld _) (funext λb=>?_));rw[bL];simp only[bO,Ur,Qi4];cases b.1
 ·rfl
 ·by_cases c:n<r.2.1<;>by_cases d:n>r.2.2.1<;>simp[c,d,show(r.2.1<=n)= ¬n<r.2.1 by simp,show(n<=r.2.2.1)= ¬n>r.2.2.1 by simp]<;>rfl
theorem Qud{K:Int}{x:Zn}(p:Qq)(t:Zn)(hx:Wt K x)(he:x.2.1=s.2.1)(h0:0<=x.2.2.2.2.2.2.1)(h3:x.2.2.2.2.2.2.1<=3)(hK:K<=1000000):iV K3 s p t x 3=gj s p t x:=by
 have j:∀x:Zn,Wt K x->x.2.1=s.2.1->0<=x.2.2.2.2.2.2.1->x.2.2.2.2.2.2.1<=3->iW K3 t x=gn s t x:=λx hx he h0 h3=>by
  have c:=Q0 hx.pO hx.e0 hx.eK hK;have b:=hx.cells;unfold iW gn;simp only[Xm,X5,pG];rw[Z8a _ _,l9 _ _,<-he];simp only[pA];rw[Qlc _ _ Aa];refine congrArg (Ld _) (funext λa=>?_);simp_all[oJ,sd,OO,zC]
 unfold iV tH gj tH;rw[j x hx he h0 h3];cases p.2.2.1&&(s.2.2.2.2.2.2.1==(2:Int))
 ·rfl
 ·exact j _ {cells:=hx.cells,e0:=hx.e0,eK:=hx.eK,pend:=hx.pend,pT:=hx.pT,pO:=hx.pO} he Ac Ac
theorem Que{K:Int}{s:Zn}(p:Qq)(t:Zn)(hK:K<=1000000)(c:List Zi)(hcl:c.length<=1048576)(hc:∀y∈c,y.2.1<=s.2.1.2.2.1):∀(N i:Nat)(x:Zn),Wt K x->x.2.1=s.2.1->0<=x.2.2.2.2.2.2.1->x.2.2.2.2.2.2.1<=3->
  iX N K3 s p t x 3 c (c.length:Int) (i:Int)=gq N s p t x c (i:Int)
 |0,_,_,_,_,_,_=>rfl
 |N+1,i,x,hx,a,b,f=>by
  have lf:=Q0 hx.pT hx.e0 hx.eK hK;have j:=Q0 hx.pO hx.e0 hx.eK hK;unfold iX gG gL gq gG gL;by_cases h:i<c.length
  ·have g:=hc _ (Z5 (d:=Z4) h);have e:x.2.1.2.2.1=s.2.1.2.2.1:=by rw[a]
   rw[Zl (Zk),Zl (Zk),Zb,Zb,YG _ _,EQ _ _,pA,pA,Zb,og _ _,eX _ _,Zr h];exact Que p t hK c hcl hc N (i+1) _ (hx.lists (CG hx.pT) (AJ hx.pO (by rw[e];exact g))) a b f
  ·rw[Zo (Zm),Zo (Zm)]
   grind[Qud]
theorem Qpa{x:Zn}(p:Qq)(t:Zn)(h0:0<=x.2.2.2.2.2.2.1)(h3:x.2.2.2.2.2.2.1<=3):iT Lc s p t x 1=ef s p t x:=by simp_all[iT,ef,oH,oI,kh,OO,zC]
theorem Qpb{K:Int}{s:Zn}(p:Qq)(t:Zn)(hK:K<=1000000)(c:List Zi)(hcl:c.length<=1048576)(hc:∀y∈c,y.2.1<=s.2.1.2.2.1):∀(N i:Nat)(x:Zn),Wt K x->x.2.1=s.2.1->0<=x.2.2.2.2.2.2.1->x.2.2.2.2.2.2.1<=3->
  iU N Lc s p t x 1 c (c.length:Int) (i:Int)=eg N s p t x c (i:Int)
 |0,_,_,_,_,_,_=>rfl
 |N+1,i,x,hx,a,b,f=>by
  have lf:=Q0 hx.pT hx.e0 hx.eK hK;have j:=Q0 hx.pend hx.e0 hx.eK hK;unfold iU gG gL eg gG gL;by_cases h:i<c.length
  ·have g:=hc _ (Z5 (d:=Z4) h);have e:x.2.1.2.2.1=s.2.1.2.2.1:=by rw[a]
   rw[Zl (Zk),Zl (Zk),Zb,Zb,YG _ _,EQ _ _,pA,pA,Zb,og _ _,eX _ _,Zr h];exact Qpb p t hK c hcl hc N (i+1) _ {cells:=hx.cells,e0:=hx.e0,eK:=hx.eK,pend:=AJ hx.pend (by rw[e];exact g),pT:=CG hx.pT,pO:=hx.pO} a b f
  simp_all[Zm,Qpa]
theorem Z74{l:List Zi}{E:Int}(h:RL E l)(r:Zi):∀y∈Gx l r,y.2.1<=E:=I4 h.2
theorem Quk(m:Oa β):(Ld m λt=>K2 (t.1,()))=m:=by cases m<;>rfl
theorem Qkz{K:Int}(h:Wt K s)(hK:K<=1000000)(p:Qq):WT s p=qf s p:=by
 have c:=Q0 h.pT h.e0 h.eK hK;unfold WT KV gH qf gH bT;rw[pG,tl h hK,xd h hK,zi h hK,lg h hK];simp only[pA,Fs h hK,P4,bO,bL];cases hb:j4 s
 ·rfl
 have F:=(R7 h hK).1 hb;have a:=GO F;rw[Zk (p:=s.1>=0) a];by_cases b:s.1<=2
 ·rw[Zk b,Zm (p:=s.1>2)];cases Ub s p
  ·rfl
  ·simp only[pG,pH,pI,Lf,Lg,pA,L0,pJ,L6];rw[Quk];unfold yn lC;rw[SX _ _,pA,pA,Pw _ _,Qud p _ h rfl F.fin.1 F.fin.2 hK];have d:=Qc7 s.2.2.2.1 (p.1,Lb.wrap (p.1+(p.2.1.length:Int)),());simp only[pA];have:=Que p J2 hK _ Aa (Z74 h.pT (p.1,Lb.wrap (p.1+(p.2.1.length:Int)),())) (mX s p J2 s (Gx s.2.2.2.1 (p.1,Lb.wrap (p.1+(p.2.1.length:Int)),())) 0) 0 s h rfl F.fin.1 F.fin.2;rw[show((0:Nat):Int)=0 from rfl]at this;rw[<-this];rfl
 grind
theorem Qg3{K:Int}(h:Wt K s)(hK:K<=1000000)(p:Qq):KC s p=mM s p:=by
 have c:=Q0 h.pT h.e0 h.eK hK;unfold KC KU gH mM gH bT;rw[pH,tl h hK,xd h hK,zi h hK,lg h hK];simp only[pA,Fs h hK,P4,bO,bL];cases hb:j4 s
 ·rfl
 have F:=(R7 h hK).1 hb;have a:=GO F;rw[Zk (p:=s.1>=0) a];by_cases b:s.1<=2
 ·rw[Zk b,Zm (p:=s.1>2)];cases Ub s p
  ·rfl
  ·simp only[pG,pH,pI,Lf,Lg,pA,L0,pJ,L6];rw[Quk];unfold ym lC;rw[SX _ _,pA,pA,Pw _ _,Qpa p _ F.fin.1 F.fin.2];have d:=Qc7 s.2.2.2.1 (p.1,Lb.wrap (p.1+(p.2.1.length:Int)),());simp only[pA];have:=Qpb p J2 hK _ Aa (Z74 h.pT (p.1,Lb.wrap (p.1+(p.2.1.length:Int)),())) (lw s p J2 s (Gx s.2.2.2.1 (p.1,Lb.wrap (p.1+(p.2.1.length:Int)),())) 0) 0 s h rfl F.fin.1 F.fin.2;rw[show((0:Nat):Int)=0 from rfl]at this;rw[<-this];rfl
 grind
abbrev bW(c:Zf):List Qf:=c.2.2.2.2.2.2.2.2.2.2.2.2.2.2.2.1
abbrev WJ(c:Zf)(l:List Qf):Zf:=(c.1,c.2.1,c.2.2.1,c.2.2.2.1,c.2.2.2.2.1,c.2.2.2.2.2.1,c.2.2.2.2.2.2.1,c.2.2.2.2.2.2.2.1,c.2.2.2.2.2.2.2.2.1,c.2.2.2.2.2.2.2.2.2.1,c.2.2.2.2.2.2.2.2.2.2.1,c.2.2.2.2.2.2.2.2.2.2.2.1,c.2.2.2.2.2.2.2.2.2.2.2.2.1,c.2.2.2.2.2.2.2.2.2.2.2.2.2.1,c.2.2.2.2.2.2.2.2.2.2.2.2.2.2.1,l,c.2.2.2.2.2.2.2.2.2.2.2.2.2.2.2.2)
def Ta(m:Int):List Qf->Option Nat|[]=>none|p::r=>ite (p.1=m) (K2 0) ((Ta m r).map (· +1))
theorem Qvj{l:List Qf}(m:Int)(hl:l.length<=1000000):∀(N i:Nat),l.length-i<N->i<=l.length->Qy N l (m,()) (l.length:Int) (i:Int)=K2 (match Ta m (l.drop i)with|none=> -1|some p=>((i+p:Nat):Int),())
 |0,_,h,_=>Aa
 |N+1,i,b,c=>by
  unfold Qy gG gK;by_cases a:i<l.length
  ·rw[Zl (Zk),Zb,show(i:Int).toNat=i from rfl,Zr a,Qx (d:=Q8) a,Qvj m hl N (i+1) Aa Aa];show Ld (K2 ((l.getD i Q8).1==m,())) _=_
   grind[Ta]
  ·rw[Zo (Zm),L8 Aa];rfl
theorem Q0n(m:Int)(hl:(bW c).length<=1000000):rR c m=K2 (match Ta m (bW c)with|none=> -1|some p=>(p:Int),()):=by unfold rR Yo;have:=Qvj m hl (Xa (bW c) (m,()) ((bW c).length:Int) 0) 0 (by simp[Xa]) Aa;simp_all
theorem Qvi(m:Int):∀{l:List Qf},LE m l=match Ta m l with|none=>(((0:Int),([]:List Zh),()),Lc,())|some i=>(l.getD i Q8,K3,())
 |[]=>rfl
 |p::r=>by
  unfold LE Ta;rw[Qvi m]
  grind
theorem Qpz{m:Int}:∀{l:List Qf}{i:Nat},Ta m l=K2 i->i<l.length
 |p::r,i,h=>by
  unfold Ta at h;split at h
  ·cases h;simp
  ·cases hr:Ta m r with
   |none=>simp_all
   |some q=>
    have:=Qpz hr
    grind
theorem Qpy{n:Int}:∀{l:List Qf}{q:Int},NO n (K2 q) l=K3-> ∀p∈l,q<p.1
 |x::r,q,h,p,hp=>by
  simp only[NO,pC,decide_eq_true_eq]at h;rcases Lv.1 hp with e|hp
  ·simp_all
  ·have:=Qpy h.2 p hp;omega
theorem Qeu{n m:Int}:∀{l:List Qf}{o:Option Int}{i:Nat},NO n o l=K3->Ta m l=K2 i->l.filter (λp=>p.1 !=m)=l.take i++l.drop (i+1)
 |x::r,o,i,h,hx=>by
  simp only[NO,pC]at h;unfold Ta at hx;by_cases e:x.1=m
  ·rw[if_pos e]at hx;cases hx;have:∀p∈r,(p.1 !=m)=true:=λp a=>by have:=Qpy h.2 p a;simp;omega
   grind[M9]
  ·rw[if_neg e]at hx;cases hr:Ta m r with
   |none=>simp_all
   |some q=>
    have:=Qeu h.2 hr
    grind
theorem Qus(h:Qa K c)(hK:K<=1000000)(m:Int):uO c m=K2 ((),WJ c ((bW c).filter λp=>p.1 !=m),()):=by
 have e:(bW c).length<=K:=h.pk.1;have f:c.2.2.2.2.2.2.2.2.2.2.2.2.2.2.2.1.length=(bW c).length:=rfl;have g:∀(N i:Nat)(o:List Qf),(bW c).length-i<N->i<=(bW c).length->o.length<=i->cA N c m o (i:Int)=K2 ((),WJ c (o++((bW c).drop i).filter λp=>p.1 !=m),()):=by
  intro N
  induction N with
  |zero=>omega
  |succ N a=>
   intro i o j k l;unfold cA gG gK tK;by_cases b:i<(bW c).length
   ·rw[Zl (Zk),Zb,Zb,Zb (by unfold Qd;simp;omega),show(i:Int).toNat=i from rfl,Qx (d:=Q8) b];simp only[oa,Zr b];rw[a (i+1) _ Aa Aa Ae,a (i+1) _ Aa Aa Aa];rw[M8];cases ((bW c).getD i Q8).1 !=m
    all_goals simp_all
   simp_all[Zm,L8]
 grind[pl,uO]
def Ht(c:Zf)(m:Int):Bool:=(ci c&& !(c.2.2.2.2.2.2.2.2.2.2.2.2.2.2.2.2.2.1 !=(0:Int)))&&(LE m (bW c)).2.1
theorem Qe4(h:Qa K c)(hK:K<=1000000)(m:Int):KS c m=K2 (cond (Ht c m) (WJ c ((bW c).filter λp=>p.1 !=m),(LE m (bW c)).1.2.1,K3,()) (c,[],Lc,()),()):=by
 have b:(bW c).length<=K:=h.pk.1;have d:c.2.2.2.2.2.2.2.2.2.2.2.2.2.2.2.1.length=(bW c).length:=rfl;unfold KS;simp only[Xm,X5];rw[Wh h hK,Q0n m Aa];simp only[pA];unfold QE gG gK tK Ht;rw[J' h hK,YJ h hK,pA,Qvi];cases hx:Ta m (bW c)with
 |none=>simp
 |some i=>
  have a:=Qpz hx;simp only[Zm (p:=((i:Nat):Int)<0),Ll,L6];cases hc:(ci c&& !(c.2.2.2.2.2.2.2.2.2.2.2.2.2.2.2.2.2.1 !=(0:Int)))
  ·rfl
  ·rw[Zb,Zr a];unfold aA PB;rw[Zb,Qeu ((BK h hK).1 Af).pks hx];rfl
abbrev Rq(f:Zh):Qq:=(f.2.2.1,f.2.2.2.1,f.2.2.2.2.1,())
abbrev GD(s:Zj)(b:Bool):Zj:=(s.1,s.2.1,s.2.2.1,s.2.2.2.1,s.2.2.2.2.1,s.2.2.2.2.2.1,s.2.2.2.2.2.2.1,s.2.2.2.2.2.2.2.1,b,s.2.2.2.2.2.2.2.2.2)
abbrev Qz5(s:Zj)(b:Bool):Zj:=(s.1,s.2.1,s.2.2.1,s.2.2.2.1,s.2.2.2.2.1,s.2.2.2.2.2.1,s.2.2.2.2.2.2.1,s.2.2.2.2.2.2.2.1,s.2.2.2.2.2.2.2.2.1,b,s.2.2.2.2.2.2.2.2.2.2)
def Q1j(m:Oa Zn):Zn:=match m with|some (y,_)=>y|none=>J2
def Eu(f:Zh):Bool:=(((f.1==(4:Int))||(f.1==(5:Int)))||(f.1==(8:Int)))||((f.1==(17:Int))||(f.1==(21:Int)))
def Hk(s:Zn):Bool:=j4 s&&(s.1==4)
theorem arS{K:Int}(h:Wt K s)(hK:K<=1000000:=by omega):lL s=K2 (cond (Hk s) (5,s.2) s,Hk s,()):=by grind[lL,Hk,xd,lg]
theorem arI{K:Int}(h:Wt K s)(hK:K<=1000000):WU s=lL s:=by grind[WU,lL,xd,tl,zi]
def Ea(s:Zj)(f:Zh):Zj:=cond (f.1==8) (Ov s (Q1j (qf s.2.1 (Rq f)))) (cond (f.1==4) (cond (Hk s.2.1) (GD (Ov s (5,s.2.1.2)) Lc) s) (cond (f.1==5) (Qz5 s Lc) s))
theorem vV{s:Zj}(h:Xz K s)(hK:K<=1000000)(f:Zh):Xz K (Ea s f):=by
 unfold Ea;obtain⟨x,e,hx⟩:=R4 h.snd (Rq f);rw[e];cases f.1==8
 ·cases f.1==4
  ·cases f.1==5
   ·exact h
   ·exact⟨h.snd,h.rcv⟩
  ·cases Hk s.2.1
   ·exact h
   ·exact⟨{cells:=h.snd.cells,e0:=h.snd.e0,eK:=h.snd.eK,pend:=h.snd.pend,pT:=h.snd.pT,pO:=h.snd.pO},h.rcv⟩
 ·exact⟨hx,h.rcv⟩
theorem LI(s:Zj)(f:Zh):(Ea s f).1=s.1:=by unfold Ea;cases f.1==8<;>cases f.1==4<;>cases f.1==5<;>cases Hk s.2.1<;>rfl
def MR(x:Zf)(f:Zh):Zf:=cond (Eu f&&La (0<=Qk x.2.2.2.1 f.2.1)) (fin (zU x f.2.1 (Ea (vO x f.2.1) f)) f.2.1) x
theorem Qmx(f:Zh):Jx f=K2 (Eu f,()):=by rw[<-Qcq];exact Un f
theorem Qfb{l:List α}{d:α}:l.set i (l.getD i d)=l:=by
 by_cases h:i<l
 all_goals simp_all[List.set_eq_of_length_le]
theorem Qzf(h:Qa K x)(hK:K<=490000)(f:Zh):YK x f=K2 ((),MR x f,()):=by
 have i:=h.str.len;obtain⟨j,k,m⟩:=uT (l:=x.2.2.2.1) Aa f.2.1;unfold YK yO gH tB tR tV MR;rw[eW h Aa,Xm,pA];simp only[Qmx,bO,Ur];by_cases a:0<=Qk x.2.2.2.1 f.2.1
 ·rw[if_pos a,Zk a];have g:vO x f.2.1∈x.2.2.2.1:=Z5;have c:=h.str.all _ g;have b:∀d,d=Ea (vO x f.2.1) f->cg x d=K2 ((),fin (zU x f.2.1 (Ea (vO x f.2.1) f)) f.2.1,()):=λd e=>by
   unfold cg;rw[e,yg h (vV c Aa f) Aa (by grind[LI]) a];rfl
  cases Eu f
  ·rfl
  ·simp only[pI,Lg,Lf,pH,pG];obtain⟨y,e,n⟩:=R4 c.snd (Rq f);rw[arS c.snd,show ZQ f=K2 (Rq f,())from rfl,pA,e];cases h8:f.1==8
   ·cases h4:f.1==4
    ·cases h5:f.1==5
     ·exact b _ (by unfold Ea;rw[h8,h4,h5];rfl)
     ·exact b _ (by unfold Ea;rw[h8,h4,h5];rfl)
    ·cases hb:Hk (vO x f.2.1).2.1
     ·exact b _ (by unfold Ea;rw[h8,h4,hb];rfl)
     ·exact b _ (by unfold Ea;rw[h8,h4,hb];rfl)
   ·exact b _ (by unfold Ea;rw[h8,e];rfl)
 ·rw[if_neg a,Zm a];simp
theorem Qr5(h:Qa K x)(hK:K<=490000)(hi:0<=Qk x.2.2.2.1 id):Qa K (fin x id):=by
 have b:=h.str.len;obtain⟨c,e,f⟩:=uT (l:=x.2.2.2.1) Aa id;have a:=h.str.all _ (Z5 (d:=Zc) (show(Qk x.2.2.2.1 id).toNat<x.2.2.2.1 by omega));refine⟨?_,?_⟩
 ·rw[Qr6];cases O8 x.1 (vO x id)
  ·exact h.str
  ·exact h.str.set (s:=vE (vO x id)) ⟨a.snd,a.rcv⟩ _
 ·unfold fin Fn;cases O8 x.1 (vO x id)
  ·exact h.pk
  ·cases SN id<;>exact h.pk
theorem Qe9{s:Zj}(hi:0<=Qk x.2.2.2.1 id)(hl:x.2.2.2.1.length<=1000000)(h:s.1=(vO x id).1):0<=Qk (zU x id s).2.2.2.1 id:=by grind[gc]
theorem Qcs(h:Qa K x)(hK:K<=490000)(f:Zh):Qa K (MR x f):=by
 have e:=h.str.len;unfold MR;by_cases a:0<=Qk x.2.2.2.1 f.2.1
 ·obtain⟨g,i,j⟩:=uT (l:=x.2.2.2.1) Aa f.2.1;rw[Zk a];cases Eu f
  ·exact h
  ·have b:=h.str.all _ (Z5 (d:=Zc) (show(Qk x.2.2.2.1 f.2.1).toNat<x.2.2.2.1 by omega));have c:=vV b Aa f;exact Qr5 (x:=zU x f.2.1 (Ea (vO x f.2.1) f)) ⟨h.str.set c _,h.pk⟩ hK (Qe9 a Aa (LI _ f))
 grind
theorem Qmy{K:Nat}(hK:K<=490000)(t:Zf)(fs:List Zh)(hf:fs.length<=1000000):∀(N i:Nat)(x:Zf),Qa K x->fs-i<N->i<=fs->Ye N t x fs fs (i:Int)=K2 (((fs.drop i).foldl MR x,K3,()),())
 |0,_,_,_,h,_=>Aa
 |N+1,i,x,h,u,w=>by
  have A:=h.str.len;rw[Ye];by_cases m:i<fs
  ·rw[Zl (Zk),Zb,show(i:Int).toNat=i from rfl,Zr m,Qx (d:=Qe) m,Mh,<-Qmy hK t fs hf N (i+1) _ (Qcs h hK _) Aa Aa];generalize fs.getD i Qe=f;obtain⟨B,C,q⟩:=uT (l:=x.2.2.2.1) Aa f.2.1;rw[xX Aa,VB Aa,pA];simp only[Un,pA];unfold MR Eu;cases (((f.1==(4:Int))||(f.1==(5:Int)))||(f.1==(8:Int)))||((f.1==(17:Int))||(f.1==(21:Int)))
   ·rfl
   by_cases j:0<=Qk x.2.2.2.1 f.2.1
   ·have o:(Qk x.2.2.2.1 f.2.1).toNat<x.2.2.2.1:=Aa
    rw[Zk j,Zm (p:=Qk x.2.2.2.1 f.2.1<0),pI,Ll,pH,Lf,pG,Zb];have a:=h.str.all _ (Z5 (d:=Zc) o);have r:=q j;have b:∀(k:(Zf×Zf×List Zh×Int×Int×Unit)->Oa (Zf×Bool×Unit))(n:Zj),n=Ea (vO x f.2.1) f->bC k t (zU x f.2.1 n) f fs fs (i:Int)=k (t,fin (zU x f.2.1 (Ea (vO x f.2.1) f)) f.2.1,fs,fs,((i+1:Nat):Int),()):=λk n e=>by
     have s:=vV a Aa f;have:=F4 (β:=(Zf×Bool×Unit)×Unit) Qm6 (x:=zU x f.2.1 (Ea (vO x f.2.1) f)) (id:=f.2.1) (h.str.set s _) Aa (Qe9 j Aa (LI _ f)) (λz=>k (t,z,fs,fs,((i+1:Nat):Int),()));rw[<-this,e];unfold bC gG gH gJ tA tB tC tD;rw[Zr m];rfl
    obtain⟨y,e,D⟩:=R4 a.snd (Rq f);rw[arI a.snd Aa,arS a.snd,show KR f=K2 (Rq f,())from rfl,pA,Qkz a.snd Aa,e];simp only[KA o,Lz];have c:zU x f.2.1 (vO x f.2.1)=x:=by grind[Qfb]
    cases h8:f.1==8
    ·cases h4:f.1==4
     ·cases h5:f.1==5
      ·have g:=b (λv=>Ye N v.1 v.2.1 v.2.2.1 v.2.2.2.1 v.2.2.2.2.1) (vO x f.2.1) (by unfold Ea;rw[h8,h4,h5];rfl)
       grind
      ·exact b (λv=>Ye N v.1 v.2.1 v.2.2.1 v.2.2.2.1 v.2.2.2.2.1) _ (by unfold Ea;rw[h8,h4,h5];rfl)
     ·cases hb:Hk (vO x f.2.1).2.1
      ·have g:=b (λv=>Ye N v.1 v.2.1 v.2.2.1 v.2.2.2.1 v.2.2.2.2.1) (vO x f.2.1) (by unfold Ea;rw[h8,h4,hb];rfl);rw[c]at g;exact g
      ·exact b (λv=>Ye N v.1 v.2.1 v.2.2.1 v.2.2.2.1 v.2.2.2.2.1) (GD (Ov (vO x f.2.1) (5,(vO x f.2.1).2.1.2)) Lc) (by unfold Ea;rw[h8,h4,hb];rfl)
    ·exact b (λv=>Ye N v.1 v.2.1 v.2.2.1 v.2.2.2.1 v.2.2.2.2.1) (Ov (vO x f.2.1) y) (by unfold Ea;rw[h8,e];rfl)
   ·rw[Zm j,Zk (p:=Qk x.2.2.2.1 f.2.1<0)];rfl
  simp_all[Zm,L8]
theorem Qm2{K:Nat}(hK:K<=490000)(t:Zf)(p:Qf)(hf:p.2.1.length<=1000000):∀(N i:Nat)(x:Zf),Qa K x->p.2.1-i<N->i<=p.2.1->dZ N t x p (i:Int)=K2 (((p.2.1.drop i).foldl MR x,K3,()),())
 |0,_,_,_,h,_=>Aa
 |N+1,i,x,h,b,c=>by
  rw[dZ];by_cases a:i<p.2.1
  ·rw[Zl (Zk),Zb,show(i:Int).toNat=i from rfl,Zr a,Qx (d:=Qe) a,Mh,Qzf h hK,pA,Qm2 hK t p hf N (i+1) _ (Qcs h hK _) Aa Aa]
  grind
theorem CL(h:Qa K c)(q:Qf->Bool):Qa K (WJ c ((bW c).filter q)):=⟨h.str,Lw (Mb _ _) h.pk.1,λp a=>h.pk.2 p (Mw.1 a).1⟩
def H8(c:Zf)(n:Int):Zf:=cond (Ht c n) ((LE n (bW c)).1.2.1.foldl MR (WJ c ((bW c).filter λp=>p.1 !=n))) c
theorem Quc(h:Qa K c)(hK:K<=490000)(n:Int):mG c n=K2 ((H8 c n,Ht c n,()),()):=by
 have a:(LE n (bW c)).1.2.1.length<=1000:=Fp h.pk n;unfold mG H8 Ht;rw[Yn h,Qvg h Aa,YJ h];simp only[pA];cases (ci c&& !(c.2.2.2.2.2.2.2.2.2.2.2.2.2.2.2.2.2.1 !=(0:Int)))
 ·rfl
 ·cases hb:(LE n (bW c)).2.1
  ·rfl
  ·rw[Qus h Aa];simp only[pI,Lg,pH,pA,Lf,pG];have:=Qm2 hK Xh (LE n (bW c)).1 Aa (d6 Xh (WJ c ((bW c).filter λp=>p.1 !=n)) (LE n (bW c)).1 0) 0 _ (CL h λp=>p.1 !=n) (by simp[d6]) Aa;exact this
theorem Qze(h:Qa K c)(hK:K<=490000)(n:Int):KB c n=K2 ((H8 c n,Ht c n,()),()):=by
 have a:(LE n (bW c)).1.2.1.length<=1000:=Fp h.pk n;unfold KB H8;rw[Qe4 h Aa,pA];cases Ht c n
 ·rfl
 ·have:=Qmy hK Xh (LE n (bW c)).1.2.1 Aa (kW Xh (WJ c ((bW c).filter λp=>p.1 !=n)) (LE n (bW c)).1.2.1 (LE n (bW c)).1.2.1 0) 0 _ (CL h λp=>p.1 !=n) (by simp[kW]) Aa;exact this
abbrev Q2h(s:Zj)(b:Bool):Zj:=(s.1,s.2.1,s.2.2.1,s.2.2.2.1,s.2.2.2.2.1,s.2.2.2.2.2.1,s.2.2.2.2.2.2.1,s.2.2.2.2.2.2.2.1,s.2.2.2.2.2.2.2.2.1,s.2.2.2.2.2.2.2.2.2.1,b,s.2.2.2.2.2.2.2.2.2.2.2)
def LT(s:Zj)(f:Zh):Zj:=cond (f.1==8) (Ov s (Q1j (mM s.2.1 (Rq f)))) (cond (f.1==4) (GD s (s.2.1.1==4)) (cond (f.1==5) (Qz5 s (La (s.2.2.2.1.1<2))) (cond (f.1==17) (Q2h s K3) s)))
theorem Qef{s:Zj}(h:Xz K s)(hK:K<=1000000)(f:Zh):Xz K (LT s f):=by unfold LT;obtain⟨x,e,hx⟩:=Sj h.snd (Rq f);rw[e];cases f.1==8<;>cases f.1==4<;>cases f.1==5<;>cases f.1==17<;>first|exact h|exact⟨h.snd,h.rcv⟩|exact⟨hx,h.rcv⟩
theorem Qjt(s:Zj)(f:Zh):(LT s f).1=s.1/\(LT s f).2.2.2.1=s.2.2.2.1:=by unfold LT;cases f.1==8<;>cases f.1==4<;>cases f.1==5<;>cases f.1==17<;>exact⟨rfl,rfl⟩
abbrev tl0(x:Zf):Zf:=(x.1,x.2.1,x.2.2.1,x.2.2.2.1,x.2.2.2.2.1,x.2.2.2.2.2.1,x.2.2.2.2.2.2.1,x.2.2.2.2.2.2.2.1,x.2.2.2.2.2.2.2.2.1,x.2.2.2.2.2.2.2.2.2.1,K3,x.2.2.2.2.2.2.2.2.2.2.2)
abbrev tl1(x:Zf):Zf:=(x.1,x.2.1,x.2.2.1,x.2.2.2.1,x.2.2.2.2.1,x.2.2.2.2.2.1,x.2.2.2.2.2.2.1,x.2.2.2.2.2.2.2.1,x.2.2.2.2.2.2.2.2.1,x.2.2.2.2.2.2.2.2.2.1,x.2.2.2.2.2.2.2.2.2.2.1,x.2.2.2.2.2.2.2.2.2.2.2.1,K3,x.2.2.2.2.2.2.2.2.2.2.2.2.2)
abbrev tl2(x:Zf):Zf:=(x.1,x.2.1,x.2.2.1,x.2.2.2.1,x.2.2.2.2.1,x.2.2.2.2.2.1,x.2.2.2.2.2.2.1,x.2.2.2.2.2.2.2.1,x.2.2.2.2.2.2.2.2.1,x.2.2.2.2.2.2.2.2.2.1,x.2.2.2.2.2.2.2.2.2.2.1,K3,x.2.2.2.2.2.2.2.2.2.2.2.2)
def m0(x:Zf)(f:Zh):Zf:=cond (f.1==16) (tl0 x) (cond (f.1==18) (cond f.2.2.2.2.2.2.2.2.1 (tl1 x) (tl2 x)) (cond (Eu f&&La (0<=Qk x.2.2.2.1 f.2.1)) (zU x f.2.1 (LT (vO x f.2.1) f)) x))
def MS(x:Zf):Prop:= ∀s∈x.2.2.2.1,0<=s.2.2.2.1.1
theorem Qeg(h:Qa K x/\MS x)(hK:K<=490000)(f:Zh):Qa K (m0 x f)/\MS (m0 x f):=by
 have g:=h.1.str.len;unfold m0;cases f.1==16
 ·cases f.1==18
  ·by_cases b:0<=Qk x.2.2.2.1 f.2.1
   ·obtain⟨i,j,k⟩:=uT (l:=x.2.2.2.1) Aa f.2.1;rw[Zk b];cases Eu f
    ·exact h
    ·have a:=Z5 (d:=Zc) (show(Qk x.2.2.2.1 f.2.1).toNat<x.2.2.2.1 by omega);refine⟨⟨h.1.str.set (Qef (h.1.str.all _ a) Aa f) _,h.1.pk⟩,λs c=>?_⟩;rcases Mk c with e|e
     ·exact h.2 s e
     ·rw[e,(Qjt _ f).2];exact h.2 _ a
   grind
  ·cases f.2.2.2.2.2.2.2.2.1<;>exact⟨⟨h.1.str,h.1.pk⟩,h.2⟩
 ·exact⟨⟨h.1.str,h.1.pk⟩,h.2⟩
theorem Q0a(h:Qa K x)(hK:K<=490000)(f:Zh):zw x f=K2 ((),m0 x f,()):=by
 have j:=h.str.len;obtain⟨k,m,n⟩:=uT (l:=x.2.2.2.1) Aa f.2.1;unfold zw tF tM tO m0;cases h16:f.1==16
 ·cases h18:f.1==18
  ·unfold v6 gH tB tC tF tR;rw[eW h Aa,Xm,pA];simp only[Qmx,bO,Ur];by_cases a:0<=Qk x.2.2.2.1 f.2.1
   ·rw[if_pos a,Zk a];have i:vO x f.2.1∈x.2.2.2.1:=Z5;have d:=h.str.all _ i;have b:∀c,c=LT (vO x f.2.1) f->aV x c=K2 ((),zU x f.2.1 (LT (vO x f.2.1) f),()):=λc e=>by
     unfold aV tD;have g:(LT (vO x f.2.1) f).1=f.2.1:=by grind[Qjt]
     rw[e,EJ h.str (Qef d Aa f) Aa (by rw[g];exact a),g];rfl
    cases Eu f
    ·rfl
    ·simp only[pI,Lg,Lf,pH,pG];obtain⟨y,e,o⟩:=Sj d.snd (Rq f);rw[show ZQ f=K2 (Rq f,())from rfl,pA,e];cases h8:f.1==8
     ·cases h4:f.1==4
      ·cases h5:f.1==5
       ·cases h17:f.1==17
        ·exact b _ (by unfold LT;rw[h8,h4,h5,h17];rfl)
        ·exact b _ (by unfold LT;rw[h8,h4,h5,h17];rfl)
       ·exact b _ (by unfold LT;rw[h8,h4,h5];rfl)
      ·exact b _ (by unfold LT;rw[h8,h4];rfl)
     ·exact b _ (by unfold LT;rw[h8,e];rfl)
   ·rw[if_neg a,Zm a];simp
  ·cases f.2.2.2.2.2.2.2.2.1<;>rfl
 ·rfl
theorem Qtp(h:0<=r.1):mD r=K2 (La (r.1<2),()):=by grind[yh,Zm]
theorem Qo6{K:Nat}(hK:K<=490000)(t:Zf)(fs:List Zh)(hf:fs.length<=1000000):∀(N i:Nat)(x:Zf),Qa K x/\MS x->fs-i<N->i<=fs->Jv N t x fs fs (i:Int)=K2 (((fs.drop i).foldl m0 x,K3,()),())
 |0,_,_,_,h,_=>Aa
 |N+1,i,x,g,q,r=>by
  have h:=g.1;have s:=h.str.len;rw[Jv];by_cases j:i<fs
  ·rw[Zl (Zk),Zb,show(i:Int).toNat=i from rfl,Qx (d:=Qe) j,Mh,<-Qo6 hK t fs hf N (i+1) _ (Qeg g hK _) Aa Aa];generalize fs.getD i Qe=f;obtain⟨u,w,A⟩:=uT (l:=x.2.2.2.1) Aa f.2.1;have k:∀z:Zf,z.2.2.2.1=x.2.2.2.1->Eu f=Lc->aw (λv=>Jv N v.1 v.2.1 v.2.2.1 v.2.2.2.1 v.2.2.2.2.1) t z f fs fs (i:Int)=Jv N t z fs fs ((i+1:Nat):Int):=λz c a=>by
    unfold aw gG gJ tB tC tD tF tR;rw[c,xX Aa,VB Aa,pA,Un,pA,Zr j]
    grind[Eu]
   unfold m0;cases h16:f.1==16
   ·cases h18:f.1==18
    ·simp only[Lh,pH];cases a:Eu f
     ·exact k x rfl a
     unfold aw gG gJ tB tC tD tF tR;rw[xX Aa,VB Aa,pA,Un,pA,Zr j];unfold Eu at a;rw[a];by_cases c:0<=Qk x.2.2.2.1 f.2.1
     ·have o:(Qk x.2.2.2.1 f.2.1).toNat<x.2.2.2.1:=Aa
      have m:=Z5 (d:=Zc) o;have n:=h.str.all _ m;obtain⟨y,e,B⟩:=Sj n.snd (Rq f);rw[Zk c,Zm (p:=Qk x.2.2.2.1 f.2.1<0),pI,Ll,pH,Lf,pG,Zb,show KR f=K2 (Rq f,())from rfl,pA,Qg3 n.snd Aa,Qtp (g.2 _ m)];unfold LT;rw[e];have b:zU x f.2.1 (vO x f.2.1)=x:=by grind[Qfb]
      cases f.1==8<;>cases f.1==4<;>cases f.1==5<;>cases f.1==17<;>simp only[pG,pH]<;>first|rfl|(rw[b])
     ·rw[Zm c,Zk (p:=Qk x.2.2.2.1 f.2.1<0)];rfl
    ·have a:Eu f=false:=by simp at h18;simp[Eu,h18]
     cases f.2.2.2.2.2.2.2.2.1
     ·grind
     grind
   ·exact k (tl0 x) rfl (by simp at h16;simp[Eu,h16])
  simp_all[Zm,L8]
theorem Qo9{K:Nat}(hK:K<=490000)(t:Zf)(p:Qf)(hf:p.2.1.length<=1000000):∀(N i:Nat)(x:Zf),Qa K x/\MS x->p.2.1-i<N->i<=p.2.1->cN N t x p (i:Int)=K2 (((p.2.1.drop i).foldl m0 x,K3,()),())
 |0,_,_,_,h,_=>Aa
 |N+1,i,x,h,b,c=>by
  rw[cN];by_cases a:i<p.2.1
  ·rw[Zl (Zk),Zb,show(i:Int).toNat=i from rfl,Zr a,Qx (d:=Qe) a,Mh,Q0a h.1 hK,pA,Qo9 hK t p hf N (i+1) _ (Qeg h hK _) Aa Aa]
  grind
def jJ(c:Zf)(n:Int):Zf:=cond (Ht c n) ((LE n (bW c)).1.2.1.foldl m0 (WJ c ((bW c).filter λp=>p.1 !=n))) c
theorem rc0(h:Qa K c)(hK:K<=490000)(hc:ci c=K3):MS c:=λs a=>n9 (h.str.all s a).rcv Aa (((BK h).1 hc).st h Aa a).rcv
theorem Qu8(h:Qa K c)(hK:K<=490000)(n:Int):ku c n=K2 ((jJ c n,Ht c n,()),()):=by
 have b:(LE n (bW c)).1.2.1.length<=1000:=Fp h.pk n;unfold ku jJ Ht;rw[Yn h,Qvg h Aa,YJ h];simp only[pA];cases hc:(ci c&& !(c.2.2.2.2.2.2.2.2.2.2.2.2.2.2.2.2.2.1 !=(0:Int)))
 ·rfl
 ·cases hb:(LE n (bW c)).2.1
  ·rfl
  ·rw[Qus h Aa];simp only[pI,Lg,pH,pA,Lf,pG];have a:=rc0 h hK Af;have:=Qo9 hK Xh (LE n (bW c)).1 Aa (dw Xh (WJ c ((bW c).filter λp=>p.1 !=n)) (LE n (bW c)).1 0) 0 _ ⟨CL h λp=>p.1 !=n,a⟩ (by simp[dw]) Aa;exact this
theorem Qz9(h:Qa K c)(hK:K<=490000)(n:Int):ZZ c n=K2 ((jJ c n,Ht c n,()),()):=by
 have b:(LE n (bW c)).1.2.1.length<=1000:=Fp h.pk n;unfold ZZ jJ;rw[Qe4 h Aa,pA];cases hb:Ht c n
 ·rfl
 ·have a:=rc0 h hK (by simp_all[Ht]);have:=Qo6 hK Xh (LE n (bW c)).1.2.1 Aa (j6 Xh (WJ c ((bW c).filter λp=>p.1 !=n)) (LE n (bW c)).1.2.1 (LE n (bW c)).1.2.1 0) 0 _ ⟨CL h λp=>p.1 !=n,a⟩ (by simp[j6]) Aa;exact this
theorem Qgi(e:Zv)(hl:e.2.2.2.1.length<=1048576):∃r,ba e=K2 (r,())/\lV e=K2 (r,())/\r.length<=1049000:=by
 obtain⟨b,i,j,l⟩:=ES e hl;unfold ba lV;simp only[i,j,pA,eR];cases b
 ·simp_all
 ·obtain⟨hk,f,m⟩:=l rfl;obtain⟨k,d,n,h,z⟩:=e;simp only at hl hk f m⊢;have o:=iM d;have p:=fh d;have u:=Wd d;have q:=iM n;have s:=fh n;have v:=Wd n;generalize Lp d=a at*
  generalize Lp n=c at*
  have g:∃w,Jj k=K2 (w,())/\w.length<=20:=by
   have:k=1\/k=2\/k=3\/k=4\/k=5\/k=6\/k=7\/k=8\/k=9\/k=10\/k=11\/k=12:=Aa
   rcases this with rfl|rfl|rfl|rfl|rfl|rfl|rfl|rfl|rfl|rfl|rfl|rfl<;>exact⟨_,rfl,Ah⟩
  obtain⟨w,g,t⟩:=g;simp only[g];have:k=1\/k=2\/k=3\/k=4\/k=5\/k=6\/k=7\/k=8\/k=9\/k=10\/k=11\/k=12:=Aa
  rcases this with rfl|rfl|rfl|rfl|rfl|rfl|rfl|rfl|rfl|rfl|rfl|rfl
  all_goals
   simp only[wh,uu,uv,oK,kN,kO,eP,qw,qx,Le,pI,pG,pH,pA,o,q,p,s]
   repeat rw[Zb (by simp only[L5,Li,Lo,Z6];omega)]
   refine⟨_,rfl,?_,?_⟩
   ·simp
   ·simp only[L5,Li,Lo];omega
def Fw(f:Zv):Ba:=match ba f with|some (r,_)=>r|none=>[]
theorem Ik(f:Zv)(h:f.2.2.2.1.length<=1048576):ba f=K2 (Fw f,())/\lV f=K2 (Fw f,())/\(Fw f).length<=1049000:=by grind[Qgi,Fw]
def UN(e:Zv):Bool:=match bc e with|some (b,_)=>b|none=>Lc
theorem XW(e:Zv)(hl:e.2.2.2.1.length<=1048576):bc e=K2 (UN e,())/\oz e=K2 (UN e,())/\(UN e=K3->(1<=e.1/\e.1<=12)/\(0<=e.2.1/\e.2.1<=999999)/\(0<=e.2.2.1/\e.2.2.1<=999999)):=by grind[ES,UN]
def SC(k:Int):Ba:=cond (La (1<=k)&&La (k<=12)) (WM.getD k.toNat []) []
def LQ(e:Zv):Zv:=ite (e.1=1\/e.1=11) (e.1,0,0,e.2.2.2.1,()) (ite (e.1=2\/e.1=7) (e.1,e.2.1,0,e.2.2.2.1,()) (ite (e.1=3) (e.1,e.2.1,0,[],()) (ite (e.1=4\/e.1=5\/e.1=6) (e.1,e.2.1,e.2.2.1,[],()) (e.1,0,e.2.2.1,[],()))))
def Gz(e:Zv):Ba:=ite (e.1=1\/e.1=11) e.2.2.2.1 (ite (e.1=2\/e.1=7) (Lp e.2.1++32::e.2.2.2.1) (ite (e.1=3) (Lp e.2.1) (ite (e.1=4\/e.1=5\/e.1=6) (Lp e.2.1++32::Lp e.2.2.1) (Lp e.2.2.1))))
theorem Qlh(e:Zv):uP e=K2 (LQ e,()):=by grind[uP,v7,v8,oc,LQ]
theorem Z79{e:Zv}(hl:e.2.2.2.1.length<=1048576)(h:UN e=K3):LQ e=e:=by
 have a:=(XW e hl).1;unfold bc gH at a;rw[eR,Qlh,h]at a;cases hc:A7 Qs (LQ e) e with
 |true=>
  grind(splits:=20)[A7]
 |false=>
  rw[show Jj e.1=K2 (SC e.1,())from rfl]at a
  grind
theorem GG{e:Zv}(hl:e.2.2.2.1.length<=1048576)(h:UN e=Lc):Fw e=[]:=by have:=(Ik e hl).1;simp_all[ba,XW]
theorem FV(h:1<=k/\k<=12):SC k≠[]/\(32:UInt8)∉SC k/\(10:UInt8)∉SC k/\(SC k).length<=20:=by
 have:k=1\/k=2\/k=3\/k=4\/k=5\/k=6\/k=7\/k=8\/k=9\/k=10\/k=11\/k=12:=Aa
 rcases this with rfl|rfl|rfl|rfl|rfl|rfl|rfl|rfl|rfl|rfl|rfl|rfl<;>decide
theorem jM{e:Zv}(hl:e.2.2.2.1.length<=1048576)(h:UN e=K3):Fw e=SC e.1++32::Gz e:=by
 have b:=(Ik e hl).1;obtain⟨j,-,l⟩:=XW e hl;obtain⟨hk,d,o⟩:=l h;unfold ba at b;rw[j,h,eR,show Jj e.1=K2 (SC e.1,())from rfl]at b;obtain⟨k,f,n,i,z⟩:=e;simp only[pI,pH,pA]at b hl hk d o⊢;have p:=iM f;have s:=Wd f;have q:=iM n;have t:=Wd n;have u:=(FV hk).2.2.2;unfold Gz;unfold kN kO eP at b;simp only[p,q,pA]at b;simp only;generalize SC k=w at*
 generalize Lp f=a at*
 generalize Lp n=c at*
 have g:∀(x y:Ba)(m:Oa Ba),x.length+y.length<=2000000->Zd (x.length+y.length<=Z6) m=m:=λx y m r=>Zb Ak;have:k=1\/k=2\/k=3\/k=4\/k=5\/k=6\/k=7\/k=8\/k=9\/k=10\/k=11\/k=12:=Aa
 rcases this with rfl|rfl|rfl|rfl|rfl|rfl|rfl|rfl|rfl|rfl|rfl|rfl
 all_goals
  simp only[Le,pG,pH]at b
  repeat (rw[g _ _ _ (by simp only[L5,Li,Lo];omega)]at b)
  simp only[pB,pF,and_true]at b;rw[<-b];simp
theorem Z9r:∀(N:Nat)(pre rest:Ba),(pre++rest).length<=1048576->rest.length<N->(32:UInt8)∉pre->
  oe N (pre++rest) (pre.length:Int)=K2 ((ju 32 (pre++rest)).1,(ju 32 (pre++rest)).2.1,())
 |0,_,_,_,h,_=>Aa
 |N+1,pre,[],c,d,f=>by
  simp_all[oe,GT]
 |N+1,pre,b::rest,c,d,f=>by
  unfold oe;simp only[L5,Li]at c d;rw[Zl Ae,Zb Ae];simp only[am];have e:=Iw pre b rest;by_cases g:b=32
  ·subst g;rw[Zl (by rfl)];have i:Lb.wrap ((pre.length:Int)+1)=((pre.length+1:Nat):Int):=Zr (m:=1048576);have n:((pre++32::rest).length:Int)=(pre.length:Int)+rest.length+1:=Ae
   rw[i,Zb Ae,Zb Ae,Zb Ae,Zb Ae,X5,OW 32 pre rest f];have j:((pre++32::rest).drop (0:Int).toNat).take ((pre.length:Int).toNat- (0:Int).toNat)=pre:=Ac
   have k:((pre++32::rest).drop ((pre.length+1:Nat):Int).toNat).take ((((pre++32::rest).length:Nat):Int).toNat- ((pre.length+1:Nat):Int).toNat)=rest:=by
    rw[List.take_of_length_le]
    ·simp
    ·simp;omega
   rw[j,k]
  ·have a:((b.toNat:Int)==(32:Int))=false:=by
    rw[beq_eq_false_iff_ne];intro o;have l:b.toNat=32:=Aa
    exact g (Nh.1 l)
   rw[Zo a,Zr (m:=(pre++b::rest).length) Ac Ae];have:=Z9r N (pre++[b]) rest Ae Aa Ai;simp_all
theorem Qjn(s:Ba)(hs:s.length<=1048576):JY s=K2 ((ju 32 s).1,(ju 32 s).2.1,()):=by have:=Z9r (pm s 0) [] s (by simpa using hs) (by simp[pm]) Ac;simp_all[JY]
def T5:Nat->Ba->Int->Int|0,_,c=>c|m+1,w,c=>T5 m w (ite (SC (13- (m+1:Nat))=w) (13- (m+1:Nat)) c)
def O6(w:Ba):Int:=T5 12 w 0
theorem Qgx(h:1<=k/\k<=12):O6 (SC k)=k:=by
 have:k=1\/k=2\/k=3\/k=4\/k=5\/k=6\/k=7\/k=8\/k=9\/k=10\/k=11\/k=12:=Aa
 rcases this with rfl|rfl|rfl|rfl|rfl|rfl|rfl|rfl|rfl|rfl|rfl|rfl<;>decide
def zE:Zv:=((0:Int),(0:Int),(0:Int),([]:Ba),())
def Cp(s:Ba)(e:Zv):Zv×Bool×Unit:=ite (s≠[]/\Fw e=s) (e,K3,()) (zE,Lc,())
theorem Pi(s:Ba)(t2 e:Zv)(hl:e.2.2.2.1.length<=1048576):aO s t2 e=K2 (Cp s e):=by
 unfold aO Cp;rw[(Ik e hl).1,pA];generalize Fw e=t;by_cases h:s≠[]/\t=s
 ·grind
 ·rw[if_neg h,Zl (by
   grind)]
  rfl
theorem BA(s:Ba)(t2 e:Zv)(hl:e.2.2.2.1.length<=1048576):Kw s t2 e=K2 (Cp s e):=by
 unfold Kw Cp;rw[(XW e hl).2.1,pA];cases hok:UN e
 ·have:=GG hl hok;rw[if_neg Af];rfl
 ·have a:=jM hl hok;simp only[pI,pH,Lk];rw[(Ik e hl).2.1,pA];by_cases h:s≠[]/\Fw e=s
  ·simp_all
  ·rw[if_neg h,Zl (by
    simp only[Mn,beq_eq_false_iff_ne];intro b;simp_all)]
   rfl
def eS(s:Ba):Zv:=
 let k:=O6 (ju 32 s).1
 let r:=(ju 32 s).2.1
 let a:=(ju 32 r).1
 let b:=(ju 32 r).2.1
 if k=1\/k=11 then(k,0,0,r,())
 else if k=2\/k=7 then(k,Gn a,0,b,())
 else if k=3 then(k,Gn r,0,[],())
 else if k=4\/k=5\/k=6 then(k,Gn a,Gn b,[],())
 else(k,0,Gn r,[],())
theorem Qmm(s r:Ba)(t2:Zv)(k:Int)(hs:r.length<=1048576)(N:Nat)(w:Ba):
  V8 (N+1) s t2 w r (k,0,0,[],()) 13=K2 (Cp s
   (let a:=(ju 32 r).1
    let b:=(ju 32 r).2.1
    if k=1\/k=11 then(k,0,0,r,())
    else if k=2\/k=7 then(k,Gn a,0,b,())
    else if k=3 then(k,Gn r,0,[],())
    else if k=4\/k=5\/k=6 then(k,Gn a,Gn b,[],())
    else(k,0,Gn r,[],()))):=by
 obtain⟨t,u⟩:=z0 32 r;have o:=D1 r hs;have p:=D1 (ju 32 r).1;have q:=D1 (ju 32 r).2.1;unfold V8;rw[Zo Ah,Qjn r hs,pA];generalize (ju 32 r).1=a at*
 generalize (ju 32 r).2.1=b at*
 unfold uH tD uI mQ tN;simp only[o,p,q,pA];by_cases f:k=1
 ·simp_all[Pi]
 by_cases e:k=11
 ·simp_all[Pi]
 by_cases g:k=2
 ·grind[Pi]
 by_cases i:k=7
 ·grind[Pi]
 by_cases j:k=3
 ·simp_all[Pi]
 by_cases l:k=4
 ·simp_all[Pi]
 by_cases m:k=5
 ·simp_all[Pi]
 by_cases n:k=6
 ·simp_all[Pi]
 have d:∀c:Int,k≠c->(k==c)=false:=λc h=>by simp[h]
 simp only[d _ f,d _ e,d _ g,d _ i,d _ j,d _ l,d _ m,d _ n,f,e,g,i,j,l,m,n,or_self,if_false,pH];simp_all[Pi]
theorem f9(s r:Ba)(t2:Zv)(w:Ba):∀(m N:Nat)(c:Int),m<N->m<=12->
  V8 N s t2 w r (c,0,0,[],()) ((13-m:Nat):Int)=V8 (N-m) s t2 w r (T5 m w c,0,0,[],()) 13
 |0,N,c,_,_=>by rfl
 |m+1,0,_,h,_=>Aa
 |m+1,N+1,c,h,d=>by
  conv=>lhs;unfold V8
  rw[Zl (Zk),eR,show Jj ((13- (m+1):Nat):Int)=K2 (SC ((13- (m+1):Nat):Int),())from rfl,pA];simp only[uG];have b:((13- (m+1):Nat):Int)=13- (m+1:Nat):=Aa
  rw[Zs,show((13- (m+1):Nat):Int)+1=((13-m:Nat):Int) by omega,show N+1- (m+1)=N-m by omega];simp only[T5];rw[b];by_cases a:SC (13- (m+1:Nat))=w
  ·rw[Zl (by simpa using a),if_pos a];exact f9 s r t2 w m N _ Aa Aa
  ·rw[Zo (by simpa using a),if_neg a];exact f9 s r t2 w m N _ Aa Aa
theorem Qtl(s:Ba)(hs:s.length<=1048576):vq s=K2 (Cp s (eS s)):=by obtain⟨a,b⟩:=z0 32 s;unfold vq;rw[Qjn s hs,pA];have:=f9 s (ju 32 s).2.1 zE (ju 32 s).1 12 13 0 Aa Aa;refine Ln this ?_;exact Qmm s (ju 32 s).2.1 zE _ Aa 0 (ju 32 s).1
def FD{β:Type}(use:Bool)(r:Ba)(K:Int->Ba->Option β):Option β:=ite use (match PI (ju 32 r).1 with|none=>none|some n=>K n (ju 32 r).2.1) (K 0 r)
def vL(k:Int):Bool×Bool×Bool:=ite (k=1\/k=11) (Lc,Lc,K3) (ite (k=2\/k=7) (K3,Lc,K3) (ite (k=3) (K3,Lc,Lc) (ite (k=4\/k=5\/k=6) (K3,K3,Lc) (Lc,K3,Lc))))
theorem Qt3(k:Int):wh k=K2 ((vL k).1,(vL k).2.1,(vL k).2.2,()):=by grind[wh,uu,uv,oK,vL]
def eI(s:Ba):Option Zv:=
 let k:=O6 (ju 32 s).1
 let u:=vL k
 FD u.1 (ju 32 s).2.1 λid r=>FD u.2.1 r λn r=>K2 (k,id,n,(ite u.2.2 r []),())
def vT(s:Ba)(o:Option Zv):Zv×Bool×Unit:=match o with
 |none=>(zE,Lc,())
 |some f=>Cp s f
theorem Fq(r:Ba)(h:r.length<=1048576):yR r [32]=K2 ((ju 32 r).1,(ju 32 r).2.1,(ju 32 r).2.2,()):=by grind[yR,Qwo,Zb]
theorem Qll(s r:Ba)(t2:Zv)(k:Int)(hs:r.length<=1048576)(N:Nat)(w:Ba):
  V1 (N+1) s t2 w r (k,0,0,[],()) 13=K2 (vT s (FD (vL k).1 r λid r=>FD (vL k).2.1 r λn r=>K2 (k,id,n,(ite (vL k).2.2 r []),()))):=by
 obtain⟨h,i⟩:=z0 32 r;obtain⟨j,l⟩:=z0 32 (ju 32 r).2.1;have d:=(HK (ju 32 r).1).2;have e:=(HK (ju 32 (ju 32 r).2.1).1).2;unfold V1 tD tN tR;rw[Zo Ah];simp only[Qt3,pA,Fq r hs,Fq (ju 32 r).2.1 Aa,d,e];generalize vL k=u;obtain⟨b,a,c⟩:=u;unfold FD;have f:∀(x y:Oc Zv Bool),(cond ((K3&& !b)||(Lc&& !a)) x y)=cond b y x:=λx y=>by cases b<;>rfl
 have g:∀(x y:Oc Zv Bool),(cond ((Lc&& !b)||(K3&& !a)) x y)=cond a y x:=λx y=>by cases a<;>rfl
 simp only[f,g];cases b
 ·cases a
  ·cases c
   ·exact BA _ zE _ Ac
   ·exact BA _ zE _ (by simpa using hs)
  ·simp only[pH,pG,if_true,Bool.false_eq_true,if_false];cases PI (ju 32 r).1 with
   |none=>rfl
   |some n=>
    cases c
    ·exact BA _ zE _ Ac
    ·exact BA _ zE _ Ag
 ·simp only[pG,if_true];cases PI (ju 32 r).1 with
  |none=>rfl
  |some n=>
   cases a
   ·cases c
    ·exact BA _ zE _ Ac
    ·exact BA _ zE _ Ag
   ·simp only[pG,if_true,Ng,pI,pH];cases PI (ju 32 (ju 32 r).2.1).1 with
    |none=>rfl
    |some m=>
     cases c
     ·exact BA _ zE _ Ac
     ·exact BA _ zE _ Ag
theorem VJ(s r:Ba)(t2:Zv)(w:Ba):∀(m N:Nat)(c:Int),m<N->m<=12->
  V1 N s t2 w r (c,0,0,[],()) ((13-m:Nat):Int)=V1 (N-m) s t2 w r (T5 m w c,0,0,[],()) 13
 |0,N,c,_,_=>by rfl
 |m+1,0,_,h,_=>Aa
 |m+1,N+1,c,h,d=>by
  conv=>lhs;unfold V1 tD tN tR
  rw[Zl (Zk),show Jj ((13- (m+1):Nat):Int)=K2 (SC ((13- (m+1):Nat):Int),())from rfl,pA];simp only[uq];have b:((13- (m+1):Nat):Int)=13- (m+1:Nat):=Aa
  rw[Zs,show((13- (m+1):Nat):Int)+1=((13-m:Nat):Int) by omega,show N+1- (m+1)=N-m by omega];simp only[T5];rw[b];by_cases a:SC (13- (m+1:Nat))=w
  ·rw[Zl (by simpa using a),if_pos a];exact VJ s r t2 w m N _ Aa Aa
  ·rw[Zo (by simpa using a),if_neg a];exact VJ s r t2 w m N _ Aa Aa
theorem Qsi(s:Ba)(hs:s.length<=1048576):uV s=K2 (vT s (eI s)):=by obtain⟨a,b⟩:=z0 32 s;unfold uV;rw[Fq s hs,pA];have:=VJ s (ju 32 s).2.1 zE (ju 32 s).1 12 13 0 Aa Aa;refine Ln this ?_;exact Qll s (ju 32 s).2.1 zE _ Aa 0 (ju 32 s).1
theorem N3{e:Zv}(hl:e.2.2.2.1.length<=1048576)(h:UN e=K3):eS (Fw e)=e/\eI (Fw e)=K2 e/\Fw e≠[]:=by
 have b:=Z79 hl h;have j:=jM hl h;obtain⟨hk,c,l⟩:=(XW e hl).2.2 h;rw[j];obtain⟨d,a,-,-⟩:=FV hk;refine⟨?_,?_,Ac⟩
 all_goals
  obtain⟨k,f,n,g,z⟩:=e;simp only at hk c l d a;have m:=jF (n:=f);have o:=jF (n:=n);have i:=vR 32 (.inl rfl) f;have p:=vR 32 (.inl rfl) n;unfold LQ at b;unfold Gz;simp only at b
  first|unfold eS|unfold eI
  simp only[OW 32 _ _ a,Qgx hk];have q:k=1\/k=2\/k=3\/k=4\/k=5\/k=6\/k=7\/k=8\/k=9\/k=10\/k=11\/k=12:=Aa
  rcases q with rfl|rfl|rfl|rfl|rfl|rfl|rfl|rfl|rfl|rfl|rfl|rfl
  all_goals
   simp at b;simp[b,vL,FD,Gn,m,o,OW 32 _ _ i,GT 32 _ i,GT 32 _ p]<;>omega
theorem Qh3{use:Bool}{r:Ba}{K:Int->Ba->Option β}{e:β}(h:FD use r K=K2 e):∃n r',r'.length<=r.length/\K n r'=K2 e:=by grind(splits:=20)[z0,FD]
theorem Qs5(s:Ba)(hs:s.length<=1048576):vT s (eI s)=Cp s (eS s):=by
 have a:(eS s).2.2.2.1.length<=1048576:=by
  grind[z0,eS]
 have c:∀e,eI s=K2 e->e.2.2.2.1.length<=1048576:=by
  grind[z0,eI,Qh3]
 have d:∀e:Zv,e.2.2.2.1.length<=1048576->s≠[]->Fw e=s->UN e=true:=λe j k l=>by
  grind[GG]
 by_cases h:s≠[]/\Fw (eS s)=s
 ·have b:=(N3 a (d _ a h.1 h.2)).2.1;rw[h.2]at b;rw[b];rfl
 ·have f:Cp s (eS s)=(zE,Lc,()):=if_neg h;rw[f];cases hf:eI s with
  |none=>rfl
  |some g=>
   show Cp s g=_;have m:=c g hf;by_cases i:s≠[]/\Fw g=s
   ·grind[N3]
   ·exact if_neg i
def Hu(s:Ba):Zv×Bool×Unit:=Cp s (eS s)
theorem Qj1(s:Ba)(hs:s.length<=1048576):vq s=K2 (Hu s)/\uV s=K2 (Hu s):=⟨Qtl s hs,by rw[Qsi s hs,Qs5 s hs];rfl⟩
def TD:List Zv->List Ba->List Zv×Bool×Unit|_,[]=>([],Lc,())|out,[l]=>ite (l=[]) (out,K3,()) ([],Lc,())|out,l::l2::r=>ite ((Hu l).2.1=K3) (TD (out++[(Hu l).1]) (l2::r)) ([],Lc,())
theorem Qdc:∀(r:List Ba)(out:List Zv),(TD out r).1.length<=out.length+r.length
 |[],out=>by simp[TD]
 |[l],out=>by grind[TD]
 |l::a::r,out=>by
  unfold TD;split
  ·have:=Qdc (a::r) (out++[(Hu l).1])
   grind
  ·simp
theorem Qdh:∀(N:Nat)(pre rest:List Ba)(out:List Zv),(pre++rest).length<=1048577->(∀x∈rest,x.length<=1048576)->rest≠[]->rest.length<N+1->out.length<=pre.length->
  dj N out (pre++rest) (pre.length:Int)=K2 (TD out rest)
 |0,_,[],_,_,_,h,_,_=>absurd rfl h
 |0,_,_::_,_,_,_,_,h,_=>by simp at h
 |N+1,pre,[],_,_,_,h,_,_=>absurd rfl h
 |N+1,pre,[l],out,b,c,_,e,g=>by
  simp only[L5,Li,Lo]at b;unfold dj gG;have d:Lb.wrap ((pre.length:Int)+1)=((pre.length+1:Nat):Int):=Zr (m:=1048578);have f:((pre++[l]).length:Int)=(pre.length:Int)+1:=Ac
  rw[d,Zo (Zm),f,Zs];simp only[];have i:(pre.length:Int)+1-1=(pre.length:Int):=Aa
  rw[i,Zb]
  grind(splits:=20)[TD]
 |N+1,pre,l::a::r,out,b,c,_,e,g=>by
  simp only[L5,Li]at b e;unfold dj gG;have d:Lb.wrap ((pre.length:Int)+1)=((pre.length+1:Nat):Int):=Zr (m:=1048578);have f:((pre++l::a::r).length:Int)=(pre.length:Int)+r.length+2:=Ae
  rw[d,Zl (Zk),Zb];rw[show(pre++l::a::r).getD (pre.length:Int).toNat []=l from am pre l (a::r) [],(Qj1 l (c l Ac)).1,pA];simp only[TD];cases hp:(Hu l).2.1
  ·rfl
  ·simp only[pI,pH,if_true];rw[Zb Aj,Iw pre l (a::r)];have j:((pre.length+1:Nat):Int)=((pre++[l]).length:Int):=Ac
   rw[j];exact Qdh N (pre++[l]) (a::r) (out++[(Hu l).1]) Ae (λx hx=>c x Af) Ac Ae Ae
theorem Qdf(lines:List Ba):∀(N:Nat)(pre rest:List Ba)(out:List Zv),lines=pre++rest->lines.length<=1048577->(∀x∈rest,x.length<=1048576)->rest≠[]->rest.length<N+1->out.length<=pre.length->
  cU N lines out ((lines.length-1:Nat):Int) (lines.take (lines.length-1)) ((lines.length-1:Nat):Int) (pre.length:Int)=K2 (TD out rest)
 |0,_,[],_,_,_,_,h,_,_=>absurd rfl h
 |0,_,_::_,_,_,_,_,_,h,_=>by simp at h
 |N+1,pre,[],_,_,_,_,h,_,_=>absurd rfl h
 |N+1,pre,[l],out,a,d,b,_,e,f=>by
  have g:lines.length=pre.length+1:=by rw[a];simp
  unfold cU gG;rw[Zo (Zm),Zb];have c:lines.getD ((lines.length-1:Nat):Int).toNat []=l:=by
   simp_all
  rw[c];unfold TD
  grind
 |N+1,pre,l::i::r,out,a,d,b,_,e,f=>by
  have g:lines.length=pre.length+r.length+2:=Ai
  simp only[Li]at e;unfold cU gG;rw[Zl (Zk),Zb Ai];have c:(lines.take (lines.length-1)).getD (pre.length:Int).toNat []=l:=by
   grind
  rw[c,(Qj1 l (b l Ac)).2,pA];simp only[TD];cases hp:(Hu l).2.1
  ·rfl
  ·simp only[pI,pH,if_true];have j:Lb.wrap ((pre.length:Int)+1)=((pre.length+1:Nat):Int):=Zr (m:=1048578);rw[Zb Aj,j];have k:((pre.length+1:Nat):Int)=((pre++[l]).length:Int):=Ac
   rw[k];exact Qdf lines N (pre++[l]) (i::r) (out++[(Hu l).1]) (by rw[a];simp) d (λx hx=>b x Af) Ac Ae Ae
theorem yc(s:Ba)(hs:s.length<=1048576):o8 s=K2 (TD [] (bu 10 s))/\jy s=K2 (TD [] (bu 10 s)):=by
 obtain⟨h,b⟩:=G7 10 s;have a:=Tg 10 s;have c:=Mi.2 a;constructor
 ·unfold o8;have d:=Qov 10 s hs;rw[show(((10:UInt8).toNat:Int))=10 from rfl]at d;rw[d,pA];have i:Lb.wrap ((0:Int)+1)=1:=rfl;exact Qdh _ [] (bu 10 s) [] Ai (λx hx=>Lw (b x hx) hs) a (by grind[nw]) Ac
 ·unfold jy wv;rw[Zb ⟨Aa,Ac⟩,Qfh 10 s.length s (Mz _),pA];generalize bu 10 s=w at*
  have e:Lb.wrap ((w.length:Int)-1)=((w.length-1:Nat):Int):=Al
  simp only[e];rw[Zb];have f:(w.drop (0:Int).toNat).take (((w.length-1:Nat):Int).toNat- (0:Int).toNat)=w.take (w.length-1):=Ac
  have g:(w.take (w.length-1)).length=w.length-1:=Af
  rw[f,g];exact Qdf w _ [] w [] rfl Aa (λx hx=>Lw (b x hx) hs) a (by grind[nr]) Ac
theorem Ql2(s:Ba):Gp s=(cond (s==([]:Ba)) (K2 (([110,111,110,101]:Ba),())) (K2 (s,()))):=by grind(splits:=20)[Gp,nI]
def NY(f:Zh):Ba:=match gw f with|some (r,_)=>r|none=>[]
def FE(f:Zh):Prop:=f.2.2.2.1.length<=1048576
theorem yT(f:Zh)(h:FE f):gw f=K2 (NY f,())/\rE f=K2 (NY f,())/\(NY f).length<=2000:=by obtain⟨r,a,b,c⟩:=Qgk f h;simp_all[NY]
def MY(s:Ba):Oa Ba:=cond (s==([]:Ba)) (K2 (([110,111,110,101]:Ba),())) (K2 (s,()))
theorem Qfg(l:List Zh)(ho:∀x∈l,FE x)(hl:l.length<=1048576):pb l=MY (L7 (l.map NY) [59,32]):=by
 unfold pb;refine Qe7 (d:=Qe) (ok:=FE) (K:=2000) (λx hx=>(yT x hx).2.2) (L:=Jn) (fin:=MY) ?_ ?_ _ l [] 0 ho hl Aa (by simp[nz]) (by rfl)
 ·intro N l s i h hl hx b;have b:s.length<=2099249152:=b;obtain⟨g,_,j⟩:=yT _ hx
  conv=>lhs;unfold Jn pd gG gO
  rw[Zl (Zk)];have e:(i:Int).toNat=i:=rfl;have c:∀s':Ba,s'.length<=2099249154->(Zd (0<=(i:Int)/\(i:Int)<l.length)<|
    Ld (gw (l.getD (i:Int).toNat Qe)) λa=>
    Zd (s'.length+a.1.length<=Z6)<|
    Jn N l (s'++a.1) (Lb.wrap ((i:Int)+(1:Int))))=Jn N l (s'++NY (l.getD i Qe)) ((i+1:Nat):Int):=by
   grind[Zb,Z6,Zr]
  by_cases f:0<i
  ·rw[Zl (Zk),Zb Ak,if_pos f]
   grind
  grind
 ·intro N l s;unfold Jn;rw[Zo (Zm)];rfl
theorem Qdz(l:List Zh)(ho:∀x∈l,FE x)(hl:l.length<=1048576):ow l=MY (L7 (l.map NY) [59,32]):=by
 unfold ow;have k:(L7 (l.map NY) [59,32]).length<=2099249152:=by
  refine Lw (TS [59,32] 2000 _ λx hx=>?_) ?_
  ·obtain⟨y,g,rfl⟩:=Mx.1 hx;exact(yT y (ho y g)).2.2
  grind
 refine Ln (Z85 (d:=Qe) (ok:=FE) (txt:=NY) (L:=cY) (fin:=λa=>Ld (zy a ([59,32]:Ba)) λb=>Ld (Gp b.1) λc=>K2 (c.1,())) ?_ ?_ _ l [] 0 ho hl Aa (by simp[nu]) Ac) ?_
 rotate_left 2
 ·grind[zy,Zb,Ql2,MY]
 ·intro N a l i h hl hx f;obtain⟨_,j,m⟩:=yT _ hx
  conv=>lhs;unfold cY
  have e:(i:Int).toNat=i:=rfl;rw[Zl (Zk),Zb,e,j]
  grind[Zb,Qd,Zr]
 simp_all[cY]
structure YT(e:Zv):Prop where
 s:bc e=K2 (K3,())
 i:oz e=K2 (K3,())
 k:1<=e.1/\e.1<=12
 t:e.2.2.2.1.length<=1000
theorem Qpr(l:List Zh):(IV l).length<=400:=by
 have a:∀(N:Nat)(s:Ba)(i:Int),Pc (Yp N l s i) λr=>r.1.length<=400:=by
  intro N
  induction N with
  |zero=>intros;exact Pc.none
  |succ N b=>
   intro s i;unfold Yp;exact Pc.ite (λ_=>Pc.guard (Pc.skip λt=>Pc.ite (λ_=>Pc.pure Ah) λ_=>Pc.guard (b _ _))) λ_=>Pc.ite (λ_=>Pc.pure Ah) λh=>Pc.pure Ai
 unfold IV;cases e:cL l with
 |none=>simp
 |some y=>exact a _ _ _ y e
theorem Qry(c:Zf)(b:Int):(LK c b).length<=400:=by grind[LK,Qpr]
def IP(b:Bool):Ba:=cond b [111,107] [110,111]
theorem RG(b:Bool):(IP b).length<=200000:=by cases b<;>decide
theorem Io(y:Zf)(b:Bool):Jw Xh y b=K2 ((IP b,y,()),()):=by cases b<;>rfl
theorem Pf(b:Bool):nI b [111,107] [110,111]=K2 (IP b,()):=by cases b<;>rfl
abbrev Cb(n:Int):Prop:= -9223372036854775808<=n/\n<=9223372036854775807
theorem iz:Cb 0:=Ah
theorem im:Cb (-1):=Ah
theorem Qxx(c:Zf)(u:Bool):Pc (cw c u) λr=>Cb r.1:=by
 have m:∀n s u,Pc (tw n s u) λr=>Cb r.1:=λn s u=>by
  unfold tw mN;exact Pc.skip λ_=>Pc.ite (λ_=>Pc.pure im) λ_=>Pc.guard (by grind[Pc.pure,jK])
 have a:∀u c t x i b,Pc (V7 u c t x i b) λr=>Cb r.1:=λu c t x i b=>by
  unfold V7 tD;exact Pc.ite (λ_=>Pc.pure im) λ_=>(m _ _ _).bind λy e=>Pc.skip λ_=>Pc.skip λ_=>Pc.pure e
 have d:∀u c t x n,Pc (V6 u c t x n) λr=>Cb r.1:=λu c t x n=>by
  unfold V6 tH tL;exact Pc.skip λ_=>Pc.ite (λ_=>a _ _ _ _ _ _) λ_=>a _ _ _ _ _ _
 unfold cw;exact Pc.skip λ_=>Pc.skip λ_=>Pc.ite (λ_=>Pc.pure im) λ_=>Pc.ite (λ_=>d _ _ _ _ _) λ_=>d _ _ _ _ _
theorem Qua(c:Zf)(id:Int)(d:Ba)(hd:d.length<=1000):Pc (bh c id d) λr=>Cb r.1:=by
 have l:∀N r t x n i,Pc (Jr N d r t x n i) λr=>r.2.1=n:=by
  intro N
  induction N with
  |zero=>intros;exact Pc.none
  |succ N b=>
   intros
   unfold Jr;exact Pc.ite (λ_=>Pc.guard (Pc.guard (Pc.guard (b _ _ _ _ _)))) λ_=>Pc.pure rfl
 have m:∀r,Pc (yF r) λr=>Cb r.1:=λr=>by
  unfold yF;refine Pc.skip λ_=>Pc.ite (λ_=>Pc.pure iz) λ_=>Pc.pure ?_;have:=jK (r.1- (Lb.wrap (r.2.2.1-r.2.1)));have:=jK (4611686018427387903-r.2.2.1);omega
 have w:∀r,Pc (jl r d) λr=>Cb r.2.1:=λr=>by
  unfold jl;refine Pc.skip λ_=>(m r).bind λy a z e=>?_;rw[l _ _ _ _ _ _ z e];omega
 have s:∀s,Pc (dC s d) λr=>Cb r.2.1:=λs=>by
  unfold dC tN kT;exact Pc.skip λ_=>Pc.skip λ_=>Pc.ite (λ_=>Pc.pure iz) λ_=>(w _).bind λy a=>Pc.ite (λ_=>Pc.skip λ_=>Pc.pure a) λ_=>Pc.pure a
 unfold bh tD tR;exact Pc.skip λ_=>Pc.skip λ_=>Pc.skip λ_=>Pc.ite (λ_=>Pc.pure iz) λ_=>(s _).bind λy a=>Pc.skip λ_=>Pc.pure a
theorem Qje:∀(l:List Zh)(x:Zf),Cb (qW x l).2
 |[],x=>iz
 |f::r,x=>by
  unfold qW;cases h0:(qN x f).2.1 !=(0:Int)
  ·exact Qje r _
  ·have t:=Qw6 x f;have:=t.2
   grind
section
variable {K:Nat}{c:Zf}
theorem Qm0(i:Qa K c)(hK:K<=400000)(n:Int):Qa (K+1000) (H8 c n):=by
 obtain⟨y,e,a⟩:=Z7u i hK n
 grind[Quc]
theorem Qo8(i:Qa K c)(hK:K<=400000)(n:Int):Qa (K+1000) (jJ c n):=by
 obtain⟨y,e,a⟩:=Z4w i hK n
 grind[Qu8]
theorem Qxc(i:Qa K c)(h25:25<=K)(s:Ba)(hs:s.length<=500)(hK:K<=380000):Qa (K+1000) (Pq c s).1:=by obtain⟨y,e,a⟩:=Qlj i h25 s Aa Aa;rw[(hpE i h25 s).1]at e;cases e;exact a.mono Aa
theorem Qwb(i:Qa K c)(h25:25<=K)(hK:K<=70000){e:Zv}(he:YT e):∃o y,nO c e=K2 ((o,y,()),())/\uU c e=K2 ((o,y,()),())/\o.length<=200000/\Qa (K+1010) y:=by
 have p:=he.t;unfold nO gH uU gH;rw[Yn i,Wh i,zg i,Ih i,he.s,he.i];rw[show iJ c=K2 (R3 c !=(0:Int),())from rfl,show lG c=K2 (R3 c !=(0:Int),())from rfl];simp only[pA];cases hc:ci c
 ·exact⟨_,_,rfl,rfl,Ah,i.mono Aa⟩
 simp only[pI,pH,pA,Lg];cases hz:R3 c !=(0:Int)
 ·simp only[pH];have hk:=he.k;have q:e.1=1\/e.1=2\/e.1=3\/e.1=4\/e.1=5\/e.1=6\/e.1=7\/e.1=8\/e.1=9\/e.1=10\/e.1=11\/e.1=12:=Aa
  rcases q with k|k|k|k|k|k|k|k|k|k|k|k<;>rw[k]<;>simp only[Le,pG,pH]
  ·obtain⟨⟨n,y,g,u⟩,b,a,r⟩:=(Z5m i Aa (e.2.2.2.1==([117,110,105]:Ba))).pc (Qxx _ _);simp only at a r;rw[Qep i _ Aa,b];simp only[pA];have l:=Wd n r.1 r.2;rw[iM n r.1 r.2,fh n r.1 r.2];refine⟨cond (!g) [98,108,111,99,107,101,100] (Lp n),y,?_,?_,by cases g<;>simp<;>omega,a.mono Aa⟩
   ·cases g<;>rfl
   ·cases g<;>rfl
  ·obtain⟨⟨n,y,u⟩,b,a,r⟩:=(Z0r i e.2.1 e.2.2.2.1).pc (Qua _ _ _ p);simp only at a r;rw[Qco i _ _ Aa,b];simp only[pA];have l:=Wd n r.1 r.2;rw[iM n r.1 r.2,fh n r.1 r.2];exact⟨_,y,rfl,rfl,Ag,a.mono Aa⟩
  ·obtain⟨⟨y,g,u⟩,b,a⟩:=Ztx i Aa e.2.1;unfold lj;rw[k];simp only[Le,pG,pH];rw[Z68 i _ Aa,b];simp only[pA,Io,Pf];exact⟨_,y,rfl,rfl,RG _,a.mono Aa⟩
  ·obtain⟨⟨⟨d,f,y,u⟩,v⟩,b,a,r⟩:=Z58 i Aa e.2.1 e.2.2.1;simp only at a r;have m:=Ps d;rw[Qe2 i _ _ Aa,b];simp only[pA];rw[gQ d,C9 d];simp only[pA];refine⟨Td d++(cond f [32,101,110,100] [32,109,111,114,101]),y,?_,?_,by cases f<;>simp<;>omega,a.mono Aa⟩
   ·cases f<;>simp only[pG,pH]<;>rw[Zb Ak]
   ·rw[Zb Ak];cases f<;>simp only[nI,pG,pH,pA]<;>rw[Zb Ak]<;>simp
  ·obtain⟨⟨⟨y,g,u⟩,v⟩,b,a⟩:=Z0g i Aa e.2.1 e.2.2.1;unfold lj;rw[k];simp only[Le,pG,pH];rw[Qb1 i _ _ Aa,b];simp only[pA,Io,Pf];exact⟨_,y,rfl,rfl,RG _,a.mono Aa⟩
  ·obtain⟨⟨y,g,u⟩,b,a⟩:=Qh5 i Aa e.2.1 e.2.2.1;unfold lj;rw[k];simp only[Le,pG,pH];rw[Qfl i _ _ Aa,b];simp only[pA,Io,Pf];exact⟨_,y,rfl,rfl,RG _,a.mono Aa⟩
  ·obtain⟨⟨y,g,u⟩,b,a⟩:=Z0k i Aa e.2.1 e.2.2.2.1 Aa;unfold lj;rw[k];simp only[Le,pG,pH];rw[Qqd i _ _ Aa Aa,b];simp only[pA,Io,Pf];exact⟨_,y,rfl,rfl,RG _,a.mono Aa⟩
  ·have m:=Ps (LK c e.2.2.1);have w:=Qry c e.2.2.1;have j:Cb (TP c e.2.2.1):=by
    have h:=((BK i).1 hc).tail;unfold Rw at h;simp only[pC,dU]at h;have h:0<=IM c/\IM c<=1000000:=h.1.1.1.1.2;unfold TP
    grind
   have l:=Wd (TP c e.2.2.1) j.1 j.2;rw[Qzv i Aa,Qzu i Aa];simp only[pA];rw[iM _ j.1 j.2,fh _ j.1 j.2,gQ _,C9 _];simp only[pA];refine⟨cond (TP c e.2.2.1==(-1:Int)) [110,111,116,104,105,110,103] ((Lp (TP c e.2.2.1)++[32])++Td (LK c e.2.2.1)),OS c e.2.2.1,?_,?_,by grind[TP],(Qrv i Aa _).mono Aa⟩
   ·cases TP c e.2.2.1==(-1:Int)
    ·rw[pH,pH,Zb Ak,Zb Ak]
    ·rfl
   grind[Zb,Z6,nI]
  ·unfold lj;rw[k];simp only[Le,pG,pH];rw[Quc i Aa,Qze i Aa];simp only[pA,Io,Pf];exact⟨_,_,rfl,rfl,RG _,(Qm0 i Aa _).mono Aa⟩
  ·unfold lj;rw[k];simp only[Le,pG,pH];rw[Qu8 i Aa,Qz9 i Aa];simp only[pA,Io,Pf];exact⟨_,_,rfl,rfl,RG _,(Qo8 i Aa _).mono Aa⟩
  ·have m:=Ps (LK c e.2.2.1);have w:2*(XU e.2.2.2.1).length<=e.2.2.2.1.length:=by
    unfold XU;cases hx:ub e.2.2.2.1 with
    |none=>simp
    |some d=>simp_all[E3]
   obtain⟨x,z⟩:=gb e.2.2.2.1 Aa;obtain⟨A,B⟩:=hpE i h25 (XU e.2.2.2.1);have r:Cb (Pq c (XU e.2.2.2.1)).2:=by
    unfold Pq;rw[hc,hz];cases (LY (V4 (XU e.2.2.2.1))).2.1
    all_goals simp_all[Cb,Qje]
   have l:=Wd (Pq c (XU e.2.2.2.1)).2 r.1 r.2;rw[x,z];simp only[pA];rw[A,B];simp only[pA];rw[iM _ r.1 r.2,fh _ r.1 r.2];simp only[pA];rw[Zb Ak];exact⟨_,_,rfl,rfl,Ae,(Qxc i h25 _ Aa Aa).mono Aa⟩
  ·obtain⟨⟨y,g,u⟩,b,a⟩:=Qpq i Aa e.2.2.1;unfold lj;rw[k];simp only[Le,pH];rw[Ql6 i _ Aa,b];simp only[pA,Io,Pf];exact⟨_,y,rfl,rfl,RG _,a.mono Aa⟩
 ·exact⟨_,_,rfl,rfl,Ah,i.mono Aa⟩
end
def fm(e:Zv):Zv:=(e.1,(ite (e.1=1\/e.1=11\/8<=e.1) 0 e.2.1),(ite (e.1<=3\/e.1=7\/e.1=11) 0 e.2.2.1),(ite (e.1<=2\/e.1=7\/e.1=11) e.2.2.2.1 []),())
theorem OA{e:Zv}(h:1<=e.1/\e.1<=12):uP e=K2 (fm e,())/\fm (fm e)=fm e:=by
 obtain⟨k,a,n,t,u⟩:=e;have:k=1\/k=2\/k=3\/k=4\/k=5\/k=6\/k=7\/k=8\/k=9\/k=10\/k=11\/k=12:=Aa
 rcases this with rfl|rfl|rfl|rfl|rfl|rfl|rfl|rfl|rfl|rfl|rfl|rfl<;>exact⟨rfl,rfl⟩
theorem Qzb(h:1<=k/\k<=12):∃w,d9 k=K2 (w,())/\(w==([]:Ba))=false:=by
 unfold d9;rw[Uk,dU.2 h,pA];simp only[pI,pH];rw[Zs,Zb (by grind[Li])];refine⟨_,rfl,?_⟩;have:k=1\/k=2\/k=3\/k=4\/k=5\/k=6\/k=7\/k=8\/k=9\/k=10\/k=11\/k=12:=Aa
 rcases this with rfl|rfl|rfl|rfl|rfl|rfl|rfl|rfl|rfl|rfl|rfl|rfl<;>rfl
structure Ev0(e:Zv):Prop where
 k:1<=e.1/\e.1<=12
 id:0<=e.2.1/\e.2.1<=999999
 n:0<=e.2.2.1/\e.2.2.1<=999999
 t:e.2.2.2.1.length<=1000
 t1:e.1=1->(e.2.2.2.1==([98,105,100,105]:Ba)||e.2.2.2.1==([117,110,105]:Ba))=K3
 t2:e.1=2->e.2.2.2.1.all (Iu 97 122)&&PS e.2.2.2.1
 t7:e.1=7->e.2.2.2.1.all (Iu 32 126)&&PS e.2.2.2.1
 t11:e.1=11->(ub e.2.2.2.1).isSome=K3/\1<=(XU e.2.2.2.1).length/\(XU e.2.2.2.1).length<=400
theorem Qz2{e:Zv}(h:Ev0 e):YT (fm e):=by
 obtain⟨-,o⟩:=OA h.k;have k:1<=(fm e).1/\(fm e).1<=12:=h.k;obtain⟨m,-⟩:=OA k;rw[o]at m;have s:(fm e).2.2.2.1.length<=1000:=by
  show(if _ then _ else _:Ba).length<=1000;split
  ·exact h.t
  ·simp
 have g:PF (fm e).2.1 0 999999=true:=dU.2 (by
  show 0<=(if _ then _ else _:Int)/\(if _ then _ else _:Int)<=999999;have:=h.id;split<;>omega)
 have p:PF (fm e).2.2.1 0 999999=true:=dU.2 (by
  show 0<=(if _ then _ else _:Int)/\(if _ then _ else _:Int)<=999999;have:=h.n;split<;>omega)
 have u:bc (fm e)=K2 (K3,()):=by
  obtain⟨w,q,r⟩:=Qzb k;unfold bc gH;rw[q];simp only[pA,r,pH];rw[m];simp only[pA];rw[xW (T:=Qs) rfl];simp only[pI,Lg,pH,Uk,pA,g,p];show(cond (e.1==1) _ _)=_;by_cases i:e.1=1
  ·have c:(fm e).2.2.2.1=e.2.2.2.1:=if_pos Aa;rw[show(e.1==(1:Int))=K3 by simpa using i,pG,c,h.t1 i]
  rw[show(e.1==(1:Int))=Lc by simpa using i,pH];show(cond (e.1==2) _ _)=_;by_cases j:e.1=2
  ·have c:(fm e).2.2.2.1=e.2.2.2.1:=if_pos Aa;rw[show(e.1==(2:Int))=K3 by simpa using j,pG,c,Gd _ Ai,h.t2 j];rfl
  rw[show(e.1==(2:Int))=Lc by simpa using j,pH];show(cond (e.1==7) _ _)=_;by_cases l:e.1=7
  ·have c:(fm e).2.2.2.1=e.2.2.2.1:=if_pos Aa;rw[show(e.1==(7:Int))=K3 by simpa using l,pG,c,la _ Ai,h.t7 l];rfl
  rw[show(e.1==(7:Int))=Lc by simpa using l,pH];show(cond (e.1==11) _ _)=_;by_cases f:e.1=11
  ·have c:(fm e).2.2.2.1=e.2.2.2.1:=if_pos Aa;obtain⟨a,b,d⟩:=h.t11 f;rw[show(e.1==(11:Int))=K3 by simpa using f,pG,c,(gb _ Ai).1,a];simp_all[dU]<;>omega
  grind
 constructor<;>grind[ES]
theorem Qtn(c:Qg)(h:Ys c):T (lT c 7) λr=>Ys r.2.1/\r.1.1.length<=7/\r.1.1.all (Iu 97 122)=true:=by
 refine((LP c 7 h).pc (R:=λr=>r.1.1.all (Iu 97 122)=K3) ?_).mono λy a=>⟨a.1.1,a.1.2,a.2⟩
 have g:∀(N:Nat)(c:Qg)(s:Ba)(n:Int),s.all (Iu 97 122)=K3->Pc (jr N c s n) λr=>r.1.1.all (Iu 97 122)=true:=by
  intro N
  induction N with
  |zero=>intros;exact Pc.none
  |succ N d=>
   intro c s n f;unfold jr;refine Pc.ite (λ_=>Pc.bind (Q:=λt=>t.1.1.all (Iu 97 122)=K3) ?_ λt i=>Pc.guard (d _ _ _ Af)) λ_=>Pc.pure f;unfold lQ gG;refine Pc.skip λt=>λy e=>?_;by_cases b:0<=t.1.1/\t.1.1<(([([97]:Ba),([98]:Ba),([99]:Ba),([100]:Ba)]).length:Int)
   ·rw[Zb b]at e;cases e;have:t.1.1=0\/t.1.1=1\/t.1.1=2\/t.1.1=3:=by simp at b;omega
    rcases this with q|q|q|q<;>rw[q]<;>rfl
   simp_all[Zd]
 simp_all[lT,Pc.skip]
theorem Qza(hk:f.1=4\/f.1=5\/f.1=8\/f.1=16\/f.1=17\/f.1=18\/f.1=20\/f.1=21\/f.1=22)(hl:f.2.2.2.1.length<=10)(h1:0<=f.2.1/\f.2.1<=100)(h2:0<=f.2.2.1/\f.2.2.1<=100)(h3:0<=f.2.2.2.2.2.1/\f.2.2.2.2.2.1<=100)(h4:0<=f.2.2.2.2.2.2.1/\f.2.2.2.2.2.2.1<=100)(h5:0<=f.2.2.2.2.2.2.2.1/\f.2.2.2.2.2.2.2.1<=100):Pc (po f) λr=>Ym r.1=K3/\r.1.2.2.2.1.length<=10:=λy e=>by
 obtain⟨k,q,c,d,fin,b,g,s,u,z⟩:=f;simp only at hk hl h1 h2 h3 h4 h5;have a:∀{n:Int},0<=n/\n<=100->fq n=true:=λh=>fg h.1;have i:=a h1;have j:=a h2;have l:=a h3;have m:=a h4;have o:=a h5
 have p:fq 0=true:=rfl;rcases hk with rfl|rfl|rfl|rfl|rfl|rfl|rfl|rfl|rfl<;>cases e<;>constructor<;>simp[Ym,Ky,p,i,j,l,m,o]<;>omega
theorem Qlp(c:Qg)(hc:Ys c):T (uR c) λr=>Ys r.2.1/\Ym r.1.1=K3/\r.1.1.2.2.2.1.length<=10:=by
 unfold uR;refine(ZG c _ hc Ac).bind λm g=>(bw _ _ g.1).bind λn a=>(bw _ _ a.1).bind λo b=>(LP _ 6 b.1).bind λp h=>(He _ _ h.1).bind λq i=>(bw _ _ i).bind λs d=>(bw _ _ d.1).bind λu e=>(bw _ _ e.1).bind λv f=>(He _ _ f.1).bind λw j=>?_;have x:=a.2.2 Aa;have y:=b.2.2 Aa;have z:=d.2.2 Aa;have A:=e.2.2 Aa;have B:=f.2.2 Aa
 have C:=a.2.1;have D:=b.2.1;have E:=d.2.1;have F:=e.2.1;have G:=f.2.1
 have k:=g.2;simp only[Lv,Mj,or_false]at k;refine((Qoy _ Ap).pc (Qza Ag Ag Ag Ag Ag Ag Ag)).bind λt l=>T.pure ⟨j,l.2⟩
theorem Pl(c:Qg)(hc:Ys c):T (wu c) λr=>Ys r.2.1/\YT r.1.1:=by
 have f:∀(c:Qg)(t e:Zv),Ys c->Ev0 e->T (Wm c t e) λr=>Ys r.2.1/\YT r.1.1:=λc t e hc h=>by
  unfold Wm;rw[(OA h.k).1,pA];simp_all[T.pure,Qz2]
 unfold wu;refine(ZG c _ hc Ac).bind λd z=>(bw _ _ z.1).bind λD s=>(bw _ _ s.1).bind λE i=>?_;have I:=s.2.2 Aa;have J:=i.2.2 Aa
 have K:=s.2.1;have L:=i.2.1
 have m:=z.2;simp only[Lv,Mj,or_false]at m;have hk:1<=d.1.1/\d.1.1<=12:=Aa
 have M:∀(c:Qg)(t:Zv)(b:Bool),Ys c->d.1.1≠1->d.1.1≠2->d.1.1≠7->d.1.1≠11->T (ta c t (d.1.1,D.1.1,E.1.1,([]:Ba),()) b) λr=>Ys r.2.1/\YT r.1.1:=λc t b hc A B C o=>by
  unfold ta tN;exact T.if ((bw _ _ hc).bind λN F=>f _ _ _ F.1 ⟨hk,Ag,Ai,Ac,λh=>absurd h A,λh=>absurd h B,λh=>absurd h C,λh=>absurd h o⟩) (f _ _ _ hc ⟨hk,Ag,Ag,Ac,λh=>absurd h A,λh=>absurd h B,λh=>absurd h C,λh=>absurd h o⟩)
 refine T.ite (λu=>(Fc _ _ i.1 Ac).bind λj a=>?_) λu=>T.ite (λv=>(Qtn _ i.1).bind λj a=>T.guard Ak ?_) λv=>T.ite (λw=>(Fc _ _ i.1 Ac).bind λj a=>?_) λw=>T.ite (λx=>(bw _ _ i.1).bind λj a=>?_) λx=>T.ite (λl=>(Qlp _ i.1).bind λj a=>?_) λl=>?_
 ·have u:d.1.1=1:=by simpa using u
  have m:=a.2;simp only[Lv,Mj,or_false]at m;refine f _ _ _ a.1 ⟨hk,Ag,Ag,?_,λ_=>?_,λh=>?_,λh=>?_,λh=>?_⟩
  all_goals grind
 ·have v:d.1.1=2:=by simpa using v
  have G:((([97]:Ba)++j.1.1).length:Nat)<=8:=Ae
  refine f _ _ _ a.1 ⟨hk,Ag,Ag,Ag,λh=>?_,λ_=>?_,λh=>?_,λh=>?_⟩
  ·omega
  ·simp only[List.all_append,a.2.2,L6,PS];rw[Zk Ae,Zk];rfl
  all_goals omega
 ·have w:d.1.1=7:=by simpa using w
  have m:=a.2;simp only[Lv,Mj,or_false]at m;refine f _ _ _ a.1 ⟨hk,Ag,Ag,?_,λh=>?_,λh=>?_,λ_=>?_,λh=>?_⟩
  ·grind
  ·omega
  ·omega
  ·rcases m with q|q|q|q<;>simp only[q]<;>decide
  omega
 ·have x:d.1.1=8:=by simpa using x
  have O:=a.2.2 Aa;have P:=a.2.1
  rw[Zs];exact f _ _ _ a.1 ⟨hk,Ag,Ag,Ac,λh=>Aa,λh=>Aa,λh=>Aa,λh=>Aa⟩
 ·have l:d.1.1=11:=by simpa using l
  have H:RH j.1.1:=by unfold RH;omega
  obtain⟨y,e,Q⟩:=PW H;have p:=Us a.2.1;have q:gS j.1.1<=100:=by
   unfold gS;rw[if_pos a.2.1];have g:=λn=>(yw n).2
   grind
  have G:=Ps y.1;have S:XU (Td y.1)=y.1:=by simp_all[XU,FF]
  rw[e,pA,gQ y.1,pA];refine f _ _ _ a.1 ⟨hk,Ag,Ag,Ag,λh=>?_,λh=>?_,λh=>?_,λ_=>⟨?_,?_,?_⟩⟩
  all_goals grind[FF]
 grind
structure CY(c:cP):Prop where
 b:Cq c=K3
 t:(1<=c.2.2.2.1/\c.2.2.2.1<=c.2.2.2.2.1)/\c.2.2.2.2.1<=4096
 bi:0<=c.2.2.2.2.2.1/\c.2.2.2.2.2.1<=1000
 un:0<=c.2.2.2.2.2.2.1/\c.2.2.2.2.2.2.1<=1000
theorem EV{c:cP}(h:aL c=K2 (K3,())):Cq c=true:=by grind[RJ]
theorem Qur(c:Qg)(hc:Ys c):T (cy c) λr=>Ys r.2.1/\CY r.1.1:=by
 unfold cy zn;rw[pA];have b:CY (8,4,32,6,64,1,2,4,()):=⟨EV rfl,Ah,Ah,Ah⟩
 have d:CY (16,8,32,16,64,3,1,2,()):=⟨EV rfl,Ah,Ah,Ah⟩
 have e:CY (16,8,32,16,64,2,2,4,()):=⟨EV rfl,Ah,Ah,Ah⟩
 exact(bw _ _ hc).bind λt a=>T.if (T.pure ⟨a.1,b⟩) (T.if (T.pure ⟨a.1,d⟩) (T.pure ⟨a.1,e⟩))
theorem Q0d(v:Bool){o p:cP}(ho:CY o)(hp:CY p):T (ej v o p) λr=>r.2.1=K3/\r.1.1=v/\r.1.2.1=o/\r.1.2.2.1=p:=by
 have k:=hp.t;have l:=ho.t;have d:=hp.bi;have e:=hp.un;have f:=ho.bi;have g:=ho.un
 have i:bZ p.2.2.2.1=K2 ((p.2.2.2.1,(0:Int),(-1:Int),(-1:Int),()),K3,()):=by
  grind[bZ,Jl,Jz]
 have j:cd o.2.2.2.1 o.2.2.2.2.1=K2 ((o.2.2.2.1,o.2.2.2.2.1,o.2.2.2.1,VA),K3,()):=by
  grind[cd,Uk,dU]
 have a:∀n:Int,0<=n/\n<=1000->wm n=K2 ((n,(0:Int),(-1:Int),()),K3,()):=λn h=>by
  grind[wm,Uk,dU]
 have c:∀n:Int,0<=n/\n<=1000->wk n=K2 ((n,n,(0:Int),(0:Int),()),K3,()):=λn h=>by
  grind[wk,Uk,dU]
 unfold ej gH;rw[RJ,ho.b,RJ,hp.b,i,j,a _ d,a _ e,c _ f,c _ g];exact⟨_,rfl,rfl,rfl,rfl,rfl⟩
theorem Qej:∀(N:Nat)(h:Int)(s:Ba)(i:Nat),s.length<=9223372036854775807->i<=s.length->s.length-i<N-> ∃r,yQ N h s i=K2 (r,())/\ZD N h s i=K2 (r,())
 |0,_,_,_,_,_,h=>Aa
 |N+1,h,s,i,a,c,d=>by
  unfold yQ gG ZD gG;by_cases b:i<s.length
  ·simp only[Zl (Zk (show(i:Int)<(s.length:Int) by omega))];rw[Zb,Zb Ah,Zb,Zb Ah,Zr b a,Int.mul_comm 131 h];exact Qej N _ s (i+1) a b Aa
  simp_all[Zm]
theorem DP(h:Int)(s:Ba)(hs:s.length<=9223372036854775807):∃r,YL h s=K2 (r,())/\VV h s=K2 (r,()):=Qej ((s.length:Int)-0).toNat.succ h s 0 hs Aa Aa
theorem Zzt:∀(N:Nat)(h:Int)(l:List Ba)(i:Nat),l.length<=9223372036854775807->(∀x∈l,x.length<=1048576)->i<=l.length->l.length-i<N->
  ∃r,jh N l h i=K2 (r,())/\iS N h l (l.length:Int) i=K2 (r,())
 |0,_,_,_,_,_,_,h=>Aa
 |N+1,h,l,i,b,hx,g,j=>by
  unfold jh gG iS gG;by_cases c:i<l.length
  ·have e:l.getD (i:Int).toNat ([]:Ba)=l[i]:=Af
   have k:l[i].length<=1048576:=hx _ Ac;have a:l[i].length+([10]:Ba).length<=Z6:=Ak
   obtain⟨m,d,f⟩:=DP h (l[i]++[10]) Ae;simp only[Zl (Zk (show(i:Int)<(l.length:Int) by omega)),e];rw[Zb,Zb a,Zb,Zb a,Zr c b,d,f];simp only[pA];exact Zzt N _ l (i+1) b hx c Aa
  simp_all[Zm]
theorem Z78:∀(N M:Nat)(a b:List Ba)(i:Nat),a.length<=1048576->b.length<=1048576->i<=a.length->i<=b.length->a.length-i<N->min a.length b.length-i<M->
  ∃r,dr N a b i=K2 (r,())/\cX M a b (min (a.length:Int) (b.length:Int)) i=K2 (r,())
 |0,_,_,_,_,_,_,_,_,h,_=>Aa
 |_,0,_,_,_,_,_,_,_,_,h=>Aa
 |N+1,M+1,a,b,i,d,e,f,g,j,k=>by
  unfold dr gG cX gG;by_cases h:i<a.length/\i<b.length
  ·have c:(La ((i:Int)<(a.length:Int))&&La ((i:Int)<(b.length:Int)))=true:=by
    simp;omega
   simp only[Zl c,Zl (Zk (show(i:Int)<min (a.length:Int) (b.length:Int) by omega))];rw[Zb,Zb,Zb,Zb,Zr h.1];obtain⟨r,l,m⟩:=Z78 N M a b (i+1) d e h.1 h.2 Aa Aa
   grind
  ·have c:(La ((i:Int)<(a.length:Int))&&La ((i:Int)<(b.length:Int)))=false:=by
    simp;omega
   simp only[Zo c,Zo (Zm (show ¬(i:Int)<min (a.length:Int) (b.length:Int) by omega))];cases ((a.length:Int)==(b.length:Int))
   all_goals simp_all
def LH(l:List Zh):Ba:=cond (L7 (l.map NY) [59,32]==([]:Ba)) [110,111,110,101] (L7 (l.map NY) [59,32])
theorem frm{l:List Zh}(h:Ep l):pb l=K2 (LH l,())/\ow l=K2 (LH l,())/\(LH l).length<=3000000:=by
 have c:=h.1;have a:∀x∈l,FE x:=λx hx=>by have:=h.2 x hx;grind[RH,FE]
 have d:(L7 (l.map NY) [59,32]).length<=2002*l.length:=by
  have:=TS [59,32] 2000 (l.map NY) λx hx=>by
   obtain⟨y,b,rfl⟩:=Mx.1 hx;exact(yT y (a y b)).2.2
  simpa using this
 constructor<;>grind[Qfg,Qdz,MY,LH]
theorem H5(l:List Ba)(hl:l.length<=1000000:=by omega):rT l l=K2 (K3,()):=by
 have b:∀(N i:Nat),l.length-i<N->i<=l.length->oL N l l (i:Int)=K2 (K3,()):=by
  intro N
  induction N with
  |zero=>intro i h;omega
  |succ N c=>
   intro i d e;unfold oL gG;by_cases a:i<l.length
   ·rw[Zl (Zk),Zb,Zb,Zo Ac,Zr a]
    grind
   grind
 unfold rT;rw[Zo Ac]
 grind[ux]
theorem Qeb{s:Ba}(h:PS s=K3):s.length<=40:=by grind[PS]
theorem Z6u:∀{s d:Ba},ub s=K2 d->(10:UInt8)∉s
 |[],_,_=>Ac
 |[a],_,h=>by simp[ub]at h
 |a::b::r,d,h=>by
  unfold ub at h;have e:hv 10= -1:=Ah
  intro c;simp only[Lv]at c;rcases c with q|q|q
  ·simp_all
  ·simp_all
  ·cases hu:ub r with
   |none=>simp_all
   |some x=>exact Z6u hu q
theorem Qct{lo hi:Int}(h1:10<lo){s:Ba}(h:s.all (Iu lo hi)=K3):(10:UInt8)∉s:=λa=>by
 grind[Iu]
theorem Qr4{e:Zv}(hl:e.2.2.2.1.length<=1048576)(hf:LQ e=e):Pc (bc e) λr=>r.1=K3->e.2.2.2.1.length<=1000/\(10:UInt8)∉e.2.2.2.1:=by
 unfold bc gH;refine Pc.skip λ_=>Pc.skip λ_=>Pc.skip λ_=>Pc.skip λ_=>Pc.ite (λ_=>Pc.pure λq=>by cases q) λ_=>Pc.ite (λ_=>Pc.pure λq=>?_) λb=>Pc.ite (λ_=>?_) λc=>Pc.ite (λ_=>?_) λf=>Pc.ite (λ_=>?_) λa=>Pc.pure λ_=>?_
 ·grind
 ·rw[Gd _ hl,pA];refine Pc.pure λq=>?_;simp only[pC]at q;have:=Qeb q.2;exact⟨Aa,Qct Ah q.1⟩
 ·rw[la _ hl,pA];refine Pc.pure λq=>?_;simp only[pC]at q;have:=Qeb q.2;exact⟨Aa,Qct Ah q.1⟩
 ·rw[(gb _ hl).1,pA];cases hu:ub e.2.2.2.1 with
  |none=>simp_all[Pc.pure]
  |some d=>
   have:=E3 hu;simp only[Ng,pG];rw[Uk,pA];refine Pc.pure λq=>?_;simp_all[dU,XU,Z6u]<;>omega
 constructor<;>grind[LQ]
theorem Qdm{e:Zv}(hl:e.2.2.2.1.length<=1048576)(h:UN e=K3):YT e/\(10:UInt8)∉e.2.2.2.1:=by obtain⟨a,b,hk⟩:=XW e hl;have k:=Qr4 hl (Z79 hl h) _ a h;rw[h]at a b;exact⟨⟨a,b,(hk h).1,k.1⟩,k.2⟩
theorem YT.ok{e:Zv}(h:YT e):UN e=true:=by have:=h.s;rw[(XW e (by have:=h.t;omega)).1]at this;simp_all
def Dt(c:Zf)(e:Zv):Ba×Zf:=match nO c e with|some ((o,y,_),_)=>(o,y)|none=>([],c)
def XR:List Zv->Zf->List Ba|[],_=>[]|e::l,c=>(Dt c e).1::XR l (Dt c e).2
def OY:List Zv->Zf->Zf|[],c=>c|e::l,c=>OY l (Dt c e).2
theorem D8:∀(l:List Zv)(c:Zf),(XR l c).length=l.length
 |[],_=>rfl
 |e::l,c=>by simp[XR,D8 l]
theorem Z9d:∀(n:Nat)(l:List Zv)(c:Zf),XR (l.take n) c=(XR l c).take n
 |0,_,_=>by simp[XR]
 |n+1,[],_=>by simp[XR]
 |n+1,e::l,c=>by simp[XR,Z9d n l]
section
theorem vi(A:Qa K c)(h25:25<=K)(hK:K<=70000){e:Zv}(he:YT e):nO c e=K2 (((Dt c e).1,(Dt c e).2,()),())/\uU c e=K2 (((Dt c e).1,(Dt c e).2,()),())/\Qa (K+1010) (Dt c e).2/\(Dt c e).1.length<=200000:=by grind(splits:=20)[Qwb,Dt]
theorem Qvs:∀(l:List Zv)(K:Nat)(c:Zf),Qa K c->25<=K->K+1010*l.length<=70000->(∀e∈l,YT e)->Qa (K+1010*l.length) (OY l c)
 |[],_,_,A,_,_,_=>A
 |e::l,K,c,A,a,d,b=>by
  simp only[Li]at d⊢;obtain⟨-,-,B,-⟩:=vi A a Aa (b e L2);have:=Qvs l (K+1010) _ B Aa Aa λx hx=>b x (Ls _ hx);exact this.mono Aa
theorem Q0y:∀(N m:Nat)(pre rest:List Zv)(K:Nat)(c:Zf)(out:List Ba),m+pre.length=60->rest.length<N->(pre++rest).length<=1048577->Qa K c->25<=K->K+1010*m<=70000->(∀e∈rest,YT e)->out.length<=pre.length->
  eu N (pre++rest) Xh c out (pre.length:Int)=K2 ((out++XR (rest.take m) c,OY (rest.take m) c,()),())
 |0,_,_,_,_,_,_,_,h,_,_,_,_,_,_=>Aa
 |N+1,m,pre,[],K,c,out,f,d,g,A,a,i,b,j=>by
  simp_all[eu,XR,OY]
 |N+1,0,pre,e::r,K,c,out,f,d,g,A,a,i,b,j=>by
  simp_all[eu,XR,OY]
 |N+1,m+1,pre,e::r,K,c,out,f,d,g,A,a,i,b,j=>by
  have k:(pre++e::r).length=pre.length+r.length+1:=Ae
  have l:Lb.wrap ((pre.length:Int)+1)=((pre.length+1:Nat):Int):=Zr (m:=1048578) Aa Ah;obtain⟨n,-,B,-⟩:=vi A a Aa (b e L2);unfold eu;rw[Zk (show(pre.length:Int)<((pre++e::r).length:Int) by omega),Zk (show(pre.length:Int)<(60:Int) by omega),pJ,pG,Zb,Xm];rw[show(pre++e::r).getD (pre.length:Int).toNat bz=e from am pre e r bz,n,pA];unfold JV;rw[Zb Aj,l,Iw pre e r];have o:((pre.length+1:Nat):Int)=((pre++[e]).length:Int):=Ac
  rw[o];simp only;rw[Q0y N m (pre++[e]) r (K+1010) _ _ Ae (by simp at d;omega) Af B Aa Aa (λx hx=>b x (Ls _ hx)) Ae];simp[XR,OY]
theorem Q0x:∀(N:Nat)(pre rest:List Zv)(K:Nat)(c:Zf)(out:List Ba),rest.length<N->(pre++rest).length<=60->Qa K c->25<=K->K+1010*rest.length<=70000->(∀e∈rest,YT e)->out.length<=pre.length->
  j9 N Xh out c (pre++rest) ((pre++rest).length:Int) (pre.length:Int)=K2 ((out++XR rest c,OY rest c,()),())
 |0,_,_,_,_,_,h,_,_,_,_,_,_=>Aa
 |N+1,pre,[],K,c,out,d,g,A,a,f,b,i=>by
  simp_all[j9,XR,OY]
 |N+1,pre,e::r,K,c,out,d,g,A,a,f,b,i=>by
  have j:(pre++e::r).length=pre.length+r.length+1:=Ae
  have k:Lb.wrap ((pre.length:Int)+1)=((pre.length+1:Nat):Int):=Zr (m:=1048578) Aa Ah;simp only[Li]at f d;obtain⟨-,l,B,-⟩:=vi A a Aa (b e L2);unfold j9;rw[Zl (Zk),Zb];rw[show(pre++e::r).getD (pre.length:Int).toNat bz=e from am pre e r bz,l,pA];rw[Zb Aj,k,Iw pre e r];have n:((pre.length+1:Nat):Int)=((pre++[e]).length:Int):=Ac
  rw[n];simp only;rw[Q0x N (pre++[e]) r (K+1010) _ _ Aa Af B Aa Aa (λx hx=>b x (Ls _ hx)) Ae];simp[XR,OY]
theorem RT(A:Qa K c)(h25:25<=K)(hK:K<=9000){l:List Zv}(hl:l.length<=1048577)(he:∀e∈l,YT e):
  yG c l=K2 ((XR (l.take 60) c,OY (l.take 60) c,()),())/\rM c l=K2 ((XR (l.take 60) c,OY (l.take 60) c,()),())/\Qa 70000 (OY (l.take 60) c):=by
 have b:(l.take 60).length<=60:=Ai
 have a:∀e∈l.take 60,YT e:=λe h=>he e (List.mem_of_mem_take h);refine⟨?_,?_,?_⟩
 ·unfold yG;rw[Yn A,pA];exact Q0y _ 60 [] l K c [] rfl (by simp[uJ]) (by simpa using hl) A h25 Aa he Ac
 ·unfold rM;rw[Wh A,pA,Zb];have d:(l.drop (0:Int).toNat).take ((min (l.length:Int) (60:Int)).toNat- (0:Int).toNat)=l.take 60:=by
   simp_all<;>omega
  simp only[d];exact Q0x _ [] (l.take 60) K c [] (by simp[ur]) b A h25 Aa a Ac
 ·exact(Qvs (l.take 60) K c A h25 Aa a).mono Aa
theorem Qke:∀(l:List Zv)(K:Nat)(c:Zf),Qa K c->25<=K->K+1010*l.length<=70000->(∀e∈l,YT e)-> ∀x∈XR l c,x.length<=1048576
 |[],_,_,_,_,_,_,x,hx=>by simp[XR]at hx
 |e::l,K,c,A,a,d,b,x,hx=>by
  simp only[Li]at d;obtain⟨-,-,B,f⟩:=vi A a Aa (b e L2);simp only[XR,Lv]at hx;rcases hx with q|q
  ·rw[q];omega
  ·exact Qke l (K+1010) _ B Aa Aa (λx hx=>b x (Ls _ hx)) x q
end
theorem Qwp(s:Ba):(eS s).2.2.2.1.length<=s.length:=by grind[z0,eS]
theorem Qx2{s:Ba}(hs:s.length<=1048576)(h:(Hu s).2.1=K3):YT (Hu s).1:=by
 have a:=Qwp s;unfold Hu Cp at h⊢;split at h
 ·rename_i q;rw[if_pos q]
  grind[GG,Qdm]
 ·cases h
theorem Qiy:∀(r:List Ba)(out:List Zv),(∀s∈r,s.length<=1048576)->(∀e∈out,YT e)-> ∀e∈(TD out r).1,YT e
 |[],out,_,_=>by simp[TD]
 |[l],out,_,a=>by
  grind[TD]
 |l::b::r,out,c,a=>by
  unfold TD;split
  ·rename_i q;exact Qiy (b::r) _ (λs d=>c s (Ls _ d)) λe f=>by
    grind[Qx2]
  ·simp
def Bd(l:List Zv):Ba:=l.flatMap λe=>Fw e++[10]
theorem UY{e:Zv}(h:YT e):(10:UInt8)∉Fw e/\(Fw e).length<=1040/\Fw e≠[]:=by
 have c:=h.t;have a:e.2.2.2.1.length<=1048576:=Aa
 obtain⟨-,k⟩:=Qdm a h.ok;obtain⟨hk,b,d⟩:=(XW e a).2.2 h.ok;obtain⟨-,-,f,g⟩:=FV hk;have i:=vR 10 (.inr rfl) e.2.1;have j:=vR 10 (.inr rfl) e.2.2.1;have l:=BE (n:=e.2.1);have m:=BE (n:=e.2.2.1);rw[jM a h.ok]
 grind[Gz]
theorem Qpu{e:Zv}(h:YT e):Hu (Fw e)=(e,K3,()):=by
 have a:e.2.2.2.1.length<=1048576:=by have:=h.t;omega
 obtain⟨b,-,c⟩:=N3 a h.ok;simp_all[Hu,Cp]
theorem Qde:∀(l:List Zv)(out:List Zv),(∀e∈l,YT e)->TD out (bu 10 (Bd l))=(out++l,K3,())
 |[],out,_=>by simp[Bd,bu,TD]
 |e::l,out,h=>by
  obtain⟨n,-,-⟩:=UY (h e L2);have b:Bd (e::l)=Fw e++10::Bd l:=by simp[Bd]
  rw[b,vB 10 _ _ n];obtain⟨a,r,c⟩:∃a r,bu 10 (Bd l)=a::r:=by
   cases hs:bu 10 (Bd l)with
   |nil=>simp_all[Tg]
   |cons a r=>simp_all
  have d:=Qde l (out++[e]) λx hx=>h x (Ls _ hx);simp_all[TD,Qpu]
def EL:Ba->List Zv->Ba|s,[]=>s|s,e::r=>ite (Fw e=[]) [] (EL (s++Fw e++[10]) r)
theorem GY:∀(l:List Zv)(s:Ba),(∀e∈l,YT e)->EL s l=s++Bd l
 |[],s,_=>by simp[EL,Bd]
 |e::l,s,h=>by
  unfold EL;rw[if_neg (UY (h e L2)).2.2,GY l _ λx hx=>h x (Ls _ hx)];simp[Bd]
theorem PP:∀l:List Zv,(∀e∈l,YT e)->(Bd l).length<=1041*l.length
 |[],_=>by simp[Bd]
 |e::l,h=>by
  have a:Bd (e::l)=Fw e++10::Bd l:=by simp[Bd]
  have:=PP l λx hx=>h x (Ls _ hx)
  grind[UY]
theorem Qzw:∀(N M:Nat)(pre rest:List Zv)(s:Ba),(pre++rest).length<=1000->(∀e∈rest,e.2.2.2.1.length<=1048576)->rest.length<N->rest.length<M->s.length<=1049001*pre.length->
  dn N (pre++rest) s (pre.length:Int)=K2 (EL s rest,())/\cV M s (pre++rest) ((pre++rest).length:Int) (pre.length:Int)=K2 (EL s rest,())
 |0,_,_,_,_,_,_,h,_,_=>Aa
 |_,0,_,_,_,_,_,_,h,_=>Aa
 |N+1,M+1,pre,[],s,f,a,b,c,g=>by
  unfold dn gG gI cV gG gI;rw[Zo (Zm Ac),Zo (Zm Ac)];exact⟨rfl,rfl⟩
 |N+1,M+1,pre,e::r,s,f,a,b,c,g=>by
  have i:(pre++e::r).length=pre.length+r.length+1:=Ae
  have j:Lb.wrap ((pre.length:Int)+1)=((pre.length+1:Nat):Int):=Zr (m:=1048578) Aa Ah;obtain⟨k,l,p⟩:=Ik e (a e L2);simp only[Li]at b c;unfold dn gG gI cV gG gI EL;rw[Zl (Zk),Zl (Zk),Zb,Zb];rw[show(pre++e::r).getD (pre.length:Int).toNat bz=e from am pre e r bz,k,l];simp only[pA];by_cases d:Fw e=[]
  ·simp_all
  ·have n:(Fw e==([]:Ba))=false:=by simpa using d
   have q:1049001*pre.length<=1049001*1000:=Nat.mul_le_mul_left _ Aa;rw[if_neg d,n,pH,pH]
   repeat rw[Zb (by simp only[L5,Li,Lo,Z6];omega)]
   rw[j,<-Mq];have o:((pre.length+1:Nat):Int)=((pre++[e]).length:Int):=Ac
   rw[o,Iw pre e r];exact Qzw N M (pre++[e]) r _ Af (λx hx=>a x (Ls _ hx)) Aa Aa Ai
theorem HM(l:List Zv)(hl:l.length<=1000)(ho:∀e∈l,e.2.2.2.1.length<=1048576):o9 l=K2 (EL [] l,())/\xt l=K2 (EL [] l,()):=Qzw _ _ [] l [] (by simpa using hl) ho (by simp[nx]) (by simp[nt]) Ac
theorem FQ(s:Bool)(o p:cP):∃r,ej s o p=K2 r/\Ip s o p=K2 r/\Qa 25 r.1:=by obtain⟨r,e,h⟩:=Qem s o p;refine⟨r,e,Ln ?_ e,h.mono Aa⟩;unfold Ip gH ej gH;rw[C5,C5];rfl
theorem Qte(s:Bool)(o p:cP)(t:Ba)(ht:t.length<=1048576):∃out y b,QQ s o p t=K2 ((out,y,b,()),())/\kp s o p t=K2 ((out,y,b,()),())/\out.length<=60/\Qa 70000 y:=by
 obtain⟨r,a,c,A⟩:=FQ s o p;obtain⟨d,e⟩:=yc t ht;have f:=Qiy (bu 10 t) [] (λx hx=>Lw ((G7 10 t).2 x hx) ht) Ac;have g:=Qdc (bu 10 t) [];have n:=(G7 10 t).1;simp only[Lo,Nat.zero_add]at g;unfold QQ kp;rw[a,c,d,e];simp only[pA];generalize TD [] (bu 10 t)=q at*
 by_cases h:r.2.1=K3/\q.2.1=K3
 ·obtain⟨i,j,k⟩:=RT A Aa Aa (l:=q.1) Aa f;rw[h.1,h.2,i,j];exact⟨_,_,K3,rfl,rfl,by grind[D8],k⟩
 ·have m:((!r.2.1)||(!q.2.1))=true:=by
   grind
  rw[m];exact⟨[],Xh,Lc,rfl,rfl,Ac,(Qa.zero rfl rfl).mono Aa⟩
theorem Qu6(c:Qg)(hc:Ys c):T (yP c) λr=>Ys r.2.1/\r.1.1.length<=8/\ ∀e∈r.1.1,YT e:=by
 have f:∀(N m:Nat)(c:Qg)(l:List Zv),m<N->Ys c->l.length+m<=8->(∀e∈l,YT e)->T (pn N c l (m:Int)) λr=>Ys r.2.1/\r.1.1.length<=8/\ ∀e∈r.1.1,YT e:=by
  intro N
  induction N with
  |zero=>omega
  |succ N g=>
   intro m c l h hc i b;unfold pn;refine T.ite (λa=>?_) λ_=>T.pure ⟨hc,Ag,b⟩;have a:=pE a;refine(Pl c hc).bind λt d=>T.guard Aj ?_;rw[show Lb.wrap ((m:Int)-1)=((m-1:Nat):Int) by grind[Zs]]
   grind
 unfold yP;refine(bw _ _ hc).bind λt d=>?_
 grind[uQ]
theorem Qxk(c:Qg)(hc:Ys c):T (EM c) λr=>r.1.1.2.2.2.1.length<=1000:=by
 unfold EM tD tR;refine(Pl c hc).bind λt b=>(bw _ _ b.1).bind λf a=>?_;have l:=b.2.t;refine T.if ((bw _ _ a.1).bind λd e=>T.pure l) (T.if ((Fc _ _ a.1 Ac).bind λd e=>T.pure ?_) (T.if ((ZG _ _ a.1 Ac).bind λd e=>T.pure l) (T.pure l)))
 grind
theorem Qrt(code:List Int)(h:code.length<=1048576):T (mZ code) λr=>r.1.length<=9/\ ∀e∈r.1,e.2.2.2.1.length<=1048576:=by
 unfold mZ;refine(TX code h).bind λt c=>(Qu6 _ c).bind λd a=>(He _ _ a.1).bind λg f=>?_;have k:∀e∈d.1.1,e.2.2.2.1.length<=1048576:=λe b=>by have:=(a.2.2 e b).t;omega
 refine T.if ((Qxk _ f).bind λi j=>T.guard Aj (T.pure ⟨Ae,λe b=>?_⟩)) (T.pure ⟨Ag,k⟩)
 grind
theorem Qi2(code:List Int)(h:code.length<=1048576):T (fQ code) λr=>r.1.length<=1048576:=by
 unfold fQ;refine(TX code h).bind λt c=>(Qu6 _ c).bind λb a=>?_;have g:=a.2.1;have e:=(HM b.1.1 Aa λe d=>by have:=(a.2.2 e d).t;omega).1;rw[GY _ _ a.2.2,Mc]at e;have i:=PP b.1.1 a.2.2;rw[e,pA];refine(He _ _ a.1).bind λj f=>T.if ((Qsr _ f _ Ag).bind λk l=>T.pure ?_) (T.pure Ag)
 grind
theorem Qrc(c:Qg)(hc:Ys c):T (QS c) λr=>Ys r.2.1:=by unfold QS tL tR;obtain⟨y,f,e,k,-⟩:=B4 c hc;rw[e,pA];refine(bw _ _ k).bind λg b=>T.if ((ZG _ _ b.1 Ac).bind λd a=>T.pure a.1) (T.if ((ZG _ _ b.1 Ac).bind λd a=>T.pure a.1) (T.if ((ZG _ _ b.1 Ac).bind λd a=>T.pure a.1) (T.pure b.1)))
theorem Qru(code:List Int)(h:code.length<=1048576):T (rg code) λr=>r.2.2.2.1.length<=1048576:=by unfold rg;refine(TX code h).bind λt a=>(He _ _ a).bind λf b=>(Qrc _ b).bind λg c=>?_;obtain⟨y,i,e,k,-⟩:=B4 _ c;rw[e,pA];exact(Qi2 code h).bind λj d=>T.pure d
theorem Qi3(code:List Int)(h:code.length<=1048576):T (fR code) λr=>r.1.length<=4/\ ∀x∈r.1,x.length<=1048576:=by
 have f:∀(N m:Nat)(l:List Ba)(c:Qg),m<N->Ys c->l.length+m<=4->(∀x∈l,x.length<=1048576)->T (bX N l (m:Int) c) λr=>r.1.length<=4/\ ∀x∈r.1,x.length<=1048576:=by
  intro N
  induction N with
  |zero=>omega
  |succ N g=>
   intro m l c i d j e;unfold bX;refine T.ite (λa=>?_) λ_=>T.pure ⟨Ag,e⟩;have a:=pE a;refine(LP c 4 d).bind λt b=>T.guard Aj ?_;rw[show Lb.wrap ((m:Int)-1)=((m-1:Nat):Int) by grind[Zs]]
   grind
 unfold fR;refine(TX code h).bind λt b=>(bw _ _ b).bind λk n=>?_
 grind[jd]
theorem Qrs(code:List Int)(h:code.length<=1048576):T (iH code) λr=>r.1.1.length<=4/\r.1.2.1.length<=4:=by
 unfold iH;refine(Qi3 code h).bind λt a=>T.guard Ah (T.ite (λq=>T.guard ?_ (T.pure ⟨a.1,?_⟩)) λ_=>T.guard Aj (T.pure ⟨a.1,by simpa using a.1⟩))
 all_goals grind
theorem Pc.guardH{p:Prop}{m:Option α}{Q:α->Prop}(h:p->Pc m Q):Pc (Zd p m) Q:=λy e=>by
 by_cases a:p
 ·rw[Zb a]at e;exact h a y e
 simp_all[Zd]
theorem E0(h:a.length+b.length<=Z6):(a++b).length<=Z6:=by simpa using h
theorem Qk6(c:Zf):Pc (nP c) λr=>r.1.length<=Z6:=by
 have a:([]:Ba).length<=Z6:=Ah
 unfold nP;refine Pc.skip λ_=>Pc.ite (λ_=>Pc.pure a) λ_=>Pc.skip λ_=>?_
 repeat' first|exact Pc.guardH λh=>Pc.pure (E0 h)|refine Pc.guard ?_|refine Pc.skip λ_=>?_|refine Pc.ite (λ_=>?_) λ_=>?_
theorem Qfn{s:Zj}(h:Xz K s)(hK:K<=1000000):Pc (kg s) λr=>r.1.length<=Z6:=by
 have a:∀t:Ba,t.length<=Z6->Pc (aJ s t) λr=>r.1.length<=Z6:=λt c=>by
  unfold aJ;refine Pc.ite (λ_=>?_) λ_=>Pc.pure c
  repeat' first|exact Pc.guardH λh=>Pc.pure (E0 h)|refine Pc.guard ?_|refine Pc.skip λ_=>?_
 obtain⟨⟨b,u⟩,e,d⟩:=Z8j h hK;unfold kg;rw[e,pA];cases b
 ·simp_all[Pc.pure]
 have q:=Jz.1 (d rfl).1;have f:=Wd s.1;rw[show(!(true:Bool))=Lc from rfl,pH,iM s.1,pA];refine Pc.ite (λ_=>?_) λ_=>a _ Ak
 repeat' first|exact Pc.guardH λh=>a _ (E0 h)|refine Pc.guard ?_|refine Pc.skip λ_=>?_
theorem Qu4{K:Nat}{c:Zf}(h:Qa K c)(hK:K<=1000000):∀(N M i:Nat)(d:Int),c.2.2.2.2.2.2.2.2.2.2.2.2.2.2.2.1.length-i<N->c.2.2.2.2.2.2.2.2.2.2.2.2.2.2.2.1.length-i<M->i<=c.2.2.2.2.2.2.2.2.2.2.2.2.2.2.2.1.length->
  ∃r,sj N c d (i:Int)=K2 (r,())/\rA M d c.2.2.2.2.2.2.2.2.2.2.2.2.2.2.2.1 (c.2.2.2.2.2.2.2.2.2.2.2.2.2.2.2.1.length:Int) (i:Int)=K2 (r,())
 |0,_,_,_,h,_,_=>Aa
 |_,0,_,_,_,h,_=>Aa
 |N+1,M+1,i,d,l,m,n=>by
  have b:=h.pk.1;unfold sj gG gK rA gG gK;by_cases a:i<c.2.2.2.2.2.2.2.2.2.2.2.2.2.2.2.1.length
  ·have e:=Z5 (d:=Q8) a;obtain⟨f,g,o⟩:=frm (h.pk.2 _ e);obtain⟨x,j,k⟩:=DP d (LH (c.2.2.2.2.2.2.2.2.2.2.2.2.2.2.2.1.getD i Q8).2.1) Aa;rw[Zl (Zk),Zl (Zk),Zb,Zb,show(i:Int).toNat=i from rfl,f,g,pA,pA,j,k,pA,pA,Zr a];exact Qu4 h hK N M (i+1) x Aa Aa a
  grind
theorem Qvv{K:Nat}{c:Zf}(h:Qa K c)(hK:K<=1000000):∀(N M i:Nat)(d:Int),c.2.2.2.1.length-i<N->c.2.2.2.1.length-i<M->i<=c.2.2.2.1.length->
  ∃r,si N c d (i:Int)=K2 (r,())/\rz M c d c.2.2.2.1 (c.2.2.2.1.length:Int) (i:Int)=K2 (r,())
 |0,_,_,_,h,_,_=>Aa
 |_,0,_,_,_,h,_=>Aa
 |N+1,M+1,i,d,l,m,n=>by
  have f:=h.str.len;unfold si gG gJ rz gG gJ;by_cases a:i<c.2.2.2.1.length
  ·have b:=Z5 (d:=Zc) a;obtain⟨t,e,g⟩:=Qh9 (h.str.all _ b) hK;have o:=Qfn (h.str.all _ b) hK _ e;obtain⟨x,j,k⟩:=DP d t Ak;rw[Zl (Zk),Zl (Zk),Zb,Zb,show(i:Int).toNat=i from rfl,e,g,pA,pA,j,k,pA,pA,Zr a];exact Qvv h hK N M (i+1) x Aa Aa a
  ·rw[Zo (Zm),Zo (Zm)];exact Qu4 h hK _ _ 0 d (by simp[xj]) (by simp[w7]) Aa
theorem Qzs(h:Qa K c)(hK:K<=1000000:=by omega):∃r,ZK c=K2 (r,())/\z7 c=K2 (r,()):=by
 unfold ZK z7;rw[zg h hK,Ih h hK];simp only[pA];cases ci c
 ·simp_all
 ·obtain⟨t,a,b⟩:=Qnr h hK;have f:=Qk6 _ _ a;obtain⟨x,d,e⟩:=DP 1 t Ak;simp only[pI,pH];rw[a,b,pA,pA,d,e,pA,pA];exact Qvv h hK _ _ 0 x (by simp[xi]) (by simp[w6]) Aa
theorem Q0j(l:List Ba)(hl:l.length<=1048576)(h:∀x∈l,x.length<=1048576):∃r,xN l=K2 (r,())/\xy l=K2 (r,()):=Zzt _ 1 l 0 Aa h Aa (by show l.length-0<((l.length:Int)-0).toNat+1;omega)
theorem Q1v(a b:List Ba)(ha:a.length<=1048576)(hb:b.length<=1048576):∃r,yD a b=K2 (r,())/\yf a b=K2 (r,()):=Z78 _ _ a b 0 ha hb Aa Aa (by simp[ks]) (by grind[ko])
end
end Go.Proofs.YtcnklikmapfnmaaGreatDoor

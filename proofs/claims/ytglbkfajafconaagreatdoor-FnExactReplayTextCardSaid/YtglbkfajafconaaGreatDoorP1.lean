/- No condition. -/
import Derived.Test.YtglbkfajafconaaGreatDoorM2
set_option linter.all false
namespace Go.Proofs.YtglbkfajafconaaGreatDoor
noncomputable section
open Go.Am
set_option maxRecDepth 100000
open Option renaming some→K2,bind→Ld,none→Lj
open Decidable renaming decide→K3
open Bool renaming true→K4,false→Lc,false_or→Le,and_self→Li,not_false→Lk,or_self→Ll,false_and→Lp,and_false→Ls,or_eq_false_iff→Lt,eq_iff_iff→Lz,not_eq_false'→L8,not_eq_true'→Mi,or_false→Mp,or_true→Mq,true_or→Mr,and_true→Mz,noConfusion→M0,and_eq_false_iff→Nd,not_eq_true→Nf,or_eq_true→Ng
open Go renaming IntKind→La
open IntKind renaming i64→Lb,u8→L3,bits→Mk,wrap→Ml,signed→M2
open List renaming length_cons→Lf,drop_eq_nil_of_le→Lr,length_append→Lv,mem_cons→Ly,mem_cons_self→L6,length_nil→Ma,map_cons→Mb,mem_cons_of_mem→Mc,replicate→Md,drop_zero→Mf,length_pos_iff→Mg,drop_of_length_le→Mm,mem_append→Mn,all_cons→Mu,getD_cons_zero→Mv,length_eq_zero_iff→Mw,pairwise_cons→Mx,set_set→My,append_assoc→M3,append_nil→M4,cons_append→M5,length_map→M6,length_set→M7,nil_append→M8,take_of_length_le→M9,take_succ_eq_append_getElem→Na,flatMap_cons→Np,length→Nq,length_singleton→Nr,mem_map_of_mem→Ns,mem_singleton→Nt,pairwise_map→Nu,set_cons_succ→Nv
open Int renaming le_refl→Lg,tmod→Ln,reduceBEq→Lq,reduceGE→Lw,reduceLT→Lx,tdiv→L0,natCast_zero→L5,eq_ofNat_of_zero_le→L9,tdiv_eq_ediv_of_nonneg→Nn
open Go.Lib renaming itoa→Lh,decDigits→Lu,decFrom→Me,index→Mj,atoi→Ms,nDigits→Mt,digitVal→M1,cut→Nh,decDigits_length→Ni,decNat→Nj,nDigits_big→Nk,nDigits_small→Nl,splitK→Nm
open Eq renaming trans→Lm
open Nat renaming le_refl→Lo,le_trans→L4,zero_le→L7,pow_le_pow_right→Mh,zero_add→Mo,strongRecOn→Nb
open UInt8 renaming ofNat→L1,toNat_lt→Nc,toNat_inj→Nw
open BitVec renaming ofInt→L2
open List.Pairwise renaming cons→Nx,nil→Ny
variable{n a lo E o id k:Int}{d:Ba}{l:List Zh}{i u K K':Nat}{p:Prop}{w:Qp}{α β:Type}{x c:Zf}{s:Zh}{f:Zj}{b:Zx}{r:Zz}{m:Option α}{Q:α->Prop}
abbrev Jl:Type:=Qq
theorem U0(pre:List α)(x:α)(rest:List α):pre++x::rest=pre++[x]++rest:=Ac
theorem aH(pre:List α)(x:α)(rest:List α)(d:α):(pre++x::rest).getD ((pre.length:Int).toNat) d=x:=by simp_all
def CZ(k:Nat):Int:=((([48,49,50,51,52,53,54,55,56,57,97,98,99,100,101,102]:Ba).getD k 0).toNat:Int)
def hx(b:UInt8):List Int:=[CZ (b.toNat/16),CZ (b.toNat%16)]
theorem Q1{d:α}{l:List α}(h:i<l.length):l.drop i=l.getD i d::l.drop (i+1):=by simp_all
theorem Ea(n:Int)(h0:0<=n:=by omega)(h1:n<256:=by omega):L3.wrap n=n:=by simp_all[Int.emod_eq_of_lt,Ml,Mk,M2]
def Sc(u:Nat):Ba:=ite (u=0) [] (Lu u)
theorem Qij(h:u≠0):Sc u=Sc (u/10)++[L1 (48+u%10)]:=by
 unfold Sc;rw[if_neg h,Lu]
 grind
theorem JX(n:Int)(h0: -9223372036854775808<=n:=by omega)(h1:n<=9223372036854775807:=by omega):(Lh n).length<=21:=Go.Lib.itoa_length_le n h0 h1
def C5(l:Ba):Ba:=Xf (l.flatMap hx)
theorem T9(l:Ba):(C5 l).length=2*l.length:=by
 unfold C5 Xf;rw[M6]
 induction l with
 |nil=>rfl
 |cons c l a=>grind[hx]
def hv(b:UInt8):Int:=ite (48<=b.toNat/\b.toNat<=57) ((b.toNat:Int)-48) (ite (97<=b.toNat/\b.toNat<=102) ((b.toNat:Int)-87) (-1))
def wr:Ba->Option Ba|[]=>K2 []|[_]=>Lj|a::b::r=>ite (hv a<0\/hv b<0) Lj ((wr r).map λd=>L1 (16*(hv a).toNat+(hv b).toNat)::d)
theorem Uk:∀{s d:Ba},wr s=K2 d->s.length=2*d.length
 |[],d,h=>by simp_all[wr]
 |[_],d,h=>by simp[wr]at h
 |a::b::r,d,h=>by
  simp only[wr]at h;split at h
  ·cases h
  ·simp only[Option.map_eq_some_iff]at h;obtain⟨e,c,rfl⟩:=h;have:=Uk c
   grind
def PL(s:Ba):Ba:=(wr s).getD []
theorem Z7f:∀{s:Ba},s.length%2=1->wr s=Lj
 |[],h=>by simp at h
 |[_],_=>rfl
 |a::b::r,h=>by
  have:=Z7f (s:=r) (by simp at h;omega);simp_all[wr]
theorem Qtx{K1:(Int×Ba×Bool×Unit)->Oa Ba}{out:Ba}{neg:Bool}{d:Nat}(hd:d<10)(hl:1+out.length<=Ym):
  iU K1 n out neg (d:Int)=K1 (Lb.wrap (L0 n 10),L1 (48+d)::out,neg,()):=by
 grind[iU,Xf,Zr,Ea,Zb]
theorem Qa1:∀(k u N:Nat)(n:Int)(out:Ba)(neg:Bool),u<10^k->k<N->u<=9223372036854775808->(n=(u:Int)\/n= -(u:Int))->out.length+k<=1000->(n=9223372036854775808->False)->
  aZ N n out neg=K2 ((cond neg (45:: (Sc u++out)) (Sc u++out)),())
 |k,u,0,n,out,neg,b,d,_,_,_,_=>Aa
 |k,u,N+1,n,out,neg,b,d,i,c,j,l=>by
  unfold aZ;by_cases m:u=0
  ·have a:n=0:=Aa
   rw[Zm (by simp[a])]
   grind[Zb,Ym,Sc]
  ·have a:n≠0:=Aa
   rw[Zo (by simp[a]),Zb Ah];cases k with
   |zero=>simp at b;omega
   |succ k=>
    have f:u/10<10^k:=by
     omega
    have g:u%10<10:=Nat.mod_lt _ Ah;have h:Lb.wrap (L0 n 10)=((u/10:Nat):Int)\/Lb.wrap (L0 n 10)= -((u/10:Nat):Int):=by
     rcases c with rfl|rfl
     ·grind[Zr]
     ·right;rw[Int.neg_tdiv,Nn Aa,Zr];omega
    have o:iU (λv=>aZ N v.1 v.2.1 v.2.2.1) n out neg ((u%10:Nat):Int)=K2 ((cond neg (45:: (Sc u++out)) (Sc u++out)),()):=by
     rw[Qtx g Al];show aZ N (Lb.wrap (L0 n 10)) (L1 (48+u%10)::out) neg=_;rw[Qa1 k (u/10) N _ _ neg f Aa Aa h Ag Aa];simp_all[Qij]
    rcases c with rfl|rfl
    ·grind
    ·have e:Ln (-(u:Int)) 10= -((u%10:Nat):Int):=Ag
     rw[e];by_cases p:u%10=0
     ·simp_all
     ·rw[Zo (Zl),Zr];simp_all
theorem Cg(n:Int)(h0: -9223372036854775808<=n:=by omega)(h1:n<=9223372036854775807:=by omega):J5 n=K2 (Lh n,()):=by
 unfold J5;by_cases a:n=0
 ·simp_all[Lh,Lu]
 ·rw[Zm (by simp[a])];have b:n.natAbs<10^20:=by
   omega
  rw[Qa1 20 n.natAbs _ n [] _ b (by simp[rx]) Aa Aa Ac Aa];unfold Lh Sc
  grind
theorem Ry(n:Int)(h0: -9223372036854775808<=n:=by omega)(h1:n<=9223372036854775807:=by omega):dd n=K2 (Lh n,()):=by simp_all[dd,XY,Zb]
theorem Qa7:∀(N:Nat)(l:Ba)(out:List Int)(i:Nat),l.length<=1048576->out.length<=2*i->i<=l.length->l.length-i<N->
  nF N l out (i:Int)=K2 (Xf (out++(l.drop i).flatMap hx),())
 |0,_,_,_,_,_,_,h=>Aa
 |N+1,l,out,i,b,m,n,o=>by
  unfold nF gH;by_cases h:i<l.length
  ·have e:(i:Int).toNat=i:=rfl;rw[Zo (Zl),Zb,Zb Ah,Zb,Zb Ah,e];have p:(l.getD i 0).toNat<256:=(l.getD i 0).toNat_lt;generalize f:l.getD i 0=c at*
   have g:Lb.wrap (L0 (Lb.wrap (c.toNat:Int)) 16)=((c.toNat/16:Nat):Int):=by
    grind[Zr]
   have j:Ln (Lb.wrap (c.toNat:Int)) 16=((c.toNat%16:Nat):Int):=by
    grind[Zr]
   have a:∀k:Nat,k<16->nJ (k:Int)=K2 (CZ k,()):=λk hk=>by
    grind[nJ,CZ,Zb,Lf]
   rw[g,j,a _ Aa,a _ Aa];simp only[pA];rw[Zb Aj,Zs h];rw[Qa7 N l _ (i+1) b Ag h Aa];rw[Q1 (d:=(0:UInt8)) h,f,Np,M3];rfl
  grind
theorem Qa6:∀(N:Nat)(l:Ba)(out:List Int)(i:Nat),l.length<=1048576->out.length<=2*i->i<=l.length->l.length-i<N->
  mV N l out (i:Int)=K2 (Xf (out++(l.drop i).flatMap hx),())
 |0,_,_,_,_,_,_,h=>Aa
 |N+1,l,out,i,a,j,k,m=>by
  unfold mV gH;by_cases h:i<l.length
  ·have e:(i:Int).toNat=i:=rfl;rw[Zo (Zl),Zb,Zb Ah,e];have n:(l.getD i 0).toNat<256:=(l.getD i 0).toNat_lt;generalize b:l.getD i 0=c at*
   have f:L3.wrap (L0 (c.toNat:Int) 16)=((c.toNat/16:Nat):Int):=by
    grind[Ea]
   have g:Ln (c.toNat:Int) 16=((c.toNat%16:Nat):Int):=by
    rfl
   simp only[f,g];rw[Zb (by grind[Lf]),Zb,Zb Ah,Zb (by grind[Lf]),
    Zb Aj,Zs h]
   rw[Qa6 N l _ (i+1) a Ag h Aa];rw[Q1 (d:=(0:UInt8)) h,b,Np,M3];rfl
  grind
theorem Qwt(l:Ba)(h:l.length<=1048576:=by omega):qd l=K2 (C5 l,()):=by unfold qd;exact Qa7 _ l [] 0 h Ac Aa (by simp[ru])
theorem Qws(l:Ba)(h:l.length<=1048576:=by omega):vd l=K2 (C5 l,()):=by unfold vd;exact Qa6 _ l [] 0 h Ac Aa (by simp[ra])
theorem AN(N k:Nat)(b:Int)(hk:k<16):bb (N+1) b (k:Int)=ite (CZ k=b) (K2 ((k:Int),())) (bb N b ((k+1:Nat):Int)):=by
 conv=>lhs;unfold bb
 have a:nJ (k:Int)=K2 (CZ k,()):=by
  grind[nJ,CZ,Zb,Lf]
 rw[Zo (Zl),a];simp only[pA];rw[Zs (m:=16) hk];simp_all
theorem IN(b:UInt8):wk (b.toNat:Int)=fW (b.toNat:Int):=by
 have d:b.toNat<256:=b.toNat_lt;generalize b.toNat=n at*
 unfold wk;have a:rI (n:Int) 0=17:=rfl;rw[a];show bb 17 (n:Int) ((0:Nat):Int)=_;have e:∀k,k<16->CZ k=ite (k<10) (48+k:Int) (87+k:Int):=Ah
 have c:bb 1 (n:Int) ((16:Nat):Int)=K2 (-1,()):=rfl;unfold fW;by_cases f:48<=n/\n<=57
 ·rw[Zo Ae];have u:Lb.wrap (L3.wrap ((n:Int)-48))=(n:Int)-48:=by grind[Ea,Zr]
  rw[u];have:n=48\/n=49\/n=50\/n=51\/n=52\/n=53\/n=54\/n=55\/n=56\/n=57:=Aa
  rcases this with rfl|rfl|rfl|rfl|rfl|rfl|rfl|rfl|rfl|rfl
  all_goals
   repeat (rw[AN _ _ _ Ah];first|(rw[if_pos Ah];rfl)|rw[if_neg Ah])
 ·rw[Zm Ag];by_cases g:97<=n/\n<=102
  ·rw[Zo Ae];have u:Lb.wrap (Lb.wrap (L3.wrap ((n:Int)-97))+10)=(n:Int)-87:=by grind[Ea,Zr]
   rw[u];have:n=97\/n=98\/n=99\/n=100\/n=101\/n=102:=Aa
   rcases this with rfl|rfl|rfl|rfl|rfl|rfl
   all_goals
    repeat (rw[AN _ _ _ Ah];first|(rw[if_pos Ah];rfl)|rw[if_neg Ah])
  ·rw[Zm Ag]
   repeat (rw[AN _ _ _ Ah,if_neg (by rw[e _ (by decide)];split<;>omega)])
   exact c
theorem Qgm(b:UInt8):fW (b.toNat:Int)=K2 (hv b,())/\ -1<=hv b/\hv b<=15:=by
 have d:b.toNat<256:=b.toNat_lt;unfold hv;generalize b.toNat=n at*
 unfold fW;by_cases a:48<=n/\n<=57
 ·rw[Zo Ae,Ea _,Zr,if_pos a]
  grind
 ·rw[Zm Ag,if_neg a];by_cases c:97<=n/\n<=102
  ·rw[Zo Ae,Ea _,show Lb.wrap ((n:Int)-97)=(n:Int)-97 from Zr,Zr,if_pos c]
   grind
  grind
theorem Z4v:∀(N:Nat)(pre rest:Ba)(out:List Int),(pre++rest).length<=1048576->rest.length%2=0->out.length<=pre.length->rest.length<N->
  aY N (pre++rest) out (pre.length:Int)=K2 (match wr rest with|some d=>(Xf out++d,K4,())|none=>([],Lc,()))/\
  aV N (pre++rest) out (pre.length:Int)=K2 (match wr rest with|some d=>(Xf out++d,K4,())|none=>([],Lc,()))
 |0,_,_,_,_,_,_,h=>Aa
 |N+1,pre,[],out,f,c,n,g=>by
  simp_all[aY,aV,wr]
 |N+1,pre,[_],out,f,c,n,g=>by simp at c
 |N+1,pre,a::b::rest,out,f,c,n,g=>by
  unfold aY aV;simp only[Lv,Lf]at f c g;have e:pre++a::b::rest=pre++[a,b]++rest:=Ac
  have p:Lb.wrap ((pre.length:Int)+1)=((pre.length+1:Nat):Int):=Zs (m:=1048576);have q:Lb.wrap ((pre.length:Int)+2)=((pre.length+2:Nat):Int):=Ao
  have r:(pre++a::b::rest).getD ((pre.length:Int).toNat) 0=a:=aH pre a (b::rest) 0;have s:(pre++a::b::rest).getD (((pre.length+1:Nat):Int).toNat) 0=b:=by
   simp
  have z:((pre++a::b::rest).length:Int)=(pre.length:Int)+rest.length+2:=Ae
  rw[Zo (Zl),Zo (Zl),p,q,r,s,IN,IN];obtain⟨i,A,B⟩:=Qgm a;obtain⟨j,C,u1⟩:=Qgm b;rw[i,j];simp only[pA];have t:(0:Int)<=(pre.length:Int)/\(pre.length:Int)<((pre++a::b::rest).length:Int):=Aa
  have u:(0:Int)<=((pre.length+1:Nat):Int)/\((pre.length+1:Nat):Int)<((pre++a::b::rest).length:Int):=Aa
  simp only[Zb t,Zb u];by_cases o:hv a<0\/hv b<0
  ·simp_all[Zo,wr]
  ·have v:=o;rw[Zm Ae,Zm Ae];have w:L3.wrap (Lb.wrap (Lb.wrap (16*hv a)+hv b))=((16*(hv a).toNat+(hv b).toNat:Nat):Int):=by
    have w1:Lb.wrap (16*hv a)=16*hv a:=Zr;rw[w1,Zr,Ea _];omega
   rw[w,Zb Aj,Zb Aj];obtain⟨k,l⟩:=Z4v N (pre++[a,b]) rest (out++[((16*(hv a).toNat+(hv b).toNat:Nat):Int)]) Ae Aa Ae Aa;rw[<-e]at k l;simp only[Lv,Lf,Ma,Mo]at k l⊢;rw[k,l];have x:wr (a::b::rest)=(wr rest).map λd=>L1 (16*(hv a).toNat+(hv b).toNat)::d:=by simp only[wr,o,if_false]
   rw[x];have y:Xf (out++[((16*(hv a).toNat+(hv b).toNat:Nat):Int)])=Xf out++[L1 (16*(hv a).toNat+(hv b).toNat)]:=by
    generalize 16*(hv a).toNat+(hv b).toNat=m;simp[Xf]
   grind
theorem Qk7(s:Ba)(h:s.length<=1048576):lz s=K2 (PL s,(wr s).isSome,())/\ld s=K2 (PL s,(wr s).isSome,()):=by
 unfold lz ld;rw[Zb Ah,Zb Ah];have e:Ln (s.length:Int) 2=((s.length%2:Nat):Int):=by rfl
 rw[e];by_cases b:s.length%2=1
 ·simp_all[PL,Z7f]
 ·have a:s.length%2=0:=Aa
  rw[a,Zm (by rfl),Zm (by rfl)];obtain⟨c,d⟩:=Z4v (((s.length:Int)-0).toNat+1) [] s [] (by simpa using h) a Ac Aa;constructor<;>grind[ke,q9,PL,Xf]
theorem vX(k:Int):lC k=K9 k:=by
 by_cases h:1<=k/\k<=12
 ·have:k=1\/k=2\/k=3\/k=4\/k=5\/k=6\/k=7\/k=8\/k=9\/k=10\/k=11\/k=12:=Aa
  unfold lC Z8;simp only[pA];rcases this with rfl|rfl|rfl|rfl|rfl|rfl|rfl|rfl|rfl|rfl|rfl|rfl
  all_goals
   rw[Zm Ah];rw[Zb Ah];rfl
 grind[lC,Z8,K9]
theorem Hg{p:UInt8->Bool}{fin:Ba->Bool}{L:Nat->Ba->Int->Oa Bool}
  (hL:∀N s (i:Nat),i<s.length->s.length<=1048576->L (N+1) s (i:Int)=cond (p (s.getD i 0)) (L N s ((i+1:Nat):Int)) (K2 (Lc,())))
  (hE:∀N (s:Ba),s.length<=1048576->L (N+1) s (s.length:Int)=K2 (fin s,())):∀(N:Nat)(s:Ba)(i:Nat),s.length<=1048576->i<=s.length->s.length-i<N->L N s (i:Int)=K2 ((s.drop i).all p&&fin s,())
 |0,_,_,_,_,h=>Aa
 |N+1,s,i,a,b,c=>by
  by_cases h:i<s.length
  ·rw[hL N s i h a,Q1 (d:=(0:UInt8)) h,Mu];cases p (s.getD i 0)
   ·rfl
   ·rw[pG,Hg hL hE N s (i+1) a h Aa,pJ]
  grind
def IB(lo hi:Int)(b:UInt8):Bool:= !(K3 ((b.toNat:Int)<lo)||K3 ((b.toNat:Int)>hi))
def Se(s:Ba):Bool:=K3 ((s:Int)>=1)&&K3 ((s:Int)<=40)
theorem A0(a b:Bool)(x y:α):(cond (a||b) x y)=(cond (!(a||b)) y x):=Ag
theorem Zsq(s:Ba)(h:s.length<=1048576):zd s=K2 (s.all (IB 97 122)&&Se s,()):=by
 unfold zd;refine Hg (L:=fO) (fin:=Se) ?_ ?_ _ s 0 h Aa (by simp[qo])
 ·intro N s i a b
  conv=>lhs;unfold fO gH
  have e:(i:Int).toNat=i:=rfl;rw[Zo (Zl),Zb];simp only[];rw[Zb (λ_=>Aa),Zs a,e,A0];rfl
 ·intro N s b;unfold fO gH;rw[Zm (Zk)];rfl
theorem Z33(s:Ba)(h:s.length<=1048576):uL s=K2 (s.all (IB 32 126)&&Se s,()):=by
 unfold uL;refine Hg (L:=cN) (fin:=Se) ?_ ?_ _ s 0 h Aa (by simp[mg])
 ·intro N s i a b
  conv=>lhs;unfold cN gH
  have e:(i:Int).toNat=i:=rfl;rw[Zo (Zl),Zb];simp only[];rw[Zb (λ_=>Aa),Zs a,e,A0];rfl
 ·intro N s b;unfold cN gH;rw[Zm (Zk)];rfl
theorem Qda(s:Ba)(lo hi:Int)(h:s.length<=1048576):yf s lo hi=K2 (s.all (IB lo hi)&&Se s,()):=by
 unfold yf;refine Hg (L:=λN s i=>fe N s lo hi i) (fin:=Se) ?_ ?_ _ s 0 h Aa (by simp[ub])
 ·intro N s i hi a
  conv=>lhs;unfold fe gH
  have e:(i:Int).toNat=i:=rfl;rw[Zo (Zl),Zb];simp only[];rw[Zb (λ_=>Aa),Zs hi,e,A0];rfl
 ·intro N s a;show fe (N+1) s lo hi (s.length:Int)=_;unfold fe gH;rw[Zm (Zk)];rfl
theorem Z6b(b:UInt8):∃v:Int,fW (b.toNat:Int)=K2 (v,())/\ -1<=v/\v<=15:=by
 have a:b.toNat<256:=b.toNat_lt;generalize b.toNat=n at*
 unfold fW;by_cases c:48<=n/\n<=57
 ·rw[Zo Ae,Ea _,Zr]
  grind
 ·rw[Zm Ag];by_cases d:97<=n/\n<=102
  ·rw[Zo Ae,Ea _,show Lb.wrap ((n:Int)-97)=(n:Int)-97 from Zr,Zr]
   grind
  ·rw[Zm Ag];simp_all
theorem Qao:∀(N:Nat)(s:Ba)(out:List Int)(i:Nat),s.length<=1048576->s.length%2=0->i%2=0->i<=s.length->out.length<=i->s.length-i<N->
  ∃d ok,aY N s out (i:Int)=K2 (d,ok,())/\aV N s out (i:Int)=K2 (d,ok,())
 |0,_,_,_,_,_,_,_,_,h=>Aa
 |N+1,s,out,i,a,b,c,p,q,r=>by
  unfold aY aV;by_cases h:i<s.length
  ·have e:(i:Int).toNat=i:=rfl;have f:Lb.wrap ((i:Int)+1)=((i+1:Nat):Int):=Zs h;have g:((i+1:Nat):Int).toNat=i+1:=rfl;have j:Lb.wrap ((i:Int)+2)=((i+2:Nat):Int):=Ao
   rw[Zo (Zl),Zo (Zl),f,g,j,e,IN,IN];obtain⟨v,hv,t,w⟩:=Z6b (s.getD i 0);obtain⟨u,k,y,u1⟩:=Z6b (s.getD (i+1) 0);rw[hv,k];simp only[pA];have l:∀(ρ:Type)(m:Option ρ),Ze (0<=(i:Int)/\(i:Int)<(s.length:Int)) m=m:=λρ m=>Zb;have n:∀(ρ:Type)(m:Option ρ),Ze (0<=((i+1:Nat):Int)/\((i+1:Nat):Int)<(s.length:Int)) m=m:=λρ m=>Zb;have o:∀(ρ:Type)(x:Int)(m:Option ρ),Ze (out.length+[x].length<=Qg) m=m:=λρ x m=>Zb Aj;simp only[l,n,o];by_cases z:v<0\/u<0
   ·simp_all[Zo]
   ·rw[Zm Ae,Zm Ae];exact Qao N s _ (i+2) a b Aa Aa Ag Aa
  simp_all[Zk]
theorem Z71(s:Ba)(h:s.length<=1048576):∃d ok,lz s=K2 (d,ok,())/\ld s=K2 (d,ok,()):=by
 unfold lz ld;rw[Zb Ah,Zb Ah];have e:Ln (s.length:Int) 2=((s.length%2:Nat):Int):=by rfl
 rw[e];by_cases b:s.length%2=1
 ·simp_all
 ·have a:s.length%2=0:=Aa
  rw[a,Zm (by rfl),Zm (by rfl)];exact Qao _ s [] 0 h a Aa Aa Ac (by simp[ke])
def okF(x:Int):Bool:=K3 (x>=0)&&K3 (x<=999999)
theorem Qg8{x:Int}(h:okF x=K4):0<=x/\x<=999999:=by simp_all[okF]
theorem Qgs(e:Z4)(hl:(e:Zaj).length<=1048576):∃b,du e=K2 (b,())/\mX e=K2 (b,())/\(b=K4->(1<=e.1/\e.1<=12)/\(0<=e.2.1/\e.2.1<=999999)/\(0<=e.2.2.1/\e.2.2.1<=999999)):=by
 obtain⟨k,f,n,text,z⟩:=e;simp only at hl⊢;unfold du gG mX;simp only[vX];by_cases hk:1<=k/\k<=12
 ·obtain⟨d,u,j,l⟩:=Z71 text hl;have v:∀x,Z8 x 0 999999=K2 (okF x,()):=λ_=>rfl;have w:∀x,Zy x 0 999999=K2 (okF x,()):=λ_=>rfl;have m:∀x,Z8 x 1 400=K2 (K3 (x>=1)&&K3 (x<=400),()):=λ_=>rfl;have o:∀x,Zy x 1 400=K2 (K3 (x>=1)&&K3 (x<=400),()):=λ_=>rfl;have:=hk;have:k=1\/k=2\/k=3\/k=4\/k=5\/k=6\/k=7\/k=8\/k=9\/k=10\/k=11\/k=12:=Aa
  have p:∀g i:Oa Bool,(∃b,g=K2 (b,())/\i=K2 (b,())/\(b=K4->okF f=K4/\okF n=K4))-> ∃b,g=K2 (b,())/\i=K2 (b,())/\(b=K4->(1<=k/\k<=12)/\(0<=f/\f<=999999)/\(0<=n/\n<=999999)):=
   λg i ⟨b,y,A,t⟩=>⟨b,y,A,λh=>⟨hk,Qg8 (t h).1,Qg8 (t h).2⟩⟩
  apply p;have q:((cond (K3 (1<=k)&&K3 (k<=12)) (KK.getD k.toNat []) [])==([]:Ba))=false:=by
   rcases this with rfl|rfl|rfl|rfl|rfl|rfl|rfl|rfl|rfl|rfl|rfl|rfl<;>rfl
  have B:K3 ((0:Int)=f)=(f==0):=Ag
  have r:K3 ((0:Int)=n)=(n==0):=Ag
  have C:(([]:Ba)==text)=(text==[]):=Af
  rcases this with rfl|rfl|rfl|rfl|rfl|rfl|rfl|rfl|rfl|rfl|rfl|rfl
  all_goals
   simp only[K9,ta,rh,ri,nj,XU,sq,sr,mM,Rz,Lq,pG,pH,pA,v,w,Zsq text hl,Z33 text hl,Qda text _ _ hl,j,l,m,o];simp only[TR,q,B,r,C,eq_self,decide_true,beq_self_eq_true,pJ,Mz,Lk,pG,pH,pA,Le];generalize (f==(0:Int))=g;generalize (n==(0:Int))=i;generalize (text==([]:Ba))=b3;generalize okF f=b4;generalize okF n=b5;generalize (text==([98,105,100,105]:Ba)||text==([117,110,105]:Ba))=c1;generalize (text.all (IB 97 122)&&Se text)=c2;generalize (text.all (IB 32 126)&&Se text)=c3;generalize (K3 ((d.length:Int)>=1)&&K3 ((d.length:Int)<=400))=c4;cases g<;>cases i<;>cases b3<;>cases b4<;>cases b5<;>first|exact⟨_,rfl,rfl,λh=>by first|exact⟨rfl,rfl⟩|cases h⟩|(cases c1<;>exact⟨_,rfl,rfl,λh=>by first|exact⟨rfl,rfl⟩|cases h⟩)|(cases c2<;>exact⟨_,rfl,rfl,λh=>by first|exact⟨rfl,rfl⟩|cases h⟩)|(cases c3<;>exact⟨_,rfl,rfl,λh=>by first|exact⟨rfl,rfl⟩|cases h⟩)|(cases c4<;>cases u<;>exact⟨_,rfl,rfl,λh=>by first|exact⟨rfl,rfl⟩|cases h⟩)
 ·have r:(K3 (1<=k)&&K3 (k<=12))=false:=Af
  have s:∃a b c,ta k=K2 (a,b,c,()):=by
   unfold ta rh ri nj;cases k==1<;>cases k==11<;>cases k==2<;>cases k==7<;>cases k==3<;>cases k==4<;>cases k==5<;>cases k==6<;>exact⟨_,_,_,rfl⟩
  obtain⟨a,b,c,s⟩:=s;simp only[K9,r,s,pH,pA];simp_all
theorem Qkr{c:Bool}{x y:α}:(cond c (K2 x) (K2 y))=K2 (cond c x y):=by cases c<;>rfl
theorem Qpa(d:Nat)(h:d<10):M1 (L1 (48+d))=K2 d:=by
 have:(L1 (48+d)).toNat=48+d:=Ae
 grind[M1]
theorem Zx7:∀(l r:Ba)(acc:Nat),Me acc (l++r)=(Me acc l).bind λa=>Me a r
 |[],r,acc=>rfl
 |b::l,r,acc=>by
  simp only[M5,Me];cases M1 b with
  |none=>rfl
  |some d=>exact Zx7 l r _
theorem Z1z:∀(u:Nat),Me 0 (Lu u)=K2 u:=by
 intro u
 induction u using Nb with
 |_ u a=>
  rw[Lu]
  grind[Me,Qpa,Zx7]
theorem Oj:∀(u:Nat),∀b∈Lu u,48<=b.toNat/\b.toNat<=57:=by
 intro u
 induction u using Nb with
 |_ u a=>
  intro b hb;rw[Lu]at hb;split at hb
  ·simp_all<;>omega
  ·rename_i h;rcases Mn.1 hb with hb|hb
   ·grind
   simp_all<;>omega
theorem Zr7(u:Nat):Lu u≠[]:=by grind[Ni,Go.Lib.nDigits_pos]
theorem Zob(u:Nat):Nj (Lu u)=K2 u:=by simp_all[Nj,Zr7,Z1z]
theorem GU(n:Int):Ms (Lh n)=K2 n:=by
 unfold Lh;split
 ·grind[Ms,Zob]
 ·rename_i h;cases hd:Lu n.toNat with
  |nil=>grind[Zr7]
  |cons b r=>
   have d:=Oj n.toNat b (by rw[hd];simp);have a:¬(b==45)=true:=by intro e;simp_all
   have c:¬(b==43)=true:=by intro e;simp_all
   simp only[Ms];rw[if_neg a,if_neg c,<-hd,Zob]
   grind
theorem Qbe{b:Int}(h:Lh a=Lh b):a=b:=by grind[GU]
theorem H2(h:u<=999999999:=by omega):Mt u<=9:=by
 rcases Nat.lt_or_ge 9 (Mt u)with h'|h'
 ·exfalso;have a:∀k u,k<Mt u->k>=1->10^k<=u:=by
   intro k
   induction k with
   |zero=>omega
   |succ k b=>
    grind[Nl,Nk]
  grind
 ·exact h'
theorem wU(h0: -999999999<=n)(h1:n<=999999999):(Lh n).length<=10:=by grind[Lh,H2,Ni]
def pf:Ba->Nat×Nat->Nat×Nat|[],v=>v|b::l,v=>pf l (ite (48<=b.toNat/\b.toNat<=57) (v.1*10+(b.toNat-48),v.2+1) v)
theorem Qng:∀(l r:Ba)(v:Nat×Nat),pf (l++r) v=pf r (pf l v)
 |[],_,_=>rfl
 |b::l,r,v=>by simp only[M5,pf];exact Qng l r _
theorem Z6t:∀(u:Nat),pf (Lu u) (0,0)=(u,Mt u):=by
 intro u
 induction u using Nb with
 |_ u a=>
  rw[Lu];split
  ·rename_i h;have:(L1 (48+u)).toNat=48+u:=Ae
   simp only[pf,this];simp_all[Nl]<;>omega
  ·rename_i h;have:(L1 (48+u%10)).toNat=48+u%10:=Ae
   grind[Qng,Nk,pf]
theorem r6:∀(l:Ba)(v:Nat×Nat),v.1<10^v.2->(pf l v).1<10^ (pf l v).2/\(pf l v).2<=v.2+l.length
 |[],v,h=>⟨h,by simp[pf]⟩
 |b::l,v,h=>by
  simp only[pf];split
  ·have:=r6 l (v.1*10+(b.toNat-48),v.2+1) Ag
   grind
  ·have:=r6 l v h
   grind
theorem GD{k:Nat}(h:k<=11:=by omega):(10:Nat)^k<=100000000000:=L4 (Mh Ah h) Ah
def JV(s:Ba)(n:Nat):Int:=ite (s.head? =K2 45) (-(n:Int)) n
theorem On:∀(N:Nat)(pre rest:Ba)(n k:Nat),(pre++rest).length<=1048576->rest.length<N->pre.length<=11->n<10^k->k<=pre.length->
  kR N (pre++rest) n k pre.length=aE (pre++rest) (JV (pre++rest) (pf (rest.take (11-pre.length)) (n,k)).1) (pf (rest.take (11-pre.length)) (n,k)).2
 |0,_,_,_,_,_,h,_,_,_=>Aa
 |N+1,pre,rest,n,k,f,g,q,i,r=>by
  unfold kR gH;have fin:(Ze (((K3 (((pre++rest).length:Int)>(0:Int)))=K4->(0<=(0:Int)/\(0:Int)<(pre++rest).length)))<|
   bif(K3 (((pre++rest).length:Int)>(0:Int)))&&((((pre++rest).getD (0:Int).toNat 0).toNat:Int)==(45:Int))then
    aE (pre++rest) (Lb.wrap (0- (n:Int))) k
   else
    aE (pre++rest) n k)=aE (pre++rest) (JV (pre++rest) n) k:=by
   have j:=GD (k:=k);rw[Zb (λh=>Af),Zr];unfold JV;cases hs:pre++rest with
   |nil=>rfl
   |cons b l=>
    simp only[Lf,List.head?_cons,pB];by_cases c:b=45
    ·simp_all
    ·rw[if_neg c,Zm (by
      simp only[Nd];right;simp only[Int.toNat_zero,Mv,beq_eq_false_iff_ne,ne_eq];intro e;apply c;apply Nw.1
      grind)]
  cases rest with
  |nil=>
   simp_all[pf]
  |cons b rest=>
   by_cases s:pre.length<11
   ·simp only[Lv,Lf]at f g;rw[Zo Ae,Zb Ae];simp only[aH];rw[Zb (λ_=>Ae)];have e:=U0 pre b rest;have j:=GD (k:=k);have a:(b::rest).take (11-pre.length)=b::rest.take (11- (pre.length+1)):=by
     rw[show 11-pre.length=(11- (pre.length+1))+1 by omega,List.take_succ_cons]
    rw[a];simp only[pf];have o:b.toNat<256:=b.toNat_lt;by_cases d:48<=b.toNat/\b.toNat<=57
    ·rw[Zo Ae,Zb Ae,if_pos d];unfold qf;have u8:L3.wrap (((b.toNat:Int))-48)=((b.toNat-48:Nat):Int):=by
      grind[Ea]
     have w1:Lb.wrap ((n:Int)*10)=(n:Int)*10:=Zr;have p:Lb.wrap ((b.toNat-48:Nat):Int)=((b.toNat-48:Nat):Int):=Zr;rw[u8,w1,p,Zr,Zr (n:=(k:Int)+1),Zs (m:=(pre++b::rest).length) Ac Ae];have:=On N (pre++[b]) rest (n*10+(b.toNat-48)) (k+1) Ae Aa Ae Aa Ae;rw[<-e]at this;simp only[Lv,Lf,Ma,Mo]at this⊢
     grind
    ·rw[Zm Ae,if_neg d];unfold qf;rw[Zs (m:=(pre++b::rest).length) Ac Ae];have:=On N (pre++[b]) rest n k Ae Aa Ae i Ae;rw[<-e]at this;simp only[Lv,Lf,Ma,Mo]at this⊢;exact this
   ·rw[Zm Ae,show 11-pre.length=0 by omega];simp_all[pf]
theorem Qyt(s:Ba)(hs:s.length<=1048576):
  (∃n:Int,-999999999<=n/\n<=999999999/\s=Lh n/\oe s=K2 (n,K4,())/\cV s=K2 (n,K4,()))\/
  ((∀n:Int,-999999999<=n->n<=999999999->s≠Lh n)/\oe s=K2 (0,Lc,())/\cV s=K2 (0,Lc,())):=by
 have v:(∃n:Int,-999999999<=n/\n<=999999999/\s=Lh n/\cV s=K2 (n,K4,()))\/((∀n:Int,-999999999<=n->n<=999999999->s≠Lh n)/\cV s=K2 (0,Lc,())):=by
  unfold cV gG;by_cases z:s.length>10
  ·rw[Zo (Zl)];refine .inr ⟨λn f g e=>?_,rfl⟩
   grind[wU]
  ·rw[Zm (Zk)];simp only[MM];rw[Zb,pA];cases ha:Ms s with
   |none=>
    grind[GU]
   |some n=>
    have A:=Go.Lib.atoi_bound ha Aa;simp only[Option.getD_some,Option.isSome_some,pI,pH,XY];rw[Zb,pA];by_cases r:Lh n=s
    ·simp only[r,beq_self_eq_true,pI,Mp,Le,pH,Zy,pA]
     grind(splits:=20)[Qbe]
    ·have:(Lh n==s)=false:=by simpa using r
     simp only[this,Lk,Mq,Mr,pG,pA];refine .inr ⟨λm f g e=>?_,trivial⟩;simp_all[GU]
 have i:=On (((s.length:Int)-0).toNat+1) [] s 0 0 (by simpa using hs) Aa Ac Ac Ac;simp only[M8,Ma,Nat.sub_zero,L5]at i;have b:oe s=aE s (JV s (pf (s.take 11) (0,0)).1) (pf (s.take 11) (0,0)).2:=by
  simp_all[oe,um]
 obtain⟨c,j⟩:=r6 (s.take 11) (0,0) Ac;have hk:(pf (s.take 11) (0,0)).2<=11:=by
  grind
 have l:=GD hk
 
 have a:∀n:Int,-999999999<=n->n<=999999999->s=Lh n->JV s (pf (s.take 11) (0,0)).1=n/\(pf (s.take 11) (0,0)).2<=9:=by
  intro n f g e;have o:=wU f g;rw[<-e]at o;rw[M9 Aa];unfold Lh at e;split at e
  ·rename_i w;rw[e];simp only[pf];rw[if_neg Ah,Z6t];refine⟨?_,H2⟩;simp_all[JV]<;>omega
  ·rename_i w;rw[e,Z6t];refine⟨?_,H2⟩;unfold JV;rw[if_neg]
   ·simp only;omega
   ·intro x;have:=Oj n.toNat 45 (List.mem_of_mem_head? x);simp at this
 generalize (pf (s.take 11) (0,0)).1=u at b c a;generalize (pf (s.take 11) (0,0)).2=k at b c j hk l a;have h: -100000000000<=JV s u/\JV s u<=100000000000:=by grind[JV]
 unfold aE at b;simp only[Cg (JV s u),Qkr,pA]at b;rcases v with⟨n,f,g,e,t⟩|⟨p,t⟩
 ·constructor<;>grind[wU]
 ·refine .inr ⟨p,?_,t⟩;rw[b];by_cases y:(K3 ((k:Int)>9)||K3 ((s.length:Int)>10))=K4
  ·grind
  ·have d:(K3 ((k:Int)>9)||K3 ((s.length:Int)>10))=false:=by simpa using y
   simp only[d,pH,Le];rw[Zo];simp only[Mi,beq_eq_false_iff_ne,ne_eq];intro e;simp only[Lt,decide_eq_false_iff_not]at d;have q:k<=9:=Aa
   have:(10:Nat)^k<=1000000000:=L4 (Mh Ah q) Ah
   grind[JV]
theorem Z6d(c:UInt8)(hc:c=32\/c=10)(n:Int):c∉Lh n:=by
 have a:∀u,c∉Lu u:=λu h=>by
  have:=Oj u c h;rcases hc with rfl|rfl<;>simp at this
 grind[Lh]
def ix(c:UInt8):Ba->Ba×Ba×Bool|[]=>([],[],Lc)|b::l=>ite (b=c) ([],l,K4) (b:: (ix c l).1,(ix c l).2.1,(ix c l).2.2)
def dG(c:UInt8):Ba->List Ba
 |[]=>[[]]
 |b::l=>if b=c then[]::dG c l else match dG c l with
  |[]=>[[b]]
  |w::ws=>(b::w)::ws
theorem NY(c:UInt8):∀l,dG c l≠[]
 |[]=>by simp[dG]
 |b::l=>by
  grind[dG]
theorem Z7c(c:UInt8):∀(a r:Ba),c∉a->dG c (a++c::r)=a::dG c r
 |[],r,_=>by simp[dG]
 |b::a,r,h=>by
  have f:b≠c:=λe=>h (by simp[e]);have g:=Z7c c a r (λd=>h (by simp[d]));simp_all[dG]
theorem Z4l(c:UInt8):∀(a:Ba),c∉a->dG c a=[a]
 |[],_=>by simp[dG]
 |b::a,h=>by
  have f:b≠c:=λe=>h (by simp[e]);have g:=Z4l c a (λd=>h (by simp[d]));simp_all[dG]
theorem LJ(c:UInt8):∀(a r:Ba),c∉a->ix c (a++c::r)=(a,r,K4)
 |[],r,_=>by simp[ix]
 |b::a,r,h=>by
  have f:b≠c:=λe=>h (by simp[e]);have g:=LJ c a r (λd=>h (by simp[d]));simp_all[ix]
theorem Rl(c:UInt8):∀(a:Ba),c∉a->ix c a=(a,[],Lc)
 |[],_=>by simp[ix]
 |b::a,h=>by
  have f:b≠c:=λe=>h (by simp[e]);have g:=Rl c a (λd=>h (by simp[d]));simp_all[ix]
theorem xY(c:UInt8):∀l:Ba,(ix c l).1.length<=l.length/\(ix c l).2.1.length<=l.length
 |[]=>by simp[ix]
 |b::l=>by
  have:=xY c l
  grind[ix]
theorem sX(c:UInt8):∀l:Ba,c∉l\/ ∃a r,l=a++c::r/\c∉a
 |[]=>.inl Ac
 |b::l=>by
  by_cases h:b=c
  ·exact .inr ⟨[],l,by simp[h],Ac⟩
  ·rcases sX c l with d|⟨a,r,e,d⟩
   all_goals grind
theorem Ut(c:UInt8):∀l:Ba,c∉l->Mj l [c]= -1
 |[],_=>rfl
 |b::l,h=>by
  have d:¬c=b:=λe=>h (by simp[e]);have f:=Ut c l (λa=>h (by simp[a]));simp_all[Mj]
theorem CL(c:UInt8):∀(a r:Ba),c∉a->Mj (a++c::r) [c]=a.length
 |[],r,_=>by simp[Mj,List.isPrefixOf]
 |b::a,r,h=>by
  have f:¬c=b:=λe=>h (by simp[e]);have g:=CL c a r (λd=>h (by simp[d]));simp_all[Mj]
theorem Qto(c:UInt8)(l:Ba):Nh l [c]=ix c l:=by
 unfold Nh;rcases sX c l with h|⟨a,r,rfl,h⟩
 all_goals simp_all[Ut,Rl,CL,LJ]
theorem Qcm(c:UInt8):∀(n:Nat)(l:Ba),l.length<=n->Nm [c] 0 (Go.Lib.count l [c]) l=dG c l:=by
 intro n
 induction n with
 |zero=>
  intro l h;have:l=[]:=List.eq_nil_of_length_eq_zero Aa;subst this;rfl
 |succ n e=>
  intro l h;rcases sX c l with b|⟨a,r,rfl,b⟩
  ·rw[Go.Lib.count_miss (Ut c l b),Z4l c l b];rfl
  ·have d:=CL c a r b;rw[Go.Lib.count_hit (i:=a.length) Ac d,Z7c c a r b,Nat.add_comm,Nm,d];simp only[Lv,Lf]at h;have f:(a++c::r).drop ((a.length:Int).toNat+[c].length)=r:=Ac
   have g:(a++c::r).drop (a.length+[c].length)=r:=Ac
   have j:(a++c::r).take ((a.length:Int).toNat+0)=a:=Ac
   grind
theorem AB(c:UInt8):∀l:Ba,(dG c l).length<=l.length+1/\ ∀w∈dG c l,w.length<=l.length
 |[]=>by simp[dG]
 |b::l=>by
  obtain⟨a,d⟩:=AB c l;unfold dG
  grind
def U6(p:Ba):List Ba->List Ba|[]=>[p]|w::ws=>(p++w)::ws
theorem Zxw{l:List Ba}(h:l≠[]):U6 [] l=l:=by cases l<;>simp_all[U6]
theorem vF(c:UInt8):∀(N:Nat)(pre rest:Ba)(out:List Ba)(part:Ba),(pre++rest).length<=1048576->rest.length<N->out.length<=pre.length->part.length<=pre.length->
  dA N (pre++rest) (c.toNat:Int) out part pre.length=K2 (out++U6 part (dG c rest),())
 |0,_,_,_,_,_,h,_,_=>Aa
 |N+1,pre,[],out,part,a,g,j,k=>by
  unfold dA gH;simp only[Lv,Ma]at a;rw[Zm Ac,Zb Aj];simp[dG,U6]
 |N+1,pre,b::rest,out,part,a,g,j,k=>by
  unfold dA gH;simp only[Lv,Lf]at a g;rw[Zo Ae,Zb Ae];simp only[aH];have e:=U0 pre b rest;by_cases i:b=c
  ·subst i;rw[Zo Ac,Zb Aj];unfold lN;rw[Zs (m:=(pre++b::rest).length) Ac Ae];have:=vF b N (pre++[b]) rest (out++[part]) [] Ae Aa Ae Ac;rw[<-e]at this;simp only[Lv,Lf,Ma,Mo]at this⊢
   grind[Zxw,NY,dG,U6]
  ·have d:((b.toNat:Int)==(c.toNat:Int))=false:=by
    grind[Nw]
   rw[Zm d,Zs (m:=(pre++b::rest).length) Ac Ae,Zb Ae];have f:((pre++b::rest).drop (pre.length:Int).toNat).take (((pre.length+1:Nat):Int).toNat- (pre.length:Int).toNat)=[b]:=by
    simp_all
   simp only[f];rw[Zb Al];unfold lN;rw[Zs (m:=(pre++b::rest).length) Ac Ae];have:=vF c N (pre++[b]) rest out (part++[b]) Ae Aa Ae Ae;rw[<-e]at this;simp only[Lv,Lf,Ma,Mo]at this⊢;rw[this];congr 3;simp only[dG,i,if_false]
   grind[U6]
theorem Qmg(c:UInt8)(s:Ba)(hs:s.length<=1048576):wi s (c.toNat:Int)=K2 (dG c s,()):=by have:=vF c (((s.length:Int)-0).toNat+1) [] s [] [] (by simpa using hs) Aa Ac Ac;simp_all[wi,oK,Zxw,NY]
def fq(x:Int):Bool:=K3 (x>=(0:Int))&&K3 (x<=(4611686018427387903:Int))
theorem Qjm(x:Int):Q0 x=K2 (fq x,()):=rfl
theorem N9(x:Int):Xk x=K2 (fq x,()):=rfl
theorem Qbg:G9=yz:=rfl
theorem Qkc:Vj=Vr:=rfl
theorem Qra:ND=VI:=rfl
def K0(f:Zj):Bool:=cond (f.1==4) (K3 ((f:LT)=0)&&((f:IO)==[])&&((f:Zas)==Lc)&&K3 ((f:Zan)=0)&&((f:ZaA)==Lc)) (cond (f.1==5) (K3 ((f:LT)=0)&&((f:IO)==[])&&((f:Zas)==Lc)&&K3 ((f:Zan)=0)&&K3 ((f:Zax)=0)&&((f:ZaA)==Lc)) (cond (f.1==8) (K3 ((f:Zap)=0)&&K3 ((f:Zan)=0)&&K3 ((f:Zax)=0)&&((f:ZaA)==Lc)) (cond (f.1==17||f.1==21) (K3 ((f:LT)=0)&&((f:IO)==[])&&((f:Zas)==Lc)&&K3 ((f:Zap)=0)&&K3 ((f:Zax)=0)&&((f:ZaA)==Lc)) (cond (f.1==18||f.1==22) (K3 (f.2.1=0)&&K3 ((f:LT)=0)&&((f:IO)==[])&&((f:Zas)==Lc)&&K3 ((f:Zap)=0)&&K3 ((f:Zax)=0)) (cond (f.1==16||f.1==20) (K3 (f.2.1=0)&&K3 ((f:LT)=0)&&((f:IO)==[])&&((f:Zas)==Lc)&&K3 ((f:Zap)=0)&&K3 ((f:Zax)=0)&&((f:ZaA)==Lc)) Lc)))))
def Kg(f:Zj):Bool:=K0 f&&fq f.2.1&&fq (f:LT)&&fq (f:Zap)&&fq (f:Zan)&&fq (f:Zax)&&K3 ((f:IO).length<=400)&&(cond (f.1==18||f.1==22) (K3 ((f:Zan)<=(1152921504606846976:Int))) (K3 ((f:LT)<=(4611686018427387903:Int)- ((f:IO).length:Int))))
theorem Qbr(k:Int):∃s,yz k=K2 (s,())/\((s==([]:Ba))= !(k==4||k==5||k==8||k==16||k==17||k==18||k==20||k==21||k==22)):=by unfold yz;cases h4:k==4<;>cases h5:k==5<;>cases h8:k==8<;>cases h16:k==16<;>cases h17:k==17<;>cases h18:k==18<;>cases h20:k==20<;>cases h21:k==21<;>cases h22:k==22<;>exact⟨_,rfl,rfl⟩
theorem Z7g(f:Zj):∃u,VI f=K2 (u,())/\((f.1==4||f.1==5||f.1==8||f.1==16||f.1==17||f.1==18||f.1==20||f.1==21||f.1==22)=K4->TR Zt u f=K0 f/\TR Zt f u=K0 f):=by
 obtain⟨k,v,p,n,fin,o,a,b,q,z⟩:=f;by_cases r:k=4
 ·subst r;exact⟨_,rfl,λ_=>by constructor<;>rw[Lz]<;>simp[TR,K0]<;>grind⟩
 by_cases s:k=5
 ·subst s;exact⟨_,rfl,λ_=>by constructor<;>rw[Lz]<;>simp[TR,K0]<;>grind⟩
 by_cases t:k=8
 ·subst t;exact⟨_,rfl,λ_=>by constructor<;>rw[Lz]<;>simp[TR,K0]<;>grind⟩
 by_cases d:k=17
 ·subst d;exact⟨_,rfl,λ_=>by constructor<;>rw[Lz]<;>simp[TR,K0]<;>grind⟩
 by_cases g:k=21
 ·subst g;exact⟨_,rfl,λ_=>by constructor<;>rw[Lz]<;>simp[TR,K0]<;>grind⟩
 by_cases i:k=18
 ·subst i;exact⟨_,rfl,λ_=>by constructor<;>rw[Lz]<;>simp[TR,K0]<;>grind⟩
 by_cases j:k=22
 ·subst j;exact⟨_,rfl,λ_=>by constructor<;>rw[Lz]<;>simp[TR,K0]<;>grind⟩
 by_cases l:k=16
 ·subst l;exact⟨_,rfl,λ_=>by constructor<;>rw[Lz]<;>simp[TR,K0]<;>grind⟩
 by_cases m:k=20
 ·subst m;exact⟨_,rfl,λ_=>by constructor<;>rw[Lz]<;>simp[TR,K0]<;>grind⟩
 ·have e:∀c:Int,k≠c->(k==c)=false:=λc h=>by simp[h]
  refine⟨(k,0,0,[],Lc,0,a,0,Lc,()),?_,λhk=>?_⟩
  all_goals grind[VI,Vr,Kv,XW,XX]
theorem Z6u(h:K0 f=K4)(h8:f.1≠8):(f:LT)=0/\(f:IO)=[]:=by grind[K0]
theorem GW(h:K0 f=K4):(f.1==4||f.1==5||f.1==8||f.1==16||f.1==17||f.1==18||f.1==20||f.1==21||f.1==22)=true:=by grind[K0]
theorem xt(f:Zj)(hl:(f:IO).length<=1048576:=by omega):aC f=K2 (Kg f,()):=by
 obtain⟨s,c,d⟩:=Qbr f.1;obtain⟨u,e,g⟩:=Z7g f;unfold aC gG;simp only[c,e,Qjm,pA,d];cases hk:(f.1==4||f.1==5||f.1==8||f.1==16||f.1==17||f.1==18||f.1==20||f.1==21||f.1==22)
 ·grind[GW,Kg]
 ·simp only[pI,pH,pA,Le,(g hk).1];have h:Kg f=(K0 f&&fq f.2.1&&fq (f:LT)&&fq (f:Zap)&&fq (f:Zan)&&fq (f:Zax)&&K3 ((f:IO).length<=400)&&(cond (f.1==18||f.1==22) (K3 ((f:Zan)<=(1152921504606846976:Int))) (K3 ((f:LT)<=(4611686018427387903:Int)- ((f:IO).length:Int))))):=rfl;rw[h,Zr];have i:K3 (((f:IO).length:Int)>400)= !(K3 ((f:IO).length<=400)):=by
   grind
  rw[i];cases hpf:K0 f
  ·simp
  ·have a:=Z6u hpf;cases fq f.2.1<;>cases fq (f:LT)<;>cases fq (f:Zap)<;>cases fq (f:Zan)<;>cases fq (f:Zax)<;>cases hlen:K3 ((f:IO).length<=400)<;>try rfl
   by_cases b:f.1=8
   ·simp[b]
   ·have j:(f.1==8)=false:=by simp[b]
    obtain⟨k,l⟩:=a b;unfold y6;cases h18:f.1==18<;>cases h22:f.1==22<;>simp[j,k,l]
theorem QJ(f:Zj)(hl:(f:IO).length<=1048576:=by omega):Wq f=K2 (Kg f,()):=by
 obtain⟨s,b,c⟩:=Qbr f.1;obtain⟨u,d,e⟩:=Z7g f;unfold Wq gG;rw[Qbg,Qra];simp only[b,d,N9,pA,c];cases hk:(f.1==4||f.1==5||f.1==8||f.1==16||f.1==17||f.1==18||f.1==20||f.1==21||f.1==22)
 ·grind[GW,Kg]
 ·simp only[pI,pH,pA,Le,(e hk).2];have g:Kg f=(K0 f&&fq f.2.1&&fq (f:LT)&&fq (f:Zap)&&fq (f:Zan)&&fq (f:Zax)&&K3 ((f:IO).length<=400)&&(cond (f.1==18||f.1==22) (K3 ((f:Zan)<=(1152921504606846976:Int))) (K3 ((f:LT)<=(4611686018427387903:Int)- ((f:IO).length:Int))))):=rfl;rw[g,Zr];have h:K3 (((f:IO).length:Int)<=400)=(K3 ((f:IO).length<=400)):=by
   grind
  rw[h];cases hpf:K0 f
  ·simp
  ·have a:=Z6u hpf;cases fq f.2.1<;>cases fq (f:LT)<;>cases fq (f:Zap)<;>cases fq (f:Zan)<;>cases fq (f:Zax)<;>try rfl
   grind
open Classical in
def DJ(s:Ba):Option Int:=if h:∃n:Int,-999999999<=n/\n<=999999999/\s=Lh n then K2 h.choose else Lj
theorem qS(h0: -999999999<=n:=by omega)(h1:n<=999999999:=by omega):DJ (Lh n)=K2 n:=by
 unfold DJ;have a:∃m:Int,-999999999<=m/\m<=999999999/\Lh n=Lh m:=⟨n,h0,h1,rfl⟩
 rw[dif_pos a]
 grind[Qbe]
theorem zU(s:Ba)(hs:s.length<=1048576:=by omega):oe s=K2 ((DJ s).getD 0,(DJ s).isSome,())/\cV s=K2 ((DJ s).getD 0,(DJ s).isSome,()):=by grind[Qyt,DJ,qS]
def vO(s:Ba):Int:=(DJ s).getD (-1)
theorem xA(s:Ba)(hs:s.length<=1048576:=by omega):qx s=K2 (vO s,()):=by unfold qx vO;rw[(zU s hs).1];cases DJ s<;>rfl
def iO(r:Zi):Bool:=(K3 (r.1>=(0:Int))&&K3 (r.1<r.2.1))&&K3 (r.2.1<=(4611686018427387903:Int))
theorem DU(r:Zi):VH r=K2 (iO r,()):=rfl
theorem Xs{r:Zi}:iO r=K4↔0<=r.1/\r.1<r.2.1/\r.2.1<=4611686018427387903:=by grind[iO]
def Hl:Int->List Zi->Bool|_,[]=>K4|lo,r::l=>iO r&&K3 (lo<r.1)&&Hl r.2.1 l
theorem Zoj:∀(N:Nat)(pre rest:List Zi)(lo:Int),(pre++rest).length<=1048576->rest<N->(pre=[]->lo<0)->(∀q x,pre=q++[x]->lo=x.2.1)->
  cD N (pre++rest) pre=K2 (Hl lo rest,())
 |0,_,_,_,_,h,_,_=>Aa
 |N+1,pre,[],lo,k,g,i,j=>by
  unfold cD;rw[Zm Ac];rfl
 |N+1,pre,r::rest,lo,k,g,i,j=>by
  have a:(pre++r::rest).length=pre+rest+1:=Ae
  simp only[Lf]at g;unfold cD;rw[Zo (Zl (by rw[a];omega)),Zb (by rw[a];omega),aH,DU,pA];have f:=Zoj N (pre++[r]) rest r.2.1 Ae Aa Ac (λq x e=>by
   simp_all)
  have l:((pre++[r]):Int)=((pre+1:Nat):Int):=Ac
  rw[l]at f;rw[show(pre++[r])++rest=pre++r::rest by simp]at f;rw[Zb (λ_ h=>by
   grind[Zr]),Zb (λ_ _=>by rw[a];omega),Zs (m:=pre+1),f]
  simp only[Hl];cases hf:iO r
  ·rfl
  ·rcases List.eq_nil_or_concat pre with b|⟨q,x,b⟩
   ·subst b;have c:=i rfl;have o:=Xs.1 hf;rw[Zm Ac]
    grind
   ·rw[List.concat_eq_append]at b;have c:=j q x b;have n:(pre++r::rest).getD (Lb.wrap (pre-1)).toNat Z3=x:=by
     rw[Zr];have e:((pre:Int)-1).toNat=q:=by rw[b];simp
     rw[e,b,M3]
     grind
    rw[n,<-c];have d:K3 ((pre:Int)>0)=true:=Zl (by rw[b];simp);rw[d];by_cases p:lo<r.1
    all_goals grind
theorem eU(l:List Zi)(hl:l.length<=1048576:=by omega):V9 l=K2 (Hl (-1) l,()):=by unfold V9;exact Zoj _ [] l (-1) (by simpa using hl) (by simp[eY]) (λ_=>Aa) (λq x e=>by simp at e)
theorem ia{r:Zi}{l:List Zi}:Hl lo (r::l)=K4↔iO r=K4/\lo<r.1/\Hl r.2.1 l=true:=by simp[Hl,and_assoc]
theorem BT:∀{l:List Zi}{lo lo':Int},Hl lo l=K4->lo'<=lo->Hl lo' l=K4
 |[],_,_,_,_=>rfl
 |r::l,lo,lo',h,a=>by
  grind[ia]
theorem XL:∀{l:List Zi}{lo:Int},Hl lo l=K4-> ∀x∈l,lo<x.1/\iO x=K4
 |[],_,_,x,hx=>by cases hx
 |r::l,lo,h,x,hx=>by
  rw[ia]at h;have a:=Xs.1 h.1;rcases Ly.1 hx with rfl|hx
  ·simp_all
  ·have:=XL h.2.2 x hx
   grind
theorem Qhm:∀{l:List Zi}{lo E:Int},Hl lo l=K4->(∀x∈l,x.2.1<=E)->lo<=E->l<=E-lo
 |[],lo,E,_,_,a=>Ae
 |r::l,lo,E,h,a,_=>by
  rw[ia]at h;have b:=Xs.1 h.1;have:=Qhm (E:=E) h.2.2 (λx hx=>a x (by simp[hx])) (a r Ac)
  grind
def nR:List Zi->Zi->List Zi|[],r=>[r]|x::l,r=>ite (x.2.1<r.1) (x::nR l r) (ite (x.1>r.2.1) (r::x::l) (nR l (min r.1 x.1,max r.2.1 x.2.1,())))
theorem MK(l:List Zi)(hl:l.length<=1048576):qy l=K2 (l,()):=by grind[qy,Zb,Qg]
theorem Zxx:∀(N:Nat)(pre rest:List Zi)(r:Zi)(out:List Zi),(pre++rest).length<=1048576->rest<N->out<=pre.length+1->r.1<r.2.1->(∀x∈rest,r.2.1<x.1/\x.1<x.2.1)->
  K7 N (pre++rest) r out K4 pre=K2 (out++rest,())
 |0,_,_,_,_,_,h,_,_,_=>Aa
 |N+1,pre,[],r,out,d,b,e,c,hx=>by
  simp_all[K7]
 |N+1,pre,x::rest,r,out,d,b,e,c,hx=>by
  have a:(pre++x::rest).length=pre+rest+1:=Ae
  simp only[Lf]at b;have f:=hx x Ac;unfold K7;rw[Zo (Zl (by rw[a];omega)),Zb (by rw[a];omega),aH,Zm (Zk),Zb (by rw[a];omega),Zo (Zl),Zm (by rfl)];unfold qa gH gK cw;rw[Zb (by rw[a];omega),aH,Zb Aj,Zs (m:=pre+1)];have i:=Zxx N (pre++[x]) rest r (out++[x]) Ae Aa Ae c (λy g=>hx y (by simp[g]));simp_all
theorem MO:∀(N:Nat)(pre rest:List Zi)(r:Zi)(out:List Zi)(lo:Int),(pre++rest).length<=1048576->rest<N->out<=pre.length->r.1<r.2.1->Hl lo rest=K4->
  K7 N (pre++rest) r out Lc pre=K2 (out++nR rest r,())
 |0,_,_,_,_,_,_,h,_,_,_=>Aa
 |N+1,pre,[],r,out,lo,j,k,n,f,hx=>by
  simp only[M4]at j;unfold K7;rw[Zm Ac,Zo (by rfl),Zb Aj];rfl
 |N+1,pre,x::rest,r,out,lo,j,k,n,f,hx=>by
  have a:(pre++x::rest).length=pre+rest+1:=Ae
  simp only[Lf]at k;obtain⟨l,o,b⟩:=ia.1 hx;have l:=Xs.1 l;unfold K7;rw[Zo (Zl (by rw[a];omega)),Zb (by rw[a];omega),aH];have g:(pre++[x])++rest=pre++x::rest:=Ac
  have i:((pre++[x]):Int)=((pre+1:Nat):Int):=Ac
  by_cases d:x.2.1<r.1
  ·rw[Zo (Zl d),Zb (by rw[a];omega),Zb Aj];unfold cw;have c:=MO N (pre++[x]) rest r (out++[x]) _ Ae Aa Ae f b;rw[g,i]at c;rw[Zs (m:=pre+1)];simp_all[nR]
  ·rw[Zm (Zk d),Zb (by rw[a];omega)];by_cases e:x.1>r.2.1
   ·rw[Zo (Zl e),Zo (by rfl),Zb Aj];unfold qa gH gK cw;rw[Zb (by rw[a];omega),aH,Zb Aj,Zs (m:=pre+1)];have c:=Zxx N (pre++[x]) rest r (out++[r]++[x]) Ae Aa Ae f (λy p=>by
     have:=XL b y p
     grind[Xs])
    rw[g,i]at c;simp only[c,nR,d,e,if_true,if_false];simp
   ·rw[Zm (Zk e),Zb (by rw[a];omega),Zb (by rw[a];omega)];unfold cw;have c:=MO N (pre++[x]) rest (min r.1 x.1,max r.2.1 x.2.1,r.2.2) out _ Ae Aa Ae Ai b;rw[g,i]at c;rw[Zs (m:=pre+1)];simp only[c,nR,d,e,if_false]
theorem mR(l:List Zi)(r:Zi)(hl:l.length<=1048576:=by omega):cW l r=K2 (ite (Hl (-1) l=K4/\iO r=K4) (nR l r) l,()):=by
 unfold cW gG;rw[eU l hl,pA];cases h1:Hl (-1) l
 ·simp[MK l hl]
 ·simp only[pI,pH,DU,pA,Le];cases h2:iO r
  ·simp[MK l hl]
  ·have a:=Xs.1 h2;have:=MO (lV l r [] Lc 0) [] l r [] (-1) (by simpa using hl) (by simp[lV]) Ac Aa h1;simp_all
def RL(E:Int)(l:List Zi):Prop:=Hl (-1) l=K4/\ ∀x∈l,x.2.1<=E
theorem BY:∀{l:List Zi}{lo:Int}{r:Zi},Hl lo l=K4->iO r=K4->lo<r.1->Hl lo (nR l r)=K4
 |[],lo,r,_,b,e=>by simp_all[nR,Hl]
 |x::l,lo,r,f,b,e=>by
  obtain⟨d,c,a⟩:=ia.1 f;have hx:=Xs.1 d;have g:=Xs.1 b;unfold nR;split
  ·exact ia.2 ⟨d,c,BY a b Aa⟩
  ·split
   ·simp_all[ia]
   ·exact BY (BT a Aa) (Xs.2 Ai) Ai
theorem AS{E:Int}:∀{l:List Zi}{r:Zi},(∀x∈l,x.2.1<=E)->r.2.1<=E-> ∀x∈nR l r,x.2.1<=E
 |[],r,_,h,x,hx=>by simp_all[nR]
 |y::l,r,b,h,x,hx=>by
  have c:=b y Ac;have a:∀x∈l,x.2.1<=E:=λx hx=>b x (by simp[hx]);unfold nR at hx;split at hx
  ·rcases Ly.1 hx with rfl|hx
   ·exact c
   ·exact AS a h x hx
  ·split at hx
   ·grind
   ·exact AS a Ai x hx
theorem vQ:∀{l:List Zi}{r:Zi},(nR l r)<=l.length+1
 |[],r=>by simp[nR]
 |y::l,r=>by
  unfold nR;split
  ·have:=vQ (l:=l) (r:=r);simp_all
  ·split
   ·simp
   ·have:=vQ (l:=l) (r:=(min r.1 y.1,max r.2.1 y.2.1,()));grind
theorem qE{l:List Zi}{r:Zi}(h:RL E l)(hr:r.2.1<=E):RL E (ite (Hl (-1) l=K4/\iO r=K4) (nR l r) l):=by
 split
 ·rename_i a;have:=Xs.1 a.2;exact⟨BY a.1 a.2 Aa,AS h.2 hr⟩
 ·exact h
theorem NK{E':Int}{l:List Zi}(h:RL E l)(he:E<=E':=by omega):RL E' l:=⟨h.1,λx hx=>Int.le_trans (h.2 x hx) he⟩
theorem Qs4{l:List Zi}(h:RL E l)(hE: -1<=E):l<=E+1:=by have:=Qhm h.1 h.2 hE;omega
def Rq(r x:Zi):List Zi:=(ite (x.1<min x.2.1 r.1) [(x.1,min x.2.1 r.1,())] [])++(ite (max x.1 r.2.1<x.2.1) [(max x.1 r.2.1,x.2.1,())] [])
def vL(r:Zi):List Zi->List Zi|[]=>[]|x::l=>Rq r x++vL r l
theorem Pw:∀(N:Nat)(pre rest:List Zi)(r:Zi)(out:List Zi),(pre++rest).length<=1048576->rest.length<N->out.length<=2*pre.length->
  Wh N (pre++rest) r out (pre.length:Int)=K2 (out++vL r rest,())
 |0,_,_,_,_,_,h,_=>Aa
 |N+1,pre,[],r,out,e,c,f=>by
  simp_all[Wh,vL]
 |N+1,pre,x::rest,r,out,e,c,f=>by
  have b:(pre++x::rest).length=pre.length+rest.length+1:=Ae
  simp only[Lf]at c;have g:∀{ρ:Type}(m:Option ρ),Ze (0<=(pre.length:Int)/\(pre.length:Int)<((pre++x::rest).length:Int)) m=m:=λm=>Zb (by rw[b];omega);have k:(pre++[x])++rest=pre++x::rest:=Ac
  have l:((pre++[x]).length:Int)=((pre.length+1:Nat):Int):=Ac
  have d:∀a:List Zi,a.length<=2*pre.length+1->jv (λv=>Wh N v.1 v.2.1 v.2.2.1 v.2.2.2.1) (pre++x::rest) r a (pre.length:Int)=K2 (a++(ite (max x.1 r.2.1<x.2.1) [(max x.1 r.2.1,x.2.1,())] [])++vL r rest,()):=by
   intro a i;unfold jv gH gK oJ;simp only[g,aH];rw[Zs (m:=pre.length+1)];by_cases h:max x.1 r.2.1<x.2.1
   ·rw[Zo (Zl h),if_pos h,Zb Aj];have j:=Pw N (pre++[x]) rest r (a++[(max x.1 r.2.1,x.2.1,())]) Ae Aa Ae;simp_all
   ·rw[Zm (Zk h),if_neg h];have j:=Pw N (pre++[x]) rest r a Ae Aa Ae;simp_all
  unfold Wh;rw[Zo (Zl (by rw[b];omega))];simp only[g,aH];by_cases h:x.1<min x.2.1 r.1
  ·rw[Zo (Zl h),Zb Aj,d _ Ae];simp[vL,Rq,h]
  ·rw[Zm (Zk h),d _ Aa];simp[vL,Rq,h]
theorem z0(l:List Zi)(r:Zi)(hl:l.length<=1048576:=by omega):kT l r=K2 (ite (Hl (-1) l=K4/\iO r=K4) (vL r l) l,()):=by
 unfold kT gG;rw[eU l hl,pA];cases h1:Hl (-1) l
 ·simp[MK l hl]
 ·simp only[pI,pH,DU,pA,Le];cases h2:iO r
  ·simp[MK l hl]
  ·have:=Pw (ge l r [] 0) [] l r [] (by simpa using hl) (by simp[ge]) Ac;simp_all
theorem Qhi{r:Zi}(hr:iO r=K4):∀{l:List Zi}{lo:Int},Hl lo l=K4->Hl lo (vL r l)=K4
 |[],lo,_=>rfl
 |x::l,lo,c=>by
  obtain⟨d,e,a⟩:=ia.1 c;have hx:=Xs.1 d;have hr:=Xs.1 hr;have f:=λb h=>Qhi (r:=r) (Xs.2 hr) (l:=l) (lo:=b) (BT a h)
  grind[vL,Rq,ia,Xs]
theorem Z61{E:Int}{r:Zi}:∀{l:List Zi},(∀x∈l,x.2.1<=E)-> ∀x∈vL r l,x.2.1<=E
 |[],_,x,hx=>by simp[vL]at hx
 |y::l,a,x,hx=>by
  have b:=a y Ac;unfold vL Rq at hx;simp only[Mn]at hx;rcases hx with(hx|hx)|hx
  ·grind
  ·simp_all
  ·exact Z61 (λx hx=>a x (by simp[hx])) x hx
theorem UV{l:List Zi}{r:Zi}(h:RL E l):RL E (ite (Hl (-1) l=K4/\iO r=K4) (vL r l) l):=by
 split
 ·rename_i a;exact⟨Qhi a.2 a.1,Z61 h.2⟩
 ·exact h
def KC(a b:Zi):List Zi:=ite (max a.1 b.1<min a.2.1 b.2.1) [(max a.1 b.1,min a.2.1 b.2.1,())] []
theorem EN(K1:(List Zi×List Zi×List Zi×Int×Unit)->Oa (List Zi))(a:List Zi)(i:Nat)(hi:i<a.length):∀(N:Nat)(pre rest:List Zi)(out:List Zi),(pre++rest).length<=1000->rest.length<N->out.length+rest.length<=10000000000->
  cy K1 N a (pre++rest) out (i:Int) (pre.length:Int)=K1 (a,pre++rest,out++rest.flatMap (KC (a.getD i Z3)),Lb.wrap ((i:Int)+1),())
 |0,_,_,_,_,h,_=>Aa
 |N+1,pre,[],out,e,c,d=>by
  simp_all[cy]
 |N+1,pre,x::rest,out,e,c,d=>by
  have b:(pre++x::rest).length=pre.length+rest.length+1:=Ae
  simp only[Lf]at c d;have g:∀{ρ:Type}(m:Option ρ),Ze (0<=(pre.length:Int)/\(pre.length:Int)<((pre++x::rest).length:Int)) m=m:=λm=>Zb (by rw[b];omega);have f:∀{ρ:Type}(m:Option ρ),Ze (0<=(i:Int)/\(i:Int)<(a.length:Int)) m=m:=λm=>Zb;have k:(pre++[x])++rest=pre++x::rest:=Ac
  have l:((pre++[x]).length:Int)=((pre.length+1:Nat):Int):=Ac
  unfold cy;rw[Zo (Zl (by rw[b];omega))];simp only[g,f,aH,Xm];rw[show(i:Int).toNat=i from rfl];unfold wd nE;simp only;rw[Zs (m:=pre.length+1)];by_cases h:max (a.getD i Z3).1 x.1<min (a.getD i Z3).2.1 x.2.1
  ·rw[Zo (Zl h),Zb Aj];have j:=EN K1 a i hi N (pre++[x]) rest (out++[(max (a.getD i Z3).1 x.1,min (a.getD i Z3).2.1 x.2.1,())]) Ae Aa Ae;simp_all[KC]
  ·rw[Zm (Zk h)];have j:=EN K1 a i hi N (pre++[x]) rest out Ae Aa Aa;simp_all[KC,if_neg]
theorem Qag(a b:Zi):(KC a b).length<=1:=by grind[KC]
theorem qt{α β:Type}{f:α->List β}{k:Nat}(hf:∀x,(f x).length<=k):∀l:List α,(l.flatMap f).length<=k*l.length
 |[]=>Ac
 |x::l=>by
  have:=qt hf l
  grind[Nat.mul_succ]
theorem Z1t(b:List Zi)(hb:b.length<=1000):∀(N:Nat)(pre rest:List Zi)(out:List Zi),(pre++rest).length<=1048576->rest.length<N->out.length<=1000*pre.length->
  af N (pre++rest) b out (pre.length:Int)=K2 (out++(ite (Hl (-1) (pre++rest)=K4/\Hl (-1) b=K4) (rest.flatMap λa=>b.flatMap (KC a)) []),())
 |0,_,_,_,_,h,_=>Aa
 |N+1,pre,[],out,e,d,f=>by
  simp_all[af]
 |N+1,pre,x::rest,out,e,d,f=>by
  have c:(pre++x::rest).length=pre.length+rest.length+1:=Ae
  simp only[Lf]at d;unfold af;have g:K3 ((pre.length:Int)<((pre++x::rest).length:Int))=true:=Zl (by rw[c];omega);rw[g,eU _,eU b];simp only[pG,pA,pJ];cases h1:Hl (-1) (pre++x::rest)
  ·simp
  cases h2:Hl (-1) b
  ·simp
  simp only[pG,pA,Li,and_self,if_true];have hx:(pre++x::rest).getD pre.length Z3=x:=aH pre x rest Z3;have h:=EN (λv=>af N v.1 v.2.1 v.2.2.1 v.2.2.2.1) (pre++x::rest) pre.length (by rw[c];omega) (eD (pre++x::rest) b out (pre.length:Int) 0) [] b out (by simpa using hb) (by simp[eD]) Aa;refine Lm h ?_;rw[hx,Zs (m:=pre.length+1)];have i:=qt (λy=>Qag x y) b;have j:=Z1t b hb N (pre++[x]) rest (out++b.flatMap (KC x)) Ae Aa Ag;simp_all
theorem Gn(a b:List Zi)(ha:a.length<=1048576)(hb:b.length<=1000):dm a b=K2 (ite (Hl (-1) a=K4/\Hl (-1) b=K4) (a.flatMap λx=>b.flatMap (KC x)) [],()):=by have:=Z1t b hb (eB a b [] 0) [] a [] (by simpa using ha) (by simp[eB]) Ac;simp_all[dm]
def VF(r:Q9):Bool:=match cE r with|some (b,_)=>b|none=>Lc
theorem Zyj(r:Q9):∀(N i:Nat),(r:SW).length<=1048576->(r:SW)-i<N->i<=(r:SW)->
  ∃b,lE N r (i:Int)=K2 (b,())/\(b=K4-> ∀j,i<=j->j<(r:SW)->0<=(r:SW).getD j 0/\(r:SW).getD j 0<=255)
 |0,_,_,h,_=>Aa
 |N+1,i,a,f,g=>by
  unfold lE;by_cases h:i<(r:SW)
  ·rw[Zo (Zl),Zb,show(i:Int).toNat=i from rfl];have c:Z8 ((r:SW).getD i 0) 0 255=K2 (K3 ((r:SW).getD i 0>=0)&&K3 ((r:SW).getD i 0<=255),()):=rfl;rw[c,pA,Zs h];obtain⟨b,d,k⟩:=Zyj r N (i+1) a Aa Aa;cases hc:K3 ((r:SW).getD i 0>=0)&&K3 ((r:SW).getD i 0<=255)
   ·simp_all
   ·simp only[pC,decide_eq_true_eq]at hc;refine⟨b,d,λl j m e=>?_⟩
    grind
  ·rw[Zm (Zk)]
   grind
theorem AF(r:Q9)(hl:(r:SW).length<=1048576):cE r=K2 (VF r,())/\(VF r=K4->(0<r.1/\r.1<=64)/\(r:SW)=r.1/\0<=r.2.1/\r.2.1<=(r:Zab)/\(r:Zab)-r.2.1<=r.1/\(r:Zab)<=4611686018427387903/\
  ∀j,j<(r:SW).length->0<=(r:SW).getD j 0/\(r:SW).getD j 0<=255):=by
 have d:∃b,cE r=K2 (b,())/\(b=K4->(0<r.1/\r.1<=64)/\(r:SW)=r.1/\0<=r.2.1/\r.2.1<=(r:Zab)/\(r:Zab)-r.2.1<=r.1/\(r:Zab)<=4611686018427387903/\
   ∀j,j<(r:SW).length->0<=(r:SW).getD j 0/\(r:SW).getD j 0<=255):=by
  unfold cE dE;simp only[pA];generalize e:(((K3 (r.1>(0:Int)))&&(K3 (r.1<=(64:Int))))&&((bits .and .i64 r.1 (Lb.wrap (r.1- (1:Int))))==(0:Int)))=p;generalize a:((((((!p)||((r:SW) !=r.1))||(K3 (r.2.1<(0:Int))))||(K3 ((r:Zab)<r.2.1)))||(K3 ((Lb.wrap ((r:Zab)-r.2.1))>r.1)))||(K3 ((r:Zab)>(4611686018427387903:Int))))=c;cases c
  ·simp only[Lt,L8,decide_eq_false_iff_not,bne_eq_false_iff_eq]at a;obtain⟨⟨⟨⟨⟨f,h⟩,i⟩,k⟩,g⟩,l⟩:=a;subst f;simp only[pC,decide_eq_true_eq]at e;rw[Zr]at g;obtain⟨b,m,n⟩:=Zyj r (aT r 0) 0 hl (by simp[aT]) Aa;simp_all
  simp_all
 grind[VF]
theorem PK(r:Q9)(hl:(r:SW).length<=1048576):z9 r=K2 (r,()):=by grind[z9,Zb,Qg]
theorem BP{x:Int}(hx:0<=x)(hn:0<n):0<=Ln x n/\Ln x n<n:=by rw[Int.tmod_eq_emod_of_nonneg hx];exact⟨Int.emod_nonneg _ Aa,Int.emod_lt_of_pos _ hn⟩
theorem Zl1(d:Ba)(r t4:Q9)(hr:0<r.1)(hE:0<=(r:Zab))(hd:d.length<=1048576)(n:Nat)(hE2:(r:Zab)+n<=4611686018427387903)(hn:n<=d):
  ∀(N i:Nat)(x:Q9),(x:SW)=r.1->n-i<N->i<=n->
   ∃cs,Jf N d r t4 x (n:Int) (i:Int)=K2 ((x.1,x.2.1,Lb.wrap ((r:Zab)+n),cs,x.2.2.2.2),(n:Int),())/\cs=(x:SW).length
 |0,_,_,_,h,_=>Aa
 |N+1,i,x,hx,a,b=>by
  unfold Jf;by_cases h:i<n
  ·have c:=BP (x:=(r:Zab)+(i:Int)) (n:=r.1) Aa hr;rw[Zo (Zl),Zb,Zr];simp only;rw[Zb,Zb,Zs (m:=n) h];obtain⟨cs,e,f⟩:=Zl1 d r t4 hr hE hd n hE2 hn N (i+1) (x.1,x.2.1,(x:Zab),(x:SW).set (Ln ((r:Zab)+(i:Int)) r.1).toNat (Lb.wrap ((d.getD (i:Int).toNat 0).toNat:Int)),x.2.2.2.2) Af Aa Aa;simp_all
  grind
theorem Z7i(r:Q9)(d:Ba)(hl:(r:SW).length<=1048576)(hd:d.length<=1048576)(hE:0<=(r:Zab))(hE2:(r:Zab)<=4611686018427387903:=by omega):
  ∃cs,∃n:Nat,ip r d=K2 ((r.1,r.2.1,(r:Zab)+n,cs,()),(n:Int),())/\n<=d/\cs=(r:SW).length/\(r:Zab)+n<=4611686018427387903:=by
 obtain⟨a,b⟩:=AF r hl;unfold ip wh;rw[PK r hl,a];simp only[pA];cases hb:VF r
 ·simp only[Lk,pG,pA];rw[show min (0:Int) d=0 by omega];refine⟨(r:SW),0,?_,Aa,rfl,by simpa using hE2⟩;show Jf 1 d r _ r 0 0=_;unfold Jf;rw[Zm Ah]
  grind[Zr]
 ·obtain⟨⟨c,i⟩,e,j,k,l,m,o⟩:=b hb;simp only[pI,pH,pA];rw[show Lb.wrap ((r:Zab)-r.2.1)=(r:Zab)-r.2.1 from Zr,Zr,Zr];obtain⟨n,f⟩:∃n:Nat,min (min (r.1- ((r:Zab)-r.2.1)) (4611686018427387903-(r:Zab))) d=(n:Int):=⟨(min (min (r.1- ((r:Zab)-r.2.1)) (4611686018427387903-(r:Zab))) d).toNat,Aa⟩
  rw[f];obtain⟨cs,g,h⟩:=Zl1 d r ((0:Int),(0:Int),(0:Int),([]:List Int),()) c hE hd n Aa Aa (kg d r ((0:Int),(0:Int),(0:Int),([]:List Int),()) r (n:Int) 0) 0 r e (by simp[kg]) Aa;refine⟨cs,n,?_,Aa,h,Aa⟩;refine Lm g ?_
  grind[Zr]
theorem Qmj(n:Int):∃s,eh n=K2 (s,())/\s.length<=1:=by
 unfold eh qc;generalize bits .and .i64 n (255:Int)=m;rw[show Z8 1 1 7=K2 (K4,())from rfl];simp only[pA,pI,Le];by_cases h:m<0
 ·simp_all
 ·rw[Zm (Zk h)];show ∃s,Ld (Yy 2 m 1 [] 0) _=_/\_;unfold Yy;rw[Zo Ah,Zb Ah];simp only;rw[Zb (by simp[Ym,Xf]),Zb Ah];unfold Yy;rw[show Lb.wrap ((0:Int)+1)=1 from rfl,Zm Ah];cases K3 (Lb.wrap (L0 m 256)>0)
  all_goals simp_all[Xf]
theorem Zod(dt:Nat)(r t4:Q9)(hr:0<r.1)(hdt:dt<=4611686018427387903):∀(N i:Nat)(x:Q9),(x:SW)=r.1->dt-i<N->i<=dt->
  ∃cs,fD N (dt:Int) r t4 x (i:Int)=K2 ((x.1,(dt:Int),(x:Zab),cs,x.2.2.2.2),K4,())/\cs=(x:SW).length
 |0,_,_,_,h,_=>Aa
 |N+1,i,x,hx,a,b=>by
  unfold fD;by_cases h:i<dt
  ·have c:=BP (x:=(i:Int)) (n:=r.1) Aa hr;rw[Zo (Zl),Zb,Zb,Zs (m:=dt) h];obtain⟨cs,d,e⟩:=Zod dt r t4 hr hdt N (i+1) (x.1,x.2.1,(x:Zab),(x:SW).set (Ln (i:Int) r.1).toNat (0:Int),x.2.2.2.2) Af Aa Aa;simp_all
  grind
theorem Qlc(r:Q9)(dt:Int)(hl:(r:SW).length<=1048576):∃cs b ok,nZ r dt=K2 ((r.1,b,(r:Zab),cs,()),ok,())/\cs=(r:SW).length:=by
 obtain⟨g,h⟩:=AF r hl;unfold nZ;rw[PK r hl,g];simp only[pA];generalize e:(((!VF r)||(K3 (dt<r.2.1)))||(K3 (dt>(r:Zab))))=c;cases c
 ·simp only[Lt,L8,decide_eq_false_iff_not]at e;obtain⟨⟨i,n⟩,o⟩:=e;obtain⟨⟨j,p⟩,k,q,s,t,u,v⟩:=h i;obtain⟨dt,rfl⟩:=L9 (a:=dt) Aa;obtain⟨l,d⟩:=L9 (a:=r.2.1) Aa;obtain⟨cs,f,m⟩:=Zod dt r ((0:Int),(0:Int),(0:Int),([]:List Int),()) j Aa (lW (dt:Int) r ((0:Int),(0:Int),(0:Int),([]:List Int),()) r r.2.1) l r k (by grind[lW]) Aa;rw[<-d]at f;exact⟨cs,dt,K4,f,m⟩
 grind
def SV:List Zi->Int->Int|[],f=>f|x::l,f=>SV l (ite (x.1<=f/\f<x.2.1) x.2.1 f)
theorem Z6a:∀(N:Nat)(pre rest:List Zi)(f:Int),(pre++rest).length<=1048576->rest.length<N->aA N (pre++rest) f (pre.length:Int)=K2 (SV rest f,())
 |0,_,_,_,_,h=>Aa
 |N+1,pre,[],f,c,b=>by
  unfold aA;rw[Zm Ac];rfl
 |N+1,pre,x::rest,f,c,b=>by
  have a:(pre++x::rest).length=pre.length+rest.length+1:=Ae
  simp only[Lf]at b;have g:∀{ρ:Type}(m:Option ρ),Ze (0<=(pre.length:Int)/\(pre.length:Int)<((pre++x::rest).length:Int)) m=m:=λm=>Zb (by rw[a];omega);have d:(pre++[x])++rest=pre++x::rest:=Ac
  have e:((pre++[x]).length:Int)=((pre.length+1:Nat):Int):=Ac
  unfold aA qe;rw[Zo (Zl (by rw[a];omega))];simp only[g,aH];rw[Zb (λ_=>by rw[a];omega),Zs (m:=pre.length+1)];have i:=λf=>Z6a N (pre++[x]) rest f Ae Aa;simp only[d,e]at i;by_cases h:x.1<=f/\f<x.2.1
  all_goals simp_all[SV,Zm,if_neg]
theorem Ef(l:List Zi)(f:Int)(hl:l.length<=1048576:=by omega):oa l f=K2 (ite (Hl (-1) l=K4/\0<=f) (SV l f) (-1),()):=by
 unfold oa;rw[eU l hl,pA];cases h1:Hl (-1) l
 ·simp
 ·by_cases a:f<0
  ·grind
  ·rw[Zm Ae,if_pos ⟨rfl,Aa⟩];exact Z6a _ [] l f (by simpa using hl) (by simp[uk])
def iw:List Zi->Int|[]=>0|x::l=>(x.2.1-x.1)+iw l
theorem Qaf:∀(N:Nat)(pre rest:List Zi)(lo n:Int),(pre++rest).length<=1048576->rest.length<N->Hl lo rest=K4->0<=n->n<=max lo 0->n<=4611686018427387903->Vh N (pre++rest) n (pre.length:Int)=K2 (n+iw rest,())
 |0,_,_,_,_,_,h,_,_,_,_=>Aa
 |N+1,pre,[],lo,n,e,c,_,_,_,_=>by
  simp_all[Vh,iw]
 |N+1,pre,x::rest,lo,n,e,c,hx,i,j,k=>by
  have a:(pre++x::rest).length=pre.length+rest.length+1:=Ae
  simp only[Lf]at c;obtain⟨d,f,b⟩:=ia.1 hx;have d:=Xs.1 d;have g:∀{ρ:Type}(m:Option ρ),Ze (0<=(pre.length:Int)/\(pre.length:Int)<((pre++x::rest).length:Int)) m=m:=λm=>Zb (by rw[a];omega);unfold Vh;rw[Zo (Zl (by rw[a];omega))];simp only[g,aH];rw[Zs (m:=pre.length+1),show Lb.wrap (n+x.2.1)=n+x.2.1 from Zr,Zr];have l:=Qaf N (pre++[x]) rest x.2.1 (n+x.2.1-x.1) Ae Aa b Aa Aa Aa
  grind[iw]
theorem jx(l:List Zi)(hl:l.length<=1048576:=by omega):aX l=K2 (ite (Hl (-1) l=K4) (iw l) (-1),()):=by
 unfold aX;rw[eU l hl,pA];cases h1:Hl (-1) l
 ·simp
 ·have:=Qaf (eE l 0 0) [] l (-1) 0 (by simpa using hl) (by simp[eE]) h1 Aa Aa Aa;simp_all
abbrev Dz(s:Zn):Int:=(s:Zad)
structure Wp(K:Int)(s:Zn):Prop where
 cells:s.2.1.2.2.2.1.length<=64
 e0:0<=s.2.1.2.2.1
 eK:s.2.1.2.2.1<=K
 pend:RL s.2.1.2.2.1 s.2.2.1
 pT:RL s.2.1.2.2.1 s.2.2.2.1
 pO:RL s.2.1.2.2.1 s.2.2.2.2.1
theorem Wp.mono{K K':Int}{s:Zn}(h:Wp K s)(hK:K<=K'):Wp K' s:={h with eK:=Int.le_trans h.eK hK}
theorem Qx{K:Int}{l:List Zi}(h:RL E l)(h0:0<=E)(hE:E<=K)(hK:K<=1000000:=by omega):l.length<=1000001:=by have:=Qs4 h Aa;omega
theorem Z7{l:List α}{d:α}(h:i<l.length:=by omega):l.getD i d∈l:=by simp_all
theorem uc{K:Int}{s:Zn}(h:Wp K s)(hK:K<=1000000:=by omega):it s=K2 (s,()):=by unfold it;rw[PK _ (by have:=h.cells;omega),MK _ (L4 (Qx h.pend h.e0 h.eK hK) Aa),pA,MK _ (L4 (Qx h.pT h.e0 h.eK hK) Aa),pA,pA,MK _ (L4 (Qx h.pO h.e0 h.eK hK) Aa),pA]
theorem IL(s:Zn):∃k,dF s=K2 (k,()):=by
 unfold dF
 grind
theorem Zyn(s:Zn)(hl:(s:Zag).length<=1048576):∀(N i:Nat),(s:Zag).length-i<N->i<=(s:Zag).length-> ∃b,fJ N s (i:Int)=K2 (b,())
 |0,_,h,_=>Aa
 |N+1,i,a,d=>by
  unfold fJ;by_cases h:i<(s:Zag).length
  ·rw[Zo (Zl),Zb,Zs h];cases K3 (((s:Zag).getD (i:Int).toNat Z3).2.1>(s:Zal))
   ·exact Zyn s hl N (i+1) Aa Aa
   simp_all
  ·rw[Zm (Zk)];obtain⟨k,hk⟩:=IL s;rw[hk];generalize ((!(((s:Zaf)==(0:Int))==((s:Zam)==(-1:Int))))||(((s:Zam) !=(-1:Int))&&((s:Zam) !=(s:Zad))))=c;cases c<;>exact⟨_,rfl⟩
theorem Zym(s:Zn)(hl:(s:Zae).length<=1048576)(hl2:(s:Zag).length<=1048576):∀(N i:Nat),(s:Zae).length-i<N->i<=(s:Zae).length-> ∃b,fI N s (i:Int)=K2 (b,())
 |0,_,h,_=>Aa
 |N+1,i,a,c=>by
  unfold fI;by_cases h:i<(s:Zae).length
  ·rw[Zo (Zl),Zb,Zs h];cases K3 (((s:Zae).getD (i:Int).toNat Z3).2.1>(s:Zal))
   ·exact Zym s hl hl2 N (i+1) Aa Aa
   simp_all
  ·rw[Zm (Zk)];exact Zyn s hl2 _ 0 (by simp[lZ]) Aa
theorem Qae{l:List Zi}(h:iw l≠0):0<l.length:=by
 cases l with
 |nil=>exact absurd rfl h
 |cons=>simp
theorem Zyl{K:Int}{s:Zn}(hs:Wp K s)(hK:K<=1000000):∀(N i:Nat)(all:List Zi),RL (Dz s) all->(s:Zag).length-i<N->i<=(s:Zag).length-> ∃b,fH N s all (i:Int)=K2 (b,())
 |0,_,_,_,h,_=>Aa
 |N+1,i,all,a,f,g=>by
  have j:=Qx a hs.e0 hs.eK hK;have k:=Qx hs.pend hs.e0 hs.eK hK;have l:=Qx hs.pT hs.e0 hs.eK hK;have m:=Qx hs.pO hs.e0 hs.eK hK;unfold fH;by_cases h:i<(s:Zag).length
  ·rw[Zo (Zl),Zb,Zs h,mR _ _,pA];exact Zyl hs hK N (i+1) _ (qE a (hs.pO.2 _ (Z7 h))) Aa Aa
  ·rw[Zm (Zk),jx _,jx _,jx _,jx _,Ef _ _];simp only[pA,a.1,if_true];rw[Zb (λd e=>by
    simp only[Lt,bne_eq_false_iff_eq,decide_eq_true_eq]at d e
    grind[Qae])]
   generalize n:((iw all !=(s:Zad)||_)||_)=c;cases c
   ·simp only[pH,pA];generalize ((Lc||_)||_)=c2;cases c2
    ·exact Zym s Aa Aa _ 0 (by simp[lY]) Aa
    simp_all
   simp_all
theorem Zyk{K:Int}{s:Zn}(hs:Wp K s)(hK:K<=1000000):∀(N i:Nat)(all:List Zi),RL (Dz s) all->(s:Zae).length-i<N->i<=(s:Zae).length-> ∃b,fG N s all (i:Int)=K2 (b,())
 |0,_,_,_,h,_=>Aa
 |N+1,i,all,a,c,d=>by
  have e:=Qx a hs.e0 hs.eK hK;have f:=Qx hs.pT hs.e0 hs.eK hK;unfold fG;by_cases h:i<(s:Zae).length
  ·rw[Zo (Zl),Zb,Zs h,mR _ _,pA];exact Zyk hs hK N (i+1) _ (qE a (hs.pT.2 _ (Z7 h))) Aa Aa
  ·rw[Zm (Zk)];exact Zyl hs hK _ 0 all a (by simp[eZ]) Aa
theorem tc{K:Int}{s:Zn}(hs:Wp K s)(hK:K<=1000000:=by omega):∃b,Km s=K2 (b,())/\(b=K4->VF s.2.1=K4/\0<=(s:Zal)/\(s:Zal)<=(s:Zad)):=by
 have f:=Qx hs.pend hs.e0 hs.eK hK;have g:=Qx hs.pT hs.e0 hs.eK hK;have h:=Qx hs.pO hs.e0 hs.eK hK;have a:=(AF s.2.1 (by have:=hs.cells;omega)).1;obtain⟨i,j⟩:=Zyk hs hK (Jr s (s:ST) 0) 0 (s:ST) hs.pend (by simp[Jr]) Aa;unfold Km gG;rw[a,eU _,eU _,eU _];have c:Z8 (s:Zal) 0 (s:Zad)=K2 (K3 ((s:Zal)>=0)&&K3 ((s:Zal)<=(s:Zad)),()):=rfl;have d:Q0 (s:ZaQ)=K2 (K3 ((s:ZaQ)>=0)&&K3 ((s:ZaQ)<=4611686018427387903),()):=rfl;have e:Z8 (s:Zaf) 0 3=K2 (K3 ((s:Zaf)>=0)&&K3 ((s:Zaf)<=3),()):=rfl;simp only[hs.pend.1,hs.pT.1,hs.pO.1,c,d,e,pA]
 grind(splits:=20)
theorem Zy3{K:Int}{s:Zn}(h:Wp K s)(d:Ba)(hK:K+d.length<=1000000:=by omega):
  ∃x n,cL s d=K2 (x,n,())/\Wp (K+d.length) x:=by
 have f:=h.e0;have i:=h.cells;have e:=h.eK;obtain⟨b,j,-⟩:=tc h;have l:=Qx h.pend f e;unfold cL tP;rw[uc h,j];simp only[pA];generalize (((!b)||(K3 (s.1>(1:Int))))||((s:Zam) !=(-1:Int)))=c;cases c
 ·obtain⟨m,n,k,o,p,q⟩:=Z7i s.2.1 d Aa Aa f;rw[pH,k,pA];unfold jw;have a:RL ((s:Zad)+n) (s:Zae)/\RL ((s:Zad)+n) (s:Zag):=⟨NK h.pT,NK h.pO⟩
  by_cases g:(n:Int)>0
  ·rw[Zo (Zl g),mR _ _,pA];exact⟨_,_,rfl,{cells:=Ai,e0:=Ai,eK:=Ai,pend:=qE (NK h.pend Ai) Ai,pT:=a.1,pO:=a.2}⟩
  ·rw[Zm (Zk g)];exact⟨_,_,rfl,{cells:=Ai,e0:=Ai,eK:=Ai,pend:=NK h.pend Ai,pT:=a.1,pO:=a.2}⟩
 ·exact⟨s,0,rfl,h.mono Aa⟩
theorem Zx5{K:Int}{s:Zn}(h:Wp K s)(hK:K<=1000000:=by omega):∃x ok,kK s=K2 (x,ok,())/\Wp K x:=by
 obtain⟨b,a,-⟩:=tc h hK;unfold kK;rw[uc h hK,a];simp only[pA];generalize (((!b)||(K3 (s.1>(1:Int))))||((s:Zam) !=(-1:Int)))=c;cases c
 ·exact⟨_,_,rfl,{cells:=h.cells,e0:=h.e0,eK:=h.eK,pend:=h.pend,pT:=h.pT,pO:=h.pO}⟩
 simp_all
theorem s7(E:Int):RL E []:=⟨rfl,Ac⟩
theorem VE{K:Int}{s:Zn}(h:Wp K s)(code:Int)(hK:K<=1000000:=by omega):∃x ok,cK s code=K2 (x,ok,())/\Wp K x:=by
 have c:=h.cells;have d:=h.eK;obtain⟨b,e,f⟩:=tc h hK;unfold cK gG;rw[e];simp only[pA];have g:Q0 code=K2 (K3 (code>=0)&&K3 (code<=4611686018427387903),()):=rfl;rw[g];cases b
 ·simp only[Lk,Mr,pG,pA];rw[uc h hK];simp_all
 ·obtain⟨i,a,j⟩:=f rfl;obtain⟨⟨k,l⟩,-⟩:=(AF s.2.1 Aa).2 i;simp only[pI,Le];generalize (K3 (code>=0)&&K3 (code<=4611686018427387903))=q;cases K3 (s.1>2)
  ·cases q
   ·simp only[pH,pA,Lk,Le,pG];rw[uc h hK];simp_all
   ·simp only[pH,pA,pI,Ll,Xm,Yb];rw[Zb Aj];exact⟨_,_,rfl,{cells:=Ae,e0:=a,eK:=Ai,pend:=s7 _,pT:=s7 _,pO:=s7 _}⟩
  ·simp only[pG,pA,Mr];rw[uc h hK];simp_all
theorem AP(s:Zn)(p:Qj)(hE0:0<=(s:Zad))(hE:(s:Zad)<=1000000:=by omega):∃b,xy s p=K2 (b,())/\(b=K4->0<=p.1/\p.1+(p.2.1.length:Int)<=(s:Zad)):=by
 refine⟨_,rfl,λa=>?_⟩;simp only[pC,decide_eq_true_eq]at a
 grind[Zr]
theorem IW{p:Qj}(h0:0<=p.1)(h1:p.1+(p.2.1.length:Int)<=1000000:=by omega):ki p=K2 ((p.1,p.1+(p.2.1.length:Int),()),()):=by grind[ki,Zr]
theorem Qju{K:Int}{s:Zn}(h:Wp K s)(p:Qj)(hK:K<=1000000):∃x ok,qh s p=K2 (x,ok,())/\Wp K x:=by
 have d:=h.e0;have a:=h.eK;have q:=Qx h.pend d a hK;have lf:=Qx h.pT d a hK;obtain⟨b,i,r⟩:=tc h hK;obtain⟨j,l,m⟩:=AP s p d;have e:∀t x,Wp K x-> ∃y ok,iY t x=K2 (y,ok,())/\Wp K y:=by
  intro t x hx;unfold iY;obtain⟨k,hk⟩:=IL x;rw[hk];exact⟨_,_,rfl,{cells:=hx.cells,e0:=hx.e0,eK:=hx.eK,pend:=hx.pend,pT:=hx.pT,pO:=hx.pO}⟩
 have f:∀t x,Wp K x-> ∃y ok,dz p t x=K2 (y,ok,())/\Wp K y:=by
  intro t x hx;unfold dz tG;cases p.2.2.1
  ·exact e Jn _ hx
  ·exact e Jn _ {cells:=hx.cells,e0:=hx.e0,eK:=hx.eK,pend:=hx.pend,pT:=hx.pT,pO:=hx.pO}
 unfold qh gG;rw[uc h hK,i];simp only[pA];generalize (((!b)||(K3 (s.1>(2:Int)))))=c0;cases c0
 ·simp only[pH,l,pA,Le];generalize g:(((!j)||((p.2.1==([]:Ba))&&(!p.2.2.1)))||(p.2.2.1&&((s:Zaf) !=(1:Int))))=c;cases c
  ·simp only[Lt,L8]at g;obtain⟨n,o⟩:=m g.1.1;rw[pH];cases p.2.1==([]:Ba)
   ·simp only[Lk,pG];rw[IW n,pA];rw[Gn _ _ Aa Ac,pA];simp only;generalize (ite (Hl (-1) (s:ST)=K4/\Hl (-1) [((p.1,p.1+(p.2.1.length:Int),()):Zi)]=K4) (List.flatMap (λx=>List.flatMap (KC x) [((p.1,p.1+(p.2.1.length:Int),()):Zi)]) (s:ST)) [])=cm;rw[Zb (λu=>Ag)];generalize ((cm.length:Int) !=1||_)=c3;cases c3
    ·rw[pH,z0 _ _,pA,mR _ _,pA];exact f Jn _ {cells:=h.cells,e0:=h.e0,eK:=h.eK,pend:=UV h.pend,pT:=qE h.pT o,pO:=h.pO}
    grind
   ·exact f Jn _ h
  grind
 grind
theorem TG{a:List Zi}{r:Zi}{c:Prop}[Decidable c](h:∀x∈a,x.2.1<=E):∀y∈(ite c (a.flatMap λx=>[r].flatMap (KC x)) []),y.2.1<=E:=by
 intro y b;split at b
 ·simp only[List.mem_flatMap,Nt,exists_eq_left]at b
  grind[KC]
 ·cases b
theorem HC{a:List Zi}{r:Zi}{c:Prop}[Decidable c]:(ite c (a.flatMap λx=>[r].flatMap (KC x)) []).length<=a.length:=by
 split
 ·have:=qt (f:=λx=>[r].flatMap (KC x)) (k:=1) (λx=>by simp_all[Qag]) a;omega
 ·simp
theorem Wp.lists{K:Int}{s:Zn}(h:Wp K s){f a:List Zi}(hf:RL (s:Zad) f)(ha:RL (s:Zad) a):Wp K (s.1,s.2.1,(s:ST),f,a,(s:Zbw).2):={cells:=h.cells,e0:=h.e0,eK:=h.eK,pend:=h.pend,pT:=hf,pO:=ha}
theorem Zxt{K:Int}{s x:Zn}(hs:Wp K s)(hx:Wp K x)(he:x.2.1=s.2.1)(t:Zn)(hK:K<=1000000):∃y,fA s t x=K2 (y,())/\Wp K y:=by
 have a:=hs.cells;have f:=Qx hx.pO hx.e0 hx.eK hK;unfold fA;simp only[Xm,Yb];rw[Ef _ _,pA];obtain⟨c,b,g,d,h⟩:=Qlc s.2.1 (ite (Hl (-1) (x:Zag)=K4/\0<=(0:Int)) (SV (x:Zag) 0) (-1)) Aa;rw[d,pA];unfold pz;obtain⟨k,hk⟩:=IL (x.1,(s.2.1.1,b,(s:Zad),c,()),x.2.2);rw[hk,pA];refine⟨_,rfl,?_⟩;have e:(x:Zad)=(s:Zad):=by rw[he]
 exact {cells:=Ai,e0:=hs.e0,eK:=hs.eK,pend:=(by have:=hx.pend;simp_all),pT:=(by have:=hx.pT;simp_all),pO:=(by have:=hx.pO;simp_all)}
theorem Zxs{K:Int}{s x:Zn}(hs:Wp K s)(hx:Wp K x)(he:x.2.1=s.2.1)(p:Qj)(t:Zn)(hK:K<=1000000):∃y,fx s p t x=K2 (y,())/\Wp K y:=by
 unfold fx tG;cases p.2.2.1&&((s:Zaf)==(2:Int))
 ·exact Zxt hs hx he t hK
 ·exact Zxt hs (x:=(x.1,x.2.1,(x:ST),(x:Zae),(x:Zag),(x:Zam),(3:Int),(x:Zby).2)) {cells:=hx.cells,e0:=hx.e0,eK:=hx.eK,pend:=hx.pend,pT:=hx.pT,pO:=hx.pO} he t hK
theorem Zxu{K:Int}{s:Zn}(hs:Wp K s)(p:Qj)(t:Zn)(hK:K<=1000000)(c:List Zi)(hcl:c.length<=1048576)(hc:∀y∈c,y.2.1<=(s:Zad)):∀(N i:Nat)(x:Zn),Wp K x->x.2.1=s.2.1->c.length-i<N->i<=c.length->
  ∃y,fB N s p t x c (i:Int)=K2 (y,())/\Wp K y
 |0,_,_,_,_,h,_=>Aa
 |N+1,i,x,hx,a,f,g=>by
  have lf:=Qx hx.pT hx.e0 hx.eK hK;have j:=Qx hx.pO hx.e0 hx.eK hK;unfold fB gH gK;by_cases h:i<c.length
  ·have b:=hc _ (Z7 (d:=Z3) h);have e:(x:Zad)=(s:Zad):=by rw[a]
   rw[Zo (Zl),Zb,z0 _ _,pA,Zb,mR _ _,pA,Zs h];exact Zxu hs p t hK c hcl hc N (i+1) _ (hx.lists (UV hx.pT) (qE hx.pO (by rw[e];exact b))) a Aa Aa
  ·rw[Zm (Zk)];exact Zxs hs hx a p t hK
theorem l7{K:Int}{s:Zn}(h:Wp K s)(p:Qj)(hK:K<=1000000:=by omega):∃x,nY s p=K2 (x,())/\Wp K x:=by
 have e:=h.e0;have d:=h.eK;have lf:=Qx h.pT e d hK;obtain⟨b,f,m⟩:=tc h hK;obtain⟨g,i,j⟩:=AP s p e;unfold nY gG;rw[uc h hK,f];simp only[pA];generalize ((!b)||(K3 (s.1>(2:Int))))=c0;cases c0
 ·simp only[pH,i,pA,Le];cases g
  ·simp_all
  ·obtain⟨k,n⟩:=j rfl;simp only[pI,pH];cases p.2.1==([]:Ba)
   ·simp only[Lk,pG];rw[IW k,pA];rw[Gn _ _ Aa Ac,pA];have o:=HC (a:=(s:Zae)) (r:=((p.1,p.1+(p.2.1.length:Int),()):Zi)) (c:=Hl (-1) (s:Zae)=K4/\Hl (-1) [((p.1,p.1+(p.2.1.length:Int),()):Zi)]=K4);have l:=TG (a:=(s:Zae)) (r:=((p.1,p.1+(p.2.1.length:Int),()):Zi)) (c:=Hl (-1) (s:Zae)=K4/\Hl (-1) [((p.1,p.1+(p.2.1.length:Int),()):Zi)]=K4) h.pT.2;exact Zxu h p _ hK _ Aa l _ 0 s h rfl (by simp_all[lU]) Aa
   ·exact Zxs h h rfl p _ hK
 simp_all
theorem Zsr{K:Int}{s x:Zn}(hx:Wp K x)(p:Qj)(t:Zn):∃y,dv s p t x=K2 (y,())/\Wp K y:=by
 have a:∀x,Wp K x-> ∃y,iV t x=K2 (y,())/\Wp K y:=by
  intro x hx;unfold iV;obtain⟨k,hk⟩:=IL x;rw[hk];exact⟨_,rfl,{cells:=hx.cells,e0:=hx.e0,eK:=hx.eK,pend:=hx.pend,pT:=hx.pT,pO:=hx.pO}⟩
 unfold dv;cases p.2.2.1&&((s:Zaf)==(2:Int))
 ·exact a _ hx
 ·exact a _ {cells:=hx.cells,e0:=hx.e0,eK:=hx.eK,pend:=hx.pend,pT:=hx.pT,pO:=hx.pO}
theorem Zss{K:Int}{s:Zn}(p:Qj)(t:Zn)(hK:K<=1000000)(c:List Zi)(E:Int)(hcl:c.length<=1048576)(hc:∀y∈c,y.2.1<=E):∀(N i:Nat)(x:Zn),Wp K x->(x:Zad)=E->c.length-i<N->i<=c.length->
  ∃y,dw N s p t x c (i:Int)=K2 (y,())/\Wp K y
 |0,_,_,_,_,h,_=>Aa
 |N+1,i,x,hx,a,e,f=>by
  have lf:=Qx hx.pT hx.e0 hx.eK hK;have g:=Qx hx.pend hx.e0 hx.eK hK;unfold dw gH gK;by_cases h:i<c.length
  ·have b:=hc _ (Z7 (d:=Z3) h);rw[Zo (Zl),Zb,z0 _ _,pA,Zb,mR _ _,pA,Zs h];exact Zss p t hK c E hcl hc N (i+1) _ {cells:=hx.cells,e0:=hx.e0,eK:=hx.eK,pend:=qE hx.pend (by rw[a];exact b),pT:=UV hx.pT,pO:=hx.pO} a Aa Aa
  ·rw[Zm (Zk)];exact Zsr hx p t
theorem Fa{K:Int}{s:Zn}(h:Wp K s)(p:Qj)(hK:K<=1000000:=by omega):∃x,lF s p=K2 (x,())/\Wp K x:=by
 have e:=h.e0;have d:=h.eK;have lf:=Qx h.pT e d hK;obtain⟨b,f,m⟩:=tc h hK;obtain⟨g,i,j⟩:=AP s p e;unfold lF gG;rw[uc h hK,f];simp only[pA];generalize ((!b)||(K3 (s.1>(2:Int))))=c0;cases c0
 ·simp only[pH,i,pA,Le];cases g
  ·simp_all
  ·obtain⟨k,n⟩:=j rfl;simp only[pI,pH];cases p.2.1==([]:Ba)
   ·simp only[Lk,pG];rw[IW k,pA];rw[Gn _ _ Aa Ac,pA];have o:=HC (a:=(s:Zae)) (r:=((p.1,p.1+(p.2.1.length:Int),()):Zi)) (c:=Hl (-1) (s:Zae)=K4/\Hl (-1) [((p.1,p.1+(p.2.1.length:Int),()):Zi)]=K4);have l:=TG (a:=(s:Zae)) (r:=((p.1,p.1+(p.2.1.length:Int),()):Zi)) (c:=Hl (-1) (s:Zae)=K4/\Hl (-1) [((p.1,p.1+(p.2.1.length:Int),()):Zi)]=K4) h.pT.2;exact Zss p _ hK _ _ Aa l _ 0 s h rfl (by simp_all[kf]) Aa
   ·exact Zsr h p _
 simp_all
theorem Qkg{K:Int}{s:Zn}(h:Wp K s)(hK:K<=1000000):∃x ok,kp s=K2 (x,ok,())/\Wp K x:=by
 obtain⟨b,a,d⟩:=tc h hK;unfold kp;rw[uc h hK,a];simp only[pA];generalize ((!b)||(s.1 !=(4:Int)))=c;cases c
 ·exact⟨_,_,rfl,{cells:=h.cells,e0:=h.e0,eK:=h.eK,pend:=h.pend,pT:=h.pT,pO:=h.pO}⟩
 simp_all
def lp(n:Int)(l:List Zi):Prop:= ∃x∈l,x.1<=n/\n<x.2.1
theorem Dt:∀{l:List Zi}{r:Zi}{n:Int},lp n (nR l r)->lp n l\/(r.1<=n/\n<r.2.1)
 |[],r,n,⟨x,hx,h⟩=>by simp_all[nR]
 |y::l,r,n,⟨x,hx,h⟩=>by
  have a:lp n l->lp n (y::l):=λ⟨z,b,c⟩=>⟨z,by simp[b],c⟩
  unfold nR at hx;split at hx
  ·rcases Ly.1 hx with rfl|hx
   ·exact .inl ⟨x,Ac,h⟩
   ·exact(Dt ⟨x,hx,h⟩).imp a id
  ·split at hx
   ·rcases Ly.1 hx with rfl|hx
    ·exact .inr h
    ·exact .inl ⟨x,hx,h⟩
   ·rcases Dt ⟨x,hx,h⟩with h'|h'
    ·simp_all
    ·simp only at h';by_cases d:y.1<=n/\n<y.2.1
     ·exact .inl ⟨y,Ac,d⟩
     omega
theorem T5:∀{l:List Zi}{r:Zi},(∀x∈l,x.1<=x.2.1)->r.1<=r.2.1->iw (nR l r)<=iw l+(r.2.1-r.1)
 |[],r,_,_=>by simp[nR,iw]
 |y::l,r,b,c=>by
  have a:∀x∈l,x.1<=x.2.1:=λx hx=>b x (by simp[hx]);have d:=b y Ac;unfold nR;split
  ·have:=T5 (l:=l) (r:=r) a c;grind[iw]
  ·split
   ·grind[iw]
   ·have:=T5 (l:=l) (r:=(min r.1 y.1,max r.2.1 y.2.1,())) a Ai;grind[iw]
def EF:Int->List Z6->Bool|_,[]=>K4|e,c::l=> !(((K3 (c.1<=e))||(c.2.1==([]:Ba)))||(K3 (c.1>(Lb.wrap ((4611686018427387903:Int)- (c.2.1.length:Int))))))&&EF (Lb.wrap (c.1+(c.2.1.length:Int))) l
def jq(n:Int):Bool:=K3 (n>=0)&&K3 (n<=4611686018427387903)
theorem J8(n:Int):Q0 n=K2 (jq n,()):=rfl
theorem Wv:jq n=K4↔0<=n/\n<=4611686018427387903:=by simp[jq]
def ZF(b:Zx):Bool:=EF (Lb.wrap (b.1-1)) b.2.1&&jq b.1
theorem Zoi(b:Zx):∀(N:Nat)(pre rest:List Z6)(e:Int),b.2.1=pre++rest->b.2.1.length<=1048576->rest.length<N->kP N b e (pre.length:Int)=K2 (EF e rest&&jq b.1,())
 |0,_,_,_,_,_,h=>Aa
 |N+1,pre,[],e,a,d,f=>by
  simp_all[kP,J8,EF]
 |N+1,pre,c::rest,e,a,d,f=>by
  have g:b.2.1.length=pre.length+rest.length+1:=Ag
  simp only[Lf]at f;have i:b.2.1.getD (pre.length:Int).toNat Qr=c:=Ag
  unfold kP;rw[Zo (Zl),Zb];simp only[i];have j:=Zoi b N (pre++[c]) rest (Lb.wrap (c.1+(c.2.1.length:Int))) (by rw[a];simp) d Aa
  grind[Zs,EF]
theorem lw(b:Zx)(hl:b.2.1.length<=1048576:=by omega):kq b=K2 (ZF b,()):=by unfold kq;exact Zoi b _ [] b.2.1 _ rfl hl (by simp[ul])
def Po(c:Z6):Zi:=(c.1,c.1+(c.2.1.length:Int),())
def nP:List Z6->Nat|[]=>0|c::l=>c.2.1.length+nP l
theorem E6:∀{l:List Z6}{c:Z6},c∈l->c.2.1.length<=nP l
 |x::l,c,h=>by
  rcases Ly.1 h with rfl|h
  ·simp[nP]
  ·have:=E6 h;grind[nP]
structure iv(K:Nat)(b:Zx):Prop where
 len:b.2.1.length<=K
 tot:nP b.2.1<=K
theorem iv.mono(h:iv K b)(hK:K<=K'):iv K' b:=⟨L4 h.len hK,L4 h.tot hK⟩
theorem Qk3:∀{l:List Z6}{e:Int},nP l<=1000000-> -1<=e->EF e l=K4->Hl e (l.map Po)=K4
 |[],_,_,_,_=>rfl
 |c::l,e,b,g,h=>by
  simp only[nP]at b;simp only[EF,pC,Mi,Lt,decide_eq_false_iff_not,beq_eq_false_iff_ne]at h;obtain⟨⟨⟨i,d⟩,f⟩,a⟩:=h;rw[Zr]at f;rw[Zr]at a;have j:0<c.2.1.length:=Mg.2 d;rw[Mb,ia];exact⟨Xs.2 (by grind[Po]),by simp_all[Po],Qk3 Aa (by grind[Po]) a⟩
theorem wS:∀(l:List Z6),iw (l.map Po)=(nP l:Int)
 |[]=>rfl
 |c::l=>by
  have:=wS l
  grind[iw,nP,Po]
theorem Zj0(b:Zx)(ht:nP b.2.1<=1000000)(hb2:∀c∈b.2.1,-1<=c.1/\c.1<=4611686018427387903):∀(N:Nat)(pre rest:List Z6)(out:List Zi),b.2.1=pre++rest->b.2.1.length<=1048576->rest.length<N->out.length<=pre.length->ZF b=K4->
  Vg N b out (pre.length:Int)=K2 (out++rest.map Po,())
 |0,_,_,_,_,_,h,_,_=>Aa
 |N+1,pre,[],out,a,d,f,k,e=>by
  unfold Vg;simp_all
 |N+1,pre,c::rest,out,a,d,f,k,e=>by
  have i:b.2.1.length=pre.length+rest.length+1:=Ag
  simp only[Lf]at f;have n:b.2.1.getD (pre.length:Int).toNat Qr=c:=Ag
  have g:∀{ρ:Type}(m:Option ρ),Ze (0<=(pre.length:Int)/\(pre.length:Int)<(b.2.1.length:Int)) m=m:=λm=>Zb;have q:=hb2 c (by rw[a];simp);have o:=E6 (l:=b.2.1) (c:=c) (by rw[a];simp);unfold Vg;have p:K3 ((pre.length:Int)<(b.2.1.length:Int))=true:=Zl;rw[p,lw b d,e];simp only[pG,pA,Li,g,n];rw[Zb Aj,Zs (m:=pre.length+1),Zr];have j:=Zj0 b ht hb2 N (pre++[c]) rest (out++[Po c]) (by rw[a];simp) d Aa Ae e;rw[show((pre++[c]).length:Int)=((pre.length+1:Nat):Int) by simp]at j;refine Lm j ?_;simp
theorem zf(ht:nP b.2.1<=1000000)(h:ZF b=K4):0<=b.1/\b.1<=4611686018427387903/\Hl (b.1-1) (b.2.1.map Po)=true:=by
 unfold ZF at h;simp only[pC]at h
 grind[Wv,Zr,Qk3]
theorem Zry(hi:iv K b)(hK:K<=1000000:=by omega):uJ b=K2 (ite (ZF b=K4) (b.2.1.map Po) [],()):=by
 have e:=hi.len;have f:=hi.tot;unfold uJ;cases hB:ZF b
 ·show Vg (_+1) b [] 0=_
  grind[Vg,lw]
 ·obtain⟨g,h,a⟩:=zf Aa hB;have:=Zj0 b Aa (λc d=>by
   have i:=XL a (Po c) (Ns d)
   grind[Xs,Po]) (eA b [] 0) [] b.2.1 [] rfl Aa (by simp[eA]) Ac hB
  simp_all
theorem Zx2(b:Zx)(at_:Int)(h0:0<=at_)(h1:at_<=4611686018427387903)(ht:nP b.2.1<=1000000)(hq:∀c∈b.2.1,0<=c.1/\c.1<=4611686018427387903):∀(N:Nat)(pre rest:List Z6),b.2.1=pre++rest->b.2.1.length<=1048576->rest<N->
  ∃v,ic N at_ b pre=K2 (v,())/\(v<0-> ¬lp at_ (rest.map Po))/\v<=255
 |0,_,_,_,_,h=>Aa
 |N+1,pre,[],d,e,f=>by
  unfold ic gH gL;rw[Zm (by rw[d];simp)];exact⟨-1,rfl,λ_ ⟨x,hx,_⟩=>by simp at hx,Aa⟩
 |N+1,pre,c::rest,d,e,f=>by
  have i:b.2.1=pre+rest.length+1:=Ag
  simp only[Lf]at f;have k:b.2.1.getD (pre:Int).toNat Qr=c:=Ag
  have g:∀{ρ:Type}(m:Option ρ),Ze (0<=(pre:Int)/\pre<(b.2.1:Int)) m=m:=λm=>Zb;have s:=hq c (by rw[d];simp);have n:=E6 (l:=b.2.1) (c:=c) (by rw[d];simp);unfold ic gH gL;rw[Zo (Zl)];simp only[g,k];rw[Zb (λ_=>Aa),Zb (λ_=>Aa),Zr,Zl,Zl];simp only[pJ];obtain⟨v,j,o,p⟩:=Zx2 b at_ h0 h1 ht hq N (pre++[c]) rest (by rw[d];simp) e Aa;rw[show((pre++[c]):Int)=((pre+1:Nat):Int) by simp]at j;by_cases a:at_-c.1>=0/\at_-c.1<c.2.1
  ·rw[Zl a.1,Zl a.2,Li,pG,Zb ⟨a.1,a.2⟩];have q:(c.2.1.getD (at_-c.1).toNat 0).toNat<256:=(c.2.1.getD (at_-c.1).toNat 0).toNat_lt;rw[Zr]
   grind
  ·rw[Zm Af,Zs (m:=pre+1)];refine⟨v,j,λhv ⟨x,hx,r⟩=>?_,p⟩;rw[Mb]at hx;rcases Ly.1 hx with rfl|hx
   ·grind[Po]
   ·exact o hv ⟨x,hx,r⟩
theorem Qtf(b:Zx)(at_:Int)(h0:0<=at_)(h1:at_<=4611686018427387903)(ht:nP b.2.1<=1000000)(hl:b.2.1.length<=1000000)(hq:∀c∈b.2.1,0<=c.1/\c.1<=4611686018427387903):
  ∃v,z6 b at_=K2 (v,())/\(v<0-> ¬lp at_ (b.2.1.map Po))/\v<=255:=by
 unfold z6;exact Zx2 b at_ h0 h1 ht hq _ [] b.2.1 rfl Aa (by simp[oH])
theorem Ql9{b:Zx}(ht:nP b.2.1<=1000000)(hbl:b.2.1.length<=1000000)(hq:∀c∈b.2.1,0<=c.1/\c.1<=4611686018427387903)(K1:(Int×Ba×Zx×Zx×Zx×List Zi×Int×Unit)->Oa Zx)(o:Int)(ho:0<=o/\o<=4611686018427387903)(d:Ba)(t x:Zx)(l:List Zi)(i:Nat)(hi:i<l.length)(r:Zi)(hr:l.getD i Z3=r)
  (h0:0<=r.1) (hH:r.2.1<=4611686018427387903) (hx:x.2.1.length<=1000000)
  (hin:∀n,r.1<=n->n<r.2.1->lp n (b.2.1.map Po)\/(o<=n/\n<o+d.length)):
  ∀(N m:Nat)(s:Ba),(m:Int)<=r.2.1-r.1->m<N->(s.length:Int)+m<=r.2.1-r.1->(r.2.1-r.1)<=2000000->
   ∃t',Ke K1 N o d b t x l (i:Int) s (r.2.1-m)=K1 (o,d,b,t,(x.1,x.2.1++[(r.1,t',())],x.2.2),l,Lb.wrap ((i:Int)+1),())/\(t'.length:Int)<=r.2.1-r.1
 |0,_,_,_,h,_,_=>Aa
 |N+1,0,s,g,j,k,f=>by
  unfold Ke gH gK;rw[Zb,show(i:Int).toNat=i from rfl,hr,Zm (Zk),Zb]
  grind(splits:=20)[Zb,Qg]
 |N+1,m+1,s,g,j,k,f=>by
  unfold Ke gH gK;rw[Zb,show(i:Int).toNat=i from rfl,hr,Zo (Zl)];obtain⟨v,p,q,w⟩:=Qtf b (r.2.1- ((m+1:Nat):Int)) Aa Aa ht hbl hq;rw[p,pA];have a:∀v,∃t',bV K1 (λv=>Ke K1 N v.1 v.2.1 v.2.2.1 v.2.2.2.1 v.2.2.2.2.1 v.2.2.2.2.2.1 (v:Zbs).1 (v:Zbs).2.1 (v:Zbs).2.2.1) o d b t x l (i:Int) s (r.2.1- ((m+1:Nat):Int)) v=K1 (o,d,b,t,(x.1,x.2.1++[(r.1,t',())],x.2.2),l,Lb.wrap ((i:Int)+1),())/\(t'.length:Int)<=r.2.1-r.1:=by
   intro v;unfold bV;obtain⟨y,u,z⟩:=Qmj v;rw[u,pA,Zb Al,Zr];have e:r.2.1- ((m+1:Nat):Int)+1=r.2.1- (m:Int):=Aa
   simp only[e];exact Ql9 ht hbl hq K1 o ho d t x l i hi r hr h0 hH hx hin N m (s++y) Aa Aa Ae f
  by_cases hv:v<0
  ·have:=(hin (r.2.1- ((m+1:Nat):Int)) Aa Aa).resolve_left (q hv);rw[Zo (Zl hv),Zb Ao];exact a _
  simp_all[Zk]
theorem Qcv:∀(a b:List Z6),nP (a++b)=nP a+nP b
 |[],b=>by simp[nP]
 |c::a,b=>by simp only[M5,nP,Qcv a b];omega
theorem Qid:∀{l:List Zi}{i:Nat},i<l->iw (l.drop i)=((l.getD i Z3).2.1- (l.getD i Z3).1)+iw (l.drop (i+1)):=by intro l i h;rw[Q1 (d:=Z3) h];rfl
theorem Ql8{b:Zx}(ht:nP b.2.1<=1000000)(hbl:b.2.1.length<=1000000)(hq:∀c∈b.2.1,0<=c.1/\c.1<=4611686018427387903)(o:Int)(ho:0<=o/\o<=4611686018427387903)(d:Ba)(t:Zx)(l:List Zi)
  (hl:l.length<=1000000) (hf:∀r∈l,iO r=K4) (hc:iw l<=2000000)
  (hin:∀n,lp n l->lp n (b.2.1.map Po)\/(o<=n/\n<o+d.length)) (M:Int) (hM:M<=4000000):
  ∀(N i:Nat)(x:Zx),l.length-i<N->i<=l.length->x.2.1.length<=i->(nP x.2.1:Int)+iw (l.drop i)<=M->
   ∃y,Vq N o d b t x l (i:Int)=K2 (y,())/\y.1=x.1/\y.2.1.length<=l.length/\(nP y.2.1:Int)<=M
 |0,_,_,h,_,_,_=>Aa
 |N+1,i,x,D,E,hx,F=>by
  unfold Vq gH gK;by_cases h:i<l.length
  ·have e:=Z7 (d:=Z3) h;have f:=Xs.1 (hf _ e);have G:=Qid h;have k:∀{l:List Zi},(∀r∈l,iO r=K4)->0<=iw l:=by
    intro l
    induction l with
    |nil=>simp_all[iw]
    |cons r l z=>
     intro u;simp_all[Xs,iw]<;>omega
   have H:=k (l:=l.drop (i+1)) λr j=>hf r (List.mem_of_mem_drop j);have g:(l.getD i Z3).2.1- (l.getD i Z3).1<=2000000:=by
    have A:∀(l:List Zi),(∀r∈l,iO r=K4)-> ∀r∈l,r.2.1-r.1<=iw l:=by
     intro l
     induction l with
     |nil=>simp_all
     |cons q l z=>
      intro u r j;have hq:=Xs.1 (u q Ac)
      grind(splits:=20)[iw]
    grind
   rw[Zo (Zl),Zb,show(i:Int).toNat=i from rfl];generalize j:l.getD i Z3=r at*
   obtain⟨m,B⟩:=L9 (a:=r.2.1-r.1) Aa;obtain⟨C,w,I⟩:=Ql9 ht hbl hq (λv=>Vq N v.1 v.2.1 v.2.2.1 v.2.2.2.1 v.2.2.2.2.1 v.2.2.2.2.2.1 v.2.2.2.2.2.2.1) o ho d t x l i h r j f.1 f.2.2 Aa
    (λn p s=>hin n ⟨r,e,p,s⟩) (Wx o d b t x l (i:Int) [] r.1) m [] Aa (by simp_all[Wx]) Ae g
   rw[show r.2.1- (m:Int)=r.1 by omega]at w;rw[w,Zs h];obtain⟨y,J,K,L,O⟩:=Ql8 ht hbl hq o ho d t l hl hf hc hin M hM N (i+1) (x.1,x.2.1++[(r.1,C,())],x.2.2) Aa Aa Ae (by
    grind[Qcv,nP])
   simp_all
  ·rw[Zm (Zk)]
   grind(splits:=20)[iw]
theorem YV(h:iv K b)(hK:K<=1000000:=by omega):qz b=K2 (b,()):=by
 have:=h.len
 grind[qz,Zb,Qg]
theorem Z2t(h:iv K b)(o:Int)(d:Ba)(hK:K+d+1<=1000000):∃y,mC b o d=K2 (y,())/\iv (K+d+1) y:=by
 have z:=h.len;have A:=h.tot;unfold mC;rw[lw b,pA];generalize i:((((!ZF b)||(d==([]:Ba)))||(K3 (o<(0:Int))))||(K3 (o>(Lb.wrap ((4611686018427387903:Int)-d)))))=c;cases c
 ·simp only[Lt,L8,decide_eq_false_iff_not]at i;obtain⟨⟨⟨p,B⟩,C⟩,t⟩:=i;rw[Zr]at t;obtain⟨D,E,q⟩:=zf Aa p;simp only[pH];rw[Zr];by_cases s:max o b.1>=o+d
  ·rw[Zo (Zl s),YV h];exact⟨b,rfl,h.mono Aa⟩
  ·rw[Zm (Zk s),Zry h,pA,p];simp only[if_true];have j:(b.2.1.map Po).length<=1048576:=Ag
   rw[mR _ _ j,pA];have a:Hl (-1) (b.2.1.map Po)=true:=BT q Aa;have e:iO (max o b.1,o+d,())=true:=Xs.2 Ai;simp only[a,e,and_self,if_true];have k:=vQ (l:=b.2.1.map Po) (r:=((max o b.1,o+d,()):Zi));rw[M6]at k;have f:=T5 (l:=b.2.1.map Po) (r:=((max o b.1,o+d,()):Zi)) (λx hx=>by
    have:=Xs.1 (XL a x hx).2;omega) Ai
   rw[wS]at f;simp only at f;have g:=BY a e Ai;have m:∀c∈b.2.1,0<=c.1/\c.1<=4611686018427387903:=λc i=>by
    have F:=XL q (Po c) (Ns i)
    grind[Xs,Po]
   obtain⟨y,u,G,H,I⟩:=Ql8 (b:=b) Aa Aa m o Aa d H8 _ Aa (λr v=>(XL g r v).2) Aa (λn w=>(Dt w).imp id λJ=>Ag) (K+d) Aa
    (Ww o d b H8 (b.1,[],()) (nR (b.2.1.map Po) (max o b.1,o+d,())) 0) 0 (b.1,[],()) (by simp[Ww]) Aa Ac (by grind[nP])
   exact⟨y,u,Aa,Aa⟩
 ·rw[pG,YV h];exact⟨b,rfl,h.mono Aa⟩
def cQ(b:Zx):Int:=ite (ZF b=K4/\b.2.1≠[]/\(b.2.1.getD 0 Qr).1=b.1) ((b.2.1.getD 0 Qr).2.1.length:Int) 0
theorem rp(b:Zx)(hl:b.2.1.length<=1048576:=by omega):ee b=K2 (cQ b,()):=by
 unfold ee cQ;rw[lw b hl,pA];obtain⟨a,l,_⟩:=b;cases hB:ZF (a,l,())
 ·simp[Ze]
 ·cases l with
  |nil=>simp[Ze]
  |cons c l=>
   simp only[pI,Le];have e:(((c::l).length:Int)==0)=false:=by rfl
   rw[e,Zb (λ_=>Af)];simp only[Le,show(0:Int).toNat=0 from rfl,Mv,ne_eq,reduceCtorEq,not_false_eq_true,true_and];by_cases h:c.1=a
   all_goals simp_all[Zb,Zo]
theorem Z60(h:iv K b):0<=cQ b/\cQ b<=(K:Int)/\(cQ b≠0->ZF b=K4/\ ∃c l,b.2.1=c::l/\cQ b=(c.2.1.length:Int)):=by
 unfold cQ;split
 ·rename_i a;obtain⟨d,l,_⟩:=b;cases l with
  |nil=>simp_all
  |cons c l=>
   have:=h.tot;simp_all[nP]<;>omega
 omega
theorem MS(h:iv K b)(hK:K<=1000000)(m:Int):∃s y,qi b m=K2 (s,y,())/\iv K y/\s.length<=K:=by
 have a:=h.len;have d:=h.tot;obtain⟨q,r,i⟩:=Z60 h;unfold qi;rw[rp b,YV h hK];simp only[pA];generalize t:min (cQ b) (max m 0)=n;by_cases e:n=0
 ·subst e
  grind
 ·rw[Zm (by simp[e])];obtain⟨j,c,l,f,u⟩:=i Aa;obtain⟨k,o,v⟩:=zf Aa j;rw[Zr];obtain⟨z,w,_⟩:=b;simp only at f a d k o;subst f;simp only[Lf]at a;simp only[nP]at d;simp only[show(0:Int).toNat=0 from rfl,Mv,Lf];rw[Zb];by_cases g:n=(c.2.1.length:Int)
  ·rw[Zo (by simp[g]),Zb];simp only[show(1:Int).toNat=1 from rfl,List.drop_succ_cons,Mf];have p:iv K ((z+n,l,()):Zx):=by
    constructor<;>grind[List.take_length]
   rw[YV p hK]
   grind
  ·rw[Zm (by simp[g]),Zb,Zb,Zb];refine⟨_,_,rfl,⟨?_,?_⟩,?_⟩
   all_goals grind[nP]
theorem CS(h:iv K b)(hK:K<=1000000):∃v,we b=K2 (v,()):=by
 have c:=h.len;unfold we gG gH gL;rw[lw b];by_cases a:b.2.1=[]
 ·simp_all
 ·have:0<b.2.1.length:=Mg.2 a;have e:((b.2.1.length:Int)==(0:Int))=false:=Af
  rw[e];simp only[pH,pA,Le];cases ZF b
  ·simp_all
  ·simp only[pI,pH];rw[Zr,Zb];simp_all
theorem J0(c:Bool)(a b:α):(cond c (K2 a) (K2 b))=K2 (cond c a b):=by cases c<;>rfl
theorem MB{P:α->β->Prop}{c:Bool}{m n:α}(h1:∃b,P m b)(h2:∃b,P n b):∃b,P (cond c m n) b:=Ag
theorem vo(h:iv K r.2.1)(hK:K<=1000000):∃b,Yj r=K2 (b,()):=by
 have a:=h.len;obtain⟨v,k⟩:=CS h hK;have j:∀q,∃b,Kt r q=K2 (b,()):=λq=>by unfold Kt;cases q<;>exact⟨_,rfl⟩
 unfold Yj gG;rw[lw _,rp _,k];simp only[pA,J8,J0]
 repeat' refine MB (P:=λm b=>m=K2 (b,())) ?_ ?_
 all_goals simp_all
theorem Qbs:∃r,xr=K2 (r,())/\iv 0 r.2.1:=⟨_,rfl,Ac,by simp[nP]⟩
theorem HB(h:iv K r.2.1)(hK:K<=1000000):nO r=K2 (r,()):=by grind[nO,YV]
theorem Qgx(r:Zz)(e:Int)(f:Bool):∃v,rL r e f=K2 (v,()):=by
 unfold rL
 grind
theorem N8(h:iv K r.2.1)(o:Int)(d:Ba)(f:Bool)(hK:K+d.length+1<=1000000:=by omega):
  ∃y v,K8 r o d f=K2 (y,v,())/\iv (K+d.length+1) y.2.1:=by
 have j:∀z t x,∃y v,Jw o d r z ((t,r.2.1,x):Zz)=K2 (y,v,())/\iv (K+d.length+1) y.2.1:=by
  intro z t x;unfold Jw ju;obtain⟨b,e,g⟩:=Z2t h o d hK;have a:b.2.1.length<=1048576:=by have:=g.len;omega
  simp only[e,pA,rp b a,J0]
  grind
 unfold K8 tD;obtain⟨q,i⟩:=vo h Aa;rw[HB h Aa,i];simp only[pA];generalize l:(((!q)||(K3 (o<(0:Int))))||(K3 (o>(Lb.wrap ((4611686018427387903:Int)- (d.length:Int))))))=c;cases c
 ·obtain⟨v,k⟩:=Qgx r (Lb.wrap (o+(d.length:Int))) f;rw[pH,k,pA];generalize ((v !=(0:Int))||(K3 (r.1>(1:Int))))=c;cases c
  ·cases f
   ·exact j _ _ _
   ·exact j _ _ _
  ·exact⟨_,_,rfl,h.mono Aa⟩
 ·exact⟨_,_,rfl,h.mono Aa⟩
theorem eV(h:iv K r.2.1)(hK:K<=1000000)(c f:Int):
  ∃y v,Ws r c f=K2 (y,v,())/\iv K y.2.1:=by
 unfold Ws gG;obtain⟨q,a⟩:=vo h hK;obtain⟨v,b⟩:=Qgx r f K4;rw[HB h hK,a,b];simp only[pA,J8,J0];generalize ((_||_)||_:Bool)=x;cases x
 ·generalize ((_||_):Bool)=x;cases x
  ·exact⟨_,_,rfl,Ac,by simp[nP]⟩
  simp_all
 simp_all
theorem Zub(h:iv K r.2.1)(hK:K<=1000000)(m:Int):
  ∃s y,ba r m=K2 ((s,y,()),())/\iv K y.2.1/\s.length<=K:=by
 unfold ba;obtain⟨q,a⟩:=vo h hK;obtain⟨s,b,c,d,e⟩:=MS h hK m;rw[HB h hK,a,c];simp only[pA];cases q
 ·grind
 ·simp only[pI,pH];cases r.1==(4:Int)
  ·rw[pH];unfold cJ
   grind
  grind
theorem Ot(n a b:Int):Z8 n a b=K2 (K3 (n>=a)&&K3 (n<=b),()):=rfl
theorem Qbz(n:Int):∃b,dE n=K2 (b,()):=⟨_,rfl⟩
theorem v8(c:av):∃b,a9 c=K2 (b,()):=by obtain⟨b,h⟩:=Qbz c.1;simp_all[a9,Ot,J0]
theorem RD(c:Jl):∃b,J9 c=K2 (b,()):=by simp_all[J9,J8,Ot,J0]
theorem PQ(w:Qp):∃b,bp w=K2 (b,()):=by simp_all[bp,Ot,J0]
theorem xz(p:Qz):∃b,bF p=K2 (b,()):=by simp_all[bF,Ot]
theorem Qi6(n:Int):∃c b,ig n=K2 (c,b,()):=by
 unfold ig;simp only[J8,pA,J0]
 grind
theorem Z6m(n m:Int):∃c b,ii n m=K2 (c,b,()):=by
 unfold ii;simp only[Ot,pA,J0]
 grind
theorem Qf1(s:Bool)(n:Int):∃b,V4 s n=K2 (b,()):=by simp_all[V4,aD,jd,sg,J8,J0]
theorem Z1o(s:Bool)(n:Int):∃b,Y9 s n=K2 (b,()):=by simp_all[Y9,aD,jd,sg,J8,J0]
structure Xx(K:Nat)(s:Zh):Prop where
 snd:Wp K s.2.1
 rcv:iv K s.2.2.2.1.2.1
theorem Xx.mono{K K':Nat}{s:Zh}(h:Xx K s)(hK:K<=K'):Xx K' s:=⟨h.snd.mono Aa,h.rcv.mono hK⟩
theorem zQ(h:Xx K s)(hK:K<=1000000):∃b,f7 s=K2 (b,()):=by
 obtain⟨g,a,-⟩:=tc h.snd;obtain⟨i,c⟩:=RD (s:LE);obtain⟨j,d⟩:=vo h.rcv hK;obtain⟨k,e⟩:=PQ (s:Fn);obtain⟨l,f⟩:=xz (s:Zaz);unfold f7 gG;simp only[a,c,d,e,f,J8,J0,pA]
 grind
theorem yR(h:Xx K s)(hK:K<=1000000:=by omega):kh s=K2 (s,()):=by unfold kh;rw[uc h.snd,HB h.rcv hK];rfl
theorem Qlq(l:List Zh)(n:Int)(hl:l.length<=1000000):∀(N i:Nat),l.length-i<N->i<=l.length-> ∃v,Kd N l n (i:Int)=K2 (v,())/\(v<0\/v<l.length)/\(v<0-> ∀s∈l.drop i,s.1≠n)/\(0<=v->(l.getD v.toNat Zc).1=n)
 |0,_,h,_=>Aa
 |N+1,i,d,f=>by
  unfold Kd;by_cases h:i<l.length
  ·rw[Zo (Zl),Zb,show(i:Int).toNat=i from rfl];by_cases e:(l.getD i Zc).1=n
   ·rw[Zo (beq_iff_eq.2 e)];exact⟨_,rfl,Aa,λh=>Aa,λ_=>e⟩
   ·rw[Zm (beq_eq_false_iff_ne.2 e),Zs h];obtain⟨v,a,b,g,c⟩:=Qlq l n hl N (i+1) Aa Aa;refine⟨v,a,b,λhv s j=>?_,c⟩
    grind(splits:=20)[Q1]
  simp_all[Zk,Lr]
theorem Iq(l:List Zh)(n:Int)(hl:l.length<=1000000):∃v,Kc l n=K2 (v,())/\(v<0\/v<l.length)/\(v<0-> ∀s∈l,s.1≠n)/\(0<=v->(l.getD v.toNat Zc).1=n):=by unfold Kc;exact Qlq l n hl _ 0 (by simp[Kx]) Aa
structure mQ(K:Nat)(l:List Zh):Prop where
 len:l.length<=K
 all:∀s∈l,Xx K s
theorem mQ.mono{K K':Nat}{l:List Zh}(h:mQ K l)(hK:K<=K'):mQ K' l:=⟨L4 h.len hK,λs a=>(h.all s a).mono hK⟩
theorem Qsn{K:Nat}{l:List Zh}{s:Zh}(h:mQ K l)(hs:Xx K s)(hK:K<=500000)(a:Int):∀(N i:Nat)(out:List Zh)(p:Bool),l.length-i<N->i<=l.length->(∀x∈out,Xx K x)->out.length<=i+(ite p 1 0)->
  ∃y,Ys N l s out a p (i:Int)=K2 (y,())/\y.length<=l.length+1/\ ∀x∈y,Xx K x
 |0,_,_,_,h,_,_,_=>Aa
 |N+1,i,out,p,w,A,b,f=>by
  have g:=h.len;have m:out.length<=i+1:=Ag
  have c:∀{o:List Zh}{x},(∀x∈o,Xx K x)->Xx K x-> ∀z∈o++[x],Xx K z:=λb hx z B=>by
   grind
  unfold Ys;by_cases k:i<l.length
  ·have e:=h.all _ (Z7 (d:=Zc) k);rw[Zo (Zl),Zb,show(i:Int).toNat=i from rfl,yR e,yR hs];simp only[pA];have j:∀(o:List Zh)(q:Bool) x,(∀x∈o,Xx K x)->Xx K x->o.length<=i+(ite q 1 0)->
     ∃y,Jc (λv=>Ys N v.1 v.2.1 v.2.2.1 v.2.2.2.1 v.2.2.2.2.1 v.2.2.2.2.2.1) l s o a q (i:Int) x=K2 (y,())/\y.length<=l.length+1/\ ∀x∈y,Xx K x:=by
    intro o q x n r t;have u:o.length<=i+1:=by split at t<;>omega
    unfold Jc;rw[Zb Aj,Zs k];exact Qsn h hs hK a N (i+1) (o++[x]) q Aa Aa (c n r) Ag
   cases (i:Int)==a
   ·rw[pH,Zb (λ_=>Aa)];cases p
    ·simp only[Lk,pJ];cases K3 ((l.getD i Zc).1>s.1)
     ·exact j _ _ _ b e f
     ·rw[pG,Zb Aj];exact j _ _ _ (c b hs) e Ag
    ·exact j _ _ _ b e f
   ·exact j _ _ _ b hs f
  ·rw[Zm (Zk),yR hs];cases p
   ·simp only[Lk,pG,pA]
    grind(splits:=20)[Zb,Qg]
   grind
theorem Z6x(h:mQ K l)(hs:Xx K s)(hK:K<=500000:=by omega):∃y,Xe l s=K2 (y,())/\y.length<=l.length+1/\ ∀x∈y,Xx K x:=by unfold Xe;obtain⟨v,e,-⟩:=Iq l s.1 (by have:=h.len;omega);rw[e,pA];exact Qsn h hs hK _ _ 0 [] _ (by simp[aF]) Aa Ac Ac
theorem Qol:Xx 0 (((0:Int),((0:Int),((0:Int),(0:Int),(0:Int),([]:List Int),()),([]:List Zi),([]:List Zi),([]:List Zi),(0:Int),(0:Int),(0:Int),(0:Int),()),((0:Int),(0:Int),(0:Int),(0:Int),()),((0:Int),((0:Int),([]:List Z6),()),(0:Int),(0:Int),(0:Int),()),((0:Int),(0:Int),(0:Int),(0:Int),(0:Int),(0:Int),()),((0:Int),Lc,()),Lc,Lc,Lc,Lc,Lc,Lc,(0:Int),Lc,()):Zh):=⟨{cells:=Ac,e0:=Lg _,eK:=Lg _,pend:=s7 _,pT:=s7 _,pO:=s7 _},Ac,by simp[nP]⟩
theorem Qn8(h:mQ K (c:Id))(hK:K<=1000000)(n:Int):∃s b,Xy c n=K2 (s,b,())/\Xx K s:=by
 unfold Xy gH gJ;obtain⟨v,e,f,-⟩:=Iq (c:Id) n (by have:=h.len;omega);rw[e,pA];by_cases hv:v<0
 ·rw[Zo (Zl hv)];exact⟨_,_,rfl,Qol.mono Aa⟩
 ·have a:=h.all _ (Z7 (l:=(c:Id)) (i:=v.toNat) (d:=Zc));rw[Zm (Zk hv),Zb Ai,yR a hK];simp_all
theorem Qp0(n:Int):∃v,ry n=K2 (v,()):=by
 unfold ry;rw[J8,pA,Zb,J0]
 grind
theorem Ia(c:Jl):∃b,aB c=K2 (b,()):=by simp_all[aB,Ot,J0]
theorem MW(c:aP):∃b,fZ c=K2 (b,()):=by simp_all[fZ,Ot,J0]
theorem Qrl{K:Nat}{l:List Zh}(h:mQ K l)(hK:K<=1000000):∀(N i:Nat),l.length-i<N->i<=l.length-> ∃b,Ks N l (i:Int)=K2 (b,())
 |0,_,h,_=>Aa
 |N+1,i,f,g=>by
  have a:=h.len;unfold Ks;by_cases c:i<l.length
  ·obtain⟨b,e⟩:=zQ (h.all _ (Z7 (d:=Zc) c)) hK;rw[Zo (Zl),Zb,show(i:Int).toNat=i from rfl,e,pA,Zb (λ_ _=>Aa),
    Zb (λ_ h=>by have:=pE h;grind[Zr]),Zs c]
   exact MB (P:=λm b=>m=K2 (b,())) ⟨_,rfl⟩ (Qrl h hK N (i+1) Aa Aa)
  simp_all[Zk]
theorem qH(h:mQ K l)(hK:K<=1000000):∃b,Jy l=K2 (b,()):=by unfold Jy;exact Qrl h hK _ 0 (by simp[cx]) Aa
theorem Z68(h:mQ K l)(hK:K<=1000000):∃v,io l=K2 (v,()):=by
 obtain⟨b,e⟩:=qH h hK;have a:=h.len;have c:∀(N i:Nat)(n:Int),l.length-i<N->i<=l.length-> ∃v,Vb N l n (i:Int)=K2 (v,()):=by
  intro N
  induction N with
  |zero=>omega
  |succ N d=>
   intro i n g j;unfold Vb;rw[e,J0,pA];by_cases f:i<l.length
   ·rw[Zb,Zs f];exact MB (P:=λm b=>m=K2 (b,())) (d (i+1) _ Aa Aa) ⟨_,rfl⟩
   simp_all[Zk]
 unfold io;exact c _ 0 0 (by simp[Je]) Aa
theorem Z67(h:mQ K l)(hK:K<=1000000):∃v,ij l=K2 (v,()):=by
 obtain⟨b,e⟩:=qH h hK;have a:=h.len;have c:∀(N i:Nat)(n:Int),l.length-i<N->i<=l.length-> ∃v,Va N l n (i:Int)=K2 (v,()):=by
  intro N
  induction N with
  |zero=>omega
  |succ N d=>
   intro i n g j;unfold Va;rw[e,J0,pA];by_cases f:i<l.length
   ·rw[Zb,Zs f];exact MB (P:=λm b=>m=K2 (b,())) (d (i+1) _ Aa Aa) ⟨_,rfl⟩
   simp_all[Zk]
 unfold ij;exact c _ 0 0 (by simp[Jd]) Aa
def T{α:Type}(m:Option α)(Q:α->Prop):Prop:= ∃y,m=K2 y/\Q y
abbrev TT{α:Type}(m:Option α):Prop:=T m λ_=>True
section
variable {α β:Type}{m n:Option α}{f:α->Option β}{Q:α->Prop}{R:β->Prop}
theorem T.bind(h:T m Q)(k:∀y,Q y->T (f y) R):T (Ld m f) R:=by obtain⟨y,e,a⟩:=h;simp_all
theorem T.pure{y:α}(h:Q y):T (K2 y) Q:=⟨y,rfl,h⟩
theorem T.tt{y:α}:TT (K2 y):=⟨y,rfl,trivial⟩
theorem T.ite{c:Bool}(h1:c=K4->T m Q)(h2:c=Lc->T n Q):T (cond c m n) Q:=by grind
theorem T.if{c:Bool}(h1:T m Q)(h2:T n Q):T (cond c m n) Q:=T.ite (λ_=>h1) λ_=>h2
theorem T.guard(hp:p)(h:T m Q):T (Ze p m) Q:=by simp_all[Zb]
theorem T.mono{Q':α->Prop}(h:T m Q)(k:∀y,Q y->Q' y):T m Q':=by obtain⟨y,e,a⟩:=h;exact⟨y,e,k y a⟩
end
theorem mT{m:Oa α}(h:∃b,m=K2 (b,())):TT m:=by obtain⟨b,e⟩:=h;exact⟨_,e,trivial⟩
def T6(f:Zj):Prop:=(f:IO).length<=1000
def jN(l:List Zj):Prop:=l.length<=1000/\ ∀f∈l,T6 f
def LK(K:Nat)(l:List Qa):Prop:=l.length<=K/\ ∀p∈l,jN p.2.1
theorem LK.mono{l:List Qa}(h:LK K l)(hK:K<=K'):LK K' l:=⟨L4 h.1 hK,h.2⟩
structure Qb(K:Nat)(c:Zf):Prop where
 str:mQ K c.2.2.2.1
 pk:LK K c.2.2.2.2.2.2.2.2.2.2.2.2.2.2.2.1
theorem Qb.mono{K K':Nat}{c:Zf}(h:Qb K c)(hK:K<=K'):Qb K' c:=⟨h.str.mono hK,h.pk.mono hK⟩
theorem Z6q{K:Nat}{l:List Qa}(h:LK K l)(hK:K<=1000000):∀(N i:Nat),l.length-i<N->i<=l.length->lO N l (l.take i) (i:Int)=K2 (l,())
 |0,_,h,_=>Aa
 |N+1,i,b,c=>by
  have f:=h.1;unfold lO gH gI;by_cases a:i<l.length
  ·have g:=(h.2 _ (Z7 (d:=Xq) a)).1;rw[Zo (Zl),Zb,Zb,show(i:Int).toNat=i from rfl,Zb Aj];simp only[M8];rw[Zb Aj,Zs a];have e:l.take i++[((l.getD i Xq).1,(l.getD i Xq).2.1,())]=l.take (i+1):=by
    grind[Na]
   rw[e];exact Z6q h hK N (i+1) Aa Aa
  grind
theorem Qd2{l:List Qa}(h:LK K l)(hK:K<=1000000):zb l=K2 (l,()):=by unfold zb;exact Z6q h hK _ 0 (by simp[qj]) Aa
theorem Z6g{K:Nat}{c:Zf}(h:Qb K c)(hK:K<=1000000)(t:Zf):∀(N i:Nat),(c:Id).length-i<N->i<=(c:Id).length->
  sl N c t (c.1,c.2.1,c.2.2.1,(c:Id).take i,c.2.2.2.2) (i:Int)=K2 (c,())
 |0,_,h,_=>Aa
 |N+1,i,b,f=>by
  have g:=h.str.len;unfold sl gH gJ tD tJ;by_cases a:i<(c:Id).length
  ·rw[Zo (Zl),Zb,show(i:Int).toNat=i from rfl,yR (h.str.all _ (Z7 (d:=Zc) a)) hK,pA,
    Zb Aj,Zs a]
   have e:(c:Id).take i++[(c:Id).getD i Zc]=(c:Id).take (i+1):=by
    simp_all
   simp only[e];exact Z6g h hK t N (i+1) Aa Aa
  ·rw[Zm (Zk),M9 Aa,Qd2 h.pk hK];rfl
theorem Y8(h:Qb K c)(hK:K<=1000000:=by omega):Qf c=K2 (c,()):=by unfold Qf tD;exact Z6g h hK _ _ 0 (by simp[wj]) Aa
theorem OF(h:T6 f):TT (aC f):=⟨_,xt f At,trivial⟩
theorem Qiy{l:List Zj}(h:jN l):TT (ir l):=by
 have c:∀(N i:Nat),l.length-i<N->i<=l.length->TT (Wt N l (i:Int)):=by
  intro N
  induction N with
  |zero=>intro i h;omega
  |succ N b=>
   intro i d e;have f:=h.1;unfold Wt;refine T.ite (λa=>?_) λ_=>T.tt;have a:=pE a;refine T.guard Aa ((OF (h.2 _ (Z7))).bind λt _=>T.if T.tt ?_);rw[Zs (m:=l.length)];exact b (i+1) Aa Aa
 grind[ir,Vv]
theorem Gs(n a b:Int):TT (Z8 n a b):=⟨_,Ot n a b,trivial⟩
theorem P4(n:Int):TT (Q0 n):=⟨_,J8 n,trivial⟩
theorem Zxz(h:mQ K l)(hK:K<=1000000):T (Jy l) λr=>r.1=K4->l.length<=24:=by
 have a:=h.len;have d:∀(N i:Nat),l.length-i<N->i<=l.length->T (Ks N l (i:Int)) λr=>r.1=K4->l.length<=24:=by
  intro N
  induction N with
  |zero=>intro i h;omega
  |succ N c=>
   intro i e f;unfold Ks;refine T.ite (λb=>?_) λ_=>T.pure λh=>Ag
   have b:=pE b;refine T.guard Aa ((mT (zQ (h.all _ (Z7)) hK)).bind λt _=>T.guard (λ_ _=>Aa) (T.guard (λ_ h=>?_) (T.if (T.pure λh=>by cases h) ?_)))
   ·have:=pE h
    grind[Zr]
   ·rw[Zs (m:=l.length)];exact c (i+1) Aa Aa
 grind[Jy,cx]
theorem Qgr(h:Qb K c)(hK:K<=1000000):T (Ky c) λr=>r.1=K4->(c:Id).length<=24:=by
 have d:∀(N i:Nat),(c:Zac).length-i<N->i<=(c:Zac).length->TT (dr N c (i:Int)):=by
  intro N
  induction N with
  |zero=>intro i h;omega
  |succ N e=>
   intro i o p;have q:=h.pk.1;unfold dr;refine T.ite (λa=>?_) λ_=>?_
   ·have a:=pE a;refine T.guard Aa ((Gs _ _ _).bind λt _=>T.guard (λ_ _=>Aa) (T.guard (λ_ h=>?_) (T.guard (λ_=>Aa) (T.bind (Q:=λ_=>True) (T.if T.tt (Qiy (h.pk.2 _ (Z7)))) λs _=>T.if T.tt ?_))))
    ·have:=pE h
     grind[Zr]
    ·rw[Zs (m:=(c:Zac).length)];exact e (i+1) Aa Aa
   ·exact(Gs _ _ _).bind λt _=>T.bind (Q:=λ_=>True) (T.if (Gs _ _ _) T.tt) λt _=>T.bind (Q:=λ_=>True) (T.if (Gs _ _ _) T.tt) λt _=>T.bind (Q:=λ_=>True) (T.if (Gs _ _ _) T.tt) λt _=>
     T.bind (Q:=λ_=>True) (T.if (mT (Z68 h.str hK)) T.tt) λt _=>T.bind (Q:=λ_=>True) (T.if (mT (Z67 h.str hK)) T.tt) λt _=>T.tt
 unfold Ky gG;have B:∀{α β:Type}{b:Bool}{m n:Option α}{f:α->Option β}{R:β->Prop},TT m->TT n->(∀y,T (f y) R)->T (Ld (cond b m n) f) R:=λg j k=>(T.if g j).bind λy _=>k y;exact(mT (v8 _)).bind λt _=>B T.tt (mT (v8 _)) λt=>T.bind (Q:=λr=>r.1=K4->(c:Id).length<=24) (T.if (T.pure λh=>by cases h) (Zxz h.str hK)) λt l=>B T.tt (mT (RD _)) λt=>B T.tt (mT (PQ _)) λt=>B T.tt (mT (MW _)) λt=>B T.tt (mT (MW _)) λt=>B T.tt (mT (Ia _)) λt=>B T.tt (mT (Ia _)) λt=>
  T.ite (λ_=>T.pure λh=>by cases h) λa=>(d _ 0 (by simp[Wg]) Aa).mono λ_ _ _=>l Af
theorem FO(h:Qb K c)(hK:K<=1000000:=by omega):TT (Ky c):=(Qgr h hK).mono λ_ _=>trivial
theorem Qmi(h:Qb K c)(hK:K<=1000000):T (Ka c) λr=>r.1=K4->(c:Id).length<=24:=by unfold Ka;exact(Qgr h hK).bind λt a=>T.bind (Q:=λ_=>True) (T.if ⟨_,rfl,trivial⟩ T.tt) λb _=>T.pure λh=>a Af
theorem KY(h:Qb K c)(hK:K<=1000000:=by omega):TT (Ka c):=(Qmi h hK).mono λ_ _=>trivial
theorem Qxb(n:Int):T (dE n) λr=>r.1=K4->0<n/\n<=64:=⟨_,rfl,λh=>by simp at h;omega⟩
theorem Qeg(n:Int):T (lJ n) λr=>Wp 0 r.1:=by
 unfold lJ BK;have z:Wp 0 Jn:={cells:=(by simp[Jn]),e0:=Lg _,eK:=Lg _,pend:=s7 _,pT:=s7 _,pO:=s7 _}
 refine T.bind (Q:=λr=>r.2.1=K4->r.1.2.2.2.1.length<=64/\r.1.2.2.1=0) ((Qxb n).bind λt a=>T.ite (λ_=>T.pure λh=>by cases h) λb=>?_) λt a=>T.ite (λ_=>T.pure z) λb=>T.pure ?_
 ·have:=a (by simpa using b);exact T.guard Aj (T.pure λ_=>⟨Ae,rfl⟩)
 constructor<;>grind[s7]
theorem wY(v:Bool)(i:Int)(o p:av):T (bq v i o p) λr=>Xx 0 r.1:=by
 obtain⟨l,a⟩:=v8 o;obtain⟨m,b⟩:=v8 p;obtain⟨n,c⟩:=Qf1 v i;obtain⟨q,d⟩:=Z1o v i;obtain⟨⟨s,t,u⟩,e,f⟩:=Qeg o.1;obtain⟨w,y,g⟩:=Qi6 p.2.1;obtain⟨z,A,h⟩:=Z6m o.2.1 o.2.2.1;obtain⟨r,j,k⟩:=Qbs;unfold bq gG cA;simp only[a,b,c,d,e,g,h,j,J8,J0,pA];generalize ((_||_)||_:Bool)=x;cases x
 ·exact T.pure (by exact⟨f,k⟩)
 ·exact T.pure Qol
theorem vR(v:Bool)(n:Int):TT (jd v n):=by unfold jd sg;simp only[J8,pA,J0];exact⟨_,rfl,trivial⟩
theorem JU(n:Int):TT (aD n):=by unfold aD;simp only[J8,pA];exact⟨_,rfl,trivial⟩
theorem Qjc(c:aP):TT (tf c):=by unfold tf;exact(mT (MW c)).bind λt _=>T.if T.tt (T.if T.tt T.tt)
theorem Qqb(n:Int)(s u:Bool):TT (qw n s u):=by
 unfold qw;have j:∀u i,TT (lG u i):=λu i=>by simp_all[lG,T.if,T.tt]
 exact(Gs _ _ _).bind λt _=>T.if T.tt (T.guard Aa (T.if (j _ _) (j _ _)))
theorem Jb(h:mQ K l)(hs:Xx K' s)(hk:K<=K':=by omega)(hK:K'+1<=500000:=by omega):T (Xe l s) λr=>mQ (K'+1) r.1:=by obtain⟨y,e,b,a⟩:=Z6x (h.mono hk) hs;have:=h.len;exact⟨_,e,Ai,λx hx=>(a x hx).mono Aa⟩
theorem ze(h:Qb K c)(hK:K<=1000000)(n:Int):T (Xy c n) λr=>Xx K r.1:=by obtain⟨s,b,e,a⟩:=Qn8 h.str hK n;exact⟨_,e,a⟩
theorem Qb.up(h:Qb K c)(hk:K<=K')(hl:mQ K' l):Qb K' (c.1,c.2.1,c.2.2.1,l,c.2.2.2.2):=⟨hl,h.pk.mono hk⟩
theorem Qeo(h:Qb K c)(hK:K+1<=500000)(u:Bool):T (ed c u) λr=>Qb (K+1) r.2.1:=by
 unfold ed;rw[Y8 h,pA];have a:∀u x t i b,Qb K x->T (Vt u c t x i b) λr=>Qb (K+1) r.2.1:=λu x t i b hx=>by
  unfold Vt tD;exact T.if (T.pure (hx.mono Aa)) ((Qqb _ _ _).bind λe _=>(wY _ _ _ _).bind λj f=>(Jb hx.str (f.mono Aa) (Lo _)).bind λk g=>T.pure (hx.up Aa g))
 have d:∀u t n,T (Vs u c t c n) λr=>Qb (K+1) r.2.1:=λu t n=>by
  unfold Vs tG tM;exact(Qjc _).bind λe _=>T.if (a _ _ _ _ _ ⟨h.str,h.pk⟩) (a _ _ _ _ _ ⟨h.str,h.pk⟩)
 exact(KY h).bind λt _=>T.if (T.pure (h.mono Aa)) (T.if (d _ _ _) (d _ _ _))
theorem Qc5(h:Qb K c)(i:Int)(d:Ba)(hK:K+d.length+1<=500000):T (cM c i d) λr=>Qb (K+d.length+1) r.2.1:=by unfold cM tD tT;rw[Y8 h,pA];refine(ze h Aa i).bind λs a=>(KY h).bind λt _=>T.if (T.pure (h.mono Aa)) ?_;obtain⟨x,n,e,b⟩:=Zy3 a.snd d;rw[e,pA];exact(Jb h.str (K':=K+d.length) (by exact⟨b.mono (by omega),a.rcv.mono (by omega)⟩)).bind λg f=>T.pure (h.up Aa f)
theorem Z8e(h:Qb K c)(hK:K+1<=500000)(i:Int):T (iT c i) λr=>Qb (K+1) r.1:=by unfold iT tD tT;rw[Y8 h,pA];refine(ze h Aa i).bind λs a=>(KY h).bind λt _=>T.if (T.pure (h.mono Aa)) ?_;obtain⟨x,f,e,b⟩:=Zx5 a.snd;rw[e,pA];exact T.if (T.pure (h.mono Aa)) ((Jb h.str (by exact⟨b,a.rcv⟩) (Lo _)).bind λg d=>T.pure (h.up Aa d))
theorem Z4b(w:Qp)(n:Int):TT (lL w n):=by unfold lL tH;exact(mT (PQ w)).bind λt _=>T.if T.tt T.tt
theorem Qgu(h:Qb K x)(hs:Xx K s)(n:Int):T (rH x s n) λr=>Qb K r.2.1/\Xx K r.2.2.1:=by unfold rH;exact(Z4b _ _).bind λt _=>(Z4b _ _).bind λa _=>T.pure ⟨⟨h.str,h.pk⟩,hs.snd,hs.rcv⟩
theorem Qjq(h:iv K r.2.1)(hK:K<=1000000):TT (sd r):=by grind[sd,vo,T.tt]
theorem Qmd(h:Xx K s)(hK:K<=1000000):TT (wg s):=by unfold wg y7 se gG;exact(mT (zQ h hK)).bind λt _=>T.bind (Q:=λ_=>True) (T.if T.tt T.tt) λt _=>T.bind (Q:=λ_=>True) (T.if (T.bind (Q:=λ_=>True) (T.if T.tt (Qjq h.rcv hK)) λt _=>T.tt) T.tt) λt _=>T.tt
theorem Z5y(a:Jl):TT (fX a):=by unfold fX tD;exact(mT (Ia a)).bind λt _=>T.if T.tt T.tt
theorem Qp6(h:Qb K x)(hs:Xx K s)(hK:K<=1000000):T (XT x s) λr=>Qb K r.2.1/\Xx K r.2.2.1:=by unfold XT gG tA tB tC;exact T.bind (Q:=λ_=>True) (T.if T.tt (vR _ _)) λt _=>T.bind (Q:=λ_=>True) (T.if T.tt (Qmd hs hK)) λt _=>T.if (T.pure ⟨h,hs⟩) ((JU _).bind λt _=>T.if ((Z5y _).bind λt _=>T.pure ⟨⟨h.str,h.pk⟩,hs.snd,hs.rcv⟩) ((Z5y _).bind λt _=>T.pure ⟨⟨h.str,h.pk⟩,hs.snd,hs.rcv⟩))
theorem qD(h:Qb K x)(hs:Xx K' s)(hk:K<=K':=by omega)(hK:K'+1<=500000:=by omega):T (bG x s) λr=>Qb (K'+1) r.2.1:=by unfold bG tD;exact(Qp6 (h.mono hk) hs Aa).bind λt a=>(Jb a.1.str a.2 (Lo _) hK).bind λc b=>T.pure (a.1.up Aa b)
theorem Qex(h:Qb K c)(hK:K+1<=500000)(i m:Int):T (mH c i m) λr=>Qb (K+1) r.1.2.2.1/\r.1.1.length<=K:=by
 unfold mH tD;rw[Y8 h,pA];refine(ze h Aa i).bind λs a=>(KY h).bind λt _=>T.if (T.pure ⟨h.mono Aa,L7 _⟩) ?_;obtain⟨d,r,e,b,g⟩:=Zub a.rcv Aa m;rw[e,pA];have j:∀t x s r,Qb K x->Xx K s->T (bZ t x s d r) λr=>Qb (K+1) r.1.2.2.1/\r.1.1.length<=K:=λt x s r hx a=>by
  unfold bZ;exact(qD hx a (Lo _) hK).bind λl k=>T.pure ⟨k,g⟩
 exact T.if ((Qgu h (by exact⟨a.snd,b⟩) _).bind λt f=>j _ _ _ _ f.1 f.2) (j _ _ _ _ h (by exact⟨a.snd,b⟩))
theorem Qb9(h:Qb K c)(hK:K+1<=500000)(i k:Int):T (kU c i k) λr=>Qb (K+1) r.1.1:=by unfold kU tW;rw[Y8 h,pA];refine(ze h Aa i).bind λs a=>(KY h).bind λt _=>T.if (T.pure (h.mono Aa)) ?_;obtain⟨x,f,e,b⟩:=VE a.snd k;rw[e,pA];exact T.if (T.pure (h.mono Aa)) ((qD h (by exact⟨b,a.rcv⟩) (Lo _) hK).bind λg d=>T.pure d)
theorem HJ(s:Ba)(hs:s.length<=1000000)(b:Int):∀(N i:Nat)(out:List Ba)(p:Ba),s-i<N->i<=s->out<=i->p<=i->(∀x∈out,x<=i)->
  T (dA N s b out p (i:Int)) λr=>r.1<=s.length+1/\ ∀x∈r.1,x<=s.length
 |0,_,_,_,h,_,_,_,_=>Aa
 |N+1,i,out,p,e,f,d,g,hx=>by
  have a:∀{k:Nat}{o:List Ba} {x},(∀x∈o,x<=k)->x.length<=k-> ∀z∈o++[x],z.length<=k:=λd hx z j=>by
   grind
  unfold dA gH;refine T.ite (λc=>?_) λ_=>T.guard Aj (T.pure ⟨Ae,a (λx h=>Ag) Aa⟩);have c:i<s:=Af
  refine T.guard Aa (T.if (T.guard Aj ?_) (T.guard ?_ (T.guard ?_ ?_)))
  ·unfold lN;rw[Zs c];exact HJ s hs b N (i+1) _ _ Aa Aa Ae Ac (a (λx h=>Ag) Aa)
  ·grind[Zs]
  ·grind[Ym]
  ·unfold lN;rw[Zs c];exact HJ s hs b N (i+1) _ _ Aa Aa Ai Ag (λx h=>Ag)
theorem Qwd(s:Ba)(hs:s.length<=1000000)(b:Int):T (wi s b) λr=>r.1<=s.length+1/\ ∀x∈r.1,x<=s.length:=by grind[wi,HJ,oK]
theorem Qh0:∀(N:Nat)(s:Ba),s<N->s.length<=1000000->T (jh N s) λr=>r.1<=s.length
 |0,_,h,_=>Aa
 |N+1,s,b,c=>by
  unfold jh;refine T.guard (λh=>?_) (T.ite (λa=>?_) λ_=>T.pure (Lo _))
  ·have:=pE h
   grind[Zr]
  ·have:(s:Int)>0:=by simp at a;omega
   refine T.guard Ao ((Qh0 N _ ?_ ?_).mono λy d=>?_)
   all_goals (simp only[List.length_take,List.length_drop]at*;rw[Zr]at*;omega)
theorem Qhz:∀(N:Nat)(s:Ba),s<N->s.length<=1000000->T (ef N s) λr=>r.1<=s.length
 |0,_,h,_=>Aa
 |N+1,s,c,a=>by
  unfold ef;refine T.guard (λh=>?_) (T.ite (λb=>?_) λ_=>Qh0 _ s (by simp[iq]) a)
  ·simp_all
  ·have:(s:Int)>0:=by simp at b;omega
   refine T.guard Aa ((Qhz N _ ?_ ?_).mono λy d=>?_)
   all_goals grind
theorem Qx3(s:Ba)(hs:s.length<=1000000):T (xu s) λr=>r.1<=s.length:=by simp_all[xu,Qhz,nH]
theorem Qui(p:Qz)(s:Ba)(hs:s.length<=100000):TT (fK p s):=by
 have c:∀(l:List Ba),l.length<=100001->(∀x∈l,x.length<=100000)-> ∀(t:Qz)(N i:Nat)(b:Qz),l-i<N->i<=l->TT (Yq N b t l (i:Int)):=by
  intro l f hx t N
  induction N with
  |zero=>omega
  |succ N e=>
   intro i b g k;unfold Yq gH tT;refine T.ite (λa=>?_) λ_=>T.tt;have a:i<l:=Af
   have j:∀b,TT (Js (λv=>Yq N v.1 v.2.1 v.2.2.1 v.2.2.2.1) b t l (i:Int)):=λb=>by
    unfold Js;rw[Zs a];exact e (i+1) _ Aa Aa
   refine T.guard Aa ((Qx3 _ Ag).bind λt _=>T.if (j _) (T.if (j _) (T.guard (λh=>?_) (T.guard (λh=>?_) (T.guard (λh=>?_) (T.ite (λh=>T.guard ?_ (j _)) λ_=>j _))))))
   all_goals simp_all
 have j:∀b t,TT (Wo s b t):=λb t=>by
  unfold Wo;exact(Qwd s Aa 44).bind λr m=>c _ Aa (λx hx=>Ag) _ _ 0 _ (by simp[lH]) Aa
 unfold fK;have d:TT cA:=⟨_,rfl,trivial⟩
 exact(mT (xz p)).bind λt _=>T.if (d.bind λt _=>j _ _) (j _ _)
theorem Qce(h:Qb K c)(hK:K+1<=500000)(i:Int)(x:Ba)(hx:x.length<=100000):T (kV c i x) λr=>Qb (K+1) r.1:=by unfold kV tD tU;rw[Y8 h,pA];exact(ze h Aa i).bind λs a=>(KY h).bind λt _=>T.if (T.pure (h.mono Aa)) ((Qui _ x hx).bind λt _=>(Jb h.str (by exact⟨a.snd,a.rcv⟩) (Lo _) hK).bind λd b=>T.pure (h.up Aa b))
theorem Qcj(n:Int):T (kr n) λr=>0<=r.1/\r.1<=8:=by unfold kr;exact T.if (T.pure Ac) (T.if (T.pure Ac) (T.if (T.pure Ac) (T.if (T.pure Ac) (T.pure Ac))))
theorem Qlf(n k:Int):∀(N m:Nat)(s:Ba),m<N->m<=8->s+m<=8->T (Qs N n k s ((m:Int)-1)) λr=>r.1.length<=8
 |0,_,_,h,_,_=>Aa
 |N+1,0,s,_,_,a=>by
  simp_all[Qs,T.pure]
 |N+1,m+1,s,f,g,a=>by
  unfold Qs;have j:∀b,T (Yv (λv=>Qs N v.1 v.2.1 v.2.2.1 v.2.2.2.1) n k s (((m+1:Nat):Int)-1) b) λr=>r.1.length<=8:=λb=>by
   unfold Yv;obtain⟨d,e,i⟩:=Qmj b;have c:Lb.wrap (((m+1:Nat):Int)-1-1)=(m:Int)-1:=Ao
   rw[e,pA,c];exact T.guard Al (Qlf n k N m _ Aa Aa Ag)
  exact T.ite (λ_=>T.guard Ao (T.if (T.if (j _) (T.if (j _) (T.if (j _) (j _)))) (j _))) λh=>Af
theorem Qyk(n:Int):T (V5 n) λr=>r.1.length<=8:=by
 unfold V5;refine(Qcj n).bind λt a=>?_
 grind[L9,Zr,Qlf,J4]
theorem Qgb(l:List Int)(hl:l.length<=1000):∀(N i:Nat)(s:Ba),l-i<N->i<=l->s<=8*i->T (Jv N l s (i:Int)) λr=>r.1<=8*l.length
 |0,_,_,h,_,_=>Aa
 |N+1,i,s,b,c,d=>by
  unfold Jv gH;refine T.ite (λa=>?_) λ_=>T.pure Ai;have a:=pE a;refine T.guard Aa ((Qcj _).bind λt _=>T.if (T.pure Ac) (T.guard Aa ((Qyk _).bind λt e=>T.guard Al ?_)));rw[Zs (m:=l)];exact Qgb l hl N (i+1) _ Aa Aa Ag
theorem Qwk(l:List Int)(hl:l.length<=1000):T (Xt l) λr=>r.1<=8*l.length:=by grind[Xt,Qgb,fY]
theorem Cn(h:T6 f):T (az f) λr=>r.1.length<=1100:=by
 have q:∀l:List Int,l.length<=4->T (Xt l) λr=>r.1.length<=32:=λl d=>(Qwk l Aa).mono λy n=>Aa
 have a:∀l:List Int,l.length<=4->T (Ld (Xt l) λt=>K2 (t.1,())) λr=>r.1.length<=1100:=λl d=>(q l d).bind λt m=>T.pure Ai;have c:∀l:List Int,l.length<=4->T (Ld (Xt l) λt=>Ze (t.1+(f:IO)<=Ym)<|some (t.1++(f:IO),())) λr=>r.1.length<=1100:=λl d=>(q l d).bind λt m=>by
  grind[T6,T.guard,Ym,T.pure]
 have e:∀k,T (We f k) λr=>r.1.length<=1100:=λk=>T.if (c _ Ac) (c _ Ac);have g:∀k,T (Wf f k) λr=>r.1.length<=1100:=λk=>a _ Ac;have i:∀b,T (Yz f b) λr=>r.1.length<=1100:=λb=>T.if (a _ Ac) (T.if (g _) (g _));have j:∀k b,T (Xd f k b) λr=>r.1.length<=1100:=λk b=>T.if (a _ Ac) (T.if (i _) (i _));unfold az;exact(OF h).bind λt _=>T.if (T.pure Ac) (T.if (a _ Ac) (T.if (a _ Ac) (T.if (T.if (e _) (e _)) (T.if (j _ _) (j _ _)))))
theorem Qat(l:List Zj)(h:jN l):∀(N i:Nat)(s:Ba),l-i<N->i<=l->s<=1100*i->T (Yp N l s (i:Int)) λr=>r.1.length<=400
 |0,_,_,h,_,_=>Aa
 |N+1,i,s,b,c,d=>by
  have e:=h.1;unfold Yp;refine T.ite (λa=>?_) λ_=>T.ite (λ_=>T.pure Ac) λh=>T.pure Ag;have a:=pE a;refine T.guard Aa ((Cn (h.2 _ (Z7))).bind λt f=>T.if (T.pure Ac) (T.guard Al ?_));rw[Zs (m:=l)];exact Qat l h N (i+1) _ Aa Aa Ag
theorem Qtr{l:List Zj}(h:jN l):T (bU l) λr=>r.1.length<=400:=by grind[bU,Qat,dp]
theorem Qx9(l:List Zp)(hl:l.length<=1000000)(n:Int):T (mK l n) λr=>r.1<=l.length:=by
 have c:∀(N i:Nat)(o:List Zp),l-i<N->i<=l->o<=i->T (Vw N l n o (i:Int)) λr=>r.1<=l.length:=by
  intro N
  induction N with
  |zero=>omega
  |succ N d=>
   intro i o e f b;unfold Vw gH gM;refine T.ite (λa=>?_) λ_=>T.pure Ai;have a:=pE a;have j:∀o,o.length<=i+1->T (fN (λv=>Vw N v.1 v.2.1 v.2.2.1 v.2.2.2.1) l n o (i:Int)) λr=>r.1<=l.length:=λo b=>by
    grind[fN,Zs]
   exact T.guard Aa (T.if (T.guard Aa (T.guard Aj (j _ Ae))) (j _ Aa))
 grind[mK,iZ]
theorem Z2z(n:Int){K:Nat}(h25:25<=K)(hK:K<=400000):∀(N m:Nat)(c:Zf),m<N->(c:Id)+m<=24->Qb K c->T (eg N c n ((m:Int)-1)) λr=>Qb K r.2.1
 |0,_,_,h,_,_=>Aa
 |N+1,0,c,_,_,h=>by
  simp_all[eg,T.pure]
 |N+1,m+1,c,d,f,h=>by
  unfold eg;simp only[Xm,Yb];refine T.ite (λ_=>(wY _ _ _ _).bind λs a=>?_) λh=>Af
  unfold za tD;have e:Lb.wrap (((m+1:Nat):Int)-1-1)=(m:Int)-1:=Ao
  rw[e];obtain⟨y,e,g,b⟩:=Z6x h.str (a.mono (L7 K));rw[e,pA];exact Z2z n h25 hK N m _ Aa Ai ⟨⟨Ai,b⟩,h.pk⟩
theorem Qmh(h25:25<=K)(hK:K<=400000)(h:Qb K c)(n:Int)(m:Nat)(hm:(c:Id)+m<=24):T (XS c n (m:Int)) λr=>Qb K r.2.1:=by grind[XS,Zr,Z2z,nI]
theorem inT(n a b:Int):T (Z8 n a b) λr=>r.1=K4->a<=n/\n<=b:=⟨_,Ot n a b,λh=>by simpa using h⟩
theorem Qmb(a:Jl):T (aB a) λr=>r.1=K4->a.2.1<=1152921504606846976/\0<=a.2.2.1/\a.2.2.1<=a.2.1:=by
 unfold aB;have B:∀{b:Bool}{n l h:Int}{β:Type}{f:Bool×Unit->Option β}{R:β->Prop},(∀r:Bool×Unit,(r.1=K4->l<=n/\n<=h)->T (f r) R)->T (Ld (cond b (Z8 n l h) (K2 (Lc,()))) f) R:=λk=>T.bind (T.if (inT _ _ _) (T.pure λh=>by cases h)) k;exact(inT _ _ _).bind λc d=>B λe g=>B λi j=>B λm o=>T.pure λh=>by
  simp_all
theorem Qjt(a:Jl)(n:Int):T (oh a n) λr=>0<=r.2.1/\r.2.1<=1152921504606846976:=by
 unfold oh tP;refine(Qmb a).bind λt b=>T.ite (λ_=>T.pure Ac) λc=>T.pure ?_
 grind[Zr]
theorem ZQ(h:Qb K c)(h25:25<=K)(hK:K<=400000)(i:Int):T (Wr c i) λr=>Qb K r.1:=by
 have p:=h.str.len;have d:∀t x (n:Nat),x.2.2.2.1+n<=24->Qb K x->T (ag i t x (n:Int)) λr=>Qb K r.1:=λt x n f hx=>by
  unfold ag;exact(Qmh h25 hK hx i n f).bind λr l=>T.pure l
 have m:∀t b n g,0<=n->n<=1152921504606846976->T (cB i c t c b n g) λr=>Qb K r.1:=λt b n g o q=>by
  unfold cB tB tC;refine T.ite (λ_=>T.pure h) λs=>?_;have f:(c:Id)+n<=24:=by
   grind[Zr]
  obtain⟨n,rfl⟩:=L9 o;exact(JU i).bind λt _=>T.if (d _ _ n Ai (by exact⟨h.str,h.pk⟩)) (d _ _ n Ai (by exact⟨h.str,h.pk⟩))
 have j:∀t a,T (Kl i c t c a) λr=>Qb K r.1:=λt a=>by
  unfold Kl;simp only[Xm,Yb];exact(mT (Qp0 i)).bind λt _=>(Qjt _ _).bind λt k=>m _ _ _ _ k.1 k.2
 unfold Wr gG;rw[Y8 h,pA];exact(FO h).bind λt _=>T.bind (Q:=λ_=>True) (T.if T.tt (P4 i)) λt _=>T.if (T.pure h) (T.bind (Q:=λ_=>True) (mT (by obtain⟨v,e,-⟩:=Iq (c:Id) i (by omega);exact⟨v,e⟩)) λt _=>T.if (T.pure h) ((vR _ _).bind λt _=>T.if (T.pure h) ((JU i).bind λt _=>T.if (j _ _) (j _ _))))
theorem Z65(w:Qp)(n:Int):TT (og w n):=by unfold og tD;exact(mT (PQ w)).bind λt _=>T.if T.tt T.tt
theorem Qgt(h:Qb K x)(hs:Xx K s)(hK:K<=1000000)(e:Int):T (rG x s e) λr=>Qb K r.2.1/\Xx K r.2.2.1:=by
 have a:TT (td (s:Fd) e):=by
  unfold td;exact(mT (vo hs.rcv hK)).bind λt _=>T.bind (Q:=λ_=>True) (T.if T.tt (P4 _)) λt _=>T.if T.tt T.tt
 unfold rG tH tU;exact a.bind λt _=>T.if (T.pure ⟨h,hs⟩) ((Z65 _ _).bind λt _=>(Z65 _ _).bind λt _=>T.if (T.pure ⟨h,hs⟩) (T.pure ⟨⟨h.str,h.pk⟩,hs.snd,hs.rcv⟩))
theorem LL(s:Bool)(n:Int):TT (V4 s n):=mT (Qf1 s n)
theorem Hx(s:Bool)(n:Int):TT (Y9 s n):=mT (Z1o s n)
theorem Qdt(h:Qb K c)(hf:T6 f)(h25:25<=K)(hK:K<=390000):T (mz c f) λr=>Qb (K+(f:IO)+2) r.1.1:=by
 have m:=h.mono (K':=K+(f:IO)+2) Aa;have a:∀v:Int,T (Ld (Qf c) λt=>K2 ((t.1,v,()),())) λr=>Qb (K+(f:IO)+2) r.1.1:=λv=>by
  grind[Y8,T.pure]
 unfold mz gG tD;refine(FO h).bind λt _=>T.bind (Q:=λ_=>True) (T.if T.tt (OF hf)) λt _=>T.if (a 7) ((Hx _ _).bind λt _=>T.if (a 5) ((ZQ h h25 Aa _).bind λx hx=>T.if (a _) ((ze hx Aa _).bind λs b=>?_)));obtain⟨r,v,e,g⟩:=N8 b.rcv (f:LT) (f:IO) (f:Zas) At;rw[e,pA];unfold T6 at hf;exact(Qgt hx b Aa _).bind λy d=>T.if (a _) (T.if (a _) ((qD (K':=K+(f:IO)+1) d.1 (by exact⟨d.2.snd.mono (by omega),g.mono (by omega)⟩)).bind λt i=>T.pure (i.mono Aa)))
theorem Qa5(h:Qb K c)(hf:T6 f)(h25:25<=K)(hK:K<=390000):T (kO c f) λr=>Qb (K+(f:IO)+2) r.1.1:=by
 have m:=h.mono (K':=K+(f:IO)+2) Aa;have a:∀v:Int,T (Ld (Qf c) λt=>K2 ((t.1,v,()),())) λr=>Qb (K+(f:IO)+2) r.1.1:=λv=>by
  grind[Y8,T.pure]
 unfold kO gG;refine(FO h).bind λt _=>T.bind (Q:=λ_=>True) (T.if T.tt (OF hf)) λt _=>T.if (a 7) ((Hx _ _).bind λt _=>T.if (a 5) ((ZQ h h25 Aa _).bind λx hx=>T.if (a _) ((ze hx Aa _).bind λs b=>?_)));obtain⟨r,v,e,i⟩:=eV b.rcv Aa (f:Zap) (f:Zax);rw[e,pA];have j:∀(t x:Zf)(s:Zh),Qb K x->Xx K s->T (dT t x s r) λr=>Qb (K+(f:IO)+2) r.1.1:=λt x s hx b=>by
  unfold dT tD;exact(qD hx (by exact⟨b.snd,i⟩) (Lo _)).bind λt k=>T.pure (k.mono Aa)
 exact(Qgt hx b Aa _).bind λy d=>T.if (a _) (T.if (a _) (T.if ((Qgu d.1 d.2 _).bind λz g=>j _ _ _ g.1 g.2) (j _ _ _ d.1 d.2)))
theorem Qdu(h:Qb K c)(hf:T6 f)(h25:25<=K)(hK:K<=390000):T (mA c f) λr=>Qb (K+(f:IO)+2) r.1.1:=by
 have m:=h.mono (K':=K+(f:IO)+2) Aa;have b:∀v:Int,T (Ld (Qf c) λt=>K2 ((t.1,v,()),())) λr=>Qb (K+(f:IO)+2) r.1.1:=λv=>by
  grind[Y8,T.pure]
 unfold mA gG tW;refine(FO h).bind λt _=>T.bind (Q:=λ_=>True) (T.if T.tt (OF hf)) λt _=>T.if (b 7) ((LL _ _).bind λt _=>T.if (b 5) ((ZQ h h25 Aa _).bind λx hx=>T.if (b _) ((ze hx Aa _).bind λs a=>?_)));obtain⟨r,v,e,d⟩:=VE a.snd (f:Zap);rw[e,pA];have j:∀(t x:Zf)(s:Zh),Qb K x->Xx K s->T (fF t x s) λr=>Qb (K+(f:IO)+2) r.1.1:=λt x s hx a=>by
  unfold fF;exact(qD hx a (Lo _)).bind λt g=>T.pure (g.mono Aa)
 exact T.if (j _ _ _ hx (by exact⟨d,a.rcv⟩)) (j _ _ _ hx a)
theorem Zyt(c:Jl)(n:Int):TT (jg c n):=by unfold jg gG;exact(mT (RD c)).bind λt _=>T.bind (Q:=λ_=>True) (T.if T.tt (P4 _)) λt _=>T.if T.tt T.tt
theorem Zys(c:aP)(n:Int):TT (jf c n):=by unfold jf;exact(mT (MW c)).bind λt _=>T.if T.tt T.tt
theorem Qa4(h:Qb K c)(hf:T6 f)(h25:25<=K)(hK:K<=390000):T (kN c f) λr=>Qb (K+(f:IO)+2) r.1:=by
 have m:=h.mono (K':=K+(f:IO)+2) Aa;have a:∀v:Int,T (Ld (Qf c) λt=>K2 (t.1,v,())) λr=>Qb (K+(f:IO)+2) r.1:=λv=>by
  grind[Y8,T.pure]
 have d:∀t x,Qb (K+(f:IO)+2) x->T (qk t x) λr=>Qb (K+(f:IO)+2) r.1:=λt x hx=>T.pure hx;have e:∀t b,T (kX c f t b) λr=>Qb (K+(f:IO)+2) r.1:=λt b=>by
  unfold kX tD tP;exact T.if (a _) ((ZQ h h25 Aa _).bind λx hx=>T.if (a _) (T.if ((ze hx Aa _).bind λs g=>(Zyt _ _).bind λt _=>(Jb hx.str (by exact⟨g.snd,g.rcv⟩) (Lo _)).bind λq n=>d _ _ ((hx.up Aa n).mono Aa)) (d _ _ (hx.mono Aa))))
 have o:T (yB c f) λr=>Qb (K+(f:IO)+2) r.1:=by
  unfold yB;exact(LL _ _).bind λt _=>T.if ((Hx _ _).bind λt _=>e _ _) (e _ _)
 have i:∀t x,Qb (K+(f:IO)+2) x->T (jt t x) λr=>Qb (K+(f:IO)+2) r.1:=λt x hx=>T.pure hx;have j:∀t b,T (dS c f t c b) λr=>Qb (K+(f:IO)+2) r.1:=λt b=>by
  unfold dS;exact T.if (o.bind λr p=>T.pure p) (T.pure m)
 have l:∀t k b,T (dR c f t c k b) λr=>Qb (K+(f:IO)+2) r.1:=λt k b=>by
  unfold dR;exact T.if (T.pure m) (T.if (j _ _) (j _ _))
 unfold kN gG tG tH tM;rw[Y8 h,pA];exact(FO h).bind λt _=>T.bind (Q:=λ_=>True) (T.if T.tt (OF hf)) λt _=>T.if (T.pure m) (T.if ((Zyt _ _).bind λt _=>T.pure (by exact⟨m.str,m.pk⟩)) (T.if (T.if ((Zys _ _).bind λt _=>i _ _ (by exact⟨m.str,m.pk⟩)) ((Zys _ _).bind λt _=>i _ _ (by exact⟨m.str,m.pk⟩))) (T.if (l _ _ _) (l _ _ _))))
theorem Zyc(h:Qb K c)(hf:T6 f)(h25:25<=K)(hK:K<=390000):T (kM c f) λr=>Qb (K+(f:IO)+2) r.1.1:=by have b:∀t x e,Qb (K+(f:IO)+2) x->T (aS t x e) λr=>Qb (K+(f:IO)+2) r.1.1:=λt x e hx=>T.pure hx;unfold kM;rw[Y8 h,pA];exact T.if ((Qdt h hf h25 hK).bind λr a=>b _ _ _ a) (T.if ((Qa5 h hf h25 hK).bind λr a=>b _ _ _ a) (T.if ((Qdu h hf h25 hK).bind λr a=>b _ _ _ a) ((Qa4 h hf h25 hK).bind λr a=>b _ _ _ a)))
theorem Qbu(h:Qb K c)(hK:K<=1000000)(n:Int):T (od c n) λr=>jN r.1.2.1:=by
 have g:=h.pk.1;have j:∀(t:Qa)(N i:Nat),(c:Zac).length-i<N->i<=(c:Zac).length->T (fL N n c t (i:Int)) λr=>jN r.1.2.1:=by
  intro t N
  induction N with
  |zero=>intro i h;omega
  |succ N k=>
   intro i l m;unfold fL gH gI;refine T.ite (λa=>?_) λa=>T.pure ⟨L7 _,λf e=>by cases e⟩;have a:=pE a;have b:=h.pk.2 _ (Z7 (d:=Xq) (show i<(c:Zac).length by omega));refine T.guard Aa (T.if (T.guard Aa (T.guard ?_ (T.pure b))) ?_)
   ·have:=b.1;unfold Qg;simp_all<;>omega
   grind[Zs]
 grind[od,l6]
theorem Qgv(h:Qb K c)(hK:K<=1000000)(n:Int):T (rK c n) λr=>Qb K r.2.1:=by
 have f:=h.pk.1;have e:∀(N i:Nat)(o:List Qa),(c:Zac).length-i<N->i<=(c:Zac).length->LK i o->T (bH N c n o (i:Int)) λr=>Qb K r.2.1:=by
  intro N
  induction N with
  |zero=>omega
  |succ N g=>
   intro i o k l a;unfold bH gH gI tJ;refine T.ite (λb=>?_) λb=>T.pure ⟨h.str,a.mono Aa⟩;have b:=pE b;have m:=h.pk.2 _ (Z7 (d:=Xq) (show i<(c:Zac).length by omega));have j:∀o,LK (i+1) o->T (mL (λv=>bH N v.1 v.2.1 v.2.2.1 v.2.2.2.1) c n o (i:Int)) λr=>Qb K r.2.1:=λo a=>by
    grind[mL,Zs]
   exact T.guard Aa (T.if (T.guard Aa (T.guard (by have:=a.1;grind[Qg]) (j _ ⟨by have:=a.1;simp;omega,λp hp=>by
    rcases Mn.1 hp with hp|hp
    ·exact a.2 p hp
    simp_all⟩))) (j _ (a.mono Aa)))
 unfold rK;exact e _ 0 _ (by simp[nM]) Aa ⟨Ac,Ac⟩
theorem Qkb(f:Zj):TT (Vr f):=by
 have j:∀b,TT (Kv b):=λb=>by simp_all[Kv,T.if,T.tt]
 unfold Vr
 grind
theorem Qp7(h:Qb K x)(hK:K+1<=500000)(f:Zj):T (xw x f) λr=>Qb (K+1) r.2.1:=by
 have m:=h.mono (K':=K+1) Aa;have c:∀s,Xx K s->T (ao x s) λr=>Qb (K+1) r.2.1:=λs a=>by
  unfold ao tD;exact(Jb h.str a (Lo _) hK).bind λt d=>T.pure (h.up Aa d)
 have g:∀s b,Xx K s->T (so x f s b) λr=>Qb (K+1) r.2.1:=λs b a=>by
  unfold so gG tB tC tE tT;refine T.bind (Q:=λ_=>True) (T.if T.tt (Qkb f)) λt _=>T.if (T.pure m) (T.if ?_ (T.if (c _ (by exact⟨a.snd,a.rcv⟩)) (T.if (c _ (by exact⟨a.snd,a.rcv⟩)) (T.if (c _ (by exact⟨a.snd,a.rcv⟩)) (c _ a)))));refine T.bind (Q:=λ_=>True) ⟨_,rfl,trivial⟩ λp _=>?_;obtain⟨y,e,i⟩:=Fa a.snd p.1;rw[e,pA];exact c _ ⟨i,a.rcv⟩
 unfold xw tE tN tO;simp only[Xm,Yb];exact T.if (T.pure (by exact⟨m.str,m.pk⟩)) (T.if (T.if (T.pure (by exact⟨m.str,m.pk⟩)) (T.pure (by exact⟨m.str,m.pk⟩))) ((ze h Aa _).bind λs a=>g _ _ a))
theorem Quc(h:Qb K x)(hK:K+1<=500000)(f:Zj):T (z8 x f) λr=>Qb (K+1) r.2.1:=by
 have m:=h.mono (K':=K+1) Aa;have c:∀s,Xx K s->T (br x s) λr=>Qb (K+1) r.2.1:=λs a=>by
  unfold br;exact(qD h a (Lo _) hK).bind λt g=>T.pure g
 have i:∀s b,Xx K s->T (wn x f s b) λr=>Qb (K+1) r.2.1:=λs b a=>by
  unfold wn gG tB tT tW;refine T.bind (Q:=λ_=>True) (T.if T.tt (Qkb f)) λt _=>T.if (T.pure m) (T.if ?_ (T.if ?_ (T.if (c _ (by exact⟨a.snd,a.rcv⟩)) (c _ a))))
  ·refine T.bind (Q:=λ_=>True) ⟨_,rfl,trivial⟩ λp _=>?_;obtain⟨y,e,d⟩:=l7 a.snd p.1;rw[e,pA];exact c _ ⟨d,a.rcv⟩
  ·obtain⟨y,j,e,d⟩:=Qkg a.snd Aa;rw[e,pA];exact T.if (c _ (by exact⟨d,a.rcv⟩)) (c _ (by exact⟨d,a.rcv⟩))
 unfold z8;simp only[Xm,Yb];exact(ze h Aa _).bind λs a=>i _ _ a
theorem Qd7(h:Qb K c)(hK:K<=400000)(n:Int):T (mF c n) λr=>Qb (K+1000) r.1.1:=by
 have m:=h.mono (K':=K+1000) Aa;unfold mF;rw[Y8 h,pA];refine(Qbu h Aa n).bind λp b=>(KY h).bind λt _=>T.if (T.pure m) ((Qgv h Aa n).bind λx hx=>?_);have f:=b.1;have g:∀(t:Zf)(N i:Nat)(x:Zf),p.1.2.1.length-i<N->i<=p.1.2.1.length->Qb (K+i) x->T (bW N t x p.1 (i:Int)) λr=>Qb (K+1000) r.1.1:=by
  intro t N
  induction N with
  |zero=>omega
  |succ N d=>
   intro i x j k hx;unfold bW;refine T.ite (λa=>?_) λa=>T.pure (hx.mono Aa);have a:=pE a;refine T.guard Aa ((Qp7 hx Aa _).bind λy e=>?_);rw[Zs (m:=p.1.2.1.length)];exact d (i+1) _ Aa Aa e
 grind[cG]
theorem Qh7(h:Qb K c)(hK:K<=400000)(n:Int):T (py c n) λr=>Qb (K+1000) r.1.1:=by
 have m:=h.mono (K':=K+1000) Aa;unfold py;rw[Y8 h,pA];refine(Qbu h Aa n).bind λp b=>(KY h).bind λt _=>T.if (T.pure m) ((Qgv h Aa n).bind λx hx=>?_);have f:=b.1;have g:∀(t:Zf)(N i:Nat)(x:Zf),p.1.2.1.length-i<N->i<=p.1.2.1.length->Qb (K+i) x->T (di N t x p.1 (i:Int)) λr=>Qb (K+1000) r.1.1:=by
  intro t N
  induction N with
  |zero=>omega
  |succ N d=>
   intro i x j k hx;unfold di;refine T.ite (λa=>?_) λa=>T.pure (hx.mono Aa);have a:=pE a;refine T.guard Aa ((Quc hx Aa _).bind λy e=>?_);rw[Zs (m:=p.1.2.1.length)];exact d (i+1) _ Aa Aa e
 grind[dj]
theorem Z6l(n:Int):TT (JG n):=(Gs _ _ _).bind λt _=>T.if T.tt T.tt
theorem Z6j(n:Int):TT (JF n):=(Gs _ _ _).bind λt _=>T.if T.tt T.tt
theorem Qee(n:Int):TT (ig n):=(P4 _).bind λt _=>T.if T.tt T.tt
theorem Qeh(n m:Int):TT (ii n m):=by obtain⟨c,b,e⟩:=Z6m n m;exact⟨_,e,trivial⟩
theorem Qb.zero(h1:(c:Id)=[])(h2:(c:Zac)=[]):Qb 0 c:=⟨⟨by rw[h1];simp,by rw[h1];simp⟩,by rw[h2];simp,by rw[h2];simp⟩
theorem Qm6(v:Bool)(o p:av):T (xq v o p) λr=>Qb 0 r.1:=by unfold xq gG;exact(mT (v8 o)).bind λt _=>T.bind (Q:=λ_=>True) (T.if T.tt (mT (v8 p))) λt _=>T.if (T.pure (Qb.zero rfl rfl)) ((Qee _).bind λt _=>(Qeh _ _).bind λt _=>(Z6l _).bind λt _=>(Z6l _).bind λt _=>(Z6j _).bind λt _=>(Z6j _).bind λt _=>T.pure (Qb.zero rfl rfl))
theorem PN(r:Zi):QK r=K2 (iO r,()):=rfl
theorem Zit(l:List Zi)(hl:l.length<=1048576):∀(N i:Nat),l.length-i<N->i<=l.length->oW N l l (l.length:Int) (i:Int)=cD N l (i:Int)
 |0,_,h,_=>Aa
 |N+1,i,d,e=>by
  rw[oW,cD];by_cases c:i<l.length
  ·have g:∀{a:Prop},a->K3 ((i:Int)>0)=K4->0<=Lb.wrap ((i:Int)-1)/\Lb.wrap ((i:Int)-1)<(l.length:Int):=λ_ h=>by
    have:=pE h;grind[Zr]
   rw[Zo (Zl),Zo (Zl),Zb,Zb,PN,DU,pA,pA,Zb (λh b=>g h b),Zb (λh b=>g h b),Zb (λ_ _=>Aa),Zs c,Zit l hl N (i+1) Aa Aa]
  grind
theorem xg(l:List Zi)(hl:l.length<=1048576:=by omega):al l=K2 (Hl (-1) l,()):=by
 have e:tw l l (l.length:Int) 0=eY l 0:=rfl;rw[<-eU l hl,al,V9,e]
 grind[Zit,eY]
theorem Z2q(l:List Zi)(hl:l.length<=1048576):∀(N i:Nat)(n:Int),l.length-i<N->i<=l.length->Hl (-1) l=K4->gn N n l (l.length:Int) (i:Int)=Vh N l n (i:Int)
 |0,_,_,h,_,_=>Aa
 |N+1,i,n,d,e,a=>by
  rw[gn,Vh];by_cases b:i<l.length
  ·rw[Zo (Zl),Zo (Zl),Zb,Zb];have c:Lb.wrap (n+Lb.wrap ((l.getD (i:Int).toNat Z3).2.1- (l.getD (i:Int).toNat Z3).1))=Lb.wrap (Lb.wrap (n+(l.getD (i:Int).toNat Z3).2.1)- (l.getD (i:Int).toNat Z3).1):=by
    grind[Ml,Mk]
   rw[c,Zs b,Z2q l hl N (i+1) _ Aa Aa a];simp_all[Zb]
  grind
theorem KO(l:List Zi)(hl:l.length<=1048576:=by omega):db l=K2 (ite (Hl (-1) l=K4) (iw l) (-1),()):=by
 rw[<-jx l hl,db,aX,xg l hl,eU l hl,pA,pA];cases hr:Hl (-1) l
 ·rfl
 ·exact Z2q l hl _ 0 0 (by simp[md]) Aa hr
theorem zH(l:List Zi)(hl:l.length<=1048576:=by omega):am l=K2 (l,()):=by grind[am,Zb,Qg]
theorem Zxv:∀(N:Nat)(pre rest:List Zi)(r:Zi)(out:List Zi),(pre++rest).length<=1048576->rest.length<N->out.length<=pre.length+1->r.1<r.2.1->(∀x∈rest,r.2.1<x.1/\x.1<x.2.1)->
  K6 N r out K4 (pre++rest) ((pre++rest).length:Int) (pre.length:Int)=K2 (out++rest,())
 |0,_,_,_,_,_,h,_,_,_=>Aa
 |N+1,pre,[],r,out,d,b,e,c,hx=>by
  simp_all[K6]
 |N+1,pre,x::rest,r,out,d,b,e,c,hx=>by
  have a:(pre++x::rest).length=pre.length+rest.length+1:=Ae
  simp only[Lf]at b;have f:=hx x Ac;unfold K6;rw[Zo (Zl (by rw[a];omega)),Zb (by rw[a];omega),aH,Zm (Zk),Zo (Zl),Zm (by rfl)];unfold oP;rw[Zb Aj,Zs (m:=pre.length+1)];have i:=Zxv N (pre++[x]) rest r (out++[x]) Ae Aa Ae c (λy g=>hx y (by simp[g]));simp_all
theorem ME:∀(N:Nat)(pre rest:List Zi)(r:Zi)(out:List Zi)(lo:Int),(pre++rest).length<=1048576->rest.length<N->out.length<=pre.length->r.1<r.2.1->Hl lo rest=K4->
  K6 N r out Lc (pre++rest) ((pre++rest).length:Int) (pre.length:Int)=K2 (out++nR rest r,())
 |0,_,_,_,_,_,_,h,_,_,_=>Aa
 |N+1,pre,[],r,out,lo,d,e,k,c,hx=>by
  simp only[M4]at d;unfold K6;rw[Zm Ac,Zo (by rfl),Zb Aj];rfl
 |N+1,pre,x::rest,r,out,lo,d,e,k,c,hx=>by
  have b:(pre++x::rest).length=pre.length+rest.length+1:=Ae
  simp only[Lf]at e;obtain⟨f,l,a⟩:=ia.1 hx;have f:=Xs.1 f;unfold K6;rw[Zo (Zl (by rw[b];omega)),Zb (by rw[b];omega),aH];have o:(pre++[x])++rest=pre++x::rest:=Ac
  have p:((pre++[x]).length:Int)=((pre.length+1:Nat):Int):=Ac
  rw[Zs (m:=pre.length+1)];by_cases g:x.2.1<r.1
  ·rw[Zo (Zl g),Zb Aj];have i:=ME N (pre++[x]) rest r (out++[x]) x.2.1 Ae Aa Ae c a;simp_all[nR]
  ·rw[Zm (Zk g)];by_cases j:x.1>r.2.1
   ·rw[Zo (Zl j),Zo (by rfl),Zb Aj];unfold oP;rw[Zb Aj,Zs (m:=pre.length+1)];have n:=XL a;have i:=Zxv N (pre++[x]) rest r (out++[r]++[x]) Ae Aa Ae c (λy q=>by
     grind[Xs])
    simp_all[nR,if_neg]
   ·rw[Zm (Zk j)];have i:=ME N (pre++[x]) rest (min r.1 x.1,max r.2.1 x.2.1,()) out x.2.1 Ae Aa Ae Ai a;simp_all[nR,if_neg]
theorem BE(l:List Zi)(r:Zi)(hl:l.length<=1048576:=by omega):fS l r=K2 (ite (Hl (-1) l=K4/\iO r=K4) (nR l r) l,()):=by
 unfold fS gG;rw[xg l hl,pA,PN,zH l hl];cases hr:Hl (-1) l
 ·rfl
 ·cases a:iO r
  ·rfl
  ·have a:=Xs.1 a;rw[if_pos ⟨rfl,rfl⟩];have h:=ME (lP r [] Lc l (l.length:Int) 0) [] l r [] (-1) (by simpa using hl) (by simp[lP]) Ac a.2.1 hr;exact h
theorem Qlz(l:List Zi)(hl:l.length<=1048576):∀(N i:Nat)(n:Int),l.length-i<N->i<=l.length->ks N n l (l.length:Int) (i:Int)=aA N l n (i:Int)
 |0,_,_,h,_=>Aa
 |N+1,i,n,c,d=>by
  rw[ks,aA];by_cases b:i<l.length
  ·have a:=λn=>Qlz l hl N (i+1) n Aa Aa;rw[Zo (Zl),Zo (Zl),Zb,Zb,Zs b,a,a]
   grind[Zb,qe,Zs]
  grind
theorem Z56(l:List Zi)(f:Int)(hl:l.length<=1048576:=by omega):sx l f=K2 (ite (Hl (-1) l=K4/\0<=f) (SV l f) (-1),()):=by
 rw[<-Ef l f hl,sx,oa,xg l hl,eU l hl,pA,pA];cases (!Hl (-1) l)||K3 (f<0)
 ·exact Qlz l hl _ 0 f (by simp[tv]) Aa
 ·rfl
def VA(l:List Int):Bool:=l.all λn=>K3 (n>=0)&&K3 (n<=255)
theorem N7(r:Q9)(hl:(r:SW).length<=1048576):∀(N i:Nat),(r:SW)-i<N->i<=(r:SW)->lE N r (i:Int)=K2 (VA ((r:SW).drop i),())
 |0,_,h,_=>Aa
 |N+1,i,b,c=>by
  rw[lE];by_cases a:i<(r:SW)
  ·rw[Zo (Zl),Zb,Ot,pA,Zs a,N7 r hl N (i+1) Aa Aa,show(i:Int).toNat=i from rfl,Q1 (d:=0) a]
   grind[VA]
  ·rw[Zm (Zk),Lr Aa];rfl
theorem bc(n a b:Int):Zy n a b=K2 (K3 (n>=a)&&K3 (n<=b),()):=rfl
theorem Qhl(l:List Int)(hl:l.length<=1048576)(u:Unit):∀(N i:Nat),l-i<N->i<=l-> ∃k,Yi N l u l (i:Int)=K2 (k,())/\K3 (k>=0)= !VA (l.drop i)
 |0,_,h,_=>Aa
 |N+1,i,f,g=>by
  rw[Yi];by_cases a:i<l
  ·have e:HP (l.getD i 0)=K2 (!(K3 (l.getD i 0>=0)&&K3 (l.getD i 0<=255)),()):=rfl;rw[Zo (Zl),Zb,show(i:Int).toNat=i from rfl,e,pA,Zs a,Q1 (d:=0) a];obtain⟨k,b,c⟩:=Qhl l hl () N (i+1) Aa Aa;cases hc:K3 (l.getD i 0>=0)&&K3 (l.getD i 0<=255)
   ·exact⟨_,rfl,by grind[VA]⟩
   ·exact⟨k,b,by rw[c];simp only[VA,Mu,hc,pJ]⟩
  simp_all[Zk,Lr,VA]
theorem DO(r:Q9)(hl:(r:SW).length<=1048576):qu r=cE r:=by
 unfold qu gG cE dE mq V0 ae;obtain⟨k,a,b⟩:=Qhl (r:SW) hl () (Y0 (r:SW) () (r:SW) 0) 0 (by simp[Y0]) Aa;have c:=N7 r hl (aT r 0) 0 (by simp[aT]) Aa;simp only[L5,Mf]at a b c;have e:Xk r.2.1=K2 (K3 (r.2.1>=0)&&K3 (r.2.1<=4611686018427387903),()):=rfl;simp only[a,b,c,bc,e,pA];have d:K3 (r.1>=1)=K3 (r.1>0):=by congr 1
 rw[d];generalize f:((K3 (r.1>0)&&K3 (r.1<=64))&&(bits .and .i64 r.1 (Lb.wrap (r.1-1))==0))=A;generalize ((r:SW) !=r.1)=B;cases A
 ·rfl
 cases B
 ·simp only[pI,Ll,pH,pA,Le];simp only[pC,decide_eq_true_eq]at f;generalize VA (r:SW)=C;by_cases g:0<=r.2.1/\r.2.1<=(r:Zab)/\(r:Zab)<=4611686018427387903
  ·obtain⟨i,h,j⟩:=g;rw[Zr (n:=(r:Zab)-r.2.1),Zr (n:=r.2.1+r.1),Zl (p:=r.2.1>=0),Zl (p:=r.2.1<=4611686018427387903),Zk (p:=r.2.1<0),Zk (p:=(r:Zab)<r.2.1),Zk (p:=(r:Zab)>4611686018427387903),Zl (p:=(r:Zab)>=r.2.1) h]
   grind
  ·have l:((((K3 (r.2.1<0))||(K3 ((r:Zab)<r.2.1)))||(K3 ((Lb.wrap ((r:Zab)-r.2.1))>r.1)))||(K3 ((r:Zab)>4611686018427387903)))=true:=by
    grind
   have m:((K3 (r.2.1>=0)&&K3 (r.2.1<=4611686018427387903))&&(K3 ((r:Zab)>=r.2.1)&&K3 ((r:Zab)<=min (Lb.wrap (r.2.1+r.1)) 4611686018427387903)))=false:=by
    grind
   grind
 ·rfl
def O5(S:Int)(l:List Zi):Bool:=l.all λx=>K3 (x.2.1<=S)
def D0(s:Zn):Int:=match dF s with|some (k,_)=>k|none=>0
theorem Gz(s:Zn):dF s=K2 (D0 s,()):=by
 obtain⟨k,e⟩:=IL s
 grind[D0]
theorem jP(s:Zn)(h0:0<=(s:Zaf))(h3:(s:Zaf)<=3):lq s=K2 (D0 s,()):=by
 rw[<-Gz];unfold lq dF
 grind
def jD(s:Zn):Bool:= !((!(((s:Zaf)==(0:Int))==((s:Zam)==(-1:Int))))||(((s:Zam) !=(-1:Int))&&((s:Zam) !=(s:Zad))))
theorem Qxr(s:Zn)(hl:(s:Zag).length<=1048576):∀(N i:Nat),(s:Zag)-i<N->i<=(s:Zag)->fJ N s (i:Int)=K2 (O5 (s:Zal) ((s:Zag).drop i)&&(jD s&&(s.1==D0 s)),())
 |0,_,h,_=>Aa
 |N+1,i,b,e=>by
  rw[fJ];by_cases a:i<(s:Zag)
  ·rw[Zo (Zl),Zb,Zs a,Qxr s hl N (i+1) Aa Aa,show(i:Int).toNat=i from rfl,Q1 (d:=Z3) a]
   grind[O5]
  ·rw[Zm (Zk),Lr Aa,Gz,pA];unfold jD;generalize ((!(((s:Zaf)==(0:Int))==((s:Zam)==(-1:Int))))||(((s:Zam) !=(-1:Int))&&((s:Zam) !=(s:Zad))))=c;cases c<;>rfl
theorem Qxq(s:Zn)(hl:(s:Zae).length<=1048576)(hl2:(s:Zag).length<=1048576):∀(N i:Nat),(s:Zae)-i<N->i<=(s:Zae)->fI N s (i:Int)=K2 (O5 (s:Zal) ((s:Zae).drop i)&&(O5 (s:Zal) (s:Zag)&&(jD s&&(s.1==D0 s))),())
 |0,_,h,_=>Aa
 |N+1,i,b,c=>by
  rw[fI];by_cases a:i<(s:Zae)
  ·rw[Zo (Zl),Zb,Zs a,Qxq s hl hl2 N (i+1) Aa Aa,show(i:Int).toNat=i from rfl,Q1 (d:=Z3) a]
   grind[O5]
  ·rw[Zm (Zk),Lr Aa];exact Qxr s hl2 _ 0 (by simp[lZ]) Aa
def Qyd(a:List Zi)(r:Zi):List Zi:=ite (Hl (-1) a=K4/\iO r=K4) (nR a r) a
def YR(a l:List Zi):List Zi:=l.foldl Qyd a
theorem Gl{E:Int}:∀{l:List Zi}{lo:Int},Hl lo l=K4->(∀x∈l,x.2.1<=E)->l≠[]->iw l<=E-lo-1
 |[],_,_,_,h=>absurd rfl h
 |x::l,lo,h,a,_=>by
  obtain⟨d,e,b⟩:=ia.1 h;have hx:=a x Ac;simp only[iw];rcases l with _|⟨y,l⟩
  ·grind[iw]
  ·have:=Gl b (λz c=>a z (by simp[c])) Ac;omega
theorem Qie{l:List Zi}(h:RL E l)(hc:iw l=E)(h0:0<E):(l.getD 0 Z3).2.1=E:=by
 obtain⟨c,a⟩:=h;rcases l with _|⟨x,l⟩
 ·simp_all[iw]
 ·obtain⟨b,f,d⟩:=ia.1 c;have hx:=a x Ac;have b:=Xs.1 b;simp only[iw]at hc;rcases l with _|⟨y,l⟩
  ·grind[iw]
  ·have:=Gl d (λz e=>a z (by simp[e])) Ac;omega
theorem P0{l:List Zi}(h:RL E l)(h0:0<=E):0<=iw l/\iw l<=E:=by
 have:∀{l:List Zi}{lo:Int},Hl lo l=K4->0<=iw l:=by
  intro l
  induction l with
  |nil=>simp_all[iw]
  |cons x l a=>
   grind[ia,Xs,iw]
 refine⟨this h.1,?_⟩;rcases hl:l with _|⟨x,b⟩
 ·simp_all[iw]
 ·have:=Gl h.1 h.2 (by rw[hl];simp);simp_all
def SA(s:Zn)(all:List Zi):Bool:=(iw all==(s:Zad))&&(iw (s:ST)+iw (s:Zae)+iw (s:Zag)==(s:Zad))
theorem Qxp{K:Int}{s:Zn}(hs:Wp K s)(hK:K<=1000000):∀(N i:Nat)(all:List Zi),RL (Dz s) all->(s:Zag).length-i<N->i<=(s:Zag).length->
  fH N s all (i:Int)=K2 (SA s (YR all ((s:Zag).drop i))&&((SV (s:Zag) 0==s.2.1.2.1)&&(((s:ZaQ)==0)&&(O5 (s:Zal) (s:Zae)&&(O5 (s:Zal) (s:Zag)&&(jD s&&(s.1==D0 s)))))),())
 |0,_,_,_,h,_=>Aa
 |N+1,i,all,a,f,g=>by
  have j:=Qx a hs.e0 hs.eK hK;have k:=Qx hs.pend hs.e0 hs.eK hK;have l:=Qx hs.pT hs.e0 hs.eK hK;have m:=Qx hs.pO hs.e0 hs.eK hK;rw[fH];by_cases h:i<(s:Zag).length
  ·rw[Zo (Zl),Zb,Zs h,mR _ _,pA,Q1 (d:=Z3) h];exact Qxp hs hK N (i+1) _ (qE a (hs.pO.2 _ (Z7 h))) Aa Aa
  ·have o:=P0 hs.pend hs.e0;have p:=P0 hs.pT hs.e0;have q:=P0 hs.pO hs.e0;have b:=hs.eK;rw[Zm (Zk),jx _,jx _,jx _,jx _,Ef _ _,Lr Aa];simp only[pA,a.1,hs.pend.1,hs.pT.1,hs.pO.1,if_true];rw[Zb (λc e=>by
    simp only[Lt,bne_eq_false_iff_eq,decide_eq_true_eq]at c e
    grind[Qae]),Zr (n:=iw (s:ST)+iw (s:Zae)),Zr,show YR all []=all from rfl]
   grind(splits:=20)[Qxq,lY,SA,Qie]
theorem Sg{K:Int}{s:Zn}(hs:Wp K s)(hK:K<=1000000):∀(N i:Nat)(all:List Zi),RL (Dz s) all->(s:Zae)-i<N->i<=(s:Zae)->
  fG N s all (i:Int)=K2 (SA s (YR (YR all ((s:Zae).drop i)) (s:Zag))&&((SV (s:Zag) 0==s.2.1.2.1)&&(((s:ZaQ)==0)&&(O5 (s:Zal) (s:Zae)&&(O5 (s:Zal) (s:Zag)&&(jD s&&(s.1==D0 s)))))),())
 |0,_,_,_,h,_=>Aa
 |N+1,i,all,a,b,c=>by
  have e:=Qx a hs.e0 hs.eK hK;have f:=Qx hs.pT hs.e0 hs.eK hK;rw[fG];by_cases h:i<(s:Zae)
  ·rw[Zo (Zl),Zb,Zs h,mR _ _,pA,Q1 (d:=Z3) h];exact Sg hs hK N (i+1) _ (qE a (hs.pT.2 _ (Z7 h))) Aa Aa
  ·rw[Zm (Zk),Lr Aa];have:=Qxp hs hK (eZ s all 0) 0 all a (by simp[eZ]) Aa;simp only[L5,Mf]at this;exact this
theorem Qh5{K:Int}{s:Zn}(hs:Wp K s)(hK:K<=1000000)(t:List Zi)(ht:t.length<=3000000)(hE:∀x∈t,x.2.1<=(s:Zad)):∀(N i:Nat)(all:List Zi),RL (Dz s) all->t-i<N->i<=t->
  pd N (s:Zad) all t t (i:Int)=K2 (iw (YR all (t.drop i))==(s:Zad),())
 |0,_,_,_,h,_=>Aa
 |N+1,i,all,a,c,e=>by
  have f:=Qx a hs.e0 hs.eK hK;rw[pd];by_cases h:i<t
  ·rw[Zo (Zl),Zb,Zs h,BE _ _,pA,Q1 (d:=Z3) h];exact Qh5 hs hK t ht hE N (i+1) _ (qE a (hE _ (Z7 h))) Aa Aa
  ·rw[Zm (Zk),Lr Aa,KO _];simp only[a.1,if_true,pA];unfold jb gK;rw[Zb (λh=>by
    have:=pE h
    grind[Zr])]
   have b:((K3 ((all:Int)>0))&&(K3 ((all.getD (Lb.wrap (all-1)).toNat Z3).2.1>(s:Zad))))=false:=by
    by_cases g:(all:Int)>0
    ·rw[Zr];have:=a.2 _ (Z7 (l:=all) (i:=((all:Int)-1).toNat) (d:=Z3));simp_all
    simp_all
   rw[b,show YR all []=all from rfl];simp_all
theorem Qrz{lo S:Int}:∀{l:List Zi},Hl lo l=K4->O5 S l= !((K3 ((l:Int)>0))&&(K3 ((l.getD (l-1) Z3).2.1>S)))
 |[],_=>rfl
 |[x],_=>by
  simp only[O5,Mu,List.all_nil,Mz,Nr,Nat.sub_self,Mv]
  grind
 |x::y::l,h=>by
  obtain⟨c,d,a⟩:=ia.1 h;have f:=Qrz (S:=S) a;have b:=ia.1 a;have g:=Xs.1 b.1;have e:(x::y::l).getD ((x::y::l)-1) Z3=(y::l).getD ((y::l)-1) Z3:=Ac
  rw[e];have i:O5 S (x::y::l)=(K3 (x.2.1<=S)&&O5 S (y::l)):=rfl
  grind[O5]
theorem Z17{l:List Zi}(h:Hl lo l=K4)(hl:l.length<=1048576)(S:Int):jb l S=K2 (!O5 S l,()):=by
 unfold jb gK;simp only;rw[Zb (λh=>by
  have:=pE h
  grind[Zr]),Qrz h (S:=S),Bool.not_not]
 by_cases a:(l:Int)>0
 ·rw[Zr,show((l:Int)-1).toNat=l-1 by omega]
 simp_all
theorem xh{K:Int}{s:Zn}(hs:Wp K s)(hK:K<=1000000:=by omega):nW s=Km s:=by
 have k:=Qx hs.pend hs.e0 hs.eK hK;have l:=Qx hs.pT hs.e0 hs.eK hK;have m:=Qx hs.pO hs.e0 hs.eK hK;have d:=(AF s.2.1 (by have:=hs.cells;omega)).1;have o:=P0 hs.pend hs.e0;have p:=P0 hs.pT hs.e0;have q:=P0 hs.pO hs.e0;have e:=hs.eK;have b:=Sg hs hK (Jr s (s:ST) 0) 0 (s:ST) hs.pend (by simp[Jr]) Aa;simp only[L5,Mf]at b;have w1:KW (s:ST) (s:Zae) (s:Zag) (s:Zad)=K2 (SA s (YR (YR (s:ST) (s:Zae)) (s:Zag)),()):=by
  unfold KW;rw[KO _,KO _,KO _,zH _,zH _];simp only[hs.pend.1,hs.pT.1,hs.pO.1,if_true,pA];rw[Zr (n:=iw (s:ST)+iw (s:Zae)),Zr,Zb Aj];have:=Qh5 hs hK ((s:Zae)++(s:Zag)) Ae (λx hx=>by
   rcases Mn.1 hx with hx|hx
   ·exact hs.pT.2 x hx
   ·exact hs.pO.2 x hx) (lR (s:Zad) (s:ST) ((s:Zae)++(s:Zag)) ((s:Zae)++(s:Zag)) 0) 0 (s:ST) hs.pend (by grind[lR]) Aa
  grind[SA,YR]
 have c:∀f,0<=(s:Zaf)->(s:Zaf)<=3->oX s f=K2 (SA s (YR (YR (s:ST) (s:Zae)) (s:Zag))&&((SV (s:Zag) 0==s.2.1.2.1)&&(((s:ZaQ)==0)&&(O5 (s:Zal) (s:Zae)&&(O5 (s:Zal) (s:Zag)&&(((s:Zam)==f)&&(s.1==D0 s)))))),()):=λf g h=>by
  unfold oX;rw[w1,Z56 _ _,Z17 hs.pT.1 Aa,Z17 hs.pO.1 Aa,jP s g h];have r:(ite (Hl (-1) (s:Zag)=K4/\(0:Int)<=0) (SV (s:Zag) 0) (-1))=SV (s:Zag) 0:=if_pos ⟨hs.pO.1,Lg _⟩
  grind
 unfold nW gG Km gG;rw[DO _ (by have:=hs.cells;omega),d,eU _,eU _,eU _,xg _,xg _,xg _,b];have i:Q0 (s:ZaQ)=K2 (K3 ((s:ZaQ)>=0)&&K3 ((s:ZaQ)<=4611686018427387903),()):=rfl;have j:Xk (s:ZaQ)=K2 (K3 ((s:ZaQ)>=0)&&K3 ((s:ZaQ)<=4611686018427387903),()):=rfl;simp only[hs.pend.1,hs.pT.1,hs.pO.1,i,j,Ot,bc,pA];generalize VF s.2.1=b1;cases b1
 ·rfl
 simp only[pI,pH,pA,Le];generalize (K3 ((s:Zal)>=0)&&K3 ((s:Zal)<=(s:Zad)))=b2;cases b2
 ·rfl
 simp only[pI,pH,pA,Le];generalize (K3 ((s:ZaQ)>=0)&&K3 ((s:ZaQ)<=4611686018427387903))=b3;cases b3
 ·rfl
 simp only[pI,pH,pA,Le];by_cases a:0<=(s:Zaf)/\(s:Zaf)<=3
 ·rw[c _ a.1 a.2,c _ a.1 a.2,show(K3 ((s:Zaf)>=0)&&K3 ((s:Zaf)<=3))=K4 by simp_all];simp only[pI,pH];cases (s.1==(4:Int))||(s.1==(5:Int))
  ·simp only[pH];have t:=hs.e0;have:jD s=(cond ((s:Zaf)==0) ((s:Zam)== -1) ((s:Zam)==(s:Zad))):=by
    grind[jD]
   grind
  grind
 grind
theorem Qkt(l:List Z6)(hl:l.length<=1048576)(ht:nP l<=1000000):∀(N i:Nat)(e:Int),l.length-i<N->i<=l.length-> -1<=e->e<=4611686018427387903->oV N (e+1) l (l.length:Int) (i:Int)=K2 (EF e (l.drop i),())
 |0,_,_,h,_,_,_=>Aa
 |N+1,i,e,g,j,k,m=>by
  rw[oV];by_cases a:i<l.length
  ·have b:=E6 (Z7 (l:=l) (d:=Qr) a);rw[Zo (Zl),Zb,Zs a,show(i:Int).toNat=i from rfl,Q1 (d:=Qr) a];generalize o:l.getD i Qr=c at b;have f:(((c.2.1.length:Int)==0)||K3 (c.1<e+1))=(K3 (c.1<=e)||(c.2.1==([]:Ba))):=by
    rw[Lz];simp only[Ng,beq_iff_eq,decide_eq_true_eq]
    grind[Mw]
   simp only[EF];rw[f,Zr (n:=4611686018427387903- (c.2.1.length:Int))];cases hx:((K3 (c.1<=e)||(c.2.1==([]:Ba)))||K3 (c.1>4611686018427387903- (c.2.1.length:Int)))
   ·simp only[Lt,decide_eq_false_iff_not]at hx;rw[pH];unfold gi;rw[pA];simp only;rw[Zr (n:=c.1+(c.2.1.length:Int)),Zr,Qkt l hl ht N (i+1) (c.1+(c.2.1.length:Int)) Aa Aa Aa Aa];simp
   ·rfl
  ·rw[Zm (Zk),Lr Aa];rfl
theorem Cs(n:Int):Xk n=K2 (jq n,()):=rfl
theorem D5(h:iv K b)(hK:K<=1000000):nV b=K2 (ZF b,()):=by
 have c:=h.len;have d:=h.tot;unfold nV ZF;rw[Cs,pA];cases a:jq b.1
 ·simp
 ·have a:=Wv.1 a;rw[Zr (n:=b.1-1)];have:=Qkt b.2.1 Aa Aa (lQ b.1 b.2.1 (b.2.1.length:Int) 0) 0 (b.1-1) (by simp[lQ]) Aa Aa Aa;simp_all
theorem Qts(h:iv K b)(hK:K<=1000000):Iu b=we b:=by
 have a:=h.len;unfold Iu gH gL we gG gH gL;rw[D5 h hK,lw b,pA];cases hz:((b.2.1.length:Int)==0)
 ·cases ZF b
  ·rfl
  ·rfl
 simp_all
theorem MV(h:iv K b)(hK:K<=1000000):mn b=ee b:=by
 have a:=h.len
 grind[mn,ee,D5,lw]
theorem zO(h:iv K r.2.1)(hK:K<=1000000:=by omega):bw r=Yj r:=by
 have i:=h.len;obtain⟨v,hv⟩:=CS h hK;unfold bw gG Yj gG yh;rw[D5 h hK,lw _,Qts h hK,hv,MV h hK,rp _];simp only[Cs,J8,bc,pA];generalize ZF r.2.1=b1;cases b1
 ·simp_all
 simp only[pI,pH,pA,Le];cases c:jq (r:Zau)
 ·simp_all
 have c:=Wv.1 c;simp only[pI,pH,pA,Le];by_cases d:v>(r:Zau)
 ·simp_all
 rw[Zk d];simp only[pH,pA,Le];cases hc:jq (r:ZaH)
 ·simp_all
 simp only[pI,pH,pA,Le];have e:(((r:Or) != -1)&&(!(K3 ((r:Or)>=(r:Zau))&&K3 ((r:Or)<=4611686018427387903))))=(((((r:Or) != -1)&&(K3 ((r:Or)<(r:Zau))))||(K3 ((r:Or)>4611686018427387903)))||(K3 ((r:Or)< -1))):=by
  grind
 by_cases a:(r:Or)= -1
 ·rw[a];have f:((-1:Int)==(r:Zau))=false:=Ag
  have j:∀b,fc r b=Kt r b:=λb=>by
   unfold fc Kt;rw[a,f];rfl
  grind
 ·have g:((r:Or) != -1)=true:=by simpa using a
  rw[g]at e⊢;simp only[pG,pA,pJ]at e⊢
  grind(splits:=20)[fc,Kt]
theorem Sb(c:Jl):cU c=J9 c:=rfl
theorem DE(w:Qp):km w=bp w:=rfl
theorem Zyi(p:Qz):mj p=bF p:=rfl
theorem bO{c b:Bool}{f:Bool×Unit->Option β}:Ld (cond c (K2 (Lc,())) (K2 (b,()))) f=f (!c&&b,()):=by cases c<;>rfl
theorem Gy{c b:Bool}:(c|| !(!c&&b))=(c|| !b):=by cases c<;>rfl
theorem bA{c b:Bool}{f:Bool×Unit->Option β}:Ld (cond c (K2 (b,())) (K2 (Lc,()))) f=f (c&&b,()):=by cases c<;>rfl
theorem DP{c b:Bool}:(c&&(c&&b))=(c&&b):=by cases c<;>rfl
theorem qO(h:Xx K s)(hK:K<=1000000):yc s=f7 s:=by
 obtain⟨f,a,-⟩:=tc h.snd;obtain⟨g,b⟩:=RD (s:LE);obtain⟨i,c⟩:=vo h.rcv hK;obtain⟨j,d⟩:=PQ (s:Fn);obtain⟨k,e⟩:=xz (s:Zaz);unfold yc gG f7 gG;simp only[xh h.snd,zO h.rcv hK,Sb,DE,Zyi,a,b,c,d,e,J8,Cs,pA,bO,Gy]
 grind
theorem Ps(c:av):mW c=a9 c:=by
 unfold mW a9 mq dE;have a:K3 (c.1>=1)=K3 (c.1>0):=by congr 1
 simp only[bc,Ot,pA,bA,DP,a];congr 2
 ac_rfl
theorem NS(c:aP):wy c=fZ c:=rfl
theorem Pl(c:Jl):rc c=aB c:=rfl
theorem Z1d{K:Nat}{l:List Zh}(h:mQ K l)(hK:K<=1000000)(h24:l.length<=24):∀(N i:Nat),l-i<N->i<=l->bL N l l l (i:Int)=Ks N l (i:Int)
 |0,_,h,_=>Aa
 |N+1,i,j,k=>by
  rw[bL,Ks];by_cases c:i<l
  ·have g:∀{a:Prop},a->K3 ((i:Int)>0)=K4->0<=Lb.wrap ((i:Int)-1)/\Lb.wrap ((i:Int)-1)<l:=λ_ h=>by
    have:=pE h;grind[Zr]
   obtain⟨b,e⟩:=zQ (h.all _ (Z7 (d:=Zc) c)) hK;rw[Zo (Zl (p:=(i:Int)<l)),Zo (Zl (p:=(i:Int)<l)),Zb,Zb,show(i:Int).toNat=i from rfl,qO (h.all _ (Z7 (d:=Zc) c)) hK,Zk (p:=(i:Int)>=24),pH,e,pA,pA];simp only[Le];rw[Zb (λh f=>g h f),Zb (λh f=>g h f),Zb (λ_ _=>Aa),Zs c,Z1d h hK h24 N (i+1) Aa Aa]
  grind
theorem Z95{K:Nat}{l:List Zh}(h:mQ K l)(hK:K<=1000000)(h24:24<l.length):∀(N i:Nat),24-i<N->i<=24->bL N l l l (i:Int)=K2 (Lc,())
 |0,_,h,_=>Aa
 |N+1,i,j,k=>by
  have m:=h.len;rw[bL,Zo (Zl),Zb];have c:i<l:=Aa
  have g:∀{a:Prop},a->K3 ((i:Int)>0)=K4->0<=Lb.wrap ((i:Int)-1)/\Lb.wrap ((i:Int)-1)<l:=λ_ h=>by
   have:=pE h;grind[Zr]
  by_cases n:i=24
  ·simp_all[Zb]
  ·obtain⟨b,e⟩:=zQ (h.all _ (Z7 (d:=Zc) c)) hK;rw[show(i:Int).toNat=i from rfl,Zk (p:=(i:Int)>=24),pH,qO (h.all _ (Z7 (d:=Zc) c)) hK,e,pA,Zs c,Z95 h hK h24 N (i+1) Aa Aa];simp only[Le];rw[Zb (λh f=>g h f)];simp_all
theorem Dr(h:mQ K l)(hK:K<=1000000):ja l=Jy l:=by
 by_cases a:l.length<=24
 ·unfold ja Jy;exact Z1d h hK a _ 0 (by simp[iA]) Aa
 ·obtain⟨⟨b,u⟩,e,c⟩:=Zxz h hK
  grind(splits:=20)[ja,Z95,iA]
theorem Qe3(h:mQ K l)(hK:K<=1000000):QD l=io l:=by
 obtain⟨b,e⟩:=qH h hK;have g:=h.len;have a:b=K4-> ∀(N i:Nat)(n:Int),l-i<N->i<=l-> ∃v,J2 N () n l l (i:Int)=K2 (v,())/\Vb N l n (i:Int)=K2 (v,()):=by
  intro c N
  induction N with
  |zero=>omega
  |succ N d=>
   intro i n j k;rw[J2,Vb,e,c];by_cases f:i<l
   ·rw[Zl,pG,pG,pA,Zb];simp only[Li,pG];rw[Zb,Zs f];exact d (i+1) _ Aa Aa
   simp_all[Zk]
 unfold QD kb io;rw[Dr h hK,e];cases b
 ·simp_all[Je,Vb]
 ·obtain⟨v,m,o⟩:=a rfl (Je l 0 0) 0 0 (by simp[Je]) Aa;simp_all[bj,Je]
theorem Qe2(h:mQ K l)(hK:K<=1000000):QA l=ij l:=by
 obtain⟨b,e⟩:=qH h hK;have g:=h.len;have a:b=K4-> ∀(N i:Nat)(n:Int),l-i<N->i<=l-> ∃v,J1 N () n l l (i:Int)=K2 (v,())/\Va N l n (i:Int)=K2 (v,()):=by
  intro c N
  induction N with
  |zero=>omega
  |succ N d=>
   intro i n j k;rw[J1,Va,e,c];by_cases f:i<l
   ·rw[Zl,pG,pG,pA,Zb];simp only[Li,pG];rw[Zb,Zs f];exact d (i+1) _ Aa Aa
   simp_all[Zk]
 unfold QA ka ij;rw[Dr h hK,e];cases b
 ·simp_all[Jd,Va]
 ·obtain⟨v,m,o⟩:=a rfl (Jd l 0 0) 0 0 (by simp[Jd]) Aa;simp_all[bi,Jd]
theorem Z59{l:List Zj}(h:jN l)(u:Unit):∀(N i:Nat),l-i<N->i<=l-> ∃k b,Qy N l u l (i:Int)=K2 (k,())/\K3 (k>=0)= !b/\Wt N l (i:Int)=K2 (b,())
 |0,_,h,_=>Aa
 |N+1,i,e,f=>by
  have g:=h.1;rw[Qy,Wt];by_cases a:i<l
  ·have c:=h.2 _ (Z7 (d:=Z9) a);unfold T6 at c;unfold QI;rw[Zo (Zl),Zo (Zl),Zb,Zb,show(i:Int).toNat=i from rfl,QJ _,xt _,pA,pA,pA,Zs a];obtain⟨k,b,j,m,n⟩:=Z59 h () N (i+1) Aa Aa
   grind
  simp_all[Zk]
theorem Qpp{l:List Zj}(h:jN l):∃b,Xh l=K2 (!b,())/\ir l=K2 (b,()):=by unfold Xh Y3 ir;obtain⟨k,b,a,c,d⟩:=Z59 h () (Vv l 0) 0 (by simp[Vv]) Aa;simp_all[X6,Vv]
theorem KX(h:Qb K c)(hK:K<=1000000:=by omega):ck c=Ky c:=by
 obtain⟨y,l⟩:=Z68 h.str hK;obtain⟨z,m⟩:=Z67 h.str hK;have V:=h.pk.1;obtain⟨n,w1⟩:∃r,Z8 (c:ZaN).1 (-1) 4611686018427387903=K2 (r,()):=⟨_,rfl⟩
 obtain⟨o,s⟩:∃r,Z8 (c:ZaI) 0 1000000=K2 (r,()):=⟨_,rfl⟩
 obtain⟨t,u⟩:∃r,Z8 (c:ZaT).2.1 0 1000000=K2 (r,()):=⟨_,rfl⟩
 obtain⟨v,w⟩:∃r,Z8 (c:ZaG) 0 255=K2 (r,()):=⟨_,rfl⟩
 have A:Zy (c:ZaN).1 (-1) 4611686018427387903=K2 (n,()):=w1;have B:Zy (c:ZaI) 0 1000000=K2 (o,()):=s;have C:Zy (c:ZaT).2.1 0 1000000=K2 (t,()):=u;have D:Zy (c:ZaG) 0 255=K2 (v,()):=w;have E:∀(N i:Nat),(c:Zac)-i<N->i<=(c:Zac)-> ∃p,ll N (c:Zac) (c:ZaI) (c:Zac) (c:Zac) (i:Int)=K2 (p,())/\
   dr N c (i:Int)=K2 (p&&(((((n&&o)&&t)&&v)&&K3 (y<=(c:Zah).2.1))&&K3 (z<=(c:Zai).2.2.2.1)),()):=by
  intro N
  induction N with
  |zero=>intro i h;omega
  |succ N F=>
   intro i W X;rw[ll,dr];by_cases x:i<(c:Zac)
   ·have g:∀{a:Prop},a->K3 ((i:Int)>0)=K4->0<=Lb.wrap ((i:Int)-1)/\Lb.wrap ((i:Int)-1)<(c:Zac):=λ_ h=>by
     have:=pE h;grind[Zr]
    obtain⟨b,G,H⟩:=Qpp (h.pk.2 _ (Z7 (d:=Xq) x));rw[Zo (Zl),Zo (Zl),Zb,Zb,show(i:Int).toNat=i from rfl,bc,Ot,G,H,pA,pA,Zb (λh j=>g h j),Zb (λ_ _=>Aa),Zb (λh j=>g h j)];simp only;rw[Zb (λ_=>Aa),Zs x];obtain⟨p,e,f⟩:=F (i+1) Aa Aa;rw[e,f];generalize (!(_&&_)||_:Bool)=q;cases q
    ·cases b
     all_goals simp
    simp_all
   ·rw[Zm (Zk),Zm (Zk)];refine⟨K4,rfl,?_⟩;simp only[w1,s,u,w,pA,bA,DP,l,m,pJ]
    grind
 obtain⟨p,e,f⟩:=E (Wg c 0) 0 (by simp[Wg]) Aa;have I:pb (c:Zac) (c:ZaI) (c:Zac) (c:Zac) 0=Wg c 0:=rfl;rw[L5]at e f;obtain⟨Y,J⟩:=v8 c.2.1;obtain⟨Z,k⟩:=v8 c.2.2.1;obtain⟨b3,L⟩:=qH h.str hK;obtain⟨b4,M⟩:=RD (c:Zah);obtain⟨b5,O⟩:=PQ (c:Zai);obtain⟨b6,P⟩:=MW (c:Zar);obtain⟨b7,Q⟩:=MW (c:Zaq);obtain⟨b8,S⟩:=Ia (c:Zay);obtain⟨b9,U⟩:=Ia (c:Zav);unfold ck gG Ky gG VX;simp only[Ps,Dr h.str hK,Sb,DE,NS,Pl,Qe3 h.str hK,Qe2 h.str hK,J,k,L,M,O,P,Q,S,U,I,e,f,l,m,A,B,C,D,pA,bO,Gy]
 grind
theorem Qaj(c:Jl):VU c=sb c:=rfl
theorem UN(n:Int): -9223372036854775808<=Lb.wrap n/\Lb.wrap n<=9223372036854775807:=by simp[Ml,Mk,M2]<;>omega
def HV(n a b:Int):Bool:=K3 (n>=a)&&K3 (n<=b)
theorem oC{b:Int}:HV n a b=K4↔a<=n/\n<=b:=by unfold HV;simp
theorem Iv(n a b:Int):Z8 n a b=K2 (HV n a b,()):=rfl
def Oi(c:Jl):Bool:=((jq c.1&&HV c.2.1 0 c.1)&&HV c.2.2.1 (-1) c.1)&&HV (c:ZaC) (-1) c.1
theorem Hr(c:Jl):J9 c=K2 (Oi c,()):=by unfold J9;simp only[J8,Iv,pA,bA,DP];rfl
structure RH(c:Jl):Prop where
 lim:c.1<=4611686018427387903
 use0:0<=c.2.1
 use:c.2.1<=c.1
 blk0: -1<=c.2.2.1
 blk:c.2.2.1<=c.1
 told0: -1<=c.2.2.2.1
 told:c.2.2.2.1<=c.1
theorem vK{c:Jl}:Oi c=K4↔RH c:=by unfold Oi;simp only[pC,Wv,oC];exact⟨λh=>⟨Aa,Aa,Aa,Aa,Aa,Aa,Aa⟩,λh=>by obtain⟨_,_,_,_,_,_,_⟩:=h;omega⟩
def Bs(w:Qp):Bool:=(((((HV w.2.1 1 4096&&HV w.1 1 w.2.1)&&HV w.2.2.1 1 4611686018427387903)&&HV (w:ZaD) 0 w.2.2.1)&&HV (w:ZaL) 0 (w:ZaD))&&K3 (w.2.2.1<=Lb.wrap ((w:ZaL)+w.1)))&&HV (w:Zbr) 0 1000000
theorem qW(w:Qp):bp w=K2 (Bs w,()):=by unfold bp;simp only[Iv,pA,bA,DP];rfl
structure AX(w:Qp):Prop where
 most:1<=w.2.1/\w.2.1<=4096
 size:1<=w.1/\w.1<=w.2.1
 lim:1<=w.2.2.1/\w.2.2.1<=4611686018427387903
 seen:0<=w.2.2.2.1/\w.2.2.2.1<=w.2.2.1
 read:0<=w.2.2.2.2.1/\w.2.2.2.2.1<=w.2.2.2.1
 lr:w.2.2.1<=w.2.2.2.2.1+w.1
 since:0<=w.2.2.2.2.2.1/\w.2.2.2.2.2.1<=1000000
theorem EH:Bs w=K4↔AX w:=by
 unfold Bs;simp only[pC,oC,decide_eq_true_eq];constructor
 ·rintro⟨⟨⟨⟨⟨⟨a,b⟩,c⟩,d⟩,e⟩,f⟩,g⟩;constructor<;>grind[Zr]
 ·rintro⟨a,b,c,d,e,f,g⟩
  grind[Zr]
def Db(p:Qz):Bool:=HV p.1 0 7
theorem prE(p:Qz):bF p=K2 (Db p,()):=rfl
def OZ(c:aP):Bool:=(HV c.1 0 1152921504606846976&&HV c.2.1 0 c.1)&&HV c.2.2.1 (-1) c.1
theorem G4(c:aP):fZ c=K2 (OZ c,()):=by unfold fZ;simp only[Iv,pA,bA,DP];rfl
theorem Qyi{c:aP}:OZ c=K4↔(0<=c.1/\c.1<=1152921504606846976)/\(0<=c.2.1/\c.2.1<=c.1)/\ -1<=c.2.2.1/\c.2.2.1<=c.1:=by simp_all[OZ,oC,and_assoc]
def AE(a:Qq):Bool:=(((HV a.1 0 1000&&HV a.2.1 a.1 1152921504606846976)&&HV a.2.2.1 0 a.2.1)&&HV (a:ZaC) 0 a.2.2.1)&&K3 (a.2.1<=Lb.wrap ((a:ZaC)+a.1))
theorem Px(a:Qq):aB a=K2 (AE a,()):=by unfold aB;simp only[Iv,pA,bA,DP];rfl
structure EX(a:Qq):Prop where
 most:0<=a.1/\a.1<=1000
 lim:a.1<=a.2.1/\a.2.1<=1152921504606846976
 seen:0<=a.2.2.1/\a.2.2.1<=a.2.1
 clo:0<=a.2.2.2.1/\a.2.2.2.1<=a.2.2.1
 lc:a.2.1<=a.2.2.2.1+a.1
theorem EY{a:Qq}:AE a=K4↔EX a:=by
 unfold AE;simp only[pC,oC,decide_eq_true_eq];constructor
 ·rintro⟨⟨⟨⟨b,c⟩,d⟩,e⟩,f⟩;constructor<;>grind[Zr]
 ·rintro⟨b,c,d,e,f⟩
  grind[Zr]
def Gf(c:av):Bool:=match a9 c with|some (b,_)=>b|none=>Lc
theorem Tx(c:av):a9 c=K2 (Gf c,()):=by
 obtain⟨b,e⟩:=v8 c
 grind[Gf]
structure Qyb(s:Zn):Prop where
 whole:SA s (YR (YR s.2.2.1 s.2.2.2.1) s.2.2.2.2.1)=K4
 gap:SV s.2.2.2.2.1 0=s.2.1.2.1
 code:s.2.2.2.2.2.2.2.2.1=0
 fl:O5 s.2.2.2.2.2.2.2.1 s.2.2.2.1=K4
 ac:O5 s.2.2.2.2.2.2.2.1 s.2.2.2.2.1=K4
 fin:jD s=K4
 st:s.1=D0 s
structure jO(s:Zn):Prop where
 ring:VF s.2.1=K4
 pr:Hl (-1) s.2.2.1=K4
 fr:Hl (-1) s.2.2.2.1=K4
 ar:Hl (-1) s.2.2.2.2.1=K4
 sent:0<=s.2.2.2.2.2.2.2.1/\s.2.2.2.2.2.2.2.1<=s.2.1.2.2.1
 code:0<=s.2.2.2.2.2.2.2.2.1/\s.2.2.2.2.2.2.2.2.1<=4611686018427387903
 fin:0<=s.2.2.2.2.2.2.1/\s.2.2.2.2.2.2.1<=3
 rst:s.1=4\/s.1=5->s.2.1.2.1=s.2.1.2.2.1/\s.2.2.1=[]/\s.2.2.2.1=[]/\s.2.2.2.2.1=[]/\s.2.2.2.2.2.1=s.2.2.2.2.2.2.2.1/\s.2.2.2.2.2.2.1=0/\s.2.2.2.2.2.2.2.1=s.2.1.2.2.1
 no:¬(s.1=4\/s.1=5)->Qyb s
def w0(s:Zn):Bool:=match Km s with|some (b,_)=>b|none=>Lc
theorem R6{K:Int}{s:Zn}(hs:Wp K s)(hK:K<=1000000:=by omega):Km s=K2 (w0 s,()):=by grind[tc,w0]
theorem FI{K:Int}{s:Zn}(hs:Wp K s)(hK:K<=1000000):w0 s=K4↔jO s:=by
 have q:=Qx hs.pend hs.e0 hs.eK hK;have r:=Qx hs.pT hs.e0 hs.eK hK;have t:=Qx hs.pO hs.e0 hs.eK hK;have p:=(AF s.2.1 (by have:=hs.cells;omega)).1;have o:=Sg hs hK (Jr s (s:ST) 0) 0 (s:ST) hs.pend (by simp[Jr]) Aa;simp only[L5,Mf]at o;unfold w0 Km gG;rw[p,eU _,eU _,eU _];simp only[J8,Iv,pA,bO,Gy,hs.pend.1,hs.pT.1,hs.pO.1,pI,Mp,o];by_cases f:(((!VF s.2.1|| !HV (s:Zal) 0 (s:Zad))|| !jq (s:ZaQ))|| !HV (s:Zaf) 0 3)=K4
 ·rw[f,pG];refine⟨λh=>M0 h,λh=>?_⟩;have a:=h.ring;have b:=oC.2 h.sent;have c:=Wv.2 h.code;have d:=oC.2 h.fin;simp_all
 ·have f:(((!VF s.2.1|| !HV (s:Zal) 0 (s:Zad))|| !jq (s:ZaQ))|| !HV (s:Zaf) 0 3)=false:=by simpa using f
  rw[f,pH];simp only[Lt,L8]at f;obtain⟨⟨⟨a,b⟩,c⟩,d⟩:=f;by_cases e:s.1=4\/s.1=5
  ·have:((s.1==4)||(s.1==5))=true:=by simpa using e
   rw[this,pG];simp only[pC,beq_iff_eq];constructor
   ·rintro⟨⟨⟨⟨⟨⟨g,l⟩,m⟩,n⟩,i⟩,j⟩,k⟩;exact⟨a,hs.pend.1,hs.pT.1,hs.pO.1,oC.1 b,Wv.1 c,oC.1 d,λ_=>⟨g,Mw.1 Aa,Mw.1 Aa,Mw.1 Aa,i,j,k⟩,λh=>absurd e h⟩
   ·intro h;obtain⟨g,l,m,n,i,j,k⟩:=h.rst e;simp_all
  ·have:((s.1==4)||(s.1==5))=false:=by simpa using e
   rw[this,pH];simp only[pC,beq_iff_eq];constructor
   ·rintro⟨g,l,m,n,i,j,k⟩;exact⟨a,hs.pend.1,hs.pT.1,hs.pO.1,oC.1 b,Wv.1 c,oC.1 d,λh=>absurd h e,λ_=>⟨g,l,m,n,i,j,k⟩⟩
   ·intro h;obtain⟨g,l,m,n,i,j,k⟩:=h.no e;simp_all
def NZ(r:Zz):Bool:=match Yj r with|some (b,_)=>b|none=>Lc
theorem Sf(h:iv K r.2.1)(hK:K<=1000000:=by omega):Yj r=K2 (NZ r,()):=by grind[vo,NZ]
theorem G1(h:iv K r.2.1)(hK:K<=1000000)(hb:NZ r=K4):0<=r.1:=by
 have e:=Sf h hK;rw[hb]at e;unfold Yj gG at e;have a:=h.len;obtain⟨v,k⟩:=CS h hK;rw[lw _,rp _,k]at e;simp only[pA,J8,J0]at e
 grind(splits:=20)[Kt]
def LH(s:Zh):Bool:=((((((((jq s.1&&w0 s.2.1)&&Oi (s:LE))&&NZ (s:Fd))&&Bs (s:Fn))&&Db (s:Zaz))&&jq (s:Zaw).1)&&((s:Zak)||(s:Zao)))&&!(((((K3 ((s:Zba)>(s:LE).2.1))||(K3 ((s:Zbg).1>(s:ZaY).1)))||((s:ZaE).1&&(s.2.1.1 !=(4:Int))))||((s:ZaS)&&(!(s:ZaM))))||(((s:Zaw).1 !=(0:Int))&&(!(s:ZaM)))))&&(((s:Zak)||(((s.2.1.1==(0:Int))&&((s:ZaR).2.2.1==(0:Int)))&&((s:ZaV).1==(-1:Int))))&&((s:Zao)||((((s:Zat)==(0:Int))&&((s:Zbg).1==(0:Int)))&&(!(s:ZaM)))))
theorem stE(h:Xx K s)(hK:K<=1000000):f7 s=K2 (LH s,()):=by
 unfold f7 gG LH;simp only[R6 h.snd,Sf h.rcv hK,Hr,qW,prE,J8,pA,bO,Gy]
 grind
def sB:Option Int->List Zh->Bool
 |_,[]=>K4
 |p,x::r=>(LH x&&(match p with|none=>K4|some q=>K3 (q<x.1)))&&sB (K2 x.1) r
theorem Qnu:∀{l:List Zh}{p:Option Int},sB p l=K4↔(∀s∈l,LH s=K4)/\l.Pairwise (λa b=>a.1<b.1)/\ ∀q,p=K2 q-> ∀s∈l,q<s.1
 |[],p=>by simp[sB]
 |x::r,p=>by
  have c:(match p with|none=>K4|some q=>K3 (q<x.1))=K4↔ ∀q,p=K2 q->q<x.1:=by cases p<;>simp
  simp only[sB,pC,c,Qnu (l:=r),Mx,Ly,forall_eq_or_imp]
  grind
def Gj(l:List Zh)(i:Nat):Option Int:=ite (i=0) Lj (K2 (l.getD (i-1) Zc).1)
theorem Qko{K:Nat}{l:List Zh}(h:mQ K l)(hK:K<=1000000):∀(N i:Nat),l-i<N->i<=l->Ks N l (i:Int)=K2 (sB (Gj l i) (l.drop i)&&K3 ((l:Int)<=24),())
 |0,_,h,_=>Aa
 |N+1,i,n,o=>by
  have c:=h.len;rw[Ks];by_cases b:i<l
  ·have g:∀{a:Prop},a->K3 ((i:Int)>0)=K4->0<=Lb.wrap ((i:Int)-1)/\Lb.wrap ((i:Int)-1)<l:=λ_ h=>by
    have:=pE h;grind[Zr]
   rw[Zo (Zl),Zb,show(i:Int).toNat=i from rfl,stE (h.all _ (Z7 (d:=Zc) b)) hK,pA,Zb (λ_ _=>Aa),Zb (λh j=>g h j),Zs b,Qko h hK N (i+1) Aa Aa,Q1 (d:=Zc) b];have e:Gj l (i+1)=K2 (l.getD i Zc).1:=by rfl
   rw[e];simp only[sB];by_cases k:i=0
   ·subst k;have f:Gj l 0=none:=rfl
    grind
   ·have f:Gj l i=K2 (l.getD (i-1) Zc).1:=by simp_all[Gj]
    have m:(Lb.wrap ((i:Int)-1)).toNat=i-1:=Ao
    rw[f,Zl (p:=(i:Int)>0),m]
    grind
  simp_all[Zk,Lr,sB]
structure Qyc(l:List Zh):Prop where
 all:∀s∈l,LH s=K4
 srt:l.Pairwise λa b=>a.1<b.1
 len:l.length<=24
def G5(l:List Zh):Bool:=sB Lj l&&K3 ((l:Int)<=24)
theorem Bb(h:mQ K l)(hK:K<=1000000):Jy l=K2 (G5 l,()):=by unfold Jy;exact Qko h hK _ 0 (by simp[cx]) Aa
theorem n9:G5 l=K4↔Qyc l:=by
 unfold G5;simp only[pC,Qnu,decide_eq_true_eq];constructor
 ·rintro⟨⟨a,b,-⟩,c⟩;exact⟨a,b,Aa⟩
 ·rintro⟨a,b,c⟩
  grind
def BN(f:Zh->Int):List Zh->Int->Int|[],n=>n|x::r,n=>BN f r (min (Lb.wrap (n+f x)) 4611686018427387904)
def EO(f:Zh->Int):List Zh->Int|[]=>0|x::r=>f x+EO f r
theorem IP{f:Zh->Int}:∀{l:List Zh}{n:Int},(∀s∈l,0<=f s/\f s<=4611686018427387903)->0<=n->n<=4611686018427387904->BN f l n=min (n+EO f l) 4611686018427387904/\0<=EO f l
 |[],n,_,c,d=>by grind[BN,EO]
 |x::r,n,h,c,d=>by
  have hx:=h x (L6);simp only[BN,EO];rw[Zr];obtain⟨a,b⟩:=IP (f:=f) (l:=r) (n:=min (n+f x) 4611686018427387904) (λs e=>h s (Mc _ e)) Aa Aa;rw[a];omega
def Dw(s:Zh):Int:=(s:Zba)
def E3(s:Zh):Int:=(s:Zbg).1
theorem Qxo(h:mQ K l)(hK:K<=1000000)(hb:G5 l=K4):io l=K2 (BN Dw l 0,()):=by
 have a:=h.len;have e:∀(N i:Nat)(n:Int),l-i<N->i<=l->Vb N l n (i:Int)=K2 (BN Dw (l.drop i) n,()):=by
  intro N
  induction N with
  |zero=>omega
  |succ N c=>
   intro i n f g;unfold Vb;rw[Bb h hK,hb,J0,pA];by_cases b:i<l
   ·rw[Zl];simp only[pG,Li];rw[Zb,Zs b,c (i+1) _ Aa Aa,Q1 (d:=Zc) b];rfl
   ·rw[Zk,Lr Aa];rfl
 grind[io,Je]
theorem Qxn(h:mQ K l)(hK:K<=1000000)(hb:G5 l=K4):ij l=K2 (BN E3 l 0,()):=by
 have a:=h.len;have e:∀(N i:Nat)(n:Int),l-i<N->i<=l->Va N l n (i:Int)=K2 (BN E3 (l.drop i) n,()):=by
  intro N
  induction N with
  |zero=>omega
  |succ N c=>
   intro i n f g;unfold Va;rw[Bb h hK,hb,J0,pA];by_cases b:i<l
   ·rw[Zl];simp only[pG,Li];rw[Zb,Zs b,c (i+1) _ Aa Aa,Q1 (d:=Zc) b];rfl
   ·rw[Zk,Lr Aa];rfl
 grind[ij,Jd]
theorem Qyo{l:List Zj}(h:jN l):ir l=K2 (l.all Kg,()):=by
 have c:=h.1;have g:∀(N i:Nat),l-i<N->i<=l->Wt N l (i:Int)=K2 ((l.drop i).all Kg,()):=by
  intro N
  induction N with
  |zero=>intro i h;omega
  |succ N e=>
   intro i j k;unfold Wt;by_cases a:i<l
   ·have f:T6 (l.getD i Z9):=h.2 _ (Z7 a);unfold T6 at f;rw[Zo (Zl),Zb,show(i:Int).toNat=i from rfl,xt _,pA,Zs a,e (i+1) Aa Aa,Q1 (d:=Z9) a,Mu];generalize Kg (l.getD i Z9)=b;cases b<;>rfl
   grind
 grind[ir,Vv]
def Bg(n:Int):Option Int->List Qa->Bool
 |_,[]=>K4
 |p,x::r=>((HV x.1 0 (Lb.wrap (n-1))&&(match p with|none=>K4|some q=>K3 (q<x.1)))&&x.2.1.all Kg)&&Bg n (K2 x.1) r
def F5(l:List Qa)(i:Nat):Option Int:=ite (i=0) Lj (K2 (l.getD (i-1) Xq).1)
def F7(c:Zf):Bool:=((((HV (c:ZaN).1 (-1) 4611686018427387903&&HV (c:ZaI) 0 1000000)&&HV (c:ZaT).2.1 0 1000000)&&HV (c:ZaG) 0 255)&&K3 (BN Dw (c:Id) 0<=(c:Zah).2.1))&&K3 (BN E3 (c:Id) 0<=(c:Zai).2.2.2.1)
theorem Qf3{K:Nat}{c:Zf}(h:Qb K c)(hK:K<=1000000)(hb:G5 (c:Id)=K4):∀(N i:Nat),(c:Zac)-i<N->i<=(c:Zac)->
  dr N c (i:Int)=K2 (Bg (c:ZaI) (F5 (c:Zac) i) ((c:Zac).drop i)&&F7 c,())
 |0,_,h,_=>Aa
 |N+1,i,q,r=>by
  have f:=h.pk.1;rw[dr];by_cases b:i<(c:Zac)
  ·have j:=Qf3 h hK hb N (i+1) Aa Aa;have k:=h.pk.2 _ (Z7 (d:=Xq) b);generalize (c:ZaI)=n at*
   generalize (c:Zac)=l at*
   have g:∀{a:Prop},a->K3 ((i:Int)>0)=K4->0<=Lb.wrap ((i:Int)-1)/\Lb.wrap ((i:Int)-1)<l:=λ_ h=>by
    have:=pE h;grind[Zr]
   rw[Zo (Zl),Zb,show(i:Int).toNat=i from rfl,Iv,pA,Zb (λ_ _=>Aa),Zb (λh m=>g h m),Zb (λ_=>Aa),Zs b,j,Q1 (d:=Xq) b,Qyo k,J0,pA];have e:F5 l (i+1)=K2 (l.getD i Xq).1:=by rfl
   rw[e];simp only[Bg];by_cases o:i=0
   ·subst o;have p:F5 l 0=none:=rfl
    grind
   ·have p:F5 l i=K2 (l.getD (i-1) Xq).1:=by simp_all[F5]
    have s:(Lb.wrap ((i:Int)-1)).toNat=i-1:=Ao
    grind
  ·rw[Zm (Zk),Lr Aa];simp only[Bg,pJ,Iv,pA,bA,DP,Qxo h.str hK hb,Qxn h.str hK hb];unfold F7
   grind
structure Ug(c:Zf):Prop where
 own:Gf c.2.1=K4
 peer:Gf c.2.2.1=K4
 sts:G5 c.2.2.2.1=K4
 tot:Oi c.2.2.2.2.1=K4
 inf:Bs c.2.2.2.2.2.1=K4
 ob:OZ c.2.2.2.2.2.2.1=K4
 ou:OZ c.2.2.2.2.2.2.2.1=K4
 ab:AE c.2.2.2.2.2.2.2.2.1=K4
 au:AE c.2.2.2.2.2.2.2.2.2.1=K4
 pks:Bg c.2.2.2.2.2.2.2.2.2.2.2.2.2.2.1 Lj c.2.2.2.2.2.2.2.2.2.2.2.2.2.2.2.1=K4
 tail:F7 c=K4
def bJ(c:Zf):Bool:=match Ky c with|some (b,_)=>b|none=>Lc
theorem GI(h:Qb K c)(hK:K<=1000000:=by omega):Ky c=K2 (bJ c,()):=by
 obtain⟨⟨b,u⟩,e,-⟩:=FO h hK
 grind[bJ]
theorem Sp(h:Qb K c)(hK:K<=1000000:=by omega):bJ c=K4↔Ug c:=by
 unfold bJ Ky gG;simp only[Tx,Bb h.str hK,Hr,qW,G4,Px,pA,bO,Gy];by_cases a:((((((((!Gf c.2.1|| !Gf c.2.2.1)|| !G5 (c:Id))|| !Oi (c:Zah))|| !Bs (c:Zai))|| !OZ (c:Zar))|| !OZ (c:Zaq))|| !AE (c:Zay))|| !AE (c:Zav))=K4
 ·rw[a,pG];refine⟨λh=>M0 h,λh=>?_⟩;rw[h.own,h.peer,h.sts,h.tot,h.inf,h.ob,h.ou,h.ab,h.au]at a;simp at a
 ·have a:((((((((!Gf c.2.1|| !Gf c.2.2.1)|| !G5 (c:Id))|| !Oi (c:Zah))|| !Bs (c:Zai))|| !OZ (c:Zar))|| !OZ (c:Zaq))|| !AE (c:Zay))|| !AE (c:Zav))=false:=by simpa using a
  rw[a,pH];simp only[Lt,L8]at a;obtain⟨⟨⟨⟨⟨⟨⟨⟨e,f⟩,b⟩,g⟩,i⟩,j⟩,k⟩,l⟩,m⟩:=a;have d:=Qf3 h hK b (Wg c 0) 0 (by simp[Wg]) Aa;simp only[L5,Mf]at d;rw[d];simp only[pC];exact⟨λh=>⟨e,f,b,g,i,j,k,l,m,h.1,h.2⟩,λh=>⟨h.pks,h.tail⟩⟩
structure AT(s:Zh):Prop where
 id:0<=s.1/\s.1<=4611686018427387903
 snd:jO s.2.1
 cre:RH s.2.2.1
 rcv:NZ s.2.2.2.1=K4
 win:AX s.2.2.2.2.1
 pr:0<=s.2.2.2.2.2.1.1/\s.2.2.2.2.2.1.1<=7
 code:0<=s.2.2.2.2.2.2.2.2.2.2.2.2.1/\s.2.2.2.2.2.2.2.2.2.2.2.2.1<=4611686018427387903
 can:s.2.2.2.2.2.2.1=K4\/s.2.2.2.2.2.2.2.1=K4
 su:s.2.1.2.2.2.2.2.2.2.1<=s.2.2.1.2.1
 hs:s.2.2.2.1.2.2.2.1<=s.2.2.2.2.1.2.2.2.1
 tr:s.2.2.2.2.2.2.2.2.1=K4->s.2.1.1=4
 ts:s.2.2.2.2.2.2.2.2.2.1=K4->s.2.2.2.2.2.2.2.2.2.2.2.1=K4
 sc:s.2.2.2.2.2.2.2.2.2.2.2.2.1≠0->s.2.2.2.2.2.2.2.2.2.2.2.1=K4
 cs:s.2.2.2.2.2.2.1=K4\/(s.2.1.1=0/\s.2.1.2.1.2.2.1=0/\s.2.1.2.2.2.2.2.1= -1)
 cr:s.2.2.2.2.2.2.2.1=K4\/(s.2.2.2.1.1=0/\s.2.2.2.1.2.2.2.1=0/\s.2.2.2.2.2.2.2.2.2.2.2.1=Lc)
theorem Qxw(h:Xx K s)(hK:K<=1000000):LH s=K4↔AT s:=by
 unfold LH Db;simp only[pC,Ng,Mi,Lt,Nd,decide_eq_false_iff_not,bne_eq_false_iff_eq,beq_iff_eq,oC,Wv,FI h.snd (show(K:Int)<=1000000 by omega),vK,EH,L8];constructor
 ·rintro⟨⟨⟨⟨⟨⟨⟨⟨⟨g,i⟩,j⟩,k⟩,l⟩,m⟩,n⟩,o⟩,⟨⟨⟨p,a⟩,b⟩,c⟩,d⟩,e,f⟩;exact⟨g,i,j,k,l,m,n,o,Aa,Aa,λh=>Af,λh=>Af,
   λh=>Af,Ag,Ag⟩
 ·rintro⟨g,i,j,k,l,m,n,o,p,a,b,c,d,e,f⟩
  grind
theorem Ug.st(hc:Ug c)(h:Qb K c)(hK:K<=1000000)(hs:s∈(c:Id)):AT s:=(Qxw (h.str.all s hs) hK).1 ((n9.1 hc.sts).all s hs)
theorem Ug.num(hc:Ug c):0<=(c:ZaI)/\(c:ZaI)<=1000000:=by have:=hc.tail;simp_all[F7,oC]
theorem Qhv:∀{l:List Zh},(l.Pairwise λa b=>a.1<b.1)-> ∀{x y:Zh},x∈l->y∈l->x.1=y.1->x=y
 |[],_,_,_,hx,_,_=>by cases hx
 |z::l,h,x,y,hx,hy,e=>by
  obtain⟨d,c⟩:=Mx.1 h;rcases Ly.1 hx with hx|hx
  ·grind
  ·rcases Ly.1 hy with hy|hy
   ·grind
   ·exact Qhv c hx hy e
theorem qr{K:Int}{s:Zn}(h:Wp K s)(hK:K<=1000000:=by omega):Vy s=K2 (s,()):=by
 have a:=Qx h.pend h.e0 h.eK hK;have b:=Qx h.pT h.e0 h.eK hK;have c:=Qx h.pO h.e0 h.eK hK;have d:=h.cells;unfold Vy kn
 grind[Zb,Qg,zH]
theorem NR(h:Xx K s)(hK:K<=1000000):mo s=K2 (s,()):=by have a:=h.rcv.len;unfold mo aW dX;rw[qr h.snd,Zb Aj];rfl
theorem KN{K:Nat}{l:List Zh}(h:mQ K l)(hK:K<=1000000):∀(N i:Nat),l.length-i<N->i<=l.length->jp N (l.take i) l (l.length:Int) (i:Int)=K2 (l,())
 |0,_,h,_=>Aa
 |N+1,i,b,c=>by
  have f:=h.len;unfold jp gH gJ;by_cases a:i<l.length
  ·rw[Zo (Zl),Zb,show(i:Int).toNat=i from rfl,NR (h.all _ (Z7 (d:=Zc) a)) hK,pA,Zb Aj,Zs a];have e:l.take i++[l.getD i Zc]=l.take (i+1):=by
    simp_all
   rw[e];exact KN h hK N (i+1) Aa Aa
  grind
theorem Zoa{K:Nat}{l:List Qa}(h:LK K l)(hK:K<=1000000):∀(N i:Nat),l.length-i<N->i<=l.length->jo N (l.take i) l (l.length:Int) (i:Int)=K2 (l,())
 |0,_,h,_=>Aa
 |N+1,i,b,c=>by
  have f:=h.1;unfold jo gH gI;by_cases a:i<l.length
  ·have g:=(h.2 _ (Z7 (d:=Xq) a)).1;rw[Zo (Zl),Zb,show(i:Int).toNat=i from rfl,Zb Aj];simp only[M8];rw[Zb Aj,Zs a];have e:l.take i++[((l.getD i Xq).1,(l.getD i Xq).2.1,())]=l.take (i+1):=by
    grind[Na]
   rw[e];exact Zoa h hK N (i+1) Aa Aa
  grind
theorem V6(h:Qb K c)(hK:K<=1000000:=by omega):Zu c=K2 (c,()):=by have a:=KN h.str hK (V7 ([]:List Zh) (c:Id) ((c:Id).length:Int) (0:Int)) 0 (by simp[V7]) Aa;have b:=Zoa h.pk hK (fV ([]:List Qa) (c:Zac) ((c:Zac).length:Int) (0:Int)) 0 (by simp[fV]) Aa;simp_all[Zu,cn,YU]
theorem LM(h:Qb K c)(hK:K<=1000000:=by omega):Ka c=K2 (bJ c&& !((c:ZaG) !=(0:Int)),()):=by grind[Ka,oc,GI]
theorem XZ(h:Qb K c)(hK:K<=1000000:=by omega):Kw c=Ka c:=by unfold Kw Ka;rw[KX h hK];rfl
theorem Qed(w:Qp):ZW w=dx w:=rfl
theorem Z9c(w:Qp)(n t:Int):oZ w n t=cI w n t:=rfl
theorem Qti(c:Jl):uw c=iR c:=rfl
theorem Qw6(c:Jl):w8 c=kQ c:=rfl
theorem Z25(a:Qq):vh a=ie a:=by grind[vh,ie,Pl]
theorem Zyr(a:Qq):mm a=je a:=by simp[mm,je,Z25]
theorem Qfo(c:Jl)(n:Int):vj c n=lM c n:=by grind(splits:=20)[vj,lM,Sb,bc]
def Pc{α:Type}(m:Option α)(Q:α->Prop):Prop:= ∀y,m=K2 y->Q y
section
variable {α β:Type}{m n:Option α}{f:α->Option β}{Q:α->Prop}{R:β->Prop}
theorem Pc.bind(h:Pc m Q)(k:∀y,Q y->Pc (f y) R):Pc (Ld m f) R:=λy e=>by
 cases hm:m with
 |none=>simp_all
 |some x=>rw[hm]at e;exact k x (h x hm) y e
theorem Pc.any:Pc m λ_=>True:=λ_ _=>trivial
theorem Pc.skip(k:∀y,Pc (f y) R):Pc (Ld m f) R:=Pc.any.bind λy _=>k y
theorem Pc.pure{y:α}(h:Q y):Pc (K2 y) Q:=λz e=>by cases e;exact h
theorem Pc.ite{c:Bool}(h1:c=K4->Pc m Q)(h2:c=Lc->Pc n Q):Pc (cond c m n) Q:=by grind
theorem Pc.guard(h:Pc m Q):Pc (Ze p m) Q:=λy e=>by
 by_cases a:p
 ·rw[Zb a]at e;exact h y e
 simp_all[Ze]
end
theorem T.pc{R:α->Prop}(h:T m Q)(k:Pc m R):T m λy=>Q y/\R y:=by obtain⟨y,e,a⟩:=h;exact⟨y,e,a,k y e⟩
theorem Pc.if{n:Option α}{c:Bool}(h1:Pc m Q)(h2:Pc n Q):Pc (cond c m n) Q:=Pc.ite (λ_=>h1) λ_=>h2
theorem Pc.none{α:Type}{Q:α->Prop}:Pc (none:Option α) Q:=λ_ e=>by cases e
theorem Qro{f g:α->Option β}(h:∀y,f y=g y):Ld m f=Ld m g:=by have:f=g:=funext h;rw[this]
theorem Qsw(c:Zf)(w:Qp)(a:Bool):gj c w a=Ld (dx w) λt=>cond t.1 (Ld (cI w (c:ZaT).2.1 (c:Zbu)) λr=>K2 (r.1.2.2.1,r.2.1,())) (K2 (w.2.2.1,a,())):=by unfold gj;rw[Qed];refine Qro λt=>?_;cases t.1<;>rfl
theorem Qsv(a:Qq)(b:Bool):vm a b=Ld (gf a b) λt=>K2 (t.1.2.1,t.2.1,()):=by
 unfold vm gf;rw[Z25,Zyr];cases ie a with
 |none=>rfl
 |some t=>
  simp only[pA];cases t.1
  ·rfl
  ·cases je a<;>rfl
theorem Qy0(c:Zf)(s:Zh)(o:List Zj):aJ c s o=dC c s o:=by
 unfold aJ dC qn;rw[Qsw];have e:((!(s:Zao)||((s:Zat) !=0))||(s:ZaM))= !(((s:Zao)&&((s:Zat)==0))&& !(s:ZaM)):=by
  grind
 rw[e];generalize (((s:Zao)&&((s:Zat)==0))&& !(s:ZaM))=b;cases b
 ·rfl
 ·simp only[pG,pI,pH];cases dx (s:Fn) with
  |none=>rfl
  |some t=>
   simp only[pA];cases t.1
   ·rfl
   ·simp only[pG];cases cI (s:Fn) (c:ZaT).2.1 (c:Zbu)<;>rfl
theorem Qyz(c:Zf)(s:Zh)(h:0<=(s:Zat))(o:List Zj):aI c s o=dB c s o:=by grind(splits:=20)[aI,dB,lv,Qy0]
theorem Z5n(c:Zf)(s:Zh)(h:0<=(s:Zat)):j6 c s=ql c s:=by simp_all[j6,ql,Qyz]
theorem Qwb{c:Zf}(h:∀s∈(c:Id),0<=(s:Zat))(hl:(c:Id).length<=1000000):∀(N i:Nat)(o:List Zj),eN N c o (c:Id) ((c:Id).length:Int) (i:Int)=Wm N c o (i:Int)
 |0,_,_=>rfl
 |N+1,i,o=>by
  rw[eN,Wm];by_cases a:i<(c:Id).length
  ·rw[Zo (Zl),Zo (Zl),Zb,Zb,show(i:Int).toNat=i from rfl,Z5n _ _ (h _ (Z7 (d:=Zc) a)),Zs a];refine Qro λt=>?_;rw[Qwb h hl N (i+1)]
  ·rw[Zm (Zk),Zm (Zk)];rfl
theorem Qyh(h:∀s∈(c:Id),0<=(s:Zat))(hl:(c:Id).length<=1000000)(o:List Zj):eJ c o=Wl c o:=by unfold eJ Wl;exact Qwb h hl _ 0 o
theorem Qrn{γ:Type}{f:α->Option β}{g:β->Option γ}:Ld (Ld m f) g=Ld m λy=>Ld (f y) g:=by cases m<;>rfl
theorem Z1w(h:Qb K c)(hK:K<=1000000):q8 c=fC c:=by
 unfold q8 fC;rw[XZ h hK,LM h hK,pA,pA];by_cases d:bJ c=K4
 ·have a:∀s∈(c:Id),0<=(s:Zat):=λs a=>G1 (h.str.all s a).rcv hK (((Sp h hK).1 d).st h hK a).rcv;have f:=h.str.len;have g:∀o,eH c o=Wk c o:=λo=>by
   grind[eH,Wk,Qsv,Qyh]
  have e:∀o,eG c o=Wj c o:=λo=>by
   grind[eG,Wj,Qsv]
  simp only[e,Qsw,tk];generalize (bJ c&&_)=b;cases b
  ·rfl
  ·simp only[pI,pH,Qrn]
   grind(splits:=20)[Qrn]
 simp_all
def FF(w:Qp):Bool:=(Bs w&&K3 (w.2.2.1<(4611686018427387903:Int)))&&K3 ((Lb.wrap ((Lb.wrap ((w:ZaL)+w.1))-w.2.2.1))>=(Lb.wrap (L0 (Lb.wrap (w.1+(1:Int))) (2:Int))))
theorem MX(w:Qp):dx w=K2 (FF w,()):=by unfold dx;rw[qW,pA];exact Zb (λ_=>Ah)
def Dj(w:Qp)(now trip:Int):Bool:=(FF w&&HV now (w:Zbr) 1000000)&&HV trip 1 1000
def Bt(w:Qp)(now trip:Int):Int:=cond (K3 ((Lb.wrap (now-(w:Zbr)))<(Lb.wrap ((2:Int)*trip)))) (min (Lb.wrap ((2:Int)*w.1)) w.2.1) w.1
def rwW(w:Qp)(now trip:Int):Qp:=(Bt w now trip,w.2.1,min (Lb.wrap ((w:ZaL)+Bt w now trip)) (4611686018427387903:Int),(w:ZaD),(w:ZaL),now,w.2.2.2.2.2.2)
def AL(w:Qp)(now trip:Int):Qp:=cond (Dj w now trip) (rwW w now trip) w
theorem Sa(w:Qp)(now trip:Int):cI w now trip=K2 (AL w now trip,Dj w now trip,()):=by grind(splits:=20)[cI,oI,MX,Iv,Dj,AL,rwW,Bt]
theorem Ik{now trip:Int}(h:FF w=Lc):Dj w now trip=false:=by simp_all[Dj]
def Hd(a:Qq):Bool:=(AE a&&K3 ((Lb.wrap ((Lb.wrap ((a:ZaC)+a.1))-a.2.1))>=(Lb.wrap (L0 (Lb.wrap (a.1+(1:Int))) (2:Int)))))&&K3 (a.1>(0:Int))
theorem maE(a:Qq):ie a=K2 (Hd a,()):=by unfold ie;rw[Px,pA];exact Zb (λ_=>Ah)
def AR(a:Qq):Bool:=Hd a&& !K3 ((Lb.wrap ((a:ZaC)+a.1))>(1152921504606846976:Int))
def Gr(a:Qq):Qq:=cond (AR a) (a.1,Lb.wrap ((a:ZaC)+a.1),a.2.2) a
theorem raE(a:Qq):je a=K2 (Gr a,AR a,()):=by grind[je,Gr,AR,maE]
theorem Qqm{a:Qq}(h:Hd a=Lc):AR a=false:=by simp_all[AR]
theorem Ok(a:Qq)(t:Bool):gf a t=K2 (Gr a,cond (Hd a) (AR a) t,()):=by grind[gf,maE,raE,Gr,Qqm]
def US(c:Jl):Jl:=cond (Oi c&&(c.2.2.1 !=(-1:Int))) (c.1,c.2.1,(-1:Int),c.2.2.1,c.2.2.2.2) c
theorem Rt(c:Jl):iR c=K2 (US c,()):=by
 unfold iR US;rw[Hr,pA]
 grind
def UM(c:Jl):Jl:=cond (((Oi c&&(c.2.1==c.1))&&(c.2.2.1==(-1:Int)))&&((c:ZaC) !=c.1)) (c.1,c.2.1,c.1,c.2.2.2) c
theorem nbE(c:Jl):kQ c=K2 (UM c,()):=by grind[kQ,UM,Hr]
abbrev Rp(c:Zf):Int:=(c:ZaT).2.1
abbrev G8(c:Zf):Int:=(c:Zbu)
theorem ttE(c:Zf):tk c=K2 (AL (c:Zai) (Rp c) (G8 c),cond (FF (c:Zai)) (Dj (c:Zai) (Rp c) (G8 c)) (c:ZaZ).2.1,()):=by grind[tk,MX,Sa,AL,Ik]
def OQ(s:Zh):Bool:=((s:Zao)&&((s:Zat)==0))&& !(s:ZaM)
theorem lwE(c:Zf)(s:Zh):qn c s=K2 (cond (OQ s) (AL (s:Fn) (Rp c) (G8 c)) (s:Fn),OQ s&&(cond (FF (s:Fn)) (Dj (s:Fn) (Rp c) (G8 c)) (s:ZaX).1),()):=by grind[qn,OQ,MX,Sa,AL,Ik]
def Qe(l:List Zh)(n:Int):Int:=match Kc l n with|some (v,_)=>v|none=> -1
theorem YA(hl:l.length<=1000000)(n:Int):Kc l n=K2 (Qe l n,()):=by
 obtain⟨v,e,-⟩:=Iq l n hl
 grind[Qe]
theorem rN(hl:l.length<=1000000)(n:Int):(Qe l n<0\/Qe l n<l.length)/\(Qe l n<0-> ∀s∈l,s.1≠n)/\(0<=Qe l n->(l.getD (Qe l n).toNat Zc).1=n):=by
 obtain⟨v,e,h⟩:=Iq l n hl
 grind[Qe]
theorem Qge{l:List Zh}(hl:l.length<=1000000)(n:Int):∀(N i:Nat),Qu N l (n,()) (l.length:Int) (i:Int)=Kd N l n (i:Int)
 |0,_=>rfl
 |N+1,i=>by
  rw[Qu,Kd];by_cases a:i<l.length
  ·rw[Zo (Zl),Zo (Zl),Zb,Zb,Zs a,Qge hl n N (i+1)];rfl
  grind
theorem uT(hl:l.length<=1000000)(n:Int):Z5 l n=Kc l n:=by unfold Z5 Yu;have:=Qge hl n (Kx l n 0) 0;rw[show Xw l (n,()) (l.length:Int) 0=Kx l n 0 from rfl];rw[L5]at this;rw[this];change Ld (Kc l n) _=_;cases Kc l n<;>rfl
theorem B3{K:Nat}{l:List Zh}{s:Zh}(h:mQ K l)(hs:Xx K s)(hK:K<=1000000)(a:Nat)(ha:a<l.length):∀(N i:Nat),l.length-i<N->i<=l.length->Ys N l s ((l.set a s).take i) (a:Int) K4 (i:Int)=K2 (l.set a s,())
 |0,_,h,_=>Aa
 |N+1,i,g,j=>by
  have k:=h.len;rw[Ys];by_cases f:i<l.length
  ·have c:∀x:Zh,((l.set a s).take i).length+[x].length<=Qg:=λx=>Aj
   have e:(l.set a s).take i++[ite (i=a) s (l.getD i Zc)]=(l.set a s).take (i+1):=by
    rw[Na Af,List.getElem_set];congr 2;by_cases b:i=a
    all_goals (simp_all<;>omega)
   rw[Zo (Zl),Zb,show(i:Int).toNat=i from rfl,yR (h.all _ (Z7 (d:=Zc) f)) hK,pA];by_cases b:i=a
   ·have:((i:Int)==(a:Int))=true:=Ae
    rw[this,pG,yR hs hK,pA];unfold Jc;rw[Zb (c _),Zs f];rw[if_pos b]at e;rw[e];exact B3 h hs hK a ha N (i+1) Aa Aa
   ·have:((i:Int)==(a:Int))=false:=Ae
    rw[this,pH,Zb (λh=>by cases h)];simp only[pI,Lp,pH];unfold Jc;rw[Zb (c _),Zs f];rw[if_neg b]at e;rw[e];exact B3 h hs hK a ha N (i+1) Aa Aa
  simp_all[Zk,M9]
theorem AD(h:mQ K l)(hs:Xx K s)(hK:K<=1000000)(hi:0<=Qe l s.1):Xe l s=K2 (l.set (Qe l s.1).toNat s,()):=by
 have a:=h.len;obtain⟨b,-,-⟩:=rN (l:=l) Aa s.1;unfold Xe;rw[YA Aa,pA,Zl];have:=B3 h hs hK (Qe l s.1).toNat Aa (aF l s ([]:List Zh) (Qe l s.1) K4 0) 0 (by simp[aF]) Aa
 grind
theorem dV(h:Qb K c)(hK:K<=1000000)(n:Int):Xy c n=K2 (ite (0<=Qe (c:Id) n) ((c:Id).getD (Qe (c:Id) n).toNat Zc,K4,()) (Zc,Lc,())):=by
 have b:=h.str.len;obtain⟨e,-,-⟩:=rN (l:=(c:Id)) Aa n;unfold Xy gH gJ;rw[YA Aa,pA];by_cases a:0<=Qe (c:Id) n
 ·rw[Zm (Zk),Zb,if_pos a,yR (h.str.all _ (Z7 (d:=Zc))) hK];rfl
 simp_all
theorem Qcg(l:List Zh)(i:Nat):l.set i (l.getD i Zc)=l:=by grind[List.set_getElem_self,List.set_eq_of_length_le]
def Jo(c:Z6):Int:=c.1+(c.2.1.length:Int)
def u0:Int->List Z6->Prop|_,[]=>True|e,c::l=>e<c.1/\c.2.1≠[]/\u0 (Jo c) l
def w4:List Z6->Int->Option UInt8|[],_=>Lj|c::l,n=>ite (c.1<=n/\n<Jo c) (c.2.1[(n-c.1).toNat]?) (w4 l n)
theorem TZ{c:Z6}(h:c.2.1≠[]):c.1<Jo c:=by grind[Jo,Mg]
theorem EC:∀{l:List Z6}{e n:Int},u0 e l->n<=e->w4 l n=Lj
 |[],_,_,_,_=>rfl
 |c::l,e,n,⟨d,a,b⟩,f=>by
  unfold w4;rw[if_neg Aa];exact EC b (by have:=TZ a;omega)
theorem EM{c:Z6}{l:List Z6}{e:Int}(h:u0 e (c::l)):w4 (c::l) c.1≠none:=by have:=TZ h.2.1;unfold w4;rw[if_pos ⟨Lg _,this⟩,Int.sub_self];have a:=Mg.2 h.2.1;simp_all
theorem Qow{c:Z6}{l:List Z6}{e:Int}(h:u0 e (c::l)):w4 (c::l) (Jo c)=none:=by unfold w4;rw[if_neg Aa];exact EC h.2.2 (Lg _)
theorem Pk{c:Z6}{l:List Z6}(h1:c.1<=n)(h2:n<Jo c):w4 (c::l) n=c.2.1[(n-c.1).toNat]? :=by simp_all[w4]
theorem Z96{c:Z6}{l:List Z6}(h1:c.1<=n)(h2:n<Jo c):w4 (c::l) n≠none:=by grind[Pk,Jo]
theorem Qaa:∀{l m:List Z6}{e e':Int},u0 e l->u0 e' m->(∀n,w4 l n=w4 m n)->l=m
 |[],[],_,_,_,_,_=>rfl
 |[],d::m,_,_,_,h,b=>absurd (b d.1).symm (EM h)
 |c::l,[],_,_,h,_,b=>absurd (b c.1) (EM h)
 |c::l,d::m,e,e',h,f,b=>by
  have i:c.1=d.1:=by
   rcases Int.lt_trichotomy c.1 d.1 with a|a|a
   ·have:=EM h;rw[b,EC (e:=c.1) (l:=d::m) ⟨a,f.2⟩ (Lg _)]at this;simp_all
   ·exact a
   ·have:=EM f;rw[<-b,EC (e:=d.1) (l:=c::l) ⟨a,h.2⟩ (Lg _)]at this;simp_all
  have k:Jo c=Jo d:=by
   grind[Jo,Qow,Z96]
  have o:c.2.1=d.2.1:=by
   have p:c.2.1.length=d.2.1.length:=Aw
   refine List.ext_getElem? λj=>?_;by_cases q:j<c.2.1.length
   ·have:=b (c.1+(j:Int))
    grind[Pk,Jo]
   simp_all
  have g:c=d:=by
   grind
  subst g;refine congrArg (c:: ·) (Qaa h.2.2 f.2.2 λn=>?_);by_cases r:n<Jo c
  ·rw[EC h.2.2 Aa,EC f.2.2 Aa]
  ·have:=b n;simp_all[w4,if_neg]
theorem n8:∀{l:List Z6}{e:Int},EF e l=K4-> -1<=e->(∀c∈l,c.2.1.length<=1000000)->u0 e l/\ ∀c∈l,0<=c.1/\Jo c<=4611686018427387903
 |[],_,_,_,_=>⟨trivial,λ_ h=>by cases h⟩
 |c::l,e,h,j,a=>by
  simp only[EF,pC,Mi,Lt,decide_eq_false_iff_not,beq_eq_false_iff_ne]at h;have d:=a c L6;obtain⟨⟨⟨k,f⟩,g⟩,b⟩:=h;rw[Zr]at g;have m:Jo c<=4611686018427387903:=Aw
  rw[Zr]at b;obtain⟨i,n⟩:=n8 b Aa λx hx=>a x (Mc _ hx);refine⟨⟨Aa,f,i⟩,λx hx=>?_⟩
  grind
def BI:Int->List Z6->Prop|_,[]=>True|e,c::l=>e<=c.1/\c.2.1≠[]/\BI (Jo c) l
theorem Qjd{e e':Int}(h:e'<=e):∀{l:List Z6},BI e l->BI e' l
 |[],_=>trivial
 |c::l,⟨d,a,b⟩=>⟨Aa,a,b⟩
def Ov(c:Z6):List Z6->List Z6|[]=>[c]|d::l=>ite (Jo c=d.1) (Ov (c.1,c.2.1++d.2.1,()) l) (c::Ov d l)
theorem CU:∀{l:List Z6}{c:Z6}{e:Int},e<c.1->c.2.1≠[]->BI (Jo c) l->u0 e (Ov c l)
 |[],c,e,a,b,_=>⟨a,b,trivial⟩
 |d::l,c,e,a,b,⟨i,f,g⟩=>by
  unfold Ov;split
  ·rename_i h;refine CU (l:=l) (c:=(c.1,c.2.1++d.2.1,())) a (by simp[b]) ?_
   grind[Jo]
  ·rename_i h;exact⟨a,b,CU Aa f g⟩
theorem Qfv:∀{l:List Z6}{e n:Int},BI e l->n<e->w4 l n=Lj
 |[],_,_,_,_=>rfl
 |c::l,e,n,⟨d,a,b⟩,f=>by
  unfold w4;rw[if_neg Aa];exact Qfv b (by have:=TZ a;omega)
theorem Rm:∀{l:List Z6}{c:Z6},c.2.1≠[]->BI (Jo c) l-> ∀n,w4 (Ov c l) n=w4 (c::l) n
 |[],c,_,_,n=>rfl
 |d::l,c,e,⟨i,f,g⟩,n=>by
  unfold Ov;split
  ·rename_i j;have h:Jo (c.1,c.2.1++d.2.1,())=Jo d:=by
    grind[Jo]
   rw[Rm (l:=l) (c:=(c.1,c.2.1++d.2.1,())) (by simp[e]) (by rw[h];exact g) n];have k:=TZ e;have m:=TZ f;unfold w4;rw[h];by_cases a:c.1<=n/\n<Jo c
   ·rw[if_pos Ai,if_pos a]
    grind[Jo]
   ·rw[if_neg a];by_cases b:d.1<=n/\n<Jo d
    ·rw[if_pos Ai];unfold w4;rw[if_pos b]
     grind[Jo]
    simp_all[if_neg,w4]<;>omega
  ·unfold w4;rw[Rm f g n]
theorem Qab{c:Z6}(h:0<=c.1)(h2:Jo c<=4611686018427387903):gi c=K2 (Jo c,()):=by
 unfold Jo at*
 show K2 (Lb.wrap (c.1+(c.2.1.length:Int)),())=_
 grind[Zr]
theorem Qiz(pre:List Z6)(c:Z6):(pre++[c]).getD pre.length Qr=c:=by simp[List.getD]
theorem Qmk(pre:List Z6)(c d:Z6):(pre++[c]).set pre.length d=pre++[d]:=by simp_all
theorem Qj1{t:List Z6}(hi:i<t.length):nP (t.drop i)=(t.getD i Qr).2.1.length+nP (t.drop (i+1)):=by rw[Q1 (d:=Qr) hi];rfl
theorem qN{t:List Z6}(ht:t.length<=4000000)(hb:∀c∈t,0<=c.1/\Jo c<=4611686018427387903):∀(N i:Nat)(pre:List Z6)(c:Z6),t.length-i<N->i<=t.length->pre.length+1<=i->0<=c.1->Jo c<=4611686018427387903->c.2.1.length+nP (t.drop i)<=1000000000->
  lu N (pre++[c]) t (t.length:Int) (i:Int)=K2 (pre++Ov c (t.drop i),())
 |0,_,_,_,h,_,_,_,_,_=>Aa
 |N+1,i,pre,c,m,n,o,g,k,q=>by
  unfold lu gH gL tT;by_cases b:i<t.length
  ·have j:=hb _ (Z7 (d:=Qr) b);have l:=Qj1 b;have a:(pre++[c]).length=pre.length+1:=Ac
   have f:Lb.wrap (((pre++[c]).length:Int)-1)=(pre.length:Int):=Ao
   rw[Zo (Zl),Zb];simp only[f];rw[Zb,Zl (p:=(pre.length:Int)>=0),pG,Int.toNat_natCast,Qiz,Qab g k,pA,pJ];rw[show(i:Int).toNat=i from rfl,Zs b];rw[Q1 (d:=Qr) b];generalize t.getD i Qr=d at*
   unfold Ov;by_cases e:Jo c=d.1
   ·rw[if_pos e,beq_iff_eq.2 e,pG,Zb (by rw[a];omega),Zb Al,Zb (by rw[a];omega),Qmk];have r:Jo (c.1,c.2.1++d.2.1,c.2.2)=Jo d:=by
     grind[Jo]
    exact qN ht hb N (i+1) pre _ Aa Aa Aa g Aa Ag
   ·rw[if_neg e,beq_false_of_ne e,pH,Zb Aj];have:=qN ht hb N (i+1) (pre++[c]) d Aa Aa (by rw[a];omega) j.1 j.2 Aa;simp_all
  ·rw[Zm (Zk),Mm Aa];rfl
def yl:List Z6->List Z6|[]=>[]|c::l=>Ov c l
theorem Qwv{t:List Z6}(ht:t.length<=4000000)(hb:∀c∈t,0<=c.1/\Jo c<=4611686018427387903)(hs:nP t<=1000000000):zM t=K2 (yl t,()):=by
 unfold zM;cases t with
 |nil=>rfl
 |cons c l=>
  have b:xJ ([]:List Z6) (c::l) ((c::l).length:Int) (0:Int)=l.length+2:=by
   rfl
  rw[b];have h:=hb c L6;have d:nP (c::l)=c.2.1.length+nP l:=rfl;unfold lu gH gL tT;rw[Zo (Zl Af),Zb Af];have a:Lb.wrap ((([]:List Z6).length:Int)-1)= -1:=Ah
  simp only[a];rw[Zb Af,Zk (p:=(-1:Int)>=0),pH,pA,Lp,pH,Zb (by simp[Qg])];have:=qN ht hb (l.length+1) 1 [] c Af Af (Lo _) h.1 h.2 Af;exact this
def Dm(o:Int)(d:Ba)(a b:Int):List Z6:=ite (a<b) [(a,(d.drop (a-o).toNat).take ((b-o).toNat- (a-o).toNat),())] []
def fw(o:Int)(d:Ba)(e:Int):Int->List Z6->List Z6|f,[]=>Dm o d f e|f,c::l=>Dm o d f (min c.1 e)++c::fw o d e (max f (Jo c)) l
theorem Qjk{b:Int}(h1:o<=a)(h2:a<b)(h3:b<=o+(d.length:Int)):(((d.drop (a-o).toNat).take ((b-o).toNat- (a-o).toNat)).length:Int)=b-a:=by grind
theorem SG{b:Int}(h1:o<=a)(h2:a<b)(h3:b<=o+(d.length:Int):=by omega):Jo (a,(d.drop (a-o).toNat).take ((b-o).toNat- (a-o).toNat),())=b:=by grind[Jo]
theorem Qbw{b:Int}(h1:o<=a)(h2:a<b)(h3:b<=o+(d.length:Int)):(d.drop (a-o).toNat).take ((b-o).toNat- (a-o).toNat)≠[]:=λh=>by
 grind[Qjk]
theorem DM{o:Int}{d:Ba}:∀{l:List Z6}{f L:Int},o<=f->L<=f->BI L l->BI L (fw o d (o+(d.length:Int)) f l)
 |[],f,L,a,b,_=>by
  unfold fw Dm;split
  ·rename_i h;exact⟨b,Qbw a h (Lg _),trivial⟩
  ·trivial
 |c::l,f,L,a,b,⟨i,e,j⟩=>by
  have g:=DM (o:=o) (l:=l) (f:=max f (Jo c)) (L:=Jo c) (d:=d) Aa Aa j;unfold fw Dm;split
  ·rename_i h;have k:=SG (d:=d) a h;exact⟨b,Qbw a h Aa,by rw[k];omega,e,g⟩
  ·exact⟨i,e,g⟩
theorem Qjl:∀{l:List Z6}{f L:Int},o<=f->BI L l-> ∀n,w4 (fw o d (o+(d.length:Int)) f l) n=match w4 l n with|some v=>K2 v|none=>ite (f<=n/\n<o+(d.length:Int)) (d[(n-o).toNat]?) none:=by
 have i:∀{a b n:Int}{r:List Z6},o<=a->b<=o+(d.length:Int)->w4 (Dm o d a b++r) n=ite (a<=n/\n<b) (d[(n-o).toNat]?) (w4 r n):=by
  intro a b n r e j;unfold Dm;split
  ·rename_i h;rw[List.singleton_append];unfold w4;rw[SG e h j];simp only;by_cases k:a<=n/\n<b
   ·grind
   ·rw[if_neg k,if_neg k];cases r<;>rfl
  grind
 intro l
 induction l with
 |nil=>
  intro f L e _ n;unfold fw;have:=i (a:=f) (b:=o+(d.length:Int)) (n:=n) (r:=[]) e (Lg _);rw[M4]at this;rw[this];rfl
 |cons c l m=>
  intro f L e h n;obtain⟨j,p,q⟩:=h;have t:=TZ p;unfold fw;rw[i e Aa];have s:=m (f:=max f (Jo c)) (L:=Jo c) Aa q n;by_cases g:c.1<=n/\n<Jo c
  ·rw[if_neg Aa,Pk g.1 g.2,Pk g.1 g.2]
   grind[Jo]
  ·have u:∀r:List Z6,w4 (c::r) n=w4 r n:=λr=>by
    rw[w4,if_neg g]
   grind(splits:=20)[Qfv]
theorem Z3s:∀{l:List Z6}{e:Int},BI e l->l.Pairwise (λx y=>x.1<y.1)/\ ∀c∈l,e<=c.1
 |[],_,_=>⟨Ny,λ_ h=>by cases h⟩
 |c::l,e,⟨f,a,b⟩=>by
  obtain⟨d,g⟩:=Z3s b;have i:=TZ a;refine⟨Nx (λy j=>Ag) d,λx hx=>?_⟩
  grind
theorem Qxt{l:List Z6}{e:Int}(h:BI e l)(h0:0<=e)(hb:∀c∈l,c.1<=4611686018427387904)(hl:l.length<=4000000):sa l=K2 ((),l):=by
 obtain⟨a,f⟩:=Z3s h;have b:(l.map λx=>x.1).Nodup:=by
  grind
 have d:l.mergeSort (λx y=>K3 (x.1<=y.1))=l:=List.mergeSort_of_pairwise (a.imp λh=>decide_eq_true (Int.le_of_lt h))
 grind[sa,zX,Zb]
theorem G3{b:Zx}{o:Int}{d:Ba}{t6:Zx}{t X:List Z6}(ht:t.length<=1000000)(hb:∀c∈t,0<=c.1/\Jo c<=4611686018427387903)(ho:0<=o)(he:o+(d.length:Int)<=4611686018427387903)
  (hX:BI 0 X) (hXb:∀c∈X,0<=c.1/\Jo c<=4611686018427387903) (hXl:X.length<=4000000) (hXs:nP X<=1000000000):∀(N i:Nat)(f:Int)(l:List Z6),t.length-i<N->i<=t.length->o<=f->f<=4611686018427387903->l++fw o d (o+(d.length:Int)) f (t.drop i)=X->
  fb N b o d t6 f (o+(d.length:Int)) l t (t.length:Int) (i:Int)=K2 ((b.1,yl X,()),())
 |0,_,_,_,h,_,_,_,_=>Aa
 |N+1,i,f,l,v,w,x,s,hx=>by
  have a:=congrArg Nq hx;rw[Lv]at a;have fin:∀Y:List Z6,Y=X->Ld (sa Y) (λj=>Ld (zM j.2) λk=>K2 ((b.1,k.1,()),()))=K2 ((b.1,yl X,()),()):=by
   rintro Y rfl;rw[Qxt hX (Lg _) (λc m=>Aw) hXl,pA,Qwv hXl hXb hXs,pA]
  unfold fb gH gL;by_cases n:i<t.length
  ·have m:=hb _ (Z7 (d:=Qr) n);rw[Q1 (d:=Qr) n]at hx a;rw[Zo (Zl),Zb,show(i:Int).toNat=i from rfl,Zs n];have p:=Qab m.1 m.2;generalize t.getD i Qr=c at*
   rw[fw]at hx a;simp only[Lv,Lf]at a;have u:c.1<=Jo c:=Aw
   by_cases e:f<min c.1 (o+(d.length:Int))
   ·have q:Lb.wrap (min c.1 (o+(d.length:Int))-o)=min c.1 (o+(d.length:Int))-o:=Zr;have r:Lb.wrap (f-o)=f-o:=Zr;have g:Dm o d f (min c.1 (o+(d.length:Int)))=[(f,(d.drop (f-o).toNat).take ((min c.1 (o+(d.length:Int))-o).toNat- (f-o).toNat),())]:=if_pos e;rw[Zo (Zl e)];simp only[q,r];rw[g]at hx a;simp only[Nr]at a;rw[Zb,Zb Aj,Zb Aj,p,pA];exact G3 ht hb ho he hX hXb hXl hXs N (i+1) _ _ Aa Aa Aa Aa Af
   ·have g:Dm o d f (min c.1 (o+(d.length:Int)))=[]:=if_neg e;rw[Zm (Zk e)];rw[g]at hx a;rw[Zb Aj,p,pA];exact G3 ht hb ho he hX hXb hXl hXs N (i+1) _ _ Aa Aa Aa Aa Af
  ·rw[Zm (Zk),Int.min_self];rw[Mm Aa,fw]at hx a;by_cases e:f<o+(d.length:Int)
   ·have q:Lb.wrap (o+(d.length:Int)-o)=o+(d.length:Int)-o:=Zr;have r:Lb.wrap (f-o)=f-o:=Zr;have g:Dm o d f (o+(d.length:Int))=[(f,(d.drop (f-o).toNat).take ((o+(d.length:Int)-o).toNat- (f-o).toNat),())]:=if_pos e;rw[Zo (Zl e)]
    grind[Zb,Qg]
   simp_all[Dm,Zk]
theorem Z3x(o:Int)(d:Ba)(e:Int):∀(l:List Z6)(f:Int),(fw o d e f l).length<=2*l.length+1
 |[],f=>by
  grind[fw,Dm]
 |c::l,f=>by
  have:=Z3x o d e l (max f (Jo c))
  grind[fw,Dm]
theorem Z3y{o:Int}{d:Ba}:∀{l:List Z6}{f:Int},o<=f->(∀c∈l,c.1<=Jo c)->(nP (fw o d (o+(d.length:Int)) f l):Int)<=nP l+max 0 (o+(d.length:Int)-f)
 |[],f,h,_=>by
  unfold fw Dm;split
  all_goals (simp_all[nP]<;>omega)
 |c::l,f,h,a=>by
  have b:=Z3y (o:=o) (d:=d) (l:=l) (f:=max f (Jo c)) Aa λx hx=>a x (Mc _ hx)
  grind[fw,Dm,nP]
theorem Qbx{o:Int}{d:Ba}(h0:0<=o)(he:o+(d.length:Int)<=4611686018427387903):∀{l:List Z6}{f:Int},o<=f->(∀c∈l,0<=c.1/\Jo c<=4611686018427387903)-> ∀c∈fw o d (o+(d.length:Int)) f l,0<=c.1/\Jo c<=4611686018427387903
 |[],f,h,_,c,hc=>by
  simp_all[fw,Dm,SG]<;>omega
 |x::l,f,h,a,c,hc=>by
  unfold fw Dm at hc;rcases Mn.1 hc with hc|hc
  ·split at hc
   ·rename_i b;rw[Nt.1 hc,SG h b];omega
   ·cases hc
  ·rcases Ly.1 hc with rfl|hc
   ·simp_all
   ·exact Qbx h0 he Aa (λy e=>a y (Mc _ e)) c hc
theorem qR{e:Int}:∀{l:List Z6}{e:Int},u0 e l->BI e l
 |[],_,_=>trivial
 |_::_,_,⟨c,a,b⟩=>⟨Aa,a,qR (e:=e) b⟩
def Ro(b:Zx)(o:Int)(d:Ba):Zx:=cond ((((!ZF b||(d==([]:Ba)))||K3 (o<0))||K3 (o>4611686018427387903- (d.length:Int)))||K3 (o+(d.length:Int)<=b.1)) b (b.1,yl (fw o d (o+(d.length:Int)) (max o b.1) b.2.1),())
theorem uP(h:iv K b)(hK:K<=1000000):dX b=K2 (b,()):=by
 have:=h.len
 grind[dX,Zb,Qg]
theorem Qbb(h:iv K b)(o:Int)(d:Ba)(hK:K+d.length<=1000000)(hoB:o<=4611686018427387904):yI b o d=K2 (Ro b o d,()):=by
 have t:=h.len;have u:=h.tot;unfold yI Ro;rw[D5 h Aa,pA];simp only;cases hb:ZF b
 ·grind[uP]
 simp only[pI,Le];rw[Zr];by_cases g:(d==([]:Ba))=K4
 ·grind[uP]
 rw[Nf]at g;rw[g];simp only[Le];by_cases k:o<0
 ·grind[uP]
 rw[Zk k,Le];by_cases m:o>4611686018427387903- (d.length:Int)
 ·grind[uP]
 rw[Zk m,Le,Zr];by_cases n:o+(d.length:Int)<=b.1
 ·grind[uP]
 rw[Zk n];simp only[Ll,pH,Xm];unfold ZF at hb;simp only[pC,Wv]at hb;rw[Zr]at hb;obtain⟨i,j⟩:=n8 hb.1 Aa λc p=>by have:=E6 p;omega
 have a:∀c∈b.2.1,c.1<=Jo c:=λc _=>Aw
 unfold zo oU;have q:BI 0 (fw o d (o+(d.length:Int)) (max o b.1) b.2.1):=by
  refine DM Aa Aa ?_;have:=qR (e:=0) i;cases hbl:b.2.1 with
  |nil=>trivial
  |cons c l=>
   rw[hbl]at i this;exact⟨Af,this.2⟩
 have r:=Z3y (o:=o) (d:=d) (l:=b.2.1) (f:=max o b.1) Aa a;have s:=Z3x o d (o+(d.length:Int)) b.2.1 (max o b.1);exact G3 Aa j Aa Aa q (Qbx Aa Aa Aa j) Aa Aa _ 0 _ [] Aa Aa Aa Aa rfl
def bv:Option UInt8->Int|some v=>(v.toNat:Int)|none=> -1
theorem Z5u{b:Zx}{n:Int}(h0:0<=n)(h1:n<=4611686018427387903)(hl:b.2.1.length<=1000000)(hq:∀c∈b.2.1,0<=c.1/\Jo c<=4611686018427387903):∀(N i:Nat),b.2.1.length-i<N->i<=b.2.1.length->
  ic N n b (i:Int)=K2 (bv (w4 (b.2.1.drop i) n),())
 |0,_,h,_=>Aa
 |N+1,i,k,l=>by
  unfold ic gH gL;by_cases a:i<b.2.1.length
  ·have g:=hq _ (Z7 (d:=Qr) a);rw[Zo (Zl),Zb,show(i:Int).toNat=i from rfl,Zs a,Q1 (d:=Qr) a,Z5u h0 h1 hl hq N (i+1) Aa Aa];generalize b.2.1.getD i Qr=c at*
   have j:c.1<=Jo c:=Aw
   rw[Zr];simp only;rw[Zb (by intro _;omega),Zb (by intro _;omega),Zl (p:=n>=0) h0,Zl (p:=c.1>=0) g.1,pJ,pJ,w4];by_cases f:c.1<=n/\n<Jo c
   ·have e:n-c.1<(c.2.1.length:Int):=Aw
    have hk:(n-c.1).toNat<c.2.1.length:=Aa
    rw[if_pos f,Zl (p:=n-c.1>=0),Zl (p:=n-c.1<(c.2.1.length:Int)) e,pJ,pG,Zb,Zb,List.getElem?_eq_getElem hk];have:c.2.1.getD (n-c.1).toNat 0=c.2.1[(n-c.1).toNat]:=Af
    rw[this];have hv:=Nc c.2.1[(n-c.1).toNat];rw[Zr];rfl
   ·rw[if_neg f]
    grind(splits:=20)[Jo]
  ·rw[Zm (Zk),Mm Aa];rfl
theorem Qo0(h0:0<=n)(h1:n<=4611686018427387903)(hl:b.2.1.length<=1000000)(hq:∀c∈b.2.1,0<=c.1/\Jo c<=4611686018427387903):z6 b n=K2 (bv (w4 b.2.1 n),()):=by grind[z6,Z5u,oH]
set_option maxRecDepth 100000 in
theorem Qv8:∀k:Fin 256,bits .and .i64 ((k.val:Nat):Int) 255=((k.val:Nat):Int):=Ah
theorem Qp8(v:UInt8):eh (v.toNat:Int)=K2 ([v],()):=by
 have hv:=Nc v;have a:bits .and .i64 (v.toNat:Int) 255=(v.toNat:Int):=Qv8 ⟨v.toNat,Aa⟩;unfold eh qc;rw[a,show Z8 1 1 7=K2 (K4,())from rfl];simp only[pA,pI,Le];rw[Zm (Zk)];show Ld (Yy 2 (v.toNat:Int) 1 [] 0) _=_;unfold Yy;rw[Zo Ah,Zb Ah];simp only;rw[Zb (by simp[Ym,Xf]),Zb Ah];unfold Yy;have b:L0 (v.toNat:Int) 256=0:=Int.tdiv_eq_zero_of_lt Aa Aa;have c:Ln (v.toNat:Int) 256=(v.toNat:Int):=Int.tmod_eq_of_lt Aa Aa;rw[show Lb.wrap ((0:Int)+1)=1 from rfl,Zm Ah,b,c,show Lb.wrap 0=0 from rfl,Zk (p:=(0:Int)>0),pH,pA];have d:L3.wrap (v.toNat:Int)=(v.toNat:Int):=by grind[Ml,Mk,M2]
 simp_all[Xf]
def DZ(b:Zx)(o:Int)(d:Ba)(n:Int):UInt8:=match w4 b.2.1 n with|some v=>v|none=>d.getD (n-o).toNat 0
def NI(b:Zx)(o:Int)(d:Ba):Int->Nat->Ba|_,0=>[]|a,m+1=>DZ b o d a::NI b o d (a+1) m
theorem Hk(b:Zx)(o:Int)(d:Ba):∀(m:Nat)(a:Int),(NI b o d a m).length=m
 |0,_=>rfl
 |m+1,a=>by rw[NI,Lf,Hk b o d m]
theorem Qcr(b:Zx)(o:Int)(d:Ba):∀(m:Nat)(a:Int)(j:Nat),j<m->(NI b o d a m)[j]? =K2 (DZ b o d (a+(j:Int)))
 |0,_,_,h=>Aa
 |m+1,a,0,_=>by rw[NI];simp
 |m+1,a,j+1,h=>by
  rw[NI,List.getElem?_cons_succ,Qcr b o d m (a+1) j Aa];congr 2;omega
theorem Qp2(hbl:b.2.1.length<=1000000)(hq:∀c∈b.2.1,0<=c.1/\Jo c<=4611686018427387903)(K1:(Int×Ba×Zx×Zx×Zx×List Zi×Int×Unit)->Oa Zx)(ho:0<=o)(t x:Zx)(l:List Zi)(hi:i<l.length){r:Zi}(hr:l.getD i Z3=r)
  (h0:0<=r.1) (hH:r.2.1<=4611686018427387903) (hx:x.2.1.length<=1000000) (hin:∀n,r.1<=n->n<r.2.1->w4 b.2.1 n≠Lj\/(o<=n/\n<o+(d.length:Int))):
  ∀(N m:Nat)(s:Ba),(m:Int)<=r.2.1-r.1->m<N->(s.length:Int)+m<=4000000->
   Ke K1 N o d b t x l (i:Int) s (r.2.1- (m:Int))=K1 (o,d,b,t,(x.1,x.2.1++[(r.1,s++NI b o d (r.2.1- (m:Int)) m,())],x.2.2),l,Lb.wrap ((i:Int)+1),()):=by
 intro N
 induction N with
 |zero=>omega
 |succ N g=>
 intro m s j k p;cases m with
 |zero=>
  unfold Ke gH gK;rw[Zb,show(i:Int).toNat=i from rfl,hr,Zm (Zk),Zb]
  grind[Zb,Qg,NI]
 |succ m=>
  have e:r.2.1- ((m+1:Nat):Int)+1=r.2.1- (m:Int):=Aa
  have a:∀v:UInt8,v=DZ b o d (r.2.1- ((m+1:Nat):Int))->bV K1 (λv=>Ke K1 N v.1 v.2.1 v.2.2.1 v.2.2.2.1 v.2.2.2.2.1 v.2.2.2.2.2.1 (v:Zbs).1 (v:Zbs).2.1 (v:Zbs).2.2.1) o d b t x l (i:Int) s (r.2.1- ((m+1:Nat):Int)) (v.toNat:Int)=
    K1 (o,d,b,t,(x.1,x.2.1++[(r.1,s++NI b o d (r.2.1- ((m+1:Nat):Int)) (m+1),())],x.2.2),l,Lb.wrap ((i:Int)+1),()):=by
   grind[bV,Qp8,Zb,Ym,Zr,NI]
  unfold Ke gH gK;rw[Zb,show(i:Int).toNat=i from rfl,hr,Zo (Zl),Qo0 Aa Aa hbl hq,pA];have f:=hin (r.2.1- ((m+1:Nat):Int)) Aa Aa;cases ha:w4 b.2.1 (r.2.1- ((m+1:Nat):Int))with
  |none=>
   rw[ha]at f;have f:=f.resolve_left (λh=>h rfl);rw[show K3 ((bv (none:Option UInt8),()).1<(0:Int))=K4 from rfl,pG,Zr (n:=r.2.1- ((m+1:Nat):Int)-o),Zb];have hv:=Nc (d.getD (r.2.1- ((m+1:Nat):Int)-o).toNat 0);rw[Zr];simp_all[DZ]
  |some v=>
   rw[show K3 ((bv (K2 v),()).1<(0:Int))=Lc from Zk (show ¬((v.toNat:Int)<0) by omega),pH];exact a v (by simp_all[DZ])
theorem N6(n:Int):¬lp n []:=λ⟨x,hx,_⟩=>by cases hx
theorem Fb{x:Zi}{l:List Zi}:lp n (x::l)↔(x.1<=n/\n<x.2.1)\/lp n l:=by
 constructor
 ·rintro⟨y,hy,h⟩;rcases Ly.1 hy with rfl|hy
  ·exact .inl h
  ·exact .inr ⟨y,hy,h⟩
 ·rintro(h|⟨y,hy,h⟩)
  ·exact⟨x,L6,h⟩
  ·exact⟨y,Mc _ hy,h⟩
theorem Qpz:∀{l:List Zi}{r:Zi},lp n (nR l r)↔lp n l\/(r.1<=n/\n<r.2.1)
 |l,r=>⟨Dt,in_addR' l r⟩
where in_addR' {n:Int}:∀(l:List Zi)(r:Zi),lp n l\/(r.1<=n/\n<r.2.1)->lp n (nR l r)
 |[],r,h=>⟨r,by simp[nR],h.resolve_left (N6 n)⟩
 |x::l,r,h=>by
  unfold nR;split
  ·refine Fb.2 ?_;rcases h with h|h
   ·rcases Fb.1 h with h|h
    ·exact .inl h
    ·exact .inr (in_addR' l r (.inl h))
   ·exact .inr (in_addR' l r (.inr h))
  ·split
   ·grind[Fb]
   ·refine in_addR' l _ ?_
    grind[Fb]
def WS(b:Zx)(o:Int)(d:Ba)(r:Zi):Z6:=(r.1,NI b o d r.1 (r.2.1-r.1).toNat,())
theorem Qhk(b:Zx)(o:Int)(d:Ba){r:Zi}(h:r.1<=r.2.1:=by omega):Jo (WS b o d r)=r.2.1:=by grind[Jo,WS,Hk]
theorem Qgq{b:Zx}(hbl:b.2.1.length<=1000000)(hq:∀c∈b.2.1,0<=c.1/\Jo c<=4611686018427387903){o:Int}(ho:0<=o){d:Ba}(t:Zx){l:List Zi}(hl:l.length<=1000000)(hf:∀r∈l,iO r=K4)(hc:∀r∈l,r.2.1-r.1<=2000000)
  (hin:∀n,lp n l->w4 b.2.1 n≠Lj\/(o<=n/\n<o+(d.length:Int))):∀(N i:Nat)(x:Zx),l.length-i<N->i<=l.length->x.2.1.length<=i->
   Vq N o d b t x l (i:Int)=K2 ((x.1,x.2.1++(l.drop i).map (WS b o d),x.2.2),())
 |0,_,_,h,_,_=>Aa
 |N+1,i,x,p,s,hx=>by
  unfold Vq gH gK;by_cases h:i<l.length
  ·have a:=Z7 (d:=Z3) h;have e:=Xs.1 (hf _ a);have j:=hc _ a;rw[Zo (Zl),Zb,show(i:Int).toNat=i from rfl,Q1 (d:=Z3) h,Mb];generalize m:l.getD i Z3=r at*
   have k:=Qp2 hbl hq (λv=>Vq N v.1 v.2.1 v.2.2.1 v.2.2.2.1 v.2.2.2.2.1 v.2.2.2.2.2.1 v.2.2.2.2.2.2.1) ho t x l h m e.1 Aa Aa (λn f g=>hin n ⟨r,a,f,g⟩) (Wx o d b t x l (i:Int) [] r.1) (r.2.1-r.1).toNat [] Aa
    (by simp_all[Wx]) Ag
   rw[show r.2.1- (((r.2.1-r.1).toNat:Nat):Int)=r.1 by omega]at k;rw[k,Zs h];have q:=Qgq hbl hq ho (d:=d) t hl hf hc hin N (i+1) (x.1,x.2.1++[WS b o d r],x.2.2) Aa Aa Af;refine Lm q ?_;simp_all
  grind
theorem Qhj(b:Zx)(o:Int)(d:Ba):∀{l:List Zi}{e:Int},Hl e l=K4->u0 e (l.map (WS b o d))
 |[],_,_=>trivial
 |r::l,e,h=>by
  simp only[Hl,pC,decide_eq_true_eq]at h;have c:=Xs.1 h.1.1;refine⟨h.1.2,?_,?_⟩
  ·intro a;have:=congrArg Nq a
   grind[WS,Hk]
  ·rw[Qhk b o d];exact Qhj b o d h.2
theorem Qnr(b:Zx)(o:Int)(d:Ba):∀{l:List Zi}{n:Int},(∀r∈l,iO r=K4)->(lp n l->w4 (l.map (WS b o d)) n=K2 (DZ b o d n))/\(¬lp n l->w4 (l.map (WS b o d)) n=Lj)
 |[],n,_=>⟨λh=>absurd h (N6 n),λ_=>rfl⟩
 |r::l,n,h=>by
  have c:=Xs.1 (h r L6);obtain⟨e,f⟩:=Qnr b o d (l:=l) (n:=n) λx hx=>h x (Mc _ hx);rw[Mb,w4,Qhk b o d];show(_->(ite (r.1<=n/\n<r.2.1) ((NI b o d r.1 (r.2.1-r.1).toNat)[(n-r.1).toNat]?) _)=_)/\(_->(ite (r.1<=n/\n<r.2.1) ((NI b o d r.1 (r.2.1-r.1).toNat)[(n-r.1).toNat]?) _)=_)
  by_cases a:r.1<=n/\n<r.2.1
  ·rw[if_pos a,Qcr b o d _ _ _ Aa,show r.1+(((n-r.1).toNat:Nat):Int)=n by omega];exact⟨λ_=>rfl,λh=>absurd ⟨r,L6,a⟩ h⟩
  ·rw[if_neg a]
   grind[Fb]
theorem Qfu:∀{l:List Z6}{n:Int},w4 l n≠Lj↔lp n (l.map Po)
 |[],n=>⟨λh=>absurd rfl h,λh=>absurd h (N6 n)⟩
 |c::l,n=>by
  rw[Mb,Fb,<-Qfu (l:=l)];unfold Po;simp only;by_cases a:c.1<=n/\n<Jo c
  ·have:c.1<=n/\n<c.1+(c.2.1.length:Int):=a;simp_all[Z96]
  ·have b:¬(c.1<=n/\n<c.1+(c.2.1.length:Int)):=a;rw[w4,if_neg a]
   grind
theorem Qwu(h:iv K b)(o:Int)(d:Ba)(hK:K+d.length+1<=1000000)(hb:ZF b=K4)(hdl:0<d.length)(h1:¬o<0)(h2:¬o>4611686018427387903- (d.length:Int))(h3:¬o+(d.length:Int)<=b.1):
  Hl (b.1-1) (nR (b.2.1.map Po) (max o b.1,o+(d.length:Int),()))=K4/\(∀n,lp n (nR (b.2.1.map Po) (max o b.1,o+(d.length:Int),()))↔w4 b.2.1 n≠Lj\/(max o b.1<=n/\n<o+(d.length:Int)))/\
  (nR (b.2.1.map Po) (max o b.1,o+(d.length:Int),())).map (WS b o d)=yl (fw o d (o+(d.length:Int)) (max o b.1) b.2.1):=by
 have x:=h.len;have y:=h.tot;obtain⟨z,A,m⟩:=zf Aa hb;have j:Hl (-1) (b.2.1.map Po)=true:=BT m Aa;have i:iO (max o b.1,o+(d.length:Int),())=true:=Xs.2 Ai;have f:=BY j i Ai;have a:=hb;unfold ZF at a;simp only[pC]at a;rw[Zr]at a;obtain⟨k,B⟩:=n8 a.1 Aa λc p=>by have:=E6 p;omega
 have q:∀r∈nR (b.2.1.map Po) (max o b.1,o+(d.length:Int),()),iO r=true:=λr s=>(XL f r s).2;have t:∀n,lp n (nR (b.2.1.map Po) (max o b.1,o+(d.length:Int),()))↔w4 b.2.1 n≠Lj\/(max o b.1<=n/\n<o+(d.length:Int)):=λn=>by rw[Qpz,Qfu]
 refine⟨BY m i Ai,t,?_⟩;have u:∀c∈b.2.1,c.1<=Jo c:=λc _=>Aw
 have g:BI 0 (fw o d (o+(d.length:Int)) (max o b.1) b.2.1):=by
  refine DM Aa Aa ?_;have:=qR (e:=0) k;cases hbl:b.2.1 with
  |nil=>trivial
  |cons c l=>
   rw[hbl]at k this;exact⟨Af,this.2⟩
 have v:u0 (-1) (yl (fw o d (o+(d.length:Int)) (max o b.1) b.2.1))/\ ∀n,w4 (yl (fw o d (o+(d.length:Int)) (max o b.1) b.2.1)) n=w4 (fw o d (o+(d.length:Int)) (max o b.1) b.2.1) n:=by
  generalize fw o d (o+(d.length:Int)) (max o b.1) b.2.1=P at g;cases P with
  |nil=>exact⟨trivial,λ_=>rfl⟩
  |cons c l=>exact⟨CU (by have:=g.1;omega) g.2.1 g.2.2,Rm g.2.1 g.2.2⟩
 have w:BI (-1) b.2.1:=Qjd Aa (qR (e:=0) k);refine Qaa (Qhj b o d f) v.1 λn=>?_;obtain⟨C,D⟩:=Qnr b o d q (n:=n)
 grind(splits:=20)[Qjl,DZ]
theorem Zyh(h:iv K b)(o:Int)(d:Ba)(hK:K+d.length+1<=1000000)(hoB:o<=4611686018427387904):mC b o d=K2 (Ro b o d,()):=by
 have G:=h.len;have H:=h.tot;unfold mC Ro;rw[lw b,pA];simp only;cases hb:ZF b
 ·grind[YV]
 simp only[pI,Le];rw[Zr (n:=4611686018427387903- (d.length:Int))];by_cases u:(d==([]:Ba))=K4
 ·grind[YV]
 rw[Nf]at u;have k:0<d.length:=Mg.2 λe=>Af
 rw[u];simp only[Le];by_cases v:o<0
 ·grind[YV]
 rw[Zk v,Le];by_cases w:o>4611686018427387903- (d.length:Int)
 ·grind[YV]
 rw[Zk w,Le,pH,Zr];obtain⟨I,J,z⟩:=zf Aa hb;by_cases m:o+(d.length:Int)<=b.1
 ·rw[Zl m,Zo (Zl),YV h];rfl
 rw[Zk m,pH,Zm (Zk),Zry h,pA,hb];simp only[if_true];have p:(b.2.1.map Po).length<=1048576:=Ag
 rw[mR _ _ p,pA];have g:Hl (-1) (b.2.1.map Po)=true:=BT z Aa;have q:iO (max o b.1,o+(d.length:Int),())=true:=Xs.2 Ai;simp only[g,q,and_self,if_true];have s:=vQ (l:=b.2.1.map Po) (r:=((max o b.1,o+(d.length:Int),()):Zi));rw[M6]at s;have i:=T5 (l:=b.2.1.map Po) (r:=((max o b.1,o+(d.length:Int),()):Zi)) (λx hx=>by
  have:=Xs.1 (XL g x hx).2;omega) Ai
 rw[wS]at i;simp only at i;obtain⟨f,A,L⟩:=Qwu h o d hK hb k v w m;have j:=BT f (show(-1:Int)<=b.1-1 by omega);have a:=hb;unfold ZF at a;simp only[pC]at a;rw[Zr]at a;obtain⟨M,B⟩:=n8 a.1 Aa λc C=>by have:=E6 C;omega
 have D:∀r∈nR (b.2.1.map Po) (max o b.1,o+(d.length:Int),()),iO r=true:=λr y=>(XL j r y).2;have E:∀{l:List Zi},(∀r∈l,iO r=K4)->0<=iw l/\ ∀r∈l,r.2.1-r.1<=iw l:=by
  intro l
  induction l with
  |nil=>simp_all[iw]
  |cons r l N=>
   grind(splits:=20)[Xs,L6,iw]
 have t:=Qgq (b:=b) Aa B (o:=o) Aa (d:=d) H8 (l:=nR (b.2.1.map Po) (max o b.1,o+(d.length:Int),())) Aa D (λr y=>Ag)
  (λn F=>((A n).1 F).imp id λh=>Aa) (Ww o d b H8 (b.1,[],()) (nR (b.2.1.map Po) (max o b.1,o+(d.length:Int),())) 0) 0 (b.1,[],()) (by simp[Ww]) Aa Ac
 refine Lm t ?_;simp_all
theorem Ql4(h:iv K b)(o:Int)(d:Ba)(hK:K+d.length+1<=1000000)(hoB:o<=4611686018427387904):iv (K+d.length+1) (Ro b o d):=by
 obtain⟨y,e,a⟩:=Z2t h o d hK
 grind(splits:=20)[Zyh]
theorem Oo(h:iv K r.2.1)(hK:K<=1000000:=by omega):aW r=K2 (r,()):=by grind[aW,uP]
theorem YI(h:iv K r.2.1)(hK:K<=1000000:=by omega):nO r=K2 (r,()):=by grind[nO,YV]
def gS(r:Zz)(e:Int)(fin:Bool):Bool:=(((r:Or) !=(-1:Int))&&(K3 (e>(r:Or))))||(fin&&((((r:Or) !=(-1:Int))&&(e !=(r:Or)))||(K3 (e<(r:Zau)))))
theorem Qf4(r:Zz)(e:Int)(fin:Bool):xe r e fin=K2 (gS r e fin,()):=rfl
theorem un(r:Zz)(e:Int)(fin:Bool):rL r e fin=K2 (cond (gS r e fin) 6 0,()):=by grind[rL,gS]
theorem Bd(h:0<=r.1):lv r=K2 (!K3 (r.1>1),()):=by
 unfold lv;congr 2
 grind
theorem Qnp(h:iv K r.2.1)(o:Int)(d:Ba)(fin:Bool)(hK:K+d.length+1<=900000)(hoB:o<=4611686018427387904):xa r o d fin=K8 r o d fin:=by
 unfold xa tD K8 tD;rw[Oo h,YI h,zO h,Sf h];simp only[pA];cases hb:NZ r
 ·rfl
 have c:=G1 h Aa hb;simp only[pI,Le];rw[Qf4,un,Bd c];simp only[pA];generalize (K3 (o<0)||K3 (o>Lb.wrap (4611686018427387903- (d.length:Int))))=a;cases a
 rotate_left
 ·rfl
 rw[pH,pH];cases gS r (Lb.wrap (o+(d.length:Int))) fin
 rotate_left
 ·rfl
 rw[pH,pH];cases K3 (r.1>1)
 rotate_left
 ·rfl
 have b:=Ql4 h o d Aa hoB;have j:∀x:Zz,jm o d r qq x=Jw o d r qq x:=λx=>by
  unfold jm Jw yh;rw[Qbb h o d Aa hoB,Zyh h o d Aa hoB];simp only[pA];rw[MV b Aa,rp _ (by have:=b.len;omega)];cases (x:Or) !=(-1:Int)
  ·rfl
  ·rfl
 simp_all
theorem Z5j(h:iv K r.2.1)(code final:Int)(hK:K<=900000):uA r code final=Ws r code final:=by
 unfold uA gG tT Ws gG;rw[Oo h,YI h,zO h,Sf h];simp only[pA];cases hb:NZ r
 ·rfl
 have a:=G1 h Aa hb;rw[Qf4,un,Bd a];simp only[pA,pI,Le,pH,Cs,J8]
 grind
def TF(s:Zh):List Zh->List Zh|[]=>[s]|x::r=>ite (x.1>s.1) (s::x::r) (x::TF s r)
theorem Qsl{K:Nat}{l:List Zh}{s:Zh}(h:mQ K l)(hK:K<=500000):∀(N i:Nat)(out:List Zh),l.length-i<N->i<=l.length->out.length<=i+1->Ys N l s out (-1) K4 (i:Int)=K2 (out++l.drop i,())
 |0,_,_,h,_,_=>Aa
 |N+1,i,out,b,c,e=>by
  have f:=h.len;rw[Ys];by_cases a:i<l.length
  ·rw[Zo (Zl),Zb,show(i:Int).toNat=i from rfl,yR (h.all _ (Z7 (d:=Zc) a)),pA];have:((i:Int)==(-1:Int))=false:=Ac
   rw[this,pH,Zb (λh=>by cases h)];simp only[pI,Lp,pH];unfold Jc;rw[Zb Aj,Zs a];refine Lm (Qsl h hK N (i+1) (out++[l.getD i Zc]) Aa Aa Af) ?_;simp_all
  grind
theorem Qsk{K:Nat}{l:List Zh}{s:Zh}(h:mQ K l)(hs:Xx K s)(hK:K<=500000):∀(N i:Nat)(out:List Zh),l.length-i<N->i<=l.length->out.length<=i->Ys N l s out (-1) Lc (i:Int)=K2 (out++TF s (l.drop i),())
 |0,_,_,h,_,_=>Aa
 |N+1,i,out,c,e,f=>by
  have g:=h.len;rw[Ys];by_cases a:i<l.length
  ·rw[Zo (Zl),Zb,show(i:Int).toNat=i from rfl,yR (h.all _ (Z7 (d:=Zc) a)),pA];have:((i:Int)==(-1:Int))=false:=Ac
   rw[this,pH,Zb (λ_=>Aa),Q1 (d:=Zc) a];simp only[Lk,pJ];unfold TF;by_cases b:(l.getD i Zc).1>s.1
   ·rw[Zl b,pG,if_pos b,yR hs,pA,Zb Aj];unfold Jc;rw[Zb Aj,Zs a];refine Lm (Qsl h hK N (i+1) (out++[s]++[l.getD i Zc]) Aa Aa Af) ?_;simp_all
   ·rw[Zk b,pH,if_neg b];unfold Jc;rw[Zb Aj,Zs a];refine Lm (Qsk h hs hK N (i+1) (out++[l.getD i Zc]) Aa Aa Af) ?_;simp_all
  ·rw[Zm (Zk),Mm Aa];simp only[Lk,pG];rw[yR hs,pA,Zb Aj];rfl
def qL(s:Zh):List Zh->Option Nat|[]=>Lj|x::r=>ite (x.1>s.1) (K2 0) ((qL s r).map (· +1))
theorem P2(s:Zh):∀l:List Zh,TF s l=match qL s l with|none=>l++[s]|some p=>l.take p++[s]++l.drop p
 |[]=>rfl
 |x::r=>by
  unfold TF qL;by_cases a:x.1>s.1
  ·simp_all
  ·rw[if_neg a,if_neg a,P2 s r]
   grind
theorem Ql0{s:Zh}:∀{l:List Zh}{p:Nat},qL s l=K2 p->p<l.length
 |[],_,h=>by cases h
 |x::r,p,h=>by
  unfold qL at h;split at h
  ·cases h;simp
  ·cases hr:qL s r with
   |none=>simp_all
   |some q=>
    rw[hr]at h;cases h;have:=Ql0 hr;simp_all
theorem Qr7{l:List Zh}(s:Zh)(hl:l.length<=1000000):∀(N i:Nat),l.length-i<N->i<=l.length->Qv N l (s,()) (l.length:Int) (i:Int)=K2 (match qL s (l.drop i)with|none=> -1|some p=>((i+p:Nat):Int),())
 |0,_,h,_=>Aa
 |N+1,i,b,c=>by
  unfold Qv gH gJ;by_cases a:i<l.length
  ·rw[Zo (Zl),Zb,show(i:Int).toNat=i from rfl,Zs a,Q1 (d:=Zc) a,Qr7 s hl N (i+1) Aa Aa];show Ld (K2 (K3 ((l.getD i Zc).1>s.1),())) _=_;rw[pA,qL]
   grind
  ·rw[Zm (Zk),Mm Aa];rfl
theorem gtI(s:Zh)(hl:l.length<=1000000):Xn l (s,())=K2 (match qL s l with|none=> -1|some p=>(p:Int),()):=by unfold Xn;refine Lm (Qr7 s hl _ 0 (by simp[Xz]) Aa) ?_;simp_all
theorem Qqj(h:mQ K l)(hs:Xx K s)(hK:K<=500000)(hi:Qe l s.1= -1):Xe l s=K2 (TF s l,()):=by have a:=h.len;unfold Xe;rw[YA Aa,pA,hi];have e:K3 ((-1:Int)>=0)=false:=rfl;simp only[e];refine Lm (Qsk h hs hK _ 0 [] (by simp[aF]) Aa Ac) ?_;simp
theorem Qqi(h:mQ K l)(hs:Xx K s)(hK:K<=500000)(hi:Qe l s.1= -1):lk l s=K2 (TF s l,()):=by
 have c:=h.len;have a:cn l=K2 (l,()):=by
  unfold cn;exact KN h Aa _ 0 (by simp[V7]) Aa
 have b:∀p:Nat,p<=l.length->mZ s l (p:Int)=K2 (l.take p++[s]++l.drop p,()):=λp d=>by
  grind[mZ,Zot,Hp,NR,Zb,Qg]
 unfold lk gH;rw[a,pA,uT Aa,YA Aa,pA,hi];have e:K3 ((-1:Int)>=0)=false:=rfl;simp only[e,pH];rw[gtI s Aa,pA,P2];cases hg:qL s l with
 |none=>
  simp_all
 |some p=>
  simp only;rw[Zm (Zk),b p (Nat.le_of_lt (Ql0 hg))]
def Ej(m:Oa Bool):Bool:=match m with|some (b,_)=>b|none=>Lc
theorem Dq{m:Oa Bool}(h:TT m):m=K2 (Ej m,()):=by obtain⟨⟨b,u⟩,e,-⟩:=h;rw[e];rfl
theorem MD(n:Int):wz n=aD n:=rfl
theorem df(v:Bool)(n:Int):Vk v n=jd v n:=rfl
theorem Qst(v:Bool)(n:Int):uV v n=V4 v n:=rfl
theorem DW(v:Bool)(n:Int):iB v n=Y9 v n:=rfl
theorem Z7e(n:Int):bz n=K2 (jq n,()):=rfl
theorem GA(h:T6 f):aC f=K2 (Kg f,()):=xt f At
theorem BH(h:T6 f):Wq f=K2 (Kg f,()):=QJ f At
def lS(n:Int):Int:=cond (jq n) (n/4) (-1)
theorem Qt9(n:Int):ry n=K2 (lS n,()):=by
 unfold ry lS;rw[J8,pA];have a:(2:Int)^ (min (2:Int).toNat Lb.bits)=4:=by
  rfl
 grind(splits:=20)[Zb]
theorem Qt8(n:Int):j7 n=K2 (lS n,()):=by
 unfold j7 lS;rw[Z7e,pA];cases hq:jq n
 ·rfl
 ·have h:=Wv.1 hq;rw[pI,pH,pG,Zb,Nn h.1,Zr]
theorem Qef(n:Int):RM n=lJ n:=by rfl
theorem Z26(v:Bool)(n:Int)(o p:av):vi v n o p=bq v n o p:=by unfold vi gG bq gG;simp only[Ps,Qef,Z7e,J8,pA];rfl
def Et(a:Qq)(n:Int):Bool:=AE a&&(K3 (0<=n)&&K3 (n<a.2.1))
def MC(a:Qq)(n:Int):Int:=max 0 (n+1-a.2.2.1)
def Om(a:Qq)(n:Int):Qq:=(a.1,a.2.1,a.2.2.1+MC a n,a.2.2.2)
theorem Qhp{a:Qq}(h:Et a n=K4):Lb.wrap (Lb.wrap (n+1)-a.2.2.1)=n+1-a.2.2.1/\Lb.wrap (a.2.2.1+MC a n)=a.2.2.1+MC a n:=by unfold Et at h;simp only[pC,decide_eq_true_eq]at h;have g:=EY.1 h.1;have:=g.lim;have:=g.seen;constructor<;>grind[MC,Zr]
theorem Qjs(a:Qq)(n:Int):oh a n=K2 (cond (Et a n) (Om a n) a,cond (Et a n) (MC a n) 0,Et a n,()):=by
 unfold oh tP;rw[Px,pA];have e:(((!AE a)||(K3 (n<0)))||(K3 (n>=a.2.1)))= !Et a n:=by
  grind(splits:=20)[Et]
 rw[e];cases h:Et a n
 ·rfl
 ·obtain⟨c,b⟩:=Qhp h;simp only[pI,pH,pG];rw[c];unfold MC at b;rw[b];rfl
theorem Z66(a:Qq)(n:Int):fU a n=K2 (cond (Et a n) (Om a n) a,cond (Et a n) (MC a n) 0,Et a n,()):=by
 unfold fU gG tP;rw[Pl,Px,pA];simp only[bc,bO,Gy];have e:((!AE a)|| !(K3 (n>=0)&&K3 (n<=Lb.wrap (a.2.1-1))))= !Et a n:=by
  unfold Et;cases ha:AE a
  ·rfl
  ·have g:=EY.1 ha;have:=g.lim;have:=g.most
   rw[Zr,show K3 (n<=a.2.1-1)=K3 (n<a.2.1)from decide_eq_decide.2 Aa];rfl
 rw[e];cases h:Et a n
 ·rfl
 ·obtain⟨c,b⟩:=Qhp h;simp only[pI,pH,pG];rw[c,Int.max_comm];unfold MC at b;rw[b];rfl
def Dc(w:Qp)(n:Int):Bool:=Bs w&&(K3 (0<=n)&&K3 (n<=w.2.2.1-(w:ZaD)))
def RI(w:Qp)(n:Int):Qp:=cond (Dc w n) (w.1,w.2.1,w.2.2.1,(w:ZaD)+n,w.2.2.2.2) w
theorem Qxm(w:Qp)(n:Int):og w n=K2 (RI w n,Dc w n,()):=by
 unfold og tD RI;rw[qW,pA];cases hw:Bs w
 ·simp_all[Dc]
 ·have g:=EH.1 hw;have:=g.lim;have:=g.seen
  rw[Zr (n:=w.2.2.1-(w:ZaD))];by_cases a:0<=n/\n<=w.2.2.1-(w:ZaD)
  ·have e:Dc w n=true:=Ax
   rw[e,Zm Af,Zr];rfl
  grind(splits:=20)[Dc]
theorem G6(w:Qp)(n:Int):nX w n=K2 (RI w n,Dc w n,()):=by
 unfold nX gG tD RI;rw[DE,qW,pA];simp only[bc,bO,Gy];cases hw:Bs w
 ·simp_all[Dc]
 ·have g:=EH.1 hw;have:=g.lim;have:=g.seen
  rw[Zr (n:=w.2.2.1-(w:ZaD))];have e:(!K4|| !(K3 (n>=0)&&K3 (n<=w.2.2.1-(w:ZaD))))= !Dc w n:=Ax
  rw[e];cases h:Dc w n
  ·rfl
  ·unfold Dc at h;simp only[pC,decide_eq_true_eq]at h;rw[pI,pH,pG,Zr]
theorem PR(w:Qp):re w=K2 (cond (Bs w) (w.2.2.1-(w:ZaD)) 0,()):=by
 unfold re;rw[DE,qW,pA];cases hw:Bs w
 ·rfl
 ·have g:=EH.1 hw;have:=g.lim;have:=g.seen
  rw[pI,pH,pG,Zr]
def Pn(w:Qp)(n:Int):Bool:=Bs w&&(K3 (0<=n)&&K3 (n<=(w:ZaD)-(w:ZaL)))
def Gq(w:Qp)(n:Int):Qp:=cond (Pn w n) (w.1,w.2.1,w.2.2.1,(w:ZaD),(w:ZaL)+n,w.2.2.2.2.2) w
theorem Qsr(w:Qp)(n:Int):lL w n=K2 (Gq w n,Pn w n,()):=by
 unfold lL tH Gq;rw[qW,pA];cases hw:Bs w
 ·simp_all[Pn]
 ·have g:=EH.1 hw;have:=g.lim;have:=g.seen;have:=g.read
  rw[Zr (n:=(w:ZaD)-(w:ZaL))];by_cases a:0<=n/\n<=(w:ZaD)-(w:ZaL)
  ·have e:Pn w n=true:=by simp_all[Pn]
   rw[e,Zm Af,Zr];rfl
  grind(splits:=20)[Pn]
theorem Qsq(w:Qp)(n:Int):W7 w n=K2 (Gq w n,Pn w n,()):=by
 unfold W7 gG tH Gq;rw[DE,qW,pA];simp only[bc,bO,Gy];cases hw:Bs w
 ·simp_all[Pn]
 ·have g:=EH.1 hw;have:=g.lim;have:=g.seen;have:=g.read
  rw[Zr (n:=(w:ZaD)-(w:ZaL))];have e:(!K4|| !(K3 (n>=0)&&K3 (n<=(w:ZaD)-(w:ZaL))))= !Pn w n:=by simp_all[Pn]
  rw[e];cases h:Pn w n
  ·rfl
  ·unfold Pn at h;simp only[pC,decide_eq_true_eq]at h;rw[pI,pH,pG,Zr]
def Hu(a:Qq):Qq:=cond (AE a&& !((a:ZaC)==a.2.2.1)) (a.1,a.2.1,a.2.2.1,(a:ZaC)+1,a.2.2.2.2) a
theorem TX(a:Qq):T (fX a) λr=>r.1=Hu a:=by
 unfold fX tD Hu;rw[Px,pA];cases ha:AE a
 ·exact T.pure rfl
 ·have g:=EY.1 ha;have:=g.lim;have:=g.seen;have:=g.clo
  cases (a:ZaC)==a.2.2.1
  ·exact T.pure (by simp only[Lk,Li,pG];grind[Zr])
  ·exact T.pure rfl
theorem Qk4(a:Qq):Z0 a=fX a:=rfl
def Ue(r:Zz)(e:Int):Int:=cond (NZ r&&jq e) (max 0 (Lb.wrap (e-(r:Zau)))) 0
theorem Qi5(h:iv K r.2.1)(hK:K<=1000000)(e:Int):td r e=K2 (Ue r e,()):=by grind[td,Ue,Sf,J8]
theorem Z6k(h:iv K r.2.1)(hK:K<=1000000)(e:Int):yd r e=K2 (Ue r e,()):=by grind[yd,Ue,zO,Sf,Cs]
def YN(c:Jl)(n:Int):Jl:=cond ((Oi c&&K3 (n>c.1))&&K3 (n<=4611686018427387903)) (n,c.2.1,(-1:Int),c.2.2.2) c
theorem Qu1(c:Jl)(n:Int):rR c n=K2 (YN c n,()):=by grind[rR,YN,Sb,Hr]
theorem Qu2(c:Jl)(n:Int):jg c n=K2 (YN c n,()):=by
 unfold jg gG YN;rw[Hr,pA];simp only[J8,bO,Gy];cases hc:Oi c
 ·rfl
 ·have g:=vK.1 hc;have:=g.use0;have:=g.use
  by_cases h:n>c.1/\n<=4611686018427387903
  ·grind[Wv]
  ·rw[Zo,Zm]
   ·simp_all
   grind[Wv]
def PD(c:aP)(n:Int):aP:=cond ((OZ c&&K3 (n>c.1))&&K3 (n<=1152921504606846976)) (n,c.2.1,(-1:Int),c.2.2.2) c
theorem Qqn(c:aP)(n:Int):rQ c n=K2 (PD c n,()):=by grind[rQ,PD,NS,G4]
theorem Qqo(c:aP)(n:Int):jf c n=K2 (PD c n,()):=by
 unfold jf PD;rw[G4,pA]
 grind
theorem Qgn(hl:l.length<=1000000)(n:Int)(h:Qe l n<0):Qe l n= -1:=by
 have b:∀(N i:Nat),l.length-i<N->i<=l.length-> ∃v,Kd N l n (i:Int)=K2 (v,())/\(v<0->v= -1):=by
  intro N
  induction N with
  |zero=>intro i h;omega
  |succ N c=>
   intro i g j;unfold Kd;by_cases d:i<l.length
   ·rw[Zo (Zl),Zb,Zs d];obtain⟨v,a,f⟩:=c (i+1) Aa Aa
    grind(splits:=20)
   grind
 obtain⟨v,a,f⟩:=b (Kx l n 0) 0 (by simp[Kx]) Aa;have e:Kc l n=K2 (v,()):=a;simp_all[YA]
theorem Qpx(hl:l.length<=1000000)(h:∃s∈l,s.1=n):0<=Qe l n:=by grind[rN]
def E9(l:List Zh)(s:Zh):List Zh:=ite (0<=Qe l s.1) (l.set (Qe l s.1).toNat s) (TF s l)
theorem Z5g(h:mQ K l)(hs:Xx K s)(hK:K<=500000:=by omega):Xe l s=K2 (E9 l s,()):=by
 have b:=h.len;unfold E9;by_cases a:0<=Qe l s.1
 ·rw[if_pos a];grind[AD]
 ·rw[if_neg a];grind[Qqj,Qgn]
theorem Qxd(h:mQ K l)(hs:Xx K s)(hK:K<=500000:=by omega):lk l s=K2 (E9 l s,()):=by
 have c:=h.len;unfold E9;by_cases a:0<=Qe l s.1
 ·have d:=(rN (l:=l) Aa s.1).1;rw[if_pos a];unfold lk gH;have b:cn l=K2 (l,()):=by
   unfold cn;exact KN h Aa _ 0 (by simp[V7]) Aa
  rw[b,pA,uT Aa,YA Aa,pA,Zo (Zl),NR hs Aa,pA,Zb ⟨a,Ai⟩]
 ·rw[if_neg a];grind[Qqi,Qgn]
theorem Ql6(s:Zh):∀l:List Zh,(TF s l)=l.length+1:=λl=>by
 grind[P2]
theorem FB{x:Zh}:∀{l:List Zh},x∈TF s l↔x=s\/x∈l:=λ{l}=>by
 rw[P2];cases h:qL s l with
 |none=>simp[or_comm]
 |some p=>
  grind[List.take_append_drop]
theorem By(l:List Zh)(s:Zh):(E9 l s)<=l.length+1:=by grind[E9,Ql6]
theorem Qb1{x:Zh}(h:x∈E9 l s):x=s\/x∈l:=by grind[E9,FB]
theorem Qqk(hl:l.length<=1000000)(s:Zh):s∈E9 l s:=by
 unfold E9;split
 ·rename_i h;have:=(rN hl s.1).1
  grind[List.mem_set]
 simp_all[FB]
theorem LZ(h:mQ K l)(hs:Xx K s)(hl:l+1<=K:=by omega):mQ K (E9 l s):=⟨by grind[By],λx hx=>by
 rcases Qb1 hx with e|e
 ·rw[e];exact hs
 ·exact h.all x e⟩
def Fy(v:Bool)(id:Int)(o p:av):Zh:=match bq v id o p with|some (s,_)=>s|none=>Zc
theorem D1(v:Bool)(id:Int)(o p:av):∃b,bq v id o p=K2 (Fy v id o p,b,())/\Xx 0 (Fy v id o p):=by obtain⟨⟨s,b,u⟩,e,h⟩:=wY v id o p;simp_all[Fy]
abbrev k8(c:Zf)(l:List Zh):Zf:=(c.1,c.2.1,c.2.2.1,l,c.2.2.2.2)
def E8(v:Bool)(o p:av)(id:Int):Nat->List Zh->List Zh|0,l=>l|m+1,l=>E8 v o p id m (E9 l (Fy v (Lb.wrap (id-Lb.wrap (4*(m:Int)))) o p))
theorem Qg6(v:Bool)(o p:av)(id:Int):∀(m:Nat)(l:List Zh),(E8 v o p id m l)<=l+m
 |0,_=>Lo _
 |m+1,l=>by
  have:=Qg6 v o p id m (E9 l (Fy v (Lb.wrap (id-Lb.wrap (4*(m:Int)))) o p))
  grind[By,E8]
theorem Qg5(id:Int){K:Nat}(h25:25<=K)(hK:K<=400000):∀(N m:Nat)(c:Zf),m<N->(c:Id)+m<=24->mQ K (c:Id)->eg N c id ((m:Int)-1)=K2 ((),k8 c (E8 c.1 c.2.1 c.2.2.1 id m (c:Id)),())
 |0,m,_,h,_,_=>Aa
 |N+1,0,c,_,_,_=>by
  rfl
 |N+1,m+1,c,d,f,h=>by
  unfold eg;simp only[Xm];rw[Zo (Zl),show((m+1:Nat):Int)-1=(m:Int) by omega];obtain⟨b,e,a⟩:=D1 c.1 (Lb.wrap (id-Lb.wrap (4*(m:Int)))) c.2.1 c.2.2.1;have g:=By (c:Id) (Fy c.1 (Lb.wrap (id-Lb.wrap (4*(m:Int)))) c.2.1 c.2.2.1);rw[e,pA];unfold za tD;rw[Z5g h (a.mono (L7 _)),pA];simp only;rw[Zr (n:=(m:Int)-1),Qg5 id h25 hK N m _ Aa Ai (LZ h (a.mono (L7 _)))];rfl
theorem Qg4(id:Int){K:Nat}(h25:25<=K)(hK:K<=400000):∀(N m:Nat)(c:Zf),m<N->(c:Id)+m<=24->mQ K (c:Id)->dH N c id ((m:Int)-1)=K2 (((0:Int),()),k8 c (E8 c.1 c.2.1 c.2.2.1 id m (c:Id)),())
 |0,m,_,h,_,_=>Aa
 |N+1,0,c,_,d,_=>by
  unfold dH;rw[Zm (Zk),Zm (Zk)];rfl
 |N+1,m+1,c,f,d,h=>by
  unfold dH;simp only[Xm];rw[Zo (Zl),show((m+1:Nat):Int)-1=(m:Int) by omega];obtain⟨b,e,a⟩:=D1 c.1 (Lb.wrap (id-Lb.wrap (4*(m:Int)))) c.2.1 c.2.2.1;have g:=By (c:Id) (Fy c.1 (Lb.wrap (id-Lb.wrap (4*(m:Int)))) c.2.1 c.2.2.1);rw[Z26,e,pA];unfold xF tD;rw[Qxd h (a.mono (L7 _)),pA];simp only;rw[Zr (n:=(m:Int)-1),Qg4 id h25 hK N m _ Aa Ai (LZ h (a.mono (L7 _)))];rfl
def MF(v:Bool)(n:Int):Bool:=Ej (jd v n)
theorem RV(v:Bool)(n:Int):jd v n=K2 (MF v n,()):=Dq (vR v n)
def WN(n:Int):Bool:=Ej (aD n)
theorem Tc(n:Int):aD n=K2 (WN n,()):=Dq (JU n)
def aG(c:Zf)(id:Int):Qq:=cond (WN id) (c:Zav) (c:Zay)
def S5(c:Zf)(id:Int)(a:Qq):Zf:=cond (WN id) (c.1,c.2.1,c.2.2.1,(c:Id),(c:Zah),(c:Zai),(c:Zar),(c:Zaq),(c:Zay),a,(c:ZaZ).2) (c.1,c.2.1,c.2.2.1,(c:Id),(c:Zah),(c:Zai),(c:Zar),(c:Zaq),a,(c:ZaZ))
def IT(c:Zf)(id:Int):Bool:=(Et (aG c id) (lS id)&& !(MC (aG c id) (lS id)==0))&&K3 ((c:Id)+MC (aG c id) (lS id)<=24)
def Tl(c:Zf)(id:Int):Zf:=k8 (S5 c id (Om (aG c id) (lS id))) (E8 c.1 c.2.1 c.2.2.1 id (MC (aG c id) (lS id)).toNat (c:Id))
def jy(c:Zf)(id:Int):Int×Zf:=cond (K3 (0<=Qe (c:Id) id)) (0,c) (cond (MF c.1 id) (5,c) (cond (IT c id) (0,Tl c id) (4,c)))
theorem PU(a:Qq)(n:Int):0<=MC a n:=by unfold MC;omega
theorem vZ(h:IT c id=K4):(c:Id)+(MC (aG c id) (lS id)).toNat<=24/\1<=MC (aG c id) (lS id):=by unfold IT at h;simp only[pC,decide_eq_true_eq,Mi,beq_eq_false_iff_ne]at h;have:=PU (aG c id) (lS id);omega
theorem eR(h:Qb K c)(hc:bJ c=K4)(h25:25<=K)(hK:K<=400000)(hq:jq id=K4):Wr c id=K2 ((jy c id).2,(jy c id).1,()):=by
 have a:=(Sp h).1 hc;have b:=(n9.1 a.sts).len;have k:∀(t x:Zf)(n:Int),0<=n->(x:Id)=(c:Id)->(c:Id)+n.toNat<=24->ag id t x n=K2 (k8 x (E8 x.1 x.2.1 x.2.2.1 id n.toNat (x:Id)),(0:Int),()):=λt x n l hx d=>by
  unfold ag XS;rw[Zr,show n-1=((n.toNat:Nat):Int)-1 by omega,Qg5 id h25 hK _ n.toNat x (by grind[nI]) (by rw[hx];exact d) (by rw[hx];exact h.str)];rfl
 have e:∀t,Kl id c t c (aG c id)=K2 (cond (IT c id) (Tl c id,(0:Int),()) (c,(4:Int),())):=λt=>by
  unfold Kl;simp only[Xm,Yb];rw[Qt9,pA,Qjs,pA];unfold cB tB tC;simp only;have m:=PU (aG c id) (lS id);cases hs:Et (aG c id) (lS id)
  ·grind[IT]
  ·simp only[pG,pI,Le];have o:MC (aG c id) (lS id)<=1152921504606846976:=by
    unfold Et at hs;simp only[pC,decide_eq_true_eq]at hs;have g:=EY.1 hs.1;have:=g.lim;have:=g.seen;unfold MC;omega
   have f:Lb.wrap ((c:Id)+MC (aG c id) (lS id))=(c:Id)+MC (aG c id) (lS id):=Zr;simp only[f];have i:((MC (aG c id) (lS id)==0)||K3 ((c:Id)+MC (aG c id) (lS id)>24))= !IT c id:=by
    unfold IT
    grind
   rw[i];cases hG:IT c id
   ·rfl
   ·have p:=vZ hG;rw[pI,pH,Tc,pA,pG];unfold Tl S5;cases WN id
    ·grind
    grind
 unfold Wr gG jy;rw[Y8 h,pA,GI h,hc,pA,J8,hq];simp only[pI,pH,Ll,pA];rw[YA Aa,pA];simp only[ge_iff_le];cases K3 (0<=Qe (c:Id) id)
 ·rw[pH,pH,RV,pA];simp only;cases MF c.1 id
  ·have j:(cond (WN id) (Kl id c Xl c (c:Zav)) (Kl id c Xl c (c:Zay)))=Kl id c Xl c (aG c id):=by grind[aG]
   rw[pH,pH,Tc,pA];simp only;rw[j,e];cases IT c id<;>rfl
  ·rfl
 ·rfl
theorem Sr(h:Qb K c)(hc:bJ c=K4)(h25:25<=K)(hK:K<=400000)(id:Int):cg c id=K2 (((jy c id).1,()),(jy c id).2,()):=by
 have i:=(Sp h).1 hc;have j:=(n9.1 i.sts).len;have b:∀(x:Zf)(n:Int),0<=n->(x:Id)=(c:Id)->(c:Id)+n.toNat<=24->jl x id n=K2 (((0:Int),()),k8 x (E8 x.1 x.2.1 x.2.2.1 id n.toNat (x:Id)),()):=λx n o hx k=>by
  unfold jl;rw[Zr,show n-1=((n.toNat:Nat):Int)-1 by omega,Qg4 id h25 hK _ n.toNat x (by grind[nT]) (by rw[hx];exact k) (by rw[hx];exact h.str)]
 have d:∀n,Z2 c n=K2 (WN n,c,()):=λn=>by
  unfold Z2;rw[MD,Tc,pA];cases WN n<;>rfl
 have e:Jt c id (cond (Et (aG c id) (lS id)) (Om (aG c id) (lS id)) (aG c id)) (cond (Et (aG c id) (lS id)) (MC (aG c id) (lS id)) 0) (Et (aG c id) (lS id))=K2 (cond (IT c id) (((0:Int),()),Tl c id,()) (((4:Int),()),c,())):=by
  unfold Jt tB tC;have f:=PU (aG c id) (lS id);cases hs:Et (aG c id) (lS id)
  ·have:IT c id=false:=by unfold IT;rw[hs];rfl
   rw[this];rfl
  ·simp only[pG,pI,Le];have l:Lb.wrap (24-(c:Id))=24-(c:Id):=Zr;simp only[l];have m:((MC (aG c id) (lS id)==0)||K3 (MC (aG c id) (lS id)>24-(c:Id)))= !IT c id:=by
    unfold IT;rw[hs,show K3 (MC (aG c id) (lS id)>24-(c:Id))= !K3 ((c:Id)+MC (aG c id) (lS id)<=24) by grind];simp
   rw[m];cases hG:IT c id
   ·rfl
   ·have g:=vZ hG;rw[pI,pH,d,pA,pG];unfold Tl S5;cases WN id
    ·exact b _ _ f rfl g.1
    ·exact b _ _ f rfl g.1
 have p:=h.str.len;unfold cg jy;simp only[Xm,Yb];rw[uT Aa,YA Aa,pA];simp only[ge_iff_le];cases K3 (0<=Qe (c:Id) id)
 ·rw[pH,pH,df,RV,pA];simp only;cases MF c.1 id
  ·rw[pH,pH,d,pA,Qt8];have a:aG c id=(cond (WN id) (c:Zav) (c:Zay)):=rfl;cases hu:WN id
   ·rw[hu,pH]at a;simp only[pH,pA];rw[Z66,pA];simp only;rw[<-a,e];cases IT c id<;>rfl
   ·rw[hu,pG]at a;simp only[pG,pA];rw[Z66,pA];simp only;rw[<-a,e];cases IT c id<;>rfl
  ·rfl
 ·rfl
theorem Z5v:∀{l:List Z6}{e:Int},u0 e l->l≠[]->(∀c∈l,Jo c<=Jo (l.getD (l.length-1) Qr))/\e<Jo (l.getD (l.length-1) Qr)
 |[],_,_,h=>absurd rfl h
 |[c],e,h,_=>by
  have:=TZ h.2.1;have:=h.1
  grind
 |c::d::l,e,h,_=>by
  obtain⟨b,f⟩:=Z5v (l:=d::l) h.2.2 Ac;have a:(c::d::l).getD ((c::d::l).length-1) Qr=(d::l).getD ((d::l).length-1) Qr:=rfl;rw[a];have:=TZ h.2.1;have:=h.1
  grind
theorem MI(ht:nP b.2.1<=1000000)(hb:ZF b=K4):(0<=b.1/\b.1<=4611686018427387903)/\u0 (b.1-1) b.2.1/\ ∀c∈b.2.1,0<=c.1/\Jo c<=4611686018427387903:=by
 obtain⟨d,e,-⟩:=zf ht hb;unfold ZF at hb;simp only[pC]at hb;rw[Zr]at hb;obtain⟨f,g⟩:=n8 hb.1 Aa λc a=>by have:=E6 a;omega
 grind
theorem Qyl(h:iv K b)(hK:K<=1000000)(hb:ZF b=K4):∃v,we b=K2 (v,())/\ ∀H:Int,v<=H↔b.1<=H/\ ∀c∈b.2.1,Jo c<=H:=by
 have j:=h.len;have k:=h.tot;obtain⟨l,e,f⟩:=MI Aa hb;unfold we gG gH gL;by_cases a:b.2.1=[]
 ·simp_all
 ·have m:0<b.2.1.length:=Mg.2 a;have g:((b.2.1.length:Int)==0)=false:=by simp;exact a
  obtain⟨n,o⟩:=Z5v e a;have i:=Z7 (d:=Qr) (show b.2.1.length-1<b.2.1.length by omega);have p:=f _ i;simp only[g,pH];rw[lw _,hb,pA];simp only[pI,Ll,pH];rw[Zr,Zb,show((b.2.1.length:Int)-1).toNat=b.2.1.length-1 by omega,Zr Aa Aw];refine⟨_,rfl,λH=>?_⟩
  grind[Jo]
theorem Qjp(h:iv K b)(hK:K<=1000000)(hb:ZF b=K4):0<=cQ b/\b.1+cQ b<=4611686018427387903/\(cQ b=0\/ ∃c∈b.2.1,b.1+cQ b=Jo c):=by obtain⟨a,d,e⟩:=MI (by have:=h.tot;omega) hb;constructor<;>grind[cQ,Jo]
structure Qya(r:Zz):Prop where
 buf:ZF r.2.1=K4
 hq:0<=r.2.2.2.1/\r.2.2.2.1<=4611686018427387903
 e0:r.2.1.1<=r.2.2.2.1
 ec:∀c∈r.2.1.2.1,Jo c<=r.2.2.2.1
 code:0<=r.2.2.2.2.1/\r.2.2.2.2.1<=4611686018427387903
 fin:r.2.2.1= -1\/(r.2.2.2.1<=r.2.2.1/\r.2.2.1<=4611686018427387903)
 st:(r.1=0/\r.2.2.1= -1/\r.2.2.2.2.1=0)\/(r.1=1/\r.2.2.1≠ -1/\r.2.1.1+cQ r.2.1≠r.2.2.1/\r.2.2.2.2.1=0)\/(r.1=2/\r.2.2.1≠ -1/\r.2.1.1+cQ r.2.1=r.2.2.1/\r.2.2.2.2.1=0)\/(r.1=3/\r.2.2.1≠ -1/\r.2.1.1+cQ r.2.1=r.2.2.1/\r.2.1.2.1=[]/\r.2.2.2.2.1=0)\/((r.1=4\/r.1=5)/\r.2.2.1≠ -1/\r.2.2.2.1=r.2.2.1/\r.2.1.2.1=[])
def yn(r:Zz):Bool:=bif r.1==(0:Int)then((r:Or)==(-1:Int))&&((r:ZaH)==(0:Int))else bif r.1==(1:Int)then(((r:Or) !=(-1:Int))&&(!(((r:Or) !=(-1:Int))&&((r.2.1.1+cQ r.2.1)==(r:Or)))))&&((r:ZaH)==(0:Int))else bif r.1==(2:Int)then(((r:Or) !=(-1:Int))&&((r.2.1.1+cQ r.2.1)==(r:Or)))&&((r:ZaH)==(0:Int))else bif r.1==(3:Int)then((((r:Or) !=(-1:Int))&&((r.2.1.1+cQ r.2.1)==(r:Or)))&&((r.2.1.2.1.length:Int)==(0:Int)))&&((r:ZaH)==(0:Int))else cond ((r.1==(4:Int))||(r.1==(5:Int))) ((((r:Or) !=(-1:Int))&&((r:Zau)==(r:Or)))&&((r.2.1.2.1.length:Int)==(0:Int))) Lc
def I3(r:Zz)(v:Int):Bool:=((jq (r:Zau)&& !K3 (v>(r:Zau)))&&jq (r:ZaH))&& !(((((r:Or) !=(-1:Int))&&(K3 ((r:Or)<(r:Zau))))||(K3 ((r:Or)>(4611686018427387903:Int))))||(K3 ((r:Or)<(-1:Int))))
theorem rcE(h:iv K r.2.1)(hK:K<=1000000)(hb:ZF r.2.1=K4):∃v,(∀H:Int,v<=H↔r.2.1.1<=H/\ ∀c∈r.2.1.2.1,Jo c<=H)/\NZ r=(I3 r v&&yn r):=by
 obtain⟨v,k,hv⟩:=Qyl h hK hb;refine⟨v,hv,?_⟩;have l:=h.len;have e:=Sf h hK;unfold Yj gG Kt at e;rw[lw _,hb,pA,rp _]at e;obtain⟨m,n,-⟩:=Qjp h hK hb;obtain⟨o,-,-⟩:=MI (by have:=h.tot;omega) hb;have i:Lb.wrap (r.2.1.1+cQ r.2.1)=r.2.1.1+cQ r.2.1:=Zr;simp only[J8,pI,Le,pH,pA]at e;have f:=e.symm;have g:∀{a b:Bool},K2 (a,())=K2 (b,())->a=b:=λh=>by simpa using h
 unfold I3 yn;cases h1:jq (r:Zau)
 ·grind
 rw[h1,k]at f;simp only[pI,Le,pH,pA]at f;cases h2:K3 (v>(r:Zau))
 ·rw[h2]at f;simp only[Le,pH,pA]at f;cases h3:jq (r:ZaH)
  ·grind
  rw[h3]at f;simp only[pI,Le]at f;cases h4:((((r:Or) !=(-1:Int))&&(K3 ((r:Or)<(r:Zau))))||(K3 ((r:Or)>(4611686018427387903:Int))))||(K3 ((r:Or)<(-1:Int)))
  ·rw[h4]at f;simp only[pH,Lk,Li,pJ]at f⊢;have j:∀{β:Type}(k:Int×Unit->Option β),(∀x y,(r:Or)= -1->k x=k y)->Ld (cond ((r:Or) !=(-1:Int)) (K2 (cQ r.2.1,())) (K2 ((0:Int),()))) k=k (cQ r.2.1,()):=λk hk=>by
    grind
   rw[j _ λx y d=>by rw[d];rfl]at f;simp only[i]at f
   grind
  grind
 grind
theorem Qu3(h:iv K r.2.1)(hK:K<=1000000):NZ r=K4↔Qya r:=by
 cases hb:ZF r.2.1
 ·have e:=Sf h hK;unfold Yj gG at e;rw[lw _ (by have:=h.len;omega),hb]at e;have f:NZ r=false:=Af
  rw[f];exact⟨λh=>M0 h,λh=>by have:=h.buf;simp_all⟩
 ·obtain⟨v,hv,e⟩:=rcE h hK hb;rw[e,pC];have g:I3 r v=K4↔((0<=(r:Zau)/\(r:Zau)<=4611686018427387903)/\v<=(r:Zau))/\(0<=(r:ZaH)/\(r:ZaH)<=4611686018427387903)/\((r:Or)= -1\/((r:Zau)<=(r:Or)/\(r:Or)<=4611686018427387903)):=by
   simp[I3,Wv]<;>omega
  have i:yn r=K4↔((r.1=0/\(r:Or)= -1/\(r:ZaH)=0)\/(r.1=1/\(r:Or)≠ -1/\r.2.1.1+cQ r.2.1≠(r:Or)/\(r:ZaH)=0)\/(r.1=2/\(r:Or)≠ -1/\r.2.1.1+cQ r.2.1=(r:Or)/\(r:ZaH)=0)\/(r.1=3/\(r:Or)≠ -1/\r.2.1.1+cQ r.2.1=(r:Or)/\r.2.1.2.1=[]/\(r:ZaH)=0)\/((r.1=4\/r.1=5)/\(r:Or)≠ -1/\(r:Zau)=(r:Or)/\r.2.1.2.1=[])):=by
   have j:((r.2.1.2.1.length:Int)==0)=K4↔r.2.1.2.1=[]:=by
    simp_all
   unfold yn;by_cases k:r.1=0
   ·simp_all
   rw[show(r.1==(0:Int))=Lc by simp[k],pH];by_cases l:r.1=1
   ·grind
   rw[show(r.1==(1:Int))=Lc by simp[l],pH];by_cases m:r.1=2
   ·grind
   rw[show(r.1==(2:Int))=Lc by simp[m],pH];by_cases n:r.1=3
   ·grind
   grind
  rw[g,i];constructor
  ·rintro⟨⟨⟨a,b⟩,c,d⟩,s⟩;have:=(hv _).1 b;exact⟨hb,a,this.1,this.2,c,d,s⟩
  ·intro R;exact⟨⟨⟨R.hq,(hv _).2 ⟨R.e0,R.ec⟩⟩,R.code,R.fin⟩,R.st⟩
theorem Zsu{α β:Type}{g:α->β}{s d:α}:∀{l:List α}{i:Nat},g s=g (l.getD i d)->(l.set i s).map g=l.map g
 |[],_,_=>rfl
 |x::l,0,h=>by
  simp_all
 |x::l,i+1,h=>by
  rw[Nv,Mb,Mb,Zsu (l:=l) (i:=i) h]
theorem FN{f:Zh->Int}{s:Zh}:∀{l:List Zh}{i:Nat},i<l.length->EO f (l.set i s)=EO f l+f s-f (l.getD i Zc)
 |[],_,h=>absurd h Ac
 |x::l,0,_=>by
  simp_all[EO]<;>omega
 |x::l,i+1,h=>by
  rw[Nv];simp only[EO];rw[FN (l:=l) (i:=i) (by simp at h;omega),show(x::l).getD (i+1) Zc=l.getD i Zc from rfl];omega
theorem cfF{c:av}(h:Gf c=K4):dE c.1=K2 (K4,())/\(1<=c.2.1/\c.2.1<=c.2.2.1)/\c.2.2.1<=4096:=by have e:=Tx c;rw[h]at e;unfold a9 at e;obtain⟨p,a⟩:=Qbz c.1;simp_all[Iv,bA,oC]
theorem Qxg{m:Int}(h:dE n=K2 (K4,()))(h0:0<=m)(h1:m<=4611686018427387903):VF (n,m,m,Md n.toNat (0:Int),())=K4/\0<n/\n<=64:=by
 obtain⟨⟨b,u⟩,f,a⟩:=Qxb n;have c:=a Af;refine⟨?_,c⟩;have g:(Md n.toNat (0:Int)).length=n.toNat:=List.length_replicate;have e:=(AF (n,m,m,Md n.toNat (0:Int),()) Ag).1;have:cE (n,m,m,Md n.toNat (0:Int),())=K2 (K4,()):=by
  unfold cE;rw[h,pA];have d:((((((!K4)||(((Md n.toNat (0:Int)).length:Int) !=n))||(K3 (m<(0:Int))))||(K3 (m<m)))||(K3 ((Lb.wrap (m-m))>n)))||(K3 (m>(4611686018427387903:Int))))=false:=by
   simp_all[Zr]<;>omega
  simp only;rw[d,pH]
  grind[N7,aT,VA]
 simp_all
theorem Qo1(v:Bool)(hq:jq id=K4):∃s1 s2,V4 v id=K2 (s1,())/\Y9 v id=K2 (s2,())/\(s1=K4\/s2=K4):=by
 unfold V4 Y9;simp only[J8,hq,pA,pG,Tc,RV];cases WN id<;>cases MF v id
 all_goals simp_all
theorem Qw2(v:Bool){o p:av}(ho:Gf o=K4)(hp:Gf p=K4)(hq:jq id=K4):AT (Fy v id o p)/\(Fy v id o p).1=id/\Dw (Fy v id o p)=0/\E3 (Fy v id o p)=0:=by
 obtain⟨i,t,u⟩:=cfF ho;obtain⟨w,x,y⟩:=cfF hp;obtain⟨j,z⟩:=Qxg i (Lg 0) Ah;obtain⟨b,e,k⟩:=D1 v id o p;have f:=Wv.1 hq;have a:lJ o.1=K2 (((0:Int),(o.1,(0:Int),(0:Int),Md o.1.toNat (0:Int),()),([]:List Zi),([]:List Zi),([]:List Zi),(-1:Int),KL),K4,()):=by
  unfold lJ BK;rw[i,pA];simp only[pI,pH]
  grind[Zb,Qg]
 have c:ig p.2.1=K2 ((p.2.1,(0:Int),(-1:Int),(-1:Int),()),K4,()):=by
  grind[ig,J8,Wv]
 have d:ii o.2.1 o.2.2.1=K2 ((o.2.1,o.2.2.1,o.2.1,KL),K4,()):=by
  grind[ii,Iv,oC]
 obtain⟨l,m,n,q,r⟩:=Qo1 v hq;have g:=e;unfold bq gG cA xr at g;simp only[J8,hq,Tx,ho,hp,pA,pI,pH,Ll,a,c,d,n,q,pB,pF]at g;have s:Fy v id o p=(id,((0:Int),(o.1,(0:Int),(0:Int),Md o.1.toNat (0:Int),()),([]:List Zi),([]:List Zi),([]:List Zi),(-1:Int),KL),(p.2.1,(0:Int),(-1:Int),(-1:Int),()),((0:Int),((0:Int),([]:List Z6),()),(-1:Int),(0:Int),(0:Int),()),(o.2.1,o.2.2.1,o.2.1,KL),((3:Int),Lc,()),l,m,Lc,Lc,Lc,Lc,(0:Int),Lc,()):=g.1.symm;rw[s]at k⊢;refine⟨⟨f,?_,⟨Ai,Lg _,Ai,Ai,Ai,Ai,Ai⟩,?_,⟨Ai,Ai,Ai,?_,?_,?_,?_⟩,⟨Ai,Ai⟩,⟨Ai,Ai⟩,r,Lg _,Lg _,λh=>(by cases h),λh=>(by cases h),λh=>absurd rfl h,.inr ⟨rfl,rfl,rfl⟩,.inr ⟨rfl,rfl,rfl⟩⟩,rfl,rfl,rfl⟩
 ·exact {ring:=j,pr:=rfl,fr:=rfl,ar:=rfl,sent:=⟨Lg _,Lg _⟩,code:=⟨Lg _,by simp_all[KL]⟩,fin:=⟨Lg _,by simp_all[KL]⟩,rst:=λh=>by simp at h,no:=λ_=>{whole:=rfl,gap:=rfl,code:=rfl,fl:=rfl,ac:=rfl,fin:=rfl,st:=rfl}}
 ·rfl
 all_goals grind[KL]
theorem Qba{s:Zh}:∀{l:List Zh},(l.Pairwise λa b=>a.1<b.1)->(∀x∈l,x.1≠s.1)->(TF s l).Pairwise λa b=>a.1<b.1
 |[],_,_=>by simp[TF]
 |x::r,h,c=>by
  have hx:=c x L6;obtain⟨f,e⟩:=Mx.1 h;unfold TF;by_cases d:x.1>s.1
  ·rw[if_pos d];constructor<;>grind
  ·rw[if_neg d];refine Mx.2 ⟨λy hy=>?_,Qba e λy hy=>c y (Mc _ hy)⟩;rcases FB.1 hy with rfl|hy
   all_goals grind
theorem OK{f:Zh->Int}{s:Zh}:∀{l:List Zh},EO f (TF s l)=EO f l+f s
 |[]=>by simp_all[TF,EO]
 |x::r=>by
  unfold TF;by_cases a:x.1>s.1
  ·rw[if_pos a];grind[EO]
  ·rw[if_neg a];simp only[EO];rw[OK];omega
structure LF(K:Nat)(S H:Int)(l:List Zh):Prop where
 inv:mQ K l
 all:∀s∈l,AT s
 srt:l.Pairwise λa b=>a.1<b.1
 snt:EO Dw l<=S
 hgh:EO E3 l<=H
theorem AT.nn(F:AT s)(h:Xx K s)(hK:K<=1000000):(0<=Dw s/\Dw s<=4611686018427387903)/\0<=E3 s/\E3 s<=4611686018427387903:=by
 have a:=F.snd.sent;have b:=h.snd.eK;have c:=((Qu3 h.rcv hK).1 F.rcv).hq
 grind[Dw,E3]
theorem LF.nn{K:Nat}{S H:Int}{l:List Zh}(L:LF K S H l)(hK:K<=1000000):∀s∈l,(0<=Dw s/\Dw s<=4611686018427387903)/\0<=E3 s/\E3 s<=4611686018427387903:=λs a=>(L.all s a).nn (L.inv.all s a) hK
theorem LF.put0{S H:Int}(L:LF K S H l)(hK:K<=1000000)(F:AT s)(h:Xx K s)(h1:Dw s=0)(h2:E3 s=0)(hl:l.length+1<=K):LF K S H (E9 l s):=by
 have c:=L.nn hK;have a:l.length<=1000000:=Aa
 refine⟨LZ L.inv h hl,λx hx=>?_,?_,?_,?_⟩
 ·rcases Qb1 hx with e|e
  ·rw[e];exact F
  ·exact L.all x e
 ·unfold E9;split
  ·rename_i b;have e:=Zsu (g:=λs:Zh=>s.1) (s:=s) (l:=l) (i:=(Qe l s.1).toNat) (d:=Zc) ((rN a s.1).2.2 b).symm;exact Nu.1 (by rw[e];exact Nu.2 L.srt)
  ·rename_i b;exact Qba L.srt ((rN a s.1).2.1 Aa)
 ·unfold E9;split
  ·rename_i b;have hx:=(rN a s.1).1;rw[FN Aa,h1];have:=(c _ (Z7 (d:=Zc) (show(Qe l s.1).toNat<l.length by omega))).1.1;have:=L.snt;omega
  ·rw[OK,h1];have:=L.snt;omega
 ·unfold E9;split
  ·rename_i b;have hx:=(rN a s.1).1;rw[FN Aa,h2];have:=(c _ (Z7 (d:=Zc) (show(Qe l s.1).toNat<l.length by omega))).2.1;have:=L.hgh;omega
  ·rw[OK,h2];have:=L.hgh;omega
theorem Qmy{K:Nat}{S H:Int}(h25:25<=K)(hK:K<=1000000)(v:Bool){o p:av}(ho:Gf o=K4)(hp:Gf p=K4){id:Int}(hq:jq id=K4):∀(m:Nat){l:List Zh},LF K S H l->l.length+m<=24->4*(m:Int)<=id+4->LF K S H (E8 v o p id m l)
 |0,_,L,_,_=>L
 |m+1,l,L,g,h=>by
  have a:=Wv.1 hq;have c:Lb.wrap (id-Lb.wrap (4*(m:Int)))=id-4*(m:Int):=Ao
  obtain⟨F,i,d,e⟩:=Qw2 v ho hp (id:=id-4*(m:Int)) (Wv.2 Aa);obtain⟨b,-,f⟩:=D1 v (id-4*(m:Int)) o p;have:=By l (Fy v (id-4*(m:Int)) o p);unfold E8;rw[c];exact Qmy h25 hK v ho hp hq m (L.put0 hK F (f.mono (L7 K)) d e Aa) Aa Aa
theorem Qmz(v:Bool){o p:av}(ho:Gf o=K4)(hp:Gf p=K4){id:Int}(hq:jq id=K4):∀(m:Nat){l:List Zh},l.length+m<24-> ∃s∈E8 v o p id (m+1) l,s.1=id
 |0,l,a=>by
  grind[Wv,Zr,Qw2,E8,Qqk]
 |m+1,l,a=>by
  have:=By l (Fy v (Lb.wrap (id-Lb.wrap (4*((m+1:Nat):Int)))) o p);unfold E8;exact Qmz v ho hp hq m Aa
theorem Ug.LF{K:Nat}{c:Zf}(hc:Ug c)(h:Qb K c)(hK:K<=1000000):LF K (c:Zah).2.1 (c:Zai).2.2.2.1 (c:Id):=by
 have b:∀s∈(c:Id),AT s:=λs a=>hc.st h hK a;have d:∀s∈(c:Id),(0<=Dw s/\Dw s<=4611686018427387903)/\0<=E3 s/\E3 s<=4611686018427387903:=λs a=>(b s a).nn (h.str.all s a) hK;have t:=hc.tail;unfold F7 at t;simp only[pC,decide_eq_true_eq]at t;have e:=(IP (f:=Dw) (n:=0) (λs a=>(d s a).1) (Lg _) Ah).1;have g:=(IP (f:=E3) (n:=0) (λs a=>(d s a).2) (Lg _) Ah).1;have u:=vK.1 hc.tot;have u1:=u.lim;have u2:=u.use
 have w:=EH.1 hc.inf;have w1:=w.lim;have k:=w.seen
 have i:=t.1.2;have j:=t.2
 rw[e]at i;rw[g]at j;exact⟨h.str,b,(n9.1 hc.sts).srt,Aa,Aa⟩
theorem Qsa{c':Zf}(hc:Ug c)(hK:K<=1000000)(e1:c'.2.1=c.2.1)(e2:c'.2.2.1=c.2.2.1)(L:LF K (c':Zah).2.1 (c':Zai).2.2.2.1 (c':Id))(hl:(c':Id).length<=24)
  (ht:RH (c':Zah)) (hi:AX (c':Zai)) (hob:OZ (c':Zar)=K4) (hou:OZ (c':Zaq)=K4) (hab:EX (c':Zay)) (hau:EX (c':Zav))
  (et:(c':ZaN)=(c:ZaN)):Ug c':=by
 have t:=hc.tail;unfold F7 at t;simp only[pC,decide_eq_true_eq]at t;have b:=L.nn hK;have d:=(IP (f:=Dw) (n:=0) (λs a=>(b s a).1) (Lg _) Ah).1;have e:=(IP (f:=E3) (n:=0) (λs a=>(b s a).2) (Lg _) Ah).1;refine⟨by rw[e1];exact hc.own,by rw[e2];exact hc.peer,n9.2 ⟨λs a=>(Qxw (L.inv.all s a) hK).2 (L.all s a),L.srt,hl⟩,vK.2 ht,EH.2 hi,hob,hou,EY.2 hab,EY.2 hau,by rw[et];exact hc.pks,?_⟩;unfold F7;rw[et,d,e];simp only[pC,decide_eq_true_eq];have:=L.snt;have:=L.hgh
 grind
theorem MA(h:Qb K c)(hc:bJ c=K4)(h25:25<=K)(hK:K<=400000)(hq:jq id=K4):Qb K (jy c id).2:=by
 obtain⟨y,e,a⟩:=ZQ h h25 hK id
 grind[eR]
theorem DV(h:Qb K c)(hc:bJ c=K4)(h25:25<=K)(hK:K<=400000)(hq:jq id=K4)(h0:(jy c id).1=0):Ug (jy c id).2/\0<=Qe (jy c id).2.2.2.2.1 id/\(jy c id).2.1=c.1:=by
 have a:=(Sp h).1 hc;have v:=h.str.len;unfold jy at h0⊢;by_cases k:0<=Qe (c:Id) id
 ·simp_all
 rw[Zm (Zk k)]at h0⊢;cases ho:MF c.1 id
 ·rw[ho,pH]at h0;rw[pH];cases hg:IT c id
  ·simp_all
  rw[pG];have x:=vZ hg;have m:=Wv.1 hq;have g:lS id=id/4:=by simp_all[lS]
  have n:Et (aG c id) (lS id)=true:=by
   simp_all[IT]
  have b:=n;unfold Et at b;simp only[pC,decide_eq_true_eq]at b;have d:=EY.1 b.1;have y:MC (aG c id) (lS id)=lS id+1- (aG c id).2.2.1:=by grind[MC]
  have i:EX (Om (aG c id) (lS id)):=by
   have o:=d.most;have p:=d.lim;have z:=d.seen;have A:=d.clo;have q:=d.lc
   unfold Om;exact⟨o,p,Ai,Ai,q⟩
  have L:=Qmy h25 Aa c.1 a.own a.peer hq (MC (aG c id) (lS id)).toNat (a.LF h Aa) Aa (by have:=d.seen;omega)
  have j:=Qg6 c.1 c.2.1 c.2.2.1 id (MC (aG c id) (lS id)).toNat (c:Id);obtain⟨s,e,f⟩:=Qmz c.1 a.own a.peer hq ((MC (aG c id) (lS id)).toNat-1) (l:=(c:Id)) Aa;rw[show(MC (aG c id) (lS id)).toNat-1+1=(MC (aG c id) (lS id)).toNat by omega]at e;have hx:(Tl c id:Id)=E8 c.1 c.2.1 c.2.2.1 id (MC (aG c id) (lS id)).toNat (c:Id):=rfl;refine⟨?_,by rw[hx];exact Qpx Aa ⟨s,e,f⟩,by unfold Tl S5;cases WN id<;>rfl⟩;have u:=vK.1 a.tot;have w:=EH.1 a.inf;have r:=EY.1 a.ab;have t:=EY.1 a.au;unfold Tl S5;cases WN id
  ·exact Qsa a Aa rfl rfl L Ai u w a.ob a.ou i t rfl
  ·exact Qsa a Aa rfl rfl L Ai u w a.ob a.ou r i rfl
 simp_all
theorem Qaz{l l':List Zh}(n:Int)(hl:l.length=l'.length)(h:∀j,(l.getD j Zc).1=(l'.getD j Zc).1):∀(N:Nat)(i:Int),Kd N l n i=Kd N l' n i
 |0,_=>rfl
 |N+1,i=>by
  unfold Kd;rw[hl,h,Qaz n hl h N]
theorem Bl(n:Int)(h:s.1=(l.getD i Zc).1):Qe (l.set i s) n=Qe l n:=by
 have e:Kc (l.set i s) n=Kc l n:=by
  unfold Kc Kx;rw[M7];refine Qaz n (M7) (λj=>?_) _ _;by_cases a:j=i
  ·subst a;by_cases b:j<l.length
   all_goals simp_all
  grind
 simp_all[Qe]
theorem ZR(h:i<l.length):(l.set i s).getD i Zc=s:=by simp_all
abbrev HA(x:Zf)(id:Int):Zh:=(x:Id).getD (Qe (x:Id) id).toNat Zc
abbrev xU(x:Zf)(id:Int)(s:Zh):Zf:=k8 x ((x:Id).set (Qe (x:Id) id).toNat s)
abbrev Fj(x:Zf)(w:Qp):Zf:=(x.1,x.2.1,x.2.2.1,(x:Id),(x:Zah),w,(x:Zbv).2)
abbrev gO(s:Zh):Zh:=(s.1,s.2.1,(s:LE),(s:Fd),(s:Fn),(s:Zaz),(s:Zak),(s:Zao),(s:ZaE).1,(s:ZaS),(s:ZaX).1,(s:ZaM),(s:Zaw).1,K4,(s:Zaw).2.2)
abbrev Fx(s:Zh):Bool:=(s:Zaw).2.1
def Su(s:Zh):Bool:=Ej (wg s)
theorem Qsd(h:Xx K s)(hK:K<=1000000):wg s=K2 (Su s,()):=Dq (Qmd h hK)
theorem Qsc(h:Xx K s)(hK:K<=1000000:=by omega):Vd s=K2 (Su s,()):=by
 rw[<-Qsd h hK];unfold Vd wg;rw[qO h hK];have e:yJ s=se s:=by
  unfold yJ gG se gG VV sd;rw[zO h.rcv hK]
 simp_all[VW,y7]
def CO(v:Bool)(s:Zh):Bool:= !(Fx s||MF v s.1)&&Su s
def fin(x:Zf)(id:Int):Zf:=cond (CO x.1 (HA x id)) (S5 (xU x id (gO (HA x id))) id (Hu (aG x id))) x
theorem Qpo(x:Zf)(id:Int):(fin x id:Id)=(cond (CO x.1 (HA x id)) ((x:Id).set (Qe (x:Id) id).toNat (gO (HA x id))) (x:Id)):=by
 unfold fin S5;cases CO x.1 (HA x id)
 ·rfl
 ·cases WN id<;>rfl
theorem Ux(h:Qb K x)(hs:Xx K s)(hK:K<=500000)(hid:s.1=id)(hi:0<=Qe (x:Id) id):bG x s=K2 ((),fin (xU x id s) id,()):=by
 subst hid;have r:=h.str.len;obtain⟨t,-,i⟩:=rN (l:=(x:Id)) Aa s.1;have j:s.1=((x:Id).getD (Qe (x:Id) s.1).toNat Zc).1:=by rw[i hi]
 have c:Qe ((x:Id).set (Qe (x:Id) s.1).toNat s) s.1=Qe (x:Id) s.1:=Bl s.1 j;have d:HA (xU x s.1 s) s.1=s:=by
  show((x:Id).set (Qe (x:Id) s.1).toNat s).getD (Qe ((x:Id).set (Qe (x:Id) s.1).toNat s) s.1).toNat Zc=s;rw[c];exact ZR Aa
 have k:Xx K (gO s):=⟨hs.snd,hs.rcv⟩
 have m:Xe (x:Id) s=K2 ((x:Id).set (Qe (x:Id) s.1).toNat s,()):=by
  rw[Z5g h.str hs hK];unfold E9;rw[if_pos hi]
 have f:Xe (x:Id) (gO s)=K2 ((x:Id).set (Qe (x:Id) s.1).toNat (gO s),()):=by
  rw[Z5g h.str k hK];unfold E9;rw[if_pos hi]
 have g:∀a,∃b,fX a=K2 (Hu a,b,()):=λa=>by
  obtain⟨⟨y,b,u⟩,e,v⟩:=TX a;exact⟨b,Ag⟩
 unfold bG tD XT gG tA tB tC fin;rw[d,RV,Qsd hs Aa];simp only[bO,Gy];have e:((Fx s||(!Fx s&&MF x.1 s.1))|| !Su s)= !CO x.1 s:=by
  unfold CO;cases Fx s<;>cases MF x.1 s.1<;>cases Su s<;>rfl
 rw[e];have n:(xU x s.1 s).1=x.1:=rfl;rw[n];cases CO x.1 s
 ·rw[Lk,pG,pH,pA,m];rfl
 ·rw[pI,pH,pG,Tc,pA];obtain⟨w,o⟩:=g (x:Zav);obtain⟨z,p⟩:=g (x:Zay);rw[o,p];have q:xU (xU x s.1 s) s.1 (gO s)=k8 x ((x:Id).set (Qe (x:Id) s.1).toNat (gO s)):=by
   show k8 x (((x:Id).set (Qe (x:Id) s.1).toNat s).set (Qe ((x:Id).set (Qe (x:Id) s.1).toNat s) s.1).toNat (gO s))=_;rw[c,My]
  rw[q];unfold S5 aG;cases WN s.1
  ·simp only[pH,pA];rw[show(s.1,s.2.1,(s:LE),(s:Fd),(s:Fn),(s:Zaz),(s:Zak),(s:Zao),(s:ZaE).1,(s:ZaS),(s:ZaX).1,(s:ZaM),(s:Zaw).1,K4,(s:Zaw).2.2)=gO s from rfl,f];rfl
  ·simp only[pG,pA];rw[show(s.1,s.2.1,(s:LE),(s:Fd),(s:Fn),(s:Zaz),(s:Zak),(s:Zao),(s:ZaE).1,(s:ZaS),(s:ZaX).1,(s:ZaM),(s:Zaw).1,K4,(s:Zaw).2.2)=gO s from rfl,f];rfl
def Fo(x:Zf)(id:Int):Oc Zf Int:=Ld (Z5 (x:Id) id) λt14=>Ze (0<=t14.1/\t14.1<(x:Id).length)<|Ld (Vk x.1 id) λt13=>Ld (cond (t13.1||Fx ((x:Id).getD t14.1.toNat Zc)) (K2 (Lc,())) (Vd ((x:Id).getD t14.1.toNat Zc))) λt24=>cond ((t13.1||Fx ((x:Id).getD t14.1.toNat Zc))||(!t24.1)) (K2 (x,(0:Int),())) (Ld (Z2 (k8 x ((x:Id).set t14.1.toNat (gO ((x:Id).getD t14.1.toNat Zc)))) id) λt33=>cond t33.1 (Ld (Z2 t33.2.1 id) λt36=>cond t36.1 (Ld (Z0 (t36:ZaU)) λt39=>K2 ((t36.2.1.1,t36.2.1.2.1,t36.2.1.2.2.1,t36.2.1.2.2.2.1,(t36:ZaP).1,(t36:ZaP).2.1,(t36:ZaP).2.2.1,(t36:Zbc).1,(t36:ZaO),t39.1,(t36:Zbc).2.2.2),(0:Int),())) (Ld (Z0 (t36:ZaO)) λt39=>K2 ((t36.2.1.1,t36.2.1.2.1,t36.2.1.2.2.1,t36.2.1.2.2.2.1,(t36:ZaP).1,(t36:ZaP).2.1,(t36:ZaP).2.2.1,(t36:Zbc).1,(t36:ZaO),t39.1,(t36:Zbc).2.2.2),(0:Int),()))) (Ld (Z2 t33.2.1 id) λt36=>cond t36.1 (Ld (Z0 (t36:ZaU)) λt39=>K2 ((t36.2.1.1,t36.2.1.2.1,t36.2.1.2.2.1,t36.2.1.2.2.2.1,(t36:ZaP).1,(t36:ZaP).2.1,(t36:ZaP).2.2.1,(t36:Zbc).1,t39.1,(t36:Zbc).2.2),(0:Int),())) (Ld (Z0 (t36:ZaO)) λt39=>K2 ((t36.2.1.1,t36.2.1.2.1,t36.2.1.2.2.1,t36.2.1.2.2.2.1,(t36:ZaP).1,(t36:ZaP).2.1,(t36:ZaP).2.2.1,(t36:Zbc).1,t39.1,(t36:Zbc).2.2),(0:Int),()))))
theorem FH(h:mQ K (x:Id))(hK:K<=500000)(hi:0<=Qe (x:Id) id):Fo x id=K2 (fin x id,(0:Int),()):=by
 have j:=h.len;obtain⟨k,-,f⟩:=rN (l:=(x:Id)) Aa id;have g:=h.all _ (Z7 (d:=Zc) (show(Qe (x:Id) id).toNat<(x:Id).length by omega));have i:∀x n,Z2 x n=K2 (WN n,x,()):=λx n=>by
  unfold Z2;rw[MD,Tc,pA];cases WN n<;>rfl
 have c:∀a,∃b,Z0 a=K2 (Hu a,b,()):=λa=>by
  obtain⟨⟨y,b,u⟩,e,m⟩:=TX a
  grind[Qk4]
 unfold Fo fin;rw[uT Aa,YA Aa,pA];simp only;rw[Zb,df,RV,pA,Qsc g];simp only[bO,Gy];have e:((MF x.1 id||Fx (HA x id))|| !Su (HA x id))= !CO x.1 (HA x id):=by
  unfold CO;rw[f hi];cases Fx (HA x id)<;>cases MF x.1 id<;>cases Su (HA x id)<;>rfl
 rw[e];cases CO x.1 (HA x id)
 ·rfl
 ·rw[pI,pH,pG,i,pA];obtain⟨o,p⟩:=c (x:Zav);obtain⟨q,r⟩:=c (x:Zay);unfold S5 aG;cases hu:WN id
  ·grind
  grind
theorem Qn3(w:Qp):RI w 0=w:=by simp_all[RI]
abbrev gT(w:Qp):Int:=w.2.2.1-(w:ZaD)
def jZ(x:Zf)(s:Zh)(n:Int):Bool:=K3 (n<=gT (s:Fn))&&K3 (n<=gT (x:Zai))
abbrev vW(s:Zh)(w:Qp):Zh:=(s.1,s.2.1,(s:LE),(s:Fd),w,s.2.2.2.2.2)
abbrev So(s:Zh)(r:Zz):Zh:=(s.1,s.2.1,(s:LE),r,s.2.2.2.2)
theorem Qul(r:Zz)(e:Int):0<=Ue r e:=by
 unfold Ue
 grind
theorem Qr5(hs:Xx K s)(hK:K<=1000000)(w1:Bs (s:Fn)=K4)(w2:Bs (x:Zai)=K4)(e:Int):rG x s e=K2 (cond (jZ x s (Ue (s:Fd) e)) (((0:Int),()),Fj x (RI (x:Zai) (Ue (s:Fd) e)),vW s (RI (s:Fn) (Ue (s:Fd) e)),()) (((3:Int),()),x,s,())):=by
 have a:=EH.1 w1;have b:=EH.1 w2;have h:=a.seen;have i:=b.seen
 have j:0<=gT (s:Fn):=by unfold gT;omega
 have k:0<=gT (x:Zai):=by unfold gT;omega
 have c:=Qul (s:Fd) e;unfold rG tH tU;rw[Qi5 hs.rcv hK,pA];generalize Ue (s:Fd) e=n at c⊢;simp only;by_cases d:n=0
 ·simp_all[jZ,Qn3]
 ·rw[Zm (by simpa using d),Qxm,Qxm];have f:Dc (s:Fn) n=K3 (n<=gT (s:Fn)):=Ax
  have g:Dc (x:Zai) n=K3 (n<=gT (x:Zai)):=Ax
  simp only[pA];rw[f,g];unfold jZ;cases K3 (n<=gT (s:Fn))<;>cases K3 (n<=gT (x:Zai))<;>rfl
theorem Of(h:Kg f=K4):jq f.2.1=K4/\(0<=(f:LT)/\(f:LT)<=4611686018427387903)/\(f.1=8->(f:LT)+((f:IO).length:Int)<=4611686018427387903)/\(f:IO).length<=400:=by unfold Kg fq at h;simp only[pC,decide_eq_true_eq]at h;constructor<;>grind[Wv]
theorem mQ.set{K:Nat}{l:List Zh}(h:mQ K l){s:Zh}(hs:Xx K s)(i:Nat):mQ K (l.set i s):=⟨by rw[M7];exact h.len,λx hx=>by
 rcases List.mem_or_eq_of_mem_set hx with h1|h1
 ·exact h.all x h1
 simp_all⟩
def pre(c:Zf)(f:Zj)(g can:Bool)(k:Zf->Zf×Int×Unit):Zf×Int×Unit:=cond ((bJ c&&Kg f)&&g) (cond can (cond ((jy c f.2.1).1==0) (k (jy c f.2.1).2) (c,(jy c f.2.1).1,())) (c,5,())) (c,7,())
def EA(v:Bool)(n:Int):Bool:=Ej (V4 v n)
theorem Pz(v:Bool)(n:Int):V4 v n=K2 (EA v n,()):=Dq (LL v n)
def HZ(v:Bool)(n:Int):Bool:=Ej (Y9 v n)
theorem co(v:Bool)(n:Int):Y9 v n=K2 (HZ v n,()):=Dq (Hx v n)
def Hn(m:Oc Zz Int):Zz×Int×Unit:=match m with|some y=>y|none=>(qq,0,())
def P1(c:Zf)(f:Zj)(x:Zf):Zf×Int×Unit:=cond (jZ x (HA x f.2.1) (Ue (HA x f.2.1:Fd) (Lb.wrap ((f:LT)+(f:IO))))) (cond ((Hn (K8 (HA x f.2.1:Fd) (f:LT) (f:IO) (f:Zas))).2.1==0) (fin (xU (Fj x (RI (x:Zai) (Ue (HA x f.2.1:Fd) (Lb.wrap ((f:LT)+(f:IO)))))) f.2.1 (So (vW (HA x f.2.1) (RI (HA x f.2.1:Fn) (Ue (HA x f.2.1:Fd) (Lb.wrap ((f:LT)+(f:IO)))))) (Hn (K8 (HA x f.2.1:Fd) (f:LT) (f:IO) (f:Zas))).1)) f.2.1,0,()) (c,(Hn (K8 (HA x f.2.1:Fd) (f:LT) (f:IO) (f:Zas))).2.1,())) (c,3,())
structure PX(K:Nat)(x:Zf)(id:Int):Prop where
 inv:Qb K x
 con:Ug x
 idx:0<=Qe x.2.2.2.1 id
theorem PX.mem(h:PX K x id)(hK:K<=1000000):HA x id∈(x:Id)/\(Qe (x:Id) id).toNat<(x:Id).length/\(HA x id).1=id:=by
 have a:=h.inv.str.len;obtain⟨b,-,c⟩:=rN (l:=(x:Id)) Aa id;have d:=h.idx
 grind(splits:=20)[Z7]
theorem Qwf(h:Qb K c)(hf:T6 f)(h25:25<=K)(hK:K<=390000):mz c f=K2 (pre c f (f.1==8) (HZ c.1 f.2.1) (P1 c f),()):=by
 unfold T6 at hf;unfold mz gG tD pre;simp only[GI h,GA hf,Y8 h,bO,Gy,pA,co];cases hc:bJ c
 ·rfl
 cases hk:Kg f
 ·rfl
 rw[bne];cases hg:f.1==8
 ·rfl
 simp only[pI,Ll,pH,Li,pG];cases HZ c.1 f.2.1
 ·rfl
 simp only[pI,pH,pG];obtain⟨a,l,o,p⟩:=Of hk;rw[eR h hc h25 Aa a,pA,bne];cases h0:(jy c f.2.1).1==0
 ·rfl
 have E:PX K (jy c f.2.1).2 f.2.1:=by
  have e:=DV h hc h25 Aa a (by simpa using h0);exact⟨MA h hc h25 Aa a,e.1,e.2.1⟩
 simp only[pI,pH,pG];generalize (jy c f.2.1).2=x at E⊢;obtain⟨g,q,m3⟩:=E.mem Aa;have b:=E.inv.str.all _ g;have F:=E.con.st E.inv Aa g;rw[dV E.inv Aa,if_pos E.idx,pA];obtain⟨r,v,e,i⟩:=N8 b.rcv (f:LT) (f:IO) (f:Zas);simp only;unfold P1;rw[e,pA,Qr5 b Aa (EH.2 F.win) E.con.inf,pA];cases jZ x (HA x f.2.1) (Ue (HA x f.2.1:Fd) (Lb.wrap ((f:LT)+(f:IO))))
 ·rfl
 simp only[pG,show((0:Int) !=0)=Lc from rfl,pH,Hn];rw[bne];cases v==0
 ·rfl
 simp only[pI,pH,pG];generalize Ue (HA x f.2.1:Fd) (Lb.wrap ((f:LT)+(f:IO)))=n;have j:Xx (K+(f:IO)+1) (So (vW (HA x f.2.1) (RI (HA x f.2.1:Fn) n)) r):=⟨b.snd.mono Aa,i⟩
 have k:=Ux (x:=Fj x (RI (x:Zai) n)) (id:=f.2.1) (K:=K+(f:IO)+1) ⟨E.inv.str.mono Aa,E.inv.pk.mono Aa⟩ j Aa m3 E.idx;exact Lm (congrArg (λm:Oc Unit Zf=>Ld m λd=>K2 ((d.2.1,(0:Int),()),())) k) rfl
theorem Qwe(h:Qb K c)(hf:T6 f)(h25:25<=K)(hK:K<=390000):yG c f=K2 (pre c f (f.1==8) (HZ c.1 f.2.1) (P1 c f)):=by
 unfold T6 at hf;unfold yG gG gH gJ tA tB tC tD tH tR pre;simp only[KX h,GI h,BH hf,V6 h,bO,Gy,Xm,pA,DW,co];cases hc:bJ c
 ·rfl
 cases hk:Kg f
 ·rfl
 cases hg:f.1==8
 ·rfl
 simp only[pI,Ll,pH,Li,pG];cases HZ c.1 f.2.1
 ·rfl
 simp only[pI,pH,pG];obtain⟨b,k,l,m⟩:=Of hk;rw[Sr h hc h25 Aa,pA,bne];cases h0:(jy c f.2.1).1==0
 ·rfl
 have E:PX K (jy c f.2.1).2 f.2.1:=by
  have e:=DV h hc h25 Aa b (by simpa using h0);exact⟨MA h hc h25 Aa b,e.1,e.2.1⟩
 simp only[pI,pH,pG];generalize (jy c f.2.1).2=x at E⊢;obtain⟨d,g,m3⟩:=E.mem Aa;have a:=E.inv.str.all _ d;have F:=E.con.st E.inv Aa d;have o:=E.inv.str.len;have p:=E.idx;rw[uT Aa,YA Aa,pA];simp only;rw[Zb,Z6k a.rcv Aa,pA,PR,pA,PR,EH.2 F.win,E.con.inf];obtain⟨r,v,e,i⟩:=N8 a.rcv (f:LT) (f:IO) (f:Zas);unfold P1 jZ;simp only[pG];rw[show K3 (Ue (HA x f.2.1:Fd) (Lb.wrap ((f:LT)+(f:IO)))>gT (HA x f.2.1:Fn))= !K3 (Ue (HA x f.2.1:Fd) (Lb.wrap ((f:LT)+(f:IO)))<=gT (HA x f.2.1:Fn)) by grind];cases K3 (Ue (HA x f.2.1:Fd) (Lb.wrap ((f:LT)+(f:IO)))<=gT (HA x f.2.1:Fn))
 ·rfl
 simp only[pI,pH,pA,Le,pJ];rw[show K3 (Ue (HA x f.2.1:Fd) (Lb.wrap ((f:LT)+(f:IO)))>gT (x:Zai))= !K3 (Ue (HA x f.2.1:Fd) (Lb.wrap ((f:LT)+(f:IO)))<=gT (x:Zai)) by grind];cases K3 (Ue (HA x f.2.1:Fd) (Lb.wrap ((f:LT)+(f:IO)))<=gT (x:Zai))
 ·rfl
 simp only[pI,pH,pG];rw[Qnp a.rcv _ _ _ Aa Aa,e,pA];simp only[Hn];rw[bne];cases v==0
 ·rfl
 simp only[pI,pH,pG];rw[G6,G6,pA,pA];simp only[ZR g,My];generalize q:Ue (HA x f.2.1:Fd) (Lb.wrap ((f:LT)+(f:IO)))=n;have j:Xx (K+(f:IO)+1) (So (vW (HA x f.2.1) (RI (HA x f.2.1:Fn) n)) r):=⟨a.snd.mono Aa,i⟩
 refine Lm ?_ (FH (K:=K+(f:IO)+1) (x:=xU (Fj x (RI (x:Zai) n)) f.2.1 (So (vW (HA x f.2.1) (RI (HA x f.2.1:Fn) n)) r)) (id:=f.2.1) ?_ Aa ?_)
 ·rfl
 ·exact(E.inv.str.mono Aa).set j _
 ·show 0<=Qe ((x:Id).set (Qe (x:Id) f.2.1).toNat (So (vW (HA x f.2.1) (RI (HA x f.2.1:Fn) n)) r)) f.2.1;rw[show Qe ((x:Id).set (Qe (x:Id) f.2.1).toNat (So (vW (HA x f.2.1) (RI (HA x f.2.1:Fn) n)) r)) f.2.1=Qe (x:Id) f.2.1 from Bl _ rfl];exact E.idx
theorem Qhh(w:Qp)(n:Int):Gq w (max 0 n)=Gq w n:=by grind(splits:=20)[Pn,Gq]
def qQ(x:Zf)(f:Zj):Int:=Ue (HA x f.2.1:Fd) (f:Zax)
def UF(x:Zf)(f:Zj):Zz×Int×Unit:=Hn (Ws (HA x f.2.1:Fd) (f:Zap) (f:Zax))
def Qxi(x:Zf)(f:Zj):Int:=Lb.wrap ((f:Zax)- (RI (HA x f.2.1:Fn) (qQ x f):ZaL))
def r8(c:Zf)(f:Zj)(x:Zf):Zf×Int×Unit:=cond (jZ x (HA x f.2.1) (qQ x f)) (cond ((UF x f).2.1==0) (cond (((UF x f).1.1==4)&&((HA x f.2.1:Zat) !=4)) (fin (xU (Fj x (Gq (RI (x:Zai) (qQ x f)) (Qxi x f))) f.2.1 (So (vW (HA x f.2.1) (Gq (RI (HA x f.2.1:Fn) (qQ x f)) (Qxi x f))) (UF x f).1)) f.2.1,0,()) (fin (xU (Fj x (RI (x:Zai) (qQ x f))) f.2.1 (So (vW (HA x f.2.1) (RI (HA x f.2.1:Fn) (qQ x f))) (UF x f).1)) f.2.1,0,())) (c,(UF x f).2.1,())) (c,3,())
theorem Qyx(h:Qb K c)(hf:T6 f)(h25:25<=K)(hK:K<=390000):kO c f=K2 (pre c f (f.1==4) (HZ c.1 f.2.1) (r8 c f),()):=by
 unfold T6 at hf;unfold kO gG dT tD pre;simp only[GI h,GA hf,Y8 h,bO,Gy,pA,co];cases hc:bJ c
 ·rfl
 cases hk:Kg f
 ·rfl
 rw[bne];cases hg:f.1==4
 ·rfl
 simp only[pI,Ll,pH,Li,pG];cases HZ c.1 f.2.1
 ·rfl
 simp only[pI,pH,pG];obtain⟨i,n,o,p⟩:=Of hk;rw[eR h hc h25 Aa i,pA,bne];cases h0:(jy c f.2.1).1==0
 ·rfl
 have E:PX K (jy c f.2.1).2 f.2.1:=by
  have e:=DV h hc h25 Aa i (by simpa using h0);constructor<;>grind[MA]
 simp only[pI,pH,pG];generalize (jy c f.2.1).2=x at E⊢;obtain⟨j,q,m3⟩:=E.mem Aa;have d:=E.inv.str.all _ j;have F:=E.con.st E.inv Aa j;rw[dV E.inv Aa,if_pos E.idx,pA];obtain⟨r,v,e,k⟩:=eV d.rcv Aa (f:Zap) (f:Zax);have l:UF x f=(r,v,()):=by unfold UF;rw[e];rfl
 simp only;unfold r8;rw[e,pA,Qr5 d Aa (EH.2 F.win) E.con.inf,pA,l];rw[show Ue (HA x f.2.1:Fd) (f:Zax)=qQ x f from rfl];cases jZ x (HA x f.2.1) (qQ x f)
 ·rfl
 simp only[pG,show((0:Int) !=0)=Lc from rfl,pH];rw[bne];cases v==0
 ·rfl
 simp only[pI,pH,pG];have a:∀w1 b,Ld (bG (Fj x w1) (So (vW (HA x f.2.1) b) r)) (λg=>K2 ((g.2.1,(0:Int),()),()))=K2 ((fin (xU (Fj x w1) f.2.1 (So (vW (HA x f.2.1) b) r)) f.2.1,0,()),()):=λw1 b=>by
  have m:Xx K (So (vW (HA x f.2.1) b) r):=⟨d.snd,k⟩
  rw[Ux (x:=Fj x w1) (id:=f.2.1) (K:=K) ⟨E.inv.str,E.inv.pk⟩ m Aa m3 E.idx];rfl
 cases ((r.1==4)&&((HA x f.2.1:Zat) !=4))
 ·exact a _ _
 ·simp only[pG];unfold rH;simp only[Qsr,Qhh,pA];exact a _ _
def Qxj(x:Zf)(f:Zj)(i:Nat)(l:List Zh)(w:Qp)(r:Zz):Oc Zf Int:=cond ((r.1==(4:Int))&&((l.getD i Zc:Zat) !=(4:Int))) (Ld (W7 ((l.set i (So (l.getD i Zc) r)).getD i Zc:Fn) (Lb.wrap ((f:Zax)- ((l.set i (So (l.getD i Zc) r)).getD i Zc:ZaY).2.1))) λt21=>Ld (W7 w (Lb.wrap ((f:Zax)- ((l.set i (So (l.getD i Zc) r)).getD i Zc:ZaY).2.1))) λt33=>Fo (k8 (Fj x t33.1) ((l.set i (So (l.getD i Zc) r)).set i (vW ((l.set i (So (l.getD i Zc) r)).getD i Zc) t21.1))) f.2.1) (Fo (k8 (Fj x w) (l.set i (So (l.getD i Zc) r))) f.2.1)
set_option maxHeartbeats 2000000 in
theorem Qyw(h:Qb K c)(hf:T6 f)(h25:25<=K)(hK:K<=390000):wx c f=K2 (pre c f (f.1==4) (HZ c.1 f.2.1) (r8 c f)):=by
 unfold T6 at hf;unfold wx gG gH gJ tA tB tC tD tH tR pre;simp only[KX h,GI h,BH hf,V6 h,bO,Gy,Xm,pA,DW,co];cases hc:bJ c
 ·rfl
 cases hk:Kg f
 ·rfl
 cases hg:f.1==4
 ·rfl
 simp only[pI,Ll,pH,Li,pG];cases HZ c.1 f.2.1
 ·rfl
 simp only[pI,pH,pG];obtain⟨i,o,p,q⟩:=Of hk;rw[Sr h hc h25 Aa,pA,bne];cases h0:(jy c f.2.1).1==0
 ·rfl
 have E:PX K (jy c f.2.1).2 f.2.1:=by
  have e:=DV h hc h25 Aa i (by simpa using h0);constructor<;>grind[MA]
 simp only[pI,pH,pG];generalize (jy c f.2.1).2=x at E⊢;obtain⟨g,j,m3⟩:=E.mem Aa;have d:=E.inv.str.all _ g;have F:=E.con.st E.inv Aa g;have s:=E.inv.str.len;have t:=E.idx;rw[uT Aa,YA Aa,pA];simp only;rw[Zb,Z6k d.rcv Aa,pA,PR,pA,PR,EH.2 F.win,E.con.inf];obtain⟨r,v,e,k⟩:=eV d.rcv Aa (f:Zap) (f:Zax);have l:UF x f=(r,v,()):=by unfold UF;rw[e];rfl
 unfold r8 jZ;rw[l];simp only[pG];rw[show Ue (HA x f.2.1:Fd) (f:Zax)=qQ x f from rfl];rw[show K3 (qQ x f>gT (HA x f.2.1:Fn))= !K3 (qQ x f<=gT (HA x f.2.1:Fn)) by grind];cases K3 (qQ x f<=gT (HA x f.2.1:Fn))
 ·rfl
 simp only[pI,pH,pA,Le,pJ];rw[show K3 (qQ x f>gT (x:Zai))= !K3 (qQ x f<=gT (x:Zai)) by grind];cases K3 (qQ x f<=gT (x:Zai))
 ·rfl
 simp only[pI,pH,pG];rw[Z5j d.rcv _ _ Aa,e,pA];simp only;rw[bne];cases v==0
 ·rfl
 simp only[pI,pH,pG];have b:∀w1 a,Fo (xU (Fj x w1) f.2.1 (So (vW (HA x f.2.1) a) r)) f.2.1=K2 (fin (xU (Fj x w1) f.2.1 (So (vW (HA x f.2.1) a) r)) f.2.1,(0:Int),()):=λw1 a=>by
  have m:Xx K (So (vW (HA x f.2.1) a) r):=⟨d.snd,k⟩
  refine FH (K:=K) (E.inv.str.set m _) Aa ?_;show 0<=Qe ((x:Id).set (Qe (x:Id) f.2.1).toNat (So (vW (HA x f.2.1) a) r)) f.2.1;rw[show Qe ((x:Id).set (Qe (x:Id) f.2.1).toNat (So (vW (HA x f.2.1) a) r)) f.2.1=Qe (x:Id) f.2.1 from Bl _ rfl];exact E.idx
 rw[G6,G6,pA,pA];refine Lm (show _=Qxj x f (Qe (x:Id) f.2.1).toNat ((x:Id).set (Qe (x:Id) f.2.1).toNat (vW (HA x f.2.1) (RI (HA x f.2.1:Fn) (qQ x f)))) (RI (x:Zai) (qQ x f)) r from rfl) ?_;unfold Qxj;have n:(Qe (x:Id) f.2.1).toNat<((x:Id).set (Qe (x:Id) f.2.1).toNat (vW (HA x f.2.1) (RI (HA x f.2.1:Fn) (qQ x f)))).length:=Af
 rw[ZR j,ZR n];simp only[My];cases ((r.1==4)&&((HA x f.2.1:Zat) !=4))
 ·exact b _ _
 ·simp only[pG,Qsq,pA];exact b _ _
theorem jM(s:Zn):0<=D0 s/\D0 s<=3:=by
 have e:=Gz s;unfold dF at e
 grind
theorem jO.st{s:Zn}(h:jO s):0<=s.1/\s.1<=5:=by
 by_cases a:s.1=4\/s.1=5
 ·omega
 ·have:=(h.no a).st;have:=jM s;omega
theorem Zud{K:Int}{s:Zn}(h:Wp K s)(hK:K<=1000000)(code:Int):kv s code=cK s code:=by
 have a:=h.cells;unfold kv gG cK gG bh;rw[xh h hK,R6 h hK,pA,qr h hK,uc h hK];simp only[bc,Cs,J8,pA,bO,Gy,bA,DP,Xm,Yb];cases hs:w0 s
 ·rfl
 ·have g:=((FI h hK).1 hs).st;have e:(K3 (s.1>=0)&&K3 (s.1<=2))= !K3 (s.1>2):=by
   grind
  rw[e];cases K3 (s.1>2)<;>cases jq code<;>rfl
def Qy6(m:Oc Zn Bool):Zn×Bool×Unit:=match m with|some y=>y|none=>(Jn,Lc,())
def Ck(x:Zf)(f:Zj):Zn×Bool×Unit:=Qy6 (cK (HA x f.2.1).2.1 (f:Zap))
abbrev Sv(s:Zh)(d:Zn):Zh:=(s.1,d,s.2.2)
abbrev Gi(s:Zh):Zh:=(s.1,s.2.1,(s:LE),(s:Fd),(s:Fn),(s:Zaz),(s:Zak),(s:Zao),K4,(s:ZaE).2)
def GX(f:Zj)(x:Zf):Zf×Int×Unit:=cond (Ck x f).2.1 (fin (xU x f.2.1 (Gi (Sv (HA x f.2.1) (Ck x f).1))) f.2.1,0,()) (fin x f.2.1,0,())
theorem Qy2(h:Qb K c)(hf:T6 f)(h25:25<=K)(hK:K<=390000):mA c f=K2 (pre c f (f.1==5) (EA c.1 f.2.1) (GX f),()):=by
 unfold T6 at hf;unfold mA gG tW fF pre;simp only[GI h,GA hf,Y8 h,bO,Gy,pA,Pz];cases hc:bJ c
 ·rfl
 cases hk:Kg f
 ·rfl
 rw[bne];cases hg:f.1==5
 ·rfl
 simp only[pI,Ll,pH,Li,pG];cases EA c.1 f.2.1
 ·rfl
 simp only[pI,pH,pG];obtain⟨g,o,p,q⟩:=Of hk;rw[eR h hc h25 Aa g,pA,bne];cases h0:(jy c f.2.1).1==0
 ·rfl
 have E:PX K (jy c f.2.1).2 f.2.1:=by
  have e:=DV h hc h25 Aa g (by simpa using h0);constructor<;>grind[MA]
 simp only[pI,pH,pG];generalize (jy c f.2.1).2=x at E⊢;obtain⟨i,r,m3⟩:=E.mem Aa;have a:=E.inv.str.all _ i;have F:=E.con.st E.inv Aa i;rw[dV E.inv Aa,if_pos E.idx,pA];obtain⟨d,v,e,k⟩:=VE a.snd (f:Zap);have l:Ck x f=(d,v,()):=by unfold Ck;rw[e];rfl
 simp only;unfold GX;rw[e,pA,l];cases v
 ·have hx:xU x f.2.1 (HA x f.2.1)=x:=by
   grind(splits:=20)[Qcg]
  have j:=Ux (x:=x) (id:=f.2.1) (K:=K) E.inv a Aa m3 E.idx;simp_all
 ·have n:Xx K (Gi (Sv (HA x f.2.1) d)):=⟨k,a.rcv⟩
  have j:=Ux (x:=x) (id:=f.2.1) (K:=K) E.inv n Aa m3 E.idx;exact Lm (congrArg (λm:Oc Unit Zf=>Ld m λb=>K2 ((b.2.1,(0:Int),()),())) j) rfl
set_option maxHeartbeats 2000000 in
theorem Qy1(h:Qb K c)(hf:T6 f)(h25:25<=K)(hK:K<=390000):yH c f=K2 (pre c f (f.1==5) (EA c.1 f.2.1) (GX f)):=by
 unfold T6 at hf;unfold yH gG gH gJ tA tB tC tD tT pre;simp only[KX h,GI h,BH hf,V6 h,bO,Gy,Xm,pA,Qst,Pz];cases hc:bJ c
 ·rfl
 cases hk:Kg f
 ·rfl
 cases hg:f.1==5
 ·rfl
 simp only[pI,Ll,pH,Li,pG];cases EA c.1 f.2.1
 ·rfl
 simp only[pI,pH,pG];obtain⟨g,n,o,p⟩:=Of hk;rw[Sr h hc h25 Aa,pA,bne];cases h0:(jy c f.2.1).1==0
 ·rfl
 have E:PX K (jy c f.2.1).2 f.2.1:=by
  have e:=DV h hc h25 Aa g (by simpa using h0);constructor<;>grind[MA]
 simp only[pI,pH,pG];generalize (jy c f.2.1).2=x at E⊢;obtain⟨b,i,m3⟩:=E.mem Aa;have a:=E.inv.str.all _ b;have F:=E.con.st E.inv Aa b;have q:=E.inv.str.len;have r:=E.idx;rw[uT Aa,YA Aa,pA];simp only;rw[Zb];obtain⟨d,v,e,j⟩:=VE a.snd (f:Zap);have k:Ck x f=(d,v,()):=by unfold Ck;rw[e];rfl
 unfold GX;rw[Zud a.snd Aa,e,pA,k];cases v
 ·have hx:=FH (K:=K) (x:=x) E.inv.str Aa E.idx;unfold Fo at hx;rw[uT Aa,YA Aa]at hx;simp only[pH];exact hx
 ·have m:Xx K (Gi (Sv (HA x f.2.1) d)):=⟨j,a.rcv⟩
  refine Lm (show _=(λl:List Zh=>Fo (k8 x (l.set (Qe (x:Id) f.2.1).toNat (Gi (l.getD (Qe (x:Id) f.2.1).toNat Zc)))) f.2.1) ((x:Id).set (Qe (x:Id) f.2.1).toNat (Sv (HA x f.2.1) d))from rfl) ?_;simp only[ZR i,My];refine FH (K:=K) (x:=xU x f.2.1 (Gi (Sv (HA x f.2.1) d))) (E.inv.str.set m _) Aa ?_;show 0<=Qe ((x:Id).set (Qe (x:Id) f.2.1).toNat (Gi (Sv (HA x f.2.1) d))) f.2.1;rw[show Qe ((x:Id).set (Qe (x:Id) f.2.1).toNat (Gi (Sv (HA x f.2.1) d))) f.2.1=Qe (x:Id) f.2.1 from Bl _ rfl];exact E.idx
abbrev GJ(s:Zh)(c:Jl):Zh:=(s.1,s.2.1,c,s.2.2.2)
def YG(f:Zj)(x:Zf):Zf×Int×Unit:=(xU x f.2.1 (GJ (HA x f.2.1) (YN (HA x f.2.1:LE) (f:Zan))),0,())
def Qy5(c:Zf)(n:Int):Zf:=(c.1,c.2.1,c.2.2.1,(c:Id),YN (c:Zah) n,(c:Zbv))
def NX(c:Zf)(u:Bool)(n:Int):Zf:=cond u (c.1,c.2.1,c.2.2.1,(c:Id),(c:Zah),(c:Zai),(c:Zar),PD (c:Zaq) n,(c:ZbA).2) (c.1,c.2.1,c.2.2.1,(c:Id),(c:Zah),(c:Zai),PD (c:Zar) n,(c:ZbA))
def LO(c:Zf)(f:Zj):Zf×Int×Unit:=cond (f.1==17) (pre c f K4 (EA c.1 f.2.1) (YG f)) (cond (f.1==21) (pre c f K4 (HZ c.1 f.2.1) (λx=>(x,0,()))) (cond (bJ c&&Kg f) (cond (f.1==16) (Qy5 c (f:Zan),0,()) (cond (f.1==18) (NX c (f:ZaA) (f:Zan),0,()) (cond ((f.1==20)||(f.1==22)) (c,0,()) (c,7,())))) (c,7,())))
theorem FX(h:Kg f=K4):f.1=4\/f.1=5\/f.1=8\/f.1=17\/f.1=21\/f.1=18\/f.1=22\/f.1=16\/f.1=20:=by
 unfold Kg K0 at h
 grind
theorem Qyr(h:Qb K c)(hf:T6 f)(h25:25<=K)(hK:K<=390000):kN c f=K2 (LO c f):=by
 unfold T6 at hf;unfold kN gG tG tH tM jt dR dS yB kX tD tP qk LO pre;simp only[Y8 h (show K<=1000000 by omega),GI h (show K<=1000000 by omega),GA hf,bO,Gy,pA,Pz,co,Qu2,Qqo];cases hc:bJ c
 ·simp_all
 cases hk:Kg f
 ·simp_all
 obtain⟨g,p,q,r⟩:=Of hk;rw[eR h hc h25 Aa g];have E:(jy c f.2.1).1=0->PX K (jy c f.2.1).2 f.2.1:=λb=>by
  have e:=DV h hc h25 Aa g b;constructor<;>grind[MA]
 rcases FX hk with k|k|k|k|k|k|k|k|k<;>rw[k]<;>simp only[Lq,pG,pH,pI,Ll,Li,Mq,Mp,pA,bne]
 ·cases EA c.1 f.2.1
  ·rfl
  cases b:(jy c f.2.1).1==0
  ·rfl
  have E:=E (by simpa using b);simp only[pI,pH,pG];generalize (jy c f.2.1).2=x at E⊢;obtain⟨l,s,m3⟩:=E.mem Aa;have i:=E.inv.str.all _ l;rw[dV E.inv Aa,if_pos E.idx,pA];have n:Xx K (GJ (HA x f.2.1) (YN (HA x f.2.1:LE) (f:Zan))):=⟨i.snd,i.rcv⟩
  have j:=Z5g E.inv.str n;have o:E9 (x:Id) (GJ (HA x f.2.1) (YN (HA x f.2.1:LE) (f:Zan)))=(x:Id).set (Qe (x:Id) f.2.1).toNat (GJ (HA x f.2.1) (YN (HA x f.2.1:LE) (f:Zan))):=by
   unfold E9;rw[show(GJ (HA x f.2.1) (YN (HA x f.2.1:LE) (f:Zan))).1=f.2.1 from m3,if_pos E.idx]
  rw[o]at j;exact Lm (congrArg (λm:Oa (List Zh)=>Ld (Ld m λd=>(K2 ((x.1,x.2.1,x.2.2.1,d.1,x.2.2.2.2),(0:Int),()):Oc Zf Int)) λa=>K2 (a.1,a.2.1,())) j) rfl
 ·cases HZ c.1 f.2.1
  ·rfl
  cases b:(jy c f.2.1).1==0
  ·rfl
  ·rfl
 ·unfold NX;cases (f:ZaA)<;>rfl
 ·rfl
theorem Qyq(h:Qb K c)(hf:T6 f)(h25:25<=K)(hK:K<=390000):ww c f=K2 (LO c f):=by
 unfold T6 at hf;have b:∀x u,Kp x u=K2 (u,x,()):=λx u=>by grind[Kp]
 unfold ww gG gH gJ tD tG tH tM tP LO pre;simp only[V6 h (show K<=1000000 by omega),KX h (show K<=1000000 by omega),GI h (show K<=1000000 by omega),BH hf,bO,Gy,pA,Qst,DW,Pz,co,Qu1,Qqn,b];cases hc:bJ c
 ·simp<;>omega
 cases hk:Kg f
 ·simp<;>omega
 obtain⟨d,g,i,j⟩:=Of hk;simp only[Sr h hc h25 (show K<=400000 by omega)];have E:(jy c f.2.1).1=0->PX K (jy c f.2.1).2 f.2.1:=λa=>by
  have e:=DV h hc h25 Aa d a;constructor<;>grind[MA]
 rcases FX hk with k|k|k|k|k|k|k|k|k<;>rw[k]<;>simp only[Lq,pG,pH,pI,Lk,Ll,Li,Mq,Mp,pA,bne,Ls,Mz]
 ·cases EA c.1 f.2.1
  ·rfl
  cases a:(jy c f.2.1).1==0
  ·rfl
  have E:=E (by simpa using a);simp only[pI,pH,pG];generalize (jy c f.2.1).2=x at E⊢;obtain⟨l,m,m3⟩:=E.mem Aa;have n:=E.inv.str.len;have o:=E.idx;rw[uT Aa,YA Aa,pA];simp only;rw[Zb];rfl
 ·cases HZ c.1 f.2.1
  ·rfl
  cases a:(jy c f.2.1).1==0
  ·rfl
  ·rfl
 ·unfold NX;cases (f:ZaA)<;>rfl
 ·rfl
def WY(c:Zf)(f:Zj):Zf×Int×Unit:=cond (f.1==8) (pre c f (f.1==8) (HZ c.1 f.2.1) (P1 c f)) (cond (f.1==4) (pre c f (f.1==4) (HZ c.1 f.2.1) (r8 c f)) (cond (f.1==5) (pre c f (f.1==5) (EA c.1 f.2.1) (GX f)) (LO c f)))
theorem Qwo(h:Qb K c)(hf:T6 f)(h25:25<=K)(hK:K<=390000):kM c f=K2 (WY c f,()):=by unfold kM aS WY;rw[Y8 h,pA,Qwf h hf h25 hK,Qyx h hf h25 hK,Qy2 h hf h25 hK,Qyr h hf h25 hK];cases f.1==8<;>cases f.1==4<;>cases f.1==5<;>rfl
theorem Qyn(h:Qb K c)(hf:T6 f)(h25:25<=K)(hK:K<=390000):wv c f=K2 (WY c f):=by unfold wv WY;rw[Qwe h hf h25 hK,Qyw h hf h25 hK,Qy1 h hf h25 hK,Qyq h hf h25 hK];cases f.1==8<;>cases f.1==4<;>cases f.1==5<;>rfl
theorem orQ{b:Int}{n:Nat}(hn:n<=62)(ha:0<=a)(ha':a<(2^n:Nat))(hb:0<=b)(hb':b<(2^n:Nat)):0<=bits .or .i64 a b/\bits .or .i64 a b<(2^n:Nat):=by
 have h:bits .or .i64 a b=Lb.wrap (((L2 64 a|||L2 64 b).toNat:Nat):Int):=rfl;have c:2^n<=2^62:=Mh Aa hn;have e:∀x:Int,0<=x->x<(2^n:Nat)->(L2 64 x).toNat=x.toNat:=λx d f=>by
  grind
 have g:(L2 64 a|||L2 64 b).toNat<2^n:=by
  simp_all[Nat.or_lt_two_pow]
 grind[Zr]
theorem Qv4(b:UInt8):0<=Lb.wrap (bits .and .u8 (b.toNat:Int) 63)/\Lb.wrap (bits .and .u8 (b.toNat:Int) 63)<64:=by
 have h:bits .and .u8 (b.toNat:Int) 63=L3.wrap (((L2 8 (b.toNat:Int)&&&L2 8 63).toNat:Nat):Int):=rfl;have a:(L2 8 (b.toNat:Int)&&&L2 8 63).toNat<=63:=by
  simp_all[Nat.and_le_right]
 simp_all[Ml,Mk]<;>omega
def QR(s:Ba)(at':Int)(r:Int×Int×Bool×Unit):Prop:=r.2.2.1=K4->0<=r.1/\r.1<4611686018427387904/\at'<r.2.1/\r.2.1<=s.length
theorem Qk9(s:Ba)(hs:s.length<=1000000)(a k:Nat)(hk:k<=8)(h1:1<=k)(ha:a+k<=s.length):∀(N i:Nat)(n:Int),k-i<N->1<=i->i<=k->0<=n->n<(2^ (8*i-2):Nat)->T (bT N s (a:Int) (k:Int) n (i:Int)) (QR s a)
 |0,_,_,h,_,_,_,_=>Aa
 |N+1,i,n,p,q,g,r,t=>by
  unfold bT;refine T.ite (λc=>?_) λc=>T.pure λ_=>?_
  ·have c:=pE c;have e:Lb.wrap ((a:Int)+i)=((a+i:Nat):Int):=Ao
   have j:Lb.wrap ((i:Int)+1)=((i+1:Nat):Int):=Ao
   rw[e,j];refine T.guard Aa (T.guard Aa ?_);have u:=(s.getD (a+i) 0).toNat_lt;have v:2^ (8*(i+1)-2)=2^ (8*i-2)*256:=by rw[show 8*(i+1)-2=8*i-2+8 by omega,Nat.pow_add]
   have l:2^14<=2^ (8*(i+1)-2):=Mh Aa Aa;have d:2^ (8*(i+1)-2)<=2^62:=Mh Aa Aa;have m:Lb.wrap (n*2^ (min (8:Int).toNat Lb.bits))=n*256:=by
    rw[show(min (8:Int).toNat Lb.bits)=8 from rfl,show(2:Int)^8=256 from rfl]
    grind[Zr]
   have f:Lb.wrap ((s.getD ((a+i:Nat):Int).toNat 0).toNat:Int)=((s.getD (a+i) 0).toNat:Int):=by
    rw[show((a+i:Nat):Int).toNat=a+i from rfl]
    grind[Zr]
   rw[m,f];have o:=orQ (a:=n*256) (b:=((s.getD (a+i) 0).toNat:Int)) (n:=8*(i+1)-2) Aa Aa Aa Aa Aa;exact Qk9 s hs a k hk h1 ha N (i+1) _ Aa Aa Aa o.1 o.2
  ·have c:=of_decide_eq_false c;have d:2^ (8*i-2)<=2^62:=Mh Aa Aa
   grind[Zr]
theorem Hz(s:Ba)(hs:s.length<=1000000)(a:Int)(ha: -1000000<=a/\a<=1000000:=by omega):T (X7 s a) (QR s a):=by
 unfold X7 gH;refine T.ite (λ_=>T.pure (by unfold QR;simp)) λe=>?_;simp at e;obtain⟨a,rfl⟩:=L9 e.1;refine T.guard Aa (T.guard Aa ?_);have j:=(s.getD a 0).toNat_lt;have g:((2:Int)^ (min (6:Int).toNat L3.bits))=64:=rfl;simp only[g,show(a:Int).toNat=a from rfl];have i:((s.getD a 0).toNat:Int).fdiv 64=(((s.getD a 0).toNat/64:Nat):Int):=by
  grind
 rw[i];have f:(s.getD a 0).toNat/64<=3:=Aa
 obtain⟨k,b,c,hk⟩:∃k:Nat,1<=k/\k<=8/\Lb.wrap (1*2^ (min (((s.getD a 0).toNat/64:Nat):Int).toNat Lb.bits))=(k:Int):=by
  generalize (s.getD a 0).toNat/64=q at f
  match q,f with
  |0,_=>exact⟨1,Aa,Aa,rfl⟩
  |1,_=>exact⟨2,Aa,Aa,rfl⟩
  |2,_=>exact⟨4,Aa,Aa,rfl⟩
  |3,_=>exact⟨8,Aa,Aa,rfl⟩
  |n+4,h=>omega
 refine T.guard Aa ?_;rw[hk];refine T.ite (λ_=>T.pure (by unfold QR;simp)) λd=>T.guard Aa ?_;have d:=of_decide_eq_false d;rw[Zr]at d;have m:=Qv4 (s.getD a 0);exact Qk9 s hs a k c b Aa _ 1 _ (by simp[qb]) Aa b m.1 (by simpa using m.2)
def Qfs(s:Ba)(a:Int)(n:Nat)(r:List Int×Int×Bool×Unit):Prop:=0<r.1.length/\r.1.length<=3/\(r.2.2.1=K4->a<r.2.1/\r.2.1<=s.length/\r.1.length=n)
theorem Qno(s:Ba)(hs:s.length<=1000000)(a:Int)(n:Nat)(h1:1<=n)(h3:n<=3):∀(N i:Nat)(b:Int)(out:List Int),n-i<N->i<=n->out.length=i->(-1000000<=b/\b<=1000000)->(i=0->b=a)->(0<i->a<b/\b<=s.length)->T (dD N s b (n:Int) out (i:Int)) (Qfs s a n)
 |0,_,_,_,h,_,_,_,_,_=>Aa
 |N+1,i,b,out,j,k,l,e,f,g=>by
  unfold dD;refine T.ite (λc=>?_) λc=>T.pure ⟨Ag,Ai,λ_=>?_⟩
  ·have c:=pE c;refine(Hz s hs b e).bind λr d=>T.ite (λ_=>T.pure ⟨Ac,Ac,Ac⟩) λhk=>T.guard Aj ?_;have d:=d (by simpa using hk);rw[Zr (n:=(i:Int)+1)];exact Qno s hs a n h1 h3 N (i+1) _ _ Aa Aa Ae Aa Aa (λ_=>by
    omega)
  grind
theorem cu(s:Ba)(hs:s.length<=1000000)(a:Int)(ha: -1000000<=a/\a<=1000000)(n:Nat)(h1:1<=n)(h3:n<=3):T (cO s a (n:Int)) (Qfs s a n):=by unfold cO;exact Qno s hs a n h1 h3 _ 0 a [] (by simp[dU]) Aa rfl ha (λ_=>rfl) Aa
def FR(s:Ba)(a:Int)(r:Zj×Int×Bool×Unit):Prop:=r.2.2.1=K4->a<r.2.1/\r.2.1<=s.length/\(r.1.2.2.2.1.length:Int)+1<=r.2.1-a
theorem FR.no{s:Ba}{i:Int}:FR s a (f,i,Lc,()):=by unfold FR;simp
theorem Qbh(s:Ba)(hs:s.length<=1000)(a:Int)(ha:0<=a/\a<=s.length)(k:Int):T (ol s a k) (FR s a):=by
 have h:∀(t f:Zj)(n z:Int),a<n->0<=z->n+z<=s.length->T (fQ s t f n z) (FR s a):=λt f n z c d i=>by
  unfold fQ tD;rw[Zr (n:=n+z)];have j:(((s.drop n.toNat).take ((n+z).toNat-n.toNat)).length:Int)<=z:=Ag
  exact T.guard Aa ((OF At).bind λr _=>T.if (T.pure FR.no) (T.pure λ_=>Ai))
 have e:∀(t f:Zj)(n:Int),a<n->n<=s.length->T (fP s k t f n) (FR s a):=λt f n c d=>by
  unfold fP;refine T.if ((Hz s Aa n).bind λr b=>T.ite (λ_=>T.pure FR.no) λhk=>?_) ?_
  ·simp at hk;have b:=b hk.1
   grind[Zr]
  grind[Zr]
 have g:∀(t f:Zj)(n:Nat),1<=n->n<=2->T (kY s a k t f (n:Int)) (FR s a):=λt f n c d=>by
  unfold kY;refine(cu s Aa a Aa n c Aa).bind λr b=>T.ite (λ_=>T.pure FR.no) λhk=>T.guard (by have:=b.1;omega) ?_;have q:=b.2.2 (by simpa using hk);refine T.ite (λl=>T.guard ?_ (e _ _ _ q.1 q.2.1)) λ_=>e _ _ _ q.1 q.2.1
  grind
 unfold ol;exact T.if (g _ _ 2 Aa Aa) (g _ _ 1 Aa Aa)
theorem QH(h:0<=k){n:Nat}(hn:0<n):0<=Ln k (n:Int)/\Ln k (n:Int)<n:=⟨Int.tmod_nonneg _ h,Int.tmod_lt_of_pos _ Aa⟩
theorem Qam(s:Ba)(hs:s.length<=1000)(a:Int)(ha:0<=a/\a<s.length:=by omega):T (kL s a) (FR s a):=by
 have e:∀(t f:Zj)(n:Int)(b:Bool),f.2.2.2.1=[]->(b=K4->a<n/\n<=s.length)->T (Yx t f n b) (FR s a):=λt f n b c h=>by
  unfold Yx;refine T.bind (Q:=λ_=>True) (T.if T.tt (OF (by simp_all[T6]))) λr _=>T.ite (λ_=>T.pure FR.no) λhk=>T.pure λ_=>?_
  grind
 have m:∀(t f:Zj)(l:List Int)(n:Int)(b q:Bool),f.2.2.2.1=[]->0<l.length->(b=K4->a<n/\n<=s.length)->T (dO t f l n b q) (FR s a):=λt f l n b q c d h=>by
  unfold dO tG;exact T.if (T.guard Aa (T.guard Aa (T.guard (QH Aa d) (e _ _ _ _ c h)))) (T.guard Aa (e _ _ _ _ c h))
 have g:∀(t f:Zj)(n:Nat),1<=n->n<=3->f.2.2.2.1=[]->T (Ju s a t f (n:Int)) (FR s a):=λt f n u v c=>by
  unfold Ju;rw[Zr];refine(cu s Aa _ Aa n u v).bind λr i=>?_;have d:=i.1;have h:r.2.2.1=K4->a<r.2.1/\r.2.1<=s.length:=λhk=>by have:=i.2.2 hk;omega
  have o:=QH (k:=1) Aa d;have w:=QH (k:=2) Aa d;exact T.if (T.guard Aa (T.guard Aa (T.guard o (T.guard Aa (T.guard w (e _ _ _ _ c h)))))) (T.if (T.guard Aa (T.guard Aa (T.guard o (e _ _ _ _ c h)))) (T.if (m _ _ _ _ _ _ c d h) (m _ _ _ _ _ _ c d h)))
 have p:∀(t f:Zj)(k:Int)(q:Bool),f.2.2.2.1=[]->T (dP s a t k f 1 q) (FR s a):=λt f k q c=>by
  unfold dP;exact T.if (g _ _ 1 Aa Aa c) (g _ _ 1 Aa Aa c)
 have j:∀(t f:Zj)(k x:Int)(q:Bool),f.2.2.2.1=[]->T (aR s a t k f 1 x q) (FR s a):=λt f k x q c=>by
  unfold aR;exact T.if (g _ _ 2 Aa Aa c) (T.if (p _ _ _ _ c) (p _ _ _ _ c))
 unfold kL gH;refine T.guard (λ_=>Aa) (T.if (T.pure FR.no) (T.guard Aa (T.if ?_ (T.if (g _ _ 3 Aa Aa rfl) (T.if (j _ _ _ _ _ rfl) (T.if (j _ _ _ _ _ rfl) (j _ _ _ _ _ rfl)))))));rw[Zr (n:=a+1)];refine(Qbh s hs _ Aa _).bind λr i=>T.pure λhk=>?_;have:=i hk;simp only;omega
def gr(l:List Zj):Nat:=(l.map λf=>f.2.2.2.1.length+2).sum
theorem Qt3(l:List Zj)(f:Zj):gr (l++[f])=gr l+f.2.2.2.1.length+2:=by simp[gr];omega
theorem vU(s:Ba)(hs:s.length<=1000):∀(N a:Nat)(out:List Zj),s.length-a<N->a<=s.length->out.length<=a->gr out<=2*a->(∀f∈out,T6 f)->T (Jq N s out (a:Int)) λr=>gr r.1<=2*s.length/\r.1.length<=s.length/\ ∀f∈r.1,T6 f
 |0,_,_,h,_,_,_,_=>Aa
 |N+1,a,out,i,j,k,l,d=>by
  unfold Jq gH;refine T.ite (λc=>?_) λc=>(Gs _ _ _).bind λt _=>T.pure ⟨Ai,Ai,d⟩;have c:=pE c;refine T.guard Aa (T.if ?_ ?_)
  ·rw[show Lb.wrap ((a:Int)+1)=((a+1:Nat):Int) by grind[Zr]];exact vU s hs N (a+1) out Aa Aa Aa Aa d
  ·refine(Qam s hs a).bind λr e=>T.ite (λ_=>T.pure ⟨by simp[gr],Ac,Ac⟩) λhk=>T.guard Aj ?_;have e:=e (by simpa using hk);obtain⟨b,g⟩:=L9 (show 0<=r.2.1 by omega);rw[g];refine vU s hs N b _ Aa Aa Ae (by rw[Qt3];omega) λf h=>?_
   grind[T6]
theorem Qk8(s:Ba)(hs:s.length<=1000):T (Vo s) λr=>gr r.1<=2*s.length/\r.1.length<=s.length/\ ∀f∈r.1,T6 f:=by grind[Vo,vU,lB,gr]
theorem Z5x(h:Qb K c)(hK:K<=1000000)(n:Int):T (ly c n) λr=>Qb K r.1:=by unfold ly tK;rw[Y8 h hK,pA];exact T.bind (Q:=λ_=>True) (T.if (Gs _ _ _) T.tt) λt _=>T.if (T.pure ⟨h.str,h.pk⟩) (T.pure h)
theorem Qnd(h:Qb K c)(hK:K<=1000000)(n:Int):T (th c n) λr=>Qb K r.1:=by unfold th gG tL;rw[Y8 h hK,pA];exact(KY h hK).bind λt _=>T.bind (Q:=λ_=>True) (T.if T.tt (Gs _ _ _)) λt _=>T.if (T.pure h) (T.pure ⟨h.str,h.pk⟩)
theorem Qfb(h:Qb K c)(hK:K+1<=500000)(i n:Int):T (mJ c i n) λr=>Qb (K+1) r.1:=by unfold mJ gG tD;rw[Y8 h,pA];exact(ze h Aa i).bind λs a=>(KY h).bind λt _=>T.bind (Q:=λ_=>True) (T.if T.tt (P4 _)) λt _=>T.if (T.pure (h.mono Aa)) ((Jb h.str (K':=K) (by exact⟨a.snd,a.rcv⟩) (Lo _)).bind λd b=>T.pure (h.up Aa b))
theorem Zyd(l:List Zj)(hf:∀f∈l,T6 f)(hl:l.length<=1000):∀(N i K:Nat)(t x:Zf),l.length-i<N->i<=l.length->Qb K x->25<=K->K+gr (l.drop i)<=390000->T (Wn N t x l (i:Int)) λr=>Qb (K+gr (l.drop i)) r.1.1
 |0,_,_,_,_,h,_,_,_,_=>Aa
 |N+1,i,K,t,x,k,m,hx,a,n=>by
  unfold Wn gH gN;simp only[Xm,Yb];refine T.ite (λb=>?_) λb=>T.pure (hx.mono Aa);have b:=pE b;have e:i<l.length:=Aa
  have g:=hf _ (Z7 (d:=Z9) e);have o:gr (l.drop i)=(l.getD i Z9).2.2.2.1.length+2+gr (l.drop (i+1)):=by grind[Q1,gr]
  refine T.guard Aa ((Zyc hx g a Aa).bind λr c=>?_);unfold lX;refine T.if ((Z5x hx Aa _).bind λt j=>T.pure (j.mono Aa)) ?_;rw[Zs e];exact(Zyd l hf hl N (i+1) (K+(l.getD i Z9).2.2.2.1.length+2) _ _ Aa Aa c Aa Aa).mono λr c=>c.mono Aa
theorem Qiu(h:Qb K c)(h25:25<=K)(s:Ba)(hs:s.length<=1000)(hK:K+2*s.length<=390000):T (fE c s) λr=>Qb (K+2*s.length) r.1.1:=by unfold fE gG;rw[Y8 h,pA];refine(FO h).bind λt _=>T.bind (Q:=λ_=>True) (T.if T.tt T.tt) λt _=>T.if (T.pure (h.mono Aa)) ((Qk8 s hs).bind λr a=>T.if ((Z5x h Aa _).bind λt b=>T.pure (b.mono Aa)) ?_);exact(Zyd r.1 a.2.2 Aa _ 0 K _ _ (by simp[ah]) Aa h h25 Ag).mono λy d=>d.mono Af
theorem Qf7(s:Ba)(a k:Int):∀(N:Nat)(n i:Int),lh N s a k n i=bT N s a k n i
 |0,_,_=>rfl
 |N+1,n,i=>by
  unfold lh bT;rw[Qf7 s a k N]
theorem Eb(s:Ba)(hs:s.length<=1000000)(a:Int):Yg s a=X7 s a:=by
 unfold Yg gH X7 gH;rw[bc,pA];have e:(!(K3 (a>=0)&&K3 (a<=Lb.wrap ((s.length:Int)-1))))=(K3 (a<0)||K3 (a>=(s.length:Int))):=by
  grind(splits:=20)[Zr]
 simp only;rw[e];simp only[Qf7];rfl
theorem H5(s:Ba)(a:Int)(n:Int)(out:List Int)(i:Int)(N:Nat)(h:i<n)(hl:out.length<=10)(hi:0<=i/\i<=10:=by omega):dD (N+1) s a n out i=Ld (X7 s a) λt=>cond t.2.2.1 (dD N s t.2.1 n (out++[t.1]) (i+1)) (K2 ([(0:Int),(0:Int),(0:Int)],(0:Int),Lc,())):=by
 rw[dD];rw[Zo (Zl h)]
 grind[Zb,Qg,Zr]
theorem rd1(s:Ba)(a:Int):cO s a 1=Ld (X7 s a) λt=>cond t.2.2.1 (K2 ([t.1],t.2.1,K4,())) (K2 ([(0:Int),(0:Int),(0:Int)],(0:Int),Lc,())):=by unfold cO;rw[show dU s a 1 ([]:List Int) 0=1+1 from rfl,H5 s a 1 [] 0 1 Aa Ac];congr 1
theorem jK(s:Ba)(a:Int):cO s a 2=Ld (X7 s a) λt=>cond t.2.2.1 (Ld (X7 s t.2.1) λu=>cond u.2.2.1 (K2 ([t.1,u.1],u.2.1,K4,())) (K2 ([(0:Int),(0:Int),(0:Int)],(0:Int),Lc,()))) (K2 ([(0:Int),(0:Int),(0:Int)],(0:Int),Lc,())):=by unfold cO;rw[show dU s a 2 ([]:List Int) 0=2+1 from rfl,H5 s a 2 [] 0 2 Aa Ac];congr 1;funext t;rw[H5 s _ 2 _ _ 1 Aa Ac];rfl
theorem Ss(s:Ba)(a:Int):cO s a 3=Ld (X7 s a) λt=>cond t.2.2.1 (Ld (X7 s t.2.1) λu=>cond u.2.2.1 (Ld (X7 s u.2.1) λv=>cond v.2.2.1 (K2 ([t.1,u.1,v.1],v.2.1,K4,())) (K2 ([(0:Int),(0:Int),(0:Int)],(0:Int),Lc,()))) (K2 ([(0:Int),(0:Int),(0:Int)],(0:Int),Lc,()))) (K2 ([(0:Int),(0:Int),(0:Int)],(0:Int),Lc,())):=by
 unfold cO;rw[show dU s a 3 ([]:List Int) 0=3+1 from rfl,H5 s a 3 [] 0 3 Aa Ac];congr 1;funext t;rw[H5 s _ 3 _ _ 2 Aa Ac];have e:∀u:Int×Int×Bool×Unit,(cond u.2.2.1 (dD 2 s u.2.1 3 (([]++[t.1])++[u.1]) (0+1+1)) (K2 ([(0:Int),(0:Int),(0:Int)],(0:Int),Lc,())))=(cond u.2.2.1 (Ld (X7 s u.2.1) λv=>cond v.2.2.1 (K2 ([t.1,u.1,v.1],v.2.1,K4,())) (K2 ([(0:Int),(0:Int),(0:Int)],(0:Int),Lc,()))) (K2 ([(0:Int),(0:Int),(0:Int)],(0:Int),Lc,()))):=λu=>by
  rw[H5 s _ 3 _ _ 1 Aa Ac];rfl
 simp only[e]
theorem Qgf(h:f.2.2.2.1=[]):T6 f:=by simp_all[T6]
theorem jS(f:Zj)(n:Int)(h:f.2.2.2.1=[])(t:Zj):Ld (cond (!K4) (K2 (Lc,())) (Wq f)) (λt21=>bif(!K4)||(!t21.1)then K2 (Z9,(0:Int),Lc,())else K2 (f,n,K4,()))=Yx t f n true:=by simp_all[Yx,BH,Qgf,GA]
theorem Qv9(s:Ba)(i:Nat):Lb.wrap ((s.getD i 0).toNat:Int)=((s.getD i 0).toNat:Int)/\((s.getD i 0).toNat:Int)<=255:=by
 have:=(s.getD i 0).toNat_lt
 grind[Zr]
abbrev Uc(r:Zj×Int×Bool×Unit):Od Zj Int Bool:=Ld (cond (!r.2.2.1) (K2 (Lc,())) (Wq r.1)) λt21=>bif(!r.2.2.1)||(!t21.1)then K2 (Z9,(0:Int),Lc,())else K2 (r.1,r.2.1,K4,())
theorem Qxv(s:Ba)(hs:s.length<=1000)(f t:Zj){x z:Int}(hx:0<=x/\x<=s)(hz:0<=z/\z<=s-x):Ld (bQ s x t f z K4) Uc=fQ s t f x z:=by
 unfold bQ tD fQ tD;rw[Zr (n:=s-x),Zr (n:=x+z),pI,Le,Zm (Zk),Zb,Zb,pA];have a:T6 (f.1,f.2.1,f.2.2.1,(s.drop x.toNat).take ((x+z).toNat-x.toNat),f.2.2.2.2):=At
 simp_all[Uc,BH,GA]
theorem Qxu(s:Ba)(hs:s.length<=1000)(f t:Zj)(k:Int){x:Int}(hx:0<=x/\x<=s):Ld (Vm s x k t f 0 K4) Uc=fP s k t f x:=by
 unfold Vm fP;simp only[pI,pH];rw[Zr (n:=s-x)];cases (bits .and .i64 k (2:Int))==(2:Int)
 ·simp_all[Qxv]
 ·rw[pG,pG,Eb s Aa];obtain⟨⟨n,y,c,u⟩,e,h⟩:=Hz s Aa x;rw[e];cases c
  ·rfl
  ·have h:=h rfl;simp only at h;simp only[pA,pI,pH,Le];rw[Zr (n:=s-y)];by_cases a:n>s-y
   ·rw[Zo (Zl a)];unfold bQ tD;rw[Zr (n:=s-y),Zo Af];rfl
   ·rw[Zm (Zk a)]
    grind[Qxv]
theorem Qy3(s:Ba)(hs:s.length<=1000)(k:Int){x:Int}(hx:0<=x/\x<=s):Ld (rS s x k) Uc=ol s x k:=by
 unfold rS ol kY;rw[Eb s Aa,rd1,jK];obtain⟨⟨n,y,c,u⟩,e,h⟩:=Hz s Aa x;rw[e];simp only[pA];cases c
 ·cases (bits .and .i64 k (4:Int))==(4:Int)<;>rfl
 ·have h:=h rfl;simp only at h;simp only[pI,pH,pG,pJ];cases (bits .and .i64 k (4:Int))==(4:Int)
  ·simp only[pH,pA,pI];rw[Zb Ac,Zm Ah]
   grind[Qxu]
  ·simp only[pG];rw[Eb s Aa];obtain⟨⟨f,g,b,u2⟩,d,a⟩:=Hz s Aa y;rw[d];simp only[pA];cases b
   ·rfl
   ·have a:=a rfl;simp only at a;simp only[pI,pH,pG,pA];rw[Zb Ac,Zo Ah,Zb Ac]
    grind[Qxu]
def fld(f:Zj)(l:List Int):Zj:=cond (f.1==(4:Int)) (f.1,l.getD (0:Int).toNat (0:Int),f.2.2.1,f.2.2.2.1,f.2.2.2.2.1,l.getD (Ln (1:Int) l).toNat (0:Int),f.2.2.2.2.2.2.1,l.getD (Ln (2:Int) l).toNat (0:Int),f.2.2.2.2.2.2.2.2) (cond (f.1==(5:Int)) (f.1,l.getD (0:Int).toNat (0:Int),f.2.2.1,f.2.2.2.1,f.2.2.2.2.1,l.getD (Ln (1:Int) l).toNat (0:Int),f.2.2.2.2.2.2) (cond ((f.1==(17:Int))||(f.1==(21:Int))) (f.1,l.getD (0:Int).toNat (0:Int),f.2.2.1,f.2.2.2.1,f.2.2.2.2.1,f.2.2.2.2.2.1,l.getD (Ln (1:Int) l).toNat (0:Int),f.2.2.2.2.2.2.2) (f.1,f.2.1,f.2.2.1,f.2.2.2.1,f.2.2.2.2.1,f.2.2.2.2.2.1,l.getD (0:Int).toNat (0:Int),f.2.2.2.2.2.2.2)))
theorem Qr4(f:Zj)(l:List Int):(fld f l).1=f.1/\(fld f l).2.2.2.1=f.2.2.2.1:=by
 unfold fld
 grind
theorem UR{s:Ba}{l:List Int}{x:Int}{c:Bool}(t f:Zj)(e:cO s (Lb.wrap (a+1)) n=K2 (l,x,c,()))(hl:0<l.length):Ju s a t f n=Yx t (fld f l) x c:=by
 have b:=QH (k:=1) Aa hl;have d:=QH (k:=2) Aa hl;unfold Ju dO tG fld;rw[e,pA];simp only;cases h4:f.1==(4:Int)
 ·cases h5:f.1==(5:Int)
  ·cases h17:f.1==(17:Int)
   ·cases h21:f.1==(21:Int)
    ·simp_all[Zb]
    ·simp only[pH,pG,Mq]
     grind[Zb]
   ·simp only[pH,pG,Mr]
    grind[Zb]
  ·simp only[pH,pG]
   grind[Zb]
 ·simp only[pG]
  grind[Zb]
theorem Qig(s:Ba)(hs:s.length<=1000)(a:Int)(ha:0<=a/\a<s):wt s a=kL s a:=by
 obtain⟨V,W⟩:=Qv9 s a.toNat
 have j:Lb.wrap (a+1)=a+1:=Zr;have X:∀b:Int,Yg s b=X7 s b:=Eb s Aa;have Y:∀b:Int,0<=b->b<=1000-> ∃n x c,X7 s b=K2 (n,x,c,())/\(c=K4->(0<=n/\n<4611686018427387904)/\b<x/\x<=s):=λb Z h1=>by
  obtain⟨⟨n,x,c,u⟩,e,h⟩:=Hz s Aa b;exact⟨n,x,c,e,λhc=>by have:=h hc;simp_all⟩
 unfold wt gG I9 gH kL gH;rw[bc,pA,Zr (n:=s-1),Zl (p:=a>=0) ha.1,Zl (p:=a<=s-1),Zk (p:=a<0),Zk (p:=a>=s)];simp only[Li,pI,pH,Le,Ll];rw[Zb,Zb (λ_=>Aa),V,j];generalize hk:((s.getD a.toNat 0).toNat:Int)=k at W;have ab:0<=k:=Aa
 by_cases K:k>23
 ·rw[Zo (b:=K3 (k>23)) (Zl K)];have O:(k==4)=false:=Ae
  have P:(k==5)=false:=Ae
  have w:(k==16)=false:=Ae
  have y:(k==20)=false:=Ae
  have z:(k==17)=false:=Ae
  have A:(k==21)=false:=Ae
  have B:(k==18)=false:=Ae
  have C:(k==19)=false:=Ae
  have D:(k==22)=false:=Ae
  have E:(k==23)=false:=Ae
  unfold nc tG nf de tG Xg;simp only[O,P,w,y,z,A,B,C,D,E,pH,bc,pA,Zl (show k>=8 by omega),Zk (show ¬k<=15 by omega),Ls];rfl
 rw[Zm (b:=K3 (k>23)) (Zk K),Zb];have J:∀b:Int,0<=b->b<=s-> ∃n x c,X7 s b=K2 (n,x,c,())/\(c=K4->b<x/\x<=s):=λb Z h1=>by
  grind
 obtain⟨L,M,g,m,v⟩:=J (a+1) Aa Aa;have Q:∀(f t:Zj)(n:Int)(b:Bool),(f.1≠4/\f.1≠5/\f.1≠8/\f.1≠17/\f.1≠21/\f.1≠18/\f.1≠22/\f.1≠16/\f.1≠20)->f.2.2.2.1=[]->Yx t f n b=K2 (Z9,(0:Int),Lc,()):=λf t n b hf hd=>by
  grind[Yx,GA,Qgf,FX]
 have S:k=4\/k=5\/k=16\/k=20\/k=17\/k=21\/k=18\/k=19\/k=22\/k=23\/(8<=k/\k<=15)\/(k=0\/k=1\/k=2\/k=3\/k=6\/k=7):=Aa
 unfold nc tG nf de tG Xg pe;unfold aR dP;simp only[X,j,m,pA];have o:∃l,cO s (Lb.wrap (a+1)) 1=K2 (l,cond g M 0,g,())/\0<l.length/\(g=K4->l=[L]):=by
  rw[j,rd1,m];cases g
  all_goals simp
 obtain⟨l1,o,d,i⟩:=o;rcases S with h|h|h|h|h|h|h|h|h|h|h|h
 ·subst h;simp only[Lq,pG,pH,Lw,Lx,decide_false,decide_true,Lp];cases g
  ·rw[UR (l:=[0,0,0]) (x:=0) (c:=Lc) _ _ (by grind[Ss]) Ac];rfl
  have v:=v rfl;obtain⟨F,G,H,I,N⟩:=J M Aa Aa;simp only[pI,pH,I,pA];cases H
  ·rw[UR (l:=[0,0,0]) (x:=0) (c:=Lc) _ _ (by rw[j,Ss,m];grind) Ac];rfl
  have N:=N rfl;obtain⟨n3,x3,c3,e3,g3⟩:=J G Aa Aa;simp only[pI,pH,e3,pA];cases c3
  ·rw[UR (l:=[0,0,0]) (x:=0) (c:=Lc) _ _ (by rw[j,Ss,m];grind) Ac];rfl
  ·rw[UR (l:=[L,F,n3]) (x:=x3) (c:=K4) _ _ (by rw[j,Ss,m];grind) Ac];exact jS _ _ (by rfl) _
 ·subst h;simp only[Lq,pG,pH,Lw,Lx,decide_false,decide_true,Lp,Ls];cases g
  ·rw[UR (l:=[0,0,0]) (x:=0) (c:=Lc) _ _ (by grind[jK]) Ac];rfl
  have v:=v rfl;obtain⟨F,G,H,I,N⟩:=J M Aa Aa;simp only[pI,pH,I,pA];cases H
  ·rw[UR (l:=[0,0,0]) (x:=0) (c:=Lc) _ _ (by rw[j,jK,m];grind) Ac];rfl
  ·rw[UR (l:=[L,F]) (x:=G) (c:=K4) _ _ (by rw[j,jK,m];grind) Ac];exact jS _ _ (by rfl) _
 ·subst h;simp only[Lq,pG,pH,Lw,Lx,decide_false,decide_true,Lp,Ls];rw[UR _ _ o d];cases g
  ·rfl
  ·rw[i rfl];exact jS _ _ (by rfl) _
 ·subst h;simp only[Lq,pG,pH,Lw,Lx,decide_false,decide_true,Lp,Ls];rw[UR _ _ o d];cases g
  ·rfl
  ·rw[i rfl];exact jS _ _ (by rfl) _
 ·subst h;simp only[Lq,pG,pH,Lw,Lx,decide_false,decide_true,Lp,Ls];cases g
  ·rw[UR (l:=[0,0,0]) (x:=0) (c:=Lc) _ _ (by grind[jK]) Ac];rfl
  have v:=v rfl;obtain⟨F,G,H,I,N⟩:=J M Aa Aa;simp only[pI,pH,I,pA];cases H
  ·rw[UR (l:=[0,0,0]) (x:=0) (c:=Lc) _ _ (by rw[j,jK,m];grind) Ac];rfl
  ·rw[UR (l:=[L,F]) (x:=G) (c:=K4) _ _ (by rw[j,jK,m];grind) Ac];exact jS _ _ (by rfl) _
 ·subst h;simp only[Lq,pG,pH,Lw,Lx,decide_false,decide_true,Lp,Ls];cases g
  ·rw[UR (l:=[0,0,0]) (x:=0) (c:=Lc) _ _ (by grind[jK]) Ac];rfl
  have v:=v rfl;obtain⟨F,G,H,I,N⟩:=J M Aa Aa;simp only[pI,pH,I,pA];cases H
  ·rw[UR (l:=[0,0,0]) (x:=0) (c:=Lc) _ _ (by rw[j,jK,m];grind) Ac];rfl
  ·rw[UR (l:=[L,F]) (x:=G) (c:=K4) _ _ (by rw[j,jK,m];grind) Ac];exact jS _ _ (by rfl) _
 ·subst h;simp only[Lq,pG,pH,Lw,Lx,decide_false,decide_true,Lp,Ls];rw[UR _ _ o d,Zb Ah];cases g
  ·rfl
  ·rw[i rfl];exact jS _ _ (by rfl) _
 ·subst h;simp only[Lq,pG,pH,Lw,Lx,decide_false,decide_true,Lp,Ls];rw[UR _ _ o d,Zb Ah];cases g
  ·rfl
  ·rw[i rfl];exact jS _ _ (by rfl) _
 ·subst h;simp only[Lq,pG,pH,Lw,Lx,decide_false,decide_true,Lp,Ls];rw[UR _ _ o d,Zb Ah];cases g
  ·rfl
  ·rw[i rfl];exact jS _ _ (by rfl) _
 ·subst h;simp only[Lq,pG,pH,Lw,Lx,decide_false,decide_true,Lp,Ls];rw[UR _ _ o d,Zb Ah];cases g
  ·rfl
  ·rw[i rfl];exact jS _ _ (by rfl) _
 ·have O:(k==4)=false:=Ae
  have P:(k==5)=false:=Ae
  have w:(k==16)=false:=Ae
  have y:(k==20)=false:=Ae
  have z:(k==17)=false:=Ae
  have A:(k==21)=false:=Ae
  have B:(k==18)=false:=Ae
  have C:(k==19)=false:=Ae
  have D:(k==22)=false:=Ae
  have E:(k==23)=false:=Ae
  simp only[O,P,w,y,z,A,B,C,D,E,pH,bc,pA,Zl (show k>=8 by omega),Zl (show k<=15 by omega),Zl (show k<16 by omega),Li,pG];have e:=Qy3 s hs k (x:=a+1) Aa;rw[<-e];obtain⟨r,U⟩:∃r,ol s (a+1) k=K2 r:=by
   obtain⟨r,U,-⟩:=Qbh s hs (a+1) Aa k;exact⟨r,U⟩
  rw[e,U];cases hr:rS s (a+1) k with
  |none=>grind
  |some q=>
   grind
 ·rcases h with h|h|h|h|h|h<;>subst h<;>simp only[Lq,pH,Lw,Lx,decide_false,decide_true,Lp,Ls,bc,pA,Int.reduceLE]<;>(rw[UR _ _ o d];exact(Q _ _ _ _ (by rw[(Qr4 _ _).1];simp) (Qr4 _ _).2).symm)
theorem Ph(s:Ba)(hs:s.length<=1000):∀(N a:Nat)(out:List Zj),a<=s->bf N s out (a:Int)=Jq N s out (a:Int)
 |0,_,_,_=>rfl
 |N+1,a,out,d=>by
  unfold bf gH Jq gH;by_cases c:a<s
  ·rw[Zo (Zl),Zo (Zl),Zb,Zb,Zs c];cases ((s.getD (a:Int).toNat 0).toNat:Int)==(0:Int)
   ·rw[pH,pH,Qig s hs _ Aa];obtain⟨⟨f,n,b,u⟩,e,h⟩:=Qam s hs (a:Int);rw[e];cases b
    ·rfl
    ·have h:=h rfl;simp only at h;simp only[pA,pI,pH];rw[show n=((n.toNat:Nat):Int) by omega,Ph s hs N n.toNat _ Aa]
   ·exact Ph s hs N (a+1) _ Aa
  ·rw[Zm (Zk),Zm (Zk)];rfl
theorem Qo6(s:Ba)(hs:s.length<=1000):zm s=Vo s:=Ph s hs _ 0 [] Aa
abbrev UB(c:Zf):Int:=c.2.2.2.2.2.2.2.2.2.2.2.2.2.2.2.2.2.1
abbrev FE(c:Zf):=c.2.2.2.2.2.2.2.2.2.2.2.2.2
def clV(c:Zf)(n:Int):Zf:=cond ((UB c==(0:Int))&&HV n 1 255) (c.1,c.2.1,c.2.2.1,c.2.2.2.1,c.2.2.2.2.1,c.2.2.2.2.2.1,c.2.2.2.2.2.2.1,c.2.2.2.2.2.2.2.1,c.2.2.2.2.2.2.2.2.1,c.2.2.2.2.2.2.2.2.2.1,c.2.2.2.2.2.2.2.2.2.2.1,c.2.2.2.2.2.2.2.2.2.2.2.1,c.2.2.2.2.2.2.2.2.2.2.2.2.1,c.2.2.2.2.2.2.2.2.2.2.2.2.2.1,c.2.2.2.2.2.2.2.2.2.2.2.2.2.2.1,c.2.2.2.2.2.2.2.2.2.2.2.2.2.2.2.1,c.2.2.2.2.2.2.2.2.2.2.2.2.2.2.2.2.1,n,c.2.2.2.2.2.2.2.2.2.2.2.2.2.2.2.2.2.2) c
theorem clS(h:Qb K c)(hK:K<=1000000)(n:Int):ly c n=K2 (clV c n,()):=by unfold ly tK clV;rw[Y8 h hK,pA,Iv];simp only[bA,DP];cases (UB c==(0:Int))&&HV n 1 255<;>rfl
theorem clI(h:Qb K c)(hK:K<=1000000)(n:Int):uW c n=K2 (clV c n,()):=by unfold uW tK clV;rw[V6 h hK,pA,show Zy n 1 255=K2 (HV n 1 255,())from rfl];simp only[bA,DP];cases (UB c==(0:Int))&&HV n 1 255<;>rfl
def E0:Zf->List Zj->Zf×Int|x,[]=>(x,0)|x,f::r=>cond ((WY x f).2.1 !=(0:Int)) (clV x (WY x f).2.1,(WY x f).2.1) (E0 (WY x f).1 r)
theorem Qpq(h:Qb K c)(hf:T6 f)(h25:25<=K)(hK:K<=390000):Qb (K+f.2.2.2.1+2) (WY c f).1:=by
 obtain⟨y,e,a⟩:=Zyc h hf h25 hK
 grind[Qwo]
theorem Qpw(f:Zj)(r:List Zj):gr (f::r)=f.2.2.2.1+2+gr r:=by unfold gr;simp
theorem hpS(l:List Zj)(hf:∀f∈l,T6 f)(hl:l.length<=1000):∀(N i K:Nat)(t x:Zf),l-i<N->i<=l->Qb K x->25<=K->K+gr (l.drop i)<=390000->
  Wn N t x l (i:Int)=K2 (((E0 x (l.drop i)).1,(E0 x (l.drop i)).2,()),())/\eQ N t l x l (i:Int)=K2 ((E0 x (l.drop i)).1,(E0 x (l.drop i)).2,())
 |0,_,_,_,_,h,_,_,_,_=>Aa
 |N+1,i,K,t,x,n,o,hx,c,k=>by
  unfold Wn gH gN eQ gH gN lX;by_cases e:i<l
  ·have j:=Q1 (d:=Z9) e;have g:=hf _ (Z7 (d:=Z9) e);rw[j,Qpw]at k;rw[j,Zo (Zl),Zo (Zl),Zb,Zb,Zs e,show(i:Int).toNat=i from rfl,Qwo hx g c Aa,Qyn hx g c Aa];simp only[Xm,pA];unfold E0;cases hc:(WY x (l.getD i Z9)).2.1 !=(0:Int)
   ·have m:=Qpq hx g c Aa;obtain⟨a,b⟩:=hpS l hf hl N (i+1) _ t (WY x (l.getD i Z9)).1 Aa Aa m Aa Aa;exact⟨a,b⟩
   ·rw[clS hx Aa,clI hx Aa];simp_all
  ·rw[Zm (Zk),Zm (Zk),Lr Aa];exact⟨rfl,rfl⟩
def SS(m:Oc (List Zj) Bool):List Zj×Bool×Unit:=match m with|some y=>y|none=>([],Lc,())
def PA(c:Zf)(s:Ba):Zf×Int:=cond (bJ c&& !(UB c !=(0:Int))) (cond (SS (Vo s)).2.1 (E0 c (SS (Vo s)).1) (clV c 7,7)) (c,UB c)
theorem hpE(h:Qb K c)(h25:25<=K)(s:Ba)(hs:s.length<=1000:=by omega)(hK:K+2*s.length<=390000:=by omega):fE c s=K2 (((PA c s).1,(PA c s).2,()),())/\rb c s=K2 ((PA c s).1,(PA c s).2,()):=by
 obtain⟨⟨l,b,u⟩,e,g,i,f⟩:=Qk8 s hs;simp only at g i f;have j:SS (Vo s)=(l,b,()):=by rw[e];rfl
 unfold PA;rw[j];unfold fE gG rb gG;rw[Y8 h,pA,GI h,KX h,GI h,V6 h,Qo6 s hs,e];unfold oc sy;simp only[bO,pA];cases hc:bJ c
 ·simp_all
 cases hcl:UB c !=(0:Int)
 ·simp only[pI,Lk,Li,Le,pH,pG,Ls,Ll];cases b
  ·constructor<;>grind[clS,clI]
  ·obtain⟨a,d⟩:=hpS l f Aa (ah Xl c l 0) 0 K Xl c (by simp[ah]) Aa h h25 Ag;exact⟨a,d⟩
 simp_all
theorem Qtw(x:Zf)(id:Int):FE (fin x id)=FE x:=by
 unfold fin S5;cases CO x.1 (HA x id)
 ·rfl
 ·cases WN id<;>rfl
theorem Qtt(c:Zf)(id:Int):FE (jy c id).2=FE c:=by
 unfold jy Tl S5;cases K3 (0<=Qe c.2.2.2.1 id)
 ·cases MF c.1 id
  ·cases IT c id
   all_goals grind
  ·rfl
 ·rfl
theorem Qlh(c:Zf)(id:Int):0<=(jy c id).1/\(jy c id).1<=7:=by
 unfold jy;cases K3 (0<=Qe c.2.2.2.1 id)
 ·cases MF c.1 id
  ·cases IT c id<;>(simp only[pG,pH];omega)
  simp_all
 simp_all
def TC(c:Zf)(r:Zf×Int×Unit):Prop:=FE r.1=FE c/\0<=r.2.1/\r.2.1<=7
theorem U4{g can:Bool}{k:Zf->Zf×Int×Unit}(hk:∀x,FE x=FE c->TC c (k x)):TC c (pre c f g can k):=by
 unfold pre;cases (bJ c&&Kg f)&&g
 ·exact⟨rfl,Ag,Ag⟩
 cases can
 ·exact⟨rfl,Ag,Ag⟩
 cases (jy c f.2.1).1==0
 ·have:=Qlh c f.2.1;exact⟨rfl,Ag,Ag⟩
 ·exact hk _ (Qtt c f.2.1)
theorem rdC{fin:Bool}:Pc (K8 r o d fin) λy=>0<=y.2.1/\y.2.1<=7:=by
 unfold K8 tD;refine Pc.skip λa=>Pc.skip λb=>Pc.if (Pc.pure ⟨Ai,Ai⟩) ?_;simp only[un,pA];have j:∀t x,Pc (Jw o d r t x) λy=>0<=y.2.1/\y.2.1<=7:=λt x=>by
  unfold Jw ju;exact Pc.skip λc=>Pc.skip λe=>Pc.if (Pc.pure ⟨Ai,Ai⟩) (Pc.pure ⟨Ai,Ai⟩)
 cases gS r (Lb.wrap (o+d)) fin
 all_goals simp_all[Pc.if,Pc.pure]
theorem rrC{f:Int}:Pc (Ws r k f) λy=>0<=y.2.1/\y.2.1<=7:=by
 unfold Ws gG;refine Pc.skip λa=>Pc.skip λb=>Pc.skip λc=>Pc.skip λd=>Pc.if (Pc.pure ⟨Ai,Ai⟩) ?_;simp only[un,pA];cases gS r f K4
 all_goals simp_all[Pc.if,Pc.pure]
theorem Qh4{m:Oc Zz Int}(h:Pc m λy=>0<=y.2.1/\y.2.1<=7):0<=(Hn m).2.1/\(Hn m).2.1<=7:=by
 unfold Hn;cases m with
 |none=>simp_all
 |some y=>exact h y rfl
theorem YM(h:FE x=FE c)(id:Int):TC c (fin x id,0,()):=⟨(Qtw x id).trans h,Lg _,Ai⟩
theorem I2(c:Zf)(a:0<=n)(b:n<=7):TC c (c,n,()):=⟨rfl,a,b⟩
theorem Quf(c:Zf)(f:Zj):TC c (LO c f):=by
 unfold LO;cases f.1==17
 ·cases f.1==21
  ·simp only[pH];cases bJ c&&Kg f
   ·simp_all[I2]
   cases f.1==16
   ·cases f.1==18
    ·grind(splits:=20)[I2]
    ·refine⟨?_,Lg _,Af⟩;show FE (NX c f.2.2.2.2.2.2.2.2.1 f.2.2.2.2.2.2.1)=_;unfold NX
     grind
   ·exact⟨rfl,Lg _,Af⟩
  ·exact U4 (k:=λx=>(x,0,())) λx h=>⟨h,Lg _,Ai⟩
 ·exact U4 (k:=YG f) λx h=>⟨h,Lg _,by simp_all[YG]⟩
theorem TE(h:FE x=FE c)(id:Int)(y):FE (xU x id y)=FE c:=(show FE (xU x id y)=FE x from rfl).trans h
theorem Tt(h:FE x=FE c)(y):FE (Fj x y)=FE c:=(show FE (Fj x y)=FE x from rfl).trans h
theorem Qvc(c:Zf)(f:Zj)(h:FE x=FE c):TC c (GX f x):=by
 unfold GX;cases (Ck x f).2.1
 ·simp_all[YM]
 ·rw[pG];exact YM (TE h _ _) _
theorem Qu8(c:Zf)(f:Zj)(h:FE x=FE c):TC c (r8 c f x):=by
 have hv:0<=(UF x f).2.1/\(UF x f).2.1<=7:=Qh4 rrC;unfold r8;generalize UF x f=r at hv⊢;cases jZ x (HA x f.2.1) (qQ x f)
 ·simp_all[I2]
 rw[pG];cases r.2.1==0
 ·simp_all[I2]
 rw[pG];cases (r.1.1==4)&&((HA x f.2.1).2.2.2.1.1 !=4)
 ·rw[pH];exact YM (TE (Tt h _) _ _) _
 ·rw[pG];exact YM (TE (Tt h _) _ _) _
theorem Qo5(c:Zf)(f:Zj)(h:FE x=FE c):TC c (P1 c f x):=by
 have hv:=Qh4 (rdC (r:=(HA x f.2.1).2.2.2.1) (o:=f.2.2.1) (d:=f.2.2.2.1) (fin:=f.2.2.2.2.1));unfold P1;generalize Hn (K8 (HA x f.2.1).2.2.2.1 f.2.2.1 f.2.2.2.1 f.2.2.2.2.1)=r at hv⊢;cases jZ x (HA x f.2.1) (Ue (HA x f.2.1).2.2.2.1 (Lb.wrap (f.2.2.1+f.2.2.2.1)))
 ·simp_all[I2]
 rw[pG];cases r.2.1==0
 ·simp_all[I2]
 ·rw[pG];exact YM (TE (Tt h _) _ _) _
theorem Qt0(c:Zf)(f:Zj):TC c (WY c f):=by
 unfold WY;cases f.1==8
 ·cases f.1==4
  ·cases f.1==5
   all_goals simp_all[Quf,U4,Qvc]
  simp_all[U4,Qu8]
 simp_all[U4,Qo5]
end
end Go.Proofs.YtglbkfajafconaaGreatDoor

/- No condition. -/
import Derived.Test.YtcnklikmapfnmaaGreatDoorM2
set_option linter.all false
namespace Go.Proofs.YtcnklikmapfnmaaGreatDoor
noncomputable section
open Go.Am
set_option maxRecDepth 100000
open Option renaming some→K2,bind→Le,none→Lk
open Decidable renaming decide→K3
open Bool renaming true→K4,false→Lc,false_or→Ld,not_false→Ll,or_eq_false_iff→Lp,and_self→Lt,eq_iff_iff→Ly,not_eq_false'→L2,or_self→Ma,not_eq_true'→Md,false_and→Mu,noConfusion→Mv,or_eq_true→Mw,or_false→Mx,true_or→My,and_eq_false_iff→Nd,and_true→Nf,not_eq_true→Ng,or_true→Nh
open Go renaming IntKind→La
open IntKind renaming i64→Lb,u8→L7,bits→Mk,wrap→Ml,signed→M2
open List renaming length_cons→Lf,length_append→Li,drop_eq_nil_of_le→Lm,length_nil→Ln,mem_cons→Ls,map_cons→L1,drop_zero→L3,mem_append→L4,mem_cons_self→L5,mem_cons_of_mem→L8,replicate→L9,length_pos_iff→Mc,drop_of_length_le→Mf,all_cons→Mm,append_assoc→Mn,cons_append→Mo,getD_cons_zero→Mp,length_eq_zero_iff→Mq,length_singleton→Mr,nil_append→Ms,pairwise_cons→Mt,append_nil→M3,length→M4,length_map→M5,take_of_length_le→M6,take_succ_eq_append_getElem→M7,flatMap_cons→Nv,length_set→Nw,mem_map_of_mem→Nx,pairwise_map→Ny,set_cons_succ→Nz
open Go.Lib renaming itoa→Lg,decDigits→Lr,join→L6,decFrom→Mb,index→Me,atoi→Mh,join_cons→Mi,nDigits→Mj,digitVal→Mz,joinTail→M0,lens→M1,cut→Ni,decDigits_length→Nj,decNat→Nk,join_nil→Nl,nDigits_big→Nm,nDigits_small→Nn,splitK→Np
open Int renaming le_refl→Lh,eq_ofNat_of_zero_le→Lu,natCast_zero→Lv,tmod→Lw,tdiv→L0,reduceBEq→Nq,tdiv_eq_ediv_of_nonneg→Nr,tmod_lt_of_pos→Ns,tmod_nonneg→Nt,toNat_natCast→Nu
open Nat renaming le_refl→Lj,zero_le→Lq,le_trans→Lx,zero_add→Mg,mul_succ→M8,strongRecOn→M9,pow_le_pow_right→N0
open UInt8 renaming ofNat→Lo,toNat_inj→Na,toNat_lt→Nb
open Eq renaming trans→Lz
open BitVec renaming ofInt→Nc
open List.Pairwise renaming cons→N1,nil→N2
variable{n a lo E o id:Int}{d:Ba}{k:List Zh}{l:List Zj}{i u K K' m:Nat}{p:Prop}{w:Qr}{α β:Type}{r:Z1}{x c:Zf}{f:Zh}{s:Zj}{b:Zz}{Q:α->Prop}
abbrev Y3:Type:=Q1
theorem Iw(pre:List α)(x:α)(rest:List α):pre++x::rest=pre++[x]++rest:=Ac
theorem am(pre:List α)(x:α)(rest:List α)(d:α):(pre++x::rest).getD ((pre.length:Int).toNat) d=x:=by simp_all
def CH(k:Nat):Int:=((([48,49,50,51,52,53,54,55,56,57,97,98,99,100,101,102]:Ba).getD k 0).toNat:Int)
def hx(b:UInt8):List Int:=[CH (b.toNat/16),CH (b.toNat%16)]
theorem Qx{d:α}{l:List α}(h:i<l.length):l.drop i=l.getD i d::l.drop (i+1):=by simp_all
theorem UG(n:Int)(h0:0<=n:=by omega)(h1:n<256:=by omega):L7.wrap n=n:=by simp_all[Int.emod_eq_of_lt,Ml,Mk,M2]
def S6(u:Nat):Ba:=ite (u=0) [] (Lr u)
theorem Qlb(h:u≠0):S6 u=S6 (u/10)++[Lo (48+u%10)]:=by
 unfold S6;rw[if_neg h,Lr]
 grind
theorem Wd(n:Int)(h0: -9223372036854775808<=n:=by omega)(h1:n<=9223372036854775807:=by omega):(Lg n).length<=21:=Go.Lib.itoa_length_le n h0 h1
def Td(l:Ba):Ba:=Qb (l.flatMap hx)
theorem Ps(l:Ba):(Td l).length=2*l.length:=by
 unfold Td Qb;rw[M5]
 induction l with
 |nil=>rfl
 |cons c l a=>grind[hx]
def hv(b:UInt8):Int:=ite (48<=b.toNat/\b.toNat<=57) ((b.toNat:Int)-48) (ite (97<=b.toNat/\b.toNat<=102) ((b.toNat:Int)-87) (-1))
def ub:Ba->Option Ba|[]=>K2 []|[_]=>Lk|a::b::r=>ite (hv a<0\/hv b<0) Lk ((ub r).map λd=>Lo (16*(hv a).toNat+(hv b).toNat)::d)
theorem E3:∀{s d:Ba},ub s=K2 d->s.length=2*d.length
 |[],d,h=>by simp_all[ub]
 |[_],d,h=>by simp[ub]at h
 |a::b::r,d,h=>by
  simp only[ub]at h;split at h
  ·cases h
  ·simp only[Option.map_eq_some_iff]at h;obtain⟨e,c,rfl⟩:=h;have:=E3 c
   grind
def XU(s:Ba):Ba:=(ub s).getD []
theorem Z9p:∀{s:Ba},s.length%2=1->ub s=Lk
 |[],h=>by simp at h
 |[_],_=>rfl
 |a::b::r,h=>by
  have:=Z9p (s:=r) (by simp at h;omega);simp_all[ub]
theorem Qdx:∀k:Fin 16,hv (Lo (CH k.val).toNat)=(k.val:Int):=Ah
theorem Qlk(b:UInt8)(l:Ba):Td (b::l)=Lo (CH (b.toNat/16)).toNat::Lo (CH (b.toNat%16)).toNat::Td l:=by rfl
theorem FF:∀d:Ba,ub (Td d)=K2 d
 |[]=>rfl
 |b::d=>by
  have e:b.toNat<256:=b.toNat_lt;rw[Qlk];have a:hv (Lo (CH (b.toNat/16)).toNat)=((b.toNat/16:Nat):Int):=Qdx ⟨b.toNat/16,Aa⟩;have c:hv (Lo (CH (b.toNat%16)).toNat)=((b.toNat%16:Nat):Int):=Qdx ⟨b.toNat%16,Aa⟩;simp only[ub,a,c];rw[if_neg Aa,FF d];simp only[Option.map_some,Nu,pB,List.cons.injEq,and_true];apply Na.1;simp;omega
theorem Qw3{K1:(Int×Ba×Bool×Unit)->Oa Ba}{out:Ba}{neg:Bool}{d:Nat}(hd:d<10)(hl:1+out.length<=Z6):
  kf K1 n out neg (d:Int)=K1 (Lb.wrap (L0 n 10),Lo (48+d)::out,neg,()):=by
 grind[kf,Qb,Zs,UG,Zb]
theorem Qdq:∀(k u N:Nat)(n:Int)(out:Ba)(neg:Bool),u<10^k->k<N->u<=9223372036854775808->(n=(u:Int)\/n= -(u:Int))->out.length+k<=1000->(n=9223372036854775808->False)->
  bI N n out neg=K2 ((cond neg (45:: (S6 u++out)) (S6 u++out)),())
 |k,u,0,n,out,neg,b,d,_,_,_,_=>Aa
 |k,u,N+1,n,out,neg,b,d,i,c,j,l=>by
  unfold bI;by_cases m:u=0
  ·have a:n=0:=Aa
   rw[Zo (by simp[a])]
   grind[Zb,Z6,S6]
  ·have a:n≠0:=Aa
   rw[Zl (by simp[a]),Zb Ah];cases k with
   |zero=>simp at b;omega
   |succ k=>
    have f:u/10<10^k:=by
     omega
    have g:u%10<10:=Nat.mod_lt _ Ah;have h:Lb.wrap (L0 n 10)=((u/10:Nat):Int)\/Lb.wrap (L0 n 10)= -((u/10:Nat):Int):=by
     rcases c with rfl|rfl
     ·grind[Zs]
     ·right;rw[Int.neg_tdiv,Nr Aa,Zs];omega
    have o:kf (λv=>bI N v.1 v.2.1 v.2.2.1) n out neg ((u%10:Nat):Int)=K2 ((cond neg (45:: (S6 u++out)) (S6 u++out)),()):=by
     rw[Qw3 g Ak];show bI N (Lb.wrap (L0 n 10)) (Lo (48+u%10)::out) neg=_;rw[Qdq k (u/10) N _ _ neg f Aa Aa h Ai Aa];simp_all[Qlb]
    rcases c with rfl|rfl
    ·grind
    ·have e:Lw (-(u:Int)) 10= -((u%10:Nat):Int):=Ai
     rw[e];by_cases p:u%10=0
     ·simp_all
     ·rw[Zl (Zk),Zs];simp_all
theorem iM(n:Int)(h0: -9223372036854775808<=n:=by omega)(h1:n<=9223372036854775807:=by omega):Qh n=K2 (Lg n,()):=by
 unfold Qh;by_cases a:n=0
 ·simp_all[Lg,Lr]
 ·rw[Zo (by simp[a])];have b:n.natAbs<10^20:=by
   omega
  rw[Qdq 20 n.natAbs _ n [] _ b (by simp[uE]) Aa Aa Ac Aa];unfold Lg S6
  grind
theorem fh(n:Int)(h0: -9223372036854775808<=n:=by omega)(h1:n<=9223372036854775807:=by omega):Xb n=K2 (Lg n,()):=by simp_all[Xb,JZ,Zb]
theorem Qdw:∀(N:Nat)(l:Ba)(out:List Int)(i:Nat),l.length<=1048576->out.length<=2*i->i<=l.length->l.length-i<N->
  pa N l out (i:Int)=K2 (Qb (out++(l.drop i).flatMap hx),())
 |0,_,_,_,_,_,_,h=>Aa
 |N+1,l,out,i,b,m,n,o=>by
  unfold pa gG;by_cases h:i<l.length
  ·have e:(i:Int).toNat=i:=rfl;rw[Zl (Zk),Zb,Zb Ah,Zb,Zb Ah,e];have p:(l.getD i 0).toNat<256:=(l.getD i 0).toNat_lt;generalize f:l.getD i 0=c at*
   have g:Lb.wrap (L0 (Lb.wrap (c.toNat:Int)) 16)=((c.toNat/16:Nat):Int):=by
    grind[Zs]
   have j:Lw (Lb.wrap (c.toNat:Int)) 16=((c.toNat%16:Nat):Int):=by
    grind[Zs]
   have a:∀k:Nat,k<16->ph (k:Int)=K2 (CH k,()):=λk hk=>by
    grind[ph,CH,Zb,Lf]
   rw[g,j,a _ Aa,a _ Aa];simp only[pA];rw[Zb Aj,Zr h];rw[Qdw N l _ (i+1) b Ai h Aa];rw[Qx (d:=(0:UInt8)) h,f,Nv,Mn];rfl
  grind
theorem Qdv:∀(N:Nat)(l:Ba)(out:List Int)(i:Nat),l.length<=1048576->out.length<=2*i->i<=l.length->l.length-i<N->
  ov N l out (i:Int)=K2 (Qb (out++(l.drop i).flatMap hx),())
 |0,_,_,_,_,_,_,h=>Aa
 |N+1,l,out,i,a,j,k,m=>by
  unfold ov gG;by_cases h:i<l.length
  ·have e:(i:Int).toNat=i:=rfl;rw[Zl (Zk),Zb,Zb Ah,e];have n:(l.getD i 0).toNat<256:=(l.getD i 0).toNat_lt;generalize b:l.getD i 0=c at*
   have f:L7.wrap (L0 (c.toNat:Int) 16)=((c.toNat/16:Nat):Int):=by
    grind[UG]
   have g:Lw (c.toNat:Int) 16=((c.toNat%16:Nat):Int):=by
    rfl
   simp only[f,g];rw[Zb (by grind[Lf]),Zb,Zb Ah,Zb (by grind[Lf]),
    Zb Aj,Zr h]
   rw[Qdv N l _ (i+1) a Ai h Aa];rw[Qx (d:=(0:UInt8)) h,b,Nv,Mn];rfl
  grind
theorem gQ(l:Ba)(h:l.length<=1048576:=by omega):je l=K2 (Td l,()):=by unfold je;exact Qdw _ l [] 0 h Ac Aa (by simp[uD])
theorem C9(l:Ba)(h:l.length<=1048576:=by omega):rD l=K2 (Td l,()):=by unfold rD;exact Qdv _ l [] 0 h Ac Aa (by simp[uk])
theorem NE(N k:Nat)(b:Int)(hk:k<16):bK (N+1) b (k:Int)=ite (CH k=b) (K2 ((k:Int),())) (bK N b ((k+1:Nat):Int)):=by
 conv=>lhs;unfold bK
 have a:ph (k:Int)=K2 (CH k,()):=by
  grind[ph,CH,Zb,Lf]
 rw[Zl (Zk),a];simp only[pA];rw[Zr (m:=16) hk];simp_all
theorem Oz(b:UInt8):yJ (b.toNat:Int)=iD (b.toNat:Int):=by
 have d:b.toNat<256:=b.toNat_lt;generalize b.toNat=n at*
 unfold yJ;have a:uN (n:Int) 0=17:=rfl;rw[a];show bK 17 (n:Int) ((0:Nat):Int)=_;have e:∀k,k<16->CH k=ite (k<10) (48+k:Int) (87+k:Int):=Ah
 have c:bK 1 (n:Int) ((16:Nat):Int)=K2 (-1,()):=rfl;unfold iD;by_cases f:48<=n/\n<=57
 ·rw[Zl Ae];have u:Lb.wrap (L7.wrap ((n:Int)-48))=(n:Int)-48:=by grind[UG,Zs]
  rw[u];have:n=48\/n=49\/n=50\/n=51\/n=52\/n=53\/n=54\/n=55\/n=56\/n=57:=Aa
  rcases this with rfl|rfl|rfl|rfl|rfl|rfl|rfl|rfl|rfl|rfl
  all_goals
   repeat (rw[NE _ _ _ Ah];first|(rw[if_pos Ah];rfl)|rw[if_neg Ah])
 ·rw[Zo Ai];by_cases g:97<=n/\n<=102
  ·rw[Zl Ae];have u:Lb.wrap (Lb.wrap (L7.wrap ((n:Int)-97))+10)=(n:Int)-87:=by grind[UG,Zs]
   rw[u];have:n=97\/n=98\/n=99\/n=100\/n=101\/n=102:=Aa
   rcases this with rfl|rfl|rfl|rfl|rfl|rfl
   all_goals
    repeat (rw[NE _ _ _ Ah];first|(rw[if_pos Ah];rfl)|rw[if_neg Ah])
  ·rw[Zo Ai]
   repeat (rw[NE _ _ _ Ah,if_neg (by rw[e _ (by decide)];split<;>omega)])
   exact c
theorem Qjf(b:UInt8):iD (b.toNat:Int)=K2 (hv b,())/\ -1<=hv b/\hv b<=15:=by
 have d:b.toNat<256:=b.toNat_lt;unfold hv;generalize b.toNat=n at*
 unfold iD;by_cases a:48<=n/\n<=57
 ·rw[Zl Ae,UG _,Zs,if_pos a]
  grind
 ·rw[Zo Ai,if_neg a];by_cases c:97<=n/\n<=102
  ·rw[Zl Ae,UG _,show Lb.wrap ((n:Int)-97)=(n:Int)-97 from Zs,Zs,if_pos c]
   grind
  grind
theorem Z6t:∀(N:Nat)(pre rest:Ba)(out:List Int),(pre++rest).length<=1048576->rest.length%2=0->out.length<=pre.length->rest.length<N->
  bH N (pre++rest) out (pre.length:Int)=K2 (match ub rest with|some d=>(Qb out++d,K4,())|none=>([],Lc,()))/\
  bE N (pre++rest) out (pre.length:Int)=K2 (match ub rest with|some d=>(Qb out++d,K4,())|none=>([],Lc,()))
 |0,_,_,_,_,_,_,h=>Aa
 |N+1,pre,[],out,f,c,n,g=>by
  simp_all[bH,bE,ub]
 |N+1,pre,[_],out,f,c,n,g=>by simp at c
 |N+1,pre,a::b::rest,out,f,c,n,g=>by
  unfold bH bE;simp only[Li,Lf]at f c g;have e:pre++a::b::rest=pre++[a,b]++rest:=Ac
  have p:Lb.wrap ((pre.length:Int)+1)=((pre.length+1:Nat):Int):=Zr (m:=1048576);have q:Lb.wrap ((pre.length:Int)+2)=((pre.length+2:Nat):Int):=Al
  have r:(pre++a::b::rest).getD ((pre.length:Int).toNat) 0=a:=am pre a (b::rest) 0;have s:(pre++a::b::rest).getD (((pre.length+1:Nat):Int).toNat) 0=b:=by
   simp
  have A:((pre++a::b::rest).length:Int)=(pre.length:Int)+rest.length+2:=Ae
  rw[Zl (Zk),Zl (Zk),p,q,r,s,Oz,Oz];obtain⟨i,B,C⟩:=Qjf a;obtain⟨j,D,u1⟩:=Qjf b;rw[i,j];simp only[pA];have t:(0:Int)<=(pre.length:Int)/\(pre.length:Int)<((pre++a::b::rest).length:Int):=Aa
  have u:(0:Int)<=((pre.length+1:Nat):Int)/\((pre.length+1:Nat):Int)<((pre++a::b::rest).length:Int):=Aa
  simp only[Zb t,Zb u];by_cases o:hv a<0\/hv b<0
  ·simp_all[Zl,ub]
  ·have v:=o;rw[Zo Ae,Zo Ae];have w:L7.wrap (Lb.wrap (Lb.wrap (16*hv a)+hv b))=((16*(hv a).toNat+(hv b).toNat:Nat):Int):=by
    have x:Lb.wrap (16*hv a)=16*hv a:=Zs;rw[x,Zs,UG _];omega
   rw[w,Zb Aj,Zb Aj];obtain⟨k,l⟩:=Z6t N (pre++[a,b]) rest (out++[((16*(hv a).toNat+(hv b).toNat:Nat):Int)]) Ae Aa Ae Aa;rw[<-e]at k l;simp only[Li,Lf,Ln,Mg]at k l⊢;rw[k,l];have y:ub (a::b::rest)=(ub rest).map λd=>Lo (16*(hv a).toNat+(hv b).toNat)::d:=by simp only[ub,o,if_false]
   rw[y];have z:Qb (out++[((16*(hv a).toNat+(hv b).toNat:Nat):Int)])=Qb out++[Lo (16*(hv a).toNat+(hv b).toNat)]:=by
    generalize 16*(hv a).toNat+(hv b).toNat=m;simp[Qb]
   grind
theorem gb(s:Ba)(h:s.length<=1048576):mI s=K2 (XU s,(ub s).isSome,())/\mt s=K2 (XU s,(ub s).isSome,()):=by
 unfold mI mt;rw[Zb Ah,Zb Ah];have e:Lw (s.length:Int) 2=((s.length%2:Nat):Int):=by rfl
 rw[e];by_cases b:s.length%2=1
 ·simp_all[XU,Z9p]
 ·have a:s.length%2=0:=Aa
  rw[a,Zo (by rfl),Zo (by rfl)];obtain⟨c,d⟩:=Z6t (((s.length:Int)-0).toNat+1) [] s [] (by simpa using h) a Ac Aa;constructor<;>grind[lv,uj,XU,Qb]
theorem eR(k:Int):d9 k=Jj k:=by
 by_cases h:1<=k/\k<=12
 ·have:k=1\/k=2\/k=3\/k=4\/k=5\/k=6\/k=7\/k=8\/k=9\/k=10\/k=11\/k=12:=Aa
  unfold d9 Z9;simp only[pA];rcases this with rfl|rfl|rfl|rfl|rfl|rfl|rfl|rfl|rfl|rfl|rfl|rfl
  all_goals
   rw[Zo Ah];rw[Zb Ah];rfl
 grind[d9,Z9,Jj]
theorem FB{p:UInt8->Bool}{fin:Ba->Bool}{L:Nat->Ba->Int->Oa Bool}
  (hL:∀N s (i:Nat),i<s.length->s.length<=1048576->L (N+1) s (i:Int)=cond (p (s.getD i 0)) (L N s ((i+1:Nat):Int)) (K2 (Lc,())))
  (hE:∀N (s:Ba),s.length<=1048576->L (N+1) s (s.length:Int)=K2 (fin s,())):∀(N:Nat)(s:Ba)(i:Nat),s.length<=1048576->i<=s.length->s.length-i<N->L N s (i:Int)=K2 ((s.drop i).all p&&fin s,())
 |0,_,_,_,_,h=>Aa
 |N+1,s,i,a,b,c=>by
  by_cases h:i<s.length
  ·rw[hL N s i h a,Qx (d:=(0:UInt8)) h,Mm];cases p (s.getD i 0)
   ·rfl
   ·rw[pG,FB hL hE N s (i+1) a h Aa,pJ]
  grind
def Iu(lo hi:Int)(b:UInt8):Bool:= !(K3 ((b.toNat:Int)<lo)||K3 ((b.toNat:Int)>hi))
def PS(s:Ba):Bool:=K3 ((s:Int)>=1)&&K3 ((s:Int)<=40)
theorem Ej(a b:Bool)(x y:α):(cond (a||b) x y)=(cond (!(a||b)) y x):=Ai
theorem Gd(s:Ba)(h:s.length<=1048576):QV s=K2 (s.all (Iu 97 122)&&PS s,()):=by
 unfold QV;refine FB (L:=ir) (fin:=PS) ?_ ?_ _ s 0 h Aa (by simp[tc])
 ·intro N s i a b
  conv=>lhs;unfold ir
  have e:(i:Int).toNat=i:=rfl;rw[Zl (Zk),Zb];simp only[];rw[Zb (λ_=>Aa),Zr a,e,Ej];rfl
 ·intro N s b;unfold ir;rw[Zo (Zm)];rfl
theorem la(s:Ba)(h:s.length<=1048576):xO s=K2 (s.all (Iu 32 126)&&PS s,()):=by
 unfold xO;refine FB (L:=dE) (fin:=PS) ?_ ?_ _ s 0 h Aa (by simp[nA])
 ·intro N s i a b
  conv=>lhs;unfold dE
  have e:(i:Int).toNat=i:=rfl;rw[Zl (Zk),Zb];simp only[];rw[Zb (λ_=>Aa),Zr a,e,Ej];rfl
 ·intro N s b;unfold dE;rw[Zo (Zm)];rfl
theorem Qf3(s:Ba)(lo hi:Int)(h:s.length<=1048576):ZB s lo hi=K2 (s.all (Iu lo hi)&&PS s,()):=by
 unfold ZB;refine FB (L:=λN s i=>ge N s lo hi i) (fin:=PS) ?_ ?_ _ s 0 h Aa (by simp[xc])
 ·intro N s i hi a
  conv=>lhs;unfold ge
  have e:(i:Int).toNat=i:=rfl;rw[Zl (Zk),Zb];simp only[];rw[Zb (λ_=>Aa),Zr hi,e,Ej];rfl
 ·intro N s a;show ge (N+1) s lo hi (s.length:Int)=_;unfold ge;rw[Zo (Zm)];rfl
theorem Z8h(b:UInt8):∃v:Int,iD (b.toNat:Int)=K2 (v,())/\ -1<=v/\v<=15:=by
 have a:b.toNat<256:=b.toNat_lt;generalize b.toNat=n at*
 unfold iD;by_cases c:48<=n/\n<=57
 ·rw[Zl Ae,UG _,Zs]
  grind
 ·rw[Zo Ai];by_cases d:97<=n/\n<=102
  ·rw[Zl Ae,UG _,show Lb.wrap ((n:Int)-97)=(n:Int)-97 from Zs,Zs]
   grind
  ·rw[Zo Ai];simp_all
theorem Qdg:∀(N:Nat)(s:Ba)(out:List Int)(i:Nat),s.length<=1048576->s.length%2=0->i%2=0->i<=s.length->out.length<=i->s.length-i<N->
  ∃d ok,bH N s out (i:Int)=K2 (d,ok,())/\bE N s out (i:Int)=K2 (d,ok,())
 |0,_,_,_,_,_,_,_,_,h=>Aa
 |N+1,s,out,i,a,b,c,p,q,r=>by
  unfold bH bE;by_cases h:i<s.length
  ·have e:(i:Int).toNat=i:=rfl;have f:Lb.wrap ((i:Int)+1)=((i+1:Nat):Int):=Zr h;have g:((i+1:Nat):Int).toNat=i+1:=rfl;have j:Lb.wrap ((i:Int)+2)=((i+2:Nat):Int):=Al
   rw[Zl (Zk),Zl (Zk),f,g,j,e,Oz,Oz];obtain⟨v,hv,t,w⟩:=Z8h (s.getD i 0);obtain⟨u,k,y,u1⟩:=Z8h (s.getD (i+1) 0);rw[hv,k];simp only[pA];have l:∀(ρ:Type)(m:Option ρ),Zd (0<=(i:Int)/\(i:Int)<(s.length:Int)) m=m:=λρ m=>Zb;have n:∀(ρ:Type)(m:Option ρ),Zd (0<=((i+1:Nat):Int)/\((i+1:Nat):Int)<(s.length:Int)) m=m:=λρ m=>Zb;have o:∀(ρ:Type)(x:Int)(m:Option ρ),Zd (out.length+[x].length<=Qd) m=m:=λρ x m=>Zb Aj;simp only[l,n,o];by_cases z:v<0\/u<0
   ·simp_all[Zl]
   ·rw[Zo Ae,Zo Ae];exact Qdg N s _ (i+2) a b Aa Aa Ai Aa
  simp_all[Zm]
theorem Qab(s:Ba)(h:s.length<=1048576):∃d ok,mI s=K2 (d,ok,())/\mt s=K2 (d,ok,()):=by
 unfold mI mt;rw[Zb Ah,Zb Ah];have e:Lw (s.length:Int) 2=((s.length%2:Nat):Int):=by rfl
 rw[e];by_cases b:s.length%2=1
 ·simp_all
 ·have a:s.length%2=0:=Aa
  rw[a,Zo (by rfl),Zo (by rfl)];exact Qdg _ s [] 0 h a Aa Aa Ac (by simp[lv])
def okZ(x:Int):Bool:=K3 (x>=0)&&K3 (x<=999999)
theorem Qj0{x:Int}(h:okZ x=K4):0<=x/\x<=999999:=by simp_all[okZ]
theorem ES(e:Zv)(hl:e.2.2.2.1.length<=1048576):∃b,bc e=K2 (b,())/\oz e=K2 (b,())/\(b=K4->(1<=e.1/\e.1<=12)/\(0<=e.2.1/\e.2.1<=999999)/\(0<=e.2.2.1/\e.2.2.1<=999999)):=by
 obtain⟨k,f,n,text,z⟩:=e;simp only at hl⊢;unfold bc gH oz;simp only[eR];by_cases hk:1<=k/\k<=12
 ·obtain⟨d,u,j,l⟩:=Qab text hl;have v:∀x,Z9 x 0 999999=K2 (okZ x,()):=λ_=>rfl;have w:∀x,Z0 x 0 999999=K2 (okZ x,()):=λ_=>rfl;have m:∀x,Z9 x 1 400=K2 (K3 (x>=1)&&K3 (x<=400),()):=λ_=>rfl;have o:∀x,Z0 x 1 400=K2 (K3 (x>=1)&&K3 (x<=400),()):=λ_=>rfl;have:=hk;have:k=1\/k=2\/k=3\/k=4\/k=5\/k=6\/k=7\/k=8\/k=9\/k=10\/k=11\/k=12:=Aa
  have p:∀g i:Oa Bool,(∃b,g=K2 (b,())/\i=K2 (b,())/\(b=K4->okZ f=K4/\okZ n=K4))-> ∃b,g=K2 (b,())/\i=K2 (b,())/\(b=K4->(1<=k/\k<=12)/\(0<=f/\f<=999999)/\(0<=n/\n<=999999)):=
   λg i ⟨b,y,A,t⟩=>⟨b,y,A,λh=>⟨hk,Qj0 (t h).1,Qj0 (t h).2⟩⟩
  apply p;have q:((cond (K3 (1<=k)&&K3 (k<=12)) (WM.getD k.toNat []) [])==([]:Ba))=false:=by
   rcases this with rfl|rfl|rfl|rfl|rfl|rfl|rfl|rfl|rfl|rfl|rfl|rfl<;>rfl
  have B:K3 ((0:Int)=f)=(f==0):=Ai
  have r:K3 ((0:Int)=n)=(n==0):=Ai
  have C:(([]:Ba)==text)=(text==[]):=Af
  rcases this with rfl|rfl|rfl|rfl|rfl|rfl|rfl|rfl|rfl|rfl|rfl|rfl
  all_goals
   simp only[Jj,wh,uu,uv,oK,uP,v7,v8,oc,Ss,Nq,pG,pH,pA,v,w,Gd text hl,la text hl,Qf3 text _ _ hl,j,l,m,o];simp only[A7,q,B,r,C,eq_self,decide_true,beq_self_eq_true,pJ,Nf,Ll,pG,pH,pA,Ld];generalize (f==(0:Int))=g;generalize (n==(0:Int))=i;generalize (text==([]:Ba))=b3;generalize okZ f=b4;generalize okZ n=b5;generalize (text==([98,105,100,105]:Ba)||text==([117,110,105]:Ba))=c1;generalize (text.all (Iu 97 122)&&PS text)=c2;generalize (text.all (Iu 32 126)&&PS text)=c3;generalize (K3 ((d.length:Int)>=1)&&K3 ((d.length:Int)<=400))=c4;cases g<;>cases i<;>cases b3<;>cases b4<;>cases b5<;>first|exact⟨_,rfl,rfl,λh=>by first|exact⟨rfl,rfl⟩|cases h⟩|(cases c1<;>exact⟨_,rfl,rfl,λh=>by first|exact⟨rfl,rfl⟩|cases h⟩)|(cases c2<;>exact⟨_,rfl,rfl,λh=>by first|exact⟨rfl,rfl⟩|cases h⟩)|(cases c3<;>exact⟨_,rfl,rfl,λh=>by first|exact⟨rfl,rfl⟩|cases h⟩)|(cases c4<;>cases u<;>exact⟨_,rfl,rfl,λh=>by first|exact⟨rfl,rfl⟩|cases h⟩)
 ·have r:(K3 (1<=k)&&K3 (k<=12))=false:=Af
  have s:∃a b c,wh k=K2 (a,b,c,()):=by
   unfold wh uu uv oK;cases k==1<;>cases k==11<;>cases k==2<;>cases k==7<;>cases k==3<;>cases k==4<;>cases k==5<;>cases k==6<;>exact⟨_,_,_,rfl⟩
  obtain⟨a,b,c,s⟩:=s;simp only[Jj,r,s,pH,pA];simp_all
theorem Qnc{c:Bool}{x y:α}:(cond c (K2 x) (K2 y))=K2 (cond c x y):=by cases c<;>rfl
theorem Qrq(d:Nat)(h:d<10):Mz (Lo (48+d))=K2 d:=by
 have:(Lo (48+d)).toNat=48+d:=Ae
 grind[Mz]
theorem Zzr:∀(l r:Ba)(acc:Nat),Mb acc (l++r)=(Mb acc l).bind λa=>Mb a r
 |[],r,acc=>rfl
 |b::l,r,acc=>by
  simp only[Mo,Mb];cases Mz b with
  |none=>rfl
  |some d=>exact Zzr l r _
theorem Z3o:∀(u:Nat),Mb 0 (Lr u)=K2 u:=by
 intro u
 induction u using M9 with
 |_ u a=>
  rw[Lr]
  grind[Mb,Qrq,Zzr]
theorem lh:∀(u:Nat),∀b∈Lr u,48<=b.toNat/\b.toNat<=57:=by
 intro u
 induction u using M9 with
 |_ u a=>
  intro b hb;rw[Lr]at hb;split at hb
  ·simp_all<;>omega
  ·rename_i h;rcases L4.1 hb with hb|hb
   ·grind
   simp_all<;>omega
theorem Ztt(u:Nat):Lr u≠[]:=by grind[Nj,Go.Lib.nDigits_pos]
theorem Zqc(u:Nat):Nk (Lr u)=K2 u:=by simp_all[Nk,Ztt,Z3o]
theorem SA(n:Int):Mh (Lg n)=K2 n:=by
 unfold Lg;split
 ·grind[Mh,Zqc]
 ·rename_i h;cases hd:Lr n.toNat with
  |nil=>grind[Ztt]
  |cons b r=>
   have d:=lh n.toNat b (by rw[hd];simp);have a:¬(b==45)=true:=by intro e;simp_all
   have c:¬(b==43)=true:=by intro e;simp_all
   simp only[Mh];rw[if_neg a,if_neg c,<-hd,Zqc]
   grind
theorem Qd4{b:Int}(h:Lg a=Lg b):a=b:=by grind[SA]
theorem qP(h:u<=999999999:=by omega):Mj u<=9:=by
 rcases Nat.lt_or_ge 9 (Mj u)with h'|h'
 ·exfalso;have a:∀k u,k<Mj u->k>=1->10^k<=u:=by
   intro k
   induction k with
   |zero=>omega
   |succ k b=>
    grind[Nn,Nm]
  grind
 ·exact h'
theorem BE(h0: -999999999<=n:=by omega)(h1:n<=999999999:=by omega):(Lg n).length<=10:=by grind[Lg,qP,Nj]
def pf:Ba->Nat×Nat->Nat×Nat|[],v=>v|b::l,v=>pf l (ite (48<=b.toNat/\b.toNat<=57) (v.1*10+(b.toNat-48),v.2+1) v)
theorem Qpv:∀(l r:Ba)(v:Nat×Nat),pf (l++r) v=pf r (pf l v)
 |[],_,_=>rfl
 |b::l,r,v=>by simp only[Mo,pf];exact Qpv l r _
theorem Z81:∀(u:Nat),pf (Lr u) (0,0)=(u,Mj u):=by
 intro u
 induction u using M9 with
 |_ u a=>
  rw[Lr];split
  ·rename_i h;have:(Lo (48+u)).toNat=48+u:=Ae
   simp only[pf,this];simp_all[Nn]<;>omega
  ·rename_i h;have:(Lo (48+u%10)).toNat=48+u%10:=Ae
   grind[Qpv,Nm,pf]
theorem NK:∀(l:Ba)(v:Nat×Nat),v.1<10^v.2->(pf l v).1<10^ (pf l v).2/\(pf l v).2<=v.2+l.length
 |[],v,h=>⟨h,by simp[pf]⟩
 |b::l,v,h=>by
  simp only[pf];split
  ·have:=NK l (v.1*10+(b.toNat-48),v.2+1) Ai
   grind
  ·have:=NK l v h
   grind
theorem Gk{k:Nat}(h:k<=11:=by omega):(10:Nat)^k<=100000000000:=Lx (N0 Ah h) Ah
def w4(s:Ba)(n:Nat):Int:=ite (s.head? =K2 45) (-(n:Int)) n
theorem NP:∀(N:Nat)(pre rest:Ba)(n k:Nat),(pre++rest).length<=1048576->rest.length<N->pre.length<=11->n<10^k->k<=pre.length->
  ml N (pre++rest) n k pre.length=bf (pre++rest) (w4 (pre++rest) (pf (rest.take (11-pre.length)) (n,k)).1) (pf (rest.take (11-pre.length)) (n,k)).2
 |0,_,_,_,_,_,h,_,_,_=>Aa
 |N+1,pre,rest,n,k,f,g,r,i,s=>by
  unfold ml gG;have fin:(Zd (((K3 (((pre++rest).length:Int)>(0:Int)))=K4->(0<=(0:Int)/\(0:Int)<(pre++rest).length)))<|
   bif(K3 (((pre++rest).length:Int)>(0:Int)))&&((((pre++rest).getD (0:Int).toNat 0).toNat:Int)==(45:Int))then
    bf (pre++rest) (Lb.wrap (0- (n:Int))) k
   else
    bf (pre++rest) n k)=bf (pre++rest) (w4 (pre++rest) n) k:=by
   have j:=Gk (k:=k);rw[Zb (λh=>Af),Zs];unfold w4;cases hs:pre++rest with
   |nil=>rfl
   |cons b l=>
    simp only[Lf,List.head?_cons,pB];by_cases c:b=45
    ·simp_all
    ·rw[if_neg c,Zo (by
      simp only[Nd];right;simp only[Int.toNat_zero,Mp,beq_eq_false_iff_ne,ne_eq];intro e;apply c;apply Na.1
      grind)]
  cases rest with
  |nil=>
   simp_all[pf]
  |cons b rest=>
   by_cases t:pre.length<11
   ·simp only[Li,Lf]at f g;rw[Zl Ae,Zb Ae];simp only[am];rw[Zb (λ_=>Ae)];have e:=Iw pre b rest;have j:=Gk (k:=k);have a:(b::rest).take (11-pre.length)=b::rest.take (11- (pre.length+1)):=by
     rw[show 11-pre.length=(11- (pre.length+1))+1 by omega,List.take_succ_cons]
    rw[a];simp only[pf];have o:b.toNat<256:=b.toNat_lt;by_cases d:48<=b.toNat/\b.toNat<=57
    ·rw[Zl Ae,Zb Ae,if_pos d];unfold sr;have u8:L7.wrap (((b.toNat:Int))-48)=((b.toNat-48:Nat):Int):=by
      grind[UG]
     have p:Lb.wrap ((n:Int)*10)=(n:Int)*10:=Zs;have q:Lb.wrap ((b.toNat-48:Nat):Int)=((b.toNat-48:Nat):Int):=Zs;rw[u8,p,q,Zs,Zs (n:=(k:Int)+1),Zr (m:=(pre++b::rest).length) Ac Ae];have:=NP N (pre++[b]) rest (n*10+(b.toNat-48)) (k+1) Ae Aa Ae Aa Ae;rw[<-e]at this;simp only[Li,Lf,Ln,Mg]at this⊢
     grind
    ·rw[Zo Ae,if_neg d];unfold sr;rw[Zr (m:=(pre++b::rest).length) Ac Ae];have:=NP N (pre++[b]) rest n k Ae Aa Ae i Ae;rw[<-e]at this;simp only[Li,Lf,Ln,Mg]at this⊢;exact this
   ·rw[Zo Ae,show 11-pre.length=0 by omega];simp_all[pf]
theorem Q17(s:Ba)(hs:s.length<=1048576):
  (∃n:Int,-999999999<=n/\n<=999999999/\s=Lg n/\qo s=K2 (n,K4,())/\dN s=K2 (n,K4,()))\/
  ((∀n:Int,-999999999<=n->n<=999999999->s≠Lg n)/\qo s=K2 (0,Lc,())/\dN s=K2 (0,Lc,())):=by
 have v:(∃n:Int,-999999999<=n/\n<=999999999/\s=Lg n/\dN s=K2 (n,K4,()))\/((∀n:Int,-999999999<=n->n<=999999999->s≠Lg n)/\dN s=K2 (0,Lc,())):=by
  unfold dN gH;by_cases z:s.length>10
  ·rw[Zl (Zk)];refine .inr ⟨λn f g e=>?_,rfl⟩
   grind[BE]
  ·rw[Zo (Zm)];simp only[CI];rw[Zb,pA];cases ha:Mh s with
   |none=>
    grind[SA]
   |some n=>
    have A:=Go.Lib.atoi_bound ha Aa;simp only[Option.getD_some,Option.isSome_some,pI,pH,JZ];rw[Zb,pA];by_cases r:Lg n=s
    ·simp only[r,beq_self_eq_true,pI,Mx,Ld,pH,Z0,pA]
     grind(splits:=20)[Qd4]
    ·have:(Lg n==s)=false:=by simpa using r
     simp only[this,Ll,Nh,My,pG,pA];refine .inr ⟨λm f g e=>?_,trivial⟩;simp_all[SA]
 have i:=NP (((s.length:Int)-0).toNat+1) [] s 0 0 (by simpa using hs) Aa Ac Ac Ac;simp only[Ms,Ln,Nat.sub_zero,Lv]at i;have b:qo s=bf s (w4 s (pf (s.take 11) (0,0)).1) (pf (s.take 11) (0,0)).2:=by
  simp_all[qo,xm]
 obtain⟨c,j⟩:=NK (s.take 11) (0,0) Ac;have hk:(pf (s.take 11) (0,0)).2<=11:=by
  grind
 have l:=Gk hk
 
 have a:∀n:Int,-999999999<=n->n<=999999999->s=Lg n->w4 s (pf (s.take 11) (0,0)).1=n/\(pf (s.take 11) (0,0)).2<=9:=by
  intro n f g e;have o:=BE f g;rw[<-e]at o;rw[M6 Aa];unfold Lg at e;split at e
  ·rename_i w;rw[e];simp only[pf];rw[if_neg Ah,Z81];refine⟨?_,qP⟩;simp_all[w4]<;>omega
  ·rename_i w;rw[e,Z81];refine⟨?_,qP⟩;unfold w4;rw[if_neg]
   ·simp only;omega
   ·intro x;have:=lh n.toNat 45 (List.mem_of_mem_head? x);simp at this
 generalize (pf (s.take 11) (0,0)).1=u at b c a;generalize (pf (s.take 11) (0,0)).2=k at b c j hk l a;have h: -100000000000<=w4 s u/\w4 s u<=100000000000:=by grind[w4]
 unfold bf at b;simp only[iM (w4 s u),Qnc,pA]at b;rcases v with⟨n,f,g,e,t⟩|⟨p,t⟩
 ·constructor<;>grind[BE]
 ·refine .inr ⟨p,?_,t⟩;rw[b];by_cases y:(K3 ((k:Int)>9)||K3 ((s.length:Int)>10))=K4
  ·grind
  ·have d:(K3 ((k:Int)>9)||K3 ((s.length:Int)>10))=false:=by simpa using y
   simp only[d,pH,Ld];rw[Zl];simp only[Md,beq_eq_false_iff_ne,ne_eq];intro e;simp only[Lp,decide_eq_false_iff_not]at d;have q:k<=9:=Aa
   have:(10:Nat)^k<=1000000000:=Lx (N0 Ah q) Ah
   grind[w4]
theorem vR(c:UInt8)(hc:c=32\/c=10)(n:Int):c∉Lg n:=by
 have a:∀u,c∉Lr u:=λu h=>by
  have:=lh u c h;rcases hc with rfl|rfl<;>simp at this
 grind[Lg]
def ju(c:UInt8):Ba->Ba×Ba×Bool|[]=>([],[],Lc)|b::l=>ite (b=c) ([],l,K4) (b:: (ju c l).1,(ju c l).2.1,(ju c l).2.2)
def bu(c:UInt8):Ba->List Ba
 |[]=>[[]]
 |b::l=>if b=c then[]::bu c l else match bu c l with
  |[]=>[[b]]
  |w::ws=>(b::w)::ws
theorem Tg(c:UInt8):∀l,bu c l≠[]
 |[]=>by simp[bu]
 |b::l=>by
  grind[bu]
theorem vB(c:UInt8):∀(a r:Ba),c∉a->bu c (a++c::r)=a::bu c r
 |[],r,_=>by simp[bu]
 |b::a,r,h=>by
  have f:b≠c:=λe=>h (by simp[e]);have g:=vB c a r (λd=>h (by simp[d]));simp_all[bu]
theorem Z6k(c:UInt8):∀(a:Ba),c∉a->bu c a=[a]
 |[],_=>by simp[bu]
 |b::a,h=>by
  have f:b≠c:=λe=>h (by simp[e]);have g:=Z6k c a (λd=>h (by simp[d]));simp_all[bu]
theorem OW(c:UInt8):∀(a r:Ba),c∉a->ju c (a++c::r)=(a,r,K4)
 |[],r,_=>by simp[ju]
 |b::a,r,h=>by
  have f:b≠c:=λe=>h (by simp[e]);have g:=OW c a r (λd=>h (by simp[d]));simp_all[ju]
theorem GT(c:UInt8):∀(a:Ba),c∉a->ju c a=(a,[],Lc)
 |[],_=>by simp[ju]
 |b::a,h=>by
  have f:b≠c:=λe=>h (by simp[e]);have g:=GT c a (λd=>h (by simp[d]));simp_all[ju]
theorem z0(c:UInt8):∀l:Ba,(ju c l).1.length<=l.length/\(ju c l).2.1.length<=l.length
 |[]=>by simp[ju]
 |b::l=>by
  have:=z0 c l
  grind[ju]
theorem OQ(c:UInt8):∀l:Ba,c∉l\/ ∃a r,l=a++c::r/\c∉a
 |[]=>.inl Ac
 |b::l=>by
  by_cases h:b=c
  ·exact .inr ⟨[],l,by simp[h],Ac⟩
  ·rcases OQ c l with d|⟨a,r,e,d⟩
   all_goals grind
theorem LB(c:UInt8):∀l:Ba,c∉l->Me l [c]= -1
 |[],_=>rfl
 |b::l,h=>by
  have d:¬c=b:=λe=>h (by simp[e]);have f:=LB c l (λa=>h (by simp[a]));simp_all[Me]
theorem A8(c:UInt8):∀(a r:Ba),c∉a->Me (a++c::r) [c]=a.length
 |[],r,_=>by simp[Me,List.isPrefixOf]
 |b::a,r,h=>by
  have f:¬c=b:=λe=>h (by simp[e]);have g:=A8 c a r (λd=>h (by simp[d]));simp_all[Me]
theorem Qwo(c:UInt8)(l:Ba):Ni l [c]=ju c l:=by
 unfold Ni;rcases OQ c l with h|⟨a,r,rfl,h⟩
 all_goals simp_all[LB,GT,A8,OW]
theorem Qfh(c:UInt8):∀(n:Nat)(l:Ba),l.length<=n->Np [c] 0 (Go.Lib.count l [c]) l=bu c l:=by
 intro n
 induction n with
 |zero=>
  intro l h;have:l=[]:=List.eq_nil_of_length_eq_zero Aa;subst this;rfl
 |succ n e=>
  intro l h;rcases OQ c l with b|⟨a,r,rfl,b⟩
  ·rw[Go.Lib.count_miss (LB c l b),Z6k c l b];rfl
  ·have d:=A8 c a r b;rw[Go.Lib.count_hit (i:=a.length) Ac d,vB c a r b,Nat.add_comm,Np,d];simp only[Li,Lf]at h;have f:(a++c::r).drop ((a.length:Int).toNat+[c].length)=r:=Ac
   have g:(a++c::r).drop (a.length+[c].length)=r:=Ac
   have j:(a++c::r).take ((a.length:Int).toNat+0)=a:=Ac
   grind
theorem G7(c:UInt8):∀l:Ba,(bu c l).length<=l.length+1/\ ∀w∈bu c l,w.length<=l.length
 |[]=>by simp[bu]
 |b::l=>by
  obtain⟨a,d⟩:=G7 c l;unfold bu
  grind
def TW(p:Ba):List Ba->List Ba|[]=>[p]|w::ws=>(p++w)::ws
theorem Zze{l:List Ba}(h:l≠[]):TW [] l=l:=by cases l<;>simp_all[TW]
theorem Ou(c:UInt8):∀(N:Nat)(pre rest:Ba)(out:List Ba)(part:Ba),(pre++rest).length<=1048576->rest.length<N->out.length<=pre.length->part.length<=pre.length->
  eA N (pre++rest) (c.toNat:Int) out part pre.length=K2 (out++TW part (bu c rest),())
 |0,_,_,_,_,_,h,_,_=>Aa
 |N+1,pre,[],out,part,a,g,j,k=>by
  unfold eA;simp only[Li,Ln]at a;rw[Zo Ac,Zb Aj];simp[bu,TW]
 |N+1,pre,b::rest,out,part,a,g,j,k=>by
  unfold eA;simp only[Li,Lf]at a g;rw[Zl Ae,Zb Ae];simp only[am];have e:=Iw pre b rest;by_cases i:b=c
  ·subst i;rw[Zl Ac,Zb Aj];unfold mS;rw[Zr (m:=(pre++b::rest).length) Ac Ae];have:=Ou b N (pre++[b]) rest (out++[part]) [] Ae Aa Ae Ac;rw[<-e]at this;simp only[Li,Lf,Ln,Mg]at this⊢
   grind[Zze,Tg,bu,TW]
  ·have d:((b.toNat:Int)==(c.toNat:Int))=false:=by
    grind[Na]
   rw[Zo d,Zr (m:=(pre++b::rest).length) Ac Ae,Zb Ae];have f:((pre++b::rest).drop (pre.length:Int).toNat).take (((pre.length+1:Nat):Int).toNat- (pre.length:Int).toNat)=[b]:=by
    simp_all
   simp only[f];rw[Zb Ak];unfold mS;rw[Zr (m:=(pre++b::rest).length) Ac Ae];have:=Ou c N (pre++[b]) rest out (part++[b]) Ae Aa Ae Ae;rw[<-e]at this;simp only[Li,Lf,Ln,Mg]at this⊢;rw[this];congr 3;simp only[bu,i,if_false]
   grind[TW]
theorem Qov(c:UInt8)(s:Ba)(hs:s.length<=1048576):yH s (c.toNat:Int)=K2 (bu c s,()):=by have:=Ou c (((s.length:Int)-0).toNat+1) [] s [] [] (by simpa using hs) Aa Ac Ac;simp_all[yH,rm,Zze,Tg]
theorem Qln(xs:List Ba)(y sep:Ba)(h:xs≠[]):L6 (xs++[y]) sep=L6 xs sep++sep++y:=by
 cases xs with
 |nil=>simp_all
 |cons x r=>
  simp_all[Mi,M0]
theorem TS(sep:Ba)(K:Nat):∀(xs:List Ba),(∀x∈xs,x.length<=K)->(L6 xs sep).length<=(K+sep.length)*xs.length
 |[],_=>by simp[Nl]
 |x::r,h=>by
  rw[Mi,Li,Go.Lib.joinTail_length];have b:x.length<=K:=h x Ac;have c:M1 r<=K*r.length:=by
   have d:∀z∈r,z.length<=K:=λz a=>h z (by simp[a]);clear h
   induction r with
   |nil=>simp[M1]
   |cons z r e=>
    grind[M1,M8]
  grind[M8]
theorem Z9o{d:α}{l:List α}(h:i<l.length):l.take (i+1)=l.take i++[l.getD i d]:=by simp_all
theorem Qe7{α:Type}{d:α}{txt:α->Ba}{sep:Ba}{ok:α->Prop}{K:Nat}(hK:∀x,ok x->(txt x).length<=K)
  {L:Nat->List α->Ba->Int->Oa Ba}{fin:Ba->Oa Ba}
  (hL:∀N l (s:Ba) (i:Nat),i<l.length->l.length<=1048576->ok (l.getD i d)->s.length<=(K+sep.length)*1048576->
   L (N+1) l s (i:Int)=L N l ((ite (0<i) (s++sep) s)++txt (l.getD i d)) ((i+1:Nat):Int))
  (hE:∀N (l:List α) s,L (N+1) l s (l.length:Int)=fin s):∀(N:Nat)(l:List α)(s:Ba)(i:Nat),(∀x∈l,ok x)->l.length<=1048576->i<=l.length->l.length-i<N->
   s=L6 ((l.take i).map txt) sep->L N l s (i:Int)=fin (L6 (l.map txt) sep)
 |0,_,_,_,_,_,_,h,_=>Aa
 |N+1,l,s,i,c,a,j,k,b=>by
  by_cases h:i<l.length
  ·have hx:ok (l.getD i d):=by
    simp_all
   have f:s.length<=(K+sep.length)*1048576:=by
    rw[b];refine Lx (TS sep K _ ?_) (Nat.mul_le_mul_left _ ?_)
    all_goals grind
   rw[hL N l s i h a hx f];refine Qe7 hK hL hE N l _ (i+1) c a h Aa ?_;rw[Z9o (d:=d) h,List.map_append,L1,List.map_nil];by_cases g:0<i
   ·rw[if_pos g,b,Qln];intro e;have:=congrArg M4 e;simp_all
   simp_all[Go.Lib.join_one,Nl]
  grind
theorem Z85{α β:Type}{d:α}{txt:α->β}{ok:α->Prop}{ρ:Type}
  {L:Nat->List β->List α->Int->Int->Option ρ}{fin:List β->Option ρ}
  (hL:∀N out (l:List α) (i:Nat),i<l.length->l.length<=1048576->ok (l.getD i d)->out.length<=i->L (N+1) out l (l.length:Int) (i:Int)=L N (out++[txt (l.getD i d)]) l (l.length:Int) ((i+1:Nat):Int))
  (hE:∀N out (l:List α),L (N+1) out l (l.length:Int) (l.length:Int)=fin out):∀(N:Nat)(l:List α)(out:List β)(i:Nat),(∀x∈l,ok x)->l.length<=1048576->i<=l.length->l.length-i<N->
   out=(l.take i).map txt->L N out l (l.length:Int) (i:Int)=fin (l.map txt)
 |0,_,_,_,_,_,_,h,_=>Aa
 |N+1,l,out,i,b,a,c,e,f=>by
  by_cases h:i<l.length
  ·have hx:ok (l.getD i d):=by
    simp_all
   rw[hL N out l i h a hx Af];refine Z85 hL hE N l _ (i+1) b a h Aa ?_
   grind[Z9o]
  grind
def fq(x:Int):Bool:=K3 (x>=(0:Int))&&K3 (x<=(4611686018427387903:Int))
theorem Qmc(x:Int):Q5 x=K2 (fq x,()):=rfl
theorem A5(x:Int):Xt x=K2 (fq x,()):=rfl
theorem Zz9:WV=ql:=rfl
theorem Qcq:Ju=Jx:=rfl
theorem Qt2:co=po:=rfl
def Ky(f:Zh):Bool:=cond (f.1==4) (K3 (f.2.2.1=0)&&(f.2.2.2.1==[])&&(f.2.2.2.2.1==Lc)&&K3 (f.2.2.2.2.2.2.1=0)&&(f.2.2.2.2.2.2.2.2.1==Lc)) (cond (f.1==5) (K3 (f.2.2.1=0)&&(f.2.2.2.1==[])&&(f.2.2.2.2.1==Lc)&&K3 (f.2.2.2.2.2.2.1=0)&&K3 (f.2.2.2.2.2.2.2.1=0)&&(f.2.2.2.2.2.2.2.2.1==Lc)) (cond (f.1==8) (K3 (f.2.2.2.2.2.1=0)&&K3 (f.2.2.2.2.2.2.1=0)&&K3 (f.2.2.2.2.2.2.2.1=0)&&(f.2.2.2.2.2.2.2.2.1==Lc)) (cond (f.1==17||f.1==21) (K3 (f.2.2.1=0)&&(f.2.2.2.1==[])&&(f.2.2.2.2.1==Lc)&&K3 (f.2.2.2.2.2.1=0)&&K3 (f.2.2.2.2.2.2.2.1=0)&&(f.2.2.2.2.2.2.2.2.1==Lc)) (cond (f.1==18||f.1==22) (K3 (f.2.1=0)&&K3 (f.2.2.1=0)&&(f.2.2.2.1==[])&&(f.2.2.2.2.1==Lc)&&K3 (f.2.2.2.2.2.1=0)&&K3 (f.2.2.2.2.2.2.2.1=0)) (cond (f.1==16||f.1==20) (K3 (f.2.1=0)&&K3 (f.2.2.1=0)&&(f.2.2.2.1==[])&&(f.2.2.2.2.1==Lc)&&K3 (f.2.2.2.2.2.1=0)&&K3 (f.2.2.2.2.2.2.2.1=0)&&(f.2.2.2.2.2.2.2.2.1==Lc)) Lc)))))
def Ym(f:Zh):Bool:=Ky f&&fq f.2.1&&fq f.2.2.1&&fq f.2.2.2.2.2.1&&fq f.2.2.2.2.2.2.1&&fq f.2.2.2.2.2.2.2.1&&K3 (f.2.2.2.1.length<=400)&&(cond (f.1==18||f.1==22) (K3 (f.2.2.2.2.2.2.1<=(1152921504606846976:Int))) (K3 (f.2.2.1<=(4611686018427387903:Int)- (f.2.2.2.1.length:Int))))
theorem Qel(k:Int):∃s,ql k=K2 (s,())/\((s==([]:Ba))= !(k==4||k==5||k==8||k==16||k==17||k==18||k==20||k==21||k==22)):=by unfold ql;cases h4:k==4<;>cases h5:k==5<;>cases h8:k==8<;>cases h16:k==16<;>cases h17:k==17<;>cases h18:k==18<;>cases h20:k==20<;>cases h21:k==21<;>cases h22:k==22<;>exact⟨_,rfl,rfl⟩
theorem Z9q(f:Zh):∃u,po f=K2 (u,())/\((f.1==4||f.1==5||f.1==8||f.1==16||f.1==17||f.1==18||f.1==20||f.1==21||f.1==22)=K4->A7 Zu u f=Ky f/\A7 Zu f u=Ky f):=by
 obtain⟨k,v,p,n,fin,o,a,b,q,z⟩:=f;by_cases r:k=4
 ·subst r;exact⟨_,rfl,λ_=>by constructor<;>rw[Ly]<;>simp[A7,Ky]<;>grind⟩
 by_cases s:k=5
 ·subst s;exact⟨_,rfl,λ_=>by constructor<;>rw[Ly]<;>simp[A7,Ky]<;>grind⟩
 by_cases t:k=8
 ·subst t;exact⟨_,rfl,λ_=>by constructor<;>rw[Ly]<;>simp[A7,Ky]<;>grind⟩
 by_cases d:k=17
 ·subst d;exact⟨_,rfl,λ_=>by constructor<;>rw[Ly]<;>simp[A7,Ky]<;>grind⟩
 by_cases g:k=21
 ·subst g;exact⟨_,rfl,λ_=>by constructor<;>rw[Ly]<;>simp[A7,Ky]<;>grind⟩
 by_cases i:k=18
 ·subst i;exact⟨_,rfl,λ_=>by constructor<;>rw[Ly]<;>simp[A7,Ky]<;>grind⟩
 by_cases j:k=22
 ·subst j;exact⟨_,rfl,λ_=>by constructor<;>rw[Ly]<;>simp[A7,Ky]<;>grind⟩
 by_cases l:k=16
 ·subst l;exact⟨_,rfl,λ_=>by constructor<;>rw[Ly]<;>simp[A7,Ky]<;>grind⟩
 by_cases m:k=20
 ·subst m;exact⟨_,rfl,λ_=>by constructor<;>rw[Ly]<;>simp[A7,Ky]<;>grind⟩
 ·have e:∀c:Int,k≠c->(k==c)=false:=λc h=>by simp[h]
  refine⟨(k,0,0,[],Lc,0,a,0,Lc,()),?_,λhk=>?_⟩
  all_goals grind[po,Jx,Kc,td,tf]
theorem Z82(h:Ky f=K4)(h8:f.1≠8):f.2.2.1=0/\f.2.2.2.1=[]:=by grind[Ky]
theorem Hw(h:Ky f=K4):(f.1==4||f.1==5||f.1==8||f.1==16||f.1==17||f.1==18||f.1==20||f.1==21||f.1==22)=true:=by grind[Ky]
theorem uK(f:Zh)(hl:f.2.2.2.1.length<=1048576:=by omega):W5 f=K2 (Ym f,()):=by
 obtain⟨s,c,d⟩:=Qel f.1;obtain⟨u,e,g⟩:=Z9q f;unfold W5 gH;simp only[c,e,Qmc,pA,d];cases hk:(f.1==4||f.1==5||f.1==8||f.1==16||f.1==17||f.1==18||f.1==20||f.1==21||f.1==22)
 ·grind[Hw,Ym]
 ·simp only[pI,pH,pA,Ld,(g hk).1];have h:Ym f=(Ky f&&fq f.2.1&&fq f.2.2.1&&fq f.2.2.2.2.2.1&&fq f.2.2.2.2.2.2.1&&fq f.2.2.2.2.2.2.2.1&&K3 (f.2.2.2.1.length<=400)&&(cond (f.1==18||f.1==22) (K3 (f.2.2.2.2.2.2.1<=(1152921504606846976:Int))) (K3 (f.2.2.1<=(4611686018427387903:Int)- (f.2.2.2.1.length:Int))))):=rfl;rw[h,Zs];have i:K3 ((f.2.2.2.1.length:Int)>400)= !(K3 (f.2.2.2.1.length<=400)):=by
   grind
  rw[i];cases hpf:Ky f
  ·simp
  ·have a:=Z82 hpf;cases fq f.2.1<;>cases fq f.2.2.1<;>cases fq f.2.2.2.2.2.1<;>cases fq f.2.2.2.2.2.2.1<;>cases fq f.2.2.2.2.2.2.2.1<;>cases hlen:K3 (f.2.2.2.1.length<=400)<;>try rfl
   by_cases b:f.1=8
   ·simp[b]
   ·have j:(f.1==8)=false:=by simp[b]
    obtain⟨k,l⟩:=a b;unfold QO;cases h18:f.1==18<;>cases h22:f.1==22<;>simp[j,k,l]
theorem zf(f:Zh)(hl:f.2.2.2.1.length<=1048576:=by omega):Vz f=K2 (Ym f,()):=by
 obtain⟨s,b,c⟩:=Qel f.1;obtain⟨u,d,e⟩:=Z9q f;unfold Vz gH;rw[Zz9,Qt2];simp only[b,d,A5,pA,c];cases hk:(f.1==4||f.1==5||f.1==8||f.1==16||f.1==17||f.1==18||f.1==20||f.1==21||f.1==22)
 ·grind[Hw,Ym]
 ·simp only[pI,pH,pA,Ld,(e hk).2];have g:Ym f=(Ky f&&fq f.2.1&&fq f.2.2.1&&fq f.2.2.2.2.2.1&&fq f.2.2.2.2.2.2.1&&fq f.2.2.2.2.2.2.2.1&&K3 (f.2.2.2.1.length<=400)&&(cond (f.1==18||f.1==22) (K3 (f.2.2.2.2.2.2.1<=(1152921504606846976:Int))) (K3 (f.2.2.1<=(4611686018427387903:Int)- (f.2.2.2.1.length:Int))))):=rfl;rw[g,Zs];have h:K3 ((f.2.2.2.1.length:Int)<=400)=(K3 (f.2.2.2.1.length<=400)):=by
   grind
  rw[h];cases hpf:Ky f
  ·simp
  ·have a:=Z82 hpf;cases fq f.2.1<;>cases fq f.2.2.1<;>cases fq f.2.2.2.2.2.1<;>cases fq f.2.2.2.2.2.2.1<;>cases fq f.2.2.2.2.2.2.2.1<;>try rfl
   grind
theorem Gc{x:Int}(h:fq x=K4):0<=x/\x<=4611686018427387903:=by simp_all[fq]
theorem Qh2(x:Int):qs x=K2 (K3 (x>=0)&&K3 (x<=999999999),()):=rfl
theorem Qgk(f:Zh)(hl:f.2.2.2.1.length<=1048576):∃r,gw f=K2 (r,())/\rE f=K2 (r,())/\r.length<=2000:=by
 unfold gw gH rE gH;simp only[uK f hl,zf f hl,pA,Qh2];cases hok:Ym f
 ·simp_all
 ·have m:=hok;unfold Ym at m;simp only[pC,decide_eq_true_eq]at m;obtain⟨⟨⟨⟨⟨⟨⟨C,t⟩,u⟩,v⟩,w⟩,y⟩,B⟩,_⟩:=m;have t:=Gc t;have u:=Gc u;have v:=Gc v;have w:=Gc w;have y:=Gc y;have hk:=Hw C;unfold Oy;have p:∀x:Int,0<=x->(K3 (x>=0)&&K3 (x<=999999999))=K3 (x<=999999999):=λx hx=>by simp[hx]
  simp only[p _ t.1,p _ u.1,p _ v.1,p _ w.1,p _ y.1,pI,pH,Ld,pA];cases h1:K3 (f.2.1<=999999999)
  ·simp_all
  cases h2:K3 (f.2.2.1<=999999999)
  ·grind
  cases h3:K3 (f.2.2.2.2.2.1<=999999999)
  ·grind
  cases h4:K3 (f.2.2.2.2.2.2.1<=999999999)
  ·grind
  cases h5:K3 (f.2.2.2.2.2.2.2.1<=999999999)
  ·grind
  obtain⟨k,s,n,i,fin,j,o,g,A,z⟩:=f;simp only at*
  have D:=iM s;have E:=fh s;have P:=Wd s;have F:=iM n;have G:=fh n;have Q:=Wd n;have H:=iM j;have I:=fh j;have S:=Wd j;have J:=iM o;have K:=fh o;have U:=Wd o;have L:=iM g;have M:=fh g;have V:=Wd g;have N:=gQ i hl;have O:=C9 i hl;have W:=Ps i;generalize Lg s=a at*
  generalize Lg n=b at*
  generalize Lg j=c at*
  generalize Lg o=d at*
  generalize Lg g=e at*
  generalize Td i=h at*
  have q:∀l:List Ba,l.length<=100->(L6 l [32]).length<=100000->kD l=K2 (L6 l [32],()):=λl X Y=>by
   grind[kD,zy,Zb]
  simp only[Mw,beq_iff_eq]at hk;rcases hk with(((((((rfl|rfl)|rfl)|rfl)|rfl)|rfl)|rfl)|rfl)|rfl
  all_goals
   cases fin<;>cases A<;>
   (
    simp only[Zz9,Qcq,ql,Jx,Kc,ri,rj,qy,bp,gp,G4,nI,Nq,beq_self_eq_true,
     pI,pH,pG,Mx,Nh,Ld,Lt,pA,D,F,H,J,L,N,E,G,I,K,M,O]
    repeat rw[Zb (by simp only[Li,Lf,Ln,Qd,Z6];omega)]
    rw[q _ (by simp only[Li,Lf,Ln];omega) (by simp only[Mo,Ms,Mi,M0,L1,List.map_nil,List.flatten_cons,List.flatten_nil,Li,Lf,Ln];omega)];refine⟨_,rfl,?_,?_⟩
    ·simp[Mi,M0]
    ·simp only[Li,Lf,Ln];omega)
open Classical in
def PI(s:Ba):Option Int:=if h:∃n:Int,-999999999<=n/\n<=999999999/\s=Lg n then K2 h.choose else Lk
theorem jF(h0: -999999999<=n:=by omega)(h1:n<=999999999:=by omega):PI (Lg n)=K2 n:=by
 unfold PI;have a:∃m:Int,-999999999<=m/\m<=999999999/\Lg n=Lg m:=⟨n,h0,h1,rfl⟩
 rw[dif_pos a]
 grind[Qd4]
theorem HK(s:Ba)(hs:s.length<=1048576:=by omega):qo s=K2 ((PI s).getD 0,(PI s).isSome,())/\dN s=K2 ((PI s).getD 0,(PI s).isSome,()):=by grind[Q17,PI,jF]
def Gn(s:Ba):Int:=(PI s).getD (-1)
theorem D1(s:Ba)(hs:s.length<=1048576:=by omega):tx s=K2 (Gn s,()):=by unfold tx Gn;rw[(HK s hs).1];cases PI s<;>rfl
theorem jE(x:Int):0<=bits .and .i64 x 255/\bits .and .i64 x 255<=255:=by
 have h:bits .and .i64 x 255=Lb.wrap (((Nc 64 x&&&Nc 64 255).toNat:Nat):Int):=rfl
 grind[Nat.and_le_right,Zs]
def Ys(c:Qg):Prop:=c.1.length<=1048576/\0<=c.2.1/\c.2.1<=c.1.length
theorem Qix(code:List Int)(h:code.length<=1048576):∃c,qr code=K2 (c,())/\Ys c:=by
 have a:∀(N:Nat)(x:Int)(i:Nat),i<=code.length->code.length-i<N-> ∃c,ZP N code x (i:Int)=K2 (c,())/\Ys c:=by
  intro N
  induction N with
  |zero=>omega
  |succ N b=>
   intro x i e f;unfold ZP gG;by_cases d:i<code.length/\i<4000
   ·rw[Zl Ae,Zb,Zr d.1];exact b _ (i+1) Aa Aa
   ·rw[Zo Ae];exact⟨_,rfl,h,Lh 0,Ac⟩
 unfold qr;exact a _ _ 0 Aa (by simp[XT])
theorem HS(c:Qg)(h:Ys c):∃x c',aP c=K2 ((x,()),c',())/\Ys c'/\0<=x/\x<=255:=by
 obtain⟨b,d,e⟩:=h;unfold aP gG tN;simp only[];rw[Zb Ah,Zb Ah];by_cases a:c.2.1<(c.1.length:Int)
 ·rw[Zl (Zk a),Zb ⟨d,a⟩,Zs (n:=c.2.1+1)];exact⟨_,_,rfl,⟨b,Ai,Ai⟩,jE _⟩
 ·rw[Zo (Zm a)];exact⟨_,_,rfl,⟨b,d,e⟩,jE _⟩
theorem VQ(c:Qg)(n:Int)(h:Ys c):∃x c',Qm c n=K2 ((x,()),c',())/\Ys c'/\0<=x/\(0<n->x<n):=by
 unfold Qm;by_cases e:n<=0
 ·rw[Zl (Zk e)]
  grind
 ·rw[Zo (Zm e)];by_cases f:n<=256
  ·rw[Zl (Zk f)];obtain⟨x,g,a,b,i,j⟩:=HS c h;rw[a,pA,Zb];exact⟨_,_,rfl,b,Nt n i,λd=>Ns x d⟩
  ·rw[Zo (Zm f)];obtain⟨x,g,a,b,i,j⟩:=HS c h;obtain⟨y,k,l,m,t,v⟩:=HS g b;obtain⟨z,o,p,q,w,A⟩:=HS k m;obtain⟨u,B,r,s,C,D⟩:=HS o q;rw[a,pA,l,pA,p,pA,r,pA,Zb];simp only[];rw[Zs (n:=x*16777216),Zs (n:=y*65536),Zs (n:=x*16777216+y*65536),Zs (n:=z*256),Zs (n:=x*16777216+y*65536+z*256),Zs (n:=x*16777216+y*65536+z*256+u)];exact⟨_,_,rfl,s,Nt n Aa,λd=>Ns _ d⟩
theorem Qnu(c:Qg)(l:List Int)(h:Ys c)(hl:0<l.length):∃x c',Js c l=K2 ((x,()),c',())/\Ys c'/\x∈l:=by
 unfold Js gG;obtain⟨x,a,b,d,e,f⟩:=VQ c (l.length:Int) h
 grind(splits:=20)[Zb]
def kd(r:Zi):Bool:=(K3 (r.1>=(0:Int))&&K3 (r.1<r.2.1))&&K3 (r.2.1<=(4611686018427387903:Int))
theorem T6(r:Zi):By r=K2 (kd r,()):=rfl
theorem Xo{r:Zi}:kd r=K4↔0<=r.1/\r.1<r.2.1/\r.2.1<=4611686018427387903:=by grind[kd]
def CQ:Int->List Zi->Bool|_,[]=>K4|lo,r::l=>kd r&&K3 (lo<r.1)&&CQ r.2.1 l
theorem Zqi:∀(N:Nat)(pre rest:List Zi)(lo:Int),(pre++rest).length<=1048576->rest<N->(pre=[]->lo<0)->(∀q x,pre=q++[x]->lo=x.2.1)->
  du N (pre++rest) pre=K2 (CQ lo rest,())
 |0,_,_,_,_,h,_,_=>Aa
 |N+1,pre,[],lo,k,g,i,j=>by
  unfold du;rw[Zo Ac];rfl
 |N+1,pre,r::rest,lo,k,g,i,j=>by
  have a:(pre++r::rest).length=pre+rest+1:=Ae
  simp only[Lf]at g;unfold du;rw[Zl (Zk (by rw[a];omega)),Zb (by rw[a];omega),am,T6,pA];have f:=Zqi N (pre++[r]) rest r.2.1 Ae Aa Ac (λq x e=>by
   simp_all)
  have l:((pre++[r]):Int)=((pre+1:Nat):Int):=Ac
  rw[l]at f;rw[show(pre++[r])++rest=pre++r::rest by simp]at f;rw[Zb (λ_ h=>by
   grind[Zs]),Zb (λ_ _=>by rw[a];omega),Zr (m:=pre+1),f]
  simp only[CQ];cases hf:kd r
  ·rfl
  ·rcases List.eq_nil_or_concat pre with b|⟨q,x,b⟩
   ·subst b;have c:=i rfl;have o:=Xo.1 hf;rw[Zo Ac]
    grind
   ·rw[List.concat_eq_append]at b;have c:=j q x b;have n:(pre++r::rest).getD (Lb.wrap (pre-1)).toNat Z4=x:=by
     rw[Zs];have e:((pre:Int)-1).toNat=q:=by rw[b];simp
     rw[e,b,Mn]
     grind
    rw[n,<-c];have d:K3 ((pre:Int)>0)=true:=Zk (by rw[b];simp);rw[d];by_cases p:lo<r.1
    all_goals grind
theorem fN(l:List Zi)(hl:l.length<=1048576:=by omega):Wk l=K2 (CQ (-1) l,()):=by unfold Wk;exact Zqi _ [] l (-1) (by simpa using hl) (by simp[fS]) (λ_=>Aa) (λq x e=>by simp at e)
theorem jb{r:Zi}{l:List Zi}:CQ lo (r::l)=K4↔kd r=K4/\lo<r.1/\CQ r.2.1 l=true:=by simp[CQ,and_assoc]
theorem Ce:∀{l:List Zi}{lo lo':Int},CQ lo l=K4->lo'<=lo->CQ lo' l=K4
 |[],_,_,_,_=>rfl
 |r::l,lo,lo',h,a=>by
  grind[jb]
theorem xI:∀{l:List Zi}{lo:Int},CQ lo l=K4-> ∀x∈l,lo<x.1/\kd x=K4
 |[],_,_,x,hx=>by cases hx
 |r::l,lo,h,x,hx=>by
  rw[jb]at h;have a:=Xo.1 h.1;rcases Ls.1 hx with rfl|hx
  ·simp_all
  ·have:=xI h.2.2 x hx
   grind
theorem Qkd:∀{l:List Zi}{lo E:Int},CQ lo l=K4->(∀x∈l,x.2.1<=E)->lo<=E->l<=E-lo
 |[],lo,E,_,_,a=>Ae
 |r::l,lo,E,h,a,_=>by
  rw[jb]at h;have b:=Xo.1 h.1;have:=Qkd (E:=E) h.2.2 (λx hx=>a x (by simp[hx])) (a r Ac)
  grind
def pz:List Zi->Zi->List Zi|[],r=>[r]|x::l,r=>ite (x.2.1<r.1) (x::pz l r) (ite (x.1>r.2.1) (r::x::l) (pz l (min r.1 x.1,max r.2.1 x.2.1,())))
theorem Dl(l:List Zi)(hl:l.length<=1048576):tz l=K2 (l,()):=by grind[tz,Zb,Qd]
theorem Zzf:∀(N:Nat)(pre rest:List Zi)(r:Zi)(out:List Zi),(pre++rest).length<=1048576->rest<N->out<=pre.length+1->r.1<r.2.1->(∀x∈rest,r.2.1<x.1/\x.1<x.2.1)->
  Jf N (pre++rest) r out K4 pre=K2 (out++rest,())
 |0,_,_,_,_,_,h,_,_,_=>Aa
 |N+1,pre,[],r,out,d,b,e,c,hx=>by
  simp_all[Jf]
 |N+1,pre,x::rest,r,out,d,b,e,c,hx=>by
  have a:(pre++x::rest).length=pre+rest+1:=Ae
  simp only[Lf]at b;have f:=hx x Ac;unfold Jf;rw[Zl (Zk (by rw[a];omega)),Zb (by rw[a];omega),am,Zo (Zm),Zb (by rw[a];omega),Zl (Zk),Zo (by rfl)];unfold se gG gL dg;rw[Zb (by rw[a];omega),am,Zb Aj,Zr (m:=pre+1)];have i:=Zzf N (pre++[x]) rest r (out++[x]) Ae Aa Ae c (λy g=>hx y (by simp[g]));simp_all
theorem AD:∀(N:Nat)(pre rest:List Zi)(r:Zi)(out:List Zi)(lo:Int),(pre++rest).length<=1048576->rest<N->out<=pre.length->r.1<r.2.1->CQ lo rest=K4->
  Jf N (pre++rest) r out Lc pre=K2 (out++pz rest r,())
 |0,_,_,_,_,_,_,h,_,_,_=>Aa
 |N+1,pre,[],r,out,lo,j,k,n,f,hx=>by
  simp only[M3]at j;unfold Jf;rw[Zo Ac,Zl (by rfl),Zb Aj];rfl
 |N+1,pre,x::rest,r,out,lo,j,k,n,f,hx=>by
  have a:(pre++x::rest).length=pre+rest+1:=Ae
  simp only[Lf]at k;obtain⟨l,o,b⟩:=jb.1 hx;have l:=Xo.1 l;unfold Jf;rw[Zl (Zk (by rw[a];omega)),Zb (by rw[a];omega),am];have g:(pre++[x])++rest=pre++x::rest:=Ac
  have i:((pre++[x]):Int)=((pre+1:Nat):Int):=Ac
  by_cases d:x.2.1<r.1
  ·rw[Zl (Zk d),Zb (by rw[a];omega),Zb Aj];unfold dg;have c:=AD N (pre++[x]) rest r (out++[x]) _ Ae Aa Ae f b;rw[g,i]at c;rw[Zr (m:=pre+1)];simp_all[pz]
  ·rw[Zo (Zm d),Zb (by rw[a];omega)];by_cases e:x.1>r.2.1
   ·rw[Zl (Zk e),Zl (by rfl),Zb Aj];unfold se gG gL dg;rw[Zb (by rw[a];omega),am,Zb Aj,Zr (m:=pre+1)];have c:=Zzf N (pre++[x]) rest r (out++[r]++[x]) Ae Aa Ae f (λy p=>by
     have:=xI b y p
     grind[Xo])
    rw[g,i]at c;simp only[c,pz,d,e,if_true,if_false];simp
   ·rw[Zo (Zm e),Zb (by rw[a];omega),Zb (by rw[a];omega)];unfold dg;have c:=AD N (pre++[x]) rest (min r.1 x.1,max r.2.1 x.2.1,r.2.2) out _ Ae Aa Ae Ag b;rw[g,i]at c;rw[Zr (m:=pre+1)];simp only[c,pz,d,e,if_false]
theorem og(l:List Zi)(r:Zi)(hl:l.length<=1048576:=by omega):dO l r=K2 (ite (CQ (-1) l=K4/\kd r=K4) (pz l r) l,()):=by
 unfold dO gH;rw[fN l hl,pA];cases h1:CQ (-1) l
 ·simp[Dl l hl]
 ·simp only[pI,pH,T6,pA,Ld];cases h2:kd r
  ·simp[Dl l hl]
  ·have a:=Xo.1 h2;have:=AD (mY l r [] Lc 0) [] l r [] (-1) (by simpa using hl) (by simp[mY]) Ac Aa h1;simp_all
def RL(E:Int)(l:List Zi):Prop:=CQ (-1) l=K4/\ ∀x∈l,x.2.1<=E
theorem H7:∀{l:List Zi}{lo:Int}{r:Zi},CQ lo l=K4->kd r=K4->lo<r.1->CQ lo (pz l r)=K4
 |[],lo,r,_,b,e=>by simp_all[pz,CQ]
 |x::l,lo,r,f,b,e=>by
  obtain⟨d,c,a⟩:=jb.1 f;have hx:=Xo.1 d;have g:=Xo.1 b;unfold pz;split
  ·exact jb.2 ⟨d,c,H7 a b Aa⟩
  ·split
   ·simp_all[jb]
   ·exact H7 (Ce a Aa) (Xo.2 Ag) Ag
theorem LU{E:Int}:∀{l:List Zi}{r:Zi},(∀x∈l,x.2.1<=E)->r.2.1<=E-> ∀x∈pz l r,x.2.1<=E
 |[],r,_,h,x,hx=>by simp_all[pz]
 |y::l,r,b,h,x,hx=>by
  have c:=b y Ac;have a:∀x∈l,x.2.1<=E:=λx hx=>b x (by simp[hx]);unfold pz at hx;split at hx
  ·rcases Ls.1 hx with rfl|hx
   ·exact c
   ·exact LU a h x hx
  ·split at hx
   ·grind
   ·exact LU a Ag x hx
theorem RP:∀{l:List Zi}{r:Zi},(pz l r)<=l.length+1
 |[],r=>by simp[pz]
 |y::l,r=>by
  unfold pz;split
  ·have:=RP (l:=l) (r:=r);simp_all
  ·split
   ·simp
   ·have:=RP (l:=l) (r:=(min r.1 y.1,max r.2.1 y.2.1,()));grind
theorem AJ{l:List Zi}{r:Zi}(h:RL E l)(hr:r.2.1<=E):RL E (ite (CQ (-1) l=K4/\kd r=K4) (pz l r) l):=by
 split
 ·rename_i a;have:=Xo.1 a.2;exact⟨H7 a.1 a.2 Aa,LU h.2 hr⟩
 ·exact h
theorem OL{E':Int}{l:List Zi}(h:RL E l)(he:E<=E':=by omega):RL E' l:=⟨h.1,λx hx=>Int.le_trans (h.2 x hx) he⟩
theorem Qv4{l:List Zi}(h:RL E l)(hE: -1<=E):l<=E+1:=by have:=Qkd h.1 h.2 hE;omega
def Gy(r x:Zi):List Zi:=(ite (x.1<min x.2.1 r.1) [(x.1,min x.2.1 r.1,())] [])++(ite (max x.1 r.2.1<x.2.1) [(max x.1 r.2.1,x.2.1,())] [])
def Rv(r:Zi):List Zi->List Zi|[]=>[]|x::l=>Gy r x++Rv r l
theorem AG:∀(N:Nat)(pre rest:List Zi)(r:Zi)(out:List Zi),(pre++rest).length<=1048576->rest.length<N->out.length<=2*pre.length->
  Ws N (pre++rest) r out (pre.length:Int)=K2 (out++Rv r rest,())
 |0,_,_,_,_,_,h,_=>Aa
 |N+1,pre,[],r,out,e,c,f=>by
  simp_all[Ws,Rv]
 |N+1,pre,x::rest,r,out,e,c,f=>by
  have b:(pre++x::rest).length=pre.length+rest.length+1:=Ae
  simp only[Lf]at c;have g:∀{ρ:Type}(m:Option ρ),Zd (0<=(pre.length:Int)/\(pre.length:Int)<((pre++x::rest).length:Int)) m=m:=λm=>Zb (by rw[b];omega);have k:(pre++[x])++rest=pre++x::rest:=Ac
  have l:((pre++[x]).length:Int)=((pre.length+1:Nat):Int):=Ac
  have d:∀a:List Zi,a.length<=2*pre.length+1->kS (λv=>Ws N v.1 v.2.1 v.2.2.1 v.2.2.2.1) (pre++x::rest) r a (pre.length:Int)=K2 (a++(ite (max x.1 r.2.1<x.2.1) [(max x.1 r.2.1,x.2.1,())] [])++Rv r rest,()):=by
   intro a i;unfold kS gG gL rl;simp only[g,am];rw[Zr (m:=pre.length+1)];by_cases h:max x.1 r.2.1<x.2.1
   ·rw[Zl (Zk h),if_pos h,Zb Aj];have j:=AG N (pre++[x]) rest r (a++[(max x.1 r.2.1,x.2.1,())]) Ae Aa Ae;simp_all
   ·rw[Zo (Zm h),if_neg h];have j:=AG N (pre++[x]) rest r a Ae Aa Ae;simp_all
  unfold Ws;rw[Zl (Zk (by rw[b];omega))];simp only[g,am];by_cases h:x.1<min x.2.1 r.1
  ·rw[Zl (Zk h),Zb Aj,d _ Ae];simp[Rv,Gy,h]
  ·rw[Zo (Zm h),d _ Aa];simp[Rv,Gy,h]
theorem YG(l:List Zi)(r:Zi)(hl:l.length<=1048576:=by omega):mm l r=K2 (ite (CQ (-1) l=K4/\kd r=K4) (Rv r l) l,()):=by
 unfold mm gH;rw[fN l hl,pA];cases h1:CQ (-1) l
 ·simp[Dl l hl]
 ·simp only[pI,pH,T6,pA,Ld];cases h2:kd r
  ·simp[Dl l hl]
  ·have:=AG (iL l r [] 0) [] l r [] (by simpa using hl) (by simp[iL]) Ac;simp_all
theorem Qj9{r:Zi}(hr:kd r=K4):∀{l:List Zi}{lo:Int},CQ lo l=K4->CQ lo (Rv r l)=K4
 |[],lo,_=>rfl
 |x::l,lo,c=>by
  obtain⟨d,e,a⟩:=jb.1 c;have hx:=Xo.1 d;have hr:=Xo.1 hr;have f:=λb h=>Qj9 (r:=r) (Xo.2 hr) (l:=l) (lo:=b) (Ce a h)
  grind[Rv,Gy,jb,Xo]
theorem Z89{E:Int}{r:Zi}:∀{l:List Zi},(∀x∈l,x.2.1<=E)-> ∀x∈Rv r l,x.2.1<=E
 |[],_,x,hx=>by simp[Rv]at hx
 |y::l,a,x,hx=>by
  have b:=a y Ac;unfold Rv Gy at hx;simp only[L4]at hx;rcases hx with(hx|hx)|hx
  ·grind
  ·simp_all
  ·exact Z89 (λx hx=>a x (by simp[hx])) x hx
theorem CG{l:List Zi}{r:Zi}(h:RL E l):RL E (ite (CQ (-1) l=K4/\kd r=K4) (Rv r l) l):=by
 split
 ·rename_i a;exact⟨Qj9 a.2 a.1,Z89 h.2⟩
 ·exact h
def vG(a b:Zi):List Zi:=ite (max a.1 b.1<min a.2.1 b.2.1) [(max a.1 b.1,min a.2.1 b.2.1,())] []
theorem jH(K1:(List Zi×List Zi×List Zi×Int×Unit)->Oa (List Zi))(a:List Zi)(i:Nat)(hi:i<a.length):∀(N:Nat)(pre rest:List Zi)(out:List Zi),(pre++rest).length<=1000->rest.length<N->out.length+rest.length<=10000000000->
  di K1 N a (pre++rest) out (i:Int) (pre.length:Int)=K1 (a,pre++rest,out++rest.flatMap (vG (a.getD i Z4)),Lb.wrap ((i:Int)+1),())
 |0,_,_,_,_,h,_=>Aa
 |N+1,pre,[],out,e,c,d=>by
  simp_all[di]
 |N+1,pre,x::rest,out,e,c,d=>by
  have b:(pre++x::rest).length=pre.length+rest.length+1:=Ae
  simp only[Lf]at c d;have g:∀{ρ:Type}(m:Option ρ),Zd (0<=(pre.length:Int)/\(pre.length:Int)<((pre++x::rest).length:Int)) m=m:=λm=>Zb (by rw[b];omega);have f:∀{ρ:Type}(m:Option ρ),Zd (0<=(i:Int)/\(i:Int)<(a.length:Int)) m=m:=λm=>Zb;have k:(pre++[x])++rest=pre++x::rest:=Ac
  have l:((pre++[x]).length:Int)=((pre.length+1:Nat):Int):=Ac
  unfold di;rw[Zl (Zk (by rw[b];omega))];simp only[g,f,am,Xm];rw[show(i:Int).toNat=i from rfl];unfold yB o0;simp only;rw[Zr (m:=pre.length+1)];by_cases h:max (a.getD i Z4).1 x.1<min (a.getD i Z4).2.1 x.2.1
  ·rw[Zl (Zk h),Zb Aj];have j:=jH K1 a i hi N (pre++[x]) rest (out++[(max (a.getD i Z4).1 x.1,min (a.getD i Z4).2.1 x.2.1,())]) Ae Aa Ae;simp_all[vG]
  ·rw[Zo (Zm h)];have j:=jH K1 a i hi N (pre++[x]) rest out Ae Aa Aa;simp_all[vG,if_neg]
theorem Qc6(a b:Zi):(vG a b).length<=1:=by grind[vG]
theorem tq{α β:Type}{f:α->List β}{k:Nat}(hf:∀x,(f x).length<=k):∀l:List α,(l.flatMap f).length<=k*l.length
 |[]=>Ac
 |x::l=>by
  have:=tq hf l
  grind[M8]
theorem Z3g(b:List Zi)(hb:b.length<=1000):∀(N:Nat)(pre rest:List Zi)(out:List Zi),(pre++rest).length<=1048576->rest.length<N->out.length<=1000*pre.length->
  aE N (pre++rest) b out (pre.length:Int)=K2 (out++(ite (CQ (-1) (pre++rest)=K4/\CQ (-1) b=K4) (rest.flatMap λa=>b.flatMap (vG a)) []),())
 |0,_,_,_,_,h,_=>Aa
 |N+1,pre,[],out,e,d,f=>by
  simp_all[aE]
 |N+1,pre,x::rest,out,e,d,f=>by
  have c:(pre++x::rest).length=pre.length+rest.length+1:=Ae
  simp only[Lf]at d;unfold aE;have g:K3 ((pre.length:Int)<((pre++x::rest).length:Int))=true:=Zk (by rw[c];omega);rw[g,fN _,fN b];simp only[pG,pA,pJ];cases h1:CQ (-1) (pre++x::rest)
  ·simp
  cases h2:CQ (-1) b
  ·simp
  simp only[pG,pA,Lt,and_self,if_true];have hx:(pre++x::rest).getD pre.length Z4=x:=am pre x rest Z4;have h:=jH (λv=>aE N v.1 v.2.1 v.2.2.1 v.2.2.2.1) (pre++x::rest) pre.length (by rw[c];omega) (fC (pre++x::rest) b out (pre.length:Int) 0) [] b out (by simpa using hb) (by simp[fC]) Aa;refine Lz h ?_;rw[hx,Zr (m:=pre.length+1)];have i:=tq (λy=>Qc6 x y) b;have j:=Z3g b hb N (pre++[x]) rest (out++b.flatMap (vG x)) Ae Aa Ai;simp_all
theorem AA(a b:List Zi)(ha:a.length<=1048576)(hb:b.length<=1000):d7 a b=K2 (ite (CQ (-1) a=K4/\CQ (-1) b=K4) (a.flatMap λx=>b.flatMap (vG x)) [],()):=by have:=Z3g b hb (fB a b [] 0) [] a [] (by simpa using ha) (by simp[fB]) Ac;simp_all[d7]
def VN(r:Xc):Bool:=match dv r with|some (b,_)=>b|none=>Lc
theorem Zz4(r:Xc):∀(N i:Nat),r.2.2.2.1.length<=1048576->r.2.2.2.1-i<N->i<=r.2.2.2.1->
  ∃b,mL N r (i:Int)=K2 (b,())/\(b=K4-> ∀j,i<=j->j<r.2.2.2.1->0<=r.2.2.2.1.getD j 0/\r.2.2.2.1.getD j 0<=255)
 |0,_,_,h,_=>Aa
 |N+1,i,a,f,g=>by
  unfold mL;by_cases h:i<r.2.2.2.1
  ·rw[Zl (Zk),Zb,show(i:Int).toNat=i from rfl];have c:Z9 (r.2.2.2.1.getD i 0) 0 255=K2 (K3 (r.2.2.2.1.getD i 0>=0)&&K3 (r.2.2.2.1.getD i 0<=255),()):=rfl;rw[c,pA,Zr h];obtain⟨b,d,k⟩:=Zz4 r N (i+1) a Aa Aa;cases hc:K3 (r.2.2.2.1.getD i 0>=0)&&K3 (r.2.2.2.1.getD i 0<=255)
   ·simp_all
   ·simp only[pC,decide_eq_true_eq]at hc;refine⟨b,d,λl j m e=>?_⟩
    grind
  ·rw[Zo (Zm)]
   grind
theorem Gm(r:Xc)(hl:r.2.2.2.1.length<=1048576):dv r=K2 (VN r,())/\(VN r=K4->(0<r.1/\r.1<=64)/\r.2.2.2.1=r.1/\0<=r.2.1/\r.2.1<=r.2.2.1/\r.2.2.1-r.2.1<=r.1/\r.2.2.1<=4611686018427387903/\
  ∀j,j<r.2.2.2.1.length->0<=r.2.2.2.1.getD j 0/\r.2.2.2.1.getD j 0<=255):=by
 have d:∃b,dv r=K2 (b,())/\(b=K4->(0<r.1/\r.1<=64)/\r.2.2.2.1=r.1/\0<=r.2.1/\r.2.1<=r.2.2.1/\r.2.2.1-r.2.1<=r.1/\r.2.2.1<=4611686018427387903/\
   ∀j,j<r.2.2.2.1.length->0<=r.2.2.2.1.getD j 0/\r.2.2.2.1.getD j 0<=255):=by
  unfold dv eF;simp only[pA];generalize e:(((K3 (r.1>(0:Int)))&&(K3 (r.1<=(64:Int))))&&((bits .and .i64 r.1 (Lb.wrap (r.1- (1:Int))))==(0:Int)))=p;generalize a:((((((!p)||(r.2.2.2.1 !=r.1))||(K3 (r.2.1<(0:Int))))||(K3 (r.2.2.1<r.2.1)))||(K3 ((Lb.wrap (r.2.2.1-r.2.1))>r.1)))||(K3 (r.2.2.1>(4611686018427387903:Int))))=c;cases c
  ·simp only[Lp,L2,decide_eq_false_iff_not,bne_eq_false_iff_eq]at a;obtain⟨⟨⟨⟨⟨f,h⟩,i⟩,k⟩,g⟩,l⟩:=a;subst f;simp only[pC,decide_eq_true_eq]at e;rw[Zs]at g;obtain⟨b,m,n⟩:=Zz4 r (bt r 0) 0 hl (by simp[bt]) Aa;simp_all
  simp_all
 grind[VN]
theorem Er(r:Xc)(hl:r.2.2.2.1.length<=1048576):YM r=K2 (r,()):=by grind[YM,Zb,Qd]
theorem R5{x:Int}(hx:0<=x)(hn:0<n):0<=Lw x n/\Lw x n<n:=by rw[Int.tmod_eq_emod_of_nonneg hx];exact⟨Int.emod_nonneg _ Aa,Int.emod_lt_of_pos _ hn⟩
theorem Zn5(d:Ba)(r t4:Xc)(hr:0<r.1)(hE:0<=r.2.2.1)(hd:d.length<=1048576)(n:Nat)(hE2:r.2.2.1+n<=4611686018427387903)(hn:n<=d):
  ∀(N i:Nat)(x:Xc),x.2.2.2.1=r.1->n-i<N->i<=n->
   ∃cs,Jr N d r t4 x (n:Int) (i:Int)=K2 ((x.1,x.2.1,Lb.wrap (r.2.2.1+n),cs,x.2.2.2.2),(n:Int),())/\cs=x.2.2.2.1.length
 |0,_,_,_,h,_=>Aa
 |N+1,i,x,hx,a,b=>by
  unfold Jr;by_cases h:i<n
  ·have c:=R5 (x:=r.2.2.1+(i:Int)) (n:=r.1) Aa hr;rw[Zl (Zk),Zb,Zs];simp only;rw[Zb,Zb,Zr (m:=n) h];obtain⟨cs,e,f⟩:=Zn5 d r t4 hr hE hd n hE2 hn N (i+1) (x.1,x.2.1,x.2.2.1,x.2.2.2.1.set (Lw (r.2.2.1+(i:Int)) r.1).toNat (Lb.wrap ((d.getD (i:Int).toNat 0).toNat:Int)),x.2.2.2.2) Af Aa Aa;simp_all
  grind
theorem Z9s(r:Xc)(d:Ba)(hl:r.2.2.2.1.length<=1048576)(hd:d.length<=1048576)(hE:0<=r.2.2.1)(hE2:r.2.2.1<=4611686018427387903:=by omega):
  ∃cs,∃n:Nat,jl r d=K2 ((r.1,r.2.1,r.2.2.1+n,cs,()),(n:Int),())/\n<=d/\cs=r.2.2.2.1.length/\r.2.2.1+n<=4611686018427387903:=by
 obtain⟨a,b⟩:=Gm r hl;unfold jl yF;rw[Er r hl,a];simp only[pA];cases hb:VN r
 ·simp only[Ll,pG,pA];rw[show min (0:Int) d=0 by omega];refine⟨r.2.2.2.1,0,?_,Aa,rfl,by simpa using hE2⟩;show Jr 1 d r _ r 0 0=_;unfold Jr;rw[Zo Ah]
  grind[Zs]
 ·obtain⟨⟨c,i⟩,e,j,k,l,m,o⟩:=b hb;simp only[pI,pH,pA];rw[show Lb.wrap (r.2.2.1-r.2.1)=r.2.2.1-r.2.1 from Zs,Zs,Zs];obtain⟨n,f⟩:∃n:Nat,min (min (r.1- (r.2.2.1-r.2.1)) (4611686018427387903-r.2.2.1)) d=(n:Int):=⟨(min (min (r.1- (r.2.2.1-r.2.1)) (4611686018427387903-r.2.2.1)) d).toNat,Aa⟩
  rw[f];obtain⟨cs,g,h⟩:=Zn5 d r ((0:Int),(0:Int),(0:Int),([]:List Int),()) c hE hd n Aa Aa (lx d r ((0:Int),(0:Int),(0:Int),([]:List Int),()) r (n:Int) 0) 0 r e (by simp[lx]) Aa;refine⟨cs,n,?_,Aa,h,Aa⟩;refine Lz g ?_
  grind[Zs]
theorem HD(n:Int):∃s,fe n=K2 (s,())/\s.length<=1:=by
 unfold fe sl;generalize bits .and .i64 n (255:Int)=m;rw[show Z9 1 1 7=K2 (K4,())from rfl];simp only[pA,pI,Ld];by_cases h:m<0
 ·simp_all
 ·rw[Zo (Zm h)];show ∃s,Le (Y1 2 m 1 [] 0) _=_/\_;unfold Y1;rw[Zl Ah,Zb Ah];simp only;rw[Zb (by simp[Z6,Qb]),Zb Ah];unfold Y1;rw[show Lb.wrap ((0:Int)+1)=1 from rfl,Zo Ah];cases K3 (Lb.wrap (L0 m 256)>0)
  all_goals simp_all[Qb]
theorem Zqo(o n:Nat)(r:Xc)(hr:0<r.1)(hl:r.2.2.2.1=r.1)(ho:o+n<=4611686018427387903)(hn:n<=64):∀(N i:Nat)(s:Ba),n-i<N->i<=n->s<=i->
  ∃t,ii N (o:Int) (n:Int) r s (i:Int)=K2 (t,K4,())/\t<=n
 |0,_,_,h,_,_=>Aa
 |N+1,i,s,b,c,d=>by
  unfold ii;by_cases h:i<n
  ·have e:=R5 (x:=(o:Int)+(i:Int)) (n:=r.1) Aa hr;rw[Zl (Zk),Zb,Zs];simp only;rw[Zb];obtain⟨t,a,f⟩:=HD (r.2.2.2.1.getD (Lw ((o:Int)+(i:Int)) r.1).toNat 0);rw[a,pA,Zb Ak,Zr (m:=n) h];exact Zqo o n r hr hl ho hn N (i+1) (s++t) Aa Aa Ae
  grind
theorem Qps(r:Xc)(o n:Int)(hl:r.2.2.2.1.length<=1048576):∃t ok,lN r o n=K2 (t,ok,())/\t<=max n 0/\t.length<=64:=by
 obtain⟨d,e⟩:=Gm r hl;unfold lN;rw[d,pA];generalize b:(((((!VN r)||(K3 (o<r.2.1)))||(K3 (n<(0:Int))))||(K3 (o>r.2.2.1)))||(K3 (n>(Lb.wrap (r.2.2.1-o)))))=c;cases c
 ·simp only[Lp,L2,decide_eq_false_iff_not]at b;obtain⟨⟨⟨⟨f,j⟩,k⟩,l⟩,g⟩:=b;obtain⟨⟨h,m⟩,i,p,q,s,u,v⟩:=e f;rw[Zs]at g;obtain⟨o,rfl⟩:=Lu (a:=o) Aa;obtain⟨n,rfl⟩:=Lu (a:=n) Aa;obtain⟨t,w,x⟩:=Zqo o n r h i Aa Aa (fU (o:Int) (n:Int) r [] 0) 0 [] (by simp[fU]) Aa Ac
  grind
 grind
theorem Zqe(dt:Nat)(r t4:Xc)(hr:0<r.1)(hdt:dt<=4611686018427387903):∀(N i:Nat)(x:Xc),x.2.2.2.1=r.1->dt-i<N->i<=dt->
  ∃cs,gu N (dt:Int) r t4 x (i:Int)=K2 ((x.1,(dt:Int),x.2.2.1,cs,x.2.2.2.2),K4,())/\cs=x.2.2.2.1.length
 |0,_,_,_,h,_=>Aa
 |N+1,i,x,hx,a,b=>by
  unfold gu;by_cases h:i<dt
  ·have c:=R5 (x:=(i:Int)) (n:=r.1) Aa hr;rw[Zl (Zk),Zb,Zb,Zr (m:=dt) h];obtain⟨cs,d,e⟩:=Zqe dt r t4 hr hdt N (i+1) (x.1,x.2.1,x.2.2.1,x.2.2.2.1.set (Lw (i:Int) r.1).toNat (0:Int),x.2.2.2.2) Af Aa Aa;simp_all
  grind
theorem Qnz(r:Xc)(dt:Int)(hl:r.2.2.2.1.length<=1048576):∃cs b ok,qh r dt=K2 ((r.1,b,r.2.2.1,cs,()),ok,())/\cs=r.2.2.2.1.length:=by
 obtain⟨g,h⟩:=Gm r hl;unfold qh;rw[Er r hl,g];simp only[pA];generalize e:(((!VN r)||(K3 (dt<r.2.1)))||(K3 (dt>r.2.2.1)))=c;cases c
 ·simp only[Lp,L2,decide_eq_false_iff_not]at e;obtain⟨⟨i,n⟩,o⟩:=e;obtain⟨⟨j,p⟩,k,q,s,t,u,v⟩:=h i;obtain⟨dt,rfl⟩:=Lu (a:=dt) Aa;obtain⟨l,d⟩:=Lu (a:=r.2.1) Aa;obtain⟨cs,f,m⟩:=Zqe dt r ((0:Int),(0:Int),(0:Int),([]:List Int),()) j Aa (m7 (dt:Int) r ((0:Int),(0:Int),(0:Int),([]:List Int),()) r r.2.1) l r k (by grind[m7]) Aa;rw[<-d]at f;exact⟨cs,dt,K4,f,m⟩
 grind
def n8:List Zi->Int->Int|[],f=>f|x::l,f=>n8 l (ite (x.1<=f/\f<x.2.1) x.2.1 f)
theorem Z8g:∀(N:Nat)(pre rest:List Zi)(f:Int),(pre++rest).length<=1048576->rest.length<N->a9 N (pre++rest) f (pre.length:Int)=K2 (n8 rest f,())
 |0,_,_,_,_,h=>Aa
 |N+1,pre,[],f,c,b=>by
  unfold a9;rw[Zo Ac];rfl
 |N+1,pre,x::rest,f,c,b=>by
  have a:(pre++x::rest).length=pre.length+rest.length+1:=Ae
  simp only[Lf]at b;have g:∀{ρ:Type}(m:Option ρ),Zd (0<=(pre.length:Int)/\(pre.length:Int)<((pre++x::rest).length:Int)) m=m:=λm=>Zb (by rw[a];omega);have d:(pre++[x])++rest=pre++x::rest:=Ac
  have e:((pre++[x]).length:Int)=((pre.length+1:Nat):Int):=Ac
  unfold a9 sn;rw[Zl (Zk (by rw[a];omega))];simp only[g,am];rw[Zb (λ_=>by rw[a];omega),Zr (m:=pre.length+1)];have i:=λf=>Z8g N (pre++[x]) rest f Ae Aa;simp only[d,e]at i;by_cases h:x.1<=f/\f<x.2.1
  all_goals simp_all[n8,Zo,if_neg]
theorem l9(l:List Zi)(f:Int)(hl:l.length<=1048576:=by omega):qk l f=K2 (ite (CQ (-1) l=K4/\0<=f) (n8 l f) (-1),()):=by
 unfold qk;rw[fN l hl,pA];cases h1:CQ (-1) l
 ·simp
 ·by_cases a:f<0
  ·grind
  ·rw[Zo Ae,if_pos ⟨rfl,Aa⟩];exact Z8g _ [] l f (by simpa using hl) (by simp[xk])
def jt:List Zi->Int|[]=>0|x::l=>(x.2.1-x.1)+jt l
theorem Qc5:∀(N:Nat)(pre rest:List Zi)(lo n:Int),(pre++rest).length<=1048576->rest.length<N->CQ lo rest=K4->0<=n->n<=max lo 0->n<=4611686018427387903->Vx N (pre++rest) n (pre.length:Int)=K2 (n+jt rest,())
 |0,_,_,_,_,_,h,_,_,_,_=>Aa
 |N+1,pre,[],lo,n,e,c,_,_,_,_=>by
  simp_all[Vx,jt]
 |N+1,pre,x::rest,lo,n,e,c,hx,i,j,k=>by
  have a:(pre++x::rest).length=pre.length+rest.length+1:=Ae
  simp only[Lf]at c;obtain⟨d,f,b⟩:=jb.1 hx;have d:=Xo.1 d;have g:∀{ρ:Type}(m:Option ρ),Zd (0<=(pre.length:Int)/\(pre.length:Int)<((pre++x::rest).length:Int)) m=m:=λm=>Zb (by rw[a];omega);unfold Vx;rw[Zl (Zk (by rw[a];omega))];simp only[g,am];rw[Zr (m:=pre.length+1),show Lb.wrap (n+x.2.1)=n+x.2.1 from Zs,Zs];have l:=Qc5 N (pre++[x]) rest x.2.1 (n+x.2.1-x.1) Ae Aa b Aa Aa Aa
  grind[jt]
theorem ix(l:List Zi)(hl:l.length<=1048576:=by omega):W3 l=K2 (ite (CQ (-1) l=K4) (jt l) (-1),()):=by
 unfold W3;rw[fN l hl,pA];cases h1:CQ (-1) l
 ·simp
 ·have:=Qc5 (fD l 0 0) [] l (-1) 0 (by simpa using hl) (by simp[fD]) h1 Aa Aa Aa;simp_all
abbrev Do(s:Zn):Int:=s.2.1.2.2.1
structure Wt(K:Int)(s:Zn):Prop where
 cells:s.2.1.2.2.2.1.length<=64
 e0:0<=s.2.1.2.2.1
 eK:s.2.1.2.2.1<=K
 pend:RL s.2.1.2.2.1 s.2.2.1
 pT:RL s.2.1.2.2.1 s.2.2.2.1
 pO:RL s.2.1.2.2.1 s.2.2.2.2.1
theorem Wt.mono{K K':Int}{s:Zn}(h:Wt K s)(hK:K<=K'):Wt K' s:={h with eK:=Int.le_trans h.eK hK}
theorem Q0{K:Int}{l:List Zi}(h:RL E l)(h0:0<=E)(hE:E<=K)(hK:K<=1000000:=by omega):l.length<=1000001:=by have:=Qv4 h Aa;omega
theorem Z5{l:List α}{d:α}(h:i<l.length:=by omega):l.getD i d∈l:=by simp_all
theorem xd{K:Int}{s:Zn}(h:Wt K s)(hK:K<=1000000:=by omega):js s=K2 (s,()):=by unfold js;rw[Er _ (by have:=h.cells;omega),Dl _ (Lx (Q0 h.pend h.e0 h.eK hK) Aa),pA,Dl _ (Lx (Q0 h.pT h.e0 h.eK hK) Aa),pA,pA,Dl _ (Lx (Q0 h.pO h.e0 h.eK hK) Aa),pA]
theorem Tu(s:Zn):∃k,eG s=K2 (k,()):=by
 unfold eG
 grind
theorem Zz8(s:Zn)(hl:s.2.2.2.2.1.length<=1048576):∀(N i:Nat),s.2.2.2.2.1.length-i<N->i<=s.2.2.2.2.1.length-> ∃b,hQ N s (i:Int)=K2 (b,())
 |0,_,h,_=>Aa
 |N+1,i,a,d=>by
  unfold hQ;by_cases h:i<s.2.2.2.2.1.length
  ·rw[Zl (Zk),Zb,Zr h];cases K3 ((s.2.2.2.2.1.getD (i:Int).toNat Z4).2.1>s.2.2.2.2.2.2.2.1)
   ·exact Zz8 s hl N (i+1) Aa Aa
   simp_all
  ·rw[Zo (Zm)];obtain⟨k,hk⟩:=Tu s;rw[hk];generalize ((!((s.2.2.2.2.2.2.1==(0:Int))==(s.2.2.2.2.2.1==(-1:Int))))||((s.2.2.2.2.2.1 !=(-1:Int))&&(s.2.2.2.2.2.1 !=s.2.1.2.2.1)))=c;cases c<;>exact⟨_,rfl⟩
theorem Zz7(s:Zn)(hl:s.2.2.2.1.length<=1048576)(hl2:s.2.2.2.2.1.length<=1048576):∀(N i:Nat),s.2.2.2.1.length-i<N->i<=s.2.2.2.1.length-> ∃b,hD N s (i:Int)=K2 (b,())
 |0,_,h,_=>Aa
 |N+1,i,a,c=>by
  unfold hD;by_cases h:i<s.2.2.2.1.length
  ·rw[Zl (Zk),Zb,Zr h];cases K3 ((s.2.2.2.1.getD (i:Int).toNat Z4).2.1>s.2.2.2.2.2.2.2.1)
   ·exact Zz7 s hl hl2 N (i+1) Aa Aa
   simp_all
  ·rw[Zo (Zm)];exact Zz8 s hl2 _ 0 (by simp[na]) Aa
theorem Qc4{l:List Zi}(h:jt l≠0):0<l.length:=by
 cases l with
 |nil=>exact absurd rfl h
 |cons=>simp
theorem Zz6{K:Int}{s:Zn}(hs:Wt K s)(hK:K<=1000000):∀(N i:Nat)(all:List Zi),RL (Do s) all->s.2.2.2.2.1.length-i<N->i<=s.2.2.2.2.1.length-> ∃b,g9 N s all (i:Int)=K2 (b,())
 |0,_,_,_,h,_=>Aa
 |N+1,i,all,a,f,g=>by
  have j:=Q0 a hs.e0 hs.eK hK;have k:=Q0 hs.pend hs.e0 hs.eK hK;have l:=Q0 hs.pT hs.e0 hs.eK hK;have m:=Q0 hs.pO hs.e0 hs.eK hK;unfold g9;by_cases h:i<s.2.2.2.2.1.length
  ·rw[Zl (Zk),Zb,Zr h,og _ _,pA];exact Zz6 hs hK N (i+1) _ (AJ a (hs.pO.2 _ (Z5 h))) Aa Aa
  ·rw[Zo (Zm),ix _,ix _,ix _,ix _,l9 _ _];simp only[pA,a.1,if_true];rw[Zb (λd e=>by
    simp only[Lp,bne_eq_false_iff_eq,decide_eq_true_eq]at d e
    grind[Qc4])]
   generalize n:((jt all !=s.2.1.2.2.1||_)||_)=c;cases c
   ·simp only[pH,pA];generalize ((Lc||_)||_)=c2;cases c2
    ·exact Zz7 s Aa Aa _ 0 (by simp[m9]) Aa
    simp_all
   simp_all
theorem Zz5{K:Int}{s:Zn}(hs:Wt K s)(hK:K<=1000000):∀(N i:Nat)(all:List Zi),RL (Do s) all->s.2.2.2.1.length-i<N->i<=s.2.2.2.1.length-> ∃b,g8 N s all (i:Int)=K2 (b,())
 |0,_,_,_,h,_=>Aa
 |N+1,i,all,a,c,d=>by
  have e:=Q0 a hs.e0 hs.eK hK;have f:=Q0 hs.pT hs.e0 hs.eK hK;unfold g8;by_cases h:i<s.2.2.2.1.length
  ·rw[Zl (Zk),Zb,Zr h,og _ _,pA];exact Zz5 hs hK N (i+1) _ (AJ a (hs.pT.2 _ (Z5 h))) Aa Aa
  ·rw[Zo (Zm)];exact Zz6 hs hK _ 0 all a (by simp[fT]) Aa
theorem nK{K:Int}{s:Zn}(hs:Wt K s)(hK:K<=1000000:=by omega):∃b,Ks s=K2 (b,())/\(b=K4->VN s.2.1=K4/\0<=s.2.2.2.2.2.2.2.1/\s.2.2.2.2.2.2.2.1<=s.2.1.2.2.1):=by
 have f:=Q0 hs.pend hs.e0 hs.eK hK;have g:=Q0 hs.pT hs.e0 hs.eK hK;have h:=Q0 hs.pO hs.e0 hs.eK hK;have a:=(Gm s.2.1 (by have:=hs.cells;omega)).1;obtain⟨i,j⟩:=Zz5 hs hK (J7 s s.2.2.1 0) 0 s.2.2.1 hs.pend (by simp[J7]) Aa;unfold Ks gH;rw[a,fN _,fN _,fN _];have c:Z9 s.2.2.2.2.2.2.2.1 0 s.2.1.2.2.1=K2 (K3 (s.2.2.2.2.2.2.2.1>=0)&&K3 (s.2.2.2.2.2.2.2.1<=s.2.1.2.2.1),()):=rfl;have d:Q5 s.2.2.2.2.2.2.2.2.1=K2 (K3 (s.2.2.2.2.2.2.2.2.1>=0)&&K3 (s.2.2.2.2.2.2.2.2.1<=4611686018427387903),()):=rfl;have e:Z9 s.2.2.2.2.2.2.1 0 3=K2 (K3 (s.2.2.2.2.2.2.1>=0)&&K3 (s.2.2.2.2.2.2.1<=3),()):=rfl;simp only[hs.pend.1,hs.pT.1,hs.pO.1,c,d,e,pA]
 grind(splits:=20)
theorem Z0q{K:Int}{s:Zn}(h:Wt K s)(d:Ba)(hK:K+d.length<=1000000:=by omega):
  ∃x n,dC s d=K2 (x,n,())/\Wt (K+d.length) x:=by
 have f:=h.e0;have i:=h.cells;have e:=h.eK;obtain⟨b,j,-⟩:=nK h;have l:=Q0 h.pend f e;unfold dC tN;rw[xd h,j];simp only[pA];generalize (((!b)||(K3 (s.1>(1:Int))))||(s.2.2.2.2.2.1 !=(-1:Int)))=c;cases c
 ·obtain⟨m,n,k,o,p,q⟩:=Z9s s.2.1 d Aa Aa f;rw[pH,k,pA];unfold kT;have a:RL (s.2.1.2.2.1+n) s.2.2.2.1/\RL (s.2.1.2.2.1+n) s.2.2.2.2.1:=⟨OL h.pT,OL h.pO⟩
  by_cases g:(n:Int)>0
  ·rw[Zl (Zk g),og _ _,pA];exact⟨_,_,rfl,{cells:=Ag,e0:=Ag,eK:=Ag,pend:=AJ (OL h.pend Ag) Ag,pT:=a.1,pO:=a.2}⟩
  ·rw[Zo (Zm g)];exact⟨_,_,rfl,{cells:=Ag,e0:=Ag,eK:=Ag,pend:=OL h.pend Ag,pT:=a.1,pO:=a.2}⟩
 ·exact⟨s,0,rfl,h.mono Aa⟩
theorem Zzo{K:Int}{s:Zn}(h:Wt K s)(hK:K<=1000000:=by omega):∃x ok,md s=K2 (x,ok,())/\Wt K x:=by
 obtain⟨b,a,-⟩:=nK h hK;unfold md;rw[xd h hK,a];simp only[pA];generalize (((!b)||(K3 (s.1>(1:Int))))||(s.2.2.2.2.2.1 !=(-1:Int)))=c;cases c
 ·exact⟨_,_,rfl,{cells:=h.cells,e0:=h.e0,eK:=h.eK,pend:=h.pend,pT:=h.pT,pO:=h.pO}⟩
 simp_all
theorem rY(E:Int):RL E []:=⟨rfl,Ac⟩
theorem Bl{K:Int}{s:Zn}(h:Wt K s)(code:Int)(hK:K<=1000000:=by omega):∃x ok,dB s code=K2 (x,ok,())/\Wt K x:=by
 have c:=h.cells;have d:=h.eK;obtain⟨b,e,f⟩:=nK h hK;unfold dB gH;rw[e];simp only[pA];have g:Q5 code=K2 (K3 (code>=0)&&K3 (code<=4611686018427387903),()):=rfl;rw[g];cases b
 ·simp only[Ll,My,pG,pA];rw[xd h hK];simp_all
 ·obtain⟨i,a,j⟩:=f rfl;obtain⟨⟨k,l⟩,-⟩:=(Gm s.2.1 Aa).2 i;simp only[pI,Ld];generalize (K3 (code>=0)&&K3 (code<=4611686018427387903))=q;cases K3 (s.1>2)
  ·cases q
   ·simp only[pH,pA,Ll,Ld,pG];rw[xd h hK];simp_all
   ·simp only[pH,pA,pI,Ma,Xm,X5];rw[Zb Aj];exact⟨_,_,rfl,{cells:=Ae,e0:=a,eK:=Ag,pend:=rY _,pT:=rY _,pO:=rY _}⟩
  ·simp only[pG,pA,My];rw[xd h hK];simp_all
theorem Qlx{K:Int}{s:Zn}(h:Wt K s)(most limit:Int)(hK:K<=1000000):∃p ok,sq s most limit=K2 (p,ok,())/\p.2.1.length<=64:=by
 have i:=h.cells;obtain⟨b,j,k⟩:=nK h hK;unfold sq;rw[j];simp only[pA];have d:∀t e r a,∃p ok,ep s t e r a=K2 (p,ok,())/\p.2.1.length<=64:=by
  intro t e r a;unfold ep;by_cases f:a<=r.1
  ·rw[Zl (Zk f)];exact⟨_,_,rfl,Lq _⟩
  ·rw[Zo (Zm f)];obtain⟨t,ok,l,m,n⟩:=Qps s.2.1 r.1 (Lb.wrap (a-r.1)) Aa;simp_all
 generalize ((!b)||(K3 (s.1>(2:Int))))=c;cases c
 ·simp only[pH];by_cases g:(s.2.2.1.length:Int)>0
  ·rw[Zl (Zk g),Zb];generalize K3 (min (s.2.2.1.getD (0:Int).toNat Z4).2.1 limit<=(s.2.2.1.getD (0:Int).toNat Z4).1)=c1;cases c1
   ·simp only[pH];generalize K3 (most<Lb.wrap (min (s.2.2.1.getD (0:Int).toNat Z4).2.1 limit- (s.2.2.1.getD (0:Int).toNat Z4).1))=c2;cases c2
    ·exact d eJ _ _ _
    ·exact d eJ _ _ _
   ·exact⟨_,_,rfl,Lq _⟩
  ·rw[Zo (Zm g)];cases s.2.2.2.2.2.2.1==(1:Int)
   ·exact⟨_,_,rfl,Lq _⟩
   simp
 ·exact⟨_,_,rfl,Lq _⟩
theorem GN(s:Zn)(p:Qq)(hE0:0<=s.2.1.2.2.1)(hE:s.2.1.2.2.1<=1000000:=by omega):∃b,zx s p=K2 (b,())/\(b=K4->0<=p.1/\p.1+(p.2.1.length:Int)<=s.2.1.2.2.1):=by
 refine⟨_,rfl,λa=>?_⟩;simp only[pC,decide_eq_true_eq]at a
 grind[Zs]
theorem BP{p:Qq}(h0:0<=p.1)(h1:p.1+(p.2.1.length:Int)<=1000000:=by omega):lC p=K2 ((p.1,p.1+(p.2.1.length:Int),()),()):=by grind[lC,Zs]
theorem Z9g{K:Int}{s:Zn}(h:Wt K s)(p:Qq)(hK:K<=1000000):∃x ok,sw s p=K2 (x,ok,())/\Wt K x:=by
 have d:=h.e0;have a:=h.eK;have q:=Q0 h.pend d a hK;have lf:=Q0 h.pT d a hK;obtain⟨b,i,r⟩:=nK h hK;obtain⟨j,l,m⟩:=GN s p d;have e:∀t x,Wt K x-> ∃y ok,ki t x=K2 (y,ok,())/\Wt K y:=by
  intro t x hx;unfold ki;obtain⟨k,hk⟩:=Tu x;rw[hk];exact⟨_,_,rfl,{cells:=hx.cells,e0:=hx.e0,eK:=hx.eK,pend:=hx.pend,pT:=hx.pT,pO:=hx.pO}⟩
 have f:∀t x,Wt K x-> ∃y ok,ey p t x=K2 (y,ok,())/\Wt K y:=by
  intro t x hx;unfold ey tH;cases p.2.2.1
  ·exact e J2 _ hx
  ·exact e J2 _ {cells:=hx.cells,e0:=hx.e0,eK:=hx.eK,pend:=hx.pend,pT:=hx.pT,pO:=hx.pO}
 unfold sw gH;rw[xd h hK,i];simp only[pA];generalize (((!b)||(K3 (s.1>(2:Int)))))=c0;cases c0
 ·simp only[pH,l,pA,Ld];generalize g:(((!j)||((p.2.1==([]:Ba))&&(!p.2.2.1)))||(p.2.2.1&&(s.2.2.2.2.2.2.1 !=(1:Int))))=c;cases c
  ·simp only[Lp,L2]at g;obtain⟨n,o⟩:=m g.1.1;rw[pH];cases p.2.1==([]:Ba)
   ·simp only[Ll,pG];rw[BP n,pA];rw[AA _ _ Aa Ac,pA];simp only;generalize (ite (CQ (-1) s.2.2.1=K4/\CQ (-1) [((p.1,p.1+(p.2.1.length:Int),()):Zi)]=K4) (List.flatMap (λx=>List.flatMap (vG x) [((p.1,p.1+(p.2.1.length:Int),()):Zi)]) s.2.2.1) [])=cm;rw[Zb (λu=>Ai)];generalize ((cm.length:Int) !=1||_)=c3;cases c3
    ·rw[pH,YG _ _,pA,og _ _,pA];exact f J2 _ {cells:=h.cells,e0:=h.e0,eK:=h.eK,pend:=CG h.pend,pT:=AJ h.pT o,pO:=h.pO}
    grind
   ·exact f J2 _ h
  grind
 grind
theorem I4{a:List Zi}{r:Zi}{c:Prop}[Decidable c](h:∀x∈a,x.2.1<=E):∀y∈(ite c (a.flatMap λx=>[r].flatMap (vG x)) []),y.2.1<=E:=by
 intro y b;split at b
 ·simp only[List.mem_flatMap,List.mem_singleton,exists_eq_left]at b
  grind[vG]
 ·cases b
theorem TM{a:List Zi}{r:Zi}{c:Prop}[Decidable c]:(ite c (a.flatMap λx=>[r].flatMap (vG x)) []).length<=a.length:=by
 split
 ·have:=tq (f:=λx=>[r].flatMap (vG x)) (k:=1) (λx=>by simp_all[Qc6]) a;omega
 ·simp
theorem Wt.lists{K:Int}{s:Zn}(h:Wt K s){f a:List Zi}(hf:RL s.2.1.2.2.1 f)(ha:RL s.2.1.2.2.1 a):Wt K (s.1,s.2.1,s.2.2.1,f,a,s.2.2.2.2.2):={cells:=h.cells,e0:=h.e0,eK:=h.eK,pend:=h.pend,pT:=hf,pO:=ha}
theorem Zzb{K:Int}{s x:Zn}(hs:Wt K s)(hx:Wt K x)(he:x.2.1=s.2.1)(t:Zn)(hK:K<=1000000):∃y,gn s t x=K2 (y,())/\Wt K y:=by
 have a:=hs.cells;have f:=Q0 hx.pO hx.e0 hx.eK hK;unfold gn;simp only[Xm,X5];rw[l9 _ _,pA];obtain⟨c,b,g,d,h⟩:=Qnz s.2.1 (ite (CQ (-1) x.2.2.2.2.1=K4/\0<=(0:Int)) (n8 x.2.2.2.2.1 0) (-1)) Aa;rw[d,pA];unfold sd;obtain⟨k,hk⟩:=Tu (x.1,(s.2.1.1,b,s.2.1.2.2.1,c,()),x.2.2);rw[hk,pA];refine⟨_,rfl,?_⟩;have e:x.2.1.2.2.1=s.2.1.2.2.1:=by rw[he]
 exact {cells:=Ag,e0:=hs.e0,eK:=hs.eK,pend:=(by have:=hx.pend;simp_all),pT:=(by have:=hx.pT;simp_all),pO:=(by have:=hx.pO;simp_all)}
theorem Zza{K:Int}{s x:Zn}(hs:Wt K s)(hx:Wt K x)(he:x.2.1=s.2.1)(p:Qq)(t:Zn)(hK:K<=1000000):∃y,gj s p t x=K2 (y,())/\Wt K y:=by
 unfold gj tH;cases p.2.2.1&&(s.2.2.2.2.2.2.1==(2:Int))
 ·exact Zzb hs hx he t hK
 ·exact Zzb hs (x:=(x.1,x.2.1,x.2.2.1,x.2.2.2.1,x.2.2.2.2.1,x.2.2.2.2.2.1,(3:Int),x.2.2.2.2.2.2.2)) {cells:=hx.cells,e0:=hx.e0,eK:=hx.eK,pend:=hx.pend,pT:=hx.pT,pO:=hx.pO} he t hK
theorem Zzc{K:Int}{s:Zn}(hs:Wt K s)(p:Qq)(t:Zn)(hK:K<=1000000)(c:List Zi)(hcl:c.length<=1048576)(hc:∀y∈c,y.2.1<=s.2.1.2.2.1):∀(N i:Nat)(x:Zn),Wt K x->x.2.1=s.2.1->c.length-i<N->i<=c.length->
  ∃y,gq N s p t x c (i:Int)=K2 (y,())/\Wt K y
 |0,_,_,_,_,h,_=>Aa
 |N+1,i,x,hx,a,f,g=>by
  have lf:=Q0 hx.pT hx.e0 hx.eK hK;have j:=Q0 hx.pO hx.e0 hx.eK hK;unfold gq gG gL;by_cases h:i<c.length
  ·have b:=hc _ (Z5 (d:=Z4) h);have e:x.2.1.2.2.1=s.2.1.2.2.1:=by rw[a]
   rw[Zl (Zk),Zb,YG _ _,pA,Zb,og _ _,pA,Zr h];exact Zzc hs p t hK c hcl hc N (i+1) _ (hx.lists (CG hx.pT) (AJ hx.pO (by rw[e];exact b))) a Aa Aa
  ·rw[Zo (Zm)];exact Zza hs hx a p t hK
theorem R4{K:Int}{s:Zn}(h:Wt K s)(p:Qq)(hK:K<=1000000:=by omega):∃x,qf s p=K2 (x,())/\Wt K x:=by
 have e:=h.e0;have d:=h.eK;have lf:=Q0 h.pT e d hK;obtain⟨b,f,m⟩:=nK h hK;obtain⟨g,i,j⟩:=GN s p e;unfold qf gH;rw[xd h hK,f];simp only[pA];generalize ((!b)||(K3 (s.1>(2:Int))))=c0;cases c0
 ·simp only[pH,i,pA,Ld];cases g
  ·simp_all
  ·obtain⟨k,n⟩:=j rfl;simp only[pI,pH];cases p.2.1==([]:Ba)
   ·simp only[Ll,pG];rw[BP k,pA];rw[AA _ _ Aa Ac,pA];have o:=TM (a:=s.2.2.2.1) (r:=((p.1,p.1+(p.2.1.length:Int),()):Zi)) (c:=CQ (-1) s.2.2.2.1=K4/\CQ (-1) [((p.1,p.1+(p.2.1.length:Int),()):Zi)]=K4);have l:=I4 (a:=s.2.2.2.1) (r:=((p.1,p.1+(p.2.1.length:Int),()):Zi)) (c:=CQ (-1) s.2.2.2.1=K4/\CQ (-1) [((p.1,p.1+(p.2.1.length:Int),()):Zi)]=K4) h.pT.2;exact Zzc h p _ hK _ Aa l _ 0 s h rfl (by simp_all[mX]) Aa
   ·exact Zza h h rfl p _ hK
 simp_all
theorem Zuc{K:Int}{s x:Zn}(hx:Wt K x)(p:Qq)(t:Zn):∃y,ef s p t x=K2 (y,())/\Wt K y:=by
 have a:∀x,Wt K x-> ∃y,kh t x=K2 (y,())/\Wt K y:=by
  intro x hx;unfold kh;obtain⟨k,hk⟩:=Tu x;rw[hk];exact⟨_,rfl,{cells:=hx.cells,e0:=hx.e0,eK:=hx.eK,pend:=hx.pend,pT:=hx.pT,pO:=hx.pO}⟩
 unfold ef;cases p.2.2.1&&(s.2.2.2.2.2.2.1==(2:Int))
 ·exact a _ hx
 ·exact a _ {cells:=hx.cells,e0:=hx.e0,eK:=hx.eK,pend:=hx.pend,pT:=hx.pT,pO:=hx.pO}
theorem Zud{K:Int}{s:Zn}(p:Qq)(t:Zn)(hK:K<=1000000)(c:List Zi)(E:Int)(hcl:c.length<=1048576)(hc:∀y∈c,y.2.1<=E):∀(N i:Nat)(x:Zn),Wt K x->x.2.1.2.2.1=E->c.length-i<N->i<=c.length->
  ∃y,eg N s p t x c (i:Int)=K2 (y,())/\Wt K y
 |0,_,_,_,_,h,_=>Aa
 |N+1,i,x,hx,a,e,f=>by
  have lf:=Q0 hx.pT hx.e0 hx.eK hK;have g:=Q0 hx.pend hx.e0 hx.eK hK;unfold eg gG gL;by_cases h:i<c.length
  ·have b:=hc _ (Z5 (d:=Z4) h);rw[Zl (Zk),Zb,YG _ _,pA,Zb,og _ _,pA,Zr h];exact Zud p t hK c E hcl hc N (i+1) _ {cells:=hx.cells,e0:=hx.e0,eK:=hx.eK,pend:=AJ hx.pend (by rw[a];exact b),pT:=CG hx.pT,pO:=hx.pO} a Aa Aa
  ·rw[Zo (Zm)];exact Zuc hx p t
theorem Sj{K:Int}{s:Zn}(h:Wt K s)(p:Qq)(hK:K<=1000000:=by omega):∃x,mM s p=K2 (x,())/\Wt K x:=by
 have e:=h.e0;have d:=h.eK;have lf:=Q0 h.pT e d hK;obtain⟨b,f,m⟩:=nK h hK;obtain⟨g,i,j⟩:=GN s p e;unfold mM gH;rw[xd h hK,f];simp only[pA];generalize ((!b)||(K3 (s.1>(2:Int))))=c0;cases c0
 ·simp only[pH,i,pA,Ld];cases g
  ·simp_all
  ·obtain⟨k,n⟩:=j rfl;simp only[pI,pH];cases p.2.1==([]:Ba)
   ·simp only[Ll,pG];rw[BP k,pA];rw[AA _ _ Aa Ac,pA];have o:=TM (a:=s.2.2.2.1) (r:=((p.1,p.1+(p.2.1.length:Int),()):Zi)) (c:=CQ (-1) s.2.2.2.1=K4/\CQ (-1) [((p.1,p.1+(p.2.1.length:Int),()):Zi)]=K4);have l:=I4 (a:=s.2.2.2.1) (r:=((p.1,p.1+(p.2.1.length:Int),()):Zi)) (c:=CQ (-1) s.2.2.2.1=K4/\CQ (-1) [((p.1,p.1+(p.2.1.length:Int),()):Zi)]=K4) h.pT.2;exact Zud p _ hK _ _ Aa l _ 0 s h rfl (by simp_all[lw]) Aa
   ·exact Zuc h p _
 simp_all
theorem Qm1{K:Int}{s:Zn}(h:Wt K s)(hK:K<=1000000):∃x ok,lL s=K2 (x,ok,())/\Wt K x:=by
 obtain⟨b,a,d⟩:=nK h hK;unfold lL;rw[xd h hK,a];simp only[pA];generalize ((!b)||(s.1 !=(4:Int)))=c;cases c
 ·exact⟨_,_,rfl,{cells:=h.cells,e0:=h.e0,eK:=h.eK,pend:=h.pend,pT:=h.pT,pO:=h.pO}⟩
 simp_all
theorem Qnt(c:Qg)(n:Int)(h:Ys c):∃b c',aQ c n=K2 ((b,()),c',())/\Ys c':=by
 unfold aQ;obtain⟨x,d,a,e,-,-⟩:=VQ c n h;rw[a,pA]
 grind
theorem Z77(c:Qg)(l:List Ba)(h:Ys c)(hl:0<l.length):∃x c',lQ c l=K2 ((x,()),c',())/\Ys c'/\x∈l:=by
 unfold lQ gG;obtain⟨x,e,b,f,d,a⟩:=VQ c (l.length:Int) h;have a:=a Aa;rw[b,pA];simp only[];rw[Zb ⟨d,a⟩]
 grind
theorem Z3l:∀(N m:Nat)(c:Qg)(s:Ba),Ys c->m<N->s.length+m<=1000000-> ∃t c',jr N c s (m:Int)=K2 ((t,()),c',())/\Ys c'/\t.length<=s.length+m
 |0,_,_,_,_,h,_=>Aa
 |N+1,0,c,s,a,_,_=>by
  unfold jr
  grind
 |N+1,m+1,c,s,a,i,j=>by
  unfold jr;rw[Zl (Zk)];obtain⟨x,b,d,f,hx⟩:=Z77 c [([97]:Ba),([98]:Ba),([99]:Ba),([100]:Ba)] a Ac;have g:x.length=1:=Ai
  rw[d,pA,Zb Ak];have e:Lb.wrap (((m+1:Nat):Int)-1)=(m:Int):=Al
  rw[e];obtain⟨t,k,l,n,o⟩:=Z3l N m b (s++x) f Aa Ae
  grind
theorem Qns(c:Qg)(most:Nat)(h:Ys c)(hm:most<=1000):∃t c',lT c (most:Int)=K2 ((t,()),c',())/\Ys c'/\t.length<=most:=by
 unfold lT;obtain⟨x,b,d,e,f,a⟩:=VQ c (Lb.wrap ((most:Int)+1)) h;rw[d,pA];rw[Zs]at a;have a:=a Aa;obtain⟨m,rfl⟩:=Lu f;obtain⟨t,g,i,j,k⟩:=Z3l (rq b [] (m:Int)) m b [] e (by simp[rq]) Ae
 grind
def U4(n:Int)(l:List Zi):Prop:= ∃x∈l,x.1<=n/\n<x.2.1
theorem PU:∀{l:List Zi}{r:Zi}{n:Int},U4 n (pz l r)->U4 n l\/(r.1<=n/\n<r.2.1)
 |[],r,n,⟨x,hx,h⟩=>by simp_all[pz]
 |y::l,r,n,⟨x,hx,h⟩=>by
  have a:U4 n l->U4 n (y::l):=λ⟨z,b,c⟩=>⟨z,by simp[b],c⟩
  unfold pz at hx;split at hx
  ·rcases Ls.1 hx with rfl|hx
   ·exact .inl ⟨x,Ac,h⟩
   ·exact(PU ⟨x,hx,h⟩).imp a id
  ·split at hx
   ·rcases Ls.1 hx with rfl|hx
    ·exact .inr h
    ·exact .inl ⟨x,hx,h⟩
   ·rcases PU ⟨x,hx,h⟩with h'|h'
    ·simp_all
    ·simp only at h';by_cases d:y.1<=n/\n<y.2.1
     ·exact .inl ⟨y,Ac,d⟩
     omega
theorem Bc:∀{l:List Zi}{r:Zi},(∀x∈l,x.1<=x.2.1)->r.1<=r.2.1->jt (pz l r)<=jt l+(r.2.1-r.1)
 |[],r,_,_=>by simp[pz,jt]
 |y::l,r,b,c=>by
  have a:∀x∈l,x.1<=x.2.1:=λx hx=>b x (by simp[hx]);have d:=b y Ac;unfold pz;split
  ·have:=Bc (l:=l) (r:=r) a c;grind[jt]
  ·split
   ·grind[jt]
   ·have:=Bc (l:=l) (r:=(min r.1 y.1,max r.2.1 y.2.1,())) a Ag;grind[jt]
def Gi:Int->List Qj->Bool|_,[]=>K4|e,c::l=> !(((K3 (c.1<=e))||(c.2.1==([]:Ba)))||(K3 (c.1>(Lb.wrap ((4611686018427387903:Int)- (c.2.1.length:Int))))))&&Gi (Lb.wrap (c.1+(c.2.1.length:Int))) l
def kb(n:Int):Bool:=K3 (n>=0)&&K3 (n<=4611686018427387903)
theorem Jl(n:Int):Q5 n=K2 (kb n,()):=rfl
theorem Jz:kb n=K4↔0<=n/\n<=4611686018427387903:=by simp[kb]
def yU(b:Zz):Bool:=Gi (Lb.wrap (b.1-1)) b.2.1&&kb b.1
theorem Zqh(b:Zz):∀(N:Nat)(pre rest:List Qj)(e:Int),b.2.1=pre++rest->b.2.1.length<=1048576->rest.length<N->mi N b e (pre.length:Int)=K2 (Gi e rest&&kb b.1,())
 |0,_,_,_,_,_,h=>Aa
 |N+1,pre,[],e,a,d,f=>by
  simp_all[mi,Jl,Gi]
 |N+1,pre,c::rest,e,a,d,f=>by
  have g:b.2.1.length=pre.length+rest.length+1:=Ai
  simp only[Lf]at f;have i:b.2.1.getD (pre.length:Int).toNat Qv=c:=Ai
  unfold mi;rw[Zl (Zk),Zb];simp only[i];have j:=Zqh b N (pre++[c]) rest (Lb.wrap (c.1+(c.2.1.length:Int))) (by rw[a];simp) d Aa
  grind[Zr,Gi]
theorem kI(b:Zz)(hl:b.2.1.length<=1048576:=by omega):lM b=K2 (yU b,()):=by unfold lM;exact Zqh b _ [] b.2.1 _ rfl hl (by simp[xl])
def MA(c:Qj):Zi:=(c.1,c.1+(c.2.1.length:Int),())
def pw:List Qj->Nat|[]=>0|c::l=>c.2.1.length+pw l
theorem Fx:∀{l:List Qj}{c:Qj},c∈l->c.2.1.length<=pw l
 |x::l,c,h=>by
  rcases Ls.1 h with rfl|h
  ·simp[pw]
  ·have:=Fx h;grind[pw]
structure iw(K:Nat)(b:Zz):Prop where
 len:b.2.1.length<=K
 tot:pw b.2.1<=K
theorem iw.mono(h:iw K b)(hK:K<=K'):iw K' b:=⟨Lx h.len hK,Lx h.tot hK⟩
theorem Qnn:∀{l:List Qj}{e:Int},pw l<=1000000-> -1<=e->Gi e l=K4->CQ e (l.map MA)=K4
 |[],_,_,_,_=>rfl
 |c::l,e,b,g,h=>by
  simp only[pw]at b;simp only[Gi,pC,Md,Lp,decide_eq_false_iff_not,beq_eq_false_iff_ne]at h;obtain⟨⟨⟨i,d⟩,f⟩,a⟩:=h;rw[Zs]at f;rw[Zs]at a;have j:0<c.2.1.length:=Mc.2 d;rw[L1,jb];exact⟨Xo.2 (by grind[MA]),by simp_all[MA],Qnn Aa (by grind[MA]) a⟩
theorem Pe:∀(l:List Qj),jt (l.map MA)=(pw l:Int)
 |[]=>rfl
 |c::l=>by
  have:=Pe l
  grind[jt,pw,MA]
theorem Zl4(b:Zz)(ht:pw b.2.1<=1000000)(hb2:∀c∈b.2.1,-1<=c.1/\c.1<=4611686018427387903):∀(N:Nat)(pre rest:List Qj)(out:List Zi),b.2.1=pre++rest->b.2.1.length<=1048576->rest.length<N->out.length<=pre.length->yU b=K4->
  Vw N b out (pre.length:Int)=K2 (out++rest.map MA,())
 |0,_,_,_,_,_,h,_,_=>Aa
 |N+1,pre,[],out,a,d,f,k,e=>by
  unfold Vw;simp_all
 |N+1,pre,c::rest,out,a,d,f,k,e=>by
  have i:b.2.1.length=pre.length+rest.length+1:=Ai
  simp only[Lf]at f;have n:b.2.1.getD (pre.length:Int).toNat Qv=c:=Ai
  have g:∀{ρ:Type}(m:Option ρ),Zd (0<=(pre.length:Int)/\(pre.length:Int)<(b.2.1.length:Int)) m=m:=λm=>Zb;have q:=hb2 c (by rw[a];simp);have o:=Fx (l:=b.2.1) (c:=c) (by rw[a];simp);unfold Vw;have p:K3 ((pre.length:Int)<(b.2.1.length:Int))=true:=Zk;rw[p,kI b d,e];simp only[pG,pA,Lt,g,n];rw[Zb Aj,Zr (m:=pre.length+1),Zs];have j:=Zl4 b ht hb2 N (pre++[c]) rest (out++[MA c]) (by rw[a];simp) d Aa Ae e;rw[show((pre++[c]).length:Int)=((pre.length+1:Nat):Int) by simp]at j;refine Lz j ?_;simp
theorem uc(ht:pw b.2.1<=1000000)(h:yU b=K4):0<=b.1/\b.1<=4611686018427387903/\CQ (b.1-1) (b.2.1.map MA)=true:=by
 unfold yU at h;simp only[pC]at h
 grind[Jz,Zs,Qnn]
theorem lF(hi:iw K b)(hK:K<=1000000:=by omega):oZ b=K2 (ite (yU b=K4) (b.2.1.map MA) [],()):=by
 have e:=hi.len;have f:=hi.tot;unfold oZ;cases hB:yU b
 ·show Vw (_+1) b [] 0=_
  grind[Vw,kI]
 ·obtain⟨g,h,a⟩:=uc Aa hB;have:=Zl4 b Aa (λc d=>by
   have i:=xI a (MA c) (Nx d)
   grind[Xo,MA]) (fA b [] 0) [] b.2.1 [] rfl Aa (by simp[fA]) Ac hB
  simp_all
theorem Zzk(b:Zz)(at_:Int)(h0:0<=at_)(h1:at_<=4611686018427387903)(ht:pw b.2.1<=1000000)(hq:∀c∈b.2.1,0<=c.1/\c.1<=4611686018427387903):∀(N:Nat)(pre rest:List Qj),b.2.1=pre++rest->b.2.1.length<=1048576->rest<N->
  ∃v,jc N at_ b pre=K2 (v,())/\(v<0-> ¬U4 at_ (rest.map MA))/\v<=255
 |0,_,_,_,_,h=>Aa
 |N+1,pre,[],d,e,f=>by
  unfold jc gG gM;rw[Zo (by rw[d];simp)];exact⟨-1,rfl,λ_ ⟨x,hx,_⟩=>by simp at hx,Aa⟩
 |N+1,pre,c::rest,d,e,f=>by
  have i:b.2.1=pre+rest.length+1:=Ai
  simp only[Lf]at f;have k:b.2.1.getD (pre:Int).toNat Qv=c:=Ai
  have g:∀{ρ:Type}(m:Option ρ),Zd (0<=(pre:Int)/\pre<(b.2.1:Int)) m=m:=λm=>Zb;have s:=hq c (by rw[d];simp);have n:=Fx (l:=b.2.1) (c:=c) (by rw[d];simp);unfold jc gG gM;rw[Zl (Zk)];simp only[g,k];rw[Zb (λ_=>Aa),Zb (λ_=>Aa),Zs,Zk,Zk];simp only[pJ];obtain⟨v,j,o,p⟩:=Zzk b at_ h0 h1 ht hq N (pre++[c]) rest (by rw[d];simp) e Aa;rw[show((pre++[c]):Int)=((pre+1:Nat):Int) by simp]at j;by_cases a:at_-c.1>=0/\at_-c.1<c.2.1
  ·rw[Zk a.1,Zk a.2,Lt,pG,Zb ⟨a.1,a.2⟩];have q:(c.2.1.getD (at_-c.1).toNat 0).toNat<256:=(c.2.1.getD (at_-c.1).toNat 0).toNat_lt;rw[Zs]
   grind
  ·rw[Zo Af,Zr (m:=pre+1)];refine⟨v,j,λhv ⟨x,hx,r⟩=>?_,p⟩;rw[L1]at hx;rcases Ls.1 hx with rfl|hx
   ·grind[MA]
   ·exact o hv ⟨x,hx,r⟩
theorem Qwf(b:Zz)(at_:Int)(h0:0<=at_)(h1:at_<=4611686018427387903)(ht:pw b.2.1<=1000000)(hl:b.2.1.length<=1000000)(hq:∀c∈b.2.1,0<=c.1/\c.1<=4611686018427387903):
  ∃v,YI b at_=K2 (v,())/\(v<0-> ¬U4 at_ (b.2.1.map MA))/\v<=255:=by
 unfold YI;exact Zzk b at_ h0 h1 ht hq _ [] b.2.1 rfl Aa (by simp[rf])
theorem Qoo{b:Zz}(ht:pw b.2.1<=1000000)(hbl:b.2.1.length<=1000000)(hq:∀c∈b.2.1,0<=c.1/\c.1<=4611686018427387903)(K1:(Int×Ba×Zz×Zz×Zz×List Zi×Int×Unit)->Oa Zz)(o:Int)(ho:0<=o/\o<=4611686018427387903)(d:Ba)(t x:Zz)(l:List Zi)(i:Nat)(hi:i<l.length)(r:Zi)(hr:l.getD i Z4=r)
  (h0:0<=r.1) (hH:r.2.1<=4611686018427387903) (hx:x.2.1.length<=1000000)
  (hin:∀n,r.1<=n->n<r.2.1->U4 n (b.2.1.map MA)\/(o<=n/\n<o+d.length)):
  ∀(N m:Nat)(s:Ba),(m:Int)<=r.2.1-r.1->m<N->(s.length:Int)+m<=r.2.1-r.1->(r.2.1-r.1)<=2000000->
   ∃t',Kh K1 N o d b t x l (i:Int) s (r.2.1-m)=K1 (o,d,b,t,(x.1,x.2.1++[(r.1,t',())],x.2.2),l,Lb.wrap ((i:Int)+1),())/\(t'.length:Int)<=r.2.1-r.1
 |0,_,_,_,h,_,_=>Aa
 |N+1,0,s,g,j,k,f=>by
  unfold Kh gG gL;rw[Zb,show(i:Int).toNat=i from rfl,hr,Zo (Zm),Zb]
  grind(splits:=20)[Zb,Qd]
 |N+1,m+1,s,g,j,k,f=>by
  unfold Kh gG gL;rw[Zb,show(i:Int).toNat=i from rfl,hr,Zl (Zk)];obtain⟨v,p,q,w⟩:=Qwf b (r.2.1- ((m+1:Nat):Int)) Aa Aa ht hbl hq;rw[p,pA];have a:∀v,∃t',cM K1 (λv=>Kh K1 N v.1 v.2.1 v.2.2.1 v.2.2.2.1 v.2.2.2.2.1 v.2.2.2.2.2.1 v.2.2.2.2.2.2.1 v.2.2.2.2.2.2.2.1 v.2.2.2.2.2.2.2.2.1) o d b t x l (i:Int) s (r.2.1- ((m+1:Nat):Int)) v=K1 (o,d,b,t,(x.1,x.2.1++[(r.1,t',())],x.2.2),l,Lb.wrap ((i:Int)+1),())/\(t'.length:Int)<=r.2.1-r.1:=by
   intro v;unfold cM;obtain⟨y,u,z⟩:=HD v;rw[u,pA,Zb Ak,Zs];have e:r.2.1- ((m+1:Nat):Int)+1=r.2.1- (m:Int):=Aa
   simp only[e];exact Qoo ht hbl hq K1 o ho d t x l i hi r hr h0 hH hx hin N m (s++y) Aa Aa Ae f
  by_cases hv:v<0
  ·have:=(hin (r.2.1- ((m+1:Nat):Int)) Aa Aa).resolve_left (q hv);rw[Zl (Zk hv),Zb Al];exact a _
  simp_all[Zm]
theorem Qfq:∀(a b:List Qj),pw (a++b)=pw a+pw b
 |[],b=>by simp[pw]
 |c::a,b=>by simp only[Mo,pw,Qfq a b];omega
theorem Qk4:∀{l:List Zi}{i:Nat},i<l->jt (l.drop i)=((l.getD i Z4).2.1- (l.getD i Z4).1)+jt (l.drop (i+1)):=by intro l i h;rw[Qx (d:=Z4) h];rfl
theorem Qon{b:Zz}(ht:pw b.2.1<=1000000)(hbl:b.2.1.length<=1000000)(hq:∀c∈b.2.1,0<=c.1/\c.1<=4611686018427387903)(o:Int)(ho:0<=o/\o<=4611686018427387903)(d:Ba)(t:Zz)(l:List Zi)
  (hl:l.length<=1000000) (hf:∀r∈l,kd r=K4) (hc:jt l<=2000000)
  (hin:∀n,U4 n l->U4 n (b.2.1.map MA)\/(o<=n/\n<o+d.length)) (M:Int) (hM:M<=4000000):
  ∀(N i:Nat)(x:Zz),l.length-i<N->i<=l.length->x.2.1.length<=i->(pw x.2.1:Int)+jt (l.drop i)<=M->
   ∃y,V5 N o d b t x l (i:Int)=K2 (y,())/\y.1=x.1/\y.2.1.length<=l.length/\(pw y.2.1:Int)<=M
 |0,_,_,h,_,_,_=>Aa
 |N+1,i,x,D,E,hx,F=>by
  unfold V5 gG gL;by_cases h:i<l.length
  ·have e:=Z5 (d:=Z4) h;have f:=Xo.1 (hf _ e);have G:=Qk4 h;have k:∀{l:List Zi},(∀r∈l,kd r=K4)->0<=jt l:=by
    intro l
    induction l with
    |nil=>simp_all[jt]
    |cons r l z=>
     intro u;simp_all[Xo,jt]<;>omega
   have H:=k (l:=l.drop (i+1)) λr j=>hf r (List.mem_of_mem_drop j);have g:(l.getD i Z4).2.1- (l.getD i Z4).1<=2000000:=by
    have A:∀(l:List Zi),(∀r∈l,kd r=K4)-> ∀r∈l,r.2.1-r.1<=jt l:=by
     intro l
     induction l with
     |nil=>simp_all
     |cons q l z=>
      intro u r j;have hq:=Xo.1 (u q Ac)
      grind(splits:=20)[jt]
    grind
   rw[Zl (Zk),Zb,show(i:Int).toNat=i from rfl];generalize j:l.getD i Z4=r at*
   obtain⟨m,B⟩:=Lu (a:=r.2.1-r.1) Aa;obtain⟨C,w,I⟩:=Qoo ht hbl hq (λv=>V5 N v.1 v.2.1 v.2.2.1 v.2.2.2.1 v.2.2.2.2.1 v.2.2.2.2.2.1 v.2.2.2.2.2.2.1) o ho d t x l i h r j f.1 f.2.2 Aa
    (λn p s=>hin n ⟨r,e,p,s⟩) (ag o d b t x l (i:Int) [] r.1) m [] Aa (by simp_all[ag]) Ae g
   rw[show r.2.1- (m:Int)=r.1 by omega]at w;rw[w,Zr h];obtain⟨y,J,K,L,O⟩:=Qon ht hbl hq o ho d t l hl hf hc hin M hM N (i+1) (x.1,x.2.1++[(r.1,C,())],x.2.2) Aa Aa Ae (by
    grind[Qfq,pw])
   simp_all
  ·rw[Zo (Zm)]
   grind(splits:=20)[jt]
theorem VW(h:iw K b)(hK:K<=1000000:=by omega):ua b=K2 (b,()):=by
 have:=h.len
 grind[ua,Zb,Qd]
theorem Z4k(h:iw K b)(o:Int)(d:Ba)(hK:K+d+1<=1000000):∃y,nU b o d=K2 (y,())/\iw (K+d+1) y:=by
 have z:=h.len;have A:=h.tot;unfold nU;rw[kI b,pA];generalize i:((((!yU b)||(d==([]:Ba)))||(K3 (o<(0:Int))))||(K3 (o>(Lb.wrap ((4611686018427387903:Int)-d)))))=c;cases c
 ·simp only[Lp,L2,decide_eq_false_iff_not]at i;obtain⟨⟨⟨p,B⟩,C⟩,t⟩:=i;rw[Zs]at t;obtain⟨D,E,q⟩:=uc Aa p;simp only[pH];rw[Zs];by_cases s:max o b.1>=o+d
  ·rw[Zl (Zk s),VW h];exact⟨b,rfl,h.mono Aa⟩
  ·rw[Zo (Zm s),lF h,pA,p];simp only[if_true];have j:(b.2.1.map MA).length<=1048576:=Ai
   rw[og _ _ j,pA];have a:CQ (-1) (b.2.1.map MA)=true:=Ce q Aa;have e:kd (max o b.1,o+d,())=true:=Xo.2 Ag;simp only[a,e,and_self,if_true];have k:=RP (l:=b.2.1.map MA) (r:=((max o b.1,o+d,()):Zi));rw[M5]at k;have f:=Bc (l:=b.2.1.map MA) (r:=((max o b.1,o+d,()):Zi)) (λx hx=>by
    have:=Xo.1 (xI a x hx).2;omega) Ag
   rw[Pe]at f;simp only at f;have g:=H7 a e Ag;have m:∀c∈b.2.1,0<=c.1/\c.1<=4611686018427387903:=λc i=>by
    have F:=xI q (MA c) (Nx i)
    grind[Xo,MA]
   obtain⟨y,u,G,H,I⟩:=Qon (b:=b) Aa Aa m o Aa d GI _ Aa (λr v=>(xI g r v).2) Aa (λn w=>(PU w).imp id λJ=>Ai) (K+d) Aa
    (af o d b GI (b.1,[],()) (pz (b.2.1.map MA) (max o b.1,o+d,())) 0) 0 (b.1,[],()) (by simp[af]) Aa Ac (by grind[pw])
   exact⟨y,u,Aa,Aa⟩
 ·rw[pG,VW h];exact⟨b,rfl,h.mono Aa⟩
def dK(b:Zz):Int:=ite (yU b=K4/\b.2.1≠[]/\(b.2.1.getD 0 Qv).1=b.1) ((b.2.1.getD 0 Qv).2.1.length:Int) 0
theorem uB(b:Zz)(hl:b.2.1.length<=1048576:=by omega):fb b=K2 (dK b,()):=by
 unfold fb dK;rw[kI b hl,pA];obtain⟨a,l,_⟩:=b;cases hB:yU (a,l,())
 ·simp[Zd]
 ·cases l with
  |nil=>simp[Zd]
  |cons c l=>
   simp only[pI,Ld];have e:(((c::l).length:Int)==0)=false:=by rfl
   rw[e,Zb (λ_=>Af)];simp only[Ld,show(0:Int).toNat=0 from rfl,Mp,ne_eq,reduceCtorEq,not_false_eq_true,true_and];by_cases h:c.1=a
   all_goals simp_all[Zb,Zl]
theorem Z88(h:iw K b):0<=dK b/\dK b<=(K:Int)/\(dK b≠0->yU b=K4/\ ∃c l,b.2.1=c::l/\dK b=(c.2.1.length:Int)):=by
 unfold dK;split
 ·rename_i a;obtain⟨d,l,_⟩:=b;cases l with
  |nil=>simp_all
  |cons c l=>
   have:=h.tot;simp_all[pw]<;>omega
 omega
theorem Co(h:iw K b)(hK:K<=1000000)(m:Int):∃s y,sx b m=K2 (s,y,())/\iw K y/\s.length<=K:=by
 have a:=h.len;have d:=h.tot;obtain⟨q,r,i⟩:=Z88 h;unfold sx;rw[uB b,VW h hK];simp only[pA];generalize t:min (dK b) (max m 0)=n;by_cases e:n=0
 ·subst e
  grind
 ·rw[Zo (by simp[e])];obtain⟨j,c,l,f,u⟩:=i Aa;obtain⟨k,o,v⟩:=uc Aa j;rw[Zs];obtain⟨z,w,_⟩:=b;simp only at f a d k o;subst f;simp only[Lf]at a;simp only[pw]at d;simp only[show(0:Int).toNat=0 from rfl,Mp,Lf];rw[Zb];by_cases g:n=(c.2.1.length:Int)
  ·rw[Zl (by simp[g]),Zb];simp only[show(1:Int).toNat=1 from rfl,List.drop_succ_cons,L3];have p:iw K ((z+n,(l.take (((l.length+1:Nat):Int).toNat-1)),()):Zz):=by
    constructor<;>grind[List.take_length]
   rw[VW p hK]
   grind
  ·rw[Zo (by simp[g]),Zb,Zb,Zb];refine⟨_,_,rfl,⟨?_,?_⟩,?_⟩
   all_goals grind[pw]
theorem PO(h:iw K b)(hK:K<=1000000):∃v,yC b=K2 (v,()):=by
 have c:=h.len;unfold yC gG gH gM;rw[kI b];by_cases a:b.2.1=[]
 ·simp_all
 ·have:0<b.2.1.length:=Mc.2 a;have e:((b.2.1.length:Int)==(0:Int))=false:=Af
  rw[e];simp only[pH,pA,Ld];cases yU b
  ·simp_all
  ·simp only[pI,pH];rw[Zs,Zb];simp_all
theorem Vj(c:Bool)(a b:α):(cond c (K2 a) (K2 b))=K2 (cond c a b):=by cases c<;>rfl
theorem E2{P:α->β->Prop}{c:Bool}{m n:α}(h1:∃b,P m b)(h2:∃b,P n b):∃b,P (cond c m n) b:=Ai
theorem uw(h:iw K r.2.1)(hK:K<=1000000):∃b,X4 r=K2 (b,()):=by
 have a:=h.len;obtain⟨v,k⟩:=PO h hK;have j:∀q,∃b,K6 r q=K2 (b,()):=λq=>by unfold K6;cases q<;>exact⟨_,rfl⟩
 unfold X4 gH;rw[kI _,uB _,k];simp only[pA,Jl,Vj]
 repeat' refine E2 (P:=λm b=>m=K2 (b,())) ?_ ?_
 all_goals simp_all
theorem Qen:∃r,zq=K2 (r,())/\iw 0 r.2.1:=⟨_,rfl,Ac,by simp[pw]⟩
theorem Rj(h:iw K r.2.1)(hK:K<=1000000):pq r=K2 (r,()):=by grind[pq,VW]
theorem Qjo(r:Z1)(e:Int)(f:Bool):∃v,uS r e f=K2 (v,()):=by
 unfold uS
 grind
theorem To(h:iw K r.2.1)(o:Int)(d:Ba)(f:Bool)(hK:K+d.length+1<=1000000:=by omega):
  ∃y v,Jg r o d f=K2 (y,v,())/\iw (K+d.length+1) y.2.1:=by
 have j:∀z t x,∃y v,Vd o d r z ((t,r.2.1,x):Z1)=K2 (y,v,())/\iw (K+d.length+1) y.2.1:=by
  intro z t x;unfold Vd kR;obtain⟨b,e,g⟩:=Z4k h o d hK;have a:b.2.1.length<=1048576:=by have:=g.len;omega
  simp only[e,pA,uB b a,Vj]
  grind
 unfold Jg tD;obtain⟨q,i⟩:=uw h Aa;rw[Rj h Aa,i];simp only[pA];generalize l:(((!q)||(K3 (o<(0:Int))))||(K3 (o>(Lb.wrap ((4611686018427387903:Int)- (d.length:Int))))))=c;cases c
 ·obtain⟨v,k⟩:=Qjo r (Lb.wrap (o+(d.length:Int))) f;rw[pH,k,pA];generalize ((v !=(0:Int))||(K3 (r.1>(1:Int))))=c;cases c
  ·cases f
   ·exact j _ _ _
   ·exact j _ _ _
  ·exact⟨_,_,rfl,h.mono Aa⟩
 ·exact⟨_,_,rfl,h.mono Aa⟩
theorem IK(h:iw K r.2.1)(hK:K<=1000000)(c f:Int):
  ∃y v,W6 r c f=K2 (y,v,())/\iw K y.2.1:=by
 unfold W6 gH;obtain⟨q,a⟩:=uw h hK;obtain⟨v,b⟩:=Qjo r f K4;rw[Rj h hK,a,b];simp only[pA,Jl,Vj];generalize ((_||_)||_:Bool)=x;cases x
 ·generalize ((_||_):Bool)=x;cases x
  ·exact⟨_,_,rfl,Ac,by simp[pw]⟩
  simp_all
 simp_all
theorem Zvr(h:iw K r.2.1)(hK:K<=1000000)(m:Int):
  ∃s y,bJ r m=K2 ((s,y,()),())/\iw K y.2.1/\s.length<=K:=by
 unfold bJ;obtain⟨q,a⟩:=uw h hK;obtain⟨s,b,c,d,e⟩:=Co h hK m;rw[Rj h hK,a,c];simp only[pA];cases q
 ·grind
 ·simp only[pI,pH];cases r.1==(4:Int)
  ·rw[pH];unfold ji
   grind
  grind
theorem CM(n a b:Int):Z9 n a b=K2 (K3 (n>=a)&&K3 (n<=b),()):=rfl
theorem Qev(n:Int):∃b,eF n=K2 (b,()):=⟨_,rfl⟩
theorem Ei(c:cP):∃b,aL c=K2 (b,()):=by obtain⟨b,h⟩:=Qev c.1;simp_all[aL,CM,Vj]
theorem uZ(c:Y3):∃b,Jd c=K2 (b,()):=by simp_all[Jd,Jl,CM,Vj]
theorem KW(w:Qr):∃b,Vr w=K2 (b,()):=by simp_all[Vr,CM,Vj]
theorem Hy(p:Xd):∃b,cv p=K2 (b,()):=by simp_all[cv,CM]
theorem Qlu(n:Int):∃c b,bZ n=K2 (c,b,()):=by
 unfold bZ;simp only[Jl,pA,Vj]
 grind
theorem Z8u(n m:Int):∃c b,cd n m=K2 (c,b,()):=by
 unfold cd;simp only[CM,pA,Vj]
 grind
theorem Qit(s:Bool)(n:Int):∃b,Wf s n=K2 (b,()):=by simp_all[Wf,bd,kt,vp,Jl,Vj]
theorem Z29(s:Bool)(n:Int):∃b,Y9 s n=K2 (b,()):=by simp_all[Y9,bd,kt,vp,Jl,Vj]
structure Xz(K:Nat)(s:Zj):Prop where
 snd:Wt K s.2.1
 rcv:iw K s.2.2.2.1.2.1
theorem Xz.mono{K K':Nat}{s:Zj}(h:Xz K s)(hK:K<=K'):Xz K' s:=⟨h.snd.mono Aa,h.rcv.mono hK⟩
theorem n7(h:Xz K s)(hK:K<=1000000):∃b,aU s=K2 (b,()):=by
 obtain⟨g,a,-⟩:=nK h.snd;obtain⟨i,c⟩:=uZ s.2.2.1;obtain⟨j,d⟩:=uw h.rcv hK;obtain⟨k,e⟩:=KW s.2.2.2.2.1;obtain⟨l,f⟩:=Hy s.2.2.2.2.2.1;unfold aU gH;simp only[a,c,d,e,f,Jl,Vj,pA]
 grind
theorem B4(c:Qg)(hc:Ys c):∃y c',cy c=K2 ((y,()),c',())/\Ys c'/\(y.1=4\/y.1=8\/y.1=16):=by
 unfold cy zn;obtain⟨x,b,a,d,-,-⟩:=VQ c 3 hc;simp only[a,pA];cases x==(0:Int)
 ·rw[pH];cases x==(1:Int)
  all_goals grind
 grind
theorem QG(h:Xz K s)(hK:K<=1000000:=by omega):ly s=K2 (s,()):=by unfold ly;rw[xd h.snd,Rj h.rcv hK];rfl
theorem Qn8(l:List Zj)(n:Int)(hl:l.length<=1000000):∀(N i:Nat),l.length-i<N->i<=l.length-> ∃v,Kg N l n (i:Int)=K2 (v,())/\(v<0\/v<l.length)/\(v<0-> ∀s∈l.drop i,s.1≠n)/\(0<=v->(l.getD v.toNat Zc).1=n)
 |0,_,h,_=>Aa
 |N+1,i,d,f=>by
  unfold Kg;by_cases h:i<l.length
  ·rw[Zl (Zk),Zb,show(i:Int).toNat=i from rfl];by_cases e:(l.getD i Zc).1=n
   ·rw[Zl (beq_iff_eq.2 e)];exact⟨_,rfl,Aa,λh=>Aa,λ_=>e⟩
   ·rw[Zo (beq_eq_false_iff_ne.2 e),Zr h];obtain⟨v,a,b,g,c⟩:=Qn8 l n hl N (i+1) Aa Aa;refine⟨v,a,b,λhv s j=>?_,c⟩
    grind(splits:=20)[Qx]
  simp_all[Zm,Lm]
theorem Gw(l:List Zj)(n:Int)(hl:l.length<=1000000):∃v,Kf l n=K2 (v,())/\(v<0\/v<l.length)/\(v<0-> ∀s∈l,s.1≠n)/\(0<=v->(l.getD v.toNat Zc).1=n):=by unfold Kf;exact Qn8 l n hl _ 0 (by simp[Jc]) Aa
structure nh(K:Nat)(l:List Zj):Prop where
 len:l.length<=K
 all:∀s∈l,Xz K s
theorem nh.mono{K K':Nat}{l:List Zj}(h:nh K l)(hK:K<=K'):nh K' l:=⟨Lx h.len hK,λs a=>(h.all s a).mono hK⟩
theorem Qvn{K:Nat}{l:List Zj}{s:Zj}(h:nh K l)(hs:Xz K s)(hK:K<=500000)(a:Int):∀(N i:Nat)(out:List Zj)(p:Bool),l.length-i<N->i<=l.length->(∀x∈out,Xz K x)->out.length<=i+(ite p 1 0)->
  ∃y,Yt N l s out a p (i:Int)=K2 (y,())/\y.length<=l.length+1/\ ∀x∈y,Xz K x
 |0,_,_,_,h,_,_,_=>Aa
 |N+1,i,out,p,w,A,b,f=>by
  have g:=h.len;have m:out.length<=i+1:=Ai
  have c:∀{o:List Zj}{x},(∀x∈o,Xz K x)->Xz K x-> ∀z∈o++[x],Xz K z:=λb hx z B=>by
   grind
  unfold Yt;by_cases k:i<l.length
  ·have e:=h.all _ (Z5 (d:=Zc) k);rw[Zl (Zk),Zb,show(i:Int).toNat=i from rfl,QG e,QG hs];simp only[pA];have j:∀(o:List Zj)(q:Bool) x,(∀x∈o,Xz K x)->Xz K x->o.length<=i+(ite q 1 0)->
     ∃y,Jo (λv=>Yt N v.1 v.2.1 v.2.2.1 v.2.2.2.1 v.2.2.2.2.1 v.2.2.2.2.2.1) l s o a q (i:Int) x=K2 (y,())/\y.length<=l.length+1/\ ∀x∈y,Xz K x:=by
    intro o q x n r t;have u:o.length<=i+1:=by split at t<;>omega
    unfold Jo;rw[Zb Aj,Zr k];exact Qvn h hs hK a N (i+1) (o++[x]) q Aa Aa (c n r) Ai
   cases (i:Int)==a
   ·rw[pH,Zb (λ_=>Aa)];cases p
    ·simp only[Ll,pJ];cases K3 ((l.getD i Zc).1>s.1)
     ·exact j _ _ _ b e f
     ·rw[pG,Zb Aj];exact j _ _ _ (c b hs) e Ai
    ·exact j _ _ _ b e f
   ·exact j _ _ _ b hs f
  ·rw[Zo (Zm),QG hs];cases p
   ·simp only[Ll,pG,pA]
    grind(splits:=20)[Zb,Qd]
   grind
theorem Z86(h:nh K l)(hs:Xz K s)(hK:K<=500000:=by omega):∃y,Xn l s=K2 (y,())/\y.length<=l.length+1/\ ∀x∈y,Xz K x:=by unfold Xn;obtain⟨v,e,-⟩:=Gw l s.1 (by have:=h.len;omega);rw[e,pA];exact Qvn h hs hK _ _ 0 [] _ (by simp[bg]) Aa Ac Ac
theorem Qq2:Xz 0 (((0:Int),((0:Int),((0:Int),(0:Int),(0:Int),([]:List Int),()),([]:List Zi),([]:List Zi),([]:List Zi),(0:Int),(0:Int),(0:Int),(0:Int),()),((0:Int),(0:Int),(0:Int),(0:Int),()),((0:Int),((0:Int),([]:List Qj),()),(0:Int),(0:Int),(0:Int),()),((0:Int),(0:Int),(0:Int),(0:Int),(0:Int),(0:Int),()),((0:Int),Lc,()),Lc,Lc,Lc,Lc,Lc,Lc,(0:Int),Lc,()):Zj):=⟨{cells:=Ac,e0:=Lh _,eK:=Lh _,pend:=rY _,pT:=rY _,pO:=rY _},Ac,by simp[pw]⟩
theorem Qqn(h:nh K c.2.2.2.1)(hK:K<=1000000)(n:Int):∃s b,X8 c n=K2 (s,b,())/\Xz K s:=by
 unfold X8 gG gJ;obtain⟨v,e,f,-⟩:=Gw c.2.2.2.1 n (by have:=h.len;omega);rw[e,pA];by_cases hv:v<0
 ·rw[Zl (Zk hv)];exact⟨_,_,rfl,Qq2.mono Aa⟩
 ·have a:=h.all _ (Z5 (l:=c.2.2.2.1) (i:=v.toNat) (d:=Zc));rw[Zo (Zm hv),Zb Ag,QG a hK];simp_all
theorem Qsk(n:Int):∃v,uF n=K2 (v,()):=by
 unfold uF;rw[Jl,pA,Zb,Vj]
 grind
theorem ne(c:Y3):∃b,bb c=K2 (b,()):=by simp_all[bb,CM,Vj]
theorem FH(c:dI):∃b,iK c=K2 (b,()):=by simp_all[iK,CM,Vj]
theorem Qug{K:Nat}{l:List Zj}(h:nh K l)(hK:K<=1000000):∀(N i:Nat),l.length-i<N->i<=l.length-> ∃b,K5 N l (i:Int)=K2 (b,())
 |0,_,h,_=>Aa
 |N+1,i,f,g=>by
  have a:=h.len;unfold K5;by_cases c:i<l.length
  ·obtain⟨b,e⟩:=n7 (h.all _ (Z5 (d:=Zc) c)) hK;rw[Zl (Zk),Zb,show(i:Int).toNat=i from rfl,e,pA,Zb (λ_ _=>Aa),
    Zb (λ_ h=>by have:=pE h;grind[Zs]),Zr c]
   exact E2 (P:=λm b=>m=K2 (b,())) ⟨_,rfl⟩ (Qug h hK N (i+1) Aa Aa)
  simp_all[Zm]
theorem VP(h:nh K l)(hK:K<=1000000):∃b,Vg l=K2 (b,()):=by unfold Vg;exact Qug h hK _ 0 (by simp[dh]) Aa
theorem jL(h:nh K l)(hK:K<=1000000):∃v,jk l=K2 (v,()):=by
 obtain⟨b,e⟩:=VP h hK;have a:=h.len;have c:∀(N i:Nat)(n:Int),l.length-i<N->i<=l.length-> ∃v,Vt N l n (i:Int)=K2 (v,()):=by
  intro N
  induction N with
  |zero=>omega
  |succ N d=>
   intro i n g j;unfold Vt;rw[e,Vj,pA];by_cases f:i<l.length
   ·rw[Zb,Zr f];exact E2 (P:=λm b=>m=K2 (b,())) (d (i+1) _ Aa Aa) ⟨_,rfl⟩
   simp_all[Zm]
 unfold jk;exact c _ 0 0 (by simp[Jq]) Aa
theorem HP(h:nh K l)(hK:K<=1000000):∃v,jj l=K2 (v,()):=by
 obtain⟨b,e⟩:=VP h hK;have a:=h.len;have c:∀(N i:Nat)(n:Int),l.length-i<N->i<=l.length-> ∃v,Vs N l n (i:Int)=K2 (v,()):=by
  intro N
  induction N with
  |zero=>omega
  |succ N d=>
   intro i n g j;unfold Vs;rw[e,Vj,pA];by_cases f:i<l.length
   ·rw[Zb,Zr f];exact E2 (P:=λm b=>m=K2 (b,())) (d (i+1) _ Aa Aa) ⟨_,rfl⟩
   simp_all[Zm]
 unfold jj;exact c _ 0 0 (by simp[Jp]) Aa
def T{α:Type}(m:Option α)(Q:α->Prop):Prop:= ∃y,m=K2 y/\Q y
abbrev TT{α:Type}(m:Option α):Prop:=T m λ_=>True
section
variable {α β:Type}{m n:Option α}{f:α->Option β}{Q:α->Prop}{R:β->Prop}
theorem T.bind(h:T m Q)(k:∀y,Q y->T (f y) R):T (Le m f) R:=by obtain⟨y,e,a⟩:=h;simp_all
theorem T.pure{y:α}(h:Q y):T (K2 y) Q:=⟨y,rfl,h⟩
theorem T.tt{y:α}:TT (K2 y):=⟨y,rfl,trivial⟩
theorem T.ite{c:Bool}(h1:c=K4->T m Q)(h2:c=Lc->T n Q):T (cond c m n) Q:=by grind
theorem T.if{c:Bool}(h1:T m Q)(h2:T n Q):T (cond c m n) Q:=T.ite (λ_=>h1) λ_=>h2
theorem T.guard(hp:p)(h:T m Q):T (Zd p m) Q:=by simp_all[Zb]
theorem T.mono{Q':α->Prop}(h:T m Q)(k:∀y,Q y->Q' y):T m Q':=by obtain⟨y,e,a⟩:=h;exact⟨y,e,k y a⟩
end
theorem qL{m:Oa α}(h:∃b,m=K2 (b,())):TT m:=by obtain⟨b,e⟩:=h;exact⟨_,e,trivial⟩
def RH(f:Zh):Prop:=f.2.2.2.1.length<=1000
def Ep(l:List Zh):Prop:=l.length<=1000/\ ∀f∈l,RH f
def P0(K:Nat)(l:List Qf):Prop:=l.length<=K/\ ∀p∈l,Ep p.2.1
theorem P0.mono{l:List Qf}(h:P0 K l)(hK:K<=K'):P0 K' l:=⟨Lx h.1 hK,h.2⟩
structure Qa(K:Nat)(c:Zf):Prop where
 str:nh K c.2.2.2.1
 pk:P0 K c.2.2.2.2.2.2.2.2.2.2.2.2.2.2.2.1
theorem Qa.mono{K K':Nat}{c:Zf}(h:Qa K c)(hK:K<=K'):Qa K' c:=⟨h.str.mono hK,h.pk.mono hK⟩
theorem Z8y{K:Nat}{l:List Qf}(h:P0 K l)(hK:K<=1000000):∀(N i:Nat),l.length-i<N->i<=l.length->mT N l (l.take i) (i:Int)=K2 (l,())
 |0,_,h,_=>Aa
 |N+1,i,b,c=>by
  have f:=h.1;unfold mT gG gK;by_cases a:i<l.length
  ·have g:=(h.2 _ (Z5 (d:=Q8) a)).1;rw[Zl (Zk),Zb,Zb,show(i:Int).toNat=i from rfl,Zb Aj];simp only[Ms];rw[Zb Aj,Zr a];have e:l.take i++[((l.getD i Q8).1,(l.getD i Q8).2.1,())]=l.take (i+1):=by
    grind[M7]
   rw[e];exact Z8y h hK N (i+1) Aa Aa
  grind
theorem Qgy{l:List Qf}(h:P0 K l)(hK:K<=1000000):QU l=K2 (l,()):=by unfold QU;exact Z8y h hK _ 0 (by simp[sy]) Aa
theorem Z8m{K:Nat}{c:Zf}(h:Qa K c)(hK:K<=1000000)(t:Zf):∀(N i:Nat),c.2.2.2.1.length-i<N->i<=c.2.2.2.1.length->
  vu N c t (c.1,c.2.1,c.2.2.1,c.2.2.2.1.take i,c.2.2.2.2) (i:Int)=K2 (c,())
 |0,_,h,_=>Aa
 |N+1,i,b,f=>by
  have g:=h.str.len;unfold vu gG gJ tD tK;by_cases a:i<c.2.2.2.1.length
  ·rw[Zl (Zk),Zb,show(i:Int).toNat=i from rfl,QG (h.str.all _ (Z5 (d:=Zc) a)) hK,pA,
    Zb Aj,Zr a]
   have e:c.2.2.2.1.take i++[c.2.2.2.1.getD i Zc]=c.2.2.2.1.take (i+1):=by
    simp_all
   simp only[e];exact Z8m h hK t N (i+1) Aa Aa
  ·rw[Zo (Zm),M6 Aa,Qgy h.pk hK];rfl
theorem Yn(h:Qa K c)(hK:K<=1000000:=by omega):Qi c=K2 (c,()):=by unfold Qi tD;exact Z8m h hK _ _ 0 (by simp[yI]) Aa
theorem qH(h:RH f):TT (W5 f):=⟨_,uK f Ap,trivial⟩
theorem Z8n{l:List Zh}(h:Ep l):TT (jn l):=by
 have c:∀(N i:Nat),l.length-i<N->i<=l.length->TT (W7 N l (i:Int)):=by
  intro N
  induction N with
  |zero=>intro i h;omega
  |succ N b=>
   intro i d e;have f:=h.1;unfold W7;refine T.ite (λa=>?_) λ_=>T.tt;have a:=pE a;refine T.guard Aa ((qH (h.2 _ (Z5))).bind λt _=>T.if T.tt ?_);rw[Zr (m:=l.length)];exact b (i+1) Aa Aa
 grind[jn,V9]
theorem Hm(n a b:Int):TT (Z9 n a b):=⟨_,CM n a b,trivial⟩
theorem ME(n:Int):TT (Q5 n):=⟨_,Jl n,trivial⟩
theorem Zzh(h:nh K l)(hK:K<=1000000):T (Vg l) λr=>r.1=K4->l.length<=24:=by
 have a:=h.len;have d:∀(N i:Nat),l.length-i<N->i<=l.length->T (K5 N l (i:Int)) λr=>r.1=K4->l.length<=24:=by
  intro N
  induction N with
  |zero=>intro i h;omega
  |succ N c=>
   intro i e f;unfold K5;refine T.ite (λb=>?_) λ_=>T.pure λh=>Ai
   have b:=pE b;refine T.guard Aa ((qL (n7 (h.all _ (Z5)) hK)).bind λt _=>T.guard (λ_ _=>Aa) (T.guard (λ_ h=>?_) (T.if (T.pure λh=>by cases h) ?_)))
   ·have:=pE h
    grind[Zs]
   ·rw[Zr (m:=l.length)];exact c (i+1) Aa Aa
 grind[Vg,dh]
theorem EH(h:Qa K c)(hK:K<=1000000):T (Yd c) λr=>r.1=K4->c.2.2.2.1.length<=24:=by
 have d:∀(N i:Nat),c.2.2.2.2.2.2.2.2.2.2.2.2.2.2.2.1.length-i<N->i<=c.2.2.2.2.2.2.2.2.2.2.2.2.2.2.2.1.length->TT (aM N c (i:Int)):=by
  intro N
  induction N with
  |zero=>intro i h;omega
  |succ N e=>
   intro i o p;have q:=h.pk.1;unfold aM;refine T.ite (λa=>?_) λ_=>?_
   ·have a:=pE a;refine T.guard Aa ((Hm _ _ _).bind λt _=>T.guard (λ_ _=>Aa) (T.guard (λ_ h=>?_) (T.guard (λ_=>Aa) (T.bind (Q:=λ_=>True) (T.if T.tt (Z8n (h.pk.2 _ (Z5)))) λs _=>T.if T.tt ?_))))
    ·have:=pE h
     grind[Zs]
    ·rw[Zr (m:=c.2.2.2.2.2.2.2.2.2.2.2.2.2.2.2.1.length)];exact e (i+1) Aa Aa
   ·exact(Hm _ _ _).bind λt _=>T.bind (Q:=λ_=>True) (T.if (Hm _ _ _) T.tt) λt _=>T.bind (Q:=λ_=>True) (T.if (Hm _ _ _) T.tt) λt _=>T.bind (Q:=λ_=>True) (T.if (Hm _ _ _) T.tt) λt _=>
     T.bind (Q:=λ_=>True) (T.if (qL (jL h.str hK)) T.tt) λt _=>T.bind (Q:=λ_=>True) (T.if (qL (HP h.str hK)) T.tt) λt _=>T.tt
 unfold Yd gH;have B:∀{α β:Type}{b:Bool}{m n:Option α}{f:α->Option β}{R:β->Prop},TT m->TT n->(∀y,T (f y) R)->T (Le (cond b m n) f) R:=λg j k=>(T.if g j).bind λy _=>k y;exact(qL (Ei _)).bind λt _=>B T.tt (qL (Ei _)) λt=>T.bind (Q:=λr=>r.1=K4->c.2.2.2.1.length<=24) (T.if (T.pure λh=>by cases h) (Zzh h.str hK)) λt l=>B T.tt (qL (uZ _)) λt=>B T.tt (qL (KW _)) λt=>B T.tt (qL (FH _)) λt=>B T.tt (qL (FH _)) λt=>B T.tt (qL (ne _)) λt=>B T.tt (qL (ne _)) λt=>
  T.ite (λ_=>T.pure λh=>by cases h) λa=>(d _ 0 (by simp[Vc]) Aa).mono λ_ _ _=>l Af
theorem Fi(h:Qa K c)(hK:K<=1000000:=by omega):TT (Yd c):=(EH h hK).mono λ_ _=>trivial
theorem Qd6(h:Qa K c)(hK:K<=1000000):T (Ka c) λr=>r.1=K4->c.2.2.2.1.length<=24:=by unfold Ka;exact(EH h hK).bind λt a=>T.bind (Q:=λ_=>True) (T.if ⟨_,rfl,trivial⟩ T.tt) λb _=>T.pure λh=>a Af
theorem KX(h:Qa K c)(hK:K<=1000000:=by omega):TT (Ka c):=(Qd6 h hK).mono λ_ _=>trivial
theorem Q0o(n:Int):T (eF n) λr=>r.1=K4->0<n/\n<=64:=⟨_,rfl,λh=>by simp at h;omega⟩
theorem Qhc(n:Int):T (mP n) λr=>Wt 0 r.1:=by
 unfold mP E6;have z:Wt 0 J2:={cells:=(by simp[J2]),e0:=Lh _,eK:=Lh _,pend:=rY _,pT:=rY _,pO:=rY _}
 refine T.bind (Q:=λr=>r.2.1=K4->r.1.2.2.2.1.length<=64/\r.1.2.2.1=0) ((Q0o n).bind λt a=>T.ite (λ_=>T.pure λh=>by cases h) λb=>?_) λt a=>T.ite (λ_=>T.pure z) λb=>T.pure ?_
 ·have:=a (by simpa using b);exact T.guard Aj (T.pure λ_=>⟨Ae,rfl⟩)
 constructor<;>grind[rY]
theorem Ij(v:Bool)(i:Int)(o p:cP):T (ca v i o p) λr=>Xz 0 r.1:=by
 obtain⟨l,a⟩:=Ei o;obtain⟨m,b⟩:=Ei p;obtain⟨n,c⟩:=Qit v i;obtain⟨q,d⟩:=Z29 v i;obtain⟨⟨s,t,u⟩,e,f⟩:=Qhc o.1;obtain⟨w,y,g⟩:=Qlu p.2.1;obtain⟨z,A,h⟩:=Z8u o.2.1 o.2.2.1;obtain⟨r,j,k⟩:=Qen;unfold ca gH dl;simp only[a,b,c,d,e,g,h,j,Jl,Vj,pA];generalize ((_||_)||_:Bool)=x;cases x
 ·exact T.pure (by exact⟨f,k⟩)
 ·exact T.pure Qq2
theorem jS(v:Bool)(n:Int):TT (kt v n):=by unfold kt vp;simp only[Jl,pA,Vj];exact⟨_,rfl,trivial⟩
theorem Rg(n:Int):TT (bd n):=by unfold bd;simp only[Jl,pA];exact⟨_,rfl,trivial⟩
theorem Ql1(c:dI):TT (wn c):=by unfold wn;exact(qL (FH c)).bind λt _=>T.if T.tt (T.if T.tt T.tt)
theorem Qs1(n:Int)(s u:Bool):TT (tw n s u):=by
 unfold tw;have j:∀u i,TT (mN u i):=λu i=>by simp_all[mN,T.if,T.tt]
 exact(Hm _ _ _).bind λt _=>T.if T.tt (T.guard Aa (T.if (j _ _) (j _ _)))
theorem Jt(h:nh K l)(hs:Xz K' s)(hk:K<=K':=by omega)(hK:K'+1<=500000:=by omega):T (Xn l s) λr=>nh (K'+1) r.1:=by obtain⟨y,e,b,a⟩:=Z86 (h.mono hk) hs;have:=h.len;exact⟨_,e,Ag,λx hx=>(a x hx).mono Aa⟩
theorem rr(h:Qa K c)(hK:K<=1000000)(n:Int):T (X8 c n) λr=>Xz K r.1:=by obtain⟨s,b,e,a⟩:=Qqn h.str hK n;exact⟨_,e,a⟩
theorem Qa.up(h:Qa K c)(hk:K<=K')(hl:nh K' l):Qa K' (c.1,c.2.1,c.2.2.1,l,c.2.2.2.2):=⟨hl,h.pk.mono hk⟩
theorem Z5m(h:Qa K c)(hK:K+1<=500000)(u:Bool):T (cw c u) λr=>Qa (K+1) r.2.1:=by
 unfold cw;rw[Yn h,pA];have a:∀u x t i b,Qa K x->T (V7 u c t x i b) λr=>Qa (K+1) r.2.1:=λu x t i b hx=>by
  unfold V7 tD;exact T.if (T.pure (hx.mono Aa)) ((Qs1 _ _ _).bind λe _=>(Ij _ _ _ _).bind λj f=>(Jt hx.str (f.mono Aa) (Lj _)).bind λk g=>T.pure (hx.up Aa g))
 have d:∀u t n,T (V6 u c t c n) λr=>Qa (K+1) r.2.1:=λu t n=>by
  unfold V6 tH tL;exact(Ql1 _).bind λe _=>T.if (a _ _ _ _ _ ⟨h.str,h.pk⟩) (a _ _ _ _ _ ⟨h.str,h.pk⟩)
 exact(KX h).bind λt _=>T.if (T.pure (h.mono Aa)) (T.if (d _ _ _) (d _ _ _))
theorem Z0r(h:Qa K c)(i:Int)(d:Ba)(hK:K+d.length+1<=500000:=by omega):T (bh c i d) λr=>Qa (K+d.length+1) r.2.1:=by unfold bh tD tR;rw[Yn h,pA];refine(rr h Aa i).bind λs a=>(KX h).bind λt _=>T.if (T.pure (h.mono Aa)) ?_;obtain⟨x,n,e,b⟩:=Z0q a.snd d;rw[e,pA];exact(Jt h.str (K':=K+d.length) (by exact⟨b.mono (by omega),a.rcv.mono (by omega)⟩)).bind λg f=>T.pure (h.up Aa f)
theorem Ztx(h:Qa K c)(hK:K+1<=500000)(i:Int):T (ea c i) λr=>Qa (K+1) r.1:=by unfold ea tD tR;rw[Yn h,pA];refine(rr h Aa i).bind λs a=>(KX h).bind λt _=>T.if (T.pure (h.mono Aa)) ?_;obtain⟨x,f,e,b⟩:=Zzo a.snd;rw[e,pA];exact T.if (T.pure (h.mono Aa)) ((Jt h.str (by exact⟨b,a.rcv⟩) (Lj _)).bind λg d=>T.pure (h.up Aa d))
theorem Z57(w:Qr)(n:Int):TT (mR w n):=by unfold mR tJ;exact(qL (KW w)).bind λt _=>T.if T.tt T.tt
theorem Qjl(h:Qa K x)(hs:Xz K s)(n:Int):T (uM x s n) λr=>Qa K r.2.1/\Xz K r.2.2.1:=by unfold uM;exact(Z57 _ _).bind λt _=>(Z57 _ _).bind λa _=>T.pure ⟨⟨h.str,h.pk⟩,hs.snd,hs.rcv⟩
theorem Qmf(h:iw K r.2.1)(hK:K<=1000000):TT (vn r):=by grind[vn,uw,T.tt]
theorem Qos(h:Xz K s)(hK:K<=1000000):TT (yE s):=by unfold yE QP vo gH;exact(qL (n7 h hK)).bind λt _=>T.bind (Q:=λ_=>True) (T.if T.tt T.tt) λt _=>T.bind (Q:=λ_=>True) (T.if (T.bind (Q:=λ_=>True) (T.if T.tt (Qmf h.rcv hK)) λt _=>T.tt) T.tt) λt _=>T.tt
theorem Z73(a:Y3):TT (iG a):=by unfold iG tD;exact(qL (ne a)).bind λt _=>T.if T.tt T.tt
theorem Qsq(h:Qa K x)(hs:Xz K s)(hK:K<=1000000):T (JX x s) λr=>Qa K r.2.1/\Xz K r.2.2.1:=by unfold JX gH tA tB tC;exact T.bind (Q:=λ_=>True) (T.if T.tt (jS _ _)) λt _=>T.bind (Q:=λ_=>True) (T.if T.tt (Qos hs hK)) λt _=>T.if (T.pure ⟨h,hs⟩) ((Rg _).bind λt _=>T.if ((Z73 _).bind λt _=>T.pure ⟨⟨h.str,h.pk⟩,hs.snd,hs.rcv⟩) ((Z73 _).bind λt _=>T.pure ⟨⟨h.str,h.pk⟩,hs.snd,hs.rcv⟩))
theorem PL(h:Qa K x)(hs:Xz K' s)(hk:K<=K':=by omega)(hK:K'+1<=500000:=by omega):T (cz x s) λr=>Qa (K'+1) r.2.1:=by unfold cz tD;exact(Qsq (h.mono hk) hs Aa).bind λt a=>(Jt a.1.str a.2 (Lj _) hK).bind λc b=>T.pure (a.1.up Aa b)
theorem Z58(h:Qa K c)(hK:K+1<=500000)(i m:Int):T (kx c i m) λr=>Qa (K+1) r.1.2.2.1/\r.1.1.length<=K:=by
 unfold kx tD;rw[Yn h,pA];refine(rr h Aa i).bind λs a=>(KX h).bind λt _=>T.if (T.pure ⟨h.mono Aa,Lq _⟩) ?_;obtain⟨d,r,e,b,g⟩:=Zvr a.rcv Aa m;rw[e,pA];have j:∀t x s r,Qa K x->Xz K s->T (cO t x s d r) λr=>Qa (K+1) r.1.2.2.1/\r.1.1.length<=K:=λt x s r hx a=>by
  unfold cO;exact(PL hx a (Lj _) hK).bind λl k=>T.pure ⟨k,g⟩
 exact T.if ((Qjl h (by exact⟨a.snd,b⟩) _).bind λt f=>j _ _ _ _ f.1 f.2) (j _ _ _ _ h (by exact⟨a.snd,b⟩))
theorem Z0g(h:Qa K c)(hK:K+1<=500000)(i k:Int):T (ij c i k) λr=>Qa (K+1) r.1.1:=by unfold ij tV;rw[Yn h,pA];refine(rr h Aa i).bind λs a=>(KX h).bind λt _=>T.if (T.pure (h.mono Aa)) ?_;obtain⟨x,f,e,b⟩:=Bl a.snd k;rw[e,pA];exact T.if (T.pure (h.mono Aa)) ((PL h (by exact⟨b,a.rcv⟩) (Lj _) hK).bind λg d=>T.pure d)
theorem Fa(s:Ba)(hs:s.length<=1000000)(b:Int):∀(N i:Nat)(out:List Ba)(p:Ba),s-i<N->i<=s->out<=i->p<=i->(∀x∈out,x<=i)->
  T (eA N s b out p (i:Int)) λr=>r.1<=s.length+1/\ ∀x∈r.1,x<=s.length
 |0,_,_,_,h,_,_,_,_=>Aa
 |N+1,i,out,p,e,f,d,g,hx=>by
  have a:∀{k:Nat}{o:List Ba} {x},(∀x∈o,x<=k)->x.length<=k-> ∀z∈o++[x],z.length<=k:=λd hx z j=>by
   grind
  unfold eA;refine T.ite (λc=>?_) λ_=>T.guard Aj (T.pure ⟨Ae,a (λx h=>Ai) Aa⟩);have c:i<s:=Af
  refine T.guard Aa (T.if (T.guard Aj ?_) (T.guard ?_ (T.guard ?_ ?_)))
  ·unfold mS;rw[Zr c];exact Fa s hs b N (i+1) _ _ Aa Aa Ae Ac (a (λx h=>Ai) Aa)
  ·grind[Zr]
  ·grind[Z6]
  ·unfold mS;rw[Zr c];exact Fa s hs b N (i+1) _ _ Aa Aa Ag Ai (λx h=>Ai)
theorem Qzp(s:Ba)(hs:s.length<=1000000)(b:Int):T (yH s b) λr=>r.1<=s.length+1/\ ∀x∈r.1,x<=s.length:=by grind[yH,Fa,rm]
theorem Qkr:∀(N:Nat)(s:Ba),s<N->s.length<=1000000->T (ky N s) λr=>r.1<=s.length
 |0,_,h,_=>Aa
 |N+1,s,b,c=>by
  unfold ky;refine T.guard (λh=>?_) (T.ite (λa=>?_) λ_=>T.pure (Lj _))
  ·have:=pE h
   grind[Zs]
  ·have:(s:Int)>0:=by simp at a;omega
   refine T.guard Al ((Qkr N _ ?_ ?_).mono λy d=>?_)
   all_goals (simp only[List.length_take,List.length_drop]at*;rw[Zs]at*;omega)
theorem Qkq:∀(N:Nat)(s:Ba),s<N->s.length<=1000000->T (fc N s) λr=>r.1<=s.length
 |0,_,h,_=>Aa
 |N+1,s,c,a=>by
  unfold fc;refine T.guard (λh=>?_) (T.ite (λb=>?_) λ_=>Qkr _ s (by simp[jm]) a)
  ·simp_all
  ·have:(s:Int)>0:=by simp at b;omega
   refine T.guard Aa ((Qkq N _ ?_ ?_).mono λy d=>?_)
   all_goals grind
theorem Q1g(s:Ba)(hs:s.length<=1000000):T (zr s) λr=>r.1<=s.length:=by simp_all[zr,Qkq,pe]
theorem Qxq(p:Xd)(s:Ba)(hs:s.length<=100000):TT (ia p s):=by
 have c:∀(l:List Ba),l.length<=100001->(∀x∈l,x.length<=100000)-> ∀(t:Xd)(N i:Nat)(b:Xd),l-i<N->i<=l->TT (Yq N b t l (i:Int)):=by
  intro l f hx t N
  induction N with
  |zero=>omega
  |succ N e=>
   intro i b g k;unfold Yq tR;refine T.ite (λa=>?_) λ_=>T.tt;have a:i<l:=Af
   have j:∀b,TT (J8 (λv=>Yq N v.1 v.2.1 v.2.2.1 v.2.2.2.1) b t l (i:Int)):=λb=>by
    unfold J8;rw[Zr a];exact e (i+1) _ Aa Aa
   refine T.guard Aa ((Q1g _ Ai).bind λt _=>T.if (j _) (T.if (j _) (T.guard (λh=>?_) (T.guard (λh=>?_) (T.guard (λh=>?_) (T.ite (λh=>T.guard ?_ (j _)) λ_=>j _))))))
   all_goals simp_all
 have j:∀b t,TT (Wy s b t):=λb t=>by
  unfold Wy;exact(Qzp s Aa 44).bind λr m=>c _ Aa (λx hx=>Ai) _ _ 0 _ (by simp[mO]) Aa
 unfold ia;have d:TT dl:=⟨_,rfl,trivial⟩
 exact(qL (Hy p)).bind λt _=>T.if (d.bind λt _=>j _ _) (j _ _)
theorem Z0k(h:Qa K c)(hK:K+1<=500000)(i:Int)(x:Ba)(hx:x.length<=100000):T (io c i x) λr=>Qa (K+1) r.1:=by unfold io tD tT;rw[Yn h,pA];exact(rr h Aa i).bind λs a=>(KX h).bind λt _=>T.if (T.pure (h.mono Aa)) ((Qxq _ x hx).bind λt _=>(Jt h.str (by exact⟨a.snd,a.rcv⟩) (Lj _) hK).bind λd b=>T.pure (h.up Aa b))
theorem x5(w:Qr):TT (aN w):=by unfold aN;exact(qL (KW w)).bind λt _=>T.guard (λ_=>Aa) T.tt
theorem Zvn(w:Qr)(n t:Int):TT (Wl w n t):=by
 unfold Wl gH;have j:∀n w t,TT (kQ n w t):=λn w t=>⟨_,rfl,trivial⟩
 exact(x5 w).bind λt _=>T.bind (Q:=λ_=>True) (T.if T.tt (Hm _ _ _)) λt _=>T.bind (Q:=λ_=>True) (T.if T.tt (Hm _ _ _)) λt _=>T.if T.tt (T.if (j _ _ _) (j _ _ _))
theorem Qd7(c:Zf):TT (lR c):=by unfold lR;exact(x5 _).bind λt _=>T.if ((Zvn _ _ _).bind λt _=>T.tt) T.tt
theorem Z4z(a:Y3):TT (bY a):=by unfold bY;exact(qL (ne a)).bind λt _=>T.guard (λ_=>Aa) T.tt
theorem Qey(a:Y3):TT (cx a):=by unfold cx;exact(Z4z a).bind λt _=>T.if T.tt T.tt
theorem CR(a:Y3)(b:Bool):TT (ce a b):=by unfold ce;exact(Z4z a).bind λt _=>T.if ((Qey a).bind λt _=>T.tt) T.tt
theorem Z8o(c:Zf)(s:Zj):TT (jq c s):=by unfold jq;exact T.if T.tt ((x5 _).bind λt _=>T.if ((Zvn _ _ _).bind λt _=>T.tt) T.tt)
theorem Z8q(c:Y3):TT (qm c):=by unfold qm;exact(qL (uZ c)).bind λt _=>T.tt
theorem Qno(c:Y3):TT (bG c):=by unfold bG;exact(qL (uZ c)).bind λt _=>T.if T.tt T.tt
theorem Qva(c:Y3):TT (dz c):=by unfold dz;exact(qL (uZ c)).bind λt _=>T.if T.tt T.tt
def FL(n:Nat)(l:List Zh):Prop:=l<=n/\ ∀f∈l,RH f
theorem FL.one{n:Nat}{l:List Zh}(h:FL n l)(hf:RH f):FL (n+1) (l++[f]):=⟨by have:=h.1;simp;omega,λx hx=>by
 rcases L4.1 hx with hx|hx
 ·exact h.2 x hx
 simp_all⟩
theorem FL.app{n:Nat}{l:List Zh}(h:FL n l)(hk:FL m k):FL (n+m) (l++k):=⟨by have:=h.1;have:=hk.1;simp;omega,λx hx=>by
 rcases L4.1 hx with hx|hx
 ·exact h.2 x hx
 ·exact hk.2 x hx⟩
theorem FL.mono{n:Nat}{l:List Zh}(h:FL n l)(hn:n<=m):FL m l:=⟨Lx h.1 hn,h.2⟩
theorem FL.nil:FL 0 []:=⟨Lj _,Ac⟩
theorem Is(k:Int)(i o:Int)(x):RH ((k,i,o,([]:Ba),x):Zh):=Lq _
theorem FL.cap{n:Nat}{l:List Zh}(h:FL n l)(hn:n+k<=10000):l+k<=Qd:=by have:=h.1;grind[Qd]
theorem Qlo(c:Zf)(s:Zj):T (jp c s) λr=>FL 4 r.1:=by
 have b:∀o,FL 3 o->T (eD s o) λr=>FL 4 r.1:=λo a=>by
  unfold eD;exact(Z8q _).bind λt _=>T.if (T.guard (a.cap Ac) (T.pure (a.one (Is _ _ _ _)))) (T.pure (a.mono Aa))
 have d:∀o,FL 2 o->T (W9 c s o) λr=>FL 4 r.1:=λo a=>by
  unfold W9;exact(Z8o _ _).bind λt _=>T.if (T.guard (a.cap Ac) (b _ (a.one (Is _ _ _ _)))) (b _ (a.mono Aa))
 have e:∀o,FL 1 o->T (W8 c s o) λr=>FL 4 r.1:=λo a=>by
  unfold W8;exact T.if (T.guard (a.cap Ac) (d _ (a.one (Is _ _ _ _)))) (d _ (a.mono Aa))
 unfold jp;exact T.if (T.guard (FL.nil.cap Ac) (e _ (FL.nil.one (Is _ _ _ _)))) (e _ (FL.nil.mono Aa))
theorem Z66(h:Qa K c)(hK:K<=1000000):T (aF c) λr=>FL (4*c.2.2.2.1+6) r.1:=by
 have s:=h.str.len;have b:∀{n:Nat}{l k:List Zh},FL n l->n+k<=10000000->l+k<=Qd:=λh u=>by have:=h.1;grind[Qd]
 generalize u:c.2.2.2.1.length=n at s;have e:∀o,FL (4*n+5) o->T (Ww c o) λr=>FL (4*n+6) r.1:=λo a=>by
  unfold Ww;exact T.if (T.guard (b a Ae) (T.pure (a.one (Is _ _ _ _)))) (T.pure (a.mono Aa))
 have f:∀o,FL (4*n+4) o->T (Wv c o) λr=>FL (4*n+6) r.1:=λo a=>by
  unfold Wv;exact T.if (T.guard (b a Ae) (e _ (a.one (Is _ _ _ _)))) (e _ (a.mono Aa))
 have w:∀(N i:Nat)(o:List Zh),n-i<N->i<=n->FL (4*i+3) o->T (Ja N c o (i:Int)) λr=>FL (4*n+6) r.1:=by
  intro N
  induction N with
  |zero=>omega
  |succ N v=>
   intro i o x y a;unfold Ja;refine T.ite (λd=>?_) λd=>?_
   ·have d:=pE d;refine T.guard Aa ((Qlo _ _).bind λt g=>T.guard (b a (by have:=g.1;omega)) ?_);rw[Zr (m:=n)];exact v (i+1) _ Aa Aa ((a.app g).mono Aa)
   ·have d:=of_decide_eq_false d;have a:=a.mono (m:=4*n+3) Aa;exact(Z8q _).bind λt _=>T.if (T.guard (b a Ae) (f _ (a.one (Is _ _ _ _)))) (f _ (a.mono Aa))
 have j:∀o,FL 3 o->T (K9 c o) λr=>FL (4*n+6) r.1:=λo a=>by
  grind[K9,aG]
 have p:∀o,FL 2 o->T (K8 c o) λr=>FL (4*n+6) r.1:=λo a=>by
  unfold K8;exact(CR _ _).bind λt _=>T.if (T.guard (b a Ac) (j _ (a.one (Is _ _ _ _)))) (j _ (a.mono Aa))
 have q:∀o,FL 1 o->T (K7 c o) λr=>FL (4*n+6) r.1:=λo a=>by
  unfold K7;exact(CR _ _).bind λt _=>T.if (T.guard (b a Ac) (p _ (a.one (Is _ _ _ _)))) (p _ (a.mono Aa))
 unfold aF;exact(KX h hK).bind λt _=>T.if (T.pure (FL.nil.mono Aa)) ((Qd7 c).bind λt _=>T.if (T.guard (b FL.nil Ac) (q _ (FL.nil.one (Is _ _ _ _)))) (q _ (FL.nil.mono Aa)))
theorem Qfd(n:Int):T (lO n) λr=>0<=r.1/\r.1<=8:=by unfold lO;exact T.if (T.pure Ac) (T.if (T.pure Ac) (T.if (T.pure Ac) (T.if (T.pure Ac) (T.pure Ac))))
theorem Qn2(n k:Int):∀(N m:Nat)(s:Ba),m<N->m<=8->s+m<=8->T (Qw N n k s ((m:Int)-1)) λr=>r.1.length<=8
 |0,_,_,h,_,_=>Aa
 |N+1,0,s,_,_,a=>by
  simp_all[Qw,T.pure]
 |N+1,m+1,s,f,g,a=>by
  unfold Qw;have j:∀b,T (Yv (λv=>Qw N v.1 v.2.1 v.2.2.1 v.2.2.2.1) n k s (((m+1:Nat):Int)-1) b) λr=>r.1.length<=8:=λb=>by
   unfold Yv;obtain⟨d,e,i⟩:=HD b;have c:Lb.wrap (((m+1:Nat):Int)-1-1)=(m:Int)-1:=Al
   rw[e,pA,c];exact T.guard Ak (Qn2 n k N m _ Aa Aa Ai)
  exact T.ite (λ_=>T.guard Al (T.if (T.if (j _) (T.if (j _) (T.if (j _) (j _)))) (j _))) λh=>Af
theorem Q1x(n:Int):T (Wg n) λr=>r.1.length<=8:=by
 unfold Wg;refine(Qfd n).bind λt a=>?_
 grind[Lu,Zs,Qn2,Vo]
theorem Qi6(l:List Int)(hl:l.length<=1000):∀(N i:Nat)(s:Ba),l-i<N->i<=l->s<=8*i->T (Vb N l s (i:Int)) λr=>r.1<=8*l.length
 |0,_,_,h,_,_=>Aa
 |N+1,i,s,b,c,d=>by
  unfold Vb gG;refine T.ite (λa=>?_) λ_=>T.pure Ag;have a:=pE a;refine T.guard Aa ((Qfd _).bind λt _=>T.if (T.pure Ac) (T.guard Aa ((Q1x _).bind λt e=>T.guard Ak ?_)));rw[Zr (m:=l)];exact Qi6 l hl N (i+1) _ Aa Aa Ai
theorem Qzx(l:List Int)(hl:l.length<=1000):T (Xx l) λr=>r.1<=8*l.length:=by grind[Xx,Qi6,iI]
theorem DC(h:RH f):T (Wj f) λr=>r.1.length<=1100:=by
 have q:∀l:List Int,l.length<=4->T (Xx l) λr=>r.1.length<=32:=λl d=>(Qzx l Aa).mono λy n=>Aa
 have a:∀l:List Int,l.length<=4->T (Le (Xx l) λt=>K2 (t.1,())) λr=>r.1.length<=1100:=λl d=>(q l d).bind λt m=>T.pure Ag;have c:∀l:List Int,l.length<=4->T (Le (Xx l) λt=>Zd (t.1+f.2.2.2.1<=Z6)<|some (t.1++f.2.2.2.1,())) λr=>r.1.length<=1100:=λl d=>(q l d).bind λt m=>by
  grind[RH,T.guard,Z6,T.pure]
 have e:∀k,T (Wq f k) λr=>r.1.length<=1100:=λk=>T.if (c _ Ac) (c _ Ac);have g:∀k,T (Wr f k) λr=>r.1.length<=1100:=λk=>a _ Ac;have i:∀b,T (Y2 f b) λr=>r.1.length<=1100:=λb=>T.if (a _ Ac) (T.if (g _) (g _));have j:∀k b,T (Xl f k b) λr=>r.1.length<=1100:=λk b=>T.if (a _ Ac) (T.if (i _) (i _));unfold Wj;exact(qH h).bind λt _=>T.if (T.pure Ac) (T.if (a _ Ac) (T.if (a _ Ac) (T.if (T.if (e _) (e _)) (T.if (j _ _) (j _ _)))))
theorem vU(h:RH f):T (ee f) λr=>0<=r.1/\r.1<=1100:=by unfold ee;exact(DC h).bind λt a=>T.pure Ag
theorem Qdk(l:List Zh)(h:Ep l):∀(N i:Nat)(s:Ba),l-i<N->i<=l->s<=1100*i->T (Yp N l s (i:Int)) λr=>r.1.length<=400
 |0,_,_,h,_,_=>Aa
 |N+1,i,s,b,c,d=>by
  have e:=h.1;unfold Yp;refine T.ite (λa=>?_) λ_=>T.ite (λ_=>T.pure Ac) λh=>T.pure Ai;have a:=pE a;refine T.guard Aa ((DC (h.2 _ (Z5))).bind λt f=>T.if (T.pure Ac) (T.guard Ak ?_));rw[Zr (m:=l)];exact Qdk l h N (i+1) _ Aa Aa Ai
theorem Qn1{l:List Zh}(h:Ep l):T (cL l) λr=>r.1.length<=400:=by grind[cL,Qdk,d8]
theorem Qst(hs:Xz K s)(k:Int):T (zt c s k) λr=>Xz K r.1.1:=by unfold zt tB tC tF tN;exact T.if (T.pure (by exact⟨hs.snd,hs.rcv⟩)) (T.if (T.pure (by exact⟨hs.snd,hs.rcv⟩)) (T.if ((Z8o _ _).bind λt _=>T.if (T.pure (by exact⟨hs.snd,hs.rcv⟩)) (T.pure (by exact⟨hs.snd,hs.rcv⟩))) (T.if ((Qno _).bind λt _=>T.pure (by exact⟨hs.snd,hs.rcv⟩)) (T.pure hs))))
theorem Qei(h:Qa K c)(hK:K+1<=500000)(f:Zh):T (mj c f) λr=>Qa (K+1) r.1:=by
 unfold mj tD tH tJ tL tN tS tU tW;rw[Yn h,pA];have m:=h.mono (K':=K+1) Aa;exact(Fi h).bind λt _=>T.if (T.pure m) (T.if ((Qd7 c).bind λt _=>T.pure (by exact⟨m.str,m.pk⟩)) (T.if (T.if ((CR _ _).bind λt _=>T.pure (by exact⟨m.str,m.pk⟩)) ((CR _ _).bind λt _=>T.pure (by exact⟨m.str,m.pk⟩)))
  (T.if ((Qno _).bind λt _=>T.pure (by exact⟨m.str,m.pk⟩)) (T.if (T.if (T.pure (by exact⟨m.str,m.pk⟩)) (T.pure (by exact⟨m.str,m.pk⟩)))
   ((rr h Aa _).bind λs a=>T.if ((Qst a _).bind λt b=>(Jt h.str b (Lj _) hK).bind λe d=>T.pure (h.up Aa d)) (T.pure m))))))
theorem Qt6(h:Qa K c)(hK:K<=1000000):T (nY c) λr=>r.1<=K:=by
 have d:=h.str.len;have e:∀(N i:Nat)(o:List Zp),c.2.2.2.1-i<N->i<=c.2.2.2.1->o<=i->T (Wa N c o (i:Int)) λr=>r.1<=K:=by
  intro N
  induction N with
  |zero=>omega
  |succ N f=>
   intro i o g k b;unfold Wa gG gJ;refine T.ite (λa=>?_) λ_=>T.pure Ag;have a:=pE a;have j:∀o,o.length<=i+1->T (ip (λv=>Wa N v.1 v.2.1 v.2.2.1) c o (i:Int)) λr=>r.1<=K:=λo b=>by
    grind[ip,Zr]
   exact T.guard Aa (T.if (T.guard Aj (j _ Ae)) (j _ Aa))
 grind[nY,kj]
theorem Qt8(l:List Zp)(hl:l.length<=1000000)(n:Int):T (nZ l n) λr=>r.1<=l.length:=by
 have c:∀(N i:Nat)(o:List Zp),l-i<N->i<=l->o<=i->T (Wb N l n o (i:Int)) λr=>r.1<=l.length:=by
  intro N
  induction N with
  |zero=>omega
  |succ N d=>
   intro i o e f b;unfold Wb gG gN;refine T.ite (λa=>?_) λ_=>T.pure Ag;have a:=pE a;have j:∀o,o.length<=i+1->T (iq (λv=>Wb N v.1 v.2.1 v.2.2.1 v.2.2.2.1) l n o (i:Int)) λr=>r.1<=l.length:=λo b=>by
    grind[iq,Zr]
   exact T.guard Aa (T.if (T.guard Aa (T.guard Aj (j _ Ae))) (j _ Aa))
 grind[nZ,kl]
theorem Qm8(l:List Zp)(hl:l.length<=1000000):TT (gt l):=by
 have c:∀(N i:Nat),l-i<N->i<=l->TT (J5 N l (i:Int)):=by
  intro N
  induction N with
  |zero=>intro i h;omega
  |succ N b=>
   intro i d e;unfold J5 gG gH gN;refine T.ite (λa=>?_) λ_=>T.tt;have a:=pE a;refine T.guard Aa ((ME _).bind λt _=>T.guard (λ_=>Aa) (T.bind (Q:=λ_=>True) (T.if T.tt (qL (Hy _))) λt _=>T.guard (λ_ _=>Aa) (T.guard (λ_ h=>?_) (T.if T.tt ?_))))
   ·have:=pE h
    grind[Zs]
   ·rw[Zr (m:=l)];exact b (i+1) Aa Aa
 grind[gt,aC]
theorem Qg7(l:List Zp)(hl:l.length<=1000000):T (nV l) λr=>r.1<=l.length:=by
 have g:∀(N i:Nat)(o:List Int)(b:Int),l-i<N->i<=l->o<=i->T (Ki N l o b (i:Int)) λr=>r.1<=l.length:=by
  intro N
  induction N with
  |zero=>omega
  |succ N f=>
   intro i o b h j a;unfold Ki;refine T.bind (Q:=λ_=>True) (T.if (Qm8 l hl) T.tt) λt _=>T.ite (λc=>?_) λ_=>T.pure Ag;have c:(i:Int)<l:=by simp at c;omega
   have d:∀o b,o.length<=i+1->T (ib (λv=>Ki N v.1 v.2.1 v.2.2.1 v.2.2.2.1) l o b (i:Int)) λr=>r.1<=l.length:=λo b a=>by
    unfold ib;rw[Zr (m:=l)];exact f (i+1) o b Aa Aa a
   have e:∀o b,o.length<=i->T (ic (λv=>Ki N v.1 v.2.1 v.2.2.1 v.2.2.2.1) l o b (i:Int)) λr=>r.1<=l.length:=λo b a=>by
    unfold ic gG gN;exact T.guard Aa (T.if (T.guard Aa (T.guard Aj (d _ _ Ae))) (d _ _ Aa))
   exact T.guard Aa (T.if (T.guard Aa (e _ _ Ac)) (e _ _ a))
 grind[nV,ah]
theorem Qq9(l:List Int)(hl:l.length<=10000000000)(n:Int):TT (wr l n):=by
 have c:∀(N i:Nat),l-i<N->i<=l->TT (dD N l n (i:Int)):=by
  intro N
  induction N with
  |zero=>intro i h;omega
  |succ N b=>
   intro i d e;unfold dD gG;refine T.ite (λa=>?_) λa=>T.ite (λ_=>T.tt) λh=>T.guard Ai T.tt;have a:=pE a;refine T.guard Aa (T.if (T.guard Aa T.tt) ?_);rw[Zr (m:=l)];exact b (i+1) Aa Aa
 grind[wr,fV]
theorem Qhf(l:List Zp)(hl:l.length<=100000)(n:Int):TT (nW l n):=by
 unfold nW;refine(Qg7 l Aa).bind λm f=>?_;generalize m.1=m at f;have h:∀(N i:Nat)(o:List Int),l-i<N->i<=l->o<=i*m->TT (Kj N l n m o (i:Int)):=by
  intro N
  induction N with
  |zero=>omega
  |succ N g=>
   intro i o p q b;have r:i*m<=100000*100000:=Nat.mul_le_mul Aa Aa;unfold Kj;refine T.ite (λd=>?_) λ_=>(Qq9 o Aa n).bind λt _=>T.tt;have d:i<l:=Af
   have s:∀(M k:Nat)(o:List Int),m-k<M->k<=m->o<=i*m+k->TT (Jy (λv=>Kj N v.1 v.2.1 v.2.2.1 v.2.2.2.1 v.2.2.2.2.1) M l n m o (i:Int) (k:Int)):=by
    intro M
    induction M with
    |zero=>omega
    |succ M c=>
     intro k o u hk b;unfold Jy gG gN;refine T.ite (λa=>?_) λa=>?_
     ·have a:k<m:=Af
      have j:∀o:List Int,o<=i*m+k+1->TT (ie (λv=>Kj N v.1 v.2.1 v.2.2.1 v.2.2.2.1 v.2.2.2.2.1) (λv=>Jy (λv=>Kj N v.1 v.2.1 v.2.2.1 v.2.2.2.1 v.2.2.2.2.1) M v.1 v.2.1 v.2.2.1 v.2.2.2.1 v.2.2.2.2.1 v.2.2.2.2.2.1) l n m o (i:Int) (k:Int)):=λo b=>by
       unfold ie;rw[Zr a];exact c (k+1) o Aa Aa b
      exact T.guard Aa (T.guard Aa (T.guard (λ_=>Aa) (T.if (T.guard Aa T.tt) (T.guard Aa (T.guard Aa (T.if (T.guard Aa (T.guard Aj (j _ Ae))) (j _ Aa)))))))
     ·have a:=of_decide_eq_false a;have e:k=m:=Aa
      rw[Zr d];exact g (i+1) o Aa Aa Ai
   grind[dy]
 grind[dx]
theorem Qpw(h:Qa K c)(hK:K<=1000000)(i room:Int):T (wq c i room) λr=>r.1.2.1.length<=64:=by
 have z:eJ.2.1.length<=64:=Lq _;have o:∀(t:Qq)(s:Zj)(m:Int),Xz K s-> ∀(N n:Nat),n<N->n<=60->T (dA N i room t s m (n:Int)) λr=>r.1.2.1.length<=64:=by
  intro t s m b N
  induction N with
  |zero=>intro n h;omega
  |succ N d=>
   intro n q g;unfold dA;refine T.ite (λa=>?_) λ_=>T.pure z;have a:=pE a;obtain⟨p,u,e,v⟩:=Qlx b.snd (n:Int) m Aa;rw[e,pA];have j:Lb.wrap ((n:Int)-1)=((n-1:Nat):Int):=Al
   rw[j];exact T.if (T.pure z) (T.bind (Q:=λr=>RH r.1) (T.pure Ap) λf k=>(vU k).bind λt _=>T.if (T.pure Ag) (d (n-1) Aa Aa))
 have l:∀c,TT (aT c):=λc=>by
  unfold aT;exact(qL (uZ c)).bind λt _=>T.if T.tt T.tt
 unfold wq;refine(rr h hK i).bind λs b=>(Fi h hK).bind λt _=>T.ite (λ_=>T.pure z) λa=>(l _).bind λt _=>?_
 grind[nf]
theorem Z6x(c:Y3)(n:Int):TT (ez c n):=by unfold ez;exact(qL (uZ c)).bind λt _=>T.if T.tt T.tt
theorem Qlr(h:Qa K c)(hK:K+1<=500000)(i:Int)(p:Qq):T (so c i p) λr=>Qa (K+1) r.1:=by unfold so tP;rw[Yn h,pA];refine(rr h Aa i).bind λs a=>(Fi h).bind λt _=>T.if (T.pure (h.mono Aa)) ?_;obtain⟨x,f,e,b⟩:=Z9g a.snd p Aa;rw[e,pA];exact(Z6x _ _).bind λt _=>(Z6x _ _).bind λt _=>T.if (T.pure (h.mono Aa)) ((Jt h.str (by exact⟨b,a.rcv⟩) (Lj _) hK).bind λg d=>T.pure (by exact⟨d,h.pk.mono (by omega)⟩))
theorem Qox(h:Qa K c)(hK:K+1<=500000)(i:Int):T (wt c i) λr=>Qa (K+1) r.2.1:=by unfold wt tN;exact(rr h Aa i).bind λs a=>(Qva _).bind λt _=>(Qva _).bind λt _=>(Jt h.str (by exact⟨a.snd,a.rcv⟩) (Lj _) hK).bind λd b=>T.pure (by exact⟨b,h.pk.mono (by omega)⟩)
theorem Qn7{K F:Nat}(hK:K<=90000)(hF:F<=1000000):∀(N i:Nat)(x:Zf)(fr:List Zh)(room:Int)(sk:List Int),200-i<N->i<=200->Qa (K+i) x->FL (F+i) fr->sk.length<=i->
  T (Vh N x fr room sk (i:Int)) λr=>Qa (K+200) r.2.1/\FL (F+200) r.1.1
 |0,_,_,_,_,_,h,_,_,_,_=>Aa
 |N+1,i,x,fr,room,sk,B,C,hx,a,g=>by
  unfold Vh;refine T.ite (λd=>?_) λd=>T.pure ⟨hx.mono Aa,a.mono Aa⟩;have d:i<200:=Ai
  refine(Qt6 hx Aa).bind λw D=>?_;have j:∀(x:Zf)(fr:List Zh)(room:Int)(sk:List Int),Qa (K+i+1) x->FL (F+i+1) fr->sk.length<=i+1->
    T (kz (λv=>Vh N v.1 v.2.1 v.2.2.1 v.2.2.2.1 v.2.2.2.2.1) x fr room sk (i:Int)) λr=>Qa (K+200) r.2.1/\FL (F+200) r.1.1:=λx fr room sk hx a g=>by
   unfold kz;rw[Zr d];exact Qn7 hK hF N (i+1) x fr room sk Aa Aa hx a g
  have u:∀(o:Int)(p:Qq)(y:Zf)(q:Bool),p.2.1.length<=64->Qa (K+i+1) y->
    T (vw (λv=>Vh N v.1 v.2.1 v.2.2.1 v.2.2.2.1 v.2.2.2.2.1) x fr room sk (i:Int) o p y q) λr=>Qa (K+200) r.2.1/\FL (F+200) r.1.1:=λo p y q s z=>by
   unfold vw;exact T.if (T.pure ⟨hx.mono Aa,a.mono Aa⟩) (T.bind (Q:=λr=>RH r.1) (T.pure Ap) λf b=>T.guard (by have:=a.1;grind[Qd]) ((vU b).bind λt _=>j _ _ _ _ z (a.one b) Aa))
  have E:∀(M k:Nat)(l:List Zp),sk.length-k<M->k<=sk.length->l.length<=K+i->
    T (kA (λv=>Vh N v.1 v.2.1 v.2.2.1 v.2.2.2.1 v.2.2.2.2.1) M x fr room sk (i:Int) l (k:Int)) λr=>Qa (K+200) r.2.1/\FL (F+200) r.1.1:=by
   intro M
   induction M with
   |zero=>omega
   |succ M A=>
    intro k l G hk H;unfold kA;refine T.ite (λe=>?_) λe=>?_
    ·have e:=pE e;refine T.guard Aa ((Qt8 l Aa _).bind λt c=>?_);rw[Zr (m:=sk.length)];exact A (k+1) _ Aa Aa Aa
    ·simp only[Xm,X5];exact(Qhf l Aa _).bind λn _=>T.if (T.pure ⟨hx.mono Aa,a.mono Aa⟩) ((Qpw hx Aa _ _).bind λp s=>T.if
      ((Qox hx Aa _).bind λt c=>T.guard Aj (j _ _ _ _ c (a.mono Aa) Ae))
      ((Qlr hx Aa _ _).bind λt c=>u _ _ _ _ s c))
  grind[pj]
theorem Qsu{F:Nat}(hK:K<=90000)(hF:F<=1000000){fr:List Zh}(hx:Qa K x)(hf:FL F fr)(room:Int):T (zu x fr room) λr=>Qa (K+200) r.2.1/\FL (F+200) r.1.1:=by unfold zu;exact Qn7 hK hF _ 0 x fr room [] (by simp[pi]) Aa hx hf Ac
theorem Qge(h:Qa K c)(hK:K<=80000)(b:Int):T (kr c b) λr=>Qa (K+1000) r.1.2.2.1:=by
 have s:∀(t:Zf)(l:List Zh),FL 606 l-> ∀(N i:Nat)(x:Zf)(e:List Zh)(a:Int),l.length-i<N->i<=l.length->Qa (K+i) x->FL i e->
   T (Ke N c t x e a l (i:Int)) λr=>Qa (K+1000) r.1.2.2.1:=by
  intro t l k N;have o:=k.1
  induction N with
  |zero=>omega
  |succ N u=>
   intro i x e a w y hx f;have q:∀(x:Zf)(e:List Zh)(a:Int),i<l.length->Qa (K+i+1) x->FL (i+1) e->
     T (gv (λv=>Ke N v.1 v.2.1 v.2.2.1 v.2.2.2.1 v.2.2.2.2.1 v.2.2.2.2.2.1 v.2.2.2.2.2.2.1) c t x e a l (i:Int)) λr=>Qa (K+1000) r.1.2.2.1:=λx e a g hx f=>by
    unfold gv;rw[Zr g];exact u (i+1) x e a Aa Aa hx f
   unfold Ke;refine T.ite (λg=>?_) λg=>?_
   ·have g:=pE g;have m:=k.2 _ (Z5 (d:=Qe) (show i<l.length by omega));exact T.guard Aa ((vU m).bind λt _=>T.if (T.guard Aa ((vU m).bind λt _=>T.guard Aa ((Qei hx Aa _).bind λt n=>T.guard Aa (T.guard (by have:=f.1;grind[Qd]) (q _ _ _ Aa n (f.one m)))))) (q _ _ _ Aa (hx.mono Aa) (f.mono Aa)))
   ·refine(Qsu Aa Aa hx f _).bind λr j=>T.if (T.pure (j.1.mono Aa)) ?_;have hp:=j.1.pk.1;have f:Ep r.1.1:=⟨by have:=j.2.1;omega,j.2.2⟩
    exact T.guard Aj ((Qn1 f).bind λt _=>T.pure (by exact⟨j.1.str.mono Aa,Ai,λp hp=>by
     rcases L4.1 hp with hp|hp
     ·exact j.1.pk.2 p hp
     grind⟩))
 unfold kr gH;rw[Yn h,pA];exact(Qd6 h Aa).bind λt n=>T.bind (Q:=λ_=>True) (T.if T.tt (Hm _ _ _)) λt _=>T.ite (λ_=>T.pure (h.mono Aa)) λg=>(Z66 h Aa).bind λl k=>by
  have:=n Ai;exact s _ _ (k.mono Aa) _ 0 _ _ _ (by simp[dm]) Aa h FL.nil
theorem Z4r(n:Int){K:Nat}(h25:25<=K)(hK:K<=400000):∀(N m:Nat)(c:Zf),m<N->c.2.2.2.1+m<=24->Qa K c->T (fd N c n ((m:Int)-1)) λr=>Qa K r.2.1
 |0,_,_,h,_,_=>Aa
 |N+1,0,c,_,_,h=>by
  simp_all[fd,T.pure]
 |N+1,m+1,c,d,f,h=>by
  unfold fd;simp only[Xm,X5];refine T.ite (λ_=>(Ij _ _ _ _).bind λs a=>?_) λh=>Af
  unfold QT tD;have e:Lb.wrap (((m+1:Nat):Int)-1-1)=(m:Int)-1:=Al
  rw[e];obtain⟨y,e,g,b⟩:=Z86 h.str (a.mono (Lq K));rw[e,pA];exact Z4r n h25 hK N m _ Aa Ag ⟨⟨Ag,b⟩,h.pk⟩
theorem Qow(h25:25<=K)(hK:K<=400000)(h:Qa K c)(n:Int)(m:Nat)(hm:c.2.2.2.1+m<=24):T (JW c n (m:Int)) λr=>Qa K r.2.1:=by grind[JW,Zs,Z4r,pg]
theorem WC(n a b:Int):T (Z9 n a b) λr=>r.1=K4->a<=n/\n<=b:=⟨_,CM n a b,λh=>by simpa using h⟩
theorem Qoq(a:Y3):T (bb a) λr=>r.1=K4->a.2.1<=1152921504606846976/\0<=a.2.2.1/\a.2.2.1<=a.2.1:=by
 unfold bb;have B:∀{b:Bool}{n l h:Int}{β:Type}{f:Bool×Unit->Option β}{R:β->Prop},(∀r:Bool×Unit,(r.1=K4->l<=n/\n<=h)->T (f r) R)->T (Le (cond b (Z9 n l h) (K2 (Lc,()))) f) R:=λk=>T.bind (T.if (WC _ _ _) (T.pure λh=>by cases h)) k;exact(WC _ _ _).bind λc d=>B λe g=>B λi j=>B λm o=>T.pure λh=>by
  simp_all
theorem Qmj(a:Y3)(n:Int):T (qq a n) λr=>0<=r.2.1/\r.2.1<=1152921504606846976:=by
 unfold qq tN;refine(Qoq a).bind λt b=>T.ite (λ_=>T.pure Ac) λc=>T.pure ?_
 grind[Zs]
theorem Y'(h:Qa K c)(h25:25<=K)(hK:K<=400000)(i:Int):T (W4 c i) λr=>Qa K r.1:=by
 have p:=h.str.len;have d:∀t x (n:Nat),x.2.2.2.1+n<=24->Qa K x->T (aH i t x (n:Int)) λr=>Qa K r.1:=λt x n f hx=>by
  unfold aH;exact(Qow h25 hK hx i n f).bind λr l=>T.pure l
 have m:∀t b n g,0<=n->n<=1152921504606846976->T (dp i c t c b n g) λr=>Qa K r.1:=λt b n g o q=>by
  unfold dp tB tC;refine T.ite (λ_=>T.pure h) λs=>?_;have f:c.2.2.2.1+n<=24:=by
   grind[Zs]
  obtain⟨n,rfl⟩:=Lu o;exact(Rg i).bind λt _=>T.if (d _ _ n Ag (by exact⟨h.str,h.pk⟩)) (d _ _ n Ag (by exact⟨h.str,h.pk⟩))
 have j:∀t a,T (Kr i c t c a) λr=>Qa K r.1:=λt a=>by
  unfold Kr;simp only[Xm,X5];exact(qL (Qsk i)).bind λt _=>(Qmj _ _).bind λt k=>m _ _ _ _ k.1 k.2
 unfold W4 gH;rw[Yn h,pA];exact(Fi h).bind λt _=>T.bind (Q:=λ_=>True) (T.if T.tt (ME i)) λt _=>T.if (T.pure h) (T.bind (Q:=λ_=>True) (qL (by obtain⟨v,e,-⟩:=Gw c.2.2.2.1 i (by omega);exact⟨v,e⟩)) λt _=>T.if (T.pure h) ((jS _ _).bind λt _=>T.if (T.pure h) ((Rg i).bind λt _=>T.if (j _ _) (j _ _))))
theorem Z9e(w:Qr)(n:Int):TT (qp w n):=by unfold qp tD;exact(qL (KW w)).bind λt _=>T.if T.tt T.tt
theorem Qjk(h:Qa K x)(hs:Xz K s)(hK:K<=1000000)(e:Int):T (uL x s e) λr=>Qa K r.2.1/\Xz K r.2.2.1:=by
 have a:TT (wl s.2.2.2.1 e):=by
  unfold wl;exact(qL (uw hs.rcv hK)).bind λt _=>T.bind (Q:=λ_=>True) (T.if T.tt (ME _)) λt _=>T.if T.tt T.tt
 unfold uL tJ tT;exact a.bind λt _=>T.if (T.pure ⟨h,hs⟩) ((Z9e _ _).bind λt _=>(Z9e _ _).bind λt _=>T.if (T.pure ⟨h,hs⟩) (T.pure ⟨⟨h.str,h.pk⟩,hs.snd,hs.rcv⟩))
theorem D3(s:Bool)(n:Int):TT (Wf s n):=qL (Qit s n)
theorem qZ(s:Bool)(n:Int):TT (Y9 s n):=qL (Z29 s n)
theorem Qgp(h:Qa K c)(hf:RH f)(h25:25<=K)(hK:K<=390000):T (nQ c f) λr=>Qa (K+f.2.2.2.1+2) r.1.1:=by
 have m:=h.mono (K':=K+f.2.2.2.1+2) Aa;have a:∀v:Int,T (Le (Qi c) λt=>K2 ((t.1,v,()),())) λr=>Qa (K+f.2.2.2.1+2) r.1.1:=λv=>by
  grind[Yn,T.pure]
 unfold nQ gH tD;refine(Fi h).bind λt _=>T.bind (Q:=λ_=>True) (T.if T.tt (qH hf)) λt _=>T.if (a 7) ((qZ _ _).bind λt _=>T.if (a 5) ((Y' h h25 Aa _).bind λx hx=>T.if (a _) ((rr hx Aa _).bind λs b=>?_)));obtain⟨r,v,e,g⟩:=To b.rcv f.2.2.1 f.2.2.2.1 f.2.2.2.2.1 Ap;rw[e,pA];unfold RH at hf;exact(Qjk hx b Aa _).bind λy d=>T.if (a _) (T.if (a _) ((PL (K':=K+f.2.2.2.1+1) d.1 (by exact⟨d.2.snd.mono (by omega),g.mono (by omega)⟩)).bind λt i=>T.pure (i.mono Aa)))
theorem Qdu(h:Qa K c)(hf:RH f)(h25:25<=K)(hK:K<=390000):T (mh c f) λr=>Qa (K+f.2.2.2.1+2) r.1.1:=by
 have m:=h.mono (K':=K+f.2.2.2.1+2) Aa;have a:∀v:Int,T (Le (Qi c) λt=>K2 ((t.1,v,()),())) λr=>Qa (K+f.2.2.2.1+2) r.1.1:=λv=>by
  grind[Yn,T.pure]
 unfold mh gH;refine(Fi h).bind λt _=>T.bind (Q:=λ_=>True) (T.if T.tt (qH hf)) λt _=>T.if (a 7) ((qZ _ _).bind λt _=>T.if (a 5) ((Y' h h25 Aa _).bind λx hx=>T.if (a _) ((rr hx Aa _).bind λs b=>?_)));obtain⟨r,v,e,i⟩:=IK b.rcv Aa f.2.2.2.2.2.1 f.2.2.2.2.2.2.2.1;rw[e,pA];have j:∀(t x:Zf)(s:Zj),Qa K x->Xz K s->T (eU t x s r) λr=>Qa (K+f.2.2.2.1+2) r.1.1:=λt x s hx b=>by
  unfold eU tD;exact(PL hx (by exact⟨b.snd,i⟩) (Lj _)).bind λt k=>T.pure (k.mono Aa)
 exact(Qjk hx b Aa _).bind λy d=>T.if (a _) (T.if (a _) (T.if ((Qjl d.1 d.2 _).bind λz g=>j _ _ _ g.1 g.2) (j _ _ _ d.1 d.2)))
theorem Qgq(h:Qa K c)(hf:RH f)(h25:25<=K)(hK:K<=390000):T (nT c f) λr=>Qa (K+f.2.2.2.1+2) r.1.1:=by
 have m:=h.mono (K':=K+f.2.2.2.1+2) Aa;have b:∀v:Int,T (Le (Qi c) λt=>K2 ((t.1,v,()),())) λr=>Qa (K+f.2.2.2.1+2) r.1.1:=λv=>by
  grind[Yn,T.pure]
 unfold nT gH tV;refine(Fi h).bind λt _=>T.bind (Q:=λ_=>True) (T.if T.tt (qH hf)) λt _=>T.if (b 7) ((D3 _ _).bind λt _=>T.if (b 5) ((Y' h h25 Aa _).bind λx hx=>T.if (b _) ((rr hx Aa _).bind λs a=>?_)));obtain⟨r,v,e,d⟩:=Bl a.snd f.2.2.2.2.2.1;rw[e,pA];have j:∀(t x:Zf)(s:Zj),Qa K x->Xz K s->T (g7 t x s) λr=>Qa (K+f.2.2.2.1+2) r.1.1:=λt x s hx a=>by
  unfold g7;exact(PL hx a (Lj _)).bind λt g=>T.pure (g.mono Aa)
 exact T.if (j _ _ _ hx (by exact⟨d,a.rcv⟩)) (j _ _ _ hx a)
theorem Z0d(c:Y3)(n:Int):TT (kw c n):=by unfold kw gH;exact(qL (uZ c)).bind λt _=>T.bind (Q:=λ_=>True) (T.if T.tt (ME _)) λt _=>T.if T.tt T.tt
theorem Z0c(c:dI)(n:Int):TT (kv c n):=by unfold kv;exact(qL (FH c)).bind λt _=>T.if T.tt T.tt
theorem Qdt(h:Qa K c)(hf:RH f)(h25:25<=K)(hK:K<=390000):T (mg c f) λr=>Qa (K+f.2.2.2.1+2) r.1:=by
 have m:=h.mono (K':=K+f.2.2.2.1+2) Aa;have a:∀v:Int,T (Le (Qi c) λt=>K2 (t.1,v,())) λr=>Qa (K+f.2.2.2.1+2) r.1:=λv=>by
  grind[Yn,T.pure]
 have d:∀t x,Qa (K+f.2.2.2.1+2) x->T (s6 t x) λr=>Qa (K+f.2.2.2.1+2) r.1:=λt x hx=>T.pure hx;have e:∀t b,T (mn c f t b) λr=>Qa (K+f.2.2.2.1+2) r.1:=λt b=>by
  unfold mn tD tN;exact T.if (a _) ((Y' h h25 Aa _).bind λx hx=>T.if (a _) (T.if ((rr hx Aa _).bind λs g=>(Z0d _ _).bind λt _=>(Jt hx.str (by exact⟨g.snd,g.rcv⟩) (Lj _)).bind λq n=>d _ _ ((hx.up Aa n).mono Aa)) (d _ _ (hx.mono Aa))))
 have o:T (ZO c f) λr=>Qa (K+f.2.2.2.1+2) r.1:=by
  unfold ZO;exact(D3 _ _).bind λt _=>T.if ((qZ _ _).bind λt _=>e _ _) (e _ _)
 have i:∀t x,Qa (K+f.2.2.2.1+2) x->T (kP t x) λr=>Qa (K+f.2.2.2.1+2) r.1:=λt x hx=>T.pure hx;have j:∀t b,T (eT c f t c b) λr=>Qa (K+f.2.2.2.1+2) r.1:=λt b=>by
  unfold eT;exact T.if (o.bind λr p=>T.pure p) (T.pure m)
 have l:∀t k b,T (eQ c f t c k b) λr=>Qa (K+f.2.2.2.1+2) r.1:=λt k b=>by
  unfold eQ;exact T.if (T.pure m) (T.if (j _ _) (j _ _))
 unfold mg gH tH tJ tL;rw[Yn h,pA];exact(Fi h).bind λt _=>T.bind (Q:=λ_=>True) (T.if T.tt (qH hf)) λt _=>T.if (T.pure m) (T.if ((Z0d _ _).bind λt _=>T.pure (by exact⟨m.str,m.pk⟩)) (T.if (T.if ((Z0c _ _).bind λt _=>i _ _ (by exact⟨m.str,m.pk⟩)) ((Z0c _ _).bind λt _=>i _ _ (by exact⟨m.str,m.pk⟩))) (T.if (l _ _ _) (l _ _ _))))
theorem zT(h:Qa K c)(hf:RH f)(h25:25<=K)(hK:K<=390000:=by omega):T (gy c f) λr=>Qa (K+f.2.2.2.1+2) r.1.1:=by have b:∀t x e,Qa (K+f.2.2.2.1+2) x->T (br t x e) λr=>Qa (K+f.2.2.2.1+2) r.1.1:=λt x e hx=>T.pure hx;unfold gy;rw[Yn h,pA];exact T.if ((Qgp h hf h25 hK).bind λr a=>b _ _ _ a) (T.if ((Qdu h hf h25 hK).bind λr a=>b _ _ _ a) (T.if ((Qgq h hf h25 hK).bind λr a=>b _ _ _ a) ((Qdt h hf h25 hK).bind λr a=>b _ _ _ a)))
theorem Qeq(h:Qa K c)(hK:K<=1000000)(n:Int):T (qn c n) λr=>Ep r.1.2.1:=by
 have g:=h.pk.1;have j:∀(t:Qf)(N i:Nat),c.2.2.2.2.2.2.2.2.2.2.2.2.2.2.2.1.length-i<N->i<=c.2.2.2.2.2.2.2.2.2.2.2.2.2.2.2.1.length->T (ig N n c t (i:Int)) λr=>Ep r.1.2.1:=by
  intro t N
  induction N with
  |zero=>intro i h;omega
  |succ N k=>
   intro i l m;unfold ig gG gK;refine T.ite (λa=>?_) λa=>T.pure ⟨Lq _,λf e=>by cases e⟩;have a:=pE a;have b:=h.pk.2 _ (Z5 (d:=Q8) (show i<c.2.2.2.2.2.2.2.2.2.2.2.2.2.2.2.1.length by omega));refine T.guard Aa (T.if (T.guard Aa (T.guard ?_ (T.pure b))) ?_)
   ·have:=b.1;unfold Qd;simp_all<;>omega
   grind[Zr]
 grind[qn,nc]
theorem Qjm(h:Qa K c)(hK:K<=1000000)(n:Int):T (uO c n) λr=>Qa K r.2.1:=by
 have f:=h.pk.1;have e:∀(N i:Nat)(o:List Qf),c.2.2.2.2.2.2.2.2.2.2.2.2.2.2.2.1.length-i<N->i<=c.2.2.2.2.2.2.2.2.2.2.2.2.2.2.2.1.length->P0 i o->T (cA N c n o (i:Int)) λr=>Qa K r.2.1:=by
  intro N
  induction N with
  |zero=>omega
  |succ N g=>
   intro i o k l a;unfold cA gG gK tK;refine T.ite (λb=>?_) λb=>T.pure ⟨h.str,a.mono Aa⟩;have b:=pE b;have m:=h.pk.2 _ (Z5 (d:=Q8) (show i<c.2.2.2.2.2.2.2.2.2.2.2.2.2.2.2.1.length by omega));have j:∀o,P0 (i+1) o->T (oa (λv=>cA N v.1 v.2.1 v.2.2.1 v.2.2.2.1) c n o (i:Int)) λr=>Qa K r.2.1:=λo a=>by
    grind[oa,Zr]
   exact T.guard Aa (T.if (T.guard Aa (T.guard (by have:=a.1;grind[Qd]) (j _ ⟨by have:=a.1;simp;omega,λp hp=>by
    rcases L4.1 hp with hp|hp
    ·exact a.2 p hp
    simp_all⟩))) (j _ (a.mono Aa)))
 unfold uO;exact e _ 0 _ (by simp[pl]) Aa ⟨Ac,Ac⟩
theorem Tf(f:Zh):TT (Jx f):=by
 have j:∀b,TT (Kc b):=λb=>by simp_all[Kc,T.if,T.tt]
 unfold Jx
 grind
theorem Qsw(h:Qa K x)(hK:K+1<=500000)(f:Zh):T (zw x f) λr=>Qa (K+1) r.2.1:=by
 have m:=h.mono (K':=K+1) Aa;have c:∀s,Xz K s->T (aV x s) λr=>Qa (K+1) r.2.1:=λs a=>by
  unfold aV tD;exact(Jt h.str a (Lj _) hK).bind λt d=>T.pure (h.up Aa d)
 have g:∀s b,Xz K s->T (v6 x f s b) λr=>Qa (K+1) r.2.1:=λs b a=>by
  unfold v6 gH tB tC tF tR;refine T.bind (Q:=λ_=>True) (T.if T.tt (Tf f)) λt _=>T.if (T.pure m) (T.if ?_ (T.if (c _ (by exact⟨a.snd,a.rcv⟩)) (T.if (c _ (by exact⟨a.snd,a.rcv⟩)) (T.if (c _ (by exact⟨a.snd,a.rcv⟩)) (c _ a)))));refine T.bind (Q:=λ_=>True) ⟨_,rfl,trivial⟩ λp _=>?_;obtain⟨y,e,i⟩:=Sj a.snd p.1;rw[e,pA];exact c _ ⟨i,a.rcv⟩
 unfold zw tF tM tO;simp only[Xm,X5];exact T.if (T.pure (by exact⟨m.str,m.pk⟩)) (T.if (T.if (T.pure (by exact⟨m.str,m.pk⟩)) (T.pure (by exact⟨m.str,m.pk⟩))) ((rr h Aa _).bind λs a=>g _ _ a))
theorem Qxj(h:Qa K x)(hK:K+1<=500000)(f:Zh):T (YK x f) λr=>Qa (K+1) r.2.1:=by
 have m:=h.mono (K':=K+1) Aa;have c:∀s,Xz K s->T (cg x s) λr=>Qa (K+1) r.2.1:=λs a=>by
  unfold cg;exact(PL h a (Lj _) hK).bind λt g=>T.pure g
 have i:∀s b,Xz K s->T (yO x f s b) λr=>Qa (K+1) r.2.1:=λs b a=>by
  unfold yO gH tB tR tV;refine T.bind (Q:=λ_=>True) (T.if T.tt (Tf f)) λt _=>T.if (T.pure m) (T.if ?_ (T.if ?_ (T.if (c _ (by exact⟨a.snd,a.rcv⟩)) (c _ a))))
  ·refine T.bind (Q:=λ_=>True) ⟨_,rfl,trivial⟩ λp _=>?_;obtain⟨y,e,d⟩:=R4 a.snd p.1;rw[e,pA];exact c _ ⟨d,a.rcv⟩
  ·obtain⟨y,j,e,d⟩:=Qm1 a.snd Aa;rw[e,pA];exact T.if (c _ (by exact⟨d,a.rcv⟩)) (c _ (by exact⟨d,a.rcv⟩))
 unfold YK;simp only[Xm,X5];exact(rr h Aa _).bind λs a=>i _ _ a
theorem Z4w(h:Qa K c)(hK:K<=400000)(n:Int):T (ku c n) λr=>Qa (K+1000) r.1.1:=by
 have m:=h.mono (K':=K+1000) Aa;unfold ku;rw[Yn h,pA];refine(Qeq h Aa n).bind λp b=>(KX h).bind λt _=>T.if (T.pure m) ((Qjm h Aa n).bind λx hx=>?_);have f:=b.1;have g:∀(t:Zf)(N i:Nat)(x:Zf),p.1.2.1.length-i<N->i<=p.1.2.1.length->Qa (K+i) x->T (cN N t x p.1 (i:Int)) λr=>Qa (K+1000) r.1.1:=by
  intro t N
  induction N with
  |zero=>omega
  |succ N d=>
   intro i x j k hx;unfold cN;refine T.ite (λa=>?_) λa=>T.pure (hx.mono Aa);have a:=pE a;refine T.guard Aa ((Qsw hx Aa _).bind λy e=>?_);rw[Zr (m:=p.1.2.1.length)];exact d (i+1) _ Aa Aa e
 grind[dw]
theorem Z7u(h:Qa K c)(hK:K<=400000)(n:Int):T (mG c n) λr=>Qa (K+1000) r.1.1:=by
 have m:=h.mono (K':=K+1000) Aa;unfold mG;rw[Yn h,pA];refine(Qeq h Aa n).bind λp b=>(KX h).bind λt _=>T.if (T.pure m) ((Qjm h Aa n).bind λx hx=>?_);have f:=b.1;have g:∀(t:Zf)(N i:Nat)(x:Zf),p.1.2.1.length-i<N->i<=p.1.2.1.length->Qa (K+i) x->T (dZ N t x p.1 (i:Int)) λr=>Qa (K+1000) r.1.1:=by
  intro t N
  induction N with
  |zero=>omega
  |succ N d=>
   intro i x j k hx;unfold dZ;refine T.ite (λa=>?_) λa=>T.pure (hx.mono Aa);have a:=pE a;refine T.guard Aa ((Qxj hx Aa _).bind λy e=>?_);rw[Zr (m:=p.1.2.1.length)];exact d (i+1) _ Aa Aa e
 grind[d6]
theorem bw(c:Qg)(n:Int)(h:Ys c):T (Qm c n) λr=>Ys r.2.1/\0<=r.1.1/\(0<n->r.1.1<n):=by obtain⟨x,f,e,a,b,d⟩:=VQ c n h;exact⟨_,e,a,b,d⟩
theorem He(c:Qg)(n:Int)(h:Ys c):T (aQ c n) λr=>Ys r.2.1:=by obtain⟨b,d,e,a⟩:=Qnt c n h;exact⟨_,e,a⟩
theorem ZG(c:Qg)(l:List Int)(h:Ys c)(hl:0<l.length):T (Js c l) λr=>Ys r.2.1/\r.1.1∈l:=by obtain⟨b,f,e,a,d⟩:=Qnu c l h hl;exact⟨_,e,a,d⟩
theorem Fc(c:Qg)(l:List Ba)(h:Ys c)(hl:0<l.length):T (lQ c l) λr=>Ys r.2.1/\r.1.1∈l:=by obtain⟨b,f,e,a,d⟩:=Z77 c l h hl;exact⟨_,e,a,d⟩
theorem LP(c:Qg)(most:Nat)(h:Ys c)(hm:most<=1000:=by omega):T (lT c (most:Int)) λr=>Ys r.2.1/\r.1.1.length<=most:=by obtain⟨t,d,e,a,b⟩:=Qns c most h hm;exact⟨_,e,a,b⟩
theorem Qoy(f:Zh)(h:RH f):T (po f) λr=>RH r.1:=by
 have a:∀t x b,RH x->T (tf f t x b) λr=>RH r.1:=λt x b hx=>by
  unfold tf;exact T.if (T.pure (by exact hx)) (T.pure (by exact hx))
 have c:∀t x,RH x->T (td f t x) λr=>RH r.1:=λt x hx=>by
  unfold td;exact T.if (T.pure (by exact hx)) (T.if (T.pure (by exact hx)) (T.if (T.pure (by exact h)) (T.if (a _ _ _ hx) (a _ _ _ hx))))
 unfold po;exact(Tf f).bind λt _=>T.if (c _ _ (Is _ _ _ _)) (c _ _ (Is _ _ _ _))
theorem Qsy(c:Qg)(hc:Ys c):T (uR c) λr=>Ys r.2.1/\RH r.1.1:=by
 unfold uR;exact(ZG c _ hc Ac).bind λl a=>(bw _ _ a.1).bind λm b=>(bw _ _ b.1).bind λn d=>(LP _ 6 d.1).bind λo e=>(He _ _ e.1).bind λp f=>(bw _ _ f).bind λq g=>(bw _ _ g.1).bind λs h=>(bw _ _ h.1).bind λu i=>(He _ _ i.1).bind λv j=>
  (Qoy _ Ap).bind λt k=>T.pure ⟨j,k⟩
theorem Z8t(n:Int):TT (wm n):=(Hm _ _ _).bind λt _=>T.if T.tt T.tt
theorem Z8r(n:Int):TT (wk n):=(Hm _ _ _).bind λt _=>T.if T.tt T.tt
theorem Qha(n:Int):TT (bZ n):=(ME _).bind λt _=>T.if T.tt T.tt
theorem Qhd(n m:Int):TT (cd n m):=by obtain⟨c,b,e⟩:=Z8u n m;exact⟨_,e,trivial⟩
theorem Qa.zero(h1:c.2.2.2.1=[])(h2:c.2.2.2.2.2.2.2.2.2.2.2.2.2.2.2.1=[]):Qa 0 c:=⟨⟨by rw[h1];simp,by rw[h1];simp⟩,by rw[h2];simp,by rw[h2];simp⟩
theorem Qem(v:Bool)(o p:cP):T (ej v o p) λr=>Qa 0 r.1:=by unfold ej gH;exact(qL (Ei o)).bind λt _=>T.bind (Q:=λ_=>True) (T.if T.tt (qL (Ei p))) λt _=>T.if (T.pure (Qa.zero rfl rfl)) ((Qha _).bind λt _=>(Qhd _ _).bind λt _=>(Z8t _).bind λt _=>(Z8t _).bind λt _=>(Z8r _).bind λt _=>(Z8r _).bind λt _=>T.pure (Qa.zero rfl rfl))
def SQ(K:Nat)(r:(Zf×Unit)×(Qg×Unit)):Prop:=Ys r.2.1/\Qa K r.1.1
theorem Qsv(h:Qa K x)(h25:25<=K)(hK:K<=70000)(c:Qg)(hc:Ys c):T (Ev c x) (SQ (K+2000)):=by
 have m:=h.mono (K':=K+2000) Aa;have o:∀c t k b,Ys c->T (v5 c x t x k b) (SQ (K+2000)):=λc t k b hc=>by
  unfold v5 gG gK;refine T.if ((bw c _ hc).bind λg a=>(Qge h Aa _).bind λj d=>T.pure ⟨a.1,d.mono Aa⟩) (T.if ((Qsy c hc).bind λg a=>(zT h a.2 h25).bind λj d=>T.if (T.pure ⟨a.1,d.mono Ap⟩) (T.pure ⟨a.1,m⟩)) (T.if (T.ite (λl=>(bw c _ hc).bind λg a=>?_) λ_=>T.pure ⟨hc,m⟩) (T.pure ⟨hc,m⟩)));have l:=pE l;exact T.guard ⟨a.2.1,a.2.2 Aa⟩ ((He _ _ a.1).bind λj d=>T.if ((Z4w h Aa _).bind λn f=>T.pure ⟨d,f.mono Aa⟩) ((Z7u h Aa _).bind λn f=>T.pure ⟨d,f.mono Aa⟩))
 have p:∀c t i k b,Ys c->T (vz c x t i x k b) (SQ (K+2000)):=λc t i k b hc=>by
  unfold vz;refine T.if ((LP c 8 hc).bind λg a=>(Z0r h _ _).bind λj d=>T.pure ⟨a.1,d.mono Aa⟩) (T.if ((He c _ hc).bind λg a=>T.if ((Ztx h Aa _).bind λj d=>T.pure ⟨a,d.mono Aa⟩) (T.pure ⟨a,m⟩))
   (T.if ((bw c _ hc).bind λg a=>(Z58 h Aa _ _).bind λj d=>T.pure ⟨a.1,d.1.mono Aa⟩) (T.if ((He c _ hc).bind λg a=>T.if ((bw _ _ a).bind λj d=>(Z0g h Aa _ _).bind λn f=>T.pure ⟨d.1,f.mono Aa⟩) ((Fc _ _ a Ac).bind λj d=>(Z0k h Aa _ _ ?_).bind λn f=>T.pure ⟨d.1,f.mono Aa⟩)) (T.if (o _ _ _ _ hc) (o _ _ _ _ hc)))))
  have:=d.2;simp only[Ls,List.mem_nil_iff,or_false]at this;rcases this with e|e|e<;>(rw[e];simp)
 have q:∀c t i,Ys c->T (vx c x t i) (SQ (K+2000)):=λc t i hc=>by
  unfold vx;exact(bw c _ hc).bind λg a=>T.if ((He _ _ a.1).bind λj d=>(Z5m h Aa _).bind λn f=>T.pure ⟨d,f.mono Aa⟩) (T.if (p _ _ _ _ _ a.1) (p _ _ _ _ _ a.1))
 unfold Ev gG gJ;exact T.ite (λl=>(bw c _ hc).bind λg a=>T.guard ⟨a.2.1,a.2.2 (by simpa using l)⟩ (q _ _ _ a.1)) λ_=>q _ _ _ hc
theorem Qss(c:Qg)(hc:Ys c):T (jX c) (SQ 30000):=by
 have h:∀(t:Zf)(N m:Nat)(c:Qg)(x:Zf)(K:Nat),m<N->25<=K->Ys c->Qa K x->K+2000*m<=30000->T (vv N c t x (m:Int)) (SQ 30000):=by
  intro t N
  induction N with
  |zero=>omega
  |succ N i=>
   intro m c x K j b hc hx s;unfold vv;refine T.ite (λf=>(Qsv hx b Aa c hc).bind λl a=>?_) λ_=>T.pure ⟨hc,hx.mono Aa⟩;have f:=pE f;rw[show Lb.wrap ((m:Int)-1)=((m-1:Nat):Int) by grind[Zs]];exact i (m-1) _ _ (K+2000) Aa Aa a.1 a.2 Aa
 have g:∀c,Ys c->T (cy c) λr=>Ys r.2.1:=λc hc=>by
  obtain⟨y,u,e,k,-⟩:=B4 c hc;exact⟨_,e,k⟩
 unfold jX;refine(He c _ hc).bind λl a=>(g _ a).bind λv n=>(g _ n).bind λw o=>(Qem _ _ _).bind λx hx=>(bw _ _ o).bind λp d=>?_;have:=d.2.2 Aa;have q:=d.2.1;obtain⟨m,j⟩:=Lu q;have e:Lb.wrap (2+p.1.1)=((m+2:Nat):Int):=Al
 rw[e];exact h _ _ (m+2) _ _ 25 (by grind[yN]) (Lj _) d.1 (hx.mono Aa) Aa
theorem Qxi(c:Qg)(hc:Ys c):T (UZ c) (SQ 30000):=by unfold UZ tE tG tJ tR;exact(Qss c hc).bind λt hx=>(bw _ _ hx.1).bind λe b=>T.if ((ZG _ _ b.1 Ac).bind λd a=>T.pure ⟨a.1,by exact⟨hx.2.str,hx.2.pk⟩⟩) (T.if ((ZG _ _ b.1 Ac).bind λd a=>T.pure ⟨a.1,by exact⟨hx.2.str,hx.2.pk⟩⟩) (T.if ((ZG _ _ b.1 Ac).bind λd a=>T.pure ⟨a.1,by exact⟨hx.2.str,hx.2.pk⟩⟩) (T.if ((ZG _ _ b.1 Ac).bind λd a=>T.pure ⟨a.1,by exact⟨hx.2.str,hx.2.pk⟩⟩) (T.pure ⟨b.1,hx.2⟩))))
theorem vQ(r:Zi):KQ r=K2 (kd r,()):=rfl
theorem Zkx(l:List Zi)(hl:l.length<=1048576):∀(N i:Nat),l.length-i<N->i<=l.length->rI N l l (l.length:Int) (i:Int)=du N l (i:Int)
 |0,_,h,_=>Aa
 |N+1,i,d,e=>by
  rw[rI,du];by_cases c:i<l.length
  ·have g:∀{a:Prop},a->K3 ((i:Int)>0)=K4->0<=Lb.wrap ((i:Int)-1)/\Lb.wrap ((i:Int)-1)<(l.length:Int):=λ_ h=>by
    have:=pE h;grind[Zs]
   rw[Zl (Zk),Zl (Zk),Zb,Zb,vQ,T6,pA,pA,Zb (λh b=>g h b),Zb (λh b=>g h b),Zb (λ_ _=>Aa),Zr c,Zkx l hl N (i+1) Aa Aa]
  grind
theorem zh(l:List Zi)(hl:l.length<=1048576:=by omega):aR l=K2 (CQ (-1) l,()):=by
 have e:w9 l l (l.length:Int) 0=fS l 0:=rfl;rw[<-fN l hl,aR,Wk,e]
 grind[Zkx,fS]
theorem Z4h(l:List Zi)(hl:l.length<=1048576):∀(N i:Nat)(n:Int),l.length-i<N->i<=l.length->CQ (-1) l=K4->iP N n l (l.length:Int) (i:Int)=Vx N l n (i:Int)
 |0,_,_,h,_,_=>Aa
 |N+1,i,n,d,e,a=>by
  rw[iP,Vx];by_cases b:i<l.length
  ·rw[Zl (Zk),Zl (Zk),Zb,Zb];have c:Lb.wrap (n+Lb.wrap ((l.getD (i:Int).toNat Z4).2.1- (l.getD (i:Int).toNat Z4).1))=Lb.wrap (Lb.wrap (n+(l.getD (i:Int).toNat Z4).2.1)- (l.getD (i:Int).toNat Z4).1):=by
    grind[Ml,Mk]
   rw[c,Zr b,Z4h l hl N (i+1) _ Aa Aa a];simp_all[Zb]
  grind
theorem zZ(l:List Zi)(hl:l.length<=1048576:=by omega):bD l=K2 (ite (CQ (-1) l=K4) (jt l) (-1),()):=by
 rw[<-ix l hl,bD,W3,zh l hl,fN l hl,pA,pA];cases hr:CQ (-1) l
 ·rfl
 ·exact Z4h l hl _ 0 0 (by simp[nq]) Aa hr
theorem XV(l:List Zi)(hl:l.length<=1048576:=by omega):aS l=K2 (l,()):=by grind[aS,Zb,Qd]
theorem Zzd:∀(N:Nat)(pre rest:List Zi)(r:Zi)(out:List Zi),(pre++rest).length<=1048576->rest.length<N->out.length<=pre.length+1->r.1<r.2.1->(∀x∈rest,r.2.1<x.1/\x.1<x.2.1)->
  Je N r out K4 (pre++rest) ((pre++rest).length:Int) (pre.length:Int)=K2 (out++rest,())
 |0,_,_,_,_,_,h,_,_,_=>Aa
 |N+1,pre,[],r,out,d,b,e,c,hx=>by
  simp_all[Je]
 |N+1,pre,x::rest,r,out,d,b,e,c,hx=>by
  have a:(pre++x::rest).length=pre.length+rest.length+1:=Ae
  simp only[Lf]at b;have f:=hx x Ac;unfold Je;rw[Zl (Zk (by rw[a];omega)),Zb (by rw[a];omega),am,Zo (Zm),Zl (Zk),Zo (by rfl)];unfold rx;rw[Zb Aj,Zr (m:=pre.length+1)];have i:=Zzd N (pre++[x]) rest r (out++[x]) Ae Aa Ae c (λy g=>hx y (by simp[g]));simp_all
theorem Fm:∀(N:Nat)(pre rest:List Zi)(r:Zi)(out:List Zi)(lo:Int),(pre++rest).length<=1048576->rest.length<N->out.length<=pre.length->r.1<r.2.1->CQ lo rest=K4->
  Je N r out Lc (pre++rest) ((pre++rest).length:Int) (pre.length:Int)=K2 (out++pz rest r,())
 |0,_,_,_,_,_,_,h,_,_,_=>Aa
 |N+1,pre,[],r,out,lo,d,e,k,c,hx=>by
  simp only[M3]at d;unfold Je;rw[Zo Ac,Zl (by rfl),Zb Aj];rfl
 |N+1,pre,x::rest,r,out,lo,d,e,k,c,hx=>by
  have b:(pre++x::rest).length=pre.length+rest.length+1:=Ae
  simp only[Lf]at e;obtain⟨f,l,a⟩:=jb.1 hx;have f:=Xo.1 f;unfold Je;rw[Zl (Zk (by rw[b];omega)),Zb (by rw[b];omega),am];have o:(pre++[x])++rest=pre++x::rest:=Ac
  have p:((pre++[x]).length:Int)=((pre.length+1:Nat):Int):=Ac
  rw[Zr (m:=pre.length+1)];by_cases g:x.2.1<r.1
  ·rw[Zl (Zk g),Zb Aj];have i:=Fm N (pre++[x]) rest r (out++[x]) x.2.1 Ae Aa Ae c a;simp_all[pz]
  ·rw[Zo (Zm g)];by_cases j:x.1>r.2.1
   ·rw[Zl (Zk j),Zl (by rfl),Zb Aj];unfold rx;rw[Zb Aj,Zr (m:=pre.length+1)];have n:=xI a;have i:=Zzd N (pre++[x]) rest r (out++[r]++[x]) Ae Aa Ae c (λy q=>by
     grind[Xo])
    simp_all[pz,if_neg]
   ·rw[Zo (Zm j)];have i:=Fm N (pre++[x]) rest (min r.1 x.1,max r.2.1 x.2.1,()) out x.2.1 Ae Aa Ae Ag a;simp_all[pz,if_neg]
theorem eX(l:List Zi)(r:Zi)(hl:l.length<=1048576:=by omega):iy l r=K2 (ite (CQ (-1) l=K4/\kd r=K4) (pz l r) l,()):=by
 unfold iy gH;rw[zh l hl,pA,vQ,XV l hl];cases hr:CQ (-1) l
 ·rfl
 ·cases a:kd r
  ·rfl
  ·have a:=Xo.1 a;rw[if_pos ⟨rfl,rfl⟩];have h:=Fm (mU r [] Lc l (l.length:Int) 0) [] l r [] (-1) (by simpa using hl) (by simp[mU]) Ac a.2.1 hr;exact h
theorem Qof(l:List Zi)(hl:l.length<=1048576):∀(N i:Nat)(n:Int),l.length-i<N->i<=l.length->lU N n l (l.length:Int) (i:Int)=a9 N l n (i:Int)
 |0,_,_,h,_=>Aa
 |N+1,i,n,c,d=>by
  rw[lU,a9];by_cases b:i<l.length
  ·have a:=λn=>Qof l hl N (i+1) n Aa Aa;rw[Zl (Zk),Zl (Zk),Zb,Zb,Zr b,a,a]
   grind[Zb,sn,Zr]
  grind
theorem Z8a(l:List Zi)(f:Int)(hl:l.length<=1048576:=by omega):wc l f=K2 (ite (CQ (-1) l=K4/\0<=f) (n8 l f) (-1),()):=by
 rw[<-l9 l f hl,wc,qk,zh l hl,fN l hl,pA,pA];cases (!CQ (-1) l)||K3 (f<0)
 ·exact Qof l hl _ 0 f (by simp[w8]) Aa
 ·rfl
def s0(l:List Int):Bool:=l.all λn=>K3 (n>=0)&&K3 (n<=255)
theorem Cc(r:Xc)(hl:r.2.2.2.1.length<=1048576):∀(N i:Nat),r.2.2.2.1-i<N->i<=r.2.2.2.1->mL N r (i:Int)=K2 (s0 (r.2.2.2.1.drop i),())
 |0,_,h,_=>Aa
 |N+1,i,b,c=>by
  rw[mL];by_cases a:i<r.2.2.2.1
  ·rw[Zl (Zk),Zb,CM,pA,Zr a,Cc r hl N (i+1) Aa Aa,show(i:Int).toNat=i from rfl,Qx (d:=0) a]
   grind[s0]
  ·rw[Zo (Zm),Lm Aa];rfl
theorem bL(n a b:Int):Z0 n a b=K2 (K3 (n>=a)&&K3 (n<=b),()):=rfl
theorem Qkc(l:List Int)(hl:l.length<=1048576)(u:Unit):∀(N i:Nat),l-i<N->i<=l-> ∃k,Yk N l u l (i:Int)=K2 (k,())/\K3 (k>=0)= !s0 (l.drop i)
 |0,_,h,_=>Aa
 |N+1,i,f,g=>by
  rw[Yk];by_cases a:i<l
  ·have e:CX (l.getD i 0)=K2 (!(K3 (l.getD i 0>=0)&&K3 (l.getD i 0<=255)),()):=rfl;rw[Zl (Zk),Zb,show(i:Int).toNat=i from rfl,e,pA,Zr a,Qx (d:=0) a];obtain⟨k,b,c⟩:=Qkc l hl () N (i+1) Aa Aa;cases hc:K3 (l.getD i 0>=0)&&K3 (l.getD i 0<=255)
   ·exact⟨_,rfl,by grind[s0]⟩
   ·exact⟨k,b,by rw[c];simp only[s0,Mm,hc,pJ]⟩
  simp_all[Zm,Lm,s0]
theorem O3(r:Xc)(hl:r.2.2.2.1.length<=1048576):tu r=dv r:=by
 unfold tu gH dv eF nH We aB;obtain⟨k,a,b⟩:=Qkc r.2.2.2.1 hl () (Y5 r.2.2.2.1 () r.2.2.2.1 0) 0 (by simp[Y5]) Aa;have c:=Cc r hl (bt r 0) 0 (by simp[bt]) Aa;simp only[Lv,L3]at a b c;have e:Xt r.2.1=K2 (K3 (r.2.1>=0)&&K3 (r.2.1<=4611686018427387903),()):=rfl;simp only[a,b,c,bL,e,pA];have d:K3 (r.1>=1)=K3 (r.1>0):=by congr 1
 rw[d];generalize f:((K3 (r.1>0)&&K3 (r.1<=64))&&(bits .and .i64 r.1 (Lb.wrap (r.1-1))==0))=A;generalize (r.2.2.2.1 !=r.1)=B;cases A
 ·rfl
 cases B
 ·simp only[pI,Ma,pH,pA,Ld];simp only[pC,decide_eq_true_eq]at f;generalize s0 r.2.2.2.1=C;by_cases g:0<=r.2.1/\r.2.1<=r.2.2.1/\r.2.2.1<=4611686018427387903
  ·obtain⟨i,h,j⟩:=g;rw[Zs (n:=r.2.2.1-r.2.1),Zs (n:=r.2.1+r.1),Zk (p:=r.2.1>=0),Zk (p:=r.2.1<=4611686018427387903),Zm (p:=r.2.1<0),Zm (p:=r.2.2.1<r.2.1),Zm (p:=r.2.2.1>4611686018427387903),Zk (p:=r.2.2.1>=r.2.1) h]
   grind
  ·have l:((((K3 (r.2.1<0))||(K3 (r.2.2.1<r.2.1)))||(K3 ((Lb.wrap (r.2.2.1-r.2.1))>r.1)))||(K3 (r.2.2.1>4611686018427387903)))=true:=by
    grind
   have m:((K3 (r.2.1>=0)&&K3 (r.2.1<=4611686018427387903))&&(K3 (r.2.2.1>=r.2.1)&&K3 (r.2.2.1<=min (Lb.wrap (r.2.1+r.1)) 4611686018427387903)))=false:=by
    grind
   grind
 ·rfl
def I9(S:Int)(l:List Zi):Bool:=l.all λx=>K3 (x.2.1<=S)
def NJ(s:Zn):Int:=match eG s with|some (k,_)=>k|none=>0
theorem zC(s:Zn):eG s=K2 (NJ s,()):=by
 obtain⟨k,e⟩:=Tu s
 grind[NJ]
theorem OO(s:Zn)(h0:0<=s.2.2.2.2.2.2.1)(h3:s.2.2.2.2.2.2.1<=3):mB s=K2 (NJ s,()):=by
 rw[<-zC];unfold mB eG
 grind
def SF(s:Zn):Bool:= !((!((s.2.2.2.2.2.2.1==(0:Int))==(s.2.2.2.2.2.1==(-1:Int))))||((s.2.2.2.2.2.1 !=(-1:Int))&&(s.2.2.2.2.2.1 !=s.2.1.2.2.1)))
theorem Q04(s:Zn)(hl:s.2.2.2.2.1.length<=1048576):∀(N i:Nat),s.2.2.2.2.1-i<N->i<=s.2.2.2.2.1->hQ N s (i:Int)=K2 (I9 s.2.2.2.2.2.2.2.1 (s.2.2.2.2.1.drop i)&&(SF s&&(s.1==NJ s)),())
 |0,_,h,_=>Aa
 |N+1,i,b,e=>by
  rw[hQ];by_cases a:i<s.2.2.2.2.1
  ·rw[Zl (Zk),Zb,Zr a,Q04 s hl N (i+1) Aa Aa,show(i:Int).toNat=i from rfl,Qx (d:=Z4) a]
   grind[I9]
  ·rw[Zo (Zm),Lm Aa,zC,pA];unfold SF;generalize ((!((s.2.2.2.2.2.2.1==(0:Int))==(s.2.2.2.2.2.1==(-1:Int))))||((s.2.2.2.2.2.1 !=(-1:Int))&&(s.2.2.2.2.2.1 !=s.2.1.2.2.1)))=c;cases c<;>rfl
theorem Q03(s:Zn)(hl:s.2.2.2.1.length<=1048576)(hl2:s.2.2.2.2.1.length<=1048576):∀(N i:Nat),s.2.2.2.1-i<N->i<=s.2.2.2.1->hD N s (i:Int)=K2 (I9 s.2.2.2.2.2.2.2.1 (s.2.2.2.1.drop i)&&(I9 s.2.2.2.2.2.2.2.1 s.2.2.2.2.1&&(SF s&&(s.1==NJ s))),())
 |0,_,h,_=>Aa
 |N+1,i,b,c=>by
  rw[hD];by_cases a:i<s.2.2.2.1
  ·rw[Zl (Zk),Zb,Zr a,Q03 s hl hl2 N (i+1) Aa Aa,show(i:Int).toNat=i from rfl,Qx (d:=Z4) a]
   grind[I9]
  ·rw[Zo (Zm),Lm Aa];exact Q04 s hl2 _ 0 (by simp[na]) Aa
def Q1p(a:List Zi)(r:Zi):List Zi:=ite (CQ (-1) a=K4/\kd r=K4) (pz a r) a
def VO(a l:List Zi):List Zi:=l.foldl Q1p a
theorem HL{E:Int}:∀{l:List Zi}{lo:Int},CQ lo l=K4->(∀x∈l,x.2.1<=E)->l≠[]->jt l<=E-lo-1
 |[],_,_,_,h=>absurd rfl h
 |x::l,lo,h,a,_=>by
  obtain⟨d,e,b⟩:=jb.1 h;have hx:=a x Ac;simp only[jt];rcases l with _|⟨y,l⟩
  ·grind[jt]
  ·have:=HL b (λz c=>a z (by simp[c])) Ac;omega
theorem Qk5{l:List Zi}(h:RL E l)(hc:jt l=E)(h0:0<E):(l.getD 0 Z4).2.1=E:=by
 obtain⟨c,a⟩:=h;rcases l with _|⟨x,l⟩
 ·simp_all[jt]
 ·obtain⟨b,f,d⟩:=jb.1 c;have hx:=a x Ac;have b:=Xo.1 b;simp only[jt]at hc;rcases l with _|⟨y,l⟩
  ·grind[jt]
  ·have:=HL d (λz e=>a z (by simp[e])) Ac;omega
theorem EF{l:List Zi}(h:RL E l)(h0:0<=E):0<=jt l/\jt l<=E:=by
 have:∀{l:List Zi}{lo:Int},CQ lo l=K4->0<=jt l:=by
  intro l
  induction l with
  |nil=>simp_all[jt]
  |cons x l a=>
   grind[jb,Xo,jt]
 refine⟨this h.1,?_⟩;rcases hl:l with _|⟨x,b⟩
 ·simp_all[jt]
 ·have:=HL h.1 h.2 (by rw[hl];simp);simp_all
def Ga(s:Zn)(all:List Zi):Bool:=(jt all==s.2.1.2.2.1)&&(jt s.2.2.1+jt s.2.2.2.1+jt s.2.2.2.2.1==s.2.1.2.2.1)
theorem Q02{K:Int}{s:Zn}(hs:Wt K s)(hK:K<=1000000):∀(N i:Nat)(all:List Zi),RL (Do s) all->s.2.2.2.2.1.length-i<N->i<=s.2.2.2.2.1.length->
  g9 N s all (i:Int)=K2 (Ga s (VO all (s.2.2.2.2.1.drop i))&&((n8 s.2.2.2.2.1 0==s.2.1.2.1)&&((s.2.2.2.2.2.2.2.2.1==0)&&(I9 s.2.2.2.2.2.2.2.1 s.2.2.2.1&&(I9 s.2.2.2.2.2.2.2.1 s.2.2.2.2.1&&(SF s&&(s.1==NJ s)))))),())
 |0,_,_,_,h,_=>Aa
 |N+1,i,all,a,f,g=>by
  have j:=Q0 a hs.e0 hs.eK hK;have k:=Q0 hs.pend hs.e0 hs.eK hK;have l:=Q0 hs.pT hs.e0 hs.eK hK;have m:=Q0 hs.pO hs.e0 hs.eK hK;rw[g9];by_cases h:i<s.2.2.2.2.1.length
  ·rw[Zl (Zk),Zb,Zr h,og _ _,pA,Qx (d:=Z4) h];exact Q02 hs hK N (i+1) _ (AJ a (hs.pO.2 _ (Z5 h))) Aa Aa
  ·have o:=EF hs.pend hs.e0;have p:=EF hs.pT hs.e0;have q:=EF hs.pO hs.e0;have b:=hs.eK;rw[Zo (Zm),ix _,ix _,ix _,ix _,l9 _ _,Lm Aa];simp only[pA,a.1,hs.pend.1,hs.pT.1,hs.pO.1,if_true];rw[Zb (λc e=>by
    simp only[Lp,bne_eq_false_iff_eq,decide_eq_true_eq]at c e
    grind[Qc4]),Zs (n:=jt s.2.2.1+jt s.2.2.2.1),Zs,show VO all []=all from rfl]
   grind(splits:=20)[Q03,m9,Ga,Qk5]
theorem D7{K:Int}{s:Zn}(hs:Wt K s)(hK:K<=1000000):∀(N i:Nat)(all:List Zi),RL (Do s) all->s.2.2.2.1-i<N->i<=s.2.2.2.1->
  g8 N s all (i:Int)=K2 (Ga s (VO (VO all (s.2.2.2.1.drop i)) s.2.2.2.2.1)&&((n8 s.2.2.2.2.1 0==s.2.1.2.1)&&((s.2.2.2.2.2.2.2.2.1==0)&&(I9 s.2.2.2.2.2.2.2.1 s.2.2.2.1&&(I9 s.2.2.2.2.2.2.2.1 s.2.2.2.2.1&&(SF s&&(s.1==NJ s)))))),())
 |0,_,_,_,h,_=>Aa
 |N+1,i,all,a,b,c=>by
  have e:=Q0 a hs.e0 hs.eK hK;have f:=Q0 hs.pT hs.e0 hs.eK hK;rw[g8];by_cases h:i<s.2.2.2.1
  ·rw[Zl (Zk),Zb,Zr h,og _ _,pA,Qx (d:=Z4) h];exact D7 hs hK N (i+1) _ (AJ a (hs.pT.2 _ (Z5 h))) Aa Aa
  ·rw[Zo (Zm),Lm Aa];have:=Q02 hs hK (fT s all 0) 0 all a (by simp[fT]) Aa;simp only[Lv,L3]at this;exact this
theorem Qkw{K:Int}{s:Zn}(hs:Wt K s)(hK:K<=1000000)(t:List Zi)(ht:t.length<=3000000)(hE:∀x∈t,x.2.1<=s.2.1.2.2.1):∀(N i:Nat)(all:List Zi),RL (Do s) all->t-i<N->i<=t->
  rP N s.2.1.2.2.1 all t t (i:Int)=K2 (jt (VO all (t.drop i))==s.2.1.2.2.1,())
 |0,_,_,_,h,_=>Aa
 |N+1,i,all,a,c,e=>by
  have f:=Q0 a hs.e0 hs.eK hK;rw[rP];by_cases h:i<t
  ·rw[Zl (Zk),Zb,Zr h,eX _ _,pA,Qx (d:=Z4) h];exact Qkw hs hK t ht hE N (i+1) _ (AJ a (hE _ (Z5 h))) Aa Aa
  ·rw[Zo (Zm),Lm Aa,zZ _];simp only[a.1,if_true,pA];unfold kq gL;rw[Zb (λh=>by
    have:=pE h
    grind[Zs])]
   have b:((K3 ((all:Int)>0))&&(K3 ((all.getD (Lb.wrap (all-1)).toNat Z4).2.1>s.2.1.2.2.1)))=false:=by
    by_cases g:(all:Int)>0
    ·rw[Zs];have:=a.2 _ (Z5 (l:=all) (i:=((all:Int)-1).toNat) (d:=Z4));simp_all
    simp_all
   rw[b,show VO all []=all from rfl];simp_all
theorem Quv{lo S:Int}:∀{l:List Zi},CQ lo l=K4->I9 S l= !((K3 ((l:Int)>0))&&(K3 ((l.getD (l-1) Z4).2.1>S)))
 |[],_=>rfl
 |[x],_=>by
  simp only[I9,Mm,List.all_nil,Nf,Mr,Nat.sub_self,Mp]
  grind
 |x::y::l,h=>by
  obtain⟨c,d,a⟩:=jb.1 h;have f:=Quv (S:=S) a;have b:=jb.1 a;have g:=Xo.1 b.1;have e:(x::y::l).getD ((x::y::l)-1) Z4=(y::l).getD ((y::l)-1) Z4:=Ac
  rw[e];have i:I9 S (x::y::l)=(K3 (x.2.1<=S)&&I9 S (y::l)):=rfl
  grind[I9]
theorem Z3y{l:List Zi}(h:CQ lo l=K4)(hl:l.length<=1048576)(S:Int):kq l S=K2 (!I9 S l,()):=by
 unfold kq gL;simp only;rw[Zb (λh=>by
  have:=pE h
  grind[Zs]),Quv h (S:=S),Bool.not_not]
 by_cases a:(l:Int)>0
 ·rw[Zs,show((l:Int)-1).toNat=l-1 by omega]
 simp_all
theorem zi{K:Int}{s:Zn}(hs:Wt K s)(hK:K<=1000000:=by omega):qd s=Ks s:=by
 have l:=Q0 hs.pend hs.e0 hs.eK hK;have m:=Q0 hs.pT hs.e0 hs.eK hK;have o:=Q0 hs.pO hs.e0 hs.eK hK;have d:=(Gm s.2.1 (by have:=hs.cells;omega)).1;have p:=EF hs.pend hs.e0;have q:=EF hs.pT hs.e0;have r:=EF hs.pO hs.e0;have e:=hs.eK;have b:=D7 hs hK (J7 s s.2.2.1 0) 0 s.2.2.1 hs.pend (by simp[J7]) Aa;simp only[Lv,L3]at b;have g:WZ s.2.2.1 s.2.2.2.1 s.2.2.2.2.1 s.2.1.2.2.1=K2 (Ga s (VO (VO s.2.2.1 s.2.2.2.1) s.2.2.2.2.1),()):=by
  unfold WZ;rw[zZ _,zZ _,zZ _,XV _,XV _];simp only[hs.pend.1,hs.pT.1,hs.pO.1,if_true,pA];rw[Zs (n:=jt s.2.2.1+jt s.2.2.2.1),Zs,Zb Aj];have:=Qkw hs hK (s.2.2.2.1++s.2.2.2.2.1) Ae (λx hx=>by
   rcases L4.1 hx with hx|hx
   ·exact hs.pT.2 x hx
   ·exact hs.pO.2 x hx) (mW s.2.1.2.2.1 s.2.2.1 (s.2.2.2.1++s.2.2.2.2.1) (s.2.2.2.1++s.2.2.2.2.1) 0) 0 s.2.2.1 hs.pend (by grind[mW]) Aa
  grind[Ga,VO]
 have c:∀f,0<=s.2.2.2.2.2.2.1->s.2.2.2.2.2.2.1<=3->rJ s f=K2 (Ga s (VO (VO s.2.2.1 s.2.2.2.1) s.2.2.2.2.1)&&((n8 s.2.2.2.2.1 0==s.2.1.2.1)&&((s.2.2.2.2.2.2.2.2.1==0)&&(I9 s.2.2.2.2.2.2.2.1 s.2.2.2.1&&(I9 s.2.2.2.2.2.2.2.1 s.2.2.2.2.1&&((s.2.2.2.2.2.1==f)&&(s.1==NJ s)))))),()):=λf h i=>by
  unfold rJ;rw[g,Z8a _ _,Z3y hs.pT.1 Aa,Z3y hs.pO.1 Aa,OO s h i];have t:(ite (CQ (-1) s.2.2.2.2.1=K4/\(0:Int)<=0) (n8 s.2.2.2.2.1 0) (-1))=n8 s.2.2.2.2.1 0:=if_pos ⟨hs.pO.1,Lh _⟩
  grind
 unfold qd gH Ks gH;rw[O3 _ (by have:=hs.cells;omega),d,fN _,fN _,fN _,zh _,zh _,zh _,b];have j:Q5 s.2.2.2.2.2.2.2.2.1=K2 (K3 (s.2.2.2.2.2.2.2.2.1>=0)&&K3 (s.2.2.2.2.2.2.2.2.1<=4611686018427387903),()):=rfl;have k:Xt s.2.2.2.2.2.2.2.2.1=K2 (K3 (s.2.2.2.2.2.2.2.2.1>=0)&&K3 (s.2.2.2.2.2.2.2.2.1<=4611686018427387903),()):=rfl;simp only[hs.pend.1,hs.pT.1,hs.pO.1,j,k,CM,bL,pA];generalize VN s.2.1=b1;cases b1
 ·rfl
 simp only[pI,pH,pA,Ld];generalize (K3 (s.2.2.2.2.2.2.2.1>=0)&&K3 (s.2.2.2.2.2.2.2.1<=s.2.1.2.2.1))=b2;cases b2
 ·rfl
 simp only[pI,pH,pA,Ld];generalize (K3 (s.2.2.2.2.2.2.2.2.1>=0)&&K3 (s.2.2.2.2.2.2.2.2.1<=4611686018427387903))=b3;cases b3
 ·rfl
 simp only[pI,pH,pA,Ld];by_cases a:0<=s.2.2.2.2.2.2.1/\s.2.2.2.2.2.2.1<=3
 ·rw[c _ a.1 a.2,c _ a.1 a.2,show(K3 (s.2.2.2.2.2.2.1>=0)&&K3 (s.2.2.2.2.2.2.1<=3))=K4 by simp_all];simp only[pI,pH];cases (s.1==(4:Int))||(s.1==(5:Int))
  ·simp only[pH];have u:=hs.e0;have:SF s=(cond (s.2.2.2.2.2.2.1==0) (s.2.2.2.2.2.1== -1) (s.2.2.2.2.2.1==s.2.1.2.2.1)):=by
    grind[SF]
   grind
  grind
 grind
theorem Qnd(l:List Qj)(hl:l.length<=1048576)(ht:pw l<=1000000):∀(N i:Nat)(e:Int),l.length-i<N->i<=l.length-> -1<=e->e<=4611686018427387903->rH N (e+1) l (l.length:Int) (i:Int)=K2 (Gi e (l.drop i),())
 |0,_,_,h,_,_,_=>Aa
 |N+1,i,e,g,j,k,m=>by
  rw[rH];by_cases a:i<l.length
  ·have b:=Fx (Z5 (l:=l) (d:=Qv) a);rw[Zl (Zk),Zb,Zr a,show(i:Int).toNat=i from rfl,Qx (d:=Qv) a];generalize o:l.getD i Qv=c at b;have f:(((c.2.1.length:Int)==0)||K3 (c.1<e+1))=(K3 (c.1<=e)||(c.2.1==([]:Ba))):=by
    rw[Ly];simp only[Mw,beq_iff_eq,decide_eq_true_eq]
    grind[Mq]
   simp only[Gi];rw[f,Zs (n:=4611686018427387903- (c.2.1.length:Int))];cases hx:((K3 (c.1<=e)||(c.2.1==([]:Ba)))||K3 (c.1>4611686018427387903- (c.2.1.length:Int)))
   ·simp only[Lp,decide_eq_false_iff_not]at hx;rw[pH];unfold bS;rw[pA];simp only;rw[Zs (n:=c.1+(c.2.1.length:Int)),Zs,Qnd l hl ht N (i+1) (c.1+(c.2.1.length:Int)) Aa Aa Aa Aa];simp
   ·rfl
  ·rw[Zo (Zm),Lm Aa];rfl
theorem PX(n:Int):Xt n=K2 (kb n,()):=rfl
theorem gR(h:iw K b)(hK:K<=1000000):lE b=K2 (yU b,()):=by
 have c:=h.len;have d:=h.tot;unfold lE yU;rw[PX,pA];cases a:kb b.1
 ·simp
 ·have a:=Jz.1 a;rw[Zs (n:=b.1-1)];have:=Qnd b.2.1 Aa Aa (mV b.1 b.2.1 (b.2.1.length:Int) 0) 0 (b.1-1) (by simp[mV]) Aa Aa Aa;simp_all
theorem Qws(h:iw K b)(hK:K<=1000000):E1 b=yC b:=by
 have a:=h.len;unfold E1 gG gM yC gG gH gM;rw[gR h hK,kI b,pA];cases hz:((b.2.1.length:Int)==0)
 ·cases yU b
  ·rfl
  ·rfl
 simp_all
theorem BG(h:iw K b)(hK:K<=1000000):nF b=fb b:=by
 have a:=h.len
 grind[nF,fb,gR,kI]
theorem YB(h:iw K r.2.1)(hK:K<=1000000:=by omega):ck r=X4 r:=by
 have i:=h.len;obtain⟨v,hv⟩:=PO h hK;unfold ck gH X4 gH ZE;rw[gR h hK,kI _,Qws h hK,hv,BG h hK,uB _];simp only[PX,Jl,bL,pA];generalize yU r.2.1=b1;cases b1
 ·simp_all
 simp only[pI,pH,pA,Ld];cases c:kb r.2.2.2.1
 ·simp_all
 have c:=Jz.1 c;simp only[pI,pH,pA,Ld];by_cases d:v>r.2.2.2.1
 ·simp_all
 rw[Zm d];simp only[pH,pA,Ld];cases hc:kb r.2.2.2.2.1
 ·simp_all
 simp only[pI,pH,pA,Ld];have e:((r.2.2.1 != -1)&&(!(K3 (r.2.2.1>=r.2.2.2.1)&&K3 (r.2.2.1<=4611686018427387903))))=((((r.2.2.1 != -1)&&(K3 (r.2.2.1<r.2.2.2.1)))||(K3 (r.2.2.1>4611686018427387903)))||(K3 (r.2.2.1< -1))):=by
  grind
 by_cases a:r.2.2.1= -1
 ·rw[a];have f:((-1:Int)==r.2.2.2.1)=false:=Ai
  have j:∀b,f6 r b=K6 r b:=λb=>by
   unfold f6 K6;rw[a,f];rfl
  grind
 ·have g:(r.2.2.1 != -1)=true:=by simpa using a
  rw[g]at e⊢;simp only[pG,pA,pJ]at e⊢
  grind(splits:=20)[f6,K6]
theorem AH(c:Y3):dM c=Jd c:=rfl
theorem Hj(w:Qr):lH w=Vr w:=rfl
theorem Zz3(p:Xd):nC p=cv p:=rfl
theorem bO{c b:Bool}{f:Bool×Unit->Option β}:Le (cond c (K2 (Lc,())) (K2 (b,()))) f=f (!c&&b,()):=by cases c<;>rfl
theorem Ur{c b:Bool}:(c|| !(!c&&b))=(c|| !b):=by cases c<;>rfl
theorem bA{c b:Bool}{f:Bool×Unit->Option β}:Le (cond c (K2 (b,())) (K2 (Lc,()))) f=f (c&&b,()):=by cases c<;>rfl
theorem sZ{c b:Bool}:(c&&(c&&b))=(c&&b):=by cases c<;>rfl
theorem CV(h:Xz K s)(hK:K<=1000000):wd s=aU s:=by
 obtain⟨f,a,-⟩:=nK h.snd;obtain⟨g,b⟩:=uZ s.2.2.1;obtain⟨i,c⟩:=uw h.rcv hK;obtain⟨j,d⟩:=KW s.2.2.2.2.1;obtain⟨k,e⟩:=Hy s.2.2.2.2.2.1;unfold wd gH aU gH;simp only[zi h.snd,YB h.rcv hK,AH,Hj,Zz3,a,b,c,d,e,Jl,PX,pA,bO,Ur]
 grind
theorem Qe6(n:Int):H9 n=ZN n:=by rfl
theorem Qe3(n:Int):VI n=ZM n:=by rfl
theorem Qb5(n:Int):T (ZN n) λr=>r.1.length<=10:=by
 unfold ZN gG;refine(WC n 0 5).bind λt a=>T.ite (λ_=>T.pure Ac) λh=>?_;have:=a (by simpa using h);refine T.guard Ae (T.pure ?_);obtain⟨m,rfl⟩:=Lu this.1;have:m=0\/m=1\/m=2\/m=3\/m=4\/m=5:=Aa
 rcases this with rfl|rfl|rfl|rfl|rfl|rfl<;>decide
theorem Qb0(n:Int):T (ZM n) λr=>r.1.length<=10:=by
 unfold ZM gG;refine(WC n 0 5).bind λt a=>T.ite (λ_=>T.pure Ac) λh=>?_;have:=a (by simpa using h);refine T.guard Ae (T.pure ?_);obtain⟨m,rfl⟩:=Lu this.1;have:m=0\/m=1\/m=2\/m=3\/m=4\/m=5:=Aa
 rcases this with rfl|rfl|rfl|rfl|rfl|rfl<;>decide
def qU(r:Zi):Ba:=Lg r.1++(([45]:Ba)++Lg r.2.1)
def vA:List Zi->Ba|[]=>[]|r::l=>[32]++(qU r++vA l)
def HQ:List Zi->Ba|[]=>[110,111,110,101]|r::l=>qU r++vA l
def U6(r:Zi):Prop:=(-9223372036854775808<=r.1/\r.1<=9223372036854775807)/\(-9223372036854775808<=r.2.1/\r.2.1<=9223372036854775807)
theorem SY{r:Zi}(h:U6 r):(qU r).length<=43:=by
 have:=Wd r.1 h.1.1 h.1.2;have:=Wd r.2.1 h.2.1 h.2.2
 grind[qU]
theorem Qyg(r:Zi):qU r≠[]:=by simp[qU]
theorem Z8d(l:List Zi)(hl:l.length<=1048576)(hr:∀x∈l,U6 x):∀(N i:Nat)(s:Ba),l.length-i<N->i<=l.length->s.length<=100*i->(s=[]->i=0)->
  aI N l s (i:Int)=K2 (ite (i=0/\l.length=0) [110,111,110,101] (s++(ite (i=0) ((vA l).drop 1) (vA (l.drop i)))),())
 |0,_,_,h,_,_,_=>Aa
 |N+1,i,s,g,k,e,m=>by
  rw[aI];by_cases b:i<l.length
  ·have a:=hr _ (Z5 (d:=Z4) b);have f:=SY a;have n:=Qyg (l.getD i Z4);simp only[qU,Li,Mr]at f;have j:∀s:Ba,s.length<=100*i+1->jg (λv=>aI N v.1 v.2.1 v.2.2.1) l s (i:Int)=K2 (s++(qU (l.getD i Z4)++vA (l.drop (i+1))),()):=λs e=>by
    unfold jg gG gL;rw[Zb,Zb,show(i:Int).toNat=i from rfl,iM _ a.1.1 a.1.2,iM _ a.2.1 a.2.2];simp only[pA];rw[Zb Ak,Zb Ak,Zb Ak,Zr b,
     Z8d l hl hr N (i+1) _ Aa Aa Ai Ac]
    simp_all[qU]
   rw[Zl (Zk),if_neg Aa];by_cases c:i=0
   ·subst c;rw[Zo Ac,j s Aa,if_pos rfl];have:vA l=[32]++(qU (l.getD 0 Z4)++vA (l.drop 1)):=by
     have:=Qx (l:=l) (i:=0) (d:=Z4) b;rw[L3]at this
     conv=>lhs;rw[this]
     rfl
    rw[this];rfl
   ·rw[Zl (Zk),Zb Ak,j _ Af,if_neg c,Qx (d:=Z4) b];simp[vA]
  ·rw[Zo (Zm),Lm (show l.length<=i by omega)];by_cases c:i=0
   all_goals simp_all[Zo,vA]
theorem Hh(l:List Zi)(hl:l.length<=1048576)(hr:∀x∈l,U6 x):ed l=K2 (HQ l,()):=by
 unfold ed;have:=Z8d l hl hr (fE l [] 0) 0 [] (by simp[fE]) Aa Ac (λ_=>rfl);rw[Lv]at this;rw[this];rcases l with _|⟨r,l⟩
 all_goals rfl
theorem Z8c(l:List Zi)(hl:l.length<=1048576)(hr:∀x∈l,U6 x):∀(N i:Nat)(s:Ba),l.length-i<N->i<=l.length->s.length<=100*i->
  av N s l (l.length:Int) (i:Int)=K2 (s++(ite (i=0) ((vA l).drop 1) (vA (l.drop i))),())
 |0,_,_,h,_,_=>Aa
 |N+1,i,s,g,k,e=>by
  rw[av];by_cases b:i<l.length
  ·have a:=hr _ (Z5 (d:=Z4) b);have f:=SY a;simp only[qU,Li,Mr]at f;have j:∀s:Ba,s.length<=100*i+1->iQ (λv=>av N v.1 v.2.1 v.2.2.1 v.2.2.2.1) s (l.getD (i:Int).toNat Z4) l (l.length:Int) (i:Int)=K2 (s++(qU (l.getD i Z4)++vA (l.drop (i+1))),()):=λs e=>by
    unfold iQ;rw[show(i:Int).toNat=i from rfl,fh _ a.1.1 a.1.2,fh _ a.2.1 a.2.2];simp only[pA];rw[Zb Ak,Zb Ak,Zb Ak,Zr b,
     Z8c l hl hr N (i+1) _ Aa Aa Ai]
    simp_all[qU]
   rw[Zl (Zk),Zb];by_cases c:i=0
   ·subst c;rw[Zo Ac,j s Aa,if_pos rfl];have:vA l=[32]++(qU (l.getD 0 Z4)++vA (l.drop 1)):=by
     have:=Qx (l:=l) (i:=0) (d:=Z4) b;rw[L3]at this
     conv=>lhs;rw[this]
     rfl
    rw[this];rfl
   ·rw[Zl (Zk),Zb Ak,j _ Af,if_neg c,Qx (d:=Z4) b];simp[vA]
  ·rw[Zo (Zm),Lm (show l.length<=i by omega)];by_cases c:i=0
   all_goals simp_all[vA]
theorem WS(l:List Zi)(hl:l.length<=1048576)(hr:∀x∈l,U6 x):dS l=K2 (HQ l,()):=by
 unfold dS;have:=Z8c l hl hr (fu [] l (l.length:Int) 0) 0 [] (by simp[fu]) Aa Ac;rw[Lv]at this;rw[this];rcases l with _|⟨r,l⟩
 all_goals rfl
theorem C4:∀{l:List Zi},(∀x∈l,U6 x)->(HQ l).length<=44*l.length+4
 |[],_=>by simp[HQ]
 |r::l,h=>by
  have g:∀{l:List Zi},(∀x∈l,U6 x)->(vA l).length<=44*l.length:=by
   intro l
   induction l with
   |nil=>simp_all[vA]
   |cons x l a=>
    grind[SY,vA]
  grind[SY,HQ]
theorem Qmg(h:iw K r.2.1)(hK:K<=1000000):T (X4 r) λq=>q.1=K4->yU r.2.1=true:=by
 obtain⟨b,e⟩:=uw h hK;refine⟨_,e,λa=>?_⟩;by_cases hx:yU r.2.1=K4
 ·exact hx
 ·have hx:yU r.2.1=false:=by simpa using hx
  unfold X4 gH at e;rw[kI _ (by have:=h.len;omega),hx]at e;simp_all
theorem Z8j(h:Xz K s)(hK:K<=1000000):T (aU s) λr=>r.1=K4->kb s.1=K4/\yU s.2.2.2.1.2.1=K4/\0<=s.2.1.2.2.2.2.2.2.2.1/\s.2.1.2.2.2.2.2.2.2.1<=s.2.1.2.1.2.2.1:=by obtain⟨f,a,g⟩:=nK h.snd;obtain⟨i,b⟩:=uZ s.2.2.1;obtain⟨⟨j,⟨⟩⟩,c,k⟩:=Qmg h.rcv hK;obtain⟨l,d⟩:=KW s.2.2.2.2.1;obtain⟨m,e⟩:=Hy s.2.2.2.2.2.1;unfold aU gH;simp only[a,b,c,d,e,Jl,pA,bO,Ur];refine T.ite (λ_=>T.pure λh=>by cases h) λn=>?_;simp_all[T.ite,T.pure]
theorem Bj{l:List Zi}(h:RL E l):∀x∈l,U6 x:=λx hx=>by
 have:=Xo.1 (xI h.1 x hx).2;unfold U6;omega
theorem Qf2(h:iw K b)(hK:K<=1000000)(hb:yU b=K4):xq b=K2 (b.2.1.map MA,()):=by
 have g:=h.len;have j:=h.tot;have c:=uc Aa hb;have k:∀(N i:Nat)(o:List Zi),b.2.1.length-i<N->i<=b.2.1.length->o.length<=i->iN N o b.2.1 (b.2.1.length:Int) (i:Int)=K2 (o++(b.2.1.drop i).map MA,()):=by
  intro N
  induction N with
  |zero=>omega
  |succ N e=>
   intro i o m n p;rw[iN];by_cases a:i<b.2.1.length
   ·have q:=Fx (Z5 (l:=b.2.1) (d:=Qv) a);have f:=Xo.1 (xI c.2.2 (MA (b.2.1.getD i Qv)) (List.mem_map.2 ⟨_,Z5 a,rfl⟩)).2;simp only[MA]at f;rw[Zl (Zk),Zb,show(i:Int).toNat=i from rfl];unfold bS;rw[pA];simp only;rw[Zb Aj,Zr a,e (i+1) _ Aa Aa Ae,Qx (d:=Qv) a,Zs];simp[MA]
   grind
 grind[xq,gR,nk]
theorem Qh9(h:Xz K s)(hK:K<=1000000):∃t,kg s=K2 (t,())/\xv s=K2 (t,()):=by
 unfold kg xv;rw[CV h hK];obtain⟨⟨b,u⟩,e,f⟩:=Z8j h hK;rw[e,pA,pA];cases b
 ·simp
 obtain⟨d,a,o,p⟩:=f rfl;have d:=Jz.1 d;have g:=h.snd.eK;have i:=uc (by have:=h.rcv.tot;omega) a;have q:=Q0 h.snd.pend h.snd.e0 h.snd.eK;have v:=Q0 h.snd.pT h.snd.e0 h.snd.eK;have lA:=Q0 h.snd.pO h.snd.e0 h.snd.eK;have c:∀x∈s.2.2.2.1.2.1.2.1.map MA,U6 x:=λx hx=>by
  have:=Xo.1 (xI i.2.2 x hx).2;unfold U6;omega
 have w:(s.2.2.2.1.2.1.2.1.map MA).length<=1000000:=by have:=h.rcv.len;grind
 obtain⟨⟨y,u1⟩,eS,k⟩:=Qb5 s.2.1.1;obtain⟨⟨l,u2⟩,m,n⟩:=Qb0 s.2.2.2.1.1;simp only at k n;have z:=C4 (Bj h.snd.pend);have A:=C4 (Bj h.snd.pT);have B:=C4 (Bj h.snd.pO);have C:=C4 c;have D:=Wd s.1;have E:=Wd s.2.1.2.2.2.2.2.2.2.1;have F:=Wd s.2.2.2.1.2.1.1;have j:∀t:Ba,t.length<=300000000-> ∃r,aJ s t=K2 (r,())/\iR s t=K2 (r,()):=λt G=>by
  unfold aJ iR;cases s.2.2.2.2.2.2.2.1
  ·simp_all
  ·simp only[pG,Qe3,m,iM s.2.2.2.1.2.1.1,fh s.2.2.2.1.2.1.1,lF h.rcv hK,Qf2 h.rcv hK a,a,if_true,Hh _ Aa c,WS _ Aa c,pA];refine⟨t++([32,114,101,99,118,32]++l++[32,114,101,97,100,32]++Lg s.2.2.2.1.2.1.1++[32,104,97,115,32]++HQ (s.2.2.2.1.2.1.2.1.map MA)),?_,?_⟩
   ·repeat rw[Zb (by unfold Z6;simp only[Li,Lf,Ln];omega)]
    simp_all
   ·repeat rw[Zb (by unfold Z6;simp only[Li,Lf,Ln];omega)]
 simp only[pI,pH,iM s.1,fh s.1,pA];cases s.2.2.2.2.2.2.1
 ·grind
 ·simp only[pG,Qe6,eS,iM s.2.1.2.2.2.2.2.2.2.1,fh s.2.1.2.2.2.2.2.2.2.1,Hh _ Aa (Bj h.snd.pend),WS _ Aa (Bj h.snd.pend),Hh _ Aa (Bj h.snd.pT),WS _ Aa (Bj h.snd.pT),Hh _ Aa (Bj h.snd.pO),WS _ Aa (Bj h.snd.pO),pA]
  repeat rw[Zb (by unfold Z6;simp only[Li,Lf,Ln];omega)]
  simp only[Mn];exact j _ (by grind[Li,Lf])
theorem C5(c:cP):oy c=aL c:=by
 unfold oy aL nH eF;have a:K3 (c.1>=1)=K3 (c.1>0):=by congr 1
 simp only[bL,CM,pA,bA,sZ,a];congr 2
 ac_rfl
theorem EX(c:dI):y7 c=iK c:=rfl
theorem C0(c:Y3):um c=bb c:=rfl
theorem Z2z{K:Nat}{l:List Zj}(h:nh K l)(hK:K<=1000000)(h24:l.length<=24):∀(N i:Nat),l-i<N->i<=l->cC N l l l (i:Int)=K5 N l (i:Int)
 |0,_,h,_=>Aa
 |N+1,i,j,k=>by
  rw[cC,K5];by_cases c:i<l
  ·have g:∀{a:Prop},a->K3 ((i:Int)>0)=K4->0<=Lb.wrap ((i:Int)-1)/\Lb.wrap ((i:Int)-1)<l:=λ_ h=>by
    have:=pE h;grind[Zs]
   obtain⟨b,e⟩:=n7 (h.all _ (Z5 (d:=Zc) c)) hK;rw[Zl (Zk (p:=(i:Int)<l)),Zl (Zk (p:=(i:Int)<l)),Zb,Zb,show(i:Int).toNat=i from rfl,CV (h.all _ (Z5 (d:=Zc) c)) hK,Zm (p:=(i:Int)>=24),pH,e,pA,pA];simp only[Ld];rw[Zb (λh f=>g h f),Zb (λh f=>g h f),Zb (λ_ _=>Aa),Zr c,Z2z h hK h24 N (i+1) Aa Aa]
  grind
theorem Qcu{K:Nat}{l:List Zj}(h:nh K l)(hK:K<=1000000)(h24:24<l.length):∀(N i:Nat),24-i<N->i<=24->cC N l l l (i:Int)=K2 (Lc,())
 |0,_,h,_=>Aa
 |N+1,i,j,k=>by
  have m:=h.len;rw[cC,Zl (Zk),Zb];have c:i<l:=Aa
  have g:∀{a:Prop},a->K3 ((i:Int)>0)=K4->0<=Lb.wrap ((i:Int)-1)/\Lb.wrap ((i:Int)-1)<l:=λ_ h=>by
   have:=pE h;grind[Zs]
  by_cases n:i=24
  ·simp_all[Zb]
  ·obtain⟨b,e⟩:=n7 (h.all _ (Z5 (d:=Zc) c)) hK;rw[show(i:Int).toNat=i from rfl,Zm (p:=(i:Int)>=24),pH,CV (h.all _ (Z5 (d:=Zc) c)) hK,e,pA,Zr c,Qcu h hK h24 N (i+1) Aa Aa];simp only[Ld];rw[Zb (λh f=>g h f)];simp_all
theorem CF(h:nh K l)(hK:K<=1000000):kn l=Vg l:=by
 by_cases a:l.length<=24
 ·unfold kn Vg;exact Z2z h hK a _ 0 (by simp[jv]) Aa
 ·obtain⟨⟨b,u⟩,e,c⟩:=Zzh h hK
  grind(splits:=20)[kn,Qcu,jv]
theorem Qhw(h:nh K l)(hK:K<=1000000):KL l=jk l:=by
 obtain⟨b,e⟩:=VP h hK;have g:=h.len;have a:b=K4-> ∀(N i:Nat)(n:Int),l-i<N->i<=l-> ∃v,Vl N () n l l (i:Int)=K2 (v,())/\Vt N l n (i:Int)=K2 (v,()):=by
  intro c N
  induction N with
  |zero=>omega
  |succ N d=>
   intro i n j k;rw[Vl,Vt,e,c];by_cases f:i<l
   ·rw[Zk,pG,pG,pA,Zb];simp only[Lt,pG];rw[Zb,Zr f];exact d (i+1) _ Aa Aa
   simp_all[Zm]
 unfold KL lq jk;rw[CF h hK,e];cases b
 ·simp_all[Jq,Vt]
 ·obtain⟨v,m,o⟩:=a rfl (Jq l 0 0) 0 0 (by simp[Jq]) Aa;simp_all[bV,Jq]
theorem Qhv(h:nh K l)(hK:K<=1000000):KI l=jj l:=by
 obtain⟨b,e⟩:=VP h hK;have g:=h.len;have a:b=K4-> ∀(N i:Nat)(n:Int),l-i<N->i<=l-> ∃v,Vk N () n l l (i:Int)=K2 (v,())/\Vs N l n (i:Int)=K2 (v,()):=by
  intro c N
  induction N with
  |zero=>omega
  |succ N d=>
   intro i n j k;rw[Vk,Vs,e,c];by_cases f:i<l
   ·rw[Zk,pG,pG,pA,Zb];simp only[Lt,pG];rw[Zb,Zr f];exact d (i+1) _ Aa Aa
   simp_all[Zm]
 unfold KI lk jj;rw[CF h hK,e];cases b
 ·simp_all[Jp,Vs]
 ·obtain⟨v,m,o⟩:=a rfl (Jp l 0 0) 0 0 (by simp[Jp]) Aa;simp_all[bU,Jp]
theorem Z8f{l:List Zh}(h:Ep l)(u:Unit):∀(N i:Nat),l-i<N->i<=l-> ∃k b,Q3 N l u l (i:Int)=K2 (k,())/\K3 (k>=0)= !b/\W7 N l (i:Int)=K2 (b,())
 |0,_,h,_=>Aa
 |N+1,i,e,f=>by
  have g:=h.1;rw[Q3,W7];by_cases a:i<l
  ·have c:=h.2 _ (Z5 (d:=Qe) a);unfold RH at c;unfold KP;rw[Zl (Zk),Zl (Zk),Zb,Zb,show(i:Int).toNat=i from rfl,zf _,uK _,pA,pA,pA,Zr a];obtain⟨k,b,j,m,n⟩:=Z8f h () N (i+1) Aa Aa
   grind
  simp_all[Zm]
theorem Qr7{l:List Zh}(h:Ep l):∃b,Xr l=K2 (!b,())/\jn l=K2 (b,()):=by unfold Xr Y8 jn;obtain⟨k,b,a,c,d⟩:=Z8f h () (V9 l 0) 0 (by simp[V9]) Aa;simp_all[Yb,V9]
theorem zg(h:Qa K c)(hK:K<=1000000:=by omega):Wo c=Yd c:=by
 obtain⟨z,l⟩:=jL h.str hK;obtain⟨A,m⟩:=HP h.str hK;have W:=h.pk.1;obtain⟨n,o⟩:∃r,Z9 c.2.2.2.2.2.2.2.2.2.2.2.2.2.1 (-1) 4611686018427387903=K2 (r,()):=⟨_,rfl⟩
 obtain⟨s,t⟩:∃r,Z9 c.2.2.2.2.2.2.2.2.2.2.2.2.2.2.1 0 1000000=K2 (r,()):=⟨_,rfl⟩
 obtain⟨u,v⟩:∃r,Z9 c.2.2.2.2.2.2.2.2.2.2.2.2.2.2.2.2.1 0 1000000=K2 (r,()):=⟨_,rfl⟩
 obtain⟨w,x⟩:∃r,Z9 c.2.2.2.2.2.2.2.2.2.2.2.2.2.2.2.2.2.1 0 255=K2 (r,()):=⟨_,rfl⟩
 have B:Z0 c.2.2.2.2.2.2.2.2.2.2.2.2.2.1 (-1) 4611686018427387903=K2 (n,()):=o;have C:Z0 c.2.2.2.2.2.2.2.2.2.2.2.2.2.2.1 0 1000000=K2 (s,()):=t;have D:Z0 c.2.2.2.2.2.2.2.2.2.2.2.2.2.2.2.2.1 0 1000000=K2 (u,()):=v;have E:Z0 c.2.2.2.2.2.2.2.2.2.2.2.2.2.2.2.2.2.1 0 255=K2 (w,()):=x;have F:∀(N i:Nat),c.2.2.2.2.2.2.2.2.2.2.2.2.2.2.2.1-i<N->i<=c.2.2.2.2.2.2.2.2.2.2.2.2.2.2.2.1-> ∃p,mA N c.2.2.2.2.2.2.2.2.2.2.2.2.2.2.2.1 c.2.2.2.2.2.2.2.2.2.2.2.2.2.2.1 c.2.2.2.2.2.2.2.2.2.2.2.2.2.2.2.1 c.2.2.2.2.2.2.2.2.2.2.2.2.2.2.2.1 (i:Int)=K2 (p,())/\
   aM N c (i:Int)=K2 (p&&(((((n&&s)&&u)&&w)&&K3 (z<=c.2.2.2.2.1.2.1))&&K3 (A<=c.2.2.2.2.2.1.2.2.2.1)),()):=by
  intro N
  induction N with
  |zero=>intro i h;omega
  |succ N G=>
   intro i X Y;rw[mA,aM];by_cases y:i<c.2.2.2.2.2.2.2.2.2.2.2.2.2.2.2.1
   ·have g:∀{a:Prop},a->K3 ((i:Int)>0)=K4->0<=Lb.wrap ((i:Int)-1)/\Lb.wrap ((i:Int)-1)<c.2.2.2.2.2.2.2.2.2.2.2.2.2.2.2.1:=λ_ h=>by
     have:=pE h;grind[Zs]
    obtain⟨b,H,I⟩:=Qr7 (h.pk.2 _ (Z5 (d:=Q8) y));rw[Zl (Zk),Zl (Zk),Zb,Zb,show(i:Int).toNat=i from rfl,bL,CM,H,I,pA,pA,Zb (λh j=>g h j),Zb (λ_ _=>Aa),Zb (λh j=>g h j)];simp only;rw[Zb (λ_=>Aa),Zr y];obtain⟨p,e,f⟩:=G (i+1) Aa Aa;rw[e,f];generalize (!(_&&_)||_:Bool)=q;cases q
    ·cases b
     all_goals simp
    simp_all
   ·rw[Zo (Zm),Zo (Zm)];refine⟨K4,rfl,?_⟩;simp only[o,t,v,x,pA,bA,sZ,l,m,pJ]
    grind
 obtain⟨p,e,f⟩:=F (Vc c 0) 0 (by simp[Vc]) Aa;have J:rO c.2.2.2.2.2.2.2.2.2.2.2.2.2.2.2.1 c.2.2.2.2.2.2.2.2.2.2.2.2.2.2.1 c.2.2.2.2.2.2.2.2.2.2.2.2.2.2.2.1 c.2.2.2.2.2.2.2.2.2.2.2.2.2.2.2.1 0=Vc c 0:=rfl;rw[Lv]at e f;obtain⟨Z,L⟩:=Ei c.2.1;obtain⟨b2,k⟩:=Ei c.2.2.1;obtain⟨b3,M⟩:=VP h.str hK;obtain⟨b4,O⟩:=uZ c.2.2.2.2.1;obtain⟨b5,P⟩:=KW c.2.2.2.2.2.1;obtain⟨b6,Q⟩:=FH c.2.2.2.2.2.2.1;obtain⟨b7,S⟩:=FH c.2.2.2.2.2.2.2.1;obtain⟨b8,U⟩:=ne c.2.2.2.2.2.2.2.2.1;obtain⟨b9,V⟩:=ne c.2.2.2.2.2.2.2.2.2.1;unfold Wo gH Yd gH Hs;simp only[C5,CF h.str hK,AH,Hj,EX,C0,Qhw h.str hK,Qhv h.str hK,L,k,M,O,P,Q,S,U,V,J,e,f,l,m,B,C,D,E,pA,bO,Ur]
 grind
theorem Zzq(c:Y3):ZS c=aT c:=rfl
theorem Qo2(w:Qr):kZ w=JU w:=rfl
theorem Qrj(c:Y3):T (Jd c) λr=>r.1=K4->0<=c.2.1/\c.2.1<=c.1/\c.1<=4611686018427387903:=by simp_all[Jd,Jl,CM,bA,T.pure,Jz]
theorem Qt7(w:Qr):T (Vr w) λr=>r.1=K4->0<=w.2.2.2.1/\w.2.2.2.1<=w.2.2.1/\w.2.2.1<=4611686018427387903:=by
 unfold Vr;have B:∀{b:Bool}{n l h:Int}{β:Type}{f:Bool×Unit->Option β}{R:β->Prop},(∀r:Bool×Unit,(r.1=K4->l<=n/\n<=h)->T (f r) R)->T (Le (cond b (Z9 n l h) (K2 (Lc,()))) f) R:=λk=>T.bind (T.if (WC _ _ _) (T.pure λh=>by cases h)) k;exact(WC _ _ _).bind λa c=>B λd e=>B λg i=>B λj m=>B λo p=>B λq s=>T.pure λh=>by
  simp_all
theorem Qda(c:Y3):T (aT c) λr=>0<=r.1/\r.1<=4611686018427387903:=by
 unfold aT;refine(Qrj c).bind λt a=>T.ite (λ_=>T.pure Ac) λh=>T.pure ?_
 grind[Zs]
theorem Qo1(w:Qr):T (JU w) λr=>0<=r.1/\r.1<=4611686018427387903:=by
 unfold JU;refine(Qt7 w).bind λt a=>T.ite (λ_=>T.pure Ac) λh=>T.pure ?_
 grind[Zs]
theorem Qcx(h:Qa K c)(hK:K<=1000000):∃v,uC c=K2 (v,())/\ug c=K2 (v,())/\0<=v/\v<=1000000000000:=by
 obtain⟨⟨b,u⟩,e,l⟩:=EH h hK;have m:b=K4-> ∀(N i:Nat)(n:Int),c.2.2.2.1.length-i<N->i<=c.2.2.2.1.length->0<=n->n<=i*1000000-> ∃v,fF N n c.2.2.2.1 (c.2.2.2.1.length:Int) (i:Int)=K2 (v,())/\bP N c n (i:Int)=K2 (v,())/\0<=v/\v<=1000000000000:=by
  intro f N;have o:=l f
  induction N with
  |zero=>omega
  |succ N p=>
   intro i n s t w g;rw[fF,bP,e,f];by_cases j:i<c.2.2.2.1.length
   ·have a:=(h.str.all _ (Z5 (d:=Zc) j)).snd;have x:=EF a.pT a.e0;have q:=a.eK;have y:=Q0 a.pT a.e0 a.eK;rw[Zk,pG,pG,pA,Zb];simp only[Lt,pG];rw[Zb,show(i:Int).toNat=i from rfl,ix _,zZ _,pA,pA,a.pT.1];simp only[if_true];rw[Zr j,Zs];exact p (i+1) _ Aa Aa Aa Aa
   grind
 unfold ug uC;rw[zg h hK,e];cases b
 ·simp_all[aD,bP]
 ·obtain⟨v,g,k,r⟩:=m rfl (aD c 0 0) 0 0 (by simp[aD]) Aa Aa Aa;rw[Lv]at g k;exact⟨v,k,g,r⟩
theorem Qc8(h:Qa K c)(hK:K<=1000000)(u:Unit)(e:Yd c=K2 (K4,u)):0<=c.2.2.2.2.2.2.2.2.2.2.2.2.2.2.2.2.2.1/\c.2.2.2.2.2.2.2.2.2.2.2.2.2.2.2.2.2.1<=255:=by
 have j:∀(N i:Nat),c.2.2.2.2.2.2.2.2.2.2.2.2.2.2.2.1.length-i<N->i<=c.2.2.2.2.2.2.2.2.2.2.2.2.2.2.2.1.length->T (aM N c (i:Int)) λr=>r.1=K4->0<=c.2.2.2.2.2.2.2.2.2.2.2.2.2.2.2.2.2.1/\c.2.2.2.2.2.2.2.2.2.2.2.2.2.2.2.2.2.1<=255:=by
  intro N
  induction N with
  |zero=>intro i h;omega
  |succ N k=>
   intro i q s;have v:=h.pk.1;unfold aM;refine T.ite (λd=>?_) λ_=>?_
   ·have d:=pE d;refine T.guard Aa ((Hm _ _ _).bind λt _=>T.guard (λ_ _=>Aa) (T.guard (λ_ h=>?_) (T.guard (λ_=>Aa) (T.bind (Q:=λ_=>True) (T.if T.tt (Z8n (h.pk.2 _ (Z5)))) λw _=>T.if (T.pure λh=>by cases h) ?_))))
    ·have:=pE h
     grind[Zs]
    ·rw[Zr (m:=c.2.2.2.2.2.2.2.2.2.2.2.2.2.2.2.1.length)];exact k (i+1) Aa Aa
   ·exact(Hm _ _ _).bind λt _=>T.bind (Q:=λ_=>True) (T.if (Hm _ _ _) T.tt) λt _=>T.bind (Q:=λ_=>True) (T.if (Hm _ _ _) T.tt) λt _=>T.bind (T.if (WC _ _ _) (T.pure λh=>by cases h)) λt l=>
     T.bind (Q:=λ_=>True) (T.if (qL (jL h.str hK)) T.tt) λt _=>T.bind (Q:=λ_=>True) (T.if (qL (HP h.str hK)) T.tt) λt _=>T.pure λh=>l Af
 have a:T (Yd c) λr=>r.1=K4->0<=c.2.2.2.2.2.2.2.2.2.2.2.2.2.2.2.2.2.1/\c.2.2.2.2.2.2.2.2.2.2.2.2.2.2.2.2.2.1<=255:=by
  unfold Yd gH;have B:∀{α β:Type}{b:Bool}{m n:Option α}{f:α->Option β}{R:β->Prop},TT m->TT n->(∀y,T (f y) R)->T (Le (cond b m n) f) R:=λg o p=>(T.if g o).bind λy _=>p y;exact(qL (Ei _)).bind λt _=>B T.tt (qL (Ei _)) λt=>B T.tt (qL (VP h.str hK)) λt=>B T.tt (qL (uZ _)) λt=>B T.tt (qL (KW _)) λt=>B T.tt (qL (FH _)) λt=>B T.tt (qL (FH _)) λt=>B T.tt (qL (ne _)) λt=>B T.tt (qL (ne _)) λt=>
   T.if (T.pure λh=>by cases h) (j _ 0 (by simp[Vc]) Aa)
 obtain⟨y,x,g⟩:=a;simp_all
theorem Qnr(h:Qa K c)(hK:K<=1000000):∃t,nP c=K2 (t,())/\ZU c=K2 (t,()):=by
 have i:=h.str.len;have j:=h.pk.1;obtain⟨⟨b,u⟩,e,p⟩:=EH h hK;obtain⟨⟨a,u1⟩,k,l⟩:=Qda c.2.2.2.2.1;obtain⟨⟨d,u2⟩,m,n⟩:=Qo1 c.2.2.2.2.2.1;obtain⟨f,o,g,q⟩:=Qcx h hK;unfold nP ZU iJ lG;rw[zg h hK,e,pA,pA];cases b
 ·simp
 have r:=Qc8 h hK u e;simp only at l n;have s:=Wd c.2.2.2.2.2.2.2.2.2.2.2.2.2.2.2.2.2.1;have v:=Wd (c.2.2.2.1.length:Int);have w:=Wd a;have x:=Wd d;have y:=Wd (c.2.2.2.2.2.2.2.2.2.2.2.2.2.2.2.1.length:Int);have z:=Wd f;simp only[pI,pH,pA,Zzq,Qo2,k,m,o,g,iM c.2.2.2.2.2.2.2.2.2.2.2.2.2.2.2.2.2.1,fh c.2.2.2.2.2.2.2.2.2.2.2.2.2.2.2.2.2.1,iM (c.2.2.2.1.length:Int),fh (c.2.2.2.1.length:Int),iM a,fh a,iM d,fh d,iM (c.2.2.2.2.2.2.2.2.2.2.2.2.2.2.2.1.length:Int),fh (c.2.2.2.2.2.2.2.2.2.2.2.2.2.2.2.1.length:Int),iM f,fh f];cases c.2.2.2.2.2.2.2.2.2.2.2.2.2.2.2.2.2.1 !=0
 ·rw[pH]
  repeat rw[Zb (by unfold Z6;simp only[Li,Lf,Ln];omega)]
  simp_all
 ·rw[pG]
  repeat rw[Zb Ak]
  simp_all
theorem jK(n:Int): -9223372036854775808<=Lb.wrap n/\Lb.wrap n<=9223372036854775807:=by simp[Ml,Mk,M2]<;>omega
def PF(n a b:Int):Bool:=K3 (n>=a)&&K3 (n<=b)
theorem dU{b:Int}:PF n a b=K4↔a<=n/\n<=b:=by unfold PF;simp
theorem Uk(n a b:Int):Z9 n a b=K2 (PF n a b,()):=rfl
def CJ(c:Y3):Bool:=((kb c.1&&PF c.2.1 0 c.1)&&PF c.2.2.1 (-1) c.1)&&PF c.2.2.2.1 (-1) c.1
theorem DG(c:Y3):Jd c=K2 (CJ c,()):=by unfold Jd;simp only[Jl,Uk,pA,bA,sZ];rfl
structure MZ(c:Y3):Prop where
 lim:c.1<=4611686018427387903
 use0:0<=c.2.1
 use:c.2.1<=c.1
 blk0: -1<=c.2.2.1
 blk:c.2.2.1<=c.1
 told0: -1<=c.2.2.2.1
 told:c.2.2.2.1<=c.1
theorem O5{c:Y3}:CJ c=K4↔MZ c:=by unfold CJ;simp only[pC,Jz,dU];exact⟨λh=>⟨Aa,Aa,Aa,Aa,Aa,Aa,Aa⟩,λh=>by obtain⟨_,_,_,_,_,_,_⟩:=h;omega⟩
def N8(w:Qr):Bool:=(((((PF w.2.1 1 4096&&PF w.1 1 w.2.1)&&PF w.2.2.1 1 4611686018427387903)&&PF w.2.2.2.1 0 w.2.2.1)&&PF w.2.2.2.2.1 0 w.2.2.2.1)&&K3 (w.2.2.1<=Lb.wrap (w.2.2.2.2.1+w.1)))&&PF w.2.2.2.2.2.1 0 1000000
theorem jY(w:Qr):Vr w=K2 (N8 w,()):=by unfold Vr;simp only[Uk,pA,bA,sZ];rfl
structure vY(w:Qr):Prop where
 most:1<=w.2.1/\w.2.1<=4096
 size:1<=w.1/\w.1<=w.2.1
 lim:1<=w.2.2.1/\w.2.2.1<=4611686018427387903
 seen:0<=w.2.2.2.1/\w.2.2.2.1<=w.2.2.1
 read:0<=w.2.2.2.2.1/\w.2.2.2.2.1<=w.2.2.2.1
 lr:w.2.2.1<=w.2.2.2.2.1+w.1
 since:0<=w.2.2.2.2.2.1/\w.2.2.2.2.2.1<=1000000
theorem Dj:N8 w=K4↔vY w:=by
 unfold N8;simp only[pC,dU,decide_eq_true_eq];constructor
 ·rintro⟨⟨⟨⟨⟨⟨a,b⟩,c⟩,d⟩,e⟩,f⟩,g⟩;constructor<;>grind[Zs]
 ·rintro⟨a,b,c,d,e,f,g⟩
  grind[Zs]
def EE(p:Xd):Bool:=PF p.1 0 7
theorem prE(p:Xd):cv p=K2 (EE p,()):=rfl
def I2(c:dI):Bool:=(PF c.1 0 1152921504606846976&&PF c.2.1 0 c.1)&&PF c.2.2.1 (-1) c.1
theorem XZ(c:dI):iK c=K2 (I2 c,()):=by unfold iK;simp only[Uk,pA,bA,sZ];rfl
theorem Q1u{c:dI}:I2 c=K4↔(0<=c.1/\c.1<=1152921504606846976)/\(0<=c.2.1/\c.2.1<=c.1)/\ -1<=c.2.2.1/\c.2.2.1<=c.1:=by simp_all[I2,dU,and_assoc]
def Bf(a:Q1):Bool:=(((PF a.1 0 1000&&PF a.2.1 a.1 1152921504606846976)&&PF a.2.2.1 0 a.2.1)&&PF a.2.2.2.1 0 a.2.2.1)&&K3 (a.2.1<=Lb.wrap (a.2.2.2.1+a.1))
theorem EB(a:Q1):bb a=K2 (Bf a,()):=by unfold bb;simp only[Uk,pA,bA,sZ];rfl
structure MH(a:Q1):Prop where
 most:0<=a.1/\a.1<=1000
 lim:a.1<=a.2.1/\a.2.1<=1152921504606846976
 seen:0<=a.2.2.1/\a.2.2.1<=a.2.1
 clo:0<=a.2.2.2.1/\a.2.2.2.1<=a.2.2.1
 lc:a.2.1<=a.2.2.2.1+a.1
theorem dW{a:Q1}:Bf a=K4↔MH a:=by
 unfold Bf;simp only[pC,dU,decide_eq_true_eq];constructor
 ·rintro⟨⟨⟨⟨b,c⟩,d⟩,e⟩,f⟩;constructor<;>grind[Zs]
 ·rintro⟨b,c,d,e,f⟩
  grind[Zs]
def Cq(c:cP):Bool:=match aL c with|some (b,_)=>b|none=>Lc
theorem RJ(c:cP):aL c=K2 (Cq c,()):=by
 obtain⟨b,e⟩:=Ei c
 grind[Cq]
structure Q1n(s:Zn):Prop where
 whole:Ga s (VO (VO s.2.2.1 s.2.2.2.1) s.2.2.2.2.1)=K4
 gap:n8 s.2.2.2.2.1 0=s.2.1.2.1
 code:s.2.2.2.2.2.2.2.2.1=0
 fl:I9 s.2.2.2.2.2.2.2.1 s.2.2.2.1=K4
 ac:I9 s.2.2.2.2.2.2.2.1 s.2.2.2.2.1=K4
 fin:SF s=K4
 st:s.1=NJ s
structure Uj(s:Zn):Prop where
 ring:VN s.2.1=K4
 pr:CQ (-1) s.2.2.1=K4
 fr:CQ (-1) s.2.2.2.1=K4
 ar:CQ (-1) s.2.2.2.2.1=K4
 sent:0<=s.2.2.2.2.2.2.2.1/\s.2.2.2.2.2.2.2.1<=s.2.1.2.2.1
 code:0<=s.2.2.2.2.2.2.2.2.1/\s.2.2.2.2.2.2.2.2.1<=4611686018427387903
 fin:0<=s.2.2.2.2.2.2.1/\s.2.2.2.2.2.2.1<=3
 rst:s.1=4\/s.1=5->s.2.1.2.1=s.2.1.2.2.1/\s.2.2.1=[]/\s.2.2.2.1=[]/\s.2.2.2.2.1=[]/\s.2.2.2.2.2.1=s.2.2.2.2.2.2.2.1/\s.2.2.2.2.2.2.1=0/\s.2.2.2.2.2.2.2.1=s.2.1.2.2.1
 no:¬(s.1=4\/s.1=5)->Q1n s
def j4(s:Zn):Bool:=match Ks s with|some (b,_)=>b|none=>Lc
theorem lg{K:Int}{s:Zn}(hs:Wt K s)(hK:K<=1000000:=by omega):Ks s=K2 (j4 s,()):=by grind[nK,j4]
theorem R7{K:Int}{s:Zn}(hs:Wt K s)(hK:K<=1000000):j4 s=K4↔Uj s:=by
 have q:=Q0 hs.pend hs.e0 hs.eK hK;have r:=Q0 hs.pT hs.e0 hs.eK hK;have t:=Q0 hs.pO hs.e0 hs.eK hK;have p:=(Gm s.2.1 (by have:=hs.cells;omega)).1;have o:=D7 hs hK (J7 s s.2.2.1 0) 0 s.2.2.1 hs.pend (by simp[J7]) Aa;simp only[Lv,L3]at o;unfold j4 Ks gH;rw[p,fN _,fN _,fN _];simp only[Jl,Uk,pA,bO,Ur,hs.pend.1,hs.pT.1,hs.pO.1,pI,Mx,o];by_cases f:(((!VN s.2.1|| !PF s.2.2.2.2.2.2.2.1 0 s.2.1.2.2.1)|| !kb s.2.2.2.2.2.2.2.2.1)|| !PF s.2.2.2.2.2.2.1 0 3)=K4
 ·rw[f,pG];refine⟨λh=>Mv h,λh=>?_⟩;have a:=h.ring;have b:=dU.2 h.sent;have c:=Jz.2 h.code;have d:=dU.2 h.fin;simp_all
 ·have f:(((!VN s.2.1|| !PF s.2.2.2.2.2.2.2.1 0 s.2.1.2.2.1)|| !kb s.2.2.2.2.2.2.2.2.1)|| !PF s.2.2.2.2.2.2.1 0 3)=false:=by simpa using f
  rw[f,pH];simp only[Lp,L2]at f;obtain⟨⟨⟨a,b⟩,c⟩,d⟩:=f;by_cases e:s.1=4\/s.1=5
  ·have:((s.1==4)||(s.1==5))=true:=by simpa using e
   rw[this,pG];simp only[pC,beq_iff_eq];constructor
   ·rintro⟨⟨⟨⟨⟨⟨g,l⟩,m⟩,n⟩,i⟩,j⟩,k⟩;exact⟨a,hs.pend.1,hs.pT.1,hs.pO.1,dU.1 b,Jz.1 c,dU.1 d,λ_=>⟨g,Mq.1 Aa,Mq.1 Aa,Mq.1 Aa,i,j,k⟩,λh=>absurd e h⟩
   ·intro h;obtain⟨g,l,m,n,i,j,k⟩:=h.rst e;simp_all
  ·have:((s.1==4)||(s.1==5))=false:=by simpa using e
   rw[this,pH];simp only[pC,beq_iff_eq];constructor
   ·rintro⟨g,l,m,n,i,j,k⟩;exact⟨a,hs.pend.1,hs.pT.1,hs.pO.1,dU.1 b,Jz.1 c,dU.1 d,λh=>absurd h e,λ_=>⟨g,l,m,n,i,j,k⟩⟩
   ·intro h;obtain⟨g,l,m,n,i,j,k⟩:=h.no e;simp_all
def FT(r:Z1):Bool:=match X4 r with|some (b,_)=>b|none=>Lc
theorem D9(h:iw K r.2.1)(hK:K<=1000000:=by omega):X4 r=K2 (FT r,()):=by grind[uw,FT]
theorem n9(h:iw K r.2.1)(hK:K<=1000000)(hb:FT r=K4):0<=r.1:=by
 have e:=D9 h hK;rw[hb]at e;unfold X4 gH at e;have a:=h.len;obtain⟨v,k⟩:=PO h hK;rw[kI _,uB _,k]at e;simp only[pA,Jl,Vj]at e
 grind(splits:=20)[K6]
def T7(s:Zj):Bool:=((((((((kb s.1&&j4 s.2.1)&&CJ s.2.2.1)&&FT s.2.2.2.1)&&N8 s.2.2.2.2.1)&&EE s.2.2.2.2.2.1)&&kb s.2.2.2.2.2.2.2.2.2.2.2.2.1)&&(s.2.2.2.2.2.2.1||s.2.2.2.2.2.2.2.1))&&!(((((K3 (s.2.1.2.2.2.2.2.2.2.1>s.2.2.1.2.1))||(K3 (s.2.2.2.1.2.2.2.1>s.2.2.2.2.1.2.2.2.1)))||(s.2.2.2.2.2.2.2.2.1&&(s.2.1.1 !=(4:Int))))||(s.2.2.2.2.2.2.2.2.2.1&&(!s.2.2.2.2.2.2.2.2.2.2.2.1)))||((s.2.2.2.2.2.2.2.2.2.2.2.2.1 !=(0:Int))&&(!s.2.2.2.2.2.2.2.2.2.2.2.1))))&&((s.2.2.2.2.2.2.1||(((s.2.1.1==(0:Int))&&(s.2.1.2.1.2.2.1==(0:Int)))&&(s.2.1.2.2.2.2.2.1==(-1:Int))))&&(s.2.2.2.2.2.2.2.1||(((s.2.2.2.1.1==(0:Int))&&(s.2.2.2.1.2.2.2.1==(0:Int)))&&(!s.2.2.2.2.2.2.2.2.2.2.2.1))))
theorem stE(h:Xz K s)(hK:K<=1000000):aU s=K2 (T7 s,()):=by
 unfold aU gH T7;simp only[lg h.snd,D9 h.rcv hK,DG,jY,prE,Jl,pA,bO,Ur]
 grind
def sB:Option Int->List Zj->Bool
 |_,[]=>K4
 |p,x::r=>(T7 x&&(match p with|none=>K4|some q=>K3 (q<x.1)))&&sB (K2 x.1) r
theorem Qqa:∀{l:List Zj}{p:Option Int},sB p l=K4↔(∀s∈l,T7 s=K4)/\l.Pairwise (λa b=>a.1<b.1)/\ ∀q,p=K2 q-> ∀s∈l,q<s.1
 |[],p=>by simp[sB]
 |x::r,p=>by
  have c:(match p with|none=>K4|some q=>K3 (q<x.1))=K4↔ ∀q,p=K2 q->q<x.1:=by cases p<;>simp
  simp only[sB,pC,c,Qqa (l:=r),Mt,Ls,forall_eq_or_imp]
  grind
def OD(l:List Zj)(i:Nat):Option Int:=ite (i=0) Lk (K2 (l.getD (i-1) Zc).1)
theorem Qm9{K:Nat}{l:List Zj}(h:nh K l)(hK:K<=1000000):∀(N i:Nat),l-i<N->i<=l->K5 N l (i:Int)=K2 (sB (OD l i) (l.drop i)&&K3 ((l:Int)<=24),())
 |0,_,h,_=>Aa
 |N+1,i,n,o=>by
  have c:=h.len;rw[K5];by_cases b:i<l
  ·have g:∀{a:Prop},a->K3 ((i:Int)>0)=K4->0<=Lb.wrap ((i:Int)-1)/\Lb.wrap ((i:Int)-1)<l:=λ_ h=>by
    have:=pE h;grind[Zs]
   rw[Zl (Zk),Zb,show(i:Int).toNat=i from rfl,stE (h.all _ (Z5 (d:=Zc) b)) hK,pA,Zb (λ_ _=>Aa),Zb (λh j=>g h j),Zr b,Qm9 h hK N (i+1) Aa Aa,Qx (d:=Zc) b];have e:OD l (i+1)=K2 (l.getD i Zc).1:=by rfl
   rw[e];simp only[sB];by_cases k:i=0
   ·subst k;have f:OD l 0=none:=rfl
    grind
   ·have f:OD l i=K2 (l.getD (i-1) Zc).1:=by simp_all[OD]
    have m:(Lb.wrap ((i:Int)-1)).toNat=i-1:=Al
    rw[f,Zk (p:=(i:Int)>0),m]
    grind
  simp_all[Zm,Lm,sB]
structure Q1o(l:List Zj):Prop where
 all:∀s∈l,T7 s=K4
 srt:l.Pairwise λa b=>a.1<b.1
 len:l.length<=24
def Gu(l:List Zj):Bool:=sB Lk l&&K3 ((l:Int)<=24)
theorem Cl(h:nh K l)(hK:K<=1000000):Vg l=K2 (Gu l,()):=by unfold Vg;exact Qm9 h hK _ 0 (by simp[dh]) Aa
theorem NZ:Gu l=K4↔Q1o l:=by
 unfold Gu;simp only[pC,Qqa,decide_eq_true_eq];constructor
 ·rintro⟨⟨a,b,-⟩,c⟩;exact⟨a,b,Aa⟩
 ·rintro⟨a,b,c⟩
  grind
def Pj(f:Zj->Int):List Zj->Int->Int|[],n=>n|x::r,n=>Pj f r (min (Lb.wrap (n+f x)) 4611686018427387904)
def BR(f:Zj->Int):List Zj->Int|[]=>0|x::r=>f x+BR f r
theorem zB{f:Zj->Int}:∀{l:List Zj}{n:Int},(∀s∈l,0<=f s/\f s<=4611686018427387903)->0<=n->n<=4611686018427387904->Pj f l n=min (n+BR f l) 4611686018427387904/\0<=BR f l
 |[],n,_,c,d=>by grind[Pj,BR]
 |x::r,n,h,c,d=>by
  have hx:=h x (L5);simp only[Pj,BR];rw[Zs];obtain⟨a,b⟩:=zB (f:=f) (l:=r) (n:=min (n+f x) 4611686018427387904) (λs e=>h s (L8 _ e)) Aa Aa;rw[a];omega
def HR(s:Zj):Int:=s.2.1.2.2.2.2.2.2.2.1
def qB(s:Zj):Int:=s.2.2.2.1.2.2.2.1
theorem Q01(h:nh K l)(hK:K<=1000000)(hb:Gu l=K4):jk l=K2 (Pj HR l 0,()):=by
 have a:=h.len;have e:∀(N i:Nat)(n:Int),l-i<N->i<=l->Vt N l n (i:Int)=K2 (Pj HR (l.drop i) n,()):=by
  intro N
  induction N with
  |zero=>omega
  |succ N c=>
   intro i n f g;unfold Vt;rw[Cl h hK,hb,Vj,pA];by_cases b:i<l
   ·rw[Zk];simp only[pG,Lt];rw[Zb,Zr b,c (i+1) _ Aa Aa,Qx (d:=Zc) b];rfl
   ·rw[Zm,Lm Aa];rfl
 grind[jk,Jq]
theorem Q00(h:nh K l)(hK:K<=1000000)(hb:Gu l=K4):jj l=K2 (Pj qB l 0,()):=by
 have a:=h.len;have e:∀(N i:Nat)(n:Int),l-i<N->i<=l->Vs N l n (i:Int)=K2 (Pj qB (l.drop i) n,()):=by
  intro N
  induction N with
  |zero=>omega
  |succ N c=>
   intro i n f g;unfold Vs;rw[Cl h hK,hb,Vj,pA];by_cases b:i<l
   ·rw[Zk];simp only[pG,Lt];rw[Zb,Zr b,c (i+1) _ Aa Aa,Qx (d:=Zc) b];rfl
   ·rw[Zm,Lm Aa];rfl
 grind[jj,Jp]
theorem Q12{l:List Zh}(h:Ep l):jn l=K2 (l.all Ym,()):=by
 have c:=h.1;have g:∀(N i:Nat),l-i<N->i<=l->W7 N l (i:Int)=K2 ((l.drop i).all Ym,()):=by
  intro N
  induction N with
  |zero=>intro i h;omega
  |succ N e=>
   intro i j k;unfold W7;by_cases a:i<l
   ·have f:RH (l.getD i Qe):=h.2 _ (Z5 a);unfold RH at f;rw[Zl (Zk),Zb,show(i:Int).toNat=i from rfl,uK _,pA,Zr a,e (i+1) Aa Aa,Qx (d:=Qe) a,Mm];generalize Ym (l.getD i Qe)=b;cases b<;>rfl
   grind
 grind[jn,V9]
def NO(n:Int):Option Int->List Qf->Bool
 |_,[]=>K4
 |p,x::r=>((PF x.1 0 (Lb.wrap (n-1))&&(match p with|none=>K4|some q=>K3 (q<x.1)))&&x.2.1.all Ym)&&NO n (K2 x.1) r
def VG(l:List Qf)(i:Nat):Option Int:=ite (i=0) Lk (K2 (l.getD (i-1) Q8).1)
def Rw(c:Zf):Bool:=((((PF c.2.2.2.2.2.2.2.2.2.2.2.2.2.1 (-1) 4611686018427387903&&PF c.2.2.2.2.2.2.2.2.2.2.2.2.2.2.1 0 1000000)&&PF c.2.2.2.2.2.2.2.2.2.2.2.2.2.2.2.2.1 0 1000000)&&PF c.2.2.2.2.2.2.2.2.2.2.2.2.2.2.2.2.2.1 0 255)&&K3 (Pj HR c.2.2.2.1 0<=c.2.2.2.2.1.2.1))&&K3 (Pj qB c.2.2.2.1 0<=c.2.2.2.2.2.1.2.2.2.1)
theorem Qiv{K:Nat}{c:Zf}(h:Qa K c)(hK:K<=1000000)(hb:Gu c.2.2.2.1=K4):∀(N i:Nat),c.2.2.2.2.2.2.2.2.2.2.2.2.2.2.2.1-i<N->i<=c.2.2.2.2.2.2.2.2.2.2.2.2.2.2.2.1->
  aM N c (i:Int)=K2 (NO c.2.2.2.2.2.2.2.2.2.2.2.2.2.2.1 (VG c.2.2.2.2.2.2.2.2.2.2.2.2.2.2.2.1 i) (c.2.2.2.2.2.2.2.2.2.2.2.2.2.2.2.1.drop i)&&Rw c,())
 |0,_,h,_=>Aa
 |N+1,i,q,r=>by
  have f:=h.pk.1;rw[aM];by_cases b:i<c.2.2.2.2.2.2.2.2.2.2.2.2.2.2.2.1
  ·have j:=Qiv h hK hb N (i+1) Aa Aa;have k:=h.pk.2 _ (Z5 (d:=Q8) b);generalize c.2.2.2.2.2.2.2.2.2.2.2.2.2.2.1=n at*
   generalize c.2.2.2.2.2.2.2.2.2.2.2.2.2.2.2.1=l at*
   have g:∀{a:Prop},a->K3 ((i:Int)>0)=K4->0<=Lb.wrap ((i:Int)-1)/\Lb.wrap ((i:Int)-1)<l:=λ_ h=>by
    have:=pE h;grind[Zs]
   rw[Zl (Zk),Zb,show(i:Int).toNat=i from rfl,Uk,pA,Zb (λ_ _=>Aa),Zb (λh m=>g h m),Zb (λ_=>Aa),Zr b,j,Qx (d:=Q8) b,Q12 k,Vj,pA];have e:VG l (i+1)=K2 (l.getD i Q8).1:=by rfl
   rw[e];simp only[NO];by_cases o:i=0
   ·subst o;have p:VG l 0=none:=rfl
    grind
   ·have p:VG l i=K2 (l.getD (i-1) Q8).1:=by simp_all[VG]
    have s:(Lb.wrap ((i:Int)-1)).toNat=i-1:=Al
    grind
  ·rw[Zo (Zm),Lm Aa];simp only[NO,pJ,Uk,pA,bA,sZ,Q01 h.str hK hb,Q00 h.str hK hb];unfold Rw
   grind
structure ew(c:Zf):Prop where
 own:Cq c.2.1=K4
 peer:Cq c.2.2.1=K4
 sts:Gu c.2.2.2.1=K4
 tot:CJ c.2.2.2.2.1=K4
 inf:N8 c.2.2.2.2.2.1=K4
 ob:I2 c.2.2.2.2.2.2.1=K4
 ou:I2 c.2.2.2.2.2.2.2.1=K4
 ab:Bf c.2.2.2.2.2.2.2.2.1=K4
 au:Bf c.2.2.2.2.2.2.2.2.2.1=K4
 pks:NO c.2.2.2.2.2.2.2.2.2.2.2.2.2.2.1 Lk c.2.2.2.2.2.2.2.2.2.2.2.2.2.2.2.1=K4
 tail:Rw c=K4
def ci(c:Zf):Bool:=match Yd c with|some (b,_)=>b|none=>Lc
theorem Ih(h:Qa K c)(hK:K<=1000000:=by omega):Yd c=K2 (ci c,()):=by
 obtain⟨⟨b,u⟩,e,-⟩:=Fi h hK
 grind[ci]
theorem BK(h:Qa K c)(hK:K<=1000000:=by omega):ci c=K4↔ew c:=by
 unfold ci Yd gH;simp only[RJ,Cl h.str hK,DG,jY,XZ,EB,pA,bO,Ur];by_cases a:((((((((!Cq c.2.1|| !Cq c.2.2.1)|| !Gu c.2.2.2.1)|| !CJ c.2.2.2.2.1)|| !N8 c.2.2.2.2.2.1)|| !I2 c.2.2.2.2.2.2.1)|| !I2 c.2.2.2.2.2.2.2.1)|| !Bf c.2.2.2.2.2.2.2.2.1)|| !Bf c.2.2.2.2.2.2.2.2.2.1)=K4
 ·rw[a,pG];refine⟨λh=>Mv h,λh=>?_⟩;rw[h.own,h.peer,h.sts,h.tot,h.inf,h.ob,h.ou,h.ab,h.au]at a;simp at a
 ·have a:((((((((!Cq c.2.1|| !Cq c.2.2.1)|| !Gu c.2.2.2.1)|| !CJ c.2.2.2.2.1)|| !N8 c.2.2.2.2.2.1)|| !I2 c.2.2.2.2.2.2.1)|| !I2 c.2.2.2.2.2.2.2.1)|| !Bf c.2.2.2.2.2.2.2.2.1)|| !Bf c.2.2.2.2.2.2.2.2.2.1)=false:=by simpa using a
  rw[a,pH];simp only[Lp,L2]at a;obtain⟨⟨⟨⟨⟨⟨⟨⟨e,f⟩,b⟩,g⟩,i⟩,j⟩,k⟩,l⟩,m⟩:=a;have d:=Qiv h hK b (Vc c 0) 0 (by simp[Vc]) Aa;simp only[Lv,L3]at d;rw[d];simp only[pC];exact⟨λh=>⟨e,f,b,g,i,j,k,l,m,h.1,h.2⟩,λh=>⟨h.pks,h.tail⟩⟩
structure Bo(s:Zj):Prop where
 id:0<=s.1/\s.1<=4611686018427387903
 snd:Uj s.2.1
 cre:MZ s.2.2.1
 rcv:FT s.2.2.2.1=K4
 win:vY s.2.2.2.2.1
 pr:0<=s.2.2.2.2.2.1.1/\s.2.2.2.2.2.1.1<=7
 code:0<=s.2.2.2.2.2.2.2.2.2.2.2.2.1/\s.2.2.2.2.2.2.2.2.2.2.2.2.1<=4611686018427387903
 can:s.2.2.2.2.2.2.1=K4\/s.2.2.2.2.2.2.2.1=K4
 su:s.2.1.2.2.2.2.2.2.2.1<=s.2.2.1.2.1
 hs:s.2.2.2.1.2.2.2.1<=s.2.2.2.2.1.2.2.2.1
 tr:s.2.2.2.2.2.2.2.2.1=K4->s.2.1.1=4
 ts:s.2.2.2.2.2.2.2.2.2.1=K4->s.2.2.2.2.2.2.2.2.2.2.2.1=K4
 sc:s.2.2.2.2.2.2.2.2.2.2.2.2.1≠0->s.2.2.2.2.2.2.2.2.2.2.2.1=K4
 cs:s.2.2.2.2.2.2.1=K4\/(s.2.1.1=0/\s.2.1.2.1.2.2.1=0/\s.2.1.2.2.2.2.2.1= -1)
 cr:s.2.2.2.2.2.2.2.1=K4\/(s.2.2.2.1.1=0/\s.2.2.2.1.2.2.2.1=0/\s.2.2.2.2.2.2.2.2.2.2.2.1=Lc)
theorem Q09(h:Xz K s)(hK:K<=1000000):T7 s=K4↔Bo s:=by
 unfold T7 EE;simp only[pC,Mw,Md,Lp,Nd,decide_eq_false_iff_not,bne_eq_false_iff_eq,beq_iff_eq,dU,Jz,R7 h.snd (show(K:Int)<=1000000 by omega),O5,Dj,L2];constructor
 ·rintro⟨⟨⟨⟨⟨⟨⟨⟨⟨g,i⟩,j⟩,k⟩,l⟩,m⟩,n⟩,o⟩,⟨⟨⟨p,a⟩,b⟩,c⟩,d⟩,e,f⟩;exact⟨g,i,j,k,l,m,n,o,Aa,Aa,λh=>Af,λh=>Af,
   λh=>Af,Ai,Ai⟩
 ·rintro⟨g,i,j,k,l,m,n,o,p,a,b,c,d,e,f⟩
  grind
theorem ew.st(hc:ew c)(h:Qa K c)(hK:K<=1000000)(hs:s∈c.2.2.2.1):Bo s:=(Q09 (h.str.all s hs) hK).1 ((NZ.1 hc.sts).all s hs)
theorem ew.num(hc:ew c):0<=c.2.2.2.2.2.2.2.2.2.2.2.2.2.2.1/\c.2.2.2.2.2.2.2.2.2.2.2.2.2.2.1<=1000000:=by have:=hc.tail;simp_all[Rw,dU]
theorem Qkm:∀{l:List Zj},(l.Pairwise λa b=>a.1<b.1)-> ∀{x y:Zj},x∈l->y∈l->x.1=y.1->x=y
 |[],_,_,_,hx,_,_=>by cases hx
 |z::l,h,x,y,hx,hy,e=>by
  obtain⟨d,c⟩:=Mt.1 h;rcases Ls.1 hx with hx|hx
  ·grind
  ·rcases Ls.1 hy with hy|hy
   ·grind
   ·exact Qkm c hx hy e
theorem tl{K:Int}{s:Zn}(h:Wt K s)(hK:K<=1000000:=by omega):Wc s=K2 (s,()):=by
 have a:=Q0 h.pend h.e0 h.eK hK;have b:=Q0 h.pT h.e0 h.eK hK;have c:=Q0 h.pO h.e0 h.eK hK;have d:=h.cells;unfold Wc lJ
 grind[Zb,Qd,XV]
theorem NC(h:Xz K s)(hK:K<=1000000):nG s=K2 (s,()):=by have a:=h.rcv.len;unfold nG bF eY;rw[tl h.snd,Zb Aj];rfl
theorem WQ{K:Nat}{l:List Zj}(h:nh K l)(hK:K<=1000000):∀(N i:Nat),l.length-i<N->i<=l.length->kH N (l.take i) l (l.length:Int) (i:Int)=K2 (l,())
 |0,_,h,_=>Aa
 |N+1,i,b,c=>by
  have f:=h.len;unfold kH gG gJ;by_cases a:i<l.length
  ·rw[Zl (Zk),Zb,show(i:Int).toNat=i from rfl,NC (h.all _ (Z5 (d:=Zc) a)) hK,pA,Zb Aj,Zr a];have e:l.take i++[l.getD i Zc]=l.take (i+1):=by
    simp_all
   rw[e];exact WQ h hK N (i+1) Aa Aa
  grind
theorem Zqb{K:Nat}{l:List Qf}(h:P0 K l)(hK:K<=1000000):∀(N i:Nat),l.length-i<N->i<=l.length->kG N (l.take i) l (l.length:Int) (i:Int)=K2 (l,())
 |0,_,h,_=>Aa
 |N+1,i,b,c=>by
  have f:=h.1;unfold kG gG gK;by_cases a:i<l.length
  ·have g:=(h.2 _ (Z5 (d:=Q8) a)).1;rw[Zl (Zk),Zb,show(i:Int).toNat=i from rfl,Zb Aj];simp only[Ms];rw[Zb Aj,Zr a];have e:l.take i++[((l.getD i Q8).1,(l.getD i Q8).2.1,())]=l.take (i+1):=by
    grind[M7]
   rw[e];exact Zqb h hK N (i+1) Aa Aa
  grind
theorem Wh(h:Qa K c)(hK:K<=1000000:=by omega):Zw c=K2 (c,()):=by have a:=WQ h.str hK (Wi ([]:List Zj) c.2.2.2.1 (c.2.2.2.1.length:Int) (0:Int)) 0 (by simp[Wi]) Aa;have b:=Zqb h.pk hK (iC ([]:List Qf) c.2.2.2.2.2.2.2.2.2.2.2.2.2.2.2.1 (c.2.2.2.2.2.2.2.2.2.2.2.2.2.2.2.1.length:Int) (0:Int)) 0 (by simp[iC]) Aa;simp_all[Zw,cZ,VU]
theorem YJ(h:Qa K c)(hK:K<=1000000:=by omega):Ka c=K2 (ci c&& !(c.2.2.2.2.2.2.2.2.2.2.2.2.2.2.2.2.2.1 !=(0:Int)),()):=by grind[Ka,iJ,Ih]
theorem J'(h:Qa K c)(hK:K<=1000000:=by omega):Jb c=Ka c:=by unfold Jb Ka;rw[zg h hK];rfl
theorem Qg9(w:Qr):KF w=aN w:=rfl
theorem Qby(w:Qr)(n t:Int):rL w n t=Wl w n t:=rfl
theorem Qwi(c:Y3):xr c=bG c:=rfl
theorem Q0i(c:Y3):y9 c=dz c:=rfl
theorem Z4y(a:Q1):yi a=bY a:=by grind[yi,bY,C0]
theorem Z0b(a:Q1):nE a=cx a:=by simp[nE,cx,Z4y]
theorem Qih(c:Y3)(n:Int):yl c n=ez c n:=by grind(splits:=20)[yl,ez,AH,bL]
def Pc{α:Type}(m:Option α)(Q:α->Prop):Prop:= ∀y,m=K2 y->Q y
section
variable {α β:Type}{m n:Option α}{f:α->Option β}{Q:α->Prop}{R:β->Prop}
theorem Pc.bind(h:Pc m Q)(k:∀y,Q y->Pc (f y) R):Pc (Le m f) R:=λy e=>by
 cases hm:m with
 |none=>simp_all
 |some x=>rw[hm]at e;exact k x (h x hm) y e
theorem Pc.any:Pc m λ_=>True:=λ_ _=>trivial
theorem Pc.skip(k:∀y,Pc (f y) R):Pc (Le m f) R:=Pc.any.bind λy _=>k y
theorem Pc.pure{y:α}(h:Q y):Pc (K2 y) Q:=λz e=>by cases e;exact h
theorem Pc.ite{c:Bool}(h1:c=K4->Pc m Q)(h2:c=Lc->Pc n Q):Pc (cond c m n) Q:=by grind
theorem Pc.guard(h:Pc m Q):Pc (Zd p m) Q:=λy e=>by
 by_cases a:p
 ·rw[Zb a]at e;exact h y e
 simp_all[Zd]
end
theorem T.pc{m:Option α}{R:α->Prop}(h:T m Q)(k:Pc m R):T m λy=>Q y/\R y:=by obtain⟨y,e,a⟩:=h;exact⟨y,e,a,k y e⟩
theorem Pc.if{m n:Option α}{c:Bool}(h1:Pc m Q)(h2:Pc n Q):Pc (cond c m n) Q:=Pc.ite (λ_=>h1) λ_=>h2
theorem Pc.none{α:Type}{Q:α->Prop}:Pc (none:Option α) Q:=λ_ e=>by cases e
theorem Quj{m:Option α}{f g:α->Option β}(h:∀y,f y=g y):Le m f=Le m g:=by have:f=g:=funext h;rw[this]
theorem Qvx(c:Zf)(w:Qr)(a:Bool):iO c w a=Le (aN w) λt=>cond t.1 (Le (Wl w c.2.2.2.2.2.2.2.2.2.2.2.2.2.2.2.2.1 c.2.1.2.2.2.2.2.2.2.1) λr=>K2 (r.1.2.2.1,r.2.1,())) (K2 (w.2.2.1,a,())):=by unfold iO;rw[Qg9];refine Quj λt=>?_;cases t.1<;>rfl
theorem Qvw(a:Q1)(b:Bool):yo a b=Le (ce a b) λt=>K2 (t.1.2.1,t.2.1,()):=by
 unfold yo ce;rw[Z4y,Z0b];cases bY a with
 |none=>rfl
 |some t=>
  simp only[pA];cases t.1
  ·rfl
  ·cases cx a<;>rfl
theorem Q2d(c:Zf)(s:Zj)(o:List Zh):bn c s o=W9 c s o:=by
 unfold bn W9 jq;rw[Qvx];have e:((!s.2.2.2.2.2.2.2.1||(s.2.2.2.1.1 !=0))||s.2.2.2.2.2.2.2.2.2.2.2.1)= !((s.2.2.2.2.2.2.2.1&&(s.2.2.2.1.1==0))&& !s.2.2.2.2.2.2.2.2.2.2.2.1):=by
  grind
 rw[e];generalize ((s.2.2.2.2.2.2.2.1&&(s.2.2.2.1.1==0))&& !s.2.2.2.2.2.2.2.2.2.2.2.1)=b;cases b
 ·rfl
 ·simp only[pG,pI,pH];cases aN s.2.2.2.2.1 with
  |none=>rfl
  |some t=>
   simp only[pA];cases t.1
   ·rfl
   ·simp only[pG];cases Wl s.2.2.2.2.1 c.2.2.2.2.2.2.2.2.2.2.2.2.2.2.2.2.1 c.2.1.2.2.2.2.2.2.2.1<;>rfl
theorem Q2c(c:Zf)(s:Zj)(h:0<=s.2.2.2.1.1)(o:List Zh):bm c s o=W8 c s o:=by grind(splits:=20)[bm,W8,mD,Q2d]
theorem Z7q(c:Zf)(s:Zj)(h:0<=s.2.2.2.1.1):kX c s=jp c s:=by simp_all[kX,jp,Q2c]
theorem Qzn{c:Zf}(h:∀s∈c.2.2.2.1,0<=s.2.2.2.1.1)(hl:c.2.2.2.1.length<=1000000):∀(N i:Nat)(o:List Zh),fJ N c o c.2.2.2.1 (c.2.2.2.1.length:Int) (i:Int)=Ja N c o (i:Int)
 |0,_,_=>rfl
 |N+1,i,o=>by
  rw[fJ,Ja];by_cases a:i<c.2.2.2.1.length
  ·rw[Zl (Zk),Zl (Zk),Zb,Zb,show(i:Int).toNat=i from rfl,Z7q _ _ (h _ (Z5 (d:=Zc) a)),Zr a];refine Quj λt=>?_;rw[Qzn h hl N (i+1)]
  ·rw[Zo (Zm),Zo (Zm)];rfl
theorem Q1t(h:∀s∈c.2.2.2.1,0<=s.2.2.2.1.1)(hl:c.2.2.2.1.length<=1000000)(o:List Zh):fI c o=K9 c o:=by unfold fI K9;exact Qzn h hl _ 0 o
theorem Qui{γ:Type}{m:Option α}{f:α->Option β}{g:β->Option γ}:Le (Le m f) g=Le m λy=>Le (f y) g:=by cases m<;>rfl
theorem Z3j(h:Qa K c)(hK:K<=1000000):uh c=aF c:=by
 unfold uh aF;rw[J' h hK,YJ h hK,pA,pA];by_cases d:ci c=K4
 ·have a:∀s∈c.2.2.2.1,0<=s.2.2.2.1.1:=λs a=>n9 (h.str.all s a).rcv hK (((BK h hK).1 d).st h hK a).rcv;have f:=h.str.len;have g:∀o,fH c o=K8 c o:=λo=>by
   grind[fH,K8,Qvw,Q1t]
  have e:∀o,fG c o=K7 c o:=λo=>by
   grind[fG,K7,Qvw]
  simp only[e,Qvx,lR];generalize (ci c&&_)=b;cases b
  ·rfl
  ·simp only[pI,pH,Qui]
   grind(splits:=20)[Qui]
 simp_all
def Dp(w:Qr):Bool:=(N8 w&&K3 (w.2.2.1<(4611686018427387903:Int)))&&K3 ((Lb.wrap ((Lb.wrap (w.2.2.2.2.1+w.1))-w.2.2.1))>=(Lb.wrap (L0 (Lb.wrap (w.1+(1:Int))) (2:Int))))
theorem AZ(w:Qr):aN w=K2 (Dp w,()):=by unfold aN;rw[jY,pA];exact Zb (λ_=>Ah)
def D2(w:Qr)(now trip:Int):Bool:=(Dp w&&PF now w.2.2.2.2.2.1 1000000)&&PF trip 1 1000
def Gq(w:Qr)(now trip:Int):Int:=cond (K3 ((Lb.wrap (now-w.2.2.2.2.2.1))<(Lb.wrap ((2:Int)*trip)))) (min (Lb.wrap ((2:Int)*w.1)) w.2.1) w.1
def rwW(w:Qr)(now trip:Int):Qr:=(Gq w now trip,w.2.1,min (Lb.wrap (w.2.2.2.2.1+Gq w now trip)) (4611686018427387903:Int),w.2.2.2.1,w.2.2.2.2.1,now,w.2.2.2.2.2.2)
def R0(w:Qr)(now trip:Int):Qr:=cond (D2 w now trip) (rwW w now trip) w
theorem Py(w:Qr)(now trip:Int):Wl w now trip=K2 (R0 w now trip,D2 w now trip,()):=by grind(splits:=20)[Wl,kQ,AZ,Uk,D2,R0,rwW,Gq]
theorem UC{now trip:Int}(h:Dp w=Lc):D2 w now trip=false:=by simp_all[D2]
def Th(a:Q1):Bool:=(Bf a&&K3 ((Lb.wrap ((Lb.wrap (a.2.2.2.1+a.1))-a.2.1))>=(Lb.wrap (L0 (Lb.wrap (a.1+(1:Int))) (2:Int)))))&&K3 (a.1>(0:Int))
theorem maE(a:Q1):bY a=K2 (Th a,()):=by unfold bY;rw[EB,pA];exact Zb (λ_=>Ah)
def A6(a:Q1):Bool:=Th a&& !K3 ((Lb.wrap (a.2.2.2.1+a.1))>(1152921504606846976:Int))
def t8(a:Q1):Q1:=cond (A6 a) (a.1,Lb.wrap (a.2.2.2.1+a.1),a.2.2) a
theorem raE(a:Q1):cx a=K2 (t8 a,A6 a,()):=by grind[cx,t8,A6,maE]
theorem Qta{a:Q1}(h:Th a=Lc):A6 a=false:=by simp_all[A6]
theorem Hx(a:Q1)(t:Bool):ce a t=K2 (t8 a,cond (Th a) (A6 a) t,()):=by grind[ce,maE,raE,t8,Qta]
def AM(c:Y3):Y3:=cond (CJ c&&(c.2.2.1 !=(-1:Int))) (c.1,c.2.1,(-1:Int),c.2.2.1,c.2.2.2.2) c
theorem Ib(c:Y3):bG c=K2 (AM c,()):=by
 unfold bG AM;rw[DG,pA]
 grind
def Gg(c:Y3):Y3:=cond (((CJ c&&(c.2.1==c.1))&&(c.2.2.1==(-1:Int)))&&(c.2.2.2.1 !=c.1)) (c.1,c.2.1,c.1,c.2.2.2) c
theorem nbE(c:Y3):dz c=K2 (Gg c,()):=by grind[dz,Gg,DG]
abbrev En(c:Zf):Int:=c.2.2.2.2.2.2.2.2.2.2.2.2.2.2.2.2.1
abbrev D5(c:Zf):Int:=c.2.1.2.2.2.2.2.2.2.1
theorem ttE(c:Zf):lR c=K2 (R0 c.2.2.2.2.2.1 (En c) (D5 c),cond (Dp c.2.2.2.2.2.1) (D2 c.2.2.2.2.2.1 (En c) (D5 c)) c.2.2.2.2.2.2.2.2.2.2.1,()):=by grind[lR,AZ,Py,R0,UC]
def wR(s:Zj):Bool:=(s.2.2.2.2.2.2.2.1&&(s.2.2.2.1.1==0))&& !s.2.2.2.2.2.2.2.2.2.2.2.1
theorem lwE(c:Zf)(s:Zj):jq c s=K2 (cond (wR s) (R0 s.2.2.2.2.1 (En c) (D5 c)) s.2.2.2.2.1,wR s&&(cond (Dp s.2.2.2.2.1) (D2 s.2.2.2.2.1 (En c) (D5 c)) s.2.2.2.2.2.2.2.2.2.2.1),()):=by grind[jq,wR,AZ,Py,R0,UC]
def Qk(l:List Zj)(n:Int):Int:=match Kf l n with|some (v,_)=>v|none=> -1
theorem VB(hl:l.length<=1000000)(n:Int):Kf l n=K2 (Qk l n,()):=by
 obtain⟨v,e,-⟩:=Gw l n hl
 grind[Qk]
theorem uT(hl:l.length<=1000000)(n:Int):(Qk l n<0\/Qk l n<l.length)/\(Qk l n<0-> ∀s∈l,s.1≠n)/\(0<=Qk l n->(l.getD (Qk l n).toNat Zc).1=n):=by
 obtain⟨v,e,h⟩:=Gw l n hl
 grind[Qk]
theorem Qi9{l:List Zj}(hl:l.length<=1000000)(n:Int):∀(N i:Nat),Qz N l (n,()) (l.length:Int) (i:Int)=Kg N l n (i:Int)
 |0,_=>rfl
 |N+1,i=>by
  rw[Qz,Kg];by_cases a:i<l.length
  ·rw[Zl (Zk),Zl (Zk),Zb,Zb,Zr a,Qi9 hl n N (i+1)];rfl
  grind
theorem xX(hl:l.length<=1000000)(n:Int):Z8 l n=Kf l n:=by unfold Z8 Yu;have:=Qi9 hl n (Jc l n 0) 0;rw[show X7 l (n,()) (l.length:Int) 0=Jc l n 0 from rfl];rw[Lv]at this;rw[this];change Le (Kf l n) _=_;cases Kf l n<;>rfl
theorem PG{K:Nat}{l:List Zj}{s:Zj}(h:nh K l)(hs:Xz K s)(hK:K<=1000000)(a:Nat)(ha:a<l.length):∀(N i:Nat),l.length-i<N->i<=l.length->Yt N l s ((l.set a s).take i) (a:Int) K4 (i:Int)=K2 (l.set a s,())
 |0,_,h,_=>Aa
 |N+1,i,g,j=>by
  have k:=h.len;rw[Yt];by_cases f:i<l.length
  ·have c:∀x:Zj,((l.set a s).take i).length+[x].length<=Qd:=λx=>Aj
   have e:(l.set a s).take i++[ite (i=a) s (l.getD i Zc)]=(l.set a s).take (i+1):=by
    rw[M7 Af,List.getElem_set];congr 2;by_cases b:i=a
    all_goals (simp_all<;>omega)
   rw[Zl (Zk),Zb,show(i:Int).toNat=i from rfl,QG (h.all _ (Z5 (d:=Zc) f)) hK,pA];by_cases b:i=a
   ·have:((i:Int)==(a:Int))=true:=Ae
    rw[this,pG,QG hs hK,pA];unfold Jo;rw[Zb (c _),Zr f];rw[if_pos b]at e;rw[e];exact PG h hs hK a ha N (i+1) Aa Aa
   ·have:((i:Int)==(a:Int))=false:=Ae
    rw[this,pH,Zb (λh=>by cases h)];simp only[pI,Mu,pH];unfold Jo;rw[Zb (c _),Zr f];rw[if_neg b]at e;rw[e];exact PG h hs hK a ha N (i+1) Aa Aa
  simp_all[Zm,M6]
theorem EJ(h:nh K l)(hs:Xz K s)(hK:K<=1000000)(hi:0<=Qk l s.1):Xn l s=K2 (l.set (Qk l s.1).toNat s,()):=by
 have a:=h.len;obtain⟨b,-,-⟩:=uT (l:=l) Aa s.1;unfold Xn;rw[VB Aa,pA,Zk];have:=PG h hs hK (Qk l s.1).toNat Aa (bg l s ([]:List Zj) (Qk l s.1) K4 0) 0 (by simp[bg]) Aa
 grind
theorem eW(h:Qa K c)(hK:K<=1000000)(n:Int):X8 c n=K2 (ite (0<=Qk c.2.2.2.1 n) (c.2.2.2.1.getD (Qk c.2.2.2.1 n).toNat Zc,K4,()) (Zc,Lc,())):=by
 have b:=h.str.len;obtain⟨e,-,-⟩:=uT (l:=c.2.2.2.1) Aa n;unfold X8 gG gJ;rw[VB Aa,pA];by_cases a:0<=Qk c.2.2.2.1 n
 ·rw[Zo (Zm),Zb,if_pos a,QG (h.str.all _ (Z5 (d:=Zc))) hK];rfl
 simp_all
theorem Qfa(l:List Zj)(i:Nat):l.set i (l.getD i Zc)=l:=by grind[List.set_getElem_self,List.set_eq_of_length_le]
def J3(c:Qj):Int:=c.1+(c.2.1.length:Int)
def Rk:Int->List Qj->Prop|_,[]=>True|e,c::l=>e<c.1/\c.2.1≠[]/\Rk (J3 c) l
def FS:List Qj->Int->Option UInt8|[],_=>Lk|c::l,n=>ite (c.1<=n/\n<J3 c) (c.2.1[(n-c.1).toNat]?) (FS l n)
theorem NH{c:Qj}(h:c.2.1≠[]):c.1<J3 c:=by grind[J3,Mc]
theorem DB:∀{l:List Qj}{e n:Int},Rk e l->n<=e->FS l n=Lk
 |[],_,_,_,_=>rfl
 |c::l,e,n,⟨d,a,b⟩,f=>by
  unfold FS;rw[if_neg Aa];exact DB b (by have:=NH a;omega)
theorem Pz{c:Qj}{l:List Qj}{e:Int}(h:Rk e (c::l)):FS (c::l) c.1≠none:=by have:=NH h.2.1;unfold FS;rw[if_pos ⟨Lh _,this⟩,Int.sub_self];have a:=Mc.2 h.2.1;simp_all
theorem Qrd{c:Qj}{l:List Qj}{e:Int}(h:Rk e (c::l)):FS (c::l) (J3 c)=none:=by unfold FS;rw[if_neg Aa];exact DB h.2.2 (Lh _)
theorem d5{c:Qj}{l:List Qj}(h1:c.1<=n)(h2:n<J3 c):FS (c::l) n=c.2.1[(n-c.1).toNat]? :=by simp_all[FS]
theorem Qcv{c:Qj}{l:List Qj}(h1:c.1<=n)(h2:n<J3 c):FS (c::l) n≠none:=by grind[d5,J3]
theorem Qc0:∀{l m:List Qj}{e e':Int},Rk e l->Rk e' m->(∀n,FS l n=FS m n)->l=m
 |[],[],_,_,_,_,_=>rfl
 |[],d::m,_,_,_,h,b=>absurd (b d.1).symm (Pz h)
 |c::l,[],_,_,h,_,b=>absurd (b c.1) (Pz h)
 |c::l,d::m,e,e',h,f,b=>by
  have i:c.1=d.1:=by
   rcases Int.lt_trichotomy c.1 d.1 with a|a|a
   ·have:=Pz h;rw[b,DB (e:=c.1) (l:=d::m) ⟨a,f.2⟩ (Lh _)]at this;simp_all
   ·exact a
   ·have:=Pz f;rw[<-b,DB (e:=d.1) (l:=c::l) ⟨a,h.2⟩ (Lh _)]at this;simp_all
  have k:J3 c=J3 d:=by
   grind[J3,Qrd,Qcv]
  have o:c.2.1=d.2.1:=by
   have p:c.2.1.length=d.2.1.length:=At
   refine List.ext_getElem? λj=>?_;by_cases q:j<c.2.1.length
   ·have:=b (c.1+(j:Int))
    grind[d5,J3]
   simp_all
  have g:c=d:=by
   grind
  subst g;refine congrArg (c:: ·) (Qc0 h.2.2 f.2.2 λn=>?_);by_cases r:n<J3 c
  ·rw[DB h.2.2 Aa,DB f.2.2 Aa]
  ·have:=b n;simp_all[FS,if_neg]
theorem Eo:∀{l:List Qj}{e:Int},Gi e l=K4-> -1<=e->(∀c∈l,c.2.1.length<=1000000)->Rk e l/\ ∀c∈l,0<=c.1/\J3 c<=4611686018427387903
 |[],_,_,_,_=>⟨trivial,λ_ h=>by cases h⟩
 |c::l,e,h,j,a=>by
  simp only[Gi,pC,Md,Lp,decide_eq_false_iff_not,beq_eq_false_iff_ne]at h;have d:=a c L5;obtain⟨⟨⟨k,f⟩,g⟩,b⟩:=h;rw[Zs]at g;have m:J3 c<=4611686018427387903:=At
  rw[Zs]at b;obtain⟨i,n⟩:=Eo b Aa λx hx=>a x (L8 _ hx);refine⟨⟨Aa,f,i⟩,λx hx=>?_⟩
  grind
def Ug:Int->List Qj->Prop|_,[]=>True|e,c::l=>e<=c.1/\c.2.1≠[]/\Ug (J3 c) l
theorem Ql3{e e':Int}(h:e'<=e):∀{l:List Qj},Ug e l->Ug e' l
 |[],_=>trivial
 |c::l,⟨d,a,b⟩=>⟨Aa,a,b⟩
def ui(c:Qj):List Qj->List Qj|[]=>[c]|d::l=>ite (J3 c=d.1) (ui (c.1,c.2.1++d.2.1,()) l) (c::ui d l)
theorem TB:∀{l:List Qj}{c:Qj}{e:Int},e<c.1->c.2.1≠[]->Ug (J3 c) l->Rk e (ui c l)
 |[],c,e,a,b,_=>⟨a,b,trivial⟩
 |d::l,c,e,a,b,⟨i,f,g⟩=>by
  unfold ui;split
  ·rename_i h;refine TB (l:=l) (c:=(c.1,c.2.1++d.2.1,())) a (by simp[b]) ?_
   grind[J3]
  ·rename_i h;exact⟨a,b,TB Aa f g⟩
theorem Qim:∀{l:List Qj}{e n:Int},Ug e l->n<e->FS l n=Lk
 |[],_,_,_,_=>rfl
 |c::l,e,n,⟨d,a,b⟩,f=>by
  unfold FS;rw[if_neg Aa];exact Qim b (by have:=NH a;omega)
theorem UX:∀{l:List Qj}{c:Qj},c.2.1≠[]->Ug (J3 c) l-> ∀n,FS (ui c l) n=FS (c::l) n
 |[],c,_,_,n=>rfl
 |d::l,c,e,⟨i,f,g⟩,n=>by
  unfold ui;split
  ·rename_i j;have h:J3 (c.1,c.2.1++d.2.1,())=J3 d:=by
    grind[J3]
   rw[UX (l:=l) (c:=(c.1,c.2.1++d.2.1,())) (by simp[e]) (by rw[h];exact g) n];have k:=NH e;have m:=NH f;unfold FS;rw[h];by_cases a:c.1<=n/\n<J3 c
   ·rw[if_pos Ag,if_pos a]
    grind[J3]
   ·rw[if_neg a];by_cases b:d.1<=n/\n<J3 d
    ·rw[if_pos Ag];unfold FS;rw[if_pos b]
     grind[J3]
    simp_all[if_neg,FS]<;>omega
  ·unfold FS;rw[UX f g n]
theorem Qc1{c:Qj}(h:0<=c.1)(h2:J3 c<=4611686018427387903):bS c=K2 (J3 c,()):=by
 unfold J3 at*
 show K2 (Lb.wrap (c.1+(c.2.1.length:Int)),())=_
 grind[Zs]
theorem Qlq(pre:List Qj)(c:Qj):(pre++[c]).getD pre.length Qv=c:=by simp[List.getD]
theorem Qoz(pre:List Qj)(c d:Qj):(pre++[c]).set pre.length d=pre++[d]:=by simp_all
theorem Qmp{t:List Qj}(hi:i<t.length):pw (t.drop i)=(t.getD i Qv).2.1.length+pw (t.drop (i+1)):=by rw[Qx (d:=Qv) hi];rfl
theorem qT{t:List Qj}(ht:t.length<=4000000)(hb:∀c∈t,0<=c.1/\J3 c<=4611686018427387903):∀(N i:Nat)(pre:List Qj)(c:Qj),t.length-i<N->i<=t.length->pre.length+1<=i->0<=c.1->J3 c<=4611686018427387903->c.2.1.length+pw (t.drop i)<=1000000000->
  mC N (pre++[c]) t (t.length:Int) (i:Int)=K2 (pre++ui c (t.drop i),())
 |0,_,_,_,h,_,_,_,_,_=>Aa
 |N+1,i,pre,c,m,n,o,g,k,q=>by
  unfold mC gG gM tR;by_cases b:i<t.length
  ·have j:=hb _ (Z5 (d:=Qv) b);have l:=Qmp b;have a:(pre++[c]).length=pre.length+1:=Ac
   have f:Lb.wrap (((pre++[c]).length:Int)-1)=(pre.length:Int):=Al
   rw[Zl (Zk),Zb];simp only[f];rw[Zb,Zk (p:=(pre.length:Int)>=0),pG,Nu,Qlq,Qc1 g k,pA,pJ];rw[show(i:Int).toNat=i from rfl,Zr b];rw[Qx (d:=Qv) b];generalize t.getD i Qv=d at*
   unfold ui;by_cases e:J3 c=d.1
   ·rw[if_pos e,beq_iff_eq.2 e,pG,Zb (by rw[a];omega),Zb Ak,Zb (by rw[a];omega),Qoz];have r:J3 (c.1,c.2.1++d.2.1,c.2.2)=J3 d:=by
     grind[J3]
    exact qT ht hb N (i+1) pre _ Aa Aa Aa g Aa Ai
   ·rw[if_neg e,beq_false_of_ne e,pH,Zb Aj];have:=qT ht hb N (i+1) (pre++[c]) d Aa Aa (by rw[a];omega) j.1 j.2 Aa;simp_all
  ·rw[Zo (Zm),Mf Aa];rfl
def B7:List Qj->List Qj|[]=>[]|c::l=>ui c l
theorem Qz8{t:List Qj}(ht:t.length<=4000000)(hb:∀c∈t,0<=c.1/\J3 c<=4611686018427387903)(hs:pw t<=1000000000):YA t=K2 (B7 t,()):=by
 unfold YA;cases t with
 |nil=>rfl
 |cons c l=>
  have b:zN ([]:List Qj) (c::l) ((c::l).length:Int) (0:Int)=l.length+2:=by
   rfl
  rw[b];have h:=hb c L5;have d:pw (c::l)=c.2.1.length+pw l:=rfl;unfold mC gG gM tR;rw[Zl (Zk Af),Zb Af];have a:Lb.wrap ((([]:List Qj).length:Int)-1)= -1:=Ah
  simp only[a];rw[Zb Af,Zm (p:=(-1:Int)>=0),pH,pA,Mu,pH,Zb (by simp[Qd])];have:=qT ht hb (l.length+1) 1 [] c Af Af (Lj _) h.1 h.2 Af;exact this
def AF(o:Int)(d:Ba)(a b:Int):List Qj:=ite (a<b) [(a,(d.drop (a-o).toNat).take ((b-o).toNat- (a-o).toNat),())] []
def gi(o:Int)(d:Ba)(e:Int):Int->List Qj->List Qj|f,[]=>AF o d f e|f,c::l=>AF o d f (min c.1 e)++c::gi o d e (max f (J3 c)) l
theorem Qma{b:Int}(h1:o<=a)(h2:a<b)(h3:b<=o+(d.length:Int)):(((d.drop (a-o).toNat).take ((b-o).toNat- (a-o).toNat)).length:Int)=b-a:=by grind
theorem DO{b:Int}(h1:o<=a)(h2:a<b)(h3:b<=o+(d.length:Int)):J3 (a,(d.drop (a-o).toNat).take ((b-o).toNat- (a-o).toNat),())=b:=by grind[J3]
theorem Qes{b:Int}(h1:o<=a)(h2:a<b)(h3:b<=o+(d.length:Int)):(d.drop (a-o).toNat).take ((b-o).toNat- (a-o).toNat)≠[]:=λh=>by
 grind[Qma]
theorem UQ{o:Int}{d:Ba}:∀{l:List Qj}{f L:Int},o<=f->L<=f->Ug L l->Ug L (gi o d (o+(d.length:Int)) f l)
 |[],f,L,a,b,_=>by
  unfold gi AF;split
  ·rename_i h;exact⟨b,Qes a h (Lh _),trivial⟩
  ·trivial
 |c::l,f,L,a,b,⟨i,e,j⟩=>by
  have g:=UQ (o:=o) (l:=l) (f:=max f (J3 c)) (L:=J3 c) (d:=d) Aa Aa j;unfold gi AF;split
  ·rename_i h;have k:=DO (d:=d) a h Aa;exact⟨b,Qes a h Aa,by rw[k];omega,e,g⟩
  ·exact⟨i,e,g⟩
theorem Qmb:∀{l:List Qj}{f L:Int},o<=f->Ug L l-> ∀n,FS (gi o d (o+(d.length:Int)) f l) n=match FS l n with|some v=>K2 v|none=>ite (f<=n/\n<o+(d.length:Int)) (d[(n-o).toNat]?) none:=by
 have i:∀{a b n:Int}{r:List Qj},o<=a->b<=o+(d.length:Int)->FS (AF o d a b++r) n=ite (a<=n/\n<b) (d[(n-o).toNat]?) (FS r n):=by
  intro a b n r e j;unfold AF;split
  ·rename_i h;rw[List.singleton_append];unfold FS;rw[DO e h j];simp only;by_cases k:a<=n/\n<b
   ·grind
   ·rw[if_neg k,if_neg k];cases r<;>rfl
  grind
 intro l
 induction l with
 |nil=>
  intro f L e _ n;unfold gi;have:=i (a:=f) (b:=o+(d.length:Int)) (n:=n) (r:=[]) e (Lh _);rw[M3]at this;rw[this];rfl
 |cons c l m=>
  intro f L e h n;obtain⟨j,p,q⟩:=h;have t:=NH p;unfold gi;rw[i e Aa];have s:=m (f:=max f (J3 c)) (L:=J3 c) Aa q n;by_cases g:c.1<=n/\n<J3 c
  ·rw[if_neg Aa,d5 g.1 g.2,d5 g.1 g.2]
   grind[J3]
  ·have u:∀r:List Qj,FS (c::r) n=FS r n:=λr=>by
    rw[FS,if_neg g]
   grind(splits:=20)[Qim]
theorem Z5n:∀{l:List Qj}{e:Int},Ug e l->l.Pairwise (λx y=>x.1<y.1)/\ ∀c∈l,e<=c.1
 |[],_,_=>⟨N2,λ_ h=>by cases h⟩
 |c::l,e,⟨f,a,b⟩=>by
  obtain⟨d,g⟩:=Z5n b;have i:=NH a;refine⟨N1 (λy j=>Ai) d,λx hx=>?_⟩
  grind
theorem Q06{l:List Qj}{e:Int}(h:Ug e l)(h0:0<=e)(hb:∀c∈l,c.1<=4611686018427387904)(hl:l.length<=4000000):vl l=K2 ((),l):=by
 obtain⟨a,f⟩:=Z5n h;have b:(l.map λx=>x.1).Nodup:=by
  grind
 have d:l.mergeSort (λx y=>K3 (x.1<=y.1))=l:=List.mergeSort_of_pairwise (a.imp λh=>decide_eq_true (Int.le_of_lt h))
 grind[vl,FU,Zb]
theorem YC{b:Zz}{o:Int}{d:Ba}{t6:Zz}{t X:List Qj}(ht:t.length<=1000000)(hb:∀c∈t,0<=c.1/\J3 c<=4611686018427387903)(ho:0<=o)(he:o+(d.length:Int)<=4611686018427387903)
  (hX:Ug 0 X) (hXb:∀c∈X,0<=c.1/\J3 c<=4611686018427387903) (hXl:X.length<=4000000) (hXs:pw X<=1000000000):∀(N i:Nat)(f:Int)(l:List Qj),t.length-i<N->i<=t.length->o<=f->f<=4611686018427387903->l++gi o d (o+(d.length:Int)) f (t.drop i)=X->
  f5 N b o d t6 f (o+(d.length:Int)) l t (t.length:Int) (i:Int)=K2 ((b.1,B7 X,()),())
 |0,_,_,_,h,_,_,_,_=>Aa
 |N+1,i,f,l,v,w,x,s,hx=>by
  have a:=congrArg M4 hx;rw[Li]at a;have fin:∀Y:List Qj,Y=X->Le (vl Y) (λj=>Le (YA j.2) λk=>K2 ((b.1,k.1,()),()))=K2 ((b.1,B7 X,()),()):=by
   rintro Y rfl;rw[Q06 hX (Lh _) (λc m=>At) hXl,pA,Qz8 hXl hXb hXs,pA]
  unfold f5 gG gM;by_cases n:i<t.length
  ·have m:=hb _ (Z5 (d:=Qv) n);rw[Qx (d:=Qv) n]at hx a;rw[Zl (Zk),Zb,show(i:Int).toNat=i from rfl,Zr n];have p:=Qc1 m.1 m.2;generalize t.getD i Qv=c at*
   rw[gi]at hx a;simp only[Li,Lf]at a;have u:c.1<=J3 c:=At
   by_cases e:f<min c.1 (o+(d.length:Int))
   ·have q:Lb.wrap (min c.1 (o+(d.length:Int))-o)=min c.1 (o+(d.length:Int))-o:=Zs;have r:Lb.wrap (f-o)=f-o:=Zs;have g:AF o d f (min c.1 (o+(d.length:Int)))=[(f,(d.drop (f-o).toNat).take ((min c.1 (o+(d.length:Int))-o).toNat- (f-o).toNat),())]:=if_pos e;rw[Zl (Zk e)];simp only[q,r];rw[g]at hx a;simp only[Mr]at a;rw[Zb,Zb Aj,Zb Aj,p,pA];exact YC ht hb ho he hX hXb hXl hXs N (i+1) _ _ Aa Aa Aa Aa Af
   ·have g:AF o d f (min c.1 (o+(d.length:Int)))=[]:=if_neg e;rw[Zo (Zm e)];rw[g]at hx a;rw[Zb Aj,p,pA];exact YC ht hb ho he hX hXb hXl hXs N (i+1) _ _ Aa Aa Aa Aa Af
  ·rw[Zo (Zm),Int.min_self];rw[Mf Aa,gi]at hx a;by_cases e:f<o+(d.length:Int)
   ·have q:Lb.wrap (o+(d.length:Int)-o)=o+(d.length:Int)-o:=Zs;have r:Lb.wrap (f-o)=f-o:=Zs;have g:AF o d f (o+(d.length:Int))=[(f,(d.drop (f-o).toNat).take ((o+(d.length:Int)-o).toNat- (f-o).toNat),())]:=if_pos e;rw[Zl (Zk e)]
    grind[Zb,Qd]
   simp_all[AF,Zm]
theorem Z5s(o:Int)(d:Ba)(e:Int):∀(l:List Qj)(f:Int),(gi o d e f l).length<=2*l.length+1
 |[],f=>by
  grind[gi,AF]
 |c::l,f=>by
  have:=Z5s o d e l (max f (J3 c))
  grind[gi,AF]
theorem Z5t{o:Int}{d:Ba}:∀{l:List Qj}{f:Int},o<=f->(∀c∈l,c.1<=J3 c)->(pw (gi o d (o+(d.length:Int)) f l):Int)<=pw l+max 0 (o+(d.length:Int)-f)
 |[],f,h,_=>by
  unfold gi AF;split
  all_goals (simp_all[pw]<;>omega)
 |c::l,f,h,a=>by
  have b:=Z5t (o:=o) (d:=d) (l:=l) (f:=max f (J3 c)) Aa λx hx=>a x (L8 _ hx)
  grind[gi,AF,pw]
theorem Qet{o:Int}{d:Ba}(h0:0<=o)(he:o+(d.length:Int)<=4611686018427387903):∀{l:List Qj}{f:Int},o<=f->(∀c∈l,0<=c.1/\J3 c<=4611686018427387903)-> ∀c∈gi o d (o+(d.length:Int)) f l,0<=c.1/\J3 c<=4611686018427387903
 |[],f,h,_,c,hc=>by
  simp_all[gi,AF,DO]<;>omega
 |x::l,f,h,a,c,hc=>by
  unfold gi AF at hc;rcases L4.1 hc with hc|hc
  ·split at hc
   ·rename_i hp;rw[List.mem_singleton.1 hc,DO h hp (by omega)];omega
   ·cases hc
  ·rcases Ls.1 hc with rfl|hc
   ·simp_all
   ·exact Qet h0 he Aa (λy b=>a y (L8 _ b)) c hc
theorem aq{e:Int}:∀{l:List Qj}{e:Int},Rk e l->Ug e l
 |[],_,_=>trivial
 |_::_,_,⟨c,a,b⟩=>⟨Aa,a,aq (e:=e) b⟩
def sY(b:Zz)(o:Int)(d:Ba):Zz:=cond ((((!yU b||(d==([]:Ba)))||K3 (o<0))||K3 (o>4611686018427387903- (d.length:Int)))||K3 (o+(d.length:Int)<=b.1)) b (b.1,B7 (gi o d (o+(d.length:Int)) (max o b.1) b.2.1),())
theorem xS(h:iw K b)(hK:K<=1000000):eY b=K2 (b,()):=by
 have:=h.len
 grind[eY,Zb,Qd]
theorem Qd1(h:iw K b)(o:Int)(d:Ba)(hK:K+d.length<=1000000)(hoB:o<=4611686018427387904):ZX b o d=K2 (sY b o d,()):=by
 have t:=h.len;have u:=h.tot;unfold ZX sY;rw[gR h Aa,pA];simp only;cases hb:yU b
 ·grind[xS]
 simp only[pI,Ld];rw[Zs];by_cases g:(d==([]:Ba))=K4
 ·grind[xS]
 rw[Ng]at g;rw[g];simp only[Ld];by_cases k:o<0
 ·grind[xS]
 rw[Zm k,Ld];by_cases m:o>4611686018427387903- (d.length:Int)
 ·grind[xS]
 rw[Zm m,Ld,Zs];by_cases n:o+(d.length:Int)<=b.1
 ·grind[xS]
 rw[Zm n];simp only[Ma,pH,Xm];unfold yU at hb;simp only[pC,Jz]at hb;rw[Zs]at hb;obtain⟨i,j⟩:=Eo hb.1 Aa λc p=>by have:=Fx p;omega
 have a:∀c∈b.2.1,c.1<=J3 c:=λc _=>At
 unfold XE rG;have q:Ug 0 (gi o d (o+(d.length:Int)) (max o b.1) b.2.1):=by
  refine UQ Aa Aa ?_;have:=aq (e:=0) i;cases hbl:b.2.1 with
  |nil=>trivial
  |cons c l=>
   rw[hbl]at i this;exact⟨Af,this.2⟩
 have r:=Z5t (o:=o) (d:=d) (l:=b.2.1) (f:=max o b.1) Aa a;have s:=Z5s o d (o+(d.length:Int)) b.2.1 (max o b.1);exact YC Aa j Aa Aa q (Qet Aa Aa Aa j) Aa Aa _ 0 _ [] Aa Aa Aa Aa rfl
def bv:Option UInt8->Int|some v=>(v.toNat:Int)|none=> -1
theorem Z7y{b:Zz}{n:Int}(h0:0<=n)(h1:n<=4611686018427387903)(hl:b.2.1.length<=1000000)(hq:∀c∈b.2.1,0<=c.1/\J3 c<=4611686018427387903):∀(N i:Nat),b.2.1.length-i<N->i<=b.2.1.length->
  jc N n b (i:Int)=K2 (bv (FS (b.2.1.drop i) n),())
 |0,_,h,_=>Aa
 |N+1,i,k,l=>by
  unfold jc gG gM;by_cases a:i<b.2.1.length
  ·have g:=hq _ (Z5 (d:=Qv) a);rw[Zl (Zk),Zb,show(i:Int).toNat=i from rfl,Zr a,Qx (d:=Qv) a,Z7y h0 h1 hl hq N (i+1) Aa Aa];generalize b.2.1.getD i Qv=c at*
   have j:c.1<=J3 c:=At
   rw[Zs];simp only;rw[Zb (by intro _;omega),Zb (by intro _;omega),Zk (p:=n>=0) h0,Zk (p:=c.1>=0) g.1,pJ,pJ,FS];by_cases f:c.1<=n/\n<J3 c
   ·have e:n-c.1<(c.2.1.length:Int):=At
    have hk:(n-c.1).toNat<c.2.1.length:=Aa
    rw[if_pos f,Zk (p:=n-c.1>=0),Zk (p:=n-c.1<(c.2.1.length:Int)) e,pJ,pG,Zb,Zb,List.getElem?_eq_getElem hk];have:c.2.1.getD (n-c.1).toNat 0=c.2.1[(n-c.1).toNat]:=Af
    rw[this];have hv:=Nb c.2.1[(n-c.1).toNat];rw[Zs];rfl
   ·rw[if_neg f]
    grind(splits:=20)[J3]
  ·rw[Zo (Zm),Mf Aa];rfl
theorem Qrf(h0:0<=n)(h1:n<=4611686018427387903)(hl:b.2.1.length<=1000000)(hq:∀c∈b.2.1,0<=c.1/\J3 c<=4611686018427387903):YI b n=K2 (bv (FS b.2.1 n),()):=by grind[YI,Z7y,rf]
set_option maxRecDepth 100000 in
theorem Qzk:∀k:Fin 256,bits .and .i64 ((k.val:Nat):Int) 255=((k.val:Nat):Int):=Ah
theorem Qsx(v:UInt8):fe (v.toNat:Int)=K2 ([v],()):=by
 have hv:=Nb v;have a:bits .and .i64 (v.toNat:Int) 255=(v.toNat:Int):=Qzk ⟨v.toNat,Aa⟩;unfold fe sl;rw[a,show Z9 1 1 7=K2 (K4,())from rfl];simp only[pA,pI,Ld];rw[Zo (Zm)];show Le (Y1 2 (v.toNat:Int) 1 [] 0) _=_;unfold Y1;rw[Zl Ah,Zb Ah];simp only;rw[Zb (by simp[Z6,Qb]),Zb Ah];unfold Y1;have b:L0 (v.toNat:Int) 256=0:=Int.tdiv_eq_zero_of_lt Aa Aa;have c:Lw (v.toNat:Int) 256=(v.toNat:Int):=Int.tmod_eq_of_lt Aa Aa;rw[show Lb.wrap ((0:Int)+1)=1 from rfl,Zo Ah,b,c,show Lb.wrap 0=0 from rfl,Zm (p:=(0:Int)>0),pH,pA];have d:L7.wrap (v.toNat:Int)=(v.toNat:Int):=by grind[Ml,Mk,M2]
 simp_all[Qb]
def u0(b:Zz)(o:Int)(d:Ba)(n:Int):UInt8:=match FS b.2.1 n with|some v=>v|none=>d.getD (n-o).toNat 0
def F5(b:Zz)(o:Int)(d:Ba):Int->Nat->Ba|_,0=>[]|a,m+1=>u0 b o d a::F5 b o d (a+1) m
theorem vJ(b:Zz)(o:Int)(d:Ba):∀(m:Nat)(a:Int),(F5 b o d a m).length=m
 |0,_=>rfl
 |m+1,a=>by rw[F5,Lf,vJ b o d m]
theorem Qfm(b:Zz)(o:Int)(d:Ba):∀(m:Nat)(a:Int)(j:Nat),j<m->(F5 b o d a m)[j]? =K2 (u0 b o d (a+(j:Int)))
 |0,_,_,h=>Aa
 |m+1,a,0,_=>by rw[F5];simp
 |m+1,a,j+1,h=>by
  rw[F5,List.getElem?_cons_succ,Qfm b o d m (a+1) j Aa];congr 2;omega
theorem Qsm(hbl:b.2.1.length<=1000000)(hq:∀c∈b.2.1,0<=c.1/\J3 c<=4611686018427387903)(K1:(Int×Ba×Zz×Zz×Zz×List Zi×Int×Unit)->Oa Zz)(ho:0<=o)(t x:Zz)(l:List Zi)(hi:i<l.length){r:Zi}(hr:l.getD i Z4=r)
  (h0:0<=r.1) (hH:r.2.1<=4611686018427387903) (hx:x.2.1.length<=1000000) (hin:∀n,r.1<=n->n<r.2.1->FS b.2.1 n≠Lk\/(o<=n/\n<o+(d.length:Int))):
  ∀(N m:Nat)(s:Ba),(m:Int)<=r.2.1-r.1->m<N->(s.length:Int)+m<=4000000->
   Kh K1 N o d b t x l (i:Int) s (r.2.1- (m:Int))=K1 (o,d,b,t,(x.1,x.2.1++[(r.1,s++F5 b o d (r.2.1- (m:Int)) m,())],x.2.2),l,Lb.wrap ((i:Int)+1),()):=by
 intro N
 induction N with
 |zero=>omega
 |succ N g=>
 intro m s j k p;cases m with
 |zero=>
  unfold Kh gG gL;rw[Zb,show(i:Int).toNat=i from rfl,hr,Zo (Zm),Zb]
  grind[Zb,Qd,F5]
 |succ m=>
  have e:r.2.1- ((m+1:Nat):Int)+1=r.2.1- (m:Int):=Aa
  have a:∀v:UInt8,v=u0 b o d (r.2.1- ((m+1:Nat):Int))->cM K1 (λv=>Kh K1 N v.1 v.2.1 v.2.2.1 v.2.2.2.1 v.2.2.2.2.1 v.2.2.2.2.2.1 v.2.2.2.2.2.2.1 v.2.2.2.2.2.2.2.1 v.2.2.2.2.2.2.2.2.1) o d b t x l (i:Int) s (r.2.1- ((m+1:Nat):Int)) (v.toNat:Int)=
    K1 (o,d,b,t,(x.1,x.2.1++[(r.1,s++F5 b o d (r.2.1- ((m+1:Nat):Int)) (m+1),())],x.2.2),l,Lb.wrap ((i:Int)+1),()):=by
   grind[cM,Qsx,Zb,Z6,Zs,F5]
  unfold Kh gG gL;rw[Zb,show(i:Int).toNat=i from rfl,hr,Zl (Zk),Qrf Aa Aa hbl hq,pA];have f:=hin (r.2.1- ((m+1:Nat):Int)) Aa Aa;cases ha:FS b.2.1 (r.2.1- ((m+1:Nat):Int))with
  |none=>
   rw[ha]at f;have f:=f.resolve_left (λh=>h rfl);rw[show K3 ((bv (none:Option UInt8),()).1<(0:Int))=K4 from rfl,pG,Zs (n:=r.2.1- ((m+1:Nat):Int)-o),Zb];have hv:=Nb (d.getD (r.2.1- ((m+1:Nat):Int)-o).toNat 0);rw[Zs];simp_all[u0]
  |some v=>
   rw[show K3 ((bv (K2 v),()).1<(0:Int))=Lc from Zm (show ¬((v.toNat:Int)<0) by omega),pH];exact a v (by simp_all[u0])
theorem Bt(n:Int):¬U4 n []:=λ⟨x,hx,_⟩=>by cases hx
theorem HG{x:Zi}{l:List Zi}:U4 n (x::l)↔(x.1<=n/\n<x.2.1)\/U4 n l:=by
 constructor
 ·rintro⟨y,hy,h⟩;rcases Ls.1 hy with rfl|hy
  ·exact .inl h
  ·exact .inr ⟨y,hy,h⟩
 ·rintro(h|⟨y,hy,h⟩)
  ·exact⟨x,L5,h⟩
  ·exact⟨y,L8 _ hy,h⟩
theorem Qsj:∀{l:List Zi}{r:Zi},U4 n (pz l r)↔U4 n l\/(r.1<=n/\n<r.2.1)
 |l,r=>⟨PU,in_addR' l r⟩
where in_addR' {n:Int}:∀(l:List Zi)(r:Zi),U4 n l\/(r.1<=n/\n<r.2.1)->U4 n (pz l r)
 |[],r,h=>⟨r,by simp[pz],h.resolve_left (Bt n)⟩
 |x::l,r,h=>by
  unfold pz;split
  ·refine HG.2 ?_;rcases h with h|h
   ·rcases HG.1 h with h|h
    ·exact .inl h
    ·exact .inr (in_addR' l r (.inl h))
   ·exact .inr (in_addR' l r (.inr h))
  ·split
   ·grind[HG]
   ·refine in_addR' l _ ?_
    grind[HG]
def Gr(b:Zz)(o:Int)(d:Ba)(r:Zi):Qj:=(r.1,F5 b o d r.1 (r.2.1-r.1).toNat,())
theorem Qkb(b:Zz)(o:Int)(d:Ba){r:Zi}(h:r.1<=r.2.1:=by omega):J3 (Gr b o d r)=r.2.1:=by grind[J3,Gr,vJ]
theorem Qjj{b:Zz}(hbl:b.2.1.length<=1000000)(hq:∀c∈b.2.1,0<=c.1/\J3 c<=4611686018427387903){o:Int}(ho:0<=o){d:Ba}(t:Zz){l:List Zi}(hl:l.length<=1000000)(hf:∀r∈l,kd r=K4)(hc:∀r∈l,r.2.1-r.1<=2000000)
  (hin:∀n,U4 n l->FS b.2.1 n≠Lk\/(o<=n/\n<o+(d.length:Int))):∀(N i:Nat)(x:Zz),l.length-i<N->i<=l.length->x.2.1.length<=i->
   V5 N o d b t x l (i:Int)=K2 ((x.1,x.2.1++(l.drop i).map (Gr b o d),x.2.2),())
 |0,_,_,h,_,_=>Aa
 |N+1,i,x,p,s,hx=>by
  unfold V5 gG gL;by_cases h:i<l.length
  ·have a:=Z5 (d:=Z4) h;have e:=Xo.1 (hf _ a);have j:=hc _ a;rw[Zl (Zk),Zb,show(i:Int).toNat=i from rfl,Qx (d:=Z4) h,L1];generalize m:l.getD i Z4=r at*
   have k:=Qsm hbl hq (λv=>V5 N v.1 v.2.1 v.2.2.1 v.2.2.2.1 v.2.2.2.2.1 v.2.2.2.2.2.1 v.2.2.2.2.2.2.1) ho t x l h m e.1 Aa Aa (λn f g=>hin n ⟨r,a,f,g⟩) (ag o d b t x l (i:Int) [] r.1) (r.2.1-r.1).toNat [] Aa
    (by simp_all[ag]) Ai
   rw[show r.2.1- (((r.2.1-r.1).toNat:Nat):Int)=r.1 by omega]at k;rw[k,Zr h];have q:=Qjj hbl hq ho (d:=d) t hl hf hc hin N (i+1) (x.1,x.2.1++[Gr b o d r],x.2.2) Aa Aa Af;refine Lz q ?_;simp_all
  grind
theorem Qka(b:Zz)(o:Int)(d:Ba):∀{l:List Zi}{e:Int},CQ e l=K4->Rk e (l.map (Gr b o d))
 |[],_,_=>trivial
 |r::l,e,h=>by
  simp only[CQ,pC,decide_eq_true_eq]at h;have c:=Xo.1 h.1.1;refine⟨h.1.2,?_,?_⟩
  ·intro a;have:=congrArg M4 a
   grind[Gr,vJ]
  ·rw[Qkb b o d];exact Qka b o d h.2
theorem Qp7(b:Zz)(o:Int)(d:Ba):∀{l:List Zi}{n:Int},(∀r∈l,kd r=K4)->(U4 n l->FS (l.map (Gr b o d)) n=K2 (u0 b o d n))/\(¬U4 n l->FS (l.map (Gr b o d)) n=Lk)
 |[],n,_=>⟨λh=>absurd h (Bt n),λ_=>rfl⟩
 |r::l,n,h=>by
  have c:=Xo.1 (h r L5);obtain⟨e,f⟩:=Qp7 b o d (l:=l) (n:=n) λx hx=>h x (L8 _ hx);rw[L1,FS,Qkb b o d];show(_->(ite (r.1<=n/\n<r.2.1) ((F5 b o d r.1 (r.2.1-r.1).toNat)[(n-r.1).toNat]?) _)=_)/\(_->(ite (r.1<=n/\n<r.2.1) ((F5 b o d r.1 (r.2.1-r.1).toNat)[(n-r.1).toNat]?) _)=_)
  by_cases a:r.1<=n/\n<r.2.1
  ·rw[if_pos a,Qfm b o d _ _ _ Aa,show r.1+(((n-r.1).toNat:Nat):Int)=n by omega];exact⟨λ_=>rfl,λh=>absurd ⟨r,L5,a⟩ h⟩
  ·rw[if_neg a]
   grind[HG]
theorem Qil:∀{l:List Qj}{n:Int},FS l n≠Lk↔U4 n (l.map MA)
 |[],n=>⟨λh=>absurd rfl h,λh=>absurd h (Bt n)⟩
 |c::l,n=>by
  rw[L1,HG,<-Qil (l:=l)];unfold MA;simp only;by_cases a:c.1<=n/\n<J3 c
  ·have:c.1<=n/\n<c.1+(c.2.1.length:Int):=a;simp_all[Qcv]
  ·have b:¬(c.1<=n/\n<c.1+(c.2.1.length:Int)):=a;rw[FS,if_neg a]
   grind
theorem Qz7(h:iw K b)(o:Int)(d:Ba)(hK:K+d.length+1<=1000000)(hb:yU b=K4)(hdl:0<d.length)(h1:¬o<0)(h2:¬o>4611686018427387903- (d.length:Int))(h3:¬o+(d.length:Int)<=b.1):
  CQ (b.1-1) (pz (b.2.1.map MA) (max o b.1,o+(d.length:Int),()))=K4/\(∀n,U4 n (pz (b.2.1.map MA) (max o b.1,o+(d.length:Int),()))↔FS b.2.1 n≠Lk\/(max o b.1<=n/\n<o+(d.length:Int)))/\
  (pz (b.2.1.map MA) (max o b.1,o+(d.length:Int),())).map (Gr b o d)=B7 (gi o d (o+(d.length:Int)) (max o b.1) b.2.1):=by
 have x:=h.len;have y:=h.tot;obtain⟨z,A,m⟩:=uc Aa hb;have j:CQ (-1) (b.2.1.map MA)=true:=Ce m Aa;have i:kd (max o b.1,o+(d.length:Int),())=true:=Xo.2 Ag;have f:=H7 j i Ag;have a:=hb;unfold yU at a;simp only[pC]at a;rw[Zs]at a;obtain⟨k,B⟩:=Eo a.1 Aa λc p=>by have:=Fx p;omega
 have q:∀r∈pz (b.2.1.map MA) (max o b.1,o+(d.length:Int),()),kd r=true:=λr s=>(xI f r s).2;have t:∀n,U4 n (pz (b.2.1.map MA) (max o b.1,o+(d.length:Int),()))↔FS b.2.1 n≠Lk\/(max o b.1<=n/\n<o+(d.length:Int)):=λn=>by rw[Qsj,Qil]
 refine⟨H7 m i Ag,t,?_⟩;have u:∀c∈b.2.1,c.1<=J3 c:=λc _=>At
 have g:Ug 0 (gi o d (o+(d.length:Int)) (max o b.1) b.2.1):=by
  refine UQ Aa Aa ?_;have:=aq (e:=0) k;cases hbl:b.2.1 with
  |nil=>trivial
  |cons c l=>
   rw[hbl]at k this;exact⟨Af,this.2⟩
 have v:Rk (-1) (B7 (gi o d (o+(d.length:Int)) (max o b.1) b.2.1))/\ ∀n,FS (B7 (gi o d (o+(d.length:Int)) (max o b.1) b.2.1)) n=FS (gi o d (o+(d.length:Int)) (max o b.1) b.2.1) n:=by
  generalize gi o d (o+(d.length:Int)) (max o b.1) b.2.1=P at g;cases P with
  |nil=>exact⟨trivial,λ_=>rfl⟩
  |cons c l=>exact⟨TB (by have:=g.1;omega) g.2.1 g.2.2,UX g.2.1 g.2.2⟩
 have w:Ug (-1) b.2.1:=Ql3 Aa (aq (e:=0) k);refine Qc0 (Qka b o d f) v.1 λn=>?_;obtain⟨C,D⟩:=Qp7 b o d q (n:=n)
 grind(splits:=20)[Qmb,u0]
theorem Zz2(h:iw K b)(o:Int)(d:Ba)(hK:K+d.length+1<=1000000)(hoB:o<=4611686018427387904):nU b o d=K2 (sY b o d,()):=by
 have G:=h.len;have H:=h.tot;unfold nU sY;rw[kI b,pA];simp only;cases hb:yU b
 ·grind[VW]
 simp only[pI,Ld];rw[Zs (n:=4611686018427387903- (d.length:Int))];by_cases u:(d==([]:Ba))=K4
 ·grind[VW]
 rw[Ng]at u;have k:0<d.length:=Mc.2 λe=>Af
 rw[u];simp only[Ld];by_cases v:o<0
 ·grind[VW]
 rw[Zm v,Ld];by_cases w:o>4611686018427387903- (d.length:Int)
 ·grind[VW]
 rw[Zm w,Ld,pH,Zs];obtain⟨I,J,z⟩:=uc Aa hb;by_cases m:o+(d.length:Int)<=b.1
 ·rw[Zk m,Zl (Zk),VW h];rfl
 rw[Zm m,pH,Zo (Zm),lF h,pA,hb];simp only[if_true];have p:(b.2.1.map MA).length<=1048576:=Ai
 rw[og _ _ p,pA];have g:CQ (-1) (b.2.1.map MA)=true:=Ce z Aa;have q:kd (max o b.1,o+(d.length:Int),())=true:=Xo.2 Ag;simp only[g,q,and_self,if_true];have s:=RP (l:=b.2.1.map MA) (r:=((max o b.1,o+(d.length:Int),()):Zi));rw[M5]at s;have i:=Bc (l:=b.2.1.map MA) (r:=((max o b.1,o+(d.length:Int),()):Zi)) (λx hx=>by
  have:=Xo.1 (xI g x hx).2;omega) Ag
 rw[Pe]at i;simp only at i;obtain⟨f,A,L⟩:=Qz7 h o d hK hb k v w m;have j:=Ce f (show(-1:Int)<=b.1-1 by omega);have a:=hb;unfold yU at a;simp only[pC]at a;rw[Zs]at a;obtain⟨M,B⟩:=Eo a.1 Aa λc C=>by have:=Fx C;omega
 have D:∀r∈pz (b.2.1.map MA) (max o b.1,o+(d.length:Int),()),kd r=true:=λr y=>(xI j r y).2;have E:∀{l:List Zi},(∀r∈l,kd r=K4)->0<=jt l/\ ∀r∈l,r.2.1-r.1<=jt l:=by
  intro l
  induction l with
  |nil=>simp_all[jt]
  |cons r l N=>
   grind(splits:=20)[Xo,L5,jt]
 have t:=Qjj (b:=b) Aa B (o:=o) Aa (d:=d) GI (l:=pz (b.2.1.map MA) (max o b.1,o+(d.length:Int),())) Aa D (λr y=>Ai)
  (λn F=>((A n).1 F).imp id λh=>Aa) (af o d b GI (b.1,[],()) (pz (b.2.1.map MA) (max o b.1,o+(d.length:Int),())) 0) 0 (b.1,[],()) (by simp[af]) Aa Ac
 refine Lz t ?_;simp_all
theorem Qoj(h:iw K b)(o:Int)(d:Ba)(hK:K+d.length+1<=1000000)(hoB:o<=4611686018427387904):iw (K+d.length+1) (sY b o d):=by
 obtain⟨y,e,a⟩:=Z4k h o d hK
 grind(splits:=20)[Zz2]
theorem l5(h:iw K r.2.1)(hK:K<=1000000:=by omega):bF r=K2 (r,()):=by grind[bF,xS]
theorem LM(h:iw K r.2.1)(hK:K<=1000000:=by omega):pq r=K2 (r,()):=by grind[pq,VW]
def OG(r:Z1)(e:Int)(fin:Bool):Bool:=((r.2.2.1 !=(-1:Int))&&(K3 (e>r.2.2.1)))||(fin&&(((r.2.2.1 !=(-1:Int))&&(e !=r.2.2.1))||(K3 (e<r.2.2.2.1))))
theorem Qiw(r:Z1)(e:Int)(fin:Bool):ze r e fin=K2 (OG r e fin,()):=rfl
theorem P6(r:Z1)(e:Int)(fin:Bool):uS r e fin=K2 (cond (OG r e fin) 6 0,()):=by grind[uS,OG]
theorem yh(h:0<=r.1):mD r=K2 (!K3 (r.1>1),()):=by
 unfold mD;congr 2
 grind
theorem Qp5(h:iw K r.2.1)(o:Int)(d:Ba)(fin:Bool)(hK:K+d.length+1<=900000)(hoB:o<=4611686018427387904):za r o d fin=Jg r o d fin:=by
 unfold za tD Jg tD;rw[l5 h,LM h,YB h,D9 h];simp only[pA];cases hb:FT r
 ·rfl
 have c:=n9 h Aa hb;simp only[pI,Ld];rw[Qiw,P6,yh c];simp only[pA];generalize (K3 (o<0)||K3 (o>Lb.wrap (4611686018427387903- (d.length:Int))))=a;cases a
 rotate_left
 ·rfl
 rw[pH,pH];cases OG r (Lb.wrap (o+(d.length:Int))) fin
 rotate_left
 ·rfl
 rw[pH,pH];cases K3 (r.1>1)
 rotate_left
 ·rfl
 have b:=Qoj h o d Aa hoB;have j:∀x:Z1,kE o d r tj x=Vd o d r tj x:=λx=>by
  unfold kE Vd ZE;rw[Qd1 h o d Aa hoB,Zz2 h o d Aa hoB];simp only[pA];rw[BG b Aa,uB _ (by have:=b.len;omega)];cases x.2.2.1 !=(-1:Int)
  ·rfl
  ·rfl
 simp_all
theorem Z7m(h:iw K r.2.1)(code final:Int)(hK:K<=900000):xz r code final=W6 r code final:=by
 unfold xz gH tR W6 gH;rw[l5 h,LM h,YB h,D9 h];simp only[pA];cases hb:FT r
 ·rfl
 have a:=n9 h Aa hb;rw[Qiw,P6,yh a];simp only[pA,pI,Ld,pH,PX,Jl]
 grind
def Oj(s:Zj):List Zj->List Zj|[]=>[s]|x::r=>ite (x.1>s.1) (s::x::r) (x::Oj s r)
theorem Qvl{K:Nat}{l:List Zj}{s:Zj}(h:nh K l)(hK:K<=500000):∀(N i:Nat)(out:List Zj),l.length-i<N->i<=l.length->out.length<=i+1->Yt N l s out (-1) K4 (i:Int)=K2 (out++l.drop i,())
 |0,_,_,h,_,_=>Aa
 |N+1,i,out,b,c,e=>by
  have f:=h.len;rw[Yt];by_cases a:i<l.length
  ·rw[Zl (Zk),Zb,show(i:Int).toNat=i from rfl,QG (h.all _ (Z5 (d:=Zc) a)),pA];have:((i:Int)==(-1:Int))=false:=Ac
   rw[this,pH,Zb (λh=>by cases h)];simp only[pI,Mu,pH];unfold Jo;rw[Zb Aj,Zr a];refine Lz (Qvl h hK N (i+1) (out++[l.getD i Zc]) Aa Aa Af) ?_;simp_all
  grind
theorem Qvk{K:Nat}{l:List Zj}{s:Zj}(h:nh K l)(hs:Xz K s)(hK:K<=500000):∀(N i:Nat)(out:List Zj),l.length-i<N->i<=l.length->out.length<=i->Yt N l s out (-1) Lc (i:Int)=K2 (out++Oj s (l.drop i),())
 |0,_,_,h,_,_=>Aa
 |N+1,i,out,c,e,f=>by
  have g:=h.len;rw[Yt];by_cases a:i<l.length
  ·rw[Zl (Zk),Zb,show(i:Int).toNat=i from rfl,QG (h.all _ (Z5 (d:=Zc) a)),pA];have:((i:Int)==(-1:Int))=false:=Ac
   rw[this,pH,Zb (λ_=>Aa),Qx (d:=Zc) a];simp only[Ll,pJ];unfold Oj;by_cases b:(l.getD i Zc).1>s.1
   ·rw[Zk b,pG,if_pos b,QG hs,pA,Zb Aj];unfold Jo;rw[Zb Aj,Zr a];refine Lz (Qvl h hK N (i+1) (out++[s]++[l.getD i Zc]) Aa Aa Af) ?_;simp_all
   ·rw[Zm b,pH,if_neg b];unfold Jo;rw[Zb Aj,Zr a];refine Lz (Qvk h hs hK N (i+1) (out++[l.getD i Zc]) Aa Aa Af) ?_;simp_all
  ·rw[Zo (Zm),Mf Aa];simp only[Ll,pG];rw[QG hs,pA,Zb Aj];rfl
def Hp(s:Zj):List Zj->Option Nat|[]=>Lk|x::r=>ite (x.1>s.1) (K2 0) ((Hp s r).map (· +1))
theorem OI(s:Zj):∀l:List Zj,Oj s l=match Hp s l with|none=>l++[s]|some p=>l.take p++[s]++l.drop p
 |[]=>rfl
 |x::r=>by
  unfold Oj Hp;by_cases a:x.1>s.1
  ·simp_all
  ·rw[if_neg a,if_neg a,OI s r]
   grind
theorem Qog{s:Zj}:∀{l:List Zj}{p:Nat},Hp s l=K2 p->p<l.length
 |[],_,h=>by cases h
 |x::r,p,h=>by
  unfold Hp at h;split at h
  ·cases h;simp
  ·cases hr:Hp s r with
   |none=>simp_all
   |some q=>
    rw[hr]at h;cases h;have:=Qog hr;simp_all
theorem Qu5{l:List Zj}(s:Zj)(hl:l.length<=1000000):∀(N i:Nat),l.length-i<N->i<=l.length->Q2 N l (s,()) (l.length:Int) (i:Int)=K2 (match Hp s (l.drop i)with|none=> -1|some p=>((i+p:Nat):Int),())
 |0,_,h,_=>Aa
 |N+1,i,b,c=>by
  unfold Q2 gG gJ;by_cases a:i<l.length
  ·rw[Zl (Zk),Zb,show(i:Int).toNat=i from rfl,Zr a,Qx (d:=Zc) a,Qu5 s hl N (i+1) Aa Aa];show Le (K2 (K3 ((l.getD i Zc).1>s.1),())) _=_;rw[pA,Hp]
   grind
  ·rw[Zo (Zm),Mf Aa];rfl
theorem gtI(s:Zj)(hl:l.length<=1000000):Xu l (s,())=K2 (match Hp s l with|none=> -1|some p=>(p:Int),()):=by unfold Xu;refine Lz (Qu5 s hl _ 0 (by simp[X9]) Aa) ?_;simp_all
theorem Qs7(h:nh K l)(hs:Xz K s)(hK:K<=500000)(hi:Qk l s.1= -1):Xn l s=K2 (Oj s l,()):=by have a:=h.len;unfold Xn;rw[VB Aa,pA,hi];have e:K3 ((-1:Int)>=0)=false:=rfl;simp only[e];refine Lz (Qvk h hs hK _ 0 [] (by simp[bg]) Aa Ac) ?_;simp
theorem Qs6(h:nh K l)(hs:Xz K s)(hK:K<=500000)(hi:Qk l s.1= -1):mz l s=K2 (Oj s l,()):=by
 have c:=h.len;have a:cZ l=K2 (l,()):=by
  unfold cZ;exact WQ h Aa _ 0 (by simp[Wi]) Aa
 have b:∀p:Nat,p<=l.length->oB s l (p:Int)=K2 (l.take p++[s]++l.drop p,()):=λp d=>by
  grind[oB,Zqs,Eb,NC,Zb,Qd]
 unfold mz gG;rw[a,pA,xX Aa,VB Aa,pA,hi];have e:K3 ((-1:Int)>=0)=false:=rfl;simp only[e,pH];rw[gtI s Aa,pA,OI];cases hg:Hp s l with
 |none=>
  simp_all
 |some p=>
  simp only;rw[Zo (Zm),b p (Nat.le_of_lt (Qog hg))]
def PC(m:Oa Bool):Bool:=match m with|some (b,_)=>b|none=>Lc
theorem AL{m:Oa Bool}(h:TT m):m=K2 (PC m,()):=by obtain⟨⟨b,u⟩,e,-⟩:=h;rw[e];rfl
theorem DW(n:Int):uo n=bd n:=rfl
theorem Dh(v:Bool)(n:Int):V0 v n=kt v n:=rfl
theorem Qvt(v:Bool)(n:Int):ya v n=Wf v n:=rfl
theorem GQ(v:Bool)(n:Int):jw v n=Y9 v n:=rfl
theorem Z9m(n:Int):cn n=K2 (kb n,()):=rfl
theorem TK(h:RH f):W5 f=K2 (Ym f,()):=uK f Ap
theorem I5(h:RH f):Vz f=K2 (Ym f,()):=zf f Ap
def N4(n:Int):Int:=cond (kb n) (n/4) (-1)
theorem Qxe(n:Int):uF n=K2 (N4 n,()):=by
 unfold uF N4;rw[Jl,pA];have a:(2:Int)^ (min (2:Int).toNat Lb.bits)=4:=by
  rfl
 grind(splits:=20)[Zb]
theorem Qxd(n:Int):kY n=K2 (N4 n,()):=by
 unfold kY N4;rw[Z9m,pA];cases hq:kb n
 ·rfl
 ·have h:=Jz.1 hq;rw[pI,pH,pG,Zb,Nr h.1,Zs]
theorem Qhb(n:Int):Dn n=mP n:=by rfl
theorem Z40(v:Bool)(n:Int)(o p:cP):yj v n o p=ca v n o p:=by unfold yj gH ca gH;simp only[C5,Qhb,Z9m,Jl,pA];rfl
def A4(a:Q1)(n:Int):Bool:=Bf a&&(K3 (0<=n)&&K3 (n<a.2.1))
def Rr(a:Q1)(n:Int):Int:=max 0 (n+1-a.2.2.1)
def Ot(a:Q1)(n:Int):Q1:=(a.1,a.2.1,a.2.2.1+Rr a n,a.2.2.2)
theorem Qkg{a:Q1}(h:A4 a n=K4):Lb.wrap (Lb.wrap (n+1)-a.2.2.1)=n+1-a.2.2.1/\Lb.wrap (a.2.2.1+Rr a n)=a.2.2.1+Rr a n:=by unfold A4 at h;simp only[pC,decide_eq_true_eq]at h;have g:=dW.1 h.1;have:=g.lim;have:=g.seen;constructor<;>grind[Rr,Zs]
theorem Qmi(a:Q1)(n:Int):qq a n=K2 (cond (A4 a n) (Ot a n) a,cond (A4 a n) (Rr a n) 0,A4 a n,()):=by
 unfold qq tN;rw[EB,pA];have e:(((!Bf a)||(K3 (n<0)))||(K3 (n>=a.2.1)))= !A4 a n:=by
  grind(splits:=20)[A4]
 rw[e];cases h:A4 a n
 ·rfl
 ·obtain⟨c,b⟩:=Qkg h;simp only[pI,pH,pG];rw[c];unfold Rr at b;rw[b];rfl
theorem Z9f(a:Q1)(n:Int):iB a n=K2 (cond (A4 a n) (Ot a n) a,cond (A4 a n) (Rr a n) 0,A4 a n,()):=by
 unfold iB gH tN;rw[C0,EB,pA];simp only[bL,bO,Ur];have e:((!Bf a)|| !(K3 (n>=0)&&K3 (n<=Lb.wrap (a.2.1-1))))= !A4 a n:=by
  unfold A4;cases ha:Bf a
  ·rfl
  ·have g:=dW.1 ha;have:=g.lim;have:=g.most
   rw[Zs,show K3 (n<=a.2.1-1)=K3 (n<a.2.1)from decide_eq_decide.2 Aa];rfl
 rw[e];cases h:A4 a n
 ·rfl
 ·obtain⟨c,b⟩:=Qkg h;simp only[pI,pH,pG];rw[c,Int.max_comm];unfold Rr at b;rw[b];rfl
def Fz(w:Qr)(n:Int):Bool:=N8 w&&(K3 (0<=n)&&K3 (n<=w.2.2.1-w.2.2.2.1))
def Sw(w:Qr)(n:Int):Qr:=cond (Fz w n) (w.1,w.2.1,w.2.2.1,w.2.2.2.1+n,w.2.2.2.2) w
theorem Q0z(w:Qr)(n:Int):qp w n=K2 (Sw w n,Fz w n,()):=by
 unfold qp tD Sw;rw[jY,pA];cases hw:N8 w
 ·simp_all[Fz]
 ·have g:=Dj.1 hw;have:=g.lim;have:=g.seen
  rw[Zs (n:=w.2.2.1-w.2.2.2.1)];by_cases a:0<=n/\n<=w.2.2.1-w.2.2.2.1
  ·have e:Fz w n=true:=Ax
   rw[e,Zo Af,Zs];rfl
  grind(splits:=20)[Fz]
theorem UJ(w:Qr)(n:Int):qe w n=K2 (Sw w n,Fz w n,()):=by
 unfold qe gH tD Sw;rw[Hj,jY,pA];simp only[bL,bO,Ur];cases hw:N8 w
 ·simp_all[Fz]
 ·have g:=Dj.1 hw;have:=g.lim;have:=g.seen
  rw[Zs (n:=w.2.2.1-w.2.2.2.1)];have e:(!K4|| !(K3 (n>=0)&&K3 (n<=w.2.2.1-w.2.2.2.1)))= !Fz w n:=Ax
  rw[e];cases h:Fz w n
  ·rfl
  ·unfold Fz at h;simp only[pC,decide_eq_true_eq]at h;rw[pI,pH,pG,Zs]
theorem Fr(w:Qr):kZ w=K2 (cond (N8 w) (w.2.2.1-w.2.2.2.1) 0,()):=by
 unfold kZ;rw[Hj,jY,pA];cases hw:N8 w
 ·rfl
 ·have g:=Dj.1 hw;have:=g.lim;have:=g.seen
  rw[pI,pH,pG,Zs]
def GW(w:Qr)(n:Int):Bool:=N8 w&&(K3 (0<=n)&&K3 (n<=w.2.2.2.1-w.2.2.2.2.1))
def OB(w:Qr)(n:Int):Qr:=cond (GW w n) (w.1,w.2.1,w.2.2.1,w.2.2.2.1,w.2.2.2.2.1+n,w.2.2.2.2.2) w
theorem Qvr(w:Qr)(n:Int):mR w n=K2 (OB w n,GW w n,()):=by
 unfold mR tJ OB;rw[jY,pA];cases hw:N8 w
 ·simp_all[GW]
 ·have g:=Dj.1 hw;have:=g.lim;have:=g.seen;have:=g.read
  rw[Zs (n:=w.2.2.2.1-w.2.2.2.2.1)];by_cases a:0<=n/\n<=w.2.2.2.1-w.2.2.2.2.1
  ·have e:GW w n=true:=by simp_all[GW]
   rw[e,Zo Af,Zs];rfl
  grind(splits:=20)[GW]
theorem Qvq(w:Qr)(n:Int):ax w n=K2 (OB w n,GW w n,()):=by
 unfold ax gH tJ OB;rw[Hj,jY,pA];simp only[bL,bO,Ur];cases hw:N8 w
 ·simp_all[GW]
 ·have g:=Dj.1 hw;have:=g.lim;have:=g.seen;have:=g.read
  rw[Zs (n:=w.2.2.2.1-w.2.2.2.2.1)];have e:(!K4|| !(K3 (n>=0)&&K3 (n<=w.2.2.2.1-w.2.2.2.2.1)))= !GW w n:=by simp_all[GW]
  rw[e];cases h:GW w n
  ·rfl
  ·unfold GW at h;simp only[pC,decide_eq_true_eq]at h;rw[pI,pH,pG,Zs]
def Ct(a:Q1):Q1:=cond (Bf a&& !(a.2.2.2.1==a.2.2.1)) (a.1,a.2.1,a.2.2.1,a.2.2.2.1+1,a.2.2.2.2) a
theorem BV(a:Q1):T (iG a) λr=>r.1=Ct a:=by
 unfold iG tD Ct;rw[EB,pA];cases ha:Bf a
 ·exact T.pure rfl
 ·have g:=dW.1 ha;have:=g.lim;have:=g.seen;have:=g.clo
  cases a.2.2.2.1==a.2.2.1
  ·exact T.pure (by simp only[Ll,Lt,pG];grind[Zs])
  ·exact T.pure rfl
theorem Qnp(a:Q1):Z3 a=iG a:=rfl
def MO(r:Z1)(e:Int):Int:=cond (FT r&&kb e) (max 0 (Lb.wrap (e-r.2.2.2.1))) 0
theorem Qlt(h:iw K r.2.1)(hK:K<=1000000)(e:Int):wl r e=K2 (MO r e,()):=by grind[wl,MO,D9,Jl]
theorem Z8s(h:iw K r.2.1)(hK:K<=1000000)(e:Int):z9 r e=K2 (MO r e,()):=by grind[z9,MO,YB,D9,PX]
def Ds(c:Y3)(n:Int):Y3:=cond ((CJ c&&K3 (n>c.1))&&K3 (n<=4611686018427387903)) (n,c.2.1,(-1:Int),c.2.2.2) c
theorem Qx8(c:Y3)(n:Int):uX c n=K2 (Ds c n,()):=by grind[uX,Ds,AH,DG]
theorem Qx9(c:Y3)(n:Int):kw c n=K2 (Ds c n,()):=by
 unfold kw gH Ds;rw[DG,pA];simp only[Jl,bO,Ur];cases hc:CJ c
 ·rfl
 ·have g:=O5.1 hc;have:=g.use0;have:=g.use
  by_cases h:n>c.1/\n<=4611686018427387903
  ·grind[Jz]
  ·rw[Zl,Zo]
   ·simp_all
   grind[Jz]
def Bv(c:dI)(n:Int):dI:=cond ((I2 c&&K3 (n>c.1))&&K3 (n<=1152921504606846976)) (n,c.2.1,(-1:Int),c.2.2.2) c
theorem Qtb(c:dI)(n:Int):uW c n=K2 (Bv c n,()):=by grind[uW,Bv,EX,XZ]
theorem Qtc(c:dI)(n:Int):kv c n=K2 (Bv c n,()):=by
 unfold kv Bv;rw[XZ,pA]
 grind
theorem Qjg(hl:l.length<=1000000)(n:Int)(h:Qk l n<0):Qk l n= -1:=by
 have b:∀(N i:Nat),l.length-i<N->i<=l.length-> ∃v,Kg N l n (i:Int)=K2 (v,())/\(v<0->v= -1):=by
  intro N
  induction N with
  |zero=>intro i h;omega
  |succ N c=>
   intro i g j;unfold Kg;by_cases d:i<l.length
   ·rw[Zl (Zk),Zb,Zr d];obtain⟨v,a,f⟩:=c (i+1) Aa Aa
    grind(splits:=20)
   grind
 obtain⟨v,a,f⟩:=b (Jc l n 0) 0 (by simp[Jc]) Aa;have e:Kf l n=K2 (v,()):=a;simp_all[VB]
theorem Qsh(hl:l.length<=1000000)(h:∃s∈l,s.1=n):0<=Qk l n:=by grind[uT]
def ZH(l:List Zj)(s:Zj):List Zj:=ite (0<=Qk l s.1) (l.set (Qk l s.1).toNat s) (Oj s l)
theorem Z7j(h:nh K l)(hs:Xz K s)(hK:K<=500000:=by omega):Xn l s=K2 (ZH l s,()):=by
 have b:=h.len;unfold ZH;by_cases a:0<=Qk l s.1
 ·rw[if_pos a];grind[EJ]
 ·rw[if_neg a];grind[Qs7,Qjg]
theorem Q0q(h:nh K l)(hs:Xz K s)(hK:K<=500000:=by omega):mz l s=K2 (ZH l s,()):=by
 have c:=h.len;unfold ZH;by_cases a:0<=Qk l s.1
 ·have d:=(uT (l:=l) Aa s.1).1;rw[if_pos a];unfold mz gG;have b:cZ l=K2 (l,()):=by
   unfold cZ;exact WQ h Aa _ 0 (by simp[Wi]) Aa
  rw[b,pA,xX Aa,VB Aa,pA,Zl (Zk),NC hs Aa,pA,Zb ⟨a,Ag⟩]
 ·rw[if_neg a];grind[Qs6,Qjg]
theorem Qol(s:Zj):∀l:List Zj,(Oj s l)=l.length+1:=λl=>by
 grind[OI]
theorem Fy{x:Zj}:∀{l:List Zj},x∈Oj s l↔x=s\/x∈l:=λ{l}=>by
 rw[OI];cases h:Hp s l with
 |none=>simp[or_comm]
 |some p=>
  grind[List.take_append_drop]
theorem s5(l:List Zj)(s:Zj):(ZH l s)<=l.length+1:=by grind[ZH,Qol]
theorem Qex{x:Zj}(h:x∈ZH l s):x=s\/x∈l:=by grind[ZH,Fy]
theorem Qs8(hl:l.length<=1000000)(s:Zj):s∈ZH l s:=by
 unfold ZH;split
 ·rename_i h;have:=(uT hl s.1).1
  grind[List.mem_set]
 simp_all[Fy]
theorem LW(h:nh K l)(hs:Xz K s)(hl:l+1<=K:=by omega):nh K (ZH l s):=⟨by grind[s5],λx hx=>by
 rcases Qex hx with e|e
 ·rw[e];exact hs
 ·exact h.all x e⟩
def TU(v:Bool)(id:Int)(o p:cP):Zj:=match ca v id o p with|some (s,_)=>s|none=>Zc
theorem gY(v:Bool)(id:Int)(o p:cP):∃b,ca v id o p=K2 (TU v id o p,b,())/\Xz 0 (TU v id o p):=by obtain⟨⟨s,b,u⟩,e,h⟩:=Ij v id o p;simp_all[TU]
abbrev CZ(c:Zf)(l:List Zj):Zf:=(c.1,c.2.1,c.2.2.1,l,c.2.2.2.2)
def yv(v:Bool)(o p:cP)(id:Int):Nat->List Zj->List Zj|0,l=>l|m+1,l=>yv v o p id m (ZH l (TU v (Lb.wrap (id-Lb.wrap (4*(m:Int)))) o p))
theorem Qjy(v:Bool)(o p:cP)(id:Int):∀(m:Nat)(l:List Zj),(yv v o p id m l)<=l+m
 |0,_=>Lj _
 |m+1,l=>by
  have:=Qjy v o p id m (ZH l (TU v (Lb.wrap (id-Lb.wrap (4*(m:Int)))) o p))
  grind[s5,yv]
theorem Qjx(id:Int){K:Nat}(h25:25<=K)(hK:K<=400000):∀(N m:Nat)(c:Zf),m<N->c.2.2.2.1+m<=24->nh K c.2.2.2.1->fd N c id ((m:Int)-1)=K2 ((),CZ c (yv c.1 c.2.1 c.2.2.1 id m c.2.2.2.1),())
 |0,m,_,h,_,_=>Aa
 |N+1,0,c,_,_,_=>by
  rfl
 |N+1,m+1,c,d,f,h=>by
  unfold fd;simp only[Xm];rw[Zl (Zk),show((m+1:Nat):Int)-1=(m:Int) by omega];obtain⟨b,e,a⟩:=gY c.1 (Lb.wrap (id-Lb.wrap (4*(m:Int)))) c.2.1 c.2.2.1;have g:=s5 c.2.2.2.1 (TU c.1 (Lb.wrap (id-Lb.wrap (4*(m:Int)))) c.2.1 c.2.2.1);rw[e,pA];unfold QT tD;rw[Z7j h (a.mono (Lq _)),pA];simp only;rw[Zs (n:=(m:Int)-1),Qjx id h25 hK N m _ Aa Ag (LW h (a.mono (Lq _)))];rfl
theorem Qjw(id:Int){K:Nat}(h25:25<=K)(hK:K<=400000):∀(N m:Nat)(c:Zf),m<N->c.2.2.2.1+m<=24->nh K c.2.2.2.1->eL N c id ((m:Int)-1)=K2 (((0:Int),()),CZ c (yv c.1 c.2.1 c.2.2.1 id m c.2.2.2.1),())
 |0,m,_,h,_,_=>Aa
 |N+1,0,c,_,d,_=>by
  unfold eL;rw[Zo (Zm),Zo (Zm)];rfl
 |N+1,m+1,c,f,d,h=>by
  unfold eL;simp only[Xm];rw[Zl (Zk),show((m+1:Nat):Int)-1=(m:Int) by omega];obtain⟨b,e,a⟩:=gY c.1 (Lb.wrap (id-Lb.wrap (4*(m:Int)))) c.2.1 c.2.2.1;have g:=s5 c.2.2.2.1 (TU c.1 (Lb.wrap (id-Lb.wrap (4*(m:Int)))) c.2.1 c.2.2.1);rw[Z40,e,pA];unfold zJ tD;rw[Q0q h (a.mono (Lq _)),pA];simp only;rw[Zs (n:=(m:Int)-1),Qjw id h25 hK N m _ Aa Ag (LW h (a.mono (Lq _)))];rfl
def MN(v:Bool)(n:Int):Bool:=PC (kt v n)
theorem qC(v:Bool)(n:Int):kt v n=K2 (MN v n,()):=AL (jS v n)
def SN(n:Int):Bool:=PC (bd n)
theorem JM(n:Int):bd n=K2 (SN n,()):=AL (Rg n)
def bj(c:Zf)(id:Int):Q1:=cond (SN id) c.2.2.2.2.2.2.2.2.2.1 c.2.2.2.2.2.2.2.2.1
def Fn(c:Zf)(id:Int)(a:Q1):Zf:=cond (SN id) (c.1,c.2.1,c.2.2.1,c.2.2.2.1,c.2.2.2.2.1,c.2.2.2.2.2.1,c.2.2.2.2.2.2.1,c.2.2.2.2.2.2.2.1,c.2.2.2.2.2.2.2.2.1,a,c.2.2.2.2.2.2.2.2.2.2) (c.1,c.2.1,c.2.2.1,c.2.2.2.1,c.2.2.2.2.1,c.2.2.2.2.2.1,c.2.2.2.2.2.2.1,c.2.2.2.2.2.2.2.1,a,c.2.2.2.2.2.2.2.2.2)
def B9(c:Zf)(id:Int):Bool:=(A4 (bj c id) (N4 id)&& !(Rr (bj c id) (N4 id)==0))&&K3 (c.2.2.2.1+Rr (bj c id) (N4 id)<=24)
def Cg(c:Zf)(id:Int):Zf:=CZ (Fn c id (Ot (bj c id) (N4 id))) (yv c.1 c.2.1 c.2.2.1 id (Rr (bj c id) (N4 id)).toNat c.2.2.2.1)
def kU(c:Zf)(id:Int):Int×Zf:=cond (K3 (0<=Qk c.2.2.2.1 id)) (0,c) (cond (MN c.1 id) (5,c) (cond (B9 c id) (0,Cg c id) (4,c)))
theorem NW(a:Q1)(n:Int):0<=Rr a n:=by unfold Rr;omega
theorem Rt(h:B9 c id=K4):c.2.2.2.1+(Rr (bj c id) (N4 id)).toNat<=24/\1<=Rr (bj c id) (N4 id):=by unfold B9 at h;simp only[pC,decide_eq_true_eq,Md,beq_eq_false_iff_ne]at h;have:=NW (bj c id) (N4 id);omega
theorem Pd(h:Qa K c)(hc:ci c=K4)(h25:25<=K)(hK:K<=400000)(hq:kb id=K4):W4 c id=K2 ((kU c id).2,(kU c id).1,()):=by
 have a:=(BK h).1 hc;have b:=(NZ.1 a.sts).len;have k:∀(t x:Zf)(n:Int),0<=n->x.2.2.2.1=c.2.2.2.1->c.2.2.2.1+n.toNat<=24->aH id t x n=K2 (CZ x (yv x.1 x.2.1 x.2.2.1 id n.toNat x.2.2.2.1),(0:Int),()):=λt x n l hx d=>by
  unfold aH JW;rw[Zs,show n-1=((n.toNat:Nat):Int)-1 by omega,Qjx id h25 hK _ n.toNat x (by grind[pg]) (by rw[hx];exact d) (by rw[hx];exact h.str)];rfl
 have e:∀t,Kr id c t c (bj c id)=K2 (cond (B9 c id) (Cg c id,(0:Int),()) (c,(4:Int),())):=λt=>by
  unfold Kr;simp only[Xm,X5];rw[Qxe,pA,Qmi,pA];unfold dp tB tC;simp only;have m:=NW (bj c id) (N4 id);cases hs:A4 (bj c id) (N4 id)
  ·grind[B9]
  ·simp only[pG,pI,Ld];have o:Rr (bj c id) (N4 id)<=1152921504606846976:=by
    unfold A4 at hs;simp only[pC,decide_eq_true_eq]at hs;have g:=dW.1 hs.1;have:=g.lim;have:=g.seen;unfold Rr;omega
   have f:Lb.wrap (c.2.2.2.1+Rr (bj c id) (N4 id))=c.2.2.2.1+Rr (bj c id) (N4 id):=Zs;simp only[f];have i:((Rr (bj c id) (N4 id)==0)||K3 (c.2.2.2.1+Rr (bj c id) (N4 id)>24))= !B9 c id:=by
    unfold B9
    grind
   rw[i];cases hG:B9 c id
   ·rfl
   ·have p:=Rt hG;rw[pI,pH,JM,pA,pG];unfold Cg Fn;cases SN id
    ·grind
    grind
 unfold W4 gH kU;rw[Yn h,pA,Ih h,hc,pA,Jl,hq];simp only[pI,pH,Ma,pA];rw[VB Aa,pA];simp only[ge_iff_le];cases K3 (0<=Qk c.2.2.2.1 id)
 ·rw[pH,pH,qC,pA];simp only;cases MN c.1 id
  ·have j:(cond (SN id) (Kr id c Xh c c.2.2.2.2.2.2.2.2.2.1) (Kr id c Xh c c.2.2.2.2.2.2.2.2.1))=Kr id c Xh c (bj c id):=by grind[bj]
   rw[pH,pH,JM,pA];simp only;rw[j,e];cases B9 c id<;>rfl
  ·rfl
 ·rfl
theorem Fv(h:Qa K c)(hc:ci c=K4)(h25:25<=K)(hK:K<=400000)(id:Int):cT c id=K2 (((kU c id).1,()),(kU c id).2,()):=by
 have i:=(BK h).1 hc;have j:=(NZ.1 i.sts).len;have b:∀(x:Zf)(n:Int),0<=n->x.2.2.2.1=c.2.2.2.1->c.2.2.2.1+n.toNat<=24->kC x id n=K2 (((0:Int),()),CZ x (yv x.1 x.2.1 x.2.2.1 id n.toNat x.2.2.2.1),()):=λx n o hx k=>by
  unfold kC;rw[Zs,show n-1=((n.toNat:Nat):Int)-1 by omega,Qjw id h25 hK _ n.toNat x (by grind[qb]) (by rw[hx];exact k) (by rw[hx];exact h.str)]
 have d:∀n,Z7 c n=K2 (SN n,c,()):=λn=>by
  unfold Z7;rw[DW,JM,pA];cases SN n<;>rfl
 have e:J9 c id (cond (A4 (bj c id) (N4 id)) (Ot (bj c id) (N4 id)) (bj c id)) (cond (A4 (bj c id) (N4 id)) (Rr (bj c id) (N4 id)) 0) (A4 (bj c id) (N4 id))=K2 (cond (B9 c id) (((0:Int),()),Cg c id,()) (((4:Int),()),c,())):=by
  unfold J9 tB tC;have f:=NW (bj c id) (N4 id);cases hs:A4 (bj c id) (N4 id)
  ·have:B9 c id=false:=by unfold B9;rw[hs];rfl
   rw[this];rfl
  ·simp only[pG,pI,Ld];have l:Lb.wrap (24-c.2.2.2.1)=24-c.2.2.2.1:=Zs;simp only[l];have m:((Rr (bj c id) (N4 id)==0)||K3 (Rr (bj c id) (N4 id)>24-c.2.2.2.1))= !B9 c id:=by
    unfold B9;rw[hs,show K3 (Rr (bj c id) (N4 id)>24-c.2.2.2.1)= !K3 (c.2.2.2.1+Rr (bj c id) (N4 id)<=24) by grind];simp
   rw[m];cases hG:B9 c id
   ·rfl
   ·have g:=Rt hG;rw[pI,pH,d,pA,pG];unfold Cg Fn;cases SN id
    ·exact b _ _ f rfl g.1
    ·exact b _ _ f rfl g.1
 have p:=h.str.len;unfold cT kU;simp only[Xm,X5];rw[xX Aa,VB Aa,pA];simp only[ge_iff_le];cases K3 (0<=Qk c.2.2.2.1 id)
 ·rw[pH,pH,Dh,qC,pA];simp only;cases MN c.1 id
  ·rw[pH,pH,d,pA,Qxd];have a:bj c id=(cond (SN id) c.2.2.2.2.2.2.2.2.2.1 c.2.2.2.2.2.2.2.2.1):=rfl;cases hu:SN id
   ·rw[hu,pH]at a;simp only[pH,pA];rw[Z9f,pA];simp only;rw[<-a,e];cases B9 c id<;>rfl
   ·rw[hu,pG]at a;simp only[pG,pA];rw[Z9f,pA];simp only;rw[<-a,e];cases B9 c id<;>rfl
  ·rfl
 ·rfl
theorem Z70:∀{l:List Qj}{e:Int},Rk e l->l≠[]->(∀c∈l,J3 c<=J3 (l.getD (l.length-1) Qv))/\e<J3 (l.getD (l.length-1) Qv)
 |[],_,_,h=>absurd rfl h
 |[c],e,h,_=>by
  have:=NH h.2.1;have:=h.1
  grind
 |c::d::l,e,h,_=>by
  obtain⟨b,f⟩:=Z70 (l:=d::l) h.2.2 Ac;have a:(c::d::l).getD ((c::d::l).length-1) Qv=(d::l).getD ((d::l).length-1) Qv:=rfl;rw[a];have:=NH h.2.1;have:=h.1
  grind
theorem BU(ht:pw b.2.1<=1000000)(hb:yU b=K4):(0<=b.1/\b.1<=4611686018427387903)/\Rk (b.1-1) b.2.1/\ ∀c∈b.2.1,0<=c.1/\J3 c<=4611686018427387903:=by
 obtain⟨d,e,-⟩:=uc ht hb;unfold yU at hb;simp only[pC]at hb;rw[Zs]at hb;obtain⟨f,g⟩:=Eo hb.1 Aa λc a=>by have:=Fx a;omega
 grind
theorem Q1y(h:iw K b)(hK:K<=1000000)(hb:yU b=K4):∃v,yC b=K2 (v,())/\ ∀H:Int,v<=H↔b.1<=H/\ ∀c∈b.2.1,J3 c<=H:=by
 have j:=h.len;have k:=h.tot;obtain⟨l,e,f⟩:=BU Aa hb;unfold yC gG gH gM;by_cases a:b.2.1=[]
 ·simp_all
 ·have m:0<b.2.1.length:=Mc.2 a;have g:((b.2.1.length:Int)==0)=false:=by simp;exact a
  obtain⟨n,o⟩:=Z70 e a;have i:=Z5 (d:=Qv) (show b.2.1.length-1<b.2.1.length by omega);have p:=f _ i;simp only[g,pH];rw[kI _,hb,pA];simp only[pI,Ma,pH];rw[Zs,Zb,show((b.2.1.length:Int)-1).toNat=b.2.1.length-1 by omega,Zs Aa At];refine⟨_,rfl,λH=>?_⟩
  grind[J3]
theorem Qme(h:iw K b)(hK:K<=1000000)(hb:yU b=K4):0<=dK b/\b.1+dK b<=4611686018427387903/\(dK b=0\/ ∃c∈b.2.1,b.1+dK b=J3 c):=by obtain⟨a,d,e⟩:=BU (by have:=h.tot;omega) hb;constructor<;>grind[dK,J3]
structure Q1m(r:Z1):Prop where
 buf:yU r.2.1=K4
 hq:0<=r.2.2.2.1/\r.2.2.2.1<=4611686018427387903
 e0:r.2.1.1<=r.2.2.2.1
 ec:∀c∈r.2.1.2.1,J3 c<=r.2.2.2.1
 code:0<=r.2.2.2.2.1/\r.2.2.2.2.1<=4611686018427387903
 fin:r.2.2.1= -1\/(r.2.2.2.1<=r.2.2.1/\r.2.2.1<=4611686018427387903)
 st:(r.1=0/\r.2.2.1= -1/\r.2.2.2.2.1=0)\/(r.1=1/\r.2.2.1≠ -1/\r.2.1.1+dK r.2.1≠r.2.2.1/\r.2.2.2.2.1=0)\/(r.1=2/\r.2.2.1≠ -1/\r.2.1.1+dK r.2.1=r.2.2.1/\r.2.2.2.2.1=0)\/(r.1=3/\r.2.2.1≠ -1/\r.2.1.1+dK r.2.1=r.2.2.1/\r.2.1.2.1=[]/\r.2.2.2.2.1=0)\/((r.1=4\/r.1=5)/\r.2.2.1≠ -1/\r.2.2.2.1=r.2.2.1/\r.2.1.2.1=[])
def Hb(r:Z1):Bool:=bif r.1==(0:Int)then(r.2.2.1==(-1:Int))&&(r.2.2.2.2.1==(0:Int))else bif r.1==(1:Int)then((r.2.2.1 !=(-1:Int))&&(!((r.2.2.1 !=(-1:Int))&&((r.2.1.1+dK r.2.1)==r.2.2.1))))&&(r.2.2.2.2.1==(0:Int))else bif r.1==(2:Int)then((r.2.2.1 !=(-1:Int))&&((r.2.1.1+dK r.2.1)==r.2.2.1))&&(r.2.2.2.2.1==(0:Int))else bif r.1==(3:Int)then(((r.2.2.1 !=(-1:Int))&&((r.2.1.1+dK r.2.1)==r.2.2.1))&&((r.2.1.2.1.length:Int)==(0:Int)))&&(r.2.2.2.2.1==(0:Int))else cond ((r.1==(4:Int))||(r.1==(5:Int))) (((r.2.2.1 !=(-1:Int))&&(r.2.2.2.1==r.2.2.1))&&((r.2.1.2.1.length:Int)==(0:Int))) Lc
def Ti(r:Z1)(v:Int):Bool:=((kb r.2.2.2.1&& !K3 (v>r.2.2.2.1))&&kb r.2.2.2.2.1)&& !((((r.2.2.1 !=(-1:Int))&&(K3 (r.2.2.1<r.2.2.2.1)))||(K3 (r.2.2.1>(4611686018427387903:Int))))||(K3 (r.2.2.1<(-1:Int))))
theorem rcE(h:iw K r.2.1)(hK:K<=1000000)(hb:yU r.2.1=K4):∃v,(∀H:Int,v<=H↔r.2.1.1<=H/\ ∀c∈r.2.1.2.1,J3 c<=H)/\FT r=(Ti r v&&Hb r):=by
 obtain⟨v,k,hv⟩:=Q1y h hK hb;refine⟨v,hv,?_⟩;have l:=h.len;have e:=D9 h hK;unfold X4 gH K6 at e;rw[kI _,hb,pA,uB _]at e;obtain⟨m,n,-⟩:=Qme h hK hb;obtain⟨o,-,-⟩:=BU (by have:=h.tot;omega) hb;have i:Lb.wrap (r.2.1.1+dK r.2.1)=r.2.1.1+dK r.2.1:=Zs;simp only[Jl,pI,Ld,pH,pA]at e;have f:=e.symm;have g:∀{a b:Bool},K2 (a,())=K2 (b,())->a=b:=λh=>by simpa using h
 unfold Ti Hb;cases h1:kb r.2.2.2.1
 ·grind
 rw[h1,k]at f;simp only[pI,Ld,pH,pA]at f;cases h2:K3 (v>r.2.2.2.1)
 ·rw[h2]at f;simp only[Ld,pH,pA]at f;cases h3:kb r.2.2.2.2.1
  ·grind
  rw[h3]at f;simp only[pI,Ld]at f;cases h4:(((r.2.2.1 !=(-1:Int))&&(K3 (r.2.2.1<r.2.2.2.1)))||(K3 (r.2.2.1>(4611686018427387903:Int))))||(K3 (r.2.2.1<(-1:Int)))
  ·rw[h4]at f;simp only[pH,Ll,Lt,pJ]at f⊢;have j:∀{β:Type}(k:Int×Unit->Option β),(∀x y,r.2.2.1= -1->k x=k y)->Le (cond (r.2.2.1 !=(-1:Int)) (K2 (dK r.2.1,())) (K2 ((0:Int),()))) k=k (dK r.2.1,()):=λk hk=>by
    grind
   rw[j _ λx y d=>by rw[d];rfl]at f;simp only[i]at f
   grind
  grind
 grind
theorem Qya(h:iw K r.2.1)(hK:K<=1000000):FT r=K4↔Q1m r:=by
 cases hb:yU r.2.1
 ·have e:=D9 h hK;unfold X4 gH at e;rw[kI _ (by have:=h.len;omega),hb]at e;have f:FT r=false:=Af
  rw[f];exact⟨λh=>Mv h,λh=>by have:=h.buf;simp_all⟩
 ·obtain⟨v,hv,e⟩:=rcE h hK hb;rw[e,pC];have g:Ti r v=K4↔((0<=r.2.2.2.1/\r.2.2.2.1<=4611686018427387903)/\v<=r.2.2.2.1)/\(0<=r.2.2.2.2.1/\r.2.2.2.2.1<=4611686018427387903)/\(r.2.2.1= -1\/(r.2.2.2.1<=r.2.2.1/\r.2.2.1<=4611686018427387903)):=by
   simp[Ti,Jz]<;>omega
  have i:Hb r=K4↔((r.1=0/\r.2.2.1= -1/\r.2.2.2.2.1=0)\/(r.1=1/\r.2.2.1≠ -1/\r.2.1.1+dK r.2.1≠r.2.2.1/\r.2.2.2.2.1=0)\/(r.1=2/\r.2.2.1≠ -1/\r.2.1.1+dK r.2.1=r.2.2.1/\r.2.2.2.2.1=0)\/(r.1=3/\r.2.2.1≠ -1/\r.2.1.1+dK r.2.1=r.2.2.1/\r.2.1.2.1=[]/\r.2.2.2.2.1=0)\/((r.1=4\/r.1=5)/\r.2.2.1≠ -1/\r.2.2.2.1=r.2.2.1/\r.2.1.2.1=[])):=by
   have j:((r.2.1.2.1.length:Int)==0)=K4↔r.2.1.2.1=[]:=by
    simp_all
   unfold Hb;by_cases k:r.1=0
   ·simp_all
   rw[show(r.1==(0:Int))=Lc by simp[k],pH];by_cases l:r.1=1
   ·grind
   rw[show(r.1==(1:Int))=Lc by simp[l],pH];by_cases m:r.1=2
   ·grind
   rw[show(r.1==(2:Int))=Lc by simp[m],pH];by_cases n:r.1=3
   ·grind
   grind
  rw[g,i];constructor
  ·rintro⟨⟨⟨a,b⟩,c,d⟩,s⟩;have:=(hv _).1 b;exact⟨hb,a,this.1,this.2,c,d,s⟩
  ·intro R;exact⟨⟨⟨R.hq,(hv _).2 ⟨R.e0,R.ec⟩⟩,R.code,R.fin⟩,R.st⟩
theorem Zuf{α β:Type}{g:α->β}{s d:α}:∀{l:List α}{i:Nat},g s=g (l.getD i d)->(l.set i s).map g=l.map g
 |[],_,_=>rfl
 |x::l,0,h=>by
  simp_all
 |x::l,i+1,h=>by
  rw[Nz,L1,L1,Zuf (l:=l) (i:=i) h]
theorem NU{f:Zj->Int}{s:Zj}:∀{l:List Zj}{i:Nat},i<l.length->BR f (l.set i s)=BR f l+f s-f (l.getD i Zc)
 |[],_,h=>absurd h Ac
 |x::l,0,_=>by
  simp_all[BR]<;>omega
 |x::l,i+1,h=>by
  rw[Nz];simp only[BR];rw[NU (l:=l) (i:=i) (by simp at h;omega),show(x::l).getD (i+1) Zc=l.getD i Zc from rfl];omega
theorem cfF{c:cP}(h:Cq c=K4):eF c.1=K2 (K4,())/\(1<=c.2.1/\c.2.1<=c.2.2.1)/\c.2.2.1<=4096:=by have e:=RJ c;rw[h]at e;unfold aL at e;obtain⟨p,a⟩:=Qev c.1;simp_all[Uk,bA,dU]
theorem Q0t{m:Int}(h:eF n=K2 (K4,()))(h0:0<=m)(h1:m<=4611686018427387903):VN (n,m,m,L9 n.toNat (0:Int),())=K4/\0<n/\n<=64:=by
 obtain⟨⟨b,u⟩,f,a⟩:=Q0o n;have c:=a Af;refine⟨?_,c⟩;have g:(L9 n.toNat (0:Int)).length=n.toNat:=List.length_replicate;have e:=(Gm (n,m,m,L9 n.toNat (0:Int),()) Ai).1;have:dv (n,m,m,L9 n.toNat (0:Int),())=K2 (K4,()):=by
  unfold dv;rw[h,pA];have d:((((((!K4)||(((L9 n.toNat (0:Int)).length:Int) !=n))||(K3 (m<(0:Int))))||(K3 (m<m)))||(K3 ((Lb.wrap (m-m))>n)))||(K3 (m>(4611686018427387903:Int))))=false:=by
   simp_all[Zs]<;>omega
  simp only;rw[d,pH]
  grind[Cc,bt,s0]
 simp_all
theorem Qrg(v:Bool)(hq:kb id=K4):∃s1 s2,Wf v id=K2 (s1,())/\Y9 v id=K2 (s2,())/\(s1=K4\/s2=K4):=by
 unfold Wf Y9;simp only[Jl,hq,pA,pG,JM,qC];cases SN id<;>cases MN v id
 all_goals simp_all
theorem Q0e(v:Bool){o p:cP}(ho:Cq o=K4)(hp:Cq p=K4)(hq:kb id=K4):Bo (TU v id o p)/\(TU v id o p).1=id/\HR (TU v id o p)=0/\qB (TU v id o p)=0:=by
 obtain⟨i,t,u⟩:=cfF ho;obtain⟨w,x,y⟩:=cfF hp;obtain⟨j,z⟩:=Q0t i (Lh 0) Ah;obtain⟨b,e,k⟩:=gY v id o p;have f:=Jz.1 hq;have a:mP o.1=K2 (((0:Int),(o.1,(0:Int),(0:Int),L9 o.1.toNat (0:Int),()),([]:List Zi),([]:List Zi),([]:List Zi),(-1:Int),VA),K4,()):=by
  unfold mP E6;rw[i,pA];simp only[pI,pH]
  grind[Zb,Qd]
 have c:bZ p.2.1=K2 ((p.2.1,(0:Int),(-1:Int),(-1:Int),()),K4,()):=by
  grind[bZ,Jl,Jz]
 have d:cd o.2.1 o.2.2.1=K2 ((o.2.1,o.2.2.1,o.2.1,VA),K4,()):=by
  grind[cd,Uk,dU]
 obtain⟨l,m,n,q,r⟩:=Qrg v hq;have g:=e;unfold ca gH dl zq at g;simp only[Jl,hq,RJ,ho,hp,pA,pI,pH,Ma,a,c,d,n,q,pB,pF]at g;have s:TU v id o p=(id,((0:Int),(o.1,(0:Int),(0:Int),L9 o.1.toNat (0:Int),()),([]:List Zi),([]:List Zi),([]:List Zi),(-1:Int),VA),(p.2.1,(0:Int),(-1:Int),(-1:Int),()),((0:Int),((0:Int),([]:List Qj),()),(-1:Int),(0:Int),(0:Int),()),(o.2.1,o.2.2.1,o.2.1,VA),((3:Int),Lc,()),l,m,Lc,Lc,Lc,Lc,(0:Int),Lc,()):=g.1.symm;rw[s]at k⊢;refine⟨⟨f,?_,⟨Ag,Lh _,Ag,Ag,Ag,Ag,Ag⟩,?_,⟨Ag,Ag,Ag,?_,?_,?_,?_⟩,⟨Ag,Ag⟩,⟨Ag,Ag⟩,r,Lh _,Lh _,λh=>(by cases h),λh=>(by cases h),λh=>absurd rfl h,.inr ⟨rfl,rfl,rfl⟩,.inr ⟨rfl,rfl,rfl⟩⟩,rfl,rfl,rfl⟩
 ·exact {ring:=j,pr:=rfl,fr:=rfl,ar:=rfl,sent:=⟨Lh _,Lh _⟩,code:=⟨Lh _,by simp_all[VA]⟩,fin:=⟨Lh _,by simp_all[VA]⟩,rst:=λh=>by simp at h,no:=λ_=>{whole:=rfl,gap:=rfl,code:=rfl,fl:=rfl,ac:=rfl,fin:=rfl,st:=rfl}}
 ·rfl
 all_goals grind[VA]
theorem Qd0{s:Zj}:∀{l:List Zj},(l.Pairwise λa b=>a.1<b.1)->(∀x∈l,x.1≠s.1)->(Oj s l).Pairwise λa b=>a.1<b.1
 |[],_,_=>by simp[Oj]
 |x::r,h,c=>by
  have hx:=c x L5;obtain⟨f,e⟩:=Mt.1 h;unfold Oj;by_cases d:x.1>s.1
  ·rw[if_pos d];constructor<;>grind
  ·rw[if_neg d];refine Mt.2 ⟨λy hy=>?_,Qd0 e λy hy=>c y (L8 _ hy)⟩;rcases Fy.1 hy with rfl|hy
   all_goals grind
theorem Cx{f:Zj->Int}{s:Zj}:∀{l:List Zj},BR f (Oj s l)=BR f l+f s
 |[]=>by simp_all[Oj,BR]
 |x::r=>by
  unfold Oj;by_cases a:x.1>s.1
  ·rw[if_pos a];grind[BR]
  ·rw[if_neg a];simp only[BR];rw[Cx];omega
structure LF(K:Nat)(S H:Int)(l:List Zj):Prop where
 inv:nh K l
 all:∀s∈l,Bo s
 srt:l.Pairwise λa b=>a.1<b.1
 snt:BR HR l<=S
 hgh:BR qB l<=H
theorem Bo.nn(F:Bo s)(h:Xz K s)(hK:K<=1000000):(0<=HR s/\HR s<=4611686018427387903)/\0<=qB s/\qB s<=4611686018427387903:=by
 have a:=F.snd.sent;have b:=h.snd.eK;have c:=((Qya h.rcv hK).1 F.rcv).hq
 grind[HR,qB]
theorem LF.nn{K:Nat}{S H:Int}{l:List Zj}(L:LF K S H l)(hK:K<=1000000):∀s∈l,(0<=HR s/\HR s<=4611686018427387903)/\0<=qB s/\qB s<=4611686018427387903:=λs a=>(L.all s a).nn (L.inv.all s a) hK
theorem LF.put0{S H:Int}(L:LF K S H l)(hK:K<=1000000)(F:Bo s)(h:Xz K s)(h1:HR s=0)(h2:qB s=0)(hl:l.length+1<=K):LF K S H (ZH l s):=by
 have c:=L.nn hK;have a:l.length<=1000000:=Aa
 refine⟨LW L.inv h hl,λx hx=>?_,?_,?_,?_⟩
 ·rcases Qex hx with e|e
  ·rw[e];exact F
  ·exact L.all x e
 ·unfold ZH;split
  ·rename_i b;have e:=Zuf (g:=λs:Zj=>s.1) (s:=s) (l:=l) (i:=(Qk l s.1).toNat) (d:=Zc) ((uT a s.1).2.2 b).symm;exact Ny.1 (by rw[e];exact Ny.2 L.srt)
  ·rename_i b;exact Qd0 L.srt ((uT a s.1).2.1 Aa)
 ·unfold ZH;split
  ·rename_i b;have hx:=(uT a s.1).1;rw[NU Aa,h1];have:=(c _ (Z5 (d:=Zc) (show(Qk l s.1).toNat<l.length by omega))).1.1;have:=L.snt;omega
  ·rw[Cx,h1];have:=L.snt;omega
 ·unfold ZH;split
  ·rename_i b;have hx:=(uT a s.1).1;rw[NU Aa,h2];have:=(c _ (Z5 (d:=Zc) (show(Qk l s.1).toNat<l.length by omega))).2.1;have:=L.hgh;omega
  ·rw[Cx,h2];have:=L.hgh;omega
theorem Qpe{K:Nat}{S H:Int}(h25:25<=K)(hK:K<=1000000)(v:Bool){o p:cP}(ho:Cq o=K4)(hp:Cq p=K4){id:Int}(hq:kb id=K4):∀(m:Nat){l:List Zj},LF K S H l->l.length+m<=24->4*(m:Int)<=id+4->LF K S H (yv v o p id m l)
 |0,_,L,_,_=>L
 |m+1,l,L,g,h=>by
  have a:=Jz.1 hq;have c:Lb.wrap (id-Lb.wrap (4*(m:Int)))=id-4*(m:Int):=Al
  obtain⟨F,i,d,e⟩:=Q0e v ho hp (id:=id-4*(m:Int)) (Jz.2 Aa);obtain⟨b,-,f⟩:=gY v (id-4*(m:Int)) o p;have:=s5 l (TU v (id-4*(m:Int)) o p);unfold yv;rw[c];exact Qpe h25 hK v ho hp hq m (L.put0 hK F (f.mono (Lq K)) d e Aa) Aa Aa
theorem Qpf(v:Bool){o p:cP}(ho:Cq o=K4)(hp:Cq p=K4){id:Int}(hq:kb id=K4):∀(m:Nat){l:List Zj},l.length+m<24-> ∃s∈yv v o p id (m+1) l,s.1=id
 |0,l,a=>by
  grind[Jz,Zs,Q0e,yv,Qs8]
 |m+1,l,a=>by
  have:=s5 l (TU v (Lb.wrap (id-Lb.wrap (4*((m+1:Nat):Int)))) o p);unfold yv;exact Qpf v ho hp hq m Aa
theorem ew.LF{K:Nat}{c:Zf}(hc:ew c)(h:Qa K c)(hK:K<=1000000):LF K c.2.2.2.2.1.2.1 c.2.2.2.2.2.1.2.2.2.1 c.2.2.2.1:=by
 have b:∀s∈c.2.2.2.1,Bo s:=λs a=>hc.st h hK a;have d:∀s∈c.2.2.2.1,(0<=HR s/\HR s<=4611686018427387903)/\0<=qB s/\qB s<=4611686018427387903:=λs a=>(b s a).nn (h.str.all s a) hK;have t:=hc.tail;unfold Rw at t;simp only[pC,decide_eq_true_eq]at t;have e:=(zB (f:=HR) (n:=0) (λs a=>(d s a).1) (Lh _) Ah).1;have g:=(zB (f:=qB) (n:=0) (λs a=>(d s a).2) (Lh _) Ah).1;have u:=O5.1 hc.tot;have u1:=u.lim;have u2:=u.use
 have w:=Dj.1 hc.inf;have k:=w.lim;have l:=w.seen
 have i:=t.1.2;have j:=t.2
 rw[e]at i;rw[g]at j;exact⟨h.str,b,(NZ.1 hc.sts).srt,Aa,Aa⟩
theorem Qu9{c':Zf}(hc:ew c)(hK:K<=1000000)(e1:c'.2.1=c.2.1)(e2:c'.2.2.1=c.2.2.1)(L:LF K c'.2.2.2.2.1.2.1 c'.2.2.2.2.2.1.2.2.2.1 c'.2.2.2.1)(hl:c'.2.2.2.1.length<=24)
  (ht:MZ c'.2.2.2.2.1) (hi:vY c'.2.2.2.2.2.1) (hob:I2 c'.2.2.2.2.2.2.1=K4) (hou:I2 c'.2.2.2.2.2.2.2.1=K4) (hab:MH c'.2.2.2.2.2.2.2.2.1) (hau:MH c'.2.2.2.2.2.2.2.2.2.1)
  (et:c'.2.2.2.2.2.2.2.2.2.2.2.2.2=c.2.2.2.2.2.2.2.2.2.2.2.2.2):ew c':=by
 have t:=hc.tail;unfold Rw at t;simp only[pC,decide_eq_true_eq]at t;have b:=L.nn hK;have d:=(zB (f:=HR) (n:=0) (λs a=>(b s a).1) (Lh _) Ah).1;have e:=(zB (f:=qB) (n:=0) (λs a=>(b s a).2) (Lh _) Ah).1;refine⟨by rw[e1];exact hc.own,by rw[e2];exact hc.peer,NZ.2 ⟨λs a=>(Q09 (L.inv.all s a) hK).2 (L.all s a),L.srt,hl⟩,O5.2 ht,Dj.2 hi,hob,hou,dW.2 hab,dW.2 hau,by rw[et];exact hc.pks,?_⟩;unfold Rw;rw[et,d,e];simp only[pC,decide_eq_true_eq];have:=L.snt;have:=L.hgh
 grind
theorem RE(h:Qa K c)(hc:ci c=K4)(h25:25<=K)(hK:K<=400000)(hq:kb id=K4):Qa K (kU c id).2:=by
 obtain⟨y,e,a⟩:=Y' h h25 hK id
 grind[Pd]
theorem nv(h:Qa K c)(hc:ci c=K4)(h25:25<=K)(hK:K<=400000)(hq:kb id=K4)(h0:(kU c id).1=0):ew (kU c id).2/\0<=Qk (kU c id).2.2.2.2.1 id/\(kU c id).2.1=c.1:=by
 have a:=(BK h).1 hc;have v:=h.str.len;unfold kU at h0⊢;by_cases k:0<=Qk c.2.2.2.1 id
 ·simp_all
 rw[Zo (Zm k)]at h0⊢;cases ho:MN c.1 id
 ·rw[ho,pH]at h0;rw[pH];cases hg:B9 c id
  ·simp_all
  rw[pG];have x:=Rt hg;have m:=Jz.1 hq;have g:N4 id=id/4:=by simp_all[N4]
  have n:A4 (bj c id) (N4 id)=true:=by
   simp_all[B9]
  have b:=n;unfold A4 at b;simp only[pC,decide_eq_true_eq]at b;have d:=dW.1 b.1;have y:Rr (bj c id) (N4 id)=N4 id+1- (bj c id).2.2.1:=by grind[Rr]
  have i:MH (Ot (bj c id) (N4 id)):=by
   have o:=d.most;have p:=d.lim;have z:=d.seen;have A:=d.clo;have q:=d.lc
   unfold Ot;exact⟨o,p,Ag,Ag,q⟩
  have L:=Qpe h25 Aa c.1 a.own a.peer hq (Rr (bj c id) (N4 id)).toNat (a.LF h Aa) Aa (by have:=d.seen;omega)
  have j:=Qjy c.1 c.2.1 c.2.2.1 id (Rr (bj c id) (N4 id)).toNat c.2.2.2.1;obtain⟨s,e,f⟩:=Qpf c.1 a.own a.peer hq ((Rr (bj c id) (N4 id)).toNat-1) (l:=c.2.2.2.1) Aa;rw[show(Rr (bj c id) (N4 id)).toNat-1+1=(Rr (bj c id) (N4 id)).toNat by omega]at e;have hx:(Cg c id).2.2.2.1=yv c.1 c.2.1 c.2.2.1 id (Rr (bj c id) (N4 id)).toNat c.2.2.2.1:=rfl;refine⟨?_,by rw[hx];exact Qsh Aa ⟨s,e,f⟩,by unfold Cg Fn;cases SN id<;>rfl⟩;have u:=O5.1 a.tot;have w:=Dj.1 a.inf;have r:=dW.1 a.ab;have t:=dW.1 a.au;unfold Cg Fn;cases SN id
  ·exact Qu9 a Aa rfl rfl L Ag u w a.ob a.ou i t rfl
  ·exact Qu9 a Aa rfl rfl L Ag u w a.ob a.ou r i rfl
 simp_all
theorem Qdo{l l':List Zj}(n:Int)(hl:l.length=l'.length)(h:∀j,(l.getD j Zc).1=(l'.getD j Zc).1):∀(N:Nat)(i:Int),Kg N l n i=Kg N l' n i
 |0,_=>rfl
 |N+1,i=>by
  unfold Kg;rw[hl,h,Qdo n hl h N]
theorem gc(n:Int)(h:s.1=(l.getD i Zc).1):Qk (l.set i s) n=Qk l n:=by
 have e:Kf (l.set i s) n=Kf l n:=by
  unfold Kf Jc;rw[Nw];refine Qdo n (Nw) (λj=>?_) _ _;by_cases a:j=i
  ·subst a;by_cases b:j<l.length
   all_goals simp_all
  grind
 simp_all[Qk]
theorem KA(h:i<l.length):(l.set i s).getD i Zc=s:=by simp_all
abbrev vO(x:Zf)(id:Int):Zj:=x.2.2.2.1.getD (Qk x.2.2.2.1 id).toNat Zc
abbrev zU(x:Zf)(id:Int)(s:Zj):Zf:=CZ x (x.2.2.2.1.set (Qk x.2.2.2.1 id).toNat s)
abbrev DK(x:Zf)(w:Qr):Zf:=(x.1,x.2.1,x.2.2.1,x.2.2.2.1,x.2.2.2.2.1,w,x.2.2.2.2.2.2)
abbrev vE(s:Zj):Zj:=(s.1,s.2.1,s.2.2.1,s.2.2.2.1,s.2.2.2.2.1,s.2.2.2.2.2.1,s.2.2.2.2.2.2.1,s.2.2.2.2.2.2.2.1,s.2.2.2.2.2.2.2.2.1,s.2.2.2.2.2.2.2.2.2.1,s.2.2.2.2.2.2.2.2.2.2.1,s.2.2.2.2.2.2.2.2.2.2.2.1,s.2.2.2.2.2.2.2.2.2.2.2.2.1,K4,s.2.2.2.2.2.2.2.2.2.2.2.2.2.2)
abbrev DY(s:Zj):Bool:=s.2.2.2.2.2.2.2.2.2.2.2.2.2.1
def f4(s:Zj):Bool:=PC (yE s)
theorem Qvd(h:Xz K s)(hK:K<=1000000):yE s=K2 (f4 s,()):=AL (Qos h hK)
theorem Qvc(h:Xz K s)(hK:K<=1000000:=by omega):Vv s=K2 (f4 s,()):=by
 rw[<-Qvd h hK];unfold Vv yE;rw[CV h hK];have e:ZY s=vo s:=by
  unfold ZY gH vo gH CN vn;rw[YB h.rcv hK]
 simp_all[Rl,QP]
def O8(v:Bool)(s:Zj):Bool:= !(DY s||MN v s.1)&&f4 s
def fin(x:Zf)(id:Int):Zf:=cond (O8 x.1 (vO x id)) (Fn (zU x id (vE (vO x id))) id (Ct (bj x id))) x
theorem Qr6(x:Zf)(id:Int):(fin x id).2.2.2.1=(cond (O8 x.1 (vO x id)) (x.2.2.2.1.set (Qk x.2.2.2.1 id).toNat (vE (vO x id))) x.2.2.2.1):=by
 unfold fin Fn;cases O8 x.1 (vO x id)
 ·rfl
 ·cases SN id<;>rfl
theorem yg(h:Qa K x)(hs:Xz K s)(hK:K<=500000)(hid:s.1=id)(hi:0<=Qk x.2.2.2.1 id):cz x s=K2 ((),fin (zU x id s) id,()):=by
 subst hid;have r:=h.str.len;obtain⟨t,-,i⟩:=uT (l:=x.2.2.2.1) Aa s.1;have j:s.1=(x.2.2.2.1.getD (Qk x.2.2.2.1 s.1).toNat Zc).1:=by rw[i hi]
 have c:Qk (x.2.2.2.1.set (Qk x.2.2.2.1 s.1).toNat s) s.1=Qk x.2.2.2.1 s.1:=gc s.1 j;have d:vO (zU x s.1 s) s.1=s:=by
  show(x.2.2.2.1.set (Qk x.2.2.2.1 s.1).toNat s).getD (Qk (x.2.2.2.1.set (Qk x.2.2.2.1 s.1).toNat s) s.1).toNat Zc=s;rw[c];exact KA Aa
 have k:Xz K (vE s):=⟨hs.snd,hs.rcv⟩
 have m:Xn x.2.2.2.1 s=K2 (x.2.2.2.1.set (Qk x.2.2.2.1 s.1).toNat s,()):=by
  rw[Z7j h.str hs hK];unfold ZH;rw[if_pos hi]
 have f:Xn x.2.2.2.1 (vE s)=K2 (x.2.2.2.1.set (Qk x.2.2.2.1 s.1).toNat (vE s),()):=by
  rw[Z7j h.str k hK];unfold ZH;rw[if_pos hi]
 have g:∀a,∃b,iG a=K2 (Ct a,b,()):=λa=>by
  obtain⟨⟨y,b,u⟩,e,v⟩:=BV a;exact⟨b,Ai⟩
 unfold cz tD JX gH tA tB tC fin;rw[d,qC,Qvd hs Aa];simp only[bO,Ur];have e:((DY s||(!DY s&&MN x.1 s.1))|| !f4 s)= !O8 x.1 s:=by
  unfold O8;cases DY s<;>cases MN x.1 s.1<;>cases f4 s<;>rfl
 rw[e];have n:(zU x s.1 s).1=x.1:=rfl;rw[n];cases O8 x.1 s
 ·rw[Ll,pG,pH,pA,m];rfl
 ·rw[pI,pH,pG,JM,pA];obtain⟨w,o⟩:=g x.2.2.2.2.2.2.2.2.2.1;obtain⟨z,p⟩:=g x.2.2.2.2.2.2.2.2.1;rw[o,p];have q:zU (zU x s.1 s) s.1 (vE s)=CZ x (x.2.2.2.1.set (Qk x.2.2.2.1 s.1).toNat (vE s)):=by
   show CZ x ((x.2.2.2.1.set (Qk x.2.2.2.1 s.1).toNat s).set (Qk (x.2.2.2.1.set (Qk x.2.2.2.1 s.1).toNat s) s.1).toNat (vE s))=_;rw[c,List.set_set]
  rw[q];unfold Fn bj;cases SN s.1
  ·simp only[pH,pA];rw[show(s.1,s.2.1,s.2.2.1,s.2.2.2.1,s.2.2.2.2.1,s.2.2.2.2.2.1,s.2.2.2.2.2.2.1,s.2.2.2.2.2.2.2.1,s.2.2.2.2.2.2.2.2.1,s.2.2.2.2.2.2.2.2.2.1,s.2.2.2.2.2.2.2.2.2.2.1,s.2.2.2.2.2.2.2.2.2.2.2.1,s.2.2.2.2.2.2.2.2.2.2.2.2.1,K4,s.2.2.2.2.2.2.2.2.2.2.2.2.2.2)=vE s from rfl,f];rfl
  ·simp only[pG,pA];rw[show(s.1,s.2.1,s.2.2.1,s.2.2.2.1,s.2.2.2.2.1,s.2.2.2.2.2.1,s.2.2.2.2.2.2.1,s.2.2.2.2.2.2.2.1,s.2.2.2.2.2.2.2.2.1,s.2.2.2.2.2.2.2.2.2.1,s.2.2.2.2.2.2.2.2.2.2.1,s.2.2.2.2.2.2.2.2.2.2.2.1,s.2.2.2.2.2.2.2.2.2.2.2.2.1,K4,s.2.2.2.2.2.2.2.2.2.2.2.2.2.2)=vE s from rfl,f];rfl
def Gb(x:Zf)(id:Int):Oc Zf Int:=Le (Z8 x.2.2.2.1 id) λt14=>Zd (0<=t14.1/\t14.1<x.2.2.2.1.length)<|Le (V0 x.1 id) λt13=>Le (cond (t13.1||DY (x.2.2.2.1.getD t14.1.toNat Zc)) (K2 (Lc,())) (Vv (x.2.2.2.1.getD t14.1.toNat Zc))) λt24=>cond ((t13.1||DY (x.2.2.2.1.getD t14.1.toNat Zc))||(!t24.1)) (K2 (x,(0:Int),())) (Le (Z7 (CZ x (x.2.2.2.1.set t14.1.toNat (vE (x.2.2.2.1.getD t14.1.toNat Zc)))) id) λt33=>cond t33.1 (Le (Z7 t33.2.1 id) λt36=>cond t36.1 (Le (Z3 t36.2.1.2.2.2.2.2.2.2.2.2.1) λt39=>K2 ((t36.2.1.1,t36.2.1.2.1,t36.2.1.2.2.1,t36.2.1.2.2.2.1,t36.2.1.2.2.2.2.1,t36.2.1.2.2.2.2.2.1,t36.2.1.2.2.2.2.2.2.1,t36.2.1.2.2.2.2.2.2.2.1,t36.2.1.2.2.2.2.2.2.2.2.1,t39.1,t36.2.1.2.2.2.2.2.2.2.2.2.2),(0:Int),())) (Le (Z3 t36.2.1.2.2.2.2.2.2.2.2.1) λt39=>K2 ((t36.2.1.1,t36.2.1.2.1,t36.2.1.2.2.1,t36.2.1.2.2.2.1,t36.2.1.2.2.2.2.1,t36.2.1.2.2.2.2.2.1,t36.2.1.2.2.2.2.2.2.1,t36.2.1.2.2.2.2.2.2.2.1,t36.2.1.2.2.2.2.2.2.2.2.1,t39.1,t36.2.1.2.2.2.2.2.2.2.2.2.2),(0:Int),()))) (Le (Z7 t33.2.1 id) λt36=>cond t36.1 (Le (Z3 t36.2.1.2.2.2.2.2.2.2.2.2.1) λt39=>K2 ((t36.2.1.1,t36.2.1.2.1,t36.2.1.2.2.1,t36.2.1.2.2.2.1,t36.2.1.2.2.2.2.1,t36.2.1.2.2.2.2.2.1,t36.2.1.2.2.2.2.2.2.1,t36.2.1.2.2.2.2.2.2.2.1,t39.1,t36.2.1.2.2.2.2.2.2.2.2.2),(0:Int),())) (Le (Z3 t36.2.1.2.2.2.2.2.2.2.2.1) λt39=>K2 ((t36.2.1.1,t36.2.1.2.1,t36.2.1.2.2.1,t36.2.1.2.2.2.1,t36.2.1.2.2.2.2.1,t36.2.1.2.2.2.2.2.1,t36.2.1.2.2.2.2.2.2.1,t36.2.1.2.2.2.2.2.2.2.1,t39.1,t36.2.1.2.2.2.2.2.2.2.2.2),(0:Int),()))))
theorem Ok(h:nh K x.2.2.2.1)(hK:K<=500000)(hi:0<=Qk x.2.2.2.1 id):Gb x id=K2 (fin x id,(0:Int),()):=by
 have j:=h.len;obtain⟨k,-,f⟩:=uT (l:=x.2.2.2.1) Aa id;have g:=h.all _ (Z5 (d:=Zc) (show(Qk x.2.2.2.1 id).toNat<x.2.2.2.1.length by omega));have i:∀x n,Z7 x n=K2 (SN n,x,()):=λx n=>by
  unfold Z7;rw[DW,JM,pA];cases SN n<;>rfl
 have c:∀a,∃b,Z3 a=K2 (Ct a,b,()):=λa=>by
  obtain⟨⟨y,b,u⟩,e,m⟩:=BV a
  grind[Qnp]
 unfold Gb fin;rw[xX Aa,VB Aa,pA];simp only;rw[Zb,Dh,qC,pA,Qvc g];simp only[bO,Ur];have e:((MN x.1 id||DY (vO x id))|| !f4 (vO x id))= !O8 x.1 (vO x id):=by
  unfold O8;rw[f hi];cases DY (vO x id)<;>cases MN x.1 id<;>cases f4 (vO x id)<;>rfl
 rw[e];cases O8 x.1 (vO x id)
 ·rfl
 ·rw[pI,pH,pG,i,pA];obtain⟨o,p⟩:=c x.2.2.2.2.2.2.2.2.2.1;obtain⟨q,r⟩:=c x.2.2.2.2.2.2.2.2.1;unfold Fn bj;cases hu:SN id
  ·grind
  grind
end
end Go.Proofs.YtcnklikmapfnmaaGreatDoor

/- No condition. -/
import Derived.Test.YtahnlnkboamdmaaGreatDoorM2
set_option linter.all false
namespace Go.Proofs.YtahnlnkboamdmaaGreatDoor
noncomputable section
open Go.Am
set_option maxRecDepth 100000
open Option renaming some→K2,bind→Lf
open Decidable renaming decide→K3
open Bool renaming true→K4,false→Lc,false_or→Ld,eq_iff_iff→Lg,or_eq_false_iff→Lh,not_false→Lj,and_self→Lr,not_eq_false'→Ls,and_true→L2,or_self→L3,true_or→L4
open Go renaming IntKind→La
open IntKind renaming i64→Lb,bits→Ma,wrap→Mb
open List renaming length_cons→Le,drop_eq_nil_of_le→Li,drop_zero→Lp,mem_cons→Lq,length_append→Lu,length_eq_zero_iff→Lx,getD_cons_zero→Lz,length_nil→L0,all_cons→Mc,append_nil→Md,length_map→Me,length_pos_iff→Mf,map_cons→Mg,mem_append→Mh,mem_map_of_mem→Mi
open Nat renaming le_trans→Lk,le_refl→Lv,zero_add→Mj,zero_le→Mk
open UInt8 renaming ofNat→Ll,toNat_inj→Ml
open Int renaming eq_ofNat_of_zero_le→Lm,le_refl→Ln,natCast_zero→Lo,tmod→Lw,tmod_lt_of_pos→L8,tmod_nonneg→L9
open Go.Lib renaming index→Lt,decDigits→L5,itoa→L6,splitK→L7
open Eq renaming trans→Ly
open BitVec renaming ofInt→L1
variable{lo E n:Int}{l a:List Zi}{i K K':Nat}{α β:Type}{c x:Ze}{f:Zj}{s:Zk}{r:Zu}{b:Zv}{d:α}
abbrev Ky:Type:=Qu
theorem Qlp(pre:List α)(x:α)(rest:List α):pre++x::rest=pre++[x]++rest:=Ae
theorem ib(pre:List α)(x:α)(rest:List α)(d:α):(pre++x::rest).getD ((pre.length:Int).toNat) d=x:=by
 simp_all
def Ztf(k:Nat):Int:=((([48,49,50,51,52,53,54,55,56,57,97,98,99,100,101,102]:Ba).getD k 0).toNat:Int)
def hx(b:UInt8):List Int:=[Ztf (b.toNat/16),Ztf (b.toNat%16)]
theorem Qy{l:List α}(h:i<l.length):l.drop i=l.getD i d::l.drop (i+1):=by
 simp_all
theorem Zky(n:Int)(h0:0<=n:=by omega)(h1:n<256:=by omega):La.u8.wrap n=n:=by
 simp_all[Int.emod_eq_of_lt,Mb,Ma,La.signed]
def Z5k(u:Nat):Ba:=ite (u=0) [] (L5 u)
theorem Qfo{u:Nat}(h:u≠0):Z5k u=Z5k (u/10)++[Ll (48+u%10)]:=by
 unfold Z5k;rw[if_neg h,L5]
 grind
theorem Z8w(n:Int)(h0: -9223372036854775808<=n:=by omega)(h1:n<=9223372036854775807:=by omega):(L6 n).length<=21:=Go.Lib.itoa_length_le n h0 h1
def Z2q(l:Ba):Ba:=Xx (l.flatMap hx)
theorem Zz1(l:Ba):(Z2q l).length=2*l.length:=by
 unfold Z2q Xx;rw[Me]
 induction l with
 |nil=>rfl
 |cons c l a=>grind[hx]
def ux(c:UInt8):Ba->List Ba
 |[]=>[[]]
 |b::l=>if b=c then[]::ux c l else match ux c l with
  |[]=>[[b]]
  |w::ws=>(b::w)::ws
theorem Z4r(c:UInt8):∀l,ux c l≠[]
 |[]=>by simp[ux]
 |b::l=>by
  grind[ux]
theorem Z4q(c:UInt8):∀(a r:Ba),c∉a->ux c (a++c::r)=a::ux c r
 |[],r,_=>by simp[ux]
 |b::a,r,h=>by
  have f:b≠c:=λe=>h (by simp[e]);have g:=Z4q c a r (λd=>h (by simp[d]));simp_all[ux]
theorem Z11(c:UInt8):∀(a:Ba),c∉a->ux c a=[a]
 |[],_=>by simp[ux]
 |b::a,h=>by
  have f:b≠c:=λe=>h (by simp[e]);have g:=Z11 c a (λd=>h (by simp[d]));simp_all[ux]
theorem Qh1(c:UInt8):∀l:Ba,c∉l\/ ∃a r,l=a++c::r/\c∉a
 |[]=>.inl Ae
 |b::l=>by
  by_cases h:b=c
  ·exact .inr ⟨[],l,by simp[h],Ae⟩
  ·rcases Qh1 c l with d|⟨a,r,e,d⟩
   all_goals grind
theorem Zz4(c:UInt8):∀l:Ba,c∉l->Lt l [c]= -1
 |[],_=>rfl
 |b::l,h=>by
  have d:¬c=b:=λe=>h (by simp[e]);have f:=Zz4 c l (λa=>h (by simp[a]));simp_all[Lt]
theorem Zz5(c:UInt8):∀(a r:Ba),c∉a->Lt (a++c::r) [c]=a.length
 |[],r,_=>by simp[Lt,List.isPrefixOf]
 |b::a,r,h=>by
  have f:¬c=b:=λe=>h (by simp[e]);have g:=Zz5 c a r (λd=>h (by simp[d]));simp_all[Lt]
theorem Qku(c:UInt8):∀(n:Nat)(l:Ba),l.length<=n->L7 [c] 0 (Go.Lib.count l [c]) l=ux c l:=by
 intro n
 induction n with
 |zero=>
  intro l h;have:l=[]:=List.eq_nil_of_length_eq_zero Aa;subst this;rfl
 |succ n e=>
  intro l h;rcases Qh1 c l with b|⟨a,r,rfl,b⟩
  ·rw[Go.Lib.count_miss (Zz4 c l b),Z11 c l b];rfl
  ·have d:=Zz5 c a r b;rw[Go.Lib.count_hit (i:=a.length) Ae d,Z4q c a r b,Nat.add_comm,L7,d];simp only[Lu,Le]at h;have f:(a++c::r).drop ((a.length:Int).toNat+[c].length)=r:=Ae
   have g:(a++c::r).drop (a.length+[c].length)=r:=Ae
   have j:(a++c::r).take ((a.length:Int).toNat+0)=a:=Ae
   grind
def Zk1(p:Ba):List Ba->List Ba|[]=>[p]|w::ws=>(p++w)::ws
theorem Zvm{l:List Ba}(h:l≠[]):Zk1 [] l=l:=by cases l<;>simp_all[Zk1]
theorem Zzf(c:UInt8):∀(N:Nat)(pre rest:Ba)(out:List Ba)(part:Ba),(pre++rest).length<=1048576->rest.length<N->out.length<=pre.length->part.length<=pre.length->
  dQ N (pre++rest) (c.toNat:Int) out part pre.length=K2 (out++Zk1 part (ux c rest),())
 |0,_,_,_,_,_,h,_,_=>Aa
 |N+1,pre,[],out,part,a,g,j,k=>by
  unfold dQ;simp only[Lu,L0]at a;rw[Zp Ae,Zb Aj];simp[ux,Zk1]
 |N+1,pre,b::rest,out,part,a,g,j,k=>by
  unfold dQ;simp only[Lu,Le]at a g;rw[Zn Af,Zb Af];simp only[ib];have e:=Qlp pre b rest;by_cases i:b=c
  ·subst i;rw[Zn Ae,Zb Aj];unfold lY;rw[Zs (m:=(pre++b::rest).length) Ae Af];have:=Zzf b N (pre++[b]) rest (out++[part]) [] Af Aa Af Ae;rw[<-e]at this;simp only[Lu,Le,L0,Mj]at this⊢
   grind[Zvm,Z4r,ux,Zk1]
  ·have d:((b.toNat:Int)==(c.toNat:Int))=false:=by
    grind[Ml]
   rw[Zp d,Zs (m:=(pre++b::rest).length) Ae Af,Zb Af];have f:((pre++b::rest).drop (pre.length:Int).toNat).take (((pre.length+1:Nat):Int).toNat- (pre.length:Int).toNat)=[b]:=by
    simp_all
   simp only[f];rw[Zb Al];unfold lY;rw[Zs (m:=(pre++b::rest).length) Ae Af];have:=Zzf c N (pre++[b]) rest out (part++[b]) Af Aa Af Af;rw[<-e]at this;simp only[Lu,Le,L0,Mj]at this⊢;rw[this];congr 3;simp only[ux,i,if_false]
   grind[Zk1]
theorem Qrp(c:UInt8)(s:Ba)(hs:s.length<=1048576):ZM s (c.toNat:Int)=K2 (ux c s,()):=by
 have:=Zzf c (((s.length:Int)-0).toNat+1) [] s [] [] (by simpa using hs) Aa Ae Ae;simp_all[ZM,oO,Zvm,Z4r]
def hv(b:UInt8):Int:=ite (48<=b.toNat/\b.toNat<=57) ((b.toNat:Int)-48) (ite (97<=b.toNat/\b.toNat<=102) ((b.toNat:Int)-87) (-1))
def xR:Ba->Option Ba|[]=>K2 []|[_]=>none|a::b::r=>ite (hv a<0\/hv b<0) none ((xR r).map λd=>Ll (16*(hv a).toNat+(hv b).toNat)::d)
theorem Z4u:∀{s d:Ba},xR s=K2 d->s.length=2*d.length
 |[],d,h=>by simp_all[xR]
 |[_],d,h=>by simp[xR]at h
 |a::b::r,d,h=>by
  simp only[xR]at h;split at h
  ·cases h
  ·simp only[Option.map_eq_some_iff]at h;obtain⟨e,c,rfl⟩:=h;have:=Z4u c
   grind
def YG(s:Ba):Ba:=(xR s).getD []
theorem Z4v:∀{s:Ba},s.length%2=1->xR s=none
 |[],h=>by simp at h
 |[_],_=>rfl
 |a::b::r,h=>by
  have:=Z4v (s:=r) (by simp at h;omega);simp_all[xR]
theorem Qcm(s:Ba):(YG s).length<=s.length:=by
 unfold YG;cases h:xR s with
 |none=>simp
 |some d=>grind[Z4u]
theorem Z8q:∀k:Fin 16,hv (Ll (Ztf k.val).toNat)=(k.val:Int):=Ai
theorem Qfy(b:UInt8)(l:Ba):Z2q (b::l)=Ll (Ztf (b.toNat/16)).toNat::Ll (Ztf (b.toNat%16)).toNat::Z2q l:=by
 rfl
theorem Zpq:∀d:Ba,xR (Z2q d)=K2 d
 |[]=>rfl
 |b::d=>by
  have e:b.toNat<256:=b.toNat_lt;rw[Qfy];have a:hv (Ll (Ztf (b.toNat/16)).toNat)=((b.toNat/16:Nat):Int):=Z8q ⟨b.toNat/16,Aa⟩;have c:hv (Ll (Ztf (b.toNat%16)).toNat)=((b.toNat%16:Nat):Int):=Z8q ⟨b.toNat%16,Aa⟩;simp only[xR,a,c];rw[if_neg Aa,Zpq d];simp only[Option.map_some,Int.toNat_natCast,pB,List.cons.injEq,and_true];apply Ml.1;simp;omega
def fq(x:Int):Bool:=K3 (x>=(0:Int))&&K3 (x<=(4611686018427387903:Int))
theorem Qgl(x:Int):Q9 x=K2 (fq x,()):=rfl
theorem Zu0(x:Int):Xq x=K2 (fq x,()):=rfl
theorem Z8x:Zd4=yC:=rfl
theorem Qg6:Wa=Wk:=rfl
theorem Qn9:Zth=nO:=rfl
def Yu(f:Zj):Bool:=cond (f.1==4) (K3 (f.2.2.1=0)&&(f.2.2.2.1==[])&&(f.2.2.2.2.1==Lc)&&K3 (f.2.2.2.2.2.2.1=0)&&(f.2.2.2.2.2.2.2.2.1==Lc)) (cond (f.1==5) (K3 (f.2.2.1=0)&&(f.2.2.2.1==[])&&(f.2.2.2.2.1==Lc)&&K3 (f.2.2.2.2.2.2.1=0)&&K3 (f.2.2.2.2.2.2.2.1=0)&&(f.2.2.2.2.2.2.2.2.1==Lc)) (cond (f.1==8) (K3 (f.2.2.2.2.2.1=0)&&K3 (f.2.2.2.2.2.2.1=0)&&K3 (f.2.2.2.2.2.2.2.1=0)&&(f.2.2.2.2.2.2.2.2.1==Lc)) (cond (f.1==17||f.1==21) (K3 (f.2.2.1=0)&&(f.2.2.2.1==[])&&(f.2.2.2.2.1==Lc)&&K3 (f.2.2.2.2.2.1=0)&&K3 (f.2.2.2.2.2.2.2.1=0)&&(f.2.2.2.2.2.2.2.2.1==Lc)) (cond (f.1==18||f.1==22) (K3 (f.2.1=0)&&K3 (f.2.2.1=0)&&(f.2.2.2.1==[])&&(f.2.2.2.2.1==Lc)&&K3 (f.2.2.2.2.2.1=0)&&K3 (f.2.2.2.2.2.2.2.1=0)) (cond (f.1==16||f.1==20) (K3 (f.2.1=0)&&K3 (f.2.2.1=0)&&(f.2.2.2.1==[])&&(f.2.2.2.2.1==Lc)&&K3 (f.2.2.2.2.2.1=0)&&K3 (f.2.2.2.2.2.2.2.1=0)&&(f.2.2.2.2.2.2.2.2.1==Lc)) Lc)))))
def Xa(f:Zj):Bool:=Yu f&&fq f.2.1&&fq f.2.2.1&&fq f.2.2.2.2.2.1&&fq f.2.2.2.2.2.2.1&&fq f.2.2.2.2.2.2.2.1&&K3 (f.2.2.2.1.length<=400)&&(cond (f.1==18||f.1==22) (K3 (f.2.2.2.2.2.2.1<=(1152921504606846976:Int))) (K3 (f.2.2.1<=(4611686018427387903:Int)- (f.2.2.2.1.length:Int))))
theorem Z89(k:Int):∃s,yC k=K2 (s,())/\((s==([]:Ba))= !(k==4||k==5||k==8||k==16||k==17||k==18||k==20||k==21||k==22)):=by
 unfold yC;cases h4:k==4<;>cases h5:k==5<;>cases h8:k==8<;>cases h16:k==16<;>cases h17:k==17<;>cases h18:k==18<;>cases h20:k==20<;>cases h21:k==21<;>cases h22:k==22<;>exact⟨_,rfl,rfl⟩
theorem Z4w(f:Zj):∃u,nO f=K2 (u,())/\((f.1==4||f.1==5||f.1==8||f.1==16||f.1==17||f.1==18||f.1==20||f.1==21||f.1==22)=K4->eqV Zt u f=Yu f/\eqV Zt f u=Yu f):=by
 obtain⟨k,v,p,n,fin,o,a,b,q,z⟩:=f;by_cases r:k=4
 ·subst r;exact⟨_,rfl,λ_=>by constructor<;>rw[Lg]<;>simp[eqV,Yu]<;>grind⟩
 by_cases s:k=5
 ·subst s;exact⟨_,rfl,λ_=>by constructor<;>rw[Lg]<;>simp[eqV,Yu]<;>grind⟩
 by_cases t:k=8
 ·subst t;exact⟨_,rfl,λ_=>by constructor<;>rw[Lg]<;>simp[eqV,Yu]<;>grind⟩
 by_cases d:k=17
 ·subst d;exact⟨_,rfl,λ_=>by constructor<;>rw[Lg]<;>simp[eqV,Yu]<;>grind⟩
 by_cases g:k=21
 ·subst g;exact⟨_,rfl,λ_=>by constructor<;>rw[Lg]<;>simp[eqV,Yu]<;>grind⟩
 by_cases i:k=18
 ·subst i;exact⟨_,rfl,λ_=>by constructor<;>rw[Lg]<;>simp[eqV,Yu]<;>grind⟩
 by_cases j:k=22
 ·subst j;exact⟨_,rfl,λ_=>by constructor<;>rw[Lg]<;>simp[eqV,Yu]<;>grind⟩
 by_cases l:k=16
 ·subst l;exact⟨_,rfl,λ_=>by constructor<;>rw[Lg]<;>simp[eqV,Yu]<;>grind⟩
 by_cases m:k=20
 ·subst m;exact⟨_,rfl,λ_=>by constructor<;>rw[Lg]<;>simp[eqV,Yu]<;>grind⟩
 ·have e:∀c:Int,k≠c->(k==c)=false:=λc h=>by simp[h]
  refine⟨(k,0,0,[],Lc,0,a,0,Lc,()),?_,λhk=>?_⟩
  rotate_left
  ·simp_all
  ·unfold nO Wk Jj qn tR qo tF
   grind
theorem Z39(h:Yu f=K4)(h8:f.1≠8):f.2.2.1=0/\f.2.2.2.1=[]:=by
 grind[Yu]
theorem Zpj(h:Yu f=K4):(f.1==4||f.1==5||f.1==8||f.1==16||f.1==17||f.1==18||f.1==20||f.1==21||f.1==22)=true:=by
 grind[Yu]
theorem xL(f:Zj)(hl:f.2.2.2.1.length<=1048576:=by omega):bm f=K2 (Xa f,()):=by
 obtain⟨s,hs,d⟩:=Z89 f.1;obtain⟨u,e,g⟩:=Z4w f;unfold bm gH;simp only[hs,e,Qgl,pA,d];cases hk:(f.1==4||f.1==5||f.1==8||f.1==16||f.1==17||f.1==18||f.1==20||f.1==21||f.1==22)
 ·have a:Yu f=false:=by
   grind[Zpj]
  simp_all[Xa]
 ·simp only[pI,pH,pA,Ld,(g hk).1];have h:Xa f=(Yu f&&fq f.2.1&&fq f.2.2.1&&fq f.2.2.2.2.2.1&&fq f.2.2.2.2.2.2.1&&fq f.2.2.2.2.2.2.2.1&&K3 (f.2.2.2.1.length<=400)&&(cond (f.1==18||f.1==22) (K3 (f.2.2.2.2.2.2.1<=(1152921504606846976:Int))) (K3 (f.2.2.1<=(4611686018427387903:Int)- (f.2.2.2.1.length:Int))))):=rfl;rw[h,Zr];have i:K3 ((f.2.2.2.1.length:Int)>400)= !(K3 (f.2.2.2.1.length<=400)):=by
   grind
  rw[i];cases a:Yu f
  ·simp
  ·have b:=Z39 a;cases fq f.2.1<;>cases fq f.2.2.1<;>cases fq f.2.2.2.2.2.1<;>cases fq f.2.2.2.2.2.2.1<;>cases fq f.2.2.2.2.2.2.2.1<;>cases hlen:K3 (f.2.2.2.1.length<=400)<;>try rfl
   by_cases c:f.1=8
   ·simp[c]
   ·have j:(f.1==8)=false:=by simp[c]
    obtain⟨k,l⟩:=b c;unfold zi;cases h18:f.1==18<;>cases h22:f.1==22<;>simp[j,k,l]
theorem QW(f:Zj)(hl:f.2.2.2.1.length<=1048576:=by omega):ao f=K2 (Xa f,()):=by
 obtain⟨s,hs,c⟩:=Z89 f.1;obtain⟨u,d,e⟩:=Z4w f;unfold ao gH;rw[Z8x,Qn9];simp only[hs,d,Zu0,pA,c];cases hk:(f.1==4||f.1==5||f.1==8||f.1==16||f.1==17||f.1==18||f.1==20||f.1==21||f.1==22)
 ·have a:Yu f=false:=by
   grind[Zpj]
  simp_all[Xa]
 ·simp only[pI,pH,pA,Ld,(e hk).2];have g:Xa f=(Yu f&&fq f.2.1&&fq f.2.2.1&&fq f.2.2.2.2.2.1&&fq f.2.2.2.2.2.2.1&&fq f.2.2.2.2.2.2.2.1&&K3 (f.2.2.2.1.length<=400)&&(cond (f.1==18||f.1==22) (K3 (f.2.2.2.2.2.2.1<=(1152921504606846976:Int))) (K3 (f.2.2.1<=(4611686018427387903:Int)- (f.2.2.2.1.length:Int))))):=rfl;rw[g,Zr];have h:K3 ((f.2.2.2.1.length:Int)<=400)=(K3 (f.2.2.2.1.length<=400)):=by
   grind
  rw[h];cases a:Yu f
  ·simp
  ·have b:=Z39 a;cases fq f.2.1<;>cases fq f.2.2.1<;>cases fq f.2.2.2.2.2.1<;>cases fq f.2.2.2.2.2.2.1<;>cases fq f.2.2.2.2.2.2.2.1<;>try rfl
   grind
open Classical in
def pin(s:Ba):Option Int:=if h:∃n:Int,-999999999<=n/\n<=999999999/\s=L6 n then K2 h.choose else none
def Z14{β:Type}(r:List Ba)(K:Int->List Ba->Option β):Option β:=
 match r with
 |[]=>none
 |a::r=>match pin a with
  |none=>none
  |some n=>K n r
theorem hdn(x y:Option β):(cond (((([]:List Ba).length:Nat):Int)==(0:Int)) x y)=x:=rfl
theorem Z46(x:Int):0<=bits .and .i64 x 255/\bits .and .i64 x 255<=255:=by
 have h:bits .and .i64 x 255=Lb.wrap (((L1 64 x&&&L1 64 255).toNat:Nat):Int):=rfl
 grind[Nat.and_le_right,Zr]
def dy(c:Ku):Prop:=c.1.length<=1048576/\0<=c.2.1/\c.2.1<=c.1.length
theorem Qlv(code:List Int)(h:code.length<=1048576):∃c,Zg4 code=K2 (c,())/\dy c:=by
 have a:∀(N:Nat)(x:Int)(i:Nat),i<=code.length->code.length-i<N-> ∃c,yJ N code x (i:Int)=K2 (c,())/\dy c:=by
  intro N
  induction N with
  |zero=>omega
  |succ N b=>
   intro x i e f;unfold yJ gG;by_cases d:i<code.length/\i<4000
   ·rw[Zn Af,Zb,Zs d.1];exact b _ (i+1) Aa Aa
   ·rw[Zp Af];exact⟨_,rfl,h,Ln 0,Ae⟩
 unfold Zg4;exact a _ _ 0 Aa (by simp[z5])
theorem Zi2(c:Ku)(h:dy c):∃x c',rh c=K2 ((x,()),c',())/\dy c'/\0<=x/\x<=255:=by
 obtain⟨b,d,e⟩:=h;unfold rh gG tO;simp only[];rw[Zb Ai,Zb Ai];by_cases a:c.2.1<(c.1.length:Int)
 ·rw[Zn (Zl a),Zb ⟨d,a⟩,Zr (n:=c.2.1+1)];exact⟨_,_,rfl,⟨b,Ag,Ag⟩,Z46 _⟩
 ·rw[Zp (Zm a)];exact⟨_,_,rfl,⟨b,d,e⟩,Z46 _⟩
theorem Zeg(c:Ku)(n:Int)(h:dy c):∃x c',K6 c n=K2 ((x,()),c',())/\dy c'/\0<=x/\(0<n->x<n):=by
 unfold K6;by_cases e:n<=0
 ·rw[Zn (Zl e)]
  grind
 ·rw[Zp (Zm e)];by_cases f:n<=256
  ·rw[Zn (Zl f)];obtain⟨x,g,a,b,i,j⟩:=Zi2 c h;rw[a,pA,Zb];exact⟨_,_,rfl,b,L9 n i,λd=>L8 x d⟩
  ·rw[Zp (Zm f)];obtain⟨x,g,a,b,i,j⟩:=Zi2 c h;obtain⟨y,k,l,m,t,v⟩:=Zi2 g b;obtain⟨z,o,p,q,w,A⟩:=Zi2 k m;obtain⟨u,B,r,s,C,D⟩:=Zi2 o q;rw[a,pA,l,pA,p,pA,r,pA,Zb];simp only[];rw[Zr (n:=x*16777216),Zr (n:=y*65536),Zr (n:=x*16777216+y*65536),Zr (n:=z*256),Zr (n:=x*16777216+y*65536+z*256),Zr (n:=x*16777216+y*65536+z*256+u)];exact⟨_,_,rfl,s,L9 n Aa,λd=>L8 _ d⟩
theorem Qhz(c:Ku)(l:List Int)(h:dy c)(hl:0<l.length):∃x c',qh c l=K2 ((x,()),c',())/\dy c'/\x∈l:=by
 unfold qh gG;obtain⟨x,e,b,f,d,a⟩:=Zeg c (l.length:Int) h;have a:=a Aa;rw[b,pA];simp only[];rw[Zb ⟨d,a⟩]
 grind
def W7(r:Zi):Bool:=(K3 (r.1>=(0:Int))&&K3 (r.1<r.2.1))&&K3 (r.2.1<=(4611686018427387903:Int))
theorem Zg1(r:Zi):VB r=K2 (W7 r,()):=rfl
theorem Qh{r:Zi}:W7 r=K4↔0<=r.1/\r.1<r.2.1/\r.2.1<=4611686018427387903:=by
 grind[W7]
def rsB:Int->List Zi->Bool|_,[]=>K4|lo,r::l=>W7 r&&K3 (lo<r.1)&&rsB r.2.1 l
theorem Znb:∀(N:Nat)(pre rest:List Zi)(lo:Int),(pre++rest).length<=1048576->rest<N->(pre=[]->lo<0)->(∀q x,pre=q++[x]->lo=x.2.1)->
  c9 N (pre++rest) pre=K2 (rsB lo rest,())
 |0,_,_,_,_,h,_,_=>Aa
 |N+1,pre,[],lo,k,g,i,j=>by
  unfold c9;rw[Zp Ae];rfl
 |N+1,pre,r::rest,lo,k,g,i,j=>by
  have a:(pre++r::rest).length=pre+rest+1:=Af
  simp only[Le]at g;unfold c9;rw[Zn (Zl (by rw[a];omega)),Zb (by rw[a];omega),ib,Zg1,pA];have f:=Znb N (pre++[r]) rest r.2.1 Af Aa Ae (λq x e=>by
   simp_all)
  have l:((pre++[r]):Int)=((pre+1:Nat):Int):=Ae
  rw[l]at f;rw[show(pre++[r])++rest=pre++r::rest by simp]at f;rw[Zb (λ_ h=>by
   grind[Zr]),Zb (λ_ _=>by rw[a];omega),Zs (m:=pre+1),f]
  simp only[rsB];cases hf:W7 r
  ·rfl
  ·rcases List.eq_nil_or_concat pre with b|⟨q,x,b⟩
   ·subst b;have c:=i rfl;have o:=Qh.1 hf;rw[Zp Ae]
    grind
   ·rw[List.concat_eq_append]at b;have c:=j q x b;have n:(pre++r::rest).getD (Lb.wrap (pre-1)).toNat Z3=x:=by
     rw[Zr];have e:((pre:Int)-1).toNat=q:=by rw[b];simp
     rw[e,b,List.append_assoc]
     grind
    rw[n,<-c];have d:K3 ((pre:Int)>0)=true:=Zl (by rw[b];simp);rw[d];by_cases p:lo<r.1
    all_goals grind
theorem fu(l:List Zi)(hl:l.length<=1048576:=by omega):Wy l=K2 (rsB (-1) l,()):=by
 unfold Wy;exact Znb _ [] l (-1) (by simpa using hl) (by simp[fC]) (λ_=>Aa) (λq x e=>by simp at e)
theorem Wp{r:Zi}:rsB lo (r::l)=K4↔W7 r=K4/\lo<r.1/\rsB r.2.1 l=true:=by
 simp[rsB,and_assoc]
theorem Zfv:∀{l:List Zi}{lo lo':Int},rsB lo l=K4->lo'<=lo->rsB lo' l=K4
 |[],_,_,_,_=>rfl
 |r::l,lo,lo',h,a=>by
  grind[Wp]
theorem rJ:∀{l:List Zi}{lo:Int},rsB lo l=K4-> ∀x∈l,lo<x.1/\W7 x=K4
 |[],_,_,x,hx=>by cases hx
 |r::l,lo,h,x,hx=>by
  rw[Wp]at h;have a:=Qh.1 h.1;rcases Lq.1 hx with rfl|hx
  ·simp_all
  ·have:=rJ h.2.2 x hx
   grind
theorem Qep:∀{l:List Zi}{lo E:Int},rsB lo l=K4->(∀x∈l,x.2.1<=E)->lo<=E->l<=E-lo
 |[],lo,E,_,_,a=>Af
 |r::l,lo,E,h,a,_=>by
  rw[Wp]at h;have b:=Qh.1 h.1;have:=Qep (E:=E) h.2.2 (λx hx=>a x (by simp[hx])) (a r Ae)
  grind
def jf:List Zi->Zi->List Zi|[],r=>[r]|x::l,r=>ite (x.2.1<r.1) (x::jf l r) (ite (x.1>r.2.1) (r::x::l) (jf l (min r.1 x.1,max r.2.1 x.2.1,())))
theorem Zn4(l:List Zi)(hl:l.length<=1048576):rj l=K2 (l,()):=by
 grind[rj,Zb,Qp]
theorem Zvn:∀(N:Nat)(pre rest:List Zi)(r:Zi)(out:List Zi),(pre++rest).length<=1048576->rest<N->out<=pre.length+1->r.1<r.2.1->(∀x∈rest,r.2.1<x.1/\x.1<x.2.1)->
  Jt N (pre++rest) r out K4 pre=K2 (out++rest,())
 |0,_,_,_,_,_,h,_,_,_=>Aa
 |N+1,pre,[],r,out,d,b,e,c,hx=>by
  simp_all[Jt]
 |N+1,pre,x::rest,r,out,d,b,e,c,hx=>by
  have a:(pre++x::rest).length=pre+rest+1:=Af
  simp only[Le]at b;have f:=hx x Ae;unfold Jt;rw[Zn (Zl (by rw[a];omega)),Zb (by rw[a];omega),ib,Zp (Zm),Zb (by rw[a];omega),Zn (Zl),Zp (by rfl)];unfold py gG gI cW;rw[Zb (by rw[a];omega),ib,Zb Aj,Zs (m:=pre+1)];have i:=Zvn N (pre++[x]) rest r (out++[x]) Af Aa Af c (λy g=>hx y (by simp[g]));simp_all
theorem Zs3:∀(N:Nat)(pre rest:List Zi)(r:Zi)(out:List Zi)(lo:Int),(pre++rest).length<=1048576->rest<N->out<=pre.length->r.1<r.2.1->rsB lo rest=K4->
  Jt N (pre++rest) r out Lc pre=K2 (out++jf rest r,())
 |0,_,_,_,_,_,_,h,_,_,_=>Aa
 |N+1,pre,[],r,out,lo,j,k,n,f,hx=>by
  simp only[Md]at j;unfold Jt;rw[Zp Ae,Zn (by rfl),Zb Aj];rfl
 |N+1,pre,x::rest,r,out,lo,j,k,n,f,hx=>by
  have a:(pre++x::rest).length=pre+rest+1:=Af
  simp only[Le]at k;obtain⟨l,o,b⟩:=Wp.1 hx;have l:=Qh.1 l;unfold Jt;rw[Zn (Zl (by rw[a];omega)),Zb (by rw[a];omega),ib];have g:(pre++[x])++rest=pre++x::rest:=Ae
  have i:((pre++[x]):Int)=((pre+1:Nat):Int):=Ae
  by_cases d:x.2.1<r.1
  ·rw[Zn (Zl d),Zb (by rw[a];omega),Zb Aj];unfold cW;have c:=Zs3 N (pre++[x]) rest r (out++[x]) _ Af Aa Af f b;rw[g,i]at c;rw[Zs (m:=pre+1)];simp_all[jf]
  ·rw[Zp (Zm d),Zb (by rw[a];omega)];by_cases e:x.1>r.2.1
   ·rw[Zn (Zl e),Zn (by rfl),Zb Aj];unfold py gG gI cW;rw[Zb (by rw[a];omega),ib,Zb Aj,Zs (m:=pre+1)];have c:=Zvn N (pre++[x]) rest r (out++[r]++[x]) Af Aa Af f (λy p=>by
     have:=rJ b y p
     grind[Qh])
    rw[g,i]at c;simp only[c,jf,d,e,if_true,if_false];simp
   ·rw[Zp (Zm e),Zb (by rw[a];omega),Zb (by rw[a];omega)];unfold cW;have c:=Zs3 N (pre++[x]) rest (min r.1 x.1,max r.2.1 x.2.1,r.2.2) out _ Af Aa Af Ab b;rw[g,i]at c;rw[Zs (m:=pre+1)];simp only[c,jf,d,e,if_false]
theorem ia(l:List Zi)(r:Zi)(hl:l.length<=1048576:=by omega):dx l r=K2 (ite (rsB (-1) l=K4/\W7 r=K4) (jf l r) l,()):=by
 unfold dx gH;rw[fu l hl,pA];cases h1:rsB (-1) l
 ·simp[Zn4 l hl]
 ·simp only[pI,pH,Zg1,pA,Ld];cases h2:W7 r
  ·simp[Zn4 l hl]
  ·have a:=Qh.1 h2;have:=Zs3 (me l r [] Lc 0) [] l r [] (-1) (by simpa using hl) (by simp[me]) Ae Aa h1;simp_all
def RL(E:Int)(l:List Zi):Prop:=rsB (-1) l=K4/\ ∀x∈l,x.2.1<=E
theorem WK:∀{l:List Zi}{lo:Int}{r:Zi},rsB lo l=K4->W7 r=K4->lo<r.1->rsB lo (jf l r)=K4
 |[],lo,r,_,b,e=>by simp_all[jf,rsB]
 |x::l,lo,r,f,b,e=>by
  obtain⟨d,c,a⟩:=Wp.1 f;have hx:=Qh.1 d;have g:=Qh.1 b;unfold jf;split
  ·exact Wp.2 ⟨d,c,WK a b Aa⟩
  ·split
   ·simp_all[Wp]
   ·exact WK (Zfv a Aa) (Qh.2 Ab) Ab
theorem Zef{E:Int}:∀{l:List Zi}{r:Zi},(∀x∈l,x.2.1<=E)->r.2.1<=E-> ∀x∈jf l r,x.2.1<=E
 |[],r,_,h,x,hx=>by simp_all[jf]
 |y::l,r,b,h,x,hx=>by
  have c:=b y Ae;have a:∀x∈l,x.2.1<=E:=λx hx=>b x (by simp[hx]);unfold jf at hx;split at hx
  ·rcases Lq.1 hx with rfl|hx
   ·exact c
   ·exact Zef a h x hx
  ·split at hx
   ·grind
   ·exact Zef a Ab x hx
theorem Zpx:∀{l:List Zi}{r:Zi},(jf l r)<=l.length+1
 |[],r=>by simp[jf]
 |y::l,r=>by
  unfold jf;split
  ·have:=Zpx (l:=l) (r:=r);simp_all
  ·split
   ·simp
   ·have:=Zpx (l:=l) (r:=(min r.1 y.1,max r.2.1 y.2.1,()));grind
theorem vd{r:Zi}(h:RL E l)(hr:r.2.1<=E):RL E (ite (rsB (-1) l=K4/\W7 r=K4) (jf l r) l):=by
 split
 ·rename_i a;have:=Qh.1 a.2;exact⟨WK a.1 a.2 Aa,Zef h.2 hr⟩
 ·exact h
theorem Zfy{E':Int}(h:RL E l)(he:E<=E':=by omega):RL E' l:=⟨h.1,λx hx=>Int.le_trans (h.2 x hx) he⟩
theorem Qqb(h:RL E l)(hE: -1<=E):l<=E+1:=by
 have:=Qep h.1 h.2 hE;omega
def Z5i(r x:Zi):List Zi:=(ite (x.1<min x.2.1 r.1) [(x.1,min x.2.1 r.1,())] [])++(ite (max x.1 r.2.1<x.2.1) [(max x.1 r.2.1,x.2.1,())] [])
def Zab(r:Zi):List Zi->List Zi|[]=>[]|x::l=>Z5i r x++Zab r l
theorem Zu7:∀(N:Nat)(pre rest:List Zi)(r:Zi)(out:List Zi),(pre++rest).length<=1048576->rest.length<N->out.length<=2*pre.length->
  ae N (pre++rest) r out (pre.length:Int)=K2 (out++Zab r rest,())
 |0,_,_,_,_,_,h,_=>Aa
 |N+1,pre,[],r,out,e,c,f=>by
  simp_all[ae,Zab]
 |N+1,pre,x::rest,r,out,e,c,f=>by
  have b:(pre++x::rest).length=pre.length+rest.length+1:=Af
  simp only[Le]at c;have g:∀{ρ:Type}(m:Option ρ),Zh (0<=(pre.length:Int)/\(pre.length:Int)<((pre++x::rest).length:Int)) m=m:=λm=>Zb (by rw[b];omega);have k:(pre++[x])++rest=pre++x::rest:=Ae
  have l:((pre++[x]).length:Int)=((pre.length+1:Nat):Int):=Ae
  have d:∀a:List Zi,a.length<=2*pre.length+1->ka (λv=>ae N v.1 v.2.1 v.2.2.1 v.2.2.2.1) (pre++x::rest) r a (pre.length:Int)=K2 (a++(ite (max x.1 r.2.1<x.2.1) [(max x.1 r.2.1,x.2.1,())] [])++Zab r rest,()):=by
   intro a i;unfold ka gG gI oM;simp only[g,ib];rw[Zs (m:=pre.length+1)];by_cases h:max x.1 r.2.1<x.2.1
   ·rw[Zn (Zl h),if_pos h,Zb Aj];have j:=Zu7 N (pre++[x]) rest r (a++[(max x.1 r.2.1,x.2.1,())]) Af Aa Af;simp_all
   ·rw[Zp (Zm h),if_neg h];have j:=Zu7 N (pre++[x]) rest r a Af Aa Af;simp_all
  unfold ae;rw[Zn (Zl (by rw[b];omega))];simp only[g,ib];by_cases h:x.1<min x.2.1 r.1
  ·rw[Zn (Zl h),Zb Aj,d _ Af];simp[Zab,Z5i,h]
  ·rw[Zp (Zm h),d _ Aa];simp[Zab,Z5i,h]
theorem q9(l:List Zi)(r:Zi)(hl:l.length<=1048576:=by omega):kV l r=K2 (ite (rsB (-1) l=K4/\W7 r=K4) (Zab r l) l,()):=by
 unfold kV gH;rw[fu l hl,pA];cases h1:rsB (-1) l
 ·simp[Zn4 l hl]
 ·simp only[pI,pH,Zg1,pA,Ld];cases h2:W7 r
  ·simp[Zn4 l hl]
  ·have:=Zu7 (hD l r [] 0) [] l r [] (by simpa using hl) (by simp[hD]) Ae;simp_all
theorem Qel{r:Zi}(hr:W7 r=K4):∀{l:List Zi}{lo:Int},rsB lo l=K4->rsB lo (Zab r l)=K4
 |[],lo,_=>rfl
 |x::l,lo,c=>by
  obtain⟨d,e,a⟩:=Wp.1 c;have hx:=Qh.1 d;have hr:=Qh.1 hr;have f:=λb h=>Qel (r:=r) (Qh.2 hr) (l:=l) (lo:=b) (Zfv a h)
  grind[Zab,Z5i,Wp,Qh]
theorem Z4d{E:Int}{r:Zi}:∀{l:List Zi},(∀x∈l,x.2.1<=E)-> ∀x∈Zab r l,x.2.1<=E
 |[],_,x,hx=>by simp[Zab]at hx
 |y::l,a,x,hx=>by
  have b:=a y Ae;unfold Zab Z5i at hx;simp only[Mh]at hx;rcases hx with(hx|hx)|hx
  ·grind
  ·simp_all
  ·exact Z4d (λx hx=>a x (by simp[hx])) x hx
theorem Zfz{r:Zi}(h:RL E l):RL E (ite (rsB (-1) l=K4/\W7 r=K4) (Zab r l) l):=by
 split
 ·rename_i a;exact⟨Qel a.2 a.1,Z4d h.2⟩
 ·exact h
def Zdw(a b:Zi):List Zi:=ite (max a.1 b.1<min a.2.1 b.2.1) [(max a.1 b.1,min a.2.1 b.2.1,())] []
theorem Znr(K1:(List Zi×List Zi×List Zi×Int×Unit)->Oa (List Zi))(a:List Zi)(i:Nat)(hi:i<a.length):∀(N:Nat)(pre rest:List Zi)(out:List Zi),(pre++rest).length<=1000->rest.length<N->out.length+rest.length<=10000000000->
  cZ K1 N a (pre++rest) out (i:Int) (pre.length:Int)=K1 (a,pre++rest,out++rest.flatMap (Zdw (a.getD i Z3)),Lb.wrap ((i:Int)+1),())
 |0,_,_,_,_,h,_=>Aa
 |N+1,pre,[],out,e,c,d=>by
  simp_all[cZ]
 |N+1,pre,x::rest,out,e,c,d=>by
  have b:(pre++x::rest).length=pre.length+rest.length+1:=Af
  simp only[Le]at c d;have g:∀{ρ:Type}(m:Option ρ),Zh (0<=(pre.length:Int)/\(pre.length:Int)<((pre++x::rest).length:Int)) m=m:=λm=>Zb (by rw[b];omega);have f:∀{ρ:Type}(m:Option ρ),Zh (0<=(i:Int)/\(i:Int)<(a.length:Int)) m=m:=λm=>Zb;have k:(pre++[x])++rest=pre++x::rest:=Ae
  have l:((pre++[x]).length:Int)=((pre.length+1:Nat):Int):=Ae
  unfold cZ;rw[Zn (Zl (by rw[b];omega))];simp only[g,f,ib,Xr];rw[show(i:Int).toNat=i from rfl];unfold wu nG;simp only;rw[Zs (m:=pre.length+1)];by_cases h:max (a.getD i Z3).1 x.1<min (a.getD i Z3).2.1 x.2.1
  ·rw[Zn (Zl h),Zb Aj];have j:=Znr K1 a i hi N (pre++[x]) rest (out++[(max (a.getD i Z3).1 x.1,min (a.getD i Z3).2.1 x.2.1,())]) Af Aa Af;simp_all[Zdw]
  ·rw[Zp (Zm h)];have j:=Znr K1 a i hi N (pre++[x]) rest out Af Aa Aa;simp_all[Zdw,if_neg]
theorem Z73(a b:Zi):(Zdw a b).length<=1:=by grind[Zdw]
theorem qz{α β:Type}{f:α->List β}{k:Nat}(hf:∀x,(f x).length<=k):∀l:List α,(l.flatMap f).length<=k*l.length
 |[]=>Ae
 |x::l=>by
  have:=qz hf l
  grind[Nat.mul_succ]
theorem Zy9(b:List Zi)(hb:b.length<=1000):∀(N:Nat)(pre rest:List Zi)(out:List Zi),(pre++rest).length<=1048576->rest.length<N->out.length<=1000*pre.length->
  aM N (pre++rest) b out (pre.length:Int)=K2 (out++(ite (rsB (-1) (pre++rest)=K4/\rsB (-1) b=K4) (rest.flatMap λa=>b.flatMap (Zdw a)) []),())
 |0,_,_,_,_,h,_=>Aa
 |N+1,pre,[],out,e,d,f=>by
  simp_all[aM]
 |N+1,pre,x::rest,out,e,d,f=>by
  have c:(pre++x::rest).length=pre.length+rest.length+1:=Af
  simp only[Le]at d;unfold aM;have g:K3 ((pre.length:Int)<((pre++x::rest).length:Int))=true:=Zl (by rw[c];omega);rw[g,fu _,fu b];simp only[pG,pA,pJ];cases h1:rsB (-1) (pre++x::rest)
  ·simp
  cases h2:rsB (-1) b
  ·simp
  simp only[pG,pA,Lr,and_self,if_true];have hx:(pre++x::rest).getD pre.length Z3=x:=ib pre x rest Z3;have h:=Znr (λv=>aM N v.1 v.2.1 v.2.2.1 v.2.2.2.1) (pre++x::rest) pre.length (by rw[c];omega) (eX (pre++x::rest) b out (pre.length:Int) 0) [] b out (by simpa using hb) (by simp[eX]) Aa;refine Ly h ?_;rw[hx,Zs (m:=pre.length+1)];have i:=qz (λy=>Z73 x y) b;have j:=Zy9 b hb N (pre++[x]) rest (out++b.flatMap (Zdw x)) Af Aa Ag;simp_all
theorem WO(a b:List Zi)(ha:a.length<=1048576)(hb:b.length<=1000):dH a b=K2 (ite (rsB (-1) a=K4/\rsB (-1) b=K4) (a.flatMap λx=>b.flatMap (Zdw x)) [],()):=by
 have:=Zy9 b hb (eW a b [] 0) [] a [] (by simpa using ha) (by simp[eW]) Ae;simp_all[dH]
def pw(r:Q2):Bool:=match aP r with|some (b,_)=>b|none=>Lc
theorem Zv4(r:Q2):∀(N i:Nat),r.2.2.2.1.length<=1048576->r.2.2.2.1-i<N->i<=r.2.2.2.1->
  ∃b,lT N r (i:Int)=K2 (b,())/\(b=K4-> ∀j,i<=j->j<r.2.2.2.1->0<=r.2.2.2.1.getD j 0/\r.2.2.2.1.getD j 0<=255)
 |0,_,_,h,_=>Aa
 |N+1,i,a,f,g=>by
  unfold lT;by_cases h:i<r.2.2.2.1
  ·rw[Zn (Zl),Zb,show(i:Int).toNat=i from rfl];have c:Z9 (r.2.2.2.1.getD i 0) 0 255=K2 (K3 (r.2.2.2.1.getD i 0>=0)&&K3 (r.2.2.2.1.getD i 0<=255),()):=rfl;rw[c,pA,Zs h];obtain⟨b,d,k⟩:=Zv4 r N (i+1) a Aa Aa;cases hc:K3 (r.2.2.2.1.getD i 0>=0)&&K3 (r.2.2.2.1.getD i 0<=255)
   ·simp_all
   ·simp only[pC,decide_eq_true_eq]at hc;refine⟨b,d,λl j m e=>?_⟩
    grind
  ·rw[Zp (Zm)]
   grind
theorem zK(r:Q2)(hl:r.2.2.2.1.length<=1048576):aP r=K2 (pw r,())/\(pw r=K4->(0<r.1/\r.1<=64)/\r.2.2.2.1=r.1/\0<=r.2.1/\r.2.1<=r.2.2.1/\r.2.2.1-r.2.1<=r.1/\r.2.2.1<=4611686018427387903/\
  ∀j,j<r.2.2.2.1.length->0<=r.2.2.2.1.getD j 0/\r.2.2.2.1.getD j 0<=255):=by
 have d:∃b,aP r=K2 (b,())/\(b=K4->(0<r.1/\r.1<=64)/\r.2.2.2.1=r.1/\0<=r.2.1/\r.2.1<=r.2.2.1/\r.2.2.1-r.2.1<=r.1/\r.2.2.1<=4611686018427387903/\
   ∀j,j<r.2.2.2.1.length->0<=r.2.2.2.1.getD j 0/\r.2.2.2.1.getD j 0<=255):=by
  unfold aP bp;simp only[pA];generalize e:(((K3 (r.1>(0:Int)))&&(K3 (r.1<=(64:Int))))&&((bits .and .i64 r.1 (Lb.wrap (r.1- (1:Int))))==(0:Int)))=p;generalize a:((((((!p)||(r.2.2.2.1 !=r.1))||(K3 (r.2.1<(0:Int))))||(K3 (r.2.2.1<r.2.1)))||(K3 ((Lb.wrap (r.2.2.1-r.2.1))>r.1)))||(K3 (r.2.2.1>(4611686018427387903:Int))))=c;cases c
  ·simp only[Lh,Ls,decide_eq_false_iff_not,bne_eq_false_iff_eq]at a;obtain⟨⟨⟨⟨⟨f,h⟩,i⟩,k⟩,g⟩,l⟩:=a;subst f;simp only[pC,decide_eq_true_eq]at e;rw[Zr]at g;obtain⟨b,m,n⟩:=Zv4 r (Vg r 0) 0 hl (by simp[Vg]) Aa;simp_all
  simp_all
 grind[pw]
theorem Zn5(r:Q2)(hl:r.2.2.2.1.length<=1048576):ZN r=K2 (r,()):=by
 grind[ZN,Zb,Qp]
theorem Zyf{x:Int}(hx:0<=x)(hn:0<n):0<=Lw x n/\Lw x n<n:=by
 rw[Int.tmod_eq_emod_of_nonneg hx];exact⟨Int.emod_nonneg _ Aa,Int.emod_lt_of_pos _ hn⟩
theorem Zkz(d:Ba)(r t4:Q2)(hr:0<r.1)(hE:0<=r.2.2.1)(hd:d.length<=1048576)(n:Nat)(hE2:r.2.2.1+n<=4611686018427387903)(hn:n<=d):
  ∀(N i:Nat)(x:Q2),x.2.2.2.1=r.1->n-i<N->i<=n->
   ∃cs,J1 N d r t4 x (n:Int) (i:Int)=K2 ((x.1,x.2.1,Lb.wrap (r.2.2.1+n),cs,x.2.2.2.2),(n:Int),())/\cs=x.2.2.2.1.length
 |0,_,_,_,h,_=>Aa
 |N+1,i,x,hx,a,b=>by
  unfold J1;by_cases h:i<n
  ·have c:=Zyf (x:=r.2.2.1+(i:Int)) (n:=r.1) Aa hr;rw[Zn (Zl),Zb,Zr];simp only;rw[Zb,Zb,Zs (m:=n) h];obtain⟨cs,e,f⟩:=Zkz d r t4 hr hE hd n hE2 hn N (i+1) (x.1,x.2.1,x.2.2.1,x.2.2.2.1.set (Lw (r.2.2.1+(i:Int)) r.1).toNat (Lb.wrap ((d.getD (i:Int).toNat 0).toNat:Int)),x.2.2.2.2) Ac Aa Aa;simp_all
  grind
theorem Zvh(r:Q2)(d:Ba)(hl:r.2.2.2.1.length<=1048576)(hd:d.length<=1048576)(hE:0<=r.2.2.1)(hE2:r.2.2.1<=4611686018427387903:=by omega):
  ∃cs,∃n:Nat,iE r d=K2 ((r.1,r.2.1,r.2.2.1+n,cs,()),(n:Int),())/\n<=d/\cs=r.2.2.2.1.length/\r.2.2.1+n<=4611686018427387903:=by
 obtain⟨a,b⟩:=zK r hl;unfold iE ZL;rw[Zn5 r hl,a];simp only[pA];cases hb:pw r
 ·simp only[Lj,pG,pA];rw[show min (0:Int) d=0 by omega];refine⟨r.2.2.2.1,0,?_,Aa,rfl,by simpa using hE2⟩;show J1 1 d r _ r 0 0=_;unfold J1;rw[Zp Ai]
  grind[Zr]
 ·obtain⟨⟨c,i⟩,e,j,k,l,m,o⟩:=b hb;simp only[pI,pH,pA];rw[show Lb.wrap (r.2.2.1-r.2.1)=r.2.2.1-r.2.1 from Zr,Zr,Zr];obtain⟨n,f⟩:∃n:Nat,min (min (r.1- (r.2.2.1-r.2.1)) (4611686018427387903-r.2.2.1)) d=(n:Int):=⟨(min (min (r.1- (r.2.2.1-r.2.1)) (4611686018427387903-r.2.2.1)) d).toNat,Aa⟩
  rw[f];obtain⟨cs,g,h⟩:=Zkz d r ((0:Int),(0:Int),(0:Int),([]:List Int),()) c hE hd n Aa Aa (kp d r ((0:Int),(0:Int),(0:Int),([]:List Int),()) r (n:Int) 0) 0 r e (by simp[kp]) Aa;refine⟨cs,n,?_,Aa,h,Aa⟩;refine Ly g ?_
  grind[Zr]
theorem Qjb(n:Int):∃s,eJ n=K2 (s,())/\s.length<=1:=by
 unfold eJ p6;generalize bits .and .i64 n (255:Int)=m;rw[show Z9 1 1 7=K2 (K4,())from rfl];simp only[pA,pI,Ld];by_cases h:m<0
 ·simp_all
 ·rw[Zp (Zm h)];show ∃s,Lf (Y9 2 m 1 [] 0) _=_/\_;unfold Y9;rw[Zn Ai,Zb Ai];simp only;rw[Zb (by simp[Jv,Xx]),Zb Ai];unfold Y9;rw[show Lb.wrap ((0:Int)+1)=1 from rfl,Zp Ai];cases K3 (Lb.wrap (Int.tdiv m 256)>0)
  all_goals simp_all[Xx]
theorem Zm8(dt:Nat)(r t4:Q2)(hr:0<r.1)(hdt:dt<=4611686018427387903):∀(N i:Nat)(x:Q2),x.2.2.2.1=r.1->dt-i<N->i<=dt->
  ∃cs,bh N (dt:Int) r t4 x (i:Int)=K2 ((x.1,(dt:Int),x.2.2.1,cs,x.2.2.2.2),K4,())/\cs=x.2.2.2.1.length
 |0,_,_,_,h,_=>Aa
 |N+1,i,x,hx,a,b=>by
  unfold bh;by_cases h:i<dt
  ·have c:=Zyf (x:=(i:Int)) (n:=r.1) Aa hr;rw[Zn (Zl),Zb,Zb,Zs (m:=dt) h];obtain⟨cs,d,e⟩:=Zm8 dt r t4 hr hdt N (i+1) (x.1,x.2.1,x.2.2.1,x.2.2.2.1.set (Lw (i:Int) r.1).toNat (0:Int),x.2.2.2.2) Ac Aa Aa;simp_all
  grind
theorem Qh5(r:Q2)(dt:Int)(hl:r.2.2.2.1.length<=1048576):∃cs b ok,gw r dt=K2 ((r.1,b,r.2.2.1,cs,()),ok,())/\cs=r.2.2.2.1.length:=by
 obtain⟨g,h⟩:=zK r hl;unfold gw;rw[Zn5 r hl,g];simp only[pA];generalize e:(((!pw r)||(K3 (dt<r.2.1)))||(K3 (dt>r.2.2.1)))=c;cases c
 ·simp only[Lh,Ls,decide_eq_false_iff_not]at e;obtain⟨⟨i,n⟩,o⟩:=e;obtain⟨⟨j,p⟩,k,q,s,t,u,v⟩:=h i;obtain⟨dt,rfl⟩:=Lm (a:=dt) Aa;obtain⟨l,d⟩:=Lm (a:=r.2.1) Aa;obtain⟨cs,f,m⟩:=Zm8 dt r ((0:Int),(0:Int),(0:Int),([]:List Int),()) j Aa (mf (dt:Int) r ((0:Int),(0:Int),(0:Int),([]:List Int),()) r r.2.1) l r k (by grind[mf]) Aa;rw[<-d]at f;exact⟨cs,dt,K4,f,m⟩
 grind
def VH:List Zi->Int->Int|[],f=>f|x::l,f=>VH l (ite (x.1<=f/\f<x.2.1) x.2.1 f)
theorem Z3t:∀(N:Nat)(pre rest:List Zi)(f:Int),(pre++rest).length<=1048576->rest.length<N->bj N (pre++rest) f (pre.length:Int)=K2 (VH rest f,())
 |0,_,_,_,_,h=>Aa
 |N+1,pre,[],f,c,b=>by
  unfold bj;rw[Zp Ae];rfl
 |N+1,pre,x::rest,f,c,b=>by
  have a:(pre++x::rest).length=pre.length+rest.length+1:=Af
  simp only[Le]at b;have g:∀{ρ:Type}(m:Option ρ),Zh (0<=(pre.length:Int)/\(pre.length:Int)<((pre++x::rest).length:Int)) m=m:=λm=>Zb (by rw[a];omega);have d:(pre++[x])++rest=pre++x::rest:=Ae
  have e:((pre++[x]).length:Int)=((pre.length+1:Nat):Int):=Ae
  unfold bj qa;rw[Zn (Zl (by rw[a];omega))];simp only[g,ib];rw[Zb (λ_=>by rw[a];omega),Zs (m:=pre.length+1)];have i:=λf=>Z3t N (pre++[x]) rest f Af Aa;simp only[d,e]at i;by_cases h:x.1<=f/\f<x.2.1
  all_goals simp_all[VH,Zp,if_neg]
theorem Zeo(l:List Zi)(f:Int)(hl:l.length<=1048576:=by omega):ol l f=K2 (ite (rsB (-1) l=K4/\0<=f) (VH l f) (-1),()):=by
 unfold ol;rw[fu l hl,pA];cases h1:rsB (-1) l
 ·simp
 ·by_cases a:f<0
  ·grind
  ·rw[Zp Af,if_pos ⟨rfl,Aa⟩];exact Z3t _ [] l f (by simpa using hl) (by simp[uq])
def bu:List Zi->Int|[]=>0|x::l=>(x.2.1-x.1)+bu l
theorem Z72:∀(N:Nat)(pre rest:List Zi)(lo n:Int),(pre++rest).length<=1048576->rest.length<N->rsB lo rest=K4->0<=n->n<=max lo 0->n<=4611686018427387903->V6 N (pre++rest) n (pre.length:Int)=K2 (n+bu rest,())
 |0,_,_,_,_,_,h,_,_,_,_=>Aa
 |N+1,pre,[],lo,n,e,c,_,_,_,_=>by
  simp_all[V6,bu]
 |N+1,pre,x::rest,lo,n,e,c,hx,i,j,k=>by
  have a:(pre++x::rest).length=pre.length+rest.length+1:=Af
  simp only[Le]at c;obtain⟨d,f,b⟩:=Wp.1 hx;have d:=Qh.1 d;have g:∀{ρ:Type}(m:Option ρ),Zh (0<=(pre.length:Int)/\(pre.length:Int)<((pre++x::rest).length:Int)) m=m:=λm=>Zb (by rw[a];omega);unfold V6;rw[Zn (Zl (by rw[a];omega))];simp only[g,ib];rw[Zs (m:=pre.length+1),show Lb.wrap (n+x.2.1)=n+x.2.1 from Zr,Zr];have l:=Z72 N (pre++[x]) rest x.2.1 (n+x.2.1-x.1) Af Aa b Aa Aa Aa
  grind[bu]
theorem kc(l:List Zi)(hl:l.length<=1048576:=by omega):bH l=K2 (ite (rsB (-1) l=K4) (bu l) (-1),()):=by
 unfold bH;rw[fu l hl,pA];cases h1:rsB (-1) l
 ·simp
 ·have:=Z72 (fa l 0 0) [] l (-1) 0 (by simpa using hl) (by simp[fa]) h1 Aa Aa Aa;simp_all
abbrev Qkm(s:Zk):Int:=s.2.1.2.2.1
structure Jr(K:Int)(s:Zk):Prop where
 cells:s.2.1.2.2.2.1.length<=64
 e0:0<=s.2.1.2.2.1
 eK:s.2.1.2.2.1<=K
 pend:RL s.2.1.2.2.1 s.2.2.1
 pT:RL s.2.1.2.2.1 s.2.2.2.1
 pO:RL s.2.1.2.2.1 s.2.2.2.2.1
theorem Jr.mono{K K':Int}(h:Jr K s)(hK:K<=K'):Jr K' s:={h with eK:=Int.le_trans h.eK hK}
theorem Qm{K:Int}(h:RL E l)(h0:0<=E)(hE:E<=K)(hK:K<=1000000:=by omega):l.length<=1000001:=by
 have:=Qqb h Aa;omega
theorem Z2{l:List α}(h:i<l.length:=by omega):l.getD i d∈l:=by
 simp_all
theorem lI{K:Int}(h:Jr K s)(hK:K<=1000000:=by omega):iJ s=K2 (s,()):=by
 unfold iJ;rw[Zn5 _ (by have:=h.cells;omega),Zn4 _ (Lk (Qm h.pend h.e0 h.eK hK) Aa),pA,Zn4 _ (Lk (Qm h.pT h.e0 h.eK hK) Aa),pA,pA,Zn4 _ (Lk (Qm h.pO h.e0 h.eK hK) Aa),pA]
theorem Zqu(s:Zk):∃k,ch s=K2 (k,()):=by
 unfold ch
 grind
theorem Zv8(s:Zk)(hl:s.2.2.2.2.1.length<=1048576):∀(N i:Nat),s.2.2.2.2.1.length-i<N->i<=s.2.2.2.2.1.length-> ∃b,fW N s (i:Int)=K2 (b,())
 |0,_,h,_=>Aa
 |N+1,i,a,d=>by
  unfold fW;by_cases h:i<s.2.2.2.2.1.length
  ·rw[Zn (Zl),Zb,Zs h];cases K3 ((s.2.2.2.2.1.getD (i:Int).toNat Z3).2.1>s.2.2.2.2.2.2.2.1)
   ·exact Zv8 s hl N (i+1) Aa Aa
   simp_all
  ·rw[Zp (Zm)];obtain⟨k,hk⟩:=Zqu s;rw[hk];generalize ((!((s.2.2.2.2.2.2.1==(0:Int))==(s.2.2.2.2.2.1==(-1:Int))))||((s.2.2.2.2.2.1 !=(-1:Int))&&(s.2.2.2.2.2.1 !=s.2.1.2.2.1)))=c;cases c<;>exact⟨_,rfl⟩
theorem Zv7(s:Zk)(hl:s.2.2.2.1.length<=1048576)(hl2:s.2.2.2.2.1.length<=1048576):∀(N i:Nat),s.2.2.2.1.length-i<N->i<=s.2.2.2.1.length-> ∃b,fV N s (i:Int)=K2 (b,())
 |0,_,h,_=>Aa
 |N+1,i,a,c=>by
  unfold fV;by_cases h:i<s.2.2.2.1.length
  ·rw[Zn (Zl),Zb,Zs h];cases K3 ((s.2.2.2.1.getD (i:Int).toNat Z3).2.1>s.2.2.2.2.2.2.2.1)
   ·exact Zv7 s hl hl2 N (i+1) Aa Aa
   simp_all
  ·rw[Zp (Zm)];exact Zv8 s hl2 _ 0 (by simp[mg]) Aa
theorem Z71(h:bu l≠0):0<l.length:=by
 cases l with
 |nil=>exact absurd rfl h
 |cons=>simp
theorem Zv6{K:Int}{s:Zk}(hs:Jr K s)(hK:K<=1000000):∀(N i:Nat)(all:List Zi),RL (Qkm s) all->s.2.2.2.2.1.length-i<N->i<=s.2.2.2.2.1.length-> ∃b,fU N s all (i:Int)=K2 (b,())
 |0,_,_,_,h,_=>Aa
 |N+1,i,all,a,f,g=>by
  have j:=Qm a hs.e0 hs.eK hK;have k:=Qm hs.pend hs.e0 hs.eK hK;have l:=Qm hs.pT hs.e0 hs.eK hK;have m:=Qm hs.pO hs.e0 hs.eK hK;unfold fU;by_cases h:i<s.2.2.2.2.1.length
  ·rw[Zn (Zl),Zb,Zs h,ia _ _,pA];exact Zv6 hs hK N (i+1) _ (vd a (hs.pO.2 _ (Z2 h))) Aa Aa
  ·rw[Zp (Zm),kc _,kc _,kc _,kc _,Zeo _ _];simp only[pA,a.1,if_true];rw[Zb (λd e=>by
    simp only[Lh,bne_eq_false_iff_eq,decide_eq_true_eq]at d e
    grind[Z71])]
   generalize n:((bu all !=s.2.1.2.2.1||_)||_)=c;cases c
   ·simp only[pH,pA];generalize ((Lc||_)||_)=c2;cases c2
    ·exact Zv7 s Aa Aa _ 0 (by simp[fE]) Aa
    simp_all
   simp_all
theorem Zv5{K:Int}{s:Zk}(hs:Jr K s)(hK:K<=1000000):∀(N i:Nat)(all:List Zi),RL (Qkm s) all->s.2.2.2.1.length-i<N->i<=s.2.2.2.1.length-> ∃b,fT N s all (i:Int)=K2 (b,())
 |0,_,_,_,h,_=>Aa
 |N+1,i,all,a,c,d=>by
  have e:=Qm a hs.e0 hs.eK hK;have f:=Qm hs.pT hs.e0 hs.eK hK;unfold fT;by_cases h:i<s.2.2.2.1.length
  ·rw[Zn (Zl),Zb,Zs h,ia _ _,pA];exact Zv5 hs hK N (i+1) _ (vd a (hs.pT.2 _ (Z2 h))) Aa Aa
  ·rw[Zp (Zm)];exact Zv6 hs hK _ 0 all a (by simp[fD]) Aa
theorem xz{K:Int}(hs:Jr K s)(hK:K<=1000000:=by omega):∃b,K9 s=K2 (b,())/\(b=K4->pw s.2.1=K4/\0<=s.2.2.2.2.2.2.2.1/\s.2.2.2.2.2.2.2.1<=s.2.1.2.2.1):=by
 have f:=Qm hs.pend hs.e0 hs.eK hK;have g:=Qm hs.pT hs.e0 hs.eK hK;have h:=Qm hs.pO hs.e0 hs.eK hK;have a:=(zK s.2.1 (by have:=hs.cells;omega)).1;obtain⟨i,j⟩:=Zv5 hs hK (Va s s.2.2.1 0) 0 s.2.2.1 hs.pend (by simp[Va]) Aa;unfold K9 gH;rw[a,fu _,fu _,fu _];have c:Z9 s.2.2.2.2.2.2.2.1 0 s.2.1.2.2.1=K2 (K3 (s.2.2.2.2.2.2.2.1>=0)&&K3 (s.2.2.2.2.2.2.2.1<=s.2.1.2.2.1),()):=rfl;have d:Q9 s.2.2.2.2.2.2.2.2.1=K2 (K3 (s.2.2.2.2.2.2.2.2.1>=0)&&K3 (s.2.2.2.2.2.2.2.2.1<=4611686018427387903),()):=rfl;have e:Z9 s.2.2.2.2.2.2.1 0 3=K2 (K3 (s.2.2.2.2.2.2.1>=0)&&K3 (s.2.2.2.2.2.2.1<=3),()):=rfl;simp only[hs.pend.1,hs.pT.1,hs.pO.1,c,d,e,pA];cases pw s.2.1
 ·simp_all
 grind
theorem Zwm{K:Int}(h:Jr K s)(d:Ba)(hK:K+d.length<=1000000:=by omega):
  ∃x n,df s d=K2 (x,n,())/\Jr (K+d.length) x:=by
 have f:=h.e0;have i:=h.cells;have e:=h.eK;obtain⟨b,j,-⟩:=xz h;have l:=Qm h.pend f e;unfold df tO;rw[lI h,j];simp only[pA];generalize (((!b)||(K3 (s.1>(1:Int))))||(s.2.2.2.2.2.1 !=(-1:Int)))=c;cases c
 ·obtain⟨m,n,k,o,p,q⟩:=Zvh s.2.1 d Aa Aa f;rw[pH,k,pA];unfold kb;have a:RL (s.2.1.2.2.1+n) s.2.2.2.1/\RL (s.2.1.2.2.1+n) s.2.2.2.2.1:=⟨Zfy h.pT,Zfy h.pO⟩
  by_cases g:(n:Int)>0
  ·rw[Zn (Zl g),ia _ _,pA];exact⟨_,_,rfl,{cells:=Ab,e0:=Ab,eK:=Ab,pend:=vd (Zfy h.pend Ab) Ab,pT:=a.1,pO:=a.2}⟩
  ·rw[Zp (Zm g)];exact⟨_,_,rfl,{cells:=Ab,e0:=Ab,eK:=Ab,pend:=Zfy h.pend Ab,pT:=a.1,pO:=a.2}⟩
 ·exact⟨s,0,rfl,h.mono Aa⟩
theorem Zvu{K:Int}(h:Jr K s)(hK:K<=1000000:=by omega):∃x ok,cY s=K2 (x,ok,())/\Jr K x:=by
 obtain⟨b,a,-⟩:=xz h hK;unfold cY;rw[lI h hK,a];simp only[pA];generalize (((!b)||(K3 (s.1>(1:Int))))||(s.2.2.2.2.2.1 !=(-1:Int)))=c;cases c
 ·exact⟨_,_,rfl,{cells:=h.cells,e0:=h.e0,eK:=h.eK,pend:=h.pend,pT:=h.pT,pO:=h.pO}⟩
 simp_all
theorem ZV(E:Int):RL E []:=⟨rfl,Ae⟩
theorem ZH{K:Int}(h:Jr K s)(code:Int)(hK:K<=1000000:=by omega):∃x ok,Ju s code=K2 (x,ok,())/\Jr K x:=by
 have c:=h.cells;have d:=h.eK;obtain⟨b,e,f⟩:=xz h hK;unfold Ju gH;rw[e];simp only[pA];have g:Q9 code=K2 (K3 (code>=0)&&K3 (code<=4611686018427387903),()):=rfl;rw[g];cases b
 ·simp only[Lj,L4,pG,pA];rw[lI h hK];simp_all
 ·obtain⟨i,a,j⟩:=f rfl;obtain⟨⟨k,l⟩,-⟩:=(zK s.2.1 Aa).2 i;simp only[pI,Ld];generalize (K3 (code>=0)&&K3 (code<=4611686018427387903))=q;cases K3 (s.1>2)
  ·cases q
   ·simp only[pH,pA,Lj,Ld,pG];rw[lI h hK];simp_all
   ·simp only[pH,pA,pI,L3,Xr,Ke];rw[Zb Aj];exact⟨_,_,rfl,{cells:=Af,e0:=a,eK:=Ab,pend:=ZV _,pT:=ZV _,pO:=ZV _}⟩
  ·simp only[pG,pA,L4];rw[lI h hK];simp_all
theorem Z59(s:Zk)(p:Qe)(hE0:0<=s.2.1.2.2.1)(hE:s.2.1.2.2.1<=1000000:=by omega):∃b,xN s p=K2 (b,())/\(b=K4->0<=p.1/\p.1+(p.2.1.length:Int)<=s.2.1.2.2.1):=by
 refine⟨_,rfl,λa=>?_⟩;simp only[pC,decide_eq_true_eq]at a
 grind[Zr]
theorem Zqt{p:Qe}(h0:0<=p.1)(h1:p.1+(p.2.1.length:Int)<=1000000:=by omega):kr p=K2 ((p.1,p.1+(p.2.1.length:Int),()),()):=by
 grind[kr,Zr]
theorem Qgr{K:Int}(h:Jr K s)(p:Qe)(hK:K<=1000000):∃x ok,qe s p=K2 (x,ok,())/\Jr K x:=by
 have d:=h.e0;have a:=h.eK;have q:=Qm h.pend d a hK;have lf:=Qm h.pT d a hK;obtain⟨b,i,r⟩:=xz h hK;obtain⟨j,l,m⟩:=Z59 s p d;have e:∀t x,Jr K x-> ∃y ok,jd t x=K2 (y,ok,())/\Jr K y:=by
  intro t x hx;unfold jd;obtain⟨k,hk⟩:=Zqu x;rw[hk];exact⟨_,_,rfl,{cells:=hx.cells,e0:=hx.e0,eK:=hx.eK,pend:=hx.pend,pT:=hx.pT,pO:=hx.pO}⟩
 have f:∀t x,Jr K x-> ∃y ok,dP p t x=K2 (y,ok,())/\Jr K y:=by
  intro t x hx;unfold dP tF;cases p.2.2.1
  ·exact e Yw _ hx
  ·exact e Yw _ {cells:=hx.cells,e0:=hx.e0,eK:=hx.eK,pend:=hx.pend,pT:=hx.pT,pO:=hx.pO}
 unfold qe gH;rw[lI h hK,i];simp only[pA];generalize (((!b)||(K3 (s.1>(2:Int)))))=c0;cases c0
 ·simp only[pH,l,pA,Ld];generalize g:(((!j)||((p.2.1==([]:Ba))&&(!p.2.2.1)))||(p.2.2.1&&(s.2.2.2.2.2.2.1 !=(1:Int))))=c;cases c
  ·simp only[Lh,Ls]at g;obtain⟨n,o⟩:=m g.1.1;rw[pH];cases p.2.1==([]:Ba)
   ·simp only[Lj,pG];rw[Zqt n,pA];rw[WO _ _ Aa Ae,pA];simp only;generalize (ite (rsB (-1) s.2.2.1=K4/\rsB (-1) [((p.1,p.1+(p.2.1.length:Int),()):Zi)]=K4) (List.flatMap (λx=>List.flatMap (Zdw x) [((p.1,p.1+(p.2.1.length:Int),()):Zi)]) s.2.2.1) [])=cm;rw[Zb (λu=>Ag)];generalize ((cm.length:Int) !=1||_)=c3;cases c3
    ·rw[pH,q9 _ _,pA,ia _ _,pA];exact f Yw _ {cells:=h.cells,e0:=h.e0,eK:=h.eK,pend:=Zfz h.pend,pT:=vd h.pT o,pO:=h.pO}
    grind
   ·exact f Yw _ h
  grind
 grind
theorem Zi1{r:Zi}{c:Prop}[Decidable c](h:∀x∈a,x.2.1<=E):∀y∈(ite c (a.flatMap λx=>[r].flatMap (Zdw x)) []),y.2.1<=E:=by
 intro y b;split at b
 ·simp only[List.mem_flatMap,List.mem_singleton,exists_eq_left]at b
  grind[Zdw]
 ·cases b
theorem Zns{r:Zi}{c:Prop}[Decidable c]:(ite c (a.flatMap λx=>[r].flatMap (Zdw x)) []).length<=a.length:=by
 split
 ·have:=qz (f:=λx=>[r].flatMap (Zdw x)) (k:=1) (λx=>by simp_all[Z73]) a;omega
 ·simp
theorem Qnj(r:Zi)(h0:0<=r.1):rsB (-1) [r]=W7 r:=by
 simp only[rsB,L2]
 grind
theorem Jr.lists{K:Int}(h:Jr K s){f:List Zi}(hf:RL s.2.1.2.2.1 f)(ha:RL s.2.1.2.2.1 a):Jr K (s.1,s.2.1,s.2.2.1,f,a,s.2.2.2.2.2):=
 {cells:=h.cells,e0:=h.e0,eK:=h.eK,pend:=h.pend,pT:=hf,pO:=ha}
theorem Zvj{K:Int}{x:Zk}(hs:Jr K s)(hx:Jr K x)(he:x.2.1=s.2.1)(t:Zk)(hK:K<=1000000):∃y,bf s t x=K2 (y,())/\Jr K y:=by
 have a:=hs.cells;have f:=Qm hx.pO hx.e0 hx.eK hK;unfold bf;simp only[Xr,Ke];rw[Zeo _ _,pA];obtain⟨c,b,g,d,h⟩:=Qh5 s.2.1 (ite (rsB (-1) x.2.2.2.2.1=K4/\0<=(0:Int)) (VH x.2.2.2.2.1 0) (-1)) Aa;rw[d,pA];unfold kM;obtain⟨k,hk⟩:=Zqu (x.1,(s.2.1.1,b,s.2.1.2.2.1,c,()),x.2.2);rw[hk,pA];refine⟨_,rfl,?_⟩;have e:x.2.1.2.2.1=s.2.1.2.2.1:=by rw[he]
 exact {cells:=Ab,e0:=hs.e0,eK:=hs.eK,pend:=(by have:=hx.pend;simp_all),pT:=(by have:=hx.pT;simp_all),pO:=(by have:=hx.pO;simp_all)}
theorem Zvi{K:Int}{x:Zk}(hs:Jr K s)(hx:Jr K x)(he:x.2.1=s.2.1)(p:Qe)(t:Zk)(hK:K<=1000000):∃y,Ww s p t x=K2 (y,())/\Jr K y:=by
 unfold Ww tF;cases p.2.2.1&&(s.2.2.2.2.2.2.1==(2:Int))
 ·exact Zvj hs hx he t hK
 ·exact Zvj hs (x:=(x.1,x.2.1,x.2.2.1,x.2.2.2.1,x.2.2.2.2.1,x.2.2.2.2.2.1,(3:Int),x.2.2.2.2.2.2.2)) {cells:=hx.cells,e0:=hx.e0,eK:=hx.eK,pend:=hx.pend,pT:=hx.pT,pO:=hx.pO} he t hK
theorem Zvk{K:Int}{s:Zk}(hs:Jr K s)(p:Qe)(t:Zk)(hK:K<=1000000)(c:List Zi)(hcl:c.length<=1048576)(hc:∀y∈c,y.2.1<=s.2.1.2.2.1):∀(N i:Nat)(x:Zk),Jr K x->x.2.1=s.2.1->c.length-i<N->i<=c.length->
  ∃y,bg N s p t x c (i:Int)=K2 (y,())/\Jr K y
 |0,_,_,_,_,h,_=>Aa
 |N+1,i,x,hx,a,f,g=>by
  have lf:=Qm hx.pT hx.e0 hx.eK hK;have j:=Qm hx.pO hx.e0 hx.eK hK;unfold bg gG gI;by_cases h:i<c.length
  ·have b:=hc _ (Z2 (d:=Z3) h);have e:x.2.1.2.2.1=s.2.1.2.2.1:=by rw[a]
   rw[Zn (Zl),Zb,q9 _ _,pA,Zb,ia _ _,pA,Zs h];exact Zvk hs p t hK c hcl hc N (i+1) _ (hx.lists (Zfz hx.pT) (vd hx.pO (by rw[e];exact b))) a Aa Aa
  ·rw[Zp (Zm)];exact Zvi hs hx a p t hK
theorem Zpv{K:Int}(h:Jr K s)(p:Qe)(hK:K<=1000000:=by omega):∃x,gu s p=K2 (x,())/\Jr K x:=by
 have e:=h.e0;have d:=h.eK;have lf:=Qm h.pT e d hK;obtain⟨b,f,m⟩:=xz h hK;obtain⟨g,i,j⟩:=Z59 s p e;unfold gu gH;rw[lI h hK,f];simp only[pA];generalize ((!b)||(K3 (s.1>(2:Int))))=c0;cases c0
 ·simp only[pH,i,pA,Ld];cases g
  ·simp_all
  ·obtain⟨k,n⟩:=j rfl;simp only[pI,pH];cases p.2.1==([]:Ba)
   ·simp only[Lj,pG];rw[Zqt k,pA];rw[WO _ _ Aa Ae,pA];have o:=Zns (a:=s.2.2.2.1) (r:=((p.1,p.1+(p.2.1.length:Int),()):Zi)) (c:=rsB (-1) s.2.2.2.1=K4/\rsB (-1) [((p.1,p.1+(p.2.1.length:Int),()):Zi)]=K4);have l:=Zi1 (a:=s.2.2.2.1) (r:=((p.1,p.1+(p.2.1.length:Int),()):Zi)) (c:=rsB (-1) s.2.2.2.1=K4/\rsB (-1) [((p.1,p.1+(p.2.1.length:Int),()):Zi)]=K4) h.pT.2;exact Zvk h p _ hK _ Aa l _ 0 s h rfl (by simp_all[bS]) Aa
   ·exact Zvi h h rfl p _ hK
 simp_all
theorem Zqx{K:Int}{x:Zk}(hx:Jr K x)(p:Qe)(t:Zk):∃y,Vv s p t x=K2 (y,())/\Jr K y:=by
 have a:∀x,Jr K x-> ∃y,bL t x=K2 (y,())/\Jr K y:=by
  intro x hx;unfold bL;obtain⟨k,hk⟩:=Zqu x;rw[hk];exact⟨_,rfl,{cells:=hx.cells,e0:=hx.e0,eK:=hx.eK,pend:=hx.pend,pT:=hx.pT,pO:=hx.pO}⟩
 unfold Vv;cases p.2.2.1&&(s.2.2.2.2.2.2.1==(2:Int))
 ·exact a _ hx
 ·exact a _ {cells:=hx.cells,e0:=hx.e0,eK:=hx.eK,pend:=hx.pend,pT:=hx.pT,pO:=hx.pO}
theorem Zqy{K:Int}{s:Zk}(p:Qe)(t:Zk)(hK:K<=1000000)(c:List Zi)(E:Int)(hcl:c.length<=1048576)(hc:∀y∈c,y.2.1<=E):∀(N i:Nat)(x:Zk),Jr K x->x.2.1.2.2.1=E->c.length-i<N->i<=c.length->
  ∃y,aw N s p t x c (i:Int)=K2 (y,())/\Jr K y
 |0,_,_,_,_,h,_=>Aa
 |N+1,i,x,hx,a,e,f=>by
  have lf:=Qm hx.pT hx.e0 hx.eK hK;have g:=Qm hx.pend hx.e0 hx.eK hK;unfold aw gG gI;by_cases h:i<c.length
  ·have b:=hc _ (Z2 (d:=Z3) h);rw[Zn (Zl),Zb,q9 _ _,pA,Zb,ia _ _,pA,Zs h];exact Zqy p t hK c E hcl hc N (i+1) _ {cells:=hx.cells,e0:=hx.e0,eK:=hx.eK,pend:=vd hx.pend (by rw[a];exact b),pT:=Zfz hx.pT,pO:=hx.pO} a Aa Aa
  ·rw[Zp (Zm)];exact Zqx hx p t
theorem Zld{K:Int}(h:Jr K s)(p:Qe)(hK:K<=1000000:=by omega):∃x,dM s p=K2 (x,())/\Jr K x:=by
 have e:=h.e0;have d:=h.eK;have lf:=Qm h.pT e d hK;obtain⟨b,f,m⟩:=xz h hK;obtain⟨g,i,j⟩:=Z59 s p e;unfold dM gH;rw[lI h hK,f];simp only[pA];generalize ((!b)||(K3 (s.1>(2:Int))))=c0;cases c0
 ·simp only[pH,i,pA,Ld];cases g
  ·simp_all
  ·obtain⟨k,n⟩:=j rfl;simp only[pI,pH];cases p.2.1==([]:Ba)
   ·simp only[Lj,pG];rw[Zqt k,pA];rw[WO _ _ Aa Ae,pA];have o:=Zns (a:=s.2.2.2.1) (r:=((p.1,p.1+(p.2.1.length:Int),()):Zi)) (c:=rsB (-1) s.2.2.2.1=K4/\rsB (-1) [((p.1,p.1+(p.2.1.length:Int),()):Zi)]=K4);have l:=Zi1 (a:=s.2.2.2.1) (r:=((p.1,p.1+(p.2.1.length:Int),()):Zi)) (c:=rsB (-1) s.2.2.2.1=K4/\rsB (-1) [((p.1,p.1+(p.2.1.length:Int),()):Zi)]=K4) h.pT.2;exact Zqy p _ hK _ _ Aa l _ 0 s h rfl (by simp_all[bn]) Aa
   ·exact Zqx h p _
 simp_all
theorem Qhy(c:Ku)(n:Int)(h:dy c):∃b c',w8 c n=K2 ((b,()),c',())/\dy c':=by
 unfold w8;obtain⟨x,d,a,e,-,-⟩:=Zeg c n h;rw[a,pA]
 grind
theorem Z3o(c:Ku)(l:List Ba)(h:dy c)(hl:0<l.length):∃x c',ri c l=K2 ((x,()),c',())/\dy c'/\x∈l:=by
 unfold ri gG;obtain⟨x,e,b,f,d,a⟩:=Zeg c (l.length:Int) h;have a:=a Aa;rw[b,pA];simp only[];rw[Zb ⟨d,a⟩]
 grind
theorem Zze:∀(N m:Nat)(c:Ku)(s:Ba),dy c->m<N->s.length+m<=1000000-> ∃t c',iI N c s (m:Int)=K2 ((t,()),c',())/\dy c'/\t.length<=s.length+m
 |0,_,_,_,_,h,_=>Aa
 |N+1,0,c,s,a,_,_=>by
  unfold iI
  grind
 |N+1,m+1,c,s,a,i,j=>by
  unfold iI;rw[Zn (Zl)];obtain⟨x,b,d,f,hx⟩:=Z3o c [([97]:Ba),([98]:Ba),([99]:Ba),([100]:Ba)] a Ae;have g:x.length=1:=Ag
  rw[d,pA,Zb Al];have e:Lb.wrap (((m+1:Nat):Int)-1)=(m:Int):=Ao
  rw[e];obtain⟨t,k,l,n,o⟩:=Zze N m b (s++x) f Aa Af
  grind
theorem Qhx(c:Ku)(most:Nat)(h:dy c)(hm:most<=1000):∃t c',rl c (most:Int)=K2 ((t,()),c',())/\dy c'/\t.length<=most:=by
 unfold rl;obtain⟨x,b,d,e,f,a⟩:=Zeg c (Lb.wrap ((most:Int)+1)) h;rw[d,pA];rw[Zr]at a;have a:=a Aa;obtain⟨m,rfl⟩:=Lm f;obtain⟨t,g,i,j,k⟩:=Zze (oQ b [] (m:Int)) m b [] e (by simp[oQ]) Af
 grind
def inR(n:Int)(l:List Zi):Prop:= ∃x∈l,x.1<=n/\n<x.2.1
theorem Zq3:∀{l:List Zi}{r:Zi}{n:Int},inR n (jf l r)->inR n l\/(r.1<=n/\n<r.2.1)
 |[],r,n,⟨x,hx,h⟩=>by simp_all[jf]
 |y::l,r,n,⟨x,hx,h⟩=>by
  have a:inR n l->inR n (y::l):=λ⟨z,b,c⟩=>⟨z,by simp[b],c⟩
  unfold jf at hx;split at hx
  ·rcases Lq.1 hx with rfl|hx
   ·exact .inl ⟨x,Ae,h⟩
   ·exact(Zq3 ⟨x,hx,h⟩).imp a id
  ·split at hx
   ·rcases Lq.1 hx with rfl|hx
    ·exact .inr h
    ·exact .inl ⟨x,hx,h⟩
   ·rcases Zq3 ⟨x,hx,h⟩with h'|h'
    ·simp_all
    ·simp only at h';by_cases d:y.1<=n/\n<y.2.1
     ·exact .inl ⟨y,Ae,d⟩
     omega
theorem Zi0:∀{l:List Zi}{r:Zi},(∀x∈l,x.1<=x.2.1)->r.1<=r.2.1->bu (jf l r)<=bu l+(r.2.1-r.1)
 |[],r,_,_=>by simp[jf,bu]
 |y::l,r,b,c=>by
  have a:∀x∈l,x.1<=x.2.1:=λx hx=>b x (by simp[hx]);have d:=b y Ae;unfold jf;split
  ·have:=Zi0 (l:=l) (r:=r) a c;grind[bu]
  ·split
   ·grind[bu]
   ·have:=Zi0 (l:=l) (r:=(min r.1 y.1,max r.2.1 y.2.1,())) a Ab;grind[bu]
def ckB:Int->List Qd->Bool|_,[]=>K4|e,c::l=> !(((K3 (c.1<=e))||(c.2.1==([]:Ba)))||(K3 (c.1>(Lb.wrap ((4611686018427387903:Int)- (c.2.1.length:Int))))))&&ckB (Lb.wrap (c.1+(c.2.1.length:Int))) l
def aY(n:Int):Bool:=K3 (n>=0)&&K3 (n<=4611686018427387903)
theorem Kh(n:Int):Q9 n=K2 (aY n,()):=rfl
theorem X4:aY n=K4↔0<=n/\n<=4611686018427387903:=by simp[aY]
def qs(b:Zv):Bool:=ckB (Lb.wrap (b.1-1)) b.2.1&&aY b.1
theorem Zna(b:Zv):∀(N:Nat)(pre rest:List Qd)(e:Int),b.2.1=pre++rest->b.2.1.length<=1048576->rest.length<N->kS N b e (pre.length:Int)=K2 (ckB e rest&&aY b.1,())
 |0,_,_,_,_,_,h=>Aa
 |N+1,pre,[],e,a,d,f=>by
  simp_all[kS,Kh,ckB]
 |N+1,pre,c::rest,e,a,d,f=>by
  have g:b.2.1.length=pre.length+rest.length+1:=Ag
  simp only[Le]at f;have i:b.2.1.getD (pre.length:Int).toNat Qt=c:=Ag
  unfold kS;rw[Zn (Zl),Zb];simp only[i];have j:=Zna b N (pre++[c]) rest (Lb.wrap (c.1+(c.2.1.length:Int))) (by rw[a];simp) d Aa
  grind[Zs,ckB]
theorem lH(b:Zv)(hl:b.2.1.length<=1048576:=by omega):kx b=K2 (qs b,()):=by
 unfold kx;exact Zna b _ [] b.2.1 _ rfl hl (by simp[ut])
def rgC(c:Qd):Zi:=(c.1,c.1+(c.2.1.length:Int),())
def mj:List Qd->Nat|[]=>0|c::l=>c.2.1.length+mj l
theorem Zak:∀{l:List Qd}{c:Qd},c∈l->c.2.1.length<=mj l
 |x::l,c,h=>by
  rcases Lq.1 h with rfl|h
  ·simp[mj]
  ·have:=Zak h;grind[mj]
structure bZ(K:Nat)(b:Zv):Prop where
 len:b.2.1.length<=K
 tot:mj b.2.1<=K
theorem bZ.mono(h:bZ K b)(hK:K<=K'):bZ K' b:=⟨Lk h.len hK,Lk h.tot hK⟩
theorem Qhs:∀{l:List Qd}{e:Int},mj l<=1000000-> -1<=e->ckB e l=K4->rsB e (l.map rgC)=K4
 |[],_,_,_,_=>rfl
 |c::l,e,b,g,h=>by
  simp only[mj]at b;simp only[ckB,pC,Bool.not_eq_true',Lh,decide_eq_false_iff_not,beq_eq_false_iff_ne]at h;obtain⟨⟨⟨i,d⟩,f⟩,a⟩:=h;rw[Zr]at f;rw[Zr]at a;have j:0<c.2.1.length:=Mf.2 d;rw[Mg,Wp];exact⟨Qh.2 (by grind[rgC]),by simp_all[rgC],Qhs Aa (by grind[rgC]) a⟩
theorem Zxp:∀(l:List Qd),bu (l.map rgC)=(mj l:Int)
 |[]=>rfl
 |c::l=>by
  have:=Zxp l
  grind[bu,mj,rgC]
theorem Ziu(b:Zv)(ht:mj b.2.1<=1000000)(hb2:∀c∈b.2.1,-1<=c.1/\c.1<=4611686018427387903):∀(N:Nat)(pre rest:List Qd)(out:List Zi),b.2.1=pre++rest->b.2.1.length<=1048576->rest.length<N->out.length<=pre.length->qs b=K4->
  V5 N b out (pre.length:Int)=K2 (out++rest.map rgC,())
 |0,_,_,_,_,_,h,_,_=>Aa
 |N+1,pre,[],out,a,d,f,k,e=>by
  unfold V5;simp_all
 |N+1,pre,c::rest,out,a,d,f,k,e=>by
  have i:b.2.1.length=pre.length+rest.length+1:=Ag
  simp only[Le]at f;have n:b.2.1.getD (pre.length:Int).toNat Qt=c:=Ag
  have g:∀{ρ:Type}(m:Option ρ),Zh (0<=(pre.length:Int)/\(pre.length:Int)<(b.2.1.length:Int)) m=m:=λm=>Zb;have q:=hb2 c (by rw[a];simp);have o:=Zak (l:=b.2.1) (c:=c) (by rw[a];simp);unfold V5;have p:K3 ((pre.length:Int)<(b.2.1.length:Int))=true:=Zl;rw[p,lH b d,e];simp only[pG,pA,Lr,g,n];rw[Zb Aj,Zs (m:=pre.length+1),Zr];have j:=Ziu b ht hb2 N (pre++[c]) rest (out++[rgC c]) (by rw[a];simp) d Aa Af e;rw[show((pre++[c]).length:Int)=((pre.length+1:Nat):Int) by simp]at j;refine Ly j ?_;simp
theorem zx(ht:mj b.2.1<=1000000)(h:qs b=K4):0<=b.1/\b.1<=4611686018427387903/\rsB (b.1-1) (b.2.1.map rgC)=true:=by
 unfold qs at h;simp only[pC]at h
 grind[X4,Zr,Qhs]
theorem Zp3(hi:bZ K b)(hK:K<=1000000:=by omega):uT b=K2 (ite (qs b=K4) (b.2.1.map rgC) [],()):=by
 have e:=hi.len;have f:=hi.tot;unfold uT;cases hB:qs b
 ·show V5 (_+1) b [] 0=_
  grind[V5,lH]
 ·obtain⟨g,h,a⟩:=zx Aa hB;have:=Ziu b Aa (λc d=>by
   have i:=rJ a (rgC c) (Mi d)
   grind[Qh,rgC]) (eV b [] 0) [] b.2.1 [] rfl Aa (by simp[eV]) Ae hB
  simp_all
theorem Zvr(b:Zv)(at_:Int)(h0:0<=at_)(h1:at_<=4611686018427387903)(ht:mj b.2.1<=1000000)(hq:∀c∈b.2.1,0<=c.1/\c.1<=4611686018427387903):∀(N:Nat)(pre rest:List Qd),b.2.1=pre++rest->b.2.1.length<=1048576->rest<N->
  ∃v,iy N at_ b pre=K2 (v,())/\(v<0-> ¬inR at_ (rest.map rgC))/\v<=255
 |0,_,_,_,_,h=>Aa
 |N+1,pre,[],d,e,f=>by
  unfold iy gG gJ;rw[Zp (by rw[d];simp)];exact⟨-1,rfl,λ_ ⟨x,hx,_⟩=>by simp at hx,Aa⟩
 |N+1,pre,c::rest,d,e,f=>by
  have i:b.2.1=pre+rest.length+1:=Ag
  simp only[Le]at f;have k:b.2.1.getD (pre:Int).toNat Qt=c:=Ag
  have g:∀{ρ:Type}(m:Option ρ),Zh (0<=(pre:Int)/\pre<(b.2.1:Int)) m=m:=λm=>Zb;have s:=hq c (by rw[d];simp);have n:=Zak (l:=b.2.1) (c:=c) (by rw[d];simp);unfold iy gG gJ;rw[Zn (Zl)];simp only[g,k];rw[Zb (λ_=>Aa),Zb (λ_=>Aa),Zr,Zl,Zl];simp only[pJ];obtain⟨v,j,o,p⟩:=Zvr b at_ h0 h1 ht hq N (pre++[c]) rest (by rw[d];simp) e Aa;rw[show((pre++[c]):Int)=((pre+1:Nat):Int) by simp]at j;by_cases a:at_-c.1>=0/\at_-c.1<c.2.1
  ·rw[Zl a.1,Zl a.2,Lr,pG,Zb ⟨a.1,a.2⟩];have q:(c.2.1.getD (at_-c.1).toNat 0).toNat<256:=(c.2.1.getD (at_-c.1).toNat 0).toNat_lt;rw[Zr]
   grind
  ·rw[Zp Ac,Zs (m:=pre+1)];refine⟨v,j,λhv ⟨x,hx,r⟩=>?_,p⟩;rw[Mg]at hx;rcases Lq.1 hx with rfl|hx
   ·grind[rgC]
   ·exact o hv ⟨x,hx,r⟩
theorem Qqp(b:Zv)(at_:Int)(h0:0<=at_)(h1:at_<=4611686018427387903)(ht:mj b.2.1<=1000000)(hl:b.2.1.length<=1000000)(hq:∀c∈b.2.1,0<=c.1/\c.1<=4611686018427387903):
  ∃v,ZJ b at_=K2 (v,())/\(v<0-> ¬inR at_ (b.2.1.map rgC))/\v<=255:=by
 unfold ZJ;exact Zvr b at_ h0 h1 ht hq _ [] b.2.1 rfl Aa (by simp[oJ])
theorem Qi3{b:Zv}(ht:mj b.2.1<=1000000)(hbl:b.2.1.length<=1000000)(hq:∀c∈b.2.1,0<=c.1/\c.1<=4611686018427387903)(K1:(Int×Ba×Zv×Zv×Zv×List Zi×Int×Unit)->Oa Zv)(o:Int)(ho:0<=o/\o<=4611686018427387903)(d:Ba)(t x:Zv)(l:List Zi)(i:Nat)(hi:i<l)(r:Zi)(hr:l.getD i Z3=r)
  (h0:0<=r.1) (hH:r.2.1<=4611686018427387903) (hx:x.2.1.length<=1000000)
  (hin:∀n,r.1<=n->n<r.2.1->inR n (b.2.1.map rgC)\/(o<=n/\n<o+d)):
  ∀(N m:Nat)(s:Ba),(m:Int)<=r.2.1-r.1->m<N->s+m<=r.2.1-r.1->(r.2.1-r.1)<=2000000->
   ∃t':Ba,Kq K1 N o d b t x l (i:Int) s (r.2.1-m)=K1 (o,d,b,t,(x.1,x.2.1++[(r.1,t',())],x.2.2),l,Lb.wrap ((i:Int)+1),())/\(t':Int)<=r.2.1-r.1
 |0,_,_,_,h,_,_=>Aa
 |N+1,0,s,g,j,hs,f=>by
  unfold Kq gG gI;rw[Zb,show(i:Int).toNat=i from rfl,hr,Zp (Zm),Zb];simp only;rw[Zb Aj]
  grind
 |N+1,m+1,s,g,j,hs,f=>by
  unfold Kq gG gI;rw[Zb,show(i:Int).toNat=i from rfl,hr,Zn (Zl)];obtain⟨v,k,p,u⟩:=Qqp b (r.2.1- ((m+1:Nat):Int)) Aa Aa ht hbl hq;rw[k,pA];have a:∀v,∃t':Ba,cG K1 (λv=>Kq K1 N v.1 v.2.1 v.2.2.1 v.2.2.2.1 v.2.2.2.2.1 v.2.2.2.2.2.1 v.2.2.2.2.2.2.1 v.2.2.2.2.2.2.2.1 v.2.2.2.2.2.2.2.2.1) o d b t x l (i:Int) s (r.2.1- ((m+1:Nat):Int)) v=K1 (o,d,b,t,(x.1,x.2.1++[(r.1,t',())],x.2.2),l,Lb.wrap ((i:Int)+1),())/\(t':Int)<=r.2.1-r.1:=by
   intro v;unfold cG;obtain⟨y,q,w⟩:=Qjb v;rw[q,pA,Zb Al,Zr];have e:r.2.1- ((m+1:Nat):Int)+1=r.2.1- (m:Int):=Aa
   simp only[e];exact Qi3 ht hbl hq K1 o ho d t x l i hi r hr h0 hH hx hin N m (s++y) Aa Aa Af f
  by_cases hv:v<0
  ·have:=(hin (r.2.1- ((m+1:Nat):Int)) Aa Aa).resolve_left (p hv);rw[Zn (Zl hv),Zb Ao];exact a _
  simp_all[Zm]
theorem Qab:∀(a b:List Qd),mj (a++b)=mj a+mj b
 |[],b=>by simp[mj]
 |c::a,b=>by simp only[List.cons_append,mj,Qab a b];omega
theorem Qfi:∀{l:List Zi}{i:Nat},i<l->bu (l.drop i)=((l.getD i Z3).2.1- (l.getD i Z3).1)+bu (l.drop (i+1)):=by
 intro l i h;rw[Qy (d:=Z3) h];rfl
theorem Qi2{b:Zv}(ht:mj b.2.1<=1000000)(hbl:b.2.1.length<=1000000)(hq:∀c∈b.2.1,0<=c.1/\c.1<=4611686018427387903)(o:Int)(ho:0<=o/\o<=4611686018427387903)(d:Ba)(t:Zv)(l:List Zi)
  (hl:l.length<=1000000) (hf:∀r∈l,W7 r=K4) (hc:bu l<=2000000)
  (hin:∀n,inR n l->inR n (b.2.1.map rgC)\/(o<=n/\n<o+d)) (M:Int) (hM:M<=4000000):
  ∀(N i:Nat)(x:Zv),l-i<N->i<=l->x.2.1<=i->(mj x.2.1:Int)+bu (l.drop i)<=M->
   ∃y,Wj N o d b t x l (i:Int)=K2 (y,())/\y.1=x.1/\y.2.1<=l.length/\(mj y.2.1:Int)<=M
 |0,_,_,h,_,_,_=>Aa
 |N+1,i,x,D,E,hx,F=>by
  unfold Wj gG gI;by_cases h:i<l
  ·have e:=Z2 (d:=Z3) h;have g:=Qh.1 (hf _ e);have G:=Qfi h;have j:∀{l:List Zi},(∀r∈l,W7 r=K4)->0<=bu l:=by
    intro l
    induction l with
    |nil=>simp_all[bu]
    |cons r l z=>
     intro p;have:=Qh.1 (p r Ae)
     grind[bu]
   have H:=j (l:=l.drop (i+1)) λr f=>hf r (List.mem_of_mem_drop f);have k:(l.getD i Z3).2.1- (l.getD i Z3).1<=2000000:=by
    have A:∀(l:List Zi),(∀r∈l,W7 r=K4)-> ∀r∈l,r.2.1-r.1<=bu l:=by
     intro l
     induction l with
     |nil=>simp_all
     |cons q l z=>
      intro p r f;have hq:=Qh.1 (p q Ae);have hl:=j (l:=l) λr f=>p r (by simp[f]);simp only[bu]
      grind
    grind
   rw[Zn (Zl),Zb,show(i:Int).toNat=i from rfl];generalize f:l.getD i Z3=r at*
   obtain⟨m,B⟩:=Lm (a:=r.2.1-r.1) Aa;obtain⟨C,w,I⟩:=Qi3 ht hbl hq (λv=>Wj N v.1 v.2.1 v.2.2.1 v.2.2.2.1 v.2.2.2.2.1 v.2.2.2.2.2.1 v.2.2.2.2.2.2.1) o ho d t x l i h r f g.1 g.2.2 Aa
    (λn s u=>hin n ⟨r,e,s,u⟩) (aA o d b t x l (i:Int) [] r.1) m [] Aa (by simp_all[aA]) Af k
   rw[show r.2.1- (m:Int)=r.1 by omega]at w;rw[w,Zs h];obtain⟨y,J,K,L,O⟩:=Qi2 ht hbl hq o ho d t l hl hf hc hin M hM N (i+1) (x.1,x.2.1++[(r.1,C,())],x.2.2) Aa Aa Af (by
    grind[Qab,mj])
   simp_all
  ·rw[Zp (Zm)];have:i=l:=Aa
   simp_all[bu]
theorem zL(h:bZ K b)(hK:K<=1000000:=by omega):ro b=K2 (b,()):=by
 have:=h.len
 grind[ro,Zb,Qp]
theorem Zz9(h:bZ K b)(o:Int)(d:Ba)(hK:K+d+1<=1000000):∃y,mL b o d=K2 (y,())/\bZ (K+d+1) y:=by
 have z:=h.len;have A:=h.tot;unfold mL;rw[lH b,pA];generalize i:((((!qs b)||(d==([]:Ba)))||(K3 (o<(0:Int))))||(K3 (o>(Lb.wrap ((4611686018427387903:Int)-d)))))=c;cases c
 ·simp only[Lh,Ls,decide_eq_false_iff_not]at i;obtain⟨⟨⟨p,B⟩,C⟩,t⟩:=i;rw[Zr]at t;obtain⟨D,E,q⟩:=zx Aa p;simp only[pH];rw[Zr];by_cases s:max o b.1>=o+d
  ·rw[Zn (Zl s),zL h];exact⟨b,rfl,h.mono Aa⟩
  ·rw[Zp (Zm s),Zp3 h,pA,p];simp only[if_true];have j:(b.2.1.map rgC).length<=1048576:=Ag
   rw[ia _ _ j,pA];have a:rsB (-1) (b.2.1.map rgC)=true:=Zfv q Aa;have e:W7 (max o b.1,o+d,())=true:=Qh.2 Ab;simp only[a,e,and_self,if_true];have k:=Zpx (l:=b.2.1.map rgC) (r:=((max o b.1,o+d,()):Zi));rw[Me]at k;have f:=Zi0 (l:=b.2.1.map rgC) (r:=((max o b.1,o+d,()):Zi)) (λx hx=>by
    have:=Qh.1 (rJ a x hx).2;omega) Ab
   rw[Zxp]at f;simp only at f;have g:=WK a e Ab;have m:∀c∈b.2.1,0<=c.1/\c.1<=4611686018427387903:=λc i=>by
    have F:=rJ q (rgC c) (Mi i)
    grind[Qh,rgC]
   obtain⟨y,u,G,H,I⟩:=Qi2 (b:=b) Aa Aa m o Aa d Zyi _ Aa (λr v=>(rJ g r v).2) Aa (λn w=>(Zq3 w).imp id λJ=>Ag) (K+d) Aa
    (az o d b Zyi (b.1,[],()) (jf (b.2.1.map rgC) (max o b.1,o+d,())) 0) 0 (b.1,[],()) (by simp[az]) Aa Ae (by grind[mj])
   exact⟨y,u,Aa,Aa⟩
 ·rw[pG,zL h];exact⟨b,rfl,h.mono Aa⟩
def Jq(b:Zv):Int:=ite (qs b=K4/\b.2.1≠[]/\(b.2.1.getD 0 Qt).1=b.1) ((b.2.1.getD 0 Qt).2.1.length:Int) 0
theorem lK(b:Zv)(hl:b.2.1.length<=1048576:=by omega):eE b=K2 (Jq b,()):=by
 unfold eE Jq;rw[lH b hl,pA];obtain⟨a,l,_⟩:=b;cases hB:qs (a,l,())
 ·simp[Zh]
 ·cases l with
  |nil=>simp[Zh]
  |cons c l=>
   simp only[pI,Ld];have e:(((c::l).length:Int)==0)=false:=by rfl
   rw[e,Zb (λ_=>Ac)];simp only[Ld,show(0:Int).toNat=0 from rfl,Lz,ne_eq,reduceCtorEq,not_false_eq_true,true_and];by_cases h:c.1=a
   all_goals simp_all[Zb,Zn]
theorem Zu5(h:bZ K b):0<=Jq b/\Jq b<=(K:Int)/\(Jq b≠0->qs b=K4/\ ∃c l,b.2.1=c::l/\Jq b=(c.2.1.length:Int)):=by
 unfold Jq;split
 ·rename_i a;obtain⟨d,l,_⟩:=b;cases l with
  |nil=>simp_all
  |cons c l=>
   have:=h.tot;simp only[mj]at this
   grind
 omega
theorem Zll(h:bZ K b)(hK:K<=1000000)(m:Int):∃s y,iD b m=K2 (s,y,())/\bZ K y/\s.length<=K:=by
 have a:=h.len;have d:=h.tot;obtain⟨q,r,i⟩:=Zu5 h;unfold iD;rw[lK b,zL h hK];simp only[pA];generalize t:min (Jq b) (max m 0)=n;by_cases e:n=0
 ·subst e
  grind
 ·rw[Zp (by simp[e])];obtain⟨j,c,l,f,u⟩:=i Aa;obtain⟨k,o,v⟩:=zx Aa j;rw[Zr];obtain⟨z,w,_⟩:=b;simp only at f a d k o;subst f;simp only[Le]at a;simp only[mj]at d;simp only[show(0:Int).toNat=0 from rfl,Lz,Le];rw[Zb];by_cases g:n=(c.2.1.length:Int)
  ·rw[Zn (by simp[g]),Zb];simp only[show(1:Int).toNat=1 from rfl,List.drop_succ_cons,Lp];have p:bZ K ((z+n,(l.take (((l.length+1:Nat):Int).toNat-1)),()):Zv):=by
    rw[show((l.length+1:Nat):Int).toNat-1=l.length by omega,List.take_length];exact⟨Ag,Ag⟩
   rw[zL p hK]
   grind
  ·rw[Zp (by simp[g]),Zb,Zb,Zb];refine⟨_,_,rfl,⟨?_,?_⟩,?_⟩
   all_goals grind[mj]
theorem Qdf(h:bZ K b)(hK:K<=1000000):∃v,wv b=K2 (v,()):=by
 have c:=h.len;unfold wv gG gH gJ;rw[lH b];by_cases a:b.2.1=[]
 ·simp_all
 ·have:0<b.2.1.length:=Mf.2 a;have e:((b.2.1.length:Int)==(0:Int))=false:=Ac
  rw[e];simp only[pH,pA,Ld];cases qs b
  ·simp_all
  ·simp only[pI,pH];rw[Zr,Zb];simp_all
theorem J5(c:Bool)(a b:α):(cond c (K2 a) (K2 b))=K2 (cond c a b):=by cases c<;>rfl
theorem Z44{P:α->β->Prop}{c:Bool}{m n:α}(h1:∃b,P m b)(h2:∃b,P n b):∃b,P (cond c m n) b:=Ag
theorem wc(h:bZ K r.2.1)(hK:K<=1000000):∃b,Yt r=K2 (b,()):=by
 have a:=h.len;obtain⟨v,k⟩:=Qdf h hK;have j:∀q,∃b,Kr r q=K2 (b,()):=λq=>by unfold Kr;cases q<;>exact⟨_,rfl⟩
 unfold Yt gH;rw[lH _,lK _,k];simp only[pA,Kh,J5]
 repeat' refine Z44 (P:=λm b=>m=K2 (b,())) ?_ ?_
 all_goals simp_all
theorem Z9a:∃r,qb=K2 (r,())/\bZ 0 r.2.1:=⟨_,rfl,Ae,by simp[mj]⟩
theorem Z0g(h:bZ K r.2.1)(hK:K<=1000000):nP r=K2 (r,()):=by
 grind[nP,zL]
theorem Qd0(r:Zu)(e:Int)(f:Bool):∃v,rZ r e f=K2 (v,()):=by
 unfold rZ
 grind
theorem Zdo(h:bZ K r.2.1)(o:Int)(d:Ba)(f:Bool)(hK:K+d.length+1<=1000000:=by omega):
  ∃y v,Yp r o d f=K2 (y,v,())/\bZ (K+d.length+1) y.2.1:=by
 have j:∀z t x,∃y v,Yq o d r z ((t,r.2.1,x):Zu)=K2 (y,v,())/\bZ (K+d.length+1) y.2.1:=by
  intro z t x;unfold Yq bD;obtain⟨b,e,g⟩:=Zz9 h o d hK;have a:b.2.1.length<=1048576:=by have:=g.len;omega
  simp only[e,pA,lK b a,J5]
  grind
 unfold Yp tD;obtain⟨q,i⟩:=wc h Aa;rw[Z0g h Aa,i];simp only[pA];generalize l:(((!q)||(K3 (o<(0:Int))))||(K3 (o>(Lb.wrap ((4611686018427387903:Int)- (d.length:Int))))))=c;cases c
 ·obtain⟨v,k⟩:=Qd0 r (Lb.wrap (o+(d.length:Int))) f;rw[pH,k,pA];generalize ((v !=(0:Int))||(K3 (r.1>(1:Int))))=c;cases c
  ·cases f
   ·exact j _ _ _
   ·exact j _ _ _
  ·exact⟨_,_,rfl,h.mono Aa⟩
 ·exact⟨_,_,rfl,h.mono Aa⟩
theorem Zaa(h:bZ K r.2.1)(hK:K<=1000000)(c f:Int):
  ∃y v,Kl r c f=K2 (y,v,())/\bZ K y.2.1:=by
 unfold Kl gH;obtain⟨q,a⟩:=wc h hK;obtain⟨v,b⟩:=Qd0 r f K4;rw[Z0g h hK,a,b];simp only[pA,Kh,J5];generalize ((_||_)||_:Bool)=x;cases x
 ·generalize ((_||_):Bool)=x;cases x
  ·exact⟨_,_,rfl,Ae,by simp[mj]⟩
  simp_all
 simp_all
theorem Zsd(h:bZ K r.2.1)(hK:K<=1000000)(m:Int):
  ∃s y,Vw r m=K2 ((s,y,()),())/\bZ K y.2.1/\s.length<=K:=by
 unfold Vw;obtain⟨q,a⟩:=wc h hK;obtain⟨s,b,c,d,e⟩:=Zll h hK m;rw[Z0g h hK,a,c];simp only[pA];cases q
 ·grind
 ·simp only[pI,pH];cases r.1==(4:Int)
  ·rw[pH];unfold de
   grind
  grind
theorem Zcw(n a b:Int):Z9 n a b=K2 (K3 (n>=a)&&K3 (n<=b),()):=rfl
theorem Z1a(n:Int):∃b,bp n=K2 (b,()):=⟨_,rfl⟩
theorem Znz(c:ks):∃b,aO c=K2 (b,()):=by
 obtain⟨b,h⟩:=Z1a c.1;simp_all[aO,Zcw,J5]
theorem Zjm(c:Ky):∃b,Vu c=K2 (b,()):=by
 simp_all[Vu,Kh,Zcw,J5]
theorem Ze2(w:Ql):∃b,bX w=K2 (b,()):=by
 simp_all[bX,Zcw,J5]
theorem Zn0(p:Q7):∃b,cg p=K2 (b,()):=by
 simp_all[cg,Zcw]
theorem Qf5(n:Int):∃c b,aS n=K2 (c,b,()):=by
 unfold aS;simp only[Kh,pA,J5]
 grind
theorem Qf7(n m:Int):∃c b,aT n m=K2 (c,b,()):=by
 unfold aT;simp only[Zcw,pA,J5]
 grind
theorem Qc1(s:Bool)(n:Int):∃b,Jy s n=K2 (b,()):=by
 simp_all[Jy,av,fS,mO,Kh,J5]
theorem Zy1(s:Bool)(n:Int):∃b,Ym s n=K2 (b,()):=by
 simp_all[Ym,av,fS,mO,Kh,J5]
structure Xc(K:Nat)(s:Zf):Prop where
 snd:Jr K s.2.1
 rcv:bZ K s.2.2.2.1.2.1
theorem Xc.mono{K K':Nat}{s:Zf}(h:Xc K s)(hK:K<=K'):Xc K' s:=⟨h.snd.mono Aa,h.rcv.mono hK⟩
theorem Zjn{s:Zf}(h:Xc K s)(hK:K<=1000000):∃b,g9 s=K2 (b,()):=by
 obtain⟨g,a,-⟩:=xz h.snd;obtain⟨i,c⟩:=Zjm s.2.2.1;obtain⟨j,d⟩:=wc h.rcv hK;obtain⟨k,e⟩:=Ze2 s.2.2.2.2.1;obtain⟨l,f⟩:=Zn0 s.2.2.2.2.2.1;unfold g9 gH;simp only[a,c,d,e,f,Kh,J5,pA]
 grind
theorem y8{s:Zf}(h:Xc K s)(hK:K<=1000000:=by omega):dR s=K2 (s,()):=by
 unfold dR;rw[lI h.snd,Z0g h.rcv hK];rfl
theorem Qif(l:List Zf)(n:Int)(hl:l.length<=1000000):∀(N i:Nat),l.length-i<N->i<=l.length-> ∃v,Kp N l n (i:Int)=K2 (v,())/\(v<0\/v<l.length)/\(v<0-> ∀s∈l.drop i,s.1≠n)/\(0<=v->(l.getD v.toNat Zc).1=n)
 |0,_,h,_=>Aa
 |N+1,i,f,g=>by
  unfold Kp;by_cases h:i<l.length
  ·rw[Zn (Zl),Zb,show(i:Int).toNat=i from rfl];by_cases e:(l.getD i Zc).1=n
   ·rw[Zn (beq_iff_eq.2 e)];exact⟨_,rfl,Aa,λh=>Aa,λ_=>e⟩
   ·rw[Zp (beq_eq_false_iff_ne.2 e),Zs h];obtain⟨v,a,b,j,c⟩:=Qif l n hl N (i+1) Aa Aa;refine⟨v,a,b,λhv s hs=>?_,c⟩;rw[Qy (d:=Zc) h]at hs
    grind
  simp_all[Zm,Li]
theorem Zax(l:List Zf)(n:Int)(hl:l.length<=1000000):∃v,Ko l n=K2 (v,())/\(v<0\/v<l.length)/\(v<0-> ∀s∈l,s.1≠n)/\(0<=v->(l.getD v.toNat Zc).1=n):=by
 unfold Ko;exact Qif l n hl _ 0 (by simp[Jm]) Aa
structure mi(K:Nat)(l:List Zf):Prop where
 len:l.length<=K
 all:∀s∈l,Xc K s
theorem mi.mono{K K':Nat}{l:List Zf}(h:mi K l)(hK:K<=K'):mi K' l:=⟨Lk h.len hK,λs hs=>(h.all s hs).mono hK⟩
theorem Qpr{K:Nat}{l:List Zf}{s:Zf}(h:mi K l)(hs:Xc K s)(hK:K<=500000)(a:Int):∀(N i:Nat)(out:List Zf)(p:Bool),l.length-i<N->i<=l.length->(∀x∈out,Xc K x)->out.length<=i+(ite p 1 0)->
  ∃y,Xz N l s out a p (i:Int)=K2 (y,())/\y.length<=l.length+1/\ ∀x∈y,Xc K x
 |0,_,_,_,h,_,_,_=>Aa
 |N+1,i,out,p,w,A,b,f=>by
  have g:=h.len;have m:out.length<=i+1:=Ag
  have c:∀{o:List Zf}{x},(∀x∈o,Xc K x)->Xc K x-> ∀z∈o++[x],Xc K z:=λb hx z B=>by
   grind
  unfold Xz;by_cases k:i<l.length
  ·have e:=h.all _ (Z2 (d:=Zc) k);rw[Zn (Zl),Zb,show(i:Int).toNat=i from rfl,y8 e,y8 hs];simp only[pA];have j:∀(o:List Zf)(q:Bool) x,(∀x∈o,Xc K x)->Xc K x->o.length<=i+(ite q 1 0)->
     ∃y,Kk (λv=>Xz N v.1 v.2.1 v.2.2.1 v.2.2.2.1 v.2.2.2.2.1 v.2.2.2.2.2.1) l s o a q (i:Int) x=K2 (y,())/\y.length<=l.length+1/\ ∀x∈y,Xc K x:=by
    intro o q x n r t;have u:o.length<=i+1:=by split at t<;>omega
    unfold Kk;rw[Zb Aj,Zs k];exact Qpr h hs hK a N (i+1) (o++[x]) q Aa Aa (c n r) Ag
   cases (i:Int)==a
   ·rw[pH,Zb (λ_=>Aa)];cases p
    ·simp only[Lj,pJ];cases K3 ((l.getD i Zc).1>s.1)
     ·exact j _ _ _ b e f
     ·rw[pG,Zb Aj];exact j _ _ _ (c b hs) e Ag
    ·exact j _ _ _ b e f
   ·exact j _ _ _ b hs f
  ·rw[Zp (Zm),y8 hs];cases p
   ·simp only[Lj,pG,pA];rw[Zb Aj]
    grind
   grind
theorem Z4c{l:List Zf}{s:Zf}(h:mi K l)(hs:Xc K s)(hK:K<=500000:=by omega):∃y,Q8 l s=K2 (y,())/\y.length<=l.length+1/\ ∀x∈y,Xc K x:=by
 unfold Q8;obtain⟨v,e,-⟩:=Zax l s.1 (by have:=h.len;omega);rw[e,pA];exact Qpr h hs hK _ _ 0 [] _ (by simp[bo]) Aa Ae Ae
theorem Qlh:Xc 0 (((0:Int),((0:Int),((0:Int),(0:Int),(0:Int),([]:List Int),()),([]:List Zi),([]:List Zi),([]:List Zi),(0:Int),(0:Int),(0:Int),(0:Int),()),((0:Int),(0:Int),(0:Int),(0:Int),()),((0:Int),((0:Int),([]:List Qd),()),(0:Int),(0:Int),(0:Int),()),((0:Int),(0:Int),(0:Int),(0:Int),(0:Int),(0:Int),()),((0:Int),Lc,()),Lc,Lc,Lc,Lc,Lc,Lc,(0:Int),Lc,()):Zf):=
 ⟨{cells:=Ae,e0:=Ln _,eK:=Ln _,pend:=ZV _,pT:=ZV _,pO:=ZV _},Ae,by simp[mj]⟩
theorem Qky(h:mi K c.2.2.2.1)(hK:K<=1000000)(n:Int):∃s b,Xt c n=K2 (s,b,())/\Xc K s:=by
 unfold Xt;obtain⟨v,e,f,-⟩:=Zax c.2.2.2.1 n (by have:=h.len;omega);rw[e,pA];by_cases hv:v<0
 ·rw[Zn (Zl hv)];exact⟨_,_,rfl,Qlh.mono Aa⟩
 ·have a:=h.all _ (Z2 (l:=c.2.2.2.1) (i:=v.toNat) (d:=Zc));rw[Zp (Zm hv),Zb Ab,y8 a hK];simp_all
theorem Qmp(n:Int):∃v,rQ n=K2 (v,()):=by
 unfold rQ;rw[Kh,pA,Zb,J5]
 grind
theorem Zqq(c:Ky):∃b,bk c=K2 (b,()):=by
 simp_all[bk,Zcw,J5]
theorem Zqr(c:dn):∃b,g7 c=K2 (b,()):=by
 simp_all[g7,Zcw,J5]
theorem Qol{K:Nat}{l:List Zf}(h:mi K l)(hK:K<=1000000):∀(N i:Nat),l.length-i<N->i<=l.length-> ∃b,Jh N l (i:Int)=K2 (b,())
 |0,_,h,_=>Aa
 |N+1,i,f,g=>by
  have a:=h.len;unfold Jh;by_cases c:i<l.length
  ·obtain⟨b,e⟩:=Zjn (h.all _ (Z2 (d:=Zc) c)) hK;rw[Zn (Zl),Zb,show(i:Int).toNat=i from rfl,e,pA,Zb (λ_ _=>Aa),
    Zb (λ_ h=>by have:=pE h;grind[Zr]),Zs c]
   exact Z44 (P:=λm b=>m=K2 (b,())) ⟨_,rfl⟩ (Qol h hK N (i+1) Aa Aa)
  simp_all[Zm]
theorem Zan{l:List Zf}(h:mi K l)(hK:K<=1000000):∃b,Vj l=K2 (b,()):=by
 unfold Vj;exact Qol h hK _ 0 (by simp[cX]) Aa
theorem Z4l{l:List Zf}(h:mi K l)(hK:K<=1000000):∃v,iC l=K2 (v,()):=by
 obtain⟨b,e⟩:=Zan h hK;have a:=h.len;have c:∀(N i:Nat)(n:Int),l.length-i<N->i<=l.length-> ∃v,Vy N l n (i:Int)=K2 (v,()):=by
  intro N
  induction N with
  |zero=>omega
  |succ N d=>
   intro i n g j;unfold Vy;rw[e,J5,pA];by_cases f:i<l.length
   ·rw[Zb,Zs f];exact Z44 (P:=λm b=>m=K2 (b,())) (d (i+1) _ Aa Aa) ⟨_,rfl⟩
   simp_all[Zm]
 unfold iC;exact c _ 0 0 (by simp[J0]) Aa
theorem Z4k{l:List Zf}(h:mi K l)(hK:K<=1000000):∃v,iB l=K2 (v,()):=by
 obtain⟨b,e⟩:=Zan h hK;have a:=h.len;have c:∀(N i:Nat)(n:Int),l.length-i<N->i<=l.length-> ∃v,Vx N l n (i:Int)=K2 (v,()):=by
  intro N
  induction N with
  |zero=>omega
  |succ N d=>
   intro i n g j;unfold Vx;rw[e,J5,pA];by_cases f:i<l.length
   ·rw[Zb,Zs f];exact Z44 (P:=λm b=>m=K2 (b,())) (d (i+1) _ Aa Aa) ⟨_,rfl⟩
   simp_all[Zm]
 unfold iB;exact c _ 0 0 (by simp[Jz]) Aa
def T{α:Type}(m:Option α)(Q:α->Prop):Prop:= ∃y,m=K2 y/\Q y
abbrev TT{α:Type}(m:Option α):Prop:=T m λ_=>True
section
variable {α β:Type}{m n:Option α}{f:α->Option β}{Q:α->Prop}{R:β->Prop}
theorem T.bind(h:T m Q)(k:∀y,Q y->T (f y) R):T (Lf m f) R:=by
 obtain⟨y,e,a⟩:=h;simp_all
theorem T.pure{y:α}(h:Q y):T (K2 y) Q:=⟨y,rfl,h⟩
theorem T.tt{y:α}:TT (K2 y):=⟨y,rfl,trivial⟩
theorem T.ite{c:Bool}(h1:c=K4->T m Q)(h2:c=Lc->T n Q):T (cond c m n) Q:=by
 grind
theorem T.if{c:Bool}(h1:T m Q)(h2:T n Q):T (cond c m n) Q:=T.ite (λ_=>h1) λ_=>h2
theorem T.guard{p:Prop}(hp:p)(h:T m Q):T (Zh p m) Q:=by simp_all[Zb]
theorem T.mono{Q':α->Prop}(h:T m Q)(k:∀y,Q y->Q' y):T m Q':=by
 obtain⟨y,e,a⟩:=h;exact⟨y,e,k y a⟩
end
theorem tt1{m:Oa α}(h:∃b,m=K2 (b,())):TT m:=by obtain⟨b,e⟩:=h;exact⟨_,e,trivial⟩
def FOK(f:Zj):Prop:=f.2.2.2.1.length<=1000
def Zwn(l:List Zj):Prop:=l.length<=1000/\ ∀f∈l,FOK f
def Zyl(K:Nat)(l:List Z6):Prop:=l.length<=K/\ ∀p∈l,Zwn p.2.1
theorem Zyl.mono{l:List Z6}(h:Zyl K l)(hK:K<=K'):Zyl K' l:=⟨Lk h.1 hK,h.2⟩
structure Q5(K:Nat)(c:Ze):Prop where
 str:mi K c.2.2.2.1
 pk:Zyl K c.2.2.2.2.2.2.2.2.2.2.2.2.2.2.2.1
theorem Q5.mono{K K':Nat}{c:Ze}(h:Q5 K c)(hK:K<=K'):Q5 K' c:=⟨h.str.mono hK,h.pk.mono hK⟩
theorem Z35{K:Nat}{l:List Z6}(h:Zyl K l)(hK:K<=1000000):∀(N i:Nat),l.length-i<N->i<=l.length->lZ N l (l.take i) (i:Int)=K2 (l,())
 |0,_,h,_=>Aa
 |N+1,i,b,c=>by
  have f:=h.1;unfold lZ gG gL;by_cases a:i<l.length
  ·have g:=(h.2 _ (Z2 (d:=Q1) a)).1;rw[Zn (Zl),Zb,Zb,show(i:Int).toNat=i from rfl,Zb Aj];simp only[List.nil_append];rw[Zb Aj,Zs a];have e:l.take i++[((l.getD i Q1).1,(l.getD i Q1).2.1,())]=l.take (i+1):=by
    grind[List.take_succ_eq_append_getElem]
   rw[e];exact Z35 h hK N (i+1) Aa Aa
  grind
theorem Qbi{l:List Z6}(h:Zyl K l)(hK:K<=1000000):zn l=K2 (l,()):=by
 unfold zn;exact Z35 h hK _ 0 (by simp[qf]) Aa
theorem Z3z{K:Nat}{c:Ze}(h:Q5 K c)(hK:K<=1000000)(t:Ze):∀(N i:Nat),c.2.2.2.1.length-i<N->i<=c.2.2.2.1.length->
  tf N c t (c.1,c.2.1,c.2.2.1,c.2.2.2.1.take i,c.2.2.2.2) (i:Int)=K2 (c,())
 |0,_,h,_=>Aa
 |N+1,i,b,f=>by
  have g:=h.str.len;unfold tf gG gK tD tH;by_cases a:i<c.2.2.2.1.length
  ·rw[Zn (Zl),Zb,show(i:Int).toNat=i from rfl,y8 (h.str.all _ (Z2 (d:=Zc) a)) hK,pA,
    Zb Aj,Zs a]
   have e:c.2.2.2.1.take i++[c.2.2.2.1.getD i Zc]=c.2.2.2.1.take (i+1):=by
    simp_all
   simp only[e];exact Z3z h hK t N (i+1) Aa Aa
  ·rw[Zp (Zm),List.take_of_length_le Aa,Qbi h.pk hK];rfl
theorem Ji(h:Q5 K c)(hK:K<=1000000:=by omega):Qj c=K2 (c,()):=by
 unfold Qj tD;exact Z3z h hK _ _ 0 (by simp[wy]) Aa
theorem Zc0(h:FOK f):TT (bm f):=⟨_,xL f As,trivial⟩
theorem Qf0{l:List Zj}(h:Zwn l):TT (iG l):=by
 have c:∀(N i:Nat),l.length-i<N->i<=l.length->TT (ax N l (i:Int)):=by
  intro N
  induction N with
  |zero=>intro i h;omega
  |succ N b=>
   intro i d e;have f:=h.1;unfold ax;refine T.ite (λa=>?_) λ_=>T.tt;have a:=pE a;refine T.guard Aa ((Zc0 (h.2 _ (Z2))).bind λt _=>T.if T.tt ?_);rw[Zs (m:=l.length)];exact b (i+1) Aa Aa
 grind[iG,Wm]
theorem tIn(n a b:Int):TT (Z9 n a b):=⟨_,Zcw n a b,trivial⟩
theorem Qk3(n:Int):TT (Q9 n):=⟨_,Kh n,trivial⟩
theorem Zvp{l:List Zf}(h:mi K l)(hK:K<=1000000):T (Vj l) λr=>r.1=K4->l.length<=24:=by
 have a:=h.len;have d:∀(N i:Nat),l.length-i<N->i<=l.length->T (Jh N l (i:Int)) λr=>r.1=K4->l.length<=24:=by
  intro N
  induction N with
  |zero=>intro i h;omega
  |succ N c=>
   intro i e f;unfold Jh;refine T.ite (λb=>?_) λ_=>T.pure λh=>Ag
   have b:=pE b;refine T.guard Aa ((tt1 (Zjn (h.all _ (Z2)) hK)).bind λt _=>T.guard (λ_ _=>Aa) (T.guard (λ_ h=>?_) (T.if (T.pure λh=>by cases h) ?_)))
   ·have:=pE h
    grind[Zr]
   ·rw[Zs (m:=l.length)];exact c (i+1) Aa Aa
 grind[Vj,cX]
theorem Qmx(h:Q5 K c)(hK:K<=1000000):T (Jn c) λr=>r.1=K4->c.2.2.2.1.length<=24:=by
 have d:∀(N i:Nat),c.2.2.2.2.2.2.2.2.2.2.2.2.2.2.2.1.length-i<N->i<=c.2.2.2.2.2.2.2.2.2.2.2.2.2.2.2.1.length->TT (dL N c (i:Int)):=by
  intro N
  induction N with
  |zero=>intro i h;omega
  |succ N e=>
   intro i l o;have p:=h.pk.1;unfold dL;refine T.ite (λa=>?_) λ_=>?_
   ·have a:=pE a;refine T.guard Aa ((tIn _ _ _).bind λt _=>T.guard (λ_ _=>Aa) (T.guard (λ_ h=>?_) (T.guard (λ_=>Aa) (T.bind (Q:=λ_=>True) (T.if T.tt (Qf0 (h.pk.2 _ (Z2)))) λq _=>T.if T.tt ?_))))
    ·have:=pE h
     grind[Zr]
    ·rw[Zs (m:=c.2.2.2.2.2.2.2.2.2.2.2.2.2.2.2.1.length)];exact e (i+1) Aa Aa
   ·exact(tIn _ _ _).bind λt _=>T.bind (Q:=λ_=>True) (T.if (tIn _ _ _) T.tt) λt _=>T.bind (Q:=λ_=>True) (T.if (tIn _ _ _) T.tt) λt _=>T.bind (Q:=λ_=>True) (T.if (tIn _ _ _) T.tt) λt _=>
     T.bind (Q:=λ_=>True) (T.if (tt1 (Z4l h.str hK)) T.tt) λt _=>T.bind (Q:=λ_=>True) (T.if (tt1 (Z4k h.str hK)) T.tt) λt _=>T.tt
 unfold Jn gH;have B:∀{α β:Type}{b:Bool}{m n:Option α}{f:α->Option β}{R:β->Prop},TT m->TT n->(∀y,T (f y) R)->T (Lf (cond b m n) f) R:=λg j k=>(T.if g j).bind λy _=>k y;exact(tt1 (Znz _)).bind λt _=>B T.tt (tt1 (Znz _)) λt=>T.bind (Q:=λr=>r.1=K4->c.2.2.2.1.length<=24) (T.if (T.pure λh=>by cases h) (Zvp h.str hK)) λt hs=>B T.tt (tt1 (Zjm _)) λt=>B T.tt (tt1 (Ze2 _)) λt=>B T.tt (tt1 (Zqr _)) λt=>B T.tt (tt1 (Zqr _)) λt=>B T.tt (tt1 (Zqq _)) λt=>B T.tt (tt1 (Zqq _)) λt=>
  T.ite (λ_=>T.pure λh=>by cases h) λa=>(d _ 0 (by simp[aa]) Aa).mono λ_ _ _=>hs Ac
theorem Ztp(h:Q5 K c)(hK:K<=1000000:=by omega):TT (Jn c):=(Qmx h hK).mono λ_ _=>trivial
theorem Qu8(n:Int):T (bp n) λr=>r.1=K4->0<n/\n<=64:=⟨_,rfl,λh=>by simp at h;omega⟩
theorem Qbu(n:Int):T (dO n) λr=>Jr 0 r.1:=by
 unfold dO XZ;have z:Jr 0 Yw:={cells:=(by simp[Yw]),e0:=Ln _,eK:=Ln _,pend:=ZV _,pT:=ZV _,pO:=ZV _}
 refine T.bind (Q:=λr=>r.2.1=K4->r.1.2.2.2.1.length<=64/\r.1.2.2.1=0) ((Qu8 n).bind λt a=>T.ite (λ_=>T.pure λh=>by cases h) λb=>?_) λt a=>T.ite (λ_=>T.pure z) λb=>T.pure ?_
 ·have:=a (by simpa using b);exact T.guard Aj (T.pure λ_=>⟨Af,rfl⟩)
 ·have:=a (by simpa using b);exact {cells:=this.1,e0:=Ac,eK:=Ac,pend:=ZV _,pT:=ZV _,pO:=ZV _}
theorem Z0n(v:Bool)(i:Int)(o p:ks):T (Vq v i o p) λr=>Xc 0 r.1:=by
 obtain⟨l,a⟩:=Znz o;obtain⟨m,b⟩:=Znz p;obtain⟨n,c⟩:=Qc1 v i;obtain⟨q,d⟩:=Zy1 v i;obtain⟨⟨s,t,u⟩,e,f⟩:=Qbu o.1;obtain⟨w,y,g⟩:=Qf5 p.2.1;obtain⟨z,A,h⟩:=Qf7 o.2.1 o.2.2.1;obtain⟨r,j,k⟩:=Z9a;unfold Vq gH V7;simp only[a,b,c,d,e,g,h,j,Kh,J5,pA];generalize ((_||_)||_:Bool)=x;cases x
 ·exact T.pure (by exact⟨f,k⟩)
 ·exact T.pure Qlh
theorem Qr8(v:Bool)(n:Int):TT (fS v n):=by
 unfold fS mO;simp only[Kh,pA,J5];exact⟨_,rfl,trivial⟩
theorem Qn7(n:Int):TT (av n):=by
 unfold av;simp only[Kh,pA];exact⟨_,rfl,trivial⟩
theorem Wc{l:List Zf}{s:Zf}(h:mi K l)(hs:Xc K' s)(hk:K<=K')(hK:K'+1<=500000):T (Q8 l s) λr=>mi (K'+1) r.1:=by
 obtain⟨y,e,b,a⟩:=Z4c (h.mono hk) hs;have:=h.len;exact⟨_,e,Ab,λx hx=>(a x hx).mono Aa⟩
theorem Zyd(h:Q5 K c)(hK:K<=1000000)(n:Int):T (Xt c n) λr=>Xc K r.1:=by
 obtain⟨s,b,e,hs⟩:=Qky h.str hK n;exact⟨_,e,hs⟩
theorem Q5.up(h:Q5 K c)(hk:K<=K'){l:List Zf}(hl:mi K' l):Q5 K' (c.1,c.2.1,c.2.2.1,l,c.2.2.2.2):=⟨hl,h.pk.mono hk⟩
theorem Z1n(w:Ql)(n:Int):TT (lW w n):=by
 unfold lW tG;exact(tt1 (Ze2 w)).bind λt _=>T.if T.tt T.tt
theorem Qm0{s:Zf}(h:Q5 K x)(hs:Xc K s)(n:Int):T (nL x s n) λr=>Q5 K r.2.1/\Xc K r.2.2.1:=by
 unfold nL;exact(Z1n _ _).bind λt _=>(Z1n _ _).bind λa _=>T.pure ⟨⟨h.str,h.pk⟩,hs.snd,hs.rcv⟩
theorem Qgn(h:bZ K r.2.1)(hK:K<=1000000):TT (mM r):=by
 grind[mM,wc,T.tt]
theorem Qi7{s:Zf}(h:Xc K s)(hK:K<=1000000):TT (rg s):=by
 unfold rg td mN gH;exact(tt1 (Zjn h hK)).bind λt _=>T.bind (Q:=λ_=>True) (T.if T.tt T.tt) λt _=>T.bind (Q:=λ_=>True) (T.if (T.bind (Q:=λ_=>True) (T.if T.tt (Qgn h.rcv hK)) λt _=>T.tt) T.tt) λt _=>T.tt
theorem Z3l(a:Ky):TT (gv a):=by
 unfold gv tD;exact(tt1 (Zqq a)).bind λt _=>T.if T.tt T.tt
theorem Qmz{s:Zf}(h:Q5 K x)(hs:Xc K s)(hK:K<=1000000):T (YD x s) λr=>Q5 K r.2.1/\Xc K r.2.2.1:=by
 unfold YD gH tA tB tC;exact T.bind (Q:=λ_=>True) (T.if T.tt (Qr8 _ _)) λt _=>T.bind (Q:=λ_=>True) (T.if T.tt (Qi7 hs hK)) λt _=>T.if (T.pure ⟨h,hs⟩) ((Qn7 _).bind λt _=>T.if ((Z3l _).bind λt _=>T.pure ⟨⟨h.str,h.pk⟩,hs.snd,hs.rcv⟩) ((Z3l _).bind λt _=>T.pure ⟨⟨h.str,h.pk⟩,hs.snd,hs.rcv⟩))
theorem Z58{s:Zf}(h:Q5 K x)(hs:Xc K' s)(hk:K<=K':=by omega)(hK:K'+1<=500000:=by omega):T (Vh x s) λr=>Q5 (K'+1) r.2.1:=by
 unfold Vh;exact(Qmz (h.mono hk) hs Aa).bind λt a=>(Wc a.1.str a.2 (Lv _) hK).bind λc b=>T.pure (a.1.up Aa b)
theorem Qh0(s:Ba)(hs:s.length<=1000000)(b:Int):∀(N i:Nat)(out:List Ba)(p:Ba),s-i<N->i<=s->out<=i->p<=i->(∀x∈out,x<=i)->
  T (dQ N s b out p (i:Int)) λr=>r.1<=s.length+1/\ ∀x∈r.1,x<=s.length
 |0,_,_,_,h,_,_,_,_=>Aa
 |N+1,i,out,p,e,f,d,g,hx=>by
  have a:∀{k:Nat}{o:List Ba} {x},(∀x∈o,x<=k)->x.length<=k-> ∀z∈o++[x],z.length<=k:=λd hx z j=>by
   grind
  unfold dQ;refine T.ite (λc=>?_) λ_=>T.guard Aj (T.pure ⟨Af,a (λx h=>Ag) Aa⟩);have c:i<s:=Ac
  refine T.guard Aa (T.if (T.guard Aj ?_) (T.guard ?_ (T.guard ?_ ?_)))
  ·unfold lY;rw[Zs c];exact Qh0 s hs b N (i+1) _ _ Aa Aa Af Ae (a (λx h=>Ag) Aa)
  ·grind[Zs]
  ·grind[Jv]
  ·unfold lY;rw[Zs c];exact Qh0 s hs b N (i+1) _ _ Aa Aa Ab Ag (λx h=>Ag)
theorem Qt5(s:Ba)(hs:s.length<=1000000)(b:Int):T (ZM s b) λr=>r.1<=s.length+1/\ ∀x∈r.1,x<=s.length:=by
 grind[ZM,Qh0,oO]
theorem Qe2:∀(N:Nat)(s:Ba),s<N->s.length<=1000000->T (jo N s) λr=>r.1<=s.length
 |0,_,h,_=>Aa
 |N+1,s,b,hs=>by
  unfold jo;refine T.guard (λh=>?_) (T.ite (λa=>?_) λ_=>T.pure (Lv _))
  ·have:=pE h
   grind[Zr]
  ·have:(s:Int)>0:=by simp at a;omega
   refine T.guard Ao ((Qe2 N _ ?_ ?_).mono λy c=>?_)
   all_goals (simp only[List.length_take,List.length_drop]at*;rw[Zr]at*;omega)
theorem Qe1:∀(N:Nat)(s:Ba),s<N->s.length<=1000000->T (eG N s) λr=>r.1<=s.length
 |0,_,h,_=>Aa
 |N+1,s,b,hs=>by
  unfold eG;refine T.guard (λh=>?_) (T.ite (λa=>?_) λ_=>Qe2 _ s (by simp[iF]) hs)
  ·simp_all
  ·have:(s:Int)>0:=by simp at a;omega
   refine T.guard Aa ((Qe1 N _ ?_ ?_).mono λy c=>?_)
   all_goals grind
theorem Qwa(s:Ba)(hs:s.length<=1000000):T (xM s) λr=>r.1<=s.length:=by
 simp_all[xM,Qe1,nJ]
theorem Qry(p:Q7)(s:Ba)(hs:s.length<=100000):TT (aQ p s):=by
 have c:∀(l:List Ba),l.length<=100001->(∀x∈l,x.length<=100000)-> ∀(t:Q7)(N i:Nat)(b:Q7),l-i<N->i<=l->TT (X6 N b t l (i:Int)):=by
  intro l f hx t N
  induction N with
  |zero=>omega
  |succ N e=>
   intro i b g k;unfold X6;refine T.ite (λa=>?_) λ_=>T.tt;have a:i<l:=Ac
   have j:∀b,TT (Jk (λv=>X6 N v.1 v.2.1 v.2.2.1 v.2.2.2.1) b t l (i:Int)):=λb=>by
    unfold Jk;rw[Zs a];exact e (i+1) _ Aa Aa
   refine T.guard Aa ((Qwa _ Ag).bind λt _=>T.if (j _) (T.if (j _) (T.guard (λh=>?_) (T.guard (λh=>?_) (T.guard (λh=>?_) (T.ite (λh=>T.guard ?_ (j _)) λ_=>j _))))))
   all_goals simp_all
 have j:∀b t,TT (Vb s b t):=λb t=>by
  unfold Vb;exact(Qt5 s Aa 44).bind λr m=>c _ Aa (λx hx=>Ag) _ _ 0 _ (by simp[lV]) Aa
 unfold aQ;have d:TT V7:=⟨_,rfl,trivial⟩
 exact(tt1 (Zn0 p)).bind λt _=>T.if (d.bind λt _=>j _ _) (j _ _)
theorem Qui(k:Int)(i o:Int)(x):FOK ((k,i,o,([]:Ba),x):Zj):=Mk _
theorem Z9y(n:Int):T (ky n) λr=>0<=r.1/\r.1<=8:=by
 unfold ky;exact T.if (T.pure Ae) (T.if (T.pure Ae) (T.if (T.pure Ae) (T.if (T.pure Ae) (T.pure Ae))))
theorem Qh8(n k:Int):∀(N m:Nat)(s:Ba),m<N->m<=8->s+m<=8->T (Qv N n k s ((m:Int)-1)) λr=>r.1.length<=8
 |0,_,_,h,_,_=>Aa
 |N+1,0,s,_,_,hs=>by
  simp_all[Qv,T.pure]
 |N+1,m+1,s,c,f,hs=>by
  unfold Qv;have j:∀b,T (Y5 (λv=>Qv N v.1 v.2.1 v.2.2.1 v.2.2.2.1) n k s (((m+1:Nat):Int)-1) b) λr=>r.1.length<=8:=λb=>by
   unfold Y5;obtain⟨d,e,g⟩:=Qjb b;have a:Lb.wrap (((m+1:Nat):Int)-1-1)=(m:Int)-1:=Ao
   rw[e,pA,a];exact T.guard Al (Qh8 n k N m _ Aa Aa Ag)
  exact T.ite (λ_=>T.guard Ao (T.if (T.if (j _) (T.if (j _) (T.if (j _) (j _)))) (j _))) λh=>Ac
theorem Qwp(n:Int):T (Wr n) λr=>r.1.length<=8:=by
 unfold Wr;refine(Z9y n).bind λt a=>?_
 grind[Lm,Zr,Qh8,Vp]
theorem Qde(l:List Int)(hl:l.length<=1000):∀(N i:Nat)(s:Ba),l-i<N->i<=l->s<=8*i->T (Vf N l s (i:Int)) λr=>r.1<=8*l.length
 |0,_,_,h,_,_=>Aa
 |N+1,i,s,b,c,hs=>by
  unfold Vf gG;refine T.ite (λa=>?_) λ_=>T.pure Ab;have a:=pE a;refine T.guard Aa ((Z9y _).bind λt _=>T.if (T.pure Ae) (T.guard Aa ((Qwp _).bind λt d=>T.guard Al ?_)));rw[Zs (m:=l)];exact Qde l hl N (i+1) _ Aa Aa Ag
theorem Qub(l:List Int)(hl:l.length<=1000):T (X5 l) λr=>r.1<=8*l.length:=by
 grind[X5,Qde,gy]
theorem Zzn(h:FOK f):T (Wx f) λr=>r.1.length<=1100:=by
 have q:∀l:List Int,l.length<=4->T (X5 l) λr=>r.1.length<=32:=λl d=>(Qub l Aa).mono λy n=>Aa
 have a:∀l:List Int,l.length<=4->T (Lf (X5 l) λt=>K2 (t.1,())) λr=>r.1.length<=1100:=λl d=>(q l d).bind λt m=>T.pure Ab;have c:∀l:List Int,l.length<=4->T (Lf (X5 l) λt=>Zh (t.1+f.2.2.2.1<=Jv)<|some (t.1++f.2.2.2.1,())) λr=>r.1.length<=1100:=λl d=>(q l d).bind λt m=>by
  grind[FOK,T.guard,Jv,T.pure]
 have e:∀k,T (W8 f k) λr=>r.1.length<=1100:=λk=>T.if (c _ Ae) (c _ Ae);have g:∀k,T (W9 f k) λr=>r.1.length<=1100:=λk=>a _ Ae;have i:∀b,T (Ka f b) λr=>r.1.length<=1100:=λb=>T.if (a _ Ae) (T.if (g _) (g _));have j:∀k b,T (Xl f k b) λr=>r.1.length<=1100:=λk b=>T.if (a _ Ae) (T.if (i _) (i _));unfold Wx;exact(Zc0 h).bind λt _=>T.if (T.pure Ae) (T.if (a _ Ae) (T.if (a _ Ae) (T.if (T.if (e _) (e _)) (T.if (j _ _) (j _ _)))))
theorem Z8d(l:List Zj)(h:Zwn l):∀(N i:Nat)(s:Ba),l-i<N->i<=l->s<=1100*i->T (Yy N l s (i:Int)) λr=>r.1.length<=400
 |0,_,_,h,_,_=>Aa
 |N+1,i,s,b,c,hs=>by
  have d:=h.1;unfold Yy;refine T.ite (λa=>?_) λ_=>T.ite (λ_=>T.pure Ae) λh=>T.pure Ag;have a:=pE a;refine T.guard Aa ((Zzn (h.2 _ (Z2))).bind λt e=>T.if (T.pure Ae) (T.guard Al ?_));rw[Zs (m:=l)];exact Z8d l h N (i+1) _ Aa Aa Ag
theorem Qqy{l:List Zj}(h:Zwn l):T (cD l) λr=>r.1.length<=400:=by
 grind[cD,Z8d,dJ]
theorem Qwh(l:List Zo)(hl:l.length<=1000000)(n:Int):T (mS l n) λr=>r.1<=l.length:=by
 have c:∀(N i:Nat)(o:List Zo),l-i<N->i<=l->o<=i->T (Wn N l n o (i:Int)) λr=>r.1<=l.length:=by
  intro N
  induction N with
  |zero=>omega
  |succ N d=>
   intro i o e f b;unfold Wn gG gM;refine T.ite (λa=>?_) λ_=>T.pure Ab;have a:=pE a;have j:∀o,o.length<=i+1->T (f5 (λv=>Wn N v.1 v.2.1 v.2.2.1 v.2.2.2.1) l n o (i:Int)) λr=>r.1<=l.length:=λo b=>by
    grind[f5,Zs]
   exact T.guard Aa (T.if (T.guard Aa (T.guard Aj (j _ Af))) (j _ Aa))
 grind[mS,je]
theorem Z0f(n:Int){K:Nat}(h25:25<=K)(hK:K<=400000):∀(N m:Nat)(c:Ze),m<N->c.2.2.2.1+m<=24->Q5 K c->T (eH N c n ((m:Int)-1)) λr=>Q5 K r.2.1
 |0,_,_,h,_,_=>Aa
 |N+1,0,c,_,_,h=>by
  simp_all[eH,T.pure]
 |N+1,m+1,c,b,d,h=>by
  unfold eH;simp only[Xr,Ke];refine T.ite (λ_=>(Z0n _ _ _ _).bind λs hs=>?_) λh=>Ac
  unfold zm tD;have e:Lb.wrap (((m+1:Nat):Int)-1-1)=(m:Int)-1:=Ao
  rw[e];obtain⟨y,e,f,a⟩:=Z4c h.str (hs.mono (Mk K));rw[e,pA];exact Z0f n h25 hK N m _ Aa Ab ⟨⟨Ab,a⟩,h.pk⟩
theorem Qja(h25:25<=K)(hK:K<=400000)(h:Q5 K c)(n:Int)(m:Nat)(hm:c.2.2.2.1+m<=24):T (YC c n (m:Int)) λr=>Q5 K r.2.1:=by
 grind[YC,Zr,Z0f,nK]
theorem inT(n a b:Int):T (Z9 n a b) λr=>r.1=K4->a<=n/\n<=b:=⟨_,Zcw n a b,λh=>by simpa using h⟩
theorem Qi5(a:Ky):T (bk a) λr=>r.1=K4->a.2.1<=1152921504606846976/\0<=a.2.2.1/\a.2.2.1<=a.2.1:=by
 unfold bk;have B:∀{b:Bool}{n l h:Int}{β:Type}{f:Bool×Unit->Option β}{R:β->Prop},(∀r:Bool×Unit,(r.1=K4->l<=n/\n<=h)->T (f r) R)->T (Lf (cond b (Z9 n l h) (K2 (Lc,()))) f) R:=λk=>T.bind (T.if (inT _ _ _) (T.pure λh=>by cases h)) k;exact(inT _ _ _).bind λc d=>B λe g=>B λi j=>B λm o=>T.pure λh=>by
  simp_all
theorem Qgq(a:Ky)(n:Int):T (oo a n) λr=>0<=r.2.1/\r.2.1<=1152921504606846976:=by
 unfold oo tO;refine(Qi5 a).bind λt b=>T.ite (λ_=>T.pure Ae) λc=>T.pure ?_
 grind[Zr]
theorem QC(h:Q5 K c)(h25:25<=K)(hK:K<=400000)(i:Int):T (ap c i) λr=>Q5 K r.1:=by
 have p:=h.str.len;have d:∀t x (n:Nat),x.2.2.2.1+n<=24->Q5 K x->T (aN i t x (n:Int)) λr=>Q5 K r.1:=λt x n f hx=>by
  unfold aN;exact(Qja h25 hK hx i n f).bind λr l=>T.pure l
 have m:∀t b n g,0<=n->n<=1152921504606846976->T (c8 i c t c b n g) λr=>Q5 K r.1:=λt b n g o q=>by
  unfold c8 tB tC;refine T.ite (λ_=>T.pure h) λs=>?_;have f:c.2.2.2.1+n<=24:=by
   grind[Zr]
  obtain⟨n,rfl⟩:=Lm o;exact(Qn7 i).bind λt _=>T.if (d _ _ n Ab (by exact⟨h.str,h.pk⟩)) (d _ _ n Ab (by exact⟨h.str,h.pk⟩))
 have j:∀t a,T (K8 i c t c a) λr=>Q5 K r.1:=λt a=>by
  unfold K8;simp only[Xr,Ke];exact(tt1 (Qmp i)).bind λt _=>(Qgq _ _).bind λt k=>m _ _ _ _ k.1 k.2
 unfold ap gH;rw[Ji h,pA];exact(Ztp h).bind λt _=>T.bind (Q:=λ_=>True) (T.if T.tt (Qk3 i)) λt _=>T.if (T.pure h) (T.bind (Q:=λ_=>True) (tt1 (by obtain⟨v,e,-⟩:=Zax c.2.2.2.1 i (by omega);exact⟨v,e⟩)) λt _=>T.if (T.pure h) ((Qr8 _ _).bind λt _=>T.if (T.pure h) ((Qn7 i).bind λt _=>T.if (j _ _) (j _ _))))
theorem Z4i(w:Ql)(n:Int):TT (om w n):=by
 unfold om tD;exact(tt1 (Ze2 w)).bind λt _=>T.if T.tt T.tt
theorem Qdz{s:Zf}(h:Q5 K x)(hs:Xc K s)(hK:K<=1000000)(e:Int):T (rW x s e) λr=>Q5 K r.2.1/\Xc K r.2.2.1:=by
 have a:TT (tw s.2.2.2.1 e):=by
  unfold tw;exact(tt1 (wc hs.rcv hK)).bind λt _=>T.bind (Q:=λ_=>True) (T.if T.tt (Qk3 _)) λt _=>T.if T.tt T.tt
 unfold rW tG tR;exact a.bind λt _=>T.if (T.pure ⟨h,hs⟩) ((Z4i _ _).bind λt _=>(Z4i _ _).bind λt _=>T.if (T.pure ⟨h,hs⟩) (T.pure ⟨⟨h.str,h.pk⟩,hs.snd,hs.rcv⟩))
theorem Qk4(s:Bool)(n:Int):TT (Jy s n):=tt1 (Qc1 s n)
theorem Qez(s:Bool)(n:Int):TT (Ym s n):=tt1 (Zy1 s n)
theorem Qa9(h:Q5 K c)(hf:FOK f)(h25:25<=K)(hK:K<=390000):T (mJ c f) λr=>Q5 (K+f.2.2.2.1+2) r.1.1:=by
 have m:=h.mono (K':=K+f.2.2.2.1+2) Aa;have a:∀v:Int,T (Lf (Qj c) λt=>K2 ((t.1,v,()),())) λr=>Q5 (K+f.2.2.2.1+2) r.1.1:=λv=>by
  grind[Ji,T.pure]
 unfold mJ gH tD;refine(Ztp h).bind λt _=>T.bind (Q:=λ_=>True) (T.if T.tt (Zc0 hf)) λt _=>T.if (a 7) ((Qez _ _).bind λt _=>T.if (a 5) ((QC h h25 Aa _).bind λx hx=>T.if (a _) ((Zyd hx Aa _).bind λs hs=>?_)));obtain⟨r,v,e,d⟩:=Zdo hs.rcv f.2.2.1 f.2.2.2.1 f.2.2.2.2.1 As;rw[e,pA];unfold FOK at hf;exact(Qdz hx hs Aa _).bind λy b=>T.if (a _) (T.if (a _) ((Z58 (K':=K+f.2.2.2.1+1) b.1 (by exact⟨b.2.snd.mono (by omega),d.mono (by omega)⟩)).bind λt g=>T.pure (g.mono Aa)))
theorem Z8n(h:Q5 K c)(hf:FOK f)(h25:25<=K)(hK:K<=390000):T (kR c f) λr=>Q5 (K+f.2.2.2.1+2) r.1.1:=by
 have m:=h.mono (K':=K+f.2.2.2.1+2) Aa;have a:∀v:Int,T (Lf (Qj c) λt=>K2 ((t.1,v,()),())) λr=>Q5 (K+f.2.2.2.1+2) r.1.1:=λv=>by
  grind[Ji,T.pure]
 unfold kR gH;refine(Ztp h).bind λt _=>T.bind (Q:=λ_=>True) (T.if T.tt (Zc0 hf)) λt _=>T.if (a 7) ((Qez _ _).bind λt _=>T.if (a 5) ((QC h h25 Aa _).bind λx hx=>T.if (a _) ((Zyd hx Aa _).bind λs hs=>?_)));obtain⟨r,v,e,g⟩:=Zaa hs.rcv Aa f.2.2.2.2.2.1 f.2.2.2.2.2.2.2.1;rw[e,pA];have j:∀(t x:Ze)(s:Zf),Q5 K x->Xc K s->T (d9 t x s r) λr=>Q5 (K+f.2.2.2.1+2) r.1.1:=λt x s hx hs=>by
  unfold d9 tD;exact(Z58 hx (by exact⟨hs.snd,g⟩) (Lv _)).bind λt i=>T.pure (i.mono Aa)
 exact(Qdz hx hs Aa _).bind λy b=>T.if (a _) (T.if (a _) (T.if ((Qm0 b.1 b.2 _).bind λz d=>j _ _ _ d.1 d.2) (j _ _ _ b.1 b.2)))
theorem Qba(h:Q5 K c)(hf:FOK f)(h25:25<=K)(hK:K<=390000):T (mK c f) λr=>Q5 (K+f.2.2.2.1+2) r.1.1:=by
 have m:=h.mono (K':=K+f.2.2.2.1+2) Aa;have a:∀v:Int,T (Lf (Qj c) λt=>K2 ((t.1,v,()),())) λr=>Q5 (K+f.2.2.2.1+2) r.1.1:=λv=>by
  grind[Ji,T.pure]
 unfold mK gH tV;refine(Ztp h).bind λt _=>T.bind (Q:=λ_=>True) (T.if T.tt (Zc0 hf)) λt _=>T.if (a 7) ((Qk4 _ _).bind λt _=>T.if (a 5) ((QC h h25 Aa _).bind λx hx=>T.if (a _) ((Zyd hx Aa _).bind λs hs=>?_)));obtain⟨r,v,e,b⟩:=ZH hs.snd f.2.2.2.2.2.1;rw[e,pA];have j:∀(t x:Ze)(s:Zf),Q5 K x->Xc K s->T (fR t x s) λr=>Q5 (K+f.2.2.2.1+2) r.1.1:=λt x s hx hs=>by
  unfold fR;exact(Z58 hx hs (Lv _)).bind λt d=>T.pure (d.mono Aa)
 exact T.if (j _ _ _ hx (by exact⟨b,hs.rcv⟩)) (j _ _ _ hx hs)
theorem Zwc(c:Ky)(n:Int):TT (jn c n):=by
 unfold jn gH;exact(tt1 (Zjm c)).bind λt _=>T.bind (Q:=λ_=>True) (T.if T.tt (Qk3 _)) λt _=>T.if T.tt T.tt
theorem Zwb(c:dn)(n:Int):TT (jm c n):=by
 unfold jm;exact(tt1 (Zqr c)).bind λt _=>T.if T.tt T.tt
theorem Z8m(h:Q5 K c)(hf:FOK f)(h25:25<=K)(hK:K<=390000):T (kQ c f) λr=>Q5 (K+f.2.2.2.1+2) r.1:=by
 have m:=h.mono (K':=K+f.2.2.2.1+2) Aa;have a:∀v:Int,T (Lf (Qj c) λt=>K2 (t.1,v,())) λr=>Q5 (K+f.2.2.2.1+2) r.1:=λv=>by
  grind[Ji,T.pure]
 have d:∀t x,Q5 (K+f.2.2.2.1+2) x->T (qg t x) λr=>Q5 (K+f.2.2.2.1+2) r.1:=λt x hx=>T.pure hx;have e:∀t b,T (k9 c f t b) λr=>Q5 (K+f.2.2.2.1+2) r.1:=λt b=>by
  unfold k9 tD tO;exact T.if (a _) ((QC h h25 Aa _).bind λx hx=>T.if (a _) (T.if ((Zyd hx Aa _).bind λs hs=>(Zwc _ _).bind λt _=>(Wc hx.str (by exact⟨hs.snd,hs.rcv⟩) (Lv _) Aa).bind λp l=>d _ _ ((hx.up Aa l).mono Aa)) (d _ _ (hx.mono Aa))))
 have n:T (yI c f) λr=>Q5 (K+f.2.2.2.1+2) r.1:=by
  unfold yI;exact(Qk4 _ _).bind λt _=>T.if ((Qez _ _).bind λt _=>e _ _) (e _ _)
 have g:∀t x,Q5 (K+f.2.2.2.1+2) x->T (j9 t x) λr=>Q5 (K+f.2.2.2.1+2) r.1:=λt x hx=>T.pure hx;have i:∀t b,T (d8 c f t c b) λr=>Q5 (K+f.2.2.2.1+2) r.1:=λt b=>by
  unfold d8;exact T.if (n.bind λr o=>T.pure o) (T.pure m)
 have j:∀t k b,T (d7 c f t c k b) λr=>Q5 (K+f.2.2.2.1+2) r.1:=λt k b=>by
  unfold d7;exact T.if (T.pure m) (T.if (i _ _) (i _ _))
 unfold kQ gH tF tG tL;rw[Ji h,pA];exact(Ztp h).bind λt _=>T.bind (Q:=λ_=>True) (T.if T.tt (Zc0 hf)) λt _=>T.if (T.pure m) (T.if ((Zwc _ _).bind λt _=>T.pure (by exact⟨m.str,m.pk⟩)) (T.if (T.if ((Zwb _ _).bind λt _=>g _ _ (by exact⟨m.str,m.pk⟩)) ((Zwb _ _).bind λt _=>g _ _ (by exact⟨m.str,m.pk⟩))) (T.if (j _ _ _) (j _ _ _))))
theorem Z8l(h:Q5 K c)(hf:FOK f)(h25:25<=K)(hK:K<=390000):T (kP c f) λr=>Q5 (K+f.2.2.2.1+2) r.1.1:=by
 have b:∀t x e,Q5 (K+f.2.2.2.1+2) x->T (bC t x e) λr=>Q5 (K+f.2.2.2.1+2) r.1.1:=λt x e hx=>T.pure hx;unfold kP;rw[Ji h,pA];exact T.if ((Qa9 h hf h25 hK).bind λr a=>b _ _ _ a) (T.if ((Z8n h hf h25 hK).bind λr a=>b _ _ _ a) (T.if ((Qba h hf h25 hK).bind λr a=>b _ _ _ a) ((Z8m h hf h25 hK).bind λr a=>b _ _ _ a)))
theorem Qqf(f:Zj):TT (Wk f):=by
 have j:∀b,TT (Jj b):=λb=>by simp_all[Jj,T.if,T.tt]
 unfold Wk
 grind
theorem Zby(c:Ku)(n:Int)(h:dy c):T (K6 c n) λr=>dy r.2.1/\0<=r.1.1/\(0<n->r.1.1<n):=by
 obtain⟨x,f,e,a,b,d⟩:=Zeg c n h;exact⟨_,e,a,b,d⟩
theorem Qk0(c:Ku)(n:Int)(h:dy c):T (w8 c n) λr=>dy r.2.1:=by
 obtain⟨b,d,e,a⟩:=Qhy c n h;exact⟨_,e,a⟩
theorem Qk1(c:Ku)(l:List Int)(h:dy c)(hl:0<l.length):T (qh c l) λr=>dy r.2.1/\r.1.1∈l:=by
 obtain⟨b,f,e,a,d⟩:=Qhz c l h hl;exact⟨_,e,a,d⟩
theorem Qk2(c:Ku)(l:List Ba)(h:dy c)(hl:0<l.length):T (ri c l) λr=>dy r.2.1/\r.1.1∈l:=by
 obtain⟨b,f,e,a,d⟩:=Z3o c l h hl;exact⟨_,e,a,d⟩
theorem Qp1(c:Ku)(most:Nat)(h:dy c)(hm:most<=1000:=by omega):T (rl c (most:Int)) λr=>dy r.2.1/\r.1.1.length<=most:=by
 obtain⟨t,d,e,a,b⟩:=Qhx c most h hm;exact⟨_,e,a,b⟩
theorem Qrq(f:Zj)(h:FOK f):T (nO f) λr=>FOK r.1:=by
 have a:∀t x b,FOK x->T (qo f t x b) λr=>FOK r.1:=λt x b hx=>by
  unfold qo tF;exact T.if (T.pure (by exact hx)) (T.pure (by exact hx))
 have c:∀t x,FOK x->T (qn f t x) λr=>FOK r.1:=λt x hx=>by
  unfold qn tR;exact T.if (T.pure (by exact hx)) (T.if (T.pure (by exact hx)) (T.if (T.pure (by exact h)) (T.if (a _ _ _ hx) (a _ _ _ hx))))
 unfold nO;exact(Qqf f).bind λt _=>T.if (c _ _ (Qui _ _ _ _)) (c _ _ (Qui _ _ _ _))
theorem Q5.zero(h1:c.2.2.2.1=[])(h2:c.2.2.2.2.2.2.2.2.2.2.2.2.2.2.2.1=[]):Q5 0 c:=⟨⟨by rw[h1];simp,by rw[h1];simp⟩,by rw[h2];simp,by rw[h2];simp⟩
theorem Zpm(r:Zi):QX r=K2 (W7 r,()):=rfl
theorem Zhl(l:List Zi)(hl:l.length<=1048576):∀(N i:Nat),l.length-i<N->i<=l.length->o0 N l l (l.length:Int) (i:Int)=c9 N l (i:Int)
 |0,_,h,_=>Aa
 |N+1,i,d,e=>by
  rw[o0,c9];by_cases c:i<l.length
  ·have g:∀{a:Prop},a->K3 ((i:Int)>0)=K4->0<=Lb.wrap ((i:Int)-1)/\Lb.wrap ((i:Int)-1)<(l.length:Int):=λ_ h=>by
    have:=pE h;grind[Zr]
   rw[Zn (Zl),Zn (Zl),Zb,Zb,Zpm,Zg1,pA,pA,Zb (λh b=>g h b),Zb (λh b=>g h b),Zb (λ_ _=>Aa),Zs c,Zhl l hl N (i+1) Aa Aa]
  grind
theorem xw(l:List Zi)(hl:l.length<=1048576:=by omega):aU l=K2 (rsB (-1) l,()):=by
 have e:uh l l (l.length:Int) 0=fC l 0:=rfl;rw[<-fu l hl,aU,Wy,e]
 grind[Zhl,fC]
theorem Zz3(l:List Zi)(hl:l.length<=1048576):∀(N i:Nat)(n:Int),l.length-i<N->i<=l.length->rsB (-1) l=K4->im N n l (l.length:Int) (i:Int)=V6 N l n (i:Int)
 |0,_,_,h,_,_=>Aa
 |N+1,i,n,d,e,a=>by
  rw[im,V6];by_cases b:i<l.length
  ·rw[Zn (Zl),Zn (Zl),Zb,Zb];have c:Lb.wrap (n+Lb.wrap ((l.getD (i:Int).toNat Z3).2.1- (l.getD (i:Int).toNat Z3).1))=Lb.wrap (Lb.wrap (n+(l.getD (i:Int).toNat Z3).2.1)- (l.getD (i:Int).toNat Z3).1):=by
    grind[Mb,Ma]
   rw[c,Zs b,Zz3 l hl N (i+1) _ Aa Aa a];simp_all[Zb]
  grind
theorem KP(l:List Zi)(hl:l.length<=1048576:=by omega):dC l=K2 (ite (rsB (-1) l=K4) (bu l) (-1),()):=by
 rw[<-kc l hl,dC,bH,xw l hl,fu l hl,pA,pA];cases hr:rsB (-1) l
 ·rfl
 ·exact Zz3 l hl _ 0 0 (by simp[mt]) Aa hr
theorem z7(l:List Zi)(hl:l.length<=1048576:=by omega):aV l=K2 (l,()):=by
 grind[aV,Zb,Qp]
theorem Zvl:∀(N:Nat)(pre rest:List Zi)(r:Zi)(out:List Zi),(pre++rest).length<=1048576->rest.length<N->out.length<=pre.length+1->r.1<r.2.1->(∀x∈rest,r.2.1<x.1/\x.1<x.2.1)->
  Js N r out K4 (pre++rest) ((pre++rest).length:Int) (pre.length:Int)=K2 (out++rest,())
 |0,_,_,_,_,_,h,_,_,_=>Aa
 |N+1,pre,[],r,out,d,b,e,c,hx=>by
  simp_all[Js]
 |N+1,pre,x::rest,r,out,d,b,e,c,hx=>by
  have a:(pre++x::rest).length=pre.length+rest.length+1:=Af
  simp only[Le]at b;have f:=hx x Ae;unfold Js;rw[Zn (Zl (by rw[a];omega)),Zb (by rw[a];omega),ib,Zp (Zm),Zn (Zl),Zp (by rfl)];unfold oU;rw[Zb Aj,Zs (m:=pre.length+1)];have i:=Zvl N (pre++[x]) rest r (out++[x]) Af Aa Af c (λy g=>hx y (by simp[g]));simp_all
theorem Zs2:∀(N:Nat)(pre rest:List Zi)(r:Zi)(out:List Zi)(lo:Int),(pre++rest).length<=1048576->rest.length<N->out.length<=pre.length->r.1<r.2.1->rsB lo rest=K4->
  Js N r out Lc (pre++rest) ((pre++rest).length:Int) (pre.length:Int)=K2 (out++jf rest r,())
 |0,_,_,_,_,_,_,h,_,_,_=>Aa
 |N+1,pre,[],r,out,lo,d,e,k,c,hx=>by
  simp only[Md]at d;unfold Js;rw[Zp Ae,Zn (by rfl),Zb Aj];rfl
 |N+1,pre,x::rest,r,out,lo,d,e,k,c,hx=>by
  have b:(pre++x::rest).length=pre.length+rest.length+1:=Af
  simp only[Le]at e;obtain⟨f,l,a⟩:=Wp.1 hx;have f:=Qh.1 f;unfold Js;rw[Zn (Zl (by rw[b];omega)),Zb (by rw[b];omega),ib];have o:(pre++[x])++rest=pre++x::rest:=Ae
  have p:((pre++[x]).length:Int)=((pre.length+1:Nat):Int):=Ae
  rw[Zs (m:=pre.length+1)];by_cases g:x.2.1<r.1
  ·rw[Zn (Zl g),Zb Aj];have i:=Zs2 N (pre++[x]) rest r (out++[x]) x.2.1 Af Aa Af c a;simp_all[jf]
  ·rw[Zp (Zm g)];by_cases j:x.1>r.2.1
   ·rw[Zn (Zl j),Zn (by rfl),Zb Aj];unfold oU;rw[Zb Aj,Zs (m:=pre.length+1)];have n:=rJ a;have i:=Zvl N (pre++[x]) rest r (out++[r]++[x]) Af Aa Af c (λy q=>by
     grind[Qh])
    simp_all[jf,if_neg]
   ·rw[Zp (Zm j)];have i:=Zs2 N (pre++[x]) rest (min r.1 x.1,max r.2.1 x.2.1,()) out x.2.1 Af Aa Af Ab a;simp_all[jf,if_neg]
theorem YT(l:List Zi)(r:Zi)(hl:l.length<=1048576:=by omega):dv l r=K2 (ite (rsB (-1) l=K4/\W7 r=K4) (jf l r) l,()):=by
 unfold dv gH;rw[xw l hl,pA,Zpm,z7 l hl];cases hr:rsB (-1) l
 ·rfl
 ·cases a:W7 r
  ·rfl
  ·have a:=Qh.1 a;rw[if_pos ⟨rfl,rfl⟩];have h:=Zs2 (l6 r [] Lc l (l.length:Int) 0) [] l r [] (-1) (by simpa using hl) (by simp[l6]) Ae a.2.1 hr;exact h
theorem Qiv(l:List Zi)(hl:l.length<=1048576):∀(N i:Nat)(n:Int),l.length-i<N->i<=l.length->kz N n l (l.length:Int) (i:Int)=bj N l n (i:Int)
 |0,_,_,h,_=>Aa
 |N+1,i,n,c,d=>by
  rw[kz,bj];by_cases b:i<l.length
  ·have a:=λn=>Qiv l hl N (i+1) n Aa Aa;rw[Zn (Zl),Zn (Zl),Zb,Zb,Zs b,a,a]
   grind[Zb,qa,Zs]
  grind
theorem Z3p(l:List Zi)(f:Int)(hl:l.length<=1048576:=by omega):tn l f=K2 (ite (rsB (-1) l=K4/\0<=f) (VH l f) (-1),()):=by
 rw[<-Zeo l f hl,tn,ol,xw l hl,fu l hl,pA,pA];cases (!rsB (-1) l)||K3 (f<0)
 ·exact Qiv l hl _ 0 f (by simp[ug]) Aa
 ·rfl
def ZX(l:List Int):Bool:=l.all λn=>K3 (n>=0)&&K3 (n<=255)
theorem Qeo(r:Q2)(hl:r.2.2.2.1.length<=1048576):∀(N i:Nat),r.2.2.2.1-i<N->i<=r.2.2.2.1->lT N r (i:Int)=K2 (ZX (r.2.2.2.1.drop i),())
 |0,_,h,_=>Aa
 |N+1,i,b,c=>by
  rw[lT];by_cases a:i<r.2.2.2.1
  ·rw[Zn (Zl),Zb,Zcw,pA,Zs a,Qeo r hl N (i+1) Aa Aa,show(i:Int).toNat=i from rfl,Qy (d:=0) a]
   grind[ZX]
  ·rw[Zp (Zm),Li Aa];rfl
theorem bN(n a b:Int):Z1 n a b=K2 (K3 (n>=a)&&K3 (n<=b),()):=rfl
theorem Qen(l:List Int)(hl:l.length<=1048576)(u:Unit):∀(N i:Nat),l-i<N->i<=l-> ∃k,Ys N l u l (i:Int)=K2 (k,())/\K3 (k>=0)= !ZX (l.drop i)
 |0,_,h,_=>Aa
 |N+1,i,f,g=>by
  rw[Ys];by_cases a:i<l
  ·have e:Zd3 (l.getD i 0)=K2 (!(K3 (l.getD i 0>=0)&&K3 (l.getD i 0<=255)),()):=rfl;rw[Zn (Zl),Zb,show(i:Int).toNat=i from rfl,e,pA,Zs a,Qy (d:=0) a];obtain⟨k,b,c⟩:=Qen l hl () N (i+1) Aa Aa;cases hc:K3 (l.getD i 0>=0)&&K3 (l.getD i 0<=255)
   ·exact⟨_,rfl,by grind[ZX]⟩
   ·exact⟨k,b,by rw[c];simp only[ZX,Mc,hc,pJ]⟩
  simp_all[Zm,Li,ZX]
theorem Zx1(r:Q2)(hl:r.2.2.2.1.length<=1048576):q8 r=aP r:=by
 unfold q8 gH aP bp mD Wq aL;obtain⟨k,a,b⟩:=Qen r.2.2.2.1 hl () (Kc r.2.2.2.1 () r.2.2.2.1 0) 0 (by simp[Kc]) Aa;have c:=Qeo r hl (Vg r 0) 0 (by simp[Vg]) Aa;simp only[Lo,Lp]at a b c;have e:Xq r.2.1=K2 (K3 (r.2.1>=0)&&K3 (r.2.1<=4611686018427387903),()):=rfl;simp only[a,b,c,bN,e,pA];have d:K3 (r.1>=1)=K3 (r.1>0):=by congr 1
 rw[d];generalize f:((K3 (r.1>0)&&K3 (r.1<=64))&&(bits .and .i64 r.1 (Lb.wrap (r.1-1))==0))=A;generalize (r.2.2.2.1 !=r.1)=B;cases A
 ·rfl
 cases B
 ·simp only[pI,L3,pH,pA,Ld];simp only[pC,decide_eq_true_eq]at f;generalize ZX r.2.2.2.1=C;by_cases g:0<=r.2.1/\r.2.1<=r.2.2.1/\r.2.2.1<=4611686018427387903
  ·obtain⟨i,h,j⟩:=g;rw[Zr (n:=r.2.2.1-r.2.1),Zr (n:=r.2.1+r.1),Zl (p:=r.2.1>=0),Zl (p:=r.2.1<=4611686018427387903),Zm (p:=r.2.1<0),Zm (p:=r.2.2.1<r.2.1),Zm (p:=r.2.2.1>4611686018427387903),Zl (p:=r.2.2.1>=r.2.1) h]
   grind
  ·have l:((((K3 (r.2.1<0))||(K3 (r.2.2.1<r.2.1)))||(K3 ((Lb.wrap (r.2.2.1-r.2.1))>r.1)))||(K3 (r.2.2.1>4611686018427387903)))=true:=by
    grind
   have m:((K3 (r.2.1>=0)&&K3 (r.2.1<=4611686018427387903))&&(K3 (r.2.2.1>=r.2.1)&&K3 (r.2.2.1<=min (Lb.wrap (r.2.1+r.1)) 4611686018427387903)))=false:=by
    grind
   grind
 ·rfl
def hiB(S:Int)(l:List Zi):Bool:=l.all λx=>K3 (x.2.1<=S)
def stF(s:Zk):Int:=match ch s with|some (k,_)=>k|none=>0
theorem Zg5(s:Zk):ch s=K2 (stF s,()):=by
 obtain⟨k,e⟩:=Zqu s
 grind[stF]
theorem WR(s:Zk)(h0:0<=s.2.2.2.2.2.2.1)(h3:s.2.2.2.2.2.2.1<=3):lE s=K2 (stF s,()):=by
 rw[<-Zg5];unfold lE ch
 grind
def Znv(s:Zk):Bool:= !((!((s.2.2.2.2.2.2.1==(0:Int))==(s.2.2.2.2.2.1==(-1:Int))))||((s.2.2.2.2.2.1 !=(-1:Int))&&(s.2.2.2.2.2.1 !=s.2.1.2.2.1)))
theorem Qvy(s:Zk)(hl:s.2.2.2.2.1.length<=1048576):∀(N i:Nat),s.2.2.2.2.1-i<N->i<=s.2.2.2.2.1->fW N s (i:Int)=K2 (hiB s.2.2.2.2.2.2.2.1 (s.2.2.2.2.1.drop i)&&(Znv s&&(s.1==stF s)),())
 |0,_,h,_=>Aa
 |N+1,i,b,e=>by
  rw[fW];by_cases a:i<s.2.2.2.2.1
  ·rw[Zn (Zl),Zb,Zs a,Qvy s hl N (i+1) Aa Aa,show(i:Int).toNat=i from rfl,Qy (d:=Z3) a]
   grind[hiB]
  ·rw[Zp (Zm),Li Aa,Zg5,pA];unfold Znv;generalize ((!((s.2.2.2.2.2.2.1==(0:Int))==(s.2.2.2.2.2.1==(-1:Int))))||((s.2.2.2.2.2.1 !=(-1:Int))&&(s.2.2.2.2.2.1 !=s.2.1.2.2.1)))=c;cases c<;>rfl
theorem Qvx(s:Zk)(hl:s.2.2.2.1.length<=1048576)(hl2:s.2.2.2.2.1.length<=1048576):∀(N i:Nat),s.2.2.2.1-i<N->i<=s.2.2.2.1->fV N s (i:Int)=K2 (hiB s.2.2.2.2.2.2.2.1 (s.2.2.2.1.drop i)&&(hiB s.2.2.2.2.2.2.2.1 s.2.2.2.2.1&&(Znv s&&(s.1==stF s))),())
 |0,_,h,_=>Aa
 |N+1,i,b,c=>by
  rw[fV];by_cases a:i<s.2.2.2.1
  ·rw[Zn (Zl),Zb,Zs a,Qvx s hl hl2 N (i+1) Aa Aa,show(i:Int).toNat=i from rfl,Qy (d:=Z3) a]
   grind[hiB]
  ·rw[Zp (Zm),Li Aa];exact Qvy s hl2 _ 0 (by simp[mg]) Aa
def Qfc(a:List Zi)(r:Zi):List Zi:=ite (rsB (-1) a=K4/\W7 r=K4) (jf a r) a
def lj(a l:List Zi):List Zi:=l.foldl Qfc a
theorem Zk0{E:Int}:∀{l a:List Zi},RL E a->(∀x∈l,x.2.1<=E)->RL E (lj a l)
 |[],_,h,_=>h
 |x::l,a,h,b=>Zk0 (l:=l) (a:=Qfc a x) (vd h (b x Ae)) λy c=>b y (by simp[c])
theorem Zs8{E:Int}:∀{l:List Zi}{lo:Int},rsB lo l=K4->(∀x∈l,x.2.1<=E)->l≠[]->bu l<=E-lo-1
 |[],_,_,_,h=>absurd rfl h
 |x::l,lo,h,a,_=>by
  obtain⟨d,e,b⟩:=Wp.1 h;have hx:=a x Ae;simp only[bu];rcases l with _|⟨y,l⟩
  ·grind[bu]
  ·have:=Zs8 b (λz c=>a z (by simp[c])) Ae;omega
theorem Qfj(h:RL E l)(hc:bu l=E)(h0:0<E):(l.getD 0 Z3).2.1=E:=by
 obtain⟨c,a⟩:=h;rcases l with _|⟨x,l⟩
 ·simp_all[bu]
 ·obtain⟨b,f,d⟩:=Wp.1 c;have hx:=a x Ae;have b:=Qh.1 b;simp only[bu]at hc;rcases l with _|⟨y,l⟩
  ·grind[bu]
  ·have:=Zs8 d (λz e=>a z (by simp[e])) Ae;omega
theorem Zs9(h:RL E l)(h0:0<=E):0<=bu l/\bu l<=E:=by
 have:∀{l:List Zi}{lo:Int},rsB lo l=K4->0<=bu l:=by
  intro l
  induction l with
  |nil=>simp_all[bu]
  |cons x l a=>
   grind[Wp,Qh,bu]
 refine⟨this h.1,?_⟩;rcases hl:l with _|⟨x,b⟩
 ·simp_all[bu]
 ·have:=Zs8 h.1 h.2 (by rw[hl];simp);simp_all
def Zhb(s:Zk)(all:List Zi):Bool:=(bu all==s.2.1.2.2.1)&&(bu s.2.2.1+bu s.2.2.2.1+bu s.2.2.2.2.1==s.2.1.2.2.1)
theorem Qvw{K:Int}{s:Zk}(hs:Jr K s)(hK:K<=1000000):∀(N i:Nat)(all:List Zi),RL (Qkm s) all->s.2.2.2.2.1-i<N->i<=s.2.2.2.2.1->
  fU N s all (i:Int)=K2 (Zhb s (lj all (s.2.2.2.2.1.drop i))&&((VH s.2.2.2.2.1 0==s.2.1.2.1)&&((s.2.2.2.2.2.2.2.2.1==0)&&(hiB s.2.2.2.2.2.2.2.1 s.2.2.2.1&&(hiB s.2.2.2.2.2.2.2.1 s.2.2.2.2.1&&(Znv s&&(s.1==stF s)))))),())
 |0,_,_,_,h,_=>Aa
 |N+1,i,all,a,l,m=>by
  have o:=Qm a hs.e0 hs.eK hK;have p:=Qm hs.pend hs.e0 hs.eK hK;have q:=Qm hs.pT hs.e0 hs.eK hK;have r:=Qm hs.pO hs.e0 hs.eK hK;rw[fU];by_cases h:i<s.2.2.2.2.1
  ·rw[Zn (Zl),Zb,Zs h,ia _ _,pA,Qy (d:=Z3) h];exact Qvw hs hK N (i+1) _ (vd a (hs.pO.2 _ (Z2 h))) Aa Aa
  ·have t:=Zs9 hs.pend hs.e0;have u:=Zs9 hs.pT hs.e0;have v:=Zs9 hs.pO hs.e0;have c:=hs.eK;rw[Zp (Zm),kc _,kc _,kc _,kc _,Zeo _ _,Li Aa];simp only[pA,a.1,hs.pend.1,hs.pT.1,hs.pO.1,if_true];rw[Zb (λe f=>by
    simp only[Lh,bne_eq_false_iff_eq,decide_eq_true_eq]at e f
    grind[Z71]),Zr (n:=bu s.2.2.1+bu s.2.2.2.1),Zr,show lj all []=all from rfl]
   have b:=Qvx s Aa Aa (fE s 0) 0 (by simp[fE]) Aa;simp only[Lo,Lp]at b;rw[b];unfold Zhb;generalize (hiB s.2.2.2.2.2.2.2.1 s.2.2.2.1&&(hiB s.2.2.2.2.2.2.2.1 s.2.2.2.2.1&&(Znv s&&(s.1==stF s))))=R;have g:(ite (True/\(0:Int)<=0) (VH s.2.2.2.2.1 0) (-1))=VH s.2.2.2.2.1 0:=Ae
   rw[g];by_cases j:bu all=s.2.1.2.2.1
   ·by_cases w:bu s.2.2.1+bu s.2.2.2.1+bu s.2.2.2.2.1=s.2.1.2.2.1
    ·have x:((K3 (s.2.1.2.2.1>0))&&((all.getD (0:Int).toNat Z3).2.1 !=s.2.1.2.2.1))=false:=by
      by_cases k:0<s.2.1.2.2.1
      ·have:=Qfj a j k;simp_all
      grind
     grind
    grind
   grind
theorem Qsr{K:Int}{s:Zk}(hs:Jr K s)(hK:K<=1000000):∀(N i:Nat)(all:List Zi),RL (Qkm s) all->s.2.2.2.1-i<N->i<=s.2.2.2.1->
  fT N s all (i:Int)=K2 (Zhb s (lj (lj all (s.2.2.2.1.drop i)) s.2.2.2.2.1)&&((VH s.2.2.2.2.1 0==s.2.1.2.1)&&((s.2.2.2.2.2.2.2.2.1==0)&&(hiB s.2.2.2.2.2.2.2.1 s.2.2.2.1&&(hiB s.2.2.2.2.2.2.2.1 s.2.2.2.2.1&&(Znv s&&(s.1==stF s)))))),())
 |0,_,_,_,h,_=>Aa
 |N+1,i,all,a,b,c=>by
  have e:=Qm a hs.e0 hs.eK hK;have f:=Qm hs.pT hs.e0 hs.eK hK;rw[fT];by_cases h:i<s.2.2.2.1
  ·rw[Zn (Zl),Zb,Zs h,ia _ _,pA,Qy (d:=Z3) h];exact Qsr hs hK N (i+1) _ (vd a (hs.pT.2 _ (Z2 h))) Aa Aa
  ·rw[Zp (Zm),Li Aa];have:=Qvw hs hK (fD s all 0) 0 all a (by simp[fD]) Aa;simp only[Lo,Lp]at this;exact this
theorem Qe7{K:Int}{s:Zk}(hs:Jr K s)(hK:K<=1000000)(t:List Zi)(ht:t.length<=3000000)(hE:∀x∈t,x.2.1<=s.2.1.2.2.1):∀(N i:Nat)(all:List Zi),RL (Qkm s) all->t-i<N->i<=t->
  pg N s.2.1.2.2.1 all t t (i:Int)=K2 (bu (lj all (t.drop i))==s.2.1.2.2.1,())
 |0,_,_,_,h,_=>Aa
 |N+1,i,all,a,c,e=>by
  have f:=Qm a hs.e0 hs.eK hK;rw[pg];by_cases h:i<t
  ·rw[Zn (Zl),Zb,Zs h,YT _ _,pA,Qy (d:=Z3) h];exact Qe7 hs hK t ht hE N (i+1) _ (vd a (hE _ (Z2 h))) Aa Aa
  ·rw[Zp (Zm),Li Aa,KP _];simp only[a.1,if_true,pA];unfold jj gI;rw[Zb (λh=>by
    have:=pE h
    grind[Zr])]
   have b:((K3 ((all:Int)>0))&&(K3 ((all.getD (Lb.wrap (all-1)).toNat Z3).2.1>s.2.1.2.2.1)))=false:=by
    by_cases g:(all:Int)>0
    ·rw[Zr];have:=a.2 _ (Z2 (l:=all) (i:=((all:Int)-1).toNat) (d:=Z3));simp_all
    simp_all
   rw[b,show lj all []=all from rfl];simp_all
theorem Qo1{lo S:Int}:∀{l:List Zi},rsB lo l=K4->hiB S l= !((K3 ((l:Int)>0))&&(K3 ((l.getD (l-1) Z3).2.1>S)))
 |[],_=>rfl
 |[x],_=>by
  simp only[hiB,Mc,List.all_nil,L2,List.length_singleton,Nat.sub_self,Lz]
  grind
 |x::y::l,h=>by
  obtain⟨c,d,a⟩:=Wp.1 h;have f:=Qo1 (S:=S) a;have b:=Wp.1 a;have g:=Qh.1 b.1;have e:(x::y::l).getD ((x::y::l)-1) Z3=(y::l).getD ((y::l)-1) Z3:=Ae
  rw[e];have i:hiB S (x::y::l)=(K3 (x.2.1<=S)&&hiB S (y::l)):=rfl
  grind[hiB]
theorem Zzo(h:rsB lo l=K4)(hl:l.length<=1048576)(S:Int):jj l S=K2 (!hiB S l,()):=by
 unfold jj gI;simp only;rw[Zb (λh=>by
  have:=pE h
  grind[Zr]),Qo1 h (S:=S),Bool.not_not]
 by_cases a:(l:Int)>0
 ·rw[Zr,show((l:Int)-1).toNat=l-1 by omega]
 simp_all
theorem xy{K:Int}(hs:Jr K s)(hK:K<=1000000:=by omega):oa s=K9 s:=by
 have l:=Qm hs.pend hs.e0 hs.eK hK;have m:=Qm hs.pT hs.e0 hs.eK hK;have o:=Qm hs.pO hs.e0 hs.eK hK;have d:=(zK s.2.1 (by have:=hs.cells;omega)).1;have p:=Zs9 hs.pend hs.e0;have q:=Zs9 hs.pT hs.e0;have r:=Zs9 hs.pO hs.e0;have e:=hs.eK;have b:=Qsr hs hK (Va s s.2.2.1 0) 0 s.2.2.1 hs.pend (by simp[Va]) Aa;simp only[Lo,Lp]at b;have g:KX s.2.2.1 s.2.2.2.1 s.2.2.2.2.1 s.2.1.2.2.1=K2 (Zhb s (lj (lj s.2.2.1 s.2.2.2.1) s.2.2.2.2.1),()):=by
  unfold KX;rw[KP _,KP _,KP _,z7 _,z7 _];simp only[hs.pend.1,hs.pT.1,hs.pO.1,if_true,pA];rw[Zr (n:=bu s.2.2.1+bu s.2.2.2.1),Zr,Zb Aj];have:=Qe7 hs hK (s.2.2.2.1++s.2.2.2.2.1) Af (λx hx=>by
   rcases Mh.1 hx with hx|hx
   ·exact hs.pT.2 x hx
   ·exact hs.pO.2 x hx) (ma s.2.1.2.2.1 s.2.2.1 (s.2.2.2.1++s.2.2.2.2.1) (s.2.2.2.1++s.2.2.2.2.1) 0) 0 s.2.2.1 hs.pend (by grind[ma]) Aa
  grind[Zhb,lj]
 have c:∀f,0<=s.2.2.2.2.2.2.1->s.2.2.2.2.2.2.1<=3->o8 s f=K2 (Zhb s (lj (lj s.2.2.1 s.2.2.2.1) s.2.2.2.2.1)&&((VH s.2.2.2.2.1 0==s.2.1.2.1)&&((s.2.2.2.2.2.2.2.2.1==0)&&(hiB s.2.2.2.2.2.2.2.1 s.2.2.2.1&&(hiB s.2.2.2.2.2.2.2.1 s.2.2.2.2.1&&((s.2.2.2.2.2.1==f)&&(s.1==stF s)))))),()):=λf h i=>by
  unfold o8;rw[g,Z3p _ _,Zzo hs.pT.1 Aa,Zzo hs.pO.1 Aa,WR s h i];have t:(ite (rsB (-1) s.2.2.2.2.1=K4/\(0:Int)<=0) (VH s.2.2.2.2.1 0) (-1))=VH s.2.2.2.2.1 0:=if_pos ⟨hs.pO.1,Ln _⟩
  grind
 unfold oa gH K9 gH;rw[Zx1 _ (by have:=hs.cells;omega),d,fu _,fu _,fu _,xw _,xw _,xw _,b];have j:Q9 s.2.2.2.2.2.2.2.2.1=K2 (K3 (s.2.2.2.2.2.2.2.2.1>=0)&&K3 (s.2.2.2.2.2.2.2.2.1<=4611686018427387903),()):=rfl;have k:Xq s.2.2.2.2.2.2.2.2.1=K2 (K3 (s.2.2.2.2.2.2.2.2.1>=0)&&K3 (s.2.2.2.2.2.2.2.2.1<=4611686018427387903),()):=rfl;simp only[hs.pend.1,hs.pT.1,hs.pO.1,j,k,Zcw,bN,pA];generalize pw s.2.1=b1;cases b1
 ·rfl
 simp only[pI,pH,pA,Ld];generalize (K3 (s.2.2.2.2.2.2.2.1>=0)&&K3 (s.2.2.2.2.2.2.2.1<=s.2.1.2.2.1))=b2;cases b2
 ·rfl
 simp only[pI,pH,pA,Ld];generalize (K3 (s.2.2.2.2.2.2.2.2.1>=0)&&K3 (s.2.2.2.2.2.2.2.2.1<=4611686018427387903))=b3;cases b3
 ·rfl
 simp only[pI,pH,pA,Ld];by_cases a:0<=s.2.2.2.2.2.2.1/\s.2.2.2.2.2.2.1<=3
 ·rw[c _ a.1 a.2,c _ a.1 a.2,show(K3 (s.2.2.2.2.2.2.1>=0)&&K3 (s.2.2.2.2.2.2.1<=3))=K4 by simp_all];simp only[pI,pH];cases (s.1==(4:Int))||(s.1==(5:Int))
  ·simp only[pH];have u:=hs.e0;have:Znv s=(cond (s.2.2.2.2.2.2.1==0) (s.2.2.2.2.2.1== -1) (s.2.2.2.2.2.1==s.2.1.2.2.1)):=by
    grind[Znv]
   grind
  grind
 grind
theorem Qhi(l:List Qd)(hl:l.length<=1048576)(ht:mj l<=1000000):∀(N i:Nat)(e:Int),l.length-i<N->i<=l.length-> -1<=e->e<=4611686018427387903->oZ N (e+1) l (l.length:Int) (i:Int)=K2 (ckB e (l.drop i),())
 |0,_,_,h,_,_,_=>Aa
 |N+1,i,e,g,j,k,m=>by
  rw[oZ];by_cases a:i<l.length
  ·have b:=Zak (Z2 (l:=l) (d:=Qt) a);rw[Zn (Zl),Zb,Zs a,show(i:Int).toNat=i from rfl,Qy (d:=Qt) a];generalize o:l.getD i Qt=c at b;have f:(((c.2.1.length:Int)==0)||K3 (c.1<e+1))=(K3 (c.1<=e)||(c.2.1==([]:Ba))):=by
    rw[Lg];simp only[Bool.or_eq_true,beq_iff_eq,decide_eq_true_eq]
    grind[Lx]
   simp only[ckB];rw[f,Zr (n:=4611686018427387903- (c.2.1.length:Int))];cases hx:((K3 (c.1<=e)||(c.2.1==([]:Ba)))||K3 (c.1>4611686018427387903- (c.2.1.length:Int)))
   ·simp only[Lh,decide_eq_false_iff_not]at hx;rw[pH];unfold ii;rw[pA];simp only;rw[Zr (n:=c.1+(c.2.1.length:Int)),Zr,Qhi l hl ht N (i+1) (c.1+(c.2.1.length:Int)) Aa Aa Aa Aa];simp
   ·rfl
  ·rw[Zp (Zm),Li Aa];rfl
theorem Zc1(n:Int):Xq n=K2 (aY n,()):=rfl
theorem Zlb(h:bZ K b)(hK:K<=1000000):nZ b=K2 (qs b,()):=by
 have c:=h.len;have d:=h.tot;unfold nZ qs;rw[Zc1,pA];cases a:aY b.1
 ·simp
 ·have a:=X4.1 a;rw[Zr (n:=b.1-1)];have:=Qhi b.2.1 Aa Aa (l8 b.1 b.2.1 (b.2.1.length:Int) 0) 0 (b.1-1) (by simp[l8]) Aa Aa Aa;simp_all
theorem Qqz(h:bZ K b)(hK:K<=1000000):Zge b=wv b:=by
 have a:=h.len;unfold Zge gG gJ wv gG gH gJ;rw[Zlb h hK,lH b,pA];cases hz:((b.2.1.length:Int)==0)
 ·cases qs b
  ·rfl
  ·rfl
 simp_all
theorem Zkq(h:bZ K b)(hK:K<=1000000):mC b=eE b:=by
 have a:=h.len
 grind[mC,eE,Zlb,lH]
theorem ZC(h:bZ K r.2.1)(hK:K<=1000000:=by omega):ca r=Yt r:=by
 have i:=h.len;obtain⟨v,hv⟩:=Qdf h hK;unfold ca gH Yt gH yt;rw[Zlb h hK,lH _,Qqz h hK,hv,Zkq h hK,lK _];simp only[Zc1,Kh,bN,pA];generalize qs r.2.1=b1;cases b1
 ·simp_all
 simp only[pI,pH,pA,Ld];cases c:aY r.2.2.2.1
 ·simp_all
 have c:=X4.1 c;simp only[pI,pH,pA,Ld];by_cases d:v>r.2.2.2.1
 ·simp_all
 rw[Zm d];simp only[pH,pA,Ld];cases hc:aY r.2.2.2.2.1
 ·simp_all
 simp only[pI,pH,pA,Ld];have e:((r.2.2.1 != -1)&&(!(K3 (r.2.2.1>=r.2.2.2.1)&&K3 (r.2.2.1<=4611686018427387903))))=((((r.2.2.1 != -1)&&(K3 (r.2.2.1<r.2.2.2.1)))||(K3 (r.2.2.1>4611686018427387903)))||(K3 (r.2.2.1< -1))):=by
  grind
 by_cases a:r.2.2.1= -1
 ·rw[a];have f:((-1:Int)==r.2.2.2.1)=false:=Ag
  have j:∀b,cx r b=Kr r b:=λb=>by
   unfold cx Kr;rw[a,f];rfl
  grind
 ·have g:(r.2.2.1 != -1)=true:=by simpa using a
  rw[g]at e⊢;simp only[pG,pA,pJ]at e⊢;rw[e];have j:∀b,cx r b=Kr r b:=λb=>by
   unfold cx Kr
   grind
  grind
theorem Zlc(c:Ky):dw c=Vu c:=rfl
theorem Ze3(w:Ql):kv w=bX w:=rfl
theorem Zv3(p:Q7):mz p=cg p:=rfl
theorem bO{c b:Bool}{f:Bool×Unit->Option β}:Lf (cond c (K2 (Lc,())) (K2 (b,()))) f=f (!c&&b,()):=by cases c<;>rfl
theorem bO2{c b:Bool}:(c|| !(!c&&b))=(c|| !b):=by cases c<;>rfl
theorem bA{c b:Bool}{f:Bool×Unit->Option β}:Lf (cond c (K2 (b,())) (K2 (Lc,()))) f=f (c&&b,()):=by cases c<;>rfl
theorem bA2{c b:Bool}:(c&&(c&&b))=(c&&b):=by cases c<;>rfl
theorem Ztq{s:Zf}(h:Xc K s)(hK:K<=1000000):yn s=g9 s:=by
 obtain⟨f,a,-⟩:=xz h.snd;obtain⟨g,b⟩:=Zjm s.2.2.1;obtain⟨i,c⟩:=wc h.rcv hK;obtain⟨j,d⟩:=Ze2 s.2.2.2.2.1;obtain⟨k,e⟩:=Zn0 s.2.2.2.2.2.1;unfold yn gH g9 gH;simp only[xy h.snd,ZC h.rcv hK,Zlc,Ze3,Zv3,a,b,c,d,e,Kh,Zc1,pA,bO,bO2]
 grind
theorem Qdy(c:ks):vu c=aO c:=by
 unfold vu aO mD bp;have a:K3 (c.1>=1)=K3 (c.1>0):=by congr 1
 simp only[bN,Zcw,pA,bA,bA2,a];congr 2
 ac_rfl
theorem Z0c(c:dn):xk c=g7 c:=rfl
theorem Z0b(c:Ky):rA c=bk c:=rfl
theorem Zys{K:Nat}{l:List Zf}(h:mi K l)(hK:K<=1000000)(h24:l.length<=24):∀(N i:Nat),l-i<N->i<=l->cq N l l l (i:Int)=Jh N l (i:Int)
 |0,_,h,_=>Aa
 |N+1,i,j,k=>by
  rw[cq,Jh];by_cases c:i<l
  ·have g:∀{a:Prop},a->K3 ((i:Int)>0)=K4->0<=Lb.wrap ((i:Int)-1)/\Lb.wrap ((i:Int)-1)<l:=λ_ h=>by
    have:=pE h;grind[Zr]
   obtain⟨b,e⟩:=Zjn (h.all _ (Z2 (d:=Zc) c)) hK;rw[Zn (Zl (p:=(i:Int)<l)),Zn (Zl (p:=(i:Int)<l)),Zb,Zb,show(i:Int).toNat=i from rfl,Ztq (h.all _ (Z2 (d:=Zc) c)) hK,Zm (p:=(i:Int)>=24),pH,e,pA,pA];simp only[Ld];rw[Zb (λh f=>g h f),Zb (λh f=>g h f),Zb (λ_ _=>Aa),Zs c,Zys h hK h24 N (i+1) Aa Aa]
  grind
theorem Z7q{K:Nat}{l:List Zf}(h:mi K l)(hK:K<=1000000)(h24:24<l.length):∀(N i:Nat),24-i<N->i<=24->cq N l l l (i:Int)=K2 (Lc,())
 |0,_,h,_=>Aa
 |N+1,i,j,k=>by
  have m:=h.len;rw[cq,Zn (Zl),Zb];have c:i<l:=Aa
  have g:∀{a:Prop},a->K3 ((i:Int)>0)=K4->0<=Lb.wrap ((i:Int)-1)/\Lb.wrap ((i:Int)-1)<l:=λ_ h=>by
   have:=pE h;grind[Zr]
  by_cases n:i=24
  ·simp_all[Zb]
  ·obtain⟨b,e⟩:=Zjn (h.all _ (Z2 (d:=Zc) c)) hK;rw[show(i:Int).toNat=i from rfl,Zm (p:=(i:Int)>=24),pH,Ztq (h.all _ (Z2 (d:=Zc) c)) hK,e,pA,Zs c,Z7q h hK h24 N (i+1) Aa Aa];simp only[Ld];rw[Zb (λh f=>g h f)];simp_all
theorem Zir{l:List Zf}(h:mi K l)(hK:K<=1000000):jh l=Vj l:=by
 by_cases a:l.length<=24
 ·unfold jh Vj;exact Zys h hK a _ 0 (by simp[iL]) Aa
 ·obtain⟨⟨b,u⟩,e,c⟩:=Zvp h hK;have:b=false:=by
   grind
  grind[jh,Z7q,iL]
theorem Z1t{l:List Zf}(h:mi K l)(hK:K<=1000000):pd l=iC l:=by
 obtain⟨b,e⟩:=Zan h hK;have g:=h.len;have a:b=K4-> ∀(N i:Nat)(n:Int),l-i<N->i<=l-> ∃v,Vn N () n l l (i:Int)=K2 (v,())/\Vy N l n (i:Int)=K2 (v,()):=by
  intro c N
  induction N with
  |zero=>omega
  |succ N d=>
   intro i n j k;rw[Vn,Vy,e,c];by_cases f:i<l
   ·rw[Zl,pG,pG,pA,Zb];simp only[Lr,pG];rw[Zb,Zs f];exact d (i+1) _ Aa Aa
   simp_all[Zm]
 unfold pd kl iC;rw[Zir h hK,e];cases b
 ·simp_all[J0,Vy]
 ·obtain⟨v,m,o⟩:=a rfl (J0 l 0 0) 0 0 (by simp[J0]) Aa;simp_all[bW,J0]
theorem Z1s{l:List Zf}(h:mi K l)(hK:K<=1000000):pb l=iB l:=by
 obtain⟨b,e⟩:=Zan h hK;have g:=h.len;have a:b=K4-> ∀(N i:Nat)(n:Int),l-i<N->i<=l-> ∃v,Vm N () n l l (i:Int)=K2 (v,())/\Vx N l n (i:Int)=K2 (v,()):=by
  intro c N
  induction N with
  |zero=>omega
  |succ N d=>
   intro i n j k;rw[Vm,Vx,e,c];by_cases f:i<l
   ·rw[Zl,pG,pG,pA,Zb];simp only[Lr,pG];rw[Zb,Zs f];exact d (i+1) _ Aa Aa
   simp_all[Zm]
 unfold pb kj iB;rw[Zir h hK,e];cases b
 ·simp_all[Jz,Vx]
 ·obtain⟨v,m,o⟩:=a rfl (Jz l 0 0) 0 0 (by simp[Jz]) Aa;simp_all[bV,Jz]
theorem Z3s{l:List Zj}(h:Zwn l)(u:Unit):∀(N i:Nat),l-i<N->i<=l-> ∃k b,Q6 N l u l (i:Int)=K2 (k,())/\K3 (k>=0)= !b/\ax N l (i:Int)=K2 (b,())
 |0,_,h,_=>Aa
 |N+1,i,e,f=>by
  have g:=h.1;rw[Q6,ax];by_cases a:i<l
  ·have c:=h.2 _ (Z2 (d:=Qc) a);unfold FOK at c;unfold QV;rw[Zn (Zl),Zn (Zl),Zb,Zb,show(i:Int).toNat=i from rfl,QW _,xL _,pA,pA,pA,Zs a];obtain⟨k,b,j,m,n⟩:=Z3s h () N (i+1) Aa Aa
   grind
  simp_all[Zm]
theorem Qmg{l:List Zj}(h:Zwn l):∃b,Xo l=K2 (!b,())/\iG l=K2 (b,()):=by
 unfold Xo Kg iG;obtain⟨k,b,a,c,d⟩:=Z3s h () (Wm l 0) 0 (by simp[Wm]) Aa;simp_all[Yg,Wm]
theorem xv(h:Q5 K c)(hK:K<=1000000:=by omega):K7 c=Jn c:=by
 obtain⟨z,l⟩:=Z4l h.str hK;obtain⟨A,m⟩:=Z4k h.str hK;have W:=h.pk.1;obtain⟨n,o⟩:∃r,Z9 c.2.2.2.2.2.2.2.2.2.2.2.2.2.1 (-1) 4611686018427387903=K2 (r,()):=⟨_,rfl⟩
 obtain⟨s,t⟩:∃r,Z9 c.2.2.2.2.2.2.2.2.2.2.2.2.2.2.1 0 1000000=K2 (r,()):=⟨_,rfl⟩
 obtain⟨u,v⟩:∃r,Z9 c.2.2.2.2.2.2.2.2.2.2.2.2.2.2.2.2.1 0 1000000=K2 (r,()):=⟨_,rfl⟩
 obtain⟨w,x⟩:∃r,Z9 c.2.2.2.2.2.2.2.2.2.2.2.2.2.2.2.2.2.1 0 255=K2 (r,()):=⟨_,rfl⟩
 have B:Z1 c.2.2.2.2.2.2.2.2.2.2.2.2.2.1 (-1) 4611686018427387903=K2 (n,()):=o;have C:Z1 c.2.2.2.2.2.2.2.2.2.2.2.2.2.2.1 0 1000000=K2 (s,()):=t;have D:Z1 c.2.2.2.2.2.2.2.2.2.2.2.2.2.2.2.2.1 0 1000000=K2 (u,()):=v;have E:Z1 c.2.2.2.2.2.2.2.2.2.2.2.2.2.2.2.2.2.1 0 255=K2 (w,()):=x;have F:∀(N i:Nat),c.2.2.2.2.2.2.2.2.2.2.2.2.2.2.2.1-i<N->i<=c.2.2.2.2.2.2.2.2.2.2.2.2.2.2.2.1-> ∃p,lC N c.2.2.2.2.2.2.2.2.2.2.2.2.2.2.2.1 c.2.2.2.2.2.2.2.2.2.2.2.2.2.2.1 c.2.2.2.2.2.2.2.2.2.2.2.2.2.2.2.1 c.2.2.2.2.2.2.2.2.2.2.2.2.2.2.2.1 (i:Int)=K2 (p,())/\
   dL N c (i:Int)=K2 (p&&(((((n&&s)&&u)&&w)&&K3 (z<=c.2.2.2.2.1.2.1))&&K3 (A<=c.2.2.2.2.2.1.2.2.2.1)),()):=by
  intro N
  induction N with
  |zero=>intro i h;omega
  |succ N G=>
   intro i X Y;rw[lC,dL];by_cases y:i<c.2.2.2.2.2.2.2.2.2.2.2.2.2.2.2.1
   ·have g:∀{a:Prop},a->K3 ((i:Int)>0)=K4->0<=Lb.wrap ((i:Int)-1)/\Lb.wrap ((i:Int)-1)<c.2.2.2.2.2.2.2.2.2.2.2.2.2.2.2.1:=λ_ h=>by
     have:=pE h;grind[Zr]
    obtain⟨b,H,I⟩:=Qmg (h.pk.2 _ (Z2 (d:=Q1) y));rw[Zn (Zl),Zn (Zl),Zb,Zb,show(i:Int).toNat=i from rfl,bN,Zcw,H,I,pA,pA,Zb (λh j=>g h j),Zb (λ_ _=>Aa),Zb (λh j=>g h j)];simp only;rw[Zb (λ_=>Aa),Zs y];obtain⟨p,e,f⟩:=G (i+1) Aa Aa;rw[e,f];generalize (!(_&&_)||_:Bool)=q;cases q
    ·cases b
     all_goals simp
    simp_all
   ·rw[Zp (Zm),Zp (Zm)];refine⟨K4,rfl,?_⟩;simp only[o,t,v,x,pA,bA,bA2,l,m,pJ]
    grind
 obtain⟨p,e,f⟩:=F (aa c 0) 0 (by simp[aa]) Aa;have J:pf c.2.2.2.2.2.2.2.2.2.2.2.2.2.2.2.1 c.2.2.2.2.2.2.2.2.2.2.2.2.2.2.1 c.2.2.2.2.2.2.2.2.2.2.2.2.2.2.2.1 c.2.2.2.2.2.2.2.2.2.2.2.2.2.2.2.1 0=aa c 0:=rfl;rw[Lo]at e f;obtain⟨Z,L⟩:=Znz c.2.1;obtain⟨b2,k⟩:=Znz c.2.2.1;obtain⟨b3,M⟩:=Zan h.str hK;obtain⟨b4,O⟩:=Zjm c.2.2.2.2.1;obtain⟨b5,P⟩:=Ze2 c.2.2.2.2.2.1;obtain⟨b6,Q⟩:=Zqr c.2.2.2.2.2.2.1;obtain⟨b7,S⟩:=Zqr c.2.2.2.2.2.2.2.1;obtain⟨b8,U⟩:=Zqq c.2.2.2.2.2.2.2.2.1;obtain⟨b9,V⟩:=Zqq c.2.2.2.2.2.2.2.2.2.1;unfold K7 gH Jn gH VM;simp only[Qdy,Zir h.str hK,Zlc,Ze3,Z0c,Z0b,Z1t h.str hK,Z1s h.str hK,L,k,M,O,P,Q,S,U,V,J,e,f,l,m,B,C,D,E,pA,bO,bO2]
 grind
theorem Z78(c:Ky):VI c=ta c:=rfl
def inB(n a b:Int):Bool:=K3 (n>=a)&&K3 (n<=b)
theorem Ws{a b:Int}:inB n a b=K4↔a<=n/\n<=b:=by unfold inB;simp
theorem inQ(n a b:Int):Z9 n a b=K2 (inB n a b,()):=rfl
def Zh5(c:Ky):Bool:=((aY c.1&&inB c.2.1 0 c.1)&&inB c.2.2.1 (-1) c.1)&&inB c.2.2.2.1 (-1) c.1
theorem Z2o(c:Ky):Vu c=K2 (Zh5 c,()):=by
 unfold Vu;simp only[Kh,inQ,pA,bA,bA2];rfl
structure Zpt(c:Ky):Prop where
 lim:c.1<=4611686018427387903
 use0:0<=c.2.1
 use:c.2.1<=c.1
 blk0: -1<=c.2.2.1
 blk:c.2.2.1<=c.1
 told0: -1<=c.2.2.2.1
 told:c.2.2.2.1<=c.1
theorem Z76{c:Ky}:Zh5 c=K4↔Zpt c:=by
 unfold Zh5;simp only[pC,X4,Ws];exact⟨λh=>⟨Aa,Aa,Aa,Aa,Aa,Aa,Aa⟩,λh=>by obtain⟨_,_,_,_,_,_,_⟩:=h;omega⟩
def Zil(w:Ql):Bool:=(((((inB w.2.1 1 4096&&inB w.1 1 w.2.1)&&inB w.2.2.1 1 4611686018427387903)&&inB w.2.2.2.1 0 w.2.2.1)&&inB w.2.2.2.2.1 0 w.2.2.2.1)&&K3 (w.2.2.1<=Lb.wrap (w.2.2.2.2.1+w.1)))&&inB w.2.2.2.2.2.1 0 1000000
theorem Qag(w:Ql):bX w=K2 (Zil w,()):=by
 unfold bX;simp only[inQ,pA,bA,bA2];rfl
structure Zh4(w:Ql):Prop where
 most:1<=w.2.1/\w.2.1<=4096
 size:1<=w.1/\w.1<=w.2.1
 lim:1<=w.2.2.1/\w.2.2.1<=4611686018427387903
 seen:0<=w.2.2.2.1/\w.2.2.2.1<=w.2.2.1
 read:0<=w.2.2.2.2.1/\w.2.2.2.2.1<=w.2.2.2.1
 lr:w.2.2.1<=w.2.2.2.2.1+w.1
 since:0<=w.2.2.2.2.2.1/\w.2.2.2.2.2.1<=1000000
theorem Zim{w:Ql}:Zil w=K4↔Zh4 w:=by
 unfold Zil;simp only[pC,Ws,decide_eq_true_eq];constructor
 ·rintro⟨⟨⟨⟨⟨⟨b,c⟩,d⟩,e⟩,f⟩,a⟩,g⟩;rw[Zr]at a;exact⟨b,c,d,e,f,a,g⟩
 ·rintro⟨b,c,d,e,f,a,g⟩
  grind[Zr]
def prB(p:Q7):Bool:=inB p.1 0 7
theorem prE(p:Q7):cg p=K2 (prB p,()):=rfl
def WM(c:dn):Bool:=(inB c.1 0 1152921504606846976&&inB c.2.1 0 c.1)&&inB c.2.2.1 (-1) c.1
theorem Qfh(c:dn):g7 c=K2 (WM c,()):=by
 unfold g7;simp only[inQ,pA,bA,bA2];rfl
theorem Zf2{c:dn}:WM c=K4↔(0<=c.1/\c.1<=1152921504606846976)/\(0<=c.2.1/\c.2.1<=c.1)/\ -1<=c.2.2.1/\c.2.2.1<=c.1:=by
 simp_all[WM,Ws,and_assoc]
def Ziq(a:Qu):Bool:=(((inB a.1 0 1000&&inB a.2.1 a.1 1152921504606846976)&&inB a.2.2.1 0 a.2.1)&&inB a.2.2.2.1 0 a.2.2.1)&&K3 (a.2.1<=Lb.wrap (a.2.2.2.1+a.1))
theorem Qhd(a:Qu):bk a=K2 (Ziq a,()):=by
 unfold bk;simp only[inQ,pA,bA,bA2];rfl
structure Zin(a:Qu):Prop where
 most:0<=a.1/\a.1<=1000
 lim:a.1<=a.2.1/\a.2.1<=1152921504606846976
 seen:0<=a.2.2.1/\a.2.2.1<=a.2.1
 clo:0<=a.2.2.2.1/\a.2.2.2.1<=a.2.2.1
 lc:a.2.1<=a.2.2.2.1+a.1
theorem Zws{a:Qu}:Ziq a=K4↔Zin a:=by
 unfold Ziq;simp only[pC,Ws,decide_eq_true_eq];constructor
 ·rintro⟨⟨⟨⟨c,d⟩,e⟩,f⟩,b⟩;rw[Zr]at b;exact⟨c,d,e,f,b⟩
 ·rintro⟨c,d,e,f,b⟩
  grind[Zr]
def cfB(c:ks):Bool:=match aO c with|some (b,_)=>b|none=>Lc
theorem cfE(c:ks):aO c=K2 (cfB c,()):=by
 obtain⟨b,e⟩:=Znz c
 grind[cfB]
structure Qqd(s:Zk):Prop where
 whole:Zhb s (lj (lj s.2.2.1 s.2.2.2.1) s.2.2.2.2.1)=K4
 gap:VH s.2.2.2.2.1 0=s.2.1.2.1
 code:s.2.2.2.2.2.2.2.2.1=0
 fl:hiB s.2.2.2.2.2.2.2.1 s.2.2.2.1=K4
 ac:hiB s.2.2.2.2.2.2.2.1 s.2.2.2.2.1=K4
 fin:Znv s=K4
 st:s.1=stF s
structure Qai(s:Zk):Prop where
 ring:pw s.2.1=K4
 pr:rsB (-1) s.2.2.1=K4
 fr:rsB (-1) s.2.2.2.1=K4
 ar:rsB (-1) s.2.2.2.2.1=K4
 sent:0<=s.2.2.2.2.2.2.2.1/\s.2.2.2.2.2.2.2.1<=s.2.1.2.2.1
 code:0<=s.2.2.2.2.2.2.2.2.1/\s.2.2.2.2.2.2.2.2.1<=4611686018427387903
 fin:0<=s.2.2.2.2.2.2.1/\s.2.2.2.2.2.2.1<=3
 rst:s.1=4\/s.1=5->s.2.1.2.1=s.2.1.2.2.1/\s.2.2.1=[]/\s.2.2.2.1=[]/\s.2.2.2.2.1=[]/\s.2.2.2.2.2.1=s.2.2.2.2.2.2.2.1/\s.2.2.2.2.2.2.1=0/\s.2.2.2.2.2.2.2.1=s.2.1.2.2.1
 no:¬(s.1=4\/s.1=5)->Qqd s
def Zae(s:Zk):Bool:=match K9 s with|some (b,_)=>b|none=>Lc
theorem Zku{K:Int}(hs:Jr K s)(hK:K<=1000000:=by omega):K9 s=K2 (Zae s,()):=by
 grind[xz,Zae]
theorem Zsl{K:Int}(hs:Jr K s)(hK:K<=1000000):Zae s=K4↔Qai s:=by
 have q:=Qm hs.pend hs.e0 hs.eK hK;have r:=Qm hs.pT hs.e0 hs.eK hK;have t:=Qm hs.pO hs.e0 hs.eK hK;have p:=(zK s.2.1 (by have:=hs.cells;omega)).1;have o:=Qsr hs hK (Va s s.2.2.1 0) 0 s.2.2.1 hs.pend (by simp[Va]) Aa;simp only[Lo,Lp]at o;unfold Zae K9 gH;rw[p,fu _,fu _,fu _];simp only[Kh,inQ,pA,bO,bO2,hs.pend.1,hs.pT.1,hs.pO.1,pI,Bool.or_false,o];by_cases f:(((!pw s.2.1|| !inB s.2.2.2.2.2.2.2.1 0 s.2.1.2.2.1)|| !aY s.2.2.2.2.2.2.2.2.1)|| !inB s.2.2.2.2.2.2.1 0 3)=K4
 ·rw[f,pG];refine⟨λh=>Bool.noConfusion h,λh=>?_⟩;have a:=h.ring;have b:=Ws.2 h.sent;have c:=X4.2 h.code;have d:=Ws.2 h.fin;simp_all
 ·have f:(((!pw s.2.1|| !inB s.2.2.2.2.2.2.2.1 0 s.2.1.2.2.1)|| !aY s.2.2.2.2.2.2.2.2.1)|| !inB s.2.2.2.2.2.2.1 0 3)=false:=by simpa using f
  rw[f,pH];simp only[Lh,Ls]at f;obtain⟨⟨⟨a,b⟩,c⟩,d⟩:=f;by_cases e:s.1=4\/s.1=5
  ·have:((s.1==4)||(s.1==5))=true:=by simpa using e
   rw[this,pG];simp only[pC,beq_iff_eq];constructor
   ·rintro⟨⟨⟨⟨⟨⟨g,l⟩,m⟩,n⟩,i⟩,j⟩,k⟩;exact⟨a,hs.pend.1,hs.pT.1,hs.pO.1,Ws.1 b,X4.1 c,Ws.1 d,λ_=>⟨g,Lx.1 Aa,Lx.1 Aa,Lx.1 Aa,i,j,k⟩,λh=>absurd e h⟩
   ·intro h;obtain⟨g,l,m,n,i,j,k⟩:=h.rst e;simp_all
  ·have:((s.1==4)||(s.1==5))=false:=by simpa using e
   rw[this,pH];simp only[pC,beq_iff_eq];constructor
   ·rintro⟨g,l,m,n,i,j,k⟩;exact⟨a,hs.pend.1,hs.pT.1,hs.pO.1,Ws.1 b,X4.1 c,Ws.1 d,λh=>absurd h e,λ_=>⟨g,l,m,n,i,j,k⟩⟩
   ·intro h;obtain⟨g,l,m,n,i,j,k⟩:=h.no e;simp_all
def Zxj(r:Zu):Bool:=match Yt r with|some (b,_)=>b|none=>Lc
theorem Zkn(h:bZ K r.2.1)(hK:K<=1000000:=by omega):Yt r=K2 (Zxj r,()):=by
 grind[wc,Zxj]
theorem Qj7(h:bZ K r.2.1)(hK:K<=1000000)(hb:Zxj r=K4):0<=r.1:=by
 have e:=Zkn h hK;rw[hb]at e;unfold Yt gH at e;have j:=h.len;obtain⟨v,k⟩:=Qdf h hK;rw[lH _,lK _,k]at e;simp only[pA,Kh,J5]at e;by_cases i:0<=r.1
 ·exact i
 ·exfalso;have a:(r.1==0)=false:=Af
  have b:(r.1==1)=false:=Af
  have c:(r.1==2)=false:=Af
  have d:(r.1==3)=false:=Af
  have f:(r.1==4)=false:=Af
  have g:(r.1==5)=false:=Af
  simp_all[Kr]
def stB(s:Zf):Bool:=((((((((aY s.1&&Zae s.2.1)&&Zh5 s.2.2.1)&&Zxj s.2.2.2.1)&&Zil s.2.2.2.2.1)&&prB s.2.2.2.2.2.1)&&aY s.2.2.2.2.2.2.2.2.2.2.2.2.1)&&(s.2.2.2.2.2.2.1||s.2.2.2.2.2.2.2.1))&&!(((((K3 (s.2.1.2.2.2.2.2.2.2.1>s.2.2.1.2.1))||(K3 (s.2.2.2.1.2.2.2.1>s.2.2.2.2.1.2.2.2.1)))||(s.2.2.2.2.2.2.2.2.1&&(s.2.1.1 !=(4:Int))))||(s.2.2.2.2.2.2.2.2.2.1&&(!s.2.2.2.2.2.2.2.2.2.2.2.1)))||((s.2.2.2.2.2.2.2.2.2.2.2.2.1 !=(0:Int))&&(!s.2.2.2.2.2.2.2.2.2.2.2.1))))&&((s.2.2.2.2.2.2.1||(((s.2.1.1==(0:Int))&&(s.2.1.2.1.2.2.1==(0:Int)))&&(s.2.1.2.2.2.2.2.1==(-1:Int))))&&(s.2.2.2.2.2.2.2.1||(((s.2.2.2.1.1==(0:Int))&&(s.2.2.2.1.2.2.2.1==(0:Int)))&&(!s.2.2.2.2.2.2.2.2.2.2.2.1))))
theorem stE{s:Zf}(h:Xc K s)(hK:K<=1000000):g9 s=K2 (stB s,()):=by
 unfold g9 gH stB;simp only[Zku h.snd,Zkn h.rcv hK,Z2o,Qag,prE,Kh,pA,bO,bO2]
 grind
end
end Go.Proofs.YtahnlnkboamdmaaGreatDoor

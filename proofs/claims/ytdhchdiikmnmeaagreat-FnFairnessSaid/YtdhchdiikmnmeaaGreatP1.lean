/- FnFairness: the plain law, part 1. No condition. -/
import Derived.Test.YtdhchdiikmnmeaaGreatM2
namespace Go.Proofs.YtdhchdiikmnmeaaGreat
open Go.Am
set_option maxRecDepth 100000
set_option linter.unusedVariables false
abbrev X7:Type:=Qr
theorem Q2g{α:Type}(pre:List α)(x:α)(rest:List α):pre++x::rest=pre++ [x]++rest:=by simp
theorem Vh{α:Type}(pre:List α)(x:α)(rest:List α)(d:α): (pre++x::rest).getD ((pre.length:Int).toNat) d=x:=by
 rw[show(pre.length:Int).toNat=pre.length from rfl,List.getD_eq_getElem?_getD,List.getElem?_append_right (Nat.le_refl _)];simp
def Q42(k:Nat):Int:=((([48,49,50,51,52,53,54,55,56,57,97,98,99,100,101,102]:List UInt8).getD k 0).toNat:Int)
def hx(b:UInt8):List Int:=[Q42 (b.toNat/16),Q42 (b.toNat%16)]
theorem Xj{α:Type}{d:α}{l:List α}{i:Nat}(h:i<l.length):l.drop i=l.getD i d::l.drop (i+1):=by
 rw[List.drop_eq_getElem_cons h,List.getD_eq_getElem?_getD,List.getElem?_eq_getElem h];rfl
def Q7b(l:List UInt8):List UInt8:=Jd (l.flatMap hx)
theorem Q8u: ∀(u:Nat),∀b∈Go.Lib.decDigits u,48<=b.toNat/\b.toNat<=57:=by
 intro u
 induction u using Nat.strongRecOn with
 |_ u ih=>
  intro b hb;rw[Go.Lib.decDigits]at hb;split at hb
  ·rename_i h;simp only[List.mem_singleton]at hb;subst hb;have: (UInt8.ofNat (48+u)).toNat=48+u:=by simp;omega
   omega
  ·rename_i h;rcases List.mem_append.1 hb with hb|hb
   ·exact ih (u/10) (by omega) b hb
   ·simp only[List.mem_singleton]at hb;subst hb;have: (UInt8.ofNat (48+u%10)).toNat=48+u%10:=by simp;omega
    omega
def hv(b:UInt8):Int:=if 48<=b.toNat/\b.toNat<=57 then(b.toNat:Int)-48 else if 97<=b.toNat/\b.toNat<=102 then(b.toNat:Int)-87 else-1
theorem Q40(b:UInt8)(l:List UInt8):Q7b (b::l)=UInt8.ofNat (Q42 (b.toNat/16)).toNat::UInt8.ofNat (Q42 (b.toNat%16)).toNat::Q7b l:=by
 simp[Q7b,Jd,hx]
theorem Q41(c:UInt8)(hc:c=32\/c=10): ∀d:List UInt8,c∉Q7b d
 | []=>by simp[Q7b,Jd]
 |b::d=>by
  have hb:b.toNat<256:=b.toNat_lt;have key: ∀k:Fin 16,UInt8.ofNat (Q42 k.val).toNat≠32/\UInt8.ofNat (Q42 k.val).toNat≠10:=by decide
  have k1:=key ⟨b.toNat/16,by omega⟩;have k2:=key ⟨b.toNat%16,by omega⟩;have ih:=Q41 c hc d;rw[Q40];simp only[List.mem_cons,not_or];rcases hc with rfl|rfl
  ·exact⟨Ne.symm k1.1,Ne.symm k2.1,ih⟩
  ·exact⟨Ne.symm k1.2,Ne.symm k2.2,ih⟩
def fq(x:Int):Bool:=decide (x>=(0:Int))&&decide (x<=(4611686018427387903:Int))
theorem Q5i(x:Int):Qi x=some (fq x,()):=rfl
theorem Qu2(x:Int):Xo x=some (fq x,()):=rfl
theorem Qyt:Zxa=Zoa:=rfl
theorem Xao:Qh9=Zes:=rfl
def Xn(f:Zf):Bool:=bif f.1==4 then decide (f.2.2.1=0)&& (f.2.2.2.1==[])&& (f.2.2.2.2.1==false)&&decide (f.2.2.2.2.2.2.1=0)&& (f.2.2.2.2.2.2.2.2.1==false) else bif f.1==5 then decide (f.2.2.1=0)&& (f.2.2.2.1==[])&& (f.2.2.2.2.1==false)&&decide (f.2.2.2.2.2.2.1=0)&&decide (f.2.2.2.2.2.2.2.1=0)&& (f.2.2.2.2.2.2.2.2.1==false) else bif f.1==8 then decide (f.2.2.2.2.2.1=0)&&decide (f.2.2.2.2.2.2.1=0)&&decide (f.2.2.2.2.2.2.2.1=0)&& (f.2.2.2.2.2.2.2.2.1==false) else bif f.1==17||f.1==21 then decide (f.2.2.1=0)&& (f.2.2.2.1==[])&& (f.2.2.2.2.1==false)&&decide (f.2.2.2.2.2.1=0)&&decide (f.2.2.2.2.2.2.2.1=0)&& (f.2.2.2.2.2.2.2.2.1==false) else bif f.1==18||f.1==22 then decide (f.2.1=0)&&decide (f.2.2.1=0)&& (f.2.2.2.1==[])&& (f.2.2.2.2.1==false)&&decide (f.2.2.2.2.2.1=0)&&decide (f.2.2.2.2.2.2.2.1=0) else bif f.1==16||f.1==20 then decide (f.2.1=0)&&decide (f.2.2.1=0)&& (f.2.2.2.1==[])&& (f.2.2.2.2.1==false)&&decide (f.2.2.2.2.2.1=0)&&decide (f.2.2.2.2.2.2.2.1=0)&& (f.2.2.2.2.2.2.2.2.1==false) else false
def Wl(f:Zf):Bool:=Xn f&&fq f.2.1&&fq f.2.2.1&&fq f.2.2.2.2.2.1&&fq f.2.2.2.2.2.2.1&&fq f.2.2.2.2.2.2.2.1&&decide (f.2.2.2.1.length<=400)&& (bif f.1==18||f.1==22 then decide (f.2.2.2.2.2.2.1<=(1152921504606846976:Int))else decide (f.2.2.1<=(4611686018427387903:Int)- (f.2.2.2.1.length:Int)))
theorem Qy1(k:Int): ∃s,Zoa k=some (s,())/\((s==([]:List UInt8))= !(k==4||k==5||k==8||k==16||k==17||k==18||k==20||k==21||k==22)):=by
 unfold Zoa;cases h4:k==4<;>cases h5:k==5<;>cases h8:k==8<;>cases h16:k==16<;>cases h17:k==17<;>cases h18:k==18<;>cases h20:k==20<;>cases h21:k==21<;>cases h22:k==22<;>exact⟨_,rfl,rfl⟩
theorem Qvi(f:Zf): ∃u,Zes f=some (u,())/\((f.1==4||f.1==5||f.1==8||f.1==16||f.1==17||f.1==18||f.1==20||f.1==21||f.1==22)=true->eqV Zu u f=Xn f/\eqV Zu f u=Xn f):=by
 obtain⟨k,st,off,data,fin,code,lim,final,uni,z⟩:=f;by_cases h4:k=4
 ·subst h4;exact⟨_,rfl,fun _=>by constructor<;>rw[Bool.eq_iff_iff]<;>simp[eqV,Xn]<;>grind⟩
 by_cases h5:k=5
 ·subst h5;exact⟨_,rfl,fun _=>by constructor<;>rw[Bool.eq_iff_iff]<;>simp[eqV,Xn]<;>grind⟩
 by_cases h8:k=8
 ·subst h8;exact⟨_,rfl,fun _=>by constructor<;>rw[Bool.eq_iff_iff]<;>simp[eqV,Xn]<;>grind⟩
 by_cases h17:k=17
 ·subst h17;exact⟨_,rfl,fun _=>by constructor<;>rw[Bool.eq_iff_iff]<;>simp[eqV,Xn]<;>grind⟩
 by_cases h21:k=21
 ·subst h21;exact⟨_,rfl,fun _=>by constructor<;>rw[Bool.eq_iff_iff]<;>simp[eqV,Xn]<;>grind⟩
 by_cases h18:k=18
 ·subst h18;exact⟨_,rfl,fun _=>by constructor<;>rw[Bool.eq_iff_iff]<;>simp[eqV,Xn]<;>grind⟩
 by_cases h22:k=22
 ·subst h22;exact⟨_,rfl,fun _=>by constructor<;>rw[Bool.eq_iff_iff]<;>simp[eqV,Xn]<;>grind⟩
 by_cases h16:k=16
 ·subst h16;exact⟨_,rfl,fun _=>by constructor<;>rw[Bool.eq_iff_iff]<;>simp[eqV,Xn]<;>grind⟩
 by_cases h20:k=20
 ·subst h20;exact⟨_,rfl,fun _=>by constructor<;>rw[Bool.eq_iff_iff]<;>simp[eqV,Xn]<;>grind⟩
 ·have e: ∀c:Int,k≠c->(k==c)=false:=fun c h=>by simp[h]
  refine⟨(k,0,0,[],false,0,lim,0,false,()),?_,fun hk=> ?_⟩
  rotate_left
  ·simp only[e _ h4,e _ h5,e _ h8,e _ h17,e _ h21,e _ h18,e _ h22,e _ h16,e _ h20]at hk;cases hk
  ·unfold Zes Vu X8 Zcy Zcz;simp only[e _ h4,e _ h5,e _ h8,e _ h17,e _ h21,e _ h18,e _ h22,Ocf,Obs]
theorem Qu0{f:Zf}(h:Xn f=true)(h8:f.1≠8):f.2.2.1=0/\f.2.2.2.1=[]:=by
 obtain⟨k,st,off,data,fin,code,lim,final,uni,z⟩:=f;unfold Xn at h;simp only at h h8⊢;have e8: (k==8)=false:=by simp[h8]
 rw[e8]at h;revert h;cases k==4<;>cases k==5<;>cases (k==17||k==21)<;>cases (k==18||k==22)<;>cases (k==16||k==20)<;>simp<;>grind
theorem Qbr{f:Zf}(h:Xn f=true): (f.1==4||f.1==5||f.1==8||f.1==16||f.1==17||f.1==18||f.1==20||f.1==21||f.1==22)=true:=by
 obtain⟨k,st,off,data,fin,code,lim,final,uni,z⟩:=f;unfold Xn at h;simp only at h⊢;revert h;cases k==4<;>cases k==5<;>cases k==8<;>cases k==17<;>cases k==21<;>cases k==18<;>cases k==22<;>cases k==16<;>cases k==20<;>simp
theorem Zua(f:Zf)(hl:f.2.2.2.1.length<=1048576):Zb8 f=some (Wl f,()):=by
 obtain⟨s,hs,hn⟩:=Qy1 f.1;obtain⟨u,hu,hp⟩:=Qvi f;unfold Zb8;simp only[hs,hu,Q5i,Obs,hn];cases hk: (f.1==4||f.1==5||f.1==8||f.1==16||f.1==17||f.1==18||f.1==20||f.1==21||f.1==22)
 ·have hpf:Xn f=false:=by
   cases h:Xn f
   ·rfl
   ·rw[Qbr h]at hk;cases hk
  simp only[Bool.not_false,Oct,Obs,Bool.true_or];unfold Wl;rw[hpf];rfl
 ·simp only[Ont,Ocf,Obs,Bool.false_or,(hp hk).1];have hq:Wl f=(Xn f&&fq f.2.1&&fq f.2.2.1&&fq f.2.2.2.2.2.1&&fq f.2.2.2.2.2.2.1&&fq f.2.2.2.2.2.2.2.1&&decide (f.2.2.2.1.length<=400)&& (bif f.1==18||f.1==22 then decide (f.2.2.2.2.2.2.1<=(1152921504606846976:Int))else decide (f.2.2.1<=(4611686018427387903:Int)- (f.2.2.2.1.length:Int)))):=rfl;rw[hq,Zv (by omega) (by omega)];have hd:decide ((f.2.2.2.1.length:Int)>400)= !(decide (f.2.2.2.1.length<=400)):=by
   rw[Bool.eq_iff_iff];simp;omega
  rw[hd];cases hpf:Xn f
  ·simp
  ·have hoff:=Qu0 hpf;cases fq f.2.1<;>cases fq f.2.2.1<;>cases fq f.2.2.2.2.2.1<;>cases fq f.2.2.2.2.2.2.1<;>cases fq f.2.2.2.2.2.2.2.1<;>cases hlen:decide (f.2.2.2.1.length<=400)<;>try rfl
   by_cases h8:f.1=8
   ·simp[h8]
   ·have e8: (f.1==8)=false:=by simp[h8]
    obtain⟨o1,o2⟩:=hoff h8;unfold Zou;cases h18:f.1==18<;>cases h22:f.1==22<;>simp[e8,o1,o2]
theorem Zz4(f:Zf)(hl:f.2.2.2.1.length<=1048576):Zmz f=some (Wl f,()):=by
 obtain⟨s,hs,hn⟩:=Qy1 f.1;obtain⟨u,hu,hp⟩:=Qvi f;unfold Zmz;rw[Qyt,Xao];simp only[hs,hu,Qu2,Obs,hn];cases hk: (f.1==4||f.1==5||f.1==8||f.1==16||f.1==17||f.1==18||f.1==20||f.1==21||f.1==22)
 ·have hpf:Xn f=false:=by
   cases h:Xn f
   ·rfl
   ·rw[Qbr h]at hk;cases hk
  simp only[Bool.not_false,Oct,Obs,Bool.true_or];unfold Wl;rw[hpf];rfl
 ·simp only[Ont,Ocf,Obs,Bool.false_or,(hp hk).2];have hq:Wl f=(Xn f&&fq f.2.1&&fq f.2.2.1&&fq f.2.2.2.2.2.1&&fq f.2.2.2.2.2.2.1&&fq f.2.2.2.2.2.2.2.1&&decide (f.2.2.2.1.length<=400)&& (bif f.1==18||f.1==22 then decide (f.2.2.2.2.2.2.1<=(1152921504606846976:Int))else decide (f.2.2.1<=(4611686018427387903:Int)- (f.2.2.2.1.length:Int)))):=rfl;rw[hq,Zv (by omega) (by omega)];have hd:decide ((f.2.2.2.1.length:Int)<=400)=(decide (f.2.2.2.1.length<=400)):=by
   rw[Bool.eq_iff_iff];simp;omega
  rw[hd];cases hpf:Xn f
  ·simp
  ·have hoff:=Qu0 hpf;cases fq f.2.1<;>cases fq f.2.2.1<;>cases fq f.2.2.2.2.2.1<;>cases fq f.2.2.2.2.2.2.1<;>cases fq f.2.2.2.2.2.2.2.1<;>try rfl
   by_cases h8:f.1=8
   ·simp[h8]
   ·obtain⟨o1,o2⟩:=hoff h8;cases h18:f.1==18<;>cases h22:f.1==22<;>simp[o1,o2]
open Classical in
noncomputable def pin(s:List UInt8):Option Int:=if h: ∃n:Int,-999999999<=n/\n<=999999999/\s=Go.Lib.itoa n then some h.choose else none
noncomputable def Qzr{β:Type}(r:List (List UInt8))(K:Int->List (List UInt8)->Option β):Option β:=
 match r with
 | []=>none
 |a::r=>match pin a with
  |none=>none
  |some n=>K n r
theorem hdn{β:Type}(x y:Option β): (bif((([]:List (List UInt8)).length:Nat):Int)==(0:Int)then x else y)=x:=rfl
theorem Qvq(x:Int):0<=bits .and .i64 x 255/\bits .and .i64 x 255<=255:=by
 have h:bits .and .i64 x 255=IntKind.i64.wrap (((BitVec.ofInt 64 x&&&BitVec.ofInt 64 255).toNat:Nat):Int):=rfl;rw[h,BitVec.toNat_and];have h2: (BitVec.ofInt 64 255).toNat=255:=by decide
 rw[h2];have h3: (BitVec.ofInt 64 x).toNat&&&255<=255:=Nat.and_le_right;rw[Zv (by omega) (by omega)];omega
def Jj(c:Qp):Prop:=c.1.length<=1048576/\0<=c.2.1/\c.2.1<=c.1.length
theorem Q88(code:List Int)(h:code.length<=1048576): ∃c,Zjw code=some (c,())/\Jj c:=by
 have loop: ∀(N:Nat) (x:Int) (i:Nat),i<=code.length->code.length-i<N-> ∃c,Zod N code x (i:Int)=some (c,())/\Jj c:=by
  intro N
  induction N with
  |zero=>intro x i _ h;omega
  |succ N ih=>
   intro x i hi hN;unfold Zod;by_cases hl:i<code.length/\i<4000
   ·rw[Zp (by simp;omega),Zb (by omega),Zr hl.1 (by omega)];exact ih _ (i+1) (by omega) (by omega)
   ·rw[Zl (by simp;omega)];exact⟨_,rfl,h,Int.le_refl 0,by simp⟩
 unfold Zjw;exact loop _ _ 0 (by omega) (by unfold Zpf;omega)
theorem Z3d(c:Qp)(h:Jj c): ∃x c',Zjb c=some ((x,()),(c',()))/\Jj c'/\0<=x/\x<=255:=by
 obtain⟨h1,h2,h3⟩:=h;unfold Zjb;simp only[];rw[Zb (by decide),Zb (by decide)];by_cases hl:c.2.1< (c.1.length:Int)
 ·rw[Zp (Zm hl),Zb ⟨h2,hl⟩,Zv (n:=c.2.1+1) (by omega) (by omega)];exact⟨_,_,rfl,⟨h1,by show 0<=c.2.1+1;omega,by show c.2.1+1<=(c.1.length:Int);omega⟩,Qvq _⟩
 ·rw[Zl (Zj hl)];exact⟨_,_,rfl,⟨h1,h2,h3⟩,Qvq _⟩
theorem Zxu(c:Qp)(n:Int)(h:Jj c): ∃x c',Qm c n=some ((x,()),(c',()))/\Jj c'/\0<=x/\(0<n->x<n):=by
 unfold Qm;by_cases h0:n<=0
 ·rw[Zp (Zm h0)];exact⟨_,_,rfl,h,Int.le_refl 0,fun hn=>by omega⟩
 ·rw[Zl (Zj h0)];by_cases h1:n<=256
  ·rw[Zp (Zm h1)];obtain⟨x,c1,e1,k1,b1,b2⟩:=Z3d c h;rw[e1,Obs,Zb (by omega)];exact⟨_,_,rfl,k1,Int.tmod_nonneg n b1,fun hn=>Int.tmod_lt_of_pos x hn⟩
  ·rw[Zl (Zj h1)];obtain⟨x,c1,e1,k1,b1,b2⟩:=Z3d c h;obtain⟨y,c2,e2,k2,b3,b4⟩:=Z3d c1 k1;obtain⟨z,c3,e3,k3,b5,b6⟩:=Z3d c2 k2;obtain⟨u,c4,e4,k4,b7,b8⟩:=Z3d c3 k3;rw[e1,Obs,e2,Obs,e3,Obs,e4,Obs,Zb (by omega)];simp only[];rw[Zv (n:=x*16777216) (by omega) (by omega),Zv (n:=y*65536) (by omega) (by omega),Zv (n:=x*16777216+y*65536) (by omega) (by omega),Zv (n:=z*256) (by omega) (by omega),Zv (n:=x*16777216+y*65536+z*256) (by omega) (by omega),Zv (n:=x*16777216+y*65536+z*256+u) (by omega) (by omega)];exact⟨_,_,rfl,k4,Int.tmod_nonneg n (by omega),fun hn=>Int.tmod_lt_of_pos _ hn⟩
theorem Q6r(c:Qp)(l:List Int)(h:Jj c)(hl:0<l.length): ∃x c',Jt c l=some ((x,()),(c',()))/\Jj c'/\x∈l:=by
 unfold Jt;obtain⟨x,c1,e1,k1,b1,b2⟩:=Zxu c (l.length:Int) h;have b2:=b2 (by omega);rw[e1,Obs];simp only[];rw[Zb ⟨b1,b2⟩];refine⟨_,_,rfl,k1,?_⟩;have hx:x.toNat<l.length:=by omega
 rw[List.getD_eq_getElem?_getD,List.getElem?_eq_getElem hx];exact List.getElem_mem hx
def Zdf(r:Zc):Bool:=(decide (r.1>=(0:Int))&&decide (r.1<r.2.1))&&decide (r.2.1<=(4611686018427387903:Int))
theorem Z0p(r:Zc):Zs5 r=some (Zdf r,()):=rfl
theorem Qs{r:Zc}:Zdf r=true↔0<=r.1/\r.1<r.2.1/\r.2.1<=4611686018427387903:=by
 unfold Zdf;simp;omega
def rsB:Int->List Zc->Bool|_,[]=>true|lo,r::l=>Zdf r&&decide (lo<r.1)&&rsB r.2.1 l
theorem Z8z: ∀(N:Nat) (pre rest:List Zc) (lo:Int),(pre++rest).length<=8000000000->rest.length<N->(pre=[]->lo<0)->(∀q x,pre=q++ [x]->lo=x.2.1)->
  V9 N (pre++rest) (pre.length:Int)=some (rsB lo rest,())
 |0,_,_,_,_,h,_,_=>by omega
 |N+1,pre,[],lo,hl,hN,h0,h1=>by
  unfold V9;rw[Zl (by simp)];rfl
 |N+1,pre,r::rest,lo,hl,hN,h0,h1=>by
  have hlen: (pre++r::rest).length=pre.length+rest.length+1:=by simp;omega
  simp only[List.length_cons]at hN;unfold V9;rw[Zp (Zm (by rw[hlen];omega)),Zb (by rw[hlen];omega),Vh,Z0p,Obs];have ih:=Z8z N (pre++ [r]) rest r.2.1 (by simp;omega) (by omega) (by simp) (fun q x e=>by
   have:=List.append_inj' e rfl;simp only[List.cons.injEq,and_true]at this;rw[this.2])
  have e0: ((pre++ [r]).length:Int)=((pre.length+1:Nat):Int):=by simp
  rw[e0]at ih;rw[show(pre++ [r])++rest=pre++r::rest by simp]at ih;rw[Zb (fun _ h=>by
   have: (pre.length:Int)>0:=by simpa using h
   rw[Zv (by omega) (by omega),hlen];omega),Zb (fun _ _=>by rw[hlen];omega),Zr (m:=pre.length+1) (by omega) (by omega),ih]
  simp only[rsB];cases hf:Zdf r
  ·rfl
  ·rcases List.eq_nil_or_concat pre with hp| ⟨q,x,hp⟩
   ·subst hp;have hlo:=h0 rfl;have hr:=Qs.1 hf;rw[Zl (by simp)];rw[show decide (lo<r.1)=true from Zm (by omega)];simp
   ·rw[List.concat_eq_append]at hp;have hlo:=h1 q x hp;have hg: (pre++r::rest).getD (IntKind.i64.wrap ((pre.length:Int)-1)).toNat Zw=x:=by
     rw[Zv (by omega) (by omega)];have e: ((pre.length:Int)-1).toNat=q.length:=by rw[hp];simp
     rw[e,hp,List.append_assoc];exact Vh q x ([r]++rest) Zw
    rw[hg,<-hlo];have hpos:decide ((pre.length:Int)>0)=true:=Zm (by rw[hp];simp);rw[hpos];by_cases hc:lo<r.1
    ·rw[Zl (by simp;omega),Zm hc];simp
    ·rw[Zp (by simp;omega),Zj hc];simp
theorem Zyh(l:List Zc)(hl:l.length<=8000000000):Y5 l=some (rsB (-1) l,()):=by
 unfold Y5;exact Z8z _ [] l (-1) (by simpa using hl) (by unfold Za7;omega) (fun _=>by omega) (fun q x e=>by simp at e)
theorem Je{lo:Int}{r:Zc}{l:List Zc}:rsB lo (r::l)=true↔Zdf r=true/\lo<r.1/\rsB r.2.1 l=true:=by
 simp only[rsB,Oba,decide_eq_true_eq,and_assoc]
theorem Qsf: ∀{l:List Zc} {lo lo':Int},rsB lo l=true->lo'<=lo->rsB lo' l=true
 | [],_,_,_,_=>rfl
 |r::l,lo,lo',h,hl=>by
  rw[Je]at h⊢;exact⟨h.1,by omega,h.2.2⟩
theorem Zoq: ∀{l:List Zc} {lo:Int},rsB lo l=true-> ∀x∈l,lo<x.1/\Zdf x=true
 | [],_,_,x,hx=>by cases hx
 |r::l,lo,h,x,hx=>by
  rw[Je]at h;have hf:=Qs.1 h.1;rcases List.mem_cons.1 hx with rfl|hx
  ·exact⟨h.2.1,h.1⟩
  ·have:=Zoq h.2.2 x hx;exact⟨by omega,this.2⟩
theorem Q33: ∀{l:List Zc} {lo E:Int},rsB lo l=true->(∀x∈l,x.2.1<=E)->lo<=E->(l.length:Int)<=E-lo
 | [],lo,E,_,_,hE=>by simp;omega
 |r::l,lo,E,h,hE,_=>by
  rw[Je]at h;have hf:=Qs.1 h.1;have:=Q33 (E:=E) h.2.2 (fun x hx=>hE x (by simp[hx])) (hE r (by simp));simp only[List.length_cons];omega
def Zh3:List Zc->Zc->List Zc| [],r=>[r]|x::l,r=>if x.2.1<r.1 then x::Zh3 l r else if x.1>r.2.1 then r::x::l else Zh3 l (min r.1 x.1,max r.2.1 x.2.1,())
theorem Qwh(l:List Zc)(hl:l.length<=8000000000):Zhe l=some (l,()):=by
 unfold Zhe;rw[Zb (by unfold Qg;simp;omega)];simp
theorem Qkk: ∀(N:Nat) (pre rest:List Zc) (r:Zc) (out:List Zc),(pre++rest).length<=8000000000->rest.length<N->out.length<=pre.length+1->r.1<r.2.1->(∀x∈rest,r.2.1<x.1/\x.1<x.2.1)->
  Yj N (pre++rest) r out true (pre.length:Int)=some (out++rest,())
 |0,_,_,_,_,_,h,_,_,_=>by omega
 |N+1,pre,[],r,out,hl,hN,ho,hr,hx=>by
  unfold Yj;rw[Zl (by simp)];simp
 |N+1,pre,x::rest,r,out,hl,hN,ho,hr,hx=>by
  have hlen: (pre++x::rest).length=pre.length+rest.length+1:=by simp;omega
  simp only[List.length_cons]at hN;have hxx:=hx x (by simp);unfold Yj;rw[Zp (Zm (by rw[hlen];omega)),Zb (by rw[hlen];omega),Vh,Zl (Zj (by omega)),Zb (by rw[hlen];omega),Zp (Zm (by omega)),Zl (by rfl)];unfold Zir V4;rw[Zb (by rw[hlen];omega),Vh,Zb (by unfold Qg;simp;omega),Zr (m:=pre.length+1) (by omega) (by omega)];have ih:=Qkk N (pre++ [x]) rest r (out++ [x]) (by simp;omega) (by omega) (by simp;omega) hr (fun y hy=>hx y (by simp[hy]));rw[show(pre++ [x])++rest=pre++x::rest by simp,show((pre++ [x]).length:Int)=((pre.length+1:Nat):Int) by simp]at ih;simp only[ih];simp
theorem Qgx: ∀(N:Nat) (pre rest:List Zc) (r:Zc) (out:List Zc) (lo:Int),(pre++rest).length<=8000000000->rest.length<N->out.length<=pre.length->r.1<r.2.1->rsB lo rest=true->
  Yj N (pre++rest) r out false (pre.length:Int)=some (out++Zh3 rest r,())
 |0,_,_,_,_,_,_,h,_,_,_=>by omega
 |N+1,pre,[],r,out,lo,hl,hN,ho,hr,hx=>by
  simp only[List.append_nil]at hl;unfold Yj;rw[Zl (by simp),Zp (by rfl),Zb (by unfold Qg;simp;omega)];rfl
 |N+1,pre,x::rest,r,out,lo,hl,hN,ho,hr,hx=>by
  have hlen: (pre++x::rest).length=pre.length+rest.length+1:=by simp;omega
  simp only[List.length_cons]at hN;obtain⟨hf,hlo,hrest⟩:=Je.1 hx;have hf:=Qs.1 hf;unfold Yj;rw[Zp (Zm (by rw[hlen];omega)),Zb (by rw[hlen];omega),Vh];have es: (pre++ [x])++rest=pre++x::rest:=by simp
  have el: ((pre++ [x]).length:Int)=((pre.length+1:Nat):Int):=by simp
  by_cases h1:x.2.1<r.1
  ·rw[Zp (Zm h1),Zb (by rw[hlen];omega),Zb (by unfold Qg;simp;omega)];unfold V4;have ih:=Qgx N (pre++ [x]) rest r (out++ [x]) _ (by simp;omega) (by omega) (by simp;omega) hr hrest;rw[es,el]at ih;rw[Zr (m:=pre.length+1) (by omega) (by omega)];simp only[ih,Zh3,h1,if_true];simp
  ·rw[Zl (Zj h1),Zb (by rw[hlen];omega)];by_cases h2:x.1>r.2.1
   ·rw[Zp (Zm h2),Zp (by rfl),Zb (by unfold Qg;simp;omega)];unfold Zir V4;rw[Zb (by rw[hlen];omega),Vh,Zb (by unfold Qg;simp;omega),Zr (m:=pre.length+1) (by omega) (by omega)];have ih:=Qkk N (pre++ [x]) rest r (out++ [r]++ [x]) (by simp;omega) (by omega) (by simp;omega) hr (fun y hy=>by
     have:=Zoq hrest y hy;have:=Qs.1 this.2;omega)
    rw[es,el]at ih;simp only[ih,Zh3,h1,h2,if_true,if_false];simp
   ·rw[Zl (Zj h2),Zb (by rw[hlen];omega),Zb (by rw[hlen];omega)];unfold V4;have ih:=Qgx N (pre++ [x]) rest (min r.1 x.1,(max r.2.1 x.2.1,r.2.2)) out _ (by simp;omega) (by omega) (by simp;omega) (by simp only;omega) hrest;rw[es,el]at ih;rw[Zr (m:=pre.length+1) (by omega) (by omega)];simp only[ih,Zh3,h1,h2,if_false]
theorem Q4l(l:List Zc)(r:Zc)(hl:l.length<=8000000000):Vk l r=some (if rsB (-1) l=true/\Zdf r=true then Zh3 l r else l,()):=by
 unfold Vk;rw[Zyh l (by omega),Obs];cases h1:rsB (-1) l
 ·simp[Qwh l (by omega)]
 ·simp only[Ont,Ocf,Z0p,Obs,Bool.false_or];cases h2:Zdf r
  ·simp[Qwh l (by omega)]
  ·have hf:=Qs.1 h2;have:=Qgx (Zf4 l r [] false 0) [] l r [] (-1) (by simpa using hl) (by unfold Zf4;omega) (by simp) (by omega) h1;simp only[Ont,Ocf,and_self,if_true];exact this
def RL(E:Int)(l:List Zc):Prop:=rsB (-1) l=true/\ ∀x∈l,x.2.1<=E
theorem Qnz: ∀{l:List Zc} {lo:Int} {r:Zc},rsB lo l=true->Zdf r=true->lo<r.1->rsB lo (Zh3 l r)=true
 | [],lo,r,_,h2,h3=>by simp[Zh3,rsB,h2,h3]
 |x::l,lo,r,h1,h2,h3=>by
  obtain⟨hf,hlo,hrest⟩:=Je.1 h1;have hx:=Qs.1 hf;have hr:=Qs.1 h2;unfold Zh3;split
  ·exact Je.2 ⟨hf,hlo,Qnz hrest h2 (by omega)⟩
  ·split
   ·exact Je.2 ⟨h2,h3,Je.2 ⟨hf,by omega,hrest⟩⟩
   ·exact Qnz (Qsf hrest (by omega)) (Qs.2 (by simp only;omega)) (by simp only;omega)
theorem Z52{E:Int}: ∀{l:List Zc} {r:Zc},(∀x∈l,x.2.1<=E)->r.2.1<=E-> ∀x∈Zh3 l r,x.2.1<=E
 | [],r,_,h,x,hx=>by simp[Zh3]at hx;subst hx;exact h
 |y::l,r,hl,h,x,hx=>by
  have hy:=hl y (by simp);have hl': ∀x∈l,x.2.1<=E:=fun x hx=>hl x (by simp[hx]);unfold Zh3 at hx;split at hx
  ·rcases List.mem_cons.1 hx with rfl|hx
   ·exact hy
   ·exact Z52 hl' h x hx
  ·split at hx
   ·rcases List.mem_cons.1 hx with rfl|hx
    ·exact h
    ·exact hl x hx
   ·exact Z52 hl' (by simp only;omega) x hx
theorem Qov: ∀{l:List Zc} {r:Zc},(Zh3 l r).length<=l.length+1
 | [],r=>by simp[Zh3]
 |y::l,r=>by
  unfold Zh3;split
  ·have:=Qov (l:=l) (r:=r);simp only[List.length_cons];omega
  ·split
   ·simp
   ·have:=Qov (l:=l) (r:=(min r.1 y.1,max r.2.1 y.2.1,()));simp only[List.length_cons];omega
theorem Zup{E:Int}{l:List Zc}{r:Zc}(h:RL E l)(hr:r.2.1<=E):RL E (if rsB (-1) l=true/\Zdf r=true then Zh3 l r else l):=by
 split
 ·rename_i hc;have:=Qs.1 hc.2;exact⟨Qnz hc.1 hc.2 (by omega),Z52 h.2 hr⟩
 ·exact h
theorem Qny{E E':Int}{l:List Zc}(h:RL E l)(he:E<=E'):RL E' l:=⟨h.1,fun x hx=>Int.le_trans (h.2 x hx) he⟩
theorem Xbo{E:Int}{l:List Zc}(h:RL E l)(hE: -1<=E): (l.length:Int)<=E+1:=by
 have:=Q33 h.1 h.2 hE;omega
theorem Zg2(l:List Zc)(hl:l.length<=1048576):Y5 l=some (rsB (-1) l,()):=Zyh l (by omega)
theorem Qrf(l:List Zc)(hl:l.length<=1048576):Zhe l=some (l,()):=Qwh l (by omega)
theorem Znu(l:List Zc)(r:Zc)(hl:l.length<=1048576):Vk l r=some (if rsB (-1) l=true/\Zdf r=true then Zh3 l r else l,()):=Q4l l r (by omega)
def Qx7(r x:Zc):List Zc:=(if x.1<min x.2.1 r.1 then[(x.1,min x.2.1 r.1,())]else[])++ (if max x.1 r.2.1<x.2.1 then[(max x.1 r.2.1,x.2.1,())]else[])
def Zs0(r:Zc):List Zc->List Zc| []=>[]|x::l=>Qx7 r x++Zs0 r l
theorem Qjp: ∀(N:Nat) (pre rest:List Zc) (r:Zc) (out:List Zc),(pre++rest).length<=1048576->rest.length<N->out.length<=2*pre.length->
  Ky N (pre++rest) r out (pre.length:Int)=some (out++Zs0 r rest,())
 |0,_,_,_,_,_,h,_=>by omega
 |N+1,pre,[],r,out,hl,hN,ho=>by
  unfold Ky;rw[Zl (by simp)];simp[Zs0]
 |N+1,pre,x::rest,r,out,hl,hN,ho=>by
  have hlen: (pre++x::rest).length=pre.length+rest.length+1:=by simp;omega
  simp only[List.length_cons]at hN;have g: ∀{ρ:Type} (m:Option ρ),Zi (0<=(pre.length:Int)/\(pre.length:Int)< ((pre++x::rest).length:Int)) m=m:=fun m=>Zb (by rw[hlen];omega);have es: (pre++ [x])++rest=pre++x::rest:=by simp
  have el: ((pre++ [x]).length:Int)=((pre.length+1:Nat):Int):=by simp
  have j2: ∀out1:List Zc,out1.length<=2*pre.length+1->Zea (fun v=>Ky N v.1 v.2.1 v.2.2.1 v.2.2.2.1) (pre++x::rest) r out1 (pre.length:Int)=some (out1++ (if max x.1 r.2.1<x.2.1 then[(max x.1 r.2.1,x.2.1,())]else[])++Zs0 r rest,()):=by
   intro out1 ho1;unfold Zea Zhz;simp only[g,Vh];rw[Zr (m:=pre.length+1) (by omega) (by omega)];by_cases h:max x.1 r.2.1<x.2.1
   ·rw[Zp (Zm h),if_pos h,Zb (by unfold Qg;simp;omega)];have ih:=Qjp N (pre++ [x]) rest r (out1++ [(max x.1 r.2.1,x.2.1,())]) (by simp;omega) (by omega) (by simp;omega);rw[es,el]at ih;simp only[ih]
   ·rw[Zl (Zj h),if_neg h];have ih:=Qjp N (pre++ [x]) rest r out1 (by simp;omega) (by omega) (by simp;omega);rw[es,el]at ih;simp only[ih];simp
  unfold Ky;rw[Zp (Zm (by rw[hlen];omega))];simp only[g,Vh];by_cases h:x.1<min x.2.1 r.1
  ·rw[Zp (Zm h),Zb (by unfold Qg;simp;omega),j2 _ (by simp;omega)];simp[Zs0,Qx7,h]
  ·rw[Zl (Zj h),j2 _ (by omega)];simp[Zs0,Qx7,h]
theorem Zws(l:List Zc)(r:Zc)(hl:l.length<=1048576):Ze5 l r=some (if rsB (-1) l=true/\Zdf r=true then Zs0 r l else l,()):=by
 unfold Ze5;rw[Zg2 l hl,Obs];cases h1:rsB (-1) l
 ·simp[Qrf l hl]
 ·simp only[Ont,Ocf,Z0p,Obs,Bool.false_or];cases h2:Zdf r
  ·simp[Qrf l hl]
  ·have:=Qjp (Zcb l r [] 0) [] l r [] (by simpa using hl) (by unfold Zcb;omega) (by simp);simp only[Ont,Ocf,and_self,if_true];exact this
theorem Q31{r:Zc}(hr:Zdf r=true): ∀{l:List Zc} {lo:Int},rsB lo l=true->rsB lo (Zs0 r l)=true
 | [],lo,_=>rfl
 |x::l,lo,h1=>by
  obtain⟨hf,hlo,hrest⟩:=Je.1 h1;have hx:=Qs.1 hf;have hr:=Qs.1 hr;have ih:=fun lo' h=>Q31 (r:=r) (Qs.2 hr) (l:=l) (lo:=lo') (Qsf hrest h);unfold Zs0 Qx7;split<;>split
  ·simp only[List.cons_append,List.nil_append];exact Je.2 ⟨Qs.2 (by simp only;omega),by simp only;omega,Je.2 ⟨Qs.2 (by simp only;omega),by simp only;omega,ih _ (by simp only;omega)⟩⟩
  ·simp only[List.cons_append,List.nil_append];exact Je.2 ⟨Qs.2 (by simp only;omega),by simp only;omega,ih _ (by simp only;omega)⟩
  ·simp only[List.cons_append,List.nil_append];exact Je.2 ⟨Qs.2 (by simp only;omega),by simp only;omega,ih _ (by simp only;omega)⟩
  ·exact ih lo (by omega)
theorem Qu4{E:Int}{r:Zc}: ∀{l:List Zc},(∀x∈l,x.2.1<=E)-> ∀x∈Zs0 r l,x.2.1<=E
 | [],_,x,hx=>by simp[Zs0]at hx
 |y::l,hl,x,hx=>by
  have hy:=hl y (by simp);unfold Zs0 Qx7 at hx;simp only[List.mem_append]at hx;rcases hx with(hx|hx)|hx
  ·split at hx
   ·simp only[List.mem_singleton]at hx;subst hx;simp only;omega
   ·cases hx
  ·split at hx
   ·simp only[List.mem_singleton]at hx;subst hx;exact hy
   ·cases hx
  ·exact Qu4 (fun x hx=>hl x (by simp[hx])) x hx
theorem Qz7{E:Int}{l:List Zc}{r:Zc}(h:RL E l):RL E (if rsB (-1) l=true/\Zdf r=true then Zs0 r l else l):=by
 split
 ·rename_i hc;exact⟨Q31 hc.2 hc.1,Qu4 h.2⟩
 ·exact h
def Zvs(a b:Zc):List Zc:=if max a.1 b.1<min a.2.1 b.2.1 then[(max a.1 b.1,min a.2.1 b.2.1,())]else[]
theorem Z9h(K1: (List Zc×List Zc×List Zc×Int×Unit)->Option (List Zc×Unit))(a:List Zc)(i:Nat)(hi:i<a.length): ∀(N:Nat) (pre rest:List Zc) (out:List Zc),(pre++rest).length<=1000->rest.length<N->out.length+rest.length<=10000000000->
  V6 K1 N a (pre++rest) out (i:Int) (pre.length:Int)=K1 (a,pre++rest,out++rest.flatMap (Zvs (a.getD i Zw)),IntKind.i64.wrap ((i:Int)+1),())
 |0,_,_,_,_,h,_=>by omega
 |N+1,pre,[],out,hl,hN,ho=>by
  unfold V6;rw[Zl (by simp)];simp
 |N+1,pre,x::rest,out,hl,hN,ho=>by
  have hlen: (pre++x::rest).length=pre.length+rest.length+1:=by simp;omega
  simp only[List.length_cons]at hN ho;have g: ∀{ρ:Type} (m:Option ρ),Zi (0<=(pre.length:Int)/\(pre.length:Int)< ((pre++x::rest).length:Int)) m=m:=fun m=>Zb (by rw[hlen];omega);have g2: ∀{ρ:Type} (m:Option ρ),Zi (0<=(i:Int)/\(i:Int)< (a.length:Int)) m=m:=fun m=>Zb (by omega);have es: (pre++ [x])++rest=pre++x::rest:=by simp
  have el: ((pre++ [x]).length:Int)=((pre.length+1:Nat):Int):=by simp
  unfold V6;rw[Zp (Zm (by rw[hlen];omega))];simp only[g,g2,Vh,Jk];rw[show(i:Int).toNat=i from rfl];unfold Zml Zg8;simp only;rw[Zr (m:=pre.length+1) (by omega) (by omega)];by_cases h:max (a.getD i Zw).1 x.1<min (a.getD i Zw).2.1 x.2.1
  ·rw[Zp (Zm h),Zb (by unfold Qg;simp;omega)];have ih:=Z9h K1 a i hi N (pre++ [x]) rest (out++ [(max (a.getD i Zw).1 x.1,min (a.getD i Zw).2.1 x.2.1,())]) (by simp;omega) (by omega) (by simp;omega);rw[es,el]at ih;have hc:Zvs (a.getD i Zw) x=[(max (a.getD i Zw).1 x.1,min (a.getD i Zw).2.1 x.2.1,())]:=if_pos h;rw[ih,List.flatMap_cons,hc,List.append_assoc]
  ·rw[Zl (Zj h)];have ih:=Z9h K1 a i hi N (pre++ [x]) rest out (by simp;omega) (by omega) (by omega);rw[es,el]at ih;have hc:Zvs (a.getD i Zw) x=[]:=if_neg h;rw[ih,List.flatMap_cons,hc,List.nil_append]
theorem Qx4(a b:Zc): (Zvs a b).length<=1:=by unfold Zvs;split<;>simp
theorem Z3r{α β:Type}{f:α->List β}{k:Nat}(hf: ∀x,(f x).length<=k): ∀l:List α,(l.flatMap f).length<=k*l.length
 | []=>by simp
 |x::l=>by
  have:=Z3r hf l;have:=hf x;rw[List.flatMap_cons,List.length_append,List.length_cons,Nat.mul_succ];omega
theorem Qpi(b:List Zc)(hb:b.length<=1000): ∀(N:Nat) (pre rest:List Zc) (out:List Zc),(pre++rest).length<=1048576->rest.length<N->out.length<=1000*pre.length->
  Jq N (pre++rest) b out (pre.length:Int)=some (out++ (if rsB (-1) (pre++rest)=true/\rsB (-1) b=true then rest.flatMap fun a=>b.flatMap (Zvs a)else[]),())
 |0,_,_,_,_,h,_=>by omega
 |N+1,pre,[],out,hl,hN,ho=>by
  unfold Jq;simp
 |N+1,pre,x::rest,out,hl,hN,ho=>by
  have hlen: (pre++x::rest).length=pre.length+rest.length+1:=by simp;omega
  simp only[List.length_cons]at hN;unfold Jq;have hd:decide ((pre.length:Int)< ((pre++x::rest).length:Int))=true:=Zm (by rw[hlen];omega);rw[hd,Zg2 _ (by omega),Zg2 b (by omega)];simp only[Oct,Obs,Ota];cases h1:rsB (-1) (pre++x::rest)
  ·simp
  cases h2:rsB (-1) b
  ·simp
  simp only[Oct,Obs,Bool.and_self,and_self,if_true];have hx: (pre++x::rest).getD pre.length Zw=x:=Vh pre x rest Zw;have h:=Z9h (fun v=>Jq N v.1 v.2.1 v.2.2.1 v.2.2.2.1) (pre++x::rest) pre.length (by rw[hlen];omega) (Zav (pre++x::rest) b out (pre.length:Int) 0) [] b out (by simpa using hb) (by unfold Zav;omega) (by omega);refine Eq.trans h ?_;rw[hx,Zr (m:=pre.length+1) (by omega) (by omega)];have hfl:=Z3r (fun y=>Qx4 x y) b;have ih:=Qpi b hb N (pre++ [x]) rest (out++b.flatMap (Zvs x)) (by simp;omega) (by omega) (by rw[List.length_append,List.length_append];simp only[List.length_cons,List.length_nil];omega);rw[show(pre++ [x])++rest=pre++x::rest by simp,show((pre++ [x]).length:Int)=((pre.length+1:Nat):Int) by simp]at ih;simp only[List.nil_append];rw[ih,h1,h2];simp
theorem Ztw(a b:List Zc)(ha:a.length<=1048576)(hb:b.length<=1000):Wu a b=some (if rsB (-1) a=true/\rsB (-1) b=true then a.flatMap fun x=>b.flatMap (Zvs x)else[],()):=by
 have:=Qpi b hb (Zau a b [] 0) [] a [] (by simpa using ha) (by unfold Zau;omega) (by simp);simpa[Wu]using this
noncomputable def Zrd(r:Xz):Bool:=match Zcp r with|some (b,_)=>b|none=>false
theorem Qk0(r:Xz): ∀(N i:Nat),r.2.2.2.1.length<=1048576->r.2.2.2.1.length-i<N->i<=r.2.2.2.1.length->
  ∃b,Zfs N r (i:Int)=some (b,())/\(b=true-> ∀j,i<=j->j<r.2.2.2.1.length->0<=r.2.2.2.1.getD j 0/\r.2.2.2.1.getD j 0<=255)
 |0,_,_,h,_=>by omega
 |N+1,i,hl,hN,hi=>by
  unfold Zfs;by_cases h:i<r.2.2.2.1.length
  ·rw[Zp (Zm (by omega)),Zb (by omega),show(i:Int).toNat=i from rfl];have e1:Z4 (r.2.2.2.1.getD i 0) 0 255=some (decide (r.2.2.2.1.getD i 0>=0)&&decide (r.2.2.2.1.getD i 0<=255),()):=rfl;rw[e1,Obs,Zr h (by omega)];obtain⟨b,h1,h2⟩:=Qk0 r N (i+1) hl (by omega) (by omega);cases hc:decide (r.2.2.2.1.getD i 0>=0)&&decide (r.2.2.2.1.getD i 0<=255)
   ·exact⟨false,rfl,by simp⟩
   ·simp only[Oba,decide_eq_true_eq]at hc;refine⟨b,h1,fun hb j hj hj2=> ?_⟩;by_cases e:j=i
    ·subst e;exact⟨hc.1,hc.2⟩
    ·exact h2 hb j (by omega) hj2
  ·rw[Zl (Zj (by omega))];exact⟨true,rfl,fun _ j hj hj2=>by omega⟩
theorem Zxe(r:Xz)(hl:r.2.2.2.1.length<=1048576):Zcp r=some (Zrd r,())/\(Zrd r=true->(0<r.1/\r.1<=64)/\(r.2.2.2.1.length:Int)=r.1/\0<=r.2.1/\r.2.1<=r.2.2.1/\r.2.2.1-r.2.1<=r.1/\r.2.2.1<=4611686018427387903/\
  ∀j,j<r.2.2.2.1.length->0<=r.2.2.2.1.getD j 0/\r.2.2.2.1.getD j 0<=255):=by
 have key: ∃b,Zcp r=some (b,())/\(b=true->(0<r.1/\r.1<=64)/\(r.2.2.2.1.length:Int)=r.1/\0<=r.2.1/\r.2.1<=r.2.2.1/\r.2.2.1-r.2.1<=r.1/\r.2.2.1<=4611686018427387903/\
   ∀j,j<r.2.2.2.1.length->0<=r.2.2.2.1.getD j 0/\r.2.2.2.1.getD j 0<=255):=by
  unfold Zcp Zel;simp only[Obs];generalize hp: (((decide (r.1>(0:Int)))&& (decide (r.1<=(64:Int))))&& ((bits .and .i64 r.1 (IntKind.i64.wrap (r.1- (1:Int))))==(0:Int)))=p;generalize hc: ((((((!p)|| ((r.2.2.2.1.length:Int) !=r.1))|| (decide (r.2.1< (0:Int))))|| (decide (r.2.2.1<r.2.1)))|| (decide ((IntKind.i64.wrap (r.2.2.1-r.2.1))>r.1)))|| (decide (r.2.2.1>(4611686018427387903:Int))))=c;cases c
  ·simp only[Bool.or_eq_false_iff,Bool.not_eq_false',decide_eq_false_iff_not,bne_eq_false_iff_eq]at hc;obtain⟨⟨⟨⟨⟨c1,c2⟩,c3⟩,c4⟩,c5⟩,c6⟩:=hc;subst c1;simp only[Oba,decide_eq_true_eq]at hp;rw[Zv (by omega) (by omega)]at c5;obtain⟨b,h1,h2⟩:=Qk0 r (Zae r 0) 0 hl (by unfold Zae;omega) (by omega);refine⟨b,h1,fun hb=>⟨⟨by omega,by omega⟩,by omega,by omega,by omega,by omega,by omega,fun j hj=>h2 hb j (by omega) hj⟩⟩
  ·exact⟨false,rfl,by simp⟩
 obtain⟨b,h1,h2⟩:=key;have e:Zrd r=b:=by unfold Zrd;rw[h1]
 rw[e];exact⟨h1,h2⟩
theorem Q08(r:Xz)(hl:r.2.2.2.1.length<=1048576):Zps r=some (r,()):=by
 unfold Zps;rw[Zb (by unfold Qg;simp;omega)];simp
theorem Qol{x n:Int}(hx:0<=x)(hn:0<n):0<=Int.tmod x n/\Int.tmod x n<n:=by
 rw[Int.tmod_eq_emod_of_nonneg hx];exact⟨Int.emod_nonneg _ (by omega),Int.emod_lt_of_pos _ hn⟩
theorem Z51(d:List UInt8)(r t4:Xz)(hr:0<r.1)(hE:0<=r.2.2.1)(hd:d.length<=1048576)(n:Nat)(hE2:r.2.2.1+n<=4611686018427387903)(hn:n<=d.length):
  ∀(N i:Nat) (x:Xz),(x.2.2.2.1.length:Int)=r.1->n-i<N->i<=n->
   ∃cs,W5 N d r t4 x (n:Int) (i:Int)=some ((x.1,x.2.1,IntKind.i64.wrap (r.2.2.1+n),cs,x.2.2.2.2),(n:Int),())/\cs.length=x.2.2.2.1.length
 |0,_,_,_,h,_=>by omega
 |N+1,i,x,hx,hN,hi=>by
  unfold W5;by_cases h:i<n
  ·have hm:=Qol (x:=r.2.2.1+ (i:Int)) (n:=r.1) (by omega) hr;rw[Zp (Zm (by omega)),Zb (by omega),Zv (by omega) (by omega)];simp only;rw[Zb (by omega),Zb (by omega),Zr (m:=n) h (by omega)];obtain⟨cs,h1,h2⟩:=Z51 d r t4 hr hE hd n hE2 hn N (i+1) (x.1,(x.2.1,(x.2.2.1,(x.2.2.2.1.set (Int.tmod (r.2.2.1+ (i:Int)) r.1).toNat (IntKind.i64.wrap ((d.getD (i:Int).toNat 0).toNat:Int)),x.2.2.2.2)))) (by simp only[List.length_set];exact hx) (by omega) (by omega);exact⟨cs,h1,by rw[h2];simp only[List.length_set]⟩
  ·have:i=n:=by omega
   subst this;rw[Zl (Zj (by omega))];exact⟨x.2.2.2.1,rfl,rfl⟩
theorem Qvj(r:Xz)(d:List UInt8)(hl:r.2.2.2.1.length<=1048576)(hd:d.length<=1048576)(hE:0<=r.2.2.1)(hE2:r.2.2.1<=4611686018427387903):
  ∃cs,∃n:Nat,Zqz r d=some ((r.1,r.2.1,r.2.2.1+n,cs,()),(n:Int),())/\n<=d.length/\cs.length=r.2.2.2.1.length/\r.2.2.1+n<=4611686018427387903:=by
 obtain⟨h1,h2⟩:=Zxe r hl;unfold Zqz Z5r;rw[Q08 r hl,h1];simp only[Obs];cases hb:Zrd r
 ·simp only[Bool.not_false,Oct,Obs];rw[show min (0:Int) (d.length:Int)=0 by omega];refine⟨r.2.2.2.1,0,?_,by omega,rfl,by simpa using hE2⟩;show W5 1 d r _ r 0 0=_;unfold W5;rw[Zl (by decide)];rw[Zv (by omega) (by omega)];simp
 ·obtain⟨⟨a1,a2⟩,a3,a4,a5,a6,a7,a8⟩:=h2 hb;simp only[Ont,Ocf,Obs];rw[show IntKind.i64.wrap (r.2.2.1-r.2.1)=r.2.2.1-r.2.1 from Zv (by omega) (by omega),Zv (by omega) (by omega),Zv (by omega) (by omega)];obtain⟨n,hn⟩: ∃n:Nat,min (min (r.1- (r.2.2.1-r.2.1)) (4611686018427387903-r.2.2.1)) (d.length:Int)=(n:Int):=⟨(min (min (r.1- (r.2.2.1-r.2.1)) (4611686018427387903-r.2.2.1)) (d.length:Int)).toNat,by omega⟩
  rw[hn];obtain⟨cs,k1,k2⟩:=Z51 d r ((0:Int),((0:Int),((0:Int),(([]:List Int),())))) a1 hE hd n (by omega) (by omega) (Zei d r ((0:Int),((0:Int),((0:Int),(([]:List Int),())))) r (n:Int) 0) 0 r a3 (by unfold Zei;omega) (by omega);refine⟨cs,n,?_,by omega,k2,by omega⟩;refine Eq.trans k1 ?_;rw[Zv (by omega) (by omega)]
theorem Q7j(n:Int): ∃s,Zhd n=some (s,())/\s.length<=1:=by
 unfold Zhd Zm7;generalize bits .and .i64 n (255:Int)=m;rw[show Z4 1 1 7=some (true,())from rfl];simp only[Obs,Ont,Bool.false_or];by_cases h:m<0
 ·rw[Zp (Zm h)];exact⟨[],rfl,by simp⟩
 ·rw[Zl (Zj h)];show ∃s,Option.bind (Y1 2 m 1 [] 0) _=_/\_;unfold Y1;rw[Zp (by decide),Zb (by decide)];simp only;rw[Zb (by unfold Zf9 Jd;simp),Zb (by decide)];unfold Y1;rw[show IntKind.i64.wrap ((0:Int)+1)=1 from rfl,Zl (by decide)];cases decide (IntKind.i64.wrap (Int.tdiv m 256)>0)
  ·exact⟨_,rfl,by simp[Jd]⟩
  ·exact⟨_,rfl,by simp⟩
theorem Z8r(dt:Nat)(r t4:Xz)(hr:0<r.1)(hdt:dt<=4611686018427387903): ∀(N i:Nat) (x:Xz),(x.2.2.2.1.length:Int)=r.1->dt-i<N->i<=dt->
  ∃cs,Zit N (dt:Int) r t4 x (i:Int)=some ((x.1,(dt:Int),x.2.2.1,cs,x.2.2.2.2),true,())/\cs.length=x.2.2.2.1.length
 |0,_,_,_,h,_=>by omega
 |N+1,i,x,hx,hN,hi=>by
  unfold Zit;by_cases h:i<dt
  ·have hm:=Qol (x:=(i:Int)) (n:=r.1) (by omega) hr;rw[Zp (Zm (by omega)),Zb (by omega),Zb (by omega),Zr (m:=dt) h (by omega)];obtain⟨cs,h1,h2⟩:=Z8r dt r t4 hr hdt N (i+1) (x.1,(x.2.1,(x.2.2.1,(x.2.2.2.1.set (Int.tmod (i:Int) r.1).toNat (0:Int),x.2.2.2.2)))) (by simp only[List.length_set];exact hx) (by omega) (by omega);exact⟨cs,h1,by rw[h2];simp only[List.length_set]⟩
  ·have:i=dt:=by omega
   subst this;rw[Zl (Zj (by omega))];exact⟨x.2.2.2.1,rfl,rfl⟩
theorem Qya(r:Xz)(dt:Int)(hl:r.2.2.2.1.length<=1048576): ∃cs b ok,Zkw r dt=some ((r.1,b,r.2.2.1,cs,()),ok,())/\cs.length=r.2.2.2.1.length:=by
 obtain⟨h1,h2⟩:=Zxe r hl;unfold Zkw;rw[Q08 r hl,h1];simp only[Obs];generalize hc: (((!Zrd r)|| (decide (dt<r.2.1)))|| (decide (dt>r.2.2.1)))=c;cases c
 ·simp only[Bool.or_eq_false_iff,Bool.not_eq_false',decide_eq_false_iff_not]at hc;obtain⟨⟨c1,c2⟩,c3⟩:=hc;obtain⟨⟨a1,a2⟩,a3,a4,a5,a6,a7,a8⟩:=h2 c1;obtain⟨dt,rfl⟩:=Int.eq_ofNat_of_zero_le (a:=dt) (by omega);obtain⟨bs,hbs⟩:=Int.eq_ofNat_of_zero_le (a:=r.2.1) (by omega);obtain⟨cs,k1,k2⟩:=Z8r dt r ((0:Int),((0:Int),((0:Int),(([]:List Int),())))) a1 (by omega) (Zf5 (dt:Int) r ((0:Int),((0:Int),((0:Int),(([]:List Int),())))) r r.2.1) bs r a3 (by unfold Zf5;omega) (by omega);rw[<-hbs]at k1;exact⟨cs,dt,true,k1,k2⟩
 ·exact⟨r.2.2.2.1,r.2.1,false,rfl,rfl⟩
def Zx2:List Zc->Int->Int| [],f=>f|x::l,f=>Zx2 l (if x.1<=f/\f<x.2.1 then x.2.1 else f)
theorem Quj: ∀(N:Nat) (pre rest:List Zc) (f:Int),(pre++rest).length<=1048576->rest.length<N->J3 N (pre++rest) f (pre.length:Int)=some (Zx2 rest f,())
 |0,_,_,_,_,h=>by omega
 |N+1,pre,[],f,hl,hN=>by
  unfold J3;rw[Zl (by simp)];rfl
 |N+1,pre,x::rest,f,hl,hN=>by
  have hlen: (pre++x::rest).length=pre.length+rest.length+1:=by simp;omega
  simp only[List.length_cons]at hN;have g: ∀{ρ:Type} (m:Option ρ),Zi (0<=(pre.length:Int)/\(pre.length:Int)< ((pre++x::rest).length:Int)) m=m:=fun m=>Zb (by rw[hlen];omega);have es: (pre++ [x])++rest=pre++x::rest:=by simp
  have el: ((pre++ [x]).length:Int)=((pre.length+1:Nat):Int):=by simp
  unfold J3 Ziu;rw[Zp (Zm (by rw[hlen];omega))];simp only[g,Vh];rw[Zb (fun _=>by rw[hlen];omega),Zr (m:=pre.length+1) (by omega) (by omega)];have ih:=fun f=>Quj N (pre++ [x]) rest f (by simp;omega) (by omega);simp only[es,el]at ih;by_cases h:x.1<=f/\f<x.2.1
  ·rw[Zp (by simp;omega),ih];simp only[Zx2];rw[if_pos h]
  ·rw[Zl (by rw[Bool.and_eq_false_iff,decide_eq_false_iff_not,decide_eq_false_iff_not];omega),ih];simp only[Zx2];rw[if_neg h]
theorem Qed(l:List Zc)(f:Int)(hl:l.length<=1048576):Zhl l f=some (if rsB (-1) l=true/\0<=f then Zx2 l f else-1,()):=by
 unfold Zhl;rw[Zg2 l hl,Obs];cases h1:rsB (-1) l
 ·simp
 ·by_cases h2:f<0
  ·rw[Zp (by simp[h2]),if_neg (by omega)]
  ·rw[Zl (by simp;omega),if_pos ⟨rfl,by omega⟩];exact Quj _ [] l f (by simpa using hl) (by unfold Zld;omega)
def Vd:List Zc->Int| []=>0|x::l=>(x.2.1-x.1)+Vd l
theorem Qx3: ∀(N:Nat) (pre rest:List Zc) (lo n:Int),(pre++rest).length<=1048576->rest.length<N->rsB lo rest=true->0<=n->n<=max lo 0->n<=4611686018427387903->Kd N (pre++rest) n (pre.length:Int)=some (n+Vd rest,())
 |0,_,_,_,_,_,h,_,_,_,_=>by omega
 |N+1,pre,[],lo,n,hl,hN,_,_,_,_=>by
  unfold Kd;rw[Zl (by simp)];simp[Vd]
 |N+1,pre,x::rest,lo,n,hl,hN,hx,h0,h1,h2=>by
  have hlen: (pre++x::rest).length=pre.length+rest.length+1:=by simp;omega
  simp only[List.length_cons]at hN;obtain⟨hf,hlo,hrest⟩:=Je.1 hx;have hf:=Qs.1 hf;have g: ∀{ρ:Type} (m:Option ρ),Zi (0<=(pre.length:Int)/\(pre.length:Int)< ((pre++x::rest).length:Int)) m=m:=fun m=>Zb (by rw[hlen];omega);unfold Kd;rw[Zp (Zm (by rw[hlen];omega))];simp only[g,Vh];rw[Zr (m:=pre.length+1) (by omega) (by omega),show IntKind.i64.wrap (n+x.2.1)=n+x.2.1 from Zv (by omega) (by omega),Zv (by omega) (by omega)];have ih:=Qx3 N (pre++ [x]) rest x.2.1 (n+x.2.1-x.1) (by simp;omega) (by omega) hrest (by omega) (by omega) (by omega);rw[show(pre++ [x])++rest=pre++x::rest by simp,show((pre++ [x]).length:Int)=((pre.length+1:Nat):Int) by simp]at ih;rw[ih];simp only[Vd];congr 2;omega
theorem Zec(l:List Zc)(hl:l.length<=1048576):Vc l=some (if rsB (-1) l=true then Vd l else-1,()):=by
 unfold Vc;rw[Zg2 l hl,Obs];cases h1:rsB (-1) l
 ·simp
 ·have:=Qx3 (Zaw l 0 0) [] l (-1) 0 (by simpa using hl) (by unfold Zaw;omega) h1 (by omega) (by omega) (by omega);simp only[Ont,Ocf,if_true];refine Eq.trans this ?_;simp
abbrev Q5p(s:Zo):Int:=s.2.1.2.2.1
structure Kk(K:Int)(s:Zo):Prop where
 cells:s.2.1.2.2.2.1.length<=64
 e0:0<=s.2.1.2.2.1
 eK:s.2.1.2.2.1<=K
 pend:RL s.2.1.2.2.1 s.2.2.1
 flight:RL s.2.1.2.2.1 s.2.2.2.1
 acked:RL s.2.1.2.2.1 s.2.2.2.2.1
theorem Kk.mono{K K':Int}{s:Zo}(h:Kk K s)(hK:K<=K'):Kk K' s:={h with eK:=Int.le_trans h.eK hK}
theorem Qz{E K:Int}{l:List Zc}(h:RL E l)(h0:0<=E)(hE:E<=K)(hK:K<=1000000):l.length<=1000001:=by
 have:=Xbo h (by omega);omega
theorem Z2{α:Type}{l:List α}{i:Nat}{d:α}(h:i<l.length):l.getD i d∈l:=by
 rw[List.getD_eq_getElem?_getD,List.getElem?_eq_getElem h];exact List.getElem_mem h
theorem Zme{K:Int}{s:Zo}(h:Kk K s)(hK:K<=1000000):Zc0 s=some (s,()):=by
 unfold Zc0;rw[Q08 _ (by have:=h.cells;omega),Qrf _ (Nat.le_trans (Qz h.pend h.e0 h.eK hK) (by omega)),Obs,Qrf _ (Nat.le_trans (Qz h.flight h.e0 h.eK hK) (by omega)),Obs,Obs,Qrf _ (Nat.le_trans (Qz h.acked h.e0 h.eK hK) (by omega)),Obs]
theorem Qen(s:Zo): ∃k,J5 s=some (k,()):=by
 unfold J5;cases (s.2.2.2.2.2.2.1==(3:Int))&& (s.2.1.2.1==s.2.1.2.2.1)
 ·cases (decide (s.2.2.2.2.2.2.1>(1:Int)))|| ((s.2.2.2.2.2.2.1==(1:Int))&& (s.1==(2:Int)))
  ·cases (decide (s.2.2.2.2.2.2.2.1>(0:Int)))|| ((s.2.2.2.2.2.2.1==(1:Int))&& (s.1==(1:Int)))<;>exact⟨_,rfl⟩
  ·exact⟨_,rfl⟩
 ·exact⟨_,rfl⟩
theorem Qk4(s:Zo)(hl:s.2.2.2.2.1.length<=1048576): ∀(N i:Nat),s.2.2.2.2.1.length-i<N->i<=s.2.2.2.2.1.length-> ∃b,Zbu N s (i:Int)=some (b,())
 |0,_,h,_=>by omega
 |N+1,i,hN,hi=>by
  unfold Zbu;by_cases h:i<s.2.2.2.2.1.length
  ·rw[Zp (Zm (by omega)),Zb (by omega),Zr h (by omega)];cases decide ((s.2.2.2.2.1.getD (i:Int).toNat Zw).2.1>s.2.2.2.2.2.2.2.1)
   ·exact Qk4 s hl N (i+1) (by omega) (by omega)
   ·exact⟨_,rfl⟩
  ·rw[Zl (Zj (by omega))];obtain⟨k,hk⟩:=Qen s;rw[hk];generalize ((!((s.2.2.2.2.2.2.1==(0:Int))==(s.2.2.2.2.2.1==(-1:Int))))|| ((s.2.2.2.2.2.1 !=(-1:Int))&& (s.2.2.2.2.2.1 !=s.2.1.2.2.1)))=c;cases c<;>exact⟨_,rfl⟩
theorem Qk3(s:Zo)(hl:s.2.2.2.1.length<=1048576)(hl2:s.2.2.2.2.1.length<=1048576): ∀(N i:Nat),s.2.2.2.1.length-i<N->i<=s.2.2.2.1.length-> ∃b,Zbt N s (i:Int)=some (b,())
 |0,_,h,_=>by omega
 |N+1,i,hN,hi=>by
  unfold Zbt;by_cases h:i<s.2.2.2.1.length
  ·rw[Zp (Zm (by omega)),Zb (by omega),Zr h (by omega)];cases decide ((s.2.2.2.1.getD (i:Int).toNat Zw).2.1>s.2.2.2.2.2.2.2.1)
   ·exact Qk3 s hl hl2 N (i+1) (by omega) (by omega)
   ·exact⟨_,rfl⟩
  ·rw[Zl (Zj (by omega))];exact Qk4 s hl2 _ 0 (by unfold Zf6;omega) (by omega)
theorem Qx2{l:List Zc}(h:Vd l≠0):0<l.length:=by
 cases l with
 |nil=>exact absurd rfl h
 |cons=>simp
theorem Qk2{K:Int}{s:Zo}(hs:Kk K s)(hK:K<=1000000): ∀(N i:Nat) (all:List Zc),RL (Q5p s) all->s.2.2.2.2.1.length-i<N->i<=s.2.2.2.2.1.length-> ∃b,Zbs N s all (i:Int)=some (b,())
 |0,_,_,_,h,_=>by omega
 |N+1,i,all,ha,hN,hi=>by
  have la:=Qz ha hs.e0 hs.eK hK;have l1:=Qz hs.pend hs.e0 hs.eK hK;have l2:=Qz hs.flight hs.e0 hs.eK hK;have l3:=Qz hs.acked hs.e0 hs.eK hK;unfold Zbs;by_cases h:i<s.2.2.2.2.1.length
  ·rw[Zp (Zm (by omega)),Zb (by omega),Zr h (by omega),Znu _ _ (by omega),Obs];exact Qk2 hs hK N (i+1) _ (Zup ha (hs.acked.2 _ (Z2 h))) (by omega) (by omega)
  ·rw[Zl (Zj (by omega)),Zec _ (by omega),Zec _ (by omega),Zec _ (by omega),Zec _ (by omega),Qed _ _ (by omega)];simp only[Obs,ha.1,if_true];rw[Zb (fun h1 h2=>by
    simp only[Bool.or_eq_false_iff,bne_eq_false_iff_eq,decide_eq_true_eq]at h1 h2;have:=Qx2 (l:=all) (by omega);omega)]
   generalize hc: ((Vd all !=s.2.1.2.2.1||_)||_)=c;cases c
   ·simp only[Ocf,Obs];generalize ((false||_)||_)=c2;cases c2
    ·exact Qk3 s (by omega) (by omega) _ 0 (by unfold Za9;omega) (by omega)
    ·exact⟨_,rfl⟩
   ·simp only[Oct,Obs,Bool.true_or];exact⟨_,rfl⟩
theorem Qk1{K:Int}{s:Zo}(hs:Kk K s)(hK:K<=1000000): ∀(N i:Nat) (all:List Zc),RL (Q5p s) all->s.2.2.2.1.length-i<N->i<=s.2.2.2.1.length-> ∃b,Zbr N s all (i:Int)=some (b,())
 |0,_,_,_,h,_=>by omega
 |N+1,i,all,ha,hN,hi=>by
  have la:=Qz ha hs.e0 hs.eK hK;have l2:=Qz hs.flight hs.e0 hs.eK hK;unfold Zbr;by_cases h:i<s.2.2.2.1.length
  ·rw[Zp (Zm (by omega)),Zb (by omega),Zr h (by omega),Znu _ _ (by omega),Obs];exact Qk1 hs hK N (i+1) _ (Zup ha (hs.flight.2 _ (Z2 h))) (by omega) (by omega)
  ·rw[Zl (Zj (by omega))];exact Qk2 hs hK _ 0 all ha (by unfold Za8;omega) (by omega)
theorem Zkt{K:Int}{s:Zo}(hs:Kk K s)(hK:K<=1000000): ∃b,Xv s=some (b,())/\(b=true->Zrd s.2.1=true/\0<=s.2.2.2.2.2.2.2.1/\s.2.2.2.2.2.2.2.1<=s.2.1.2.2.1):=by
 have l1:=Qz hs.pend hs.e0 hs.eK hK;have l2:=Qz hs.flight hs.e0 hs.eK hK;have l3:=Qz hs.acked hs.e0 hs.eK hK;have hr:=(Zxe s.2.1 (by have:=hs.cells;omega)).1;obtain⟨b1,h1⟩:=Qk1 hs hK (Yz s s.2.2.1 0) 0 s.2.2.1 hs.pend (by unfold Yz;omega) (by omega);unfold Xv;rw[hr,Zg2 _ (by omega),Zg2 _ (by omega),Zg2 _ (by omega)];have e1:Z4 s.2.2.2.2.2.2.2.1 0 s.2.1.2.2.1=some (decide (s.2.2.2.2.2.2.2.1>=0)&&decide (s.2.2.2.2.2.2.2.1<=s.2.1.2.2.1),()):=rfl;have e2:Qi s.2.2.2.2.2.2.2.2.1=some (decide (s.2.2.2.2.2.2.2.2.1>=0)&&decide (s.2.2.2.2.2.2.2.2.1<=4611686018427387903),()):=rfl;have e3:Z4 s.2.2.2.2.2.2.1 0 3=some (decide (s.2.2.2.2.2.2.1>=0)&&decide (s.2.2.2.2.2.2.1<=3),()):=rfl;simp only[hs.pend.1,hs.flight.1,hs.acked.1,e1,e2,e3,Obs];cases Zrd s.2.1
 ·exact⟨false,rfl,by simp⟩
 simp only[Ont,Ocf,Obs,Bool.false_or];by_cases hsent:0<=s.2.2.2.2.2.2.2.1/\s.2.2.2.2.2.2.2.1<=s.2.1.2.2.1
 ·simp only[show decide (s.2.2.2.2.2.2.2.1>=0)=true from Zm (by omega),show decide (s.2.2.2.2.2.2.2.1<=s.2.1.2.2.1)=true from Zm hsent.2,Bool.and_self,Ont,Ocf,Obs,Bool.false_or];generalize (decide (s.2.2.2.2.2.2.2.2.1>=0)&&decide (s.2.2.2.2.2.2.2.2.1<=4611686018427387903))=c1;generalize (decide (s.2.2.2.2.2.2.1>=0)&&decide (s.2.2.2.2.2.2.1<=3))=c2;cases c1
  ·exact⟨false,rfl,by simp⟩
  cases c2
  ·exact⟨false,rfl,by simp⟩
  simp only[Ont,Ocf,Obs,Bool.or_self];generalize ((s.1==(4:Int))|| (s.1==(5:Int)))=c3;cases c3
  ·exact⟨b1,h1,fun _=>⟨trivial,hsent.1,hsent.2⟩⟩
  ·exact⟨_,rfl,fun _=>⟨trivial,hsent.1,hsent.2⟩⟩
 ·have: (decide (s.2.2.2.2.2.2.2.1>=0)&&decide (s.2.2.2.2.2.2.2.1<=s.2.1.2.2.1))=false:=by
   rw[Bool.and_eq_false_iff,decide_eq_false_iff_not,decide_eq_false_iff_not];omega
  rw[this];exact⟨false,rfl,by simp⟩
theorem Qz4{K:Int}{s:Zo}(h:Kk K s)(d:List UInt8)(hK:K+d.length<=1000000):
  ∃x n,Ze6 s d=some (x,n,())/\Kk (K+d.length) x:=by
 have h0:=h.e0;have hcl:=h.cells;have heK:=h.eK;obtain⟨b,h1,-⟩:=Zkt h (by omega);have lp:=Qz h.pend h0 heK (by omega);unfold Ze6;rw[Zme h (by omega),h1];simp only[Obs];generalize (((!b)|| (decide (s.1>(1:Int))))|| (s.2.2.2.2.2.1 !=(-1:Int)))=c;cases c
 ·obtain⟨cs,n,k1,k2,k3,k4⟩:=Qvj s.2.1 d (by omega) (by omega) h0 (by omega);rw[Ocf,k1,Obs];unfold Zeb;have add:RL (s.2.1.2.2.1+n) s.2.2.2.1/\RL (s.2.1.2.2.1+n) s.2.2.2.2.1:=⟨Qny h.flight (by omega),Qny h.acked (by omega)⟩
  by_cases hn: (n:Int)>0
  ·rw[Zp (Zm hn),Znu _ _ (by omega),Obs];exact⟨_,_,rfl,{cells:=(by simp only;omega),e0:=(by simp only;omega),eK:=(by simp only;omega),pend:=Zup (Qny h.pend (by simp only;omega)) (by simp only;omega),flight:=add.1,acked:=add.2}⟩
  ·rw[Zl (Zj hn)];exact⟨_,_,rfl,{cells:=(by simp only;omega),e0:=(by simp only;omega),eK:=(by simp only;omega),pend:=Qny h.pend (by simp only;omega),flight:=add.1,acked:=add.2}⟩
 ·exact⟨s,0,rfl,h.mono (by omega)⟩
theorem Qx1{K:Int}{s:Zo}(h:Kk K s)(hK:K<=1000000): ∃x ok,Ze1 s=some (x,ok,())/\Kk K x:=by
 obtain⟨b,h1,-⟩:=Zkt h hK;unfold Ze1;rw[Zme h hK,h1];simp only[Obs];generalize (((!b)|| (decide (s.1>(1:Int))))|| (s.2.2.2.2.2.1 !=(-1:Int)))=c;cases c
 ·exact⟨_,_,rfl,{cells:=h.cells,e0:=h.e0,eK:=h.eK,pend:=h.pend,flight:=h.flight,acked:=h.acked}⟩
 ·exact⟨s,false,rfl,h⟩
theorem Zs7(E:Int):RL E []:=⟨rfl,by simp⟩
theorem Qle{K:Int}{s:Zo}(h:Kk K s)(code:Int)(hK:K<=1000000): ∃x ok,Zbx s code=some (x,ok,())/\Kk K x:=by
 have hcl:=h.cells;have heK:=h.eK;obtain⟨b,h1,h2⟩:=Zkt h hK;unfold Zbx;rw[h1];simp only[Obs];have e2:Qi code=some (decide (code>=0)&&decide (code<=4611686018427387903),()):=rfl;rw[e2];cases b
 ·simp only[Bool.not_false,Bool.true_or,Oct,Obs];rw[Zme h hK];exact⟨s,false,rfl,h⟩
 ·obtain⟨hr,hs0,hsE⟩:=h2 rfl;obtain⟨⟨a1,a2⟩,-⟩:=(Zxe s.2.1 (by omega)).2 hr;simp only[Ont,Bool.false_or];generalize (decide (code>=0)&&decide (code<=4611686018427387903))=q;cases decide (s.1>2)
  ·cases q
   ·simp only[Ocf,Obs,Bool.not_false,Bool.false_or,Oct];rw[Zme h hK];exact⟨s,false,rfl,h⟩
   ·simp only[Ocf,Obs,Ont,Bool.or_self,Jk,Kz];rw[Zb (by unfold Qg;omega)];exact⟨_,_,rfl,{cells:=(by simp;omega),e0:=hs0,eK:=(by simp only;omega),pend:=Zs7 _,flight:=Zs7 _,acked:=Zs7 _}⟩
  ·simp only[Oct,Obs,Bool.true_or];rw[Zme h hK];exact⟨s,false,rfl,h⟩
theorem Qwj(s:Zo)(p:Z9)(hE0:0<=s.2.1.2.2.1)(hE:s.2.1.2.2.1<=1000000): ∃b,Zni s p=some (b,())/\(b=true->0<=p.1/\p.1+ (p.2.1.length:Int)<=s.2.1.2.2.1):=by
 refine⟨_,rfl,fun hb=> ?_⟩;simp only[Oba,decide_eq_true_eq]at hb;obtain⟨⟨⟨b1,b2⟩,b3⟩,-⟩:=hb;rw[Zv (by omega) (by omega)]at b3;omega
theorem Qwk{p:Z9}(h0:0<=p.1)(h1:p.1+ (p.2.1.length:Int)<=1000000):Zjz p=some ((p.1,p.1+ (p.2.1.length:Int),()),()):=by
 unfold Zjz;rw[Zv (by omega) (by omega)]
theorem Q5s{K:Int}{s:Zo}(h:Kk K s)(p:Z9)(hK:K<=1000000): ∃x ok,Ziz s p=some (x,ok,())/\Kk K x:=by
 have h0:=h.e0;have heK:=h.eK;have lp:=Qz h.pend h0 heK hK;have lf:=Qz h.flight h0 heK hK;obtain⟨b,h1,h2⟩:=Zkt h hK;obtain⟨b2,h3,h4⟩:=Qwj s p h0 (by omega);have j2: ∀t x,Kk K x-> ∃y ok,Zdp t x=some (y,ok,())/\Kk K y:=by
  intro t x hx;unfold Zdp;obtain⟨k,hk⟩:=Qen x;rw[hk];exact⟨_,_,rfl,{cells:=hx.cells,e0:=hx.e0,eK:=hx.eK,pend:=hx.pend,flight:=hx.flight,acked:=hx.acked}⟩
 have j1: ∀t x,Kk K x-> ∃y ok,W4 p t x=some (y,ok,())/\Kk K y:=by
  intro t x hx;unfold W4;cases p.2.2.1
  ·exact j2 We _ hx
  ·exact j2 We _ {cells:=hx.cells,e0:=hx.e0,eK:=hx.eK,pend:=hx.pend,flight:=hx.flight,acked:=hx.acked}
 unfold Ziz;rw[Zme h hK,h1];simp only[Obs];generalize (((!b)|| (decide (s.1>(2:Int)))))=c0;cases c0
 ·simp only[Ocf,h3,Obs,Bool.false_or];generalize hc: (((!b2)|| ((p.2.1==([]:List UInt8))&& (!p.2.2.1)))|| (p.2.2.1&& (s.2.2.2.2.2.2.1 !=(1:Int))))=c;cases c
  ·simp only[Bool.or_eq_false_iff,Bool.not_eq_false']at hc;obtain⟨a1,a2⟩:=h4 hc.1.1;rw[Ocf];cases p.2.1==([]:List UInt8)
   ·simp only[Bool.not_false,Oct];rw[Qwk a1 (by omega),Obs];rw[Ztw _ _ (by omega) (by simp),Obs];simp only;generalize (if rsB (-1) s.2.2.1=true/\rsB (-1) [((p.1,p.1+ (p.2.1.length:Int),()):Zc)]=true then List.flatMap (fun x=>List.flatMap (Zvs x) [((p.1,p.1+ (p.2.1.length:Int),()):Zc)]) s.2.2.1 else[])=cm;rw[Zb (fun hh=>by simp only[bne_eq_false_iff_eq]at hh;omega)];generalize ((cm.length:Int) !=1||_)=c3;cases c3
    ·rw[Ocf,Zws _ _ (by omega),Obs,Znu _ _ (by omega),Obs];exact j1 We _ {cells:=h.cells,e0:=h.e0,eK:=h.eK,pend:=Qz7 h.pend,flight:=Zup h.flight a2,acked:=h.acked}
    ·exact⟨_,_,rfl,h⟩
   ·exact j1 We _ h
  ·exact⟨_,_,rfl,h⟩
 ·exact⟨_,_,rfl,h⟩
theorem Qkr{E:Int}{a:List Zc}{r:Zc}{c:Prop}[Decidable c](h: ∀x∈a,x.2.1<=E): ∀y∈(if c then a.flatMap fun x=>[r].flatMap (Zvs x)else[]),y.2.1<=E:=by
 intro y hy;split at hy
 ·simp only[List.mem_flatMap,List.mem_singleton,exists_eq_left]at hy;obtain⟨x,hx,hy⟩:=hy;unfold Zvs at hy;split at hy
  ·simp only[List.mem_singleton]at hy;have:=h x hx;subst hy;simp only;omega
  ·cases hy
 ·cases hy
theorem Qpj{a:List Zc}{r:Zc}{c:Prop}[Decidable c]: (if c then a.flatMap fun x=>[r].flatMap (Zvs x)else[]).length<=a.length:=by
 split
 ·have:=Z3r (f:=fun x=>[r].flatMap (Zvs x)) (k:=1) (fun x=>by simpa using Qx4 x r) a;omega
 ·simp
theorem Xaa(r:Zc)(h0:0<=r.1):rsB (-1) [r]=Zdf r:=by
 simp only[rsB,Bool.and_true];rw[Zm (by omega),Bool.and_true]
theorem Kk.lists{K:Int}{s:Zo}(h:Kk K s){f a:List Zc}(hf:RL s.2.1.2.2.1 f)(ha:RL s.2.1.2.2.1 a):Kk K (s.1,(s.2.1,(s.2.2.1,(f,(a,s.2.2.2.2.2))))):=
 {cells:=h.cells,e0:=h.e0,eK:=h.eK,pend:=h.pend,flight:=hf,acked:=ha}
theorem Qkh{K:Int}{s x:Zo}(hs:Kk K s)(hx:Kk K x)(he:x.2.1=s.2.1)(t:Zo)(hK:K<=1000000): ∃y,Zbm s t x=some (y,())/\Kk K y:=by
 have hcl:=hs.cells;have la:=Qz hx.acked hx.e0 hx.eK hK;unfold Zbm;simp only[Jk,Kz];rw[Qed _ _ (by omega),Obs];obtain⟨cs,b,ok,k1,k2⟩:=Qya s.2.1 (if rsB (-1) x.2.2.2.2.1=true/\0<=(0:Int)then Zx2 x.2.2.2.2.1 0 else-1) (by omega);rw[k1,Obs];unfold Xl;obtain⟨k,hk⟩:=Qen (x.1,((s.2.1.1,b,s.2.1.2.2.1,cs,()),x.2.2));rw[hk,Obs];refine⟨_,rfl,?_⟩;have e:x.2.1.2.2.1=s.2.1.2.2.1:=by rw[he]
 exact {cells:=(by simp only;omega),e0:=hs.e0,eK:=hs.eK,pend:=(by have:=hx.pend;rw[e]at this;exact this),flight:=(by have:=hx.flight;rw[e]at this;exact this),acked:=(by have:=hx.acked;rw[e]at this;exact this)}
theorem Qkg{K:Int}{s x:Zo}(hs:Kk K s)(hx:Kk K x)(he:x.2.1=s.2.1)(p:Z9)(t:Zo)(hK:K<=1000000): ∃y,Zbl s p t x=some (y,())/\Kk K y:=by
 unfold Zbl;cases p.2.2.1&& (s.2.2.2.2.2.2.1==(2:Int))
 ·exact Qkh hs hx he t hK
 ·exact Qkh hs (x:=(x.1,(x.2.1,(x.2.2.1,(x.2.2.2.1,(x.2.2.2.2.1,(x.2.2.2.2.2.1,((3:Int),x.2.2.2.2.2.2.2)))))))) {cells:=hx.cells,e0:=hx.e0,eK:=hx.eK,pend:=hx.pend,flight:=hx.flight,acked:=hx.acked} he t hK
theorem Qki{K:Int}{s:Zo}(hs:Kk K s)(p:Z9)(t:Zo)(hK:K<=1000000)(c:List Zc)(hcl:c.length<=1048576)(hc: ∀y∈c,y.2.1<=s.2.1.2.2.1): ∀(N i:Nat) (x:Zo),Kk K x->x.2.1=s.2.1->c.length-i<N->i<=c.length->
  ∃y,Zbn N s p t x c (i:Int)=some (y,())/\Kk K y
 |0,_,_,_,_,h,_=>by omega
 |N+1,i,x,hx,he,hN,hi=>by
  have lf:=Qz hx.flight hx.e0 hx.eK hK;have la:=Qz hx.acked hx.e0 hx.eK hK;unfold Zbn;by_cases h:i<c.length
  ·have hm:=hc _ (Z2 (d:=Zw) h);have e:x.2.1.2.2.1=s.2.1.2.2.1:=by rw[he]
   rw[Zp (Zm (by omega)),Zb (by omega),Zws _ _ (by omega),Obs,Zb (by omega),Znu _ _ (by omega),Obs,Zr h (by omega)];exact Qki hs p t hK c hcl hc N (i+1) _ (hx.lists (Qz7 hx.flight) (Zup hx.acked (by rw[e];exact hm))) he (by omega) (by omega)
  ·rw[Zl (Zj (by omega))];exact Qkg hs hx he p t hK
theorem Q56{K:Int}{s:Zo}(h:Kk K s)(p:Z9)(hK:K<=1000000): ∃x,Zku s p=some (x,())/\Kk K x:=by
 have h0:=h.e0;have heK:=h.eK;have lf:=Qz h.flight h0 heK hK;obtain⟨b,h1,h2⟩:=Zkt h hK;obtain⟨b2,h3,h4⟩:=Qwj s p h0 (by omega);unfold Zku;rw[Zme h hK,h1];simp only[Obs];generalize ((!b)|| (decide (s.1>(2:Int))))=c0;cases c0
 ·simp only[Ocf,h3,Obs,Bool.false_or];cases b2
  ·exact⟨_,rfl,h⟩
  ·obtain⟨a1,a2⟩:=h4 rfl;simp only[Ont,Ocf];cases p.2.1==([]:List UInt8)
   ·simp only[Bool.not_false,Oct];rw[Qwk a1 (by omega),Obs];rw[Ztw _ _ (by omega) (by simp),Obs];have hl:=Qpj (a:=s.2.2.2.1) (r:=((p.1,p.1+ (p.2.1.length:Int),()):Zc)) (c:=rsB (-1) s.2.2.2.1=true/\rsB (-1) [((p.1,p.1+ (p.2.1.length:Int),()):Zc)]=true);have hh:=Qkr (a:=s.2.2.2.1) (r:=((p.1,p.1+ (p.2.1.length:Int),()):Zc)) (c:=rsB (-1) s.2.2.2.1=true/\rsB (-1) [((p.1,p.1+ (p.2.1.length:Int),()):Zc)]=true) h.flight.2;exact Qki h p _ hK _ (by omega) hh _ 0 s h rfl (by unfold Zlc;simp only;omega) (by omega)
   ·exact Qkg h h rfl p _ hK
 ·exact⟨_,rfl,h⟩
theorem Qeq{K:Int}{s x:Zo}(hx:Kk K x)(p:Z9)(t:Zo): ∃y,Wy s p t x=some (y,())/\Kk K y:=by
 have j2: ∀x,Kk K x-> ∃y,Wz t x=some (y,())/\Kk K y:=by
  intro x hx;unfold Wz;obtain⟨k,hk⟩:=Qen x;rw[hk];exact⟨_,rfl,{cells:=hx.cells,e0:=hx.e0,eK:=hx.eK,pend:=hx.pend,flight:=hx.flight,acked:=hx.acked}⟩
 unfold Wy;cases p.2.2.1&& (s.2.2.2.2.2.2.1==(2:Int))
 ·exact j2 _ hx
 ·exact j2 _ {cells:=hx.cells,e0:=hx.e0,eK:=hx.eK,pend:=hx.pend,flight:=hx.flight,acked:=hx.acked}
theorem Qer{K:Int}{s:Zo}(p:Z9)(t:Zo)(hK:K<=1000000)(c:List Zc)(E:Int)(hcl:c.length<=1048576)(hc: ∀y∈c,y.2.1<=E): ∀(N i:Nat) (x:Zo),Kk K x->x.2.1.2.2.1=E->c.length-i<N->i<=c.length->
  ∃y,W1 N s p t x c (i:Int)=some (y,())/\Kk K y
 |0,_,_,_,_,h,_=>by omega
 |N+1,i,x,hx,he,hN,hi=>by
  have lf:=Qz hx.flight hx.e0 hx.eK hK;have lp:=Qz hx.pend hx.e0 hx.eK hK;unfold W1;by_cases h:i<c.length
  ·have hm:=hc _ (Z2 (d:=Zw) h);rw[Zp (Zm (by omega)),Zb (by omega),Zws _ _ (by omega),Obs,Zb (by omega),Znu _ _ (by omega),Obs,Zr h (by omega)];exact Qer p t hK c E hcl hc N (i+1) _ {cells:=hx.cells,e0:=hx.e0,eK:=hx.eK,pend:=Zup hx.pend (by rw[he];exact hm),flight:=Qz7 hx.flight,acked:=hx.acked} he (by omega) (by omega)
  ·rw[Zl (Zj (by omega))];exact Qeq hx p t
theorem Q44{K:Int}{s:Zo}(h:Kk K s)(p:Z9)(hK:K<=1000000): ∃x,Ziw s p=some (x,())/\Kk K x:=by
 have h0:=h.e0;have heK:=h.eK;have lf:=Qz h.flight h0 heK hK;obtain⟨b,h1,h2⟩:=Zkt h hK;obtain⟨b2,h3,h4⟩:=Qwj s p h0 (by omega);unfold Ziw;rw[Zme h hK,h1];simp only[Obs];generalize ((!b)|| (decide (s.1>(2:Int))))=c0;cases c0
 ·simp only[Ocf,h3,Obs,Bool.false_or];cases b2
  ·exact⟨_,rfl,h⟩
  ·obtain⟨a1,a2⟩:=h4 rfl;simp only[Ont,Ocf];cases p.2.1==([]:List UInt8)
   ·simp only[Bool.not_false,Oct];rw[Qwk a1 (by omega),Obs];rw[Ztw _ _ (by omega) (by simp),Obs];have hl:=Qpj (a:=s.2.2.2.1) (r:=((p.1,p.1+ (p.2.1.length:Int),()):Zc)) (c:=rsB (-1) s.2.2.2.1=true/\rsB (-1) [((p.1,p.1+ (p.2.1.length:Int),()):Zc)]=true);have hh:=Qkr (a:=s.2.2.2.1) (r:=((p.1,p.1+ (p.2.1.length:Int),()):Zc)) (c:=rsB (-1) s.2.2.2.1=true/\rsB (-1) [((p.1,p.1+ (p.2.1.length:Int),()):Zc)]=true) h.flight.2;exact Qer p _ hK _ _ (by omega) hh _ 0 s h rfl (by unfold Zjs;simp only;omega) (by omega)
   ·exact Qeq h p _
 ·exact⟨_,rfl,h⟩
theorem Q57{K:Int}{s:Zo}(h:Kk K s)(hK:K<=1000000): ∃x ok,Zkv s=some (x,ok,())/\Kk K x:=by
 obtain⟨b,h1,h2⟩:=Zkt h hK;unfold Zkv;rw[Zme h hK,h1];simp only[Obs];generalize ((!b)|| (s.1 !=(4:Int)))=c;cases c
 ·exact⟨_,_,rfl,{cells:=h.cells,e0:=h.e0,eK:=h.eK,pend:=h.pend,flight:=h.flight,acked:=h.acked}⟩
 ·exact⟨_,_,rfl,h⟩
theorem Q6q(c:Qp)(n:Int)(h:Jj c): ∃b c',Zam c n=some ((b,()),(c',()))/\Jj c':=by
 unfold Zam;obtain⟨x,c1,e1,k1,-,-⟩:=Zxu c n h;rw[e1,Obs];exact⟨_,_,rfl,k1⟩
theorem Qud(c:Qp)(l:List (List UInt8))(h:Jj c)(hl:0<l.length): ∃x c',Zpp c l=some ((x,()),(c',()))/\Jj c'/\x∈l:=by
 unfold Zpp;obtain⟨x,c1,e1,k1,b1,b2⟩:=Zxu c (l.length:Int) h;have b2:=b2 (by omega);rw[e1,Obs];simp only[];rw[Zb ⟨b1,b2⟩];refine⟨_,_,rfl,k1,?_⟩;have hx:x.toNat<l.length:=by omega
 rw[List.getD_eq_getElem?_getD,List.getElem?_eq_getElem hx];exact List.getElem_mem hx
theorem Qpp: ∀(N m:Nat) (c:Qp) (s:List UInt8),Jj c->m<N->s.length+m<=1000000-> ∃t c',Zi6 N c s (m:Int)=some ((t,()),(c',()))/\Jj c'/\t.length<=s.length+m
 |0,_,_,_,_,h,_=>by omega
 |N+1,0,c,s,hc,_,_=>by
  unfold Zi6;rw[Zl (by decide)];exact⟨s,c,rfl,hc,by omega⟩
 |N+1,m+1,c,s,hc,hN,hl=>by
  unfold Zi6;rw[Zp (Zm (by omega))];obtain⟨x,c1,e1,k1,hx⟩:=Qud c [([97]:List UInt8),([98]:List UInt8),([99]:List UInt8),([100]:List UInt8)] hc (by simp);have hx1:x.length=1:=by simp only[List.mem_cons,List.not_mem_nil,or_false]at hx;rcases hx with rfl|rfl|rfl|rfl<;>rfl
  rw[e1,Obs,Zb (by unfold Zf9;simp only;omega)];have e:IntKind.i64.wrap (((m+1:Nat):Int)-1)=(m:Int):=by rw[Zv (by omega) (by omega)];omega
  rw[e];obtain⟨t,c2,e2,k2,h2⟩:=Qpp N m c1 (s++x) k1 (by omega) (by simp;omega);exact⟨t,c2,e2,k2,by simp at h2;omega⟩
theorem Q6p(c:Qp)(most:Nat)(h:Jj c)(hm:most<=1000): ∃t c',Zpr c (most:Int)=some ((t,()),(c',()))/\Jj c'/\t.length<=most:=by
 unfold Zpr;obtain⟨x,c1,e1,k1,b1,b2⟩:=Zxu c (IntKind.i64.wrap ((most:Int)+1)) h;rw[e1,Obs];rw[Zv (by omega) (by omega)]at b2;have b2:=b2 (by omega);obtain⟨m,rfl⟩:=Int.eq_ofNat_of_zero_le b1;obtain⟨t,c2,e2,k2,h2⟩:=Qpp (Zh2 c1 [] (m:Int)) m c1 [] k1 (by unfold Zh2;omega) (by simp;omega);exact⟨t,c2,e2,k2,by simp at h2;omega⟩
def inR(n:Int)(l:List Zc):Prop:= ∃x∈l,x.1<=n/\n<x.2.1
theorem Qew: ∀{l:List Zc} {r:Zc} {n:Int},inR n (Zh3 l r)->inR n l\/(r.1<=n/\n<r.2.1)
 | [],r,n,⟨x,hx,h⟩=>by simp[Zh3]at hx;subst hx;exact .inr h
 |y::l,r,n,⟨x,hx,h⟩=>by
  have up:inR n l->inR n (y::l):=fun⟨z,hz,hh⟩=>⟨z,by simp[hz],hh⟩
  unfold Zh3 at hx;split at hx
  ·rcases List.mem_cons.1 hx with rfl|hx
   ·exact .inl ⟨x,by simp,h⟩
   ·exact(Qew ⟨x,hx,h⟩).imp up id
  ·split at hx
   ·rcases List.mem_cons.1 hx with rfl|hx
    ·exact .inr h
    ·exact .inl ⟨x,hx,h⟩
   ·rcases Qew ⟨x,hx,h⟩with h'|h'
    ·exact .inl (up h')
    ·simp only at h';by_cases hy:y.1<=n/\n<y.2.1
     ·exact .inl ⟨y,by simp,hy⟩
     ·exact .inr (by omega)
theorem Qph: ∀{l:List Zc} {r:Zc},(∀x∈l,x.1<=x.2.1)->r.1<=r.2.1->Vd (Zh3 l r)<=Vd l+ (r.2.1-r.1)
 | [],r,_,_=>by simp[Zh3,Vd]
 |y::l,r,hl,hr=>by
  have hl': ∀x∈l,x.1<=x.2.1:=fun x hx=>hl x (by simp[hx]);have hy:=hl y (by simp);unfold Zh3;split
  ·have:=Qph (l:=l) (r:=r) hl' hr;simp only[Vd];omega
  ·split
   ·simp only[Vd];omega
   ·have:=Qph (l:=l) (r:=(min r.1 y.1,max r.2.1 y.2.1,())) hl' (by simp only;omega);simp only[Vd]at this⊢;omega
def ckB:Int->List Vg->Bool|_,[]=>true|e,c::l=> !(((decide (c.1<=e))|| (c.2.1==([]:List UInt8)))|| (decide (c.1>(IntKind.i64.wrap ((4611686018427387903:Int)- (c.2.1.length:Int))))))&&ckB (IntKind.i64.wrap (c.1+ (c.2.1.length:Int))) l
def Zn6(n:Int):Bool:=decide (n>=0)&&decide (n<=4611686018427387903)
theorem Wr(n:Int):Qi n=some (Zn6 n,()):=rfl
theorem Zgn{n:Int}:Zn6 n=true↔0<=n/\n<=4611686018427387903:=by unfold Zn6;simp
def Z6p(b:Z3):Bool:=ckB (IntKind.i64.wrap (b.1-1)) b.2.1&&Zn6 b.1
theorem Z8y(b:Z3): ∀(N:Nat) (pre rest:List Vg) (e:Int),b.2.1=pre++rest->b.2.1.length<=1048576->rest.length<N->Ze2 N b e (pre.length:Int)=some (ckB e rest&&Zn6 b.1,())
 |0,_,_,_,_,_,h=>by omega
 |N+1,pre,[],e,hb,hl,hN=>by
  unfold Ze2;rw[Zl (by rw[hb];simp),Wr,Obs];simp[ckB]
 |N+1,pre,c::rest,e,hb,hl,hN=>by
  have hlen:b.2.1.length=pre.length+rest.length+1:=by rw[hb];simp;omega
  simp only[List.length_cons]at hN;have hg:b.2.1.getD (pre.length:Int).toNat Yb=c:=by rw[hb];exact Vh pre c rest Yb
  unfold Ze2;rw[Zp (Zm (by omega)),Zb (by omega)];simp only[hg];have ih:=Z8y b N (pre++ [c]) rest (IntKind.i64.wrap (c.1+ (c.2.1.length:Int))) (by rw[hb];simp) hl (by omega);rw[show((pre++ [c]).length:Int)=((pre.length+1:Nat):Int) by simp]at ih;rw[Zr (m:=pre.length+1) (by omega) (by omega),ih];simp only[ckB];cases (((decide (c.1<=e))|| (c.2.1==([]:List UInt8)))|| (decide (c.1>(IntKind.i64.wrap ((4611686018427387903:Int)- (c.2.1.length:Int))))))<;>rfl
theorem Zn1(b:Z3)(hl:b.2.1.length<=1048576):Zep b=some (Z6p b,()):=by
 unfold Zep;exact Z8y b _ [] b.2.1 _ rfl hl (by unfold Zle;omega)
def rgC(c:Vg):Zc:=(c.1,c.1+ (c.2.1.length:Int),())
def Zof:List Vg->Nat| []=>0|c::l=>c.2.1.length+Zof l
theorem Qom: ∀{l:List Vg} {c:Vg},c∈l->c.2.1.length<=Zof l
 |x::l,c,h=>by
  rcases List.mem_cons.1 h with rfl|h
  ·simp[Zof]
  ·have:=Qom h;simp only[Zof];omega
structure Zo3(K:Nat)(b:Z3):Prop where
 len:b.2.1.length<=K
 tot:Zof b.2.1<=K
theorem Zo3.mono{K K':Nat}{b:Z3}(h:Zo3 K b)(hK:K<=K'):Zo3 K' b:=⟨Nat.le_trans h.len hK,Nat.le_trans h.tot hK⟩
theorem Q6n: ∀{l:List Vg} {e:Int},Zof l<=1000000-> -1<=e->ckB e l=true->rsB e (l.map rgC)=true
 | [],_,_,_,_=>rfl
 |c::l,e,ht,he,h=>by
  simp only[Zof]at ht;simp only[ckB,Oba,Bool.not_eq_true',Bool.or_eq_false_iff,decide_eq_false_iff_not,beq_eq_false_iff_ne]at h;obtain⟨⟨⟨h1,h2⟩,h3⟩,h4⟩:=h;rw[Zv (by omega) (by omega)]at h3;rw[Zv (by omega) (by omega)]at h4;have hp:0<c.2.1.length:=List.length_pos_iff.2 h2;rw[List.map_cons,Je];exact⟨Qs.2 (by simp only[rgC];omega),by simp only[rgC];omega,Q6n (by omega) (by simp only[rgC];omega) h4⟩
theorem Q2r: ∀(l:List Vg),Vd (l.map rgC)=(Zof l:Int)
 | []=>rfl
 |c::l=>by
  have:=Q2r l;simp only[List.map_cons,Vd,Zof,rgC,this];omega
theorem Z25(b:Z3)(ht:Zof b.2.1<=1000000)(hb2: ∀c∈b.2.1,-1<=c.1/\c.1<=4611686018427387903): ∀(N:Nat) (pre rest:List Vg) (out:List Zc),b.2.1=pre++rest->b.2.1.length<=1048576->rest.length<N->out.length<=pre.length->Z6p b=true->
  Kc N b out (pre.length:Int)=some (out++rest.map rgC,())
 |0,_,_,_,_,_,h,_,_=>by omega
 |N+1,pre,[],out,hb,hl,hN,ho,hB=>by
  unfold Kc;have:decide ((pre.length:Int)< (b.2.1.length:Int))=false:=by rw[hb];simp
  rw[this];simp only[Ocf,Obs,Bool.false_and,List.map_nil,List.append_nil]
 |N+1,pre,c::rest,out,hb,hl,hN,ho,hB=>by
  have hlen:b.2.1.length=pre.length+rest.length+1:=by rw[hb];simp;omega
  simp only[List.length_cons]at hN;have hg:b.2.1.getD (pre.length:Int).toNat Yb=c:=by rw[hb];exact Vh pre c rest Yb
  have g: ∀{ρ:Type} (m:Option ρ),Zi (0<=(pre.length:Int)/\(pre.length:Int)< (b.2.1.length:Int)) m=m:=fun m=>Zb (by omega);have hc:=hb2 c (by rw[hb];simp);have hcl:=Qom (l:=b.2.1) (c:=c) (by rw[hb];simp);unfold Kc;have hd:decide ((pre.length:Int)< (b.2.1.length:Int))=true:=Zm (by omega);rw[hd,Zn1 b hl,hB];simp only[Oct,Obs,Bool.and_self,g,hg];rw[Zb (by unfold Qg;simp;omega),Zr (m:=pre.length+1) (by omega) (by omega),Zv (by omega) (by omega)];have ih:=Z25 b ht hb2 N (pre++ [c]) rest (out++ [rgC c]) (by rw[hb];simp) hl (by omega) (by simp;omega) hB;rw[show((pre++ [c]).length:Int)=((pre.length+1:Nat):Int) by simp]at ih;refine Eq.trans ih ?_;simp
theorem Z9c{b:Z3}(ht:Zof b.2.1<=1000000)(h:Z6p b=true):0<=b.1/\b.1<=4611686018427387903/\rsB (b.1-1) (b.2.1.map rgC)=true:=by
 unfold Z6p at h;simp only[Oba]at h;have hq:=Zgn.1 h.2;have h1:=h.1;rw[Zv (by omega) (by omega)]at h1;exact⟨hq.1,hq.2,Q6n ht (by omega) h1⟩
theorem Qvt{K:Nat}{b:Z3}(hi:Zo3 K b)(hK:K<=1000000):Zls b=some (if Z6p b=true then b.2.1.map rgC else[],()):=by
 have hl:=hi.len;have ht:=hi.tot;unfold Zls;cases hB:Z6p b
 ·show Kc (_+1) b [] 0=_;unfold Kc;rw[Zn1 b (by omega),hB];cases decide ((0:Int)< (b.2.1.length:Int))<;>rfl
 ·obtain⟨q1,q2,q3⟩:=Z9c (by omega) hB;have:=Z25 b (by omega) (fun c hc=>by
   have h1:=Zoq q3 (rgC c) (List.mem_map_of_mem hc);have h2:=Qs.1 h1.2;simp only[rgC]at h1 h2;omega) (Zat b [] 0) [] b.2.1 [] rfl (by omega) (by unfold Zat;omega) (by simp) hB
  refine Eq.trans this ?_;simp
theorem Qko(b:Z3)(at_:Int)(h0:0<=at_)(h1:at_<=4611686018427387903)(ht:Zof b.2.1<=1000000)(hq: ∀c∈b.2.1,0<=c.1/\c.1<=4611686018427387903): ∀(N:Nat) (pre rest:List Vg),b.2.1=pre++rest->b.2.1.length<=1048576->rest.length<N->
  ∃v,Zis N at_ b (pre.length:Int)=some (v,())/\(v<0-> ¬inR at_ (rest.map rgC))/\v<=255
 |0,_,_,_,_,h=>by omega
 |N+1,pre,[],hb,hl,hN=>by
  unfold Zis;rw[Zl (by rw[hb];simp)];exact⟨-1,rfl,fun _ ⟨x,hx,_⟩=>by simp at hx,by omega⟩
 |N+1,pre,c::rest,hb,hl,hN=>by
  have hlen:b.2.1.length=pre.length+rest.length+1:=by rw[hb];simp;omega
  simp only[List.length_cons]at hN;have hg:b.2.1.getD (pre.length:Int).toNat Yb=c:=by rw[hb];exact Vh pre c rest Yb
  have g: ∀{ρ:Type} (m:Option ρ),Zi (0<=(pre.length:Int)/\(pre.length:Int)< (b.2.1.length:Int)) m=m:=fun m=>Zb (by omega);have hc:=hq c (by rw[hb];simp);have hcl:=Qom (l:=b.2.1) (c:=c) (by rw[hb];simp);unfold Zis;rw[Zp (Zm (by omega))];simp only[g,hg];rw[Zb (fun _=>by omega),Zb (fun _=>by omega),Zv (by omega) (by omega),Zm (by omega),Zm (by omega)];simp only[Ota];obtain⟨v,k1,k2,k3⟩:=Qko b at_ h0 h1 ht hq N (pre++ [c]) rest (by rw[hb];simp) hl (by omega);rw[show((pre++ [c]).length:Int)=((pre.length+1:Nat):Int) by simp]at k1;by_cases hin:at_-c.1>=0/\at_-c.1< (c.2.1.length:Int)
  ·rw[Zm hin.1,Zm hin.2,Bool.and_self,Oct,Zb ⟨hin.1,hin.2⟩];have hb8: (c.2.1.getD (at_-c.1).toNat 0).toNat<256:=(c.2.1.getD (at_-c.1).toNat 0).toNat_lt;rw[Zv (by omega) (by omega)];exact⟨_,rfl,fun h=>by omega,by omega⟩
  ·rw[Zl (by rw[Bool.and_eq_false_iff,decide_eq_false_iff_not,decide_eq_false_iff_not];omega),Zr (m:=pre.length+1) (by omega) (by omega)];refine⟨v,k1,fun hv ⟨x,hx,hh⟩=> ?_,k3⟩;rw[List.map_cons]at hx;rcases List.mem_cons.1 hx with rfl|hx
   ·simp only[rgC]at hh;omega
   ·exact k2 hv ⟨x,hx,hh⟩
theorem Xbw(b:Z3)(at_:Int)(h0:0<=at_)(h1:at_<=4611686018427387903)(ht:Zof b.2.1<=1000000)(hl:b.2.1.length<=1000000)(hq: ∀c∈b.2.1,0<=c.1/\c.1<=4611686018427387903):
  ∃v,Zwu b at_=some (v,())/\(v<0-> ¬inR at_ (b.2.1.map rgC))/\v<=255:=by
 unfold Zwu;exact Qko b at_ h0 h1 ht hq _ [] b.2.1 rfl (by omega) (by unfold Znr;omega)
theorem Q7d{b:Z3}(ht:Zof b.2.1<=1000000)(hbl:b.2.1.length<=1000000)(hq: ∀c∈b.2.1,0<=c.1/\c.1<=4611686018427387903)(K1: (Int×List UInt8×Z3×Z3×Z3×List Zc×Int×Unit)->Option (Z3×Unit))(o:Int)(ho:0<=o/\o<=4611686018427387903)(d:List UInt8)(t x:Z3)(l:List Zc)(i:Nat)(hi:i<l.length)(r:Zc)(hr:l.getD i Zw=r)
  (h0:0<=r.1) (hH:r.2.1<=4611686018427387903) (hx:x.2.1.length<=1000000)
  (hin: ∀n,r.1<=n->n<r.2.1->inR n (b.2.1.map rgC)\/(o<=n/\n<o+d.length)):
  ∀(N m:Nat) (s:List UInt8),(m:Int)<=r.2.1-r.1->m<N->(s.length:Int)+m<=r.2.1-r.1->(r.2.1-r.1)<=2000000->
   ∃t',Jr K1 N o d b t x l (i:Int) s (r.2.1-m)=K1 (o,d,b,t,(x.1,(x.2.1++ [(r.1,(t',()))],x.2.2)),l,IntKind.i64.wrap ((i:Int)+1),())/\(t'.length:Int)<=r.2.1-r.1
 |0,_,_,_,h,_,_=>by omega
 |N+1,0,s,hm,hN,hs,hb=>by
  unfold Jr;rw[Zb (by omega),show(i:Int).toNat=i from rfl,hr,Zl (Zj (by omega)),Zb (by omega)];simp only;rw[Zb (by unfold Qg;simp;omega)];exact⟨s,rfl,by omega⟩
 |N+1,m+1,s,hm,hN,hs,hb=>by
  unfold Jr;rw[Zb (by omega),show(i:Int).toNat=i from rfl,hr,Zp (Zm (by omega))];obtain⟨v,k1,k2,k3⟩:=Xbw b (r.2.1- ((m+1:Nat):Int)) (by omega) (by omega) ht hbl hq;rw[k1,Obs];have next: ∀v,∃t',Zfr K1 (fun v=>Jr K1 N v.1 v.2.1 v.2.2.1 v.2.2.2.1 v.2.2.2.2.1 v.2.2.2.2.2.1 v.2.2.2.2.2.2.1 v.2.2.2.2.2.2.2.1 v.2.2.2.2.2.2.2.2.1) o d b t x l (i:Int) s (r.2.1- ((m+1:Nat):Int)) v=K1 (o,d,b,t,(x.1,(x.2.1++ [(r.1,(t',()))],x.2.2)),l,IntKind.i64.wrap ((i:Int)+1),())/\(t'.length:Int)<=r.2.1-r.1:=by
   intro v;unfold Zfr;obtain⟨y,e1,e2⟩:=Q7j v;rw[e1,Obs,Zb (by unfold Zf9;simp only;omega),Zv (by omega) (by omega)];have e:r.2.1- ((m+1:Nat):Int)+1=r.2.1- (m:Int):=by omega
   simp only[e];exact Q7d ht hbl hq K1 o ho d t x l i hi r hr h0 hH hx hin N m (s++y) (by omega) (by omega) (by simp;omega) hb
  by_cases hv:v<0
  ·have:=(hin (r.2.1- ((m+1:Nat):Int)) (by omega) (by omega)).resolve_left (k2 hv);rw[Zp (Zm hv),Zb (by rw[Zv (by omega) (by omega)];omega)];exact next _
  ·rw[Zl (Zj hv)];exact next _
theorem Qzz: ∀(a b:List Vg),Zof (a++b)=Zof a+Zof b
 | [],b=>by simp[Zof]
 |c::a,b=>by simp only[List.cons_append,Zof,Qzz a b];omega
theorem Q4q: ∀{l:List Zc} {i:Nat},i<l.length->Vd (l.drop i)=((l.getD i Zw).2.1- (l.getD i Zw).1)+Vd (l.drop (i+1)):=by
 intro l i h;rw[Xj (d:=Zw) h];rfl
theorem Q7c{b:Z3}(ht:Zof b.2.1<=1000000)(hbl:b.2.1.length<=1000000)(hq: ∀c∈b.2.1,0<=c.1/\c.1<=4611686018427387903)(o:Int)(ho:0<=o/\o<=4611686018427387903)(d:List UInt8)(t:Z3)(l:List Zc)
  (hl:l.length<=1000000) (hf: ∀r∈l,Zdf r=true) (hc:Vd l<=2000000)
  (hin: ∀n,inR n l->inR n (b.2.1.map rgC)\/(o<=n/\n<o+d.length)) (M:Int) (hM:M<=4000000):
  ∀(N i:Nat) (x:Z3),l.length-i<N->i<=l.length->x.2.1.length<=i->(Zof x.2.1:Int)+Vd (l.drop i)<=M->
   ∃y,Zbq N o d b t x l (i:Int)=some (y,())/\y.1=x.1/\y.2.1.length<=l.length/\(Zof y.2.1:Int)<=M
 |0,_,_,h,_,_,_=>by omega
 |N+1,i,x,hN,hi,hx,hm=>by
  unfold Zbq;by_cases h:i<l.length
  ·have hmem:=Z2 (d:=Zw) h;have hfi:=Qs.1 (hf _ hmem);have hd:=Q4q h;have hnn: ∀{l:List Zc},(∀r∈l,Zdf r=true)->0<=Vd l:=by
    intro l
    induction l with
    |nil=>intro _;simp[Vd]
    |cons r l ih=>
     intro hh;have:=Qs.1 (hh r (by simp));have:=ih fun r hr=>hh r (by simp[hr]);simp only[Vd];omega
   have h1:=hnn (l:=l.drop (i+1)) fun r hr=>hf r (List.mem_of_mem_drop hr);have hsub: (l.getD i Zw).2.1- (l.getD i Zw).1<=2000000:=by
    have htk: ∀(l:List Zc),(∀r∈l,Zdf r=true)-> ∀r∈l,r.2.1-r.1<=Vd l:=by
     intro l
     induction l with
     |nil=>intro _ r hr;cases hr
     |cons q l ih=>
      intro hh r hr;have hq:=Qs.1 (hh q (by simp));have hl:=hnn (l:=l) fun r hr=>hh r (by simp[hr]);simp only[Vd];rcases List.mem_cons.1 hr with rfl|hr
      ·omega
      ·have:=ih (fun r hr=>hh r (by simp[hr])) r hr;omega
    have:=htk l hf _ hmem;omega
   rw[Zp (Zm (by omega)),Zb (by omega),show(i:Int).toNat=i from rfl];generalize hr:l.getD i Zw=r at*
   obtain⟨m,hmm⟩:=Int.eq_ofNat_of_zero_le (a:=r.2.1-r.1) (by omega);obtain⟨t',k1,k2⟩:=Q7d ht hbl hq (fun v=>Zbq N v.1 v.2.1 v.2.2.1 v.2.2.2.1 v.2.2.2.2.1 v.2.2.2.2.2.1 v.2.2.2.2.2.2.1) o ho d t x l i h r hr hfi.1 hfi.2.2 (by omega)
    (fun n hn1 hn2=>hin n ⟨r,hmem,hn1,hn2⟩) (Zdm o d b t x l (i:Int) [] r.1) m [] (by omega) (by unfold Zdm;rw[show(i:Int).toNat=i from rfl,hr];omega) (by simp;omega) hsub
   rw[show r.2.1- (m:Int)=r.1 by omega]at k1;rw[k1,Zr h (by omega)];obtain⟨y,q1,q2,q3,q4⟩:=Q7c ht hbl hq o ho d t l hl hf hc hin M hM N (i+1) (x.1,(x.2.1++ [(r.1,(t',()))],x.2.2)) (by omega) (by omega) (by simp;omega) (by
    simp only[Qzz,Zof];omega)
   exact⟨y,q1,q2,q3,q4⟩
  ·rw[Zl (Zj (by omega))];have:i=l.length:=by omega
   subst this;rw[List.drop_length]at hm;exact⟨x,rfl,rfl,hx,by simp[Vd]at hm;omega⟩
theorem Qrg{K:Nat}{b:Z3}(h:Zo3 K b)(hK:K<=1000000):Zjc b=some (b,()):=by
 have:=h.len;unfold Zjc;rw[Zb (by unfold Qg;simp;omega)];simp
theorem Q06{K:Nat}{b:Z3}(h:Zo3 K b)(o:Int)(d:List UInt8)(hK:K+d.length+1<=1000000): ∃y,Zot b o d=some (y,())/\Zo3 (K+d.length+1) y:=by
 have hl:=h.len;have ht:=h.tot;unfold Zot;rw[Zn1 b (by omega),Obs];generalize hc: ((((!Z6p b)|| (d==([]:List UInt8)))|| (decide (o< (0:Int))))|| (decide (o>(IntKind.i64.wrap ((4611686018427387903:Int)- (d.length:Int))))))=c;cases c
 ·simp only[Bool.or_eq_false_iff,Bool.not_eq_false',decide_eq_false_iff_not]at hc;obtain⟨⟨⟨c1,c2⟩,c3⟩,c4⟩:=hc;rw[Zv (by omega) (by omega)]at c4;obtain⟨q1,q2,q3⟩:=Z9c (by omega) c1;simp only[Ocf];rw[Zv (by omega) (by omega)];by_cases hm:max o b.1>=o+ (d.length:Int)
  ·rw[Zp (Zm hm),Qrg h (by omega)];exact⟨b,rfl,h.mono (by omega)⟩
  ·rw[Zl (Zj hm),Qvt h (by omega),Obs,c1];simp only[if_true];have hml: (b.2.1.map rgC).length<=1048576:=by rw[List.length_map];omega
   rw[Znu _ _ hml,Obs];have hrs:rsB (-1) (b.2.1.map rgC)=true:=Qsf q3 (by omega);have hfr:Zdf (max o b.1,(o+ (d.length:Int),()))=true:=Qs.2 (by simp only;omega);simp only[hrs,hfr,and_self,if_true];have hcl:=Qov (l:=b.2.1.map rgC) (r:=((max o b.1,(o+ (d.length:Int),())):Zc));rw[List.length_map]at hcl;have hcc:=Qph (l:=b.2.1.map rgC) (r:=((max o b.1,(o+ (d.length:Int),())):Zc)) (fun x hx=>by
    have:=Qs.1 (Zoq hrs x hx).2;omega) (by simp only;omega)
   rw[Q2r]at hcc;simp only at hcc;have hars:=Qnz hrs hfr (by simp only;omega);have hch: ∀c∈b.2.1,0<=c.1/\c.1<=4611686018427387903:=fun c hc=>by
    have h1:=Zoq q3 (rgC c) (List.mem_map_of_mem hc);have h2:=Qs.1 h1.2;simp only[rgC]at h1 h2;omega
   obtain⟨y,k1,k2,k3,k4⟩:=Q7c (b:=b) (by omega) (by omega) hch o (by omega) d Q4h _ (by omega) (fun r hr=>(Zoq hars r hr).2) (by omega) (fun n hn=>(Qew hn).imp id fun hh=>by first| (simp only at hh;omega)|omega) (K+d.length) (by omega)
    (Zdl o d b Q4h (b.1,([],())) (Zh3 (b.2.1.map rgC) (max o b.1,(o+ (d.length:Int),()))) 0) 0 (b.1,([],())) (by unfold Zdl;omega) (by omega) (by simp) (by simp only[Zof,List.drop_zero];omega)
   exact⟨y,k1,⟨by omega,by omega⟩⟩
 ·rw[Oct,Qrg h (by omega)];exact⟨b,rfl,h.mono (by omega)⟩
def Z4z(b:Z3):Int:=if Z6p b=true/\b.2.1≠[]/\(b.2.1.getD 0 Yb).1=b.1 then((b.2.1.getD 0 Yb).2.1.length:Int)else 0
theorem Zvl(b:Z3)(hl:b.2.1.length<=1048576):Zal b=some (Z4z b,()):=by
 unfold Zal Z4z;rw[Zn1 b hl,Obs];obtain⟨b1,l,_⟩:=b;cases hB:Z6p (b1,l,())
 ·simp[Zi]
 ·cases l with
  |nil=>simp[Zi]
  |cons c l=>
   simp only[Ont,Bool.false_or];have e: (((c::l).length:Int)==0)=false:=by rw[beq_eq_false_iff_ne,List.length_cons];omega
   rw[e,Zb (fun _=>by simp only[List.length_cons];omega)];simp only[Bool.false_or,show(0:Int).toNat=0 from rfl,List.getD_cons_zero,ne_eq,reduceCtorEq,not_false_eq_true,true_and];by_cases h:c.1=b1
   ·rw[Zl (by simp[h]),Zb (by simp only[List.length_cons];omega),if_pos h]
   ·rw[Zp (by simp[h]),if_neg h]
theorem Q5l{K:Nat}{b:Z3}(h:Zo3 K b):0<=Z4z b/\Z4z b<=(K:Int)/\(Z4z b≠0->Z6p b=true/\ ∃c l,b.2.1=c::l/\Z4z b=(c.2.1.length:Int)):=by
 unfold Z4z;split
 ·rename_i hh;obtain⟨b1,l,_⟩:=b;cases l with
  |nil=>exact absurd rfl hh.2.1
  |cons c l=>
   have:=h.tot;simp only[Zof]at this;simp only[List.getD_cons_zero];exact⟨by omega,by omega,fun _=>⟨hh.1,c,l,rfl,rfl⟩⟩
 ·exact⟨by omega,by omega,fun h=>absurd rfl h⟩
theorem Q5x{K:Nat}{b:Z3}(h:Zo3 K b)(hK:K<=1000000)(m:Int): ∃s y,Zqy b m=some (s,y,())/\Zo3 K y/\s.length<=K:=by
 have hl:=h.len;have ht:=h.tot;obtain⟨r1,r2,r3⟩:=Q5l h;unfold Zqy;rw[Zvl b (by omega),Qrg h hK];simp only[Obs];generalize hn:min (Z4z b) (max m 0)=n;by_cases h0:n=0
 ·subst h0;exact⟨[],b,rfl,h,by simp⟩
 ·rw[Zl (by simp[h0])];obtain⟨hB,c,l,hb,hr⟩:=r3 (by omega);obtain⟨b1,b2,b3⟩:=Z9c (by omega) hB;rw[Zv (by omega) (by omega)];obtain⟨z,bl,_⟩:=b;simp only at hb hl ht b1 b2;subst hb;simp only[List.length_cons]at hl;simp only[Zof]at ht;simp only[show(0:Int).toNat=0 from rfl,List.getD_cons_zero,List.length_cons];rw[Zb (by omega)];by_cases he:n=(c.2.1.length:Int)
  ·rw[Zp (by simp[he]),Zb (by omega)];simp only[show(1:Int).toNat=1 from rfl,List.drop_succ_cons,List.drop_zero];have hi:Zo3 K ((z+n,((l.take (((l.length+1:Nat):Int).toNat-1)),())):Z3):=by
    rw[show((l.length+1:Nat):Int).toNat-1=l.length by omega,List.take_length];exact⟨by show l.length<=K;omega,by show Zof l<=K;omega⟩
   rw[Qrg hi hK];exact⟨_,_,rfl,hi,by omega⟩
  ·rw[Zl (by simp[he]),Zb (by omega),Zb (by omega),Zb (by omega)];refine⟨_,_,rfl,⟨?_,?_⟩,?_⟩
   ·simp;omega
   ·simp only[List.set_cons_zero,Zof,List.length_take,List.length_drop];omega
   ·simp only[List.length_take,List.length_drop];omega
theorem Q6z{K:Nat}{b:Z3}(h:Zo3 K b)(hK:K<=1000000): ∃v,Zrp b=some (v,()):=by
 have hl:=h.len;unfold Zrp;rw[Zn1 b (by omega)];by_cases h0:b.2.1=[]
 ·rw[h0];exact⟨_,rfl⟩
 ·have:0<b.2.1.length:=List.length_pos_iff.2 h0;have e: ((b.2.1.length:Int)==(0:Int))=false:=by rw[beq_eq_false_iff_ne];omega
  rw[e];simp only[Ocf,Obs,Bool.false_or];cases Z6p b
  ·exact⟨_,rfl⟩
  ·simp only[Ont,Ocf];rw[Zv (by omega) (by omega),Zb (by omega)];exact⟨_,rfl⟩
theorem Yv{α:Type}(c:Bool)(a b:α): (bif c then some a else some b)=some (bif c then a else b):=by cases c<;>rfl
theorem Qvo{α β:Type}{P:α->β->Prop}{c:Bool}{m n:α}(h1: ∃b,P m b)(h2: ∃b,P n b): ∃b,P (bif c then m else n) b:=by cases c<;>assumption
theorem Zmd{K:Nat}{r:Qe}(h:Zo3 K r.2.1)(hK:K<=1000000): ∃b,X4 r=some (b,()):=by
 have hl:=h.len;obtain⟨v,k⟩:=Q6z h hK;have j: ∀q,∃b,Yt r q=some (b,()):=fun q=>by unfold Yt;cases q<;>exact⟨_,rfl⟩
 unfold X4;rw[Zn1 _ (by omega),Zvl _ (by omega),k];simp only[Obs,Wr,Yv]
 repeat' refine Qvo (P:=fun m b=>m=some (b,())) ?_ ?_
 all_goals first|exact j _|exact⟨_,rfl⟩
theorem Qy2: ∃r,Zrq=some (r,())/\Zo3 0 r.2.1:=⟨_,rfl,⟨by simp,by simp[Zof]⟩⟩
theorem Qwi{K:Nat}{r:Qe}(h:Zo3 K r.2.1)(hK:K<=1000000):Zmx r=some (r,()):=by
 unfold Zmx;rw[Qrg h hK];rfl
theorem Q3j(r:Qe)(e:Int)(f:Bool): ∃v,Zq4 r e f=some (v,()):=by
 unfold Zq4;rw[Yv];exact⟨(bif _ then((6:Int),())else(0,())).1,rfl⟩
theorem Qzh{K:Nat}{r:Qe}(h:Zo3 K r.2.1)(o:Int)(d:List UInt8)(f:Bool)(hK:K+d.length+1<=1000000):
  ∃y v,Znd r o d f=some (y,v,())/\Zo3 (K+d.length+1) y.2.1:=by
 have j: ∀z t x,∃y v,Zd9 o d r z ((t,(r.2.1,x)):Qe)=some (y,v,())/\Zo3 (K+d.length+1) y.2.1:=by
  intro z t x;unfold Zd9 Zhy;obtain⟨b,k1,k2⟩:=Q06 h o d hK;have hbl:b.2.1.length<=1048576:=by have:=k2.len;omega
  simp only[k1,Obs,Zvl b hbl,Yv];generalize ((((t,(r.2.1,x)):Qe).2.2.1 !=(-1:Int))&&_)=c;cases c
  ·exact⟨_,_,rfl,k2⟩
  ·exact⟨_,_,rfl,k2⟩
 unfold Znd;obtain⟨q,e2⟩:=Zmd h (by omega);rw[Qwi h (by omega),e2];simp only[Obs];generalize hc: (((!q)|| (decide (o< (0:Int))))|| (decide (o>(IntKind.i64.wrap ((4611686018427387903:Int)- (d.length:Int))))))=c;cases c
 ·obtain⟨v,e3⟩:=Q3j r (IntKind.i64.wrap (o+ (d.length:Int))) f;rw[Ocf,e3,Obs];generalize ((v !=(0:Int))|| (decide (r.1>(1:Int))))=c;cases c
  ·cases f
   ·exact j _ _ _
   ·exact j _ _ _
  ·exact⟨_,_,rfl,h.mono (by omega)⟩
 ·exact⟨_,_,rfl,h.mono (by omega)⟩
theorem Qxc{K:Nat}{r:Qe}(h:Zo3 K r.2.1)(hK:K<=1000000)(c f:Int):
  ∃y v,Zlw r c f=some (y,v,())/\Zo3 K y.2.1:=by
 unfold Zlw;obtain⟨q,e2⟩:=Zmd h hK;obtain⟨v,e3⟩:=Q3j r f true;rw[Qwi h hK,e2,e3];simp only[Obs,Wr,Yv];generalize ((_||_)||_:Bool)=x;cases x
 ·generalize ((_||_):Bool)=x;cases x
  ·exact⟨_,_,rfl,⟨by simp,by simp[Zof]⟩⟩
  ·exact⟨_,_,rfl,h⟩
 ·exact⟨_,_,rfl,h⟩
theorem Qxa{K:Nat}{r:Qe}(h:Zo3 K r.2.1)(hK:K<=1000000)(m:Int):
  ∃s y,Zlv r m=some ((s,y,()),())/\Zo3 K y.2.1/\s.length<=K:=by
 unfold Zlv;obtain⟨q,e2⟩:=Zmd h hK;obtain⟨s,b,e3,k3,k4⟩:=Q5x h hK m;rw[Qwi h hK,e2,e3];simp only[Obs];cases q
 ·exact⟨_,_,rfl,h,by simp⟩
 ·simp only[Ont,Ocf];cases r.1==(4:Int)
  ·rw[Ocf];unfold Zhb;generalize ((_&&_):Bool)=x;cases x
   ·exact⟨_,_,rfl,k3,k4⟩
   ·exact⟨_,_,rfl,k3,k4⟩
  ·exact⟨_,_,rfl,h,by simp⟩
theorem Zwa(n a b:Int):Z4 n a b=some (decide (n>=a)&&decide (n<=b),()):=rfl
theorem Q70(n:Int): ∃b,Zel n=some (b,()):=⟨_,rfl⟩
theorem Zz9(c:Zq7): ∃b,V8 c=some (b,()):=by
 obtain⟨b,h⟩:=Q70 c.1;unfold V8;simp only[h,Zwa,Yv,Obs];exact⟨_,rfl⟩
theorem Z37(c:X7): ∃b,Yd c=some (b,()):=by
 unfold Yd;simp only[Wr,Zwa,Yv,Obs];exact⟨_,rfl⟩
theorem Zyi(w:Qt): ∃b,Vl w=some (b,()):=by
 unfold Vl;simp only[Zwa,Yv,Obs];exact⟨_,rfl⟩
theorem Qar(p:Q9): ∃b,Vo p=some (b,()):=by
 unfold Vo;simp only[Zwa,Obs];exact⟨_,rfl⟩
theorem Q46(n:Int): ∃c b,Zcr n=some (c,b,()):=by
 unfold Zcr;simp only[Wr,Obs,Yv];exact⟨_,_,rfl⟩
theorem Qut(n m:Int): ∃c b,Zct n m=some (c,b,()):=by
 unfold Zct;simp only[Zwa,Obs,Yv];exact⟨_,_,rfl⟩
theorem Q2o(s:Bool)(n:Int): ∃b,Zfm s n=some (b,()):=by
 unfold Zfm Zca Zjq Zkc;simp only[Wr,Obs,Yv];exact⟨_,rfl⟩
theorem Qpa(s:Bool)(n:Int): ∃b,Vb s n=some (b,()):=by
 unfold Vb Zca Zjq Zkc;simp only[Wr,Obs,Yv];exact⟨_,rfl⟩
structure Vy(K:Nat)(s:Zh):Prop where
 snd:Kk K s.2.1
 rcv:Zo3 K s.2.2.2.1.2.1
theorem Vy.mono{K K':Nat}{s:Zh}(h:Vy K s)(hK:K<=K'):Vy K' s:=⟨h.snd.mono (by omega),h.rcv.mono hK⟩
theorem Z38{K:Nat}{s:Zh}(h:Vy K s)(hK:K<=1000000): ∃b,Zb9 s=some (b,()):=by
 obtain⟨b1,e1,-⟩:=Zkt h.snd (by omega);obtain⟨b2,e2⟩:=Z37 s.2.2.1;obtain⟨b3,e3⟩:=Zmd h.rcv hK;obtain⟨b4,e4⟩:=Zyi s.2.2.2.2.1;obtain⟨b5,e5⟩:=Qar s.2.2.2.2.2.1;unfold Zb9;simp only[e1,e2,e3,e4,e5,Wr,Yv,Obs];exact⟨_,rfl⟩
theorem Zt5{K:Nat}{s:Zh}(h:Vy K s)(hK:K<=1000000):Zej s=some (s,()):=by
 unfold Zej;rw[Zme h.snd (by omega),Qwi h.rcv hK];rfl
theorem Q62(l:List Zh)(n:Int)(hl:l.length<=1000000): ∀(N i:Nat),l.length-i<N->i<=l.length-> ∃v,Vt N l n (i:Int)=some (v,())/\(v<0\/v<l.length)/\(v<0-> ∀s∈l.drop i,s.1≠n)/\(0<=v->(l.getD v.toNat Zn).1=n)
 |0,_,h,_=>by omega
 |N+1,i,hN,hi=>by
  unfold Vt;by_cases h:i<l.length
  ·rw[Zp (Zm (by omega)),Zb (by omega),show(i:Int).toNat=i from rfl];by_cases e: (l.getD i Zn).1=n
   ·rw[Zp (beq_iff_eq.2 e)];exact⟨_,rfl,by omega,fun h=>by omega,fun _=>e⟩
   ·rw[Zl (beq_eq_false_iff_ne.2 e),Zr h (by omega)];obtain⟨v,k1,k2,k3,k4⟩:=Q62 l n hl N (i+1) (by omega) (by omega);refine⟨v,k1,k2,fun hv s hs=> ?_,k4⟩;rw[Xj (d:=Zn) h]at hs;rcases List.mem_cons.1 hs with rfl|hs
    ·exact e
    ·exact k3 hv s hs
  ·rw[Zl (Zj (by omega))];refine⟨_,rfl,by omega,fun _ s hs=> ?_,fun h=>by omega⟩;rw[List.drop_eq_nil_of_le (by omega)]at hs;cases hs
theorem Qad(l:List Zh)(n:Int)(hl:l.length<=1000000): ∃v,Ko l n=some (v,())/\(v<0\/v<l.length)/\(v<0-> ∀s∈l,s.1≠n)/\(0<=v->(l.getD v.toNat Zn).1=n):=by
 unfold Ko;exact Q62 l n hl _ 0 (by unfold V7;omega) (by omega)
structure Zmy(K:Nat)(l:List Zh):Prop where
 len:l.length<=K
 all: ∀s∈l,Vy K s
theorem Zmy.mono{K K':Nat}{l:List Zh}(h:Zmy K l)(hK:K<=K'):Zmy K' l:=⟨Nat.le_trans h.len hK,fun s hs=>(h.all s hs).mono hK⟩
theorem Xbc{K:Nat}{l:List Zh}{s:Zh}(h:Zmy K l)(hs:Vy K s)(hK:K<=500000)(a:Int): ∀(N i:Nat) (out:List Zh) (p:Bool),l.length-i<N->i<=l.length->(∀x∈out,Vy K x)->out.length<=i+ (if p then 1 else 0)->
  ∃y,Xm N l s out a p (i:Int)=some (y,())/\y.length<=l.length+1/\ ∀x∈y,Vy K x
 |0,_,_,_,h,_,_,_=>by omega
 |N+1,i,out,p,hN,hi,ho,hl=>by
  have hlen:=h.len;have ho':out.length<=i+1:=by split at hl<;>omega
  have app: ∀{o:List Zh} {x},(∀x∈o,Vy K x)->Vy K x-> ∀z∈o++ [x],Vy K z:=fun ho hx z hz=>by
   rcases List.mem_append.1 hz with hz|hz
   ·exact ho z hz
   ·rw[List.mem_singleton.1 hz];exact hx
  unfold Xm;by_cases hh:i<l.length
  ·have hm:=h.all _ (Z2 (d:=Zn) hh);rw[Zp (Zm (by omega)),Zb (by omega),show(i:Int).toNat=i from rfl,Zt5 hm (by omega),Zt5 hs (by omega)];simp only[Obs];have j: ∀(o:List Zh) (q:Bool) x,(∀x∈o,Vy K x)->Vy K x->o.length<=i+ (if q then 1 else 0)->
     ∃y,Y6 (fun v=>Xm N v.1 v.2.1 v.2.2.1 v.2.2.2.1 v.2.2.2.2.1 v.2.2.2.2.2.1) l s o a q (i:Int) x=some (y,())/\y.length<=l.length+1/\ ∀x∈y,Vy K x:=by
    intro o q x h1 h2 h3;have h3':o.length<=i+1:=by split at h3<;>omega
    unfold Y6;rw[Zb (by unfold Qg;simp only[List.length_singleton];omega),Zr hh (by omega)];exact Xbc h hs hK a N (i+1) (o++ [x]) q (by omega) (by omega) (app h1 h2) (by simp only[List.length_append,List.length_singleton];omega)
   cases (i:Int)==a
   ·rw[Ocf,Zb (fun _=>by omega)];cases p
    ·simp only[Bool.not_false,Ota];cases decide ((l.getD i Zn).1>s.1)
     ·exact j _ _ _ ho hm hl
     ·rw[Oct,Zb (by unfold Qg;simp only[List.length_singleton];omega)];exact j _ _ _ (app ho hs) hm (by simp at hl⊢;omega)
    ·exact j _ _ _ ho hm hl
   ·exact j _ _ _ ho hs hl
  ·rw[Zl (Zj (by omega)),Zt5 hs (by omega)];cases p
   ·simp only[Bool.not_false,Oct,Obs];rw[Zb (by unfold Qg;simp only[List.length_singleton];omega)];exact⟨_,rfl,by simp at hl⊢;omega,app ho hs⟩
   ·exact⟨_,rfl,by simp at hl;omega,ho⟩
theorem Qjl{K:Nat}{l:List Zh}{s:Zh}(h:Zmy K l)(hs:Vy K s)(hK:K<=500000): ∃y,Qv l s=some (y,())/\y.length<=l.length+1/\ ∀x∈y,Vy K x:=by
 unfold Qv;obtain⟨v,e,-⟩:=Qad l s.1 (by have:=h.len;omega);rw[e,Obs];exact Xbc h hs hK _ _ 0 [] _ (by unfold W3;omega) (by omega) (by simp) (by simp)
theorem Q8s:Vy 0 (((0:Int),(((0:Int),(((0:Int),((0:Int),((0:Int),(([]:List Int),())))),(([]:List Zc),(([]:List Zc),(([]:List Zc),((0:Int),((0:Int),((0:Int),((0:Int),()))))))))),(((0:Int),((0:Int),((0:Int),((0:Int),())))),(((0:Int),(((0:Int),(([]:List Vg),())),((0:Int),((0:Int),((0:Int),()))))),(((0:Int),((0:Int),((0:Int),((0:Int),((0:Int),((0:Int),())))))),(((0:Int),(false,())),(false,(false,(false,(false,(false,(false,((0:Int),(false,())))))))))))))):Zh):=
 ⟨{cells:=(by simp),e0:=Int.le_refl _,eK:=Int.le_refl _,pend:=Zs7 _,flight:=Zs7 _,acked:=Zs7 _},⟨by simp,by simp[Zof]⟩⟩
theorem Q9r(n:Int): ∃v,Zjp n=some (v,()):=by
 unfold Zjp;rw[Wr,Obs,Zb (by omega),Yv];exact⟨_,rfl⟩
theorem Qem(c:X7): ∃b,J4 c=some (b,()):=by
 unfold J4;simp only[Zwa,Yv,Obs];exact⟨_,rfl⟩
theorem Z6c(c:Ze8): ∃b,Zb7 c=some (b,()):=by
 unfold Zb7;simp only[Zwa,Yv,Obs];exact⟨_,rfl⟩
theorem Xas{K:Nat}{l:List Zh}(h:Zmy K l)(hK:K<=1000000): ∀(N i:Nat),l.length-i<N->i<=l.length-> ∃b,X6 N l (i:Int)=some (b,())
 |0,_,h,_=>by omega
 |N+1,i,hN,hi=>by
  have hlen:=h.len;unfold X6;by_cases hh:i<l.length
  ·obtain⟨b,e⟩:=Z38 (h.all _ (Z2 (d:=Zn) hh)) hK;rw[Zp (Zm (by omega)),Zb (by omega),show(i:Int).toNat=i from rfl,e,Obs,Zb (fun _ _=>by omega),
    Zb (fun _ h=>by have:=Ode h;rw[Zv (by omega) (by omega)];omega),Zr hh (by omega)]
   exact Qvo (P:=fun m b=>m=some (b,())) ⟨_,rfl⟩ (Xas h hK N (i+1) (by omega) (by omega))
  ·rw[Zl (Zj (by omega))];exact⟨_,rfl⟩
theorem Zuq{K:Nat}{l:List Zh}(h:Zmy K l)(hK:K<=1000000): ∃b,Y2 l=some (b,()):=by
 unfold Y2;exact Xas h hK _ 0 (by unfold V5;omega) (by omega)
theorem Qvc{K:Nat}{l:List Zh}(h:Zmy K l)(hK:K<=1000000): ∃v,Zcv l=some (v,()):=by
 obtain⟨b,e⟩:=Zuq h hK;have hlen:=h.len;have lp: ∀(N i:Nat) (n:Int),l.length-i<N->i<=l.length-> ∃v,Y8 N l n (i:Int)=some (v,()):=by
  intro N
  induction N with
  |zero=>intro i n h;omega
  |succ N ih=>
   intro i n hN hi;unfold Y8;rw[e,Yv,Obs];by_cases hh:i<l.length
   ·rw[Zb (by omega),Zr hh (by omega)];exact Qvo (P:=fun m b=>m=some (b,())) (ih (i+1) _ (by omega) (by omega)) ⟨_,rfl⟩
   ·rw[Zj (by omega)];exact⟨_,rfl⟩
 unfold Zcv;exact lp _ 0 0 (by unfold Yo;omega) (by omega)
theorem Qvb{K:Nat}{l:List Zh}(h:Zmy K l)(hK:K<=1000000): ∃v,Zcu l=some (v,()):=by
 obtain⟨b,e⟩:=Zuq h hK;have hlen:=h.len;have lp: ∀(N i:Nat) (n:Int),l.length-i<N->i<=l.length-> ∃v,Y7 N l n (i:Int)=some (v,()):=by
  intro N
  induction N with
  |zero=>intro i n h;omega
  |succ N ih=>
   intro i n hN hi;unfold Y7;rw[e,Yv,Obs];by_cases hh:i<l.length
   ·rw[Zb (by omega),Zr hh (by omega)];exact Qvo (P:=fun m b=>m=some (b,())) (ih (i+1) _ (by omega) (by omega)) ⟨_,rfl⟩
   ·rw[Zj (by omega)];exact⟨_,rfl⟩
 unfold Zcu;exact lp _ 0 0 (by unfold Yn;omega) (by omega)
def T{α:Type}(m:Option α)(Q:α->Prop):Prop:= ∃y,m=some y/\Q y
abbrev TT{α:Type}(m:Option α):Prop:=T m fun _=>True
section
variable {α β:Type} {m n:Option α} {f:α->Option β} {Q:α->Prop} {R:β->Prop}
theorem T.bind(h:T m Q)(k: ∀y,Q y->T (f y) R):T (Option.bind m f) R:=by
 obtain⟨y,e,hy⟩:=h;rw[e];exact k y hy
theorem T.pure{y:α}(h:Q y):T (some y) Q:=⟨y,rfl,h⟩
theorem T.tt{y:α}:TT (some y):=⟨y,rfl,trivial⟩
theorem T.ite{c:Bool}(h1:c=true->T m Q)(h2:c=false->T n Q):T (bif c then m else n) Q:=by
 cases c
 ·exact h2 rfl
 ·exact h1 rfl
theorem T.if{c:Bool}(h1:T m Q)(h2:T n Q):T (bif c then m else n) Q:=T.ite (fun _=>h1) fun _=>h2
theorem T.guard{p:Prop}(hp:p)(h:T m Q):T (Zi p m) Q:=by rw[Zb hp];exact h
theorem T.mono{Q':α->Prop}(h:T m Q)(k: ∀y,Q y->Q' y):T m Q':=by
 obtain⟨y,e,hy⟩:=h;exact⟨y,e,k y hy⟩
theorem T.of{y:α}(e:m=some y)(h:Q y):T m Q:=⟨y,e,h⟩
end
theorem tt1{α:Type}{m:Option (α×Unit)}(h: ∃b,m=some (b,())):TT m:=by obtain⟨b,e⟩:=h;exact⟨_,e,trivial⟩
def FOK(f:Zf):Prop:=f.2.2.2.1.length<=1000
def Qot(l:List Zf):Prop:=l.length<=1000/\ ∀f∈l,FOK f
def Qou(K:Nat)(l:List Z8):Prop:=l.length<=K/\ ∀p∈l,Qot p.2.1
theorem Qou.mono{K K':Nat}{l:List Z8}(h:Qou K l)(hK:K<=K'):Qou K' l:=⟨Nat.le_trans h.1 hK,h.2⟩
structure Xx(K:Nat)(c:Ze):Prop where
 str:Zmy K c.2.2.2.1
 pk:Qou K c.2.2.2.2.2.2.2.2.2.2.2.2.2.2.2.1
theorem Xx.mono{K K':Nat}{c:Ze}(h:Xx K c)(hK:K<=K'):Xx K' c:=⟨h.str.mono hK,h.pk.mono hK⟩
theorem Quw{K:Nat}{l:List Z8}(h:Qou K l)(hK:K<=1000000): ∀(N i:Nat),l.length-i<N->i<=l.length->Zf0 N l (l.take i) (i:Int)=some (l,())
 |0,_,h,_=>by omega
 |N+1,i,hN,hi=>by
  have hl:=h.1;unfold Zf0;by_cases hh:i<l.length
  ·have hm:=(h.2 _ (Z2 (d:=Qj) hh)).1;rw[Zp (Zm (by omega)),Zb (by omega),Zb (by omega),show(i:Int).toNat=i from rfl,Zb (by unfold Qg;simp only[List.length_nil];omega)];simp only[List.nil_append];rw[Zb (by unfold Qg;simp only[List.length_take,List.length_singleton];omega),Zr hh (by omega)];have e:l.take i++ [((l.getD i Qj).1,((l.getD i Qj).2.1,()))]=l.take (i+1):=by
    rw[List.take_succ_eq_append_getElem hh,List.getD_eq_getElem?_getD,List.getElem?_eq_getElem hh];rfl
   rw[e];exact Quw h hK N (i+1) (by omega) (by omega)
  ·rw[Zl (Zj (by omega)),List.take_of_length_le (by omega)]
theorem Q07{K:Nat}{l:List Z8}(h:Qou K l)(hK:K<=1000000):Zo1 l=some (l,()):=by
 unfold Zo1;exact Quw h hK _ 0 (by unfold Zi2;omega) (by omega)
theorem Quo{K:Nat}{c:Ze}(h:Xx K c)(hK:K<=1000000)(t:Ze): ∀(N i:Nat),c.2.2.2.1.length-i<N->i<=c.2.2.2.1.length->
  Zkh N c t (c.1,(c.2.1,(c.2.2.1,(c.2.2.2.1.take i,c.2.2.2.2)))) (i:Int)=some (c,())
 |0,_,h,_=>by omega
 |N+1,i,hN,hi=>by
  have hl:=h.str.len;unfold Zkh;by_cases hh:i<c.2.2.2.1.length
  ·rw[Zp (Zm (by omega)),Zb (by omega),show(i:Int).toNat=i from rfl,Zt5 (h.str.all _ (Z2 (d:=Zn) hh)) hK,Obs,
    Zb (by unfold Qg;simp only[List.length_take,List.length_singleton];omega),Zr hh (by omega)]
   have e:c.2.2.2.1.take i++ [c.2.2.2.1.getD i Zn]=c.2.2.2.1.take (i+1):=by
    rw[List.take_succ_eq_append_getElem hh,List.getD_eq_getElem?_getD,List.getElem?_eq_getElem hh];rfl
   simp only[e];exact Quo h hK t N (i+1) (by omega) (by omega)
  ·rw[Zl (Zj (by omega)),List.take_of_length_le (by omega),Q07 h.pk hK];rfl
theorem Zb4{K:Nat}{c:Ze}(h:Xx K c)(hK:K<=1000000):Z6 c=some (c,()):=by
 unfold Z6;exact Quo h hK _ _ 0 (by unfold Zmr;omega) (by omega)
theorem Z6d{f:Zf}(h:FOK f):TT (Zb8 f):=⟨_,Zua f (by unfold FOK at h;omega),trivial⟩
theorem Q43{l:List Zf}(h:Qot l):TT (Zcw l):=by
 have lp: ∀(N i:Nat),l.length-i<N->i<=l.length->TT (Jf N l (i:Int)):=by
  intro N
  induction N with
  |zero=>intro i h;omega
  |succ N ih=>
   intro i hN hi;have hl:=h.1;unfold Jf;refine T.ite (fun hc=> ?_) fun _=>T.tt;have hc:=Ode hc;refine T.guard (by omega) ((Z6d (h.2 _ (Z2 (by omega)))).bind fun t _=>T.if T.tt ?_);rw[Zr (m:=l.length) (by omega) (by omega)];exact ih (i+1) (by omega) (by omega)
 unfold Zcw;exact lp _ 0 (by unfold Ki;omega) (by omega)
theorem tIn(n a b:Int):TT (Z4 n a b):=⟨_,Zwa n a b,trivial⟩
theorem Q8k(n:Int):TT (Qi n):=⟨_,Wr n,trivial⟩
theorem Qkm{K:Nat}{l:List Zh}(h:Zmy K l)(hK:K<=1000000):T (Y2 l) fun r=>r.1=true->l.length<=24:=by
 have hlen:=h.len;have lp: ∀(N i:Nat),l.length-i<N->i<=l.length->T (X6 N l (i:Int)) fun r=>r.1=true->l.length<=24:=by
  intro N
  induction N with
  |zero=>intro i h;omega
  |succ N ih=>
   intro i hN hi;unfold X6;refine T.ite (fun hc=> ?_) fun _=>T.pure fun h=>by have:=Ode h;omega
   have hc:=Ode hc;refine T.guard (by omega) ((tt1 (Z38 (h.all _ (Z2 (by omega))) hK)).bind fun t _=>T.guard (fun _ _=>by omega) (T.guard (fun _ h=> ?_) (T.if (T.pure fun h=>by cases h) ?_)))
   ·have:=Ode h;rw[Zv (by omega) (by omega)];omega
   ·rw[Zr (m:=l.length) (by omega) (by omega)];exact ih (i+1) (by omega) (by omega)
 unfold Y2;exact lp _ 0 (by unfold V5;omega) (by omega)
theorem Q3h{K:Nat}{c:Ze}(h:Xx K c)(hK:K<=1000000):T (Yy c) fun r=>r.1=true->c.2.2.2.1.length<=24:=by
 have lp: ∀(N i:Nat),c.2.2.2.2.2.2.2.2.2.2.2.2.2.2.2.1.length-i<N->i<=c.2.2.2.2.2.2.2.2.2.2.2.2.2.2.2.1.length->TT (Wx N c (i:Int)):=by
  intro N
  induction N with
  |zero=>intro i h;omega
  |succ N ih=>
   intro i hN hi;have hl:=h.pk.1;unfold Wx;refine T.ite (fun hc=> ?_) fun _=> ?_
   ·have hc:=Ode hc;refine T.guard (by omega) ((tIn _ _ _).bind fun t _=>T.guard (fun _ _=>by omega) (T.guard (fun _ h=> ?_) (T.guard (fun _=>by omega) (T.bind (Q:=fun _=>True) (T.if T.tt (Q43 (h.pk.2 _ (Z2 (by omega))))) fun t2 _=>T.if T.tt ?_))))
    ·have:=Ode h;rw[Zv (by omega) (by omega)];omega
    ·rw[Zr (m:=c.2.2.2.2.2.2.2.2.2.2.2.2.2.2.2.1.length) (by omega) (by omega)];exact ih (i+1) (by omega) (by omega)
   ·exact(tIn _ _ _).bind fun t _=>T.bind (Q:=fun _=>True) (T.if (tIn _ _ _) T.tt) fun t _=>T.bind (Q:=fun _=>True) (T.if (tIn _ _ _) T.tt) fun t _=>T.bind (Q:=fun _=>True) (T.if (tIn _ _ _) T.tt) fun t _=>
     T.bind (Q:=fun _=>True) (T.if (tt1 (Qvc h.str hK)) T.tt) fun t _=>T.bind (Q:=fun _=>True) (T.if (tt1 (Qvb h.str hK)) T.tt) fun t _=>T.tt
 unfold Yy;have B: ∀{α β:Type} {b:Bool} {m n:Option α} {f:α->Option β} {R:β->Prop},TT m->TT n->(∀y,T (f y) R)->T (Option.bind (bif b then m else n) f) R:=fun h1 h2 h3=>(T.if h1 h2).bind fun y _=>h3 y;exact(tt1 (Zz9 _)).bind fun t _=>B T.tt (tt1 (Zz9 _)) fun t=>T.bind (Q:=fun r=>r.1=true->c.2.2.2.1.length<=24) (T.if (T.pure fun h=>by cases h) (Qkm h.str hK)) fun t hs=>B T.tt (tt1 (Z37 _)) fun t=>B T.tt (tt1 (Zyi _)) fun t=>B T.tt (tt1 (Z6c _)) fun t=>B T.tt (tt1 (Z6c _)) fun t=>B T.tt (tt1 (Qem _)) fun t=>B T.tt (tt1 (Qem _)) fun t=>
  T.ite (fun _=>T.pure fun h=>by cases h) fun hc=>(lp _ 0 (by unfold Kx;omega) (by omega)).mono fun _ _ _=>hs (by simp at hc;simp[hc])
theorem Qrc{K:Nat}{c:Ze}(h:Xx K c)(hK:K<=1000000):TT (Yy c):=(Q3h h hK).mono fun _ _=>trivial
theorem Q7i{K:Nat}{c:Ze}(h:Xx K c)(hK:K<=1000000):T (Ya c) fun r=>r.1=true->c.2.2.2.1.length<=24:=by
 unfold Ya;exact(Q3h h hK).bind fun t ht=>T.bind (Q:=fun _=>True) (T.if ⟨_,rfl,trivial⟩ T.tt) fun t2 _=>T.pure fun h=>ht (by simp at h;exact h.1)
theorem Zwb{K:Nat}{c:Ze}(h:Xx K c)(hK:K<=1000000):TT (Ya c):=(Q7i h hK).mono fun _ _=>trivial
theorem Xf5(n:Int):T (Zel n) fun r=>r.1=true->0<n/\n<=64:=⟨_,rfl,fun h=>by simp at h;omega⟩
theorem Q1h(n:Int):T (Zix n) fun r=>Kk 0 r.1:=by
 unfold Zix Zt9;have z:Kk 0 We:={cells:=(by simp[We]),e0:=Int.le_refl _,eK:=Int.le_refl _,pend:=Zs7 _,flight:=Zs7 _,acked:=Zs7 _}
 refine T.bind (Q:=fun r=>r.2.1=true->r.1.2.2.2.1.length<=64/\r.1.2.2.1=0) ((Xf5 n).bind fun t ht=>T.ite (fun _=>T.pure fun h=>by cases h) fun hc=> ?_) fun t ht=>T.ite (fun _=>T.pure z) fun hc=>T.pure ?_
 ·have:=ht (by simpa using hc);exact T.guard (by unfold Qg;omega) (T.pure fun _=>⟨by simp;omega,rfl⟩)
 ·have:=ht (by simpa using hc);exact {cells:=this.1,e0:=by simp only[this.2];omega,eK:=by simp only[this.2];omega,pend:=Zs7 _,flight:=Zs7 _,acked:=Zs7 _}
theorem Qaw(v:Bool)(i:Int)(o p:Zq7):T (Zcs v i o p) fun r=>Vy 0 r.1:=by
 obtain⟨b1,e1⟩:=Zz9 o;obtain⟨b2,e2⟩:=Zz9 p;obtain⟨b3,e3⟩:=Q2o v i;obtain⟨b4,e4⟩:=Qpa v i;obtain⟨⟨s,b5,u⟩,e5,h5⟩:=Q1h o.1;obtain⟨c6,b6,e6⟩:=Q46 p.2.1;obtain⟨c7,b7,e7⟩:=Qut o.2.1 o.2.2.1;obtain⟨r,e8,h8⟩:=Qy2;unfold Zcs Zck;simp only[e1,e2,e3,e4,e5,e6,e7,e8,Wr,Yv,Obs];generalize ((_||_)||_:Bool)=x;cases x
 ·exact T.pure (by exact⟨h5,h8⟩)
 ·exact T.pure Q8s
theorem Xex(v:Bool)(n:Int):TT (Zjq v n):=by
 unfold Zjq Zkc;simp only[Wr,Obs,Yv];exact⟨_,rfl,trivial⟩
theorem Xfj(n:Int):TT (Zca n):=by
 unfold Zca;simp only[Wr,Obs];exact⟨_,rfl,trivial⟩
theorem Q5d(c:Ze8):TT (Zkz c):=by
 unfold Zkz;exact(tt1 (Z6c c)).bind fun t _=>T.if T.tt (T.if T.tt T.tt)
theorem Q9y(n:Int)(s u:Bool):TT (Zpo n s u):=by
 unfold Zpo;have j: ∀u i,TT (Zfv u i):=fun u i=>by unfold Zfv;exact T.if T.tt T.tt
 exact(tIn _ _ _).bind fun t _=>T.if T.tt (T.guard (by omega) (T.if (j _ _) (j _ _)))
theorem Kl{K K':Nat}{l:List Zh}{s:Zh}(h:Zmy K l)(hs:Vy K' s)(hk:K<=K')(hK:K'+1<=500000):T (Qv l s) fun r=>Zmy (K'+1) r.1:=by
 obtain⟨y,e,h1,h2⟩:=Qjl (h.mono hk) hs (by omega);have:=h.len;exact⟨_,e,⟨by simp only;omega,fun x hx=>(h2 x hx).mono (by omega)⟩⟩
theorem Xx.up{K K':Nat}{c:Ze}(h:Xx K c)(hk:K<=K'){l:List Zh}(hl:Zmy K' l):Xx K' (c.1,(c.2.1,(c.2.2.1,(l,c.2.2.2.2)))):=⟨hl,h.pk.mono hk⟩
theorem Q1k{K:Nat}{c:Ze}(h:Xx K c)(hK:K+1<=500000)(u:Bool):T (Zgs c u) fun r=>Xx (K+1) r.2.1:=by
 unfold Zgs;rw[Zb4 h (by omega),Obs];have j2: ∀u x t i b,Xx K x->T (Kh u c t x i b) fun r=>Xx (K+1) r.2.1:=fun u x t i b hx=>by
  unfold Kh;exact T.if (T.pure (hx.mono (by omega))) ((Q9y _ _ _).bind fun t1 _=>(Qaw _ _ _ _).bind fun t2 h2=>(Kl hx.str (h2.mono (by omega)) (Nat.le_refl _) (by omega)).bind fun t3 h3=>T.pure (hx.up (by omega) h3))
 have j1: ∀u t n,T (Vx u c t c n) fun r=>Xx (K+1) r.2.1:=fun u t n=>by
  unfold Vx;exact(Q5d _).bind fun t1 _=>T.if (j2 _ _ _ _ _ ⟨h.str,h.pk⟩) (j2 _ _ _ _ _ ⟨h.str,h.pk⟩)
 exact(Zwb h (by omega)).bind fun t _=>T.if (T.pure (h.mono (by omega))) (T.if (j1 _ _ _) (j1 _ _ _))
theorem Qsc(w:Qt)(n:Int):TT (Zfx w n):=by
 unfold Zfx;exact(tt1 (Zyi w)).bind fun t _=>T.if T.tt T.tt
theorem Q5m{K:Nat}{r:Qe}(h:Zo3 K r.2.1)(hK:K<=1000000):TT (Zov r):=by
 unfold Zov;exact(tt1 (Zmd h hK)).bind fun t _=>T.tt
theorem Xca{K:Nat}{s:Zh}(h:Vy K s)(hK:K<=1000000):TT (Zwv s):=by
 unfold Zwv Ztp Zto;exact(tt1 (Z38 h hK)).bind fun t _=>T.bind (Q:=fun _=>True) (T.if T.tt T.tt) fun t _=>T.bind (Q:=fun _=>True) (T.if (T.bind (Q:=fun _=>True) (T.if T.tt (Q5m h.rcv hK)) fun t _=>T.tt) T.tt) fun t _=>T.tt
theorem Qub(a:X7):TT (Zhk a):=by
 unfold Zhk;exact(tt1 (Qem a)).bind fun t _=>T.if T.tt T.tt
theorem Q6s(s:List UInt8)(hs:s.length<=1000000)(b:Int): ∀(N i:Nat) (out:List (List UInt8)) (p:List UInt8),s.length-i<N->i<=s.length->out.length<=i->p.length<=i->(∀x∈out,x.length<=i)->
  T (Zi1 N s b out p (i:Int)) fun r=>r.1.length<=s.length+1/\ ∀x∈r.1,x.length<=s.length
 |0,_,_,_,h,_,_,_,_=>by omega
 |N+1,i,out,p,hN,hi,ho,hp,hx=>by
  have app: ∀{k:Nat} {o:List (List UInt8)} {x},(∀x∈o,x.length<=k)->x.length<=k-> ∀z∈o++ [x],z.length<=k:=fun ho hx z hz=>by
   rcases List.mem_append.1 hz with hz|hz
   ·exact ho z hz
   ·rw[List.mem_singleton.1 hz];exact hx
  unfold Zi1;refine T.ite (fun hc=> ?_) fun _=>T.guard (by unfold Qg;simp only[List.length_singleton];omega) (T.pure ⟨by simp;omega,app (fun x h=>by have:=hx x h;omega) (by omega)⟩);have hc:i<s.length:=by have:=Ode hc;omega
  refine T.guard (by omega) (T.if (T.guard (by unfold Qg;simp only[List.length_singleton];omega) ?_) (T.guard ?_ (T.guard ?_ ?_)))
  ·unfold Zmo;rw[Zr hc (by omega)];exact Q6s s hs b N (i+1) _ _ (by omega) (by omega) (by simp;omega) (by simp) (app (fun x h=>by have:=hx x h;omega) (by omega))
  ·rw[Zr hc (by omega)];omega
  ·unfold Zf9;simp only[List.length_take,List.length_drop];rw[Zr hc (by omega)];omega
  ·unfold Zmo;rw[Zr hc (by omega)];exact Q6s s hs b N (i+1) _ _ (by omega) (by omega) (by simp only;omega) (by simp only[List.length_append,List.length_take,List.length_drop];omega) (fun x h=>by have:=hx x h;omega)
theorem Xfw(s:List UInt8)(hs:s.length<=1000000)(b:Int):T (Zww s b) fun r=>r.1.length<=s.length+1/\ ∀x∈r.1,x.length<=s.length:=by
 unfold Zww;exact Q6s s hs b _ 0 _ _ (by unfold Zns;omega) (by omega) (by simp) (by simp) (by simp)
theorem Q4b: ∀(N:Nat) (s:List UInt8),s.length<N->s.length<=1000000->T (Zkg N s) fun r=>r.1.length<=s.length
 |0,_,h,_=>by omega
 |N+1,s,hN,hs=>by
  unfold Zkg;refine T.guard (fun h=> ?_) (T.ite (fun hc=> ?_) fun _=>T.pure (Nat.le_refl _))
  ·have:=Ode h;rw[Zv (by omega) (by omega)];omega
  ·have: (s.length:Int)>0:=by simp at hc;omega
   refine T.guard (by rw[Zv (by omega) (by omega)];omega) ((Q4b N _ ?_ ?_).mono fun y hy=> ?_)
   all_goals (simp only[List.length_take,List.length_drop]at*;rw[Zv (by omega) (by omega)]at*;omega)
theorem Q4a: ∀(N:Nat) (s:List UInt8),s.length<N->s.length<=1000000->T (Zkf N s) fun r=>r.1.length<=s.length
 |0,_,h,_=>by omega
 |N+1,s,hN,hs=>by
  unfold Zkf;refine T.guard (fun h=> ?_) (T.ite (fun hc=> ?_) fun _=>Q4b _ s (by unfold Zmq;omega) hs)
  ·have:=Ode h;omega
  ·have: (s.length:Int)>0:=by simp at hc;omega
   refine T.guard (by omega) ((Q4a N _ ?_ ?_).mono fun y hy=> ?_)
   all_goals (simp only[List.length_take,List.length_drop]at*;omega)
theorem Xfi(s:List UInt8)(hs:s.length<=1000000):T (Zub s) fun r=>r.1.length<=s.length:=by
 unfold Zub;exact Q4a _ s (by unfold Zmp;omega) hs
theorem Xcf(p:Q9)(s:List UInt8)(hs:s.length<=100000):TT (Zbv p s):=by
 have lp: ∀(l:List (List UInt8)),l.length<=100001->(∀x∈l,x.length<=100000)-> ∀(t:Q9) (N i:Nat) (b:Q9),l.length-i<N->i<=l.length->TT (Q7 N b t l (i:Int)):=by
  intro l hl hx t N
  induction N with
  |zero=>intro i b h;omega
  |succ N ih=>
   intro i b hN hi;unfold Q7;refine T.ite (fun hc=> ?_) fun _=>T.tt;have hc:i<l.length:=by have:=Ode hc;omega
   have j: ∀b,TT (X9 (fun v=>Q7 N v.1 v.2.1 v.2.2.1 v.2.2.2.1) b t l (i:Int)):=fun b=>by
    unfold X9;rw[Zr hc (by omega)];exact ih (i+1) _ (by omega) (by omega)
   refine T.guard (by omega) ((Xfi _ (by have:=hx _ (Z2 (d:=[]) hc);rw[show(i:Int).toNat=i from rfl];omega)).bind fun t _=>T.if (j _) (T.if (j _) (T.guard (fun h=> ?_) (T.guard (fun h=> ?_) (T.guard (fun h=> ?_) (T.ite (fun h=>T.guard ?_ (j _)) fun _=>j _))))))
   all_goals (simp at h;omega)
 have j: ∀b t,TT (Jb s b t):=fun b t=>by
  unfold Jb;exact(Xfw s (by omega) 44).bind fun r hr=>lp _ (by omega) (fun x hx=>by have:=hr.2 x hx;omega) _ _ 0 _ (by unfold Zfw;omega) (by omega)
 unfold Zbv;have d:TT Zck:=⟨_,rfl,trivial⟩
 exact(tt1 (Qar p)).bind fun t _=>T.if (d.bind fun t _=>j _ _) (j _ _)
def FL(n:Nat)(l:List Zf):Prop:=l.length<=n/\ ∀f∈l,FOK f
theorem FL.one{n:Nat}{l:List Zf}{f:Zf}(h:FL n l)(hf:FOK f):FL (n+1) (l++ [f]):=⟨by have:=h.1;simp;omega,fun x hx=>by
 rcases List.mem_append.1 hx with hx|hx
 ·exact h.2 x hx
 ·rw[List.mem_singleton.1 hx];exact hf⟩
theorem FL.app{n m:Nat}{l k:List Zf}(h:FL n l)(hk:FL m k):FL (n+m) (l++k):=⟨by have:=h.1;have:=hk.1;simp;omega,fun x hx=>by
 rcases List.mem_append.1 hx with hx|hx
 ·exact h.2 x hx
 ·exact hk.2 x hx⟩
theorem FL.mono{n m:Nat}{l:List Zf}(h:FL n l)(hn:n<=m):FL m l:=⟨Nat.le_trans h.1 hn,h.2⟩
theorem FL.nil:FL 0 []:=⟨Nat.le_refl _,by simp⟩
theorem Xef(k:Int)(i o:Int)(x):FOK ((k,(i,(o,(([]:List UInt8),x)))):Zf):=Nat.zero_le _
theorem FL.cap{n:Nat}{l k:List Zf}(h:FL n l)(hn:n+k.length<=10000):l.length+k.length<=Qg:=by have:=h.1;unfold Qg;omega
theorem Qzn(n:Int):T (Zer n) fun r=>0<=r.1/\r.1<=8:=by
 unfold Zer;exact T.if (T.pure (by simp)) (T.if (T.pure (by simp)) (T.if (T.pure (by simp)) (T.if (T.pure (by simp)) (T.pure (by simp)))))
theorem Q6y(n k:Int): ∀(N m:Nat) (s:List UInt8),m<N->m<=8->s.length+m<=8->T (Q1 N n k s ((m:Int)-1)) fun r=>r.1.length<=8
 |0,_,_,h,_,_=>by omega
 |N+1,0,s,_,_,hs=>by
  unfold Q1;exact T.ite (fun h=>by simp at h) fun _=>T.pure (by simpa using hs)
 |N+1,m+1,s,hN,hm,hs=>by
  unfold Q1;have j: ∀b,T (Ys (fun v=>Q1 N v.1 v.2.1 v.2.2.1 v.2.2.2.1) n k s (((m+1:Nat):Int)-1) b) fun r=>r.1.length<=8:=fun b=>by
   unfold Ys;obtain⟨d,e,hd⟩:=Q7j b;have e2:IntKind.i64.wrap (((m+1:Nat):Int)-1-1)=(m:Int)-1:=by rw[Zv (by omega) (by omega)];omega
   rw[e,Obs,e2];exact T.guard (by unfold Zf9;simp only;omega) (Q6y n k N m _ (by omega) (by omega) (by simp only[List.length_append];omega))
  exact T.ite (fun _=>T.guard (by rw[Zv (by omega) (by omega)];omega) (T.if (T.if (j _) (T.if (j _) (T.if (j _) (j _)))) (j _))) fun h=>by have:=of_decide_eq_false h;omega
theorem Xfx(n:Int):T (Zgr n) fun r=>r.1.length<=8:=by
 unfold Zgr;refine(Qzn n).bind fun t ht=> ?_;obtain⟨m,hm⟩:=Int.eq_ofNat_of_zero_le ht.1;have e2:IntKind.i64.wrap (t.1-1)=(m:Int)-1:=by rw[Zv (by omega) (by omega)];omega
 rw[e2];exact Q6y n _ _ m [] (by unfold Zdk;omega) (by omega) (by simp;omega)
theorem Q2y(l:List Int)(hl:l.length<=1000): ∀(N i:Nat) (s:List UInt8),l.length-i<N->i<=l.length->s.length<=8*i->T (Va N l s (i:Int)) fun r=>r.1.length<=8*l.length
 |0,_,_,h,_,_=>by omega
 |N+1,i,s,hN,hi,hs=>by
  unfold Va;refine T.ite (fun hc=> ?_) fun _=>T.pure (by simp only;omega);have hc:=Ode hc;refine T.guard (by omega) ((Qzn _).bind fun t _=>T.if (T.pure (by simp)) (T.guard (by omega) ((Xfx _).bind fun t ht=>T.guard (by unfold Zf9;omega) ?_)));rw[Zr (m:=l.length) (by omega) (by omega)];exact Q2y l hl N (i+1) _ (by omega) (by omega) (by simp only[List.length_append];omega)
theorem Xed(l:List Int)(hl:l.length<=1000):T (Xg l) fun r=>r.1.length<=8*l.length:=by
 unfold Xg;exact Q2y l hl _ 0 _ (by unfold Zb6;omega) (by omega) (by simp)
theorem Q6x{f:Zf}(h:FOK f):T (Zbp f) fun r=>r.1.length<=1100:=by
 have q: ∀l:List Int,l.length<=4->T (Xg l) fun r=>r.1.length<=32:=fun l hl=>(Xed l (by omega)).mono fun y hy=>by omega
 have one: ∀l:List Int,l.length<=4->T (Option.bind (Xg l) fun t=>some (t.1,())) fun r=>r.1.length<=1100:=fun l hl=>(q l hl).bind fun t ht=>T.pure (by simp only;omega);have two: ∀l:List Int,l.length<=4->T (Option.bind (Xg l) fun t=>Zi (t.1.length+f.2.2.2.1.length<=Zf9)<|some (t.1++f.2.2.2.1,())) fun r=>r.1.length<=1100:=fun l hl=>(q l hl).bind fun t ht=>by
  unfold FOK at h;exact T.guard (by unfold Zf9;omega) (T.pure (by simp only[List.length_append];omega))
 have j1: ∀k,T (Zab f k) fun r=>r.1.length<=1100:=fun k=>T.if (two _ (by simp)) (two _ (by simp));have j4: ∀k,T (Zac f k) fun r=>r.1.length<=1100:=fun k=>one _ (by simp);have j3: ∀b,T (Kw f b) fun r=>r.1.length<=1100:=fun b=>T.if (one _ (by simp)) (T.if (j4 _) (j4 _));have j2: ∀k b,T (Yc f k b) fun r=>r.1.length<=1100:=fun k b=>T.if (one _ (by simp)) (T.if (j3 _) (j3 _));unfold Zbp;exact(Z6d h).bind fun t _=>T.if (T.pure (by simp)) (T.if (one _ (by simp)) (T.if (one _ (by simp)) (T.if (T.if (j1 _) (j1 _)) (T.if (j2 _ _) (j2 _ _)))))
theorem Qyd(l:List Zf)(h:Qot l): ∀(N i:Nat) (s:List UInt8),l.length-i<N->i<=l.length->s.length<=1100*i->T (Za6 N l s (i:Int)) fun r=>r.1.length<=400
 |0,_,_,h,_,_=>by omega
 |N+1,i,s,hN,hi,hs=>by
  have hl:=h.1;unfold Za6;refine T.ite (fun hc=> ?_) fun _=>T.ite (fun _=>T.pure (by simp)) fun h=>T.pure (by have:=of_decide_eq_false h;simp only;omega);have hc:=Ode hc;refine T.guard (by omega) ((Q6x (h.2 _ (Z2 (by omega)))).bind fun t ht=>T.if (T.pure (by simp)) (T.guard (by unfold Zf9;omega) ?_));rw[Zr (m:=l.length) (by omega) (by omega)];exact Qyd l h N (i+1) _ (by omega) (by omega) (by simp only[List.length_append];omega)
theorem Xb3{l:List Zf}(h:Qot l):T (Zjo l) fun r=>r.1.length<=400:=by
 unfold Zjo;exact Qyd l h _ 0 _ (by unfold Zfo;omega) (by omega) (by simp)
theorem Xfp(l:List Zk)(hl:l.length<=1000000)(n:Int):T (Zgu l n) fun r=>r.1.length<=l.length:=by
 have lp: ∀(N i:Nat) (o:List Zk),l.length-i<N->i<=l.length->o.length<=i->T (Kj N l n o (i:Int)) fun r=>r.1.length<=l.length:=by
  intro N
  induction N with
  |zero=>intro i o h;omega
  |succ N ih=>
   intro i o hN hi ho;unfold Kj;refine T.ite (fun hc=> ?_) fun _=>T.pure (by simp only;omega);have hc:=Ode hc;have j: ∀o,o.length<=i+1->T (Zbz (fun v=>Kj N v.1 v.2.1 v.2.2.1 v.2.2.2.1) l n o (i:Int)) fun r=>r.1.length<=l.length:=fun o ho=>by
    unfold Zbz;rw[Zr (m:=l.length) (by omega) (by omega)];exact ih (i+1) o (by omega) (by omega) ho
   exact T.guard (by omega) (T.if (T.guard (by omega) (T.guard (by unfold Qg;simp only[List.length_singleton];omega) (j _ (by simp;omega)))) (j _ (by omega)))
 unfold Zgu;exact lp _ 0 _ (by unfold Wd;omega) (by omega) (by simp)
theorem inT(n a b:Int):T (Z4 n a b) fun r=>r.1=true->a<=n/\n<=b:=⟨_,Zwa n a b,fun h=>by simpa using h⟩
theorem Q7f(a:X7):T (J4 a) fun r=>r.1=true->a.2.1<=1152921504606846976/\0<=a.2.2.1/\a.2.2.1<=a.2.1:=by
 unfold J4;have B: ∀{b:Bool} {n l h:Int} {β:Type} {f:Bool×Unit->Option β} {R:β->Prop},(∀r:Bool×Unit,(r.1=true->l<=n/\n<=h)->T (f r) R)->T (Option.bind (bif b then Z4 n l h else some (false,())) f) R:=fun k=>T.bind (T.if (inT _ _ _) (T.pure fun h=>by cases h)) k;exact(inT _ _ _).bind fun t1 h1=>B fun t2 h2=>B fun t3 h3=>B fun t4 h4=>T.pure fun h=>by
  simp only[Oba]at h;have:=h2 h.1.1.1.2;have:=h3 h.1.1.2;omega
theorem Q5r(a:X7)(n:Int):T (Zeq a n) fun r=>0<=r.2.1/\r.2.1<=1152921504606846976:=by
 unfold Zeq;refine(Q7f a).bind fun t ht=>T.ite (fun _=>T.pure (by simp)) fun hc=>T.pure ?_;simp at hc;have:=ht hc.1.1;simp only;rw[Zv (n:=n+1) (by omega) (by omega),Zv (n:=n+1-a.2.2.1) (by omega) (by omega)];omega
theorem Qva(w:Qt)(n:Int):TT (Zhm w n):=by
 unfold Zhm;exact(tt1 (Zyi w)).bind fun t _=>T.if T.tt T.tt
theorem Xbg(s:Bool)(n:Int):TT (Zfm s n):=tt1 (Q2o s n)
theorem Q8l(s:Bool)(n:Int):TT (Vb s n):=tt1 (Qpa s n)
theorem Qlc(c:X7)(n:Int):TT (Zdx c n):=by
 unfold Zdx;exact(tt1 (Z37 c)).bind fun t _=>T.bind (Q:=fun _=>True) (T.if T.tt (Q8k _)) fun t _=>T.if T.tt T.tt
theorem Qla(c:Ze8)(n:Int):TT (Zdw c n):=by
 unfold Zdw;exact(tt1 (Z6c c)).bind fun t _=>T.if T.tt T.tt
theorem Qy7{K:Nat}{c:Ze}(h:Xx K c)(hK:K<=1000000)(n:Int):T (Wi c n) fun r=>Qot r.1.2.1:=by
 have hl:=h.pk.1;have lp: ∀(t:Z8) (N i:Nat),c.2.2.2.2.2.2.2.2.2.2.2.2.2.2.2.1.length-i<N->i<=c.2.2.2.2.2.2.2.2.2.2.2.2.2.2.2.1.length->T (Zbw N n c t (i:Int)) fun r=>Qot r.1.2.1:=by
  intro t N
  induction N with
  |zero=>intro i h;omega
  |succ N ih=>
   intro i hN hi;unfold Zbw;refine T.ite (fun hc=> ?_) fun hc=>T.pure ⟨Nat.zero_le _,fun f hf=>by cases hf⟩;have hc:=Ode hc;have hm:=h.pk.2 _ (Z2 (d:=Qj) (show i<c.2.2.2.2.2.2.2.2.2.2.2.2.2.2.2.1.length by omega));refine T.guard (by omega) (T.if (T.guard (by omega) (T.guard ?_ (T.pure hm))) ?_)
   ·have:=hm.1;unfold Qg;rw[show(i:Int).toNat=i from rfl];simp only[List.length_nil];omega
   ·rw[Zr (m:=c.2.2.2.2.2.2.2.2.2.2.2.2.2.2.2.1.length) (by omega) (by omega)];exact ih (i+1) (by omega) (by omega)
 unfold Wi;exact lp _ _ 0 (by unfold Zf7;omega) (by omega)
theorem Qz8(f:Zf):TT (Vu f):=by
 have j: ∀b,TT (X8 b):=fun b=>by unfold X8;exact T.if T.tt T.tt
 unfold Vu;exact T.if (j _) (T.if (j _) (T.if (j _) (T.if (j _) (j _))))
theorem Zc1(c:Qp)(n:Int)(h:Jj c):T (Qm c n) fun r=>Jj r.2.1/\0<=r.1.1/\(0<n->r.1.1<n):=by
 obtain⟨x,c',e,h1,h2,h3⟩:=Zxu c n h;exact⟨_,e,h1,h2,h3⟩
theorem Z87(c:Qp)(n:Int)(h:Jj c):T (Zam c n) fun r=>Jj r.2.1:=by
 obtain⟨b,c',e,h1⟩:=Q6q c n h;exact⟨_,e,h1⟩
theorem Z5y(c:Qp)(l:List Int)(h:Jj c)(hl:0<l.length):T (Jt c l) fun r=>Jj r.2.1/\r.1.1∈l:=by
 obtain⟨b,c',e,h1,h2⟩:=Q6r c l h hl;exact⟨_,e,h1,h2⟩
theorem Xc4(c:Qp)(l:List (List UInt8))(h:Jj c)(hl:0<l.length):T (Zpp c l) fun r=>Jj r.2.1/\r.1.1∈l:=by
 obtain⟨b,c',e,h1,h2⟩:=Qud c l h hl;exact⟨_,e,h1,h2⟩
theorem Q8j(c:Qp)(most:Nat)(h:Jj c)(hm:most<=1000):T (Zpr c (most:Int)) fun r=>Jj r.2.1/\r.1.1.length<=most:=by
 obtain⟨t,c',e,h1,h2⟩:=Q6p c most h hm;exact⟨_,e,h1,h2⟩
theorem Q7l(f:Zf)(h:FOK f):T (Zes f) fun r=>FOK r.1:=by
 have j2: ∀t x b,FOK x->T (Zcz f t x b) fun r=>FOK r.1:=fun t x b hx=>by
  unfold Zcz;exact T.if (T.pure (by exact hx)) (T.pure (by exact hx))
 have j1: ∀t x,FOK x->T (Zcy f t x) fun r=>FOK r.1:=fun t x hx=>by
  unfold Zcy;exact T.if (T.pure (by exact hx)) (T.if (T.pure (by exact hx)) (T.if (T.pure (by exact h)) (T.if (j2 _ _ _ hx) (j2 _ _ _ hx))))
 unfold Zes;exact(Qz8 f).bind fun t _=>T.if (j1 _ _ (Xef _ _ _ _)) (j1 _ _ (Xef _ _ _ _))
theorem Q9v(c:Qp)(hc:Jj c):T (Zjy c) fun r=>Jj r.2.1/\FOK r.1.1:=by
 unfold Zjy;exact(Z5y c _ hc (by simp)).bind fun t1 h1=>(Zc1 _ _ h1.1).bind fun t2 h2=>(Zc1 _ _ h2.1).bind fun t3 h3=>(Q8j _ 6 h3.1 (by omega)).bind fun t4 h4=>(Z87 _ _ h4.1).bind fun t5 h5=>(Zc1 _ _ h5).bind fun t6 h6=>(Zc1 _ _ h6.1).bind fun t7 h7=>(Zc1 _ _ h7.1).bind fun t8 h8=>(Z87 _ _ h8.1).bind fun t9 h9=>
  (Q7l _ (by unfold FOK;simp only;omega)).bind fun t hf=>T.pure ⟨h9,hf⟩
theorem Qus(n:Int):TT (Zky n):=(tIn _ _ _).bind fun t _=>T.if T.tt T.tt
theorem Quq(n:Int):TT (Zkx n):=(tIn _ _ _).bind fun t _=>T.if T.tt T.tt
theorem Q1f(n:Int):TT (Zcr n):=(Q8k _).bind fun t _=>T.if T.tt T.tt
theorem Q1i(n m:Int):TT (Zct n m):=by obtain⟨c,b,e⟩:=Qut n m;exact⟨_,e,trivial⟩
theorem Xx.zero{c:Ze}(h1:c.2.2.2.1=[])(h2:c.2.2.2.2.2.2.2.2.2.2.2.2.2.2.2.1=[]):Xx 0 c:=⟨⟨by rw[h1];simp,by rw[h1];simp⟩,⟨by rw[h2];simp,by rw[h2];simp⟩⟩
theorem Q7t(v:Bool)(o p:Zq7):T (Znc v o p) fun r=>Xx 0 r.1:=by
 unfold Znc;exact(tt1 (Zz9 o)).bind fun t _=>T.bind (Q:=fun _=>True) (T.if T.tt (tt1 (Zz9 p))) fun t _=>T.if (T.pure (Xx.zero rfl rfl)) ((Q1f _).bind fun t _=>(Q1i _ _).bind fun t _=>(Qus _).bind fun t _=>(Qus _).bind fun t _=>(Quq _).bind fun t _=>(Quq _).bind fun t _=>T.pure (Xx.zero rfl rfl))
theorem Qbw(r:Zc):Zp9 r=some (Zdf r,()):=rfl
theorem Z1e(l:List Zc)(hl:l.length<=8000000000): ∀(N i:Nat),l.length-i<N->i<=l.length->Zic N l l (l.length:Int) (i:Int)=V9 N l (i:Int)
 |0,_,h,_=>by omega
 |N+1,i,hN,hi=>by
  rw[Zic,V9];by_cases hh:i<l.length
  ·have g: ∀{a:Prop},a->decide ((i:Int)>0)=true->0<=IntKind.i64.wrap ((i:Int)-1)/\IntKind.i64.wrap ((i:Int)-1)< (l.length:Int):=fun _ h=>by
    have:=Ode h;rw[Zv (by omega) (by omega)];omega
   rw[Zp (Zm (by omega)),Zp (Zm (by omega)),Zb (by omega),Zb (by omega),Qbw,Z0p,Obs,Obs,Zb (fun h h2=>g h h2),Zb (fun h h2=>g h h2),Zb (fun _ _=>by omega),Zr hh (by omega),Z1e l hl N (i+1) (by omega) (by omega)]
  ·rw[Zl (Zj (by omega)),Zl (Zj (by omega))]
theorem Z0a(l:List Zc)(hl:l.length<=8000000000):Kt l=some (rsB (-1) l,()):=by
 have e:Zk6 l l (l.length:Int) 0=Za7 l 0:=rfl;rw[<-Zyh l (by omega),Kt,Y5,e];exact Z1e l hl _ 0 (by unfold Za7;omega) (by omega)
theorem Qq7(l:List Zc)(hl:l.length<=1048576): ∀(N i:Nat) (n:Int),l.length-i<N->i<=l.length->rsB (-1) l=true->Zcg N n l (l.length:Int) (i:Int)=Kd N l n (i:Int)
 |0,_,_,h,_,_=>by omega
 |N+1,i,n,hN,hi,hr=>by
  rw[Zcg,Kd];by_cases hh:i<l.length
  ·rw[Zp (Zm (by omega)),Zp (Zm (by omega)),Zb (by omega),Zb (by omega)];have hw:IntKind.i64.wrap (n+IntKind.i64.wrap ((l.getD (i:Int).toNat Zw).2.1- (l.getD (i:Int).toNat Zw).1))=IntKind.i64.wrap (IntKind.i64.wrap (n+ (l.getD (i:Int).toNat Zw).2.1)- (l.getD (i:Int).toNat Zw).1):=by
    unfold IntKind.wrap;simp[IntKind.signed,IntKind.bits];omega
   rw[hw,Zr hh (by omega),Qq7 l hl N (i+1) _ (by omega) (by omega) hr]
   try rw[Zb (by omega)]
  ·rw[Zl (Zj (by omega)),Zl (Zj (by omega))]
theorem Zrw(l:List Zc)(hl:l.length<=1048576):Wn l=some (if rsB (-1) l=true then Vd l else-1,()):=by
 rw[<-Zec l hl,Wn,Vc,Z0a l (by omega),Zyh l (by omega),Obs,Obs];cases hr:rsB (-1) l
 ·rfl
 ·exact Qq7 l hl _ 0 0 (by unfold Zge;omega) (by omega) hr
theorem Qc4(l:List Zc)(hl:l.length<=8000000000):Km l=some (l,()):=by
 unfold Km;rw[Zb (by unfold Qg;simp;omega)];simp
theorem Qkj: ∀(N:Nat) (pre rest:List Zc) (r:Zc) (out:List Zc),(pre++rest).length<=8000000000->rest.length<N->out.length<=pre.length+1->r.1<r.2.1->(∀x∈rest,r.2.1<x.1/\x.1<x.2.1)->
  Yh N r out true (pre++rest) ((pre++rest).length:Int) (pre.length:Int)=some (out++rest,())
 |0,_,_,_,_,_,h,_,_,_=>by omega
 |N+1,pre,[],r,out,hl,hN,ho,hr,hx=>by
  unfold Yh;rw[Zl (by simp)];simp
 |N+1,pre,x::rest,r,out,hl,hN,ho,hr,hx=>by
  have hlen: (pre++x::rest).length=pre.length+rest.length+1:=by simp;omega
  simp only[List.length_cons]at hN;have hxx:=hx x (by simp);unfold Yh;rw[Zp (Zm (by rw[hlen];omega)),Zb (by rw[hlen];omega),Vh,Zl (Zj (by omega)),Zp (Zm (by omega)),Zl (by rfl)];unfold Zh6;rw[Zb (by unfold Qg;simp;omega),Zr (m:=pre.length+1) (by omega) (by omega)];have ih:=Qkj N (pre++ [x]) rest r (out++ [x]) (by simp;omega) (by omega) (by simp;omega) hr (fun y hy=>hx y (by simp[hy]));rw[show(pre++ [x])++rest=pre++x::rest by simp,show((pre++ [x]).length:Int)=((pre.length+1:Nat):Int) by simp]at ih;simp only[ih];simp
theorem Qgw: ∀(N:Nat) (pre rest:List Zc) (r:Zc) (out:List Zc) (lo:Int),(pre++rest).length<=8000000000->rest.length<N->out.length<=pre.length->r.1<r.2.1->rsB lo rest=true->
  Yh N r out false (pre++rest) ((pre++rest).length:Int) (pre.length:Int)=some (out++Zh3 rest r,())
 |0,_,_,_,_,_,_,h,_,_,_=>by omega
 |N+1,pre,[],r,out,lo,hl,hN,ho,hr,hx=>by
  simp only[List.append_nil]at hl;unfold Yh;rw[Zl (by simp),Zp (by rfl),Zb (by unfold Qg;simp;omega)];rfl
 |N+1,pre,x::rest,r,out,lo,hl,hN,ho,hr,hx=>by
  have hlen: (pre++x::rest).length=pre.length+rest.length+1:=by simp;omega
  simp only[List.length_cons]at hN;obtain⟨hf,hlo,hrest⟩:=Je.1 hx;have hf:=Qs.1 hf;unfold Yh;rw[Zp (Zm (by rw[hlen];omega)),Zb (by rw[hlen];omega),Vh];have es: (pre++ [x])++rest=pre++x::rest:=by simp
  have ec: ((pre++ [x]).length:Int)=((pre.length+1:Nat):Int):=by simp
  rw[Zr (m:=pre.length+1) (by omega) (by omega)];by_cases h1:x.2.1<r.1
  ·rw[Zp (Zm h1),Zb (by unfold Qg;simp;omega)];have ih:=Qgw N (pre++ [x]) rest r (out++ [x]) x.2.1 (by simp;omega) (by omega) (by simp;omega) hr hrest;rw[es,ec]at ih;rw[ih,Zh3,if_pos h1];simp
  ·rw[Zl (Zj h1)];by_cases h2:x.1>r.2.1
   ·rw[Zp (Zm h2),Zp (by rfl),Zb (by unfold Qg;simp;omega)];unfold Zh6;rw[Zb (by unfold Qg;simp;omega),Zr (m:=pre.length+1) (by omega) (by omega)];have low:=Zoq hrest;have ih:=Qkj N (pre++ [x]) rest r (out++ [r]++ [x]) (by simp;omega) (by omega) (by simp;omega) hr (fun y hy=>by
     have h3:=low y hy;have h4:=Qs.1 h3.2;omega)
    rw[es,ec]at ih;simp only[ih];rw[Zh3,if_neg h1,if_pos h2];simp
   ·rw[Zl (Zj h2)];have ih:=Qgw N (pre++ [x]) rest (min r.1 x.1,max r.2.1 x.2.1,()) out x.2.1 (by simp;omega) (by omega) (by simp;omega) (by simp only;omega) hrest;rw[es,ec]at ih;rw[ih,Zh3,if_neg h1,if_neg h2]
theorem Qz9(l:List Zc)(r:Zc)(hl:l.length<=8000000000):Zkq l r=some (if rsB (-1) l=true/\Zdf r=true then Zh3 l r else l,()):=by
 unfold Zkq;rw[Z0a l (by omega),Obs,Qbw,Qc4 l (by omega)];cases hr:rsB (-1) l
 ·rfl
 ·cases hf:Zdf r
  ·rfl
  ·have hf:=Qs.1 hf;rw[if_pos ⟨rfl,rfl⟩];have h:=Qgw (Zf1 r [] false l (l.length:Int) 0) [] l r [] (-1) (by simpa using hl) (by unfold Zf1;omega) (by simp) hf.2.1 hr;exact h
theorem Q69(l:List Zc)(hl:l.length<=1048576): ∀(N i:Nat) (n:Int),l.length-i<N->i<=l.length->Zeu N n l (l.length:Int) (i:Int)=J3 N l n (i:Int)
 |0,_,_,h,_=>by omega
 |N+1,i,n,hN,hi=>by
  rw[Zeu,J3];by_cases hh:i<l.length
  ·have ih:=fun n=>Q69 l hl N (i+1) n (by omega) (by omega);rw[Zp (Zm (by omega)),Zp (Zm (by omega)),Zb (by omega),Zb (by omega),Zr hh (by omega),ih,ih]
   try rw[Zb (fun _=>by omega)]
   try rw[Zb (by omega)]
   unfold Ziu;rw[Zr hh (by omega)]
  ·rw[Zl (Zj (by omega)),Zl (Zj (by omega))]
theorem Q4w(l:List Zc)(f:Int)(hl:l.length<=1048576):Zry l f=some (if rsB (-1) l=true/\0<=f then Zx2 l f else-1,()):=by
 rw[<-Qed l f hl,Zry,Zhl,Z0a l (by omega),Zyh l (by omega),Obs,Obs];cases (!rsB (-1) l)||decide (f<0)
 ·exact Q69 l hl _ 0 f (by unfold Zk5;omega) (by omega)
 ·rfl
theorem Zul(l:List Zc)(hl:l.length<=1048576):Kt l=some (rsB (-1) l,()):=Z0a l (by omega)
theorem Zl1(l:List Zc)(hl:l.length<=1048576):Km l=some (l,()):=Qc4 l (by omega)
theorem Qt5(l:List Zc)(r:Zc)(hl:l.length<=1048576):Zkq l r=some (if rsB (-1) l=true/\Zdf r=true then Zh3 l r else l,()):=Qz9 l r (by omega)
end Go.Proofs.YtdhchdiikmnmeaaGreat

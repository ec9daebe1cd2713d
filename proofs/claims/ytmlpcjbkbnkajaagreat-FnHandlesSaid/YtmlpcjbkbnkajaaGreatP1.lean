/- FnHandles: the plain law, part 1. No condition. -/
import Derived.Test.YtmlpcjbkbnkajaaGreatM2
namespace Go.Proofs.YtmlpcjbkbnkajaaGreat
open Go.Am
set_option maxRecDepth 100000
set_option linter.unusedVariables false
abbrev Vk:Type:=Q0
theorem Zb6{α:Type}(pre:List α)(x:α)(rest:List α)(d:α): (pre++x::rest).getD ((pre.length:Int).toNat) d=x:=by
 rw[show(pre.length:Int).toNat=pre.length from rfl,List.getD_eq_getElem?_getD,List.getElem?_append_right (Nat.le_refl _)];simp
def Q04(k:Nat):Int:=((([48,49,50,51,52,53,54,55,56,57,97,98,99,100,101,102]:List UInt8).getD k 0).toNat:Int)
def hx(b:UInt8):List Int:=[Q04 (b.toNat/16),Q04 (b.toNat%16)]
theorem Kb{α:Type}{d:α}{l:List α}{i:Nat}(h:i<l.length):l.drop i=l.getD i d::l.drop (i+1):=by
 rw[List.drop_eq_getElem_cons h,List.getD_eq_getElem?_getD,List.getElem?_eq_getElem h];rfl
def Q3n(l:List UInt8):List UInt8:=Zl6 (l.flatMap hx)
theorem Q5b: ∀(u:Nat),∀b∈Go.Lib.decDigits u,48<=b.toNat/\b.toNat<=57:=by
 intro u
 induction u using Nat.strongRecOn with
 |_ u ih=>
  intro b hb;rw[Go.Lib.decDigits]at hb;split at hb
  ·rename_i h;simp only[List.mem_singleton]at hb;subst hb;have: (UInt8.ofNat (48+u)).toNat=48+u:=by simp;omega
   omega
  ·rename_i h;rcases List.mem_append.1 hb with hb|hb
   ·exact ih (u/10) (by omega) b hb
   ·simp only[List.mem_singleton]at hb;subst hb;have: (UInt8.ofNat (48+u%10)).toNat=48+u%10:=by simp;omega
    omega
def hv(b:UInt8):Int:=if 48<=b.toNat/\b.toNat<=57 then(b.toNat:Int)-48 else if 97<=b.toNat/\b.toNat<=102 then(b.toNat:Int)-87 else-1
theorem Q02(b:UInt8)(l:List UInt8):Q3n (b::l)=UInt8.ofNat (Q04 (b.toNat/16)).toNat::UInt8.ofNat (Q04 (b.toNat%16)).toNat::Q3n l:=by
 simp[Q3n,Zl6,hx]
theorem Q03(c:UInt8)(hc:c=32\/c=10): ∀d:List UInt8,c∉Q3n d
 | []=>by simp[Q3n,Zl6]
 |b::d=>by
  have hb:b.toNat<256:=b.toNat_lt;have key: ∀k:Fin 16,UInt8.ofNat (Q04 k.val).toNat≠32/\UInt8.ofNat (Q04 k.val).toNat≠10:=by decide
  have k1:=key ⟨b.toNat/16,by omega⟩;have k2:=key ⟨b.toNat%16,by omega⟩;have ih:=Q03 c hc d;rw[Q02];simp only[List.mem_cons,not_or];rcases hc with rfl|rfl
  ·exact⟨Ne.symm k1.1,Ne.symm k2.1,ih⟩
  ·exact⟨Ne.symm k1.2,Ne.symm k2.2,ih⟩
def fq(x:Int):Bool:=decide (x>=(0:Int))&&decide (x<=(4611686018427387903:Int))
theorem Q1k(x:Int):Qf x=some (fq x,()):=rfl
theorem Q1j(x:Int):Xd x=some (fq x,()):=rfl
theorem Qvl:Zv9=Znf:=rfl
theorem Q7j:Qgd=Zgh:=rfl
def Xo(f:Zl):Bool:=bif f.1==4 then decide (f.2.2.1=0)&& (f.2.2.2.1==[])&& (f.2.2.2.2.1==false)&&decide (f.2.2.2.2.2.2.1=0)&& (f.2.2.2.2.2.2.2.2.1==false) else bif f.1==5 then decide (f.2.2.1=0)&& (f.2.2.2.1==[])&& (f.2.2.2.2.1==false)&&decide (f.2.2.2.2.2.2.1=0)&&decide (f.2.2.2.2.2.2.2.1=0)&& (f.2.2.2.2.2.2.2.2.1==false) else bif f.1==8 then decide (f.2.2.2.2.2.1=0)&&decide (f.2.2.2.2.2.2.1=0)&&decide (f.2.2.2.2.2.2.2.1=0)&& (f.2.2.2.2.2.2.2.2.1==false) else bif f.1==17||f.1==21 then decide (f.2.2.1=0)&& (f.2.2.2.1==[])&& (f.2.2.2.2.1==false)&&decide (f.2.2.2.2.2.1=0)&&decide (f.2.2.2.2.2.2.2.1=0)&& (f.2.2.2.2.2.2.2.2.1==false) else bif f.1==18||f.1==22 then decide (f.2.1=0)&&decide (f.2.2.1=0)&& (f.2.2.2.1==[])&& (f.2.2.2.2.1==false)&&decide (f.2.2.2.2.2.1=0)&&decide (f.2.2.2.2.2.2.2.1=0) else bif f.1==16||f.1==20 then decide (f.2.1=0)&&decide (f.2.2.1=0)&& (f.2.2.2.1==[])&& (f.2.2.2.2.1==false)&&decide (f.2.2.2.2.2.1=0)&&decide (f.2.2.2.2.2.2.2.1=0)&& (f.2.2.2.2.2.2.2.2.1==false) else false
def Yo(f:Zl):Bool:=Xo f&&fq f.2.1&&fq f.2.2.1&&fq f.2.2.2.2.2.1&&fq f.2.2.2.2.2.2.1&&fq f.2.2.2.2.2.2.2.1&&decide (f.2.2.2.1.length<=400)&& (bif f.1==18||f.1==22 then decide (f.2.2.2.2.2.2.1<=(1152921504606846976:Int))else decide (f.2.2.1<=(4611686018427387903:Int)- (f.2.2.2.1.length:Int)))
theorem Qvw(k:Int): ∃s,Znf k=some (s,())/\((s==([]:List UInt8))= !(k==4||k==5||k==8||k==16||k==17||k==18||k==20||k==21||k==22)):=by
 unfold Znf;cases h4:k==4<;>cases h5:k==5<;>cases h8:k==8<;>cases h16:k==16<;>cases h17:k==17<;>cases h18:k==18<;>cases h20:k==20<;>cases h21:k==21<;>cases h22:k==22<;>exact⟨_,rfl,rfl⟩
theorem Qsk(f:Zl): ∃u,Zgh f=some (u,())/\((f.1==4||f.1==5||f.1==8||f.1==16||f.1==17||f.1==18||f.1==20||f.1==21||f.1==22)=true->eqV Zx u f=Xo f/\eqV Zx f u=Xo f):=by
 obtain⟨k,st,off,data,fin,code,lim,final,uni,z⟩:=f;by_cases h4:k=4
 ·subst h4;exact⟨_,rfl,fun _=>by constructor<;>rw[Bool.eq_iff_iff]<;>simp[eqV,Xo]<;>grind⟩
 by_cases h5:k=5
 ·subst h5;exact⟨_,rfl,fun _=>by constructor<;>rw[Bool.eq_iff_iff]<;>simp[eqV,Xo]<;>grind⟩
 by_cases h8:k=8
 ·subst h8;exact⟨_,rfl,fun _=>by constructor<;>rw[Bool.eq_iff_iff]<;>simp[eqV,Xo]<;>grind⟩
 by_cases h17:k=17
 ·subst h17;exact⟨_,rfl,fun _=>by constructor<;>rw[Bool.eq_iff_iff]<;>simp[eqV,Xo]<;>grind⟩
 by_cases h21:k=21
 ·subst h21;exact⟨_,rfl,fun _=>by constructor<;>rw[Bool.eq_iff_iff]<;>simp[eqV,Xo]<;>grind⟩
 by_cases h18:k=18
 ·subst h18;exact⟨_,rfl,fun _=>by constructor<;>rw[Bool.eq_iff_iff]<;>simp[eqV,Xo]<;>grind⟩
 by_cases h22:k=22
 ·subst h22;exact⟨_,rfl,fun _=>by constructor<;>rw[Bool.eq_iff_iff]<;>simp[eqV,Xo]<;>grind⟩
 by_cases h16:k=16
 ·subst h16;exact⟨_,rfl,fun _=>by constructor<;>rw[Bool.eq_iff_iff]<;>simp[eqV,Xo]<;>grind⟩
 by_cases h20:k=20
 ·subst h20;exact⟨_,rfl,fun _=>by constructor<;>rw[Bool.eq_iff_iff]<;>simp[eqV,Xo]<;>grind⟩
 ·have e: ∀c:Int,k≠c->(k==c)=false:=fun c h=>by simp[h]
  refine⟨(k,0,0,[],false,0,lim,0,false,()),?_,fun hk=> ?_⟩
  rotate_left
  ·simp only[e _ h4,e _ h5,e _ h8,e _ h17,e _ h21,e _ h18,e _ h22,e _ h16,e _ h20]at hk;cases hk
  ·unfold Zgh V7 Yb Ziz Zi0;simp only[e _ h4,e _ h5,e _ h8,e _ h17,e _ h21,e _ h18,e _ h22,Ocf,Obs]
theorem Qrz{f:Zl}(h:Xo f=true)(h8:f.1≠8):f.2.2.1=0/\f.2.2.2.1=[]:=by
 obtain⟨k,st,off,data,fin,code,lim,final,uni,z⟩:=f;unfold Xo at h;simp only at h h8⊢;have e8: (k==8)=false:=by simp[h8]
 rw[e8]at h;revert h;cases k==4<;>cases k==5<;>cases (k==17||k==21)<;>cases (k==18||k==22)<;>cases (k==16||k==20)<;>simp<;>grind
theorem Qow{f:Zl}(h:Xo f=true): (f.1==4||f.1==5||f.1==8||f.1==16||f.1==17||f.1==18||f.1==20||f.1==21||f.1==22)=true:=by
 obtain⟨k,st,off,data,fin,code,lim,final,uni,z⟩:=f;unfold Xo at h;simp only at h⊢;revert h;cases k==4<;>cases k==5<;>cases k==8<;>cases k==17<;>cases k==21<;>cases k==18<;>cases k==22<;>cases k==16<;>cases k==20<;>simp
theorem Ztj(f:Zl)(hl:f.2.2.2.1.length<=1048576):Zae f=some (Yo f,()):=by
 obtain⟨s,hs,hn⟩:=Qvw f.1;obtain⟨u,hu,hp⟩:=Qsk f;unfold Zae;simp only[hs,hu,Q1k,Obs,hn];cases hk: (f.1==4||f.1==5||f.1==8||f.1==16||f.1==17||f.1==18||f.1==20||f.1==21||f.1==22)
 ·have hpf:Xo f=false:=by
   cases h:Xo f
   ·rfl
   ·rw[Qow h]at hk;cases hk
  simp only[Bool.not_false,Oct,Obs,Bool.true_or];unfold Yo;rw[hpf];rfl
 ·simp only[Ont,Ocf,Obs,Bool.false_or,(hp hk).1];have hq:Yo f=(Xo f&&fq f.2.1&&fq f.2.2.1&&fq f.2.2.2.2.2.1&&fq f.2.2.2.2.2.2.1&&fq f.2.2.2.2.2.2.2.1&&decide (f.2.2.2.1.length<=400)&& (bif f.1==18||f.1==22 then decide (f.2.2.2.2.2.2.1<=(1152921504606846976:Int))else decide (f.2.2.1<=(4611686018427387903:Int)- (f.2.2.2.1.length:Int)))):=rfl;rw[hq,Zv (by omega) (by omega)];have hd:decide ((f.2.2.2.1.length:Int)>400)= !(decide (f.2.2.2.1.length<=400)):=by
   rw[Bool.eq_iff_iff];simp;omega
  rw[hd];cases hpf:Xo f
  ·simp
  ·have hoff:=Qrz hpf;cases fq f.2.1<;>cases fq f.2.2.1<;>cases fq f.2.2.2.2.2.1<;>cases fq f.2.2.2.2.2.2.1<;>cases fq f.2.2.2.2.2.2.2.1<;>cases hlen:decide (f.2.2.2.1.length<=400)<;>try rfl
   by_cases h8:f.1=8
   ·simp[h8]
   ·have e8: (f.1==8)=false:=by simp[h8]
    obtain⟨o1,o2⟩:=hoff h8;unfold Zny;cases h18:f.1==18<;>cases h22:f.1==22<;>simp[e8,o1,o2]
theorem Qcf(f:Zl)(hl:f.2.2.2.1.length<=1048576):Zdl f=some (Yo f,()):=by
 obtain⟨s,hs,hn⟩:=Qvw f.1;obtain⟨u,hu,hp⟩:=Qsk f;unfold Zdl;rw[Qvl,Q7j];simp only[hs,hu,Q1j,Obs,hn];cases hk: (f.1==4||f.1==5||f.1==8||f.1==16||f.1==17||f.1==18||f.1==20||f.1==21||f.1==22)
 ·have hpf:Xo f=false:=by
   cases h:Xo f
   ·rfl
   ·rw[Qow h]at hk;cases hk
  simp only[Bool.not_false,Oct,Obs,Bool.true_or];unfold Yo;rw[hpf];rfl
 ·simp only[Ont,Ocf,Obs,Bool.false_or,(hp hk).2];have hq:Yo f=(Xo f&&fq f.2.1&&fq f.2.2.1&&fq f.2.2.2.2.2.1&&fq f.2.2.2.2.2.2.1&&fq f.2.2.2.2.2.2.2.1&&decide (f.2.2.2.1.length<=400)&& (bif f.1==18||f.1==22 then decide (f.2.2.2.2.2.2.1<=(1152921504606846976:Int))else decide (f.2.2.1<=(4611686018427387903:Int)- (f.2.2.2.1.length:Int)))):=rfl;rw[hq,Zv (by omega) (by omega)];have hd:decide ((f.2.2.2.1.length:Int)<=400)=(decide (f.2.2.2.1.length<=400)):=by
   rw[Bool.eq_iff_iff];simp;omega
  rw[hd];cases hpf:Xo f
  ·simp
  ·have hoff:=Qrz hpf;cases fq f.2.1<;>cases fq f.2.2.1<;>cases fq f.2.2.2.2.2.1<;>cases fq f.2.2.2.2.2.2.1<;>cases fq f.2.2.2.2.2.2.2.1<;>try rfl
   by_cases h8:f.1=8
   ·simp[h8]
   ·obtain⟨o1,o2⟩:=hoff h8;cases h18:f.1==18<;>cases h22:f.1==22<;>simp[o1,o2]
open Classical in
noncomputable def pin(s:List UInt8):Option Int:=if h: ∃n:Int,-999999999<=n/\n<=999999999/\s=Go.Lib.itoa n then some h.choose else none
noncomputable def Qpj{β:Type}(r:List (List UInt8))(K:Int->List (List UInt8)->Option β):Option β:=
 match r with
 | []=>none
 |a::r=>match pin a with
  |none=>none
  |some n=>K n r
theorem hdn{β:Type}(x y:Option β): (bif((([]:List (List UInt8)).length:Nat):Int)==(0:Int)then x else y)=x:=rfl
theorem Qy0(x:Int):0<=bits .and .i64 x 255/\bits .and .i64 x 255<=255:=by
 have h:bits .and .i64 x 255=IntKind.i64.wrap (((BitVec.ofInt 64 x&&&BitVec.ofInt 64 255).toNat:Nat):Int):=rfl;rw[h,BitVec.toNat_and];have h2: (BitVec.ofInt 64 255).toNat=255:=by decide
 rw[h2];have h3: (BitVec.ofInt 64 x).toNat&&&255<=255:=Nat.and_le_right;rw[Zv (by omega) (by omega)];omega
def Wf(c:Qx):Prop:=c.1.length<=1048576/\0<=c.2.1/\c.2.1<=c.1.length
theorem Qsw(code:List Int)(h:code.length<=1048576): ∃c,Zqt code=some (c,())/\Wf c:=by
 have loop: ∀(N:Nat) (x:Int) (i:Nat),i<=code.length->code.length-i<N-> ∃c,Znj N code x (i:Int)=some (c,())/\Wf c:=by
  intro N
  induction N with
  |zero=>intro x i _ h;omega
  |succ N ih=>
   intro x i hi hN;unfold Znj;by_cases hl:i<code.length/\i<4000
   ·rw[Zn (by simp;omega),Zb (by omega),Zs hl.1 (by omega)];exact ih _ (i+1) (by omega) (by omega)
   ·rw[Zm (by simp;omega)];exact⟨_,rfl,h,Int.le_refl 0,by simp⟩
 unfold Zqt;exact loop _ _ 0 (by omega) (by unfold Zol;omega)
theorem Z1x(c:Qx)(h:Wf c): ∃x c',Zi5 c=some ((x,()),(c',()))/\Wf c'/\0<=x/\x<=255:=by
 obtain⟨h1,h2,h3⟩:=h;unfold Zi5;simp only[];rw[Zb (by decide),Zb (by decide)];by_cases hl:c.2.1< (c.1.length:Int)
 ·rw[Zn (Zj hl),Zb ⟨h2,hl⟩,Zv (n:=c.2.1+1) (by omega) (by omega)];exact⟨_,_,rfl,⟨h1,by show 0<=c.2.1+1;omega,by show c.2.1+1<=(c.1.length:Int);omega⟩,Qy0 _⟩
 ·rw[Zm (Zk hl)];exact⟨_,_,rfl,⟨h1,h2,h3⟩,Qy0 _⟩
theorem Ztm(c:Qx)(n:Int)(h:Wf c): ∃x c',Qm c n=some ((x,()),(c',()))/\Wf c'/\0<=x/\(0<n->x<n):=by
 unfold Qm;by_cases h0:n<=0
 ·rw[Zn (Zj h0)];exact⟨_,_,rfl,h,Int.le_refl 0,fun hn=>by omega⟩
 ·rw[Zm (Zk h0)];by_cases h1:n<=256
  ·rw[Zn (Zj h1)];obtain⟨x,c1,e1,k1,b1,b2⟩:=Z1x c h;rw[e1,Obs,Zb (by omega)];exact⟨_,_,rfl,k1,Int.tmod_nonneg n b1,fun hn=>Int.tmod_lt_of_pos x hn⟩
  ·rw[Zm (Zk h1)];obtain⟨x,c1,e1,k1,b1,b2⟩:=Z1x c h;obtain⟨y,c2,e2,k2,b3,b4⟩:=Z1x c1 k1;obtain⟨z,c3,e3,k3,b5,b6⟩:=Z1x c2 k2;obtain⟨u,c4,e4,k4,b7,b8⟩:=Z1x c3 k3;rw[e1,Obs,e2,Obs,e3,Obs,e4,Obs,Zb (by omega)];simp only[];rw[Zv (n:=x*16777216) (by omega) (by omega),Zv (n:=y*65536) (by omega) (by omega),Zv (n:=x*16777216+y*65536) (by omega) (by omega),Zv (n:=z*256) (by omega) (by omega),Zv (n:=x*16777216+y*65536+z*256) (by omega) (by omega),Zv (n:=x*16777216+y*65536+z*256+u) (by omega) (by omega)];exact⟨_,_,rfl,k4,Int.tmod_nonneg n (by omega),fun hn=>Int.tmod_lt_of_pos _ hn⟩
theorem Q2x(c:Qx)(l:List Int)(h:Wf c)(hl:0<l.length): ∃x c',Ya c l=some ((x,()),(c',()))/\Wf c'/\x∈l:=by
 unfold Ya;obtain⟨x,c1,e1,k1,b1,b2⟩:=Ztm c (l.length:Int) h;have b2:=b2 (by omega);rw[e1,Obs];simp only[];rw[Zb ⟨b1,b2⟩];refine⟨_,_,rfl,k1,?_⟩;have hx:x.toNat<l.length:=by omega
 rw[List.getD_eq_getElem?_getD,List.getElem?_eq_getElem hx];exact List.getElem_mem hx
def Zej(r:Ze):Bool:=(decide (r.1>=(0:Int))&&decide (r.1<r.2.1))&&decide (r.2.1<=(4611686018427387903:Int))
theorem Zzf(r:Ze):Zr0 r=some (Zej r,()):=rfl
theorem Ql{r:Ze}:Zej r=true↔0<=r.1/\r.1<r.2.1/\r.2.1<=4611686018427387903:=by
 unfold Zej;simp;omega
def rsB:Int->List Ze->Bool|_,[]=>true|lo,r::l=>Zej r&&decide (lo<r.1)&&rsB r.2.1 l
theorem Z61: ∀(N:Nat) (pre rest:List Ze) (lo:Int),(pre++rest).length<=1048576->rest.length<N->(pre=[]->lo<0)->(∀q x,pre=q++ [x]->lo=x.2.1)->
  Wq N (pre++rest) (pre.length:Int)=some (rsB lo rest,())
 |0,_,_,_,_,h,_,_=>by omega
 |N+1,pre,[],lo,hl,hN,h0,h1=>by
  unfold Wq;rw[Zm (by simp)];rfl
 |N+1,pre,r::rest,lo,hl,hN,h0,h1=>by
  have hlen: (pre++r::rest).length=pre.length+rest.length+1:=by simp;omega
  simp only[List.length_cons]at hN;unfold Wq;rw[Zn (Zj (by rw[hlen];omega)),Zb (by rw[hlen];omega),Zb6,Zzf,Obs];have ih:=Z61 N (pre++ [r]) rest r.2.1 (by simp;omega) (by omega) (by simp) (fun q x e=>by
   have:=List.append_inj' e rfl;simp only[List.cons.injEq,and_true]at this;rw[this.2])
  have e0: ((pre++ [r]).length:Int)=((pre.length+1:Nat):Int):=by simp
  rw[e0]at ih;rw[show(pre++ [r])++rest=pre++r::rest by simp]at ih;rw[Zb (fun _ h=>by
   have: (pre.length:Int)>0:=by simpa using h
   rw[Zv (by omega) (by omega),hlen];omega),Zb (fun _ _=>by rw[hlen];omega),Zs (m:=pre.length+1) (by omega) (by omega),ih]
  simp only[rsB];cases hf:Zej r
  ·rfl
  ·rcases List.eq_nil_or_concat pre with hp| ⟨q,x,hp⟩
   ·subst hp;have hlo:=h0 rfl;have hr:=Ql.1 hf;rw[Zm (by simp)];rw[show decide (lo<r.1)=true from Zj (by omega)];simp
   ·rw[List.concat_eq_append]at hp;have hlo:=h1 q x hp;have hg: (pre++r::rest).getD (IntKind.i64.wrap ((pre.length:Int)-1)).toNat Zy=x:=by
     rw[Zv (by omega) (by omega)];have e: ((pre.length:Int)-1).toNat=q.length:=by rw[hp];simp
     rw[e,hp,List.append_assoc];exact Zb6 q x ([r]++rest) Zy
    rw[hg,<-hlo];have hpos:decide ((pre.length:Int)>0)=true:=Zj (by rw[hp];simp);rw[hpos];by_cases hc:lo<r.1
    ·rw[Zm (by simp;omega),Zj hc];simp
    ·rw[Zn (by simp;omega),Zk hc];simp
theorem Za8(l:List Ze)(hl:l.length<=1048576):Kz l=some (rsB (-1) l,()):=by
 unfold Kz;exact Z61 _ [] l (-1) (by simpa using hl) (by unfold Zbi;omega) (fun _=>by omega) (fun q x e=>by simp at e)
theorem Vg{lo:Int}{r:Ze}{l:List Ze}:rsB lo (r::l)=true↔Zej r=true/\lo<r.1/\rsB r.2.1 l=true:=by
 simp only[rsB,Oba,decide_eq_true_eq,and_assoc]
theorem Zxq: ∀{l:List Ze} {lo lo':Int},rsB lo l=true->lo'<=lo->rsB lo' l=true
 | [],_,_,_,_=>rfl
 |r::l,lo,lo',h,hl=>by
  rw[Vg]at h⊢;exact⟨h.1,by omega,h.2.2⟩
theorem Znu: ∀{l:List Ze} {lo:Int},rsB lo l=true-> ∀x∈l,lo<x.1/\Zej x=true
 | [],_,_,x,hx=>by cases hx
 |r::l,lo,h,x,hx=>by
  rw[Vg]at h;have hf:=Ql.1 h.1;rcases List.mem_cons.1 hx with rfl|hx
  ·exact⟨h.2.1,h.1⟩
  ·have:=Znu h.2.2 x hx;exact⟨by omega,this.2⟩
theorem Qz7: ∀{l:List Ze} {lo E:Int},rsB lo l=true->(∀x∈l,x.2.1<=E)->lo<=E->(l.length:Int)<=E-lo
 | [],lo,E,_,_,hE=>by simp;omega
 |r::l,lo,E,h,hE,_=>by
  rw[Vg]at h;have hf:=Ql.1 h.1;have:=Qz7 (E:=E) h.2.2 (fun x hx=>hE x (by simp[hx])) (hE r (by simp));simp only[List.length_cons];omega
def Zgk:List Ze->Ze->List Ze| [],r=>[r]|x::l,r=>if x.2.1<r.1 then x::Zgk l r else if x.1>r.2.1 then r::x::l else Zgk l (min r.1 x.1,max r.2.1 x.2.1,())
theorem Z8o(l:List Ze)(hl:l.length<=1048576):Zi7 l=some (l,()):=by
 unfold Zi7;rw[Zb (by unfold Qo;simp;omega)];simp
theorem Qib: ∀(N:Nat) (pre rest:List Ze) (r:Ze) (out:List Ze),(pre++rest).length<=1048576->rest.length<N->out.length<=pre.length+1->r.1<r.2.1->(∀x∈rest,r.2.1<x.1/\x.1<x.2.1)->
  Yl N (pre++rest) r out true (pre.length:Int)=some (out++rest,())
 |0,_,_,_,_,_,h,_,_,_=>by omega
 |N+1,pre,[],r,out,hl,hN,ho,hr,hx=>by
  unfold Yl;rw[Zm (by simp)];simp
 |N+1,pre,x::rest,r,out,hl,hN,ho,hr,hx=>by
  have hlen: (pre++x::rest).length=pre.length+rest.length+1:=by simp;omega
  simp only[List.length_cons]at hN;have hxx:=hx x (by simp);unfold Yl;rw[Zn (Zj (by rw[hlen];omega)),Zb (by rw[hlen];omega),Zb6,Zm (Zk (by omega)),Zb (by rw[hlen];omega),Zn (Zj (by omega)),Zm (by rfl)];unfold Zia Wm;rw[Zb (by rw[hlen];omega),Zb6,Zb (by unfold Qo;simp;omega),Zs (m:=pre.length+1) (by omega) (by omega)];have ih:=Qib N (pre++ [x]) rest r (out++ [x]) (by simp;omega) (by omega) (by simp;omega) hr (fun y hy=>hx y (by simp[hy]));rw[show(pre++ [x])++rest=pre++x::rest by simp,show((pre++ [x]).length:Int)=((pre.length+1:Nat):Int) by simp]at ih;simp only[ih];simp
theorem Qe3: ∀(N:Nat) (pre rest:List Ze) (r:Ze) (out:List Ze) (lo:Int),(pre++rest).length<=1048576->rest.length<N->out.length<=pre.length->r.1<r.2.1->rsB lo rest=true->
  Yl N (pre++rest) r out false (pre.length:Int)=some (out++Zgk rest r,())
 |0,_,_,_,_,_,_,h,_,_,_=>by omega
 |N+1,pre,[],r,out,lo,hl,hN,ho,hr,hx=>by
  simp only[List.append_nil]at hl;unfold Yl;rw[Zm (by simp),Zn (by rfl),Zb (by unfold Qo;simp;omega)];rfl
 |N+1,pre,x::rest,r,out,lo,hl,hN,ho,hr,hx=>by
  have hlen: (pre++x::rest).length=pre.length+rest.length+1:=by simp;omega
  simp only[List.length_cons]at hN;obtain⟨hf,hlo,hrest⟩:=Vg.1 hx;have hf:=Ql.1 hf;unfold Yl;rw[Zn (Zj (by rw[hlen];omega)),Zb (by rw[hlen];omega),Zb6];have es: (pre++ [x])++rest=pre++x::rest:=by simp
  have el: ((pre++ [x]).length:Int)=((pre.length+1:Nat):Int):=by simp
  by_cases h1:x.2.1<r.1
  ·rw[Zn (Zj h1),Zb (by rw[hlen];omega),Zb (by unfold Qo;simp;omega)];unfold Wm;have ih:=Qe3 N (pre++ [x]) rest r (out++ [x]) _ (by simp;omega) (by omega) (by simp;omega) hr hrest;rw[es,el]at ih;rw[Zs (m:=pre.length+1) (by omega) (by omega)];simp only[ih,Zgk,h1,if_true];simp
  ·rw[Zm (Zk h1),Zb (by rw[hlen];omega)];by_cases h2:x.1>r.2.1
   ·rw[Zn (Zj h2),Zn (by rfl),Zb (by unfold Qo;simp;omega)];unfold Zia Wm;rw[Zb (by rw[hlen];omega),Zb6,Zb (by unfold Qo;simp;omega),Zs (m:=pre.length+1) (by omega) (by omega)];have ih:=Qib N (pre++ [x]) rest r (out++ [r]++ [x]) (by simp;omega) (by omega) (by simp;omega) hr (fun y hy=>by
     have:=Znu hrest y hy;have:=Ql.1 this.2;omega)
    rw[es,el]at ih;simp only[ih,Zgk,h1,h2,if_true,if_false];simp
   ·rw[Zm (Zk h2),Zb (by rw[hlen];omega),Zb (by rw[hlen];omega)];unfold Wm;have ih:=Qe3 N (pre++ [x]) rest (min r.1 x.1,(max r.2.1 x.2.1,r.2.2)) out _ (by simp;omega) (by omega) (by simp;omega) (by simp only;omega) hrest;rw[es,el]at ih;rw[Zs (m:=pre.length+1) (by omega) (by omega)];simp only[ih,Zgk,h1,h2,if_false]
theorem Zm3(l:List Ze)(r:Ze)(hl:l.length<=1048576):Wy l r=some (if rsB (-1) l=true/\Zej r=true then Zgk l r else l,()):=by
 unfold Wy;rw[Za8 l hl,Obs];cases h1:rsB (-1) l
 ·simp[Z8o l hl]
 ·simp only[Ont,Ocf,Zzf,Obs,Bool.false_or];cases h2:Zej r
  ·simp[Z8o l hl]
  ·have hf:=Ql.1 h2;have:=Qe3 (Ze1 l r [] false 0) [] l r [] (-1) (by simpa using hl) (by unfold Ze1;omega) (by simp) (by omega) h1;simp only[Ont,Ocf,and_self,if_true];exact this
def RL(E:Int)(l:List Ze):Prop:=rsB (-1) l=true/\ ∀x∈l,x.2.1<=E
theorem Z37: ∀{l:List Ze} {lo:Int} {r:Ze},rsB lo l=true->Zej r=true->lo<r.1->rsB lo (Zgk l r)=true
 | [],lo,r,_,h2,h3=>by simp[Zgk,rsB,h2,h3]
 |x::l,lo,r,h1,h2,h3=>by
  obtain⟨hf,hlo,hrest⟩:=Vg.1 h1;have hx:=Ql.1 hf;have hr:=Ql.1 h2;unfold Zgk;split
  ·exact Vg.2 ⟨hf,hlo,Z37 hrest h2 (by omega)⟩
  ·split
   ·exact Vg.2 ⟨h2,h3,Vg.2 ⟨hf,by omega,hrest⟩⟩
   ·exact Z37 (Zxq hrest (by omega)) (Ql.2 (by simp only;omega)) (by simp only;omega)
theorem Z36{E:Int}: ∀{l:List Ze} {r:Ze},(∀x∈l,x.2.1<=E)->r.2.1<=E-> ∀x∈Zgk l r,x.2.1<=E
 | [],r,_,h,x,hx=>by simp[Zgk]at hx;subst hx;exact h
 |y::l,r,hl,h,x,hx=>by
  have hy:=hl y (by simp);have hl': ∀x∈l,x.2.1<=E:=fun x hx=>hl x (by simp[hx]);unfold Zgk at hx;split at hx
  ·rcases List.mem_cons.1 hx with rfl|hx
   ·exact hy
   ·exact Z36 hl' h x hx
  ·split at hx
   ·rcases List.mem_cons.1 hx with rfl|hx
    ·exact h
    ·exact hl x hx
   ·exact Z36 hl' (by simp only;omega) x hx
theorem Qak: ∀{l:List Ze} {r:Ze},(Zgk l r).length<=l.length+1
 | [],r=>by simp[Zgk]
 |y::l,r=>by
  unfold Zgk;split
  ·have:=Qak (l:=l) (r:=r);simp only[List.length_cons];omega
  ·split
   ·simp
   ·have:=Qak (l:=l) (r:=(min r.1 y.1,max r.2.1 y.2.1,()));simp only[List.length_cons];omega
theorem Zx8{E:Int}{l:List Ze}{r:Ze}(h:RL E l)(hr:r.2.1<=E):RL E (if rsB (-1) l=true/\Zej r=true then Zgk l r else l):=by
 split
 ·rename_i hc;have:=Ql.1 hc.2;exact⟨Z37 hc.1 hc.2 (by omega),Z36 h.2 hr⟩
 ·exact h
theorem Qlb{E E':Int}{l:List Ze}(h:RL E l)(he:E<=E'):RL E' l:=⟨h.1,fun x hx=>Int.le_trans (h.2 x hx) he⟩
theorem Q8i{E:Int}{l:List Ze}(h:RL E l)(hE: -1<=E): (l.length:Int)<=E+1:=by
 have:=Qz7 h.1 h.2 hE;omega
def Q2y(r x:Ze):List Ze:=(if x.1<min x.2.1 r.1 then[(x.1,min x.2.1 r.1,())]else[])++ (if max x.1 r.2.1<x.2.1 then[(max x.1 r.2.1,x.2.1,())]else[])
def Qhj(r:Ze):List Ze->List Ze| []=>[]|x::l=>Q2y r x++Qhj r l
theorem Qhk: ∀(N:Nat) (pre rest:List Ze) (r:Ze) (out:List Ze),(pre++rest).length<=1048576->rest.length<N->out.length<=2*pre.length->
  Ja N (pre++rest) r out (pre.length:Int)=some (out++Qhj r rest,())
 |0,_,_,_,_,_,h,_=>by omega
 |N+1,pre,[],r,out,hl,hN,ho=>by
  unfold Ja;rw[Zm (by simp)];simp[Qhj]
 |N+1,pre,x::rest,r,out,hl,hN,ho=>by
  have hlen: (pre++x::rest).length=pre.length+rest.length+1:=by simp;omega
  simp only[List.length_cons]at hN;have g: ∀{ρ:Type} (m:Option ρ),Zi (0<=(pre.length:Int)/\(pre.length:Int)< ((pre++x::rest).length:Int)) m=m:=fun m=>Zb (by rw[hlen];omega);have es: (pre++ [x])++rest=pre++x::rest:=by simp
  have el: ((pre++ [x]).length:Int)=((pre.length+1:Nat):Int):=by simp
  have j2: ∀out1:List Ze,out1.length<=2*pre.length+1->Zdi (fun v=>Ja N v.1 v.2.1 v.2.2.1 v.2.2.2.1) (pre++x::rest) r out1 (pre.length:Int)=some (out1++ (if max x.1 r.2.1<x.2.1 then[(max x.1 r.2.1,x.2.1,())]else[])++Qhj r rest,()):=by
   intro out1 ho1;unfold Zdi Zhe;simp only[g,Zb6];rw[Zs (m:=pre.length+1) (by omega) (by omega)];by_cases h:max x.1 r.2.1<x.2.1
   ·rw[Zn (Zj h),if_pos h,Zb (by unfold Qo;simp;omega)];have ih:=Qhk N (pre++ [x]) rest r (out1++ [(max x.1 r.2.1,x.2.1,())]) (by simp;omega) (by omega) (by simp;omega);rw[es,el]at ih;simp only[ih]
   ·rw[Zm (Zk h),if_neg h];have ih:=Qhk N (pre++ [x]) rest r out1 (by simp;omega) (by omega) (by simp;omega);rw[es,el]at ih;simp only[ih];simp
  unfold Ja;rw[Zn (Zj (by rw[hlen];omega))];simp only[g,Zb6];by_cases h:x.1<min x.2.1 r.1
  ·rw[Zn (Zj h),Zb (by unfold Qo;simp;omega),j2 _ (by simp;omega)];simp[Qhj,Q2y,h]
  ·rw[Zm (Zk h),j2 _ (by omega)];simp[Qhj,Q2y,h]
theorem Z27(l:List Ze)(r:Ze)(hl:l.length<=1048576):Zd2 l r=some (if rsB (-1) l=true/\Zej r=true then Qhj r l else l,()):=by
 unfold Zd2;rw[Za8 l hl,Obs];cases h1:rsB (-1) l
 ·simp[Z8o l hl]
 ·simp only[Ont,Ocf,Zzf,Obs,Bool.false_or];cases h2:Zej r
  ·simp[Z8o l hl]
  ·have:=Qhk (Zb4 l r [] 0) [] l r [] (by simpa using hl) (by unfold Zb4;omega) (by simp);simp only[Ont,Ocf,and_self,if_true];exact this
theorem Qz4{r:Ze}(hr:Zej r=true): ∀{l:List Ze} {lo:Int},rsB lo l=true->rsB lo (Qhj r l)=true
 | [],lo,_=>rfl
 |x::l,lo,h1=>by
  obtain⟨hf,hlo,hrest⟩:=Vg.1 h1;have hx:=Ql.1 hf;have hr:=Ql.1 hr;have ih:=fun lo' h=>Qz4 (r:=r) (Ql.2 hr) (l:=l) (lo:=lo') (Zxq hrest h);unfold Qhj Q2y;split<;>split
  ·simp only[List.cons_append,List.nil_append];exact Vg.2 ⟨Ql.2 (by simp only;omega),by simp only;omega,Vg.2 ⟨Ql.2 (by simp only;omega),by simp only;omega,ih _ (by simp only;omega)⟩⟩
  ·simp only[List.cons_append,List.nil_append];exact Vg.2 ⟨Ql.2 (by simp only;omega),by simp only;omega,ih _ (by simp only;omega)⟩
  ·simp only[List.cons_append,List.nil_append];exact Vg.2 ⟨Ql.2 (by simp only;omega),by simp only;omega,ih _ (by simp only;omega)⟩
  ·exact ih lo (by omega)
theorem Qr3{E:Int}{r:Ze}: ∀{l:List Ze},(∀x∈l,x.2.1<=E)-> ∀x∈Qhj r l,x.2.1<=E
 | [],_,x,hx=>by simp[Qhj]at hx
 |y::l,hl,x,hx=>by
  have hy:=hl y (by simp);unfold Qhj Q2y at hx;simp only[List.mem_append]at hx;rcases hx with(hx|hx)|hx
  ·split at hx
   ·simp only[List.mem_singleton]at hx;subst hx;simp only;omega
   ·cases hx
  ·split at hx
   ·simp only[List.mem_singleton]at hx;subst hx;exact hy
   ·cases hx
  ·exact Qr3 (fun x hx=>hl x (by simp[hx])) x hx
theorem Qwz{E:Int}{l:List Ze}{r:Ze}(h:RL E l):RL E (if rsB (-1) l=true/\Zej r=true then Qhj r l else l):=by
 split
 ·rename_i hc;exact⟨Qz4 hc.2 hc.1,Qr3 h.2⟩
 ·exact h
def Qe8(a b:Ze):List Ze:=if max a.1 b.1<min a.2.1 b.2.1 then[(max a.1 b.1,min a.2.1 b.2.1,())]else[]
theorem Z7j(K1: (List Ze×List Ze×List Ze×Int×Unit)->Option (List Ze×Unit))(a:List Ze)(i:Nat)(hi:i<a.length): ∀(N:Nat) (pre rest:List Ze) (out:List Ze),(pre++rest).length<=1000->rest.length<N->out.length+rest.length<=10000000000->
  Wo K1 N a (pre++rest) out (i:Int) (pre.length:Int)=K1 (a,pre++rest,out++rest.flatMap (Qe8 (a.getD i Zy)),IntKind.i64.wrap ((i:Int)+1),())
 |0,_,_,_,_,h,_=>by omega
 |N+1,pre,[],out,hl,hN,ho=>by
  unfold Wo;rw[Zm (by simp)];simp
 |N+1,pre,x::rest,out,hl,hN,ho=>by
  have hlen: (pre++x::rest).length=pre.length+rest.length+1:=by simp;omega
  simp only[List.length_cons]at hN ho;have g: ∀{ρ:Type} (m:Option ρ),Zi (0<=(pre.length:Int)/\(pre.length:Int)< ((pre++x::rest).length:Int)) m=m:=fun m=>Zb (by rw[hlen];omega);have g2: ∀{ρ:Type} (m:Option ρ),Zi (0<=(i:Int)/\(i:Int)< (a.length:Int)) m=m:=fun m=>Zb (by omega);have es: (pre++ [x])++rest=pre++x::rest:=by simp
  have el: ((pre++ [x]).length:Int)=((pre.length+1:Nat):Int):=by simp
  unfold Wo;rw[Zn (Zj (by rw[hlen];omega))];simp only[g,g2,Zb6,Je];rw[show(i:Int).toNat=i from rfl];unfold Zlp Zf1;simp only;rw[Zs (m:=pre.length+1) (by omega) (by omega)];by_cases h:max (a.getD i Zy).1 x.1<min (a.getD i Zy).2.1 x.2.1
  ·rw[Zn (Zj h),Zb (by unfold Qo;simp;omega)];have ih:=Z7j K1 a i hi N (pre++ [x]) rest (out++ [(max (a.getD i Zy).1 x.1,min (a.getD i Zy).2.1 x.2.1,())]) (by simp;omega) (by omega) (by simp;omega);rw[es,el]at ih;have hc:Qe8 (a.getD i Zy) x=[(max (a.getD i Zy).1 x.1,min (a.getD i Zy).2.1 x.2.1,())]:=if_pos h;rw[ih,List.flatMap_cons,hc,List.append_assoc]
  ·rw[Zm (Zk h)];have ih:=Z7j K1 a i hi N (pre++ [x]) rest out (by simp;omega) (by omega) (by omega);rw[es,el]at ih;have hc:Qe8 (a.getD i Zy) x=[]:=if_neg h;rw[ih,List.flatMap_cons,hc,List.nil_append]
theorem Qu1(a b:Ze): (Qe8 a b).length<=1:=by unfold Qe8;split<;>simp
theorem Zfq{α β:Type}{f:α->List β}{k:Nat}(hf: ∀x,(f x).length<=k): ∀l:List α,(l.flatMap f).length<=k*l.length
 | []=>by simp
 |x::l=>by
  have:=Zfq hf l;have:=hf x;rw[List.flatMap_cons,List.length_append,List.length_cons,Nat.mul_succ];omega
theorem Qmj(b:List Ze)(hb:b.length<=1000): ∀(N:Nat) (pre rest:List Ze) (out:List Ze),(pre++rest).length<=1048576->rest.length<N->out.length<=1000*pre.length->
  Jt N (pre++rest) b out (pre.length:Int)=some (out++ (if rsB (-1) (pre++rest)=true/\rsB (-1) b=true then rest.flatMap fun a=>b.flatMap (Qe8 a)else[]),())
 |0,_,_,_,_,h,_=>by omega
 |N+1,pre,[],out,hl,hN,ho=>by
  unfold Jt;simp
 |N+1,pre,x::rest,out,hl,hN,ho=>by
  have hlen: (pre++x::rest).length=pre.length+rest.length+1:=by simp;omega
  simp only[List.length_cons]at hN;unfold Jt;have hd:decide ((pre.length:Int)< ((pre++x::rest).length:Int))=true:=Zj (by rw[hlen];omega);rw[hd,Za8 _ (by omega),Za8 b (by omega)];simp only[Oct,Obs,Ota];cases h1:rsB (-1) (pre++x::rest)
  ·simp
  cases h2:rsB (-1) b
  ·simp
  simp only[Oct,Obs,Bool.and_self,and_self,if_true];have hx: (pre++x::rest).getD pre.length Zy=x:=Zb6 pre x rest Zy;have h:=Z7j (fun v=>Jt N v.1 v.2.1 v.2.2.1 v.2.2.2.1) (pre++x::rest) pre.length (by rw[hlen];omega) (Za4 (pre++x::rest) b out (pre.length:Int) 0) [] b out (by simpa using hb) (by unfold Za4;omega) (by omega);refine Eq.trans h ?_;rw[hx,Zs (m:=pre.length+1) (by omega) (by omega)];have hfl:=Zfq (fun y=>Qu1 x y) b;have ih:=Qmj b hb N (pre++ [x]) rest (out++b.flatMap (Qe8 x)) (by simp;omega) (by omega) (by rw[List.length_append,List.length_append];simp only[List.length_cons,List.length_nil];omega);rw[show(pre++ [x])++rest=pre++x::rest by simp,show((pre++ [x]).length:Int)=((pre.length+1:Nat):Int) by simp]at ih;simp only[List.nil_append];rw[ih,h1,h2];simp
theorem Zyc(a b:List Ze)(ha:a.length<=1048576)(hb:b.length<=1000):Zcq a b=some (if rsB (-1) a=true/\rsB (-1) b=true then a.flatMap fun x=>b.flatMap (Qe8 x)else[],()):=by
 have:=Qmj b hb (Za3 a b [] 0) [] a [] (by simpa using ha) (by unfold Za3;omega) (by simp);simpa[Zcq]using this
noncomputable def Zus(r:Yj):Bool:=match Vn r with|some (b,_)=>b|none=>false
theorem Qir(r:Yj): ∀(N i:Nat),r.2.2.2.1.length<=1048576->r.2.2.2.1.length-i<N->i<=r.2.2.2.1.length->
  ∃b,Zep N r (i:Int)=some (b,())/\(b=true-> ∀j,i<=j->j<r.2.2.2.1.length->0<=r.2.2.2.1.getD j 0/\r.2.2.2.1.getD j 0<=255)
 |0,_,_,h,_=>by omega
 |N+1,i,hl,hN,hi=>by
  unfold Zep;by_cases h:i<r.2.2.2.1.length
  ·rw[Zn (Zj (by omega)),Zb (by omega),show(i:Int).toNat=i from rfl];have e1:Z5 (r.2.2.2.1.getD i 0) 0 255=some (decide (r.2.2.2.1.getD i 0>=0)&&decide (r.2.2.2.1.getD i 0<=255),()):=rfl;rw[e1,Obs,Zs h (by omega)];obtain⟨b,h1,h2⟩:=Qir r N (i+1) hl (by omega) (by omega);cases hc:decide (r.2.2.2.1.getD i 0>=0)&&decide (r.2.2.2.1.getD i 0<=255)
   ·exact⟨false,rfl,by simp⟩
   ·simp only[Oba,decide_eq_true_eq]at hc;refine⟨b,h1,fun hb j hj hj2=> ?_⟩;by_cases e:j=i
    ·subst e;exact⟨hc.1,hc.2⟩
    ·exact h2 hb j (by omega) hj2
  ·rw[Zm (Zk (by omega))];exact⟨true,rfl,fun _ j hj hj2=>by omega⟩
theorem Zy0(r:Yj)(hl:r.2.2.2.1.length<=1048576):Vn r=some (Zus r,())/\(Zus r=true->(0<r.1/\r.1<=64)/\(r.2.2.2.1.length:Int)=r.1/\0<=r.2.1/\r.2.1<=r.2.2.1/\r.2.2.1-r.2.1<=r.1/\r.2.2.1<=4611686018427387903/\
  ∀j,j<r.2.2.2.1.length->0<=r.2.2.2.1.getD j 0/\r.2.2.2.1.getD j 0<=255):=by
 have key: ∃b,Vn r=some (b,())/\(b=true->(0<r.1/\r.1<=64)/\(r.2.2.2.1.length:Int)=r.1/\0<=r.2.1/\r.2.1<=r.2.2.1/\r.2.2.1-r.2.1<=r.1/\r.2.2.1<=4611686018427387903/\
   ∀j,j<r.2.2.2.1.length->0<=r.2.2.2.1.getD j 0/\r.2.2.2.1.getD j 0<=255):=by
  unfold Vn Jl;simp only[Obs];generalize hp: (((decide (r.1>(0:Int)))&& (decide (r.1<=(64:Int))))&& ((bits .and .i64 r.1 (IntKind.i64.wrap (r.1- (1:Int))))==(0:Int)))=p;generalize hc: ((((((!p)|| ((r.2.2.2.1.length:Int) !=r.1))|| (decide (r.2.1< (0:Int))))|| (decide (r.2.2.1<r.2.1)))|| (decide ((IntKind.i64.wrap (r.2.2.1-r.2.1))>r.1)))|| (decide (r.2.2.1>(4611686018427387903:Int))))=c;cases c
  ·simp only[Bool.or_eq_false_iff,Bool.not_eq_false',decide_eq_false_iff_not,bne_eq_false_iff_eq]at hc;obtain⟨⟨⟨⟨⟨c1,c2⟩,c3⟩,c4⟩,c5⟩,c6⟩:=hc;subst c1;simp only[Oba,decide_eq_true_eq]at hp;rw[Zv (by omega) (by omega)]at c5;obtain⟨b,h1,h2⟩:=Qir r (Vi r 0) 0 hl (by unfold Vi;omega) (by omega);refine⟨b,h1,fun hb=>⟨⟨by omega,by omega⟩,by omega,by omega,by omega,by omega,by omega,fun j hj=>h2 hb j (by omega) hj⟩⟩
  ·exact⟨false,rfl,by simp⟩
 obtain⟨b,h1,h2⟩:=key;have e:Zus r=b:=by unfold Zus;rw[h1]
 rw[e];exact⟨h1,h2⟩
theorem Qxo(r:Yj)(hl:r.2.2.2.1.length<=1048576):Zoy r=some (r,()):=by
 unfold Zoy;rw[Zb (by unfold Qo;simp;omega)];simp
theorem Quj{x n:Int}(hx:0<=x)(hn:0<n):0<=Int.tmod x n/\Int.tmod x n<n:=by
 rw[Int.tmod_eq_emod_of_nonneg hx];exact⟨Int.emod_nonneg _ (by omega),Int.emod_lt_of_pos _ hn⟩
theorem Z35(d:List UInt8)(r t4:Yj)(hr:0<r.1)(hE:0<=r.2.2.1)(hd:d.length<=1048576)(n:Nat)(hE2:r.2.2.1+n<=4611686018427387903)(hn:n<=d.length):
  ∀(N i:Nat) (x:Yj),(x.2.2.2.1.length:Int)=r.1->n-i<N->i<=n->
   ∃cs,Zaf N d r t4 x (n:Int) (i:Int)=some ((x.1,x.2.1,IntKind.i64.wrap (r.2.2.1+n),cs,x.2.2.2.2),(n:Int),())/\cs.length=x.2.2.2.1.length
 |0,_,_,_,h,_=>by omega
 |N+1,i,x,hx,hN,hi=>by
  unfold Zaf;by_cases h:i<n
  ·have hm:=Quj (x:=r.2.2.1+ (i:Int)) (n:=r.1) (by omega) hr;rw[Zn (Zj (by omega)),Zb (by omega),Zv (by omega) (by omega)];simp only;rw[Zb (by omega),Zb (by omega),Zs (m:=n) h (by omega)];obtain⟨cs,h1,h2⟩:=Z35 d r t4 hr hE hd n hE2 hn N (i+1) (x.1,(x.2.1,(x.2.2.1,(x.2.2.2.1.set (Int.tmod (r.2.2.1+ (i:Int)) r.1).toNat (IntKind.i64.wrap ((d.getD (i:Int).toNat 0).toNat:Int)),x.2.2.2.2)))) (by simp only[List.length_set];exact hx) (by omega) (by omega);exact⟨cs,h1,by rw[h2];simp only[List.length_set]⟩
  ·have:i=n:=by omega
   subst this;rw[Zm (Zk (by omega))];exact⟨x.2.2.2.1,rfl,rfl⟩
theorem Q13(r:Yj)(d:List UInt8)(hl:r.2.2.2.1.length<=1048576)(hd:d.length<=1048576)(hE:0<=r.2.2.1)(hE2:r.2.2.1<=4611686018427387903):
  ∃cs,∃n:Nat,Zp6 r d=some ((r.1,r.2.1,r.2.2.1+n,cs,()),(n:Int),())/\n<=d.length/\cs.length=r.2.2.2.1.length/\r.2.2.1+n<=4611686018427387903:=by
 obtain⟨h1,h2⟩:=Zy0 r hl;unfold Zp6 Z3w;rw[Qxo r hl,h1];simp only[Obs];cases hb:Zus r
 ·simp only[Bool.not_false,Oct,Obs];rw[show min (0:Int) (d.length:Int)=0 by omega];refine⟨r.2.2.2.1,0,?_,by omega,rfl,by simpa using hE2⟩;show Zaf 1 d r _ r 0 0=_;unfold Zaf;rw[Zm (by decide)];rw[Zv (by omega) (by omega)];simp
 ·obtain⟨⟨a1,a2⟩,a3,a4,a5,a6,a7,a8⟩:=h2 hb;simp only[Ont,Ocf,Obs];rw[show IntKind.i64.wrap (r.2.2.1-r.2.1)=r.2.2.1-r.2.1 from Zv (by omega) (by omega),Zv (by omega) (by omega),Zv (by omega) (by omega)];obtain⟨n,hn⟩: ∃n:Nat,min (min (r.1- (r.2.2.1-r.2.1)) (4611686018427387903-r.2.2.1)) (d.length:Int)=(n:Int):=⟨(min (min (r.1- (r.2.2.1-r.2.1)) (4611686018427387903-r.2.2.1)) (d.length:Int)).toNat,by omega⟩
  rw[hn];obtain⟨cs,k1,k2⟩:=Z35 d r ((0:Int),((0:Int),((0:Int),(([]:List Int),())))) a1 hE hd n (by omega) (by omega) (Zdo d r ((0:Int),((0:Int),((0:Int),(([]:List Int),())))) r (n:Int) 0) 0 r a3 (by unfold Zdo;omega) (by omega);refine⟨cs,n,?_,by omega,k2,by omega⟩;refine Eq.trans k1 ?_;rw[Zv (by omega) (by omega)]
theorem Qxn(n:Int): ∃s,Zi6 n=some (s,())/\s.length<=1:=by
 unfold Zi6 Zmg;generalize bits .and .i64 n (255:Int)=m;rw[show Z5 1 1 7=some (true,())from rfl];simp only[Obs,Ont,Bool.false_or];by_cases h:m<0
 ·rw[Zn (Zj h)];exact⟨[],rfl,by simp⟩
 ·rw[Zm (Zk h)];show ∃s,Option.bind (Y6 2 m 1 [] 0) _=_/\_;unfold Y6;rw[Zn (by decide),Zb (by decide)];simp only;rw[Zb (by unfold Zqi Zl6;simp),Zb (by decide)];unfold Y6;rw[show IntKind.i64.wrap ((0:Int)+1)=1 from rfl,Zm (by decide)];cases decide (IntKind.i64.wrap (Int.tdiv m 256)>0)
  ·exact⟨_,rfl,by simp[Zl6]⟩
  ·exact⟨_,rfl,by simp⟩
theorem Z66(o n:Nat)(r:Yj)(hr:0<r.1)(hl: (r.2.2.2.1.length:Int)=r.1)(ho:o+n<=4611686018427387903)(hn:n<=64): ∀(N i:Nat) (s:List UInt8),n-i<N->i<=n->s.length<=i->
  ∃t,Zip N (o:Int) (n:Int) r s (i:Int)=some (t,true,())/\t.length<=n
 |0,_,_,h,_,_=>by omega
 |N+1,i,s,hN,hi,hs=>by
  unfold Zip;by_cases h:i<n
  ·have hm:=Quj (x:=(o:Int)+ (i:Int)) (n:=r.1) (by omega) hr;rw[Zn (Zj (by omega)),Zb (by omega),Zv (by omega) (by omega)];simp only;rw[Zb (by omega)];obtain⟨t,h1,h2⟩:=Qxn (r.2.2.2.1.getD (Int.tmod ((o:Int)+ (i:Int)) r.1).toNat 0);rw[h1,Obs,Zb (by unfold Zqi;simp only;omega),Zs (m:=n) h (by omega)];exact Z66 o n r hr hl ho hn N (i+1) (s++t) (by omega) (by omega) (by simp;omega)
  ·rw[Zm (Zk (by omega))];exact⟨s,rfl,by omega⟩
theorem Q4g(r:Yj)(o n:Int)(hl:r.2.2.2.1.length<=1048576): ∃t ok,Zrc r o n=some (t,ok,())/\(t.length:Int)<=max n 0/\t.length<=64:=by
 obtain⟨h1,h2⟩:=Zy0 r hl;unfold Zrc;rw[h1,Obs];generalize hc: (((((!Zus r)|| (decide (o<r.2.1)))|| (decide (n< (0:Int))))|| (decide (o>r.2.2.1)))|| (decide (n>(IntKind.i64.wrap (r.2.2.1-o)))))=c;cases c
 ·simp only[Bool.or_eq_false_iff,Bool.not_eq_false',decide_eq_false_iff_not]at hc;obtain⟨⟨⟨⟨c1,c2⟩,c3⟩,c4⟩,c5⟩:=hc;obtain⟨⟨a1,a2⟩,a3,a4,a5,a6,a7,a8⟩:=h2 c1;rw[Zv (by omega) (by omega)]at c5;obtain⟨o,rfl⟩:=Int.eq_ofNat_of_zero_le (a:=o) (by omega);obtain⟨n,rfl⟩:=Int.eq_ofNat_of_zero_le (a:=n) (by omega);obtain⟨t,k1,k2⟩:=Z66 o n r a1 a3 (by omega) (by omega) (Ze4 (o:Int) (n:Int) r [] 0) 0 [] (by unfold Ze4;omega) (by omega) (by simp);exact⟨t,true,k1,by omega,by omega⟩
 ·exact⟨[],false,rfl,by simp;omega,by simp⟩
theorem Z6w(dt:Nat)(r t4:Yj)(hr:0<r.1)(hdt:dt<=4611686018427387903): ∀(N i:Nat) (x:Yj),(x.2.2.2.1.length:Int)=r.1->dt-i<N->i<=dt->
  ∃cs,Zib N (dt:Int) r t4 x (i:Int)=some ((x.1,(dt:Int),x.2.2.1,cs,x.2.2.2.2),true,())/\cs.length=x.2.2.2.1.length
 |0,_,_,_,h,_=>by omega
 |N+1,i,x,hx,hN,hi=>by
  unfold Zib;by_cases h:i<dt
  ·have hm:=Quj (x:=(i:Int)) (n:=r.1) (by omega) hr;rw[Zn (Zj (by omega)),Zb (by omega),Zb (by omega),Zs (m:=dt) h (by omega)];obtain⟨cs,h1,h2⟩:=Z6w dt r t4 hr hdt N (i+1) (x.1,(x.2.1,(x.2.2.1,(x.2.2.2.1.set (Int.tmod (i:Int) r.1).toNat (0:Int),x.2.2.2.2)))) (by simp only[List.length_set];exact hx) (by omega) (by omega);exact⟨cs,h1,by rw[h2];simp only[List.length_set]⟩
  ·have:i=dt:=by omega
   subst this;rw[Zm (Zk (by omega))];exact⟨x.2.2.2.1,rfl,rfl⟩
theorem Q26(r:Yj)(dt:Int)(hl:r.2.2.2.1.length<=1048576): ∃cs b ok,Znd r dt=some ((r.1,b,r.2.2.1,cs,()),ok,())/\cs.length=r.2.2.2.1.length:=by
 obtain⟨h1,h2⟩:=Zy0 r hl;unfold Znd;rw[Qxo r hl,h1];simp only[Obs];generalize hc: (((!Zus r)|| (decide (dt<r.2.1)))|| (decide (dt>r.2.2.1)))=c;cases c
 ·simp only[Bool.or_eq_false_iff,Bool.not_eq_false',decide_eq_false_iff_not]at hc;obtain⟨⟨c1,c2⟩,c3⟩:=hc;obtain⟨⟨a1,a2⟩,a3,a4,a5,a6,a7,a8⟩:=h2 c1;obtain⟨dt,rfl⟩:=Int.eq_ofNat_of_zero_le (a:=dt) (by omega);obtain⟨bs,hbs⟩:=Int.eq_ofNat_of_zero_le (a:=r.2.1) (by omega);obtain⟨cs,k1,k2⟩:=Z6w dt r ((0:Int),((0:Int),((0:Int),(([]:List Int),())))) a1 (by omega) (Ze2 (dt:Int) r ((0:Int),((0:Int),((0:Int),(([]:List Int),())))) r r.2.1) bs r a3 (by unfold Ze2;omega) (by omega);rw[<-hbs]at k1;exact⟨cs,dt,true,k1,k2⟩
 ·exact⟨r.2.2.2.1,r.2.1,false,rfl,rfl⟩
def Z16:List Ze->Int->Int| [],f=>f|x::l,f=>Z16 l (if x.1<=f/\f<x.2.1 then x.2.1 else f)
theorem Qrh: ∀(N:Nat) (pre rest:List Ze) (f:Int),(pre++rest).length<=1048576->rest.length<N->J7 N (pre++rest) f (pre.length:Int)=some (Z16 rest f,())
 |0,_,_,_,_,h=>by omega
 |N+1,pre,[],f,hl,hN=>by
  unfold J7;rw[Zm (by simp)];rfl
 |N+1,pre,x::rest,f,hl,hN=>by
  have hlen: (pre++x::rest).length=pre.length+rest.length+1:=by simp;omega
  simp only[List.length_cons]at hN;have g: ∀{ρ:Type} (m:Option ρ),Zi (0<=(pre.length:Int)/\(pre.length:Int)< ((pre++x::rest).length:Int)) m=m:=fun m=>Zb (by rw[hlen];omega);have es: (pre++ [x])++rest=pre++x::rest:=by simp
  have el: ((pre++ [x]).length:Int)=((pre.length+1:Nat):Int):=by simp
  unfold J7 Zig;rw[Zn (Zj (by rw[hlen];omega))];simp only[g,Zb6];rw[Zb (fun _=>by rw[hlen];omega),Zs (m:=pre.length+1) (by omega) (by omega)];have ih:=fun f=>Qrh N (pre++ [x]) rest f (by simp;omega) (by omega);simp only[es,el]at ih;by_cases h:x.1<=f/\f<x.2.1
  ·rw[Zn (by simp;omega),ih];simp only[Z16];rw[if_pos h]
  ·rw[Zm (by rw[Bool.and_eq_false_iff,decide_eq_false_iff_not,decide_eq_false_iff_not];omega),ih];simp only[Z16];rw[if_neg h]
theorem Qb9(l:List Ze)(f:Int)(hl:l.length<=1048576):Zgt l f=some (if rsB (-1) l=true/\0<=f then Z16 l f else-1,()):=by
 unfold Zgt;rw[Za8 l hl,Obs];cases h1:rsB (-1) l
 ·simp
 ·by_cases h2:f<0
  ·rw[Zn (by simp[h2]),if_neg (by omega)]
  ·rw[Zm (by simp;omega),if_pos ⟨rfl,by omega⟩];exact Qrh _ [] l f (by simpa using hl) (by unfold Zkn;omega)
def Jp:List Ze->Int| []=>0|x::l=>(x.2.1-x.1)+Jp l
theorem Qu0: ∀(N:Nat) (pre rest:List Ze) (lo n:Int),(pre++rest).length<=1048576->rest.length<N->rsB lo rest=true->0<=n->n<=max lo 0->n<=4611686018427387903->Kk N (pre++rest) n (pre.length:Int)=some (n+Jp rest,())
 |0,_,_,_,_,_,h,_,_,_,_=>by omega
 |N+1,pre,[],lo,n,hl,hN,_,_,_,_=>by
  unfold Kk;rw[Zm (by simp)];simp[Jp]
 |N+1,pre,x::rest,lo,n,hl,hN,hx,h0,h1,h2=>by
  have hlen: (pre++x::rest).length=pre.length+rest.length+1:=by simp;omega
  simp only[List.length_cons]at hN;obtain⟨hf,hlo,hrest⟩:=Vg.1 hx;have hf:=Ql.1 hf;have g: ∀{ρ:Type} (m:Option ρ),Zi (0<=(pre.length:Int)/\(pre.length:Int)< ((pre++x::rest).length:Int)) m=m:=fun m=>Zb (by rw[hlen];omega);unfold Kk;rw[Zn (Zj (by rw[hlen];omega))];simp only[g,Zb6];rw[Zs (m:=pre.length+1) (by omega) (by omega),show IntKind.i64.wrap (n+x.2.1)=n+x.2.1 from Zv (by omega) (by omega),Zv (by omega) (by omega)];have ih:=Qu0 N (pre++ [x]) rest x.2.1 (n+x.2.1-x.1) (by simp;omega) (by omega) hrest (by omega) (by omega) (by omega);rw[show(pre++ [x])++rest=pre++x::rest by simp,show((pre++ [x]).length:Int)=((pre.length+1:Nat):Int) by simp]at ih;rw[ih];simp only[Jp];congr 2;omega
theorem Zdj(l:List Ze)(hl:l.length<=1048576):Vl l=some (if rsB (-1) l=true then Jp l else-1,()):=by
 unfold Vl;rw[Za8 l hl,Obs];cases h1:rsB (-1) l
 ·simp
 ·have:=Qu0 (Za5 l 0 0) [] l (-1) 0 (by simpa using hl) (by unfold Za5;omega) h1 (by omega) (by omega) (by omega);simp only[Ont,Ocf,if_true];refine Eq.trans this ?_;simp
abbrev Q1p(s:Zo):Int:=s.2.1.2.2.1
structure Za6(K:Int)(s:Zo):Prop where
 cells:s.2.1.2.2.2.1.length<=64
 e0:0<=s.2.1.2.2.1
 eK:s.2.1.2.2.1<=K
 pend:RL s.2.1.2.2.1 s.2.2.1
 flight:RL s.2.1.2.2.1 s.2.2.2.1
 acked:RL s.2.1.2.2.1 s.2.2.2.2.1
theorem Za6.mono{K K':Int}{s:Zo}(h:Za6 K s)(hK:K<=K'):Za6 K' s:={h with eK:=Int.le_trans h.eK hK}
theorem Qz{E K:Int}{l:List Ze}(h:RL E l)(h0:0<=E)(hE:E<=K)(hK:K<=1000000):l.length<=1000001:=by
 have:=Q8i h (by omega);omega
theorem Qh{α:Type}{l:List α}{i:Nat}{d:α}(h:i<l.length):l.getD i d∈l:=by
 rw[List.getD_eq_getElem?_getD,List.getElem?_eq_getElem h];exact List.getElem_mem h
theorem Zsd{K:Int}{s:Zo}(h:Za6 K s)(hK:K<=1000000):Zci s=some (s,()):=by
 unfold Zci;rw[Qxo _ (by have:=h.cells;omega),Z8o _ (Nat.le_trans (Qz h.pend h.e0 h.eK hK) (by omega)),Obs,Z8o _ (Nat.le_trans (Qz h.flight h.e0 h.eK hK) (by omega)),Obs,Obs,Z8o _ (Nat.le_trans (Qz h.acked h.e0 h.eK hK) (by omega)),Obs]
theorem Qcr(s:Zo): ∃k,Zaj s=some (k,()):=by
 unfold Zaj;cases (s.2.2.2.2.2.2.1==(3:Int))&& (s.2.1.2.1==s.2.1.2.2.1)
 ·cases (decide (s.2.2.2.2.2.2.1>(1:Int)))|| ((s.2.2.2.2.2.2.1==(1:Int))&& (s.1==(2:Int)))
  ·cases (decide (s.2.2.2.2.2.2.2.1>(0:Int)))|| ((s.2.2.2.2.2.2.1==(1:Int))&& (s.1==(1:Int)))<;>exact⟨_,rfl⟩
  ·exact⟨_,rfl⟩
 ·exact⟨_,rfl⟩
theorem Qiv(s:Zo)(hl:s.2.2.2.2.1.length<=1048576): ∀(N i:Nat),s.2.2.2.2.1.length-i<N->i<=s.2.2.2.2.1.length-> ∃b,Zbv N s (i:Int)=some (b,())
 |0,_,h,_=>by omega
 |N+1,i,hN,hi=>by
  unfold Zbv;by_cases h:i<s.2.2.2.2.1.length
  ·rw[Zn (Zj (by omega)),Zb (by omega),Zs h (by omega)];cases decide ((s.2.2.2.2.1.getD (i:Int).toNat Zy).2.1>s.2.2.2.2.2.2.2.1)
   ·exact Qiv s hl N (i+1) (by omega) (by omega)
   ·exact⟨_,rfl⟩
  ·rw[Zm (Zk (by omega))];obtain⟨k,hk⟩:=Qcr s;rw[hk];generalize ((!((s.2.2.2.2.2.2.1==(0:Int))==(s.2.2.2.2.2.1==(-1:Int))))|| ((s.2.2.2.2.2.1 !=(-1:Int))&& (s.2.2.2.2.2.1 !=s.2.1.2.2.1)))=c;cases c<;>exact⟨_,rfl⟩
theorem Qiu(s:Zo)(hl:s.2.2.2.1.length<=1048576)(hl2:s.2.2.2.2.1.length<=1048576): ∀(N i:Nat),s.2.2.2.1.length-i<N->i<=s.2.2.2.1.length-> ∃b,Zbu N s (i:Int)=some (b,())
 |0,_,h,_=>by omega
 |N+1,i,hN,hi=>by
  unfold Zbu;by_cases h:i<s.2.2.2.1.length
  ·rw[Zn (Zj (by omega)),Zb (by omega),Zs h (by omega)];cases decide ((s.2.2.2.1.getD (i:Int).toNat Zy).2.1>s.2.2.2.2.2.2.2.1)
   ·exact Qiu s hl hl2 N (i+1) (by omega) (by omega)
   ·exact⟨_,rfl⟩
  ·rw[Zm (Zk (by omega))];exact Qiv s hl2 _ 0 (by unfold Ze3;omega) (by omega)
theorem Quz{l:List Ze}(h:Jp l≠0):0<l.length:=by
 cases l with
 |nil=>exact absurd rfl h
 |cons=>simp
theorem Qit{K:Int}{s:Zo}(hs:Za6 K s)(hK:K<=1000000): ∀(N i:Nat) (all:List Ze),RL (Q1p s) all->s.2.2.2.2.1.length-i<N->i<=s.2.2.2.2.1.length-> ∃b,Zbt N s all (i:Int)=some (b,())
 |0,_,_,_,h,_=>by omega
 |N+1,i,all,ha,hN,hi=>by
  have la:=Qz ha hs.e0 hs.eK hK;have l1:=Qz hs.pend hs.e0 hs.eK hK;have l2:=Qz hs.flight hs.e0 hs.eK hK;have l3:=Qz hs.acked hs.e0 hs.eK hK;unfold Zbt;by_cases h:i<s.2.2.2.2.1.length
  ·rw[Zn (Zj (by omega)),Zb (by omega),Zs h (by omega),Zm3 _ _ (by omega),Obs];exact Qit hs hK N (i+1) _ (Zx8 ha (hs.acked.2 _ (Qh h))) (by omega) (by omega)
  ·rw[Zm (Zk (by omega)),Zdj _ (by omega),Zdj _ (by omega),Zdj _ (by omega),Zdj _ (by omega),Qb9 _ _ (by omega)];simp only[Obs,ha.1,if_true];rw[Zb (fun h1 h2=>by
    simp only[Bool.or_eq_false_iff,bne_eq_false_iff_eq,decide_eq_true_eq]at h1 h2;have:=Quz (l:=all) (by omega);omega)]
   generalize hc: ((Jp all !=s.2.1.2.2.1||_)||_)=c;cases c
   ·simp only[Ocf,Obs];generalize ((false||_)||_)=c2;cases c2
    ·exact Qiu s (by omega) (by omega) _ 0 (by unfold Zbk;omega) (by omega)
    ·exact⟨_,rfl⟩
   ·simp only[Oct,Obs,Bool.true_or];exact⟨_,rfl⟩
theorem Qis{K:Int}{s:Zo}(hs:Za6 K s)(hK:K<=1000000): ∀(N i:Nat) (all:List Ze),RL (Q1p s) all->s.2.2.2.1.length-i<N->i<=s.2.2.2.1.length-> ∃b,Zbs N s all (i:Int)=some (b,())
 |0,_,_,_,h,_=>by omega
 |N+1,i,all,ha,hN,hi=>by
  have la:=Qz ha hs.e0 hs.eK hK;have l2:=Qz hs.flight hs.e0 hs.eK hK;unfold Zbs;by_cases h:i<s.2.2.2.1.length
  ·rw[Zn (Zj (by omega)),Zb (by omega),Zs h (by omega),Zm3 _ _ (by omega),Obs];exact Qis hs hK N (i+1) _ (Zx8 ha (hs.flight.2 _ (Qh h))) (by omega) (by omega)
  ·rw[Zm (Zk (by omega))];exact Qit hs hK _ 0 all ha (by unfold Zbj;omega) (by omega)
theorem Zhy{K:Int}{s:Zo}(hs:Za6 K s)(hK:K<=1000000): ∃b,Xz s=some (b,())/\(b=true->Zus s.2.1=true/\0<=s.2.2.2.2.2.2.2.1/\s.2.2.2.2.2.2.2.1<=s.2.1.2.2.1):=by
 have l1:=Qz hs.pend hs.e0 hs.eK hK;have l2:=Qz hs.flight hs.e0 hs.eK hK;have l3:=Qz hs.acked hs.e0 hs.eK hK;have hr:=(Zy0 s.2.1 (by have:=hs.cells;omega)).1;obtain⟨b1,h1⟩:=Qis hs hK (Y3 s s.2.2.1 0) 0 s.2.2.1 hs.pend (by unfold Y3;omega) (by omega);unfold Xz;rw[hr,Za8 _ (by omega),Za8 _ (by omega),Za8 _ (by omega)];have e1:Z5 s.2.2.2.2.2.2.2.1 0 s.2.1.2.2.1=some (decide (s.2.2.2.2.2.2.2.1>=0)&&decide (s.2.2.2.2.2.2.2.1<=s.2.1.2.2.1),()):=rfl;have e2:Qf s.2.2.2.2.2.2.2.2.1=some (decide (s.2.2.2.2.2.2.2.2.1>=0)&&decide (s.2.2.2.2.2.2.2.2.1<=4611686018427387903),()):=rfl;have e3:Z5 s.2.2.2.2.2.2.1 0 3=some (decide (s.2.2.2.2.2.2.1>=0)&&decide (s.2.2.2.2.2.2.1<=3),()):=rfl;simp only[hs.pend.1,hs.flight.1,hs.acked.1,e1,e2,e3,Obs];cases Zus s.2.1
 ·exact⟨false,rfl,by simp⟩
 simp only[Ont,Ocf,Obs,Bool.false_or];by_cases hsent:0<=s.2.2.2.2.2.2.2.1/\s.2.2.2.2.2.2.2.1<=s.2.1.2.2.1
 ·simp only[show decide (s.2.2.2.2.2.2.2.1>=0)=true from Zj (by omega),show decide (s.2.2.2.2.2.2.2.1<=s.2.1.2.2.1)=true from Zj hsent.2,Bool.and_self,Ont,Ocf,Obs,Bool.false_or];generalize (decide (s.2.2.2.2.2.2.2.2.1>=0)&&decide (s.2.2.2.2.2.2.2.2.1<=4611686018427387903))=c1;generalize (decide (s.2.2.2.2.2.2.1>=0)&&decide (s.2.2.2.2.2.2.1<=3))=c2;cases c1
  ·exact⟨false,rfl,by simp⟩
  cases c2
  ·exact⟨false,rfl,by simp⟩
  simp only[Ont,Ocf,Obs,Bool.or_self];generalize ((s.1==(4:Int))|| (s.1==(5:Int)))=c3;cases c3
  ·exact⟨b1,h1,fun _=>⟨trivial,hsent.1,hsent.2⟩⟩
  ·exact⟨_,rfl,fun _=>⟨trivial,hsent.1,hsent.2⟩⟩
 ·have: (decide (s.2.2.2.2.2.2.2.1>=0)&&decide (s.2.2.2.2.2.2.2.1<=s.2.1.2.2.1))=false:=by
   rw[Bool.and_eq_false_iff,decide_eq_false_iff_not,decide_eq_false_iff_not];omega
  rw[this];exact⟨false,rfl,by simp⟩
theorem Qwx{K:Int}{s:Zo}(h:Za6 K s)(d:List UInt8)(hK:K+d.length<=1000000):
  ∃x n,Zmk s d=some (x,n,())/\Za6 (K+d.length) x:=by
 have h0:=h.e0;have hcl:=h.cells;have heK:=h.eK;obtain⟨b,h1,-⟩:=Zhy h (by omega);have lp:=Qz h.pend h0 heK (by omega);unfold Zmk;rw[Zsd h (by omega),h1];simp only[Obs];generalize (((!b)|| (decide (s.1>(1:Int))))|| (s.2.2.2.2.2.1 !=(-1:Int)))=c;cases c
 ·obtain⟨cs,n,k1,k2,k3,k4⟩:=Q13 s.2.1 d (by omega) (by omega) h0 (by omega);rw[Ocf,k1,Obs];unfold Zhg;have add:RL (s.2.1.2.2.1+n) s.2.2.2.1/\RL (s.2.1.2.2.1+n) s.2.2.2.2.1:=⟨Qlb h.flight (by omega),Qlb h.acked (by omega)⟩
  by_cases hn: (n:Int)>0
  ·rw[Zn (Zj hn),Zm3 _ _ (by omega),Obs];exact⟨_,_,rfl,{cells:=(by simp only;omega),e0:=(by simp only;omega),eK:=(by simp only;omega),pend:=Zx8 (Qlb h.pend (by simp only;omega)) (by simp only;omega),flight:=add.1,acked:=add.2}⟩
  ·rw[Zm (Zk hn)];exact⟨_,_,rfl,{cells:=(by simp only;omega),e0:=(by simp only;omega),eK:=(by simp only;omega),pend:=Qlb h.pend (by simp only;omega),flight:=add.1,acked:=add.2}⟩
 ·exact⟨s,0,rfl,h.mono (by omega)⟩
theorem Quy{K:Int}{s:Zo}(h:Za6 K s)(hK:K<=1000000): ∃x ok,Zmf s=some (x,ok,())/\Za6 K x:=by
 obtain⟨b,h1,-⟩:=Zhy h hK;unfold Zmf;rw[Zsd h hK,h1];simp only[Obs];generalize (((!b)|| (decide (s.1>(1:Int))))|| (s.2.2.2.2.2.1 !=(-1:Int)))=c;cases c
 ·exact⟨_,_,rfl,{cells:=h.cells,e0:=h.e0,eK:=h.eK,pend:=h.pend,flight:=h.flight,acked:=h.acked}⟩
 ·exact⟨s,false,rfl,h⟩
theorem Zr4(E:Int):RL E []:=⟨rfl,by simp⟩
theorem Zrx{K:Int}{s:Zo}(h:Za6 K s)(code:Int)(hK:K<=1000000): ∃x ok,K0 s code=some (x,ok,())/\Za6 K x:=by
 have hcl:=h.cells;have heK:=h.eK;obtain⟨b,h1,h2⟩:=Zhy h hK;unfold K0;rw[h1];simp only[Obs];have e2:Qf code=some (decide (code>=0)&&decide (code<=4611686018427387903),()):=rfl;rw[e2];cases b
 ·simp only[Bool.not_false,Bool.true_or,Oct,Obs];rw[Zsd h hK];exact⟨s,false,rfl,h⟩
 ·obtain⟨hr,hs0,hsE⟩:=h2 rfl;obtain⟨⟨a1,a2⟩,-⟩:=(Zy0 s.2.1 (by omega)).2 hr;simp only[Ont,Bool.false_or];generalize (decide (code>=0)&&decide (code<=4611686018427387903))=q;cases decide (s.1>2)
  ·cases q
   ·simp only[Ocf,Obs,Bool.not_false,Bool.false_or,Oct];rw[Zsd h hK];exact⟨s,false,rfl,h⟩
   ·simp only[Ocf,Obs,Ont,Bool.or_self,Je,Zja];rw[Zb (by unfold Qo;omega)];exact⟨_,_,rfl,{cells:=(by simp;omega),e0:=hs0,eK:=(by simp only;omega),pend:=Zr4 _,flight:=Zr4 _,acked:=Zr4 _}⟩
  ·simp only[Oct,Obs,Bool.true_or];rw[Zsd h hK];exact⟨s,false,rfl,h⟩
theorem Q1d{K:Int}{s:Zo}(h:Za6 K s)(most limit:Int)(hK:K<=1000000): ∃p ok,Zp3 s most limit=some (p,ok,())/\p.2.1.length<=64:=by
 have hcl:=h.cells;obtain⟨b,h1,h2⟩:=Zhy h hK;unfold Zp3;rw[h1];simp only[Obs];have j1: ∀t p8 r hi,∃p ok,Zf8 s t p8 r hi=some (p,ok,())/\p.2.1.length<=64:=by
  intro t p8 r hi;unfold Zf8;by_cases hc:hi<=r.1
  ·rw[Zn (Zj hc)];exact⟨_,_,rfl,Nat.zero_le _⟩
  ·rw[Zm (Zk hc)];obtain⟨t,ok,k1,k2,k3⟩:=Q4g s.2.1 r.1 (IntKind.i64.wrap (hi-r.1)) (by omega);rw[k1,Obs];exact⟨_,_,rfl,k3⟩
 generalize ((!b)|| (decide (s.1>(2:Int))))=c;cases c
 ·simp only[Ocf];by_cases hp: (s.2.2.1.length:Int)>0
  ·rw[Zn (Zj hp),Zb (by omega)];generalize decide (min (s.2.2.1.getD (0:Int).toNat Zy).2.1 limit<=(s.2.2.1.getD (0:Int).toNat Zy).1)=c1;cases c1
   ·simp only[Ocf];generalize decide (most<IntKind.i64.wrap (min (s.2.2.1.getD (0:Int).toNat Zy).2.1 limit- (s.2.2.1.getD (0:Int).toNat Zy).1))=c2;cases c2
    ·exact j1 Zqa _ _ _
    ·exact j1 Zqa _ _ _
   ·exact⟨_,_,rfl,Nat.zero_le _⟩
  ·rw[Zm (Zk hp)];cases s.2.2.2.2.2.2.1==(1:Int)
   ·exact⟨_,_,rfl,Nat.zero_le _⟩
   ·exact⟨_,_,rfl,Nat.zero_le _⟩
 ·exact⟨_,_,rfl,Nat.zero_le _⟩
theorem Qtp(s:Zo)(p:Ks)(hE0:0<=s.2.1.2.2.1)(hE:s.2.1.2.2.1<=1000000): ∃b,Zp9 s p=some (b,())/\(b=true->0<=p.1/\p.1+ (p.2.1.length:Int)<=s.2.1.2.2.1):=by
 refine⟨_,rfl,fun hb=> ?_⟩;simp only[Oba,decide_eq_true_eq]at hb;obtain⟨⟨⟨b1,b2⟩,b3⟩,-⟩:=hb;rw[Zv (by omega) (by omega)]at b3;omega
theorem Qtq{p:Ks}(h0:0<=p.1)(h1:p.1+ (p.2.1.length:Int)<=1000000):Zms p=some ((p.1,p.1+ (p.2.1.length:Int),()),()):=by
 unfold Zms;rw[Zv (by omega) (by omega)]
theorem Q1s{K:Int}{s:Zo}(h:Za6 K s)(p:Ks)(hK:K<=1000000): ∃x ok,Zp4 s p=some (x,ok,())/\Za6 K x:=by
 have h0:=h.e0;have heK:=h.eK;have lp:=Qz h.pend h0 heK hK;have lf:=Qz h.flight h0 heK hK;obtain⟨b,h1,h2⟩:=Zhy h hK;obtain⟨b2,h3,h4⟩:=Qtp s p h0 (by omega);have j2: ∀t x,Za6 K x-> ∃y ok,Zgb t x=some (y,ok,())/\Za6 K y:=by
  intro t x hx;unfold Zgb;obtain⟨k,hk⟩:=Qcr x;rw[hk];exact⟨_,_,rfl,{cells:=hx.cells,e0:=hx.e0,eK:=hx.eK,pend:=hx.pend,flight:=hx.flight,acked:=hx.acked}⟩
 have j1: ∀t x,Za6 K x-> ∃y ok,Zga p t x=some (y,ok,())/\Za6 K y:=by
  intro t x hx;unfold Zga;cases p.2.2.1
  ·exact j2 Zak _ hx
  ·exact j2 Zak _ {cells:=hx.cells,e0:=hx.e0,eK:=hx.eK,pend:=hx.pend,flight:=hx.flight,acked:=hx.acked}
 unfold Zp4;rw[Zsd h hK,h1];simp only[Obs];generalize (((!b)|| (decide (s.1>(2:Int)))))=c0;cases c0
 ·simp only[Ocf,h3,Obs,Bool.false_or];generalize hc: (((!b2)|| ((p.2.1==([]:List UInt8))&& (!p.2.2.1)))|| (p.2.2.1&& (s.2.2.2.2.2.2.1 !=(1:Int))))=c;cases c
  ·simp only[Bool.or_eq_false_iff,Bool.not_eq_false']at hc;obtain⟨a1,a2⟩:=h4 hc.1.1;rw[Ocf];cases p.2.1==([]:List UInt8)
   ·simp only[Bool.not_false,Oct];rw[Qtq a1 (by omega),Obs];rw[Zyc _ _ (by omega) (by simp),Obs];simp only;generalize (if rsB (-1) s.2.2.1=true/\rsB (-1) [((p.1,p.1+ (p.2.1.length:Int),()):Ze)]=true then List.flatMap (fun x=>List.flatMap (Qe8 x) [((p.1,p.1+ (p.2.1.length:Int),()):Ze)]) s.2.2.1 else[])=cm;rw[Zb (fun hh=>by simp only[bne_eq_false_iff_eq]at hh;omega)];generalize ((cm.length:Int) !=1||_)=c3;cases c3
    ·rw[Ocf,Z27 _ _ (by omega),Obs,Zm3 _ _ (by omega),Obs];exact j1 Zak _ {cells:=h.cells,e0:=h.e0,eK:=h.eK,pend:=Qwz h.pend,flight:=Zx8 h.flight a2,acked:=h.acked}
    ·exact⟨_,_,rfl,h⟩
   ·exact j1 Zak _ h
  ·exact⟨_,_,rfl,h⟩
 ·exact⟨_,_,rfl,h⟩
theorem Qii{E:Int}{a:List Ze}{r:Ze}{c:Prop}[Decidable c](h: ∀x∈a,x.2.1<=E): ∀y∈(if c then a.flatMap fun x=>[r].flatMap (Qe8 x)else[]),y.2.1<=E:=by
 intro y hy;split at hy
 ·simp only[List.mem_flatMap,List.mem_singleton,exists_eq_left]at hy;obtain⟨x,hx,hy⟩:=hy;unfold Qe8 at hy;split at hy
  ·simp only[List.mem_singleton]at hy;have:=h x hx;subst hy;simp only;omega
  ·cases hy
 ·cases hy
theorem Qmk{a:List Ze}{r:Ze}{c:Prop}[Decidable c]: (if c then a.flatMap fun x=>[r].flatMap (Qe8 x)else[]).length<=a.length:=by
 split
 ·have:=Zfq (f:=fun x=>[r].flatMap (Qe8 x)) (k:=1) (fun x=>by simpa using Qu1 x r) a;omega
 ·simp
theorem Za6.lists{K:Int}{s:Zo}(h:Za6 K s){f a:List Ze}(hf:RL s.2.1.2.2.1 f)(ha:RL s.2.1.2.2.1 a):Za6 K (s.1,(s.2.1,(s.2.2.1,(f,(a,s.2.2.2.2.2))))):=
 {cells:=h.cells,e0:=h.e0,eK:=h.eK,pend:=h.pend,flight:=hf,acked:=ha}
theorem Qh8{K:Int}{s x:Zo}(hs:Za6 K s)(hx:Za6 K x)(he:x.2.1=s.2.1)(t:Zo)(hK:K<=1000000): ∃y,Zh8 s t x=some (y,())/\Za6 K y:=by
 have hcl:=hs.cells;have la:=Qz hx.acked hx.e0 hx.eK hK;unfold Zh8;simp only[Je,Zja];rw[Qb9 _ _ (by omega),Obs];obtain⟨cs,b,ok,k1,k2⟩:=Q26 s.2.1 (if rsB (-1) x.2.2.2.2.1=true/\0<=(0:Int)then Z16 x.2.2.2.2.1 0 else-1) (by omega);rw[k1,Obs];unfold Zme;obtain⟨k,hk⟩:=Qcr (x.1,((s.2.1.1,b,s.2.1.2.2.1,cs,()),x.2.2));rw[hk,Obs];refine⟨_,rfl,?_⟩;have e:x.2.1.2.2.1=s.2.1.2.2.1:=by rw[he]
 exact {cells:=(by simp only;omega),e0:=hs.e0,eK:=hs.eK,pend:=(by have:=hx.pend;rw[e]at this;exact this),flight:=(by have:=hx.flight;rw[e]at this;exact this),acked:=(by have:=hx.acked;rw[e]at this;exact this)}
theorem Qh7{K:Int}{s x:Zo}(hs:Za6 K s)(hx:Za6 K x)(he:x.2.1=s.2.1)(p:Ks)(t:Zo)(hK:K<=1000000): ∃y,Zh7 s p t x=some (y,())/\Za6 K y:=by
 unfold Zh7;cases p.2.2.1&& (s.2.2.2.2.2.2.1==(2:Int))
 ·exact Qh8 hs hx he t hK
 ·exact Qh8 hs (x:=(x.1,(x.2.1,(x.2.2.1,(x.2.2.2.1,(x.2.2.2.2.1,(x.2.2.2.2.2.1,((3:Int),x.2.2.2.2.2.2.2)))))))) {cells:=hx.cells,e0:=hx.e0,eK:=hx.eK,pend:=hx.pend,flight:=hx.flight,acked:=hx.acked} he t hK
theorem Qh9{K:Int}{s:Zo}(hs:Za6 K s)(p:Ks)(t:Zo)(hK:K<=1000000)(c:List Ze)(hcl:c.length<=1048576)(hc: ∀y∈c,y.2.1<=s.2.1.2.2.1): ∀(N i:Nat) (x:Zo),Za6 K x->x.2.1=s.2.1->c.length-i<N->i<=c.length->
  ∃y,Zh9 N s p t x c (i:Int)=some (y,())/\Za6 K y
 |0,_,_,_,_,h,_=>by omega
 |N+1,i,x,hx,he,hN,hi=>by
  have lf:=Qz hx.flight hx.e0 hx.eK hK;have la:=Qz hx.acked hx.e0 hx.eK hK;unfold Zh9;by_cases h:i<c.length
  ·have hm:=hc _ (Qh (d:=Zy) h);have e:x.2.1.2.2.1=s.2.1.2.2.1:=by rw[he]
   rw[Zn (Zj (by omega)),Zb (by omega),Z27 _ _ (by omega),Obs,Zb (by omega),Zm3 _ _ (by omega),Obs,Zs h (by omega)];exact Qh9 hs p t hK c hcl hc N (i+1) _ (hx.lists (Qwz hx.flight) (Zx8 hx.acked (by rw[e];exact hm))) he (by omega) (by omega)
  ·rw[Zm (Zk (by omega))];exact Qh7 hs hx he p t hK
theorem Q2a{K:Int}{s:Zo}(h:Za6 K s)(p:Ks)(hK:K<=1000000): ∃x,Zq7 s p=some (x,())/\Za6 K x:=by
 have h0:=h.e0;have heK:=h.eK;have lf:=Qz h.flight h0 heK hK;obtain⟨b,h1,h2⟩:=Zhy h hK;obtain⟨b2,h3,h4⟩:=Qtp s p h0 (by omega);unfold Zq7;rw[Zsd h hK,h1];simp only[Obs];generalize ((!b)|| (decide (s.1>(2:Int))))=c0;cases c0
 ·simp only[Ocf,h3,Obs,Bool.false_or];cases b2
  ·exact⟨_,rfl,h⟩
  ·obtain⟨a1,a2⟩:=h4 rfl;simp only[Ont,Ocf];cases p.2.1==([]:List UInt8)
   ·simp only[Bool.not_false,Oct];rw[Qtq a1 (by omega),Obs];rw[Zyc _ _ (by omega) (by simp),Obs];have hl:=Qmk (a:=s.2.2.2.1) (r:=((p.1,p.1+ (p.2.1.length:Int),()):Ze)) (c:=rsB (-1) s.2.2.2.1=true/\rsB (-1) [((p.1,p.1+ (p.2.1.length:Int),()):Ze)]=true);have hh:=Qii (a:=s.2.2.2.1) (r:=((p.1,p.1+ (p.2.1.length:Int),()):Ze)) (c:=rsB (-1) s.2.2.2.1=true/\rsB (-1) [((p.1,p.1+ (p.2.1.length:Int),()):Ze)]=true) h.flight.2;exact Qh9 h p _ hK _ (by omega) hh _ 0 s h rfl (by unfold Zkm;simp only;omega) (by omega)
   ·exact Qh7 h h rfl p _ hK
 ·exact⟨_,rfl,h⟩
theorem Qcu{K:Int}{s x:Zo}(hx:Za6 K x)(p:Ks)(t:Zo): ∃y,Zf5 s p t x=some (y,())/\Za6 K y:=by
 have j2: ∀x,Za6 K x-> ∃y,Zf6 t x=some (y,())/\Za6 K y:=by
  intro x hx;unfold Zf6;obtain⟨k,hk⟩:=Qcr x;rw[hk];exact⟨_,rfl,{cells:=hx.cells,e0:=hx.e0,eK:=hx.eK,pend:=hx.pend,flight:=hx.flight,acked:=hx.acked}⟩
 unfold Zf5;cases p.2.2.1&& (s.2.2.2.2.2.2.1==(2:Int))
 ·exact j2 _ hx
 ·exact j2 _ {cells:=hx.cells,e0:=hx.e0,eK:=hx.eK,pend:=hx.pend,flight:=hx.flight,acked:=hx.acked}
theorem Qcv{K:Int}{s:Zo}(p:Ks)(t:Zo)(hK:K<=1000000)(c:List Ze)(E:Int)(hcl:c.length<=1048576)(hc: ∀y∈c,y.2.1<=E): ∀(N i:Nat) (x:Zo),Za6 K x->x.2.1.2.2.1=E->c.length-i<N->i<=c.length->
  ∃y,Zf7 N s p t x c (i:Int)=some (y,())/\Za6 K y
 |0,_,_,_,_,h,_=>by omega
 |N+1,i,x,hx,he,hN,hi=>by
  have lf:=Qz hx.flight hx.e0 hx.eK hK;have lp:=Qz hx.pend hx.e0 hx.eK hK;unfold Zf7;by_cases h:i<c.length
  ·have hm:=hc _ (Qh (d:=Zy) h);rw[Zn (Zj (by omega)),Zb (by omega),Z27 _ _ (by omega),Obs,Zb (by omega),Zm3 _ _ (by omega),Obs,Zs h (by omega)];exact Qcv p t hK c E hcl hc N (i+1) _ {cells:=hx.cells,e0:=hx.e0,eK:=hx.eK,pend:=Zx8 hx.pend (by rw[he];exact hm),flight:=Qwz hx.flight,acked:=hx.acked} he (by omega) (by omega)
  ·rw[Zm (Zk (by omega))];exact Qcu hx p t
theorem Q09{K:Int}{s:Zo}(h:Za6 K s)(p:Ks)(hK:K<=1000000): ∃x,Zp1 s p=some (x,())/\Za6 K x:=by
 have h0:=h.e0;have heK:=h.eK;have lf:=Qz h.flight h0 heK hK;obtain⟨b,h1,h2⟩:=Zhy h hK;obtain⟨b2,h3,h4⟩:=Qtp s p h0 (by omega);unfold Zp1;rw[Zsd h hK,h1];simp only[Obs];generalize ((!b)|| (decide (s.1>(2:Int))))=c0;cases c0
 ·simp only[Ocf,h3,Obs,Bool.false_or];cases b2
  ·exact⟨_,rfl,h⟩
  ·obtain⟨a1,a2⟩:=h4 rfl;simp only[Ont,Ocf];cases p.2.1==([]:List UInt8)
   ·simp only[Bool.not_false,Oct];rw[Qtq a1 (by omega),Obs];rw[Zyc _ _ (by omega) (by simp),Obs];have hl:=Qmk (a:=s.2.2.2.1) (r:=((p.1,p.1+ (p.2.1.length:Int),()):Ze)) (c:=rsB (-1) s.2.2.2.1=true/\rsB (-1) [((p.1,p.1+ (p.2.1.length:Int),()):Ze)]=true);have hh:=Qii (a:=s.2.2.2.1) (r:=((p.1,p.1+ (p.2.1.length:Int),()):Ze)) (c:=rsB (-1) s.2.2.2.1=true/\rsB (-1) [((p.1,p.1+ (p.2.1.length:Int),()):Ze)]=true) h.flight.2;exact Qcv p _ hK _ _ (by omega) hh _ 0 s h rfl (by unfold Zjm;simp only;omega) (by omega)
   ·exact Qcu h p _
 ·exact⟨_,rfl,h⟩
theorem Q2b{K:Int}{s:Zo}(h:Za6 K s)(hK:K<=1000000): ∃x ok,Zq8 s=some (x,ok,())/\Za6 K x:=by
 obtain⟨b,h1,h2⟩:=Zhy h hK;unfold Zq8;rw[Zsd h hK,h1];simp only[Obs];generalize ((!b)|| (s.1 !=(4:Int)))=c;cases c
 ·exact⟨_,_,rfl,{cells:=h.cells,e0:=h.e0,eK:=h.eK,pend:=h.pend,flight:=h.flight,acked:=h.acked}⟩
 ·exact⟨_,_,rfl,h⟩
theorem Q2w(c:Qx)(n:Int)(h:Wf c): ∃b c',Ws c n=some ((b,()),(c',()))/\Wf c':=by
 unfold Ws;obtain⟨x,c1,e1,k1,-,-⟩:=Ztm c n h;rw[e1,Obs];exact⟨_,_,rfl,k1⟩
theorem Qrd(c:Qx)(l:List (List UInt8))(h:Wf c)(hl:0<l.length): ∃x c',Zow c l=some ((x,()),(c',()))/\Wf c'/\x∈l:=by
 unfold Zow;obtain⟨x,c1,e1,k1,b1,b2⟩:=Ztm c (l.length:Int) h;have b2:=b2 (by omega);rw[e1,Obs];simp only[];rw[Zb ⟨b1,b2⟩];refine⟨_,_,rfl,k1,?_⟩;have hx:x.toNat<l.length:=by omega
 rw[List.getD_eq_getElem?_getD,List.getElem?_eq_getElem hx];exact List.getElem_mem hx
theorem Qmo: ∀(N m:Nat) (c:Qx) (s:List UInt8),Wf c->m<N->s.length+m<=1000000-> ∃t c',Ziy N c s (m:Int)=some ((t,()),(c',()))/\Wf c'/\t.length<=s.length+m
 |0,_,_,_,_,h,_=>by omega
 |N+1,0,c,s,hc,_,_=>by
  unfold Ziy;rw[Zm (by decide)];exact⟨s,c,rfl,hc,by omega⟩
 |N+1,m+1,c,s,hc,hN,hl=>by
  unfold Ziy;rw[Zn (Zj (by omega))];obtain⟨x,c1,e1,k1,hx⟩:=Qrd c [([97]:List UInt8),([98]:List UInt8),([99]:List UInt8),([100]:List UInt8)] hc (by simp);have hx1:x.length=1:=by simp only[List.mem_cons,List.not_mem_nil,or_false]at hx;rcases hx with rfl|rfl|rfl|rfl<;>rfl
  rw[e1,Obs,Zb (by unfold Zqi;simp only;omega)];have e:IntKind.i64.wrap (((m+1:Nat):Int)-1)=(m:Int):=by rw[Zv (by omega) (by omega)];omega
  rw[e];obtain⟨t,c2,e2,k2,h2⟩:=Qmo N m c1 (s++x) k1 (by omega) (by simp;omega);exact⟨t,c2,e2,k2,by simp at h2;omega⟩
theorem Q2v(c:Qx)(most:Nat)(h:Wf c)(hm:most<=1000): ∃t c',Zl5 c (most:Int)=some ((t,()),(c',()))/\Wf c'/\t.length<=most:=by
 unfold Zl5;obtain⟨x,c1,e1,k1,b1,b2⟩:=Ztm c (IntKind.i64.wrap ((most:Int)+1)) h;rw[e1,Obs];rw[Zv (by omega) (by omega)]at b2;have b2:=b2 (by omega);obtain⟨m,rfl⟩:=Int.eq_ofNat_of_zero_le b1;obtain⟨t,c2,e2,k2,h2⟩:=Qmo (Zhi c1 [] (m:Int)) m c1 [] k1 (by unfold Zhi;omega) (by simp;omega);exact⟨t,c2,e2,k2,by simp at h2;omega⟩
def inR(n:Int)(l:List Ze):Prop:= ∃x∈l,x.1<=n/\n<x.2.1
theorem Qc0: ∀{l:List Ze} {r:Ze} {n:Int},inR n (Zgk l r)->inR n l\/(r.1<=n/\n<r.2.1)
 | [],r,n,⟨x,hx,h⟩=>by simp[Zgk]at hx;subst hx;exact .inr h
 |y::l,r,n,⟨x,hx,h⟩=>by
  have up:inR n l->inR n (y::l):=fun⟨z,hz,hh⟩=>⟨z,by simp[hz],hh⟩
  unfold Zgk at hx;split at hx
  ·rcases List.mem_cons.1 hx with rfl|hx
   ·exact .inl ⟨x,by simp,h⟩
   ·exact(Qc0 ⟨x,hx,h⟩).imp up id
  ·split at hx
   ·rcases List.mem_cons.1 hx with rfl|hx
    ·exact .inr h
    ·exact .inl ⟨x,hx,h⟩
   ·rcases Qc0 ⟨x,hx,h⟩with h'|h'
    ·exact .inl (up h')
    ·simp only at h';by_cases hy:y.1<=n/\n<y.2.1
     ·exact .inl ⟨y,by simp,hy⟩
     ·exact .inr (by omega)
theorem Z1v: ∀{l:List Ze} {r:Ze},(∀x∈l,x.1<=x.2.1)->r.1<=r.2.1->Jp (Zgk l r)<=Jp l+ (r.2.1-r.1)
 | [],r,_,_=>by simp[Zgk,Jp]
 |y::l,r,hl,hr=>by
  have hl': ∀x∈l,x.1<=x.2.1:=fun x hx=>hl x (by simp[hx]);have hy:=hl y (by simp);unfold Zgk;split
  ·have:=Z1v (l:=l) (r:=r) hl' hr;simp only[Jp];omega
  ·split
   ·simp only[Jp];omega
   ·have:=Z1v (l:=l) (r:=(min r.1 y.1,max r.2.1 y.2.1,())) hl' (by simp only;omega);simp only[Jp]at this⊢;omega
def ckB:Int->List Z0->Bool|_,[]=>true|e,c::l=> !(((decide (c.1<=e))|| (c.2.1==([]:List UInt8)))|| (decide (c.1>(IntKind.i64.wrap ((4611686018427387903:Int)- (c.2.1.length:Int))))))&&ckB (IntKind.i64.wrap (c.1+ (c.2.1.length:Int))) l
def J4(n:Int):Bool:=decide (n>=0)&&decide (n<=4611686018427387903)
theorem Y5(n:Int):Qf n=some (J4 n,()):=rfl
theorem X4{n:Int}:J4 n=true↔0<=n/\n<=4611686018427387903:=by unfold J4;simp
def Zju(b:Zq):Bool:=ckB (IntKind.i64.wrap (b.1-1)) b.2.1&&J4 b.1
theorem Z60(b:Zq): ∀(N:Nat) (pre rest:List Z0) (e:Int),b.2.1=pre++rest->b.2.1.length<=1048576->rest.length<N->Zd0 N b e (pre.length:Int)=some (ckB e rest&&J4 b.1,())
 |0,_,_,_,_,_,h=>by omega
 |N+1,pre,[],e,hb,hl,hN=>by
  unfold Zd0;rw[Zm (by rw[hb];simp),Y5,Obs];simp[ckB]
 |N+1,pre,c::rest,e,hb,hl,hN=>by
  have hlen:b.2.1.length=pre.length+rest.length+1:=by rw[hb];simp;omega
  simp only[List.length_cons]at hN;have hg:b.2.1.getD (pre.length:Int).toNat Qc=c:=by rw[hb];exact Zb6 pre c rest Qc
  unfold Zd0;rw[Zn (Zj (by omega)),Zb (by omega)];simp only[hg];have ih:=Z60 b N (pre++ [c]) rest (IntKind.i64.wrap (c.1+ (c.2.1.length:Int))) (by rw[hb];simp) hl (by omega);rw[show((pre++ [c]).length:Int)=((pre.length+1:Nat):Int) by simp]at ih;rw[Zs (m:=pre.length+1) (by omega) (by omega),ih];simp only[ckB];cases (((decide (c.1<=e))|| (c.2.1==([]:List UInt8)))|| (decide (c.1>(IntKind.i64.wrap ((4611686018427387903:Int)- (c.2.1.length:Int))))))<;>rfl
theorem Zed(b:Zq)(hl:b.2.1.length<=1048576):Zdt b=some (Zju b,()):=by
 unfold Zdt;exact Z60 b _ [] b.2.1 _ rfl hl (by unfold Zko;omega)
def rgC(c:Z0):Ze:=(c.1,c.1+ (c.2.1.length:Int),())
def Ze5:List Z0->Nat| []=>0|c::l=>c.2.1.length+Ze5 l
theorem Zv3: ∀{l:List Z0} {c:Z0},c∈l->c.2.1.length<=Ze5 l
 |x::l,c,h=>by
  rcases List.mem_cons.1 h with rfl|h
  ·simp[Ze5]
  ·have:=Zv3 h;simp only[Ze5];omega
structure Zc7(K:Nat)(b:Zq):Prop where
 len:b.2.1.length<=K
 tot:Ze5 b.2.1<=K
theorem Zc7.mono{K K':Nat}{b:Zq}(h:Zc7 K b)(hK:K<=K'):Zc7 K' b:=⟨Nat.le_trans h.len hK,Nat.le_trans h.tot hK⟩
theorem Q2p: ∀{l:List Z0} {e:Int},Ze5 l<=1000000-> -1<=e->ckB e l=true->rsB e (l.map rgC)=true
 | [],_,_,_,_=>rfl
 |c::l,e,ht,he,h=>by
  simp only[Ze5]at ht;simp only[ckB,Oba,Bool.not_eq_true',Bool.or_eq_false_iff,decide_eq_false_iff_not,beq_eq_false_iff_ne]at h;obtain⟨⟨⟨h1,h2⟩,h3⟩,h4⟩:=h;rw[Zv (by omega) (by omega)]at h3;rw[Zv (by omega) (by omega)]at h4;have hp:0<c.2.1.length:=List.length_pos_iff.2 h2;rw[List.map_cons,Vg];exact⟨Ql.2 (by simp only[rgC];omega),by simp only[rgC];omega,Q2p (by omega) (by simp only[rgC];omega) h4⟩
theorem Qld: ∀(l:List Z0),Jp (l.map rgC)=(Ze5 l:Int)
 | []=>rfl
 |c::l=>by
  have:=Qld l;simp only[List.map_cons,Jp,Ze5,rgC,this];omega
theorem Z1p(b:Zq)(ht:Ze5 b.2.1<=1000000)(hb2: ∀c∈b.2.1,-1<=c.1/\c.1<=4611686018427387903): ∀(N:Nat) (pre rest:List Z0) (out:List Ze),b.2.1=pre++rest->b.2.1.length<=1048576->rest.length<N->out.length<=pre.length->Zju b=true->
  Kj N b out (pre.length:Int)=some (out++rest.map rgC,())
 |0,_,_,_,_,_,h,_,_=>by omega
 |N+1,pre,[],out,hb,hl,hN,ho,hB=>by
  unfold Kj;have:decide ((pre.length:Int)< (b.2.1.length:Int))=false:=by rw[hb];simp
  rw[this];simp only[Ocf,Obs,Bool.false_and,List.map_nil,List.append_nil]
 |N+1,pre,c::rest,out,hb,hl,hN,ho,hB=>by
  have hlen:b.2.1.length=pre.length+rest.length+1:=by rw[hb];simp;omega
  simp only[List.length_cons]at hN;have hg:b.2.1.getD (pre.length:Int).toNat Qc=c:=by rw[hb];exact Zb6 pre c rest Qc
  have g: ∀{ρ:Type} (m:Option ρ),Zi (0<=(pre.length:Int)/\(pre.length:Int)< (b.2.1.length:Int)) m=m:=fun m=>Zb (by omega);have hc:=hb2 c (by rw[hb];simp);have hcl:=Zv3 (l:=b.2.1) (c:=c) (by rw[hb];simp);unfold Kj;have hd:decide ((pre.length:Int)< (b.2.1.length:Int))=true:=Zj (by omega);rw[hd,Zed b hl,hB];simp only[Oct,Obs,Bool.and_self,g,hg];rw[Zb (by unfold Qo;simp;omega),Zs (m:=pre.length+1) (by omega) (by omega),Zv (by omega) (by omega)];have ih:=Z1p b ht hb2 N (pre++ [c]) rest (out++ [rgC c]) (by rw[hb];simp) hl (by omega) (by simp;omega) hB;rw[show((pre++ [c]).length:Int)=((pre.length+1:Nat):Int) by simp]at ih;refine Eq.trans ih ?_;simp
theorem Zqh{b:Zq}(ht:Ze5 b.2.1<=1000000)(h:Zju b=true):0<=b.1/\b.1<=4611686018427387903/\rsB (b.1-1) (b.2.1.map rgC)=true:=by
 unfold Zju at h;simp only[Oba]at h;have hq:=X4.1 h.2;have h1:=h.1;rw[Zv (by omega) (by omega)]at h1;exact⟨hq.1,hq.2,Q2p ht (by omega) h1⟩
theorem Qap{K:Nat}{b:Zq}(hi:Zc7 K b)(hK:K<=1000000):Zk0 b=some (if Zju b=true then b.2.1.map rgC else[],()):=by
 have hl:=hi.len;have ht:=hi.tot;unfold Zk0;cases hB:Zju b
 ·show Kj (_+1) b [] 0=_;unfold Kj;rw[Zed b (by omega),hB];cases decide ((0:Int)< (b.2.1.length:Int))<;>rfl
 ·obtain⟨q1,q2,q3⟩:=Zqh (by omega) hB;have:=Z1p b (by omega) (fun c hc=>by
   have h1:=Znu q3 (rgC c) (List.mem_map_of_mem hc);have h2:=Ql.1 h1.2;simp only[rgC]at h1 h2;omega) (Za2 b [] 0) [] b.2.1 [] rfl (by omega) (by unfold Za2;omega) (by simp) hB
  refine Eq.trans this ?_;simp
theorem Qie(b:Zq)(at_:Int)(h0:0<=at_)(h1:at_<=4611686018427387903)(ht:Ze5 b.2.1<=1000000)(hq: ∀c∈b.2.1,0<=c.1/\c.1<=4611686018427387903): ∀(N:Nat) (pre rest:List Z0),b.2.1=pre++rest->b.2.1.length<=1048576->rest.length<N->
  ∃v,Zca N at_ b (pre.length:Int)=some (v,())/\(v<0-> ¬inR at_ (rest.map rgC))/\v<=255
 |0,_,_,_,_,h=>by omega
 |N+1,pre,[],hb,hl,hN=>by
  unfold Zca;rw[Zm (by rw[hb];simp)];exact⟨-1,rfl,fun _ ⟨x,hx,_⟩=>by simp at hx,by omega⟩
 |N+1,pre,c::rest,hb,hl,hN=>by
  have hlen:b.2.1.length=pre.length+rest.length+1:=by rw[hb];simp;omega
  simp only[List.length_cons]at hN;have hg:b.2.1.getD (pre.length:Int).toNat Qc=c:=by rw[hb];exact Zb6 pre c rest Qc
  have g: ∀{ρ:Type} (m:Option ρ),Zi (0<=(pre.length:Int)/\(pre.length:Int)< (b.2.1.length:Int)) m=m:=fun m=>Zb (by omega);have hc:=hq c (by rw[hb];simp);have hcl:=Zv3 (l:=b.2.1) (c:=c) (by rw[hb];simp);unfold Zca;rw[Zn (Zj (by omega))];simp only[g,hg];rw[Zb (fun _=>by omega),Zb (fun _=>by omega),Zv (by omega) (by omega),Zj (by omega),Zj (by omega)];simp only[Ota];obtain⟨v,k1,k2,k3⟩:=Qie b at_ h0 h1 ht hq N (pre++ [c]) rest (by rw[hb];simp) hl (by omega);rw[show((pre++ [c]).length:Int)=((pre.length+1:Nat):Int) by simp]at k1;by_cases hin:at_-c.1>=0/\at_-c.1< (c.2.1.length:Int)
  ·rw[Zj hin.1,Zj hin.2,Bool.and_self,Oct,Zb ⟨hin.1,hin.2⟩];have hb8: (c.2.1.getD (at_-c.1).toNat 0).toNat<256:=(c.2.1.getD (at_-c.1).toNat 0).toNat_lt;rw[Zv (by omega) (by omega)];exact⟨_,rfl,fun h=>by omega,by omega⟩
  ·rw[Zm (by rw[Bool.and_eq_false_iff,decide_eq_false_iff_not,decide_eq_false_iff_not];omega),Zs (m:=pre.length+1) (by omega) (by omega)];refine⟨v,k1,fun hv ⟨x,hx,hh⟩=> ?_,k3⟩;rw[List.map_cons]at hx;rcases List.mem_cons.1 hx with rfl|hx
   ·simp only[rgC]at hh;omega
   ·exact k2 hv ⟨x,hx,hh⟩
theorem Q8m(b:Zq)(at_:Int)(h0:0<=at_)(h1:at_<=4611686018427387903)(ht:Ze5 b.2.1<=1000000)(hl:b.2.1.length<=1000000)(hq: ∀c∈b.2.1,0<=c.1/\c.1<=4611686018427387903):
  ∃v,Zov b at_=some (v,())/\(v<0-> ¬inR at_ (b.2.1.map rgC))/\v<=255:=by
 unfold Zov;exact Qie b at_ h0 h1 ht hq _ [] b.2.1 rfl (by omega) (by unfold Zg5;omega)
theorem Q3s{b:Zq}(ht:Ze5 b.2.1<=1000000)(hbl:b.2.1.length<=1000000)(hq: ∀c∈b.2.1,0<=c.1/\c.1<=4611686018427387903)(K1: (Int×List UInt8×Zq×Zq×Zq×List Ze×Int×Unit)->Option (Zq×Unit))(o:Int)(ho:0<=o/\o<=4611686018427387903)(d:List UInt8)(t x:Zq)(l:List Ze)(i:Nat)(hi:i<l.length)(r:Ze)(hr:l.getD i Zy=r)
  (h0:0<=r.1) (hH:r.2.1<=4611686018427387903) (hx:x.2.1.length<=1000000)
  (hin: ∀n,r.1<=n->n<r.2.1->inR n (b.2.1.map rgC)\/(o<=n/\n<o+d.length)):
  ∀(N m:Nat) (s:List UInt8),(m:Int)<=r.2.1-r.1->m<N->(s.length:Int)+m<=r.2.1-r.1->(r.2.1-r.1)<=2000000->
   ∃t',Xr K1 N o d b t x l (i:Int) s (r.2.1-m)=K1 (o,d,b,t,(x.1,(x.2.1++ [(r.1,(t',()))],x.2.2)),l,IntKind.i64.wrap ((i:Int)+1),())/\(t'.length:Int)<=r.2.1-r.1
 |0,_,_,_,h,_,_=>by omega
 |N+1,0,s,hm,hN,hs,hb=>by
  unfold Xr;rw[Zb (by omega),show(i:Int).toNat=i from rfl,hr,Zm (Zk (by omega)),Zb (by omega)];simp only;rw[Zb (by unfold Qo;simp;omega)];exact⟨s,rfl,by omega⟩
 |N+1,m+1,s,hm,hN,hs,hb=>by
  unfold Xr;rw[Zb (by omega),show(i:Int).toNat=i from rfl,hr,Zn (Zj (by omega))];obtain⟨v,k1,k2,k3⟩:=Q8m b (r.2.1- ((m+1:Nat):Int)) (by omega) (by omega) ht hbl hq;rw[k1,Obs];have next: ∀v,∃t',V6 K1 (fun v=>Xr K1 N v.1 v.2.1 v.2.2.1 v.2.2.2.1 v.2.2.2.2.1 v.2.2.2.2.2.1 v.2.2.2.2.2.2.1 v.2.2.2.2.2.2.2.1 v.2.2.2.2.2.2.2.2.1) o d b t x l (i:Int) s (r.2.1- ((m+1:Nat):Int)) v=K1 (o,d,b,t,(x.1,(x.2.1++ [(r.1,(t',()))],x.2.2)),l,IntKind.i64.wrap ((i:Int)+1),())/\(t'.length:Int)<=r.2.1-r.1:=by
   intro v;unfold V6;obtain⟨y,e1,e2⟩:=Qxn v;rw[e1,Obs,Zb (by unfold Zqi;simp only;omega),Zv (by omega) (by omega)];have e:r.2.1- ((m+1:Nat):Int)+1=r.2.1- (m:Int):=by omega
   simp only[e];exact Q3s ht hbl hq K1 o ho d t x l i hi r hr h0 hH hx hin N m (s++y) (by omega) (by omega) (by simp;omega) hb
  by_cases hv:v<0
  ·have:=(hin (r.2.1- ((m+1:Nat):Int)) (by omega) (by omega)).resolve_left (k2 hv);rw[Zn (Zj hv),Zb (by rw[Zv (by omega) (by omega)];omega)];exact next _
  ·rw[Zm (Zk hv)];exact next _
theorem Qpm: ∀(a b:List Z0),Ze5 (a++b)=Ze5 a+Ze5 b
 | [],b=>by simp[Ze5]
 |c::a,b=>by simp only[List.cons_append,Ze5,Qpm a b];omega
theorem Q0r: ∀{l:List Ze} {i:Nat},i<l.length->Jp (l.drop i)=((l.getD i Zy).2.1- (l.getD i Zy).1)+Jp (l.drop (i+1)):=by
 intro l i h;rw[Kb (d:=Zy) h];rfl
theorem Q3r{b:Zq}(ht:Ze5 b.2.1<=1000000)(hbl:b.2.1.length<=1000000)(hq: ∀c∈b.2.1,0<=c.1/\c.1<=4611686018427387903)(o:Int)(ho:0<=o/\o<=4611686018427387903)(d:List UInt8)(t:Zq)(l:List Ze)
  (hl:l.length<=1000000) (hf: ∀r∈l,Zej r=true) (hc:Jp l<=2000000)
  (hin: ∀n,inR n l->inR n (b.2.1.map rgC)\/(o<=n/\n<o+d.length)) (M:Int) (hM:M<=4000000):
  ∀(N i:Nat) (x:Zq),l.length-i<N->i<=l.length->x.2.1.length<=i->(Ze5 x.2.1:Int)+Jp (l.drop i)<=M->
   ∃y,Kp N o d b t x l (i:Int)=some (y,())/\y.1=x.1/\y.2.1.length<=l.length/\(Ze5 y.2.1:Int)<=M
 |0,_,_,h,_,_,_=>by omega
 |N+1,i,x,hN,hi,hx,hm=>by
  unfold Kp;by_cases h:i<l.length
  ·have hmem:=Qh (d:=Zy) h;have hfi:=Ql.1 (hf _ hmem);have hd:=Q0r h;have hnn: ∀{l:List Ze},(∀r∈l,Zej r=true)->0<=Jp l:=by
    intro l
    induction l with
    |nil=>intro _;simp[Jp]
    |cons r l ih=>
     intro hh;have:=Ql.1 (hh r (by simp));have:=ih fun r hr=>hh r (by simp[hr]);simp only[Jp];omega
   have h1:=hnn (l:=l.drop (i+1)) fun r hr=>hf r (List.mem_of_mem_drop hr);have hsub: (l.getD i Zy).2.1- (l.getD i Zy).1<=2000000:=by
    have htk: ∀(l:List Ze),(∀r∈l,Zej r=true)-> ∀r∈l,r.2.1-r.1<=Jp l:=by
     intro l
     induction l with
     |nil=>intro _ r hr;cases hr
     |cons q l ih=>
      intro hh r hr;have hq:=Ql.1 (hh q (by simp));have hl:=hnn (l:=l) fun r hr=>hh r (by simp[hr]);simp only[Jp];rcases List.mem_cons.1 hr with rfl|hr
      ·omega
      ·have:=ih (fun r hr=>hh r (by simp[hr])) r hr;omega
    have:=htk l hf _ hmem;omega
   rw[Zn (Zj (by omega)),Zb (by omega),show(i:Int).toNat=i from rfl];generalize hr:l.getD i Zy=r at*
   obtain⟨m,hmm⟩:=Int.eq_ofNat_of_zero_le (a:=r.2.1-r.1) (by omega);obtain⟨t',k1,k2⟩:=Q3s ht hbl hq (fun v=>Kp N v.1 v.2.1 v.2.2.1 v.2.2.2.1 v.2.2.2.2.1 v.2.2.2.2.2.1 v.2.2.2.2.2.2.1) o ho d t x l i h r hr hfi.1 hfi.2.2 (by omega)
    (fun n hn1 hn2=>hin n ⟨r,hmem,hn1,hn2⟩) (Jo o d b t x l (i:Int) [] r.1) m [] (by omega) (by unfold Jo;rw[show(i:Int).toNat=i from rfl,hr];omega) (by simp;omega) hsub
   rw[show r.2.1- (m:Int)=r.1 by omega]at k1;rw[k1,Zs h (by omega)];obtain⟨y,q1,q2,q3,q4⟩:=Q3r ht hbl hq o ho d t l hl hf hc hin M hM N (i+1) (x.1,(x.2.1++ [(r.1,(t',()))],x.2.2)) (by omega) (by omega) (by simp;omega) (by
    simp only[Qpm,Ze5];omega)
   exact⟨y,q1,q2,q3,q4⟩
  ·rw[Zm (Zk (by omega))];have:i=l.length:=by omega
   subst this;rw[List.drop_length]at hm;exact⟨x,rfl,rfl,hx,by simp[Jp]at hm;omega⟩
theorem Zt5{K:Nat}{b:Zq}(h:Zc7 K b)(hK:K<=1000000):Zi8 b=some (b,()):=by
 have:=h.len;unfold Zi8;rw[Zb (by unfold Qo;simp;omega)];simp
theorem Qn7{K:Nat}{b:Zq}(h:Zc7 K b)(o:Int)(d:List UInt8)(hK:K+d.length+1<=1000000): ∃y,Zfi b o d=some (y,())/\Zc7 (K+d.length+1) y:=by
 have hl:=h.len;have ht:=h.tot;unfold Zfi;rw[Zed b (by omega),Obs];generalize hc: ((((!Zju b)|| (d==([]:List UInt8)))|| (decide (o< (0:Int))))|| (decide (o>(IntKind.i64.wrap ((4611686018427387903:Int)- (d.length:Int))))))=c;cases c
 ·simp only[Bool.or_eq_false_iff,Bool.not_eq_false',decide_eq_false_iff_not]at hc;obtain⟨⟨⟨c1,c2⟩,c3⟩,c4⟩:=hc;rw[Zv (by omega) (by omega)]at c4;obtain⟨q1,q2,q3⟩:=Zqh (by omega) c1;simp only[Ocf];rw[Zv (by omega) (by omega)];by_cases hm:max o b.1>=o+ (d.length:Int)
  ·rw[Zn (Zj hm),Zt5 h (by omega)];exact⟨b,rfl,h.mono (by omega)⟩
  ·rw[Zm (Zk hm),Qap h (by omega),Obs,c1];simp only[if_true];have hml: (b.2.1.map rgC).length<=1048576:=by rw[List.length_map];omega
   rw[Zm3 _ _ hml,Obs];have hrs:rsB (-1) (b.2.1.map rgC)=true:=Zxq q3 (by omega);have hfr:Zej (max o b.1,(o+ (d.length:Int),()))=true:=Ql.2 (by simp only;omega);simp only[hrs,hfr,and_self,if_true];have hcl:=Qak (l:=b.2.1.map rgC) (r:=((max o b.1,(o+ (d.length:Int),())):Ze));rw[List.length_map]at hcl;have hcc:=Z1v (l:=b.2.1.map rgC) (r:=((max o b.1,(o+ (d.length:Int),())):Ze)) (fun x hx=>by
    have:=Ql.1 (Znu hrs x hx).2;omega) (by simp only;omega)
   rw[Qld]at hcc;simp only at hcc;have hars:=Z37 hrs hfr (by simp only;omega);have hch: ∀c∈b.2.1,0<=c.1/\c.1<=4611686018427387903:=fun c hc=>by
    have h1:=Znu q3 (rgC c) (List.mem_map_of_mem hc);have h2:=Ql.1 h1.2;simp only[rgC]at h1 h2;omega
   obtain⟨y,k1,k2,k3,k4⟩:=Q3r (b:=b) (by omega) (by omega) hch o (by omega) d Qlw _ (by omega) (fun r hr=>(Znu hars r hr).2) (by omega) (fun n hn=>(Qc0 hn).imp id fun hh=>by first| (simp only at hh;omega)|omega) (K+d.length) (by omega)
    (Jn o d b Qlw (b.1,([],())) (Zgk (b.2.1.map rgC) (max o b.1,(o+ (d.length:Int),()))) 0) 0 (b.1,([],())) (by unfold Jn;omega) (by omega) (by simp) (by simp only[Ze5,List.drop_zero];omega)
   exact⟨y,k1,⟨by omega,by omega⟩⟩
 ·rw[Oct,Zt5 h (by omega)];exact⟨b,rfl,h.mono (by omega)⟩
def Za0(b:Zq):Int:=if Zju b=true/\b.2.1≠[]/\(b.2.1.getD 0 Qc).1=b.1 then((b.2.1.getD 0 Qc).2.1.length:Int)else 0
theorem Zlk(b:Zq)(hl:b.2.1.length<=1048576):Zau b=some (Za0 b,()):=by
 unfold Zau Za0;rw[Zed b hl,Obs];obtain⟨b1,l,_⟩:=b;cases hB:Zju (b1,l,())
 ·simp[Zi]
 ·cases l with
  |nil=>simp[Zi]
  |cons c l=>
   simp only[Ont,Bool.false_or];have e: (((c::l).length:Int)==0)=false:=by rw[beq_eq_false_iff_ne,List.length_cons];omega
   rw[e,Zb (fun _=>by simp only[List.length_cons];omega)];simp only[Bool.false_or,show(0:Int).toNat=0 from rfl,List.getD_cons_zero,ne_eq,reduceCtorEq,not_false_eq_true,true_and];by_cases h:c.1=b1
   ·rw[Zm (by simp[h]),Zb (by simp only[List.length_cons];omega),if_pos h]
   ·rw[Zn (by simp[h]),if_neg h]
theorem Q1m{K:Nat}{b:Zq}(h:Zc7 K b):0<=Za0 b/\Za0 b<=(K:Int)/\(Za0 b≠0->Zju b=true/\ ∃c l,b.2.1=c::l/\Za0 b=(c.2.1.length:Int)):=by
 unfold Za0;split
 ·rename_i hh;obtain⟨b1,l,_⟩:=b;cases l with
  |nil=>exact absurd rfl hh.2.1
  |cons c l=>
   have:=h.tot;simp only[Ze5]at this;simp only[List.getD_cons_zero];exact⟨by omega,by omega,fun _=>⟨hh.1,c,l,rfl,rfl⟩⟩
 ·exact⟨by omega,by omega,fun h=>absurd rfl h⟩
theorem Q1x{K:Nat}{b:Zq}(h:Zc7 K b)(hK:K<=1000000)(m:Int): ∃s y,Zp5 b m=some (s,y,())/\Zc7 K y/\s.length<=K:=by
 have hl:=h.len;have ht:=h.tot;obtain⟨r1,r2,r3⟩:=Q1m h;unfold Zp5;rw[Zlk b (by omega),Zt5 h hK];simp only[Obs];generalize hn:min (Za0 b) (max m 0)=n;by_cases h0:n=0
 ·subst h0;exact⟨[],b,rfl,h,by simp⟩
 ·rw[Zm (by simp[h0])];obtain⟨hB,c,l,hb,hr⟩:=r3 (by omega);obtain⟨b1,b2,b3⟩:=Zqh (by omega) hB;rw[Zv (by omega) (by omega)];obtain⟨z,bl,_⟩:=b;simp only at hb hl ht b1 b2;subst hb;simp only[List.length_cons]at hl;simp only[Ze5]at ht;simp only[show(0:Int).toNat=0 from rfl,List.getD_cons_zero,List.length_cons];rw[Zb (by omega)];by_cases he:n=(c.2.1.length:Int)
  ·rw[Zn (by simp[he]),Zb (by omega)];simp only[show(1:Int).toNat=1 from rfl,List.drop_succ_cons,List.drop_zero];have hi:Zc7 K ((z+n,((l.take (((l.length+1:Nat):Int).toNat-1)),())):Zq):=by
    rw[show((l.length+1:Nat):Int).toNat-1=l.length by omega,List.take_length];exact⟨by show l.length<=K;omega,by show Ze5 l<=K;omega⟩
   rw[Zt5 hi hK];exact⟨_,_,rfl,hi,by omega⟩
  ·rw[Zm (by simp[he]),Zb (by omega),Zb (by omega),Zb (by omega)];refine⟨_,_,rfl,⟨?_,?_⟩,?_⟩
   ·simp;omega
   ·simp only[List.set_cons_zero,Ze5,List.length_take,List.length_drop];omega
   ·simp only[List.length_take,List.length_drop];omega
theorem Q28{K:Nat}{b:Zq}(h:Zc7 K b)(hK:K<=1000000): ∃v,Zlq b=some (v,()):=by
 have hl:=h.len;unfold Zlq;rw[Zed b (by omega)];by_cases h0:b.2.1=[]
 ·rw[h0];exact⟨_,rfl⟩
 ·have:0<b.2.1.length:=List.length_pos_iff.2 h0;have e: ((b.2.1.length:Int)==(0:Int))=false:=by rw[beq_eq_false_iff_ne];omega
  rw[e];simp only[Ocf,Obs,Bool.false_or];cases Zju b
  ·exact⟨_,rfl⟩
  ·simp only[Ont,Ocf];rw[Zv (by omega) (by omega),Zb (by omega)];exact⟨_,rfl⟩
theorem Ka{α:Type}(c:Bool)(a b:α): (bif c then some a else some b)=some (bif c then a else b):=by cases c<;>rfl
theorem Qsp{α β:Type}{P:α->β->Prop}{c:Bool}{m n:α}(h1: ∃b,P m b)(h2: ∃b,P n b): ∃b,P (bif c then m else n) b:=by cases c<;>assumption
theorem Zje{K:Nat}{r:Zr}(h:Zc7 K r.2.1)(hK:K<=1000000): ∃b,Q5 r=some (b,()):=by
 have hl:=h.len;obtain⟨v,k⟩:=Q28 h hK;have j: ∀q,∃b,X9 r q=some (b,()):=fun q=>by unfold X9;cases q<;>exact⟨_,rfl⟩
 unfold Q5;rw[Zed _ (by omega),Zlk _ (by omega),k];simp only[Obs,Y5,Ka]
 repeat' refine Qsp (P:=fun m b=>m=some (b,())) ?_ ?_
 all_goals first|exact j _|exact⟨_,rfl⟩
theorem Qvx: ∃r,Zmj=some (r,())/\Zc7 0 r.2.1:=⟨_,rfl,⟨by simp,by simp[Ze5]⟩⟩
theorem Qto{K:Nat}{r:Zr}(h:Zc7 K r.2.1)(hK:K<=1000000):Zgi r=some (r,()):=by
 unfold Zgi;rw[Zt5 h hK];rfl
theorem Qzr(r:Zr)(e:Int)(f:Bool): ∃v,Zjr r e f=some (v,()):=by
 unfold Zjr;rw[Ka];exact⟨(bif _ then((6:Int),())else(0,())).1,rfl⟩
theorem Zvx{K:Nat}{r:Zr}(h:Zc7 K r.2.1)(o:Int)(d:List UInt8)(f:Bool)(hK:K+d.length+1<=1000000):
  ∃y v,Yn r o d f=some (y,v,())/\Zc7 (K+d.length+1) y.2.1:=by
 have j: ∀z t x,∃y v,Y7 o d r z ((t,(r.2.1,x)):Zr)=some (y,v,())/\Zc7 (K+d.length+1) y.2.1:=by
  intro z t x;unfold Y7 Zdh;obtain⟨b,k1,k2⟩:=Qn7 h o d hK;have hbl:b.2.1.length<=1048576:=by have:=k2.len;omega
  simp only[k1,Obs,Zlk b hbl,Ka];generalize ((((t,(r.2.1,x)):Zr).2.2.1 !=(-1:Int))&&_)=c;cases c
  ·exact⟨_,_,rfl,k2⟩
  ·exact⟨_,_,rfl,k2⟩
 unfold Yn;obtain⟨q,e2⟩:=Zje h (by omega);rw[Qto h (by omega),e2];simp only[Obs];generalize hc: (((!q)|| (decide (o< (0:Int))))|| (decide (o>(IntKind.i64.wrap ((4611686018427387903:Int)- (d.length:Int))))))=c;cases c
 ·obtain⟨v,e3⟩:=Qzr r (IntKind.i64.wrap (o+ (d.length:Int))) f;rw[Ocf,e3,Obs];generalize ((v !=(0:Int))|| (decide (r.1>(1:Int))))=c;cases c
  ·cases f
   ·exact j _ _ _
   ·exact j _ _ _
  ·exact⟨_,_,rfl,h.mono (by omega)⟩
 ·exact⟨_,_,rfl,h.mono (by omega)⟩
theorem Zti{K:Nat}{r:Zr}(h:Zc7 K r.2.1)(hK:K<=1000000)(c f:Int):
  ∃y v,Jh r c f=some (y,v,())/\Zc7 K y.2.1:=by
 unfold Jh;obtain⟨q,e2⟩:=Zje h hK;obtain⟨v,e3⟩:=Qzr r f true;rw[Qto h hK,e2,e3];simp only[Obs,Y5,Ka];generalize ((_||_)||_:Bool)=x;cases x
 ·generalize ((_||_):Bool)=x;cases x
  ·exact⟨_,_,rfl,⟨by simp,by simp[Ze5]⟩⟩
  ·exact⟨_,_,rfl,h⟩
 ·exact⟨_,_,rfl,h⟩
theorem Qt9{K:Nat}{r:Zr}(h:Zc7 K r.2.1)(hK:K<=1000000)(m:Int):
  ∃s y,Zk4 r m=some ((s,y,()),())/\Zc7 K y.2.1/\s.length<=K:=by
 unfold Zk4;obtain⟨q,e2⟩:=Zje h hK;obtain⟨s,b,e3,k3,k4⟩:=Q1x h hK m;rw[Qto h hK,e2,e3];simp only[Obs];cases q
 ·exact⟨_,_,rfl,h,by simp⟩
 ·simp only[Ont,Ocf];cases r.1==(4:Int)
  ·rw[Ocf];unfold Zf9;generalize ((_&&_):Bool)=x;cases x
   ·exact⟨_,_,rfl,k3,k4⟩
   ·exact⟨_,_,rfl,k3,k4⟩
  ·exact⟨_,_,rfl,h,by simp⟩
theorem Zvk(n a b:Int):Z5 n a b=some (decide (n>=a)&&decide (n<=b),()):=rfl
theorem Qox(n:Int): ∃b,Jl n=some (b,()):=⟨_,rfl⟩
theorem Zyx(c:Zfp): ∃b,Vm c=some (b,()):=by
 obtain⟨b,h⟩:=Qox c.1;unfold Vm;simp only[h,Zvk,Ka,Obs];exact⟨_,rfl⟩
theorem Zna(c:Vk): ∃b,Ye c=some (b,()):=by
 unfold Ye;simp only[Y5,Zvk,Ka,Obs];exact⟨_,rfl⟩
theorem Zt4(w:Qq): ∃b,Vq w=some (b,()):=by
 unfold Vq;simp only[Zvk,Ka,Obs];exact⟨_,rfl⟩
theorem Zyz(p:Xf): ∃b,Zat p=some (b,()):=by
 unfold Zat
 simp only[Zvk,Obs];exact⟨_,rfl⟩
theorem Q1c(n:Int): ∃c b,Zcc n=some (c,b,()):=by
 unfold Zcc;simp only[Y5,Obs,Ka];exact⟨_,_,rfl⟩
theorem Qrt(n m:Int): ∃c b,Zce n m=some (c,b,()):=by
 unfold Zce;simp only[Zvk,Obs,Ka];exact⟨_,_,rfl⟩
theorem Qy4(s:Bool)(n:Int): ∃b,Yr s n=some (b,()):=by
 unfold Yr Vc Zcw Zkb;simp only[Y5,Obs,Ka];exact⟨_,rfl⟩
theorem Qme(s:Bool)(n:Int): ∃b,Q8 s n=some (b,()):=by
 unfold Q8 Vc Zcw Zkb;simp only[Y5,Obs,Ka];exact⟨_,rfl⟩
structure Xc(K:Nat)(s:Zd):Prop where
 snd:Za6 K s.2.1
 rcv:Zc7 K s.2.2.2.1.2.1
theorem Xc.mono{K K':Nat}{s:Zd}(h:Xc K s)(hK:K<=K'):Xc K' s:=⟨h.snd.mono (by omega),h.rcv.mono hK⟩
theorem Z2m{K:Nat}{s:Zd}(h:Xc K s)(hK:K<=1000000): ∃b,Zb3 s=some (b,()):=by
 obtain⟨b1,e1,-⟩:=Zhy h.snd (by omega);obtain⟨b2,e2⟩:=Zna s.2.2.1;obtain⟨b3,e3⟩:=Zje h.rcv hK;obtain⟨b4,e4⟩:=Zt4 s.2.2.2.2.1;obtain⟨b5,e5⟩:=Zyz s.2.2.2.2.2.1;unfold Zb3;simp only[e1,e2,e3,e4,e5,Y5,Ka,Obs];exact⟨_,rfl⟩
theorem Q6b(c:Qx)(hc:Wf c): ∃y c',Zml c=some ((y,()),(c',()))/\Wf c'/\(y.1=4\/y.1=8\/y.1=16):=by
 unfold Zml Zqs;obtain⟨x,c1,e1,k1,-,-⟩:=Ztm c 3 hc;simp only[e1,Obs];cases x==(0:Int)
 ·rw[Ocf];cases x==(1:Int)
  ·exact⟨_,_,rfl,k1,.inr (.inr rfl)⟩
  ·exact⟨_,_,rfl,k1,.inr (.inr rfl)⟩
 ·exact⟨_,_,rfl,k1,.inr (.inl rfl)⟩
theorem Znp{K:Nat}{s:Zd}(h:Xc K s)(hK:K<=1000000):Zag s=some (s,()):=by
 unfold Zag;rw[Zsd h.snd (by omega),Qto h.rcv hK];rfl
theorem Q3e(l:List Zd)(n:Int)(hl:l.length<=1000000): ∀(N i:Nat),l.length-i<N->i<=l.length-> ∃v,Xq N l n (i:Int)=some (v,())/\(v<0\/v<l.length)/\(v<0-> ∀s∈l.drop i,s.1≠n)/\(0<=v->(l.getD v.toNat Zh).1=n)
 |0,_,h,_=>by omega
 |N+1,i,hN,hi=>by
  unfold Xq;by_cases h:i<l.length
  ·rw[Zn (Zj (by omega)),Zb (by omega),show(i:Int).toNat=i from rfl];by_cases e: (l.getD i Zh).1=n
   ·rw[Zn (beq_iff_eq.2 e)];exact⟨_,rfl,by omega,fun h=>by omega,fun _=>e⟩
   ·rw[Zm (beq_eq_false_iff_ne.2 e),Zs h (by omega)];obtain⟨v,k1,k2,k3,k4⟩:=Q3e l n hl N (i+1) (by omega) (by omega);refine⟨v,k1,k2,fun hv s hs=> ?_,k4⟩;rw[Kb (d:=Zh) h]at hs;rcases List.mem_cons.1 hs with rfl|hs
    ·exact e
    ·exact k3 hv s hs
  ·rw[Zm (Zk (by omega))];refine⟨_,rfl,by omega,fun _ s hs=> ?_,fun h=>by omega⟩;rw[List.drop_eq_nil_of_le (by omega)]at hs;cases hs
theorem Ztw(l:List Zd)(n:Int)(hl:l.length<=1000000): ∃v,Xp l n=some (v,())/\(v<0\/v<l.length)/\(v<0-> ∀s∈l,s.1≠n)/\(0<=v->(l.getD v.toNat Zh).1=n):=by
 unfold Xp;exact Q3e l n hl _ 0 (by unfold Yd;omega) (by omega)
structure Zgj(K:Nat)(l:List Zd):Prop where
 len:l.length<=K
 all: ∀s∈l,Xc K s
theorem Zgj.mono{K K':Nat}{l:List Zd}(h:Zgj K l)(hK:K<=K'):Zgj K' l:=⟨Nat.le_trans h.len hK,fun s hs=>(h.all s hs).mono hK⟩
theorem Q79{K:Nat}{l:List Zd}{s:Zd}(h:Zgj K l)(hs:Xc K s)(hK:K<=500000)(a:Int): ∀(N i:Nat) (out:List Zd) (p:Bool),l.length-i<N->i<=l.length->(∀x∈out,Xc K x)->out.length<=i+ (if p then 1 else 0)->
  ∃y,Qt N l s out a p (i:Int)=some (y,())/\y.length<=l.length+1/\ ∀x∈y,Xc K x
 |0,_,_,_,h,_,_,_=>by omega
 |N+1,i,out,p,hN,hi,ho,hl=>by
  have hlen:=h.len;have ho':out.length<=i+1:=by split at hl<;>omega
  have app: ∀{o:List Zd} {x},(∀x∈o,Xc K x)->Xc K x-> ∀z∈o++ [x],Xc K z:=fun ho hx z hz=>by
   rcases List.mem_append.1 hz with hz|hz
   ·exact ho z hz
   ·rw[List.mem_singleton.1 hz];exact hx
  unfold Qt;by_cases hh:i<l.length
  ·have hm:=h.all _ (Qh (d:=Zh) hh);rw[Zn (Zj (by omega)),Zb (by omega),show(i:Int).toNat=i from rfl,Znp hm (by omega),Znp hs (by omega)];simp only[Obs];have j: ∀(o:List Zd) (q:Bool) x,(∀x∈o,Xc K x)->Xc K x->o.length<=i+ (if q then 1 else 0)->
     ∃y,Xm (fun v=>Qt N v.1 v.2.1 v.2.2.1 v.2.2.2.1 v.2.2.2.2.1 v.2.2.2.2.2.1) l s o a q (i:Int) x=some (y,())/\y.length<=l.length+1/\ ∀x∈y,Xc K x:=by
    intro o q x h1 h2 h3;have h3':o.length<=i+1:=by split at h3<;>omega
    unfold Xm;rw[Zb (by unfold Qo;simp only[List.length_singleton];omega),Zs hh (by omega)];exact Q79 h hs hK a N (i+1) (o++ [x]) q (by omega) (by omega) (app h1 h2) (by simp only[List.length_append,List.length_singleton];omega)
   cases (i:Int)==a
   ·rw[Ocf,Zb (fun _=>by omega)];cases p
    ·simp only[Bool.not_false,Ota];cases decide ((l.getD i Zh).1>s.1)
     ·exact j _ _ _ ho hm hl
     ·rw[Oct,Zb (by unfold Qo;simp only[List.length_singleton];omega)];exact j _ _ _ (app ho hs) hm (by simp at hl⊢;omega)
    ·exact j _ _ _ ho hm hl
   ·exact j _ _ _ ho hs hl
  ·rw[Zm (Zk (by omega)),Znp hs (by omega)];cases p
   ·simp only[Bool.not_false,Oct,Obs];rw[Zb (by unfold Qo;simp only[List.length_singleton];omega)];exact⟨_,rfl,by simp at hl⊢;omega,app ho hs⟩
   ·exact⟨_,rfl,by simp at hl;omega,ho⟩
theorem Qr0{K:Nat}{l:List Zd}{s:Zd}(h:Zgj K l)(hs:Xc K s)(hK:K<=500000): ∃y,Qi l s=some (y,())/\y.length<=l.length+1/\ ∀x∈y,Xc K x:=by
 unfold Qi;obtain⟨v,e,-⟩:=Ztw l s.1 (by have:=h.len;omega);rw[e,Obs];exact Q79 h hs hK _ _ 0 [] _ (by unfold Vd;omega) (by omega) (by simp) (by simp)
theorem Q49:Xc 0 (((0:Int),(((0:Int),(((0:Int),((0:Int),((0:Int),(([]:List Int),())))),(([]:List Ze),(([]:List Ze),(([]:List Ze),((0:Int),((0:Int),((0:Int),((0:Int),()))))))))),(((0:Int),((0:Int),((0:Int),((0:Int),())))),(((0:Int),(((0:Int),(([]:List Z0),())),((0:Int),((0:Int),((0:Int),()))))),(((0:Int),((0:Int),((0:Int),((0:Int),((0:Int),((0:Int),())))))),(((0:Int),(false,())),(false,(false,(false,(false,(false,(false,((0:Int),(false,())))))))))))))):Zd):=
 ⟨{cells:=(by simp),e0:=Int.le_refl _,eK:=Int.le_refl _,pend:=Zr4 _,flight:=Zr4 _,acked:=Zr4 _},⟨by simp,by simp[Ze5]⟩⟩
theorem Q4y{K:Nat}{c:Zg}(h:Zgj K c.2.2.2.1)(hK:K<=1000000)(n:Int): ∃s b,Qv c n=some (s,b,())/\Xc K s:=by
 unfold Qv;obtain⟨v,e,h1,-⟩:=Ztw c.2.2.2.1 n (by have:=h.len;omega);rw[e,Obs];by_cases hv:v<0
 ·rw[Zn (Zj hv)];exact⟨_,_,rfl,Q49.mono (by omega)⟩
 ·have hm:=h.all _ (Qh (l:=c.2.2.2.1) (i:=v.toNat) (d:=Zh) (by omega));rw[Zm (Zk hv),Zb (by simp only;omega),Znp hm hK];exact⟨_,_,rfl,hm⟩
theorem Q53(n:Int): ∃v,Zjl n=some (v,()):=by
 unfold Zjl;rw[Y5,Obs,Zb (by omega),Ka];exact⟨_,rfl⟩
theorem Z4k(c:Vk): ∃b,Vb c=some (b,()):=by
 unfold Vb;simp only[Zvk,Ka,Obs];exact⟨_,rfl⟩
theorem Z4m(c:Zbm): ∃b,Zb2 c=some (b,()):=by
 unfold Zb2;simp only[Zvk,Ka,Obs];exact⟨_,rfl⟩
theorem Q7n{K:Nat}{l:List Zd}(h:Zgj K l)(hK:K<=1000000): ∀(N i:Nat),l.length-i<N->i<=l.length-> ∃b,X7 N l (i:Int)=some (b,())
 |0,_,h,_=>by omega
 |N+1,i,hN,hi=>by
  have hlen:=h.len;unfold X7;by_cases hh:i<l.length
  ·obtain⟨b,e⟩:=Z2m (h.all _ (Qh (d:=Zh) hh)) hK;rw[Zn (Zj (by omega)),Zb (by omega),show(i:Int).toNat=i from rfl,e,Obs,Zb (fun _ _=>by omega),
    Zb (fun _ h=>by have:=Ode h;rw[Zv (by omega) (by omega)];omega),Zs hh (by omega)]
   exact Qsp (P:=fun m b=>m=some (b,())) ⟨_,rfl⟩ (Q7n h hK N (i+1) (by omega) (by omega))
  ·rw[Zm (Zk (by omega))];exact⟨_,rfl⟩
theorem Ztq{K:Nat}{l:List Zd}(h:Zgj K l)(hK:K<=1000000): ∃b,Y8 l=some (b,()):=by
 unfold Y8;exact Q7n h hK _ 0 (by unfold Wn;omega) (by omega)
theorem Qsb{K:Nat}{l:List Zd}(h:Zgj K l)(hK:K<=1000000): ∃v,Zcg l=some (v,()):=by
 obtain⟨b,e⟩:=Ztq h hK;have hlen:=h.len;have lp: ∀(N i:Nat) (n:Int),l.length-i<N->i<=l.length-> ∃v,Ki N l n (i:Int)=some (v,()):=by
  intro N
  induction N with
  |zero=>intro i n h;omega
  |succ N ih=>
   intro i n hN hi;unfold Ki;rw[e,Ka,Obs];by_cases hh:i<l.length
   ·rw[Zb (by omega),Zs hh (by omega)];exact Qsp (P:=fun m b=>m=some (b,())) (ih (i+1) _ (by omega) (by omega)) ⟨_,rfl⟩
   ·rw[Zk (by omega)];exact⟨_,rfl⟩
 unfold Zcg;exact lp _ 0 0 (by unfold Yv;omega) (by omega)
theorem Qsa{K:Nat}{l:List Zd}(h:Zgj K l)(hK:K<=1000000): ∃v,Zcf l=some (v,()):=by
 obtain⟨b,e⟩:=Ztq h hK;have hlen:=h.len;have lp: ∀(N i:Nat) (n:Int),l.length-i<N->i<=l.length-> ∃v,Kh N l n (i:Int)=some (v,()):=by
  intro N
  induction N with
  |zero=>intro i n h;omega
  |succ N ih=>
   intro i n hN hi;unfold Kh;rw[e,Ka,Obs];by_cases hh:i<l.length
   ·rw[Zb (by omega),Zs hh (by omega)];exact Qsp (P:=fun m b=>m=some (b,())) (ih (i+1) _ (by omega) (by omega)) ⟨_,rfl⟩
   ·rw[Zk (by omega)];exact⟨_,rfl⟩
 unfold Zcf;exact lp _ 0 0 (by unfold Yu;omega) (by omega)
def T{α:Type}(m:Option α)(Q:α->Prop):Prop:= ∃y,m=some y/\Q y
abbrev TT{α:Type}(m:Option α):Prop:=T m fun _=>True
section
variable {α β:Type} {m n:Option α} {f:α->Option β} {Q:α->Prop} {R:β->Prop}
theorem T.bind(h:T m Q)(k: ∀y,Q y->T (f y) R):T (Option.bind m f) R:=by
 obtain⟨y,e,hy⟩:=h;rw[e];exact k y hy
theorem T.pure{y:α}(h:Q y):T (some y) Q:=⟨y,rfl,h⟩
theorem T.tt{y:α}:TT (some y):=⟨y,rfl,trivial⟩
theorem T.ite{c:Bool}(h1:c=true->T m Q)(h2:c=false->T n Q):T (bif c then m else n) Q:=by
 cases c
 ·exact h2 rfl
 ·exact h1 rfl
theorem T.if{c:Bool}(h1:T m Q)(h2:T n Q):T (bif c then m else n) Q:=T.ite (fun _=>h1) fun _=>h2
theorem T.guard{p:Prop}(hp:p)(h:T m Q):T (Zi p m) Q:=by rw[Zb hp];exact h
theorem T.mono{Q':α->Prop}(h:T m Q)(k: ∀y,Q y->Q' y):T m Q':=by
 obtain⟨y,e,hy⟩:=h;exact⟨y,e,k y hy⟩
theorem T.of{y:α}(e:m=some y)(h:Q y):T m Q:=⟨y,e,h⟩
end
theorem tt1{α:Type}{m:Option (α×Unit)}(h: ∃b,m=some (b,())):TT m:=by obtain⟨b,e⟩:=h;exact⟨_,e,trivial⟩
def FOK(f:Zl):Prop:=f.2.2.2.1.length<=1000
def Qpt(l:List Zl):Prop:=l.length<=1000/\ ∀f∈l,FOK f
def Qpu(K:Nat)(l:List Z8):Prop:=l.length<=K/\ ∀p∈l,Qpt p.2.1
theorem Qpu.mono{K K':Nat}{l:List Z8}(h:Qpu K l)(hK:K<=K'):Qpu K' l:=⟨Nat.le_trans h.1 hK,h.2⟩
structure Qe(K:Nat)(c:Zg):Prop where
 str:Zgj K c.2.2.2.1
 pk:Qpu K c.2.2.2.2.2.2.2.2.2.2.2.2.2.2.2.1
theorem Qe.mono{K K':Nat}{c:Zg}(h:Qe K c)(hK:K<=K'):Qe K' c:=⟨h.str.mono hK,h.pk.mono hK⟩
theorem Qrw{K:Nat}{l:List Z8}(h:Qpu K l)(hK:K<=1000000): ∀(N i:Nat),l.length-i<N->i<=l.length->Zev N l (l.take i) (i:Int)=some (l,())
 |0,_,h,_=>by omega
 |N+1,i,hN,hi=>by
  have hl:=h.1;unfold Zev;by_cases hh:i<l.length
  ·have hm:=(h.2 _ (Qh (d:=Qg) hh)).1;rw[Zn (Zj (by omega)),Zb (by omega),Zb (by omega),show(i:Int).toNat=i from rfl,Zb (by unfold Qo;simp only[List.length_nil];omega)];simp only[List.nil_append];rw[Zb (by unfold Qo;simp only[List.length_take,List.length_singleton];omega),Zs hh (by omega)];have e:l.take i++ [((l.getD i Qg).1,((l.getD i Qg).2.1,()))]=l.take (i+1):=by
    rw[List.take_succ_eq_append_getElem hh,List.getD_eq_getElem?_getD,List.getElem?_eq_getElem hh];rfl
   rw[e];exact Qrw h hK N (i+1) (by omega) (by omega)
  ·rw[Zm (Zk (by omega)),List.take_of_length_le (by omega)]
theorem Qxm{K:Nat}{l:List Z8}(h:Qpu K l)(hK:K<=1000000):Zn3 l=some (l,()):=by
 unfold Zn3;exact Qrw h hK _ 0 (by unfold Ziu;omega) (by omega)
theorem Qrn{K:Nat}{c:Zg}(h:Qe K c)(hK:K<=1000000)(t:Zg): ∀(N i:Nat),c.2.2.2.1.length-i<N->i<=c.2.2.2.1.length->
  Zcz N c t (c.1,(c.2.1,(c.2.2.1,(c.2.2.2.1.take i,c.2.2.2.2)))) (i:Int)=some (c,())
 |0,_,h,_=>by omega
 |N+1,i,hN,hi=>by
  have hl:=h.str.len;unfold Zcz;by_cases hh:i<c.2.2.2.1.length
  ·rw[Zn (Zj (by omega)),Zb (by omega),show(i:Int).toNat=i from rfl,Znp (h.str.all _ (Qh (d:=Zh) hh)) hK,Obs,
    Zb (by unfold Qo;simp only[List.length_take,List.length_singleton];omega),Zs hh (by omega)]
   have e:c.2.2.2.1.take i++ [c.2.2.2.1.getD i Zh]=c.2.2.2.1.take (i+1):=by
    rw[List.take_succ_eq_append_getElem hh,List.getD_eq_getElem?_getD,List.getElem?_eq_getElem hh];rfl
   simp only[e];exact Qrn h hK t N (i+1) (by omega) (by omega)
  ·rw[Zm (Zk (by omega)),List.take_of_length_le (by omega),Qxm h.pk hK];rfl
theorem Wu{K:Nat}{c:Zg}(h:Qe K c)(hK:K<=1000000):Z6 c=some (c,()):=by
 unfold Z6;exact Qrn h hK _ _ 0 (by unfold Zly;omega) (by omega)
theorem Z4n{f:Zl}(h:FOK f):TT (Zae f):=⟨_,Ztj f (by unfold FOK at h;omega),trivial⟩
theorem Q06{l:List Zl}(h:Qpt l):TT (Zch l):=by
 have lp: ∀(N i:Nat),l.length-i<N->i<=l.length->TT (Ji N l (i:Int)):=by
  intro N
  induction N with
  |zero=>intro i h;omega
  |succ N ih=>
   intro i hN hi;have hl:=h.1;unfold Ji;refine T.ite (fun hc=> ?_) fun _=>T.tt;have hc:=Ode hc;refine T.guard (by omega) ((Z4n (h.2 _ (Qh (by omega)))).bind fun t _=>T.if T.tt ?_);rw[Zs (m:=l.length) (by omega) (by omega)];exact ih (i+1) (by omega) (by omega)
 unfold Zch;exact lp _ 0 (by unfold Kq;omega) (by omega)
theorem tIn(n a b:Int):TT (Z5 n a b):=⟨_,Zvk n a b,trivial⟩
theorem Qwr(n:Int):TT (Qf n):=⟨_,Y5 n,trivial⟩
theorem Qic{K:Nat}{l:List Zd}(h:Zgj K l)(hK:K<=1000000):T (Y8 l) fun r=>r.1=true->l.length<=24:=by
 have hlen:=h.len;have lp: ∀(N i:Nat),l.length-i<N->i<=l.length->T (X7 N l (i:Int)) fun r=>r.1=true->l.length<=24:=by
  intro N
  induction N with
  |zero=>intro i h;omega
  |succ N ih=>
   intro i hN hi;unfold X7;refine T.ite (fun hc=> ?_) fun _=>T.pure fun h=>by have:=Ode h;omega
   have hc:=Ode hc;refine T.guard (by omega) ((tt1 (Z2m (h.all _ (Qh (by omega))) hK)).bind fun t _=>T.guard (fun _ _=>by omega) (T.guard (fun _ h=> ?_) (T.if (T.pure fun h=>by cases h) ?_)))
   ·have:=Ode h;rw[Zv (by omega) (by omega)];omega
   ·rw[Zs (m:=l.length) (by omega) (by omega)];exact ih (i+1) (by omega) (by omega)
 unfold Y8;exact lp _ 0 (by unfold Wn;omega) (by omega)
theorem Qzn{K:Nat}{c:Zg}(h:Qe K c)(hK:K<=1000000):T (Y2 c) fun r=>r.1=true->c.2.2.2.1.length<=24:=by
 have lp: ∀(N i:Nat),c.2.2.2.2.2.2.2.2.2.2.2.2.2.2.2.1.length-i<N->i<=c.2.2.2.2.2.2.2.2.2.2.2.2.2.2.2.1.length->TT (Zad N c (i:Int)):=by
  intro N
  induction N with
  |zero=>intro i h;omega
  |succ N ih=>
   intro i hN hi;have hl:=h.pk.1;unfold Zad;refine T.ite (fun hc=> ?_) fun _=> ?_
   ·have hc:=Ode hc;refine T.guard (by omega) ((tIn _ _ _).bind fun t _=>T.guard (fun _ _=>by omega) (T.guard (fun _ h=> ?_) (T.guard (fun _=>by omega) (T.bind (Q:=fun _=>True) (T.if T.tt (Q06 (h.pk.2 _ (Qh (by omega))))) fun t2 _=>T.if T.tt ?_))))
    ·have:=Ode h;rw[Zv (by omega) (by omega)];omega
    ·rw[Zs (m:=c.2.2.2.2.2.2.2.2.2.2.2.2.2.2.2.1.length) (by omega) (by omega)];exact ih (i+1) (by omega) (by omega)
   ·exact(tIn _ _ _).bind fun t _=>T.bind (Q:=fun _=>True) (T.if (tIn _ _ _) T.tt) fun t _=>T.bind (Q:=fun _=>True) (T.if (tIn _ _ _) T.tt) fun t _=>T.bind (Q:=fun _=>True) (T.if (tIn _ _ _) T.tt) fun t _=>
     T.bind (Q:=fun _=>True) (T.if (tt1 (Qsb h.str hK)) T.tt) fun t _=>T.bind (Q:=fun _=>True) (T.if (tt1 (Qsa h.str hK)) T.tt) fun t _=>T.tt
 unfold Y2;have B: ∀{α β:Type} {b:Bool} {m n:Option α} {f:α->Option β} {R:β->Prop},TT m->TT n->(∀y,T (f y) R)->T (Option.bind (bif b then m else n) f) R:=fun h1 h2 h3=>(T.if h1 h2).bind fun y _=>h3 y;exact(tt1 (Zyx _)).bind fun t _=>B T.tt (tt1 (Zyx _)) fun t=>T.bind (Q:=fun r=>r.1=true->c.2.2.2.1.length<=24) (T.if (T.pure fun h=>by cases h) (Qic h.str hK)) fun t hs=>B T.tt (tt1 (Zna _)) fun t=>B T.tt (tt1 (Zt4 _)) fun t=>B T.tt (tt1 (Z4m _)) fun t=>B T.tt (tt1 (Z4m _)) fun t=>B T.tt (tt1 (Z4k _)) fun t=>B T.tt (tt1 (Z4k _)) fun t=>
  T.ite (fun _=>T.pure fun h=>by cases h) fun hc=>(lp _ 0 (by unfold K9;omega) (by omega)).mono fun _ _ _=>hs (by simp at hc;simp[hc])
theorem Zyy{K:Nat}{c:Zg}(h:Qe K c)(hK:K<=1000000):TT (Y2 c):=(Qzn h hK).mono fun _ _=>trivial
theorem Qvm{K:Nat}{c:Zg}(h:Qe K c)(hK:K<=1000000):T (Jk c) fun r=>r.1=true->c.2.2.2.1.length<=24:=by
 unfold Jk;exact(Qzn h hK).bind fun t ht=>T.bind (Q:=fun _=>True) (T.if ⟨_,rfl,trivial⟩ T.tt) fun t2 _=>T.pure fun h=>ht (by simp at h;exact h.1)
theorem Ztd{K:Nat}{c:Zg}(h:Qe K c)(hK:K<=1000000):TT (Jk c):=(Qvm h hK).mono fun _ _=>trivial
theorem Xa8(n:Int):T (Jl n) fun r=>r.1=true->0<n/\n<=64:=⟨_,rfl,fun h=>by simp at h;omega⟩
theorem Qxx(n:Int):T (Zcd n) fun r=>Za6 0 r.1:=by
 unfold Zcd Zp2;have z:Za6 0 Zak:={cells:=(by simp[Zak]),e0:=Int.le_refl _,eK:=Int.le_refl _,pend:=Zr4 _,flight:=Zr4 _,acked:=Zr4 _}
 refine T.bind (Q:=fun r=>r.2.1=true->r.1.2.2.2.1.length<=64/\r.1.2.2.1=0) ((Xa8 n).bind fun t ht=>T.ite (fun _=>T.pure fun h=>by cases h) fun hc=> ?_) fun t ht=>T.ite (fun _=>T.pure z) fun hc=>T.pure ?_
 ·have:=ht (by simpa using hc);exact T.guard (by unfold Qo;omega) (T.pure fun _=>⟨by simp;omega,rfl⟩)
 ·have:=ht (by simpa using hc);exact {cells:=this.1,e0:=by simp only[this.2];omega,eK:=by simp only[this.2];omega,pend:=Zr4 _,flight:=Zr4 _,acked:=Zr4 _}
theorem Z8q(v:Bool)(i:Int)(o p:Zfp):T (Kx v i o p) fun r=>Xc 0 r.1:=by
 obtain⟨b1,e1⟩:=Zyx o;obtain⟨b2,e2⟩:=Zyx p;obtain⟨b3,e3⟩:=Qy4 v i;obtain⟨b4,e4⟩:=Qme v i;obtain⟨⟨s,b5,u⟩,e5,h5⟩:=Qxx o.1;obtain⟨c6,b6,e6⟩:=Q1c p.2.1;obtain⟨c7,b7,e7⟩:=Qrt o.2.1 o.2.2.1;obtain⟨r,e8,h8⟩:=Qvx;unfold Kx Wp;simp only[e1,e2,e3,e4,e5,e6,e7,e8,Y5,Ka,Obs];generalize ((_||_)||_:Bool)=x;cases x
 ·exact T.pure (by exact⟨h5,h8⟩)
 ·exact T.pure Q49
theorem Q9g(v:Bool)(n:Int):TT (Zcw v n):=by
 unfold Zcw Zkb;simp only[Y5,Obs,Ka];exact⟨_,rfl,trivial⟩
theorem Q7h(n:Int):TT (Vc n):=by
 unfold Vc;simp only[Y5,Obs];exact⟨_,rfl,trivial⟩
theorem Q1e(c:Zbm):TT (Zrb c):=by
 unfold Zrb;exact(tt1 (Z4m c)).bind fun t _=>T.if T.tt (T.if T.tt T.tt)
theorem Q6k(n:Int)(s u:Bool):TT (Zvz n s u):=by
 unfold Zvz;have j: ∀u i,TT (Zls u i):=fun u i=>by unfold Zls;exact T.if T.tt T.tt
 exact(tIn _ _ _).bind fun t _=>T.if T.tt (T.guard (by omega) (T.if (j _ _) (j _ _)))
theorem Yx{K K':Nat}{l:List Zd}{s:Zd}(h:Zgj K l)(hs:Xc K' s)(hk:K<=K')(hK:K'+1<=500000):T (Qi l s) fun r=>Zgj (K'+1) r.1:=by
 obtain⟨y,e,h1,h2⟩:=Qr0 (h.mono hk) hs (by omega);have:=h.len;exact⟨_,e,⟨by simp only;omega,fun x hx=>(h2 x hx).mono (by omega)⟩⟩
theorem Zjs{K:Nat}{c:Zg}(h:Qe K c)(hK:K<=1000000)(n:Int):T (Qv c n) fun r=>Xc K r.1:=by
 obtain⟨s,b,e,hs⟩:=Q4y h.str hK n;exact⟨_,e,hs⟩
theorem Qe.up{K K':Nat}{c:Zg}(h:Qe K c)(hk:K<=K'){l:List Zd}(hl:Zgj K' l):Qe K' (c.1,(c.2.1,(c.2.2.1,(l,c.2.2.2.2)))):=⟨hl,h.pk.mono hk⟩
theorem Qx2{K:Nat}{c:Zg}(h:Qe K c)(hK:K+1<=500000)(u:Bool):T (Zfk c u) fun r=>Qe (K+1) r.2.1:=by
 unfold Zfk;rw[Wu h (by omega),Obs];have j2: ∀u x t i b,Qe K x->T (Wb u c t x i b) fun r=>Qe (K+1) r.2.1:=fun u x t i b hx=>by
  unfold Wb;exact T.if (T.pure (hx.mono (by omega))) ((Q6k _ _ _).bind fun t1 _=>(Z8q _ _ _ _).bind fun t2 h2=>(Yx hx.str (h2.mono (by omega)) (Nat.le_refl _) (by omega)).bind fun t3 h3=>T.pure (hx.up (by omega) h3))
 have j1: ∀u t n,T (Wa u c t c n) fun r=>Qe (K+1) r.2.1:=fun u t n=>by
  unfold Wa;exact(Q1e _).bind fun t1 _=>T.if (j2 _ _ _ _ _ ⟨h.str,h.pk⟩) (j2 _ _ _ _ _ ⟨h.str,h.pk⟩)
 exact(Ztd h (by omega)).bind fun t _=>T.if (T.pure (h.mono (by omega))) (T.if (j1 _ _ _) (j1 _ _ _))
theorem Qwy{K:Nat}{c:Zg}(h:Qe K c)(i:Int)(d:List UInt8)(hK:K+d.length+1<=500000):T (Zd5 c i d) fun r=>Qe (K+d.length+1) r.2.1:=by
 unfold Zd5;rw[Wu h (by omega),Obs];refine(Zjs h (by omega) i).bind fun s hs=>(Ztd h (by omega)).bind fun t _=>T.if (T.pure (h.mono (by omega))) ?_;obtain⟨x,n,e,h1⟩:=Qwx hs.snd d (by omega);rw[e,Obs];exact(Yx h.str (K':=K+d.length) (by exact⟨h1.mono (by omega),hs.rcv.mono (by omega)⟩) (by omega) (by omega)).bind fun t3 h3=>T.pure (h.up (by omega) h3)
theorem Qtb{K:Nat}{c:Zg}(h:Qe K c)(hK:K+1<=500000)(i:Int):T (Zcr c i) fun r=>Qe (K+1) r.1:=by
 unfold Zcr;rw[Wu h (by omega),Obs];refine(Zjs h (by omega) i).bind fun s hs=>(Ztd h (by omega)).bind fun t _=>T.if (T.pure (h.mono (by omega))) ?_;obtain⟨x,ok,e,h1⟩:=Quy hs.snd (by omega);rw[e,Obs];exact T.if (T.pure (h.mono (by omega))) ((Yx h.str (by exact⟨h1,hs.rcv⟩) (Nat.le_refl _) (by omega)).bind fun t3 h3=>T.pure (h.up (by omega) h3))
theorem Qo8(w:Qq)(n:Int):TT (Zeu w n):=by
 unfold Zeu;exact(tt1 (Zt4 w)).bind fun t _=>T.if T.tt T.tt
theorem Qzp{K:Nat}{x:Zg}{s:Zd}(h:Qe K x)(hs:Xc K s)(n:Int):T (Zgd x s n) fun r=>Qe K r.2.1/\Xc K r.2.2.1:=by
 unfold Zgd;exact(Qo8 _ _).bind fun t _=>(Qo8 _ _).bind fun t2 _=>T.pure ⟨⟨h.str,h.pk⟩,⟨hs.snd,hs.rcv⟩⟩
theorem Q1n{K:Nat}{r:Zr}(h:Zc7 K r.2.1)(hK:K<=1000000):TT (Zj9 r):=by
 unfold Zj9;exact(tt1 (Zje h hK)).bind fun t _=>T.tt
theorem Q3w{K:Nat}{s:Zd}(h:Xc K s)(hK:K<=1000000):TT (Zlr s):=by
 unfold Zlr Znz Zka;exact(tt1 (Z2m h hK)).bind fun t _=>T.bind (Q:=fun _=>True) (T.if T.tt T.tt) fun t _=>T.bind (Q:=fun _=>True) (T.if (T.bind (Q:=fun _=>True) (T.if T.tt (Q1n h.rcv hK)) fun t _=>T.tt) T.tt) fun t _=>T.tt
theorem Qrb(a:Vk):TT (Zb1 a):=by
 unfold Zb1;exact(tt1 (Z4k a)).bind fun t _=>T.if T.tt T.tt
theorem Q6c{K:Nat}{x:Zg}{s:Zd}(h:Qe K x)(hs:Xc K s)(hK:K<=1000000):T (Zjp x s) fun r=>Qe K r.2.1/\Xc K r.2.2.1:=by
 unfold Zjp;exact T.bind (Q:=fun _=>True) (T.if T.tt (Q9g _ _)) fun t _=>T.bind (Q:=fun _=>True) (T.if T.tt (Q3w hs hK)) fun t _=>T.if (T.pure ⟨h,hs⟩) ((Q7h _).bind fun t _=>T.if ((Qrb _).bind fun t _=>T.pure ⟨⟨h.str,h.pk⟩,⟨hs.snd,hs.rcv⟩⟩) ((Qrb _).bind fun t _=>T.pure ⟨⟨h.str,h.pk⟩,⟨hs.snd,hs.rcv⟩⟩))
theorem Z4p{K K':Nat}{x:Zg}{s:Zd}(h:Qe K x)(hs:Xc K' s)(hk:K<=K')(hK:K'+1<=500000):T (Jj x s) fun r=>Qe (K'+1) r.2.1:=by
 unfold Jj;exact(Q6c (h.mono hk) hs (by omega)).bind fun t ht=>(Yx ht.1.str ht.2 (Nat.le_refl _) hK).bind fun t3 h3=>T.pure (ht.1.up (by omega) h3)
theorem Qx5{K:Nat}{c:Zg}(h:Qe K c)(hK:K+1<=500000)(i m:Int):T (Zfl c i m) fun r=>Qe (K+1) r.1.2.2.1:=by
 unfold Zfl;rw[Wu h (by omega),Obs];refine(Zjs h (by omega) i).bind fun s hs=>(Ztd h (by omega)).bind fun t _=>T.if (T.pure (h.mono (by omega))) ?_;obtain⟨d,r,e,h1,-⟩:=Qt9 hs.rcv (by omega) m;rw[e,Obs];have j: ∀t x s d r,Qe K x->Xc K s->T (Wc t x s d r) fun r=>Qe (K+1) r.1.2.2.1:=fun t x s d r hx hs=>by
  unfold Wc;exact(Z4p hx hs (Nat.le_refl _) hK).bind fun t3 h3=>T.pure h3
 exact T.if ((Qzp h (by exact⟨hs.snd,h1⟩) _).bind fun t ht=>j _ _ _ _ _ ht.1 ht.2) (j _ _ _ _ _ h (by exact⟨hs.snd,h1⟩))
theorem Qwa{K:Nat}{c:Zg}(h:Qe K c)(hK:K+1<=500000)(i k:Int):T (Zd3 c i k) fun r=>Qe (K+1) r.1.1:=by
 unfold Zd3;rw[Wu h (by omega),Obs];refine(Zjs h (by omega) i).bind fun s hs=>(Ztd h (by omega)).bind fun t _=>T.if (T.pure (h.mono (by omega))) ?_;obtain⟨x,ok,e,h1⟩:=Zrx hs.snd k (by omega);rw[e,Obs];exact T.if (T.pure (h.mono (by omega))) ((Z4p h (by exact⟨h1,hs.rcv⟩) (Nat.le_refl _) hK).bind fun t3 h3=>T.pure h3)
theorem Q2z(s:List UInt8)(hs:s.length<=1000000)(b:Int): ∀(N i:Nat) (out:List (List UInt8)) (p:List UInt8),s.length-i<N->i<=s.length->out.length<=i->p.length<=i->(∀x∈out,x.length<=i)->
  T (Zis N s b out p (i:Int)) fun r=>r.1.length<=s.length+1/\ ∀x∈r.1,x.length<=s.length
 |0,_,_,_,h,_,_,_,_=>by omega
 |N+1,i,out,p,hN,hi,ho,hp,hx=>by
  have app: ∀{k:Nat} {o:List (List UInt8)} {x},(∀x∈o,x.length<=k)->x.length<=k-> ∀z∈o++ [x],z.length<=k:=fun ho hx z hz=>by
   rcases List.mem_append.1 hz with hz|hz
   ·exact ho z hz
   ·rw[List.mem_singleton.1 hz];exact hx
  unfold Zis;refine T.ite (fun hc=> ?_) fun _=>T.guard (by unfold Qo;simp only[List.length_singleton];omega) (T.pure ⟨by simp;omega,app (fun x h=>by have:=hx x h;omega) (by omega)⟩);have hc:i<s.length:=by have:=Ode hc;omega
  refine T.guard (by omega) (T.if (T.guard (by unfold Qo;simp only[List.length_singleton];omega) ?_) (T.guard ?_ (T.guard ?_ ?_)))
  ·unfold Zlv;rw[Zs hc (by omega)];exact Q2z s hs b N (i+1) _ _ (by omega) (by omega) (by simp;omega) (by simp) (app (fun x h=>by have:=hx x h;omega) (by omega))
  ·rw[Zs hc (by omega)];omega
  ·unfold Zqi;simp only[List.length_take,List.length_drop];rw[Zs hc (by omega)];omega
  ·unfold Zlv;rw[Zs hc (by omega)];exact Q2z s hs b N (i+1) _ _ (by omega) (by omega) (by simp only;omega) (by simp only[List.length_append,List.length_take,List.length_drop];omega) (fun x h=>by have:=hx x h;omega)
theorem Xb4(s:List UInt8)(hs:s.length<=1000000)(b:Int):T (Zv0 s b) fun r=>r.1.length<=s.length+1/\ ∀x∈r.1,x.length<=s.length:=by
 unfold Zv0;exact Q2z s hs b _ 0 _ _ (by unfold Zm2;omega) (by omega) (by simp) (by simp) (by simp)
theorem Q0c: ∀(N:Nat) (s:List UInt8),s.length<N->s.length<=1000000->T (Zkd N s) fun r=>r.1.length<=s.length
 |0,_,h,_=>by omega
 |N+1,s,hN,hs=>by
  unfold Zkd;refine T.guard (fun h=> ?_) (T.ite (fun hc=> ?_) fun _=>T.pure (Nat.le_refl _))
  ·have:=Ode h;rw[Zv (by omega) (by omega)];omega
  ·have: (s.length:Int)>0:=by simp at hc;omega
   refine T.guard (by rw[Zv (by omega) (by omega)];omega) ((Q0c N _ ?_ ?_).mono fun y hy=> ?_)
   all_goals (simp only[List.length_take,List.length_drop]at*;rw[Zv (by omega) (by omega)]at*;omega)
theorem Q0b: ∀(N:Nat) (s:List UInt8),s.length<N->s.length<=1000000->T (Zkc N s) fun r=>r.1.length<=s.length
 |0,_,h,_=>by omega
 |N+1,s,hN,hs=>by
  unfold Zkc;refine T.guard (fun h=> ?_) (T.ite (fun hc=> ?_) fun _=>Q0c _ s (by unfold Zlx;omega) hs)
  ·have:=Ode h;omega
  ·have: (s.length:Int)>0:=by simp at hc;omega
   refine T.guard (by omega) ((Q0b N _ ?_ ?_).mono fun y hy=> ?_)
   all_goals (simp only[List.length_take,List.length_drop]at*;omega)
theorem Xbu(s:List UInt8)(hs:s.length<=1000000):T (Ztk s) fun r=>r.1.length<=s.length:=by
 unfold Ztk;exact Q0b _ s (by unfold Zlw;omega) hs
theorem Q9a(p:Xf)(s:List UInt8)(hs:s.length<=100000):TT (Zjn p s):=by
 have lp: ∀(l:List (List UInt8)),l.length<=100001->(∀x∈l,x.length<=100000)-> ∀(t:Xf) (N i:Nat) (b:Xf),l.length-i<N->i<=l.length->TT (Yc N b t l (i:Int)):=by
  intro l hl hx t N
  induction N with
  |zero=>intro i b h;omega
  |succ N ih=>
   intro i b hN hi;unfold Yc;refine T.ite (fun hc=> ?_) fun _=>T.tt;have hc:i<l.length:=by have:=Ode hc;omega
   have j: ∀b,TT (Jc (fun v=>Yc N v.1 v.2.1 v.2.2.1 v.2.2.2.1) b t l (i:Int)):=fun b=>by
    unfold Jc;rw[Zs hc (by omega)];exact ih (i+1) _ (by omega) (by omega)
   refine T.guard (by omega) ((Xbu _ (by have:=hx _ (Qh (d:=[]) hc);rw[show(i:Int).toNat=i from rfl];omega)).bind fun t _=>T.if (j _) (T.if (j _) (T.guard (fun h=> ?_) (T.guard (fun h=> ?_) (T.guard (fun h=> ?_) (T.ite (fun h=>T.guard ?_ (j _)) fun _=>j _))))))
   all_goals (simp at h;omega)
 have j: ∀b t,TT (Zbl s b t):=fun b t=>by
  unfold Zbl;exact(Xb4 s (by omega) 44).bind fun r hr=>lp _ (by omega) (fun x hx=>by have:=hr.2 x hx;omega) _ _ 0 _ (by unfold Zeq;omega) (by omega)
 unfold Zjn;have d:TT Wp:=⟨_,rfl,trivial⟩
 exact(tt1 (Zyz p)).bind fun t _=>T.if (d.bind fun t _=>j _ _) (j _ _)
theorem Qwg{K:Nat}{c:Zg}(h:Qe K c)(hK:K+1<=500000)(i:Int)(x:List UInt8)(hx:x.length<=100000):T (Zd4 c i x) fun r=>Qe (K+1) r.1:=by
 unfold Zd4;rw[Wu h (by omega),Obs];exact(Zjs h (by omega) i).bind fun s hs=>(Ztd h (by omega)).bind fun t _=>T.if (T.pure (h.mono (by omega))) ((Q9a _ x hx).bind fun t _=>(Yx h.str (by exact⟨hs.snd,hs.rcv⟩) (Nat.le_refl _) hK).bind fun t3 h3=>T.pure (h.up (by omega) h3))
theorem Z8p(w:Qq):TT (Zik w):=by
 unfold Zik;exact(tt1 (Zt4 w)).bind fun t _=>T.guard (fun _=>by omega) T.tt
theorem Qdv(w:Qq)(n t:Int):TT (Zir w n t):=by
 unfold Zir;have j: ∀n w t,TT (Zhd n w t):=fun n w t=>⟨_,rfl,trivial⟩
 exact(Z8p w).bind fun t _=>T.bind (Q:=fun _=>True) (T.if T.tt (tIn _ _ _)) fun t _=>T.bind (Q:=fun _=>True) (T.if T.tt (tIn _ _ _)) fun t _=>T.if T.tt (T.if (j _ _ _) (j _ _ _))
theorem Qvn(c:Zg):TT (Znk c):=by
 unfold Znk;exact(Z8p _).bind fun t _=>T.if ((Qdv _ _ _).bind fun t _=>T.tt) T.tt
theorem Qof(a:Vk):TT (Zlt a):=by
 unfold Zlt;exact(tt1 (Z4k a)).bind fun t _=>T.guard (fun _=>by omega) T.tt
theorem Qv4(a:Vk):TT (Zn2 a):=by
 unfold Zn2;exact(Qof a).bind fun t _=>T.if T.tt T.tt
theorem Qcq(a:Vk)(b:Bool):TT (Zgx a b):=by
 unfold Zgx;exact(Qof a).bind fun t _=>T.if ((Qv4 a).bind fun t _=>T.tt) T.tt
theorem Qro(c:Zg)(s:Zd):TT (Zl3 c s):=by
 unfold Zl3;exact T.if T.tt ((Z8p _).bind fun t _=>T.if ((Qdv _ _ _).bind fun t _=>T.tt) T.tt)
theorem Qrp(c:Vk):TT (Zng c):=by
 unfold Zng;exact(tt1 (Zna c)).bind fun t _=>T.tt
theorem Q2q(c:Vk):TT (Zf0 c):=by
 unfold Zf0;exact(tt1 (Zna c)).bind fun t _=>T.if T.tt T.tt
theorem Q74(c:Vk):TT (Zin c):=by
 unfold Zin;exact(tt1 (Zna c)).bind fun t _=>T.if T.tt T.tt
def FL(n:Nat)(l:List Zl):Prop:=l.length<=n/\ ∀f∈l,FOK f
theorem FL.one{n:Nat}{l:List Zl}{f:Zl}(h:FL n l)(hf:FOK f):FL (n+1) (l++ [f]):=⟨by have:=h.1;simp;omega,fun x hx=>by
 rcases List.mem_append.1 hx with hx|hx
 ·exact h.2 x hx
 ·rw[List.mem_singleton.1 hx];exact hf⟩
theorem FL.app{n m:Nat}{l k:List Zl}(h:FL n l)(hk:FL m k):FL (n+m) (l++k):=⟨by have:=h.1;have:=hk.1;simp;omega,fun x hx=>by
 rcases List.mem_append.1 hx with hx|hx
 ·exact h.2 x hx
 ·exact hk.2 x hx⟩
theorem FL.mono{n m:Nat}{l:List Zl}(h:FL n l)(hn:n<=m):FL m l:=⟨Nat.le_trans h.1 hn,h.2⟩
theorem FL.nil:FL 0 []:=⟨Nat.le_refl _,by simp⟩
theorem Qko(k:Int)(i o:Int)(x):FOK ((k,(i,(o,(([]:List UInt8),x)))):Zl):=Nat.zero_le _
theorem FL.cap{n:Nat}{l k:List Zl}(h:FL n l)(hn:n+k.length<=10000):l.length+k.length<=Qo:=by have:=h.1;unfold Qo;omega
theorem Q07(c:Zg)(s:Zd):T (Zp8 c s) fun r=>FL 4 r.1:=by
 have j3: ∀o,FL 3 o->T (Zgg s o) fun r=>FL 4 r.1:=fun o ho=>by
  unfold Zgg;exact(Qrp _).bind fun t _=>T.if (T.guard (ho.cap (by simp)) (T.pure (ho.one (Qko _ _ _ _)))) (T.pure (ho.mono (by omega)))
 have j2: ∀o,FL 2 o->T (Zgf c s o) fun r=>FL 4 r.1:=fun o ho=>by
  unfold Zgf;exact(Qro _ _).bind fun t _=>T.if (T.guard (ho.cap (by simp)) (j3 _ (ho.one (Qko _ _ _ _)))) (j3 _ (ho.mono (by omega)))
 have j1: ∀o,FL 1 o->T (Zge c s o) fun r=>FL 4 r.1:=fun o ho=>by
  unfold Zge;exact T.if (T.guard (ho.cap (by simp)) (j2 _ (ho.one (Qko _ _ _ _)))) (j2 _ (ho.mono (by omega)))
 unfold Zp8;exact T.if (T.guard (FL.nil.cap (by simp)) (j1 _ (FL.nil.one (Qko _ _ _ _)))) (j1 _ (FL.nil.mono (by omega)))
theorem Qpz{K:Nat}{c:Zg}(h:Qe K c)(hK:K<=1000000):T (Zjj c) fun r=>FL (4*c.2.2.2.1.length+6) r.1:=by
 have hl:=h.str.len;have cap: ∀{n:Nat} {l k:List Zl},FL n l->n+k.length<=10000000->l.length+k.length<=Qo:=fun h hn=>by have:=h.1;unfold Qo;omega
 generalize hn:c.2.2.2.1.length=n at hl;have j5: ∀o,FL (4*n+5) o->T (Zbf c o) fun r=>FL (4*n+6) r.1:=fun o ho=>by
  unfold Zbf;exact T.if (T.guard (cap ho (by simp;omega)) (T.pure (ho.one (Qko _ _ _ _)))) (T.pure (ho.mono (by omega)))
 have j4: ∀o,FL (4*n+4) o->T (Zbe c o) fun r=>FL (4*n+6) r.1:=fun o ho=>by
  unfold Zbe;exact T.if (T.guard (cap ho (by simp;omega)) (j5 _ (ho.one (Qko _ _ _ _)))) (j5 _ (ho.mono (by omega)))
 have lp: ∀(N i:Nat) (o:List Zl),n-i<N->i<=n->FL (4*i+3) o->T (Zbg N c o (i:Int)) fun r=>FL (4*n+6) r.1:=by
  intro N
  induction N with
  |zero=>intro i o h;omega
  |succ N ih=>
   intro i o hN hi ho;unfold Zbg;refine T.ite (fun hc=> ?_) fun hc=> ?_
   ·have hc:=Ode hc;refine T.guard (by omega) ((Q07 _ _).bind fun t ht=>T.guard (cap ho (by have:=ht.1;omega)) ?_);rw[Zs (m:=n) (by omega) (by omega)];exact ih (i+1) _ (by omega) (by omega) ((ho.app ht).mono (by omega))
   ·have hc:=of_decide_eq_false hc;have ho:=ho.mono (m:=4*n+3) (by omega);exact(Qrp _).bind fun t _=>T.if (T.guard (cap ho (by simp;omega)) (j4 _ (ho.one (Qko _ _ _ _)))) (j4 _ (ho.mono (by omega)))
 have j3: ∀o,FL 3 o->T (Zbd c o) fun r=>FL (4*n+6) r.1:=fun o ho=>by
  unfold Zbd;exact lp _ 0 o (by unfold Zel;omega) (by omega) ho
 have j2: ∀o,FL 2 o->T (Zbc c o) fun r=>FL (4*n+6) r.1:=fun o ho=>by
  unfold Zbc;exact(Qcq _ _).bind fun t _=>T.if (T.guard (cap ho (by simp)) (j3 _ (ho.one (Qko _ _ _ _)))) (j3 _ (ho.mono (by omega)))
 have j1: ∀o,FL 1 o->T (Zbb c o) fun r=>FL (4*n+6) r.1:=fun o ho=>by
  unfold Zbb;exact(Qcq _ _).bind fun t _=>T.if (T.guard (cap ho (by simp)) (j2 _ (ho.one (Qko _ _ _ _)))) (j2 _ (ho.mono (by omega)))
 unfold Zjj;exact(Ztd h hK).bind fun t _=>T.if (T.pure (FL.nil.mono (by omega))) ((Qvn c).bind fun t _=>T.if (T.guard (cap FL.nil (by simp)) (j1 _ (FL.nil.one (Qko _ _ _ _)))) (j1 _ (FL.nil.mono (by omega))))
theorem Qwi(n:Int):T (Zni n) fun r=>0<=r.1/\r.1<=8:=by
 unfold Zni;exact T.if (T.pure (by simp)) (T.if (T.pure (by simp)) (T.if (T.pure (by simp)) (T.if (T.pure (by simp)) (T.pure (by simp)))))
theorem Q27(n k:Int): ∀(N m:Nat) (s:List UInt8),m<N->m<=8->s.length+m<=8->T (X8 N n k s ((m:Int)-1)) fun r=>r.1.length<=8
 |0,_,_,h,_,_=>by omega
 |N+1,0,s,_,_,hs=>by
  unfold X8;exact T.ite (fun h=>by simp at h) fun _=>T.pure (by simpa using hs)
 |N+1,m+1,s,hN,hm,hs=>by
  unfold X8;have j: ∀b,T (Ju (fun v=>X8 N v.1 v.2.1 v.2.2.1 v.2.2.2.1) n k s (((m+1:Nat):Int)-1) b) fun r=>r.1.length<=8:=fun b=>by
   unfold Ju;obtain⟨d,e,hd⟩:=Qxn b;have e2:IntKind.i64.wrap (((m+1:Nat):Int)-1-1)=(m:Int)-1:=by rw[Zv (by omega) (by omega)];omega
   rw[e,Obs,e2];exact T.guard (by unfold Zqi;simp only;omega) (Q27 n k N m _ (by omega) (by omega) (by simp only[List.length_append];omega))
  exact T.ite (fun _=>T.guard (by rw[Zv (by omega) (by omega)];omega) (T.if (T.if (j _) (T.if (j _) (T.if (j _) (j _)))) (j _))) fun h=>by have:=of_decide_eq_false h;omega
theorem Xb5(n:Int):T (Znw n) fun r=>r.1.length<=8:=by
 unfold Znw;refine(Qwi n).bind fun t ht=> ?_;obtain⟨m,hm⟩:=Int.eq_ofNat_of_zero_le ht.1;have e2:IntKind.i64.wrap (t.1-1)=(m:Int)-1:=by rw[Zv (by omega) (by omega)];omega
 rw[e2];exact Q27 n _ _ m [] (by unfold Zie;omega) (by omega) (by simp;omega)
theorem Qza(l:List Int)(hl:l.length<=1000): ∀(N i:Nat) (s:List UInt8),l.length-i<N->i<=l.length->s.length<=8*i->T (Zde N l s (i:Int)) fun r=>r.1.length<=8*l.length
 |0,_,_,h,_,_=>by omega
 |N+1,i,s,hN,hi,hs=>by
  unfold Zde;refine T.ite (fun hc=> ?_) fun _=>T.pure (by simp only;omega);have hc:=Ode hc;refine T.guard (by omega) ((Qwi _).bind fun t _=>T.if (T.pure (by simp)) (T.guard (by omega) ((Xb5 _).bind fun t ht=>T.guard (by unfold Zqi;omega) ?_)));rw[Zs (m:=l.length) (by omega) (by omega)];exact Qza l hl N (i+1) _ (by omega) (by omega) (by simp only[List.length_append];omega)
theorem Xar(l:List Int)(hl:l.length<=1000):T (X5 l) fun r=>r.1.length<=8*l.length:=by
 unfold X5;exact Qza l hl _ 0 _ (by unfold Zgq;omega) (by omega) (by simp)
theorem Qu4{f:Zl}(h:FOK f):T (Zid f) fun r=>r.1.length<=1100:=by
 have q: ∀l:List Int,l.length<=4->T (X5 l) fun r=>r.1.length<=32:=fun l hl=>(Xar l (by omega)).mono fun y hy=>by omega
 have one: ∀l:List Int,l.length<=4->T (Option.bind (X5 l) fun t=>some (t.1,())) fun r=>r.1.length<=1100:=fun l hl=>(q l hl).bind fun t ht=>T.pure (by simp only;omega);have two: ∀l:List Int,l.length<=4->T (Option.bind (X5 l) fun t=>Zi (t.1.length+f.2.2.2.1.length<=Zqi)<|some (t.1++f.2.2.2.1,())) fun r=>r.1.length<=1100:=fun l hl=>(q l hl).bind fun t ht=>by
  unfold FOK at h;exact T.guard (by unfold Zqi;omega) (T.pure (by simp only[List.length_append];omega))
 have j1: ∀k,T (Zg8 f k) fun r=>r.1.length<=1100:=fun k=>T.if (two _ (by simp)) (two _ (by simp));have j4: ∀k,T (Zhb f k) fun r=>r.1.length<=1100:=fun k=>one _ (by simp);have j3: ∀b,T (Zha f b) fun r=>r.1.length<=1100:=fun b=>T.if (one _ (by simp)) (T.if (j4 _) (j4 _));have j2: ∀k b,T (Zg9 f k b) fun r=>r.1.length<=1100:=fun k b=>T.if (one _ (by simp)) (T.if (j3 _) (j3 _));unfold Zid;exact(Z4n h).bind fun t _=>T.if (T.pure (by simp)) (T.if (one _ (by simp)) (T.if (one _ (by simp)) (T.if (T.if (j1 _) (j1 _)) (T.if (j2 _ _) (j2 _ _)))))
theorem Z4j{f:Zl}(h:FOK f):T (Zeo f) fun r=>0<=r.1/\r.1<=1100:=by
 unfold Zeo;exact(Qu4 h).bind fun t ht=>T.pure (by simp only;omega)
theorem Qu5(l:List Zl)(h:Qpt l): ∀(N i:Nat) (s:List UInt8),l.length-i<N->i<=l.length->s.length<=1100*i->T (Zbh N l s (i:Int)) fun r=>r.1.length<=400
 |0,_,_,h,_,_=>by omega
 |N+1,i,s,hN,hi,hs=>by
  have hl:=h.1;unfold Zbh;refine T.ite (fun hc=> ?_) fun _=>T.ite (fun _=>T.pure (by simp)) fun h=>T.pure (by have:=of_decide_eq_false h;simp only;omega);have hc:=Ode hc;refine T.guard (by omega) ((Qu4 (h.2 _ (Qh (by omega)))).bind fun t ht=>T.if (T.pure (by simp)) (T.guard (by unfold Zqi;omega) ?_));rw[Zs (m:=l.length) (by omega) (by omega)];exact Qu5 l h N (i+1) _ (by omega) (by omega) (by simp only[List.length_append];omega)
theorem Q8p{l:List Zl}(h:Qpt l):T (Zjk l) fun r=>r.1.length<=400:=by
 unfold Zjk;exact Qu5 l h _ 0 _ (by unfold Zem;omega) (by omega) (by simp)
theorem Q6e{K:Nat}{c:Zg}{s:Zd}(hs:Xc K s)(k:Int):T (Zmo c s k) fun r=>Xc K r.1.1:=by
 unfold Zmo;exact T.if (T.pure (by exact⟨hs.snd,hs.rcv⟩)) (T.if (T.pure (by exact⟨hs.snd,hs.rcv⟩)) (T.if ((Qro _ _).bind fun t _=>T.if (T.pure (by exact⟨hs.snd,hs.rcv⟩)) (T.pure (by exact⟨hs.snd,hs.rcv⟩))) (T.if ((Q2q _).bind fun t _=>T.pure (by exact⟨hs.snd,hs.rcv⟩)) (T.pure hs))))
theorem Qvv{K:Nat}{c:Zg}(h:Qe K c)(hK:K+1<=500000)(f:Zl):T (Zd1 c f) fun r=>Qe (K+1) r.1:=by
 unfold Zd1;rw[Wu h (by omega),Obs];have m:=h.mono (K':=K+1) (by omega);exact(Zyy h (by omega)).bind fun t _=>T.if (T.pure m) (T.if ((Qvn c).bind fun t _=>T.pure (by exact⟨m.str,m.pk⟩)) (T.if (T.if ((Qcq _ _).bind fun t _=>T.pure (by exact⟨m.str,m.pk⟩)) ((Qcq _ _).bind fun t _=>T.pure (by exact⟨m.str,m.pk⟩)))
  (T.if ((Q2q _).bind fun t _=>T.pure (by exact⟨m.str,m.pk⟩)) (T.if (T.if (T.pure (by exact⟨m.str,m.pk⟩)) (T.pure (by exact⟨m.str,m.pk⟩)))
   ((Zjs h (by omega) _).bind fun s hs=>T.if ((Q6e hs _).bind fun t ht=>(Yx h.str ht (Nat.le_refl _) hK).bind fun t3 h3=>T.pure (h.up (by omega) h3)) (T.pure m))))))
theorem Q7k{K:Nat}{c:Zg}(h:Qe K c)(hK:K<=1000000):T (Zn4 c) fun r=>r.1.length<=K:=by
 have hl:=h.str.len;have lp: ∀(N i:Nat) (o:List Zz),c.2.2.2.1.length-i<N->i<=c.2.2.2.1.length->o.length<=i->T (Wd N c o (i:Int)) fun r=>r.1.length<=K:=by
  intro N
  induction N with
  |zero=>intro i o h;omega
  |succ N ih=>
   intro i o hN hi ho;unfold Wd;refine T.ite (fun hc=> ?_) fun _=>T.pure (by simp only;omega);have hc:=Ode hc;have j: ∀o,o.length<=i+1->T (Zew (fun v=>Wd N v.1 v.2.1 v.2.2.1) c o (i:Int)) fun r=>r.1.length<=K:=fun o ho=>by
    unfold Zew;rw[Zs (m:=c.2.2.2.1.length) (by omega) (by omega)];exact ih (i+1) o (by omega) (by omega) ho
   exact T.guard (by omega) (T.if (T.guard (by unfold Qo;simp only[List.length_singleton];omega) (j _ (by simp;omega))) (j _ (by omega)))
 unfold Zn4;exact lp _ 0 _ (by unfold Ziv;omega) (by omega) (by simp)
theorem Q7l(l:List Zz)(hl:l.length<=1000000)(n:Int):T (Zn5 l n) fun r=>r.1.length<=l.length:=by
 have lp: ∀(N i:Nat) (o:List Zz),l.length-i<N->i<=l.length->o.length<=i->T (We N l n o (i:Int)) fun r=>r.1.length<=l.length:=by
  intro N
  induction N with
  |zero=>intro i o h;omega
  |succ N ih=>
   intro i o hN hi ho;unfold We;refine T.ite (fun hc=> ?_) fun _=>T.pure (by simp only;omega);have hc:=Ode hc;have j: ∀o,o.length<=i+1->T (Zex (fun v=>We N v.1 v.2.1 v.2.2.1 v.2.2.2.1) l n o (i:Int)) fun r=>r.1.length<=l.length:=fun o ho=>by
    unfold Zex;rw[Zs (m:=l.length) (by omega) (by omega)];exact ih (i+1) o (by omega) (by omega) ho
   exact T.guard (by omega) (T.if (T.guard (by omega) (T.guard (by unfold Qo;simp only[List.length_singleton];omega) (j _ (by simp;omega)))) (j _ (by omega)))
 unfold Zn5;exact lp _ 0 _ (by unfold Ziw;omega) (by omega) (by simp)
theorem Q2e(l:List Zz)(hl:l.length<=1000000):TT (Zji l):=by
 have lp: ∀(N i:Nat),l.length-i<N->i<=l.length->TT (Zba N l (i:Int)):=by
  intro N
  induction N with
  |zero=>intro i h;omega
  |succ N ih=>
   intro i hN hi;unfold Zba;refine T.ite (fun hc=> ?_) fun _=>T.tt;have hc:=Ode hc;refine T.guard (by omega) ((Qwr _).bind fun t _=>T.guard (fun _=>by omega) (T.bind (Q:=fun _=>True) (T.if T.tt (tt1 (Zyz _))) fun t _=>T.guard (fun _ _=>by omega) (T.guard (fun _ h=> ?_) (T.if T.tt ?_))))
   ·have:=Ode h;rw[Zv (by omega) (by omega)];omega
   ·rw[Zs (m:=l.length) (by omega) (by omega)];exact ih (i+1) (by omega) (by omega)
 unfold Zji;exact lp _ 0 (by unfold Zek;omega) (by omega)
theorem Qxt(l:List Zz)(hl:l.length<=1000000):T (Zn0 l) fun r=>r.1.length<=l.length:=by
 have lp: ∀(N i:Nat) (o:List Int) (b:Int),l.length-i<N->i<=l.length->o.length<=i->T (Jw N l o b (i:Int)) fun r=>r.1.length<=l.length:=by
  intro N
  induction N with
  |zero=>intro i o b h;omega
  |succ N ih=>
   intro i o b hN hi ho;unfold Jw;refine T.bind (Q:=fun _=>True) (T.if (Q2e l hl) T.tt) fun t _=>T.ite (fun hc=> ?_) fun _=>T.pure (by simp only;omega);have hc: (i:Int)<l.length:=by simp at hc;omega
   have j1: ∀o b,o.length<=i+1->T (Zer (fun v=>Jw N v.1 v.2.1 v.2.2.1 v.2.2.2.1) l o b (i:Int)) fun r=>r.1.length<=l.length:=fun o b ho=>by
    unfold Zer;rw[Zs (m:=l.length) (by omega) (by omega)];exact ih (i+1) o b (by omega) (by omega) ho
   have j2: ∀o b,o.length<=i->T (Zes (fun v=>Jw N v.1 v.2.1 v.2.2.1 v.2.2.2.1) l o b (i:Int)) fun r=>r.1.length<=l.length:=fun o b ho=>by
    unfold Zes;exact T.guard (by omega) (T.if (T.guard (by omega) (T.guard (by unfold Qo;simp only[List.length_singleton];omega) (j1 _ _ (by simp;omega)))) (j1 _ _ (by omega)))
   exact T.guard (by omega) (T.if (T.guard (by omega) (j2 _ _ (by simp))) (j2 _ _ ho))
 unfold Zn0;exact lp _ 0 _ _ (by unfold Zij;omega) (by omega) (by simp)
theorem Q5g(l:List Int)(hl:l.length<=10000000000)(n:Int):TT (Zre l n):=by
 have lp: ∀(N i:Nat),l.length-i<N->i<=l.length->TT (Zit N l n (i:Int)):=by
  intro N
  induction N with
  |zero=>intro i h;omega
  |succ N ih=>
   intro i hN hi;unfold Zit;refine T.ite (fun hc=> ?_) fun hc=>T.ite (fun _=>T.tt) fun h=>T.guard (by simp at h;have:=List.length_pos_iff.2 h;omega) T.tt;have hc:=Ode hc;refine T.guard (by omega) (T.if (T.guard (by omega) T.tt) ?_);rw[Zs (m:=l.length) (by omega) (by omega)];exact ih (i+1) (by omega) (by omega)
 unfold Zre;exact lp _ 0 (by unfold Zkr;omega) (by omega)
theorem Qx0(l:List Zz)(hl:l.length<=100000)(n:Int):TT (Zn1 l n):=by
 unfold Zn1;refine(Qxt l (by omega)).bind fun m hm=> ?_;generalize m.1=m at hm;have lp: ∀(N i:Nat) (o:List Int),l.length-i<N->i<=l.length->o.length<=i*m.length->TT (Jx N l n m o (i:Int)):=by
  intro N
  induction N with
  |zero=>intro i o h;omega
  |succ N ih=>
   intro i o hN hi ho;have hb:i*m.length<=100000*100000:=Nat.mul_le_mul (by omega) (by omega);unfold Jx;refine T.ite (fun hc=> ?_) fun _=>(Q5g o (by omega) n).bind fun t _=>T.tt;have hc:i<l.length:=by have:=Ode hc;omega
   have l2: ∀(M k:Nat) (o:List Int),m.length-k<M->k<=m.length->o.length<=i*m.length+k->TT (V9 (fun v=>Jx N v.1 v.2.1 v.2.2.1 v.2.2.2.1 v.2.2.2.2.1) M l n m o (i:Int) (k:Int)):=by
    intro M
    induction M with
    |zero=>intro k o h;omega
    |succ M ih2=>
     intro k o hM hk ho;unfold V9;refine T.ite (fun hd=> ?_) fun hd=> ?_
     ·have hd:k<m.length:=by have:=Ode hd;omega
      have j: ∀o:List Int,o.length<=i*m.length+k+1->TT (Zet (fun v=>Jx N v.1 v.2.1 v.2.2.1 v.2.2.2.1 v.2.2.2.2.1) (fun v=>V9 (fun v=>Jx N v.1 v.2.1 v.2.2.1 v.2.2.2.1 v.2.2.2.2.1) M v.1 v.2.1 v.2.2.1 v.2.2.2.1 v.2.2.2.2.1 v.2.2.2.2.2.1) l n m o (i:Int) (k:Int)):=fun o ho=>by
       unfold Zet;rw[Zs hd (by omega)];exact ih2 (k+1) o (by omega) (by omega) ho
      exact T.guard (by omega) (T.guard (by omega) (T.guard (fun _=>by omega) (T.if (T.guard (by omega) T.tt) (T.guard (by omega) (T.guard (by omega) (T.if (T.guard (by omega) (T.guard (by unfold Qo;simp only[List.length_singleton];omega) (j _ (by simp;omega)))) (j _ (by omega))))))))
     ·have hd:=of_decide_eq_false hd;have e:k=m.length:=by omega
      rw[Zs hc (by omega)];exact ih (i+1) o (by omega) (by omega) (by rw[Nat.succ_mul];omega)
   exact l2 _ 0 o (by unfold Zim;omega) (by omega) ho
 exact lp _ 0 _ (by unfold Zil;omega) (by omega) (by simp)
theorem Q4h{K:Nat}{c:Zg}(h:Qe K c)(hK:K<=1000000)(i room:Int):T (Zrd c i room) fun r=>r.1.2.1.length<=64:=by
 have z:Zqa.2.1.length<=64:=Nat.zero_le _;have lp: ∀(t:Ks) (s:Zd) (m:Int),Xc K s-> ∀(N n:Nat),n<N->n<=60->T (Ziq N i room t s m (n:Int)) fun r=>r.1.2.1.length<=64:=by
  intro t s m hs N
  induction N with
  |zero=>intro n h;omega
  |succ N ih=>
   intro n hn h60;unfold Ziq;refine T.ite (fun hc=> ?_) fun _=>T.pure z;have hc:=Ode hc;obtain⟨p,ok,e,hp⟩:=Q1d hs.snd (n:Int) m (by omega);rw[e,Obs];have e2:IntKind.i64.wrap ((n:Int)-1)=((n-1:Nat):Int):=by rw[Zv (by omega) (by omega)];omega
   rw[e2];exact T.if (T.pure z) (T.bind (Q:=fun r=>FOK r.1) (T.pure (by unfold FOK;simp only;omega)) fun f hf=>(Z4j hf).bind fun t _=>T.if (T.pure (by simp only;omega)) (ih (n-1) (by omega) (by omega)))
 have cl: ∀c,TT (Znv c):=fun c=>by
  unfold Znv;exact(tt1 (Zna c)).bind fun t _=>T.if T.tt T.tt
 unfold Zrd;refine(Zjs h hK i).bind fun s hs=>(Zyy h hK).bind fun t _=>T.ite (fun _=>T.pure z) fun hc=>(cl _).bind fun t _=> ?_;have hr: ¬room<3:=by simp at hc;omega
 obtain⟨n,hn⟩:=Int.eq_ofNat_of_zero_le (show 0<=min room 60 by omega);simp only[hn];exact lp _ _ _ hs _ n (by unfold Zkq;omega) (by omega)
theorem Qpq(c:Vk)(n:Int):TT (Zlu c n):=by
 unfold Zlu;exact(tt1 (Zna c)).bind fun t _=>T.if T.tt T.tt
theorem Q1a{K:Nat}{c:Zg}(h:Qe K c)(hK:K+1<=500000)(i:Int)(p:Ks):T (Zii c i p) fun r=>Qe (K+1) r.1:=by
 unfold Zii;rw[Wu h (by omega),Obs];refine(Zjs h (by omega) i).bind fun s hs=>(Zyy h (by omega)).bind fun t _=>T.if (T.pure (h.mono (by omega))) ?_;obtain⟨x,ok,e,h1⟩:=Q1s hs.snd p (by omega);rw[e,Obs];exact(Qpq _ _).bind fun t _=>(Qpq _ _).bind fun t _=>T.if (T.pure (h.mono (by omega))) ((Yx h.str (by exact⟨h1,hs.rcv⟩) (Nat.le_refl _) hK).bind fun t3 h3=>T.pure (by exact⟨h3,h.pk.mono (by omega)⟩))
theorem Q3z{K:Nat}{c:Zg}(h:Qe K c)(hK:K+1<=500000)(i:Int):T (Zkh c i) fun r=>Qe (K+1) r.2.1:=by
 unfold Zkh;exact(Zjs h (by omega) i).bind fun s hs=>(Q74 _).bind fun t _=>(Q74 _).bind fun t _=>(Yx h.str (by exact⟨hs.snd,hs.rcv⟩) (Nat.le_refl _) hK).bind fun t3 h3=>T.pure (by exact⟨h3,h.pk.mono (by omega)⟩)
theorem Q3d{K F:Nat}(hK:K<=90000)(hF:F<=1000000): ∀(N i:Nat) (x:Zg) (fr:List Zl) (room:Int) (sk:List Int),200-i<N->i<=200->Qe (K+i) x->FL (F+i) fr->sk.length<=i->
  T (J0 N x fr room sk (i:Int)) fun r=>Qe (K+200) r.2.1/\FL (F+200) r.1.1
 |0,_,_,_,_,_,h,_,_,_,_=>by omega
 |N+1,i,x,fr,room,sk,hN,hi,hx,hf,hs=>by
  unfold J0;refine T.ite (fun hc=> ?_) fun hc=>T.pure ⟨hx.mono (by omega),hf.mono (by omega)⟩;have hc:i<200:=by have:=Ode hc;omega
  refine(Q7k hx (by omega)).bind fun w hw=> ?_;have j1: ∀(x:Zg) (fr:List Zl) (room:Int) (sk:List Int),Qe (K+i+1) x->FL (F+i+1) fr->sk.length<=i+1->
    T (Zc1 (fun v=>J0 N v.1 v.2.1 v.2.2.1 v.2.2.2.1 v.2.2.2.2.1) x fr room sk (i:Int)) fun r=>Qe (K+200) r.2.1/\FL (F+200) r.1.1:=fun x fr room sk hx hf hs=>by
   unfold Zc1;rw[Zs hc (by omega)];exact Q3d hK hF N (i+1) x fr room sk (by omega) (by omega) hx hf hs
  have j2: ∀(id:Int) (p:Ks) (y:Zg) (ok:Bool),p.2.1.length<=64->Qe (K+i+1) y->
    T (Zfn (fun v=>J0 N v.1 v.2.1 v.2.2.1 v.2.2.2.1 v.2.2.2.2.1) x fr room sk (i:Int) id p y ok) fun r=>Qe (K+200) r.2.1/\FL (F+200) r.1.1:=fun id p y ok hp hy=>by
   unfold Zfn;exact T.if (T.pure ⟨hx.mono (by omega),hf.mono (by omega)⟩) (T.bind (Q:=fun r=>FOK r.1) (T.pure (by unfold FOK;simp only;omega)) fun f hf2=>T.guard (by have:=hf.1;unfold Qo;simp only[List.length_singleton];omega) ((Z4j hf2).bind fun t _=>j1 _ _ _ _ hy (hf.one hf2) (by omega)))
  have l2: ∀(M k:Nat) (l:List Zz),sk.length-k<M->k<=sk.length->l.length<=K+i->
    T (Zc2 (fun v=>J0 N v.1 v.2.1 v.2.2.1 v.2.2.2.1 v.2.2.2.2.1) M x fr room sk (i:Int) l (k:Int)) fun r=>Qe (K+200) r.2.1/\FL (F+200) r.1.1:=by
   intro M
   induction M with
   |zero=>intro k l h;omega
   |succ M ih=>
    intro k l hM hk hl;unfold Zc2;refine T.ite (fun hd=> ?_) fun hd=> ?_
    ·have hd:=Ode hd;refine T.guard (by omega) ((Q7l l (by omega) _).bind fun t ht=> ?_);rw[Zs (m:=sk.length) (by omega) (by omega)];exact ih (k+1) _ (by omega) (by omega) (by omega)
    ·simp only[Je];exact(Qx0 l (by omega) _).bind fun n _=>T.if (T.pure ⟨hx.mono (by omega),hf.mono (by omega)⟩) ((Q4h hx (by omega) _ _).bind fun p hp=>T.if
      ((Q3z hx (by omega) _).bind fun t ht=>T.guard (by unfold Qo;simp only[List.length_singleton];omega) (j1 _ _ _ _ ht (hf.mono (by omega)) (by simp;omega)))
      ((Q1a hx (by omega) _ _).bind fun t ht=>j2 _ _ _ _ hp ht))
  exact l2 _ 0 w.1 (by unfold Zl2;omega) (by omega) hw
theorem Q6f{K F:Nat}(hK:K<=90000)(hF:F<=1000000){x:Zg}{fr:List Zl}(hx:Qe K x)(hf:FL F fr)(room:Int):T (Zp7 x fr room) fun r=>Qe (K+200) r.2.1/\FL (F+200) r.1.1:=by
 unfold Zp7;exact Q3d hK hF _ 0 x fr room [] (by unfold Zl1;omega) (by omega) hx hf (by simp)
theorem Qw6{K:Nat}{c:Zg}(h:Qe K c)(hK:K<=80000)(b:Int):T (Zfh c b) fun r=>Qe (K+1000) r.1.2.2.1:=by
 have lp: ∀(t:Zg) (l:List Zl),FL 606 l-> ∀(N i:Nat) (x:Zg) (fr:List Zl) (room:Int),l.length-i<N->i<=l.length->Qe (K+i) x->FL i fr->
   T (Yy N c t x fr room l (i:Int)) fun r=>Qe (K+1000) r.1.2.2.1:=by
  intro t l hl N;have h606:=hl.1
  induction N with
  |zero=>intro i x fr room h;omega
  |succ N ih=>
   intro i x fr room hN hi hx hf;have j1: ∀(x:Zg) (fr:List Zl) (room:Int),i<l.length->Qe (K+i+1) x->FL (i+1) fr->
     T (V5 (fun v=>Yy N v.1 v.2.1 v.2.2.1 v.2.2.2.1 v.2.2.2.2.1 v.2.2.2.2.2.1 v.2.2.2.2.2.2.1) c t x fr room l (i:Int)) fun r=>Qe (K+1000) r.1.2.2.1:=fun x fr room hc hx hf=>by
    unfold V5;rw[Zs hc (by omega)];exact ih (i+1) x fr room (by omega) (by omega) hx hf
   unfold Yy;refine T.ite (fun hc=> ?_) fun hc=> ?_
   ·have hc:=Ode hc;have hm:=hl.2 _ (Qh (d:=Zcj) (show i<l.length by omega));exact T.guard (by omega) ((Z4j hm).bind fun t _=>T.if (T.guard (by omega) ((Z4j hm).bind fun t _=>T.guard (by omega) ((Qvv hx (by omega) _).bind fun t ht=>T.guard (by omega) (T.guard (by have:=hf.1;unfold Qo;simp only[List.length_singleton];omega) (j1 _ _ _ (by omega) ht (hf.one hm)))))) (j1 _ _ _ (by omega) (hx.mono (by omega)) (hf.mono (by omega))))
   ·refine(Q6f (by omega) (by omega) hx hf _).bind fun r hr=>T.if (T.pure (hr.1.mono (by omega))) ?_;have hp:=hr.1.pk.1;have hf:Qpt r.1.1:=⟨by have:=hr.2.1;omega,hr.2.2⟩
    exact T.guard (by unfold Qo;simp only[List.length_singleton];omega) ((Q8p hf).bind fun t _=>T.pure (by exact⟨hr.1.str.mono (by omega),⟨by simp only[List.length_append,List.length_singleton];omega,fun p hp=>by
     rcases List.mem_append.1 hp with hp|hp
     ·exact hr.1.pk.2 p hp
     ·rw[List.mem_singleton.1 hp];exact hf⟩⟩))
 unfold Zfh;rw[Wu h (by omega),Obs];exact(Qvm h (by omega)).bind fun t ht=>T.bind (Q:=fun _=>True) (T.if T.tt (tIn _ _ _)) fun t _=>T.ite (fun _=>T.pure (h.mono (by omega))) fun hc=>(Qpz h (by omega)).bind fun l hl=>by
  have:=ht (by simp at hc;simp[hc]);exact lp _ _ (hl.mono (by omega)) _ 0 _ _ _ (by unfold Zic;omega) (by omega) h FL.nil
theorem Qoc(n:Int){K:Nat}(h25:25<=K)(hK:K<=400000): ∀(N m:Nat) (c:Zg),m<N->c.2.2.2.1.length+m<=24->Qe K c->T (Y9 N c n ((m:Int)-1)) fun r=>Qe K r.2.1
 |0,_,_,h,_,_=>by omega
 |N+1,0,c,_,_,h=>by
  unfold Y9;exact T.ite (fun h=>by simp at h) fun _=>T.pure h
 |N+1,m+1,c,hN,hm,h=>by
  unfold Y9;simp only[Je];refine T.ite (fun _=>(Z8q _ _ _ _).bind fun s hs=> ?_) fun h=>by have:=of_decide_eq_false h;omega
  unfold Zfm;have e:IntKind.i64.wrap (((m+1:Nat):Int)-1-1)=(m:Int)-1:=by rw[Zv (by omega) (by omega)];omega
  rw[e];obtain⟨y,e,h1,h2⟩:=Qr0 h.str (hs.mono (Nat.zero_le K)) (by omega);rw[e,Obs];exact Qoc n h25 hK N m _ (by omega) (by simp only;omega) ⟨⟨by simp only;omega,h2⟩,h.pk⟩
theorem Q3x{K:Nat}{c:Zg}(h25:25<=K)(hK:K<=400000)(h:Qe K c)(n:Int)(m:Nat)(hm:c.2.2.2.1.length+m<=24):T (Zmm c n (m:Int)) fun r=>Qe K r.2.1:=by
 unfold Zmm;rw[Zv (by omega) (by omega)];exact Qoc n h25 hK _ m c (by unfold Zgc;omega) hm h
theorem inT(n a b:Int):T (Z5 n a b) fun r=>r.1=true->a<=n/\n<=b:=⟨_,Zvk n a b,fun h=>by simpa using h⟩
theorem Q3u(a:Vk):T (Vb a) fun r=>r.1=true->a.2.1<=1152921504606846976/\0<=a.2.2.1/\a.2.2.1<=a.2.1:=by
 unfold Vb;have B: ∀{b:Bool} {n l h:Int} {β:Type} {f:Bool×Unit->Option β} {R:β->Prop},(∀r:Bool×Unit,(r.1=true->l<=n/\n<=h)->T (f r) R)->T (Option.bind (bif b then Z5 n l h else some (false,())) f) R:=fun k=>T.bind (T.if (inT _ _ _) (T.pure fun h=>by cases h)) k;exact(inT _ _ _).bind fun t1 h1=>B fun t2 h2=>B fun t3 h3=>B fun t4 h4=>T.pure fun h=>by
  simp only[Oba]at h;have:=h2 h.1.1.1.2;have:=h3 h.1.1.2;omega
theorem Q1r(a:Vk)(n:Int):T (Zgv a n) fun r=>0<=r.2.1/\r.2.1<=1152921504606846976:=by
 unfold Zgv;refine(Q3u a).bind fun t ht=>T.ite (fun _=>T.pure (by simp)) fun hc=>T.pure ?_;simp at hc;have:=ht hc.1.1;simp only;rw[Zv (n:=n+1) (by omega) (by omega),Zv (n:=n+1-a.2.2.1) (by omega) (by omega)];omega
theorem Zo8{K:Nat}{c:Zg}(h:Qe K c)(h25:25<=K)(hK:K<=400000)(i:Int):T (Ys c i) fun r=>Qe K r.1:=by
 have hl:=h.str.len;have j3: ∀t x (n:Nat),x.2.2.2.1.length+n<=24->Qe K x->T (Yt i t x (n:Int)) fun r=>Qe K r.1:=fun t x n hn hx=>by
  unfold Yt;exact(Q3x h25 hK hx i n hn).bind fun r hr=>T.pure hr
 have j2: ∀t b n is,0<=n->n<=1152921504606846976->T (Kl i c t c b n is) fun r=>Qe K r.1:=fun t b n is h0 h1=>by
  unfold Kl;refine T.ite (fun _=>T.pure h) fun hc=> ?_;have hn: (c.2.2.2.1.length:Int)+n<=24:=by
   simp at hc;have:=hc.2;rw[Zv (by omega) (by omega)]at this;omega
  obtain⟨n,rfl⟩:=Int.eq_ofNat_of_zero_le h0;exact(Q7h i).bind fun t _=>T.if (j3 _ _ n (by simp only;omega) (by exact⟨h.str,h.pk⟩)) (j3 _ _ n (by simp only;omega) (by exact⟨h.str,h.pk⟩))
 have j1: ∀t a,T (Xa i c t c a) fun r=>Qe K r.1:=fun t a=>by
  unfold Xa;simp only[Je,Zja];exact(tt1 (Q53 i)).bind fun t _=>(Q1r _ _).bind fun t ht=>j2 _ _ _ _ ht.1 ht.2
 unfold Ys;rw[Wu h (by omega),Obs];exact(Zyy h (by omega)).bind fun t _=>T.bind (Q:=fun _=>True) (T.if T.tt (Qwr i)) fun t _=>T.if (T.pure h) (T.bind (Q:=fun _=>True) (tt1 (by obtain⟨v,e,-⟩:=Ztw c.2.2.2.1 i (by omega);exact⟨v,e⟩)) fun t _=>T.if (T.pure h) ((Q9g _ _).bind fun t _=>T.if (T.pure h) ((Q7h i).bind fun t _=>T.if (j1 _ _) (j1 _ _))))
theorem Qr8(w:Qq)(n:Int):TT (Zgu w n):=by
 unfold Zgu;exact(tt1 (Zt4 w)).bind fun t _=>T.if T.tt T.tt
theorem Qzo{K:Nat}{x:Zg}{s:Zd}(h:Qe K x)(hs:Xc K s)(hK:K<=1000000)(e:Int):T (Zdq x s e) fun r=>Qe K r.2.1/\Xc K r.2.2.1:=by
 have nb:TT (Zkg s.2.2.2.1 e):=by
  unfold Zkg;exact(tt1 (Zje hs.rcv hK)).bind fun t _=>T.bind (Q:=fun _=>True) (T.if T.tt (Qwr _)) fun t _=>T.if T.tt T.tt
 unfold Zdq;exact nb.bind fun t _=>T.if (T.pure ⟨h,hs⟩) ((Qr8 _ _).bind fun t _=>(Qr8 _ _).bind fun t _=>T.if (T.pure ⟨h,hs⟩) (T.pure ⟨⟨h.str,h.pk⟩,⟨hs.snd,hs.rcv⟩⟩))
theorem Q41(s:Bool)(n:Int):TT (Yr s n):=tt1 (Qy4 s n)
theorem Q0a(s:Bool)(n:Int):TT (Q8 s n):=tt1 (Qme s n)
theorem Qnz{K:Nat}{c:Zg}{f:Zl}(h:Qe K c)(hf:FOK f)(h25:25<=K)(hK:K<=390000):T (Vv c f) fun r=>Qe (K+f.2.2.2.1.length+2) r.1.1:=by
 have m:=h.mono (K':=K+f.2.2.2.1.length+2) (by omega);have cp: ∀v:Int,T (Option.bind (Z6 c) fun t=>some ((t.1,(v,())),())) fun r=>Qe (K+f.2.2.2.1.length+2) r.1.1:=fun v=>by
  rw[Wu h (by omega),Obs];exact T.pure m
 unfold Vv;refine(Zyy h (by omega)).bind fun t _=>T.bind (Q:=fun _=>True) (T.if T.tt (Z4n hf)) fun t _=>T.if (cp 7) ((Q0a _ _).bind fun t _=>T.if (cp 5) ((Zo8 h h25 (by omega) _).bind fun x hx=>T.if (cp _) ((Zjs hx (by omega) _).bind fun s hs=> ?_)));obtain⟨r,v,e,hr⟩:=Zvx hs.rcv f.2.2.1 f.2.2.2.1 f.2.2.2.2.1 (by unfold FOK at hf;omega);rw[e,Obs];unfold FOK at hf;exact(Qzo hx hs (by omega) _).bind fun y hy=>T.if (cp _) (T.if (cp _) ((Z4p (K':=K+f.2.2.2.1.length+1) hy.1 (by exact⟨hy.2.snd.mono (by omega),hr.mono (by omega)⟩) (by omega) (by omega)).bind fun t ht=>T.pure (ht.mono (by omega))))
theorem Qio{K:Nat}{c:Zg}{f:Zl}(h:Qe K c)(hf:FOK f)(h25:25<=K)(hK:K<=390000):T (Va c f) fun r=>Qe (K+f.2.2.2.1.length+2) r.1.1:=by
 have m:=h.mono (K':=K+f.2.2.2.1.length+2) (by omega);have cp: ∀v:Int,T (Option.bind (Z6 c) fun t=>some ((t.1,(v,())),())) fun r=>Qe (K+f.2.2.2.1.length+2) r.1.1:=fun v=>by
  rw[Wu h (by omega),Obs];exact T.pure m
 unfold Va;refine(Zyy h (by omega)).bind fun t _=>T.bind (Q:=fun _=>True) (T.if T.tt (Z4n hf)) fun t _=>T.if (cp 7) ((Q0a _ _).bind fun t _=>T.if (cp 5) ((Zo8 h h25 (by omega) _).bind fun x hx=>T.if (cp _) ((Zjs hx (by omega) _).bind fun s hs=> ?_)));obtain⟨r,v,e,hr⟩:=Zti hs.rcv (by omega) f.2.2.2.2.2.1 f.2.2.2.2.2.2.2.1;rw[e,Obs];have j: ∀(t x:Zg) (s:Zd),Qe K x->Xc K s->T (K8 t x s r) fun r=>Qe (K+f.2.2.2.1.length+2) r.1.1:=fun t x s hx hs=>by
  unfold K8;exact(Z4p hx (by exact⟨hs.snd,hr⟩) (Nat.le_refl _) (by omega)).bind fun t ht=>T.pure (ht.mono (by omega))
 exact(Qzo hx hs (by omega) _).bind fun y hy=>T.if (cp _) (T.if (cp _) (T.if ((Qzp hy.1 hy.2 _).bind fun z hz=>j _ _ _ hz.1 hz.2) (j _ _ _ hy.1 hy.2)))
theorem Qn0{K:Nat}{c:Zg}{f:Zl}(h:Qe K c)(hf:FOK f)(h25:25<=K)(hK:K<=390000):T (Vw c f) fun r=>Qe (K+f.2.2.2.1.length+2) r.1.1:=by
 have m:=h.mono (K':=K+f.2.2.2.1.length+2) (by omega);have cp: ∀v:Int,T (Option.bind (Z6 c) fun t=>some ((t.1,(v,())),())) fun r=>Qe (K+f.2.2.2.1.length+2) r.1.1:=fun v=>by
  rw[Wu h (by omega),Obs];exact T.pure m
 unfold Vw;refine(Zyy h (by omega)).bind fun t _=>T.bind (Q:=fun _=>True) (T.if T.tt (Z4n hf)) fun t _=>T.if (cp 7) ((Q41 _ _).bind fun t _=>T.if (cp 5) ((Zo8 h h25 (by omega) _).bind fun x hx=>T.if (cp _) ((Zjs hx (by omega) _).bind fun s hs=> ?_)));obtain⟨r,v,e,hr⟩:=Zrx hs.snd f.2.2.2.2.2.1 (by omega);rw[e,Obs];have j: ∀(t x:Zg) (s:Zd),Qe K x->Xc K s->T (Jv t x s) fun r=>Qe (K+f.2.2.2.1.length+2) r.1.1:=fun t x s hx hs=>by
  unfold Jv;exact(Z4p hx hs (Nat.le_refl _) (by omega)).bind fun t ht=>T.pure (ht.mono (by omega))
 exact T.if (j _ _ _ hx (by exact⟨hr,hs.rcv⟩)) (j _ _ _ hx hs)
theorem Qi0(c:Vk)(n:Int):TT (Zcy c n):=by
 unfold Zcy;exact(tt1 (Zna c)).bind fun t _=>T.bind (Q:=fun _=>True) (T.if T.tt (Qwr _)) fun t _=>T.if T.tt T.tt
theorem Qiz(c:Zbm)(n:Int):TT (Zcx c n):=by
 unfold Zcx;exact(tt1 (Z4m c)).bind fun t _=>T.if T.tt T.tt
theorem Qin{K:Nat}{c:Zg}{f:Zl}(h:Qe K c)(hf:FOK f)(h25:25<=K)(hK:K<=390000):T (J9 c f) fun r=>Qe (K+f.2.2.2.1.length+2) r.1:=by
 have m:=h.mono (K':=K+f.2.2.2.1.length+2) (by omega);have cp: ∀v:Int,T (Option.bind (Z6 c) fun t=>some (t.1,v,())) fun r=>Qe (K+f.2.2.2.1.length+2) r.1:=fun v=>by
  rw[Wu h (by omega),Obs];exact T.pure m
 have e2: ∀t x,Qe (K+f.2.2.2.1.length+2) x->T (Zd6 t x) fun r=>Qe (K+f.2.2.2.1.length+2) r.1:=fun t x hx=>T.pure hx;have e1: ∀t b,T (Wr c f t b) fun r=>Qe (K+f.2.2.2.1.length+2) r.1:=fun t b=>by
  unfold Wr;exact T.if (cp _) ((Zo8 h h25 (by omega) _).bind fun x hx=>T.if (cp _) (T.if ((Zjs hx (by omega) _).bind fun s hs=>(Qi0 _ _).bind fun t _=>(Yx hx.str (by exact⟨hs.snd,hs.rcv⟩) (Nat.le_refl _) (by omega)).bind fun t3 h3=>e2 _ _ ((hx.up (by omega) h3).mono (by omega))) (e2 _ _ (hx.mono (by omega)))))
 have el:T (Zgw c f) fun r=>Qe (K+f.2.2.2.1.length+2) r.1:=by
  unfold Zgw;exact(Q41 _ _).bind fun t _=>T.if ((Q0a _ _).bind fun t _=>e1 _ _) (e1 _ _)
 have j1: ∀t x,Qe (K+f.2.2.2.1.length+2) x->T (Zam t x) fun r=>Qe (K+f.2.2.2.1.length+2) r.1:=fun t x hx=>T.pure hx;have j3: ∀t b,T (K7 c f t c b) fun r=>Qe (K+f.2.2.2.1.length+2) r.1:=fun t b=>by
  unfold K7;exact T.if (el.bind fun r hr=>T.pure hr) (T.pure m)
 have j2: ∀t k b,T (K6 c f t c k b) fun r=>Qe (K+f.2.2.2.1.length+2) r.1:=fun t k b=>by
  unfold K6;exact T.if (T.pure m) (T.if (j3 _ _) (j3 _ _))
 unfold J9;rw[Wu h (by omega),Obs];exact(Zyy h (by omega)).bind fun t _=>T.bind (Q:=fun _=>True) (T.if T.tt (Z4n hf)) fun t _=>T.if (T.pure m) (T.if ((Qi0 _ _).bind fun t _=>T.pure (by exact⟨m.str,m.pk⟩)) (T.if (T.if ((Qiz _ _).bind fun t _=>j1 _ _ (by exact⟨m.str,m.pk⟩)) ((Qiz _ _).bind fun t _=>j1 _ _ (by exact⟨m.str,m.pk⟩))) (T.if (j2 _ _ _) (j2 _ _ _))))
theorem Qvc{K:Nat}{c:Zg}{f:Zl}(h:Qe K c)(hf:FOK f)(h25:25<=K)(hK:K<=390000):T (J8 c f) fun r=>Qe (K+f.2.2.2.1.length+2) r.1.1:=by
 have j1: ∀t x e,Qe (K+f.2.2.2.1.length+2) x->T (K5 t x e) fun r=>Qe (K+f.2.2.2.1.length+2) r.1.1:=fun t x e hx=>T.pure hx;unfold J8;rw[Wu h (by omega),Obs];exact T.if ((Qnz h hf h25 hK).bind fun r hr=>j1 _ _ _ hr) (T.if ((Qio h hf h25 hK).bind fun r hr=>j1 _ _ _ hr) (T.if ((Qn0 h hf h25 hK).bind fun r hr=>j1 _ _ _ hr) ((Qin h hf h25 hK).bind fun r hr=>j1 _ _ _ hr)))
theorem Qvz{K:Nat}{c:Zg}(h:Qe K c)(hK:K<=1000000)(n:Int):T (Znh c n) fun r=>Qpt r.1.2.1:=by
 have hl:=h.pk.1;have lp: ∀(t:Z8) (N i:Nat),c.2.2.2.2.2.2.2.2.2.2.2.2.2.2.2.1.length-i<N->i<=c.2.2.2.2.2.2.2.2.2.2.2.2.2.2.2.1.length->T (Zio N n c t (i:Int)) fun r=>Qpt r.1.2.1:=by
  intro t N
  induction N with
  |zero=>intro i h;omega
  |succ N ih=>
   intro i hN hi;unfold Zio;refine T.ite (fun hc=> ?_) fun hc=>T.pure ⟨Nat.zero_le _,fun f hf=>by cases hf⟩;have hc:=Ode hc;have hm:=h.pk.2 _ (Qh (d:=Qg) (show i<c.2.2.2.2.2.2.2.2.2.2.2.2.2.2.2.1.length by omega));refine T.guard (by omega) (T.if (T.guard (by omega) (T.guard ?_ (T.pure hm))) ?_)
   ·have:=hm.1;unfold Qo;rw[show(i:Int).toNat=i from rfl];simp only[List.length_nil];omega
   ·rw[Zs (m:=c.2.2.2.2.2.2.2.2.2.2.2.2.2.2.2.1.length) (by omega) (by omega)];exact ih (i+1) (by omega) (by omega)
 unfold Znh;exact lp _ _ 0 (by unfold Zkp;omega) (by omega)
theorem Qzq{K:Nat}{c:Zg}(h:Qe K c)(hK:K<=1000000)(n:Int):T (Zjq c n) fun r=>Qe K r.2.1:=by
 have hl:=h.pk.1;have lp: ∀(N i:Nat) (o:List Z8),c.2.2.2.2.2.2.2.2.2.2.2.2.2.2.2.1.length-i<N->i<=c.2.2.2.2.2.2.2.2.2.2.2.2.2.2.2.1.length->Qpu i o->T (J1 N c n o (i:Int)) fun r=>Qe K r.2.1:=by
  intro N
  induction N with
  |zero=>intro i o h;omega
  |succ N ih=>
   intro i o hN hi ho;unfold J1;refine T.ite (fun hc=> ?_) fun hc=>T.pure ⟨h.str,ho.mono (by omega)⟩;have hc:=Ode hc;have hm:=h.pk.2 _ (Qh (d:=Qg) (show i<c.2.2.2.2.2.2.2.2.2.2.2.2.2.2.2.1.length by omega));have j: ∀o,Qpu (i+1) o->T (Zc6 (fun v=>J1 N v.1 v.2.1 v.2.2.1 v.2.2.2.1) c n o (i:Int)) fun r=>Qe K r.2.1:=fun o ho=>by
    unfold Zc6;rw[Zs (m:=c.2.2.2.2.2.2.2.2.2.2.2.2.2.2.2.1.length) (by omega) (by omega)];exact ih (i+1) o (by omega) (by omega) ho
   exact T.guard (by omega) (T.if (T.guard (by omega) (T.guard (by have:=ho.1;unfold Qo;simp only[List.length_singleton];omega) (j _ ⟨by have:=ho.1;simp;omega,fun p hp=>by
    rcases List.mem_append.1 hp with hp|hp
    ·exact ho.2 p hp
    ·rw[List.mem_singleton.1 hp];exact hm⟩))) (j _ (ho.mono (by omega))))
 unfold Zjq;exact lp _ 0 _ (by unfold Zl4;omega) (by omega) ⟨by simp,by simp⟩
theorem Qw0(f:Zl):TT (V7 f):=by
 have j: ∀b,TT (Yb b):=fun b=>by unfold Yb;exact T.if T.tt T.tt
 unfold V7;exact T.if (j _) (T.if (j _) (T.if (j _) (T.if (j _) (j _))))
theorem Q6h{K:Nat}{x:Zg}(h:Qe K x)(hK:K+1<=500000)(f:Zl):T (Zmq x f) fun r=>Qe (K+1) r.2.1:=by
 have m:=h.mono (K':=K+1) (by omega);have j2: ∀s,Xc K s->T (J2 x s) fun r=>Qe (K+1) r.2.1:=fun s hs=>by
  unfold J2;exact(Yx h.str hs (Nat.le_refl _) hK).bind fun t ht=>T.pure (h.up (by omega) ht)
 have j1: ∀s b,Xc K s->T (Zfo x f s b) fun r=>Qe (K+1) r.2.1:=fun s b hs=>by
  unfold Zfo;refine T.bind (Q:=fun _=>True) (T.if T.tt (Qw0 f)) fun t _=>T.if (T.pure m) (T.if ?_ (T.if (j2 _ (by exact⟨hs.snd,hs.rcv⟩)) (T.if (j2 _ (by exact⟨hs.snd,hs.rcv⟩)) (T.if (j2 _ (by exact⟨hs.snd,hs.rcv⟩)) (j2 _ hs)))));refine T.bind (Q:=fun _=>True) ⟨_,rfl,trivial⟩ fun p _=> ?_;obtain⟨y,e,hy⟩:=Q09 hs.snd p.1 (by omega);rw[e,Obs];exact j2 _ ⟨hy,hs.rcv⟩
 unfold Zmq;simp only[Je];exact T.if (T.pure (by exact⟨m.str,m.pk⟩)) (T.if (T.if (T.pure (by exact⟨m.str,m.pk⟩)) (T.pure (by exact⟨m.str,m.pk⟩))) ((Zjs h (by omega) _).bind fun s hs=>j1 _ _ hs))
theorem Q85{K:Nat}{x:Zg}(h:Qe K x)(hK:K+1<=500000)(f:Zl):T (Zox x f) fun r=>Qe (K+1) r.2.1:=by
 have m:=h.mono (K':=K+1) (by omega);have j2: ∀s,Xc K s->T (Vr x s) fun r=>Qe (K+1) r.2.1:=fun s hs=>by
  unfold Vr;exact(Z4p h hs (Nat.le_refl _) hK).bind fun t ht=>T.pure ht
 have j1: ∀s b,Xc K s->T (Zix x f s b) fun r=>Qe (K+1) r.2.1:=fun s b hs=>by
  unfold Zix;refine T.bind (Q:=fun _=>True) (T.if T.tt (Qw0 f)) fun t _=>T.if (T.pure m) (T.if ?_ (T.if ?_ (T.if (j2 _ (by exact⟨hs.snd,hs.rcv⟩)) (j2 _ hs))))
  ·refine T.bind (Q:=fun _=>True) ⟨_,rfl,trivial⟩ fun p _=> ?_;obtain⟨y,e,hy⟩:=Q2a hs.snd p.1 (by omega);rw[e,Obs];exact j2 _ ⟨hy,hs.rcv⟩
  ·obtain⟨y,ok,e,hy⟩:=Q2b hs.snd (by omega);rw[e,Obs];exact T.if (j2 _ (by exact⟨hy,hs.rcv⟩)) (j2 _ (by exact⟨hy,hs.rcv⟩))
 unfold Zox;simp only[Je];exact(Zjs h (by omega) _).bind fun s hs=>j1 _ _ hs
theorem Qxq{K:Nat}{c:Zg}(h:Qe K c)(hK:K<=400000)(n:Int):T (Zfj c n) fun r=>Qe (K+1000) r.1.1:=by
 have m:=h.mono (K':=K+1000) (by omega);unfold Zfj;rw[Wu h (by omega),Obs];refine(Qvz h (by omega) n).bind fun p hp=>(Ztd h (by omega)).bind fun t _=>T.if (T.pure m) ((Qzq h (by omega) n).bind fun x hx=> ?_);have hl:=hp.1;have lp: ∀(t:Zg) (N i:Nat) (x:Zg),p.1.2.1.length-i<N->i<=p.1.2.1.length->Qe (K+i) x->T (V8 N t x p.1 (i:Int)) fun r=>Qe (K+1000) r.1.1:=by
  intro t N
  induction N with
  |zero=>intro i x h;omega
  |succ N ih=>
   intro i x hN hi hx;unfold V8;refine T.ite (fun hc=> ?_) fun hc=>T.pure (hx.mono (by omega));have hc:=Ode hc;refine T.guard (by omega) ((Q6h hx (by omega) _).bind fun y hy=> ?_);rw[Zs (m:=p.1.2.1.length) (by omega) (by omega)];exact ih (i+1) _ (by omega) (by omega) hy
 exact lp _ _ 0 _ (by unfold Zih;omega) (by omega) hx
theorem Q0l{K:Nat}{c:Zg}(h:Qe K c)(hK:K<=400000)(n:Int):T (Zh6 c n) fun r=>Qe (K+1000) r.1.1:=by
 have m:=h.mono (K':=K+1000) (by omega);unfold Zh6;rw[Wu h (by omega),Obs];refine(Qvz h (by omega) n).bind fun p hp=>(Ztd h (by omega)).bind fun t _=>T.if (T.pure m) ((Qzq h (by omega) n).bind fun x hx=> ?_);have hl:=hp.1;have lp: ∀(t:Zg) (N i:Nat) (x:Zg),p.1.2.1.length-i<N->i<=p.1.2.1.length->Qe (K+i) x->T (Zac N t x p.1 (i:Int)) fun r=>Qe (K+1000) r.1.1:=by
  intro t N
  induction N with
  |zero=>intro i x h;omega
  |succ N ih=>
   intro i x hN hi hx;unfold Zac;refine T.ite (fun hc=> ?_) fun hc=>T.pure (hx.mono (by omega));have hc:=Ode hc;refine T.guard (by omega) ((Q85 hx (by omega) _).bind fun y hy=> ?_);rw[Zs (m:=p.1.2.1.length) (by omega) (by omega)];exact ih (i+1) _ (by omega) (by omega) hy
 exact lp _ _ 0 _ (by unfold Zjh;omega) (by omega) hx
theorem Zjt(c:Qx)(n:Int)(h:Wf c):T (Qm c n) fun r=>Wf r.2.1/\0<=r.1.1/\(0<n->r.1.1<n):=by
 obtain⟨x,c',e,h1,h2,h3⟩:=Ztm c n h;exact⟨_,e,h1,h2,h3⟩
theorem Qet(c:Qx)(n:Int)(h:Wf c):T (Ws c n) fun r=>Wf r.2.1:=by
 obtain⟨b,c',e,h1⟩:=Q2w c n h;exact⟨_,e,h1⟩
theorem Zuy(c:Qx)(l:List Int)(h:Wf c)(hl:0<l.length):T (Ya c l) fun r=>Wf r.2.1/\r.1.1∈l:=by
 obtain⟨b,c',e,h1,h2⟩:=Q2x c l h hl;exact⟨_,e,h1,h2⟩
theorem Q9v(c:Qx)(l:List (List UInt8))(h:Wf c)(hl:0<l.length):T (Zow c l) fun r=>Wf r.2.1/\r.1.1∈l:=by
 obtain⟨b,c',e,h1,h2⟩:=Qrd c l h hl;exact⟨_,e,h1,h2⟩
theorem Q40(c:Qx)(most:Nat)(h:Wf c)(hm:most<=1000):T (Zl5 c (most:Int)) fun r=>Wf r.2.1/\r.1.1.length<=most:=by
 obtain⟨t,c',e,h1,h2⟩:=Q2v c most h hm;exact⟨_,e,h1,h2⟩
theorem Q31(f:Zl)(h:FOK f):T (Zgh f) fun r=>FOK r.1:=by
 have j2: ∀t x b,FOK x->T (Zi0 f t x b) fun r=>FOK r.1:=fun t x b hx=>by
  unfold Zi0;exact T.if (T.pure (by exact hx)) (T.pure (by exact hx))
 have j1: ∀t x,FOK x->T (Ziz f t x) fun r=>FOK r.1:=fun t x hx=>by
  unfold Ziz;exact T.if (T.pure (by exact hx)) (T.if (T.pure (by exact hx)) (T.if (T.pure (by exact h)) (T.if (j2 _ _ _ hx) (j2 _ _ _ hx))))
 unfold Zgh;exact(Qw0 f).bind fun t _=>T.if (j1 _ _ (Qko _ _ _ _)) (j1 _ _ (Qko _ _ _ _))
theorem Qtn(c:Qx)(hc:Wf c):T (Zmr c) fun r=>Wf r.2.1/\FOK r.1.1:=by
 unfold Zmr;exact(Zuy c _ hc (by simp)).bind fun t1 h1=>(Zjt _ _ h1.1).bind fun t2 h2=>(Zjt _ _ h2.1).bind fun t3 h3=>(Q40 _ 6 h3.1 (by omega)).bind fun t4 h4=>(Qet _ _ h4.1).bind fun t5 h5=>(Zjt _ _ h5).bind fun t6 h6=>(Zjt _ _ h6.1).bind fun t7 h7=>(Zjt _ _ h7.1).bind fun t8 h8=>(Qet _ _ h8.1).bind fun t9 h9=>
  (Q31 _ (by unfold FOK;simp only;omega)).bind fun t hf=>T.pure ⟨h9,hf⟩
theorem Qrs(n:Int):TT (Zra n):=(tIn _ _ _).bind fun t _=>T.if T.tt T.tt
theorem Qrq(n:Int):TT (Zq9 n):=(tIn _ _ _).bind fun t _=>T.if T.tt T.tt
theorem Qxv(n:Int):TT (Zcc n):=(Qwr _).bind fun t _=>T.if T.tt T.tt
theorem Qxz(n m:Int):TT (Zce n m):=by obtain⟨c,b,e⟩:=Qrt n m;exact⟨_,e,trivial⟩
theorem Qe.zero{c:Zg}(h1:c.2.2.2.1=[])(h2:c.2.2.2.2.2.2.2.2.2.2.2.2.2.2.2.1=[]):Qe 0 c:=⟨⟨by rw[h1];simp,by rw[h1];simp⟩,⟨by rw[h2];simp,by rw[h2];simp⟩⟩
theorem Q4c(v:Bool)(o p:Zfp):T (Zmi v o p) fun r=>Qe 0 r.1:=by
 unfold Zmi;exact(tt1 (Zyx o)).bind fun t _=>T.bind (Q:=fun _=>True) (T.if T.tt (tt1 (Zyx p))) fun t _=>T.if (T.pure (Qe.zero rfl rfl)) ((Qxv _).bind fun t _=>(Qxz _ _).bind fun t _=>(Qrs _).bind fun t _=>(Qrs _).bind fun t _=>(Qrq _).bind fun t _=>(Qrq _).bind fun t _=>T.pure (Qe.zero rfl rfl))
def SQ(K:Nat)(r: (Zg×Unit)×(Qx×Unit)):Prop:=Wf r.2.1/\Qe K r.1.1
theorem Q6g{K:Nat}{x:Zg}(h:Qe K x)(h25:25<=K)(hK:K<=70000)(c:Qx)(hc:Wf c):T (Zmp c x) (SQ (K+2000)):=by
 have m:=h.mono (K':=K+2000) (by omega);have j3: ∀c t k b,Wf c->T (Zc5 c x t x k b) (SQ (K+2000)):=fun c t k b hc=>by
  unfold Zc5;refine T.if ((Zjt c _ hc).bind fun t1 h1=>(Qw6 h (by omega) _).bind fun t2 h2=>T.pure ⟨h1.1,h2.mono (by omega)⟩) (T.if ((Qtn c hc).bind fun t1 h1=>(Qvc h h1.2 h25 (by omega)).bind fun t2 h2=>T.if (T.pure ⟨h1.1,h2.mono (by have:=h1.2;unfold FOK at this;omega)⟩) (T.pure ⟨h1.1,m⟩)) (T.if (T.ite (fun hp=>(Zjt c _ hc).bind fun t1 h1=> ?_) fun _=>T.pure ⟨hc,m⟩) (T.pure ⟨hc,m⟩)));have hp:=Ode hp;exact T.guard ⟨h1.2.1,h1.2.2 (by omega)⟩ ((Qet _ _ h1.1).bind fun t2 h2=>T.if ((Qxq h (by omega) _).bind fun t3 h3=>T.pure ⟨h2,h3.mono (by omega)⟩) ((Q0l h (by omega) _).bind fun t3 h3=>T.pure ⟨h2,h3.mono (by omega)⟩))
 have j2: ∀c t i k b,Wf c->T (Zc4 c x t i x k b) (SQ (K+2000)):=fun c t i k b hc=>by
  unfold Zc4;refine T.if ((Q40 c 8 hc (by omega)).bind fun t1 h1=>(Qwy h _ _ (by omega)).bind fun t2 h2=>T.pure ⟨h1.1,h2.mono (by omega)⟩) (T.if ((Qet c _ hc).bind fun t1 h1=>T.if ((Qtb h (by omega) _).bind fun t2 h2=>T.pure ⟨h1,h2.mono (by omega)⟩) (T.pure ⟨h1,m⟩))
   (T.if ((Zjt c _ hc).bind fun t1 h1=>(Qx5 h (by omega) _ _).bind fun t2 h2=>T.pure ⟨h1.1,h2.mono (by omega)⟩) (T.if ((Qet c _ hc).bind fun t1 h1=>T.if ((Zjt _ _ h1).bind fun t2 h2=>(Qwa h (by omega) _ _).bind fun t3 h3=>T.pure ⟨h2.1,h3.mono (by omega)⟩) ((Q9v _ _ h1 (by simp)).bind fun t2 h2=>(Qwg h (by omega) _ _ ?_).bind fun t3 h3=>T.pure ⟨h2.1,h3.mono (by omega)⟩)) (T.if (j3 _ _ _ _ hc) (j3 _ _ _ _ hc)))))
  have:=h2.2;simp only[List.mem_cons,List.mem_nil_iff,or_false]at this;rcases this with e|e|e<;>(rw[e];simp)
 have j1: ∀c t i,Wf c->T (Zc3 c x t i) (SQ (K+2000)):=fun c t i hc=>by
  unfold Zc3;exact(Zjt c _ hc).bind fun t1 h1=>T.if ((Qet _ _ h1.1).bind fun t2 h2=>(Qx2 h (by omega) _).bind fun t3 h3=>T.pure ⟨h2,h3.mono (by omega)⟩) (T.if (j2 _ _ _ _ _ h1.1) (j2 _ _ _ _ _ h1.1))
 unfold Zmp;exact T.ite (fun hp=>(Zjt c _ hc).bind fun t1 h1=>T.guard ⟨h1.2.1,h1.2.2 (by simpa using hp)⟩ (j1 _ _ _ h1.1)) fun _=>j1 _ _ _ hc
theorem Q6d(c:Qx)(hc:Wf c):T (Zmn c) (SQ 30000):=by
 have lp: ∀(t:Zg) (N m:Nat) (c:Qx) (x:Zg) (K:Nat),m<N->25<=K->Wf c->Qe K x->K+2000*m<=30000->T (Zc0 N c t x (m:Int)) (SQ 30000):=by
  intro t N
  induction N with
  |zero=>intro m c x K h;omega
  |succ N ih=>
   intro m c x K hm h25 hc hx hK;unfold Zc0;refine T.ite (fun hd=>(Q6g hx h25 (by omega) c hc).bind fun t1 h1=> ?_) fun _=>T.pure ⟨hc,hx.mono (by omega)⟩;have hd:=Ode hd;rw[show IntKind.i64.wrap ((m:Int)-1)=((m-1:Nat):Int) by rw[Zv (by omega) (by omega)];omega];exact ih (m-1) _ _ (K+2000) (by omega) (by omega) h1.1 h1.2 (by omega)
 have cf: ∀c,Wf c->T (Zml c) fun r=>Wf r.2.1:=fun c hc=>by
  obtain⟨y,c',e,k,-⟩:=Q6b c hc;exact⟨_,e,k⟩
 unfold Zmn;refine(Qet c _ hc).bind fun t1 h1=>(cf _ h1).bind fun t2 h2=>(cf _ h2).bind fun t3 h3=>(Q4c _ _ _).bind fun x hx=>(Zjt _ _ h3).bind fun t4 h4=> ?_;have:=h4.2.2 (by omega);have h0:=h4.2.1;obtain⟨m,hm⟩:=Int.eq_ofNat_of_zero_le h0;have e:IntKind.i64.wrap (2+t4.1.1)=((m+2:Nat):Int):=by rw[Zv (by omega) (by omega)];omega
 rw[e];exact lp _ _ (m+2) _ _ 25 (by unfold Zl0;omega) (Nat.le_refl _) h4.1 (hx.mono (by omega)) (by omega)
theorem Q3y(c:Qx)(hc:Wf c):T (Zlz c) (SQ 30000):=by
 unfold Zlz;exact(Q6d c hc).bind fun t hx=>(Zjt _ _ hx.1).bind fun t1 h1=>T.if ((Zuy _ _ h1.1 (by simp)).bind fun t2 h2=>T.pure ⟨h2.1,by exact⟨hx.2.str,hx.2.pk⟩⟩) (T.if ((Zuy _ _ h1.1 (by simp)).bind fun t2 h2=>T.pure ⟨h2.1,by exact⟨hx.2.str,hx.2.pk⟩⟩) (T.if ((Zuy _ _ h1.1 (by simp)).bind fun t2 h2=>T.pure ⟨h2.1,by exact⟨hx.2.str,hx.2.pk⟩⟩) (T.if ((Zuy _ _ h1.1 (by simp)).bind fun t2 h2=>T.pure ⟨h2.1,by exact⟨hx.2.str,hx.2.pk⟩⟩) (T.pure ⟨h1.1,hx.2⟩))))
theorem Qpa(r:Ze):Ztb r=some (Zej r,()):=rfl
theorem Zz4(l:List Ze)(hl:l.length<=1048576): ∀(N i:Nat),l.length-i<N->i<=l.length->Zhs N l l (l.length:Int) (i:Int)=Wq N l (i:Int)
 |0,_,h,_=>by omega
 |N+1,i,hN,hi=>by
  rw[Zhs,Wq];by_cases hh:i<l.length
  ·have g: ∀{a:Prop},a->decide ((i:Int)>0)=true->0<=IntKind.i64.wrap ((i:Int)-1)/\IntKind.i64.wrap ((i:Int)-1)< (l.length:Int):=fun _ h=>by
    have:=Ode h;rw[Zv (by omega) (by omega)];omega
   rw[Zn (Zj (by omega)),Zn (Zj (by omega)),Zb (by omega),Zb (by omega),Qpa,Zzf,Obs,Obs,Zb (fun h h2=>g h h2),Zb (fun h h2=>g h h2),Zb (fun _ _=>by omega),Zs hh (by omega),Zz4 l hl N (i+1) (by omega) (by omega)]
  ·rw[Zm (Zk (by omega)),Zm (Zk (by omega))]
theorem Ztn(l:List Ze)(hl:l.length<=1048576):Zbx l=some (rsB (-1) l,()):=by
 have e:Zkk l l (l.length:Int) 0=Zbi l 0:=rfl;rw[<-Za8 l hl,Zbx,Kz,e];exact Zz4 l hl _ 0 (by unfold Zbi;omega) (by omega)
theorem Qn2(l:List Ze)(hl:l.length<=1048576): ∀(N i:Nat) (n:Int),l.length-i<N->i<=l.length->rsB (-1) l=true->Zb8 N n l (l.length:Int) (i:Int)=Kk N l n (i:Int)
 |0,_,_,h,_,_=>by omega
 |N+1,i,n,hN,hi,hr=>by
  rw[Zb8,Kk];by_cases hh:i<l.length
  ·rw[Zn (Zj (by omega)),Zn (Zj (by omega)),Zb (by omega),Zb (by omega)];have hw:IntKind.i64.wrap (n+IntKind.i64.wrap ((l.getD (i:Int).toNat Zy).2.1- (l.getD (i:Int).toNat Zy).1))=IntKind.i64.wrap (IntKind.i64.wrap (n+ (l.getD (i:Int).toNat Zy).2.1)- (l.getD (i:Int).toNat Zy).1):=by
    unfold IntKind.wrap;simp[IntKind.signed,IntKind.bits];omega
   rw[hw,Zs hh (by omega),Qn2 l hl N (i+1) _ (by omega) (by omega) hr]
   try rw[Zb (by omega)]
  ·rw[Zm (Zk (by omega)),Zm (Zk (by omega))]
theorem Zqy(l:List Ze)(hl:l.length<=1048576):W6 l=some (if rsB (-1) l=true then Jp l else-1,()):=by
 rw[<-Zdj l hl,W6,Vl,Ztn l hl,Za8 l hl,Obs,Obs];cases hr:rsB (-1) l
 ·rfl
 ·exact Qn2 l hl _ 0 0 (by unfold Ze9;omega) (by omega) hr
theorem Zop(l:List Ze)(hl:l.length<=1048576):Vu l=some (l,()):=by
 unfold Vu;rw[Zb (by unfold Qo;simp;omega)];simp
theorem Qia: ∀(N:Nat) (pre rest:List Ze) (r:Ze) (out:List Ze),(pre++rest).length<=1048576->rest.length<N->out.length<=pre.length+1->r.1<r.2.1->(∀x∈rest,r.2.1<x.1/\x.1<x.2.1)->
  Yk N r out true (pre++rest) ((pre++rest).length:Int) (pre.length:Int)=some (out++rest,())
 |0,_,_,_,_,_,h,_,_,_=>by omega
 |N+1,pre,[],r,out,hl,hN,ho,hr,hx=>by
  unfold Yk;rw[Zm (by simp)];simp
 |N+1,pre,x::rest,r,out,hl,hN,ho,hr,hx=>by
  have hlen: (pre++x::rest).length=pre.length+rest.length+1:=by simp;omega
  simp only[List.length_cons]at hN;have hxx:=hx x (by simp);unfold Yk;rw[Zn (Zj (by rw[hlen];omega)),Zb (by rw[hlen];omega),Zb6,Zm (Zk (by omega)),Zn (Zj (by omega)),Zm (by rfl)];unfold Zhm;rw[Zb (by unfold Qo;simp;omega),Zs (m:=pre.length+1) (by omega) (by omega)];have ih:=Qia N (pre++ [x]) rest r (out++ [x]) (by simp;omega) (by omega) (by simp;omega) hr (fun y hy=>hx y (by simp[hy]));rw[show(pre++ [x])++rest=pre++x::rest by simp,show((pre++ [x]).length:Int)=((pre.length+1:Nat):Int) by simp]at ih;simp only[ih];simp
theorem Qe2: ∀(N:Nat) (pre rest:List Ze) (r:Ze) (out:List Ze) (lo:Int),(pre++rest).length<=1048576->rest.length<N->out.length<=pre.length->r.1<r.2.1->rsB lo rest=true->
  Yk N r out false (pre++rest) ((pre++rest).length:Int) (pre.length:Int)=some (out++Zgk rest r,())
 |0,_,_,_,_,_,_,h,_,_,_=>by omega
 |N+1,pre,[],r,out,lo,hl,hN,ho,hr,hx=>by
  simp only[List.append_nil]at hl;unfold Yk;rw[Zm (by simp),Zn (by rfl),Zb (by unfold Qo;simp;omega)];rfl
 |N+1,pre,x::rest,r,out,lo,hl,hN,ho,hr,hx=>by
  have hlen: (pre++x::rest).length=pre.length+rest.length+1:=by simp;omega
  simp only[List.length_cons]at hN;obtain⟨hf,hlo,hrest⟩:=Vg.1 hx;have hf:=Ql.1 hf;unfold Yk;rw[Zn (Zj (by rw[hlen];omega)),Zb (by rw[hlen];omega),Zb6];have es: (pre++ [x])++rest=pre++x::rest:=by simp
  have ec: ((pre++ [x]).length:Int)=((pre.length+1:Nat):Int):=by simp
  rw[Zs (m:=pre.length+1) (by omega) (by omega)];by_cases h1:x.2.1<r.1
  ·rw[Zn (Zj h1),Zb (by unfold Qo;simp;omega)];have ih:=Qe2 N (pre++ [x]) rest r (out++ [x]) x.2.1 (by simp;omega) (by omega) (by simp;omega) hr hrest;rw[es,ec]at ih;rw[ih,Zgk,if_pos h1];simp
  ·rw[Zm (Zk h1)];by_cases h2:x.1>r.2.1
   ·rw[Zn (Zj h2),Zn (by rfl),Zb (by unfold Qo;simp;omega)];unfold Zhm;rw[Zb (by unfold Qo;simp;omega),Zs (m:=pre.length+1) (by omega) (by omega)];have low:=Znu hrest;have ih:=Qia N (pre++ [x]) rest r (out++ [r]++ [x]) (by simp;omega) (by omega) (by simp;omega) hr (fun y hy=>by
     have h3:=low y hy;have h4:=Ql.1 h3.2;omega)
    rw[es,ec]at ih;simp only[ih];rw[Zgk,if_neg h1,if_pos h2];simp
   ·rw[Zm (Zk h2)];have ih:=Qe2 N (pre++ [x]) rest (min r.1 x.1,max r.2.1 x.2.1,()) out x.2.1 (by simp;omega) (by omega) (by simp;omega) (by simp only;omega) hrest;rw[es,ec]at ih;rw[ih,Zgk,if_neg h1,if_neg h2]
theorem Q0m(l:List Ze)(r:Ze)(hl:l.length<=1048576):Zq0 l r=some (if rsB (-1) l=true/\Zej r=true then Zgk l r else l,()):=by
 unfold Zq0;rw[Ztn l hl,Obs,Qpa,Zop l hl];cases hr:rsB (-1) l
 ·rfl
 ·cases hf:Zej r
  ·rfl
  ·have hf:=Ql.1 hf;rw[if_pos ⟨rfl,rfl⟩];have h:=Qe2 (Zey r [] false l (l.length:Int) 0) [] l r [] (-1) (by simpa using hl) (by unfold Zey;omega) (by simp) hf.2.1 hr;exact h
theorem Q3l(l:List Ze)(hl:l.length<=1048576): ∀(N i:Nat) (n:Int),l.length-i<N->i<=l.length->Zdv N n l (l.length:Int) (i:Int)=J7 N l n (i:Int)
 |0,_,_,h,_=>by omega
 |N+1,i,n,hN,hi=>by
  rw[Zdv,J7];by_cases hh:i<l.length
  ·have ih:=fun n=>Q3l l hl N (i+1) n (by omega) (by omega);rw[Zn (Zj (by omega)),Zn (Zj (by omega)),Zb (by omega),Zb (by omega),Zs hh (by omega),ih,ih]
   try rw[Zb (fun _=>by omega)]
   try rw[Zb (by omega)]
   unfold Zig;rw[Zs hh (by omega)]
  ·rw[Zm (Zk (by omega)),Zm (Zk (by omega))]
theorem Q0y(l:List Ze)(f:Int)(hl:l.length<=1048576):Zq1 l f=some (if rsB (-1) l=true/\0<=f then Z16 l f else-1,()):=by
 rw[<-Qb9 l f hl,Zq1,Zgt,Ztn l hl,Za8 l hl,Obs,Obs];cases (!rsB (-1) l)||decide (f<0)
 ·exact Q3l l hl _ 0 f (by unfold Zkj;omega) (by omega)
 ·rfl
end Go.Proofs.YtmlpcjbkbnkajaaGreat

/- FnErrors: the plain law, part 1. No condition. -/
import Derived.Test.YtgepmefongfeeaaGreatM2
namespace Go.Proofs.YtgepmefongfeeaaGreat
open Go.Am
set_option maxRecDepth 100000
set_option linter.unusedVariables false
abbrev Wb:Type:=Q8
theorem Zcs{α:Type}(pre:List α)(x:α)(rest:List α)(d:α): (pre++x::rest).getD ((pre.length:Int).toNat) d=x:=by
 rw[show(pre.length:Int).toNat=pre.length from rfl,List.getD_eq_getElem?_getD,List.getElem?_append_right (Nat.le_refl _)];simp
def Q4d(k:Nat):Int:=((([48,49,50,51,52,53,54,55,56,57,97,98,99,100,101,102]:List UInt8).getD k 0).toNat:Int)
def hx(b:UInt8):List Int:=[Q4d (b.toNat/16),Q4d (b.toNat%16)]
theorem Yl{α:Type}{d:α}{l:List α}{i:Nat}(h:i<l.length):l.drop i=l.getD i d::l.drop (i+1):=by
 rw[List.drop_eq_getElem_cons h,List.getD_eq_getElem?_getD,List.getElem?_eq_getElem h];rfl
def Q6t(l:List UInt8):List UInt8:=Qq (l.flatMap hx)
theorem Q8l: ∀(u:Nat),∀b∈Go.Lib.decDigits u,48<=b.toNat/\b.toNat<=57:=by
 intro u
 induction u using Nat.strongRecOn with
 |_ u a=>
  intro b hb;rw[Go.Lib.decDigits]at hb;split at hb
  ·rename_i h;simp only[List.mem_singleton]at hb;subst hb;have: (UInt8.ofNat (48+u)).toNat=48+u:=by simp;omega
   omega
  ·rename_i h;rcases List.mem_append.1 hb with hb|hb
   ·exact a (u/10) (by omega) b hb
   ·simp only[List.mem_singleton]at hb;subst hb;have: (UInt8.ofNat (48+u%10)).toNat=48+u%10:=by simp;omega
    omega
def hv(b:UInt8):Int:=if 48<=b.toNat/\b.toNat<=57 then(b.toNat:Int)-48 else if 97<=b.toNat/\b.toNat<=102 then(b.toNat:Int)-87 else-1
theorem Q4b(b:UInt8)(l:List UInt8):Q6t (b::l)=UInt8.ofNat (Q4d (b.toNat/16)).toNat::UInt8.ofNat (Q4d (b.toNat%16)).toNat::Q6t l:=by
 simp[Q6t,Qq,hx]
theorem Q4c(c:UInt8)(hc:c=32\/c=10): ∀d:List UInt8,c∉Q6t d
 | []=>by simp[Q6t,Qq]
 |b::d=>by
  have h:b.toNat<256:=b.toNat_lt;have a: ∀k:Fin 16,UInt8.ofNat (Q4d k.val).toNat≠32/\UInt8.ofNat (Q4d k.val).toNat≠10:=by decide
  have e:=a ⟨b.toNat/16,by omega⟩;have f:=a ⟨b.toNat%16,by omega⟩;have g:=Q4c c hc d;rw[Q4b];simp only[List.mem_cons,not_or];rcases hc with rfl|rfl
  ·exact⟨Ne.symm e.1,Ne.symm f.1,g⟩
  ·exact⟨Ne.symm e.2,Ne.symm f.2,g⟩
def fq(x:Int):Bool:=decide (x>=(0:Int))&&decide (x<=(4611686018427387903:Int))
theorem Q4t(x:Int):Qj x=some (fq x,()):=rfl
theorem Q4s(x:Int):Xj x=some (fq x,()):=rfl
theorem Qye:Zxo=Zol:=rfl
theorem Xau:Qit=Zhf:=rfl
def Xu(f:Zi):Bool:=bif f.1==4 then decide (f.2.2.1=0)&& (f.2.2.2.1==[])&& (f.2.2.2.2.1==false)&&decide (f.2.2.2.2.2.2.1=0)&& (f.2.2.2.2.2.2.2.2.1==false) else bif f.1==5 then decide (f.2.2.1=0)&& (f.2.2.2.1==[])&& (f.2.2.2.2.1==false)&&decide (f.2.2.2.2.2.2.1=0)&&decide (f.2.2.2.2.2.2.2.1=0)&& (f.2.2.2.2.2.2.2.2.1==false) else bif f.1==8 then decide (f.2.2.2.2.2.1=0)&&decide (f.2.2.2.2.2.2.1=0)&&decide (f.2.2.2.2.2.2.2.1=0)&& (f.2.2.2.2.2.2.2.2.1==false) else bif f.1==17||f.1==21 then decide (f.2.2.1=0)&& (f.2.2.2.1==[])&& (f.2.2.2.2.1==false)&&decide (f.2.2.2.2.2.1=0)&&decide (f.2.2.2.2.2.2.2.1=0)&& (f.2.2.2.2.2.2.2.2.1==false) else bif f.1==18||f.1==22 then decide (f.2.1=0)&&decide (f.2.2.1=0)&& (f.2.2.2.1==[])&& (f.2.2.2.2.1==false)&&decide (f.2.2.2.2.2.1=0)&&decide (f.2.2.2.2.2.2.2.1=0) else bif f.1==16||f.1==20 then decide (f.2.1=0)&&decide (f.2.2.1=0)&& (f.2.2.2.1==[])&& (f.2.2.2.2.1==false)&&decide (f.2.2.2.2.2.1=0)&&decide (f.2.2.2.2.2.2.2.1=0)&& (f.2.2.2.2.2.2.2.2.1==false) else false
def Y7(f:Zi):Bool:=Xu f&&fq f.2.1&&fq f.2.2.1&&fq f.2.2.2.2.2.1&&fq f.2.2.2.2.2.2.1&&fq f.2.2.2.2.2.2.2.1&&decide (f.2.2.2.1.length<=400)&& (bif f.1==18||f.1==22 then decide (f.2.2.2.2.2.2.1<=(1152921504606846976:Int))else decide (f.2.2.1<=(4611686018427387903:Int)- (f.2.2.2.1.length:Int)))
theorem Qyq(k:Int): ∃s,Zol k=some (s,())/\((s==([]:List UInt8))= !(k==4||k==5||k==8||k==16||k==17||k==18||k==20||k==21||k==22)):=by
 unfold Zol;cases h4:k==4<;>cases h5:k==5<;>cases h8:k==8<;>cases h16:k==16<;>cases h17:k==17<;>cases h18:k==18<;>cases h20:k==20<;>cases h21:k==21<;>cases h22:k==22<;>exact⟨_,rfl,rfl⟩
theorem Qvf(f:Zi): ∃u,Zhf f=some (u,())/\((f.1==4||f.1==5||f.1==8||f.1==16||f.1==17||f.1==18||f.1==20||f.1==21||f.1==22)=true->eqV Zq u f=Xu f/\eqV Zq f u=Xu f):=by
 obtain⟨k,v,s,q,fin,r,l,m,t,z⟩:=f;by_cases n:k=4
 ·subst n;exact⟨_,rfl,fun _=>by constructor<;>rw[Bool.eq_iff_iff]<;>simp[eqV,Xu]<;>grind⟩
 by_cases o:k=5
 ·subst o;exact⟨_,rfl,fun _=>by constructor<;>rw[Bool.eq_iff_iff]<;>simp[eqV,Xu]<;>grind⟩
 by_cases p:k=8
 ·subst p;exact⟨_,rfl,fun _=>by constructor<;>rw[Bool.eq_iff_iff]<;>simp[eqV,Xu]<;>grind⟩
 by_cases a:k=17
 ·subst a;exact⟨_,rfl,fun _=>by constructor<;>rw[Bool.eq_iff_iff]<;>simp[eqV,Xu]<;>grind⟩
 by_cases b:k=21
 ·subst b;exact⟨_,rfl,fun _=>by constructor<;>rw[Bool.eq_iff_iff]<;>simp[eqV,Xu]<;>grind⟩
 by_cases d:k=18
 ·subst d;exact⟨_,rfl,fun _=>by constructor<;>rw[Bool.eq_iff_iff]<;>simp[eqV,Xu]<;>grind⟩
 by_cases g:k=22
 ·subst g;exact⟨_,rfl,fun _=>by constructor<;>rw[Bool.eq_iff_iff]<;>simp[eqV,Xu]<;>grind⟩
 by_cases i:k=16
 ·subst i;exact⟨_,rfl,fun _=>by constructor<;>rw[Bool.eq_iff_iff]<;>simp[eqV,Xu]<;>grind⟩
 by_cases j:k=20
 ·subst j;exact⟨_,rfl,fun _=>by constructor<;>rw[Bool.eq_iff_iff]<;>simp[eqV,Xu]<;>grind⟩
 ·have e: ∀c:Int,k≠c->(k==c)=false:=fun c h=>by simp[h]
  refine⟨(k,0,0,[],false,0,l,0,false,()),?_,fun hk=> ?_⟩
  rotate_left
  ·simp only[e _ n,e _ o,e _ p,e _ a,e _ b,e _ d,e _ g,e _ i,e _ j]at hk;cases hk
  ·unfold Zhf Wr Yj Zjw Zjx;simp only[e _ n,e _ o,e _ p,e _ a,e _ b,e _ d,e _ g,Ocf,Obs]
theorem Quu{f:Zi}(h:Xu f=true)(h8:f.1≠8):f.2.2.1=0/\f.2.2.2.1=[]:=by
 obtain⟨k,j,d,b,fin,c,e,a,g,z⟩:=f;unfold Xu at h;simp only at h h8⊢;have i: (k==8)=false:=by simp[h8]
 rw[i]at h;revert h;cases k==4<;>cases k==5<;>cases (k==17||k==21)<;>cases (k==18||k==22)<;>cases (k==16||k==20)<;>simp<;>grind
theorem Qrr{f:Zi}(h:Xu f=true): (f.1==4||f.1==5||f.1==8||f.1==16||f.1==17||f.1==18||f.1==20||f.1==21||f.1==22)=true:=by
 obtain⟨k,i,d,b,fin,c,e,a,g,z⟩:=f;unfold Xu at h;simp only at h⊢;revert h;cases k==4<;>cases k==5<;>cases k==8<;>cases k==17<;>cases k==21<;>cases k==18<;>cases k==22<;>cases k==16<;>cases k==20<;>simp
theorem Zus(f:Zi)(hl:f.2.2.2.1.length<=1048576):Jt f=some (Y7 f,()):=by
 obtain⟨s,d,e⟩:=Qyq f.1;obtain⟨u,g,i⟩:=Qvf f;unfold Jt;simp only[d,g,Q4t,Obs,e];cases hk: (f.1==4||f.1==5||f.1==8||f.1==16||f.1==17||f.1==18||f.1==20||f.1==21||f.1==22)
 ·have a:Xu f=false:=by
   cases h:Xu f
   ·rfl
   ·rw[Qrr h]at hk;cases hk
  simp only[Bool.not_false,Oct,Obs,Bool.true_or];unfold Y7;rw[a];rfl
 ·simp only[Ont,Ocf,Obs,Bool.false_or,(i hk).1];have j:Y7 f=(Xu f&&fq f.2.1&&fq f.2.2.1&&fq f.2.2.2.2.2.1&&fq f.2.2.2.2.2.2.1&&fq f.2.2.2.2.2.2.2.1&&decide (f.2.2.2.1.length<=400)&& (bif f.1==18||f.1==22 then decide (f.2.2.2.2.2.2.1<=(1152921504606846976:Int))else decide (f.2.2.1<=(4611686018427387903:Int)- (f.2.2.2.1.length:Int)))):=rfl;rw[j,Zr (by omega) (by omega)];have k:decide ((f.2.2.2.1.length:Int)>400)= !(decide (f.2.2.2.1.length<=400)):=by
   rw[Bool.eq_iff_iff];simp;omega
  rw[k];cases a:Xu f
  ·simp
  ·have b:=Quu a;cases fq f.2.1<;>cases fq f.2.2.1<;>cases fq f.2.2.2.2.2.1<;>cases fq f.2.2.2.2.2.2.1<;>cases fq f.2.2.2.2.2.2.2.1<;>cases hlen:decide (f.2.2.2.1.length<=400)<;>try rfl
   by_cases c:f.1=8
   ·simp[c]
   ·have l: (f.1==8)=false:=by simp[c]
    obtain⟨m,n⟩:=b c;unfold Zo4;cases h18:f.1==18<;>cases h22:f.1==22<;>simp[l,m,n]
theorem Qez(f:Zi)(hl:f.2.2.2.1.length<=1048576):We f=some (Y7 f,()):=by
 obtain⟨s,d,e⟩:=Qyq f.1;obtain⟨u,g,i⟩:=Qvf f;unfold We;rw[Qye,Xau];simp only[d,g,Q4s,Obs,e];cases hk: (f.1==4||f.1==5||f.1==8||f.1==16||f.1==17||f.1==18||f.1==20||f.1==21||f.1==22)
 ·have a:Xu f=false:=by
   cases h:Xu f
   ·rfl
   ·rw[Qrr h]at hk;cases hk
  simp only[Bool.not_false,Oct,Obs,Bool.true_or];unfold Y7;rw[a];rfl
 ·simp only[Ont,Ocf,Obs,Bool.false_or,(i hk).2];have j:Y7 f=(Xu f&&fq f.2.1&&fq f.2.2.1&&fq f.2.2.2.2.2.1&&fq f.2.2.2.2.2.2.1&&fq f.2.2.2.2.2.2.2.1&&decide (f.2.2.2.1.length<=400)&& (bif f.1==18||f.1==22 then decide (f.2.2.2.2.2.2.1<=(1152921504606846976:Int))else decide (f.2.2.1<=(4611686018427387903:Int)- (f.2.2.2.1.length:Int)))):=rfl;rw[j,Zr (by omega) (by omega)];have k:decide ((f.2.2.2.1.length:Int)<=400)=(decide (f.2.2.2.1.length<=400)):=by
   rw[Bool.eq_iff_iff];simp;omega
  rw[k];cases a:Xu f
  ·simp
  ·have b:=Quu a;cases fq f.2.1<;>cases fq f.2.2.1<;>cases fq f.2.2.2.2.2.1<;>cases fq f.2.2.2.2.2.2.1<;>cases fq f.2.2.2.2.2.2.2.1<;>try rfl
   by_cases c:f.1=8
   ·simp[c]
   ·obtain⟨l,m⟩:=b c;cases h18:f.1==18<;>cases h22:f.1==22<;>simp[l,m]
open Classical in
noncomputable def pin(s:List UInt8):Option Int:=if h: ∃n:Int,-999999999<=n/\n<=999999999/\s=Go.Lib.itoa n then some h.choose else none
noncomputable def Qsc{β:Type}(r:List (List UInt8))(K:Int->List (List UInt8)->Option β):Option β:=
 match r with
 | []=>none
 |a::r=>match pin a with
  |none=>none
  |some n=>K n r
theorem hdn{β:Type}(x y:Option β): (bif((([]:List (List UInt8)).length:Nat):Int)==(0:Int)then x else y)=x:=rfl
theorem Q11(x:Int):0<=bits .and .i64 x 255/\bits .and .i64 x 255<=255:=by
 have h:bits .and .i64 x 255=IntKind.i64.wrap (((BitVec.ofInt 64 x&&&BitVec.ofInt 64 255).toNat:Nat):Int):=rfl;rw[h,BitVec.toNat_and];have a: (BitVec.ofInt 64 255).toNat=255:=by decide
 rw[a];have b: (BitVec.ofInt 64 x).toNat&&&255<=255:=Nat.and_le_right;rw[Zr (by omega) (by omega)];omega
def Y8(c:Qb):Prop:=c.1.length<=1048576/\0<=c.2.1/\c.2.1<=c.1.length
theorem Qvr(code:List Int)(h:code.length<=1048576): ∃c,Zpt code=some (c,())/\Y8 c:=by
 have a: ∀(N:Nat) (x:Int) (i:Nat),i<=code.length->code.length-i<N-> ∃c,Zop N code x (i:Int)=some (c,())/\Y8 c:=by
  intro N
  induction N with
  |zero=>intro x i _ h;omega
  |succ N b=>
   intro x i e f;unfold Zop;by_cases d:i<code.length/\i<4000
   ·rw[Zn (by simp;omega),Zb (by omega),Zt d.1 (by omega)];exact b _ (i+1) (by omega) (by omega)
   ·rw[Zm (by simp;omega)];exact⟨_,rfl,h,Int.le_refl 0,by simp⟩
 unfold Zpt;exact a _ _ 0 (by omega) (by unfold Zpu;omega)
theorem Zu2(c:Qb)(h:Y8 c): ∃x c',Vf c=some ((x,()),(c',()))/\Y8 c'/\0<=x/\x<=255:=by
 obtain⟨b,d,e⟩:=h;unfold Vf;simp only[];rw[Zb (by decide),Zb (by decide)];by_cases a:c.2.1< (c.1.length:Int)
 ·rw[Zn (Zk a),Zb ⟨d,a⟩,Zr (n:=c.2.1+1) (by omega) (by omega)];exact⟨_,_,rfl,⟨b,by show 0<=c.2.1+1;omega,by show c.2.1+1<=(c.1.length:Int);omega⟩,Q11 _⟩
 ·rw[Zm (Zl a)];exact⟨_,_,rfl,⟨b,d,e⟩,Q11 _⟩
theorem Zry(c:Qb)(n:Int)(h:Y8 c): ∃x c',Z7 c n=some ((x,()),(c',()))/\Y8 c'/\0<=x/\(0<n->x<n):=by
 unfold Z7;by_cases e:n<=0
 ·rw[Zn (Zk e)];exact⟨_,_,rfl,h,Int.le_refl 0,fun a=>by omega⟩
 ·rw[Zm (Zl e)];by_cases f:n<=256
  ·rw[Zn (Zk f)];obtain⟨x,g,b,d,i,j⟩:=Zu2 c h;rw[b,Obs,Zb (by omega)];exact⟨_,_,rfl,d,Int.tmod_nonneg n i,fun a=>Int.tmod_lt_of_pos x a⟩
  ·rw[Zm (Zl f)];obtain⟨x,g,b,d,i,j⟩:=Zu2 c h;obtain⟨y,k,l,m,t,v⟩:=Zu2 g d;obtain⟨z,o,p,q,w,A⟩:=Zu2 k m;obtain⟨u,B,r,s,C,D⟩:=Zu2 o q;rw[b,Obs,l,Obs,p,Obs,r,Obs,Zb (by omega)];simp only[];rw[Zr (n:=x*16777216) (by omega) (by omega),Zr (n:=y*65536) (by omega) (by omega),Zr (n:=x*16777216+y*65536) (by omega) (by omega),Zr (n:=z*256) (by omega) (by omega),Zr (n:=x*16777216+y*65536+z*256) (by omega) (by omega),Zr (n:=x*16777216+y*65536+z*256+u) (by omega) (by omega)];exact⟨_,_,rfl,s,Int.tmod_nonneg n (by omega),fun a=>Int.tmod_lt_of_pos _ a⟩
theorem Q54(c:Qb)(l:List Int)(h:Y8 c)(hl:0<l.length): ∃x c',V9 c l=some ((x,()),(c',()))/\Y8 c'/\x∈l:=by
 unfold V9;obtain⟨x,f,b,d,e,a⟩:=Zry c (l.length:Int) h;have a:=a (by omega);rw[b,Obs];simp only[];rw[Zb ⟨e,a⟩];refine⟨_,_,rfl,d,?_⟩;have hx:x.toNat<l.length:=by omega
 rw[List.getD_eq_getElem?_getD,List.getElem?_eq_getElem hx];exact List.getElem_mem hx
def Zf6(r:Zh):Bool:=(decide (r.1>=(0:Int))&&decide (r.1<r.2.1))&&decide (r.2.1<=(4611686018427387903:Int))
theorem Z0z(r:Zh):Zti r=some (Zf6 r,()):=rfl
theorem Qv{r:Zh}:Zf6 r=true↔0<=r.1/\r.1<r.2.1/\r.2.1<=4611686018427387903:=by
 unfold Zf6;simp;omega
def rsB:Int->List Zh->Bool|_,[]=>true|lo,r::l=>Zf6 r&&decide (lo<r.1)&&rsB r.2.1 l
theorem Z85: ∀(N:Nat) (pre rest:List Zh) (lo:Int),(pre++rest).length<=1048576->rest.length<N->(pre=[]->lo<0)->(∀q x,pre=q++ [x]->lo=x.2.1)->
  Zac N (pre++rest) (pre.length:Int)=some (rsB lo rest,())
 |0,_,_,_,_,h,_,_=>by omega
 |N+1,pre,[],lo,l,g,i,j=>by
  unfold Zac;rw[Zm (by simp)];rfl
 |N+1,pre,r::rest,lo,l,g,i,j=>by
  have a: (pre++r::rest).length=pre.length+rest.length+1:=by simp;omega
  simp only[List.length_cons]at g;unfold Zac;rw[Zn (Zk (by rw[a];omega)),Zb (by rw[a];omega),Zcs,Z0z,Obs];have f:=Z85 N (pre++ [r]) rest r.2.1 (by simp;omega) (by omega) (by simp) (fun q x e=>by
   have:=List.append_inj' e rfl;simp only[List.cons.injEq,and_true]at this;rw[this.2])
  have n: ((pre++ [r]).length:Int)=((pre.length+1:Nat):Int):=by simp
  rw[n]at f;rw[show(pre++ [r])++rest=pre++r::rest by simp]at f;rw[Zb (fun _ h=>by
   have: (pre.length:Int)>0:=by simpa using h
   rw[Zr (by omega) (by omega),a];omega),Zb (fun _ _=>by rw[a];omega),Zt (m:=pre.length+1) (by omega) (by omega),f]
  simp only[rsB];cases hf:Zf6 r
  ·rfl
  ·rcases List.eq_nil_or_concat pre with b| ⟨q,x,b⟩
   ·subst b;have c:=i rfl;have p:=Qv.1 hf;rw[Zm (by simp)];rw[show decide (lo<r.1)=true from Zk (by omega)];simp
   ·rw[List.concat_eq_append]at b;have c:=j q x b;have o: (pre++r::rest).getD (IntKind.i64.wrap ((pre.length:Int)-1)).toNat Zz=x:=by
     rw[Zr (by omega) (by omega)];have e: ((pre.length:Int)-1).toNat=q.length:=by rw[b];simp
     rw[e,b,List.append_assoc];exact Zcs q x ([r]++rest) Zz
    rw[o,<-c];have d:decide ((pre.length:Int)>0)=true:=Zk (by rw[b];simp);rw[d];by_cases k:lo<r.1
    ·rw[Zm (by simp;omega),Zk k];simp
    ·rw[Zn (by simp;omega),Zl k];simp
theorem Zbq(l:List Zh)(hl:l.length<=1048576):Jh l=some (rsB (-1) l,()):=by
 unfold Jh;exact Z85 _ [] l (-1) (by simpa using hl) (by unfold Zb0;omega) (fun _=>by omega) (fun q x e=>by simp at e)
theorem V7{lo:Int}{r:Zh}{l:List Zh}:rsB lo (r::l)=true↔Zf6 r=true/\lo<r.1/\rsB r.2.1 l=true:=by
 simp only[rsB,Oba,decide_eq_true_eq,and_assoc]
theorem Zy5: ∀{l:List Zh} {lo lo':Int},rsB lo l=true->lo'<=lo->rsB lo' l=true
 | [],_,_,_,_=>rfl
 |r::l,lo,lo',h,a=>by
  rw[V7]at h⊢;exact⟨h.1,by omega,h.2.2⟩
theorem Zsn: ∀{l:List Zh} {lo:Int},rsB lo l=true-> ∀x∈l,lo<x.1/\Zf6 x=true
 | [],_,_,x,hx=>by cases hx
 |r::l,lo,h,x,hx=>by
  rw[V7]at h;have a:=Qv.1 h.1;rcases List.mem_cons.1 hx with rfl|hx
  ·exact⟨h.2.1,h.1⟩
  ·have:=Zsn h.2.2 x hx;exact⟨by omega,this.2⟩
theorem Q3f: ∀{l:List Zh} {lo E:Int},rsB lo l=true->(∀x∈l,x.2.1<=E)->lo<=E->(l.length:Int)<=E-lo
 | [],lo,E,_,_,a=>by simp;omega
 |r::l,lo,E,h,a,_=>by
  rw[V7]at h;have b:=Qv.1 h.1;have:=Q3f (E:=E) h.2.2 (fun x hx=>a x (by simp[hx])) (a r (by simp));simp only[List.length_cons];omega
def Zhi:List Zh->Zh->List Zh| [],r=>[r]|x::l,r=>if x.2.1<r.1 then x::Zhi l r else if x.1>r.2.1 then r::x::l else Zhi l (min r.1 x.1,max r.2.1 x.2.1,())
theorem Qat(l:List Zh)(hl:l.length<=1048576):Zj4 l=some (l,()):=by
 unfold Zj4;rw[Zb (by unfold Qo;simp;omega)];simp
theorem Qkz: ∀(N:Nat) (pre rest:List Zh) (r:Zh) (out:List Zh),(pre++rest).length<=1048576->rest.length<N->out.length<=pre.length+1->r.1<r.2.1->(∀x∈rest,r.2.1<x.1/\x.1<x.2.1)->
  Yt N (pre++rest) r out true (pre.length:Int)=some (out++rest,())
 |0,_,_,_,_,_,h,_,_,_=>by omega
 |N+1,pre,[],r,out,e,b,f,c,hx=>by
  unfold Yt;rw[Zm (by simp)];simp
 |N+1,pre,x::rest,r,out,e,b,f,c,hx=>by
  have a: (pre++x::rest).length=pre.length+rest.length+1:=by simp;omega
  simp only[List.length_cons]at b;have g:=hx x (by simp);unfold Yt;rw[Zn (Zk (by rw[a];omega)),Zb (by rw[a];omega),Zcs,Zm (Zl (by omega)),Zb (by rw[a];omega),Zn (Zk (by omega)),Zm (by rfl)];unfold Zi5 W6;rw[Zb (by rw[a];omega),Zcs,Zb (by unfold Qo;simp;omega),Zt (m:=pre.length+1) (by omega) (by omega)];have d:=Qkz N (pre++ [x]) rest r (out++ [x]) (by simp;omega) (by omega) (by simp;omega) c (fun y i=>hx y (by simp[i]));rw[show(pre++ [x])++rest=pre++x::rest by simp,show((pre++ [x]).length:Int)=((pre.length+1:Nat):Int) by simp]at d;simp only[d];simp
theorem Qhi: ∀(N:Nat) (pre rest:List Zh) (r:Zh) (out:List Zh) (lo:Int),(pre++rest).length<=1048576->rest.length<N->out.length<=pre.length->r.1<r.2.1->rsB lo rest=true->
  Yt N (pre++rest) r out false (pre.length:Int)=some (out++Zhi rest r,())
 |0,_,_,_,_,_,_,h,_,_,_=>by omega
 |N+1,pre,[],r,out,lo,j,k,n,f,hx=>by
  simp only[List.append_nil]at j;unfold Yt;rw[Zm (by simp),Zn (by rfl),Zb (by unfold Qo;simp;omega)];rfl
 |N+1,pre,x::rest,r,out,lo,j,k,n,f,hx=>by
  have a: (pre++x::rest).length=pre.length+rest.length+1:=by simp;omega
  simp only[List.length_cons]at k;obtain⟨l,o,b⟩:=V7.1 hx;have l:=Qv.1 l;unfold Yt;rw[Zn (Zk (by rw[a];omega)),Zb (by rw[a];omega),Zcs];have g: (pre++ [x])++rest=pre++x::rest:=by simp
  have i: ((pre++ [x]).length:Int)=((pre.length+1:Nat):Int):=by simp
  by_cases d:x.2.1<r.1
  ·rw[Zn (Zk d),Zb (by rw[a];omega),Zb (by unfold Qo;simp;omega)];unfold W6;have c:=Qhi N (pre++ [x]) rest r (out++ [x]) _ (by simp;omega) (by omega) (by simp;omega) f b;rw[g,i]at c;rw[Zt (m:=pre.length+1) (by omega) (by omega)];simp only[c,Zhi,d,if_true];simp
  ·rw[Zm (Zl d),Zb (by rw[a];omega)];by_cases e:x.1>r.2.1
   ·rw[Zn (Zk e),Zn (by rfl),Zb (by unfold Qo;simp;omega)];unfold Zi5 W6;rw[Zb (by rw[a];omega),Zcs,Zb (by unfold Qo;simp;omega),Zt (m:=pre.length+1) (by omega) (by omega)];have c:=Qkz N (pre++ [x]) rest r (out++ [r]++ [x]) (by simp;omega) (by omega) (by simp;omega) f (fun y p=>by
     have:=Zsn b y p;have:=Qv.1 this.2;omega)
    rw[g,i]at c;simp only[c,Zhi,d,e,if_true,if_false];simp
   ·rw[Zm (Zl e),Zb (by rw[a];omega),Zb (by rw[a];omega)];unfold W6;have c:=Qhi N (pre++ [x]) rest (min r.1 x.1,(max r.2.1 x.2.1,r.2.2)) out _ (by simp;omega) (by omega) (by simp;omega) (by simp only;omega) b;rw[g,i]at c;rw[Zt (m:=pre.length+1) (by omega) (by omega)];simp only[c,Zhi,d,e,if_false]
theorem Zn8(l:List Zh)(r:Zh)(hl:l.length<=1048576):Zal l r=some (if rsB (-1) l=true/\Zf6 r=true then Zhi l r else l,()):=by
 unfold Zal;rw[Zbq l hl,Obs];cases h1:rsB (-1) l
 ·simp[Qat l hl]
 ·simp only[Ont,Ocf,Z0z,Obs,Bool.false_or];cases h2:Zf6 r
  ·simp[Qat l hl]
  ·have a:=Qv.1 h2;have:=Qhi (Zfz l r [] false 0) [] l r [] (-1) (by simpa using hl) (by unfold Zfz;omega) (by simp) (by omega) h1;simp only[Ont,Ocf,and_self,if_true];exact this
def RL(E:Int)(l:List Zh):Prop:=rsB (-1) l=true/\ ∀x∈l,x.2.1<=E
theorem Z51: ∀{l:List Zh} {lo:Int} {r:Zh},rsB lo l=true->Zf6 r=true->lo<r.1->rsB lo (Zhi l r)=true
 | [],lo,r,_,b,c=>by simp[Zhi,rsB,b,c]
 |x::l,lo,r,f,b,c=>by
  obtain⟨d,e,a⟩:=V7.1 f;have hx:=Qv.1 d;have g:=Qv.1 b;unfold Zhi;split
  ·exact V7.2 ⟨d,e,Z51 a b (by omega)⟩
  ·split
   ·exact V7.2 ⟨b,c,V7.2 ⟨d,by omega,a⟩⟩
   ·exact Z51 (Zy5 a (by omega)) (Qv.2 (by simp only;omega)) (by simp only;omega)
theorem Qhh{E:Int}: ∀{l:List Zh} {r:Zh},(∀x∈l,x.2.1<=E)->r.2.1<=E-> ∀x∈Zhi l r,x.2.1<=E
 | [],r,_,h,x,hx=>by simp[Zhi]at hx;subst hx;exact h
 |y::l,r,b,h,x,hx=>by
  have c:=b y (by simp);have a: ∀x∈l,x.2.1<=E:=fun x hx=>b x (by simp[hx]);unfold Zhi at hx;split at hx
  ·rcases List.mem_cons.1 hx with rfl|hx
   ·exact c
   ·exact Qhh a h x hx
  ·split at hx
   ·rcases List.mem_cons.1 hx with rfl|hx
    ·exact h
    ·exact b x hx
   ·exact Qhh a (by simp only;omega) x hx
theorem Qc2: ∀{l:List Zh} {r:Zh},(Zhi l r).length<=l.length+1
 | [],r=>by simp[Zhi]
 |y::l,r=>by
  unfold Zhi;split
  ·have:=Qc2 (l:=l) (r:=r);simp only[List.length_cons];omega
  ·split
   ·simp
   ·have:=Qc2 (l:=l) (r:=(min r.1 y.1,max r.2.1 y.2.1,()));simp only[List.length_cons];omega
theorem Zzv{E:Int}{l:List Zh}{r:Zh}(h:RL E l)(hr:r.2.1<=E):RL E (if rsB (-1) l=true/\Zf6 r=true then Zhi l r else l):=by
 split
 ·rename_i a;have:=Qv.1 a.2;exact⟨Z51 a.1 a.2 (by omega),Qhh h.2 hr⟩
 ·exact h
theorem Qn5{E E':Int}{l:List Zh}(h:RL E l)(he:E<=E'):RL E' l:=⟨h.1,fun x hx=>Int.le_trans (h.2 x hx) he⟩
theorem Xbq{E:Int}{l:List Zh}(h:RL E l)(hE: -1<=E): (l.length:Int)<=E+1:=by
 have:=Q3f h.1 h.2 hE;omega
def Q55(r x:Zh):List Zh:=(if x.1<min x.2.1 r.1 then[(x.1,min x.2.1 r.1,())]else[])++ (if max x.1 r.2.1<x.2.1 then[(max x.1 r.2.1,x.2.1,())]else[])
def Qj3(r:Zh):List Zh->List Zh| []=>[]|x::l=>Q55 r x++Qj3 r l
theorem Qj4: ∀(N:Nat) (pre rest:List Zh) (r:Zh) (out:List Zh),(pre++rest).length<=1048576->rest.length<N->out.length<=2*pre.length->
  Jo N (pre++rest) r out (pre.length:Int)=some (out++Qj3 r rest,())
 |0,_,_,_,_,_,h,_=>by omega
 |N+1,pre,[],r,out,j,d,k=>by
  unfold Jo;rw[Zm (by simp)];simp[Qj3]
 |N+1,pre,x::rest,r,out,j,d,k=>by
  have b: (pre++x::rest).length=pre.length+rest.length+1:=by simp;omega
  simp only[List.length_cons]at d;have g: ∀{ρ:Type} (m:Option ρ),Ze (0<=(pre.length:Int)/\(pre.length:Int)< ((pre++x::rest).length:Int)) m=m:=fun m=>Zb (by rw[b];omega);have e: (pre++ [x])++rest=pre++x::rest:=by simp
  have f: ((pre++ [x]).length:Int)=((pre.length+1:Nat):Int):=by simp
  have i: ∀a:List Zh,a.length<=2*pre.length+1->Zd6 (fun v=>Jo N v.1 v.2.1 v.2.2.1 v.2.2.2.1) (pre++x::rest) r a (pre.length:Int)=some (a++ (if max x.1 r.2.1<x.2.1 then[(max x.1 r.2.1,x.2.1,())]else[])++Qj3 r rest,()):=by
   intro a l;unfold Zd6 Zic;simp only[g,Zcs];rw[Zt (m:=pre.length+1) (by omega) (by omega)];by_cases h:max x.1 r.2.1<x.2.1
   ·rw[Zn (Zk h),if_pos h,Zb (by unfold Qo;simp;omega)];have c:=Qj4 N (pre++ [x]) rest r (a++ [(max x.1 r.2.1,x.2.1,())]) (by simp;omega) (by omega) (by simp;omega);rw[e,f]at c;simp only[c]
   ·rw[Zm (Zl h),if_neg h];have c:=Qj4 N (pre++ [x]) rest r a (by simp;omega) (by omega) (by simp;omega);rw[e,f]at c;simp only[c];simp
  unfold Jo;rw[Zn (Zk (by rw[b];omega))];simp only[g,Zcs];by_cases h:x.1<min x.2.1 r.1
  ·rw[Zn (Zk h),Zb (by unfold Qo;simp;omega),i _ (by simp;omega)];simp[Qj3,Q55,h]
  ·rw[Zm (Zl h),i _ (by omega)];simp[Qj3,Q55,h]
theorem Z41(l:List Zh)(r:Zh)(hl:l.length<=1048576):Zev l r=some (if rsB (-1) l=true/\Zf6 r=true then Qj3 r l else l,()):=by
 unfold Zev;rw[Zbq l hl,Obs];cases h1:rsB (-1) l
 ·simp[Qat l hl]
 ·simp only[Ont,Ocf,Z0z,Obs,Bool.false_or];cases h2:Zf6 r
  ·simp[Qat l hl]
  ·have:=Qj4 (Zcq l r [] 0) [] l r [] (by simpa using hl) (by unfold Zcq;omega) (by simp);simp only[Ont,Ocf,and_self,if_true];exact this
theorem Q3b{r:Zh}(hr:Zf6 r=true): ∀{l:List Zh} {lo:Int},rsB lo l=true->rsB lo (Qj3 r l)=true
 | [],lo,_=>rfl
 |x::l,lo,d=>by
  obtain⟨e,f,a⟩:=V7.1 d;have hx:=Qv.1 e;have hr:=Qv.1 hr;have b:=fun c h=>Q3b (r:=r) (Qv.2 hr) (l:=l) (lo:=c) (Zy5 a h);unfold Qj3 Q55;split<;>split
  ·simp only[List.cons_append,List.nil_append];exact V7.2 ⟨Qv.2 (by simp only;omega),by simp only;omega,V7.2 ⟨Qv.2 (by simp only;omega),by simp only;omega,b _ (by simp only;omega)⟩⟩
  ·simp only[List.cons_append,List.nil_append];exact V7.2 ⟨Qv.2 (by simp only;omega),by simp only;omega,b _ (by simp only;omega)⟩
  ·simp only[List.cons_append,List.nil_append];exact V7.2 ⟨Qv.2 (by simp only;omega),by simp only;omega,b _ (by simp only;omega)⟩
  ·exact b lo (by omega)
theorem Quy{E:Int}{r:Zh}: ∀{l:List Zh},(∀x∈l,x.2.1<=E)-> ∀x∈Qj3 r l,x.2.1<=E
 | [],_,x,hx=>by simp[Qj3]at hx
 |y::l,a,x,hx=>by
  have b:=a y (by simp);unfold Qj3 Q55 at hx;simp only[List.mem_append]at hx;rcases hx with(hx|hx)|hx
  ·split at hx
   ·simp only[List.mem_singleton]at hx;subst hx;simp only;omega
   ·cases hx
  ·split at hx
   ·simp only[List.mem_singleton]at hx;subst hx;exact b
   ·cases hx
  ·exact Quy (fun x hx=>a x (by simp[hx])) x hx
theorem Qzt{E:Int}{l:List Zh}{r:Zh}(h:RL E l):RL E (if rsB (-1) l=true/\Zf6 r=true then Qj3 r l else l):=by
 split
 ·rename_i a;exact⟨Q3b a.2 a.1,Quy h.2⟩
 ·exact h
def Qhn(a b:Zh):List Zh:=if max a.1 b.1<min a.2.1 b.2.1 then[(max a.1 b.1,min a.2.1 b.2.1,())]else[]
theorem Z9m(K1: (List Zh×List Zh×List Zh×Int×Unit)->Option (List Zh×Unit))(a:List Zh)(i:Nat)(hi:i<a.length): ∀(N:Nat) (pre rest:List Zh) (out:List Zh),(pre++rest).length<=1000->rest.length<N->out.length+rest.length<=10000000000->
  W8 K1 N a (pre++rest) out (i:Int) (pre.length:Int)=K1 (a,pre++rest,out++rest.flatMap (Qhn (a.getD i Zz)),IntKind.i64.wrap ((i:Int)+1),())
 |0,_,_,_,_,h,_=>by omega
 |N+1,pre,[],out,l,e,f=>by
  unfold W8;rw[Zm (by simp)];simp
 |N+1,pre,x::rest,out,l,e,f=>by
  have b: (pre++x::rest).length=pre.length+rest.length+1:=by simp;omega
  simp only[List.length_cons]at e f;have g: ∀{ρ:Type} (m:Option ρ),Ze (0<=(pre.length:Int)/\(pre.length:Int)< ((pre++x::rest).length:Int)) m=m:=fun m=>Zb (by rw[b];omega);have n: ∀{ρ:Type} (m:Option ρ),Ze (0<=(i:Int)/\(i:Int)< (a.length:Int)) m=m:=fun m=>Zb (by omega);have j: (pre++ [x])++rest=pre++x::rest:=by simp
  have k: ((pre++ [x]).length:Int)=((pre.length+1:Nat):Int):=by simp
  unfold W8;rw[Zn (Zk (by rw[b];omega))];simp only[g,n,Zcs,Kj];rw[show(i:Int).toNat=i from rfl];unfold Zmn Zg2;simp only;rw[Zt (m:=pre.length+1) (by omega) (by omega)];by_cases h:max (a.getD i Zz).1 x.1<min (a.getD i Zz).2.1 x.2.1
  ·rw[Zn (Zk h),Zb (by unfold Qo;simp;omega)];have c:=Z9m K1 a i hi N (pre++ [x]) rest (out++ [(max (a.getD i Zz).1 x.1,min (a.getD i Zz).2.1 x.2.1,())]) (by simp;omega) (by omega) (by simp;omega);rw[j,k]at c;have d:Qhn (a.getD i Zz) x=[(max (a.getD i Zz).1 x.1,min (a.getD i Zz).2.1 x.2.1,())]:=if_pos h;rw[c,List.flatMap_cons,d,List.append_assoc]
  ·rw[Zm (Zl h)];have c:=Z9m K1 a i hi N (pre++ [x]) rest out (by simp;omega) (by omega) (by omega);rw[j,k]at c;have d:Qhn (a.getD i Zz) x=[]:=if_neg h;rw[c,List.flatMap_cons,d,List.nil_append]
theorem Qxr(a b:Zh): (Qhn a b).length<=1:=by unfold Qhn;split<;>simp
theorem Zgr{α β:Type}{f:α->List β}{k:Nat}(hf: ∀x,(f x).length<=k): ∀l:List α,(l.flatMap f).length<=k*l.length
 | []=>by simp
 |x::l=>by
  have:=Zgr hf l;have:=hf x;rw[List.flatMap_cons,List.length_append,List.length_cons,Nat.mul_succ];omega
theorem Qpb(b:List Zh)(hb:b.length<=1000): ∀(N:Nat) (pre rest:List Zh) (out:List Zh),(pre++rest).length<=1048576->rest.length<N->out.length<=1000*pre.length->
  J9 N (pre++rest) b out (pre.length:Int)=some (out++ (if rsB (-1) (pre++rest)=true/\rsB (-1) b=true then rest.flatMap fun a=>b.flatMap (Qhn a)else[]),())
 |0,_,_,_,_,h,_=>by omega
 |N+1,pre,[],out,f,d,g=>by
  unfold J9;simp
 |N+1,pre,x::rest,out,f,d,g=>by
  have c: (pre++x::rest).length=pre.length+rest.length+1:=by simp;omega
  simp only[List.length_cons]at d;unfold J9;have i:decide ((pre.length:Int)< ((pre++x::rest).length:Int))=true:=Zk (by rw[c];omega);rw[i,Zbq _ (by omega),Zbq b (by omega)];simp only[Oct,Obs,Ota];cases h1:rsB (-1) (pre++x::rest)
  ·simp
  cases h2:rsB (-1) b
  ·simp
  simp only[Oct,Obs,Bool.and_self,and_self,if_true];have hx: (pre++x::rest).getD pre.length Zz=x:=Zcs pre x rest Zz;have h:=Z9m (fun v=>J9 N v.1 v.2.1 v.2.2.1 v.2.2.2.1) (pre++x::rest) pre.length (by rw[c];omega) (Zbm (pre++x::rest) b out (pre.length:Int) 0) [] b out (by simpa using hb) (by unfold Zbm;omega) (by omega);refine Eq.trans h ?_;rw[hx,Zt (m:=pre.length+1) (by omega) (by omega)];have j:=Zgr (fun y=>Qxr x y) b;have e:=Qpb b hb N (pre++ [x]) rest (out++b.flatMap (Qhn x)) (by simp;omega) (by omega) (by rw[List.length_append,List.length_append];simp only[List.length_cons,List.length_nil];omega);rw[show(pre++ [x])++rest=pre++x::rest by simp,show((pre++ [x]).length:Int)=((pre.length+1:Nat):Int) by simp]at e;simp only[List.nil_append];rw[e,h1,h2];simp
theorem Zzz(a b:List Zh)(ha:a.length<=1048576)(hb:b.length<=1000):Zde a b=some (if rsB (-1) a=true/\rsB (-1) b=true then a.flatMap fun x=>b.flatMap (Qhn x)else[],()):=by
 have:=Qpb b hb (Zbl a b [] 0) [] a [] (by simpa using ha) (by unfold Zbl;omega) (by simp);simpa[Zde]using this
noncomputable def Zw8(r:Yv):Bool:=match Zad r with|some (b,_)=>b|none=>false
theorem Qlf(r:Yv): ∀(N i:Nat),r.2.2.2.1.length<=1048576->r.2.2.2.1.length-i<N->i<=r.2.2.2.1.length->
  ∃b,Zfn N r (i:Int)=some (b,())/\(b=true-> ∀j,i<=j->j<r.2.2.2.1.length->0<=r.2.2.2.1.getD j 0/\r.2.2.2.1.getD j 0<=255)
 |0,_,_,h,_=>by omega
 |N+1,i,c,m,n=>by
  unfold Zfn;by_cases h:i<r.2.2.2.1.length
  ·rw[Zn (Zk (by omega)),Zb (by omega),show(i:Int).toNat=i from rfl];have d:Z5 (r.2.2.2.1.getD i 0) 0 255=some (decide (r.2.2.2.1.getD i 0>=0)&&decide (r.2.2.2.1.getD i 0<=255),()):=rfl;rw[d,Obs,Zt h (by omega)];obtain⟨b,f,g⟩:=Qlf r N (i+1) c (by omega) (by omega);cases hc:decide (r.2.2.2.1.getD i 0>=0)&&decide (r.2.2.2.1.getD i 0<=255)
   ·exact⟨false,rfl,by simp⟩
   ·simp only[Oba,decide_eq_true_eq]at hc;refine⟨b,f,fun k j l a=> ?_⟩;by_cases e:j=i
    ·subst e;exact⟨hc.1,hc.2⟩
    ·exact g k j (by omega) a
  ·rw[Zm (Zl (by omega))];exact⟨true,rfl,fun _ j l a=>by omega⟩
theorem Z4c(r:Yv)(hl:r.2.2.2.1.length<=1048576):Zad r=some (Zw8 r,())/\(Zw8 r=true->(0<r.1/\r.1<=64)/\(r.2.2.2.1.length:Int)=r.1/\0<=r.2.1/\r.2.1<=r.2.2.1/\r.2.2.1-r.2.1<=r.1/\r.2.2.1<=4611686018427387903/\
  ∀j,j<r.2.2.2.1.length->0<=r.2.2.2.1.getD j 0/\r.2.2.2.1.getD j 0<=255):=by
 have d: ∃b,Zad r=some (b,())/\(b=true->(0<r.1/\r.1<=64)/\(r.2.2.2.1.length:Int)=r.1/\0<=r.2.1/\r.2.1<=r.2.2.1/\r.2.2.1-r.2.1<=r.1/\r.2.2.1<=4611686018427387903/\
   ∀j,j<r.2.2.2.1.length->0<=r.2.2.2.1.getD j 0/\r.2.2.2.1.getD j 0<=255):=by
  unfold Zad Vs;simp only[Obs];generalize h: (((decide (r.1>(0:Int)))&& (decide (r.1<=(64:Int))))&& ((bits .and .i64 r.1 (IntKind.i64.wrap (r.1- (1:Int))))==(0:Int)))=p;generalize g: ((((((!p)|| ((r.2.2.2.1.length:Int) !=r.1))|| (decide (r.2.1< (0:Int))))|| (decide (r.2.2.1<r.2.1)))|| (decide ((IntKind.i64.wrap (r.2.2.1-r.2.1))>r.1)))|| (decide (r.2.2.1>(4611686018427387903:Int))))=c;cases c
  ·simp only[Bool.or_eq_false_iff,Bool.not_eq_false',decide_eq_false_iff_not,bne_eq_false_iff_eq]at g;obtain⟨⟨⟨⟨⟨i,n⟩,o⟩,q⟩,k⟩,s⟩:=g;subst i;simp only[Oba,decide_eq_true_eq]at h;rw[Zr (by omega) (by omega)]at k;obtain⟨b,a,f⟩:=Qlf r (Vw r 0) 0 hl (by unfold Vw;omega) (by omega);refine⟨b,a,fun l=>⟨⟨by omega,by omega⟩,by omega,by omega,by omega,by omega,by omega,fun j m=>f l j (by omega) m⟩⟩
  ·exact⟨false,rfl,by simp⟩
 obtain⟨b,a,f⟩:=d;have e:Zw8 r=b:=by unfold Zw8;rw[a]
 rw[e];exact⟨a,f⟩
theorem Q0l(r:Yv)(hl:r.2.2.2.1.length<=1048576):Zp8 r=some (r,()):=by
 unfold Zp8;rw[Zb (by unfold Qo;simp;omega)];simp
theorem Qw9{x n:Int}(hx:0<=x)(hn:0<n):0<=Int.tmod x n/\Int.tmod x n<n:=by
 rw[Int.tmod_eq_emod_of_nonneg hx];exact⟨Int.emod_nonneg _ (by omega),Int.emod_lt_of_pos _ hn⟩
theorem Z50(d:List UInt8)(r t4:Yv)(hr:0<r.1)(hE:0<=r.2.2.1)(hd:d.length<=1048576)(n:Nat)(hE2:r.2.2.1+n<=4611686018427387903)(hn:n<=d.length):
  ∀(N i:Nat) (x:Yv),(x.2.2.2.1.length:Int)=r.1->n-i<N->i<=n->
   ∃cs,Zav N d r t4 x (n:Int) (i:Int)=some ((x.1,x.2.1,IntKind.i64.wrap (r.2.2.1+n),cs,x.2.2.2.2),(n:Int),())/\cs.length=x.2.2.2.1.length
 |0,_,_,_,h,_=>by omega
 |N+1,i,x,hx,c,e=>by
  unfold Zav;by_cases h:i<n
  ·have f:=Qw9 (x:=r.2.2.1+ (i:Int)) (n:=r.1) (by omega) hr;rw[Zn (Zk (by omega)),Zb (by omega),Zr (by omega) (by omega)];simp only;rw[Zb (by omega),Zb (by omega),Zt (m:=n) h (by omega)];obtain⟨cs,a,b⟩:=Z50 d r t4 hr hE hd n hE2 hn N (i+1) (x.1,(x.2.1,(x.2.2.1,(x.2.2.2.1.set (Int.tmod (r.2.2.1+ (i:Int)) r.1).toNat (IntKind.i64.wrap ((d.getD (i:Int).toNat 0).toNat:Int)),x.2.2.2.2)))) (by simp only[List.length_set];exact hx) (by omega) (by omega);exact⟨cs,a,by rw[b];simp only[List.length_set]⟩
  ·have:i=n:=by omega
   subst this;rw[Zm (Zl (by omega))];exact⟨x.2.2.2.1,rfl,rfl⟩
theorem Q5e(r:Yv)(d:List UInt8)(hl:r.2.2.2.1.length<=1048576)(hd:d.length<=1048576)(hE:0<=r.2.2.1)(hE2:r.2.2.1<=4611686018427387903):
  ∃cs,∃n:Nat,Zrj r d=some ((r.1,r.2.1,r.2.2.1+n,cs,()),(n:Int),())/\n<=d.length/\cs.length=r.2.2.2.1.length/\r.2.2.1+n<=4611686018427387903:=by
 obtain⟨a,b⟩:=Z4c r hl;unfold Zrj Z5r;rw[Q0l r hl,a];simp only[Obs];cases hb:Zw8 r
 ·simp only[Bool.not_false,Oct,Obs];rw[show min (0:Int) (d.length:Int)=0 by omega];refine⟨r.2.2.2.1,0,?_,by omega,rfl,by simpa using hE2⟩;show Zav 1 d r _ r 0 0=_;unfold Zav;rw[Zm (by decide)];rw[Zr (by omega) (by omega)];simp
 ·obtain⟨⟨c,i⟩,e,j,k,l,m,o⟩:=b hb;simp only[Ont,Ocf,Obs];rw[show IntKind.i64.wrap (r.2.2.1-r.2.1)=r.2.2.1-r.2.1 from Zr (by omega) (by omega),Zr (by omega) (by omega),Zr (by omega) (by omega)];obtain⟨n,f⟩: ∃n:Nat,min (min (r.1- (r.2.2.1-r.2.1)) (4611686018427387903-r.2.2.1)) (d.length:Int)=(n:Int):=⟨(min (min (r.1- (r.2.2.1-r.2.1)) (4611686018427387903-r.2.2.1)) (d.length:Int)).toNat,by omega⟩
  rw[f];obtain⟨cs,g,h⟩:=Z50 d r ((0:Int),((0:Int),((0:Int),(([]:List Int),())))) c hE hd n (by omega) (by omega) (Zed d r ((0:Int),((0:Int),((0:Int),(([]:List Int),())))) r (n:Int) 0) 0 r e (by unfold Zed;omega) (by omega);refine⟨cs,n,?_,by omega,h,by omega⟩;refine Eq.trans g ?_;rw[Zr (by omega) (by omega)]
theorem Q0k(n:Int): ∃s,Zj3 n=some (s,())/\s.length<=1:=by
 unfold Zj3 Znh;generalize bits .and .i64 n (255:Int)=m;rw[show Z5 1 1 7=some (true,())from rfl];simp only[Obs,Ont,Bool.false_or];by_cases h:m<0
 ·rw[Zn (Zk h)];exact⟨[],rfl,by simp⟩
 ·rw[Zm (Zl h)];show ∃s,Option.bind (Kf 2 m 1 [] 0) _=_/\_;unfold Kf;rw[Zn (by decide),Zb (by decide)];simp only;rw[Zb (by unfold Ka Qq;simp),Zb (by decide)];unfold Kf;rw[show IntKind.i64.wrap ((0:Int)+1)=1 from rfl,Zm (by decide)];cases decide (IntKind.i64.wrap (Int.tdiv m 256)>0)
  ·exact⟨_,rfl,by simp[Qq]⟩
  ·exact⟨_,rfl,by simp⟩
theorem Z9a(o n:Nat)(r:Yv)(hr:0<r.1)(hl: (r.2.2.2.1.length:Int)=r.1)(ho:o+n<=4611686018427387903)(hn:n<=64): ∀(N i:Nat) (s:List UInt8),n-i<N->i<=n->s.length<=i->
  ∃t,Zjl N (o:Int) (n:Int) r s (i:Int)=some (t,true,())/\t.length<=n
 |0,_,_,h,_,_=>by omega
 |N+1,i,s,b,c,d=>by
  unfold Zjl;by_cases h:i<n
  ·have e:=Qw9 (x:=(o:Int)+ (i:Int)) (n:=r.1) (by omega) hr;rw[Zn (Zk (by omega)),Zb (by omega),Zr (by omega) (by omega)];simp only;rw[Zb (by omega)];obtain⟨t,a,f⟩:=Q0k (r.2.2.2.1.getD (Int.tmod ((o:Int)+ (i:Int)) r.1).toNat 0);rw[a,Obs,Zb (by unfold Ka;simp only;omega),Zt (m:=n) h (by omega)];exact Z9a o n r hr hl ho hn N (i+1) (s++t) (by omega) (by omega) (by simp;omega)
  ·rw[Zm (Zl (by omega))];exact⟨s,rfl,by omega⟩
theorem Q7r(r:Yv)(o n:Int)(hl:r.2.2.2.1.length<=1048576): ∃t ok,Zsu r o n=some (t,ok,())/\(t.length:Int)<=max n 0/\t.length<=64:=by
 obtain⟨d,e⟩:=Z4c r hl;unfold Zsu;rw[d,Obs];generalize b: (((((!Zw8 r)|| (decide (o<r.2.1)))|| (decide (n< (0:Int))))|| (decide (o>r.2.2.1)))|| (decide (n>(IntKind.i64.wrap (r.2.2.1-o)))))=c;cases c
 ·simp only[Bool.or_eq_false_iff,Bool.not_eq_false',decide_eq_false_iff_not]at b;obtain⟨⟨⟨⟨f,k⟩,l⟩,m⟩,g⟩:=b;obtain⟨⟨h,p⟩,i,q,s,u,v,w⟩:=e f;rw[Zr (by omega) (by omega)]at g;obtain⟨o,rfl⟩:=Int.eq_ofNat_of_zero_le (a:=o) (by omega);obtain⟨n,rfl⟩:=Int.eq_ofNat_of_zero_le (a:=n) (by omega);obtain⟨t,j,x⟩:=Z9a o n r h i (by omega) (by omega) (Zf3 (o:Int) (n:Int) r [] 0) 0 [] (by unfold Zf3;omega) (by omega) (by simp);exact⟨t,true,j,by omega,by omega⟩
 ·exact⟨[],false,rfl,by simp;omega,by simp⟩
theorem Z8z(dt:Nat)(r t4:Yv)(hr:0<r.1)(hdt:dt<=4611686018427387903): ∀(N i:Nat) (x:Yv),(x.2.2.2.1.length:Int)=r.1->dt-i<N->i<=dt->
  ∃cs,Zi7 N (dt:Int) r t4 x (i:Int)=some ((x.1,(dt:Int),x.2.2.1,cs,x.2.2.2.2),true,())/\cs.length=x.2.2.2.1.length
 |0,_,_,_,h,_=>by omega
 |N+1,i,x,hx,c,d=>by
  unfold Zi7;by_cases h:i<dt
  ·have e:=Qw9 (x:=(i:Int)) (n:=r.1) (by omega) hr;rw[Zn (Zk (by omega)),Zb (by omega),Zb (by omega),Zt (m:=dt) h (by omega)];obtain⟨cs,a,b⟩:=Z8z dt r t4 hr hdt N (i+1) (x.1,(x.2.1,(x.2.2.1,(x.2.2.2.1.set (Int.tmod (i:Int) r.1).toNat (0:Int),x.2.2.2.2)))) (by simp only[List.length_set];exact hx) (by omega) (by omega);exact⟨cs,a,by rw[b];simp only[List.length_set]⟩
  ·have:i=dt:=by omega
   subst this;rw[Zm (Zl (by omega))];exact⟨x.2.2.2.1,rfl,rfl⟩
theorem Q6a(r:Yv)(dt:Int)(hl:r.2.2.2.1.length<=1048576): ∃cs b ok,Zoj r dt=some ((r.1,b,r.2.2.1,cs,()),ok,())/\cs.length=r.2.2.2.1.length:=by
 obtain⟨g,h⟩:=Z4c r hl;unfold Zoj;rw[Q0l r hl,g];simp only[Obs];generalize e: (((!Zw8 r)|| (decide (dt<r.2.1)))|| (decide (dt>r.2.2.1)))=c;cases c
 ·simp only[Bool.or_eq_false_iff,Bool.not_eq_false',decide_eq_false_iff_not]at e;obtain⟨⟨i,n⟩,o⟩:=e;obtain⟨⟨j,p⟩,k,q,s,t,u,v⟩:=h i;obtain⟨dt,rfl⟩:=Int.eq_ofNat_of_zero_le (a:=dt) (by omega);obtain⟨l,d⟩:=Int.eq_ofNat_of_zero_le (a:=r.2.1) (by omega);obtain⟨cs,f,m⟩:=Z8z dt r ((0:Int),((0:Int),((0:Int),(([]:List Int),())))) j (by omega) (Zf0 (dt:Int) r ((0:Int),((0:Int),((0:Int),(([]:List Int),())))) r r.2.1) l r k (by unfold Zf0;omega) (by omega);rw[<-d]at f;exact⟨cs,dt,true,f,m⟩
 ·exact⟨r.2.2.2.1,r.2.1,false,rfl,rfl⟩
def Z3t:List Zh->Int->Int| [],f=>f|x::l,f=>Z3t l (if x.1<=f/\f<x.2.1 then x.2.1 else f)
theorem Qub: ∀(N:Nat) (pre rest:List Zh) (f:Int),(pre++rest).length<=1048576->rest.length<N->Vo N (pre++rest) f (pre.length:Int)=some (Z3t rest f,())
 |0,_,_,_,_,h=>by omega
 |N+1,pre,[],f,d,c=>by
  unfold Vo;rw[Zm (by simp)];rfl
 |N+1,pre,x::rest,f,d,c=>by
  have a: (pre++x::rest).length=pre.length+rest.length+1:=by simp;omega
  simp only[List.length_cons]at c;have g: ∀{ρ:Type} (m:Option ρ),Ze (0<=(pre.length:Int)/\(pre.length:Int)< ((pre++x::rest).length:Int)) m=m:=fun m=>Zb (by rw[a];omega);have e: (pre++ [x])++rest=pre++x::rest:=by simp
  have i: ((pre++ [x]).length:Int)=((pre.length+1:Nat):Int):=by simp
  unfold Vo Zjc;rw[Zn (Zk (by rw[a];omega))];simp only[g,Zcs];rw[Zb (fun _=>by rw[a];omega),Zt (m:=pre.length+1) (by omega) (by omega)];have b:=fun f=>Qub N (pre++ [x]) rest f (by simp;omega) (by omega);simp only[e,i]at b;by_cases h:x.1<=f/\f<x.2.1
  ·rw[Zn (by simp;omega),b];simp only[Z3t];rw[if_pos h]
  ·rw[Zm (by rw[Bool.and_eq_false_iff,decide_eq_false_iff_not,decide_eq_false_iff_not];omega),b];simp only[Z3t];rw[if_neg h]
theorem Qet(l:List Zh)(f:Int)(hl:l.length<=1048576):Zhs l f=some (if rsB (-1) l=true/\0<=f then Z3t l f else-1,()):=by
 unfold Zhs;rw[Zbq l hl,Obs];cases h1:rsB (-1) l
 ·simp
 ·by_cases a:f<0
  ·rw[Zn (by simp[a]),if_neg (by omega)]
  ·rw[Zm (by simp;omega),if_pos ⟨rfl,by omega⟩];exact Qub _ [] l f (by simpa using hl) (by unfold Zlj;omega)
def Vt:List Zh->Int| []=>0|x::l=>(x.2.1-x.1)+Vt l
theorem Qxq: ∀(N:Nat) (pre rest:List Zh) (lo n:Int),(pre++rest).length<=1048576->rest.length<N->rsB lo rest=true->0<=n->n<=max lo 0->n<=4611686018427387903->Kv N (pre++rest) n (pre.length:Int)=some (n+Vt rest,())
 |0,_,_,_,_,_,h,_,_,_,_=>by omega
 |N+1,pre,[],lo,n,f,c,_,_,_,_=>by
  unfold Kv;rw[Zm (by simp)];simp[Vt]
 |N+1,pre,x::rest,lo,n,f,c,hx,j,k,l=>by
  have a: (pre++x::rest).length=pre.length+rest.length+1:=by simp;omega
  simp only[List.length_cons]at c;obtain⟨d,i,b⟩:=V7.1 hx;have d:=Qv.1 d;have g: ∀{ρ:Type} (m:Option ρ),Ze (0<=(pre.length:Int)/\(pre.length:Int)< ((pre++x::rest).length:Int)) m=m:=fun m=>Zb (by rw[a];omega);unfold Kv;rw[Zn (Zk (by rw[a];omega))];simp only[g,Zcs];rw[Zt (m:=pre.length+1) (by omega) (by omega),show IntKind.i64.wrap (n+x.2.1)=n+x.2.1 from Zr (by omega) (by omega),Zr (by omega) (by omega)];have e:=Qxq N (pre++ [x]) rest x.2.1 (n+x.2.1-x.1) (by simp;omega) (by omega) b (by omega) (by omega) (by omega);rw[show(pre++ [x])++rest=pre++x::rest by simp,show((pre++ [x]).length:Int)=((pre.length+1:Nat):Int) by simp]at e;rw[e];simp only[Vt];congr 2;omega
theorem Zd7(l:List Zh)(hl:l.length<=1048576):Vy l=some (if rsB (-1) l=true then Vt l else-1,()):=by
 unfold Vy;rw[Zbq l hl,Obs];cases h1:rsB (-1) l
 ·simp
 ·have:=Qxq (Zbn l 0 0) [] l (-1) 0 (by simpa using hl) (by unfold Zbn;omega) h1 (by omega) (by omega) (by omega);simp only[Ont,Ocf,if_true];refine Eq.trans this ?_;simp
abbrev Q4z(s:Zp):Int:=s.2.1.2.2.1
structure Zb4(K:Int)(s:Zp):Prop where
 cells:s.2.1.2.2.2.1.length<=64
 e0:0<=s.2.1.2.2.1
 eK:s.2.1.2.2.1<=K
 pend:RL s.2.1.2.2.1 s.2.2.1
 flight:RL s.2.1.2.2.1 s.2.2.2.1
 acked:RL s.2.1.2.2.1 s.2.2.2.2.1
theorem Zb4.mono{K K':Int}{s:Zp}(h:Zb4 K s)(hK:K<=K'):Zb4 K' s:={h with eK:=Int.le_trans h.eK hK}
theorem Q5{E K:Int}{l:List Zh}(h:RL E l)(h0:0<=E)(hE:E<=K)(hK:K<=1000000):l.length<=1000001:=by
 have:=Xbq h (by omega);omega
theorem Qh{α:Type}{l:List α}{i:Nat}{d:α}(h:i<l.length):l.getD i d∈l:=by
 rw[List.getD_eq_getElem?_getD,List.getElem?_eq_getElem h];exact List.getElem_mem h
theorem Zvh{K:Int}{s:Zp}(h:Zb4 K s)(hK:K<=1000000):Zc7 s=some (s,()):=by
 unfold Zc7;rw[Q0l _ (by have:=h.cells;omega),Qat _ (Nat.le_trans (Q5 h.pend h.e0 h.eK hK) (by omega)),Obs,Qat _ (Nat.le_trans (Q5 h.flight h.e0 h.eK hK) (by omega)),Obs,Obs,Qat _ (Nat.le_trans (Q5 h.acked h.e0 h.eK hK) (by omega)),Obs]
theorem Qe9(s:Zp): ∃k,Za0 s=some (k,()):=by
 unfold Za0;cases (s.2.2.2.2.2.2.1==(3:Int))&& (s.2.1.2.1==s.2.1.2.2.1)
 ·cases (decide (s.2.2.2.2.2.2.1>(1:Int)))|| ((s.2.2.2.2.2.2.1==(1:Int))&& (s.1==(2:Int)))
  ·cases (decide (s.2.2.2.2.2.2.2.1>(0:Int)))|| ((s.2.2.2.2.2.2.1==(1:Int))&& (s.1==(1:Int)))<;>exact⟨_,rfl⟩
  ·exact⟨_,rfl⟩
 ·exact⟨_,rfl⟩
theorem Qlj(s:Zp)(hl:s.2.2.2.2.1.length<=1048576): ∀(N i:Nat),s.2.2.2.2.1.length-i<N->i<=s.2.2.2.2.1.length-> ∃b,Zcf N s (i:Int)=some (b,())
 |0,_,h,_=>by omega
 |N+1,i,a,d=>by
  unfold Zcf;by_cases h:i<s.2.2.2.2.1.length
  ·rw[Zn (Zk (by omega)),Zb (by omega),Zt h (by omega)];cases decide ((s.2.2.2.2.1.getD (i:Int).toNat Zz).2.1>s.2.2.2.2.2.2.2.1)
   ·exact Qlj s hl N (i+1) (by omega) (by omega)
   ·exact⟨_,rfl⟩
  ·rw[Zm (Zl (by omega))];obtain⟨k,hk⟩:=Qe9 s;rw[hk];generalize ((!((s.2.2.2.2.2.2.1==(0:Int))==(s.2.2.2.2.2.1==(-1:Int))))|| ((s.2.2.2.2.2.1 !=(-1:Int))&& (s.2.2.2.2.2.1 !=s.2.1.2.2.1)))=c;cases c<;>exact⟨_,rfl⟩
theorem Qli(s:Zp)(hl:s.2.2.2.1.length<=1048576)(hl2:s.2.2.2.2.1.length<=1048576): ∀(N i:Nat),s.2.2.2.1.length-i<N->i<=s.2.2.2.1.length-> ∃b,Zce N s (i:Int)=some (b,())
 |0,_,h,_=>by omega
 |N+1,i,a,c=>by
  unfold Zce;by_cases h:i<s.2.2.2.1.length
  ·rw[Zn (Zk (by omega)),Zb (by omega),Zt h (by omega)];cases decide ((s.2.2.2.1.getD (i:Int).toNat Zz).2.1>s.2.2.2.2.2.2.2.1)
   ·exact Qli s hl hl2 N (i+1) (by omega) (by omega)
   ·exact⟨_,rfl⟩
  ·rw[Zm (Zl (by omega))];exact Qlj s hl2 _ 0 (by unfold Zf2;omega) (by omega)
theorem Qxp{l:List Zh}(h:Vt l≠0):0<l.length:=by
 cases l with
 |nil=>exact absurd rfl h
 |cons=>simp
theorem Qlh{K:Int}{s:Zp}(hs:Zb4 K s)(hK:K<=1000000): ∀(N i:Nat) (all:List Zh),RL (Q4z s) all->s.2.2.2.2.1.length-i<N->i<=s.2.2.2.2.1.length-> ∃b,Zcd N s all (i:Int)=some (b,())
 |0,_,_,_,h,_=>by omega
 |N+1,i,all,a,f,g=>by
  have j:=Q5 a hs.e0 hs.eK hK;have k:=Q5 hs.pend hs.e0 hs.eK hK;have m:=Q5 hs.flight hs.e0 hs.eK hK;have n:=Q5 hs.acked hs.e0 hs.eK hK;unfold Zcd;by_cases h:i<s.2.2.2.2.1.length
  ·rw[Zn (Zk (by omega)),Zb (by omega),Zt h (by omega),Zn8 _ _ (by omega),Obs];exact Qlh hs hK N (i+1) _ (Zzv a (hs.acked.2 _ (Qh h))) (by omega) (by omega)
  ·rw[Zm (Zl (by omega)),Zd7 _ (by omega),Zd7 _ (by omega),Zd7 _ (by omega),Zd7 _ (by omega),Qet _ _ (by omega)];simp only[Obs,a.1,if_true];rw[Zb (fun d e=>by
    simp only[Bool.or_eq_false_iff,bne_eq_false_iff_eq,decide_eq_true_eq]at d e;have:=Qxp (l:=all) (by omega);omega)]
   generalize o: ((Vt all !=s.2.1.2.2.1||_)||_)=c;cases c
   ·simp only[Ocf,Obs];generalize ((false||_)||_)=c2;cases c2
    ·exact Qli s (by omega) (by omega) _ 0 (by unfold Zb2;omega) (by omega)
    ·exact⟨_,rfl⟩
   ·simp only[Oct,Obs,Bool.true_or];exact⟨_,rfl⟩
theorem Qlg{K:Int}{s:Zp}(hs:Zb4 K s)(hK:K<=1000000): ∀(N i:Nat) (all:List Zh),RL (Q4z s) all->s.2.2.2.1.length-i<N->i<=s.2.2.2.1.length-> ∃b,Zcc N s all (i:Int)=some (b,())
 |0,_,_,_,h,_=>by omega
 |N+1,i,all,a,c,d=>by
  have e:=Q5 a hs.e0 hs.eK hK;have f:=Q5 hs.flight hs.e0 hs.eK hK;unfold Zcc;by_cases h:i<s.2.2.2.1.length
  ·rw[Zn (Zk (by omega)),Zb (by omega),Zt h (by omega),Zn8 _ _ (by omega),Obs];exact Qlg hs hK N (i+1) _ (Zzv a (hs.flight.2 _ (Qh h))) (by omega) (by omega)
  ·rw[Zm (Zl (by omega))];exact Qlh hs hK _ 0 all a (by unfold Zb1;omega) (by omega)
theorem Zis{K:Int}{s:Zp}(hs:Zb4 K s)(hK:K<=1000000): ∃b,Yb s=some (b,())/\(b=true->Zw8 s.2.1=true/\0<=s.2.2.2.2.2.2.2.1/\s.2.2.2.2.2.2.2.1<=s.2.1.2.2.1):=by
 have i:=Q5 hs.pend hs.e0 hs.eK hK;have j:=Q5 hs.flight hs.e0 hs.eK hK;have k:=Q5 hs.acked hs.e0 hs.eK hK;have c:=(Z4c s.2.1 (by have:=hs.cells;omega)).1;obtain⟨d,e⟩:=Qlg hs hK (Kc s s.2.2.1 0) 0 s.2.2.1 hs.pend (by unfold Kc;omega) (by omega);unfold Yb;rw[c,Zbq _ (by omega),Zbq _ (by omega),Zbq _ (by omega)];have f:Z5 s.2.2.2.2.2.2.2.1 0 s.2.1.2.2.1=some (decide (s.2.2.2.2.2.2.2.1>=0)&&decide (s.2.2.2.2.2.2.2.1<=s.2.1.2.2.1),()):=rfl;have g:Qj s.2.2.2.2.2.2.2.2.1=some (decide (s.2.2.2.2.2.2.2.2.1>=0)&&decide (s.2.2.2.2.2.2.2.2.1<=4611686018427387903),()):=rfl;have h:Z5 s.2.2.2.2.2.2.1 0 3=some (decide (s.2.2.2.2.2.2.1>=0)&&decide (s.2.2.2.2.2.2.1<=3),()):=rfl;simp only[hs.pend.1,hs.flight.1,hs.acked.1,f,g,h,Obs];cases Zw8 s.2.1
 ·exact⟨false,rfl,by simp⟩
 simp only[Ont,Ocf,Obs,Bool.false_or];by_cases a:0<=s.2.2.2.2.2.2.2.1/\s.2.2.2.2.2.2.2.1<=s.2.1.2.2.1
 ·simp only[show decide (s.2.2.2.2.2.2.2.1>=0)=true from Zk (by omega),show decide (s.2.2.2.2.2.2.2.1<=s.2.1.2.2.1)=true from Zk a.2,Bool.and_self,Ont,Ocf,Obs,Bool.false_or];generalize (decide (s.2.2.2.2.2.2.2.2.1>=0)&&decide (s.2.2.2.2.2.2.2.2.1<=4611686018427387903))=c1;generalize (decide (s.2.2.2.2.2.2.1>=0)&&decide (s.2.2.2.2.2.2.1<=3))=c2;cases c1
  ·exact⟨false,rfl,by simp⟩
  cases c2
  ·exact⟨false,rfl,by simp⟩
  simp only[Ont,Ocf,Obs,Bool.or_self];generalize ((s.1==(4:Int))|| (s.1==(5:Int)))=c3;cases c3
  ·exact⟨d,e,fun _=>⟨trivial,a.1,a.2⟩⟩
  ·exact⟨_,rfl,fun _=>⟨trivial,a.1,a.2⟩⟩
 ·have: (decide (s.2.2.2.2.2.2.2.1>=0)&&decide (s.2.2.2.2.2.2.2.1<=s.2.1.2.2.1))=false:=by
   rw[Bool.and_eq_false_iff,decide_eq_false_iff_not,decide_eq_false_iff_not];omega
  rw[this];exact⟨false,rfl,by simp⟩
theorem Qzr{K:Int}{s:Zp}(h:Zb4 K s)(d:List UInt8)(hK:K+d.length<=1000000):
  ∃x n,Znl s d=some (x,n,())/\Zb4 (K+d.length) x:=by
 have f:=h.e0;have i:=h.cells;have e:=h.eK;obtain⟨b,j,-⟩:=Zis h (by omega);have l:=Q5 h.pend f e (by omega);unfold Znl;rw[Zvh h (by omega),j];simp only[Obs];generalize (((!b)|| (decide (s.1>(1:Int))))|| (s.2.2.2.2.2.1 !=(-1:Int)))=c;cases c
 ·obtain⟨m,n,k,o,p,q⟩:=Q5e s.2.1 d (by omega) (by omega) f (by omega);rw[Ocf,k,Obs];unfold Zid;have a:RL (s.2.1.2.2.1+n) s.2.2.2.1/\RL (s.2.1.2.2.1+n) s.2.2.2.2.1:=⟨Qn5 h.flight (by omega),Qn5 h.acked (by omega)⟩
  by_cases g: (n:Int)>0
  ·rw[Zn (Zk g),Zn8 _ _ (by omega),Obs];exact⟨_,_,rfl,{cells:=(by simp only;omega),e0:=(by simp only;omega),eK:=(by simp only;omega),pend:=Zzv (Qn5 h.pend (by simp only;omega)) (by simp only;omega),flight:=a.1,acked:=a.2}⟩
  ·rw[Zm (Zl g)];exact⟨_,_,rfl,{cells:=(by simp only;omega),e0:=(by simp only;omega),eK:=(by simp only;omega),pend:=Qn5 h.pend (by simp only;omega),flight:=a.1,acked:=a.2}⟩
 ·exact⟨s,0,rfl,h.mono (by omega)⟩
theorem Qxo{K:Int}{s:Zp}(h:Zb4 K s)(hK:K<=1000000): ∃x ok,Zng s=some (x,ok,())/\Zb4 K x:=by
 obtain⟨b,a,-⟩:=Zis h hK;unfold Zng;rw[Zvh h hK,a];simp only[Obs];generalize (((!b)|| (decide (s.1>(1:Int))))|| (s.2.2.2.2.2.1 !=(-1:Int)))=c;cases c
 ·exact⟨_,_,rfl,{cells:=h.cells,e0:=h.e0,eK:=h.eK,pend:=h.pend,flight:=h.flight,acked:=h.acked}⟩
 ·exact⟨s,false,rfl,h⟩
theorem Ztl(E:Int):RL E []:=⟨rfl,by simp⟩
theorem Zw7{K:Int}{s:Zp}(h:Zb4 K s)(code:Int)(hK:K<=1000000): ∃x ok,Zae s code=some (x,ok,())/\Zb4 K x:=by
 have c:=h.cells;have d:=h.eK;obtain⟨b,e,f⟩:=Zis h hK;unfold Zae;rw[e];simp only[Obs];have g:Qj code=some (decide (code>=0)&&decide (code<=4611686018427387903),()):=rfl;rw[g];cases b
 ·simp only[Bool.not_false,Bool.true_or,Oct,Obs];rw[Zvh h hK];exact⟨s,false,rfl,h⟩
 ·obtain⟨i,a,j⟩:=f rfl;obtain⟨⟨k,l⟩,-⟩:=(Z4c s.2.1 (by omega)).2 i;simp only[Ont,Bool.false_or];generalize (decide (code>=0)&&decide (code<=4611686018427387903))=q;cases decide (s.1>2)
  ·cases q
   ·simp only[Ocf,Obs,Bool.not_false,Bool.false_or,Oct];rw[Zvh h hK];exact⟨s,false,rfl,h⟩
   ·simp only[Ocf,Obs,Ont,Bool.or_self,Kj,Zhj];rw[Zb (by unfold Qo;omega)];exact⟨_,_,rfl,{cells:=(by simp;omega),e0:=a,eK:=(by simp only;omega),pend:=Ztl _,flight:=Ztl _,acked:=Ztl _}⟩
  ·simp only[Oct,Obs,Bool.true_or];rw[Zvh h hK];exact⟨s,false,rfl,h⟩
theorem Q4m{K:Int}{s:Zp}(h:Zb4 K s)(most limit:Int)(hK:K<=1000000): ∃p ok,Zrg s most limit=some (p,ok,())/\p.2.1.length<=64:=by
 have i:=h.cells;obtain⟨b,j,m⟩:=Zis h hK;unfold Zrg;rw[j];simp only[Obs];have d: ∀t e r a,∃p ok,Zg6 s t e r a=some (p,ok,())/\p.2.1.length<=64:=by
  intro t e r a;unfold Zg6;by_cases f:a<=r.1
  ·rw[Zn (Zk f)];exact⟨_,_,rfl,Nat.zero_le _⟩
  ·rw[Zm (Zl f)];obtain⟨t,ok,k,n,l⟩:=Q7r s.2.1 r.1 (IntKind.i64.wrap (a-r.1)) (by omega);rw[k,Obs];exact⟨_,_,rfl,l⟩
 generalize ((!b)|| (decide (s.1>(2:Int))))=c;cases c
 ·simp only[Ocf];by_cases g: (s.2.2.1.length:Int)>0
  ·rw[Zn (Zk g),Zb (by omega)];generalize decide (min (s.2.2.1.getD (0:Int).toNat Zz).2.1 limit<=(s.2.2.1.getD (0:Int).toNat Zz).1)=c1;cases c1
   ·simp only[Ocf];generalize decide (most<IntKind.i64.wrap (min (s.2.2.1.getD (0:Int).toNat Zz).2.1 limit- (s.2.2.1.getD (0:Int).toNat Zz).1))=c2;cases c2
    ·exact d Zrn _ _ _
    ·exact d Zrn _ _ _
   ·exact⟨_,_,rfl,Nat.zero_le _⟩
  ·rw[Zm (Zl g)];cases s.2.2.2.2.2.2.1==(1:Int)
   ·exact⟨_,_,rfl,Nat.zero_le _⟩
   ·exact⟨_,_,rfl,Nat.zero_le _⟩
 ·exact⟨_,_,rfl,Nat.zero_le _⟩
theorem Qwh(s:Zp)(p:Ja)(hE0:0<=s.2.1.2.2.1)(hE:s.2.1.2.2.1<=1000000): ∃b,Zrm s p=some (b,())/\(b=true->0<=p.1/\p.1+ (p.2.1.length:Int)<=s.2.1.2.2.1):=by
 refine⟨_,rfl,fun a=> ?_⟩;simp only[Oba,decide_eq_true_eq]at a;obtain⟨⟨⟨d,e⟩,c⟩,-⟩:=a;rw[Zr (by omega) (by omega)]at c;omega
theorem Qwi{p:Ja}(h0:0<=p.1)(h1:p.1+ (p.2.1.length:Int)<=1000000):Znt p=some ((p.1,p.1+ (p.2.1.length:Int),()),()):=by
 unfold Znt;rw[Zr (by omega) (by omega)]
theorem Q42{K:Int}{s:Zp}(h:Zb4 K s)(p:Ja)(hK:K<=1000000): ∃x ok,Zrh s p=some (x,ok,())/\Zb4 K x:=by
 have d:=h.e0;have a:=h.eK;have r:=Q5 h.pend d a hK;have lf:=Q5 h.flight d a hK;obtain⟨b,i,u⟩:=Zis h hK;obtain⟨j,l,m⟩:=Qwh s p d (by omega);have e: ∀t x,Zb4 K x-> ∃y ok,Zg9 t x=some (y,ok,())/\Zb4 K y:=by
  intro t x hx;unfold Zg9;obtain⟨k,hk⟩:=Qe9 x;rw[hk];exact⟨_,_,rfl,{cells:=hx.cells,e0:=hx.e0,eK:=hx.eK,pend:=hx.pend,flight:=hx.flight,acked:=hx.acked}⟩
 have f: ∀t x,Zb4 K x-> ∃y ok,Zg8 p t x=some (y,ok,())/\Zb4 K y:=by
  intro t x hx;unfold Zg8;cases p.2.2.1
  ·exact e Za1 _ hx
  ·exact e Za1 _ {cells:=hx.cells,e0:=hx.e0,eK:=hx.eK,pend:=hx.pend,flight:=hx.flight,acked:=hx.acked}
 unfold Zrh;rw[Zvh h hK,i];simp only[Obs];generalize (((!b)|| (decide (s.1>(2:Int)))))=c0;cases c0
 ·simp only[Ocf,l,Obs,Bool.false_or];generalize g: (((!j)|| ((p.2.1==([]:List UInt8))&& (!p.2.2.1)))|| (p.2.2.1&& (s.2.2.2.2.2.2.1 !=(1:Int))))=c;cases c
  ·simp only[Bool.or_eq_false_iff,Bool.not_eq_false']at g;obtain⟨n,o⟩:=m g.1.1;rw[Ocf];cases p.2.1==([]:List UInt8)
   ·simp only[Bool.not_false,Oct];rw[Qwi n (by omega),Obs];rw[Zzz _ _ (by omega) (by simp),Obs];simp only;generalize (if rsB (-1) s.2.2.1=true/\rsB (-1) [((p.1,p.1+ (p.2.1.length:Int),()):Zh)]=true then List.flatMap (fun x=>List.flatMap (Qhn x) [((p.1,p.1+ (p.2.1.length:Int),()):Zh)]) s.2.2.1 else[])=cm;rw[Zb (fun q=>by simp only[bne_eq_false_iff_eq]at q;omega)];generalize ((cm.length:Int) !=1||_)=c3;cases c3
    ·rw[Ocf,Z41 _ _ (by omega),Obs,Zn8 _ _ (by omega),Obs];exact f Za1 _ {cells:=h.cells,e0:=h.e0,eK:=h.eK,pend:=Qzt h.pend,flight:=Zzv h.flight o,acked:=h.acked}
    ·exact⟨_,_,rfl,h⟩
   ·exact f Za1 _ h
  ·exact⟨_,_,rfl,h⟩
 ·exact⟨_,_,rfl,h⟩
theorem Qk6{E:Int}{a:List Zh}{r:Zh}{c:Prop}[Decidable c](h: ∀x∈a,x.2.1<=E): ∀y∈(if c then a.flatMap fun x=>[r].flatMap (Qhn x)else[]),y.2.1<=E:=by
 intro y b;split at b
 ·simp only[List.mem_flatMap,List.mem_singleton,exists_eq_left]at b;obtain⟨x,hx,b⟩:=b;unfold Qhn at b;split at b
  ·simp only[List.mem_singleton]at b;have:=h x hx;subst b;simp only;omega
  ·cases b
 ·cases b
theorem Qpc{a:List Zh}{r:Zh}{c:Prop}[Decidable c]: (if c then a.flatMap fun x=>[r].flatMap (Qhn x)else[]).length<=a.length:=by
 split
 ·have:=Zgr (f:=fun x=>[r].flatMap (Qhn x)) (k:=1) (fun x=>by simpa using Qxr x r) a;omega
 ·simp
theorem Zb4.lists{K:Int}{s:Zp}(h:Zb4 K s){f a:List Zh}(hf:RL s.2.1.2.2.1 f)(ha:RL s.2.1.2.2.1 a):Zb4 K (s.1,(s.2.1,(s.2.2.1,(f,(a,s.2.2.2.2.2))))):=
 {cells:=h.cells,e0:=h.e0,eK:=h.eK,pend:=h.pend,flight:=hf,acked:=ha}
theorem Qkw{K:Int}{s x:Zp}(hs:Zb4 K s)(hx:Zb4 K x)(he:x.2.1=s.2.1)(t:Zp)(hK:K<=1000000): ∃y,Zi3 s t x=some (y,())/\Zb4 K y:=by
 have a:=hs.cells;have f:=Q5 hx.acked hx.e0 hx.eK hK;unfold Zi3;simp only[Kj,Zhj];rw[Qet _ _ (by omega),Obs];obtain⟨c,b,g,d,h⟩:=Q6a s.2.1 (if rsB (-1) x.2.2.2.2.1=true/\0<=(0:Int)then Z3t x.2.2.2.2.1 0 else-1) (by omega);rw[d,Obs];unfold Znf;obtain⟨k,hk⟩:=Qe9 (x.1,((s.2.1.1,b,s.2.1.2.2.1,c,()),x.2.2));rw[hk,Obs];refine⟨_,rfl,?_⟩;have e:x.2.1.2.2.1=s.2.1.2.2.1:=by rw[he]
 exact {cells:=(by simp only;omega),e0:=hs.e0,eK:=hs.eK,pend:=(by have:=hx.pend;rw[e]at this;exact this),flight:=(by have:=hx.flight;rw[e]at this;exact this),acked:=(by have:=hx.acked;rw[e]at this;exact this)}
theorem Qkv{K:Int}{s x:Zp}(hs:Zb4 K s)(hx:Zb4 K x)(he:x.2.1=s.2.1)(p:Ja)(t:Zp)(hK:K<=1000000): ∃y,Zi2 s p t x=some (y,())/\Zb4 K y:=by
 unfold Zi2;cases p.2.2.1&& (s.2.2.2.2.2.2.1==(2:Int))
 ·exact Qkw hs hx he t hK
 ·exact Qkw hs (x:=(x.1,(x.2.1,(x.2.2.1,(x.2.2.2.1,(x.2.2.2.2.1,(x.2.2.2.2.2.1,((3:Int),x.2.2.2.2.2.2.2)))))))) {cells:=hx.cells,e0:=hx.e0,eK:=hx.eK,pend:=hx.pend,flight:=hx.flight,acked:=hx.acked} he t hK
theorem Qkx{K:Int}{s:Zp}(hs:Zb4 K s)(p:Ja)(t:Zp)(hK:K<=1000000)(c:List Zh)(hcl:c.length<=1048576)(hc: ∀y∈c,y.2.1<=s.2.1.2.2.1): ∀(N i:Nat) (x:Zp),Zb4 K x->x.2.1=s.2.1->c.length-i<N->i<=c.length->
  ∃y,Zi4 N s p t x c (i:Int)=some (y,())/\Zb4 K y
 |0,_,_,_,_,h,_=>by omega
 |N+1,i,x,hx,a,f,g=>by
  have lf:=Q5 hx.flight hx.e0 hx.eK hK;have j:=Q5 hx.acked hx.e0 hx.eK hK;unfold Zi4;by_cases h:i<c.length
  ·have b:=hc _ (Qh (d:=Zz) h);have e:x.2.1.2.2.1=s.2.1.2.2.1:=by rw[a]
   rw[Zn (Zk (by omega)),Zb (by omega),Z41 _ _ (by omega),Obs,Zb (by omega),Zn8 _ _ (by omega),Obs,Zt h (by omega)];exact Qkx hs p t hK c hcl hc N (i+1) _ (hx.lists (Qzt hx.flight) (Zzv hx.acked (by rw[e];exact b))) a (by omega) (by omega)
  ·rw[Zm (Zl (by omega))];exact Qkv hs hx a p t hK
theorem Q5j{K:Int}{s:Zp}(h:Zb4 K s)(p:Ja)(hK:K<=1000000): ∃x,Zsp s p=some (x,())/\Zb4 K x:=by
 have e:=h.e0;have d:=h.eK;have lf:=Q5 h.flight e d hK;obtain⟨b,f,m⟩:=Zis h hK;obtain⟨g,i,j⟩:=Qwh s p e (by omega);unfold Zsp;rw[Zvh h hK,f];simp only[Obs];generalize ((!b)|| (decide (s.1>(2:Int))))=c0;cases c0
 ·simp only[Ocf,i,Obs,Bool.false_or];cases g
  ·exact⟨_,rfl,h⟩
  ·obtain⟨k,n⟩:=j rfl;simp only[Ont,Ocf];cases p.2.1==([]:List UInt8)
   ·simp only[Bool.not_false,Oct];rw[Qwi k (by omega),Obs];rw[Zzz _ _ (by omega) (by simp),Obs];have o:=Qpc (a:=s.2.2.2.1) (r:=((p.1,p.1+ (p.2.1.length:Int),()):Zh)) (c:=rsB (-1) s.2.2.2.1=true/\rsB (-1) [((p.1,p.1+ (p.2.1.length:Int),()):Zh)]=true);have l:=Qk6 (a:=s.2.2.2.1) (r:=((p.1,p.1+ (p.2.1.length:Int),()):Zh)) (c:=rsB (-1) s.2.2.2.1=true/\rsB (-1) [((p.1,p.1+ (p.2.1.length:Int),()):Zh)]=true) h.flight.2;exact Qkx h p _ hK _ (by omega) l _ 0 s h rfl (by unfold Zli;simp only;omega) (by omega)
   ·exact Qkv h h rfl p _ hK
 ·exact⟨_,rfl,h⟩
theorem Qfc{K:Int}{s x:Zp}(hx:Zb4 K x)(p:Ja)(t:Zp): ∃y,Zg3 s p t x=some (y,())/\Zb4 K y:=by
 have a: ∀x,Zb4 K x-> ∃y,Zg4 t x=some (y,())/\Zb4 K y:=by
  intro x hx;unfold Zg4;obtain⟨k,hk⟩:=Qe9 x;rw[hk];exact⟨_,rfl,{cells:=hx.cells,e0:=hx.e0,eK:=hx.eK,pend:=hx.pend,flight:=hx.flight,acked:=hx.acked}⟩
 unfold Zg3;cases p.2.2.1&& (s.2.2.2.2.2.2.1==(2:Int))
 ·exact a _ hx
 ·exact a _ {cells:=hx.cells,e0:=hx.e0,eK:=hx.eK,pend:=hx.pend,flight:=hx.flight,acked:=hx.acked}
theorem Qfd{K:Int}{s:Zp}(p:Ja)(t:Zp)(hK:K<=1000000)(c:List Zh)(E:Int)(hcl:c.length<=1048576)(hc: ∀y∈c,y.2.1<=E): ∀(N i:Nat) (x:Zp),Zb4 K x->x.2.1.2.2.1=E->c.length-i<N->i<=c.length->
  ∃y,Zg5 N s p t x c (i:Int)=some (y,())/\Zb4 K y
 |0,_,_,_,_,h,_=>by omega
 |N+1,i,x,hx,a,e,f=>by
  have lf:=Q5 hx.flight hx.e0 hx.eK hK;have g:=Q5 hx.pend hx.e0 hx.eK hK;unfold Zg5;by_cases h:i<c.length
  ·have b:=hc _ (Qh (d:=Zz) h);rw[Zn (Zk (by omega)),Zb (by omega),Z41 _ _ (by omega),Obs,Zb (by omega),Zn8 _ _ (by omega),Obs,Zt h (by omega)];exact Qfd p t hK c E hcl hc N (i+1) _ {cells:=hx.cells,e0:=hx.e0,eK:=hx.eK,pend:=Zzv hx.pend (by rw[a];exact b),flight:=Qzt hx.flight,acked:=hx.acked} a (by omega) (by omega)
  ·rw[Zm (Zl (by omega))];exact Qfc hx p t
theorem Q4i{K:Int}{s:Zp}(h:Zb4 K s)(p:Ja)(hK:K<=1000000): ∃x,Zre s p=some (x,())/\Zb4 K x:=by
 have e:=h.e0;have d:=h.eK;have lf:=Q5 h.flight e d hK;obtain⟨b,f,m⟩:=Zis h hK;obtain⟨g,i,j⟩:=Qwh s p e (by omega);unfold Zre;rw[Zvh h hK,f];simp only[Obs];generalize ((!b)|| (decide (s.1>(2:Int))))=c0;cases c0
 ·simp only[Ocf,i,Obs,Bool.false_or];cases g
  ·exact⟨_,rfl,h⟩
  ·obtain⟨k,n⟩:=j rfl;simp only[Ont,Ocf];cases p.2.1==([]:List UInt8)
   ·simp only[Bool.not_false,Oct];rw[Qwi k (by omega),Obs];rw[Zzz _ _ (by omega) (by simp),Obs];have o:=Qpc (a:=s.2.2.2.1) (r:=((p.1,p.1+ (p.2.1.length:Int),()):Zh)) (c:=rsB (-1) s.2.2.2.1=true/\rsB (-1) [((p.1,p.1+ (p.2.1.length:Int),()):Zh)]=true);have l:=Qk6 (a:=s.2.2.2.1) (r:=((p.1,p.1+ (p.2.1.length:Int),()):Zh)) (c:=rsB (-1) s.2.2.2.1=true/\rsB (-1) [((p.1,p.1+ (p.2.1.length:Int),()):Zh)]=true) h.flight.2;exact Qfd p _ hK _ _ (by omega) l _ 0 s h rfl (by unfold Zki;simp only;omega) (by omega)
   ·exact Qfc h p _
 ·exact⟨_,rfl,h⟩
theorem Q5k{K:Int}{s:Zp}(h:Zb4 K s)(hK:K<=1000000): ∃x ok,Zsq s=some (x,ok,())/\Zb4 K x:=by
 obtain⟨b,a,d⟩:=Zis h hK;unfold Zsq;rw[Zvh h hK,a];simp only[Obs];generalize ((!b)|| (s.1 !=(4:Int)))=c;cases c
 ·exact⟨_,_,rfl,{cells:=h.cells,e0:=h.e0,eK:=h.eK,pend:=h.pend,flight:=h.flight,acked:=h.acked}⟩
 ·exact⟨_,_,rfl,h⟩
theorem Q53(c:Qb)(n:Int)(h:Y8 c): ∃b c',Zag c n=some ((b,()),(c',()))/\Y8 c':=by
 unfold Zag;obtain⟨x,e,a,d,-,-⟩:=Zry c n h;rw[a,Obs];exact⟨_,_,rfl,d⟩
theorem Qt7(c:Qb)(l:List (List UInt8))(h:Y8 c)(hl:0<l.length): ∃x c',Zp6 c l=some ((x,()),(c',()))/\Y8 c'/\x∈l:=by
 unfold Zp6;obtain⟨x,f,b,d,e,a⟩:=Zry c (l.length:Int) h;have a:=a (by omega);rw[b,Obs];simp only[];rw[Zb ⟨e,a⟩];refine⟨_,_,rfl,d,?_⟩;have hx:x.toNat<l.length:=by omega
 rw[List.getD_eq_getElem?_getD,List.getElem?_eq_getElem hx];exact List.getElem_mem hx
theorem Qph: ∀(N m:Nat) (c:Qb) (s:List UInt8),Y8 c->m<N->s.length+m<=1000000-> ∃t c',Zju N c s (m:Int)=some ((t,()),(c',()))/\Y8 c'/\t.length<=s.length+m
 |0,_,_,_,_,h,_=>by omega
 |N+1,0,c,s,a,_,_=>by
  unfold Zju;rw[Zm (by decide)];exact⟨s,c,rfl,a,by omega⟩
 |N+1,m+1,c,s,a,n,o=>by
  unfold Zju;rw[Zn (Zk (by omega))];obtain⟨x,b,d,f,hx⟩:=Qt7 c [([97]:List UInt8),([98]:List UInt8),([99]:List UInt8),([100]:List UInt8)] a (by simp);have g:x.length=1:=by simp only[List.mem_cons,List.not_mem_nil,or_false]at hx;rcases hx with rfl|rfl|rfl|rfl<;>rfl
  rw[d,Obs,Zb (by unfold Ka;simp only;omega)];have e:IntKind.i64.wrap (((m+1:Nat):Int)-1)=(m:Int):=by rw[Zr (by omega) (by omega)];omega
  rw[e];obtain⟨t,i,j,k,l⟩:=Qph N m b (s++x) f (by omega) (by simp;omega);exact⟨t,i,j,k,by simp at l;omega⟩
theorem Q52(c:Qb)(most:Nat)(h:Y8 c)(hm:most<=1000): ∃t c',Zj5 c (most:Int)=some ((t,()),(c',()))/\Y8 c'/\t.length<=most:=by
 unfold Zj5;obtain⟨x,b,d,e,f,a⟩:=Zry c (IntKind.i64.wrap ((most:Int)+1)) h;rw[d,Obs];rw[Zr (by omega) (by omega)]at a;have a:=a (by omega);obtain⟨m,rfl⟩:=Int.eq_ofNat_of_zero_le f;obtain⟨t,g,i,j,k⟩:=Qph (Zif b [] (m:Int)) m b [] e (by unfold Zif;omega) (by simp;omega);exact⟨t,g,i,j,by simp at k;omega⟩
def inR(n:Int)(l:List Zh):Prop:= ∃x∈l,x.1<=n/\n<x.2.1
theorem Qfi: ∀{l:List Zh} {r:Zh} {n:Int},inR n (Zhi l r)->inR n l\/(r.1<=n/\n<r.2.1)
 | [],r,n,⟨x,hx,h⟩=>by simp[Zhi]at hx;subst hx;exact .inr h
 |y::l,r,n,⟨x,hx,h⟩=>by
  have a:inR n l->inR n (y::l):=fun⟨z,b,c⟩=>⟨z,by simp[b],c⟩
  unfold Zhi at hx;split at hx
  ·rcases List.mem_cons.1 hx with rfl|hx
   ·exact .inl ⟨x,by simp,h⟩
   ·exact(Qfi ⟨x,hx,h⟩).imp a id
  ·split at hx
   ·rcases List.mem_cons.1 hx with rfl|hx
    ·exact .inr h
    ·exact .inl ⟨x,hx,h⟩
   ·rcases Qfi ⟨x,hx,h⟩with h'|h'
    ·exact .inl (a h')
    ·simp only at h';by_cases d:y.1<=n/\n<y.2.1
     ·exact .inl ⟨y,by simp,d⟩
     ·exact .inr (by omega)
theorem Qdc: ∀{l:List Zh} {r:Zh},(∀x∈l,x.1<=x.2.1)->r.1<=r.2.1->Vt (Zhi l r)<=Vt l+ (r.2.1-r.1)
 | [],r,_,_=>by simp[Zhi,Vt]
 |y::l,r,b,c=>by
  have a: ∀x∈l,x.1<=x.2.1:=fun x hx=>b x (by simp[hx]);have d:=b y (by simp);unfold Zhi;split
  ·have:=Qdc (l:=l) (r:=r) a c;simp only[Vt];omega
  ·split
   ·simp only[Vt];omega
   ·have:=Qdc (l:=l) (r:=(min r.1 y.1,max r.2.1 y.2.1,())) a (by simp only;omega);simp only[Vt]at this⊢;omega
def ckB:Int->List Z1->Bool|_,[]=>true|e,c::l=> !(((decide (c.1<=e))|| (c.2.1==([]:List UInt8)))|| (decide (c.1>(IntKind.i64.wrap ((4611686018427387903:Int)- (c.2.1.length:Int))))))&&ckB (IntKind.i64.wrap (c.1+ (c.2.1.length:Int))) l
def V6(n:Int):Bool:=decide (n>=0)&&decide (n<=4611686018427387903)
theorem K5(n:Int):Qj n=some (V6 n,()):=rfl
theorem Kx{n:Int}:V6 n=true↔0<=n/\n<=4611686018427387903:=by unfold V6;simp
def Znw(b:Zs):Bool:=ckB (IntKind.i64.wrap (b.1-1)) b.2.1&&V6 b.1
theorem Z84(b:Zs): ∀(N:Nat) (pre rest:List Z1) (e:Int),b.2.1=pre++rest->b.2.1.length<=1048576->rest.length<N->Zet N b e (pre.length:Int)=some (ckB e rest&&V6 b.1,())
 |0,_,_,_,_,_,h=>by omega
 |N+1,pre,[],e,a,d,f=>by
  unfold Zet;rw[Zm (by rw[a];simp),K5,Obs];simp[ckB]
 |N+1,pre,c::rest,e,a,d,f=>by
  have g:b.2.1.length=pre.length+rest.length+1:=by rw[a];simp;omega
  simp only[List.length_cons]at f;have j:b.2.1.getD (pre.length:Int).toNat Qf=c:=by rw[a];exact Zcs pre c rest Qf
  unfold Zet;rw[Zn (Zk (by omega)),Zb (by omega)];simp only[j];have i:=Z84 b N (pre++ [c]) rest (IntKind.i64.wrap (c.1+ (c.2.1.length:Int))) (by rw[a];simp) d (by omega);rw[show((pre++ [c]).length:Int)=((pre.length+1:Nat):Int) by simp]at i;rw[Zt (m:=pre.length+1) (by omega) (by omega),i];simp only[ckB];cases (((decide (c.1<=e))|| (c.2.1==([]:List UInt8)))|| (decide (c.1>(IntKind.i64.wrap ((4611686018427387903:Int)- (c.2.1.length:Int))))))<;>rfl
theorem Ze9(b:Zs)(hl:b.2.1.length<=1048576):Zek b=some (Znw b,()):=by
 unfold Zek;exact Z84 b _ [] b.2.1 _ rfl hl (by unfold Zlk;omega)
def rgC(c:Z1):Zh:=(c.1,c.1+ (c.2.1.length:Int),())
def Zf4:List Z1->Nat| []=>0|c::l=>c.2.1.length+Zf4 l
theorem Zxf: ∀{l:List Z1} {c:Z1},c∈l->c.2.1.length<=Zf4 l
 |x::l,c,h=>by
  rcases List.mem_cons.1 h with rfl|h
  ·simp[Zf4]
  ·have:=Zxf h;simp only[Zf4];omega
structure Ze1(K:Nat)(b:Zs):Prop where
 len:b.2.1.length<=K
 tot:Zf4 b.2.1<=K
theorem Ze1.mono{K K':Nat}{b:Zs}(h:Ze1 K b)(hK:K<=K'):Ze1 K' b:=⟨Nat.le_trans h.len hK,Nat.le_trans h.tot hK⟩
theorem Q5y: ∀{l:List Z1} {e:Int},Zf4 l<=1000000-> -1<=e->ckB e l=true->rsB e (l.map rgC)=true
 | [],_,_,_,_=>rfl
 |c::l,e,b,g,h=>by
  simp only[Zf4]at b;simp only[ckB,Oba,Bool.not_eq_true',Bool.or_eq_false_iff,decide_eq_false_iff_not,beq_eq_false_iff_ne]at h;obtain⟨⟨⟨i,d⟩,f⟩,a⟩:=h;rw[Zr (by omega) (by omega)]at f;rw[Zr (by omega) (by omega)]at a;have j:0<c.2.1.length:=List.length_pos_iff.2 d;rw[List.map_cons,V7];exact⟨Qv.2 (by simp only[rgC];omega),by simp only[rgC];omega,Q5y (by omega) (by simp only[rgC];omega) a⟩
theorem Qvp: ∀(l:List Z1),Vt (l.map rgC)=(Zf4 l:Int)
 | []=>rfl
 |c::l=>by
  have:=Qvp l;simp only[List.map_cons,Vt,Zf4,rgC,this];omega
theorem Z3a(b:Zs)(ht:Zf4 b.2.1<=1000000)(hb2: ∀c∈b.2.1,-1<=c.1/\c.1<=4611686018427387903): ∀(N:Nat) (pre rest:List Z1) (out:List Zh),b.2.1=pre++rest->b.2.1.length<=1048576->rest.length<N->out.length<=pre.length->Znw b=true->
  Ku N b out (pre.length:Int)=some (out++rest.map rgC,())
 |0,_,_,_,_,_,h,_,_=>by omega
 |N+1,pre,[],out,a,d,f,k,e=>by
  unfold Ku;have:decide ((pre.length:Int)< (b.2.1.length:Int))=false:=by rw[a];simp
  rw[this];simp only[Ocf,Obs,Bool.false_and,List.map_nil,List.append_nil]
 |N+1,pre,c::rest,out,a,d,f,k,e=>by
  have i:b.2.1.length=pre.length+rest.length+1:=by rw[a];simp;omega
  simp only[List.length_cons]at f;have n:b.2.1.getD (pre.length:Int).toNat Qf=c:=by rw[a];exact Zcs pre c rest Qf
  have g: ∀{ρ:Type} (m:Option ρ),Ze (0<=(pre.length:Int)/\(pre.length:Int)< (b.2.1.length:Int)) m=m:=fun m=>Zb (by omega);have q:=hb2 c (by rw[a];simp);have o:=Zxf (l:=b.2.1) (c:=c) (by rw[a];simp);unfold Ku;have p:decide ((pre.length:Int)< (b.2.1.length:Int))=true:=Zk (by omega);rw[p,Ze9 b d,e];simp only[Oct,Obs,Bool.and_self,g,n];rw[Zb (by unfold Qo;simp;omega),Zt (m:=pre.length+1) (by omega) (by omega),Zr (by omega) (by omega)];have j:=Z3a b ht hb2 N (pre++ [c]) rest (out++ [rgC c]) (by rw[a];simp) d (by omega) (by simp;omega) e;rw[show((pre++ [c]).length:Int)=((pre.length+1:Nat):Int) by simp]at j;refine Eq.trans j ?_;simp
theorem Zrx{b:Zs}(ht:Zf4 b.2.1<=1000000)(h:Znw b=true):0<=b.1/\b.1<=4611686018427387903/\rsB (b.1-1) (b.2.1.map rgC)=true:=by
 unfold Znw at h;simp only[Oba]at h;have a:=Kx.1 h.2;have c:=h.1;rw[Zr (by omega) (by omega)]at c;exact⟨a.1,a.2,Q5y ht (by omega) c⟩
theorem Qc7{K:Nat}{b:Zs}(hi:Ze1 K b)(hK:K<=1000000):Zlx b=some (if Znw b=true then b.2.1.map rgC else[],()):=by
 have g:=hi.len;have h:=hi.tot;unfold Zlx;cases hB:Znw b
 ·show Ku (_+1) b [] 0=_;unfold Ku;rw[Ze9 b (by omega),hB];cases decide ((0:Int)< (b.2.1.length:Int))<;>rfl
 ·obtain⟨i,j,d⟩:=Zrx (by omega) hB;have:=Z3a b (by omega) (fun c e=>by
   have a:=Zsn d (rgC c) (List.mem_map_of_mem e);have f:=Qv.1 a.2;simp only[rgC]at a f;omega) (Zbk b [] 0) [] b.2.1 [] rfl (by omega) (by unfold Zbk;omega) (by simp) hB
  refine Eq.trans this ?_;simp
theorem Qk2(b:Zs)(at_:Int)(h0:0<=at_)(h1:at_<=4611686018427387903)(ht:Zf4 b.2.1<=1000000)(hq: ∀c∈b.2.1,0<=c.1/\c.1<=4611686018427387903): ∀(N:Nat) (pre rest:List Z1),b.2.1=pre++rest->b.2.1.length<=1048576->rest.length<N->
  ∃v,Zcy N at_ b (pre.length:Int)=some (v,())/\(v<0-> ¬inR at_ (rest.map rgC))/\v<=255
 |0,_,_,_,_,h=>by omega
 |N+1,pre,[],d,e,f=>by
  unfold Zcy;rw[Zm (by rw[d];simp)];exact⟨-1,rfl,fun _ ⟨x,hx,_⟩=>by simp at hx,by omega⟩
 |N+1,pre,c::rest,d,e,f=>by
  have i:b.2.1.length=pre.length+rest.length+1:=by rw[d];simp;omega
  simp only[List.length_cons]at f;have n:b.2.1.getD (pre.length:Int).toNat Qf=c:=by rw[d];exact Zcs pre c rest Qf
  have g: ∀{ρ:Type} (m:Option ρ),Ze (0<=(pre.length:Int)/\(pre.length:Int)< (b.2.1.length:Int)) m=m:=fun m=>Zb (by omega);have s:=hq c (by rw[d];simp);have o:=Zxf (l:=b.2.1) (c:=c) (by rw[d];simp);unfold Zcy;rw[Zn (Zk (by omega))];simp only[g,n];rw[Zb (fun _=>by omega),Zb (fun _=>by omega),Zr (by omega) (by omega),Zk (by omega),Zk (by omega)];simp only[Ota];obtain⟨v,j,p,q⟩:=Qk2 b at_ h0 h1 ht hq N (pre++ [c]) rest (by rw[d];simp) e (by omega);rw[show((pre++ [c]).length:Int)=((pre.length+1:Nat):Int) by simp]at j;by_cases a:at_-c.1>=0/\at_-c.1< (c.2.1.length:Int)
  ·rw[Zk a.1,Zk a.2,Bool.and_self,Oct,Zb ⟨a.1,a.2⟩];have r: (c.2.1.getD (at_-c.1).toNat 0).toNat<256:=(c.2.1.getD (at_-c.1).toNat 0).toNat_lt;rw[Zr (by omega) (by omega)];exact⟨_,rfl,fun h=>by omega,by omega⟩
  ·rw[Zm (by rw[Bool.and_eq_false_iff,decide_eq_false_iff_not,decide_eq_false_iff_not];omega),Zt (m:=pre.length+1) (by omega) (by omega)];refine⟨v,j,fun hv ⟨x,hx,k⟩=> ?_,q⟩;rw[List.map_cons]at hx;rcases List.mem_cons.1 hx with rfl|hx
   ·simp only[rgC]at k;omega
   ·exact p hv ⟨x,hx,k⟩
theorem Xbv(b:Zs)(at_:Int)(h0:0<=at_)(h1:at_<=4611686018427387903)(ht:Zf4 b.2.1<=1000000)(hl:b.2.1.length<=1000000)(hq: ∀c∈b.2.1,0<=c.1/\c.1<=4611686018427387903):
  ∃v,Zp5 b at_=some (v,())/\(v<0-> ¬inR at_ (b.2.1.map rgC))/\v<=255:=by
 unfold Zp5;exact Qk2 b at_ h0 h1 ht hq _ [] b.2.1 rfl (by omega) (by unfold Zh4;omega)
theorem Q61{b:Zs}(ht:Zf4 b.2.1<=1000000)(hbl:b.2.1.length<=1000000)(hq: ∀c∈b.2.1,0<=c.1/\c.1<=4611686018427387903)(K1: (Int×List UInt8×Zs×Zs×Zs×List Zh×Int×Unit)->Option (Zs×Unit))(o:Int)(ho:0<=o/\o<=4611686018427387903)(d:List UInt8)(t x:Zs)(l:List Zh)(i:Nat)(hi:i<l.length)(r:Zh)(hr:l.getD i Zz=r)
  (h0:0<=r.1) (hH:r.2.1<=4611686018427387903) (hx:x.2.1.length<=1000000)
  (hin: ∀n,r.1<=n->n<r.2.1->inR n (b.2.1.map rgC)\/(o<=n/\n<o+d.length)):
  ∀(N m:Nat) (s:List UInt8),(m:Int)<=r.2.1-r.1->m<N->(s.length:Int)+m<=r.2.1-r.1->(r.2.1-r.1)<=2000000->
   ∃t',Xx K1 N o d b t x l (i:Int) s (r.2.1-m)=K1 (o,d,b,t,(x.1,(x.2.1++ [(r.1,(t',()))],x.2.2)),l,IntKind.i64.wrap ((i:Int)+1),())/\(t'.length:Int)<=r.2.1-r.1
 |0,_,_,_,h,_,_=>by omega
 |N+1,0,s,g,j,k,f=>by
  unfold Xx;rw[Zb (by omega),show(i:Int).toNat=i from rfl,hr,Zm (Zl (by omega)),Zb (by omega)];simp only;rw[Zb (by unfold Qo;simp;omega)];exact⟨s,rfl,by omega⟩
 |N+1,m+1,s,g,j,k,f=>by
  unfold Xx;rw[Zb (by omega),show(i:Int).toNat=i from rfl,hr,Zn (Zk (by omega))];obtain⟨v,p,q,w⟩:=Xbv b (r.2.1- ((m+1:Nat):Int)) (by omega) (by omega) ht hbl hq;rw[p,Obs];have a: ∀v,∃t',Wq K1 (fun v=>Xx K1 N v.1 v.2.1 v.2.2.1 v.2.2.2.1 v.2.2.2.2.1 v.2.2.2.2.2.1 v.2.2.2.2.2.2.1 v.2.2.2.2.2.2.2.1 v.2.2.2.2.2.2.2.2.1) o d b t x l (i:Int) s (r.2.1- ((m+1:Nat):Int)) v=K1 (o,d,b,t,(x.1,(x.2.1++ [(r.1,(t',()))],x.2.2)),l,IntKind.i64.wrap ((i:Int)+1),())/\(t'.length:Int)<=r.2.1-r.1:=by
   intro v;unfold Wq;obtain⟨y,u,z⟩:=Q0k v;rw[u,Obs,Zb (by unfold Ka;simp only;omega),Zr (by omega) (by omega)];have e:r.2.1- ((m+1:Nat):Int)+1=r.2.1- (m:Int):=by omega
   simp only[e];exact Q61 ht hbl hq K1 o ho d t x l i hi r hr h0 hH hx hin N m (s++y) (by omega) (by omega) (by simp;omega) f
  by_cases hv:v<0
  ·have:=(hin (r.2.1- ((m+1:Nat):Int)) (by omega) (by omega)).resolve_left (q hv);rw[Zn (Zk hv),Zb (by rw[Zr (by omega) (by omega)];omega)];exact a _
  ·rw[Zm (Zl hv)];exact a _
theorem Qsh: ∀(a b:List Z1),Zf4 (a++b)=Zf4 a+Zf4 b
 | [],b=>by simp[Zf4]
 |c::a,b=>by simp only[List.cons_append,Zf4,Qsh a b];omega
theorem Q3z: ∀{l:List Zh} {i:Nat},i<l.length->Vt (l.drop i)=((l.getD i Zz).2.1- (l.getD i Zz).1)+Vt (l.drop (i+1)):=by
 intro l i h;rw[Yl (d:=Zz) h];rfl
theorem Q60{b:Zs}(ht:Zf4 b.2.1<=1000000)(hbl:b.2.1.length<=1000000)(hq: ∀c∈b.2.1,0<=c.1/\c.1<=4611686018427387903)(o:Int)(ho:0<=o/\o<=4611686018427387903)(d:List UInt8)(t:Zs)(l:List Zh)
  (hl:l.length<=1000000) (hf: ∀r∈l,Zf6 r=true) (hc:Vt l<=2000000)
  (hin: ∀n,inR n l->inR n (b.2.1.map rgC)\/(o<=n/\n<o+d.length)) (M:Int) (hM:M<=4000000):
  ∀(N i:Nat) (x:Zs),l.length-i<N->i<=l.length->x.2.1.length<=i->(Zf4 x.2.1:Int)+Vt (l.drop i)<=M->
   ∃y,K7 N o d b t x l (i:Int)=some (y,())/\y.1=x.1/\y.2.1.length<=l.length/\(Zf4 y.2.1:Int)<=M
 |0,_,_,h,_,_,_=>by omega
 |N+1,i,x,H,I,hx,z=>by
  unfold K7;by_cases h:i<l.length
  ·have e:=Qh (d:=Zz) h;have g:=Qv.1 (hf _ e);have J:=Q3z h;have j: ∀{l:List Zh},(∀r∈l,Zf6 r=true)->0<=Vt l:=by
    intro l
    induction l with
    |nil=>intro _;simp[Vt]
    |cons r l p=>
     intro f;have:=Qv.1 (f r (by simp));have:=p fun r hr=>f r (by simp[hr]);simp only[Vt];omega
   have K:=j (l:=l.drop (i+1)) fun r hr=>hf r (List.mem_of_mem_drop hr);have k: (l.getD i Zz).2.1- (l.getD i Zz).1<=2000000:=by
    have s: ∀(l:List Zh),(∀r∈l,Zf6 r=true)-> ∀r∈l,r.2.1-r.1<=Vt l:=by
     intro l
     induction l with
     |nil=>intro _ r hr;cases hr
     |cons q l p=>
      intro f r hr;have hq:=Qv.1 (f q (by simp));have hl:=j (l:=l) fun r hr=>f r (by simp[hr]);simp only[Vt];rcases List.mem_cons.1 hr with rfl|hr
      ·omega
      ·have:=p (fun r hr=>f r (by simp[hr])) r hr;omega
    have:=s l hf _ e;omega
   rw[Zn (Zk (by omega)),Zb (by omega),show(i:Int).toNat=i from rfl];generalize hr:l.getD i Zz=r at*
   obtain⟨m,B⟩:=Int.eq_ofNat_of_zero_le (a:=r.2.1-r.1) (by omega);obtain⟨C,A,L⟩:=Q61 ht hbl hq (fun v=>K7 N v.1 v.2.1 v.2.2.1 v.2.2.2.1 v.2.2.2.2.1 v.2.2.2.2.2.1 v.2.2.2.2.2.2.1) o ho d t x l i h r hr g.1 g.2.2 (by omega)
    (fun n u w=>hin n ⟨r,e,u,w⟩) (J0 o d b t x l (i:Int) [] r.1) m [] (by omega) (by unfold J0;rw[show(i:Int).toNat=i from rfl,hr];omega) (by simp;omega) k
   rw[show r.2.1- (m:Int)=r.1 by omega]at A;rw[A,Zt h (by omega)];obtain⟨y,D,E,F,G⟩:=Q60 ht hbl hq o ho d t l hl hf hc hin M hM N (i+1) (x.1,(x.2.1++ [(r.1,(C,()))],x.2.2)) (by omega) (by omega) (by simp;omega) (by
    simp only[Qsh,Zf4];omega)
   exact⟨y,D,E,F,G⟩
  ·rw[Zm (Zl (by omega))];have:i=l.length:=by omega
   subst this;rw[List.drop_length]at z;exact⟨x,rfl,rfl,hx,by simp[Vt]at z;omega⟩
theorem Zvg{K:Nat}{b:Zs}(h:Ze1 K b)(hK:K<=1000000):Zj6 b=some (b,()):=by
 have:=h.len;unfold Zj6;rw[Zb (by unfold Qo;simp;omega)];simp
theorem Qq4{K:Nat}{b:Zs}(h:Ze1 K b)(o:Int)(d:List UInt8)(hK:K+d.length+1<=1000000): ∃y,Zgi b o d=some (y,())/\Ze1 (K+d.length+1) y:=by
 have C:=h.len;have D:=h.tot;unfold Zgi;rw[Ze9 b (by omega),Obs];generalize i: ((((!Znw b)|| (d==([]:List UInt8)))|| (decide (o< (0:Int))))|| (decide (o>(IntKind.i64.wrap ((4611686018427387903:Int)- (d.length:Int))))))=c;cases c
 ·simp only[Bool.or_eq_false_iff,Bool.not_eq_false',decide_eq_false_iff_not]at i;obtain⟨⟨⟨p,E⟩,F⟩,u⟩:=i;rw[Zr (by omega) (by omega)]at u;obtain⟨G,H,q⟩:=Zrx (by omega) p;simp only[Ocf];rw[Zr (by omega) (by omega)];by_cases s:max o b.1>=o+ (d.length:Int)
  ·rw[Zn (Zk s),Zvg h (by omega)];exact⟨b,rfl,h.mono (by omega)⟩
  ·rw[Zm (Zl s),Qc7 h (by omega),Obs,p];simp only[if_true];have j: (b.2.1.map rgC).length<=1048576:=by rw[List.length_map];omega
   rw[Zn8 _ _ j,Obs];have a:rsB (-1) (b.2.1.map rgC)=true:=Zy5 q (by omega);have e:Zf6 (max o b.1,(o+ (d.length:Int),()))=true:=Qv.2 (by simp only;omega);simp only[a,e,and_self,if_true];have k:=Qc2 (l:=b.2.1.map rgC) (r:=((max o b.1,(o+ (d.length:Int),())):Zh));rw[List.length_map]at k;have f:=Qdc (l:=b.2.1.map rgC) (r:=((max o b.1,(o+ (d.length:Int),())):Zh)) (fun x hx=>by
    have:=Qv.1 (Zsn a x hx).2;omega) (by simp only;omega)
   rw[Qvp]at f;simp only at f;have g:=Z51 a e (by simp only;omega);have m: ∀c∈b.2.1,0<=c.1/\c.1<=4611686018427387903:=fun c i=>by
    have t:=Zsn q (rgC c) (List.mem_map_of_mem i);have v:=Qv.1 t.2;simp only[rgC]at t v;omega
   obtain⟨y,w,I,J,L⟩:=Q60 (b:=b) (by omega) (by omega) m o (by omega) d Qoo _ (by omega) (fun r z=>(Zsn g r z).2) (by omega) (fun n A=>(Qfi A).imp id fun B=>by first| (simp only at B;omega)|omega) (K+d.length) (by omega)
    (Jz o d b Qoo (b.1,([],())) (Zhi (b.2.1.map rgC) (max o b.1,(o+ (d.length:Int),()))) 0) 0 (b.1,([],())) (by unfold Jz;omega) (by omega) (by simp) (by simp only[Zf4,List.drop_zero];omega)
   exact⟨y,w,⟨by omega,by omega⟩⟩
 ·rw[Oct,Zvg h (by omega)];exact⟨b,rfl,h.mono (by omega)⟩
def Zcx(b:Zs):Int:=if Znw b=true/\b.2.1≠[]/\(b.2.1.getD 0 Qf).1=b.1 then((b.2.1.getD 0 Qf).2.1.length:Int)else 0
theorem Zpr(b:Zs)(hl:b.2.1.length<=1048576):Zbf b=some (Zcx b,()):=by
 unfold Zbf Zcx;rw[Ze9 b hl,Obs];obtain⟨a,l,_⟩:=b;cases hB:Znw (a,l,())
 ·simp[Ze]
 ·cases l with
  |nil=>simp[Ze]
  |cons c l=>
   simp only[Ont,Bool.false_or];have e: (((c::l).length:Int)==0)=false:=by rw[beq_eq_false_iff_ne,List.length_cons];omega
   rw[e,Zb (fun _=>by simp only[List.length_cons];omega)];simp only[Bool.false_or,show(0:Int).toNat=0 from rfl,List.getD_cons_zero,ne_eq,reduceCtorEq,not_false_eq_true,true_and];by_cases h:c.1=a
   ·rw[Zm (by simp[h]),Zb (by simp only[List.length_cons];omega),if_pos h]
   ·rw[Zn (by simp[h]),if_neg h]
theorem Q4v{K:Nat}{b:Zs}(h:Ze1 K b):0<=Zcx b/\Zcx b<=(K:Int)/\(Zcx b≠0->Znw b=true/\ ∃c l,b.2.1=c::l/\Zcx b=(c.2.1.length:Int)):=by
 unfold Zcx;split
 ·rename_i a;obtain⟨d,l,_⟩:=b;cases l with
  |nil=>exact absurd rfl a.2.1
  |cons c l=>
   have:=h.tot;simp only[Zf4]at this;simp only[List.getD_cons_zero];exact⟨by omega,by omega,fun _=>⟨a.1,c,l,rfl,rfl⟩⟩
 ·exact⟨by omega,by omega,fun h=>absurd rfl h⟩
theorem Q48{K:Nat}{b:Zs}(h:Ze1 K b)(hK:K<=1000000)(m:Int): ∃s y,Zri b m=some (s,y,())/\Ze1 K y/\s.length<=K:=by
 have a:=h.len;have d:=h.tot;obtain⟨q,r,j⟩:=Q4v h;unfold Zri;rw[Zpr b (by omega),Zvg h hK];simp only[Obs];generalize t:min (Zcx b) (max m 0)=n;by_cases e:n=0
 ·subst e;exact⟨[],b,rfl,h,by simp⟩
 ·rw[Zm (by simp[e])];obtain⟨k,c,l,f,u⟩:=j (by omega);obtain⟨o,p,v⟩:=Zrx (by omega) k;rw[Zr (by omega) (by omega)];obtain⟨z,w,_⟩:=b;simp only at f a d o p;subst f;simp only[List.length_cons]at a;simp only[Zf4]at d;simp only[show(0:Int).toNat=0 from rfl,List.getD_cons_zero,List.length_cons];rw[Zb (by omega)];by_cases g:n=(c.2.1.length:Int)
  ·rw[Zn (by simp[g]),Zb (by omega)];simp only[show(1:Int).toNat=1 from rfl,List.drop_succ_cons,List.drop_zero];have i:Ze1 K ((z+n,((l.take (((l.length+1:Nat):Int).toNat-1)),())):Zs):=by
    rw[show((l.length+1:Nat):Int).toNat-1=l.length by omega,List.take_length];exact⟨by show l.length<=K;omega,by show Zf4 l<=K;omega⟩
   rw[Zvg i hK];exact⟨_,_,rfl,i,by omega⟩
  ·rw[Zm (by simp[g]),Zb (by omega),Zb (by omega),Zb (by omega)];refine⟨_,_,rfl,⟨?_,?_⟩,?_⟩
   ·simp;omega
   ·simp only[List.set_cons_zero,Zf4,List.length_take,List.length_drop];omega
   ·simp only[List.length_take,List.length_drop];omega
theorem Q6d{K:Nat}{b:Zs}(h:Ze1 K b)(hK:K<=1000000): ∃v,Zmo b=some (v,()):=by
 have c:=h.len;unfold Zmo;rw[Ze9 b (by omega)];by_cases a:b.2.1=[]
 ·rw[a];exact⟨_,rfl⟩
 ·have:0<b.2.1.length:=List.length_pos_iff.2 a;have e: ((b.2.1.length:Int)==(0:Int))=false:=by rw[beq_eq_false_iff_ne];omega
  rw[e];simp only[Ocf,Obs,Bool.false_or];cases Znw b
  ·exact⟨_,rfl⟩
  ·simp only[Ont,Ocf];rw[Zr (by omega) (by omega),Zb (by omega)];exact⟨_,rfl⟩
theorem Kk{α:Type}(c:Bool)(a b:α): (bif c then some a else some b)=some (bif c then a else b):=by cases c<;>rfl
theorem Qvk{α β:Type}{P:α->β->Prop}{c:Bool}{m n:α}(h1: ∃b,P m b)(h2: ∃b,P n b): ∃b,P (bif c then m else n) b:=by cases c<;>assumption
theorem Zkb{K:Nat}{r:Zu}(h:Ze1 K r.2.1)(hK:K<=1000000): ∃b,Xc r=some (b,()):=by
 have a:=h.len;obtain⟨v,k⟩:=Q6d h hK;have j: ∀q,∃b,Yh r q=some (b,()):=fun q=>by unfold Yh;cases q<;>exact⟨_,rfl⟩
 unfold Xc;rw[Ze9 _ (by omega),Zpr _ (by omega),k];simp only[Obs,K5,Kk]
 repeat' refine Qvk (P:=fun m b=>m=some (b,())) ?_ ?_
 all_goals first|exact j _|exact⟨_,rfl⟩
theorem Qyr: ∃r,Znk=some (r,())/\Ze1 0 r.2.1:=⟨_,rfl,⟨by simp,by simp[Zf4]⟩⟩
theorem Qwg{K:Nat}{r:Zu}(h:Ze1 K r.2.1)(hK:K<=1000000):Zhg r=some (r,()):=by
 unfold Zhg;rw[Zvg h hK];rfl
theorem Q2x(r:Zu)(e:Int)(f:Bool): ∃v,Zkm r e f=some (v,()):=by
 unfold Zkm;rw[Kk];exact⟨(bif _ then((6:Int),())else(0,())).1,rfl⟩
theorem Z40{K:Nat}{r:Zu}(h:Ze1 K r.2.1)(o:Int)(d:List UInt8)(f:Bool)(hK:K+d.length+1<=1000000):
  ∃y v,Yu r o d f=some (y,v,())/\Ze1 (K+d.length+1) y.2.1:=by
 have j: ∀z t x,∃y v,Kg o d r z ((t,(r.2.1,x)):Zu)=some (y,v,())/\Ze1 (K+d.length+1) y.2.1:=by
  intro z t x;unfold Kg Zd5;obtain⟨b,g,a⟩:=Qq4 h o d hK;have e:b.2.1.length<=1048576:=by have:=a.len;omega
  simp only[g,Obs,Zpr b e,Kk];generalize ((((t,(r.2.1,x)):Zu).2.2.1 !=(-1:Int))&&_)=c;cases c
  ·exact⟨_,_,rfl,a⟩
  ·exact⟨_,_,rfl,a⟩
 unfold Yu;obtain⟨q,i⟩:=Zkb h (by omega);rw[Qwg h (by omega),i];simp only[Obs];generalize l: (((!q)|| (decide (o< (0:Int))))|| (decide (o>(IntKind.i64.wrap ((4611686018427387903:Int)- (d.length:Int))))))=c;cases c
 ·obtain⟨v,k⟩:=Q2x r (IntKind.i64.wrap (o+ (d.length:Int))) f;rw[Ocf,k,Obs];generalize ((v !=(0:Int))|| (decide (r.1>(1:Int))))=c;cases c
  ·cases f
   ·exact j _ _ _
   ·exact j _ _ _
  ·exact⟨_,_,rfl,h.mono (by omega)⟩
 ·exact⟨_,_,rfl,h.mono (by omega)⟩
theorem Z0y{K:Nat}{r:Zu}(h:Ze1 K r.2.1)(hK:K<=1000000)(c f:Int):
  ∃y v,Ju r c f=some (y,v,())/\Ze1 K y.2.1:=by
 unfold Ju;obtain⟨q,a⟩:=Zkb h hK;obtain⟨v,b⟩:=Q2x r f true;rw[Qwg h hK,a,b];simp only[Obs,K5,Kk];generalize ((_||_)||_:Bool)=x;cases x
 ·generalize ((_||_):Bool)=x;cases x
  ·exact⟨_,_,rfl,⟨by simp,by simp[Zf4]⟩⟩
  ·exact⟨_,_,rfl,h⟩
 ·exact⟨_,_,rfl,h⟩
theorem Qw2{K:Nat}{r:Zu}(h:Ze1 K r.2.1)(hK:K<=1000000)(m:Int):
  ∃s y,Zl1 r m=some ((s,y,()),())/\Ze1 K y.2.1/\s.length<=K:=by
 unfold Zl1;obtain⟨q,d⟩:=Zkb h hK;obtain⟨s,b,e,a,c⟩:=Q48 h hK m;rw[Qwg h hK,d,e];simp only[Obs];cases q
 ·exact⟨_,_,rfl,h,by simp⟩
 ·simp only[Ont,Ocf];cases r.1==(4:Int)
  ·rw[Ocf];unfold Zg7;generalize ((_&&_):Bool)=x;cases x
   ·exact⟨_,_,rfl,a,c⟩
   ·exact⟨_,_,rfl,a,c⟩
  ·exact⟨_,_,rfl,h,by simp⟩
theorem Zws(n a b:Int):Z5 n a b=some (decide (n>=a)&&decide (n<=b),()):=rfl
theorem Qyx(n:Int): ∃b,Vs n=some (b,()):=⟨_,rfl⟩
theorem Z0j(c:Zgp): ∃b,Vz c=some (b,()):=by
 obtain⟨b,h⟩:=Qyx c.1;unfold Vz;simp only[h,Zws,Kk,Obs];exact⟨_,rfl⟩
theorem Zog(c:Wb): ∃b,Yn c=some (b,()):=by
 unfold Yn;simp only[K5,Zws,Kk,Obs];exact⟨_,rfl⟩
theorem Zvf(w:Qw): ∃b,V8 w=some (b,()):=by
 unfold V8;simp only[Zws,Kk,Obs];exact⟨_,rfl⟩
theorem Z0k(p:Xl): ∃b,Zbe p=some (b,()):=by
 unfold Zbe;simp only[Zws,Obs];exact⟨_,rfl⟩
theorem Q4l(n:Int): ∃c b,Zc0 n=some (c,b,()):=by
 unfold Zc0;simp only[K5,Obs,Kk];exact⟨_,_,rfl⟩
theorem Quo(n m:Int): ∃c b,Zc2 n m=some (c,b,()):=by
 unfold Zc2;simp only[Zws,Obs,Kk];exact⟨_,_,rfl⟩
theorem Q15(s:Bool)(n:Int): ∃b,Yx s n=some (b,()):=by
 unfold Yx Vq Zdk Zk5;simp only[K5,Obs,Kk];exact⟨_,rfl⟩
theorem Qo7(s:Bool)(n:Int): ∃b,Q4 s n=some (b,()):=by
 unfold Q4 Vq Zdk Zk5;simp only[K5,Obs,Kk];exact⟨_,rfl⟩
structure Xq(K:Nat)(s:Zd):Prop where
 snd:Zb4 K s.2.1
 rcv:Ze1 K s.2.2.2.1.2.1
theorem Xq.mono{K K':Nat}{s:Zd}(h:Xq K s)(hK:K<=K'):Xq K' s:=⟨h.snd.mono (by omega),h.rcv.mono hK⟩
theorem Z4d{K:Nat}{s:Zd}(h:Xq K s)(hK:K<=1000000): ∃b,Zcp s=some (b,()):=by
 obtain⟨g,a,-⟩:=Zis h.snd (by omega);obtain⟨i,c⟩:=Zog s.2.2.1;obtain⟨j,d⟩:=Zkb h.rcv hK;obtain⟨k,e⟩:=Zvf s.2.2.2.2.1;obtain⟨l,f⟩:=Z0k s.2.2.2.2.2.1;unfold Zcp;simp only[a,c,d,e,f,K5,Kk,Obs];exact⟨_,rfl⟩
theorem Q9s(c:Qb)(hc:Y8 c): ∃y c',Znm c=some ((y,()),(c',()))/\Y8 c'/\(y.1=4\/y.1=8\/y.1=16):=by
 unfold Znm Zr9;obtain⟨x,d,b,a,-,-⟩:=Zry c 3 hc;simp only[b,Obs];cases x==(0:Int)
 ·rw[Ocf];cases x==(1:Int)
  ·exact⟨_,_,rfl,a,.inr (.inr rfl)⟩
  ·exact⟨_,_,rfl,a,.inr (.inr rfl)⟩
 ·exact⟨_,_,rfl,a,.inr (.inl rfl)⟩
theorem Zow{K:Nat}{s:Zd}(h:Xq K s)(hK:K<=1000000):Zaw s=some (s,()):=by
 unfold Zaw;rw[Zvh h.snd (by omega),Qwg h.rcv hK];rfl
theorem Q6k(l:List Zd)(n:Int)(hl:l.length<=1000000): ∀(N i:Nat),l.length-i<N->i<=l.length-> ∃v,Xw N l n (i:Int)=some (v,())/\(v<0\/v<l.length)/\(v<0-> ∀s∈l.drop i,s.1≠n)/\(0<=v->(l.getD v.toNat Zj).1=n)
 |0,_,h,_=>by omega
 |N+1,i,g,j=>by
  unfold Xw;by_cases h:i<l.length
  ·rw[Zn (Zk (by omega)),Zb (by omega),show(i:Int).toNat=i from rfl];by_cases e: (l.getD i Zj).1=n
   ·rw[Zn (beq_iff_eq.2 e)];exact⟨_,rfl,by omega,fun h=>by omega,fun _=>e⟩
   ·rw[Zm (beq_eq_false_iff_ne.2 e),Zt h (by omega)];obtain⟨v,a,b,c,f⟩:=Q6k l n hl N (i+1) (by omega) (by omega);refine⟨v,a,b,fun hv s hs=> ?_,f⟩;rw[Yl (d:=Zj) h]at hs;rcases List.mem_cons.1 hs with rfl|hs
    ·exact e
    ·exact c hv s hs
  ·rw[Zm (Zl (by omega))];refine⟨_,rfl,by omega,fun _ s hs=> ?_,fun h=>by omega⟩;rw[List.drop_eq_nil_of_le (by omega)]at hs;cases hs
theorem Zu7(l:List Zd)(n:Int)(hl:l.length<=1000000): ∃v,Xv l n=some (v,())/\(v<0\/v<l.length)/\(v<0-> ∀s∈l,s.1≠n)/\(0<=v->(l.getD v.toNat Zj).1=n):=by
 unfold Xv;exact Q6k l n hl _ 0 (by unfold Ym;omega) (by omega)
structure Zhh(K:Nat)(l:List Zd):Prop where
 len:l.length<=K
 all: ∀s∈l,Xq K s
theorem Zhh.mono{K K':Nat}{l:List Zd}(h:Zhh K l)(hK:K<=K'):Zhh K' l:=⟨Nat.le_trans h.len hK,fun s a=>(h.all s a).mono hK⟩
theorem Xbj{K:Nat}{l:List Zd}{s:Zd}(h:Zhh K l)(hs:Xq K s)(hK:K<=500000)(a:Int): ∀(N i:Nat) (out:List Zd) (p:Bool),l.length-i<N->i<=l.length->(∀x∈out,Xq K x)->out.length<=i+ (if p then 1 else 0)->
  ∃y,Q0 N l s out a p (i:Int)=some (y,())/\y.length<=l.length+1/\ ∀x∈y,Xq K x
 |0,_,_,_,h,_,_,_=>by omega
 |N+1,i,out,p,w,A,b,c=>by
  have g:=h.len;have m:out.length<=i+1:=by split at c<;>omega
  have e: ∀{o:List Zd} {x},(∀x∈o,Xq K x)->Xq K x-> ∀z∈o++ [x],Xq K z:=fun b hx z hz=>by
   rcases List.mem_append.1 hz with hz|hz
   ·exact b z hz
   ·rw[List.mem_singleton.1 hz];exact hx
  unfold Q0;by_cases k:i<l.length
  ·have f:=h.all _ (Qh (d:=Zj) k);rw[Zn (Zk (by omega)),Zb (by omega),show(i:Int).toNat=i from rfl,Zow f (by omega),Zow hs (by omega)];simp only[Obs];have j: ∀(o:List Zd) (q:Bool) x,(∀x∈o,Xq K x)->Xq K x->o.length<=i+ (if q then 1 else 0)->
     ∃y,Xs (fun v=>Q0 N v.1 v.2.1 v.2.2.1 v.2.2.2.1 v.2.2.2.2.1 v.2.2.2.2.2.1) l s o a q (i:Int) x=some (y,())/\y.length<=l.length+1/\ ∀x∈y,Xq K x:=by
    intro o q x n r t;have u:o.length<=i+1:=by split at t<;>omega
    unfold Xs;rw[Zb (by unfold Qo;simp only[List.length_singleton];omega),Zt k (by omega)];exact Xbj h hs hK a N (i+1) (o++ [x]) q (by omega) (by omega) (e n r) (by simp only[List.length_append,List.length_singleton];omega)
   cases (i:Int)==a
   ·rw[Ocf,Zb (fun _=>by omega)];cases p
    ·simp only[Bool.not_false,Ota];cases decide ((l.getD i Zj).1>s.1)
     ·exact j _ _ _ b f c
     ·rw[Oct,Zb (by unfold Qo;simp only[List.length_singleton];omega)];exact j _ _ _ (e b hs) f (by simp at c⊢;omega)
    ·exact j _ _ _ b f c
   ·exact j _ _ _ b hs c
  ·rw[Zm (Zl (by omega)),Zow hs (by omega)];cases p
   ·simp only[Bool.not_false,Oct,Obs];rw[Zb (by unfold Qo;simp only[List.length_singleton];omega)];exact⟨_,rfl,by simp at c⊢;omega,e b hs⟩
   ·exact⟨_,rfl,by simp at c;omega,b⟩
theorem Quw{K:Nat}{l:List Zd}{s:Zd}(h:Zhh K l)(hs:Xq K s)(hK:K<=500000): ∃y,Ql l s=some (y,())/\y.length<=l.length+1/\ ∀x∈y,Xq K x:=by
 unfold Ql;obtain⟨v,e,-⟩:=Zu7 l s.1 (by have:=h.len;omega);rw[e,Obs];exact Xbj h hs hK _ _ 0 [] _ (by unfold Vr;omega) (by omega) (by simp) (by simp)
theorem Q8j:Xq 0 (((0:Int),(((0:Int),(((0:Int),((0:Int),((0:Int),(([]:List Int),())))),(([]:List Zh),(([]:List Zh),(([]:List Zh),((0:Int),((0:Int),((0:Int),((0:Int),()))))))))),(((0:Int),((0:Int),((0:Int),((0:Int),())))),(((0:Int),(((0:Int),(([]:List Z1),())),((0:Int),((0:Int),((0:Int),()))))),(((0:Int),((0:Int),((0:Int),((0:Int),((0:Int),((0:Int),())))))),(((0:Int),(false,())),(false,(false,(false,(false,(false,(false,((0:Int),(false,())))))))))))))):Zd):=
 ⟨{cells:=(by simp),e0:=Int.le_refl _,eK:=Int.le_refl _,pend:=Ztl _,flight:=Ztl _,acked:=Ztl _},⟨by simp,by simp[Zf4]⟩⟩
theorem Q79{K:Nat}{c:Zf}(h:Zhh K c.2.2.2.1)(hK:K<=1000000)(n:Int): ∃s b,Qy c n=some (s,b,())/\Xq K s:=by
 unfold Qy;obtain⟨v,e,f,-⟩:=Zu7 c.2.2.2.1 n (by have:=h.len;omega);rw[e,Obs];by_cases hv:v<0
 ·rw[Zn (Zk hv)];exact⟨_,_,rfl,Q8j.mono (by omega)⟩
 ·have a:=h.all _ (Qh (l:=c.2.2.2.1) (i:=v.toNat) (d:=Zj) (by omega));rw[Zm (Zl hv),Zb (by simp only;omega),Zow a hK];exact⟨_,_,rfl,a⟩
theorem Q9l(n:Int): ∃v,Zkh n=some (v,()):=by
 unfold Zkh;rw[K5,Obs,Zb (by omega),Kk];exact⟨_,rfl⟩
theorem Z6b(c:Wb): ∃b,Vp c=some (b,()):=by
 unfold Vp;simp only[Zws,Kk,Obs];exact⟨_,rfl⟩
theorem Z6d(c:Zdh): ∃b,Zco c=some (b,()):=by
 unfold Zco;simp only[Zws,Kk,Obs];exact⟨_,rfl⟩
theorem Xaz{K:Nat}{l:List Zd}(h:Zhh K l)(hK:K<=1000000): ∀(N i:Nat),l.length-i<N->i<=l.length-> ∃b,Yf N l (i:Int)=some (b,())
 |0,_,h,_=>by omega
 |N+1,i,f,g=>by
  have a:=h.len;unfold Yf;by_cases c:i<l.length
  ·obtain⟨b,e⟩:=Z4d (h.all _ (Qh (d:=Zj) c)) hK;rw[Zn (Zk (by omega)),Zb (by omega),show(i:Int).toNat=i from rfl,e,Obs,Zb (fun _ _=>by omega),
    Zb (fun _ h=>by have:=Ode h;rw[Zr (by omega) (by omega)];omega),Zt c (by omega)]
   exact Qvk (P:=fun m b=>m=some (b,())) ⟨_,rfl⟩ (Xaz h hK N (i+1) (by omega) (by omega))
  ·rw[Zm (Zl (by omega))];exact⟨_,rfl⟩
theorem Zu1{K:Nat}{l:List Zd}(h:Zhh K l)(hK:K<=1000000): ∃b,Kh l=some (b,()):=by
 unfold Kh;exact Xaz h hK _ 0 (by unfold W7;omega) (by omega)
theorem Qu6{K:Nat}{l:List Zd}(h:Zhh K l)(hK:K<=1000000): ∃v,Zc4 l=some (v,()):=by
 obtain⟨b,e⟩:=Zu1 h hK;have a:=h.len;have c: ∀(N i:Nat) (n:Int),l.length-i<N->i<=l.length-> ∃v,Kt N l n (i:Int)=some (v,()):=by
  intro N
  induction N with
  |zero=>intro i n h;omega
  |succ N d=>
   intro i n g j;unfold Kt;rw[e,Kk,Obs];by_cases f:i<l.length
   ·rw[Zb (by omega),Zt f (by omega)];exact Qvk (P:=fun m b=>m=some (b,())) (d (i+1) _ (by omega) (by omega)) ⟨_,rfl⟩
   ·rw[Zl (by omega)];exact⟨_,rfl⟩
 unfold Zc4;exact c _ 0 0 (by unfold Y1;omega) (by omega)
theorem Qu5{K:Nat}{l:List Zd}(h:Zhh K l)(hK:K<=1000000): ∃v,Zc3 l=some (v,()):=by
 obtain⟨b,e⟩:=Zu1 h hK;have a:=h.len;have c: ∀(N i:Nat) (n:Int),l.length-i<N->i<=l.length-> ∃v,Ks N l n (i:Int)=some (v,()):=by
  intro N
  induction N with
  |zero=>intro i n h;omega
  |succ N d=>
   intro i n g j;unfold Ks;rw[e,Kk,Obs];by_cases f:i<l.length
   ·rw[Zb (by omega),Zt f (by omega)];exact Qvk (P:=fun m b=>m=some (b,())) (d (i+1) _ (by omega) (by omega)) ⟨_,rfl⟩
   ·rw[Zl (by omega)];exact⟨_,rfl⟩
 unfold Zc3;exact c _ 0 0 (by unfold Y0;omega) (by omega)
def T{α:Type}(m:Option α)(Q:α->Prop):Prop:= ∃y,m=some y/\Q y
abbrev TT{α:Type}(m:Option α):Prop:=T m fun _=>True
section
variable {α β:Type} {m n:Option α} {f:α->Option β} {Q:α->Prop} {R:β->Prop}
theorem T.bind(h:T m Q)(k: ∀y,Q y->T (f y) R):T (Option.bind m f) R:=by
 obtain⟨y,e,a⟩:=h;rw[e];exact k y a
theorem T.pure{y:α}(h:Q y):T (some y) Q:=⟨y,rfl,h⟩
theorem T.tt{y:α}:TT (some y):=⟨y,rfl,trivial⟩
theorem T.ite{c:Bool}(h1:c=true->T m Q)(h2:c=false->T n Q):T (bif c then m else n) Q:=by
 cases c
 ·exact h2 rfl
 ·exact h1 rfl
theorem T.if{c:Bool}(h1:T m Q)(h2:T n Q):T (bif c then m else n) Q:=T.ite (fun _=>h1) fun _=>h2
theorem T.guard{p:Prop}(hp:p)(h:T m Q):T (Ze p m) Q:=by rw[Zb hp];exact h
theorem T.mono{Q':α->Prop}(h:T m Q)(k: ∀y,Q y->Q' y):T m Q':=by
 obtain⟨y,e,a⟩:=h;exact⟨y,e,k y a⟩
theorem T.of{y:α}(e:m=some y)(h:Q y):T m Q:=⟨y,e,h⟩
end
theorem tt1{α:Type}{m:Option (α×Unit)}(h: ∃b,m=some (b,())):TT m:=by obtain⟨b,e⟩:=h;exact⟨_,e,trivial⟩
def FOK(f:Zi):Prop:=f.2.2.2.1.length<=1000
def Qlt(l:List Zi):Prop:=l.length<=1000/\ ∀f∈l,FOK f
def Qso(K:Nat)(l:List Z9):Prop:=l.length<=K/\ ∀p∈l,Qlt p.2.1
theorem Qso.mono{K K':Nat}{l:List Z9}(h:Qso K l)(hK:K<=K'):Qso K' l:=⟨Nat.le_trans h.1 hK,h.2⟩
structure Qd(K:Nat)(c:Zf):Prop where
 str:Zhh K c.2.2.2.1
 pk:Qso K c.2.2.2.2.2.2.2.2.2.2.2.2.2.2.2.1
theorem Qd.mono{K K':Nat}{c:Zf}(h:Qd K c)(hK:K<=K'):Qd K' c:=⟨h.str.mono hK,h.pk.mono hK⟩
theorem Qur{K:Nat}{l:List Z9}(h:Qso K l)(hK:K<=1000000): ∀(N i:Nat),l.length-i<N->i<=l.length->Zft N l (l.take i) (i:Int)=some (l,())
 |0,_,h,_=>by omega
 |N+1,i,b,c=>by
  have f:=h.1;unfold Zft;by_cases a:i<l.length
  ·have g:=(h.2 _ (Qh (d:=Qk) a)).1;rw[Zn (Zk (by omega)),Zb (by omega),Zb (by omega),show(i:Int).toNat=i from rfl,Zb (by unfold Qo;simp only[List.length_nil];omega)];simp only[List.nil_append];rw[Zb (by unfold Qo;simp only[List.length_take,List.length_singleton];omega),Zt a (by omega)];have e:l.take i++ [((l.getD i Qk).1,((l.getD i Qk).2.1,()))]=l.take (i+1):=by
    rw[List.take_succ_eq_append_getElem a,List.getD_eq_getElem?_getD,List.getElem?_eq_getElem a];rfl
   rw[e];exact Qur h hK N (i+1) (by omega) (by omega)
  ·rw[Zm (Zl (by omega)),List.take_of_length_le (by omega)]
theorem Q0j{K:Nat}{l:List Z9}(h:Qso K l)(hK:K<=1000000):Zo9 l=some (l,()):=by
 unfold Zo9;exact Qur h hK _ 0 (by unfold Zjq;omega) (by omega)
theorem Quh{K:Nat}{c:Zf}(h:Qd K c)(hK:K<=1000000)(t:Zf): ∀(N i:Nat),c.2.2.2.1.length-i<N->i<=c.2.2.2.1.length->
  Zdn N c t (c.1,(c.2.1,(c.2.2.1,(c.2.2.2.1.take i,c.2.2.2.2)))) (i:Int)=some (c,())
 |0,_,h,_=>by omega
 |N+1,i,b,f=>by
  have g:=h.str.len;unfold Zdn;by_cases a:i<c.2.2.2.1.length
  ·rw[Zn (Zk (by omega)),Zb (by omega),show(i:Int).toNat=i from rfl,Zow (h.str.all _ (Qh (d:=Zj) a)) hK,Obs,
    Zb (by unfold Qo;simp only[List.length_take,List.length_singleton];omega),Zt a (by omega)]
   have e:c.2.2.2.1.take i++ [c.2.2.2.1.getD i Zj]=c.2.2.2.1.take (i+1):=by
    rw[List.take_succ_eq_append_getElem a,List.getD_eq_getElem?_getD,List.getElem?_eq_getElem a];rfl
   simp only[e];exact Quh h hK t N (i+1) (by omega) (by omega)
  ·rw[Zm (Zl (by omega)),List.take_of_length_le (by omega),Q0j h.pk hK];rfl
theorem J2{K:Nat}{c:Zf}(h:Qd K c)(hK:K<=1000000):Z4 c=some (c,()):=by
 unfold Z4;exact Quh h hK _ _ 0 (by unfold Zmw;omega) (by omega)
theorem Zwv{f:Zi}(h:FOK f):TT (Jt f):=⟨_,Zus f (by unfold FOK at h;omega),trivial⟩
theorem Q4f{l:List Zi}(h:Qlt l):TT (Zc5 l):=by
 have b: ∀(N i:Nat),l.length-i<N->i<=l.length->TT (Jv N l (i:Int)):=by
  intro N
  induction N with
  |zero=>intro i h;omega
  |succ N c=>
   intro i d e;have f:=h.1;unfold Jv;refine T.ite (fun a=> ?_) fun _=>T.tt;have a:=Ode a;refine T.guard (by omega) ((Zwv (h.2 _ (Qh (by omega)))).bind fun t _=>T.if T.tt ?_);rw[Zt (m:=l.length) (by omega) (by omega)];exact c (i+1) (by omega) (by omega)
 unfold Zc5;exact b _ 0 (by unfold K8;omega) (by omega)
theorem tIn(n a b:Int):TT (Z5 n a b):=⟨_,Zws n a b,trivial⟩
theorem Qzm(n:Int):TT (Qj n):=⟨_,K5 n,trivial⟩
theorem Qk0{K:Nat}{l:List Zd}(h:Zhh K l)(hK:K<=1000000):T (Kh l) fun r=>r.1=true->l.length<=24:=by
 have a:=h.len;have c: ∀(N i:Nat),l.length-i<N->i<=l.length->T (Yf N l (i:Int)) fun r=>r.1=true->l.length<=24:=by
  intro N
  induction N with
  |zero=>intro i h;omega
  |succ N d=>
   intro i e f;unfold Yf;refine T.ite (fun b=> ?_) fun _=>T.pure fun h=>by have:=Ode h;omega
   have b:=Ode b;refine T.guard (by omega) ((tt1 (Z4d (h.all _ (Qh (by omega))) hK)).bind fun t _=>T.guard (fun _ _=>by omega) (T.guard (fun _ h=> ?_) (T.if (T.pure fun h=>by cases h) ?_)))
   ·have:=Ode h;rw[Zr (by omega) (by omega)];omega
   ·rw[Zt (m:=l.length) (by omega) (by omega)];exact d (i+1) (by omega) (by omega)
 unfold Kh;exact c _ 0 (by unfold W7;omega) (by omega)
theorem Q2s{K:Nat}{c:Zf}(h:Qd K c)(hK:K<=1000000):T (Ya c) fun r=>r.1=true->c.2.2.2.1.length<=24:=by
 have d: ∀(N i:Nat),c.2.2.2.2.2.2.2.2.2.2.2.2.2.2.2.1.length-i<N->i<=c.2.2.2.2.2.2.2.2.2.2.2.2.2.2.2.1.length->TT (Zau N c (i:Int)):=by
  intro N
  induction N with
  |zero=>intro i h;omega
  |succ N e=>
   intro i o p;have q:=h.pk.1;unfold Zau;refine T.ite (fun a=> ?_) fun _=> ?_
   ·have a:=Ode a;refine T.guard (by omega) ((tIn _ _ _).bind fun t _=>T.guard (fun _ _=>by omega) (T.guard (fun _ h=> ?_) (T.guard (fun _=>by omega) (T.bind (Q:=fun _=>True) (T.if T.tt (Q4f (h.pk.2 _ (Qh (by omega))))) fun s _=>T.if T.tt ?_))))
    ·have:=Ode h;rw[Zr (by omega) (by omega)];omega
    ·rw[Zt (m:=c.2.2.2.2.2.2.2.2.2.2.2.2.2.2.2.1.length) (by omega) (by omega)];exact e (i+1) (by omega) (by omega)
   ·exact(tIn _ _ _).bind fun t _=>T.bind (Q:=fun _=>True) (T.if (tIn _ _ _) T.tt) fun t _=>T.bind (Q:=fun _=>True) (T.if (tIn _ _ _) T.tt) fun t _=>T.bind (Q:=fun _=>True) (T.if (tIn _ _ _) T.tt) fun t _=>
     T.bind (Q:=fun _=>True) (T.if (tt1 (Qu6 h.str hK)) T.tt) fun t _=>T.bind (Q:=fun _=>True) (T.if (tt1 (Qu5 h.str hK)) T.tt) fun t _=>T.tt
 unfold Ya;have B: ∀{α β:Type} {b:Bool} {m n:Option α} {f:α->Option β} {R:β->Prop},TT m->TT n->(∀y,T (f y) R)->T (Option.bind (bif b then m else n) f) R:=fun g j k=>(T.if g j).bind fun y _=>k y;exact(tt1 (Z0j _)).bind fun t _=>B T.tt (tt1 (Z0j _)) fun t=>T.bind (Q:=fun r=>r.1=true->c.2.2.2.1.length<=24) (T.if (T.pure fun h=>by cases h) (Qk0 h.str hK)) fun t l=>B T.tt (tt1 (Zog _)) fun t=>B T.tt (tt1 (Zvf _)) fun t=>B T.tt (tt1 (Z6d _)) fun t=>B T.tt (tt1 (Z6d _)) fun t=>B T.tt (tt1 (Z6b _)) fun t=>B T.tt (tt1 (Z6b _)) fun t=>
  T.ite (fun _=>T.pure fun h=>by cases h) fun a=>(d _ 0 (by unfold Jn;omega) (by omega)).mono fun _ _ _=>l (by simp at a;simp[a])
theorem Zxr{K:Nat}{c:Zf}(h:Qd K c)(hK:K<=1000000):TT (Ya c):=(Q2s h hK).mono fun _ _=>trivial
theorem Qyf{K:Nat}{c:Zf}(h:Qd K c)(hK:K<=1000000):T (Jx c) fun r=>r.1=true->c.2.2.2.1.length<=24:=by
 unfold Jx;exact(Q2s h hK).bind fun t a=>T.bind (Q:=fun _=>True) (T.if ⟨_,rfl,trivial⟩ T.tt) fun b _=>T.pure fun h=>a (by simp at h;exact h.1)
theorem Zun{K:Nat}{c:Zf}(h:Qd K c)(hK:K<=1000000):TT (Jx c):=(Qyf h hK).mono fun _ _=>trivial
theorem Xem(n:Int):T (Vs n) fun r=>r.1=true->0<n/\n<=64:=⟨_,rfl,fun h=>by simp at h;omega⟩
theorem Q0u(n:Int):T (Zc1 n) fun r=>Zb4 0 r.1:=by
 unfold Zc1 Zrf;have z:Zb4 0 Za1:={cells:=(by simp[Za1]),e0:=Int.le_refl _,eK:=Int.le_refl _,pend:=Ztl _,flight:=Ztl _,acked:=Ztl _}
 refine T.bind (Q:=fun r=>r.2.1=true->r.1.2.2.2.1.length<=64/\r.1.2.2.1=0) ((Xem n).bind fun t a=>T.ite (fun _=>T.pure fun h=>by cases h) fun b=> ?_) fun t a=>T.ite (fun _=>T.pure z) fun b=>T.pure ?_
 ·have:=a (by simpa using b);exact T.guard (by unfold Qo;omega) (T.pure fun _=>⟨by simp;omega,rfl⟩)
 ·have:=a (by simpa using b);exact {cells:=this.1,e0:=by simp only[this.2];omega,eK:=by simp only[this.2];omega,pend:=Ztl _,flight:=Ztl _,acked:=Ztl _}
theorem Qay(v:Bool)(i:Int)(o p:Zgp):T (Je v i o p) fun r=>Xq 0 r.1:=by
 obtain⟨l,a⟩:=Z0j o;obtain⟨m,b⟩:=Z0j p;obtain⟨n,c⟩:=Q15 v i;obtain⟨q,d⟩:=Qo7 v i;obtain⟨⟨s,t,u⟩,e,f⟩:=Q0u o.1;obtain⟨w,y,g⟩:=Q4l p.2.1;obtain⟨z,A,h⟩:=Quo o.2.1 o.2.2.1;obtain⟨r,j,k⟩:=Qyr;unfold Je W9;simp only[a,b,c,d,e,g,h,j,K5,Kk,Obs];generalize ((_||_)||_:Bool)=x;cases x
 ·exact T.pure (by exact⟨f,k⟩)
 ·exact T.pure Q8j
theorem Xcw(v:Bool)(n:Int):TT (Zdk v n):=by
 unfold Zdk Zk5;simp only[K5,Obs,Kk];exact⟨_,rfl,trivial⟩
theorem Xas(n:Int):TT (Vq n):=by
 unfold Vq;simp only[K5,Obs];exact⟨_,rfl,trivial⟩
theorem Q4n(c:Zdh):TT (Zst c):=by
 unfold Zst;exact(tt1 (Z6d c)).bind fun t _=>T.if T.tt (T.if T.tt T.tt)
theorem Q92(n:Int)(s u:Bool):TT (Zxa n s u):=by
 unfold Zxa;have j: ∀u i,TT (Zmq u i):=fun u i=>by unfold Zmq;exact T.if T.tt T.tt
 exact(tIn _ _ _).bind fun t _=>T.if T.tt (T.guard (by omega) (T.if (j _ _) (j _ _)))
theorem Y2{K K':Nat}{l:List Zd}{s:Zd}(h:Zhh K l)(hs:Xq K' s)(hk:K<=K')(hK:K'+1<=500000):T (Ql l s) fun r=>Zhh (K'+1) r.1:=by
 obtain⟨y,e,b,a⟩:=Quw (h.mono hk) hs (by omega);have:=h.len;exact⟨_,e,⟨by simp only;omega,fun x hx=>(a x hx).mono (by omega)⟩⟩
theorem Zkn{K:Nat}{c:Zf}(h:Qd K c)(hK:K<=1000000)(n:Int):T (Qy c n) fun r=>Xq K r.1:=by
 obtain⟨s,b,e,a⟩:=Q79 h.str hK n;exact⟨_,e,a⟩
theorem Qd.up{K K':Nat}{c:Zf}(h:Qd K c)(hk:K<=K'){l:List Zd}(hl:Zhh K' l):Qd K' (c.1,(c.2.1,(c.2.2.1,(l,c.2.2.2.2)))):=⟨hl,h.pk.mono hk⟩
theorem Q0z{K:Nat}{c:Zf}(h:Qd K c)(hK:K+1<=500000)(u:Bool):T (Zgk c u) fun r=>Qd (K+1) r.2.1:=by
 unfold Zgk;rw[J2 h (by omega),Obs];have a: ∀u x t i b,Qd K x->T (Wv u c t x i b) fun r=>Qd (K+1) r.2.1:=fun u x t i b hx=>by
  unfold Wv;exact T.if (T.pure (hx.mono (by omega))) ((Q92 _ _ _).bind fun e _=>(Qay _ _ _ _).bind fun j f=>(Y2 hx.str (f.mono (by omega)) (Nat.le_refl _) (by omega)).bind fun k g=>T.pure (hx.up (by omega) g))
 have d: ∀u t n,T (Wu u c t c n) fun r=>Qd (K+1) r.2.1:=fun u t n=>by
  unfold Wu;exact(Q4n _).bind fun e _=>T.if (a _ _ _ _ _ ⟨h.str,h.pk⟩) (a _ _ _ _ _ ⟨h.str,h.pk⟩)
 exact(Zun h (by omega)).bind fun t _=>T.if (T.pure (h.mono (by omega))) (T.if (d _ _ _) (d _ _ _))
theorem Qzs{K:Nat}{c:Zf}(h:Qd K c)(i:Int)(d:List UInt8)(hK:K+d.length+1<=500000):T (Zey c i d) fun r=>Qd (K+d.length+1) r.2.1:=by
 unfold Zey;rw[J2 h (by omega),Obs];refine(Zkn h (by omega) i).bind fun s a=>(Zun h (by omega)).bind fun t _=>T.if (T.pure (h.mono (by omega))) ?_;obtain⟨x,n,e,b⟩:=Qzr a.snd d (by omega);rw[e,Obs];exact(Y2 h.str (K':=K+d.length) (by exact⟨b.mono (by omega),a.rcv.mono (by omega)⟩) (by omega) (by omega)).bind fun g f=>T.pure (h.up (by omega) f)
theorem Qv5{K:Nat}{c:Zf}(h:Qd K c)(hK:K+1<=500000)(i:Int):T (Zdf c i) fun r=>Qd (K+1) r.1:=by
 unfold Zdf;rw[J2 h (by omega),Obs];refine(Zkn h (by omega) i).bind fun s a=>(Zun h (by omega)).bind fun t _=>T.if (T.pure (h.mono (by omega))) ?_;obtain⟨x,f,e,b⟩:=Qxo a.snd (by omega);rw[e,Obs];exact T.if (T.pure (h.mono (by omega))) ((Y2 h.str (by exact⟨b,a.rcv⟩) (Nat.le_refl _) (by omega)).bind fun g d=>T.pure (h.up (by omega) d))
theorem Qr2(w:Qw)(n:Int):TT (Zfs w n):=by
 unfold Zfs;exact(tt1 (Zvf w)).bind fun t _=>T.if T.tt T.tt
theorem Q2u{K:Nat}{x:Zf}{s:Zd}(h:Qd K x)(hs:Xq K s)(n:Int):T (Zhb x s n) fun r=>Qd K r.2.1/\Xq K r.2.2.1:=by
 unfold Zhb;exact(Qr2 _ _).bind fun t _=>(Qr2 _ _).bind fun a _=>T.pure ⟨⟨h.str,h.pk⟩,⟨hs.snd,hs.rcv⟩⟩
theorem Q4x{K:Nat}{r:Zu}(h:Ze1 K r.2.1)(hK:K<=1000000):TT (Zk3 r):=by
 unfold Zk3;exact(tt1 (Zkb h hK)).bind fun t _=>T.tt
theorem Q65{K:Nat}{s:Zd}(h:Xq K s)(hK:K<=1000000):TT (Zmp s):=by
 unfold Zmp Zo5 Zk4;exact(tt1 (Z4d h hK)).bind fun t _=>T.bind (Q:=fun _=>True) (T.if T.tt T.tt) fun t _=>T.bind (Q:=fun _=>True) (T.if (T.bind (Q:=fun _=>True) (T.if T.tt (Q4x h.rcv hK)) fun t _=>T.tt) T.tt) fun t _=>T.tt
theorem Qt5(a:Wb):TT (Zcn a):=by
 unfold Zcn;exact(tt1 (Z6b a)).bind fun t _=>T.if T.tt T.tt
theorem Q9t{K:Nat}{x:Zf}{s:Zd}(h:Qd K x)(hs:Xq K s)(hK:K<=1000000):T (Zkk x s) fun r=>Qd K r.2.1/\Xq K r.2.2.1:=by
 unfold Zkk;exact T.bind (Q:=fun _=>True) (T.if T.tt (Xcw _ _)) fun t _=>T.bind (Q:=fun _=>True) (T.if T.tt (Q65 hs hK)) fun t _=>T.if (T.pure ⟨h,hs⟩) ((Xas _).bind fun t _=>T.if ((Qt5 _).bind fun t _=>T.pure ⟨⟨h.str,h.pk⟩,⟨hs.snd,hs.rcv⟩⟩) ((Qt5 _).bind fun t _=>T.pure ⟨⟨h.str,h.pk⟩,⟨hs.snd,hs.rcv⟩⟩))
theorem Z6f{K K':Nat}{x:Zf}{s:Zd}(h:Qd K x)(hs:Xq K' s)(hk:K<=K')(hK:K'+1<=500000):T (Jw x s) fun r=>Qd (K'+1) r.2.1:=by
 unfold Jw;exact(Q9t (h.mono hk) hs (by omega)).bind fun t a=>(Y2 a.1.str a.2 (Nat.le_refl _) hK).bind fun c b=>T.pure (a.1.up (by omega) b)
theorem Q02{K:Nat}{c:Zf}(h:Qd K c)(hK:K+1<=500000)(i m:Int):T (Zgl c i m) fun r=>Qd (K+1) r.1.2.2.1:=by
 unfold Zgl;rw[J2 h (by omega),Obs];refine(Zkn h (by omega) i).bind fun s a=>(Zun h (by omega)).bind fun t _=>T.if (T.pure (h.mono (by omega))) ?_;obtain⟨d,r,e,b,-⟩:=Qw2 a.rcv (by omega) m;rw[e,Obs];have j: ∀t x s d r,Qd K x->Xq K s->T (Ww t x s d r) fun r=>Qd (K+1) r.1.2.2.1:=fun t x s d r hx a=>by
  unfold Ww;exact(Z6f hx a (Nat.le_refl _) hK).bind fun k g=>T.pure g
 exact T.if ((Q2u h (by exact⟨a.snd,b⟩) _).bind fun t f=>j _ _ _ _ _ f.1 f.2) (j _ _ _ _ _ h (by exact⟨a.snd,b⟩))
theorem Qy6{K:Nat}{c:Zf}(h:Qd K c)(hK:K+1<=500000)(i k:Int):T (Zew c i k) fun r=>Qd (K+1) r.1.1:=by
 unfold Zew;rw[J2 h (by omega),Obs];refine(Zkn h (by omega) i).bind fun s a=>(Zun h (by omega)).bind fun t _=>T.if (T.pure (h.mono (by omega))) ?_;obtain⟨x,f,e,b⟩:=Zw7 a.snd k (by omega);rw[e,Obs];exact T.if (T.pure (h.mono (by omega))) ((Z6f h (by exact⟨b,a.rcv⟩) (Nat.le_refl _) hK).bind fun g d=>T.pure d)
theorem Q56(s:List UInt8)(hs:s.length<=1000000)(b:Int): ∀(N i:Nat) (out:List (List UInt8)) (p:List UInt8),s.length-i<N->i<=s.length->out.length<=i->p.length<=i->(∀x∈out,x.length<=i)->
  T (Zjo N s b out p (i:Int)) fun r=>r.1.length<=s.length+1/\ ∀x∈r.1,x.length<=s.length
 |0,_,_,_,h,_,_,_,_=>by omega
 |N+1,i,out,p,e,f,d,g,hx=>by
  have c: ∀{k:Nat} {o:List (List UInt8)} {x},(∀x∈o,x.length<=k)->x.length<=k-> ∀z∈o++ [x],z.length<=k:=fun d hx z hz=>by
   rcases List.mem_append.1 hz with hz|hz
   ·exact d z hz
   ·rw[List.mem_singleton.1 hz];exact hx
  unfold Zjo;refine T.ite (fun a=> ?_) fun _=>T.guard (by unfold Qo;simp only[List.length_singleton];omega) (T.pure ⟨by simp;omega,c (fun x h=>by have:=hx x h;omega) (by omega)⟩);have a:i<s.length:=by have:=Ode a;omega
  refine T.guard (by omega) (T.if (T.guard (by unfold Qo;simp only[List.length_singleton];omega) ?_) (T.guard ?_ (T.guard ?_ ?_)))
  ·unfold Zmt;rw[Zt a (by omega)];exact Q56 s hs b N (i+1) _ _ (by omega) (by omega) (by simp;omega) (by simp) (c (fun x h=>by have:=hx x h;omega) (by omega))
  ·rw[Zt a (by omega)];omega
  ·unfold Ka;simp only[List.length_take,List.length_drop];rw[Zt a (by omega)];omega
  ·unfold Zmt;rw[Zt a (by omega)];exact Q56 s hs b N (i+1) _ _ (by omega) (by omega) (by simp only;omega) (by simp only[List.length_append,List.length_take,List.length_drop];omega) (fun x h=>by have:=hx x h;omega)
theorem Xfq(s:List UInt8)(hs:s.length<=1000000)(b:Int):T (Zxb s b) fun r=>r.1.length<=s.length+1/\ ∀x∈r.1,x.length<=s.length:=by
 unfold Zxb;exact Q56 s hs b _ 0 _ _ (by unfold Zn6;omega) (by omega) (by simp) (by simp) (by simp)
theorem Q3n: ∀(N:Nat) (s:List UInt8),s.length<N->s.length<=1000000->T (Zk7 N s) fun r=>r.1.length<=s.length
 |0,_,h,_=>by omega
 |N+1,s,b,c=>by
  unfold Zk7;refine T.guard (fun h=> ?_) (T.ite (fun a=> ?_) fun _=>T.pure (Nat.le_refl _))
  ·have:=Ode h;rw[Zr (by omega) (by omega)];omega
  ·have: (s.length:Int)>0:=by simp at a;omega
   refine T.guard (by rw[Zr (by omega) (by omega)];omega) ((Q3n N _ ?_ ?_).mono fun y d=> ?_)
   all_goals (simp only[List.length_take,List.length_drop]at*;rw[Zr (by omega) (by omega)]at*;omega)
theorem Q3m: ∀(N:Nat) (s:List UInt8),s.length<N->s.length<=1000000->T (Zk6 N s) fun r=>r.1.length<=s.length
 |0,_,h,_=>by omega
 |N+1,s,c,a=>by
  unfold Zk6;refine T.guard (fun h=> ?_) (T.ite (fun b=> ?_) fun _=>Q3n _ s (by unfold Zmv;omega) a)
  ·have:=Ode h;omega
  ·have: (s.length:Int)>0:=by simp at b;omega
   refine T.guard (by omega) ((Q3m N _ ?_ ?_).mono fun y d=> ?_)
   all_goals (simp only[List.length_take,List.length_drop]at*;omega)
theorem Xfe(s:List UInt8)(hs:s.length<=1000000):T (Zut s) fun r=>r.1.length<=s.length:=by
 unfold Zut;exact Q3m _ s (by unfold Zmu;omega) hs
theorem Xcq(p:Xl)(s:List UInt8)(hs:s.length<=100000):TT (Zkj p s):=by
 have c: ∀(l:List (List UInt8)),l.length<=100001->(∀x∈l,x.length<=100000)-> ∀(t:Xl) (N i:Nat) (b:Xl),l.length-i<N->i<=l.length->TT (Yk N b t l (i:Int)):=by
  intro l g hx t N
  induction N with
  |zero=>intro i b h;omega
  |succ N e=>
   intro i b k m;unfold Yk;refine T.ite (fun a=> ?_) fun _=>T.tt;have a:i<l.length:=by have:=Ode a;omega
   have j: ∀b,TT (Jr (fun v=>Yk N v.1 v.2.1 v.2.2.1 v.2.2.2.1) b t l (i:Int)):=fun b=>by
    unfold Jr;rw[Zt a (by omega)];exact e (i+1) _ (by omega) (by omega)
   refine T.guard (by omega) ((Xfe _ (by have:=hx _ (Qh (d:=[]) a);rw[show(i:Int).toNat=i from rfl];omega)).bind fun t _=>T.if (j _) (T.if (j _) (T.guard (fun h=> ?_) (T.guard (fun h=> ?_) (T.guard (fun h=> ?_) (T.ite (fun h=>T.guard ?_ (j _)) fun _=>j _))))))
   all_goals (simp at h;omega)
 have j: ∀b t,TT (Zb3 s b t):=fun b t=>by
  unfold Zb3;exact(Xfq s (by omega) 44).bind fun r f=>c _ (by omega) (fun x hx=>by have:=f.2 x hx;omega) _ _ 0 _ (by unfold Zfo;omega) (by omega)
 unfold Zkj;have d:TT W9:=⟨_,rfl,trivial⟩
 exact(tt1 (Z0k p)).bind fun t _=>T.if (d.bind fun t _=>j _ _) (j _ _)
theorem Qzd{K:Nat}{c:Zf}(h:Qd K c)(hK:K+1<=500000)(i:Int)(x:List UInt8)(hx:x.length<=100000):T (Zex c i x) fun r=>Qd (K+1) r.1:=by
 unfold Zex;rw[J2 h (by omega),Obs];exact(Zkn h (by omega) i).bind fun s a=>(Zun h (by omega)).bind fun t _=>T.if (T.pure (h.mono (by omega))) ((Xcq _ x hx).bind fun t _=>(Y2 h.str (by exact⟨a.snd,a.rcv⟩) (Nat.le_refl _) hK).bind fun d b=>T.pure (h.up (by omega) b))
theorem Qax(w:Qw):TT (Zjg w):=by
 unfold Zjg;exact(tt1 (Zvf w)).bind fun t _=>T.guard (fun _=>by omega) T.tt
theorem Qgd(w:Qw)(n t:Int):TT (Zjn w n t):=by
 unfold Zjn;have j: ∀n w t,TT (Zib n w t):=fun n w t=>⟨_,rfl,trivial⟩
 exact(Qax w).bind fun t _=>T.bind (Q:=fun _=>True) (T.if T.tt (tIn _ _ _)) fun t _=>T.bind (Q:=fun _=>True) (T.if T.tt (tIn _ _ _)) fun t _=>T.if T.tt (T.if (j _ _ _) (j _ _ _))
theorem Qyg(c:Zf):TT (Zoq c):=by
 unfold Zoq;exact(Qax _).bind fun t _=>T.if ((Qgd _ _ _).bind fun t _=>T.tt) T.tt
theorem Qrb(a:Wb):TT (Zmr a):=by
 unfold Zmr;exact(tt1 (Z6b a)).bind fun t _=>T.guard (fun _=>by omega) T.tt
theorem Qyz(a:Wb):TT (Zo8 a):=by
 unfold Zo8;exact(Qrb a).bind fun t _=>T.if T.tt T.tt
theorem Qe8(a:Wb)(b:Bool):TT (Zhw a b):=by
 unfold Zhw;exact(Qrb a).bind fun t _=>T.if ((Qyz a).bind fun t _=>T.tt) T.tt
theorem Qui(c:Zf)(s:Zd):TT (Zm3 c s):=by
 unfold Zm3;exact T.if T.tt ((Qax _).bind fun t _=>T.if ((Qgd _ _ _).bind fun t _=>T.tt) T.tt)
theorem Quk(c:Wb):TT (Zom c):=by
 unfold Zom;exact(tt1 (Zog c)).bind fun t _=>T.tt
theorem Q5z(c:Wb):TT (Zg1 c):=by
 unfold Zg1;exact(tt1 (Zog c)).bind fun t _=>T.if T.tt T.tt
theorem Xbe(c:Wb):TT (Zjj c):=by
 unfold Zjj;exact(tt1 (Zog c)).bind fun t _=>T.if T.tt T.tt
def FL(n:Nat)(l:List Zi):Prop:=l.length<=n/\ ∀f∈l,FOK f
theorem FL.one{n:Nat}{l:List Zi}{f:Zi}(h:FL n l)(hf:FOK f):FL (n+1) (l++ [f]):=⟨by have:=h.1;simp;omega,fun x hx=>by
 rcases List.mem_append.1 hx with hx|hx
 ·exact h.2 x hx
 ·rw[List.mem_singleton.1 hx];exact hf⟩
theorem FL.app{n m:Nat}{l k:List Zi}(h:FL n l)(hk:FL m k):FL (n+m) (l++k):=⟨by have:=h.1;have:=hk.1;simp;omega,fun x hx=>by
 rcases List.mem_append.1 hx with hx|hx
 ·exact h.2 x hx
 ·exact hk.2 x hx⟩
theorem FL.mono{n m:Nat}{l:List Zi}(h:FL n l)(hn:n<=m):FL m l:=⟨Nat.le_trans h.1 hn,h.2⟩
theorem FL.nil:FL 0 []:=⟨Nat.le_refl _,by simp⟩
theorem Qne(k:Int)(i o:Int)(x):FOK ((k,(i,(o,(([]:List UInt8),x)))):Zi):=Nat.zero_le _
theorem FL.cap{n:Nat}{l k:List Zi}(h:FL n l)(hn:n+k.length<=10000):l.length+k.length<=Qo:=by have:=h.1;unfold Qo;omega
theorem Q4g(c:Zf)(s:Zd):T (Zrl c s) fun r=>FL 4 r.1:=by
 have b: ∀o,FL 3 o->T (Zhe s o) fun r=>FL 4 r.1:=fun o a=>by
  unfold Zhe;exact(Quk _).bind fun t _=>T.if (T.guard (a.cap (by simp)) (T.pure (a.one (Qne _ _ _ _)))) (T.pure (a.mono (by omega)))
 have d: ∀o,FL 2 o->T (Zhd c s o) fun r=>FL 4 r.1:=fun o a=>by
  unfold Zhd;exact(Qui _ _).bind fun t _=>T.if (T.guard (a.cap (by simp)) (b _ (a.one (Qne _ _ _ _)))) (b _ (a.mono (by omega)))
 have e: ∀o,FL 1 o->T (Zhc c s o) fun r=>FL 4 r.1:=fun o a=>by
  unfold Zhc;exact T.if (T.guard (a.cap (by simp)) (d _ (a.one (Qne _ _ _ _)))) (d _ (a.mono (by omega)))
 unfold Zrl;exact T.if (T.guard (FL.nil.cap (by simp)) (e _ (FL.nil.one (Qne _ _ _ _)))) (e _ (FL.nil.mono (by omega)))
theorem Qss{K:Nat}{c:Zf}(h:Qd K c)(hK:K<=1000000):T (Zkg c) fun r=>FL (4*c.2.2.2.1.length+6) r.1:=by
 have s:=h.str.len;have b: ∀{n:Nat} {l k:List Zi},FL n l->n+k.length<=10000000->l.length+k.length<=Qo:=fun h u=>by have:=h.1;unfold Qo;omega
 generalize u:c.2.2.2.1.length=n at s;have e: ∀o,FL (4*n+5) o->T (Zbx c o) fun r=>FL (4*n+6) r.1:=fun o a=>by
  unfold Zbx;exact T.if (T.guard (b a (by simp;omega)) (T.pure (a.one (Qne _ _ _ _)))) (T.pure (a.mono (by omega)))
 have f: ∀o,FL (4*n+4) o->T (Zbw c o) fun r=>FL (4*n+6) r.1:=fun o a=>by
  unfold Zbw;exact T.if (T.guard (b a (by simp;omega)) (e _ (a.one (Qne _ _ _ _)))) (e _ (a.mono (by omega)))
 have v: ∀(N i:Nat) (o:List Zi),n-i<N->i<=n->FL (4*i+3) o->T (Zby N c o (i:Int)) fun r=>FL (4*n+6) r.1:=by
  intro N
  induction N with
  |zero=>intro i o h;omega
  |succ N w=>
   intro i o x y a;unfold Zby;refine T.ite (fun d=> ?_) fun d=> ?_
   ·have d:=Ode d;refine T.guard (by omega) ((Q4g _ _).bind fun t g=>T.guard (b a (by have:=g.1;omega)) ?_);rw[Zt (m:=n) (by omega) (by omega)];exact w (i+1) _ (by omega) (by omega) ((a.app g).mono (by omega))
   ·have d:=of_decide_eq_false d;have a:=a.mono (m:=4*n+3) (by omega);exact(Quk _).bind fun t _=>T.if (T.guard (b a (by simp;omega)) (f _ (a.one (Qne _ _ _ _)))) (f _ (a.mono (by omega)))
 have j: ∀o,FL 3 o->T (Zbv c o) fun r=>FL (4*n+6) r.1:=fun o a=>by
  unfold Zbv;exact v _ 0 o (by unfold Zfh;omega) (by omega) a
 have p: ∀o,FL 2 o->T (Zbu c o) fun r=>FL (4*n+6) r.1:=fun o a=>by
  unfold Zbu;exact(Qe8 _ _).bind fun t _=>T.if (T.guard (b a (by simp)) (j _ (a.one (Qne _ _ _ _)))) (j _ (a.mono (by omega)))
 have q: ∀o,FL 1 o->T (Zbt c o) fun r=>FL (4*n+6) r.1:=fun o a=>by
  unfold Zbt;exact(Qe8 _ _).bind fun t _=>T.if (T.guard (b a (by simp)) (p _ (a.one (Qne _ _ _ _)))) (p _ (a.mono (by omega)))
 unfold Zkg;exact(Zun h hK).bind fun t _=>T.if (T.pure (FL.nil.mono (by omega))) ((Qyg c).bind fun t _=>T.if (T.guard (b FL.nil (by simp)) (q _ (FL.nil.one (Qne _ _ _ _)))) (q _ (FL.nil.mono (by omega))))
theorem Qzf(n:Int):T (Zoo n) fun r=>0<=r.1/\r.1<=8:=by
 unfold Zoo;exact T.if (T.pure (by simp)) (T.if (T.pure (by simp)) (T.if (T.pure (by simp)) (T.if (T.pure (by simp)) (T.pure (by simp)))))
theorem Q6c(n k:Int): ∀(N m:Nat) (s:List UInt8),m<N->m<=8->s.length+m<=8->T (Yg N n k s ((m:Int)-1)) fun r=>r.1.length<=8
 |0,_,_,h,_,_=>by omega
 |N+1,0,s,_,_,a=>by
  unfold Yg;exact T.ite (fun h=>by simp at h) fun _=>T.pure (by simpa using a)
 |N+1,m+1,s,f,g,a=>by
  unfold Yg;have j: ∀b,T (Va (fun v=>Yg N v.1 v.2.1 v.2.2.1 v.2.2.2.1) n k s (((m+1:Nat):Int)-1) b) fun r=>r.1.length<=8:=fun b=>by
   unfold Va;obtain⟨d,e,i⟩:=Q0k b;have c:IntKind.i64.wrap (((m+1:Nat):Int)-1-1)=(m:Int)-1:=by rw[Zr (by omega) (by omega)];omega
   rw[e,Obs,c];exact T.guard (by unfold Ka;simp only;omega) (Q6c n k N m _ (by omega) (by omega) (by simp only[List.length_append];omega))
  exact T.ite (fun _=>T.guard (by rw[Zr (by omega) (by omega)];omega) (T.if (T.if (j _) (T.if (j _) (T.if (j _) (j _)))) (j _))) fun h=>by have:=of_decide_eq_false h;omega
theorem Xfr(n:Int):T (Zo1 n) fun r=>r.1.length<=8:=by
 unfold Zo1;refine(Qzf n).bind fun t a=> ?_;obtain⟨m,c⟩:=Int.eq_ofNat_of_zero_le a.1;have b:IntKind.i64.wrap (t.1-1)=(m:Int)-1:=by rw[Zr (by omega) (by omega)];omega
 rw[b];exact Q6c n _ _ m [] (by unfold Zja;omega) (by omega) (by simp;omega)
theorem Q2e(l:List Int)(hl:l.length<=1000): ∀(N i:Nat) (s:List UInt8),l.length-i<N->i<=l.length->s.length<=8*i->T (Zd2 N l s (i:Int)) fun r=>r.1.length<=8*l.length
 |0,_,_,h,_,_=>by omega
 |N+1,i,s,b,c,d=>by
  unfold Zd2;refine T.ite (fun a=> ?_) fun _=>T.pure (by simp only;omega);have a:=Ode a;refine T.guard (by omega) ((Qzf _).bind fun t _=>T.if (T.pure (by simp)) (T.guard (by omega) ((Xfr _).bind fun t e=>T.guard (by unfold Ka;omega) ?_)));rw[Zt (m:=l.length) (by omega) (by omega)];exact Q2e l hl N (i+1) _ (by omega) (by omega) (by simp only[List.length_append];omega)
theorem Xd7(l:List Int)(hl:l.length<=1000):T (Yc l) fun r=>r.1.length<=8*l.length:=by
 unfold Yc;exact Q2e l hl _ 0 _ (by unfold Zhp;omega) (by omega) (by simp)
theorem Qxv{f:Zi}(h:FOK f):T (Zi9 f) fun r=>r.1.length<=1100:=by
 have q: ∀l:List Int,l.length<=4->T (Yc l) fun r=>r.1.length<=32:=fun l d=>(Xd7 l (by omega)).mono fun y n=>by omega
 have a: ∀l:List Int,l.length<=4->T (Option.bind (Yc l) fun t=>some (t.1,())) fun r=>r.1.length<=1100:=fun l d=>(q l d).bind fun t m=>T.pure (by simp only;omega);have c: ∀l:List Int,l.length<=4->T (Option.bind (Yc l) fun t=>Ze (t.1.length+f.2.2.2.1.length<=Ka)<|some (t.1++f.2.2.2.1,())) fun r=>r.1.length<=1100:=fun l d=>(q l d).bind fun t m=>by
  unfold FOK at h;exact T.guard (by unfold Ka;omega) (T.pure (by simp only[List.length_append];omega))
 have e: ∀k,T (Zh6 f k) fun r=>r.1.length<=1100:=fun k=>T.if (c _ (by simp)) (c _ (by simp));have g: ∀k,T (Zh9 f k) fun r=>r.1.length<=1100:=fun k=>a _ (by simp);have i: ∀b,T (Zh8 f b) fun r=>r.1.length<=1100:=fun b=>T.if (a _ (by simp)) (T.if (g _) (g _));have j: ∀k b,T (Zh7 f k b) fun r=>r.1.length<=1100:=fun k b=>T.if (a _ (by simp)) (T.if (i _) (i _));unfold Zi9;exact(Zwv h).bind fun t _=>T.if (T.pure (by simp)) (T.if (a _ (by simp)) (T.if (a _ (by simp)) (T.if (T.if (e _) (e _)) (T.if (j _ _) (j _ _)))))
theorem Z6a{f:Zi}(h:FOK f):T (Zfm f) fun r=>0<=r.1/\r.1<=1100:=by
 unfold Zfm;exact(Qxv h).bind fun t a=>T.pure (by simp only;omega)
theorem Qxw(l:List Zi)(h:Qlt l): ∀(N i:Nat) (s:List UInt8),l.length-i<N->i<=l.length->s.length<=1100*i->T (Zbz N l s (i:Int)) fun r=>r.1.length<=400
 |0,_,_,h,_,_=>by omega
 |N+1,i,s,b,c,d=>by
  have e:=h.1;unfold Zbz;refine T.ite (fun a=> ?_) fun _=>T.ite (fun _=>T.pure (by simp)) fun h=>T.pure (by have:=of_decide_eq_false h;simp only;omega);have a:=Ode a;refine T.guard (by omega) ((Qxv (h.2 _ (Qh (by omega)))).bind fun t f=>T.if (T.pure (by simp)) (T.guard (by unfold Ka;omega) ?_));rw[Zt (m:=l.length) (by omega) (by omega)];exact Qxw l h N (i+1) _ (by omega) (by omega) (by simp only[List.length_append];omega)
theorem Q6b{l:List Zi}(h:Qlt l):T (Zfj l) fun r=>r.1.length<=400:=by
 unfold Zfj;exact Qxw l h _ 0 _ (by unfold Zfk;omega) (by omega) (by simp)
theorem Q9w{K:Nat}{c:Zf}{s:Zd}(hs:Xq K s)(k:Int):T (Znp c s k) fun r=>Xq K r.1.1:=by
 unfold Znp;exact T.if (T.pure (by exact⟨hs.snd,hs.rcv⟩)) (T.if (T.pure (by exact⟨hs.snd,hs.rcv⟩)) (T.if ((Qui _ _).bind fun t _=>T.if (T.pure (by exact⟨hs.snd,hs.rcv⟩)) (T.pure (by exact⟨hs.snd,hs.rcv⟩))) (T.if ((Q5z _).bind fun t _=>T.pure (by exact⟨hs.snd,hs.rcv⟩)) (T.pure hs))))
theorem Qyp{K:Nat}{c:Zf}(h:Qd K c)(hK:K+1<=500000)(f:Zi):T (Zeu c f) fun r=>Qd (K+1) r.1:=by
 unfold Zeu;rw[J2 h (by omega),Obs];have m:=h.mono (K':=K+1) (by omega);exact(Zxr h (by omega)).bind fun t _=>T.if (T.pure m) (T.if ((Qyg c).bind fun t _=>T.pure (by exact⟨m.str,m.pk⟩)) (T.if (T.if ((Qe8 _ _).bind fun t _=>T.pure (by exact⟨m.str,m.pk⟩)) ((Qe8 _ _).bind fun t _=>T.pure (by exact⟨m.str,m.pk⟩)))
  (T.if ((Q5z _).bind fun t _=>T.pure (by exact⟨m.str,m.pk⟩)) (T.if (T.if (T.pure (by exact⟨m.str,m.pk⟩)) (T.pure (by exact⟨m.str,m.pk⟩)))
   ((Zkn h (by omega) _).bind fun s a=>T.if ((Q9w a _).bind fun t b=>(Y2 h.str b (Nat.le_refl _) hK).bind fun e d=>T.pure (h.up (by omega) d)) (T.pure m))))))
theorem Xaw{K:Nat}{c:Zf}(h:Qd K c)(hK:K<=1000000):T (Zpa c) fun r=>r.1.length<=K:=by
 have f:=h.str.len;have d: ∀(N i:Nat) (o:List Z0),c.2.2.2.1.length-i<N->i<=c.2.2.2.1.length->o.length<=i->T (Wx N c o (i:Int)) fun r=>r.1.length<=K:=by
  intro N
  induction N with
  |zero=>intro i o h;omega
  |succ N e=>
   intro i o g k a;unfold Wx;refine T.ite (fun b=> ?_) fun _=>T.pure (by simp only;omega);have b:=Ode b;have j: ∀o,o.length<=i+1->T (Zfu (fun v=>Wx N v.1 v.2.1 v.2.2.1) c o (i:Int)) fun r=>r.1.length<=K:=fun o a=>by
    unfold Zfu;rw[Zt (m:=c.2.2.2.1.length) (by omega) (by omega)];exact e (i+1) o (by omega) (by omega) a
   exact T.guard (by omega) (T.if (T.guard (by unfold Qo;simp only[List.length_singleton];omega) (j _ (by simp;omega))) (j _ (by omega)))
 unfold Zpa;exact d _ 0 _ (by unfold Zjr;omega) (by omega) (by simp)
theorem Xax(l:List Z0)(hl:l.length<=1000000)(n:Int):T (Zpb l n) fun r=>r.1.length<=l.length:=by
 have c: ∀(N i:Nat) (o:List Z0),l.length-i<N->i<=l.length->o.length<=i->T (Wy N l n o (i:Int)) fun r=>r.1.length<=l.length:=by
  intro N
  induction N with
  |zero=>intro i o h;omega
  |succ N d=>
   intro i o e f a;unfold Wy;refine T.ite (fun b=> ?_) fun _=>T.pure (by simp only;omega);have b:=Ode b;have j: ∀o,o.length<=i+1->T (Zfv (fun v=>Wy N v.1 v.2.1 v.2.2.1 v.2.2.2.1) l n o (i:Int)) fun r=>r.1.length<=l.length:=fun o a=>by
    unfold Zfv;rw[Zt (m:=l.length) (by omega) (by omega)];exact d (i+1) o (by omega) (by omega) a
   exact T.guard (by omega) (T.if (T.guard (by omega) (T.guard (by unfold Qo;simp only[List.length_singleton];omega) (j _ (by simp;omega)))) (j _ (by omega)))
 unfold Zpb;exact c _ 0 _ (by unfold Zjs;omega) (by omega) (by simp)
theorem Q5n(l:List Z0)(hl:l.length<=1000000):TT (Zkf l):=by
 have b: ∀(N i:Nat),l.length-i<N->i<=l.length->TT (Zbs N l (i:Int)):=by
  intro N
  induction N with
  |zero=>intro i h;omega
  |succ N c=>
   intro i d e;unfold Zbs;refine T.ite (fun a=> ?_) fun _=>T.tt;have a:=Ode a;refine T.guard (by omega) ((Qzm _).bind fun t _=>T.guard (fun _=>by omega) (T.bind (Q:=fun _=>True) (T.if T.tt (tt1 (Z0k _))) fun t _=>T.guard (fun _ _=>by omega) (T.guard (fun _ h=> ?_) (T.if T.tt ?_))))
   ·have:=Ode h;rw[Zr (by omega) (by omega)];omega
   ·rw[Zt (m:=l.length) (by omega) (by omega)];exact c (i+1) (by omega) (by omega)
 unfold Zkf;exact b _ 0 (by unfold Zff;omega) (by omega)
theorem Q0r(l:List Z0)(hl:l.length<=1000000):T (Zo6 l) fun r=>r.1.length<=l.length:=by
 have f: ∀(N i:Nat) (o:List Int) (b:Int),l.length-i<N->i<=l.length->o.length<=i->T (Vd N l o b (i:Int)) fun r=>r.1.length<=l.length:=by
  intro N
  induction N with
  |zero=>intro i o b h;omega
  |succ N g=>
   intro i o b j k a;unfold Vd;refine T.bind (Q:=fun _=>True) (T.if (Q5n l hl) T.tt) fun t _=>T.ite (fun c=> ?_) fun _=>T.pure (by simp only;omega);have c: (i:Int)<l.length:=by simp at c;omega
   have d: ∀o b,o.length<=i+1->T (Zfp (fun v=>Vd N v.1 v.2.1 v.2.2.1 v.2.2.2.1) l o b (i:Int)) fun r=>r.1.length<=l.length:=fun o b a=>by
    unfold Zfp;rw[Zt (m:=l.length) (by omega) (by omega)];exact g (i+1) o b (by omega) (by omega) a
   have e: ∀o b,o.length<=i->T (Zfq (fun v=>Vd N v.1 v.2.1 v.2.2.1 v.2.2.2.1) l o b (i:Int)) fun r=>r.1.length<=l.length:=fun o b a=>by
    unfold Zfq;exact T.guard (by omega) (T.if (T.guard (by omega) (T.guard (by unfold Qo;simp only[List.length_singleton];omega) (d _ _ (by simp;omega)))) (d _ _ (by omega)))
   exact T.guard (by omega) (T.if (T.guard (by omega) (e _ _ (by simp))) (e _ _ a))
 unfold Zo6;exact f _ 0 _ _ (by unfold Zjf;omega) (by omega) (by simp)
theorem Q8t(l:List Int)(hl:l.length<=10000000000)(n:Int):TT (Zsw l n):=by
 have b: ∀(N i:Nat),l.length-i<N->i<=l.length->TT (Zjp N l n (i:Int)):=by
  intro N
  induction N with
  |zero=>intro i h;omega
  |succ N c=>
   intro i d e;unfold Zjp;refine T.ite (fun a=> ?_) fun a=>T.ite (fun _=>T.tt) fun h=>T.guard (by simp at h;have:=List.length_pos_iff.2 h;omega) T.tt;have a:=Ode a;refine T.guard (by omega) (T.if (T.guard (by omega) T.tt) ?_);rw[Zt (m:=l.length) (by omega) (by omega)];exact c (i+1) (by omega) (by omega)
 unfold Zsw;exact b _ 0 (by unfold Zln;omega) (by omega)
theorem Q0x(l:List Z0)(hl:l.length<=100000)(n:Int):TT (Zo7 l n):=by
 unfold Zo7;refine(Q0r l (by omega)).bind fun m f=> ?_;generalize m.1=m at f;have g: ∀(N i:Nat) (o:List Int),l.length-i<N->i<=l.length->o.length<=i*m.length->TT (Ve N l n m o (i:Int)):=by
  intro N
  induction N with
  |zero=>intro i o h;omega
  |succ N p=>
   intro i o r s b;have u:i*m.length<=100000*100000:=Nat.mul_le_mul (by omega) (by omega);unfold Ve;refine T.ite (fun c=> ?_) fun _=>(Q8t o (by omega) n).bind fun t _=>T.tt;have c:i<l.length:=by have:=Ode c;omega
   have q: ∀(M k:Nat) (o:List Int),m.length-k<M->k<=m.length->o.length<=i*m.length+k->TT (Wt (fun v=>Ve N v.1 v.2.1 v.2.2.1 v.2.2.2.1 v.2.2.2.2.1) M l n m o (i:Int) (k:Int)):=by
    intro M
    induction M with
    |zero=>intro k o h;omega
    |succ M d=>
     intro k o w hk b;unfold Wt;refine T.ite (fun a=> ?_) fun a=> ?_
     ·have a:k<m.length:=by have:=Ode a;omega
      have j: ∀o:List Int,o.length<=i*m.length+k+1->TT (Zfr (fun v=>Ve N v.1 v.2.1 v.2.2.1 v.2.2.2.1 v.2.2.2.2.1) (fun v=>Wt (fun v=>Ve N v.1 v.2.1 v.2.2.1 v.2.2.2.1 v.2.2.2.2.1) M v.1 v.2.1 v.2.2.1 v.2.2.2.1 v.2.2.2.2.1 v.2.2.2.2.2.1) l n m o (i:Int) (k:Int)):=fun o b=>by
       unfold Zfr;rw[Zt a (by omega)];exact d (k+1) o (by omega) (by omega) b
      exact T.guard (by omega) (T.guard (by omega) (T.guard (fun _=>by omega) (T.if (T.guard (by omega) T.tt) (T.guard (by omega) (T.guard (by omega) (T.if (T.guard (by omega) (T.guard (by unfold Qo;simp only[List.length_singleton];omega) (j _ (by simp;omega)))) (j _ (by omega))))))))
     ·have a:=of_decide_eq_false a;have e:k=m.length:=by omega
      rw[Zt c (by omega)];exact p (i+1) o (by omega) (by omega) (by rw[Nat.succ_mul];omega)
   exact q _ 0 o (by unfold Zji;omega) (by omega) b
 exact g _ 0 _ (by unfold Zjh;omega) (by omega) (by simp)
theorem Q7s{K:Nat}{c:Zf}(h:Qd K c)(hK:K<=1000000)(i room:Int):T (Zsv c i room) fun r=>r.1.2.1.length<=64:=by
 have z:Zrn.2.1.length<=64:=Nat.zero_le _;have g: ∀(t:Ja) (s:Zd) (m:Int),Xq K s-> ∀(N n:Nat),n<N->n<=60->T (Zjm N i room t s m (n:Int)) fun r=>r.1.2.1.length<=64:=by
  intro t s m b N
  induction N with
  |zero=>intro n h;omega
  |succ N j=>
   intro n d k;unfold Zjm;refine T.ite (fun a=> ?_) fun _=>T.pure z;have a:=Ode a;obtain⟨p,u,e,v⟩:=Q4m b.snd (n:Int) m (by omega);rw[e,Obs];have l:IntKind.i64.wrap ((n:Int)-1)=((n-1:Nat):Int):=by rw[Zr (by omega) (by omega)];omega
   rw[l];exact T.if (T.pure z) (T.bind (Q:=fun r=>FOK r.1) (T.pure (by unfold FOK;simp only;omega)) fun f o=>(Z6a o).bind fun t _=>T.if (T.pure (by simp only;omega)) (j (n-1) (by omega) (by omega)))
 have q: ∀c,TT (Zo0 c):=fun c=>by
  unfold Zo0;exact(tt1 (Zog c)).bind fun t _=>T.if T.tt T.tt
 unfold Zsv;refine(Zkn h hK i).bind fun s b=>(Zxr h hK).bind fun t _=>T.ite (fun _=>T.pure z) fun a=>(q _).bind fun t _=> ?_;have w: ¬room<3:=by simp at a;omega
 obtain⟨n,d⟩:=Int.eq_ofNat_of_zero_le (show 0<=min room 60 by omega);simp only[d];exact g _ _ _ b _ n (by unfold Zlm;omega) (by omega)
theorem Qsl(c:Wb)(n:Int):TT (Zms c n):=by
 unfold Zms;exact(tt1 (Zog c)).bind fun t _=>T.if T.tt T.tt
theorem Q4j{K:Nat}{c:Zf}(h:Qd K c)(hK:K+1<=500000)(i:Int)(p:Ja):T (Zje c i p) fun r=>Qd (K+1) r.1:=by
 unfold Zje;rw[J2 h (by omega),Obs];refine(Zkn h (by omega) i).bind fun s a=>(Zxr h (by omega)).bind fun t _=>T.if (T.pure (h.mono (by omega))) ?_;obtain⟨x,f,e,b⟩:=Q42 a.snd p (by omega);rw[e,Obs];exact(Qsl _ _).bind fun t _=>(Qsl _ _).bind fun t _=>T.if (T.pure (h.mono (by omega))) ((Y2 h.str (by exact⟨b,a.rcv⟩) (Nat.le_refl _) hK).bind fun g d=>T.pure (by exact⟨d,h.pk.mono (by omega)⟩))
theorem Q69{K:Nat}{c:Zf}(h:Qd K c)(hK:K+1<=500000)(i:Int):T (Zlc c i) fun r=>Qd (K+1) r.2.1:=by
 unfold Zlc;exact(Zkn h (by omega) i).bind fun s a=>(Xbe _).bind fun t _=>(Xbe _).bind fun t _=>(Y2 h.str (by exact⟨a.snd,a.rcv⟩) (Nat.le_refl _) hK).bind fun d b=>T.pure (by exact⟨b,h.pk.mono (by omega)⟩)
theorem Q6j{K F:Nat}(hK:K<=90000)(hF:F<=1000000): ∀(N i:Nat) (x:Zf) (fr:List Zi) (room:Int) (sk:List Int),200-i<N->i<=200->Qd (K+i) x->FL (F+i) fr->sk.length<=i->
  T (Vj N x fr room sk (i:Int)) fun r=>Qd (K+200) r.2.1/\FL (F+200) r.1.1
 |0,_,_,_,_,_,h,_,_,_,_=>by omega
 |N+1,i,x,fr,room,sk,D,E,hx,a,g=>by
  unfold Vj;refine T.ite (fun c=> ?_) fun c=>T.pure ⟨hx.mono (by omega),a.mono (by omega)⟩;have c:i<200:=by have:=Ode c;omega
  refine(Xaw hx (by omega)).bind fun w u=> ?_;have j: ∀(x:Zf) (fr:List Zi) (room:Int) (sk:List Int),Qd (K+i+1) x->FL (F+i+1) fr->sk.length<=i+1->
    T (Zdp (fun v=>Vj N v.1 v.2.1 v.2.2.1 v.2.2.2.1 v.2.2.2.2.1) x fr room sk (i:Int)) fun r=>Qd (K+200) r.2.1/\FL (F+200) r.1.1:=fun x fr room sk hx a g=>by
   unfold Zdp;rw[Zt c (by omega)];exact Q6j hK hF N (i+1) x fr room sk (by omega) (by omega) hx a g
  have z: ∀(o:Int) (p:Ja) (y:Zf) (q:Bool),p.2.1.length<=64->Qd (K+i+1) y->
    T (Zgn (fun v=>Vj N v.1 v.2.1 v.2.2.1 v.2.2.2.1 v.2.2.2.2.1) x fr room sk (i:Int) o p y q) fun r=>Qd (K+200) r.2.1/\FL (F+200) r.1.1:=fun o p y q s A=>by
   unfold Zgn;exact T.if (T.pure ⟨hx.mono (by omega),a.mono (by omega)⟩) (T.bind (Q:=fun r=>FOK r.1) (T.pure (by unfold FOK;simp only;omega)) fun f b=>T.guard (by have:=a.1;unfold Qo;simp only[List.length_singleton];omega) ((Z6a b).bind fun t _=>j _ _ _ _ A (a.one b) (by omega)))
  have B: ∀(M k:Nat) (l:List Z0),sk.length-k<M->k<=sk.length->l.length<=K+i->
    T (Zdq (fun v=>Vj N v.1 v.2.1 v.2.2.1 v.2.2.2.1 v.2.2.2.2.1) M x fr room sk (i:Int) l (k:Int)) fun r=>Qd (K+200) r.2.1/\FL (F+200) r.1.1:=by
   intro M
   induction M with
   |zero=>intro k l h;omega
   |succ M C=>
    intro k l G hk H;unfold Zdq;refine T.ite (fun e=> ?_) fun e=> ?_
    ·have e:=Ode e;refine T.guard (by omega) ((Xax l (by omega) _).bind fun t d=> ?_);rw[Zt (m:=sk.length) (by omega) (by omega)];exact C (k+1) _ (by omega) (by omega) (by omega)
    ·simp only[Kj];exact(Q0x l (by omega) _).bind fun n _=>T.if (T.pure ⟨hx.mono (by omega),a.mono (by omega)⟩) ((Q7s hx (by omega) _ _).bind fun p s=>T.if
      ((Q69 hx (by omega) _).bind fun t d=>T.guard (by unfold Qo;simp only[List.length_singleton];omega) (j _ _ _ _ d (a.mono (by omega)) (by simp;omega)))
      ((Q4j hx (by omega) _ _).bind fun t d=>z _ _ _ _ s d))
  exact B _ 0 w.1 (by unfold Zm2;omega) (by omega) u
theorem Q9x{K F:Nat}(hK:K<=90000)(hF:F<=1000000){x:Zf}{fr:List Zi}(hx:Qd K x)(hf:FL F fr)(room:Int):T (Zrk x fr room) fun r=>Qd (K+200) r.2.1/\FL (F+200) r.1.1:=by
 unfold Zrk;exact Q6j hK hF _ 0 x fr room [] (by unfold Zm1;omega) (by omega) hx hf (by simp)
theorem Qz1{K:Nat}{c:Zf}(h:Qd K c)(hK:K<=80000)(b:Int):T (Zgh c b) fun r=>Qd (K+1000) r.1.2.2.1:=by
 have s: ∀(t:Zf) (l:List Zi),FL 606 l-> ∀(N i:Nat) (x:Zf) (e:List Zi) (a:Int),l.length-i<N->i<=l.length->Qd (K+i) x->FL i e->
   T (Y4 N c t x e a l (i:Int)) fun r=>Qd (K+1000) r.1.2.2.1:=by
  intro t l k N;have o:=k.1
  induction N with
  |zero=>intro i x e a h;omega
  |succ N u=>
   intro i x e a w y hx f;have q: ∀(x:Zf) (e:List Zi) (a:Int),i<l.length->Qd (K+i+1) x->FL (i+1) e->
     T (Wp (fun v=>Y4 N v.1 v.2.1 v.2.2.1 v.2.2.2.1 v.2.2.2.2.1 v.2.2.2.2.2.1 v.2.2.2.2.2.2.1) c t x e a l (i:Int)) fun r=>Qd (K+1000) r.1.2.2.1:=fun x e a g hx f=>by
    unfold Wp;rw[Zt g (by omega)];exact u (i+1) x e a (by omega) (by omega) hx f
   unfold Y4;refine T.ite (fun g=> ?_) fun g=> ?_
   ·have g:=Ode g;have m:=k.2 _ (Qh (d:=Qr) (show i<l.length by omega));exact T.guard (by omega) ((Z6a m).bind fun t _=>T.if (T.guard (by omega) ((Z6a m).bind fun t _=>T.guard (by omega) ((Qyp hx (by omega) _).bind fun t n=>T.guard (by omega) (T.guard (by have:=f.1;unfold Qo;simp only[List.length_singleton];omega) (q _ _ _ (by omega) n (f.one m)))))) (q _ _ _ (by omega) (hx.mono (by omega)) (f.mono (by omega))))
   ·refine(Q9x (by omega) (by omega) hx f _).bind fun r j=>T.if (T.pure (j.1.mono (by omega))) ?_;have hp:=j.1.pk.1;have f:Qlt r.1.1:=⟨by have:=j.2.1;omega,j.2.2⟩
    exact T.guard (by unfold Qo;simp only[List.length_singleton];omega) ((Q6b f).bind fun t _=>T.pure (by exact⟨j.1.str.mono (by omega),⟨by simp only[List.length_append,List.length_singleton];omega,fun p hp=>by
     rcases List.mem_append.1 hp with hp|hp
     ·exact j.1.pk.2 p hp
     ·rw[List.mem_singleton.1 hp];exact f⟩⟩))
 unfold Zgh;rw[J2 h (by omega),Obs];exact(Qyf h (by omega)).bind fun t n=>T.bind (Q:=fun _=>True) (T.if T.tt (tIn _ _ _)) fun t _=>T.ite (fun _=>T.pure (h.mono (by omega))) fun g=>(Qss h (by omega)).bind fun l k=>by
  have:=n (by simp at g;simp[g]);exact s _ _ (k.mono (by omega)) _ 0 _ _ _ (by unfold Zi8;omega) (by omega) h FL.nil
theorem Qq8(n:Int){K:Nat}(h25:25<=K)(hK:K<=400000): ∀(N m:Nat) (c:Zf),m<N->c.2.2.2.1.length+m<=24->Qd K c->T (Ki N c n ((m:Int)-1)) fun r=>Qd K r.2.1
 |0,_,_,h,_,_=>by omega
 |N+1,0,c,_,_,h=>by
  unfold Ki;exact T.ite (fun h=>by simp at h) fun _=>T.pure h
 |N+1,m+1,c,d,f,h=>by
  unfold Ki;simp only[Kj];refine T.ite (fun _=>(Qay _ _ _ _).bind fun s a=> ?_) fun h=>by have:=of_decide_eq_false h;omega
  unfold Zgm;have e:IntKind.i64.wrap (((m+1:Nat):Int)-1-1)=(m:Int)-1:=by rw[Zr (by omega) (by omega)];omega
  rw[e];obtain⟨y,e,g,b⟩:=Quw h.str (a.mono (Nat.zero_le K)) (by omega);rw[e,Obs];exact Qq8 n h25 hK N m _ (by omega) (by simp only;omega) ⟨⟨by simp only;omega,b⟩,h.pk⟩
theorem Q67{K:Nat}{c:Zf}(h25:25<=K)(hK:K<=400000)(h:Qd K c)(n:Int)(m:Nat)(hm:c.2.2.2.1.length+m<=24):T (Znn c n (m:Int)) fun r=>Qd K r.2.1:=by
 unfold Znn;rw[Zr (by omega) (by omega)];exact Qq8 n h25 hK _ m c (by unfold Zha;omega) hm h
theorem inT(n a b:Int):T (Z5 n a b) fun r=>r.1=true->a<=n/\n<=b:=⟨_,Zws n a b,fun h=>by simpa using h⟩
theorem Q63(a:Wb):T (Vp a) fun r=>r.1=true->a.2.1<=1152921504606846976/\0<=a.2.2.1/\a.2.2.1<=a.2.1:=by
 unfold Vp;have B: ∀{b:Bool} {n l h:Int} {β:Type} {f:Bool×Unit->Option β} {R:β->Prop},(∀r:Bool×Unit,(r.1=true->l<=n/\n<=h)->T (f r) R)->T (Option.bind (bif b then Z5 n l h else some (false,())) f) R:=fun k=>T.bind (T.if (inT _ _ _) (T.pure fun h=>by cases h)) k;exact(inT _ _ _).bind fun e g=>B fun i c=>B fun j d=>B fun m o=>T.pure fun h=>by
  simp only[Oba]at h;have:=c h.1.1.1.2;have:=d h.1.1.2;omega
theorem Q41(a:Wb)(n:Int):T (Zhu a n) fun r=>0<=r.2.1/\r.2.1<=1152921504606846976:=by
 unfold Zhu;refine(Q63 a).bind fun t c=>T.ite (fun _=>T.pure (by simp)) fun b=>T.pure ?_;simp at b;have:=c b.1.1;simp only;rw[Zr (n:=n+1) (by omega) (by omega),Zr (n:=n+1-a.2.2.1) (by omega) (by omega)];omega
theorem Zqk{K:Nat}{c:Zf}(h:Qd K c)(h25:25<=K)(hK:K<=400000)(i:Int):T (Yy c i) fun r=>Qd K r.1:=by
 have q:=h.str.len;have d: ∀t x (n:Nat),x.2.2.2.1.length+n<=24->Qd K x->T (Yz i t x (n:Int)) fun r=>Qd K r.1:=fun t x n f hx=>by
  unfold Yz;exact(Q67 h25 hK hx i n f).bind fun r m=>T.pure m
 have o: ∀t b n g,0<=n->n<=1152921504606846976->T (Kw i c t c b n g) fun r=>Qd K r.1:=fun t b n g p s=>by
  unfold Kw;refine T.ite (fun _=>T.pure h) fun j=> ?_;have f: (c.2.2.2.1.length:Int)+n<=24:=by
   simp at j;have:=j.2;rw[Zr (by omega) (by omega)]at this;omega
  obtain⟨n,rfl⟩:=Int.eq_ofNat_of_zero_le p;exact(Xas i).bind fun t _=>T.if (d _ _ n (by simp only;omega) (by exact⟨h.str,h.pk⟩)) (d _ _ n (by simp only;omega) (by exact⟨h.str,h.pk⟩))
 have k: ∀t a,T (Xg i c t c a) fun r=>Qd K r.1:=fun t a=>by
  unfold Xg;simp only[Kj,Zhj];exact(tt1 (Q9l i)).bind fun t _=>(Q41 _ _).bind fun t l=>o _ _ _ _ l.1 l.2
 unfold Yy;rw[J2 h (by omega),Obs];exact(Zxr h (by omega)).bind fun t _=>T.bind (Q:=fun _=>True) (T.if T.tt (Qzm i)) fun t _=>T.if (T.pure h) (T.bind (Q:=fun _=>True) (tt1 (by obtain⟨v,e,-⟩:=Zu7 c.2.2.2.1 i (by omega);exact⟨v,e⟩)) fun t _=>T.if (T.pure h) ((Xcw _ _).bind fun t _=>T.if (T.pure h) ((Xas i).bind fun t _=>T.if (k _ _) (k _ _))))
theorem Qu3(w:Qw)(n:Int):TT (Zht w n):=by
 unfold Zht;exact(tt1 (Zvf w)).bind fun t _=>T.if T.tt T.tt
theorem Q2t{K:Nat}{x:Zf}{s:Zd}(h:Qd K x)(hs:Xq K s)(hK:K<=1000000)(e:Int):T (Zef x s e) fun r=>Qd K r.2.1/\Xq K r.2.2.1:=by
 have a:TT (Zlb s.2.2.2.1 e):=by
  unfold Zlb;exact(tt1 (Zkb hs.rcv hK)).bind fun t _=>T.bind (Q:=fun _=>True) (T.if T.tt (Qzm _)) fun t _=>T.if T.tt T.tt
 unfold Zef;exact a.bind fun t _=>T.if (T.pure ⟨h,hs⟩) ((Qu3 _ _).bind fun t _=>(Qu3 _ _).bind fun t _=>T.if (T.pure ⟨h,hs⟩) (T.pure ⟨⟨h.str,h.pk⟩,⟨hs.snd,hs.rcv⟩⟩))
theorem Q8b(s:Bool)(n:Int):TT (Yx s n):=tt1 (Q15 s n)
theorem Q3l(s:Bool)(n:Int):TT (Q4 s n):=tt1 (Qo7 s n)
theorem Q0c{K:Nat}{c:Zf}{f:Zi}(h:Qd K c)(hf:FOK f)(h25:25<=K)(hK:K<=390000):T (Zbc c f) fun r=>Qd (K+f.2.2.2.1.length+2) r.1.1:=by
 have m:=h.mono (K':=K+f.2.2.2.1.length+2) (by omega);have a: ∀v:Int,T (Option.bind (Z4 c) fun t=>some ((t.1,(v,())),())) fun r=>Qd (K+f.2.2.2.1.length+2) r.1.1:=fun v=>by
  rw[J2 h (by omega),Obs];exact T.pure m
 unfold Zbc;refine(Zxr h (by omega)).bind fun t _=>T.bind (Q:=fun _=>True) (T.if T.tt (Zwv hf)) fun t _=>T.if (a 7) ((Q3l _ _).bind fun t _=>T.if (a 5) ((Zqk h h25 (by omega) _).bind fun x hx=>T.if (a _) ((Zkn hx (by omega) _).bind fun s b=> ?_)));obtain⟨r,v,e,g⟩:=Z40 b.rcv f.2.2.1 f.2.2.2.1 f.2.2.2.2.1 (by unfold FOK at hf;omega);rw[e,Obs];unfold FOK at hf;exact(Q2t hx b (by omega) _).bind fun y d=>T.if (a _) (T.if (a _) ((Z6f (K':=K+f.2.2.2.1.length+1) d.1 (by exact⟨d.2.snd.mono (by omega),g.mono (by omega)⟩) (by omega) (by omega)).bind fun t i=>T.pure (i.mono (by omega))))
theorem Qx6{K:Nat}{c:Zf}{f:Zi}(h:Qd K c)(hf:FOK f)(h25:25<=K)(hK:K<=390000):T (Zab c f) fun r=>Qd (K+f.2.2.2.1.length+2) r.1.1:=by
 have m:=h.mono (K':=K+f.2.2.2.1.length+2) (by omega);have a: ∀v:Int,T (Option.bind (Z4 c) fun t=>some ((t.1,(v,())),())) fun r=>Qd (K+f.2.2.2.1.length+2) r.1.1:=fun v=>by
  rw[J2 h (by omega),Obs];exact T.pure m
 unfold Zab;refine(Zxr h (by omega)).bind fun t _=>T.bind (Q:=fun _=>True) (T.if T.tt (Zwv hf)) fun t _=>T.if (a 7) ((Q3l _ _).bind fun t _=>T.if (a 5) ((Zqk h h25 (by omega) _).bind fun x hx=>T.if (a _) ((Zkn hx (by omega) _).bind fun s b=> ?_)));obtain⟨r,v,e,i⟩:=Z0y b.rcv (by omega) f.2.2.2.2.2.1 f.2.2.2.2.2.2.2.1;rw[e,Obs];have j: ∀(t x:Zf) (s:Zd),Qd K x->Xq K s->T (Jm t x s r) fun r=>Qd (K+f.2.2.2.1.length+2) r.1.1:=fun t x s hx b=>by
  unfold Jm;exact(Z6f hx (by exact⟨b.snd,i⟩) (Nat.le_refl _) (by omega)).bind fun t k=>T.pure (k.mono (by omega))
 exact(Q2t hx b (by omega) _).bind fun y d=>T.if (a _) (T.if (a _) (T.if ((Q2u d.1 d.2 _).bind fun z g=>j _ _ _ g.1 g.2) (j _ _ _ d.1 d.2)))
theorem Q0d{K:Nat}{c:Zf}{f:Zi}(h:Qd K c)(hf:FOK f)(h25:25<=K)(hK:K<=390000):T (Zbd c f) fun r=>Qd (K+f.2.2.2.1.length+2) r.1.1:=by
 have m:=h.mono (K':=K+f.2.2.2.1.length+2) (by omega);have b: ∀v:Int,T (Option.bind (Z4 c) fun t=>some ((t.1,(v,())),())) fun r=>Qd (K+f.2.2.2.1.length+2) r.1.1:=fun v=>by
  rw[J2 h (by omega),Obs];exact T.pure m
 unfold Zbd;refine(Zxr h (by omega)).bind fun t _=>T.bind (Q:=fun _=>True) (T.if T.tt (Zwv hf)) fun t _=>T.if (b 7) ((Q8b _ _).bind fun t _=>T.if (b 5) ((Zqk h h25 (by omega) _).bind fun x hx=>T.if (b _) ((Zkn hx (by omega) _).bind fun s a=> ?_)));obtain⟨r,v,e,d⟩:=Zw7 a.snd f.2.2.2.2.2.1 (by omega);rw[e,Obs];have j: ∀(t x:Zf) (s:Zd),Qd K x->Xq K s->T (Vc t x s) fun r=>Qd (K+f.2.2.2.1.length+2) r.1.1:=fun t x s hx a=>by
  unfold Vc;exact(Z6f hx a (Nat.le_refl _) (by omega)).bind fun t g=>T.pure (g.mono (by omega))
 exact T.if (j _ _ _ hx (by exact⟨d,a.rcv⟩)) (j _ _ _ hx a)
theorem Qlm(c:Wb)(n:Int):TT (Zdm c n):=by
 unfold Zdm;exact(tt1 (Zog c)).bind fun t _=>T.bind (Q:=fun _=>True) (T.if T.tt (Qzm _)) fun t _=>T.if T.tt T.tt
theorem Qll(c:Zdh)(n:Int):TT (Zdl c n):=by
 unfold Zdl;exact(tt1 (Z6d c)).bind fun t _=>T.if T.tt T.tt
theorem Qx5{K:Nat}{c:Zf}{f:Zi}(h:Qd K c)(hf:FOK f)(h25:25<=K)(hK:K<=390000):T (Zaa c f) fun r=>Qd (K+f.2.2.2.1.length+2) r.1:=by
 have m:=h.mono (K':=K+f.2.2.2.1.length+2) (by omega);have a: ∀v:Int,T (Option.bind (Z4 c) fun t=>some (t.1,v,())) fun r=>Qd (K+f.2.2.2.1.length+2) r.1:=fun v=>by
  rw[J2 h (by omega),Obs];exact T.pure m
 have d: ∀t x,Qd (K+f.2.2.2.1.length+2) x->T (Zez t x) fun r=>Qd (K+f.2.2.2.1.length+2) r.1:=fun t x hx=>T.pure hx;have e: ∀t b,T (Zaf c f t b) fun r=>Qd (K+f.2.2.2.1.length+2) r.1:=fun t b=>by
  unfold Zaf;exact T.if (a _) ((Zqk h h25 (by omega) _).bind fun x hx=>T.if (a _) (T.if ((Zkn hx (by omega) _).bind fun s g=>(Qlm _ _).bind fun t _=>(Y2 hx.str (by exact⟨g.snd,g.rcv⟩) (Nat.le_refl _) (by omega)).bind fun q n=>d _ _ ((hx.up (by omega) n).mono (by omega))) (d _ _ (hx.mono (by omega)))))
 have o:T (Zhv c f) fun r=>Qd (K+f.2.2.2.1.length+2) r.1:=by
  unfold Zhv;exact(Q8b _ _).bind fun t _=>T.if ((Q3l _ _).bind fun t _=>e _ _) (e _ _)
 have i: ∀t x,Qd (K+f.2.2.2.1.length+2) x->T (Za5 t x) fun r=>Qd (K+f.2.2.2.1.length+2) r.1:=fun t x hx=>T.pure hx;have j: ∀t b,T (Jl c f t c b) fun r=>Qd (K+f.2.2.2.1.length+2) r.1:=fun t b=>by
  unfold Jl;exact T.if (o.bind fun r p=>T.pure p) (T.pure m)
 have l: ∀t k b,T (Jk c f t c k b) fun r=>Qd (K+f.2.2.2.1.length+2) r.1:=fun t k b=>by
  unfold Jk;exact T.if (T.pure m) (T.if (j _ _) (j _ _))
 unfold Zaa;rw[J2 h (by omega),Obs];exact(Zxr h (by omega)).bind fun t _=>T.bind (Q:=fun _=>True) (T.if T.tt (Zwv hf)) fun t _=>T.if (T.pure m) (T.if ((Qlm _ _).bind fun t _=>T.pure (by exact⟨m.str,m.pk⟩)) (T.if (T.if ((Qll _ _).bind fun t _=>i _ _ (by exact⟨m.str,m.pk⟩)) ((Qll _ _).bind fun t _=>i _ _ (by exact⟨m.str,m.pk⟩))) (T.if (l _ _ _) (l _ _ _))))
theorem Z3w{K:Nat}{c:Zf}{f:Zi}(h:Qd K c)(hf:FOK f)(h25:25<=K)(hK:K<=390000):T (Jg c f) fun r=>Qd (K+f.2.2.2.1.length+2) r.1.1:=by
 have b: ∀t x e,Qd (K+f.2.2.2.1.length+2) x->T (Jj t x e) fun r=>Qd (K+f.2.2.2.1.length+2) r.1.1:=fun t x e hx=>T.pure hx;unfold Jg;rw[J2 h (by omega),Obs];exact T.if ((Q0c h hf h25 hK).bind fun r a=>b _ _ _ a) (T.if ((Qx6 h hf h25 hK).bind fun r a=>b _ _ _ a) (T.if ((Q0d h hf h25 hK).bind fun r a=>b _ _ _ a) ((Qx5 h hf h25 hK).bind fun r a=>b _ _ _ a)))
theorem Qyu{K:Nat}{c:Zf}(h:Qd K c)(hK:K<=1000000)(n:Int):T (Zon c n) fun r=>Qlt r.1.2.1:=by
 have k:=h.pk.1;have e: ∀(t:Z9) (N i:Nat),c.2.2.2.2.2.2.2.2.2.2.2.2.2.2.2.1.length-i<N->i<=c.2.2.2.2.2.2.2.2.2.2.2.2.2.2.2.1.length->T (Zjk N n c t (i:Int)) fun r=>Qlt r.1.2.1:=by
  intro t N
  induction N with
  |zero=>intro i h;omega
  |succ N g=>
   intro i l o;unfold Zjk;refine T.ite (fun a=> ?_) fun a=>T.pure ⟨Nat.zero_le _,fun f j=>by cases j⟩;have a:=Ode a;have b:=h.pk.2 _ (Qh (d:=Qk) (show i<c.2.2.2.2.2.2.2.2.2.2.2.2.2.2.2.1.length by omega));refine T.guard (by omega) (T.if (T.guard (by omega) (T.guard ?_ (T.pure b))) ?_)
   ·have:=b.1;unfold Qo;rw[show(i:Int).toNat=i from rfl];simp only[List.length_nil];omega
   ·rw[Zt (m:=c.2.2.2.2.2.2.2.2.2.2.2.2.2.2.2.1.length) (by omega) (by omega)];exact g (i+1) (by omega) (by omega)
 unfold Zon;exact e _ _ 0 (by unfold Zll;omega) (by omega)
theorem Q2v{K:Nat}{c:Zf}(h:Qd K c)(hK:K<=1000000)(n:Int):T (Zkl c n) fun r=>Qd K r.2.1:=by
 have k:=h.pk.1;have e: ∀(N i:Nat) (o:List Z9),c.2.2.2.2.2.2.2.2.2.2.2.2.2.2.2.1.length-i<N->i<=c.2.2.2.2.2.2.2.2.2.2.2.2.2.2.2.1.length->Qso i o->T (Vk N c n o (i:Int)) fun r=>Qd K r.2.1:=by
  intro N
  induction N with
  |zero=>intro i o h;omega
  |succ N f=>
   intro i o l q a;unfold Vk;refine T.ite (fun b=> ?_) fun b=>T.pure ⟨h.str,a.mono (by omega)⟩;have b:=Ode b;have g:=h.pk.2 _ (Qh (d:=Qk) (show i<c.2.2.2.2.2.2.2.2.2.2.2.2.2.2.2.1.length by omega));have j: ∀o,Qso (i+1) o->T (Zdu (fun v=>Vk N v.1 v.2.1 v.2.2.1 v.2.2.2.1) c n o (i:Int)) fun r=>Qd K r.2.1:=fun o a=>by
    unfold Zdu;rw[Zt (m:=c.2.2.2.2.2.2.2.2.2.2.2.2.2.2.2.1.length) (by omega) (by omega)];exact f (i+1) o (by omega) (by omega) a
   exact T.guard (by omega) (T.if (T.guard (by omega) (T.guard (by have:=a.1;unfold Qo;simp only[List.length_singleton];omega) (j _ ⟨by have:=a.1;simp;omega,fun p hp=>by
    rcases List.mem_append.1 hp with hp|hp
    ·exact a.2 p hp
    ·rw[List.mem_singleton.1 hp];exact g⟩))) (j _ (a.mono (by omega))))
 unfold Zkl;exact e _ 0 _ (by unfold Zm4;omega) (by omega) ⟨by simp,by simp⟩
theorem Qzu(f:Zi):TT (Wr f):=by
 have j: ∀b,TT (Yj b):=fun b=>by unfold Yj;exact T.if T.tt T.tt
 unfold Wr;exact T.if (j _) (T.if (j _) (T.if (j _) (T.if (j _) (j _))))
theorem Q9z{K:Nat}{x:Zf}(h:Qd K x)(hK:K+1<=500000)(f:Zi):T (Znr x f) fun r=>Qd (K+1) r.2.1:=by
 have m:=h.mono (K':=K+1) (by omega);have c: ∀s,Xq K s->T (Vl x s) fun r=>Qd (K+1) r.2.1:=fun s a=>by
  unfold Vl;exact(Y2 h.str a (Nat.le_refl _) hK).bind fun t d=>T.pure (h.up (by omega) d)
 have g: ∀s b,Xq K s->T (Zgo x f s b) fun r=>Qd (K+1) r.2.1:=fun s b a=>by
  unfold Zgo;refine T.bind (Q:=fun _=>True) (T.if T.tt (Qzu f)) fun t _=>T.if (T.pure m) (T.if ?_ (T.if (c _ (by exact⟨a.snd,a.rcv⟩)) (T.if (c _ (by exact⟨a.snd,a.rcv⟩)) (T.if (c _ (by exact⟨a.snd,a.rcv⟩)) (c _ a)))));refine T.bind (Q:=fun _=>True) ⟨_,rfl,trivial⟩ fun p _=> ?_;obtain⟨y,e,i⟩:=Q4i a.snd p.1 (by omega);rw[e,Obs];exact c _ ⟨i,a.rcv⟩
 unfold Znr;simp only[Kj];exact T.if (T.pure (by exact⟨m.str,m.pk⟩)) (T.if (T.if (T.pure (by exact⟨m.str,m.pk⟩)) (T.pure (by exact⟨m.str,m.pk⟩))) ((Zkn h (by omega) _).bind fun s a=>g _ _ a))
theorem Xcl{K:Nat}{x:Zf}(h:Qd K x)(hK:K+1<=500000)(f:Zi):T (Zp7 x f) fun r=>Qd (K+1) r.2.1:=by
 have m:=h.mono (K':=K+1) (by omega);have c: ∀s,Xq K s->T (Wa x s) fun r=>Qd (K+1) r.2.1:=fun s a=>by
  unfold Wa;exact(Z6f h a (Nat.le_refl _) hK).bind fun t g=>T.pure g
 have i: ∀s b,Xq K s->T (Zjt x f s b) fun r=>Qd (K+1) r.2.1:=fun s b a=>by
  unfold Zjt;refine T.bind (Q:=fun _=>True) (T.if T.tt (Qzu f)) fun t _=>T.if (T.pure m) (T.if ?_ (T.if ?_ (T.if (c _ (by exact⟨a.snd,a.rcv⟩)) (c _ a))))
  ·refine T.bind (Q:=fun _=>True) ⟨_,rfl,trivial⟩ fun p _=> ?_;obtain⟨y,e,d⟩:=Q5j a.snd p.1 (by omega);rw[e,Obs];exact c _ ⟨d,a.rcv⟩
  ·obtain⟨y,j,e,d⟩:=Q5k a.snd (by omega);rw[e,Obs];exact T.if (c _ (by exact⟨d,a.rcv⟩)) (c _ (by exact⟨d,a.rcv⟩))
 unfold Zp7;simp only[Kj];exact(Zkn h (by omega) _).bind fun s a=>i _ _ a
theorem Q0o{K:Nat}{c:Zf}(h:Qd K c)(hK:K<=400000)(n:Int):T (Zgj c n) fun r=>Qd (K+1000) r.1.1:=by
 have m:=h.mono (K':=K+1000) (by omega);unfold Zgj;rw[J2 h (by omega),Obs];refine(Qyu h (by omega) n).bind fun p b=>(Zun h (by omega)).bind fun t _=>T.if (T.pure m) ((Q2v h (by omega) n).bind fun x hx=> ?_);have g:=b.1;have d: ∀(t:Zf) (N i:Nat) (x:Zf),p.1.2.1.length-i<N->i<=p.1.2.1.length->Qd (K+i) x->T (Ws N t x p.1 (i:Int)) fun r=>Qd (K+1000) r.1.1:=by
  intro t N
  induction N with
  |zero=>intro i x h;omega
  |succ N e=>
   intro i x j k hx;unfold Ws;refine T.ite (fun a=> ?_) fun a=>T.pure (hx.mono (by omega));have a:=Ode a;refine T.guard (by omega) ((Q9z hx (by omega) _).bind fun y f=> ?_);rw[Zt (m:=p.1.2.1.length) (by omega) (by omega)];exact e (i+1) _ (by omega) (by omega) f
 exact d _ _ 0 _ (by unfold Zjd;omega) (by omega) hx
theorem Q3v{K:Nat}{c:Zf}(h:Qd K c)(hK:K<=400000)(n:Int):T (Zi1 c n) fun r=>Qd (K+1000) r.1.1:=by
 have m:=h.mono (K':=K+1000) (by omega);unfold Zi1;rw[J2 h (by omega),Obs];refine(Qyu h (by omega) n).bind fun p b=>(Zun h (by omega)).bind fun t _=>T.if (T.pure m) ((Q2v h (by omega) n).bind fun x hx=> ?_);have g:=b.1;have d: ∀(t:Zf) (N i:Nat) (x:Zf),p.1.2.1.length-i<N->i<=p.1.2.1.length->Qd (K+i) x->T (Zat N t x p.1 (i:Int)) fun r=>Qd (K+1000) r.1.1:=by
  intro t N
  induction N with
  |zero=>intro i x h;omega
  |succ N e=>
   intro i x j k hx;unfold Zat
   refine T.ite (fun a=> ?_) fun a=>T.pure (hx.mono (by omega));have a:=Ode a;refine T.guard (by omega) ((Xcl hx (by omega) _).bind fun y f=> ?_);rw[Zt (m:=p.1.2.1.length) (by omega) (by omega)];exact e (i+1) _ (by omega) (by omega) f
 exact d _ _ 0 _ (by unfold Zke;omega) (by omega) hx
theorem Zeg(c:Qb)(n:Int)(h:Y8 c):T (Z7 c n) fun r=>Y8 r.2.1/\0<=r.1.1/\(0<n->r.1.1<n):=by
 obtain⟨x,f,e,a,b,d⟩:=Zry c n h;exact⟨_,e,a,b,d⟩
theorem Qg8(c:Qb)(n:Int)(h:Y8 c):T (Zag c n) fun r=>Y8 r.2.1:=by
 obtain⟨b,d,e,a⟩:=Q53 c n h;exact⟨_,e,a⟩
theorem Qkq(c:Qb)(l:List Int)(h:Y8 c)(hl:0<l.length):T (V9 c l) fun r=>Y8 r.2.1/\r.1.1∈l:=by
 obtain⟨b,f,e,a,d⟩:=Q54 c l h hl;exact⟨_,e,a,d⟩
theorem Xc8(c:Qb)(l:List (List UInt8))(h:Y8 c)(hl:0<l.length):T (Zp6 c l) fun r=>Y8 r.2.1/\r.1.1∈l:=by
 obtain⟨b,f,e,a,d⟩:=Qt7 c l h hl;exact⟨_,e,a,d⟩
theorem Q3k(c:Qb)(most:Nat)(h:Y8 c)(hm:most<=1000):T (Zj5 c (most:Int)) fun r=>Y8 r.2.1/\r.1.1.length<=most:=by
 obtain⟨t,d,e,a,b⟩:=Q52 c most h hm;exact⟨_,e,a,b⟩
theorem Q7b(f:Zi)(h:FOK f):T (Zhf f) fun r=>FOK r.1:=by
 have a: ∀t x b,FOK x->T (Zjx f t x b) fun r=>FOK r.1:=fun t x b hx=>by
  unfold Zjx;exact T.if (T.pure (by exact hx)) (T.pure (by exact hx))
 have c: ∀t x,FOK x->T (Zjw f t x) fun r=>FOK r.1:=fun t x hx=>by
  unfold Zjw;exact T.if (T.pure (by exact hx)) (T.if (T.pure (by exact hx)) (T.if (T.pure (by exact h)) (T.if (a _ _ _ hx) (a _ _ _ hx))))
 unfold Zhf;exact(Qzu f).bind fun t _=>T.if (c _ _ (Qne _ _ _ _)) (c _ _ (Qne _ _ _ _))
theorem Qwf(c:Qb)(hc:Y8 c):T (Zns c) fun r=>Y8 r.2.1/\FOK r.1.1:=by
 unfold Zns;exact(Qkq c _ hc (by simp)).bind fun l a=>(Zeg _ _ a.1).bind fun m b=>(Zeg _ _ b.1).bind fun n d=>(Q3k _ 6 d.1 (by omega)).bind fun o e=>(Qg8 _ _ e.1).bind fun p f=>(Zeg _ _ f).bind fun q g=>(Zeg _ _ g.1).bind fun s h=>(Zeg _ _ h.1).bind fun u i=>(Qg8 _ _ i.1).bind fun v j=>
  (Q7b _ (by unfold FOK;simp only;omega)).bind fun t k=>T.pure ⟨j,k⟩
theorem Qun(n:Int):TT (Zss n):=(tIn _ _ _).bind fun t _=>T.if T.tt T.tt
theorem Qul(n:Int):TT (Zsr n):=(tIn _ _ _).bind fun t _=>T.if T.tt T.tt
theorem Q0s(n:Int):TT (Zc0 n):=(Qzm _).bind fun t _=>T.if T.tt T.tt
theorem Q0w(n m:Int):TT (Zc2 n m):=by obtain⟨c,b,e⟩:=Quo n m;exact⟨_,e,trivial⟩
theorem Qd.zero{c:Zf}(h1:c.2.2.2.1=[])(h2:c.2.2.2.2.2.2.2.2.2.2.2.2.2.2.2.1=[]):Qd 0 c:=⟨⟨by rw[h1];simp,by rw[h1];simp⟩,⟨by rw[h2];simp,by rw[h2];simp⟩⟩
theorem Q7n(v:Bool)(o p:Zgp):T (Znj v o p) fun r=>Qd 0 r.1:=by
 unfold Znj;exact(tt1 (Z0j o)).bind fun t _=>T.bind (Q:=fun _=>True) (T.if T.tt (tt1 (Z0j p))) fun t _=>T.if (T.pure (Qd.zero rfl rfl)) ((Q0s _).bind fun t _=>(Q0w _ _).bind fun t _=>(Qun _).bind fun t _=>(Qun _).bind fun t _=>(Qul _).bind fun t _=>(Qul _).bind fun t _=>T.pure (Qd.zero rfl rfl))
def SQ(K:Nat)(r: (Zf×Unit)×(Qb×Unit)):Prop:=Y8 r.2.1/\Qd K r.1.1
theorem Q9y{K:Nat}{x:Zf}(h:Qd K x)(h25:25<=K)(hK:K<=70000)(c:Qb)(hc:Y8 c):T (Znq c x) (SQ (K+2000)):=by
 have m:=h.mono (K':=K+2000) (by omega);have o: ∀c t k b,Y8 c->T (Zdt c x t x k b) (SQ (K+2000)):=fun c t k b hc=>by
  unfold Zdt;refine T.if ((Zeg c _ hc).bind fun g a=>(Qz1 h (by omega) _).bind fun j d=>T.pure ⟨a.1,d.mono (by omega)⟩) (T.if ((Qwf c hc).bind fun g a=>(Z3w h a.2 h25 (by omega)).bind fun j d=>T.if (T.pure ⟨a.1,d.mono (by have:=a.2;unfold FOK at this;omega)⟩) (T.pure ⟨a.1,m⟩)) (T.if (T.ite (fun l=>(Zeg c _ hc).bind fun g a=> ?_) fun _=>T.pure ⟨hc,m⟩) (T.pure ⟨hc,m⟩)));have l:=Ode l;exact T.guard ⟨a.2.1,a.2.2 (by omega)⟩ ((Qg8 _ _ a.1).bind fun j d=>T.if ((Q0o h (by omega) _).bind fun n f=>T.pure ⟨d,f.mono (by omega)⟩) ((Q3v h (by omega) _).bind fun n f=>T.pure ⟨d,f.mono (by omega)⟩))
 have p: ∀c t i k b,Y8 c->T (Zds c x t i x k b) (SQ (K+2000)):=fun c t i k b hc=>by
  unfold Zds;refine T.if ((Q3k c 8 hc (by omega)).bind fun g a=>(Qzs h _ _ (by omega)).bind fun j d=>T.pure ⟨a.1,d.mono (by omega)⟩) (T.if ((Qg8 c _ hc).bind fun g a=>T.if ((Qv5 h (by omega) _).bind fun j d=>T.pure ⟨a,d.mono (by omega)⟩) (T.pure ⟨a,m⟩))
   (T.if ((Zeg c _ hc).bind fun g a=>(Q02 h (by omega) _ _).bind fun j d=>T.pure ⟨a.1,d.mono (by omega)⟩) (T.if ((Qg8 c _ hc).bind fun g a=>T.if ((Zeg _ _ a).bind fun j d=>(Qy6 h (by omega) _ _).bind fun n f=>T.pure ⟨d.1,f.mono (by omega)⟩) ((Xc8 _ _ a (by simp)).bind fun j d=>(Qzd h (by omega) _ _ ?_).bind fun n f=>T.pure ⟨d.1,f.mono (by omega)⟩)) (T.if (o _ _ _ _ hc) (o _ _ _ _ hc)))))
  have:=d.2;simp only[List.mem_cons,List.mem_nil_iff,or_false]at this;rcases this with e|e|e<;>(rw[e];simp)
 have q: ∀c t i,Y8 c->T (Zdr c x t i) (SQ (K+2000)):=fun c t i hc=>by
  unfold Zdr;exact(Zeg c _ hc).bind fun g a=>T.if ((Qg8 _ _ a.1).bind fun j d=>(Q0z h (by omega) _).bind fun n f=>T.pure ⟨d,f.mono (by omega)⟩) (T.if (p _ _ _ _ _ a.1) (p _ _ _ _ _ a.1))
 unfold Znq;exact T.ite (fun l=>(Zeg c _ hc).bind fun g a=>T.guard ⟨a.2.1,a.2.2 (by simpa using l)⟩ (q _ _ _ a.1)) fun _=>q _ _ _ hc
theorem Q9v(c:Qb)(hc:Y8 c):T (Zno c) (SQ 30000):=by
 have i: ∀(t:Zf) (N m:Nat) (c:Qb) (x:Zf) (K:Nat),m<N->25<=K->Y8 c->Qd K x->K+2000*m<=30000->T (Zdo N c t x (m:Int)) (SQ 30000):=by
  intro t N
  induction N with
  |zero=>intro m c x K h;omega
  |succ N j=>
   intro m c x K l b hc hx u;unfold Zdo;refine T.ite (fun f=>(Q9y hx b (by omega) c hc).bind fun n a=> ?_) fun _=>T.pure ⟨hc,hx.mono (by omega)⟩;have f:=Ode f;rw[show IntKind.i64.wrap ((m:Int)-1)=((m-1:Nat):Int) by rw[Zr (by omega) (by omega)];omega];exact j (m-1) _ _ (K+2000) (by omega) (by omega) a.1 a.2 (by omega)
 have g: ∀c,Y8 c->T (Znm c) fun r=>Y8 r.2.1:=fun c hc=>by
  obtain⟨y,v,e,k,-⟩:=Q9s c hc;exact⟨_,e,k⟩
 unfold Zno;refine(Qg8 c _ hc).bind fun n a=>(g _ a).bind fun w o=>(g _ o).bind fun z p=>(Q7n _ _ _).bind fun x hx=>(Zeg _ _ p).bind fun q d=> ?_;have:=d.2.2 (by omega);have s:=d.2.1;obtain⟨m,l⟩:=Int.eq_ofNat_of_zero_le s;have e:IntKind.i64.wrap (2+q.1.1)=((m+2:Nat):Int):=by rw[Zr (by omega) (by omega)];omega
 rw[e];exact i _ _ (m+2) _ _ 25 (by unfold Zm0;omega) (Nat.le_refl _) d.1 (hx.mono (by omega)) (by omega)
theorem Q68(c:Qb)(hc:Y8 c):T (Zmz c) (SQ 30000):=by
 unfold Zmz;exact(Q9v c hc).bind fun t hx=>(Zeg _ _ hx.1).bind fun e b=>T.if ((Qkq _ _ b.1 (by simp)).bind fun d a=>T.pure ⟨a.1,by exact⟨hx.2.str,hx.2.pk⟩⟩) (T.if ((Qkq _ _ b.1 (by simp)).bind fun d a=>T.pure ⟨a.1,by exact⟨hx.2.str,hx.2.pk⟩⟩) (T.if ((Qkq _ _ b.1 (by simp)).bind fun d a=>T.pure ⟨a.1,by exact⟨hx.2.str,hx.2.pk⟩⟩) (T.if ((Qkq _ _ b.1 (by simp)).bind fun d a=>T.pure ⟨a.1,by exact⟨hx.2.str,hx.2.pk⟩⟩) (T.pure ⟨b.1,hx.2⟩))))
theorem Qr4(r:Zh):Zul r=some (Zf6 r,()):=rfl
theorem Z1m(l:List Zh)(hl:l.length<=1048576): ∀(N i:Nat),l.length-i<N->i<=l.length->Zim N l l (l.length:Int) (i:Int)=Zac N l (i:Int)
 |0,_,h,_=>by omega
 |N+1,i,d,e=>by
  rw[Zim,Zac];by_cases c:i<l.length
  ·have g: ∀{a:Prop},a->decide ((i:Int)>0)=true->0<=IntKind.i64.wrap ((i:Int)-1)/\IntKind.i64.wrap ((i:Int)-1)< (l.length:Int):=fun _ h=>by
    have:=Ode h;rw[Zr (by omega) (by omega)];omega
   rw[Zn (Zk (by omega)),Zn (Zk (by omega)),Zb (by omega),Zb (by omega),Qr4,Z0z,Obs,Obs,Zb (fun h b=>g h b),Zb (fun h b=>g h b),Zb (fun _ _=>by omega),Zt c (by omega),Z1m l hl N (i+1) (by omega) (by omega)]
  ·rw[Zm (Zl (by omega)),Zm (Zl (by omega))]
theorem Zuy(l:List Zh)(hl:l.length<=1048576):Zcj l=some (rsB (-1) l,()):=by
 have e:Zlf l l (l.length:Int) 0=Zb0 l 0:=rfl;rw[<-Zbq l hl,Zcj,Jh,e];exact Z1m l hl _ 0 (by unfold Zb0;omega) (by omega)
theorem Qqy(l:List Zh)(hl:l.length<=1048576): ∀(N i:Nat) (n:Int),l.length-i<N->i<=l.length->rsB (-1) l=true->Zcu N n l (l.length:Int) (i:Int)=Kv N l n (i:Int)
 |0,_,_,h,_,_=>by omega
 |N+1,i,n,d,e,a=>by
  rw[Zcu,Kv];by_cases b:i<l.length
  ·rw[Zn (Zk (by omega)),Zn (Zk (by omega)),Zb (by omega),Zb (by omega)];have c:IntKind.i64.wrap (n+IntKind.i64.wrap ((l.getD (i:Int).toNat Zz).2.1- (l.getD (i:Int).toNat Zz).1))=IntKind.i64.wrap (IntKind.i64.wrap (n+ (l.getD (i:Int).toNat Zz).2.1)- (l.getD (i:Int).toNat Zz).1):=by
    unfold IntKind.wrap;simp[IntKind.signed,IntKind.bits];omega
   rw[c,Zt b (by omega),Qqy l hl N (i+1) _ (by omega) (by omega) a]
   try rw[Zb (by omega)]
  ·rw[Zm (Zl (by omega)),Zm (Zl (by omega))]
theorem Zse(l:List Zh)(hl:l.length<=1048576):Zao l=some (if rsB (-1) l=true then Vt l else-1,()):=by
 rw[<-Zd7 l hl,Zao,Vy,Zuy l hl,Zbq l hl,Obs,Obs];cases hr:rsB (-1) l
 ·rfl
 ·exact Qqy l hl _ 0 0 (by unfold Zf9;omega) (by omega) hr
theorem Zpy(l:List Zh)(hl:l.length<=1048576):Wg l=some (l,()):=by
 unfold Wg;rw[Zb (by unfold Qo;simp;omega)];simp
theorem Qky: ∀(N:Nat) (pre rest:List Zh) (r:Zh) (out:List Zh),(pre++rest).length<=1048576->rest.length<N->out.length<=pre.length+1->r.1<r.2.1->(∀x∈rest,r.2.1<x.1/\x.1<x.2.1)->
  Ys N r out true (pre++rest) ((pre++rest).length:Int) (pre.length:Int)=some (out++rest,())
 |0,_,_,_,_,_,h,_,_,_=>by omega
 |N+1,pre,[],r,out,e,b,f,c,hx=>by
  unfold Ys;rw[Zm (by simp)];simp
 |N+1,pre,x::rest,r,out,e,b,f,c,hx=>by
  have a: (pre++x::rest).length=pre.length+rest.length+1:=by simp;omega
  simp only[List.length_cons]at b;have g:=hx x (by simp);unfold Ys;rw[Zn (Zk (by rw[a];omega)),Zb (by rw[a];omega),Zcs,Zm (Zl (by omega)),Zn (Zk (by omega)),Zm (by rfl)];unfold Zij;rw[Zb (by unfold Qo;simp;omega),Zt (m:=pre.length+1) (by omega) (by omega)];have d:=Qky N (pre++ [x]) rest r (out++ [x]) (by simp;omega) (by omega) (by simp;omega) c (fun y i=>hx y (by simp[i]));rw[show(pre++ [x])++rest=pre++x::rest by simp,show((pre++ [x]).length:Int)=((pre.length+1:Nat):Int) by simp]at d;simp only[d];simp
theorem Qhg: ∀(N:Nat) (pre rest:List Zh) (r:Zh) (out:List Zh) (lo:Int),(pre++rest).length<=1048576->rest.length<N->out.length<=pre.length->r.1<r.2.1->rsB lo rest=true->
  Ys N r out false (pre++rest) ((pre++rest).length:Int) (pre.length:Int)=some (out++Zhi rest r,())
 |0,_,_,_,_,_,_,h,_,_,_=>by omega
 |N+1,pre,[],r,out,lo,k,l,o,f,hx=>by
  simp only[List.append_nil]at k;unfold Ys;rw[Zm (by simp),Zn (by rfl),Zb (by unfold Qo;simp;omega)];rfl
 |N+1,pre,x::rest,r,out,lo,k,l,o,f,hx=>by
  have b: (pre++x::rest).length=pre.length+rest.length+1:=by simp;omega
  simp only[List.length_cons]at l;obtain⟨n,p,a⟩:=V7.1 hx;have n:=Qv.1 n;unfold Ys;rw[Zn (Zk (by rw[b];omega)),Zb (by rw[b];omega),Zcs];have g: (pre++ [x])++rest=pre++x::rest:=by simp
  have i: ((pre++ [x]).length:Int)=((pre.length+1:Nat):Int):=by simp
  rw[Zt (m:=pre.length+1) (by omega) (by omega)];by_cases d:x.2.1<r.1
  ·rw[Zn (Zk d),Zb (by unfold Qo;simp;omega)];have c:=Qhg N (pre++ [x]) rest r (out++ [x]) x.2.1 (by simp;omega) (by omega) (by simp;omega) f a;rw[g,i]at c;rw[c,Zhi,if_pos d];simp
  ·rw[Zm (Zl d)];by_cases e:x.1>r.2.1
   ·rw[Zn (Zk e),Zn (by rfl),Zb (by unfold Qo;simp;omega)];unfold Zij;rw[Zb (by unfold Qo;simp;omega),Zt (m:=pre.length+1) (by omega) (by omega)];have j:=Zsn a;have c:=Qky N (pre++ [x]) rest r (out++ [r]++ [x]) (by simp;omega) (by omega) (by simp;omega) f (fun y q=>by
     have s:=j y q;have t:=Qv.1 s.2;omega)
    rw[g,i]at c;simp only[c];rw[Zhi,if_neg d,if_pos e];simp
   ·rw[Zm (Zl e)];have c:=Qhg N (pre++ [x]) rest (min r.1 x.1,max r.2.1 x.2.1,()) out x.2.1 (by simp;omega) (by omega) (by simp;omega) (by simp only;omega) a;rw[g,i]at c;rw[c,Zhi,if_neg d,if_neg e]
theorem Q3w(l:List Zh)(r:Zh)(hl:l.length<=1048576):Zsg l r=some (if rsB (-1) l=true/\Zf6 r=true then Zhi l r else l,()):=by
 unfold Zsg;rw[Zuy l hl,Obs,Qr4,Zpy l hl];cases hr:rsB (-1) l
 ·rfl
 ·cases a:Zf6 r
  ·rfl
  ·have a:=Qv.1 a;rw[if_pos ⟨rfl,rfl⟩];have h:=Qhg (Zfw r [] false l (l.length:Int) 0) [] l r [] (-1) (by simpa using hl) (by unfold Zfw;omega) (by simp) a.2.1 hr;exact h
theorem Q6r(l:List Zh)(hl:l.length<=1048576): ∀(N i:Nat) (n:Int),l.length-i<N->i<=l.length->Zem N n l (l.length:Int) (i:Int)=Vo N l n (i:Int)
 |0,_,_,h,_=>by omega
 |N+1,i,n,c,d=>by
  rw[Zem,Vo];by_cases a:i<l.length
  ·have b:=fun n=>Q6r l hl N (i+1) n (by omega) (by omega);rw[Zn (Zk (by omega)),Zn (Zk (by omega)),Zb (by omega),Zb (by omega),Zt a (by omega),b,b]
   try rw[Zb (fun _=>by omega)]
   try rw[Zb (by omega)]
   unfold Zjc;rw[Zt a (by omega)]
  ·rw[Zm (Zl (by omega)),Zm (Zl (by omega))]
theorem Q36(l:List Zh)(f:Int)(hl:l.length<=1048576):Zsh l f=some (if rsB (-1) l=true/\0<=f then Z3t l f else-1,()):=by
 rw[<-Qet l f hl,Zsh,Zhs,Zuy l hl,Zbq l hl,Obs,Obs];cases (!rsB (-1) l)||decide (f<0)
 ·exact Q6r l hl _ 0 f (by unfold Zle;omega) (by omega)
 ·rfl
end Go.Proofs.YtgepmefongfeeaaGreat

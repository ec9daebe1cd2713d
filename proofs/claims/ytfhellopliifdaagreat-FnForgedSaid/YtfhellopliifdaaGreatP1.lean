/- FnForged: the plain law, part 1. No condition. -/
import Derived.Test.YtfhellopliifdaaGreatM2
set_option linter.all false
namespace Go.Proofs.YtfhellopliifdaaGreat
open Go.Am
set_option maxRecDepth 100000
abbrev Xy:Type:=Qt
theorem Zhp{α:Type}(pre:List α)(x:α)(rest:List α)(d:α):(pre++x::rest).getD ((pre.length:Int).toNat) d=x:=by
 simp_all
def Qtl(k:Nat):Int:=((([48,49,50,51,52,53,54,55,56,57,97,98,99,100,101,102]:List UInt8).getD k 0).toNat:Int)
def hx(b:UInt8):List Int:=[Qtl (b.toNat/16),Qtl (b.toNat%16)]
theorem Xh{α:Type}{d:α}{l:List α}{i:Nat}(h:i<l.length):l.drop i=l.getD i d::l.drop (i+1):=by
 simp_all
def hv(b:UInt8):Int:=if 48<=b.toNat/\b.toNat<=57 then(b.toNat:Int)-48 else if 97<=b.toNat/\b.toNat<=102 then(b.toNat:Int)-87 else-1
def fq(x:Int):Bool:=decide (x>=(0:Int))&&decide (x<=(4611686018427387903:Int))
theorem Q4d(x:Int):Qz x=some (fq x,()):=rfl
theorem Qr2(x:Int):Xg x=some (fq x,()):=rfl
theorem Qwd:Zs7=Zij:=rfl
theorem Xb2:Qh2=Zoc:=rfl
def Yq(f:Zf):Bool:=bif f.1==4 then decide (f.2.2.1=0)&&(f.2.2.2.1==[])&&(f.2.2.2.2.1==false)&&decide (f.2.2.2.2.2.2.1=0)&&(f.2.2.2.2.2.2.2.2.1==false) else bif f.1==5 then decide (f.2.2.1=0)&&(f.2.2.2.1==[])&&(f.2.2.2.2.1==false)&&decide (f.2.2.2.2.2.2.1=0)&&decide (f.2.2.2.2.2.2.2.1=0)&&(f.2.2.2.2.2.2.2.2.1==false) else bif f.1==8 then decide (f.2.2.2.2.2.1=0)&&decide (f.2.2.2.2.2.2.1=0)&&decide (f.2.2.2.2.2.2.2.1=0)&&(f.2.2.2.2.2.2.2.2.1==false) else bif f.1==17||f.1==21 then decide (f.2.2.1=0)&&(f.2.2.2.1==[])&&(f.2.2.2.2.1==false)&&decide (f.2.2.2.2.2.1=0)&&decide (f.2.2.2.2.2.2.2.1=0)&&(f.2.2.2.2.2.2.2.2.1==false) else bif f.1==18||f.1==22 then decide (f.2.1=0)&&decide (f.2.2.1=0)&&(f.2.2.2.1==[])&&(f.2.2.2.2.1==false)&&decide (f.2.2.2.2.2.1=0)&&decide (f.2.2.2.2.2.2.2.1=0) else bif f.1==16||f.1==20 then decide (f.2.1=0)&&decide (f.2.2.1=0)&&(f.2.2.2.1==[])&&(f.2.2.2.2.1==false)&&decide (f.2.2.2.2.2.1=0)&&decide (f.2.2.2.2.2.2.2.1=0)&&(f.2.2.2.2.2.2.2.2.1==false) else false
def Xz(f:Zf):Bool:=Yq f&&fq f.2.1&&fq f.2.2.1&&fq f.2.2.2.2.2.1&&fq f.2.2.2.2.2.2.1&&fq f.2.2.2.2.2.2.2.1&&decide (f.2.2.2.1.length<=400)&&(bif f.1==18||f.1==22 then decide (f.2.2.2.2.2.2.1<=(1152921504606846976:Int))else decide (f.2.2.1<=(4611686018427387903:Int)- (f.2.2.2.1.length:Int)))
theorem Qwq(k:Int):∃s,Zij k=some (s,())/\((s==([]:List UInt8))= !(k==4||k==5||k==8||k==16||k==17||k==18||k==20||k==21||k==22)):=by
 unfold Zij;cases h4:k==4<;>cases h5:k==5<;>cases h8:k==8<;>cases h16:k==16<;>cases h17:k==17<;>cases h18:k==18<;>cases h20:k==20<;>cases h21:k==21<;>cases h22:k==22<;>exact⟨_,rfl,rfl⟩
theorem Qso(f:Zf):∃u,Zoc f=some (u,())/\((f.1==4||f.1==5||f.1==8||f.1==16||f.1==17||f.1==18||f.1==20||f.1==21||f.1==22)=true->eqV Zt u f=Yq f/\eqV Zt f u=Yq f):=by
 obtain⟨k,v,p,n,fin,o,a,b,q,z⟩:=f;by_cases r:k=4
 ·subst r;exact⟨_,rfl,λ_=>by constructor<;>rw[Bool.eq_iff_iff]<;>simp[eqV,Yq]<;>grind⟩
 by_cases s:k=5
 ·subst s;exact⟨_,rfl,λ_=>by constructor<;>rw[Bool.eq_iff_iff]<;>simp[eqV,Yq]<;>grind⟩
 by_cases t:k=8
 ·subst t;exact⟨_,rfl,λ_=>by constructor<;>rw[Bool.eq_iff_iff]<;>simp[eqV,Yq]<;>grind⟩
 by_cases d:k=17
 ·subst d;exact⟨_,rfl,λ_=>by constructor<;>rw[Bool.eq_iff_iff]<;>simp[eqV,Yq]<;>grind⟩
 by_cases g:k=21
 ·subst g;exact⟨_,rfl,λ_=>by constructor<;>rw[Bool.eq_iff_iff]<;>simp[eqV,Yq]<;>grind⟩
 by_cases i:k=18
 ·subst i;exact⟨_,rfl,λ_=>by constructor<;>rw[Bool.eq_iff_iff]<;>simp[eqV,Yq]<;>grind⟩
 by_cases j:k=22
 ·subst j;exact⟨_,rfl,λ_=>by constructor<;>rw[Bool.eq_iff_iff]<;>simp[eqV,Yq]<;>grind⟩
 by_cases l:k=16
 ·subst l;exact⟨_,rfl,λ_=>by constructor<;>rw[Bool.eq_iff_iff]<;>simp[eqV,Yq]<;>grind⟩
 by_cases m:k=20
 ·subst m;exact⟨_,rfl,λ_=>by constructor<;>rw[Bool.eq_iff_iff]<;>simp[eqV,Yq]<;>grind⟩
 ·have e:∀c:Int,k≠c->(k==c)=false:=λc h=>by simp[h]
  refine⟨(k,0,0,[],false,0,a,0,false,()),?_,λhk=>?_⟩
  rotate_left
  ·simp_all
  ·unfold Zoc Zab Kk Zn5 Zn6
   grind
theorem Qrz{f:Zf}(h:Yq f=true)(h8:f.1≠8):f.2.2.1=0/\f.2.2.2.1=[]:=by
 grind[Yq]
theorem Z57{f:Zf}(h:Yq f=true):(f.1==4||f.1==5||f.1==8||f.1==16||f.1==17||f.1==18||f.1==20||f.1==21||f.1==22)=true:=by
 grind[Yq]
theorem Zwo(f:Zf)(hl:f.2.2.2.1.length<=1048576:=by omega):Zat f=some (Xz f,()):=by
 obtain⟨s,d,e⟩:=Qwq f.1;obtain⟨u,g,h⟩:=Qso f;unfold Zat
 simp only[d,g,Q4d,Obs,e];cases hk:(f.1==4||f.1==5||f.1==8||f.1==16||f.1==17||f.1==18||f.1==20||f.1==21||f.1==22)
 ·have a:Yq f=false:=by
   grind[Z57]
  simp_all[Xz]
 ·simp only[Ont,Ocf,Obs,Bool.false_or,(h hk).1];have i:Xz f=(Yq f&&fq f.2.1&&fq f.2.2.1&&fq f.2.2.2.2.2.1&&fq f.2.2.2.2.2.2.1&&fq f.2.2.2.2.2.2.2.1&&decide (f.2.2.2.1.length<=400)&&(bif f.1==18||f.1==22 then decide (f.2.2.2.2.2.2.1<=(1152921504606846976:Int))else decide (f.2.2.1<=(4611686018427387903:Int)- (f.2.2.2.1.length:Int)))):=rfl;rw[i,Zs];have j:decide ((f.2.2.2.1.length:Int)>400)= !(decide (f.2.2.2.1.length<=400)):=by
   grind
  rw[j];cases a:Yq f
  ·simp
  ·have b:=Qrz a;cases fq f.2.1<;>cases fq f.2.2.1<;>cases fq f.2.2.2.2.2.1<;>cases fq f.2.2.2.2.2.2.1<;>cases fq f.2.2.2.2.2.2.2.1<;>cases hlen:decide (f.2.2.2.1.length<=400)<;>try rfl
   by_cases c:f.1=8
   ·simp[c]
   ·have k:(f.1==8)=false:=by simp[c]
    obtain⟨l,m⟩:=b c;unfold Ztx;cases h18:f.1==18<;>cases h22:f.1==22<;>simp[k,l,m]
theorem Zz4(f:Zf)(hl:f.2.2.2.1.length<=1048576:=by omega):Wi f=some (Xz f,()):=by
 obtain⟨s,c,d⟩:=Qwq f.1;obtain⟨u,e,g⟩:=Qso f;unfold Wi;rw[Qwd,Xb2];simp only[c,e,Qr2,Obs,d];cases hk:(f.1==4||f.1==5||f.1==8||f.1==16||f.1==17||f.1==18||f.1==20||f.1==21||f.1==22)
 ·have a:Yq f=false:=by
   grind[Z57]
  simp_all[Xz]
 ·simp only[Ont,Ocf,Obs,Bool.false_or,(g hk).2];have h:Xz f=(Yq f&&fq f.2.1&&fq f.2.2.1&&fq f.2.2.2.2.2.1&&fq f.2.2.2.2.2.2.1&&fq f.2.2.2.2.2.2.2.1&&decide (f.2.2.2.1.length<=400)&&(bif f.1==18||f.1==22 then decide (f.2.2.2.2.2.2.1<=(1152921504606846976:Int))else decide (f.2.2.1<=(4611686018427387903:Int)- (f.2.2.2.1.length:Int)))):=rfl;rw[h,Zs];have i:decide ((f.2.2.2.1.length:Int)<=400)=(decide (f.2.2.2.1.length<=400)):=by
   grind
  rw[i];cases a:Yq f
  ·simp
  ·have b:=Qrz a;cases fq f.2.1<;>cases fq f.2.2.1<;>cases fq f.2.2.2.2.2.1<;>cases fq f.2.2.2.2.2.2.1<;>cases fq f.2.2.2.2.2.2.2.1<;>try rfl
   grind
open Classical in
noncomputable def pin(s:List UInt8):Option Int:=if h:∃n:Int,-999999999<=n/\n<=999999999/\s=Go.Lib.itoa n then some h.choose else none
noncomputable def Zoe{β:Type}(r:List (List UInt8))(K:Int->List (List UInt8)->Option β):Option β:=
 match r with
 |[]=>none
 |a::r=>match pin a with
  |none=>none
  |some n=>K n r
theorem hdn{β:Type}(x y:Option β):(bif((([]:List (List UInt8)).length:Nat):Int)==(0:Int)then x else y)=x:=rfl
theorem Qsx(x:Int):0<=bits .and .i64 x 255/\bits .and .i64 x 255<=255:=by
 have h:bits .and .i64 x 255=IntKind.i64.wrap (((BitVec.ofInt 64 x&&&BitVec.ofInt 64 255).toNat:Nat):Int):=rfl
 grind[Nat.and_le_right,Zs]
def Y7(c:Qc):Prop:=c.1.length<=1048576/\0<=c.2.1/\c.2.1<=c.1.length
theorem Ql8(code:List Int)(h:code.length<=1048576):∃c,Zuk code=some (c,())/\Y7 c:=by
 have a:∀(N:Nat)(x:Int)(i:Nat),i<=code.length->code.length-i<N-> ∃c,Ztg N code x (i:Int)=some (c,())/\Y7 c:=by
  intro N
  induction N with
  |zero=>omega
  |succ N b=>
   intro x i e f;unfold Ztg;by_cases d:i<code.length/\i<4000
   ·rw[Zm (by simp;omega),Zb,Zr d.1];exact b _ (i+1) (by omega) (by omega)
   ·rw[Zo (by simp;omega)];exact⟨_,rfl,h,Int.le_refl 0,by simp⟩
 unfold Zuk;exact a _ _ 0 (by omega) (by simp[Zul])
theorem Z0l(c:Qc)(h:Y7 c):∃x c',Zae c=some ((x,()),c',())/\Y7 c'/\0<=x/\x<=255:=by
 obtain⟨b,d,e⟩:=h;unfold Zae;simp only[];rw[Zb (by decide),Zb (by decide)];by_cases a:c.2.1<(c.1.length:Int)
 ·rw[Zm (Zl a),Zb ⟨d,a⟩,Zs (n:=c.2.1+1)];exact⟨_,_,rfl,⟨b,by grind,by grind⟩,Qsx _⟩
 ·rw[Zo (Zn a)];exact⟨_,_,rfl,⟨b,d,e⟩,Qsx _⟩
theorem Zw3(c:Qc)(n:Int)(h:Y7 c):∃x c',Qo c n=some ((x,()),c',())/\Y7 c'/\0<=x/\(0<n->x<n):=by
 unfold Qo;by_cases e:n<=0
 ·rw[Zm (Zl e)]
  grind
 ·rw[Zo (Zn e)];by_cases f:n<=256
  ·rw[Zm (Zl f)];obtain⟨x,g,a,b,i,j⟩:=Z0l c h;rw[a,Obs,Zb];exact⟨_,_,rfl,b,Int.tmod_nonneg n i,λd=>Int.tmod_lt_of_pos x d⟩
  ·rw[Zo (Zn f)];obtain⟨x,g,a,b,i,j⟩:=Z0l c h;obtain⟨y,k,l,m,t,v⟩:=Z0l g b;obtain⟨z,o,p,q,w,A⟩:=Z0l k m;obtain⟨u,B,r,s,C,D⟩:=Z0l o q;rw[a,Obs,l,Obs,p,Obs,r,Obs,Zb];simp only[];rw[Zs (n:=x*16777216),Zs (n:=y*65536),Zs (n:=x*16777216+y*65536),Zs (n:=z*256),Zs (n:=x*16777216+y*65536+z*256),Zs (n:=x*16777216+y*65536+z*256+u)];exact⟨_,_,rfl,s,Int.tmod_nonneg n (by omega),λd=>Int.tmod_lt_of_pos _ d⟩
theorem Q5w(c:Qc)(l:List Int)(h:Y7 c)(hl:0<l.length):∃x c',Zdp c l=some ((x,()),c',())/\Y7 c'/\x∈l:=by
 unfold Zdp;obtain⟨x,e,b,f,d,a⟩:=Zw3 c (l.length:Int) h;have a:=a (by omega);rw[b,Obs];simp only[];rw[Zb ⟨d,a⟩]
 grind
def Zf9(r:Zi):Bool:=(decide (r.1>=(0:Int))&&decide (r.1<r.2.1))&&decide (r.2.1<=(4611686018427387903:Int))
theorem Z6d(r:Zi):Zyt r=some (Zf9 r,()):=rfl
theorem Q5{r:Zi}:Zf9 r=true↔0<=r.1/\r.1<r.2.1/\r.2.1<=4611686018427387903:=by
 grind[Zf9]
def rsB:Int->List Zi->Bool|_,[]=>true|lo,r::l=>Zf9 r&&decide (lo<r.1)&&rsB r.2.1 l
theorem Qb0:∀(N:Nat)(pre rest:List Zi)(lo:Int),(pre++rest).length<=1048576->rest.length<N->(pre=[]->lo<0)->(∀q x,pre=q++[x]->lo=x.2.1)->
  Zcr N (pre++rest) (pre.length:Int)=some (rsB lo rest,())
 |0,_,_,_,_,h,_,_=>by omega
 |N+1,pre,[],lo,k,g,i,j=>by
  unfold Zcr;rw[Zo (by simp)];rfl
 |N+1,pre,r::rest,lo,k,g,i,j=>by
  have a:(pre++r::rest).length=pre.length+rest.length+1:=by simp;omega
  simp only[List.length_cons]at g;unfold Zcr;rw[Zm (Zl (by rw[a];omega)),Zb (by rw[a];omega),Zhp,Z6d,Obs];have f:=Qb0 N (pre++[r]) rest r.2.1 (by simp;omega) (by omega) (by simp) (λq x e=>by
   simp_all)
  have l:((pre++[r]).length:Int)=((pre.length+1:Nat):Int):=by simp
  rw[l]at f;rw[show(pre++[r])++rest=pre++r::rest by simp]at f;rw[Zb (λ_ h=>by
   grind[Zs]),Zb (λ_ _=>by rw[a];omega),Zr (m:=pre.length+1),f]
  simp only[rsB];cases hf:Zf9 r
  ·rfl
  ·rcases List.eq_nil_or_concat pre with b|⟨q,x,b⟩
   ·subst b;have c:=i rfl;have o:=Q5.1 hf;rw[Zo (by simp)]
    grind
   ·rw[List.concat_eq_append]at b;have c:=j q x b;have n:(pre++r::rest).getD (IntKind.i64.wrap ((pre.length:Int)-1)).toNat Zz=x:=by
     rw[Zs];have e:((pre.length:Int)-1).toNat=q.length:=by rw[b];simp
     rw[e,b,List.append_assoc]
     grind
    rw[n,<-c];have d:decide ((pre.length:Int)>0)=true:=Zl (by rw[b];simp);rw[d];by_cases p:lo<r.1
    all_goals grind
theorem Zes(l:List Zi)(hl:l.length<=1048576:=by omega):Vz l=some (rsB (-1) l,()):=by
 unfold Vz;exact Qb0 _ [] l (-1) (by simpa using hl) (by simp[Zew]) (λ_=>by omega) (λq x e=>by simp at e)
theorem Zeu{lo:Int}{r:Zi}{l:List Zi}:rsB lo (r::l)=true↔Zf9 r=true/\lo<r.1/\rsB r.2.1 l=true:=by
 simp[rsB,and_assoc]
theorem Z49:∀{l:List Zi}{lo lo':Int},rsB lo l=true->lo'<=lo->rsB lo' l=true
 |[],_,_,_,_=>rfl
 |r::l,lo,lo',h,a=>by
  grind[Zeu]
theorem Zqe:∀{l:List Zi}{lo:Int},rsB lo l=true-> ∀x∈l,lo<x.1/\Zf9 x=true
 |[],_,_,x,hx=>by cases hx
 |r::l,lo,h,x,hx=>by
  rw[Zeu]at h;have a:=Q5.1 h.1;rcases List.mem_cons.1 hx with rfl|hx
  ·simp_all
  ·have:=Zqe h.2.2 x hx
   grind
theorem Q2d:∀{l:List Zi}{lo E:Int},rsB lo l=true->(∀x∈l,x.2.1<=E)->lo<=E->(l.length:Int)<=E-lo
 |[],lo,E,_,_,a=>by simp;omega
 |r::l,lo,E,h,a,_=>by
  rw[Zeu]at h;have b:=Q5.1 h.1;have:=Q2d (E:=E) h.2.2 (λx hx=>a x (by simp[hx])) (a r (by simp))
  grind
def Zk4:List Zi->Zi->List Zi|[],r=>[r]|x::l,r=>if x.2.1<r.1 then x::Zk4 l r else if x.1>r.2.1 then r::x::l else Zk4 l (min r.1 x.1,max r.2.1 x.2.1,())
theorem Qcu(l:List Zi)(hl:l.length<=1048576):Zob l=some (l,()):=by
 grind[Zob,Zb,Qd]
theorem Qj6:∀(N:Nat)(pre rest:List Zi)(r:Zi)(out:List Zi),(pre++rest).length<=1048576->rest.length<N->out.length<=pre.length+1->r.1<r.2.1->(∀x∈rest,r.2.1<x.1/\x.1<x.2.1)->
  Kw N (pre++rest) r out true (pre.length:Int)=some (out++rest,())
 |0,_,_,_,_,_,h,_,_,_=>by omega
 |N+1,pre,[],r,out,d,b,e,c,hx=>by
  simp_all[Kw]
 |N+1,pre,x::rest,r,out,d,b,e,c,hx=>by
  have a:(pre++x::rest).length=pre.length+rest.length+1:=by simp;omega
  simp only[List.length_cons]at b;have f:=hx x (by simp);unfold Kw;rw[Zm (Zl (by rw[a];omega)),Zb (by rw[a];omega),Zhp,Zo (Zn),Zb (by rw[a];omega),Zm (Zl),Zo (by rfl)];unfold Zns Zcl;rw[Zb (by rw[a];omega),Zhp,Zb (by grind[Qd]),Zr (m:=pre.length+1)];have i:=Qj6 N (pre++[x]) rest r (out++[x]) (by simp;omega) (by omega) (by simp;omega) c (λy g=>hx y (by simp[g]));simp_all
theorem Qhn:∀(N:Nat)(pre rest:List Zi)(r:Zi)(out:List Zi)(lo:Int),(pre++rest).length<=1048576->rest.length<N->out.length<=pre.length->r.1<r.2.1->rsB lo rest=true->
  Kw N (pre++rest) r out false (pre.length:Int)=some (out++Zk4 rest r,())
 |0,_,_,_,_,_,_,h,_,_,_=>by omega
 |N+1,pre,[],r,out,lo,j,k,n,f,hx=>by
  simp only[List.append_nil]at j;unfold Kw;rw[Zo (by simp),Zm (by rfl),Zb (by grind[Qd])];rfl
 |N+1,pre,x::rest,r,out,lo,j,k,n,f,hx=>by
  have a:(pre++x::rest).length=pre.length+rest.length+1:=by simp;omega
  simp only[List.length_cons]at k;obtain⟨l,o,b⟩:=Zeu.1 hx;have l:=Q5.1 l;unfold Kw;rw[Zm (Zl (by rw[a];omega)),Zb (by rw[a];omega),Zhp];have g:(pre++[x])++rest=pre++x::rest:=by simp
  have i:((pre++[x]).length:Int)=((pre.length+1:Nat):Int):=by simp
  by_cases d:x.2.1<r.1
  ·rw[Zm (Zl d),Zb (by rw[a];omega),Zb (by grind[Qd])];unfold Zcl;have c:=Qhn N (pre++[x]) rest r (out++[x]) _ (by simp;omega) (by omega) (by simp;omega) f b;rw[g,i]at c;rw[Zr (m:=pre.length+1)];simp_all[Zk4]
  ·rw[Zo (Zn d),Zb (by rw[a];omega)];by_cases e:x.1>r.2.1
   ·rw[Zm (Zl e),Zm (by rfl),Zb (by grind[Qd])];unfold Zns Zcl;rw[Zb (by rw[a];omega),Zhp,Zb (by grind[Qd]),Zr (m:=pre.length+1)];have c:=Qj6 N (pre++[x]) rest r (out++[r]++[x]) (by simp;omega) (by omega) (by simp;omega) f (λy p=>by
     have:=Zqe b y p
     grind[Q5])
    rw[g,i]at c;simp only[c,Zk4,d,e,if_true,if_false];simp
   ·rw[Zo (Zn e),Zb (by rw[a];omega),Zb (by rw[a];omega)];unfold Zcl;have c:=Qhn N (pre++[x]) rest (min r.1 x.1,max r.2.1 x.2.1,r.2.2) out _ (by simp;omega) (by omega) (by simp;omega) (by simp only;omega) b;rw[g,i]at c;rw[Zr (m:=pre.length+1)];simp only[c,Zk4,d,e,if_false]
theorem Zqn(l:List Zi)(r:Zi)(hl:l.length<=1048576:=by omega):Zc5 l r=some (if rsB (-1) l=true/\Zf9 r=true then Zk4 l r else l,()):=by
 unfold Zc5;rw[Zes l hl,Obs];cases h1:rsB (-1) l
 ·simp[Qcu l hl]
 ·simp only[Ont,Ocf,Z6d,Obs,Bool.false_or];cases h2:Zf9 r
  ·simp[Qcu l hl]
  ·have a:=Q5.1 h2;have:=Qhn (Zj2 l r [] false 0) [] l r [] (-1) (by simpa using hl) (by simp[Zj2]) (by simp) (by omega) h1;simp_all
def RL(E:Int)(l:List Zi):Prop:=rsB (-1) l=true/\ ∀x∈l,x.2.1<=E
theorem Z9r:∀{l:List Zi}{lo:Int}{r:Zi},rsB lo l=true->Zf9 r=true->lo<r.1->rsB lo (Zk4 l r)=true
 |[],lo,r,_,b,e=>by simp_all[Zk4,rsB]
 |x::l,lo,r,f,b,e=>by
  obtain⟨d,c,a⟩:=Zeu.1 f;have hx:=Q5.1 d;have g:=Q5.1 b;unfold Zk4;split
  ·exact Zeu.2 ⟨d,c,Z9r a b (by omega)⟩
  ·split
   ·simp_all[Zeu]
   ·exact Z9r (Z49 a (by omega)) (Q5.2 (by simp only;omega)) (by simp only;omega)
theorem Z9q{E:Int}:∀{l:List Zi}{r:Zi},(∀x∈l,x.2.1<=E)->r.2.1<=E-> ∀x∈Zk4 l r,x.2.1<=E
 |[],r,_,h,x,hx=>by simp_all[Zk4]
 |y::l,r,b,h,x,hx=>by
  have c:=b y (by simp);have a:∀x∈l,x.2.1<=E:=λx hx=>b x (by simp[hx]);unfold Zk4 at hx;split at hx
  ·rcases List.mem_cons.1 hx with rfl|hx
   ·exact c
   ·exact Z9q a h x hx
  ·split at hx
   ·grind
   ·exact Z9q a (by simp only;omega) x hx
theorem Qel:∀{l:List Zi}{r:Zi},(Zk4 l r).length<=l.length+1
 |[],r=>by simp[Zk4]
 |y::l,r=>by
  unfold Zk4;split
  ·have:=Qel (l:=l) (r:=r);simp_all
  ·split
   ·simp
   ·have:=Qel (l:=l) (r:=(min r.1 y.1,max r.2.1 y.2.1,()));grind
theorem Z3e{E:Int}{l:List Zi}{r:Zi}(h:RL E l)(hr:r.2.1<=E):RL E (if rsB (-1) l=true/\Zf9 r=true then Zk4 l r else l):=by
 split
 ·rename_i a;have:=Q5.1 a.2;exact⟨Z9r a.1 a.2 (by omega),Z9q h.2 hr⟩
 ·exact h
theorem Ql3{E E':Int}{l:List Zi}(h:RL E l)(he:E<=E':=by omega):RL E' l:=⟨h.1,λx hx=>Int.le_trans (h.2 x hx) he⟩
theorem Xdm{E:Int}{l:List Zi}(h:RL E l)(hE: -1<=E):(l.length:Int)<=E+1:=by
 have:=Q2d h.1 h.2 hE;omega
def Qs6(r x:Zi):List Zi:=(if x.1<min x.2.1 r.1 then[(x.1,min x.2.1 r.1,())]else[])++(if max x.1 r.2.1<x.2.1 then[(max x.1 r.2.1,x.2.1,())]else[])
def Z6c(r:Zi):List Zi->List Zi|[]=>[]|x::l=>Qs6 r x++Z6c r l
theorem Qjk:∀(N:Nat)(pre rest:List Zi)(r:Zi)(out:List Zi),(pre++rest).length<=1048576->rest.length<N->out.length<=2*pre.length->
  Wd N (pre++rest) r out (pre.length:Int)=some (out++Z6c r rest,())
 |0,_,_,_,_,_,h,_=>by omega
 |N+1,pre,[],r,out,e,c,f=>by
  simp_all[Wd,Z6c]
 |N+1,pre,x::rest,r,out,e,c,f=>by
  have b:(pre++x::rest).length=pre.length+rest.length+1:=by simp;omega
  simp only[List.length_cons]at c;have g:∀{ρ:Type}(m:Option ρ),Ze (0<=(pre.length:Int)/\(pre.length:Int)<((pre++x::rest).length:Int)) m=m:=λm=>Zb (by rw[b];omega);have k:(pre++[x])++rest=pre++x::rest:=by simp
  have l:((pre++[x]).length:Int)=((pre.length+1:Nat):Int):=by simp
  have d:∀a:List Zi,a.length<=2*pre.length+1->Zh0 (λv=>Wd N v.1 v.2.1 v.2.2.1 v.2.2.2.1) (pre++x::rest) r a (pre.length:Int)=some (a++(if max x.1 r.2.1<x.2.1 then[(max x.1 r.2.1,x.2.1,())]else[])++Z6c r rest,()):=by
   intro a i;unfold Zh0 Zmv;simp only[g,Zhp];rw[Zr (m:=pre.length+1)];by_cases h:max x.1 r.2.1<x.2.1
   ·rw[Zm (Zl h),if_pos h,Zb (by grind[Qd])];have j:=Qjk N (pre++[x]) rest r (a++[(max x.1 r.2.1,x.2.1,())]) (by simp;omega) (by omega) (by simp;omega);simp_all
   ·rw[Zo (Zn h),if_neg h];have j:=Qjk N (pre++[x]) rest r a (by simp;omega) (by omega) (by simp;omega);simp_all
  unfold Wd;rw[Zm (Zl (by rw[b];omega))];simp only[g,Zhp];by_cases h:x.1<min x.2.1 r.1
  ·rw[Zm (Zl h),Zb (by grind[Qd]),d _ (by simp;omega)];simp[Z6c,Qs6,h]
  ·rw[Zo (Zn h),d _ (by omega)];simp[Z6c,Qs6,h]
theorem Z27(l:List Zi)(r:Zi)(hl:l.length<=1048576:=by omega):Zi2 l r=some (if rsB (-1) l=true/\Zf9 r=true then Z6c r l else l,()):=by
 unfold Zi2;rw[Zes l hl,Obs];cases h1:rsB (-1) l
 ·simp[Qcu l hl]
 ·simp only[Ont,Ocf,Z6d,Obs,Bool.false_or];cases h2:Zf9 r
  ·simp[Qcu l hl]
  ·have:=Qjk (Zf1 l r [] 0) [] l r [] (by simpa using hl) (by simp[Zf1]) (by simp);simp_all
theorem Q19{r:Zi}(hr:Zf9 r=true):∀{l:List Zi}{lo:Int},rsB lo l=true->rsB lo (Z6c r l)=true
 |[],lo,_=>rfl
 |x::l,lo,c=>by
  obtain⟨d,e,a⟩:=Zeu.1 c;have hx:=Q5.1 d;have hr:=Q5.1 hr;have f:=λb h=>Q19 (r:=r) (Q5.2 hr) (l:=l) (lo:=b) (Z49 a h)
  grind[Z6c,Qs6,Zeu,Q5]
theorem Qr5{E:Int}{r:Zi}:∀{l:List Zi},(∀x∈l,x.2.1<=E)-> ∀x∈Z6c r l,x.2.1<=E
 |[],_,x,hx=>by simp[Z6c]at hx
 |y::l,a,x,hx=>by
  have b:=a y (by simp);unfold Z6c Qs6 at hx;simp only[List.mem_append]at hx;rcases hx with(hx|hx)|hx
  ·grind
  ·simp_all
  ·exact Qr5 (λx hx=>a x (by simp[hx])) x hx
theorem Qxy{E:Int}{l:List Zi}{r:Zi}(h:RL E l):RL E (if rsB (-1) l=true/\Zf9 r=true then Z6c r l else l):=by
 split
 ·rename_i a;exact⟨Q19 a.2 a.1,Qr5 h.2⟩
 ·exact h
def Z7u(a b:Zi):List Zi:=if max a.1 b.1<min a.2.1 b.2.1 then[(max a.1 b.1,min a.2.1 b.2.1,())]else[]
theorem Qck(K1:(List Zi×List Zi×List Zi×Int×Unit)->Option (List Zi×Unit))(a:List Zi)(i:Nat)(hi:i<a.length):∀(N:Nat)(pre rest:List Zi)(out:List Zi),(pre++rest).length<=1000->rest.length<N->out.length+rest.length<=10000000000->
  Zcn K1 N a (pre++rest) out (i:Int) (pre.length:Int)=K1 (a,pre++rest,out++rest.flatMap (Z7u (a.getD i Zz)),IntKind.i64.wrap ((i:Int)+1),())
 |0,_,_,_,_,h,_=>by omega
 |N+1,pre,[],out,e,c,d=>by
  simp_all[Zcn]
 |N+1,pre,x::rest,out,e,c,d=>by
  have b:(pre++x::rest).length=pre.length+rest.length+1:=by simp;omega
  simp only[List.length_cons]at c d;have g:∀{ρ:Type}(m:Option ρ),Ze (0<=(pre.length:Int)/\(pre.length:Int)<((pre++x::rest).length:Int)) m=m:=λm=>Zb (by rw[b];omega);have f:∀{ρ:Type}(m:Option ρ),Ze (0<=(i:Int)/\(i:Int)<(a.length:Int)) m=m:=λm=>Zb;have k:(pre++[x])++rest=pre++x::rest:=by simp
  have l:((pre++[x]).length:Int)=((pre.length+1:Nat):Int):=by simp
  unfold Zcn;rw[Zm (Zl (by rw[b];omega))];simp only[g,f,Zhp,X4];rw[show(i:Int).toNat=i from rfl];unfold Zrh Zlm;simp only;rw[Zr (m:=pre.length+1)];by_cases h:max (a.getD i Zz).1 x.1<min (a.getD i Zz).2.1 x.2.1
  ·rw[Zm (Zl h),Zb (by grind[Qd])];have j:=Qck K1 a i hi N (pre++[x]) rest (out++[(max (a.getD i Zz).1 x.1,min (a.getD i Zz).2.1 x.2.1,())]) (by simp;omega) (by omega) (by simp;omega);simp_all[Z7u]
  ·rw[Zo (Zn h)];have j:=Qck K1 a i hi N (pre++[x]) rest out (by simp;omega) (by omega) (by omega);simp_all[Z7u,if_neg]
theorem Qvf(a b:Zi):(Z7u a b).length<=1:=by grind[Z7u]
theorem Zn9{α β:Type}{f:α->List β}{k:Nat}(hf:∀x,(f x).length<=k):∀l:List α,(l.flatMap f).length<=k*l.length
 |[]=>by simp
 |x::l=>by
  have:=Zn9 hf l
  grind[Nat.mul_succ]
theorem Qni(b:List Zi)(hb:b.length<=1000):∀(N:Nat)(pre rest:List Zi)(out:List Zi),(pre++rest).length<=1048576->rest.length<N->out.length<=1000*pre.length->
  Wz N (pre++rest) b out (pre.length:Int)=some (out++(if rsB (-1) (pre++rest)=true/\rsB (-1) b=true then rest.flatMap λa=>b.flatMap (Z7u a)else[]),())
 |0,_,_,_,_,h,_=>by omega
 |N+1,pre,[],out,e,d,f=>by
  simp_all[Wz]
 |N+1,pre,x::rest,out,e,d,f=>by
  have c:(pre++x::rest).length=pre.length+rest.length+1:=by simp;omega
  simp only[List.length_cons]at d;unfold Wz;have g:decide ((pre.length:Int)<((pre++x::rest).length:Int))=true:=Zl (by rw[c];omega);rw[g,Zes _,Zes b];simp only[Oct,Obs,Ota];cases h1:rsB (-1) (pre++x::rest)
  ·simp
  cases h2:rsB (-1) b
  ·simp
  simp only[Oct,Obs,Bool.and_self,and_self,if_true];have hx:(pre++x::rest).getD pre.length Zz=x:=Zhp pre x rest Zz;have h:=Qck (λv=>Wz N v.1 v.2.1 v.2.2.1 v.2.2.2.1) (pre++x::rest) pre.length (by rw[c];omega) (Zei (pre++x::rest) b out (pre.length:Int) 0) [] b out (by simpa using hb) (by simp[Zei]) (by omega);refine Eq.trans h ?_;rw[hx,Zr (m:=pre.length+1)];have i:=Zn9 (λy=>Qvf x y) b;have j:=Qni b hb N (pre++[x]) rest (out++b.flatMap (Z7u x)) (by simp;omega) (by omega) (by grind);simp_all
theorem Zzx(a b:List Zi)(ha:a.length<=1048576)(hb:b.length<=1000):Zde a b=some (if rsB (-1) a=true/\rsB (-1) b=true then a.flatMap λx=>b.flatMap (Z7u x)else[],()):=by
 have:=Qni b hb (Zeh a b [] 0) [] a [] (by simpa using ha) (by simp[Zeh]) (by simp);simp_all[Zde]
noncomputable def Zuy(r:Xu):Bool:=match Zba r with|some (b,_)=>b|none=>false
theorem Qkm(r:Xu):∀(N i:Nat),r.2.2.2.1.length<=1048576->r.2.2.2.1.length-i<N->i<=r.2.2.2.1.length->
  ∃b,Zjs N r (i:Int)=some (b,())/\(b=true-> ∀j,i<=j->j<r.2.2.2.1.length->0<=r.2.2.2.1.getD j 0/\r.2.2.2.1.getD j 0<=255)
 |0,_,_,h,_=>by omega
 |N+1,i,a,f,g=>by
  unfold Zjs;by_cases h:i<r.2.2.2.1.length
  ·rw[Zm (Zl),Zb,show(i:Int).toNat=i from rfl];have c:Z8 (r.2.2.2.1.getD i 0) 0 255=some (decide (r.2.2.2.1.getD i 0>=0)&&decide (r.2.2.2.1.getD i 0<=255),()):=rfl;rw[c,Obs,Zr h];obtain⟨b,d,k⟩:=Qkm r N (i+1) a (by omega) (by omega);cases hc:decide (r.2.2.2.1.getD i 0>=0)&&decide (r.2.2.2.1.getD i 0<=255)
   ·simp_all
   ·simp only[Oba,decide_eq_true_eq]at hc;refine⟨b,d,λl j m e=>?_⟩
    grind
  ·rw[Zo (Zn)]
   grind
theorem Zw8(r:Xu)(hl:r.2.2.2.1.length<=1048576):Zba r=some (Zuy r,())/\(Zuy r=true->(0<r.1/\r.1<=64)/\(r.2.2.2.1.length:Int)=r.1/\0<=r.2.1/\r.2.1<=r.2.2.1/\r.2.2.1-r.2.1<=r.1/\r.2.2.1<=4611686018427387903/\
  ∀j,j<r.2.2.2.1.length->0<=r.2.2.2.1.getD j 0/\r.2.2.2.1.getD j 0<=255):=by
 have d:∃b,Zba r=some (b,())/\(b=true->(0<r.1/\r.1<=64)/\(r.2.2.2.1.length:Int)=r.1/\0<=r.2.1/\r.2.1<=r.2.2.1/\r.2.2.1-r.2.1<=r.1/\r.2.2.1<=4611686018427387903/\
   ∀j,j<r.2.2.2.1.length->0<=r.2.2.2.1.getD j 0/\r.2.2.2.1.getD j 0<=255):=by
  unfold Zba Vl;simp only[Obs];generalize e:(((decide (r.1>(0:Int)))&&(decide (r.1<=(64:Int))))&&((bits .and .i64 r.1 (IntKind.i64.wrap (r.1- (1:Int))))==(0:Int)))=p;generalize a:((((((!p)||((r.2.2.2.1.length:Int) !=r.1))||(decide (r.2.1<(0:Int))))||(decide (r.2.2.1<r.2.1)))||(decide ((IntKind.i64.wrap (r.2.2.1-r.2.1))>r.1)))||(decide (r.2.2.1>(4611686018427387903:Int))))=c;cases c
  ·simp only[Bool.or_eq_false_iff,Bool.not_eq_false',decide_eq_false_iff_not,bne_eq_false_iff_eq]at a;obtain⟨⟨⟨⟨⟨f,h⟩,i⟩,k⟩,g⟩,l⟩:=a;subst f;simp only[Oba,decide_eq_true_eq]at e;rw[Zs]at g;obtain⟨b,m,n⟩:=Qkm r (Za6 r 0) 0 hl (by simp[Za6]) (by omega);simp_all
  simp_all
 grind[Zuy]
theorem Qyy(r:Xu)(hl:r.2.2.2.1.length<=1048576):Zu6 r=some (r,()):=by
 grind[Zu6,Zb,Qd]
theorem Qhf{x n:Int}(hx:0<=x)(hn:0<n):0<=Int.tmod x n/\Int.tmod x n<n:=by
 rw[Int.tmod_eq_emod_of_nonneg hx];exact⟨Int.emod_nonneg _ (by omega),Int.emod_lt_of_pos _ hn⟩
theorem Z9o(d:List UInt8)(r t4:Xu)(hr:0<r.1)(hE:0<=r.2.2.1)(hd:d.length<=1048576)(n:Nat)(hE2:r.2.2.1+n<=4611686018427387903)(hn:n<=d.length):
  ∀(N i:Nat)(x:Xu),(x.2.2.2.1.length:Int)=r.1->n-i<N->i<=n->
   ∃cs,Zdk N d r t4 x (n:Int) (i:Int)=some ((x.1,x.2.1,IntKind.i64.wrap (r.2.2.1+n),cs,x.2.2.2.2),(n:Int),())/\cs.length=x.2.2.2.1.length
 |0,_,_,_,h,_=>by omega
 |N+1,i,x,hx,a,b=>by
  unfold Zdk;by_cases h:i<n
  ·have c:=Qhf (x:=r.2.2.1+(i:Int)) (n:=r.1) (by omega) hr;rw[Zm (Zl),Zb,Zs];simp only;rw[Zb,Zb,Zr (m:=n) h];obtain⟨cs,e,f⟩:=Z9o d r t4 hr hE hd n hE2 hn N (i+1) (x.1,x.2.1,x.2.2.1,x.2.2.2.1.set (Int.tmod (r.2.2.1+(i:Int)) r.1).toNat (IntKind.i64.wrap ((d.getD (i:Int).toNat 0).toNat:Int)),x.2.2.2.2) (by simp_all) (by omega) (by omega);simp_all
  grind
theorem Q4x(r:Xu)(d:List UInt8)(hl:r.2.2.2.1.length<=1048576)(hd:d.length<=1048576)(hE:0<=r.2.2.1)(hE2:r.2.2.1<=4611686018427387903):
  ∃cs,∃n:Nat,Zwn r d=some ((r.1,r.2.1,r.2.2.1+n,cs,()),(n:Int),())/\n<=d.length/\cs.length=r.2.2.2.1.length/\r.2.2.1+n<=4611686018427387903:=by
 obtain⟨a,b⟩:=Zw8 r hl;unfold Zwn Z9j;rw[Qyy r hl,a];simp only[Obs];cases hb:Zuy r
 ·simp only[Bool.not_false,Oct,Obs];rw[show min (0:Int) (d.length:Int)=0 by omega];refine⟨r.2.2.2.1,0,?_,by omega,rfl,by simpa using hE2⟩;show Zdk 1 d r _ r 0 0=_;unfold Zdk;rw[Zo (by decide)]
  grind[Zs]
 ·obtain⟨⟨c,i⟩,e,j,k,l,m,o⟩:=b hb;simp only[Ont,Ocf,Obs];rw[show IntKind.i64.wrap (r.2.2.1-r.2.1)=r.2.2.1-r.2.1 from Zs,Zs,Zs];obtain⟨n,f⟩:∃n:Nat,min (min (r.1- (r.2.2.1-r.2.1)) (4611686018427387903-r.2.2.1)) (d.length:Int)=(n:Int):=⟨(min (min (r.1- (r.2.2.1-r.2.1)) (4611686018427387903-r.2.2.1)) (d.length:Int)).toNat,by omega⟩
  rw[f];obtain⟨cs,g,h⟩:=Z9o d r ((0:Int),(0:Int),(0:Int),([]:List Int),()) c hE hd n (by omega) (by omega) (Zh9 d r ((0:Int),(0:Int),(0:Int),([]:List Int),()) r (n:Int) 0) 0 r e (by simp[Zh9]) (by omega);refine⟨cs,n,?_,by omega,h,by omega⟩;refine Eq.trans g ?_
  grind[Zs]
theorem Qyx(n:Int):∃s,Zd9 n=some (s,())/\s.length<=1:=by
 unfold Zd9 Znv;generalize bits .and .i64 n (255:Int)=m;rw[show Z8 1 1 7=some (true,())from rfl];simp only[Obs,Ont,Bool.false_or];by_cases h:m<0
 ·simp_all
 ·rw[Zo (Zn h)];show ∃s,Option.bind (Yd 2 m 1 [] 0) _=_/\_;unfold Yd;rw[Zm (by decide),Zb (by decide)];simp only;rw[Zb (by simp[Yh,Qj]),Zb (by decide)];unfold Yd;rw[show IntKind.i64.wrap ((0:Int)+1)=1 from rfl,Zo (by decide)];cases decide (IntKind.i64.wrap (Int.tdiv m 256)>0)
  all_goals simp_all[Qj]
theorem Qb4(o n:Nat)(r:Xu)(hr:0<r.1)(hl:(r.2.2.2.1.length:Int)=r.1)(ho:o+n<=4611686018427387903)(hn:n<=64):∀(N i:Nat)(s:List UInt8),n-i<N->i<=n->s.length<=i->
  ∃t,Zfn N (o:Int) (n:Int) r s (i:Int)=some (t,true,())/\t.length<=n
 |0,_,_,h,_,_=>by omega
 |N+1,i,s,b,c,d=>by
  unfold Zfn;by_cases h:i<n
  ·have e:=Qhf (x:=(o:Int)+(i:Int)) (n:=r.1) (by omega) hr;rw[Zm (Zl),Zb,Zs];simp only;rw[Zb];obtain⟨t,a,f⟩:=Qyx (r.2.2.2.1.getD (Int.tmod ((o:Int)+(i:Int)) r.1).toNat 0);rw[a,Obs,Zb (by grind[Yh]),Zr (m:=n) h];exact Qb4 o n r hr hl ho hn N (i+1) (s++t) (by omega) (by omega) (by simp;omega)
  grind
theorem Q7r(r:Xu)(o n:Int)(hl:r.2.2.2.1.length<=1048576):∃t ok,Zil r o n=some (t,ok,())/\(t.length:Int)<=max n 0/\t.length<=64:=by
 obtain⟨d,e⟩:=Zw8 r hl;unfold Zil;rw[d,Obs];generalize b:(((((!Zuy r)||(decide (o<r.2.1)))||(decide (n<(0:Int))))||(decide (o>r.2.2.1)))||(decide (n>(IntKind.i64.wrap (r.2.2.1-o)))))=c;cases c
 ·simp only[Bool.or_eq_false_iff,Bool.not_eq_false',decide_eq_false_iff_not]at b;obtain⟨⟨⟨⟨f,j⟩,k⟩,l⟩,g⟩:=b;obtain⟨⟨h,m⟩,i,p,q,s,u,v⟩:=e f;rw[Zs]at g;obtain⟨o,rfl⟩:=Int.eq_ofNat_of_zero_le (a:=o) (by omega);obtain⟨n,rfl⟩:=Int.eq_ofNat_of_zero_le (a:=n) (by omega);obtain⟨t,w,x⟩:=Qb4 o n r h i (by omega) (by omega) (Ze0 (o:Int) (n:Int) r [] 0) 0 [] (by simp[Ze0]) (by omega) (by simp)
  grind
 grind
theorem Qbv(dt:Nat)(r t4:Xu)(hr:0<r.1)(hdt:dt<=4611686018427387903):∀(N i:Nat)(x:Xu),(x.2.2.2.1.length:Int)=r.1->dt-i<N->i<=dt->
  ∃cs,Znu N (dt:Int) r t4 x (i:Int)=some ((x.1,(dt:Int),x.2.2.1,cs,x.2.2.2.2),true,())/\cs.length=x.2.2.2.1.length
 |0,_,_,_,h,_=>by omega
 |N+1,i,x,hx,a,b=>by
  unfold Znu;by_cases h:i<dt
  ·have c:=Qhf (x:=(i:Int)) (n:=r.1) (by omega) hr;rw[Zm (Zl),Zb,Zb,Zr (m:=dt) h];obtain⟨cs,d,e⟩:=Qbv dt r t4 hr hdt N (i+1) (x.1,x.2.1,x.2.2.1,x.2.2.2.1.set (Int.tmod (i:Int) r.1).toNat (0:Int),x.2.2.2.2) (by simp_all) (by omega) (by omega);simp_all
  grind
theorem Q53(r:Xu)(dt:Int)(hl:r.2.2.2.1.length<=1048576):∃cs b ok,Ztd r dt=some ((r.1,b,r.2.2.1,cs,()),ok,())/\cs.length=r.2.2.2.1.length:=by
 obtain⟨g,h⟩:=Zw8 r hl;unfold Ztd;rw[Qyy r hl,g];simp only[Obs];generalize e:(((!Zuy r)||(decide (dt<r.2.1)))||(decide (dt>r.2.2.1)))=c;cases c
 ·simp only[Bool.or_eq_false_iff,Bool.not_eq_false',decide_eq_false_iff_not]at e;obtain⟨⟨i,n⟩,o⟩:=e;obtain⟨⟨j,p⟩,k,q,s,t,u,v⟩:=h i;obtain⟨dt,rfl⟩:=Int.eq_ofNat_of_zero_le (a:=dt) (by omega);obtain⟨l,d⟩:=Int.eq_ofNat_of_zero_le (a:=r.2.1) (by omega);obtain⟨cs,f,m⟩:=Qbv dt r ((0:Int),(0:Int),(0:Int),([]:List Int),()) j (by omega) (Zj4 (dt:Int) r ((0:Int),(0:Int),(0:Int),([]:List Int),()) r r.2.1) l r k (by grind[Zj4]) (by omega);rw[<-d]at f;exact⟨cs,dt,true,f,m⟩
 grind
def Qe7:List Zi->Int->Int|[],f=>f|x::l,f=>Qe7 l (if x.1<=f/\f<x.2.1 then x.2.1 else f)
theorem Qrc:∀(N:Nat)(pre rest:List Zi)(f:Int),(pre++rest).length<=1048576->rest.length<N->Zaq N (pre++rest) f (pre.length:Int)=some (Qe7 rest f,())
 |0,_,_,_,_,h=>by omega
 |N+1,pre,[],f,c,b=>by
  unfold Zaq;rw[Zo (by simp)];rfl
 |N+1,pre,x::rest,f,c,b=>by
  have a:(pre++x::rest).length=pre.length+rest.length+1:=by simp;omega
  simp only[List.length_cons]at b;have g:∀{ρ:Type}(m:Option ρ),Ze (0<=(pre.length:Int)/\(pre.length:Int)<((pre++x::rest).length:Int)) m=m:=λm=>Zb (by rw[a];omega);have d:(pre++[x])++rest=pre++x::rest:=by simp
  have e:((pre++[x]).length:Int)=((pre.length+1:Nat):Int):=by simp
  unfold Zaq Znx;rw[Zm (Zl (by rw[a];omega))];simp only[g,Zhp];rw[Zb (λ_=>by rw[a];omega),Zr (m:=pre.length+1)];have i:=λf=>Qrc N (pre++[x]) rest f (by simp;omega) (by omega);simp only[d,e]at i;by_cases h:x.1<=f/\f<x.2.1
  all_goals simp_all[Qe7,Zo,if_neg]
theorem Qe3(l:List Zi)(f:Int)(hl:l.length<=1048576:=by omega):Zma l f=some (if rsB (-1) l=true/\0<=f then Qe7 l f else-1,()):=by
 unfold Zma;rw[Zes l hl,Obs];cases h1:rsB (-1) l
 ·simp
 ·by_cases a:f<0
  ·grind
  ·rw[Zo (by simp;omega),if_pos ⟨rfl,by omega⟩];exact Qrc _ [] l f (by simpa using hl) (by simp[Zpz])
def Zc1:List Zi->Int|[]=>0|x::l=>(x.2.1-x.1)+Zc1 l
theorem Qve:∀(N:Nat)(pre rest:List Zi)(lo n:Int),(pre++rest).length<=1048576->rest.length<N->rsB lo rest=true->0<=n->n<=max lo 0->n<=4611686018427387903->J6 N (pre++rest) n (pre.length:Int)=some (n+Zc1 rest,())
 |0,_,_,_,_,_,h,_,_,_,_=>by omega
 |N+1,pre,[],lo,n,e,c,_,_,_,_=>by
  simp_all[J6,Zc1]
 |N+1,pre,x::rest,lo,n,e,c,hx,i,j,k=>by
  have a:(pre++x::rest).length=pre.length+rest.length+1:=by simp;omega
  simp only[List.length_cons]at c;obtain⟨d,f,b⟩:=Zeu.1 hx;have d:=Q5.1 d;have g:∀{ρ:Type}(m:Option ρ),Ze (0<=(pre.length:Int)/\(pre.length:Int)<((pre++x::rest).length:Int)) m=m:=λm=>Zb (by rw[a];omega);unfold J6;rw[Zm (Zl (by rw[a];omega))];simp only[g,Zhp];rw[Zr (m:=pre.length+1),show IntKind.i64.wrap (n+x.2.1)=n+x.2.1 from Zs,Zs];have l:=Qve N (pre++[x]) rest x.2.1 (n+x.2.1-x.1) (by simp;omega) (by omega) b (by omega) (by omega) (by omega)
  grind[Zc1]
theorem Zh1(l:List Zi)(hl:l.length<=1048576:=by omega):Za8 l=some (if rsB (-1) l=true then Zc1 l else-1,()):=by
 unfold Za8;rw[Zes l hl,Obs];cases h1:rsB (-1) l
 ·simp
 ·have:=Qve (Zej l 0 0) [] l (-1) 0 (by simpa using hl) (by simp[Zej]) h1 (by omega) (by omega) (by omega);simp_all
abbrev Q8a(s:Zp):Int:=s.2.1.2.2.1
structure Zbd(K:Int)(s:Zp):Prop where
 cells:s.2.1.2.2.2.1.length<=64
 e0:0<=s.2.1.2.2.1
 eK:s.2.1.2.2.1<=K
 pend:RL s.2.1.2.2.1 s.2.2.1
 flight:RL s.2.1.2.2.1 s.2.2.2.1
 acked:RL s.2.1.2.2.1 s.2.2.2.2.1
theorem Zbd.mono{K K':Int}{s:Zp}(h:Zbd K s)(hK:K<=K'):Zbd K' s:={h with eK:=Int.le_trans h.eK hK}
theorem Q4{E K:Int}{l:List Zi}(h:RL E l)(h0:0<=E)(hE:E<=K)(hK:K<=1000000):l.length<=1000001:=by
 have:=Xdm h (by omega);omega
theorem Z5{α:Type}{l:List α}{i:Nat}{d:α}(h:i<l.length:=by omega):l.getD i d∈l:=by
 simp_all
theorem Zw9{K:Int}{s:Zp}(h:Zbd K s)(hK:K<=1000000:=by omega):Zgo s=some (s,()):=by
 unfold Zgo;rw[Qyy _ (by have:=h.cells;omega),Qcu _ (Nat.le_trans (Q4 h.pend h.e0 h.eK hK) (by omega)),Obs,Qcu _ (Nat.le_trans (Q4 h.flight h.e0 h.eK hK) (by omega)),Obs,Obs,Qcu _ (Nat.le_trans (Q4 h.acked h.e0 h.eK hK) (by omega)),Obs]
theorem Qfk(s:Zp):∃k,Zdq s=some (k,()):=by
 unfold Zdq
 grind
theorem Qkq(s:Zp)(hl:s.2.2.2.2.1.length<=1048576):∀(N i:Nat),s.2.2.2.2.1.length-i<N->i<=s.2.2.2.2.1.length-> ∃b,Zfi N s (i:Int)=some (b,())
 |0,_,h,_=>by omega
 |N+1,i,a,d=>by
  unfold Zfi;by_cases h:i<s.2.2.2.2.1.length
  ·rw[Zm (Zl),Zb,Zr h];cases decide ((s.2.2.2.2.1.getD (i:Int).toNat Zz).2.1>s.2.2.2.2.2.2.2.1)
   ·exact Qkq s hl N (i+1) (by omega) (by omega)
   simp_all
  ·rw[Zo (Zn)];obtain⟨k,hk⟩:=Qfk s;rw[hk];generalize ((!((s.2.2.2.2.2.2.1==(0:Int))==(s.2.2.2.2.2.1==(-1:Int))))||((s.2.2.2.2.2.1 !=(-1:Int))&&(s.2.2.2.2.2.1 !=s.2.1.2.2.1)))=c;cases c<;>exact⟨_,rfl⟩
theorem Qkp(s:Zp)(hl:s.2.2.2.1.length<=1048576)(hl2:s.2.2.2.2.1.length<=1048576):∀(N i:Nat),s.2.2.2.1.length-i<N->i<=s.2.2.2.1.length-> ∃b,Zfh N s (i:Int)=some (b,())
 |0,_,h,_=>by omega
 |N+1,i,a,c=>by
  unfold Zfh;by_cases h:i<s.2.2.2.1.length
  ·rw[Zm (Zl),Zb,Zr h];cases decide ((s.2.2.2.1.getD (i:Int).toNat Zz).2.1>s.2.2.2.2.2.2.2.1)
   ·exact Qkp s hl hl2 N (i+1) (by omega) (by omega)
   simp_all
  ·rw[Zo (Zn)];exact Qkq s hl2 _ 0 (by simp[Zj6]) (by omega)
theorem Qvd{l:List Zi}(h:Zc1 l≠0):0<l.length:=by
 cases l with
 |nil=>exact absurd rfl h
 |cons=>simp
theorem Qko{K:Int}{s:Zp}(hs:Zbd K s)(hK:K<=1000000):∀(N i:Nat)(all:List Zi),RL (Q8a s) all->s.2.2.2.2.1.length-i<N->i<=s.2.2.2.2.1.length-> ∃b,Zfg N s all (i:Int)=some (b,())
 |0,_,_,_,h,_=>by omega
 |N+1,i,all,a,f,g=>by
  have j:=Q4 a hs.e0 hs.eK hK;have k:=Q4 hs.pend hs.e0 hs.eK hK;have l:=Q4 hs.flight hs.e0 hs.eK hK;have m:=Q4 hs.acked hs.e0 hs.eK hK;unfold Zfg;by_cases h:i<s.2.2.2.2.1.length
  ·rw[Zm (Zl),Zb,Zr h,Zqn _ _,Obs];exact Qko hs hK N (i+1) _ (Z3e a (hs.acked.2 _ (Z5 h))) (by omega) (by omega)
  ·rw[Zo (Zn),Zh1 _,Zh1 _,Zh1 _,Zh1 _,Qe3 _ _];simp only[Obs,a.1,if_true];rw[Zb (λd e=>by
    simp only[Bool.or_eq_false_iff,bne_eq_false_iff_eq,decide_eq_true_eq]at d e
    grind[Qvd])]
   generalize n:((Zc1 all !=s.2.1.2.2.1||_)||_)=c;cases c
   ·simp only[Ocf,Obs];generalize ((false||_)||_)=c2;cases c2
    ·exact Qkp s (by omega) (by omega) _ 0 (by simp[Zey]) (by omega)
    simp_all
   simp_all
theorem Qkn{K:Int}{s:Zp}(hs:Zbd K s)(hK:K<=1000000):∀(N i:Nat)(all:List Zi),RL (Q8a s) all->s.2.2.2.1.length-i<N->i<=s.2.2.2.1.length-> ∃b,Zff N s all (i:Int)=some (b,())
 |0,_,_,_,h,_=>by omega
 |N+1,i,all,a,c,d=>by
  have e:=Q4 a hs.e0 hs.eK hK;have f:=Q4 hs.flight hs.e0 hs.eK hK;unfold Zff;by_cases h:i<s.2.2.2.1.length
  ·rw[Zm (Zl),Zb,Zr h,Zqn _ _,Obs];exact Qkn hs hK N (i+1) _ (Z3e a (hs.flight.2 _ (Z5 h))) (by omega) (by omega)
  ·rw[Zo (Zn)];exact Qko hs hK _ 0 all a (by simp[Zex]) (by omega)
theorem Zkq{K:Int}{s:Zp}(hs:Zbd K s)(hK:K<=1000000:=by omega):∃b,Y5 s=some (b,())/\(b=true->Zuy s.2.1=true/\0<=s.2.2.2.2.2.2.2.1/\s.2.2.2.2.2.2.2.1<=s.2.1.2.2.1):=by
 have f:=Q4 hs.pend hs.e0 hs.eK hK;have g:=Q4 hs.flight hs.e0 hs.eK hK;have h:=Q4 hs.acked hs.e0 hs.eK hK;have a:=(Zw8 s.2.1 (by have:=hs.cells;omega)).1;obtain⟨i,j⟩:=Qkn hs hK (Jn s s.2.2.1 0) 0 s.2.2.1 hs.pend (by simp[Jn]) (by omega);unfold Y5;rw[a,Zes _,Zes _,Zes _];have c:Z8 s.2.2.2.2.2.2.2.1 0 s.2.1.2.2.1=some (decide (s.2.2.2.2.2.2.2.1>=0)&&decide (s.2.2.2.2.2.2.2.1<=s.2.1.2.2.1),()):=rfl;have d:Qz s.2.2.2.2.2.2.2.2.1=some (decide (s.2.2.2.2.2.2.2.2.1>=0)&&decide (s.2.2.2.2.2.2.2.2.1<=4611686018427387903),()):=rfl;have e:Z8 s.2.2.2.2.2.2.1 0 3=some (decide (s.2.2.2.2.2.2.1>=0)&&decide (s.2.2.2.2.2.2.1<=3),()):=rfl;simp only[hs.pend.1,hs.flight.1,hs.acked.1,c,d,e,Obs];cases Zuy s.2.1
 ·simp_all
 grind
theorem Qxw{K:Int}{s:Zp}(h:Zbd K s)(d:List UInt8)(hK:K+d.length<=1000000):
  ∃x n,Zsi s d=some (x,n,())/\Zbd (K+d.length) x:=by
 have f:=h.e0;have i:=h.cells;have e:=h.eK;obtain⟨b,j,-⟩:=Zkq h;have l:=Q4 h.pend f e (by omega);unfold Zsi;rw[Zw9 h,j];simp only[Obs];generalize (((!b)||(decide (s.1>(1:Int))))||(s.2.2.2.2.2.1 !=(-1:Int)))=c;cases c
 ·obtain⟨m,n,k,o,p,q⟩:=Q4x s.2.1 d (by omega) (by omega) f (by omega);rw[Ocf,k,Obs];unfold Zmx;have a:RL (s.2.1.2.2.1+n) s.2.2.2.1/\RL (s.2.1.2.2.1+n) s.2.2.2.2.1:=⟨Ql3 h.flight,Ql3 h.acked⟩
  by_cases g:(n:Int)>0
  ·rw[Zm (Zl g),Zqn _ _,Obs];exact⟨_,_,rfl,{cells:=(by simp only;omega),e0:=(by simp only;omega),eK:=(by simp only;omega),pend:=Z3e (Ql3 h.pend (by simp only;omega)) (by simp only;omega),flight:=a.1,acked:=a.2}⟩
  ·rw[Zo (Zn g)];exact⟨_,_,rfl,{cells:=(by simp only;omega),e0:=(by simp only;omega),eK:=(by simp only;omega),pend:=Ql3 h.pend (by simp only;omega),flight:=a.1,acked:=a.2}⟩
 ·exact⟨s,0,rfl,h.mono (by omega)⟩
theorem Qvc{K:Int}{s:Zp}(h:Zbd K s)(hK:K<=1000000):∃x ok,Zse s=some (x,ok,())/\Zbd K x:=by
 obtain⟨b,a,-⟩:=Zkq h hK;unfold Zse;rw[Zw9 h hK,a];simp only[Obs];generalize (((!b)||(decide (s.1>(1:Int))))||(s.2.2.2.2.2.1 !=(-1:Int)))=c;cases c
 ·exact⟨_,_,rfl,{cells:=h.cells,e0:=h.e0,eK:=h.eK,pend:=h.pend,flight:=h.flight,acked:=h.acked}⟩
 simp_all
theorem Zpr(E:Int):RL E []:=⟨rfl,by simp⟩
theorem Zyp{K:Int}{s:Zp}(h:Zbd K s)(code:Int)(hK:K<=1000000:=by omega):∃x ok,V6 s code=some (x,ok,())/\Zbd K x:=by
 have c:=h.cells;have d:=h.eK;obtain⟨b,e,f⟩:=Zkq h hK;unfold V6;rw[e];simp only[Obs];have g:Qz code=some (decide (code>=0)&&decide (code<=4611686018427387903),()):=rfl;rw[g];cases b
 ·simp only[Bool.not_false,Bool.true_or,Oct,Obs];rw[Zw9 h hK];simp_all
 ·obtain⟨i,a,j⟩:=f rfl;obtain⟨⟨k,l⟩,-⟩:=(Zw8 s.2.1 (by omega)).2 i;simp only[Ont,Bool.false_or];generalize (decide (code>=0)&&decide (code<=4611686018427387903))=q;cases decide (s.1>2)
  ·cases q
   ·simp only[Ocf,Obs,Bool.not_false,Bool.false_or,Oct];rw[Zw9 h hK];simp_all
   ·simp only[Ocf,Obs,Ont,Bool.or_self,X4,Kt];rw[Zb (by grind[Qd])];exact⟨_,_,rfl,{cells:=(by simp;omega),e0:=a,eK:=(by simp only;omega),pend:=Zpr _,flight:=Zpr _,acked:=Zpr _}⟩
  ·simp only[Oct,Obs,Bool.true_or];rw[Zw9 h hK];simp_all
theorem Q31{K:Int}{s:Zp}(h:Zbd K s)(most limit:Int)(hK:K<=1000000):∃p ok,Znz s most limit=some (p,ok,())/\p.2.1.length<=64:=by
 have i:=h.cells;obtain⟨b,j,k⟩:=Zkq h hK;unfold Znz;rw[j];simp only[Obs];have d:∀t e r a,∃p ok,Zdh s t e r a=some (p,ok,())/\p.2.1.length<=64:=by
  intro t e r a;unfold Zdh;by_cases f:a<=r.1
  ·rw[Zm (Zl f)];exact⟨_,_,rfl,Nat.zero_le _⟩
  ·rw[Zo (Zn f)];obtain⟨t,ok,l,m,n⟩:=Q7r s.2.1 r.1 (IntKind.i64.wrap (a-r.1)) (by omega);simp_all
 generalize ((!b)||(decide (s.1>(2:Int))))=c;cases c
 ·simp only[Ocf];by_cases g:(s.2.2.1.length:Int)>0
  ·rw[Zm (Zl g),Zb];generalize decide (min (s.2.2.1.getD (0:Int).toNat Zz).2.1 limit<=(s.2.2.1.getD (0:Int).toNat Zz).1)=c1;cases c1
   ·simp only[Ocf];generalize decide (most<IntKind.i64.wrap (min (s.2.2.1.getD (0:Int).toNat Zz).2.1 limit- (s.2.2.1.getD (0:Int).toNat Zz).1))=c2;cases c2
    ·exact d Zds _ _ _
    ·exact d Zds _ _ _
   ·exact⟨_,_,rfl,Nat.zero_le _⟩
  ·rw[Zo (Zn g)];cases s.2.2.2.2.2.2.1==(1:Int)
   ·exact⟨_,_,rfl,Nat.zero_le _⟩
   simp
 ·exact⟨_,_,rfl,Nat.zero_le _⟩
theorem Qtq(s:Zp)(p:Qy)(hE0:0<=s.2.1.2.2.1)(hE:s.2.1.2.2.1<=1000000:=by omega):∃b,Zsn s p=some (b,())/\(b=true->0<=p.1/\p.1+(p.2.1.length:Int)<=s.2.1.2.2.1):=by
 refine⟨_,rfl,λa=>?_⟩;simp only[Oba,decide_eq_true_eq]at a
 grind[Zs]
theorem Qtr{p:Qy}(h0:0<=p.1)(h1:p.1+(p.2.1.length:Int)<=1000000:=by omega):Zox p=some ((p.1,p.1+(p.2.1.length:Int),()),()):=by
 grind[Zox,Zs]
theorem Qsc{K:Int}{s:Zp}(h:Zbd K s)(p:Qy)(hK:K<=1000000):∃x ok,Zn0 s p=some (x,ok,())/\Zbd K x:=by
 have d:=h.e0;have a:=h.eK;have q:=Q4 h.pend d a hK;have lf:=Q4 h.flight d a hK;obtain⟨b,i,r⟩:=Zkq h hK;obtain⟨j,l,m⟩:=Qtq s p d;have e:∀t x,Zbd K x-> ∃y ok,Zg4 t x=some (y,ok,())/\Zbd K y:=by
  intro t x hx;unfold Zg4;obtain⟨k,hk⟩:=Qfk x;rw[hk];exact⟨_,_,rfl,{cells:=hx.cells,e0:=hx.e0,eK:=hx.eK,pend:=hx.pend,flight:=hx.flight,acked:=hx.acked}⟩
 have f:∀t x,Zbd K x-> ∃y ok,Zdi p t x=some (y,ok,())/\Zbd K y:=by
  intro t x hx;unfold Zdi;cases p.2.2.1
  ·exact e Zaw _ hx
  ·exact e Zaw _ {cells:=hx.cells,e0:=hx.e0,eK:=hx.eK,pend:=hx.pend,flight:=hx.flight,acked:=hx.acked}
 unfold Zn0;rw[Zw9 h hK,i];simp only[Obs];generalize (((!b)||(decide (s.1>(2:Int)))))=c0;cases c0
 ·simp only[Ocf,l,Obs,Bool.false_or];generalize g:(((!j)||((p.2.1==([]:List UInt8))&&(!p.2.2.1)))||(p.2.2.1&&(s.2.2.2.2.2.2.1 !=(1:Int))))=c;cases c
  ·simp only[Bool.or_eq_false_iff,Bool.not_eq_false']at g;obtain⟨n,o⟩:=m g.1.1;rw[Ocf];cases p.2.1==([]:List UInt8)
   ·simp only[Bool.not_false,Oct];rw[Qtr n,Obs];rw[Zzx _ _ (by omega) (by simp),Obs];simp only;generalize (if rsB (-1) s.2.2.1=true/\rsB (-1) [((p.1,p.1+(p.2.1.length:Int),()):Zi)]=true then List.flatMap (λx=>List.flatMap (Z7u x) [((p.1,p.1+(p.2.1.length:Int),()):Zi)]) s.2.2.1 else[])=cm;rw[Zb (λu=>by grind)];generalize ((cm.length:Int) !=1||_)=c3;cases c3
    ·rw[Ocf,Z27 _ _,Obs,Zqn _ _,Obs];exact f Zaw _ {cells:=h.cells,e0:=h.e0,eK:=h.eK,pend:=Qxy h.pend,flight:=Z3e h.flight o,acked:=h.acked}
    grind
   ·exact f Zaw _ h
  grind
 grind
theorem Qkd{E:Int}{a:List Zi}{r:Zi}{c:Prop}[Decidable c](h:∀x∈a,x.2.1<=E):∀y∈(if c then a.flatMap λx=>[r].flatMap (Z7u x)else[]),y.2.1<=E:=by
 intro y b;split at b
 ·simp only[List.mem_flatMap,List.mem_singleton,exists_eq_left]at b
  grind[Z7u]
 ·cases b
theorem Qcl{a:List Zi}{r:Zi}{c:Prop}[Decidable c]:(if c then a.flatMap λx=>[r].flatMap (Z7u x)else[]).length<=a.length:=by
 split
 ·have:=Zn9 (f:=λx=>[r].flatMap (Z7u x)) (k:=1) (λx=>by simp_all[Qvf]) a;omega
 ·simp
theorem Zbd.lists{K:Int}{s:Zp}(h:Zbd K s){f a:List Zi}(hf:RL s.2.1.2.2.1 f)(ha:RL s.2.1.2.2.1 a):Zbd K (s.1,s.2.1,s.2.2.1,f,a,s.2.2.2.2.2):=
 {cells:=h.cells,e0:=h.e0,eK:=h.eK,pend:=h.pend,flight:=hf,acked:=ha}
theorem Qj2{K:Int}{s x:Zp}(hs:Zbd K s)(hx:Zbd K x)(he:x.2.1=s.2.1)(t:Zp)(hK:K<=1000000):∃y,Znq s t x=some (y,())/\Zbd K y:=by
 have a:=hs.cells;have f:=Q4 hx.acked hx.e0 hx.eK hK;unfold Znq;simp only[X4,Kt];rw[Qe3 _ _,Obs];obtain⟨c,b,g,d,h⟩:=Q53 s.2.1 (if rsB (-1) x.2.2.2.2.1=true/\0<=(0:Int)then Qe7 x.2.2.2.2.1 0 else-1) (by omega);rw[d,Obs];unfold Zsd;obtain⟨k,hk⟩:=Qfk (x.1,(s.2.1.1,b,s.2.1.2.2.1,c,()),x.2.2);rw[hk,Obs];refine⟨_,rfl,?_⟩;have e:x.2.1.2.2.1=s.2.1.2.2.1:=by rw[he]
 exact {cells:=(by simp only;omega),e0:=hs.e0,eK:=hs.eK,pend:=(by have:=hx.pend;simp_all),flight:=(by have:=hx.flight;simp_all),acked:=(by have:=hx.acked;simp_all)}
theorem Qj1{K:Int}{s x:Zp}(hs:Zbd K s)(hx:Zbd K x)(he:x.2.1=s.2.1)(p:Qy)(t:Zp)(hK:K<=1000000):∃y,Znp s p t x=some (y,())/\Zbd K y:=by
 unfold Znp;cases p.2.2.1&&(s.2.2.2.2.2.2.1==(2:Int))
 ·exact Qj2 hs hx he t hK
 ·exact Qj2 hs (x:=(x.1,x.2.1,x.2.2.1,x.2.2.2.1,x.2.2.2.2.1,x.2.2.2.2.2.1,(3:Int),x.2.2.2.2.2.2.2)) {cells:=hx.cells,e0:=hx.e0,eK:=hx.eK,pend:=hx.pend,flight:=hx.flight,acked:=hx.acked} he t hK
theorem Qj3{K:Int}{s:Zp}(hs:Zbd K s)(p:Qy)(t:Zp)(hK:K<=1000000)(c:List Zi)(hcl:c.length<=1048576)(hc:∀y∈c,y.2.1<=s.2.1.2.2.1):∀(N i:Nat)(x:Zp),Zbd K x->x.2.1=s.2.1->c.length-i<N->i<=c.length->
  ∃y,Znr N s p t x c (i:Int)=some (y,())/\Zbd K y
 |0,_,_,_,_,h,_=>by omega
 |N+1,i,x,hx,a,f,g=>by
  have lf:=Q4 hx.flight hx.e0 hx.eK hK;have j:=Q4 hx.acked hx.e0 hx.eK hK;unfold Znr;by_cases h:i<c.length
  ·have b:=hc _ (Z5 (d:=Zz) h);have e:x.2.1.2.2.1=s.2.1.2.2.1:=by rw[a]
   rw[Zm (Zl),Zb,Z27 _ _,Obs,Zb,Zqn _ _,Obs,Zr h];exact Qj3 hs p t hK c hcl hc N (i+1) _ (hx.lists (Qxy hx.flight) (Z3e hx.acked (by rw[e];exact b))) a (by omega) (by omega)
  ·rw[Zo (Zn)];exact Qj1 hs hx a p t hK
theorem Q45{K:Int}{s:Zp}(h:Zbd K s)(p:Qy)(hK:K<=1000000):∃x,Zx2 s p=some (x,())/\Zbd K x:=by
 have e:=h.e0;have d:=h.eK;have lf:=Q4 h.flight e d hK;obtain⟨b,f,m⟩:=Zkq h hK;obtain⟨g,i,j⟩:=Qtq s p e;unfold Zx2;rw[Zw9 h hK,f];simp only[Obs];generalize ((!b)||(decide (s.1>(2:Int))))=c0;cases c0
 ·simp only[Ocf,i,Obs,Bool.false_or];cases g
  ·simp_all
  ·obtain⟨k,n⟩:=j rfl;simp only[Ont,Ocf];cases p.2.1==([]:List UInt8)
   ·simp only[Bool.not_false,Oct];rw[Qtr k,Obs];rw[Zzx _ _ (by omega) (by simp),Obs];have o:=Qcl (a:=s.2.2.2.1) (r:=((p.1,p.1+(p.2.1.length:Int),()):Zi)) (c:=rsB (-1) s.2.2.2.1=true/\rsB (-1) [((p.1,p.1+(p.2.1.length:Int),()):Zi)]=true);have l:=Qkd (a:=s.2.2.2.1) (r:=((p.1,p.1+(p.2.1.length:Int),()):Zi)) (c:=rsB (-1) s.2.2.2.1=true/\rsB (-1) [((p.1,p.1+(p.2.1.length:Int),()):Zi)]=true) h.flight.2;exact Qj3 h p _ hK _ (by omega) l _ 0 s h rfl (by simp_all[Zpy]) (by omega)
   ·exact Qj1 h h rfl p _ hK
 simp_all
theorem Qfn{K:Int}{s x:Zp}(hx:Zbd K x)(p:Qy)(t:Zp):∃y,Zlo s p t x=some (y,())/\Zbd K y:=by
 have a:∀x,Zbd K x-> ∃y,Zlp t x=some (y,())/\Zbd K y:=by
  intro x hx;unfold Zlp;obtain⟨k,hk⟩:=Qfk x;rw[hk];exact⟨_,rfl,{cells:=hx.cells,e0:=hx.e0,eK:=hx.eK,pend:=hx.pend,flight:=hx.flight,acked:=hx.acked}⟩
 unfold Zlo;cases p.2.2.1&&(s.2.2.2.2.2.2.1==(2:Int))
 ·exact a _ hx
 ·exact a _ {cells:=hx.cells,e0:=hx.e0,eK:=hx.eK,pend:=hx.pend,flight:=hx.flight,acked:=hx.acked}
theorem Qfo{K:Int}{s:Zp}(p:Qy)(t:Zp)(hK:K<=1000000)(c:List Zi)(E:Int)(hcl:c.length<=1048576)(hc:∀y∈c,y.2.1<=E):∀(N i:Nat)(x:Zp),Zbd K x->x.2.1.2.2.1=E->c.length-i<N->i<=c.length->
  ∃y,Zlq N s p t x c (i:Int)=some (y,())/\Zbd K y
 |0,_,_,_,_,h,_=>by omega
 |N+1,i,x,hx,a,e,f=>by
  have lf:=Q4 hx.flight hx.e0 hx.eK hK;have g:=Q4 hx.pend hx.e0 hx.eK hK;unfold Zlq;by_cases h:i<c.length
  ·have b:=hc _ (Z5 (d:=Zz) h);rw[Zm (Zl),Zb,Z27 _ _,Obs,Zb,Zqn _ _,Obs,Zr h];exact Qfo p t hK c E hcl hc N (i+1) _ {cells:=hx.cells,e0:=hx.e0,eK:=hx.eK,pend:=Z3e hx.pend (by rw[a];exact b),flight:=Qxy hx.flight,acked:=hx.acked} a (by omega) (by omega)
  ·rw[Zo (Zn)];exact Qfn hx p t
theorem Q3t{K:Int}{s:Zp}(h:Zbd K s)(p:Qy)(hK:K<=1000000):∃x,Zwk s p=some (x,())/\Zbd K x:=by
 have e:=h.e0;have d:=h.eK;have lf:=Q4 h.flight e d hK;obtain⟨b,f,m⟩:=Zkq h hK;obtain⟨g,i,j⟩:=Qtq s p e;unfold Zwk;rw[Zw9 h hK,f];simp only[Obs];generalize ((!b)||(decide (s.1>(2:Int))))=c0;cases c0
 ·simp only[Ocf,i,Obs,Bool.false_or];cases g
  ·simp_all
  ·obtain⟨k,n⟩:=j rfl;simp only[Ont,Ocf];cases p.2.1==([]:List UInt8)
   ·simp only[Bool.not_false,Oct];rw[Qtr k,Obs];rw[Zzx _ _ (by omega) (by simp),Obs];have o:=Qcl (a:=s.2.2.2.1) (r:=((p.1,p.1+(p.2.1.length:Int),()):Zi)) (c:=rsB (-1) s.2.2.2.1=true/\rsB (-1) [((p.1,p.1+(p.2.1.length:Int),()):Zi)]=true);have l:=Qkd (a:=s.2.2.2.1) (r:=((p.1,p.1+(p.2.1.length:Int),()):Zi)) (c:=rsB (-1) s.2.2.2.1=true/\rsB (-1) [((p.1,p.1+(p.2.1.length:Int),()):Zi)]=true) h.flight.2;exact Qfo p _ hK _ _ (by omega) l _ 0 s h rfl (by simp_all[Zor]) (by omega)
   ·exact Qfn h p _
 simp_all
theorem Q46{K:Int}{s:Zp}(h:Zbd K s)(hK:K<=1000000):∃x ok,Zx3 s=some (x,ok,())/\Zbd K x:=by
 obtain⟨b,a,d⟩:=Zkq h hK;unfold Zx3;rw[Zw9 h hK,a];simp only[Obs];generalize ((!b)||(s.1 !=(4:Int)))=c;cases c
 ·exact⟨_,_,rfl,{cells:=h.cells,e0:=h.e0,eK:=h.eK,pend:=h.pend,flight:=h.flight,acked:=h.acked}⟩
 simp_all
theorem Q5v(c:Qc)(n:Int)(h:Y7 c):∃b c',Zbb c n=some ((b,()),c',())/\Y7 c':=by
 unfold Zbb;obtain⟨x,d,a,e,-,-⟩:=Zw3 c n h;rw[a,Obs]
 grind
theorem Qq8(c:Qc)(l:List (List UInt8))(h:Y7 c)(hl:0<l.length):∃x c',Zu3 c l=some ((x,()),c',())/\Y7 c'/\x∈l:=by
 unfold Zu3;obtain⟨x,e,b,f,d,a⟩:=Zw3 c (l.length:Int) h;have a:=a (by omega);rw[b,Obs];simp only[];rw[Zb ⟨d,a⟩]
 grind
theorem Qno:∀(N m:Nat)(c:Qc)(s:List UInt8),Y7 c->m<N->s.length+m<=1000000-> ∃t c',Zn3 N c s (m:Int)=some ((t,()),c',())/\Y7 c'/\t.length<=s.length+m
 |0,_,_,_,_,h,_=>by omega
 |N+1,0,c,s,a,_,_=>by
  unfold Zn3
  grind
 |N+1,m+1,c,s,a,i,j=>by
  unfold Zn3;rw[Zm (Zl)];obtain⟨x,b,d,f,hx⟩:=Qq8 c [([97]:List UInt8),([98]:List UInt8),([99]:List UInt8),([100]:List UInt8)] a (by simp);have g:x.length=1:=by grind
  rw[d,Obs,Zb (by grind[Yh])];have e:IntKind.i64.wrap (((m+1:Nat):Int)-1)=(m:Int):=by grind[Zs]
  rw[e];obtain⟨t,k,l,n,o⟩:=Qno N m b (s++x) f (by omega) (by simp;omega)
  grind
theorem Q5u(c:Qc)(most:Nat)(h:Y7 c)(hm:most<=1000):∃t c',Zu5 c (most:Int)=some ((t,()),c',())/\Y7 c'/\t.length<=most:=by
 unfold Zu5;obtain⟨x,b,d,e,f,a⟩:=Zw3 c (IntKind.i64.wrap ((most:Int)+1)) h;rw[d,Obs];rw[Zs]at a;have a:=a (by omega);obtain⟨m,rfl⟩:=Int.eq_ofNat_of_zero_le f;obtain⟨t,g,i,j,k⟩:=Qno (Zm0 b [] (m:Int)) m b [] e (by simp[Zm0]) (by simp;omega)
 grind
def inR(n:Int)(l:List Zi):Prop:= ∃x∈l,x.1<=n/\n<x.2.1
theorem Qft:∀{l:List Zi}{r:Zi}{n:Int},inR n (Zk4 l r)->inR n l\/(r.1<=n/\n<r.2.1)
 |[],r,n,⟨x,hx,h⟩=>by simp_all[Zk4]
 |y::l,r,n,⟨x,hx,h⟩=>by
  have a:inR n l->inR n (y::l):=λ⟨z,b,c⟩=>⟨z,by simp[b],c⟩
  unfold Zk4 at hx;split at hx
  ·rcases List.mem_cons.1 hx with rfl|hx
   ·exact .inl ⟨x,by simp,h⟩
   ·exact(Qft ⟨x,hx,h⟩).imp a id
  ·split at hx
   ·rcases List.mem_cons.1 hx with rfl|hx
    ·exact .inr h
    ·exact .inl ⟨x,hx,h⟩
   ·rcases Qft ⟨x,hx,h⟩with h'|h'
    ·simp_all
    ·simp only at h';by_cases d:y.1<=n/\n<y.2.1
     ·exact .inl ⟨y,by simp,d⟩
     omega
theorem Z7t:∀{l:List Zi}{r:Zi},(∀x∈l,x.1<=x.2.1)->r.1<=r.2.1->Zc1 (Zk4 l r)<=Zc1 l+(r.2.1-r.1)
 |[],r,_,_=>by simp[Zk4,Zc1]
 |y::l,r,b,c=>by
  have a:∀x∈l,x.1<=x.2.1:=λx hx=>b x (by simp[hx]);have d:=b y (by simp);unfold Zk4;split
  ·have:=Z7t (l:=l) (r:=r) a c;grind[Zc1]
  ·split
   ·grind[Zc1]
   ·have:=Z7t (l:=l) (r:=(min r.1 y.1,max r.2.1 y.2.1,())) a (by simp only;omega);grind[Zc1]
def ckB:Int->List Z6->Bool|_,[]=>true|e,c::l=> !(((decide (c.1<=e))||(c.2.1==([]:List UInt8)))||(decide (c.1>(IntKind.i64.wrap ((4611686018427387903:Int)- (c.2.1.length:Int))))))&&ckB (IntKind.i64.wrap (c.1+(c.2.1.length:Int))) l
def Zd5(n:Int):Bool:=decide (n>=0)&&decide (n<=4611686018427387903)
theorem Kz(n:Int):Qz n=some (Zd5 n,()):=rfl
theorem Km{n:Int}:Zd5 n=true↔0<=n/\n<=4611686018427387903:=by simp[Zd5]
def Zoz(b:Zv):Bool:=ckB (IntKind.i64.wrap (b.1-1)) b.2.1&&Zd5 b.1
theorem Qbz(b:Zv):∀(N:Nat)(pre rest:List Z6)(e:Int),b.2.1=pre++rest->b.2.1.length<=1048576->rest.length<N->Zi1 N b e (pre.length:Int)=some (ckB e rest&&Zd5 b.1,())
 |0,_,_,_,_,_,h=>by omega
 |N+1,pre,[],e,a,d,f=>by
  simp_all[Zi1,Kz,ckB]
 |N+1,pre,c::rest,e,a,d,f=>by
  have g:b.2.1.length=pre.length+rest.length+1:=by grind
  simp only[List.length_cons]at f;have i:b.2.1.getD (pre.length:Int).toNat Qx=c:=by grind
  unfold Zi1;rw[Zm (Zl),Zb];simp only[i];have j:=Qbz b N (pre++[c]) rest (IntKind.i64.wrap (c.1+(c.2.1.length:Int))) (by rw[a];simp) d (by omega)
  grind[Zr,ckB]
theorem Zjh(b:Zv)(hl:b.2.1.length<=1048576:=by omega):Zii b=some (Zoz b,()):=by
 unfold Zii;exact Qbz b _ [] b.2.1 _ rfl hl (by simp[Zp0])
def rgC(c:Z6):Zi:=(c.1,c.1+(c.2.1.length:Int),())
def Zkf:List Z6->Nat|[]=>0|c::l=>c.2.1.length+Zkf l
theorem Z3d:∀{l:List Z6}{c:Z6},c∈l->c.2.1.length<=Zkf l
 |x::l,c,h=>by
  rcases List.mem_cons.1 h with rfl|h
  ·simp[Zkf]
  ·have:=Z3d h;grind[Zkf]
structure Zhn(K:Nat)(b:Zv):Prop where
 len:b.2.1.length<=K
 tot:Zkf b.2.1<=K
theorem Zhn.mono{K K':Nat}{b:Zv}(h:Zhn K b)(hK:K<=K'):Zhn K' b:=⟨Nat.le_trans h.len hK,Nat.le_trans h.tot hK⟩
theorem Q5q:∀{l:List Z6}{e:Int},Zkf l<=1000000-> -1<=e->ckB e l=true->rsB e (l.map rgC)=true
 |[],_,_,_,_=>rfl
 |c::l,e,b,g,h=>by
  simp only[Zkf]at b;simp only[ckB,Oba,Bool.not_eq_true',Bool.or_eq_false_iff,decide_eq_false_iff_not,beq_eq_false_iff_ne]at h;obtain⟨⟨⟨i,d⟩,f⟩,a⟩:=h;rw[Zs]at f;rw[Zs]at a;have j:0<c.2.1.length:=List.length_pos_iff.2 d;rw[List.map_cons,Zeu];exact⟨Q5.2 (by grind[rgC]),by simp_all[rgC],Q5q (by omega) (by grind[rgC]) a⟩
theorem Ql5:∀(l:List Z6),Zc1 (l.map rgC)=(Zkf l:Int)
 |[]=>rfl
 |c::l=>by
  have:=Ql5 l
  grind[Zc1,Zkf,rgC]
theorem Z7m(b:Zv)(ht:Zkf b.2.1<=1000000)(hb2:∀c∈b.2.1,-1<=c.1/\c.1<=4611686018427387903):∀(N:Nat)(pre rest:List Z6)(out:List Zi),b.2.1=pre++rest->b.2.1.length<=1048576->rest.length<N->out.length<=pre.length->Zoz b=true->
  J5 N b out (pre.length:Int)=some (out++rest.map rgC,())
 |0,_,_,_,_,_,h,_,_=>by omega
 |N+1,pre,[],out,a,d,f,k,e=>by
  unfold J5;simp_all
 |N+1,pre,c::rest,out,a,d,f,k,e=>by
  have i:b.2.1.length=pre.length+rest.length+1:=by grind
  simp only[List.length_cons]at f;have n:b.2.1.getD (pre.length:Int).toNat Qx=c:=by grind
  have g:∀{ρ:Type}(m:Option ρ),Ze (0<=(pre.length:Int)/\(pre.length:Int)<(b.2.1.length:Int)) m=m:=λm=>Zb;have q:=hb2 c (by rw[a];simp);have o:=Z3d (l:=b.2.1) (c:=c) (by rw[a];simp);unfold J5;have p:decide ((pre.length:Int)<(b.2.1.length:Int))=true:=Zl;rw[p,Zjh b d,e];simp only[Oct,Obs,Bool.and_self,g,n];rw[Zb (by grind[Qd]),Zr (m:=pre.length+1),Zs];have j:=Z7m b ht hb2 N (pre++[c]) rest (out++[rgC c]) (by rw[a];simp) d (by omega) (by simp;omega) e;rw[show((pre++[c]).length:Int)=((pre.length+1:Nat):Int) by simp]at j;refine Eq.trans j ?_;simp
theorem Zw2{b:Zv}(ht:Zkf b.2.1<=1000000)(h:Zoz b=true):0<=b.1/\b.1<=4611686018427387903/\rsB (b.1-1) (b.2.1.map rgC)=true:=by
 unfold Zoz at h;simp only[Oba]at h
 grind[Km,Zs,Q5q]
theorem Qeq{K:Nat}{b:Zv}(hi:Zhn K b)(hK:K<=1000000:=by omega):Zqg b=some (if Zoz b=true then b.2.1.map rgC else[],()):=by
 have e:=hi.len;have f:=hi.tot;unfold Zqg;cases hB:Zoz b
 ·show J5 (_+1) b [] 0=_
  grind[J5,Zjh]
 ·obtain⟨g,h,a⟩:=Zw2 (by omega) hB;have:=Z7m b (by omega) (λc d=>by
   have i:=Zqe a (rgC c) (List.mem_map_of_mem d)
   grind[Q5,rgC]) (Zeg b [] 0) [] b.2.1 [] rfl (by omega) (by simp[Zeg]) (by simp) hB
  simp_all
theorem Qka(b:Zv)(at_:Int)(h0:0<=at_)(h1:at_<=4611686018427387903)(ht:Zkf b.2.1<=1000000)(hq:∀c∈b.2.1,0<=c.1/\c.1<=4611686018427387903):∀(N:Nat)(pre rest:List Z6),b.2.1=pre++rest->b.2.1.length<=1048576->rest.length<N->
  ∃v,Zga N at_ b (pre.length:Int)=some (v,())/\(v<0-> ¬inR at_ (rest.map rgC))/\v<=255
 |0,_,_,_,_,h=>by omega
 |N+1,pre,[],d,e,f=>by
  unfold Zga;rw[Zo (by rw[d];simp)];exact⟨-1,rfl,λ_ ⟨x,hx,_⟩=>by simp at hx,by omega⟩
 |N+1,pre,c::rest,d,e,f=>by
  have i:b.2.1.length=pre.length+rest.length+1:=by grind
  simp only[List.length_cons]at f;have k:b.2.1.getD (pre.length:Int).toNat Qx=c:=by grind
  have g:∀{ρ:Type}(m:Option ρ),Ze (0<=(pre.length:Int)/\(pre.length:Int)<(b.2.1.length:Int)) m=m:=λm=>Zb;have s:=hq c (by rw[d];simp);have n:=Z3d (l:=b.2.1) (c:=c) (by rw[d];simp);unfold Zga;rw[Zm (Zl)];simp only[g,k];rw[Zb (λ_=>by omega),Zb (λ_=>by omega),Zs,Zl,Zl];simp only[Ota];obtain⟨v,j,o,p⟩:=Qka b at_ h0 h1 ht hq N (pre++[c]) rest (by rw[d];simp) e (by omega);rw[show((pre++[c]).length:Int)=((pre.length+1:Nat):Int) by simp]at j;by_cases a:at_-c.1>=0/\at_-c.1<(c.2.1.length:Int)
  ·rw[Zl a.1,Zl a.2,Bool.and_self,Oct,Zb ⟨a.1,a.2⟩];have q:(c.2.1.getD (at_-c.1).toNat 0).toNat<256:=(c.2.1.getD (at_-c.1).toNat 0).toNat_lt;rw[Zs]
   grind
  ·rw[Zo (by simp_all),Zr (m:=pre.length+1)];refine⟨v,j,λhv ⟨x,hx,r⟩=>?_,p⟩;rw[List.map_cons]at hx;rcases List.mem_cons.1 hx with rfl|hx
   ·grind[rgC]
   ·exact o hv ⟨x,hx,r⟩
theorem Xds(b:Zv)(at_:Int)(h0:0<=at_)(h1:at_<=4611686018427387903)(ht:Zkf b.2.1<=1000000)(hl:b.2.1.length<=1000000)(hq:∀c∈b.2.1,0<=c.1/\c.1<=4611686018427387903):
  ∃v,Zu1 b at_=some (v,())/\(v<0-> ¬inR at_ (b.2.1.map rgC))/\v<=255:=by
 unfold Zu1;exact Qka b at_ h0 h1 ht hq _ [] b.2.1 rfl (by omega) (by simp[Zmt])
theorem Q6w{b:Zv}(ht:Zkf b.2.1<=1000000)(hbl:b.2.1.length<=1000000)(hq:∀c∈b.2.1,0<=c.1/\c.1<=4611686018427387903)(K1:(Int×List UInt8×Zv×Zv×Zv×List Zi×Int×Unit)->Option (Zv×Unit))(o:Int)(ho:0<=o/\o<=4611686018427387903)(d:List UInt8)(t x:Zv)(l:List Zi)(i:Nat)(hi:i<l.length)(r:Zi)(hr:l.getD i Zz=r)
  (h0:0<=r.1) (hH:r.2.1<=4611686018427387903) (hx:x.2.1.length<=1000000)
  (hin:∀n,r.1<=n->n<r.2.1->inR n (b.2.1.map rgC)\/(o<=n/\n<o+d.length)):
  ∀(N m:Nat)(s:List UInt8),(m:Int)<=r.2.1-r.1->m<N->(s.length:Int)+m<=r.2.1-r.1->(r.2.1-r.1)<=2000000->
   ∃t',Yu K1 N o d b t x l (i:Int) s (r.2.1-m)=K1 (o,d,b,t,(x.1,x.2.1++[(r.1,t',())],x.2.2),l,IntKind.i64.wrap ((i:Int)+1),())/\(t'.length:Int)<=r.2.1-r.1
 |0,_,_,_,h,_,_=>by omega
 |N+1,0,s,g,j,k,f=>by
  unfold Yu;rw[Zb,show(i:Int).toNat=i from rfl,hr,Zo (Zn),Zb];simp only;rw[Zb (by grind[Qd])]
  grind
 |N+1,m+1,s,g,j,k,f=>by
  unfold Yu;rw[Zb,show(i:Int).toNat=i from rfl,hr,Zm (Zl)];obtain⟨v,p,q,w⟩:=Xds b (r.2.1- ((m+1:Nat):Int)) (by omega) (by omega) ht hbl hq;rw[p,Obs];have a:∀v,∃t',Zb6 K1 (λv=>Yu K1 N v.1 v.2.1 v.2.2.1 v.2.2.2.1 v.2.2.2.2.1 v.2.2.2.2.2.1 v.2.2.2.2.2.2.1 v.2.2.2.2.2.2.2.1 v.2.2.2.2.2.2.2.2.1) o d b t x l (i:Int) s (r.2.1- ((m+1:Nat):Int)) v=K1 (o,d,b,t,(x.1,x.2.1++[(r.1,t',())],x.2.2),l,IntKind.i64.wrap ((i:Int)+1),())/\(t'.length:Int)<=r.2.1-r.1:=by
   intro v;unfold Zb6;obtain⟨y,u,z⟩:=Qyx v;rw[u,Obs,Zb (by grind[Yh]),Zs];have e:r.2.1- ((m+1:Nat):Int)+1=r.2.1- (m:Int):=by omega
   simp only[e];exact Q6w ht hbl hq K1 o ho d t x l i hi r hr h0 hH hx hin N m (s++y) (by omega) (by omega) (by simp;omega) f
  by_cases hv:v<0
  ·have:=(hin (r.2.1- ((m+1:Nat):Int)) (by omega) (by omega)).resolve_left (q hv);rw[Zm (Zl hv),Zb (by grind[Zs])];exact a _
  simp_all[Zn]
theorem Qxq:∀(a b:List Z6),Zkf (a++b)=Zkf a+Zkf b
 |[],b=>by simp[Zkf]
 |c::a,b=>by simp only[List.cons_append,Zkf,Qxq a b];omega
theorem Q28:∀{l:List Zi}{i:Nat},i<l.length->Zc1 (l.drop i)=((l.getD i Zz).2.1- (l.getD i Zz).1)+Zc1 (l.drop (i+1)):=by
 intro l i h;rw[Xh (d:=Zz) h];rfl
theorem Q6v{b:Zv}(ht:Zkf b.2.1<=1000000)(hbl:b.2.1.length<=1000000)(hq:∀c∈b.2.1,0<=c.1/\c.1<=4611686018427387903)(o:Int)(ho:0<=o/\o<=4611686018427387903)(d:List UInt8)(t:Zv)(l:List Zi)
  (hl:l.length<=1000000) (hf:∀r∈l,Zf9 r=true) (hc:Zc1 l<=2000000)
  (hin:∀n,inR n l->inR n (b.2.1.map rgC)\/(o<=n/\n<o+d.length)) (M:Int) (hM:M<=4000000):
  ∀(N i:Nat)(x:Zv),l.length-i<N->i<=l.length->x.2.1.length<=i->(Zkf x.2.1:Int)+Zc1 (l.drop i)<=M->
   ∃y,Vh N o d b t x l (i:Int)=some (y,())/\y.1=x.1/\y.2.1.length<=l.length/\(Zkf y.2.1:Int)<=M
 |0,_,_,h,_,_,_=>by omega
 |N+1,i,x,D,E,hx,F=>by
  unfold Vh;by_cases h:i<l.length
  ·have e:=Z5 (d:=Zz) h;have g:=Q5.1 (hf _ e);have G:=Q28 h;have j:∀{l:List Zi},(∀r∈l,Zf9 r=true)->0<=Zc1 l:=by
    intro l
    induction l with
    |nil=>simp_all[Zc1]
    |cons r l z=>
     intro p;have:=Q5.1 (p r (by simp))
     grind[Zc1]
   have H:=j (l:=l.drop (i+1)) λr f=>hf r (List.mem_of_mem_drop f);have k:(l.getD i Zz).2.1- (l.getD i Zz).1<=2000000:=by
    have A:∀(l:List Zi),(∀r∈l,Zf9 r=true)-> ∀r∈l,r.2.1-r.1<=Zc1 l:=by
     intro l
     induction l with
     |nil=>simp_all
     |cons q l z=>
      intro p r f;have hq:=Q5.1 (p q (by simp));have hl:=j (l:=l) λr f=>p r (by simp[f]);simp only[Zc1]
      grind
    grind
   rw[Zm (Zl),Zb,show(i:Int).toNat=i from rfl];generalize f:l.getD i Zz=r at*
   obtain⟨m,B⟩:=Int.eq_ofNat_of_zero_le (a:=r.2.1-r.1) (by omega);obtain⟨C,w,I⟩:=Q6w ht hbl hq (λv=>Vh N v.1 v.2.1 v.2.2.1 v.2.2.2.1 v.2.2.2.2.1 v.2.2.2.2.2.1 v.2.2.2.2.2.2.1) o ho d t x l i h r f g.1 g.2.2 (by omega)
    (λn s u=>hin n ⟨r,e,s,u⟩) (Wp o d b t x l (i:Int) [] r.1) m [] (by omega) (by simp_all[Wp]) (by simp;omega) k
   rw[show r.2.1- (m:Int)=r.1 by omega]at w;rw[w,Zr h];obtain⟨y,J,K,L,O⟩:=Q6v ht hbl hq o ho d t l hl hf hc hin M hM N (i+1) (x.1,x.2.1++[(r.1,C,())],x.2.2) (by omega) (by omega) (by simp;omega) (by
    grind[Qxq,Zkf])
   simp_all
  ·rw[Zo (Zn)];have:i=l.length:=by omega
   simp_all[Zc1]
theorem Z0z{K:Nat}{b:Zv}(h:Zhn K b)(hK:K<=1000000:=by omega):Zod b=some (b,()):=by
 have:=h.len
 grind[Zod,Zb,Qd]
theorem Qoh{K:Nat}{b:Zv}(h:Zhn K b)(o:Int)(d:List UInt8)(hK:K+d.length+1<=1000000):∃y,Zkv b o d=some (y,())/\Zhn (K+d.length+1) y:=by
 have z:=h.len;have A:=h.tot;unfold Zkv;rw[Zjh b,Obs];generalize i:((((!Zoz b)||(d==([]:List UInt8)))||(decide (o<(0:Int))))||(decide (o>(IntKind.i64.wrap ((4611686018427387903:Int)- (d.length:Int))))))=c;cases c
 ·simp only[Bool.or_eq_false_iff,Bool.not_eq_false',decide_eq_false_iff_not]at i;obtain⟨⟨⟨p,B⟩,C⟩,t⟩:=i;rw[Zs]at t;obtain⟨D,E,q⟩:=Zw2 (by omega) p;simp only[Ocf];rw[Zs];by_cases s:max o b.1>=o+(d.length:Int)
  ·rw[Zm (Zl s),Z0z h];exact⟨b,rfl,h.mono (by omega)⟩
  ·rw[Zo (Zn s),Qeq h,Obs,p];simp only[if_true];have j:(b.2.1.map rgC).length<=1048576:=by grind
   rw[Zqn _ _ j,Obs];have a:rsB (-1) (b.2.1.map rgC)=true:=Z49 q (by omega);have e:Zf9 (max o b.1,o+(d.length:Int),())=true:=Q5.2 (by simp only;omega);simp only[a,e,and_self,if_true];have k:=Qel (l:=b.2.1.map rgC) (r:=((max o b.1,o+(d.length:Int),()):Zi));rw[List.length_map]at k;have f:=Z7t (l:=b.2.1.map rgC) (r:=((max o b.1,o+(d.length:Int),()):Zi)) (λx hx=>by
    have:=Q5.1 (Zqe a x hx).2;omega) (by simp only;omega)
   rw[Ql5]at f;simp only at f;have g:=Z9r a e (by simp only;omega);have m:∀c∈b.2.1,0<=c.1/\c.1<=4611686018427387903:=λc i=>by
    have F:=Zqe q (rgC c) (List.mem_map_of_mem i)
    grind[Q5,rgC]
   obtain⟨y,u,G,H,I⟩:=Q6v (b:=b) (by omega) (by omega) m o (by omega) d Qmv _ (by omega) (λr v=>(Zqe g r v).2) (by omega) (λn w=>(Qft w).imp id λJ=>by grind) (K+d.length) (by omega)
    (Wo o d b Qmv (b.1,[],()) (Zk4 (b.2.1.map rgC) (max o b.1,o+(d.length:Int),())) 0) 0 (b.1,[],()) (by simp[Wo]) (by omega) (by simp) (by grind[Zkf])
   exact⟨y,u,by omega,by omega⟩
 ·rw[Oct,Z0z h];exact⟨b,rfl,h.mono (by omega)⟩
def Zed(b:Zv):Int:=if Zoz b=true/\b.2.1≠[]/\(b.2.1.getD 0 Qx).1=b.1 then((b.2.1.getD 0 Qx).2.1.length:Int)else 0
theorem Zrb(b:Zv)(hl:b.2.1.length<=1048576:=by omega):Zd8 b=some (Zed b,()):=by
 unfold Zd8 Zed;rw[Zjh b hl,Obs];obtain⟨a,l,_⟩:=b;cases hB:Zoz (a,l,())
 ·simp[Ze]
 ·cases l with
  |nil=>simp[Ze]
  |cons c l=>
   simp only[Ont,Bool.false_or];have e:(((c::l).length:Int)==0)=false:=by rfl
   rw[e,Zb (λ_=>by simp_all)];simp only[Bool.false_or,show(0:Int).toNat=0 from rfl,List.getD_cons_zero,ne_eq,reduceCtorEq,not_false_eq_true,true_and];by_cases h:c.1=a
   all_goals simp_all[Zb,Zm]
theorem Q4f{K:Nat}{b:Zv}(h:Zhn K b):0<=Zed b/\Zed b<=(K:Int)/\(Zed b≠0->Zoz b=true/\ ∃c l,b.2.1=c::l/\Zed b=(c.2.1.length:Int)):=by
 unfold Zed;split
 ·rename_i a;obtain⟨d,l,_⟩:=b;cases l with
  |nil=>simp_all
  |cons c l=>
   have:=h.tot;simp only[Zkf]at this
   grind
 omega
theorem Q4o{K:Nat}{b:Zv}(h:Zhn K b)(hK:K<=1000000)(m:Int):∃s y,Zwm b m=some (s,y,())/\Zhn K y/\s.length<=K:=by
 have a:=h.len;have d:=h.tot;obtain⟨q,r,i⟩:=Q4f h;unfold Zwm;rw[Zrb b,Z0z h hK];simp only[Obs];generalize t:min (Zed b) (max m 0)=n;by_cases e:n=0
 ·subst e
  grind
 ·rw[Zo (by simp[e])];obtain⟨j,c,l,f,u⟩:=i (by omega);obtain⟨k,o,v⟩:=Zw2 (by omega) j;rw[Zs];obtain⟨z,w,_⟩:=b;simp only at f a d k o;subst f;simp only[List.length_cons]at a;simp only[Zkf]at d;simp only[show(0:Int).toNat=0 from rfl,List.getD_cons_zero,List.length_cons];rw[Zb];by_cases g:n=(c.2.1.length:Int)
  ·rw[Zm (by simp[g]),Zb];simp only[show(1:Int).toNat=1 from rfl,List.drop_succ_cons,List.drop_zero];have p:Zhn K ((z+n,(l.take (((l.length+1:Nat):Int).toNat-1)),()):Zv):=by
    rw[show((l.length+1:Nat):Int).toNat-1=l.length by omega,List.take_length];exact⟨by grind,by grind⟩
   rw[Z0z p hK]
   grind
  ·rw[Zo (by simp[g]),Zb,Zb,Zb];refine⟨_,_,rfl,⟨?_,?_⟩,?_⟩
   all_goals grind[Zkf]
theorem Q55{K:Nat}{b:Zv}(h:Zhn K b)(hK:K<=1000000):∃v,Zri b=some (v,()):=by
 have c:=h.len;unfold Zri;rw[Zjh b];by_cases a:b.2.1=[]
 ·simp_all
 ·have:0<b.2.1.length:=List.length_pos_iff.2 a;have e:((b.2.1.length:Int)==(0:Int))=false:=by simp_all
  rw[e];simp only[Ocf,Obs,Bool.false_or];cases Zoz b
  ·simp_all
  ·simp only[Ont,Ocf];rw[Zs,Zb];simp_all
theorem Ju{α:Type}(c:Bool)(a b:α):(bif c then some a else some b)=some (bif c then a else b):=by cases c<;>rfl
theorem Qsv{α β:Type}{P:α->β->Prop}{c:Bool}{m n:α}(h1:∃b,P m b)(h2:∃b,P n b):∃b,P (bif c then m else n) b:=by grind
theorem Zol{K:Nat}{r:Zx}(h:Zhn K r.2.1)(hK:K<=1000000):∃b,Xq r=some (b,()):=by
 have a:=h.len;obtain⟨v,k⟩:=Q55 h hK;have j:∀q,∃b,Ke r q=some (b,()):=λq=>by unfold Ke;cases q<;>exact⟨_,rfl⟩
 unfold Xq;rw[Zjh _,Zrb _,k];simp only[Obs,Kz,Ju]
 repeat' refine Qsv (P:=λm b=>m=some (b,())) ?_ ?_
 all_goals simp_all
theorem Qks:∃r,Zsh=some (r,())/\Zhn 0 r.2.1:=⟨_,rfl,by simp,by simp[Zkf]⟩
theorem Qtp{K:Nat}{r:Zx}(h:Zhn K r.2.1)(hK:K<=1000000):Zlx r=some (r,()):=by
 grind[Zlx,Z0z]
theorem Q1p(r:Zx)(e:Int)(f:Bool):∃v,Zow r e f=some (v,()):=by
 unfold Zow
 grind
theorem Z26{K:Nat}{r:Zx}(h:Zhn K r.2.1)(o:Int)(d:List UInt8)(f:Bool)(hK:K+d.length+1<=1000000:=by omega):
  ∃y v,Ym r o d f=some (y,v,())/\Zhn (K+d.length+1) y.2.1:=by
 have j:∀z t x,∃y v,Yy o d r z ((t,r.2.1,x):Zx)=some (y,v,())/\Zhn (K+d.length+1) y.2.1:=by
  intro z t x;unfold Yy Zdz;obtain⟨b,e,g⟩:=Qoh h o d hK;have a:b.2.1.length<=1048576:=by have:=g.len;omega
  simp only[e,Obs,Zrb b a,Ju]
  grind
 unfold Ym;obtain⟨q,i⟩:=Zol h (by omega);rw[Qtp h (by omega),i];simp only[Obs];generalize l:(((!q)||(decide (o<(0:Int))))||(decide (o>(IntKind.i64.wrap ((4611686018427387903:Int)- (d.length:Int))))))=c;cases c
 ·obtain⟨v,k⟩:=Q1p r (IntKind.i64.wrap (o+(d.length:Int))) f;rw[Ocf,k,Obs];generalize ((v !=(0:Int))||(decide (r.1>(1:Int))))=c;cases c
  ·cases f
   ·exact j _ _ _
   ·exact j _ _ _
  ·exact⟨_,_,rfl,h.mono (by omega)⟩
 ·exact⟨_,_,rfl,h.mono (by omega)⟩
theorem Z0d{K:Nat}{r:Zx}(h:Zhn K r.2.1)(hK:K<=1000000)(c f:Int):
  ∃y v,K8 r c f=some (y,v,())/\Zhn K y.2.1:=by
 unfold K8;obtain⟨q,a⟩:=Zol h hK;obtain⟨v,b⟩:=Q1p r f true;rw[Qtp h hK,a,b];simp only[Obs,Kz,Ju];generalize ((_||_)||_:Bool)=x;cases x
 ·generalize ((_||_):Bool)=x;cases x
  ·exact⟨_,_,rfl,by simp,by simp[Zkf]⟩
  simp_all
 simp_all
theorem Que{K:Nat}{r:Zx}(h:Zhn K r.2.1)(hK:K<=1000000)(m:Int):
  ∃s y,Zql r m=some ((s,y,()),())/\Zhn K y.2.1/\s.length<=K:=by
 unfold Zql;obtain⟨q,a⟩:=Zol h hK;obtain⟨s,b,c,d,e⟩:=Q4o h hK m;rw[Qtp h hK,a,c];simp only[Obs];cases q
 ·grind
 ·simp only[Ont,Ocf];cases r.1==(4:Int)
  ·rw[Ocf];unfold Zlr
   grind
  grind
theorem Z2j(n a b:Int):Z8 n a b=some (decide (n>=a)&&decide (n<=b),()):=rfl
theorem Qpa(n:Int):∃b,Vl n=some (b,()):=⟨_,rfl⟩
theorem Zw7(c:Zic):∃b,Za9 c=some (b,()):=by
 obtain⟨b,h⟩:=Qpa c.1;simp_all[Za9,Z2j,Ju]
theorem Zo5(c:Xy):∃b,Kp c=some (b,()):=by
 simp_all[Kp,Kz,Z2j,Ju]
theorem Zv2(w:Qg):∃b,V0 w=some (b,()):=by
 simp_all[V0,Z2j,Ju]
theorem Z0y(p:X8):∃b,Zbs p=some (b,()):=by
 simp_all[Zbs,Z2j]
theorem Qrs(n:Int):∃c b,Zgf n=some (c,b,()):=by
 unfold Zgf;simp only[Kz,Obs,Ju]
 grind
theorem Qia(n m:Int):∃c b,Zgg n m=some (c,b,()):=by
 unfold Zgg;simp only[Z2j,Obs,Ju]
 grind
theorem Qs0(s:Bool)(n:Int):∃b,K0 s n=some (b,()):=by
 simp_all[K0,Zau,Zhc,Zpe,Kz,Ju]
theorem Qcf(s:Bool)(n:Int):∃b,Xv s n=some (b,()):=by
 simp_all[Xv,Zau,Zhc,Zpe,Kz,Ju]
structure Xl(K:Nat)(s:Zg):Prop where
 snd:Zbd K s.2.1
 rcv:Zhn K s.2.2.2.1.2.1
theorem Xl.mono{K K':Nat}{s:Zg}(h:Xl K s)(hK:K<=K'):Xl K' s:=⟨h.snd.mono (by omega),h.rcv.mono hK⟩
theorem Z8c{K:Nat}{s:Zg}(h:Xl K s)(hK:K<=1000000):∃b,Zbl s=some (b,()):=by
 obtain⟨g,a,-⟩:=Zkq h.snd;obtain⟨i,c⟩:=Zo5 s.2.2.1;obtain⟨j,d⟩:=Zol h.rcv hK;obtain⟨k,e⟩:=Zv2 s.2.2.2.2.1;obtain⟨l,f⟩:=Z0y s.2.2.2.2.2.1;unfold Zbl;simp only[a,c,d,e,f,Kz,Ju,Obs]
 grind
theorem Xam(c:Qc)(hc:Y7 c):∃y c',Zsj c=some ((y,()),c',())/\Y7 c'/\(y.1=4\/y.1=8\/y.1=16):=by
 unfold Zsj Zxj;obtain⟨x,b,a,d,-,-⟩:=Zw3 c 3 hc;simp only[a,Obs];cases x==(0:Int)
 ·rw[Ocf];cases x==(1:Int)
  all_goals grind
 grind
theorem Ztq{K:Nat}{s:Zg}(h:Xl K s)(hK:K<=1000000:=by omega):Zdm s=some (s,()):=by
 unfold Zdm;rw[Zw9 h.snd,Qtp h.rcv hK];rfl
theorem Q6f(l:List Zg)(n:Int)(hl:l.length<=1000000):∀(N i:Nat),l.length-i<N->i<=l.length-> ∃v,Yt N l n (i:Int)=some (v,())/\(v<0\/v<l.length)/\(v<0-> ∀s∈l.drop i,s.1≠n)/\(0<=v->(l.getD v.toNat Zj).1=n)
 |0,_,h,_=>by omega
 |N+1,i,g,j=>by
  unfold Yt;by_cases h:i<l.length
  ·rw[Zm (Zl),Zb,show(i:Int).toNat=i from rfl];by_cases e:(l.getD i Zj).1=n
   ·rw[Zm (beq_iff_eq.2 e)];exact⟨_,rfl,by omega,λh=>by omega,λ_=>e⟩
   ·rw[Zo (beq_eq_false_iff_ne.2 e),Zr h];obtain⟨v,a,b,k,c⟩:=Q6f l n hl N (i+1) (by omega) (by omega);refine⟨v,a,b,λhv s f=>?_,c⟩;rw[Xh (d:=Zj) h]at f
    grind
  simp_all[Zn,List.drop_eq_nil_of_le]
theorem Z0r(l:List Zg)(n:Int)(hl:l.length<=1000000):∃v,Ys l n=some (v,())/\(v<0\/v<l.length)/\(v<0-> ∀s∈l,s.1≠n)/\(0<=v->(l.getD v.toNat Zj).1=n):=by
 unfold Ys;exact Q6f l n hl _ 0 (by simp[Kn]) (by omega)
structure Zg7(K:Nat)(l:List Zg):Prop where
 len:l.length<=K
 all:∀s∈l,Xl K s
theorem Zg7.mono{K K':Nat}{l:List Zg}(h:Zg7 K l)(hK:K<=K'):Zg7 K' l:=⟨Nat.le_trans h.len hK,λs a=>(h.all s a).mono hK⟩
theorem Xc9{K:Nat}{l:List Zg}{s:Zg}(h:Zg7 K l)(hs:Xl K s)(hK:K<=500000)(a:Int):∀(N i:Nat)(out:List Zg)(p:Bool),l.length-i<N->i<=l.length->(∀x∈out,Xl K x)->out.length<=i+(if p then 1 else 0)->
  ∃y,Xd N l s out a p (i:Int)=some (y,())/\y.length<=l.length+1/\ ∀x∈y,Xl K x
 |0,_,_,_,h,_,_,_=>by omega
 |N+1,i,out,p,w,A,b,f=>by
  have g:=h.len;have m:out.length<=i+1:=by grind
  have c:∀{o:List Zg}{x},(∀x∈o,Xl K x)->Xl K x-> ∀z∈o++[x],Xl K z:=λb hx z B=>by
   grind
  unfold Xd;by_cases k:i<l.length
  ·have e:=h.all _ (Z5 (d:=Zj) k);rw[Zm (Zl),Zb,show(i:Int).toNat=i from rfl,Ztq e,Ztq hs];simp only[Obs];have j:∀(o:List Zg)(q:Bool) x,(∀x∈o,Xl K x)->Xl K x->o.length<=i+(if q then 1 else 0)->
     ∃y,Yl (λv=>Xd N v.1 v.2.1 v.2.2.1 v.2.2.2.1 v.2.2.2.2.1 v.2.2.2.2.2.1) l s o a q (i:Int) x=some (y,())/\y.length<=l.length+1/\ ∀x∈y,Xl K x:=by
    intro o q x n r t;have u:o.length<=i+1:=by split at t<;>omega
    unfold Yl;rw[Zb (by grind[Qd]),Zr k];exact Xc9 h hs hK a N (i+1) (o++[x]) q (by omega) (by omega) (c n r) (by grind)
   cases (i:Int)==a
   ·rw[Ocf,Zb (λ_=>by omega)];cases p
    ·simp only[Bool.not_false,Ota];cases decide ((l.getD i Zj).1>s.1)
     ·exact j _ _ _ b e f
     ·rw[Oct,Zb (by grind[Qd])];exact j _ _ _ (c b hs) e (by grind)
    ·exact j _ _ _ b e f
   ·exact j _ _ _ b hs f
  ·rw[Zo (Zn),Ztq hs];cases p
   ·simp only[Bool.not_false,Oct,Obs];rw[Zb (by grind[Qd])]
    grind
   grind
theorem Qjf{K:Nat}{l:List Zg}{s:Zg}(h:Zg7 K l)(hs:Xl K s)(hK:K<=500000:=by omega):∃y,Q0 l s=some (y,())/\y.length<=l.length+1/\ ∀x∈y,Xl K x:=by
 unfold Q0;obtain⟨v,e,-⟩:=Z0r l s.1 (by have:=h.len;omega);rw[e,Obs];exact Xc9 h hs hK _ _ 0 [] _ (by simp[Zav]) (by omega) (by simp) (by simp)
theorem Q80:Xl 0 (((0:Int),((0:Int),((0:Int),(0:Int),(0:Int),([]:List Int),()),([]:List Zi),([]:List Zi),([]:List Zi),(0:Int),(0:Int),(0:Int),(0:Int),()),((0:Int),(0:Int),(0:Int),(0:Int),()),((0:Int),((0:Int),([]:List Z6),()),(0:Int),(0:Int),(0:Int),()),((0:Int),(0:Int),(0:Int),(0:Int),(0:Int),(0:Int),()),((0:Int),false,()),false,false,false,false,false,false,(0:Int),false,()):Zg):=
 ⟨{cells:=(by simp),e0:=Int.le_refl _,eK:=Int.le_refl _,pend:=Zpr _,flight:=Zpr _,acked:=Zpr _},by simp,by simp[Zkf]⟩
theorem Q8k{K:Nat}{c:Zc}(h:Zg7 K c.2.2.2.1)(hK:K<=1000000)(n:Int):∃s b,Xf c n=some (s,b,())/\Xl K s:=by
 unfold Xf;obtain⟨v,e,f,-⟩:=Z0r c.2.2.2.1 n (by have:=h.len;omega);rw[e,Obs];by_cases hv:v<0
 ·rw[Zm (Zl hv)];exact⟨_,_,rfl,Q80.mono (by omega)⟩
 ·have a:=h.all _ (Z5 (l:=c.2.2.2.1) (i:=v.toNat) (d:=Zj));rw[Zo (Zn hv),Zb (by simp only;omega),Ztq a hK];simp_all
theorem Xaf(n:Int):∃v,Zoq n=some (v,()):=by
 unfold Zoq;rw[Kz,Obs,Zb,Ju]
 grind
theorem Z2m(c:Xy):∃b,Zas c=some (b,()):=by
 simp_all[Zas,Z2j,Ju]
theorem Z2n(c:Ze2):∃b,Zf0 c=some (b,()):=by
 simp_all[Zf0,Z2j,Ju]
theorem Xb8{K:Nat}{l:List Zg}(h:Zg7 K l)(hK:K<=1000000):∀(N i:Nat),l.length-i<N->i<=l.length-> ∃b,Kc N l (i:Int)=some (b,())
 |0,_,h,_=>by omega
 |N+1,i,f,g=>by
  have a:=h.len;unfold Kc;by_cases c:i<l.length
  ·obtain⟨b,e⟩:=Z8c (h.all _ (Z5 (d:=Zj) c)) hK;rw[Zm (Zl),Zb,show(i:Int).toNat=i from rfl,e,Obs,Zb (λ_ _=>by omega),
    Zb (λ_ h=>by have:=Ode h;grind[Zs]),Zr c]
   exact Qsv (P:=λm b=>m=some (b,())) ⟨_,rfl⟩ (Xb8 h hK N (i+1) (by omega) (by omega))
  simp_all[Zn]
theorem Zw1{K:Nat}{l:List Zg}(h:Zg7 K l)(hK:K<=1000000):∃b,Jt l=some (b,()):=by
 unfold Jt;exact Xb8 h hK _ 0 (by simp[Zcm]) (by omega)
theorem Qjn{K:Nat}{l:List Zg}(h:Zg7 K l)(hK:K<=1000000):∃v,Zgi l=some (v,()):=by
 obtain⟨b,e⟩:=Zw1 h hK;have a:=h.len;have c:∀(N i:Nat)(n:Int),l.length-i<N->i<=l.length-> ∃v,J2 N l n (i:Int)=some (v,()):=by
  intro N
  induction N with
  |zero=>omega
  |succ N d=>
   intro i n g j;unfold J2;rw[e,Ju,Obs];by_cases f:i<l.length
   ·rw[Zb,Zr f];exact Qsv (P:=λm b=>m=some (b,())) (d (i+1) _ (by omega) (by omega)) ⟨_,rfl⟩
   simp_all[Zn]
 unfold Zgi;exact c _ 0 0 (by simp[Ja]) (by omega)
theorem Qjm{K:Nat}{l:List Zg}(h:Zg7 K l)(hK:K<=1000000):∃v,Zgh l=some (v,()):=by
 obtain⟨b,e⟩:=Zw1 h hK;have a:=h.len;have c:∀(N i:Nat)(n:Int),l.length-i<N->i<=l.length-> ∃v,J1 N l n (i:Int)=some (v,()):=by
  intro N
  induction N with
  |zero=>omega
  |succ N d=>
   intro i n g j;unfold J1;rw[e,Ju,Obs];by_cases f:i<l.length
   ·rw[Zb,Zr f];exact Qsv (P:=λm b=>m=some (b,())) (d (i+1) _ (by omega) (by omega)) ⟨_,rfl⟩
   simp_all[Zn]
 unfold Zgh;exact c _ 0 0 (by simp[K9]) (by omega)
def T{α:Type}(m:Option α)(Q:α->Prop):Prop:= ∃y,m=some y/\Q y
abbrev TT{α:Type}(m:Option α):Prop:=T m λ_=>True
section
variable {α β:Type}{m n:Option α}{f:α->Option β}{Q:α->Prop}{R:β->Prop}
theorem T.bind(h:T m Q)(k:∀y,Q y->T (f y) R):T (Option.bind m f) R:=by
 obtain⟨y,e,a⟩:=h;simp_all
theorem T.pure{y:α}(h:Q y):T (some y) Q:=⟨y,rfl,h⟩
theorem T.tt{y:α}:TT (some y):=⟨y,rfl,trivial⟩
theorem T.ite{c:Bool}(h1:c=true->T m Q)(h2:c=false->T n Q):T (bif c then m else n) Q:=by
 grind
theorem T.if{c:Bool}(h1:T m Q)(h2:T n Q):T (bif c then m else n) Q:=T.ite (λ_=>h1) λ_=>h2
theorem T.guard{p:Prop}(hp:p)(h:T m Q):T (Ze p m) Q:=by simp_all[Zb]
theorem T.mono{Q':α->Prop}(h:T m Q)(k:∀y,Q y->Q' y):T m Q':=by
 obtain⟨y,e,a⟩:=h;exact⟨y,e,k y a⟩
theorem T.of{y:α}(e:m=some y)(h:Q y):T m Q:=⟨y,e,h⟩
end
theorem tt1{α:Type}{m:Option (α×Unit)}(h:∃b,m=some (b,())):TT m:=by obtain⟨b,e⟩:=h;exact⟨_,e,trivial⟩
def FOK(f:Zf):Prop:=f.2.2.2.1.length<=1000
def Qek(l:List Zf):Prop:=l.length<=1000/\ ∀f∈l,FOK f
def Qk4(K:Nat)(l:List Qb):Prop:=l.length<=K/\ ∀p∈l,Qek p.2.1
theorem Qk4.mono{K K':Nat}{l:List Qb}(h:Qk4 K l)(hK:K<=K'):Qk4 K' l:=⟨Nat.le_trans h.1 hK,h.2⟩
structure Z4(K:Nat)(c:Zc):Prop where
 str:Zg7 K c.2.2.2.1
 pk:Qk4 K c.2.2.2.2.2.2.2.2.2.2.2.2.2.2.2.1
theorem Z4.mono{K K':Nat}{c:Zc}(h:Z4 K c)(hK:K<=K'):Z4 K' c:=⟨h.str.mono hK,h.pk.mono hK⟩
theorem Qrv{K:Nat}{l:List Qb}(h:Qk4 K l)(hK:K<=1000000):∀(N i:Nat),l.length-i<N->i<=l.length->Zjw N l (l.take i) (i:Int)=some (l,())
 |0,_,h,_=>by omega
 |N+1,i,b,c=>by
  have f:=h.1;unfold Zjw;by_cases a:i<l.length
  ·have g:=(h.2 _ (Z5 (d:=Q6) a)).1;rw[Zm (Zl),Zb,Zb,show(i:Int).toNat=i from rfl,Zb (by grind[Qd])];simp only[List.nil_append];rw[Zb (by grind[Qd]),Zr a];have e:l.take i++[((l.getD i Q6).1,(l.getD i Q6).2.1,())]=l.take (i+1):=by
    grind[List.take_succ_eq_append_getElem]
   rw[e];exact Qrv h hK N (i+1) (by omega) (by omega)
  grind
theorem Qyw{K:Nat}{l:List Qb}(h:Qk4 K l)(hK:K<=1000000):Ztz l=some (l,()):=by
 unfold Ztz;exact Qrv h hK _ 0 (by simp[Zn1]) (by omega)
theorem Qrj{K:Nat}{c:Zc}(h:Z4 K c)(hK:K<=1000000)(t:Zc):∀(N i:Nat),c.2.2.2.1.length-i<N->i<=c.2.2.2.1.length->
  Zhf N c t (c.1,c.2.1,c.2.2.1,c.2.2.2.1.take i,c.2.2.2.2) (i:Int)=some (c,())
 |0,_,h,_=>by omega
 |N+1,i,b,f=>by
  have g:=h.str.len;unfold Zhf;by_cases a:i<c.2.2.2.1.length
  ·rw[Zm (Zl),Zb,show(i:Int).toNat=i from rfl,Ztq (h.str.all _ (Z5 (d:=Zj) a)) hK,Obs,
    Zb (by grind[Qd]),Zr a]
   have e:c.2.2.2.1.take i++[c.2.2.2.1.getD i Zj]=c.2.2.2.1.take (i+1):=by
    simp_all
   simp only[e];exact Qrj h hK t N (i+1) (by omega) (by omega)
  ·rw[Zo (Zn),List.take_of_length_le (by omega),Qyw h.pk hK];rfl
theorem Jg{K:Nat}{c:Zc}(h:Z4 K c)(hK:K<=1000000:=by omega):Z9 c=some (c,()):=by
 unfold Z9;exact Qrj h hK _ _ 0 (by simp[Zro]) (by omega)
theorem Z2o{f:Zf}(h:FOK f):TT (Zat f):=⟨_,Zwo f (by grind[FOK]),trivial⟩
theorem Qrk{l:List Zf}(h:Qek l):TT (Zgj l):=by
 have c:∀(N i:Nat),l.length-i<N->i<=l.length->TT (Wj N l (i:Int)):=by
  intro N
  induction N with
  |zero=>intro i h;omega
  |succ N b=>
   intro i d e;have f:=h.1;unfold Wj;refine T.ite (λa=>?_) λ_=>T.tt;have a:=Ode a;refine T.guard (by omega) ((Z2o (h.2 _ (Z5))).bind λt _=>T.if T.tt ?_);rw[Zr (m:=l.length)];exact b (i+1) (by omega) (by omega)
 grind[Zgj,Vi]
theorem tIn(n a b:Int):TT (Z8 n a b):=⟨_,Z2j n a b,trivial⟩
theorem Qxo(n:Int):TT (Qz n):=⟨_,Kz n,trivial⟩
theorem Qj8{K:Nat}{l:List Zg}(h:Zg7 K l)(hK:K<=1000000):T (Jt l) λr=>r.1=true->l.length<=24:=by
 have a:=h.len;have d:∀(N i:Nat),l.length-i<N->i<=l.length->T (Kc N l (i:Int)) λr=>r.1=true->l.length<=24:=by
  intro N
  induction N with
  |zero=>intro i h;omega
  |succ N c=>
   intro i e f;unfold Kc;refine T.ite (λb=>?_) λ_=>T.pure λh=>by grind
   have b:=Ode b;refine T.guard (by omega) ((tt1 (Z8c (h.all _ (Z5)) hK)).bind λt _=>T.guard (λ_ _=>by omega) (T.guard (λ_ h=>?_) (T.if (T.pure λh=>by cases h) ?_)))
   ·have:=Ode h
    grind[Zs]
   ·rw[Zr (m:=l.length)];exact c (i+1) (by omega) (by omega)
 grind[Jt,Zcm]
theorem Q1j{K:Nat}{c:Zc}(h:Z4 K c)(hK:K<=1000000):T (X9 c) λr=>r.1=true->c.2.2.2.1.length<=24:=by
 have d:∀(N i:Nat),c.2.2.2.2.2.2.2.2.2.2.2.2.2.2.2.1.length-i<N->i<=c.2.2.2.2.2.2.2.2.2.2.2.2.2.2.2.1.length->TT (Zac N c (i:Int)):=by
  intro N
  induction N with
  |zero=>intro i h;omega
  |succ N e=>
   intro i o p;have q:=h.pk.1;unfold Zac;refine T.ite (λa=>?_) λ_=>?_
   ·have a:=Ode a;refine T.guard (by omega) ((tIn _ _ _).bind λt _=>T.guard (λ_ _=>by omega) (T.guard (λ_ h=>?_) (T.guard (λ_=>by omega) (T.bind (Q:=λ_=>True) (T.if T.tt (Qrk (h.pk.2 _ (Z5)))) λs _=>T.if T.tt ?_))))
    ·have:=Ode h
     grind[Zs]
    ·rw[Zr (m:=c.2.2.2.2.2.2.2.2.2.2.2.2.2.2.2.1.length)];exact e (i+1) (by omega) (by omega)
   ·exact(tIn _ _ _).bind λt _=>T.bind (Q:=λ_=>True) (T.if (tIn _ _ _) T.tt) λt _=>T.bind (Q:=λ_=>True) (T.if (tIn _ _ _) T.tt) λt _=>T.bind (Q:=λ_=>True) (T.if (tIn _ _ _) T.tt) λt _=>
     T.bind (Q:=λ_=>True) (T.if (tt1 (Qjn h.str hK)) T.tt) λt _=>T.bind (Q:=λ_=>True) (T.if (tt1 (Qjm h.str hK)) T.tt) λt _=>T.tt
 unfold X9;have B:∀{α β:Type}{b:Bool}{m n:Option α}{f:α->Option β}{R:β->Prop},TT m->TT n->(∀y,T (f y) R)->T (Option.bind (bif b then m else n) f) R:=λg j k=>(T.if g j).bind λy _=>k y;exact(tt1 (Zw7 _)).bind λt _=>B T.tt (tt1 (Zw7 _)) λt=>T.bind (Q:=λr=>r.1=true->c.2.2.2.1.length<=24) (T.if (T.pure λh=>by cases h) (Qj8 h.str hK)) λt l=>B T.tt (tt1 (Zo5 _)) λt=>B T.tt (tt1 (Zv2 _)) λt=>B T.tt (tt1 (Z2n _)) λt=>B T.tt (tt1 (Z2n _)) λt=>B T.tt (tt1 (Z2m _)) λt=>B T.tt (tt1 (Z2m _)) λt=>
  T.ite (λ_=>T.pure λh=>by cases h) λa=>(d _ 0 (by simp[Js]) (by omega)).mono λ_ _ _=>l (by simp_all)
theorem Z3o{K:Nat}{c:Zc}(h:Z4 K c)(hK:K<=1000000:=by omega):TT (X9 c):=(Q1j h hK).mono λ_ _=>trivial
theorem Qwe{K:Nat}{c:Zc}(h:Z4 K c)(hK:K<=1000000):T (Y4 c) λr=>r.1=true->c.2.2.2.1.length<=24:=by
 unfold Y4;exact(Q1j h hK).bind λt a=>T.bind (Q:=λ_=>True) (T.if ⟨_,rfl,trivial⟩ T.tt) λb _=>T.pure λh=>a (by simp_all)
theorem Zz7{K:Nat}{c:Zc}(h:Z4 K c)(hK:K<=1000000:=by omega):TT (Y4 c):=(Qwe h hK).mono λ_ _=>trivial
theorem Xid(n:Int):T (Vl n) λr=>r.1=true->0<n/\n<=64:=⟨_,rfl,λh=>by simp at h;omega⟩
theorem Qzc(n:Int):T (Zdg n) λr=>Zbd 0 r.1:=by
 unfold Zdg Zwl;have z:Zbd 0 Zaw:={cells:=(by simp[Zaw]),e0:=Int.le_refl _,eK:=Int.le_refl _,pend:=Zpr _,flight:=Zpr _,acked:=Zpr _}
 refine T.bind (Q:=λr=>r.2.1=true->r.1.2.2.2.1.length<=64/\r.1.2.2.1=0) ((Xid n).bind λt a=>T.ite (λ_=>T.pure λh=>by cases h) λb=>?_) λt a=>T.ite (λ_=>T.pure z) λb=>T.pure ?_
 ·have:=a (by simpa using b);exact T.guard (by grind[Qd]) (T.pure λ_=>⟨by simp;omega,rfl⟩)
 ·have:=a (by simpa using b);exact {cells:=this.1,e0:=by simp_all,eK:=by simp_all,pend:=Zpr _,flight:=Zpr _,acked:=Zpr _}
theorem Qcx(v:Bool)(i:Int)(o p:Zic):T (K7 v i o p) λr=>Xl 0 r.1:=by
 obtain⟨l,a⟩:=Zw7 o;obtain⟨m,b⟩:=Zw7 p;obtain⟨n,c⟩:=Qs0 v i;obtain⟨q,d⟩:=Qcf v i;obtain⟨⟨s,t,u⟩,e,f⟩:=Qzc o.1;obtain⟨w,y,g⟩:=Qrs p.2.1;obtain⟨z,A,h⟩:=Qia o.2.1 o.2.2.1;obtain⟨r,j,k⟩:=Qks;unfold K7 W7;simp only[a,b,c,d,e,g,h,j,Kz,Ju,Obs];generalize ((_||_)||_:Bool)=x;cases x
 ·exact T.pure (by exact⟨f,k⟩)
 ·exact T.pure Q80
theorem Xe3(v:Bool)(n:Int):TT (Zhc v n):=by
 unfold Zhc Zpe;simp only[Kz,Obs,Ju];exact⟨_,rfl,trivial⟩
theorem Xb0(n:Int):TT (Zau n):=by
 unfold Zau;simp only[Kz,Obs];exact⟨_,rfl,trivial⟩
theorem Q35(c:Ze2):TT (Zx6 c):=by
 unfold Zx6;exact(tt1 (Z2n c)).bind λt _=>T.if T.tt (T.if T.tt T.tt)
theorem Xaz(n:Int)(s u:Bool):TT (Z29 n s u):=by
 unfold Z29;have j:∀u i,TT (Zrl u i):=λu i=>by simp_all[Zrl,T.if,T.tt]
 exact(tIn _ _ _).bind λt _=>T.if T.tt (T.guard (by omega) (T.if (j _ _) (j _ _)))
theorem Jd{K K':Nat}{l:List Zg}{s:Zg}(h:Zg7 K l)(hs:Xl K' s)(hk:K<=K':=by omega)(hK:K'+1<=500000:=by omega):T (Q0 l s) λr=>Zg7 (K'+1) r.1:=by
 obtain⟨y,e,b,a⟩:=Qjf (h.mono hk) hs;have:=h.len;exact⟨_,e,by simp only;omega,λx hx=>(a x hx).mono (by omega)⟩
theorem Zoy{K:Nat}{c:Zc}(h:Z4 K c)(hK:K<=1000000)(n:Int):T (Xf c n) λr=>Xl K r.1:=by
 obtain⟨s,b,e,a⟩:=Q8k h.str hK n;exact⟨_,e,a⟩
theorem Z4.up{K K':Nat}{c:Zc}(h:Z4 K c)(hk:K<=K'){l:List Zg}(hl:Zg7 K' l):Z4 K' (c.1,c.2.1,c.2.2.1,l,c.2.2.2.2):=⟨hl,h.pk.mono hk⟩
theorem Qzk{K:Nat}{c:Zc}(h:Z4 K c)(hK:K+1<=500000)(u:Bool):T (Zkz c u) λr=>Z4 (K+1) r.2.1:=by
 unfold Zkz;rw[Jg h,Obs];have a:∀u x t i b,Z4 K x->T (Zb9 u c t x i b) λr=>Z4 (K+1) r.2.1:=λu x t i b hx=>by
  unfold Zb9;exact T.if (T.pure (hx.mono (by omega))) ((Xaz _ _ _).bind λe _=>(Qcx _ _ _ _).bind λj f=>(Jd hx.str (f.mono (by omega)) (Nat.le_refl _)).bind λk g=>T.pure (hx.up (by omega) g))
 have d:∀u t n,T (Zb8 u c t c n) λr=>Z4 (K+1) r.2.1:=λu t n=>by
  unfold Zb8;exact(Q35 _).bind λe _=>T.if (a _ _ _ _ _ ⟨h.str,h.pk⟩) (a _ _ _ _ _ ⟨h.str,h.pk⟩)
 exact(Zz7 h).bind λt _=>T.if (T.pure (h.mono (by omega))) (T.if (d _ _ _) (d _ _ _))
theorem Qxx{K:Nat}{c:Zc}(h:Z4 K c)(i:Int)(d:List UInt8)(hK:K+d.length+1<=500000):T (Zi5 c i d) λr=>Z4 (K+d.length+1) r.2.1:=by
 unfold Zi5;rw[Jg h,Obs];refine(Zoy h (by omega) i).bind λs a=>(Zz7 h).bind λt _=>T.if (T.pure (h.mono (by omega))) ?_;obtain⟨x,n,e,b⟩:=Qxw a.snd d (by omega);rw[e,Obs];exact(Jd h.str (K':=K+d.length) (by exact⟨b.mono (by omega),a.rcv.mono (by omega)⟩)).bind λg f=>T.pure (h.up (by omega) f)
theorem Qtg{K:Nat}{c:Zc}(h:Z4 K c)(hK:K+1<=500000)(i:Int):T (Zg2 c i) λr=>Z4 (K+1) r.1:=by
 unfold Zg2;rw[Jg h,Obs];refine(Zoy h (by omega) i).bind λs a=>(Zz7 h).bind λt _=>T.if (T.pure (h.mono (by omega))) ?_;obtain⟨x,f,e,b⟩:=Qvc a.snd (by omega);rw[e,Obs];exact T.if (T.pure (h.mono (by omega))) ((Jd h.str (by exact⟨b,a.rcv⟩) (Nat.le_refl _)).bind λg d=>T.pure (h.up (by omega) d))
theorem Qpl(w:Qg)(n:Int):TT (Zju w n):=by
 unfold Zju;exact(tt1 (Zv2 w)).bind λt _=>T.if T.tt T.tt
theorem Q1m{K:Nat}{x:Zc}{s:Zg}(h:Z4 K x)(hs:Xl K s)(n:Int):T (Zlt x s n) λr=>Z4 K r.2.1/\Xl K r.2.2.1:=by
 unfold Zlt;exact(Qpl _ _).bind λt _=>(Qpl _ _).bind λa _=>T.pure ⟨⟨h.str,h.pk⟩,hs.snd,hs.rcv⟩
theorem Q4g{K:Nat}{r:Zx}(h:Zhn K r.2.1)(hK:K<=1000000):TT (Zpc r):=by
 grind[Zpc,Zol,T.tt]
theorem Q60{K:Nat}{s:Zg}(h:Xl K s)(hK:K<=1000000):TT (Zrk s):=by
 unfold Zrk Zty Zpd;exact(tt1 (Z8c h hK)).bind λt _=>T.bind (Q:=λ_=>True) (T.if T.tt T.tt) λt _=>T.bind (Q:=λ_=>True) (T.if (T.bind (Q:=λ_=>True) (T.if T.tt (Q4g h.rcv hK)) λt _=>T.tt) T.tt) λt _=>T.tt
theorem Qq6(a:Xy):TT (Zfx a):=by
 unfold Zfx;exact(tt1 (Z2m a)).bind λt _=>T.if T.tt T.tt
theorem Xan{K:Nat}{x:Zc}{s:Zg}(h:Z4 K x)(hs:Xl K s)(hK:K<=1000000):T (Zot x s) λr=>Z4 K r.2.1/\Xl K r.2.2.1:=by
 unfold Zot;exact T.bind (Q:=λ_=>True) (T.if T.tt (Xe3 _ _)) λt _=>T.bind (Q:=λ_=>True) (T.if T.tt (Q60 hs hK)) λt _=>T.if (T.pure ⟨h,hs⟩) ((Xb0 _).bind λt _=>T.if ((Qq6 _).bind λt _=>T.pure ⟨⟨h.str,h.pk⟩,hs.snd,hs.rcv⟩) ((Qq6 _).bind λt _=>T.pure ⟨⟨h.str,h.pk⟩,hs.snd,hs.rcv⟩))
theorem Z95{K K':Nat}{x:Zc}{s:Zg}(h:Z4 K x)(hs:Xl K' s)(hk:K<=K':=by omega)(hK:K'+1<=500000:=by omega):T (Wk x s) λr=>Z4 (K'+1) r.2.1:=by
 unfold Wk;exact(Xan (h.mono hk) hs (by omega)).bind λt a=>(Jd a.1.str a.2 (Nat.le_refl _) hK).bind λc b=>T.pure (a.1.up (by omega) b)
theorem Qzp{K:Nat}{c:Zc}(h:Z4 K c)(hK:K+1<=500000)(i m:Int):T (Zk0 c i m) λr=>Z4 (K+1) r.1.2.2.1:=by
 unfold Zk0;rw[Jg h,Obs];refine(Zoy h (by omega) i).bind λs a=>(Zz7 h).bind λt _=>T.if (T.pure (h.mono (by omega))) ?_;obtain⟨d,r,e,b,-⟩:=Que a.rcv (by omega) m;rw[e,Obs];have j:∀t x s d r,Z4 K x->Xl K s->T (Zca t x s d r) λr=>Z4 (K+1) r.1.2.2.1:=λt x s d r hx a=>by
  unfold Zca;exact(Z95 hx a (Nat.le_refl _) hK).bind λk g=>T.pure g
 exact T.if ((Q1m h (by exact⟨a.snd,b⟩) _).bind λt f=>j _ _ _ _ _ f.1 f.2) (j _ _ _ _ _ h (by exact⟨a.snd,b⟩))
theorem Qw4{K:Nat}{c:Zc}(h:Z4 K c)(hK:K+1<=500000)(i k:Int):T (Zi3 c i k) λr=>Z4 (K+1) r.1.1:=by
 unfold Zi3;rw[Jg h,Obs];refine(Zoy h (by omega) i).bind λs a=>(Zz7 h).bind λt _=>T.if (T.pure (h.mono (by omega))) ?_;obtain⟨x,f,e,b⟩:=Zyp a.snd k;rw[e,Obs];exact T.if (T.pure (h.mono (by omega))) ((Z95 h (by exact⟨b,a.rcv⟩) (Nat.le_refl _) hK).bind λg d=>T.pure d)
theorem Q5y(s:List UInt8)(hs:s.length<=1000000)(b:Int):∀(N i:Nat)(out:List (List UInt8))(p:List UInt8),s.length-i<N->i<=s.length->out.length<=i->p.length<=i->(∀x∈out,x.length<=i)->
  T (Zdl N s b out p (i:Int)) λr=>r.1.length<=s.length+1/\ ∀x∈r.1,x.length<=s.length
 |0,_,_,_,h,_,_,_,_=>by omega
 |N+1,i,out,p,e,f,d,g,hx=>by
  have a:∀{k:Nat}{o:List (List UInt8)} {x},(∀x∈o,x.length<=k)->x.length<=k-> ∀z∈o++[x],z.length<=k:=λd hx z j=>by
   grind
  unfold Zdl;refine T.ite (λc=>?_) λ_=>T.guard (by grind[Qd]) (T.pure ⟨by simp;omega,a (λx h=>by grind) (by omega)⟩);have c:i<s.length:=by simp_all
  refine T.guard (by omega) (T.if (T.guard (by grind[Qd]) ?_) (T.guard ?_ (T.guard ?_ ?_)))
  ·unfold Zjv;rw[Zr c];exact Q5y s hs b N (i+1) _ _ (by omega) (by omega) (by simp;omega) (by simp) (a (λx h=>by grind) (by omega))
  ·grind[Zr]
  ·grind[Yh]
  ·unfold Zjv;rw[Zr c];exact Q5y s hs b N (i+1) _ _ (by omega) (by omega) (by simp only;omega) (by grind) (λx h=>by grind)
theorem Xj9(s:List UInt8)(hs:s.length<=1000000)(b:Int):T (Zu2 s b) λr=>r.1.length<=s.length+1/\ ∀x∈r.1,x.length<=s.length:=by
 grind[Zu2,Q5y,Zmy]
theorem Q2p:∀(N:Nat)(s:List UInt8),s.length<N->s.length<=1000000->T (Zph N s) λr=>r.1.length<=s.length
 |0,_,h,_=>by omega
 |N+1,s,b,c=>by
  unfold Zph;refine T.guard (λh=>?_) (T.ite (λa=>?_) λ_=>T.pure (Nat.le_refl _))
  ·have:=Ode h
   grind[Zs]
  ·have:(s.length:Int)>0:=by simp at a;omega
   refine T.guard (by grind[Zs]) ((Q2p N _ ?_ ?_).mono λy d=>?_)
   all_goals (simp only[List.length_take,List.length_drop]at*;rw[Zs]at*;omega)
theorem Q2o:∀(N:Nat)(s:List UInt8),s.length<N->s.length<=1000000->T (Zpg N s) λr=>r.1.length<=s.length
 |0,_,h,_=>by omega
 |N+1,s,c,a=>by
  unfold Zpg;refine T.guard (λh=>?_) (T.ite (λb=>?_) λ_=>Q2p _ s (by simp[Zrn]) a)
  ·simp_all
  ·have:(s.length:Int)>0:=by simp at b;omega
   refine T.guard (by omega) ((Q2o N _ ?_ ?_).mono λy d=>?_)
   all_goals grind
theorem Xje(s:List UInt8)(hs:s.length<=1000000):T (Z0e s) λr=>r.1.length<=s.length:=by
 simp_all[Z0e,Q2o,Zrm]
theorem Xev(p:X8)(s:List UInt8)(hs:s.length<=100000):TT (Zos p s):=by
 have c:∀(l:List (List UInt8)),l.length<=100001->(∀x∈l,x.length<=100000)-> ∀(t:X8)(N i:Nat)(b:X8),l.length-i<N->i<=l.length->TT (Kl N b t l (i:Int)):=by
  intro l f hx t N
  induction N with
  |zero=>omega
  |succ N e=>
   intro i b g k;unfold Kl;refine T.ite (λa=>?_) λ_=>T.tt;have a:i<l.length:=by simp_all
   have j:∀b,TT (Wg (λv=>Kl N v.1 v.2.1 v.2.2.1 v.2.2.2.1) b t l (i:Int)):=λb=>by
    unfold Wg;rw[Zr a];exact e (i+1) _ (by omega) (by omega)
   refine T.guard (by omega) ((Xje _ (by grind)).bind λt _=>T.if (j _) (T.if (j _) (T.guard (λh=>?_) (T.guard (λh=>?_) (T.guard (λh=>?_) (T.ite (λh=>T.guard ?_ (j _)) λ_=>j _))))))
   all_goals simp_all
 have j:∀b t,TT (Zez s b t):=λb t=>by
  unfold Zez;exact(Xj9 s (by omega) 44).bind λr m=>c _ (by omega) (λx hx=>by grind) _ _ 0 _ (by simp[Zjt]) (by omega)
 unfold Zos;have d:TT W7:=⟨_,rfl,trivial⟩
 exact(tt1 (Z0y p)).bind λt _=>T.if (d.bind λt _=>j _ _) (j _ _)
theorem Qxb{K:Nat}{c:Zc}(h:Z4 K c)(hK:K+1<=500000)(i:Int)(x:List UInt8)(hx:x.length<=100000):T (Zi4 c i x) λr=>Z4 (K+1) r.1:=by
 unfold Zi4;rw[Jg h,Obs];exact(Zoy h (by omega) i).bind λs a=>(Zz7 h).bind λt _=>T.if (T.pure (h.mono (by omega))) ((Xev _ x hx).bind λt _=>(Jd h.str (by exact⟨a.snd,a.rcv⟩) (Nat.le_refl _) hK).bind λd b=>T.pure (h.up (by omega) b))
theorem Qcv(w:Qg):TT (Zad w):=by
 unfold Zad;exact(tt1 (Zv2 w)).bind λt _=>T.guard (λ_=>by omega) T.tt
theorem Qgy(w:Qg)(n t:Int):TT (V5 w n t):=by
 unfold V5;have j:∀n w t,TT (Zhz n w t):=λn w t=>⟨_,rfl,trivial⟩
 exact(Qcv w).bind λt _=>T.bind (Q:=λ_=>True) (T.if T.tt (tIn _ _ _)) λt _=>T.bind (Q:=λ_=>True) (T.if T.tt (tIn _ _ _)) λt _=>T.if T.tt (T.if (j _ _ _) (j _ _ _))
theorem Qwf(c:Zc):TT (Zio c):=by
 unfold Zio;exact(Qcv _).bind λt _=>T.if ((Qgy _ _ _).bind λt _=>T.tt) T.tt
theorem Qoq(a:Xy):TT (Zbm a):=by
 unfold Zbm;exact(tt1 (Z2m a)).bind λt _=>T.guard (λ_=>by omega) T.tt
theorem Qwy(a:Xy):TT (Zbt a):=by
 unfold Zbt;exact(Qoq a).bind λt _=>T.if T.tt T.tt
theorem Qfj(a:Xy)(b:Bool):TT (Zbn a b):=by
 unfold Zbn;exact(Qoq a).bind λt _=>T.if ((Qwy a).bind λt _=>T.tt) T.tt
theorem Qrm(c:Zc)(s:Zg):TT (Zgn c s):=by
 unfold Zgn;exact T.if T.tt ((Qcv _).bind λt _=>T.if ((Qgy _ _ _).bind λt _=>T.tt) T.tt)
theorem Qro(c:Xy):TT (Zik c):=by
 unfold Zik;exact(tt1 (Zo5 c)).bind λt _=>T.tt
theorem Q5r(c:Xy):TT (Za7 c):=by
 unfold Za7;exact(tt1 (Zo5 c)).bind λt _=>T.if T.tt T.tt
theorem Xc2(c:Xy):TT (Zcv c):=by
 unfold Zcv;exact(tt1 (Zo5 c)).bind λt _=>T.if T.tt T.tt
def FL(n:Nat)(l:List Zf):Prop:=l.length<=n/\ ∀f∈l,FOK f
theorem FL.one{n:Nat}{l:List Zf}{f:Zf}(h:FL n l)(hf:FOK f):FL (n+1) (l++[f]):=⟨by have:=h.1;simp;omega,λx hx=>by
 rcases List.mem_append.1 hx with hx|hx
 ·exact h.2 x hx
 simp_all⟩
theorem FL.app{n m:Nat}{l k:List Zf}(h:FL n l)(hk:FL m k):FL (n+m) (l++k):=⟨by have:=h.1;have:=hk.1;simp;omega,λx hx=>by
 rcases List.mem_append.1 hx with hx|hx
 ·exact h.2 x hx
 ·exact hk.2 x hx⟩
theorem FL.mono{n m:Nat}{l:List Zf}(h:FL n l)(hn:n<=m):FL m l:=⟨Nat.le_trans h.1 hn,h.2⟩
theorem FL.nil:FL 0 []:=⟨Nat.le_refl _,by simp⟩
theorem Qlc(k:Int)(i o:Int)(x):FOK ((k,i,o,([]:List UInt8),x):Zf):=Nat.zero_le _
theorem FL.cap{n:Nat}{l k:List Zf}(h:FL n l)(hn:n+k.length<=10000):l.length+k.length<=Qd:=by have:=h.1;grind[Qd]
theorem Q3r(c:Zc)(s:Zg):T (Zgm c s) λr=>FL 4 r.1:=by
 have b:∀o,FL 3 o->T (Zbc s o) λr=>FL 4 r.1:=λo a=>by
  unfold Zbc;exact(Qro _).bind λt _=>T.if (T.guard (a.cap (by simp)) (T.pure (a.one (Qlc _ _ _ _)))) (T.pure (a.mono (by omega)))
 have d:∀o,FL 2 o->T (Wm c s o) λr=>FL 4 r.1:=λo a=>by
  unfold Wm;exact(Qrm _ _).bind λt _=>T.if (T.guard (a.cap (by simp)) (b _ (a.one (Qlc _ _ _ _)))) (b _ (a.mono (by omega)))
 have e:∀o,FL 1 o->T (Wl c s o) λr=>FL 4 r.1:=λo a=>by
  unfold Wl;exact T.if (T.guard (a.cap (by simp)) (d _ (a.one (Qlc _ _ _ _)))) (d _ (a.mono (by omega)))
 unfold Zgm;exact T.if (T.guard (FL.nil.cap (by simp)) (e _ (FL.nil.one (Qlc _ _ _ _)))) (e _ (FL.nil.mono (by omega)))
theorem Qqe{K:Nat}{c:Zc}(h:Z4 K c)(hK:K<=1000000):T (W5 c) λr=>FL (4*c.2.2.2.1.length+6) r.1:=by
 have s:=h.str.len;have b:∀{n:Nat}{l k:List Zf},FL n l->n+k.length<=10000000->l.length+k.length<=Qd:=λh u=>by have:=h.1;grind[Qd]
 generalize u:c.2.2.2.1.length=n at s;have e:∀o,FL (4*n+5) o->T (Jl c o) λr=>FL (4*n+6) r.1:=λo a=>by
  unfold Jl;exact T.if (T.guard (b a (by simp;omega)) (T.pure (a.one (Qlc _ _ _ _)))) (T.pure (a.mono (by omega)))
 have f:∀o,FL (4*n+4) o->T (Jk c o) λr=>FL (4*n+6) r.1:=λo a=>by
  unfold Jk;exact T.if (T.guard (b a (by simp;omega)) (e _ (a.one (Qlc _ _ _ _)))) (e _ (a.mono (by omega)))
 have w:∀(N i:Nat)(o:List Zf),n-i<N->i<=n->FL (4*i+3) o->T (Kj N c o (i:Int)) λr=>FL (4*n+6) r.1:=by
  intro N
  induction N with
  |zero=>omega
  |succ N v=>
   intro i o x y a;unfold Kj;refine T.ite (λd=>?_) λd=>?_
   ·have d:=Ode d;refine T.guard (by omega) ((Q3r _ _).bind λt g=>T.guard (b a (by have:=g.1;omega)) ?_);rw[Zr (m:=n)];exact v (i+1) _ (by omega) (by omega) ((a.app g).mono (by omega))
   ·have d:=of_decide_eq_false d;have a:=a.mono (m:=4*n+3) (by omega);exact(Qro _).bind λt _=>T.if (T.guard (b a (by simp;omega)) (f _ (a.one (Qlc _ _ _ _)))) (f _ (a.mono (by omega)))
 have j:∀o,FL 3 o->T (Ki c o) λr=>FL (4*n+6) r.1:=λo a=>by
  grind[Ki,W6]
 have p:∀o,FL 2 o->T (Kh c o) λr=>FL (4*n+6) r.1:=λo a=>by
  unfold Kh;exact(Qfj _ _).bind λt _=>T.if (T.guard (b a (by simp)) (j _ (a.one (Qlc _ _ _ _)))) (j _ (a.mono (by omega)))
 have q:∀o,FL 1 o->T (Kg c o) λr=>FL (4*n+6) r.1:=λo a=>by
  unfold Kg;exact(Qfj _ _).bind λt _=>T.if (T.guard (b a (by simp)) (p _ (a.one (Qlc _ _ _ _)))) (p _ (a.mono (by omega)))
 unfold W5;exact(Zz7 h hK).bind λt _=>T.if (T.pure (FL.nil.mono (by omega))) ((Qwf c).bind λt _=>T.if (T.guard (b FL.nil (by simp)) (q _ (FL.nil.one (Qlc _ _ _ _)))) (q _ (FL.nil.mono (by omega))))
theorem Qxf(n:Int):T (Zim n) λr=>0<=r.1/\r.1<=8:=by
 unfold Zim;exact T.if (T.pure (by simp)) (T.if (T.pure (by simp)) (T.if (T.pure (by simp)) (T.if (T.pure (by simp)) (T.pure (by simp)))))
theorem Q54(n k:Int):∀(N m:Nat)(s:List UInt8),m<N->m<=8->s.length+m<=8->T (Xk N n k s ((m:Int)-1)) λr=>r.1.length<=8
 |0,_,_,h,_,_=>by omega
 |N+1,0,s,_,_,a=>by
  simp_all[Xk,T.pure]
 |N+1,m+1,s,f,g,a=>by
  unfold Xk;have j:∀b,T (Je (λv=>Xk N v.1 v.2.1 v.2.2.1 v.2.2.2.1) n k s (((m+1:Nat):Int)-1) b) λr=>r.1.length<=8:=λb=>by
   unfold Je;obtain⟨d,e,i⟩:=Qyx b;have c:IntKind.i64.wrap (((m+1:Nat):Int)-1-1)=(m:Int)-1:=by grind[Zs]
   rw[e,Obs,c];exact T.guard (by grind[Yh]) (Q54 n k N m _ (by omega) (by omega) (by grind))
  exact T.ite (λ_=>T.guard (by grind[Zs]) (T.if (T.if (j _) (T.if (j _) (T.if (j _) (j _)))) (j _))) λh=>by simp_all
theorem Xkb(n:Int):T (Zkt n) λr=>r.1.length<=8:=by
 unfold Zkt;refine(Qxf n).bind λt a=>?_
 grind[Int.eq_ofNat_of_zero_le,Zs,Q54,Zg1]
theorem Q00(l:List Int)(hl:l.length<=1000):∀(N i:Nat)(s:List UInt8),l.length-i<N->i<=l.length->s.length<=8*i->T (Za5 N l s (i:Int)) λr=>r.1.length<=8*l.length
 |0,_,_,h,_,_=>by omega
 |N+1,i,s,b,c,d=>by
  unfold Za5;refine T.ite (λa=>?_) λ_=>T.pure (by simp only;omega);have a:=Ode a;refine T.guard (by omega) ((Qxf _).bind λt _=>T.if (T.pure (by simp)) (T.guard (by omega) ((Xkb _).bind λt e=>T.guard (by grind[Yh]) ?_)));rw[Zr (m:=l.length)];exact Q00 l hl N (i+1) _ (by omega) (by omega) (by grind)
theorem Xhj(l:List Int)(hl:l.length<=1000):T (Yc l) λr=>r.1.length<=8*l.length:=by
 grind[Yc,Q00,Zfy]
theorem Qvm{f:Zf}(h:FOK f):T (Zfe f) λr=>r.1.length<=1100:=by
 have q:∀l:List Int,l.length<=4->T (Yc l) λr=>r.1.length<=32:=λl d=>(Xhj l (by omega)).mono λy n=>by omega
 have a:∀l:List Int,l.length<=4->T (Option.bind (Yc l) λt=>some (t.1,())) λr=>r.1.length<=1100:=λl d=>(q l d).bind λt m=>T.pure (by simp only;omega);have c:∀l:List Int,l.length<=4->T (Option.bind (Yc l) λt=>Ze (t.1.length+f.2.2.2.1.length<=Yh)<|some (t.1++f.2.2.2.1,())) λr=>r.1.length<=1100:=λl d=>(q l d).bind λt m=>by
  grind[FOK,T.guard,Yh,T.pure]
 have e:∀k,T (Zdw f k) λr=>r.1.length<=1100:=λk=>T.if (c _ (by simp)) (c _ (by simp));have g:∀k,T (Zdx f k) λr=>r.1.length<=1100:=λk=>a _ (by simp);have i:∀b,T (V8 f b) λr=>r.1.length<=1100:=λb=>T.if (a _ (by simp)) (T.if (g _) (g _));have j:∀k b,T (Ko f k b) λr=>r.1.length<=1100:=λk b=>T.if (a _ (by simp)) (T.if (i _) (i _));unfold Zfe;exact(Z2o h).bind λt _=>T.if (T.pure (by simp)) (T.if (a _ (by simp)) (T.if (a _ (by simp)) (T.if (T.if (e _) (e _)) (T.if (j _ _) (j _ _)))))
theorem Z91{f:Zf}(h:FOK f):T (Zdf f) λr=>0<=r.1/\r.1<=1100:=by
 unfold Zdf;exact(Qvm h).bind λt a=>T.pure (by simp only;omega)
theorem Qvn(l:List Zf)(h:Qek l):∀(N i:Nat)(s:List UInt8),l.length-i<N->i<=l.length->s.length<=1100*i->T (Zev N l s (i:Int)) λr=>r.1.length<=400
 |0,_,_,h,_,_=>by omega
 |N+1,i,s,b,c,d=>by
  have e:=h.1;unfold Zev;refine T.ite (λa=>?_) λ_=>T.ite (λ_=>T.pure (by simp)) λh=>T.pure (by grind);have a:=Ode a;refine T.guard (by omega) ((Qvm (h.2 _ (Z5))).bind λt f=>T.if (T.pure (by simp)) (T.guard (by grind[Yh]) ?_));rw[Zr (m:=l.length)];exact Qvn l h N (i+1) _ (by omega) (by omega) (by grind)
theorem Qyd{l:List Zf}(h:Qek l):T (Zjo l) λr=>r.1.length<=400:=by
 grind[Zjo,Qvn,Zjp]
theorem Xaq{K:Nat}{c:Zc}{s:Zg}(hs:Xl K s)(k:Int):T (Zlu c s k) λr=>Xl K r.1.1:=by
 unfold Zlu;exact T.if (T.pure (by exact⟨hs.snd,hs.rcv⟩)) (T.if (T.pure (by exact⟨hs.snd,hs.rcv⟩)) (T.if ((Qrm _ _).bind λt _=>T.if (T.pure (by exact⟨hs.snd,hs.rcv⟩)) (T.pure (by exact⟨hs.snd,hs.rcv⟩))) (T.if ((Q5r _).bind λt _=>T.pure (by exact⟨hs.snd,hs.rcv⟩)) (T.pure hs))))
theorem Qwo{K:Nat}{c:Zc}(h:Z4 K c)(hK:K+1<=500000)(f:Zf):T (Zcs c f) λr=>Z4 (K+1) r.1:=by
 unfold Zcs;rw[Jg h,Obs];have m:=h.mono (K':=K+1) (by omega);exact(Z3o h).bind λt _=>T.if (T.pure m) (T.if ((Qwf c).bind λt _=>T.pure (by exact⟨m.str,m.pk⟩)) (T.if (T.if ((Qfj _ _).bind λt _=>T.pure (by exact⟨m.str,m.pk⟩)) ((Qfj _ _).bind λt _=>T.pure (by exact⟨m.str,m.pk⟩)))
  (T.if ((Q5r _).bind λt _=>T.pure (by exact⟨m.str,m.pk⟩)) (T.if (T.if (T.pure (by exact⟨m.str,m.pk⟩)) (T.pure (by exact⟨m.str,m.pk⟩)))
   ((Zoy h (by omega) _).bind λs a=>T.if ((Xaq a _).bind λt b=>(Jd h.str b (Nat.le_refl _) hK).bind λe d=>T.pure (h.up (by omega) d)) (T.pure m))))))
theorem Xb4{K:Nat}{c:Zc}(h:Z4 K c)(hK:K<=1000000):T (Zk1 c) λr=>r.1.length<=K:=by
 have d:=h.str.len;have e:∀(N i:Nat)(o:List Zk),c.2.2.2.1.length-i<N->i<=c.2.2.2.1.length->o.length<=i->T (Vj N c o (i:Int)) λr=>r.1.length<=K:=by
  intro N
  induction N with
  |zero=>omega
  |succ N f=>
   intro i o g k b;unfold Vj;refine T.ite (λa=>?_) λ_=>T.pure (by simp only;omega);have a:=Ode a;have j:∀o,o.length<=i+1->T (Zfo (λv=>Vj N v.1 v.2.1 v.2.2.1) c o (i:Int)) λr=>r.1.length<=K:=λo b=>by
    grind[Zfo,Zr]
   exact T.guard (by omega) (T.if (T.guard (by grind[Qd]) (j _ (by simp;omega))) (j _ (by omega)))
 grind[Zk1,Zg5]
theorem Xb5(l:List Zk)(hl:l.length<=1000000)(n:Int):T (Zk2 l n) λr=>r.1.length<=l.length:=by
 have c:∀(N i:Nat)(o:List Zk),l.length-i<N->i<=l.length->o.length<=i->T (Vk N l n o (i:Int)) λr=>r.1.length<=l.length:=by
  intro N
  induction N with
  |zero=>omega
  |succ N d=>
   intro i o e f b;unfold Vk;refine T.ite (λa=>?_) λ_=>T.pure (by simp only;omega);have a:=Ode a;have j:∀o,o.length<=i+1->T (Zfp (λv=>Vk N v.1 v.2.1 v.2.2.1 v.2.2.2.1) l n o (i:Int)) λr=>r.1.length<=l.length:=λo b=>by
    grind[Zfp,Zr]
   exact T.guard (by omega) (T.if (T.guard (by omega) (T.guard (by grind[Qd]) (j _ (by simp;omega)))) (j _ (by omega)))
 grind[Zk2,Zg6]
theorem Q5b(l:List Zk)(hl:l.length<=1000000):TT (Zfd l):=by
 have c:∀(N i:Nat),l.length-i<N->i<=l.length->TT (Jj N l (i:Int)):=by
  intro N
  induction N with
  |zero=>intro i h;omega
  |succ N b=>
   intro i d e;unfold Jj;refine T.ite (λa=>?_) λ_=>T.tt;have a:=Ode a;refine T.guard (by omega) ((Qxo _).bind λt _=>T.guard (λ_=>by omega) (T.bind (Q:=λ_=>True) (T.if T.tt (tt1 (Z0y _))) λt _=>T.guard (λ_ _=>by omega) (T.guard (λ_ h=>?_) (T.if T.tt ?_))))
   ·have:=Ode h
    grind[Zs]
   ·rw[Zr (m:=l.length)];exact b (i+1) (by omega) (by omega)
 grind[Zfd,Wy]
theorem Qy5(l:List Zk)(hl:l.length<=1000000):T (Zkx l) λr=>r.1.length<=l.length:=by
 have g:∀(N i:Nat)(o:List Int)(b:Int),l.length-i<N->i<=l.length->o.length<=i->T (Yv N l o b (i:Int)) λr=>r.1.length<=l.length:=by
  intro N
  induction N with
  |zero=>omega
  |succ N f=>
   intro i o b h j a;unfold Yv;refine T.bind (Q:=λ_=>True) (T.if (Q5b l hl) T.tt) λt _=>T.ite (λc=>?_) λ_=>T.pure (by simp only;omega);have c:(i:Int)<l.length:=by simp at c;omega
   have d:∀o b,o.length<=i+1->T (Zfj (λv=>Yv N v.1 v.2.1 v.2.2.1 v.2.2.2.1) l o b (i:Int)) λr=>r.1.length<=l.length:=λo b a=>by
    unfold Zfj;rw[Zr (m:=l.length)];exact f (i+1) o b (by omega) (by omega) a
   have e:∀o b,o.length<=i->T (Zfk (λv=>Yv N v.1 v.2.1 v.2.2.1 v.2.2.2.1) l o b (i:Int)) λr=>r.1.length<=l.length:=λo b a=>by
    unfold Zfk;exact T.guard (by omega) (T.if (T.guard (by omega) (T.guard (by grind[Qd]) (d _ _ (by simp;omega)))) (d _ _ (by omega)))
   exact T.guard (by omega) (T.if (T.guard (by omega) (e _ _ (by simp))) (e _ _ a))
 grind[Zkx,Wq]
theorem Q88(l:List Int)(hl:l.length<=10000000000)(n:Int):TT (Zpp l n):=by
 have c:∀(N i:Nat),l.length-i<N->i<=l.length->TT (Zcx N l n (i:Int)):=by
  intro N
  induction N with
  |zero=>intro i h;omega
  |succ N b=>
   intro i d e;unfold Zcx;refine T.ite (λa=>?_) λa=>T.ite (λ_=>T.tt) λh=>T.guard (by grind) T.tt;have a:=Ode a;refine T.guard (by omega) (T.if (T.guard (by omega) T.tt) ?_);rw[Zr (m:=l.length)];exact b (i+1) (by omega) (by omega)
 grind[Zpp,Ze1]
theorem Qzg(l:List Zk)(hl:l.length<=100000)(n:Int):TT (Zky l n):=by
 unfold Zky;refine(Qy5 l (by omega)).bind λm f=>?_;generalize m.1=m at f;have h:∀(N i:Nat)(o:List Int),l.length-i<N->i<=l.length->o.length<=i*m.length->TT (Yw N l n m o (i:Int)):=by
  intro N
  induction N with
  |zero=>omega
  |succ N g=>
   intro i o p q b;have r:i*m.length<=100000*100000:=Nat.mul_le_mul (by omega) (by omega);unfold Yw;refine T.ite (λd=>?_) λ_=>(Q88 o (by omega) n).bind λt _=>T.tt;have d:i<l.length:=by simp_all
   have s:∀(M k:Nat)(o:List Int),m.length-k<M->k<=m.length->o.length<=i*m.length+k->TT (Jf (λv=>Yw N v.1 v.2.1 v.2.2.1 v.2.2.2.1 v.2.2.2.2.1) M l n m o (i:Int) (k:Int)):=by
    intro M
    induction M with
    |zero=>omega
    |succ M c=>
     intro k o u hk b;unfold Jf;refine T.ite (λa=>?_) λa=>?_
     ·have a:k<m.length:=by simp_all
      have j:∀o:List Int,o.length<=i*m.length+k+1->TT (Zfl (λv=>Yw N v.1 v.2.1 v.2.2.1 v.2.2.2.1 v.2.2.2.2.1) (λv=>Jf (λv=>Yw N v.1 v.2.1 v.2.2.1 v.2.2.2.1 v.2.2.2.2.1) M v.1 v.2.1 v.2.2.1 v.2.2.2.1 v.2.2.2.2.1 v.2.2.2.2.2.1) l n m o (i:Int) (k:Int)):=λo b=>by
       unfold Zfl;rw[Zr a];exact c (k+1) o (by omega) (by omega) b
      exact T.guard (by omega) (T.guard (by omega) (T.guard (λ_=>by omega) (T.if (T.guard (by omega) T.tt) (T.guard (by omega) (T.guard (by omega) (T.if (T.guard (by omega) (T.guard (by grind[Qd]) (j _ (by simp;omega)))) (j _ (by omega))))))))
     ·have a:=of_decide_eq_false a;have e:k=m.length:=by omega
      rw[Zr d];exact g (i+1) o (by omega) (by omega) (by grind)
   grind[Zcu]
 grind[Zct]
theorem Q7u{K:Nat}{c:Zc}(h:Z4 K c)(hK:K<=1000000)(i room:Int):T (Zpo c i room) λr=>r.1.2.1.length<=64:=by
 have z:Zds.2.1.length<=64:=Nat.zero_le _;have o:∀(t:Qy)(s:Zg)(m:Int),Xl K s-> ∀(N n:Nat),n<N->n<=60->T (Zcw N i room t s m (n:Int)) λr=>r.1.2.1.length<=64:=by
  intro t s m b N
  induction N with
  |zero=>intro n h;omega
  |succ N d=>
   intro n q g;unfold Zcw;refine T.ite (λa=>?_) λ_=>T.pure z;have a:=Ode a;obtain⟨p,u,e,v⟩:=Q31 b.snd (n:Int) m (by omega);rw[e,Obs];have j:IntKind.i64.wrap ((n:Int)-1)=((n-1:Nat):Int):=by grind[Zs]
   rw[j];exact T.if (T.pure z) (T.bind (Q:=λr=>FOK r.1) (T.pure (by grind[FOK])) λf k=>(Z91 k).bind λt _=>T.if (T.pure (by simp only;omega)) (d (n-1) (by omega) (by omega)))
 have l:∀c,TT (Zbr c):=λc=>by
  unfold Zbr;exact(tt1 (Zo5 c)).bind λt _=>T.if T.tt T.tt
 unfold Zpo;refine(Zoy h hK i).bind λs b=>(Z3o h hK).bind λt _=>T.ite (λ_=>T.pure z) λa=>(l _).bind λt _=>?_
 grind[Zj8]
theorem Qp4(c:Xy)(n:Int):TT (Zdj c n):=by
 unfold Zdj;exact(tt1 (Zo5 c)).bind λt _=>T.if T.tt T.tt
theorem Q3u{K:Nat}{c:Zc}(h:Z4 K c)(hK:K+1<=500000)(i:Int)(p:Qy):T (Zge c i p) λr=>Z4 (K+1) r.1:=by
 unfold Zge;rw[Jg h,Obs];refine(Zoy h (by omega) i).bind λs a=>(Z3o h).bind λt _=>T.if (T.pure (h.mono (by omega))) ?_;obtain⟨x,f,e,b⟩:=Qsc a.snd p (by omega);rw[e,Obs];exact(Qp4 _ _).bind λt _=>(Qp4 _ _).bind λt _=>T.if (T.pure (h.mono (by omega))) ((Jd h.str (by exact⟨b,a.rcv⟩) (Nat.le_refl _) hK).bind λg d=>T.pure (by exact⟨d,h.pk.mono (by omega)⟩))
theorem Q67{K:Nat}{c:Zc}(h:Z4 K c)(hK:K+1<=500000)(i:Int):T (Zin c i) λr=>Z4 (K+1) r.2.1:=by
 unfold Zin;exact(Zoy h (by omega) i).bind λs a=>(Xc2 _).bind λt _=>(Xc2 _).bind λt _=>(Jd h.str (by exact⟨a.snd,a.rcv⟩) (Nat.le_refl _) hK).bind λd b=>T.pure (by exact⟨b,h.pk.mono (by omega)⟩)
theorem Q6e{K F:Nat}(hK:K<=90000)(hF:F<=1000000):∀(N i:Nat)(x:Zc)(fr:List Zf)(room:Int)(sk:List Int),200-i<N->i<=200->Z4 (K+i) x->FL (F+i) fr->sk.length<=i->
  T (Y9 N x fr room sk (i:Int)) λr=>Z4 (K+200) r.2.1/\FL (F+200) r.1.1
 |0,_,_,_,_,_,h,_,_,_,_=>by omega
 |N+1,i,x,fr,room,sk,B,C,hx,a,g=>by
  unfold Y9;refine T.ite (λd=>?_) λd=>T.pure ⟨hx.mono (by omega),a.mono (by omega)⟩;have d:i<200:=by grind
  refine(Xb4 hx (by omega)).bind λw D=>?_;have j:∀(x:Zc)(fr:List Zf)(room:Int)(sk:List Int),Z4 (K+i+1) x->FL (F+i+1) fr->sk.length<=i+1->
    T (Zbu (λv=>Y9 N v.1 v.2.1 v.2.2.1 v.2.2.2.1 v.2.2.2.2.1) x fr room sk (i:Int)) λr=>Z4 (K+200) r.2.1/\FL (F+200) r.1.1:=λx fr room sk hx a g=>by
   unfold Zbu;rw[Zr d];exact Q6e hK hF N (i+1) x fr room sk (by omega) (by omega) hx a g
  have u:∀(o:Int)(p:Qy)(y:Zc)(q:Bool),p.2.1.length<=64->Z4 (K+i+1) y->
    T (Zhi (λv=>Y9 N v.1 v.2.1 v.2.2.1 v.2.2.2.1 v.2.2.2.2.1) x fr room sk (i:Int) o p y q) λr=>Z4 (K+200) r.2.1/\FL (F+200) r.1.1:=λo p y q s z=>by
   unfold Zhi;exact T.if (T.pure ⟨hx.mono (by omega),a.mono (by omega)⟩) (T.bind (Q:=λr=>FOK r.1) (T.pure (by grind[FOK])) λf b=>T.guard (by have:=a.1;grind[Qd]) ((Z91 b).bind λt _=>j _ _ _ _ z (a.one b) (by omega)))
  have E:∀(M k:Nat)(l:List Zk),sk.length-k<M->k<=sk.length->l.length<=K+i->
    T (Zbv (λv=>Y9 N v.1 v.2.1 v.2.2.1 v.2.2.2.1 v.2.2.2.2.1) M x fr room sk (i:Int) l (k:Int)) λr=>Z4 (K+200) r.2.1/\FL (F+200) r.1.1:=by
   intro M
   induction M with
   |zero=>omega
   |succ M A=>
    intro k l G hk H;unfold Zbv;refine T.ite (λe=>?_) λe=>?_
    ·have e:=Ode e;refine T.guard (by omega) ((Xb5 l (by omega) _).bind λt c=>?_);rw[Zr (m:=sk.length)];exact A (k+1) _ (by omega) (by omega) (by omega)
    ·simp only[X4,Kt];exact(Qzg l (by omega) _).bind λn _=>T.if (T.pure ⟨hx.mono (by omega),a.mono (by omega)⟩) ((Q7u hx (by omega) _ _).bind λp s=>T.if
      ((Q67 hx (by omega) _).bind λt c=>T.guard (by grind[Qd]) (j _ _ _ _ c (a.mono (by omega)) (by simp;omega)))
      ((Q3u hx (by omega) _ _).bind λt c=>u _ _ _ _ s c))
  grind[Zlw]
theorem Xar{K F:Nat}(hK:K<=90000)(hF:F<=1000000){x:Zc}{fr:List Zf}(hx:Z4 K x)(hf:FL F fr)(room:Int):T (Zou x fr room) λr=>Z4 (K+200) r.2.1/\FL (F+200) r.1.1:=by
 unfold Zou;exact Q6e hK hF _ 0 x fr room [] (by simp[Zlv]) (by omega) hx hf (by simp)
theorem Qnu{K:Nat}{c:Zc}(h:Z4 K c)(hK:K<=80000)(b:Int):T (Vu c b) λr=>Z4 (K+1000) r.1.2.2.1:=by
 have s:∀(t:Zc)(l:List Zf),FL 606 l-> ∀(N i:Nat)(x:Zc)(e:List Zf)(a:Int),l.length-i<N->i<=l.length->Z4 (K+i) x->FL i e->
   T (Xj N c t x e a l (i:Int)) λr=>Z4 (K+1000) r.1.2.2.1:=by
  intro t l k N;have o:=k.1
  induction N with
  |zero=>omega
  |succ N u=>
   intro i x e a w y hx f;have q:∀(x:Zc)(e:List Zf)(a:Int),i<l.length->Z4 (K+i+1) x->FL (i+1) e->
     T (W8 (λv=>Xj N v.1 v.2.1 v.2.2.1 v.2.2.2.1 v.2.2.2.2.1 v.2.2.2.2.2.1 v.2.2.2.2.2.2.1) c t x e a l (i:Int)) λr=>Z4 (K+1000) r.1.2.2.1:=λx e a g hx f=>by
    unfold W8;rw[Zr g];exact u (i+1) x e a (by omega) (by omega) hx f
   unfold Xj;refine T.ite (λg=>?_) λg=>?_
   ·have g:=Ode g;have m:=k.2 _ (Z5 (d:=Qk) (show i<l.length by omega));exact T.guard (by omega) ((Z91 m).bind λt _=>T.if (T.guard (by omega) ((Z91 m).bind λt _=>T.guard (by omega) ((Qwo hx (by omega) _).bind λt n=>T.guard (by omega) (T.guard (by have:=f.1;grind[Qd]) (q _ _ _ (by omega) n (f.one m)))))) (q _ _ _ (by omega) (hx.mono (by omega)) (f.mono (by omega))))
   ·refine(Xar (by omega) (by omega) hx f _).bind λr j=>T.if (T.pure (j.1.mono (by omega))) ?_;have hp:=j.1.pk.1;have f:Qek r.1.1:=⟨by have:=j.2.1;omega,j.2.2⟩
    exact T.guard (by grind[Qd]) ((Qyd f).bind λt _=>T.pure (by exact⟨j.1.str.mono (by omega),by grind,λp hp=>by
     rcases List.mem_append.1 hp with hp|hp
     ·exact j.1.pk.2 p hp
     grind⟩))
 unfold Vu;rw[Jg h,Obs];exact(Qwe h (by omega)).bind λt n=>T.bind (Q:=λ_=>True) (T.if T.tt (tIn _ _ _)) λt _=>T.ite (λ_=>T.pure (h.mono (by omega))) λg=>(Qqe h (by omega)).bind λl k=>by
  have:=n (by grind);exact s _ _ (k.mono (by omega)) _ 0 _ _ _ (by simp[Zco]) (by omega) h FL.nil
theorem Qol(n:Int){K:Nat}(h25:25<=K)(hK:K<=400000):∀(N m:Nat)(c:Zc),m<N->c.2.2.2.1.length+m<=24->Z4 K c->T (Y8 N c n ((m:Int)-1)) λr=>Z4 K r.2.1
 |0,_,_,h,_,_=>by omega
 |N+1,0,c,_,_,h=>by
  simp_all[Y8,T.pure]
 |N+1,m+1,c,d,f,h=>by
  unfold Y8;simp only[X4,Kt];refine T.ite (λ_=>(Qcx _ _ _ _).bind λs a=>?_) λh=>by simp_all
  unfold Zhg;have e:IntKind.i64.wrap (((m+1:Nat):Int)-1-1)=(m:Int)-1:=by grind[Zs]
  rw[e];obtain⟨y,e,g,b⟩:=Qjf h.str (a.mono (Nat.zero_le K));rw[e,Obs];exact Qol n h25 hK N m _ (by omega) (by simp only;omega) ⟨⟨by simp only;omega,b⟩,h.pk⟩
theorem Q65{K:Nat}{c:Zc}(h25:25<=K)(hK:K<=400000)(h:Z4 K c)(n:Int)(m:Nat)(hm:c.2.2.2.1.length+m<=24):T (Zls c n (m:Int)) λr=>Z4 K r.2.1:=by
 grind[Zls,Zs,Qol,Zgk]
theorem inT(n a b:Int):T (Z8 n a b) λr=>r.1=true->a<=n/\n<=b:=⟨_,Z2j n a b,λh=>by simpa using h⟩
theorem Q6y(a:Xy):T (Zas a) λr=>r.1=true->a.2.1<=1152921504606846976/\0<=a.2.2.1/\a.2.2.1<=a.2.1:=by
 unfold Zas;have B:∀{b:Bool}{n l h:Int}{β:Type}{f:Bool×Unit->Option β}{R:β->Prop},(∀r:Bool×Unit,(r.1=true->l<=n/\n<=h)->T (f r) R)->T (Option.bind (bif b then Z8 n l h else some (false,())) f) R:=λk=>T.bind (T.if (inT _ _ _) (T.pure λh=>by cases h)) k;exact(inT _ _ _).bind λc d=>B λe g=>B λi j=>B λm o=>T.pure λh=>by
  simp_all
theorem Q4k(a:Xy)(n:Int):T (Zmd a n) λr=>0<=r.2.1/\r.2.1<=1152921504606846976:=by
 unfold Zmd;refine(Q6y a).bind λt b=>T.ite (λ_=>T.pure (by simp)) λc=>T.pure ?_
 grind[Zs]
theorem Zvl{K:Nat}{c:Zc}(h:Z4 K c)(h25:25<=K)(hK:K<=400000)(i:Int):T (K5 c i) λr=>Z4 K r.1:=by
 have p:=h.str.len;have d:∀t x (n:Nat),x.2.2.2.1.length+n<=24->Z4 K x->T (K6 i t x (n:Int)) λr=>Z4 K r.1:=λt x n f hx=>by
  unfold K6;exact(Q65 h25 hK hx i n f).bind λr l=>T.pure l
 have m:∀t b n g,0<=n->n<=1152921504606846976->T (J7 i c t c b n g) λr=>Z4 K r.1:=λt b n g o q=>by
  unfold J7;refine T.ite (λ_=>T.pure h) λs=>?_;have f:(c.2.2.2.1.length:Int)+n<=24:=by
   grind[Zs]
  obtain⟨n,rfl⟩:=Int.eq_ofNat_of_zero_le o;exact(Xb0 i).bind λt _=>T.if (d _ _ n (by simp only;omega) (by exact⟨h.str,h.pk⟩)) (d _ _ n (by simp only;omega) (by exact⟨h.str,h.pk⟩))
 have j:∀t a,T (X7 i c t c a) λr=>Z4 K r.1:=λt a=>by
  unfold X7;simp only[X4,Kt];exact(tt1 (Xaf i)).bind λt _=>(Q4k _ _).bind λt k=>m _ _ _ _ k.1 k.2
 unfold K5;rw[Jg h,Obs];exact(Z3o h).bind λt _=>T.bind (Q:=λ_=>True) (T.if T.tt (Qxo i)) λt _=>T.if (T.pure h) (T.bind (Q:=λ_=>True) (tt1 (by obtain⟨v,e,-⟩:=Z0r c.2.2.2.1 i (by omega);exact⟨v,e⟩)) λt _=>T.if (T.pure h) ((Xe3 _ _).bind λt _=>T.if (T.pure h) ((Xb0 i).bind λt _=>T.if (j _ _) (j _ _))))
theorem Qsa(w:Qg)(n:Int):TT (Zmc w n):=by
 unfold Zmc;exact(tt1 (Zv2 w)).bind λt _=>T.if T.tt T.tt
theorem Q1l{K:Nat}{x:Zc}{s:Zg}(h:Z4 K x)(hs:Xl K s)(hK:K<=1000000)(e:Int):T (Zib x s e) λr=>Z4 K r.2.1/\Xl K r.2.2.1:=by
 have a:TT (Zpn s.2.2.2.1 e):=by
  unfold Zpn;exact(tt1 (Zol hs.rcv hK)).bind λt _=>T.bind (Q:=λ_=>True) (T.if T.tt (Qxo _)) λt _=>T.if T.tt T.tt
 unfold Zib;exact a.bind λt _=>T.if (T.pure ⟨h,hs⟩) ((Qsa _ _).bind λt _=>(Qsa _ _).bind λt _=>T.if (T.pure ⟨h,hs⟩) (T.pure ⟨⟨h.str,h.pk⟩,hs.snd,hs.rcv⟩))
theorem Q8m(s:Bool)(n:Int):TT (K0 s n):=tt1 (Qs0 s n)
theorem Q2n(s:Bool)(n:Int):TT (Xv s n):=tt1 (Qcf s n)
theorem Qyo{K:Nat}{c:Zc}{f:Zf}(h:Z4 K c)(hf:FOK f)(h25:25<=K)(hK:K<=390000):T (Zd6 c f) λr=>Z4 (K+f.2.2.2.1.length+2) r.1.1:=by
 have m:=h.mono (K':=K+f.2.2.2.1.length+2) (by omega);have a:∀v:Int,T (Option.bind (Z9 c) λt=>some ((t.1,v,()),())) λr=>Z4 (K+f.2.2.2.1.length+2) r.1.1:=λv=>by
  grind[Jg,T.pure]
 unfold Zd6;refine(Z3o h).bind λt _=>T.bind (Q:=λ_=>True) (T.if T.tt (Z2o hf)) λt _=>T.if (a 7) ((Q2n _ _).bind λt _=>T.if (a 5) ((Zvl h h25 (by omega) _).bind λx hx=>T.if (a _) ((Zoy hx (by omega) _).bind λs b=>?_)));obtain⟨r,v,e,g⟩:=Z26 b.rcv f.2.2.1 f.2.2.2.1 f.2.2.2.2.1 (by grind[FOK]);rw[e,Obs];unfold FOK at hf;exact(Q1l hx b (by omega) _).bind λy d=>T.if (a _) (T.if (a _) ((Z95 (K':=K+f.2.2.2.1.length+1) d.1 (by exact⟨d.2.snd.mono (by omega),g.mono (by omega)⟩)).bind λt i=>T.pure (i.mono (by omega))))
theorem Qv1{K:Nat}{c:Zc}{f:Zf}(h:Z4 K c)(hf:FOK f)(h25:25<=K)(hK:K<=390000):T (Zcq c f) λr=>Z4 (K+f.2.2.2.1.length+2) r.1.1:=by
 have m:=h.mono (K':=K+f.2.2.2.1.length+2) (by omega);have a:∀v:Int,T (Option.bind (Z9 c) λt=>some ((t.1,v,()),())) λr=>Z4 (K+f.2.2.2.1.length+2) r.1.1:=λv=>by
  grind[Jg,T.pure]
 unfold Zcq;refine(Z3o h).bind λt _=>T.bind (Q:=λ_=>True) (T.if T.tt (Z2o hf)) λt _=>T.if (a 7) ((Q2n _ _).bind λt _=>T.if (a 5) ((Zvl h h25 (by omega) _).bind λx hx=>T.if (a _) ((Zoy hx (by omega) _).bind λs b=>?_)));obtain⟨r,v,e,i⟩:=Z0d b.rcv (by omega) f.2.2.2.2.2.1 f.2.2.2.2.2.2.2.1;rw[e,Obs];have j:∀(t x:Zc)(s:Zg),Z4 K x->Xl K s->T (Wc t x s r) λr=>Z4 (K+f.2.2.2.1.length+2) r.1.1:=λt x s hx b=>by
  unfold Wc;exact(Z95 hx (by exact⟨b.snd,i⟩) (Nat.le_refl _)).bind λt k=>T.pure (k.mono (by omega))
 exact(Q1l hx b (by omega) _).bind λy d=>T.if (a _) (T.if (a _) (T.if ((Q1m d.1 d.2 _).bind λz g=>j _ _ _ g.1 g.2) (j _ _ _ d.1 d.2)))
theorem Qyp{K:Nat}{c:Zc}{f:Zf}(h:Z4 K c)(hf:FOK f)(h25:25<=K)(hK:K<=390000):T (Zd7 c f) λr=>Z4 (K+f.2.2.2.1.length+2) r.1.1:=by
 have m:=h.mono (K':=K+f.2.2.2.1.length+2) (by omega);have b:∀v:Int,T (Option.bind (Z9 c) λt=>some ((t.1,v,()),())) λr=>Z4 (K+f.2.2.2.1.length+2) r.1.1:=λv=>by
  grind[Jg,T.pure]
 unfold Zd7;refine(Z3o h).bind λt _=>T.bind (Q:=λ_=>True) (T.if T.tt (Z2o hf)) λt _=>T.if (b 7) ((Q8m _ _).bind λt _=>T.if (b 5) ((Zvl h h25 (by omega) _).bind λx hx=>T.if (b _) ((Zoy hx (by omega) _).bind λs a=>?_)));obtain⟨r,v,e,d⟩:=Zyp a.snd f.2.2.2.2.2.1;rw[e,Obs];have j:∀(t x:Zc)(s:Zg),Z4 K x->Xl K s->T (Zaa t x s) λr=>Z4 (K+f.2.2.2.1.length+2) r.1.1:=λt x s hx a=>by
  unfold Zaa;exact(Z95 hx a (Nat.le_refl _)).bind λt g=>T.pure (g.mono (by omega))
 exact T.if (j _ _ _ hx (by exact⟨d,a.rcv⟩)) (j _ _ _ hx a)
theorem Qkw(c:Xy)(n:Int):TT (Zhe c n):=by
 unfold Zhe;exact(tt1 (Zo5 c)).bind λt _=>T.bind (Q:=λ_=>True) (T.if T.tt (Qxo _)) λt _=>T.if T.tt T.tt
theorem Qkv(c:Ze2)(n:Int):TT (Zhd c n):=by
 unfold Zhd;exact(tt1 (Z2n c)).bind λt _=>T.if T.tt T.tt
theorem Qv0{K:Nat}{c:Zc}{f:Zf}(h:Z4 K c)(hf:FOK f)(h25:25<=K)(hK:K<=390000):T (Zcp c f) λr=>Z4 (K+f.2.2.2.1.length+2) r.1:=by
 have m:=h.mono (K':=K+f.2.2.2.1.length+2) (by omega);have a:∀v:Int,T (Option.bind (Z9 c) λt=>some (t.1,v,())) λr=>Z4 (K+f.2.2.2.1.length+2) r.1:=λv=>by
  grind[Jg,T.pure]
 have d:∀t x,Z4 (K+f.2.2.2.1.length+2) x->T (Zi6 t x) λr=>Z4 (K+f.2.2.2.1.length+2) r.1:=λt x hx=>T.pure hx;have e:∀t b,T (Zcy c f t b) λr=>Z4 (K+f.2.2.2.1.length+2) r.1:=λt b=>by
  unfold Zcy;exact T.if (a _) ((Zvl h h25 (by omega) _).bind λx hx=>T.if (a _) (T.if ((Zoy hx (by omega) _).bind λs g=>(Qkw _ _).bind λt _=>(Jd hx.str (by exact⟨g.snd,g.rcv⟩) (Nat.le_refl _)).bind λq n=>d _ _ ((hx.up (by omega) n).mono (by omega))) (d _ _ (hx.mono (by omega)))))
 have o:T (Zme c f) λr=>Z4 (K+f.2.2.2.1.length+2) r.1:=by
  unfold Zme;exact(Q8m _ _).bind λt _=>T.if ((Q2n _ _).bind λt _=>e _ _) (e _ _)
 have i:∀t x,Z4 (K+f.2.2.2.1.length+2) x->T (Zdy t x) λr=>Z4 (K+f.2.2.2.1.length+2) r.1:=λt x hx=>T.pure hx;have j:∀t b,T (Wb c f t c b) λr=>Z4 (K+f.2.2.2.1.length+2) r.1:=λt b=>by
  unfold Wb;exact T.if (o.bind λr p=>T.pure p) (T.pure m)
 have l:∀t k b,T (Wa c f t c k b) λr=>Z4 (K+f.2.2.2.1.length+2) r.1:=λt k b=>by
  unfold Wa;exact T.if (T.pure m) (T.if (j _ _) (j _ _))
 unfold Zcp;rw[Jg h,Obs];exact(Z3o h).bind λt _=>T.bind (Q:=λ_=>True) (T.if T.tt (Z2o hf)) λt _=>T.if (T.pure m) (T.if ((Qkw _ _).bind λt _=>T.pure (by exact⟨m.str,m.pk⟩)) (T.if (T.if ((Qkv _ _).bind λt _=>i _ _ (by exact⟨m.str,m.pk⟩)) ((Qkv _ _).bind λt _=>i _ _ (by exact⟨m.str,m.pk⟩))) (T.if (l _ _ _) (l _ _ _))))
theorem Z72{K:Nat}{c:Zc}{f:Zf}(h:Z4 K c)(hf:FOK f)(h25:25<=K)(hK:K<=390000:=by omega):T (Zar c f) λr=>Z4 (K+f.2.2.2.1.length+2) r.1.1:=by
 have b:∀t x e,Z4 (K+f.2.2.2.1.length+2) x->T (V9 t x e) λr=>Z4 (K+f.2.2.2.1.length+2) r.1.1:=λt x e hx=>T.pure hx;unfold Zar;rw[Jg h,Obs];exact T.if ((Qyo h hf h25 hK).bind λr a=>b _ _ _ a) (T.if ((Qv1 h hf h25 hK).bind λr a=>b _ _ _ a) (T.if ((Qyp h hf h25 hK).bind λr a=>b _ _ _ a) ((Qv0 h hf h25 hK).bind λr a=>b _ _ _ a)))
theorem Qws{K:Nat}{c:Zc}(h:Z4 K c)(hK:K<=1000000)(n:Int):T (Zmb c n) λr=>Qek r.1.2.1:=by
 have g:=h.pk.1;have j:∀(t:Qb)(N i:Nat),c.2.2.2.2.2.2.2.2.2.2.2.2.2.2.2.1.length-i<N->i<=c.2.2.2.2.2.2.2.2.2.2.2.2.2.2.2.1.length->T (Zfm N n c t (i:Int)) λr=>Qek r.1.2.1:=by
  intro t N
  induction N with
  |zero=>intro i h;omega
  |succ N k=>
   intro i l m;unfold Zfm;refine T.ite (λa=>?_) λa=>T.pure ⟨Nat.zero_le _,λf e=>by cases e⟩;have a:=Ode a;have b:=h.pk.2 _ (Z5 (d:=Q6) (show i<c.2.2.2.2.2.2.2.2.2.2.2.2.2.2.2.1.length by omega));refine T.guard (by omega) (T.if (T.guard (by omega) (T.guard ?_ (T.pure b))) ?_)
   ·have:=b.1;unfold Qd;rw[show(i:Int).toNat=i from rfl]
    grind
   grind[Zr]
 grind[Zmb,Zj7]
theorem Q1n{K:Nat}{c:Zc}(h:Z4 K c)(hK:K<=1000000)(n:Int):T (Zov c n) λr=>Z4 K r.2.1:=by
 have f:=h.pk.1;have e:∀(N i:Nat)(o:List Qb),c.2.2.2.2.2.2.2.2.2.2.2.2.2.2.2.1.length-i<N->i<=c.2.2.2.2.2.2.2.2.2.2.2.2.2.2.2.1.length->Qk4 i o->T (Zak N c n o (i:Int)) λr=>Z4 K r.2.1:=by
  intro N
  induction N with
  |zero=>omega
  |succ N g=>
   intro i o k l a;unfold Zak;refine T.ite (λb=>?_) λb=>T.pure ⟨h.str,a.mono (by omega)⟩;have b:=Ode b;have m:=h.pk.2 _ (Z5 (d:=Q6) (show i<c.2.2.2.2.2.2.2.2.2.2.2.2.2.2.2.1.length by omega));have j:∀o,Qk4 (i+1) o->T (Zhm (λv=>Zak N v.1 v.2.1 v.2.2.1 v.2.2.2.1) c n o (i:Int)) λr=>Z4 K r.2.1:=λo a=>by
    grind[Zhm,Zr]
   exact T.guard (by omega) (T.if (T.guard (by omega) (T.guard (by have:=a.1;grind[Qd]) (j _ ⟨by have:=a.1;simp;omega,λp hp=>by
    rcases List.mem_append.1 hp with hp|hp
    ·exact a.2 p hp
    simp_all⟩))) (j _ (a.mono (by omega))))
 unfold Zov;exact e _ 0 _ (by simp[Zrt]) (by omega) ⟨by simp,by simp⟩
theorem Qxz(f:Zf):TT (Zab f):=by
 have j:∀b,TT (Kk b):=λb=>by simp_all[Kk,T.if,T.tt]
 unfold Zab
 grind
theorem Xat{K:Nat}{x:Zc}(h:Z4 K x)(hK:K+1<=500000)(f:Zf):T (Zsm x f) λr=>Z4 (K+1) r.2.1:=by
 have m:=h.mono (K':=K+1) (by omega);have c:∀s,Xl K s->T (Zal x s) λr=>Z4 (K+1) r.2.1:=λs a=>by
  unfold Zal;exact(Jd h.str a (Nat.le_refl _) hK).bind λt d=>T.pure (h.up (by omega) d)
 have g:∀s b,Xl K s->T (Zk3 x f s b) λr=>Z4 (K+1) r.2.1:=λs b a=>by
  unfold Zk3;refine T.bind (Q:=λ_=>True) (T.if T.tt (Qxz f)) λt _=>T.if (T.pure m) (T.if ?_ (T.if (c _ (by exact⟨a.snd,a.rcv⟩)) (T.if (c _ (by exact⟨a.snd,a.rcv⟩)) (T.if (c _ (by exact⟨a.snd,a.rcv⟩)) (c _ a)))));refine T.bind (Q:=λ_=>True) ⟨_,rfl,trivial⟩ λp _=>?_;obtain⟨y,e,i⟩:=Q3t a.snd p.1 (by omega);rw[e,Obs];exact c _ ⟨i,a.rcv⟩
 unfold Zsm;simp only[X4,Kt];exact T.if (T.pure (by exact⟨m.str,m.pk⟩)) (T.if (T.if (T.pure (by exact⟨m.str,m.pk⟩)) (T.pure (by exact⟨m.str,m.pk⟩))) ((Zoy h (by omega) _).bind λs a=>g _ _ a))
theorem Xen{K:Nat}{x:Zc}(h:Z4 K x)(hK:K+1<=500000)(f:Zf):T (Zu4 x f) λr=>Z4 (K+1) r.2.1:=by
 have m:=h.mono (K':=K+1) (by omega);have c:∀s,Xl K s->T (Zbo x s) λr=>Z4 (K+1) r.2.1:=λs a=>by
  unfold Zbo;exact(Z95 h a (Nat.le_refl _) hK).bind λt g=>T.pure g
 have i:∀s b,Xl K s->T (Zn2 x f s b) λr=>Z4 (K+1) r.2.1:=λs b a=>by
  unfold Zn2;refine T.bind (Q:=λ_=>True) (T.if T.tt (Qxz f)) λt _=>T.if (T.pure m) (T.if ?_ (T.if ?_ (T.if (c _ (by exact⟨a.snd,a.rcv⟩)) (c _ a))))
  ·refine T.bind (Q:=λ_=>True) ⟨_,rfl,trivial⟩ λp _=>?_;obtain⟨y,e,d⟩:=Q45 a.snd p.1 (by omega);rw[e,Obs];exact c _ ⟨d,a.rcv⟩
  ·obtain⟨y,j,e,d⟩:=Q46 a.snd (by omega);rw[e,Obs];exact T.if (c _ (by exact⟨d,a.rcv⟩)) (c _ (by exact⟨d,a.rcv⟩))
 unfold Zu4;simp only[X4,Kt];exact(Zoy h (by omega) _).bind λs a=>i _ _ a
theorem Qy0{K:Nat}{c:Zc}(h:Z4 K c)(hK:K<=400000)(n:Int):T (Zkw c n) λr=>Z4 (K+1000) r.1.1:=by
 have m:=h.mono (K':=K+1000) (by omega);unfold Zkw;rw[Jg h,Obs];refine(Qws h (by omega) n).bind λp b=>(Zz7 h).bind λt _=>T.if (T.pure m) ((Q1n h (by omega) n).bind λx hx=>?_);have f:=b.1;have g:∀(t:Zc)(N i:Nat)(x:Zc),p.1.2.1.length-i<N->i<=p.1.2.1.length->Z4 (K+i) x->T (Zb7 N t x p.1 (i:Int)) λr=>Z4 (K+1000) r.1.1:=by
  intro t N
  induction N with
  |zero=>omega
  |succ N d=>
   intro i x j k hx;unfold Zb7;refine T.ite (λa=>?_) λa=>T.pure (hx.mono (by omega));have a:=Ode a;refine T.guard (by omega) ((Xat hx (by omega) _).bind λy e=>?_);rw[Zr (m:=p.1.2.1.length)];exact d (i+1) _ (by omega) (by omega) e
 grind[Zny]
theorem Q21{K:Nat}{c:Zc}(h:Z4 K c)(hK:K<=400000)(n:Int):T (Zno c n) λr=>Z4 (K+1000) r.1.1:=by
 have m:=h.mono (K':=K+1000) (by omega);unfold Zno;rw[Jg h,Obs];refine(Qws h (by omega) n).bind λp b=>(Zz7 h).bind λt _=>T.if (T.pure m) ((Q1n h (by omega) n).bind λx hx=>?_);have f:=b.1;have g:∀(t:Zc)(N i:Nat)(x:Zc),p.1.2.1.length-i<N->i<=p.1.2.1.length->Z4 (K+i) x->T (Zdd N t x p.1 (i:Int)) λr=>Z4 (K+1000) r.1.1:=by
  intro t N
  induction N with
  |zero=>omega
  |succ N d=>
   intro i x j k hx;unfold Zdd;refine T.ite (λa=>?_) λa=>T.pure (hx.mono (by omega));have a:=Ode a;refine T.guard (by omega) ((Xen hx (by omega) _).bind λy e=>?_);rw[Zr (m:=p.1.2.1.length)];exact d (i+1) _ (by omega) (by omega) e
 grind[Zop]
theorem Zke(c:Qc)(n:Int)(h:Y7 c):T (Qo c n) λr=>Y7 r.2.1/\0<=r.1.1/\(0<n->r.1.1<n):=by
 obtain⟨x,f,e,a,b,d⟩:=Zw3 c n h;exact⟨_,e,a,b,d⟩
theorem Qb9(c:Qc)(n:Int)(h:Y7 c):T (Zbb c n) λr=>Y7 r.2.1:=by
 obtain⟨b,d,e,a⟩:=Q5v c n h;exact⟨_,e,a⟩
theorem Qpz(c:Qc)(l:List Int)(h:Y7 c)(hl:0<l.length):T (Zdp c l) λr=>Y7 r.2.1/\r.1.1∈l:=by
 obtain⟨b,f,e,a,d⟩:=Q5w c l h hl;exact⟨_,e,a,d⟩
theorem Xfp(c:Qc)(l:List (List UInt8))(h:Y7 c)(hl:0<l.length):T (Zu3 c l) λr=>Y7 r.2.1/\r.1.1∈l:=by
 obtain⟨b,f,e,a,d⟩:=Qq8 c l h hl;exact⟨_,e,a,d⟩
theorem Xde(c:Qc)(most:Nat)(h:Y7 c)(hm:most<=1000:=by omega):T (Zu5 c (most:Int)) λr=>Y7 r.2.1/\r.1.1.length<=most:=by
 obtain⟨t,d,e,a,b⟩:=Q5u c most h hm;exact⟨_,e,a,b⟩
theorem Xep(f:Zf)(h:FOK f):T (Zoc f) λr=>FOK r.1:=by
 have a:∀t x b,FOK x->T (Zn6 f t x b) λr=>FOK r.1:=λt x b hx=>by
  unfold Zn6;exact T.if (T.pure (by exact hx)) (T.pure (by exact hx))
 have c:∀t x,FOK x->T (Zn5 f t x) λr=>FOK r.1:=λt x hx=>by
  unfold Zn5;exact T.if (T.pure (by exact hx)) (T.if (T.pure (by exact hx)) (T.if (T.pure (by exact h)) (T.if (a _ _ _ hx) (a _ _ _ hx))))
 unfold Zoc;exact(Qxz f).bind λt _=>T.if (c _ _ (Qlc _ _ _ _)) (c _ _ (Qlc _ _ _ _))
theorem Q1o(c:Qc)(hc:Y7 c):T (Zwp c) λr=>Y7 r.2.1/\FOK r.1.1:=by
 unfold Zwp;exact(Qpz c _ hc (by simp)).bind λl a=>(Zke _ _ a.1).bind λm b=>(Zke _ _ b.1).bind λn d=>(Xde _ 6 d.1).bind λo e=>(Qb9 _ _ e.1).bind λp f=>(Zke _ _ f).bind λq g=>(Zke _ _ g.1).bind λs h=>(Zke _ _ h.1).bind λu i=>(Qb9 _ _ i.1).bind λv j=>
  (Xep _ (by grind[FOK])).bind λt k=>T.pure ⟨j,k⟩
theorem Qrr(n:Int):TT (Zx5 n):=(tIn _ _ _).bind λt _=>T.if T.tt T.tt
theorem Qrp(n:Int):TT (Zx4 n):=(tIn _ _ _).bind λt _=>T.if T.tt T.tt
theorem Qza(n:Int):TT (Zgf n):=(Qxo _).bind λt _=>T.if T.tt T.tt
theorem Qze(n m:Int):TT (Zgg n m):=by obtain⟨c,b,e⟩:=Qia n m;exact⟨_,e,trivial⟩
theorem Z4.zero{c:Zc}(h1:c.2.2.2.1=[])(h2:c.2.2.2.2.2.2.2.2.2.2.2.2.2.2.2.1=[]):Z4 0 c:=⟨⟨by rw[h1];simp,by rw[h1];simp⟩,by rw[h2];simp,by rw[h2];simp⟩
theorem Q7l(v:Bool)(o p:Zic):T (Zsg v o p) λr=>Z4 0 r.1:=by
 unfold Zsg;exact(tt1 (Zw7 o)).bind λt _=>T.bind (Q:=λ_=>True) (T.if T.tt (tt1 (Zw7 p))) λt _=>T.if (T.pure (Z4.zero rfl rfl)) ((Qza _).bind λt _=>(Qze _ _).bind λt _=>(Qrr _).bind λt _=>(Qrr _).bind λt _=>(Qrp _).bind λt _=>(Qrp _).bind λt _=>T.pure (Z4.zero rfl rfl))
def SQ(K:Nat)(r:(Zc×Unit)×(Qc×Unit)):Prop:=Y7 r.2.1/\Z4 K r.1.1
theorem Xas{K:Nat}{x:Zc}(h:Z4 K x)(h25:25<=K)(hK:K<=70000)(c:Qc)(hc:Y7 c):T (Zsl c x) (SQ (K+2000)):=by
 have m:=h.mono (K':=K+2000) (by omega);have o:∀c t k b,Y7 c->T (Zhl c x t x k b) (SQ (K+2000)):=λc t k b hc=>by
  unfold Zhl;refine T.if ((Zke c _ hc).bind λg a=>(Qnu h (by omega) _).bind λj d=>T.pure ⟨a.1,d.mono (by omega)⟩) (T.if ((Q1o c hc).bind λg a=>(Z72 h a.2 h25).bind λj d=>T.if (T.pure ⟨a.1,d.mono (by grind[FOK])⟩) (T.pure ⟨a.1,m⟩)) (T.if (T.ite (λl=>(Zke c _ hc).bind λg a=>?_) λ_=>T.pure ⟨hc,m⟩) (T.pure ⟨hc,m⟩)));have l:=Ode l;exact T.guard ⟨a.2.1,a.2.2 (by omega)⟩ ((Qb9 _ _ a.1).bind λj d=>T.if ((Qy0 h (by omega) _).bind λn f=>T.pure ⟨d,f.mono (by omega)⟩) ((Q21 h (by omega) _).bind λn f=>T.pure ⟨d,f.mono (by omega)⟩))
 have p:∀c t i k b,Y7 c->T (Zhk c x t i x k b) (SQ (K+2000)):=λc t i k b hc=>by
  unfold Zhk;refine T.if ((Xde c 8 hc).bind λg a=>(Qxx h _ _ (by omega)).bind λj d=>T.pure ⟨a.1,d.mono (by omega)⟩) (T.if ((Qb9 c _ hc).bind λg a=>T.if ((Qtg h (by omega) _).bind λj d=>T.pure ⟨a,d.mono (by omega)⟩) (T.pure ⟨a,m⟩))
   (T.if ((Zke c _ hc).bind λg a=>(Qzp h (by omega) _ _).bind λj d=>T.pure ⟨a.1,d.mono (by omega)⟩) (T.if ((Qb9 c _ hc).bind λg a=>T.if ((Zke _ _ a).bind λj d=>(Qw4 h (by omega) _ _).bind λn f=>T.pure ⟨d.1,f.mono (by omega)⟩) ((Xfp _ _ a (by simp)).bind λj d=>(Qxb h (by omega) _ _ ?_).bind λn f=>T.pure ⟨d.1,f.mono (by omega)⟩)) (T.if (o _ _ _ _ hc) (o _ _ _ _ hc)))))
  have:=d.2;simp only[List.mem_cons,List.mem_nil_iff,or_false]at this;rcases this with e|e|e<;>(rw[e];simp)
 have q:∀c t i,Y7 c->T (Zhj c x t i) (SQ (K+2000)):=λc t i hc=>by
  unfold Zhj;exact(Zke c _ hc).bind λg a=>T.if ((Qb9 _ _ a.1).bind λj d=>(Qzk h (by omega) _).bind λn f=>T.pure ⟨d,f.mono (by omega)⟩) (T.if (p _ _ _ _ _ a.1) (p _ _ _ _ _ a.1))
 unfold Zsl;exact T.ite (λl=>(Zke c _ hc).bind λg a=>T.guard ⟨a.2.1,a.2.2 (by simpa using l)⟩ (q _ _ _ a.1)) λ_=>q _ _ _ hc
theorem Xap(c:Qc)(hc:Y7 c):T (Zsk c) (SQ 30000):=by
 have h:∀(t:Zc)(N m:Nat)(c:Qc)(x:Zc)(K:Nat),m<N->25<=K->Y7 c->Z4 K x->K+2000*m<=30000->T (Zhh N c t x (m:Int)) (SQ 30000):=by
  intro t N
  induction N with
  |zero=>omega
  |succ N i=>
   intro m c x K j b hc hx s;unfold Zhh;refine T.ite (λf=>(Xas hx b (by omega) c hc).bind λl a=>?_) λ_=>T.pure ⟨hc,hx.mono (by omega)⟩;have f:=Ode f;rw[show IntKind.i64.wrap ((m:Int)-1)=((m-1:Nat):Int) by grind[Zs]];exact i (m-1) _ _ (K+2000) (by omega) (by omega) a.1 a.2 (by omega)
 have g:∀c,Y7 c->T (Zsj c) λr=>Y7 r.2.1:=λc hc=>by
  obtain⟨y,u,e,k,-⟩:=Xam c hc;exact⟨_,e,k⟩
 unfold Zsk;refine(Qb9 c _ hc).bind λl a=>(g _ a).bind λv n=>(g _ n).bind λw o=>(Q7l _ _ _).bind λx hx=>(Zke _ _ o).bind λp d=>?_;have:=d.2.2 (by omega);have q:=d.2.1;obtain⟨m,j⟩:=Int.eq_ofNat_of_zero_le q;have e:IntKind.i64.wrap (2+p.1.1)=((m+2:Nat):Int):=by grind[Zs]
 rw[e];exact h _ _ (m+2) _ _ 25 (by grind[Zrs]) (Nat.le_refl _) d.1 (hx.mono (by omega)) (by omega)
theorem Q66(c:Qc)(hc:Y7 c):T (Zrr c) (SQ 30000):=by
 unfold Zrr;exact(Xap c hc).bind λt hx=>(Zke _ _ hx.1).bind λe b=>T.if ((Qpz _ _ b.1 (by simp)).bind λd a=>T.pure ⟨a.1,by exact⟨hx.2.str,hx.2.pk⟩⟩) (T.if ((Qpz _ _ b.1 (by simp)).bind λd a=>T.pure ⟨a.1,by exact⟨hx.2.str,hx.2.pk⟩⟩) (T.if ((Qpz _ _ b.1 (by simp)).bind λd a=>T.pure ⟨a.1,by exact⟨hx.2.str,hx.2.pk⟩⟩) (T.if ((Qpz _ _ b.1 (by simp)).bind λd a=>T.pure ⟨a.1,by exact⟨hx.2.str,hx.2.pk⟩⟩) (T.pure ⟨b.1,hx.2⟩))))
theorem Qeb(r:Zi):Zv0 r=some (Zf9 r,()):=rfl
theorem Z6u(l:List Zi)(hl:l.length<=1048576):∀(N i:Nat),l.length-i<N->i<=l.length->Zm9 N l l (l.length:Int) (i:Int)=Zcr N l (i:Int)
 |0,_,h,_=>by omega
 |N+1,i,d,e=>by
  rw[Zm9,Zcr];by_cases c:i<l.length
  ·have g:∀{a:Prop},a->decide ((i:Int)>0)=true->0<=IntKind.i64.wrap ((i:Int)-1)/\IntKind.i64.wrap ((i:Int)-1)<(l.length:Int):=λ_ h=>by
    have:=Ode h;grind[Zs]
   rw[Zm (Zl),Zm (Zl),Zb,Zb,Qeb,Z6d,Obs,Obs,Zb (λh b=>g h b),Zb (λh b=>g h b),Zb (λ_ _=>by omega),Zr c,Z6u l hl N (i+1) (by omega) (by omega)]
  grind
theorem Zr7(l:List Zi)(hl:l.length<=1048576:=by omega):Zai l=some (rsB (-1) l,()):=by
 have e:Zpt l l (l.length:Int) 0=Zew l 0:=rfl;rw[<-Zes l hl,Zai,Vz,e]
 grind[Z6u,Zew]
theorem Qoe(l:List Zi)(hl:l.length<=1048576):∀(N i:Nat)(n:Int),l.length-i<N->i<=l.length->rsB (-1) l=true->Zf5 N n l (l.length:Int) (i:Int)=J6 N l n (i:Int)
 |0,_,_,h,_,_=>by omega
 |N+1,i,n,d,e,a=>by
  rw[Zf5,J6];by_cases b:i<l.length
  ·rw[Zm (Zl),Zm (Zl),Zb,Zb];have c:IntKind.i64.wrap (n+IntKind.i64.wrap ((l.getD (i:Int).toNat Zz).2.1- (l.getD (i:Int).toNat Zz).1))=IntKind.i64.wrap (IntKind.i64.wrap (n+(l.getD (i:Int).toNat Zz).2.1)- (l.getD (i:Int).toNat Zz).1):=by
    grind[IntKind.wrap,IntKind.bits]
   rw[c,Zr b,Qoe l hl N (i+1) _ (by omega) (by omega) a];simp_all[Zb]
  grind
theorem Zxo(l:List Zi)(hl:l.length<=1048576:=by omega):Zc9 l=some (if rsB (-1) l=true then Zc1 l else-1,()):=by
 rw[<-Zh1 l hl,Zc9,Za8,Zr7 l hl,Zes l hl,Obs,Obs];cases hr:rsB (-1) l
 ·rfl
 ·exact Qoe l hl _ 0 0 (by simp[Zkc]) (by omega) hr
theorem Zuo(l:List Zi)(hl:l.length<=1048576:=by omega):Zaj l=some (l,()):=by
 grind[Zaj,Zb,Qd]
theorem Qj4:∀(N:Nat)(pre rest:List Zi)(r:Zi)(out:List Zi),(pre++rest).length<=1048576->rest.length<N->out.length<=pre.length+1->r.1<r.2.1->(∀x∈rest,r.2.1<x.1/\x.1<x.2.1)->
  Kv N r out true (pre++rest) ((pre++rest).length:Int) (pre.length:Int)=some (out++rest,())
 |0,_,_,_,_,_,h,_,_,_=>by omega
 |N+1,pre,[],r,out,d,b,e,c,hx=>by
  simp_all[Kv]
 |N+1,pre,x::rest,r,out,d,b,e,c,hx=>by
  have a:(pre++x::rest).length=pre.length+rest.length+1:=by simp;omega
  simp only[List.length_cons]at b;have f:=hx x (by simp);unfold Kv;rw[Zm (Zl (by rw[a];omega)),Zb (by rw[a];omega),Zhp,Zo (Zn),Zm (Zl),Zo (by rfl)];unfold Zm3;rw[Zb (by grind[Qd]),Zr (m:=pre.length+1)];have i:=Qj4 N (pre++[x]) rest r (out++[x]) (by simp;omega) (by omega) (by simp;omega) c (λy g=>hx y (by simp[g]));simp_all
theorem Qhm:∀(N:Nat)(pre rest:List Zi)(r:Zi)(out:List Zi)(lo:Int),(pre++rest).length<=1048576->rest.length<N->out.length<=pre.length->r.1<r.2.1->rsB lo rest=true->
  Kv N r out false (pre++rest) ((pre++rest).length:Int) (pre.length:Int)=some (out++Zk4 rest r,())
 |0,_,_,_,_,_,_,h,_,_,_=>by omega
 |N+1,pre,[],r,out,lo,d,e,k,c,hx=>by
  simp only[List.append_nil]at d;unfold Kv;rw[Zo (by simp),Zm (by rfl),Zb (by grind[Qd])];rfl
 |N+1,pre,x::rest,r,out,lo,d,e,k,c,hx=>by
  have b:(pre++x::rest).length=pre.length+rest.length+1:=by simp;omega
  simp only[List.length_cons]at e;obtain⟨f,l,a⟩:=Zeu.1 hx;have f:=Q5.1 f;unfold Kv;rw[Zm (Zl (by rw[b];omega)),Zb (by rw[b];omega),Zhp];have o:(pre++[x])++rest=pre++x::rest:=by simp
  have p:((pre++[x]).length:Int)=((pre.length+1:Nat):Int):=by simp
  rw[Zr (m:=pre.length+1)];by_cases g:x.2.1<r.1
  ·rw[Zm (Zl g),Zb (by grind[Qd])];have i:=Qhm N (pre++[x]) rest r (out++[x]) x.2.1 (by simp;omega) (by omega) (by simp;omega) c a;simp_all[Zk4]
  ·rw[Zo (Zn g)];by_cases j:x.1>r.2.1
   ·rw[Zm (Zl j),Zm (by rfl),Zb (by grind[Qd])];unfold Zm3;rw[Zb (by grind[Qd]),Zr (m:=pre.length+1)];have n:=Zqe a;have i:=Qj4 N (pre++[x]) rest r (out++[r]++[x]) (by simp;omega) (by omega) (by simp;omega) c (λy q=>by
     grind[Q5])
    simp_all[Zk4,if_neg]
   ·rw[Zo (Zn j)];have i:=Qhm N (pre++[x]) rest (min r.1 x.1,max r.2.1 x.2.1,()) out x.2.1 (by simp;omega) (by omega) (by simp;omega) (by simp only;omega) a;simp_all[Zk4,if_neg]
theorem Qq0(l:List Zi)(r:Zi)(hl:l.length<=1048576:=by omega):Zs4 l r=some (if rsB (-1) l=true/\Zf9 r=true then Zk4 l r else l,()):=by
 unfold Zs4;rw[Zr7 l hl,Obs,Qeb,Zuo l hl];cases hr:rsB (-1) l
 ·rfl
 ·cases a:Zf9 r
  ·rfl
  ·have a:=Q5.1 a;rw[if_pos ⟨rfl,rfl⟩];have h:=Qhm (Zjx r [] false l (l.length:Int) 0) [] l r [] (-1) (by simpa using hl) (by simp[Zjx]) (by simp) a.2.1 hr;exact h
theorem Q6n(l:List Zi)(hl:l.length<=1048576):∀(N i:Nat)(n:Int),l.length-i<N->i<=l.length->Zir N n l (l.length:Int) (i:Int)=Zaq N l n (i:Int)
 |0,_,_,h,_=>by omega
 |N+1,i,n,c,d=>by
  rw[Zir,Zaq];by_cases b:i<l.length
  ·have a:=λn=>Q6n l hl N (i+1) n (by omega) (by omega);rw[Zm (Zl),Zm (Zl),Zb,Zb,Zr b,a,a]
   grind[Zb,Znx,Zr]
  grind
theorem Q3h(l:List Zi)(f:Int)(hl:l.length<=1048576):Zxp l f=some (if rsB (-1) l=true/\0<=f then Qe7 l f else-1,()):=by
 rw[<-Qe3 l f hl,Zxp,Zma,Zr7 l hl,Zes l hl,Obs,Obs];cases (!rsB (-1) l)||decide (f<0)
 ·exact Q6n l hl _ 0 f (by simp[Zps]) (by omega)
 ·rfl
def Qkc(l:List Int):Bool:=l.all λn=>decide (n>=0)&&decide (n<=255)
theorem Q76(r:Xu)(hl:r.2.2.2.1.length<=1048576):∀(N i:Nat),r.2.2.2.1.length-i<N->i<=r.2.2.2.1.length->Zjs N r (i:Int)=some (Qkc (r.2.2.2.1.drop i),())
 |0,_,h,_=>by omega
 |N+1,i,b,c=>by
  rw[Zjs];by_cases a:i<r.2.2.2.1.length
  ·rw[Zm (Zl),Zb,Z2j,Obs,Zr a,Q76 r hl N (i+1) (by omega) (by omega),show(i:Int).toNat=i from rfl,Xh (d:=0) a]
   grind[Qkc]
  ·rw[Zo (Zn),List.drop_eq_nil_of_le (by omega)];rfl
theorem Zel(n a b:Int):Z0 n a b=some (decide (n>=a)&&decide (n<=b),()):=rfl
theorem Q2c(l:List Int)(hl:l.length<=1048576)(u:Unit):∀(N i:Nat),l.length-i<N->i<=l.length-> ∃k,X6 N l u (l.length:Int) (i:Int)=some (k,())/\decide (k>=0)= !Qkc (l.drop i)
 |0,_,h,_=>by omega
 |N+1,i,f,g=>by
  rw[X6];by_cases a:i<l.length
  ·have e:Z3m (l.getD i 0)=some (!(decide (l.getD i 0>=0)&&decide (l.getD i 0<=255)),()):=rfl;rw[Zm (Zl),Zb,show(i:Int).toNat=i from rfl,e,Obs,Zr a,Xh (d:=0) a];obtain⟨k,b,c⟩:=Q2c l hl () N (i+1) (by omega) (by omega);cases hc:decide (l.getD i 0>=0)&&decide (l.getD i 0<=255)
   ·exact⟨_,rfl,by grind[Qkc]⟩
   ·exact⟨k,b,by rw[c];simp only[Qkc,List.all_cons,hc,Ota]⟩
  simp_all[Zn,List.drop_eq_nil_of_le,Qkc]
theorem Q1k(r:Xu)(hl:r.2.2.2.1.length<=1048576):Zur r=Zba r:=by
 unfold Zur Zba Vl Zkn Vt Wx;obtain⟨k,a,b⟩:=Q2c r.2.2.2.1 hl () (Yf r.2.2.2.1 () (r.2.2.2.1.length:Int) 0) 0 (by simp[Yf]) (by omega);have c:=Q76 r hl (Za6 r 0) 0 (by simp[Za6]) (by omega);simp only[Int.natCast_zero,List.drop_zero]at a b c;have e:Xg r.2.1=some (decide (r.2.1>=0)&&decide (r.2.1<=4611686018427387903),()):=rfl;simp only[a,b,c,Zel,e,Obs];have d:decide (r.1>=1)=decide (r.1>0):=by congr 1
 rw[d];generalize f:((decide (r.1>0)&&decide (r.1<=64))&&(bits .and .i64 r.1 (IntKind.i64.wrap (r.1-1))==0))=A;generalize ((r.2.2.2.1.length:Int) !=r.1)=B;cases A
 ·rfl
 cases B
 ·simp only[Ont,Bool.or_self,Ocf,Obs,Bool.false_or];simp only[Oba,decide_eq_true_eq]at f;generalize Qkc r.2.2.2.1=C;by_cases g:0<=r.2.1/\r.2.1<=r.2.2.1/\r.2.2.1<=4611686018427387903
  ·obtain⟨i,h,j⟩:=g;rw[Zs (n:=r.2.2.1-r.2.1),Zs (n:=r.2.1+r.1),Zl (p:=r.2.1>=0),Zl (p:=r.2.1<=4611686018427387903),Zn (p:=r.2.1<0),Zn (p:=r.2.2.1<r.2.1),Zn (p:=r.2.2.1>4611686018427387903),Zl (p:=r.2.2.1>=r.2.1) h]
   grind
  ·have l:((((decide (r.2.1<0))||(decide (r.2.2.1<r.2.1)))||(decide ((IntKind.i64.wrap (r.2.2.1-r.2.1))>r.1)))||(decide (r.2.2.1>4611686018427387903)))=true:=by
    grind
   have m:((decide (r.2.1>=0)&&decide (r.2.1<=4611686018427387903))&&(decide (r.2.2.1>=r.2.1)&&decide (r.2.2.1<=min (IntKind.i64.wrap (r.2.1+r.1)) 4611686018427387903)))=false:=by
    grind
   grind
 ·rfl
def hiB(S:Int)(l:List Zi):Bool:=l.all λx=>decide (x.2.1<=S)
noncomputable def stF(s:Zp):Int:=match Zdq s with|some (k,_)=>k|none=>0
theorem Quo(s:Zp):Zdq s=some (stF s,()):=by
 obtain⟨k,e⟩:=Qfk s
 grind[stF]
theorem Qe5(s:Zp)(h0:0<=s.2.2.2.2.2.2.1)(h3:s.2.2.2.2.2.2.1<=3):Zq1 s=some (stF s,()):=by
 rw[<-Quo];unfold Zq1 Zdq
 grind
def Qn1(s:Zp):Bool:= !((!((s.2.2.2.2.2.2.1==(0:Int))==(s.2.2.2.2.2.1==(-1:Int))))||((s.2.2.2.2.2.1 !=(-1:Int))&&(s.2.2.2.2.2.1 !=s.2.1.2.2.1)))
theorem Xi2(s:Zp)(hl:s.2.2.2.2.1.length<=1048576):∀(N i:Nat),s.2.2.2.2.1.length-i<N->i<=s.2.2.2.2.1.length->Zfi N s (i:Int)=some (hiB s.2.2.2.2.2.2.2.1 (s.2.2.2.2.1.drop i)&&(Qn1 s&&(s.1==stF s)),())
 |0,_,h,_=>by omega
 |N+1,i,b,e=>by
  rw[Zfi];by_cases a:i<s.2.2.2.2.1.length
  ·rw[Zm (Zl),Zb,Zr a,Xi2 s hl N (i+1) (by omega) (by omega),show(i:Int).toNat=i from rfl,Xh (d:=Zz) a]
   grind[hiB]
  ·rw[Zo (Zn),List.drop_eq_nil_of_le (by omega),Quo,Obs];unfold Qn1;generalize ((!((s.2.2.2.2.2.2.1==(0:Int))==(s.2.2.2.2.2.1==(-1:Int))))||((s.2.2.2.2.2.1 !=(-1:Int))&&(s.2.2.2.2.2.1 !=s.2.1.2.2.1)))=c;cases c<;>rfl
theorem Xi1(s:Zp)(hl:s.2.2.2.1.length<=1048576)(hl2:s.2.2.2.2.1.length<=1048576):∀(N i:Nat),s.2.2.2.1.length-i<N->i<=s.2.2.2.1.length->Zfh N s (i:Int)=some (hiB s.2.2.2.2.2.2.2.1 (s.2.2.2.1.drop i)&&(hiB s.2.2.2.2.2.2.2.1 s.2.2.2.2.1&&(Qn1 s&&(s.1==stF s))),())
 |0,_,h,_=>by omega
 |N+1,i,b,c=>by
  rw[Zfh];by_cases a:i<s.2.2.2.1.length
  ·rw[Zm (Zl),Zb,Zr a,Xi1 s hl hl2 N (i+1) (by omega) (by omega),show(i:Int).toNat=i from rfl,Xh (d:=Zz) a]
   grind[hiB]
  ·rw[Zo (Zn),List.drop_eq_nil_of_le (by omega)];exact Xi2 s hl2 _ 0 (by simp[Zj6]) (by omega)
def Xgv(a:List Zi)(r:Zi):List Zi:=if rsB (-1) a=true/\Zf9 r=true then Zk4 a r else a
def Zvf(a l:List Zi):List Zi:=l.foldl Xgv a
theorem Qht{E:Int}:∀{l:List Zi}{lo:Int},rsB lo l=true->(∀x∈l,x.2.1<=E)->l≠[]->Zc1 l<=E-lo-1
 |[],_,_,_,h=>absurd rfl h
 |x::l,lo,h,a,_=>by
  obtain⟨d,e,b⟩:=Zeu.1 h;have hx:=a x (by simp);simp only[Zc1];rcases l with _|⟨y,l⟩
  ·grind[Zc1]
  ·have:=Qht b (λz c=>a z (by simp[c])) (by simp);omega
theorem Q29{E:Int}{l:List Zi}(h:RL E l)(hc:Zc1 l=E)(h0:0<E):(l.getD 0 Zz).2.1=E:=by
 obtain⟨c,a⟩:=h;rcases l with _|⟨x,l⟩
 ·simp_all[Zc1]
 ·obtain⟨b,f,d⟩:=Zeu.1 c;have hx:=a x (by simp);have b:=Q5.1 b;simp only[Zc1]at hc;rcases l with _|⟨y,l⟩
  ·grind[Zc1]
  ·have:=Qht d (λz e=>a z (by simp[e])) (by simp);omega
theorem Qhu{E:Int}{l:List Zi}(h:RL E l)(h0:0<=E):0<=Zc1 l/\Zc1 l<=E:=by
 have:∀{l:List Zi}{lo:Int},rsB lo l=true->0<=Zc1 l:=by
  intro l
  induction l with
  |nil=>simp_all[Zc1]
  |cons x l a=>
   grind[Zeu,Q5,Zc1]
 refine⟨this h.1,?_⟩;rcases hl:l with _|⟨x,b⟩
 ·simp_all[Zc1]
 ·have:=Qht h.1 h.2 (by rw[hl];simp);simp_all
def Qeh(s:Zp)(all:List Zi):Bool:=(Zc1 all==s.2.1.2.2.1)&&(Zc1 s.2.2.1+Zc1 s.2.2.2.1+Zc1 s.2.2.2.2.1==s.2.1.2.2.1)
theorem Xi0{K:Int}{s:Zp}(hs:Zbd K s)(hK:K<=1000000):∀(N i:Nat)(all:List Zi),RL (Q8a s) all->s.2.2.2.2.1.length-i<N->i<=s.2.2.2.2.1.length->
  Zfg N s all (i:Int)=some (Qeh s (Zvf all (s.2.2.2.2.1.drop i))&&((Qe7 s.2.2.2.2.1 0==s.2.1.2.1)&&((s.2.2.2.2.2.2.2.2.1==0)&&(hiB s.2.2.2.2.2.2.2.1 s.2.2.2.1&&(hiB s.2.2.2.2.2.2.2.1 s.2.2.2.2.1&&(Qn1 s&&(s.1==stF s)))))),())
 |0,_,_,_,h,_=>by omega
 |N+1,i,all,a,l,m=>by
  have o:=Q4 a hs.e0 hs.eK hK;have p:=Q4 hs.pend hs.e0 hs.eK hK;have q:=Q4 hs.flight hs.e0 hs.eK hK;have r:=Q4 hs.acked hs.e0 hs.eK hK;rw[Zfg];by_cases h:i<s.2.2.2.2.1.length
  ·rw[Zm (Zl),Zb,Zr h,Zqn _ _,Obs,Xh (d:=Zz) h];exact Xi0 hs hK N (i+1) _ (Z3e a (hs.acked.2 _ (Z5 h))) (by omega) (by omega)
  ·have t:=Qhu hs.pend hs.e0;have u:=Qhu hs.flight hs.e0;have v:=Qhu hs.acked hs.e0;have c:=hs.eK;rw[Zo (Zn),Zh1 _,Zh1 _,Zh1 _,Zh1 _,Qe3 _ _,List.drop_eq_nil_of_le (by omega)];simp only[Obs,a.1,hs.pend.1,hs.flight.1,hs.acked.1,if_true];rw[Zb (λe f=>by
    simp only[Bool.or_eq_false_iff,bne_eq_false_iff_eq,decide_eq_true_eq]at e f
    grind[Qvd]),Zs (n:=Zc1 s.2.2.1+Zc1 s.2.2.2.1),Zs,show Zvf all []=all from rfl]
   have b:=Xi1 s (by omega) (by omega) (Zey s 0) 0 (by simp[Zey]) (by omega);simp only[Int.natCast_zero,List.drop_zero]at b;rw[b];unfold Qeh;generalize (hiB s.2.2.2.2.2.2.2.1 s.2.2.2.1&&(hiB s.2.2.2.2.2.2.2.1 s.2.2.2.2.1&&(Qn1 s&&(s.1==stF s))))=R;have g:(if True/\(0:Int)<=0 then Qe7 s.2.2.2.2.1 0 else-1)=Qe7 s.2.2.2.2.1 0:=by simp
   rw[g];by_cases j:Zc1 all=s.2.1.2.2.1
   ·by_cases w:Zc1 s.2.2.1+Zc1 s.2.2.2.1+Zc1 s.2.2.2.2.1=s.2.1.2.2.1
    ·have x:((decide (s.2.1.2.2.1>0))&&((all.getD (0:Int).toNat Zz).2.1 !=s.2.1.2.2.1))=false:=by
      by_cases k:0<s.2.1.2.2.1
      ·have:=Q29 a j k;simp_all
      grind
     grind
    grind
   grind
theorem Xfj{K:Int}{s:Zp}(hs:Zbd K s)(hK:K<=1000000):∀(N i:Nat)(all:List Zi),RL (Q8a s) all->s.2.2.2.1.length-i<N->i<=s.2.2.2.1.length->
  Zff N s all (i:Int)=some (Qeh s (Zvf (Zvf all (s.2.2.2.1.drop i)) s.2.2.2.2.1)&&((Qe7 s.2.2.2.2.1 0==s.2.1.2.1)&&((s.2.2.2.2.2.2.2.2.1==0)&&(hiB s.2.2.2.2.2.2.2.1 s.2.2.2.1&&(hiB s.2.2.2.2.2.2.2.1 s.2.2.2.2.1&&(Qn1 s&&(s.1==stF s)))))),())
 |0,_,_,_,h,_=>by omega
 |N+1,i,all,a,b,c=>by
  have e:=Q4 a hs.e0 hs.eK hK;have f:=Q4 hs.flight hs.e0 hs.eK hK;rw[Zff];by_cases h:i<s.2.2.2.1.length
  ·rw[Zm (Zl),Zb,Zr h,Zqn _ _,Obs,Xh (d:=Zz) h];exact Xfj hs hK N (i+1) _ (Z3e a (hs.flight.2 _ (Z5 h))) (by omega) (by omega)
  ·rw[Zo (Zn),List.drop_eq_nil_of_le (by omega)];have:=Xi0 hs hK (Zex s all 0) 0 all a (by simp[Zex]) (by omega);simp only[Int.natCast_zero,List.drop_zero]at this;exact this
theorem Q2v{K:Int}{s:Zp}(hs:Zbd K s)(hK:K<=1000000)(t:List Zi)(ht:t.length<=3000000)(hE:∀x∈t,x.2.1<=s.2.1.2.2.1):∀(N i:Nat)(all:List Zi),RL (Q8a s) all->t.length-i<N->i<=t.length->
  Zne N s.2.1.2.2.1 all t (t.length:Int) (i:Int)=some (Zc1 (Zvf all (t.drop i))==s.2.1.2.2.1,())
 |0,_,_,_,h,_=>by omega
 |N+1,i,all,a,c,e=>by
  have f:=Q4 a hs.e0 hs.eK hK;rw[Zne];by_cases h:i<t.length
  ·rw[Zm (Zl),Zb,Zr h,Qq0 _ _,Obs,Xh (d:=Zz) h];exact Q2v hs hK t ht hE N (i+1) _ (Z3e a (hE _ (Z5 h))) (by omega) (by omega)
  ·rw[Zo (Zn),List.drop_eq_nil_of_le (by omega),Zxo _];simp only[a.1,if_true,Obs];unfold Zha;rw[Zb (λh=>by
    have:=Ode h
    grind[Zs])]
   have b:((decide ((all.length:Int)>0))&&(decide ((all.getD (IntKind.i64.wrap ((all.length:Int)-1)).toNat Zz).2.1>s.2.1.2.2.1)))=false:=by
    by_cases g:(all.length:Int)>0
    ·rw[Zs];have:=a.2 _ (Z5 (l:=all) (i:=((all.length:Int)-1).toNat) (d:=Zz));simp_all
    simp_all
   rw[b,show Zvf all []=all from rfl];simp_all
theorem Xcl{lo S:Int}:∀{l:List Zi},rsB lo l=true->hiB S l= !((decide ((l.length:Int)>0))&&(decide ((l.getD (l.length-1) Zz).2.1>S)))
 |[],_=>rfl
 |[x],_=>by
  simp only[hiB,List.all_cons,List.all_nil,Bool.and_true,List.length_singleton,Nat.sub_self,List.getD_cons_zero]
  grind
 |x::y::l,h=>by
  obtain⟨c,d,a⟩:=Zeu.1 h;have f:=Xcl (S:=S) a;have b:=Zeu.1 a;have g:=Q5.1 b.1;have e:(x::y::l).getD ((x::y::l).length-1) Zz=(y::l).getD ((y::l).length-1) Zz:=by simp
  rw[e];have i:hiB S (x::y::l)=(decide (x.2.1<=S)&&hiB S (y::l)):=rfl
  grind[hiB]
theorem Qnv{lo:Int}{l:List Zi}(h:rsB lo l=true)(hl:l.length<=1048576)(S:Int):Zha l S=some (!hiB S l,()):=by
 unfold Zha;simp only;rw[Zb (λh=>by
  have:=Ode h
  grind[Zs]),Xcl h (S:=S),Bool.not_not]
 by_cases a:(l.length:Int)>0
 ·rw[Zs,show((l.length:Int)-1).toNat=l.length-1 by omega]
 simp_all
theorem Z94{K:Int}{s:Zp}(hs:Zbd K s)(hK:K<=1000000):Zs5 s=Y5 s:=by
 have l:=Q4 hs.pend hs.e0 hs.eK hK;have m:=Q4 hs.flight hs.e0 hs.eK hK;have o:=Q4 hs.acked hs.e0 hs.eK hK;have d:=(Zw8 s.2.1 (by have:=hs.cells;omega)).1;have p:=Qhu hs.pend hs.e0;have q:=Qhu hs.flight hs.e0;have r:=Qhu hs.acked hs.e0;have e:=hs.eK;have b:=Xfj hs hK (Jn s s.2.2.1 0) 0 s.2.2.1 hs.pend (by simp[Jn]) (by omega);simp only[Int.natCast_zero,List.drop_zero]at b;have g:Zxt s.2.2.1 s.2.2.2.1 s.2.2.2.2.1 s.2.1.2.2.1=some (Qeh s (Zvf (Zvf s.2.2.1 s.2.2.2.1) s.2.2.2.2.1),()):=by
  unfold Zxt;rw[Zxo _,Zxo _,Zxo _,Zuo _,Zuo _];simp only[hs.pend.1,hs.flight.1,hs.acked.1,if_true,Obs];rw[Zs (n:=Zc1 s.2.2.1+Zc1 s.2.2.2.1),Zs,Zb (by grind[Qd])];have:=Q2v hs hK (s.2.2.2.1++s.2.2.2.2.1) (by simp;omega) (λx hx=>by
   rcases List.mem_append.1 hx with hx|hx
   ·exact hs.flight.2 x hx
   ·exact hs.acked.2 x hx) (Zj1 s.2.1.2.2.1 s.2.2.1 (s.2.2.2.1++s.2.2.2.2.1) ((s.2.2.2.1++s.2.2.2.2.1).length:Int) 0) 0 s.2.2.1 hs.pend (by grind[Zj1]) (by omega)
  grind[Qeh,Zvf]
 have c:∀f,0<=s.2.2.2.2.2.2.1->s.2.2.2.2.2.2.1<=3->Zna s f=some (Qeh s (Zvf (Zvf s.2.2.1 s.2.2.2.1) s.2.2.2.2.1)&&((Qe7 s.2.2.2.2.1 0==s.2.1.2.1)&&((s.2.2.2.2.2.2.2.2.1==0)&&(hiB s.2.2.2.2.2.2.2.1 s.2.2.2.1&&(hiB s.2.2.2.2.2.2.2.1 s.2.2.2.2.1&&((s.2.2.2.2.2.1==f)&&(s.1==stF s)))))),()):=λf h i=>by
  unfold Zna;rw[g,Q3h _ _ (by omega),Qnv hs.flight.1 (by omega),Qnv hs.acked.1 (by omega),Qe5 s h i];have t:(if rsB (-1) s.2.2.2.2.1=true/\(0:Int)<=0 then Qe7 s.2.2.2.2.1 0 else-1)=Qe7 s.2.2.2.2.1 0:=if_pos ⟨hs.acked.1,Int.le_refl _⟩
  grind
 unfold Zs5 Y5;rw[Q1k _ (by have:=hs.cells;omega),d,Zes _,Zes _,Zes _,Zr7 _,Zr7 _,Zr7 _,b];have j:Qz s.2.2.2.2.2.2.2.2.1=some (decide (s.2.2.2.2.2.2.2.2.1>=0)&&decide (s.2.2.2.2.2.2.2.2.1<=4611686018427387903),()):=rfl;have k:Xg s.2.2.2.2.2.2.2.2.1=some (decide (s.2.2.2.2.2.2.2.2.1>=0)&&decide (s.2.2.2.2.2.2.2.2.1<=4611686018427387903),()):=rfl;simp only[hs.pend.1,hs.flight.1,hs.acked.1,j,k,Z2j,Zel,Obs];generalize Zuy s.2.1=b1;cases b1
 ·rfl
 simp only[Ont,Ocf,Obs,Bool.false_or];generalize (decide (s.2.2.2.2.2.2.2.1>=0)&&decide (s.2.2.2.2.2.2.2.1<=s.2.1.2.2.1))=b2;cases b2
 ·rfl
 simp only[Ont,Ocf,Obs,Bool.false_or];generalize (decide (s.2.2.2.2.2.2.2.2.1>=0)&&decide (s.2.2.2.2.2.2.2.2.1<=4611686018427387903))=b3;cases b3
 ·rfl
 simp only[Ont,Ocf,Obs,Bool.false_or];by_cases a:0<=s.2.2.2.2.2.2.1/\s.2.2.2.2.2.2.1<=3
 ·rw[c _ a.1 a.2,c _ a.1 a.2,show(decide (s.2.2.2.2.2.2.1>=0)&&decide (s.2.2.2.2.2.2.1<=3))=true by simp_all];simp only[Ont,Ocf];cases (s.1==(4:Int))||(s.1==(5:Int))
  ·simp only[Ocf];have u:=hs.e0;have:Qn1 s=(bif s.2.2.2.2.2.2.1==0 then s.2.2.2.2.2.1== -1 else s.2.2.2.2.2.1==s.2.1.2.2.1):=by
    grind[Qn1]
   grind
  grind
 grind
theorem Q5f(l:List Z6)(hl:l.length<=1048576)(ht:Zkf l<=1000000):∀(N i:Nat)(e:Int),l.length-i<N->i<=l.length-> -1<=e->e<=4611686018427387903->Zm8 N (e+1) l (l.length:Int) (i:Int)=some (ckB e (l.drop i),())
 |0,_,_,h,_,_,_=>by omega
 |N+1,i,e,g,j,k,m=>by
  rw[Zm8];by_cases a:i<l.length
  ·have b:=Z3d (Z5 (l:=l) (d:=Qx) a);rw[Zm (Zl),Zb,Zr a,show(i:Int).toNat=i from rfl,Xh (d:=Qx) a];generalize o:l.getD i Qx=c at b;have f:(((c.2.1.length:Int)==0)||decide (c.1<e+1))=(decide (c.1<=e)||(c.2.1==([]:List UInt8))):=by
    rw[Bool.eq_iff_iff];simp only[Bool.or_eq_true,beq_iff_eq,decide_eq_true_eq]
    grind[List.length_eq_zero_iff]
   simp only[ckB];rw[f,Zs (n:=4611686018427387903- (c.2.1.length:Int))];cases hx:((decide (c.1<=e)||(c.2.1==([]:List UInt8)))||decide (c.1>4611686018427387903- (c.2.1.length:Int)))
   ·simp only[Bool.or_eq_false_iff,decide_eq_false_iff_not]at hx;rw[Ocf];unfold Zf3;rw[Obs];simp only;rw[Zs (n:=c.1+(c.2.1.length:Int)),Zs,Q5f l hl ht N (i+1) (c.1+(c.2.1.length:Int)) (by omega) (by omega) (by omega) (by omega)];simp
   ·rfl
  ·rw[Zo (Zn),List.drop_eq_nil_of_le (by omega)];rfl
theorem Z5w(n:Int):Xg n=some (Zd5 n,()):=rfl
theorem Z92{K:Nat}{b:Zv}(h:Zhn K b)(hK:K<=1000000):Zl3 b=some (Zoz b,()):=by
 have c:=h.len;have d:=h.tot;unfold Zl3 Zoz;rw[Z5w,Obs];cases a:Zd5 b.1
 ·simp
 ·have a:=Km.1 a;rw[Zs (n:=b.1-1)];have:=Q5f b.2.1 (by omega) (by omega) (Zj0 b.1 b.2.1 (b.2.1.length:Int) 0) 0 (b.1-1) (by simp[Zj0]) (by omega) (by omega) (by omega);simp_all
theorem Xd1{K:Nat}{b:Zv}(h:Zhn K b)(hK:K<=1000000):Z5s b=Zri b:=by
 have a:=h.len;unfold Z5s Zri;rw[Z92 h hK,Zjh b,Obs];cases hz:((b.2.1.length:Int)==0)
 ·cases Zoz b
  ·rfl
  ·rfl
 simp_all
theorem Qky{K:Nat}{b:Zv}(h:Zhn K b)(hK:K<=1000000):Ztp b=Zd8 b:=by
 have a:=h.len
 grind[Ztp,Zd8,Z92,Zjh]
theorem Zyl{K:Nat}{r:Zx}(h:Zhn K r.2.1)(hK:K<=1000000:=by omega):Zd2 r=Xq r:=by
 have i:=h.len;obtain⟨v,hv⟩:=Q55 h hK;unfold Zd2 Xq Zta;rw[Z92 h hK,Zjh _,Xd1 h hK,hv,Qky h hK,Zrb _];simp only[Z5w,Kz,Zel,Obs];generalize Zoz r.2.1=b1;cases b1
 ·simp_all
 simp only[Ont,Ocf,Obs,Bool.false_or];cases c:Zd5 r.2.2.2.1
 ·simp_all
 have c:=Km.1 c;simp only[Ont,Ocf,Obs,Bool.false_or];by_cases d:v>r.2.2.2.1
 ·simp_all
 rw[Zn d];simp only[Ocf,Obs,Bool.false_or];cases hc:Zd5 r.2.2.2.2.1
 ·simp_all
 simp only[Ont,Ocf,Obs,Bool.false_or];have e:((r.2.2.1 != -1)&&(!(decide (r.2.2.1>=r.2.2.2.1)&&decide (r.2.2.1<=4611686018427387903))))=((((r.2.2.1 != -1)&&(decide (r.2.2.1<r.2.2.2.1)))||(decide (r.2.2.1>4611686018427387903)))||(decide (r.2.2.1< -1))):=by
  grind
 by_cases a:r.2.2.1= -1
 ·rw[a];have f:((-1:Int)==r.2.2.2.1)=false:=by grind
  have j:∀b,Zb2 r b=Ke r b:=λb=>by
   unfold Zb2 Ke;rw[a,f];rfl
  grind
 ·have g:(r.2.2.1 != -1)=true:=by simpa using a
  rw[g]at e⊢;simp only[Oct,Obs,Ota]at e⊢;rw[e];have j:∀b,Zb2 r b=Ke r b:=λb=>by
   unfold Zb2 Ke
   grind
  grind
theorem Z93(c:Xy):Zc4 c=Kp c:=rfl
theorem Z4k(w:Qg):Zif w=V0 w:=rfl
theorem Qwa(p:X8):Zo1 p=Zbs p:=rfl
theorem bO{β:Type}{c b:Bool}{f:Bool×Unit->Option β}:Option.bind (bif c then some (false,())else some (b,())) f=f (!c&&b,()):=by cases c<;>rfl
theorem bO2{c b:Bool}:(c|| !(!c&&b))=(c|| !b):=by cases c<;>rfl
theorem bA{β:Type}{c b:Bool}{f:Bool×Unit->Option β}:Option.bind (bif c then some (b,())else some (false,())) f=f (c&&b,()):=by cases c<;>rfl
theorem bA2{c b:Bool}:(c&&(c&&b))=(c&&b):=by cases c<;>rfl
theorem Qh5{K:Nat}{s:Zg}(h:Xl K s)(hK:K<=1000000):Zs6 s=Zbl s:=by
 obtain⟨f,a,-⟩:=Zkq h.snd;obtain⟨g,b⟩:=Zo5 s.2.2.1;obtain⟨i,c⟩:=Zol h.rcv hK;obtain⟨j,d⟩:=Zv2 s.2.2.2.2.1;obtain⟨k,e⟩:=Z0y s.2.2.2.2.2.1;unfold Zs6 Zbl;simp only[Z94 h.snd (by omega),Zyl h.rcv hK,Z93,Z4k,Qwa,a,b,c,d,e,Kz,Z5w,Obs,bO,bO2]
 grind
theorem Q1i(c:Zic):Zqy c=Za9 c:=by
 unfold Zqy Za9 Zkn Vl;have a:decide (c.1>=1)=decide (c.1>0):=by congr 1
 simp only[Zel,Z2j,Obs,bA,bA2,a];congr 2
 ac_rfl
theorem Qv9(c:Ze2):Zvn c=Zf0 c:=rfl
theorem Qoi(c:Xy):Zoj c=Zas c:=rfl
theorem Qm1{K:Nat}{l:List Zg}(h:Zg7 K l)(hK:K<=1000000)(h24:l.length<=24):∀(N i:Nat),l.length-i<N->i<=l.length->Zbz N l l (l.length:Int) (i:Int)=Kc N l (i:Int)
 |0,_,h,_=>by omega
 |N+1,i,j,k=>by
  rw[Zbz,Kc];by_cases c:i<l.length
  ·have g:∀{a:Prop},a->decide ((i:Int)>0)=true->0<=IntKind.i64.wrap ((i:Int)-1)/\IntKind.i64.wrap ((i:Int)-1)<(l.length:Int):=λ_ h=>by
    have:=Ode h;grind[Zs]
   obtain⟨b,e⟩:=Z8c (h.all _ (Z5 (d:=Zj) c)) hK;rw[Zm (Zl (p:=(i:Int)<(l.length:Int))),Zm (Zl (p:=(i:Int)<(l.length:Int))),Zb,Zb,show(i:Int).toNat=i from rfl,Qh5 (h.all _ (Z5 (d:=Zj) c)) hK,Zn (p:=(i:Int)>=24),Ocf,e,Obs,Obs];simp only[Bool.false_or];rw[Zb (λh f=>g h f),Zb (λh f=>g h f),Zb (λ_ _=>by omega),Zr c,Qm1 h hK h24 N (i+1) (by omega) (by omega)]
  grind
theorem Qu2{K:Nat}{l:List Zg}(h:Zg7 K l)(hK:K<=1000000)(h24:24<l.length):∀(N i:Nat),24-i<N->i<=24->Zbz N l l (l.length:Int) (i:Int)=some (false,())
 |0,_,h,_=>by omega
 |N+1,i,j,k=>by
  have m:=h.len;rw[Zbz,Zm (Zl),Zb];have c:i<l.length:=by omega
  have g:∀{a:Prop},a->decide ((i:Int)>0)=true->0<=IntKind.i64.wrap ((i:Int)-1)/\IntKind.i64.wrap ((i:Int)-1)<(l.length:Int):=λ_ h=>by
   have:=Ode h;grind[Zs]
  by_cases n:i=24
  ·simp_all[Zb]
  ·obtain⟨b,e⟩:=Z8c (h.all _ (Z5 (d:=Zj) c)) hK;rw[show(i:Int).toNat=i from rfl,Zn (p:=(i:Int)>=24),Ocf,Qh5 (h.all _ (Z5 (d:=Zj) c)) hK,e,Obs,Zr c,Qu2 h hK h24 N (i+1) (by omega) (by omega)];simp only[Bool.false_or];rw[Zb (λh f=>g h f)];simp_all
theorem Z7k{K:Nat}{l:List Zg}(h:Zg7 K l)(hK:K<=1000000):Zg9 l=Jt l:=by
 by_cases a:l.length<=24
 ·unfold Zg9 Jt;exact Qm1 h hK a _ 0 (by simp[Zgq]) (by omega)
 ·obtain⟨⟨b,u⟩,e,c⟩:=Qj8 h hK;have:b=false:=by
   grind
  grind[Zg9,Qu2,Zgq]
theorem Qzx{K:Nat}{l:List Zg}(h:Zg7 K l)(hK:K<=1000000):Zvy l=Zgi l:=by
 obtain⟨b,e⟩:=Zw1 h hK;have g:=h.len;have a:b=true-> ∀(N i:Nat)(n:Int),l.length-i<N->i<=l.length-> ∃v,Jw N () n l (l.length:Int) (i:Int)=some (v,())/\J2 N l n (i:Int)=some (v,()):=by
  intro c N
  induction N with
  |zero=>omega
  |succ N d=>
   intro i n j k;rw[Jw,J2,e,c];by_cases f:i<l.length
   ·rw[Zl,Oct,Oct,Obs,Zb];simp only[Bool.and_self,Oct];rw[Zb,Zr f];exact d (i+1) _ (by omega) (by omega)
   simp_all[Zn]
 unfold Zvy Zh7 Zgi;rw[Z7k h hK,e];cases b
 ·simp_all[Ja,J2]
 ·obtain⟨v,m,o⟩:=a rfl (Ja l 0 0) 0 0 (by simp[Ja]) (by omega);simp_all[Zbj,Ja]
theorem Qzw{K:Nat}{l:List Zg}(h:Zg7 K l)(hK:K<=1000000):Zvv l=Zgh l:=by
 obtain⟨b,e⟩:=Zw1 h hK;have g:=h.len;have a:b=true-> ∀(N i:Nat)(n:Int),l.length-i<N->i<=l.length-> ∃v,Jv N () n l (l.length:Int) (i:Int)=some (v,())/\J1 N l n (i:Int)=some (v,()):=by
  intro c N
  induction N with
  |zero=>omega
  |succ N d=>
   intro i n j k;rw[Jv,J1,e,c];by_cases f:i<l.length
   ·rw[Zl,Oct,Oct,Obs,Zb];simp only[Bool.and_self,Oct];rw[Zb,Zr f];exact d (i+1) _ (by omega) (by omega)
   simp_all[Zn]
 unfold Zvv Zh6 Zgh;rw[Z7k h hK,e];cases b
 ·simp_all[K9,J1]
 ·obtain⟨v,m,o⟩:=a rfl (K9 l 0 0) 0 0 (by simp[K9]) (by omega);simp_all[Zbi,K9]
theorem Qrb{l:List Zf}(h:Qek l)(u:Unit):∀(N i:Nat),l.length-i<N->i<=l.length-> ∃k b,Qw N l u (l.length:Int) (i:Int)=some (k,())/\decide (k>=0)= !b/\Wj N l (i:Int)=some (b,())
 |0,_,h,_=>by omega
 |N+1,i,e,f=>by
  have g:=h.1;rw[Qw,Wj];by_cases a:i<l.length
  ·have c:=h.2 _ (Z5 (d:=Qk) a);unfold FOK at c;unfold Zvz;rw[Zm (Zl),Zm (Zl),Zb,Zb,show(i:Int).toNat=i from rfl,Zz4 _,Zwo _,Obs,Obs,Obs,Zr a];obtain⟨k,b,j,m,n⟩:=Qrb h () N (i+1) (by omega) (by omega)
   grind
  simp_all[Zn]
theorem Q92{l:List Zf}(h:Qek l):∃b,Xa l=some (!b,())/\Zgj l=some (b,()):=by
 unfold Xa Yg Zgj;obtain⟨k,b,a,c,d⟩:=Qrb h () (Vi l 0) 0 (by simp[Vi]) (by omega);simp_all[Xo,Vi]
theorem Zv1{K:Nat}{c:Zc}(h:Z4 K c)(hK:K<=1000000:=by omega):Zce c=X9 c:=by
 obtain⟨z,l⟩:=Qjn h.str hK;obtain⟨A,m⟩:=Qjm h.str hK;have W:=h.pk.1;obtain⟨n,o⟩:∃r,Z8 c.2.2.2.2.2.2.2.2.2.2.2.2.2.1 (-1) 4611686018427387903=some (r,()):=⟨_,rfl⟩
 obtain⟨s,t⟩:∃r,Z8 c.2.2.2.2.2.2.2.2.2.2.2.2.2.2.1 0 1000000=some (r,()):=⟨_,rfl⟩
 obtain⟨u,v⟩:∃r,Z8 c.2.2.2.2.2.2.2.2.2.2.2.2.2.2.2.2.1 0 1000000=some (r,()):=⟨_,rfl⟩
 obtain⟨w,x⟩:∃r,Z8 c.2.2.2.2.2.2.2.2.2.2.2.2.2.2.2.2.2.1 0 255=some (r,()):=⟨_,rfl⟩
 have B:Z0 c.2.2.2.2.2.2.2.2.2.2.2.2.2.1 (-1) 4611686018427387903=some (n,()):=o;have C:Z0 c.2.2.2.2.2.2.2.2.2.2.2.2.2.2.1 0 1000000=some (s,()):=t;have D:Z0 c.2.2.2.2.2.2.2.2.2.2.2.2.2.2.2.2.1 0 1000000=some (u,()):=v;have E:Z0 c.2.2.2.2.2.2.2.2.2.2.2.2.2.2.2.2.2.1 0 255=some (w,()):=x;have F:∀(N i:Nat),c.2.2.2.2.2.2.2.2.2.2.2.2.2.2.2.1.length-i<N->i<=c.2.2.2.2.2.2.2.2.2.2.2.2.2.2.2.1.length-> ∃p,Zjf N c.2.2.2.2.2.2.2.2.2.2.2.2.2.2.2.1 c.2.2.2.2.2.2.2.2.2.2.2.2.2.2.1 c.2.2.2.2.2.2.2.2.2.2.2.2.2.2.2.1 (c.2.2.2.2.2.2.2.2.2.2.2.2.2.2.2.1.length:Int) (i:Int)=some (p,())/\
   Zac N c (i:Int)=some (p&&(((((n&&s)&&u)&&w)&&decide (z<=c.2.2.2.2.1.2.1))&&decide (A<=c.2.2.2.2.2.1.2.2.2.1)),()):=by
  intro N
  induction N with
  |zero=>intro i h;omega
  |succ N G=>
   intro i X Y;rw[Zjf,Zac];by_cases y:i<c.2.2.2.2.2.2.2.2.2.2.2.2.2.2.2.1.length
   ·have g:∀{a:Prop},a->decide ((i:Int)>0)=true->0<=IntKind.i64.wrap ((i:Int)-1)/\IntKind.i64.wrap ((i:Int)-1)<(c.2.2.2.2.2.2.2.2.2.2.2.2.2.2.2.1.length:Int):=λ_ h=>by
     have:=Ode h;grind[Zs]
    obtain⟨b,H,I⟩:=Q92 (h.pk.2 _ (Z5 (d:=Q6) y));rw[Zm (Zl),Zm (Zl),Zb,Zb,show(i:Int).toNat=i from rfl,Zel,Z2j,H,I,Obs,Obs,Zb (λh j=>g h j),Zb (λ_ _=>by omega),Zb (λh j=>g h j)];simp only;rw[Zb (λ_=>by omega),Zr y];obtain⟨p,e,f⟩:=G (i+1) (by omega) (by omega);rw[e,f];generalize (!(_&&_)||_:Bool)=q;cases q
    ·cases b
     all_goals simp
    simp_all
   ·rw[Zo (Zn),Zo (Zn)];refine⟨true,rfl,?_⟩;simp only[o,t,v,x,Obs,bA,bA2,l,m,Ota]
    grind
 obtain⟨p,e,f⟩:=F (Js c 0) 0 (by simp[Js]) (by omega);have J:Znd c.2.2.2.2.2.2.2.2.2.2.2.2.2.2.2.1 c.2.2.2.2.2.2.2.2.2.2.2.2.2.2.1 c.2.2.2.2.2.2.2.2.2.2.2.2.2.2.2.1 (c.2.2.2.2.2.2.2.2.2.2.2.2.2.2.2.1.length:Int) 0=Js c 0:=rfl;rw[Int.natCast_zero]at e f;obtain⟨Z,L⟩:=Zw7 c.2.1;obtain⟨b2,k⟩:=Zw7 c.2.2.1;obtain⟨b3,M⟩:=Zw1 h.str hK;obtain⟨b4,O⟩:=Zo5 c.2.2.2.2.1;obtain⟨b5,P⟩:=Zv2 c.2.2.2.2.2.1;obtain⟨b6,Q⟩:=Z2n c.2.2.2.2.2.2.1;obtain⟨b7,S⟩:=Z2n c.2.2.2.2.2.2.2.1;obtain⟨b8,U⟩:=Z2m c.2.2.2.2.2.2.2.2.1;obtain⟨b9,V⟩:=Z2m c.2.2.2.2.2.2.2.2.2.1;unfold Zce X9 Zy6;simp only[Q1i,Z7k h.str hK,Z93,Z4k,Qv9,Qoi,Qzx h.str hK,Qzw h.str hK,L,k,M,O,P,Q,S,U,V,J,e,f,l,m,B,C,D,E,Obs,bO,bO2]
 grind
theorem Qvh(c:Xy):Zy2 c=Zbr c:=rfl
end Go.Proofs.YtfhellopliifdaaGreat

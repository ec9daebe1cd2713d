/- FnLines: the plain law, part 2. No condition. -/
import Derived.Test.YtplcdmnbgcgdfaaGreatDoorP1
namespace Go.Proofs.YtplcdmnbgcgdfaaGreatDoor
open Go.Am
set_option maxRecDepth 100000
set_option linter.unusedVariables false
theorem Qtx(r:Ze):Zuv r=some (Zf8 r,()):=rfl
theorem Z1c(l:List Ze)(hl:l.length≤8000000000): ∀(N i:Nat),l.length-i<N→i≤l.length→Zhm N l l (l.length:Int) (i:Int)=Wi N l (i:Int)
 |0,_,h,_=>by omega
 |N+1,i,hN,hi=>by
  rw[Zhm,Wi]
  by_cases hh:i<l.length
  ·have g: ∀{a:Prop},a→decide ((i:Int)>0)=true→0≤IntKind.i64.wrap ((i:Int)-1)∧IntKind.i64.wrap ((i:Int)-1)< (l.length:Int):=fun _ h=>by
    have:=of_decide_eq_true h;rw[Zw (by omega) (by omega)];omega
   rw[Zn (Zk (by omega)),Zn (Zk (by omega)),Zb (by omega),Zb (by omega),Qtx,Z0j,Option.bind_some,Option.bind_some,Zb (fun h h2=>g h h2),Zb (fun h h2=>g h h2),Zb (fun _ _=>by omega),Zq hh (by omega),Z1c l hl N (i+1) (by omega) (by omega)]
  ·rw[Zi (Zj (by omega)),Zi (Zj (by omega))]
theorem Zz2(l:List Ze)(hl:l.length≤8000000000):Wp l=some (rsB (-1) l,()):=by
 have e:Zk5 l l (l.length:Int) 0=Za5 l 0:=rfl
 rw[←Zyc l (by omega),Wp,Y7,e]
 exact Z1c l hl _ 0 (by unfold Za5;omega) (by omega)
theorem Qsi(l:List Ze)(hl:l.length≤1048576): ∀(N i:Nat) (n:Int),l.length-i<N→i≤l.length→rsB (-1) l=true→Zby N n l (l.length:Int) (i:Int)=Ka N l n (i:Int)
 |0,_,_,h,_,_=>by omega
 |N+1,i,n,hN,hi,hr=>by
  rw[Zby,Ka]
  by_cases hh:i<l.length
  ·rw[Zn (Zk (by omega)),Zn (Zk (by omega)),Zb (by omega),Zb (by omega)]
   have hw:IntKind.i64.wrap (n+IntKind.i64.wrap ((l.getD (i:Int).toNat Zz).2.1- (l.getD (i:Int).toNat Zz).1))=IntKind.i64.wrap (IntKind.i64.wrap (n+ (l.getD (i:Int).toNat Zz).2.1)- (l.getD (i:Int).toNat Zz).1):=by
    unfold IntKind.wrap
    simp[IntKind.signed,IntKind.bits]
    omega
   rw[hw,Zq hh (by omega),Qsi l hl N (i+1) _ (by omega) (by omega) hr]
   try rw[Zb (by omega)]
  ·rw[Zi (Zj (by omega)),Zi (Zj (by omega))]
theorem Zn6(l:List Ze)(hl:l.length≤1048576):J7 l=some (if rsB (-1) l=true then Vt l else-1,()):=by
 rw[←Zbl l hl,J7,Kz,Zz2 l (by omega),Zyc l (by omega),Option.bind_some,Option.bind_some]
 cases hr:rsB (-1) l
 ·rfl
 ·exact Qsi l hl _ 0 0 (by unfold Zfm;omega) (by omega) hr
theorem Qcy(l:List Ze)(hl:l.length≤8000000000):Zcu l=some (l,()):=by
 unfold Zcu
 rw[Zb (by unfold Qp;simp;omega)];simp
theorem Qlg: ∀(N:Nat) (pre rest:List Ze) (r:Ze) (out:List Ze),(pre++rest).length≤8000000000→rest.length<N→out.length≤pre.length+1→r.1<r.2.1→(∀x∈rest,r.2.1<x.1∧x.1<x.2.1)→
  Yi N r out true (pre++rest) ((pre++rest).length:Int) (pre.length:Int)=some (out++rest,())
 |0,_,_,_,_,_,h,_,_,_=>by omega
 |N+1,pre,[],r,out,hl,hN,ho,hr,hx=>by
  unfold Yi
  rw[Zi (by simp)];simp
 |N+1,pre,x::rest,r,out,hl,hN,ho,hr,hx=>by
  have hlen: (pre++x::rest).length=pre.length+rest.length+1:=by simp;omega
  simp only[List.length_cons]at hN
  have hxx:=hx x (by simp)
  unfold Yi
  rw[Zn (Zk (by rw[hlen];omega)),Zb (by rw[hlen];omega),Wt,Zi (Zj (by omega)),Zn (Zk (by omega)),Zi (by rfl)]
  unfold Zhk
  rw[Zb (by unfold Qp;simp;omega),Zq (m:=pre.length+1) (by omega) (by omega)]
  have ih:=Qlg N (pre++ [x]) rest r (out++ [x]) (by simp;omega) (by omega) (by simp;omega) hr (fun y hy=>hx y (by simp[hy]))
  rw[show(pre++ [x])++rest=pre++x::rest by simp,show((pre++ [x]).length:Int)=((pre.length+1:Nat):Int) by simp]at ih
  simp only[ih]
  simp
theorem Qhh: ∀(N:Nat) (pre rest:List Ze) (r:Ze) (out:List Ze) (lo:Int),(pre++rest).length≤8000000000→rest.length<N→out.length≤pre.length→r.1<r.2.1→rsB lo rest=true→
  Yi N r out false (pre++rest) ((pre++rest).length:Int) (pre.length:Int)=some (out++Znt rest r,())
 |0,_,_,_,_,_,_,h,_,_,_=>by omega
 |N+1,pre,[],r,out,lo,hl,hN,ho,hr,hx=>by
  simp only[List.append_nil]at hl
  unfold Yi
  rw[Zi (by simp),Zn (by rfl),Zb (by unfold Qp;simp;omega)];rfl
 |N+1,pre,x::rest,r,out,lo,hl,hN,ho,hr,hx=>by
  have hlen: (pre++x::rest).length=pre.length+rest.length+1:=by simp;omega
  simp only[List.length_cons]at hN
  obtain⟨hf,hlo,hrest⟩:=Vn.1 hx
  have hf:=Q6.1 hf
  unfold Yi
  rw[Zn (Zk (by rw[hlen];omega)),Zb (by rw[hlen];omega),Wt]
  have es: (pre++ [x])++rest=pre++x::rest:=by simp
  have ec: ((pre++ [x]).length:Int)=((pre.length+1:Nat):Int):=by simp
  rw[Zq (m:=pre.length+1) (by omega) (by omega)]
  by_cases h1:x.2.1<r.1
  ·rw[Zn (Zk h1),Zb (by unfold Qp;simp;omega)]
   have ih:=Qhh N (pre++ [x]) rest r (out++ [x]) x.2.1 (by simp;omega) (by omega) (by simp;omega) hr hrest
   rw[es,ec]at ih
   rw[ih,Znt,if_pos h1];simp
  ·rw[Zi (Zj h1)]
   by_cases h2:x.1>r.2.1
   ·rw[Zn (Zk h2),Zn (by rfl),Zb (by unfold Qp;simp;omega)]
    unfold Zhk
    rw[Zb (by unfold Qp;simp;omega),Zq (m:=pre.length+1) (by omega) (by omega)]
    have low:=Zxg hrest
    have ih:=Qlg N (pre++ [x]) rest r (out++ [r]++ [x]) (by simp;omega) (by omega) (by simp;omega) hr (fun y hy=>by
     have h3:=low y hy
     have h4:=Q6.1 h3.2
     omega)
    rw[es,ec]at ih
    simp only[ih]
    rw[Znt,if_neg h1,if_pos h2];simp
   ·rw[Zi (Zj h2)]
    have ih:=Qhh N (pre++ [x]) rest (min r.1 x.1,max r.2.1 x.2.1,()) out x.2.1 (by simp;omega) (by omega) (by simp;omega) (by simp only;omega) hrest
    rw[es,ec]at ih
    rw[ih,Znt,if_neg h1,if_neg h2]
theorem Qps(l:List Ze)(r:Ze)(hl:l.length≤8000000000):Zkv l r=some (if rsB (-1) l=true∧Zf8 r=true then Znt l r else l,()):=by
 unfold Zkv
 rw[Zz2 l (by omega),Option.bind_some,Qtx,Qcy l (by omega)]
 cases hr:rsB (-1) l
 ·rfl
 ·cases hf:Zf8 r
  ·rfl
  ·have hf:=Q6.1 hf
   rw[if_pos ⟨rfl,rfl⟩]
   have h:=Qhh (Zfe r [] false l (l.length:Int) 0) [] l r [] (-1) (by simpa using hl) (by unfold Zfe;omega) (by simp) hf.2.1 hr
   exact h
theorem Q7a(l:List Ze)(hl:l.length≤1048576): ∀(N i:Nat) (n:Int),l.length-i<N→i≤l.length→Zd0 N n l (l.length:Int) (i:Int)=Jt N l n (i:Int)
 |0,_,_,h,_=>by omega
 |N+1,i,n,hN,hi=>by
  rw[Zd0,Jt]
  by_cases hh:i<l.length
  ·have ih:=fun n=>Q7a l hl N (i+1) n (by omega) (by omega)
   rw[Zn (Zk (by omega)),Zn (Zk (by omega)),Zb (by omega),Zb (by omega),Zq hh (by omega),ih,ih]
   try rw[Zb (fun _=>by omega)]
   try rw[Zb (by omega)]
   unfold Zh4
   rw[Zq hh (by omega)]
  ·rw[Zi (Zj (by omega)),Zi (Zj (by omega))]
theorem Q43(l:List Ze)(f:Int)(hl:l.length≤1048576):Zsi l f=some (if rsB (-1) l=true∧0≤f then Z6y l f else-1,()):=by
 rw[←Qep l f hl,Zsi,Zg1,Zz2 l (by omega),Zyc l (by omega),Option.bind_some,Option.bind_some]
 cases (!rsB (-1) l)||decide (f<0)
 ·exact Q7a l hl _ 0 f (by unfold Zk4;omega) (by omega)
 ·rfl
theorem Qja(l:List Ze)(hl:l.length≤1048576):Wp l=some (rsB (-1) l,()):=Zz2 l (by omega)
theorem Qlr(l:List Ze)(hl:l.length≤1048576):Zcu l=some (l,()):=Qcy l (by omega)
theorem Q4t(l:List Ze)(r:Ze)(hl:l.length≤1048576):Zkv l r=some (if rsB (-1) l=true∧Zf8 r=true then Znt l r else l,()):=Qps l r (by omega)
def Qp7(l:List Int):Bool:=l.all fun n=>decide (n≥0)&&decide (n≤255)
theorem Xa4(r:Kx)(hl:r.2.2.2.1.length≤1048576): ∀(N i:Nat),r.2.2.2.1.length-i<N→i≤r.2.2.2.1.length→Zet N r (i:Int)=some (Qp7 (r.2.2.2.1.drop i),())
 |0,_,h,_=>by omega
 |N+1,i,hN,hi=>by
  rw[Zet]
  by_cases hh:i<r.2.2.2.1.length
  ·rw[Zn (Zk (by omega)),Zb (by omega),Zth,Option.bind_some,Zq hh (by omega),Xa4 r hl N (i+1) (by omega) (by omega),show(i:Int).toNat=i from rfl,V9 (d:=0) hh]
   simp only[Qp7,List.all_cons]
   cases decide (r.2.2.2.1.getD i 0≥0)&&decide (r.2.2.2.1.getD i 0≤255)<;>rfl
  ·rw[Zi (Zj (by omega)),List.drop_eq_nil_of_le (by omega)];rfl
theorem Qhd(n a b:Int):Z3 n a b=some (decide (n≥a)&&decide (n≤b),()):=rfl
theorem Q4g(l:List Int)(hl:l.length≤1048576)(u:Unit): ∀(N i:Nat),l.length-i<N→i≤l.length→ ∃k,Xb N l u (l.length:Int) (i:Int)=some (k,())∧decide (k≥0)= !Qp7 (l.drop i)
 |0,_,h,_=>by omega
 |N+1,i,hN,hi=>by
  rw[Xb]
  by_cases hh:i<l.length
  ·have e:Zxs (l.getD i 0)=some (!(decide (l.getD i 0≥0)&&decide (l.getD i 0≤255)),()):=rfl
   rw[Zn (Zk (by omega)),Zb (by omega),show(i:Int).toNat=i from rfl,e,Option.bind_some,Zq hh (by omega),V9 (d:=0) hh]
   obtain⟨k,h1,h2⟩:=Q4g l hl () N (i+1) (by omega) (by omega)
   cases hc:decide (l.getD i 0≥0)&&decide (l.getD i 0≤255)
   ·exact⟨_,rfl,by simp only[Qp7,List.all_cons,hc];simp⟩
   ·exact⟨k,h1,by rw[h2];simp only[Qp7,List.all_cons,hc,Bool.true_and]⟩
  ·rw[Zi (Zj (by omega)),List.drop_eq_nil_of_le (by omega)];exact⟨_,rfl,by simp[Qp7]⟩
theorem Q9l(r:Kx)(hl:r.2.2.2.1.length≤1048576):Zwt r=Zb7 r:=by
 unfold Zwt Zb7 Zbu Zj2 Kj Jd
 obtain⟨k,h1,h2⟩:=Q4g r.2.2.2.1 hl () (Xl r.2.2.2.1 () (r.2.2.2.1.length:Int) 0) 0 (by unfold Xl;omega) (by omega)
 have h3:=Xa4 r hl (Zaa r 0) 0 (by unfold Zaa;omega) (by omega)
 simp only[Int.natCast_zero,List.drop_zero]at h1 h2 h3
 have e:Xy r.2.1=some (decide (r.2.1≥0)&&decide (r.2.1≤4611686018427387903),()):=rfl
 simp only[h1,h2,h3,Qhd,e,Option.bind_some]
 have e1:decide (r.1≥1)=decide (r.1>0):=by congr 1
 rw[e1]
 generalize hA: ((decide (r.1>0)&&decide (r.1≤64))&& (bits .and .i64 r.1 (IntKind.i64.wrap (r.1-1))==0))=A
 generalize ((r.2.2.2.1.length:Int) !=r.1)=B
 cases A
 ·rfl
 cases B
 ·simp only[Bool.not_true,Bool.or_self,cond_false,Option.bind_some,Bool.false_or]
  simp only[Bool.and_eq_true,decide_eq_true_eq]at hA
  generalize Qp7 r.2.2.2.1=C
  by_cases h0:0≤r.2.1∧r.2.1≤r.2.2.1∧r.2.2.1≤4611686018427387903
  ·obtain⟨a1,a2,a3⟩:=h0
   rw[Zw (n:=r.2.2.1-r.2.1) (by omega) (by omega),Zw (n:=r.2.1+r.1) (by omega) (by omega),Zk (p:=r.2.1≥0) (by omega),Zk (p:=r.2.1≤4611686018427387903) (by omega),Zj (p:=r.2.1<0) (by omega),Zj (p:=r.2.2.1<r.2.1) (by omega),Zj (p:=r.2.2.1>4611686018427387903) (by omega),Zk (p:=r.2.2.1≥r.2.1) a2]
   by_cases h4:r.2.2.1-r.2.1≤r.1
   ·rw[Zj (p:=r.2.2.1-r.2.1>r.1) (by omega),Zk (p:=r.2.2.1≤min (r.2.1+r.1) 4611686018427387903) (by omega)]
    cases C<;>rfl
   ·rw[Zk (p:=r.2.2.1-r.2.1>r.1) (by omega),Zj (p:=r.2.2.1≤min (r.2.1+r.1) 4611686018427387903) (by omega)]
    cases C<;>rfl
  ·have hL: ((((decide (r.2.1<0))|| (decide (r.2.2.1<r.2.1)))|| (decide ((IntKind.i64.wrap (r.2.2.1-r.2.1))>r.1)))|| (decide (r.2.2.1>4611686018427387903)))=true:=by
    simp only[Bool.or_eq_true,decide_eq_true_eq];omega
   have hR: ((decide (r.2.1≥0)&&decide (r.2.1≤4611686018427387903))&& (decide (r.2.2.1≥r.2.1)&&decide (r.2.2.1≤min (IntKind.i64.wrap (r.2.1+r.1)) 4611686018427387903)))=false:=by
    simp only[Bool.and_eq_false_iff,decide_eq_false_iff_not];omega
   rw[hL]
   cases C
   ·rfl
   ·simp only[Bool.not_true,cond_false,cond_true]
    generalize hQ: (decide (r.2.1≥0)&&decide (r.2.1≤4611686018427387903))=Q at hR
    cases Q
    ·rfl
    ·simp only[cond_true,Option.bind_some]
     rw[hR]
 ·rfl
def hiB(S:Int)(l:List Ze):Bool:=l.all fun x=>decide (x.2.1≤S)
noncomputable def stF(s:Zs):Int:=match Vw s with|some (k,_)=>k|none=>0
theorem Q8b(s:Zs):Vw s=some (stF s,()):=by
 obtain⟨k,e⟩:=Qey s
 unfold stF;rw[e]
theorem Qx1(s:Zs)(h0:0≤s.2.2.2.2.2.2.1)(h3:s.2.2.2.2.2.2.1≤3):Zqm s=some (stF s,()):=by
 rw[←Q8b]
 unfold Zqm Vw
 have:decide (s.2.2.2.2.2.2.1>1)=((s.2.2.2.2.2.2.1==2)|| (s.2.2.2.2.2.2.1==3)):=by
  rw[Bool.eq_iff_iff];simp only[decide_eq_true_eq,Bool.or_eq_true,beq_iff_eq];omega
 rw[this]
def Qz0(s:Zs):Bool:= !((!((s.2.2.2.2.2.2.1==(0:Int))==(s.2.2.2.2.2.1==(-1:Int))))|| ((s.2.2.2.2.2.1 !=(-1:Int))&& (s.2.2.2.2.2.1 !=s.2.1.2.2.1)))
theorem Xdr(s:Zs)(hl:s.2.2.2.2.1.length≤1048576): ∀(N i:Nat),s.2.2.2.2.1.length-i<N→i≤s.2.2.2.2.1.length→Jz N s (i:Int)=some (hiB s.2.2.2.2.2.2.2.1 (s.2.2.2.2.1.drop i)&& (Qz0 s&& (s.1==stF s)),())
 |0,_,h,_=>by omega
 |N+1,i,hN,hi=>by
  rw[Jz]
  by_cases hh:i<s.2.2.2.2.1.length
  ·rw[Zn (Zk (by omega)),Zb (by omega),Zq hh (by omega),Xdr s hl N (i+1) (by omega) (by omega),show(i:Int).toNat=i from rfl,V9 (d:=Zz) hh]
   simp only[hiB,List.all_cons]
   by_cases hc: (s.2.2.2.2.1.getD i Zz).2.1≤s.2.2.2.2.2.2.2.1
   ·rw[Zj (p:=_>_) (by omega),Zk hc];rfl
   ·rw[Zk (p:=_>_) (by omega),Zj hc];rfl
  ·rw[Zi (Zj (by omega)),List.drop_eq_nil_of_le (by omega),Q8b,Option.bind_some]
   unfold Qz0
   generalize ((!((s.2.2.2.2.2.2.1==(0:Int))==(s.2.2.2.2.2.1==(-1:Int))))|| ((s.2.2.2.2.2.1 !=(-1:Int))&& (s.2.2.2.2.2.1 !=s.2.1.2.2.1)))=c
   cases c<;>rfl
theorem Xdq(s:Zs)(hl:s.2.2.2.1.length≤1048576)(hl2:s.2.2.2.2.1.length≤1048576): ∀(N i:Nat),s.2.2.2.1.length-i<N→i≤s.2.2.2.1.length→Jy N s (i:Int)=some (hiB s.2.2.2.2.2.2.2.1 (s.2.2.2.1.drop i)&& (hiB s.2.2.2.2.2.2.2.1 s.2.2.2.2.1&& (Qz0 s&& (s.1==stF s))),())
 |0,_,h,_=>by omega
 |N+1,i,hN,hi=>by
  rw[Jy]
  by_cases hh:i<s.2.2.2.1.length
  ·rw[Zn (Zk (by omega)),Zb (by omega),Zq hh (by omega),Xdq s hl hl2 N (i+1) (by omega) (by omega),show(i:Int).toNat=i from rfl,V9 (d:=Zz) hh]
   simp only[hiB,List.all_cons]
   by_cases hc: (s.2.2.2.1.getD i Zz).2.1≤s.2.2.2.2.2.2.2.1
   ·rw[Zj (p:=_>_) (by omega),Zk hc];rfl
   ·rw[Zk (p:=_>_) (by omega),Zj hc];rfl
  ·rw[Zi (Zj (by omega)),List.drop_eq_nil_of_le (by omega)]
   exact Xdr s hl2 _ 0 (by unfold Zfk;omega) (by omega)
def Xc7(a:List Ze)(r:Ze):List Ze:=if rsB (-1) a=true∧Zf8 r=true then Znt a r else a
def Zns(a l:List Ze):List Ze:=l.foldl Xc7 a
theorem Q4r{E:Int}: ∀{l a:List Ze},RL E a→(∀x∈l,x.2.1≤E)→RL E (Zns a l)
 | [],_,h,_=>h
 |x::l,a,h,hl=>Q4r (l:=l) (a:=Xc7 a x) (Zxn h (hl x (by simp))) fun y hy=>hl y (by simp[hy])
theorem Qhq{E:Int}: ∀{l:List Ze} {lo:Int},rsB lo l=true→(∀x∈l,x.2.1≤E)→l≠[]→Vt l≤E-lo-1
 | [],_,_,_,h=>absurd rfl h
 |x::l,lo,h,hE,_=>by
  obtain⟨h1,h2,h3⟩:=Vn.1 h
  have hx:=hE x (by simp)
  simp only[Vt]
  rcases l with _| ⟨y,l⟩
  ·simp only[Vt];omega
  ·have:=Qhq h3 (fun z hz=>hE z (by simp[hz])) (by simp)
   omega
theorem Q4y{E:Int}{l:List Ze}(h:RL E l)(hc:Vt l=E)(h0:0<E): (l.getD 0 Zz).2.1=E:=by
 obtain⟨h1,h2⟩:=h
 rcases l with _| ⟨x,l⟩
 ·simp only[Vt]at hc;omega
 ·obtain⟨a1,a2,a3⟩:=Vn.1 h1
  have hx:=h2 x (by simp)
  have a1:=Q6.1 a1
  simp only[Vt]at hc
  rcases l with _| ⟨y,l⟩
  ·simp only[Vt]at hc
   simp only[List.getD_cons_zero];omega
  ·have:=Qhq a3 (fun z hz=>h2 z (by simp[hz])) (by simp)
   omega
theorem Z84{E:Int}{l:List Ze}(h:RL E l)(h0:0≤E):0≤Vt l∧Vt l≤E:=by
 have: ∀{l:List Ze} {lo:Int},rsB lo l=true→0≤Vt l:=by
  intro l
  induction l with
  |nil=>intro lo _;simp[Vt]
  |cons x l ih=>
   intro lo h
   obtain⟨a1,a2,a3⟩:=Vn.1 h
   have a1:=Q6.1 a1
   have:=ih a3
   simp only[Vt];omega
 refine⟨this h.1,?_⟩
 rcases hl:l with _| ⟨x,l'⟩
 ·simp only[Vt];exact h0
 ·have:=Qhq h.1 h.2 (by rw[hl];simp)
  rw[hl]at this;omega
def Qcm(s:Zs)(all:List Ze):Bool:=(Vt all==s.2.1.2.2.1)&& (Vt s.2.2.1+Vt s.2.2.2.1+Vt s.2.2.2.2.1==s.2.1.2.2.1)
theorem Xdp{K:Int}{s:Zs}(hs:Zbk K s)(hK:K≤1000000): ∀(N i:Nat) (all:List Ze),RL (Q5w s) all→s.2.2.2.2.1.length-i<N→i≤s.2.2.2.2.1.length→
  Jx N s all (i:Int)=some (Qcm s (Zns all (s.2.2.2.2.1.drop i))&& ((Z6y s.2.2.2.2.1 0==s.2.1.2.1)&& ((s.2.2.2.2.2.2.2.2.1==0)&& (hiB s.2.2.2.2.2.2.2.1 s.2.2.2.1&& (hiB s.2.2.2.2.2.2.2.1 s.2.2.2.2.1&& (Qz0 s&& (s.1==stF s)))))),())
 |0,_,_,_,h,_=>by omega
 |N+1,i,all,ha,hN,hi=>by
  have la:=Xm ha hs.e0 hs.eK hK
  have l1:=Xm hs.pend hs.e0 hs.eK hK
  have l2:=Xm hs.flight hs.e0 hs.eK hK
  have l3:=Xm hs.acked hs.e0 hs.eK hK
  rw[Jx]
  by_cases h:i<s.2.2.2.2.1.length
  ·rw[Zn (Zk (by omega)),Zb (by omega),Zq h (by omega),Zn5 _ _ (by omega),Option.bind_some,V9 (d:=Zz) h]
   exact Xdp hs hK N (i+1) _ (Zxn ha (hs.acked.2 _ (Qu h))) (by omega) (by omega)
  ·have c1:=Z84 hs.pend hs.e0
   have c2:=Z84 hs.flight hs.e0
   have c3:=Z84 hs.acked hs.e0
   have heK:=hs.eK
   rw[Zi (Zj (by omega)),Zbl _ (by omega),Zbl _ (by omega),Zbl _ (by omega),Zbl _ (by omega),Qep _ _ (by omega),List.drop_eq_nil_of_le (by omega)]
   simp only[Option.bind_some,ha.1,hs.pend.1,hs.flight.1,hs.acked.1,if_true]
   rw[Zb (fun h1 h2=>by
    simp only[Bool.or_eq_false_iff,bne_eq_false_iff_eq,decide_eq_true_eq]at h1 h2
    have:=Qzi (l:=all) (by omega)
    omega),Zw (n:=Vt s.2.2.1+Vt s.2.2.2.1) (by omega) (by omega),Zw (by omega) (by omega),show Zns all []=all from rfl]
   have e3:=Xdq s (by omega) (by omega) (Za7 s 0) 0 (by unfold Za7;omega) (by omega)
   simp only[Int.natCast_zero,List.drop_zero]at e3
   rw[e3]
   unfold Qcm
   generalize (hiB s.2.2.2.2.2.2.2.1 s.2.2.2.1&& (hiB s.2.2.2.2.2.2.2.1 s.2.2.2.2.1&& (Qz0 s&& (s.1==stF s))))=R
   have hq: (if True∧(0:Int)≤0 then Z6y s.2.2.2.2.1 0 else-1)=Z6y s.2.2.2.2.1 0:=by simp
   rw[hq]
   by_cases w1:Vt all=s.2.1.2.2.1
   ·by_cases w2:Vt s.2.2.1+Vt s.2.2.2.1+Vt s.2.2.2.2.1=s.2.1.2.2.1
    ·have hz: ((decide (s.2.1.2.2.1>0))&& ((all.getD (0:Int).toNat Zz).2.1 !=s.2.1.2.2.1))=false:=by
      by_cases hp:0<s.2.1.2.2.1
      ·have:=Q4y ha w1 hp
       rw[show((0:Int).toNat)=0 from rfl,this];simp
      ·rw[Zj (by omega)];rfl
     rw[hz,beq_iff_eq.2 w1,beq_iff_eq.2 w2,show(Vt all !=s.2.1.2.2.1)=false by simp[w1],show(Vt s.2.2.1+Vt s.2.2.2.1+Vt s.2.2.2.2.1 !=s.2.1.2.2.1)=false by simp[w2]]
     simp only[Bool.or_self,cond_false,Option.bind_some,Bool.false_or,Bool.and_self,Bool.true_and]
     simp only[bne]
     generalize (Z6y s.2.2.2.2.1 0==s.2.1.2.1)=g1
     generalize (s.2.2.2.2.2.2.2.2.1==0)=g2
     cases g1<;>cases g2<;>rfl
    ·rw[beq_eq_false_iff_ne.2 w2,show(Vt s.2.2.1+Vt s.2.2.2.1+Vt s.2.2.2.2.1 !=s.2.1.2.2.1)=true by simp[w2]]
     simp
   ·rw[beq_eq_false_iff_ne.2 w1,show(Vt all !=s.2.1.2.2.1)=true by simp[w1]]
    simp
theorem Xdo{K:Int}{s:Zs}(hs:Zbk K s)(hK:K≤1000000): ∀(N i:Nat) (all:List Ze),RL (Q5w s) all→s.2.2.2.1.length-i<N→i≤s.2.2.2.1.length→
  Jw N s all (i:Int)=some (Qcm s (Zns (Zns all (s.2.2.2.1.drop i)) s.2.2.2.2.1)&& ((Z6y s.2.2.2.2.1 0==s.2.1.2.1)&& ((s.2.2.2.2.2.2.2.2.1==0)&& (hiB s.2.2.2.2.2.2.2.1 s.2.2.2.1&& (hiB s.2.2.2.2.2.2.2.1 s.2.2.2.2.1&& (Qz0 s&& (s.1==stF s)))))),())
 |0,_,_,_,h,_=>by omega
 |N+1,i,all,ha,hN,hi=>by
  have la:=Xm ha hs.e0 hs.eK hK
  have l2:=Xm hs.flight hs.e0 hs.eK hK
  rw[Jw]
  by_cases h:i<s.2.2.2.1.length
  ·rw[Zn (Zk (by omega)),Zb (by omega),Zq h (by omega),Zn5 _ _ (by omega),Option.bind_some,V9 (d:=Zz) h]
   exact Xdo hs hK N (i+1) _ (Zxn ha (hs.flight.2 _ (Qu h))) (by omega) (by omega)
  ·rw[Zi (Zj (by omega)),List.drop_eq_nil_of_le (by omega)]
   have:=Xdp hs hK (Za6 s all 0) 0 all ha (by unfold Za6;omega) (by omega)
   simp only[Int.natCast_zero,List.drop_zero]at this
   exact this
theorem Q4o{K:Int}{s:Zs}(hs:Zbk K s)(hK:K≤1000000)(t:List Ze)(ht:t.length≤3000000)(hE: ∀x∈t,x.2.1≤s.2.1.2.2.1): ∀(N i:Nat) (all:List Ze),RL (Q5w s) all→t.length-i<N→i≤t.length→
  Zhp N s.2.1.2.2.1 all t (t.length:Int) (i:Int)=some (Vt (Zns all (t.drop i))==s.2.1.2.2.1,())
 |0,_,_,_,h,_=>by omega
 |N+1,i,all,ha,hN,hi=>by
  have la:=Xm ha hs.e0 hs.eK hK
  rw[Zhp]
  by_cases h:i<t.length
  ·rw[Zn (Zk (by omega)),Zb (by omega),Zq h (by omega),Q4t _ _ (by omega),Option.bind_some,V9 (d:=Zz) h]
   exact Q4o hs hK t ht hE N (i+1) _ (Zxn ha (hE _ (Qu h))) (by omega) (by omega)
  ·rw[Zi (Zj (by omega)),List.drop_eq_nil_of_le (by omega),Zn6 _ (by omega)]
   simp only[ha.1,if_true,Option.bind_some]
   unfold Zcv
   rw[Zb (fun h=>by
    have:=of_decide_eq_true h
    rw[Zw (by omega) (by omega)];omega)]
   have hz: ((decide ((all.length:Int)>0))&& (decide ((all.getD (IntKind.i64.wrap ((all.length:Int)-1)).toNat Zz).2.1>s.2.1.2.2.1)))=false:=by
    by_cases hp: (all.length:Int)>0
    ·rw[Zw (by omega) (by omega)]
     have:=ha.2 _ (Qu (l:=all) (i:=((all.length:Int)-1).toNat) (d:=Zz) (by omega))
     rw[Zj (p:=_>s.2.1.2.2.1) (by unfold Q5w at this;omega)];simp
    ·rw[Zj hp];rfl
   rw[hz,show Zns all []=all from rfl]
   cases Vt all==s.2.1.2.2.1<;>rfl
theorem Xau{lo S:Int}: ∀{l:List Ze},rsB lo l=true→hiB S l= !((decide ((l.length:Int)>0))&& (decide ((l.getD (l.length-1) Zz).2.1>S)))
 | [],_=>rfl
 | [x],_=>by
  simp only[hiB,List.all_cons,List.all_nil,Bool.and_true,List.length_singleton,Nat.sub_self,List.getD_cons_zero]
  by_cases h:x.2.1≤S
  ·rw[Zk h,Zj (p:=x.2.1>S) (by omega)];rfl
  ·rw[Zj h,Zk (p:=x.2.1>S) (by omega)];rfl
 |x::y::l,h=>by
  obtain⟨a1,a2,a3⟩:=Vn.1 h
  have ih:=Xau (S:=S) a3
  have b:=Vn.1 a3
  have b1:=Q6.1 b.1
  have e: (x::y::l).getD ((x::y::l).length-1) Zz=(y::l).getD ((y::l).length-1) Zz:=by simp
  rw[e]
  have e2:hiB S (x::y::l)=(decide (x.2.1≤S)&&hiB S (y::l)):=rfl
  rw[e2,ih,Zk (p:=((x::y::l).length:Int)>0) (by simp only[List.length_cons];omega),Zk (p:=((y::l).length:Int)>0) (by simp only[List.length_cons];omega)]
  by_cases hx:x.2.1≤S
  ·rw[Zk hx];rfl
  ·have e3:hiB S (y::l)=false:=by
    simp only[hiB,List.all_cons]
    rw[Zj (by omega)];rfl
   rw[e3,Zk (p:=((y::l).length:Int)>0) (by simp only[List.length_cons];omega)]at ih
   rw[Zj hx]
   simpa using ih
theorem Qr5{lo:Int}{l:List Ze}(h:rsB lo l=true)(hl:l.length≤1048576)(S:Int):Zcv l S=some (!hiB S l,()):=by
 unfold Zcv
 simp only
 rw[Zb (fun h=>by
  have:=of_decide_eq_true h
  rw[Zw (by omega) (by omega)];omega),Xau h (S:=S),Bool.not_not]
 by_cases hp: (l.length:Int)>0
 ·rw[Zw (by omega) (by omega),show((l.length:Int)-1).toNat=l.length-1 by omega]
 ·rw[Zj hp];rfl
theorem Q5a{K:Int}{s:Zs}(hs:Zbk K s)(hK:K≤1000000):Zsk s=Yg s:=by
 have l1:=Xm hs.pend hs.e0 hs.eK hK
 have l2:=Xm hs.flight hs.e0 hs.eK hK
 have l3:=Xm hs.acked hs.e0 hs.eK hK
 have hr:=(Qjb s.2.1 (by have:=hs.cells;omega)).1
 have c1:=Z84 hs.pend hs.e0
 have c2:=Z84 hs.flight hs.e0
 have c3:=Z84 hs.acked hs.e0
 have heK:=hs.eK
 have s1:=Xdo hs hK (Vi s s.2.2.1 0) 0 s.2.2.1 hs.pend (by unfold Vi;omega) (by omega)
 simp only[Int.natCast_zero,List.drop_zero]at s1
 have w1:Zsm s.2.2.1 s.2.2.2.1 s.2.2.2.2.1 s.2.1.2.2.1=some (Qcm s (Zns (Zns s.2.2.1 s.2.2.2.1) s.2.2.2.2.1),()):=by
  unfold Zsm
  rw[Zn6 _ (by omega),Zn6 _ (by omega),Zn6 _ (by omega),Qlr _ (by omega),Qlr _ (by omega)]
  simp only[hs.pend.1,hs.flight.1,hs.acked.1,if_true,Option.bind_some]
  rw[Zw (n:=Vt s.2.2.1+Vt s.2.2.2.1) (by omega) (by omega),Zw (by omega) (by omega),Zb (by unfold Qp;omega)]
  have:=Q4o hs hK (s.2.2.2.1++s.2.2.2.2.1) (by simp;omega) (fun x hx=>by
   rcases List.mem_append.1 hx with hx|hx
   ·exact hs.flight.2 x hx
   ·exact hs.acked.2 x hx) (Zfg s.2.1.2.2.1 s.2.2.1 (s.2.2.2.1++s.2.2.2.2.1) ((s.2.2.2.1++s.2.2.2.2.1).length:Int) 0) 0 s.2.2.1 hs.pend (by unfold Zfg;omega) (by omega)
  simp only[Int.natCast_zero,List.drop_zero]at this
  rw[this]
  unfold Qcm
  have e:Zns s.2.2.1 (s.2.2.2.1++s.2.2.2.2.1)=Zns (Zns s.2.2.1 s.2.2.2.1) s.2.2.2.2.1:=List.foldl_append ..
  rw[e]
  simp only[bne]
  cases (Vt s.2.2.1+Vt s.2.2.2.1+Vt s.2.2.2.2.1==s.2.1.2.2.1)
  ·simp
  ·simp
 have hg: ∀f,0≤s.2.2.2.2.2.2.1→s.2.2.2.2.2.2.1≤3→Zhn s f=some (Qcm s (Zns (Zns s.2.2.1 s.2.2.2.1) s.2.2.2.2.1)&& ((Z6y s.2.2.2.2.1 0==s.2.1.2.1)&& ((s.2.2.2.2.2.2.2.2.1==0)&& (hiB s.2.2.2.2.2.2.2.1 s.2.2.2.1&& (hiB s.2.2.2.2.2.2.2.1 s.2.2.2.2.1&& ((s.2.2.2.2.2.1==f)&& (s.1==stF s)))))),()):=fun f h0 h3=>by
  unfold Zhn
  rw[w1,Q43 _ _ (by omega),Qr5 hs.flight.1 (by omega),Qr5 hs.acked.1 (by omega),Qx1 s h0 h3]
  have hq: (if rsB (-1) s.2.2.2.2.1=true∧(0:Int)≤0 then Z6y s.2.2.2.2.1 0 else-1)=Z6y s.2.2.2.2.1 0:=if_pos ⟨hs.acked.1,Int.le_refl _⟩
  rw[hq]
  simp only[Option.bind_some]
  generalize Qcm s (Zns (Zns s.2.2.1 s.2.2.2.1) s.2.2.2.2.1)=b1
  cases b1
  ·rfl
  simp only[cond_true,Option.bind_some,Bool.true_and]
  generalize (Z6y s.2.2.2.2.1 0==s.2.1.2.1)=b2
  cases b2
  ·rfl
  simp only[cond_true,Option.bind_some,Bool.true_and]
  generalize hiB s.2.2.2.2.2.2.2.1 s.2.2.2.1=b3
  generalize hiB s.2.2.2.2.2.2.2.1 s.2.2.2.2.1=b4
  generalize (s.2.2.2.2.2.2.2.2.1==0)=b5
  generalize (s.2.2.2.2.2.1==f)=b6
  cases b3<;>cases b4<;>cases b5<;>cases b6<;>rfl
 unfold Zsk Yg
 rw[Q9l _ (by have:=hs.cells;omega),hr,Zl2 _ (by omega),Zl2 _ (by omega),Zl2 _ (by omega),Qja _ (by omega),Qja _ (by omega),Qja _ (by omega),s1]
 have e2:Qh s.2.2.2.2.2.2.2.2.1=some (decide (s.2.2.2.2.2.2.2.2.1≥0)&&decide (s.2.2.2.2.2.2.2.2.1≤4611686018427387903),()):=rfl
 have e3:Xy s.2.2.2.2.2.2.2.2.1=some (decide (s.2.2.2.2.2.2.2.2.1≥0)&&decide (s.2.2.2.2.2.2.2.2.1≤4611686018427387903),()):=rfl
 simp only[hs.pend.1,hs.flight.1,hs.acked.1,e2,e3,Zth,Qhd,Option.bind_some]
 generalize Z8w s.2.1=b1
 cases b1
 ·rfl
 simp only[Bool.not_true,cond_false,Option.bind_some,Bool.false_or]
 generalize (decide (s.2.2.2.2.2.2.2.1≥0)&&decide (s.2.2.2.2.2.2.2.1≤s.2.1.2.2.1))=b2
 cases b2
 ·rfl
 simp only[Bool.not_true,cond_false,Option.bind_some,Bool.false_or]
 generalize (decide (s.2.2.2.2.2.2.2.2.1≥0)&&decide (s.2.2.2.2.2.2.2.2.1≤4611686018427387903))=b3
 cases b3
 ·rfl
 simp only[Bool.not_true,cond_false,Option.bind_some,Bool.false_or]
 by_cases hf:0≤s.2.2.2.2.2.2.1∧s.2.2.2.2.2.2.1≤3
 ·rw[hg _ hf.1 hf.2,hg _ hf.1 hf.2,show(decide (s.2.2.2.2.2.2.1≥0)&&decide (s.2.2.2.2.2.2.1≤3))=true by simp only[Bool.and_eq_true,decide_eq_true_eq];exact hf]
  simp only[Bool.not_true,cond_false]
  cases (s.1==(4:Int))|| (s.1==(5:Int))
  ·simp only[cond_false]
   have e0:=hs.e0
   have:Qz0 s=(bif s.2.2.2.2.2.2.1==0 then s.2.2.2.2.2.1== -1 else s.2.2.2.2.2.1==s.2.1.2.2.1):=by
    unfold Qz0
    cases hz:s.2.2.2.2.2.2.1==0
    ·by_cases h1:s.2.2.2.2.2.1= -1
     ·rw[h1];simp;omega
     ·have: (s.2.2.2.2.2.1== -1)=false:=by simpa using h1
      simp[this,bne]
    ·by_cases h1:s.2.2.2.2.2.1= -1
     ·rw[h1];simp
     ·have: (s.2.2.2.2.2.1== -1)=false:=by simpa using h1
      simp[this]
   rw[this]
   cases s.2.2.2.2.2.2.1==0<;>rfl
  ·simp only[cond_true]
   congr 2
   ac_rfl
 ·rw[show(decide (s.2.2.2.2.2.2.1≥0)&&decide (s.2.2.2.2.2.2.1≤3))=false by rw[Bool.and_eq_false_iff,decide_eq_false_iff_not,decide_eq_false_iff_not];omega]
  rfl
theorem Q6g(l:List Zlv)(hl:l.length≤1048576)(ht:Znn l≤1000000): ∀(N i:Nat) (e:Int),l.length-i<N→i≤l.length→ -1≤e→e≤4611686018427387903→Zhl N (e+1) l (l.length:Int) (i:Int)=some (ckB e (l.drop i),())
 |0,_,_,h,_,_,_=>by omega
 |N+1,i,e,hN,hi,h0,h1=>by
  rw[Zhl]
  by_cases hh:i<l.length
  ·have hm:=Qpm (Qu (l:=l) (d:=Zwk) hh)
   rw[Zn (Zk (by omega)),Zb (by omega),Zq hh (by omega),show(i:Int).toNat=i from rfl,V9 (d:=Zwk) hh]
   generalize hc:l.getD i Zwk=c at hm
   have e1: (((c.2.1.length:Int)==0)||decide (c.1<e+1))=(decide (c.1≤e)|| (c.2.1==([]:List UInt8))):=by
    rw[Bool.eq_iff_iff]
    simp only[Bool.or_eq_true,beq_iff_eq,decide_eq_true_eq]
    rw[←List.length_eq_zero_iff];omega
   simp only[ckB]
   rw[e1,Zw (n:=4611686018427387903- (c.2.1.length:Int)) (by omega) (by omega)]
   cases hx: ((decide (c.1≤e)|| (c.2.1==([]:List UInt8)))||decide (c.1>4611686018427387903- (c.2.1.length:Int)))
   ·simp only[Bool.or_eq_false_iff,decide_eq_false_iff_not]at hx
    rw[cond_false]
    unfold Zqi
    rw[Option.bind_some]
    simp only
    rw[Zw (n:=c.1+ (c.2.1.length:Int)) (by omega) (by omega),Zw (by omega) (by omega),Q6g l hl ht N (i+1) (c.1+ (c.2.1.length:Int)) (by omega) (by omega) (by omega) (by omega)]
    simp
   ·rfl
  ·rw[Zi (Zj (by omega)),List.drop_eq_nil_of_le (by omega)];rfl
theorem Qx6(n:Int):Xy n=some (Zup n,()):=rfl
theorem Qi9{K:Nat}{b:Z4}(h:Zqd K b)(hK:K≤1000000):Zkw b=some (Zxo b,()):=by
 have hl:=h.len
 have ht:=h.tot
 unfold Zkw Zxo
 rw[Qx6,Option.bind_some]
 cases hq:Zup b.1
 ·simp
 ·have hq:=Z57.1 hq
  rw[Zw (n:=b.1-1) (by omega) (by omega)]
  have:=Q6g b.2.1 (by omega) (by omega) (Zff b.1 b.2.1 (b.2.1.length:Int) 0) 0 (b.1-1) (by unfold Zff;omega) (by omega) (by omega) (by omega)
  simp only[Int.natCast_zero,List.drop_zero,Int.sub_add_cancel]at this
  rw[Bool.not_true,cond_false,this,Bool.and_true]
theorem Xbh{K:Nat}{b:Z4}(h:Zqd K b)(hK:K≤1000000):Zzv b=Zsd b:=by
 have hl:=h.len
 unfold Zzv Zsd
 rw[Qi9 h hK,Zod b (by omega),Option.bind_some]
 cases hz: ((b.2.1.length:Int)==0)
 ·cases Zxo b
  ·rfl
  ·rfl
 ·cases Zxo b<;>rfl
theorem Q00{K:Nat}{b:Z4}(h:Zqd K b)(hK:K≤1000000):Zot b=Zak b:=by
 have hl:=h.len
 unfold Zot Zak
 rw[Qi9 h hK,Zod b (by omega)]
theorem Qly{K:Nat}{r:Qo}(h:Zqd K r.2.1)(hK:K≤1000000):Zj1 r=Yk r:=by
 have hl:=h.len
 obtain⟨v,hv⟩:=Xat h hK
 unfold Zj1 Yk Zxt
 rw[Qi9 h hK,Zod _ (by omega),Xbh h hK,hv,Q00 h hK,Z0i _ (by omega)]
 simp only[Qx6,Zdk,Qhd,Option.bind_some]
 generalize Zxo r.2.1=b1
 cases b1
 ·cases r.2.2.1 !=(-1:Int)<;>rfl
 simp only[Bool.not_true,cond_false,Option.bind_some,Bool.false_or]
 cases hq:Zup r.2.2.2.1
 ·by_cases h1:v>r.2.2.2.1
  ·rw[Zk h1]
   cases r.2.2.1 !=(-1:Int)<;>rfl
  ·rw[Zj h1]
   cases r.2.2.1 !=(-1:Int)<;>rfl
 have hq:=Z57.1 hq
 simp only[Bool.not_true,cond_false,Option.bind_some,Bool.false_or]
 by_cases h1:v>r.2.2.2.1
 ·rw[Zk h1]
  cases r.2.2.1 !=(-1:Int)<;>rfl
 rw[Zj h1]
 simp only[cond_false,Option.bind_some,Bool.false_or]
 cases hc:Zup r.2.2.2.2.1
 ·cases r.2.2.1 !=(-1:Int)<;>rfl
 simp only[Bool.not_true,cond_false,Option.bind_some,Bool.false_or]
 have e: ((r.2.2.1 != -1)&& (!(decide (r.2.2.1≥r.2.2.2.1)&&decide (r.2.2.1≤4611686018427387903))))=((((r.2.2.1 != -1)&& (decide (r.2.2.1<r.2.2.2.1)))|| (decide (r.2.2.1>4611686018427387903)))|| (decide (r.2.2.1< -1))):=by
  rw[Bool.eq_iff_iff]
  simp only[Bool.and_eq_true,bne_iff_ne,ne_eq,Bool.not_eq_true',Bool.and_eq_false_iff,decide_eq_false_iff_not,Bool.or_eq_true,decide_eq_true_eq]
  omega
 by_cases hf:r.2.2.1= -1
 ·rw[hf]
  have e2: ((-1:Int)==r.2.2.2.1)=false:=by rw[beq_eq_false_iff_ne];omega
  have j: ∀b,Vz r b=Ke r b:=fun b=>by
   unfold Vz Ke
   rw[hf,e2];rfl
  simp only[j]
  rfl
 ·have hn: (r.2.2.1 != -1)=true:=by simpa using hf
  rw[hn]at e⊢
  simp only[cond_true,Option.bind_some,Bool.true_and]at e⊢
  rw[e]
  have j: ∀b,Vz r b=Ke r b:=fun b=>by
   unfold Vz Ke
   rw[hn]
   have: (r.2.2.1==r.2.2.2.1)=(r.2.2.2.1==r.2.2.1):=by rw[Bool.eq_iff_iff];simp only[beq_iff_eq];exact eq_comm
   rw[this];rfl
  simp only[j]
  generalize ((((decide (r.2.2.1<r.2.2.2.1)))|| (decide (r.2.2.1>4611686018427387903)))|| (decide (r.2.2.1< -1)))=c
  cases c
  ·simp only[cond_false]
   congr 1
   congr 1
   congr 1
   congr 1
   congr 2
   ac_rfl
  ·rfl
theorem Qwa(c:Zdh):Zn9 c=Y6 c:=rfl
theorem Qwb(w:Kn):Zob w=Jn w:=rfl
theorem Q0e(p:Xq):Ztv p=Zcx p:=rfl
theorem bO{β:Type}{c b:Bool}{f:Bool×Unit→Option β}:Option.bind (bif c then some (false,())else some (b,())) f=f (!c&&b,()):=by cases c<;>rfl
theorem bO2{c b:Bool}: (c|| !(!c&&b))=(c|| !b):=by cases c<;>rfl
theorem bA{β:Type}{c b:Bool}{f:Bool×Unit→Option β}:Option.bind (bif c then some (b,())else some (false,())) f=f (c&&b,()):=by cases c<;>rfl
theorem bA2{c b:Bool}: (c&& (c&&b))=(c&&b):=by cases c<;>rfl
theorem Qjc{K:Nat}{s:Zp}(h:Jo K s)(hK:K≤1000000):Zoa s=Vo s:=by
 obtain⟨b1,e1,-⟩:=Zft h.snd (by omega)
 obtain⟨b2,e2⟩:=Zj3 s.2.2.1
 obtain⟨b3,e3⟩:=Zl3 h.rcv hK
 obtain⟨b4,e4⟩:=Zqr s.2.2.2.2.1
 obtain⟨b5,e5⟩:=Zvp s.2.2.2.2.2.1
 unfold Zoa Vo
 simp only[Q5a h.snd (by omega),Qly h.rcv hK,Qwa,Qwb,Q0e,e1,e2,e3,e4,e5,Zdk,Qx6,Option.bind_some,bO,bO2]
 have n1: (s.2.1.1 !=0)= !(s.2.1.1==0):=rfl
 have n2: (s.2.1.2.1.2.2.1 !=0)= !(s.2.1.2.1.2.2.1==0):=rfl
 have n3: (s.2.1.2.2.2.2.2.1 != -1)= !(s.2.1.2.2.2.2.2.1== -1):=rfl
 rw[n1,n2,n3]
 generalize Zup s.1=q1
 generalize Zup _=q2
 generalize (s.2.1.1==0)=x1
 generalize (s.2.1.2.1.2.2.1==0)=x2
 generalize (s.2.1.2.2.2.2.2.1== -1)=x3
 generalize decide (s.2.1.2.2.2.2.2.2.2.1>s.2.2.1.2.1)=a1
 generalize decide (s.2.2.2.1.2.2.2.1>s.2.2.2.2.1.2.2.2.1)=a2
 generalize (s.2.2.2.2.2.2.2.2.1&& (s.2.1.1 !=4))=a3
 generalize (s.2.2.2.2.2.2.2.2.2.1&& !s.2.2.2.2.2.2.2.2.2.2.2.1)=a4
 generalize ((s.2.2.2.2.2.2.2.2.2.2.2.2.1 !=0)&& !s.2.2.2.2.2.2.2.2.2.2.2.1)=a5
 generalize (((s.2.2.2.1.1==0)&& (s.2.2.2.1.2.2.2.1==0))&& !s.2.2.2.2.2.2.2.2.2.2.2.1)=a6
 generalize s.2.2.2.2.2.2.1=cs
 generalize s.2.2.2.2.2.2.2.1=cr
 cases q1
 ·rfl
 cases b1
 ·cases q2<;>rfl
 cases b2
 ·cases q2<;>rfl
 cases b3
 ·cases q2<;>rfl
 cases b4
 ·cases q2<;>rfl
 cases b5
 ·cases q2<;>rfl
 cases q2
 ·rfl
 clear e1 e2 e3 e4 e5 n1 n2 n3 h
 revert x1 x2 x3 a1 a2 a3 a4 a5 a6 cs cr
 decide
def rgT(r:Ze):List UInt8:=Go.Lib.itoa r.1++ (([45]:List UInt8)++Go.Lib.itoa r.2.1)
def Q79:List Ze→List UInt8
 | []=>[]
 |r::l=>[32]++ (rgT r++Q79 l)
def Qyp:List Ze→List UInt8
 | []=>[110,111,110,101]
 |r::l=>rgT r++Q79 l
def r64(r:Ze):Prop:=(-9223372036854775808≤r.1∧r.1≤9223372036854775807)∧(-9223372036854775808≤r.2.1∧r.2.1≤9223372036854775807)
theorem Q4f{r:Ze}(h:r64 r): (rgT r).length≤43:=by
 have:=Yq r.1 h.1.1 h.1.2
 have:=Yq r.2.1 h.2.1 h.2.2
 simp only[rgT,List.length_append,List.length_singleton];omega
theorem Xeo(r:Ze):rgT r≠[]:=by simp[rgT]
theorem Xa3: ∀{l:List Ze},(∀x∈l,r64 x)→(Qyp l).length≤44*l.length+4
 | [],_=>by simp[Qyp]
 |r::l,h=>by
  have g: ∀{l:List Ze},(∀x∈l,r64 x)→(Q79 l).length≤44*l.length:=by
   intro l
   induction l with
   |nil=>intro _;simp[Q79]
   |cons x l ih=>
    intro h
    have h1:=Q4f (h x (by simp))
    have h2:=ih fun y hy=>h y (by simp[hy])
    simp only[Q79,List.length_append,List.length_cons,List.length_nil];omega
  have h1:=Q4f (h r (by simp))
  have h2:=g (l:=l) fun y hy=>h y (by simp[hy])
  simp only[Qyp,List.length_append,List.length_cons];omega
theorem Q5u{K:Nat}{r:Qo}(h:Zqd K r.2.1)(hK:K≤1000000):T (Yk r) fun q=>q.1=true→Zxo r.2.1=true:=by
 obtain⟨b,e⟩:=Zl3 h hK
 refine⟨_,e,fun hb=> ?_⟩
 by_cases hx:Zxo r.2.1=true
 ·exact hx
 ·have hx:Zxo r.2.1=false:=by simpa using hx
  unfold Yk at e
  rw[Zod _ (by have:=h.len;omega),hx]at e
  simp only[Option.bind_some,Bool.not_false,cond_true,Bool.true_or]at e
  cases e
  cases hb
theorem Xc0{K:Nat}{s:Zp}(h:Jo K s)(hK:K≤1000000):T (Vo s) fun r=>r.1=true→Zup s.1=true∧Zxo s.2.2.2.1.2.1=true∧0≤s.2.1.2.2.2.2.2.2.2.1∧s.2.1.2.2.2.2.2.2.2.1≤s.2.1.2.1.2.2.1:=by
 obtain⟨b1,e1,f1⟩:=Zft h.snd (by omega)
 obtain⟨b2,e2⟩:=Zj3 s.2.2.1
 obtain⟨⟨b3,⟨⟩⟩,e3,f3⟩:=Q5u h.rcv hK
 obtain⟨b4,e4⟩:=Zqr s.2.2.2.2.1
 obtain⟨b5,e5⟩:=Zvp s.2.2.2.2.2.1
 unfold Vo
 simp only[e1,e2,e3,e4,e5,Zdk,Option.bind_some,bO,bO2]
 refine T.ite (fun _=>T.pure fun h=>by cases h) fun hc=> ?_
 have:Zup s.1=true∧b1=true∧b3=true:=by
  simp only[Bool.or_eq_false_iff,Bool.not_eq_false']at hc
  exact⟨hc.1.1.1.1.1.1.1,hc.1.1.1.1.1.1.2,hc.1.1.1.1.2⟩
 have q:Zup s.1=true∧Zxo s.2.2.2.1.2.1=true∧0≤s.2.1.2.2.2.2.2.2.2.1∧s.2.1.2.2.2.2.2.2.2.1≤s.2.1.2.1.2.2.1:=⟨this.1,f3 this.2.2,(f1 this.2.1).2⟩
 exact T.ite (fun _=>T.pure fun _=>q) fun _=>T.pure fun _=>q
theorem Xd8{E:Int}{l:List Ze}(h:RL E l): ∀x∈l,r64 x:=fun x hx=>by
 have:=Q6.1 (Zxg h.1 x hx).2
 unfold r64;omega
def Xay(l:List UInt8):Prop:=l.length≤100000000
theorem Xd9{a b:List UInt8}{n:Nat}(ha:a.length≤n)(hb:Xay b)(hn:n≤10000000000):a.length+b.length≤Z8∧(a++b).length≤n+100000000:=by
 unfold Xay at hb
 unfold Z8
 exact⟨by omega,by simp only[List.length_append];omega⟩
theorem Q9i(c:Zqf):Ztf c=Zb6 c:=by
 unfold Ztf Zb6 Zj2 Zbu
 have e1:decide (c.1≥1)=decide (c.1>0):=by congr 1
 simp only[Qhd,Zth,Option.bind_some,bA,bA2,e1]
 congr 2
 ac_rfl
theorem Q7i(c:Zk2):Zuu c=Zbq c:=rfl
theorem Q7g(c:Zdh):Zut c=Wy c:=rfl
theorem Qpw{K:Nat}{l:List Zp}(h:Zs9 K l)(hK:K≤1000000)(h24:l.length≤24): ∀(N i:Nat),l.length-i<N→i≤l.length→Vy N l l (l.length:Int) (i:Int)=Yc N l (i:Int)
 |0,_,h,_=>by omega
 |N+1,i,hN,hi=>by
  rw[Vy,Yc]
  by_cases hh:i<l.length
  ·have g: ∀{a:Prop},a→decide ((i:Int)>0)=true→0≤IntKind.i64.wrap ((i:Int)-1)∧IntKind.i64.wrap ((i:Int)-1)< (l.length:Int):=fun _ h=>by
    have:=of_decide_eq_true h;rw[Zw (by omega) (by omega)];omega
   obtain⟨b,e⟩:=Zyd (h.all _ (Qu (d:=Zm) hh)) hK
   rw[Zn (Zk (p:=(i:Int)< (l.length:Int)) (by omega)),Zn (Zk (p:=(i:Int)< (l.length:Int)) (by omega)),Zb (by omega),Zb (by omega),show(i:Int).toNat=i from rfl,Qjc (h.all _ (Qu (d:=Zm) hh)) hK,Zj (p:=(i:Int)≥24) (by omega),cond_false,e,Option.bind_some,Option.bind_some]
   simp only[Bool.false_or]
   rw[Zb (fun h h2=>g h h2),Zb (fun h h2=>g h h2),Zb (fun _ _=>by omega),Zq hh (by omega),Qpw h hK h24 N (i+1) (by omega) (by omega)]
  ·rw[Zi (Zj (by omega)),Zi (Zj (by omega)),Zk (by omega)]
theorem Qy8{K:Nat}{l:List Zp}(h:Zs9 K l)(hK:K≤1000000)(h24:24<l.length): ∀(N i:Nat),24-i<N→i≤24→Vy N l l (l.length:Int) (i:Int)=some (false,())
 |0,_,h,_=>by omega
 |N+1,i,hN,hi=>by
  have hl:=h.len
  rw[Vy,Zn (Zk (by omega)),Zb (by omega)]
  have hh:i<l.length:=by omega
  have g: ∀{a:Prop},a→decide ((i:Int)>0)=true→0≤IntKind.i64.wrap ((i:Int)-1)∧IntKind.i64.wrap ((i:Int)-1)< (l.length:Int):=fun _ h=>by
   have:=of_decide_eq_true h;rw[Zw (by omega) (by omega)];omega
  by_cases h4:i=24
  ·rw[Zk (p:=(i:Int)≥24) (by omega),cond_true,Option.bind_some]
   simp only[Bool.true_or]
   rw[Zb (fun h h2=>g h h2),cond_true]
  ·obtain⟨b,e⟩:=Zyd (h.all _ (Qu (d:=Zm) hh)) hK
   rw[show(i:Int).toNat=i from rfl,Zj (p:=(i:Int)≥24) (by omega),cond_false,Qjc (h.all _ (Qu (d:=Zm) hh)) hK,e,Option.bind_some,Zq hh (by omega),Qy8 h hK h24 N (i+1) (by omega) (by omega)]
   simp only[Bool.false_or]
   rw[Zb (fun h h2=>g h h2)]
   generalize (!b||_)=c
   cases c<;>rfl
theorem Z27{K:Nat}{l:List Zp}(h:Zs9 K l)(hK:K≤1000000):Zct l=Yz l:=by
 by_cases h24:l.length≤24
 ·unfold Zct Yz
  exact Qpw h hK h24 _ 0 (by unfold Zcf;omega) (by omega)
 ·obtain⟨⟨b,u⟩,e,hb⟩:=Qlk h hK
  have:b=false:=by
   cases b
   ·rfl
   ·exact absurd (hb rfl) h24
  rw[e,this]
  unfold Zct
  exact Qy8 h hK (by omega) _ 0 (by unfold Zcf;omega) (by omega)
theorem Qt2{K:Nat}{l:List Zp}(h:Zs9 K l)(hK:K≤1000000):Zl1 l=Ze2 l:=by
 obtain⟨b,e⟩:=Zph h hK
 have hl:=h.len
 have lp:b=true→ ∀(N i:Nat) (n:Int),l.length-i<N→i≤l.length→ ∃v,Y5 N () n l (l.length:Int) (i:Int)=some (v,())∧Vd N l n (i:Int)=some (v,()):=by
  intro hb N
  induction N with
  |zero=>intro i n h;omega
  |succ N ih=>
   intro i n hN hi
   rw[Y5,Vd,e,hb]
   by_cases hh:i<l.length
   ·rw[Zk (by omega),cond_true,cond_true,Option.bind_some,Zb (by omega)]
    simp only[Bool.and_self,cond_true]
    rw[Zb (by omega),Zq hh (by omega)]
    exact ih (i+1) _ (by omega) (by omega)
   ·rw[Zj (by omega)]
    exact⟨n,rfl,rfl⟩
 unfold Zl1 Zdj Ze2
 rw[Z27 h hK,e]
 cases b
 ·rw[Kg,Vd,e]
  by_cases hh:0<l.length
  ·rw[Zk (by omega)];rfl
  ·rw[Zj (by omega)];rfl
 ·obtain⟨v,h1,h2⟩:=lp rfl (Kg l 0 0) 0 0 (by unfold Kg;omega) (by omega)
  obtain⟨v',h3,h4⟩:=lp rfl (Xz () 0 l (l.length:Int) 0) 0 0 (by unfold Xz;omega) (by omega)
  have e2:Xz () 0 l (l.length:Int) 0=Kg l 0 0:=rfl
  rw[Int.natCast_zero]at h1 h2 h3 h4
  rw[e2]at h3⊢
  simp only[Option.bind_some,Bool.not_true,cond_false,h1,h2]
theorem Qt1{K:Nat}{l:List Zp}(h:Zs9 K l)(hK:K≤1000000):Zl0 l=Ze1 l:=by
 obtain⟨b,e⟩:=Zph h hK
 have hl:=h.len
 have lp:b=true→ ∀(N i:Nat) (n:Int),l.length-i<N→i≤l.length→ ∃v,Y4 N () n l (l.length:Int) (i:Int)=some (v,())∧Vc N l n (i:Int)=some (v,()):=by
  intro hb N
  induction N with
  |zero=>intro i n h;omega
  |succ N ih=>
   intro i n hN hi
   rw[Y4,Vc,e,hb]
   by_cases hh:i<l.length
   ·rw[Zk (by omega),cond_true,cond_true,Option.bind_some,Zb (by omega)]
    simp only[Bool.and_self,cond_true]
    rw[Zb (by omega),Zq hh (by omega)]
    exact ih (i+1) _ (by omega) (by omega)
   ·rw[Zj (by omega)]
    exact⟨n,rfl,rfl⟩
 unfold Zl0 Zdi Ze1
 rw[Z27 h hK,e]
 cases b
 ·rw[Kf,Vc,e]
  by_cases hh:0<l.length
  ·rw[Zk (by omega)];rfl
  ·rw[Zj (by omega)];rfl
 ·obtain⟨v,h1,h2⟩:=lp rfl (Kf l 0 0) 0 0 (by unfold Kf;omega) (by omega)
  have e2:Vl () 0 l (l.length:Int) 0=Kf l 0 0:=rfl
  rw[Int.natCast_zero]at h1 h2
  rw[e2]
  simp only[Option.bind_some,Bool.not_true,cond_false,h1,h2]
theorem Qv6{l:List Zh}(h:Qpr l)(u:Unit): ∀(N i:Nat),l.length-i<N→i≤l.length→ ∃k b,Qf N l u (l.length:Int) (i:Int)=some (k,())∧decide (k≥0)= !b∧W2 N l (i:Int)=some (b,())
 |0,_,h,_=>by omega
 |N+1,i,hN,hi=>by
  have hl:=h.1
  rw[Qf,W2]
  by_cases hh:i<l.length
  ·have hm:=h.2 _ (Qu (d:=Xk) hh)
   unfold FOK at hm
   unfold Zql
   rw[Zn (Zk (by omega)),Zn (Zk (by omega)),Zb (by omega),Zb (by omega),show(i:Int).toNat=i from rfl,Qes _ (by omega),Zu6 _ (by omega),Option.bind_some,Option.bind_some,Option.bind_some,Zq hh (by omega)]
   obtain⟨k,b,h1,h2,h3⟩:=Qv6 h () N (i+1) (by omega) (by omega)
   cases hc:Zg5 (l.getD i Xk)
   ·exact⟨_,false,rfl,by simp,rfl⟩
   ·exact⟨k,b,h1,h2,h3⟩
  ·rw[Zi (Zj (by omega)),Zi (Zj (by omega))];exact⟨_,true,rfl,by simp,rfl⟩
theorem Q89{l:List Zh}(h:Qpr l): ∃b,Qt l=some (!b,())∧Zio l=some (b,()):=by
 unfold Qt Xn Zio
 obtain⟨k,b,h1,h2,h3⟩:=Qv6 h () (J1 l 0) 0 (by unfold J1;omega) (by omega)
 have e2:Q4 l () (l.length:Int) 0=J1 l 0:=rfl
 rw[Int.natCast_zero]at h1 h3
 exact⟨b,by rw[e2,h1,Option.bind_some,h2],h3⟩
theorem Zqq{K:Nat}{c:Zg}(h:Z9 K c)(hK:K≤1000000):J8 c=Z5 c:=by
 obtain⟨sv,es⟩:=Zyv h.str hK
 obtain⟨nv,en⟩:=Zyu h.str hK
 have hl:=h.pk.1
 obtain⟨r1,w1⟩: ∃r,Zx c.2.2.2.2.2.2.2.2.2.2.2.2.2.1 (-1) 4611686018427387903=some (r,()):=⟨_,rfl⟩
 obtain⟨r2,w2⟩: ∃r,Zx c.2.2.2.2.2.2.2.2.2.2.2.2.2.2.1 0 1000000=some (r,()):=⟨_,rfl⟩
 obtain⟨r3,w3⟩: ∃r,Zx c.2.2.2.2.2.2.2.2.2.2.2.2.2.2.2.2.1 0 1000000=some (r,()):=⟨_,rfl⟩
 obtain⟨r4,w4⟩: ∃r,Zx c.2.2.2.2.2.2.2.2.2.2.2.2.2.2.2.2.2.1 0 255=some (r,()):=⟨_,rfl⟩
 have v1:Z3 c.2.2.2.2.2.2.2.2.2.2.2.2.2.1 (-1) 4611686018427387903=some (r1,()):=w1
 have v2:Z3 c.2.2.2.2.2.2.2.2.2.2.2.2.2.2.1 0 1000000=some (r2,()):=w2
 have v3:Z3 c.2.2.2.2.2.2.2.2.2.2.2.2.2.2.2.2.1 0 1000000=some (r3,()):=w3
 have v4:Z3 c.2.2.2.2.2.2.2.2.2.2.2.2.2.2.2.2.2.1 0 255=some (r4,()):=w4
 have lp: ∀(N i:Nat),c.2.2.2.2.2.2.2.2.2.2.2.2.2.2.2.1.length-i<N→i≤c.2.2.2.2.2.2.2.2.2.2.2.2.2.2.2.1.length→ ∃p,Zec N c.2.2.2.2.2.2.2.2.2.2.2.2.2.2.2.1 c.2.2.2.2.2.2.2.2.2.2.2.2.2.2.1 c.2.2.2.2.2.2.2.2.2.2.2.2.2.2.2.1 (c.2.2.2.2.2.2.2.2.2.2.2.2.2.2.2.1.length:Int) (i:Int)=some (p,())∧
   Ji N c (i:Int)=some (p&& (((((r1&&r2)&&r3)&&r4)&&decide (sv≤c.2.2.2.2.1.2.1))&&decide (nv≤c.2.2.2.2.2.1.2.2.2.1)),()):=by
  intro N
  induction N with
  |zero=>intro i h;omega
  |succ N ih=>
   intro i hN hi
   rw[Zec,Ji]
   by_cases hh:i<c.2.2.2.2.2.2.2.2.2.2.2.2.2.2.2.1.length
   ·have g: ∀{a:Prop},a→decide ((i:Int)>0)=true→0≤IntKind.i64.wrap ((i:Int)-1)∧IntKind.i64.wrap ((i:Int)-1)< (c.2.2.2.2.2.2.2.2.2.2.2.2.2.2.2.1.length:Int):=fun _ h=>by
     have:=of_decide_eq_true h;rw[Zw (by omega) (by omega)];omega
    obtain⟨b,f1,f2⟩:=Q89 (h.pk.2 _ (Qu (d:=Qk) hh))
    rw[Zn (Zk (by omega)),Zn (Zk (by omega)),Zb (by omega),Zb (by omega),show(i:Int).toNat=i from rfl,Qhd,Zth,f1,f2,Option.bind_some,Option.bind_some,Zb (fun h h2=>g h h2),Zb (fun _ _=>by omega),Zb (fun h h2=>g h h2)]
    simp only
    rw[Zb (fun _=>by omega),Zq hh (by omega)]
    obtain⟨p,k1,k2⟩:=ih (i+1) (by omega) (by omega)
    rw[k1,k2]
    generalize (!(_&&_)||_:Bool)=q
    cases q
    ·cases b
     ·exact⟨false,rfl,rfl⟩
     ·exact⟨p,rfl,rfl⟩
    ·exact⟨false,rfl,rfl⟩
   ·rw[Zi (Zj (by omega)),Zi (Zj (by omega))]
    refine⟨true,rfl,?_⟩
    simp only[w1,w2,w3,w4,Option.bind_some,bA,bA2,es,en,Bool.true_and]
    generalize (((r1&&r2)&&r3)&&r4)=q
    cases q
    ·rfl
    ·simp only[cond_true,Option.bind_some,Bool.true_and]
     by_cases hs:sv≤c.2.2.2.2.1.2.1
     ·rw[Zk hs];rfl
     ·rw[Zj hs];rfl
 obtain⟨p,k1,k2⟩:=lp (Ks c 0) 0 (by unfold Ks;omega) (by omega)
 have e2:Zho c.2.2.2.2.2.2.2.2.2.2.2.2.2.2.2.1 c.2.2.2.2.2.2.2.2.2.2.2.2.2.2.1 c.2.2.2.2.2.2.2.2.2.2.2.2.2.2.2.1 (c.2.2.2.2.2.2.2.2.2.2.2.2.2.2.2.1.length:Int) 0=Ks c 0:=rfl
 rw[Int.natCast_zero]at k1 k2
 obtain⟨b1,e1⟩:=Zqp c.2.1
 obtain⟨b2,e2'⟩:=Zqp c.2.2.1
 obtain⟨b3,e3⟩:=Zph h.str hK
 obtain⟨b4,e4⟩:=Zj3 c.2.2.2.2.1
 obtain⟨b5,e5⟩:=Zqr c.2.2.2.2.2.1
 obtain⟨b6,e6⟩:=Zwu c.2.2.2.2.2.2.1
 obtain⟨b7,e7⟩:=Zwu c.2.2.2.2.2.2.2.1
 obtain⟨b8,e8⟩:=Zso c.2.2.2.2.2.2.2.2.1
 obtain⟨b9,e9⟩:=Zso c.2.2.2.2.2.2.2.2.2.1
 unfold J8 Z5 Zt0
 simp only[Q9i,Z27 h.str hK,Qwa,Qwb,Q7i,Q7g,Qt2 h.str hK,Qt1 h.str hK,e1,e2',e3,e4,e5,e6,e7,e8,e9,e2,k1,k2,es,en,v1,v2,v3,v4,Option.bind_some,bO,bO2]
 cases b1
 ·rfl
 cases b2
 ·rfl
 cases b3
 ·rfl
 cases b4
 ·rfl
 cases b5
 ·rfl
 cases b6
 ·rfl
 cases b7
 ·rfl
 cases b8
 ·rfl
 cases b9
 ·rfl
 simp only[Bool.not_true,Bool.or_self,cond_false]
 cases p
 ·cases r1<;>cases r2<;>cases r3<;>cases r4<;>rfl
 simp only[cond_true,Option.bind_some,Bool.true_and]
 by_cases hs:sv≤c.2.2.2.2.1.2.1
 ·rw[Zk hs]
  cases r1<;>cases r2<;>cases r3<;>cases r4<;>rfl
 ·rw[Zj hs]
  cases r1<;>cases r2<;>cases r3<;>cases r4<;>rfl
theorem Qzn(c:Zdh):Ztu c=Zag c:=rfl
theorem Q7t(w:Kn):Zzy w=Zrd w:=rfl
theorem Q3s(c:Zdh):T (Y6 c) fun r=>r.1=true→0≤c.2.1∧c.2.1≤c.1∧c.1≤4611686018427387903:=by
 unfold Y6
 simp only[Zdk,Zth,Option.bind_some,bA,bA2]
 refine T.pure fun h=> ?_
 simp only[Bool.and_eq_true,Z57,decide_eq_true_eq]at h
 omega
theorem Q4p(w:Kn):T (Jn w) fun r=>r.1=true→0≤w.2.2.2.1∧w.2.2.2.1≤w.2.2.1∧w.2.2.1≤4611686018427387903:=by
 unfold Jn
 have B: ∀{b:Bool} {n l h:Int} {β:Type} {f:Bool×Unit→Option β} {R:β→Prop},(∀r:Bool×Unit,(r.1=true→l≤n∧n≤h)→T (f r) R)→T (Option.bind (bif b then Zx n l h else some (false,())) f) R:=fun k=>T.bind (T.if (inT _ _ _) (T.pure fun h=>by cases h)) k
 exact(inT _ _ _).bind fun t1 h1=>B fun t2 h2=>B fun t3 h3=>B fun t4 h4=>B fun t5 h5=>B fun t6 h6=>T.pure fun h=>by
  simp only[Bool.and_eq_true]at h
  have:=h3 h.1.1.1.1.2
  have:=h4 h.1.1.1.2
  omega
theorem Qls(c:Zdh):T (Zag c) fun r=>0≤r.1∧r.1≤4611686018427387903:=by
 unfold Zag
 refine(Q3s c).bind fun t ht=>T.ite (fun _=>T.pure (by simp)) fun h=>T.pure ?_
 have:=ht (by simpa using h)
 simp only
 rw[Zw (by omega) (by omega)];omega
theorem Q0j(w:Kn):T (Zrd w) fun r=>0≤r.1∧r.1≤4611686018427387903:=by
 unfold Zrd
 refine(Q4p w).bind fun t ht=>T.ite (fun _=>T.pure (by simp)) fun h=>T.pure ?_
 have:=ht (by simpa using h)
 simp only
 rw[Zw (by omega) (by omega)];omega
theorem Qln{K:Nat}{c:Zg}(h:Z9 K c)(hK:K≤1000000): ∃v,Zjj c=some (v,())∧Zjc c=some (v,())∧0≤v∧v≤1000000000000:=by
 obtain⟨⟨b,u⟩,e,hb⟩:=Qpb h hK
 have lp:b=true→ ∀(N i:Nat) (n:Int),c.2.2.2.1.length-i<N→i≤c.2.2.2.1.length→0≤n→n≤i*1000000→ ∃v,Zau N n c.2.2.2.1 (c.2.2.2.1.length:Int) (i:Int)=some (v,())∧Vg N c n (i:Int)=some (v,())∧0≤v∧v≤1000000000000:=by
  intro hbt N
  have h24:=hb hbt
  induction N with
  |zero=>intro i n h;omega
  |succ N ih=>
   intro i n hN hi h0 h1
   rw[Zau,Vg,e,hbt]
   by_cases hh:i<c.2.2.2.1.length
   ·have hs:=(h.str.all _ (Qu (d:=Zm) hh)).snd
    have hc:=Z84 hs.flight hs.e0
    have heK:=hs.eK
    have lF:=Xm hs.flight hs.e0 hs.eK (by omega)
    rw[Zk (by omega),cond_true,cond_true,Option.bind_some,Zb (by omega)]
    simp only[Bool.and_self,cond_true]
    rw[Zb (by omega),show(i:Int).toNat=i from rfl,Zbl _ (by omega),Zn6 _ (by omega),Option.bind_some,Option.bind_some,hs.flight.1]
    simp only[if_true]
    rw[Zq hh (by omega),Zw (by omega) (by omega)]
    exact ih (i+1) _ (by omega) (by omega) (by omega) (by omega)
   ·rw[Zj (by omega)]
    exact⟨n,rfl,rfl,h0,by omega⟩
 unfold Zjc Zjj
 rw[Zqq h hK,e]
 cases b
 ·rw[Je,Vg,e]
  by_cases hh:0<c.2.2.2.1.length
  ·rw[Zk (by omega)];exact⟨0,rfl,rfl,by omega,by omega⟩
  ·rw[Zj (by omega)];exact⟨0,rfl,rfl,by omega,by omega⟩
 ·obtain⟨v,h1,h2,h3⟩:=lp rfl (Je c 0 0) 0 0 (by unfold Je;omega) (by omega) (by omega) (by omega)
  rw[Int.natCast_zero]at h1 h2
  exact⟨v,h2,h1,h3⟩
theorem Qzl{K:Nat}{c:Zg}(h:Z9 K c)(hK:K≤1000000)(u:Unit)(e:Z5 c=some (true,u)):0≤c.2.2.2.2.2.2.2.2.2.2.2.2.2.2.2.2.2.1∧c.2.2.2.2.2.2.2.2.2.2.2.2.2.2.2.2.2.1≤255:=by
 have lp: ∀(N i:Nat),c.2.2.2.2.2.2.2.2.2.2.2.2.2.2.2.1.length-i<N→i≤c.2.2.2.2.2.2.2.2.2.2.2.2.2.2.2.1.length→T (Ji N c (i:Int)) fun r=>r.1=true→0≤c.2.2.2.2.2.2.2.2.2.2.2.2.2.2.2.2.2.1∧c.2.2.2.2.2.2.2.2.2.2.2.2.2.2.2.2.2.1≤255:=by
  intro N
  induction N with
  |zero=>intro i h;omega
  |succ N ih=>
   intro i hN hi
   have hl:=h.pk.1
   unfold Ji
   refine T.ite (fun hc=> ?_) fun _=> ?_
   ·have hc:=of_decide_eq_true hc
    refine T.guard (by omega) ((tIn _ _ _).bind fun t _=>T.guard (fun _ _=>by omega) (T.guard (fun _ h=> ?_) (T.guard (fun _=>by omega) (T.bind (Q:=fun _=>True) (T.if T.tt (Qjd (h.pk.2 _ (Qu (by omega))))) fun t2 _=>T.if (T.pure fun h=>by cases h) ?_))))
    ·have:=of_decide_eq_true h
     rw[Zw (by omega) (by omega)];omega
    ·rw[Zq (m:=c.2.2.2.2.2.2.2.2.2.2.2.2.2.2.2.1.length) (by omega) (by omega)]
     exact ih (i+1) (by omega) (by omega)
   ·exact(tIn _ _ _).bind fun t _=>T.bind (Q:=fun _=>True) (T.if (tIn _ _ _) T.tt) fun t _=>T.bind (Q:=fun _=>True) (T.if (tIn _ _ _) T.tt) fun t _=>T.bind (T.if (inT _ _ _) (T.pure fun h=>by cases h)) fun t ht=>
     T.bind (Q:=fun _=>True) (T.if (tt1 (Zyv h.str hK)) T.tt) fun t _=>T.bind (Q:=fun _=>True) (T.if (tt1 (Zyu h.str hK)) T.tt) fun t _=>T.pure fun h=>ht (by simp only[Bool.and_eq_true]at h;exact h.1.1.2)
 have key:T (Z5 c) fun r=>r.1=true→0≤c.2.2.2.2.2.2.2.2.2.2.2.2.2.2.2.2.2.1∧c.2.2.2.2.2.2.2.2.2.2.2.2.2.2.2.2.2.1≤255:=by
  unfold Z5
  have B: ∀{α β:Type} {b:Bool} {m n:Option α} {f:α→Option β} {R:β→Prop},TT m→TT n→(∀y,T (f y) R)→T (Option.bind (bif b then m else n) f) R:=fun h1 h2 h3=>(T.if h1 h2).bind fun y _=>h3 y
  exact(tt1 (Zqp _)).bind fun t _=>B T.tt (tt1 (Zqp _)) fun t=>B T.tt (tt1 (Zph h.str hK)) fun t=>B T.tt (tt1 (Zj3 _)) fun t=>B T.tt (tt1 (Zqr _)) fun t=>B T.tt (tt1 (Zwu _)) fun t=>B T.tt (tt1 (Zwu _)) fun t=>B T.tt (tt1 (Zso _)) fun t=>B T.tt (tt1 (Zso _)) fun t=>
   T.if (T.pure fun h=>by cases h) (lp _ 0 (by unfold Ks;omega) (by omega))
 obtain⟨y,e1,h1⟩:=key
 rw[e]at e1
 cases e1
 exact h1 rfl
theorem Qzm{K:Nat}{c:Zg}(h:Z9 K c)(hK:K≤1000000): ∃t,Zcw c=some (t,())∧Zj0 c=some (t,()):=by
 have hls:=h.str.len
 have hlp:=h.pk.1
 obtain⟨⟨b,u⟩,e,hb⟩:=Qpb h hK
 obtain⟨⟨v1,u1⟩,e1,f1⟩:=Qls c.2.2.2.2.1
 obtain⟨⟨v2,u2⟩,e2,f2⟩:=Q0j c.2.2.2.2.2.1
 obtain⟨v3,e3,e3',f3⟩:=Qln h hK
 unfold Zcw Zj0 Wq Zxr
 rw[Zqq h hK,e,Option.bind_some,Option.bind_some]
 cases b
 ·exact⟨_,rfl,rfl⟩
 have hc:=Qzl h hK u e
 simp only at f1 f2
 have i1:=Yq c.2.2.2.2.2.2.2.2.2.2.2.2.2.2.2.2.2.1 (by omega) (by omega)
 have i2:=Yq (c.2.2.2.1.length:Int) (by omega) (by omega)
 have i3:=Yq v1 (by omega) (by omega)
 have i4:=Yq v2 (by omega) (by omega)
 have i5:=Yq (c.2.2.2.2.2.2.2.2.2.2.2.2.2.2.2.1.length:Int) (by omega) (by omega)
 have i6:=Yq v3 (by omega) (by omega)
 simp only[Bool.not_true,cond_false,Option.bind_some,Qzn,Q7t,e1,e2,e3,e3',Zcs c.2.2.2.2.2.2.2.2.2.2.2.2.2.2.2.2.2.1 (by omega) (by omega),Zfd c.2.2.2.2.2.2.2.2.2.2.2.2.2.2.2.2.2.1 (by omega) (by omega),Zcs (c.2.2.2.1.length:Int) (by omega) (by omega),Zfd (c.2.2.2.1.length:Int) (by omega) (by omega),Zcs v1 (by omega) (by omega),Zfd v1 (by omega) (by omega),Zcs v2 (by omega) (by omega),Zfd v2 (by omega) (by omega),Zcs (c.2.2.2.2.2.2.2.2.2.2.2.2.2.2.2.1.length:Int) (by omega) (by omega),Zfd (c.2.2.2.2.2.2.2.2.2.2.2.2.2.2.2.1.length:Int) (by omega) (by omega),Zcs v3 (by omega) (by omega),Zfd v3 (by omega) (by omega)]
 cases c.2.2.2.2.2.2.2.2.2.2.2.2.2.2.2.2.2.1 !=0
 ·rw[cond_false]
  repeat rw[Zb (by unfold Z8;simp only[List.length_append,List.length_cons,List.length_nil];omega)]
  exact⟨_,rfl,rfl⟩
 ·rw[cond_true]
  repeat rw[Zb (by unfold Z8;simp only[List.length_cons,List.length_nil];omega)]
  exact⟨_,rfl,rfl⟩
theorem Q5l(s:List UInt8):Ztg s=(bif s==([]:List UInt8)then some (([110,111,110,101]:List UInt8),())else some (s,())):=by
 unfold Ztg Zm4
 cases h:s==([]:List UInt8)<;>rfl
noncomputable def Z3r(f:Zh):List UInt8:=match Ju f with|some (r,_)=>r|none=>[]
def fok(f:Zh):Prop:=f.2.2.2.1.length≤1048576
theorem Zx4(f:Zh)(h:fok f):Ju f=some (Z3r f,())∧Zd1 f=some (Z3r f,())∧(Z3r f).length≤2000:=by
 obtain⟨r,h1,h2,h3⟩:=Qsb f h
 have e:Z3r f=r:=by unfold Z3r;rw[h1]
 rw[e]
 exact⟨h1,h2,h3⟩
def Q7w(s:List UInt8):Option (List UInt8×Unit):=bif s==([]:List UInt8)then some (([110,111,110,101]:List UInt8),())else some (s,())
theorem Q1c(l:List Zh)(ho: ∀x∈l,fok x)(hl:l.length≤1048576):Zgg l=Q7w (Go.Lib.join (l.map Z3r) [59,32]):=by
 unfold Zgg
 refine Q08 (d:=Xk) (ok:=fok) (K:=2000) (fun x hx=>(Zx4 x hx).2.2) (L:=Yo) (fin:=Q7w) ?_ ?_ _ l [] 0 ho hl (by omega) (by unfold Zfq;omega) (by simp[Go.Lib.join_nil])
 ·intro N l s i h hl hx hs
  have hs:s.length≤2099249152:=hs
  obtain⟨f1,_,l1⟩:=Zx4 _ hx
  conv=>lhs;unfold Yo Zgh
  rw[Zn (Zk (by omega))]
  have e: (i:Int).toNat=i:=rfl
  have key: ∀s':List UInt8,s'.length≤2099249154→(Zc (0≤(i:Int)∧(i:Int)<l.length)<|
    Option.bind (Ju (l.getD (i:Int).toNat Xk)) fun t20=>
    Zc (s'.length+t20.1.length≤Z8)<|
    Yo N l (s'++t20.1) (IntKind.i64.wrap ((i:Int)+ (1:Int))))=Yo N l (s'++Z3r (l.getD i Xk)) ((i+1:Nat):Int):=by
   intro s' hs'
   rw[e,Zb (by omega),f1]
   simp only[Option.bind_some]
   rw[Zb (by simp only[Z8];omega),Zq h (by omega)]
  by_cases h0:0<i
  ·rw[Zn (Zk (by omega)),Zb (by simp only[List.length_cons,List.length_nil,Z8];omega),if_pos h0]
   exact key (s++ [59,32]) (by simp only[List.length_append,List.length_cons,List.length_nil];omega)
  ·rw[Zi (Zj (by omega)),if_neg h0]
   exact key s (by omega)
 ·intro N l s
  unfold Yo
  rw[Zi (Zj (by omega))]
  rfl
theorem Q0d(l:List Zh)(ho: ∀x∈l,fok x)(hl:l.length≤1048576):Zf2 l=Q7w (Go.Lib.join (l.map Z3r) [59,32]):=by
 unfold Zf2
 have hj: (Go.Lib.join (l.map Z3r) [59,32]).length≤2099249152:=by
  refine Nat.le_trans (Qsn [59,32] 2000 _ fun x hx=> ?_) ?_
  ·obtain⟨y,hy,rfl⟩:=List.mem_map.1 hx
   exact(Zx4 y (ho y hy)).2.2
  ·rw[List.length_map,List.length_cons,List.length_cons,List.length_nil];omega
 refine Eq.trans (Qwp (d:=Xk) (ok:=fok) (txt:=Z3r) (L:=Wb) (fin:=fun out=>Option.bind (Zjy out ([59,32]:List UInt8)) fun t27=>Option.bind (Ztg t27.1) fun t28=>some (t28.1,())) ?_ ?_ _ l [] 0 ho hl (by omega) (by unfold Zfn;omega) (by simp)) ?_
 rotate_left 2
 ·show Option.bind (Zjy (l.map Z3r) [59,32]) _=_
  unfold Zjy
  rw[Zb ⟨by rw[List.length_map];omega,by omega⟩]
  simp only[Option.bind_some,Q5l]
  unfold Q7w
  cases Go.Lib.join (l.map Z3r) [59,32]==[]<;>rfl
 ·intro N out l i h hl hx hout
  obtain⟨_,f1,l1⟩:=Zx4 _ hx
  conv=>lhs;unfold Wb
  have e: (i:Int).toNat=i:=rfl
  rw[Zn (Zk (by omega)),Zb (by omega),e,f1]
  simp only[Option.bind_some]
  rw[Zb (by simp only[List.length_cons,List.length_nil,Qp];omega),Zq h (by omega)]
 ·intro N out l
  unfold Wb
  rw[Zi (Zj (by omega))]
def Xdg(x:Zlv):List UInt8:=(Go.Lib.itoa x.1++ ([58]:List UInt8))++Go.Lib.itoa (x.2.1.length:Int)
def lok(x:Zlv):Prop:=(-9223372036854775808≤x.1∧x.1≤9223372036854775807)∧x.2.1.length≤1048576
theorem Xdh(x:Zlv)(h:lok x): (Xdg x).length≤43:=by
 have l1:=Yq x.1 h.1.1 h.1.2
 have l2:=Yq (x.2.1.length:Int) (by omega) (by have:=h.2;omega)
 unfold Xdg
 simp only[List.length_append,List.length_cons,List.length_nil];omega
theorem orQ{a b:Int}{n:Nat}(hn:n≤62)(ha:0≤a)(ha':a< (2^n:Nat))(hb:0≤b)(hb':b< (2^n:Nat)):0≤bits .or .i64 a b∧bits .or .i64 a b< (2^n:Nat):=by
 have h:bits .or .i64 a b=IntKind.i64.wrap (((BitVec.ofInt 64 a|||BitVec.ofInt 64 b).toNat:Nat):Int):=rfl
 have hp:2^n≤2^62:=Nat.pow_le_pow_right (by omega) hn
 have e: ∀x:Int,0≤x→x< (2^n:Nat)→(BitVec.ofInt 64 x).toNat=x.toNat:=fun x h0 h1=>by
  rw[BitVec.toNat_ofInt]
  have: ((2^n:Nat):Int)≤((2^62:Nat):Int):=by exact_mod_cast hp
  rw[Int.emod_eq_of_lt h0 (by omega)]
 have hl: (BitVec.ofInt 64 a|||BitVec.ofInt 64 b).toNat<2^n:=by
  rw[BitVec.toNat_or,e a ha ha',e b hb hb']
  exact Nat.or_lt_two_pow (by omega) (by omega)
 rw[h,Zw (by omega) (by omega)]
 constructor
 ·omega
 ·exact_mod_cast hl
theorem Xc8(b:UInt8):0≤IntKind.i64.wrap (bits .and .u8 (b.toNat:Int) 63)∧IntKind.i64.wrap (bits .and .u8 (b.toNat:Int) 63)<64:=by
 have h:bits .and .u8 (b.toNat:Int) 63=IntKind.u8.wrap (((BitVec.ofInt 8 (b.toNat:Int)&&&BitVec.ofInt 8 63).toNat:Nat):Int):=rfl
 have hl: (BitVec.ofInt 8 (b.toNat:Int)&&&BitVec.ofInt 8 63).toNat≤63:=by
  rw[BitVec.toNat_and]
  exact Nat.le_trans Nat.and_le_right (by decide)
 have hu:IntKind.u8.wrap (((BitVec.ofInt 8 (b.toNat:Int)&&&BitVec.ofInt 8 63).toNat:Nat):Int)=(((BitVec.ofInt 8 (b.toNat:Int)&&&BitVec.ofInt 8 63).toNat:Nat):Int):=by
  simp only[IntKind.wrap,IntKind.bits,IntKind.signed,Bool.false_and,Bool.false_eq_true,if_false]
  omega
 rw[h,hu,Zw (by omega) (by omega)]
 omega
def QR(s:List UInt8)(at':Int)(r:Int×Int×Bool×Unit):Prop:=r.2.2.1=true→0≤r.1∧r.1<4611686018427387904∧at'<r.2.1∧r.2.1≤s.length
theorem Q6x(s:List UInt8)(hs:s.length≤1000000)(a k:Nat)(hk:k≤8)(h1:1≤k)(ha:a+k≤s.length): ∀(N i:Nat) (n:Int),k-i<N→1≤i→i≤k→0≤n→n< (2^ (8*i-2):Nat)→T (Zek N s (a:Int) (k:Int) n (i:Int)) (QR s a)
 |0,_,_,h,_,_,_,_=>by omega
 |N+1,i,n,hN,hi,hik,h0,hn=>by
  unfold Zek
  refine T.ite (fun hd=> ?_) fun hd=>T.pure fun _=> ?_
  ·have hd:=of_decide_eq_true hd
   have e:IntKind.i64.wrap ((a:Int)+i)=((a+i:Nat):Int):=by rw[Zw (by omega) (by omega)];omega
   have e1:IntKind.i64.wrap ((i:Int)+1)=((i+1:Nat):Int):=by rw[Zw (by omega) (by omega)];omega
   rw[e,e1]
   refine T.guard (by omega) (T.guard (by omega) ?_)
   have hb:=(s.getD (a+i) 0).toNat_lt
   have hp:2^ (8* (i+1)-2)=2^ (8*i-2)*256:=by rw[show 8* (i+1)-2=8*i-2+8 by omega,Nat.pow_add]
   have hp1:2^14≤2^ (8* (i+1)-2):=Nat.pow_le_pow_right (by omega) (by omega)
   have hp2:2^ (8* (i+1)-2)≤2^62:=Nat.pow_le_pow_right (by omega) (by omega)
   have hw:IntKind.i64.wrap (n*2^ (min (8:Int).toNat IntKind.i64.bits))=n*256:=by
    rw[show(min (8:Int).toNat IntKind.i64.bits)=8 from rfl,show(2:Int)^8=256 from rfl]
    exact Zw (by omega) (by omega)
   have hw2:IntKind.i64.wrap ((s.getD ((a+i:Nat):Int).toNat 0).toNat:Int)=((s.getD (a+i) 0).toNat:Int):=by
    rw[show((a+i:Nat):Int).toNat=a+i from rfl]
    exact Zw (by omega) (by omega)
   rw[hw,hw2]
   have o:=orQ (a:=n*256) (b:=((s.getD (a+i) 0).toNat:Int)) (n:=8* (i+1)-2) (by omega) (by omega) (by omega) (by omega) (by omega)
   exact Q6x s hs a k hk h1 ha N (i+1) _ (by omega) (by omega) (by omega) o.1 o.2
  ·have hd:=of_decide_eq_false hd
   have hp2:2^ (8*i-2)≤2^62:=Nat.pow_le_pow_right (by omega) (by omega)
   simp only
   rw[Zw (by omega) (by omega)]
   omega
theorem Xdb(s:List UInt8)(hs:s.length≤1000000)(a:Int)(ha: -1000000≤a∧a≤1000000):T (Zj9 s a) (QR s a):=by
 unfold Zj9
 refine T.ite (fun _=>T.pure (by unfold QR;simp)) fun hc=> ?_
 simp at hc
 obtain⟨a,rfl⟩:=Int.eq_ofNat_of_zero_le hc.1
 refine T.guard (by omega) (T.guard (by omega) ?_)
 have hb:=(s.getD a 0).toNat_lt
 have e6: ((2:Int)^ (min (6:Int).toNat IntKind.u8.bits))=64:=rfl
 simp only[e6,show(a:Int).toNat=a from rfl]
 have hd: ((s.getD a 0).toNat:Int).fdiv 64=(((s.getD a 0).toNat/64:Nat):Int):=by
  rw[Int.fdiv_eq_ediv_of_nonneg _ (by omega)];rfl
 rw[hd]
 have hq: (s.getD a 0).toNat/64≤3:=by omega
 obtain⟨k,hk1,hk8,hk⟩: ∃k:Nat,1≤k∧k≤8∧IntKind.i64.wrap (1*2^ (min (((s.getD a 0).toNat/64:Nat):Int).toNat IntKind.i64.bits))=(k:Int):=by
  generalize (s.getD a 0).toNat/64=q at hq
  match q,hq with
  |0,_=>exact⟨1,by omega,by omega,rfl⟩
  |1,_=>exact⟨2,by omega,by omega,rfl⟩
  |2,_=>exact⟨4,by omega,by omega,rfl⟩
  |3,_=>exact⟨8,by omega,by omega,rfl⟩
  |n+4,h=>omega
 refine T.guard (by omega) ?_
 rw[hk]
 refine T.ite (fun _=>T.pure (by unfold QR;simp)) fun hl=>T.guard (by omega) ?_
 have hl:=of_decide_eq_false hl
 rw[Zw (by omega) (by omega)]at hl
 have m:=Xc8 (s.getD a 0)
 exact Q6x s hs a k hk8 hk1 (by omega) _ 1 _ (by unfold Zh0;omega) (by omega) hk1 m.1 (by simpa using m.2)
def RR(s:List UInt8)(a:Int)(n:Nat)(r:List Int×Int×Bool×Unit):Prop:=0<r.1.length∧r.1.length≤3∧(r.2.2.1=true→a<r.2.1∧r.2.1≤s.length∧r.1.length=n)
theorem Q78(s:List UInt8)(hs:s.length≤1000000)(a:Int)(n:Nat)(h1:1≤n)(h3:n≤3): ∀(N i:Nat) (b:Int) (out:List Int),n-i<N→i≤n→out.length=i→(-1000000≤b∧b≤1000000)→(i=0→b=a)→(0<i→a<b∧b≤s.length)→T (Zmx N s b (n:Int) out (i:Int)) (RR s a n)
 |0,_,_,_,h,_,_,_,_,_=>by omega
 |N+1,i,b,out,hN,hi,ho,hb,hb0,hb1=>by
  unfold Zmx
  refine T.ite (fun hd=> ?_) fun hd=>T.pure ⟨by simp only;have:=of_decide_eq_false hd;omega,by simp only;omega,fun _=> ?_⟩
  ·have hd:=of_decide_eq_true hd
   refine(Xdb s hs b hb).bind fun r hr=>T.ite (fun _=>T.pure ⟨by simp,by simp,by simp⟩) fun hk=>T.guard (by unfold Qp;simp only[List.length_singleton];omega) ?_
   have hr:=hr (by simpa using hk)
   rw[Zw (n:=(i:Int)+1) (by omega) (by omega)]
   exact Q78 s hs a n h1 h3 N (i+1) _ _ (by omega) (by omega) (by simp;omega) (by omega) (by omega) (fun _=>by
    by_cases h:i=0
    ·have:=hb0 h;omega
    ·have:=hb1 (by omega);omega)
  ·have hd:=of_decide_eq_false hd
   have:=hb1 (by omega)
   simp only
   omega
theorem Wm(s:List UInt8)(hs:s.length≤1000000)(a:Int)(ha: -1000000≤a∧a≤1000000)(n:Nat)(h1:1≤n)(h3:n≤3):T (Ztr s a (n:Int)) (RR s a n):=by
 unfold Ztr
 exact Q78 s hs a n h1 h3 _ 0 a [] (by unfold Zn4;omega) (by omega) rfl ha (fun _=>rfl) (by omega)
def FR(s:List UInt8)(a:Int)(r:Zh×Int×Bool×Unit):Prop:=r.2.2.1=true→a<r.2.1∧r.2.1≤s.length∧(r.1.2.2.2.1.length:Int)+1≤r.2.1-a
theorem FR.no{s:List UInt8}{a:Int}{f:Zh}{i:Int}:FR s a (f,i,false,()):=by unfold FR;simp
theorem Q7p(s:List UInt8)(hs:s.length≤1000)(a:Int)(ha:0≤a∧a≤s.length)(k:Int):T (Zs6 s a k) (FR s a):=by
 have j3: ∀(t f:Zh) (n z:Int),a<n→0≤z→n+z≤s.length→T (Ziz s t f n z) (FR s a):=fun t f n z h1 h2 h3=>by
  unfold Ziz
  rw[Zw (n:=n+z) (by omega) (by omega)]
  have hl: (((s.drop n.toNat).take ((n+z).toNat-n.toNat)).length:Int)≤z:=by rw[List.length_take];omega
  exact T.guard (by omega) ((Zwv (by unfold FOK;simp only;omega)).bind fun r _=>T.if (T.pure FR.no) (T.pure fun _=>by simp only;omega))
 have j2: ∀(t f:Zh) (n:Int),a<n→n≤s.length→T (Ziy s k t f n) (FR s a):=fun t f n h1 h2=>by
  unfold Ziy
  refine T.if ((Xdb s (by omega) n (by omega)).bind fun r hr=>T.ite (fun _=>T.pure FR.no) fun hk=> ?_) ?_
  ·simp at hk
   have hr:=hr hk.1
   have h:=hk.2
   rw[Zw (by omega) (by omega)]at h
   exact j3 _ _ _ _ (by omega) (by omega) (by omega)
  ·rw[Zw (by omega) (by omega)]
   exact j3 _ _ _ _ h1 (by omega) (by omega)
 have j1: ∀(t f:Zh) (n:Nat),1≤n→n≤2→T (Zix s a k t f (n:Int)) (FR s a):=fun t f n h1 h2=>by
  unfold Zix
  refine(Wm s (by omega) a (by omega) n h1 (by omega)).bind fun r hr=>T.ite (fun _=>T.pure FR.no) fun hk=>T.guard (by have:=hr.1;omega) ?_
  have q:=hr.2.2 (by simpa using hk)
  refine T.ite (fun hn=>T.guard ?_ (j2 _ _ _ q.1 q.2.1)) fun _=>j2 _ _ _ q.1 q.2.1
  have hn:=eq_of_beq hn
  omega
 unfold Zs6
 exact T.if (j1 _ _ 2 (by omega) (by omega)) (j1 _ _ 1 (by omega) (by omega))
theorem Qyx{k:Int}(h:0≤k){n:Nat}(hn:0<n):0≤Int.tmod k (n:Int)∧Int.tmod k (n:Int)<n:=
 ⟨Int.tmod_nonneg _ h,Int.tmod_lt_of_pos _ (by omega)⟩
theorem Q6w(s:List UInt8)(hs:s.length≤1000)(a:Int)(ha:0≤a∧a<s.length):T (Znb s a) (FR s a):=by
 have j2: ∀(t f:Zh) (n:Int) (b:Bool),f.2.2.2.1=[]→(b=true→a<n∧n≤s.length)→T (J6 t f n b) (FR s a):=fun t f n b hf h=>by
  unfold J6
  refine T.bind (Q:=fun _=>True) (T.if T.tt (Zwv (by unfold FOK;rw[hf];simp))) fun r _=>T.ite (fun _=>T.pure FR.no) fun hk=>T.pure fun _=> ?_
  simp at hk
  have:=h hk.1
  simp only[hf,List.length_nil]
  omega
 have j3: ∀(t f:Zh) (l:List Int) (n:Int) (b q:Bool),f.2.2.2.1=[]→0<l.length→(b=true→a<n∧n≤s.length)→T (Zc6 t f l n b q) (FR s a):=fun t f l n b q hf hl h=>by
  unfold Zc6
  exact T.if (T.guard (by omega) (T.guard (by omega) (T.guard (Qyx (by omega) hl) (j2 _ _ _ _ hf h)))) (T.guard (by omega) (j2 _ _ _ _ hf h))
 have j1: ∀(t f:Zh) (n:Nat),1≤n→n≤3→f.2.2.2.1=[]→T (J5 s a t f (n:Int)) (FR s a):=fun t f n h1 h3 hf=>by
  unfold J5
  rw[Zw (by omega) (by omega)]
  refine(Wm s (by omega) _ (by omega) n h1 h3).bind fun r hr=> ?_
  have hl:=hr.1
  have h:r.2.2.1=true→a<r.2.1∧r.2.1≤s.length:=fun hk=>by have:=hr.2.2 hk;omega
  have m1:=Qyx (k:=1) (by omega) hl
  have m2:=Qyx (k:=2) (by omega) hl
  exact T.if (T.guard (by omega) (T.guard (by omega) (T.guard m1 (T.guard (by omega) (T.guard m2 (j2 _ _ _ _ hf h)))))) (T.if (T.guard (by omega) (T.guard (by omega) (T.guard m1 (j2 _ _ _ _ hf h)))) (T.if (j3 _ _ _ _ _ _ hf hl h) (j3 _ _ _ _ _ _ hf hl h)))
 have j5: ∀(t f:Zh) (k:Int) (q:Bool),f.2.2.2.1=[]→T (Zc7 s a t k f 1 q) (FR s a):=fun t f k q hf=>by
  unfold Zc7
  exact T.if (j1 _ _ 1 (by omega) (by omega) hf) (j1 _ _ 1 (by omega) (by omega) hf)
 have j4: ∀(t f:Zh) (k x:Int) (q:Bool),f.2.2.2.1=[]→T (W4 s a t k f 1 x q) (FR s a):=fun t f k x q hf=>by
  unfold W4
  exact T.if (j1 _ _ 2 (by omega) (by omega) hf) (T.if (j5 _ _ _ _ hf) (j5 _ _ _ _ hf))
 unfold Znb
 refine T.guard (fun _=>by omega) (T.if (T.pure FR.no) (T.guard (by omega) (T.if ?_ (T.if (j1 _ _ 3 (by omega) (by omega) rfl) (T.if (j4 _ _ _ _ _ rfl) (T.if (j4 _ _ _ _ _ rfl) (j4 _ _ _ _ _ rfl)))))))
 rw[Zw (n:=a+1) (by omega) (by omega)]
 refine(Q7p s hs _ (by omega) _).bind fun r hr=>T.pure fun hk=> ?_
 have:=hr hk
 simp only
 omega
def gr(l:List Zh):Nat:=(l.map fun f=>f.2.2.2.1.length+2).sum
theorem Xbk(l:List Zh)(f:Zh):gr (l++ [f])=gr l+f.2.2.2.1.length+2:=by simp[gr];omega
theorem Qqh(s:List UInt8)(hs:s.length≤1000): ∀(N a:Nat) (out:List Zh),s.length-a<N→a≤s.length→out.length≤a→gr out≤2*a→(∀f∈out,FOK f)→T (Vh N s out (a:Int)) fun r=>gr r.1≤2*s.length∧r.1.length≤s.length∧ ∀f∈r.1,FOK f
 |0,_,_,h,_,_,_,_=>by omega
 |N+1,a,out,hN,ha,ho,hg,hf=>by
  unfold Vh
  refine T.ite (fun hd=> ?_) fun hd=>(tIn _ _ _).bind fun t _=>T.pure ⟨by simp only;omega,by simp only;omega,hf⟩
  have hd:=of_decide_eq_true hd
  refine T.guard (by omega) (T.if ?_ ?_)
  ·rw[show IntKind.i64.wrap ((a:Int)+1)=((a+1:Nat):Int) by rw[Zw (by omega) (by omega)];rfl]
   exact Qqh s hs N (a+1) out (by omega) (by omega) (by omega) (by omega) hf
  ·refine(Q6w s hs a (by omega)).bind fun r hr=>T.ite (fun _=>T.pure ⟨by simp[gr],by simp,by simp⟩) fun hk=>T.guard (by unfold Qp;simp only[List.length_singleton];omega) ?_
   have hr:=hr (by simpa using hk)
   obtain⟨b,hb⟩:=Int.eq_ofNat_of_zero_le (show 0≤r.2.1 by omega)
   rw[hb]
   refine Qqh s hs N b _ (by omega) (by omega) (by simp;omega) (by rw[Xbk];omega) fun f h=> ?_
   rcases List.mem_append.1 h with h|h
   ·exact hf f h
   ·rw[List.mem_singleton.1 h];unfold FOK;omega
theorem Xbf(s:List UInt8)(hs:s.length≤1000):T (Zjm s) fun r=>gr r.1≤2*s.length∧r.1.length≤s.length∧ ∀f∈r.1,FOK f:=by
 unfold Zjm
 exact Qqh s hs _ 0 [] (by unfold Zej;omega) (by omega) (by simp) (by simp[gr]) (by simp)
theorem T.and{α:Type}{m:Option α}{Q R:α→Prop}(h1:T m Q)(h2:T m R):T m fun y=>Q y∧R y:=by
 obtain⟨y,e,hy⟩:=h1;obtain⟨z,e2,hz⟩:=h2
 rw[e]at e2;cases e2
 exact⟨y,e,hy,hz⟩
theorem Q5o(s:List UInt8)(hs:s.length≤1048576):T (Zol s) fun r=>r.1=0∨Go.Lib.itoa r.1=s:=by
 have hpf:=Qyn (((s.length:Int)-0).toNat+1) [] s 0 0 (by simpa using hs) (by omega) (by simp) (by simp) (by simp)
 simp only[List.nil_append,List.length_nil,Nat.sub_zero,Int.natCast_zero]at hpf
 have hS:Zol s=J0 s (sgn s (pf (s.take 11) (0,0)).1) (pf (s.take 11) (0,0)).2:=by
  unfold Zol Zlb;exact hpf
 obtain⟨hb1,hb2⟩:=Qtl (s.take 11) (0,0) (by simp)
 have hk: (pf (s.take 11) (0,0)).2≤11:=by
  have: (s.take 11).length≤11:=by simp;omega
  omega
 have hb3:=Qtm hk
 rw[hS]
 generalize (pf (s.take 11) (0,0)).1=u at hb1
 generalize (pf (s.take 11) (0,0)).2=k at hb1 hb2 hk hb3
 have hrange: -100000000000≤sgn s u∧sgn s u≤100000000000:=by unfold sgn;split<;>omega
 unfold J0
 refine T.bind (Q:=fun q=>(decide ((k:Int)>9)||decide ((s.length:Int)>10))=false→q.1=Go.Lib.itoa (sgn s u)) (T.ite (fun h=>T.pure fun h'=>by rw[h]at h';cases h') fun _=>⟨_,Zcs (sgn s u) (by omega) (by omega),fun _=>rfl⟩) fun q hq=>T.ite (fun _=>T.pure (.inl rfl)) fun hc=>T.pure (.inr ?_)
 rw[Bool.or_eq_false_iff]at hc
 have:=hq hc.1
 simp only[Bool.not_eq_false',beq_iff_eq]at hc
 exact this.symm.trans hc.2
theorem Qz5(b:Int):TT (Zrl b):=by
 have lp: ∀(N k:Nat),16-k<N→k≤16→TT (Ve N b (k:Int)):=by
  intro N
  induction N with
  |zero=>intro k h;omega
  |succ N ih=>
   intro k hN hk
   by_cases h:k<16
   ·rw[Qx2 N k b h]
    split
    ·exact T.tt
    ·exact ih (k+1) (by omega) (by omega)
   ·have:k=16:=by omega
    subst this
    unfold Ve
    exact T.ite (fun h=>by simp at h) fun _=>T.tt
 exact lp _ 0 (by unfold Zjw;omega) (by omega)
theorem Qzp(s:List UInt8)(hs:s.length≤1000000)(h2:s.length%2=0): ∀(N i:Nat) (out:List Int),s.length-2*i<N→2*i≤s.length→out.length=i→T (Zgc N s out ((2*i:Nat):Int)) fun r=>r.1.length≤s.length
 |0,_,_,h,_,_=>by omega
 |N+1,i,out,hN,hi,ho=>by
  unfold Zgc
  refine T.ite (fun hd=> ?_) fun hd=>T.pure (by simp only[Ws,List.length_map];omega)
  have hd:=of_decide_eq_true hd
  rw[Zw (n:=((2*i:Nat):Int)+1) (by omega) (by omega)]
  refine T.guard (by omega) ((Qz5 _).bind fun a _=>T.guard (by omega) ((Qz5 _).bind fun b _=>T.if (T.pure (by simp)) (T.guard (by unfold Qp;simp only[List.length_singleton];omega) ?_)))
  rw[show IntKind.i64.wrap (((2*i:Nat):Int)+2)=((2* (i+1):Nat):Int) by rw[Zw (by omega) (by omega)];omega]
  exact Qzp s hs h2 N (i+1) _ (by omega) (by omega) (by simp[ho])
theorem Q8y(s:List UInt8)(hs:s.length≤1000000):T (Zmd s) fun r=>r.1.length≤s.length:=by
 unfold Zmd
 refine T.guard (by omega) (T.ite (fun _=>T.pure (by simp)) fun h=>Qzp s hs ?_ _ 0 [] (by unfold Zjl;omega) (by omega) rfl)
 simp only[beq_eq_false_iff_ne,ne_eq]at h
 rw[Int.tmod_eq_emod_of_nonneg (by omega)]at h
 omega
theorem Qv2{K:Nat}{c:Zg}(h:Z9 K c)(hK:K≤1000000)(n:Int):T (Zmb c n) fun r=>Z9 K r.1:=by
 unfold Zmb
 rw[Ko h hK,Option.bind_some]
 exact T.bind (Q:=fun _=>True) (T.if (tIn _ _ _) T.tt) fun t _=>T.if (T.pure ⟨h.str,h.pk⟩) (T.pure h)
theorem Q72{K:Nat}{c:Zg}(h:Z9 K c)(hK:K≤1000000)(n:Int):T (Zsz c n) fun r=>Z9 K r.1:=by
 unfold Zsz
 rw[Ko h hK,Option.bind_some]
 exact(Zm5 h hK).bind fun t _=>T.bind (Q:=fun _=>True) (T.if T.tt (tIn _ _ _)) fun t _=>T.if (T.pure h) (T.pure ⟨h.str,h.pk⟩)
theorem Q29{K:Nat}{c:Zg}(h:Z9 K c)(hK:K+1≤500000)(i n:Int):T (Zpa c i n) fun r=>Z9 (K+1) r.1:=by
 unfold Zpa
 rw[Ko h (by omega),Option.bind_some]
 exact(Zds h (by omega) i).bind fun s hs=>(Zm5 h (by omega)).bind fun t _=>T.bind (Q:=fun _=>True) (T.if T.tt (Quc _)) fun t _=>T.if (T.pure (h.mono (by omega))) ((Ys h.str (K':=K) (by exact⟨hs.snd,hs.rcv⟩) (Nat.le_refl _) (by omega)).bind fun t3 h3=>T.pure (h.up (by omega) h3))
theorem Qlw(l:List Zh)(hf: ∀f∈l,FOK f)(hl:l.length≤1000): ∀(N i K:Nat) (t x:Zg),l.length-i<N→i≤l.length→Z9 K x→25≤K→K+gr (l.drop i)≤390000→T (Qy N t x l (i:Int)) fun r=>Z9 (K+gr (l.drop i)) r.1.1
 |0,_,_,_,_,h,_,_,_,_=>by omega
 |N+1,i,K,t,x,hN,hi,hx,h25,hK=>by
  unfold Qy
  simp only[J2,Jb]
  refine T.ite (fun hd=> ?_) fun hd=>T.pure (hx.mono (by omega))
  have hd:=of_decide_eq_true hd
  have hh:i<l.length:=by omega
  have hm:=hf _ (Qu (d:=Xk) hh)
  have hg:gr (l.drop i)=(l.getD i Xk).2.2.2.1.length+2+gr (l.drop (i+1)):=by rw[V9 (d:=Xk) hh];simp[gr]
  refine T.guard (by omega) ((Qlv hx hm h25 (by omega)).bind fun r hr=> ?_)
  unfold Xg
  refine T.if ((Qv2 hx (by omega) _).bind fun t ht=>T.pure (ht.mono (by omega))) ?_
  rw[Zq hh (by omega)]
  exact(Qlw l hf hl N (i+1) (K+ (l.getD i Xk).2.2.2.1.length+2) _ _ (by omega) (by omega) hr (by omega) (by omega)).mono fun r hr=>hr.mono (by omega)
theorem Q48{K:Nat}{c:Zg}(h:Z9 K c)(h25:25≤K)(s:List UInt8)(hs:s.length≤1000)(hK:K+2*s.length≤390000):T (V3 c s) fun r=>Z9 (K+2*s.length) r.1.1:=by
 unfold V3
 rw[Ko h (by omega),Option.bind_some]
 refine(Znw h (by omega)).bind fun t _=>T.bind (Q:=fun _=>True) (T.if T.tt T.tt) fun t _=>T.if (T.pure (h.mono (by omega))) ((Xbf s hs).bind fun r hr=>T.if ((Qv2 h (by omega) _).bind fun t ht=>T.pure (ht.mono (by omega))) ?_)
 exact(Qlw r.1 hr.2.2 (by omega) _ 0 K _ _ (by unfold Zeo;omega) (by omega) h h25 (by simp only[List.drop_zero];omega)).mono fun y hy=>hy.mono (by simp only[List.drop_zero];omega)
theorem Qz2{N:Nat}{n:Int}{out:List UInt8}{neg:Bool}{Q:List UInt8×Unit→Prop}(ho:out.length≤1000)(h0:n=0→ ∀y:List UInt8,y.length≤1001→Q (y,()))(h: ∀o,o.length=out.length+1→T (Xh N (IntKind.i64.wrap (Int.tdiv n 10)) o neg) Q):T (Xh (N+1) n out neg) Q:=by
 unfold Xh
 have j: ∀d,T (Va (fun v=>Xh N v.1 v.2.1 v.2.2.1) n out neg d) Q:=fun d=>by
  unfold Va
  exact T.guard (by simp only[Ws,List.length_map,List.length_singleton];unfold Z8;omega) (T.guard (by omega) (h _ (by simp only[Ws,List.length_append,List.length_map,List.length_singleton];omega)))
 refine T.ite (fun _=>T.guard (by omega) (T.if (j _) (j _))) fun hz=> ?_
 have hz:n=0:=by simpa using hz
 exact T.if (T.guard (by unfold Z8;simp only[List.length_singleton];omega) (T.pure (h0 hz _ (by simp only[List.length_append,List.length_singleton];omega)))) (T.pure (h0 hz _ (by omega)))
theorem Xav: ∀(k N:Nat) (n:Int) (out:List UInt8) (neg:Bool),n.natAbs<10^k→k<N→(-9223372036854775808≤n∧n≤9223372036854775807)→out.length+k≤1000→T (Xh N n out neg) fun r=>r.1.length≤1001
 |_,0,_,_,_,_,h,_,_=>by omega
 |0,N+1,n,out,neg,hn,hN,hr,ho=>by
  have:n=0:=by
     have:n.natAbs=0:=by simpa using hn
     omega
  subst this
  unfold Xh
  exact T.ite (fun h=>by simp at h) fun _=>T.if (T.guard (by unfold Z8;simp only[List.length_singleton];omega) (T.pure (by simp only[List.length_append,List.length_singleton];omega))) (T.pure (by simp only;omega))
 |k+1,N+1,n,out,neg,hn,hN,hr,ho=>by
  have ha: (Int.tdiv n 10).natAbs=n.natAbs/10:=by rw[Int.natAbs_tdiv];rfl
  have hlt:n.natAbs/10<10^k:=by rw[Nat.pow_succ]at hn;omega
  refine Qz2 (by omega) (fun _ y hy=>hy) fun o hl=> ?_
  rw[Zw (by omega) (by omega)]
  exact Xav k N _ o neg (by omega) (by omega) (by omega) (by omega)
theorem Q2k(n:Int): -9223372036854775808≤IntKind.i64.wrap n∧IntKind.i64.wrap n≤9223372036854775807:=by
 simp only[IntKind.wrap,IntKind.bits,IntKind.signed,Bool.true_and]
 split<;>rename_i h<;>simp at h<;>omega
theorem Qr8(n:Int):T (Zv n) fun r=>r.1.length≤1001:=by
 unfold Zv
 refine T.if (T.pure (by simp)) ?_
 unfold Zdl
 rw[show 1048577+ (n.toNat-n.toNat)=1048576+1 by omega]
 refine Qz2 (by simp) (fun _ y hy=>hy) fun o hl=> ?_
 have:=Q2k (Int.tdiv n 10)
 exact Xav 20 _ _ o _ (by omega) (by omega) this (by simp at hl;omega)
theorem Xdz(k:Int):TT (Zra k):=by
 unfold Zra
 refine(inT _ _ _).bind fun t ht=>T.ite (fun _=>T.tt) fun hc=> ?_
 have:=ht (by simpa using hc)
 rw[Zw (by omega) (by omega)]
 exact T.guard (by simp only[List.length_cons,List.length_nil];omega) T.tt
theorem Xaw(e:Jp):T (Zro e) fun r=>r.1.2.2.2.1.length≤e.2.2.2.1.length∧r.1.1=e.1:=by
 have j3: ∀t x b,x.2.2.2.1.length≤e.2.2.2.1.length→x.1=e.1→T (Zfy e t x b) fun r=>r.1.2.2.2.1.length≤e.2.2.2.1.length∧r.1.1=e.1:=fun t x b h k=>by
  unfold Zfy;exact T.if (T.pure ⟨h,k⟩) (T.pure ⟨h,k⟩)
 have j2: ∀t x k b,x.2.2.2.1.length≤e.2.2.2.1.length→x.1=e.1→T (Zks e t x k b) fun r=>r.1.2.2.2.1.length≤e.2.2.2.1.length∧r.1.1=e.1:=fun t x k b h q=>by
  unfold Zks;exact T.if (T.pure ⟨Nat.le_refl _,q⟩) (T.if (T.pure ⟨h,q⟩) (T.if (j3 _ _ _ h q) (T.if (j3 _ _ _ h q) (j3 _ _ _ h q))))
 have j1: ∀t x k b,x.2.2.2.1.length≤e.2.2.2.1.length→x.1=e.1→T (Zkr e t x k b) fun r=>r.1.2.2.2.1.length≤e.2.2.2.1.length∧r.1.1=e.1:=fun t x k b h q=>by
  unfold Zkr;exact T.if (T.pure ⟨Nat.le_refl _,q⟩) (T.if (j2 _ _ _ _ h q) (j2 _ _ _ _ h q))
 unfold Zro
 exact T.if (j1 _ _ _ _ (by simp) rfl) (j1 _ _ _ _ (by simp) rfl)
theorem Q7v(s:List UInt8)(hs:s.length≤1000000):TT (Zub s):=by
 have lp: ∀(N i:Nat),s.length-i<N→i≤s.length→TT (Zfa N s (i:Int)):=by
  intro N
  induction N with
  |zero=>intro i h;omega
  |succ N ih=>
   intro i hN hi
   unfold Zfa
   refine T.ite (fun hd=> ?_) fun _=>(tIn _ _ _).bind fun t _=>T.tt
   have hd:=of_decide_eq_true hd
   refine T.guard (by omega) (T.guard (fun _=>by omega) (T.if T.tt ?_))
   rw[Zq (m:=s.length) (by omega) (by omega)]
   exact ih (i+1) (by omega) (by omega)
 exact lp _ 0 (by unfold Ziu;omega) (by omega)
theorem Xbz(s:List UInt8)(hs:s.length≤1000000):TT (Zrp s):=by
 have lp: ∀(N i:Nat),s.length-i<N→i≤s.length→TT (Zcb N s (i:Int)):=by
  intro N
  induction N with
  |zero=>intro i h;omega
  |succ N ih=>
   intro i hN hi
   unfold Zcb
   refine T.ite (fun hd=> ?_) fun _=>(tIn _ _ _).bind fun t _=>T.tt
   have hd:=of_decide_eq_true hd
   refine T.guard (by omega) (T.guard (fun _=>by omega) (T.if T.tt ?_))
   rw[Zq (m:=s.length) (by omega) (by omega)]
   exact ih (i+1) (by omega) (by omega)
 exact lp _ 0 (by unfold Zfr;omega) (by omega)
theorem Q62(e:Jp)(he:e.2.2.2.1.length≤10000):TT (Zrc e):=by
 unfold Zrc
 exact(Xdz _).bind fun t _=>T.bind (Q:=fun _=>True) (T.if T.tt ((Xaw e).mono fun _ _=>trivial)) fun t _=>T.bind (Q:=fun _=>True) (T.if T.tt (tIn _ _ _)) fun t _=>T.bind (Q:=fun _=>True) (T.if T.tt (tIn _ _ _)) fun t _=>T.if T.tt (T.if T.tt (T.if ((Q7v _ (by omega)).bind fun t _=>T.tt) (T.if ((Xbz _ (by omega)).bind fun t _=>T.tt) (T.if ((Q8y _ (by omega)).bind fun t _=>T.bind (Q:=fun _=>True) (T.if (tIn _ _ _) T.tt) fun t _=>T.tt) T.tt))))
theorem Qzu{K:Nat}{c:Zg}(h:Z9 K c)(hK:K≤80000)(b:Int):T (Zah c b) fun r=>Z9 (K+1000) r.1.2.2.1∧r.1.1.length≤400:=by
 have lp: ∀(t:Zg) (l:List Zh),FL 606 l→ ∀(N i:Nat) (x:Zg) (fr:List Zh) (room:Int),l.length-i<N→i≤l.length→Z9 (K+i) x→FL i fr→
   T (Yp N c t x fr room l (i:Int)) fun r=>Z9 (K+1000) r.1.2.2.1∧r.1.1.length≤400:=by
  intro t l hl N
  have h606:=hl.1
  induction N with
  |zero=>intro i x fr room h;omega
  |succ N ih=>
   intro i x fr room hN hi hx hf
   have j1: ∀(x:Zg) (fr:List Zh) (room:Int),i<l.length→Z9 (K+i+1) x→FL (i+1) fr→
     T (V2 (fun v=>Yp N v.1 v.2.1 v.2.2.1 v.2.2.2.1 v.2.2.2.2.1 v.2.2.2.2.2.1 v.2.2.2.2.2.2.1) c t x fr room l (i:Int)) fun r=>Z9 (K+1000) r.1.2.2.1∧r.1.1.length≤400:=fun x fr room hc hx hf=>by
    unfold V2
    rw[Zq hc (by omega)]
    exact ih (i+1) x fr room (by omega) (by omega) hx hf
   unfold Yp
   refine T.ite (fun hc=> ?_) fun hc=> ?_
   ·have hc:=of_decide_eq_true hc
    have hm:=hl.2 _ (Qu (d:=Xk) (show i<l.length by omega))
    exact T.guard (by omega) ((Zvj hm).bind fun t _=>T.if (T.guard (by omega) ((Zvj hm).bind fun t _=>T.guard (by omega) ((Ql5 hx (by omega) _).bind fun t ht=>T.guard (by omega) (T.guard (by have:=hf.1;unfold Qp;simp only[List.length_singleton];omega) (j1 _ _ _ (by omega) ht (hf.one hm)))))) (j1 _ _ _ (by omega) (hx.mono (by omega)) (hf.mono (by omega))))
   ·refine(Q34 (by omega) (by omega) hx hf _).bind fun r hr=>T.if (T.pure ⟨hr.1.mono (by omega),by simp⟩) ?_
    have hp:=hr.1.pk.1
    have hf:Qpr r.1.1:=⟨by have:=hr.2.1;omega,hr.2.2⟩
    exact T.guard (by unfold Qp;simp only[List.length_singleton];omega) ((Q60 hf).bind fun t ht=>T.pure ⟨by exact⟨hr.1.str.mono (by omega),⟨by simp only[List.length_append,List.length_singleton];omega,fun p hp=>by
     rcases List.mem_append.1 hp with hp|hp
     ·exact hr.1.pk.2 p hp
     ·rw[List.mem_singleton.1 hp];exact hf⟩⟩,by simp only;omega⟩)
 unfold Zah
 rw[Ko h (by omega),Option.bind_some]
 exact(Qsq h (by omega)).bind fun t ht=>T.bind (Q:=fun _=>True) (T.if T.tt (tIn _ _ _)) fun t _=>T.ite (fun _=>T.pure ⟨h.mono (by omega),by simp⟩) fun hc=>(Z8i h (by omega)).bind fun l hl=>by
  have:=ht (by simp at hc;simp[hc])
  exact lp _ _ (hl.mono (by omega)) _ 0 _ _ _ (by unfold Zcl;omega) (by omega) h FL.nil
theorem Qy2{K:Int}{s:Zs}(h:Zbk K s)(d:List UInt8)(hK:K+d.length≤1000000):T (Zbi s d) fun r=>0≤r.2.1∧r.2.1≤d.length:=by
 have h0:=h.e0
 have hcl:=h.cells
 have heK:=h.eK
 obtain⟨b,h1,-⟩:=Zft h (by omega)
 unfold Zbi
 rw[Zvq h (by omega),h1]
 simp only[Option.bind_some]
 refine T.if (T.pure (by simp)) ?_
 obtain⟨cs,n,k1,k2,k3,k4⟩:=Qw6 s.2.1 d (by omega) (by omega) h0 (by omega)
 rw[k1,Option.bind_some]
 unfold Zdf
 exact T.if (by rw[Zn5 _ _ (by have:=(Xm h.pend h0 heK (by omega));omega),Option.bind_some];exact T.pure (by simp only;omega)) (T.pure (by simp only;omega))
theorem Qy3{K:Nat}{c:Zg}(h:Z9 K c)(i:Int)(d:List UInt8)(hK:K+d.length+1≤500000):T (Zbj c i d) fun r=>Z9 (K+d.length+1) r.2.1∧0≤r.1∧r.1≤d.length:=by
 refine(Qmo h i d hK).and ?_
 unfold Zbj
 rw[Ko h (by omega),Option.bind_some]
 refine(Zds h (by omega) i).bind fun s hs=>(Zm5 h (by omega)).bind fun t _=>T.if (T.pure (by simp)) ?_
 refine((show T (Zbi s.1.2.1 d) (fun r=>Zbk (K+d.length) r.1)from(by obtain⟨x,n,e,h1⟩:=Qmn hs.snd d (by omega);exact⟨_,e,h1⟩)).and (Qy2 hs.snd d (by omega))).bind fun r hr=> ?_
 exact(Ys h.str (K':=K+d.length) (by exact⟨hr.1.mono (by omega),hs.rcv.mono (by omega)⟩) (by omega) (by omega)).bind fun t3 h3=>T.pure hr.2
theorem Qmd{K:Nat}{c:Zg}(h:Z9 K c)(hK:K+1≤500000)(i m:Int):T (Zaj c i m) fun r=>Z9 (K+1) r.1.2.2.1∧r.1.1.length≤K:=by
 refine(Qtv h hK i m).and ?_
 unfold Zaj
 rw[Ko h (by omega),Option.bind_some]
 refine(Zds h (by omega) i).bind fun s hs=>(Zm5 h (by omega)).bind fun t _=>T.if (T.pure (by simp)) ?_
 obtain⟨d,r,e,h1,hd⟩:=Qf0 hs.rcv (by omega) m
 rw[e,Option.bind_some]
 have j: ∀t x s r,Z9 K x→Jo K s→T (V5 t x s d r) fun r=>r.1.1.length≤K:=fun t x s r hx hs=>by
  unfold V5
  exact(Zz3 hx hs (Nat.le_refl _) hK).bind fun t3 h3=>T.pure hd
 exact T.if ((Qx7 h (by exact⟨hs.snd,h1⟩) _).bind fun t ht=>j _ _ _ _ ht.1 ht.2) (j _ _ _ _ h (by exact⟨hs.snd,h1⟩))
theorem okT(b:Bool):T (Z01 b) fun r=>r.1.length≤2:=by
 unfold Z01
 exact T.if (T.pure (by simp)) (T.pure (by simp))
theorem Q7c(s:List UInt8)(h:s.length≤500000):T (Ww s) fun r=>r.1.length≤1000000:=⟨_,Q9f s (by omega),by simp only[Qer];omega⟩
def EvQ(K:Nat)(e:Jp)(r: (List UInt8×Zg×Unit)×Unit):Prop:=Z9 (K+1100) r.1.2.1∧r.1.1.length≤1048576∧(e.1=2→ ∀n:Int,Go.Lib.itoa n=r.1.1→n≤e.2.2.2.1.length)
theorem Xef(n:Int):T (Zv n) fun r=>r.1.length≤1001∧ ∀m:Int,(-9223372036854775808≤n∧n≤9223372036854775807)→Go.Lib.itoa m=r.1→m=n:=by
 by_cases h: -9223372036854775808≤n∧n≤9223372036854775807
 ·exact⟨_,Zcs n h.1 h.2,by have:=Yq n h.1 h.2;simp only;omega,fun m _ e=>Q0f e⟩
 ·exact(Qr8 n).mono fun y hy=>⟨hy,fun m h'=>absurd h' h⟩
theorem Q1n{K:Nat}{c:Zg}(e:Jp)(h:Z9 K c)(hK:K≤80000)(ht:e.2.2.2.1.length≤10000)(ht2:e.1=2→e.2.2.2.1.length≤90)(h9:e.1≠9)(h10:e.1≠10)(h11:e.1≠11):T (Zox c e) (EvQ K e):=by
 have j1: ∀t x b,e.1≠2→Z9 (K+1100) x→T (Yb t x b) (EvQ K e):=fun t x b h2 hx=>by
  unfold Yb
  exact(okT b).bind fun r hr=>T.pure ⟨hx,by simp only;omega,fun h=>absurd h h2⟩
 have m:=h.mono (K':=K+1100) (by omega)
 have no: ∀n:Int,Go.Lib.itoa n≠[]:=fun n e=>by
  have:=Z50 n;rw[e]at this;cases this
 have cl: ∀n:Int,Go.Lib.itoa n≠[99,108,111,115,101,100]:=fun n e=>by
  have:=Z50 n;rw[e]at this;revert this;simp[Go.Lib.atoi,Go.Lib.decNat,Go.Lib.decFrom,Go.Lib.digitVal]
 unfold Zox
 rw[Ko h (by omega),Option.bind_some]
 refine(Znw h (by omega)).bind fun t _=>T.bind (Q:=fun _=>True) (T.if T.tt (Q62 e (by omega))) fun t _=>T.if (T.pure ⟨m,by simp,fun _ n e=>absurd e (no n)⟩) (T.bind (Q:=fun _=>True) (by unfold Wq;exact T.tt) fun t _=>T.if (T.pure ⟨m,by simp,fun _ n e=>absurd e (cl n)⟩) ?_)
 refine T.ite (fun hk=> ?_) fun _=>T.ite (fun hk=> ?_) fun h2=> ?_
 ·have hk:e.1=1:=by simpa using hk
  refine(Qti h (by omega) _).bind fun r hr=>T.if (T.pure ⟨hr.mono (by omega),by simp,by omega⟩) ((Qr8 _).bind fun q hq=>T.pure ⟨hr.mono (by omega),by simp only;omega,by omega⟩)
 ·have ht2:=ht2 (by simpa using hk)
  have w:=Qy3 h e.2.1 e.2.2.2.1 (by omega)
  refine w.bind fun r hr=>(Xef r.1).bind fun q hq=>T.pure ⟨hr.1.mono (by omega),by simp only;have:=hq.1;omega,fun _ n hn=> ?_⟩
  rw[hq.2 n (by have:=hr.2;omega) hn];exact hr.2.2
 ·have h2:e.1≠2:=by simpa using h2
  refine T.if ((Qeo h (by omega) _).bind fun r hr=>j1 _ _ _ h2 (hr.mono (by omega))) (T.if ((Qmd h (by omega) _ _).bind fun r hr=> ?_) (T.if ((Qmf h (by omega) _ _).bind fun r hr=>j1 _ _ _ h2 (hr.mono (by omega))) (T.if ((Q29 h (by omega) _ _).bind fun r hr=>j1 _ _ _ h2 (hr.mono (by omega))) (T.if ((Qmh h (by omega) _ _ (by omega)).bind fun r hr=>j1 _ _ _ h2 (hr.mono (by omega))) (T.if ((Qzu h (by omega) _).bind fun r hr=> ?_) (T.ite (fun hk=>absurd (by simpa using hk) h9) fun _=>T.ite (fun hk=>absurd (by simpa using hk) h10) fun _=>T.ite (fun hk=>absurd (by simpa using hk) h11) fun _=> ?_))))))
  ·have hx:=hr.1.mono (K':=K+1100) (by omega)
   have:=hr.2
   exact T.if ((Q7c _ (by omega)).bind fun q hq=>T.guard (by unfold Z8;simp only[List.length_cons,List.length_nil];omega) (T.pure ⟨hx,by simp only[List.length_append,List.length_cons,List.length_nil];omega,fun h=>absurd h h2⟩)) ((Q7c _ (by omega)).bind fun q hq=>T.guard (by unfold Z8;simp only[List.length_cons,List.length_nil];omega) (T.pure ⟨hx,by simp only[List.length_append,List.length_cons,List.length_nil];omega,fun h=>absurd h h2⟩))
  ·have hx:=hr.1.mono (K':=K+1100) (by omega)
   have:=hr.2
   exact T.if (T.pure ⟨hx,by simp,fun h=>absurd h h2⟩) ((Qr8 _).bind fun q hq=>T.guard (by unfold Z8;simp only[List.length_singleton];omega) ((Q7c _ (by omega)).bind fun y hy=>T.guard (by unfold Z8;simp only[List.length_append,List.length_singleton];omega) (T.pure ⟨hx,by simp only[List.length_append,List.length_singleton];omega,fun h=>absurd h h2⟩)))
  ·exact T.if ((Q72 h (by omega) _).bind fun r hr=>j1 _ _ _ h2 (hr.mono (by omega))) (j1 _ _ _ h2 m)
def Q8t(t:Xw):Prop:=t.2.2.1.length≤500000∧t.2.2.2.1.length≤500000
structure Vj(K:Nat)(p:Z7):Prop where
 cl:Z9 K p.1
 sv:Z9 K p.2.1
 ls:p.2.2.1.length≤1000
 lc:p.2.2.2.1.length≤1000
 tn:p.2.2.2.2.1.length≤1000
 tr: ∀t∈p.2.2.2.2.1,Q8t t
theorem Vj.mono{K K':Nat}{p:Z7}(h:Vj K p)(hK:K≤K'):Vj K' p:=⟨h.cl.mono hK,h.sv.mono hK,h.ls,h.lc,h.tn,h.tr⟩
theorem Zz4(l:List Z0)(h:l.length≤1000000):Yx l=some (l,()):=by
 unfold Yx
 rw[Zb (by unfold Qp;simp only[List.length_nil];omega)];rfl
theorem Qpc{K:Nat}{p:Z7}(h:Vj K p)(hK:K≤1000000):Zdq p=some (p,()):=by
 have:=h.ls;have:=h.lc;have:=h.tn
 have g: ([]:List Xw).length+p.2.2.2.2.1.length≤Qp:=by unfold Qp;simp only[List.length_nil];omega
 unfold Zdq
 rw[Ko h.cl hK,Ko h.sv hK,Zz4 _ (by omega),Zz4 _ (by omega)]
 simp only[Option.bind_some,J2,Jb,Zb g]
 rfl
theorem Qxi{K:Nat}{p:Z7}(h:Vj K p)(hK:K≤1000000)(b:Bool):T (Zdw p b) fun r=>Z9 K r.1:=by
 unfold Zdw
 rw[Ko h.cl hK,Ko h.sv hK]
 exact T.if (T.pure h.sv) (T.pure h.cl)
theorem Zye{K:Nat}{p:Z7}(h:Vj K p)(b:Bool):T (Zb8 p b) fun r=>r.1=(bif b then p.2.2.1 else p.2.2.2.1):=by
 have:=h.ls;have:=h.lc
 unfold Zb8
 rw[Zz4 _ (by omega),Zz4 _ (by omega)]
 cases b
 ·exact T.pure rfl
 ·exact T.pure rfl
theorem Qpd{K:Nat}{p:Z7}{c:Zg}(h:Vj K p)(hc:Z9 K c)(b:Bool):T (Zdr p b c) fun r=>Vj K r.2.1:=by
 unfold Zdr
 exact T.if (T.pure ⟨h.cl,hc,h.ls,h.lc,h.tn,h.tr⟩) (T.pure ⟨hc,h.sv,h.ls,h.lc,h.tn,h.tr⟩)
theorem Xah{K:Nat}{p:Z7}(h:Vj K p)(i:Int)(b:Bool)(Q:Xw→Prop)(h0:Q Zfc)(hq: ∀t∈p.2.2.2.2.1,Q t):T (Z00 p i b) fun r=>Q r.1:=by
 have hn:=h.tn
 have lp: ∀(t:Xw) (N k:Nat),p.2.2.2.2.1.length-k<N→k≤p.2.2.2.2.1.length→T (Zkg N i b p t (k:Int)) fun r=>Q r.1:=by
  intro t N
  induction N with
  |zero=>intro k h;omega
  |succ N ih=>
   intro k hN hk
   unfold Zkg
   refine T.ite (fun hd=> ?_) fun _=>T.pure h0
   have hd:=of_decide_eq_true hd
   refine T.guard (by omega) (T.guard (fun _=>by omega) (T.if (T.guard (by omega) (T.pure (hq _ (Qu (by omega))))) ?_))
   rw[Zq (m:=p.2.2.2.2.1.length) (by omega) (by omega)]
   exact ih (k+1) (by omega) (by omega)
 exact lp _ _ 0 (by unfold Zmk;omega) (by omega)
theorem Q7o{K:Nat}{p:Z7}(h:Vj K p)(i:Int)(b:Bool)(n:Nat)(hq: ∀t∈p.2.2.2.2.1,t.2.2.1.length≤n∧t.2.2.2.1.length≤n):T (Zbs p i b) fun r=>r.1.2.2.1.length≤n∧r.1.2.2.2.1.length≤n:=by
 unfold Zbs
 exact(Xah h i b (fun t=>t.2.2.1.length≤n∧t.2.2.2.1.length≤n) (by exact⟨Nat.zero_le _,Nat.zero_le _⟩) hq).bind fun r hr=>T.if (T.pure (by simp)) (T.pure hr)
theorem Qsr{K:Nat}{p:Z7}(h:Vj K p)(hn:p.2.2.2.2.1.length≤900){t:Xw}(ht:Q8t t):T (Zmv p t) fun r=>Vj K r.2.1:=by
 have lp: ∀(N k:Nat),p.2.2.2.2.1.length-k<N→k≤p.2.2.2.2.1.length→T (Zmw N p t (k:Int)) fun r=>Vj K r.2.1:=by
  intro N
  induction N with
  |zero=>intro k h;omega
  |succ N ih=>
   intro k hN hk
   unfold Zmw
   refine T.ite (fun hd=> ?_) fun _=>T.guard (by unfold Qp;simp only[List.length_singleton];omega) (T.pure ⟨h.cl,h.sv,h.ls,h.lc,by simp only[List.length_append,List.length_singleton];omega,fun x hx=> ?_⟩)
   ·have hd:=of_decide_eq_true hd
    refine T.guard (by omega) (T.guard (fun _=>by omega) (T.if (T.guard (by omega) (T.pure ⟨h.cl,h.sv,h.ls,h.lc,by simp only[List.length_set];omega,fun x hx=> ?_⟩)) ?_))
    ·rcases List.mem_or_eq_of_mem_set hx with hx|hx
     ·exact h.tr x hx
     ·rw[hx];exact ht
    ·rw[Zq (m:=p.2.2.2.2.1.length) (by omega) (by omega)]
     exact ih (k+1) (by omega) (by omega)
   ·rcases List.mem_append.1 hx with hx|hx
    ·exact h.tr x hx
    ·rw[List.mem_singleton.1 hx];exact ht
 exact lp _ 0 (by unfold Zn3;omega) (by omega)
theorem Qe0(l:List Z0)(hl:l.length≤100000):T (Zaf l) fun r=>r.1=true→ ∀x∈l,x.2.1.length≤400:=by
 have lp: ∀(N k:Nat),l.length-k<N→k≤l.length→(∀x∈l.take k,x.2.1.length≤400)→T (V1 N l (k:Int)) fun r=>r.1=true→ ∀x∈l,x.2.1.length≤400:=by
  intro N
  induction N with
  |zero=>intro k h;omega
  |succ N ih=>
   intro k hN hk hx
   unfold V1
   refine T.ite (fun hd=> ?_) fun hd=>T.pure fun _=>by
    have hd:=of_decide_eq_false hd
    rwa [List.take_of_length_le (by omega)]at hx
   have hd:=of_decide_eq_true hd
   refine T.guard (by omega) ((tIn _ _ _).bind fun t1 _=>T.guard (fun _=>by omega) (T.bind (Q:=fun r=>r.1=true→(l.getD (k:Int).toNat Qv).2.1.length≤400) (T.if (T.pure fun h=>by cases h) ((inT _ _ _).bind (f:=fun r=>some r) (fun r hr=>T.pure fun h=>by have:=hr h;omega)|>fun h=>by simpa using h)) fun t2 h2=>T.ite (fun _=>T.pure fun h=>by cases h) fun hc=> ?_))
   rw[Zq (m:=l.length) (by omega) (by omega)]
   refine ih (k+1) (by omega) (by omega) fun x hm=> ?_
   rw[List.take_succ_eq_append_getElem (by omega)]at hm
   rcases List.mem_append.1 hm with hm|hm
   ·exact hx x hm
   ·rw[List.mem_singleton.1 hm]
    have:=h2 (by simp at hc;exact hc.2)
    rwa [show(k:Int).toNat=k from rfl,List.getD_eq_getElem?_getD,List.getElem?_eq_getElem (by omega)]at this
 exact lp _ 0 (by unfold Ja;omega) (by omega) (by simp)
structure PrW(K:Nat)(p:Z7):Prop where
 cl:Z9 K p.1
 sv:Z9 K p.2.1
 ls:p.2.2.1.length≤1000
 lc:p.2.2.2.1.length≤1000
 tn:p.2.2.2.2.1.length≤1000
theorem Vj.w{K:Nat}{p:Z7}(h:Vj K p):PrW K p:=⟨h.cl,h.sv,h.ls,h.lc,h.tn⟩
structure PrF(p:Z7):Prop where
 tr: ∀t∈p.2.2.2.2.1,t.2.2.1.length≤4000∧t.2.2.2.1.length≤4000
 ls: ∀x∈p.2.2.1,x.2.1.length≤400
 lc: ∀x∈p.2.2.2.1,x.2.1.length≤400
theorem Qsl{K:Nat}{p:Z7}(h:PrW K p)(hK:K≤1000000):T (Zgj p) fun r=>r.1=true→PrF p:=by
 have hn:=h.tn;have:=h.ls;have:=h.lc
 have lp: ∀(N k:Nat),p.2.2.2.2.1.length-k<N→k≤p.2.2.2.2.1.length→(∀x∈p.2.2.2.2.1.take k,x.2.2.1.length≤4000∧x.2.2.2.1.length≤4000)→T (Zes N p (k:Int)) fun r=>r.1=true→PrF p:=by
  intro N
  induction N with
  |zero=>intro k h;omega
  |succ N ih=>
   intro k hN hk hx
   unfold Zes
   refine T.ite (fun hd=> ?_) fun hd=> ?_
   ·have hd:=of_decide_eq_true hd
    refine T.guard (by omega) ((Quc _).bind fun t1 _=>T.ite (fun _=>T.pure fun h=>by cases h) fun hc=> ?_)
    rw[Zq (m:=p.2.2.2.2.1.length) (by omega) (by omega)]
    refine ih (k+1) (by omega) (by omega) fun x hm=> ?_
    rw[List.take_succ_eq_append_getElem (by omega)]at hm
    rcases List.mem_append.1 hm with hm|hm
    ·exact hx x hm
    ·rw[List.mem_singleton.1 hm]
     simp only[Bool.or_eq_false_iff,decide_eq_false_iff_not]at hc
     rw[show(k:Int).toNat=k from rfl,List.getD_eq_getElem?_getD,List.getElem?_eq_getElem (by omega)]at hc
     simp only[Option.getD_some]at hc
     omega
   ·have hd:=of_decide_eq_false hd
    rw[List.take_of_length_le (by omega)]at hx
    exact(Znw h.cl hK).bind fun t1 _=>T.bind (Q:=fun _=>True) (T.if (Znw h.sv hK) T.tt) fun t2 _=>T.bind (Q:=fun r=>r.1=true→ ∀x∈p.2.2.1,x.2.1.length≤400) (T.if (Qe0 _ (by omega)) (T.pure fun h=>by cases h)) fun t3 h3=>T.bind (Q:=fun r=>r.1=true→ ∀x∈p.2.2.2.1,x.2.1.length≤400) (T.if (Qe0 _ (by omega)) (T.pure fun h=>by cases h)) fun t4 h4=>T.pure fun hb=>by
     simp only[Bool.and_eq_true]at hb
     exact⟨hx,h3 hb.1.1.2,h4 hb.1.2⟩
 exact lp _ 0 (by unfold W9;omega) (by omega) (by simp)
theorem Q9s{K:Nat}{p:Z7}(h:Vj K p)(hf: ∀t∈p.2.2.2.2.1,t.2.2.1.length≤4000∧t.2.2.2.1.length≤4000)(hn:p.2.2.2.2.1.length≤900){c:Zg}(hc:Z9 K c)(hK:K≤400000)(b:Bool)(e:Jp)(he:e.2.2.2.1.length≤10000)(out:List UInt8)(ho:out.length≤1048576)
  (h2:e.1=2→ ∀n:Int,Go.Lib.itoa n=out→n≤e.2.2.2.1.length):T (Zrq p b e out c) fun r=>Vj K r.2.1:=by
 have tk: ∀b,T (Zbs p e.2.1 b) fun r=>r.1.2.2.1.length≤4000∧r.1.2.2.2.1.length≤4000:=fun b=>Q7o h _ b 4000 hf
 have pt: ∀{t:Xw},t.2.2.1.length≤4000∧t.2.2.2.1.length≤4000→Q8t t:=fun q=>⟨by omega,by omega⟩
 unfold Zrq
 simp only[J2]
 refine T.ite (fun hk=> ?_) fun _=>T.if (T.if ((tk _).bind fun r hr=> ?_) (T.pure h)) (T.if ((Qmd hc (by omega) _ _).bind fun r hr=>(Zds hc (by omega) _).bind fun s _=>T.if ((tk _).bind fun t ht=> ?_) (T.pure h)) (T.if (T.if ((tk _).bind fun r hr=> ?_) (T.pure h)) (T.if (T.if ((tk _).bind fun r hr=> ?_) (T.pure h)) (T.pure h))))
 ·have hk:e.1=2:=by simpa using hk
  refine(Q5o out (by omega)).bind fun r hr=>T.ite (fun hp=>(tk _).bind fun t ht=> ?_) fun _=>T.pure h
  have hp:=of_decide_eq_true hp
  have hl:r.1≤e.2.2.2.1.length:=by
   rcases hr with hr|hr
   ·omega
   ·exact h2 hk _ hr
  unfold Zuc
  have hz: ((e.2.2.2.1.drop (0:Int).toNat).take (r.1.toNat- (0:Int).toNat)).length≤10000:=by rw[List.length_take,List.length_drop];omega
  exact T.guard (by omega) (T.guard (by unfold Z8;omega) ((Qsr h hn (by exact⟨by simp only[List.length_append];omega,by simp only;omega⟩)).bind fun q hq=>T.pure hq))
 ·unfold Zud
  exact(Qsr h hn (by exact pt hr)).bind fun q hq=>T.pure hq
 ·unfold Zue
  have:=hr.2
  exact T.guard (by unfold Z8;omega) ((Qsr h hn (by exact⟨by simp only;omega,by simp only[List.length_append];omega⟩)).bind fun q hq=>T.pure hq)
 ·unfold Zuf
  exact(Qsr h hn (by exact pt hr)).bind fun q hq=>T.pure hq
 ·unfold Zug
  exact(Qsr h hn (by exact pt hr)).bind fun q hq=>T.pure hq
theorem Qwq(l:List Z0)(hl:l.length≤1000)(x:Z0):T (Zmi l x) fun r=>r.1.length≤1000:=by
 unfold Zmi
 rw[Zz4 _ (by omega),Option.bind_some]
 exact T.ite (fun _=>T.pure hl) fun hc=>T.guard (by unfold Qp;simp only[List.length_singleton];omega) (T.pure (by have:=of_decide_eq_false hc;simp only[List.length_append,List.length_singleton];omega))
theorem Z6a{K:Nat}{p:Z7}(h:Vj K p)(hK:K≤80000)(b:Bool)(e:Jp)(he:e.2.2.2.1.length≤10000)(he2:e.1=2→e.2.2.2.1.length≤90):T (Ze3 p b e) fun r=>Vj (K+1100) r.1.2.1:=by
 have m:=h.mono (K':=K+1100) (by omega)
 have hls:=h.ls;have hlc:=h.lc
 unfold Ze3
 rw[Qpc h (by omega),Option.bind_some]
 refine(Qsl h.w (by omega)).bind fun t1 h1=>T.bind (Q:=fun _=>True) (T.if T.tt (Q62 e he)) fun t2 _=>T.bind (Q:=fun r=>(!t1.1|| !t2.1)=false→r.1=false→e.1≠9∧e.1≠10∧e.1≠11) (T.ite (fun hc=>T.pure fun h'=>by rw[hc]at h';cases h') fun _=>⟨_,Zth _ _ _,fun _ hc=>by simp at hc;omega⟩) fun t3 h3=>T.bind (Q:=fun _=>True) (T.if (T.if T.tt ((Zye h _).mono fun _ _=>trivial)) T.tt) fun t4 _=>T.ite (fun _=>T.pure m) fun hc=>(Qxi h (by omega) b).bind fun c hcv=>T.bind (Q:=fun _=>True) (T.if (by unfold Wq;exact T.tt) T.tt) fun t5 _=>T.if ((Qr3 hcv (by omega) _).bind fun r hr=>(Qpd m (hr.mono (by omega)) b).bind fun x hx=>T.if (T.pure hx) ((Zye h _).bind fun l hl=> ?_)) ?_
 ·have hq:=Qwq l.1 (by rw[hl];cases b<;>simp<;>omega) (r.1.2.1,(r.1.1,()))
  refine hq.bind fun y hy=>T.if ?_ ?_
  ·unfold Zgr
   exact(Qr8 _).bind fun q _=>T.pure ⟨hx.cl,hx.sv,hx.ls,hy,hx.tn,hx.tr⟩
  ·unfold Zgr
   exact(Qr8 _).bind fun q _=>T.pure ⟨hx.cl,hx.sv,hy,hx.lc,hx.tn,hx.tr⟩
 ·simp only[Bool.or_eq_false_iff,decide_eq_false_iff_not]at hc
  have f:=h1 (by simpa using hc.1.1.1.1)
  have k:=h3 (by simp only[Bool.or_eq_false_iff];exact hc.1.1.1) hc.1.1.2
  refine(Q1n e hcv hK he he2 k.1 k.2.1 k.2.2).bind fun r hr=> ?_
  unfold Zdr
  have note: ∀x:Z7,Vj (K+1100) x→x.2.2.2.2.1=p.2.2.2.2.1→T (Option.bind (Zrq x b e r.1.1 c.1) fun t109=>some ((r.1.1,(t109.2.1,())),())) fun r=>Vj (K+1100) r.1.2.1:=fun x hx ht=>
   (Q9s hx (by rw[ht];exact f.tr) (by rw[ht];omega) (hcv.mono (by omega)) (by omega) b e he r.1.1 hr.2.1 hr.2.2).bind fun q hq=>T.pure hq
  cases b
  ·exact note (r.1.2.1,p.2) ⟨hr.1,m.sv,m.ls,m.lc,m.tn,m.tr⟩ rfl
  ·exact note (p.1,(r.1.2.1,p.2.2)) ⟨m.cl,hr.1,m.ls,m.lc,m.tn,m.tr⟩ rfl
theorem Q3e(l:List Z0)(hl:l.length≤1000)(a:Int)(n:Nat)(hn: ∀x∈l,x.2.1.length≤n):T (Zpb l a) fun r=>r.2.1.length≤1000∧r.1.2.1.length≤n:=by
 unfold Zpb
 rw[Zz4 _ (by omega)]
 refine(inT _ _ _).bind fun t ht=>T.ite (fun _=>T.pure ⟨hl,by simp⟩) fun hc=> ?_
 have hr:=ht (by simpa using hc)
 rw[Zw (by omega) (by omega)]at hr
 have lp: ∀(t:Z0) (N i:Nat) (out:List Z0),l.length-i<N→i≤l.length→out.length≤i→T (Zbh N l a t out (i:Int)) fun r=>r.2.1.length≤1000∧r.1.2.1.length≤n:=by
  intro t N
  induction N with
  |zero=>intro i out h;omega
  |succ N ih=>
   intro i out hN hi ho
   unfold Zbh
   refine T.ite (fun hd=> ?_) fun _=>T.guard (by omega) (T.pure ⟨by simp only;omega,hn _ (Qu (by omega))⟩)
   have hd:=of_decide_eq_true hd
   unfold Zjv
   rw[Zq (m:=l.length) (by omega) (by omega)]
   exact T.if (T.guard (by omega) (T.guard (by unfold Qp;simp only[List.length_singleton];omega) (ih (i+1) _ (by omega) (by omega) (by simp only[List.length_append,List.length_singleton];omega)))) (ih (i+1) _ (by omega) (by omega) (by simp only;omega))
 exact lp _ _ 0 [] (by unfold Zim;omega) (by omega) (by simp)
theorem Q49(l:List Z0)(hl:l.length≤1000)(a:Int):TT (Zwg l a):=by
 have lp: ∀(N i:Nat),l.length-i<N→i≤l.length→TT (Zgi N l a (i:Int)):=by
  intro N
  induction N with
  |zero=>intro i h;omega
  |succ N ih=>
   intro i hN hi
   unfold Zgi
   refine T.ite (fun hd=> ?_) fun _=>T.tt
   have hd:=of_decide_eq_true hd
   refine T.guard (by omega) (T.if T.tt ?_)
   rw[Zq (m:=l.length) (by omega) (by omega)]
   exact ih (i+1) (by omega) (by omega)
 exact lp _ 0 (by unfold Zjr;omega) (by omega)
theorem Q1r(l:List Z0)(hl:l.length≤1000)(a:Int):T (Zoy l a) fun r=>r.1.length≤1000:=by
 unfold Zoy
 rw[Zz4 _ (by omega)]
 refine(inT _ _ _).bind fun t ht=>T.ite (fun _=>T.pure hl) fun hc=> ?_
 have hr:=ht (by simpa using hc)
 rw[Zw (by omega) (by omega)]at hr
 exact T.guard (by omega) ((Qwq l hl _).bind fun q hq=>T.pure hq)
theorem Q36{K:Nat}{p:Z7}(h:Vj K p)(b:Bool)(a:Int)(n:Nat)(hs: ∀x∈p.2.2.1,x.2.1.length≤n)(hc: ∀x∈p.2.2.2.1,x.2.1.length≤n):T (Znl p b a) fun r=>Vj K r.2.1∧r.1.1.2.1.length≤n:=by
 have hls:=h.ls;have hlc:=h.lc
 unfold Znl
 refine(Zye h b).bind fun l hl=>(Q3e l.1 (by rw[hl];cases b<;>simp<;>omega) a n (by rw[hl];cases b;exact hc;exact hs)).bind fun r hr=> ?_
 unfold Zpg
 exact T.if (T.pure ⟨⟨h.cl,h.sv,hr.1,h.lc,h.tn,h.tr⟩,hr.2⟩) (T.pure ⟨⟨h.cl,h.sv,h.ls,hr.1,h.tn,h.tr⟩,hr.2⟩)
theorem Q8i{K:Nat}{p:Z7}(h:Vj K p)(b:Bool)(a:Int):T (Znl p b a) fun r=>Vj K r.2.1∧(PrF p→r.1.1.2.1.length≤400):=by
 have big: ∀l:List Z0,∃n,∀x∈l,x.2.1.length≤n:=fun l=>by
  induction l with
  |nil=>exact⟨0,by simp⟩
  |cons x l ih=>
   obtain⟨n,hn⟩:=ih
   exact⟨n+x.2.1.length,fun y hy=>by
    rcases List.mem_cons.1 hy with rfl|hy
    ·omega
    ·have:=hn y hy;omega⟩
 by_cases f:PrF p
 ·exact(Q36 h b a 400 f.ls f.lc).mono fun r hr=>⟨hr.1,fun _=>hr.2⟩
 ·obtain⟨n,hn⟩:=big (p.2.2.1++p.2.2.2.1)
  exact(Q36 h b a n (fun x hx=>hn x (by simp[hx])) (fun x hx=>hn x (by simp[hx]))).mono fun r hr=>⟨hr.1,fun h'=>absurd h' f⟩
theorem Q8z{K:Nat}{p:Z7}(h:Vj K p)(h25:25≤K)(hK:K≤380000)(b:Bool)(a:Int):T (Zu2 p b a) fun r=>Vj (K+2000) r.1.1:=by
 have m:=h.mono (K':=K+2000) (by omega)
 have j3: ∀t x d,Vj (K+2000) x→Z9 (K+2000) d→T (X8 b t x d) fun r=>Vj (K+2000) r.1.1:=fun t x d hx hd=>by
  unfold X8 Zka
  exact(Qpd hx hd _).bind fun q hq=>T.pure hq
 have j1: ∀t x l c e,Vj (K+2000) x→Z9 (K+2000) c→T (X7 b p t x l c e) fun r=>Vj (K+2000) r.1.1:=fun t x l c e hx hc=>by
  unfold X7
  simp only[J2,Jb]
  refine(Qpd hx hc _).bind fun q hq=>T.if ((Qxi h (by omega) _).bind fun d hd=>(Qvz hd (by omega) _).bind fun y hy=>j3 _ _ _ hq (hy.mono (by omega))) ?_
  unfold Zka
  exact T.pure hq
 unfold Zu2
 simp only[J2,Jb]
 rw[Qpc h (by omega),Option.bind_some]
 refine(Q8i h b a).bind fun r hr=>(Qsl h.w (by omega)).bind fun t1 h1=>T.ite (fun _=>by rw[Option.bind_some];exact T.pure m) fun hc=>(Qxi h (by omega) _).bind fun c hcv=> ?_
 simp only[Bool.or_eq_false_iff]at hc
 have f:=h1 (by simpa using hc.1)
 have hl:=hr.2 f
 exact(Q48 hcv h25 _ (by omega) (by omega)).bind fun q hq=>j1 _ _ _ _ _ (hr.1.mono (by omega)) (hq.mono (by omega))
theorem Xbg{K:Nat}{p:Z7}(h:Vj K p)(hK:K≤380000)(b:Bool)(a:Int):T (Z6b p b a) fun r=>Vj (K+2000) r.1.1:=by
 have m:=h.mono (K':=K+2000) (by omega)
 unfold Z6b
 simp only[J2,Jb]
 rw[Qpc h (by omega),Option.bind_some]
 refine(Q8i h b a).bind fun r hr=>(Qsl h.w (by omega)).bind fun t1 h1=>T.if (by rw[Option.bind_some];exact T.pure m) ((Zye hr.1 _).bind fun l hl=>(Q49 _ (by have:=hr.1.ls;have:=hr.1.lc;rw[hl];cases b<;>simp<;>omega) _).bind fun t2 _=>T.if ((Qxi h (by omega) _).bind fun d hd=>(Qsy hd (by omega) _).bind fun y hy=> ?_) ?_)
 ·unfold Js Zq8
  exact(Qpd (hr.1.mono (K':=K+2000) (by omega)) (hy.mono (by omega)) _).bind fun q hq=>T.pure hq
 ·unfold Zq8
  exact T.pure (hr.1.mono (by omega))
theorem Xed{K:Nat}{p:Z7}(h:Vj K p)(hK:K≤380000)(b:Bool)(a:Int):T (Zq9 p b a) fun r=>Vj K r.1:=by
 have hls:=h.ls;have hlc:=h.lc
 unfold Zq9
 rw[Qpc h (by omega),Option.bind_some]
 refine(Zye h b).bind fun l hl=>(Q1r l.1 (by rw[hl];cases b<;>simp<;>omega) a).bind fun r hr=>(Qsl h.w (by omega)).bind fun t1 h1=>T.if (T.pure h) ?_
 unfold Zlo
 exact T.if (T.pure ⟨h.cl,h.sv,hr,h.lc,h.tn,h.tr⟩) (T.pure ⟨h.cl,h.sv,h.ls,hr,h.tn,h.tr⟩)
def EQ(r: (Jp×Unit)×(Qe×Unit)):Prop:=Y3 r.2.1∧r.1.1.2.2.2.1.length≤10000∧(r.1.1.1=2→r.1.1.2.2.2.1.length≤90)
theorem Q7n(c:Qe)(hc:Y3 c):T (Zs5 c) EQ:=by
 have j1: ∀c t e,Y3 c→e.2.2.2.1.length≤10000→(e.1=2→e.2.2.2.1.length≤90)→T (Kq c t e) EQ:=fun c t e hc he h2=>by
  unfold Kq
  exact(Xaw e).bind fun r hr=>T.pure ⟨hc,by simp only;omega,fun h=>by have:=h2 (hr.2.symm.trans h);simp only;omega⟩
 have j2: ∀c t e b,Y3 c→e.2.2.2.1.length≤10000→(e.1=2→e.2.2.2.1.length≤90)→T (Zit c t e b) EQ:=fun c t e b hc he h2=>by
  unfold Zit
  exact T.if ((Zcd _ _ hc).bind fun r hr=>j1 _ _ _ hr.1 (by exact he) (by exact h2)) (j1 _ _ _ hc he h2)
 have p4: ∀{x:List UInt8} {l:List (List UInt8)},x∈l→(∀y∈l,y.length≤10)→x.length≤10:=fun h k=>k _ h
 unfold Zs5
 exact(Qk8 c _ hc (by simp)).bind fun t1 h1=>(Zcd _ _ h1.1).bind fun t2 h2=>(Zcd _ _ h2.1).bind fun t3 h3=>T.if ((Q3d _ _ h3.1 (by simp)).bind fun t4 h4=>by have:=p4 h4.2 (by simp);exact j1 _ _ _ h4.1 (by simp only;omega) (fun _=>by simp only;omega)) (T.if ((Q4j _ 7 h3.1 (by omega)).bind fun t4 h4=>T.guard (by unfold Z8;simp only[List.length_singleton];omega) (j1 _ _ _ h4.1 (by simp only[List.length_append,List.length_singleton];omega) (fun _=>by simp only[List.length_append,List.length_singleton];omega))) (T.if ((Q3d _ _ h3.1 (by simp)).bind fun t4 h4=>by have:=p4 h4.2 (by simp);exact j1 _ _ _ h4.1 (by simp only;omega) (fun _=>by simp only;omega)) (T.if ((Zcd _ _ h3.1).bind fun t4 h4=>j1 _ _ _ h4.1 (by simp) (by simp)) (T.ite (fun hk=>(Q37 _ h3.1).bind fun t4 h4=>(Qr4 h4.2).bind fun s hs=>T.bind (Q:=fun r=>r.1.length≤10000) ⟨_,Q9f s.1 (by omega),by simp only[Qer];omega⟩ fun q hq=>j1 _ _ _ h4.1 hq (fun h=>absurd ((show t1.1.1=2 from h).symm.trans (show t1.1.1=11 by simpa using hk)) (by decide))) fun _=>T.if (j2 _ _ _ _ h3.1 (by simp) (by simp)) (j2 _ _ _ _ h3.1 (by simp) (by simp))))))
def PQ(K:Nat)(r: (Z7×Unit)×(Qe×Unit)):Prop:=Y3 r.2.1∧Vj K r.1.1
theorem Q9u{K:Nat}{p:Z7}(h:Vj K p)(h25:25≤K)(hK:K≤70000)(c:Qe)(hc:Y3 c):T (Zvg c p) (PQ (K+2000)):=by
 have bf: ∀{a b:Int},(a==b)=false→a≠b:=fun h=>by simpa using h
 have bt: ∀{a b:Int},(a==b)=true→a=b:=fun h=>by simpa using h
 have j3: ∀c t b x k q,Y3 c→(q=false→k=8∨k=9)→T (Zku c p t b x k q) (PQ (K+2000)):=fun c t b x k q hc hq=>by
  unfold Zku
  simp only[J2,Jb]
  refine T.ite (fun _=>(Zcd _ _ hc).bind fun t1 h1=>(Q8z h h25 (by omega) _ _).bind fun r hr=>T.pure ⟨h1.1,hr⟩) fun h0=>T.ite (fun _=>(Zcd _ _ hc).bind fun t1 h1=>(Xbg h (by omega) _ _).bind fun r hr=>T.pure ⟨h1.1,hr⟩) fun h8=>T.ite (fun _=>(Zcd _ _ hc).bind fun t1 h1=>(Xed h (by omega) _ _).bind fun r hr=>T.pure ⟨h1.1,hr.mono (by omega)⟩) fun h9=> ?_
  exact((hq h0).elim (bf h8) (bf h9)).elim
 have j2: ∀c t b x k q,Y3 c→(q=false→6≤k∧k<10)→T (Zf0 c p t b x k q) (PQ (K+2000)):=fun c t b x k q hc hq=>by
  unfold Zf0
  simp only[J2]
  exact T.ite (fun _=>(Zcd _ _ hc).bind fun t1 h1=>(Z6a h (by omega) _ _ (by simp) (by simp)).bind fun r hr=>T.pure ⟨h1.1,hr.mono (by omega)⟩) fun h0=>T.ite (fun h6=>j3 _ _ _ _ _ _ hc fun e=>(bf e (bt h6)).elim) fun h6=>j3 _ _ _ _ _ _ hc fun e=>by
   have:=hq h0;have:=bf h6;have:=bf e;omega
 have j1: ∀c t b x k q,Y3 c→(q=false→3≤k∧k<10)→T (Zfz c p t b x k q) (PQ (K+2000)):=fun c t b x k q hc hq=>by
  unfold Zfz
  exact T.ite (fun _=>(Q7n c hc).bind fun t1 h1=>(Z6a h (by omega) _ _ h1.2.1 h1.2.2).bind fun r hr=>T.pure ⟨h1.1,hr.mono (by omega)⟩) fun h0=>T.ite (fun h3=>j2 _ _ _ _ _ _ hc fun e=>(bf e (bt h3)).elim) fun h3=>T.ite (fun h4=>j2 _ _ _ _ _ _ hc fun e=>(bf e (bt h4)).elim) fun h4=>j2 _ _ _ _ _ _ hc fun e=>by
   have:=hq h0;have:=bf h3;have:=bf h4;have:=bf e;omega
 unfold Zvg
 exact(Qg9 c _ hc).bind fun t1 h1=>(Zcd _ _ h1).bind fun t2 h2=>T.ite (fun h3=>j1 _ _ _ _ _ _ h2.1 fun e=>(bf e (bt h3)).elim) fun h3=>T.ite (fun h4=>j1 _ _ _ _ _ _ h2.1 fun e=>(bf e (bt h4)).elim) fun h4=>j1 _ _ _ _ _ _ h2.1 fun e=>by
  have:=bf h3;have:=bf h4;have:=bf e;have:=h2.2.1;have:=h2.2.2 (by omega);omega
theorem Q9y(a b:Zqf):T (Zu4 a b) fun r=>Vj 25 r.1:=by
 unfold Zu4
 exact(Qs2 _ _ _).bind fun x hx=>(Qs2 _ _ _).bind fun y hy=>T.if (T.pure ⟨Z9.mono (Z9.zero rfl rfl) (by omega),Z9.mono (Z9.zero rfl rfl) (by omega),Nat.zero_le _,Nat.zero_le _,Nat.zero_le _,fun _ h=>by cases h⟩) (T.pure ⟨hx.mono (by omega),hy.mono (by omega),by simp,by simp,by simp,by simp⟩)
theorem Q9t(c:Qe)(hc:Y3 c):T (Zvf c) (PQ 40000):=by
 have lp: ∀(t:Z7) (N m:Nat) (c:Qe) (x:Z7) (K:Nat),m<N→25≤K→Y3 c→Vj K x→K+2000*m≤40000→T (Zkt N c t x (m:Int)) (PQ 40000):=by
  intro t N
  induction N with
  |zero=>intro m c x K h;omega
  |succ N ih=>
   intro m c x K hm h25 hc hx hK
   unfold Zkt
   refine T.ite (fun hd=>(Q9u hx h25 (by omega) c hc).bind fun t1 h1=> ?_) fun _=>T.pure ⟨hc,hx.mono (by omega)⟩
   have hd:=of_decide_eq_true hd
   rw[show IntKind.i64.wrap ((m:Int)-1)=((m-1:Nat):Int) by rw[Zw (by omega) (by omega)];omega]
   exact ih (m-1) _ _ (K+2000) (by omega) (by omega) h1.1 h1.2 (by omega)
 have cf: ∀c,Y3 c→T (Zdn c) fun r=>Y3 r.2.1:=fun c hc=>by
  obtain⟨y,c',e,k,-⟩:=Q32 c hc;exact⟨_,e,k⟩
 unfold Zvf
 simp only[J2]
 refine(cf c hc).bind fun t1 h1=>(cf _ h1).bind fun t2 h2=>(Q9y _ _).bind fun p hp=>(Z6a hp (by omega) _ _ (by simp) (by simp)).bind fun r hr=>(Q4j _ 8 h2 (by omega)).bind fun t3 h3=>T.guard (by unfold Z8;simp only[List.length_singleton];omega) ((Z6a hr (by omega) _ _ (by simp only[List.length_append,List.length_singleton];omega) (fun _=>by simp only[List.length_append,List.length_singleton];omega)).bind fun y hy=> ?_)
 unfold Zuh
 refine(Zcd _ _ h3.1).bind fun t4 h4=> ?_
 have:=h4.2.2 (by omega)
 obtain⟨m,hm⟩:=Int.eq_ofNat_of_zero_le h4.2.1
 rw[hm]
 exact lp _ _ m _ _ _ (by unfold Zmu;omega) (by omega) h4.1 hy (by omega)
theorem Q2p(c:Qe)(hc:Y3 c):T (Zp7 c) (PQ 40000):=by
 unfold Zp7
 exact(Q9t c hc).bind fun t h=>(Zcd _ _ h.1).bind fun t1 h1=>T.if (T.pure ⟨h1.1,⟨h.2.cl.str,h.2.cl.pk⟩,h.2.sv,h.2.ls,h.2.lc,h.2.tn,h.2.tr⟩) (T.if (T.pure ⟨h1.1,h.2.cl,⟨h.2.sv.str,h.2.sv.pk⟩,h.2.ls,h.2.lc,h.2.tn,h.2.tr⟩) (T.pure ⟨h1.1,h.2⟩))
theorem Qw0(t:Xw)(h2:t.2.2.1.length≤1048576)(h3:t.2.2.2.1.length≤1048576): ∃r,Ze4 t=some (r,())∧Zea t=some (r,()):=by
 obtain⟨id,server,wrote,got,done,ended,broken,u⟩:=t
 simp only at h2 h3
 unfold Ze4 Zea Zbt Zx Z3
 simp only[Option.bind_some]
 have hb: (decide (id≥(0:Int))&&decide (id≤999999999))=(decide ((0:Int)≤id)&&decide (id≤999999999)):=rfl
 rw[hb]
 by_cases hid:0≤id∧id≤999999999
 ·have e: (decide ((0:Int)≤id)&&decide (id≤999999999))=true:=by simp[hid.1,hid.2]
  rw[e]
  have f1:=Zcs id (by omega) (by omega)
  have f2:=Zcs (wrote.length:Int) (by omega) (by omega)
  have f3:=Zcs (got.length:Int) (by omega) (by omega)
  have g1:=Zfd id (by omega) (by omega)
  have g2:=Zfd (wrote.length:Int) (by omega) (by omega)
  have g3:=Zfd (got.length:Int) (by omega) (by omega)
  have l1:=Yq id (by omega) (by omega)
  have l2:=Yq (wrote.length:Int) (by omega) (by omega)
  have l3:=Yq (got.length:Int) (by omega) (by omega)
  generalize Go.Lib.itoa id=a at*
  generalize Go.Lib.itoa (wrote.length:Int)=b at*
  generalize Go.Lib.itoa (got.length:Int)=c at*
  unfold Zlr Zm4
  simp only[f1,f2,f3,g1,g2,g3,Option.bind_some,Bool.not_true,cond_false]
  cases server<;>cases broken<;>cases ended<;>
   (simp only[cond_false,cond_true,Option.bind_some]
    repeat rw[Zb (by simp only[List.length_append,List.length_cons,List.length_nil,Z8];omega)]
    refine⟨_,rfl,?_⟩
    repeat rw[Zb (by simp only[List.length_append,List.length_cons,List.length_nil,Z8];omega)]
    simp only[List.append_assoc,List.cons_append,List.nil_append])
 ·have e: (decide ((0:Int)≤id)&&decide (id≤999999999))=false:=by
   rw[Bool.and_eq_false_iff,decide_eq_false_iff_not,decide_eq_false_iff_not];omega
  rw[e]
  exact⟨[],rfl,rfl⟩
theorem Qsx(p:Z7)(tl:Xw→List UInt8)(h: ∀t,t∈p.2.2.2.2.1→Ze4 t=some (tl t,())): ∀(N i:Nat),p.2.2.2.2.1.length-i<N→i≤p.2.2.2.2.1.length→p.2.2.2.2.1.length≤100000→ ∀out:List (List UInt8),out.length≤i→
  Ze5 N p out (i:Int)=some (out++ (p.2.2.2.2.1.drop i).map tl,())
 |0,_,h,_,_,_,_=>by omega
 |N+1,i,hN,hi,hl,out,ho=>by
  unfold Ze5
  by_cases hh:i<p.2.2.2.2.1.length
  ·rw[Zn (Zk (by omega)),Zb (by omega),show(i:Int).toNat=i from rfl,h _ (Qu hh),Option.bind_some]
   simp only
   rw[Zb (by unfold Qp;simp only[List.length_singleton];omega),Zq hh (by omega),Qsx p tl h N (i+1) (by omega) (by omega) hl _ (by simp;omega),V9 (d:=Zfc) hh]
   simp
  ·rw[Zi (Zj (by omega)),List.drop_eq_nil_of_le (by omega)];simp
theorem Qsw(tl:Xw→List UInt8)(l:List Xw)(h: ∀t,t∈l→Zea t=some (tl t,()))(hl:l.length≤100000): ∀(N i:Nat),l.length-i<N→i≤l.length→ ∀out:List (List UInt8),out.length≤i→
  Zeb N out l (l.length:Int) (i:Int)=some (out++ (l.drop i).map tl,())
 |0,_,h,_,_,_=>by omega
 |N+1,i,hN,hi,out,ho=>by
  unfold Zeb
  by_cases hh:i<l.length
  ·rw[Zn (Zk (by omega)),Zb (by omega),show(i:Int).toNat=i from rfl,h _ (Qu hh),Option.bind_some]
   simp only
   rw[Zb (by unfold Qp;simp only[List.length_singleton];omega),Zq hh (by omega),Qsw tl l h hl N (i+1) (by omega) (by omega) _ (by simp;omega),V9 (d:=Zfc) hh]
   simp
  ·rw[Zi (Zj (by omega)),List.drop_eq_nil_of_le (by omega)];simp
theorem Q3f{K:Nat}{p:Z7}(h:Vj K p): ∃r,Zua p=some (r,())∧Ztz p=some (r,())∧r.length≤1000:=by
 have hn:=h.tn
 have h1: ∀t:Xw,∃r,t∈p.2.2.2.2.1→Ze4 t=some (r,())∧Zea t=some (r,()):=fun t=>by
  by_cases ht:t∈p.2.2.2.2.1
  ·have q:=h.tr t ht
   obtain⟨r,e1,e2⟩:=Qw0 t (by have:=q.1;omega) (by have:=q.2;omega)
   exact⟨r,fun _=>⟨e1,e2⟩⟩
  ·exact⟨[],fun hc=>absurd hc ht⟩
 have g1:=Qsx p (fun t=>Classical.choose (h1 t)) (fun t ht=>(Classical.choose_spec (h1 t) ht).1) (Zcp p [] 0) 0 (by unfold Zcp;omega) (by omega) (by omega) [] (by simp)
 have g2:=Qsw (fun t=>Classical.choose (h1 t)) p.2.2.2.2.1 (fun t ht=>(Classical.choose_spec (h1 t) ht).2) (by omega) (Zcg [] p.2.2.2.2.1 (p.2.2.2.2.1.length:Int) 0) 0 (by unfold Zcg;omega) (by omega) [] (by simp)
 exact⟨_,g1,g2,by simpa using hn⟩
theorem Z4s(l:List (List UInt8))(hl:l.length≤1000000):Zl4 l l=some (true,()):=by
 have lp: ∀(N i:Nat),l.length-i<N→i≤l.length→Zf3 N l l (i:Int)=some (true,()):=by
  intro N
  induction N with
  |zero=>intro i h;omega
  |succ N ih=>
   intro i hN hi
   unfold Zf3
   by_cases hh:i<l.length
   ·rw[Zn (Zk (by omega)),Zb (by omega),Zb (by omega),Zi (by simp),Zq hh (by omega)]
    exact ih (i+1) (by omega) (by omega)
   ·rw[Zi (Zj (by omega))]
 unfold Zl4
 rw[Zi (by simp)]
 exact lp _ 0 (by unfold Zjf;omega) (by omega)
theorem Qht(code:List Int)(h:code.length≤1048576):T (Zg2 code) fun r=>Y3 r.1:=by
 obtain⟨c,e,k⟩:=Q8x code h;exact⟨_,e,k⟩
theorem Q9r(code:List Int)(hc:code.length≤1048576):T (Zve code) fun r=>Z9 40000 r.1.1:=by
 have j1: ∀t x s,Z9 30000 x→Jo 30000 s→T (Kl t x s) fun r=>Z9 40000 r.1.1:=fun t x s hx hs=>by
  unfold Kl
  exact(Ys hx.str hs (Nat.le_refl _) (by omega)).bind fun r hr=>T.pure ((hx.up (by omega) hr).mono (by omega))
 unfold Zve
 refine(Qht code hc).bind fun c hcv=>(Q2o _ hcv).bind fun x hx=>T.ite (fun hp=>(Qg9 _ _ hx.1).bind fun t1 h1=>T.ite (fun hq=>(Zcd _ _ h1).bind fun t2 h2=> ?_) fun _=>T.pure (hx.2.mono (by omega))) fun hp=>by
  simp only[Bool.and_false,cond_false]
  exact T.pure (hx.2.mono (by omega))
 have hp:=of_decide_eq_true hp
 have r1:=h2.2.2 (by omega)
 have r0:=h2.2.1
 refine T.guard ⟨r0,r1⟩ ((Zcd _ _ h2.1).bind fun t3 h3=> ?_)
 have hs:=hx.2.str.all _ (Qu (d:=Zm) (show t2.1.1.toNat<x.1.1.2.2.2.1.length by omega))
 exact T.if (j1 _ _ _ hx.2 ⟨hs.snd,hs.rcv⟩) (T.if (j1 _ _ _ hx.2 ⟨hs.snd,hs.rcv⟩) (T.if (j1 _ _ _ hx.2 ⟨hs.snd,hs.rcv⟩) (j1 _ _ _ hx.2 hs)))
structure Xc5(c:Zg):Prop where
 pn: ∀p∈c.2.2.2.2.2.2.2.2.2.2.2.2.2.2.2.1,0≤p.1∧p.1≤9223372036854775807
 tot:0≤c.2.2.2.2.1.2.1∧c.2.2.2.2.1.2.1≤c.2.2.2.2.1.1∧c.2.2.2.2.1.1≤4611686018427387903
 inf:0≤c.2.2.2.2.2.1.2.2.2.1∧c.2.2.2.2.2.1.2.2.2.1≤c.2.2.2.2.2.1.2.2.1∧c.2.2.2.2.2.1.2.2.1≤4611686018427387903
 bid:0≤c.2.2.2.2.2.2.1.2.1∧c.2.2.2.2.2.2.1.2.1≤c.2.2.2.2.2.2.1.1∧c.2.2.2.2.2.2.1.1≤4611686018427387903
 uni:0≤c.2.2.2.2.2.2.2.1.2.1∧c.2.2.2.2.2.2.2.1.2.1≤c.2.2.2.2.2.2.2.1.1∧c.2.2.2.2.2.2.2.1.1≤4611686018427387903
theorem Q6q(c:Zk2):T (Zbq c) fun r=>r.1=true→0≤c.2.1∧c.2.1≤c.1∧c.1≤4611686018427387903:=by
 unfold Zbq
 refine(inT _ _ _).bind fun t ht=>T.bind (Q:=fun r=>r.1=true→0≤c.2.1∧c.2.1≤c.1) (T.if (inT _ _ _) (T.pure fun h=>by cases h)) fun t2 h2=>T.bind (Q:=fun _=>True) (T.if (tIn _ _ _) T.tt) fun t3 _=>T.pure fun h=> ?_
 simp only[Bool.and_eq_true]at h
 have:=ht h.1.1;have:=h2 h.1.2
 omega
theorem Xar{K:Nat}{c:Zg}(h:Z9 K c)(hK:K≤1000000):T (Z5 c) fun r=>r.1=true→Xc5 c:=by
 have hl:=h.pk.1
 have lp: ∀(N i:Nat),c.2.2.2.2.2.2.2.2.2.2.2.2.2.2.2.1.length-i<N→i≤c.2.2.2.2.2.2.2.2.2.2.2.2.2.2.2.1.length→(∀p∈c.2.2.2.2.2.2.2.2.2.2.2.2.2.2.2.1.take i,0≤p.1∧p.1≤9223372036854775807)→T (Ji N c (i:Int)) fun r=>r.1=true→ ∀p∈c.2.2.2.2.2.2.2.2.2.2.2.2.2.2.2.1,0≤p.1∧p.1≤9223372036854775807:=by
  intro N
  induction N with
  |zero=>intro i h;omega
  |succ N ih=>
   intro i hN hi hp
   unfold Ji
   refine T.ite (fun hc=> ?_) fun hc=> ?_
   ·have hc:=of_decide_eq_true hc
    refine T.guard (by omega) ((inT _ _ _).bind fun t ht=>T.guard (fun _ _=>by omega) (T.guard (fun _ h=> ?_) (T.guard (fun _=>by omega) (T.bind (Q:=fun _=>True) (T.if T.tt (Qjd (h.pk.2 _ (Qu (by omega))))) fun t2 _=>T.ite (fun _=>T.pure fun h=>by cases h) fun hb=> ?_))))
    ·have:=of_decide_eq_true h
     rw[Zw (by omega) (by omega)];omega
    ·rw[Zq (m:=c.2.2.2.2.2.2.2.2.2.2.2.2.2.2.2.1.length) (by omega) (by omega)]
     refine ih (i+1) (by omega) (by omega) fun x hm=> ?_
     rw[List.take_succ_eq_append_getElem (by omega)]at hm
     rcases List.mem_append.1 hm with hm|hm
     ·exact hp x hm
     ·rw[List.mem_singleton.1 hm]
      simp only[Bool.or_eq_false_iff,Bool.not_eq_false']at hb
      have:=ht hb.1.1
      have w:=Q2k (c.2.2.2.2.2.2.2.2.2.2.2.2.2.2.1-1)
      rw[show(i:Int).toNat=i from rfl,List.getD_eq_getElem?_getD,List.getElem?_eq_getElem (by omega),Option.getD_some]at this
      omega
   ·have hc:=of_decide_eq_false hc
    rw[List.take_of_length_le (by omega)]at hp
    exact(tIn _ _ _).bind fun t _=>T.bind (Q:=fun _=>True) (T.if (tIn _ _ _) T.tt) fun t _=>T.bind (Q:=fun _=>True) (T.if (tIn _ _ _) T.tt) fun t _=>T.bind (Q:=fun _=>True) (T.if (tIn _ _ _) T.tt) fun t ht=>
     T.bind (Q:=fun _=>True) (T.if (tt1 (Zyv h.str hK)) T.tt) fun t _=>T.bind (Q:=fun _=>True) (T.if (tt1 (Zyu h.str hK)) T.tt) fun t _=>T.pure fun _=>hp
 unfold Z5
 have B: ∀{α β:Type} {b:Bool} {m n:Option α} {f:α→Option β} {R:β→Prop},TT m→TT n→(∀y,T (f y) R)→T (Option.bind (bif b then m else n) f) R:=fun h1 h2 h3=>(T.if h1 h2).bind fun y _=>h3 y
 have B2: ∀{P:Prop} {β:Type} {b:Bool} {m:Option (Bool×Unit)} {f:Bool×Unit→Option β} {R:β→Prop},T m (fun r=>r.1=true→P)→(∀y,(y.1=true→P)→T (f y) R)→T (Option.bind (bif b then some (false,())else m) f) R:=fun h1 h3=>T.bind (T.if (T.pure fun h=>by cases h) h1) h3
 refine(tt1 (Zqp _)).bind fun t _=>B T.tt (tt1 (Zqp _)) fun t=>B T.tt (tt1 (Zph h.str hK)) fun t=>B2 (Q3s _) fun t1 h1=>B2 (Q4p _) fun t2 h2=>B2 (Q6q _) fun t3 h3=>B2 (Q6q _) fun t4 h4=>B T.tt (tt1 (Zso _)) fun t=>B T.tt (tt1 (Zso _)) fun t=>
  T.ite (fun _=>T.pure fun h=>by cases h) fun hc=>(lp _ 0 (by unfold Ks;omega) (by omega) (by simp)).mono fun r hr hb=> ?_
 simp only[Bool.or_eq_false_iff,Bool.not_eq_false']at hc
 exact⟨hr hb,h1 hc.1.1.1.1.1.2,h2 hc.1.1.1.1.2,h3 hc.1.1.1.2,h4 hc.1.1.2⟩
theorem Q3r{K:Nat}{c:Zg}(h:Z9 K c)(hK:K≤1000000):T (Zcw c) fun r=>r.1.length≤10000:=by
 obtain⟨v3,e3,-,-⟩:=Qln h hK
 unfold Zcw Wq
 refine(Znw h hK).bind fun t _=>T.if (T.pure (by simp)) ?_
 rw[Option.bind_some]
 refine T.if ((Qr8 _).bind fun a ha=>T.guard (by unfold Z8;simp only[List.length_cons,List.length_nil];omega) (T.pure (by simp only[List.length_append,List.length_cons,List.length_nil];omega))) ?_
 refine(Qr8 _).bind fun a ha=>T.guard (by unfold Z8;simp only[List.length_cons,List.length_nil];omega) (T.guard (by unfold Z8;simp only[List.length_append,List.length_cons,List.length_nil];omega) ((Qls _).bind fun t _=>(Qr8 _).bind fun b hb=>T.guard (by unfold Z8;simp only[List.length_append,List.length_cons,List.length_nil];omega) (T.guard (by unfold Z8;simp only[List.length_append,List.length_cons,List.length_nil];omega) ((Q0j _).bind fun t _=>(Qr8 _).bind fun d hd=>T.guard (by unfold Z8;simp only[List.length_append,List.length_cons,List.length_nil];omega) (T.guard (by unfold Z8;simp only[List.length_append,List.length_cons,List.length_nil];omega) ((Qr8 _).bind fun e he=>T.guard (by unfold Z8;simp only[List.length_append,List.length_cons,List.length_nil];omega) (T.guard (by unfold Z8;simp only[List.length_append,List.length_cons,List.length_nil];omega) ?_)))))))
 rw[e3,Option.bind_some]
 exact(Qr8 _).bind fun f hf=>T.guard (by unfold Z8;simp only[List.length_append,List.length_cons,List.length_nil];omega) (T.pure (by simp only[List.length_append,List.length_cons,List.length_nil];omega))
def ltB(x:Z0):Bool:=(decide ((0:Int)≤x.1)&&decide (x.1≤999999))&& (decide ((1:Int)≤(x.2.1.length:Int))&&decide ((x.2.1.length:Int)≤400))
theorem ltI(x:Z0):Zlg x=some (!ltB x,()):=by
 unfold Zlg Z3 ltB
 rw[Option.bind_some,bO]
 cases (decide ((0:Int)≤x.1)&&decide (x.1≤999999))<;>simp
theorem Qsv{l:List Z0}(hl:l.length≤1000)(u:Unit): ∀(N i:Nat),l.length-i<N→i≤l.length→ ∃k b,Qd N l u (l.length:Int) (i:Int)=some (k,())∧decide (k≥0)= !b∧V1 N l (i:Int)=some (b&&decide ((l.length:Int)≤60),())
 |0,_,h,_=>by omega
 |N+1,i,hN,hi=>by
  rw[Qd,V1]
  by_cases hh:i<l.length
  ·rw[Zn (Zk (by omega)),Zn (Zk (by omega)),Zb (by omega),Zb (by omega),show(i:Int).toNat=i from rfl,ltI,Zth,Zth,Option.bind_some,Option.bind_some,Zb (fun _=>by omega),bO,Zq hh (by omega)]
   obtain⟨k,b,h1,h2,h3⟩:=Qsv hl () N (i+1) (by omega) (by omega)
   have e: (!(decide ((l.getD i Qv).1≥0)&&decide ((l.getD i Qv).1≤999999))|| !(!!(decide ((l.getD i Qv).1≥0)&&decide ((l.getD i Qv).1≤999999))&& (decide (((l.getD i Qv).2.1.length:Int)≥1)&&decide (((l.getD i Qv).2.1.length:Int)≤400))))= !ltB (l.getD i Qv):=by
    unfold ltB
    simp only[ge_iff_le,Bool.not_not]
    cases (decide ((0:Int)≤(l.getD i Qv).1)&&decide ((l.getD i Qv).1≤999999))<;>simp
   simp only[e]
   cases hc:ltB (l.getD i Qv)
   ·exact⟨_,false,rfl,by simp,rfl⟩
   ·exact⟨k,b,h1,h2,h3⟩
  ·rw[Zi (Zj (by omega)),Zi (Zj (by omega))];exact⟨_,true,rfl,by simp,by simp⟩
theorem Qlj(l:List Z0)(hl:l.length≤1000):Zjz l=Zaf l:=by
 unfold Zjz Q9 Xj Zaf
 obtain⟨k,b,h1,h2,h3⟩:=Qsv hl () (Ja l 0) 0 (by unfold Ja;omega) (by omega)
 have e2:Q1 l () (l.length:Int) 0=Ja l 0:=rfl
 rw[Int.natCast_zero]at h1 h3
 rw[e2,h1,Option.bind_some,h2,h3,bA]
 cases decide ((l.length:Int)≤60)<;>cases b<;>rfl
def trB(t:Xw):Bool:= !(((!Zup t.1)|| (decide ((t.2.2.1.length:Int)>4000)))|| (decide ((t.2.2.2.1.length:Int)>4000)))
theorem trI(t:Xw):Zsj t=some (!trB t,()):=by
 unfold Zsj Xy Z3 trB
 rw[Option.bind_some,Option.bind_some,Bool.not_not];rfl
noncomputable def Q0t(p:Z7):Option (Bool×Unit):=
 Option.bind (Z5 p.1) fun t35=>
 Option.bind (bif t35.1 then(Z5 p.2.1)else some (false,())) fun t39=>
 Option.bind (bif((t35.1&&t39.1)&& (!p.1.1))&&p.2.1.1 then(Zaf p.2.2.1)else some (false,())) fun t55=>
 Option.bind (bif((((t35.1&&t39.1)&& (!p.1.1))&&p.2.1.1)&&t55.1)then(Zaf p.2.2.2.1)else some (false,())) fun t60=>
 some ((((((t35.1&&t39.1)&& (!p.1.1))&&p.2.1.1)&&t55.1)&&t60.1)&& (decide ((p.2.2.2.2.1.length:Int)≤100)),())
theorem Qw1{p:Z7}(hl:p.2.2.2.2.1.length≤1000)(u:Unit): ∀(N i:Nat),p.2.2.2.2.1.length-i<N→i≤p.2.2.2.2.1.length→ ∃k b,Qj N p.2.2.2.2.1 u (p.2.2.2.2.1.length:Int) (i:Int)=some (k,())∧decide (k≥0)= !b∧Zes N p (i:Int)=bif b then Q0t p else some (false,())
 |0,_,h,_=>by omega
 |N+1,i,hN,hi=>by
  rw[Qj,Zes]
  by_cases hh:i<p.2.2.2.2.1.length
  ·rw[Zn (Zk (by omega)),Zn (Zk (by omega)),Zb (by omega),Zb (by omega),show(i:Int).toNat=i from rfl,trI,Zdk,Option.bind_some,Option.bind_some,Zq hh (by omega)]
   obtain⟨k,b,h1,h2,h3⟩:=Qw1 hl () N (i+1) (by omega) (by omega)
   have e: ((!Zup (p.2.2.2.2.1.getD i Zfc).1||decide (((p.2.2.2.2.1.getD i Zfc).2.2.1.length:Int)>4000))||decide (((p.2.2.2.2.1.getD i Zfc).2.2.2.1.length:Int)>4000))= !trB (p.2.2.2.2.1.getD i Zfc):=by unfold trB;rw[Bool.not_not]
   simp only[e]
   cases hc:trB (p.2.2.2.2.1.getD i Zfc)
   ·exact⟨_,false,rfl,by simp,rfl⟩
   ·exact⟨k,b,h1,h2,h3⟩
  ·rw[Zi (Zj (by omega)),Zi (Zj (by omega))];exact⟨_,true,rfl,by simp,rfl⟩
theorem Q9k{K:Nat}{p:Z7}(h:PrW K p)(hK:K≤1000000):Zws p=Zgj p:=by
 have hls:=h.ls;have hlc:=h.lc
 unfold Zws Xp Xx Zgj
 obtain⟨k,b,h1,h2,h3⟩:=Qw1 h.tn () (W9 p 0) 0 (by unfold W9;omega) (by omega)
 have e2:Xe p.2.2.2.2.1 () (p.2.2.2.2.1.length:Int) 0=W9 p 0:=rfl
 rw[Int.natCast_zero]at h1 h3
 obtain⟨⟨b1,u1⟩,f1,-⟩:=Znw h.cl hK
 obtain⟨⟨b2,u2⟩,f2,-⟩:=Znw h.sv hK
 obtain⟨⟨b3,u3⟩,f3,-⟩:=Qe0 p.2.2.1 (by omega)
 obtain⟨⟨b4,u4⟩,f4,-⟩:=Qe0 p.2.2.2.1 (by omega)
 rw[e2,h1,Option.bind_some,h2,h3,Zqq h.cl hK,Zqq h.sv hK,Qlj _ hls,Qlj _ hlc]
 unfold Q0t
 rw[f1,f2,f3,f4]
 simp only[Option.bind_some,bA]
 cases b1<;>cases b2<;>cases b3<;>cases b4<;>cases p.1.1<;>cases p.2.1.1<;>cases decide ((p.2.2.2.2.1.length:Int)≤100)<;>cases b<;>rfl
theorem Q71{K:Nat}{p:Z7}(h:Vj K p)(hK:K≤1000000): ∃r,Zsy p=some (r,())∧Zsl p=some (r,()):=by
 have hls:=h.ls;have hlc:=h.lc
 obtain⟨⟨b,u⟩,e,-⟩:=Qsl h.w hK
 obtain⟨a,a1,a2⟩:=Qzm h.cl hK
 obtain⟨d,d1,d2⟩:=Qzm h.sv hK
 obtain⟨⟨a',u1⟩,a3,a4⟩:=Q3r h.cl hK
 obtain⟨⟨d',u2⟩,d3,d4⟩:=Q3r h.sv hK
 rw[a1]at a3;cases a3
 rw[d1]at d3;cases d3
 have i1:=Yq (p.2.2.1.length:Int) (by omega) (by omega)
 have i2:=Yq (p.2.2.2.1.length:Int) (by omega) (by omega)
 unfold Zsy Zsl
 rw[Q9k h.w hK,e,Option.bind_some,Option.bind_some]
 cases b
 ·exact⟨_,rfl,rfl⟩
 simp only[Bool.not_true,cond_false,a1,a2,d1,d2,Option.bind_some,Zcs (p.2.2.1.length:Int) (by omega) (by omega),Zfd (p.2.2.1.length:Int) (by omega) (by omega),Zcs (p.2.2.2.1.length:Int) (by omega) (by omega),Zfd (p.2.2.2.1.length:Int) (by omega) (by omega)]
 simp only at a4 d4
 repeat rw[Zb (by unfold Z8;simp only[List.length_append,List.length_cons,List.length_nil];omega)]
 exact⟨_,rfl,rfl⟩
theorem Q1s{K:Nat}{c:Zg}(h:Z9 K c)(hK:K≤1000000): ∃r,Zoz c=some (r,())∧Zor c=some (r,()):=by
 obtain⟨⟨b,u⟩,e,hf⟩:=Xar h hK
 unfold Zoz Zor Zr3
 rw[Zqq h hK,e,Option.bind_some,Option.bind_some]
 cases b
 ·exact⟨_,rfl,rfl⟩
 have f:=hf rfl
 have f1:=f.tot;have f2:=f.inf;have f3:=f.bid;have f4:=f.uni
 have l: ∀n:Int,0≤n→n≤4611686018427387903→(Go.Lib.itoa n).length≤21:=fun n h0 h1=>Yq n (by omega) (by omega)
 have s: ∀n:Int,0≤n→n≤4611686018427387903→Zv n=some (Go.Lib.itoa n,()):=fun n h0 h1=>Zcs n (by omega) (by omega)
 have m: ∀n:Int,0≤n→n≤4611686018427387903→Ql n=some (Go.Lib.itoa n,()):=fun n h0 h1=>Zfd n (by omega) (by omega)
 have l1:=l c.2.2.2.2.1.2.1 (by omega) (by omega)
 have l2:=l c.2.2.2.2.1.1 (by omega) (by omega)
 have l3:=l c.2.2.2.2.2.1.2.2.2.1 (by omega) (by omega)
 have l4:=l c.2.2.2.2.2.1.2.2.1 (by omega) (by omega)
 have l5:=l c.2.2.2.2.2.2.1.2.1 (by omega) (by omega)
 have l6:=l c.2.2.2.2.2.2.1.1 (by omega) (by omega)
 have l7:=l c.2.2.2.2.2.2.2.1.2.1 (by omega) (by omega)
 have l8:=l c.2.2.2.2.2.2.2.1.1 (by omega) (by omega)
 simp only[Bool.not_true,cond_false,Option.bind_some,s c.2.2.2.2.1.2.1 (by omega) (by omega),s c.2.2.2.2.1.1 (by omega) (by omega),s c.2.2.2.2.2.1.2.2.2.1 (by omega) (by omega),s c.2.2.2.2.2.1.2.2.1 (by omega) (by omega),s c.2.2.2.2.2.2.1.2.1 (by omega) (by omega),s c.2.2.2.2.2.2.1.1 (by omega) (by omega),s c.2.2.2.2.2.2.2.1.2.1 (by omega) (by omega),s c.2.2.2.2.2.2.2.1.1 (by omega) (by omega),
  m c.2.2.2.2.1.2.1 (by omega) (by omega),m c.2.2.2.2.1.1 (by omega) (by omega),m c.2.2.2.2.2.1.2.2.2.1 (by omega) (by omega),m c.2.2.2.2.2.1.2.2.1 (by omega) (by omega),m c.2.2.2.2.2.2.1.2.1 (by omega) (by omega),m c.2.2.2.2.2.2.1.1 (by omega) (by omega),m c.2.2.2.2.2.2.2.1.2.1 (by omega) (by omega),m c.2.2.2.2.2.2.2.1.1 (by omega) (by omega)]
 repeat rw[Zb (by unfold Z8;simp only[List.length_append,List.length_cons,List.length_nil];omega)]
 simp only[Option.bind_some]
 repeat rw[Zb (by unfold Z8;simp only[List.length_append,List.length_cons,List.length_nil];omega)]
 refine⟨_,rfl,?_⟩
 repeat (first|rw[Zb (by unfold Z8;simp only[List.length_append,List.length_cons,List.length_nil];omega)]|rw[Option.bind_some])
 simp only[List.append_assoc,List.cons_append,List.nil_append]
noncomputable def Zx3(l:List Zh):List UInt8:=bif Go.Lib.join (l.map Z3r) [59,32]==([]:List UInt8)then[110,111,110,101]else Go.Lib.join (l.map Z3r) [59,32]
theorem frm{l:List Zh}(h:Qpr l):Zgg l=some (Zx3 l,())∧Zf2 l=some (Zx3 l,())∧(Zx3 l).length≤3000000:=by
 have hl:=h.1
 have ho: ∀x∈l,fok x:=fun x hx=>by have:=h.2 x hx;unfold FOK at this;unfold fok;omega
 have hj: (Go.Lib.join (l.map Z3r) [59,32]).length≤2002*l.length:=by
  have:=Qsn [59,32] 2000 (l.map Z3r) fun x hx=>by
   obtain⟨y,hy,rfl⟩:=List.mem_map.1 hx
   exact(Zx4 y (ho y hy)).2.2
  simpa using this
 rw[Q1c l ho (by omega),Q0d l ho (by omega)]
 unfold Q7w Zx3
 cases Go.Lib.join (l.map Z3r) [59,32]==([]:List UInt8)
 ·exact⟨rfl,rfl,by rw[cond_false];omega⟩
 ·exact⟨rfl,rfl,by simp⟩
noncomputable def plT(p:Q2):List UInt8:=(Go.Lib.itoa p.1++ ([58,32]:List UInt8))++Zx3 p.2.1
theorem Q0r{K:Nat}{c:Zg}(h:Z9 K c)(hK:K≤1000000): ∃r,Znh c=some (r,())∧Zm3 c=some (r,())∧r.length≤1000000:=by
 have hp:=h.pk.1
 obtain⟨⟨b,u⟩,e,hf⟩:=Xar h hK
 unfold Znh Zm3
 rw[Zqq h hK,e,Option.bind_some]
 cases b
 ·refine⟨[],?_,rfl,by simp⟩
  rw[Vp,Zab,e]
  cases decide ((0:Int)< (c.2.2.2.2.2.2.2.2.2.2.2.2.2.2.2.1.length:Int))<;>rfl
 have f:=(hf rfl).pn
 have st: ∀p∈c.2.2.2.2.2.2.2.2.2.2.2.2.2.2.2.1,Zv p.1=some (Go.Lib.itoa p.1,())∧Ql p.1=some (Go.Lib.itoa p.1,())∧(Go.Lib.itoa p.1).length≤21:=fun p hp=>by
  have:=f p hp
  exact⟨Zcs _ (by omega) (by omega),Zfd _ (by omega) (by omega),Yq _ (by omega) (by omega)⟩
 have lp: ∀(N i:Nat) (out:List (List UInt8)),c.2.2.2.2.2.2.2.2.2.2.2.2.2.2.2.1.length-i<N→i≤c.2.2.2.2.2.2.2.2.2.2.2.2.2.2.2.1.length→out.length≤i→
   Zab N c out (i:Int)=some (out++ (c.2.2.2.2.2.2.2.2.2.2.2.2.2.2.2.1.drop i).map plT,())∧Zc4 N out c.2.2.2.2.2.2.2.2.2.2.2.2.2.2.2.1 (c.2.2.2.2.2.2.2.2.2.2.2.2.2.2.2.1.length:Int) (i:Int)=some (out++ (c.2.2.2.2.2.2.2.2.2.2.2.2.2.2.2.1.drop i).map plT,()):=by
  intro N
  induction N with
  |zero=>intro i out h;omega
  |succ N ih=>
   intro i out hN hi ho
   unfold Zab Zc4
   by_cases hh:i<c.2.2.2.2.2.2.2.2.2.2.2.2.2.2.2.1.length
   ·have hm:=Qu (d:=Qk) hh
    obtain⟨s1,s2,s3⟩:=st _ hm
    obtain⟨g1,g2,g3⟩:=frm (h.pk.2 _ hm)
    have d:decide ((i:Int)< (c.2.2.2.2.2.2.2.2.2.2.2.2.2.2.2.1.length:Int))=true:=Zk (by omega)
    rw[d,e]
    simp only[cond_true,Option.bind_some,Bool.true_and,show(i:Int).toNat=i from rfl]
    rw[Zb (by omega),Zb (by omega),Zb (by omega),s1,s2,g1,g2]
    simp only[Option.bind_some]
    have q1: (Go.Lib.itoa (c.2.2.2.2.2.2.2.2.2.2.2.2.2.2.2.1.getD i Qk).1).length+ ([58,32]:List UInt8).length≤Z8:=by unfold Z8;simp only[List.length_cons,List.length_nil];omega
    have q2: (Go.Lib.itoa (c.2.2.2.2.2.2.2.2.2.2.2.2.2.2.2.1.getD i Qk).1++ ([58,32]:List UInt8)).length+ (Zx3 (c.2.2.2.2.2.2.2.2.2.2.2.2.2.2.2.1.getD i Qk).2.1).length≤Z8:=by unfold Z8;simp only[List.length_append,List.length_cons,List.length_nil];omega
    have q3: ∀x:List UInt8,out.length+ [x].length≤Qp:=fun x=>by unfold Qp;simp only[List.length_singleton];omega
    simp only[Zb q1,Zb q2,Zb (q3 _),Zq hh (show c.2.2.2.2.2.2.2.2.2.2.2.2.2.2.2.1.length≤9223372036854775807 by omega)]
    obtain⟨k1,k2⟩:=ih (i+1) (out++ [plT (c.2.2.2.2.2.2.2.2.2.2.2.2.2.2.2.1.getD i Qk)]) (by omega) (by omega) (by simp only[List.length_append,List.length_singleton];omega)
    have e2:out++ (c.2.2.2.2.2.2.2.2.2.2.2.2.2.2.2.1.drop i).map plT=out++ [plT (c.2.2.2.2.2.2.2.2.2.2.2.2.2.2.2.1.getD i Qk)]++ (c.2.2.2.2.2.2.2.2.2.2.2.2.2.2.2.1.drop (i+1)).map plT:=by rw[V9 (d:=Qk) hh];simp
    rw[e2]
    exact⟨k1,k2⟩
   ·have d:decide ((i:Int)< (c.2.2.2.2.2.2.2.2.2.2.2.2.2.2.2.1.length:Int))=false:=Zj (by omega)
    rw[d,List.drop_eq_nil_of_le (by omega)]
    simp
 obtain⟨k1,k2⟩:=lp (Vp c [] 0) 0 [] (by unfold Vp;omega) (by omega) (by simp)
 exact⟨_,k1,k2,by simp;omega⟩
def Pc{α:Type}(m:Option α)(Q:α→Prop):Prop:= ∀y,m=some y→Q y
section
variable {α β:Type} {m n:Option α} {f:α→Option β} {Q:α→Prop} {R:β→Prop}
theorem Pc.bind(h:Pc m Q)(k: ∀y,Q y→Pc (f y) R):Pc (Option.bind m f) R:=fun y e=>by
 cases hm:m with
 |none=>rw[hm]at e;cases e
 |some x=>rw[hm]at e;exact k x (h x hm) y e
theorem Pc.any:Pc m fun _=>True:=fun _ _=>trivial
theorem Pc.skip(k: ∀y,Pc (f y) R):Pc (Option.bind m f) R:=Pc.any.bind fun y _=>k y
theorem Pc.pure{y:α}(h:Q y):Pc (some y) Q:=fun z e=>by cases e;exact h
theorem Pc.ite{c:Bool}(h1:c=true→Pc m Q)(h2:c=false→Pc n Q):Pc (bif c then m else n) Q:=by
 cases c
 ·exact h2 rfl
 ·exact h1 rfl
theorem Pc.guard{p:Prop}(h:Pc m Q):Pc (Zc p m) Q:=fun y e=>by
 by_cases hp:p
 ·rw[Zb hp]at e;exact h y e
 ·unfold Zc at e;rw[if_neg hp]at e;cases e
end
theorem T.pc{α:Type}{m:Option α}{Q R:α→Prop}(h:T m Q)(k:Pc m R):T m fun y=>Q y∧R y:=by
 obtain⟨y,e,hy⟩:=h;exact⟨y,e,hy,k y e⟩
def StF(s:Zs):Prop:=0≤s.1∧s.1≤5
theorem Q7q(s:Zs):Pc (Vw s) fun r=>0≤r.1∧r.1≤3:=by
 unfold Vw
 exact Pc.ite (fun _=>Pc.pure (by simp)) fun _=>Pc.ite (fun _=>Pc.pure (by simp)) fun _=>Pc.ite (fun _=>Pc.pure (by simp)) fun _=>Pc.pure (by simp)
def TS(s:Zs)(r:Bool×Unit):Prop:=r.1=true→StF s
theorem TS.no{s:Zs}:TS s (false,()):=fun h=>by cases h
theorem sl4(s:Zs): ∀(N:Nat) (i:Int),Pc (Jz N s i) (TS s)
 |0,_=>fun _ e=>by cases e
 |N+1,i=>by
  unfold Jz
  refine Pc.ite (fun _=>Pc.guard (Pc.ite (fun _=>Pc.pure TS.no) fun _=>sl4 s N _)) fun _=>Pc.ite (fun _=>Pc.pure TS.no) fun _=>(Q7q s).bind fun y hy=>Pc.pure fun h=> ?_
  have:s.1=y.1:=by simpa using h
  unfold StF;omega
theorem sl3(s:Zs): ∀(N:Nat) (i:Int),Pc (Jy N s i) (TS s)
 |0,_=>fun _ e=>by cases e
 |N+1,i=>by
  unfold Jy
  exact Pc.ite (fun _=>Pc.guard (Pc.ite (fun _=>Pc.pure TS.no) fun _=>sl3 s N _)) fun _=>sl4 s _ _
theorem sl2(s:Zs): ∀(N:Nat) (l:List Ze) (i:Int),Pc (Jx N s l i) (TS s)
 |0,_,_=>fun _ e=>by cases e
 |N+1,l,i=>by
  unfold Jx
  exact Pc.ite (fun _=>Pc.guard (Pc.skip fun _=>sl2 s N _ _)) fun _=>Pc.skip fun _=>Pc.skip fun _=>Pc.skip fun _=>Pc.skip fun _=>Pc.guard (Pc.skip fun _=>Pc.ite (fun _=>Pc.pure TS.no) fun _=>sl3 s _ _)
theorem sl1(s:Zs): ∀(N:Nat) (l:List Ze) (i:Int),Pc (Jw N s l i) (TS s)
 |0,_,_=>fun _ e=>by cases e
 |N+1,l,i=>by
  unfold Jw
  exact Pc.ite (fun _=>Pc.guard (Pc.skip fun _=>sl1 s N _ _)) fun _=>sl2 s _ _ _
theorem Q92(s:Zs):Pc (Yg s) (TS s):=by
 unfold Yg
 refine Pc.skip fun _=>Pc.skip fun _=>Pc.skip fun _=>Pc.skip fun _=>Pc.skip fun _=>Pc.skip fun _=>Pc.skip fun _=>Pc.ite (fun _=>Pc.pure TS.no) fun _=>Pc.ite (fun h=>Pc.pure fun _=> ?_) fun _=>sl1 s _ _ _
 simp at h
 unfold StF;omega
theorem Q93(s:Zp):Pc (Vo s) fun r=>r.1=true→StF s.2.1:=by
 unfold Vo
 refine Pc.skip fun t1=>Pc.bind (Q:=TS s.2.1) (Pc.ite (fun _=>Pc.pure TS.no) fun _=>Q92 _) fun t2 h2=>Pc.skip fun _=>Pc.skip fun _=>Pc.skip fun _=>Pc.skip fun _=>Pc.skip fun _=>Pc.ite (fun _=>Pc.pure fun h=>by cases h) fun hc=> ?_
 simp only[Bool.or_eq_false_iff,Bool.not_eq_false']at hc
 have q:=h2 hc.1.1.1.1.1.1.2
 exact Pc.ite (fun _=>Pc.pure fun _=>q) fun _=>Pc.pure fun _=>q
theorem Xea{K:Nat}{l:List Zp}(h:Zs9 K l)(hK:K≤1000000):T (Yz l) fun r=>r.1=true→l.length≤24∧ ∀s∈l,StF s.2.1:=by
 have hlen:=h.len
 have lp: ∀(N i:Nat),l.length-i<N→i≤l.length→(∀s∈l.take i,StF s.2.1)→T (Yc N l (i:Int)) fun r=>r.1=true→l.length≤24∧ ∀s∈l,StF s.2.1:=by
  intro N
  induction N with
  |zero=>intro i h;omega
  |succ N ih=>
   intro i hN hi hp
   unfold Yc
   refine T.ite (fun hc=> ?_) fun hc=>T.pure fun h=>⟨by have:=of_decide_eq_true h;omega,by have:=of_decide_eq_false hc;rwa [List.take_of_length_le (by omega)]at hp⟩
   have hc:=of_decide_eq_true hc
   have hh:i<l.length:=by omega
   refine T.guard (by omega) (((tt1 (Zyd (h.all _ (Qu (by omega))) hK)).pc (Q93 _)).bind fun t ht=>T.guard (fun _ _=>by omega) (T.guard (fun _ h=> ?_) (T.ite (fun _=>T.pure fun h=>by cases h) fun hb=> ?_)))
   ·have:=of_decide_eq_true h
    rw[Zw (by omega) (by omega)];omega
   ·rw[Zq (m:=l.length) (by omega) (by omega)]
    refine ih (i+1) (by omega) (by omega) fun x hm=> ?_
    rw[List.take_succ_eq_append_getElem hh]at hm
    rcases List.mem_append.1 hm with hm|hm
    ·exact hp x hm
    ·rw[List.mem_singleton.1 hm]
     simp only[Bool.or_eq_false_iff,Bool.not_eq_false']at hb
     have:=ht.2 hb.1
     rwa [show(i:Int).toNat=i from rfl,List.getD_eq_getElem?_getD,List.getElem?_eq_getElem hh]at this
 unfold Yz
 exact lp _ 0 (by unfold Wf;omega) (by omega) (by simp)
theorem Xas{K:Nat}{c:Zg}(h:Z9 K c)(hK:K≤1000000):Pc (Z5 c) fun r=>r.1=true→c.2.2.2.1.length≤24∧ ∀s∈c.2.2.2.1,StF s.2.1:=by
 unfold Z5
 obtain⟨y,e,hy⟩:=Xea h.str hK
 refine Pc.skip fun t1=>Pc.skip fun t2=>Pc.bind (Q:=fun r=>r.1=true→c.2.2.2.1.length≤24∧ ∀s∈c.2.2.2.1,StF s.2.1) (Pc.ite (fun _=>Pc.pure fun h=>by cases h) fun _=>by rw[e];exact Pc.pure hy) fun t3 h3=>Pc.skip fun _=>Pc.skip fun _=>Pc.skip fun _=>Pc.skip fun _=>Pc.skip fun _=>Pc.skip fun _=>Pc.ite (fun _=>Pc.pure fun h=>by cases h) fun hc=>fun y _ _=> ?_
 simp only[Bool.or_eq_false_iff,Bool.not_eq_false']at hc
 exact h3 hc.1.1.1.1.1.1.2
theorem Xbb(a b:Int): (a==b)=(b==a):=by
 by_cases h:a=b
 ·rw[h]
 ·rw[show(a==b)=false by simpa using h,show(b==a)=false by simpa using fun e=>h e.symm]
theorem Qw9{K:Nat}{c:Zg}(h:Z9 K c)(hK:K≤1000000)(u:Unit)(e:Z5 c=some (true,u)): ∃b,Zlk c=some (b,())∧Zlh c=some (b,()):=by
 have hl:=h.str.len
 obtain⟨v,ev⟩:=Zyv h.str hK
 have lp: ∀(N i:Nat),c.2.2.2.1.length-i<N→i≤c.2.2.2.1.length→ ∃b,Zb2 N c (i:Int)=some (b,())∧Zbw N c c.2.2.2.1 (c.2.2.2.1.length:Int) (i:Int)=some (b,()):=by
  intro N
  induction N with
  |zero=>intro i h;omega
  |succ N ih=>
   intro i hN hi
   unfold Zb2 Zbw
   by_cases hh:i<c.2.2.2.1.length
   ·have d:decide ((i:Int)< (c.2.2.2.1.length:Int))=true:=Zk (by omega)
    rw[d,e]
    simp only[cond_true,Option.bind_some,Bool.true_and]
    rw[Zb (by omega),Zb (by omega),Zb (by omega)]
    cases (c.2.2.2.1.getD (i:Int).toNat Zm).2.2.1.2.1 !=(c.2.2.2.1.getD (i:Int).toNat Zm).2.1.2.2.2.2.2.2.2.1
    ·rw[cond_false,cond_false,Zq hh (by omega)]
     exact ih (i+1) (by omega) (by omega)
    ·exact⟨_,rfl,rfl⟩
   ·have d:decide ((i:Int)< (c.2.2.2.1.length:Int))=false:=Zj (by omega)
    rw[d,e,Qt2 h.str hK,ev]
    exact⟨_,rfl,by simp only[cond_false,Option.bind_some,Bool.true_and];rw[Xbb]⟩
 unfold Zlk Zlh
 rw[Zqq h hK,e,Option.bind_some]
 exact lp _ 0 (by unfold Zfo;omega) (by omega)
theorem Qxa{K:Nat}{c:Zg}(h:Z9 K c)(hK:K≤1000000)(u:Unit)(e:Z5 c=some (true,u)): ∃b,Zll c=some (b,())∧Zli c=some (b,()):=by
 have hl:=h.str.len
 obtain⟨v,ev⟩:=Zyu h.str hK
 have lp: ∀(N i:Nat) (r:Int),c.2.2.2.1.length-i<N→i≤c.2.2.2.1.length→ ∃b,Zb3 N c r (i:Int)=some (b,())∧Zbx N c r c.2.2.2.1 (c.2.2.2.1.length:Int) (i:Int)=some (b,()):=by
  intro N
  induction N with
  |zero=>intro i r h;omega
  |succ N ih=>
   intro i r hN hi
   unfold Zb3 Zbx
   by_cases hh:i<c.2.2.2.1.length
   ·have d:decide ((i:Int)< (c.2.2.2.1.length:Int))=true:=Zk (by omega)
    rw[d,e]
    simp only[cond_true,Option.bind_some,Bool.true_and]
    rw[Zb (by omega),Zb (by omega)]
    generalize (((c.2.2.2.1.getD (i:Int).toNat Zm).2.2.2.2.2.2.2.1&& ((c.2.2.2.1.getD (i:Int).toNat Zm).2.2.2.2.1.2.2.2.1 !=(c.2.2.2.1.getD (i:Int).toNat Zm).2.2.2.1.2.2.2.1))|| (decide ((c.2.2.2.1.getD (i:Int).toNat Zm).2.2.2.2.1.2.2.2.2.1< (c.2.2.2.1.getD (i:Int).toNat Zm).2.2.2.1.2.1.1)))=q
    cases q
    ·rw[cond_false,cond_false,Zq hh (by omega)]
     exact ih (i+1) _ (by omega) (by omega)
    ·exact⟨_,rfl,rfl⟩
   ·have d:decide ((i:Int)< (c.2.2.2.1.length:Int))=false:=Zj (by omega)
    rw[d,e,Qt1 h.str hK,ev]
    exact⟨_,rfl,by simp only[cond_false,Option.bind_some,Bool.true_and];rw[Xbb,Xbb r]⟩
 unfold Zll Zli
 rw[Zqq h hK,e,Option.bind_some]
 exact lp _ 0 _ (by unfold Zfp;omega) (by omega)
theorem Q42(a b:List Ze)(ha:a.length≤2000000): ∃q,Znc a b=some (q,())∧Zm2 a b=some (q,()):=by
 unfold Znc Zm2 V0
 by_cases hl:a.length=b.length
 ·have lp: ∀(N i:Nat),a.length-i<N→i≤a.length→ ∃q,Zc9 N a b (i:Int)=some (q,())∧Q7 N a b (a.length:Int) (i:Int)=some (q,()):=by
   intro N
   induction N with
   |zero=>intro i h;omega
   |succ N ih=>
    intro i hN hi
    unfold Zc9 Q7
    by_cases hh:i<a.length
    ·rw[Zn (Zk (by omega)),Zn (Zk (by omega)),Zb (by omega),Zb (by omega),Zb (by omega),Zb (by omega)]
     cases !(eqV (Zt) (a.getD (i:Int).toNat Zz) (b.getD (i:Int).toNat Zz))
     ·rw[cond_false,cond_false,Zq hh (by omega)]
      exact ih (i+1) (by omega) (by omega)
     ·exact⟨_,rfl,rfl⟩
    ·rw[Zi (Zj (by omega)),Zi (Zj (by omega))];exact⟨_,rfl,rfl⟩
  rw[Zi (by simp[hl]),Zi (by simp[hl])]
  obtain⟨q,h1,h2⟩:=lp (Zbp a b 0) 0 (by unfold Zbp;omega) (by omega)
  refine⟨q,h1,?_⟩
  have h2':Q7 (Kc a b (a.length:Int) 0) a b (a.length:Int) 0=some (q,()):=h2
  rw[h2'];rfl
 ·rw[Zn (by simpa using fun e: (a.length:Int)=b.length=>hl (by omega)),Zn (by simpa using fun e: (a.length:Int)=b.length=>hl (by omega))]
  exact⟨false,rfl,rfl⟩
theorem Q6z(o:Int):Zf8 (o,(IntKind.i64.wrap (o+0),()))=false:=by
 cases h:Zf8 (o,(IntKind.i64.wrap (o+0),()))with
 |false=>rfl
 |true=>
  have:=Q6.1 h
  simp only at this
  by_cases hb:o≤9223372036854775807
  ·rw[Zw (by omega) (by omega)]at this;omega
  ·have:=(Q2k (o+0)).2;omega
def Z07(id:Int):List Zh→List Ze→List Ze
 | [],out=>out
 |f::l,out=>Z07 id l (if(f.1==8&&f.2.1==id)=true∧rsB (-1) out=true∧Zf8 (f.2.2.1,(IntKind.i64.wrap (f.2.2.1+ (f.2.2.2.1.length:Int)),()))=true then Znt out (f.2.2.1,(IntKind.i64.wrap (f.2.2.1+ (f.2.2.2.1.length:Int)),()))else out)
theorem Qho(id:Int): ∀(l:List Zh) (out:List Ze),(Z07 id l out).length≤out.length+l.length
 | [],out=>by simp[Z07]
 |f::l,out=>by
  unfold Z07
  refine Nat.le_trans (Qho id l _) ?_
  split
  ·have:=Qco (l:=out) (r:=((f.2.2.1,(IntKind.i64.wrap (f.2.2.1+ (f.2.2.2.1.length:Int)),())):Ze))
   simp only[List.length_cons];omega
  ·simp only[List.length_cons];omega
theorem Qp6{K:Nat}{c:Zg}(h:Z9 K c)(hK:K≤1000000)(id:Int)(i:Nat)(hi:i<c.2.2.2.2.2.2.2.2.2.2.2.2.2.2.2.1.length): ∀(N k:Nat) (out:List Ze),(c.2.2.2.2.2.2.2.2.2.2.2.2.2.2.2.1.getD i Qk).2.1.length-k<N→k≤(c.2.2.2.2.2.2.2.2.2.2.2.2.2.2.2.1.getD i Qk).2.1.length→out.length≤1000*i+k→
  (∀K1,V8 K1 N id c out (i:Int) (k:Int)=K1 (id,c,Z07 id ((c.2.2.2.2.2.2.2.2.2.2.2.2.2.2.2.1.getD i Qk).2.1.drop k) out,((i+1:Nat):Int),()))∧
  (∀K1 t m,Zbc K1 N id out t m (i:Int) (c.2.2.2.2.2.2.2.2.2.2.2.2.2.2.2.1.getD i Qk).2.1 ((c.2.2.2.2.2.2.2.2.2.2.2.2.2.2.2.1.getD i Qk).2.1.length:Int) (k:Int)=K1 (id,Z07 id ((c.2.2.2.2.2.2.2.2.2.2.2.2.2.2.2.1.getD i Qk).2.1.drop k) out,t,m,((i+1:Nat):Int),()))
 |0,_,_,h,_,_=>by omega
 |N+1,k,out,hN,hk,ho=>by
  have hp:=h.pk.1
  have hf:=(h.pk.2 _ (Qu (d:=Qk) hi)).1
  have ei:IntKind.i64.wrap ((i:Int)+1)=((i+1:Nat):Int):=by rw[Zw (by omega) (by omega)];rfl
  by_cases hh:k< (c.2.2.2.2.2.2.2.2.2.2.2.2.2.2.2.1.getD i Qk).2.1.length
  ·have ek:IntKind.i64.wrap ((k:Int)+1)=((k+1:Nat):Int):=by rw[Zw (by omega) (by omega)];rfl
   have hcl:=Qho id [(c.2.2.2.2.2.2.2.2.2.2.2.2.2.2.2.1.getD i Qk).2.1.getD k Xk] out
   obtain⟨r1,r2⟩:=Qp6 h hK id i hi N (k+1) (Z07 id [(c.2.2.2.2.2.2.2.2.2.2.2.2.2.2.2.1.getD i Qk).2.1.getD k Xk] out) (by omega) (by omega) (by simp only[List.length_singleton]at hcl;omega)
   have e:Z07 id ((c.2.2.2.2.2.2.2.2.2.2.2.2.2.2.2.1.getD i Qk).2.1.drop k) out=Z07 id ((c.2.2.2.2.2.2.2.2.2.2.2.2.2.2.2.1.getD i Qk).2.1.drop (k+1)) (Z07 id [(c.2.2.2.2.2.2.2.2.2.2.2.2.2.2.2.1.getD i Qk).2.1.getD k Xk] out):=by
    rw[V9 (d:=Xk) hh];rfl
   rw[e]
   refine⟨fun K1=> ?_,fun K1 t m=> ?_⟩
   ·rw[←r1 K1]
    conv=>lhs;unfold V8 Zjx
    rw[Zb (by omega),Zn (Zk (by rw[show(i:Int).toNat=i from rfl];omega)),Zb (by omega),Zb (by rw[show(i:Int).toNat=i from rfl];omega),ek]
    simp only[show(i:Int).toNat=i from rfl,show(k:Int).toNat=k from rfl,Z07]
    generalize (c.2.2.2.2.2.2.2.2.2.2.2.2.2.2.2.1.getD i Qk).2.1.getD k Xk=f
    rw[Qv0 _ _ (by omega),Option.bind_some]
    cases hq: (f.1==8&&f.2.1==id)
    ·simp
    ·cases hd:f.2.2.2.1==([]:List UInt8)
     ·simp
     ·have hd:f.2.2.2.1=[]:=by simpa using hd
      have:=Q6z f.2.2.1
      simp only[hd,List.length_nil,Int.natCast_zero,this]
      simp
   ·rw[←r2 K1 t m]
    conv=>lhs;unfold Zbc
    rw[Zn (Zk (by omega)),Zb (by omega),ek]
    simp only[show(k:Int).toNat=k from rfl,Z07]
    generalize (c.2.2.2.2.2.2.2.2.2.2.2.2.2.2.2.1.getD i Qk).2.1.getD k Xk=f
    rw[Qps _ _ (by omega),Option.bind_some]
    cases hq: (f.1==8&&f.2.1==id)
    ·simp
    ·simp
  ·rw[List.drop_eq_nil_of_le (by omega)]
   refine⟨fun K1=> ?_,fun K1 t m=> ?_⟩
   ·unfold V8
    rw[Zb (by omega),Zi (Zj (by rw[show(i:Int).toNat=i from rfl];omega)),ei];rfl
   ·unfold Zbc
    rw[Zi (Zj (by omega)),ei];rfl
theorem Xep(x:Int)(h:0≤x∧x≤5): (x !=(4:Int)&&x !=(5:Int))=decide (x<4):=by
 by_cases hx:x<4
 ·rw[Zk hx];simp;omega
 ·rw[Zj hx];simp;omega
theorem Q6m{K:Nat}{c:Zg}(h:Z9 K c)(hK:K≤1000000)(id:Int): ∃r,Zpf c id=some (r,())∧Zsn c.2.2.2.2.2.2.2.2.2.2.2.2.2.2.2.1 id=some (r,()):=by
 have hp:=h.pk.1
 have lp: ∀(N i:Nat) (out:List Ze),c.2.2.2.2.2.2.2.2.2.2.2.2.2.2.2.1.length-i<N→i≤c.2.2.2.2.2.2.2.2.2.2.2.2.2.2.2.1.length→out.length≤1000*i→ ∃r,Zfb N id c out (i:Int)=some (r,())∧Zhq N id out c.2.2.2.2.2.2.2.2.2.2.2.2.2.2.2.1 (c.2.2.2.2.2.2.2.2.2.2.2.2.2.2.2.1.length:Int) (i:Int)=some (r,()):=by
  intro N
  induction N with
  |zero=>intro i out h;omega
  |succ N ih=>
   intro i out hN hi ho
   unfold Zfb Zhq
   by_cases hh:i<c.2.2.2.2.2.2.2.2.2.2.2.2.2.2.2.1.length
   ·have hf:=(h.pk.2 _ (Qu (d:=Qk) hh)).1
    rw[Zn (Zk (by omega)),Zn (Zk (by omega)),Zb (by omega)]
    have q1:=(Qp6 h hK id i hh (Zcq id c out (i:Int) 0) 0 out (by unfold Zcq;rw[show(i:Int).toNat=i from rfl];omega) (by omega) (by omega)).1
    have q2:=(Qp6 h hK id i hh (Zfh id out c.2.2.2.2.2.2.2.2.2.2.2.2.2.2.2.1 (c.2.2.2.2.2.2.2.2.2.2.2.2.2.2.2.1.length:Int) (i:Int) (c.2.2.2.2.2.2.2.2.2.2.2.2.2.2.2.1.getD i Qk).2.1 ((c.2.2.2.2.2.2.2.2.2.2.2.2.2.2.2.1.getD i Qk).2.1.length:Int) 0) 0 out (by unfold Zfh;omega) (by omega) (by omega)).2
    rw[Int.natCast_zero]at q1 q2
    have hcl:=Qho id ((c.2.2.2.2.2.2.2.2.2.2.2.2.2.2.2.1.getD i Qk).2.1.drop 0) out
    rw[q1]
    simp only[show(i:Int).toNat=i from rfl]
    rw[q2]
    exact ih (i+1) _ (by omega) (by omega) (by rw[List.drop_zero]at hcl;simp only[List.drop_zero];omega)
   ·rw[Zi (Zj (by omega)),Zi (Zj (by omega))];exact⟨_,rfl,rfl⟩
 unfold Zpf Zsn
 exact lp _ 0 [] (by unfold Ziv;omega) (by omega) (by simp)
theorem Qza{K:Nat}{c:Zg}(h:Z9 K c)(hK:K≤1000000)(u:Unit)(e:Z5 c=some (true,u)): ∃b,Zm9 c=some (b,())∧Zm1 c=some (b,()):=by
 have hl:=h.str.len
 have hs:=(Xas h hK _ e rfl).2
 have lp: ∀(N i:Nat),c.2.2.2.1.length-i<N→i≤c.2.2.2.1.length→ ∃b,Zc5 N c (i:Int)=some (b,())∧Zc2 N c c.2.2.2.1 (c.2.2.2.1.length:Int) (i:Int)=some (b,()):=by
  intro N
  induction N with
  |zero=>intro i h;omega
  |succ N ih=>
   intro i hN hi
   unfold Zc5 Zc2
   by_cases hh:i<c.2.2.2.1.length
   ·have d:decide ((i:Int)< (c.2.2.2.1.length:Int))=true:=Zk (by omega)
    have hm:=Qu (d:=Zm) hh
    have st:=hs _ hm
    have hi2:=h.str.all _ hm
    obtain⟨r,r1,r2⟩:=Q6m h hK (c.2.2.2.1.getD i Zm).1
    obtain⟨q,q1,q2⟩:=Q42 (c.2.2.2.1.getD i Zm).2.1.2.2.2.1 r (by have:=Xm hi2.snd.flight hi2.snd.e0 hi2.snd.eK (by omega);omega)
    have se: ((c.2.2.2.1.getD i Zm).2.1.1 !=(4:Int)&& (c.2.2.2.1.getD i Zm).2.1.1 !=(5:Int))=decide ((c.2.2.2.1.getD i Zm).2.1.1<4):=Xep _ st
    rw[d,e]
    simp only[cond_true,Option.bind_some,Bool.true_and,show(i:Int).toNat=i from rfl]
    rw[Zb (by omega),Zb (by omega),se]
    cases decide ((c.2.2.2.1.getD i Zm).2.1.1<4)
    ·simp only[cond_false,Option.bind_some,Bool.false_and]
     rw[Zq hh (by omega)]
     exact ih (i+1) (by omega) (by omega)
    ·simp only[cond_true,r1,r2,Option.bind_some,q1,q2,Bool.true_and]
     cases q
     ·exact⟨_,rfl,rfl⟩
     ·rw[Zq hh (by omega)]
      exact ih (i+1) (by omega) (by omega)
   ·have d:decide ((i:Int)< (c.2.2.2.1.length:Int))=false:=Zj (by omega)
    rw[d,e]
    exact⟨_,rfl,rfl⟩
 unfold Zm9 Zm1
 rw[Zqq h hK,e,Option.bind_some]
 exact lp _ 0 (by unfold Zgz;omega) (by omega)
theorem Q9j{K:Nat}{s:Zp}(h:Jo K s)(hK:K≤1000000):Zwr s=Zme s:=by
 unfold Zwr Zme Zty Zo6 Ztx Zo5 Ztw Zkb
 rw[Qjc h hK,Qly h.rcv hK]
theorem Xek(b:Bool)(n:Int):Z99 b n=Zer b n:=rfl
theorem Xeq(n:Int):Zzx n=Vv n:=rfl
theorem Q81(a b x y:Int):eqV (.arr 2 (.int .i64)) [a,b] [x,y]=((a==x)&& (b==y)):=by
 simp only[eqV,eqL,Bool.and_true]
 rfl
theorem Qy9{K:Nat}{c:Zg}(h:Z9 K c)(hK:K≤1000000)(u:Unit)(e:Z5 c=some (true,u)): ∃b,Zm8 c=some (b,())∧Zm0 c=some (b,()):=by
 have h24:=(Xas h hK _ e rfl).1
 have lp: ∀(N i:Nat) (o p b v:Nat),c.2.2.2.1.length-i<N→i≤c.2.2.2.1.length→o+p=i→b≤i→v≤i→
   ∃q,Kr N c (o:Int) (b:Int) (v:Int) (i:Int)=some (q,())∧W3 N c (o:Int) (p:Int) [(b:Int),(v:Int)] c.2.2.2.1 (c.2.2.2.1.length:Int) (i:Int)=some (q,()):=by
  intro N
  induction N with
  |zero=>intro i o p b v h;omega
  |succ N ih=>
   intro i o p b v hN hi hop hb hv
   unfold Kr W3
   by_cases hh:i<c.2.2.2.1.length
   ·have d:decide ((i:Int)< (c.2.2.2.1.length:Int))=true:=Zk (by omega)
    have hm:=Qu (d:=Zm) hh
    obtain⟨⟨w1,x1⟩,e1,-⟩:=Xbw c.1 (c.2.2.2.1.getD i Zm).1
    obtain⟨⟨w2,x2⟩,e2,-⟩:=Q7k (h.str.all _ hm) hK
    obtain⟨⟨w3,x3⟩,e3,-⟩:=Xai (c.2.2.2.1.getD i Zm).1
    have s1: ∀n:Nat,n≤i→IntKind.i64.wrap ((n:Int)+1)=((n+1:Nat):Int):=fun n hn=>by rw[Zw (by omega) (by omega)];rfl
    have s0: ∀n:Nat,n≤i→IntKind.i64.wrap ((n:Int)+0)=(n:Int):=fun n hn=>by rw[Zw (by omega) (by omega)];omega
    have z0: (0:Int).toNat=0:=rfl
    have z1: (1:Int).toNat=1:=rfl
    rw[d,e]
    simp only[cond_true,Option.bind_some,Bool.true_and,show(i:Int).toNat=i from rfl,Xek,Xeq,Q9j (h.str.all _ hm) hK,e1,e2,e3]
    rw[Zb (by omega),Zb (by omega)]
    cases w1
    ·simp only[cond_false]
     cases (c.2.2.2.1.getD i Zm).2.2.2.2.2.2.2.2.2.2.2.2.2.1<;>cases w2
     ·cases w3<;>
      ·simp only[beq_self_eq_true,Bool.not_true,cond_false,cond_true,Option.bind_some,Bool.false_and,Zyb,Yv]
       rw[Zb (by omega),Zb (by omega)]
       simp only[s1 i (by omega),s1 p (by omega),z0,z1,s0 b (by omega),s0 v (by omega),List.getD_cons_zero,List.getD_cons_succ,List.set_cons_zero,List.set_cons_succ]
       exact ih (i+1) o (p+1) b v (by omega) (by omega) (by omega) (by omega) (by omega)
     ·exact⟨_,rfl,rfl⟩
     ·exact⟨_,rfl,rfl⟩
     ·cases w3
      ·simp only[beq_self_eq_true,Bool.not_true,cond_false,cond_true,Option.bind_some,Bool.true_and,Zyb,Yv]
       rw[Zb (by omega),Zb (by omega)]
       simp only[s1 i (by omega),s1 p (by omega),s1 b (by omega),z0,List.getD_cons_zero,List.set_cons_zero]
       exact ih (i+1) o (p+1) (b+1) v (by omega) (by omega) (by omega) (by omega) (by omega)
      ·simp only[beq_self_eq_true,Bool.not_true,cond_false,cond_true,Option.bind_some,Bool.true_and,Zyb,Yv]
       rw[Zb (by omega),Zb (by omega)]
       simp only[s1 i (by omega),s1 p (by omega),s1 v (by omega),z1,List.getD_cons_succ,List.getD_cons_zero,List.set_cons_succ,List.set_cons_zero]
       exact ih (i+1) o (p+1) b (v+1) (by omega) (by omega) (by omega) (by omega) (by omega)
    ·simp only[cond_true]
     unfold Yv
     simp only[s1 i (by omega),s1 o (by omega)]
     exact ih (i+1) (o+1) p b v (by omega) (by omega) (by omega) (by omega) (by omega)
   ·have d:decide ((i:Int)< (c.2.2.2.1.length:Int))=false:=Zj (by omega)
    rw[d,e]
    simp only[cond_false,Option.bind_some,Bool.false_and,Bool.true_and]
    have hp:IntKind.i64.wrap ((c.2.2.2.1.length:Int)- (o:Int))=(p:Int):=by rw[Zw (by omega) (by omega)];omega
    rw[hp]
    refine⟨_,rfl,?_⟩
    rw[Q81,←Bool.and_assoc]
 unfold Zm8 Zm0
 rw[Zqq h hK,e,Option.bind_some]
 exact lp _ 0 0 0 0 0 (by unfold Zgy;omega) (by omega) rfl (Nat.le_refl _) (Nat.le_refl _)
theorem Q88{K:Nat}{c:Zg}(h:Z9 K c)(hK:K≤1000000): ∃r,Zu3 c=some (r,())∧Zus c=some (r,())∧r.length≤10:=by
 obtain⟨⟨b,u⟩,e,-⟩:=Znw h hK
 unfold Zu3 Zus
 rw[Zqq h hK,e,Option.bind_some,Option.bind_some]
 cases b
 ·exact⟨_,rfl,rfl,by simp⟩
 obtain⟨b1,e1,f1⟩:=Qw9 h hK u e
 obtain⟨b2,e2,f2⟩:=Qxa h hK u e
 obtain⟨b3,e3,f3⟩:=Qza h hK u e
 obtain⟨b4,e4,f4⟩:=Qy9 h hK u e
 simp only[Bool.not_true,cond_false,e1,e2,e3,e4,f1,f2,f3,f4,Option.bind_some]
 cases b1
 ·exact⟨_,rfl,rfl,by simp⟩
 cases b2
 ·exact⟨_,rfl,rfl,by simp⟩
 cases b3
 ·exact⟨_,rfl,rfl,by simp⟩
 cases b4<;>exact⟨_,rfl,rfl,by simp⟩
theorem Q4v{K:Nat}{c:Zg}(h:Z9 K c)(hK:K≤1000000): ∃r,Zq7 c=some (r,())∧Zqh c=some (r,()):=by
 obtain⟨r,h1,h2,h3⟩:=Q88 h hK
 unfold Zq7 Zqh Zm4
 rw[h1,h2,Option.bind_some,Option.bind_some,Zb (by unfold Z8;simp only[List.length_cons,List.length_nil];omega),Zb (by unfold Z8;simp only[List.length_cons,List.length_nil];omega)]
 cases r==([]:List UInt8)
 ·exact⟨_,rfl,rfl⟩
 ·exact⟨_,rfl,rfl⟩
end Go.Proofs.YtplcdmnbgcgdfaaGreatDoor

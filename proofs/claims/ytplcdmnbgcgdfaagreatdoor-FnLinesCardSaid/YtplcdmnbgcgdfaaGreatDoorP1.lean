/- FnLines: the plain law, part 1. No condition. -/
import Derived.Test.YtplcdmnbgcgdfaaGreatDoorM2
namespace Go.Proofs.YtplcdmnbgcgdfaaGreatDoor
open Go.Am
set_option maxRecDepth 100000
set_option linter.unusedVariables false
abbrev Zlv:Type:=Z0
abbrev Zwk:Zlv:=Qv
abbrev Zdh:Type:=K5
abbrev Xd7:Zdh:=Q3h
theorem Xcv{α:Type}{c:Bool}{x y:α}: (bif c then some (x,())else some (y,()))=some (bif c then x else y,()):=by cases c<;>rfl
theorem Q3l{α:Type}(pre:List α)(x:α)(rest:List α):pre++x::rest=pre++ [x]++rest:=by simp
theorem Wt{α:Type}(pre:List α)(x:α)(rest:List α)(d:α): (pre++x::rest).getD ((pre.length:Int).toNat) d=x:=by
 rw[show(pre.length:Int).toNat=pre.length from rfl,List.getD_eq_getElem?_getD,List.getElem?_append_right (Nat.le_refl _)]
 simp
def Z94(k:Nat):Int:=((([48,49,50,51,52,53,54,55,56,57,97,98,99,100,101,102]:List UInt8).getD k 0).toNat:Int)
def hx(b:UInt8):List Int:=[Z94 (b.toNat/16),Z94 (b.toNat%16)]
theorem V9{α:Type}{d:α}{l:List α}{i:Nat}(h:i<l.length):l.drop i=l.getD i d::l.drop (i+1):=by
 rw[List.drop_eq_getElem_cons h,List.getD_eq_getElem?_getD,List.getElem?_eq_getElem h];rfl
theorem Q8j(n:Int)(h0:0≤n)(h1:n<256):IntKind.u8.wrap n=n:=by
 have:n%2^8=n:=Int.emod_eq_of_lt h0 (by omega)
 simp only[IntKind.wrap,IntKind.bits,IntKind.signed,this]
 simp
def Qxl(u:Nat):List UInt8:=if u=0 then[]else Go.Lib.decDigits u
theorem Q40{u:Nat}(h:u≠0):Qxl u=Qxl (u/10)++ [UInt8.ofNat (48+u%10)]:=by
 unfold Qxl
 rw[if_neg h,Go.Lib.decDigits]
 by_cases h10:u<10
 ·rw[dif_pos h10,if_pos (by omega),List.nil_append,Nat.mod_eq_of_lt h10]
 ·rw[dif_neg h10,if_neg (by omega)]
theorem Xbj{K1: (Int×List UInt8×Bool×Unit)→Option (List UInt8×Unit)}{n:Int}{out:List UInt8}{neg:Bool}{d:Nat}(hd:d<10)(hl:1+out.length≤Z8):
  Va K1 n out neg (d:Int)=K1 (IntKind.i64.wrap (Int.tdiv n 10),UInt8.ofNat (48+d)::out,neg,()):=by
 unfold Va
 have h1:Ws [IntKind.u8.wrap (IntKind.i64.wrap ((48:Int)+ (d:Int)))]=[UInt8.ofNat (48+d)]:=by
  rw[Zw (by omega) (by omega),Q8j _ (by omega) (by omega)]
  simp only[Ws,List.map_cons,List.map_nil]
  congr 2
 simp only[h1]
 rw[Zb (by simpa using hl),Zb (by decide)]
 rfl
theorem Qz1: ∀(k u N:Nat) (n:Int) (out:List UInt8) (neg:Bool),u<10^k→k<N→u≤9223372036854775808→(n=(u:Int)∨n= -(u:Int))→out.length+k≤1000→(n=9223372036854775808→False)→
  Xh N n out neg=some ((bif neg then 45:: (Qxl u++out)else Qxl u++out),())
 |k,u,0,n,out,neg,h1,h2,_,_,_,_=>by omega
 |k,u,N+1,n,out,neg,h1,h2,h3,h4,h5,h6=>by
  unfold Xh
  by_cases hu:u=0
  ·have hn:n=0:=by omega
   rw[Zi (by simp[hn])]
   rw[Zb (by simp only[Z8,List.length_cons,List.length_nil];omega)]
   have:Qxl u=[]:=by rw[hu];rfl
   rw[this]
   cases neg<;>rfl
  ·have hn:n≠0:=by omega
   rw[Zn (by simp[hn]),Zb (by decide)]
   cases k with
   |zero=>simp at h1;omega
   |succ k=>
    have hd:u/10<10^k:=by
     rw[Nat.pow_succ]at h1
     omega
    have hm:u%10<10:=Nat.mod_lt _ (by decide)
    have hq:IntKind.i64.wrap (Int.tdiv n 10)=((u/10:Nat):Int)∨IntKind.i64.wrap (Int.tdiv n 10)= -((u/10:Nat):Int):=by
     rcases h4 with rfl|rfl
     ·left;rw[Int.tdiv_eq_ediv_of_nonneg (by omega),Zw (by omega) (by omega)];omega
     ·right;rw[Int.neg_tdiv,Int.tdiv_eq_ediv_of_nonneg (by omega),Zw (by omega) (by omega)];omega
    have go:Va (fun v=>Xh N v.1 v.2.1 v.2.2.1) n out neg ((u%10:Nat):Int)=some ((bif neg then 45:: (Qxl u++out)else Qxl u++out),()):=by
     rw[Xbj hm (by simp only[Z8];omega)]
     show Xh N (IntKind.i64.wrap (Int.tdiv n 10)) (UInt8.ofNat (48+u%10)::out) neg=_
     rw[Qz1 k (u/10) N _ _ neg hd (by omega) (by omega) hq (by simp only[List.length_cons];omega) (by intro h;rcases hq with hq|hq<;>omega)]
     rw[Q40 hu,List.append_assoc]
     rfl
    rcases h4 with rfl|rfl
    ·have e:Int.tmod (u:Int) 10=((u%10:Nat):Int):=by rw[Int.tmod_eq_emod_of_nonneg (by omega)];omega
     rw[e,Zi (Zj (by omega))]
     exact go
    ·have e:Int.tmod (-(u:Int)) 10= -((u%10:Nat):Int):=by rw[Int.neg_tmod,Int.tmod_eq_emod_of_nonneg (by omega)];omega
     rw[e]
     by_cases hz:u%10=0
     ·rw[Zi (Zj (by omega))]
      have: -((u%10:Nat):Int)=((u%10:Nat):Int):=by omega
      rw[this];exact go
     ·rw[Zn (Zk (by omega)),Zw (by omega) (by omega)]
      have:0- -((u%10:Nat):Int)=((u%10:Nat):Int):=by omega
      rw[this];exact go
theorem Zcs(n:Int)(h0: -9223372036854775808≤n)(h1:n≤9223372036854775807):Zv n=some (Go.Lib.itoa n,()):=by
 unfold Zv
 by_cases hz:n=0
 ·rw[Zn (by simp[hz]),hz]
  unfold Go.Lib.itoa
  rw[if_neg (by omega),Go.Lib.decDigits,dif_pos (by decide)]
  rfl
 ·rw[Zi (by simp[hz])]
  have hp:n.natAbs<10^20:=by
   have: (9223372036854775809:Nat)≤10^20:=by decide
   omega
  rw[Qz1 20 n.natAbs _ n [] _ hp (by unfold Zdl;omega) (by omega) (by omega) (by simp) (by omega)]
  unfold Go.Lib.itoa Qxl
  rw[if_neg (by omega),List.append_nil]
  by_cases hn:n<0
  ·rw[Zk hn,if_pos hn];rfl
  ·rw[Zj hn,if_neg hn]
   have:n.natAbs=n.toNat:=by omega
   rw[this];rfl
theorem Yq(n:Int)(h0: -9223372036854775808≤n)(h1:n≤9223372036854775807): (Go.Lib.itoa n).length≤21:=Go.Lib.itoa_length_le n h0 h1
theorem Zfd(n:Int)(h0: -9223372036854775808≤n)(h1:n≤9223372036854775807):Ql n=some (Go.Lib.itoa n,()):=by
 unfold Ql Z04
 rw[Zb ⟨h0,h1⟩]
 rfl
theorem Q0b: ∀(N:Nat) (l:List UInt8) (out:List Int) (i:Nat),l.length≤1048576→out.length≤2*i→i≤l.length→l.length-i<N→
  Zge N l out (i:Int)=some (Ws (out++ (l.drop i).flatMap hx),())
 |0,_,_,_,_,_,_,h=>by omega
 |N+1,l,out,i,hl,ho,hi,hN=>by
  unfold Zge
  by_cases h:i<l.length
  ·have e: (i:Int).toNat=i:=rfl
   rw[Zn (Zk (by omega)),Zb (by omega),Zb (by decide),Zb (by omega),Zb (by decide),e]
   have hb: (l.getD i 0).toNat<256:=(l.getD i 0).toNat_lt
   generalize hc:l.getD i 0=c at*
   have e1:IntKind.i64.wrap (Int.tdiv (IntKind.i64.wrap (c.toNat:Int)) 16)=((c.toNat/16:Nat):Int):=by
    rw[show IntKind.i64.wrap (c.toNat:Int)=(c.toNat:Int)from Zw (by omega) (by omega),Int.tdiv_eq_ediv_of_nonneg (by omega),Zw (by omega) (by omega)];omega
   have e2:Int.tmod (IntKind.i64.wrap (c.toNat:Int)) 16=((c.toNat%16:Nat):Int):=by
    rw[show IntKind.i64.wrap (c.toNat:Int)=(c.toNat:Int)from Zw (by omega) (by omega),Int.tmod_eq_emod_of_nonneg (by omega)];omega
   have dig: ∀k:Nat,k<16→Zgt (k:Int)=some (Z94 k,()):=fun k hk=>by
    unfold Zgt Z94
    rw[Zb (by simp only[List.length_cons,List.length_nil];omega)]
    rfl
   rw[e1,e2,dig _ (by omega),dig _ (by omega)]
   simp only[Option.bind_some]
   rw[Zb (by simp only[List.length_cons,List.length_nil,Qp];omega),Zq h (by omega)]
   rw[Q0b N l _ (i+1) hl (by simp only[List.length_append,List.length_cons,List.length_nil];omega) h (by omega)]
   rw[V9 (d:=(0:UInt8)) h,hc,List.flatMap_cons,List.append_assoc]
   rfl
  ·have:i=l.length:=by omega
   subst this
   rw[Zi (Zj (by omega)),List.drop_length]
   simp
theorem Q0a: ∀(N:Nat) (l:List UInt8) (out:List Int) (i:Nat),l.length≤1048576→out.length≤2*i→i≤l.length→l.length-i<N→
  Zf1 N l out (i:Int)=some (Ws (out++ (l.drop i).flatMap hx),())
 |0,_,_,_,_,_,_,h=>by omega
 |N+1,l,out,i,hl,ho,hi,hN=>by
  unfold Zf1
  by_cases h:i<l.length
  ·have e: (i:Int).toNat=i:=rfl
   rw[Zn (Zk (by omega)),Zb (by omega),Zb (by decide),e]
   have hb: (l.getD i 0).toNat<256:=(l.getD i 0).toNat_lt
   generalize hc:l.getD i 0=c at*
   have e1:IntKind.u8.wrap (Int.tdiv (c.toNat:Int) 16)=((c.toNat/16:Nat):Int):=by
    rw[Int.tdiv_eq_ediv_of_nonneg (by omega),Q8j _ (by omega) (by omega)];omega
   have e2:Int.tmod (c.toNat:Int) 16=((c.toNat%16:Nat):Int):=by
    rw[Int.tmod_eq_emod_of_nonneg (by omega)];omega
   simp only[e1,e2]
   rw[Zb (by simp only[List.length_cons,List.length_nil];omega),Zb (by omega),Zb (by decide),Zb (by simp only[List.length_cons,List.length_nil];omega),
    Zb (by simp only[List.length_cons,List.length_nil,Qp];omega),Zq h (by omega)]
   rw[Q0a N l _ (i+1) hl (by simp only[List.length_append,List.length_cons,List.length_nil];omega) h (by omega)]
   rw[V9 (d:=(0:UInt8)) h,hc,List.flatMap_cons,List.append_assoc]
   rfl
  ·have:i=l.length:=by omega
   subst this
   rw[Zi (Zj (by omega)),List.drop_length]
   simp
def Zx5(l:List UInt8):List UInt8:=Ws (l.flatMap hx)
theorem Qer(l:List UInt8): (Zx5 l).length=2*l.length:=by
 unfold Zx5 Ws
 rw[List.length_map]
 induction l with
 |nil=>rfl
 |cons c l ih=>rw[List.flatMap_cons,List.length_append,ih];simp only[hx,List.length_cons,List.length_nil];omega
theorem Q9f(l:List UInt8)(h:l.length≤1048576):Ww l=some (Zx5 l,()):=by
 unfold Ww
 exact Q0b _ l [] 0 h (by simp) (by omega) (by unfold Zjp;omega)
theorem Xeg(l:List UInt8)(h:l.length≤1048576):Zqj l=some (Zx5 l,()):=by
 unfold Zqj
 exact Q0a _ l [] 0 h (by simp) (by omega) (by unfold Zjd;omega)
theorem Qx2(N k:Nat)(b:Int)(hk:k<16):Ve (N+1) b (k:Int)=if Z94 k=b then some ((k:Int),())else Ve N b ((k+1:Nat):Int):=by
 conv=>lhs;unfold Ve
 have dig:Zgt (k:Int)=some (Z94 k,()):=by
  unfold Zgt Z94
  rw[Zb (by simp only[List.length_cons,List.length_nil];omega)]
  rfl
 rw[Zn (Zk (by omega)),dig]
 simp only[Option.bind_some]
 rw[Zq (m:=16) hk (by omega)]
 by_cases h:Z94 k=b
 ·rw[Zn (by simp[h]),if_pos h]
 ·rw[Zi (by simp[h]),if_neg h]
theorem Xc9{α:Type}{c:Bool}{x y:α}: (bif c then some x else some y)=some (bif c then x else y):=by cases c<;>rfl
theorem Q3u(d:Nat)(h:d<10):Go.Lib.digitVal (UInt8.ofNat (48+d))=some d:=by
 have: (UInt8.ofNat (48+d)).toNat=48+d:=by simp;omega
 simp only[Go.Lib.digitVal,this]
 rw[if_pos (by omega)];congr 1;omega
theorem Qlt: ∀(l r:List UInt8) (acc:Nat),Go.Lib.decFrom acc (l++r)=(Go.Lib.decFrom acc l).bind fun a=>Go.Lib.decFrom a r
 | [],r,acc=>rfl
 |b::l,r,acc=>by
  simp only[List.cons_append,Go.Lib.decFrom]
  cases Go.Lib.digitVal b with
  |none=>rfl
  |some d=>exact Qlt l r _
theorem Qqg: ∀(u:Nat),Go.Lib.decFrom 0 (Go.Lib.decDigits u)=some u:=by
 intro u
 induction u using Nat.strongRecOn with
 |_ u ih=>
  rw[Go.Lib.decDigits]
  split
  ·rename_i h;simp only[Go.Lib.decFrom,Q3u u h];congr 1;omega
  ·rename_i h
   rw[Qlt,ih (u/10) (by omega)]
   simp only[Option.bind_some,Go.Lib.decFrom,Q3u (u%10) (by omega)]
   congr 1;omega
theorem Z8k: ∀(u:Nat),∀b∈Go.Lib.decDigits u,48≤b.toNat∧b.toNat≤57:=by
 intro u
 induction u using Nat.strongRecOn with
 |_ u ih=>
  intro b hb
  rw[Go.Lib.decDigits]at hb
  split at hb
  ·rename_i h
   simp only[List.mem_singleton]at hb
   subst hb
   have: (UInt8.ofNat (48+u)).toNat=48+u:=by simp;omega
   omega
  ·rename_i h
   rcases List.mem_append.1 hb with hb|hb
   ·exact ih (u/10) (by omega) b hb
   ·simp only[List.mem_singleton]at hb
    subst hb
    have: (UInt8.ofNat (48+u%10)).toNat=48+u%10:=by simp;omega
    omega
theorem Qc0(u:Nat):Go.Lib.decDigits u≠[]:=by
 intro h
 have:=Go.Lib.decDigits_length u
 rw[h]at this
 have:=Go.Lib.nDigits_pos u
 simp at*
 omega
theorem Z8l(u:Nat):Go.Lib.decNat (Go.Lib.decDigits u)=some u:=by
 unfold Go.Lib.decNat
 rw[if_neg (by simpa using Qc0 u)]
 exact Qqg u
theorem Z50(n:Int):Go.Lib.atoi (Go.Lib.itoa n)=some n:=by
 unfold Go.Lib.itoa
 split
 ·rename_i h
  simp only[Go.Lib.atoi,Z8l,Option.map_some]
  rw[if_pos (by decide)]
  congr 1;omega
 ·rename_i h
  cases hd:Go.Lib.decDigits n.toNat with
  |nil=>exact absurd hd (Qc0 _)
  |cons b r=>
   have hb:=Z8k n.toNat b (by rw[hd];simp)
   have h1: ¬(b==45)=true:=by intro e;have:=eq_of_beq e;subst this;simp at hb
   have h2: ¬(b==43)=true:=by intro e;have:=eq_of_beq e;subst this;simp at hb
   simp only[Go.Lib.atoi]
   rw[if_neg h1,if_neg h2,←hd,Z8l]
   simp only[Option.map_some]
   congr 1;omega
theorem Q0f{a b:Int}(h:Go.Lib.itoa a=Go.Lib.itoa b):a=b:=by
 have:=Z50 a
 rw[h,Z50]at this
 exact(Option.some.inj this).symm
theorem Xaz{u:Nat}(h:u≤999999999):Go.Lib.nDigits u≤9:=by
 rcases Nat.lt_or_ge 9 (Go.Lib.nDigits u)with h'|h'
 ·exfalso
  have key: ∀k u,k<Go.Lib.nDigits u→k≥1→10^k≤u:=by
   intro k
   induction k with
   |zero=>intro u _ h;omega
   |succ k ih=>
    intro u hu _
    rcases Nat.lt_or_ge u 10 with h10|h10
    ·rw[Go.Lib.nDigits_small h10]at hu;omega
    ·rw[Go.Lib.nDigits_big (by omega)]at hu
     by_cases hk:k=0
     ·subst hk;simpa using h10
     ·have:=ih (u/10) (by omega) (by omega)
      rw[Nat.pow_succ];omega
  have:=key 9 u h' (by omega)
  omega
 ·exact h'
theorem Xbl{n:Int}(h0: -999999999≤n)(h1:n≤999999999): (Go.Lib.itoa n).length≤10:=by
 unfold Go.Lib.itoa
 split
 ·have:=Xaz (u:=n.natAbs) (by omega)
  rw[List.length_cons,Go.Lib.decDigits_length];omega
 ·have:=Xaz (u:=n.toNat) (by omega)
  rw[Go.Lib.decDigits_length];omega
def pf:List UInt8→Nat×Nat→Nat×Nat
 | [],v=>v
 |b::l,v=>pf l (if 48≤b.toNat∧b.toNat≤57 then(v.1*10+ (b.toNat-48),v.2+1)else v)
theorem Q74: ∀(l r:List UInt8) (v:Nat×Nat),pf (l++r) v=pf r (pf l v)
 | [],_,_=>rfl
 |b::l,r,v=>by simp only[List.cons_append,pf];exact Q74 l r _
theorem Xc1: ∀(u:Nat),pf (Go.Lib.decDigits u) (0,0)=(u,Go.Lib.nDigits u):=by
 intro u
 induction u using Nat.strongRecOn with
 |_ u ih=>
  rw[Go.Lib.decDigits]
  split
  ·rename_i h
   have: (UInt8.ofNat (48+u)).toNat=48+u:=by simp;omega
   simp only[pf,this]
   rw[if_pos (by omega),Go.Lib.nDigits_small h]
   simp
  ·rename_i h
   have: (UInt8.ofNat (48+u%10)).toNat=48+u%10:=by simp;omega
   rw[Q74,ih (u/10) (by omega),Go.Lib.nDigits_big h]
   simp only[pf,this]
   rw[if_pos (by omega)]
   simp only[Prod.mk.injEq,and_true]
   omega
theorem Qtl: ∀(l:List UInt8) (v:Nat×Nat),v.1<10^v.2→(pf l v).1<10^ (pf l v).2∧(pf l v).2≤v.2+l.length
 | [],v,h=>⟨h,by simp[pf]⟩
 |b::l,v,h=>by
  simp only[pf]
  split
  ·have:=Qtl l (v.1*10+ (b.toNat-48),v.2+1) (by simp only[Nat.pow_succ];omega)
   refine⟨this.1,?_⟩
   have:=this.2
   simp only[List.length_cons]at this⊢
   omega
  ·have:=Qtl l v h
   refine⟨this.1,?_⟩
   have:=this.2
   simp only[List.length_cons]
   omega
theorem Qtm{k:Nat}(h:k≤11): (10:Nat)^k≤100000000000:=Nat.le_trans (Nat.pow_le_pow_right (by decide) h) (by decide)
def sgn(s:List UInt8)(n:Nat):Int:=if s.head? =some 45 then-(n:Int)else n
theorem Qyn: ∀(N:Nat) (pre rest:List UInt8) (n k:Nat),(pre++rest).length≤1048576→rest.length<N→pre.length≤11→n<10^k→k≤pre.length→
  Zd8 N (pre++rest) n k pre.length=J0 (pre++rest) (sgn (pre++rest) (pf (rest.take (11-pre.length)) (n,k)).1) (pf (rest.take (11-pre.length)) (n,k)).2
 |0,_,_,_,_,_,h,_,_,_=>by omega
 |N+1,pre,rest,n,k,h1,h2,h3,h4,h5=>by
  unfold Zd8
  have fin: (Zc (((decide (((pre++rest).length:Int)>(0:Int)))=true→(0≤(0:Int)∧(0:Int)< (pre++rest).length)))<|
   bif(decide (((pre++rest).length:Int)>(0:Int)))&& ((((pre++rest).getD (0:Int).toNat 0).toNat:Int)==(45:Int))then
    J0 (pre++rest) (IntKind.i64.wrap (0- (n:Int))) k
   else
    J0 (pre++rest) n k)=J0 (pre++rest) (sgn (pre++rest) n) k:=by
   have hb:=Qtm (k:=k) (by omega)
   rw[Zb (fun h=>by simp at h⊢;omega),Zw (by omega) (by omega)]
   unfold sgn
   cases hs:pre++rest with
   |nil=>rfl
   |cons b l=>
    simp only[List.length_cons,List.head?_cons,Option.some.injEq]
    by_cases hc:b=45
    ·subst hc
     rw[if_pos rfl,Zn (by simp)]
     congr 1;omega
    ·rw[if_neg hc,Zi (by
      simp only[Bool.and_eq_false_iff]
      right
      simp only[Int.toNat_zero,List.getD_cons_zero,beq_eq_false_iff_ne,ne_eq]
      intro e
      apply hc
      apply UInt8.toNat_inj.1
      have e: (b.toNat:Int)=45:=e
      show b.toNat=45
      omega)]
  cases rest with
  |nil=>
   rw[Zi (by simp)]
   simp only[List.take_nil,pf]
   exact fin
  |cons b rest=>
   by_cases hp:pre.length<11
   ·simp only[List.length_append,List.length_cons]at h1 h2
    rw[Zn (by simp;omega),Zb (by simp;omega)]
    simp only[Wt]
    rw[Zb (fun _=>by simp;omega)]
    have e:=Q3l pre b rest
    have hb:=Qtm (k:=k) (by omega)
    have htk: (b::rest).take (11-pre.length)=b::rest.take (11- (pre.length+1)):=by
     rw[show 11-pre.length=(11- (pre.length+1))+1 by omega,List.take_succ_cons]
    rw[htk]
    simp only[pf]
    have hlt:b.toNat<256:=b.toNat_lt
    by_cases hd:48≤b.toNat∧b.toNat≤57
    ·rw[Zn (by simp;omega),Zb (by simp;omega),if_pos hd]
     unfold Zif
     have u8:IntKind.u8.wrap (((b.toNat:Int))-48)=((b.toNat-48:Nat):Int):=by
      rw[Q8j _ (by omega) (by omega)];omega
     have w1:IntKind.i64.wrap ((n:Int)*10)=(n:Int)*10:=Zw (by omega) (by omega)
     have w2:IntKind.i64.wrap ((b.toNat-48:Nat):Int)=((b.toNat-48:Nat):Int):=Zw (by omega) (by omega)
     rw[u8,w1,w2,Zw (by omega) (by omega),Zw (n:=(k:Int)+1) (by omega) (by omega),Zq (m:=(pre++b::rest).length) (by simp) (by simp;omega)]
     have:=Qyn N (pre++ [b]) rest (n*10+ (b.toNat-48)) (k+1) (by simp;omega) (by omega) (by simp;omega) (by rw[Nat.pow_succ];omega) (by simp;omega)
     rw[←e]at this
     simp only[List.length_append,List.length_cons,List.length_nil,Nat.zero_add]at this⊢
     rw[←this]
     congr 1<;>push_cast<;>omega
    ·rw[Zi (by simp;omega),if_neg hd]
     unfold Zif
     rw[Zq (m:=(pre++b::rest).length) (by simp) (by simp;omega)]
     have:=Qyn N (pre++ [b]) rest n k (by simp;omega) (by omega) (by simp;omega) h4 (by simp;omega)
     rw[←e]at this
     simp only[List.length_append,List.length_cons,List.length_nil,Nat.zero_add]at this⊢
     exact this
   ·rw[Zi (by simp;omega),show 11-pre.length=0 by omega]
    simp only[List.take_zero,pf]
    exact fin
def Qcz(c:UInt8):List UInt8→List UInt8×List UInt8×Bool
 | []=>([],[],false)
 |b::l=>if b=c then([],l,true)else(b:: (Qcz c l).1,(Qcz c l).2.1,(Qcz c l).2.2)
def Xa(c:UInt8):List UInt8→List (List UInt8)
 | []=>[[]]
 |b::l=>if b=c then[]::Xa c l else match Xa c l with
  | []=>[[b]]
  |w::ws=>(b::w)::ws
theorem Qk6(c:UInt8): ∀l,Xa c l≠[]
 | []=>by simp[Xa]
 |b::l=>by
  unfold Xa
  split
  ·simp
  ·split<;>simp
theorem Qk5(c:UInt8): ∀(a r:List UInt8),c∉a→Xa c (a++c::r)=a::Xa c r
 | [],r,_=>by simp[Xa]
 |b::a,r,h=>by
  have hb:b≠c:=fun e=>h (by simp[e])
  have ih:=Qk5 c a r (fun hm=>h (by simp[hm]))
  simp only[List.cons_append,Xa,hb,if_false,ih]
theorem Qcl(c:UInt8): ∀(a:List UInt8),c∉a→Xa c a=[a]
 | [],_=>by simp[Xa]
 |b::a,h=>by
  have hb:b≠c:=fun e=>h (by simp[e])
  have ih:=Qcl c a (fun hm=>h (by simp[hm]))
  simp only[Xa,hb,if_false,ih]
theorem Q3t(c:UInt8): ∀(a r:List UInt8),c∉a→Qcz c (a++c::r)=(a,r,true)
 | [],r,_=>by simp[Qcz]
 |b::a,r,h=>by
  have hb:b≠c:=fun e=>h (by simp[e])
  have ih:=Q3t c a r (fun hm=>h (by simp[hm]))
  simp only[List.cons_append,Qcz,hb,if_false,ih]
theorem Qzo(c:UInt8): ∀(a:List UInt8),c∉a→Qcz c a=(a,[],false)
 | [],_=>by simp[Qcz]
 |b::a,h=>by
  have hb:b≠c:=fun e=>h (by simp[e])
  have ih:=Qzo c a (fun hm=>h (by simp[hm]))
  simp only[Qcz,hb,if_false,ih]
theorem Q6u(c:UInt8): ∀l:List UInt8,(Qcz c l).1.length≤l.length∧(Qcz c l).2.1.length≤l.length
 | []=>by simp[Qcz]
 |b::l=>by
  have:=Q6u c l
  unfold Qcz
  split
  ·simp
  ·simp only[List.length_cons];omega
theorem Q1u(c:UInt8): ∀l:List UInt8,c∉l∨ ∃a r,l=a++c::r∧c∉a
 | []=> .inl (by simp)
 |b::l=>by
  by_cases h:b=c
  ·exact .inr ⟨[],l,by simp[h],by simp⟩
  ·rcases Q1u c l with h'| ⟨a,r,e,h'⟩
   ·exact .inl (by simp[h',Ne.symm h])
   ·exact .inr ⟨b::a,r,by simp[e],by simp[h',Ne.symm h]⟩
theorem Qaf(c:UInt8): ∀l:List UInt8,c∉l→Go.Lib.index l [c]= -1
 | [],_=>rfl
 |b::l,h=>by
  have hb: ¬c=b:=fun e=>h (by simp[e])
  have ih:=Qaf c l (fun hm=>h (by simp[hm]))
  unfold Go.Lib.index
  rw[ih]
  simp[List.isPrefixOf,hb]
theorem Qag(c:UInt8): ∀(a r:List UInt8),c∉a→Go.Lib.index (a++c::r) [c]=a.length
 | [],r,_=>by simp[Go.Lib.index,List.isPrefixOf]
 |b::a,r,h=>by
  have hb: ¬c=b:=fun e=>h (by simp[e])
  have ih:=Qag c a r (fun hm=>h (by simp[hm]))
  rw[List.cons_append]
  unfold Go.Lib.index
  rw[ih]
  simp only[List.isPrefixOf,beq_eq_false_iff_ne.2 hb,Bool.false_and,Bool.false_eq_true,if_false]
  rw[if_neg (by simp)]
  simp
theorem Xec(c:UInt8)(l:List UInt8):Go.Lib.cut l [c]=Qcz c l:=by
 unfold Go.Lib.cut
 rcases Q1u c l with h| ⟨a,r,rfl,h⟩
 ·rw[Qaf c l h,Qzo c l h];rfl
 ·rw[Qag c a r h,Q3t c a r h,if_pos (by omega)]
  simp
theorem Xds(c:UInt8): ∀(n:Nat) (l:List UInt8),l.length≤n→Go.Lib.splitK [c] 0 (Go.Lib.count l [c]) l=Xa c l:=by
 intro n
 induction n with
 |zero=>
  intro l h
  have:l=[]:=List.eq_nil_of_length_eq_zero (by omega)
  subst this;rfl
 |succ n ih=>
  intro l h
  rcases Q1u c l with h'| ⟨a,r,rfl,h'⟩
  ·rw[Go.Lib.count_miss (Qaf c l h'),Qcl c l h'];rfl
  ·have hi:=Qag c a r h'
   rw[Go.Lib.count_hit (i:=a.length) (by simp) hi,Qk5 c a r h',Nat.add_comm,Go.Lib.splitK,hi]
   simp only[List.length_append,List.length_cons]at h
   have e1: (a++c::r).drop ((a.length:Int).toNat+ [c].length)=r:=by simp
   have e2: (a++c::r).drop (a.length+ [c].length)=r:=by simp
   have e3: (a++c::r).take ((a.length:Int).toNat+0)=a:=by simp
   rw[e1,e2,e3,ih r (by omega),if_neg (by simp)]
theorem Z03(c:UInt8): ∀l:List UInt8,∀w∈Xa c l,c∉w
 | [],w,h=>by simp[Xa]at h;subst h;simp
 |b::l,w,h=>by
  unfold Xa at h
  split at h
  ·rcases List.mem_cons.1 h with rfl|h
   ·simp
   ·exact Z03 c l w h
  ·rename_i hb
   split at h
   ·simp only[List.mem_singleton]at h;subst h;simp[Ne.symm hb]
   ·rename_i w0 ws hw
    rcases List.mem_cons.1 h with rfl|h
    ·have:=Z03 c l w0 (by rw[hw];simp)
     simp[this,Ne.symm hb]
    ·exact Z03 c l w (by rw[hw];simp[h])
theorem Q28(c:UInt8): ∀l:List UInt8,(Xa c l).length≤l.length+1∧ ∀w∈Xa c l,w.length≤l.length
 | []=>by simp[Xa]
 |b::l=>by
  obtain⟨h1,h2⟩:=Q28 c l
  unfold Xa
  split
  ·refine⟨by simp;omega,fun w hw=> ?_⟩
   rcases List.mem_cons.1 hw with rfl|hw
   ·simp
   ·have:=h2 w hw;simp;omega
  ·split
   ·simp
   ·rename_i w ws hw
    rw[hw]at h1 h2
    refine⟨by simp at h1⊢;omega,fun w' hw'=> ?_⟩
    rcases List.mem_cons.1 hw' with rfl|hw'
    ·have:=h2 w (by simp);simp;omega
    ·have:=h2 w' (by simp[hw']);simp;omega
def Z5z(p:List UInt8):List (List UInt8)→List (List UInt8)
 | []=>[p]
 |w::ws=>(p++w)::ws
theorem Qlh{l:List (List UInt8)}(h:l≠[]):Z5z [] l=l:=by cases l<;>simp_all[Z5z]
theorem Qqf(c:UInt8): ∀(N:Nat) (pre rest:List UInt8) (out:List (List UInt8)) (part:List UInt8),(pre++rest).length≤1048576→rest.length<N→out.length≤pre.length→part.length≤pre.length→
  W1 N (pre++rest) (c.toNat:Int) out part pre.length=some (out++Z5z part (Xa c rest),())
 |0,_,_,_,_,_,h,_,_=>by omega
 |N+1,pre,[],out,part,h1,h2,h3,h4=>by
  unfold W1
  simp only[List.length_append,List.length_nil]at h1
  rw[Zi (by simp),Zb (by unfold Qp;simp;omega)]
  simp[Xa,Z5z]
 |N+1,pre,b::rest,out,part,h1,h2,h3,h4=>by
  unfold W1
  simp only[List.length_append,List.length_cons]at h1 h2
  rw[Zn (by simp;omega),Zb (by simp;omega)]
  simp only[Wt]
  have e:=Q3l pre b rest
  by_cases hb:b=c
  ·subst hb
   rw[Zn (by simp),Zb (by unfold Qp;simp;omega)]
   unfold Ze6
   rw[Zq (m:=(pre++b::rest).length) (by simp) (by simp;omega)]
   have:=Qqf b N (pre++ [b]) rest (out++ [part]) [] (by simp;omega) (by omega) (by simp;omega) (by simp)
   rw[←e]at this
   simp only[List.length_append,List.length_cons,List.length_nil,Nat.zero_add]at this⊢
   rw[this,Qlh (Qk6 b rest)]
   simp[Xa,Z5z]
  ·have hne: ((b.toNat:Int)==(c.toNat:Int))=false:=by
    rw[beq_eq_false_iff_ne]
    intro e'
    exact hb (UInt8.toNat_inj.1 (by omega))
   rw[Zi hne,Zq (m:=(pre++b::rest).length) (by simp) (by simp;omega),Zb (by simp;omega)]
   have ht2: ((pre++b::rest).drop (pre.length:Int).toNat).take (((pre.length+1:Nat):Int).toNat- (pre.length:Int).toNat)=[b]:=by
    rw[show((pre.length:Int)).toNat=pre.length by omega,show(((pre.length+1:Nat):Int)).toNat-pre.length=1 by omega,List.drop_left]
    rfl
   simp only[ht2]
   rw[Zb (by unfold Z8;simp;omega)]
   unfold Ze6
   rw[Zq (m:=(pre++b::rest).length) (by simp) (by simp;omega)]
   have:=Qqf c N (pre++ [b]) rest out (part++ [b]) (by simp;omega) (by omega) (by simp;omega) (by simp;omega)
   rw[←e]at this
   simp only[List.length_append,List.length_cons,List.length_nil,Nat.zero_add]at this⊢
   rw[this]
   congr 3
   simp only[Xa,hb,if_false]
   cases h:Xa c rest with
   |nil=>exact absurd h (Qk6 c rest)
   |cons w ws=>simp[Z5z]
theorem Xej(c:UInt8)(s:List UInt8)(hs:s.length≤1048576):Zp5 s (c.toNat:Int)=some (Xa c s,()):=by
 have:=Qqf c (((s.length:Int)-0).toNat+1) [] s [] [] (by simpa using hs) (by omega) (by simp) (by simp)
 unfold Zp5 Zhi
 simp only[List.nil_append,List.length_nil,Int.natCast_zero,Qlh (Qk6 c s)]at this
 exact this
def hv(b:UInt8):Int:=if 48≤b.toNat∧b.toNat≤57 then(b.toNat:Int)-48 else if 97≤b.toNat∧b.toNat≤102 then(b.toNat:Int)-87 else-1
def Z5x:List UInt8→Option (List UInt8)
 | []=>some []
 | [_]=>none
 |a::b::r=>if hv a<0∨hv b<0 then none else(Z5x r).map fun d=>UInt8.ofNat (16* (hv a).toNat+ (hv b).toNat)::d
theorem Qw3: ∀{s d:List UInt8},Z5x s=some d→s.length=2*d.length
 | [],d,h=>by simp[Z5x]at h;subst h;rfl
 | [_],d,h=>by simp[Z5x]at h
 |a::b::r,d,h=>by
  simp only[Z5x]at h
  split at h
  ·cases h
  ·simp only[Option.map_eq_some_iff]at h
   obtain⟨d',h1,rfl⟩:=h
   have:=Qw3 h1
   simp only[List.length_cons];omega
def Qla(s:List UInt8):List UInt8:=(Z5x s).getD []
theorem Q53: ∀{s:List UInt8},s.length%2=1→Z5x s=none
 | [],h=>by simp at h
 | [_],_=>rfl
 |a::b::r,h=>by
  have:=Q53 (s:=r) (by simp at h;omega)
  simp only[Z5x,this];split<;>rfl
theorem Xcu(s:List UInt8): (Qla s).length≤s.length:=by
 unfold Qla
 cases h:Z5x s with
 |none=>simp
 |some d=>have:=Qw3 h;simp;omega
theorem Q0c: ∀k:Fin 16,hv (UInt8.ofNat (Z94 k.val).toNat)=(k.val:Int):=by decide
theorem Qv8(b:UInt8)(l:List UInt8):Zx5 (b::l)=UInt8.ofNat (Z94 (b.toNat/16)).toNat::UInt8.ofNat (Z94 (b.toNat%16)).toNat::Zx5 l:=by
 simp[Zx5,Ws,hx]
theorem Que: ∀d:List UInt8,Z5x (Zx5 d)=some d
 | []=>rfl
 |b::d=>by
  have hb:b.toNat<256:=b.toNat_lt
  rw[Qv8]
  have h1:hv (UInt8.ofNat (Z94 (b.toNat/16)).toNat)=((b.toNat/16:Nat):Int):=Q0c ⟨b.toNat/16,by omega⟩
  have h2:hv (UInt8.ofNat (Z94 (b.toNat%16)).toNat)=((b.toNat%16:Nat):Int):=Q0c ⟨b.toNat%16,by omega⟩
  simp only[Z5x,h1,h2]
  rw[if_neg (by omega),Que d]
  simp only[Option.map_some,Int.toNat_natCast,Option.some.injEq,List.cons.injEq,and_true]
  apply UInt8.toNat_inj.1
  simp;omega
theorem Qv9(c:UInt8)(hc:c=32∨c=10): ∀d:List UInt8,c∉Zx5 d
 | []=>by simp[Zx5,Ws]
 |b::d=>by
  have hb:b.toNat<256:=b.toNat_lt
  have key: ∀k:Fin 16,UInt8.ofNat (Z94 k.val).toNat≠32∧UInt8.ofNat (Z94 k.val).toNat≠10:=by decide
  have k1:=key ⟨b.toNat/16,by omega⟩
  have k2:=key ⟨b.toNat%16,by omega⟩
  have ih:=Qv9 c hc d
  rw[Qv8]
  simp only[List.mem_cons,not_or]
  rcases hc with rfl|rfl
  ·exact⟨Ne.symm k1.1,Ne.symm k2.1,ih⟩
  ·exact⟨Ne.symm k1.2,Ne.symm k2.2,ih⟩
theorem Q5b(c:UInt8)(hc:c=32∨c=10)(n:Int):c∉Go.Lib.itoa n:=by
 have hd: ∀u,c∉Go.Lib.decDigits u:=fun u h=>by
  have:=Z8k u c h
  rcases hc with rfl|rfl<;>simp at this
 unfold Go.Lib.itoa
 split
 ·simp only[List.mem_cons,not_or]
  refine⟨?_,hd _⟩
  rcases hc with rfl|rfl<;>decide
 ·exact hd _
theorem Xd4{x:Int}(h: (Lit.int .i64 x).wf=true): -9223372036854775808≤x∧x≤9223372036854775807:=by
 simp only[Lit.wf,Bool.and_eq_true,decide_eq_true_eq]at h
 exact h
theorem Q5c(xs:List (List UInt8))(y sep:List UInt8)(h:xs≠[]):Go.Lib.join (xs++ [y]) sep=Go.Lib.join xs sep++sep++y:=by
 cases xs with
 |nil=>exact absurd rfl h
 |cons x r=>
  rw[List.cons_append,Go.Lib.join_cons,Go.Lib.join_cons]
  simp[Go.Lib.joinTail]
theorem Qsn(sep:List UInt8)(K:Nat): ∀(xs:List (List UInt8)),(∀x∈xs,x.length≤K)→(Go.Lib.join xs sep).length≤(K+sep.length)*xs.length
 | [],_=>by simp[Go.Lib.join_nil]
 |x::r,h=>by
  rw[Go.Lib.join_cons,List.length_append,Go.Lib.joinTail_length]
  have h1:x.length≤K:=h x (by simp)
  have h2:Go.Lib.lens r≤K*r.length:=by
   have hr: ∀z∈r,z.length≤K:=fun z hz=>h z (by simp[hz])
   clear h
   induction r with
   |nil=>simp[Go.Lib.lens]
   |cons z r ih=>
    have:=ih fun q hq=>hr q (by simp[hq])
    have hz:=hr z (by simp)
    simp only[Go.Lib.lens,List.map_cons,List.sum_cons,List.length_cons]at this⊢
    rw[Nat.mul_succ];omega
  rw[List.length_cons,Nat.add_mul,Nat.mul_succ,Nat.mul_succ]
  omega
theorem Qwz{α:Type}{d:α}{l:List α}{i:Nat}(h:i<l.length):l.take (i+1)=l.take i++ [l.getD i d]:=by
 rw[List.take_add_one,List.getElem?_eq_getElem h,List.getD_eq_getElem?_getD,List.getElem?_eq_getElem h];rfl
theorem Q08{α:Type}{d:α}{txt:α→List UInt8}{sep:List UInt8}{ok:α→Prop}{K:Nat}(hK: ∀x,ok x→(txt x).length≤K)
  {L:Nat→List α→List UInt8→Int→Option (List UInt8×Unit)} {fin:List UInt8→Option (List UInt8×Unit)}
  (hL: ∀N l (s:List UInt8) (i:Nat),i<l.length→l.length≤1048576→ok (l.getD i d)→s.length≤(K+sep.length)*1048576→
   L (N+1) l s (i:Int)=L N l ((if 0<i then s++sep else s)++txt (l.getD i d)) ((i+1:Nat):Int))
  (hE: ∀N (l:List α) s,L (N+1) l s (l.length:Int)=fin s): ∀(N:Nat) (l:List α) (s:List UInt8) (i:Nat),(∀x∈l,ok x)→l.length≤1048576→i≤l.length→l.length-i<N→
   s=Go.Lib.join ((l.take i).map txt) sep→L N l s (i:Int)=fin (Go.Lib.join (l.map txt) sep)
 |0,_,_,_,_,_,_,h,_=>by omega
 |N+1,l,s,i,ho,hl,hi,hN,hs=>by
  by_cases h:i<l.length
  ·have hx:ok (l.getD i d):=by
    rw[List.getD_eq_getElem?_getD,List.getElem?_eq_getElem h]
    exact ho _ (List.getElem_mem h)
   have hb:s.length≤(K+sep.length)*1048576:=by
    rw[hs]
    refine Nat.le_trans (Qsn sep K _ ?_) (Nat.mul_le_mul_left _ ?_)
    ·intro x hx
     obtain⟨y,hy,rfl⟩:=List.mem_map.1 hx
     exact hK y (ho y (List.mem_of_mem_take hy))
    ·rw[List.length_map,List.length_take];omega
   rw[hL N l s i h hl hx hb]
   refine Q08 hK hL hE N l _ (i+1) ho hl h (by omega) ?_
   rw[Qwz (d:=d) h,List.map_append,List.map_cons,List.map_nil]
   by_cases h0:0<i
   ·rw[if_pos h0,hs,Q5c]
    intro e
    have:=congrArg List.length e
    rw[List.length_map,List.length_take,List.length_nil]at this
    omega
   ·have:i=0:=by omega
    subst this
    rw[if_neg h0,hs]
    simp[Go.Lib.join_one,Go.Lib.join_nil]
  ·have:i=l.length:=by omega
   subst this
   rw[hE,hs,List.take_length]
theorem Qwp{α β:Type}{d:α}{txt:α→β}{ok:α→Prop}{ρ:Type}
  {L:Nat→List β→List α→Int→Int→Option ρ} {fin:List β→Option ρ}
  (hL: ∀N out (l:List α) (i:Nat),i<l.length→l.length≤1048576→ok (l.getD i d)→out.length≤i→L (N+1) out l (l.length:Int) (i:Int)=L N (out++ [txt (l.getD i d)]) l (l.length:Int) ((i+1:Nat):Int))
  (hE: ∀N out (l:List α),L (N+1) out l (l.length:Int) (l.length:Int)=fin out): ∀(N:Nat) (l:List α) (out:List β) (i:Nat),(∀x∈l,ok x)→l.length≤1048576→i≤l.length→l.length-i<N→
   out=(l.take i).map txt→L N out l (l.length:Int) (i:Int)=fin (l.map txt)
 |0,_,_,_,_,_,_,h,_=>by omega
 |N+1,l,out,i,ho,hl,hi,hN,hs=>by
  by_cases h:i<l.length
  ·have hx:ok (l.getD i d):=by
    rw[List.getD_eq_getElem?_getD,List.getElem?_eq_getElem h]
    exact ho _ (List.getElem_mem h)
   rw[hL N out l i h hl hx (by rw[hs,List.length_map,List.length_take];omega)]
   refine Qwp hL hE N l _ (i+1) ho hl h (by omega) ?_
   rw[Qwz (d:=d) h,List.map_append,List.map_cons,List.map_nil,hs]
  ·have:i=l.length:=by omega
   subst this
   rw[hE,hs,List.take_length]
def fq(x:Int):Bool:=decide (x≥(0:Int))&&decide (x≤(4611686018427387903:Int))
theorem Q5q(x:Int):Qh x=some (fq x,()):=rfl
theorem Q5p(x:Int):Xy x=some (fq x,()):=rfl
theorem Ql4:Zkx=Wr:=rfl
theorem Q59:Zje=Kd:=rfl
theorem Xaj:Qi7=Zi9:=rfl
def Xu(f:Zh):Bool:=
 bif f.1==4 then decide (f.2.2.1=0)&& (f.2.2.2.1==[])&& (f.2.2.2.2.1==false)&&decide (f.2.2.2.2.2.2.1=0)&& (f.2.2.2.2.2.2.2.2.1==false)
 else bif f.1==5 then decide (f.2.2.1=0)&& (f.2.2.2.1==[])&& (f.2.2.2.2.1==false)&&decide (f.2.2.2.2.2.2.1=0)&&decide (f.2.2.2.2.2.2.2.1=0)&& (f.2.2.2.2.2.2.2.2.1==false)
 else bif f.1==8 then decide (f.2.2.2.2.2.1=0)&&decide (f.2.2.2.2.2.2.1=0)&&decide (f.2.2.2.2.2.2.2.1=0)&& (f.2.2.2.2.2.2.2.2.1==false)
 else bif f.1==17||f.1==21 then decide (f.2.2.1=0)&& (f.2.2.2.1==[])&& (f.2.2.2.2.1==false)&&decide (f.2.2.2.2.2.1=0)&&decide (f.2.2.2.2.2.2.2.1=0)&& (f.2.2.2.2.2.2.2.2.1==false)
 else bif f.1==18||f.1==22 then decide (f.2.1=0)&&decide (f.2.2.1=0)&& (f.2.2.2.1==[])&& (f.2.2.2.2.1==false)&&decide (f.2.2.2.2.2.1=0)&&decide (f.2.2.2.2.2.2.2.1=0)
 else bif f.1==16||f.1==20 then decide (f.2.1=0)&&decide (f.2.2.1=0)&& (f.2.2.2.1==[])&& (f.2.2.2.2.1==false)&&decide (f.2.2.2.2.2.1=0)&&decide (f.2.2.2.2.2.2.2.1=0)&& (f.2.2.2.2.2.2.2.2.1==false)
 else false
def Zg5(f:Zh):Bool:=
 Xu f&&fq f.2.1&&fq f.2.2.1&&fq f.2.2.2.2.2.1&&fq f.2.2.2.2.2.2.1&&fq f.2.2.2.2.2.2.2.1&&decide (f.2.2.2.1.length≤400)&& (bif f.1==18||f.1==22 then decide (f.2.2.2.2.2.2.1≤(1152921504606846976:Int))else decide (f.2.2.1≤(4611686018427387903:Int)- (f.2.2.2.1.length:Int)))
theorem Q0o(k:Int): ∃s,Wr k=some (s,())∧((s==([]:List UInt8))= !(k==4||k==5||k==8||k==16||k==17||k==18||k==20||k==21||k==22)):=by
 unfold Wr
 cases h4:k==4<;>cases h5:k==5<;>cases h8:k==8<;>cases h16:k==16<;>cases h17:k==17<;>cases h18:k==18<;>cases h20:k==20<;>cases h21:k==21<;>cases h22:k==22<;>exact⟨_,rfl,rfl⟩
theorem Qw4(f:Zh): ∃u,Zi9 f=some (u,())∧((f.1==4||f.1==5||f.1==8||f.1==16||f.1==17||f.1==18||f.1==20||f.1==21||f.1==22)=true→eqV Zu u f=Xu f∧eqV Zu f u=Xu f):=by
 obtain⟨k,st,off,data,fin,code,lim,final,uni,z⟩:=f
 by_cases h4:k=4
 ·subst h4;exact⟨_,rfl,fun _=>by constructor<;>rw[Bool.eq_iff_iff]<;>simp[eqV,Xu]<;>grind⟩
 by_cases h5:k=5
 ·subst h5;exact⟨_,rfl,fun _=>by constructor<;>rw[Bool.eq_iff_iff]<;>simp[eqV,Xu]<;>grind⟩
 by_cases h8:k=8
 ·subst h8;exact⟨_,rfl,fun _=>by constructor<;>rw[Bool.eq_iff_iff]<;>simp[eqV,Xu]<;>grind⟩
 by_cases h17:k=17
 ·subst h17;exact⟨_,rfl,fun _=>by constructor<;>rw[Bool.eq_iff_iff]<;>simp[eqV,Xu]<;>grind⟩
 by_cases h21:k=21
 ·subst h21;exact⟨_,rfl,fun _=>by constructor<;>rw[Bool.eq_iff_iff]<;>simp[eqV,Xu]<;>grind⟩
 by_cases h18:k=18
 ·subst h18;exact⟨_,rfl,fun _=>by constructor<;>rw[Bool.eq_iff_iff]<;>simp[eqV,Xu]<;>grind⟩
 by_cases h22:k=22
 ·subst h22;exact⟨_,rfl,fun _=>by constructor<;>rw[Bool.eq_iff_iff]<;>simp[eqV,Xu]<;>grind⟩
 by_cases h16:k=16
 ·subst h16;exact⟨_,rfl,fun _=>by constructor<;>rw[Bool.eq_iff_iff]<;>simp[eqV,Xu]<;>grind⟩
 by_cases h20:k=20
 ·subst h20;exact⟨_,rfl,fun _=>by constructor<;>rw[Bool.eq_iff_iff]<;>simp[eqV,Xu]<;>grind⟩
 ·have e: ∀c:Int,k≠c→(k==c)=false:=fun c h=>by simp[h]
  refine⟨(k,0,0,[],false,0,lim,0,false,()),?_,fun hk=> ?_⟩
  rotate_left
  ·simp only[e _ h4,e _ h5,e _ h8,e _ h17,e _ h21,e _ h18,e _ h22,e _ h16,e _ h20]at hk
   cases hk
  ·unfold Zi9 Kd Xs Zi0 Zi1
   simp only[e _ h4,e _ h5,e _ h8,e _ h17,e _ h21,e _ h18,e _ h22,cond_false,Option.bind_some]
theorem Qwo{f:Zh}(h:Xu f=true)(h8:f.1≠8):f.2.2.1=0∧f.2.2.2.1=[]:=by
 obtain⟨k,st,off,data,fin,code,lim,final,uni,z⟩:=f
 unfold Xu at h
 simp only at h h8⊢
 have e8: (k==8)=false:=by simp[h8]
 rw[e8]at h
 revert h
 cases k==4<;>cases k==5<;>cases (k==17||k==21)<;>cases (k==18||k==22)<;>cases (k==16||k==20)<;>simp<;>grind
theorem Zwb{f:Zh}(h:Xu f=true): (f.1==4||f.1==5||f.1==8||f.1==16||f.1==17||f.1==18||f.1==20||f.1==21||f.1==22)=true:=by
 obtain⟨k,st,off,data,fin,code,lim,final,uni,z⟩:=f
 unfold Xu at h
 simp only at h⊢
 revert h
 cases k==4<;>cases k==5<;>cases k==8<;>cases k==17<;>cases k==21<;>cases k==18<;>cases k==22<;>cases k==16<;>cases k==20<;>simp
theorem Zu6(f:Zh)(hl:f.2.2.2.1.length≤1048576):Jv f=some (Zg5 f,()):=by
 obtain⟨s,hs,hn⟩:=Q0o f.1
 obtain⟨u,hu,hp⟩:=Qw4 f
 unfold Jv
 simp only[hs,hu,Q5q,Option.bind_some,hn]
 cases hk: (f.1==4||f.1==5||f.1==8||f.1==16||f.1==17||f.1==18||f.1==20||f.1==21||f.1==22)
 ·have hpf:Xu f=false:=by
   cases h:Xu f
   ·rfl
   ·rw[Zwb h]at hk;cases hk
  simp only[Bool.not_false,cond_true,Option.bind_some,Bool.true_or]
  unfold Zg5
  rw[hpf];rfl
 ·simp only[Bool.not_true,cond_false,Option.bind_some,Bool.false_or,(hp hk).1]
  have hq:Zg5 f=(Xu f&&fq f.2.1&&fq f.2.2.1&&fq f.2.2.2.2.2.1&&fq f.2.2.2.2.2.2.1&&fq f.2.2.2.2.2.2.2.1&&decide (f.2.2.2.1.length≤400)&& (bif f.1==18||f.1==22 then decide (f.2.2.2.2.2.2.1≤(1152921504606846976:Int))else decide (f.2.2.1≤(4611686018427387903:Int)- (f.2.2.2.1.length:Int)))):=rfl
  rw[hq,Zw (by omega) (by omega)]
  have hd:decide ((f.2.2.2.1.length:Int)>400)= !(decide (f.2.2.2.1.length≤400)):=by
   rw[Bool.eq_iff_iff];simp;omega
  rw[hd]
  cases hpf:Xu f
  ·simp
  ·have hoff:=Qwo hpf
   cases fq f.2.1<;>cases fq f.2.2.1<;>cases fq f.2.2.2.2.2.1<;>cases fq f.2.2.2.2.2.2.1<;>cases fq f.2.2.2.2.2.2.2.1<;>cases hlen:decide (f.2.2.2.1.length≤400)<;>try rfl
   by_cases h8:f.1=8
   ·simp[h8]
   ·have e8: (f.1==8)=false:=by simp[h8]
    obtain⟨o1,o2⟩:=hoff h8
    unfold Zo4
    cases h18:f.1==18<;>cases h22:f.1==22<;>simp[e8,o1,o2]
theorem Qes(f:Zh)(hl:f.2.2.2.1.length≤1048576):Zqk f=some (Zg5 f,()):=by
 obtain⟨s,hs,hn⟩:=Q0o f.1
 obtain⟨u,hu,hp⟩:=Qw4 f
 unfold Zqk
 rw[Ql4,Xaj]
 simp only[hs,hu,Q5p,Option.bind_some,hn]
 cases hk: (f.1==4||f.1==5||f.1==8||f.1==16||f.1==17||f.1==18||f.1==20||f.1==21||f.1==22)
 ·have hpf:Xu f=false:=by
   cases h:Xu f
   ·rfl
   ·rw[Zwb h]at hk;cases hk
  simp only[Bool.not_false,cond_true,Option.bind_some,Bool.true_or]
  unfold Zg5
  rw[hpf];rfl
 ·simp only[Bool.not_true,cond_false,Option.bind_some,Bool.false_or,(hp hk).2]
  have hq:Zg5 f=(Xu f&&fq f.2.1&&fq f.2.2.1&&fq f.2.2.2.2.2.1&&fq f.2.2.2.2.2.2.1&&fq f.2.2.2.2.2.2.2.1&&decide (f.2.2.2.1.length≤400)&& (bif f.1==18||f.1==22 then decide (f.2.2.2.2.2.2.1≤(1152921504606846976:Int))else decide (f.2.2.1≤(4611686018427387903:Int)- (f.2.2.2.1.length:Int)))):=rfl
  rw[hq,Zw (by omega) (by omega)]
  have hd:decide ((f.2.2.2.1.length:Int)≤400)=(decide (f.2.2.2.1.length≤400)):=by
   rw[Bool.eq_iff_iff];simp;omega
  rw[hd]
  cases hpf:Xu f
  ·simp
  ·have hoff:=Qwo hpf
   cases fq f.2.1<;>cases fq f.2.2.1<;>cases fq f.2.2.2.2.2.1<;>cases fq f.2.2.2.2.2.2.1<;>cases fq f.2.2.2.2.2.2.2.1<;>try rfl
   by_cases h8:f.1=8
   ·simp[h8]
   ·obtain⟨o1,o2⟩:=hoff h8
    cases h18:f.1==18<;>cases h22:f.1==22<;>simp[o1,o2]
theorem Zpi{x:Int}(h:fq x=true):0≤x∧x≤4611686018427387903:=by
 unfold fq at h
 simp only[Bool.and_eq_true,decide_eq_true_eq]at h
 exact⟨h.1,h.2⟩
theorem Qt7(x:Int):Zbt x=some (decide (x≥0)&&decide (x≤999999999),()):=rfl
theorem Qsb(f:Zh)(hl:f.2.2.2.1.length≤1048576): ∃r,Ju f=some (r,())∧Zd1 f=some (r,())∧r.length≤2000:=by
 unfold Ju Zd1
 simp only[Zu6 f hl,Qes f hl,Option.bind_some,Qt7]
 cases hok:Zg5 f
 ·exact⟨[],rfl,rfl,by simp⟩
 ·have hok':=hok
  unfold Zg5 at hok'
  simp only[Bool.and_eq_true,decide_eq_true_eq]at hok'
  obtain⟨⟨⟨⟨⟨⟨⟨hp,q1⟩,q2⟩,q3⟩,q4⟩,q5⟩,hlen⟩,_⟩:=hok'
  have q1:=Zpi q1
  have q2:=Zpi q2
  have q3:=Zpi q3
  have q4:=Zpi q4
  have q5:=Zpi q5
  have hk:=Zwb hp
  unfold Zzz
  have d0: ∀x:Int,0≤x→(decide (x≥0)&&decide (x≤999999999))=decide (x≤999999999):=fun x hx=>by simp[hx]
  simp only[d0 _ q1.1,d0 _ q2.1,d0 _ q3.1,d0 _ q4.1,d0 _ q5.1,Bool.not_true,cond_false,Bool.false_or,Option.bind_some]
  cases h1:decide (f.2.1≤999999999)
  ·exact⟨[],rfl,rfl,by simp⟩
  cases h2:decide (f.2.2.1≤999999999)
  ·exact⟨[],rfl,rfl,by simp⟩
  cases h3:decide (f.2.2.2.2.2.1≤999999999)
  ·exact⟨[],rfl,rfl,by simp⟩
  cases h4:decide (f.2.2.2.2.2.2.1≤999999999)
  ·exact⟨[],rfl,rfl,by simp⟩
  cases h5:decide (f.2.2.2.2.2.2.2.1≤999999999)
  ·exact⟨[],rfl,rfl,by simp⟩
  obtain⟨k,st,off,data,fin,code,lim,final,uni,z⟩:=f
  simp only at*
  have s1:=Zcs st (by omega) (by omega)
  have i1:=Zfd st (by omega) (by omega)
  have l1:=Yq st (by omega) (by omega)
  have s2:=Zcs off (by omega) (by omega)
  have i2:=Zfd off (by omega) (by omega)
  have l2:=Yq off (by omega) (by omega)
  have s3:=Zcs code (by omega) (by omega)
  have i3:=Zfd code (by omega) (by omega)
  have l3:=Yq code (by omega) (by omega)
  have s4:=Zcs lim (by omega) (by omega)
  have i4:=Zfd lim (by omega) (by omega)
  have l4:=Yq lim (by omega) (by omega)
  have s5:=Zcs final (by omega) (by omega)
  have i5:=Zfd final (by omega) (by omega)
  have l5:=Yq final (by omega) (by omega)
  have sh:=Q9f data hl
  have ih:=Xeg data hl
  have lh:=Qer data
  generalize Go.Lib.itoa st=a at*
  generalize Go.Lib.itoa off=b at*
  generalize Go.Lib.itoa code=c at*
  generalize Go.Lib.itoa lim=d at*
  generalize Go.Lib.itoa final=e at*
  generalize Zx5 data=h at*
  have fin': ∀l:List (List UInt8),l.length≤100→(Go.Lib.join l [32]).length≤100000→Zc3 l=some (Go.Lib.join l [32],()):=fun l g1 g2=>by
   unfold Zc3 Zjy
   rw[Zb ⟨by omega,by omega⟩];rfl
  simp only[Bool.or_eq_true,beq_iff_eq]at hk
  rcases hk with(((((((rfl|rfl)|rfl)|rfl)|rfl)|rfl)|rfl)|rfl)|rfl
  all_goals
   cases fin<;>cases uni<;>
   (
    simp only[Ql4,Q59,Wr,Kd,Xs,W6,W7,Zg6,J4,Zxk,Zxl,Zm4,Int.reduceBEq,beq_self_eq_true,
     Bool.not_true,cond_false,cond_true,Bool.or_false,Bool.or_true,Bool.false_or,Bool.and_self,Option.bind_some,s1,s2,s3,s4,s5,sh,i1,i2,i3,i4,i5,ih]
    repeat rw[Zb (by simp only[List.length_append,List.length_cons,List.length_nil,Qp,Z8];omega)]
    rw[fin' _ (by simp only[List.length_append,List.length_cons,List.length_nil];omega) (by simp only[List.cons_append,List.nil_append,Go.Lib.join_cons,Go.Lib.joinTail,List.map_cons,List.map_nil,List.flatten_cons,List.flatten_nil,List.length_append,List.length_cons,List.length_nil];omega)]
    refine⟨_,rfl,?_,?_⟩
    ·simp[Go.Lib.join_cons,Go.Lib.joinTail]
    ·simp only[List.length_append,List.length_cons,List.length_nil];omega)
def Xf(k:Int):List UInt8:=
 if k=4 then[114,101,115,101,116]else if k=5 then[115,116,111,112]else if k=8 then[115,116,114,101,97,109]else if k=16 then[109,97,120,100,97,116,97]
 else if k=17 then[109,97,120,115,116,114,101,97,109,100,97,116,97]else if k=18 then[109,97,120,115,116,114,101,97,109,115]else if k=20 then[100,97,116,97,98,108,111,99,107,101,100]
 else if k=21 then[115,116,114,101,97,109,100,97,116,97,98,108,111,99,107,101,100]else if k=22 then[115,116,114,101,97,109,115,98,108,111,99,107,101,100]else[]
theorem Q0g(k:Int):Wr k=some (Xf k,()):=by
 unfold Wr Xf
 have key: ∀(c:Int) (a b:List UInt8) (m:Option (List UInt8×Unit)),m=some (b,())→(bif k==c then some (a,())else m)=some (if k=c then a else b,()):=by
  intro c a b m hm
  by_cases h:k=c
  ·rw[Zn (by simp[h]),if_pos h]
  ·rw[Zi (by simp[h]),if_neg h,hm]
 exact key _ _ _ _ (key _ _ _ _ (key _ _ _ _ (key _ _ _ _ (key _ _ _ _ (key _ _ _ _ (key _ _ _ _ (key _ _ _ _ (key _ _ _ _ rfl))))))))
def Qkn(f:Zh):Bool:=decide (f.2.1≤999999999)&&decide (f.2.2.1≤999999999)&&decide (f.2.2.2.2.2.1≤999999999)&&decide (f.2.2.2.2.2.2.1≤999999999)&&decide (f.2.2.2.2.2.2.2.1≤999999999)
def ftx(f:Zh):List UInt8:=
 if f.1=4 then Xf f.1++32:: (Go.Lib.itoa f.2.1++32:: (Go.Lib.itoa f.2.2.2.2.2.1++32::Go.Lib.itoa f.2.2.2.2.2.2.2.1))
 else if f.1=5 then Xf f.1++32:: (Go.Lib.itoa f.2.1++32::Go.Lib.itoa f.2.2.2.2.2.1)
 else if f.1=8 then Xf f.1++32:: (Go.Lib.itoa f.2.1++32:: (Go.Lib.itoa f.2.2.1++32:: ((120::Zx5 f.2.2.2.1)++if f.2.2.2.2.1 then[32,102,105,110]else[])))
 else if f.1=17∨f.1=21 then Xf f.1++32:: (Go.Lib.itoa f.2.1++32::Go.Lib.itoa f.2.2.2.2.2.2.1)
 else if f.1=18∨f.1=22 then Xf f.1++32:: (Go.Lib.itoa f.2.2.2.2.2.2.1++32::if f.2.2.2.2.2.2.2.2.1 then[117,110,105]else[98,105,100,105])
 else Xf f.1++32::Go.Lib.itoa f.2.2.2.2.2.2.1
def Qr7(f:Zh):List UInt8:=if Zg5 f=true∧Qkn f=true then ftx f else[]
theorem Q5g(k:Int): (Xf k).length≤17:=by
 unfold Xf;repeat' split
 all_goals simp
theorem Q46(f:Zh)(hl:f.2.2.2.1.length≤1048576):Ju f=some (Qr7 f,()):=by
 unfold Ju Qr7
 simp only[Zu6 f hl,Option.bind_some,Qt7,Q0g]
 cases hok:Zg5 f
 ·simp
 ·have hok':=hok
  unfold Zg5 at hok'
  simp only[Bool.and_eq_true,decide_eq_true_eq]at hok'
  obtain⟨⟨⟨⟨⟨⟨⟨hp,q1⟩,q2⟩,q3⟩,q4⟩,q5⟩,hlen⟩,_⟩:=hok'
  have q1:=Zpi q1
  have q2:=Zpi q2
  have q3:=Zpi q3
  have q4:=Zpi q4
  have q5:=Zpi q5
  have hk:=Zwb hp
  have d0: ∀x:Int,0≤x→(decide (x≥0)&&decide (x≤999999999))=decide (x≤999999999):=fun x hx=>by simp[hx]
  unfold Qkn
  simp only[d0 _ q1.1,d0 _ q2.1,d0 _ q3.1,d0 _ q4.1,d0 _ q5.1,Bool.not_true,cond_false,Bool.false_or,Option.bind_some]
  cases h1:decide (f.2.1≤999999999)
  ·simp
  cases h2:decide (f.2.2.1≤999999999)
  ·simp
  cases h3:decide (f.2.2.2.2.2.1≤999999999)
  ·simp
  cases h4:decide (f.2.2.2.2.2.2.1≤999999999)
  ·simp
  cases h5:decide (f.2.2.2.2.2.2.2.1≤999999999)
  ·simp
  obtain⟨k,st,off,data,fin,code,lim,final,uni,z⟩:=f
  simp only at*
  have s1:=Zcs st (by omega) (by omega)
  have l1:=Yq st (by omega) (by omega)
  have s2:=Zcs off (by omega) (by omega)
  have l2:=Yq off (by omega) (by omega)
  have s3:=Zcs code (by omega) (by omega)
  have l3:=Yq code (by omega) (by omega)
  have s4:=Zcs lim (by omega) (by omega)
  have l4:=Yq lim (by omega) (by omega)
  have s5:=Zcs final (by omega) (by omega)
  have l5:=Yq final (by omega) (by omega)
  have sh:=Q9f data hl
  have lh:=Qer data
  have ln:=Q5g k
  unfold ftx
  simp only[Bool.not_true,Bool.or_false,cond_false,Option.bind_some,s1,s2,s3,s5,sh,Bool.and_self,and_self,if_true]
  generalize Go.Lib.itoa st=a at*
  generalize Go.Lib.itoa off=b at*
  generalize Go.Lib.itoa code=c at*
  generalize Go.Lib.itoa lim=d at*
  generalize Go.Lib.itoa final=e at*
  generalize Zx5 data=h at*
  generalize Xf k=nm at*
  have g: ∀(x y:List UInt8) (m:Option (List UInt8×Unit)),x.length+y.length≤100000→Zc (x.length+y.length≤Z8) m=m:=fun x y m hxy=>Zb (by unfold Z8;omega)
  by_cases e4:k=4
  ·subst e4
   rw[Zn (by rfl),g _ _ _ (by simp;omega),g _ _ _ (by simp;omega),g _ _ _ (by simp;omega),g _ _ _ (by simp;omega),g _ _ _ (by simp;omega),g _ _ _ (by simp;omega)]
   simp
  rw[Zi (by simp[e4])]
  by_cases e5:k=5
  ·subst e5
   rw[Zn (by rfl),g _ _ _ (by simp;omega),g _ _ _ (by simp;omega),g _ _ _ (by simp;omega),g _ _ _ (by simp;omega)]
   simp
  rw[Zi (by simp[e5])]
  by_cases e8:k=8
  ·subst e8
   rw[Zn (by rfl),g _ _ _ (by simp;omega),g _ _ _ (by simp;omega),g _ _ _ (by simp;omega),g _ _ _ (by simp;omega),g _ _ _ (by simp;omega),g _ _ _ (by simp;omega)]
   have hf:Zxk fin=some (if fin then[32,102,105,110]else[],()):=by cases fin<;>rfl
   rw[hf,Option.bind_some,g _ _ _ (by cases fin<;>simp<;>omega)]
   simp
  rw[Zi (by simp[e8])]
  have hj1: ∀t,(t=true→(k=17∨k=21))→(t=false→ ¬(k=17∨k=21))→W6 (k,st,off,data,fin,code,lim,final,uni,z) nm k t=some (if k=17∨k=21 then nm++32:: (a++32::d)else if k=18∨k=22 then nm++32:: (d++32::if uni=true then[117,110,105]else[98,105,100,105])else nm++32::d,()):=by
   intro t t1 t0
   unfold W6
   cases t
   ·simp only[cond_false]
    rw[if_neg (t0 rfl)]
    have hj2: ∀t,(t=true→(k=18∨k=22))→(t=false→ ¬(k=18∨k=22))→W7 (k,st,off,data,fin,code,lim,final,uni,z) nm t=some (if k=18∨k=22 then nm++32:: (d++32::if uni=true then[117,110,105]else[98,105,100,105])else nm++32::d,()):=by
     intro t u1 u0
     unfold W7
     have hu:Zxl uni=some (32:: (if uni=true then[117,110,105]else[98,105,100,105]),()):=by cases uni<;>rfl
     cases t
     ·simp only[cond_false,s4,Option.bind_some]
      rw[if_neg (u0 rfl),g _ _ _ (by simp;omega),g _ _ _ (by simp;omega)]
      simp
     ·simp only[cond_true,s4,hu,Option.bind_some]
      rw[if_pos (u1 rfl),g _ _ _ (by simp;omega),g _ _ _ (by simp;omega),g _ _ _ (by cases uni<;>simp<;>omega)]
      simp
    by_cases e18:k=18
    ·rw[Zn (by simp[e18])];exact hj2 _ (fun _=> .inl e18) (fun h=>by simp[e18]at h)
    ·rw[Zi (by simp[e18])];exact hj2 _ (fun h=> .inr (by simpa using h)) (fun h=>by simp at h;omega)
   ·simp only[cond_true,s1,s4,Option.bind_some]
    rw[if_pos (t1 rfl),g _ _ _ (by simp;omega),g _ _ _ (by simp;omega),g _ _ _ (by simp;omega),g _ _ _ (by simp;omega)]
    simp
  simp only[if_neg e4,if_neg e5,if_neg e8]
  by_cases e17:k=17
  ·rw[Zn (by simp[e17])];exact hj1 _ (fun _=> .inl e17) (fun h=>by simp[e17]at h)
  ·rw[Zi (by simp[e17])];exact hj1 _ (fun h=> .inr (by simpa using h)) (fun h=>by simp at h;omega)
theorem Xcy(f:Zh)(hl:f.2.2.2.1.length≤1048576):Zd1 f=some (Qr7 f,())∧(Qr7 f).length≤2000:=by
 obtain⟨r,h1,h2,h3⟩:=Qsb f hl
 rw[Q46 f hl]at h1
 have:Qr7 f=r:=by simpa using h1
 rw[this];exact⟨h2,h3⟩
open Classical in
noncomputable def pin(s:List UInt8):Option Int:=if h: ∃n:Int,-999999999≤n∧n≤999999999∧s=Go.Lib.itoa n then some h.choose else none
theorem Xdl{s:List UInt8}{n:Int}(h:pin s=some n): -999999999≤n∧n≤999999999∧s=Go.Lib.itoa n:=by
 unfold pin at h
 split at h
 ·rename_i hh
  have:=hh.choose_spec
  simp only[Option.some.injEq]at h
  rw[h]at this;exact this
 ·cases h
theorem Z4i{n:Int}(h0: -999999999≤n)(h1:n≤999999999):pin (Go.Lib.itoa n)=some n:=by
 unfold pin
 have hh: ∃m:Int,-999999999≤m∧m≤999999999∧Go.Lib.itoa n=Go.Lib.itoa m:=⟨n,h0,h1,rfl⟩
 rw[dif_pos hh]
 congr 1
 exact(Q0f hh.choose_spec.2.2).symm
noncomputable def Qji(s:List UInt8):Int:=(pin s).getD (-1)
noncomputable def atN(w:List (List UInt8))(i:Nat):Int:=if i<w.length then Qji (w.getD i [])else-1
theorem Xcz{α:Type}{l:List α}{i:Nat}{d:α}(h:i<l.length):l.getD i d∈l:=by
 rw[List.getD_eq_getElem?_getD,List.getElem?_eq_getElem h];exact List.getElem_mem h
def Zp1(w:List UInt8):Int:=
 if w=Xf 4 then 4 else if w=Xf 5 then 5 else if w=Xf 8 then 8 else if w=Xf 16 then 16 else if w=Xf 17 then 17 else if w=Xf 18 then 18 else if w=Xf 20 then 20 else if w=Xf 21 then 21 else if w=Xf 22 then 22 else 0
theorem Qaj{k:Int}(h:Xf k≠[]):Zp1 (Xf k)=k:=by
 unfold Xf at h
 repeat' (split at h)
 all_goals first| (rename_i e;subst e;decide)|skip
 exact absurd rfl h
def kfm:Nat→List UInt8→Int→Int
 |0,_,c=>c
 |m+1,w,c=>kfm m w (if Xf (24- (m+1:Nat))=w∧w≠[]then 24- (m+1:Nat)else c)
theorem Xei(w:List UInt8):kfm 23 w 0=Zp1 w:=by
 have key: ∀k:Int,Xf k=[114,101,115,101,116]∨Xf k=[]∨True:=fun _=> .inr (.inr trivial)
 by_cases h4:w=Xf 4
 ·subst h4;decide
 by_cases h5:w=Xf 5
 ·subst h5;decide
 by_cases h8:w=Xf 8
 ·subst h8;decide
 by_cases h16:w=Xf 16
 ·subst h16;decide
 by_cases h17:w=Xf 17
 ·subst h17;decide
 by_cases h18:w=Xf 18
 ·subst h18;decide
 by_cases h20:w=Xf 20
 ·subst h20;decide
 by_cases h21:w=Xf 21
 ·subst h21;decide
 by_cases h22:w=Xf 22
 ·subst h22;decide
 have no: ∀k:Int,¬(Xf k=w∧w≠[]):=by
  intro k ⟨e,hne⟩
  have:=Qaj (k:=k) (by rw[e];exact hne)
  rw[e]at this
  unfold Zp1 at this
  simp only[h4,h5,h8,h16,h17,h18,h20,h21,h22,if_false]at this
  subst this
  exact hne (by rw[←e];rfl)
 have st: ∀m c,kfm m w c=c:=by
  intro m
  induction m with
  |zero=>intro c;rfl
  |succ m ih=>intro c;simp only[kfm];rw[if_neg (no _),ih]
 rw[st]
 unfold Zp1
 simp only[h4,h5,h8,h16,h17,h18,h20,h21,h22,if_false]
def zF:Zh:=((0:Int),((0:Int),((0:Int),(([]:List UInt8),(false,((0:Int),((0:Int),((0:Int),(false,())))))))))
noncomputable def chk(s:List UInt8)(f:Zh):Zh×Bool×Unit:=if s≠[]∧Qr7 f=s then(f,true,())else(zF,false,())
noncomputable def frS(w:List (List UInt8)):Zh:=
 let k:=Zp1 (w.getD 0 [])
 if k=4 then(k,atN w 1,0,[],false,atN w 2,0,atN w 3,false,())
 else if k=5 then(k,atN w 1,0,[],false,atN w 2,0,0,false,())
 else if k=8 then(k,atN w 1,atN w 2,(if 3<w.length∧0< (w.getD 3 []).length then Qla ((w.getD 3 []).drop 1)else[]),decide (w.length=5),0,0,0,false,())
 else if k=17∨k=21 then(k,atN w 1,0,[],false,0,atN w 2,0,false,())
 else if k=18∨k=22 then(k,0,0,[],false,0,atN w 1,0,decide (w.length=3)&& (w.getD 2 []==[117,110,105]),())
 else(k,0,0,[],false,0,atN w 1,0,false,())
theorem Xax(w:List UInt8):Zp1 w=0∨Zp1 w=4∨Zp1 w=5∨Zp1 w=8∨Zp1 w=16∨Zp1 w=17∨Zp1 w=18∨Zp1 w=20∨Zp1 w=21∨Zp1 w=22:=by
 unfold Zp1;repeat' split
 all_goals simp
def Q8k(s:List UInt8):List UInt8:=Qla (Go.Lib.trimPrefix s [120])
def Quf(r:List (List UInt8)):Bool:=match r with| [a]=>a==[117,110,105]|_=>false
noncomputable def Zi2{β:Type}(r:List (List UInt8))(K:Int→List (List UInt8)→Option β):Option β:=
 match r with
 | []=>none
 |a::r=>match pin a with
  |none=>none
  |some n=>K n r
noncomputable def frI(w:List (List UInt8)):Option Zh:=
 let k:=Zp1 (w.headD [])
 let r:=w.tail
 if k=4 then Zi2 r fun st r=>Zi2 r fun c r=>Zi2 r fun fi _=>some (4,st,0,[],false,c,0,fi,false,())
 else if k=5 then Zi2 r fun st r=>Zi2 r fun c _=>some (5,st,0,[],false,c,0,0,false,())
 else if k=8 then Zi2 r fun st r=>Zi2 r fun off r=>some (8,st,off,(match r with| []=>[]|a::_=>Q8k a),decide (r.length=2),0,0,0,false,())
 else if k=17∨k=21 then Zi2 r fun st r=>Zi2 r fun l _=>some (k,st,0,[],false,0,l,0,false,())
 else Zi2 r fun l r=>some (k,0,0,[],false,0,l,0,decide (k=18∨k=22)&&Quf r,())
noncomputable def Xem(s:List UInt8)(o:Option Zh):Zh×Bool×Unit:=match o with
 |none=>(zF,false,())
 |some f=>chk s f
theorem Xdy(s p:List UInt8): (Go.Lib.trimPrefix s p).length≤s.length:=by
 unfold Go.Lib.trimPrefix;split<;>simp
theorem Q8o(k:Int):Zkx k=some (Xf k,()):=by
 rw[show Zkx k=Wr k from rfl];exact Q0g k
def kfI:Nat→List UInt8→Int
 |0,_=>0
 |m+1,w=>if Xf (23- (m+1:Nat))=w then 23- (m+1:Nat)else kfI m w
theorem Xeh(w:List UInt8)(hne:w≠[]):kfI 19 w=Zp1 w:=by
 by_cases h4:w=Xf 4
 ·subst h4;decide
 by_cases h5:w=Xf 5
 ·subst h5;decide
 by_cases h8:w=Xf 8
 ·subst h8;decide
 by_cases h16:w=Xf 16
 ·subst h16;decide
 by_cases h17:w=Xf 17
 ·subst h17;decide
 by_cases h18:w=Xf 18
 ·subst h18;decide
 by_cases h20:w=Xf 20
 ·subst h20;decide
 by_cases h21:w=Xf 21
 ·subst h21;decide
 by_cases h22:w=Xf 22
 ·subst h22;decide
 have no: ∀k:Int,¬(Xf k=w):=by
  intro k e
  have:=Qaj (k:=k) (by rw[e];exact hne)
  rw[e]at this
  unfold Zp1 at this
  simp only[h4,h5,h8,h16,h17,h18,h20,h21,h22,if_false]at this
  subst this
  exact hne (by rw[←e];rfl)
 have st: ∀m,kfI m w=0:=by
  intro m
  induction m with
  |zero=>rfl
  |succ m ih=>simp only[kfI];rw[if_neg (no _),ih]
 rw[st]
 unfold Zp1
 simp only[h4,h5,h8,h16,h17,h18,h20,h21,h22,if_false]
theorem Xd2{α:Type}(a:α)(r:List α): ((a::r).drop (1:Int).toNat).take ((((a::r).length:Nat):Int).toNat- (1:Int).toNat)=r:=by
 rw[List.take_of_length_le]
 ·rfl
 ·simp
theorem hdn{β:Type}(x y:Option β): (bif((([]:List (List UInt8)).length:Nat):Int)==(0:Int)then x else y)=x:=rfl
theorem Xet{β:Type}(a:List UInt8)(r:List (List UInt8))(x:Option β):Zc ((0:Int)≤1∧(1:Int)≤(((a::r).length:Nat):Int)∧(((a::r).length:Nat):Int)≤(((a::r).length:Nat):Int)) x=x:=Zb (by simp;omega)
theorem Q2v(c:UInt8)(hc:c=32∨c=10)(k:Int):c∉Xf k:=by
 unfold Xf
 repeat' split
 all_goals rcases hc with rfl|rfl<;>decide
theorem Xdj{c:UInt8}{a b:List UInt8}(h1:c∉a)(h2:c∉b):c∉a++b:=by
 intro h;rcases List.mem_append.1 h with h|h
 ·exact h1 h
 ·exact h2 h
theorem Qtj{f:Zh}(h:Zg5 f=true)(hs:Qkn f=true):frS (Xa 32 (ftx f))=f∧frI (Xa 32 (ftx f))=some f∧ftx f≠[]:=by
 have hok':=h
 unfold Zg5 at hok'
 simp only[Bool.and_eq_true,decide_eq_true_eq]at hok'
 obtain⟨⟨⟨⟨⟨⟨⟨hp,q1⟩,q2⟩,q3⟩,q4⟩,q5⟩,hlen⟩,-⟩:=hok'
 have q1:=Zpi q1
 have q2:=Zpi q2
 have q3:=Zpi q3
 have q4:=Zpi q4
 have q5:=Zpi q5
 have hk:=Zwb hp
 unfold Qkn at hs
 simp only[Bool.and_eq_true,decide_eq_true_eq]at hs
 obtain⟨⟨⟨⟨s1,s2⟩,s3⟩,s4⟩,s5⟩:=hs
 obtain⟨k,st,off,data,fin,code,lim,final,uni,z⟩:=f
 simp only at*
 unfold Xu at hp
 simp only at hp
 have nk:Xf k≠[]:=by
  intro e
  unfold Xf at e
  simp only[Bool.or_eq_true,beq_iff_eq]at hk
  repeat' (split at e)
  all_goals first| (cases e;done)|skip
  omega
 have kk:=Qaj nk
 have i0:=fun n:Int=>Q5b 32 (.inl rfl) n
 have n0:=Q2v 32 (.inl rfl) k
 have p1:=Z4i (n:=st) (by omega) s1
 have p2:=Z4i (n:=off) (by omega) s2
 have p3:=Z4i (n:=code) (by omega) s3
 have p4:=Z4i (n:=lim) (by omega) s4
 have p5:=Z4i (n:=final) (by omega) s5
 simp only[Bool.or_eq_true,beq_iff_eq]at hk
 have ss:=fun(a r:List UInt8) (h: (32:UInt8)∉a)=>Qk5 32 a r h
 have so:=fun(a:List UInt8) (h: (32:UInt8)∉a)=>Qcl 32 a h
 cases z
 rcases hk with(((((((rfl|rfl)|rfl)|rfl)|rfl)|rfl)|rfl)|rfl)|rfl
 ·simp at hp
  obtain⟨⟨⟨⟨rfl,rfl⟩,rfl⟩,rfl⟩,rfl⟩:=hp
  have e:Xa 32 (ftx (4,st,0,[],false,code,0,final,false,()))=[Xf 4,Go.Lib.itoa st,Go.Lib.itoa code,Go.Lib.itoa final]:=by
   show Xa 32 (Xf 4++32:: (Go.Lib.itoa st++32:: (Go.Lib.itoa code++32:: (Go.Lib.itoa final))))=_
   rw[ss _ _ n0,ss _ _ (i0 _),ss _ _ (i0 _),so _ (i0 _)]
  rw[e]
  refine⟨?_,?_,?_⟩
  ·unfold frS;simp[kk,atN,Qji,p1,p3,p5]
  ·unfold frI;simp[kk,Zi2,p1,p3,p5]
  ·simp[ftx]
 ·simp at hp
  obtain⟨⟨⟨⟨⟨rfl,rfl⟩,rfl⟩,rfl⟩,rfl⟩,rfl⟩:=hp
  have e:Xa 32 (ftx (5,st,0,[],false,code,0,0,false,()))=[Xf 5,Go.Lib.itoa st,Go.Lib.itoa code]:=by
   show Xa 32 (Xf 5++32:: (Go.Lib.itoa st++32:: (Go.Lib.itoa code)))=_
   rw[ss _ _ n0,ss _ _ (i0 _),so _ (i0 _)]
  rw[e]
  refine⟨?_,?_,?_⟩
  ·unfold frS;simp[kk,atN,Qji,p1,p3]
  ·unfold frI;simp[kk,Zi2,p1,p3]
  ·simp[ftx]
 ·simp at hp
  obtain⟨⟨⟨rfl,rfl⟩,rfl⟩,rfl⟩:=hp
  have hh:=Qv9 32 (.inl rfl) data
  have hx: (32:UInt8)∉120::Zx5 data:=by simp[hh]
  have hu:Qla (Zx5 data)=data:=by unfold Qla;rw[Que];rfl
  have hv:Q8k (120::Zx5 data)=data:=hu
  cases fin
  rotate_left
  ·have e:Xa 32 (ftx (8,st,off,data,true,0,0,0,false,()))=[Xf 8,Go.Lib.itoa st,Go.Lib.itoa off,(120::Zx5 data),[102,105,110]]:=by
    show Xa 32 (Xf 8++32:: (Go.Lib.itoa st++32:: (Go.Lib.itoa off++32:: ((120::Zx5 data)++32:: ([102,105,110])))))=_
    rw[ss _ _ n0,ss _ _ (i0 _),ss _ _ (i0 _),ss _ _ hx,so _ (by decide)]
   rw[e]
   refine⟨?_,?_,?_⟩
   ·unfold frS;simp[kk,atN,Qji,p1,p2,hu]
   ·unfold frI;simp[kk,Zi2,p1,p2,hv]
   ·simp[ftx]
  ·have e:Xa 32 (ftx (8,st,off,data,false,0,0,0,false,()))=[Xf 8,Go.Lib.itoa st,Go.Lib.itoa off,(120::Zx5 data)]:=by
    show Xa 32 (Xf 8++32:: (Go.Lib.itoa st++32:: (Go.Lib.itoa off++32:: ((120::Zx5 data)++ []))))=_
    rw[List.append_nil]
    rw[ss _ _ n0,ss _ _ (i0 _),ss _ _ (i0 _),so _ hx]
   rw[e]
   refine⟨?_,?_,?_⟩
   ·unfold frS;simp[kk,atN,Qji,p1,p2,hu]
   ·unfold frI;simp[kk,Zi2,p1,p2,hv]
   ·simp[ftx]
 ·simp at hp
  obtain⟨⟨⟨⟨⟨⟨rfl,rfl⟩,rfl⟩,rfl⟩,rfl⟩,rfl⟩,rfl⟩:=hp
  have e:Xa 32 (ftx (16,0,0,[],false,0,lim,0,false,()))=[Xf 16,Go.Lib.itoa lim]:=by
   show Xa 32 (Xf 16++32:: (Go.Lib.itoa lim))=_
   rw[ss _ _ n0,so _ (i0 _)]
  rw[e]
  refine⟨?_,?_,?_⟩
  ·unfold frS;simp[kk,atN,Qji,p4]
  ·unfold frI;simp[kk,Zi2,p4,Quf]
  ·simp[ftx]
 ·simp at hp
  obtain⟨⟨⟨⟨⟨rfl,rfl⟩,rfl⟩,rfl⟩,rfl⟩,rfl⟩:=hp
  have e:Xa 32 (ftx (17,st,0,[],false,0,lim,0,false,()))=[Xf 17,Go.Lib.itoa st,Go.Lib.itoa lim]:=by
   show Xa 32 (Xf 17++32:: (Go.Lib.itoa st++32:: (Go.Lib.itoa lim)))=_
   rw[ss _ _ n0,ss _ _ (i0 _),so _ (i0 _)]
  rw[e]
  refine⟨?_,?_,?_⟩
  ·unfold frS;simp[kk,atN,Qji,p1,p4]
  ·unfold frI;simp[kk,Zi2,p1,p4]
  ·simp[ftx]
 ·simp at hp
  obtain⟨⟨⟨⟨⟨rfl,rfl⟩,rfl⟩,rfl⟩,rfl⟩,rfl⟩:=hp
  cases uni
  rotate_left
  ·have e:Xa 32 (ftx (18,0,0,[],false,0,lim,0,true,()))=[Xf 18,Go.Lib.itoa lim,[117,110,105]]:=by
    show Xa 32 (Xf 18++32:: (Go.Lib.itoa lim++32:: ([117,110,105])))=_
    rw[ss _ _ n0,ss _ _ (i0 _),so _ (by decide)]
   rw[e]
   refine⟨?_,?_,?_⟩
   ·unfold frS;simp[kk,atN,Qji,p4]
   ·unfold frI;simp[kk,Zi2,p4,Quf]
   ·simp[ftx]
  ·have e:Xa 32 (ftx (18,0,0,[],false,0,lim,0,false,()))=[Xf 18,Go.Lib.itoa lim,[98,105,100,105]]:=by
    show Xa 32 (Xf 18++32:: (Go.Lib.itoa lim++32:: ([98,105,100,105])))=_
    rw[ss _ _ n0,ss _ _ (i0 _),so _ (by decide)]
   rw[e]
   refine⟨?_,?_,?_⟩
   ·unfold frS;simp[kk,atN,Qji,p4]
   ·unfold frI;simp[kk,Zi2,p4,Quf]
   ·simp[ftx]
 ·simp at hp
  obtain⟨⟨⟨⟨⟨⟨rfl,rfl⟩,rfl⟩,rfl⟩,rfl⟩,rfl⟩,rfl⟩:=hp
  have e:Xa 32 (ftx (20,0,0,[],false,0,lim,0,false,()))=[Xf 20,Go.Lib.itoa lim]:=by
   show Xa 32 (Xf 20++32:: (Go.Lib.itoa lim))=_
   rw[ss _ _ n0,so _ (i0 _)]
  rw[e]
  refine⟨?_,?_,?_⟩
  ·unfold frS;simp[kk,atN,Qji,p4]
  ·unfold frI;simp[kk,Zi2,p4,Quf]
  ·simp[ftx]
 ·simp at hp
  obtain⟨⟨⟨⟨⟨rfl,rfl⟩,rfl⟩,rfl⟩,rfl⟩,rfl⟩:=hp
  have e:Xa 32 (ftx (21,st,0,[],false,0,lim,0,false,()))=[Xf 21,Go.Lib.itoa st,Go.Lib.itoa lim]:=by
   show Xa 32 (Xf 21++32:: (Go.Lib.itoa st++32:: (Go.Lib.itoa lim)))=_
   rw[ss _ _ n0,ss _ _ (i0 _),so _ (i0 _)]
  rw[e]
  refine⟨?_,?_,?_⟩
  ·unfold frS;simp[kk,atN,Qji,p1,p4]
  ·unfold frI;simp[kk,Zi2,p1,p4]
  ·simp[ftx]
 ·simp at hp
  obtain⟨⟨⟨⟨⟨rfl,rfl⟩,rfl⟩,rfl⟩,rfl⟩,rfl⟩:=hp
  cases uni
  rotate_left
  ·have e:Xa 32 (ftx (22,0,0,[],false,0,lim,0,true,()))=[Xf 22,Go.Lib.itoa lim,[117,110,105]]:=by
    show Xa 32 (Xf 22++32:: (Go.Lib.itoa lim++32:: ([117,110,105])))=_
    rw[ss _ _ n0,ss _ _ (i0 _),so _ (by decide)]
   rw[e]
   refine⟨?_,?_,?_⟩
   ·unfold frS;simp[kk,atN,Qji,p4]
   ·unfold frI;simp[kk,Zi2,p4,Quf]
   ·simp[ftx]
  ·have e:Xa 32 (ftx (22,0,0,[],false,0,lim,0,false,()))=[Xf 22,Go.Lib.itoa lim,[98,105,100,105]]:=by
    show Xa 32 (Xf 22++32:: (Go.Lib.itoa lim++32:: ([98,105,100,105])))=_
    rw[ss _ _ n0,ss _ _ (i0 _),so _ (by decide)]
   rw[e]
   refine⟨?_,?_,?_⟩
   ·unfold frS;simp[kk,atN,Qji,p4]
   ·unfold frI;simp[kk,Zi2,p4,Quf]
   ·simp[ftx]
theorem Q3y{f:Zh}(h:Qr7 f≠[]):Zg5 f=true∧Qkn f=true∧Qr7 f=ftx f:=by
 unfold Qr7 at h⊢
 by_cases hc:Zg5 f=true∧Qkn f=true
 ·rw[if_pos hc];exact⟨hc.1,hc.2,rfl⟩
 ·rw[if_neg hc]at h;exact absurd rfl h
theorem Xbx(s:List UInt8):Xem s (frI (Xa 32 s))=chk s (frS (Xa 32 s)):=by
 by_cases h:s≠[]∧Qr7 (frS (Xa 32 s))=s
 ·obtain⟨h1,h2,h3⟩:=Q3y (f:=frS (Xa 32 s)) (by rw[h.2];exact h.1)
  have hp:=(Qtj h1 h2).2.1
  rw[h.2]at h3
  rw[←h3]at hp
  rw[hp];rfl
 ·have hr:chk s (frS (Xa 32 s))=(zF,false,()):=if_neg h
  rw[hr]
  cases hf:frI (Xa 32 s)with
  |none=>rfl
  |some g=>
   show chk s g=_
   by_cases hg:s≠[]∧Qr7 g=s
   ·obtain⟨h1,h2,h3⟩:=Q3y (f:=g) (by rw[hg.2];exact hg.1)
    have hp:=(Qtj h1 h2).1
    rw[hg.2]at h3
    rw[←h3]at hp
    exact absurd ⟨hg.1,by rw[hp,hg.2]⟩ h
   ·exact if_neg hg
theorem Q3m(x:Int):0≤bits .and .i64 x 255∧bits .and .i64 x 255≤255:=by
 have h:bits .and .i64 x 255=IntKind.i64.wrap (((BitVec.ofInt 64 x&&&BitVec.ofInt 64 255).toNat:Nat):Int):=rfl
 rw[h,BitVec.toNat_and]
 have h2: (BitVec.ofInt 64 255).toNat=255:=by decide
 rw[h2]
 have h3: (BitVec.ofInt 64 x).toNat&&&255≤255:=Nat.and_le_right
 rw[Zw (by omega) (by omega)]
 omega
def Y3(c:Qe):Prop:=c.1.length≤1048576∧0≤c.2.1∧c.2.1≤c.1.length
theorem Q8x(code:List Int)(h:code.length≤1048576): ∃c,Zg2 code=some (c,())∧Y3 c:=by
 have loop: ∀(N:Nat) (x:Int) (i:Nat),i≤code.length→code.length-i<N→ ∃c,Zoo N code x (i:Int)=some (c,())∧Y3 c:=by
  intro N
  induction N with
  |zero=>intro x i _ h;omega
  |succ N ih=>
   intro x i hi hN
   unfold Zoo
   by_cases hl:i<code.length∧i<4000
   ·rw[Zn (by simp;omega),Zb (by omega),Zq hl.1 (by omega)]
    exact ih _ (i+1) (by omega) (by omega)
   ·rw[Zi (by simp;omega)]
    exact⟨_,rfl,h,Int.le_refl 0,by simp⟩
 unfold Zg2
 exact loop _ _ 0 (by omega) (by unfold Zpx;omega)
theorem Z3c(c:Qe)(h:Y3 c): ∃x c',Zi6 c=some ((x,()),(c',()))∧Y3 c'∧0≤x∧x≤255:=by
 obtain⟨h1,h2,h3⟩:=h
 unfold Zi6
 simp only[]
 rw[Zb (by decide),Zb (by decide)]
 by_cases hl:c.2.1< (c.1.length:Int)
 ·rw[Zn (Zk hl),Zb ⟨h2,hl⟩,Zw (n:=c.2.1+1) (by omega) (by omega)]
  exact⟨_,_,rfl,⟨h1,by show 0≤c.2.1+1;omega,by show c.2.1+1≤(c.1.length:Int);omega⟩,Q3m _⟩
 ·rw[Zi (Zj hl)]
  exact⟨_,_,rfl,⟨h1,h2,h3⟩,Q3m _⟩
theorem Zvi(c:Qe)(n:Int)(h:Y3 c): ∃x c',Qa c n=some ((x,()),(c',()))∧Y3 c'∧0≤x∧(0<n→x<n):=by
 unfold Qa
 by_cases h0:n≤0
 ·rw[Zn (Zk h0)]
  exact⟨_,_,rfl,h,Int.le_refl 0,fun hn=>by omega⟩
 ·rw[Zi (Zj h0)]
  by_cases h1:n≤256
  ·rw[Zn (Zk h1)]
   obtain⟨x,c1,e1,k1,b1,b2⟩:=Z3c c h
   rw[e1,Option.bind_some,Zb (by omega)]
   exact⟨_,_,rfl,k1,Int.tmod_nonneg n b1,fun hn=>Int.tmod_lt_of_pos x hn⟩
  ·rw[Zi (Zj h1)]
   obtain⟨x,c1,e1,k1,b1,b2⟩:=Z3c c h
   obtain⟨y,c2,e2,k2,b3,b4⟩:=Z3c c1 k1
   obtain⟨z,c3,e3,k3,b5,b6⟩:=Z3c c2 k2
   obtain⟨u,c4,e4,k4,b7,b8⟩:=Z3c c3 k3
   rw[e1,Option.bind_some,e2,Option.bind_some,e3,Option.bind_some,e4,Option.bind_some,Zb (by omega)]
   simp only[]
   rw[Zw (n:=x*16777216) (by omega) (by omega),Zw (n:=y*65536) (by omega) (by omega),Zw (n:=x*16777216+y*65536) (by omega) (by omega),Zw (n:=z*256) (by omega) (by omega),Zw (n:=x*16777216+y*65536+z*256) (by omega) (by omega),Zw (n:=x*16777216+y*65536+z*256+u) (by omega) (by omega)]
   exact⟨_,_,rfl,k4,Int.tmod_nonneg n (by omega),fun hn=>Int.tmod_lt_of_pos _ hn⟩
theorem Q6t(c:Qe)(l:List Int)(h:Y3 c)(hl:0<l.length): ∃x c',Vq c l=some ((x,()),(c',()))∧Y3 c'∧x∈l:=by
 unfold Vq
 obtain⟨x,c1,e1,k1,b1,b2⟩:=Zvi c (l.length:Int) h
 have b2:=b2 (by omega)
 rw[e1,Option.bind_some]
 simp only[]
 rw[Zb ⟨b1,b2⟩]
 refine⟨_,_,rfl,k1,?_⟩
 have hx:x.toNat<l.length:=by omega
 rw[List.getD_eq_getElem?_getD,List.getElem?_eq_getElem hx]
 exact List.getElem_mem hx
def Zf8(r:Ze):Bool:=(decide (r.1≥(0:Int))&&decide (r.1<r.2.1))&&decide (r.2.1≤(4611686018427387903:Int))
theorem Z0j(r:Ze):Ztq r=some (Zf8 r,()):=rfl
theorem Q6{r:Ze}:Zf8 r=true↔0≤r.1∧r.1<r.2.1∧r.2.1≤4611686018427387903:=by
 unfold Zf8;simp;omega
def rsB:Int→List Ze→Bool
 |_,[]=>true
 |lo,r::l=>Zf8 r&&decide (lo<r.1)&&rsB r.2.1 l
theorem Z8q: ∀(N:Nat) (pre rest:List Ze) (lo:Int),(pre++rest).length≤8000000000→rest.length<N→(pre=[]→lo<0)→(∀q x,pre=q++ [x]→lo=x.2.1)→
  Wi N (pre++rest) (pre.length:Int)=some (rsB lo rest,())
 |0,_,_,_,_,h,_,_=>by omega
 |N+1,pre,[],lo,hl,hN,h0,h1=>by
  unfold Wi
  rw[Zi (by simp)];rfl
 |N+1,pre,r::rest,lo,hl,hN,h0,h1=>by
  have hlen: (pre++r::rest).length=pre.length+rest.length+1:=by simp;omega
  simp only[List.length_cons]at hN
  unfold Wi
  rw[Zn (Zk (by rw[hlen];omega)),Zb (by rw[hlen];omega),Wt,Z0j,Option.bind_some]
  have ih:=Z8q N (pre++ [r]) rest r.2.1 (by simp;omega) (by omega) (by simp) (fun q x e=>by
   have:=List.append_inj' e rfl
   simp only[List.cons.injEq,and_true]at this
   rw[this.2])
  have e0: ((pre++ [r]).length:Int)=((pre.length+1:Nat):Int):=by simp
  rw[e0]at ih
  rw[show(pre++ [r])++rest=pre++r::rest by simp]at ih
  rw[Zb (fun _ h=>by
   have: (pre.length:Int)>0:=by simpa using h
   rw[Zw (by omega) (by omega),hlen];omega),Zb (fun _ _=>by rw[hlen];omega),Zq (m:=pre.length+1) (by omega) (by omega),ih]
  simp only[rsB]
  cases hf:Zf8 r
  ·rfl
  ·rcases List.eq_nil_or_concat pre with hp| ⟨q,x,hp⟩
   ·subst hp
    have hlo:=h0 rfl
    have hr:=Q6.1 hf
    rw[Zi (by simp)]
    rw[show decide (lo<r.1)=true from Zk (by omega)]
    simp
   ·rw[List.concat_eq_append]at hp
    have hlo:=h1 q x hp
    have hg: (pre++r::rest).getD (IntKind.i64.wrap ((pre.length:Int)-1)).toNat Zz=x:=by
     rw[Zw (by omega) (by omega)]
     have e: ((pre.length:Int)-1).toNat=q.length:=by rw[hp];simp
     rw[e,hp,List.append_assoc]
     exact Wt q x ([r]++rest) Zz
    rw[hg,←hlo]
    have hpos:decide ((pre.length:Int)>0)=true:=Zk (by rw[hp];simp)
    rw[hpos]
    by_cases hc:lo<r.1
    ·rw[Zi (by simp;omega),Zk hc];simp
    ·rw[Zn (by simp;omega),Zj hc];simp
theorem Zyc(l:List Ze)(hl:l.length≤8000000000):Y7 l=some (rsB (-1) l,()):=by
 unfold Y7
 exact Z8q _ [] l (-1) (by simpa using hl) (by unfold Za5;omega) (fun _=>by omega) (fun q x e=>by simp at e)
theorem Vn{lo:Int}{r:Ze}{l:List Ze}:rsB lo (r::l)=true↔Zf8 r=true∧lo<r.1∧rsB r.2.1 l=true:=by
 simp only[rsB,Bool.and_eq_true,decide_eq_true_eq,and_assoc]
theorem Qtz: ∀{l:List Ze} {lo lo':Int},rsB lo l=true→lo'≤lo→rsB lo' l=true
 | [],_,_,_,_=>rfl
 |r::l,lo,lo',h,hl=>by
  rw[Vn]at h⊢
  exact⟨h.1,by omega,h.2.2⟩
theorem Zxg: ∀{l:List Ze} {lo:Int},rsB lo l=true→ ∀x∈l,lo<x.1∧Zf8 x=true
 | [],_,_,x,hx=>by cases hx
 |r::l,lo,h,x,hx=>by
  rw[Vn]at h
  have hf:=Q6.1 h.1
  rcases List.mem_cons.1 hx with rfl|hx
  ·exact⟨h.2.1,h.1⟩
  ·have:=Zxg h.2.2 x hx
   exact⟨by omega,this.2⟩
theorem Q4h: ∀{l:List Ze} {lo E:Int},rsB lo l=true→(∀x∈l,x.2.1≤E)→lo≤E→(l.length:Int)≤E-lo
 | [],lo,E,_,_,hE=>by simp;omega
 |r::l,lo,E,h,hE,_=>by
  rw[Vn]at h
  have hf:=Q6.1 h.1
  have:=Q4h (E:=E) h.2.2 (fun x hx=>hE x (by simp[hx])) (hE r (by simp))
  simp only[List.length_cons];omega
def Znt:List Ze→Ze→List Ze
 | [],r=>[r]
 |x::l,r=>if x.2.1<r.1 then x::Znt l r else if x.1>r.2.1 then r::x::l else Znt l (min r.1 x.1,max r.2.1 x.2.1,())
theorem Qx8(l:List Ze)(hl:l.length≤8000000000):Zgx l=some (l,()):=by
 unfold Zgx
 rw[Zb (by unfold Qp;simp;omega)]
 simp
theorem Qli: ∀(N:Nat) (pre rest:List Ze) (r:Ze) (out:List Ze),(pre++rest).length≤8000000000→rest.length<N→out.length≤pre.length+1→r.1<r.2.1→(∀x∈rest,r.2.1<x.1∧x.1<x.2.1)→
  Yj N (pre++rest) r out true (pre.length:Int)=some (out++rest,())
 |0,_,_,_,_,_,h,_,_,_=>by omega
 |N+1,pre,[],r,out,hl,hN,ho,hr,hx=>by
  unfold Yj
  rw[Zi (by simp)];simp
 |N+1,pre,x::rest,r,out,hl,hN,ho,hr,hx=>by
  have hlen: (pre++x::rest).length=pre.length+rest.length+1:=by simp;omega
  simp only[List.length_cons]at hN
  have hxx:=hx x (by simp)
  unfold Yj
  rw[Zn (Zk (by rw[hlen];omega)),Zb (by rw[hlen];omega),Wt,Zi (Zj (by omega)),Zb (by rw[hlen];omega),Zn (Zk (by omega)),Zi (by rfl)]
  unfold Zhy We
  rw[Zb (by rw[hlen];omega),Wt,Zb (by unfold Qp;simp;omega),Zq (m:=pre.length+1) (by omega) (by omega)]
  have ih:=Qli N (pre++ [x]) rest r (out++ [x]) (by simp;omega) (by omega) (by simp;omega) hr (fun y hy=>hx y (by simp[hy]))
  rw[show(pre++ [x])++rest=pre++x::rest by simp,show((pre++ [x]).length:Int)=((pre.length+1:Nat):Int) by simp]at ih
  simp only[ih]
  simp
theorem Qhj: ∀(N:Nat) (pre rest:List Ze) (r:Ze) (out:List Ze) (lo:Int),(pre++rest).length≤8000000000→rest.length<N→out.length≤pre.length→r.1<r.2.1→rsB lo rest=true→
  Yj N (pre++rest) r out false (pre.length:Int)=some (out++Znt rest r,())
 |0,_,_,_,_,_,_,h,_,_,_=>by omega
 |N+1,pre,[],r,out,lo,hl,hN,ho,hr,hx=>by
  simp only[List.append_nil]at hl
  unfold Yj
  rw[Zi (by simp),Zn (by rfl),Zb (by unfold Qp;simp;omega)];rfl
 |N+1,pre,x::rest,r,out,lo,hl,hN,ho,hr,hx=>by
  have hlen: (pre++x::rest).length=pre.length+rest.length+1:=by simp;omega
  simp only[List.length_cons]at hN
  obtain⟨hf,hlo,hrest⟩:=Vn.1 hx
  have hf:=Q6.1 hf
  unfold Yj
  rw[Zn (Zk (by rw[hlen];omega)),Zb (by rw[hlen];omega),Wt]
  have es: (pre++ [x])++rest=pre++x::rest:=by simp
  have el: ((pre++ [x]).length:Int)=((pre.length+1:Nat):Int):=by simp
  by_cases h1:x.2.1<r.1
  ·rw[Zn (Zk h1),Zb (by rw[hlen];omega),Zb (by unfold Qp;simp;omega)]
   unfold We
   have ih:=Qhj N (pre++ [x]) rest r (out++ [x]) _ (by simp;omega) (by omega) (by simp;omega) hr hrest
   rw[es,el]at ih
   rw[Zq (m:=pre.length+1) (by omega) (by omega)]
   simp only[ih,Znt,h1,if_true]
   simp
  ·rw[Zi (Zj h1),Zb (by rw[hlen];omega)]
   by_cases h2:x.1>r.2.1
   ·rw[Zn (Zk h2),Zn (by rfl),Zb (by unfold Qp;simp;omega)]
    unfold Zhy We
    rw[Zb (by rw[hlen];omega),Wt,Zb (by unfold Qp;simp;omega),Zq (m:=pre.length+1) (by omega) (by omega)]
    have ih:=Qli N (pre++ [x]) rest r (out++ [r]++ [x]) (by simp;omega) (by omega) (by simp;omega) hr (fun y hy=>by
     have:=Zxg hrest y hy
     have:=Q6.1 this.2
     omega)
    rw[es,el]at ih
    simp only[ih,Znt,h1,h2,if_true,if_false]
    simp
   ·rw[Zi (Zj h2),Zb (by rw[hlen];omega),Zb (by rw[hlen];omega)]
    unfold We
    have ih:=Qhj N (pre++ [x]) rest (min r.1 x.1,(max r.2.1 x.2.1,r.2.2)) out _ (by simp;omega) (by omega) (by simp;omega) (by simp only;omega) hrest
    rw[es,el]at ih
    rw[Zq (m:=pre.length+1) (by omega) (by omega)]
    simp only[ih,Znt,h1,h2,if_false]
theorem Qv0(l:List Ze)(r:Ze)(hl:l.length≤8000000000):Jm l r=some (if rsB (-1) l=true∧Zf8 r=true then Znt l r else l,()):=by
 unfold Jm
 rw[Zyc l (by omega),Option.bind_some]
 cases h1:rsB (-1) l
 ·simp[Qx8 l (by omega)]
 ·simp only[Bool.not_true,cond_false,Z0j,Option.bind_some,Bool.false_or]
  cases h2:Zf8 r
  ·simp[Qx8 l (by omega)]
  ·have hf:=Q6.1 h2
   have:=Qhj (Zfi l r [] false 0) [] l r [] (-1) (by simpa using hl) (by unfold Zfi;omega) (by simp) (by omega) h1
   simp only[Bool.not_true,cond_false,and_self,if_true]
   exact this
def RL(E:Int)(l:List Ze):Prop:=rsB (-1) l=true∧ ∀x∈l,x.2.1≤E
theorem Qo9: ∀{l:List Ze} {lo:Int} {r:Ze},rsB lo l=true→Zf8 r=true→lo<r.1→rsB lo (Znt l r)=true
 | [],lo,r,_,h2,h3=>by simp[Znt,rsB,h2,h3]
 |x::l,lo,r,h1,h2,h3=>by
  obtain⟨hf,hlo,hrest⟩:=Vn.1 h1
  have hx:=Q6.1 hf
  have hr:=Q6.1 h2
  unfold Znt
  split
  ·exact Vn.2 ⟨hf,hlo,Qo9 hrest h2 (by omega)⟩
  ·split
   ·exact Vn.2 ⟨h2,h3,Vn.2 ⟨hf,by omega,hrest⟩⟩
   ·exact Qo9 (Qtz hrest (by omega)) (Q6.2 (by simp only;omega)) (by simp only;omega)
theorem Qhi{E:Int}: ∀{l:List Ze} {r:Ze},(∀x∈l,x.2.1≤E)→r.2.1≤E→ ∀x∈Znt l r,x.2.1≤E
 | [],r,_,h,x,hx=>by simp[Znt]at hx;subst hx;exact h
 |y::l,r,hl,h,x,hx=>by
  have hy:=hl y (by simp)
  have hl': ∀x∈l,x.2.1≤E:=fun x hx=>hl x (by simp[hx])
  unfold Znt at hx
  split at hx
  ·rcases List.mem_cons.1 hx with rfl|hx
   ·exact hy
   ·exact Qhi hl' h x hx
  ·split at hx
   ·rcases List.mem_cons.1 hx with rfl|hx
    ·exact h
    ·exact hl x hx
   ·exact Qhi hl' (by simp only;omega) x hx
theorem Qco: ∀{l:List Ze} {r:Ze},(Znt l r).length≤l.length+1
 | [],r=>by simp[Znt]
 |y::l,r=>by
  unfold Znt
  split
  ·have:=Qco (l:=l) (r:=r);simp only[List.length_cons];omega
  ·split
   ·simp
   ·have:=Qco (l:=l) (r:=(min r.1 y.1,max r.2.1 y.2.1,()));simp only[List.length_cons];omega
theorem Zxn{E:Int}{l:List Ze}{r:Ze}(h:RL E l)(hr:r.2.1≤E):RL E (if rsB (-1) l=true∧Zf8 r=true then Znt l r else l):=by
 split
 ·rename_i hc
  have:=Q6.1 hc.2
  exact⟨Qo9 hc.1 hc.2 (by omega),Qhi h.2 hr⟩
 ·exact h
theorem Qo8{E E':Int}{l:List Ze}(h:RL E l)(he:E≤E'):RL E' l:=⟨h.1,fun x hx=>Int.le_trans (h.2 x hx) he⟩
theorem Xa9{E:Int}{l:List Ze}(h:RL E l)(hE: -1≤E): (l.length:Int)≤E+1:=by
 have:=Q4h h.1 h.2 hE;omega
theorem Zl2(l:List Ze)(hl:l.length≤1048576):Y7 l=some (rsB (-1) l,()):=Zyc l (by omega)
theorem Qss(l:List Ze)(hl:l.length≤1048576):Zgx l=some (l,()):=Qx8 l (by omega)
theorem Zn5(l:List Ze)(r:Ze)(hl:l.length≤1048576):Jm l r=some (if rsB (-1) l=true∧Zf8 r=true then Znt l r else l,()):=Qv0 l r (by omega)
def Q1t(r x:Ze):List Ze:=(if x.1<min x.2.1 r.1 then[(x.1,min x.2.1 r.1,())]else[])++ (if max x.1 r.2.1<x.2.1 then[(max x.1 r.2.1,x.2.1,())]else[])
def Qkj(r:Ze):List Ze→List Ze
 | []=>[]
 |x::l=>Q1t r x++Qkj r l
theorem Xda(r x:Ze): (Q1t r x).length≤2:=by unfold Q1t;split<;>split<;>simp
theorem Qkk: ∀(N:Nat) (pre rest:List Ze) (r:Ze) (out:List Ze),(pre++rest).length≤1048576→rest.length<N→out.length≤2*pre.length→
  Kt N (pre++rest) r out (pre.length:Int)=some (out++Qkj r rest,())
 |0,_,_,_,_,_,h,_=>by omega
 |N+1,pre,[],r,out,hl,hN,ho=>by
  unfold Kt
  rw[Zi (by simp)];simp[Qkj]
 |N+1,pre,x::rest,r,out,hl,hN,ho=>by
  have hlen: (pre++x::rest).length=pre.length+rest.length+1:=by simp;omega
  simp only[List.length_cons]at hN
  have g: ∀{ρ:Type} (m:Option ρ),Zc (0≤(pre.length:Int)∧(pre.length:Int)< ((pre++x::rest).length:Int)) m=m:=fun m=>Zb (by rw[hlen];omega)
  have es: (pre++ [x])++rest=pre++x::rest:=by simp
  have el: ((pre++ [x]).length:Int)=((pre.length+1:Nat):Int):=by simp
  have j2: ∀out1:List Ze,out1.length≤2*pre.length+1→Zde (fun v=>Kt N v.1 v.2.1 v.2.2.1 v.2.2.2.1) (pre++x::rest) r out1 (pre.length:Int)=some (out1++ (if max x.1 r.2.1<x.2.1 then[(max x.1 r.2.1,x.2.1,())]else[])++Qkj r rest,()):=by
   intro out1 ho1
   unfold Zde Zhh
   simp only[g,Wt]
   rw[Zq (m:=pre.length+1) (by omega) (by omega)]
   by_cases h:max x.1 r.2.1<x.2.1
   ·rw[Zn (Zk h),if_pos h,Zb (by unfold Qp;simp;omega)]
    have ih:=Qkk N (pre++ [x]) rest r (out1++ [(max x.1 r.2.1,x.2.1,())]) (by simp;omega) (by omega) (by simp;omega)
    rw[es,el]at ih
    simp only[ih]
   ·rw[Zi (Zj h),if_neg h]
    have ih:=Qkk N (pre++ [x]) rest r out1 (by simp;omega) (by omega) (by simp;omega)
    rw[es,el]at ih
    simp only[ih];simp
  unfold Kt
  rw[Zn (Zk (by rw[hlen];omega))]
  simp only[g,Wt]
  by_cases h:x.1<min x.2.1 r.1
  ·rw[Zn (Zk h),Zb (by unfold Qp;simp;omega),j2 _ (by simp;omega)]
   simp[Qkj,Q1t,h]
  ·rw[Zi (Zj h),j2 _ (by omega)]
   simp[Qkj,Q1t,h]
theorem Z4n(l:List Ze)(r:Ze)(hl:l.length≤1048576):Zd9 l r=some (if rsB (-1) l=true∧Zf8 r=true then Qkj r l else l,()):=by
 unfold Zd9
 rw[Zl2 l hl,Option.bind_some]
 cases h1:rsB (-1) l
 ·simp[Qss l hl]
 ·simp only[Bool.not_true,cond_false,Z0j,Option.bind_some,Bool.false_or]
  cases h2:Zf8 r
  ·simp[Qss l hl]
  ·have:=Qkk (Zbr l r [] 0) [] l r [] (by simpa using hl) (by unfold Zbr;omega) (by simp)
   simp only[Bool.not_true,cond_false,and_self,if_true]
   exact this
theorem Q4e{r:Ze}(hr:Zf8 r=true): ∀{l:List Ze} {lo:Int},rsB lo l=true→rsB lo (Qkj r l)=true
 | [],lo,_=>rfl
 |x::l,lo,h1=>by
  obtain⟨hf,hlo,hrest⟩:=Vn.1 h1
  have hx:=Q6.1 hf
  have hr:=Q6.1 hr
  have ih:=fun lo' h=>Q4e (r:=r) (Q6.2 hr) (l:=l) (lo:=lo') (Qtz hrest h)
  unfold Qkj Q1t
  split<;>split
  ·simp only[List.cons_append,List.nil_append]
   exact Vn.2 ⟨Q6.2 (by simp only;omega),by simp only;omega,Vn.2 ⟨Q6.2 (by simp only;omega),by simp only;omega,ih _ (by simp only;omega)⟩⟩
  ·simp only[List.cons_append,List.nil_append]
   exact Vn.2 ⟨Q6.2 (by simp only;omega),by simp only;omega,ih _ (by simp only;omega)⟩
  ·simp only[List.cons_append,List.nil_append]
   exact Vn.2 ⟨Q6.2 (by simp only;omega),by simp only;omega,ih _ (by simp only;omega)⟩
  ·exact ih lo (by omega)
theorem Qws{E:Int}{r:Ze}: ∀{l:List Ze},(∀x∈l,x.2.1≤E)→ ∀x∈Qkj r l,x.2.1≤E
 | [],_,x,hx=>by simp[Qkj]at hx
 |y::l,hl,x,hx=>by
  have hy:=hl y (by simp)
  unfold Qkj Q1t at hx
  simp only[List.mem_append]at hx
  rcases hx with(hx|hx)|hx
  ·split at hx
   ·simp only[List.mem_singleton]at hx;subst hx;simp only;omega
   ·cases hx
  ·split at hx
   ·simp only[List.mem_singleton]at hx;subst hx;exact hy
   ·cases hx
  ·exact Qws (fun x hx=>hl x (by simp[hx])) x hx
theorem Q1l{E:Int}{l:List Ze}{r:Ze}(h:RL E l):RL E (if rsB (-1) l=true∧Zf8 r=true then Qkj r l else l):=by
 split
 ·rename_i hc
  exact⟨Q4e hc.2 hc.1,Qws h.2⟩
 ·exact h
def Qhs(a b:Ze):List Ze:=if max a.1 b.1<min a.2.1 b.2.1 then[(max a.1 b.1,min a.2.1 b.2.1,())]else[]
theorem Z85(K1: (List Ze×List Ze×List Ze×Int×Unit)→Option (List Ze×Unit))(a:List Ze)(i:Nat)(hi:i<a.length): ∀(N:Nat) (pre rest:List Ze) (out:List Ze),(pre++rest).length≤1000→rest.length<N→out.length+rest.length≤10000000000→
  Wg K1 N a (pre++rest) out (i:Int) (pre.length:Int)=K1 (a,pre++rest,out++rest.flatMap (Qhs (a.getD i Zz)),IntKind.i64.wrap ((i:Int)+1),())
 |0,_,_,_,_,h,_=>by omega
 |N+1,pre,[],out,hl,hN,ho=>by
  unfold Wg
  rw[Zi (by simp)];simp
 |N+1,pre,x::rest,out,hl,hN,ho=>by
  have hlen: (pre++x::rest).length=pre.length+rest.length+1:=by simp;omega
  simp only[List.length_cons]at hN ho
  have g: ∀{ρ:Type} (m:Option ρ),Zc (0≤(pre.length:Int)∧(pre.length:Int)< ((pre++x::rest).length:Int)) m=m:=fun m=>Zb (by rw[hlen];omega)
  have g2: ∀{ρ:Type} (m:Option ρ),Zc (0≤(i:Int)∧(i:Int)< (a.length:Int)) m=m:=fun m=>Zb (by omega)
  have es: (pre++ [x])++rest=pre++x::rest:=by simp
  have el: ((pre++ [x]).length:Int)=((pre.length+1:Nat):Int):=by simp
  unfold Wg
  rw[Zn (Zk (by rw[hlen];omega))]
  simp only[g,g2,Wt,J2]
  rw[show(i:Int).toNat=i from rfl]
  unfold Zmc Zgb
  simp only
  rw[Zq (m:=pre.length+1) (by omega) (by omega)]
  by_cases h:max (a.getD i Zz).1 x.1<min (a.getD i Zz).2.1 x.2.1
  ·rw[Zn (Zk h),Zb (by unfold Qp;simp;omega)]
   have ih:=Z85 K1 a i hi N (pre++ [x]) rest (out++ [(max (a.getD i Zz).1 x.1,min (a.getD i Zz).2.1 x.2.1,())]) (by simp;omega) (by omega) (by simp;omega)
   rw[es,el]at ih
   have hc:Qhs (a.getD i Zz) x=[(max (a.getD i Zz).1 x.1,min (a.getD i Zz).2.1 x.2.1,())]:=if_pos h
   rw[ih,List.flatMap_cons,hc,List.append_assoc]
  ·rw[Zi (Zj h)]
   have ih:=Z85 K1 a i hi N (pre++ [x]) rest out (by simp;omega) (by omega) (by omega)
   rw[es,el]at ih
   have hc:Qhs (a.getD i Zz) x=[]:=if_neg h
   rw[ih,List.flatMap_cons,hc,List.nil_append]
theorem Qzk(a b:Ze): (Qhs a b).length≤1:=by unfold Qhs;split<;>simp
theorem Z3q{α β:Type}{f:α→List β}{k:Nat}(hf: ∀x,(f x).length≤k): ∀l:List α,(l.flatMap f).length≤k*l.length
 | []=>by simp
 |x::l=>by
  have:=Z3q hf l
  have:=hf x
  rw[List.flatMap_cons,List.length_append,List.length_cons,Nat.mul_succ];omega
theorem Qqa(b:List Ze)(hb:b.length≤1000): ∀(N:Nat) (pre rest:List Ze) (out:List Ze),(pre++rest).length≤1048576→rest.length<N→out.length≤1000*pre.length→
  Jf N (pre++rest) b out (pre.length:Int)=some (out++ (if rsB (-1) (pre++rest)=true∧rsB (-1) b=true then rest.flatMap fun a=>b.flatMap (Qhs a)else[]),())
 |0,_,_,_,_,h,_=>by omega
 |N+1,pre,[],out,hl,hN,ho=>by
  unfold Jf
  simp
 |N+1,pre,x::rest,out,hl,hN,ho=>by
  have hlen: (pre++x::rest).length=pre.length+rest.length+1:=by simp;omega
  simp only[List.length_cons]at hN
  unfold Jf
  have hd:decide ((pre.length:Int)< ((pre++x::rest).length:Int))=true:=Zk (by rw[hlen];omega)
  rw[hd,Zl2 _ (by omega),Zl2 b (by omega)]
  simp only[cond_true,Option.bind_some,Bool.true_and]
  cases h1:rsB (-1) (pre++x::rest)
  ·simp
  cases h2:rsB (-1) b
  ·simp
  simp only[cond_true,Option.bind_some,Bool.and_self,and_self,if_true]
  have hx: (pre++x::rest).getD pre.length Zz=x:=Wt pre x rest Zz
  have h:=Z85 (fun v=>Jf N v.1 v.2.1 v.2.2.1 v.2.2.2.1) (pre++x::rest) pre.length (by rw[hlen];omega) (Zas (pre++x::rest) b out (pre.length:Int) 0) [] b out (by simpa using hb) (by unfold Zas;omega) (by omega)
  refine Eq.trans h ?_
  rw[hx,Zq (m:=pre.length+1) (by omega) (by omega)]
  have hfl:=Z3q (fun y=>Qzk x y) b
  have ih:=Qqa b hb N (pre++ [x]) rest (out++b.flatMap (Qhs x)) (by simp;omega) (by omega) (by rw[List.length_append,List.length_append];simp only[List.length_cons,List.length_nil];omega)
  rw[show(pre++ [x])++rest=pre++x::rest by simp,show((pre++ [x]).length:Int)=((pre.length+1:Nat):Int) by simp]at ih
  simp only[List.nil_append]
  rw[ih,h1,h2]
  simp
theorem Zzg(a b:List Ze)(ha:a.length≤1048576)(hb:b.length≤1000):Zck a b=some (if rsB (-1) a=true∧rsB (-1) b=true then a.flatMap fun x=>b.flatMap (Qhs x)else[],()):=by
 have:=Qqa b hb (Zar a b [] 0) [] a [] (by simpa using ha) (by unfold Zar;omega) (by simp)
 simpa[Zck]using this
noncomputable def Z8w(r:Kx):Bool:=match Zb7 r with|some (b,_)=>b|none=>false
theorem Qlz(r:Kx): ∀(N i:Nat),r.2.2.2.1.length≤1048576→r.2.2.2.1.length-i<N→i≤r.2.2.2.1.length→
  ∃b,Zet N r (i:Int)=some (b,())∧(b=true→ ∀j,i≤j→j<r.2.2.2.1.length→0≤r.2.2.2.1.getD j 0∧r.2.2.2.1.getD j 0≤255)
 |0,_,_,h,_=>by omega
 |N+1,i,hl,hN,hi=>by
  unfold Zet
  by_cases h:i<r.2.2.2.1.length
  ·rw[Zn (Zk (by omega)),Zb (by omega),show(i:Int).toNat=i from rfl]
   have e1:Zx (r.2.2.2.1.getD i 0) 0 255=some (decide (r.2.2.2.1.getD i 0≥0)&&decide (r.2.2.2.1.getD i 0≤255),()):=rfl
   rw[e1,Option.bind_some,Zq h (by omega)]
   obtain⟨b,h1,h2⟩:=Qlz r N (i+1) hl (by omega) (by omega)
   cases hc:decide (r.2.2.2.1.getD i 0≥0)&&decide (r.2.2.2.1.getD i 0≤255)
   ·exact⟨false,rfl,by simp⟩
   ·simp only[Bool.and_eq_true,decide_eq_true_eq]at hc
    refine⟨b,h1,fun hb j hj hj2=> ?_⟩
    by_cases e:j=i
    ·subst e;exact⟨hc.1,hc.2⟩
    ·exact h2 hb j (by omega) hj2
  ·rw[Zi (Zj (by omega))]
   exact⟨true,rfl,fun _ j hj hj2=>by omega⟩
theorem Qjb(r:Kx)(hl:r.2.2.2.1.length≤1048576):Zb7 r=some (Z8w r,())∧(Z8w r=true→(0<r.1∧r.1≤64)∧(r.2.2.2.1.length:Int)=r.1∧0≤r.2.1∧r.2.1≤r.2.2.1∧r.2.2.1-r.2.1≤r.1∧r.2.2.1≤4611686018427387903∧
  ∀j,j<r.2.2.2.1.length→0≤r.2.2.2.1.getD j 0∧r.2.2.2.1.getD j 0≤255):=by
 have key: ∃b,Zb7 r=some (b,())∧(b=true→(0<r.1∧r.1≤64)∧(r.2.2.2.1.length:Int)=r.1∧0≤r.2.1∧r.2.1≤r.2.2.1∧r.2.2.1-r.2.1≤r.1∧r.2.2.1≤4611686018427387903∧
   ∀j,j<r.2.2.2.1.length→0≤r.2.2.2.1.getD j 0∧r.2.2.2.1.getD j 0≤255):=by
  unfold Zb7 Zbu
  simp only[Option.bind_some]
  generalize hp: (((decide (r.1>(0:Int)))&& (decide (r.1≤(64:Int))))&& ((bits .and .i64 r.1 (IntKind.i64.wrap (r.1- (1:Int))))==(0:Int)))=p
  generalize hc: ((((((!p)|| ((r.2.2.2.1.length:Int) !=r.1))|| (decide (r.2.1< (0:Int))))|| (decide (r.2.2.1<r.2.1)))|| (decide ((IntKind.i64.wrap (r.2.2.1-r.2.1))>r.1)))|| (decide (r.2.2.1>(4611686018427387903:Int))))=c
  cases c
  ·simp only[Bool.or_eq_false_iff,Bool.not_eq_false',decide_eq_false_iff_not,bne_eq_false_iff_eq]at hc
   obtain⟨⟨⟨⟨⟨c1,c2⟩,c3⟩,c4⟩,c5⟩,c6⟩:=hc
   subst c1
   simp only[Bool.and_eq_true,decide_eq_true_eq]at hp
   rw[Zw (by omega) (by omega)]at c5
   obtain⟨b,h1,h2⟩:=Qlz r (Zaa r 0) 0 hl (by unfold Zaa;omega) (by omega)
   refine⟨b,h1,fun hb=>⟨⟨by omega,by omega⟩,by omega,by omega,by omega,by omega,by omega,fun j hj=>h2 hb j (by omega) hj⟩⟩
  ·exact⟨false,rfl,by simp⟩
 obtain⟨b,h1,h2⟩:=key
 have e:Z8w r=b:=by unfold Z8w;rw[h1]
 rw[e];exact⟨h1,h2⟩
theorem Q2r(r:Kx)(hl:r.2.2.2.1.length≤1048576):Zp9 r=some (r,()):=by
 unfold Zp9
 rw[Zb (by unfold Qp;simp;omega)]
 simp
theorem Qyy{x n:Int}(hx:0≤x)(hn:0<n):0≤Int.tmod x n∧Int.tmod x n<n:=by
 rw[Int.tmod_eq_emod_of_nonneg hx]
 exact⟨Int.emod_nonneg _ (by omega),Int.emod_lt_of_pos _ hn⟩
theorem Z5y(d:List UInt8)(r t4:Kx)(hr:0<r.1)(hE:0≤r.2.2.1)(hd:d.length≤1048576)(n:Nat)(hE2:r.2.2.1+n≤4611686018427387903)(hn:n≤d.length):
  ∀(N i:Nat) (x:Kx),(x.2.2.2.1.length:Int)=r.1→n-i<N→i≤n→
   ∃cs,Wz N d r t4 x (n:Int) (i:Int)=some ((x.1,x.2.1,IntKind.i64.wrap (r.2.2.1+n),cs,x.2.2.2.2),(n:Int),())∧cs.length=x.2.2.2.1.length
 |0,_,_,_,h,_=>by omega
 |N+1,i,x,hx,hN,hi=>by
  unfold Wz
  by_cases h:i<n
  ·have hm:=Qyy (x:=r.2.2.1+ (i:Int)) (n:=r.1) (by omega) hr
   rw[Zn (Zk (by omega)),Zb (by omega),Zw (by omega) (by omega)]
   simp only
   rw[Zb (by omega),Zb (by omega),Zq (m:=n) h (by omega)]
   obtain⟨cs,h1,h2⟩:=Z5y d r t4 hr hE hd n hE2 hn N (i+1) (x.1,(x.2.1,(x.2.2.1,(x.2.2.2.1.set (Int.tmod (r.2.2.1+ (i:Int)) r.1).toNat (IntKind.i64.wrap ((d.getD (i:Int).toNat 0).toNat:Int)),x.2.2.2.2)))) (by simp only[List.length_set];exact hx) (by omega) (by omega)
   exact⟨cs,h1,by rw[h2];simp only[List.length_set]⟩
  ·have:i=n:=by omega
   subst this
   rw[Zi (Zj (by omega))]
   exact⟨x.2.2.2.1,rfl,rfl⟩
theorem Qw6(r:Kx)(d:List UInt8)(hl:r.2.2.2.1.length≤1048576)(hd:d.length≤1048576)(hE:0≤r.2.2.1)(hE2:r.2.2.1≤4611686018427387903):
  ∃cs,∃n:Nat,Zri r d=some ((r.1,r.2.1,r.2.2.1+n,cs,()),(n:Int),())∧n≤d.length∧cs.length=r.2.2.2.1.length∧r.2.2.1+n≤4611686018427387903:=by
 obtain⟨h1,h2⟩:=Qjb r hl
 unfold Zri Z5i
 rw[Q2r r hl,h1]
 simp only[Option.bind_some]
 cases hb:Z8w r
 ·simp only[Bool.not_false,cond_true,Option.bind_some]
  rw[show min (0:Int) (d.length:Int)=0 by omega]
  refine⟨r.2.2.2.1,0,?_,by omega,rfl,by simpa using hE2⟩
  show Wz 1 d r _ r 0 0=_
  unfold Wz
  rw[Zi (by decide)]
  rw[Zw (by omega) (by omega)]
  simp
 ·obtain⟨⟨a1,a2⟩,a3,a4,a5,a6,a7,a8⟩:=h2 hb
  simp only[Bool.not_true,cond_false,Option.bind_some]
  rw[show IntKind.i64.wrap (r.2.2.1-r.2.1)=r.2.2.1-r.2.1 from Zw (by omega) (by omega),Zw (by omega) (by omega),Zw (by omega) (by omega)]
  obtain⟨n,hn⟩: ∃n:Nat,min (min (r.1- (r.2.2.1-r.2.1)) (4611686018427387903-r.2.2.1)) (d.length:Int)=(n:Int):=⟨(min (min (r.1- (r.2.2.1-r.2.1)) (4611686018427387903-r.2.2.1)) (d.length:Int)).toNat,by omega⟩
  rw[hn]
  obtain⟨cs,k1,k2⟩:=Z5y d r ((0:Int),((0:Int),((0:Int),(([]:List Int),())))) a1 hE hd n (by omega) (by omega) (Zdm d r ((0:Int),((0:Int),((0:Int),(([]:List Int),())))) r (n:Int) 0) 0 r a3 (by unfold Zdm;omega) (by omega)
  refine⟨cs,n,?_,by omega,k2,by omega⟩
  refine Eq.trans k1 ?_
  rw[Zw (by omega) (by omega)]
theorem Q2q(n:Int): ∃s,Zp8 n=some (s,())∧s.length≤1:=by
 unfold Zp8 Zsc
 generalize bits .and .i64 n (255:Int)=m
 rw[show Zx 1 1 7=some (true,())from rfl]
 simp only[Option.bind_some,Bool.not_true,Bool.false_or]
 by_cases h:m<0
 ·rw[Zn (Zk h)];exact⟨[],rfl,by simp⟩
 ·rw[Zi (Zj h)]
  show ∃s,Option.bind (W5 2 m 1 [] 0) _=_∧_
  unfold W5
  rw[Zn (by decide),Zb (by decide)]
  simp only
  rw[Zb (by unfold Z8 Ws;simp),Zb (by decide)]
  unfold W5
  rw[show IntKind.i64.wrap ((0:Int)+1)=1 from rfl,Zi (by decide)]
  cases decide (IntKind.i64.wrap (Int.tdiv m 256)>0)
  ·exact⟨_,rfl,by simp[Ws]⟩
  ·exact⟨_,rfl,by simp⟩
theorem Z8s(o n:Nat)(r:Kx)(hr:0<r.1)(hl: (r.2.2.2.1.length:Int)=r.1)(ho:o+n≤4611686018427387903)(hn:n≤64): ∀(N i:Nat) (s:List UInt8),n-i<N→i≤n→s.length≤i→
  ∃t,Zig N (o:Int) (n:Int) r s (i:Int)=some (t,true,())∧t.length≤n
 |0,_,_,h,_,_=>by omega
 |N+1,i,s,hN,hi,hs=>by
  unfold Zig
  by_cases h:i<n
  ·have hm:=Qyy (x:=(o:Int)+ (i:Int)) (n:=r.1) (by omega) hr
   rw[Zn (Zk (by omega)),Zb (by omega),Zw (by omega) (by omega)]
   simp only
   rw[Zb (by omega)]
   obtain⟨t,h1,h2⟩:=Q2q (r.2.2.2.1.getD (Int.tmod ((o:Int)+ (i:Int)) r.1).toNat 0)
   rw[h1,Option.bind_some,Zb (by unfold Z8;simp only;omega),Zq (m:=n) h (by omega)]
   exact Z8s o n r hr hl ho hn N (i+1) (s++t) (by omega) (by omega) (by simp;omega)
  ·rw[Zi (Zj (by omega))]
   exact⟨s,rfl,by omega⟩
theorem Q73(r:Kx)(o n:Int)(hl:r.2.2.2.1.length≤1048576): ∃t ok,Zs0 r o n=some (t,ok,())∧(t.length:Int)≤max n 0∧t.length≤64:=by
 obtain⟨h1,h2⟩:=Qjb r hl
 unfold Zs0
 rw[h1,Option.bind_some]
 generalize hc: (((((!Z8w r)|| (decide (o<r.2.1)))|| (decide (n< (0:Int))))|| (decide (o>r.2.2.1)))|| (decide (n>(IntKind.i64.wrap (r.2.2.1-o)))))=c
 cases c
 ·simp only[Bool.or_eq_false_iff,Bool.not_eq_false',decide_eq_false_iff_not]at hc
  obtain⟨⟨⟨⟨c1,c2⟩,c3⟩,c4⟩,c5⟩:=hc
  obtain⟨⟨a1,a2⟩,a3,a4,a5,a6,a7,a8⟩:=h2 c1
  rw[Zw (by omega) (by omega)]at c5
  obtain⟨o,rfl⟩:=Int.eq_ofNat_of_zero_le (a:=o) (by omega)
  obtain⟨n,rfl⟩:=Int.eq_ofNat_of_zero_le (a:=n) (by omega)
  obtain⟨t,k1,k2⟩:=Z8s o n r a1 a3 (by omega) (by omega) (Zfl (o:Int) (n:Int) r [] 0) 0 [] (by unfold Zfl;omega) (by omega) (by simp)
  exact⟨t,true,k1,by omega,by omega⟩
 ·exact⟨[],false,rfl,by simp;omega,by simp⟩
theorem Z8m(dt:Nat)(r t4:Kx)(hr:0<r.1)(hdt:dt≤4611686018427387903): ∀(N i:Nat) (x:Kx),(x.2.2.2.1.length:Int)=r.1→dt-i<N→i≤dt→
  ∃cs,Zh1 N (dt:Int) r t4 x (i:Int)=some ((x.1,(dt:Int),x.2.2.1,cs,x.2.2.2.2),true,())∧cs.length=x.2.2.2.1.length
 |0,_,_,_,h,_=>by omega
 |N+1,i,x,hx,hN,hi=>by
  unfold Zh1
  by_cases h:i<dt
  ·have hm:=Qyy (x:=(i:Int)) (n:=r.1) (by omega) hr
   rw[Zn (Zk (by omega)),Zb (by omega),Zb (by omega),Zq (m:=dt) h (by omega)]
   obtain⟨cs,h1,h2⟩:=Z8m dt r t4 hr hdt N (i+1) (x.1,(x.2.1,(x.2.2.1,(x.2.2.2.1.set (Int.tmod (i:Int) r.1).toNat (0:Int),x.2.2.2.2)))) (by simp only[List.length_set];exact hx) (by omega) (by omega)
   exact⟨cs,h1,by rw[h2];simp only[List.length_set]⟩
  ·have:i=dt:=by omega
   subst this
   rw[Zi (Zj (by omega))]
   exact⟨x.2.2.2.1,rfl,rfl⟩
theorem Q6y(r:Kx)(dt:Int)(hl:r.2.2.2.1.length≤1048576): ∃cs b ok,Zkz r dt=some ((r.1,b,r.2.2.1,cs,()),ok,())∧cs.length=r.2.2.2.1.length:=by
 obtain⟨h1,h2⟩:=Qjb r hl
 unfold Zkz
 rw[Q2r r hl,h1]
 simp only[Option.bind_some]
 generalize hc: (((!Z8w r)|| (decide (dt<r.2.1)))|| (decide (dt>r.2.2.1)))=c
 cases c
 ·simp only[Bool.or_eq_false_iff,Bool.not_eq_false',decide_eq_false_iff_not]at hc
  obtain⟨⟨c1,c2⟩,c3⟩:=hc
  obtain⟨⟨a1,a2⟩,a3,a4,a5,a6,a7,a8⟩:=h2 c1
  obtain⟨dt,rfl⟩:=Int.eq_ofNat_of_zero_le (a:=dt) (by omega)
  obtain⟨bs,hbs⟩:=Int.eq_ofNat_of_zero_le (a:=r.2.1) (by omega)
  obtain⟨cs,k1,k2⟩:=Z8m dt r ((0:Int),((0:Int),((0:Int),(([]:List Int),())))) a1 (by omega) (Zfj (dt:Int) r ((0:Int),((0:Int),((0:Int),(([]:List Int),())))) r r.2.1) bs r a3 (by unfold Zfj;omega) (by omega)
  rw[←hbs]at k1
  exact⟨cs,dt,true,k1,k2⟩
 ·exact⟨r.2.2.2.1,r.2.1,false,rfl,rfl⟩
def Z6y:List Ze→Int→Int
 | [],f=>f
 |x::l,f=>Z6y l (if x.1≤f∧f<x.2.1 then x.2.1 else f)
theorem Qv7: ∀(N:Nat) (pre rest:List Ze) (f:Int),(pre++rest).length≤1048576→rest.length<N→Jt N (pre++rest) f (pre.length:Int)=some (Z6y rest f,())
 |0,_,_,_,_,h=>by omega
 |N+1,pre,[],f,hl,hN=>by
  unfold Jt
  rw[Zi (by simp)];rfl
 |N+1,pre,x::rest,f,hl,hN=>by
  have hlen: (pre++x::rest).length=pre.length+rest.length+1:=by simp;omega
  simp only[List.length_cons]at hN
  have g: ∀{ρ:Type} (m:Option ρ),Zc (0≤(pre.length:Int)∧(pre.length:Int)< ((pre++x::rest).length:Int)) m=m:=fun m=>Zb (by rw[hlen];omega)
  have es: (pre++ [x])++rest=pre++x::rest:=by simp
  have el: ((pre++ [x]).length:Int)=((pre.length+1:Nat):Int):=by simp
  unfold Jt Zh4
  rw[Zn (Zk (by rw[hlen];omega))]
  simp only[g,Wt]
  rw[Zb (fun _=>by rw[hlen];omega),Zq (m:=pre.length+1) (by omega) (by omega)]
  have ih:=fun f=>Qv7 N (pre++ [x]) rest f (by simp;omega) (by omega)
  simp only[es,el]at ih
  by_cases h:x.1≤f∧f<x.2.1
  ·rw[Zn (by simp;omega),ih]
   simp only[Z6y];rw[if_pos h]
  ·rw[Zi (by rw[Bool.and_eq_false_iff,decide_eq_false_iff_not,decide_eq_false_iff_not];omega),ih]
   simp only[Z6y];rw[if_neg h]
theorem Qep(l:List Ze)(f:Int)(hl:l.length≤1048576):Zg1 l f=some (if rsB (-1) l=true∧0≤f then Z6y l f else-1,()):=by
 unfold Zg1
 rw[Zl2 l hl,Option.bind_some]
 cases h1:rsB (-1) l
 ·simp
 ·by_cases h2:f<0
  ·rw[Zn (by simp[h2]),if_neg (by omega)]
  ·rw[Zi (by simp;omega),if_pos ⟨rfl,by omega⟩]
   exact Qv7 _ [] l f (by simpa using hl) (by unfold Zk8;omega)
def Vt:List Ze→Int
 | []=>0
 |x::l=>(x.2.1-x.1)+Vt l
theorem Qzj: ∀(N:Nat) (pre rest:List Ze) (lo n:Int),(pre++rest).length≤1048576→rest.length<N→rsB lo rest=true→0≤n→n≤max lo 0→n≤4611686018427387903→Ka N (pre++rest) n (pre.length:Int)=some (n+Vt rest,())
 |0,_,_,_,_,_,h,_,_,_,_=>by omega
 |N+1,pre,[],lo,n,hl,hN,_,_,_,_=>by
  unfold Ka
  rw[Zi (by simp)];simp[Vt]
 |N+1,pre,x::rest,lo,n,hl,hN,hx,h0,h1,h2=>by
  have hlen: (pre++x::rest).length=pre.length+rest.length+1:=by simp;omega
  simp only[List.length_cons]at hN
  obtain⟨hf,hlo,hrest⟩:=Vn.1 hx
  have hf:=Q6.1 hf
  have g: ∀{ρ:Type} (m:Option ρ),Zc (0≤(pre.length:Int)∧(pre.length:Int)< ((pre++x::rest).length:Int)) m=m:=fun m=>Zb (by rw[hlen];omega)
  unfold Ka
  rw[Zn (Zk (by rw[hlen];omega))]
  simp only[g,Wt]
  rw[Zq (m:=pre.length+1) (by omega) (by omega),show IntKind.i64.wrap (n+x.2.1)=n+x.2.1 from Zw (by omega) (by omega),Zw (by omega) (by omega)]
  have ih:=Qzj N (pre++ [x]) rest x.2.1 (n+x.2.1-x.1) (by simp;omega) (by omega) hrest (by omega) (by omega) (by omega)
  rw[show(pre++ [x])++rest=pre++x::rest by simp,show((pre++ [x]).length:Int)=((pre.length+1:Nat):Int) by simp]at ih
  rw[ih]
  simp only[Vt]
  congr 2;omega
theorem Zbl(l:List Ze)(hl:l.length≤1048576):Kz l=some (if rsB (-1) l=true then Vt l else-1,()):=by
 unfold Kz
 rw[Zl2 l hl,Option.bind_some]
 cases h1:rsB (-1) l
 ·simp
 ·have:=Qzj (Zat l 0 0) [] l (-1) 0 (by simpa using hl) (by unfold Zat;omega) h1 (by omega) (by omega) (by omega)
  simp only[Bool.not_true,cond_false,if_true]
  refine Eq.trans this ?_
  simp
abbrev Xeu(s:Zs):Kx:=s.2.1
abbrev Q5w(s:Zs):Int:=s.2.1.2.2.1
structure Zbk(K:Int)(s:Zs):Prop where
 cells:s.2.1.2.2.2.1.length≤64
 e0:0≤s.2.1.2.2.1
 eK:s.2.1.2.2.1≤K
 pend:RL s.2.1.2.2.1 s.2.2.1
 flight:RL s.2.1.2.2.1 s.2.2.2.1
 acked:RL s.2.1.2.2.1 s.2.2.2.2.1
theorem Zbk.mono{K K':Int}{s:Zs}(h:Zbk K s)(hK:K≤K'):Zbk K' s:={h with eK:=Int.le_trans h.eK hK}
theorem Xm{E K:Int}{l:List Ze}(h:RL E l)(h0:0≤E)(hE:E≤K)(hK:K≤1000000):l.length≤1000001:=by
 have:=Xa9 h (by omega);omega
theorem Qu{α:Type}{l:List α}{i:Nat}{d:α}(h:i<l.length):l.getD i d∈l:=by
 rw[List.getD_eq_getElem?_getD,List.getElem?_eq_getElem h];exact List.getElem_mem h
theorem Zvq{K:Int}{s:Zs}(h:Zbk K s)(hK:K≤1000000):Zcc s=some (s,()):=by
 unfold Zcc
 rw[Q2r _ (by have:=h.cells;omega),Qss _ (Nat.le_trans (Xm h.pend h.e0 h.eK hK) (by omega)),Option.bind_some,Qss _ (Nat.le_trans (Xm h.flight h.e0 h.eK hK) (by omega)),Option.bind_some,Option.bind_some,Qss _ (Nat.le_trans (Xm h.acked h.e0 h.eK hK) (by omega)),Option.bind_some]
theorem Qey(s:Zs): ∃k,Vw s=some (k,()):=by
 unfold Vw
 cases (s.2.2.2.2.2.2.1==(3:Int))&& (s.2.1.2.1==s.2.1.2.2.1)
 ·cases (decide (s.2.2.2.2.2.2.1>(1:Int)))|| ((s.2.2.2.2.2.2.1==(1:Int))&& (s.1==(2:Int)))
  ·cases (decide (s.2.2.2.2.2.2.2.1>(0:Int)))|| ((s.2.2.2.2.2.2.1==(1:Int))&& (s.1==(1:Int)))<;>exact⟨_,rfl⟩
  ·exact⟨_,rfl⟩
 ·exact⟨_,rfl⟩
theorem Ql3(s:Zs)(hl:s.2.2.2.2.1.length≤1048576): ∀(N i:Nat),s.2.2.2.2.1.length-i<N→i≤s.2.2.2.2.1.length→ ∃b,Jz N s (i:Int)=some (b,())
 |0,_,h,_=>by omega
 |N+1,i,hN,hi=>by
  unfold Jz
  by_cases h:i<s.2.2.2.2.1.length
  ·rw[Zn (Zk (by omega)),Zb (by omega),Zq h (by omega)]
   cases decide ((s.2.2.2.2.1.getD (i:Int).toNat Zz).2.1>s.2.2.2.2.2.2.2.1)
   ·exact Ql3 s hl N (i+1) (by omega) (by omega)
   ·exact⟨_,rfl⟩
  ·rw[Zi (Zj (by omega))]
   obtain⟨k,hk⟩:=Qey s
   rw[hk]
   generalize ((!((s.2.2.2.2.2.2.1==(0:Int))==(s.2.2.2.2.2.1==(-1:Int))))|| ((s.2.2.2.2.2.1 !=(-1:Int))&& (s.2.2.2.2.2.1 !=s.2.1.2.2.1)))=c
   cases c<;>exact⟨_,rfl⟩
theorem Ql2(s:Zs)(hl:s.2.2.2.1.length≤1048576)(hl2:s.2.2.2.2.1.length≤1048576): ∀(N i:Nat),s.2.2.2.1.length-i<N→i≤s.2.2.2.1.length→ ∃b,Jy N s (i:Int)=some (b,())
 |0,_,h,_=>by omega
 |N+1,i,hN,hi=>by
  unfold Jy
  by_cases h:i<s.2.2.2.1.length
  ·rw[Zn (Zk (by omega)),Zb (by omega),Zq h (by omega)]
   cases decide ((s.2.2.2.1.getD (i:Int).toNat Zz).2.1>s.2.2.2.2.2.2.2.1)
   ·exact Ql2 s hl hl2 N (i+1) (by omega) (by omega)
   ·exact⟨_,rfl⟩
  ·rw[Zi (Zj (by omega))]
   exact Ql3 s hl2 _ 0 (by unfold Zfk;omega) (by omega)
theorem Qzi{l:List Ze}(h:Vt l≠0):0<l.length:=by
 cases l with
 |nil=>exact absurd rfl h
 |cons=>simp
theorem Ql1{K:Int}{s:Zs}(hs:Zbk K s)(hK:K≤1000000): ∀(N i:Nat) (all:List Ze),RL (Q5w s) all→s.2.2.2.2.1.length-i<N→i≤s.2.2.2.2.1.length→ ∃b,Jx N s all (i:Int)=some (b,())
 |0,_,_,_,h,_=>by omega
 |N+1,i,all,ha,hN,hi=>by
  have la:=Xm ha hs.e0 hs.eK hK
  have l1:=Xm hs.pend hs.e0 hs.eK hK
  have l2:=Xm hs.flight hs.e0 hs.eK hK
  have l3:=Xm hs.acked hs.e0 hs.eK hK
  unfold Jx
  by_cases h:i<s.2.2.2.2.1.length
  ·rw[Zn (Zk (by omega)),Zb (by omega),Zq h (by omega),Zn5 _ _ (by omega),Option.bind_some]
   exact Ql1 hs hK N (i+1) _ (Zxn ha (hs.acked.2 _ (Qu h))) (by omega) (by omega)
  ·rw[Zi (Zj (by omega)),Zbl _ (by omega),Zbl _ (by omega),Zbl _ (by omega),Zbl _ (by omega),Qep _ _ (by omega)]
   simp only[Option.bind_some,ha.1,if_true]
   rw[Zb (fun h1 h2=>by
    simp only[Bool.or_eq_false_iff,bne_eq_false_iff_eq,decide_eq_true_eq]at h1 h2
    have:=Qzi (l:=all) (by omega)
    omega)]
   generalize hc: ((Vt all !=s.2.1.2.2.1||_)||_)=c
   cases c
   ·simp only[cond_false,Option.bind_some]
    generalize ((false||_)||_)=c2
    cases c2
    ·exact Ql2 s (by omega) (by omega) _ 0 (by unfold Za7;omega) (by omega)
    ·exact⟨_,rfl⟩
   ·simp only[cond_true,Option.bind_some,Bool.true_or]
    exact⟨_,rfl⟩
theorem Ql0{K:Int}{s:Zs}(hs:Zbk K s)(hK:K≤1000000): ∀(N i:Nat) (all:List Ze),RL (Q5w s) all→s.2.2.2.1.length-i<N→i≤s.2.2.2.1.length→ ∃b,Jw N s all (i:Int)=some (b,())
 |0,_,_,_,h,_=>by omega
 |N+1,i,all,ha,hN,hi=>by
  have la:=Xm ha hs.e0 hs.eK hK
  have l2:=Xm hs.flight hs.e0 hs.eK hK
  unfold Jw
  by_cases h:i<s.2.2.2.1.length
  ·rw[Zn (Zk (by omega)),Zb (by omega),Zq h (by omega),Zn5 _ _ (by omega),Option.bind_some]
   exact Ql0 hs hK N (i+1) _ (Zxn ha (hs.flight.2 _ (Qu h))) (by omega) (by omega)
  ·rw[Zi (Zj (by omega))]
   exact Ql1 hs hK _ 0 all ha (by unfold Za6;omega) (by omega)
theorem Zft{K:Int}{s:Zs}(hs:Zbk K s)(hK:K≤1000000): ∃b,Yg s=some (b,())∧(b=true→Z8w s.2.1=true∧0≤s.2.2.2.2.2.2.2.1∧s.2.2.2.2.2.2.2.1≤s.2.1.2.2.1):=by
 have l1:=Xm hs.pend hs.e0 hs.eK hK
 have l2:=Xm hs.flight hs.e0 hs.eK hK
 have l3:=Xm hs.acked hs.e0 hs.eK hK
 have hr:=(Qjb s.2.1 (by have:=hs.cells;omega)).1
 obtain⟨b1,h1⟩:=Ql0 hs hK (Vi s s.2.2.1 0) 0 s.2.2.1 hs.pend (by unfold Vi;omega) (by omega)
 unfold Yg
 rw[hr,Zl2 _ (by omega),Zl2 _ (by omega),Zl2 _ (by omega)]
 have e1:Zx s.2.2.2.2.2.2.2.1 0 s.2.1.2.2.1=some (decide (s.2.2.2.2.2.2.2.1≥0)&&decide (s.2.2.2.2.2.2.2.1≤s.2.1.2.2.1),()):=rfl
 have e2:Qh s.2.2.2.2.2.2.2.2.1=some (decide (s.2.2.2.2.2.2.2.2.1≥0)&&decide (s.2.2.2.2.2.2.2.2.1≤4611686018427387903),()):=rfl
 have e3:Zx s.2.2.2.2.2.2.1 0 3=some (decide (s.2.2.2.2.2.2.1≥0)&&decide (s.2.2.2.2.2.2.1≤3),()):=rfl
 simp only[hs.pend.1,hs.flight.1,hs.acked.1,e1,e2,e3,Option.bind_some]
 cases Z8w s.2.1
 ·exact⟨false,rfl,by simp⟩
 simp only[Bool.not_true,cond_false,Option.bind_some,Bool.false_or]
 by_cases hsent:0≤s.2.2.2.2.2.2.2.1∧s.2.2.2.2.2.2.2.1≤s.2.1.2.2.1
 ·simp only[show decide (s.2.2.2.2.2.2.2.1≥0)=true from Zk (by omega),show decide (s.2.2.2.2.2.2.2.1≤s.2.1.2.2.1)=true from Zk hsent.2,Bool.and_self,Bool.not_true,cond_false,Option.bind_some,Bool.false_or]
  generalize (decide (s.2.2.2.2.2.2.2.2.1≥0)&&decide (s.2.2.2.2.2.2.2.2.1≤4611686018427387903))=c1
  generalize (decide (s.2.2.2.2.2.2.1≥0)&&decide (s.2.2.2.2.2.2.1≤3))=c2
  cases c1
  ·exact⟨false,rfl,by simp⟩
  cases c2
  ·exact⟨false,rfl,by simp⟩
  simp only[Bool.not_true,cond_false,Option.bind_some,Bool.or_self]
  generalize ((s.1==(4:Int))|| (s.1==(5:Int)))=c3
  cases c3
  ·exact⟨b1,h1,fun _=>⟨trivial,hsent.1,hsent.2⟩⟩
  ·exact⟨_,rfl,fun _=>⟨trivial,hsent.1,hsent.2⟩⟩
 ·have: (decide (s.2.2.2.2.2.2.2.1≥0)&&decide (s.2.2.2.2.2.2.2.1≤s.2.1.2.2.1))=false:=by
   rw[Bool.and_eq_false_iff,decide_eq_false_iff_not,decide_eq_false_iff_not];omega
  rw[this]
  exact⟨false,rfl,by simp⟩
theorem Qmn{K:Int}{s:Zs}(h:Zbk K s)(d:List UInt8)(hK:K+d.length≤1000000):
  ∃x n,Zbi s d=some (x,n,())∧Zbk (K+d.length) x:=by
 have h0:=h.e0
 have hcl:=h.cells
 have heK:=h.eK
 obtain⟨b,h1,-⟩:=Zft h (by omega)
 have lp:=Xm h.pend h0 heK (by omega)
 unfold Zbi
 rw[Zvq h (by omega),h1]
 simp only[Option.bind_some]
 generalize (((!b)|| (decide (s.1>(1:Int))))|| (s.2.2.2.2.2.1 !=(-1:Int)))=c
 cases c
 ·obtain⟨cs,n,k1,k2,k3,k4⟩:=Qw6 s.2.1 d (by omega) (by omega) h0 (by omega)
  rw[cond_false,k1,Option.bind_some]
  unfold Zdf
  have add:RL (s.2.1.2.2.1+n) s.2.2.2.1∧RL (s.2.1.2.2.1+n) s.2.2.2.2.1:=⟨Qo8 h.flight (by omega),Qo8 h.acked (by omega)⟩
  by_cases hn: (n:Int)>0
  ·rw[Zn (Zk hn),Zn5 _ _ (by omega),Option.bind_some]
   exact⟨_,_,rfl,{cells:=(by simp only;omega),e0:=(by simp only;omega),eK:=(by simp only;omega),pend:=Zxn (Qo8 h.pend (by simp only;omega)) (by simp only;omega),flight:=add.1,acked:=add.2}⟩
  ·rw[Zi (Zj hn)]
   exact⟨_,_,rfl,{cells:=(by simp only;omega),e0:=(by simp only;omega),eK:=(by simp only;omega),pend:=Qo8 h.pend (by simp only;omega),flight:=add.1,acked:=add.2}⟩
 ·exact⟨s,0,rfl,h.mono (by omega)⟩
theorem Qzh{K:Int}{s:Zs}(h:Zbk K s)(hK:K≤1000000): ∃x ok,Zna s=some (x,ok,())∧Zbk K x:=by
 obtain⟨b,h1,-⟩:=Zft h hK
 unfold Zna
 rw[Zvq h hK,h1]
 simp only[Option.bind_some]
 generalize (((!b)|| (decide (s.1>(1:Int))))|| (s.2.2.2.2.2.1 !=(-1:Int)))=c
 cases c
 ·exact⟨_,_,rfl,{cells:=h.cells,e0:=h.e0,eK:=h.eK,pend:=h.pend,flight:=h.flight,acked:=h.acked}⟩
 ·exact⟨s,false,rfl,h⟩
theorem Zk1(E:Int):RL E []:=⟨rfl,by simp⟩
theorem Qme{K:Int}{s:Zs}(h:Zbk K s)(code:Int)(hK:K≤1000000): ∃x ok,Zij s code=some (x,ok,())∧Zbk K x:=by
 have hcl:=h.cells
 have heK:=h.eK
 obtain⟨b,h1,h2⟩:=Zft h hK
 unfold Zij
 rw[h1]
 simp only[Option.bind_some]
 have e2:Qh code=some (decide (code≥0)&&decide (code≤4611686018427387903),()):=rfl
 rw[e2]
 cases b
 ·simp only[Bool.not_false,Bool.true_or,cond_true,Option.bind_some]
  rw[Zvq h hK]
  exact⟨s,false,rfl,h⟩
 ·obtain⟨hr,hs0,hsE⟩:=h2 rfl
  obtain⟨⟨a1,a2⟩,-⟩:=(Qjb s.2.1 (by omega)).2 hr
  simp only[Bool.not_true,Bool.false_or]
  generalize (decide (code≥0)&&decide (code≤4611686018427387903))=q
  cases decide (s.1>2)
  ·cases q
   ·simp only[cond_false,Option.bind_some,Bool.not_false,Bool.false_or,cond_true]
    rw[Zvq h hK]
    exact⟨s,false,rfl,h⟩
   ·simp only[cond_false,Option.bind_some,Bool.not_true,Bool.or_self,J2,Jb]
    rw[Zb (by unfold Qp;omega)]
    exact⟨_,_,rfl,{cells:=(by simp;omega),e0:=hs0,eK:=(by simp only;omega),pend:=Zk1 _,flight:=Zk1 _,acked:=Zk1 _}⟩
  ·simp only[cond_true,Option.bind_some,Bool.true_or]
   rw[Zvq h hK]
   exact⟨s,false,rfl,h⟩
theorem Q5j{K:Int}{s:Zs}(h:Zbk K s)(most limit:Int)(hK:K≤1000000): ∃p ok,Zrf s most limit=some (p,ok,())∧p.2.1.length≤64:=by
 have hcl:=h.cells
 obtain⟨b,h1,h2⟩:=Zft h hK
 unfold Zrf
 rw[h1]
 simp only[Option.bind_some]
 have j1: ∀t p8 r hi,∃p ok,Zgn s t p8 r hi=some (p,ok,())∧p.2.1.length≤64:=by
  intro t p8 r hi
  unfold Zgn
  by_cases hc:hi≤r.1
  ·rw[Zn (Zk hc)];exact⟨_,_,rfl,Nat.zero_le _⟩
  ·rw[Zi (Zj hc)]
   obtain⟨t,ok,k1,k2,k3⟩:=Q73 s.2.1 r.1 (IntKind.i64.wrap (hi-r.1)) (by omega)
   rw[k1,Option.bind_some]
   exact⟨_,_,rfl,k3⟩
 generalize ((!b)|| (decide (s.1>(2:Int))))=c
 cases c
 ·simp only[cond_false]
  by_cases hp: (s.2.2.1.length:Int)>0
  ·rw[Zn (Zk hp),Zb (by omega)]
   generalize decide (min (s.2.2.1.getD (0:Int).toNat Zz).2.1 limit≤(s.2.2.1.getD (0:Int).toNat Zz).1)=c1
   cases c1
   ·simp only[cond_false]
    generalize decide (most<IntKind.i64.wrap (min (s.2.2.1.getD (0:Int).toNat Zz).2.1 limit- (s.2.2.1.getD (0:Int).toNat Zz).1))=c2
    cases c2
    ·exact j1 Zrv _ _ _
    ·exact j1 Zrv _ _ _
   ·exact⟨_,_,rfl,Nat.zero_le _⟩
  ·rw[Zi (Zj hp)]
   cases s.2.2.2.2.2.2.1==(1:Int)
   ·exact⟨_,_,rfl,Nat.zero_le _⟩
   ·exact⟨_,_,rfl,Nat.zero_le _⟩
 ·exact⟨_,_,rfl,Nat.zero_le _⟩
theorem Qya(s:Zs)(p:Ku)(hE0:0≤s.2.1.2.2.1)(hE:s.2.1.2.2.1≤1000000): ∃b,Zrt s p=some (b,())∧(b=true→0≤p.1∧p.1+ (p.2.1.length:Int)≤s.2.1.2.2.1):=by
 refine⟨_,rfl,fun hb=> ?_⟩
 simp only[Bool.and_eq_true,decide_eq_true_eq]at hb
 obtain⟨⟨⟨b1,b2⟩,b3⟩,-⟩:=hb
 rw[Zw (by omega) (by omega)]at b3
 omega
theorem Qyb{p:Ku}(h0:0≤p.1)(h1:p.1+ (p.2.1.length:Int)≤1000000):Znm p=some ((p.1,p.1+ (p.2.1.length:Int),()),()):=by
 unfold Znm
 rw[Zw (by omega) (by omega)]
theorem Q5y{K:Int}{s:Zs}(h:Zbk K s)(p:Ku)(hK:K≤1000000): ∃x ok,Zrg s p=some (x,ok,())∧Zbk K x:=by
 have h0:=h.e0
 have heK:=h.eK
 have lp:=Xm h.pend h0 heK hK
 have lf:=Xm h.flight h0 heK hK
 obtain⟨b,h1,h2⟩:=Zft h hK
 obtain⟨b2,h3,h4⟩:=Qya s p h0 (by omega)
 have j2: ∀t x,Zbk K x→ ∃y ok,Zgq t x=some (y,ok,())∧Zbk K y:=by
  intro t x hx
  unfold Zgq
  obtain⟨k,hk⟩:=Qey x
  rw[hk]
  exact⟨_,_,rfl,{cells:=hx.cells,e0:=hx.e0,eK:=hx.eK,pend:=hx.pend,flight:=hx.flight,acked:=hx.acked}⟩
 have j1: ∀t x,Zbk K x→ ∃y ok,Zgp p t x=some (y,ok,())∧Zbk K y:=by
  intro t x hx
  unfold Zgp
  cases p.2.2.1
  ·exact j2 Zdt _ hx
  ·exact j2 Zdt _ {cells:=hx.cells,e0:=hx.e0,eK:=hx.eK,pend:=hx.pend,flight:=hx.flight,acked:=hx.acked}
 unfold Zrg
 rw[Zvq h hK,h1]
 simp only[Option.bind_some]
 generalize (((!b)|| (decide (s.1>(2:Int)))))=c0
 cases c0
 ·simp only[cond_false,h3,Option.bind_some,Bool.false_or]
  generalize hc: (((!b2)|| ((p.2.1==([]:List UInt8))&& (!p.2.2.1)))|| (p.2.2.1&& (s.2.2.2.2.2.2.1 !=(1:Int))))=c
  cases c
  ·simp only[Bool.or_eq_false_iff,Bool.not_eq_false']at hc
   obtain⟨a1,a2⟩:=h4 hc.1.1
   rw[cond_false]
   cases p.2.1==([]:List UInt8)
   ·simp only[Bool.not_false,cond_true]
    rw[Qyb a1 (by omega),Option.bind_some]
    rw[Zzg _ _ (by omega) (by simp),Option.bind_some]
    simp only
    generalize (if rsB (-1) s.2.2.1=true∧rsB (-1) [((p.1,p.1+ (p.2.1.length:Int),()):Ze)]=true then List.flatMap (fun x=>List.flatMap (Qhs x) [((p.1,p.1+ (p.2.1.length:Int),()):Ze)]) s.2.2.1 else[])=cm
    rw[Zb (fun hh=>by simp only[bne_eq_false_iff_eq]at hh;omega)]
    generalize ((cm.length:Int) !=1||_)=c3
    cases c3
    ·rw[cond_false,Z4n _ _ (by omega),Option.bind_some,Zn5 _ _ (by omega),Option.bind_some]
     exact j1 Zdt _ {cells:=h.cells,e0:=h.e0,eK:=h.eK,pend:=Q1l h.pend,flight:=Zxn h.flight a2,acked:=h.acked}
    ·exact⟨_,_,rfl,h⟩
   ·exact j1 Zdt _ h
  ·exact⟨_,_,rfl,h⟩
 ·exact⟨_,_,rfl,h⟩
theorem Qlq{E:Int}{a:List Ze}{r:Ze}{c:Prop}[Decidable c](h: ∀x∈a,x.2.1≤E): ∀y∈(if c then a.flatMap fun x=>[r].flatMap (Qhs x)else[]),y.2.1≤E:=by
 intro y hy
 split at hy
 ·simp only[List.mem_flatMap,List.mem_singleton,exists_eq_left]at hy
  obtain⟨x,hx,hy⟩:=hy
  unfold Qhs at hy
  split at hy
  ·simp only[List.mem_singleton]at hy
   have:=h x hx
   subst hy;simp only;omega
  ·cases hy
 ·cases hy
theorem Qqb{a:List Ze}{r:Ze}{c:Prop}[Decidable c]: (if c then a.flatMap fun x=>[r].flatMap (Qhs x)else[]).length≤a.length:=by
 split
 ·have:=Z3q (f:=fun x=>[r].flatMap (Qhs x)) (k:=1) (fun x=>by simpa using Qzk x r) a
  omega
 ·simp
theorem Xd6(r:Ze)(h0:0≤r.1):rsB (-1) [r]=Zf8 r:=by
 simp only[rsB,Bool.and_true]
 rw[Zk (by omega),Bool.and_true]
theorem Zbk.lists{K:Int}{s:Zs}(h:Zbk K s){f a:List Ze}(hf:RL s.2.1.2.2.1 f)(ha:RL s.2.1.2.2.1 a):Zbk K (s.1,(s.2.1,(s.2.2.1,(f,(a,s.2.2.2.2.2))))):=
 {cells:=h.cells,e0:=h.e0,eK:=h.eK,pend:=h.pend,flight:=hf,acked:=ha}
theorem Qle{K:Int}{s x:Zs}(hs:Zbk K s)(hx:Zbk K x)(he:x.2.1=s.2.1)(t:Zs)(hK:K≤1000000): ∃y,Zhw s t x=some (y,())∧Zbk K y:=by
 have hcl:=hs.cells
 have la:=Xm hx.acked hx.e0 hx.eK hK
 unfold Zhw
 simp only[J2,Jb]
 rw[Qep _ _ (by omega),Option.bind_some]
 obtain⟨cs,b,ok,k1,k2⟩:=Q6y s.2.1 (if rsB (-1) x.2.2.2.2.1=true∧0≤(0:Int)then Z6y x.2.2.2.2.1 0 else-1) (by omega)
 rw[k1,Option.bind_some]
 unfold X4
 obtain⟨k,hk⟩:=Qey (x.1,((s.2.1.1,b,s.2.1.2.2.1,cs,()),x.2.2))
 rw[hk,Option.bind_some]
 refine⟨_,rfl,?_⟩
 have e:x.2.1.2.2.1=s.2.1.2.2.1:=by rw[he]
 exact {cells:=(by simp only;omega),e0:=hs.e0,eK:=hs.eK,pend:=(by have:=hx.pend;rw[e]at this;exact this),flight:=(by have:=hx.flight;rw[e]at this;exact this),acked:=(by have:=hx.acked;rw[e]at this;exact this)}
theorem Qld{K:Int}{s x:Zs}(hs:Zbk K s)(hx:Zbk K x)(he:x.2.1=s.2.1)(p:Ku)(t:Zs)(hK:K≤1000000): ∃y,Zhv s p t x=some (y,())∧Zbk K y:=by
 unfold Zhv
 cases p.2.2.1&& (s.2.2.2.2.2.2.1==(2:Int))
 ·exact Qle hs hx he t hK
 ·exact Qle hs (x:=(x.1,(x.2.1,(x.2.2.1,(x.2.2.2.1,(x.2.2.2.2.1,(x.2.2.2.2.2.1,((3:Int),x.2.2.2.2.2.2.2)))))))) {cells:=hx.cells,e0:=hx.e0,eK:=hx.eK,pend:=hx.pend,flight:=hx.flight,acked:=hx.acked} he t hK
theorem Qlf{K:Int}{s:Zs}(hs:Zbk K s)(p:Ku)(t:Zs)(hK:K≤1000000)(c:List Ze)(hcl:c.length≤1048576)(hc: ∀y∈c,y.2.1≤s.2.1.2.2.1): ∀(N i:Nat) (x:Zs),Zbk K x→x.2.1=s.2.1→c.length-i<N→i≤c.length→
  ∃y,Zhx N s p t x c (i:Int)=some (y,())∧Zbk K y
 |0,_,_,_,_,h,_=>by omega
 |N+1,i,x,hx,he,hN,hi=>by
  have lf:=Xm hx.flight hx.e0 hx.eK hK
  have la:=Xm hx.acked hx.e0 hx.eK hK
  unfold Zhx
  by_cases h:i<c.length
  ·have hm:=hc _ (Qu (d:=Zz) h)
   have e:x.2.1.2.2.1=s.2.1.2.2.1:=by rw[he]
   rw[Zn (Zk (by omega)),Zb (by omega),Z4n _ _ (by omega),Option.bind_some,Zb (by omega),Zn5 _ _ (by omega),Option.bind_some,Zq h (by omega)]
   exact Qlf hs p t hK c hcl hc N (i+1) _ (hx.lists (Q1l hx.flight) (Zxn hx.acked (by rw[e];exact hm))) he (by omega) (by omega)
  ·rw[Zi (Zj (by omega))]
   exact Qld hs hx he p t hK
theorem Q6a{K:Int}{s:Zs}(h:Zbk K s)(p:Ku)(hK:K≤1000000): ∃x,Zss s p=some (x,())∧Zbk K x:=by
 have h0:=h.e0
 have heK:=h.eK
 have lf:=Xm h.flight h0 heK hK
 obtain⟨b,h1,h2⟩:=Zft h hK
 obtain⟨b2,h3,h4⟩:=Qya s p h0 (by omega)
 unfold Zss
 rw[Zvq h hK,h1]
 simp only[Option.bind_some]
 generalize ((!b)|| (decide (s.1>(2:Int))))=c0
 cases c0
 ·simp only[cond_false,h3,Option.bind_some,Bool.false_or]
  cases b2
  ·exact⟨_,rfl,h⟩
  ·obtain⟨a1,a2⟩:=h4 rfl
   simp only[Bool.not_true,cond_false]
   cases p.2.1==([]:List UInt8)
   ·simp only[Bool.not_false,cond_true]
    rw[Qyb a1 (by omega),Option.bind_some]
    rw[Zzg _ _ (by omega) (by simp),Option.bind_some]
    have hl:=Qqb (a:=s.2.2.2.1) (r:=((p.1,p.1+ (p.2.1.length:Int),()):Ze)) (c:=rsB (-1) s.2.2.2.1=true∧rsB (-1) [((p.1,p.1+ (p.2.1.length:Int),()):Ze)]=true)
    have hh:=Qlq (a:=s.2.2.2.1) (r:=((p.1,p.1+ (p.2.1.length:Int),()):Ze)) (c:=rsB (-1) s.2.2.2.1=true∧rsB (-1) [((p.1,p.1+ (p.2.1.length:Int),()):Ze)]=true) h.flight.2
    exact Qlf h p _ hK _ (by omega) hh _ 0 s h rfl (by unfold Zk7;simp only;omega) (by omega)
   ·exact Qld h h rfl p _ hK
 ·exact⟨_,rfl,h⟩
theorem Qe2{K:Int}{s x:Zs}(hx:Zbk K x)(p:Ku)(t:Zs): ∃y,Zgk s p t x=some (y,())∧Zbk K y:=by
 have j2: ∀x,Zbk K x→ ∃y,Zgl t x=some (y,())∧Zbk K y:=by
  intro x hx
  unfold Zgl
  obtain⟨k,hk⟩:=Qey x
  rw[hk]
  exact⟨_,rfl,{cells:=hx.cells,e0:=hx.e0,eK:=hx.eK,pend:=hx.pend,flight:=hx.flight,acked:=hx.acked}⟩
 unfold Zgk
 cases p.2.2.1&& (s.2.2.2.2.2.2.1==(2:Int))
 ·exact j2 _ hx
 ·exact j2 _ {cells:=hx.cells,e0:=hx.e0,eK:=hx.eK,pend:=hx.pend,flight:=hx.flight,acked:=hx.acked}
theorem Qe3{K:Int}{s:Zs}(p:Ku)(t:Zs)(hK:K≤1000000)(c:List Ze)(E:Int)(hcl:c.length≤1048576)(hc: ∀y∈c,y.2.1≤E): ∀(N i:Nat) (x:Zs),Zbk K x→x.2.1.2.2.1=E→c.length-i<N→i≤c.length→
  ∃y,Zgm N s p t x c (i:Int)=some (y,())∧Zbk K y
 |0,_,_,_,_,h,_=>by omega
 |N+1,i,x,hx,he,hN,hi=>by
  have lf:=Xm hx.flight hx.e0 hx.eK hK
  have lp:=Xm hx.pend hx.e0 hx.eK hK
  unfold Zgm
  by_cases h:i<c.length
  ·have hm:=hc _ (Qu (d:=Zz) h)
   rw[Zn (Zk (by omega)),Zb (by omega),Z4n _ _ (by omega),Option.bind_some,Zb (by omega),Zn5 _ _ (by omega),Option.bind_some,Zq h (by omega)]
   exact Qe3 p t hK c E hcl hc N (i+1) _ {cells:=hx.cells,e0:=hx.e0,eK:=hx.eK,pend:=Zxn hx.pend (by rw[he];exact hm),flight:=Q1l hx.flight,acked:=hx.acked} he (by omega) (by omega)
  ·rw[Zi (Zj (by omega))]
   exact Qe2 hx p t
theorem Q5e{K:Int}{s:Zs}(h:Zbk K s)(p:Ku)(hK:K≤1000000): ∃x,Zre s p=some (x,())∧Zbk K x:=by
 have h0:=h.e0
 have heK:=h.eK
 have lf:=Xm h.flight h0 heK hK
 obtain⟨b,h1,h2⟩:=Zft h hK
 obtain⟨b2,h3,h4⟩:=Qya s p h0 (by omega)
 unfold Zre
 rw[Zvq h hK,h1]
 simp only[Option.bind_some]
 generalize ((!b)|| (decide (s.1>(2:Int))))=c0
 cases c0
 ·simp only[cond_false,h3,Option.bind_some,Bool.false_or]
  cases b2
  ·exact⟨_,rfl,h⟩
  ·obtain⟨a1,a2⟩:=h4 rfl
   simp only[Bool.not_true,cond_false]
   cases p.2.1==([]:List UInt8)
   ·simp only[Bool.not_false,cond_true]
    rw[Qyb a1 (by omega),Option.bind_some]
    rw[Zzg _ _ (by omega) (by simp),Option.bind_some]
    have hl:=Qqb (a:=s.2.2.2.1) (r:=((p.1,p.1+ (p.2.1.length:Int),()):Ze)) (c:=rsB (-1) s.2.2.2.1=true∧rsB (-1) [((p.1,p.1+ (p.2.1.length:Int),()):Ze)]=true)
    have hh:=Qlq (a:=s.2.2.2.1) (r:=((p.1,p.1+ (p.2.1.length:Int),()):Ze)) (c:=rsB (-1) s.2.2.2.1=true∧rsB (-1) [((p.1,p.1+ (p.2.1.length:Int),()):Ze)]=true) h.flight.2
    exact Qe3 p _ hK _ _ (by omega) hh _ 0 s h rfl (by unfold Zjs;simp only;omega) (by omega)
   ·exact Qe2 h p _
 ·exact⟨_,rfl,h⟩
theorem Q6b{K:Int}{s:Zs}(h:Zbk K s)(hK:K≤1000000): ∃x ok,Zst s=some (x,ok,())∧Zbk K x:=by
 obtain⟨b,h1,h2⟩:=Zft h hK
 unfold Zst
 rw[Zvq h hK,h1]
 simp only[Option.bind_some]
 generalize ((!b)|| (s.1 !=(4:Int)))=c
 cases c
 ·exact⟨_,_,rfl,{cells:=h.cells,e0:=h.e0,eK:=h.eK,pend:=h.pend,flight:=h.flight,acked:=h.acked}⟩
 ·exact⟨_,_,rfl,h⟩
theorem Q6s(c:Qe)(n:Int)(h:Y3 c): ∃b c',Wj c n=some ((b,()),(c',()))∧Y3 c':=by
 unfold Wj
 obtain⟨x,c1,e1,k1,-,-⟩:=Zvi c n h
 rw[e1,Option.bind_some]
 exact⟨_,_,rfl,k1⟩
theorem Qv4(c:Qe)(l:List (List UInt8))(h:Y3 c)(hl:0<l.length): ∃x c',Zi7 c l=some ((x,()),(c',()))∧Y3 c'∧x∈l:=by
 unfold Zi7
 obtain⟨x,c1,e1,k1,b1,b2⟩:=Zvi c (l.length:Int) h
 have b2:=b2 (by omega)
 rw[e1,Option.bind_some]
 simp only[]
 rw[Zb ⟨b1,b2⟩]
 refine⟨_,_,rfl,k1,?_⟩
 have hx:x.toNat<l.length:=by omega
 rw[List.getD_eq_getElem?_getD,List.getElem?_eq_getElem hx]
 exact List.getElem_mem hx
theorem Qqe: ∀(N m:Nat) (c:Qe) (s:List UInt8),Y3 c→m<N→s.length+m≤1000000→ ∃t c',Ziw N c s (m:Int)=some ((t,()),(c',()))∧Y3 c'∧t.length≤s.length+m
 |0,_,_,_,_,h,_=>by omega
 |N+1,0,c,s,hc,_,_=>by
  unfold Ziw
  rw[Zi (by decide)]
  exact⟨s,c,rfl,hc,by omega⟩
 |N+1,m+1,c,s,hc,hN,hl=>by
  unfold Ziw
  rw[Zn (Zk (by omega))]
  obtain⟨x,c1,e1,k1,hx⟩:=Qv4 c [([97]:List UInt8),([98]:List UInt8),([99]:List UInt8),([100]:List UInt8)] hc (by simp)
  have hx1:x.length=1:=by simp only[List.mem_cons,List.not_mem_nil,or_false]at hx;rcases hx with rfl|rfl|rfl|rfl<;>rfl
  rw[e1,Option.bind_some,Zb (by unfold Z8;simp only;omega)]
  have e:IntKind.i64.wrap (((m+1:Nat):Int)-1)=(m:Int):=by rw[Zw (by omega) (by omega)];omega
  rw[e]
  obtain⟨t,c2,e2,k2,h2⟩:=Qqe N m c1 (s++x) k1 (by omega) (by simp;omega)
  exact⟨t,c2,e2,k2,by simp at h2;omega⟩
theorem Q6r(c:Qe)(most:Nat)(h:Y3 c)(hm:most≤1000): ∃t c',Zi8 c (most:Int)=some ((t,()),(c',()))∧Y3 c'∧t.length≤most:=by
 unfold Zi8
 obtain⟨x,c1,e1,k1,b1,b2⟩:=Zvi c (IntKind.i64.wrap ((most:Int)+1)) h
 rw[e1,Option.bind_some]
 rw[Zw (by omega) (by omega)]at b2
 have b2:=b2 (by omega)
 obtain⟨m,rfl⟩:=Int.eq_ofNat_of_zero_le b1
 obtain⟨t,c2,e2,k2,h2⟩:=Qqe (Zhj c1 [] (m:Int)) m c1 [] k1 (by unfold Zhj;omega) (by simp;omega)
 exact⟨t,c2,e2,k2,by simp at h2;omega⟩
theorem Q91{n:Int}(h:n=4∨n=8∨n=16):Zbu n=some (true,()):=by
 rcases h with rfl|rfl|rfl<;>rfl
theorem Q5h{n:Int}(h:n=4∨n=8∨n=16): ∃s,Zh9 n=some (s,true,())∧Zbk 0 s:=by
 unfold Zh9 Zu5
 rw[Q91 h]
 simp only[Option.bind_some,Bool.not_true,cond_false]
 rw[Zb (by unfold Qp;omega)]
 exact⟨_,rfl,{cells:=(by simp;omega),e0:=Int.le_refl _,eK:=Int.le_refl _,pend:=Zk1 _,flight:=Zk1 _,acked:=Zk1 _}⟩
def inR(n:Int)(l:List Ze):Prop:= ∃x∈l,x.1≤n∧n<x.2.1
theorem Qs0: ∀{l:List Ze} {r:Ze} {n:Int},inR n (Znt l r)→inR n l∨(r.1≤n∧n<r.2.1)
 | [],r,n,⟨x,hx,h⟩=>by simp[Znt]at hx;subst hx;exact .inr h
 |y::l,r,n,⟨x,hx,h⟩=>by
  have up:inR n l→inR n (y::l):=fun⟨z,hz,hh⟩=>⟨z,by simp[hz],hh⟩
  unfold Znt at hx
  split at hx
  ·rcases List.mem_cons.1 hx with rfl|hx
   ·exact .inl ⟨x,by simp,h⟩
   ·exact(Qs0 ⟨x,hx,h⟩).imp up id
  ·split at hx
   ·rcases List.mem_cons.1 hx with rfl|hx
    ·exact .inr h
    ·exact .inl ⟨x,hx,h⟩
   ·rcases Qs0 ⟨x,hx,h⟩with h'|h'
    ·exact .inl (up h')
    ·simp only at h'
     by_cases hy:y.1≤n∧n<y.2.1
     ·exact .inl ⟨y,by simp,hy⟩
     ·exact .inr (by omega)
theorem Qp9: ∀{l:List Ze} {r:Ze},(∀x∈l,x.1≤x.2.1)→r.1≤r.2.1→Vt (Znt l r)≤Vt l+ (r.2.1-r.1)
 | [],r,_,_=>by simp[Znt,Vt]
 |y::l,r,hl,hr=>by
  have hl': ∀x∈l,x.1≤x.2.1:=fun x hx=>hl x (by simp[hx])
  have hy:=hl y (by simp)
  unfold Znt
  split
  ·have:=Qp9 (l:=l) (r:=r) hl' hr;simp only[Vt];omega
  ·split
   ·simp only[Vt];omega
   ·have:=Qp9 (l:=l) (r:=(min r.1 y.1,max r.2.1 y.2.1,())) hl' (by simp only;omega);simp only[Vt]at this⊢;omega
def ckB:Int→List Zlv→Bool
 |_,[]=>true
 |e,c::l=> !(((decide (c.1≤e))|| (c.2.1==([]:List UInt8)))|| (decide (c.1>(IntKind.i64.wrap ((4611686018427387903:Int)- (c.2.1.length:Int))))))&&ckB (IntKind.i64.wrap (c.1+ (c.2.1.length:Int))) l
def Zup(n:Int):Bool:=decide (n≥0)&&decide (n≤4611686018427387903)
theorem Zdk(n:Int):Qh n=some (Zup n,()):=rfl
theorem Z57{n:Int}:Zup n=true↔0≤n∧n≤4611686018427387903:=by unfold Zup;simp
def Zxo(b:Z4):Bool:=ckB (IntKind.i64.wrap (b.1-1)) b.2.1&&Zup b.1
theorem Z8p(b:Z4): ∀(N:Nat) (pre rest:List Zlv) (e:Int),b.2.1=pre++rest→b.2.1.length≤1048576→rest.length<N→Zd7 N b e (pre.length:Int)=some (ckB e rest&&Zup b.1,())
 |0,_,_,_,_,_,h=>by omega
 |N+1,pre,[],e,hb,hl,hN=>by
  unfold Zd7
  rw[Zi (by rw[hb];simp),Zdk,Option.bind_some];simp[ckB]
 |N+1,pre,c::rest,e,hb,hl,hN=>by
  have hlen:b.2.1.length=pre.length+rest.length+1:=by rw[hb];simp;omega
  simp only[List.length_cons]at hN
  have hg:b.2.1.getD (pre.length:Int).toNat Zwk=c:=by rw[hb];exact Wt pre c rest Zwk
  unfold Zd7
  rw[Zn (Zk (by omega)),Zb (by omega)]
  simp only[hg]
  have ih:=Z8p b N (pre++ [c]) rest (IntKind.i64.wrap (c.1+ (c.2.1.length:Int))) (by rw[hb];simp) hl (by omega)
  rw[show((pre++ [c]).length:Int)=((pre.length+1:Nat):Int) by simp]at ih
  rw[Zq (m:=pre.length+1) (by omega) (by omega),ih]
  simp only[ckB]
  cases (((decide (c.1≤e))|| (c.2.1==([]:List UInt8)))|| (decide (c.1>(IntKind.i64.wrap ((4611686018427387903:Int)- (c.2.1.length:Int))))))<;>rfl
theorem Zod(b:Z4)(hl:b.2.1.length≤1048576):Zdx b=some (Zxo b,()):=by
 unfold Zdx
 exact Z8p b _ [] b.2.1 _ rfl hl (by unfold Zk9;omega)
def rgC(c:Zlv):Ze:=(c.1,c.1+ (c.2.1.length:Int),())
def Znn:List Zlv→Nat
 | []=>0
 |c::l=>c.2.1.length+Znn l
theorem Qpm: ∀{l:List Zlv} {c:Zlv},c∈l→c.2.1.length≤Znn l
 |x::l,c,h=>by
  rcases List.mem_cons.1 h with rfl|h
  ·simp[Znn]
  ·have:=Qpm h;simp only[Znn];omega
structure Zqd(K:Nat)(b:Z4):Prop where
 len:b.2.1.length≤K
 tot:Znn b.2.1≤K
theorem Zqd.mono{K K':Nat}{b:Z4}(h:Zqd K b)(hK:K≤K'):Zqd K' b:=⟨Nat.le_trans h.len hK,Nat.le_trans h.tot hK⟩
theorem Q6o: ∀{l:List Zlv} {e:Int},Znn l≤1000000→ -1≤e→ckB e l=true→rsB e (l.map rgC)=true
 | [],_,_,_,_=>rfl
 |c::l,e,ht,he,h=>by
  simp only[Znn]at ht
  simp only[ckB,Bool.and_eq_true,Bool.not_eq_true',Bool.or_eq_false_iff,decide_eq_false_iff_not,beq_eq_false_iff_ne]at h
  obtain⟨⟨⟨h1,h2⟩,h3⟩,h4⟩:=h
  rw[Zw (by omega) (by omega)]at h3
  rw[Zw (by omega) (by omega)]at h4
  have hp:0<c.2.1.length:=List.length_pos_iff.2 h2
  rw[List.map_cons,Vn]
  exact⟨Q6.2 (by simp only[rgC];omega),by simp only[rgC];omega,Q6o (by omega) (by simp only[rgC];omega) h4⟩
theorem Q3q: ∀(l:List Zlv),Vt (l.map rgC)=(Znn l:Int)
 | []=>rfl
 |c::l=>by
  have:=Q3q l
  simp only[List.map_cons,Vt,Znn,rgC,this];omega
theorem Z28(b:Z4)(ht:Znn b.2.1≤1000000)(hb2: ∀c∈b.2.1,-1≤c.1∧c.1≤4611686018427387903): ∀(N:Nat) (pre rest:List Zlv) (out:List Ze),b.2.1=pre++rest→b.2.1.length≤1048576→rest.length<N→out.length≤pre.length→Zxo b=true→
  Y9 N b out (pre.length:Int)=some (out++rest.map rgC,())
 |0,_,_,_,_,_,h,_,_=>by omega
 |N+1,pre,[],out,hb,hl,hN,ho,hB=>by
  unfold Y9
  have:decide ((pre.length:Int)< (b.2.1.length:Int))=false:=by rw[hb];simp
  rw[this]
  simp only[cond_false,Option.bind_some,Bool.false_and,List.map_nil,List.append_nil]
 |N+1,pre,c::rest,out,hb,hl,hN,ho,hB=>by
  have hlen:b.2.1.length=pre.length+rest.length+1:=by rw[hb];simp;omega
  simp only[List.length_cons]at hN
  have hg:b.2.1.getD (pre.length:Int).toNat Zwk=c:=by rw[hb];exact Wt pre c rest Zwk
  have g: ∀{ρ:Type} (m:Option ρ),Zc (0≤(pre.length:Int)∧(pre.length:Int)< (b.2.1.length:Int)) m=m:=fun m=>Zb (by omega)
  have hc:=hb2 c (by rw[hb];simp)
  have hcl:=Qpm (l:=b.2.1) (c:=c) (by rw[hb];simp)
  unfold Y9
  have hd:decide ((pre.length:Int)< (b.2.1.length:Int))=true:=Zk (by omega)
  rw[hd,Zod b hl,hB]
  simp only[cond_true,Option.bind_some,Bool.and_self,g,hg]
  rw[Zb (by unfold Qp;simp;omega),Zq (m:=pre.length+1) (by omega) (by omega),Zw (by omega) (by omega)]
  have ih:=Z28 b ht hb2 N (pre++ [c]) rest (out++ [rgC c]) (by rw[hb];simp) hl (by omega) (by simp;omega) hB
  rw[show((pre++ [c]).length:Int)=((pre.length+1:Nat):Int) by simp]at ih
  refine Eq.trans ih ?_
  simp
theorem Z8z{b:Z4}(ht:Znn b.2.1≤1000000)(h:Zxo b=true):0≤b.1∧b.1≤4611686018427387903∧rsB (b.1-1) (b.2.1.map rgC)=true:=by
 unfold Zxo at h
 simp only[Bool.and_eq_true]at h
 have hq:=Z57.1 h.2
 have h1:=h.1
 rw[Zw (by omega) (by omega)]at h1
 exact⟨hq.1,hq.2,Q6o ht (by omega) h1⟩
theorem Qxf{K:Nat}{b:Z4}(hi:Zqd K b)(hK:K≤1000000):Zlm b=some (if Zxo b=true then b.2.1.map rgC else[],()):=by
 have hl:=hi.len
 have ht:=hi.tot
 unfold Zlm
 cases hB:Zxo b
 ·show Y9 (_+1) b [] 0=_
  unfold Y9
  rw[Zod b (by omega),hB]
  cases decide ((0:Int)< (b.2.1.length:Int))<;>rfl
 ·obtain⟨q1,q2,q3⟩:=Z8z (by omega) hB
  have:=Z28 b (by omega) (fun c hc=>by
   have h1:=Zxg q3 (rgC c) (List.mem_map_of_mem hc)
   have h2:=Q6.1 h1.2
   simp only[rgC]at h1 h2
   omega) (Zaq b [] 0) [] b.2.1 [] rfl (by omega) (by unfold Zaq;omega) (by simp) hB
  refine Eq.trans this ?_
  simp
theorem Qlm(b:Z4)(at_:Int)(h0:0≤at_)(h1:at_≤4611686018427387903)(ht:Znn b.2.1≤1000000)(hq: ∀c∈b.2.1,0≤c.1∧c.1≤4611686018427387903): ∀(N:Nat) (pre rest:List Zlv),b.2.1=pre++rest→b.2.1.length≤1048576→rest.length<N→
  ∃v,Zhz N at_ b (pre.length:Int)=some (v,())∧(v<0→ ¬inR at_ (rest.map rgC))∧v≤255
 |0,_,_,_,_,h=>by omega
 |N+1,pre,[],hb,hl,hN=>by
  unfold Zhz
  rw[Zi (by rw[hb];simp)]
  exact⟨-1,rfl,fun _ ⟨x,hx,_⟩=>by simp at hx,by omega⟩
 |N+1,pre,c::rest,hb,hl,hN=>by
  have hlen:b.2.1.length=pre.length+rest.length+1:=by rw[hb];simp;omega
  simp only[List.length_cons]at hN
  have hg:b.2.1.getD (pre.length:Int).toNat Zwk=c:=by rw[hb];exact Wt pre c rest Zwk
  have g: ∀{ρ:Type} (m:Option ρ),Zc (0≤(pre.length:Int)∧(pre.length:Int)< (b.2.1.length:Int)) m=m:=fun m=>Zb (by omega)
  have hc:=hq c (by rw[hb];simp)
  have hcl:=Qpm (l:=b.2.1) (c:=c) (by rw[hb];simp)
  unfold Zhz
  rw[Zn (Zk (by omega))]
  simp only[g,hg]
  rw[Zb (fun _=>by omega),Zb (fun _=>by omega),Zw (by omega) (by omega),Zk (by omega),Zk (by omega)]
  simp only[Bool.true_and]
  obtain⟨v,k1,k2,k3⟩:=Qlm b at_ h0 h1 ht hq N (pre++ [c]) rest (by rw[hb];simp) hl (by omega)
  rw[show((pre++ [c]).length:Int)=((pre.length+1:Nat):Int) by simp]at k1
  by_cases hin:at_-c.1≥0∧at_-c.1< (c.2.1.length:Int)
  ·rw[Zk hin.1,Zk hin.2,Bool.and_self,cond_true,Zb ⟨hin.1,hin.2⟩]
   have hb8: (c.2.1.getD (at_-c.1).toNat 0).toNat<256:=(c.2.1.getD (at_-c.1).toNat 0).toNat_lt
   rw[Zw (by omega) (by omega)]
   exact⟨_,rfl,fun h=>by omega,by omega⟩
  ·rw[Zi (by rw[Bool.and_eq_false_iff,decide_eq_false_iff_not,decide_eq_false_iff_not];omega),Zq (m:=pre.length+1) (by omega) (by omega)]
   refine⟨v,k1,fun hv ⟨x,hx,hh⟩=> ?_,k3⟩
   rw[List.map_cons]at hx
   rcases List.mem_cons.1 hx with rfl|hx
   ·simp only[rgC]at hh;omega
   ·exact k2 hv ⟨x,hx,hh⟩
theorem Xbe(b:Z4)(at_:Int)(h0:0≤at_)(h1:at_≤4611686018427387903)(ht:Znn b.2.1≤1000000)(hl:b.2.1.length≤1000000)(hq: ∀c∈b.2.1,0≤c.1∧c.1≤4611686018427387903):
  ∃v,Zxh b at_=some (v,())∧(v<0→ ¬inR at_ (b.2.1.map rgC))∧v≤255:=by
 unfold Zxh
 exact Qlm b at_ h0 h1 ht hq _ [] b.2.1 rfl (by omega) (by unfold Zn1;omega)
theorem Q7e{b:Z4}(ht:Znn b.2.1≤1000000)(hbl:b.2.1.length≤1000000)(hq: ∀c∈b.2.1,0≤c.1∧c.1≤4611686018427387903)(K1: (Int×List UInt8×Z4×Z4×Z4×List Ze×Int×Unit)→Option (Z4×Unit))(o:Int)(ho:0≤o∧o≤4611686018427387903)(d:List UInt8)(t x:Z4)(l:List Ze)(i:Nat)(hi:i<l.length)(r:Ze)(hr:l.getD i Zz=r)
  (h0:0≤r.1) (hH:r.2.1≤4611686018427387903) (hx:x.2.1.length≤1000000)
  (hin: ∀n,r.1≤n→n<r.2.1→inR n (b.2.1.map rgC)∨(o≤n∧n<o+d.length)):
  ∀(N m:Nat) (s:List UInt8),(m:Int)≤r.2.1-r.1→m<N→(s.length:Int)+m≤r.2.1-r.1→(r.2.1-r.1)≤2000000→
   ∃t',Jh K1 N o d b t x l (i:Int) s (r.2.1-m)=K1 (o,d,b,t,(x.1,(x.2.1++ [(r.1,(t',()))],x.2.2)),l,IntKind.i64.wrap ((i:Int)+1),())∧(t'.length:Int)≤r.2.1-r.1
 |0,_,_,_,h,_,_=>by omega
 |N+1,0,s,hm,hN,hs,hb=>by
  unfold Jh
  rw[Zb (by omega),show(i:Int).toNat=i from rfl,hr,Zi (Zj (by omega)),Zb (by omega)]
  simp only
  rw[Zb (by unfold Qp;simp;omega)]
  exact⟨s,rfl,by omega⟩
 |N+1,m+1,s,hm,hN,hs,hb=>by
  unfold Jh
  rw[Zb (by omega),show(i:Int).toNat=i from rfl,hr,Zn (Zk (by omega))]
  obtain⟨v,k1,k2,k3⟩:=Xbe b (r.2.1- ((m+1:Nat):Int)) (by omega) (by omega) ht hbl hq
  rw[k1,Option.bind_some]
  have next: ∀v,∃t',Zeq K1 (fun v=>Jh K1 N v.1 v.2.1 v.2.2.1 v.2.2.2.1 v.2.2.2.2.1 v.2.2.2.2.2.1 v.2.2.2.2.2.2.1 v.2.2.2.2.2.2.2.1 v.2.2.2.2.2.2.2.2.1) o d b t x l (i:Int) s (r.2.1- ((m+1:Nat):Int)) v=K1 (o,d,b,t,(x.1,(x.2.1++ [(r.1,(t',()))],x.2.2)),l,IntKind.i64.wrap ((i:Int)+1),())∧(t'.length:Int)≤r.2.1-r.1:=by
   intro v
   unfold Zeq
   obtain⟨y,e1,e2⟩:=Q2q v
   rw[e1,Option.bind_some,Zb (by unfold Z8;simp only;omega),Zw (by omega) (by omega)]
   have e:r.2.1- ((m+1:Nat):Int)+1=r.2.1- (m:Int):=by omega
   simp only[e]
   exact Q7e ht hbl hq K1 o ho d t x l i hi r hr h0 hH hx hin N m (s++y) (by omega) (by omega) (by simp;omega) hb
  by_cases hv:v<0
  ·have:=(hin (r.2.1- ((m+1:Nat):Int)) (by omega) (by omega)).resolve_left (k2 hv)
   rw[Zn (Zk hv),Zb (by rw[Zw (by omega) (by omega)];omega)]
   exact next _
  ·rw[Zi (Zj hv)]
   exact next _
theorem Q1h: ∀(a b:List Zlv),Znn (a++b)=Znn a+Znn b
 | [],b=>by simp[Znn]
 |c::a,b=>by simp only[List.cons_append,Znn,Q1h a b];omega
theorem Q4x: ∀{l:List Ze} {i:Nat},i<l.length→Vt (l.drop i)=((l.getD i Zz).2.1- (l.getD i Zz).1)+Vt (l.drop (i+1)):=by
 intro l i h
 rw[V9 (d:=Zz) h];rfl
theorem Q7d{b:Z4}(ht:Znn b.2.1≤1000000)(hbl:b.2.1.length≤1000000)(hq: ∀c∈b.2.1,0≤c.1∧c.1≤4611686018427387903)(o:Int)(ho:0≤o∧o≤4611686018427387903)(d:List UInt8)(t:Z4)(l:List Ze)
  (hl:l.length≤1000000) (hf: ∀r∈l,Zf8 r=true) (hc:Vt l≤2000000)
  (hin: ∀n,inR n l→inR n (b.2.1.map rgC)∨(o≤n∧n<o+d.length)) (M:Int) (hM:M≤4000000):
  ∀(N i:Nat) (x:Z4),l.length-i<N→i≤l.length→x.2.1.length≤i→(Znn x.2.1:Int)+Vt (l.drop i)≤M→
   ∃y,Zbg N o d b t x l (i:Int)=some (y,())∧y.1=x.1∧y.2.1.length≤l.length∧(Znn y.2.1:Int)≤M
 |0,_,_,h,_,_,_=>by omega
 |N+1,i,x,hN,hi,hx,hm=>by
  unfold Zbg
  by_cases h:i<l.length
  ·have hmem:=Qu (d:=Zz) h
   have hfi:=Q6.1 (hf _ hmem)
   have hd:=Q4x h
   have hnn: ∀{l:List Ze},(∀r∈l,Zf8 r=true)→0≤Vt l:=by
    intro l
    induction l with
    |nil=>intro _;simp[Vt]
    |cons r l ih=>
     intro hh
     have:=Q6.1 (hh r (by simp))
     have:=ih fun r hr=>hh r (by simp[hr])
     simp only[Vt];omega
   have h1:=hnn (l:=l.drop (i+1)) fun r hr=>hf r (List.mem_of_mem_drop hr)
   have hsub: (l.getD i Zz).2.1- (l.getD i Zz).1≤2000000:=by
    have htk: ∀(l:List Ze),(∀r∈l,Zf8 r=true)→ ∀r∈l,r.2.1-r.1≤Vt l:=by
     intro l
     induction l with
     |nil=>intro _ r hr;cases hr
     |cons q l ih=>
      intro hh r hr
      have hq:=Q6.1 (hh q (by simp))
      have hl:=hnn (l:=l) fun r hr=>hh r (by simp[hr])
      simp only[Vt]
      rcases List.mem_cons.1 hr with rfl|hr
      ·omega
      ·have:=ih (fun r hr=>hh r (by simp[hr])) r hr;omega
    have:=htk l hf _ hmem;omega
   rw[Zn (Zk (by omega)),Zb (by omega),show(i:Int).toNat=i from rfl]
   generalize hr:l.getD i Zz=r at*
   obtain⟨m,hmm⟩:=Int.eq_ofNat_of_zero_le (a:=r.2.1-r.1) (by omega)
   obtain⟨t',k1,k2⟩:=Q7e ht hbl hq (fun v=>Zbg N v.1 v.2.1 v.2.2.1 v.2.2.2.1 v.2.2.2.2.1 v.2.2.2.2.2.1 v.2.2.2.2.2.2.1) o ho d t x l i h r hr hfi.1 hfi.2.2 (by omega)
    (fun n hn1 hn2=>hin n ⟨r,hmem,hn1,hn2⟩) (Zcn o d b t x l (i:Int) [] r.1) m [] (by omega) (by unfold Zcn;rw[show(i:Int).toNat=i from rfl,hr];omega) (by simp;omega) hsub
   rw[show r.2.1- (m:Int)=r.1 by omega]at k1
   rw[k1,Zq h (by omega)]
   obtain⟨y,q1,q2,q3,q4⟩:=Q7d ht hbl hq o ho d t l hl hf hc hin M hM N (i+1) (x.1,(x.2.1++ [(r.1,(t',()))],x.2.2)) (by omega) (by omega) (by simp;omega) (by
    simp only[Q1h,Znn];omega)
   exact⟨y,q1,q2,q3,q4⟩
  ·rw[Zi (Zj (by omega))]
   have:i=l.length:=by omega
   subst this
   rw[List.drop_length]at hm
   exact⟨x,rfl,rfl,hx,by simp[Vt]at hm;omega⟩
theorem Qst{K:Nat}{b:Z4}(h:Zqd K b)(hK:K≤1000000):Zja b=some (b,()):=by
 have:=h.len
 unfold Zja
 rw[Zb (by unfold Qp;simp;omega)]
 simp
theorem Q2m{K:Nat}{b:Z4}(h:Zqd K b)(o:Int)(d:List UInt8)(hK:K+d.length+1≤1000000): ∃y,Zo3 b o d=some (y,())∧Zqd (K+d.length+1) y:=by
 have hl:=h.len
 have ht:=h.tot
 unfold Zo3
 rw[Zod b (by omega),Option.bind_some]
 generalize hc: ((((!Zxo b)|| (d==([]:List UInt8)))|| (decide (o< (0:Int))))|| (decide (o>(IntKind.i64.wrap ((4611686018427387903:Int)- (d.length:Int))))))=c
 cases c
 ·simp only[Bool.or_eq_false_iff,Bool.not_eq_false',decide_eq_false_iff_not]at hc
  obtain⟨⟨⟨c1,c2⟩,c3⟩,c4⟩:=hc
  rw[Zw (by omega) (by omega)]at c4
  obtain⟨q1,q2,q3⟩:=Z8z (by omega) c1
  simp only[cond_false]
  rw[Zw (by omega) (by omega)]
  by_cases hm:max o b.1≥o+ (d.length:Int)
  ·rw[Zn (Zk hm),Qst h (by omega)]
   exact⟨b,rfl,h.mono (by omega)⟩
  ·rw[Zi (Zj hm),Qxf h (by omega),Option.bind_some,c1]
   simp only[if_true]
   have hml: (b.2.1.map rgC).length≤1048576:=by rw[List.length_map];omega
   rw[Zn5 _ _ hml,Option.bind_some]
   have hrs:rsB (-1) (b.2.1.map rgC)=true:=Qtz q3 (by omega)
   have hfr:Zf8 (max o b.1,(o+ (d.length:Int),()))=true:=Q6.2 (by simp only;omega)
   simp only[hrs,hfr,and_self,if_true]
   have hcl:=Qco (l:=b.2.1.map rgC) (r:=((max o b.1,(o+ (d.length:Int),())):Ze))
   rw[List.length_map]at hcl
   have hcc:=Qp9 (l:=b.2.1.map rgC) (r:=((max o b.1,(o+ (d.length:Int),())):Ze)) (fun x hx=>by
    have:=Q6.1 (Zxg hrs x hx).2;omega) (by simp only;omega)
   rw[Q3q]at hcc
   simp only at hcc
   have hars:=Qo9 hrs hfr (by simp only;omega)
   have hch: ∀c∈b.2.1,0≤c.1∧c.1≤4611686018427387903:=fun c hc=>by
    have h1:=Zxg q3 (rgC c) (List.mem_map_of_mem hc)
    have h2:=Q6.1 h1.2
    simp only[rgC]at h1 h2
    omega
   obtain⟨y,k1,k2,k3,k4⟩:=Q7d (b:=b) (by omega) (by omega) hch o (by omega) d Q4q _ (by omega) (fun r hr=>(Zxg hars r hr).2) (by omega) (fun n hn=>(Qs0 hn).imp id fun hh=>by first| (simp only at hh;omega)|omega) (K+d.length) (by omega)
    (Zcm o d b Q4q (b.1,([],())) (Znt (b.2.1.map rgC) (max o b.1,(o+ (d.length:Int),()))) 0) 0 (b.1,([],())) (by unfold Zcm;omega) (by omega) (by simp) (by simp only[Znn,List.drop_zero];omega)
   exact⟨y,k1,⟨by omega,by omega⟩⟩
 ·rw[cond_true,Qst h (by omega)]
  exact⟨b,rfl,h.mono (by omega)⟩
def Z4m(b:Z4):Int:=if Zxo b=true∧b.2.1≠[]∧(b.2.1.getD 0 Zwk).1=b.1 then((b.2.1.getD 0 Zwk).2.1.length:Int)else 0
theorem Z0i(b:Z4)(hl:b.2.1.length≤1048576):Zak b=some (Z4m b,()):=by
 unfold Zak Z4m
 rw[Zod b hl,Option.bind_some]
 obtain⟨b1,l,_⟩:=b
 cases hB:Zxo (b1,l,())
 ·simp[Zc]
 ·cases l with
  |nil=>simp[Zc]
  |cons c l=>
   simp only[Bool.not_true,Bool.false_or]
   have e: (((c::l).length:Int)==0)=false:=by rw[beq_eq_false_iff_ne,List.length_cons];omega
   rw[e,Zb (fun _=>by simp only[List.length_cons];omega)]
   simp only[Bool.false_or,show(0:Int).toNat=0 from rfl,List.getD_cons_zero,ne_eq,reduceCtorEq,not_false_eq_true,true_and]
   by_cases h:c.1=b1
   ·rw[Zi (by simp[h]),Zb (by simp only[List.length_cons];omega),if_pos h]
   ·rw[Zn (by simp[h]),if_neg h]
theorem Q5s{K:Nat}{b:Z4}(h:Zqd K b):0≤Z4m b∧Z4m b≤(K:Int)∧(Z4m b≠0→Zxo b=true∧ ∃c l,b.2.1=c::l∧Z4m b=(c.2.1.length:Int)):=by
 unfold Z4m
 split
 ·rename_i hh
  obtain⟨b1,l,_⟩:=b
  cases l with
  |nil=>exact absurd rfl hh.2.1
  |cons c l=>
   have:=h.tot
   simp only[Znn]at this
   simp only[List.getD_cons_zero]
   exact⟨by omega,by omega,fun _=>⟨hh.1,c,l,rfl,rfl⟩⟩
 ·exact⟨by omega,by omega,fun h=>absurd rfl h⟩
theorem Q52{K:Nat}{b:Z4}(h:Zqd K b)(hK:K≤1000000)(m:Int): ∃s y,Zrh b m=some (s,y,())∧Zqd K y∧s.length≤K:=by
 have hl:=h.len
 have ht:=h.tot
 obtain⟨r1,r2,r3⟩:=Q5s h
 unfold Zrh
 rw[Z0i b (by omega),Qst h hK]
 simp only[Option.bind_some]
 generalize hn:min (Z4m b) (max m 0)=n
 by_cases h0:n=0
 ·subst h0
  exact⟨[],b,rfl,h,by simp⟩
 ·rw[Zi (by simp[h0])]
  obtain⟨hB,c,l,hb,hr⟩:=r3 (by omega)
  obtain⟨b1,b2,b3⟩:=Z8z (by omega) hB
  rw[Zw (by omega) (by omega)]
  obtain⟨z,bl,_⟩:=b
  simp only at hb hl ht b1 b2
  subst hb
  simp only[List.length_cons]at hl
  simp only[Znn]at ht
  simp only[show(0:Int).toNat=0 from rfl,List.getD_cons_zero,List.length_cons]
  rw[Zb (by omega)]
  by_cases he:n=(c.2.1.length:Int)
  ·rw[Zn (by simp[he]),Zb (by omega)]
   simp only[show(1:Int).toNat=1 from rfl,List.drop_succ_cons,List.drop_zero]
   have hi:Zqd K ((z+n,((l.take (((l.length+1:Nat):Int).toNat-1)),())):Z4):=by
    rw[show((l.length+1:Nat):Int).toNat-1=l.length by omega,List.take_length]
    exact⟨by show l.length≤K;omega,by show Znn l≤K;omega⟩
   rw[Qst hi hK]
   exact⟨_,_,rfl,hi,by omega⟩
  ·rw[Zi (by simp[he]),Zb (by omega),Zb (by omega),Zb (by omega)]
   refine⟨_,_,rfl,⟨?_,?_⟩,?_⟩
   ·simp;omega
   ·simp only[List.set_cons_zero,Znn,List.length_take,List.length_drop];omega
   ·simp only[List.length_take,List.length_drop];omega
theorem Xat{K:Nat}{b:Z4}(h:Zqd K b)(hK:K≤1000000): ∃v,Zsd b=some (v,()):=by
 have hl:=h.len
 unfold Zsd
 rw[Zod b (by omega)]
 by_cases h0:b.2.1=[]
 ·rw[h0];exact⟨_,rfl⟩
 ·have:0<b.2.1.length:=List.length_pos_iff.2 h0
  have e: ((b.2.1.length:Int)==(0:Int))=false:=by rw[beq_eq_false_iff_ne];omega
  rw[e]
  simp only[cond_false,Option.bind_some,Bool.false_or]
  cases Zxo b
  ·exact⟨_,rfl⟩
  ·simp only[Bool.not_true,cond_false]
   rw[Zw (by omega) (by omega),Zb (by omega)]
   exact⟨_,rfl⟩
theorem K8{α:Type}(c:Bool)(a b:α): (bif c then some a else some b)=some (bif c then a else b):=by cases c<;>rfl
theorem Qxb{α β:Type}{P:α→β→Prop}{c:Bool}{m n:α}(h1: ∃b,P m b)(h2: ∃b,P n b): ∃b,P (bif c then m else n) b:=by cases c<;>assumption
theorem Zl3{K:Nat}{r:Qo}(h:Zqd K r.2.1)(hK:K≤1000000): ∃b,Yk r=some (b,()):=by
 have hl:=h.len
 obtain⟨v,k⟩:=Xat h hK
 have j: ∀q,∃b,Ke r q=some (b,()):=fun q=>by unfold Ke;cases q<;>exact⟨_,rfl⟩
 unfold Yk
 rw[Zod _ (by omega),Z0i _ (by omega),k]
 simp only[Option.bind_some,Zdk,K8]
 repeat' refine Qxb (P:=fun m b=>m=some (b,())) ?_ ?_
 all_goals first|exact j _|exact⟨_,rfl⟩
theorem Ql6: ∃r,Zse=some (r,())∧Zqd 0 r.2.1:=⟨_,rfl,⟨by simp,by simp[Znn]⟩⟩
theorem Qx9{K:Nat}{r:Qo}(h:Zqd K r.2.1)(hK:K≤1000000):Zmy r=some (r,()):=by
 unfold Zmy
 rw[Qst h hK];rfl
theorem Q38(r:Qo)(e:Int)(f:Bool): ∃v,Zrs r e f=some (v,()):=by
 unfold Zrs
 rw[K8]
 exact⟨(bif _ then((6:Int),())else(0,())).1,rfl⟩
theorem Q01{K:Nat}{r:Qo}(h:Zqd K r.2.1)(o:Int)(d:List UInt8)(f:Bool)(hK:K+d.length+1≤1000000):
  ∃y v,Zni r o d f=some (y,v,())∧Zqd (K+d.length+1) y.2.1:=by
 have j: ∀z t x,∃y v,Zdd o d r z ((t,(r.2.1,x)):Qo)=some (y,v,())∧Zqd (K+d.length+1) y.2.1:=by
  intro z t x
  unfold Zdd Zhg
  obtain⟨b,k1,k2⟩:=Q2m h o d hK
  have hbl:b.2.1.length≤1048576:=by have:=k2.len;omega
  simp only[k1,Option.bind_some,Z0i b hbl,K8]
  generalize ((((t,(r.2.1,x)):Qo).2.2.1 !=(-1:Int))&&_)=c
  cases c
  ·exact⟨_,_,rfl,k2⟩
  ·exact⟨_,_,rfl,k2⟩
 unfold Zni
 obtain⟨q,e2⟩:=Zl3 h (by omega)
 rw[Qx9 h (by omega),e2]
 simp only[Option.bind_some]
 generalize hc: (((!q)|| (decide (o< (0:Int))))|| (decide (o>(IntKind.i64.wrap ((4611686018427387903:Int)- (d.length:Int))))))=c
 cases c
 ·obtain⟨v,e3⟩:=Q38 r (IntKind.i64.wrap (o+ (d.length:Int))) f
  rw[cond_false,e3,Option.bind_some]
  generalize ((v !=(0:Int))|| (decide (r.1>(1:Int))))=c
  cases c
  ·cases f
   ·exact j _ _ _
   ·exact j _ _ _
  ·exact⟨_,_,rfl,h.mono (by omega)⟩
 ·exact⟨_,_,rfl,h.mono (by omega)⟩
theorem Qyt{K:Nat}{r:Qo}(h:Zqd K r.2.1)(hK:K≤1000000)(c f:Int):
  ∃y v,Zlq r c f=some (y,v,())∧Zqd K y.2.1:=by
 unfold Zlq
 obtain⟨q,e2⟩:=Zl3 h hK
 obtain⟨v,e3⟩:=Q38 r f true
 rw[Qx9 h hK,e2,e3]
 simp only[Option.bind_some,Zdk,K8]
 generalize ((_||_)||_:Bool)=x
 cases x
 ·generalize ((_||_):Bool)=x
  cases x
  ·exact⟨_,_,rfl,⟨by simp,by simp[Znn]⟩⟩
  ·exact⟨_,_,rfl,h⟩
 ·exact⟨_,_,rfl,h⟩
theorem Qf0{K:Nat}{r:Qo}(h:Zqd K r.2.1)(hK:K≤1000000)(m:Int):
  ∃s y,Zlp r m=some ((s,y,()),())∧Zqd K y.2.1∧s.length≤K:=by
 unfold Zlp
 obtain⟨q,e2⟩:=Zl3 h hK
 obtain⟨s,b,e3,k3,k4⟩:=Q52 h hK m
 rw[Qx9 h hK,e2,e3]
 simp only[Option.bind_some]
 cases q
 ·exact⟨_,_,rfl,h,by simp⟩
 ·simp only[Bool.not_true,cond_false]
  cases r.1==(4:Int)
  ·rw[cond_false]
   unfold Zgo
   generalize ((_&&_):Bool)=x
   cases x
   ·exact⟨_,_,rfl,k3,k4⟩
   ·exact⟨_,_,rfl,k3,k4⟩
  ·exact⟨_,_,rfl,h,by simp⟩
theorem Zth(n a b:Int):Zx n a b=some (decide (n≥a)&&decide (n≤b),()):=rfl
theorem Q76(n:Int): ∃b,Zbu n=some (b,()):=⟨_,rfl⟩
theorem Zqp(c:Zqf): ∃b,Zb6 c=some (b,()):=by
 obtain⟨b,h⟩:=Q76 c.1
 unfold Zb6
 simp only[h,Zth,K8,Option.bind_some]
 exact⟨_,rfl⟩
theorem Zj3(c:Zdh): ∃b,Y6 c=some (b,()):=by
 unfold Y6
 simp only[Zdk,Zth,K8,Option.bind_some]
 exact⟨_,rfl⟩
theorem Zqr(w:Kn): ∃b,Jn w=some (b,()):=by
 unfold Jn
 simp only[Zth,K8,Option.bind_some]
 exact⟨_,rfl⟩
theorem Zvp(p:Xq): ∃b,Zcx p=some (b,()):=by
 unfold Zcx
 simp only[Zth,Option.bind_some]
 exact⟨_,rfl⟩
theorem Qwk(n:Int): ∃c b,Zh8 n=some (c,b,()):=by
 unfold Zh8
 simp only[Zdk,Option.bind_some,K8]
 exact⟨_,_,rfl⟩
theorem Qjg(n m:Int): ∃c b,Zia n m=some (c,b,()):=by
 unfold Zia
 simp only[Zth,Option.bind_some,K8]
 exact⟨_,_,rfl⟩
theorem Qxg(s:Bool)(n:Int): ∃b,Zeh s n=some (b,()):=by
 unfold Zeh Vv Zer Zkc
 simp only[Zdk,Option.bind_some,K8]
 exact⟨_,rfl⟩
theorem Z81(s:Bool)(n:Int): ∃b,J9 s n=some (b,()):=by
 unfold J9 Vv Zer Zkc
 simp only[Zdk,Option.bind_some,K8]
 exact⟨_,rfl⟩
structure Jo(K:Nat)(s:Zp):Prop where
 snd:Zbk K s.2.1
 rcv:Zqd K s.2.2.2.1.2.1
theorem Jo.mono{K K':Nat}{s:Zp}(h:Jo K s)(hK:K≤K'):Jo K' s:=⟨h.snd.mono (by omega),h.rcv.mono hK⟩
theorem Zyd{K:Nat}{s:Zp}(h:Jo K s)(hK:K≤1000000): ∃b,Vo s=some (b,()):=by
 obtain⟨b1,e1,-⟩:=Zft h.snd (by omega)
 obtain⟨b2,e2⟩:=Zj3 s.2.2.1
 obtain⟨b3,e3⟩:=Zl3 h.rcv hK
 obtain⟨b4,e4⟩:=Zqr s.2.2.2.2.1
 obtain⟨b5,e5⟩:=Zvp s.2.2.2.2.2.1
 unfold Vo
 simp only[e1,e2,e3,e4,e5,Zdk,K8,Option.bind_some]
 exact⟨_,rfl⟩
theorem Q5i(v:Bool)(i:Int)(o p:Zqf)(ho:o.1=4∨o.1=8∨o.1=16): ∃s b,Zb9 v i o p=some (s,b,())∧Jo 0 s:=by
 obtain⟨b1,e1⟩:=Zqp o
 obtain⟨b2,e2⟩:=Zqp p
 obtain⟨b3,e3⟩:=Qxg v i
 obtain⟨b4,e4⟩:=Z81 v i
 obtain⟨s,e5,h5⟩:=Q5h ho
 obtain⟨c6,b6,e6⟩:=Qwk p.2.1
 obtain⟨c7,b7,e7⟩:=Qjg o.2.1 o.2.2.1
 obtain⟨r,e8,h8⟩:=Ql6
 unfold Zb9 Wh
 simp only[e1,e2,e3,e4,e5,e6,e7,e8,Zdk,K8,Option.bind_some]
 generalize ((_||_)||_:Bool)=x
 cases x
 ·refine⟨_,_,rfl,?_⟩
  exact⟨h5,h8⟩
 ·refine⟨_,_,rfl,?_⟩
  exact⟨{cells:=(Nat.zero_le 64),e0:=Int.le_refl _,eK:=Int.le_refl _,pend:=Zk1 _,flight:=Zk1 _,acked:=Zk1 _},⟨Nat.le_refl _,(by show Znn []≤0;simp[Znn])⟩⟩
theorem Q32(c:Qe)(hc:Y3 c): ∃y c',Zdn c=some ((y,()),(c',()))∧Y3 c'∧(y.1=4∨y.1=8∨y.1=16):=by
 unfold Zdn Zsb
 obtain⟨x,c1,e1,k1,-,-⟩:=Zvi c 3 hc
 simp only[e1,Option.bind_some]
 cases x==(0:Int)
 ·rw[cond_false]
  cases x==(1:Int)
  ·exact⟨_,_,rfl,k1,.inr (.inr rfl)⟩
  ·exact⟨_,_,rfl,k1,.inr (.inr rfl)⟩
 ·exact⟨_,_,rfl,k1,.inr (.inl rfl)⟩
theorem Qew{K:Nat}{s:Zp}(h:Jo K s)(hK:K≤1000000):Zdo s=some (s,()):=by
 unfold Zdo
 rw[Zvq h.snd (by omega),Qx9 h.rcv hK];rfl
theorem Q64(l:List Zp)(n:Int)(hl:l.length≤1000000): ∀(N i:Nat),l.length-i<N→i≤l.length→ ∃v,Zem N l n (i:Int)=some (v,())∧(v<0∨v<l.length)∧(v<0→ ∀s∈l.drop i,s.1≠n)∧(0≤v→(l.getD v.toNat Zm).1=n)
 |0,_,h,_=>by omega
 |N+1,i,hN,hi=>by
  unfold Zem
  by_cases h:i<l.length
  ·rw[Zn (Zk (by omega)),Zb (by omega),show(i:Int).toNat=i from rfl]
   by_cases e: (l.getD i Zm).1=n
   ·rw[Zn (beq_iff_eq.2 e)]
    exact⟨_,rfl,by omega,fun h=>by omega,fun _=>e⟩
   ·rw[Zi (beq_eq_false_iff_ne.2 e),Zq h (by omega)]
    obtain⟨v,k1,k2,k3,k4⟩:=Q64 l n hl N (i+1) (by omega) (by omega)
    refine⟨v,k1,k2,fun hv s hs=> ?_,k4⟩
    rw[V9 (d:=Zm) h]at hs
    rcases List.mem_cons.1 hs with rfl|hs
    ·exact e
    ·exact k3 hv s hs
  ·rw[Zi (Zj (by omega))]
   refine⟨_,rfl,by omega,fun _ s hs=> ?_,fun h=>by omega⟩
   rw[List.drop_eq_nil_of_le (by omega)]at hs;cases hs
theorem Z93(l:List Zp)(n:Int)(hl:l.length≤1000000): ∃v,Zfx l n=some (v,())∧(v<0∨v<l.length)∧(v<0→ ∀s∈l,s.1≠n)∧(0≤v→(l.getD v.toNat Zm).1=n):=by
 unfold Zfx
 exact Q64 l n hl _ 0 (by unfold Zh3;omega) (by omega)
structure Zs9(K:Nat)(l:List Zp):Prop where
 len:l.length≤K
 all: ∀s∈l,Jo K s
theorem Zs9.mono{K K':Nat}{l:List Zp}(h:Zs9 K l)(hK:K≤K'):Zs9 K' l:=⟨Nat.le_trans h.len hK,fun s hs=>(h.all s hs).mono hK⟩
theorem Xa2{K:Nat}{l:List Zp}{s:Zp}(h:Zs9 K l)(hs:Jo K s)(hK:K≤500000)(a:Int): ∀(N i:Nat) (out:List Zp) (p:Bool),l.length-i<N→i≤l.length→(∀x∈out,Jo K x)→out.length≤i+ (if p then 1 else 0)→
  ∃y,Vb N l s out a p (i:Int)=some (y,())∧y.length≤l.length+1∧ ∀x∈y,Jo K x
 |0,_,_,_,h,_,_,_=>by omega
 |N+1,i,out,p,hN,hi,ho,hl=>by
  have hlen:=h.len
  have ho':out.length≤i+1:=by split at hl<;>omega
  have app: ∀{o:List Zp} {x},(∀x∈o,Jo K x)→Jo K x→ ∀z∈o++ [x],Jo K z:=fun ho hx z hz=>by
   rcases List.mem_append.1 hz with hz|hz
   ·exact ho z hz
   ·rw[List.mem_singleton.1 hz];exact hx
  unfold Vb
  by_cases hh:i<l.length
  ·have hm:=h.all _ (Qu (d:=Zm) hh)
   rw[Zn (Zk (by omega)),Zb (by omega),show(i:Int).toNat=i from rfl,Qew hm (by omega),Qew hs (by omega)]
   simp only[Option.bind_some]
   have j: ∀(o:List Zp) (q:Bool) x,(∀x∈o,Jo K x)→Jo K x→o.length≤i+ (if q then 1 else 0)→
     ∃y,Zco (fun v=>Vb N v.1 v.2.1 v.2.2.1 v.2.2.2.1 v.2.2.2.2.1 v.2.2.2.2.2.1) l s o a q (i:Int) x=some (y,())∧y.length≤l.length+1∧ ∀x∈y,Jo K x:=by
    intro o q x h1 h2 h3
    have h3':o.length≤i+1:=by split at h3<;>omega
    unfold Zco
    rw[Zb (by unfold Qp;simp only[List.length_singleton];omega),Zq hh (by omega)]
    exact Xa2 h hs hK a N (i+1) (o++ [x]) q (by omega) (by omega) (app h1 h2) (by simp only[List.length_append,List.length_singleton];omega)
   cases (i:Int)==a
   ·rw[cond_false,Zb (fun _=>by omega)]
    cases p
    ·simp only[Bool.not_false,Bool.true_and]
     cases decide ((l.getD i Zm).1>s.1)
     ·exact j _ _ _ ho hm hl
     ·rw[cond_true,Zb (by unfold Qp;simp only[List.length_singleton];omega)]
      exact j _ _ _ (app ho hs) hm (by simp at hl⊢;omega)
    ·exact j _ _ _ ho hm hl
   ·exact j _ _ _ ho hs hl
  ·rw[Zi (Zj (by omega)),Qew hs (by omega)]
   cases p
   ·simp only[Bool.not_false,cond_true,Option.bind_some]
    rw[Zb (by unfold Qp;simp only[List.length_singleton];omega)]
    exact⟨_,rfl,by simp at hl⊢;omega,app ho hs⟩
   ·exact⟨_,rfl,by simp at hl;omega,ho⟩
theorem Qkf{K:Nat}{l:List Zp}{s:Zp}(h:Zs9 K l)(hs:Jo K s)(hK:K≤500000): ∃y,Xo l s=some (y,())∧y.length≤l.length+1∧ ∀x∈y,Jo K x:=by
 unfold Xo
 obtain⟨v,e,-⟩:=Z93 l s.1 (by have:=h.len;omega)
 rw[e,Option.bind_some]
 exact Xa2 h hs hK _ _ 0 [] _ (by unfold Zju;omega) (by omega) (by simp) (by simp)
theorem Q8m:Jo 0 (((0:Int),(((0:Int),(((0:Int),((0:Int),((0:Int),(([]:List Int),())))),(([]:List Ze),(([]:List Ze),(([]:List Ze),((0:Int),((0:Int),((0:Int),((0:Int),()))))))))),(((0:Int),((0:Int),((0:Int),((0:Int),())))),(((0:Int),(((0:Int),(([]:List Zlv),())),((0:Int),((0:Int),((0:Int),()))))),(((0:Int),((0:Int),((0:Int),((0:Int),((0:Int),((0:Int),())))))),(((0:Int),(false,())),(false,(false,(false,(false,(false,(false,((0:Int),(false,())))))))))))))):Zp):=
 ⟨{cells:=(by simp),e0:=Int.le_refl _,eK:=Int.le_refl _,pend:=Zk1 _,flight:=Zk1 _,acked:=Zk1 _},⟨by simp,by simp[Znn]⟩⟩
theorem Q8e{K:Nat}{c:Zg}(h:Zs9 K c.2.2.2.1)(hK:K≤1000000)(n:Int): ∃s b,Q0 c n=some (s,b,())∧Jo K s:=by
 unfold Q0
 obtain⟨v,e,h1,-⟩:=Z93 c.2.2.2.1 n (by have:=h.len;omega)
 rw[e,Option.bind_some]
 by_cases hv:v<0
 ·rw[Zn (Zk hv)]
  exact⟨_,_,rfl,Q8m.mono (by omega)⟩
 ·have hm:=h.all _ (Qu (l:=c.2.2.2.1) (i:=v.toNat) (d:=Zm) (by omega))
  rw[Zi (Zj hv),Zb (by simp only;omega),Qew hm hK]
  exact⟨_,_,rfl,hm⟩
theorem Qwf(n:Int): ∀(N m K:Nat) (c:Zg),m<N→K+m≤500000→(c.2.1.1=4∨c.2.1.1=8∨c.2.1.1=16)→Zs9 K c.2.2.2.1→
  ∃l,Xc N c n ((m:Int)-1)=some ((),((c.1,(c.2.1,(c.2.2.1,(l,c.2.2.2.2)))),()))∧Zs9 (K+m) l
 |0,_,_,_,h,_,_,_=>by omega
 |N+1,0,K,c,_,_,_,h=>by
  unfold Xc
  exact⟨c.2.2.2.1,rfl,h⟩
 |N+1,m+1,K,c,hN,hK,hc,h=>by
  unfold Xc
  simp only[J2,Jb]
  rw[Zn (Zk (by omega))]
  obtain⟨s,b,e1,h1⟩:=Q5i c.1 (IntKind.i64.wrap (n- (IntKind.i64.wrap ((4:Int)* (((m+1:Nat):Int)-1))))) c.2.1 c.2.2.1 hc
  obtain⟨y,e2,h2,h3⟩:=Qkf h (h1.mono (by omega)) (by omega)
  rw[e1,Option.bind_some]
  unfold Y0
  have e:IntKind.i64.wrap (((m+1:Nat):Int)-1-1)=(m:Int)-1:=by rw[Zw (by omega) (by omega)];omega
  rw[e2,Option.bind_some,e]
  have hy:Zs9 (K+1) y:=⟨by have:=h.len;omega,fun x hx=>(h3 x hx).mono (by omega)⟩
  obtain⟨l,k1,k2⟩:=Qwf n N m (K+1) (c.1,(c.2.1,(c.2.2.1,(y,c.2.2.2.2)))) (by omega) (by omega) hc hy
  exact⟨l,k1,k2.mono (by omega)⟩
theorem Xd3{K:Nat}{c:Zg}(n:Int)(m:Nat)(hK:K+m≤500000)(hc:c.2.1.1=4∨c.2.1.1=8∨c.2.1.1=16)(h:Zs9 K c.2.2.2.1):
  ∃l,Znj c n (m:Int)=some ((),((c.1,(c.2.1,(c.2.2.1,(l,c.2.2.2.2)))),()))∧Zs9 (K+m) l:=by
 unfold Znj
 rw[Zw (by omega) (by omega)]
 exact Qwf n _ m K c (by unfold Zgs;omega) hK hc h
theorem Q9g(n:Int): ∃v,Zrb n=some (v,()):=by
 unfold Zrb
 rw[Zdk,Option.bind_some,Zb (by omega),K8]
 exact⟨_,rfl⟩
theorem Zso(c:Zdh): ∃b,Wy c=some (b,()):=by
 unfold Wy
 simp only[Zth,K8,Option.bind_some]
 exact⟨_,rfl⟩
theorem Zwu(c:Zk2): ∃b,Zbq c=some (b,()):=by
 unfold Zbq
 simp only[Zth,K8,Option.bind_some]
 exact⟨_,rfl⟩
theorem Xan{K:Nat}{l:List Zp}(h:Zs9 K l)(hK:K≤1000000): ∀(N i:Nat),l.length-i<N→i≤l.length→ ∃b,Yc N l (i:Int)=some (b,())
 |0,_,h,_=>by omega
 |N+1,i,hN,hi=>by
  have hlen:=h.len
  unfold Yc
  by_cases hh:i<l.length
  ·obtain⟨b,e⟩:=Zyd (h.all _ (Qu (d:=Zm) hh)) hK
   rw[Zn (Zk (by omega)),Zb (by omega),show(i:Int).toNat=i from rfl,e,Option.bind_some,Zb (fun _ _=>by omega),
    Zb (fun _ h=>by have:=of_decide_eq_true h;rw[Zw (by omega) (by omega)];omega),Zq hh (by omega)]
   exact Qxb (P:=fun m b=>m=some (b,())) ⟨_,rfl⟩ (Xan h hK N (i+1) (by omega) (by omega))
  ·rw[Zi (Zj (by omega))]
   exact⟨_,rfl⟩
theorem Zph{K:Nat}{l:List Zp}(h:Zs9 K l)(hK:K≤1000000): ∃b,Yz l=some (b,()):=by
 unfold Yz
 exact Xan h hK _ 0 (by unfold Wf;omega) (by omega)
theorem Zyv{K:Nat}{l:List Zp}(h:Zs9 K l)(hK:K≤1000000): ∃v,Ze2 l=some (v,()):=by
 obtain⟨b,e⟩:=Zph h hK
 have hlen:=h.len
 have lp: ∀(N i:Nat) (n:Int),l.length-i<N→i≤l.length→ ∃v,Vd N l n (i:Int)=some (v,()):=by
  intro N
  induction N with
  |zero=>intro i n h;omega
  |succ N ih=>
   intro i n hN hi
   unfold Vd
   rw[e,K8,Option.bind_some]
   by_cases hh:i<l.length
   ·rw[Zb (by omega),Zq hh (by omega)]
    exact Qxb (P:=fun m b=>m=some (b,())) (ih (i+1) _ (by omega) (by omega)) ⟨_,rfl⟩
   ·rw[Zj (by omega)]
    exact⟨_,rfl⟩
 unfold Ze2
 exact lp _ 0 0 (by unfold Kg;omega) (by omega)
theorem Zyu{K:Nat}{l:List Zp}(h:Zs9 K l)(hK:K≤1000000): ∃v,Ze1 l=some (v,()):=by
 obtain⟨b,e⟩:=Zph h hK
 have hlen:=h.len
 have lp: ∀(N i:Nat) (n:Int),l.length-i<N→i≤l.length→ ∃v,Vc N l n (i:Int)=some (v,()):=by
  intro N
  induction N with
  |zero=>intro i n h;omega
  |succ N ih=>
   intro i n hN hi
   unfold Vc
   rw[e,K8,Option.bind_some]
   by_cases hh:i<l.length
   ·rw[Zb (by omega),Zq hh (by omega)]
    exact Qxb (P:=fun m b=>m=some (b,())) (ih (i+1) _ (by omega) (by omega)) ⟨_,rfl⟩
   ·rw[Zj (by omega)]
    exact⟨_,rfl⟩
 unfold Ze1
 exact lp _ 0 0 (by unfold Kf;omega) (by omega)
def T{α:Type}(m:Option α)(Q:α→Prop):Prop:= ∃y,m=some y∧Q y
abbrev TT{α:Type}(m:Option α):Prop:=T m fun _=>True
section
variable {α β:Type} {m n:Option α} {f:α→Option β} {Q:α→Prop} {R:β→Prop}
theorem T.bind(h:T m Q)(k: ∀y,Q y→T (f y) R):T (Option.bind m f) R:=by
 obtain⟨y,e,hy⟩:=h;rw[e];exact k y hy
theorem T.pure{y:α}(h:Q y):T (some y) Q:=⟨y,rfl,h⟩
theorem T.tt{y:α}:TT (some y):=⟨y,rfl,trivial⟩
theorem T.ite{c:Bool}(h1:c=true→T m Q)(h2:c=false→T n Q):T (bif c then m else n) Q:=by
 cases c
 ·exact h2 rfl
 ·exact h1 rfl
theorem T.if{c:Bool}(h1:T m Q)(h2:T n Q):T (bif c then m else n) Q:=T.ite (fun _=>h1) fun _=>h2
theorem T.guard{p:Prop}(hp:p)(h:T m Q):T (Zc p m) Q:=by rw[Zb hp];exact h
theorem T.mono{Q':α→Prop}(h:T m Q)(k: ∀y,Q y→Q' y):T m Q':=by
 obtain⟨y,e,hy⟩:=h;exact⟨y,e,k y hy⟩
theorem T.of{y:α}(e:m=some y)(h:Q y):T m Q:=⟨y,e,h⟩
end
theorem tt1{α:Type}{m:Option (α×Unit)}(h: ∃b,m=some (b,())):TT m:=by obtain⟨b,e⟩:=h;exact⟨_,e,trivial⟩
def FOK(f:Zh):Prop:=f.2.2.2.1.length≤1000
def Qpr(l:List Zh):Prop:=l.length≤1000∧ ∀f∈l,FOK f
def Qy7(K:Nat)(l:List Q2):Prop:=l.length≤K∧ ∀p∈l,Qpr p.2.1
theorem Qy7.mono{K K':Nat}{l:List Q2}(h:Qy7 K l)(hK:K≤K'):Qy7 K' l:=⟨Nat.le_trans h.1 hK,h.2⟩
structure Z9(K:Nat)(c:Zg):Prop where
 str:Zs9 K c.2.2.2.1
 pk:Qy7 K c.2.2.2.2.2.2.2.2.2.2.2.2.2.2.2.1
theorem Z9.mono{K K':Nat}{c:Zg}(h:Z9 K c)(hK:K≤K'):Z9 K' c:=⟨h.str.mono hK,h.pk.mono hK⟩
theorem Qwl{K:Nat}{l:List Q2}(h:Qy7 K l)(hK:K≤1000000): ∀(N i:Nat),l.length-i<N→i≤l.length→Ze7 N l (l.take i) (i:Int)=some (l,())
 |0,_,h,_=>by omega
 |N+1,i,hN,hi=>by
  have hl:=h.1
  unfold Ze7
  by_cases hh:i<l.length
  ·have hm:=(h.2 _ (Qu (d:=Qk) hh)).1
   rw[Zn (Zk (by omega)),Zb (by omega),Zb (by omega),show(i:Int).toNat=i from rfl,Zb (by unfold Qp;simp only[List.length_nil];omega)]
   simp only[List.nil_append]
   rw[Zb (by unfold Qp;simp only[List.length_take,List.length_singleton];omega),Zq hh (by omega)]
   have e:l.take i++ [((l.getD i Qk).1,((l.getD i Qk).2.1,()))]=l.take (i+1):=by
    rw[List.take_succ_eq_append_getElem hh,List.getD_eq_getElem?_getD,List.getElem?_eq_getElem hh];rfl
   rw[e]
   exact Qwl h hK N (i+1) (by omega) (by omega)
  ·rw[Zi (Zj (by omega)),List.take_of_length_le (by omega)]
theorem Q2n{K:Nat}{l:List Q2}(h:Qy7 K l)(hK:K≤1000000):Zpc l=some (l,()):=by
 unfold Zpc
 exact Qwl h hK _ 0 (by unfold Zip;omega) (by omega)
theorem Qwe{K:Nat}{c:Zg}(h:Z9 K c)(hK:K≤1000000)(t:Zg): ∀(N i:Nat),c.2.2.2.1.length-i<N→i≤c.2.2.2.1.length→
  Zkj N c t (c.1,(c.2.1,(c.2.2.1,(c.2.2.2.1.take i,c.2.2.2.2)))) (i:Int)=some (c,())
 |0,_,h,_=>by omega
 |N+1,i,hN,hi=>by
  have hl:=h.str.len
  unfold Zkj
  by_cases hh:i<c.2.2.2.1.length
  ·rw[Zn (Zk (by omega)),Zb (by omega),show(i:Int).toNat=i from rfl,Qew (h.str.all _ (Qu (d:=Zm) hh)) hK,Option.bind_some,
    Zb (by unfold Qp;simp only[List.length_take,List.length_singleton];omega),Zq hh (by omega)]
   have e:c.2.2.2.1.take i++ [c.2.2.2.1.getD i Zm]=c.2.2.2.1.take (i+1):=by
    rw[List.take_succ_eq_append_getElem hh,List.getD_eq_getElem?_getD,List.getElem?_eq_getElem hh];rfl
   simp only[e]
   exact Qwe h hK t N (i+1) (by omega) (by omega)
  ·rw[Zi (Zj (by omega)),List.take_of_length_le (by omega),Q2n h.pk hK];rfl
theorem Ko{K:Nat}{c:Zg}(h:Z9 K c)(hK:K≤1000000):Zy c=some (c,()):=by
 unfold Zy
 exact Qwe h hK _ _ 0 (by unfold Zmo;omega) (by omega)
theorem Zwv{f:Zh}(h:FOK f):TT (Jv f):=⟨_,Zu6 f (by unfold FOK at h;omega),trivial⟩
theorem Qjd{l:List Zh}(h:Qpr l):TT (Zio l):=by
 have lp: ∀(N i:Nat),l.length-i<N→i≤l.length→TT (W2 N l (i:Int)):=by
  intro N
  induction N with
  |zero=>intro i h;omega
  |succ N ih=>
   intro i hN hi
   have hl:=h.1
   unfold W2
   refine T.ite (fun hc=> ?_) fun _=>T.tt
   have hc:=of_decide_eq_true hc
   refine T.guard (by omega) ((Zwv (h.2 _ (Qu (by omega)))).bind fun t _=>T.if T.tt ?_)
   rw[Zq (m:=l.length) (by omega) (by omega)]
   exact ih (i+1) (by omega) (by omega)
 unfold Zio
 exact lp _ 0 (by unfold J1;omega) (by omega)
theorem tIn(n a b:Int):TT (Zx n a b):=⟨_,Zth n a b,trivial⟩
theorem Quc(n:Int):TT (Qh n):=⟨_,Zdk n,trivial⟩
theorem Qlk{K:Nat}{l:List Zp}(h:Zs9 K l)(hK:K≤1000000):T (Yz l) fun r=>r.1=true→l.length≤24:=by
 have hlen:=h.len
 have lp: ∀(N i:Nat),l.length-i<N→i≤l.length→T (Yc N l (i:Int)) fun r=>r.1=true→l.length≤24:=by
  intro N
  induction N with
  |zero=>intro i h;omega
  |succ N ih=>
   intro i hN hi
   unfold Yc
   refine T.ite (fun hc=> ?_) fun _=>T.pure fun h=>by have:=of_decide_eq_true h;omega
   have hc:=of_decide_eq_true hc
   refine T.guard (by omega) ((tt1 (Zyd (h.all _ (Qu (by omega))) hK)).bind fun t _=>T.guard (fun _ _=>by omega) (T.guard (fun _ h=> ?_) (T.if (T.pure fun h=>by cases h) ?_)))
   ·have:=of_decide_eq_true h
    rw[Zw (by omega) (by omega)];omega
   ·rw[Zq (m:=l.length) (by omega) (by omega)]
    exact ih (i+1) (by omega) (by omega)
 unfold Yz
 exact lp _ 0 (by unfold Wf;omega) (by omega)
theorem Qpb{K:Nat}{c:Zg}(h:Z9 K c)(hK:K≤1000000):T (Z5 c) fun r=>r.1=true→c.2.2.2.1.length≤24:=by
 have lp: ∀(N i:Nat),c.2.2.2.2.2.2.2.2.2.2.2.2.2.2.2.1.length-i<N→i≤c.2.2.2.2.2.2.2.2.2.2.2.2.2.2.2.1.length→TT (Ji N c (i:Int)):=by
  intro N
  induction N with
  |zero=>intro i h;omega
  |succ N ih=>
   intro i hN hi
   have hl:=h.pk.1
   unfold Ji
   refine T.ite (fun hc=> ?_) fun _=> ?_
   ·have hc:=of_decide_eq_true hc
    refine T.guard (by omega) ((tIn _ _ _).bind fun t _=>T.guard (fun _ _=>by omega) (T.guard (fun _ h=> ?_) (T.guard (fun _=>by omega) (T.bind (Q:=fun _=>True) (T.if T.tt (Qjd (h.pk.2 _ (Qu (by omega))))) fun t2 _=>T.if T.tt ?_))))
    ·have:=of_decide_eq_true h
     rw[Zw (by omega) (by omega)];omega
    ·rw[Zq (m:=c.2.2.2.2.2.2.2.2.2.2.2.2.2.2.2.1.length) (by omega) (by omega)]
     exact ih (i+1) (by omega) (by omega)
   ·exact(tIn _ _ _).bind fun t _=>T.bind (Q:=fun _=>True) (T.if (tIn _ _ _) T.tt) fun t _=>T.bind (Q:=fun _=>True) (T.if (tIn _ _ _) T.tt) fun t _=>T.bind (Q:=fun _=>True) (T.if (tIn _ _ _) T.tt) fun t _=>
     T.bind (Q:=fun _=>True) (T.if (tt1 (Zyv h.str hK)) T.tt) fun t _=>T.bind (Q:=fun _=>True) (T.if (tt1 (Zyu h.str hK)) T.tt) fun t _=>T.tt
 unfold Z5
 have B: ∀{α β:Type} {b:Bool} {m n:Option α} {f:α→Option β} {R:β→Prop},TT m→TT n→(∀y,T (f y) R)→T (Option.bind (bif b then m else n) f) R:=fun h1 h2 h3=>(T.if h1 h2).bind fun y _=>h3 y
 exact(tt1 (Zqp _)).bind fun t _=>B T.tt (tt1 (Zqp _)) fun t=>T.bind (Q:=fun r=>r.1=true→c.2.2.2.1.length≤24) (T.if (T.pure fun h=>by cases h) (Qlk h.str hK)) fun t hs=>B T.tt (tt1 (Zj3 _)) fun t=>B T.tt (tt1 (Zqr _)) fun t=>B T.tt (tt1 (Zwu _)) fun t=>B T.tt (tt1 (Zwu _)) fun t=>B T.tt (tt1 (Zso _)) fun t=>B T.tt (tt1 (Zso _)) fun t=>
  T.ite (fun _=>T.pure fun h=>by cases h) fun hc=>(lp _ 0 (by unfold Ks;omega) (by omega)).mono fun _ _ _=>hs (by simp at hc;simp[hc])
theorem Znw{K:Nat}{c:Zg}(h:Z9 K c)(hK:K≤1000000):TT (Z5 c):=(Qpb h hK).mono fun _ _=>trivial
theorem Qsq{K:Nat}{c:Zg}(h:Z9 K c)(hK:K≤1000000):T (Yw c) fun r=>r.1=true→c.2.2.2.1.length≤24:=by
 unfold Yw
 exact(Qpb h hK).bind fun t ht=>T.bind (Q:=fun _=>True) (T.if ⟨_,rfl,trivial⟩ T.tt) fun t2 _=>T.pure fun h=>ht (by simp at h;exact h.1)
theorem Zm5{K:Nat}{c:Zg}(h:Z9 K c)(hK:K≤1000000):TT (Yw c):=(Qsq h hK).mono fun _ _=>trivial
theorem Xel(n:Int):T (Zbu n) fun r=>r.1=true→0<n∧n≤64:=⟨_,rfl,fun h=>by simp at h;omega⟩
theorem Q2x(n:Int):T (Zh9 n) fun r=>Zbk 0 r.1:=by
 unfold Zh9 Zu5
 have z:Zbk 0 Zdt:={cells:=(by simp[Zdt]),e0:=Int.le_refl _,eK:=Int.le_refl _,pend:=Zk1 _,flight:=Zk1 _,acked:=Zk1 _}
 refine T.bind (Q:=fun r=>r.2.1=true→r.1.2.2.2.1.length≤64∧r.1.2.2.1=0) ((Xel n).bind fun t ht=>T.ite (fun _=>T.pure fun h=>by cases h) fun hc=> ?_) fun t ht=>T.ite (fun _=>T.pure z) fun hc=>T.pure ?_
 ·have:=ht (by simpa using hc)
  exact T.guard (by unfold Qp;omega) (T.pure fun _=>⟨by simp;omega,rfl⟩)
 ·have:=ht (by simpa using hc)
  exact {cells:=this.1,e0:=by simp only[this.2];omega,eK:=by simp only[this.2];omega,pend:=Zk1 _,flight:=Zk1 _,acked:=Zk1 _}
theorem Qs3(v:Bool)(i:Int)(o p:Zqf):T (Zb9 v i o p) fun r=>Jo 0 r.1:=by
 obtain⟨b1,e1⟩:=Zqp o
 obtain⟨b2,e2⟩:=Zqp p
 obtain⟨b3,e3⟩:=Qxg v i
 obtain⟨b4,e4⟩:=Z81 v i
 obtain⟨⟨s,b5,u⟩,e5,h5⟩:=Q2x o.1
 obtain⟨c6,b6,e6⟩:=Qwk p.2.1
 obtain⟨c7,b7,e7⟩:=Qjg o.2.1 o.2.2.1
 obtain⟨r,e8,h8⟩:=Ql6
 unfold Zb9 Wh
 simp only[e1,e2,e3,e4,e5,e6,e7,e8,Zdk,K8,Option.bind_some]
 generalize ((_||_)||_:Bool)=x
 cases x
 ·exact T.pure (by exact⟨h5,h8⟩)
 ·exact T.pure Q8m
theorem Xbw(v:Bool)(n:Int):TT (Zer v n):=by
 unfold Zer Zkc
 simp only[Zdk,Option.bind_some,K8]
 exact⟨_,rfl,trivial⟩
theorem Xai(n:Int):TT (Vv n):=by
 unfold Vv
 simp only[Zdk,Option.bind_some]
 exact⟨_,rfl,trivial⟩
theorem Q5k(c:Zk2):TT (Zsx c):=by
 unfold Zsx
 exact(tt1 (Zwu c)).bind fun t _=>T.if T.tt (T.if T.tt T.tt)
theorem Q9w(n:Int)(s u:Bool):TT (Zxi n s u):=by
 unfold Zxi
 have j: ∀u i,TT (Zmf u i):=fun u i=>by unfold Zmf;exact T.if T.tt T.tt
 exact(tIn _ _ _).bind fun t _=>T.if T.tt (T.guard (by omega) (T.if (j _ _) (j _ _)))
theorem Ys{K K':Nat}{l:List Zp}{s:Zp}(h:Zs9 K l)(hs:Jo K' s)(hk:K≤K')(hK:K'+1≤500000):T (Xo l s) fun r=>Zs9 (K'+1) r.1:=by
 obtain⟨y,e,h1,h2⟩:=Qkf (h.mono hk) hs (by omega)
 have:=h.len
 exact⟨_,e,⟨by simp only;omega,fun x hx=>(h2 x hx).mono (by omega)⟩⟩
theorem Zds{K:Nat}{c:Zg}(h:Z9 K c)(hK:K≤1000000)(n:Int):T (Q0 c n) fun r=>Jo K r.1:=by
 obtain⟨s,b,e,hs⟩:=Q8e h.str hK n
 exact⟨_,e,hs⟩
theorem Z9.up{K K':Nat}{c:Zg}(h:Z9 K c)(hk:K≤K'){l:List Zp}(hl:Zs9 K' l):Z9 K' (c.1,(c.2.1,(c.2.2.1,(l,c.2.2.2.2)))):=⟨hl,h.pk.mono hk⟩
theorem Qti{K:Nat}{c:Zg}(h:Z9 K c)(hK:K+1≤500000)(u:Bool):T (Zkd c u) fun r=>Z9 (K+1) r.2.1:=by
 unfold Zkd
 rw[Ko h (by omega),Option.bind_some]
 have j2: ∀u x t i b,Z9 K x→T (Ze0 u c t x i b) fun r=>Z9 (K+1) r.2.1:=fun u x t i b hx=>by
  unfold Ze0
  exact T.if (T.pure (hx.mono (by omega))) ((Q9w _ _ _).bind fun t1 _=>(Qs3 _ _ _ _).bind fun t2 h2=>(Ys hx.str (h2.mono (by omega)) (Nat.le_refl _) (by omega)).bind fun t3 h3=>T.pure (hx.up (by omega) h3))
 have j1: ∀u t n,T (Zez u c t c n) fun r=>Z9 (K+1) r.2.1:=fun u t n=>by
  unfold Zez
  exact(Q5k _).bind fun t1 _=>T.if (j2 _ _ _ _ _ ⟨h.str,h.pk⟩) (j2 _ _ _ _ _ ⟨h.str,h.pk⟩)
 exact(Zm5 h (by omega)).bind fun t _=>T.if (T.pure (h.mono (by omega))) (T.if (j1 _ _ _) (j1 _ _ _))
theorem Qmo{K:Nat}{c:Zg}(h:Z9 K c)(i:Int)(d:List UInt8)(hK:K+d.length+1≤500000):T (Zbj c i d) fun r=>Z9 (K+d.length+1) r.2.1:=by
 unfold Zbj
 rw[Ko h (by omega),Option.bind_some]
 refine(Zds h (by omega) i).bind fun s hs=>(Zm5 h (by omega)).bind fun t _=>T.if (T.pure (h.mono (by omega))) ?_
 obtain⟨x,n,e,h1⟩:=Qmn hs.snd d (by omega)
 rw[e,Option.bind_some]
 exact(Ys h.str (K':=K+d.length) (by exact⟨h1.mono (by omega),hs.rcv.mono (by omega)⟩) (by omega) (by omega)).bind fun t3 h3=>T.pure (h.up (by omega) h3)
theorem Qeo{K:Nat}{c:Zg}(h:Z9 K c)(hK:K+1≤500000)(i:Int):T (Zgf c i) fun r=>Z9 (K+1) r.1:=by
 unfold Zgf
 rw[Ko h (by omega),Option.bind_some]
 refine(Zds h (by omega) i).bind fun s hs=>(Zm5 h (by omega)).bind fun t _=>T.if (T.pure (h.mono (by omega))) ?_
 obtain⟨x,ok,e,h1⟩:=Qzh hs.snd (by omega)
 rw[e,Option.bind_some]
 exact T.if (T.pure (h.mono (by omega))) ((Ys h.str (by exact⟨h1,hs.rcv⟩) (Nat.le_refl _) (by omega)).bind fun t3 h3=>T.pure (h.up (by omega) h3))
theorem Qtu(w:Kn)(n:Int):TT (Zmj w n):=by
 unfold Zmj
 exact(tt1 (Zqr w)).bind fun t _=>T.if T.tt T.tt
theorem Qx7{K:Nat}{x:Zg}{s:Zp}(h:Z9 K x)(hs:Jo K s)(n:Int):T (Zrk x s n) fun r=>Z9 K r.2.1∧Jo K r.2.2.1:=by
 unfold Zrk
 exact(Qtu _ _).bind fun t _=>(Qtu _ _).bind fun t2 _=>T.pure ⟨⟨h.str,h.pk⟩,⟨hs.snd,hs.rcv⟩⟩
theorem Q5t{K:Nat}{r:Qo}(h:Zqd K r.2.1)(hK:K≤1000000):TT (Zkb r):=by
 unfold Zkb
 exact(tt1 (Zl3 h hK)).bind fun t _=>T.tt
theorem Q7k{K:Nat}{s:Zp}(h:Jo K s)(hK:K≤1000000):TT (Zme s):=by
 unfold Zme Zo6 Zo5
 exact(tt1 (Zyd h hK)).bind fun t _=>T.bind (Q:=fun _=>True) (T.if T.tt T.tt) fun t _=>T.bind (Q:=fun _=>True) (T.if (T.bind (Q:=fun _=>True) (T.if T.tt (Q5t h.rcv hK)) fun t _=>T.tt) T.tt) fun t _=>T.tt
theorem Qv3(a:Zdh):TT (Zoh a):=by
 unfold Zoh
 exact(tt1 (Zso a)).bind fun t _=>T.if T.tt T.tt
theorem Q9m{K:Nat}{x:Zg}{s:Zp}(h:Z9 K x)(hs:Jo K s)(hK:K≤1000000):T (Zu8 x s) fun r=>Z9 K r.2.1∧Jo K r.2.2.1:=by
 unfold Zu8
 exact T.bind (Q:=fun _=>True) (T.if T.tt (Xbw _ _)) fun t _=>T.bind (Q:=fun _=>True) (T.if T.tt (Q7k hs hK)) fun t _=>T.if (T.pure ⟨h,hs⟩) ((Xai _).bind fun t _=>T.if ((Qv3 _).bind fun t _=>T.pure ⟨⟨h.str,h.pk⟩,⟨hs.snd,hs.rcv⟩⟩) ((Qv3 _).bind fun t _=>T.pure ⟨⟨h.str,h.pk⟩,⟨hs.snd,hs.rcv⟩⟩))
theorem Zz3{K K':Nat}{x:Zg}{s:Zp}(h:Z9 K x)(hs:Jo K' s)(hk:K≤K')(hK:K'+1≤500000):T (Zdp x s) fun r=>Z9 (K'+1) r.2.1:=by
 unfold Zdp
 exact(Q9m (h.mono hk) hs (by omega)).bind fun t ht=>(Ys ht.1.str ht.2 (Nat.le_refl _) hK).bind fun t3 h3=>T.pure (ht.1.up (by omega) h3)
theorem Qtv{K:Nat}{c:Zg}(h:Z9 K c)(hK:K+1≤500000)(i m:Int):T (Zaj c i m) fun r=>Z9 (K+1) r.1.2.2.1:=by
 unfold Zaj
 rw[Ko h (by omega),Option.bind_some]
 refine(Zds h (by omega) i).bind fun s hs=>(Zm5 h (by omega)).bind fun t _=>T.if (T.pure (h.mono (by omega))) ?_
 obtain⟨d,r,e,h1,-⟩:=Qf0 hs.rcv (by omega) m
 rw[e,Option.bind_some]
 have j: ∀t x s d r,Z9 K x→Jo K s→T (V5 t x s d r) fun r=>Z9 (K+1) r.1.2.2.1:=fun t x s d r hx hs=>by
  unfold V5
  exact(Zz3 hx hs (Nat.le_refl _) hK).bind fun t3 h3=>T.pure h3
 exact T.if ((Qx7 h (by exact⟨hs.snd,h1⟩) _).bind fun t ht=>j _ _ _ _ _ ht.1 ht.2) (j _ _ _ _ _ h (by exact⟨hs.snd,h1⟩))
theorem Qmf{K:Nat}{c:Zg}(h:Z9 K c)(hK:K+1≤500000)(i k:Int):T (Zik c i k) fun r=>Z9 (K+1) r.1.1:=by
 unfold Zik
 rw[Ko h (by omega),Option.bind_some]
 refine(Zds h (by omega) i).bind fun s hs=>(Zm5 h (by omega)).bind fun t _=>T.if (T.pure (h.mono (by omega))) ?_
 obtain⟨x,ok,e,h1⟩:=Qme hs.snd k (by omega)
 rw[e,Option.bind_some]
 exact T.if (T.pure (h.mono (by omega))) ((Zz3 h (by exact⟨h1,hs.rcv⟩) (Nat.le_refl _) hK).bind fun t3 h3=>T.pure h3)
theorem Q6v(s:List UInt8)(hs:s.length≤1000000)(b:Int): ∀(N i:Nat) (out:List (List UInt8)) (p:List UInt8),s.length-i<N→i≤s.length→out.length≤i→p.length≤i→(∀x∈out,x.length≤i)→
  T (W1 N s b out p (i:Int)) fun r=>r.1.length≤s.length+1∧ ∀x∈r.1,x.length≤s.length
 |0,_,_,_,h,_,_,_,_=>by omega
 |N+1,i,out,p,hN,hi,ho,hp,hx=>by
  have app: ∀{k:Nat} {o:List (List UInt8)} {x},(∀x∈o,x.length≤k)→x.length≤k→ ∀z∈o++ [x],z.length≤k:=fun ho hx z hz=>by
   rcases List.mem_append.1 hz with hz|hz
   ·exact ho z hz
   ·rw[List.mem_singleton.1 hz];exact hx
  unfold W1
  refine T.ite (fun hc=> ?_) fun _=>T.guard (by unfold Qp;simp only[List.length_singleton];omega) (T.pure ⟨by simp;omega,app (fun x h=>by have:=hx x h;omega) (by omega)⟩)
  have hc:i<s.length:=by have:=of_decide_eq_true hc;omega
  refine T.guard (by omega) (T.if (T.guard (by unfold Qp;simp only[List.length_singleton];omega) ?_) (T.guard ?_ (T.guard ?_ ?_)))
  ·unfold Ze6
   rw[Zq hc (by omega)]
   exact Q6v s hs b N (i+1) _ _ (by omega) (by omega) (by simp;omega) (by simp) (app (fun x h=>by have:=hx x h;omega) (by omega))
  ·rw[Zq hc (by omega)];omega
  ·unfold Z8;simp only[List.length_take,List.length_drop];rw[Zq hc (by omega)];omega
  ·unfold Ze6
   rw[Zq hc (by omega)]
   exact Q6v s hs b N (i+1) _ _ (by omega) (by omega) (by simp only;omega) (by simp only[List.length_append,List.length_take,List.length_drop];omega) (fun x h=>by have:=hx x h;omega)
theorem Xeb(s:List UInt8)(hs:s.length≤1000000)(b:Int):T (Zp5 s b) fun r=>r.1.length≤s.length+1∧ ∀x∈r.1,x.length≤s.length:=by
 unfold Zp5
 exact Q6v s hs b _ 0 _ _ (by unfold Zhi;omega) (by omega) (by simp) (by simp) (by simp)
theorem Q4l: ∀(N:Nat) (s:List UInt8),s.length<N→s.length≤1000000→T (Zki N s) fun r=>r.1.length≤s.length
 |0,_,h,_=>by omega
 |N+1,s,hN,hs=>by
  unfold Zki
  refine T.guard (fun h=> ?_) (T.ite (fun hc=> ?_) fun _=>T.pure (Nat.le_refl _))
  ·have:=of_decide_eq_true h
   rw[Zw (by omega) (by omega)];omega
  ·have: (s.length:Int)>0:=by simp at hc;omega
   refine T.guard (by rw[Zw (by omega) (by omega)];omega) ((Q4l N _ ?_ ?_).mono fun y hy=> ?_)
   all_goals (simp only[List.length_take,List.length_drop]at*;rw[Zw (by omega) (by omega)]at*;omega)
theorem Q4k: ∀(N:Nat) (s:List UInt8),s.length<N→s.length≤1000000→T (Zkh N s) fun r=>r.1.length≤s.length
 |0,_,h,_=>by omega
 |N+1,s,hN,hs=>by
  unfold Zkh
  refine T.guard (fun h=> ?_) (T.ite (fun hc=> ?_) fun _=>Q4l _ s (by unfold Zmn;omega) hs)
  ·have:=of_decide_eq_true h
   omega
  ·have: (s.length:Int)>0:=by simp at hc;omega
   refine T.guard (by omega) ((Q4k N _ ?_ ?_).mono fun y hy=> ?_)
   all_goals (simp only[List.length_take,List.length_drop]at*;omega)
theorem Xdx(s:List UInt8)(hs:s.length≤1000000):T (Zu7 s) fun r=>r.1.length≤s.length:=by
 unfold Zu7
 exact Q4k _ s (by unfold Zmm;omega) hs
theorem Xbq(p:Xq)(s:List UInt8)(hs:s.length≤100000):TT (Zjt p s):=by
 have lp: ∀(l:List (List UInt8)),l.length≤100001→(∀x∈l,x.length≤100000)→ ∀(t:Xq) (N i:Nat) (b:Xq),l.length-i<N→i≤l.length→TT (Yf N b t l (i:Int)):=by
  intro l hl hx t N
  induction N with
  |zero=>intro i b h;omega
  |succ N ih=>
   intro i b hN hi
   unfold Yf
   refine T.ite (fun hc=> ?_) fun _=>T.tt
   have hc:i<l.length:=by have:=of_decide_eq_true hc;omega
   have j: ∀b,TT (Kv (fun v=>Yf N v.1 v.2.1 v.2.2.1 v.2.2.2.1) b t l (i:Int)):=fun b=>by
    unfold Kv
    rw[Zq hc (by omega)]
    exact ih (i+1) _ (by omega) (by omega)
   refine T.guard (by omega) ((Xdx _ (by have:=hx _ (Qu (d:=[]) hc);rw[show(i:Int).toNat=i from rfl];omega)).bind fun t _=>T.if (j _) (T.if (j _) (T.guard (fun h=> ?_) (T.guard (fun h=> ?_) (T.guard (fun h=> ?_) (T.ite (fun h=>T.guard ?_ (j _)) fun _=>j _))))))
   all_goals (simp at h;omega)
 have j: ∀b t,TT (Za8 s b t):=fun b t=>by
  unfold Za8
  exact(Xeb s (by omega) 44).bind fun r hr=>lp _ (by omega) (fun x hx=>by have:=hr.2 x hx;omega) _ _ 0 _ (by unfold Zev;omega) (by omega)
 unfold Zjt
 have d:TT Wh:=⟨_,rfl,trivial⟩
 exact(tt1 (Zvp p)).bind fun t _=>T.if (d.bind fun t _=>j _ _) (j _ _)
theorem Qmh{K:Nat}{c:Zg}(h:Z9 K c)(hK:K+1≤500000)(i:Int)(x:List UInt8)(hx:x.length≤100000):T (Zil c i x) fun r=>Z9 (K+1) r.1:=by
 unfold Zil
 rw[Ko h (by omega),Option.bind_some]
 exact(Zds h (by omega) i).bind fun s hs=>(Zm5 h (by omega)).bind fun t _=>T.if (T.pure (h.mono (by omega))) ((Xbq _ x hx).bind fun t _=>(Ys h.str (by exact⟨hs.snd,hs.rcv⟩) (Nat.le_refl _) hK).bind fun t3 h3=>T.pure (h.up (by omega) h3))
theorem Qak(w:Kn):TT (Zh7 w):=by
 unfold Zh7
 exact(tt1 (Zqr w)).bind fun t _=>T.guard (fun _=>by omega) T.tt
theorem Qfv(w:Kn)(n t:Int):TT (Zii w n t):=by
 unfold Zii
 have j: ∀n w t,TT (Zhf n w t):=fun n w t=>⟨_,rfl,trivial⟩
 exact(Qak w).bind fun t _=>T.bind (Q:=fun _=>True) (T.if T.tt (tIn _ _ _)) fun t _=>T.bind (Q:=fun _=>True) (T.if T.tt (tIn _ _ _)) fun t _=>T.if T.tt (T.if (j _ _ _) (j _ _ _))
theorem Q0h(c:Zg):TT (Zop c):=by
 unfold Zop
 exact(Qak _).bind fun t _=>T.if ((Qfv _ _ _).bind fun t _=>T.tt) T.tt
theorem Qs1(a:Zdh):TT (Zmh a):=by
 unfold Zmh
 exact(tt1 (Zso a)).bind fun t _=>T.guard (fun _=>by omega) T.tt
theorem Q0v(a:Zdh):TT (Zo9 a):=by
 unfold Zo9
 exact(Qs1 a).bind fun t _=>T.if T.tt T.tt
theorem Qex(a:Zdh)(b:Bool):TT (Zg3 a b):=by
 unfold Zg3
 exact(Qs1 a).bind fun t _=>T.if ((Q0v a).bind fun t _=>T.tt) T.tt
theorem Qwg(c:Zg)(s:Zp):TT (Zms c s):=by
 unfold Zms
 exact T.if T.tt ((Qak _).bind fun t _=>T.if ((Qfv _ _ _).bind fun t _=>T.tt) T.tt)
theorem Qwh(c:Zdh):TT (Zoj c):=by
 unfold Zoj
 exact(tt1 (Zj3 c)).bind fun t _=>T.tt
theorem Q6p(c:Zdh):TT (Zga c):=by
 unfold Zga
 exact(tt1 (Zj3 c)).bind fun t _=>T.if T.tt T.tt
theorem Xa0(c:Zdh):TT (Zid c):=by
 unfold Zid
 exact(tt1 (Zj3 c)).bind fun t _=>T.if T.tt T.tt
def FL(n:Nat)(l:List Zh):Prop:=l.length≤n∧ ∀f∈l,FOK f
theorem FL.one{n:Nat}{l:List Zh}{f:Zh}(h:FL n l)(hf:FOK f):FL (n+1) (l++ [f]):=⟨by have:=h.1;simp;omega,fun x hx=>by
 rcases List.mem_append.1 hx with hx|hx
 ·exact h.2 x hx
 ·rw[List.mem_singleton.1 hx];exact hf⟩
theorem FL.app{n m:Nat}{l k:List Zh}(h:FL n l)(hk:FL m k):FL (n+m) (l++k):=⟨by have:=h.1;have:=hk.1;simp;omega,fun x hx=>by
 rcases List.mem_append.1 hx with hx|hx
 ·exact h.2 x hx
 ·exact hk.2 x hx⟩
theorem FL.mono{n m:Nat}{l:List Zh}(h:FL n l)(hn:n≤m):FL m l:=⟨Nat.le_trans h.1 hn,h.2⟩
theorem FL.nil:FL 0 []:=⟨Nat.le_refl _,by simp⟩
theorem Qob(k:Int)(i o:Int)(x):FOK ((k,(i,(o,(([]:List UInt8),x)))):Zh):=Nat.zero_le _
theorem FL.cap{n:Nat}{l k:List Zh}(h:FL n l)(hn:n+k.length≤10000):l.length+k.length≤Qp:=by have:=h.1;unfold Qp;omega
theorem Q5d(c:Zg)(s:Zp):T (Zrm c s) fun r=>FL 4 r.1:=by
 have j3: ∀o,FL 3 o→T (Zgw s o) fun r=>FL 4 r.1:=fun o ho=>by
  unfold Zgw
  exact(Qwh _).bind fun t _=>T.if (T.guard (ho.cap (by simp)) (T.pure (ho.one (Qob _ _ _ _)))) (T.pure (ho.mono (by omega)))
 have j2: ∀o,FL 2 o→T (Zgv c s o) fun r=>FL 4 r.1:=fun o ho=>by
  unfold Zgv
  exact(Qwg _ _).bind fun t _=>T.if (T.guard (ho.cap (by simp)) (j3 _ (ho.one (Qob _ _ _ _)))) (j3 _ (ho.mono (by omega)))
 have j1: ∀o,FL 1 o→T (Zgu c s o) fun r=>FL 4 r.1:=fun o ho=>by
  unfold Zgu
  exact T.if (T.guard (ho.cap (by simp)) (j2 _ (ho.one (Qob _ _ _ _)))) (j2 _ (ho.mono (by omega)))
 unfold Zrm
 exact T.if (T.guard (FL.nil.cap (by simp)) (j1 _ (FL.nil.one (Qob _ _ _ _)))) (j1 _ (FL.nil.mono (by omega)))
theorem Z8i{K:Nat}{c:Zg}(h:Z9 K c)(hK:K≤1000000):T (Zjk c) fun r=>FL (4*c.2.2.2.1.length+6) r.1:=by
 have hl:=h.str.len
 have cap: ∀{n:Nat} {l k:List Zh},FL n l→n+k.length≤10000000→l.length+k.length≤Qp:=fun h hn=>by have:=h.1;unfold Qp;omega
 generalize hn:c.2.2.2.1.length=n at hl
 have j5: ∀o,FL (4*n+5) o→T (Za2 c o) fun r=>FL (4*n+6) r.1:=fun o ho=>by
  unfold Za2
  exact T.if (T.guard (cap ho (by simp;omega)) (T.pure (ho.one (Qob _ _ _ _)))) (T.pure (ho.mono (by omega)))
 have j4: ∀o,FL (4*n+4) o→T (Za1 c o) fun r=>FL (4*n+6) r.1:=fun o ho=>by
  unfold Za1
  exact T.if (T.guard (cap ho (by simp;omega)) (j5 _ (ho.one (Qob _ _ _ _)))) (j5 _ (ho.mono (by omega)))
 have lp: ∀(N i:Nat) (o:List Zh),n-i<N→i≤n→FL (4*i+3) o→T (Za3 N c o (i:Int)) fun r=>FL (4*n+6) r.1:=by
  intro N
  induction N with
  |zero=>intro i o h;omega
  |succ N ih=>
   intro i o hN hi ho
   unfold Za3
   refine T.ite (fun hc=> ?_) fun hc=> ?_
   ·have hc:=of_decide_eq_true hc
    refine T.guard (by omega) ((Q5d _ _).bind fun t ht=>T.guard (cap ho (by have:=ht.1;omega)) ?_)
    rw[Zq (m:=n) (by omega) (by omega)]
    exact ih (i+1) _ (by omega) (by omega) ((ho.app ht).mono (by omega))
   ·have hc:=of_decide_eq_false hc
    have ho:=ho.mono (m:=4*n+3) (by omega)
    exact(Qwh _).bind fun t _=>T.if (T.guard (cap ho (by simp;omega)) (j4 _ (ho.one (Qob _ _ _ _)))) (j4 _ (ho.mono (by omega)))
 have j3: ∀o,FL 3 o→T (Za0 c o) fun r=>FL (4*n+6) r.1:=fun o ho=>by
  unfold Za0
  exact lp _ 0 o (by unfold Zei;omega) (by omega) ho
 have j2: ∀o,FL 2 o→T (Zaz c o) fun r=>FL (4*n+6) r.1:=fun o ho=>by
  unfold Zaz
  exact(Qex _ _).bind fun t _=>T.if (T.guard (cap ho (by simp)) (j3 _ (ho.one (Qob _ _ _ _)))) (j3 _ (ho.mono (by omega)))
 have j1: ∀o,FL 1 o→T (Zay c o) fun r=>FL (4*n+6) r.1:=fun o ho=>by
  unfold Zay
  exact(Qex _ _).bind fun t _=>T.if (T.guard (cap ho (by simp)) (j2 _ (ho.one (Qob _ _ _ _)))) (j2 _ (ho.mono (by omega)))
 unfold Zjk
 exact(Zm5 h hK).bind fun t _=>T.if (T.pure (FL.nil.mono (by omega))) ((Q0h c).bind fun t _=>T.if (T.guard (cap FL.nil (by simp)) (j1 _ (FL.nil.one (Qob _ _ _ _)))) (j1 _ (FL.nil.mono (by omega))))
theorem Q1b(n:Int):T (Zon n) fun r=>0≤r.1∧r.1≤8:=by
 unfold Zon
 exact T.if (T.pure (by simp)) (T.if (T.pure (by simp)) (T.if (T.pure (by simp)) (T.if (T.pure (by simp)) (T.pure (by simp)))))
theorem Q61(n k:Int): ∀(N m:Nat) (s:List UInt8),m<N→m≤8→s.length+m≤8→T (Yd N n k s ((m:Int)-1)) fun r=>r.1.length≤8
 |0,_,_,h,_,_=>by omega
 |N+1,0,s,_,_,hs=>by
  unfold Yd
  exact T.ite (fun h=>by simp at h) fun _=>T.pure (by simpa using hs)
 |N+1,m+1,s,hN,hm,hs=>by
  unfold Yd
  have j: ∀b,T (Jg (fun v=>Yd N v.1 v.2.1 v.2.2.1 v.2.2.2.1) n k s (((m+1:Nat):Int)-1) b) fun r=>r.1.length≤8:=fun b=>by
   unfold Jg
   obtain⟨d,e,hd⟩:=Q2q b
   have e2:IntKind.i64.wrap (((m+1:Nat):Int)-1-1)=(m:Int)-1:=by rw[Zw (by omega) (by omega)];omega
   rw[e,Option.bind_some,e2]
   exact T.guard (by unfold Z8;simp only;omega) (Q61 n k N m _ (by omega) (by omega) (by simp only[List.length_append];omega))
  exact T.ite (fun _=>T.guard (by rw[Zw (by omega) (by omega)];omega) (T.if (T.if (j _) (T.if (j _) (T.if (j _) (j _)))) (j _))) fun h=>by have:=of_decide_eq_false h;omega
theorem Xee(n:Int):T (Zo0 n) fun r=>r.1.length≤8:=by
 unfold Zo0
 refine(Q1b n).bind fun t ht=> ?_
 obtain⟨m,hm⟩:=Int.eq_ofNat_of_zero_le ht.1
 have e2:IntKind.i64.wrap (t.1-1)=(m:Int)-1:=by rw[Zw (by omega) (by omega)];omega
 rw[e2]
 exact Q61 n _ _ m [] (by unfold Zh2;omega) (by omega) (by simp;omega)
theorem Q3v(l:List Int)(hl:l.length≤1000): ∀(N i:Nat) (s:List UInt8),l.length-i<N→i≤l.length→s.length≤8*i→T (Zc8 N l s (i:Int)) fun r=>r.1.length≤8*l.length
 |0,_,_,h,_,_=>by omega
 |N+1,i,s,hN,hi,hs=>by
  unfold Zc8
  refine T.ite (fun hc=> ?_) fun _=>T.pure (by simp only;omega)
  have hc:=of_decide_eq_true hc
  refine T.guard (by omega) ((Q1b _).bind fun t _=>T.if (T.pure (by simp)) (T.guard (by omega) ((Xee _).bind fun t ht=>T.guard (by unfold Z8;omega) ?_)))
  rw[Zq (m:=l.length) (by omega) (by omega)]
  exact Q3v l hl N (i+1) _ (by omega) (by omega) (by simp only[List.length_append];omega)
theorem Xdc(l:List Int)(hl:l.length≤1000):T (X5 l) fun r=>r.1.length≤8*l.length:=by
 unfold X5
 exact Q3v l hl _ 0 _ (by unfold Zg0;omega) (by omega) (by simp)
theorem Qr4{f:Zh}(h:FOK f):T (Zd5 f) fun r=>r.1.length≤1100:=by
 have q: ∀l:List Int,l.length≤4→T (X5 l) fun r=>r.1.length≤32:=fun l hl=>(Xdc l (by omega)).mono fun y hy=>by omega
 have one: ∀l:List Int,l.length≤4→T (Option.bind (X5 l) fun t=>some (t.1,())) fun r=>r.1.length≤1100:=fun l hl=>(q l hl).bind fun t ht=>T.pure (by simp only;omega)
 have two: ∀l:List Int,l.length≤4→T (Option.bind (X5 l) fun t=>Zc (t.1.length+f.2.2.2.1.length≤Z8)<|some (t.1++f.2.2.2.1,())) fun r=>r.1.length≤1100:=fun l hl=>(q l hl).bind fun t ht=>by
  unfold FOK at h
  exact T.guard (by unfold Z8;omega) (T.pure (by simp only[List.length_append];omega))
 have j1: ∀k,T (Zha f k) fun r=>r.1.length≤1100:=fun k=>T.if (two _ (by simp)) (two _ (by simp))
 have j4: ∀k,T (Zhd f k) fun r=>r.1.length≤1100:=fun k=>one _ (by simp)
 have j3: ∀b,T (Zhc f b) fun r=>r.1.length≤1100:=fun b=>T.if (one _ (by simp)) (T.if (j4 _) (j4 _))
 have j2: ∀k b,T (Zhb f k b) fun r=>r.1.length≤1100:=fun k b=>T.if (one _ (by simp)) (T.if (j3 _) (j3 _))
 unfold Zd5
 exact(Zwv h).bind fun t _=>T.if (T.pure (by simp)) (T.if (one _ (by simp)) (T.if (one _ (by simp)) (T.if (T.if (j1 _) (j1 _)) (T.if (j2 _ _) (j2 _ _)))))
theorem Zvj{f:Zh}(h:FOK f):T (Zen f) fun r=>0≤r.1∧r.1≤1100:=by
 unfold Zen
 exact(Qr4 h).bind fun t ht=>T.pure (by simp only;omega)
theorem Qzv(l:List Zh)(h:Qpr l): ∀(N i:Nat) (s:List UInt8),l.length-i<N→i≤l.length→s.length≤1100*i→T (Za4 N l s (i:Int)) fun r=>r.1.length≤400
 |0,_,_,h,_,_=>by omega
 |N+1,i,s,hN,hi,hs=>by
  have hl:=h.1
  unfold Za4
  refine T.ite (fun hc=> ?_) fun _=>T.ite (fun _=>T.pure (by simp)) fun h=>T.pure (by have:=of_decide_eq_false h;simp only;omega)
  have hc:=of_decide_eq_true hc
  refine T.guard (by omega) ((Qr4 (h.2 _ (Qu (by omega)))).bind fun t ht=>T.if (T.pure (by simp)) (T.guard (by unfold Z8;omega) ?_))
  rw[Zq (m:=l.length) (by omega) (by omega)]
  exact Qzv l h N (i+1) _ (by omega) (by omega) (by simp only[List.length_append];omega)
theorem Q60{l:List Zh}(h:Qpr l):T (Zjq l) fun r=>r.1.length≤400:=by
 unfold Zjq
 exact Qzv l h _ 0 _ (by unfold Zel;omega) (by omega) (by simp)
theorem Q9o{K:Nat}{c:Zg}{s:Zp}(hs:Jo K s)(k:Int):T (Zva c s k) fun r=>Jo K r.1.1:=by
 unfold Zva
 exact T.if (T.pure (by exact⟨hs.snd,hs.rcv⟩)) (T.if (T.pure (by exact⟨hs.snd,hs.rcv⟩)) (T.if ((Qwg _ _).bind fun t _=>T.if (T.pure (by exact⟨hs.snd,hs.rcv⟩)) (T.pure (by exact⟨hs.snd,hs.rcv⟩))) (T.if ((Q6p _).bind fun t _=>T.pure (by exact⟨hs.snd,hs.rcv⟩)) (T.pure hs))))
theorem Ql5{K:Nat}{c:Zg}(h:Z9 K c)(hK:K+1≤500000)(f:Zh):T (Znf c f) fun r=>Z9 (K+1) r.1:=by
 unfold Znf
 rw[Ko h (by omega),Option.bind_some]
 have m:=h.mono (K':=K+1) (by omega)
 exact(Znw h (by omega)).bind fun t _=>T.if (T.pure m) (T.if ((Q0h c).bind fun t _=>T.pure (by exact⟨m.str,m.pk⟩)) (T.if (T.if ((Qex _ _).bind fun t _=>T.pure (by exact⟨m.str,m.pk⟩)) ((Qex _ _).bind fun t _=>T.pure (by exact⟨m.str,m.pk⟩)))
  (T.if ((Q6p _).bind fun t _=>T.pure (by exact⟨m.str,m.pk⟩)) (T.if (T.if (T.pure (by exact⟨m.str,m.pk⟩)) (T.pure (by exact⟨m.str,m.pk⟩)))
   ((Zds h (by omega) _).bind fun s hs=>T.if ((Q9o hs _).bind fun t ht=>(Ys h.str ht (Nat.le_refl _) hK).bind fun t3 h3=>T.pure (h.up (by omega) h3)) (T.pure m))))))
theorem Xak{K:Nat}{c:Zg}(h:Z9 K c)(hK:K≤1000000):T (Zpd c) fun r=>r.1.length≤K:=by
 have hl:=h.str.len
 have lp: ∀(N i:Nat) (o:List Z1),c.2.2.2.1.length-i<N→i≤c.2.2.2.1.length→o.length≤i→T (V6 N c o (i:Int)) fun r=>r.1.length≤K:=by
  intro N
  induction N with
  |zero=>intro i o h;omega
  |succ N ih=>
   intro i o hN hi ho
   unfold V6
   refine T.ite (fun hc=> ?_) fun _=>T.pure (by simp only;omega)
   have hc:=of_decide_eq_true hc
   have j: ∀o,o.length≤i+1→T (Ze8 (fun v=>V6 N v.1 v.2.1 v.2.2.1) c o (i:Int)) fun r=>r.1.length≤K:=fun o ho=>by
    unfold Ze8
    rw[Zq (m:=c.2.2.2.1.length) (by omega) (by omega)]
    exact ih (i+1) o (by omega) (by omega) ho
   exact T.guard (by omega) (T.if (T.guard (by unfold Qp;simp only[List.length_singleton];omega) (j _ (by simp;omega))) (j _ (by omega)))
 unfold Zpd
 exact lp _ 0 _ (by unfold Zir;omega) (by omega) (by simp)
theorem Xal(l:List Z1)(hl:l.length≤1000000)(n:Int):T (Zpe l n) fun r=>r.1.length≤l.length:=by
 have lp: ∀(N i:Nat) (o:List Z1),l.length-i<N→i≤l.length→o.length≤i→T (V7 N l n o (i:Int)) fun r=>r.1.length≤l.length:=by
  intro N
  induction N with
  |zero=>intro i o h;omega
  |succ N ih=>
   intro i o hN hi ho
   unfold V7
   refine T.ite (fun hc=> ?_) fun _=>T.pure (by simp only;omega)
   have hc:=of_decide_eq_true hc
   have j: ∀o,o.length≤i+1→T (Ze9 (fun v=>V7 N v.1 v.2.1 v.2.2.1 v.2.2.2.1) l n o (i:Int)) fun r=>r.1.length≤l.length:=fun o ho=>by
    unfold Ze9
    rw[Zq (m:=l.length) (by omega) (by omega)]
    exact ih (i+1) o (by omega) (by omega) ho
   exact T.guard (by omega) (T.if (T.guard (by omega) (T.guard (by unfold Qp;simp only[List.length_singleton];omega) (j _ (by simp;omega)))) (j _ (by omega)))
 unfold Zpe
 exact lp _ 0 _ (by unfold Zis;omega) (by omega) (by simp)
theorem Q6e(l:List Z1)(hl:l.length≤1000000):TT (Zji l):=by
 have lp: ∀(N i:Nat),l.length-i<N→i≤l.length→TT (Zax N l (i:Int)):=by
  intro N
  induction N with
  |zero=>intro i h;omega
  |succ N ih=>
   intro i hN hi
   unfold Zax
   refine T.ite (fun hc=> ?_) fun _=>T.tt
   have hc:=of_decide_eq_true hc
   refine T.guard (by omega) ((Quc _).bind fun t _=>T.guard (fun _=>by omega) (T.bind (Q:=fun _=>True) (T.if T.tt (tt1 (Zvp _))) fun t _=>T.guard (fun _ _=>by omega) (T.guard (fun _ h=> ?_) (T.if T.tt ?_))))
   ·have:=of_decide_eq_true h
    rw[Zw (by omega) (by omega)];omega
   ·rw[Zq (m:=l.length) (by omega) (by omega)]
    exact ih (i+1) (by omega) (by omega)
 unfold Zji
 exact lp _ 0 (by unfold Zeg;omega) (by omega)
theorem Q2u(l:List Z1)(hl:l.length≤1000000):T (Zo7 l) fun r=>r.1.length≤l.length:=by
 have lp: ∀(N i:Nat) (o:List Int) (b:Int),l.length-i<N→i≤l.length→o.length≤i→T (Jj N l o b (i:Int)) fun r=>r.1.length≤l.length:=by
  intro N
  induction N with
  |zero=>intro i o b h;omega
  |succ N ih=>
   intro i o b hN hi ho
   unfold Jj
   refine T.bind (Q:=fun _=>True) (T.if (Q6e l hl) T.tt) fun t _=>T.ite (fun hc=> ?_) fun _=>T.pure (by simp only;omega)
   have hc: (i:Int)<l.length:=by simp at hc;omega
   have j1: ∀o b,o.length≤i+1→T (Zew (fun v=>Jj N v.1 v.2.1 v.2.2.1 v.2.2.2.1) l o b (i:Int)) fun r=>r.1.length≤l.length:=fun o b ho=>by
    unfold Zew
    rw[Zq (m:=l.length) (by omega) (by omega)]
    exact ih (i+1) o b (by omega) (by omega) ho
   have j2: ∀o b,o.length≤i→T (Zex (fun v=>Jj N v.1 v.2.1 v.2.2.1 v.2.2.2.1) l o b (i:Int)) fun r=>r.1.length≤l.length:=fun o b ho=>by
    unfold Zex
    exact T.guard (by omega) (T.if (T.guard (by omega) (T.guard (by unfold Qp;simp only[List.length_singleton];omega) (j1 _ _ (by simp;omega)))) (j1 _ _ (by omega)))
   exact T.guard (by omega) (T.if (T.guard (by omega) (j2 _ _ (by simp))) (j2 _ _ ho))
 unfold Zo7
 exact lp _ 0 _ _ (by unfold Zh6;omega) (by omega) (by simp)
theorem Q8u(l:List Int)(hl:l.length≤10000000000)(n:Int):TT (Zs2 l n):=by
 have lp: ∀(N i:Nat),l.length-i<N→i≤l.length→TT (Zin N l n (i:Int)):=by
  intro N
  induction N with
  |zero=>intro i h;omega
  |succ N ih=>
   intro i hN hi
   unfold Zin
   refine T.ite (fun hc=> ?_) fun hc=>T.ite (fun _=>T.tt) fun h=>T.guard (by simp at h;have:=List.length_pos_iff.2 h;omega) T.tt
   have hc:=of_decide_eq_true hc
   refine T.guard (by omega) (T.if (T.guard (by omega) T.tt) ?_)
   rw[Zq (m:=l.length) (by omega) (by omega)]
   exact ih (i+1) (by omega) (by omega)
 unfold Zs2
 exact lp _ 0 (by unfold Zld;omega) (by omega)
theorem Q2z(l:List Z1)(hl:l.length≤100000)(n:Int):TT (Zo8 l n):=by
 unfold Zo8
 refine(Q2u l (by omega)).bind fun m hm=> ?_
 generalize m.1=m at hm
 have lp: ∀(N i:Nat) (o:List Int),l.length-i<N→i≤l.length→o.length≤i*m.length→TT (Jk N l n m o (i:Int)):=by
  intro N
  induction N with
  |zero=>intro i o h;omega
  |succ N ih=>
   intro i o hN hi ho
   have hb:i*m.length≤100000*100000:=Nat.mul_le_mul (by omega) (by omega)
   unfold Jk
   refine T.ite (fun hc=> ?_) fun _=>(Q8u o (by omega) n).bind fun t _=>T.tt
   have hc:i<l.length:=by have:=of_decide_eq_true hc;omega
   have l2: ∀(M k:Nat) (o:List Int),m.length-k<M→k≤m.length→o.length≤i*m.length+k→TT (V4 (fun v=>Jk N v.1 v.2.1 v.2.2.1 v.2.2.2.1 v.2.2.2.2.1) M l n m o (i:Int) (k:Int)):=by
    intro M
    induction M with
    |zero=>intro k o h;omega
    |succ M ih2=>
     intro k o hM hk ho
     unfold V4
     refine T.ite (fun hd=> ?_) fun hd=> ?_
     ·have hd:k<m.length:=by have:=of_decide_eq_true hd;omega
      have j: ∀o:List Int,o.length≤i*m.length+k+1→TT (Zey (fun v=>Jk N v.1 v.2.1 v.2.2.1 v.2.2.2.1 v.2.2.2.2.1) (fun v=>V4 (fun v=>Jk N v.1 v.2.1 v.2.2.1 v.2.2.2.1 v.2.2.2.2.1) M v.1 v.2.1 v.2.2.1 v.2.2.2.1 v.2.2.2.2.1 v.2.2.2.2.2.1) l n m o (i:Int) (k:Int)):=fun o ho=>by
       unfold Zey
       rw[Zq hd (by omega)]
       exact ih2 (k+1) o (by omega) (by omega) ho
      exact T.guard (by omega) (T.guard (by omega) (T.guard (fun _=>by omega) (T.if (T.guard (by omega) T.tt) (T.guard (by omega) (T.guard (by omega) (T.if (T.guard (by omega) (T.guard (by unfold Qp;simp only[List.length_singleton];omega) (j _ (by simp;omega)))) (j _ (by omega))))))))
     ·have hd:=of_decide_eq_false hd
      have e:k=m.length:=by omega
      rw[Zq hc (by omega)]
      exact ih (i+1) o (by omega) (by omega) (by rw[Nat.succ_mul];omega)
   exact l2 _ 0 o (by unfold Zic;omega) (by omega) ho
 exact lp _ 0 _ (by unfold Zib;omega) (by omega) (by simp)
theorem Q75{K:Nat}{c:Zg}(h:Z9 K c)(hK:K≤1000000)(i room:Int):T (Zs1 c i room) fun r=>r.1.2.1.length≤64:=by
 have z:Zrv.2.1.length≤64:=Nat.zero_le _
 have lp: ∀(t:Ku) (s:Zp) (m:Int),Jo K s→ ∀(N n:Nat),n<N→n≤60→T (Zih N i room t s m (n:Int)) fun r=>r.1.2.1.length≤64:=by
  intro t s m hs N
  induction N with
  |zero=>intro n h;omega
  |succ N ih=>
   intro n hn h60
   unfold Zih
   refine T.ite (fun hc=> ?_) fun _=>T.pure z
   have hc:=of_decide_eq_true hc
   obtain⟨p,ok,e,hp⟩:=Q5j hs.snd (n:Int) m (by omega)
   rw[e,Option.bind_some]
   have e2:IntKind.i64.wrap ((n:Int)-1)=((n-1:Nat):Int):=by rw[Zw (by omega) (by omega)];omega
   rw[e2]
   exact T.if (T.pure z) (T.bind (Q:=fun r=>FOK r.1) (T.pure (by unfold FOK;simp only;omega)) fun f hf=>(Zvj hf).bind fun t _=>T.if (T.pure (by simp only;omega)) (ih (n-1) (by omega) (by omega)))
 have cl: ∀c,TT (Zag c):=fun c=>by
  unfold Zag
  exact(tt1 (Zj3 c)).bind fun t _=>T.if T.tt T.tt
 unfold Zs1
 refine(Zds h hK i).bind fun s hs=>(Znw h hK).bind fun t _=>T.ite (fun _=>T.pure z) fun hc=>(cl _).bind fun t _=> ?_
 have hr: ¬room<3:=by simp at hc;omega
 obtain⟨n,hn⟩:=Int.eq_ofNat_of_zero_le (show 0≤min room 60 by omega)
 simp only[hn]
 exact lp _ _ _ hs _ n (by unfold Zlc;omega) (by omega)
theorem Quh(c:Zdh)(n:Int):TT (Zml c n):=by
 unfold Zml
 exact(tt1 (Zj3 c)).bind fun t _=>T.if T.tt T.tt
theorem Q5f{K:Nat}{c:Zg}(h:Z9 K c)(hK:K+1≤500000)(i:Int)(p:Ku):T (Zmg c i p) fun r=>Z9 (K+1) r.1:=by
 unfold Zmg
 rw[Ko h (by omega),Option.bind_some]
 refine(Zds h (by omega) i).bind fun s hs=>(Znw h (by omega)).bind fun t _=>T.if (T.pure (h.mono (by omega))) ?_
 obtain⟨x,ok,e,h1⟩:=Q5y hs.snd p (by omega)
 rw[e,Option.bind_some]
 exact(Quh _ _).bind fun t _=>(Quh _ _).bind fun t _=>T.if (T.pure (h.mono (by omega))) ((Ys h.str (by exact⟨h1,hs.rcv⟩) (Nat.le_refl _) hK).bind fun t3 h3=>T.pure (by exact⟨h3,h.pk.mono (by omega)⟩))
theorem Q7m{K:Nat}{c:Zg}(h:Z9 K c)(hK:K+1≤500000)(i:Int):T (Zs4 c i) fun r=>Z9 (K+1) r.2.1:=by
 unfold Zs4
 exact(Zds h (by omega) i).bind fun s hs=>(Xa0 _).bind fun t _=>(Xa0 _).bind fun t _=>(Ys h.str (by exact⟨hs.snd,hs.rcv⟩) (Nat.le_refl _) hK).bind fun t3 h3=>T.pure (by exact⟨h3,h.pk.mono (by omega)⟩)
theorem Q63{K F:Nat}(hK:K≤90000)(hF:F≤1000000): ∀(N i:Nat) (x:Zg) (fr:List Zh) (room:Int) (sk:List Int),200-i<N→i≤200→Z9 (K+i) x→FL (F+i) fr→sk.length≤i→
  T (Zal N x fr room sk (i:Int)) fun r=>Z9 (K+200) r.2.1∧FL (F+200) r.1.1
 |0,_,_,_,_,_,h,_,_,_,_=>by omega
 |N+1,i,x,fr,room,sk,hN,hi,hx,hf,hs=>by
  unfold Zal
  refine T.ite (fun hc=> ?_) fun hc=>T.pure ⟨hx.mono (by omega),hf.mono (by omega)⟩
  have hc:i<200:=by have:=of_decide_eq_true hc;omega
  refine(Xak hx (by omega)).bind fun w hw=> ?_
  have j1: ∀(x:Zg) (fr:List Zh) (room:Int) (sk:List Int),Z9 (K+i+1) x→FL (F+i+1) fr→sk.length≤i+1→
    T (Zkl (fun v=>Zal N v.1 v.2.1 v.2.2.1 v.2.2.2.1 v.2.2.2.2.1) x fr room sk (i:Int)) fun r=>Z9 (K+200) r.2.1∧FL (F+200) r.1.1:=fun x fr room sk hx hf hs=>by
   unfold Zkl
   rw[Zq hc (by omega)]
   exact Q63 hK hF N (i+1) x fr room sk (by omega) (by omega) hx hf hs
  have j2: ∀(id:Int) (p:Ku) (y:Zg) (ok:Bool),p.2.1.length≤64→Z9 (K+i+1) y→
    T (Y1 (fun v=>Zal N v.1 v.2.1 v.2.2.1 v.2.2.2.1 v.2.2.2.2.1) x fr room sk (i:Int) id p y ok) fun r=>Z9 (K+200) r.2.1∧FL (F+200) r.1.1:=fun id p y ok hp hy=>by
   unfold Y1
   exact T.if (T.pure ⟨hx.mono (by omega),hf.mono (by omega)⟩) (T.bind (Q:=fun r=>FOK r.1) (T.pure (by unfold FOK;simp only;omega)) fun f hf2=>T.guard (by have:=hf.1;unfold Qp;simp only[List.length_singleton];omega) ((Zvj hf2).bind fun t _=>j1 _ _ _ _ hy (hf.one hf2) (by omega)))
  have l2: ∀(M k:Nat) (l:List Z1),sk.length-k<M→k≤sk.length→l.length≤K+i→
    T (Zkm (fun v=>Zal N v.1 v.2.1 v.2.2.1 v.2.2.2.1 v.2.2.2.2.1) M x fr room sk (i:Int) l (k:Int)) fun r=>Z9 (K+200) r.2.1∧FL (F+200) r.1.1:=by
   intro M
   induction M with
   |zero=>intro k l h;omega
   |succ M ih=>
    intro k l hM hk hl
    unfold Zkm
    refine T.ite (fun hd=> ?_) fun hd=> ?_
    ·have hd:=of_decide_eq_true hd
     refine T.guard (by omega) ((Xal l (by omega) _).bind fun t ht=> ?_)
     rw[Zq (m:=sk.length) (by omega) (by omega)]
     exact ih (k+1) _ (by omega) (by omega) (by omega)
    ·simp only[J2,Jb]
     exact(Q2z l (by omega) _).bind fun n _=>T.if (T.pure ⟨hx.mono (by omega),hf.mono (by omega)⟩) ((Q75 hx (by omega) _ _).bind fun p hp=>T.if
      ((Q7m hx (by omega) _).bind fun t ht=>T.guard (by unfold Qp;simp only[List.length_singleton];omega) (j1 _ _ _ _ ht (hf.mono (by omega)) (by simp;omega)))
      ((Q5f hx (by omega) _ _).bind fun t ht=>j2 _ _ _ _ hp ht))
  exact l2 _ 0 w.1 (by unfold Zmr;omega) (by omega) hw
theorem Q34{K F:Nat}(hK:K≤90000)(hF:F≤1000000){x:Zg}{fr:List Zh}(hx:Z9 K x)(hf:FL F fr)(room:Int):T (Zvb x fr room) fun r=>Z9 (K+200) r.2.1∧FL (F+200) r.1.1:=by
 unfold Zvb
 exact Q63 hK hF _ 0 x fr room [] (by unfold Zmq;omega) (by omega) hx hf (by simp)
theorem Qr3{K:Nat}{c:Zg}(h:Z9 K c)(hK:K≤80000)(b:Int):T (Zah c b) fun r=>Z9 (K+1000) r.1.2.2.1:=by
 have lp: ∀(t:Zg) (l:List Zh),FL 606 l→ ∀(N i:Nat) (x:Zg) (fr:List Zh) (room:Int),l.length-i<N→i≤l.length→Z9 (K+i) x→FL i fr→
   T (Yp N c t x fr room l (i:Int)) fun r=>Z9 (K+1000) r.1.2.2.1:=by
  intro t l hl N
  have h606:=hl.1
  induction N with
  |zero=>intro i x fr room h;omega
  |succ N ih=>
   intro i x fr room hN hi hx hf
   have j1: ∀(x:Zg) (fr:List Zh) (room:Int),i<l.length→Z9 (K+i+1) x→FL (i+1) fr→
     T (V2 (fun v=>Yp N v.1 v.2.1 v.2.2.1 v.2.2.2.1 v.2.2.2.2.1 v.2.2.2.2.2.1 v.2.2.2.2.2.2.1) c t x fr room l (i:Int)) fun r=>Z9 (K+1000) r.1.2.2.1:=fun x fr room hc hx hf=>by
    unfold V2
    rw[Zq hc (by omega)]
    exact ih (i+1) x fr room (by omega) (by omega) hx hf
   unfold Yp
   refine T.ite (fun hc=> ?_) fun hc=> ?_
   ·have hc:=of_decide_eq_true hc
    have hm:=hl.2 _ (Qu (d:=Xk) (show i<l.length by omega))
    exact T.guard (by omega) ((Zvj hm).bind fun t _=>T.if (T.guard (by omega) ((Zvj hm).bind fun t _=>T.guard (by omega) ((Ql5 hx (by omega) _).bind fun t ht=>T.guard (by omega) (T.guard (by have:=hf.1;unfold Qp;simp only[List.length_singleton];omega) (j1 _ _ _ (by omega) ht (hf.one hm)))))) (j1 _ _ _ (by omega) (hx.mono (by omega)) (hf.mono (by omega))))
   ·refine(Q34 (by omega) (by omega) hx hf _).bind fun r hr=>T.if (T.pure (hr.1.mono (by omega))) ?_
    have hp:=hr.1.pk.1
    have hf:Qpr r.1.1:=⟨by have:=hr.2.1;omega,hr.2.2⟩
    exact T.guard (by unfold Qp;simp only[List.length_singleton];omega) ((Q60 hf).bind fun t _=>T.pure (by exact⟨hr.1.str.mono (by omega),⟨by simp only[List.length_append,List.length_singleton];omega,fun p hp=>by
     rcases List.mem_append.1 hp with hp|hp
     ·exact hr.1.pk.2 p hp
     ·rw[List.mem_singleton.1 hp];exact hf⟩⟩))
 unfold Zah
 rw[Ko h (by omega),Option.bind_some]
 exact(Qsq h (by omega)).bind fun t ht=>T.bind (Q:=fun _=>True) (T.if T.tt (tIn _ _ _)) fun t _=>T.ite (fun _=>T.pure (h.mono (by omega))) fun hc=>(Z8i h (by omega)).bind fun l hl=>by
  have:=ht (by simp at hc;simp[hc])
  exact lp _ _ (hl.mono (by omega)) _ 0 _ _ _ (by unfold Zcl;omega) (by omega) h FL.nil
theorem Qsp(n:Int){K:Nat}(h25:25≤K)(hK:K≤400000): ∀(N m:Nat) (c:Zg),m<N→c.2.2.2.1.length+m≤24→Z9 K c→T (Xc N c n ((m:Int)-1)) fun r=>Z9 K r.2.1
 |0,_,_,h,_,_=>by omega
 |N+1,0,c,_,_,h=>by
  unfold Xc
  exact T.ite (fun h=>by simp at h) fun _=>T.pure h
 |N+1,m+1,c,hN,hm,h=>by
  unfold Xc
  simp only[J2,Jb]
  refine T.ite (fun _=>(Qs3 _ _ _ _).bind fun s hs=> ?_) fun h=>by have:=of_decide_eq_false h;omega
  unfold Y0
  have e:IntKind.i64.wrap (((m+1:Nat):Int)-1-1)=(m:Int)-1:=by rw[Zw (by omega) (by omega)];omega
  rw[e]
  obtain⟨y,e,h1,h2⟩:=Qkf h.str (hs.mono (Nat.zero_le K)) (by omega)
  rw[e,Option.bind_some]
  exact Qsp n h25 hK N m _ (by omega) (by simp only;omega) ⟨⟨by simp only;omega,h2⟩,h.pk⟩
theorem Q7l{K:Nat}{c:Zg}(h25:25≤K)(hK:K≤400000)(h:Z9 K c)(n:Int)(m:Nat)(hm:c.2.2.2.1.length+m≤24):T (Znj c n (m:Int)) fun r=>Z9 K r.2.1:=by
 unfold Znj
 rw[Zw (by omega) (by omega)]
 exact Qsp n h25 hK _ m c (by unfold Zgs;omega) hm h
theorem inT(n a b:Int):T (Zx n a b) fun r=>r.1=true→a≤n∧n≤b:=⟨_,Zth n a b,fun h=>by simpa using h⟩
theorem Q7h(a:Zdh):T (Wy a) fun r=>r.1=true→a.2.1≤1152921504606846976∧0≤a.2.2.1∧a.2.2.1≤a.2.1:=by
 unfold Wy
 have B: ∀{b:Bool} {n l h:Int} {β:Type} {f:Bool×Unit→Option β} {R:β→Prop},(∀r:Bool×Unit,(r.1=true→l≤n∧n≤h)→T (f r) R)→T (Option.bind (bif b then Zx n l h else some (false,())) f) R:=fun k=>T.bind (T.if (inT _ _ _) (T.pure fun h=>by cases h)) k
 exact(inT _ _ _).bind fun t1 h1=>B fun t2 h2=>B fun t3 h3=>B fun t4 h4=>T.pure fun h=>by
  simp only[Bool.and_eq_true]at h
  have:=h2 h.1.1.1.2
  have:=h3 h.1.1.2
  omega
theorem Q5x(a:Zdh)(n:Int):T (Zk0 a n) fun r=>0≤r.2.1∧r.2.1≤1152921504606846976:=by
 unfold Zk0
 refine(Q7h a).bind fun t ht=>T.ite (fun _=>T.pure (by simp)) fun hc=>T.pure ?_
 simp at hc
 have:=ht hc.1.1
 simp only
 rw[Zw (n:=n+1) (by omega) (by omega),Zw (n:=n+1-a.2.2.1) (by omega) (by omega)]
 omega
theorem Zuq{K:Nat}{c:Zg}(h:Z9 K c)(h25:25≤K)(hK:K≤400000)(i:Int):T (Wx c i) fun r=>Z9 K r.1:=by
 have hl:=h.str.len
 have j3: ∀t x (n:Nat),x.2.2.2.1.length+n≤24→Z9 K x→T (Zb5 i t x (n:Int)) fun r=>Z9 K r.1:=fun t x n hn hx=>by
  unfold Zb5
  exact(Q7l h25 hK hx i n hn).bind fun r hr=>T.pure hr
 have j2: ∀t b n is,0≤n→n≤1152921504606846976→T (Zr i c t c b n is) fun r=>Z9 K r.1:=fun t b n is h0 h1=>by
  unfold Zr
  refine T.ite (fun _=>T.pure h) fun hc=> ?_
  have hn: (c.2.2.2.1.length:Int)+n≤24:=by
   simp at hc
   have:=hc.2
   rw[Zw (by omega) (by omega)]at this
   omega
  obtain⟨n,rfl⟩:=Int.eq_ofNat_of_zero_le h0
  exact(Xai i).bind fun t _=>T.if (j3 _ _ n (by simp only;omega) (by exact⟨h.str,h.pk⟩)) (j3 _ _ n (by simp only;omega) (by exact⟨h.str,h.pk⟩))
 have j1: ∀t a,T (Zb4 i c t c a) fun r=>Z9 K r.1:=fun t a=>by
  unfold Zb4
  simp only[J2,Jb]
  exact(tt1 (Q9g i)).bind fun t _=>(Q5x _ _).bind fun t ht=>j2 _ _ _ _ ht.1 ht.2
 unfold Wx
 rw[Ko h (by omega),Option.bind_some]
 exact(Znw h (by omega)).bind fun t _=>T.bind (Q:=fun _=>True) (T.if T.tt (Quc i)) fun t _=>T.if (T.pure h) (T.bind (Q:=fun _=>True) (tt1 (by obtain⟨v,e,-⟩:=Z93 c.2.2.2.1 i (by omega);exact⟨v,e⟩)) fun t _=>T.if (T.pure h) ((Xbw _ _).bind fun t _=>T.if (T.pure h) ((Xai i).bind fun t _=>T.if (j1 _ _) (j1 _ _))))
theorem Qwv(w:Kn)(n:Int):TT (Zom w n):=by
 unfold Zom
 exact(tt1 (Zqr w)).bind fun t _=>T.if T.tt T.tt
theorem Q33{K:Nat}{x:Zg}{s:Zp}(h:Z9 K x)(hs:Jo K s)(hK:K≤1000000)(e:Int):T (Zrj x s e) fun r=>Z9 K r.2.1∧Jo K r.2.2.1:=by
 have nb:TT (Zsv s.2.2.2.1 e):=by
  unfold Zsv
  exact(tt1 (Zl3 hs.rcv hK)).bind fun t _=>T.bind (Q:=fun _=>True) (T.if T.tt (Quc _)) fun t _=>T.if T.tt T.tt
 unfold Zrj
 exact nb.bind fun t _=>T.if (T.pure ⟨h,hs⟩) ((Qwv _ _).bind fun t _=>(Qwv _ _).bind fun t _=>T.if (T.pure ⟨h,hs⟩) (T.pure ⟨⟨h.str,h.pk⟩,⟨hs.snd,hs.rcv⟩⟩))
theorem Xa5(s:Bool)(n:Int):TT (Zeh s n):=tt1 (Qxg s n)
theorem Q8g(s:Bool)(n:Int):TT (J9 s n):=tt1 (Z81 s n)
theorem Q2h{K:Nat}{c:Zg}{f:Zh}(h:Z9 K c)(hf:FOK f)(h25:25≤K)(hK:K≤390000):T (Zo1 c f) fun r=>Z9 (K+f.2.2.2.1.length+2) r.1.1:=by
 have m:=h.mono (K':=K+f.2.2.2.1.length+2) (by omega)
 have cp: ∀v:Int,T (Option.bind (Zy c) fun t=>some ((t.1,(v,())),())) fun r=>Z9 (K+f.2.2.2.1.length+2) r.1.1:=fun v=>by
  rw[Ko h (by omega),Option.bind_some];exact T.pure m
 unfold Zo1
 refine(Znw h (by omega)).bind fun t _=>T.bind (Q:=fun _=>True) (T.if T.tt (Zwv hf)) fun t _=>T.if (cp 7) ((Q8g _ _).bind fun t _=>T.if (cp 5) ((Zuq h h25 (by omega) _).bind fun x hx=>T.if (cp _) ((Zds hx (by omega) _).bind fun s hs=> ?_)))
 obtain⟨r,v,e,hr⟩:=Q01 hs.rcv f.2.2.1 f.2.2.2.1 f.2.2.2.2.1 (by unfold FOK at hf;omega)
 rw[e,Option.bind_some]
 unfold FOK at hf
 exact(Q33 hx hs (by omega) _).bind fun y hy=>T.if (cp _) (T.if (cp _) ((Zz3 (K':=K+f.2.2.2.1.length+1) hy.1 (by exact⟨hy.2.snd.mono (by omega),hr.mono (by omega)⟩) (by omega) (by omega)).bind fun t ht=>T.pure (ht.mono (by omega))))
theorem Qz8{K:Nat}{c:Zg}{f:Zh}(h:Z9 K c)(hf:FOK f)(h25:25≤K)(hK:K≤390000):T (Zne c f) fun r=>Z9 (K+f.2.2.2.1.length+2) r.1.1:=by
 have m:=h.mono (K':=K+f.2.2.2.1.length+2) (by omega)
 have cp: ∀v:Int,T (Option.bind (Zy c) fun t=>some ((t.1,(v,())),())) fun r=>Z9 (K+f.2.2.2.1.length+2) r.1.1:=fun v=>by
  rw[Ko h (by omega),Option.bind_some];exact T.pure m
 unfold Zne
 refine(Znw h (by omega)).bind fun t _=>T.bind (Q:=fun _=>True) (T.if T.tt (Zwv hf)) fun t _=>T.if (cp 7) ((Q8g _ _).bind fun t _=>T.if (cp 5) ((Zuq h h25 (by omega) _).bind fun x hx=>T.if (cp _) ((Zds hx (by omega) _).bind fun s hs=> ?_)))
 obtain⟨r,v,e,hr⟩:=Qyt hs.rcv (by omega) f.2.2.2.2.2.1 f.2.2.2.2.2.2.2.1
 rw[e,Option.bind_some]
 have j: ∀(t x:Zg) (s:Zp),Z9 K x→Jo K s→T (Zdc t x s r) fun r=>Z9 (K+f.2.2.2.1.length+2) r.1.1:=fun t x s hx hs=>by
  unfold Zdc
  exact(Zz3 hx (by exact⟨hs.snd,hr⟩) (Nat.le_refl _) (by omega)).bind fun t ht=>T.pure (ht.mono (by omega))
 exact(Q33 hx hs (by omega) _).bind fun y hy=>T.if (cp _) (T.if (cp _) (T.if ((Qx7 hy.1 hy.2 _).bind fun z hz=>j _ _ _ hz.1 hz.2) (j _ _ _ hy.1 hy.2)))
theorem Q2i{K:Nat}{c:Zg}{f:Zh}(h:Z9 K c)(hf:FOK f)(h25:25≤K)(hK:K≤390000):T (Zo2 c f) fun r=>Z9 (K+f.2.2.2.1.length+2) r.1.1:=by
 have m:=h.mono (K':=K+f.2.2.2.1.length+2) (by omega)
 have cp: ∀v:Int,T (Option.bind (Zy c) fun t=>some ((t.1,(v,())),())) fun r=>Z9 (K+f.2.2.2.1.length+2) r.1.1:=fun v=>by
  rw[Ko h (by omega),Option.bind_some];exact T.pure m
 unfold Zo2
 refine(Znw h (by omega)).bind fun t _=>T.bind (Q:=fun _=>True) (T.if T.tt (Zwv hf)) fun t _=>T.if (cp 7) ((Xa5 _ _).bind fun t _=>T.if (cp 5) ((Zuq h h25 (by omega) _).bind fun x hx=>T.if (cp _) ((Zds hx (by omega) _).bind fun s hs=> ?_)))
 obtain⟨r,v,e,hr⟩:=Qme hs.snd f.2.2.2.2.2.1 (by omega)
 rw[e,Option.bind_some]
 have j: ∀(t x:Zg) (s:Zp),Z9 K x→Jo K s→T (Zep t x s) fun r=>Z9 (K+f.2.2.2.1.length+2) r.1.1:=fun t x s hx hs=>by
  unfold Zep
  exact(Zz3 hx hs (Nat.le_refl _) (by omega)).bind fun t ht=>T.pure (ht.mono (by omega))
 exact T.if (j _ _ _ hx (by exact⟨hr,hs.rcv⟩)) (j _ _ _ hx hs)
theorem Qmb(c:Zdh)(n:Int):TT (Zkf c n):=by
 unfold Zkf
 exact(tt1 (Zj3 c)).bind fun t _=>T.bind (Q:=fun _=>True) (T.if T.tt (Quc _)) fun t _=>T.if T.tt T.tt
theorem Qma(c:Zk2)(n:Int):TT (Zke c n):=by
 unfold Zke
 exact(tt1 (Zwu c)).bind fun t _=>T.if T.tt T.tt
theorem Qz7{K:Nat}{c:Zg}{f:Zh}(h:Z9 K c)(hf:FOK f)(h25:25≤K)(hK:K≤390000):T (Znd c f) fun r=>Z9 (K+f.2.2.2.1.length+2) r.1:=by
 have m:=h.mono (K':=K+f.2.2.2.1.length+2) (by omega)
 have cp: ∀v:Int,T (Option.bind (Zy c) fun t=>some (t.1,v,())) fun r=>Z9 (K+f.2.2.2.1.length+2) r.1:=fun v=>by
  rw[Ko h (by omega),Option.bind_some];exact T.pure m
 have e2: ∀t x,Z9 (K+f.2.2.2.1.length+2) x→T (Znk t x) fun r=>Z9 (K+f.2.2.2.1.length+2) r.1:=fun t x hx=>T.pure hx
 have e1: ∀t b,T (Ziq c f t b) fun r=>Z9 (K+f.2.2.2.1.length+2) r.1:=fun t b=>by
  unfold Ziq
  exact T.if (cp _) ((Zuq h h25 (by omega) _).bind fun x hx=>T.if (cp _) (T.if ((Zds hx (by omega) _).bind fun s hs=>(Qmb _ _).bind fun t _=>(Ys hx.str (by exact⟨hs.snd,hs.rcv⟩) (Nat.le_refl _) (by omega)).bind fun t3 h3=>e2 _ _ ((hx.up (by omega) h3).mono (by omega))) (e2 _ _ (hx.mono (by omega)))))
 have el:T (Zs3 c f) fun r=>Z9 (K+f.2.2.2.1.length+2) r.1:=by
  unfold Zs3
  exact(Xa5 _ _).bind fun t _=>T.if ((Q8g _ _).bind fun t _=>e1 _ _) (e1 _ _)
 have j1: ∀t x,Z9 (K+f.2.2.2.1.length+2) x→T (Zhe t x) fun r=>Z9 (K+f.2.2.2.1.length+2) r.1:=fun t x hx=>T.pure hx
 have j3: ∀t b,T (Zdb c f t c b) fun r=>Z9 (K+f.2.2.2.1.length+2) r.1:=fun t b=>by
  unfold Zdb
  exact T.if (el.bind fun r hr=>T.pure hr) (T.pure m)
 have j2: ∀t k b,T (Zda c f t c k b) fun r=>Z9 (K+f.2.2.2.1.length+2) r.1:=fun t k b=>by
  unfold Zda
  exact T.if (T.pure m) (T.if (j3 _ _) (j3 _ _))
 unfold Znd
 rw[Ko h (by omega),Option.bind_some]
 exact(Znw h (by omega)).bind fun t _=>T.bind (Q:=fun _=>True) (T.if T.tt (Zwv hf)) fun t _=>T.if (T.pure m) (T.if ((Qmb _ _).bind fun t _=>T.pure (by exact⟨m.str,m.pk⟩)) (T.if (T.if ((Qma _ _).bind fun t _=>j1 _ _ (by exact⟨m.str,m.pk⟩)) ((Qma _ _).bind fun t _=>j1 _ _ (by exact⟨m.str,m.pk⟩))) (T.if (j2 _ _ _) (j2 _ _ _))))
theorem Qlv{K:Nat}{c:Zg}{f:Zh}(h:Z9 K c)(hf:FOK f)(h25:25≤K)(hK:K≤390000):T (Zd6 c f) fun r=>Z9 (K+f.2.2.2.1.length+2) r.1.1:=by
 have j1: ∀t x e,Z9 (K+f.2.2.2.1.length+2) x→T (W8 t x e) fun r=>Z9 (K+f.2.2.2.1.length+2) r.1.1:=fun t x e hx=>T.pure hx
 unfold Zd6
 rw[Ko h (by omega),Option.bind_some]
 exact T.if ((Q2h h hf h25 hK).bind fun r hr=>j1 _ _ _ hr) (T.if ((Qz8 h hf h25 hK).bind fun r hr=>j1 _ _ _ hr) (T.if ((Q2i h hf h25 hK).bind fun r hr=>j1 _ _ _ hr) ((Qz7 h hf h25 hK).bind fun r hr=>j1 _ _ _ hr)))
theorem Q0s{K:Nat}{c:Zg}(h:Z9 K c)(hK:K≤1000000)(n:Int):T (Zok c n) fun r=>Qpr r.1.2.1:=by
 have hl:=h.pk.1
 have lp: ∀(t:Q2) (N i:Nat),c.2.2.2.2.2.2.2.2.2.2.2.2.2.2.2.1.length-i<N→i≤c.2.2.2.2.2.2.2.2.2.2.2.2.2.2.2.1.length→T (Zie N n c t (i:Int)) fun r=>Qpr r.1.2.1:=by
  intro t N
  induction N with
  |zero=>intro i h;omega
  |succ N ih=>
   intro i hN hi
   unfold Zie
   refine T.ite (fun hc=> ?_) fun hc=>T.pure ⟨Nat.zero_le _,fun f hf=>by cases hf⟩
   have hc:=of_decide_eq_true hc
   have hm:=h.pk.2 _ (Qu (d:=Qk) (show i<c.2.2.2.2.2.2.2.2.2.2.2.2.2.2.2.1.length by omega))
   refine T.guard (by omega) (T.if (T.guard (by omega) (T.guard ?_ (T.pure hm))) ?_)
   ·have:=hm.1
    unfold Qp
    rw[show(i:Int).toNat=i from rfl]
    simp only[List.length_nil];omega
   ·rw[Zq (m:=c.2.2.2.2.2.2.2.2.2.2.2.2.2.2.2.1.length) (by omega) (by omega)]
    exact ih (i+1) (by omega) (by omega)
 unfold Zok
 exact lp _ _ 0 (by unfold Zla;omega) (by omega)
theorem Q35{K:Nat}{c:Zg}(h:Z9 K c)(hK:K≤1000000)(n:Int):T (Zrn c n) fun r=>Z9 K r.2.1:=by
 have hl:=h.pk.1
 have lp: ∀(N i:Nat) (o:List Q2),c.2.2.2.2.2.2.2.2.2.2.2.2.2.2.2.1.length-i<N→i≤c.2.2.2.2.2.2.2.2.2.2.2.2.2.2.2.1.length→Qy7 i o→T (Zcy N c n o (i:Int)) fun r=>Z9 K r.2.1:=by
  intro N
  induction N with
  |zero=>intro i o h;omega
  |succ N ih=>
   intro i o hN hi ho
   unfold Zcy
   refine T.ite (fun hc=> ?_) fun hc=>T.pure ⟨h.str,ho.mono (by omega)⟩
   have hc:=of_decide_eq_true hc
   have hm:=h.pk.2 _ (Qu (d:=Qk) (show i<c.2.2.2.2.2.2.2.2.2.2.2.2.2.2.2.1.length by omega))
   have j: ∀o,Qy7 (i+1) o→T (Zkq (fun v=>Zcy N v.1 v.2.1 v.2.2.1 v.2.2.2.1) c n o (i:Int)) fun r=>Z9 K r.2.1:=fun o ho=>by
    unfold Zkq
    rw[Zq (m:=c.2.2.2.2.2.2.2.2.2.2.2.2.2.2.2.1.length) (by omega) (by omega)]
    exact ih (i+1) o (by omega) (by omega) ho
   exact T.guard (by omega) (T.if (T.guard (by omega) (T.guard (by have:=ho.1;unfold Qp;simp only[List.length_singleton];omega) (j _ ⟨by have:=ho.1;simp;omega,fun p hp=>by
    rcases List.mem_append.1 hp with hp|hp
    ·exact ho.2 p hp
    ·rw[List.mem_singleton.1 hp];exact hm⟩))) (j _ (ho.mono (by omega))))
 unfold Zrn
 exact lp _ 0 _ (by unfold Zmt;omega) (by omega) ⟨by simp,by simp⟩
theorem Q1m(f:Zh):TT (Kd f):=by
 have j: ∀b,TT (Xs b):=fun b=>by unfold Xs;exact T.if T.tt T.tt
 unfold Kd
 exact T.if (j _) (T.if (j _) (T.if (j _) (T.if (j _) (j _))))
theorem Q9q{K:Nat}{x:Zg}(h:Z9 K x)(hK:K+1≤500000)(f:Zh):T (Zvd x f) fun r=>Z9 (K+1) r.2.1:=by
 have m:=h.mono (K':=K+1) (by omega)
 have j2: ∀s,Jo K s→T (Zam x s) fun r=>Z9 (K+1) r.2.1:=fun s hs=>by
  unfold Zam
  exact(Ys h.str hs (Nat.le_refl _) hK).bind fun t ht=>T.pure (h.up (by omega) ht)
 have j1: ∀s b,Jo K s→T (Y2 x f s b) fun r=>Z9 (K+1) r.2.1:=fun s b hs=>by
  unfold Y2
  refine T.bind (Q:=fun _=>True) (T.if T.tt (Q1m f)) fun t _=>T.if (T.pure m) (T.if ?_ (T.if (j2 _ (by exact⟨hs.snd,hs.rcv⟩)) (T.if (j2 _ (by exact⟨hs.snd,hs.rcv⟩)) (T.if (j2 _ (by exact⟨hs.snd,hs.rcv⟩)) (j2 _ hs)))))
  refine T.bind (Q:=fun _=>True) ⟨_,rfl,trivial⟩ fun p _=> ?_
  obtain⟨y,e,hy⟩:=Q5e hs.snd p.1 (by omega)
  rw[e,Option.bind_some]
  exact j2 _ ⟨hy,hs.rcv⟩
 unfold Zvd
 simp only[J2,Jb]
 exact T.if (T.pure (by exact⟨m.str,m.pk⟩)) (T.if (T.if (T.pure (by exact⟨m.str,m.pk⟩)) (T.pure (by exact⟨m.str,m.pk⟩))) ((Zds h (by omega) _).bind fun s hs=>j1 _ _ hs))
theorem Xbm{K:Nat}{x:Zg}(h:Z9 K x)(hK:K+1≤500000)(f:Zh):T (Zxj x f) fun r=>Z9 (K+1) r.2.1:=by
 have m:=h.mono (K':=K+1) (by omega)
 have j2: ∀s,Jo K s→T (Zca x s) fun r=>Z9 (K+1) r.2.1:=fun s hs=>by
  unfold Zca
  exact(Zz3 h hs (Nat.le_refl _) hK).bind fun t ht=>T.pure ht
 have j1: ∀s b,Jo K s→T (Kk x f s b) fun r=>Z9 (K+1) r.2.1:=fun s b hs=>by
  unfold Kk
  refine T.bind (Q:=fun _=>True) (T.if T.tt (Q1m f)) fun t _=>T.if (T.pure m) (T.if ?_ (T.if ?_ (T.if (j2 _ (by exact⟨hs.snd,hs.rcv⟩)) (j2 _ hs))))
  ·refine T.bind (Q:=fun _=>True) ⟨_,rfl,trivial⟩ fun p _=> ?_
   obtain⟨y,e,hy⟩:=Q6a hs.snd p.1 (by omega)
   rw[e,Option.bind_some]
   exact j2 _ ⟨hy,hs.rcv⟩
  ·obtain⟨y,ok,e,hy⟩:=Q6b hs.snd (by omega)
   rw[e,Option.bind_some]
   exact T.if (j2 _ (by exact⟨hy,hs.rcv⟩)) (j2 _ (by exact⟨hy,hs.rcv⟩))
 unfold Zxj
 simp only[J2,Jb]
 exact(Zds h (by omega) _).bind fun s hs=>j1 _ _ hs
theorem Qsy{K:Nat}{c:Zg}(h:Z9 K c)(hK:K≤400000)(n:Int):T (Zai c n) fun r=>Z9 (K+1000) r.1.1:=by
 have m:=h.mono (K':=K+1000) (by omega)
 unfold Zai
 rw[Ko h (by omega),Option.bind_some]
 refine(Q0s h (by omega) n).bind fun p hp=>(Zm5 h (by omega)).bind fun t _=>T.if (T.pure m) ((Q35 h (by omega) n).bind fun x hx=> ?_)
 have hl:=hp.1
 have lp: ∀(t:Zg) (N i:Nat) (x:Zg),p.1.2.1.length-i<N→i≤p.1.2.1.length→Z9 (K+i) x→T (Zeu N t x p.1 (i:Int)) fun r=>Z9 (K+1000) r.1.1:=by
  intro t N
  induction N with
  |zero=>intro i x h;omega
  |succ N ih=>
   intro i x hN hi hx
   unfold Zeu
   refine T.ite (fun hc=> ?_) fun hc=>T.pure (hx.mono (by omega))
   have hc:=of_decide_eq_true hc
   refine T.guard (by omega) ((Q9q hx (by omega) _).bind fun y hy=> ?_)
   rw[Zq (m:=p.1.2.1.length) (by omega) (by omega)]
   exact ih (i+1) _ (by omega) (by omega) hy
 exact lp _ _ 0 _ (by unfold Zh5;omega) (by omega) hx
theorem Qvz{K:Nat}{c:Zg}(h:Z9 K c)(hK:K≤400000)(n:Int):T (Zb1 c n) fun r=>Z9 (K+1000) r.1.1:=by
 have m:=h.mono (K':=K+1000) (by omega)
 unfold Zb1
 rw[Ko h (by omega),Option.bind_some]
 refine(Q0s h (by omega) n).bind fun p hp=>(Zm5 h (by omega)).bind fun t _=>T.if (T.pure m) ((Q35 h (by omega) n).bind fun x hx=> ?_)
 have hl:=hp.1
 have lp: ∀(t:Zg) (N i:Nat) (x:Zg),p.1.2.1.length-i<N→i≤p.1.2.1.length→Z9 (K+i) x→T (Zf9 N t x p.1 (i:Int)) fun r=>Z9 (K+1000) r.1.1:=by
  intro t N
  induction N with
  |zero=>intro i x h;omega
  |succ N ih=>
   intro i x hN hi hx
   unfold Zf9
   refine T.ite (fun hc=> ?_) fun hc=>T.pure (hx.mono (by omega))
   have hc:=of_decide_eq_true hc
   refine T.guard (by omega) ((Xbm hx (by omega) _).bind fun y hy=> ?_)
   rw[Zq (m:=p.1.2.1.length) (by omega) (by omega)]
   exact ih (i+1) _ (by omega) (by omega) hy
 exact lp _ _ 0 _ (by unfold Zjh;omega) (by omega) hx
theorem Zcd(c:Qe)(n:Int)(h:Y3 c):T (Qa c n) fun r=>Y3 r.2.1∧0≤r.1.1∧(0<n→r.1.1<n):=by
 obtain⟨x,c',e,h1,h2,h3⟩:=Zvi c n h;exact⟨_,e,h1,h2,h3⟩
theorem Qg9(c:Qe)(n:Int)(h:Y3 c):T (Wj c n) fun r=>Y3 r.2.1:=by
 obtain⟨b,c',e,h1⟩:=Q6s c n h;exact⟨_,e,h1⟩
theorem Qk8(c:Qe)(l:List Int)(h:Y3 c)(hl:0<l.length):T (Vq c l) fun r=>Y3 r.2.1∧r.1.1∈l:=by
 obtain⟨b,c',e,h1,h2⟩:=Q6t c l h hl;exact⟨_,e,h1,h2⟩
theorem Q3d(c:Qe)(l:List (List UInt8))(h:Y3 c)(hl:0<l.length):T (Zi7 c l) fun r=>Y3 r.2.1∧r.1.1∈l:=by
 obtain⟨b,c',e,h1,h2⟩:=Qv4 c l h hl;exact⟨_,e,h1,h2⟩
theorem Q4j(c:Qe)(most:Nat)(h:Y3 c)(hm:most≤1000):T (Zi8 c (most:Int)) fun r=>Y3 r.2.1∧r.1.1.length≤most:=by
 obtain⟨t,c',e,h1,h2⟩:=Q6r c most h hm;exact⟨_,e,h1,h2⟩
theorem Xbn(f:Zh)(h:FOK f):T (Zi9 f) fun r=>FOK r.1:=by
 have j2: ∀t x b,FOK x→T (Zi1 f t x b) fun r=>FOK r.1:=fun t x b hx=>by
  unfold Zi1
  exact T.if (T.pure (by exact hx)) (T.pure (by exact hx))
 have j1: ∀t x,FOK x→T (Zi0 f t x) fun r=>FOK r.1:=fun t x hx=>by
  unfold Zi0
  exact T.if (T.pure (by exact hx)) (T.if (T.pure (by exact hx)) (T.if (T.pure (by exact h)) (T.if (j2 _ _ _ hx) (j2 _ _ _ hx))))
 unfold Zi9
 exact(Q1m f).bind fun t _=>T.if (j1 _ _ (Qob _ _ _ _)) (j1 _ _ (Qob _ _ _ _))
theorem Q37(c:Qe)(hc:Y3 c):T (Zrr c) fun r=>Y3 r.2.1∧FOK r.1.1:=by
 unfold Zrr
 exact(Qk8 c _ hc (by simp)).bind fun t1 h1=>(Zcd _ _ h1.1).bind fun t2 h2=>(Zcd _ _ h2.1).bind fun t3 h3=>(Q4j _ 6 h3.1 (by omega)).bind fun t4 h4=>(Qg9 _ _ h4.1).bind fun t5 h5=>(Zcd _ _ h5).bind fun t6 h6=>(Zcd _ _ h6.1).bind fun t7 h7=>(Zcd _ _ h7.1).bind fun t8 h8=>(Qg9 _ _ h8.1).bind fun t9 h9=>
  (Xbn _ (by unfold FOK;simp only;omega)).bind fun t hf=>T.pure ⟨h9,hf⟩
theorem Qwj(n:Int):TT (Zsw n):=(tIn _ _ _).bind fun t _=>T.if T.tt T.tt
theorem Qwi(n:Int):TT (Zsu n):=(tIn _ _ _).bind fun t _=>T.if T.tt T.tt
theorem Q2w(n:Int):TT (Zh8 n):=(Quc _).bind fun t _=>T.if T.tt T.tt
theorem Q2y(n m:Int):TT (Zia n m):=by obtain⟨c,b,e⟩:=Qjg n m;exact⟨_,e,trivial⟩
theorem Z9.zero{c:Zg}(h1:c.2.2.2.1=[])(h2:c.2.2.2.2.2.2.2.2.2.2.2.2.2.2.2.1=[]):Z9 0 c:=⟨⟨by rw[h1];simp,by rw[h1];simp⟩,⟨by rw[h2];simp,by rw[h2];simp⟩⟩
theorem Qs2(v:Bool)(o p:Zqf):T (Zng v o p) fun r=>Z9 0 r.1:=by
 unfold Zng
 exact(tt1 (Zqp o)).bind fun t _=>T.bind (Q:=fun _=>True) (T.if T.tt (tt1 (Zqp p))) fun t _=>T.if (T.pure (Z9.zero rfl rfl)) ((Q2w _).bind fun t _=>(Q2y _ _).bind fun t _=>(Qwj _).bind fun t _=>(Qwj _).bind fun t _=>(Qwi _).bind fun t _=>(Qwi _).bind fun t _=>T.pure (Z9.zero rfl rfl))
def SQ(K:Nat)(r: (Zg×Unit)×(Qe×Unit)):Prop:=Y3 r.2.1∧Z9 K r.1.1
theorem Q9p{K:Nat}{x:Zg}(h:Z9 K x)(h25:25≤K)(hK:K≤70000)(c:Qe)(hc:Y3 c):T (Zvc c x) (SQ (K+2000)):=by
 have m:=h.mono (K':=K+2000) (by omega)
 have j3: ∀c t k b,Y3 c→T (Zkp c x t x k b) (SQ (K+2000)):=fun c t k b hc=>by
  unfold Zkp
  simp only[J2]
  refine T.if ((Zcd c _ hc).bind fun t1 h1=>(Qr3 h (by omega) _).bind fun t2 h2=>T.pure ⟨h1.1,h2.mono (by omega)⟩) (T.if ((Q37 c hc).bind fun t1 h1=>(Qlv h h1.2 h25 (by omega)).bind fun t2 h2=>T.if (T.pure ⟨h1.1,h2.mono (by have:=h1.2;unfold FOK at this;omega)⟩) (T.pure ⟨h1.1,m⟩)) (T.if (T.ite (fun hp=>(Zcd c _ hc).bind fun t1 h1=> ?_) fun _=>T.pure ⟨hc,m⟩) (T.pure ⟨hc,m⟩)))
  have hp:=of_decide_eq_true hp
  exact T.guard ⟨h1.2.1,h1.2.2 (by omega)⟩ ((Qg9 _ _ h1.1).bind fun t2 h2=>T.if ((Qsy h (by omega) _).bind fun t3 h3=>T.pure ⟨h2,h3.mono (by omega)⟩) ((Qvz h (by omega) _).bind fun t3 h3=>T.pure ⟨h2,h3.mono (by omega)⟩))
 have j2: ∀c t i k b,Y3 c→T (Zko c x t i x k b) (SQ (K+2000)):=fun c t i k b hc=>by
  unfold Zko
  simp only[J2,Jb]
  refine T.if ((Q4j c 8 hc (by omega)).bind fun t1 h1=>(Qmo h _ _ (by omega)).bind fun t2 h2=>T.pure ⟨h1.1,h2.mono (by omega)⟩) (T.if ((Qg9 c _ hc).bind fun t1 h1=>T.if ((Qeo h (by omega) _).bind fun t2 h2=>T.pure ⟨h1,h2.mono (by omega)⟩) (T.pure ⟨h1,m⟩))
   (T.if ((Zcd c _ hc).bind fun t1 h1=>(Qtv h (by omega) _ _).bind fun t2 h2=>T.pure ⟨h1.1,h2.mono (by omega)⟩) (T.if ((Qg9 c _ hc).bind fun t1 h1=>T.if ((Zcd _ _ h1).bind fun t2 h2=>(Qmf h (by omega) _ _).bind fun t3 h3=>T.pure ⟨h2.1,h3.mono (by omega)⟩) ((Q3d _ _ h1 (by simp)).bind fun t2 h2=>(Qmh h (by omega) _ _ ?_).bind fun t3 h3=>T.pure ⟨h2.1,h3.mono (by omega)⟩)) (T.if (j3 _ _ _ _ hc) (j3 _ _ _ _ hc)))))
  have:=h2.2
  simp only[List.mem_cons,List.mem_nil_iff,or_false]at this
  rcases this with e|e|e<;>(rw[e];simp)
 have j1: ∀c t i,Y3 c→T (Zkn c x t i) (SQ (K+2000)):=fun c t i hc=>by
  unfold Zkn
  simp only[J2,Jb]
  exact(Zcd c _ hc).bind fun t1 h1=>T.if ((Qg9 _ _ h1.1).bind fun t2 h2=>(Qti h (by omega) _).bind fun t3 h3=>T.pure ⟨h2,h3.mono (by omega)⟩) (T.if (j2 _ _ _ _ _ h1.1) (j2 _ _ _ _ _ h1.1))
 unfold Zvc
 exact T.ite (fun hp=>(Zcd c _ hc).bind fun t1 h1=>T.guard ⟨h1.2.1,h1.2.2 (by simpa using hp)⟩ (j1 _ _ _ h1.1)) fun _=>j1 _ _ _ hc
theorem Q9n(c:Qe)(hc:Y3 c):T (Zu9 c) (SQ 30000):=by
 have lp: ∀(t:Zg) (N m:Nat) (c:Qe) (x:Zg) (K:Nat),m<N→25≤K→Y3 c→Z9 K x→K+2000*m≤30000→T (Zkk N c t x (m:Int)) (SQ 30000):=by
  intro t N
  induction N with
  |zero=>intro m c x K h;omega
  |succ N ih=>
   intro m c x K hm h25 hc hx hK
   unfold Zkk
   refine T.ite (fun hd=>(Q9p hx h25 (by omega) c hc).bind fun t1 h1=> ?_) fun _=>T.pure ⟨hc,hx.mono (by omega)⟩
   have hd:=of_decide_eq_true hd
   rw[show IntKind.i64.wrap ((m:Int)-1)=((m-1:Nat):Int) by rw[Zw (by omega) (by omega)];omega]
   exact ih (m-1) _ _ (K+2000) (by omega) (by omega) h1.1 h1.2 (by omega)
 have cf: ∀c,Y3 c→T (Zdn c) fun r=>Y3 r.2.1:=fun c hc=>by
  obtain⟨y,c',e,k,-⟩:=Q32 c hc;exact⟨_,e,k⟩
 unfold Zu9
 refine(Qg9 c _ hc).bind fun t1 h1=>(cf _ h1).bind fun t2 h2=>(cf _ h2).bind fun t3 h3=>(Qs2 _ _ _).bind fun x hx=>(Zcd _ _ h3).bind fun t4 h4=> ?_
 have:=h4.2.2 (by omega)
 have h0:=h4.2.1
 obtain⟨m,hm⟩:=Int.eq_ofNat_of_zero_le h0
 have e:IntKind.i64.wrap (2+t4.1.1)=((m+2:Nat):Int):=by rw[Zw (by omega) (by omega)];omega
 rw[e]
 exact lp _ _ (m+2) _ _ 25 (by unfold Zmp;omega) (Nat.le_refl _) h4.1 (hx.mono (by omega)) (by omega)
theorem Q2o(c:Qe)(hc:Y3 c):T (Zp6 c) (SQ 30000):=by
 unfold Zp6
 exact(Q9n c hc).bind fun t hx=>(Zcd _ _ hx.1).bind fun t1 h1=>T.if ((Qk8 _ _ h1.1 (by simp)).bind fun t2 h2=>T.pure ⟨h2.1,by exact⟨hx.2.str,hx.2.pk⟩⟩) (T.if ((Qk8 _ _ h1.1 (by simp)).bind fun t2 h2=>T.pure ⟨h2.1,by exact⟨hx.2.str,hx.2.pk⟩⟩) (T.if ((Qk8 _ _ h1.1 (by simp)).bind fun t2 h2=>T.pure ⟨h2.1,by exact⟨hx.2.str,hx.2.pk⟩⟩) (T.if ((Qk8 _ _ h1.1 (by simp)).bind fun t2 h2=>T.pure ⟨h2.1,by exact⟨hx.2.str,hx.2.pk⟩⟩) (T.pure ⟨h1.1,hx.2⟩))))
end Go.Proofs.YtplcdmnbgcgdfaaGreatDoor

/- FnTransfers: the plain law, part 1. No condition. -/
import Derived.Test.YtpadmiphiogdhaaGreatM2
namespace Go.Proofs.YtpadmiphiogdhaaGreat
open Go.Am
set_option maxRecDepth 100000
set_option linter.unusedVariables false
abbrev Zki:Type:=Zy
abbrev Zup:Zki:=Qp
abbrev Zeo:Type:=Kw
abbrev Q9y:Zeo:=Qy4
theorem Qr4{α:Type}{c:Bool}{x y:α}: (bif c then some (x,())else some (y,()))=some (bif c then x else y,()):=by cases c<;>rfl
theorem Qy8{α:Type}(pre:List α)(x:α)(rest:List α):pre++x::rest=pre++ [x]++rest:=by simp
theorem V9{α:Type}(pre:List α)(x:α)(rest:List α)(d:α): (pre++x::rest).getD ((pre.length:Int).toNat) d=x:=by
 rw[show(pre.length:Int).toNat=pre.length from rfl,List.getD_eq_getElem?_getD,List.getElem?_append_right (Nat.le_refl _)]
 simp
def Z7l(k:Nat):Int:=((([48,49,50,51,52,53,54,55,56,57,97,98,99,100,101,102]:List UInt8).getD k 0).toNat:Int)
def hx(b:UInt8):List Int:=[Z7l (b.toNat/16),Z7l (b.toNat%16)]
theorem Zdc{α:Type}{d:α}{l:List α}{i:Nat}(h:i<l.length):l.drop i=l.getD i d::l.drop (i+1):=by
 rw[List.drop_eq_getElem_cons h,List.getD_eq_getElem?_getD,List.getElem?_eq_getElem h];rfl
theorem Q6t(n:Int)(h0:0≤n)(h1:n<256):IntKind.u8.wrap n=n:=by
 have:n%2^8=n:=Int.emod_eq_of_lt h0 (by omega)
 simp only[IntKind.wrap,IntKind.bits,IntKind.signed,this]
 simp
def Qtn(u:Nat):List UInt8:=if u=0 then[]else Go.Lib.decDigits u
theorem Q0k{u:Nat}(h:u≠0):Qtn u=Qtn (u/10)++ [UInt8.ofNat (48+u%10)]:=by
 unfold Qtn
 rw[if_neg h,Go.Lib.decDigits]
 by_cases h10:u<10
 ·rw[dif_pos h10,if_pos (by omega),List.nil_append,Nat.mod_eq_of_lt h10]
 ·rw[dif_neg h10,if_neg (by omega)]
theorem Q67{K1: (Int×List UInt8×Bool×Unit)→Option (List UInt8×Unit)}{n:Int}{out:List UInt8}{neg:Bool}{d:Nat}(hd:d<10)(hl:1+out.length≤W9):
  Jt K1 n out neg (d:Int)=K1 (IntKind.i64.wrap (Int.tdiv n 10),UInt8.ofNat (48+d)::out,neg,()):=by
 unfold Jt
 have h1:Zaz [IntKind.u8.wrap (IntKind.i64.wrap ((48:Int)+ (d:Int)))]=[UInt8.ofNat (48+d)]:=by
  rw[Zv (by omega) (by omega),Q6t _ (by omega) (by omega)]
  simp only[Zaz,List.map_cons,List.map_nil]
  congr 2
 simp only[h1]
 rw[Zc (by simpa using hl),Zc (by decide)]
 rfl
theorem Qvy: ∀(k u N:Nat) (n:Int) (out:List UInt8) (neg:Bool),u<10^k→k<N→u≤9223372036854775808→(n=(u:Int)∨n= -(u:Int))→out.length+k≤1000→(n=9223372036854775808→False)→
  Xe N n out neg=some ((bif neg then 45:: (Qtn u++out)else Qtn u++out),())
 |k,u,0,n,out,neg,h1,h2,_,_,_,_=>by omega
 |k,u,N+1,n,out,neg,h1,h2,h3,h4,h5,h6=>by
  unfold Xe
  by_cases hu:u=0
  ·have hn:n=0:=by omega
   rw[Zi (by simp[hn])]
   rw[Zc (by simp only[W9,List.length_cons,List.length_nil];omega)]
   have:Qtn u=[]:=by rw[hu];rfl
   rw[this]
   cases neg<;>rfl
  ·have hn:n≠0:=by omega
   rw[Zm (by simp[hn]),Zc (by decide)]
   cases k with
   |zero=>simp at h1;omega
   |succ k=>
    have hd:u/10<10^k:=by
     rw[Nat.pow_succ]at h1
     omega
    have hm:u%10<10:=Nat.mod_lt _ (by decide)
    have hq:IntKind.i64.wrap (Int.tdiv n 10)=((u/10:Nat):Int)∨IntKind.i64.wrap (Int.tdiv n 10)= -((u/10:Nat):Int):=by
     rcases h4 with rfl|rfl
     ·left;rw[Int.tdiv_eq_ediv_of_nonneg (by omega),Zv (by omega) (by omega)];omega
     ·right;rw[Int.neg_tdiv,Int.tdiv_eq_ediv_of_nonneg (by omega),Zv (by omega) (by omega)];omega
    have go:Jt (fun v=>Xe N v.1 v.2.1 v.2.2.1) n out neg ((u%10:Nat):Int)=some ((bif neg then 45:: (Qtn u++out)else Qtn u++out),()):=by
     rw[Q67 hm (by simp only[W9];omega)]
     show Xe N (IntKind.i64.wrap (Int.tdiv n 10)) (UInt8.ofNat (48+u%10)::out) neg=_
     rw[Qvy k (u/10) N _ _ neg hd (by omega) (by omega) hq (by simp only[List.length_cons];omega) (by intro h;rcases hq with hq|hq<;>omega)]
     rw[Q0k hu,List.append_assoc]
     rfl
    rcases h4 with rfl|rfl
    ·have e:Int.tmod (u:Int) 10=((u%10:Nat):Int):=by rw[Int.tmod_eq_emod_of_nonneg (by omega)];omega
     rw[e,Zi (Zk (by omega))]
     exact go
    ·have e:Int.tmod (-(u:Int)) 10= -((u%10:Nat):Int):=by rw[Int.neg_tmod,Int.tmod_eq_emod_of_nonneg (by omega)];omega
     rw[e]
     by_cases hz:u%10=0
     ·rw[Zi (Zk (by omega))]
      have: -((u%10:Nat):Int)=((u%10:Nat):Int):=by omega
      rw[this];exact go
     ·rw[Zm (Zj (by omega)),Zv (by omega) (by omega)]
      have:0- -((u%10:Nat):Int)=((u%10:Nat):Int):=by omega
      rw[this];exact go
theorem Q2q(n:Int)(h0: -9223372036854775808≤n)(h1:n≤9223372036854775807):Ke n=some (Go.Lib.itoa n,()):=by
 unfold Ke
 by_cases hz:n=0
 ·rw[Zm (by simp[hz]),hz]
  unfold Go.Lib.itoa
  rw[if_neg (by omega),Go.Lib.decDigits,dif_pos (by decide)]
  rfl
 ·rw[Zi (by simp[hz])]
  have hp:n.natAbs<10^20:=by
   have: (9223372036854775809:Nat)≤10^20:=by decide
   omega
  rw[Qvy 20 n.natAbs _ n [] _ hp (by unfold Zcy;omega) (by omega) (by omega) (by simp) (by omega)]
  unfold Go.Lib.itoa Qtn
  rw[if_neg (by omega),List.append_nil]
  by_cases hn:n<0
  ·rw[Zj hn,if_pos hn];rfl
  ·rw[Zk hn,if_neg hn]
   have:n.natAbs=n.toNat:=by omega
   rw[this];rfl
theorem Z1g(n:Int)(h0: -9223372036854775808≤n)(h1:n≤9223372036854775807): (Go.Lib.itoa n).length≤21:=Go.Lib.itoa_length_le n h0 h1
theorem Qv7: ∀(N:Nat) (l:List UInt8) (out:List Int) (i:Nat),l.length≤1048576→out.length≤2*i→i≤l.length→l.length-i<N→
  Zfk N l out (i:Int)=some (Zaz (out++ (l.drop i).flatMap hx),())
 |0,_,_,_,_,_,_,h=>by omega
 |N+1,l,out,i,hl,ho,hi,hN=>by
  unfold Zfk
  by_cases h:i<l.length
  ·have e: (i:Int).toNat=i:=rfl
   rw[Zm (Zj (by omega)),Zc (by omega),Zc (by decide),Zc (by omega),Zc (by decide),e]
   have hb: (l.getD i 0).toNat<256:=(l.getD i 0).toNat_lt
   generalize hc:l.getD i 0=c at*
   have e1:IntKind.i64.wrap (Int.tdiv (IntKind.i64.wrap (c.toNat:Int)) 16)=((c.toNat/16:Nat):Int):=by
    rw[show IntKind.i64.wrap (c.toNat:Int)=(c.toNat:Int)from Zv (by omega) (by omega),Int.tdiv_eq_ediv_of_nonneg (by omega),Zv (by omega) (by omega)];omega
   have e2:Int.tmod (IntKind.i64.wrap (c.toNat:Int)) 16=((c.toNat%16:Nat):Int):=by
    rw[show IntKind.i64.wrap (c.toNat:Int)=(c.toNat:Int)from Zv (by omega) (by omega),Int.tmod_eq_emod_of_nonneg (by omega)];omega
   have dig: ∀k:Nat,k<16→Zfw (k:Int)=some (Z7l k,()):=fun k hk=>by
    unfold Zfw Z7l
    rw[Zc (by simp only[List.length_cons,List.length_nil];omega)]
    rfl
   rw[e1,e2,dig _ (by omega),dig _ (by omega)]
   simp only[Option.bind_some]
   rw[Zc (by simp only[List.length_cons,List.length_nil,Qv];omega),Zo h (by omega)]
   rw[Qv7 N l _ (i+1) hl (by simp only[List.length_append,List.length_cons,List.length_nil];omega) h (by omega)]
   rw[Zdc (d:=(0:UInt8)) h,hc,List.flatMap_cons,List.append_assoc]
   rfl
  ·have:i=l.length:=by omega
   subst this
   rw[Zi (Zk (by omega)),List.drop_length]
   simp
def Z07(l:List UInt8):List UInt8:=Zaz (l.flatMap hx)
theorem Qv6(l:List UInt8): (Z07 l).length=2*l.length:=by
 unfold Z07 Zaz
 rw[List.length_map]
 induction l with
 |nil=>rfl
 |cons c l ih=>rw[List.flatMap_cons,List.length_append,ih];simp only[hx,List.length_cons,List.length_nil];omega
theorem Q86(l:List UInt8)(h:l.length≤1048576):Zbh l=some (Z07 l,()):=by
 unfold Zbh
 exact Qv7 _ l [] 0 h (by simp) (by omega) (by unfold Zig;omega)
theorem Qt2(N k:Nat)(b:Int)(hk:k<16):Jx (N+1) b (k:Int)=if Z7l k=b then some ((k:Int),())else Jx N b ((k+1:Nat):Int):=by
 conv=>lhs;unfold Jx
 have dig:Zfw (k:Int)=some (Z7l k,()):=by
  unfold Zfw Z7l
  rw[Zc (by simp only[List.length_cons,List.length_nil];omega)]
  rfl
 rw[Zm (Zj (by omega)),dig]
 simp only[Option.bind_some]
 rw[Zo (m:=16) hk (by omega)]
 by_cases h:Z7l k=b
 ·rw[Zm (by simp[h]),if_pos h]
 ·rw[Zi (by simp[h]),if_neg h]
theorem Q8z{α:Type}{c:Bool}{x y:α}: (bif c then some x else some y)=some (bif c then x else y):=by cases c<;>rfl
theorem Qzg(d:Nat)(h:d<10):Go.Lib.digitVal (UInt8.ofNat (48+d))=some d:=by
 have: (UInt8.ofNat (48+d)).toNat=48+d:=by simp;omega
 simp only[Go.Lib.digitVal,this]
 rw[if_pos (by omega)];congr 1;omega
theorem Qiv: ∀(l r:List UInt8) (acc:Nat),Go.Lib.decFrom acc (l++r)=(Go.Lib.decFrom acc l).bind fun a=>Go.Lib.decFrom a r
 | [],r,acc=>rfl
 |b::l,r,acc=>by
  simp only[List.cons_append,Go.Lib.decFrom]
  cases Go.Lib.digitVal b with
  |none=>rfl
  |some d=>exact Qiv l r _
theorem Qm8: ∀(u:Nat),Go.Lib.decFrom 0 (Go.Lib.decDigits u)=some u:=by
 intro u
 induction u using Nat.strongRecOn with
 |_ u ih=>
  rw[Go.Lib.decDigits]
  split
  ·rename_i h;simp only[Go.Lib.decFrom,Qzg u h];congr 1;omega
  ·rename_i h
   rw[Qiv,ih (u/10) (by omega)]
   simp only[Option.bind_some,Go.Lib.decFrom,Qzg (u%10) (by omega)]
   congr 1;omega
theorem Z53: ∀(u:Nat),∀b∈Go.Lib.decDigits u,48≤b.toNat∧b.toNat≤57:=by
 intro u
 induction u using Nat.strongRecOn with
 |_ u ih=>
  intro b hb
  rw[Go.Lib.decDigits]at hb
  split at hb
  ·rename_i h
   simp only[List.mem_singleton]at hb
   subst hb
   have: (UInt8.ofNat (48+u)).toNat=48+u:=by simp;omega
   omega
  ·rename_i h
   rcases List.mem_append.1 hb with hb|hb
   ·exact ih (u/10) (by omega) b hb
   ·simp only[List.mem_singleton]at hb
    subst hb
    have: (UInt8.ofNat (48+u%10)).toNat=48+u%10:=by simp;omega
    omega
theorem Qag(u:Nat):Go.Lib.decDigits u≠[]:=by
 intro h
 have:=Go.Lib.decDigits_length u
 rw[h]at this
 have:=Go.Lib.nDigits_pos u
 simp at*
 omega
theorem Z54(u:Nat):Go.Lib.decNat (Go.Lib.decDigits u)=some u:=by
 unfold Go.Lib.decNat
 rw[if_neg (by simpa using Qag u)]
 exact Qm8 u
theorem Z3i(n:Int):Go.Lib.atoi (Go.Lib.itoa n)=some n:=by
 unfold Go.Lib.itoa
 split
 ·rename_i h
  simp only[Go.Lib.atoi,Z54,Option.map_some]
  rw[if_pos (by decide)]
  congr 1;omega
 ·rename_i h
  cases hd:Go.Lib.decDigits n.toNat with
  |nil=>exact absurd hd (Qag _)
  |cons b r=>
   have hb:=Z53 n.toNat b (by rw[hd];simp)
   have h1: ¬(b==45)=true:=by intro e;have:=eq_of_beq e;subst this;simp at hb
   have h2: ¬(b==43)=true:=by intro e;have:=eq_of_beq e;subst this;simp at hb
   simp only[Go.Lib.atoi]
   rw[if_neg h1,if_neg h2,←hd,Z54]
   simp only[Option.map_some]
   congr 1;omega
theorem Qwa{a b:Int}(h:Go.Lib.itoa a=Go.Lib.itoa b):a=b:=by
 have:=Z3i a
 rw[h,Z3i]at this
 exact(Option.some.inj this).symm
theorem Q6l{u:Nat}(h:u≤999999999):Go.Lib.nDigits u≤9:=by
 rcases Nat.lt_or_ge 9 (Go.Lib.nDigits u)with h'|h'
 ·exfalso
  have key: ∀k u,k<Go.Lib.nDigits u→k≥1→10^k≤u:=by
   intro k
   induction k with
   |zero=>intro u _ h;omega
   |succ k ih=>
    intro u hu _
    rcases Nat.lt_or_ge u 10 with h10|h10
    ·rw[Go.Lib.nDigits_small h10]at hu;omega
    ·rw[Go.Lib.nDigits_big (by omega)]at hu
     by_cases hk:k=0
     ·subst hk;simpa using h10
     ·have:=ih (u/10) (by omega) (by omega)
      rw[Nat.pow_succ];omega
  have:=key 9 u h' (by omega)
  omega
 ·exact h'
theorem Q69{n:Int}(h0: -999999999≤n)(h1:n≤999999999): (Go.Lib.itoa n).length≤10:=by
 unfold Go.Lib.itoa
 split
 ·have:=Q6l (u:=n.natAbs) (by omega)
  rw[List.length_cons,Go.Lib.decDigits_length];omega
 ·have:=Q6l (u:=n.toNat) (by omega)
  rw[Go.Lib.decDigits_length];omega
def pf:List UInt8→Nat×Nat→Nat×Nat
 | [],v=>v
 |b::l,v=>pf l (if 48≤b.toNat∧b.toNat≤57 then(v.1*10+ (b.toNat-48),v.2+1)else v)
theorem Q3p: ∀(l r:List UInt8) (v:Nat×Nat),pf (l++r) v=pf r (pf l v)
 | [],_,_=>rfl
 |b::l,r,v=>by simp only[List.cons_append,pf];exact Q3p l r _
theorem Q8q: ∀(u:Nat),pf (Go.Lib.decDigits u) (0,0)=(u,Go.Lib.nDigits u):=by
 intro u
 induction u using Nat.strongRecOn with
 |_ u ih=>
  rw[Go.Lib.decDigits]
  split
  ·rename_i h
   have: (UInt8.ofNat (48+u)).toNat=48+u:=by simp;omega
   simp only[pf,this]
   rw[if_pos (by omega),Go.Lib.nDigits_small h]
   simp
  ·rename_i h
   have: (UInt8.ofNat (48+u%10)).toNat=48+u%10:=by simp;omega
   rw[Q3p,ih (u/10) (by omega),Go.Lib.nDigits_big h]
   simp only[pf,this]
   rw[if_pos (by omega)]
   simp only[Prod.mk.injEq,and_true]
   omega
theorem Qps: ∀(l:List UInt8) (v:Nat×Nat),v.1<10^v.2→(pf l v).1<10^ (pf l v).2∧(pf l v).2≤v.2+l.length
 | [],v,h=>⟨h,by simp[pf]⟩
 |b::l,v,h=>by
  simp only[pf]
  split
  ·have:=Qps l (v.1*10+ (b.toNat-48),v.2+1) (by simp only[Nat.pow_succ];omega)
   refine⟨this.1,?_⟩
   have:=this.2
   simp only[List.length_cons]at this⊢
   omega
  ·have:=Qps l v h
   refine⟨this.1,?_⟩
   have:=this.2
   simp only[List.length_cons]
   omega
theorem Qpt{k:Nat}(h:k≤11): (10:Nat)^k≤100000000000:=Nat.le_trans (Nat.pow_le_pow_right (by decide) h) (by decide)
def sgn(s:List UInt8)(n:Nat):Int:=if s.head? =some 45 then-(n:Int)else n
theorem Quo: ∀(N:Nat) (pre rest:List UInt8) (n k:Nat),(pre++rest).length≤1048576→rest.length<N→pre.length≤11→n<10^k→k≤pre.length→
  Zdj N (pre++rest) n k pre.length=Jl (pre++rest) (sgn (pre++rest) (pf (rest.take (11-pre.length)) (n,k)).1) (pf (rest.take (11-pre.length)) (n,k)).2
 |0,_,_,_,_,_,h,_,_,_=>by omega
 |N+1,pre,rest,n,k,h1,h2,h3,h4,h5=>by
  unfold Zdj
  have fin: (Zf (((decide (((pre++rest).length:Int)>(0:Int)))=true→(0≤(0:Int)∧(0:Int)< (pre++rest).length)))<|
   bif(decide (((pre++rest).length:Int)>(0:Int)))&& ((((pre++rest).getD (0:Int).toNat 0).toNat:Int)==(45:Int))then
    Jl (pre++rest) (IntKind.i64.wrap (0- (n:Int))) k
   else
    Jl (pre++rest) n k)=Jl (pre++rest) (sgn (pre++rest) n) k:=by
   have hb:=Qpt (k:=k) (by omega)
   rw[Zc (fun h=>by simp at h⊢;omega),Zv (by omega) (by omega)]
   unfold sgn
   cases hs:pre++rest with
   |nil=>rfl
   |cons b l=>
    simp only[List.length_cons,List.head?_cons,Option.some.injEq]
    by_cases hc:b=45
    ·subst hc
     rw[if_pos rfl,Zm (by simp)]
     congr 1;omega
    ·rw[if_neg hc,Zi (by
      simp only[Bool.and_eq_false_iff]
      right
      simp only[Int.toNat_zero,List.getD_cons_zero,beq_eq_false_iff_ne,ne_eq]
      intro e
      apply hc
      apply UInt8.toNat_inj.1
      have e: (b.toNat:Int)=45:=e
      show b.toNat=45
      omega)]
  cases rest with
  |nil=>
   rw[Zi (by simp)]
   simp only[List.take_nil,pf]
   exact fin
  |cons b rest=>
   by_cases hp:pre.length<11
   ·simp only[List.length_append,List.length_cons]at h1 h2
    rw[Zm (by simp;omega),Zc (by simp;omega)]
    simp only[V9]
    rw[Zc (fun _=>by simp;omega)]
    have e:=Qy8 pre b rest
    have hb:=Qpt (k:=k) (by omega)
    have htk: (b::rest).take (11-pre.length)=b::rest.take (11- (pre.length+1)):=by
     rw[show 11-pre.length=(11- (pre.length+1))+1 by omega,List.take_succ_cons]
    rw[htk]
    simp only[pf]
    have hlt:b.toNat<256:=b.toNat_lt
    by_cases hd:48≤b.toNat∧b.toNat≤57
    ·rw[Zm (by simp;omega),Zc (by simp;omega),if_pos hd]
     unfold Zhg
     have u8:IntKind.u8.wrap (((b.toNat:Int))-48)=((b.toNat-48:Nat):Int):=by
      rw[Q6t _ (by omega) (by omega)];omega
     have w1:IntKind.i64.wrap ((n:Int)*10)=(n:Int)*10:=Zv (by omega) (by omega)
     have w2:IntKind.i64.wrap ((b.toNat-48:Nat):Int)=((b.toNat-48:Nat):Int):=Zv (by omega) (by omega)
     rw[u8,w1,w2,Zv (by omega) (by omega),Zv (n:=(k:Int)+1) (by omega) (by omega),Zo (m:=(pre++b::rest).length) (by simp) (by simp;omega)]
     have:=Quo N (pre++ [b]) rest (n*10+ (b.toNat-48)) (k+1) (by simp;omega) (by omega) (by simp;omega) (by rw[Nat.pow_succ];omega) (by simp;omega)
     rw[←e]at this
     simp only[List.length_append,List.length_cons,List.length_nil,Nat.zero_add]at this⊢
     rw[←this]
     congr 1<;>push_cast<;>omega
    ·rw[Zi (by simp;omega),if_neg hd]
     unfold Zhg
     rw[Zo (m:=(pre++b::rest).length) (by simp) (by simp;omega)]
     have:=Quo N (pre++ [b]) rest n k (by simp;omega) (by omega) (by simp;omega) h4 (by simp;omega)
     rw[←e]at this
     simp only[List.length_append,List.length_cons,List.length_nil,Nat.zero_add]at this⊢
     exact this
   ·rw[Zi (by simp;omega),show 11-pre.length=0 by omega]
    simp only[List.take_zero,pf]
    exact fin
def Qaf(c:UInt8):List UInt8→List UInt8×List UInt8×Bool
 | []=>([],[],false)
 |b::l=>if b=c then([],l,true)else(b:: (Qaf c l).1,(Qaf c l).2.1,(Qaf c l).2.2)
def Q7(c:UInt8):List UInt8→List (List UInt8)
 | []=>[[]]
 |b::l=>if b=c then[]::Q7 c l else match Q7 c l with
  | []=>[[b]]
  |w::ws=>(b::w)::ws
theorem Qib(c:UInt8): ∀l,Q7 c l≠[]
 | []=>by simp[Q7]
 |b::l=>by
  unfold Q7
  split
  ·simp
  ·split<;>simp
theorem Qia(c:UInt8): ∀(a r:List UInt8),c∉a→Q7 c (a++c::r)=a::Q7 c r
 | [],r,_=>by simp[Q7]
 |b::a,r,h=>by
  have hb:b≠c:=fun e=>h (by simp[e])
  have ih:=Qia c a r (fun hm=>h (by simp[hm]))
  simp only[List.cons_append,Q7,hb,if_false,ih]
theorem Z91(c:UInt8): ∀(a:List UInt8),c∉a→Q7 c a=[a]
 | [],_=>by simp[Q7]
 |b::a,h=>by
  have hb:b≠c:=fun e=>h (by simp[e])
  have ih:=Z91 c a (fun hm=>h (by simp[hm]))
  simp only[Q7,hb,if_false,ih]
theorem Qzf(c:UInt8): ∀(a r:List UInt8),c∉a→Qaf c (a++c::r)=(a,r,true)
 | [],r,_=>by simp[Qaf]
 |b::a,r,h=>by
  have hb:b≠c:=fun e=>h (by simp[e])
  have ih:=Qzf c a r (fun hm=>h (by simp[hm]))
  simp only[List.cons_append,Qaf,hb,if_false,ih]
theorem Qvm(c:UInt8): ∀(a:List UInt8),c∉a→Qaf c a=(a,[],false)
 | [],_=>by simp[Qaf]
 |b::a,h=>by
  have hb:b≠c:=fun e=>h (by simp[e])
  have ih:=Qvm c a (fun hm=>h (by simp[hm]))
  simp only[Qaf,hb,if_false,ih]
theorem Q2d(c:UInt8): ∀l:List UInt8,(Qaf c l).1.length≤l.length∧(Qaf c l).2.1.length≤l.length
 | []=>by simp[Qaf]
 |b::l=>by
  have:=Q2d c l
  unfold Qaf
  split
  ·simp
  ·simp only[List.length_cons];omega
theorem Qxo(c:UInt8): ∀l:List UInt8,c∉l∨ ∃a r,l=a++c::r∧c∉a
 | []=> .inl (by simp)
 |b::l=>by
  by_cases h:b=c
  ·exact .inr ⟨[],l,by simp[h],by simp⟩
  ·rcases Qxo c l with h'| ⟨a,r,e,h'⟩
   ·exact .inl (by simp[h',Ne.symm h])
   ·exact .inr ⟨b::a,r,by simp[e],by simp[h',Ne.symm h]⟩
theorem Z7w(c:UInt8): ∀l:List UInt8,c∉l→Go.Lib.index l [c]= -1
 | [],_=>rfl
 |b::l,h=>by
  have hb: ¬c=b:=fun e=>h (by simp[e])
  have ih:=Z7w c l (fun hm=>h (by simp[hm]))
  unfold Go.Lib.index
  rw[ih]
  simp[List.isPrefixOf,hb]
theorem Z7x(c:UInt8): ∀(a r:List UInt8),c∉a→Go.Lib.index (a++c::r) [c]=a.length
 | [],r,_=>by simp[Go.Lib.index,List.isPrefixOf]
 |b::a,r,h=>by
  have hb: ¬c=b:=fun e=>h (by simp[e])
  have ih:=Z7x c a r (fun hm=>h (by simp[hm]))
  rw[List.cons_append]
  unfold Go.Lib.index
  rw[ih]
  simp only[List.isPrefixOf,beq_eq_false_iff_ne.2 hb,Bool.false_and,Bool.false_eq_true,if_false]
  rw[if_neg (by simp)]
  simp
theorem Q93(c:UInt8)(l:List UInt8):Go.Lib.cut l [c]=Qaf c l:=by
 unfold Go.Lib.cut
 rcases Qxo c l with h| ⟨a,r,rfl,h⟩
 ·rw[Z7w c l h,Qvm c l h];rfl
 ·rw[Z7x c a r h,Qzf c a r h,if_pos (by omega)]
  simp
theorem Q9j(c:UInt8): ∀(n:Nat) (l:List UInt8),l.length≤n→Go.Lib.splitK [c] 0 (Go.Lib.count l [c]) l=Q7 c l:=by
 intro n
 induction n with
 |zero=>
  intro l h
  have:l=[]:=List.eq_nil_of_length_eq_zero (by omega)
  subst this;rfl
 |succ n ih=>
  intro l h
  rcases Qxo c l with h'| ⟨a,r,rfl,h'⟩
  ·rw[Go.Lib.count_miss (Z7w c l h'),Z91 c l h'];rfl
  ·have hi:=Z7x c a r h'
   rw[Go.Lib.count_hit (i:=a.length) (by simp) hi,Qia c a r h',Nat.add_comm,Go.Lib.splitK,hi]
   simp only[List.length_append,List.length_cons]at h
   have e1: (a++c::r).drop ((a.length:Int).toNat+ [c].length)=r:=by simp
   have e2: (a++c::r).drop (a.length+ [c].length)=r:=by simp
   have e3: (a++c::r).take ((a.length:Int).toNat+0)=a:=by simp
   rw[e1,e2,e3,ih r (by omega),if_neg (by simp)]
theorem Zy3(c:UInt8): ∀l:List UInt8,∀w∈Q7 c l,c∉w
 | [],w,h=>by simp[Q7]at h;subst h;simp
 |b::l,w,h=>by
  unfold Q7 at h
  split at h
  ·rcases List.mem_cons.1 h with rfl|h
   ·simp
   ·exact Zy3 c l w h
  ·rename_i hb
   split at h
   ·simp only[List.mem_singleton]at h;subst h;simp[Ne.symm hb]
   ·rename_i w0 ws hw
    rcases List.mem_cons.1 h with rfl|h
    ·have:=Zy3 c l w0 (by rw[hw];simp)
     simp[this,Ne.symm hb]
    ·exact Zy3 c l w (by rw[hw];simp[h])
theorem Qyw(c:UInt8): ∀l:List UInt8,(Q7 c l).length≤l.length+1∧ ∀w∈Q7 c l,w.length≤l.length
 | []=>by simp[Q7]
 |b::l=>by
  obtain⟨h1,h2⟩:=Qyw c l
  unfold Q7
  split
  ·refine⟨by simp;omega,fun w hw=> ?_⟩
   rcases List.mem_cons.1 hw with rfl|hw
   ·simp
   ·have:=h2 w hw;simp;omega
  ·split
   ·simp
   ·rename_i w ws hw
    rw[hw]at h1 h2
    refine⟨by simp at h1⊢;omega,fun w' hw'=> ?_⟩
    rcases List.mem_cons.1 hw' with rfl|hw'
    ·have:=h2 w (by simp);simp;omega
    ·have:=h2 w' (by simp[hw']);simp;omega
def Z3h(p:List UInt8):List (List UInt8)→List (List UInt8)
 | []=>[p]
 |w::ws=>(p++w)::ws
theorem Qil{l:List (List UInt8)}(h:l≠[]):Z3h [] l=l:=by cases l<;>simp_all[Z3h]
theorem Qm7(c:UInt8): ∀(N:Nat) (pre rest:List UInt8) (out:List (List UInt8)) (part:List UInt8),(pre++rest).length≤1048576→rest.length<N→out.length≤pre.length→part.length≤pre.length→
  Wg N (pre++rest) (c.toNat:Int) out part pre.length=some (out++Z3h part (Q7 c rest),())
 |0,_,_,_,_,_,h,_,_=>by omega
 |N+1,pre,[],out,part,h1,h2,h3,h4=>by
  unfold Wg
  simp only[List.length_append,List.length_nil]at h1
  rw[Zi (by simp),Zc (by unfold Qv;simp;omega)]
  simp[Q7,Z3h]
 |N+1,pre,b::rest,out,part,h1,h2,h3,h4=>by
  unfold Wg
  simp only[List.length_append,List.length_cons]at h1 h2
  rw[Zm (by simp;omega),Zc (by simp;omega)]
  simp only[V9]
  have e:=Qy8 pre b rest
  by_cases hb:b=c
  ·subst hb
   rw[Zm (by simp),Zc (by unfold Qv;simp;omega)]
   unfold Zei
   rw[Zo (m:=(pre++b::rest).length) (by simp) (by simp;omega)]
   have:=Qm7 b N (pre++ [b]) rest (out++ [part]) [] (by simp;omega) (by omega) (by simp;omega) (by simp)
   rw[←e]at this
   simp only[List.length_append,List.length_cons,List.length_nil,Nat.zero_add]at this⊢
   rw[this,Qil (Qib b rest)]
   simp[Q7,Z3h]
  ·have hne: ((b.toNat:Int)==(c.toNat:Int))=false:=by
    rw[beq_eq_false_iff_ne]
    intro e'
    exact hb (UInt8.toNat_inj.1 (by omega))
   rw[Zi hne,Zo (m:=(pre++b::rest).length) (by simp) (by simp;omega),Zc (by simp;omega)]
   have ht2: ((pre++b::rest).drop (pre.length:Int).toNat).take (((pre.length+1:Nat):Int).toNat- (pre.length:Int).toNat)=[b]:=by
    rw[show((pre.length:Int)).toNat=pre.length by omega,show(((pre.length+1:Nat):Int)).toNat-pre.length=1 by omega,List.drop_left]
    rfl
   simp only[ht2]
   rw[Zc (by unfold W9;simp;omega)]
   unfold Zei
   rw[Zo (m:=(pre++b::rest).length) (by simp) (by simp;omega)]
   have:=Qm7 c N (pre++ [b]) rest out (part++ [b]) (by simp;omega) (by omega) (by simp;omega) (by simp;omega)
   rw[←e]at this
   simp only[List.length_append,List.length_cons,List.length_nil,Nat.zero_add]at this⊢
   rw[this]
   congr 3
   simp only[Q7,hb,if_false]
   cases h:Q7 c rest with
   |nil=>exact absurd h (Qib c rest)
   |cons w ws=>simp[Z3h]
theorem Q99(c:UInt8)(s:List UInt8)(hs:s.length≤1048576):Zos s (c.toNat:Int)=some (Q7 c s,()):=by
 have:=Qm7 c (((s.length:Int)-0).toNat+1) [] s [] [] (by simpa using hs) (by omega) (by simp) (by simp)
 unfold Zos Zgh
 simp only[List.nil_append,List.length_nil,Int.natCast_zero,Qil (Qib c s)]at this
 exact this
def hv(b:UInt8):Int:=if 48≤b.toNat∧b.toNat≤57 then(b.toNat:Int)-48 else if 97≤b.toNat∧b.toNat≤102 then(b.toNat:Int)-87 else-1
def Z3f:List UInt8→Option (List UInt8)
 | []=>some []
 | [_]=>none
 |a::b::r=>if hv a<0∨hv b<0 then none else(Z3f r).map fun d=>UInt8.ofNat (16* (hv a).toNat+ (hv b).toNat)::d
theorem Qs5: ∀{s d:List UInt8},Z3f s=some d→s.length=2*d.length
 | [],d,h=>by simp[Z3f]at h;subst h;rfl
 | [_],d,h=>by simp[Z3f]at h
 |a::b::r,d,h=>by
  simp only[Z3f]at h
  split at h
  ·cases h
  ·simp only[Option.map_eq_some_iff]at h
   obtain⟨d',h1,rfl⟩:=h
   have:=Qs5 h1
   simp only[List.length_cons];omega
def Qie(s:List UInt8):List UInt8:=(Z3f s).getD []
theorem Q1m: ∀{s:List UInt8},s.length%2=1→Z3f s=none
 | [],h=>by simp at h
 | [_],_=>rfl
 |a::b::r,h=>by
  have:=Q1m (s:=r) (by simp at h;omega)
  simp only[Z3f,this];split<;>rfl
theorem Q8k(s:List UInt8): (Qie s).length≤s.length:=by
 unfold Qie
 cases h:Z3f s with
 |none=>simp
 |some d=>have:=Qs5 h;simp;omega
theorem Qv8: ∀k:Fin 16,hv (UInt8.ofNat (Z7l k.val).toNat)=(k.val:Int):=by decide
theorem Qsb(b:UInt8)(l:List UInt8):Z07 (b::l)=UInt8.ofNat (Z7l (b.toNat/16)).toNat::UInt8.ofNat (Z7l (b.toNat%16)).toNat::Z07 l:=by
 simp[Z07,Zaz,hx]
theorem Qql: ∀d:List UInt8,Z3f (Z07 d)=some d
 | []=>rfl
 |b::d=>by
  have hb:b.toNat<256:=b.toNat_lt
  rw[Qsb]
  have h1:hv (UInt8.ofNat (Z7l (b.toNat/16)).toNat)=((b.toNat/16:Nat):Int):=Qv8 ⟨b.toNat/16,by omega⟩
  have h2:hv (UInt8.ofNat (Z7l (b.toNat%16)).toNat)=((b.toNat%16:Nat):Int):=Qv8 ⟨b.toNat%16,by omega⟩
  simp only[Z3f,h1,h2]
  rw[if_neg (by omega),Qql d]
  simp only[Option.map_some,Int.toNat_natCast,Option.some.injEq,List.cons.injEq,and_true]
  apply UInt8.toNat_inj.1
  simp;omega
theorem Qsc(c:UInt8)(hc:c=32∨c=10): ∀d:List UInt8,c∉Z07 d
 | []=>by simp[Z07,Zaz]
 |b::d=>by
  have hb:b.toNat<256:=b.toNat_lt
  have key: ∀k:Fin 16,UInt8.ofNat (Z7l k.val).toNat≠32∧UInt8.ofNat (Z7l k.val).toNat≠10:=by decide
  have k1:=key ⟨b.toNat/16,by omega⟩
  have k2:=key ⟨b.toNat%16,by omega⟩
  have ih:=Qsc c hc d
  rw[Qsb]
  simp only[List.mem_cons,not_or]
  rcases hc with rfl|rfl
  ·exact⟨Ne.symm k1.1,Ne.symm k2.1,ih⟩
  ·exact⟨Ne.symm k1.2,Ne.symm k2.2,ih⟩
theorem Q0v(c:UInt8)(hc:c=32∨c=10)(n:Int):c∉Go.Lib.itoa n:=by
 have hd: ∀u,c∉Go.Lib.decDigits u:=fun u h=>by
  have:=Z53 u c h
  rcases hc with rfl|rfl<;>simp at this
 unfold Go.Lib.itoa
 split
 ·simp only[List.mem_cons,not_or]
  refine⟨?_,hd _⟩
  rcases hc with rfl|rfl<;>decide
 ·exact hd _
theorem Q9v{x:Int}(h: (Lit.int .i64 x).wf=true): -9223372036854775808≤x∧x≤9223372036854775807:=by
 simp only[Lit.wf,Bool.and_eq_true,decide_eq_true_eq]at h
 exact h
theorem Q0w(xs:List (List UInt8))(y sep:List UInt8)(h:xs≠[]):Go.Lib.join (xs++ [y]) sep=Go.Lib.join xs sep++sep++y:=by
 cases xs with
 |nil=>exact absurd rfl h
 |cons x r=>
  rw[List.cons_append,Go.Lib.join_cons,Go.Lib.join_cons]
  simp[Go.Lib.joinTail]
theorem Q26(sep:List UInt8)(K:Nat): ∀(xs:List (List UInt8)),(∀x∈xs,x.length≤K)→(Go.Lib.join xs sep).length≤(K+sep.length)*xs.length
 | [],_=>by simp[Go.Lib.join_nil]
 |x::r,h=>by
  rw[Go.Lib.join_cons,List.length_append,Go.Lib.joinTail_length]
  have h1:x.length≤K:=h x (by simp)
  have h2:Go.Lib.lens r≤K*r.length:=by
   have hr: ∀z∈r,z.length≤K:=fun z hz=>h z (by simp[hz])
   clear h
   induction r with
   |nil=>simp[Go.Lib.lens]
   |cons z r ih=>
    have:=ih fun q hq=>hr q (by simp[hq])
    have hz:=hr z (by simp)
    simp only[Go.Lib.lens,List.map_cons,List.sum_cons,List.length_cons]at this⊢
    rw[Nat.mul_succ];omega
  rw[List.length_cons,Nat.add_mul,Nat.mul_succ,Nat.mul_succ]
  omega
theorem Qs2{α:Type}{d:α}{l:List α}{i:Nat}(h:i<l.length):l.take (i+1)=l.take i++ [l.getD i d]:=by
 rw[List.take_add_one,List.getElem?_eq_getElem h,List.getD_eq_getElem?_getD,List.getElem?_eq_getElem h];rfl
theorem Q3v{α:Type}{d:α}{txt:α→List UInt8}{sep:List UInt8}{ok:α→Prop}{K:Nat}(hK: ∀x,ok x→(txt x).length≤K)
  {L:Nat→List α→List UInt8→Int→Option (List UInt8×Unit)} {fin:List UInt8→Option (List UInt8×Unit)}
  (hL: ∀N l (s:List UInt8) (i:Nat),i<l.length→l.length≤1048576→ok (l.getD i d)→s.length≤(K+sep.length)*1048576→
   L (N+1) l s (i:Int)=L N l ((if 0<i then s++sep else s)++txt (l.getD i d)) ((i+1:Nat):Int))
  (hE: ∀N (l:List α) s,L (N+1) l s (l.length:Int)=fin s): ∀(N:Nat) (l:List α) (s:List UInt8) (i:Nat),(∀x∈l,ok x)→l.length≤1048576→i≤l.length→l.length-i<N→
   s=Go.Lib.join ((l.take i).map txt) sep→L N l s (i:Int)=fin (Go.Lib.join (l.map txt) sep)
 |0,_,_,_,_,_,_,h,_=>by omega
 |N+1,l,s,i,ho,hl,hi,hN,hs=>by
  by_cases h:i<l.length
  ·have hx:ok (l.getD i d):=by
    rw[List.getD_eq_getElem?_getD,List.getElem?_eq_getElem h]
    exact ho _ (List.getElem_mem h)
   have hb:s.length≤(K+sep.length)*1048576:=by
    rw[hs]
    refine Nat.le_trans (Q26 sep K _ ?_) (Nat.mul_le_mul_left _ ?_)
    ·intro x hx
     obtain⟨y,hy,rfl⟩:=List.mem_map.1 hx
     exact hK y (ho y (List.mem_of_mem_take hy))
    ·rw[List.length_map,List.length_take];omega
   rw[hL N l s i h hl hx hb]
   refine Q3v hK hL hE N l _ (i+1) ho hl h (by omega) ?_
   rw[Qs2 (d:=d) h,List.map_append,List.map_cons,List.map_nil]
   by_cases h0:0<i
   ·rw[if_pos h0,hs,Q0w]
    intro e
    have:=congrArg List.length e
    rw[List.length_map,List.length_take,List.length_nil]at this
    omega
   ·have:i=0:=by omega
    subst this
    rw[if_neg h0,hs]
    simp[Go.Lib.join_one,Go.Lib.join_nil]
  ·have:i=l.length:=by omega
   subst this
   rw[hE,hs,List.take_length]
theorem Q07{α β:Type}{d:α}{txt:α→β}{ok:α→Prop}{ρ:Type}
  {L:Nat→List β→List α→Int→Int→Option ρ} {fin:List β→Option ρ}
  (hL: ∀N out (l:List α) (i:Nat),i<l.length→l.length≤1048576→ok (l.getD i d)→out.length≤i→L (N+1) out l (l.length:Int) (i:Int)=L N (out++ [txt (l.getD i d)]) l (l.length:Int) ((i+1:Nat):Int))
  (hE: ∀N out (l:List α),L (N+1) out l (l.length:Int) (l.length:Int)=fin out): ∀(N:Nat) (l:List α) (out:List β) (i:Nat),(∀x∈l,ok x)→l.length≤1048576→i≤l.length→l.length-i<N→
   out=(l.take i).map txt→L N out l (l.length:Int) (i:Int)=fin (l.map txt)
 |0,_,_,_,_,_,_,h,_=>by omega
 |N+1,l,out,i,ho,hl,hi,hN,hs=>by
  by_cases h:i<l.length
  ·have hx:ok (l.getD i d):=by
    rw[List.getD_eq_getElem?_getD,List.getElem?_eq_getElem h]
    exact ho _ (List.getElem_mem h)
   rw[hL N out l i h hl hx (by rw[hs,List.length_map,List.length_take];omega)]
   refine Q07 hL hE N l _ (i+1) ho hl h (by omega) ?_
   rw[Qs2 (d:=d) h,List.map_append,List.map_cons,List.map_nil,hs]
  ·have:i=l.length:=by omega
   subst this
   rw[hE,hs,List.take_length]
def fq(x:Int):Bool:=decide (x≥(0:Int))&&decide (x≤(4611686018427387903:Int))
theorem Q09(x:Int):Qd x=some (fq x,()):=rfl
theorem Q08(x:Int):Xs x=some (fq x,()):=rfl
theorem Qwb:Zmw=Zda:=rfl
theorem Q8w:Zn4=K6:=rfl
theorem Q53:Qgb=Zh7:=rfl
def Xn(f:Zh):Bool:=
 bif f.1==4 then decide (f.2.2.1=0)&& (f.2.2.2.1==[])&& (f.2.2.2.2.1==false)&&decide (f.2.2.2.2.2.2.1=0)&& (f.2.2.2.2.2.2.2.2.1==false)
 else bif f.1==5 then decide (f.2.2.1=0)&& (f.2.2.2.1==[])&& (f.2.2.2.2.1==false)&&decide (f.2.2.2.2.2.2.1=0)&&decide (f.2.2.2.2.2.2.2.1=0)&& (f.2.2.2.2.2.2.2.2.1==false)
 else bif f.1==8 then decide (f.2.2.2.2.2.1=0)&&decide (f.2.2.2.2.2.2.1=0)&&decide (f.2.2.2.2.2.2.2.1=0)&& (f.2.2.2.2.2.2.2.2.1==false)
 else bif f.1==17||f.1==21 then decide (f.2.2.1=0)&& (f.2.2.2.1==[])&& (f.2.2.2.2.1==false)&&decide (f.2.2.2.2.2.1=0)&&decide (f.2.2.2.2.2.2.2.1=0)&& (f.2.2.2.2.2.2.2.2.1==false)
 else bif f.1==18||f.1==22 then decide (f.2.1=0)&&decide (f.2.2.1=0)&& (f.2.2.2.1==[])&& (f.2.2.2.2.1==false)&&decide (f.2.2.2.2.2.1=0)&&decide (f.2.2.2.2.2.2.2.1=0)
 else bif f.1==16||f.1==20 then decide (f.2.1=0)&&decide (f.2.2.1=0)&& (f.2.2.2.1==[])&& (f.2.2.2.2.1==false)&&decide (f.2.2.2.2.2.1=0)&&decide (f.2.2.2.2.2.2.2.1=0)&& (f.2.2.2.2.2.2.2.2.1==false)
 else false
def Znb(f:Zh):Bool:=
 Xn f&&fq f.2.1&&fq f.2.2.1&&fq f.2.2.2.2.2.1&&fq f.2.2.2.2.2.2.1&&fq f.2.2.2.2.2.2.2.1&&decide (f.2.2.2.1.length≤400)&& (bif f.1==18||f.1==22 then decide (f.2.2.2.2.2.2.1≤(1152921504606846976:Int))else decide (f.2.2.1≤(4611686018427387903:Int)- (f.2.2.2.1.length:Int)))
theorem Qwi(k:Int): ∃s,Zda k=some (s,())∧((s==([]:List UInt8))= !(k==4||k==5||k==8||k==16||k==17||k==18||k==20||k==21||k==22)):=by
 unfold Zda
 cases h4:k==4<;>cases h5:k==5<;>cases h8:k==8<;>cases h16:k==16<;>cases h17:k==17<;>cases h18:k==18<;>cases h20:k==20<;>cases h21:k==21<;>cases h22:k==22<;>exact⟨_,rfl,rfl⟩
theorem Qs6(f:Zh): ∃u,Zh7 f=some (u,())∧((f.1==4||f.1==5||f.1==8||f.1==16||f.1==17||f.1==18||f.1==20||f.1==21||f.1==22)=true→eqV Zt u f=Xn f∧eqV Zt f u=Xn f):=by
 obtain⟨k,st,off,data,fin,code,lim,final,uni,z⟩:=f
 by_cases h4:k=4
 ·subst h4;exact⟨_,rfl,fun _=>by constructor<;>rw[Bool.eq_iff_iff]<;>simp[eqV,Xn]<;>grind⟩
 by_cases h5:k=5
 ·subst h5;exact⟨_,rfl,fun _=>by constructor<;>rw[Bool.eq_iff_iff]<;>simp[eqV,Xn]<;>grind⟩
 by_cases h8:k=8
 ·subst h8;exact⟨_,rfl,fun _=>by constructor<;>rw[Bool.eq_iff_iff]<;>simp[eqV,Xn]<;>grind⟩
 by_cases h17:k=17
 ·subst h17;exact⟨_,rfl,fun _=>by constructor<;>rw[Bool.eq_iff_iff]<;>simp[eqV,Xn]<;>grind⟩
 by_cases h21:k=21
 ·subst h21;exact⟨_,rfl,fun _=>by constructor<;>rw[Bool.eq_iff_iff]<;>simp[eqV,Xn]<;>grind⟩
 by_cases h18:k=18
 ·subst h18;exact⟨_,rfl,fun _=>by constructor<;>rw[Bool.eq_iff_iff]<;>simp[eqV,Xn]<;>grind⟩
 by_cases h22:k=22
 ·subst h22;exact⟨_,rfl,fun _=>by constructor<;>rw[Bool.eq_iff_iff]<;>simp[eqV,Xn]<;>grind⟩
 by_cases h16:k=16
 ·subst h16;exact⟨_,rfl,fun _=>by constructor<;>rw[Bool.eq_iff_iff]<;>simp[eqV,Xn]<;>grind⟩
 by_cases h20:k=20
 ·subst h20;exact⟨_,rfl,fun _=>by constructor<;>rw[Bool.eq_iff_iff]<;>simp[eqV,Xn]<;>grind⟩
 ·have e: ∀c:Int,k≠c→(k==c)=false:=fun c h=>by simp[h]
  refine⟨(k,0,0,[],false,0,lim,0,false,()),?_,fun hk=> ?_⟩
  rotate_left
  ·simp only[e _ h4,e _ h5,e _ h8,e _ h17,e _ h21,e _ h18,e _ h22,e _ h16,e _ h20]at hk
   cases hk
  ·unfold Zh7 K6 X9 Zh0 Zh1
   simp only[e _ h4,e _ h5,e _ h8,e _ h17,e _ h21,e _ h18,e _ h22,cond_false,Option.bind_some]
theorem Qsr{f:Zh}(h:Xn f=true)(h8:f.1≠8):f.2.2.1=0∧f.2.2.2.1=[]:=by
 obtain⟨k,st,off,data,fin,code,lim,final,uni,z⟩:=f
 unfold Xn at h
 simp only at h h8⊢
 have e8: (k==8)=false:=by simp[h8]
 rw[e8]at h
 revert h
 cases k==4<;>cases k==5<;>cases (k==17||k==21)<;>cases (k==18||k==22)<;>cases (k==16||k==20)<;>simp<;>grind
theorem Z81{f:Zh}(h:Xn f=true): (f.1==4||f.1==5||f.1==8||f.1==16||f.1==17||f.1==18||f.1==20||f.1==21||f.1==22)=true:=by
 obtain⟨k,st,off,data,fin,code,lim,final,uni,z⟩:=f
 unfold Xn at h
 simp only at h⊢
 revert h
 cases k==4<;>cases k==5<;>cases k==8<;>cases k==17<;>cases k==21<;>cases k==18<;>cases k==22<;>cases k==16<;>cases k==20<;>simp
theorem Qdn(f:Zh)(hl:f.2.2.2.1.length≤1048576):J9 f=some (Znb f,()):=by
 obtain⟨s,hs,hn⟩:=Qwi f.1
 obtain⟨u,hu,hp⟩:=Qs6 f
 unfold J9
 simp only[hs,hu,Q09,Option.bind_some,hn]
 cases hk: (f.1==4||f.1==5||f.1==8||f.1==16||f.1==17||f.1==18||f.1==20||f.1==21||f.1==22)
 ·have hpf:Xn f=false:=by
   cases h:Xn f
   ·rfl
   ·rw[Z81 h]at hk;cases hk
  simp only[Bool.not_false,cond_true,Option.bind_some,Bool.true_or]
  unfold Znb
  rw[hpf];rfl
 ·simp only[Bool.not_true,cond_false,Option.bind_some,Bool.false_or,(hp hk).1]
  have hq:Znb f=(Xn f&&fq f.2.1&&fq f.2.2.1&&fq f.2.2.2.2.2.1&&fq f.2.2.2.2.2.2.1&&fq f.2.2.2.2.2.2.2.1&&decide (f.2.2.2.1.length≤400)&& (bif f.1==18||f.1==22 then decide (f.2.2.2.2.2.2.1≤(1152921504606846976:Int))else decide (f.2.2.1≤(4611686018427387903:Int)- (f.2.2.2.1.length:Int)))):=rfl
  rw[hq,Zv (by omega) (by omega)]
  have hd:decide ((f.2.2.2.1.length:Int)>400)= !(decide (f.2.2.2.1.length≤400)):=by
   rw[Bool.eq_iff_iff];simp;omega
  rw[hd]
  cases hpf:Xn f
  ·simp
  ·have hoff:=Qsr hpf
   cases fq f.2.1<;>cases fq f.2.2.1<;>cases fq f.2.2.2.2.2.1<;>cases fq f.2.2.2.2.2.2.1<;>cases fq f.2.2.2.2.2.2.2.1<;>cases hlen:decide (f.2.2.2.1.length≤400)<;>try rfl
   by_cases h8:f.1=8
   ·simp[h8]
   ·have e8: (f.1==8)=false:=by simp[h8]
    obtain⟨o1,o2⟩:=hoff h8
    unfold Zno
    cases h18:f.1==18<;>cases h22:f.1==22<;>simp[e8,o1,o2]
theorem Qt6(f:Zh)(hl:f.2.2.2.1.length≤1048576):Zs2 f=some (Znb f,()):=by
 obtain⟨s,hs,hn⟩:=Qwi f.1
 obtain⟨u,hu,hp⟩:=Qs6 f
 unfold Zs2
 rw[Qwb,Q53]
 simp only[hs,hu,Q08,Option.bind_some,hn]
 cases hk: (f.1==4||f.1==5||f.1==8||f.1==16||f.1==17||f.1==18||f.1==20||f.1==21||f.1==22)
 ·have hpf:Xn f=false:=by
   cases h:Xn f
   ·rfl
   ·rw[Z81 h]at hk;cases hk
  simp only[Bool.not_false,cond_true,Option.bind_some,Bool.true_or]
  unfold Znb
  rw[hpf];rfl
 ·simp only[Bool.not_true,cond_false,Option.bind_some,Bool.false_or,(hp hk).2]
  have hq:Znb f=(Xn f&&fq f.2.1&&fq f.2.2.1&&fq f.2.2.2.2.2.1&&fq f.2.2.2.2.2.2.1&&fq f.2.2.2.2.2.2.2.1&&decide (f.2.2.2.1.length≤400)&& (bif f.1==18||f.1==22 then decide (f.2.2.2.2.2.2.1≤(1152921504606846976:Int))else decide (f.2.2.1≤(4611686018427387903:Int)- (f.2.2.2.1.length:Int)))):=rfl
  rw[hq,Zv (by omega) (by omega)]
  have hd:decide ((f.2.2.2.1.length:Int)≤400)=(decide (f.2.2.2.1.length≤400)):=by
   rw[Bool.eq_iff_iff];simp;omega
  rw[hd]
  cases hpf:Xn f
  ·simp
  ·have hoff:=Qsr hpf
   cases fq f.2.1<;>cases fq f.2.2.1<;>cases fq f.2.2.2.2.2.1<;>cases fq f.2.2.2.2.2.2.1<;>cases fq f.2.2.2.2.2.2.2.1<;>try rfl
   by_cases h8:f.1=8
   ·simp[h8]
   ·obtain⟨o1,o2⟩:=hoff h8
    cases h18:f.1==18<;>cases h22:f.1==22<;>simp[o1,o2]
theorem Qoq{x:Int}(h:fq x=true):0≤x∧x≤4611686018427387903:=by
 unfold fq at h
 simp only[Bool.and_eq_true,decide_eq_true_eq]at h
 exact⟨h.1,h.2⟩
def Xc(k:Int):List UInt8:=
 if k=4 then[114,101,115,101,116]else if k=5 then[115,116,111,112]else if k=8 then[115,116,114,101,97,109]else if k=16 then[109,97,120,100,97,116,97]
 else if k=17 then[109,97,120,115,116,114,101,97,109,100,97,116,97]else if k=18 then[109,97,120,115,116,114,101,97,109,115]else if k=20 then[100,97,116,97,98,108,111,99,107,101,100]
 else if k=21 then[115,116,114,101,97,109,100,97,116,97,98,108,111,99,107,101,100]else if k=22 then[115,116,114,101,97,109,115,98,108,111,99,107,101,100]else[]
theorem Q27(k:Int):Zda k=some (Xc k,()):=by
 unfold Zda Xc
 have key: ∀(c:Int) (a b:List UInt8) (m:Option (List UInt8×Unit)),m=some (b,())→(bif k==c then some (a,())else m)=some (if k=c then a else b,()):=by
  intro c a b m hm
  by_cases h:k=c
  ·rw[Zm (by simp[h]),if_pos h]
  ·rw[Zi (by simp[h]),if_neg h,hm]
 exact key _ _ _ _ (key _ _ _ _ (key _ _ _ _ (key _ _ _ _ (key _ _ _ _ (key _ _ _ _ (key _ _ _ _ (key _ _ _ _ (key _ _ _ _ rfl))))))))
def Qqd(f:Zh):Bool:=decide (f.2.1≤999999999)&&decide (f.2.2.1≤999999999)&&decide (f.2.2.2.2.2.1≤999999999)&&decide (f.2.2.2.2.2.2.1≤999999999)&&decide (f.2.2.2.2.2.2.2.1≤999999999)
def ftx(f:Zh):List UInt8:=
 if f.1=4 then Xc f.1++32:: (Go.Lib.itoa f.2.1++32:: (Go.Lib.itoa f.2.2.2.2.2.1++32::Go.Lib.itoa f.2.2.2.2.2.2.2.1))
 else if f.1=5 then Xc f.1++32:: (Go.Lib.itoa f.2.1++32::Go.Lib.itoa f.2.2.2.2.2.1)
 else if f.1=8 then Xc f.1++32:: (Go.Lib.itoa f.2.1++32:: (Go.Lib.itoa f.2.2.1++32:: ((120::Z07 f.2.2.2.1)++if f.2.2.2.2.1 then[32,102,105,110]else[])))
 else if f.1=17∨f.1=21 then Xc f.1++32:: (Go.Lib.itoa f.2.1++32::Go.Lib.itoa f.2.2.2.2.2.2.1)
 else if f.1=18∨f.1=22 then Xc f.1++32:: (Go.Lib.itoa f.2.2.2.2.2.2.1++32::if f.2.2.2.2.2.2.2.2.1 then[117,110,105]else[98,105,100,105])
 else Xc f.1++32::Go.Lib.itoa f.2.2.2.2.2.2.1
def Q0q(f:Zh):List UInt8:=if Znb f=true∧Qqd f=true then ftx f else[]
theorem Q8p(k:Int): (Xc k).length≤17:=by
 unfold Xc;repeat' split
 all_goals simp
open Classical in
noncomputable def pin(s:List UInt8):Option Int:=if h: ∃n:Int,-999999999≤n∧n≤999999999∧s=Go.Lib.itoa n then some h.choose else none
theorem Q9c{s:List UInt8}{n:Int}(h:pin s=some n): -999999999≤n∧n≤999999999∧s=Go.Lib.itoa n:=by
 unfold pin at h
 split at h
 ·rename_i hh
  have:=hh.choose_spec
  simp only[Option.some.injEq]at h
  rw[h]at this;exact this
 ·cases h
theorem Z11{n:Int}(h0: -999999999≤n)(h1:n≤999999999):pin (Go.Lib.itoa n)=some n:=by
 unfold pin
 have hh: ∃m:Int,-999999999≤m∧m≤999999999∧Go.Lib.itoa n=Go.Lib.itoa m:=⟨n,h0,h1,rfl⟩
 rw[dif_pos hh]
 congr 1
 exact(Qwa hh.choose_spec.2.2).symm
noncomputable def Qgm(s:List UInt8):Int:=(pin s).getD (-1)
noncomputable def atN(w:List (List UInt8))(i:Nat):Int:=if i<w.length then Qgm (w.getD i [])else-1
theorem Q8n{α:Type}{l:List α}{i:Nat}{d:α}(h:i<l.length):l.getD i d∈l:=by
 rw[List.getD_eq_getElem?_getD,List.getElem?_eq_getElem h];exact List.getElem_mem h
def Zom(w:List UInt8):Int:=
 if w=Xc 4 then 4 else if w=Xc 5 then 5 else if w=Xc 8 then 8 else if w=Xc 16 then 16 else if w=Xc 17 then 17 else if w=Xc 18 then 18 else if w=Xc 20 then 20 else if w=Xc 21 then 21 else if w=Xc 22 then 22 else 0
theorem Z70{k:Int}(h:Xc k≠[]):Zom (Xc k)=k:=by
 unfold Xc at h
 repeat' (split at h)
 all_goals first| (rename_i e;subst e;decide)|skip
 exact absurd rfl h
def kfm:Nat→List UInt8→Int→Int
 |0,_,c=>c
 |m+1,w,c=>kfm m w (if Xc (24- (m+1:Nat))=w∧w≠[]then 24- (m+1:Nat)else c)
theorem Q98(w:List UInt8):kfm 23 w 0=Zom w:=by
 have key: ∀k:Int,Xc k=[114,101,115,101,116]∨Xc k=[]∨True:=fun _=> .inr (.inr trivial)
 by_cases h4:w=Xc 4
 ·subst h4;decide
 by_cases h5:w=Xc 5
 ·subst h5;decide
 by_cases h8:w=Xc 8
 ·subst h8;decide
 by_cases h16:w=Xc 16
 ·subst h16;decide
 by_cases h17:w=Xc 17
 ·subst h17;decide
 by_cases h18:w=Xc 18
 ·subst h18;decide
 by_cases h20:w=Xc 20
 ·subst h20;decide
 by_cases h21:w=Xc 21
 ·subst h21;decide
 by_cases h22:w=Xc 22
 ·subst h22;decide
 have no: ∀k:Int,¬(Xc k=w∧w≠[]):=by
  intro k ⟨e,hne⟩
  have:=Z70 (k:=k) (by rw[e];exact hne)
  rw[e]at this
  unfold Zom at this
  simp only[h4,h5,h8,h16,h17,h18,h20,h21,h22,if_false]at this
  subst this
  exact hne (by rw[←e];rfl)
 have st: ∀m c,kfm m w c=c:=by
  intro m
  induction m with
  |zero=>intro c;rfl
  |succ m ih=>intro c;simp only[kfm];rw[if_neg (no _),ih]
 rw[st]
 unfold Zom
 simp only[h4,h5,h8,h16,h17,h18,h20,h21,h22,if_false]
def zF:Zh:=((0:Int),((0:Int),((0:Int),(([]:List UInt8),(false,((0:Int),((0:Int),((0:Int),(false,())))))))))
noncomputable def chk(s:List UInt8)(f:Zh):Zh×Bool×Unit:=if s≠[]∧Q0q f=s then(f,true,())else(zF,false,())
noncomputable def frS(w:List (List UInt8)):Zh:=
 let k:=Zom (w.getD 0 [])
 if k=4 then(k,atN w 1,0,[],false,atN w 2,0,atN w 3,false,())
 else if k=5 then(k,atN w 1,0,[],false,atN w 2,0,0,false,())
 else if k=8 then(k,atN w 1,atN w 2,(if 3<w.length∧0< (w.getD 3 []).length then Qie ((w.getD 3 []).drop 1)else[]),decide (w.length=5),0,0,0,false,())
 else if k=17∨k=21 then(k,atN w 1,0,[],false,0,atN w 2,0,false,())
 else if k=18∨k=22 then(k,0,0,[],false,0,atN w 1,0,decide (w.length=3)&& (w.getD 2 []==[117,110,105]),())
 else(k,0,0,[],false,0,atN w 1,0,false,())
theorem Q6j(w:List UInt8):Zom w=0∨Zom w=4∨Zom w=5∨Zom w=8∨Zom w=16∨Zom w=17∨Zom w=18∨Zom w=20∨Zom w=21∨Zom w=22:=by
 unfold Zom;repeat' split
 all_goals simp
def Q37(s:List UInt8):List UInt8:=Qie (Go.Lib.trimPrefix s [120])
def Qqm(r:List (List UInt8)):Bool:=match r with| [a]=>a==[117,110,105]|_=>false
noncomputable def Zh2{β:Type}(r:List (List UInt8))(K:Int→List (List UInt8)→Option β):Option β:=
 match r with
 | []=>none
 |a::r=>match pin a with
  |none=>none
  |some n=>K n r
noncomputable def frI(w:List (List UInt8)):Option Zh:=
 let k:=Zom (w.headD [])
 let r:=w.tail
 if k=4 then Zh2 r fun st r=>Zh2 r fun c r=>Zh2 r fun fi _=>some (4,st,0,[],false,c,0,fi,false,())
 else if k=5 then Zh2 r fun st r=>Zh2 r fun c _=>some (5,st,0,[],false,c,0,0,false,())
 else if k=8 then Zh2 r fun st r=>Zh2 r fun off r=>some (8,st,off,(match r with| []=>[]|a::_=>Q37 a),decide (r.length=2),0,0,0,false,())
 else if k=17∨k=21 then Zh2 r fun st r=>Zh2 r fun l _=>some (k,st,0,[],false,0,l,0,false,())
 else Zh2 r fun l r=>some (k,0,0,[],false,0,l,0,decide (k=18∨k=22)&&Qqm r,())
noncomputable def Xac(s:List UInt8)(o:Option Zh):Zh×Bool×Unit:=match o with
 |none=>(zF,false,())
 |some f=>chk s f
theorem Q9p(s p:List UInt8): (Go.Lib.trimPrefix s p).length≤s.length:=by
 unfold Go.Lib.trimPrefix;split<;>simp
theorem Q4b(k:Int):Zmw k=some (Xc k,()):=by
 rw[show Zmw k=Zda k from rfl];exact Q27 k
def kfI:Nat→List UInt8→Int
 |0,_=>0
 |m+1,w=>if Xc (23- (m+1:Nat))=w then 23- (m+1:Nat)else kfI m w
theorem Q97(w:List UInt8)(hne:w≠[]):kfI 19 w=Zom w:=by
 by_cases h4:w=Xc 4
 ·subst h4;decide
 by_cases h5:w=Xc 5
 ·subst h5;decide
 by_cases h8:w=Xc 8
 ·subst h8;decide
 by_cases h16:w=Xc 16
 ·subst h16;decide
 by_cases h17:w=Xc 17
 ·subst h17;decide
 by_cases h18:w=Xc 18
 ·subst h18;decide
 by_cases h20:w=Xc 20
 ·subst h20;decide
 by_cases h21:w=Xc 21
 ·subst h21;decide
 by_cases h22:w=Xc 22
 ·subst h22;decide
 have no: ∀k:Int,¬(Xc k=w):=by
  intro k e
  have:=Z70 (k:=k) (by rw[e];exact hne)
  rw[e]at this
  unfold Zom at this
  simp only[h4,h5,h8,h16,h17,h18,h20,h21,h22,if_false]at this
  subst this
  exact hne (by rw[←e];rfl)
 have st: ∀m,kfI m w=0:=by
  intro m
  induction m with
  |zero=>rfl
  |succ m ih=>simp only[kfI];rw[if_neg (no _),ih]
 rw[st]
 unfold Zom
 simp only[h4,h5,h8,h16,h17,h18,h20,h21,h22,if_false]
theorem Q9t{α:Type}(a:α)(r:List α): ((a::r).drop (1:Int).toNat).take ((((a::r).length:Nat):Int).toNat- (1:Int).toNat)=r:=by
 rw[List.take_of_length_le]
 ·rfl
 ·simp
theorem hdn{β:Type}(x y:Option β): (bif((([]:List (List UInt8)).length:Nat):Int)==(0:Int)then x else y)=x:=rfl
theorem Xak{β:Type}(a:List UInt8)(r:List (List UInt8))(x:Option β):Zf ((0:Int)≤1∧(1:Int)≤(((a::r).length:Nat):Int)∧(((a::r).length:Nat):Int)≤(((a::r).length:Nat):Int)) x=x:=Zc (by simp;omega)
theorem Qyh(c:UInt8)(hc:c=32∨c=10)(k:Int):c∉Xc k:=by
 unfold Xc
 repeat' split
 all_goals rcases hc with rfl|rfl<;>decide
theorem Q9a{c:UInt8}{a b:List UInt8}(h1:c∉a)(h2:c∉b):c∉a++b:=by
 intro h;rcases List.mem_append.1 h with h|h
 ·exact h1 h
 ·exact h2 h
theorem Qpq{f:Zh}(h:Znb f=true)(hs:Qqd f=true):frS (Q7 32 (ftx f))=f∧frI (Q7 32 (ftx f))=some f∧ftx f≠[]:=by
 have hok':=h
 unfold Znb at hok'
 simp only[Bool.and_eq_true,decide_eq_true_eq]at hok'
 obtain⟨⟨⟨⟨⟨⟨⟨hp,q1⟩,q2⟩,q3⟩,q4⟩,q5⟩,hlen⟩,-⟩:=hok'
 have q1:=Qoq q1
 have q2:=Qoq q2
 have q3:=Qoq q3
 have q4:=Qoq q4
 have q5:=Qoq q5
 have hk:=Z81 hp
 unfold Qqd at hs
 simp only[Bool.and_eq_true,decide_eq_true_eq]at hs
 obtain⟨⟨⟨⟨s1,s2⟩,s3⟩,s4⟩,s5⟩:=hs
 obtain⟨k,st,off,data,fin,code,lim,final,uni,z⟩:=f
 simp only at*
 unfold Xn at hp
 simp only at hp
 have nk:Xc k≠[]:=by
  intro e
  unfold Xc at e
  simp only[Bool.or_eq_true,beq_iff_eq]at hk
  repeat' (split at e)
  all_goals first| (cases e;done)|skip
  omega
 have kk:=Z70 nk
 have i0:=fun n:Int=>Q0v 32 (.inl rfl) n
 have n0:=Qyh 32 (.inl rfl) k
 have p1:=Z11 (n:=st) (by omega) s1
 have p2:=Z11 (n:=off) (by omega) s2
 have p3:=Z11 (n:=code) (by omega) s3
 have p4:=Z11 (n:=lim) (by omega) s4
 have p5:=Z11 (n:=final) (by omega) s5
 simp only[Bool.or_eq_true,beq_iff_eq]at hk
 have ss:=fun(a r:List UInt8) (h: (32:UInt8)∉a)=>Qia 32 a r h
 have so:=fun(a:List UInt8) (h: (32:UInt8)∉a)=>Z91 32 a h
 cases z
 rcases hk with(((((((rfl|rfl)|rfl)|rfl)|rfl)|rfl)|rfl)|rfl)|rfl
 ·simp at hp
  obtain⟨⟨⟨⟨rfl,rfl⟩,rfl⟩,rfl⟩,rfl⟩:=hp
  have e:Q7 32 (ftx (4,st,0,[],false,code,0,final,false,()))=[Xc 4,Go.Lib.itoa st,Go.Lib.itoa code,Go.Lib.itoa final]:=by
   show Q7 32 (Xc 4++32:: (Go.Lib.itoa st++32:: (Go.Lib.itoa code++32:: (Go.Lib.itoa final))))=_
   rw[ss _ _ n0,ss _ _ (i0 _),ss _ _ (i0 _),so _ (i0 _)]
  rw[e]
  refine⟨?_,?_,?_⟩
  ·unfold frS;simp[kk,atN,Qgm,p1,p3,p5]
  ·unfold frI;simp[kk,Zh2,p1,p3,p5]
  ·simp[ftx]
 ·simp at hp
  obtain⟨⟨⟨⟨⟨rfl,rfl⟩,rfl⟩,rfl⟩,rfl⟩,rfl⟩:=hp
  have e:Q7 32 (ftx (5,st,0,[],false,code,0,0,false,()))=[Xc 5,Go.Lib.itoa st,Go.Lib.itoa code]:=by
   show Q7 32 (Xc 5++32:: (Go.Lib.itoa st++32:: (Go.Lib.itoa code)))=_
   rw[ss _ _ n0,ss _ _ (i0 _),so _ (i0 _)]
  rw[e]
  refine⟨?_,?_,?_⟩
  ·unfold frS;simp[kk,atN,Qgm,p1,p3]
  ·unfold frI;simp[kk,Zh2,p1,p3]
  ·simp[ftx]
 ·simp at hp
  obtain⟨⟨⟨rfl,rfl⟩,rfl⟩,rfl⟩:=hp
  have hh:=Qsc 32 (.inl rfl) data
  have hx: (32:UInt8)∉120::Z07 data:=by simp[hh]
  have hu:Qie (Z07 data)=data:=by unfold Qie;rw[Qql];rfl
  have hv:Q37 (120::Z07 data)=data:=hu
  cases fin
  rotate_left
  ·have e:Q7 32 (ftx (8,st,off,data,true,0,0,0,false,()))=[Xc 8,Go.Lib.itoa st,Go.Lib.itoa off,(120::Z07 data),[102,105,110]]:=by
    show Q7 32 (Xc 8++32:: (Go.Lib.itoa st++32:: (Go.Lib.itoa off++32:: ((120::Z07 data)++32:: ([102,105,110])))))=_
    rw[ss _ _ n0,ss _ _ (i0 _),ss _ _ (i0 _),ss _ _ hx,so _ (by decide)]
   rw[e]
   refine⟨?_,?_,?_⟩
   ·unfold frS;simp[kk,atN,Qgm,p1,p2,hu]
   ·unfold frI;simp[kk,Zh2,p1,p2,hv]
   ·simp[ftx]
  ·have e:Q7 32 (ftx (8,st,off,data,false,0,0,0,false,()))=[Xc 8,Go.Lib.itoa st,Go.Lib.itoa off,(120::Z07 data)]:=by
    show Q7 32 (Xc 8++32:: (Go.Lib.itoa st++32:: (Go.Lib.itoa off++32:: ((120::Z07 data)++ []))))=_
    rw[List.append_nil]
    rw[ss _ _ n0,ss _ _ (i0 _),ss _ _ (i0 _),so _ hx]
   rw[e]
   refine⟨?_,?_,?_⟩
   ·unfold frS;simp[kk,atN,Qgm,p1,p2,hu]
   ·unfold frI;simp[kk,Zh2,p1,p2,hv]
   ·simp[ftx]
 ·simp at hp
  obtain⟨⟨⟨⟨⟨⟨rfl,rfl⟩,rfl⟩,rfl⟩,rfl⟩,rfl⟩,rfl⟩:=hp
  have e:Q7 32 (ftx (16,0,0,[],false,0,lim,0,false,()))=[Xc 16,Go.Lib.itoa lim]:=by
   show Q7 32 (Xc 16++32:: (Go.Lib.itoa lim))=_
   rw[ss _ _ n0,so _ (i0 _)]
  rw[e]
  refine⟨?_,?_,?_⟩
  ·unfold frS;simp[kk,atN,Qgm,p4]
  ·unfold frI;simp[kk,Zh2,p4,Qqm]
  ·simp[ftx]
 ·simp at hp
  obtain⟨⟨⟨⟨⟨rfl,rfl⟩,rfl⟩,rfl⟩,rfl⟩,rfl⟩:=hp
  have e:Q7 32 (ftx (17,st,0,[],false,0,lim,0,false,()))=[Xc 17,Go.Lib.itoa st,Go.Lib.itoa lim]:=by
   show Q7 32 (Xc 17++32:: (Go.Lib.itoa st++32:: (Go.Lib.itoa lim)))=_
   rw[ss _ _ n0,ss _ _ (i0 _),so _ (i0 _)]
  rw[e]
  refine⟨?_,?_,?_⟩
  ·unfold frS;simp[kk,atN,Qgm,p1,p4]
  ·unfold frI;simp[kk,Zh2,p1,p4]
  ·simp[ftx]
 ·simp at hp
  obtain⟨⟨⟨⟨⟨rfl,rfl⟩,rfl⟩,rfl⟩,rfl⟩,rfl⟩:=hp
  cases uni
  rotate_left
  ·have e:Q7 32 (ftx (18,0,0,[],false,0,lim,0,true,()))=[Xc 18,Go.Lib.itoa lim,[117,110,105]]:=by
    show Q7 32 (Xc 18++32:: (Go.Lib.itoa lim++32:: ([117,110,105])))=_
    rw[ss _ _ n0,ss _ _ (i0 _),so _ (by decide)]
   rw[e]
   refine⟨?_,?_,?_⟩
   ·unfold frS;simp[kk,atN,Qgm,p4]
   ·unfold frI;simp[kk,Zh2,p4,Qqm]
   ·simp[ftx]
  ·have e:Q7 32 (ftx (18,0,0,[],false,0,lim,0,false,()))=[Xc 18,Go.Lib.itoa lim,[98,105,100,105]]:=by
    show Q7 32 (Xc 18++32:: (Go.Lib.itoa lim++32:: ([98,105,100,105])))=_
    rw[ss _ _ n0,ss _ _ (i0 _),so _ (by decide)]
   rw[e]
   refine⟨?_,?_,?_⟩
   ·unfold frS;simp[kk,atN,Qgm,p4]
   ·unfold frI;simp[kk,Zh2,p4,Qqm]
   ·simp[ftx]
 ·simp at hp
  obtain⟨⟨⟨⟨⟨⟨rfl,rfl⟩,rfl⟩,rfl⟩,rfl⟩,rfl⟩,rfl⟩:=hp
  have e:Q7 32 (ftx (20,0,0,[],false,0,lim,0,false,()))=[Xc 20,Go.Lib.itoa lim]:=by
   show Q7 32 (Xc 20++32:: (Go.Lib.itoa lim))=_
   rw[ss _ _ n0,so _ (i0 _)]
  rw[e]
  refine⟨?_,?_,?_⟩
  ·unfold frS;simp[kk,atN,Qgm,p4]
  ·unfold frI;simp[kk,Zh2,p4,Qqm]
  ·simp[ftx]
 ·simp at hp
  obtain⟨⟨⟨⟨⟨rfl,rfl⟩,rfl⟩,rfl⟩,rfl⟩,rfl⟩:=hp
  have e:Q7 32 (ftx (21,st,0,[],false,0,lim,0,false,()))=[Xc 21,Go.Lib.itoa st,Go.Lib.itoa lim]:=by
   show Q7 32 (Xc 21++32:: (Go.Lib.itoa st++32:: (Go.Lib.itoa lim)))=_
   rw[ss _ _ n0,ss _ _ (i0 _),so _ (i0 _)]
  rw[e]
  refine⟨?_,?_,?_⟩
  ·unfold frS;simp[kk,atN,Qgm,p1,p4]
  ·unfold frI;simp[kk,Zh2,p1,p4]
  ·simp[ftx]
 ·simp at hp
  obtain⟨⟨⟨⟨⟨rfl,rfl⟩,rfl⟩,rfl⟩,rfl⟩,rfl⟩:=hp
  cases uni
  rotate_left
  ·have e:Q7 32 (ftx (22,0,0,[],false,0,lim,0,true,()))=[Xc 22,Go.Lib.itoa lim,[117,110,105]]:=by
    show Q7 32 (Xc 22++32:: (Go.Lib.itoa lim++32:: ([117,110,105])))=_
    rw[ss _ _ n0,ss _ _ (i0 _),so _ (by decide)]
   rw[e]
   refine⟨?_,?_,?_⟩
   ·unfold frS;simp[kk,atN,Qgm,p4]
   ·unfold frI;simp[kk,Zh2,p4,Qqm]
   ·simp[ftx]
  ·have e:Q7 32 (ftx (22,0,0,[],false,0,lim,0,false,()))=[Xc 22,Go.Lib.itoa lim,[98,105,100,105]]:=by
    show Q7 32 (Xc 22++32:: (Go.Lib.itoa lim++32:: ([98,105,100,105])))=_
    rw[ss _ _ n0,ss _ _ (i0 _),so _ (by decide)]
   rw[e]
   refine⟨?_,?_,?_⟩
   ·unfold frS;simp[kk,atN,Qgm,p4]
   ·unfold frI;simp[kk,Zh2,p4,Qqm]
   ·simp[ftx]
theorem Qzk{f:Zh}(h:Q0q f≠[]):Znb f=true∧Qqd f=true∧Q0q f=ftx f:=by
 unfold Q0q at h⊢
 by_cases hc:Znb f=true∧Qqd f=true
 ·rw[if_pos hc];exact⟨hc.1,hc.2,rfl⟩
 ·rw[if_neg hc]at h;exact absurd rfl h
theorem Q7m(s:List UInt8):Xac s (frI (Q7 32 s))=chk s (frS (Q7 32 s)):=by
 by_cases h:s≠[]∧Q0q (frS (Q7 32 s))=s
 ·obtain⟨h1,h2,h3⟩:=Qzk (f:=frS (Q7 32 s)) (by rw[h.2];exact h.1)
  have hp:=(Qpq h1 h2).2.1
  rw[h.2]at h3
  rw[←h3]at hp
  rw[hp];rfl
 ·have hr:chk s (frS (Q7 32 s))=(zF,false,()):=if_neg h
  rw[hr]
  cases hf:frI (Q7 32 s)with
  |none=>rfl
  |some g=>
   show chk s g=_
   by_cases hg:s≠[]∧Q0q g=s
   ·obtain⟨h1,h2,h3⟩:=Qzk (f:=g) (by rw[hg.2];exact hg.1)
    have hp:=(Qpq h1 h2).1
    rw[hg.2]at h3
    rw[←h3]at hp
    exact absurd ⟨hg.1,by rw[hp,hg.2]⟩ h
   ·exact if_neg hg
theorem Qy9(x:Int):0≤bits .and .i64 x 255∧bits .and .i64 x 255≤255:=by
 have h:bits .and .i64 x 255=IntKind.i64.wrap (((BitVec.ofInt 64 x&&&BitVec.ofInt 64 255).toNat:Nat):Int):=rfl
 rw[h,BitVec.toNat_and]
 have h2: (BitVec.ofInt 64 255).toNat=255:=by decide
 rw[h2]
 have h3: (BitVec.ofInt 64 x).toNat&&&255≤255:=Nat.and_le_right
 rw[Zv (by omega) (by omega)]
 omega
def Kv(c:Qm):Prop:=c.1.length≤1048576∧0≤c.2.1∧c.2.1≤c.1.length
theorem Q4j(code:List Int)(h:code.length≤1048576): ∃c,Zqq code=some (c,())∧Kv c:=by
 have loop: ∀(N:Nat) (x:Int) (i:Nat),i≤code.length→code.length-i<N→ ∃c,Zm8 N code x (i:Int)=some (c,())∧Kv c:=by
  intro N
  induction N with
  |zero=>intro x i _ h;omega
  |succ N ih=>
   intro x i hi hN
   unfold Zm8
   by_cases hl:i<code.length∧i<4000
   ·rw[Zm (by simp;omega),Zc (by omega),Zo hl.1 (by omega)]
    exact ih _ (i+1) (by omega) (by omega)
   ·rw[Zi (by simp;omega)]
    exact⟨_,rfl,h,Int.le_refl 0,by simp⟩
 unfold Zqq
 exact loop _ _ 0 (by omega) (by unfold Zoh;omega)
theorem Z0w(c:Qm)(h:Kv c): ∃x c',Zh6 c=some ((x,()),(c',()))∧Kv c'∧0≤x∧x≤255:=by
 obtain⟨h1,h2,h3⟩:=h
 unfold Zh6
 simp only[]
 rw[Zc (by decide),Zc (by decide)]
 by_cases hl:c.2.1< (c.1.length:Int)
 ·rw[Zm (Zj hl),Zc ⟨h2,hl⟩,Zv (n:=c.2.1+1) (by omega) (by omega)]
  exact⟨_,_,rfl,⟨h1,by show 0≤c.2.1+1;omega,by show c.2.1+1≤(c.1.length:Int);omega⟩,Qy9 _⟩
 ·rw[Zi (Zk hl)]
  exact⟨_,_,rfl,⟨h1,h2,h3⟩,Qy9 _⟩
theorem Ztm(c:Qm)(n:Int)(h:Kv c): ∃x c',Qo c n=some ((x,()),(c',()))∧Kv c'∧0≤x∧(0<n→x<n):=by
 unfold Qo
 by_cases h0:n≤0
 ·rw[Zm (Zj h0)]
  exact⟨_,_,rfl,h,Int.le_refl 0,fun hn=>by omega⟩
 ·rw[Zi (Zk h0)]
  by_cases h1:n≤256
  ·rw[Zm (Zj h1)]
   obtain⟨x,c1,e1,k1,b1,b2⟩:=Z0w c h
   rw[e1,Option.bind_some,Zc (by omega)]
   exact⟨_,_,rfl,k1,Int.tmod_nonneg n b1,fun hn=>Int.tmod_lt_of_pos x hn⟩
  ·rw[Zi (Zk h1)]
   obtain⟨x,c1,e1,k1,b1,b2⟩:=Z0w c h
   obtain⟨y,c2,e2,k2,b3,b4⟩:=Z0w c1 k1
   obtain⟨z,c3,e3,k3,b5,b6⟩:=Z0w c2 k2
   obtain⟨u,c4,e4,k4,b7,b8⟩:=Z0w c3 k3
   rw[e1,Option.bind_some,e2,Option.bind_some,e3,Option.bind_some,e4,Option.bind_some,Zc (by omega)]
   simp only[]
   rw[Zv (n:=x*16777216) (by omega) (by omega),Zv (n:=y*65536) (by omega) (by omega),Zv (n:=x*16777216+y*65536) (by omega) (by omega),Zv (n:=z*256) (by omega) (by omega),Zv (n:=x*16777216+y*65536+z*256) (by omega) (by omega),Zv (n:=x*16777216+y*65536+z*256+u) (by omega) (by omega)]
   exact⟨_,_,rfl,k4,Int.tmod_nonneg n (by omega),fun hn=>Int.tmod_lt_of_pos _ hn⟩
theorem Q2c(c:Qm)(l:List Int)(h:Kv c)(hl:0<l.length): ∃x c',Zhq c l=some ((x,()),(c',()))∧Kv c'∧x∈l:=by
 unfold Zhq
 obtain⟨x,c1,e1,k1,b1,b2⟩:=Ztm c (l.length:Int) h
 have b2:=b2 (by omega)
 rw[e1,Option.bind_some]
 simp only[]
 rw[Zc ⟨b1,b2⟩]
 refine⟨_,_,rfl,k1,?_⟩
 have hx:x.toNat<l.length:=by omega
 rw[List.getD_eq_getElem?_getD,List.getElem?_eq_getElem hx]
 exact List.getElem_mem hx
def Zff(r:Zd):Bool:=(decide (r.1≥(0:Int))&&decide (r.1<r.2.1))&&decide (r.2.1≤(4611686018427387903:Int))
theorem Zyl(r:Zd):Zr2 r=some (Zff r,()):=rfl
theorem Q2{r:Zd}:Zff r=true↔0≤r.1∧r.1<r.2.1∧r.2.1≤4611686018427387903:=by
 unfold Zff;simp;omega
def rsB:Int→List Zd→Bool
 |_,[]=>true
 |lo,r::l=>Zff r&&decide (lo<r.1)&&rsB r.2.1 l
theorem Z6a: ∀(N:Nat) (pre rest:List Zd) (lo:Int),(pre++rest).length≤8000000000→rest.length<N→(pre=[]→lo<0)→(∀q x,pre=q++ [x]→lo=x.2.1)→
  V0 N (pre++rest) (pre.length:Int)=some (rsB lo rest,())
 |0,_,_,_,_,h,_,_=>by omega
 |N+1,pre,[],lo,hl,hN,h0,h1=>by
  unfold V0
  rw[Zi (by simp)];rfl
 |N+1,pre,r::rest,lo,hl,hN,h0,h1=>by
  have hlen: (pre++r::rest).length=pre.length+rest.length+1:=by simp;omega
  simp only[List.length_cons]at hN
  unfold V0
  rw[Zm (Zj (by rw[hlen];omega)),Zc (by rw[hlen];omega),V9,Zyl,Option.bind_some]
  have ih:=Z6a N (pre++ [r]) rest r.2.1 (by simp;omega) (by omega) (by simp) (fun q x e=>by
   have:=List.append_inj' e rfl
   simp only[List.cons.injEq,and_true]at this
   rw[this.2])
  have e0: ((pre++ [r]).length:Int)=((pre.length+1:Nat):Int):=by simp
  rw[e0]at ih
  rw[show(pre++ [r])++rest=pre++r::rest by simp]at ih
  rw[Zc (fun _ h=>by
   have: (pre.length:Int)>0:=by simpa using h
   rw[Zv (by omega) (by omega),hlen];omega),Zc (fun _ _=>by rw[hlen];omega),Zo (m:=pre.length+1) (by omega) (by omega),ih]
  simp only[rsB]
  cases hf:Zff r
  ·rfl
  ·rcases List.eq_nil_or_concat pre with hp| ⟨q,x,hp⟩
   ·subst hp
    have hlo:=h0 rfl
    have hr:=Q2.1 hf
    rw[Zi (by simp)]
    rw[show decide (lo<r.1)=true from Zj (by omega)]
    simp
   ·rw[List.concat_eq_append]at hp
    have hlo:=h1 q x hp
    have hg: (pre++r::rest).getD (IntKind.i64.wrap ((pre.length:Int)-1)).toNat Zx=x:=by
     rw[Zv (by omega) (by omega)]
     have e: ((pre.length:Int)-1).toNat=q.length:=by rw[hp];simp
     rw[e,hp,List.append_assoc]
     exact V9 q x ([r]++rest) Zx
    rw[hg,←hlo]
    have hpos:decide ((pre.length:Int)>0)=true:=Zj (by rw[hp];simp)
    rw[hpos]
    by_cases hc:lo<r.1
    ·rw[Zi (by simp;omega),Zj hc];simp
    ·rw[Zm (by simp;omega),Zk hc];simp
theorem Zwg(l:List Zd)(hl:l.length≤8000000000):Y1 l=some (rsB (-1) l,()):=by
 unfold Y1
 exact Z6a _ [] l (-1) (by simpa using hl) (by unfold Zak;omega) (fun _=>by omega) (fun q x e=>by simp at e)
theorem J3{lo:Int}{r:Zd}{l:List Zd}:rsB lo (r::l)=true↔Zff r=true∧lo<r.1∧rsB r.2.1 l=true:=by
 simp only[rsB,Bool.and_eq_true,decide_eq_true_eq,and_assoc]
theorem Qp5: ∀{l:List Zd} {lo lo':Int},rsB lo l=true→lo'≤lo→rsB lo' l=true
 | [],_,_,_,_=>rfl
 |r::l,lo,lo',h,hl=>by
  rw[J3]at h⊢
  exact⟨h.1,by omega,h.2.2⟩
theorem Zvo: ∀{l:List Zd} {lo:Int},rsB lo l=true→ ∀x∈l,lo<x.1∧Zff x=true
 | [],_,_,x,hx=>by cases hx
 |r::l,lo,h,x,hx=>by
  rw[J3]at h
  have hf:=Q2.1 h.1
  rcases List.mem_cons.1 hx with rfl|hx
  ·exact⟨h.2.1,h.1⟩
  ·have:=Zvo h.2.2 x hx
   exact⟨by omega,this.2⟩
theorem Qz2: ∀{l:List Zd} {lo E:Int},rsB lo l=true→(∀x∈l,x.2.1≤E)→lo≤E→(l.length:Int)≤E-lo
 | [],lo,E,_,_,hE=>by simp;omega
 |r::l,lo,E,h,hE,_=>by
  rw[J3]at h
  have hf:=Q2.1 h.1
  have:=Qz2 (E:=E) h.2.2 (fun x hx=>hE x (by simp[hx])) (hE r (by simp))
  simp only[List.length_cons];omega
def Zmi:List Zd→Zd→List Zd
 | [],r=>[r]
 |x::l,r=>if x.2.1<r.1 then x::Zmi l r else if x.1>r.2.1 then r::x::l else Zmi l (min r.1 x.1,max r.2.1 x.2.1,())
theorem Qt9(l:List Zd)(hl:l.length≤8000000000):Zf0 l=some (l,()):=by
 unfold Zf0
 rw[Zc (by unfold Qv;simp;omega)]
 simp
theorem Qim: ∀(N:Nat) (pre rest:List Zd) (r:Zd) (out:List Zd),(pre++rest).length≤8000000000→rest.length<N→out.length≤pre.length+1→r.1<r.2.1→(∀x∈rest,r.2.1<x.1∧x.1<x.2.1)→
  Yg N (pre++rest) r out true (pre.length:Int)=some (out++rest,())
 |0,_,_,_,_,_,h,_,_,_=>by omega
 |N+1,pre,[],r,out,hl,hN,ho,hr,hx=>by
  unfold Yg
  rw[Zi (by simp)];simp
 |N+1,pre,x::rest,r,out,hl,hN,ho,hr,hx=>by
  have hlen: (pre++x::rest).length=pre.length+rest.length+1:=by simp;omega
  simp only[List.length_cons]at hN
  have hxx:=hx x (by simp)
  unfold Yg
  rw[Zm (Zj (by rw[hlen];omega)),Zc (by rw[hlen];omega),V9,Zi (Zk (by omega)),Zc (by rw[hlen];omega),Zm (Zj (by omega)),Zi (by rfl)]
  unfold Zgy Vu
  rw[Zc (by rw[hlen];omega),V9,Zc (by unfold Qv;simp;omega),Zo (m:=pre.length+1) (by omega) (by omega)]
  have ih:=Qim N (pre++ [x]) rest r (out++ [x]) (by simp;omega) (by omega) (by simp;omega) hr (fun y hy=>hx y (by simp[hy]))
  rw[show(pre++ [x])++rest=pre++x::rest by simp,show((pre++ [x]).length:Int)=((pre.length+1:Nat):Int) by simp]at ih
  simp only[ih]
  simp
theorem Qeq: ∀(N:Nat) (pre rest:List Zd) (r:Zd) (out:List Zd) (lo:Int),(pre++rest).length≤8000000000→rest.length<N→out.length≤pre.length→r.1<r.2.1→rsB lo rest=true→
  Yg N (pre++rest) r out false (pre.length:Int)=some (out++Zmi rest r,())
 |0,_,_,_,_,_,_,h,_,_,_=>by omega
 |N+1,pre,[],r,out,lo,hl,hN,ho,hr,hx=>by
  simp only[List.append_nil]at hl
  unfold Yg
  rw[Zi (by simp),Zm (by rfl),Zc (by unfold Qv;simp;omega)];rfl
 |N+1,pre,x::rest,r,out,lo,hl,hN,ho,hr,hx=>by
  have hlen: (pre++x::rest).length=pre.length+rest.length+1:=by simp;omega
  simp only[List.length_cons]at hN
  obtain⟨hf,hlo,hrest⟩:=J3.1 hx
  have hf:=Q2.1 hf
  unfold Yg
  rw[Zm (Zj (by rw[hlen];omega)),Zc (by rw[hlen];omega),V9]
  have es: (pre++ [x])++rest=pre++x::rest:=by simp
  have el: ((pre++ [x]).length:Int)=((pre.length+1:Nat):Int):=by simp
  by_cases h1:x.2.1<r.1
  ·rw[Zm (Zj h1),Zc (by rw[hlen];omega),Zc (by unfold Qv;simp;omega)]
   unfold Vu
   have ih:=Qeq N (pre++ [x]) rest r (out++ [x]) _ (by simp;omega) (by omega) (by simp;omega) hr hrest
   rw[es,el]at ih
   rw[Zo (m:=pre.length+1) (by omega) (by omega)]
   simp only[ih,Zmi,h1,if_true]
   simp
  ·rw[Zi (Zk h1),Zc (by rw[hlen];omega)]
   by_cases h2:x.1>r.2.1
   ·rw[Zm (Zj h2),Zm (by rfl),Zc (by unfold Qv;simp;omega)]
    unfold Zgy Vu
    rw[Zc (by rw[hlen];omega),V9,Zc (by unfold Qv;simp;omega),Zo (m:=pre.length+1) (by omega) (by omega)]
    have ih:=Qim N (pre++ [x]) rest r (out++ [r]++ [x]) (by simp;omega) (by omega) (by simp;omega) hr (fun y hy=>by
     have:=Zvo hrest y hy
     have:=Q2.1 this.2
     omega)
    rw[es,el]at ih
    simp only[ih,Zmi,h1,h2,if_true,if_false]
    simp
   ·rw[Zi (Zk h2),Zc (by rw[hlen];omega),Zc (by rw[hlen];omega)]
    unfold Vu
    have ih:=Qeq N (pre++ [x]) rest (min r.1 x.1,(max r.2.1 x.2.1,r.2.2)) out _ (by simp;omega) (by omega) (by simp;omega) (by simp only;omega) hrest
    rw[es,el]at ih
    rw[Zo (m:=pre.length+1) (by omega) (by omega)]
    simp only[ih,Zmi,h1,h2,if_false]
theorem Qr2(l:List Zd)(r:Zd)(hl:l.length≤8000000000):Jb l r=some (if rsB (-1) l=true∧Zff r=true then Zmi l r else l,()):=by
 unfold Jb
 rw[Zwg l (by omega),Option.bind_some]
 cases h1:rsB (-1) l
 ·simp[Qt9 l (by omega)]
 ·simp only[Bool.not_true,cond_false,Zyl,Option.bind_some,Bool.false_or]
  cases h2:Zff r
  ·simp[Qt9 l (by omega)]
  ·have hf:=Q2.1 h2
   have:=Qeq (Zet l r [] false 0) [] l r [] (-1) (by simpa using hl) (by unfold Zet;omega) (by simp) (by omega) h1
   simp only[Bool.not_true,cond_false,and_self,if_true]
   exact this
def RL(E:Int)(l:List Zd):Prop:=rsB (-1) l=true∧ ∀x∈l,x.2.1≤E
theorem Ql2: ∀{l:List Zd} {lo:Int} {r:Zd},rsB lo l=true→Zff r=true→lo<r.1→rsB lo (Zmi l r)=true
 | [],lo,r,_,h2,h3=>by simp[Zmi,rsB,h2,h3]
 |x::l,lo,r,h1,h2,h3=>by
  obtain⟨hf,hlo,hrest⟩:=J3.1 h1
  have hx:=Q2.1 hf
  have hr:=Q2.1 h2
  unfold Zmi
  split
  ·exact J3.2 ⟨hf,hlo,Ql2 hrest h2 (by omega)⟩
  ·split
   ·exact J3.2 ⟨h2,h3,J3.2 ⟨hf,by omega,hrest⟩⟩
   ·exact Ql2 (Qp5 hrest (by omega)) (Q2.2 (by simp only;omega)) (by simp only;omega)
theorem Qep{E:Int}: ∀{l:List Zd} {r:Zd},(∀x∈l,x.2.1≤E)→r.2.1≤E→ ∀x∈Zmi l r,x.2.1≤E
 | [],r,_,h,x,hx=>by simp[Zmi]at hx;subst hx;exact h
 |y::l,r,hl,h,x,hx=>by
  have hy:=hl y (by simp)
  have hl': ∀x∈l,x.2.1≤E:=fun x hx=>hl x (by simp[hx])
  unfold Zmi at hx
  split at hx
  ·rcases List.mem_cons.1 hx with rfl|hx
   ·exact hy
   ·exact Qep hl' h x hx
  ·split at hx
   ·rcases List.mem_cons.1 hx with rfl|hx
    ·exact h
    ·exact hl x hx
   ·exact Qep hl' (by simp only;omega) x hx
theorem Z94: ∀{l:List Zd} {r:Zd},(Zmi l r).length≤l.length+1
 | [],r=>by simp[Zmi]
 |y::l,r=>by
  unfold Zmi
  split
  ·have:=Z94 (l:=l) (r:=r);simp only[List.length_cons];omega
  ·split
   ·simp
   ·have:=Z94 (l:=l) (r:=(min r.1 y.1,max r.2.1 y.2.1,()));simp only[List.length_cons];omega
theorem Zvu{E:Int}{l:List Zd}{r:Zd}(h:RL E l)(hr:r.2.1≤E):RL E (if rsB (-1) l=true∧Zff r=true then Zmi l r else l):=by
 split
 ·rename_i hc
  have:=Q2.1 hc.2
  exact⟨Ql2 hc.1 hc.2 (by omega),Qep h.2 hr⟩
 ·exact h
theorem Ql1{E E':Int}{l:List Zd}(h:RL E l)(he:E≤E'):RL E' l:=⟨h.1,fun x hx=>Int.le_trans (h.2 x hx) he⟩
theorem Q6w{E:Int}{l:List Zd}(h:RL E l)(hE: -1≤E): (l.length:Int)≤E+1:=by
 have:=Qz2 h.1 h.2 hE;omega
theorem Zkp(l:List Zd)(hl:l.length≤1048576):Y1 l=some (rsB (-1) l,()):=Zwg l (by omega)
theorem Qo6(l:List Zd)(hl:l.length≤1048576):Zf0 l=some (l,()):=Qt9 l (by omega)
theorem Zms(l:List Zd)(r:Zd)(hl:l.length≤1048576):Jb l r=some (if rsB (-1) l=true∧Zff r=true then Zmi l r else l,()):=Qr2 l r (by omega)
def Qxn(r x:Zd):List Zd:=(if x.1<min x.2.1 r.1 then[(x.1,min x.2.1 r.1,())]else[])++ (if max x.1 r.2.1<x.2.1 then[(max x.1 r.2.1,x.2.1,())]else[])
def Qhp(r:Zd):List Zd→List Zd
 | []=>[]
 |x::l=>Qxn r x++Qhp r l
theorem Q80(r x:Zd): (Qxn r x).length≤2:=by unfold Qxn;split<;>split<;>simp
theorem Qhq: ∀(N:Nat) (pre rest:List Zd) (r:Zd) (out:List Zd),(pre++rest).length≤1048576→rest.length<N→out.length≤2*pre.length→
  Kk N (pre++rest) r out (pre.length:Int)=some (out++Qhp r rest,())
 |0,_,_,_,_,_,h,_=>by omega
 |N+1,pre,[],r,out,hl,hN,ho=>by
  unfold Kk
  rw[Zi (by simp)];simp[Qhp]
 |N+1,pre,x::rest,r,out,hl,hN,ho=>by
  have hlen: (pre++x::rest).length=pre.length+rest.length+1:=by simp;omega
  simp only[List.length_cons]at hN
  have g: ∀{ρ:Type} (m:Option ρ),Zf (0≤(pre.length:Int)∧(pre.length:Int)< ((pre++x::rest).length:Int)) m=m:=fun m=>Zc (by rw[hlen];omega)
  have es: (pre++ [x])++rest=pre++x::rest:=by simp
  have el: ((pre++ [x]).length:Int)=((pre.length+1:Nat):Int):=by simp
  have j2: ∀out1:List Zd,out1.length≤2*pre.length+1→Zcr (fun v=>Kk N v.1 v.2.1 v.2.2.1 v.2.2.2.1) (pre++x::rest) r out1 (pre.length:Int)=some (out1++ (if max x.1 r.2.1<x.2.1 then[(max x.1 r.2.1,x.2.1,())]else[])++Qhp r rest,()):=by
   intro out1 ho1
   unfold Zcr Zgg
   simp only[g,V9]
   rw[Zo (m:=pre.length+1) (by omega) (by omega)]
   by_cases h:max x.1 r.2.1<x.2.1
   ·rw[Zm (Zj h),if_pos h,Zc (by unfold Qv;simp;omega)]
    have ih:=Qhq N (pre++ [x]) rest r (out1++ [(max x.1 r.2.1,x.2.1,())]) (by simp;omega) (by omega) (by simp;omega)
    rw[es,el]at ih
    simp only[ih]
   ·rw[Zi (Zk h),if_neg h]
    have ih:=Qhq N (pre++ [x]) rest r out1 (by simp;omega) (by omega) (by simp;omega)
    rw[es,el]at ih
    simp only[ih];simp
  unfold Kk
  rw[Zm (Zj (by rw[hlen];omega))]
  simp only[g,V9]
  by_cases h:x.1<min x.2.1 r.1
  ·rw[Zm (Zj h),Zc (by unfold Qv;simp;omega),j2 _ (by simp;omega)]
   simp[Qhp,Qxn,h]
  ·rw[Zi (Zk h),j2 _ (by omega)]
   simp[Qhp,Qxn,h]
theorem Z16(l:List Zd)(r:Zd)(hl:l.length≤1048576):Zdk l r=some (if rsB (-1) l=true∧Zff r=true then Qhp r l else l,()):=by
 unfold Zdk
 rw[Zkp l hl,Option.bind_some]
 cases h1:rsB (-1) l
 ·simp[Qo6 l hl]
 ·simp only[Bool.not_true,cond_false,Zyl,Option.bind_some,Bool.false_or]
  cases h2:Zff r
  ·simp[Qo6 l hl]
  ·have:=Qhq (Za6 l r [] 0) [] l r [] (by simpa using hl) (by unfold Za6;omega) (by simp)
   simp only[Bool.not_true,cond_false,and_self,if_true]
   exact this
theorem Qzz{r:Zd}(hr:Zff r=true): ∀{l:List Zd} {lo:Int},rsB lo l=true→rsB lo (Qhp r l)=true
 | [],lo,_=>rfl
 |x::l,lo,h1=>by
  obtain⟨hf,hlo,hrest⟩:=J3.1 h1
  have hx:=Q2.1 hf
  have hr:=Q2.1 hr
  have ih:=fun lo' h=>Qzz (r:=r) (Q2.2 hr) (l:=l) (lo:=lo') (Qp5 hrest h)
  unfold Qhp Qxn
  split<;>split
  ·simp only[List.cons_append,List.nil_append]
   exact J3.2 ⟨Q2.2 (by simp only;omega),by simp only;omega,J3.2 ⟨Q2.2 (by simp only;omega),by simp only;omega,ih _ (by simp only;omega)⟩⟩
  ·simp only[List.cons_append,List.nil_append]
   exact J3.2 ⟨Q2.2 (by simp only;omega),by simp only;omega,ih _ (by simp only;omega)⟩
  ·simp only[List.cons_append,List.nil_append]
   exact J3.2 ⟨Q2.2 (by simp only;omega),by simp only;omega,ih _ (by simp only;omega)⟩
  ·exact ih lo (by omega)
theorem Qsu{E:Int}{r:Zd}: ∀{l:List Zd},(∀x∈l,x.2.1≤E)→ ∀x∈Qhp r l,x.2.1≤E
 | [],_,x,hx=>by simp[Qhp]at hx
 |y::l,hl,x,hx=>by
  have hy:=hl y (by simp)
  unfold Qhp Qxn at hx
  simp only[List.mem_append]at hx
  rcases hx with(hx|hx)|hx
  ·split at hx
   ·simp only[List.mem_singleton]at hx;subst hx;simp only;omega
   ·cases hx
  ·split at hx
   ·simp only[List.mem_singleton]at hx;subst hx;exact hy
   ·cases hx
  ·exact Qsu (fun x hx=>hl x (by simp[hx])) x hx
theorem Qxg{E:Int}{l:List Zd}{r:Zd}(h:RL E l):RL E (if rsB (-1) l=true∧Zff r=true then Qhp r l else l):=by
 split
 ·rename_i hc
  exact⟨Qzz hc.2 hc.1,Qsu h.2⟩
 ·exact h
def Qe0(a b:Zd):List Zd:=if max a.1 b.1<min a.2.1 b.2.1 then[(max a.1 b.1,min a.2.1 b.2.1,())]else[]
theorem Z6p(K1: (List Zd×List Zd×List Zd×Int×Unit)→Option (List Zd×Unit))(a:List Zd)(i:Nat)(hi:i<a.length): ∀(N:Nat) (pre rest:List Zd) (out:List Zd),(pre++rest).length≤1000→rest.length<N→out.length+rest.length≤10000000000→
  Vx K1 N a (pre++rest) out (i:Int) (pre.length:Int)=K1 (a,pre++rest,out++rest.flatMap (Qe0 (a.getD i Zx)),IntKind.i64.wrap ((i:Int)+1),())
 |0,_,_,_,_,h,_=>by omega
 |N+1,pre,[],out,hl,hN,ho=>by
  unfold Vx
  rw[Zi (by simp)];simp
 |N+1,pre,x::rest,out,hl,hN,ho=>by
  have hlen: (pre++x::rest).length=pre.length+rest.length+1:=by simp;omega
  simp only[List.length_cons]at hN ho
  have g: ∀{ρ:Type} (m:Option ρ),Zf (0≤(pre.length:Int)∧(pre.length:Int)< ((pre++x::rest).length:Int)) m=m:=fun m=>Zc (by rw[hlen];omega)
  have g2: ∀{ρ:Type} (m:Option ρ),Zf (0≤(i:Int)∧(i:Int)< (a.length:Int)) m=m:=fun m=>Zc (by omega)
  have es: (pre++ [x])++rest=pre++x::rest:=by simp
  have el: ((pre++ [x]).length:Int)=((pre.length+1:Nat):Int):=by simp
  unfold Vx
  rw[Zm (Zj (by rw[hlen];omega))]
  simp only[g,g2,V9,Vp]
  rw[show(i:Int).toNat=i from rfl]
  unfold Zkz Zfi
  simp only
  rw[Zo (m:=pre.length+1) (by omega) (by omega)]
  by_cases h:max (a.getD i Zx).1 x.1<min (a.getD i Zx).2.1 x.2.1
  ·rw[Zm (Zj h),Zc (by unfold Qv;simp;omega)]
   have ih:=Z6p K1 a i hi N (pre++ [x]) rest (out++ [(max (a.getD i Zx).1 x.1,min (a.getD i Zx).2.1 x.2.1,())]) (by simp;omega) (by omega) (by simp;omega)
   rw[es,el]at ih
   have hc:Qe0 (a.getD i Zx) x=[(max (a.getD i Zx).1 x.1,min (a.getD i Zx).2.1 x.2.1,())]:=if_pos h
   rw[ih,List.flatMap_cons,hc,List.append_assoc]
  ·rw[Zi (Zk h)]
   have ih:=Z6p K1 a i hi N (pre++ [x]) rest out (by simp;omega) (by omega) (by omega)
   rw[es,el]at ih
   have hc:Qe0 (a.getD i Zx) x=[]:=if_neg h
   rw[ih,List.flatMap_cons,hc,List.nil_append]
theorem Qvl(a b:Zd): (Qe0 a b).length≤1:=by unfold Qe0;split<;>simp
theorem Z06{α β:Type}{f:α→List β}{k:Nat}(hf: ∀x,(f x).length≤k): ∀l:List α,(l.flatMap f).length≤k*l.length
 | []=>by simp
 |x::l=>by
  have:=Z06 hf l
  have:=hf x
  rw[List.flatMap_cons,List.length_append,List.length_cons,Nat.mul_succ];omega
theorem Qm2(b:List Zd)(hb:b.length≤1000): ∀(N:Nat) (pre rest:List Zd) (out:List Zd),(pre++rest).length≤1048576→rest.length<N→out.length≤1000*pre.length→
  Kz N (pre++rest) b out (pre.length:Int)=some (out++ (if rsB (-1) (pre++rest)=true∧rsB (-1) b=true then rest.flatMap fun a=>b.flatMap (Qe0 a)else[]),())
 |0,_,_,_,_,h,_=>by omega
 |N+1,pre,[],out,hl,hN,ho=>by
  unfold Kz
  simp
 |N+1,pre,x::rest,out,hl,hN,ho=>by
  have hlen: (pre++x::rest).length=pre.length+rest.length+1:=by simp;omega
  simp only[List.length_cons]at hN
  unfold Kz
  have hd:decide ((pre.length:Int)< ((pre++x::rest).length:Int))=true:=Zj (by rw[hlen];omega)
  rw[hd,Zkp _ (by omega),Zkp b (by omega)]
  simp only[cond_true,Option.bind_some,Bool.true_and]
  cases h1:rsB (-1) (pre++x::rest)
  ·simp
  cases h2:rsB (-1) b
  ·simp
  simp only[cond_true,Option.bind_some,Bool.and_self,and_self,if_true]
  have hx: (pre++x::rest).getD pre.length Zx=x:=V9 pre x rest Zx
  have h:=Z6p (fun v=>Kz N v.1 v.2.1 v.2.2.1 v.2.2.2.1) (pre++x::rest) pre.length (by rw[hlen];omega) (W6 (pre++x::rest) b out (pre.length:Int) 0) [] b out (by simpa using hb) (by unfold W6;omega) (by omega)
  refine Eq.trans h ?_
  rw[hx,Zo (m:=pre.length+1) (by omega) (by omega)]
  have hfl:=Z06 (fun y=>Qvl x y) b
  have ih:=Qm2 b hb N (pre++ [x]) rest (out++b.flatMap (Qe0 x)) (by simp;omega) (by omega) (by rw[List.length_append,List.length_append];simp only[List.length_cons,List.length_nil];omega)
  rw[show(pre++ [x])++rest=pre++x::rest by simp,show((pre++ [x]).length:Int)=((pre.length+1:Nat):Int) by simp]at ih
  simp only[List.nil_append]
  rw[ih,h1,h2]
  simp
theorem Zxi(a b:List Zd)(ha:a.length≤1048576)(hb:b.length≤1000):Zbx a b=some (if rsB (-1) a=true∧rsB (-1) b=true then a.flatMap fun x=>b.flatMap (Qe0 x)else[],()):=by
 have:=Qm2 b hb (W5 a b [] 0) [] a [] (by simpa using ha) (by unfold W5;omega) (by simp)
 simpa[Zbx]using this
noncomputable def Z6h(r:Ko):Bool:=match Zbl r with|some (b,_)=>b|none=>false
theorem Qi0(r:Ko): ∀(N i:Nat),r.2.2.2.1.length≤1048576→r.2.2.2.1.length-i<N→i≤r.2.2.2.1.length→
  ∃b,Zd7 N r (i:Int)=some (b,())∧(b=true→ ∀j,i≤j→j<r.2.2.2.1.length→0≤r.2.2.2.1.getD j 0∧r.2.2.2.1.getD j 0≤255)
 |0,_,_,h,_=>by omega
 |N+1,i,hl,hN,hi=>by
  unfold Zd7
  by_cases h:i<r.2.2.2.1.length
  ·rw[Zm (Zj (by omega)),Zc (by omega),show(i:Int).toNat=i from rfl]
   have e1:Zu (r.2.2.2.1.getD i 0) 0 255=some (decide (r.2.2.2.1.getD i 0≥0)&&decide (r.2.2.2.1.getD i 0≤255),()):=rfl
   rw[e1,Option.bind_some,Zo h (by omega)]
   obtain⟨b,h1,h2⟩:=Qi0 r N (i+1) hl (by omega) (by omega)
   cases hc:decide (r.2.2.2.1.getD i 0≥0)&&decide (r.2.2.2.1.getD i 0≤255)
   ·exact⟨false,rfl,by simp⟩
   ·simp only[Bool.and_eq_true,decide_eq_true_eq]at hc
    refine⟨b,h1,fun hb j hj hj2=> ?_⟩
    by_cases e:j=i
    ·subst e;exact⟨hc.1,hc.2⟩
    ·exact h2 hb j (by omega) hj2
  ·rw[Zi (Zk (by omega))]
   exact⟨true,rfl,fun _ j hj hj2=>by omega⟩
theorem Qgf(r:Ko)(hl:r.2.2.2.1.length≤1048576):Zbl r=some (Z6h r,())∧(Z6h r=true→(0<r.1∧r.1≤64)∧(r.2.2.2.1.length:Int)=r.1∧0≤r.2.1∧r.2.1≤r.2.2.1∧r.2.2.1-r.2.1≤r.1∧r.2.2.1≤4611686018427387903∧
  ∀j,j<r.2.2.2.1.length→0≤r.2.2.2.1.getD j 0∧r.2.2.2.1.getD j 0≤255):=by
 have key: ∃b,Zbl r=some (b,())∧(b=true→(0<r.1∧r.1≤64)∧(r.2.2.2.1.length:Int)=r.1∧0≤r.2.1∧r.2.1≤r.2.2.1∧r.2.2.1-r.2.1≤r.1∧r.2.2.1≤4611686018427387903∧
   ∀j,j<r.2.2.2.1.length→0≤r.2.2.2.1.getD j 0∧r.2.2.2.1.getD j 0≤255):=by
  unfold Zbl Za8
  simp only[Option.bind_some]
  generalize hp: (((decide (r.1>(0:Int)))&& (decide (r.1≤(64:Int))))&& ((bits .and .i64 r.1 (IntKind.i64.wrap (r.1- (1:Int))))==(0:Int)))=p
  generalize hc: ((((((!p)|| ((r.2.2.2.1.length:Int) !=r.1))|| (decide (r.2.1< (0:Int))))|| (decide (r.2.2.1<r.2.1)))|| (decide ((IntKind.i64.wrap (r.2.2.1-r.2.1))>r.1)))|| (decide (r.2.2.1>(4611686018427387903:Int))))=c
  cases c
  ·simp only[Bool.or_eq_false_iff,Bool.not_eq_false',decide_eq_false_iff_not,bne_eq_false_iff_eq]at hc
   obtain⟨⟨⟨⟨⟨c1,c2⟩,c3⟩,c4⟩,c5⟩,c6⟩:=hc
   subst c1
   simp only[Bool.and_eq_true,decide_eq_true_eq]at hp
   rw[Zv (by omega) (by omega)]at c5
   obtain⟨b,h1,h2⟩:=Qi0 r (Wp r 0) 0 hl (by unfold Wp;omega) (by omega)
   refine⟨b,h1,fun hb=>⟨⟨by omega,by omega⟩,by omega,by omega,by omega,by omega,by omega,fun j hj=>h2 hb j (by omega) hj⟩⟩
  ·exact⟨false,rfl,by simp⟩
 obtain⟨b,h1,h2⟩:=key
 have e:Z6h r=b:=by unfold Z6h;rw[h1]
 rw[e];exact⟨h1,h2⟩
theorem Qyc(r:Ko)(hl:r.2.2.2.1.length≤1048576):Zou r=some (r,()):=by
 unfold Zou
 rw[Zc (by unfold Qv;simp;omega)]
 simp
theorem Quz{x n:Int}(hx:0≤x)(hn:0<n):0≤Int.tmod x n∧Int.tmod x n<n:=by
 rw[Int.tmod_eq_emod_of_nonneg hx]
 exact⟨Int.emod_nonneg _ (by omega),Int.emod_lt_of_pos _ hn⟩
theorem Z3g(d:List UInt8)(r t4:Ko)(hr:0<r.1)(hE:0≤r.2.2.1)(hd:d.length≤1048576)(n:Nat)(hE2:r.2.2.1+n≤4611686018427387903)(hn:n≤d.length):
  ∀(N i:Nat) (x:Ko),(x.2.2.2.1.length:Int)=r.1→n-i<N→i≤n→
   ∃cs,Wf N d r t4 x (n:Int) (i:Int)=some ((x.1,x.2.1,IntKind.i64.wrap (r.2.2.1+n),cs,x.2.2.2.2),(n:Int),())∧cs.length=x.2.2.2.1.length
 |0,_,_,_,h,_=>by omega
 |N+1,i,x,hx,hN,hi=>by
  unfold Wf
  by_cases h:i<n
  ·have hm:=Quz (x:=r.2.2.1+ (i:Int)) (n:=r.1) (by omega) hr
   rw[Zm (Zj (by omega)),Zc (by omega),Zv (by omega) (by omega)]
   simp only
   rw[Zc (by omega),Zc (by omega),Zo (m:=n) h (by omega)]
   obtain⟨cs,h1,h2⟩:=Z3g d r t4 hr hE hd n hE2 hn N (i+1) (x.1,(x.2.1,(x.2.2.1,(x.2.2.2.1.set (Int.tmod (r.2.2.1+ (i:Int)) r.1).toNat (IntKind.i64.wrap ((d.getD (i:Int).toNat 0).toNat:Int)),x.2.2.2.2)))) (by simp only[List.length_set];exact hx) (by omega) (by omega)
   exact⟨cs,h1,by rw[h2];simp only[List.length_set]⟩
  ·have:i=n:=by omega
   subst this
   rw[Zi (Zk (by omega))]
   exact⟨x.2.2.2.1,rfl,rfl⟩
theorem Qs8(r:Ko)(d:List UInt8)(hl:r.2.2.2.1.length≤1048576)(hd:d.length≤1048576)(hE:0≤r.2.2.1)(hE2:r.2.2.1≤4611686018427387903):
  ∃cs,∃n:Nat,Zpy r d=some ((r.1,r.2.1,r.2.2.1+n,cs,()),(n:Int),())∧n≤d.length∧cs.length=r.2.2.2.1.length∧r.2.2.1+n≤4611686018427387903:=by
 obtain⟨h1,h2⟩:=Qgf r hl
 unfold Zpy Z21
 rw[Qyc r hl,h1]
 simp only[Option.bind_some]
 cases hb:Z6h r
 ·simp only[Bool.not_false,cond_true,Option.bind_some]
  rw[show min (0:Int) (d.length:Int)=0 by omega]
  refine⟨r.2.2.2.1,0,?_,by omega,rfl,by simpa using hE2⟩
  show Wf 1 d r _ r 0 0=_
  unfold Wf
  rw[Zi (by decide)]
  rw[Zv (by omega) (by omega)]
  simp
 ·obtain⟨⟨a1,a2⟩,a3,a4,a5,a6,a7,a8⟩:=h2 hb
  simp only[Bool.not_true,cond_false,Option.bind_some]
  rw[show IntKind.i64.wrap (r.2.2.1-r.2.1)=r.2.2.1-r.2.1 from Zv (by omega) (by omega),Zv (by omega) (by omega),Zv (by omega) (by omega)]
  obtain⟨n,hn⟩: ∃n:Nat,min (min (r.1- (r.2.2.1-r.2.1)) (4611686018427387903-r.2.2.1)) (d.length:Int)=(n:Int):=⟨(min (min (r.1- (r.2.2.1-r.2.1)) (4611686018427387903-r.2.2.1)) (d.length:Int)).toNat,by omega⟩
  rw[hn]
  obtain⟨cs,k1,k2⟩:=Z3g d r ((0:Int),((0:Int),((0:Int),(([]:List Int),())))) a1 hE hd n (by omega) (by omega) (Zcz d r ((0:Int),((0:Int),((0:Int),(([]:List Int),())))) r (n:Int) 0) 0 r a3 (by unfold Zcz;omega) (by omega)
  refine⟨cs,n,?_,by omega,k2,by omega⟩
  refine Eq.trans k1 ?_
  rw[Zv (by omega) (by omega)]
theorem Qyb(n:Int): ∃s,Zot n=some (s,())∧s.length≤1:=by
 unfold Zot Zqn
 generalize bits .and .i64 n (255:Int)=m
 rw[show Zu 1 1 7=some (true,())from rfl]
 simp only[Option.bind_some,Bool.not_true,Bool.false_or]
 by_cases h:m<0
 ·rw[Zm (Zj h)];exact⟨[],rfl,by simp⟩
 ·rw[Zi (Zk h)]
  show ∃s,Option.bind (Wm 2 m 1 [] 0) _=_∧_
  unfold Wm
  rw[Zm (by decide),Zc (by decide)]
  simp only
  rw[Zc (by unfold W9 Zaz;simp),Zc (by decide)]
  unfold Wm
  rw[show IntKind.i64.wrap ((0:Int)+1)=1 from rfl,Zi (by decide)]
  cases decide (IntKind.i64.wrap (Int.tdiv m 256)>0)
  ·exact⟨_,rfl,by simp[Zaz]⟩
  ·exact⟨_,rfl,by simp⟩
theorem Z6d(o n:Nat)(r:Ko)(hr:0<r.1)(hl: (r.2.2.2.1.length:Int)=r.1)(ho:o+n≤4611686018427387903)(hn:n≤64): ∀(N i:Nat) (s:List UInt8),n-i<N→i≤n→s.length≤i→
  ∃t,Zhh N (o:Int) (n:Int) r s (i:Int)=some (t,true,())∧t.length≤n
 |0,_,_,h,_,_=>by omega
 |N+1,i,s,hN,hi,hs=>by
  unfold Zhh
  by_cases h:i<n
  ·have hm:=Quz (x:=(o:Int)+ (i:Int)) (n:=r.1) (by omega) hr
   rw[Zm (Zj (by omega)),Zc (by omega),Zv (by omega) (by omega)]
   simp only
   rw[Zc (by omega)]
   obtain⟨t,h1,h2⟩:=Qyb (r.2.2.2.1.getD (Int.tmod ((o:Int)+ (i:Int)) r.1).toNat 0)
   rw[h1,Option.bind_some,Zc (by unfold W9;simp only;omega),Zo (m:=n) h (by omega)]
   exact Z6d o n r hr hl ho hn N (i+1) (s++t) (by omega) (by omega) (by simp;omega)
  ·rw[Zi (Zk (by omega))]
   exact⟨s,rfl,by omega⟩
theorem Q3o(r:Ko)(o n:Int)(hl:r.2.2.2.1.length≤1048576): ∃t ok,Zrg r o n=some (t,ok,())∧(t.length:Int)≤max n 0∧t.length≤64:=by
 obtain⟨h1,h2⟩:=Qgf r hl
 unfold Zrg
 rw[h1,Option.bind_some]
 generalize hc: (((((!Z6h r)|| (decide (o<r.2.1)))|| (decide (n< (0:Int))))|| (decide (o>r.2.2.1)))|| (decide (n>(IntKind.i64.wrap (r.2.2.1-o)))))=c
 cases c
 ·simp only[Bool.or_eq_false_iff,Bool.not_eq_false',decide_eq_false_iff_not]at hc
  obtain⟨⟨⟨⟨c1,c2⟩,c3⟩,c4⟩,c5⟩:=hc
  obtain⟨⟨a1,a2⟩,a3,a4,a5,a6,a7,a8⟩:=h2 c1
  rw[Zv (by omega) (by omega)]at c5
  obtain⟨o,rfl⟩:=Int.eq_ofNat_of_zero_le (a:=o) (by omega)
  obtain⟨n,rfl⟩:=Int.eq_ofNat_of_zero_le (a:=n) (by omega)
  obtain⟨t,k1,k2⟩:=Z6d o n r a1 a3 (by omega) (by omega) (Zew (o:Int) (n:Int) r [] 0) 0 [] (by unfold Zew;omega) (by omega) (by simp)
  exact⟨t,true,k1,by omega,by omega⟩
 ·exact⟨[],false,rfl,by simp;omega,by simp⟩
theorem Z55(dt:Nat)(r t4:Ko)(hr:0<r.1)(hdt:dt≤4611686018427387903): ∀(N i:Nat) (x:Ko),(x.2.2.2.1.length:Int)=r.1→dt-i<N→i≤dt→
  ∃cs,Zg1 N (dt:Int) r t4 x (i:Int)=some ((x.1,(dt:Int),x.2.2.1,cs,x.2.2.2.2),true,())∧cs.length=x.2.2.2.1.length
 |0,_,_,_,h,_=>by omega
 |N+1,i,x,hx,hN,hi=>by
  unfold Zg1
  by_cases h:i<dt
  ·have hm:=Quz (x:=(i:Int)) (n:=r.1) (by omega) hr
   rw[Zm (Zj (by omega)),Zc (by omega),Zc (by omega),Zo (m:=dt) h (by omega)]
   obtain⟨cs,h1,h2⟩:=Z55 dt r t4 hr hdt N (i+1) (x.1,(x.2.1,(x.2.2.1,(x.2.2.2.1.set (Int.tmod (i:Int) r.1).toNat (0:Int),x.2.2.2.2)))) (by simp only[List.length_set];exact hx) (by omega) (by omega)
   exact⟨cs,h1,by rw[h2];simp only[List.length_set]⟩
  ·have:i=dt:=by omega
   subst this
   rw[Zi (Zk (by omega))]
   exact⟨x.2.2.2.1,rfl,rfl⟩
theorem Q2h(r:Ko)(dt:Int)(hl:r.2.2.2.1.length≤1048576): ∃cs b ok,Zjm r dt=some ((r.1,b,r.2.2.1,cs,()),ok,())∧cs.length=r.2.2.2.1.length:=by
 obtain⟨h1,h2⟩:=Qgf r hl
 unfold Zjm
 rw[Qyc r hl,h1]
 simp only[Option.bind_some]
 generalize hc: (((!Z6h r)|| (decide (dt<r.2.1)))|| (decide (dt>r.2.2.1)))=c
 cases c
 ·simp only[Bool.or_eq_false_iff,Bool.not_eq_false',decide_eq_false_iff_not]at hc
  obtain⟨⟨c1,c2⟩,c3⟩:=hc
  obtain⟨⟨a1,a2⟩,a3,a4,a5,a6,a7,a8⟩:=h2 c1
  obtain⟨dt,rfl⟩:=Int.eq_ofNat_of_zero_le (a:=dt) (by omega)
  obtain⟨bs,hbs⟩:=Int.eq_ofNat_of_zero_le (a:=r.2.1) (by omega)
  obtain⟨cs,k1,k2⟩:=Z55 dt r ((0:Int),((0:Int),((0:Int),(([]:List Int),())))) a1 (by omega) (Zeu (dt:Int) r ((0:Int),((0:Int),((0:Int),(([]:List Int),())))) r r.2.1) bs r a3 (by unfold Zeu;omega) (by omega)
  rw[←hbs]at k1
  exact⟨cs,dt,true,k1,k2⟩
 ·exact⟨r.2.2.2.1,r.2.1,false,rfl,rfl⟩
def Z4e:List Zd→Int→Int
 | [],f=>f
 |x::l,f=>Z4e l (if x.1≤f∧f<x.2.1 then x.2.1 else f)
theorem Qsa: ∀(N:Nat) (pre rest:List Zd) (f:Int),(pre++rest).length≤1048576→rest.length<N→Jg N (pre++rest) f (pre.length:Int)=some (Z4e rest f,())
 |0,_,_,_,_,h=>by omega
 |N+1,pre,[],f,hl,hN=>by
  unfold Jg
  rw[Zi (by simp)];rfl
 |N+1,pre,x::rest,f,hl,hN=>by
  have hlen: (pre++x::rest).length=pre.length+rest.length+1:=by simp;omega
  simp only[List.length_cons]at hN
  have g: ∀{ρ:Type} (m:Option ρ),Zf (0≤(pre.length:Int)∧(pre.length:Int)< ((pre++x::rest).length:Int)) m=m:=fun m=>Zc (by rw[hlen];omega)
  have es: (pre++ [x])++rest=pre++x::rest:=by simp
  have el: ((pre++ [x]).length:Int)=((pre.length+1:Nat):Int):=by simp
  unfold Jg Zg4
  rw[Zm (Zj (by rw[hlen];omega))]
  simp only[g,V9]
  rw[Zc (fun _=>by rw[hlen];omega),Zo (m:=pre.length+1) (by omega) (by omega)]
  have ih:=fun f=>Qsa N (pre++ [x]) rest f (by simp;omega) (by omega)
  simp only[es,el]at ih
  by_cases h:x.1≤f∧f<x.2.1
  ·rw[Zm (by simp;omega),ih]
   simp only[Z4e];rw[if_pos h]
  ·rw[Zi (by rw[Bool.and_eq_false_iff,decide_eq_false_iff_not,decide_eq_false_iff_not];omega),ih]
   simp only[Z4e];rw[if_neg h]
theorem Qb2(l:List Zd)(f:Int)(hl:l.length≤1048576):Zf4 l f=some (if rsB (-1) l=true∧0≤f then Z4e l f else-1,()):=by
 unfold Zf4
 rw[Zkp l hl,Option.bind_some]
 cases h1:rsB (-1) l
 ·simp
 ·by_cases h2:f<0
  ·rw[Zm (by simp[h2]),if_neg (by omega)]
  ·rw[Zi (by simp;omega),if_pos ⟨rfl,by omega⟩]
   exact Qsa _ [] l f (by simpa using hl) (by unfold Zjv;omega)
def J8:List Zd→Int
 | []=>0
 |x::l=>(x.2.1-x.1)+J8 l
theorem Qvk: ∀(N:Nat) (pre rest:List Zd) (lo n:Int),(pre++rest).length≤1048576→rest.length<N→rsB lo rest=true→0≤n→n≤max lo 0→n≤4611686018427387903→Y3 N (pre++rest) n (pre.length:Int)=some (n+J8 rest,())
 |0,_,_,_,_,_,h,_,_,_,_=>by omega
 |N+1,pre,[],lo,n,hl,hN,_,_,_,_=>by
  unfold Y3
  rw[Zi (by simp)];simp[J8]
 |N+1,pre,x::rest,lo,n,hl,hN,hx,h0,h1,h2=>by
  have hlen: (pre++x::rest).length=pre.length+rest.length+1:=by simp;omega
  simp only[List.length_cons]at hN
  obtain⟨hf,hlo,hrest⟩:=J3.1 hx
  have hf:=Q2.1 hf
  have g: ∀{ρ:Type} (m:Option ρ),Zf (0≤(pre.length:Int)∧(pre.length:Int)< ((pre++x::rest).length:Int)) m=m:=fun m=>Zc (by rw[hlen];omega)
  unfold Y3
  rw[Zm (Zj (by rw[hlen];omega))]
  simp only[g,V9]
  rw[Zo (m:=pre.length+1) (by omega) (by omega),show IntKind.i64.wrap (n+x.2.1)=n+x.2.1 from Zv (by omega) (by omega),Zv (by omega) (by omega)]
  have ih:=Qvk N (pre++ [x]) rest x.2.1 (n+x.2.1-x.1) (by simp;omega) (by omega) hrest (by omega) (by omega) (by omega)
  rw[show(pre++ [x])++rest=pre++x::rest by simp,show((pre++ [x]).length:Int)=((pre.length+1:Nat):Int) by simp]at ih
  rw[ih]
  simp only[J8]
  congr 2;omega
theorem Zcu(l:List Zd)(hl:l.length≤1048576):Js l=some (if rsB (-1) l=true then J8 l else-1,()):=by
 unfold Js
 rw[Zkp l hl,Option.bind_some]
 cases h1:rsB (-1) l
 ·simp
 ·have:=Qvk (W7 l 0 0) [] l (-1) 0 (by simpa using hl) (by unfold W7;omega) h1 (by omega) (by omega) (by omega)
  simp only[Bool.not_true,cond_false,if_true]
  refine Eq.trans this ?_
  simp
abbrev Xal(s:Zq):Ko:=s.2.1
abbrev Q1f(s:Zq):Int:=s.2.1.2.2.1
structure Zay(K:Int)(s:Zq):Prop where
 cells:s.2.1.2.2.2.1.length≤64
 e0:0≤s.2.1.2.2.1
 eK:s.2.1.2.2.1≤K
 pend:RL s.2.1.2.2.1 s.2.2.1
 flight:RL s.2.1.2.2.1 s.2.2.2.1
 acked:RL s.2.1.2.2.1 s.2.2.2.2.1
theorem Zay.mono{K K':Int}{s:Zq}(h:Zay K s)(hK:K≤K'):Zay K' s:={h with eK:=Int.le_trans h.eK hK}
theorem Xk{E K:Int}{l:List Zd}(h:RL E l)(h0:0≤E)(hE:E≤K)(hK:K≤1000000):l.length≤1000001:=by
 have:=Q6w h (by omega);omega
theorem Qx{α:Type}{l:List α}{i:Nat}{d:α}(h:i<l.length):l.getD i d∈l:=by
 rw[List.getD_eq_getElem?_getD,List.getElem?_eq_getElem h];exact List.getElem_mem h
theorem Ztv{K:Int}{s:Zq}(h:Zay K s)(hK:K≤1000000):Zbq s=some (s,()):=by
 unfold Zbq
 rw[Qyc _ (by have:=h.cells;omega),Qo6 _ (Nat.le_trans (Xk h.pend h.e0 h.eK hK) (by omega)),Option.bind_some,Qo6 _ (Nat.le_trans (Xk h.flight h.e0 h.eK hK) (by omega)),Option.bind_some,Option.bind_some,Qo6 _ (Nat.le_trans (Xk h.acked h.e0 h.eK hK) (by omega)),Option.bind_some]
theorem Qb9(s:Zq): ∃k,Vb s=some (k,()):=by
 unfold Vb
 cases (s.2.2.2.2.2.2.1==(3:Int))&& (s.2.1.2.1==s.2.1.2.2.1)
 ·cases (decide (s.2.2.2.2.2.2.1>(1:Int)))|| ((s.2.2.2.2.2.2.1==(1:Int))&& (s.1==(2:Int)))
  ·cases (decide (s.2.2.2.2.2.2.2.1>(0:Int)))|| ((s.2.2.2.2.2.2.1==(1:Int))&& (s.1==(1:Int)))<;>exact⟨_,rfl⟩
  ·exact⟨_,rfl⟩
 ·exact⟨_,rfl⟩
theorem Qi4(s:Zq)(hl:s.2.2.2.2.1.length≤1048576): ∀(N i:Nat),s.2.2.2.2.1.length-i<N→i≤s.2.2.2.2.1.length→ ∃b,Jk N s (i:Int)=some (b,())
 |0,_,h,_=>by omega
 |N+1,i,hN,hi=>by
  unfold Jk
  by_cases h:i<s.2.2.2.2.1.length
  ·rw[Zm (Zj (by omega)),Zc (by omega),Zo h (by omega)]
   cases decide ((s.2.2.2.2.1.getD (i:Int).toNat Zx).2.1>s.2.2.2.2.2.2.2.1)
   ·exact Qi4 s hl N (i+1) (by omega) (by omega)
   ·exact⟨_,rfl⟩
  ·rw[Zi (Zk (by omega))]
   obtain⟨k,hk⟩:=Qb9 s
   rw[hk]
   generalize ((!((s.2.2.2.2.2.2.1==(0:Int))==(s.2.2.2.2.2.1==(-1:Int))))|| ((s.2.2.2.2.2.1 !=(-1:Int))&& (s.2.2.2.2.2.1 !=s.2.1.2.2.1)))=c
   cases c<;>exact⟨_,rfl⟩
theorem Qi3(s:Zq)(hl:s.2.2.2.1.length≤1048576)(hl2:s.2.2.2.2.1.length≤1048576): ∀(N i:Nat),s.2.2.2.1.length-i<N→i≤s.2.2.2.1.length→ ∃b,Jj N s (i:Int)=some (b,())
 |0,_,h,_=>by omega
 |N+1,i,hN,hi=>by
  unfold Jj
  by_cases h:i<s.2.2.2.1.length
  ·rw[Zm (Zj (by omega)),Zc (by omega),Zo h (by omega)]
   cases decide ((s.2.2.2.1.getD (i:Int).toNat Zx).2.1>s.2.2.2.2.2.2.2.1)
   ·exact Qi3 s hl hl2 N (i+1) (by omega) (by omega)
   ·exact⟨_,rfl⟩
  ·rw[Zi (Zk (by omega))]
   exact Qi4 s hl2 _ 0 (by unfold Zev;omega) (by omega)
theorem Qvj{l:List Zd}(h:J8 l≠0):0<l.length:=by
 cases l with
 |nil=>exact absurd rfl h
 |cons=>simp
theorem Qi2{K:Int}{s:Zq}(hs:Zay K s)(hK:K≤1000000): ∀(N i:Nat) (all:List Zd),RL (Q1f s) all→s.2.2.2.2.1.length-i<N→i≤s.2.2.2.2.1.length→ ∃b,Ji N s all (i:Int)=some (b,())
 |0,_,_,_,h,_=>by omega
 |N+1,i,all,ha,hN,hi=>by
  have la:=Xk ha hs.e0 hs.eK hK
  have l1:=Xk hs.pend hs.e0 hs.eK hK
  have l2:=Xk hs.flight hs.e0 hs.eK hK
  have l3:=Xk hs.acked hs.e0 hs.eK hK
  unfold Ji
  by_cases h:i<s.2.2.2.2.1.length
  ·rw[Zm (Zj (by omega)),Zc (by omega),Zo h (by omega),Zms _ _ (by omega),Option.bind_some]
   exact Qi2 hs hK N (i+1) _ (Zvu ha (hs.acked.2 _ (Qx h))) (by omega) (by omega)
  ·rw[Zi (Zk (by omega)),Zcu _ (by omega),Zcu _ (by omega),Zcu _ (by omega),Zcu _ (by omega),Qb2 _ _ (by omega)]
   simp only[Option.bind_some,ha.1,if_true]
   rw[Zc (fun h1 h2=>by
    simp only[Bool.or_eq_false_iff,bne_eq_false_iff_eq,decide_eq_true_eq]at h1 h2
    have:=Qvj (l:=all) (by omega)
    omega)]
   generalize hc: ((J8 all !=s.2.1.2.2.1||_)||_)=c
   cases c
   ·simp only[cond_false,Option.bind_some]
    generalize ((false||_)||_)=c2
    cases c2
    ·exact Qi3 s (by omega) (by omega) _ 0 (by unfold Zam;omega) (by omega)
    ·exact⟨_,rfl⟩
   ·simp only[cond_true,Option.bind_some,Bool.true_or]
    exact⟨_,rfl⟩
theorem Qi1{K:Int}{s:Zq}(hs:Zay K s)(hK:K≤1000000): ∀(N i:Nat) (all:List Zd),RL (Q1f s) all→s.2.2.2.1.length-i<N→i≤s.2.2.2.1.length→ ∃b,Jh N s all (i:Int)=some (b,())
 |0,_,_,_,h,_=>by omega
 |N+1,i,all,ha,hN,hi=>by
  have la:=Xk ha hs.e0 hs.eK hK
  have l2:=Xk hs.flight hs.e0 hs.eK hK
  unfold Jh
  by_cases h:i<s.2.2.2.1.length
  ·rw[Zm (Zj (by omega)),Zc (by omega),Zo h (by omega),Zms _ _ (by omega),Option.bind_some]
   exact Qi1 hs hK N (i+1) _ (Zvu ha (hs.flight.2 _ (Qx h))) (by omega) (by omega)
  ·rw[Zi (Zk (by omega))]
   exact Qi2 hs hK _ 0 all ha (by unfold Zal;omega) (by omega)
theorem Ze1{K:Int}{s:Zq}(hs:Zay K s)(hK:K≤1000000): ∃b,Yd s=some (b,())∧(b=true→Z6h s.2.1=true∧0≤s.2.2.2.2.2.2.2.1∧s.2.2.2.2.2.2.2.1≤s.2.1.2.2.1):=by
 have l1:=Xk hs.pend hs.e0 hs.eK hK
 have l2:=Xk hs.flight hs.e0 hs.eK hK
 have l3:=Xk hs.acked hs.e0 hs.eK hK
 have hr:=(Qgf s.2.1 (by have:=hs.cells;omega)).1
 obtain⟨b1,h1⟩:=Qi1 hs hK (J0 s s.2.2.1 0) 0 s.2.2.1 hs.pend (by unfold J0;omega) (by omega)
 unfold Yd
 rw[hr,Zkp _ (by omega),Zkp _ (by omega),Zkp _ (by omega)]
 have e1:Zu s.2.2.2.2.2.2.2.1 0 s.2.1.2.2.1=some (decide (s.2.2.2.2.2.2.2.1≥0)&&decide (s.2.2.2.2.2.2.2.1≤s.2.1.2.2.1),()):=rfl
 have e2:Qd s.2.2.2.2.2.2.2.2.1=some (decide (s.2.2.2.2.2.2.2.2.1≥0)&&decide (s.2.2.2.2.2.2.2.2.1≤4611686018427387903),()):=rfl
 have e3:Zu s.2.2.2.2.2.2.1 0 3=some (decide (s.2.2.2.2.2.2.1≥0)&&decide (s.2.2.2.2.2.2.1≤3),()):=rfl
 simp only[hs.pend.1,hs.flight.1,hs.acked.1,e1,e2,e3,Option.bind_some]
 cases Z6h s.2.1
 ·exact⟨false,rfl,by simp⟩
 simp only[Bool.not_true,cond_false,Option.bind_some,Bool.false_or]
 by_cases hsent:0≤s.2.2.2.2.2.2.2.1∧s.2.2.2.2.2.2.2.1≤s.2.1.2.2.1
 ·simp only[show decide (s.2.2.2.2.2.2.2.1≥0)=true from Zj (by omega),show decide (s.2.2.2.2.2.2.2.1≤s.2.1.2.2.1)=true from Zj hsent.2,Bool.and_self,Bool.not_true,cond_false,Option.bind_some,Bool.false_or]
  generalize (decide (s.2.2.2.2.2.2.2.2.1≥0)&&decide (s.2.2.2.2.2.2.2.2.1≤4611686018427387903))=c1
  generalize (decide (s.2.2.2.2.2.2.1≥0)&&decide (s.2.2.2.2.2.2.1≤3))=c2
  cases c1
  ·exact⟨false,rfl,by simp⟩
  cases c2
  ·exact⟨false,rfl,by simp⟩
  simp only[Bool.not_true,cond_false,Option.bind_some,Bool.or_self]
  generalize ((s.1==(4:Int))|| (s.1==(5:Int)))=c3
  cases c3
  ·exact⟨b1,h1,fun _=>⟨trivial,hsent.1,hsent.2⟩⟩
  ·exact⟨_,rfl,fun _=>⟨trivial,hsent.1,hsent.2⟩⟩
 ·have: (decide (s.2.2.2.2.2.2.2.1≥0)&&decide (s.2.2.2.2.2.2.2.1≤s.2.1.2.2.1))=false:=by
   rw[Bool.and_eq_false_iff,decide_eq_false_iff_not,decide_eq_false_iff_not];omega
  rw[this]
  exact⟨false,rfl,by simp⟩
theorem Qjl{K:Int}{s:Zq}(h:Zay K s)(d:List UInt8)(hK:K+d.length≤1000000):
  ∃x n,Zax s d=some (x,n,())∧Zay (K+d.length) x:=by
 have h0:=h.e0
 have hcl:=h.cells
 have heK:=h.eK
 obtain⟨b,h1,-⟩:=Ze1 h (by omega)
 have lp:=Xk h.pend h0 heK (by omega)
 unfold Zax
 rw[Ztv h (by omega),h1]
 simp only[Option.bind_some]
 generalize (((!b)|| (decide (s.1>(1:Int))))|| (s.2.2.2.2.2.1 !=(-1:Int)))=c
 cases c
 ·obtain⟨cs,n,k1,k2,k3,k4⟩:=Qs8 s.2.1 d (by omega) (by omega) h0 (by omega)
  rw[cond_false,k1,Option.bind_some]
  unfold Zcs
  have add:RL (s.2.1.2.2.1+n) s.2.2.2.1∧RL (s.2.1.2.2.1+n) s.2.2.2.2.1:=⟨Ql1 h.flight (by omega),Ql1 h.acked (by omega)⟩
  by_cases hn: (n:Int)>0
  ·rw[Zm (Zj hn),Zms _ _ (by omega),Option.bind_some]
   exact⟨_,_,rfl,{cells:=(by simp only;omega),e0:=(by simp only;omega),eK:=(by simp only;omega),pend:=Zvu (Ql1 h.pend (by simp only;omega)) (by simp only;omega),flight:=add.1,acked:=add.2}⟩
  ·rw[Zi (Zk hn)]
   exact⟨_,_,rfl,{cells:=(by simp only;omega),e0:=(by simp only;omega),eK:=(by simp only;omega),pend:=Ql1 h.pend (by simp only;omega),flight:=add.1,acked:=add.2}⟩
 ·exact⟨s,0,rfl,h.mono (by omega)⟩
theorem Qvi{K:Int}{s:Zq}(h:Zay K s)(hK:K≤1000000): ∃x ok,Zly s=some (x,ok,())∧Zay K x:=by
 obtain⟨b,h1,-⟩:=Ze1 h hK
 unfold Zly
 rw[Ztv h hK,h1]
 simp only[Option.bind_some]
 generalize (((!b)|| (decide (s.1>(1:Int))))|| (s.2.2.2.2.2.1 !=(-1:Int)))=c
 cases c
 ·exact⟨_,_,rfl,{cells:=h.cells,e0:=h.e0,eK:=h.eK,pend:=h.pend,flight:=h.flight,acked:=h.acked}⟩
 ·exact⟨s,false,rfl,h⟩
theorem Zjo(E:Int):RL E []:=⟨rfl,by simp⟩
theorem Qje{K:Int}{s:Zq}(h:Zay K s)(code:Int)(hK:K≤1000000): ∃x ok,Zhk s code=some (x,ok,())∧Zay K x:=by
 have hcl:=h.cells
 have heK:=h.eK
 obtain⟨b,h1,h2⟩:=Ze1 h hK
 unfold Zhk
 rw[h1]
 simp only[Option.bind_some]
 have e2:Qd code=some (decide (code≥0)&&decide (code≤4611686018427387903),()):=rfl
 rw[e2]
 cases b
 ·simp only[Bool.not_false,Bool.true_or,cond_true,Option.bind_some]
  rw[Ztv h hK]
  exact⟨s,false,rfl,h⟩
 ·obtain⟨hr,hs0,hsE⟩:=h2 rfl
  obtain⟨⟨a1,a2⟩,-⟩:=(Qgf s.2.1 (by omega)).2 hr
  simp only[Bool.not_true,Bool.false_or]
  generalize (decide (code≥0)&&decide (code≤4611686018427387903))=q
  cases decide (s.1>2)
  ·cases q
   ·simp only[cond_false,Option.bind_some,Bool.not_false,Bool.false_or,cond_true]
    rw[Ztv h hK]
    exact⟨s,false,rfl,h⟩
   ·simp only[cond_false,Option.bind_some,Bool.not_true,Bool.or_self,Vp,Vd]
    rw[Zc (by unfold Qv;omega)]
    exact⟨_,_,rfl,{cells:=(by simp;omega),e0:=hs0,eK:=(by simp only;omega),pend:=Zjo _,flight:=Zjo _,acked:=Zjo _}⟩
  ·simp only[cond_true,Option.bind_some,Bool.true_or]
   rw[Ztv h hK]
   exact⟨s,false,rfl,h⟩
theorem Q02{K:Int}{s:Zq}(h:Zay K s)(most limit:Int)(hK:K≤1000000): ∃p ok,Zpv s most limit=some (p,ok,())∧p.2.1.length≤64:=by
 have hcl:=h.cells
 obtain⟨b,h1,h2⟩:=Ze1 h hK
 unfold Zpv
 rw[h1]
 simp only[Option.bind_some]
 have j1: ∀t p8 r hi,∃p ok,Zfq s t p8 r hi=some (p,ok,())∧p.2.1.length≤64:=by
  intro t p8 r hi
  unfold Zfq
  by_cases hc:hi≤r.1
  ·rw[Zm (Zj hc)];exact⟨_,_,rfl,Nat.zero_le _⟩
  ·rw[Zi (Zk hc)]
   obtain⟨t,ok,k1,k2,k3⟩:=Q3o s.2.1 r.1 (IntKind.i64.wrap (hi-r.1)) (by omega)
   rw[k1,Option.bind_some]
   exact⟨_,_,rfl,k3⟩
 generalize ((!b)|| (decide (s.1>(2:Int))))=c
 cases c
 ·simp only[cond_false]
  by_cases hp: (s.2.2.1.length:Int)>0
  ·rw[Zm (Zj hp),Zc (by omega)]
   generalize decide (min (s.2.2.1.getD (0:Int).toNat Zx).2.1 limit≤(s.2.2.1.getD (0:Int).toNat Zx).1)=c1
   cases c1
   ·simp only[cond_false]
    generalize decide (most<IntKind.i64.wrap (min (s.2.2.1.getD (0:Int).toNat Zx).2.1 limit- (s.2.2.1.getD (0:Int).toNat Zx).1))=c2
    cases c2
    ·exact j1 Zqb _ _ _
    ·exact j1 Zqb _ _ _
   ·exact⟨_,_,rfl,Nat.zero_le _⟩
  ·rw[Zi (Zk hp)]
   cases s.2.2.2.2.2.2.1==(1:Int)
   ·exact⟨_,_,rfl,Nat.zero_le _⟩
   ·exact⟨_,_,rfl,Nat.zero_le _⟩
 ·exact⟨_,_,rfl,Nat.zero_le _⟩
theorem Qub(s:Zq)(p:Kl)(hE0:0≤s.2.1.2.2.1)(hE:s.2.1.2.2.1≤1000000): ∃b,Zp8 s p=some (b,())∧(b=true→0≤p.1∧p.1+ (p.2.1.length:Int)≤s.2.1.2.2.1):=by
 refine⟨_,rfl,fun hb=> ?_⟩
 simp only[Bool.and_eq_true,decide_eq_true_eq]at hb
 obtain⟨⟨⟨b1,b2⟩,b3⟩,-⟩:=hb
 rw[Zv (by omega) (by omega)]at b3
 omega
theorem Quc{p:Kl}(h0:0≤p.1)(h1:p.1+ (p.2.1.length:Int)≤1000000):Zmb p=some ((p.1,p.1+ (p.2.1.length:Int),()),()):=by
 unfold Zmb
 rw[Zv (by omega) (by omega)]
theorem Q1h{K:Int}{s:Zq}(h:Zay K s)(p:Kl)(hK:K≤1000000): ∃x ok,Zpw s p=some (x,ok,())∧Zay K x:=by
 have h0:=h.e0
 have heK:=h.eK
 have lp:=Xk h.pend h0 heK hK
 have lf:=Xk h.flight h0 heK hK
 obtain⟨b,h1,h2⟩:=Ze1 h hK
 obtain⟨b2,h3,h4⟩:=Qub s p h0 (by omega)
 have j2: ∀t x,Zay K x→ ∃y ok,Zft t x=some (y,ok,())∧Zay K y:=by
  intro t x hx
  unfold Zft
  obtain⟨k,hk⟩:=Qb9 x
  rw[hk]
  exact⟨_,_,rfl,{cells:=hx.cells,e0:=hx.e0,eK:=hx.eK,pend:=hx.pend,flight:=hx.flight,acked:=hx.acked}⟩
 have j1: ∀t x,Zay K x→ ∃y ok,Zfs p t x=some (y,ok,())∧Zay K y:=by
  intro t x hx
  unfold Zfs
  cases p.2.2.1
  ·exact j2 Zc5 _ hx
  ·exact j2 Zc5 _ {cells:=hx.cells,e0:=hx.e0,eK:=hx.eK,pend:=hx.pend,flight:=hx.flight,acked:=hx.acked}
 unfold Zpw
 rw[Ztv h hK,h1]
 simp only[Option.bind_some]
 generalize (((!b)|| (decide (s.1>(2:Int)))))=c0
 cases c0
 ·simp only[cond_false,h3,Option.bind_some,Bool.false_or]
  generalize hc: (((!b2)|| ((p.2.1==([]:List UInt8))&& (!p.2.2.1)))|| (p.2.2.1&& (s.2.2.2.2.2.2.1 !=(1:Int))))=c
  cases c
  ·simp only[Bool.or_eq_false_iff,Bool.not_eq_false']at hc
   obtain⟨a1,a2⟩:=h4 hc.1.1
   rw[cond_false]
   cases p.2.1==([]:List UInt8)
   ·simp only[Bool.not_false,cond_true]
    rw[Quc a1 (by omega),Option.bind_some]
    rw[Zxi _ _ (by omega) (by simp),Option.bind_some]
    simp only
    generalize (if rsB (-1) s.2.2.1=true∧rsB (-1) [((p.1,p.1+ (p.2.1.length:Int),()):Zd)]=true then List.flatMap (fun x=>List.flatMap (Qe0 x) [((p.1,p.1+ (p.2.1.length:Int),()):Zd)]) s.2.2.1 else[])=cm
    rw[Zc (fun hh=>by simp only[bne_eq_false_iff_eq]at hh;omega)]
    generalize ((cm.length:Int) !=1||_)=c3
    cases c3
    ·rw[cond_false,Z16 _ _ (by omega),Option.bind_some,Zms _ _ (by omega),Option.bind_some]
     exact j1 Zc5 _ {cells:=h.cells,e0:=h.e0,eK:=h.eK,pend:=Qxg h.pend,flight:=Zvu h.flight a2,acked:=h.acked}
    ·exact⟨_,_,rfl,h⟩
   ·exact j1 Zc5 _ h
  ·exact⟨_,_,rfl,h⟩
 ·exact⟨_,_,rfl,h⟩
theorem Qit{E:Int}{a:List Zd}{r:Zd}{c:Prop}[Decidable c](h: ∀x∈a,x.2.1≤E): ∀y∈(if c then a.flatMap fun x=>[r].flatMap (Qe0 x)else[]),y.2.1≤E:=by
 intro y hy
 split at hy
 ·simp only[List.mem_flatMap,List.mem_singleton,exists_eq_left]at hy
  obtain⟨x,hx,hy⟩:=hy
  unfold Qe0 at hy
  split at hy
  ·simp only[List.mem_singleton]at hy
   have:=h x hx
   subst hy;simp only;omega
  ·cases hy
 ·cases hy
theorem Qm3{a:List Zd}{r:Zd}{c:Prop}[Decidable c]: (if c then a.flatMap fun x=>[r].flatMap (Qe0 x)else[]).length≤a.length:=by
 split
 ·have:=Z06 (f:=fun x=>[r].flatMap (Qe0 x)) (k:=1) (fun x=>by simpa using Qvl x r) a
  omega
 ·simp
theorem Q9x(r:Zd)(h0:0≤r.1):rsB (-1) [r]=Zff r:=by
 simp only[rsB,Bool.and_true]
 rw[Zj (by omega),Bool.and_true]
theorem Zay.lists{K:Int}{s:Zq}(h:Zay K s){f a:List Zd}(hf:RL s.2.1.2.2.1 f)(ha:RL s.2.1.2.2.1 a):Zay K (s.1,(s.2.1,(s.2.2.1,(f,(a,s.2.2.2.2.2))))):=
 {cells:=h.cells,e0:=h.e0,eK:=h.eK,pend:=h.pend,flight:=hf,acked:=ha}
theorem Qii{K:Int}{s x:Zq}(hs:Zay K s)(hx:Zay K x)(he:x.2.1=s.2.1)(t:Zq)(hK:K≤1000000): ∃y,Zgw s t x=some (y,())∧Zay K y:=by
 have hcl:=hs.cells
 have la:=Xk hx.acked hx.e0 hx.eK hK
 unfold Zgw
 simp only[Vp,Vd]
 rw[Qb2 _ _ (by omega),Option.bind_some]
 obtain⟨cs,b,ok,k1,k2⟩:=Q2h s.2.1 (if rsB (-1) x.2.2.2.2.1=true∧0≤(0:Int)then Z4e x.2.2.2.2.1 0 else-1) (by omega)
 rw[k1,Option.bind_some]
 unfold Xu
 obtain⟨k,hk⟩:=Qb9 (x.1,((s.2.1.1,b,s.2.1.2.2.1,cs,()),x.2.2))
 rw[hk,Option.bind_some]
 refine⟨_,rfl,?_⟩
 have e:x.2.1.2.2.1=s.2.1.2.2.1:=by rw[he]
 exact {cells:=(by simp only;omega),e0:=hs.e0,eK:=hs.eK,pend:=(by have:=hx.pend;rw[e]at this;exact this),flight:=(by have:=hx.flight;rw[e]at this;exact this),acked:=(by have:=hx.acked;rw[e]at this;exact this)}
theorem Qih{K:Int}{s x:Zq}(hs:Zay K s)(hx:Zay K x)(he:x.2.1=s.2.1)(p:Kl)(t:Zq)(hK:K≤1000000): ∃y,Zgv s p t x=some (y,())∧Zay K y:=by
 unfold Zgv
 cases p.2.2.1&& (s.2.2.2.2.2.2.1==(2:Int))
 ·exact Qii hs hx he t hK
 ·exact Qii hs (x:=(x.1,(x.2.1,(x.2.2.1,(x.2.2.2.1,(x.2.2.2.2.1,(x.2.2.2.2.2.1,((3:Int),x.2.2.2.2.2.2.2)))))))) {cells:=hx.cells,e0:=hx.e0,eK:=hx.eK,pend:=hx.pend,flight:=hx.flight,acked:=hx.acked} he t hK
theorem Qij{K:Int}{s:Zq}(hs:Zay K s)(p:Kl)(t:Zq)(hK:K≤1000000)(c:List Zd)(hcl:c.length≤1048576)(hc: ∀y∈c,y.2.1≤s.2.1.2.2.1): ∀(N i:Nat) (x:Zq),Zay K x→x.2.1=s.2.1→c.length-i<N→i≤c.length→
  ∃y,Zgx N s p t x c (i:Int)=some (y,())∧Zay K y
 |0,_,_,_,_,h,_=>by omega
 |N+1,i,x,hx,he,hN,hi=>by
  have lf:=Xk hx.flight hx.e0 hx.eK hK
  have la:=Xk hx.acked hx.e0 hx.eK hK
  unfold Zgx
  by_cases h:i<c.length
  ·have hm:=hc _ (Qx (d:=Zx) h)
   have e:x.2.1.2.2.1=s.2.1.2.2.1:=by rw[he]
   rw[Zm (Zj (by omega)),Zc (by omega),Z16 _ _ (by omega),Option.bind_some,Zc (by omega),Zms _ _ (by omega),Option.bind_some,Zo h (by omega)]
   exact Qij hs p t hK c hcl hc N (i+1) _ (hx.lists (Qxg hx.flight) (Zvu hx.acked (by rw[e];exact hm))) he (by omega) (by omega)
  ·rw[Zi (Zk (by omega))]
   exact Qih hs hx he p t hK
theorem Q1s{K:Int}{s:Zq}(h:Zay K s)(p:Kl)(hK:K≤1000000): ∃x,Zq8 s p=some (x,())∧Zay K x:=by
 have h0:=h.e0
 have heK:=h.eK
 have lf:=Xk h.flight h0 heK hK
 obtain⟨b,h1,h2⟩:=Ze1 h hK
 obtain⟨b2,h3,h4⟩:=Qub s p h0 (by omega)
 unfold Zq8
 rw[Ztv h hK,h1]
 simp only[Option.bind_some]
 generalize ((!b)|| (decide (s.1>(2:Int))))=c0
 cases c0
 ·simp only[cond_false,h3,Option.bind_some,Bool.false_or]
  cases b2
  ·exact⟨_,rfl,h⟩
  ·obtain⟨a1,a2⟩:=h4 rfl
   simp only[Bool.not_true,cond_false]
   cases p.2.1==([]:List UInt8)
   ·simp only[Bool.not_false,cond_true]
    rw[Quc a1 (by omega),Option.bind_some]
    rw[Zxi _ _ (by omega) (by simp),Option.bind_some]
    have hl:=Qm3 (a:=s.2.2.2.1) (r:=((p.1,p.1+ (p.2.1.length:Int),()):Zd)) (c:=rsB (-1) s.2.2.2.1=true∧rsB (-1) [((p.1,p.1+ (p.2.1.length:Int),()):Zd)]=true)
    have hh:=Qit (a:=s.2.2.2.1) (r:=((p.1,p.1+ (p.2.1.length:Int),()):Zd)) (c:=rsB (-1) s.2.2.2.1=true∧rsB (-1) [((p.1,p.1+ (p.2.1.length:Int),()):Zd)]=true) h.flight.2
    exact Qij h p _ hK _ (by omega) hh _ 0 s h rfl (by unfold Zju;simp only;omega) (by omega)
   ·exact Qih h h rfl p _ hK
 ·exact⟨_,rfl,h⟩
theorem Qcd{K:Int}{s x:Zq}(hx:Zay K x)(p:Kl)(t:Zq): ∃y,Zfn s p t x=some (y,())∧Zay K y:=by
 have j2: ∀x,Zay K x→ ∃y,Zfo t x=some (y,())∧Zay K y:=by
  intro x hx
  unfold Zfo
  obtain⟨k,hk⟩:=Qb9 x
  rw[hk]
  exact⟨_,rfl,{cells:=hx.cells,e0:=hx.e0,eK:=hx.eK,pend:=hx.pend,flight:=hx.flight,acked:=hx.acked}⟩
 unfold Zfn
 cases p.2.2.1&& (s.2.2.2.2.2.2.1==(2:Int))
 ·exact j2 _ hx
 ·exact j2 _ {cells:=hx.cells,e0:=hx.e0,eK:=hx.eK,pend:=hx.pend,flight:=hx.flight,acked:=hx.acked}
theorem Qce{K:Int}{s:Zq}(p:Kl)(t:Zq)(hK:K≤1000000)(c:List Zd)(E:Int)(hcl:c.length≤1048576)(hc: ∀y∈c,y.2.1≤E): ∀(N i:Nat) (x:Zq),Zay K x→x.2.1.2.2.1=E→c.length-i<N→i≤c.length→
  ∃y,Zfp N s p t x c (i:Int)=some (y,())∧Zay K y
 |0,_,_,_,_,h,_=>by omega
 |N+1,i,x,hx,he,hN,hi=>by
  have lf:=Xk hx.flight hx.e0 hx.eK hK
  have lp:=Xk hx.pend hx.e0 hx.eK hK
  unfold Zfp
  by_cases h:i<c.length
  ·have hm:=hc _ (Qx (d:=Zx) h)
   rw[Zm (Zj (by omega)),Zc (by omega),Z16 _ _ (by omega),Option.bind_some,Zc (by omega),Zms _ _ (by omega),Option.bind_some,Zo h (by omega)]
   exact Qce p t hK c E hcl hc N (i+1) _ {cells:=hx.cells,e0:=hx.e0,eK:=hx.eK,pend:=Zvu hx.pend (by rw[he];exact hm),flight:=Qxg hx.flight,acked:=hx.acked} he (by omega) (by omega)
  ·rw[Zi (Zk (by omega))]
   exact Qcd hx p t
theorem Q0y{K:Int}{s:Zq}(h:Zay K s)(p:Kl)(hK:K≤1000000): ∃x,Zpt s p=some (x,())∧Zay K x:=by
 have h0:=h.e0
 have heK:=h.eK
 have lf:=Xk h.flight h0 heK hK
 obtain⟨b,h1,h2⟩:=Ze1 h hK
 obtain⟨b2,h3,h4⟩:=Qub s p h0 (by omega)
 unfold Zpt
 rw[Ztv h hK,h1]
 simp only[Option.bind_some]
 generalize ((!b)|| (decide (s.1>(2:Int))))=c0
 cases c0
 ·simp only[cond_false,h3,Option.bind_some,Bool.false_or]
  cases b2
  ·exact⟨_,rfl,h⟩
  ·obtain⟨a1,a2⟩:=h4 rfl
   simp only[Bool.not_true,cond_false]
   cases p.2.1==([]:List UInt8)
   ·simp only[Bool.not_false,cond_true]
    rw[Quc a1 (by omega),Option.bind_some]
    rw[Zxi _ _ (by omega) (by simp),Option.bind_some]
    have hl:=Qm3 (a:=s.2.2.2.1) (r:=((p.1,p.1+ (p.2.1.length:Int),()):Zd)) (c:=rsB (-1) s.2.2.2.1=true∧rsB (-1) [((p.1,p.1+ (p.2.1.length:Int),()):Zd)]=true)
    have hh:=Qit (a:=s.2.2.2.1) (r:=((p.1,p.1+ (p.2.1.length:Int),()):Zd)) (c:=rsB (-1) s.2.2.2.1=true∧rsB (-1) [((p.1,p.1+ (p.2.1.length:Int),()):Zd)]=true) h.flight.2
    exact Qce p _ hK _ _ (by omega) hh _ 0 s h rfl (by unfold Zij;simp only;omega) (by omega)
   ·exact Qcd h p _
 ·exact⟨_,rfl,h⟩
theorem Q1t{K:Int}{s:Zq}(h:Zay K s)(hK:K≤1000000): ∃x ok,Zq9 s=some (x,ok,())∧Zay K x:=by
 obtain⟨b,h1,h2⟩:=Ze1 h hK
 unfold Zq9
 rw[Ztv h hK,h1]
 simp only[Option.bind_some]
 generalize ((!b)|| (s.1 !=(4:Int)))=c
 cases c
 ·exact⟨_,_,rfl,{cells:=h.cells,e0:=h.e0,eK:=h.eK,pend:=h.pend,flight:=h.flight,acked:=h.acked}⟩
 ·exact⟨_,_,rfl,h⟩
theorem Q2b(c:Qm)(n:Int)(h:Kv c): ∃b c',Zdb c n=some ((b,()),(c',()))∧Kv c':=by
 unfold Zdb
 obtain⟨x,c1,e1,k1,-,-⟩:=Ztm c n h
 rw[e1,Option.bind_some]
 exact⟨_,_,rfl,k1⟩
theorem Qr7(c:Qm)(l:List (List UInt8))(h:Kv c)(hl:0<l.length): ∃x c',Zld c l=some ((x,()),(c',()))∧Kv c'∧x∈l:=by
 unfold Zld
 obtain⟨x,c1,e1,k1,b1,b2⟩:=Ztm c (l.length:Int) h
 have b2:=b2 (by omega)
 rw[e1,Option.bind_some]
 simp only[]
 rw[Zc ⟨b1,b2⟩]
 refine⟨_,_,rfl,k1,?_⟩
 have hx:x.toNat<l.length:=by omega
 rw[List.getD_eq_getElem?_getD,List.getElem?_eq_getElem hx]
 exact List.getElem_mem hx
theorem Qm6: ∀(N m:Nat) (c:Qm) (s:List UInt8),Kv c→m<N→s.length+m≤1000000→ ∃t c',Zhw N c s (m:Int)=some ((t,()),(c',()))∧Kv c'∧t.length≤s.length+m
 |0,_,_,_,_,h,_=>by omega
 |N+1,0,c,s,hc,_,_=>by
  unfold Zhw
  rw[Zi (by decide)]
  exact⟨s,c,rfl,hc,by omega⟩
 |N+1,m+1,c,s,hc,hN,hl=>by
  unfold Zhw
  rw[Zm (Zj (by omega))]
  obtain⟨x,c1,e1,k1,hx⟩:=Qr7 c [([97]:List UInt8),([98]:List UInt8),([99]:List UInt8),([100]:List UInt8)] hc (by simp)
  have hx1:x.length=1:=by simp only[List.mem_cons,List.not_mem_nil,or_false]at hx;rcases hx with rfl|rfl|rfl|rfl<;>rfl
  rw[e1,Option.bind_some,Zc (by unfold W9;simp only;omega)]
  have e:IntKind.i64.wrap (((m+1:Nat):Int)-1)=(m:Int):=by rw[Zv (by omega) (by omega)];omega
  rw[e]
  obtain⟨t,c2,e2,k2,h2⟩:=Qm6 N m c1 (s++x) k1 (by omega) (by simp;omega)
  exact⟨t,c2,e2,k2,by simp at h2;omega⟩
theorem Q2a(c:Qm)(most:Nat)(h:Kv c)(hm:most≤1000): ∃t c',Wy c (most:Int)=some ((t,()),(c',()))∧Kv c'∧t.length≤most:=by
 unfold Wy
 obtain⟨x,c1,e1,k1,b1,b2⟩:=Ztm c (IntKind.i64.wrap ((most:Int)+1)) h
 rw[e1,Option.bind_some]
 rw[Zv (by omega) (by omega)]at b2
 have b2:=b2 (by omega)
 obtain⟨m,rfl⟩:=Int.eq_ofNat_of_zero_le b1
 obtain⟨t,c2,e2,k2,h2⟩:=Qm6 (Zgi c1 [] (m:Int)) m c1 [] k1 (by unfold Zgi;omega) (by simp;omega)
 exact⟨t,c2,e2,k2,by simp at h2;omega⟩
theorem Q5m{n:Int}(h:n=4∨n=8∨n=16):Za8 n=some (true,()):=by
 rcases h with rfl|rfl|rfl<;>rfl
theorem Q00{n:Int}(h:n=4∨n=8∨n=16): ∃s,Zha n=some (s,true,())∧Zay 0 s:=by
 unfold Zha Ztb
 rw[Q5m h]
 simp only[Option.bind_some,Bool.not_true,cond_false]
 rw[Zc (by unfold Qv;omega)]
 exact⟨_,rfl,{cells:=(by simp;omega),e0:=Int.le_refl _,eK:=Int.le_refl _,pend:=Zjo _,flight:=Zjo _,acked:=Zjo _}⟩
def inR(n:Int)(l:List Zd):Prop:= ∃x∈l,x.1≤n∧n<x.2.1
theorem Qpb: ∀{l:List Zd} {r:Zd} {n:Int},inR n (Zmi l r)→inR n l∨(r.1≤n∧n<r.2.1)
 | [],r,n,⟨x,hx,h⟩=>by simp[Zmi]at hx;subst hx;exact .inr h
 |y::l,r,n,⟨x,hx,h⟩=>by
  have up:inR n l→inR n (y::l):=fun⟨z,hz,hh⟩=>⟨z,by simp[hz],hh⟩
  unfold Zmi at hx
  split at hx
  ·rcases List.mem_cons.1 hx with rfl|hx
   ·exact .inl ⟨x,by simp,h⟩
   ·exact(Qpb ⟨x,hx,h⟩).imp up id
  ·split at hx
   ·rcases List.mem_cons.1 hx with rfl|hx
    ·exact .inr h
    ·exact .inl ⟨x,hx,h⟩
   ·rcases Qpb ⟨x,hx,h⟩with h'|h'
    ·exact .inl (up h')
    ·simp only at h'
     by_cases hy:y.1≤n∧n<y.2.1
     ·exact .inl ⟨y,by simp,hy⟩
     ·exact .inr (by omega)
theorem Qm1: ∀{l:List Zd} {r:Zd},(∀x∈l,x.1≤x.2.1)→r.1≤r.2.1→J8 (Zmi l r)≤J8 l+ (r.2.1-r.1)
 | [],r,_,_=>by simp[Zmi,J8]
 |y::l,r,hl,hr=>by
  have hl': ∀x∈l,x.1≤x.2.1:=fun x hx=>hl x (by simp[hx])
  have hy:=hl y (by simp)
  unfold Zmi
  split
  ·have:=Qm1 (l:=l) (r:=r) hl' hr;simp only[J8];omega
  ·split
   ·simp only[J8];omega
   ·have:=Qm1 (l:=l) (r:=(min r.1 y.1,max r.2.1 y.2.1,())) hl' (by simp only;omega);simp only[J8]at this⊢;omega
def ckB:Int→List Zki→Bool
 |_,[]=>true
 |e,c::l=> !(((decide (c.1≤e))|| (c.2.1==([]:List UInt8)))|| (decide (c.1>(IntKind.i64.wrap ((4611686018427387903:Int)- (c.2.1.length:Int))))))&&ckB (IntKind.i64.wrap (c.1+ (c.2.1.length:Int))) l
def Zsw(n:Int):Bool:=decide (n≥0)&&decide (n≤4611686018427387903)
theorem Zcx(n:Int):Qd n=some (Zsw n,()):=rfl
theorem Z3p{n:Int}:Zsw n=true↔0≤n∧n≤4611686018427387903:=by unfold Zsw;simp
def Zvv(b:Z4):Bool:=ckB (IntKind.i64.wrap (b.1-1)) b.2.1&&Zsw b.1
theorem Z58(b:Z4): ∀(N:Nat) (pre rest:List Zki) (e:Int),b.2.1=pre++rest→b.2.1.length≤1048576→rest.length<N→Zdi N b e (pre.length:Int)=some (ckB e rest&&Zsw b.1,())
 |0,_,_,_,_,_,h=>by omega
 |N+1,pre,[],e,hb,hl,hN=>by
  unfold Zdi
  rw[Zi (by rw[hb];simp),Zcx,Option.bind_some];simp[ckB]
 |N+1,pre,c::rest,e,hb,hl,hN=>by
  have hlen:b.2.1.length=pre.length+rest.length+1:=by rw[hb];simp;omega
  simp only[List.length_cons]at hN
  have hg:b.2.1.getD (pre.length:Int).toNat Zup=c:=by rw[hb];exact V9 pre c rest Zup
  unfold Zdi
  rw[Zm (Zj (by omega)),Zc (by omega)]
  simp only[hg]
  have ih:=Z58 b N (pre++ [c]) rest (IntKind.i64.wrap (c.1+ (c.2.1.length:Int))) (by rw[hb];simp) hl (by omega)
  rw[show((pre++ [c]).length:Int)=((pre.length+1:Nat):Int) by simp]at ih
  rw[Zo (m:=pre.length+1) (by omega) (by omega),ih]
  simp only[ckB]
  cases (((decide (c.1≤e))|| (c.2.1==([]:List UInt8)))|| (decide (c.1>(IntKind.i64.wrap ((4611686018427387903:Int)- (c.2.1.length:Int))))))<;>rfl
theorem Zmx(b:Z4)(hl:b.2.1.length≤1048576):Zc9 b=some (Zvv b,()):=by
 unfold Zc9
 exact Z58 b _ [] b.2.1 _ rfl hl (by unfold Zjw;omega)
def rgC(c:Zki):Zd:=(c.1,c.1+ (c.2.1.length:Int),())
def Zmc:List Zki→Nat
 | []=>0
 |c::l=>c.2.1.length+Zmc l
theorem Qme: ∀{l:List Zki} {c:Zki},c∈l→c.2.1.length≤Zmc l
 |x::l,c,h=>by
  rcases List.mem_cons.1 h with rfl|h
  ·simp[Zmc]
  ·have:=Qme h;simp only[Zmc];omega
structure Zoy(K:Nat)(b:Z4):Prop where
 len:b.2.1.length≤K
 tot:Zmc b.2.1≤K
theorem Zoy.mono{K K':Nat}{b:Z4}(h:Zoy K b)(hK:K≤K'):Zoy K' b:=⟨Nat.le_trans h.len hK,Nat.le_trans h.tot hK⟩
theorem Q16: ∀{l:List Zki} {e:Int},Zmc l≤1000000→ -1≤e→ckB e l=true→rsB e (l.map rgC)=true
 | [],_,_,_,_=>rfl
 |c::l,e,ht,he,h=>by
  simp only[Zmc]at ht
  simp only[ckB,Bool.and_eq_true,Bool.not_eq_true',Bool.or_eq_false_iff,decide_eq_false_iff_not,beq_eq_false_iff_ne]at h
  obtain⟨⟨⟨h1,h2⟩,h3⟩,h4⟩:=h
  rw[Zv (by omega) (by omega)]at h3
  rw[Zv (by omega) (by omega)]at h4
  have hp:0<c.2.1.length:=List.length_pos_iff.2 h2
  rw[List.map_cons,J3]
  exact⟨Q2.2 (by simp only[rgC];omega),by simp only[rgC];omega,Q16 (by omega) (by simp only[rgC];omega) h4⟩
theorem Qzd: ∀(l:List Zki),J8 (l.map rgC)=(Zmc l:Int)
 | []=>rfl
 |c::l=>by
  have:=Qzd l
  simp only[List.map_cons,J8,Zmc,rgC,this];omega
theorem Z0s(b:Z4)(ht:Zmc b.2.1≤1000000)(hb2: ∀c∈b.2.1,-1≤c.1∧c.1≤4611686018427387903): ∀(N:Nat) (pre rest:List Zki) (out:List Zd),b.2.1=pre++rest→b.2.1.length≤1048576→rest.length<N→out.length≤pre.length→Zvv b=true→
  Y2 N b out (pre.length:Int)=some (out++rest.map rgC,())
 |0,_,_,_,_,_,h,_,_=>by omega
 |N+1,pre,[],out,hb,hl,hN,ho,hB=>by
  unfold Y2
  have:decide ((pre.length:Int)< (b.2.1.length:Int))=false:=by rw[hb];simp
  rw[this]
  simp only[cond_false,Option.bind_some,Bool.false_and,List.map_nil,List.append_nil]
 |N+1,pre,c::rest,out,hb,hl,hN,ho,hB=>by
  have hlen:b.2.1.length=pre.length+rest.length+1:=by rw[hb];simp;omega
  simp only[List.length_cons]at hN
  have hg:b.2.1.getD (pre.length:Int).toNat Zup=c:=by rw[hb];exact V9 pre c rest Zup
  have g: ∀{ρ:Type} (m:Option ρ),Zf (0≤(pre.length:Int)∧(pre.length:Int)< (b.2.1.length:Int)) m=m:=fun m=>Zc (by omega)
  have hc:=hb2 c (by rw[hb];simp)
  have hcl:=Qme (l:=b.2.1) (c:=c) (by rw[hb];simp)
  unfold Y2
  have hd:decide ((pre.length:Int)< (b.2.1.length:Int))=true:=Zj (by omega)
  rw[hd,Zmx b hl,hB]
  simp only[cond_true,Option.bind_some,Bool.and_self,g,hg]
  rw[Zc (by unfold Qv;simp;omega),Zo (m:=pre.length+1) (by omega) (by omega),Zv (by omega) (by omega)]
  have ih:=Z0s b ht hb2 N (pre++ [c]) rest (out++ [rgC c]) (by rw[hb];simp) hl (by omega) (by simp;omega) hB
  rw[show((pre++ [c]).length:Int)=((pre.length+1:Nat):Int) by simp]at ih
  refine Eq.trans ih ?_
  simp
theorem Z6k{b:Z4}(ht:Zmc b.2.1≤1000000)(h:Zvv b=true):0≤b.1∧b.1≤4611686018427387903∧rsB (b.1-1) (b.2.1.map rgC)=true:=by
 unfold Zvv at h
 simp only[Bool.and_eq_true]at h
 have hq:=Z3p.1 h.2
 have h1:=h.1
 rw[Zv (by omega) (by omega)]at h1
 exact⟨hq.1,hq.2,Q16 ht (by omega) h1⟩
theorem Qth{K:Nat}{b:Z4}(hi:Zoy K b)(hK:K≤1000000):Zj9 b=some (if Zvv b=true then b.2.1.map rgC else[],()):=by
 have hl:=hi.len
 have ht:=hi.tot
 unfold Zj9
 cases hB:Zvv b
 ·show Y2 (_+1) b [] 0=_
  unfold Y2
  rw[Zmx b (by omega),hB]
  cases decide ((0:Int)< (b.2.1.length:Int))<;>rfl
 ·obtain⟨q1,q2,q3⟩:=Z6k (by omega) hB
  have:=Z0s b (by omega) (fun c hc=>by
   have h1:=Zvo q3 (rgC c) (List.mem_map_of_mem hc)
   have h2:=Q2.1 h1.2
   simp only[rgC]at h1 h2
   omega) (W4 b [] 0) [] b.2.1 [] rfl (by omega) (by unfold W4;omega) (by simp) hB
  refine Eq.trans this ?_
  simp
theorem Qiq(b:Z4)(at_:Int)(h0:0≤at_)(h1:at_≤4611686018427387903)(ht:Zmc b.2.1≤1000000)(hq: ∀c∈b.2.1,0≤c.1∧c.1≤4611686018427387903): ∀(N:Nat) (pre rest:List Zki),b.2.1=pre++rest→b.2.1.length≤1048576→rest.length<N→
  ∃v,Zgz N at_ b (pre.length:Int)=some (v,())∧(v<0→ ¬inR at_ (rest.map rgC))∧v≤255
 |0,_,_,_,_,h=>by omega
 |N+1,pre,[],hb,hl,hN=>by
  unfold Zgz
  rw[Zi (by rw[hb];simp)]
  exact⟨-1,rfl,fun _ ⟨x,hx,_⟩=>by simp at hx,by omega⟩
 |N+1,pre,c::rest,hb,hl,hN=>by
  have hlen:b.2.1.length=pre.length+rest.length+1:=by rw[hb];simp;omega
  simp only[List.length_cons]at hN
  have hg:b.2.1.getD (pre.length:Int).toNat Zup=c:=by rw[hb];exact V9 pre c rest Zup
  have g: ∀{ρ:Type} (m:Option ρ),Zf (0≤(pre.length:Int)∧(pre.length:Int)< (b.2.1.length:Int)) m=m:=fun m=>Zc (by omega)
  have hc:=hq c (by rw[hb];simp)
  have hcl:=Qme (l:=b.2.1) (c:=c) (by rw[hb];simp)
  unfold Zgz
  rw[Zm (Zj (by omega))]
  simp only[g,hg]
  rw[Zc (fun _=>by omega),Zc (fun _=>by omega),Zv (by omega) (by omega),Zj (by omega),Zj (by omega)]
  simp only[Bool.true_and]
  obtain⟨v,k1,k2,k3⟩:=Qiq b at_ h0 h1 ht hq N (pre++ [c]) rest (by rw[hb];simp) hl (by omega)
  rw[show((pre++ [c]).length:Int)=((pre.length+1:Nat):Int) by simp]at k1
  by_cases hin:at_-c.1≥0∧at_-c.1< (c.2.1.length:Int)
  ·rw[Zj hin.1,Zj hin.2,Bool.and_self,cond_true,Zc ⟨hin.1,hin.2⟩]
   have hb8: (c.2.1.getD (at_-c.1).toNat 0).toNat<256:=(c.2.1.getD (at_-c.1).toNat 0).toNat_lt
   rw[Zv (by omega) (by omega)]
   exact⟨_,rfl,fun h=>by omega,by omega⟩
  ·rw[Zi (by rw[Bool.and_eq_false_iff,decide_eq_false_iff_not,decide_eq_false_iff_not];omega),Zo (m:=pre.length+1) (by omega) (by omega)]
   refine⟨v,k1,fun hv ⟨x,hx,hh⟩=> ?_,k3⟩
   rw[List.map_cons]at hx
   rcases List.mem_cons.1 hx with rfl|hx
   ·simp only[rgC]at hh;omega
   ·exact k2 hv ⟨x,hx,hh⟩
theorem Q62(b:Z4)(at_:Int)(h0:0≤at_)(h1:at_≤4611686018427387903)(ht:Zmc b.2.1≤1000000)(hl:b.2.1.length≤1000000)(hq: ∀c∈b.2.1,0≤c.1∧c.1≤4611686018427387903):
  ∃v,Zvp b at_=some (v,())∧(v<0→ ¬inR at_ (b.2.1.map rgC))∧v≤255:=by
 unfold Zvp
 exact Qiq b at_ h0 h1 ht hq _ [] b.2.1 rfl (by omega) (by unfold Zmo;omega)
theorem Q2z{b:Z4}(ht:Zmc b.2.1≤1000000)(hbl:b.2.1.length≤1000000)(hq: ∀c∈b.2.1,0≤c.1∧c.1≤4611686018427387903)(K1: (Int×List UInt8×Z4×Z4×Z4×List Zd×Int×Unit)→Option (Z4×Unit))(o:Int)(ho:0≤o∧o≤4611686018427387903)(d:List UInt8)(t x:Z4)(l:List Zd)(i:Nat)(hi:i<l.length)(r:Zd)(hr:l.getD i Zx=r)
  (h0:0≤r.1) (hH:r.2.1≤4611686018427387903) (hx:x.2.1.length≤1000000)
  (hin: ∀n,r.1≤n→n<r.2.1→inR n (b.2.1.map rgC)∨(o≤n∧n<o+d.length)):
  ∀(N m:Nat) (s:List UInt8),(m:Int)≤r.2.1-r.1→m<N→(s.length:Int)+m≤r.2.1-r.1→(r.2.1-r.1)≤2000000→
   ∃t',K5 K1 N o d b t x l (i:Int) s (r.2.1-m)=K1 (o,d,b,t,(x.1,(x.2.1++ [(r.1,(t',()))],x.2.2)),l,IntKind.i64.wrap ((i:Int)+1),())∧(t'.length:Int)≤r.2.1-r.1
 |0,_,_,_,h,_,_=>by omega
 |N+1,0,s,hm,hN,hs,hb=>by
  unfold K5
  rw[Zc (by omega),show(i:Int).toNat=i from rfl,hr,Zi (Zk (by omega)),Zc (by omega)]
  simp only
  rw[Zc (by unfold Qv;simp;omega)]
  exact⟨s,rfl,by omega⟩
 |N+1,m+1,s,hm,hN,hs,hb=>by
  unfold K5
  rw[Zc (by omega),show(i:Int).toNat=i from rfl,hr,Zm (Zj (by omega))]
  obtain⟨v,k1,k2,k3⟩:=Q62 b (r.2.1- ((m+1:Nat):Int)) (by omega) (by omega) ht hbl hq
  rw[k1,Option.bind_some]
  have next: ∀v,∃t',Zd3 K1 (fun v=>K5 K1 N v.1 v.2.1 v.2.2.1 v.2.2.2.1 v.2.2.2.2.1 v.2.2.2.2.2.1 v.2.2.2.2.2.2.1 v.2.2.2.2.2.2.2.1 v.2.2.2.2.2.2.2.2.1) o d b t x l (i:Int) s (r.2.1- ((m+1:Nat):Int)) v=K1 (o,d,b,t,(x.1,(x.2.1++ [(r.1,(t',()))],x.2.2)),l,IntKind.i64.wrap ((i:Int)+1),())∧(t'.length:Int)≤r.2.1-r.1:=by
   intro v
   unfold Zd3
   obtain⟨y,e1,e2⟩:=Qyb v
   rw[e1,Option.bind_some,Zc (by unfold W9;simp only;omega),Zv (by omega) (by omega)]
   have e:r.2.1- ((m+1:Nat):Int)+1=r.2.1- (m:Int):=by omega
   simp only[e]
   exact Q2z ht hbl hq K1 o ho d t x l i hi r hr h0 hH hx hin N m (s++y) (by omega) (by omega) (by simp;omega) hb
  by_cases hv:v<0
  ·have:=(hin (r.2.1- ((m+1:Nat):Int)) (by omega) (by omega)).resolve_left (k2 hv)
   rw[Zm (Zj hv),Zc (by rw[Zv (by omega) (by omega)];omega)]
   exact next _
  ·rw[Zi (Zk hv)]
   exact next _
theorem Qxb: ∀(a b:List Zki),Zmc (a++b)=Zmc a+Zmc b
 | [],b=>by simp[Zmc]
 |c::a,b=>by simp only[List.cons_append,Zmc,Qxb a b];omega
theorem Q0g: ∀{l:List Zd} {i:Nat},i<l.length→J8 (l.drop i)=((l.getD i Zx).2.1- (l.getD i Zx).1)+J8 (l.drop (i+1)):=by
 intro l i h
 rw[Zdc (d:=Zx) h];rfl
theorem Q2y{b:Z4}(ht:Zmc b.2.1≤1000000)(hbl:b.2.1.length≤1000000)(hq: ∀c∈b.2.1,0≤c.1∧c.1≤4611686018427387903)(o:Int)(ho:0≤o∧o≤4611686018427387903)(d:List UInt8)(t:Z4)(l:List Zd)
  (hl:l.length≤1000000) (hf: ∀r∈l,Zff r=true) (hc:J8 l≤2000000)
  (hin: ∀n,inR n l→inR n (b.2.1.map rgC)∨(o≤n∧n<o+d.length)) (M:Int) (hM:M≤4000000):
  ∀(N i:Nat) (x:Z4),l.length-i<N→i≤l.length→x.2.1.length≤i→(Zmc x.2.1:Int)+J8 (l.drop i)≤M→
   ∃y,Zav N o d b t x l (i:Int)=some (y,())∧y.1=x.1∧y.2.1.length≤l.length∧(Zmc y.2.1:Int)≤M
 |0,_,_,h,_,_,_=>by omega
 |N+1,i,x,hN,hi,hx,hm=>by
  unfold Zav
  by_cases h:i<l.length
  ·have hmem:=Qx (d:=Zx) h
   have hfi:=Q2.1 (hf _ hmem)
   have hd:=Q0g h
   have hnn: ∀{l:List Zd},(∀r∈l,Zff r=true)→0≤J8 l:=by
    intro l
    induction l with
    |nil=>intro _;simp[J8]
    |cons r l ih=>
     intro hh
     have:=Q2.1 (hh r (by simp))
     have:=ih fun r hr=>hh r (by simp[hr])
     simp only[J8];omega
   have h1:=hnn (l:=l.drop (i+1)) fun r hr=>hf r (List.mem_of_mem_drop hr)
   have hsub: (l.getD i Zx).2.1- (l.getD i Zx).1≤2000000:=by
    have htk: ∀(l:List Zd),(∀r∈l,Zff r=true)→ ∀r∈l,r.2.1-r.1≤J8 l:=by
     intro l
     induction l with
     |nil=>intro _ r hr;cases hr
     |cons q l ih=>
      intro hh r hr
      have hq:=Q2.1 (hh q (by simp))
      have hl:=hnn (l:=l) fun r hr=>hh r (by simp[hr])
      simp only[J8]
      rcases List.mem_cons.1 hr with rfl|hr
      ·omega
      ·have:=ih (fun r hr=>hh r (by simp[hr])) r hr;omega
    have:=htk l hf _ hmem;omega
   rw[Zm (Zj (by omega)),Zc (by omega),show(i:Int).toNat=i from rfl]
   generalize hr:l.getD i Zx=r at*
   obtain⟨m,hmm⟩:=Int.eq_ofNat_of_zero_le (a:=r.2.1-r.1) (by omega)
   obtain⟨t',k1,k2⟩:=Q2z ht hbl hq (fun v=>Zav N v.1 v.2.1 v.2.2.1 v.2.2.2.1 v.2.2.2.2.1 v.2.2.2.2.2.1 v.2.2.2.2.2.2.1) o ho d t x l i h r hr hfi.1 hfi.2.2 (by omega)
    (fun n hn1 hn2=>hin n ⟨r,hmem,hn1,hn2⟩) (Zb0 o d b t x l (i:Int) [] r.1) m [] (by omega) (by unfold Zb0;rw[show(i:Int).toNat=i from rfl,hr];omega) (by simp;omega) hsub
   rw[show r.2.1- (m:Int)=r.1 by omega]at k1
   rw[k1,Zo h (by omega)]
   obtain⟨y,q1,q2,q3,q4⟩:=Q2y ht hbl hq o ho d t l hl hf hc hin M hM N (i+1) (x.1,(x.2.1++ [(r.1,(t',()))],x.2.2)) (by omega) (by omega) (by simp;omega) (by
    simp only[Qxb,Zmc];omega)
   exact⟨y,q1,q2,q3,q4⟩
  ·rw[Zi (Zk (by omega))]
   have:i=l.length:=by omega
   subst this
   rw[List.drop_length]at hm
   exact⟨x,rfl,rfl,hx,by simp[J8]at hm;omega⟩
theorem Qo7{K:Nat}{b:Z4}(h:Zoy K b)(hK:K≤1000000):Zh8 b=some (b,()):=by
 have:=h.len
 unfold Zh8
 rw[Zc (by unfold Qv;simp;omega)]
 simp
theorem Qx9{K:Nat}{b:Z4}(h:Zoy K b)(o:Int)(d:List UInt8)(hK:K+d.length+1≤1000000): ∃y,Znn b o d=some (y,())∧Zoy (K+d.length+1) y:=by
 have hl:=h.len
 have ht:=h.tot
 unfold Znn
 rw[Zmx b (by omega),Option.bind_some]
 generalize hc: ((((!Zvv b)|| (d==([]:List UInt8)))|| (decide (o< (0:Int))))|| (decide (o>(IntKind.i64.wrap ((4611686018427387903:Int)- (d.length:Int))))))=c
 cases c
 ·simp only[Bool.or_eq_false_iff,Bool.not_eq_false',decide_eq_false_iff_not]at hc
  obtain⟨⟨⟨c1,c2⟩,c3⟩,c4⟩:=hc
  rw[Zv (by omega) (by omega)]at c4
  obtain⟨q1,q2,q3⟩:=Z6k (by omega) c1
  simp only[cond_false]
  rw[Zv (by omega) (by omega)]
  by_cases hm:max o b.1≥o+ (d.length:Int)
  ·rw[Zm (Zj hm),Qo7 h (by omega)]
   exact⟨b,rfl,h.mono (by omega)⟩
  ·rw[Zi (Zk hm),Qth h (by omega),Option.bind_some,c1]
   simp only[if_true]
   have hml: (b.2.1.map rgC).length≤1048576:=by rw[List.length_map];omega
   rw[Zms _ _ hml,Option.bind_some]
   have hrs:rsB (-1) (b.2.1.map rgC)=true:=Qp5 q3 (by omega)
   have hfr:Zff (max o b.1,(o+ (d.length:Int),()))=true:=Q2.2 (by simp only;omega)
   simp only[hrs,hfr,and_self,if_true]
   have hcl:=Z94 (l:=b.2.1.map rgC) (r:=((max o b.1,(o+ (d.length:Int),())):Zd))
   rw[List.length_map]at hcl
   have hcc:=Qm1 (l:=b.2.1.map rgC) (r:=((max o b.1,(o+ (d.length:Int),())):Zd)) (fun x hx=>by
    have:=Q2.1 (Zvo hrs x hx).2;omega) (by simp only;omega)
   rw[Qzd]at hcc
   simp only at hcc
   have hars:=Ql2 hrs hfr (by simp only;omega)
   have hch: ∀c∈b.2.1,0≤c.1∧c.1≤4611686018427387903:=fun c hc=>by
    have h1:=Zvo q3 (rgC c) (List.mem_map_of_mem hc)
    have h2:=Q2.1 h1.2
    simp only[rgC]at h1 h2
    omega
   obtain⟨y,k1,k2,k3,k4⟩:=Q2y (b:=b) (by omega) (by omega) hch o (by omega) d Qz9 _ (by omega) (fun r hr=>(Zvo hars r hr).2) (by omega) (fun n hn=>(Qpb hn).imp id fun hh=>by first| (simp only at hh;omega)|omega) (K+d.length) (by omega)
    (Zbz o d b Qz9 (b.1,([],())) (Zmi (b.2.1.map rgC) (max o b.1,(o+ (d.length:Int),()))) 0) 0 (b.1,([],())) (by unfold Zbz;omega) (by omega) (by simp) (by simp only[Zmc,List.drop_zero];omega)
   exact⟨y,k1,⟨by omega,by omega⟩⟩
 ·rw[cond_true,Qo7 h (by omega)]
  exact⟨b,rfl,h.mono (by omega)⟩
def Z15(b:Z4):Int:=if Zvv b=true∧b.2.1≠[]∧(b.2.1.getD 0 Zup).1=b.1 then((b.2.1.getD 0 Zup).2.1.length:Int)else 0
theorem Zyk(b:Z4)(hl:b.2.1.length≤1048576):Wv b=some (Z15 b,()):=by
 unfold Wv Z15
 rw[Zmx b hl,Option.bind_some]
 obtain⟨b1,l,_⟩:=b
 cases hB:Zvv (b1,l,())
 ·simp[Zf]
 ·cases l with
  |nil=>simp[Zf]
  |cons c l=>
   simp only[Bool.not_true,Bool.false_or]
   have e: (((c::l).length:Int)==0)=false:=by rw[beq_eq_false_iff_ne,List.length_cons];omega
   rw[e,Zc (fun _=>by simp only[List.length_cons];omega)]
   simp only[Bool.false_or,show(0:Int).toNat=0 from rfl,List.getD_cons_zero,ne_eq,reduceCtorEq,not_false_eq_true,true_and]
   by_cases h:c.1=b1
   ·rw[Zi (by simp[h]),Zc (by simp only[List.length_cons];omega),if_pos h]
   ·rw[Zm (by simp[h]),if_neg h]
theorem Q1b{K:Nat}{b:Z4}(h:Zoy K b):0≤Z15 b∧Z15 b≤(K:Int)∧(Z15 b≠0→Zvv b=true∧ ∃c l,b.2.1=c::l∧Z15 b=(c.2.1.length:Int)):=by
 unfold Z15
 split
 ·rename_i hh
  obtain⟨b1,l,_⟩:=b
  cases l with
  |nil=>exact absurd rfl hh.2.1
  |cons c l=>
   have:=h.tot
   simp only[Zmc]at this
   simp only[List.getD_cons_zero]
   exact⟨by omega,by omega,fun _=>⟨hh.1,c,l,rfl,rfl⟩⟩
 ·exact⟨by omega,by omega,fun h=>absurd rfl h⟩
theorem Q1l{K:Nat}{b:Z4}(h:Zoy K b)(hK:K≤1000000)(m:Int): ∃s y,Zpx b m=some (s,y,())∧Zoy K y∧s.length≤K:=by
 have hl:=h.len
 have ht:=h.tot
 obtain⟨r1,r2,r3⟩:=Q1b h
 unfold Zpx
 rw[Zyk b (by omega),Qo7 h hK]
 simp only[Option.bind_some]
 generalize hn:min (Z15 b) (max m 0)=n
 by_cases h0:n=0
 ·subst h0
  exact⟨[],b,rfl,h,by simp⟩
 ·rw[Zi (by simp[h0])]
  obtain⟨hB,c,l,hb,hr⟩:=r3 (by omega)
  obtain⟨b1,b2,b3⟩:=Z6k (by omega) hB
  rw[Zv (by omega) (by omega)]
  obtain⟨z,bl,_⟩:=b
  simp only at hb hl ht b1 b2
  subst hb
  simp only[List.length_cons]at hl
  simp only[Zmc]at ht
  simp only[show(0:Int).toNat=0 from rfl,List.getD_cons_zero,List.length_cons]
  rw[Zc (by omega)]
  by_cases he:n=(c.2.1.length:Int)
  ·rw[Zm (by simp[he]),Zc (by omega)]
   simp only[show(1:Int).toNat=1 from rfl,List.drop_succ_cons,List.drop_zero]
   have hi:Zoy K ((z+n,((l.take (((l.length+1:Nat):Int).toNat-1)),())):Z4):=by
    rw[show((l.length+1:Nat):Int).toNat-1=l.length by omega,List.take_length]
    exact⟨by show l.length≤K;omega,by show Zmc l≤K;omega⟩
   rw[Qo7 hi hK]
   exact⟨_,_,rfl,hi,by omega⟩
  ·rw[Zi (by simp[he]),Zc (by omega),Zc (by omega),Zc (by omega)]
   refine⟨_,_,rfl,⟨?_,?_⟩,?_⟩
   ·simp;omega
   ·simp only[List.set_cons_zero,Zmc,List.length_take,List.length_drop];omega
   ·simp only[List.length_take,List.length_drop];omega
theorem Q6f{K:Nat}{b:Z4}(h:Zoy K b)(hK:K≤1000000): ∃v,Zqo b=some (v,()):=by
 have hl:=h.len
 unfold Zqo
 rw[Zmx b (by omega)]
 by_cases h0:b.2.1=[]
 ·rw[h0];exact⟨_,rfl⟩
 ·have:0<b.2.1.length:=List.length_pos_iff.2 h0
  have e: ((b.2.1.length:Int)==(0:Int))=false:=by rw[beq_eq_false_iff_ne];omega
  rw[e]
  simp only[cond_false,Option.bind_some,Bool.false_or]
  cases Zvv b
  ·exact⟨_,rfl⟩
  ·simp only[Bool.not_true,cond_false]
   rw[Zv (by omega) (by omega),Zc (by omega)]
   exact⟨_,rfl⟩
theorem Ks{α:Type}(c:Bool)(a b:α): (bif c then some a else some b)=some (bif c then a else b):=by cases c<;>rfl
theorem Qtd{α β:Type}{P:α→β→Prop}{c:Bool}{m n:α}(h1: ∃b,P m b)(h2: ∃b,P n b): ∃b,P (bif c then m else n) b:=by cases c<;>assumption
theorem Zkq{K:Nat}{r:Qh}(h:Zoy K r.2.1)(hK:K≤1000000): ∃b,Yh r=some (b,()):=by
 have hl:=h.len
 obtain⟨v,k⟩:=Q6f h hK
 have j: ∀q,∃b,Y7 r q=some (b,()):=fun q=>by unfold Y7;cases q<;>exact⟨_,rfl⟩
 unfold Yh
 rw[Zmx _ (by omega),Zyk _ (by omega),k]
 simp only[Option.bind_some,Zcx,Ks]
 repeat' refine Qtd (P:=fun m b=>m=some (b,())) ?_ ?_
 all_goals first|exact j _|exact⟨_,rfl⟩
theorem Qi6: ∃r,Zqp=some (r,())∧Zoy 0 r.2.1:=⟨_,rfl,⟨by simp,by simp[Zmc]⟩⟩
theorem Qua{K:Nat}{r:Qh}(h:Zoy K r.2.1)(hK:K≤1000000):Zlm r=some (r,()):=by
 unfold Zlm
 rw[Qo7 h hK];rfl
theorem Qzt(r:Qh)(e:Int)(f:Bool): ∃v,Zp7 r e f=some (v,()):=by
 unfold Zp7
 rw[Ks]
 exact⟨(bif _ then((6:Int),())else(0,())).1,rfl⟩
theorem Qwv{K:Nat}{r:Qh}(h:Zoy K r.2.1)(o:Int)(d:List UInt8)(f:Bool)(hK:K+d.length+1≤1000000):
  ∃y v,Zl4 r o d f=some (y,v,())∧Zoy (K+d.length+1) y.2.1:=by
 have j: ∀z t x,∃y v,Zcq o d r z ((t,(r.2.1,x)):Qh)=some (y,v,())∧Zoy (K+d.length+1) y.2.1:=by
  intro z t x
  unfold Zcq Zgf
  obtain⟨b,k1,k2⟩:=Qx9 h o d hK
  have hbl:b.2.1.length≤1048576:=by have:=k2.len;omega
  simp only[k1,Option.bind_some,Zyk b hbl,Ks]
  generalize ((((t,(r.2.1,x)):Qh).2.2.1 !=(-1:Int))&&_)=c
  cases c
  ·exact⟨_,_,rfl,k2⟩
  ·exact⟨_,_,rfl,k2⟩
 unfold Zl4
 obtain⟨q,e2⟩:=Zkq h (by omega)
 rw[Qua h (by omega),e2]
 simp only[Option.bind_some]
 generalize hc: (((!q)|| (decide (o< (0:Int))))|| (decide (o>(IntKind.i64.wrap ((4611686018427387903:Int)- (d.length:Int))))))=c
 cases c
 ·obtain⟨v,e3⟩:=Qzt r (IntKind.i64.wrap (o+ (d.length:Int))) f
  rw[cond_false,e3,Option.bind_some]
  generalize ((v !=(0:Int))|| (decide (r.1>(1:Int))))=c
  cases c
  ·cases f
   ·exact j _ _ _
   ·exact j _ _ _
  ·exact⟨_,_,rfl,h.mono (by omega)⟩
 ·exact⟨_,_,rfl,h.mono (by omega)⟩
theorem Quu{K:Nat}{r:Qh}(h:Zoy K r.2.1)(hK:K≤1000000)(c f:Int):
  ∃y v,Zke r c f=some (y,v,())∧Zoy K y.2.1:=by
 unfold Zke
 obtain⟨q,e2⟩:=Zkq h hK
 obtain⟨v,e3⟩:=Qzt r f true
 rw[Qua h hK,e2,e3]
 simp only[Option.bind_some,Zcx,Ks]
 generalize ((_||_)||_:Bool)=x
 cases x
 ·generalize ((_||_):Bool)=x
  cases x
  ·exact⟨_,_,rfl,⟨by simp,by simp[Zmc]⟩⟩
  ·exact⟨_,_,rfl,h⟩
 ·exact⟨_,_,rfl,h⟩
theorem Qdb{K:Nat}{r:Qh}(h:Zoy K r.2.1)(hK:K≤1000000)(m:Int):
  ∃s y,Zkd r m=some ((s,y,()),())∧Zoy K y.2.1∧s.length≤K:=by
 unfold Zkd
 obtain⟨q,e2⟩:=Zkq h hK
 obtain⟨s,b,e3,k3,k4⟩:=Q1l h hK m
 rw[Qua h hK,e2,e3]
 simp only[Option.bind_some]
 cases q
 ·exact⟨_,_,rfl,h,by simp⟩
 ·simp only[Bool.not_true,cond_false]
  cases r.1==(4:Int)
  ·rw[cond_false]
   unfold Zfr
   generalize ((_&&_):Bool)=x
   cases x
   ·exact⟨_,_,rfl,k3,k4⟩
   ·exact⟨_,_,rfl,k3,k4⟩
  ·exact⟨_,_,rfl,h,by simp⟩
theorem Zrw(n a b:Int):Zu n a b=some (decide (n≥a)&&decide (n≤b),()):=rfl
theorem Q3r(n:Int): ∃b,Za8 n=some (b,()):=⟨_,rfl⟩
theorem Zo8(c:Zo0): ∃b,Zbk c=some (b,()):=by
 obtain⟨b,h⟩:=Q3r c.1
 unfold Zbk
 simp only[h,Zrw,Ks,Option.bind_some]
 exact⟨_,rfl⟩
theorem Ziu(c:Zeo): ∃b,Y0 c=some (b,()):=by
 unfold Y0
 simp only[Zcx,Zrw,Ks,Option.bind_some]
 exact⟨_,rfl⟩
theorem Zo9(w:Jq): ∃b,J5 w=some (b,()):=by
 unfold J5
 simp only[Zrw,Ks,Option.bind_some]
 exact⟨_,rfl⟩
theorem Ztu(p:Xl): ∃b,Zca p=some (b,()):=by
 unfold Zca
 simp only[Zrw,Option.bind_some]
 exact⟨_,rfl⟩
theorem Qsn(n:Int): ∃c b,Zg9 n=some (c,b,()):=by
 unfold Zg9
 simp only[Zcx,Option.bind_some,Ks]
 exact⟨_,_,rfl⟩
theorem Qgk(n m:Int): ∃c b,Zhb n m=some (c,b,()):=by
 unfold Zhb
 simp only[Zrw,Option.bind_some,Ks]
 exact⟨_,_,rfl⟩
theorem Qti(s:Bool)(n:Int): ∃b,Zdu s n=some (b,()):=by
 unfold Zdu Va Zd5 Zi5
 simp only[Zcx,Option.bind_some,Ks]
 exact⟨_,rfl⟩
theorem Z6m(s:Bool)(n:Int): ∃b,Jr s n=some (b,()):=by
 unfold Jr Va Zd5 Zi5
 simp only[Zcx,Option.bind_some,Ks]
 exact⟨_,rfl⟩
structure Jn(K:Nat)(s:Zn):Prop where
 snd:Zay K s.2.1
 rcv:Zoy K s.2.2.2.1.2.1
theorem Jn.mono{K K':Nat}{s:Zn}(h:Jn K s)(hK:K≤K'):Jn K' s:=⟨h.snd.mono (by omega),h.rcv.mono hK⟩
theorem Zwh{K:Nat}{s:Zn}(h:Jn K s)(hK:K≤1000000): ∃b,J4 s=some (b,()):=by
 obtain⟨b1,e1,-⟩:=Ze1 h.snd (by omega)
 obtain⟨b2,e2⟩:=Ziu s.2.2.1
 obtain⟨b3,e3⟩:=Zkq h.rcv hK
 obtain⟨b4,e4⟩:=Zo9 s.2.2.2.2.1
 obtain⟨b5,e5⟩:=Ztu s.2.2.2.2.2.1
 unfold J4
 simp only[e1,e2,e3,e4,e5,Zcx,Ks,Option.bind_some]
 exact⟨_,rfl⟩
theorem Q01(v:Bool)(i:Int)(o p:Zo0)(ho:o.1=4∨o.1=8∨o.1=16): ∃s b,Zbn v i o p=some (s,b,())∧Jn 0 s:=by
 obtain⟨b1,e1⟩:=Zo8 o
 obtain⟨b2,e2⟩:=Zo8 p
 obtain⟨b3,e3⟩:=Qti v i
 obtain⟨b4,e4⟩:=Z6m v i
 obtain⟨s,e5,h5⟩:=Q00 ho
 obtain⟨c6,b6,e6⟩:=Qsn p.2.1
 obtain⟨c7,b7,e7⟩:=Qgk o.2.1 o.2.2.1
 obtain⟨r,e8,h8⟩:=Qi6
 unfold Zbn Vy
 simp only[e1,e2,e3,e4,e5,e6,e7,e8,Zcx,Ks,Option.bind_some]
 generalize ((_||_)||_:Bool)=x
 cases x
 ·refine⟨_,_,rfl,?_⟩
  exact⟨h5,h8⟩
 ·refine⟨_,_,rfl,?_⟩
  exact⟨{cells:=(Nat.zero_le 64),e0:=Int.le_refl _,eK:=Int.le_refl _,pend:=Zjo _,flight:=Zjo _,acked:=Zjo _},⟨Nat.le_refl _,(by show Zmc []≤0;simp[Zmc])⟩⟩
theorem Q47(c:Qm)(hc:Kv c): ∃y c',Zl7 c=some ((y,()),(c',()))∧Kv c'∧(y.1=4∨y.1=8∨y.1=16):=by
 unfold Zl7 Zqm
 obtain⟨x,c1,e1,k1,-,-⟩:=Ztm c 3 hc
 simp only[e1,Option.bind_some]
 cases x==(0:Int)
 ·rw[cond_false]
  cases x==(1:Int)
  ·exact⟨_,_,rfl,k1,.inr (.inr rfl)⟩
  ·exact⟨_,_,rfl,k1,.inr (.inr rfl)⟩
 ·exact⟨_,_,rfl,k1,.inr (.inl rfl)⟩
theorem Qb7{K:Nat}{s:Zn}(h:Jn K s)(hK:K≤1000000):Zc0 s=some (s,()):=by
 unfold Zc0
 rw[Ztv h.snd (by omega),Qua h.rcv hK];rfl
theorem Q2n(l:List Zn)(n:Int)(hl:l.length≤1000000): ∀(N i:Nat),l.length-i<N→i≤l.length→ ∃v,Zdz N l n (i:Int)=some (v,())∧(v<0∨v<l.length)∧(v<0→ ∀s∈l.drop i,s.1≠n)∧(0≤v→(l.getD v.toNat Zz).1=n)
 |0,_,h,_=>by omega
 |N+1,i,hN,hi=>by
  unfold Zdz
  by_cases h:i<l.length
  ·rw[Zm (Zj (by omega)),Zc (by omega),show(i:Int).toNat=i from rfl]
   by_cases e: (l.getD i Zz).1=n
   ·rw[Zm (beq_iff_eq.2 e)]
    exact⟨_,rfl,by omega,fun h=>by omega,fun _=>e⟩
   ·rw[Zi (beq_eq_false_iff_ne.2 e),Zo h (by omega)]
    obtain⟨v,k1,k2,k3,k4⟩:=Q2n l n hl N (i+1) (by omega) (by omega)
    refine⟨v,k1,k2,fun hv s hs=> ?_,k4⟩
    rw[Zdc (d:=Zz) h]at hs
    rcases List.mem_cons.1 hs with rfl|hs
    ·exact e
    ·exact k3 hv s hs
  ·rw[Zi (Zk (by omega))]
   refine⟨_,rfl,by omega,fun _ s hs=> ?_,fun h=>by omega⟩
   rw[List.drop_eq_nil_of_le (by omega)]at hs;cases hs
theorem Z7j(l:List Zn)(n:Int)(hl:l.length≤1000000): ∃v,Ze6 l n=some (v,())∧(v<0∨v<l.length)∧(v<0→ ∀s∈l,s.1≠n)∧(0≤v→(l.getD v.toNat Zz).1=n):=by
 unfold Ze6
 exact Q2n l n hl _ 0 (by unfold Zg3;omega) (by omega)
structure Zrp(K:Nat)(l:List Zn):Prop where
 len:l.length≤K
 all: ∀s∈l,Jn K s
theorem Zrp.mono{K K':Nat}{l:List Zn}(h:Zrp K l)(hK:K≤K'):Zrp K' l:=⟨Nat.le_trans h.len hK,fun s hs=>(h.all s hs).mono hK⟩
theorem Q6o{K:Nat}{l:List Zn}{s:Zn}(h:Zrp K l)(hs:Jn K s)(hK:K≤500000)(a:Int): ∀(N i:Nat) (out:List Zn) (p:Bool),l.length-i<N→i≤l.length→(∀x∈out,Jn K x)→out.length≤i+ (if p then 1 else 0)→
  ∃y,Ju N l s out a p (i:Int)=some (y,())∧y.length≤l.length+1∧ ∀x∈y,Jn K x
 |0,_,_,_,h,_,_,_=>by omega
 |N+1,i,out,p,hN,hi,ho,hl=>by
  have hlen:=h.len
  have ho':out.length≤i+1:=by split at hl<;>omega
  have app: ∀{o:List Zn} {x},(∀x∈o,Jn K x)→Jn K x→ ∀z∈o++ [x],Jn K z:=fun ho hx z hz=>by
   rcases List.mem_append.1 hz with hz|hz
   ·exact ho z hz
   ·rw[List.mem_singleton.1 hz];exact hx
  unfold Ju
  by_cases hh:i<l.length
  ·have hm:=h.all _ (Qx (d:=Zz) hh)
   rw[Zm (Zj (by omega)),Zc (by omega),show(i:Int).toNat=i from rfl,Qb7 hm (by omega),Qb7 hs (by omega)]
   simp only[Option.bind_some]
   have j: ∀(o:List Zn) (q:Bool) x,(∀x∈o,Jn K x)→Jn K x→o.length≤i+ (if q then 1 else 0)→
     ∃y,Zb2 (fun v=>Ju N v.1 v.2.1 v.2.2.1 v.2.2.2.1 v.2.2.2.2.1 v.2.2.2.2.2.1) l s o a q (i:Int) x=some (y,())∧y.length≤l.length+1∧ ∀x∈y,Jn K x:=by
    intro o q x h1 h2 h3
    have h3':o.length≤i+1:=by split at h3<;>omega
    unfold Zb2
    rw[Zc (by unfold Qv;simp only[List.length_singleton];omega),Zo hh (by omega)]
    exact Q6o h hs hK a N (i+1) (o++ [x]) q (by omega) (by omega) (app h1 h2) (by simp only[List.length_append,List.length_singleton];omega)
   cases (i:Int)==a
   ·rw[cond_false,Zc (fun _=>by omega)]
    cases p
    ·simp only[Bool.not_false,Bool.true_and]
     cases decide ((l.getD i Zz).1>s.1)
     ·exact j _ _ _ ho hm hl
     ·rw[cond_true,Zc (by unfold Qv;simp only[List.length_singleton];omega)]
      exact j _ _ _ (app ho hs) hm (by simp at hl⊢;omega)
    ·exact j _ _ _ ho hm hl
   ·exact j _ _ _ ho hs hl
  ·rw[Zi (Zk (by omega)),Qb7 hs (by omega)]
   cases p
   ·simp only[Bool.not_false,cond_true,Option.bind_some]
    rw[Zc (by unfold Qv;simp only[List.length_singleton];omega)]
    exact⟨_,rfl,by simp at hl⊢;omega,app ho hs⟩
   ·exact⟨_,rfl,by simp at hl;omega,ho⟩
theorem Qhl{K:Nat}{l:List Zn}{s:Zn}(h:Zrp K l)(hs:Jn K s)(hK:K≤500000): ∃y,Xp l s=some (y,())∧y.length≤l.length+1∧ ∀x∈y,Jn K x:=by
 unfold Xp
 obtain⟨v,e,-⟩:=Z7j l s.1 (by have:=h.len;omega)
 rw[e,Option.bind_some]
 exact Q6o h hs hK _ _ 0 [] _ (by unfold Zil;omega) (by omega) (by simp) (by simp)
theorem Q39:Jn 0 (((0:Int),(((0:Int),(((0:Int),((0:Int),((0:Int),(([]:List Int),())))),(([]:List Zd),(([]:List Zd),(([]:List Zd),((0:Int),((0:Int),((0:Int),((0:Int),()))))))))),(((0:Int),((0:Int),((0:Int),((0:Int),())))),(((0:Int),(((0:Int),(([]:List Zki),())),((0:Int),((0:Int),((0:Int),()))))),(((0:Int),((0:Int),((0:Int),((0:Int),((0:Int),((0:Int),())))))),(((0:Int),(false,())),(false,(false,(false,(false,(false,(false,((0:Int),(false,())))))))))))))):Zn):=
 ⟨{cells:=(by simp),e0:=Int.le_refl _,eK:=Int.le_refl _,pend:=Zjo _,flight:=Zjo _,acked:=Zjo _},⟨by simp,by simp[Zmc]⟩⟩
theorem Q30{K:Nat}{c:Zg}(h:Zrp K c.2.2.2.1)(hK:K≤1000000)(n:Int): ∃s b,Qu c n=some (s,b,())∧Jn K s:=by
 unfold Qu
 obtain⟨v,e,h1,-⟩:=Z7j c.2.2.2.1 n (by have:=h.len;omega)
 rw[e,Option.bind_some]
 by_cases hv:v<0
 ·rw[Zm (Zj hv)]
  exact⟨_,_,rfl,Q39.mono (by omega)⟩
 ·have hm:=h.all _ (Qx (l:=c.2.2.2.1) (i:=v.toNat) (d:=Zz) (by omega))
  rw[Zi (Zk hv),Zc (by simp only;omega),Qb7 hm hK]
  exact⟨_,_,rfl,hm⟩
theorem Qsi(n:Int): ∀(N m K:Nat) (c:Zg),m<N→K+m≤500000→(c.2.1.1=4∨c.2.1.1=8∨c.2.1.1=16)→Zrp K c.2.2.2.1→
  ∃l,Q9 N c n ((m:Int)-1)=some ((),((c.1,(c.2.1,(c.2.2.1,(l,c.2.2.2.2)))),()))∧Zrp (K+m) l
 |0,_,_,_,h,_,_,_=>by omega
 |N+1,0,K,c,_,_,_,h=>by
  unfold Q9
  exact⟨c.2.2.2.1,rfl,h⟩
 |N+1,m+1,K,c,hN,hK,hc,h=>by
  unfold Q9
  simp only[Vp,Vd]
  rw[Zm (Zj (by omega))]
  obtain⟨s,b,e1,h1⟩:=Q01 c.1 (IntKind.i64.wrap (n- (IntKind.i64.wrap ((4:Int)* (((m+1:Nat):Int)-1))))) c.2.1 c.2.2.1 hc
  obtain⟨y,e2,h2,h3⟩:=Qhl h (h1.mono (by omega)) (by omega)
  rw[e1,Option.bind_some]
  unfold Yv
  have e:IntKind.i64.wrap (((m+1:Nat):Int)-1-1)=(m:Int)-1:=by rw[Zv (by omega) (by omega)];omega
  rw[e2,Option.bind_some,e]
  have hy:Zrp (K+1) y:=⟨by have:=h.len;omega,fun x hx=>(h3 x hx).mono (by omega)⟩
  obtain⟨l,k1,k2⟩:=Qsi n N m (K+1) (c.1,(c.2.1,(c.2.2.1,(y,c.2.2.2.2)))) (by omega) (by omega) hc hy
  exact⟨l,k1,k2.mono (by omega)⟩
theorem Q9u{K:Nat}{c:Zg}(n:Int)(m:Nat)(hK:K+m≤500000)(hc:c.2.1.1=4∨c.2.1.1=8∨c.2.1.1=16)(h:Zrp K c.2.2.2.1):
  ∃l,Zl8 c n (m:Int)=some ((),((c.1,(c.2.1,(c.2.2.1,(l,c.2.2.2.2)))),()))∧Zrp (K+m) l:=by
 unfold Zl8
 rw[Zv (by omega) (by omega)]
 exact Qsi n _ m K c (by unfold Zfv;omega) hK hc h
theorem Q41(n:Int): ∃v,Zpq n=some (v,()):=by
 unfold Zpq
 rw[Zcx,Option.bind_some,Zc (by omega),Ks]
 exact⟨_,rfl⟩
theorem Zq4(c:Zeo): ∃b,We c=some (b,()):=by
 unfold We
 simp only[Zrw,Ks,Option.bind_some]
 exact⟨_,rfl⟩
theorem Zu1(c:Zjp): ∃b,Za5 c=some (b,()):=by
 unfold Za5
 simp only[Zrw,Ks,Option.bind_some]
 exact⟨_,rfl⟩
theorem Q58{K:Nat}{l:List Zn}(h:Zrp K l)(hK:K≤1000000): ∀(N i:Nat),l.length-i<N→i≤l.length→ ∃b,X6 N l (i:Int)=some (b,())
 |0,_,h,_=>by omega
 |N+1,i,hN,hi=>by
  have hlen:=h.len
  unfold X6
  by_cases hh:i<l.length
  ·obtain⟨b,e⟩:=Zwh (h.all _ (Qx (d:=Zz) hh)) hK
   rw[Zm (Zj (by omega)),Zc (by omega),show(i:Int).toNat=i from rfl,e,Option.bind_some,Zc (fun _ _=>by omega),
    Zc (fun _ h=>by have:=of_decide_eq_true h;rw[Zv (by omega) (by omega)];omega),Zo hh (by omega)]
   exact Qtd (P:=fun m b=>m=some (b,())) ⟨_,rfl⟩ (Q58 h hK N (i+1) (by omega) (by omega))
  ·rw[Zi (Zk (by omega))]
   exact⟨_,rfl⟩
theorem Zn2{K:Nat}{l:List Zn}(h:Zrp K l)(hK:K≤1000000): ∃b,Yu l=some (b,()):=by
 unfold Yu
 exact Q58 h hK _ 0 (by unfold Vv;omega) (by omega)
theorem Zwy{K:Nat}{l:List Zn}(h:Zrp K l)(hK:K≤1000000): ∃v,Zeg l=some (v,()):=by
 obtain⟨b,e⟩:=Zn2 h hK
 have hlen:=h.len
 have lp: ∀(N i:Nat) (n:Int),l.length-i<N→i≤l.length→ ∃v,Jw N l n (i:Int)=some (v,()):=by
  intro N
  induction N with
  |zero=>intro i n h;omega
  |succ N ih=>
   intro i n hN hi
   unfold Jw
   rw[e,Ks,Option.bind_some]
   by_cases hh:i<l.length
   ·rw[Zc (by omega),Zo hh (by omega)]
    exact Qtd (P:=fun m b=>m=some (b,())) (ih (i+1) _ (by omega) (by omega)) ⟨_,rfl⟩
   ·rw[Zk (by omega)]
    exact⟨_,rfl⟩
 unfold Zeg
 exact lp _ 0 0 (by unfold Y9;omega) (by omega)
theorem Zwx{K:Nat}{l:List Zn}(h:Zrp K l)(hK:K≤1000000): ∃v,Zef l=some (v,()):=by
 obtain⟨b,e⟩:=Zn2 h hK
 have hlen:=h.len
 have lp: ∀(N i:Nat) (n:Int),l.length-i<N→i≤l.length→ ∃v,Jv N l n (i:Int)=some (v,()):=by
  intro N
  induction N with
  |zero=>intro i n h;omega
  |succ N ih=>
   intro i n hN hi
   unfold Jv
   rw[e,Ks,Option.bind_some]
   by_cases hh:i<l.length
   ·rw[Zc (by omega),Zo hh (by omega)]
    exact Qtd (P:=fun m b=>m=some (b,())) (ih (i+1) _ (by omega) (by omega)) ⟨_,rfl⟩
   ·rw[Zk (by omega)]
    exact⟨_,rfl⟩
 unfold Zef
 exact lp _ 0 0 (by unfold Y8;omega) (by omega)
def T{α:Type}(m:Option α)(Q:α→Prop):Prop:= ∃y,m=some y∧Q y
abbrev TT{α:Type}(m:Option α):Prop:=T m fun _=>True
section
variable {α β:Type} {m n:Option α} {f:α→Option β} {Q:α→Prop} {R:β→Prop}
theorem T.bind(h:T m Q)(k: ∀y,Q y→T (f y) R):T (Option.bind m f) R:=by
 obtain⟨y,e,hy⟩:=h;rw[e];exact k y hy
theorem T.pure{y:α}(h:Q y):T (some y) Q:=⟨y,rfl,h⟩
theorem T.tt{y:α}:TT (some y):=⟨y,rfl,trivial⟩
theorem T.ite{c:Bool}(h1:c=true→T m Q)(h2:c=false→T n Q):T (bif c then m else n) Q:=by
 cases c
 ·exact h2 rfl
 ·exact h1 rfl
theorem T.if{c:Bool}(h1:T m Q)(h2:T n Q):T (bif c then m else n) Q:=T.ite (fun _=>h1) fun _=>h2
theorem T.guard{p:Prop}(hp:p)(h:T m Q):T (Zf p m) Q:=by rw[Zc hp];exact h
theorem T.mono{Q':α→Prop}(h:T m Q)(k: ∀y,Q y→Q' y):T m Q':=by
 obtain⟨y,e,hy⟩:=h;exact⟨y,e,k y hy⟩
theorem T.of{y:α}(e:m=some y)(h:Q y):T m Q:=⟨y,e,h⟩
end
theorem tt1{α:Type}{m:Option (α×Unit)}(h: ∃b,m=some (b,())):TT m:=by obtain⟨b,e⟩:=h;exact⟨_,e,trivial⟩
def FOK(f:Zh):Prop:=f.2.2.2.1.length≤1000
def Qqs(l:List Zh):Prop:=l.length≤1000∧ ∀f∈l,FOK f
def Qu8(K:Nat)(l:List Q4):Prop:=l.length≤K∧ ∀p∈l,Qqs p.2.1
theorem Qu8.mono{K K':Nat}{l:List Q4}(h:Qu8 K l)(hK:K≤K'):Qu8 K' l:=⟨Nat.le_trans h.1 hK,h.2⟩
structure Qa(K:Nat)(c:Zg):Prop where
 str:Zrp K c.2.2.2.1
 pk:Qu8 K c.2.2.2.2.2.2.2.2.2.2.2.2.2.2.2.1
theorem Qa.mono{K K':Nat}{c:Zg}(h:Qa K c)(hK:K≤K'):Qa K' c:=⟨h.str.mono hK,h.pk.mono hK⟩
theorem Qso{K:Nat}{l:List Q4}(h:Qu8 K l)(hK:K≤1000000): ∀(N i:Nat),l.length-i<N→i≤l.length→Zej N l (l.take i) (i:Int)=some (l,())
 |0,_,h,_=>by omega
 |N+1,i,hN,hi=>by
  have hl:=h.1
  unfold Zej
  by_cases hh:i<l.length
  ·have hm:=(h.2 _ (Qx (d:=Qz) hh)).1
   rw[Zm (Zj (by omega)),Zc (by omega),Zc (by omega),show(i:Int).toNat=i from rfl,Zc (by unfold Qv;simp only[List.length_nil];omega)]
   simp only[List.nil_append]
   rw[Zc (by unfold Qv;simp only[List.length_take,List.length_singleton];omega),Zo hh (by omega)]
   have e:l.take i++ [((l.getD i Qz).1,((l.getD i Qz).2.1,()))]=l.take (i+1):=by
    rw[List.take_succ_eq_append_getElem hh,List.getD_eq_getElem?_getD,List.getElem?_eq_getElem hh];rfl
   rw[e]
   exact Qso h hK N (i+1) (by omega) (by omega)
  ·rw[Zi (Zk (by omega)),List.take_of_length_le (by omega)]
theorem Qya{K:Nat}{l:List Q4}(h:Qu8 K l)(hK:K≤1000000):Znx l=some (l,()):=by
 unfold Znx
 exact Qso h hK _ 0 (by unfold Zho;omega) (by omega)
theorem Qsh{K:Nat}{c:Zg}(h:Qa K c)(hK:K≤1000000)(t:Zg): ∀(N i:Nat),c.2.2.2.1.length-i<N→i≤c.2.2.2.1.length→
  Zjb N c t (c.1,(c.2.1,(c.2.2.1,(c.2.2.2.1.take i,c.2.2.2.2)))) (i:Int)=some (c,())
 |0,_,h,_=>by omega
 |N+1,i,hN,hi=>by
  have hl:=h.str.len
  unfold Zjb
  by_cases hh:i<c.2.2.2.1.length
  ·rw[Zm (Zj (by omega)),Zc (by omega),show(i:Int).toNat=i from rfl,Qb7 (h.str.all _ (Qx (d:=Zz) hh)) hK,Option.bind_some,
    Zc (by unfold Qv;simp only[List.length_take,List.length_singleton];omega),Zo hh (by omega)]
   have e:c.2.2.2.1.take i++ [c.2.2.2.1.getD i Zz]=c.2.2.2.1.take (i+1):=by
    rw[List.take_succ_eq_append_getElem hh,List.getD_eq_getElem?_getD,List.getElem?_eq_getElem hh];rfl
   simp only[e]
   exact Qsh h hK t N (i+1) (by omega) (by omega)
  ·rw[Zi (Zk (by omega)),List.take_of_length_le (by omega),Qya h.pk hK];rfl
theorem Kg{K:Nat}{c:Zg}(h:Qa K c)(hK:K≤1000000):Zw c=some (c,()):=by
 unfold Zw
 exact Qsh h hK _ _ 0 (by unfold Zlc;omega) (by omega)
theorem Zu2{f:Zh}(h:FOK f):TT (J9 f):=⟨_,Qdn f (by unfold FOK at h;omega),trivial⟩
theorem Qgh{l:List Zh}(h:Qqs l):TT (Zhn l):=by
 have lp: ∀(N i:Nat),l.length-i<N→i≤l.length→TT (Wh N l (i:Int)):=by
  intro N
  induction N with
  |zero=>intro i h;omega
  |succ N ih=>
   intro i hN hi
   have hl:=h.1
   unfold Wh
   refine T.ite (fun hc=> ?_) fun _=>T.tt
   have hc:=of_decide_eq_true hc
   refine T.guard (by omega) ((Zu2 (h.2 _ (Qx (by omega)))).bind fun t _=>T.if T.tt ?_)
   rw[Zo (m:=l.length) (by omega) (by omega)]
   exact ih (i+1) (by omega) (by omega)
 unfold Zhn
 exact lp _ 0 (by unfold Jm;omega) (by omega)
theorem tIn(n a b:Int):TT (Zu n a b):=⟨_,Zrw n a b,trivial⟩
theorem Qqj(n:Int):TT (Qd n):=⟨_,Zcx n,trivial⟩
theorem Qio{K:Nat}{l:List Zn}(h:Zrp K l)(hK:K≤1000000):T (Yu l) fun r=>r.1=true→l.length≤24:=by
 have hlen:=h.len
 have lp: ∀(N i:Nat),l.length-i<N→i≤l.length→T (X6 N l (i:Int)) fun r=>r.1=true→l.length≤24:=by
  intro N
  induction N with
  |zero=>intro i h;omega
  |succ N ih=>
   intro i hN hi
   unfold X6
   refine T.ite (fun hc=> ?_) fun _=>T.pure fun h=>by have:=of_decide_eq_true h;omega
   have hc:=of_decide_eq_true hc
   refine T.guard (by omega) ((tt1 (Zwh (h.all _ (Qx (by omega))) hK)).bind fun t _=>T.guard (fun _ _=>by omega) (T.guard (fun _ h=> ?_) (T.if (T.pure fun h=>by cases h) ?_)))
   ·have:=of_decide_eq_true h
    rw[Zv (by omega) (by omega)];omega
   ·rw[Zo (m:=l.length) (by omega) (by omega)]
    exact ih (i+1) (by omega) (by omega)
 unfold Yu
 exact lp _ 0 (by unfold Vv;omega) (by omega)
theorem Qzo{K:Nat}{c:Zg}(h:Qa K c)(hK:K≤1000000):T (Z6 c) fun r=>r.1=true→c.2.2.2.1.length≤24:=by
 have lp: ∀(N i:Nat),c.2.2.2.2.2.2.2.2.2.2.2.2.2.2.2.1.length-i<N→i≤c.2.2.2.2.2.2.2.2.2.2.2.2.2.2.2.1.length→TT (K7 N c (i:Int)):=by
  intro N
  induction N with
  |zero=>intro i h;omega
  |succ N ih=>
   intro i hN hi
   have hl:=h.pk.1
   unfold K7
   refine T.ite (fun hc=> ?_) fun _=> ?_
   ·have hc:=of_decide_eq_true hc
    refine T.guard (by omega) ((tIn _ _ _).bind fun t _=>T.guard (fun _ _=>by omega) (T.guard (fun _ h=> ?_) (T.guard (fun _=>by omega) (T.bind (Q:=fun _=>True) (T.if T.tt (Qgh (h.pk.2 _ (Qx (by omega))))) fun t2 _=>T.if T.tt ?_))))
    ·have:=of_decide_eq_true h
     rw[Zv (by omega) (by omega)];omega
    ·rw[Zo (m:=c.2.2.2.2.2.2.2.2.2.2.2.2.2.2.2.1.length) (by omega) (by omega)]
     exact ih (i+1) (by omega) (by omega)
   ·exact(tIn _ _ _).bind fun t _=>T.bind (Q:=fun _=>True) (T.if (tIn _ _ _) T.tt) fun t _=>T.bind (Q:=fun _=>True) (T.if (tIn _ _ _) T.tt) fun t _=>T.bind (Q:=fun _=>True) (T.if (tIn _ _ _) T.tt) fun t _=>
     T.bind (Q:=fun _=>True) (T.if (tt1 (Zwy h.str hK)) T.tt) fun t _=>T.bind (Q:=fun _=>True) (T.if (tt1 (Zwx h.str hK)) T.tt) fun t _=>T.tt
 unfold Z6
 have B: ∀{α β:Type} {b:Bool} {m n:Option α} {f:α→Option β} {R:β→Prop},TT m→TT n→(∀y,T (f y) R)→T (Option.bind (bif b then m else n) f) R:=fun h1 h2 h3=>(T.if h1 h2).bind fun y _=>h3 y
 exact(tt1 (Zo8 _)).bind fun t _=>B T.tt (tt1 (Zo8 _)) fun t=>T.bind (Q:=fun r=>r.1=true→c.2.2.2.1.length≤24) (T.if (T.pure fun h=>by cases h) (Qio h.str hK)) fun t hs=>B T.tt (tt1 (Ziu _)) fun t=>B T.tt (tt1 (Zo9 _)) fun t=>B T.tt (tt1 (Zu1 _)) fun t=>B T.tt (tt1 (Zu1 _)) fun t=>B T.tt (tt1 (Zq4 _)) fun t=>B T.tt (tt1 (Zq4 _)) fun t=>
  T.ite (fun _=>T.pure fun h=>by cases h) fun hc=>(lp _ 0 (by unfold Kj;omega) (by omega)).mono fun _ _ _=>hs (by simp at hc;simp[hc])
theorem Zn5{K:Nat}{c:Zg}(h:Qa K c)(hK:K≤1000000):TT (Z6 c):=(Qzo h hK).mono fun _ _=>trivial
theorem Qo4{K:Nat}{c:Zg}(h:Qa K c)(hK:K≤1000000):T (Yr c) fun r=>r.1=true→c.2.2.2.1.length≤24:=by
 unfold Yr
 exact(Qzo h hK).bind fun t ht=>T.bind (Q:=fun _=>True) (T.if ⟨_,rfl,trivial⟩ T.tt) fun t2 _=>T.pure fun h=>ht (by simp at h;exact h.1)
theorem Zls{K:Nat}{c:Zg}(h:Qa K c)(hK:K≤1000000):TT (Yr c):=(Qo4 h hK).mono fun _ _=>trivial
theorem Xab(n:Int):T (Za8 n) fun r=>r.1=true→0<n∧n≤64:=⟨_,rfl,fun h=>by simp at h;omega⟩
theorem Qyj(n:Int):T (Zha n) fun r=>Zay 0 r.1:=by
 unfold Zha Ztb
 have z:Zay 0 Zc5:={cells:=(by simp[Zc5]),e0:=Int.le_refl _,eK:=Int.le_refl _,pend:=Zjo _,flight:=Zjo _,acked:=Zjo _}
 refine T.bind (Q:=fun r=>r.2.1=true→r.1.2.2.2.1.length≤64∧r.1.2.2.1=0) ((Xab n).bind fun t ht=>T.ite (fun _=>T.pure fun h=>by cases h) fun hc=> ?_) fun t ht=>T.ite (fun _=>T.pure z) fun hc=>T.pure ?_
 ·have:=ht (by simpa using hc)
  exact T.guard (by unfold Qv;omega) (T.pure fun _=>⟨by simp;omega,rfl⟩)
 ·have:=ht (by simpa using hc)
  exact {cells:=this.1,e0:=by simp only[this.2];omega,eK:=by simp only[this.2];omega,pend:=Zjo _,flight:=Zjo _,acked:=Zjo _}
theorem Qpd(v:Bool)(i:Int)(o p:Zo0):T (Zbn v i o p) fun r=>Jn 0 r.1:=by
 obtain⟨b1,e1⟩:=Zo8 o
 obtain⟨b2,e2⟩:=Zo8 p
 obtain⟨b3,e3⟩:=Qti v i
 obtain⟨b4,e4⟩:=Z6m v i
 obtain⟨⟨s,b5,u⟩,e5,h5⟩:=Qyj o.1
 obtain⟨c6,b6,e6⟩:=Qsn p.2.1
 obtain⟨c7,b7,e7⟩:=Qgk o.2.1 o.2.2.1
 obtain⟨r,e8,h8⟩:=Qi6
 unfold Zbn Vy
 simp only[e1,e2,e3,e4,e5,e6,e7,e8,Zcx,Ks,Option.bind_some]
 generalize ((_||_)||_:Bool)=x
 cases x
 ·exact T.pure (by exact⟨h5,h8⟩)
 ·exact T.pure Q39
theorem Q7l(v:Bool)(n:Int):TT (Zd5 v n):=by
 unfold Zd5 Zi5
 simp only[Zcx,Option.bind_some,Ks]
 exact⟨_,rfl,trivial⟩
theorem Q52(n:Int):TT (Va n):=by
 unfold Va
 simp only[Zcx,Option.bind_some]
 exact⟨_,rfl,trivial⟩
theorem Q03(c:Zjp):TT (Zre c):=by
 unfold Zre
 exact(tt1 (Zu1 c)).bind fun t _=>T.if T.tt (T.if T.tt T.tt)
theorem Q5h(n:Int)(s u:Bool):TT (Zvq n s u):=by
 unfold Zvq
 have j: ∀u i,TT (Zk3 u i):=fun u i=>by unfold Zk3;exact T.if T.tt T.tt
 exact(tIn _ _ _).bind fun t _=>T.if T.tt (T.guard (by omega) (T.if (j _ _) (j _ _)))
theorem Yo{K K':Nat}{l:List Zn}{s:Zn}(h:Zrp K l)(hs:Jn K' s)(hk:K≤K')(hK:K'+1≤500000):T (Xp l s) fun r=>Zrp (K'+1) r.1:=by
 obtain⟨y,e,h1,h2⟩:=Qhl (h.mono hk) hs (by omega)
 have:=h.len
 exact⟨_,e,⟨by simp only;omega,fun x hx=>(h2 x hx).mono (by omega)⟩⟩
theorem Zc4{K:Nat}{c:Zg}(h:Qa K c)(hK:K≤1000000)(n:Int):T (Qu c n) fun r=>Jn K r.1:=by
 obtain⟨s,b,e,hs⟩:=Q30 h.str hK n
 exact⟨_,e,hs⟩
theorem Qa.up{K K':Nat}{c:Zg}(h:Qa K c)(hk:K≤K'){l:List Zn}(hl:Zrp K' l):Qa K' (c.1,(c.2.1,(c.2.2.1,(l,c.2.2.2.2)))):=⟨hl,h.pk.mono hk⟩
theorem Qym{K:Nat}{c:Zg}(h:Qa K c)(hK:K+1≤500000)(u:Bool):T (Znt c u) fun r=>Qa (K+1) r.2.1:=by
 unfold Znt
 rw[Kg h (by omega),Option.bind_some]
 have j2: ∀u x t i b,Qa K x→T (Zee u c t x i b) fun r=>Qa (K+1) r.2.1:=fun u x t i b hx=>by
  unfold Zee
  exact T.if (T.pure (hx.mono (by omega))) ((Q5h _ _ _).bind fun t1 _=>(Qpd _ _ _ _).bind fun t2 h2=>(Yo hx.str (h2.mono (by omega)) (Nat.le_refl _) (by omega)).bind fun t3 h3=>T.pure (hx.up (by omega) h3))
 have j1: ∀u t n,T (Zed u c t c n) fun r=>Qa (K+1) r.2.1:=fun u t n=>by
  unfold Zed
  exact(Q03 _).bind fun t1 _=>T.if (j2 _ _ _ _ _ ⟨h.str,h.pk⟩) (j2 _ _ _ _ _ ⟨h.str,h.pk⟩)
 exact(Zls h (by omega)).bind fun t _=>T.if (T.pure (h.mono (by omega))) (T.if (j1 _ _ _) (j1 _ _ _))
theorem Qxe{K:Nat}{c:Zg}(h:Qa K c)(i:Int)(d:List UInt8)(hK:K+d.length+1≤500000):T (Zdl c i d) fun r=>Qa (K+d.length+1) r.2.1:=by
 unfold Zdl
 rw[Kg h (by omega),Option.bind_some]
 refine(Zc4 h (by omega) i).bind fun s hs=>(Zls h (by omega)).bind fun t _=>T.if (T.pure (h.mono (by omega))) ?_
 obtain⟨x,n,e,h1⟩:=Qjl hs.snd d (by omega)
 rw[e,Option.bind_some]
 exact(Yo h.str (K':=K+d.length) (by exact⟨h1.mono (by omega),hs.rcv.mono (by omega)⟩) (by omega) (by omega)).bind fun t3 h3=>T.pure (h.up (by omega) h3)
theorem Qtw{K:Nat}{c:Zg}(h:Qa K c)(hK:K+1≤500000)(i:Int):T (Zkb c i) fun r=>Qa (K+1) r.1:=by
 unfold Zkb
 rw[Kg h (by omega),Option.bind_some]
 refine(Zc4 h (by omega) i).bind fun s hs=>(Zls h (by omega)).bind fun t _=>T.if (T.pure (h.mono (by omega))) ?_
 obtain⟨x,ok,e,h1⟩:=Qvi hs.snd (by omega)
 rw[e,Option.bind_some]
 exact T.if (T.pure (h.mono (by omega))) ((Yo h.str (by exact⟨h1,hs.rcv⟩) (Nat.le_refl _) (by omega)).bind fun t3 h3=>T.pure (h.up (by omega) h3))
theorem Qp1(w:Jq)(n:Int):TT (Zk7 w n):=by
 unfold Zk7
 exact(tt1 (Zo9 w)).bind fun t _=>T.if T.tt T.tt
theorem Qt8{K:Nat}{x:Zg}{s:Zn}(h:Qa K x)(hs:Jn K s)(n:Int):T (Zp0 x s n) fun r=>Qa K r.2.1∧Jn K r.2.2.1:=by
 unfold Zp0
 exact(Qp1 _ _).bind fun t _=>(Qp1 _ _).bind fun t2 _=>T.pure ⟨⟨h.str,h.pk⟩,⟨hs.snd,hs.rcv⟩⟩
theorem Q1c{K:Nat}{r:Qh}(h:Zoy K r.2.1)(hK:K≤1000000):TT (Zi4 r):=by
 unfold Zi4
 exact(tt1 (Zkq h hK)).bind fun t _=>T.tt
theorem Q25{K:Nat}{s:Zn}(h:Jn K s)(hK:K≤1000000):TT (Zk2 s):=by
 unfold Zk2 Znq Znp
 exact(tt1 (Zwh h hK)).bind fun t _=>T.bind (Q:=fun _=>True) (T.if T.tt T.tt) fun t _=>T.bind (Q:=fun _=>True) (T.if (T.bind (Q:=fun _=>True) (T.if T.tt (Q1c h.rcv hK)) fun t _=>T.tt) T.tt) fun t _=>T.tt
theorem Qr6(a:Zeo):TT (Zm1 a):=by
 unfold Zm1
 exact(tt1 (Zq4 a)).bind fun t _=>T.if T.tt T.tt
theorem Q48{K:Nat}{x:Zg}{s:Zn}(h:Qa K x)(hs:Jn K s)(hK:K≤1000000):T (Ztd x s) fun r=>Qa K r.2.1∧Jn K r.2.2.1:=by
 unfold Ztd
 exact T.bind (Q:=fun _=>True) (T.if T.tt (Q7l _ _)) fun t _=>T.bind (Q:=fun _=>True) (T.if T.tt (Q25 hs hK)) fun t _=>T.if (T.pure ⟨h,hs⟩) ((Q52 _).bind fun t _=>T.if ((Qr6 _).bind fun t _=>T.pure ⟨⟨h.str,h.pk⟩,⟨hs.snd,hs.rcv⟩⟩) ((Qr6 _).bind fun t _=>T.pure ⟨⟨h.str,h.pk⟩,⟨hs.snd,hs.rcv⟩⟩))
theorem Zx5{K K':Nat}{x:Zg}{s:Zn}(h:Qa K x)(hs:Jn K' s)(hk:K≤K')(hK:K'+1≤500000):T (Zc1 x s) fun r=>Qa (K'+1) r.2.1:=by
 unfold Zc1
 exact(Q48 (h.mono hk) hs (by omega)).bind fun t ht=>(Yo ht.1.str ht.2 (Nat.le_refl _) hK).bind fun t3 h3=>T.pure (ht.1.up (by omega) h3)
theorem Qyp{K:Nat}{c:Zg}(h:Qa K c)(hK:K+1≤500000)(i m:Int):T (Zcc c i m) fun r=>Qa (K+1) r.1.2.2.1:=by
 unfold Zcc
 rw[Kg h (by omega),Option.bind_some]
 refine(Zc4 h (by omega) i).bind fun s hs=>(Zls h (by omega)).bind fun t _=>T.if (T.pure (h.mono (by omega))) ?_
 obtain⟨d,r,e,h1,-⟩:=Qdb hs.rcv (by omega) m
 rw[e,Option.bind_some]
 have j: ∀t x s d r,Qa K x→Jn K s→T (Vl t x s d r) fun r=>Qa (K+1) r.1.2.2.1:=fun t x s d r hx hs=>by
  unfold Vl
  exact(Zx5 hx hs (Nat.le_refl _) hK).bind fun t3 h3=>T.pure h3
 exact T.if ((Qt8 h (by exact⟨hs.snd,h1⟩) _).bind fun t ht=>j _ _ _ _ _ ht.1 ht.2) (j _ _ _ _ _ h (by exact⟨hs.snd,h1⟩))
theorem Qww{K:Nat}{c:Zg}(h:Qa K c)(hK:K+1≤500000)(i k:Int):T (Zl5 c i k) fun r=>Qa (K+1) r.1.1:=by
 unfold Zl5
 rw[Kg h (by omega),Option.bind_some]
 refine(Zc4 h (by omega) i).bind fun s hs=>(Zls h (by omega)).bind fun t _=>T.if (T.pure (h.mono (by omega))) ?_
 obtain⟨x,ok,e,h1⟩:=Qje hs.snd k (by omega)
 rw[e,Option.bind_some]
 exact T.if (T.pure (h.mono (by omega))) ((Zx5 h (by exact⟨h1,hs.rcv⟩) (Nat.le_refl _) hK).bind fun t3 h3=>T.pure h3)
theorem Q2e(s:List UInt8)(hs:s.length≤1000000)(b:Int): ∀(N i:Nat) (out:List (List UInt8)) (p:List UInt8),s.length-i<N→i≤s.length→out.length≤i→p.length≤i→(∀x∈out,x.length≤i)→
  T (Wg N s b out p (i:Int)) fun r=>r.1.length≤s.length+1∧ ∀x∈r.1,x.length≤s.length
 |0,_,_,_,h,_,_,_,_=>by omega
 |N+1,i,out,p,hN,hi,ho,hp,hx=>by
  have app: ∀{k:Nat} {o:List (List UInt8)} {x},(∀x∈o,x.length≤k)→x.length≤k→ ∀z∈o++ [x],z.length≤k:=fun ho hx z hz=>by
   rcases List.mem_append.1 hz with hz|hz
   ·exact ho z hz
   ·rw[List.mem_singleton.1 hz];exact hx
  unfold Wg
  refine T.ite (fun hc=> ?_) fun _=>T.guard (by unfold Qv;simp only[List.length_singleton];omega) (T.pure ⟨by simp;omega,app (fun x h=>by have:=hx x h;omega) (by omega)⟩)
  have hc:i<s.length:=by have:=of_decide_eq_true hc;omega
  refine T.guard (by omega) (T.if (T.guard (by unfold Qv;simp only[List.length_singleton];omega) ?_) (T.guard ?_ (T.guard ?_ ?_)))
  ·unfold Zei
   rw[Zo hc (by omega)]
   exact Q2e s hs b N (i+1) _ _ (by omega) (by omega) (by simp;omega) (by simp) (app (fun x h=>by have:=hx x h;omega) (by omega))
  ·rw[Zo hc (by omega)];omega
  ·unfold W9;simp only[List.length_take,List.length_drop];rw[Zo hc (by omega)];omega
  ·unfold Zei
   rw[Zo hc (by omega)]
   exact Q2e s hs b N (i+1) _ _ (by omega) (by omega) (by simp only;omega) (by simp only[List.length_append,List.length_take,List.length_drop];omega) (fun x h=>by have:=hx x h;omega)
theorem Q92(s:List UInt8)(hs:s.length≤1000000)(b:Int):T (Zos s b) fun r=>r.1.length≤s.length+1∧ ∀x∈r.1,x.length≤s.length:=by
 unfold Zos
 exact Q2e s hs b _ 0 _ _ (by unfold Zgh;omega) (by omega) (by simp) (by simp) (by simp)
theorem Qz5: ∀(N:Nat) (s:List UInt8),s.length<N→s.length≤1000000→T (Zja N s) fun r=>r.1.length≤s.length
 |0,_,h,_=>by omega
 |N+1,s,hN,hs=>by
  unfold Zja
  refine T.guard (fun h=> ?_) (T.ite (fun hc=> ?_) fun _=>T.pure (Nat.le_refl _))
  ·have:=of_decide_eq_true h
   rw[Zv (by omega) (by omega)];omega
  ·have: (s.length:Int)>0:=by simp at hc;omega
   refine T.guard (by rw[Zv (by omega) (by omega)];omega) ((Qz5 N _ ?_ ?_).mono fun y hy=> ?_)
   all_goals (simp only[List.length_take,List.length_drop]at*;rw[Zv (by omega) (by omega)]at*;omega)
theorem Qz4: ∀(N:Nat) (s:List UInt8),s.length<N→s.length≤1000000→T (Zi9 N s) fun r=>r.1.length≤s.length
 |0,_,h,_=>by omega
 |N+1,s,hN,hs=>by
  unfold Zi9
  refine T.guard (fun h=> ?_) (T.ite (fun hc=> ?_) fun _=>Qz5 _ s (by unfold Zlb;omega) hs)
  ·have:=of_decide_eq_true h
   omega
  ·have: (s.length:Int)>0:=by simp at hc;omega
   refine T.guard (by omega) ((Qz4 N _ ?_ ?_).mono fun y hy=> ?_)
   all_goals (simp only[List.length_take,List.length_drop]at*;omega)
theorem Q9o(s:List UInt8)(hs:s.length≤1000000):T (Ztc s) fun r=>r.1.length≤s.length:=by
 unfold Ztc
 exact Qz4 _ s (by unfold Zla;omega) hs
theorem Q7f(p:Xl)(s:List UInt8)(hs:s.length≤100000):TT (Zik p s):=by
 have lp: ∀(l:List (List UInt8)),l.length≤100001→(∀x∈l,x.length≤100000)→ ∀(t:Xl) (N i:Nat) (b:Xl),l.length-i<N→i≤l.length→TT (Ya N b t l (i:Int)):=by
  intro l hl hx t N
  induction N with
  |zero=>intro i b h;omega
  |succ N ih=>
   intro i b hN hi
   unfold Ya
   refine T.ite (fun hc=> ?_) fun _=>T.tt
   have hc:i<l.length:=by have:=of_decide_eq_true hc;omega
   have j: ∀b,TT (Km (fun v=>Ya N v.1 v.2.1 v.2.2.1 v.2.2.2.1) b t l (i:Int)):=fun b=>by
    unfold Km
    rw[Zo hc (by omega)]
    exact ih (i+1) _ (by omega) (by omega)
   refine T.guard (by omega) ((Q9o _ (by have:=hx _ (Qx (d:=[]) hc);rw[show(i:Int).toNat=i from rfl];omega)).bind fun t _=>T.if (j _) (T.if (j _) (T.guard (fun h=> ?_) (T.guard (fun h=> ?_) (T.guard (fun h=> ?_) (T.ite (fun h=>T.guard ?_ (j _)) fun _=>j _))))))
   all_goals (simp at h;omega)
 have j: ∀b t,TT (Zan s b t):=fun b t=>by
  unfold Zan
  exact(Q92 s (by omega) 44).bind fun r hr=>lp _ (by omega) (fun x hx=>by have:=hr.2 x hx;omega) _ _ 0 _ (by unfold Zd9;omega) (by omega)
 unfold Zik
 have d:TT Vy:=⟨_,rfl,trivial⟩
 exact(tt1 (Ztu p)).bind fun t _=>T.if (d.bind fun t _=>j _ _) (j _ _)
theorem Qw3{K:Nat}{c:Zg}(h:Qa K c)(hK:K+1≤500000)(i:Int)(x:List UInt8)(hx:x.length≤100000):T (Zl6 c i x) fun r=>Qa (K+1) r.1:=by
 unfold Zl6
 rw[Kg h (by omega),Option.bind_some]
 exact(Zc4 h (by omega) i).bind fun s hs=>(Zls h (by omega)).bind fun t _=>T.if (T.pure (h.mono (by omega))) ((Q7f _ x hx).bind fun t _=>(Yo h.str (by exact⟨hs.snd,hs.rcv⟩) (Nat.le_refl _) hK).bind fun t3 h3=>T.pure (h.up (by omega) h3))
theorem Z71(w:Jq):TT (Zg8 w):=by
 unfold Zg8
 exact(tt1 (Zo9 w)).bind fun t _=>T.guard (fun _=>by omega) T.tt
theorem Qc6(w:Jq)(n t:Int):TT (Zhj w n t):=by
 unfold Zhj
 have j: ∀n w t,TT (Zge n w t):=fun n w t=>⟨_,rfl,trivial⟩
 exact(Z71 w).bind fun t _=>T.bind (Q:=fun _=>True) (T.if T.tt (tIn _ _ _)) fun t _=>T.bind (Q:=fun _=>True) (T.if T.tt (tIn _ _ _)) fun t _=>T.if T.tt (T.if (j _ _ _) (j _ _ _))
theorem Qwc(c:Zg):TT (Zm9 c):=by
 unfold Zm9
 exact(Z71 _).bind fun t _=>T.if ((Qc6 _ _ _).bind fun t _=>T.tt) T.tt
theorem Qpc(a:Zeo):TT (Zk5 a):=by
 unfold Zk5
 exact(tt1 (Zq4 a)).bind fun t _=>T.guard (fun _=>by omega) T.tt
theorem Qwp(a:Zeo):TT (Znu a):=by
 unfold Znu
 exact(Qpc a).bind fun t _=>T.if T.tt T.tt
theorem Qb8(a:Zeo)(b:Bool):TT (Zf5 a b):=by
 unfold Zf5
 exact(Qpc a).bind fun t _=>T.if ((Qwp a).bind fun t _=>T.tt) T.tt
theorem Qsj(c:Zg)(s:Zn):TT (Zlg c s):=by
 unfold Zlg
 exact T.if T.tt ((Z71 _).bind fun t _=>T.if ((Qc6 _ _ _).bind fun t _=>T.tt) T.tt)
theorem Qsk(c:Zeo):TT (Zm3 c):=by
 unfold Zm3
 exact(tt1 (Ziu c)).bind fun t _=>T.tt
theorem Q17(c:Zeo):TT (Zfh c):=by
 unfold Zfh
 exact(tt1 (Ziu c)).bind fun t _=>T.if T.tt T.tt
theorem Q6m(c:Zeo):TT (Zhe c):=by
 unfold Zhe
 exact(tt1 (Ziu c)).bind fun t _=>T.if T.tt T.tt
def FL(n:Nat)(l:List Zh):Prop:=l.length≤n∧ ∀f∈l,FOK f
theorem FL.one{n:Nat}{l:List Zh}{f:Zh}(h:FL n l)(hf:FOK f):FL (n+1) (l++ [f]):=⟨by have:=h.1;simp;omega,fun x hx=>by
 rcases List.mem_append.1 hx with hx|hx
 ·exact h.2 x hx
 ·rw[List.mem_singleton.1 hx];exact hf⟩
theorem FL.app{n m:Nat}{l k:List Zh}(h:FL n l)(hk:FL m k):FL (n+m) (l++k):=⟨by have:=h.1;have:=hk.1;simp;omega,fun x hx=>by
 rcases List.mem_append.1 hx with hx|hx
 ·exact h.2 x hx
 ·exact hk.2 x hx⟩
theorem FL.mono{n m:Nat}{l:List Zh}(h:FL n l)(hn:n≤m):FL m l:=⟨Nat.le_trans h.1 hn,h.2⟩
theorem FL.nil:FL 0 []:=⟨Nat.le_refl _,by simp⟩
theorem Qk8(k:Int)(i o:Int)(x):FOK ((k,(i,(o,(([]:List UInt8),x)))):Zh):=Nat.zero_le _
theorem FL.cap{n:Nat}{l k:List Zh}(h:FL n l)(hn:n+k.length≤10000):l.length+k.length≤Qv:=by have:=h.1;unfold Qv;omega
theorem Q0x(c:Zg)(s:Zn):T (Zp2 c s) fun r=>FL 4 r.1:=by
 have j3: ∀o,FL 3 o→T (Zfz s o) fun r=>FL 4 r.1:=fun o ho=>by
  unfold Zfz
  exact(Qsk _).bind fun t _=>T.if (T.guard (ho.cap (by simp)) (T.pure (ho.one (Qk8 _ _ _ _)))) (T.pure (ho.mono (by omega)))
 have j2: ∀o,FL 2 o→T (Zfy c s o) fun r=>FL 4 r.1:=fun o ho=>by
  unfold Zfy
  exact(Qsj _ _).bind fun t _=>T.if (T.guard (ho.cap (by simp)) (j3 _ (ho.one (Qk8 _ _ _ _)))) (j3 _ (ho.mono (by omega)))
 have j1: ∀o,FL 1 o→T (Zfx c s o) fun r=>FL 4 r.1:=fun o ho=>by
  unfold Zfx
  exact T.if (T.guard (ho.cap (by simp)) (j2 _ (ho.one (Qk8 _ _ _ _)))) (j2 _ (ho.mono (by omega)))
 unfold Zp2
 exact T.if (T.guard (FL.nil.cap (by simp)) (j1 _ (FL.nil.one (Qk8 _ _ _ _)))) (j1 _ (FL.nil.mono (by omega)))
theorem Z51{K:Nat}{c:Zg}(h:Qa K c)(hK:K≤1000000):T (Zid c) fun r=>FL (4*c.2.2.2.1.length+6) r.1:=by
 have hl:=h.str.len
 have cap: ∀{n:Nat} {l k:List Zh},FL n l→n+k.length≤10000000→l.length+k.length≤Qv:=fun h hn=>by have:=h.1;unfold Qv;omega
 generalize hn:c.2.2.2.1.length=n at hl
 have j5: ∀o,FL (4*n+5) o→T (Zah c o) fun r=>FL (4*n+6) r.1:=fun o ho=>by
  unfold Zah
  exact T.if (T.guard (cap ho (by simp;omega)) (T.pure (ho.one (Qk8 _ _ _ _)))) (T.pure (ho.mono (by omega)))
 have j4: ∀o,FL (4*n+4) o→T (Zag c o) fun r=>FL (4*n+6) r.1:=fun o ho=>by
  unfold Zag
  exact T.if (T.guard (cap ho (by simp;omega)) (j5 _ (ho.one (Qk8 _ _ _ _)))) (j5 _ (ho.mono (by omega)))
 have lp: ∀(N i:Nat) (o:List Zh),n-i<N→i≤n→FL (4*i+3) o→T (Zai N c o (i:Int)) fun r=>FL (4*n+6) r.1:=by
  intro N
  induction N with
  |zero=>intro i o h;omega
  |succ N ih=>
   intro i o hN hi ho
   unfold Zai
   refine T.ite (fun hc=> ?_) fun hc=> ?_
   ·have hc:=of_decide_eq_true hc
    refine T.guard (by omega) ((Q0x _ _).bind fun t ht=>T.guard (cap ho (by have:=ht.1;omega)) ?_)
    rw[Zo (m:=n) (by omega) (by omega)]
    exact ih (i+1) _ (by omega) (by omega) ((ho.app ht).mono (by omega))
   ·have hc:=of_decide_eq_false hc
    have ho:=ho.mono (m:=4*n+3) (by omega)
    exact(Qsk _).bind fun t _=>T.if (T.guard (cap ho (by simp;omega)) (j4 _ (ho.one (Qk8 _ _ _ _)))) (j4 _ (ho.mono (by omega)))
 have j3: ∀o,FL 3 o→T (Zaf c o) fun r=>FL (4*n+6) r.1:=fun o ho=>by
  unfold Zaf
  exact lp _ 0 o (by unfold Zdv;omega) (by omega) ho
 have j2: ∀o,FL 2 o→T (Zae c o) fun r=>FL (4*n+6) r.1:=fun o ho=>by
  unfold Zae
  exact(Qb8 _ _).bind fun t _=>T.if (T.guard (cap ho (by simp)) (j3 _ (ho.one (Qk8 _ _ _ _)))) (j3 _ (ho.mono (by omega)))
 have j1: ∀o,FL 1 o→T (Zad c o) fun r=>FL (4*n+6) r.1:=fun o ho=>by
  unfold Zad
  exact(Qb8 _ _).bind fun t _=>T.if (T.guard (cap ho (by simp)) (j2 _ (ho.one (Qk8 _ _ _ _)))) (j2 _ (ho.mono (by omega)))
 unfold Zid
 exact(Zls h hK).bind fun t _=>T.if (T.pure (FL.nil.mono (by omega))) ((Qwc c).bind fun t _=>T.if (T.guard (cap FL.nil (by simp)) (j1 _ (FL.nil.one (Qk8 _ _ _ _)))) (j1 _ (FL.nil.mono (by omega))))
theorem Qw6(n:Int):T (Zm7 n) fun r=>0≤r.1∧r.1≤8:=by
 unfold Zm7
 exact T.if (T.pure (by simp)) (T.if (T.pure (by simp)) (T.if (T.pure (by simp)) (T.if (T.pure (by simp)) (T.pure (by simp)))))
theorem Q2k(n k:Int): ∀(N m:Nat) (s:List UInt8),m<N→m≤8→s.length+m≤8→T (X7 N n k s ((m:Int)-1)) fun r=>r.1.length≤8
 |0,_,_,h,_,_=>by omega
 |N+1,0,s,_,_,hs=>by
  unfold X7
  exact T.ite (fun h=>by simp at h) fun _=>T.pure (by simpa using hs)
 |N+1,m+1,s,hN,hm,hs=>by
  unfold X7
  have j: ∀b,T (K0 (fun v=>X7 N v.1 v.2.1 v.2.2.1 v.2.2.2.1) n k s (((m+1:Nat):Int)-1) b) fun r=>r.1.length≤8:=fun b=>by
   unfold K0
   obtain⟨d,e,hd⟩:=Qyb b
   have e2:IntKind.i64.wrap (((m+1:Nat):Int)-1-1)=(m:Int)-1:=by rw[Zv (by omega) (by omega)];omega
   rw[e,Option.bind_some,e2]
   exact T.guard (by unfold W9;simp only;omega) (Q2k n k N m _ (by omega) (by omega) (by simp only[List.length_append];omega))
  exact T.ite (fun _=>T.guard (by rw[Zv (by omega) (by omega)];omega) (T.if (T.if (j _) (T.if (j _) (T.if (j _) (j _)))) (j _))) fun h=>by have:=of_decide_eq_false h;omega
theorem Q95(n:Int):T (Znk n) fun r=>r.1.length≤8:=by
 unfold Znk
 refine(Qw6 n).bind fun t ht=> ?_
 obtain⟨m,hm⟩:=Int.eq_ofNat_of_zero_le ht.1
 have e2:IntKind.i64.wrap (t.1-1)=(m:Int)-1:=by rw[Zv (by omega) (by omega)];omega
 rw[e2]
 exact Q2k n _ _ m [] (by unfold Zg2;omega) (by omega) (by simp;omega)
theorem Qzh(l:List Int)(hl:l.length≤1000): ∀(N i:Nat) (s:List UInt8),l.length-i<N→i≤l.length→s.length≤8*i→T (Zcl N l s (i:Int)) fun r=>r.1.length≤8*l.length
 |0,_,_,h,_,_=>by omega
 |N+1,i,s,hN,hi,hs=>by
  unfold Zcl
  refine T.ite (fun hc=> ?_) fun _=>T.pure (by simp only;omega)
  have hc:=of_decide_eq_true hc
  refine T.guard (by omega) ((Qw6 _).bind fun t _=>T.if (T.pure (by simp)) (T.guard (by omega) ((Q95 _).bind fun t ht=>T.guard (by unfold W9;omega) ?_)))
  rw[Zo (m:=l.length) (by omega) (by omega)]
  exact Qzh l hl N (i+1) _ (by omega) (by omega) (by simp only[List.length_append];omega)
theorem Q82(l:List Int)(hl:l.length≤1000):T (Xv l) fun r=>r.1.length≤8*l.length:=by
 unfold Xv
 exact Qzh l hl _ 0 _ (by unfold Zf3;omega) (by omega) (by simp)
theorem Qon{f:Zh}(h:FOK f):T (Zdh f) fun r=>r.1.length≤1100:=by
 have q: ∀l:List Int,l.length≤4→T (Xv l) fun r=>r.1.length≤32:=fun l hl=>(Q82 l (by omega)).mono fun y hy=>by omega
 have one: ∀l:List Int,l.length≤4→T (Option.bind (Xv l) fun t=>some (t.1,())) fun r=>r.1.length≤1100:=fun l hl=>(q l hl).bind fun t ht=>T.pure (by simp only;omega)
 have two: ∀l:List Int,l.length≤4→T (Option.bind (Xv l) fun t=>Zf (t.1.length+f.2.2.2.1.length≤W9)<|some (t.1++f.2.2.2.1,())) fun r=>r.1.length≤1100:=fun l hl=>(q l hl).bind fun t ht=>by
  unfold FOK at h
  exact T.guard (by unfold W9;omega) (T.pure (by simp only[List.length_append];omega))
 have j1: ∀k,T (Zf9 f k) fun r=>r.1.length≤1100:=fun k=>T.if (two _ (by simp)) (two _ (by simp))
 have j4: ∀k,T (Zgc f k) fun r=>r.1.length≤1100:=fun k=>one _ (by simp)
 have j3: ∀b,T (Zgb f b) fun r=>r.1.length≤1100:=fun b=>T.if (one _ (by simp)) (T.if (j4 _) (j4 _))
 have j2: ∀k b,T (Zga f k b) fun r=>r.1.length≤1100:=fun k b=>T.if (one _ (by simp)) (T.if (j3 _) (j3 _))
 unfold Zdh
 exact(Zu2 h).bind fun t _=>T.if (T.pure (by simp)) (T.if (one _ (by simp)) (T.if (one _ (by simp)) (T.if (T.if (j1 _) (j1 _)) (T.if (j2 _ _) (j2 _ _)))))
theorem Ztn{f:Zh}(h:FOK f):T (Zd0 f) fun r=>0≤r.1∧r.1≤1100:=by
 unfold Zd0
 exact(Qon h).bind fun t ht=>T.pure (by simp only;omega)
theorem Qvs(l:List Zh)(h:Qqs l): ∀(N i:Nat) (s:List UInt8),l.length-i<N→i≤l.length→s.length≤1100*i→T (Zaj N l s (i:Int)) fun r=>r.1.length≤400
 |0,_,_,h,_,_=>by omega
 |N+1,i,s,hN,hi,hs=>by
  have hl:=h.1
  unfold Zaj
  refine T.ite (fun hc=> ?_) fun _=>T.ite (fun _=>T.pure (by simp)) fun h=>T.pure (by have:=of_decide_eq_false h;simp only;omega)
  have hc:=of_decide_eq_true hc
  refine T.guard (by omega) ((Qon (h.2 _ (Qx (by omega)))).bind fun t ht=>T.if (T.pure (by simp)) (T.guard (by unfold W9;omega) ?_))
  rw[Zo (m:=l.length) (by omega) (by omega)]
  exact Qvs l h N (i+1) _ (by omega) (by omega) (by simp only[List.length_append];omega)
theorem Q2j{l:List Zh}(h:Qqs l):T (Zih l) fun r=>r.1.length≤400:=by
 unfold Zih
 exact Qvs l h _ 0 _ (by unfold Zdy;omega) (by omega) (by simp)
theorem Q49{K:Nat}{c:Zg}{s:Zn}(hs:Jn K s)(k:Int):T (Zte c s k) fun r=>Jn K r.1.1:=by
 unfold Zte
 exact T.if (T.pure (by exact⟨hs.snd,hs.rcv⟩)) (T.if (T.pure (by exact⟨hs.snd,hs.rcv⟩)) (T.if ((Qsj _ _).bind fun t _=>T.if (T.pure (by exact⟨hs.snd,hs.rcv⟩)) (T.pure (by exact⟨hs.snd,hs.rcv⟩))) (T.if ((Q17 _).bind fun t _=>T.pure (by exact⟨hs.snd,hs.rcv⟩)) (T.pure hs))))
theorem Qi5{K:Nat}{c:Zg}(h:Qa K c)(hK:K+1≤500000)(f:Zh):T (Zl3 c f) fun r=>Qa (K+1) r.1:=by
 unfold Zl3
 rw[Kg h (by omega),Option.bind_some]
 have m:=h.mono (K':=K+1) (by omega)
 exact(Zn5 h (by omega)).bind fun t _=>T.if (T.pure m) (T.if ((Qwc c).bind fun t _=>T.pure (by exact⟨m.str,m.pk⟩)) (T.if (T.if ((Qb8 _ _).bind fun t _=>T.pure (by exact⟨m.str,m.pk⟩)) ((Qb8 _ _).bind fun t _=>T.pure (by exact⟨m.str,m.pk⟩)))
  (T.if ((Q17 _).bind fun t _=>T.pure (by exact⟨m.str,m.pk⟩)) (T.if (T.if (T.pure (by exact⟨m.str,m.pk⟩)) (T.pure (by exact⟨m.str,m.pk⟩)))
   ((Zc4 h (by omega) _).bind fun s hs=>T.if ((Q49 hs _).bind fun t ht=>(Yo h.str ht (Nat.le_refl _) hK).bind fun t3 h3=>T.pure (h.up (by omega) h3)) (T.pure m))))))
theorem Q54{K:Nat}{c:Zg}(h:Qa K c)(hK:K≤1000000):T (Zny c) fun r=>r.1.length≤K:=by
 have hl:=h.str.len
 have lp: ∀(N i:Nat) (o:List Z0),c.2.2.2.1.length-i<N→i≤c.2.2.2.1.length→o.length≤i→T (Vm N c o (i:Int)) fun r=>r.1.length≤K:=by
  intro N
  induction N with
  |zero=>intro i o h;omega
  |succ N ih=>
   intro i o hN hi ho
   unfold Vm
   refine T.ite (fun hc=> ?_) fun _=>T.pure (by simp only;omega)
   have hc:=of_decide_eq_true hc
   have j: ∀o,o.length≤i+1→T (Zek (fun v=>Vm N v.1 v.2.1 v.2.2.1) c o (i:Int)) fun r=>r.1.length≤K:=fun o ho=>by
    unfold Zek
    rw[Zo (m:=c.2.2.2.1.length) (by omega) (by omega)]
    exact ih (i+1) o (by omega) (by omega) ho
   exact T.guard (by omega) (T.if (T.guard (by unfold Qv;simp only[List.length_singleton];omega) (j _ (by simp;omega))) (j _ (by omega)))
 unfold Zny
 exact lp _ 0 _ (by unfold Zhr;omega) (by omega) (by simp)
theorem Q56(l:List Z0)(hl:l.length≤1000000)(n:Int):T (Znz l n) fun r=>r.1.length≤l.length:=by
 have lp: ∀(N i:Nat) (o:List Z0),l.length-i<N→i≤l.length→o.length≤i→T (Vn N l n o (i:Int)) fun r=>r.1.length≤l.length:=by
  intro N
  induction N with
  |zero=>intro i o h;omega
  |succ N ih=>
   intro i o hN hi ho
   unfold Vn
   refine T.ite (fun hc=> ?_) fun _=>T.pure (by simp only;omega)
   have hc:=of_decide_eq_true hc
   have j: ∀o,o.length≤i+1→T (Zel (fun v=>Vn N v.1 v.2.1 v.2.2.1 v.2.2.2.1) l n o (i:Int)) fun r=>r.1.length≤l.length:=fun o ho=>by
    unfold Zel
    rw[Zo (m:=l.length) (by omega) (by omega)]
    exact ih (i+1) o (by omega) (by omega) ho
   exact T.guard (by omega) (T.if (T.guard (by omega) (T.guard (by unfold Qv;simp only[List.length_singleton];omega) (j _ (by simp;omega)))) (j _ (by omega)))
 unfold Znz
 exact lp _ 0 _ (by unfold Zhs;omega) (by omega) (by simp)
theorem Q1w(l:List Z0)(hl:l.length≤1000000):TT (Zic l):=by
 have lp: ∀(N i:Nat),l.length-i<N→i≤l.length→TT (Zac N l (i:Int)):=by
  intro N
  induction N with
  |zero=>intro i h;omega
  |succ N ih=>
   intro i hN hi
   unfold Zac
   refine T.ite (fun hc=> ?_) fun _=>T.tt
   have hc:=of_decide_eq_true hc
   refine T.guard (by omega) ((Qqj _).bind fun t _=>T.guard (fun _=>by omega) (T.bind (Q:=fun _=>True) (T.if T.tt (tt1 (Ztu _))) fun t _=>T.guard (fun _ _=>by omega) (T.guard (fun _ h=> ?_) (T.if T.tt ?_))))
   ·have:=of_decide_eq_true h
    rw[Zv (by omega) (by omega)];omega
   ·rw[Zo (m:=l.length) (by omega) (by omega)]
    exact ih (i+1) (by omega) (by omega)
 unfold Zic
 exact lp _ 0 (by unfold Zdt;omega) (by omega)
theorem Qyg(l:List Z0)(hl:l.length≤1000000):T (Znr l) fun r=>r.1.length≤l.length:=by
 have lp: ∀(N i:Nat) (o:List Int) (b:Int),l.length-i<N→i≤l.length→o.length≤i→T (K8 N l o b (i:Int)) fun r=>r.1.length≤l.length:=by
  intro N
  induction N with
  |zero=>intro i o b h;omega
  |succ N ih=>
   intro i o b hN hi ho
   unfold K8
   refine T.bind (Q:=fun _=>True) (T.if (Q1w l hl) T.tt) fun t _=>T.ite (fun hc=> ?_) fun _=>T.pure (by simp only;omega)
   have hc: (i:Int)<l.length:=by simp at hc;omega
   have j1: ∀o b,o.length≤i+1→T (Zea (fun v=>K8 N v.1 v.2.1 v.2.2.1 v.2.2.2.1) l o b (i:Int)) fun r=>r.1.length≤l.length:=fun o b ho=>by
    unfold Zea
    rw[Zo (m:=l.length) (by omega) (by omega)]
    exact ih (i+1) o b (by omega) (by omega) ho
   have j2: ∀o b,o.length≤i→T (Zeb (fun v=>K8 N v.1 v.2.1 v.2.2.1 v.2.2.2.1) l o b (i:Int)) fun r=>r.1.length≤l.length:=fun o b ho=>by
    unfold Zeb
    exact T.guard (by omega) (T.if (T.guard (by omega) (T.guard (by unfold Qv;simp only[List.length_singleton];omega) (j1 _ _ (by simp;omega)))) (j1 _ _ (by omega)))
   exact T.guard (by omega) (T.if (T.guard (by omega) (j2 _ _ (by simp))) (j2 _ _ ho))
 unfold Znr
 exact lp _ 0 _ _ (by unfold Zg7;omega) (by omega) (by simp)
theorem Q4g(l:List Int)(hl:l.length≤10000000000)(n:Int):TT (Zri l n):=by
 have lp: ∀(N i:Nat),l.length-i<N→i≤l.length→TT (Zhm N l n (i:Int)):=by
  intro N
  induction N with
  |zero=>intro i h;omega
  |succ N ih=>
   intro i hN hi
   unfold Zhm
   refine T.ite (fun hc=> ?_) fun hc=>T.ite (fun _=>T.tt) fun h=>T.guard (by simp at h;have:=List.length_pos_iff.2 h;omega) T.tt
   have hc:=of_decide_eq_true hc
   refine T.guard (by omega) (T.if (T.guard (by omega) T.tt) ?_)
   rw[Zo (m:=l.length) (by omega) (by omega)]
   exact ih (i+1) (by omega) (by omega)
 unfold Zri
 exact lp _ 0 (by unfold Zj0;omega) (by omega)
theorem Qyl(l:List Z0)(hl:l.length≤100000)(n:Int):TT (Zns l n):=by
 unfold Zns
 refine(Qyg l (by omega)).bind fun m hm=> ?_
 generalize m.1=m at hm
 have lp: ∀(N i:Nat) (o:List Int),l.length-i<N→i≤l.length→o.length≤i*m.length→TT (K9 N l n m o (i:Int)):=by
  intro N
  induction N with
  |zero=>intro i o h;omega
  |succ N ih=>
   intro i o hN hi ho
   have hb:i*m.length≤100000*100000:=Nat.mul_le_mul (by omega) (by omega)
   unfold K9
   refine T.ite (fun hc=> ?_) fun _=>(Q4g o (by omega) n).bind fun t _=>T.tt
   have hc:i<l.length:=by have:=of_decide_eq_true hc;omega
   have l2: ∀(M k:Nat) (o:List Int),m.length-k<M→k≤m.length→o.length≤i*m.length+k→TT (Vk (fun v=>K9 N v.1 v.2.1 v.2.2.1 v.2.2.2.1 v.2.2.2.2.1) M l n m o (i:Int) (k:Int)):=by
    intro M
    induction M with
    |zero=>intro k o h;omega
    |succ M ih2=>
     intro k o hM hk ho
     unfold Vk
     refine T.ite (fun hd=> ?_) fun hd=> ?_
     ·have hd:k<m.length:=by have:=of_decide_eq_true hd;omega
      have j: ∀o:List Int,o.length≤i*m.length+k+1→TT (Zec (fun v=>K9 N v.1 v.2.1 v.2.2.1 v.2.2.2.1 v.2.2.2.2.1) (fun v=>Vk (fun v=>K9 N v.1 v.2.1 v.2.2.1 v.2.2.2.1 v.2.2.2.2.1) M v.1 v.2.1 v.2.2.1 v.2.2.2.1 v.2.2.2.2.1 v.2.2.2.2.2.1) l n m o (i:Int) (k:Int)):=fun o ho=>by
       unfold Zec
       rw[Zo hd (by omega)]
       exact ih2 (k+1) o (by omega) (by omega) ho
      exact T.guard (by omega) (T.guard (by omega) (T.guard (fun _=>by omega) (T.if (T.guard (by omega) T.tt) (T.guard (by omega) (T.guard (by omega) (T.if (T.guard (by omega) (T.guard (by unfold Qv;simp only[List.length_singleton];omega) (j _ (by simp;omega)))) (j _ (by omega))))))))
     ·have hd:=of_decide_eq_false hd
      have e:k=m.length:=by omega
      rw[Zo hc (by omega)]
      exact ih (i+1) o (by omega) (by omega) (by rw[Nat.succ_mul];omega)
   exact l2 _ 0 o (by unfold Zhd;omega) (by omega) ho
 exact lp _ 0 _ (by unfold Zhc;omega) (by omega) (by simp)
theorem Q3q{K:Nat}{c:Zg}(h:Qa K c)(hK:K≤1000000)(i room:Int):T (Zrh c i room) fun r=>r.1.2.1.length≤64:=by
 have z:Zqb.2.1.length≤64:=Nat.zero_le _
 have lp: ∀(t:Kl) (s:Zn) (m:Int),Jn K s→ ∀(N n:Nat),n<N→n≤60→T (Zhi N i room t s m (n:Int)) fun r=>r.1.2.1.length≤64:=by
  intro t s m hs N
  induction N with
  |zero=>intro n h;omega
  |succ N ih=>
   intro n hn h60
   unfold Zhi
   refine T.ite (fun hc=> ?_) fun _=>T.pure z
   have hc:=of_decide_eq_true hc
   obtain⟨p,ok,e,hp⟩:=Q02 hs.snd (n:Int) m (by omega)
   rw[e,Option.bind_some]
   have e2:IntKind.i64.wrap ((n:Int)-1)=((n-1:Nat):Int):=by rw[Zv (by omega) (by omega)];omega
   rw[e2]
   exact T.if (T.pure z) (T.bind (Q:=fun r=>FOK r.1) (T.pure (by unfold FOK;simp only;omega)) fun f hf=>(Ztn hf).bind fun t _=>T.if (T.pure (by simp only;omega)) (ih (n-1) (by omega) (by omega)))
 have cl: ∀c,TT (Ze5 c):=fun c=>by
  unfold Ze5
  exact(tt1 (Ziu c)).bind fun t _=>T.if T.tt T.tt
 unfold Zrh
 refine(Zc4 h hK i).bind fun s hs=>(Zn5 h hK).bind fun t _=>T.ite (fun _=>T.pure z) fun hc=>(cl _).bind fun t _=> ?_
 have hr: ¬room<3:=by simp at hc;omega
 obtain⟨n,hn⟩:=Int.eq_ofNat_of_zero_le (show 0≤min room 60 by omega)
 simp only[hn]
 exact lp _ _ _ hs _ n (by unfold Zjz;omega) (by omega)
theorem Qqo(c:Zeo)(n:Int):TT (Zk9 c n):=by
 unfold Zk9
 exact(tt1 (Ziu c)).bind fun t _=>T.if T.tt T.tt
theorem Q0z{K:Nat}{c:Zg}(h:Qa K c)(hK:K+1≤500000)(i:Int)(p:Kl):T (Zk4 c i p) fun r=>Qa (K+1) r.1:=by
 unfold Zk4
 rw[Kg h (by omega),Option.bind_some]
 refine(Zc4 h (by omega) i).bind fun s hs=>(Zn5 h (by omega)).bind fun t _=>T.if (T.pure (h.mono (by omega))) ?_
 obtain⟨x,ok,e,h1⟩:=Q1h hs.snd p (by omega)
 rw[e,Option.bind_some]
 exact(Qqo _ _).bind fun t _=>(Qqo _ _).bind fun t _=>T.if (T.pure (h.mono (by omega))) ((Yo h.str (by exact⟨h1,hs.rcv⟩) (Nat.le_refl _) hK).bind fun t3 h3=>T.pure (by exact⟨h3,h.pk.mono (by omega)⟩))
theorem Q29{K:Nat}{c:Zg}(h:Qa K c)(hK:K+1≤500000)(i:Int):T (Zrk c i) fun r=>Qa (K+1) r.2.1:=by
 unfold Zrk
 exact(Zc4 h (by omega) i).bind fun s hs=>(Q6m _).bind fun t _=>(Q6m _).bind fun t _=>(Yo h.str (by exact⟨hs.snd,hs.rcv⟩) (Nat.le_refl _) hK).bind fun t3 h3=>T.pure (by exact⟨h3,h.pk.mono (by omega)⟩)
theorem Q2m{K F:Nat}(hK:K≤90000)(hF:F≤1000000): ∀(N i:Nat) (x:Zg) (fr:List Zh) (room:Int) (sk:List Int),200-i<N→i≤200→Qa (K+i) x→FL (F+i) fr→sk.length≤i→
  T (Ww N x fr room sk (i:Int)) fun r=>Qa (K+200) r.2.1∧FL (F+200) r.1.1
 |0,_,_,_,_,_,h,_,_,_,_=>by omega
 |N+1,i,x,fr,room,sk,hN,hi,hx,hf,hs=>by
  unfold Ww
  refine T.ite (fun hc=> ?_) fun hc=>T.pure ⟨hx.mono (by omega),hf.mono (by omega)⟩
  have hc:i<200:=by have:=of_decide_eq_true hc;omega
  refine(Q54 hx (by omega)).bind fun w hw=> ?_
  have j1: ∀(x:Zg) (fr:List Zh) (room:Int) (sk:List Int),Qa (K+i+1) x→FL (F+i+1) fr→sk.length≤i+1→
    T (Zjc (fun v=>Ww N v.1 v.2.1 v.2.2.1 v.2.2.2.1 v.2.2.2.2.1) x fr room sk (i:Int)) fun r=>Qa (K+200) r.2.1∧FL (F+200) r.1.1:=fun x fr room sk hx hf hs=>by
   unfold Zjc
   rw[Zo hc (by omega)]
   exact Q2m hK hF N (i+1) x fr room sk (by omega) (by omega) hx hf hs
  have j2: ∀(id:Int) (p:Kl) (y:Zg) (ok:Bool),p.2.1.length≤64→Qa (K+i+1) y→
    T (Yw (fun v=>Ww N v.1 v.2.1 v.2.2.1 v.2.2.2.1 v.2.2.2.2.1) x fr room sk (i:Int) id p y ok) fun r=>Qa (K+200) r.2.1∧FL (F+200) r.1.1:=fun id p y ok hp hy=>by
   unfold Yw
   exact T.if (T.pure ⟨hx.mono (by omega),hf.mono (by omega)⟩) (T.bind (Q:=fun r=>FOK r.1) (T.pure (by unfold FOK;simp only;omega)) fun f hf2=>T.guard (by have:=hf.1;unfold Qv;simp only[List.length_singleton];omega) ((Ztn hf2).bind fun t _=>j1 _ _ _ _ hy (hf.one hf2) (by omega)))
  have l2: ∀(M k:Nat) (l:List Z0),sk.length-k<M→k≤sk.length→l.length≤K+i→
    T (Zjd (fun v=>Ww N v.1 v.2.1 v.2.2.1 v.2.2.2.1 v.2.2.2.2.1) M x fr room sk (i:Int) l (k:Int)) fun r=>Qa (K+200) r.2.1∧FL (F+200) r.1.1:=by
   intro M
   induction M with
   |zero=>intro k l h;omega
   |succ M ih=>
    intro k l hM hk hl
    unfold Zjd
    refine T.ite (fun hd=> ?_) fun hd=> ?_
    ·have hd:=of_decide_eq_true hd
     refine T.guard (by omega) ((Q56 l (by omega) _).bind fun t ht=> ?_)
     rw[Zo (m:=sk.length) (by omega) (by omega)]
     exact ih (k+1) _ (by omega) (by omega) (by omega)
    ·simp only[Vp,Vd]
     exact(Qyl l (by omega) _).bind fun n _=>T.if (T.pure ⟨hx.mono (by omega),hf.mono (by omega)⟩) ((Q3q hx (by omega) _ _).bind fun p hp=>T.if
      ((Q29 hx (by omega) _).bind fun t ht=>T.guard (by unfold Qv;simp only[List.length_singleton];omega) (j1 _ _ _ _ ht (hf.mono (by omega)) (by simp;omega)))
      ((Q0z hx (by omega) _ _).bind fun t ht=>j2 _ _ _ _ hp ht))
  exact l2 _ 0 w.1 (by unfold Zlf;omega) (by omega) hw
theorem Qzq{K F:Nat}(hK:K≤90000)(hF:F≤1000000){x:Zg}{fr:List Zh}(hx:Qa K x)(hf:FL F fr)(room:Int):T (Ztf x fr room) fun r=>Qa (K+200) r.2.1∧FL (F+200) r.1.1:=by
 unfold Ztf
 exact Q2m hK hF _ 0 x fr room [] (by unfold Zle;omega) (by omega) hx hf (by simp)
theorem Qxr{K:Nat}{c:Zg}(h:Qa K c)(hK:K≤80000)(b:Int):T (Zb9 c b) fun r=>Qa (K+1000) r.1.2.2.1:=by
 have lp: ∀(t:Zg) (l:List Zh),FL 606 l→ ∀(N i:Nat) (x:Zg) (fr:List Zh) (room:Int),l.length-i<N→i≤l.length→Qa (K+i) x→FL i fr→
   T (Yl N c t x fr room l (i:Int)) fun r=>Qa (K+1000) r.1.2.2.1:=by
  intro t l hl N
  have h606:=hl.1
  induction N with
  |zero=>intro i x fr room h;omega
  |succ N ih=>
   intro i x fr room hN hi hx hf
   have j1: ∀(x:Zg) (fr:List Zh) (room:Int),i<l.length→Qa (K+i+1) x→FL (i+1) fr→
     T (Vi (fun v=>Yl N v.1 v.2.1 v.2.2.1 v.2.2.2.1 v.2.2.2.2.1 v.2.2.2.2.2.1 v.2.2.2.2.2.2.1) c t x fr room l (i:Int)) fun r=>Qa (K+1000) r.1.2.2.1:=fun x fr room hc hx hf=>by
    unfold Vi
    rw[Zo hc (by omega)]
    exact ih (i+1) x fr room (by omega) (by omega) hx hf
   unfold Yl
   refine T.ite (fun hc=> ?_) fun hc=> ?_
   ·have hc:=of_decide_eq_true hc
    have hm:=hl.2 _ (Qx (d:=Xr) (show i<l.length by omega))
    exact T.guard (by omega) ((Ztn hm).bind fun t _=>T.if (T.guard (by omega) ((Ztn hm).bind fun t _=>T.guard (by omega) ((Qi5 hx (by omega) _).bind fun t ht=>T.guard (by omega) (T.guard (by have:=hf.1;unfold Qv;simp only[List.length_singleton];omega) (j1 _ _ _ (by omega) ht (hf.one hm)))))) (j1 _ _ _ (by omega) (hx.mono (by omega)) (hf.mono (by omega))))
   ·refine(Qzq (by omega) (by omega) hx hf _).bind fun r hr=>T.if (T.pure (hr.1.mono (by omega))) ?_
    have hp:=hr.1.pk.1
    have hf:Qqs r.1.1:=⟨by have:=hr.2.1;omega,hr.2.2⟩
    exact T.guard (by unfold Qv;simp only[List.length_singleton];omega) ((Q2j hf).bind fun t _=>T.pure (by exact⟨hr.1.str.mono (by omega),⟨by simp only[List.length_append,List.length_singleton];omega,fun p hp=>by
     rcases List.mem_append.1 hp with hp|hp
     ·exact hr.1.pk.2 p hp
     ·rw[List.mem_singleton.1 hp];exact hf⟩⟩))
 unfold Zb9
 rw[Kg h (by omega),Option.bind_some]
 exact(Qo4 h (by omega)).bind fun t ht=>T.bind (Q:=fun _=>True) (T.if T.tt (tIn _ _ _)) fun t _=>T.ite (fun _=>T.pure (h.mono (by omega))) fun hc=>(Z51 h (by omega)).bind fun l hl=>by
  have:=ht (by simp at hc;simp[hc])
  exact lp _ _ (hl.mono (by omega)) _ 0 _ _ _ (by unfold Zby;omega) (by omega) h FL.nil
theorem Qo3(n:Int){K:Nat}(h25:25≤K)(hK:K≤400000): ∀(N m:Nat) (c:Zg),m<N→c.2.2.2.1.length+m≤24→Qa K c→T (Q9 N c n ((m:Int)-1)) fun r=>Qa K r.2.1
 |0,_,_,h,_,_=>by omega
 |N+1,0,c,_,_,h=>by
  unfold Q9
  exact T.ite (fun h=>by simp at h) fun _=>T.pure h
 |N+1,m+1,c,hN,hm,h=>by
  unfold Q9
  simp only[Vp,Vd]
  refine T.ite (fun _=>(Qpd _ _ _ _).bind fun s hs=> ?_) fun h=>by have:=of_decide_eq_false h;omega
  unfold Yv
  have e:IntKind.i64.wrap (((m+1:Nat):Int)-1-1)=(m:Int)-1:=by rw[Zv (by omega) (by omega)];omega
  rw[e]
  obtain⟨y,e,h1,h2⟩:=Qhl h.str (hs.mono (Nat.zero_le K)) (by omega)
  rw[e,Option.bind_some]
  exact Qo3 n h25 hK N m _ (by omega) (by simp only;omega) ⟨⟨by simp only;omega,h2⟩,h.pk⟩
theorem Q28{K:Nat}{c:Zg}(h25:25≤K)(hK:K≤400000)(h:Qa K c)(n:Int)(m:Nat)(hm:c.2.2.2.1.length+m≤24):T (Zl8 c n (m:Int)) fun r=>Qa K r.2.1:=by
 unfold Zl8
 rw[Zv (by omega) (by omega)]
 exact Qo3 n h25 hK _ m c (by unfold Zfv;omega) hm h
theorem inT(n a b:Int):T (Zu n a b) fun r=>r.1=true→a≤n∧n≤b:=⟨_,Zrw n a b,fun h=>by simpa using h⟩
theorem Q22(a:Zeo):T (We a) fun r=>r.1=true→a.2.1≤1152921504606846976∧0≤a.2.2.1∧a.2.2.1≤a.2.1:=by
 unfold We
 have B: ∀{b:Bool} {n l h:Int} {β:Type} {f:Bool×Unit→Option β} {R:β→Prop},(∀r:Bool×Unit,(r.1=true→l≤n∧n≤h)→T (f r) R)→T (Option.bind (bif b then Zu n l h else some (false,())) f) R:=fun k=>T.bind (T.if (inT _ _ _) (T.pure fun h=>by cases h)) k
 exact(inT _ _ _).bind fun t1 h1=>B fun t2 h2=>B fun t3 h3=>B fun t4 h4=>T.pure fun h=>by
  simp only[Bool.and_eq_true]at h
  have:=h2 h.1.1.1.2
  have:=h3 h.1.1.2
  omega
theorem Q1g(a:Zeo)(n:Int):T (Zjn a n) fun r=>0≤r.2.1∧r.2.1≤1152921504606846976:=by
 unfold Zjn
 refine(Q22 a).bind fun t ht=>T.ite (fun _=>T.pure (by simp)) fun hc=>T.pure ?_
 simp at hc
 have:=ht hc.1.1
 simp only
 rw[Zv (n:=n+1) (by omega) (by omega),Zv (n:=n+1-a.2.2.1) (by omega) (by omega)]
 omega
theorem Zsy{K:Nat}{c:Zg}(h:Qa K c)(h25:25≤K)(hK:K≤400000)(i:Int):T (Wd c i) fun r=>Qa K r.1:=by
 have hl:=h.str.len
 have j3: ∀t x (n:Nat),x.2.2.2.1.length+n≤24→Qa K x→T (Zbj i t x (n:Int)) fun r=>Qa K r.1:=fun t x n hn hx=>by
  unfold Zbj
  exact(Q28 h25 hK hx i n hn).bind fun r hr=>T.pure hr
 have j2: ∀t b n is,0≤n→n≤1152921504606846976→T (Zp i c t c b n is) fun r=>Qa K r.1:=fun t b n is h0 h1=>by
  unfold Zp
  refine T.ite (fun _=>T.pure h) fun hc=> ?_
  have hn: (c.2.2.2.1.length:Int)+n≤24:=by
   simp at hc
   have:=hc.2
   rw[Zv (by omega) (by omega)]at this
   omega
  obtain⟨n,rfl⟩:=Int.eq_ofNat_of_zero_le h0
  exact(Q52 i).bind fun t _=>T.if (j3 _ _ n (by simp only;omega) (by exact⟨h.str,h.pk⟩)) (j3 _ _ n (by simp only;omega) (by exact⟨h.str,h.pk⟩))
 have j1: ∀t a,T (Zbi i c t c a) fun r=>Qa K r.1:=fun t a=>by
  unfold Zbi
  simp only[Vp,Vd]
  exact(tt1 (Q41 i)).bind fun t _=>(Q1g _ _).bind fun t ht=>j2 _ _ _ _ ht.1 ht.2
 unfold Wd
 rw[Kg h (by omega),Option.bind_some]
 exact(Zn5 h (by omega)).bind fun t _=>T.bind (Q:=fun _=>True) (T.if T.tt (Qqj i)) fun t _=>T.if (T.pure h) (T.bind (Q:=fun _=>True) (tt1 (by obtain⟨v,e,-⟩:=Z7j c.2.2.2.1 i (by omega);exact⟨v,e⟩)) fun t _=>T.if (T.pure h) ((Q7l _ _).bind fun t _=>T.if (T.pure h) ((Q52 i).bind fun t _=>T.if (j1 _ _) (j1 _ _))))
theorem Qsx(w:Jq)(n:Int):TT (Zm6 w n):=by
 unfold Zm6
 exact(tt1 (Zo9 w)).bind fun t _=>T.if T.tt T.tt
theorem Qzp{K:Nat}{x:Zg}{s:Zn}(h:Qa K x)(hs:Jn K s)(hK:K≤1000000)(e:Int):T (Zpz x s e) fun r=>Qa K r.2.1∧Jn K r.2.2.1:=by
 have nb:TT (Zrc s.2.2.2.1 e):=by
  unfold Zrc
  exact(tt1 (Zkq hs.rcv hK)).bind fun t _=>T.bind (Q:=fun _=>True) (T.if T.tt (Qqj _)) fun t _=>T.if T.tt T.tt
 unfold Zpz
 exact nb.bind fun t _=>T.if (T.pure ⟨h,hs⟩) ((Qsx _ _).bind fun t _=>(Qsx _ _).bind fun t _=>T.if (T.pure ⟨h,hs⟩) (T.pure ⟨⟨h.str,h.pk⟩,⟨hs.snd,hs.rcv⟩⟩))
theorem Q6r(s:Bool)(n:Int):TT (Zdu s n):=tt1 (Qti s n)
theorem Q34(s:Bool)(n:Int):TT (Jr s n):=tt1 (Z6m s n)
theorem Qx4{K:Nat}{c:Zg}{f:Zh}(h:Qa K c)(hf:FOK f)(h25:25≤K)(hK:K≤390000):T (Znl c f) fun r=>Qa (K+f.2.2.2.1.length+2) r.1.1:=by
 have m:=h.mono (K':=K+f.2.2.2.1.length+2) (by omega)
 have cp: ∀v:Int,T (Option.bind (Zw c) fun t=>some ((t.1,(v,())),())) fun r=>Qa (K+f.2.2.2.1.length+2) r.1.1:=fun v=>by
  rw[Kg h (by omega),Option.bind_some];exact T.pure m
 unfold Znl
 refine(Zn5 h (by omega)).bind fun t _=>T.bind (Q:=fun _=>True) (T.if T.tt (Zu2 hf)) fun t _=>T.if (cp 7) ((Q34 _ _).bind fun t _=>T.if (cp 5) ((Zsy h h25 (by omega) _).bind fun x hx=>T.if (cp _) ((Zc4 hx (by omega) _).bind fun s hs=> ?_)))
 obtain⟨r,v,e,hr⟩:=Qwv hs.rcv f.2.2.1 f.2.2.2.1 f.2.2.2.2.1 (by unfold FOK at hf;omega)
 rw[e,Option.bind_some]
 unfold FOK at hf
 exact(Qzp hx hs (by omega) _).bind fun y hy=>T.if (cp _) (T.if (cp _) ((Zx5 (K':=K+f.2.2.2.1.length+1) hy.1 (by exact⟨hy.2.snd.mono (by omega),hr.mono (by omega)⟩) (by omega) (by omega)).bind fun t ht=>T.pure (ht.mono (by omega))))
theorem Qv4{K:Nat}{c:Zg}{f:Zh}(h:Qa K c)(hf:FOK f)(h25:25≤K)(hK:K≤390000):T (Zl2 c f) fun r=>Qa (K+f.2.2.2.1.length+2) r.1.1:=by
 have m:=h.mono (K':=K+f.2.2.2.1.length+2) (by omega)
 have cp: ∀v:Int,T (Option.bind (Zw c) fun t=>some ((t.1,(v,())),())) fun r=>Qa (K+f.2.2.2.1.length+2) r.1.1:=fun v=>by
  rw[Kg h (by omega),Option.bind_some];exact T.pure m
 unfold Zl2
 refine(Zn5 h (by omega)).bind fun t _=>T.bind (Q:=fun _=>True) (T.if T.tt (Zu2 hf)) fun t _=>T.if (cp 7) ((Q34 _ _).bind fun t _=>T.if (cp 5) ((Zsy h h25 (by omega) _).bind fun x hx=>T.if (cp _) ((Zc4 hx (by omega) _).bind fun s hs=> ?_)))
 obtain⟨r,v,e,hr⟩:=Quu hs.rcv (by omega) f.2.2.2.2.2.1 f.2.2.2.2.2.2.2.1
 rw[e,Option.bind_some]
 have j: ∀(t x:Zg) (s:Zn),Qa K x→Jn K s→T (Zcp t x s r) fun r=>Qa (K+f.2.2.2.1.length+2) r.1.1:=fun t x s hx hs=>by
  unfold Zcp
  exact(Zx5 hx (by exact⟨hs.snd,hr⟩) (Nat.le_refl _) (by omega)).bind fun t ht=>T.pure (ht.mono (by omega))
 exact(Qzp hx hs (by omega) _).bind fun y hy=>T.if (cp _) (T.if (cp _) (T.if ((Qt8 hy.1 hy.2 _).bind fun z hz=>j _ _ _ hz.1 hz.2) (j _ _ _ hy.1 hy.2)))
theorem Qx5{K:Nat}{c:Zg}{f:Zh}(h:Qa K c)(hf:FOK f)(h25:25≤K)(hK:K≤390000):T (Znm c f) fun r=>Qa (K+f.2.2.2.1.length+2) r.1.1:=by
 have m:=h.mono (K':=K+f.2.2.2.1.length+2) (by omega)
 have cp: ∀v:Int,T (Option.bind (Zw c) fun t=>some ((t.1,(v,())),())) fun r=>Qa (K+f.2.2.2.1.length+2) r.1.1:=fun v=>by
  rw[Kg h (by omega),Option.bind_some];exact T.pure m
 unfold Znm
 refine(Zn5 h (by omega)).bind fun t _=>T.bind (Q:=fun _=>True) (T.if T.tt (Zu2 hf)) fun t _=>T.if (cp 7) ((Q6r _ _).bind fun t _=>T.if (cp 5) ((Zsy h h25 (by omega) _).bind fun x hx=>T.if (cp _) ((Zc4 hx (by omega) _).bind fun s hs=> ?_)))
 obtain⟨r,v,e,hr⟩:=Qje hs.snd f.2.2.2.2.2.1 (by omega)
 rw[e,Option.bind_some]
 have j: ∀(t x:Zg) (s:Zn),Qa K x→Jn K s→T (Zd2 t x s) fun r=>Qa (K+f.2.2.2.1.length+2) r.1.1:=fun t x s hx hs=>by
  unfold Zd2
  exact(Zx5 hx hs (Nat.le_refl _) (by omega)).bind fun t ht=>T.pure (ht.mono (by omega))
 exact T.if (j _ _ _ hx (by exact⟨hr,hs.rcv⟩)) (j _ _ _ hx hs)
theorem Qjb(c:Zeo)(n:Int):TT (Zi7 c n):=by
 unfold Zi7
 exact(tt1 (Ziu c)).bind fun t _=>T.bind (Q:=fun _=>True) (T.if T.tt (Qqj _)) fun t _=>T.if T.tt T.tt
theorem Qja(c:Zjp)(n:Int):TT (Zi6 c n):=by
 unfold Zi6
 exact(tt1 (Zu1 c)).bind fun t _=>T.if T.tt T.tt
theorem Qv3{K:Nat}{c:Zg}{f:Zh}(h:Qa K c)(hf:FOK f)(h25:25≤K)(hK:K≤390000):T (Zl1 c f) fun r=>Qa (K+f.2.2.2.1.length+2) r.1:=by
 have m:=h.mono (K':=K+f.2.2.2.1.length+2) (by omega)
 have cp: ∀v:Int,T (Option.bind (Zw c) fun t=>some (t.1,v,())) fun r=>Qa (K+f.2.2.2.1.length+2) r.1:=fun v=>by
  rw[Kg h (by omega),Option.bind_some];exact T.pure m
 have e2: ∀t x,Qa (K+f.2.2.2.1.length+2) x→T (Zl9 t x) fun r=>Qa (K+f.2.2.2.1.length+2) r.1:=fun t x hx=>T.pure hx
 have e1: ∀t b,T (Zhp c f t b) fun r=>Qa (K+f.2.2.2.1.length+2) r.1:=fun t b=>by
  unfold Zhp
  exact T.if (cp _) ((Zsy h h25 (by omega) _).bind fun x hx=>T.if (cp _) (T.if ((Zc4 hx (by omega) _).bind fun s hs=>(Qjb _ _).bind fun t _=>(Yo hx.str (by exact⟨hs.snd,hs.rcv⟩) (Nat.le_refl _) (by omega)).bind fun t3 h3=>e2 _ _ ((hx.up (by omega) h3).mono (by omega))) (e2 _ _ (hx.mono (by omega)))))
 have el:T (Zrj c f) fun r=>Qa (K+f.2.2.2.1.length+2) r.1:=by
  unfold Zrj
  exact(Q6r _ _).bind fun t _=>T.if ((Q34 _ _).bind fun t _=>e1 _ _) (e1 _ _)
 have j1: ∀t x,Qa (K+f.2.2.2.1.length+2) x→T (Zgd t x) fun r=>Qa (K+f.2.2.2.1.length+2) r.1:=fun t x hx=>T.pure hx
 have j3: ∀t b,T (Zco c f t c b) fun r=>Qa (K+f.2.2.2.1.length+2) r.1:=fun t b=>by
  unfold Zco
  exact T.if (el.bind fun r hr=>T.pure hr) (T.pure m)
 have j2: ∀t k b,T (Zcn c f t c k b) fun r=>Qa (K+f.2.2.2.1.length+2) r.1:=fun t k b=>by
  unfold Zcn
  exact T.if (T.pure m) (T.if (j3 _ _) (j3 _ _))
 unfold Zl1
 rw[Kg h (by omega),Option.bind_some]
 exact(Zn5 h (by omega)).bind fun t _=>T.bind (Q:=fun _=>True) (T.if T.tt (Zu2 hf)) fun t _=>T.if (T.pure m) (T.if ((Qjb _ _).bind fun t _=>T.pure (by exact⟨m.str,m.pk⟩)) (T.if (T.if ((Qja _ _).bind fun t _=>j1 _ _ (by exact⟨m.str,m.pk⟩)) ((Qja _ _).bind fun t _=>j1 _ _ (by exact⟨m.str,m.pk⟩))) (T.if (j2 _ _ _) (j2 _ _ _))))
theorem Qv2{K:Nat}{c:Zg}{f:Zh}(h:Qa K c)(hf:FOK f)(h25:25≤K)(hK:K≤390000):T (Zg5 c f) fun r=>Qa (K+f.2.2.2.1.length+2) r.1.1:=by
 have j1: ∀t x e,Qa (K+f.2.2.2.1.length+2) x→T (Wn t x e) fun r=>Qa (K+f.2.2.2.1.length+2) r.1.1:=fun t x e hx=>T.pure hx
 unfold Zg5
 rw[Kg h (by omega),Option.bind_some]
 exact T.if ((Qx4 h hf h25 hK).bind fun r hr=>j1 _ _ _ hr) (T.if ((Qv4 h hf h25 hK).bind fun r hr=>j1 _ _ _ hr) (T.if ((Qx5 h hf h25 hK).bind fun r hr=>j1 _ _ _ hr) ((Qv3 h hf h25 hK).bind fun r hr=>j1 _ _ _ hr)))
theorem Qwm{K:Nat}{c:Zg}(h:Qa K c)(hK:K≤1000000)(n:Int):T (Zm4 c n) fun r=>Qqs r.1.2.1:=by
 have hl:=h.pk.1
 have lp: ∀(t:Q4) (N i:Nat),c.2.2.2.2.2.2.2.2.2.2.2.2.2.2.2.1.length-i<N→i≤c.2.2.2.2.2.2.2.2.2.2.2.2.2.2.2.1.length→T (Zhf N n c t (i:Int)) fun r=>Qqs r.1.2.1:=by
  intro t N
  induction N with
  |zero=>intro i h;omega
  |succ N ih=>
   intro i hN hi
   unfold Zhf
   refine T.ite (fun hc=> ?_) fun hc=>T.pure ⟨Nat.zero_le _,fun f hf=>by cases hf⟩
   have hc:=of_decide_eq_true hc
   have hm:=h.pk.2 _ (Qx (d:=Qz) (show i<c.2.2.2.2.2.2.2.2.2.2.2.2.2.2.2.1.length by omega))
   refine T.guard (by omega) (T.if (T.guard (by omega) (T.guard ?_ (T.pure hm))) ?_)
   ·have:=hm.1
    unfold Qv
    rw[show(i:Int).toNat=i from rfl]
    simp only[List.length_nil];omega
   ·rw[Zo (m:=c.2.2.2.2.2.2.2.2.2.2.2.2.2.2.2.1.length) (by omega) (by omega)]
    exact ih (i+1) (by omega) (by omega)
 unfold Zm4
 exact lp _ _ 0 (by unfold Zjx;omega) (by omega)
theorem Qzr{K:Nat}{c:Zg}(h:Qa K c)(hK:K≤1000000)(n:Int):T (Zp3 c n) fun r=>Qa K r.2.1:=by
 have hl:=h.pk.1
 have lp: ∀(N i:Nat) (o:List Q4),c.2.2.2.2.2.2.2.2.2.2.2.2.2.2.2.1.length-i<N→i≤c.2.2.2.2.2.2.2.2.2.2.2.2.2.2.2.1.length→Qu8 i o→T (Zcd N c n o (i:Int)) fun r=>Qa K r.2.1:=by
  intro N
  induction N with
  |zero=>intro i o h;omega
  |succ N ih=>
   intro i o hN hi ho
   unfold Zcd
   refine T.ite (fun hc=> ?_) fun hc=>T.pure ⟨h.str,ho.mono (by omega)⟩
   have hc:=of_decide_eq_true hc
   have hm:=h.pk.2 _ (Qx (d:=Qz) (show i<c.2.2.2.2.2.2.2.2.2.2.2.2.2.2.2.1.length by omega))
   have j: ∀o,Qu8 (i+1) o→T (Zje (fun v=>Zcd N v.1 v.2.1 v.2.2.1 v.2.2.2.1) c n o (i:Int)) fun r=>Qa K r.2.1:=fun o ho=>by
    unfold Zje
    rw[Zo (m:=c.2.2.2.2.2.2.2.2.2.2.2.2.2.2.2.1.length) (by omega) (by omega)]
    exact ih (i+1) o (by omega) (by omega) ho
   exact T.guard (by omega) (T.if (T.guard (by omega) (T.guard (by have:=ho.1;unfold Qv;simp only[List.length_singleton];omega) (j _ ⟨by have:=ho.1;simp;omega,fun p hp=>by
    rcases List.mem_append.1 hp with hp|hp
    ·exact ho.2 p hp
    ·rw[List.mem_singleton.1 hp];exact hm⟩))) (j _ (ho.mono (by omega))))
 unfold Zp3
 exact lp _ 0 _ (by unfold Zlh;omega) (by omega) ⟨by simp,by simp⟩
theorem Qxh(f:Zh):TT (K6 f):=by
 have j: ∀b,TT (X9 b):=fun b=>by unfold X9;exact T.if T.tt T.tt
 unfold K6
 exact T.if (j _) (T.if (j _) (T.if (j _) (T.if (j _) (j _))))
theorem Q5a{K:Nat}{x:Zg}(h:Qa K x)(hK:K+1≤500000)(f:Zh):T (Ztg x f) fun r=>Qa (K+1) r.2.1:=by
 have m:=h.mono (K':=K+1) (by omega)
 have j2: ∀s,Jn K s→T (Wx x s) fun r=>Qa (K+1) r.2.1:=fun s hs=>by
  unfold Wx
  exact(Yo h.str hs (Nat.le_refl _) hK).bind fun t ht=>T.pure (h.up (by omega) ht)
 have j1: ∀s b,Jn K s→T (Yx x f s b) fun r=>Qa (K+1) r.2.1:=fun s b hs=>by
  unfold Yx
  refine T.bind (Q:=fun _=>True) (T.if T.tt (Qxh f)) fun t _=>T.if (T.pure m) (T.if ?_ (T.if (j2 _ (by exact⟨hs.snd,hs.rcv⟩)) (T.if (j2 _ (by exact⟨hs.snd,hs.rcv⟩)) (T.if (j2 _ (by exact⟨hs.snd,hs.rcv⟩)) (j2 _ hs)))))
  refine T.bind (Q:=fun _=>True) ⟨_,rfl,trivial⟩ fun p _=> ?_
  obtain⟨y,e,hy⟩:=Q0y hs.snd p.1 (by omega)
  rw[e,Option.bind_some]
  exact j2 _ ⟨hy,hs.rcv⟩
 unfold Ztg
 simp only[Vp,Vd]
 exact T.if (T.pure (by exact⟨m.str,m.pk⟩)) (T.if (T.if (T.pure (by exact⟨m.str,m.pk⟩)) (T.pure (by exact⟨m.str,m.pk⟩))) ((Zc4 h (by omega) _).bind fun s hs=>j1 _ _ hs))
theorem Q7a{K:Nat}{x:Zg}(h:Qa K x)(hK:K+1≤500000)(f:Zh):T (Zvr x f) fun r=>Qa (K+1) r.2.1:=by
 have m:=h.mono (K':=K+1) (by omega)
 have j2: ∀s,Jn K s→T (Zbo x s) fun r=>Qa (K+1) r.2.1:=fun s hs=>by
  unfold Zbo
  exact(Zx5 h hs (Nat.le_refl _) hK).bind fun t ht=>T.pure ht
 have j1: ∀s b,Jn K s→T (Kf x f s b) fun r=>Qa (K+1) r.2.1:=fun s b hs=>by
  unfold Kf
  refine T.bind (Q:=fun _=>True) (T.if T.tt (Qxh f)) fun t _=>T.if (T.pure m) (T.if ?_ (T.if ?_ (T.if (j2 _ (by exact⟨hs.snd,hs.rcv⟩)) (j2 _ hs))))
  ·refine T.bind (Q:=fun _=>True) ⟨_,rfl,trivial⟩ fun p _=> ?_
   obtain⟨y,e,hy⟩:=Q1s hs.snd p.1 (by omega)
   rw[e,Option.bind_some]
   exact j2 _ ⟨hy,hs.rcv⟩
  ·obtain⟨y,ok,e,hy⟩:=Q1t hs.snd (by omega)
   rw[e,Option.bind_some]
   exact T.if (j2 _ (by exact⟨hy,hs.rcv⟩)) (j2 _ (by exact⟨hy,hs.rcv⟩))
 unfold Zvr
 simp only[Vp,Vd]
 exact(Zc4 h (by omega) _).bind fun s hs=>j1 _ _ hs
theorem Qye{K:Nat}{c:Zg}(h:Qa K c)(hK:K≤400000)(n:Int):T (Zcb c n) fun r=>Qa (K+1000) r.1.1:=by
 have m:=h.mono (K':=K+1000) (by omega)
 unfold Zcb
 rw[Kg h (by omega),Option.bind_some]
 refine(Qwm h (by omega) n).bind fun p hp=>(Zls h (by omega)).bind fun t _=>T.if (T.pure m) ((Qzr h (by omega) n).bind fun x hx=> ?_)
 have hl:=hp.1
 have lp: ∀(t:Zg) (N i:Nat) (x:Zg),p.1.2.1.length-i<N→i≤p.1.2.1.length→Qa (K+i) x→T (Zd8 N t x p.1 (i:Int)) fun r=>Qa (K+1000) r.1.1:=by
  intro t N
  induction N with
  |zero=>intro i x h;omega
  |succ N ih=>
   intro i x hN hi hx
   unfold Zd8
   refine T.ite (fun hc=> ?_) fun hc=>T.pure (hx.mono (by omega))
   have hc:=of_decide_eq_true hc
   refine T.guard (by omega) ((Q5a hx (by omega) _).bind fun y hy=> ?_)
   rw[Zo (m:=p.1.2.1.length) (by omega) (by omega)]
   exact ih (i+1) _ (by omega) (by omega) hy
 exact lp _ _ 0 _ (by unfold Zg6;omega) (by omega) hx
theorem Q0c{K:Nat}{c:Zg}(h:Qa K c)(hK:K≤400000)(n:Int):T (Zds c n) fun r=>Qa (K+1000) r.1.1:=by
 have m:=h.mono (K':=K+1000) (by omega)
 unfold Zds
 rw[Kg h (by omega),Option.bind_some]
 refine(Qwm h (by omega) n).bind fun p hp=>(Zls h (by omega)).bind fun t _=>T.if (T.pure m) ((Qzr h (by omega) n).bind fun x hx=> ?_)
 have hl:=hp.1
 have lp: ∀(t:Zg) (N i:Nat) (x:Zg),p.1.2.1.length-i<N→i≤p.1.2.1.length→Qa (K+i) x→T (Zfg N t x p.1 (i:Int)) fun r=>Qa (K+1000) r.1.1:=by
  intro t N
  induction N with
  |zero=>intro i x h;omega
  |succ N ih=>
   intro i x hN hi hx
   unfold Zfg
   refine T.ite (fun hc=> ?_) fun hc=>T.pure (hx.mono (by omega))
   have hc:=of_decide_eq_true hc
   refine T.guard (by omega) ((Q7a hx (by omega) _).bind fun y hy=> ?_)
   rw[Zo (m:=p.1.2.1.length) (by omega) (by omega)]
   exact ih (i+1) _ (by omega) (by omega) hy
 exact lp _ _ 0 _ (by unfold Zib;omega) (by omega) hx
theorem Zln(c:Qm)(n:Int)(h:Kv c):T (Qo c n) fun r=>Kv r.2.1∧0≤r.1.1∧(0<n→r.1.1<n):=by
 obtain⟨x,c',e,h1,h2,h3⟩:=Ztm c n h;exact⟨_,e,h1,h2,h3⟩
theorem Qs1(c:Qm)(n:Int)(h:Kv c):T (Zdb c n) fun r=>Kv r.2.1:=by
 obtain⟨b,c',e,h1⟩:=Q2b c n h;exact⟨_,e,h1⟩
theorem Q32(c:Qm)(l:List Int)(h:Kv c)(hl:0<l.length):T (Zhq c l) fun r=>Kv r.2.1∧r.1.1∈l:=by
 obtain⟨b,c',e,h1,h2⟩:=Q2c c l h hl;exact⟨_,e,h1,h2⟩
theorem Q33(c:Qm)(l:List (List UInt8))(h:Kv c)(hl:0<l.length):T (Zld c l) fun r=>Kv r.2.1∧r.1.1∈l:=by
 obtain⟨b,c',e,h1,h2⟩:=Qr7 c l h hl;exact⟨_,e,h1,h2⟩
theorem Qqi(c:Qm)(most:Nat)(h:Kv c)(hm:most≤1000):T (Wy c (most:Int)) fun r=>Kv r.2.1∧r.1.1.length≤most:=by
 obtain⟨t,c',e,h1,h2⟩:=Q2a c most h hm;exact⟨_,e,h1,h2⟩
theorem Q7c(f:Zh)(h:FOK f):T (Zh7 f) fun r=>FOK r.1:=by
 have j2: ∀t x b,FOK x→T (Zh1 f t x b) fun r=>FOK r.1:=fun t x b hx=>by
  unfold Zh1
  exact T.if (T.pure (by exact hx)) (T.pure (by exact hx))
 have j1: ∀t x,FOK x→T (Zh0 f t x) fun r=>FOK r.1:=fun t x hx=>by
  unfold Zh0
  exact T.if (T.pure (by exact hx)) (T.if (T.pure (by exact hx)) (T.if (T.pure (by exact h)) (T.if (j2 _ _ _ hx) (j2 _ _ _ hx))))
 unfold Zh7
 exact(Qxh f).bind fun t _=>T.if (j1 _ _ (Qk8 _ _ _ _)) (j1 _ _ (Qk8 _ _ _ _))
theorem Q5f(c:Qm)(hc:Kv c):T (Ztk c) fun r=>Kv r.2.1∧FOK r.1.1:=by
 unfold Ztk
 exact(Q32 c _ hc (by simp)).bind fun t1 h1=>(Zln _ _ h1.1).bind fun t2 h2=>(Zln _ _ h2.1).bind fun t3 h3=>(Qqi _ 6 h3.1 (by omega)).bind fun t4 h4=>(Qs1 _ _ h4.1).bind fun t5 h5=>(Zln _ _ h5).bind fun t6 h6=>(Zln _ _ h6.1).bind fun t7 h7=>(Zln _ _ h7.1).bind fun t8 h8=>(Qs1 _ _ h8.1).bind fun t9 h9=>
  (Q7c _ (by unfold FOK;simp only;omega)).bind fun t hf=>T.pure ⟨h9,hf⟩
theorem Qsm(n:Int):TT (Zrd n):=(tIn _ _ _).bind fun t _=>T.if T.tt T.tt
theorem Qsl(n:Int):TT (Zrb n):=(tIn _ _ _).bind fun t _=>T.if T.tt T.tt
theorem Qyi(n:Int):TT (Zg9 n):=(Qqj _).bind fun t _=>T.if T.tt T.tt
theorem Qyk(n m:Int):TT (Zhb n m):=by obtain⟨c,b,e⟩:=Qgk n m;exact⟨_,e,trivial⟩
theorem Qa.zero{c:Zg}(h1:c.2.2.2.1=[])(h2:c.2.2.2.2.2.2.2.2.2.2.2.2.2.2.2.1=[]):Qa 0 c:=⟨⟨by rw[h1];simp,by rw[h1];simp⟩,⟨by rw[h2];simp,by rw[h2];simp⟩⟩
theorem Qwj(v:Bool)(o p:Zo0):T (Zpu v o p) fun r=>Qa 0 r.1:=by
 unfold Zpu
 exact(tt1 (Zo8 o)).bind fun t _=>T.bind (Q:=fun _=>True) (T.if T.tt (tt1 (Zo8 p))) fun t _=>T.if (T.pure (Qa.zero rfl rfl)) ((Qyi _).bind fun t _=>(Qyk _ _).bind fun t _=>(Qsm _).bind fun t _=>(Qsm _).bind fun t _=>(Qsl _).bind fun t _=>(Qsl _).bind fun t _=>T.pure (Qa.zero rfl rfl))
def SQ(K:Nat)(r: (Zg×Unit)×(Qm×Unit)):Prop:=Kv r.2.1∧Qa K r.1.1
theorem Qp3(r:Zd):Zs3 r=some (Zff r,()):=rfl
theorem Zzb(l:List Zd)(hl:l.length≤8000000000): ∀(N i:Nat),l.length-i<N→i≤l.length→Zgl N l l (l.length:Int) (i:Int)=V0 N l (i:Int)
 |0,_,h,_=>by omega
 |N+1,i,hN,hi=>by
  rw[Zgl,V0]
  by_cases hh:i<l.length
  ·have g: ∀{a:Prop},a→decide ((i:Int)>0)=true→0≤IntKind.i64.wrap ((i:Int)-1)∧IntKind.i64.wrap ((i:Int)-1)< (l.length:Int):=fun _ h=>by
    have:=of_decide_eq_true h;rw[Zv (by omega) (by omega)];omega
   rw[Zm (Zj (by omega)),Zm (Zj (by omega)),Zc (by omega),Zc (by omega),Qp3,Zyl,Option.bind_some,Option.bind_some,Zc (fun h h2=>g h h2),Zc (fun h h2=>g h h2),Zc (fun _ _=>by omega),Zo hh (by omega),Zzb l hl N (i+1) (by omega) (by omega)]
  ·rw[Zi (Zk (by omega)),Zi (Zk (by omega))]
theorem Zx4(l:List Zd)(hl:l.length≤8000000000):V6 l=some (rsB (-1) l,()):=by
 have e:Zjs l l (l.length:Int) 0=Zak l 0:=rfl
 rw[←Zwg l (by omega),V6,Y1,e]
 exact Zzb l hl _ 0 (by unfold Zak;omega) (by omega)
theorem Qox(l:List Zd)(hl:l.length≤1048576): ∀(N i:Nat) (n:Int),l.length-i<N→i≤l.length→rsB (-1) l=true→Zbc N n l (l.length:Int) (i:Int)=Y3 N l n (i:Int)
 |0,_,_,h,_,_=>by omega
 |N+1,i,n,hN,hi,hr=>by
  rw[Zbc,Y3]
  by_cases hh:i<l.length
  ·rw[Zm (Zj (by omega)),Zm (Zj (by omega)),Zc (by omega),Zc (by omega)]
   have hw:IntKind.i64.wrap (n+IntKind.i64.wrap ((l.getD (i:Int).toNat Zx).2.1- (l.getD (i:Int).toNat Zx).1))=IntKind.i64.wrap (IntKind.i64.wrap (n+ (l.getD (i:Int).toNat Zx).2.1)- (l.getD (i:Int).toNat Zx).1):=by
    unfold IntKind.wrap
    simp[IntKind.signed,IntKind.bits]
    omega
   rw[hw,Zo hh (by omega),Qox l hl N (i+1) _ (by omega) (by omega) hr]
   try rw[Zc (by omega)]
  ·rw[Zi (Zk (by omega)),Zi (Zk (by omega))]
theorem Zqu(l:List Zd)(hl:l.length≤1048576):Wa l=some (if rsB (-1) l=true then J8 l else-1,()):=by
 rw[←Zcu l hl,Wa,Js,Zx4 l (by omega),Zwg l (by omega),Option.bind_some,Option.bind_some]
 cases hr:rsB (-1) l
 ·rfl
 ·exact Qox l hl _ 0 0 (by unfold Zex;omega) (by omega) hr
theorem Qae(l:List Zd)(hl:l.length≤8000000000):Zb7 l=some (l,()):=by
 unfold Zb7
 rw[Zc (by unfold Qv;simp;omega)];simp
theorem Qik: ∀(N:Nat) (pre rest:List Zd) (r:Zd) (out:List Zd),(pre++rest).length≤8000000000→rest.length<N→out.length≤pre.length+1→r.1<r.2.1→(∀x∈rest,r.2.1<x.1∧x.1<x.2.1)→
  Yf N r out true (pre++rest) ((pre++rest).length:Int) (pre.length:Int)=some (out++rest,())
 |0,_,_,_,_,_,h,_,_,_=>by omega
 |N+1,pre,[],r,out,hl,hN,ho,hr,hx=>by
  unfold Yf
  rw[Zi (by simp)];simp
 |N+1,pre,x::rest,r,out,hl,hN,ho,hr,hx=>by
  have hlen: (pre++x::rest).length=pre.length+rest.length+1:=by simp;omega
  simp only[List.length_cons]at hN
  have hxx:=hx x (by simp)
  unfold Yf
  rw[Zm (Zj (by rw[hlen];omega)),Zc (by rw[hlen];omega),V9,Zi (Zk (by omega)),Zm (Zj (by omega)),Zi (by rfl)]
  unfold Zgj
  rw[Zc (by unfold Qv;simp;omega),Zo (m:=pre.length+1) (by omega) (by omega)]
  have ih:=Qik N (pre++ [x]) rest r (out++ [x]) (by simp;omega) (by omega) (by simp;omega) hr (fun y hy=>hx y (by simp[hy]))
  rw[show(pre++ [x])++rest=pre++x::rest by simp,show((pre++ [x]).length:Int)=((pre.length+1:Nat):Int) by simp]at ih
  simp only[ih]
  simp
theorem Qeo: ∀(N:Nat) (pre rest:List Zd) (r:Zd) (out:List Zd) (lo:Int),(pre++rest).length≤8000000000→rest.length<N→out.length≤pre.length→r.1<r.2.1→rsB lo rest=true→
  Yf N r out false (pre++rest) ((pre++rest).length:Int) (pre.length:Int)=some (out++Zmi rest r,())
 |0,_,_,_,_,_,_,h,_,_,_=>by omega
 |N+1,pre,[],r,out,lo,hl,hN,ho,hr,hx=>by
  simp only[List.append_nil]at hl
  unfold Yf
  rw[Zi (by simp),Zm (by rfl),Zc (by unfold Qv;simp;omega)];rfl
 |N+1,pre,x::rest,r,out,lo,hl,hN,ho,hr,hx=>by
  have hlen: (pre++x::rest).length=pre.length+rest.length+1:=by simp;omega
  simp only[List.length_cons]at hN
  obtain⟨hf,hlo,hrest⟩:=J3.1 hx
  have hf:=Q2.1 hf
  unfold Yf
  rw[Zm (Zj (by rw[hlen];omega)),Zc (by rw[hlen];omega),V9]
  have es: (pre++ [x])++rest=pre++x::rest:=by simp
  have ec: ((pre++ [x]).length:Int)=((pre.length+1:Nat):Int):=by simp
  rw[Zo (m:=pre.length+1) (by omega) (by omega)]
  by_cases h1:x.2.1<r.1
  ·rw[Zm (Zj h1),Zc (by unfold Qv;simp;omega)]
   have ih:=Qeo N (pre++ [x]) rest r (out++ [x]) x.2.1 (by simp;omega) (by omega) (by simp;omega) hr hrest
   rw[es,ec]at ih
   rw[ih,Zmi,if_pos h1];simp
  ·rw[Zi (Zk h1)]
   by_cases h2:x.1>r.2.1
   ·rw[Zm (Zj h2),Zm (by rfl),Zc (by unfold Qv;simp;omega)]
    unfold Zgj
    rw[Zc (by unfold Qv;simp;omega),Zo (m:=pre.length+1) (by omega) (by omega)]
    have low:=Zvo hrest
    have ih:=Qik N (pre++ [x]) rest r (out++ [r]++ [x]) (by simp;omega) (by omega) (by simp;omega) hr (fun y hy=>by
     have h3:=low y hy
     have h4:=Q2.1 h3.2
     omega)
    rw[es,ec]at ih
    simp only[ih]
    rw[Zmi,if_neg h1,if_pos h2];simp
   ·rw[Zi (Zk h2)]
    have ih:=Qeo N (pre++ [x]) rest (min r.1 x.1,max r.2.1 x.2.1,()) out x.2.1 (by simp;omega) (by omega) (by simp;omega) (by simp only;omega) hrest
    rw[es,ec]at ih
    rw[ih,Zmi,if_neg h1,if_neg h2]
theorem Qmj(l:List Zd)(r:Zd)(hl:l.length≤8000000000):Zjk l r=some (if rsB (-1) l=true∧Zff r=true then Zmi l r else l,()):=by
 unfold Zjk
 rw[Zx4 l (by omega),Option.bind_some,Qp3,Qae l (by omega)]
 cases hr:rsB (-1) l
 ·rfl
 ·cases hf:Zff r
  ·rfl
  ·have hf:=Q2.1 hf
   rw[if_pos ⟨rfl,rfl⟩]
   have h:=Qeo (Zep r [] false l (l.length:Int) 0) [] l r [] (-1) (by simpa using hl) (by unfold Zep;omega) (by simp) hf.2.1 hr
   exact h
theorem Q2v(l:List Zd)(hl:l.length≤1048576): ∀(N i:Nat) (n:Int),l.length-i<N→i≤l.length→Zde N n l (l.length:Int) (i:Int)=Jg N l n (i:Int)
 |0,_,_,h,_=>by omega
 |N+1,i,n,hN,hi=>by
  rw[Zde,Jg]
  by_cases hh:i<l.length
  ·have ih:=fun n=>Q2v l hl N (i+1) n (by omega) (by omega)
   rw[Zm (Zj (by omega)),Zm (Zj (by omega)),Zc (by omega),Zc (by omega),Zo hh (by omega),ih,ih]
   try rw[Zc (fun _=>by omega)]
   try rw[Zc (by omega)]
   unfold Zg4
   rw[Zo hh (by omega)]
  ·rw[Zi (Zk (by omega)),Zi (Zk (by omega))]
theorem Q0n(l:List Zd)(f:Int)(hl:l.length≤1048576):Zqv l f=some (if rsB (-1) l=true∧0≤f then Z4e l f else-1,()):=by
 rw[←Qb2 l f hl,Zqv,Zf4,Zx4 l (by omega),Zwg l (by omega),Option.bind_some,Option.bind_some]
 cases (!rsB (-1) l)||decide (f<0)
 ·exact Q2v l hl _ 0 f (by unfold Zjr;omega) (by omega)
 ·rfl
theorem Qge(l:List Zd)(hl:l.length≤1048576):V6 l=some (rsB (-1) l,()):=Zx4 l (by omega)
theorem Qiu(l:List Zd)(hl:l.length≤1048576):Zb7 l=some (l,()):=Qae l (by omega)
theorem Q0d(l:List Zd)(r:Zd)(hl:l.length≤1048576):Zjk l r=some (if rsB (-1) l=true∧Zff r=true then Zmi l r else l,()):=Qmj l r (by omega)
end Go.Proofs.YtpadmiphiogdhaaGreat

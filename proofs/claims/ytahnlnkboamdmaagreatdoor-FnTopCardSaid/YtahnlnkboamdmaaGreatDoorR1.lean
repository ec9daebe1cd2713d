/- No condition. -/
import Derived.Test.YtahnlnkboamdmaaGreatDoorK2
import Derived.Test.YtahnlnkboamdmaaGreatDoorP4
import Derived.KernelRfl
import Derived.Test.YtahnlnkboamdmaaGreatDoorCards
import Derived.Test.YtahnlnkboamdmaaGreatDoorTie
import Derived.ProofKit
import Derived.LaidMore
import Derived.OpenShut
import Derived.Stop.Joined
import Derived.SevenTiedAt
import Derived.Lib.LaidTab
import Derived.Stop.LaidErr
import Derived.LaidHandle
import Derived.Lay
import Derived.Lib.ItoaLen
set_option linter.all false
namespace Go.Proofs.YtahnlnkboamdmaaGreatDoor
open Go.Am Go.ChangeShapes Go.WideShapes Go.ChangeAt Go.RowKit
section
variable {K:Nat}{v:Bool}{c y:Ze}
theorem Qp7{K':Nat}(A:AD K v c)(B:AD K' v y)(hK:K<=1000000)(hK':K'<=1000000)(U:UpC c y)(K1:(Ze×List Yk×Int×Unit)->Option (Bool×Unit))(l:List Yk)(i:Int):∀(N k:Nat),c.2.2.2.1.length-k<N->k<=c.2.2.2.1.length->yw K1 N c l i y (k:Int)=K1 (y,l,IntKind.i64.wrap (i+1),())
 |0,_,h,_=>Aa
 |N+1,k,hN,hk=>by
  have hl:=A.inv.str.len;have hly:=B.inv.str.len;unfold yw gG gK;by_cases hh:k<c.2.2.2.1.length
  ·have hm:=Z2 (d:=Zc) hh;obtain⟨x,hx,ex,u⟩:=U.2 _ hm;have hi:0<=Z8 y.2.2.2.1 (c.2.2.2.1.getD k Zc).1:=Z55 Aa ⟨x,hx,ex⟩;obtain⟨m1,m2,m3,m4,m5,m6⟩:=AU.mem B Aa hi;have exa:x=atV y (c.2.2.2.1.getD k Zc).1:=Zso B.srt hx m1 (ex.trans m3.symm);have es:KW y (c.2.2.2.1.getD k Zc).1=some (x,true,()):=by
    unfold KW gG gK;rw[uC Aa,QD Aa,pA,Zp (Zm),Zb];show Option.bind (eu (atV y (c.2.2.2.1.getD k Zc).1)) _=_;rw[Zca m6,exa];rfl
   rw[Zn (Zl),Zb,Xr,show(k:Int).toNat=k from rfl,es,pA];unfold Zd8 gG gK;rw[<-exa]at m4 m6;have u1:=u.hg;have u2:=u.sn;have u3:=u.st;have u4:=u.cl;have u5:=u.wl;have u6:=u.fn
   have c1:=m4.F.cre.use;have w1:=m4.F.win.seen;have w2:=m4.ws
   have r1:=((VV m6.rcv).1 m4.F.rcv).fin;unfold mY at u1 w2;unfold j0 at u2;rw[Zb,show(k:Int).toNat=k from rfl];simp only;rw[Zm (show ¬x.2.2.2.1.2.2.2.1<_ by omega),Zm (show ¬x.2.1.2.2.2.2.2.2.2.1<_ by omega),Zm (show ¬x.2.1.1<_ by omega),Zm (show ¬x.2.2.1.1<_ by omega),Zm (show ¬x.2.2.2.2.1.2.2.1<_ by omega),Zm (show ¬x.2.2.1.2.1>_ by omega),Zm (show ¬x.2.2.2.1.2.2.2.1>x.2.2.2.2.1.2.2.1 by omega)];simp only[pI,Bool.or_self,pH];have g1:(((c.2.2.2.1.getD k Zc).2.2.2.1.2.2.1 !=(-1:Int))&&(x.2.2.2.1.2.2.1 !=(c.2.2.2.1.getD k Zc).2.2.2.1.2.2.1))=false:=by
    grind
   have g2:((x.2.2.2.1.2.2.1 !=(-1:Int))&&decide (x.2.2.2.1.2.2.2.1>x.2.2.2.1.2.2.1))=false:=by
    rcases r1 with q|q
    ·rw[q];rfl
    grind
   rw[g1,g2,Bool.or_self,pH,Zs hh];exact Qp7 A B hK hK' U K1 l i N (k+1) Aa Aa
  ·have t1:=B.tot.use;have t2:=B.inf.seen;have t3:=U.1
   grind
theorem Qp6{l:List Yk}(hl:l.length<=20)(he:∀e∈l,Z4y e):∀(N i K:Nat)(c:Ze),AD K v c->25<=K->K+2100*(l.length-i)<=70000->l.length-i<N->i<=l.length->tu N c l (i:Int)=some (true,())
 |0,_,_,_,_,_,_,h,_=>Aa
 |N+1,i,K,c,A,h25,hK,hN,hi=>by
  unfold tu gG gO;by_cases hh:i<l.length
  ·have hm:=he _ (Z2 (d:=KK) hh);obtain⟨o,y,e1,e2,e3,B,U⟩:=Qqm A h25 Aa hm;obtain⟨d1,d2⟩:=Qlr B Aa;rw[Zn (Zl),Zb,Xr,show(i:Int).toNat=i from rfl,e2,pA];unfold Zd6 gG gO;rw[Zb,Xr,show(i:Int).toNat=i from rfl,e1,pA];unfold Zd7 gH;have hc:gz c=some (Zix c !=(0:Int),()):=rfl;simp only[beq_self_eq_true,pI,pH,Qo2 B.inv (show K+2100<=1000000 by omega),pA,Bool.or_self,d1,d2,hc];have nx:=Qp7 A B Aa Aa U (λv=>tu N v.1 v.2.1 v.2.2.1) l (i:Int) (rD c l (i:Int) y 0) 0 (by simp[rD]) Aa;rw[Int.natCast_zero]at nx;have ih:=Qp6 hl he N (i+1) (K+2100) y B Aa Aa Aa Aa;rw[Zs hh]at nx;cases hz:Zix c !=(0:Int)
   ·simp_all
   ·obtain⟨q1,q2⟩:=e3 (by simpa using hz);have hs:ym c=some (true,()):=by
     rw[Qxc A.inv Aa,AU.cb A,hz];rfl
    rw[q1,q2];rw[q2]at nx ih;simp only[beq_self_eq_true,pI,pH,pG,Qo2 A.inv (show K<=1000000 by omega),pA,Bool.or_self,hs,Bool.and_false];simp_all
  grind
end
theorem Qm2(code:List Int):Zgl code=some (true,()):=by
 unfold Zgl Z0i;rw[pA];by_cases hb:(code.length:Int)>1048576
 ·simp_all
 ·rw[Zp (Zm hb)];obtain⟨⟨c,l,u⟩,e,⟨v,A⟩,hl,he⟩:=Quo code Aa;rw[e,pA];exact Qp6 hl he _ 0 25 c A Aa Aa (by simp[zM]) Aa
theorem Qjd:∀xs:dp Zf7.args,wfA Zf7.args xs->Zgl xs.1=some (true,()):=λxs _=>Qm2 xs.1
theorem Qfu:ownKnob Tryz.prog.godebug=none:=Ah
theorem Qa0(os:Os)(args:Array Value):laidMetH Tryz.prog Rows.fnTopRow.laid ((World.laidAll Tryz.prog os Rows.fnTopRow.laid).forCall (λ_ _=>0) ⟨#[],args,[]⟩).memory:=by
 rw[MakeChecks.laidMetH_plain _ _ _ Ah];exact laidMet_laidAll _ Ah Ah
theorem Qfv{W:World}(h:laidMetH Tryz.prog Rows.fnTopRow.laid W)(hs:W.ShapedOpen Tryz.prog):glob.G W:=by
 rw[MakeChecks.laidMetH_plain _ _ _ Ah]at h;have t0 : W.var? Tryz.prog "loop.example/g01633/impl.eventWords" = some (VZ.map fun z => Value.string ⟨⟨z⟩⟩).toArray :=
  Z7b (g := 0) (t := 207) (e := 9) (n := 13) (rest := Rows.fnTopRow.laid.drop 5) Ah Ah Ah Ah Ah Ah (show laidMet Tryz.prog (("loop.example/g01633/impl.eventWords", Z7a VZ) :: Rows.fnTopRow.laid.drop 5) W from h.tail.tail.tail.tail)
 have t1 : Go.Lib.TabIs Tryz.prog W "internal/strconv.uint64pow10" .u64 Go.Lib.pow10Tab :=
  Go.Lib.tabIs_of_head (g := 1) (t := 346) (e := 314) (n := 20) (rest := Rows.fnTopRow.laid.drop 3) Ah Ah Ah Ah Ah Ah (show laidMet Tryz.prog (("internal/strconv.uint64pow10", Go.Lib.tabData .u64 Go.Lib.pow10Tab) :: Rows.fnTopRow.laid.drop 3) W from h.tail.tail)
 obtain⟨m2,t2⟩:=cell_of_shapedOpen_int (P:=Tryz.prog) (g:=4) (t:=3) (zero:= #[.int .i64 0]) hs (pE Ah) Ah rfl Ah Ah Tryz.underlying3;intro p hp;simp only[List.mem_cons,List.not_mem_nil,or_false]at hp;rcases hp with rfl|rfl|rfl
 ·exact⟨_,t0,rfl⟩
 ·exact⟨_,t1,rfl⟩
 ·exact var?_of_cell Ah t2
end Go.Proofs.YtahnlnkboamdmaaGreatDoor

/- No condition. -/
import Derived.Test.YtglbkfajafconaaGreatDoorK1
import Derived.Test.YtglbkfajafconaaGreatDoorP2
import Derived.KernelRfl
import Derived.Test.YtglbkfajafconaaGreatDoorCards
import Derived.ProofKit
import Derived.LaidMore
import Derived.OpenShut
import Derived.Stop.Joined
import Derived.SevenTiedAt
import Derived.Lib.LaidTab
import Derived.Stop.LaidErr
import Derived.LaidHandle
import Derived.Lay
import Derived.Lib.ItoaLen
set_option linter.all false
namespace Go.Proofs.YtglbkfajafconaaGreatDoor
open Go.Am Go.ChangeShapes Go.WideShapes Go.ChangeAt Go.RowKit
theorem Qp9(s:Bool)(o p:av)(t:List UInt8):kc s o p t=some (true,()):=by
 unfold kc;by_cases ht:(t.length:Int)>1048576
 ·rw[Zo (Zl ht)]
 ·rw[Zm (Zk ht)];obtain⟨out,y,b,e1,e2,hl,h⟩:=Qqr s o p t Aa;have c:∀c:av,Ve c=some (c,()):=λ_=>rfl;obtain⟨k1,l1,a1,a2,a3,a4⟩:=Qi2 hl 1 Aa Aa;obtain⟨k2,l2,b1,b2,b3,b4⟩:=Qi1 h.str.len h.str.all k1 Aa Aa;obtain⟨k3,l3,d1,d2,d3,d4⟩:=Qi0 h.pk.1 (λx hx=>(h.pk.2 x hx).1) k2 Aa Aa;have q:vp out out=some (true,()):=Qiq Aa;unfold aL aM gG aN gG yo JB;simp(disch:=omega) only[c,e1,e2,Yb,Xm,q,Qpi h,a3,a4,b3,b4,d3,d4,mE,mB,mN,pA,pI,Bool.or_self,beq_self_eq_true,pH]
theorem Qml:∀xs:J6 fR.args,HU fR.args xs->kc xs.1 xs.2.1 xs.2.2.1 xs.2.2.2.1=some (true,()):=λxs _=>Qp9 _ _ _ _
theorem Zje:ownKnob Tryz.prog.godebug=none:=Ab
theorem Zhc(os:Os)(args:Array Value):laidMetH Tryz.prog Rows.fnExactReplayTextRow.laid ((World.laidAll Tryz.prog os Rows.fnExactReplayTextRow.laid).forCall (λ_ _=>0) ⟨#[],args,[]⟩).memory:=by
 rw[MakeChecks.laidMetH_plain _ _ _ Ab];exact laidMet_laidAll _ Ab Ab
theorem Zjf{W:World}(h:laidMetH Tryz.prog Rows.fnExactReplayTextRow.laid W)(hs:W.ShapedOpen Tryz.prog):glob.G W:=by
 rw[MakeChecks.laidMetH_plain _ _ _ Ab]at h;obtain⟨m0,t0⟩:=cell_of_shapedOpen_int (P:=Tryz.prog) (g:=1) (t:=3) (zero:= #[.int .i64 0]) hs (pE Ab) Ab rfl Ab Ab Tryz.underlying3;have t1 : W.var? Tryz.prog "loop.example/g01633/impl.eventWords" = some (KK.map fun z => Value.string ⟨⟨z⟩⟩).toArray :=
  Z9m (g := 0) (t := 202) (e := 9) (n := 13) (rest := Rows.fnExactReplayTextRow.laid.drop 3) Ab Ab Ab Ab Ab Ab (show laidMet Tryz.prog (("loop.example/g01633/impl.eventWords", Gh KK) :: Rows.fnExactReplayTextRow.laid.drop 3) W from h.tail.tail)
 have t2 : Go.Lib.TabIs Tryz.prog W "internal/strconv.uint64pow10" .u64 Go.Lib.pow10Tab :=
  Go.Lib.tabIs_of_head (g := 6) (t := 389) (e := 355) (n := 20) (rest := Rows.fnExactReplayTextRow.laid.drop 6) Ab Ab Ab Ab Ab Ab (show laidMet Tryz.prog (("internal/strconv.uint64pow10", Go.Lib.tabData .u64 Go.Lib.pow10Tab) :: Rows.fnExactReplayTextRow.laid.drop 6) W from h.tail.tail.tail.tail.tail)
 have star : "*" ++ "errors.errorString" = "*errors.errorString" := by decide
 obtain ⟨_, _, t3, _⟩ := laid_sentinel (g := 4) (ti := 204) (tp := 386) (te := 388) (ts := 9) (nm := "*errors.errorString") (r := Rows.fnExactReplayTextRow.laid.drop 4) (show laidMet Tryz.prog (("strconv.ErrSyntax", Rows.laid_strconv_ErrSyntax) :: Rows.fnExactReplayTextRow.laid.drop 4) W from h.tail.tail.tail) Ab Ab Tryz.underlying204
  (fun u hu => typeName_ptr_named (nm := "errors.errorString") (by rw [star]; kernel_rfl) Ab Ah u (by rw [star]; exact hu)) Tryz.underlying386 Tryz.underlying388 rfl rfl Tryz.underlying9 Ab Ab
 intro p hp;simp only[List.mem_cons,List.not_mem_nil,or_false]at hp;rcases hp with rfl|rfl|rfl|rfl
 ·exact var?_of_cell Ab t0
 ·exact⟨_,t1,rfl⟩
 ·exact⟨_,t2,rfl⟩
 ·exact⟨_,t3,_,_,rfl⟩
end Go.Proofs.YtglbkfajafconaaGreatDoor

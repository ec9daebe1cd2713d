/- FnLines returns true for all arguments. No condition. -/
import Derived.Test.YtplcdmnbgcgdfaaGreatDoorK2
import Derived.Test.YtplcdmnbgcgdfaaGreatDoorP2
import Derived.KernelRfl
import Derived.Test.YtplcdmnbgcgdfaaGreatDoorCards
import Derived.Test.YtplcdmnbgcgdfaaGreatDoorTie
import Derived.ProofKit
import Derived.LaidMore
import Derived.OpenShut
import Derived.Stop.Joined
import Derived.SevenTiedAt
import Derived.Lib.LaidTab
import Derived.Stop.LaidErr
import Derived.LaidHandle
import Derived.Lay
import Derived.Lib.ItoaLen
namespace Go.Proofs.YtplcdmnbgcgdfaaGreatDoor
open Go.Am Go.ChangeShapes Go.WideShapes Go.ChangeAt Go.RowKit
set_option linter.unusedVariables false
theorem Q9v(code:List Int):Zux code=some (true,()):=by
 have hbig:Qsu code=some (decide ((code.length:Int)>1048576),()):=rfl
 unfold Zux
 rw[hbig,Option.bind_some]
 by_cases hc: (code.length:Int)>1048576
 ·rw[Zk hc];rfl
 rw[Zj hc,cond_false]
 have hc:code.length≤1048576:=by omega
 obtain⟨⟨⟨p,u1⟩,u2⟩,e1,k1⟩:T (Zln code) fun r=>Vj 40000 r.1.1:=by
  unfold Zln
  exact(Qht code hc).bind fun t ht=>(Q2p _ ht).bind fun x hx=>T.pure hx.2
 obtain⟨⟨t,u3⟩,e2,k2⟩:T (Zjo code) fun r=>Q8t r.1:=by
  unfold Zjo
  exact(Qht code hc).bind fun t ht=>(Q2p _ ht).bind fun x hx=>T.ite (fun h=>by have h:=of_decide_eq_true h;exact T.guard (by omega) (T.pure (hx.2.tr _ (Qu (by simp only[Int.toNat_zero];omega))))) fun _=>T.pure ⟨Nat.zero_le _,Nat.zero_le _⟩
 obtain⟨⟨⟨q,u4⟩,u5⟩,e3,k3⟩:T (Zg9 code) fun r=>Vj 40000 r.1.1:=by
  unfold Zg9
  exact(Qht code hc).bind fun t ht=>(Q2p _ ht).bind fun x hx=>T.pure hx.2
 obtain⟨⟨⟨c,u6⟩,u7⟩,e4,k4⟩:T (Zg8 code) fun r=>Z9 40000 r.1.1:=by
  unfold Zg8
  exact(Qht code hc).bind fun t ht=>(Q2o _ ht).bind fun x hx=>T.pure (hx.2.mono (by omega))
 obtain⟨⟨⟨d,u8⟩,u9⟩,e5,k5⟩:T (Zjn code) fun r=>Z9 40000 r.1.1:=by
  unfold Zjn
  exact(Q9r code hc).bind fun x hx=>T.pure hx
 obtain⟨⟨⟨e,v1⟩,v2⟩,e6,k6⟩:T (Zgd code) fun r=>Z9 40000 r.1.1:=by
  unfold Zgd
  exact(Qht code hc).bind fun t ht=>(Q2o _ ht).bind fun x hx=>T.pure (hx.2.mono (by omega))
 obtain⟨r1,a1,b1⟩:=Q71 k1 (by omega)
 obtain⟨r2,a2,b2⟩:=Qw0 t (by have:=k2.1;simp only at this;omega) (by have:=k2.2;simp only at this;omega)
 obtain⟨r3,a3,b3,c3⟩:=Q3f k3
 obtain⟨r4,a4,b4⟩:=Q1s k4 (by omega)
 obtain⟨r5,a5,b5⟩:=Q4v k5 (by omega)
 obtain⟨r6,a6,b6,c6⟩:=Q0r k6 (by omega)
 simp only at a1 b1 a3 b3 a4 b4 a5 b5 a6 b6
 simp only[e1,e2,e3,e4,e5,e6,a1,b1,a2,b2,a3,b3,a4,b4,a5,b5,a6,b6,Option.bind_some,beq_self_eq_true,cond_true,Bool.true_and,Z4s r3 (by omega),Z4s r6 (by omega)]
theorem Q7r: ∀xs:Ki Zvl.args,wfA Zvl.args xs→Zux xs.1=some (true,()):=fun xs _=>Q9v xs.1
theorem Qz3:ownKnob Tryz.prog.godebug=none:=by kernel_rfl
theorem Qxw(os:Os)(args:Array Value):laidMetH Tryz.prog Rows.fnLinesRow.laid ((World.doorLaid Tryz.prog 400 os).forCall (fun _ _=>0) ⟨#[],args,[]⟩).memory:=
 laidMetH_of_parts3 (fuel:=8) (laidMet_of_run' 8 (by kernel_rfl) (by kernel_rfl)) (by kernel_rfl) (by kernel_rfl)
theorem Qz4{W:World}(h:laidMetH Tryz.prog Rows.fnLinesRow.laid W)(hs:W.ShapedOpen Tryz.prog):glob.G W:=by
 rw[MakeChecks.laidMetH_plain _ _ _ (by kernel_rfl)]at h
 have t0 : Go.Lib.TabIs Tryz.prog W "internal/strconv.uint64pow10" .u64 Go.Lib.pow10Tab :=
  Go.Lib.tabIs_of_head (g := 0) (t := 311) (e := 251) (n := 20) (rest := Rows.fnLinesRow.laid.drop 3) (by kernel_rfl) (by kernel_rfl) (by kernel_rfl) (by kernel_rfl) (by kernel_rfl) (by kernel_rfl) (show laidMet Tryz.prog (("internal/strconv.uint64pow10", Go.Lib.tabData .u64 Go.Lib.pow10Tab) :: Rows.fnLinesRow.laid.drop 3) W from h.tail.tail)
 intro p hp
 simp only[List.mem_cons,List.not_mem_nil,or_false]at hp
 rcases hp with rfl
 exact⟨_,t0,rfl⟩
end Go.Proofs.YtplcdmnbgcgdfaaGreatDoor

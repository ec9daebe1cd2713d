/- No condition. -/
import Derived.Test.YtglbkfajafconaaGreatDoorR3
set_option linter.all false
namespace Go.Proofs.YtglbkfajafconaaGreatDoor
open Go.Am Go.ChangeShapes Go.WideShapes Go.ChangeAt Go.RowKit
theorem Qpv{P:Program}{c:OpenClaim}(h:P.funcs.toList.any Func.goes=false):false=c.goesBy P:=by
 have hf:∀g:Nat,(P.funcs[g]?).any Func.goes=false:=λg=>by
  cases e:P.funcs[g]? with
  |none=>rfl
  |some fn=>exact Bool.eq_false_iff.2 λq=>Bool.eq_false_iff.1 h (List.any_eq_true.2 ⟨fn,Array.mem_toList_iff.2 (Array.mem_of_getElem? e),q⟩)
 have h':P.funcs.any Func.goes=false:=by rw[<-Array.any_toList];exact h
 have hg:∀f,P.goes f=false:=λf=>by
  unfold Program.goes;rw[h',Bool.and_false,Bool.or_false];exact List.any_eq_false.2 λg _=>by rw[hf g];exact Bool.noConfusion
 have hG:P.goes=λ_=>false:=funext hg;unfold OpenClaim.goesBy Program.goesAt Program.goesFrom;rw[hG];cases P.funcNamed c.func<;>cases c.start<;>simp
theorem Zko:false=Rows.fnExactReplayTextRow.goesBy Tryz.prog:=Qpv Ab
end Go.Proofs.YtglbkfajafconaaGreatDoor

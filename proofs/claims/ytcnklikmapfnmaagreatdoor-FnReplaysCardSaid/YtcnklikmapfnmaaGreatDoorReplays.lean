/- No condition. -/
import Derived.Test.YtcnklikmapfnmaaGreatDoorR4a
import Derived.Test.YtcnklikmapfnmaaGreatDoorR4b
import Derived.Test.YtcnklikmapfnmaaGreatDoorR4c
import Derived.Test.YtcnklikmapfnmaaGreatDoorT6
set_option linter.all false
namespace Go.Proofs.YtcnklikmapfnmaaGreatDoor
open Go.Am Go.ChangeShapes Go.WideShapes Go.ChangeAt Go.RowKit
theorem fnReplays_proved:Rows.FnReplaysCardSaid:=
 Claim7.holds_tied_plain_at .later [] Rows.fnReplaysCard.laidKinds true Rows.fnReplaysCard.stood.harness Rows.fnReplaysCard.stood.looks
  Z37 (λ_ h=>by cases h) Ab (λ_ h=>by cases h) fnReplays_row_tie rfl ⟨rfl,rfl⟩ Qa0 rfl
  (λf fn hf hfn=>by
   obtain rfl:f=3:=Option.some.inj (Qaz.symm.trans hf)|>.symm;obtain rfl:fn=Tryz.f3:=(Option.some.inj (Tryz.func3.symm.trans hfn)).symm;exact⟨Qay,λj t ht=>by
    rw[Tryz.params3]at ht;have hm:t∈[22]:=by simpa using Array.mem_of_getElem? ht
    have hall:([22].all λu=> !Tryz.prog.wantsStandIn u)=true:=Ab
    exact(show Tryz.prog.wantsStandIn t=false by simpa using List.all_eq_true.1 hall t hm)⟩)
 Qax
#print axioms fnReplays_proved
end Go.Proofs.YtcnklikmapfnmaaGreatDoor

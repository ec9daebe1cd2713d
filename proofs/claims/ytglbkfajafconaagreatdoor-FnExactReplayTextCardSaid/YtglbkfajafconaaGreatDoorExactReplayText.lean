/- No condition. -/
import Derived.Test.YtglbkfajafconaaGreatDoorR4a
import Derived.Test.YtglbkfajafconaaGreatDoorR4b
import Derived.Test.YtglbkfajafconaaGreatDoorR4c
import Derived.Test.YtglbkfajafconaaGreatDoorT6
set_option linter.all false
namespace Go.Proofs.YtglbkfajafconaaGreatDoor
open Go.Am Go.ChangeShapes Go.WideShapes Go.ChangeAt Go.RowKit
theorem fnExactReplayText_proved:Rows.FnExactReplayTextCardSaid:=
 Claim7.holds_tied_plain_at .later [] Rows.fnExactReplayTextCard.laidKinds true Rows.fnExactReplayTextCard.stood.harness Rows.fnExactReplayTextCard.stood.looks
  Zhd (λ_ h=>by cases h) Ab (λ_ h=>by cases h) fnExactReplayText_row_tie rfl ⟨rfl,rfl⟩ Zkr rfl
  (λf fn hf hfn=>by
   obtain rfl:f=3:=Option.some.inj (Zkq.symm.trans hf)|>.symm;obtain rfl:fn=Tryz.f3:=(Option.some.inj (Tryz.func3.symm.trans hfn)).symm;exact⟨Zkp,λj t ht=>by
    rw[Tryz.params3]at ht;have hm:t∈[4,23,23,9]:=by simpa using Array.mem_of_getElem? ht
    have hall:([4,23,23,9].all λu=> !Tryz.prog.wantsStandIn u)=true:=Ab
    exact(show Tryz.prog.wantsStandIn t=false by simpa using List.all_eq_true.1 hall t hm)⟩)
 Zko
#print axioms fnExactReplayText_proved
end Go.Proofs.YtglbkfajafconaaGreatDoor

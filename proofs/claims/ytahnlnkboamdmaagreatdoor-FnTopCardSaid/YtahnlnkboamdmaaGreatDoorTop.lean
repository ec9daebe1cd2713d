/- No condition. -/
import Derived.Test.YtahnlnkboamdmaaGreatDoorR4c
set_option linter.all false
namespace Go.Proofs.YtahnlnkboamdmaaGreatDoor
open Go.Am Go.ChangeShapes Go.WideShapes Go.ChangeAt Go.RowKit
theorem fnTop_proved:Rows.FnTopCardSaid:=
 Claim7.holds_tied_plain_at .later [] Rows.fnTopCard.laidKinds true Rows.fnTopCard.stood.harness Rows.fnTopCard.stood.looks
  Qa1 (λ_ h=>by cases h) Ah (λ_ h=>by cases h) fnTop_row_tie rfl ⟨rfl,rfl⟩ Qir rfl
  (λf fn hf hfn=>by
   obtain rfl:f=3:=Option.some.inj (Qiq.symm.trans hf)|>.symm;obtain rfl:fn=Tryz.f3:=(Option.some.inj (Tryz.func3.symm.trans hfn)).symm;exact⟨Qip,λj t ht=>by
    rw[Tryz.params3]at ht;have hm:t∈[22]:=by simpa using Array.mem_of_getElem? ht
    have hall:([22].all λu=> !Tryz.prog.wantsStandIn u)=true:=Ah
    exact(show Tryz.prog.wantsStandIn t=false by simpa using List.all_eq_true.1 hall t hm)⟩)
 Qio
#print axioms fnTop_proved
end Go.Proofs.YtahnlnkboamdmaaGreatDoor

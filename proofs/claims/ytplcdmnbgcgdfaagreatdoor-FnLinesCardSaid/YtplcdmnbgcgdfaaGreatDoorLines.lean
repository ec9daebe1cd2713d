/- FnLines returns true for all arguments. No condition. -/
import Derived.Test.YtplcdmnbgcgdfaaGreatDoorR4c
namespace Go.Proofs.YtplcdmnbgcgdfaaGreatDoor
open Go.Am Go.ChangeShapes Go.WideShapes Go.ChangeAt Go.RowKit
set_option linter.unusedVariables false
theorem fnLines_proved:Rows.FnLinesCardSaid:=
 Claim7.holds_tied_plain_at .later [] Rows.fnLinesCard.laidKinds true Rows.fnLinesCard.stood.harness Rows.fnLinesCard.stood.looks
  Qxx (fun _ h=>by cases h) (by kernel_rfl) (fun _ h=>by cases h) fnLines_row_tie rfl ⟨rfl,rfl⟩ Q2a rfl
  (fun f fn hf hfn=>by
   obtain rfl:f=3:=Option.some.inj (Q19.symm.trans hf)|>.symm
   obtain rfl:fn=Tryz.f3:=(Option.some.inj (Tryz.func3.symm.trans hfn)).symm
   exact⟨Q18,fun j t ht=>by
    rw[Tryz.params3]at ht
    have hm:t∈[22]:=by simpa using Array.mem_of_getElem? ht
    have hall: ([22].all fun u=> !Tryz.prog.wantsStandIn u)=true:=by kernel_rfl
    exact(show Tryz.prog.wantsStandIn t=false by simpa using List.all_eq_true.1 hall t hm)⟩)
 Q17
#print axioms fnLines_proved
end Go.Proofs.YtplcdmnbgcgdfaaGreatDoor

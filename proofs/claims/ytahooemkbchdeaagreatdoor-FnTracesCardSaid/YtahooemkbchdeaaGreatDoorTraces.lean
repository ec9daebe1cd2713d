/- FnTraces returns true for all arguments. No condition. -/
import Derived.Test.YtahooemkbchdeaaGreatDoorR4c
namespace Go.Proofs.YtahooemkbchdeaaGreatDoor
open Go.Am Go.ChangeShapes Go.WideShapes Go.ChangeAt Go.RowKit
set_option linter.unusedVariables false
theorem fnTraces_proved : Rows.FnTracesCardSaid :=
 Claim7.holds_tied_plain_at .later [] Rows.fnTracesCard.laidKinds true Rows.fnTracesCard.stood.harness Rows.fnTracesCard.stood.looks
  fnTraces_said (fun _ h => by cases h) (by kernel_rfl) (fun _ h => by cases h) fnTraces_row_tie rfl ⟨rfl, rfl⟩ fnTraces_kd rfl
  (fun f fn hf hfn => by
   obtain rfl : f = 3 := Option.some.inj (fnTraces_kc.symm.trans hf) |>.symm
   obtain rfl : fn = Tryz.f3 := (Option.some.inj (Tryz.func3.symm.trans hfn)).symm
   exact ⟨fnTraces_kb, fun j t ht => by
    rw [Tryz.params3] at ht
    have hm : t ∈ [22] := by simpa using Array.mem_of_getElem? ht
    have hall : ([22].all fun u => !Tryz.prog.wantsStandIn u) = true := by kernel_rfl
    exact (show Tryz.prog.wantsStandIn t = false by simpa using List.all_eq_true.1 hall t hm)⟩)
  fnTraces_ka
#print axioms fnTraces_proved
end Go.Proofs.YtahooemkbchdeaaGreatDoor

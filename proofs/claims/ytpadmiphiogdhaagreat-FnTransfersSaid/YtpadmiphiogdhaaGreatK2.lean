/- FnTransfers: that the program code computes these plain functions, part 2. No condition. -/
import Derived.Test.YtpadmiphiogdhaaGreatK1
namespace Go.Proofs.YtpadmiphiogdhaaGreat
noncomputable section
open Go.Am
set_option maxRecDepth 100000
set_option linter.unusedVariables false
abbrev Qfi:FnE:={f:=15,args:=[Qe],res:=[.int .i64],F:=fun xs=>Zul xs.1}
theorem Qcq:okE Qfi:=
 ofE Ze Zb Tryz.func15 Tryz.call15 (.seq .leaf (.seq .leaf (.seq (.seq .leaf (.block (.loop Z5e (fun N v=>Zb1 N v.1 v.2.1 v.2.2.1) (fun v=>Zps v.1 v.2.1 v.2.2.1) (fun K1=>(.seq .leaf (.join Z5d (fun v=>Zkc K1 v.1 v.2.1 v.2.2.1) .leaf .leaf)))))) .leaf))) ⟨lf,lf,⟨lf,fun _=>rfl,fun N=>⟨(fun v=>by kernel_rfl),lf,lf,(fun v=>by kernel_rfl),lf⟩⟩,lf⟩ (hk fun _=>by kernel_rfl)
abbrev Zn3:FnE:={f:=3,args:=[.slice 5 (.int .u8)],res:=[.bool],F:=fun xs=>Zlt xs.1}
theorem Z4l:okE Zn3:=
 ofE (Za Qwl (Za Zon (Za Zya (Za Zwo (Za Z74 (Za Z73 (Za Z8k (Za Qgq (Za Qg2 (Za Qcj (Za Qcq (Za Ztx (Za Zt6 Ze))))))))))))) (Zs Zs7 Zb) Tryz.func3 Tryz.call3 .leaf lf (hk fun _=>by kernel_rfl)
end
end Go.Proofs.YtpadmiphiogdhaaGreat

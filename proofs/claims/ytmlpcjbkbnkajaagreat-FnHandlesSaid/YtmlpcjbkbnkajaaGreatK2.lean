/- FnHandles: that the program code computes these plain functions, part 2. No condition. -/
import Derived.Test.YtmlpcjbkbnkajaaGreatK1
namespace Go.Proofs.YtmlpcjbkbnkajaaGreat
noncomputable section
open Go.Am
set_option maxRecDepth 100000
set_option linter.unusedVariables false
abbrev Zoi:Zqg:={f:=26,n:=18,np:=3,rv:=Tryz.f26.results.toList,run:=fun ln _ k s=>Vf (Zi2 [] ln [Zhk,Zc8] [] [Vx] []) 18 (Zax Tryz.f26) .leaf k s}
theorem Z5k:Wg Tryz.prog glob Zoi:=Wg.of (C:=Zi2 [] [] [Zhk,Zc8] [] [Vx] []) (fun ln=>Za1 (ln:=ln) Ve rfl (Za Zpl (Za Zle Zf)) Jf (Zt Zmz Zc) Jg) Tryz.func26 rfl Tryz.call26 (by decide) rfl rfl (fun _ _ _=>rfl)
abbrev Zfx:Zqg:={f:=66,n:=64,np:=2,rv:=Tryz.f66.results.toList,run:=fun ln _ k s=>Vf (Zi2 [Zoi,Jr] ln [Zo7,Zo6] [] [Zla] []) 64 (Zax Tryz.f66) .leaf k s}
theorem Zqd:Wg Tryz.prog glob Zfx:=Wg.of (C:=Zi2 [Zoi,Jr] [] [Zo7,Zo6] [] [Zla] []) (fun ln=>Za1 (ln:=ln) (Xk Z5k (Xk Zj1 Ve)) rfl (Za Z8y (Za Z8x Zf)) Jf (Zt Z0r Zc) Jg) Tryz.func66 rfl Tryz.call66 (by decide) rfl rfl (fun _ _ _=>rfl)
abbrev Zxk:Zqg:={f:=24,n:=36,np:=4,rv:=Tryz.f24.results.toList,run:=fun ln _ k s=>Vf (Zi2 [Zfx] ln [Zbw,W5,Vs] [] [] []) 36 (Zax Tryz.f24) .leaf k s}
theorem Qcl:Wg Tryz.prog glob Zxk:=Wg.of (C:=Zi2 [Zfx] [] [Zbw,W5,Vs] [] [] []) (fun ln=>Za1 (ln:=ln) (Xk Zqd Ve) rfl (Za Zlf (Za Zj3 (Za Zmd Zf))) Jf Zc Jg) Tryz.func24 rfl Tryz.call24 (by decide) rfl rfl (fun _ _ _=>rfl)
abbrev Zts:FnE:={f:=17,args:=[Zp,Zx],res:=[Zp,.int .i64],F:=fun xs=>Zho xs.1 xs.2.1}
theorem Zsv:Zr3 Tryz.prog glob Zts:=by
 refine Zr3.of (e:=Zts) (C:=Zi2 [Zfx,Zxk] [] [] [] [] []) (Za1 (Xk Zqd (Xk Qcl Ve)) rfl Zf Jf Zc Jg) rfl Tryz.func17 (c:=Zax Tryz.f17) rfl Tryz.call17 (by decide)
  (.leaf) ?_ ?_
 ·exact lf
 ·intro xs r h;refine Eq.trans (Eq.symm ?_) h;kernel_rfl
abbrev Qs6:FnB:={f:=74,args:=[.bx 148 (Zct) (.u false)],res:= .vals [Zx],F:=fun xs=>Zzu xs.1}
theorem Qqy:okB Qs6:=
 ofB [0] Zf (Zt Zsj (Zt Kv (Zt Zfv Zc))) Tryz.func74 Tryz.call74 .leaf lf (hk fun _=>by kernel_rfl)
abbrev Zyi:FnB:={f:=19,args:=[.sh (.slice 5 (.int .u8))],res:= .shr [Zp,Zx],F:=fun xs=>Zf2 xs.1}
theorem Zw7:okB Zyi:=
 ofB [] Zf (Zt Zwf (Zt Z21 (Zt Qqy Zc))) Tryz.func19 Tryz.call19 .leaf lf (hk fun _=>by kernel_rfl)
abbrev Z7k:FnE:={f:=20,args:=[Zp,Zx],res:=[Zp,.int .i64],F:=fun xs=>Zhn xs.1 xs.2.1}
theorem Zsu:okE Z7k:=
 ofE (Za Zt7 (Za Zsw (Za Zt8 (Za Zsv Zf)))) Zc Tryz.func20 Tryz.call20 .leaf lf (hk fun _=>by kernel_rfl)
abbrev Qfa:FnE:={f:=22,args:=[Zp,Zx],res:=[.bool],F:=fun xs=>Ztz xs.1 xs.2.1}
theorem Qc1:okE Qfa:=
 ofE (Za Zsu Zf) Zc Tryz.func22 Tryz.call22 .leaf lf (hk fun _=>by kernel_rfl)
abbrev Zqk:FnE:={f:=3,args:=[.slice 5 (.int .u8)],res:=[.bool],F:=fun xs=>Zpk xs.1}
theorem Qdb:okE Zqk:=
 ofE (Za Qvy (Za Zt7 (Za Zsw (Za Z85 (Za Zlf (Za Zt8 (Za Zsv (Za Zs1 (Za Zsu (Za Qc1 Zf)))))))))) (Zt Zy4 (Zt Zud (Zt Zw9 (Zt Zs2 (Zt Zy5 (Zt Zue (Zt Zw8 (Zt Zw7 (Zt Zs0 Zc))))))))) Tryz.func3 Tryz.call3 .leaf lf (hk fun _=>by kernel_rfl)
end
end Go.Proofs.YtmlpcjbkbnkajaaGreat

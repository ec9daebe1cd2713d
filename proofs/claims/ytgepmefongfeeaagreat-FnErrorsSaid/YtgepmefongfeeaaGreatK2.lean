/- FnErrors: that the program code computes these plain functions, part 2. No condition. -/
import Derived.Test.YtgepmefongfeeaaGreatK1
namespace Go.Proofs.YtgepmefongfeeaaGreat
noncomputable section
open Go.Am
set_option maxRecDepth 100000
set_option linter.unusedVariables false
abbrev Zqh:FnE:={f:=154,args:=[Zdg,.int .i64],res:=[Zdg],F:=fun xs=>Zks xs.1 xs.2.1}
theorem Qa7:okE Zqh:=
 ofE (Za Z1n Zg) Zc Tryz.func154 Tryz.call154 .leaf lf (hk fun _=>by kernel_rfl)
abbrev Zpp:Zro:={f:=50,n:=18,np:=3,rv:=Tryz.f50.results.toList,run:=fun ln _ k s=>J4 (Zgq [] ln [Zih,Zdv] [] [Wk] []) 18 (Wj Tryz.f50) .leaf k s}
theorem Z7g:V4 Tryz.prog glob Zpp:=V4.of (C:=Zgq [] [] [Zih,Zdv] [] [Wk] []) (fun ln=>Wc (ln:=ln) Jb rfl (Za Zqw (Za Zme Zg)) Kl (Zv Zn1 Zc) Km) Tryz.func50 rfl Tryz.call50 (by decide) rfl rfl (fun _ _ _=>rfl)
abbrev Zgy:Zro:={f:=151,n:=64,np:=2,rv:=Tryz.f151.results.toList,run:=fun ln _ k s=>J4 (Zgq [Zpp,J7] ln [Zqi,Zqh] [] [Zl7] []) 64 (Wj Tryz.f151) .leaf k s}
theorem Zrr:V4 Tryz.prog glob Zgy:=V4.of (C:=Zgq [Zpp,J7] [] [Zqi,Zqh] [] [Zl7] []) (fun ln=>Wc (ln:=ln) (Xh Z7g (Xh Zkw Jb)) rfl (Za Qa8 (Za Qa7 Zg)) Kl (Zv Z17 Zc) Km) Tryz.func151 rfl Tryz.call151 (by decide) rfl rfl (fun _ _ _=>rfl)
abbrev Zy0:Zro:={f:=48,n:=36,np:=4,rv:=Tryz.f48.results.toList,run:=fun ln _ k s=>J4 (Zgq [Zgy] ln [Zci,Zan,Wd] [] [] []) 36 (Wj Tryz.f48) .leaf k s}
theorem Qe5:V4 Tryz.prog glob Zy0:=V4.of (C:=Zgq [Zgy] [] [Zci,Zan,Wd] [] [] []) (fun ln=>Wc (ln:=ln) (Xh Zrr Jb) rfl (Za Zmf (Za Zgd (Za Zen Zg))) Kl Zc Km) Tryz.func48 rfl Tryz.call48 (by decide) rfl rfl (fun _ _ _=>rfl)
abbrev Zu3:FnE:={f:=86,args:=[Zo,Zq],res:=[Zo,.int .i64],F:=fun xs=>Zm7 xs.1 xs.2.1}
theorem Z7j:Zqc Tryz.prog glob Zu3:=by
 refine Zqc.of (e:=Zu3) (C:=Zgq [Zgy,Zy0] [] [] [] [] []) (Wc (Xh Zrr (Xh Qe5 Jb)) rfl Zg Kl Zc Km) rfl Tryz.func86 (c:=Wj Tryz.f86) rfl Tryz.call86 (by decide)
  (.leaf) ?_ ?_
 ·exact lf
 ·intro xs r h;refine Eq.trans (Eq.symm ?_) h;kernel_rfl
abbrev Z9o:FnE:={f:=27,args:=[Zo,Zq],res:=[Zo,.int .i64],F:=fun xs=>Zm6 xs.1 xs.2.1}
theorem Z7i:okE Z9o:=
 ofE (Za Zvj (Za Z7k (Za Qa0 (Za Z7j Zg)))) Zc Tryz.func27 Tryz.call27 .leaf lf (hk fun _=>by kernel_rfl)
abbrev Z3i:FnE:={f:=6,args:=[Zo,.str],res:=[Zo,.int .i64],F:=fun xs=>Ze4 xs.1 xs.2.1}
theorem Zru:okE Z3i:=
 ofE (Za Zmf (Za Zym (Za Zen (Za Z18 (Za Qfj (Za Z7i Zg)))))) Zc Tryz.func6 Tryz.call6 (.seq .leaf (.seq .leaf (.seq .leaf (.seq .leaf (.seq .leaf (.seq (.seq .leaf (.block (.loop Zyb (fun N v=>Zbp N v.1 v.2.1 v.2.2.1 v.2.2.2.1 v.2.2.2.2.1) (fun v=>Zmc v.1 v.2.1 v.2.2.1 v.2.2.2.1 v.2.2.2.2.1) (fun K1=> .leaf)))) .leaf)))))) ⟨lf,lf,lf,lf,lf,⟨lf,fun _=>rfl,fun N=>⟨(fun v=>by kernel_rfl),lf⟩⟩,lf⟩ (hk fun _=>by kernel_rfl)
abbrev Qdy:FnE:={f:=160,args:=[.str,.int .i64],res:=[.int .i64,.int .i64,.bool],F:=fun xs=>Xb xs.1 xs.2.1}
theorem Zvo:okE Qdy:=
 ofE Zg Zc Tryz.func160 Tryz.call160 (.seq .leaf (.seq .leaf (.seq .leaf (.seq .leaf (.seq .leaf (.seq (.seq .leaf (.block (.loop Z45 (fun N v=>Wo N v.1 v.2.1 v.2.2.1 v.2.2.2.1 v.2.2.2.2.1) (fun v=>Zi6 v.1 v.2.1 v.2.2.1 v.2.2.2.1 v.2.2.2.2.1) (fun K1=> .leaf)))) .leaf)))))) ⟨lf,lf,lf,lf,lf,⟨lf,fun _=>rfl,fun N=>⟨(fun v=>by kernel_rfl),lf⟩⟩,lf⟩ (hk fun _=>by kernel_rfl)
abbrev Qtf:FnE:={f:=92,args:=[.str,.int .i64,.int .i64],res:=[.slice 3 (.int .i64),.int .i64,.bool],F:=fun xs=>Zah xs.1 xs.2.1 xs.2.2.1}
theorem Z4t:okE Qtf:=
 ofE (Za Zvo Zg) Zc Tryz.func92 Tryz.call92 (.seq .leaf (.seq .leaf (.seq (.seq .leaf (.block (.loop Qkm (fun N v=>Zaz N v.1 v.2.1 v.2.2.1 v.2.2.2.1 v.2.2.2.2.1) (fun v=>Za6 v.1 v.2.1 v.2.2.1 v.2.2.2.1 v.2.2.2.2.1) (fun K1=> .leaf)))) .leaf))) ⟨lf,lf,⟨lf,fun _=>rfl,fun N=>⟨(fun v=>by kernel_rfl),lf⟩⟩,lf⟩ (hk fun _=>by kernel_rfl)
abbrev Qna:FnE:={f:=91,args:=[.str,.int .i64,.int .i64],res:=[Zq,.int .i64,.bool],F:=fun xs=>Zhx xs.1 xs.2.1 xs.2.2.1}
theorem Qjy:okE Qna:=
 ofE (Za Z4t (Za Zvo (Za Wh Zg))) Zc Tryz.func91 Tryz.call91 (.seq .leaf (.seq .leaf (.seq .leaf (.join Qcv (fun v=>Ze0 v.1 v.2.1 v.2.2.1 v.2.2.2.1 v.2.2.2.2.1 v.2.2.2.2.2.1) .leaf (.seq .leaf (.seq .leaf (.seq .leaf (.join Qcw (fun v=>Zcg v.1 v.2.1 v.2.2.1 v.2.2.2.1 v.2.2.2.2.1) .leaf (.seq .leaf (.join Qcx (fun v=>Zch v.1 v.2.1 v.2.2.1 v.2.2.2.1 v.2.2.2.2.1) .leaf .leaf)))))))))) ⟨lf,lf,lf,lf,(fun v=>by kernel_rfl),lf,lf,lf,lf,(fun v=>by kernel_rfl),lf,lf,(fun v=>by kernel_rfl),lf⟩ (hk fun _=>by kernel_rfl)
abbrev Z9x:FnE:={f:=42,args:=[.str,.int .i64],res:=[Zq,.int .i64,.bool],F:=fun xs=>Zer xs.1 xs.2.1}
theorem Z7t:okE Z9x:=
 ofE (Za Qjy (Za Z4t (Za Wh Zg))) Zc Tryz.func42 Tryz.call42 (.seq .leaf (.seq .leaf (.seq .leaf (.seq .leaf (.seq .leaf (.seq .leaf (.join Z2f (fun v=>Ke v.1 v.2.1 v.2.2.1 v.2.2.2.1 v.2.2.2.2.1) (.seq .leaf (.block (.seq .leaf (.cond .leaf (.join Z2i (fun v=>Vv v.1 v.2.1 v.2.2.1 v.2.2.2.1 v.2.2.2.2.1 v.2.2.2.2.2.1 v.2.2.2.2.2.2.1 v.2.2.2.2.2.2.2.1) .leaf (.cond .leaf (.join Z2j (fun v=>Za4 v.1 v.2.1 v.2.2.1 v.2.2.2.1 v.2.2.2.2.1 v.2.2.2.2.2.1 v.2.2.2.2.2.2.1) .leaf .leaf))))))) (.seq .leaf (.join Z2g (fun v=>Xn v.1 v.2.1 v.2.2.1 v.2.2.2.1) (.seq .leaf (.block (.seq .leaf (.cond .leaf (.seq .leaf (.cond .leaf (.join Z2h (fun v=>Za3 v.1 v.2.1 v.2.2.1 v.2.2.2.1 v.2.2.2.2.1 v.2.2.2.2.2.1) .leaf .leaf))))))) .leaf))))))))) ⟨lf,lf,lf,lf,lf,lf,⟨lf,lf,lf,lf,(fun v=>by kernel_rfl),lf,lf,(fun v=>by kernel_rfl),lf⟩,(fun v=>by kernel_rfl),lf,⟨lf,lf,lf,lf,lf,lf,(fun v=>by kernel_rfl),lf⟩,(fun v=>by kernel_rfl),lf⟩ (hk fun _=>by kernel_rfl)
abbrev Z3m:FnE:={f:=13,args:=[.str],res:=[.slice 50 (Zq),.bool],F:=fun xs=>Y3 xs.1}
theorem Zrv:okE Z3m:=
 ofE (Za Z7t (Za X7 Zg)) Zc Tryz.func13 Tryz.call13 (.seq .leaf (.seq .leaf (.seq .leaf (.seq (.block (.loop Zzi (fun N v=>Kb N v.1 v.2.1 v.2.2.1) (fun v=>Zfi v.1 v.2.1 v.2.2.1) (fun K1=> .leaf))) .leaf)))) ⟨lf,lf,lf,⟨fun _=>rfl,fun N=>⟨(fun v=>by kernel_rfl),lf⟩⟩,lf⟩ (hk fun _=>by kernel_rfl)
abbrev Qh2:FnE:={f:=29,args:=[Zo,.int .i64],res:=[Zo],F:=fun xs=>Zfg xs.1 xs.2.1}
theorem Qfv:okE Qh2:=
 ofE (Za Qz (Za X7 Zg)) Zc Tryz.func29 Tryz.call29 .leaf lf (hk fun _=>by kernel_rfl)
abbrev Z3o:FnB:={f:=7,args:=[.sh (Zo),.sh (.str)],res:= .shr [Zo,.int .i64],F:=fun xs=>Zcb xs.1 xs.2.1}
theorem Z2c:okB Z3o:=
 ofB [] (Za Qz (Za J6 (Za Zr5 (Za Zrv (Za Qfv Zg))))) (Zv Zn2 Zc) Tryz.func7 Tryz.call7 (.seq .leaf (.seq .leaf (.seq (.seq .leaf (.cond (.seq .leaf (.frz [(4,.u false)])) .leaf)) (.seq .leaf (.seq (.seq .leaf (.cond (.seq .leaf (.frz [(4,.u false)])) .leaf)) (.seq (.seq .leaf (.block (.loop Zzl (fun N v=>Jq N v.1 v.2.1 v.2.2.1 v.2.2.2.1) (fun v=>Vb v.1 v.2.1 v.2.2.1 v.2.2.2.1) (fun K1=>(.seq .leaf (.seq (.block (.join Zzk (fun v=>Zf1 K1 v.1 v.2.1 v.2.2.1 v.2.2.2.1 v.2.2.2.2.1 v.2.2.2.2.2.1) (.frz [(6,.u false)]) (.seq (.seq .leaf (.cond (.seq .leaf (.frz [(4,.u false)])) .leaf)) .leaf))) .leaf)))))) .leaf)))))) ⟨lf,lf,⟨lf,⟨lf,trivial⟩,lf⟩,lf,⟨lf,⟨lf,trivial⟩,lf⟩,⟨lf,fun _=>rfl,fun N=>⟨(fun v=>by kernel_rfl),lf,⟨trivial,(fun v=>by kernel_rfl),⟨lf,⟨lf,trivial⟩,lf⟩,lf⟩,lf⟩⟩,lf⟩ (hk fun _=>by kernel_rfl)
abbrev Qd2:FnE:={f:=219,args:=[Vx,Vx],res:=[.bool],F:=fun xs=>Zo3 xs.1 xs.2.1}
theorem Qbh:okE Qd2:=
 ofE Zg Zc Tryz.func219 Tryz.call219 (.seq .leaf (.seq .leaf (.seq (.seq .leaf (.block (.loop Z5a (fun N v=>Zfl N v.1 v.2.1 v.2.2.1) (fun v=>Zjb v.1 v.2.1 v.2.2.1) (fun K1=> .leaf)))) .leaf))) ⟨lf,lf,⟨lf,fun _=>rfl,fun N=>⟨(fun v=>by kernel_rfl),lf⟩⟩,lf⟩ (hk fun _=>by kernel_rfl)
abbrev Z92:FnE:={f:=220,args:=[.slice 222 (Zx),.slice 222 (Zx)],res:=[.bool],F:=fun xs=>Zes xs.1 xs.2.1}
theorem Z7x:okE Z92:=
 ofE Zg Zc Tryz.func220 Tryz.call220 (.seq .leaf (.seq .leaf (.seq (.seq .leaf (.block (.loop Z2q (fun N v=>Zd3 N v.1 v.2.1 v.2.2.1) (fun v=>Zhq v.1 v.2.1 v.2.2.1) (fun K1=> .leaf)))) .leaf))) ⟨lf,lf,⟨lf,fun _=>rfl,fun N=>⟨(fun v=>by kernel_rfl),lf⟩⟩,lf⟩ (hk fun _=>by kernel_rfl)
abbrev Z64:FnE:={f:=155,args:=[Z6,Z6],res:=[.bool],F:=fun xs=>Zlz xs.1 xs.2.1}
theorem Z4m:okE Z64:=
 ofE (Za Qbh (Za Z7x Zg)) Zc Tryz.func155 Tryz.call155 .leaf lf (hk fun _=>by kernel_rfl)
abbrev Z63:FnE:={f:=221,args:=[Q2,Q2],res:=[.bool],F:=fun xs=>Zly xs.1 xs.2.1}
theorem Z4l:okE Z63:=
 ofE Zg Zc Tryz.func221 Tryz.call221 (.seq .leaf (.seq .leaf (.seq (.seq .leaf (.block (.loop Z1c (fun N v=>Zcz N v.1 v.2.1 v.2.2.1) (fun v=>Zga v.1 v.2.1 v.2.2.1) (fun K1=> .leaf)))) .leaf))) ⟨lf,lf,⟨lf,fun _=>rfl,fun N=>⟨(fun v=>by kernel_rfl),lf⟩⟩,lf⟩ (hk fun _=>by kernel_rfl)
abbrev Z1v:FnE:={f:=156,args:=[Z8,Z8],res:=[.bool],F:=fun xs=>Zia xs.1 xs.2.1}
theorem Z0p:okE Z1v:=
 ofE (Za Z4l Zg) Zc Tryz.func156 Tryz.call156 .leaf lf (hk fun _=>by kernel_rfl)
abbrev Z65:FnE:={f:=88,args:=[Zw,Zw],res:=[.bool],F:=fun xs=>Zl0 xs.1 xs.2.1}
theorem Z4n:okE Z65:=
 ofE (Za Z4m (Za Z0p Zg)) Zc Tryz.func88 Tryz.call88 .leaf lf (hk fun _=>by kernel_rfl)
abbrev Z93:FnE:={f:=30,args:=[.slice 67 (Zw),.slice 67 (Zw)],res:=[.bool],F:=fun xs=>Zni xs.1 xs.2.1}
theorem Z7y:okE Z93:=
 ofE (Za Z4n Zg) Zc Tryz.func30 Tryz.call30 (.seq .leaf (.seq .leaf (.seq (.seq .leaf (.block (.loop Z2r (fun N v=>Zd4 N v.1 v.2.1 v.2.2.1) (fun v=>Zhr v.1 v.2.1 v.2.2.1) (fun K1=> .leaf)))) .leaf))) ⟨lf,lf,⟨lf,fun _=>rfl,fun N=>⟨(fun v=>by kernel_rfl),lf⟩⟩,lf⟩ (hk fun _=>by kernel_rfl)
abbrev Z1w:FnE:={f:=31,args:=[.slice 88 (Y9),.slice 88 (Y9)],res:=[.bool],F:=fun xs=>Zie xs.1 xs.2.1}
theorem Z0q:okE Z1w:=
 ofE Zg Zc Tryz.func31 Tryz.call31 (.seq .leaf (.seq .leaf (.seq (.seq .leaf (.block (.loop Zxy (fun N v=>Zax N v.1 v.2.1 v.2.2.1) (fun v=>Zee v.1 v.2.1 v.2.2.1) (fun K1=>(.seq .leaf (.seq (.block (.seq .leaf (.seq .leaf (.block (.loop Zxz (fun N v=>Zay K1 N v.1 v.2.1 v.2.2.1 v.2.2.2.1) (fun v=>Zai v.1 v.2.1 v.2.2.1 v.2.2.2.1) (fun K2=> .leaf)))))) .leaf)))))) .leaf))) ⟨lf,lf,⟨lf,fun _=>rfl,fun N=>⟨(fun v=>by kernel_rfl),lf,⟨lf,lf,fun _=>rfl,fun N=>⟨(fun v=>by kernel_rfl),lf⟩⟩,lf⟩⟩,lf⟩ (hk fun _=>by kernel_rfl)
abbrev Qd1:FnE:={f:=8,args:=[Zo,Zo],res:=[.bool],F:=fun xs=>Zo2 xs.1 xs.2.1}
theorem Qbg:okE Qd1:=
 ofE (Za Z7y (Za Z0q Zg)) Zc Tryz.func8 Tryz.call8 .leaf lf (hk fun _=>by kernel_rfl)
abbrev Qpk:FnE:={f:=9,args:=[Zo,.str],res:=[.int .i64],F:=fun xs=>Z0f xs.1 xs.2.1}
theorem Qnh:okE Qpk:=
 ofE (Za Zru Zg) Zc Tryz.func9 Tryz.call9 .leaf lf (hk fun _=>by kernel_rfl)
abbrev Qp4:FnB:={f:=47,args:=[.sh (.slice 5 (.int .u8)),.sh (.int .i64)],res:= .shr [Zo,Zq],F:=fun xs=>Zuu xs.1 xs.2.1}
theorem Qnr:okB Qp4:=
 ofB [] (Za Zvw Zg) (Zv Zxv (Zv Z4s (Zv Zt1 (Zv Yd (Zv Zq3 (Zv Zq1 (Zv Zq2 Zc))))))) Tryz.func47 Tryz.call47 (.seq .leaf (.seq .leaf (.seq .leaf (.seq .leaf (.seq .leaf (.seq .leaf (.seq .leaf (.seq .leaf (.seq .leaf (.seq .leaf (.seq .leaf (.seq .leaf (.seq .leaf (.join Qgu (fun v=>Zk8 v.1 v.2.1 v.2.2.1 v.2.2.2.1) .leaf .leaf)))))))))))))) ⟨lf,lf,lf,lf,lf,lf,lf,lf,lf,lf,lf,lf,lf,lf,(fun v=>by kernel_rfl),lf⟩ (hk fun _=>by kernel_rfl)
abbrev Z1u:FnB:={f:=15,args:=[.sh (.slice 5 (.int .u8))],res:= .shr [Zo,Zq],F:=fun xs=>Zh5 xs.1}
theorem Z0o:okB Z1u:=
 ofB [] Zg (Zv Qnr Zc) Tryz.func15 Tryz.call15 .leaf lf (hk fun _=>by kernel_rfl)
abbrev Ztq:FnE:={f:=3,args:=[.slice 5 (.int .u8)],res:=[.bool],F:=fun xs=>Zsj xs.1}
theorem Qjf:okE Ztq:=
 ofE (Za Qyt (Za Zru (Za Qbg (Za Qnh (Za J6 (Za Zr5 (Za Zym (Za Zrv (Za Zvj (Za Xd (Za Zcv (Za Wh Zg)))))))))))) (Zv Zwa (Zv Z2c (Zv Zn2 (Zv Z0o Zc)))) Tryz.func3 Tryz.call3 (.seq .leaf (.seq .leaf (.seq .leaf (.seq .leaf (.seq .leaf (.seq .leaf (.join Qau (fun v=>Zit v.1) (.seq .leaf (.cond (.seq .leaf (.seq .leaf (.seq .leaf (.seq .leaf (.seq (.seq .leaf (.block (.loop Qaw (fun N v=>Zb8 N v.1 v.2.1 v.2.2.1 v.2.2.2.1 v.2.2.2.2.1 v.2.2.2.2.2.1) (fun v=>V3 v.1 v.2.1 v.2.2.1 v.2.2.2.1 v.2.2.2.2.1 v.2.2.2.2.2.1) (fun K1=>(.seq .leaf (.seq (.block (.join Qav (fun v=>Zr1 K1 v.1 v.2.1 v.2.2.1 v.2.2.2.1 v.2.2.2.2.1 v.2.2.2.2.2.1 v.2.2.2.2.2.2.1 v.2.2.2.2.2.2.2.1) .leaf .leaf)) .leaf)))))) .leaf))))) .leaf)) .leaf))))))) ⟨lf,lf,lf,lf,lf,lf,⟨lf,⟨lf,lf,lf,lf,⟨lf,fun _=>rfl,fun N=>⟨(fun v=>by kernel_rfl),lf,⟨lf,(fun v=>by kernel_rfl),lf⟩,lf⟩⟩,lf⟩,lf⟩,(fun v=>by kernel_rfl),lf⟩ (hk fun _=>by kernel_rfl)
end
end Go.Proofs.YtgepmefongfeeaaGreat

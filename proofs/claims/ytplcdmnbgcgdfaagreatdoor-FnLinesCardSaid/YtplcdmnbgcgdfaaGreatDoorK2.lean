/- FnLines: that the program code computes these plain functions, part 2. No condition. -/
import Derived.Test.YtplcdmnbgcgdfaaGreatDoorK1
namespace Go.Proofs.YtplcdmnbgcgdfaaGreatDoor
noncomputable section
open Go.Am
set_option maxRecDepth 100000
set_option linter.unusedVariables false
abbrev Qc8:FnE:={f:=270,args:=[Q8],res:=[.bool],F:=fun xs=>Ztw xs.1}
theorem Qaq:okE Qc8:=
 ofE (Za Zvs Zf) Zd Tryz.func270 Tryz.call270 .leaf lf (hk fun _=>by kernel_rfl)
abbrev Qda:FnE:={f:=194,args:=[Z2],res:=[.bool],F:=fun xs=>Ztx xs.1}
theorem Qar:okE Qda:=
 ofE (Za Qaq Zf) Zd Tryz.func194 Tryz.call194 .leaf lf (hk fun _=>by kernel_rfl)
abbrev Quq:FnE:={f:=126,args:=[Z2],res:=[.bool],F:=fun xs=>Zwr xs.1}
theorem Qs5:okE Quq:=
 ofE (Za Zyg (Za Qas (Za Qar Zf))) Zd Tryz.func126 Tryz.call126 .leaf lf (hk fun _=>by kernel_rfl)
abbrev Qqn:FnE:={f:=128,args:=[.int .i64],res:=[.bool],F:=fun xs=>Zzx xs.1}
theorem Qog:okE Qqn:=
 ofE (Za Zpl Zf) Zd Tryz.func128 Tryz.call128 .leaf lf (hk fun _=>by kernel_rfl)
abbrev Q1v:FnE:={f:=127,args:=[.bool],res:=[.int .i64],F:=fun xs=>Zyb xs.1}
theorem Q0p:okE Q1v:=
 ofE Zf Zd Tryz.func127 Tryz.call127 .leaf lf (hk fun _=>by kernel_rfl)
abbrev Z86:FnE:={f:=87,args:=[Zl],res:=[.bool],F:=fun xs=>Zm0 xs.1}
theorem Z61:okE Z86:=
 ofE (Za Vm (Za Qvt (Za Qs5 (Za Qog (Za Q0p Zf))))) Zd Tryz.func87 Tryz.call87 (.seq .leaf (.seq .leaf (.seq .leaf (.seq (.seq .leaf (.block (.loop Z1w (fun N v=>W3 N v.1 v.2.1 v.2.2.1 v.2.2.2.1 v.2.2.2.2.1 v.2.2.2.2.2.1 v.2.2.2.2.2.2.1) (fun v=>Zn7 v.1 v.2.1 v.2.2.1 v.2.2.2.1 v.2.2.2.2.1 v.2.2.2.2.2.1 v.2.2.2.2.2.2.1) (fun K1=> .leaf)))) .leaf)))) ⟨lf,lf,lf,⟨lf,fun _=>rfl,fun N=>⟨(fun v=>by kernel_rfl),lf⟩⟩,lf⟩ (hk fun _=>by kernel_rfl)
abbrev Qqj:FnE:={f:=40,args:=[Zl],res:=[.str],F:=fun xs=>Zus xs.1}
theorem Qod:okE Qqj:=
 ofE (Za Vm (Za Z31 (Za Z32 (Za Z62 (Za Z61 Zf))))) Zd Tryz.func40 Tryz.call40 .leaf lf (hk fun _=>by kernel_rfl)
abbrev Qhu:FnE:={f:=20,args:=[Zl],res:=[.str],F:=fun xs=>Zqh xs.1}
theorem Qe7:okE Qhu:=
 ofE (Za Qod (Za Zu0 Zf)) Zd Tryz.func20 Tryz.call20 .leaf lf (hk fun _=>by kernel_rfl)
abbrev Z6k:FnE:={f:=88,args:=[Zl],res:=[.bool],F:=fun xs=>Zlk xs.1}
theorem Z35:okE Z6k:=
 ofE (Za Qz (Za Zxa Zf)) Zd Tryz.func88 Tryz.call88 (.seq .leaf (.seq (.seq .leaf (.block (.loop Z0m (fun N v=>Zb2 N v.1 v.2.1) (fun v=>Zfo v.1 v.2.1) (fun K1=> .leaf)))) .leaf)) ⟨lf,⟨lf,fun _=>rfl,fun N=>⟨(fun v=>by kernel_rfl),lf⟩⟩,lf⟩ (hk fun _=>by kernel_rfl)
abbrev Z6l:FnE:={f:=89,args:=[Zl],res:=[.bool],F:=fun xs=>Zll xs.1}
theorem Z36:okE Z6l:=
 ofE (Za Qz (Za Zw9 Zf)) Zd Tryz.func89 Tryz.call89 (.seq .leaf (.seq .leaf (.seq (.seq .leaf (.block (.loop Z0n (fun N v=>Zb3 N v.1 v.2.1 v.2.2.1) (fun v=>Zfp v.1 v.2.1 v.2.2.1) (fun K1=> .leaf)))) .leaf))) ⟨lf,lf,⟨lf,fun _=>rfl,fun N=>⟨(fun v=>by kernel_rfl),lf⟩⟩,lf⟩ (hk fun _=>by kernel_rfl)
abbrev Qel:FnE:={f:=130,args:=[Zl,.int .i64],res:=[.slice 195 (Zt)],F:=fun xs=>Zpf xs.1 xs.2.1}
theorem Qbl:okE Qel:=
 ofE (Za Zbe Zf) Zd Tryz.func130 Tryz.call130 (.seq .leaf (.seq .leaf (.seq (.seq .leaf (.block (.loop Z5t (fun N v=>Zfb N v.1 v.2.1 v.2.2.1 v.2.2.2.1) (fun v=>Ziv v.1 v.2.1 v.2.2.1 v.2.2.2.1) (fun K1=>(.seq .leaf (.seq (.block (.seq .leaf (.block (.loop Z5u (fun N v=>V8 K1 N v.1 v.2.1 v.2.2.1 v.2.2.2.1 v.2.2.2.2.1) (fun v=>Zcq v.1 v.2.1 v.2.2.1 v.2.2.2.1 v.2.2.2.2.1) (fun K2=>(.seq .leaf (.join Z5s (fun v=>Zjx K1 K2 v.1 v.2.1 v.2.2.1 v.2.2.2.1 v.2.2.2.2.1) .leaf .leaf))))))) .leaf)))))) .leaf))) ⟨lf,lf,⟨lf,fun _=>rfl,fun N=>⟨(fun v=>by kernel_rfl),lf,⟨lf,fun _=>rfl,fun N=>⟨(fun v=>by kernel_rfl),lf,lf,(fun v=>by kernel_rfl),lf⟩⟩,lf⟩⟩,lf⟩ (hk fun _=>by kernel_rfl)
abbrev Z9l:FnE:={f:=129,args:=[.slice 195 (Zt),.slice 195 (Zt)],res:=[.bool],F:=fun xs=>Znc xs.1 xs.2.1}
theorem Z7f:okE Z9l:=
 ofE Zf Zd Tryz.func129 Tryz.call129 (.seq .leaf (.seq .leaf (.seq (.seq .leaf (.block (.loop Z2p (fun N v=>Zc9 N v.1 v.2.1 v.2.2.1) (fun v=>Zbp v.1 v.2.1 v.2.2.1) (fun K1=> .leaf)))) .leaf))) ⟨lf,lf,⟨lf,fun _=>rfl,fun N=>⟨(fun v=>by kernel_rfl),lf⟩⟩,lf⟩ (hk fun _=>by kernel_rfl)
abbrev Z9e:FnE:={f:=90,args:=[Zl],res:=[.bool],F:=fun xs=>Zm9 xs.1}
theorem Z69:okE Z9e:=
 ofE (Za Qz (Za Qbl (Za Z7f Zf))) Zd Tryz.func90 Tryz.call90 (.seq .leaf (.seq (.seq .leaf (.block (.loop Z2d (fun N v=>Zc5 N v.1 v.2.1) (fun v=>Zgz v.1 v.2.1) (fun K1=> .leaf)))) .leaf)) ⟨lf,⟨lf,fun _=>rfl,fun N=>⟨(fun v=>by kernel_rfl),lf⟩⟩,lf⟩ (hk fun _=>by kernel_rfl)
abbrev Z9d:FnE:={f:=91,args:=[Zl],res:=[.bool],F:=fun xs=>Zm8 xs.1}
theorem Z68:okE Z9d:=
 ofE (Za Qz (Za Zoe (Za Z4a (Za Zj5 Zf)))) Zd Tryz.func91 Tryz.call91 (.seq .leaf (.seq .leaf (.seq .leaf (.seq .leaf (.seq (.seq .leaf (.block (.loop Z2c (fun N v=>Kr N v.1 v.2.1 v.2.2.1 v.2.2.2.1 v.2.2.2.2.1) (fun v=>Zgy v.1 v.2.1 v.2.2.1 v.2.2.2.1 v.2.2.2.2.1) (fun K1=>(.seq .leaf (.join Z2b (fun v=>Yv K1 v.1 v.2.1 v.2.2.1 v.2.2.2.1 v.2.2.2.2.1) .leaf .leaf)))))) .leaf))))) ⟨lf,lf,lf,lf,⟨lf,fun _=>rfl,fun N=>⟨(fun v=>by kernel_rfl),lf,lf,(fun v=>by kernel_rfl),lf⟩⟩,lf⟩ (hk fun _=>by kernel_rfl)
abbrev Qqs:FnE:={f:=41,args:=[Zl],res:=[.str],F:=fun xs=>Zu3 xs.1}
theorem Qol:okE Qqs:=
 ofE (Za Qz (Za Z35 (Za Z36 (Za Z69 (Za Z68 Zf))))) Zd Tryz.func41 Tryz.call41 .leaf lf (hk fun _=>by kernel_rfl)
abbrev Qh4:FnE:={f:=21,args:=[Zl],res:=[.str],F:=fun xs=>Zq7 xs.1}
theorem Qfb:okE Qh4:=
 ofE (Za Qol Zf) Zd Tryz.func21 Tryz.call21 .leaf lf (hk fun _=>by kernel_rfl)
abbrev Qqq:FnE:={f:=134,args:=[Zu],res:=[.bool],F:=fun xs=>Zzz xs.1}
theorem Qoi:okE Qqq:=
 ofE Zf Zd Tryz.func134 Tryz.call134 .leaf lf (hk fun _=>by kernel_rfl)
abbrev Qhw:FnE:={f:=137,args:=[.str],res:=[.str],F:=fun xs=>Zqj xs.1}
theorem Qe8:okE Qhw:=
 ofE Zf Zd Tryz.func137 Tryz.call137 (.seq .leaf (.seq .leaf (.seq (.seq .leaf (.block (.loop Z6z (fun N v=>Zf1 N v.1 v.2.1 v.2.2.1) (fun v=>Zjd v.1 v.2.1 v.2.2.1) (fun K1=> .leaf)))) .leaf))) ⟨lf,lf,⟨lf,fun _=>rfl,fun N=>⟨(fun v=>by kernel_rfl),lf⟩⟩,lf⟩ (hk fun _=>by kernel_rfl)
abbrev Qr2:FnE:={f:=94,args:=[.slice 9 (.str),.str],res:=[.str],F:=fun xs=>Zjy xs.1 xs.2.1}
theorem Z1q:Zrw Tryz.prog glob Qr2:=
 Zrw.join Tryz.call94 (fun _=>rfl) (fun a c sep w=>Tryz.strings_Join_none a c sep w) (fun bk o c xs sep w h1 h2 h3 h4 h5=>Tryz.strings_Join bk o c xs sep w h1 h2 h3 h4 h5)
abbrev Z89:FnE:={f:=92,args:=[Zu],res:=[.str],F:=fun xs=>Zd1 xs.1}
theorem Z64:okE Z89:=
 ofE (Za Z1d (Za Qoi (Za Zyh (Za Zr0 (Za Zch (Za Qe8 (Za Zu0 (Za Z1q Zf)))))))) Zd Tryz.func92 Tryz.call92 (.seq .leaf (.seq .leaf (.seq .leaf (.join Z1y (fun v=>Zg6 v.1 v.2.1) .leaf (.join Z1z (fun v=>J4 v.1 v.2.1) .leaf (.join Z10 (fun v=>Zc3 v.1) .leaf .leaf)))))) ⟨lf,lf,lf,lf,(fun v=>by kernel_rfl),lf,(fun v=>by kernel_rfl),lf,(fun v=>by kernel_rfl),lf⟩ (hk fun _=>by kernel_rfl)
abbrev Quu:FnE:={f:=93,args:=[.str],res:=[.str],F:=fun xs=>Ztg xs.1}
theorem Qs8:okE Quu:=
 ofE (Za Zu0 Zf) Zd Tryz.func93 Tryz.call93 .leaf lf (hk fun _=>by kernel_rfl)
abbrev Z6i:FnE:={f:=42,args:=[.slice 106 (Zu)],res:=[.str],F:=fun xs=>Zf2 xs.1}
theorem Z33:okE Z6i:=
 ofE (Za Z64 (Za Z1q (Za Qs8 Zf))) Zd Tryz.func42 Tryz.call42 (.seq .leaf (.seq .leaf (.seq (.seq .leaf (.block (.loop Zzw (fun N v=>Wb N v.1 v.2.1 v.2.2.1 v.2.2.2.1) (fun v=>Zfn v.1 v.2.1 v.2.2.1 v.2.2.2.1) (fun K1=> .leaf)))) .leaf))) ⟨lf,lf,⟨lf,fun _=>rfl,fun N=>⟨(fun v=>by kernel_rfl),lf⟩⟩,lf⟩ (hk fun _=>by kernel_rfl)
abbrev Z9a:FnE:={f:=22,args:=[Zl],res:=[.slice 9 (.str)],F:=fun xs=>Zm3 xs.1}
theorem Z65:okE Z9a:=
 ofE (Za Vm (Za Zch (Za Z33 Zf))) Zd Tryz.func22 Tryz.call22 (.seq .leaf (.seq .leaf (.seq .leaf (.seq (.seq .leaf (.block (.loop Z11 (fun N v=>Zc4 N v.1 v.2.1 v.2.2.1 v.2.2.2.1) (fun v=>Zoc v.1 v.2.1 v.2.2.1 v.2.2.2.1) (fun K1=> .leaf)))) .leaf)))) ⟨lf,lf,lf,⟨lf,fun _=>rfl,fun N=>⟨(fun v=>by kernel_rfl),lf⟩⟩,lf⟩ (hk fun _=>by kernel_rfl)
abbrev Qve:FnE:={f:=143,args:=[.bool],res:=[.str],F:=fun xs=>Zxk xs.1}
theorem Qtg:okE Qve:=
 ofE Zf Zd Tryz.func143 Tryz.call143 .leaf lf (hk fun _=>by kernel_rfl)
abbrev Qvf:FnE:={f:=144,args:=[.bool],res:=[.str],F:=fun xs=>Zxl xs.1}
theorem Qth:okE Qvf:=
 ofE Zf Zd Tryz.func144 Tryz.call144 .leaf lf (hk fun _=>by kernel_rfl)
abbrev Z9m:FnE:={f:=95,args:=[Zu],res:=[.str],F:=fun xs=>Ju xs.1}
theorem Z7g:okE Z9m:=
 ofE (Za Vu (Za Zys (Za Zyl (Za Ky (Za Zqu (Za Qtg (Za Qth Zf))))))) Zd Tryz.func95 Tryz.call95 (.seq .leaf (.seq .leaf (.seq .leaf (.seq (.seq .leaf (.block (.seq .leaf (.cond .leaf (.seq .leaf (.cond .leaf (.seq .leaf (.cond .leaf (.join Z2q (fun v=>W6 v.1 v.2.1 v.2.2.1 v.2.2.2.1) .leaf (.cond .leaf (.join Z2r (fun v=>W7 v.1 v.2.1 v.2.2.1) .leaf .leaf))))))))))) .leaf)))) ⟨lf,lf,lf,⟨lf,lf,lf,lf,lf,lf,lf,lf,(fun v=>by kernel_rfl),lf,lf,(fun v=>by kernel_rfl),lf⟩,lf⟩ (hk fun _=>by kernel_rfl)
abbrev Z6u:FnE:={f:=43,args:=[.slice 106 (Zu)],res:=[.str],F:=fun xs=>Zgg xs.1}
theorem Z39:okE Z6u:=
 ofE (Za Z7g Zf) Zd Tryz.func43 Tryz.call43 (.seq .leaf (.seq .leaf (.seq (.seq .leaf (.block (.loop Z0y (fun N v=>Yo N v.1 v.2.1 v.2.2.1) (fun v=>Zfq v.1 v.2.1 v.2.2.1) (fun K1=>(.seq .leaf (.seq (.block (.join Z0x (fun v=>Zgh K1 v.1 v.2.1 v.2.2.1) .leaf .leaf)) .leaf)))))) .leaf))) ⟨lf,lf,⟨lf,fun _=>rfl,fun N=>⟨(fun v=>by kernel_rfl),lf,⟨lf,(fun v=>by kernel_rfl),lf⟩,lf⟩⟩,lf⟩ (hk fun _=>by kernel_rfl)
abbrev Z9t:FnE:={f:=23,args:=[Zl],res:=[.slice 9 (.str)],F:=fun xs=>Znh xs.1}
theorem Z7m:okE Z9t:=
 ofE (Za Qz (Za Ky (Za Z39 Zf))) Zd Tryz.func23 Tryz.call23 (.seq .leaf (.seq .leaf (.seq (.seq .leaf (.block (.loop Z2x (fun N v=>Zab N v.1 v.2.1 v.2.2.1) (fun v=>Vp v.1 v.2.1 v.2.2.1) (fun K1=> .leaf)))) .leaf))) ⟨lf,lf,⟨lf,fun _=>rfl,fun N=>⟨(fun v=>by kernel_rfl),lf⟩⟩,lf⟩ (hk fun _=>by kernel_rfl)
abbrev Zvl:FnE:={f:=3,args:=[.slice 5 (.int .u8)],res:=[.bool],F:=fun xs=>Zux xs.1}
theorem Qoj:okE Zvl:=
 ofE (Za Q0q (Za Z18 (Za Qjp (Za Qj1 (Za Zw2 (Za Zxc (Za Qav (Za Qbg (Za Qfa (Za Qan (Za Qa0 (Za Qe7 (Za Qfb (Za Z65 (Za Z7m Zf))))))))))))))) (Zo Z38 (Zo Zz8 (Zo Zz7 (Zo Z17 (Zo Zyi Zd))))) Tryz.func3 Tryz.call3 .leaf lf (hk fun _=>by kernel_rfl)
end
end Go.Proofs.YtplcdmnbgcgdfaaGreatDoor

/- No condition. -/
import Derived.Test.YtcnklikmapfnmaaGreatDoorK1
set_option linter.all false
namespace Go.Proofs.YtcnklikmapfnmaaGreatDoor
noncomputable section
open Go.Am Go.Proofs.Tryz
set_option maxRecDepth 100000
open Bool renaming false→A
def Zxc:okE ⟨14,[Zq],[wO],u1 z7⟩:=Sk (sR Vm Zro Zqm Zm8 Zm6) Ze func14 call14 (sI (.seq (sG (.block (.loop [lI 1 sD,pV 3 tI,pV 15 (.slice 98 Z2),pV 16 tI,pV 17 tI] (λN=>u5 (rz N)) (u5 w6) (λK1=>sA)))) (sF [pV 3 tI,pV 27 (.slice 102 Kb),pV 28 tI,pV 29 tI] (λN=>u4 (rA N)) (u4 w7) (λK2=>sA)))) ⟨⟨λ_=>rfl,λN v=>Ab⟩,λ_=>rfl,λN v=>Ab⟩
def Z1e:okE ⟨151,[Yr],[wO],u1 JU⟩:=Sk (sN mb) Ze func151 call151 sA
def Zlt:okE ⟨152,[Zq],[wO],u1 uC⟩:=Sk (sO Jk Zaw) Ze func152 call152 (sH (sF [lI 1 sD,pV 3 tI,pV 4 tI] (λN=>u3 (bP N)) (u3 aD) (λK1=>sA))) ⟨λ_=>rfl,λN v=>Ab⟩
def Zsc:okE ⟨52,[Zq],[.str],u1 nP⟩:=Sk (sS Jk zm dX Zd6 Z1e Zlt) Ze func52 call52 sA
def Znr:okE ⟨51,[wO,.str],[wO],u2 YL⟩:=Sk Zg Ze func51 call51 (sG (sF [pV 0 tI,pV 1 .str,pV 5 tI] (λN=>u3 (yQ N)) (u3 Zch) (λK1=>sA))) ⟨λ_=>rfl,λN v=>Ab⟩
def Zyb:okE ⟨154,[wO],[.str],u1 ZN⟩:=Sk (sN Xs) Ze func154 call154 sA
def Znk:okE ⟨155,[.slice 257 Zx],[.str],u1 ed⟩:=Sk (sN dX) Ze func155 call155 (sH (sF [pV 0 (.slice 257 Zx),pV 3 .str,pV 4 tI] (λN=>u3 (aI N)) (u3 fE) (λK1=>(sG (.seq (.block (.join [pV 0 (.slice 257 Zx),pV 3 .str,pV 4 tI] (u3 (jg K1)) sA sA)) sA))))) ⟨λ_=>rfl,λN=>⟨(λv=>Ab),λv=>Ab⟩⟩
def Zx8:okE ⟨156,[wO],[.str],u1 ZM⟩:=Sk (sN Xs) Ze func156 call156 sA
def Znl:okE ⟨53,[Z2],[.str],u1 kg⟩:=Sk (sS WD dX Zyb Znk Zx8 Zau) Ze func53 call53 (sI (.join [wA 1 sD,pV 3 .str] (u2 aJ) sA sA)) (λv=>Ab)
def Zyf:okE ⟨269,[wO],[.bool],u1 qs⟩:=Sk (sN Xs) Ze func269 call269 sA
def Z5j:okE ⟨271,[.bool],[.str],u1 gp⟩:=Sk Zg Ze func271 call271 sA
def Z5k:okE ⟨272,[.bool],[.str],u1 G4⟩:=Sk Zg Ze func272 call272 sA
def Zpw:okE ⟨158,[Zu],[.str],u1 gw⟩:=Sk (sT ct Zyf Zin dX JE Z5j Z5k) Ze func158 call158 (sI (.seq (sG (.block (sG (.cond sA (sG (.cond sA (sG (.cond sA (.join [lS 1 sD,pV 3 .str,pV 41 tI,pV 95 .bool] (u4 ri) sA (.cond sA (.join [lS 1 sD,pV 3 .str,pV 109 .bool] (u3 rj) sA sA))))))))))) sA)) ⟨(λv=>Ab),λv=>Ab⟩
def Znj:okE ⟨54,[.slice 127 Zu],[.str],u1 pb⟩:=Sk (sN Zpw) Ze func54 call54 (sH (sF [pV 0 (.slice 127 Zu),pV 3 .str,pV 4 tI] (λN=>u3 (Jn N)) (u3 nz) (λK1=>(sG (.seq (.block (.join [pV 0 (.slice 127 Zu),pV 3 .str,pV 4 tI] (u3 (pd K1)) sA sA)) sA))))) ⟨λ_=>rfl,λN=>⟨(λv=>Ab),λv=>Ab⟩⟩
def Zxy:okE ⟨15,[Zq],[wO],u1 ZK⟩:=Sk (sR Jk Zsc Znr Znl Znj) Ze func15 call15 (sI (.seq (sG (.block (.loop [lI 1 sD,pV 3 tI,pV 4 tI] (λN=>u3 (si N)) (u3 xi) (λK1=>sA)))) (sF [lI 1 sD,pV 3 tI,pV 5 tI] (λN=>u3 (sj N)) (u3 xj) (λK2=>sA)))) ⟨⟨λ_=>rfl,λN v=>Ab⟩,λ_=>rfl,λN v=>Ab⟩
def Zm9:okE ⟨16,[.slice 9 (.str)],[wO],u1 xy⟩:=Sk (sN Zqm) Ze func16 call16 (sH (sF [pV 3 tI,pV 6 (.slice 9 (.str)),pV 7 tI,pV 8 tI] (λN=>u4 (iS N)) (u4 Zp8) (λK1=>sA))) ⟨λ_=>rfl,λN v=>Ab⟩
def Znm:okE ⟨17,[.slice 9 (.str)],[wO],u1 xN⟩:=Sk (sN Znr) Ze func17 call17 (sH (sF [pV 0 (.slice 9 (.str)),pV 3 tI,pV 4 tI] (λN=>u3 (jh N)) (u3 Zqr) (λK1=>sA))) ⟨λ_=>rfl,λN v=>Ab⟩
def Zsr:TH ⟨55,[.bx 110 Ve sD],.vals [iv],u1 QS⟩:=GU [0] Zg (Zt QK (Zt Yj (Zt oQ Ze))) func55 call55 sA
def Zgi:TH ⟨56,[.bx 110 Ve sD],.vals [.slice 70 Qs],u1 yP⟩:=GU [0] Zg (Zt Yj (Zt WE Ze)) func56 call56 (sH (sF [wG 0 sD,wL 3 sC,pV 4 tI] (λN=>u3 (pn N)) (u3 uQ) (λK1=>sA))) ⟨λ_=>rfl,λN v=>Ab⟩
def Z5e:TH ⟨159,[.bx 110 Ve sD,.sh wO],.vals [.str],u2 x7⟩:=GU [0] Zg (Zt Yj (Zt UU Ze)) func159 call159 (sI (sF [wG 0 sD,wH 5 sC,pV 6 tI,pV 7 tI] (λN=>u4 (jo N)) (u4 zW) (λK1=>(sG (.seq (.block (sG (.join [wG 0 sD,wH 5 sC,pV 6 tI,pV 7 tI,pV 8 tI] (u5 (yK K1)) sA (.join [wG 0 sD,wH 5 sC,pV 6 tI,pV 7 tI,pV 8 tI] (u5 (yM K1)) sA sA)))) sA))))) ⟨λ_=>rfl,λN=>⟨(λv=>Ab),(λv=>Ab),λv=>Ab⟩⟩
def Z1j:TH ⟨58,[.bx 110 Ve sD,.sh (.str)],.vals [.str],u2 Fo⟩:=GU [0] Zg (Zt Z5e (Zt Yj (Zt UU Ze))) func58 call58 sA
def Qdl:okE ⟨21,[.slice 5 (.int .u8)],[.str],u1 fQ⟩:=Sk (sN Zay) (Zt wj (Zt Zgi (Zt mF (Zt Z1j Ze)))) func21 call21 sA
def Zjy:okE ⟨18,[.slice 5 (.int .u8)],[.bool,iv,iv,.str],u1 rg⟩:=Sk (sN Qdl) (Zt wj (Zt mF (Zt Zsr (Zt QK Ze)))) func18 call18 sA
def Z1p:okE ⟨160,[.str],[.str,.str],u1 JY⟩:=Sk Zg Ze func160 call160 (sG (sF [pV 0 .str,pV 4 tI] (λN=>u2 (oe N)) (u2 pm) (λK1=>sA))) ⟨λ_=>rfl,λN v=>Ab⟩
def Zx4:okE ⟨273,[.str],[wO,.bool],u1 qo⟩:=Sk (sN dX) Ze func273 call273 (sI (.seq (sG (.block (.loop [pV 0 .str,pV 4 tI,pV 5 tI,pV 6 tI] (λN=>u4 (ml N)) (u4 xm) (λK1=>(sG (.join [pV 0 .str,pV 4 tI,pV 5 tI,pV 6 tI] (u4 (sr K1)) sA sA)))))) (.join [pV 0 .str,pV 4 tI,pV 5 tI] (u3 bf) sA sA))) ⟨⟨λ_=>rfl,λN=>⟨(λv=>Ab),λv=>Ab⟩⟩,λv=>Ab⟩
def Z5i:okE ⟨161,[.str],[wO],u1 tx⟩:=Sk (sN Zx4) Ze func161 call161 sA
def Zsm:okE ⟨60,[.str],[Qs,.bool],u1 vq⟩:=Sk (sQ Z1p JF Z5i Zb7) Ze func60 call60 (sI (.seq (sG (.block (.loop [pV 0 .str,pY 2 sD,pV 4 .str,pV 5 .str,pY 6 sD,pV 7 tI] (λN=>u6 (V8 N)) (u6 Zzj) (λK1=>(sG (.join [pV 0 .str,pY 2 sD,pV 4 .str,pV 5 .str,pY 6 sD,pV 7 tI] (u6 (uG K1)) sA sA)))))) (sG (.join [pV 0 .str,pY 2 sD,pY 6 sD] (u3 aO) (sG (.block (.join [pV 0 .str,pY 2 sD,pV 5 .str,pY 6 sD,pV 8 .str,pV 9 .str,pV 32 tI,pV 36 .bool] (u8 uH) sA (.cond sA (.join [pV 0 .str,pY 2 sD,pV 5 .str,pY 6 sD,pV 8 .str,pV 9 .str,pV 32 tI,pV 41 .bool] (u8 uI) sA (.cond sA (sG (.cond sA (.join [pV 0 .str,pY 2 sD,pV 5 .str,pY 6 sD,pV 8 .str,pV 9 .str,pV 54 .bool] (u7 mQ) sA sA))))))))) sA)))) ⟨⟨λ_=>rfl,λN=>⟨(λv=>Ab),λv=>Ab⟩⟩,⟨(λv=>Ab),(λv=>Ab),λv=>Ab⟩,λv=>Ab⟩
def Zax:okE ⟨22,[.str],[.slice 70 Qs,.bool],u1 o8⟩:=Sk (sO Znp Zsm) Ze func22 call22 (sI (sF [wL 4 sC,wF 5 sC,pV 6 tI] (λN=>u3 (dj N)) (u3 nw) (λK1=>sA))) ⟨λ_=>rfl,λN v=>Ab⟩
def Zsp:TH ⟨19,[.sh (.bool),.sh iv,.sh iv,.sh (.str)],.flg [(.slice 9 (.str),sC),(Zq,sD),(.bool,sC)],u4 QQ⟩:=GU [] (sO RF Zax) (Zt Zgg Ze) func19 call19 (sI (.seq (sG (.cond (sG (.frz [(9,.u A)])) sA)) (.seq (.frz [(11,.u A)]) sA)))
def Z5h:TH ⟨57,[.bx 110 Ve sD],.vals [Qs],u1 EM⟩:=GU [0] Zg (Zt WE (Zt Yj (Zt JJ (Zt oQ Ze)))) func57 call57 sA
def Zhe:okE ⟨20,[.slice 5 (.int .u8)],[.slice 70 Qs],u1 mZ⟩:=Sk Zg (Zt wj (Zt Zgi (Zt mF (Zt Z5h Ze)))) func20 call20 sA
def Z1n:TH ⟨274,[.bx 110 Ve sD,.sh Zq],.flg [(Zq,sD)],u2 Ev⟩:=GU [0] (sQ Zeb Zcd Zaz Zcc) (Zt Yj (Zt mF (Zt JK (Zt Zee (Zt Zcb (Zt JJ (Zt Zd8 (Zt Zk8 (Zt Zb8 (Zt Zea (Zt Zga Ze))))))))))) func274 call274 (sH (.join [wG 0 sD,lI 3 sD,lI 4 sC,pV 5 tI] (u4 vx) sA (sG (.seq (sG (.block (sG (.cond sA (.join [wG 0 sD,lI 3 sD,lI 4 sC,pV 5 tI,lI 6 sD,pV 27 tI,pV 38 .bool] (u7 vz) sA (.cond sA (sG (.cond sA (sG (.cond sA (sG (.cond sA (.join [wG 0 sD,lI 3 sD,lI 4 sC,lI 6 sD,pV 27 tI,pV 91 .bool] (u6 v5) sA sA))))))))))))) (sG (.frz [(4,.u A)])))))) ⟨(λv=>Ab),(λv=>Ab),λv=>Ab⟩
def Z1k:TH ⟨162,[.bx 110 Ve sD],.flg [(Zq,sD)],u1 jX⟩:=GU [0] (sN RF) (Zt mF (Zt QK (Zt Yj (Zt Z1n Ze)))) func162 call162 (sH (sF [wG 0 sD,lI 2 sC,lI 3 sD,pV 5 tI] (λN=>u4 (vv N)) (u4 yN) (λK1=>(sG (.seq (.block (.frz [(3,.u A)])) sA))))) ⟨λ_=>rfl,λN v=>Ab⟩
def Z5f:TH ⟨61,[.bx 110 Ve sD],.flg [(Zq,sD)],u1 UZ⟩:=GU [0] Zg (Zt Z1k (Zt Yj (Zt oQ Ze))) func61 call61 sA
def Znf:TH ⟨23,[.sh (.slice 5 (.int .u8))],.flg [(Zq,sD)],u1 xJ⟩:=GU [] Zg (Zt wj (Zt Z5f Ze)) func23 call23 sA
def Z3d:okE ⟨25,[.slice 5 (.int .u8)],[.slice 9 (.str)],u1 fR⟩:=Sk Zg (Zt wj (Zt Yj (Zt JK Ze))) func25 call25 (sI (sF [.ptr 3 7 [],wF 4 sC,pV 5 tI,wG 7 sD] (λN=>u3 (bX N)) (u3 jd) (λK1=>sA))) ⟨λ_=>rfl,λN v=>Ab⟩
def Zcu:TH ⟨24,[.sh (.slice 5 (.int .u8))],.shr [.slice 9 (.str),.slice 9 (.str)],u1 iH⟩:=GU [] (sN Z3d) Ze func24 call24 (sH (.seq (sG (.cond (.seq (.frz [(4,.u A)]) sA) sA)) (sG (.frz [(2,.u A),(3,.u A)]))))
def Zif:okE ⟨26,[.slice 9 (.str),.slice 9 (.str)],[wO],u2 yf⟩:=Sk Zg Ze func26 call26 (sG (sF [pV 0 (.slice 9 (.str)),pV 1 (.slice 9 (.str)),pV 10 tI,pV 11 tI] (λN=>u4 (cX N)) (u4 ko) (λK1=>sA))) ⟨λ_=>rfl,λN v=>Ab⟩
def Zil:okE ⟨27,[.slice 9 (.str),.slice 9 (.str)],[wO],u2 yD⟩:=Sk Zg Ze func27 call27 (sG (sF [pV 0 (.slice 9 (.str)),pV 1 (.slice 9 (.str)),pV 5 tI] (λN=>u3 (dr N)) (u3 ks) (λK1=>sA))) ⟨λ_=>rfl,λN v=>Ab⟩
abbrev VT:P3:=⟨3,[.slice 5 (.int .u8)],[.bool],u1 KY⟩
def Zu1:okE VT:=Sk (Za Qeo (Za Zpr (Za Zm3 (Zzx Zat Zay Zu2 Zsa Zxc Zxy Zm9 Znm Zjy Zhe Qdl Zax Z3d Zif Zil)))) (Zt Zr3 (Zt Zgg (Zt Zf8 (Zt Zsp (Zt Znf (Zt Zcu Ze)))))) func3 call3 (sM (.seq (.frz [(3,.u A)]) (.join [pV 0 (.slice 5 (.int .u8)),wF 8 sC,lI 9 sD,pV 10 .bool,wF 11 sC,lI 12 sD,wF 13 sC] (u7 xE) sA (.seq (.seq (.frz [(11,.u A)]) sA) sA)))) (λv=>Ab)
end
end Go.Proofs.YtcnklikmapfnmaaGreatDoor

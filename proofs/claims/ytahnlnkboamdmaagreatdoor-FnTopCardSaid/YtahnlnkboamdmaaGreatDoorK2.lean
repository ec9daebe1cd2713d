/- No condition. -/
import Derived.Test.YtahnlnkboamdmaaGreatDoorK1
set_option linter.all false
namespace Go.Proofs.YtahnlnkboamdmaaGreatDoor
noncomputable section
open Go.Am Go.Proofs.Tryz
set_option maxRecDepth 100000
open Bool renaming false→A
def a9:okE ⟨260,[Zx],[.bool],u1 K9⟩:=
 ofE (sU XL kJ Yf X7 kI Zj6 Zff zd) Zd func260 call260 (sJ (.seq (sG (.block (.loop [tY 1 sD,pV 3 (.slice 218 Zz),pV 4 tI] (λN=>u3 (fT N)) (u3 Va) (λK1=>sA)))) (.seq (sG (.block (.loop [tY 1 sD,pV 3 (.slice 218 Zz),pV 5 tI] (λN=>u3 (fU N)) (u3 fD) (λK2=>sA)))) (sH (.seq (sG (.block (.loop [tY 1 sD,pV 7 tI] (λN=>u2 (fV N)) (u2 fE) (λK3=>sA)))) (sF [tY 1 sD,pV 8 tI] (λN=>u2 (fW N)) (u2 mg) (λK4=>sA))))))) ⟨⟨λ_=>rfl,λN v=>Ah⟩,⟨λ_=>rfl,λN v=>Ah⟩,⟨λ_=>rfl,λN v=>Ah⟩,λ_=>rfl,λN v=>Ah⟩
def cR:okE ⟨129,[Qx],[.bool],u1 Vu⟩:=
 ofE (sO X7 Yf) Zd func129 call129 sA
def pn:okE ⟨367,[Xh],[.bool],u1 kx⟩:=
 ofE (sN X7) Zd func367 call367 (sH (sF [wD 1 sD,pV 3 tI,pV 4 tI] (λN=>u3 (kS N)) (u3 ut) (λK1=>sA))) ⟨λ_=>rfl,λN v=>Ah⟩
def Z2y:okE ⟨368,[Xh],[wS],u1 wv⟩:=
 ofE (sN pn) Zd func368 call368 sA
def zV:okE ⟨369,[Xh],[wS],u1 eE⟩:=
 ofE (sN pn) Zd func369 call369 sA
def fO:okE ⟨263,[Qi],[.bool],u1 Yt⟩:=
 ofE (sQ pn X7 Z2y zV) Zd func263 call263 (sI (.seq (sG (.block (sG (.cond sA (sG (.cond sA (sG (.cond sA (sG (.cond sA (.join [wG 1 sD,pV 114 .bool] (u2 Kr) sA sA))))))))))) sA)) (λv=>Ah)
def po:okE ⟨130,[Yi],[.bool],u1 bX⟩:=
 ofE (sN Yf) Zd func130 call130 sA
def zU:okE ⟨267,[Yn],[.bool],u1 cg⟩:=
 ofE (sN Yf) Zd func267 call267 sA
def Zfg:okE ⟨253,[Zy],[.bool],u1 g9⟩:=
 ofE (sS X7 a9 cR fO po zU) Zd func253 call253 sA
def zS:okE ⟨128,[.slice 62 Zy],[.bool],u1 Vj⟩:=
 ofE (sN Zfg) Zd func128 call128 (sG (sF [pV 0 (.slice 62 Zy),pV 3 tI] (λN=>u2 (Jh N)) (u2 cX) (λK1=>sA))) ⟨λ_=>rfl,λN v=>Ah⟩
def VQ:okE ⟨131,[ci],[.bool],u1 g7⟩:=
 ofE (sN Yf) Zd func131 call131 sA
def zb:okE ⟨132,[Qx],[.bool],u1 bk⟩:=
 ofE (sN Yf) Zd func132 call132 sA
def Zr4:okE ⟨134,[.slice 118 Zt],[.bool],u1 iG⟩:=
 ofE (sN eB) Zd func134 call134 (sG (sF [pV 0 (.slice 118 Zt),pV 3 tI] (λN=>u2 (ax N)) (u2 Wm) (λK1=>sA))) ⟨λ_=>rfl,λN v=>Ah⟩
def Zr0:okE ⟨135,[.slice 62 Zy],[wS],u1 iC⟩:=
 ofE (sN zS) Zd func135 call135 (sH (sF [pV 0 (.slice 62 Zy),pV 3 tI,pV 4 tI] (λN=>u3 (Vy N)) (u3 J0) (λK1=>sA))) ⟨λ_=>rfl,λN v=>Ah⟩
def Zry:okE ⟨136,[.slice 62 Zy],[wS],u1 iB⟩:=
 ofE (sN zS) Zd func136 call136 (sH (sF [pV 0 (.slice 62 Zy),pV 3 tI,pV 4 tI] (λN=>u3 (Vx N)) (u3 Jz) (λK1=>sA))) ⟨λ_=>rfl,λN v=>Ah⟩
def aJ:okE ⟨35,[Zq],[.bool],u1 Jn⟩:=
 ofE (sW Zbh zS cR po VQ zb Yf Zr4 Zr0 Zry) Zd func35 call35 (sH (sF [tX 1 sD,pV 3 tI] (λN=>u2 (dL N)) (u2 aa) (λK1=>sA))) ⟨λ_=>rfl,λN v=>Ah⟩
def Zrr:okE ⟨137,[wS],[.str],u1 lQ⟩:=
 ofE (sN Yf) Zd func137 call137 sA
def Zpg:okE ⟨138,[.str],[.bool],u1 zt⟩:=
 ofE (sN Yf) Zd func138 call138 (sG (sF [pV 0 .str,pV 3 tI] (λN=>u2 (f6 N)) (u2 qm) (λK1=>sA))) ⟨λ_=>rfl,λN v=>Ah⟩
def Zkf:okE ⟨139,[.str],[.bool],u1 uX⟩:=
 ofE (sN Yf) Zd func139 call139 (sG (sF [pV 0 .str,pV 3 tI] (λN=>u2 (dg N)) (u2 mw) (λK1=>sA))) ⟨λ_=>rfl,λN v=>Ah⟩
def Zr5:okE ⟨164,[.int .u8],[wS],u1 wz⟩:=
 ofE (sN Zhs) Zd func164 call164 (sG (sF [pV 0 (.int .u8),pV 3 tI] (λN=>u2 (bM N)) (u2 rX) (λK1=>sA))) ⟨λ_=>rfl,λN v=>Ah⟩
def Zde:okE ⟨49,[.str],[.str,.bool],u1 lM⟩:=
 ofE (sN Zr5) Zd func49 call49 (sI (sF [pV 0 .str,wN 4 sC,pV 5 tI] (λN=>u3 (bJ N)) (u3 ko) (λK1=>sA))) ⟨λ_=>rfl,λN v=>Ah⟩
def Zw6:okE ⟨36,[Jp],[.bool],u1 rR⟩:=
 ofE (sS Zrr Zhu Yf Zpg Zkf Zde) Zd func36 call36 sA
def xG:okE ⟨11,[Zq],[.bool],u1 gz⟩:=
 ofE Zg Zd func11 call11 sA
def Vi:okE ⟨140,[Zq],[.bool],u1 J2⟩:=
 ofE (sO aJ xG) Zd func140 call140 sA
def Zun:okE ⟨141,[ci],[wS,ci,.bool],u1 yG⟩:=
 ofE (sN VQ) Zd func141 call141 sA
def Z0x:okE ⟨142,[wS,.bool,.bool],[wS],u3 ZK⟩:=
 ofE (sN Yf) Zd func142 call142 (sI (.join [pV 2 .bool,pV 7 tI] (u2 wx) sA sA)) (λv=>Ah)
def ZF:okE ⟨254,[],[Yn],λ_=>V7⟩:=
 ofE Zg Zd func254 call254 sA
def Zmu:okE ⟨255,[],[Qi],λ_=>qb⟩:=
 ofE Zg Zd func255 call255 sA
def zc:okE ⟨357,[wS],[.bool],u1 av⟩:=
 ofE (sN X7) Zd func357 call357 sA
def Zo4:okE ⟨436,[wS],[.bool],u1 mO⟩:=
 ofE (sN X7) Zd func436 call436 sA
def JA:okE ⟨358,[.bool,wS],[.bool],u2 fS⟩:=
 ofE (sO X7 Zo4) Zd func358 call358 sA
def XJ:okE ⟨256,[.bool,wS],[.bool],u2 Jy⟩:=
 ofE (sP X7 zc JA) Zd func256 call256 sA
def nm:okE ⟨257,[.bool,wS],[.bool],u2 Ym⟩:=
 ofE (sP X7 zc JA) Zd func257 call257 sA
def Zw8:okE ⟨359,[wS],[Ks,.bool],u1 XZ⟩:=
 ofE (sN VS) Zd func359 call359 sA
def Zrv:okE ⟨258,[wS],[Zx,.bool],u1 dO⟩:=
 ofE (sN Zw8) Zd func258 call258 sA
def Zdi:okE ⟨143,[.bool,wS,ot,ot],[Zy,.bool],u4 Vq⟩:=
 ofE (sV X7 Zbh ZF Zmu XJ nm Zrv Zdh Zdj) Zd func143 call143 sA
def zT:okE ⟨259,[.slice 62 Zy,wS],[wS],u2 Ko⟩:=
 ofE Zg Zd func259 call259 (sG (sF [pV 0 (.slice 62 Zy),pV 1 tI,pV 5 tI] (λN=>u3 (Kp N)) (u3 Jm) (λK1=>sA))) ⟨λ_=>rfl,λN v=>Ah⟩
def Jb:okE ⟨144,[.slice 62 Zy,Zy],[.slice 62 Zy],u2 Q8⟩:=
 ofE (sO zT VR) Zd func144 call144 (sJ (sF [pV 0 (.slice 62 Zy),wE 3 sD,wQ 5 sC,pV 6 tI,pV 7 .bool,pV 8 tI] (λN=>u6 (Xz N)) (u6 bo) (λK1=>(sG (.seq (.block (sG (.join [pV 0 (.slice 62 Zy),wE 3 sD,wQ 5 sC,pV 6 tI,pV 7 .bool,pV 8 tI,wE 9 sC] (u7 (Kk K1)) sA sA))) sA))))) ⟨λ_=>rfl,λN=>⟨(λv=>Ah),λv=>Ah⟩⟩
def Zo8:okE ⟨37,[Zq,.bool],[wS,Zq,.bool],u2 mP⟩:=
 ofE (sS Xg Vi Zun Z0x Zdi Jb) Zd func37 call37 (sJ (.join [pV 1 .bool,tX 2 sD,tX 5 sC,tX 7 sC,.box 8 32 ci sD] (u5 fX) sA (sG (.join [pV 1 .bool,tX 2 sD,tX 5 sC,tX 7 (sE (sE (sE (.p sC (sE (sE (sE (sE sC)))))))),pV 9 tI,pV 11 .bool] (u6 Wl) sA sA)))) ⟨(λv=>Ah),λv=>Ah⟩
def Zrs:okE ⟨38,[wS],[.str],u1 lR⟩:=
 ofE Zg Zd func38 call38 (sJ (.seq (.block (.loop [pV 0 tI,pV 3 .str,pV 4 .bool] (λN=>u3 (bK N)) (u3 rN) (λK1=>(sG (.block (sG (.join [pV 0 tI,pV 3 .str,pV 4 .bool,pV 5 tI] (u4 (iZ K1)) sA sA))))))) sA)) ⟨λ_=>rfl,λN=>⟨(λv=>Ah),λv=>Ah⟩⟩
def Yo:okE ⟨145,[Zq,wS],[Zy,.bool],u2 Xt⟩:=
 ofE (sO zT VR) Zd func145 call145 sA
def Z0y:okE ⟨365,[Ks],[wS],u1 ZL⟩:=
 ofE (sN XL) Zd func365 call365 sA
def Zr3:okE ⟨261,[Ks,.str],[Ks,wS],u2 iE⟩:=
 ofE (sO Zbo Z0y) Zd func261 call261 (sI (sF [pV 1 .str,wC 2 sD,wC 4 sC,wC 6 sC,pV 7 tI,pV 8 tI] (λN=>u6 (J1 N)) (u6 kp) (λK1=>sA))) ⟨λ_=>rfl,λN v=>Ah⟩
def Zmz:okE ⟨146,[Zx,.str],[Zx,wS],u2 df⟩:=
 ofE (sQ iv a9 Zr3 kI) Zd func146 call146 (sJ (.join [tY 4 sC,tY 6 (sE sC),wC 7 sC,pV 8 tI] (u4 kb) sA sA)) (λv=>Ah)
def Zm0:okE ⟨39,[Zq,wS,.str],[wS,Zq],u3 kY⟩:=
 ofE (sR Xg Yo Vi Zmz Jb) Zd func39 call39 sA
def Zmi:okE ⟨147,[Zx],[Zx,.bool],u1 cY⟩:=
 ofE (sO iv a9) Zd func147 call147 sA
def Zka:okE ⟨40,[Zq,wS],[Zq,.bool],u2 iY⟩:=
 ofE (sR Xg Yo Vi Zmi Jb) Zd func40 call40 sA
def Zr1:okE ⟨264,[Xh,wS],[.str,Xh],u2 iD⟩:=
 ofE (sO zV Zbn) Zd func264 call264 (sL (.seq (sG (.cond (.seq (.frz [(7,.u A)]) sA) sA)) sA))
def Zkb:okB ⟨148,[.sh Qi,.sh wS],.shr [.str,Qi],u2 Vw⟩:=
 ofB [] (sP XN fO Zr1) Zd func148 call148 (sH (.seq (sG (.cond (sG (.frz [(5,.u A)])) sA)) (.seq (sG (.cond (sH (.frz [(5,.u A)])) sA)) (sG (.seq (.frz [(8,.u A)]) (.join [wG 5 sC,wG 6 sD,pV 7 .str] (u3 de) sA sA)))))) (λv=>Ah)
def Zrx:okE ⟨265,[Yi,wS],[Yi,.bool],u2 lW⟩:=
 ofE (sN po) Zd func265 call265 sA
def Zhr:okB ⟨149,[.bx 37 Zq sD,.bx 62 Zy sD,.sh wS],.vals [],u3 nL⟩:=
 ofB [0,1] (sN Zrx) Zd func149 call149 sA
def Zo3:okE ⟨437,[Zy],[.bool],u1 td⟩:=
 ofE Zg Zd func437 call437 sA
def Zo1:okE ⟨475,[Qi],[.bool],u1 mM⟩:=
 ofE (sN fO) Zd func475 call475 sA
def Zo2:okE ⟨438,[Zy],[.bool],u1 mN⟩:=
 ofE (sN Zo1) Zd func438 call438 sA
def Z0w:okE ⟨370,[Zy],[.bool],u1 rg⟩:=
 ofE (sP Zfg Zo3 Zo2) Zd func370 call370 sA
def Zuh:okE ⟨371,[Qx],[Qx,.bool],u1 gv⟩:=
 ofE (sN zb) Zd func371 call371 sA
def Zxc:okB ⟨266,[.bx 37 Zq sD,.bx 62 Zy sD],.vals [],u2 YD⟩:=
 ofB [0,1] (sQ JA Z0w zc Zuh) Zd func266 call266 sA
def mG:okB ⟨150,[.bx 37 Zq sD,.sh Zy],.vals [],u2 Vh⟩:=
 ofB [0] (sN Jb) (Z7 Zxc Zd) func150 call150 sA
def Zpb:okB ⟨41,[.sh Zq,.sh wS,.sh wS],.flg [(.str,sC),(.bool,sC),(Zq,sD)],u3 mQ⟩:=
 ofB [] (sP Xg Yo Vi) (Z7 Zkb (Z7 Zhr (Z7 mG Zd))) func41 call41 (sI (.seq (sG (.cond (sG (.frz [(8,.u A)])) sA)) (.seq (.frz [(10,.u A)]) (sG (.join [tX 8 sC,tX 9 (.p sC (.p (.p sC (.p sC (.p sC (.p sC (.p sC (.p sC (.p sC (.p sC sC)))))))) (.p (.p sC (.p sC (.p sC (.p sC (.p sC (.p sC (.p sC (.p sC sC)))))))) (sE (.p (.p sC (.p sC (.p sC (.p sC sC)))) (.p (.p sC (.p sC (.p sC (.p sC (.p sC (.p sC sC)))))) (.p (.p sC (.p sC (.p sC sC))) (.p (.p sC (.p sC (.p sC sC))) (.p (.p sC (.p sC (.p sC (.p sC sC)))) (.p (.p sC (.p sC (.p sC (.p sC sC)))) (.p sC (.p sC (.p sC (.p sC (.p sC (sE (.p sC (.p sC sC)))))))))))))))))),wE 10 sD,pV 12 .str,wG 13 sD] (u5 fY) (sG (.cond (.frz [(9,.u A)]) sA)) sA))))) (λv=>Ah)
def WF:okE ⟨152,[Zx,wS],[Zx,.bool],u2 Ju⟩:=
 ofE (sP a9 X7 iv) Zd func152 call152 (sH (.join [pV 1 tI,tY 2 sD,tY 4 sC,wC 6 (sE (sE (sE (.p sC sD))))] (u4 oN) sA sA)) (λv=>Ah)
def Zmx:okB ⟨43,[.sh Zq,.sh wS,.sh wS],.flg [(Zq,sD),(.bool,sC)],u3 kW⟩:=
 ofB [] (sQ Xg Yo Vi WF) (Z7 mG Zd) func43 call43 (sI (.seq (sG (.cond (sG (.frz [(6,.u A)])) sA)) (sG (.seq (sG (.cond (sG (.frz [(6,.u A)])) sA)) (sH (.seq (.frz [(8,.u A),(9,.u A)]) sA))))))
def Zpc:okE ⟨44,[Zq,wS,wS],[Zq,.bool],u3 mR⟩:=
 ofE (sR Xg Yo Vi X7 Jb) Zd func44 call44 sA
def Z0z:okE ⟨268,[.str,.int .u8],[.slice 9 (.str)],u2 ZM⟩:=
 ofE Zg Zd func268 call268 (sI (sF [pV 0 .str,pV 1 (.int .u8),wP 5 sC,pV 6 .str,pV 7 tI] (λN=>u5 (dQ N)) (u5 oO) (λK1=>(sG (.join [pV 0 .str,pV 1 (.int .u8),wP 5 sC,pV 6 .str,pV 7 tI] (u5 (lY K1)) sA sA))))) ⟨λ_=>rfl,λN=>⟨(λv=>Ah),λv=>Ah⟩⟩
def Zw9:okE ⟨269,[.str],[.str],u1 xM⟩:=
 ofE Zg Zd func269 call269 (sG (.seq (.block (.loop [pV 0 .str] (λN=>u1 (eG N)) (u1 nJ) (λK1=>sA))) (.seq (.block (.loop [pV 0 .str] (λN=>u1 (jo N)) (u1 iF) (λK2=>sA))) sA))) ⟨⟨λ_=>rfl,λN v=>Ah⟩,λ_=>rfl,λN v=>Ah⟩
def Zii:okE ⟨154,[Yn,.str],[Yn],u2 aQ⟩:=
 ofE (sQ zU ZF Z0z Zw9) Zd func154 call154 (sG (.join [pV 1 .str,wK 2 sD,wK 4 sD] (u3 Vb) sA (sG (sF [wK 2 sD,wK 4 sD,wP 5 sC,pV 6 tI] (λN=>u4 (X6 N)) (u4 lV) (λK1=>(sG (.join [wK 2 sD,wK 4 sD,wP 5 sC,pV 6 tI] (u4 (Jk K1)) sA sA))))))) ⟨(λv=>Ah),λ_=>rfl,λN=>⟨(λv=>Ah),λv=>Ah⟩⟩
def Zmy:okE ⟨45,[Zq,wS,.str],[Zq,.bool],u3 kX⟩:=
 ofE (sR Xg Yo Vi Zii Jb) Zd func45 call45 sA
def XM:okE ⟨372,[Yi],[.bool],u1 dN⟩:=
 ofE (sN po) Zd func372 call372 sA
def WE:okE ⟨373,[Yi,wS,wS],[Yi,.bool],u3 db⟩:=
 ofE (sO XM Yf) Zd func373 call373 (sH (.join [pV 1 tI,.box 3 30 Yi sD,.box 6 30 Yi sD] (u3 oL) sA sA)) (λv=>Ah)
def Zfl:okE ⟨270,[Zq],[Yi,.bool],u1 ub⟩:=
 ofE (sO XM WE) Zd func270 call270 sA
def Zdg:okE ⟨374,[Qx],[.bool],u1 iA⟩:=
 ofE (sN zb) Zd func374 call374 sA
def Zo9:okE ⟨375,[Qx],[Qx,.bool],u1 jl⟩:=
 ofE (sN Zdg) Zd func375 call375 sA
def Zfk:okE ⟨271,[Qx,.bool],[Qx,.bool],u2 hQ⟩:=
 ofE (sO Zdg Zo9) Zd func271 call271 sA
def Zdl:okE ⟨376,[Zq,Zy],[Yi,.bool],u2 qk⟩:=
 ofE (sO XM WE) Zd func376 call376 sA
def Zfh:okE ⟨273,[Qx],[.bool],u1 yD⟩:=
 ofE (sN cR) Zd func273 call273 sA
def Zr6:okE ⟨272,[Zq,Zy],[.slice 118 Zt],u2 qi⟩:=
 ofE (sO Zdl Zfh) Zd func272 call272 (sH (.join [tX 2 sD,wE 3 sD,wA 5 sC] (u3 dU) sA (.join [tX 2 sD,wE 3 sD,wA 5 sC] (u3 dV) sA (sG (.join [wE 3 sD,wA 5 sC] (u2 nN) sA sA))))) ⟨(λv=>Ah),(λv=>Ah),λv=>Ah⟩
def Zie:okE ⟨155,[Zq],[.slice 118 Zt],u1 fQ⟩:=
 ofE (sR Vi Zfl Zfk Zr6 Zfh) Zd func155 call155 (sJ (.join [tX 1 sD,wA 3 sC] (u2 ag) sA (sG (.join [tX 1 sD,wA 3 sC] (u2 ah) sA (sG (.join [tX 1 sD,wA 3 sC] (u2 ai) sA (.seq (sG (.block (.loop [tX 1 sD,wA 3 sC,pV 10 tI] (λN=>u3 (ak N)) (u3 dI) (λK1=>sA)))) (.join [tX 1 sD,wA 3 sC] (u2 fx) sA (.join [tX 1 sD,wA 3 sC] (u2 fA) sA sA))))))))) ⟨(λv=>Ah),(λv=>Ah),(λv=>Ah),⟨λ_=>rfl,λN v=>Ah⟩,(λv=>Ah),λv=>Ah⟩
def XK:okE ⟨156,[Zt],[wS],u1 lS⟩:=
 ofE (sN yd) Zd func156 call156 sA
def JV:okE ⟨274,[Qx],[Qx],u1 iW⟩:=
 ofE (sN cR) Zd func274 call274 sA
def Zxd:okB ⟨275,[.sh Zq,.sh Zy,.sh wS],.shr [Zy],u3 Zag⟩:=
 ofB [] (sO Zdl JV) Zd func275 call275 sA
def Zmt:okE ⟨157,[Zq,Zt],[Zq],u2 xK⟩:=
 ofE (sT Xg aJ Zfl Zfk JV Yo Jb) (Z7 Zxd Zd) func157 call157 (sI (.seq (sG (.block (sG (.cond sA (sG (.cond sA (sG (.cond sA (sG (.cond sA (sH (.cond (.frz [(12,.u A)]) sA)))))))))))) sA))
def Zpe:okE ⟨276,[Zq],[.slice 234 Qr],u1 zo⟩:=
 ofE Zg Zd func276 call276 (sH (sF [tX 1 sD,wL 3 sC,pV 4 tI] (λN=>u3 (fZ N)) (u3 qj) (λK1=>(sG (.join [tX 1 sD,wL 3 sC,pV 4 tI] (u3 (rY K1)) sA sA))))) ⟨λ_=>rfl,λN=>⟨(λv=>Ah),λv=>Ah⟩⟩
def Zpf:okE ⟨277,[.slice 234 Qr,wS],[.slice 234 Qr],u2 mS⟩:=
 ofE Zg Zd func277 call277 (sH (sF [pV 0 (.slice 234 Qr),pV 1 tI,wL 5 sC,pV 6 tI] (λN=>u4 (Wn N)) (u4 je) (λK1=>(sG (.join [pV 0 (.slice 234 Qr),pV 1 tI,wL 5 sC,pV 6 tI] (u4 (f5 K1)) sA sA))))) ⟨λ_=>rfl,λN=>⟨(λv=>Ah),λv=>Ah⟩⟩
def Zid:okE ⟨439,[.slice 234 Qr],[.bool],u1 rK⟩:=
 ofE (sO X7 zU) Zd func439 call439 (sG (sF [pV 0 (.slice 234 Qr),pV 3 tI] (λN=>u2 (bT N)) (u2 dG) (λK1=>sA))) ⟨λ_=>rfl,λN v=>Ah⟩
def Zo6:okE ⟨377,[.slice 234 Qr],[.slice 3 wS],u1 zk⟩:=
 ofE (sN Zid) Zd func377 call377 (sI (sF [pV 0 (.slice 234 Qr),wI 3 sC,pV 4 tI,pV 5 tI] (λN=>u4 (aR N)) (u4 da) (λK1=>(sG (.join [pV 0 (.slice 234 Qr),wI 3 sC,pV 4 tI,pV 5 tI] (u4 (rS K1)) (.block (.join [pV 0 (.slice 234 Qr),wI 3 sC,pV 4 tI,pV 5 tI] (u4 (rT K1)) sA sA)) sA))))) ⟨λ_=>rfl,λN=>⟨(λv=>Ah),λv=>Ah,λv=>Ah⟩⟩
def Zut:okE ⟨378,[.slice 3 wS,wS],[wS],u2 JD⟩:=
 ofE Zg Zd func378 call378 (sG (sF [pV 0 (.slice 3 wS),pV 1 tI,pV 5 tI] (λN=>u3 (kZ N)) (u3 mh) (λK1=>sA))) ⟨λ_=>rfl,λN v=>Ah⟩
def Zo7:okE ⟨278,[.slice 234 Qr,wS],[wS],u2 zl⟩:=
 ofE (sO Zo6 Zut) Zd func278 call278 (sI (sF [pV 0 (.slice 234 Qr),pV 1 tI,wI 5 sC,wI 6 sC,pV 7 tI] (λN=>u5 (cH N)) (u5 jb) (λK1=>(sG (.seq (.block (sG (.block (.loop [pV 0 (.slice 234 Qr),pV 1 tI,wI 5 sC,wI 6 sC,pV 7 tI,pV 8 tI] (λN=>u6 (cI K1 N)) (u6 jc) (λK2=>(sG (.join [pV 0 (.slice 234 Qr),pV 1 tI,wI 5 sC,wI 6 sC,pV 7 tI,pV 8 tI] (u6 (rV K1 K2)) sA sA))))))) sA))))) ⟨λ_=>rfl,λN=>⟨(λv=>Ah),λ_=>rfl,λN=>⟨(λv=>Ah),λv=>Ah⟩⟩⟩
def Zot:okE ⟨379,[Qx],[wS],u1 ta⟩:=
 ofE (sN cR) Zd func379 call379 sA
def Zup:okE ⟨440,[Ks,wS,wS],[.str,.bool],u3 tz⟩:=
 ofE (sO XL Zbk) Zd func440 call440 (sI (sF [pV 1 tI,pV 2 tI,wC 3 sD,pV 8 .str,pV 9 tI] (λN=>u5 (qd N)) (u5 uv) (λK1=>sA))) ⟨λ_=>rfl,λN v=>Ah⟩
def Zrw:okE ⟨380,[Zx,wS,wS],[Km,.bool],u3 YA⟩:=
 ofE (sO a9 Zup) Zd func380 call380 (sI (.seq (sG (.cond (sI (.join [tY 3 sD,wF 6 sD,wF 8 sD,wH 9 sD,pV 10 tI] (u5 nI) sA sA)) sA)) sA)) (λv=>Ah)
def Zbi:okE ⟨282,[wS,Km],[Zt],u2 te⟩:=
 ofE Zg Zd func282 call282 sA
def Zuq:okE ⟨279,[Zq,wS,wS],[Km,.bool],u3 JC⟩:=
 ofE (sS Yo aJ Zot Zrw Zbi XK) Zd func279 call279 (sJ (sF [pV 1 tI,pV 2 tI,wF 6 sD,wE 8 sC,pV 10 tI,pV 11 tI] (λN=>u6 (kU N)) (u6 uw) (λK1=>sA))) ⟨λ_=>rfl,λN v=>Ah⟩
def Zmv:okE ⟨381,[Qx],[Qx],u1 kT⟩:=
 ofE (sN cR) Zd func381 call381 sA
def Zuv:okB ⟨280,[.bx 37 Zq sC,.sh wS],.vals [],u2 ua⟩:=
 ofB [0] (sP Yo Zmv Jb) Zd func280 call280 sA
def VT:okE ⟨384,[Zx,Km],[.bool],u2 xN⟩:=
 ofE Zg Zd func384 call384 sA
def VU:okE ⟨386,[Km],[Zz],u1 kr⟩:=
 ofE Zg Zd func386 call386 sA
def wg:okE ⟨385,[.slice 218 Zz,.slice 218 Zz],[.slice 218 Zz],u2 dH⟩:=
 ofE (sN kJ) Zd func385 call385 (sH (sF [pV 0 (.slice 218 Zz),pV 1 (.slice 218 Zz),wB 5 sC,pV 6 tI] (λN=>u4 (aM N)) (u4 eW) (λK1=>(sG (.seq (.block (sG (.block (.loop [pV 0 (.slice 218 Zz),pV 1 (.slice 218 Zz),wB 5 sC,pV 6 tI,pV 7 tI] (λN=>u5 (cZ K1 N)) (u5 eX) (λK2=>(sG (.join [pV 0 (.slice 218 Zz),pV 1 (.slice 218 Zz),wB 5 sC,pV 6 tI,pV 7 tI] (u5 (nG K1 K2)) (.block (.join [pV 0 (.slice 218 Zz),pV 1 (.slice 218 Zz),wB 5 sC,pV 6 tI,pV 7 tI,wH 8 sD] (u6 (wu K1 K2)) sA sA)) sA))))))) sA))))) ⟨λ_=>rfl,λN=>⟨(λv=>Ah),λ_=>rfl,λN=>⟨(λv=>Ah),λv=>Ah,λv=>Ah⟩⟩⟩
def ye:okE ⟨387,[.slice 218 Zz,Zz],[.slice 218 Zz],u2 kV⟩:=
 ofE (sP kJ Zbm Zbl) Zd func387 call387 (sI (sF [pV 0 (.slice 218 Zz),wH 3 sD,wB 5 sC,pV 6 tI] (λN=>u4 (ae N)) (u4 hD) (λK1=>(sG (.join [pV 0 (.slice 218 Zz),wH 3 sD,wB 5 sC,pV 6 tI] (u4 (oM K1)) (.block (.join [pV 0 (.slice 218 Zz),wH 3 sD,wB 5 sC,pV 6 tI] (u4 (ka K1)) sA sA)) sA))))) ⟨λ_=>rfl,λN=>⟨(λv=>Ah),λv=>Ah,λv=>Ah⟩⟩
def Zrz:okE ⟨382,[Zx,Km],[Zx,.bool],u2 qe⟩:=
 ofE (sU iv a9 VT VU wg ye kI zd) Zd func382 call382 (sI (.join [wF 3 sD,tY 4 sC,tY 6 (sE (.p sC (.p sC (.p sC (.p sC sD)))))] (u3 dP) sA (.join [tY 4 sC,tY 6 (sE (.p sC (.p sC (.p sC (.p sC sD)))))] (u2 jd) sA sA))) ⟨(λv=>Ah),λv=>Ah⟩
def Zr2:okE ⟨383,[Qx,wS],[Qx,.bool],u2 lX⟩:=
 ofE (sN cR) Zd func383 call383 sA
def Zru:okE ⟨281,[Zq,wS,Km],[Zq,.bool],u3 XY⟩:=
 ofE (sS Xg Yo aJ Zrz Zr2 Jb) Zd func281 call281 sA
def Zxe:okB ⟨158,[.bx 37 Zq sC,.mv (.slice 118 Zt) sC,.sh wS],.vals [.slice 118 Zt],u3 Zah⟩:=
 ofB [0] (sT Zpe Zpf Zo7 Zuq Zru Zbi XK) (Z7 Zuv Zd) func158 call158 (sH (sF [tX 0 sC,wA 1 sC,pV 2 tI,wI 7 sC,pV 8 tI] (λN=>u5 (jp N)) (u5 w9) (λK1=>(sG (.join [tX 0 sC,wA 1 sC,pV 2 tI,wI 7 sC,pV 8 tI] (u5 (th K1)) (.block (sG (.seq (sG (.block (.loop [tX 0 sC,wA 1 sC,pV 2 tI,wI 7 sC,pV 8 tI,wL 9 sC,pV 10 tI] (λN=>u7 (ti K1 N)) (u7 xa) (λK2=>sA)))) (sJ (.join [tX 0 sC,wA 1 sC,pV 2 tI,wI 7 sC,pV 8 tI,pV 11 tI,wF 12 sD,tX 14 sC,pV 15 .bool] (u9 (VX K1)) sA sA))))) sA))))) ⟨λ_=>rfl,λN=>⟨(λv=>Ah),⟨⟨λ_=>rfl,λN v=>Ah⟩,λv=>Ah⟩,λv=>Ah⟩⟩
def Zig:okE ⟨159,[.slice 118 Zt],[.str],u1 cD⟩:=
 ofE (sN yd) Zd func159 call159 (sH (sF [pV 0 (.slice 118 Zt),pV 3 .str,pV 4 tI] (λN=>u3 (Yy N)) (u3 dJ) (λK1=>sA))) ⟨λ_=>rfl,λN v=>Ah⟩
def Zou:okB ⟨46,[.sh Zq,.sh wS],.flg [(.str,sC),(wS,sC),(Zq,(sE (sE (sE (.p sC sD)))))],u2 zg⟩:=
 ofB [] (sT Xg Vi Yf Zie XK Zmt Zig) (Z7 Zxe Zd) func46 call46 (sH (.seq (sG (.cond (sG (.frz [(6,(sE (sE (sE (.p sC sD)))))])) sA)) (sI (.seq (sG (.block (.loop [tX 2 sD,tX 6 sC,tX 7 sC,wA 8 sC,pV 9 tI,wA 10 sC,pV 11 tI] (λN=>u7 (Wi N)) (u7 iX) (λK1=>(sG (.join [tX 2 sD,tX 6 sC,tX 7 sC,wA 8 sC,pV 9 tI,wA 10 sC,pV 11 tI] (u7 (rL K1)) sA sA)))))) (sG (.seq (sG (.cond (sG (.frz [(6,(sE (sE (sE (.p sC sD)))))])) sA)) (.seq (.frz [(8,.u A)]) (sH (.frz [(6,(sE (sE (sE (.p sC sD)))))]))))))))) ⟨λ_=>rfl,λN=>⟨(λv=>Ah),λv=>Ah⟩⟩
def Zfi:okE ⟨160,[Zq,wS],[X8,.bool],u2 yH⟩:=
 ofE Zg Zd func160 call160 (sG (sF [pV 1 tI,tX 2 sD,.box 4 166 X8 sC,pV 6 tI] (λN=>u4 (qc N)) (u4 uu) (λK1=>sA))) ⟨λ_=>rfl,λN v=>Ah⟩
def Zht:okB ⟨161,[.bx 37 Zq sD,.sh wS],.vals [],u2 YE⟩:=
 ofB [0] Zg Zd func161 call161 (sG (sF [tX 0 sD,pV 1 tI,wR 4 (.p sC sD),pV 5 tI] (λN=>u4 (mT N)) (u4 xb) (λK1=>(sG (.join [tX 0 sD,pV 1 tI,wR 4 (.p sC sD),pV 5 tI] (u4 (zp K1)) sA sA))))) ⟨λ_=>rfl,λN=>⟨(λv=>Ah),λv=>Ah⟩⟩
def Zfm:okE ⟨285,[Zt],[Km],u1 yK⟩:=
 ofE Zg Zd func285 call285 sA
def Zui:okE ⟨388,[Ks,wS],[Ks,.bool],u2 gw⟩:=
 ofE (sO Zbo XL) Zd func388 call388 (sI (sF [pV 1 tI,wC 2 sD,wC 4 sC,wC 6 sC,pV 7 tI] (λN=>u5 (bh N)) (u5 mf) (λK1=>sA))) ⟨λ_=>rfl,λN v=>Ah⟩
def Zuf:okE ⟨284,[Zx,Km],[Zx],u2 gu⟩:=
 ofE (sW iv a9 VT VU wg ye kI Zff Zui zd) Zd func284 call284 (sI (.join [tY 2 sD,wF 3 sD,tY 4 sC,tY 5 sC] (u4 Ww) (sG (.cond (sH (.block (.loop [tY 2 sD,wF 3 sD,tY 4 sC,tY 5 sC,wB 6 sC,pV 7 tI] (λN=>u6 (bg N)) (u6 bS) (λK1=>sA)))) sA)) (.join [tY 2 sD,tY 4 sC,tY 5 (sE (.p sC (.p sC (.p sC (.p sC sD)))))] (u3 bf) sA (.join [tY 4 sC,tY 5 (sE (.p sC (.p sC (.p sC (.p sC sD))))),wC 8 sC] (u3 kM) sA sA)))) ⟨⟨λ_=>rfl,λN v=>Ah⟩,(λv=>Ah),(λv=>Ah),λv=>Ah⟩
def Zug:okE ⟨286,[Zx],[Zx,.bool],u1 tv⟩:=
 ofE (sO iv a9) Zd func286 call286 sA
def Z01:okB ⟨162,[.bx 37 Zq sD,.sh Zt],.vals [],u2 Zdq⟩:=
 ofB [0] (sR Yo um Zfm Zuf Zug) (Z7 mG Zd) func162 call162 (sG (.join [tX 0 sD,tZ 3 sD,wE 4 sC,pV 5 .bool] (u4 Zbx) sA (sG (.join [tX 0 sD,wE 4 (sE (.p sC (sE (.p sC sD))))] (u2 iH) sA (.frz [(4,.u A)]))))) ⟨(λv=>Ah),λv=>Ah⟩
def Zrp:okB ⟨47,[.sh Zq,.sh wS],.flg [(Zq,sD),(.bool,sC)],u2 XX⟩:=
 ofB [] (sP Xg Zfi Vi) (Z7 Zht (Z7 Z01 Zd)) func47 call47 (sI (.seq (sG (.cond (sG (.frz [(4,.u A)])) sA)) (.seq (.frz [(6,.u A)]) (sF [tX 4 sC,tX 6 sD,.box 7 166 X8 sC,pV 9 tI] (λN=>u4 (nF N)) (u4 kn) (λK1=>sA))))) ⟨λ_=>rfl,λN v=>Ah⟩
def Zrt:okE ⟨287,[Zx,Km],[Zx],u2 dM⟩:=
 ofE (sU iv a9 VT VU wg ye kI zd) Zd func287 call287 (sI (.join [tY 2 sD,wF 3 sD,tY 4 sC,tY 5 sC] (u4 Vv) (sG (.cond (sH (.block (.loop [tY 2 sD,wF 3 sD,tY 4 sC,tY 5 sC,wB 6 sC,pV 7 tI] (λN=>u6 (aw N)) (u6 bn) (λK1=>sA)))) sA)) (.join [tY 4 sC,tY 5 (sE (.p sC (.p sC (.p sC (.p sC sD)))))] (u2 bL) sA sA))) ⟨⟨λ_=>rfl,λN v=>Ah⟩,(λv=>Ah),λv=>Ah⟩
def Zxf:okB ⟨163,[.bx 37 Zq sD,.sh Zt],.vals [],u2 Zai⟩:=
 ofB [0] (sR Yo um Zfm Zrt Jb) Zd func163 call163 (sH (.join [tX 0 sD,tZ 3 sD,wE 4 sC,pV 5 .bool] (u4 VY) sA (sG (.join [tX 0 sD,wE 4 (sE (.p sC (sE (.p sC sD))))] (u2 eI) sA sA)))) ⟨(λv=>Ah),λv=>Ah⟩
def Zo5:okB ⟨48,[.sh Zq,.sh wS],.flg [(Zq,sD),(.bool,sC)],u2 zj⟩:=
 ofB [] (sP Xg Zfi Vi) (Z7 Zht (Z7 Zxf Zd)) func48 call48 (sI (.seq (sG (.cond (sG (.frz [(4,.u A)])) sA)) (.seq (.frz [(6,.u A)]) (sF [tX 4 sC,tX 6 sD,.box 7 166 X8 sC,pV 9 tI] (λN=>u4 (lU N)) (u4 ja) (λK1=>sA))))) ⟨λ_=>rfl,λN v=>Ah⟩
def Zbg:okE ⟨441,[.str,wS],[wS,wS,.bool],u2 Yh⟩:=
 ofE Zg Zd func441 call441 (sK (sF [pV 0 .str,pV 1 tI,pV 7 tI,pV 8 tI,pV 9 tI] (λN=>u5 (cC N)) (u5 pz) (λK1=>sA))) ⟨λ_=>rfl,λN v=>Ah⟩
def Zkh:okE ⟨390,[.str,wS,wS],[.slice 3 wS,wS,.bool],u3 dh⟩:=
 ofE (sN Zbg) Zd func390 call390 (sH (sF [pV 0 .str,pV 1 tI,pV 2 tI,wI 9 sC,pV 10 tI] (λN=>u5 (dW N)) (u5 ea) (λK1=>sA))) ⟨λ_=>rfl,λN v=>Ah⟩
def Zux:okE ⟨389,[.str,wS,wS],[Zt,wS,.bool],u3 oq⟩:=
 ofE (sP Zkh Zbg eB) Zd func389 call389 (sI (.join [pV 0 .str,pV 1 tI,pV 2 tI,tZ 6 sD,tZ 9 sD,pV 10 tI] (u6 ld) sA (sI (.join [pV 0 .str,pV 2 tI,tZ 6 sD,tZ 9 sD,pV 12 tI] (u5 f7) sA (sG (.join [pV 0 .str,tZ 6 sD,tZ 9 sD,pV 12 tI,pV 14 tI] (u5 gf) sA sA)))))) ⟨(λv=>Ah),(λv=>Ah),λv=>Ah⟩
def Zmj:okE ⟨288,[.str,wS],[Zt,wS,.bool],u2 kN⟩:=
 ofE (sP Zux Zkh eB) Zd func288 call288 (sL (.join [pV 0 .str,pV 1 tI,tZ 4 sD,tZ 11 sD,pV 12 tI] (u5 Ve) (sG (.block (sG (.cond sA (.join [pV 0 .str,pV 1 tI,tZ 4 sD,pV 7 tI,tZ 11 sD,pV 12 tI,pV 55 tI,pV 58 .bool] (u8 bz) sA (.cond sA (.join [pV 0 .str,pV 1 tI,tZ 4 sD,pV 7 tI,tZ 11 sD,pV 12 tI,pV 62 .bool] (u7 d6) sA sA))))))) (sG (.join [tZ 4 sD,tZ 11 sD,pV 14 tI,pV 15 .bool] (u4 Y8) (sG (.block (sG (.cond sA (sG (.cond sA (.join [tZ 4 sD,tZ 11 sD,wI 13 sC,pV 14 tI,pV 15 .bool,pV 117 .bool] (u6 dZ) sA sA))))))) sA)))) ⟨⟨(λv=>Ah),λv=>Ah⟩,(λv=>Ah),λv=>Ah,λv=>Ah⟩
def Zif:okE ⟨165,[.str],[.slice 118 Zt,.bool],u1 Wh⟩:=
 ofE (sO Zmj Yf) Zd func165 call165 (sI (.seq (.block (.loop [pV 0 .str,wA 4 sC,pV 5 tI] (λN=>u3 (J9 N)) (u3 lN) (λK1=>sA))) sA)) ⟨λ_=>rfl,λN v=>Ah⟩
def Zrq:okE ⟨166,[Zq,wS],[Zq],u2 wt⟩:=
 ofE (sO Xg Yf) Zd func166 call166 sA
def Zw5:okE ⟨443,[wS],[wS],u1 rQ⟩:=
 ofE (sN X7) Zd func443 call443 sA
def Zus:okE ⟨442,[Qx,wS],[Qx,wS,.bool],u2 oo⟩:=
 ofE (sN zb) Zd func442 call442 sA
def Zxb:okB ⟨444,[.bx 37 Zq sC,.sh wS,.sh wS],.vals [],u3 YC⟩:=
 ofB [0] (sO Zdi Jb) Zd func444 call444 (sG (.block (.loop [tX 0 sC,pV 1 tI,pV 6 tI] (λN=>u3 (eH N)) (u3 nK) (λK1=>(sG (.seq (.block (.join [tX 0 sC,pV 1 tI,pV 6 tI,wE 7 sC] (u4 (zm K1)) sA sA)) sA)))))) ⟨λ_=>rfl,λN=>⟨(λv=>Ah),λv=>Ah⟩⟩
def nq:okE ⟨391,[Zq,wS],[Zq,wS],u2 ap⟩:=
 ofE (sU Xg aJ X7 zT JA zc Zw5 Zus) (Z7 Zxb Zd) func391 call391 (sL (.join [pV 1 tI,tX 2 sD,tX 4 sC,tX 6 sC,.box 7 34 Qx sD] (u5 K8) sA (.join [pV 1 tI,tX 2 sD,tX 4 sC,tX 6 sC,.box 8 34 Qx sD,pV 9 tI,pV 10 .bool] (u7 c8) sA (sG (.join [pV 1 tI,tX 4 sC,tX 6 (sE (sE (sE (.p sC (sE (sE (sE (sE (sE (sE sC)))))))))),pV 9 tI] (u4 aN) sA sA))))) ⟨(λv=>Ah),(λv=>Ah),λv=>Ah⟩
def Zhv:okE ⟨445,[Qi,wS,.bool],[wS],u3 rZ⟩:=
 ofE Zg Zd func445 call445 sA
def Zj5:okE ⟨476,[Xh],[.slice 218 Zz],u1 uT⟩:=
 ofE (sN pn) Zd func476 call476 (sH (sF [wD 1 sD,wB 3 sC,pV 4 tI] (λN=>u3 (V5 N)) (u3 eV) (λK1=>sA))) ⟨λ_=>rfl,λN v=>Ah⟩
def Z0v:okE ⟨477,[Xh,wS],[wS],u2 ZJ⟩:=
 ofE Zg Zd func477 call477 (sG (sF [pV 1 tI,wD 2 sD,pV 5 tI] (λN=>u3 (iy N)) (u3 oJ) (λK1=>sA))) ⟨λ_=>rfl,λN v=>Ah⟩
def Zo0:okE ⟨446,[Xh,wS,.str],[Xh],u3 mL⟩:=
 ofE (sS pn Zbn Zj5 kI Z0v Zbk) Zd func446 call446 (sM (sF [pV 1 tI,pV 2 .str,wD 3 sD,wD 6 sC,wD 9 (sE sC),wB 10 sC,pV 11 tI] (λN=>u7 (Wj N)) (u7 az) (λK1=>(sG (.seq (.block (sG (sF [pV 1 tI,pV 2 .str,wD 3 sD,wD 6 sC,wD 9 (sE sC),wB 10 sC,pV 11 tI,pV 12 .str,pV 13 tI] (λN=>u9 (Kq K1 N)) (u9 aA) (λK2=>(sG (.seq (.block (sG (.join [pV 1 tI,pV 2 .str,wD 3 sD,wD 6 sC,wD 9 (sE sC),wB 10 sC,pV 11 tI,pV 12 .str,pV 13 tI,pV 14 tI] (u10 (cG K1 K2)) sA sA))) sA)))))) sA))))) ⟨λ_=>rfl,λN=>⟨(λv=>Ah),λ_=>rfl,λN=>⟨(λv=>Ah),λv=>Ah⟩⟩⟩
def Zmw:okE ⟨392,[Qi,wS,.str,.bool],[Qi,wS],u4 Yp⟩:=
 ofE (sR XN fO Zhv Zo0 zV) Zd func392 call392 (sM (.join [pV 1 tI,pV 2 .str,wG 4 sD,wG 8 sC,wG 10 (sE (.p sC sD))] (u5 Yq) sA (sG (.join [wG 8 sC,wG 10 (sE (.p sC sD))] (u2 bD) sA sA)))) ⟨(λv=>Ah),λv=>Ah⟩
def Zul:okE ⟨447,[Qi,wS],[wS],u2 tw⟩:=
 ofE (sO fO X7) Zd func447 call447 sA
def Zur:okE ⟨448,[Yi,wS],[Yi,.bool],u2 om⟩:=
 ofE (sN po) Zd func448 call448 sA
def Zhq:okB ⟨393,[.bx 37 Zq sD,.bx 62 Zy sD,.sh wS],.vals [wS],u3 rW⟩:=
 ofB [0,1] (sO Zul Zur) Zd func393 call393 sA
def Zoy:okB ⟨289,[.sh Zq,.sh Zt],.flg [(Zq,sD),(wS,sC)],u2 mJ⟩:=
 ofB [] (sT aJ eB Xg nm nq Yo Zmw) (Z7 Zhq (Z7 mG Zd)) func289 call289 (sG (.seq (sG (.cond (sG (.frz [(4,.u A)])) sA)) (.seq (sG (.cond (sG (.frz [(4,.u A)])) sA)) (sG (.seq (sG (.cond (sG (.frz [(4,.u A)])) sA)) (sH (.seq (.frz [(6,.u A),(8,.u A)]) (.seq (sG (.cond (sG (.frz [(4,.u A)])) sA)) (.seq (sG (.cond (sG (.frz [(4,.u A)])) sA)) (sG (.seq (.frz [(8,.u A)]) sA)))))))))))
def Zkc:okE ⟨394,[Qi,wS,wS],[Qi,wS],u3 Kl⟩:=
 ofE (sQ XN fO X7 Zhv) Zd func394 call394 sA
def Zms:okB ⟨290,[.sh Zq,.sh Zt],.flg [(Zq,sD),(wS,sC)],u2 kR⟩:=
 ofB [] (sT aJ eB Xg nm nq Yo Zkc) (Z7 Zhq (Z7 Zhr (Z7 mG Zd))) func290 call290 (sG (.seq (sG (.cond (sG (.frz [(4,.u A)])) sA)) (.seq (sG (.cond (sG (.frz [(4,.u A)])) sA)) (sG (.seq (sG (.cond (sG (.frz [(4,.u A)])) sA)) (sH (.seq (.frz [(6,.u A),(8,.u A)]) (.seq (sG (.cond (sG (.frz [(4,.u A)])) sA)) (.seq (sG (.cond (sG (.frz [(4,.u A)])) sA)) (.join [tX 4 sC,tX 6 sD,wE 8 sD,wG 10 sC] (u4 d9) sA (sG (.seq (.frz [(8,.u A)]) sA)))))))))))) (λv=>Ah)
def Zoz:okB ⟨291,[.sh Zq,.sh Zt],.flg [(Zq,sD),(wS,sC)],u2 mK⟩:=
 ofB [] (sT aJ eB Xg XJ nq Yo WF) (Z7 mG Zd) func291 call291 (sG (.seq (sG (.cond (sG (.frz [(4,.u A)])) sA)) (.seq (sG (.cond (sG (.frz [(4,.u A)])) sA)) (sG (.seq (sG (.cond (sG (.frz [(4,.u A)])) sA)) (sH (.join [tX 4 sC,tX 6 sC,wE 8 (sE (.p sC (sE (.p sC sD))))] (u3 fR) sA (.seq (.frz [(6,.u A),(8,.u A)]) sA)))))))) (λv=>Ah)
def Zbj:okE ⟨395,[Qx,wS],[Qx],u2 jn⟩:=
 ofE (sO cR X7) Zd func395 call395 sA
def Zpa:okE ⟨396,[ci,wS],[ci],u2 jm⟩:=
 ofE (sN VQ) Zd func396 call396 sA
def Zuu:okE ⟨397,[Zq,Zt],[Zq,wS],u2 yI⟩:=
 ofE (sT XJ nm Xg nq Yo Zbj Jb) Zd func397 call397 (sH (.join [tX 2 sD,tZ 3 sD,tX 4 sC,pV 6 .bool] (u4 k9) sA (sI (.join [tX 4 sC,tX 7 (sE (sE (sE sC)))] (u2 qg) sA sA)))) ⟨(λv=>Ah),λv=>Ah⟩
def Zmr:okE ⟨292,[Zq,Zt],[Zq,wS],u2 kQ⟩:=
 ofE (sS Xg aJ eB Zbj Zpa Zuu) Zd func292 call292 (sI (.seq (sG (.block (sG (.cond sA (sG (.cond (.join [tX 4 sC,tX 6 (sE (sE (sE (.p sC (sE (sE (sE (sE sC))))))))] (u2 j9) sA sA) (.join [tX 2 sD,tZ 3 sD,tX 4 sC,tX 6 sC,pV 21 tI,pV 48 .bool] (u6 d7) sA (.cond sA (.join [tX 2 sD,tZ 3 sD,tX 4 sC,tX 6 sC,pV 52 .bool] (u5 d8) sA sA))))))))) sA)) ⟨λv=>Ah,(λv=>Ah),λv=>Ah⟩
def Zmq:okB ⟨167,[.sh Zq,.sh Zt],.flg [(Zq,sD),(wS,sC)],u2 kP⟩:=
 ofB [] (sO Xg Zmr) (Z7 Zoy (Z7 Zms (Z7 Zoz Zd))) func167 call167 (sI (.join [tX 4 sC,tX 6 (.p sC (.p (.p sC (.p sC (.p sC (.p sC (.p sC (.p sC (.p sC (.p sC sC)))))))) (.p (.p sC (.p sC (.p sC (.p sC (.p sC (.p sC (.p sC (.p sC sC)))))))) (sE (.p (.p sC (.p sC (.p sC (.p sC sC)))) (.p (.p sC (.p sC (.p sC (.p sC (.p sC (.p sC sC)))))) (.p (.p sC (.p sC (.p sC sC))) (.p (.p sC (.p sC (.p sC sC))) (.p (.p sC (.p sC (.p sC (.p sC sC)))) (.p (.p sC (.p sC (.p sC (.p sC sC)))) (.p sC (.p sC (.p sC (.p sC (.p sC (sE (.p sC (.p sC sC)))))))))))))))))),pV 7 tI] (u3 bC) sA sA)) (λv=>Ah)
def Zih:okB ⟨50,[.sh Zq,.sh (.str)],.flg [(Zq,sD),(wS,sC)],u2 rO⟩:=
 ofB [] (sR Xg aJ xG Zif Zrq) (Z7 Zmq Zd) func50 call50 (sH (.seq (sG (.cond (sG (.frz [(4,.u A)])) sA)) (sG (.seq (sG (.cond (sG (.frz [(4,.u A)])) sA)) (sF [tX 4 sC,tX 6 sD,wA 7 sC,pV 9 tI] (λN=>u4 (fB N)) (u4 dK) (λK1=>(sG (.seq (.block (.join [tX 4 sC,tX 6 sD,wA 7 sC,pV 9 tI,tX 10 sD,pV 11 tI] (u6 (ur K1)) (.frz [(6,.u A)]) (.seq (sG (.cond (sG (.frz [(4,.u A)])) sA)) sA))) sA)))))))) ⟨λ_=>rfl,λN=>⟨(λv=>Ah),λv=>Ah⟩⟩
def Zuo:okE ⟨51,[Zq,wS],[Zq,.bool],u2 tx⟩:=
 ofE (sP Xg Vi Yf) Zd func51 call51 sA
def Z20:okE ⟨52,[.bool],[.str],u1 Z10⟩:=
 ofE Zg Zd func52 call52 sA
def Zos:okB ⟨7,[.sh Zq,.sh Jp],.flg [(.str,sC),(Zq,sD)],u2 zf⟩:=
 ofB [] (pY Xg aJ Zw6 xG Zo8 Zrs Zm0 Zka Zdf Zpc Zmy Zde Zuo Z20) (Z7 Zpb (Z7 Zmx (Z7 Zou (Z7 Zrp (Z7 Zo5 (Z7 Zih Zd)))))) func7 call7 (sH (.seq (sG (.cond (sG (.frz [(5,.u A)])) sA)) (.seq (sG (.cond (sG (.frz [(5,.u A)])) sA)) (sG (.join [tX 5 sC,tX 6 (.p sC (.p (.p sC (.p sC (.p sC (.p sC (.p sC (.p sC (.p sC (.p sC sC)))))))) (.p (.p sC (.p sC (.p sC (.p sC (.p sC (.p sC (.p sC (.p sC sC)))))))) (sE (.p (.p sC (.p sC (.p sC (.p sC sC)))) (.p (.p sC (.p sC (.p sC (.p sC (.p sC (.p sC sC)))))) (.p (.p sC (.p sC (.p sC sC))) (.p (.p sC (.p sC (.p sC sC))) (.p (.p sC (.p sC (.p sC (.p sC sC)))) (.p (.p sC (.p sC (.p sC (.p sC sC)))) (.p sC (.p sC (.p sC (.p sC (.p sC (sE (.p sC (.p sC sC)))))))))))))))))),pV 7 .bool] (u3 J4) (sG (.block (sG (.cond (sG (.seq (sG (.cond (sG (.frz [(5,.u A)])) sA)) (sG (.frz [(5,.u A)])))) (sG (.cond (sH (.frz [(5,.u A)])) (sG (.cond sA (sG (.cond sA (sG (.cond sA (sG (.cond sA (sG (.cond sA (sG (.cond (sG (.seq (sG (.cond (sG (.frz [(5,.u A)])) sA)) (sG (.frz [(5,.u A)])))) sA)))))))))))))))))) sA))))) (λv=>Ah)
def Zox:okE ⟨398,[Ks,Ks],[.bool],u2 zh⟩:=
 ofE Zg Zd func398 call398 (sH (sF [wC 2 sD,wC 3 sD,pV 5 tI] (λN=>u3 (lP N)) (u3 p9) (λK1=>sA))) ⟨λ_=>rfl,λN v=>Ah⟩
def Zmo:okE ⟨399,[.slice 218 Zz,.slice 218 Zz],[.bool],u2 kO⟩:=
 ofE Zg Zd func399 call399 (sH (sF [pV 0 (.slice 218 Zz),pV 1 (.slice 218 Zz),pV 5 tI] (λN=>u3 (j7 N)) (u3 og) (λK1=>sA))) ⟨λ_=>rfl,λN v=>Ah⟩
def Zj8:okE ⟨293,[Zx,Zx],[.bool],u2 uV⟩:=
 ofE (sO Zox Zmo) Zd func293 call293 sA
def Zj7:okE ⟨400,[Xh,Xh],[.bool],u2 uU⟩:=
 ofE Zg Zd func400 call400 (sH (sF [wD 2 sD,wD 3 sD,pV 5 tI] (λN=>u3 (iz N)) (u3 mu) (λK1=>sA))) ⟨λ_=>rfl,λN v=>Ah⟩
def Zgr:okE ⟨294,[Qi,Qi],[.bool],u2 oK⟩:=
 ofE (sN Zj7) Zd func294 call294 sA
def Zj9:okE ⟨168,[Zy,Zy],[.bool],u2 uW⟩:=
 ofE (sO Zj8 Zgr) Zd func168 call168 sA
def Zmp:okE ⟨53,[.slice 62 Zy,.slice 62 Zy],[.bool],u2 xJ⟩:=
 ofE (sN Zj9) Zd func53 call53 (sH (sF [pV 0 (.slice 62 Zy),pV 1 (.slice 62 Zy),pV 5 tI] (λN=>u3 (j8 N)) (u3 oh) (λK1=>sA))) ⟨λ_=>rfl,λN v=>Ah⟩
def Zgs:okE ⟨54,[.slice 166 X8,.slice 166 X8],[.bool],u2 oP⟩:=
 ofE Zg Zd func54 call54 (sH (sF [pV 0 (.slice 166 X8),pV 1 (.slice 166 X8),pV 5 tI] (λN=>u3 (dS N)) (u3 kq) (λK1=>(sG (.seq (.block (sH (.block (.loop [pV 0 (.slice 166 X8),pV 1 (.slice 166 X8),pV 5 tI,pV 6 tI] (λN=>u4 (dT K1 N)) (u4 dj) (λK2=>sA))))) sA))))) ⟨λ_=>rfl,λN=>⟨(λv=>Ah),λ_=>rfl,λN v=>Ah⟩⟩
def Zow:okE ⟨8,[Zq,Zq],[.bool],u2 tc⟩:=
 ofE (sO Zmp Zgs) Zd func8 call8 sA
def Zjt:okE ⟨55,[Zq],[.bool],u1 uE⟩:=
 ofE (sO Kf Zdd) Zd func55 call55 (sH (sF [tX 1 sD,pV 9 (.slice 62 Zy),pV 10 tI,pV 11 tI] (λN=>u4 (ie N)) (u4 mo) (λK1=>sA))) ⟨λ_=>rfl,λN v=>Ah⟩
def Zju:okE ⟨56,[Zq],[.bool],u1 uF⟩:=
 ofE (sO Kf Zdc) Zd func56 call56 (sI (sF [tX 1 sD,pV 3 tI,pV 10 (.slice 62 Zy),pV 11 tI,pV 12 tI] (λN=>u5 (ig N)) (u5 mq) (λK1=>sA))) ⟨λ_=>rfl,λN v=>Ah⟩
def Zuc:okE ⟨170,[.slice 166 X8,wS],[.slice 218 Zz],u2 KY⟩:=
 ofE (sN kF) Zd func170 call170 (sH (sF [pV 1 tI,wB 5 sC,pV 11 (.slice 166 X8),pV 12 tI,pV 13 tI] (λN=>u5 (kD N)) (u5 mb) (λK1=>(sH (.seq (.block (sH (.block (.loop [pV 1 tI,wB 5 sC,pV 11 (.slice 166 X8),pV 12 tI,pV 13 tI,pV 18 (.slice 118 Zt),pV 19 tI,pV 20 tI] (λN=>u8 (kE K1 N)) (u8 mc) (λK2=>sA))))) sA))))) ⟨λ_=>rfl,λN=>⟨(λv=>Ah),λ_=>rfl,λN v=>Ah⟩⟩
def Zlw:okE ⟨57,[Zq],[.bool],u1 xe⟩:=
 ofE (sP Kf Zuc ya) Zd func57 call57 (sH (sF [tX 1 sD,pV 9 (.slice 62 Zy),pV 10 tI,pV 11 tI] (λN=>u4 (jr N)) (u4 nW) (λK1=>sA))) ⟨λ_=>rfl,λN v=>Ah⟩
def Zlv:okE ⟨58,[Zq],[.bool],u1 xd⟩:=
 ofE (sR Kf od XH mF JU) Zd func58 call58 (sI (sF [tX 1 sD,pV 3 tI,pV 4 tI,.box 5 191 (.arr 2 wS) sD,pV 13 (.slice 62 Zy),pV 14 tI,pV 15 tI] (λN=>u7 (dX N)) (u7 nV) (λK1=>sA))) ⟨λ_=>rfl,λN v=>Ah⟩
def Zhn:okE ⟨10,[Zq],[.str],u1 QI⟩:=
 ofE (sR Kf Zjt Zju Zlw Zlv) Zd func10 call10 sA
def Zq7:okE ⟨9,[Zq],[.bool],u1 QG⟩:=
 ofE (sO Kf Zhn) Zd func9 call9 sA
def Z2w:okE ⟨402,[Zy],[.arr 7 (.bool)],u1 Zgf⟩:=
 ofE Zg Zd func402 call402 sA
def Zfd:okE ⟨478,[.slice 3 wS,.slice 3 wS],[.bool],u2 nE⟩:=
 ofE Zg Zd func478 call478 (sH (sF [pV 0 (.slice 3 wS),pV 1 (.slice 3 wS),pV 12 tI,pV 13 tI] (λN=>u4 (cU N)) (u4 jk) (λK1=>sA))) ⟨λ_=>rfl,λN v=>Ah⟩
def Zoa:okE ⟨449,[Ks,Ks],[.bool],u2 VJ⟩:=
 ofE (sN Zfd) Zd func449 call449 sA
def Zjx:okE ⟨403,[Zx,Zx],[.bool],u2 uH⟩:=
 ofE (sO Zoa ya) Zd func403 call403 sA
def xD:okE ⟨479,[.slice 274 fc,.slice 274 fc],[.bool],u2 Wd⟩:=
 ofE Zg Zd func479 call479 (sH (sF [pV 0 (.slice 274 fc),pV 1 (.slice 274 fc),pV 12 tI,pV 13 tI] (λN=>u4 (Ki N)) (u4 We) (λK1=>sA))) ⟨λ_=>rfl,λN v=>Ah⟩
def Zjw:okE ⟨450,[Xh,Xh],[.bool],u2 QH⟩:=
 ofE (sN xD) Zd func450 call450 sA
def Zgq:okE ⟨404,[Qi,Qi],[.bool],u2 oz⟩:=
 ofE (sN Zjw) Zd func404 call404 sA
def Zjy:okE ⟨300,[Zy,Zy],[.bool],u2 uI⟩:=
 ofE (sP Z2w Zjx Zgq) Zd func300 call300 sA
def Vs:okE ⟨299,[.slice 62 Zy,.slice 62 Zy,.fnc 300],[.bool],λxs=>Qo xs.1 xs.2.1⟩:=
 ofE (sN Zjy) Zd func299 call299 (sH (sF [pV 1 (.slice 62 Zy),pV 2 (.fnc 300),pV 15 (.slice 62 Zy),pV 16 tI,pV 17 tI] (λN=>u5 (Qa N)) (u5 Q0) (λK1=>sA))) ⟨λ_=>rfl,λN v=>Ah⟩
def Zl0:okE ⟨175,[.slice 62 Zy,.slice 62 Zy],[.bool],u2 YV⟩:=
 ofE (sN Vs) Zd func175 call175 sA
def xE:okE ⟨301,[.slice 118 Zt,.slice 118 Zt],[.bool],u2 Wf⟩:=
 ofE Zg Zd func301 call301 (sH (sF [pV 0 (.slice 118 Zt),pV 1 (.slice 118 Zt),pV 12 tI,pV 13 tI] (λN=>u4 (Kj N)) (u4 Wg) (λK1=>sA))) ⟨λ_=>rfl,λN v=>Ah⟩
def Zmh:okE ⟨177,[X8,X8],[.bool],u2 xt⟩:=
 ofE (sN xE) Zd func177 call177 sA
def Vz:okE ⟨176,[.slice 166 X8,.slice 166 X8,.fnc 177],[.bool],λxs=>Qq xs.1 xs.2.1⟩:=
 ofE (sN Zmh) Zd func176 call176 (sH (sF [pV 1 (.slice 166 X8),pV 2 (.fnc 177),pV 15 (.slice 166 X8),pV 16 tI,pV 17 tI] (λN=>u5 (Qb N)) (u5 Q3) (λK1=>sA))) ⟨λ_=>rfl,λN v=>Ah⟩
def Zn9:okE ⟨59,[Zq,Zq],[.bool],u2 yQ⟩:=
 ofE (sO Zl0 Vz) Zd func59 call59 sA
def Ztz:okE ⟨12,[Zq],[.bool],u1 ym⟩:=
 ofE (sP Kf xB Zn9) (Z7 Za9 Zd) func12 call12 sA
def Zt9:okE ⟨13,[Zq,wS],[Zy,.bool],u2 KW⟩:=
 ofE (sO Yb zQ) Zd func13 call13 sA
abbrev Zf7:FnE:=⟨3,[.slice 5 (.int .u8)],[.bool],u1 Zgl⟩
def Z2x:okE Zf7:=
 ofE (sU Z9e Zml Zow Zq7 Zhn xG Ztz Zt9) (Z7 Zn6 (Z7 Zos Zd)) func3 call3 (sI (sF [tX 3 sD,wO 4 sC,pV 5 tI] (λN=>u3 (tu N)) (u3 zM) (λK1=>(sG (.seq (.block (.join [tX 3 sD,wO 4 sC,pV 5 tI,pV 6 .str,tX 7 sD] (u5 (Zd6 K1)) (.frz [(3,.u A)]) (.join [tX 3 sD,wO 4 sC,pV 5 tI,pV 6 .str,tX 7 sD,pV 8 .str,tX 9 sD] (u7 (Zd7 K1)) sA (sH (sF [tX 3 sD,wO 4 sC,pV 5 tI,tX 9 sD,pV 10 tI] (λN=>u5 (yw K1 N)) (u5 rD) (λK2=>(sG (.seq (.block (.join [tX 3 sD,wO 4 sC,pV 5 tI,tX 9 sD,pV 10 tI,wE 11 sC,pV 12 .bool] (u7 (Zd8 K1 K2)) sA sA)) sA)))))))) sA))))) ⟨λ_=>rfl,λN=>⟨(λv=>Ah),(λv=>Ah),(λv=>Ah),λ_=>rfl,λN=>⟨(λv=>Ah),λv=>Ah⟩⟩⟩
end
end Go.Proofs.YtahnlnkboamdmaaGreatDoor

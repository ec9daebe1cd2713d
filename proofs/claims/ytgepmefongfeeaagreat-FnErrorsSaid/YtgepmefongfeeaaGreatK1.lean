/- FnErrors: that the program code computes these plain functions, part 1. No condition. -/
import Derived.Test.YtgepmefongfeeaaGreatM2
namespace Go.Proofs.YtgepmefongfeeaaGreat
noncomputable section
open Go.Am
set_option maxRecDepth 100000
set_option linter.unusedVariables false
def tab:Tab:=Q20 [(3,.int .i64),(4,.bool),(5,.int .u8),(9,.str),(22,.slice 5 (.int .u8)),(25,Zlp),(26,.slice 67 (Zw)),(28,Q1),(30,Yo),(32,Zdg),(34,Q1),(35,.slice 88 (Y9)),(37,Zo),(45,.slice 50 (Zq)),(50,Zq),(53,.slice 3 (.int .i64)),(55,Vx),(56,.slice 222 (Zx)),(58,Z6),(59,.slice 183 (Zig)),(61,Q2),(63,Z8),(65,Y5),(67,Zw),(88,Y9),(112,V0),(160,.slice 9 (.str)),(183,Zig),(208,.int .u64),(222,Zx),(281,.slice 303 (Xk)),(286,Zcr),(303,Xk)]
theorem Xfa:TOK Tryz.prog 3 (.int .i64):=⟨by kernel_rfl,by kernel_rfl⟩
theorem Xfb:TOK Tryz.prog 4 (.bool):=⟨by kernel_rfl,by kernel_rfl⟩
theorem Xfc:TOK Tryz.prog 5 (.int .u8):=⟨by kernel_rfl,by kernel_rfl⟩
theorem Xfd:TOK Tryz.prog 9 (.str):=⟨by kernel_rfl,by kernel_rfl⟩
theorem Xda:TOK Tryz.prog 22 (.slice 5 (.int .u8)):=⟨by kernel_rfl,by kernel_rfl⟩
theorem Xdb:TOK Tryz.prog 25 (Zlp):=⟨by kernel_rfl,by kernel_rfl⟩
theorem Q8f:TOK Tryz.prog 26 (.slice 67 (Zw)):=⟨by kernel_rfl,by kernel_rfl⟩
theorem Xdc:TOK Tryz.prog 28 (Q1):=⟨by kernel_rfl,by kernel_rfl⟩
theorem Xdd:TOK Tryz.prog 30 (Yo):=⟨by kernel_rfl,by kernel_rfl⟩
theorem Xde:TOK Tryz.prog 32 (Zdg):=⟨by kernel_rfl,by kernel_rfl⟩
theorem Xdf:TOK Tryz.prog 34 (Q1):=⟨by kernel_rfl,by kernel_rfl⟩
theorem Xdg:TOK Tryz.prog 35 (.slice 88 (Y9)):=⟨by kernel_rfl,by kernel_rfl⟩
theorem Xdh:TOK Tryz.prog 37 (Zo):=⟨by kernel_rfl,by kernel_rfl⟩
theorem Xdi:TOK Tryz.prog 45 (.slice 50 (Zq)):=⟨by kernel_rfl,by kernel_rfl⟩
theorem Xdj:TOK Tryz.prog 50 (Zq):=⟨by kernel_rfl,by kernel_rfl⟩
theorem Xdk:TOK Tryz.prog 53 (.slice 3 (.int .i64)):=⟨by kernel_rfl,by kernel_rfl⟩
theorem Xdl:TOK Tryz.prog 55 (Vx):=⟨by kernel_rfl,by kernel_rfl⟩
theorem Xdm:TOK Tryz.prog 56 (.slice 222 (Zx)):=⟨by kernel_rfl,by kernel_rfl⟩
theorem Xdn:TOK Tryz.prog 58 (Z6):=⟨by kernel_rfl,by kernel_rfl⟩
theorem Xdo:TOK Tryz.prog 59 (.slice 183 (Zig)):=⟨by kernel_rfl,by kernel_rfl⟩
theorem Xdp:TOK Tryz.prog 61 (Q2):=⟨by kernel_rfl,by kernel_rfl⟩
theorem Xdq:TOK Tryz.prog 63 (Z8):=⟨by kernel_rfl,by kernel_rfl⟩
theorem Xdr:TOK Tryz.prog 65 (Y5):=⟨by kernel_rfl,by kernel_rfl⟩
theorem Q8g:TOK Tryz.prog 67 (Zw):=⟨by kernel_rfl,by kernel_rfl⟩
theorem Xds:TOK Tryz.prog 88 (Y9):=⟨by kernel_rfl,by kernel_rfl⟩
theorem Xak:TOK Tryz.prog 112 (V0):=⟨by kernel_rfl,by kernel_rfl⟩
theorem Xal:TOK Tryz.prog 160 (.slice 9 (.str)):=⟨by kernel_rfl,by kernel_rfl⟩
theorem Xam:TOK Tryz.prog 183 (Zig):=⟨by kernel_rfl,by kernel_rfl⟩
theorem Xan:TOK Tryz.prog 208 (.int .u64):=⟨by kernel_rfl,by kernel_rfl⟩
theorem Xao:TOK Tryz.prog 222 (Zx):=⟨by kernel_rfl,by kernel_rfl⟩
theorem Xap:TOK Tryz.prog 281 (.slice 303 (Xk)):=⟨by kernel_rfl,by kernel_rfl⟩
theorem Xaq:TOK Tryz.prog 286 (Zcr):=⟨by kernel_rfl,by kernel_rfl⟩
theorem Xar:TOK Tryz.prog 303 (Xk):=⟨by kernel_rfl,by kernel_rfl⟩
theorem Q8c:tab.ok Tryz.prog:=(X6 Xfa (X6 Xfb (X6 Xfc (X6 Xfd (X6 Xda (X6 Xdb (X6 Q8f (X6 Xdc (X6 Xdd (X6 Xde (X6 Xdf (X6 Xdg (X6 Xdh (X6 Xdi (X6 Xdj (X6 Xdk (X6 Xdl (X6 Xdm (X6 Xdn (X6 Xdo (X6 Xdp (X6 Xdq (X6 Xdr (X6 Q8g (X6 Xds (X6 Xak (X6 Xal (X6 Xam (X6 Xan (X6 Xao (X6 Xap (X6 Xaq (X6 Xar Xaj)))))))))))))))))))))))))))))))))
abbrev glob:K9:=K9.none
theorem Xb3:Zu0 Tryz.prog 25 (Zlp):=Zu0.of (by kernel_rfl) (by kernel_rfl) rfl (by decide)
theorem Xb4:Zu0 Tryz.prog 28 (Q1):=Zu0.of (by kernel_rfl) (by kernel_rfl) rfl (by decide)
theorem Xb5:Zu0 Tryz.prog 30 (Yo):=Zu0.of (by kernel_rfl) (by kernel_rfl) rfl (by decide)
theorem Xb6:Zu0 Tryz.prog 32 (Zdg):=Zu0.of (by kernel_rfl) (by kernel_rfl) rfl (by decide)
theorem Xb7:Zu0 Tryz.prog 34 (Q1):=Zu0.of (by kernel_rfl) (by kernel_rfl) rfl (by decide)
theorem Xb8:Zu0 Tryz.prog 50 (Zq):=Zu0.of (by kernel_rfl) (by kernel_rfl) rfl (by decide)
theorem Xb9:Zu0 Tryz.prog 65 (Y5):=Zu0.of (by kernel_rfl) (by kernel_rfl) rfl (by decide)
theorem Q88:Zu0 Tryz.prog 183 (Zig):=Zu0.of (by kernel_rfl) (by kernel_rfl) rfl (by decide)
theorem Q89:Zu0 Tryz.prog 222 (Zx):=Zu0.of (by kernel_rfl) (by kernel_rfl) rfl (by decide)
def Xeb:List Nat:=[25,28,30,32,34,50,65,183,222]
theorem Q6g:Q8n Tryz.prog tab Xeb:=(Zql Xb3 rfl (Zql Xb4 rfl (Zql Xb5 rfl (Zql Xb6 rfl (Zql Xb7 rfl (Zql Xb8 rfl (Zql Xb9 rfl (Zql Q88 rfl (Zql Q89 rfl Q9a)))))))))
@[reducible] def Xen:Zl3:={pp:=[(253,213)],er:=[]}
theorem Q27:Xen.ok Tryz.prog:=Zl3.ok_of (by kernel_rfl) (by kernel_rfl)
@[reducible] def cfg(ln:List Nat)(Γ:Env)(ΓL:Zzu)(ΓB:Zv7)(ΓW:Zx3):Cfg:={τ:=tab,eq:=fun e=>Xeb.any (Nat.beq e),Γ:=Γ,ΓL:=ΓL,ΓB:=ΓB,lent:=ln,ΓW:=ΓW,pt:=Xen}
theorem Q5x{gl:K9}{ln:List Nat}{Γ:Env}{ΓL:Zzu}{ΓB:Zv7}{ΓW:Zx3}(hs:gl.soft=false)(h:Γ.ok Tryz.prog gl)(hL:ΓL.ok Tryz.prog gl)(hB:ΓB.ok Tryz.prog gl)(hW:ΓW.ok Tryz.prog): (cfg ln Γ ΓL ΓB ΓW).ok Tryz.prog gl:=⟨Q8c,Q6g,h,by kernel_rfl,hL,hB,hs,(fun h=>by cases h),hW,Q27,(fun _ h=>by cases h)⟩
@[reducible] def Zgq(I:Z6o)(ln:List Nat)(Γ:Env)(ΓL:Zzu)(ΓB:Zv7)(ΓW:Zx3):Cfg:={cfg ln Γ ΓL ΓB ΓW with inl:=I}
theorem Wc{gl:K9}{I:Z6o}{ln:List Nat}{Γ:Env}{ΓL:Zzu}{ΓB:Zv7}{ΓW:Zx3}(hI:I.ok Tryz.prog gl)(hs:gl.soft=false)(h:Γ.ok Tryz.prog gl)(hL:ΓL.ok Tryz.prog gl)(hB:ΓB.ok Tryz.prog gl)(hW:ΓW.ok Tryz.prog): (Zgq I ln Γ ΓL ΓB ΓW).ok Tryz.prog gl:=⟨Q8c,Q6g,h,by kernel_rfl,hL,hB,hs,(fun h=>by cases h),hW,Q27,hI⟩
theorem lf{ρ:Type}{C:Cfg}{n:Nat}{c:Code}{k:Exit->St->Option ρ}:Zf5 C n c (.leaf:An ρ) k:=Q9 c k
theorem hk{α β:Type}{f g:α->Option β}(h: ∀x,f x=g x)(x:α)(r:β)(e:g x=some r):f x=some r:=(h x).trans e
abbrev okE(e:FnE):=Zqc Tryz.prog glob e
abbrev okB(e:FnB):=Z26 Tryz.prog glob e
theorem ofE{e:FnE}{Γ:Env}{ΓB:Zv7}(h1:Γ.ok Tryz.prog glob)(h2:ΓB.ok Tryz.prog glob){fn:Func}(hf:Tryz.prog.funcs[e.f]? =some fn)(hcall: ∀args w,(callFunc e.f args).run Tryz.prog w= .ok (.enter e.f args) w)(A:An (Jp e.res))(hA:Zf5 (cfg [] Γ [] ΓB []) fn.ntmps (Wj fn) A (fnK (cfg [] Γ [] ΓB []).τ e.res fn.results.toList))
  (hF: ∀xs r,e.F xs=some r->J4 (cfg [] Γ [] ΓB []) fn.ntmps (Wj fn) A (fnK (cfg [] Γ [] ΓB []).τ e.res fn.results.toList) (Qow e.args xs)=some r) (hb:fn.body=some (Wj fn):=by rfl) (hn:e.args.length<=fn.ntmps:=by decide):okE e:=Zqc.of (Q5x rfl h1 Kl h2 Km) rfl hf hb hcall hn A hA hF
theorem ofB{e:FnB}{Γ:Env}{ΓB:Zv7}(L:List Nat)(h1:Γ.ok Tryz.prog glob)(h2:ΓB.ok Tryz.prog glob){fn:Func}(hf:Tryz.prog.funcs[e.f]? =some fn)(hcall: ∀args w,(callFunc e.f args).run Tryz.prog w= .ok (.enter e.f args) w)(A:An (Z1i e.res×Zs0 e.args))(hA:Zf5 (cfg L Γ [] ΓB []) fn.ntmps (Wj fn) A (Qz4 (cfg L Γ [] ΓB []).τ e.args e.res fn.results.toList))
  (hF: ∀xs r,e.F xs=some r->J4 (cfg L Γ [] ΓB []) fn.ntmps (Wj fn) A (Qz4 (cfg L Γ [] ΓB []).τ e.args e.res fn.results.toList) (Qox e.args xs)=some r) (hb:fn.body=some (Wj fn):=by rfl) (hn:e.args.length<=fn.ntmps:=by decide) (hlent:L=Ziu e.args 0:=by rfl):okB e:=Z26.of (Q5x rfl h1 Kl h2 Km) rfl hlent hf hb hcall hn A hA hF
abbrev Qz0:FnE:={f:=4,args:=[.slice 5 (.int .u8)],res:=[.bool],F:=fun xs=>Qq9 xs.1}
theorem Qyt:okE Qz0:=
 ofE Zg Zc Tryz.func4 Tryz.call4 .leaf lf (hk fun _=>by kernel_rfl)
abbrev Qvz:FnB:={f:=20,args:=[.sh (.slice 5 (.int .u8))],res:= .newb 112 (V0),F:=fun xs=>Zpt xs.1}
theorem Zxv:okB Qvz:=
 ofB [] Zg Zc Tryz.func20 Tryz.call20 (.seq .leaf (.seq .leaf (.seq (.seq .leaf (.block (.loop Qn3 (fun N v=>Zop N v.1 v.2.1 v.2.2.1) (fun v=>Zpu v.1 v.2.1 v.2.2.1) (fun K1=> .leaf)))) .leaf))) ⟨lf,lf,⟨lf,fun _=>rfl,fun N=>⟨(fun v=>by kernel_rfl),lf⟩⟩,lf⟩ (hk fun _=>by kernel_rfl)
abbrev Qs4:FnB:={f:=131,args:=[.bx 112 (V0) (.u false)],res:= .vals [.int .i64],F:=fun xs=>Vf xs.1}
theorem Zvs:okB Qs4:=
 ofB [0] Zg Zc Tryz.func131 Tryz.call131 .leaf lf (hk fun _=>by kernel_rfl)
abbrev Qqa:FnB:={f:=65,args:=[.bx 112 (V0) (.u false),.sh (.int .i64)],res:= .vals [.int .i64],F:=fun xs=>Z7 xs.1 xs.2.1}
theorem Yd:okB Qqa:=
 ofB [0] Zg (Zv Zvs Zc) Tryz.func65 Tryz.call65 .leaf lf (hk fun _=>by kernel_rfl)
abbrev Qs5:FnB:={f:=105,args:=[.bx 112 (V0) (.u false),.sh (.int .i64)],res:= .vals [.bool],F:=fun xs=>Zag xs.1 xs.2.1}
theorem Zq1:okB Qs5:=
 ofB [0] Zg (Zv Yd Zc) Tryz.func105 Tryz.call105 .leaf lf (hk fun _=>by kernel_rfl)
abbrev Z9y:FnE:={f:=199,args:=[],res:=[Zlp],F:=fun xs=>Zr9}
theorem Z7u:okE Z9y:=
 ofE Zg Zc Tryz.func199 Tryz.call199 .leaf lf (hk fun _=>by kernel_rfl)
abbrev Qp0:FnB:={f:=129,args:=[.bx 112 (V0) (.u false)],res:= .vals [Zlp],F:=fun xs=>Znm xs.1}
theorem Qnp:okB Qp0:=
 ofB [0] (Za Z7u Zg) (Zv Yd Zc) Tryz.func129 Tryz.call129 .leaf lf (hk fun _=>by kernel_rfl)
abbrev Qqk:FnE:={f:=89,args:=[.int .i64],res:=[.bool],F:=fun xs=>Vs xs.1}
theorem Zt2:okE Qqk:=
 ofE Zg Zc Tryz.func89 Tryz.call89 .leaf lf (hk fun _=>by kernel_rfl)
abbrev Qxu:FnE:={f:=38,args:=[.int .i64,.int .i64,.int .i64],res:=[.bool],F:=fun xs=>Z5 xs.1 xs.2.1 xs.2.2.1}
theorem X7:okE Qxu:=
 ofE Zg Zc Tryz.func38 Tryz.call38 .leaf lf (hk fun _=>by kernel_rfl)
abbrev Qsx:FnE:={f:=32,args:=[Zlp],res:=[.bool],F:=fun xs=>Vz xs.1}
theorem Zvp:okE Qsx:=
 ofE (Za Zt2 (Za X7 Zg)) Zc Tryz.func32 Tryz.call32 .leaf lf (hk fun _=>by kernel_rfl)
abbrev Qte:FnE:={f:=59,args:=[.int .i64],res:=[.bool],F:=fun xs=>Qj xs.1}
theorem Q6:okE Qte:=
 ofE (Za X7 Zg) Zc Tryz.func59 Tryz.call59 .leaf lf (hk fun _=>by kernel_rfl)
abbrev Qh8:FnE:={f:=195,args:=[.int .i64],res:=[Q1,.bool],F:=fun xs=>Zc0 xs.1}
theorem Zw0:okE Qh8:=
 ofE (Za Q6 Zg) Zc Tryz.func195 Tryz.call195 .leaf lf (hk fun _=>by kernel_rfl)
abbrev Qib:FnE:={f:=196,args:=[.int .i64,.int .i64],res:=[Yo,.bool],F:=fun xs=>Zc2 xs.1 xs.2.1}
theorem Zw2:okE Qib:=
 ofE (Za X7 Zg) Zc Tryz.func196 Tryz.call196 .leaf lf (hk fun _=>by kernel_rfl)
abbrev Qmu:FnE:={f:=197,args:=[.int .i64],res:=[Zdg,.bool],F:=fun xs=>Zss xs.1}
theorem Qjo:okE Qmu:=
 ofE (Za X7 Zg) Zc Tryz.func197 Tryz.call197 .leaf lf (hk fun _=>by kernel_rfl)
abbrev Qms:FnE:={f:=198,args:=[.int .i64],res:=[Q1,.bool],F:=fun xs=>Zsr xs.1}
theorem Qjm:okE Qms:=
 ofE (Za X7 Zg) Zc Tryz.func198 Tryz.call198 .leaf lf (hk fun _=>by kernel_rfl)
abbrev Qpx:FnE:={f:=128,args:=[.bool,Zlp,Zlp],res:=[Zo,.bool],F:=fun xs=>Znj xs.1 xs.2.1 xs.2.2.1}
theorem Qnm:okE Qpx:=
 ofE (Za Zvp (Za Zw0 (Za Zw2 (Za Qjo (Za Qjm Zg))))) Zc Tryz.func128 Tryz.call128 .leaf lf (hk fun _=>by kernel_rfl)
abbrev Qtj:FnE:={f:=192,args:=[Vx],res:=[Vx],F:=fun xs=>Zp8 xs.1}
theorem Zvy:okE Qtj:=
 ofE Zg Zc Tryz.func192 Tryz.call192 .leaf lf (hk fun _=>by kernel_rfl)
abbrev Qtb:FnE:={f:=193,args:=[.slice 222 (Zx)],res:=[.slice 222 (Zx)],F:=fun xs=>Zj4 xs.1}
theorem Zvu:okE Qtb:=
 ofE Zg Zc Tryz.func193 Tryz.call193 .leaf lf (hk fun _=>by kernel_rfl)
abbrev Qtk:FnE:={f:=124,args:=[Z6],res:=[Z6],F:=fun xs=>Zc7 xs.1}
theorem Zcw:okE Qtk:=
 ofE (Za Zvy (Za Zvu Zg)) Zc Tryz.func124 Tryz.call124 .leaf lf (hk fun _=>by kernel_rfl)
abbrev Qth:FnE:={f:=194,args:=[Q2],res:=[Q2],F:=fun xs=>Zj6 xs.1}
theorem Zvx:okE Qth:=
 ofE Zg Zc Tryz.func194 Tryz.call194 .leaf lf (hk fun _=>by kernel_rfl)
abbrev Qti:FnE:={f:=125,args:=[Z8],res:=[Z8],F:=fun xs=>Zhg xs.1}
theorem Zq4:okE Qti:=
 ofE (Za Zvx Zg) Zc Tryz.func125 Tryz.call125 .leaf lf (hk fun _=>by kernel_rfl)
abbrev Qp1:FnE:={f:=58,args:=[Zw],res:=[Zw],F:=fun xs=>Zaw xs.1}
theorem Zt0:okE Qp1:=
 ofE (Za Zcw (Za Zq4 Zg)) Zc Tryz.func58 Tryz.call58 .leaf lf (hk fun _=>by kernel_rfl)
abbrev Qen:FnE:={f:=87,args:=[.slice 88 (Y9)],res:=[.slice 88 (Y9)],F:=fun xs=>Zo9 xs.1}
theorem Qbw:okE Qen:=
 ofE Zg Zc Tryz.func87 Tryz.call87 (.seq .leaf (.seq .leaf (.seq (.seq .leaf (.block (.loop Z5s (fun N v=>Zft N v.1 v.2.1 v.2.2.1) (fun v=>Zjq v.1 v.2.1 v.2.2.1) (fun K1=> .leaf)))) .leaf))) ⟨lf,lf,⟨lf,fun _=>rfl,fun N=>⟨(fun v=>by kernel_rfl),lf⟩⟩,lf⟩ (hk fun _=>by kernel_rfl)
abbrev Qp2:FnE:={f:=28,args:=[Zo],res:=[Zo],F:=fun xs=>Z4 xs.1}
theorem Qz:okE Qp2:=
 ofE (Za Zt0 (Za Qbw Zg)) Zc Tryz.func28 Tryz.call28 (.seq .leaf (.seq .leaf (.seq .leaf (.seq (.seq .leaf (.block (.loop Qgr (fun N v=>Zdn N v.1 v.2.1 v.2.2.1 v.2.2.2.1) (fun v=>Zmw v.1 v.2.1 v.2.2.1 v.2.2.2.1) (fun K1=> .leaf)))) .leaf)))) ⟨lf,lf,lf,⟨lf,fun _=>rfl,fun N=>⟨(fun v=>by kernel_rfl),lf⟩⟩,lf⟩ (hk fun _=>by kernel_rfl)
abbrev Qs0:FnE:={f:=222,args:=[Vx],res:=[.bool],F:=fun xs=>Zad xs.1}
theorem Zqz:okE Qs0:=
 ofE (Za Zt2 (Za X7 Zg)) Zc Tryz.func222 Tryz.call222 (.seq .leaf (.seq .leaf (.seq (.seq .leaf (.block (.loop Qkc (fun N v=>Zfn N v.1 v.2.1) (fun v=>Vw v.1 v.2.1) (fun K1=> .leaf)))) .leaf))) ⟨lf,lf,⟨lf,fun _=>rfl,fun N=>⟨(fun v=>by kernel_rfl),lf⟩⟩,lf⟩ (hk fun _=>by kernel_rfl)
abbrev Qtc:FnE:={f:=273,args:=[Zx],res:=[.bool],F:=fun xs=>Zti xs.1}
theorem Zvv:okE Qtc:=
 ofE Zg Zc Tryz.func273 Tryz.call273 .leaf lf (hk fun _=>by kernel_rfl)
abbrev Qmm:FnE:={f:=223,args:=[.slice 222 (Zx)],res:=[.bool],F:=fun xs=>Jh xs.1}
theorem Zep:okE Qmm:=
 ofE (Za Zvv Zg) Zc Tryz.func223 Tryz.call223 (.seq .leaf (.seq (.seq .leaf (.block (.loop Qcj (fun N v=>Zac N v.1 v.2.1) (fun v=>Zb0 v.1 v.2.1) (fun K1=> .leaf)))) .leaf)) ⟨lf,⟨lf,fun _=>rfl,fun N=>⟨(fun v=>by kernel_rfl),lf⟩⟩,lf⟩ (hk fun _=>by kernel_rfl)
abbrev Qmf:FnE:={f:=224,args:=[.slice 222 (Zx),Zx],res:=[.slice 222 (Zx)],F:=fun xs=>Zal xs.1 xs.2.1}
theorem Zeo:okE Qmf:=
 ofE (Za Zep (Za Zvv (Za Zvu Zg))) Zc Tryz.func224 Tryz.call224 (.seq .leaf (.seq .leaf (.seq .leaf (.seq .leaf (.seq (.seq .leaf (.block (.loop Qce (fun N v=>Yt N v.1 v.2.1 v.2.2.1 v.2.2.2.1 v.2.2.2.2.1) (fun v=>Zfz v.1 v.2.1 v.2.2.1 v.2.2.2.1 v.2.2.2.2.1) (fun K1=>(.seq .leaf (.join Qcc (fun v=>W6 K1 v.1 v.2.1 v.2.2.1 v.2.2.2.1 v.2.2.2.2.1) (.block (.block (.seq .leaf (.cond .leaf (.seq .leaf (.cond (.join Qcd (fun v=>Zi5 K1 v.1 v.2.1 v.2.2.1 v.2.2.2.1 v.2.2.2.2.1) .leaf .leaf) .leaf)))))) .leaf)))))) .leaf))))) ⟨lf,lf,lf,lf,⟨lf,fun _=>rfl,fun N=>⟨(fun v=>by kernel_rfl),lf,⟨lf,lf,lf,⟨lf,(fun v=>by kernel_rfl),lf⟩,lf⟩,(fun v=>by kernel_rfl),lf⟩⟩,lf⟩ (hk fun _=>by kernel_rfl)
abbrev Z61:FnE:={f:=225,args:=[.slice 222 (Zx)],res:=[.int .i64],F:=fun xs=>Vy xs.1}
theorem Z4k:okE Z61:=
 ofE (Za Zep Zg) Zc Tryz.func225 Tryz.call225 (.seq .leaf (.seq .leaf (.seq .leaf (.seq (.seq .leaf (.block (.loop Z08 (fun N v=>Kv N v.1 v.2.1 v.2.2.1) (fun v=>Zbn v.1 v.2.1 v.2.2.1) (fun K1=> .leaf)))) .leaf)))) ⟨lf,lf,lf,⟨lf,fun _=>rfl,fun N=>⟨(fun v=>by kernel_rfl),lf⟩⟩,lf⟩ (hk fun _=>by kernel_rfl)
abbrev Qmi:FnE:={f:=226,args:=[.slice 222 (Zx),.int .i64],res:=[.int .i64],F:=fun xs=>Zhs xs.1 xs.2.1}
theorem Zyq:okE Qmi:=
 ofE (Za Zep Zg) Zc Tryz.func226 Tryz.call226 (.seq .leaf (.seq .leaf (.seq (.seq .leaf (.block (.loop Qch (fun N v=>Vo N v.1 v.2.1 v.2.2.1) (fun v=>Zlj v.1 v.2.1 v.2.2.1) (fun K1=>(.seq .leaf (.join Qcg (fun v=>Zjc K1 v.1 v.2.1 v.2.2.1) .leaf .leaf)))))) .leaf))) ⟨lf,lf,⟨lf,fun _=>rfl,fun N=>⟨(fun v=>by kernel_rfl),lf,lf,(fun v=>by kernel_rfl),lf⟩⟩,lf⟩ (hk fun _=>by kernel_rfl)
abbrev Qqn:FnE:={f:=227,args:=[Z6],res:=[.int .i64],F:=fun xs=>Za0 xs.1}
theorem Zoz:okE Qqn:=
 ofE Zg Zc Tryz.func227 Tryz.call227 .leaf lf (hk fun _=>by kernel_rfl)
abbrev Qmn:FnE:={f:=157,args:=[Z6],res:=[.bool],F:=fun xs=>Yb xs.1}
theorem Vm:okE Qmn:=
 ofE (Za Zqz (Za Zep (Za X7 (Za Q6 (Za Zeo (Za Z4k (Za Zyq (Za Zoz Zg)))))))) Zc Tryz.func157 Tryz.call157 (.seq .leaf (.seq .leaf (.seq .leaf (.seq .leaf (.seq (.seq .leaf (.block (.loop Qck (fun N v=>Zcc N v.1 v.2.1 v.2.2.1) (fun v=>Kc v.1 v.2.1 v.2.2.1) (fun K1=> .leaf)))) (.seq (.seq .leaf (.block (.loop Qcl (fun N v=>Zcd N v.1 v.2.1 v.2.2.1) (fun v=>Zb1 v.1 v.2.1 v.2.2.1) (fun K2=> .leaf)))) (.seq .leaf (.seq .leaf (.seq (.seq .leaf (.block (.loop Qcm (fun N v=>Zce N v.1 v.2.1) (fun v=>Zb2 v.1 v.2.1) (fun K3=> .leaf)))) (.seq (.seq .leaf (.block (.loop Qcn (fun N v=>Zcf N v.1 v.2.1) (fun v=>Zf2 v.1 v.2.1) (fun K4=> .leaf)))) .leaf)))))))))) ⟨lf,lf,lf,lf,⟨lf,fun _=>rfl,fun N=>⟨(fun v=>by kernel_rfl),lf⟩⟩,⟨lf,fun _=>rfl,fun N=>⟨(fun v=>by kernel_rfl),lf⟩⟩,lf,lf,⟨lf,fun _=>rfl,fun N=>⟨(fun v=>by kernel_rfl),lf⟩⟩,⟨lf,fun _=>rfl,fun N=>⟨(fun v=>by kernel_rfl),lf⟩⟩,lf⟩ (hk fun _=>by kernel_rfl)
abbrev Qml:FnE:={f:=34,args:=[Q1],res:=[.bool],F:=fun xs=>Yn xs.1}
theorem W4:okE Qml:=
 ofE (Za Q6 (Za X7 Zg)) Zc Tryz.func34 Tryz.call34 .leaf lf (hk fun _=>by kernel_rfl)
abbrev Qmj:FnE:={f:=228,args:=[Q2],res:=[.bool],F:=fun xs=>Zek xs.1}
theorem Zix:okE Qmj:=
 ofE (Za Q6 Zg) Zc Tryz.func228 Tryz.call228 (.seq .leaf (.seq .leaf (.seq (.seq .leaf (.block (.loop Qci (fun N v=>Zet N v.1 v.2.1 v.2.2.1) (fun v=>Zlk v.1 v.2.1 v.2.2.1) (fun K1=> .leaf)))) .leaf))) ⟨lf,lf,⟨lf,fun _=>rfl,fun N=>⟨(fun v=>by kernel_rfl),lf⟩⟩,lf⟩ (hk fun _=>by kernel_rfl)
abbrev Qvx:FnE:={f:=229,args:=[Q2],res:=[.int .i64],F:=fun xs=>Zmo xs.1}
theorem Qtp:okE Qvx:=
 ofE (Za Zix Zg) Zc Tryz.func229 Tryz.call229 .leaf lf (hk fun _=>by kernel_rfl)
abbrev Qem:FnE:={f:=166,args:=[Q2],res:=[.int .i64],F:=fun xs=>Zbf xs.1}
theorem Zpn:okE Qem:=
 ofE (Za Zix Zg) Zc Tryz.func166 Tryz.call166 .leaf lf (hk fun _=>by kernel_rfl)
abbrev Qd9:FnE:={f:=158,args:=[Z8],res:=[.bool],F:=fun xs=>Xc xs.1}
theorem Zb9:okE Qd9:=
 ofE (Za Zix (Za Q6 (Za Qtp (Za Zpn Zg)))) Zc Tryz.func158 Tryz.call158 (.seq .leaf (.seq .leaf (.seq .leaf (.seq (.seq .leaf (.block (.seq .leaf (.cond .leaf (.seq .leaf (.cond .leaf (.seq .leaf (.cond .leaf (.seq .leaf (.cond .leaf (.join Z5g (fun v=>Yh v.1 v.2.1) .leaf .leaf))))))))))) .leaf)))) ⟨lf,lf,lf,⟨lf,lf,lf,lf,lf,lf,lf,lf,lf,lf,(fun v=>by kernel_rfl),lf⟩,lf⟩ (hk fun _=>by kernel_rfl)
abbrev Qmp:FnE:={f:=35,args:=[Yo],res:=[.bool],F:=fun xs=>V8 xs.1}
theorem Ziy:okE Qmp:=
 ofE (Za X7 Zg) Zc Tryz.func35 Tryz.call35 .leaf lf (hk fun _=>by kernel_rfl)
abbrev Qd7:FnE:={f:=159,args:=[Y5],res:=[.bool],F:=fun xs=>Zbe xs.1}
theorem Zpm:okE Qd7:=
 ofE (Za X7 Zg) Zc Tryz.func159 Tryz.call159 .leaf lf (hk fun _=>by kernel_rfl)
abbrev Qmo:FnE:={f:=90,args:=[Zw],res:=[.bool],F:=fun xs=>Zcp xs.1}
theorem Zyr:okE Qmo:=
 ofE (Za Q6 (Za Vm (Za W4 (Za Zb9 (Za Ziy (Za Zpm Zg)))))) Zc Tryz.func90 Tryz.call90 .leaf lf (hk fun _=>by kernel_rfl)
abbrev Qdw:FnE:={f:=33,args:=[.slice 67 (Zw)],res:=[.bool],F:=fun xs=>Kh xs.1}
theorem Zpk:okE Qdw:=
 ofE (Za Zyr Zg) Zc Tryz.func33 Tryz.call33 (.seq .leaf (.seq (.seq .leaf (.block (.loop Z44 (fun N v=>Yf N v.1 v.2.1) (fun v=>W7 v.1 v.2.1) (fun K1=> .leaf)))) .leaf)) ⟨lf,⟨lf,fun _=>rfl,fun N=>⟨(fun v=>by kernel_rfl),lf⟩⟩,lf⟩ (hk fun _=>by kernel_rfl)
abbrev Qpu:FnE:={f:=36,args:=[Zdg],res:=[.bool],F:=fun xs=>Zco xs.1}
theorem Ztz:okE Qpu:=
 ofE (Za X7 Zg) Zc Tryz.func36 Tryz.call36 .leaf lf (hk fun _=>by kernel_rfl)
abbrev Qpt:FnE:={f:=37,args:=[Q1],res:=[.bool],F:=fun xs=>Vp xs.1}
theorem Zox:okE Qpt:=
 ofE (Za X7 Zg) Zc Tryz.func37 Tryz.call37 .leaf lf (hk fun _=>by kernel_rfl)
abbrev Qmq:FnE:={f:=62,args:=[.int .i64],res:=[.str],F:=fun xs=>Zol xs.1}
theorem Qjl:okE Qmq:=
 ofE Zg Zc Tryz.func62 Tryz.call62 .leaf lf (hk fun _=>by kernel_rfl)
abbrev Z3p:FnE:={f:=127,args:=[Zq],res:=[.bool],F:=fun xs=>Wr xs.1}
theorem Zlg:okE Z3p:=
 ofE Zg Zc Tryz.func127 Tryz.call127 (.seq .leaf (.seq (.seq .leaf (.block (.join Zzm (fun v=>Yj v.1) .leaf .leaf))) .leaf)) ⟨lf,⟨lf,lf,(fun v=>by kernel_rfl),lf⟩,lf⟩ (hk fun _=>by kernel_rfl)
abbrev Qtg:FnE:={f:=63,args:=[Zq],res:=[Zq],F:=fun xs=>Zhf xs.1}
theorem Zvw:okE Qtg:=
 ofE (Za Zlg Zg) Zc Tryz.func63 Tryz.call63 (.seq .leaf (.seq .leaf (.join Qkn (fun v=>Zjw v.1 v.2.1 v.2.2.1) .leaf (.seq (.seq .leaf (.block (.seq .leaf (.cond .leaf (.seq .leaf (.cond .leaf (.seq .leaf (.cond .leaf (.join Qko (fun v=>Zjx v.1 v.2.1 v.2.2.1 v.2.2.2.1) .leaf .leaf))))))))) .leaf)))) ⟨lf,lf,lf,(fun v=>by kernel_rfl),⟨lf,lf,lf,lf,lf,lf,lf,lf,(fun v=>by kernel_rfl),lf⟩,lf⟩ (hk fun _=>by kernel_rfl)
abbrev Qpv:FnE:={f:=19,args:=[Zq],res:=[.bool],F:=fun xs=>Jt xs.1}
theorem Wh:okE Qpv:=
 ofE (Za Qjl (Za Zvw (Za Q6 Zg))) Zc Tryz.func19 Tryz.call19 (.seq .leaf (.seq .leaf (.seq (.seq .leaf (.block (.seq .leaf (.cond .leaf (.join Qgo (fun v=>Zo4 v.1 v.2.1) .leaf .leaf))))) .leaf))) ⟨lf,lf,⟨lf,lf,lf,lf,(fun v=>by kernel_rfl),lf⟩,lf⟩ (hk fun _=>by kernel_rfl)
abbrev Qil:FnE:={f:=39,args:=[.slice 50 (Zq)],res:=[.bool],F:=fun xs=>Zc5 xs.1}
theorem Qf7:okE Qil:=
 ofE (Za Wh Zg) Zc Tryz.func39 Tryz.call39 (.seq .leaf (.seq (.seq .leaf (.block (.loop Z8n (fun N v=>Jv N v.1 v.2.1) (fun v=>K8 v.1 v.2.1) (fun K1=> .leaf)))) .leaf)) ⟨lf,⟨lf,fun _=>rfl,fun N=>⟨(fun v=>by kernel_rfl),lf⟩⟩,lf⟩ (hk fun _=>by kernel_rfl)
abbrev Qih:FnE:={f:=40,args:=[.slice 67 (Zw)],res:=[.int .i64],F:=fun xs=>Zc4 xs.1}
theorem Qf3:okE Qih:=
 ofE (Za Zpk Zg) Zc Tryz.func40 Tryz.call40 (.seq .leaf (.seq .leaf (.seq (.seq .leaf (.block (.loop Z8l (fun N v=>Kt N v.1 v.2.1 v.2.2.1) (fun v=>Y1 v.1 v.2.1 v.2.2.1) (fun K1=> .leaf)))) .leaf))) ⟨lf,lf,⟨lf,fun _=>rfl,fun N=>⟨(fun v=>by kernel_rfl),lf⟩⟩,lf⟩ (hk fun _=>by kernel_rfl)
abbrev Qif:FnE:={f:=41,args:=[.slice 67 (Zw)],res:=[.int .i64],F:=fun xs=>Zc3 xs.1}
theorem Qf1:okE Qif:=
 ofE (Za Zpk Zg) Zc Tryz.func41 Tryz.call41 (.seq .leaf (.seq .leaf (.seq (.seq .leaf (.block (.loop Z8i (fun N v=>Ks N v.1 v.2.1 v.2.2.1) (fun v=>Y0 v.1 v.2.1 v.2.2.1) (fun K1=> .leaf)))) .leaf))) ⟨lf,lf,⟨lf,fun _=>rfl,fun N=>⟨(fun v=>by kernel_rfl),lf⟩⟩,lf⟩ (hk fun _=>by kernel_rfl)
abbrev Qsy:FnE:={f:=10,args:=[Zo],res:=[.bool],F:=fun xs=>Ya xs.1}
theorem J6:okE Qsy:=
 ofE (Za Zvp (Za Zpk (Za W4 (Za Ziy (Za Ztz (Za Zox (Za X7 (Za Qf7 (Za Qf3 (Za Qf1 Zg)))))))))) Zc Tryz.func10 Tryz.call10 (.seq .leaf (.seq .leaf (.seq (.seq .leaf (.block (.loop Qkb (fun N v=>Zau N v.1 v.2.1) (fun v=>Jn v.1 v.2.1) (fun K1=> .leaf)))) .leaf))) ⟨lf,lf,⟨lf,fun _=>rfl,fun N=>⟨(fun v=>by kernel_rfl),lf⟩⟩,lf⟩ (hk fun _=>by kernel_rfl)
abbrev Qmk:FnE:={f:=11,args:=[Zo],res:=[.bool],F:=fun xs=>Zla xs.1}
theorem Zr5:okE Qmk:=
 ofE Zg Zc Tryz.func11 Tryz.call11 .leaf lf (hk fun _=>by kernel_rfl)
abbrev Qp9:FnE:={f:=247,args:=[Zo],res:=[.bool],F:=fun xs=>Jx xs.1}
theorem Vi:okE Qp9:=
 ofE (Za J6 (Za Zr5 Zg)) Zc Tryz.func247 Tryz.call247 .leaf lf (hk fun _=>by kernel_rfl)
abbrev Qmv:FnE:={f:=248,args:=[Zdg],res:=[.int .i64,Zdg,.bool],F:=fun xs=>Zst xs.1}
theorem Qjp:okE Qmv:=
 ofE (Za Ztz Zg) Zc Tryz.func248 Tryz.call248 .leaf lf (hk fun _=>by kernel_rfl)
abbrev Qs1:FnE:={f:=249,args:=[.int .i64,.bool,.bool],res:=[.int .i64],F:=fun xs=>Zxa xs.1 xs.2.1 xs.2.2.1}
theorem Qri:okE Qs1:=
 ofE (Za X7 Zg) Zc Tryz.func249 Tryz.call249 (.seq .leaf (.seq .leaf (.seq .leaf (.join Qkd (fun v=>Zmq v.1 v.2.1) .leaf .leaf)))) ⟨lf,lf,lf,lf,(fun v=>by kernel_rfl),lf⟩ (hk fun _=>by kernel_rfl)
abbrev Zz4:FnE:={f:=274,args:=[],res:=[Y5],F:=fun xs=>W9}
theorem Zp1:okE Zz4:=
 ofE Zg Zc Tryz.func274 Tryz.call274 .leaf lf (hk fun _=>by kernel_rfl)
abbrev Z98:FnE:={f:=275,args:=[],res:=[Z8],F:=fun xs=>Znk}
theorem Z72:okE Z98:=
 ofE Zg Zc Tryz.func275 Tryz.call275 .leaf lf (hk fun _=>by kernel_rfl)
abbrev Qpw:FnE:={f:=60,args:=[.int .i64],res:=[.bool],F:=fun xs=>Vq xs.1}
theorem Zoy:okE Qpw:=
 ofE (Za Q6 Zg) Zc Tryz.func60 Tryz.call60 .leaf lf (hk fun _=>by kernel_rfl)
abbrev Qec:FnE:={f:=126,args:=[.int .i64],res:=[.bool],F:=fun xs=>Zk5 xs.1}
theorem Qbo:okE Qec:=
 ofE (Za Q6 Zg) Zc Tryz.func126 Tryz.call126 .leaf lf (hk fun _=>by kernel_rfl)
abbrev Qvy:FnE:={f:=61,args:=[.bool,.int .i64],res:=[.bool],F:=fun xs=>Zdk xs.1 xs.2.1}
theorem Zsl:okE Qvy:=
 ofE (Za Q6 (Za Qbo Zg)) Zc Tryz.func61 Tryz.call61 .leaf lf (hk fun _=>by kernel_rfl)
abbrev Qh1:FnE:={f:=99,args:=[.bool,.int .i64],res:=[.bool],F:=fun xs=>Yx xs.1 xs.2.1}
theorem Zqx:okE Qh1:=
 ofE (Za Q6 (Za Zoy (Za Zsl Zg))) Zc Tryz.func99 Tryz.call99 .leaf lf (hk fun _=>by kernel_rfl)
abbrev Z6y:FnE:={f:=18,args:=[.bool,.int .i64],res:=[.bool],F:=fun xs=>Q4 xs.1 xs.2.1}
theorem Zcv:okE Z6y:=
 ofE (Za Q6 (Za Zoy (Za Zsl Zg))) Zc Tryz.func18 Tryz.call18 .leaf lf (hk fun _=>by kernel_rfl)
abbrev Qpy:FnE:={f:=319,args:=[.int .i64],res:=[Vx,.bool],F:=fun xs=>Zrf xs.1}
theorem Qnn:okE Qpy:=
 ofE (Za Zt2 Zg) Zc Tryz.func319 Tryz.call319 .leaf lf (hk fun _=>by kernel_rfl)
abbrev Qh9:FnE:={f:=276,args:=[.int .i64],res:=[Z6,.bool],F:=fun xs=>Zc1 xs.1}
theorem Qfy:okE Qh9:=
 ofE (Za Qnn Zg) Zc Tryz.func276 Tryz.call276 .leaf lf (hk fun _=>by kernel_rfl)
abbrev Qia:FnE:={f:=230,args:=[.bool,.int .i64,Zlp,Zlp],res:=[Zw,.bool],F:=fun xs=>Je xs.1 xs.2.1 xs.2.2.1 xs.2.2.2.1}
theorem Zw1:okE Qia:=
 ofE (Za Q6 (Za Zvp (Za Zp1 (Za Z72 (Za Zqx (Za Zcv (Za Qfy (Za Zw0 (Za Zw2 Zg))))))))) Zc Tryz.func230 Tryz.call230 .leaf lf (hk fun _=>by kernel_rfl)
abbrev Qd3:FnE:={f:=57,args:=[.slice 67 (Zw),.int .i64],res:=[.int .i64],F:=fun xs=>Xv xs.1 xs.2.1}
theorem Zpl:okE Qd3:=
 ofE Zg Zc Tryz.func57 Tryz.call57 (.seq .leaf (.seq (.seq .leaf (.block (.loop Z5b (fun N v=>Xw N v.1 v.2.1 v.2.2.1) (fun v=>Ym v.1 v.2.1 v.2.2.1) (fun K1=> .leaf)))) .leaf)) ⟨lf,⟨lf,fun _=>rfl,fun N=>⟨(fun v=>by kernel_rfl),lf⟩⟩,lf⟩ (hk fun _=>by kernel_rfl)
abbrev Qid:FnE:={f:=170,args:=[.slice 67 (Zw),Zw],res:=[.slice 67 (Zw)],F:=fun xs=>Ql xs.1 xs.2.1}
theorem Yw:okE Qid:=
 ofE (Za Zpl (Za Zt0 Zg)) Zc Tryz.func170 Tryz.call170 (.seq .leaf (.seq .leaf (.seq .leaf (.seq .leaf (.seq (.seq .leaf (.block (.loop Z8h (fun N v=>Q0 N v.1 v.2.1 v.2.2.1 v.2.2.2.1 v.2.2.2.2.1 v.2.2.2.2.2.1) (fun v=>Vr v.1 v.2.1 v.2.2.1 v.2.2.2.1 v.2.2.2.2.1 v.2.2.2.2.2.1) (fun K1=>(.seq .leaf (.seq (.block (.seq .leaf (.join Z8g (fun v=>Xs K1 v.1 v.2.1 v.2.2.1 v.2.2.2.1 v.2.2.2.2.1 v.2.2.2.2.2.1 v.2.2.2.2.2.2.1) .leaf .leaf))) .leaf)))))) .leaf))))) ⟨lf,lf,lf,lf,⟨lf,fun _=>rfl,fun N=>⟨(fun v=>by kernel_rfl),lf,⟨lf,lf,(fun v=>by kernel_rfl),lf⟩,lf⟩⟩,lf⟩ (hk fun _=>by kernel_rfl)
abbrev Qeg:FnE:={f:=200,args:=[Zo,.bool],res:=[.int .i64,Zo,.bool],F:=fun xs=>Zgk xs.1 xs.2.1}
theorem Qbs:okE Qeg:=
 ofE (Za Qz (Za Vi (Za Qjp (Za Qri (Za Zw1 (Za Yw Zg)))))) Zc Tryz.func200 Tryz.call200 (.seq .leaf (.seq .leaf (.seq .leaf (.seq .leaf (.join Z5o (fun v=>Wu v.1 v.2.1 v.2.2.1 v.2.2.2.1 v.2.2.2.2.1) .leaf (.seq .leaf (.join Z5p (fun v=>Wv v.1 v.2.1 v.2.2.1 v.2.2.2.1 v.2.2.2.2.1 v.2.2.2.2.2.1) .leaf .leaf))))))) ⟨lf,lf,lf,lf,lf,(fun v=>by kernel_rfl),lf,lf,(fun v=>by kernel_rfl),lf⟩ (hk fun _=>by kernel_rfl)
abbrev Qs6:FnB:={f:=134,args:=[.bx 112 (V0) (.u false),.sh (.slice 9 (.str))],res:= .vals [.str],F:=fun xs=>Zp6 xs.1 xs.2.1}
theorem Z4r:okB Qs6:=
 ofB [0] Zg (Zv Yd Zc) Tryz.func134 Tryz.call134 .leaf lf (hk fun _=>by kernel_rfl)
abbrev Qtd:FnB:={f:=70,args:=[.bx 112 (V0) (.u false),.sh (.int .i64)],res:= .vals [.str],F:=fun xs=>Zj5 xs.1 xs.2.1}
theorem Zq3:okB Qtd:=
 ofB [0] Zg (Zv Yd (Zv Z4r Zc)) Tryz.func70 Tryz.call70 (.seq .leaf (.seq .leaf (.seq (.seq .leaf (.block (.loop Qkl (fun N v=>Zju N v.1 v.2.1 v.2.2.1) (fun v=>Zif v.1 v.2.1 v.2.2.1) (fun K1=> .leaf)))) .leaf))) ⟨lf,lf,⟨lf,fun _=>rfl,fun N=>⟨(fun v=>by kernel_rfl),lf⟩⟩,lf⟩ (hk fun _=>by kernel_rfl)
abbrev Qm2:FnE:={f:=17,args:=[Zo,.int .i64],res:=[Zw,.bool],F:=fun xs=>Qy xs.1 xs.2.1}
theorem Xd:okE Qm2:=
 ofE (Za Zpl (Za Zt0 Zg)) Zc Tryz.func17 Tryz.call17 .leaf lf (hk fun _=>by kernel_rfl)
abbrev Qs2:FnE:={f:=327,args:=[Vx],res:=[.int .i64],F:=fun xs=>Z5r xs.1}
theorem Qrj:okE Qs2:=
 ofE (Za Zqz Zg) Zc Tryz.func327 Tryz.call327 .leaf lf (hk fun _=>by kernel_rfl)
abbrev Qik:FnE:={f:=293,args:=[Vx,.str],res:=[Vx,.int .i64],F:=fun xs=>Zrj xs.1 xs.2.1}
theorem Qf6:okE Qik:=
 ofE (Za Zvy (Za Qrj Zg)) Zc Tryz.func293 Tryz.call293 (.seq .leaf (.seq .leaf (.seq .leaf (.seq (.seq .leaf (.block (.loop Z8m (fun N v=>Zav N v.1 v.2.1 v.2.2.1 v.2.2.2.1 v.2.2.2.2.1 v.2.2.2.2.2.1) (fun v=>Zed v.1 v.2.1 v.2.2.1 v.2.2.2.1 v.2.2.2.2.1 v.2.2.2.2.2.1) (fun K1=> .leaf)))) .leaf)))) ⟨lf,lf,lf,⟨lf,fun _=>rfl,fun N=>⟨(fun v=>by kernel_rfl),lf⟩⟩,lf⟩ (hk fun _=>by kernel_rfl)
abbrev Qag:FnE:={f:=250,args:=[Z6,.str],res:=[Z6,.int .i64],F:=fun xs=>Znl xs.1 xs.2.1}
theorem Z77:okE Qag:=
 ofE (Za Zcw (Za Vm (Za Qf6 (Za Zeo Zg)))) Zc Tryz.func250 Tryz.call250 (.seq .leaf (.seq .leaf (.seq .leaf (.seq .leaf (.join Z24 (fun v=>Zid v.1 v.2.1 v.2.2.1 v.2.2.2.1) .leaf .leaf))))) ⟨lf,lf,lf,lf,lf,(fun v=>by kernel_rfl),lf⟩ (hk fun _=>by kernel_rfl)
abbrev Qah:FnE:={f:=201,args:=[Zo,.int .i64,.str],res:=[.int .i64,Zo],F:=fun xs=>Zey xs.1 xs.2.1 xs.2.2.1}
theorem Z78:okE Qah:=
 ofE (Za Qz (Za Xd (Za Vi (Za Z77 (Za Yw Zg))))) Zc Tryz.func201 Tryz.call201 .leaf lf (hk fun _=>by kernel_rfl)
abbrev Z9w:FnE:={f:=251,args:=[Z6],res:=[Z6,.bool],F:=fun xs=>Zng xs.1}
theorem Z7s:okE Z9w:=
 ofE (Za Zcw (Za Vm Zg)) Zc Tryz.func251 Tryz.call251 .leaf lf (hk fun _=>by kernel_rfl)
abbrev Z66:FnE:={f:=202,args:=[Zo,.int .i64],res:=[Zo,.bool],F:=fun xs=>Zdf xs.1 xs.2.1}
theorem Z4o:okE Z66:=
 ofE (Za Qz (Za Xd (Za Vi (Za Z7s (Za Yw Zg))))) Zc Tryz.func202 Tryz.call202 .leaf lf (hk fun _=>by kernel_rfl)
abbrev Qii:FnE:={f:=294,args:=[Q2,.int .i64],res:=[.str,Q2],F:=fun xs=>Zri xs.1 xs.2.1}
theorem Qf4:okE Qii:=
 ofE (Za Zpn (Za Zvx Zg)) Zc Tryz.func294 Tryz.call294 (.seq .leaf (.seq .leaf (.seq .leaf (.seq .leaf (.seq .leaf (.seq .leaf (.seq (.seq .leaf (.cond (.seq (.frz [(7,.u false)]) .leaf) .leaf)) .leaf))))))) ⟨lf,lf,lf,lf,lf,lf,⟨lf,⟨trivial,lf⟩,lf⟩,lf⟩ (hk fun _=>by kernel_rfl)
abbrev Z67:FnB:={f:=252,args:=[.sh (Z8),.sh (.int .i64)],res:= .shr [.str,Z8],F:=fun xs=>Zl1 xs.1 xs.2.1}
theorem Z4p:okB Z67:=
 ofB [] (Za Zq4 (Za Zb9 (Za Qf4 Zg))) Zc Tryz.func252 Tryz.call252 (.seq .leaf (.seq .leaf (.seq (.seq .leaf (.cond (.seq .leaf (.frz [(5,.u false)])) .leaf)) (.seq (.seq .leaf (.cond (.seq .leaf (.seq .leaf (.frz [(5,.u false)]))) .leaf)) (.seq .leaf (.seq (.frz [(8,.u false)]) (.join Z1d (fun v=>Zg7 v.1 v.2.1 v.2.2.1) .leaf .leaf))))))) ⟨lf,lf,⟨lf,⟨lf,trivial⟩,lf⟩,⟨lf,⟨lf,lf,trivial⟩,lf⟩,lf,trivial,lf,(fun v=>by kernel_rfl),lf⟩ (hk fun _=>by kernel_rfl)
abbrev Qie:FnE:={f:=171,args:=[Yo,.int .i64],res:=[Yo,.bool],F:=fun xs=>Zfs xs.1 xs.2.1}
theorem Qf0:okE Qie:=
 ofE (Za Ziy Zg) Zc Tryz.func171 Tryz.call171 .leaf lf (hk fun _=>by kernel_rfl)
abbrev Qp7:FnB:={f:=98,args:=[.bx 37 (Zo) (.u false),.bx 67 (Zw) (.u false),.sh (.int .i64)],res:= .vals [],F:=fun xs=>Zhb xs.1 xs.2.1 xs.2.2.1}
theorem Z1q:okB Qp7:=
 ofB [0,1] (Za Qf0 Zg) Zc Tryz.func98 Tryz.call98 .leaf lf (hk fun _=>by kernel_rfl)
abbrev Qeb:FnE:={f:=278,args:=[Zw],res:=[.bool],F:=fun xs=>Zo5 xs.1}
theorem Qbn:okE Qeb:=
 ofE Zg Zc Tryz.func278 Tryz.call278 .leaf lf (hk fun _=>by kernel_rfl)
abbrev Qd8:FnE:={f:=320,args:=[Z8],res:=[.bool],F:=fun xs=>Zk3 xs.1}
theorem Qbl:okE Qd8:=
 ofE (Za Zb9 Zg) Zc Tryz.func320 Tryz.call320 .leaf lf (hk fun _=>by kernel_rfl)
abbrev Qea:FnE:={f:=279,args:=[Zw],res:=[.bool],F:=fun xs=>Zk4 xs.1}
theorem Qbm:okE Qea:=
 ofE (Za Qbl Zg) Zc Tryz.func279 Tryz.call279 .leaf lf (hk fun _=>by kernel_rfl)
abbrev Qsz:FnE:={f:=234,args:=[Zw],res:=[.bool],F:=fun xs=>Zmp xs.1}
theorem Qrh:okE Qsz:=
 ofE (Za Zyr (Za Qbn (Za Qbm Zg))) Zc Tryz.func234 Tryz.call234 .leaf lf (hk fun _=>by kernel_rfl)
abbrev Qmg:FnE:={f:=235,args:=[Q1],res:=[Q1,.bool],F:=fun xs=>Zcn xs.1}
theorem Qjj:okE Qmg:=
 ofE (Za Zox Zg) Zc Tryz.func235 Tryz.call235 .leaf lf (hk fun _=>by kernel_rfl)
abbrev Qp6:FnB:={f:=169,args:=[.bx 37 (Zo) (.u false),.bx 67 (Zw) (.u false)],res:= .vals [],F:=fun xs=>Zkk xs.1 xs.2.1}
theorem Qns:okB Qp6:=
 ofB [0,1] (Za Zsl (Za Qrh (Za Zoy (Za Qjj Zg)))) Zc Tryz.func169 Tryz.call169 .leaf lf (hk fun _=>by kernel_rfl)
abbrev Qp8:FnB:={f:=96,args:=[.bx 37 (Zo) (.u false),.sh (Zw)],res:= .vals [],F:=fun xs=>Jw xs.1 xs.2.1}
theorem Zge:okB Qp8:=
 ofB [0] (Za Yw Zg) (Zv Qns Zc) Tryz.func96 Tryz.call96 .leaf lf (hk fun _=>by kernel_rfl)
abbrev Qel:FnB:={f:=203,args:=[.sh (Zo),.sh (.int .i64),.sh (.int .i64)],res:= .shr [.str,.bool,Zo],F:=fun xs=>Zgl xs.1 xs.2.1 xs.2.2.1}
theorem Qbv:okB Qel:=
 ofB [] (Za Qz (Za Xd (Za Vi Zg))) (Zv Z4p (Zv Z1q (Zv Zge Zc))) Tryz.func203 Tryz.call203 (.seq .leaf (.seq .leaf (.seq .leaf (.seq (.seq .leaf (.cond (.seq .leaf (.frz [(8,.u false)])) .leaf)) (.seq (.frz [(10,.u false)]) (.seq .leaf (.join Z5q (fun v=>Ww v.1 v.2.1 v.2.2.1 v.2.2.2.1 v.2.2.2.2.1) (.seq .leaf (.cond (.frz [(9,.u false)]) .leaf)) .leaf))))))) ⟨lf,lf,lf,⟨lf,⟨lf,trivial⟩,lf⟩,trivial,lf,⟨lf,trivial,lf⟩,(fun v=>by kernel_rfl),lf⟩ (hk fun _=>by kernel_rfl)
abbrev Qad:FnE:={f:=100,args:=[Z6,.int .i64],res:=[Z6,.bool],F:=fun xs=>Zae xs.1 xs.2.1}
theorem Zuf:okE Qad:=
 ofE (Za Vm (Za Q6 (Za Zcw Zg))) Zc Tryz.func100 Tryz.call100 (.seq .leaf (.seq .leaf (.join Z23 (fun v=>Zn5 v.1 v.2.1 v.2.2.1 v.2.2.2.1) .leaf .leaf))) ⟨lf,lf,lf,(fun v=>by kernel_rfl),lf⟩ (hk fun _=>by kernel_rfl)
abbrev Qae:FnB:={f:=204,args:=[.sh (Zo),.sh (.int .i64),.sh (.int .i64)],res:= .shr [Zo,.bool],F:=fun xs=>Zew xs.1 xs.2.1 xs.2.2.1}
theorem Z75:okB Qae:=
 ofB [] (Za Qz (Za Xd (Za Vi (Za Zuf Zg)))) (Zv Zge Zc) Tryz.func204 Tryz.call204 (.seq .leaf (.seq .leaf (.seq .leaf (.seq (.seq .leaf (.cond (.seq .leaf (.frz [(6,.u false)])) .leaf)) (.seq .leaf (.seq (.seq .leaf (.cond (.seq .leaf (.frz [(6,.u false)])) .leaf)) (.seq .leaf (.seq .leaf (.seq (.frz [(8,.u false),(9,.u false)]) .leaf))))))))) ⟨lf,lf,lf,⟨lf,⟨lf,trivial⟩,lf⟩,lf,⟨lf,⟨lf,trivial⟩,lf⟩,lf,lf,trivial,lf⟩ (hk fun _=>by kernel_rfl)
abbrev Qs3:FnE:={f:=295,args:=[.str,.int .u8],res:=[.slice 9 (.str)],F:=fun xs=>Zxb xs.1 xs.2.1}
theorem Qrk:okE Qs3:=
 ofE Zg Zc Tryz.func295 Tryz.call295 (.seq .leaf (.seq .leaf (.seq .leaf (.seq (.seq .leaf (.block (.loop Qkf (fun N v=>Zjo N v.1 v.2.1 v.2.2.1 v.2.2.2.1 v.2.2.2.2.1) (fun v=>Zn6 v.1 v.2.1 v.2.2.1 v.2.2.2.1 v.2.2.2.2.1) (fun K1=>(.seq .leaf (.join Qke (fun v=>Zmt K1 v.1 v.2.1 v.2.2.1 v.2.2.2.1 v.2.2.2.2.1) .leaf .leaf)))))) .leaf)))) ⟨lf,lf,lf,⟨lf,fun _=>rfl,fun N=>⟨(fun v=>by kernel_rfl),lf,lf,(fun v=>by kernel_rfl),lf⟩⟩,lf⟩ (hk fun _=>by kernel_rfl)
abbrev Qpz:FnE:={f:=296,args:=[.str],res:=[.str],F:=fun xs=>Zut xs.1}
theorem Qno:okE Qpz:=
 ofE Zg Zc Tryz.func296 Tryz.call296 (.seq .leaf (.seq (.block (.loop Qgp (fun N v=>Zk6 N v.1) (fun v=>Zmu v.1) (fun K1=> .leaf))) (.seq (.block (.loop Qgq (fun N v=>Zk7 N v.1) (fun v=>Zmv v.1) (fun K2=> .leaf))) .leaf))) ⟨lf,⟨fun _=>rfl,fun N=>⟨(fun v=>by kernel_rfl),lf⟩⟩,⟨fun _=>rfl,fun N=>⟨(fun v=>by kernel_rfl),lf⟩⟩,lf⟩ (hk fun _=>by kernel_rfl)
abbrev Z3q:FnE:={f:=253,args:=[Y5,.str],res:=[Y5],F:=fun xs=>Zkj xs.1 xs.2.1}
theorem Z2d:okE Z3q:=
 ofE (Za Zpm (Za Zp1 (Za Qrk (Za Qno Zg)))) Zc Tryz.func253 Tryz.call253 (.seq .leaf (.join Zzn (fun v=>Zb3 v.1 v.2.1 v.2.2.1) .leaf (.seq .leaf (.seq (.seq .leaf (.block (.loop Zzp (fun N v=>Yk N v.1 v.2.1 v.2.2.1 v.2.2.2.1) (fun v=>Zfo v.1 v.2.1 v.2.2.1 v.2.2.2.1) (fun K1=>(.seq .leaf (.join Zzo (fun v=>Jr K1 v.1 v.2.1 v.2.2.1 v.2.2.2.1) .leaf .leaf)))))) .leaf)))) ⟨lf,lf,(fun v=>by kernel_rfl),lf,⟨lf,fun _=>rfl,fun N=>⟨(fun v=>by kernel_rfl),lf,lf,(fun v=>by kernel_rfl),lf⟩⟩,lf⟩ (hk fun _=>by kernel_rfl)
abbrev Qaf:FnE:={f:=205,args:=[Zo,.int .i64,.str],res:=[Zo,.bool],F:=fun xs=>Zex xs.1 xs.2.1 xs.2.2.1}
theorem Z76:okE Qaf:=
 ofE (Za Qz (Za Xd (Za Vi (Za Z2d (Za Yw Zg))))) Zc Tryz.func205 Tryz.call205 .leaf lf (hk fun _=>by kernel_rfl)
abbrev Qh7:FnE:={f:=328,args:=[Yo],res:=[.bool],F:=fun xs=>Zjg xs.1}
theorem Zq0:okE Qh7:=
 ofE (Za Ziy Zg) Zc Tryz.func328 Tryz.call328 .leaf lf (hk fun _=>by kernel_rfl)
abbrev Qaa:FnE:={f:=329,args:=[Yo,.int .i64,.int .i64],res:=[Yo,.bool],F:=fun xs=>Zjn xs.1 xs.2.1 xs.2.2.1}
theorem Zue:okE Qaa:=
 ofE (Za Zq0 (Za X7 Zg)) Zc Tryz.func329 Tryz.call329 (.seq .leaf (.seq .leaf (.join Z2x (fun v=>Zib v.1 v.2.1 v.2.2.1) .leaf .leaf))) ⟨lf,lf,lf,(fun v=>by kernel_rfl),lf⟩ (hk fun _=>by kernel_rfl)
abbrev Qm7:FnE:={f:=297,args:=[Zo],res:=[Yo,.bool],F:=fun xs=>Zoq xs.1}
theorem Zyw:okE Qm7:=
 ofE (Za Zq0 (Za Zue Zg)) Zc Tryz.func297 Tryz.call297 .leaf lf (hk fun _=>by kernel_rfl)
abbrev Qh6:FnE:={f:=330,args:=[Q1],res:=[.bool],F:=fun xs=>Zmr xs.1}
theorem Zwz:okE Qh6:=
 ofE (Za Zox Zg) Zc Tryz.func330 Tryz.call330 .leaf lf (hk fun _=>by kernel_rfl)
abbrev Qei:FnE:={f:=331,args:=[Q1],res:=[Q1,.bool],F:=fun xs=>Zo8 xs.1}
theorem Qbt:okE Qei:=
 ofE (Za Zwz Zg) Zc Tryz.func331 Tryz.call331 .leaf lf (hk fun _=>by kernel_rfl)
abbrev Qm5:FnE:={f:=298,args:=[Q1,.bool],res:=[Q1,.bool],F:=fun xs=>Zhw xs.1 xs.2.1}
theorem Zyv:okE Qm5:=
 ofE (Za Zwz (Za Qbt Zg)) Zc Tryz.func298 Tryz.call298 .leaf lf (hk fun _=>by kernel_rfl)
abbrev Qio:FnE:={f:=332,args:=[Zo,Zw],res:=[Yo,.bool],F:=fun xs=>Zm3 xs.1 xs.2.1}
theorem Zw3:okE Qio:=
 ofE (Za Zq0 (Za Zue Zg)) Zc Tryz.func332 Tryz.call332 .leaf lf (hk fun _=>by kernel_rfl)
abbrev Qmr:FnE:={f:=300,args:=[Q1],res:=[.bool],F:=fun xs=>Zom xs.1}
theorem Zys:okE Qmr:=
 ofE (Za W4 Zg) Zc Tryz.func300 Tryz.call300 .leaf lf (hk fun _=>by kernel_rfl)
abbrev Qin:FnE:={f:=299,args:=[Zo,Zw],res:=[.slice 50 (Zq)],F:=fun xs=>Zrl xs.1 xs.2.1}
theorem Qf8:okE Qin:=
 ofE (Za Zw3 (Za Zys Zg)) Zc Tryz.func299 Tryz.call299 (.seq .leaf (.seq .leaf (.join Z8o (fun v=>Zhc v.1 v.2.1 v.2.2.1) .leaf (.join Z8p (fun v=>Zhd v.1 v.2.1 v.2.2.1) .leaf (.seq .leaf (.join Z8q (fun v=>Zhe v.1 v.2.1) .leaf .leaf)))))) ⟨lf,lf,lf,(fun v=>by kernel_rfl),lf,(fun v=>by kernel_rfl),lf,lf,(fun v=>by kernel_rfl),lf⟩ (hk fun _=>by kernel_rfl)
abbrev Z3l:FnE:={f:=254,args:=[Zo],res:=[.slice 50 (Zq)],F:=fun xs=>Zkg xs.1}
theorem Z2b:okE Z3l:=
 ofE (Za Vi (Za Zyw (Za Zyv (Za Qf8 (Za Zys Zg))))) Zc Tryz.func254 Tryz.call254 (.seq .leaf (.seq .leaf (.seq .leaf (.seq .leaf (.join Zzc (fun v=>Zbt v.1 v.2.1) .leaf (.seq .leaf (.join Zzd (fun v=>Zbu v.1 v.2.1) .leaf (.seq .leaf (.join Zze (fun v=>Zbv v.1 v.2.1) .leaf (.seq (.seq .leaf (.block (.loop Zzh (fun N v=>Zby N v.1 v.2.1 v.2.2.1) (fun v=>Zfh v.1 v.2.1 v.2.2.1) (fun K1=> .leaf)))) (.join Zzf (fun v=>Zbw v.1 v.2.1) .leaf (.join Zzg (fun v=>Zbx v.1 v.2.1) .leaf .leaf)))))))))))) ⟨lf,lf,lf,lf,lf,(fun v=>by kernel_rfl),lf,lf,(fun v=>by kernel_rfl),lf,lf,(fun v=>by kernel_rfl),⟨lf,fun _=>rfl,fun N=>⟨(fun v=>by kernel_rfl),lf⟩⟩,lf,(fun v=>by kernel_rfl),lf,(fun v=>by kernel_rfl),lf⟩ (hk fun _=>by kernel_rfl)
abbrev Qm1:FnE:={f:=262,args:=[.int .i64],res:=[.int .i64],F:=fun xs=>Zoo xs.1}
theorem Zyu:okE Qm1:=
 ofE Zg Zc Tryz.func262 Tryz.call262 .leaf lf (hk fun _=>by kernel_rfl)
abbrev Z9z:FnE:={f:=277,args:=[.int .i64,.int .i64],res:=[.str],F:=fun xs=>Znh xs.1 xs.2.1}
theorem Z7v:okE Z9z:=
 ofE (Za X7 Zg) Zc Tryz.func277 Tryz.call277 (.seq .leaf (.seq .leaf (.seq .leaf (.seq (.seq .leaf (.block (.loop Z2k (fun N v=>Kf N v.1 v.2.1 v.2.2.1 v.2.2.2.1) (fun v=>Zok v.1 v.2.1 v.2.2.1 v.2.2.2.1) (fun K1=> .leaf)))) .leaf)))) ⟨lf,lf,lf,⟨lf,fun _=>rfl,fun N=>⟨(fun v=>by kernel_rfl),lf⟩⟩,lf⟩ (hk fun _=>by kernel_rfl)
abbrev Qta:FnE:={f:=233,args:=[.int .i64],res:=[.str],F:=fun xs=>Zj3 xs.1}
theorem Zvt:okE Qta:=
 ofE (Za Z7v Zg) Zc Tryz.func233 Tryz.call233 .leaf lf (hk fun _=>by kernel_rfl)
abbrev Qd0:FnE:={f:=263,args:=[.int .i64],res:=[.str],F:=fun xs=>Zo1 xs.1}
theorem Qbf:okE Qd0:=
 ofE (Za Zyu (Za Zvt Zg)) Zc Tryz.func263 Tryz.call263 (.seq .leaf (.seq .leaf (.seq .leaf (.seq (.seq .leaf (.block (.loop Z49 (fun N v=>Yg N v.1 v.2.1 v.2.2.1 v.2.2.2.1) (fun v=>Zja v.1 v.2.1 v.2.2.1 v.2.2.2.1) (fun K1=>(.seq .leaf (.seq (.block (.seq .leaf (.join Z48 (fun v=>Va K1 v.1 v.2.1 v.2.2.1 v.2.2.2.1 v.2.2.2.2.1) .leaf .leaf))) .leaf)))))) .leaf)))) ⟨lf,lf,lf,⟨lf,fun _=>rfl,fun N=>⟨(fun v=>by kernel_rfl),lf,⟨lf,lf,(fun v=>by kernel_rfl),lf⟩,lf⟩⟩,lf⟩ (hk fun _=>by kernel_rfl)
abbrev Z91:FnE:={f:=209,args:=[.slice 3 (.int .i64)],res:=[.str],F:=fun xs=>Yc xs.1}
theorem Z7w:okE Z91:=
 ofE (Za Zyu (Za Qbf Zg)) Zc Tryz.func209 Tryz.call209 (.seq .leaf (.seq .leaf (.seq (.seq .leaf (.block (.loop Z2p (fun N v=>Zd2 N v.1 v.2.1 v.2.2.1) (fun v=>Zhp v.1 v.2.1 v.2.2.1) (fun K1=> .leaf)))) .leaf))) ⟨lf,lf,⟨lf,fun _=>rfl,fun N=>⟨(fun v=>by kernel_rfl),lf⟩⟩,lf⟩ (hk fun _=>by kernel_rfl)
abbrev Z90:FnE:={f:=132,args:=[Zq],res:=[.str],F:=fun xs=>Zi9 xs.1}
theorem Zud:okE Z90:=
 ofE (Za Wh (Za Z7w Zg)) Zc Tryz.func132 Tryz.call132 (.seq .leaf (.seq .leaf (.seq (.seq .leaf (.block (.seq .leaf (.cond .leaf (.seq .leaf (.cond .leaf (.seq .leaf (.cond (.seq .leaf (.join Z2l (fun v=>Zh6 v.1 v.2.1) .leaf .leaf)) (.join Z2m (fun v=>Zh7 v.1 v.2.1 v.2.2.1) .leaf (.cond .leaf (.join Z2n (fun v=>Zh8 v.1 v.2.1) .leaf .leaf))))))))))) (.seq .leaf (.join Z2o (fun v=>Zh9 v.1 v.2.1) .leaf .leaf))))) ⟨lf,lf,⟨lf,lf,lf,lf,lf,lf,⟨lf,lf,(fun v=>by kernel_rfl),lf⟩,lf,(fun v=>by kernel_rfl),lf,lf,(fun v=>by kernel_rfl),lf⟩,lf,lf,(fun v=>by kernel_rfl),lf⟩ (hk fun _=>by kernel_rfl)
abbrev Qh3:FnE:={f:=255,args:=[Zq],res:=[.int .i64],F:=fun xs=>Zfm xs.1}
theorem Zqy:okE Qh3:=
 ofE (Za Zud Zg) Zc Tryz.func255 Tryz.call255 .leaf lf (hk fun _=>by kernel_rfl)
abbrev Z6z:FnE:={f:=301,args:=[Q1],res:=[Q1],F:=fun xs=>Zg1 xs.1}
theorem Ztd:okE Z6z:=
 ofE (Za W4 Zg) Zc Tryz.func301 Tryz.call301 .leaf lf (hk fun _=>by kernel_rfl)
abbrev Qqd:FnB:={f:=302,args:=[.sh (Zo),.sh (Zw),.sh (.int .i64)],res:= .shr [Zw],F:=fun xs=>Znp xs.1 xs.2.1 xs.2.2.1}
theorem Qnv:okB Qqd:=
 ofB [] (Za Zw3 (Za Ztd Zg)) Zc Tryz.func302 Tryz.call302 .leaf lf (hk fun _=>by kernel_rfl)
abbrev Z97:FnE:={f:=256,args:=[Zo,Zq],res:=[Zo],F:=fun xs=>Zeu xs.1 xs.2.1}
theorem Z71:okE Z97:=
 ofE (Za Qz (Za J6 (Za Zyw (Za Zyv (Za Ztd (Za Xd (Za Yw Zg))))))) (Zv Qnv Zc) Tryz.func256 Tryz.call256 (.seq .leaf (.seq .leaf (.seq .leaf (.seq (.seq .leaf (.block (.seq .leaf (.cond .leaf (.seq .leaf (.cond .leaf (.seq .leaf (.cond .leaf (.seq .leaf (.cond .leaf (.seq .leaf (.seq .leaf (.cond (.frz [(12,.u false)]) .leaf))))))))))))) .leaf)))) ⟨lf,lf,lf,⟨lf,lf,lf,lf,lf,lf,lf,lf,lf,lf,lf,trivial,lf⟩,lf⟩ (hk fun _=>by kernel_rfl)
abbrev Qeo:FnE:={f:=303,args:=[Zo],res:=[.slice 303 (Xk)],F:=fun xs=>Zpa xs.1}
theorem Qbx:okE Qeo:=
 ofE Zg Zc Tryz.func303 Tryz.call303 (.seq .leaf (.seq .leaf (.seq (.seq .leaf (.block (.loop Z5u (fun N v=>Wx N v.1 v.2.1 v.2.2.1) (fun v=>Zjr v.1 v.2.1 v.2.2.1) (fun K1=>(.seq .leaf (.join Z5t (fun v=>Zfu K1 v.1 v.2.1 v.2.2.1) .leaf .leaf)))))) .leaf))) ⟨lf,lf,⟨lf,fun _=>rfl,fun N=>⟨(fun v=>by kernel_rfl),lf,lf,(fun v=>by kernel_rfl),lf⟩⟩,lf⟩ (hk fun _=>by kernel_rfl)
abbrev Qep:FnE:={f:=304,args:=[.slice 303 (Xk),.int .i64],res:=[.slice 303 (Xk)],F:=fun xs=>Zpb xs.1 xs.2.1}
theorem Qby:okE Qep:=
 ofE Zg Zc Tryz.func304 Tryz.call304 (.seq .leaf (.seq .leaf (.seq (.seq .leaf (.block (.loop Z5w (fun N v=>Wy N v.1 v.2.1 v.2.2.1 v.2.2.2.1) (fun v=>Zjs v.1 v.2.1 v.2.2.1 v.2.2.2.1) (fun K1=>(.seq .leaf (.join Z5v (fun v=>Zfv K1 v.1 v.2.1 v.2.2.1 v.2.2.2.1) .leaf .leaf)))))) .leaf))) ⟨lf,lf,⟨lf,fun _=>rfl,fun N=>⟨(fun v=>by kernel_rfl),lf,lf,(fun v=>by kernel_rfl),lf⟩⟩,lf⟩ (hk fun _=>by kernel_rfl)
abbrev Z3k:FnE:={f:=348,args:=[.slice 303 (Xk)],res:=[.bool],F:=fun xs=>Zkf xs.1}
theorem Z2a:okE Z3k:=
 ofE (Za Q6 (Za Zpm Zg)) Zc Tryz.func348 Tryz.call348 (.seq .leaf (.seq (.seq .leaf (.block (.loop Zzb (fun N v=>Zbs N v.1 v.2.1) (fun v=>Zff v.1 v.2.1) (fun K1=> .leaf)))) .leaf)) ⟨lf,⟨lf,fun _=>rfl,fun N=>⟨(fun v=>by kernel_rfl),lf⟩⟩,lf⟩ (hk fun _=>by kernel_rfl)
abbrev Qee:FnE:={f:=333,args:=[.slice 303 (Xk)],res:=[.slice 3 (.int .i64)],F:=fun xs=>Zo6 xs.1}
theorem Qbq:okE Qee:=
 ofE (Za Z2a Zg) Zc Tryz.func333 Tryz.call333 (.seq .leaf (.seq .leaf (.seq .leaf (.seq (.seq .leaf (.block (.loop Z5k (fun N v=>Vd N v.1 v.2.1 v.2.2.1 v.2.2.2.1) (fun v=>Zjf v.1 v.2.1 v.2.2.1 v.2.2.2.1) (fun K1=>(.seq .leaf (.join Z5i (fun v=>Zfp K1 v.1 v.2.1 v.2.2.1 v.2.2.2.1) (.block (.join Z5j (fun v=>Zfq K1 v.1 v.2.1 v.2.2.1 v.2.2.2.1) .leaf .leaf)) .leaf)))))) .leaf)))) ⟨lf,lf,lf,⟨lf,fun _=>rfl,fun N=>⟨(fun v=>by kernel_rfl),lf,⟨lf,(fun v=>by kernel_rfl),lf⟩,(fun v=>by kernel_rfl),lf⟩⟩,lf⟩ (hk fun _=>by kernel_rfl)
abbrev Qm3:FnE:={f:=334,args:=[.slice 3 (.int .i64),.int .i64],res:=[.int .i64],F:=fun xs=>Zsw xs.1 xs.2.1}
theorem Qju:okE Qm3:=
 ofE Zg Zc Tryz.func334 Tryz.call334 (.seq .leaf (.seq (.seq .leaf (.block (.loop Qcr (fun N v=>Zjp N v.1 v.2.1 v.2.2.1) (fun v=>Zln v.1 v.2.1 v.2.2.1) (fun K1=> .leaf)))) .leaf)) ⟨lf,⟨lf,fun _=>rfl,fun N=>⟨(fun v=>by kernel_rfl),lf⟩⟩,lf⟩ (hk fun _=>by kernel_rfl)
abbrev Qef:FnE:={f:=305,args:=[.slice 303 (Xk),.int .i64],res:=[.int .i64],F:=fun xs=>Zo7 xs.1 xs.2.1}
theorem Qbr:okE Qef:=
 ofE (Za Qbq (Za Qju Zg)) Zc Tryz.func305 Tryz.call305 (.seq .leaf (.seq .leaf (.seq .leaf (.seq (.seq .leaf (.block (.loop Z5m (fun N v=>Ve N v.1 v.2.1 v.2.2.1 v.2.2.2.1 v.2.2.2.2.1) (fun v=>Zjh v.1 v.2.1 v.2.2.1 v.2.2.2.1 v.2.2.2.2.1) (fun K1=>(.seq .leaf (.seq (.block (.seq .leaf (.block (.loop Z5n (fun N v=>Wt K1 N v.1 v.2.1 v.2.2.1 v.2.2.2.1 v.2.2.2.2.1 v.2.2.2.2.2.1) (fun v=>Zji v.1 v.2.1 v.2.2.1 v.2.2.2.1 v.2.2.2.2.1 v.2.2.2.2.2.1) (fun K2=>(.seq .leaf (.join Z5l (fun v=>Zfr K1 K2 v.1 v.2.1 v.2.2.1 v.2.2.2.1 v.2.2.2.2.1 v.2.2.2.2.2.1) .leaf .leaf))))))) .leaf)))))) .leaf)))) ⟨lf,lf,lf,⟨lf,fun _=>rfl,fun N=>⟨(fun v=>by kernel_rfl),lf,⟨lf,fun _=>rfl,fun N=>⟨(fun v=>by kernel_rfl),lf,lf,(fun v=>by kernel_rfl),lf⟩⟩,lf⟩⟩,lf⟩ (hk fun _=>by kernel_rfl)
abbrev Qdx:FnE:={f:=335,args:=[Q1],res:=[.int .i64],F:=fun xs=>Zo0 xs.1}
theorem Qbd:okE Qdx:=
 ofE (Za W4 Zg) Zc Tryz.func335 Tryz.call335 .leaf lf (hk fun _=>by kernel_rfl)
abbrev Qmx:FnE:={f:=349,args:=[Vx,.int .i64,.int .i64],res:=[.str,.bool],F:=fun xs=>Zsu xs.1 xs.2.1 xs.2.2.1}
theorem Qjq:okE Qmx:=
 ofE (Za Zqz (Za Zvt Zg)) Zc Tryz.func349 Tryz.call349 (.seq .leaf (.seq .leaf (.seq .leaf (.seq (.seq .leaf (.block (.loop Qcp (fun N v=>Zjl N v.1 v.2.1 v.2.2.1 v.2.2.2.1 v.2.2.2.2.1) (fun v=>Zf3 v.1 v.2.1 v.2.2.1 v.2.2.2.1 v.2.2.2.2.1) (fun K1=> .leaf)))) .leaf)))) ⟨lf,lf,lf,⟨lf,fun _=>rfl,fun N=>⟨(fun v=>by kernel_rfl),lf⟩⟩,lf⟩ (hk fun _=>by kernel_rfl)
abbrev Qic:FnE:={f:=336,args:=[Z6,.int .i64,.int .i64],res:=[Zcr,.bool],F:=fun xs=>Zrg xs.1 xs.2.1 xs.2.2.1}
theorem Qfz:okE Qic:=
 ofE (Za Vm (Za Qjq Zg)) Zc Tryz.func336 Tryz.call336 (.seq .leaf (.seq .leaf (.seq .leaf (.seq (.seq .leaf (.cond (.seq .leaf (.seq .leaf (.seq .leaf (.join Z8f (fun v=>Zg6 v.1 v.2.1 v.2.2.1 v.2.2.2.1 v.2.2.2.2.1) .leaf .leaf)))) .leaf)) .leaf)))) ⟨lf,lf,lf,⟨lf,⟨lf,lf,lf,lf,(fun v=>by kernel_rfl),lf⟩,lf⟩,lf⟩ (hk fun _=>by kernel_rfl)
abbrev Qeh:FnE:={f:=309,args:=[.int .i64,Zcr],res:=[Zq],F:=fun xs=>Zt9 xs.1 xs.2.1}
theorem Zvq:okE Qeh:=
 ofE Zg Zc Tryz.func309 Tryz.call309 .leaf lf (hk fun _=>by kernel_rfl)
abbrev Qmy:FnE:={f:=306,args:=[Zo,.int .i64,.int .i64],res:=[Zcr,.bool],F:=fun xs=>Zsv xs.1 xs.2.1 xs.2.2.1}
theorem Qjr:okE Qmy:=
 ofE (Za Xd (Za J6 (Za Qbd (Za Qfz (Za Zvq (Za Zqy Zg)))))) Zc Tryz.func306 Tryz.call306 (.seq .leaf (.seq .leaf (.seq .leaf (.seq .leaf (.seq (.seq .leaf (.block (.loop Qcq (fun N v=>Zjm N v.1 v.2.1 v.2.2.1 v.2.2.2.1 v.2.2.2.2.1 v.2.2.2.2.2.1) (fun v=>Zlm v.1 v.2.1 v.2.2.1 v.2.2.2.1 v.2.2.2.2.1 v.2.2.2.2.2.1) (fun K1=> .leaf)))) .leaf))))) ⟨lf,lf,lf,lf,⟨lf,fun _=>rfl,fun N=>⟨(fun v=>by kernel_rfl),lf⟩⟩,lf⟩ (hk fun _=>by kernel_rfl)
abbrev Z99:FnE:={f:=337,args:=[Q1],res:=[Q1],F:=fun xs=>Zjj xs.1}
theorem Z73:okE Z99:=
 ofE (Za W4 Zg) Zc Tryz.func337 Tryz.call337 .leaf lf (hk fun _=>by kernel_rfl)
abbrev Qm6:FnB:={f:=307,args:=[.bx 37 (Zo) (.u true),.sh (.int .i64)],res:= .vals [],F:=fun xs=>Zlc xs.1 xs.2.1}
theorem Qjw:okB Qm6:=
 ofB [0] (Za Xd (Za Z73 (Za Yw Zg))) Zc Tryz.func307 Tryz.call307 .leaf lf (hk fun _=>by kernel_rfl)
abbrev Qql:FnE:={f:=340,args:=[Z6,Zcr],res:=[.bool],F:=fun xs=>Zrm xs.1 xs.2.1}
theorem Zt3:okE Qql:=
 ofE Zg Zc Tryz.func340 Tryz.call340 .leaf lf (hk fun _=>by kernel_rfl)
abbrev Qqm:FnE:={f:=342,args:=[Zcr],res:=[Zx],F:=fun xs=>Znt xs.1}
theorem Zt4:okE Qqm:=
 ofE Zg Zc Tryz.func342 Tryz.call342 .leaf lf (hk fun _=>by kernel_rfl)
abbrev Z60:FnE:={f:=341,args:=[.slice 222 (Zx),.slice 222 (Zx)],res:=[.slice 222 (Zx)],F:=fun xs=>Zde xs.1 xs.2.1}
theorem Zmh:okE Z60:=
 ofE (Za Zep Zg) Zc Tryz.func341 Tryz.call341 (.seq .leaf (.seq .leaf (.seq (.seq .leaf (.block (.loop Z06 (fun N v=>J9 N v.1 v.2.1 v.2.2.1 v.2.2.2.1) (fun v=>Zbl v.1 v.2.1 v.2.2.1 v.2.2.2.1) (fun K1=>(.seq .leaf (.seq (.block (.seq .leaf (.block (.loop Z07 (fun N v=>W8 K1 N v.1 v.2.1 v.2.2.1 v.2.2.2.1 v.2.2.2.2.1) (fun v=>Zbm v.1 v.2.1 v.2.2.1 v.2.2.2.1 v.2.2.2.2.1) (fun K2=>(.seq .leaf (.join Z04 (fun v=>Zg2 K1 K2 v.1 v.2.1 v.2.2.1 v.2.2.2.1 v.2.2.2.2.1) (.block (.join Z05 (fun v=>Zmn K1 K2 v.1 v.2.1 v.2.2.1 v.2.2.2.1 v.2.2.2.2.1 v.2.2.2.2.2.1) .leaf .leaf)) .leaf))))))) .leaf)))))) .leaf))) ⟨lf,lf,⟨lf,fun _=>rfl,fun N=>⟨(fun v=>by kernel_rfl),lf,⟨lf,fun _=>rfl,fun N=>⟨(fun v=>by kernel_rfl),lf,⟨lf,(fun v=>by kernel_rfl),lf⟩,(fun v=>by kernel_rfl),lf⟩⟩,lf⟩⟩,lf⟩ (hk fun _=>by kernel_rfl)
abbrev Qac:FnE:={f:=343,args:=[.slice 222 (Zx),Zx],res:=[.slice 222 (Zx)],F:=fun xs=>Zev xs.1 xs.2.1}
theorem Zn3:okE Qac:=
 ofE (Za Zep (Za Zvv (Za Zvu Zg))) Zc Tryz.func343 Tryz.call343 (.seq .leaf (.seq .leaf (.seq .leaf (.seq (.seq .leaf (.block (.loop Z22 (fun N v=>Jo N v.1 v.2.1 v.2.2.1 v.2.2.2.1) (fun v=>Zcq v.1 v.2.1 v.2.2.1 v.2.2.2.1) (fun K1=>(.seq .leaf (.join Z20 (fun v=>Zic K1 v.1 v.2.1 v.2.2.1 v.2.2.2.1) (.block (.join Z21 (fun v=>Zd6 K1 v.1 v.2.1 v.2.2.1 v.2.2.2.1) .leaf .leaf)) .leaf)))))) .leaf)))) ⟨lf,lf,lf,⟨lf,fun _=>rfl,fun N=>⟨(fun v=>by kernel_rfl),lf,⟨lf,(fun v=>by kernel_rfl),lf⟩,(fun v=>by kernel_rfl),lf⟩⟩,lf⟩ (hk fun _=>by kernel_rfl)
abbrev Qig:FnE:={f:=338,args:=[Z6,Zcr],res:=[Z6,.bool],F:=fun xs=>Zrh xs.1 xs.2.1}
theorem Qf2:okE Qig:=
 ofE (Za Zcw (Za Vm (Za Zt3 (Za Zt4 (Za Zmh (Za Zn3 (Za Zeo (Za Zoz Zg)))))))) Zc Tryz.func338 Tryz.call338 (.seq .leaf (.seq .leaf (.seq .leaf (.join Z8j (fun v=>Zg8 v.1 v.2.1 v.2.2.1) .leaf (.join Z8k (fun v=>Zg9 v.1 v.2.1) .leaf .leaf))))) ⟨lf,lf,lf,lf,(fun v=>by kernel_rfl),lf,(fun v=>by kernel_rfl),lf⟩ (hk fun _=>by kernel_rfl)
abbrev Qij:FnE:={f:=339,args:=[Q1,.int .i64],res:=[Q1,.bool],F:=fun xs=>Zms xs.1 xs.2.1}
theorem Qf5:okE Qij:=
 ofE (Za W4 Zg) Zc Tryz.func339 Tryz.call339 .leaf lf (hk fun _=>by kernel_rfl)
abbrev Qh5:FnE:={f:=308,args:=[Zo,.int .i64,Zcr],res:=[Zo,.bool],F:=fun xs=>Zje xs.1 xs.2.1 xs.2.2.1}
theorem Qfx:okE Qh5:=
 ofE (Za Qz (Za Xd (Za J6 (Za Qf2 (Za Qf5 (Za Yw Zg)))))) Zc Tryz.func308 Tryz.call308 .leaf lf (hk fun _=>by kernel_rfl)
abbrev Qqe:FnB:={f:=257,args:=[.bx 37 (Zo) (.u true),.mv (.slice 50 (Zq)),.sh (.int .i64)],res:= .vals [.slice 50 (Zq)],F:=fun xs=>Zrk xs.1 xs.2.1 xs.2.2.1}
theorem Qnw:okB Qqe:=
 ofB [0] (Za Qbx (Za Qby (Za Qbr (Za Qjr (Za Qfx (Za Zvq (Za Zqy Zg))))))) (Zv Qjw Zc) Tryz.func257 Tryz.call257 (.seq .leaf (.seq .leaf (.seq (.seq .leaf (.block (.loop Qgy (fun N v=>Vj N v.1 v.2.1 v.2.2.1 v.2.2.2.1 v.2.2.2.2.1) (fun v=>Zm1 v.1 v.2.1 v.2.2.1 v.2.2.2.1 v.2.2.2.2.1) (fun K1=>(.seq .leaf (.join Qgw (fun v=>Zdp K1 v.1 v.2.1 v.2.2.1 v.2.2.2.1 v.2.2.2.2.1) (.block (.seq .leaf (.seq (.seq .leaf (.block (.loop Qgz (fun N v=>Zdq K1 N v.1 v.2.1 v.2.2.1 v.2.2.2.1 v.2.2.2.2.1 v.2.2.2.2.2.1 v.2.2.2.2.2.2.1) (fun v=>Zm2 v.1 v.2.1 v.2.2.1 v.2.2.2.1 v.2.2.2.2.1 v.2.2.2.2.2.1 v.2.2.2.2.2.2.1) (fun K2=> .leaf)))) (.seq .leaf (.seq .leaf (.seq .leaf (.seq .leaf (.join Qgx (fun v=>Zgn K1 v.1 v.2.1 v.2.2.1 v.2.2.2.1 v.2.2.2.2.1 v.2.2.2.2.2.1 v.2.2.2.2.2.2.1 v.2.2.2.2.2.2.2.1 v.2.2.2.2.2.2.2.2.1) .leaf .leaf)))))))) .leaf)))))) .leaf))) ⟨lf,lf,⟨lf,fun _=>rfl,fun N=>⟨(fun v=>by kernel_rfl),lf,⟨lf,⟨lf,fun _=>rfl,fun N=>⟨(fun v=>by kernel_rfl),lf⟩⟩,lf,lf,lf,lf,lf,(fun v=>by kernel_rfl),lf⟩,(fun v=>by kernel_rfl),lf⟩⟩,lf⟩ (hk fun _=>by kernel_rfl)
abbrev Z3n:FnE:={f:=67,args:=[.slice 50 (Zq)],res:=[.str],F:=fun xs=>Zfj xs.1}
theorem Zrw:okE Z3n:=
 ofE (Za Zud Zg) Zc Tryz.func67 Tryz.call67 (.seq .leaf (.seq .leaf (.seq (.seq .leaf (.block (.loop Zzj (fun N v=>Zbz N v.1 v.2.1 v.2.2.1) (fun v=>Zfk v.1 v.2.1 v.2.2.1) (fun K1=> .leaf)))) .leaf))) ⟨lf,lf,⟨lf,fun _=>rfl,fun N=>⟨(fun v=>by kernel_rfl),lf⟩⟩,lf⟩ (hk fun _=>by kernel_rfl)
abbrev Qdz:FnB:={f:=206,args:=[.sh (Zo),.sh (.int .i64)],res:= .shr [.str,.int .i64,Zo],F:=fun xs=>Zgh xs.1 xs.2.1}
theorem Qbe:okB Qdz:=
 ofB [] (Za Qz (Za Vi (Za X7 (Za Z2b (Za Zqy (Za Z71 (Za Zrw Zg))))))) (Zv Qnw Zc) Tryz.func206 Tryz.call206 (.seq .leaf (.seq .leaf (.seq (.seq .leaf (.cond (.seq .leaf (.frz [(6,.u false)])) .leaf)) (.seq .leaf (.seq .leaf (.seq .leaf (.seq (.seq .leaf (.block (.loop Z47 (fun N v=>Y4 N v.1 v.2.1 v.2.2.1 v.2.2.2.1 v.2.2.2.2.1 v.2.2.2.2.2.1 v.2.2.2.2.2.2.1) (fun v=>Zi8 v.1 v.2.1 v.2.2.1 v.2.2.2.1 v.2.2.2.2.1 v.2.2.2.2.2.1 v.2.2.2.2.2.2.1) (fun K1=>(.seq .leaf (.join Z46 (fun v=>Wp K1 v.1 v.2.1 v.2.2.1 v.2.2.2.1 v.2.2.2.2.1 v.2.2.2.2.2.1 v.2.2.2.2.2.2.1) .leaf .leaf)))))) (.seq .leaf (.seq (.seq .leaf (.cond (.seq .leaf (.frz [(6,.u false)])) .leaf)) (.seq (.frz [(8,.u false)]) (.seq .leaf (.seq .leaf (.frz [(6,.u false)]))))))))))))) ⟨lf,lf,⟨lf,⟨lf,trivial⟩,lf⟩,lf,lf,lf,⟨lf,fun _=>rfl,fun N=>⟨(fun v=>by kernel_rfl),lf,lf,(fun v=>by kernel_rfl),lf⟩⟩,lf,⟨lf,⟨lf,trivial⟩,lf⟩,trivial,lf,lf,trivial⟩ (hk fun _=>by kernel_rfl)
abbrev Qim:FnB:={f:=66,args:=[.bx 112 (V0) (.u false),.sh (.slice 3 (.int .i64))],res:= .vals [.int .i64],F:=fun xs=>V9 xs.1 xs.2.1}
theorem Zq2:okB Qim:=
 ofB [0] Zg (Zv Yd Zc) Tryz.func66 Tryz.call66 .leaf lf (hk fun _=>by kernel_rfl)
abbrev Qqi:FnB:={f:=104,args:=[.bx 112 (V0) (.u false)],res:= .vals [Zq],F:=fun xs=>Zns xs.1}
theorem Zt1:okB Qqi:=
 ofB [0] (Za Zvw Zg) (Zv Zq2 (Zv Yd (Zv Zq3 (Zv Zq1 Zc)))) Tryz.func104 Tryz.call104 .leaf lf (hk fun _=>by kernel_rfl)
abbrev Qps:FnE:={f:=162,args:=[.int .i64],res:=[.int .i64],F:=fun xs=>Zkh xs.1}
theorem Qnl:okE Qps:=
 ofE (Za Q6 Zg) Zc Tryz.func162 Tryz.call162 .leaf lf (hk fun _=>by kernel_rfl)
abbrev Qm0:FnE:={f:=161,args:=[Q1,.int .i64],res:=[Q1,.int .i64,.bool],F:=fun xs=>Zhu xs.1 xs.2.1}
theorem Qjt:okE Qm0:=
 ofE (Za Zox Zg) Zc Tryz.func161 Tryz.call161 .leaf lf (hk fun _=>by kernel_rfl)
abbrev Qp3:FnB:={f:=163,args:=[.bx 37 (Zo) (.u true),.sh (.int .i64),.sh (.int .i64)],res:= .vals [],F:=fun xs=>Znn xs.1 xs.2.1 xs.2.2.1}
theorem Qnq:okB Qp3:=
 ofB [0] (Za Zw1 (Za Yw Zg)) Zc Tryz.func163 Tryz.call163 (.seq .leaf (.block (.loop Qgt (fun N v=>Ki N v.1 v.2.1 v.2.2.1) (fun v=>Zha v.1 v.2.1 v.2.2.1) (fun K1=>(.seq .leaf (.seq (.block (.join Qgs (fun v=>Zgm K1 v.1 v.2.1 v.2.2.1 v.2.2.2.1) .leaf .leaf)) .leaf)))))) ⟨lf,fun _=>rfl,fun N=>⟨(fun v=>by kernel_rfl),lf,⟨lf,(fun v=>by kernel_rfl),lf⟩,lf⟩⟩ (hk fun _=>by kernel_rfl)
abbrev Z62:FnE:={f:=93,args:=[Zo,.int .i64],res:=[Zo,.int .i64],F:=fun xs=>Yy xs.1 xs.2.1}
theorem Zgw:okE Z62:=
 ofE (Za Qz (Za J6 (Za Q6 (Za Zpl (Za Zsl (Za Zoy (Za Qnl (Za Qjt Zg)))))))) (Zv Qnq Zc) Tryz.func93 Tryz.call93 (.seq .leaf (.seq .leaf (.seq .leaf (.seq .leaf (.seq .leaf (.seq .leaf (.join Z09 (fun v=>Xg v.1 v.2.1 v.2.2.1 v.2.2.2.1 v.2.2.2.2.1) .leaf (.join Z1a (fun v=>Kw v.1 v.2.1 v.2.2.1 v.2.2.2.1 v.2.2.2.2.1 v.2.2.2.2.2.1 v.2.2.2.2.2.2.1) .leaf (.seq .leaf (.join Z1b (fun v=>Yz v.1 v.2.1 v.2.2.1 v.2.2.2.1) .leaf .leaf)))))))))) ⟨lf,lf,lf,lf,lf,lf,lf,(fun v=>by kernel_rfl),lf,(fun v=>by kernel_rfl),lf,lf,(fun v=>by kernel_rfl),lf⟩ (hk fun _=>by kernel_rfl)
abbrev Qqj:FnE:={f:=164,args:=[Z8,.int .i64,.bool],res:=[.int .i64],F:=fun xs=>Zkm xs.1 xs.2.1 xs.2.2.1}
theorem Z1s:okE Qqj:=
 ofE Zg Zc Tryz.func164 Tryz.call164 .leaf lf (hk fun _=>by kernel_rfl)
abbrev Z6x:FnE:={f:=231,args:=[Q2],res:=[.slice 222 (Zx)],F:=fun xs=>Zlx xs.1}
theorem Z4j:okE Z6x:=
 ofE (Za Zix Zg) Zc Tryz.func231 Tryz.call231 (.seq .leaf (.seq .leaf (.seq (.seq .leaf (.block (.loop Z03 (fun N v=>Ku N v.1 v.2.1 v.2.2.1) (fun v=>Zbk v.1 v.2.1 v.2.2.1) (fun K1=> .leaf)))) .leaf))) ⟨lf,lf,⟨lf,fun _=>rfl,fun N=>⟨(fun v=>by kernel_rfl),lf⟩⟩,lf⟩ (hk fun _=>by kernel_rfl)
abbrev Qsw:FnE:={f:=232,args:=[Q2,.int .i64],res:=[.int .i64],F:=fun xs=>Zp5 xs.1 xs.2.1}
theorem Qrg:okE Qsw:=
 ofE Zg Zc Tryz.func232 Tryz.call232 (.seq .leaf (.seq (.seq .leaf (.block (.loop Qka (fun N v=>Zcy N v.1 v.2.1 v.2.2.1) (fun v=>Zh4 v.1 v.2.1 v.2.2.1) (fun K1=> .leaf)))) .leaf)) ⟨lf,⟨lf,fun _=>rfl,fun N=>⟨(fun v=>by kernel_rfl),lf⟩⟩,lf⟩ (hk fun _=>by kernel_rfl)
abbrev Qd6:FnE:={f:=165,args:=[Q2,.int .i64,.str],res:=[Q2],F:=fun xs=>Zgi xs.1 xs.2.1 xs.2.2.1}
theorem Qbk:okE Qd6:=
 ofE (Za Zix (Za Zvx (Za Z4j (Za Zeo (Za Qrg (Za Zvt Zg)))))) Zc Tryz.func165 Tryz.call165 (.seq .leaf (.seq .leaf (.seq .leaf (.seq .leaf (.seq .leaf (.seq .leaf (.seq .leaf (.seq (.seq .leaf (.block (.loop Z5e (fun N v=>K7 N v.1 v.2.1 v.2.2.1 v.2.2.2.1 v.2.2.2.2.1 v.2.2.2.2.2.1 v.2.2.2.2.2.2.1) (fun v=>Jz v.1 v.2.1 v.2.2.1 v.2.2.2.1 v.2.2.2.2.1 v.2.2.2.2.2.1 v.2.2.2.2.2.2.1) (fun K1=>(.seq .leaf (.seq (.block (.seq .leaf (.seq (.seq .leaf (.block (.loop Z5f (fun N v=>Xx K1 N v.1 v.2.1 v.2.2.1 v.2.2.2.1 v.2.2.2.2.1 v.2.2.2.2.2.1 v.2.2.2.2.2.2.1 v.2.2.2.2.2.2.2.1 v.2.2.2.2.2.2.2.2.1) (fun v=>J0 v.1 v.2.1 v.2.2.1 v.2.2.2.1 v.2.2.2.2.1 v.2.2.2.2.2.1 v.2.2.2.2.2.2.1 v.2.2.2.2.2.2.2.1 v.2.2.2.2.2.2.2.2.1) (fun K2=>(.seq .leaf (.seq (.block (.seq .leaf (.join Z5d (fun v=>Wq K1 K2 v.1 v.2.1 v.2.2.1 v.2.2.2.1 v.2.2.2.2.1 v.2.2.2.2.2.1 v.2.2.2.2.2.2.1 v.2.2.2.2.2.2.2.1 v.2.2.2.2.2.2.2.2.1 v.2.2.2.2.2.2.2.2.2.1) .leaf .leaf))) .leaf)))))) .leaf))) .leaf)))))) .leaf)))))))) ⟨lf,lf,lf,lf,lf,lf,lf,⟨lf,fun _=>rfl,fun N=>⟨(fun v=>by kernel_rfl),lf,⟨lf,⟨lf,fun _=>rfl,fun N=>⟨(fun v=>by kernel_rfl),lf,⟨lf,lf,(fun v=>by kernel_rfl),lf⟩,lf⟩⟩,lf⟩,lf⟩⟩,lf⟩ (hk fun _=>by kernel_rfl)
abbrev Qab:FnE:={f:=94,args:=[Z8,.int .i64,.str,.bool],res:=[Z8,.int .i64],F:=fun xs=>Yu xs.1 xs.2.1 xs.2.2.1 xs.2.2.2.1}
theorem Z74:okE Qab:=
 ofE (Za Zq4 (Za Zb9 (Za Z1s (Za Qbk (Za Zpn Zg))))) Zc Tryz.func94 Tryz.call94 (.seq .leaf (.seq .leaf (.seq .leaf (.seq .leaf (.seq .leaf (.seq .leaf (.seq .leaf (.join Z2y (fun v=>Kg v.1 v.2.1 v.2.2.1 v.2.2.2.1 v.2.2.2.2.1) .leaf (.seq .leaf (.join Z2z (fun v=>Zd5 v.1 v.2.1) .leaf .leaf)))))))))) ⟨lf,lf,lf,lf,lf,lf,lf,lf,(fun v=>by kernel_rfl),lf,lf,(fun v=>by kernel_rfl),lf⟩ (hk fun _=>by kernel_rfl)
abbrev Qmt:FnE:={f:=167,args:=[Z8,.int .i64],res:=[.int .i64],F:=fun xs=>Zlb xs.1 xs.2.1}
theorem Qjn:okE Qmt:=
 ofE (Za Zb9 (Za Q6 Zg)) Zc Tryz.func167 Tryz.call167 .leaf lf (hk fun _=>by kernel_rfl)
abbrev Qmz:FnE:={f:=168,args:=[Yo,.int .i64],res:=[Yo,.bool],F:=fun xs=>Zht xs.1 xs.2.1}
theorem Qjs:okE Qmz:=
 ofE (Za Ziy Zg) Zc Tryz.func168 Tryz.call168 .leaf lf (hk fun _=>by kernel_rfl)
abbrev Qp5:FnB:={f:=95,args:=[.bx 37 (Zo) (.u false),.bx 67 (Zw) (.u false),.sh (.int .i64)],res:= .vals [.int .i64],F:=fun xs=>Zef xs.1 xs.2.1 xs.2.2.1}
theorem Z1p:okB Qp5:=
 ofB [0,1] (Za Qjn (Za Qjs Zg)) Zc Tryz.func95 Tryz.call95 .leaf lf (hk fun _=>by kernel_rfl)
abbrev Qd4:FnB:={f:=43,args:=[.sh (Zo),.sh (Zq)],res:= .shr [Zo,.int .i64],F:=fun xs=>Zbc xs.1 xs.2.1}
theorem Qbi:okB Qd4:=
 ofB [] (Za J6 (Za Wh (Za Qz (Za Zcv (Za Zgw (Za Xd (Za Z74 Zg))))))) (Zv Z1p (Zv Zge Zc)) Tryz.func43 Tryz.call43 (.seq .leaf (.seq (.seq .leaf (.cond (.seq .leaf (.frz [(4,.u false)])) .leaf)) (.seq (.seq .leaf (.cond (.seq .leaf (.frz [(4,.u false)])) .leaf)) (.seq .leaf (.seq (.seq .leaf (.cond (.seq .leaf (.frz [(4,.u false)])) .leaf)) (.seq .leaf (.seq .leaf (.seq (.frz [(6,.u false),(8,.u false)]) (.seq (.seq .leaf (.cond (.seq .leaf (.frz [(4,.u false)])) .leaf)) (.seq (.seq .leaf (.cond (.seq .leaf (.frz [(4,.u false)])) .leaf)) (.seq .leaf (.seq (.frz [(8,.u false)]) .leaf)))))))))))) ⟨lf,⟨lf,⟨lf,trivial⟩,lf⟩,⟨lf,⟨lf,trivial⟩,lf⟩,lf,⟨lf,⟨lf,trivial⟩,lf⟩,lf,lf,trivial,⟨lf,⟨lf,trivial⟩,lf⟩,⟨lf,⟨lf,trivial⟩,lf⟩,lf,trivial,lf⟩ (hk fun _=>by kernel_rfl)
abbrev Z68:FnE:={f:=97,args:=[Z8,.int .i64,.int .i64],res:=[Z8,.int .i64],F:=fun xs=>Ju xs.1 xs.2.1 xs.2.2.1}
theorem Z4q:okE Z68:=
 ofE (Za Zq4 (Za Zb9 (Za Q6 (Za Z1s Zg)))) Zc Tryz.func97 Tryz.call97 .leaf lf (hk fun _=>by kernel_rfl)
abbrev Z96:FnB:={f:=44,args:=[.sh (Zo),.sh (Zq)],res:= .shr [Zo,.int .i64],F:=fun xs=>Zab xs.1 xs.2.1}
theorem Z70:okB Z96:=
 ofB [] (Za J6 (Za Wh (Za Qz (Za Zcv (Za Zgw (Za Xd (Za Z4q Zg))))))) (Zv Z1p (Zv Z1q (Zv Zge Zc))) Tryz.func44 Tryz.call44 (.seq .leaf (.seq (.seq .leaf (.cond (.seq .leaf (.frz [(4,.u false)])) .leaf)) (.seq (.seq .leaf (.cond (.seq .leaf (.frz [(4,.u false)])) .leaf)) (.seq .leaf (.seq (.seq .leaf (.cond (.seq .leaf (.frz [(4,.u false)])) .leaf)) (.seq .leaf (.seq .leaf (.seq (.frz [(6,.u false),(8,.u false)]) (.seq (.seq .leaf (.cond (.seq .leaf (.frz [(4,.u false)])) .leaf)) (.seq (.seq .leaf (.cond (.seq .leaf (.frz [(4,.u false)])) .leaf)) (.join Z2w (fun v=>Jm v.1 v.2.1 v.2.2.1 v.2.2.2.1) .leaf (.seq .leaf (.seq (.frz [(8,.u false)]) .leaf))))))))))))) ⟨lf,⟨lf,⟨lf,trivial⟩,lf⟩,⟨lf,⟨lf,trivial⟩,lf⟩,lf,⟨lf,⟨lf,trivial⟩,lf⟩,lf,lf,trivial,⟨lf,⟨lf,trivial⟩,lf⟩,⟨lf,⟨lf,trivial⟩,lf⟩,lf,(fun v=>by kernel_rfl),lf,trivial,lf⟩ (hk fun _=>by kernel_rfl)
abbrev Qd5:FnB:={f:=45,args:=[.sh (Zo),.sh (Zq)],res:= .shr [Zo,.int .i64],F:=fun xs=>Zbd xs.1 xs.2.1}
theorem Qbj:okB Qd5:=
 ofB [] (Za J6 (Za Wh (Za Qz (Za Zqx (Za Zgw (Za Xd (Za Zuf Zg))))))) (Zv Zge Zc) Tryz.func45 Tryz.call45 (.seq .leaf (.seq (.seq .leaf (.cond (.seq .leaf (.frz [(4,.u false)])) .leaf)) (.seq (.seq .leaf (.cond (.seq .leaf (.frz [(4,.u false)])) .leaf)) (.seq .leaf (.seq (.seq .leaf (.cond (.seq .leaf (.frz [(4,.u false)])) .leaf)) (.seq .leaf (.seq .leaf (.join Z5c (fun v=>Vc v.1 v.2.1 v.2.2.1) .leaf (.seq (.frz [(6,.u false),(8,.u false)]) .leaf))))))))) ⟨lf,⟨lf,⟨lf,trivial⟩,lf⟩,⟨lf,⟨lf,trivial⟩,lf⟩,lf,⟨lf,⟨lf,trivial⟩,lf⟩,lf,lf,lf,(fun v=>by kernel_rfl),trivial,lf⟩ (hk fun _=>by kernel_rfl)
abbrev Qek:FnE:={f:=101,args:=[Q1,.int .i64],res:=[Q1],F:=fun xs=>Zdm xs.1 xs.2.1}
theorem Zvr:okE Qek:=
 ofE (Za W4 (Za Q6 Zg)) Zc Tryz.func101 Tryz.call101 .leaf lf (hk fun _=>by kernel_rfl)
abbrev Qej:FnE:={f:=102,args:=[Zdg,.int .i64],res:=[Zdg],F:=fun xs=>Zdl xs.1 xs.2.1}
theorem Qbu:okE Qej:=
 ofE (Za Ztz Zg) Zc Tryz.func102 Tryz.call102 .leaf lf (hk fun _=>by kernel_rfl)
abbrev Qm4:FnE:={f:=103,args:=[Zo,Zq],res:=[Zo,.int .i64],F:=fun xs=>Zhv xs.1 xs.2.1}
theorem Qjv:okE Qm4:=
 ofE (Za Zqx (Za Zcv (Za Qz (Za Zgw (Za Xd (Za Zvr (Za Yw Zg))))))) Zc Tryz.func103 Tryz.call103 (.seq .leaf (.seq .leaf (.join Qcs (fun v=>Zaf v.1 v.2.1 v.2.2.1 v.2.2.2.1) .leaf (.seq .leaf (.seq .leaf (.seq .leaf (.join Qct (fun v=>Zez v.1 v.2.1) .leaf .leaf))))))) ⟨lf,lf,lf,(fun v=>by kernel_rfl),lf,lf,lf,lf,(fun v=>by kernel_rfl),lf⟩ (hk fun _=>by kernel_rfl)
abbrev Z95:FnE:={f:=46,args:=[Zo,Zq],res:=[Zo,.int .i64],F:=fun xs=>Zaa xs.1 xs.2.1}
theorem Z7z:okE Z95:=
 ofE (Za Qz (Za J6 (Za Wh (Za Zvr (Za Qbu (Za Qjv Zg)))))) Zc Tryz.func46 Tryz.call46 (.seq .leaf (.seq .leaf (.seq .leaf (.seq (.seq .leaf (.block (.seq .leaf (.cond .leaf (.seq .leaf (.cond (.join Z2t (fun v=>Za5 v.1 v.2.1) .leaf .leaf) (.join Z2u (fun v=>Jk v.1 v.2.1 v.2.2.1 v.2.2.2.1 v.2.2.2.2.1 v.2.2.2.2.2.1) .leaf (.cond .leaf (.join Z2v (fun v=>Jl v.1 v.2.1 v.2.2.1 v.2.2.2.1 v.2.2.2.2.1) .leaf .leaf))))))))) .leaf)))) ⟨lf,lf,lf,⟨lf,lf,lf,lf,⟨lf,(fun v=>by kernel_rfl),lf⟩,lf,(fun v=>by kernel_rfl),lf,lf,(fun v=>by kernel_rfl),lf⟩,lf⟩ (hk fun _=>by kernel_rfl)
abbrev Z94:FnB:={f:=14,args:=[.sh (Zo),.sh (Zq)],res:= .shr [Zo,.int .i64],F:=fun xs=>Jg xs.1 xs.2.1}
theorem Zn2:okB Z94:=
 ofB [] (Za Qz (Za Z7z Zg)) (Zv Qbi (Zv Z70 (Zv Qbj Zc))) Tryz.func14 Tryz.call14 (.seq .leaf (.seq .leaf (.seq .leaf (.join Z2s (fun v=>Jj v.1 v.2.1 v.2.2.1) .leaf .leaf)))) ⟨lf,lf,lf,lf,(fun v=>by kernel_rfl),lf⟩ (hk fun _=>by kernel_rfl)
abbrev Qmw:FnE:={f:=258,args:=[Zo,.int .i64],res:=[Y9,.bool],F:=fun xs=>Zon xs.1 xs.2.1}
theorem Zyt:okE Qmw:=
 ofE Zg Zc Tryz.func258 Tryz.call258 (.seq .leaf (.seq (.seq .leaf (.block (.loop Qco (fun N v=>Zjk N v.1 v.2.1 v.2.2.1 v.2.2.2.1) (fun v=>Zll v.1 v.2.1 v.2.2.1 v.2.2.2.1) (fun K1=> .leaf)))) .leaf)) ⟨lf,⟨lf,fun _=>rfl,fun N=>⟨(fun v=>by kernel_rfl),lf⟩⟩,lf⟩ (hk fun _=>by kernel_rfl)
abbrev Qqg:FnB:={f:=259,args:=[.bx 37 (Zo) (.u false),.sh (.int .i64)],res:= .vals [],F:=fun xs=>Zkl xs.1 xs.2.1}
theorem Z1r:okB Qqg:=
 ofB [0] Zg Zc Tryz.func259 Tryz.call259 (.seq .leaf (.seq (.seq .leaf (.block (.loop Qg4 (fun N v=>Vk N v.1 v.2.1 v.2.2.1 v.2.2.2.1) (fun v=>Zm4 v.1 v.2.1 v.2.2.1 v.2.2.2.1) (fun K1=>(.seq .leaf (.join Qg3 (fun v=>Zdu K1 v.1 v.2.1 v.2.2.1 v.2.2.2.1) .leaf .leaf)))))) .leaf)) ⟨lf,⟨lf,fun _=>rfl,fun N=>⟨(fun v=>by kernel_rfl),lf,lf,(fun v=>by kernel_rfl),lf⟩⟩,lf⟩ (hk fun _=>by kernel_rfl)
abbrev Qm8:FnE:={f:=311,args:=[Zq],res:=[Zcr],F:=fun xs=>Zx0 xs.1}
theorem Zyx:okE Qm8:=
 ofE Zg Zc Tryz.func311 Tryz.call311 .leaf lf (hk fun _=>by kernel_rfl)
abbrev Qh4:FnE:={f:=310,args:=[Z6,Zcr],res:=[Z6],F:=fun xs=>Zre xs.1 xs.2.1}
theorem Qfw:okE Qh4:=
 ofE (Za Zcw (Za Vm (Za Zt3 (Za Zt4 (Za Zmh (Za Zn3 (Za Zeo (Za Zoz Zg)))))))) Zc Tryz.func310 Tryz.call310 (.seq .leaf (.seq .leaf (.seq .leaf (.join Z8c (fun v=>Zg3 v.1 v.2.1 v.2.2.1 v.2.2.2.1) (.seq .leaf (.cond (.seq .leaf (.seq .leaf (.block (.loop Z8e (fun N v=>Zg5 N v.1 v.2.1 v.2.2.1 v.2.2.2.1 v.2.2.2.2.1 v.2.2.2.2.2.1) (fun v=>Zki v.1 v.2.1 v.2.2.1 v.2.2.2.1 v.2.2.2.2.1 v.2.2.2.2.2.1) (fun K1=> .leaf))))) .leaf)) (.join Z8d (fun v=>Zg4 v.1 v.2.1) .leaf .leaf))))) ⟨lf,lf,lf,⟨lf,⟨lf,lf,fun _=>rfl,fun N=>⟨(fun v=>by kernel_rfl),lf⟩⟩,lf⟩,(fun v=>by kernel_rfl),lf,(fun v=>by kernel_rfl),lf⟩ (hk fun _=>by kernel_rfl)
abbrev Qqh:FnB:={f:=260,args:=[.bx 37 (Zo) (.u false),.sh (Zq)],res:= .vals [],F:=fun xs=>Znr xs.1 xs.2.1}
theorem Qny:okB Qqh:=
 ofB [0] (Za Xd (Za Zlg (Za Zyx (Za Qfw (Za Yw Zg))))) Zc Tryz.func260 Tryz.call260 (.seq .leaf (.seq .leaf (.join Qg5 (fun v=>Zgo v.1 v.2.1 v.2.2.1 v.2.2.2.1) .leaf (.seq .leaf (.join Qg6 (fun v=>Vl v.1 v.2.1) .leaf .leaf))))) ⟨lf,lf,lf,(fun v=>by kernel_rfl),lf,lf,(fun v=>by kernel_rfl),lf⟩ (hk fun _=>by kernel_rfl)
abbrev Qed:FnB:={f:=207,args:=[.sh (Zo),.sh (.int .i64)],res:= .shr [Zo,.bool],F:=fun xs=>Zgj xs.1 xs.2.1}
theorem Qbp:okB Qed:=
 ofB [] (Za Qz (Za Zyt (Za Vi Zg))) (Zv Z1r (Zv Qny Zc)) Tryz.func207 Tryz.call207 (.seq .leaf (.seq .leaf (.seq .leaf (.seq (.seq .leaf (.cond (.seq .leaf (.frz [(4,.u false)])) .leaf)) (.seq (.frz [(6,.u false)]) (.seq (.seq .leaf (.block (.loop Z5h (fun N v=>Ws N v.1 v.2.1 v.2.2.1 v.2.2.2.1) (fun v=>Zjd v.1 v.2.1 v.2.2.1 v.2.2.2.1) (fun K1=> .leaf)))) .leaf)))))) ⟨lf,lf,lf,⟨lf,⟨lf,trivial⟩,lf⟩,trivial,⟨lf,fun _=>rfl,fun N=>⟨(fun v=>by kernel_rfl),lf⟩⟩,lf⟩ (hk fun _=>by kernel_rfl)
abbrev Qmh:FnE:={f:=344,args:=[Vx,.int .i64],res:=[Vx,.bool],F:=fun xs=>Zoj xs.1 xs.2.1}
theorem Qjk:okE Qmh:=
 ofE (Za Zvy (Za Zqz Zg)) Zc Tryz.func344 Tryz.call344 (.seq .leaf (.seq .leaf (.seq .leaf (.seq (.seq .leaf (.block (.loop Qcf (fun N v=>Zi7 N v.1 v.2.1 v.2.2.1 v.2.2.2.1 v.2.2.2.2.1) (fun v=>Zf0 v.1 v.2.1 v.2.2.1 v.2.2.2.1 v.2.2.2.2.1) (fun K1=> .leaf)))) .leaf)))) ⟨lf,lf,lf,⟨lf,fun _=>rfl,fun N=>⟨(fun v=>by kernel_rfl),lf⟩⟩,lf⟩ (hk fun _=>by kernel_rfl)
abbrev Qmd:FnE:={f:=312,args:=[Z6,Zcr],res:=[Z6],F:=fun xs=>Zsp xs.1 xs.2.1}
theorem Qjh:okE Qmd:=
 ofE (Za Zcw (Za Vm (Za Zt3 (Za Zt4 (Za Zmh (Za Zn3 (Za Zeo (Za Zyq (Za Qjk (Za Zoz Zg)))))))))) Zc Tryz.func312 Tryz.call312 (.seq .leaf (.seq .leaf (.seq .leaf (.join Qb8 (fun v=>Zi2 v.1 v.2.1 v.2.2.1 v.2.2.2.1) (.seq .leaf (.cond (.seq .leaf (.seq .leaf (.block (.loop Qcb (fun N v=>Zi4 N v.1 v.2.1 v.2.2.1 v.2.2.2.1 v.2.2.2.2.1 v.2.2.2.2.2.1) (fun v=>Zli v.1 v.2.1 v.2.2.1 v.2.2.2.1 v.2.2.2.2.1 v.2.2.2.2.2.1) (fun K1=> .leaf))))) .leaf)) (.join Qb9 (fun v=>Zi3 v.1 v.2.1 v.2.2.1) .leaf (.join Qca (fun v=>Znf v.1 v.2.1 v.2.2.1) .leaf .leaf)))))) ⟨lf,lf,lf,⟨lf,⟨lf,lf,fun _=>rfl,fun N=>⟨(fun v=>by kernel_rfl),lf⟩⟩,lf⟩,(fun v=>by kernel_rfl),lf,(fun v=>by kernel_rfl),lf,(fun v=>by kernel_rfl),lf⟩ (hk fun _=>by kernel_rfl)
abbrev Qme:FnE:={f:=313,args:=[Z6],res:=[Z6,.bool],F:=fun xs=>Zsq xs.1}
theorem Qji:okE Qme:=
 ofE (Za Zcw (Za Vm Zg)) Zc Tryz.func313 Tryz.call313 .leaf lf (hk fun _=>by kernel_rfl)
abbrev Qs9:FnB:={f:=261,args:=[.bx 37 (Zo) (.u false),.sh (Zq)],res:= .vals [],F:=fun xs=>Zp7 xs.1 xs.2.1}
theorem Qrm:okB Qs9:=
 ofB [0] (Za Xd (Za Zlg (Za Zyx (Za Qjh (Za Qji Zg))))) (Zv Zge Zc) Tryz.func261 Tryz.call261 (.seq .leaf (.join Qkj (fun v=>Zjt v.1 v.2.1 v.2.2.1 v.2.2.2.1) .leaf (.seq .leaf (.join Qkk (fun v=>Wa v.1 v.2.1) .leaf (.frz [(4,.u false)]))))) ⟨lf,lf,(fun v=>by kernel_rfl),lf,lf,(fun v=>by kernel_rfl),trivial⟩ (hk fun _=>by kernel_rfl)
abbrev Qh0:FnB:={f:=208,args:=[.sh (Zo),.sh (.int .i64)],res:= .shr [Zo,.bool],F:=fun xs=>Zi1 xs.1 xs.2.1}
theorem Qfu:okB Qh0:=
 ofB [] (Za Qz (Za Zyt (Za Vi Zg))) (Zv Z1r (Zv Qrm Zc)) Tryz.func208 Tryz.call208 (.seq .leaf (.seq .leaf (.seq .leaf (.seq (.seq .leaf (.cond (.seq .leaf (.frz [(4,.u false)])) .leaf)) (.seq (.frz [(6,.u false)]) (.seq (.seq .leaf (.block (.loop Z8b (fun N v=>Zat N v.1 v.2.1 v.2.2.1 v.2.2.2.1) (fun v=>Zke v.1 v.2.1 v.2.2.1 v.2.2.2.1) (fun K1=> .leaf)))) .leaf)))))) ⟨lf,lf,lf,⟨lf,⟨lf,trivial⟩,lf⟩,trivial,⟨lf,fun _=>rfl,fun N=>⟨(fun v=>by kernel_rfl),lf⟩⟩,lf⟩ (hk fun _=>by kernel_rfl)
abbrev Qqf:FnB:={f:=130,args:=[.bx 112 (V0) (.u false),.sh (Zo)],res:= .shr [Zo],F:=fun xs=>Znq xs.1 xs.2.1}
theorem Qnx:okB Qqf:=
 ofB [0] (Za Qbs (Za Z78 (Za Z4o (Za Z76 Zg)))) (Zv Yd (Zv Zq1 (Zv Zq3 (Zv Qbv (Zv Z75 (Zv Z4r (Zv Qbe (Zv Zt1 (Zv Zn2 (Zv Qbp (Zv Qfu Zc))))))))))) Tryz.func130 Tryz.call130 (.seq .leaf (.seq .leaf (.join Qg0 (fun v=>Zdr v.1 v.2.1 v.2.2.1 v.2.2.2.1) .leaf (.seq .leaf (.seq (.seq .leaf (.block (.seq .leaf (.cond .leaf (.join Qg1 (fun v=>Zds v.1 v.2.1 v.2.2.1 v.2.2.2.1 v.2.2.2.2.1 v.2.2.2.2.2.1 v.2.2.2.2.2.2.1) .leaf (.cond .leaf (.seq .leaf (.cond .leaf (.seq .leaf (.cond .leaf (.seq .leaf (.cond .leaf (.join Qg2 (fun v=>Zdt v.1 v.2.1 v.2.2.1 v.2.2.2.1 v.2.2.2.2.1 v.2.2.2.2.2.1) .leaf .leaf))))))))))))) (.seq .leaf (.frz [(4,.u false)]))))))) ⟨lf,lf,lf,(fun v=>by kernel_rfl),lf,⟨lf,lf,lf,lf,(fun v=>by kernel_rfl),lf,lf,lf,lf,lf,lf,lf,lf,(fun v=>by kernel_rfl),lf⟩,lf,trivial⟩ (hk fun _=>by kernel_rfl)
abbrev Qqc:FnB:={f:=64,args:=[.bx 112 (V0) (.u false)],res:= .shr [Zo],F:=fun xs=>Zno xs.1}
theorem Qnu:okB Qqc:=
 ofB [0] (Za Qnm Zg) (Zv Zq1 (Zv Qnp (Zv Yd (Zv Qnx Zc)))) Tryz.func64 Tryz.call64 (.seq .leaf (.seq .leaf (.seq (.seq .leaf (.block (.loop Qgv (fun N v=>Zdo N v.1 v.2.1 v.2.2.1 v.2.2.2.1) (fun v=>Zm0 v.1 v.2.1 v.2.2.1 v.2.2.2.1) (fun K1=>(.seq .leaf (.seq (.block (.frz [(3,.u false)])) .leaf)))))) .leaf))) ⟨lf,lf,⟨lf,fun _=>rfl,fun N=>⟨(fun v=>by kernel_rfl),lf,trivial,lf⟩⟩,lf⟩ (hk fun _=>by kernel_rfl)
abbrev Qs8:FnB:={f:=21,args:=[.bx 112 (V0) (.u false)],res:= .shr [Zo],F:=fun xs=>Zmz xs.1}
theorem Z4s:okB Qs8:=
 ofB [0] Zg (Zv Qnu (Zv Yd (Zv Zq2 Zc))) Tryz.func21 Tryz.call21 .leaf lf (hk fun _=>by kernel_rfl)
abbrev Qm9:FnB:={f:=68,args:=[.bx 112 (V0) (.u false)],res:= .vals [.slice 50 (Zq)],F:=fun xs=>Zsx xs.1}
theorem Qjx:okB Qm9:=
 ofB [0] Zg (Zv Yd (Zv Zt1 Zc)) Tryz.func68 Tryz.call68 (.seq .leaf (.seq .leaf (.seq (.seq .leaf (.block (.loop Qcu (fun N v=>Zjv N v.1 v.2.1 v.2.2.1) (fun v=>Zlo v.1 v.2.1 v.2.2.1) (fun K1=> .leaf)))) .leaf))) ⟨lf,lf,⟨lf,fun _=>rfl,fun N=>⟨(fun v=>by kernel_rfl),lf⟩⟩,lf⟩ (hk fun _=>by kernel_rfl)
abbrev Qs7:FnB:={f:=133,args:=[.bx 112 (V0) (.u false),.sh (.int .i64)],res:= .vals [.str],F:=fun xs=>Zxc xs.1 xs.2.1}
theorem Qrl:okB Qs7:=
 ofB [0] Zg (Zv Yd (Zv Zvs Zc)) Tryz.func133 Tryz.call133 (.seq .leaf (.seq .leaf (.seq .leaf (.seq (.seq .leaf (.block (.loop Qki (fun N v=>Zc6 N v.1 v.2.1 v.2.2.1 v.2.2.2.1) (fun v=>Zn7 v.1 v.2.1 v.2.2.1 v.2.2.2.1) (fun K1=>(.seq .leaf (.seq (.block (.seq .leaf (.join Qkg (fun v=>Zmx K1 v.1 v.2.1 v.2.2.1 v.2.2.2.1 v.2.2.2.2.1) .leaf (.join Qkh (fun v=>Zmy K1 v.1 v.2.1 v.2.2.1 v.2.2.2.1 v.2.2.2.2.1) .leaf .leaf)))) .leaf)))))) .leaf)))) ⟨lf,lf,lf,⟨lf,fun _=>rfl,fun N=>⟨(fun v=>by kernel_rfl),lf,⟨lf,lf,(fun v=>by kernel_rfl),lf,(fun v=>by kernel_rfl),lf⟩,lf⟩⟩,lf⟩ (hk fun _=>by kernel_rfl)
abbrev Qqb:FnB:={f:=69,args:=[.bx 112 (V0) (.u false),.sh (.str)],res:= .vals [.str],F:=fun xs=>Zuv xs.1 xs.2.1}
theorem Qnt:okB Qqb:=
 ofB [0] Zg (Zv Qrl (Zv Yd (Zv Zvs Zc))) Tryz.func69 Tryz.call69 .leaf lf (hk fun _=>by kernel_rfl)
abbrev Zxk:FnE:={f:=22,args:=[.slice 5 (.int .u8)],res:=[.str],F:=fun xs=>Zeb xs.1}
theorem Zv9:okE Zxk:=
 ofE (Za Zrw Zg) (Zv Zxv (Zv Qjx (Zv Yd (Zv Qnt (Zv Zq3 Zc))))) Tryz.func22 Tryz.call22 .leaf lf (hk fun _=>by kernel_rfl)
abbrev Zxl:FnB:={f:=5,args:=[.sh (.slice 5 (.int .u8))],res:= .shr [Zo,.str],F:=fun xs=>Zec xs.1}
theorem Zwa:okB Zxl:=
 ofB [] (Za Zv9 Zg) (Zv Zxv (Zv Z4s Zc)) Tryz.func5 Tryz.call5 .leaf lf (hk fun _=>by kernel_rfl)
abbrev Z81:FnE:={f:=77,args:=[.int .i64,.int .i64,.int .i64],res:=[.bool],F:=fun xs=>Zy xs.1 xs.2.1 xs.2.2.1}
theorem Qs:okE Z81:=
 ofE Zg Zc Tryz.func77 Tryz.call77 .leaf lf (hk fun _=>by kernel_rfl)
abbrev Qdv:FnE:={f:=135,args:=[.int .i64],res:=[.bool],F:=fun xs=>Zbb xs.1}
theorem Zpj:okE Qdv:=
 ofE (Za Qs Zg) Zc Tryz.func135 Tryz.call135 .leaf lf (hk fun _=>by kernel_rfl)
abbrev Qst:FnE:={f:=71,args:=[Zlp],res:=[.bool],F:=fun xs=>Zmd xs.1}
theorem Z4g:okE Qst:=
 ofE (Za Zpj (Za Qs Zg)) Zc Tryz.func71 Tryz.call71 .leaf lf (hk fun _=>by kernel_rfl)
abbrev Qsv:FnE:={f:=137,args:=[.int .i64],res:=[.bool],F:=fun xs=>Xj xs.1}
theorem Jc:okE Qsv:=
 ofE (Za Qs Zg) Zc Tryz.func137 Tryz.call137 .leaf lf (hk fun _=>by kernel_rfl)
abbrev Ql2:FnE:={f:=315,args:=[.int .i64],res:=[.bool],F:=fun xs=>Zxn xs.1}
theorem Qi7:okE Ql2:=
 ofE (Za Qs Zg) Zc Tryz.func315 Tryz.call315 .leaf lf (hk fun _=>by kernel_rfl)
abbrev Zld:FnE:={f:=345,args:=[.slice 3 (.int .i64),.fnc 315],res:=[.int .i64],F:=fun xs=>J8 xs.1}
theorem Zky:okE Zld:=
 ofE (Za Qi7 Zg) Zc Tryz.func345 Tryz.call345 (.seq .leaf (.seq (.seq .leaf (.block (.loop Zj1 (fun N v=>Xf N v.1 v.2.1 v.2.2.1 v.2.2.2.1) (fun v=>Xp v.1 v.2.1 v.2.2.1 v.2.2.2.1) (fun K1=> .leaf)))) .leaf)) ⟨lf,⟨lf,fun _=>rfl,fun N=>⟨(fun v=>by kernel_rfl),lf⟩⟩,lf⟩ (hk fun _=>by kernel_rfl)
abbrev Zj0:FnE:={f:=314,args:=[.slice 3 (.int .i64),.fnc 315],res:=[.bool],F:=fun xs=>Jd xs.1}
theorem Ziw:okE Zj0:=
 ofE (Za Zky Zg) Zc Tryz.func314 Tryz.call314 .leaf lf (hk fun _=>by kernel_rfl)
abbrev Qsu:FnE:={f:=264,args:=[Vx],res:=[.bool],F:=fun xs=>Zwr xs.1}
theorem Qre:okE Qsu:=
 ofE (Za Zpj (Za Ziw (Za Jc (Za Qs Zg)))) Zc Tryz.func264 Tryz.call264 .leaf lf (hk fun _=>by kernel_rfl)
abbrev Qpq:FnE:={f:=316,args:=[Zx],res:=[.bool],F:=fun xs=>Zul xs.1}
theorem Z1o:okE Qpq:=
 ofE Zg Zc Tryz.func316 Tryz.call316 .leaf lf (hk fun _=>by kernel_rfl)
abbrev Ql1:FnE:={f:=265,args:=[.slice 222 (Zx)],res:=[.bool],F:=fun xs=>Zcj xs.1}
theorem Zne:okE Ql1:=
 ofE (Za Z1o Zg) Zc Tryz.func265 Tryz.call265 (.seq .leaf (.seq (.seq .leaf (.block (.loop Qao (fun N v=>Zim N v.1 v.2.1 v.2.2.1 v.2.2.2.1) (fun v=>Zlf v.1 v.2.1 v.2.2.1 v.2.2.2.1) (fun K1=> .leaf)))) .leaf)) ⟨lf,⟨lf,fun _=>rfl,fun N=>⟨(fun v=>by kernel_rfl),lf⟩⟩,lf⟩ (hk fun _=>by kernel_rfl)
abbrev Z6t:FnE:={f:=317,args:=[.slice 222 (Zx)],res:=[.int .i64],F:=fun xs=>Zao xs.1}
theorem Z4e:okE Z6t:=
 ofE (Za Zne Zg) Zc Tryz.func317 Tryz.call317 (.seq .leaf (.seq .leaf (.seq .leaf (.seq (.seq .leaf (.block (.loop Z0d (fun N v=>Zcu N v.1 v.2.1 v.2.2.1 v.2.2.2.1) (fun v=>Zf9 v.1 v.2.1 v.2.2.1 v.2.2.2.1) (fun K1=> .leaf)))) .leaf)))) ⟨lf,lf,lf,⟨lf,fun _=>rfl,fun N=>⟨(fun v=>by kernel_rfl),lf⟩⟩,lf⟩ (hk fun _=>by kernel_rfl)
abbrev Qdr:FnE:={f:=271,args:=[.slice 222 (Zx)],res:=[.slice 222 (Zx)],F:=fun xs=>Wg xs.1}
theorem Zpi:okE Qdr:=
 ofE Zg Zc Tryz.func271 Tryz.call271 .leaf lf (hk fun _=>by kernel_rfl)
abbrev Qlx:FnE:={f:=318,args:=[.slice 222 (Zx),Zx],res:=[.slice 222 (Zx)],F:=fun xs=>Zsg xs.1 xs.2.1}
theorem Qi4:okE Qlx:=
 ofE (Za Zne (Za Z1o (Za Zpi Zg))) Zc Tryz.func318 Tryz.call318 (.seq .leaf (.seq .leaf (.seq .leaf (.seq (.seq .leaf (.block (.loop Qal (fun N v=>Ys N v.1 v.2.1 v.2.2.1 v.2.2.2.1 v.2.2.2.2.1 v.2.2.2.2.2.1) (fun v=>Zfw v.1 v.2.1 v.2.2.1 v.2.2.2.1 v.2.2.2.2.1 v.2.2.2.2.2.1) (fun K1=>(.seq .leaf (.seq .leaf (.seq (.block (.seq .leaf (.block (.seq .leaf (.cond .leaf (.seq .leaf (.cond (.join Qak (fun v=>Zij K1 v.1 v.2.1 v.2.2.1 v.2.2.2.1 v.2.2.2.2.1 v.2.2.2.2.2.1 v.2.2.2.2.2.2.1) .leaf .leaf) .leaf))))))) .leaf))))))) .leaf)))) ⟨lf,lf,lf,⟨lf,fun _=>rfl,fun N=>⟨(fun v=>by kernel_rfl),lf,lf,⟨lf,lf,lf,lf,⟨lf,(fun v=>by kernel_rfl),lf⟩,lf⟩,lf⟩⟩,lf⟩ (hk fun _=>by kernel_rfl)
abbrev Qdu:FnE:={f:=268,args:=[.slice 222 (Zx),.int .i64],res:=[.bool],F:=fun xs=>Zdj xs.1 xs.2.1}
theorem Zvn:okE Qdu:=
 ofE Zg Zc Tryz.func268 Tryz.call268 .leaf lf (hk fun _=>by kernel_rfl)
abbrev Ql8:FnE:={f:=266,args:=[.slice 222 (Zx),.slice 222 (Zx),.slice 222 (Zx),.int .i64],res:=[.bool],F:=fun xs=>Zsi xs.1 xs.2.1 xs.2.2.1 xs.2.2.2.1}
theorem Qjc:okE Ql8:=
 ofE (Za Z4e (Za Zpi (Za Qi4 (Za Zvn Zg)))) Zc Tryz.func266 Tryz.call266 (.seq .leaf (.seq .leaf (.seq .leaf (.seq (.seq .leaf (.block (.loop Qaq (fun N v=>Ziq N v.1 v.2.1 v.2.2.1 v.2.2.2.1 v.2.2.2.2.1) (fun v=>Zfy v.1 v.2.1 v.2.2.1 v.2.2.2.1 v.2.2.2.2.1) (fun K1=> .leaf)))) .leaf)))) ⟨lf,lf,lf,⟨lf,fun _=>rfl,fun N=>⟨(fun v=>by kernel_rfl),lf⟩⟩,lf⟩ (hk fun _=>by kernel_rfl)
abbrev Qly:FnE:={f:=267,args:=[.slice 222 (Zx),.int .i64],res:=[.int .i64],F:=fun xs=>Zsh xs.1 xs.2.1}
theorem Qi6:okE Qly:=
 ofE (Za Zne Zg) Zc Tryz.func267 Tryz.call267 (.seq .leaf (.seq .leaf (.seq (.seq .leaf (.block (.loop Qam (fun N v=>Zem N v.1 v.2.1 v.2.2.1 v.2.2.2.1) (fun v=>Zle v.1 v.2.1 v.2.2.1 v.2.2.2.1) (fun K1=> .leaf)))) .leaf))) ⟨lf,lf,⟨lf,fun _=>rfl,fun N=>⟨(fun v=>by kernel_rfl),lf⟩⟩,lf⟩ (hk fun _=>by kernel_rfl)
abbrev Qhz:FnE:={f:=269,args:=[Z6],res:=[.int .i64],F:=fun xs=>Zqt xs.1}
theorem Qfs:okE Qhz:=
 ofE Zg Zc Tryz.func269 Tryz.call269 .leaf lf (hk fun _=>by kernel_rfl)
abbrev Ql3:FnE:={f:=210,args:=[Z6],res:=[.bool],F:=fun xs=>Zoc xs.1}
theorem Zyn:okE Ql3:=
 ofE (Za Qre (Za Zne (Za Qs (Za Jc (Za Qjc (Za Qi6 (Za Zvn (Za Qfs Zg)))))))) Zc Tryz.func210 Tryz.call210 (.seq .leaf (.seq .leaf (.seq .leaf (.seq .leaf (.join Qap (fun v=>Zin v.1 v.2.1) .leaf .leaf))))) ⟨lf,lf,lf,lf,lf,(fun v=>by kernel_rfl),lf⟩ (hk fun _=>by kernel_rfl)
abbrev Ql0:FnE:={f:=73,args:=[Q1],res:=[.bool],F:=fun xs=>Zob xs.1}
theorem Zr2:okE Ql0:=
 ofE (Za Jc (Za Qs Zg)) Zc Tryz.func73 Tryz.call73 .leaf lf (hk fun _=>by kernel_rfl)
abbrev Zx5:FnE:={f:=185,args:=[Zig],res:=[.int .i64],F:=fun xs=>Zct xs.1}
theorem Zlv:okE Zx5:=
 ofE Zg Zc Tryz.func185 Tryz.call185 .leaf lf (hk fun _=>by kernel_rfl)
abbrev Z1j:FnE:={f:=182,args:=[Q2],res:=[.bool],F:=fun xs=>Zhm xs.1}
theorem Znd:okE Z1j:=
 ofE (Za Jc (Za Zlv Zg)) Zc Tryz.func182 Tryz.call182 (.seq .leaf (.seq .leaf (.seq .leaf (.seq (.seq .leaf (.block (.loop Qan (fun N v=>Zil N v.1 v.2.1 v.2.2.1 v.2.2.2.1) (fun v=>Zfx v.1 v.2.1 v.2.2.1 v.2.2.2.1) (fun K1=> .leaf)))) .leaf)))) ⟨lf,lf,lf,⟨lf,fun _=>rfl,fun N=>⟨(fun v=>by kernel_rfl),lf⟩⟩,lf⟩ (hk fun _=>by kernel_rfl)
abbrev Qvv:FnE:={f:=183,args:=[Q2],res:=[.int .i64],F:=fun xs=>Z0e xs.1}
theorem Qto:okE Qvv:=
 ofE (Za Znd (Za Zlv Zg)) Zc Tryz.func183 Tryz.call183 .leaf lf (hk fun _=>by kernel_rfl)
abbrev Qdp:FnE:={f:=189,args:=[Q2],res:=[.int .i64],F:=fun xs=>Zov xs.1}
theorem Qa9:okE Qdp:=
 ofE (Za Znd Zg) Zc Tryz.func189 Tryz.call189 .leaf lf (hk fun _=>by kernel_rfl)
abbrev Qmb:FnE:={f:=119,args:=[Q2],res:=[.int .i64],F:=fun xs=>Zof xs.1}
theorem Zyp:okE Qmb:=
 ofE (Za Qa9 Zg) Zc Tryz.func119 Tryz.call119 .leaf lf (hk fun _=>by kernel_rfl)
abbrev Qdk:FnE:={f:=115,args:=[Z8],res:=[.bool],F:=fun xs=>Zba xs.1}
theorem Zfb:okE Qdk:=
 ofE (Za Znd (Za Qto (Za Jc (Za Qs (Za Zyp Zg))))) Zc Tryz.func115 Tryz.call115 (.seq .leaf (.seq .leaf (.seq .leaf (.seq (.seq .leaf (.block (.seq .leaf (.cond .leaf (.seq .leaf (.cond .leaf (.seq .leaf (.cond .leaf (.seq .leaf (.cond .leaf (.join Z31 (fun v=>Wm v.1 v.2.1) .leaf .leaf))))))))))) .leaf)))) ⟨lf,lf,lf,⟨lf,lf,lf,lf,lf,lf,lf,lf,lf,lf,(fun v=>by kernel_rfl),lf⟩,lf⟩ (hk fun _=>by kernel_rfl)
abbrev Ql5:FnE:={f:=74,args:=[Yo],res:=[.bool],F:=fun xs=>Zhn xs.1}
theorem Ziv:okE Ql5:=
 ofE (Za Qs Zg) Zc Tryz.func74 Tryz.call74 .leaf lf (hk fun _=>by kernel_rfl)
abbrev Qdi:FnE:={f:=211,args:=[Y5],res:=[.bool],F:=fun xs=>Zts xs.1}
theorem Qa2:okE Qdi:=
 ofE (Za Qs Zg) Zc Tryz.func211 Tryz.call211 .leaf lf (hk fun _=>by kernel_rfl)
abbrev Ql4:FnE:={f:=136,args:=[Zw],res:=[.bool],F:=fun xs=>Zod xs.1}
theorem Zyo:okE Ql4:=
 ofE (Za Jc (Za Zyn (Za Zr2 (Za Zfb (Za Ziv (Za Qa2 Zg)))))) Zc Tryz.func136 Tryz.call136 .leaf lf (hk fun _=>by kernel_rfl)
abbrev Qdh:FnE:={f:=72,args:=[.slice 67 (Zw)],res:=[.bool],F:=fun xs=>Zdi xs.1}
theorem Zpg:okE Qdh:=
 ofE (Za Zyo Zg) Zc Tryz.func72 Tryz.call72 (.seq .leaf (.seq (.seq .leaf (.block (.loop Z3x (fun N v=>Wl N v.1 v.2.1 v.2.2.1 v.2.2.2.1) (fun v=>Zc9 v.1 v.2.1 v.2.2.1 v.2.2.2.1) (fun K1=> .leaf)))) .leaf)) ⟨lf,⟨lf,fun _=>rfl,fun N=>⟨(fun v=>by kernel_rfl),lf⟩⟩,lf⟩ (hk fun _=>by kernel_rfl)
abbrev Qpn:FnE:={f:=75,args:=[Zdg],res:=[.bool],F:=fun xs=>Zqm xs.1}
theorem Z1n:okE Qpn:=
 ofE (Za Qs Zg) Zc Tryz.func75 Tryz.call75 .leaf lf (hk fun _=>by kernel_rfl)
abbrev Qpm:FnE:={f:=76,args:=[Q1],res:=[.bool],F:=fun xs=>Zm9 xs.1}
theorem Ztx:okE Qpm:=
 ofE (Za Qs Zg) Zc Tryz.func76 Tryz.call76 .leaf lf (hk fun _=>by kernel_rfl)
abbrev Ql6:FnE:={f:=172,args:=[.int .i64],res:=[.str],F:=fun xs=>Zxo xs.1}
theorem Qi8:okE Ql6:=
 ofE Zg Zc Tryz.func172 Tryz.call172 .leaf lf (hk fun _=>by kernel_rfl)
abbrev Z3j:FnE:={f:=236,args:=[Zq],res:=[.bool],F:=fun xs=>Zu9 xs.1}
theorem Z19:okE Z3j:=
 ofE Zg Zc Tryz.func236 Tryz.call236 (.seq .leaf (.seq (.seq .leaf (.block (.join Zyc (fun v=>V2 v.1) .leaf .leaf))) .leaf)) ⟨lf,⟨lf,lf,(fun v=>by kernel_rfl),lf⟩,lf⟩ (hk fun _=>by kernel_rfl)
abbrev Qxt:FnE:={f:=173,args:=[Zq],res:=[Zq],F:=fun xs=>Qit xs.1}
theorem Qwu:okE Qxt:=
 ofE (Za Z19 Zg) Zc Tryz.func173 Tryz.call173 (.seq .leaf (.seq .leaf (.join Qq0 (fun v=>Z0h v.1 v.2.1 v.2.2.1) .leaf (.seq (.seq .leaf (.block (.seq .leaf (.cond .leaf (.seq .leaf (.cond .leaf (.seq .leaf (.cond .leaf (.join Qq1 (fun v=>Z0i v.1 v.2.1 v.2.2.1 v.2.2.2.1) .leaf .leaf))))))))) .leaf)))) ⟨lf,lf,lf,(fun v=>by kernel_rfl),⟨lf,lf,lf,lf,lf,lf,lf,lf,(fun v=>by kernel_rfl),lf⟩,lf⟩ (hk fun _=>by kernel_rfl)
abbrev Zan:FnE:={f:=106,args:=[Zq],res:=[.bool],F:=fun xs=>We xs.1}
theorem Zgd:okE Zan:=
 ofE (Za Qi8 (Za Qwu (Za Jc Zg))) Zc Tryz.func106 Tryz.call106 .leaf lf (hk fun _=>by kernel_rfl)
abbrev Z6v:FnE:={f:=139,args:=[Zq],res:=[.bool],F:=fun xs=>Zqs xs.1}
theorem Z4i:okE Z6v:=
 ofE (Za Zgd Zg) Zc Tryz.func139 Tryz.call139 .leaf lf (hk fun _=>by kernel_rfl)
abbrev Zb6:FnE:={f:=212,args:=[.slice 50 (Zq),.fnc 139],res:=[.int .i64],F:=fun xs=>Xr xs.1}
theorem Zbr:okE Zb6:=
 ofE (Za Z4i Zg) Zc Tryz.func212 Tryz.call212 (.seq .leaf (.seq (.seq .leaf (.block (.loop Za9 (fun N v=>Qe N v.1 v.2.1 v.2.2.1 v.2.2.2.1) (fun v=>Xa v.1 v.2.1 v.2.2.1 v.2.2.2.1) (fun K1=> .leaf)))) .leaf)) ⟨lf,⟨lf,fun _=>rfl,fun N=>⟨(fun v=>by kernel_rfl),lf⟩⟩,lf⟩ (hk fun _=>by kernel_rfl)
abbrev Za7:FnE:={f:=138,args:=[.slice 50 (Zq),.fnc 139],res:=[.bool],F:=fun xs=>Qu xs.1}
theorem Zar:okE Za7:=
 ofE (Za Zbr Zg) Zc Tryz.func138 Tryz.call138 .leaf lf (hk fun _=>by kernel_rfl)
abbrev Qdq:FnE:={f:=78,args:=[.slice 88 (Y9),.int .i64],res:=[.bool],F:=fun xs=>Ztv xs.1 xs.2.1}
theorem Qba:okE Qdq:=
 ofE (Za Qs (Za Zar Zg)) Zc Tryz.func78 Tryz.call78 (.seq .leaf (.seq (.seq .leaf (.block (.loop Z34 (fun N v=>Ze7 N v.1 v.2.1 v.2.2.1 v.2.2.2.1 v.2.2.2.2.1) (fun v=>Zip v.1 v.2.1 v.2.2.1 v.2.2.2.1 v.2.2.2.2.1) (fun K1=> .leaf)))) .leaf)) ⟨lf,⟨lf,fun _=>rfl,fun N=>⟨(fun v=>by kernel_rfl),lf⟩⟩,lf⟩ (hk fun _=>by kernel_rfl)
abbrev Z9s:FnE:={f:=141,args:=[Zw],res:=[.int .i64],F:=fun xs=>Zyg xs.1}
theorem Z7q:okE Z9s:=
 ofE Zg Zc Tryz.func141 Tryz.call141 .leaf lf (hk fun _=>by kernel_rfl)
abbrev Zs3:FnE:={f:=140,args:=[.slice 67 (Zw),.fnc 141],res:=[.int .i64],F:=fun xs=>Zea xs.1}
theorem Zr4:okE Zs3:=
 ofE (Za Zpg (Za Z7q Zg)) Zc Tryz.func140 Tryz.call140 (.seq .leaf (.seq .leaf (.seq .leaf (.seq (.seq .leaf (.block (.loop Zqv (fun N v=>Ko N v.1 v.2.1 v.2.2.1 v.2.2.2.1 v.2.2.2.2.1) (fun v=>X9 v.1 v.2.1 v.2.2.1 v.2.2.2.1 v.2.2.2.2.1) (fun K1=> .leaf)))) .leaf)))) ⟨lf,lf,lf,⟨lf,fun _=>rfl,fun N=>⟨(fun v=>by kernel_rfl),lf⟩⟩,lf⟩ (hk fun _=>by kernel_rfl)
abbrev Qhy:FnE:={f:=79,args:=[.slice 67 (Zw)],res:=[.int .i64],F:=fun xs=>Zqr xs.1}
theorem Qfr:okE Qhy:=
 ofE (Za Zr4 Zg) Zc Tryz.func79 Tryz.call79 .leaf lf (hk fun _=>by kernel_rfl)
abbrev Z9r:FnE:={f:=142,args:=[Zw],res:=[.int .i64],F:=fun xs=>Zyf xs.1}
theorem Z7p:okE Z9r:=
 ofE Zg Zc Tryz.func142 Tryz.call142 .leaf lf (hk fun _=>by kernel_rfl)
abbrev Zs2:FnE:={f:=140,args:=[.slice 67 (Zw),.fnc 142],res:=[.int .i64],F:=fun xs=>Zd9 xs.1}
theorem Zr3:okE Zs2:=
 ofE (Za Zpg (Za Z7p Zg)) Zc Tryz.func140 Tryz.call140 (.seq .leaf (.seq .leaf (.seq .leaf (.seq (.seq .leaf (.block (.loop Zqu (fun N v=>Kn N v.1 v.2.1 v.2.2.1 v.2.2.2.1 v.2.2.2.2.1) (fun v=>V5 v.1 v.2.1 v.2.2.1 v.2.2.2.1 v.2.2.2.2.1) (fun K1=> .leaf)))) .leaf)))) ⟨lf,lf,lf,⟨lf,fun _=>rfl,fun N=>⟨(fun v=>by kernel_rfl),lf⟩⟩,lf⟩ (hk fun _=>by kernel_rfl)
abbrev Qhx:FnE:={f:=80,args:=[.slice 67 (Zw)],res:=[.int .i64],F:=fun xs=>Zqq xs.1}
theorem Qfq:okE Qhx:=
 ofE (Za Zr3 Zg) Zc Tryz.func80 Tryz.call80 .leaf lf (hk fun _=>by kernel_rfl)
abbrev Zci:FnE:={f:=23,args:=[Zo],res:=[.bool],F:=fun xs=>Zj2 xs.1}
theorem Zmf:okE Zci:=
 ofE (Za Z4g (Za Zpg (Za Zr2 (Za Ziv (Za Z1n (Za Ztx (Za Qs (Za Qba (Za Qfr (Za Qfq Zg)))))))))) Zc Tryz.func23 Tryz.call23 .leaf lf (hk fun _=>by kernel_rfl)
abbrev Qlz:FnE:={f:=12,args:=[Zo],res:=[.bool],F:=fun xs=>Zoa xs.1}
theorem Zym:okE Qlz:=
 ofE Zg Zc Tryz.func12 Tryz.call12 .leaf lf (hk fun _=>by kernel_rfl)
abbrev Ql9:FnE:={f:=270,args:=[Vx],res:=[Vx],F:=fun xs=>Zxp xs.1}
theorem Qjd:okE Ql9:=
 ofE Zg Zc Tryz.func270 Tryz.call270 .leaf lf (hk fun _=>by kernel_rfl)
abbrev Qds:FnE:={f:=213,args:=[Z6],res:=[Z6],F:=fun xs=>Zku xs.1}
theorem Zvl:okE Qds:=
 ofE (Za Qjd (Za Zpi Zg)) Zc Tryz.func213 Tryz.call213 .leaf lf (hk fun _=>by kernel_rfl)
abbrev Zwk:FnE:={f:=181,args:=[Q2],res:=[Q2],F:=fun xs=>Zgb xs.1}
theorem Zvk:okE Zwk:=
 ofE Zg Zc Tryz.func181 Tryz.call181 .leaf lf (hk fun _=>by kernel_rfl)
abbrev Z6w:FnE:={f:=114,args:=[Z8],res:=[Z8],F:=fun xs=>Zap xs.1}
theorem Zmg:okE Z6w:=
 ofE (Za Zvk Zg) Zc Tryz.func114 Tryz.call114 .leaf lf (hk fun _=>by kernel_rfl)
abbrev Qdt:FnE:={f:=143,args:=[Zw],res:=[Zw],F:=fun xs=>Zgc xs.1}
theorem Zvm:okE Qdt:=
 ofE (Za Zvl (Za Zmg Zg)) Zc Tryz.func143 Tryz.call143 .leaf lf (hk fun _=>by kernel_rfl)
abbrev Z9v:FnE:={f:=81,args:=[.slice 67 (Zw)],res:=[.slice 67 (Zw)],F:=fun xs=>W3 xs.1}
theorem Zuc:okE Z9v:=
 ofE (Za Zvm Zg) Zc Tryz.func81 Tryz.call81 (.seq .leaf (.seq .leaf (.seq (.seq .leaf (.block (.loop Z15 (fun N v=>Zd1 N v.1 v.2.1 v.2.2.1 v.2.2.2.1) (fun v=>Jf v.1 v.2.1 v.2.2.1 v.2.2.2.1) (fun K1=> .leaf)))) .leaf))) ⟨lf,lf,⟨lf,fun _=>rfl,fun N=>⟨(fun v=>by kernel_rfl),lf⟩⟩,lf⟩ (hk fun _=>by kernel_rfl)
abbrev Z9u:FnE:={f:=82,args:=[.slice 88 (Y9)],res:=[.slice 88 (Y9)],F:=fun xs=>Zr0 xs.1}
theorem Z7r:okE Z9u:=
 ofE Zg Zc Tryz.func82 Tryz.call82 (.seq .leaf (.seq .leaf (.seq (.seq .leaf (.block (.loop Z14 (fun N v=>Zd0 N v.1 v.2.1 v.2.2.1 v.2.2.2.1) (fun v=>Zcl v.1 v.2.1 v.2.2.1 v.2.2.2.1) (fun K1=> .leaf)))) .leaf))) ⟨lf,lf,⟨lf,fun _=>rfl,fun N=>⟨(fun v=>by kernel_rfl),lf⟩⟩,lf⟩ (hk fun _=>by kernel_rfl)
abbrev Wd:FnE:={f:=24,args:=[Zo],res:=[Zo],F:=fun xs=>Qi xs.1}
theorem Zen:okE Wd:=
 ofE (Za Zuc (Za Z7r Zg)) Zc Tryz.func24 Tryz.call24 .leaf lf (hk fun _=>by kernel_rfl)
abbrev Zqf:FnE:={f:=272,args:=[.str,.int .i64],res:=[.int .i64,.int .i64,.bool],F:=fun xs=>Xe xs.1 xs.2.1}
theorem Qaz:okE Zqf:=
 ofE (Za Qs Zg) Zc Tryz.func272 Tryz.call272 (.seq .leaf (.seq .leaf (.seq .leaf (.seq .leaf (.seq .leaf (.seq (.seq .leaf (.block (.loop Z3y (fun N v=>Ze3 N v.1 v.2.1 v.2.2.1 v.2.2.2.1 v.2.2.2.2.1) (fun v=>Zpz v.1 v.2.1 v.2.2.1 v.2.2.2.1 v.2.2.2.2.1) (fun K1=> .leaf)))) .leaf)))))) ⟨lf,lf,lf,lf,lf,⟨lf,fun _=>rfl,fun N=>⟨(fun v=>by kernel_rfl),lf⟩⟩,lf⟩ (hk fun _=>by kernel_rfl)
abbrev Qpr:FnE:={f:=215,args:=[.bool],res:=[.int .i64],F:=fun xs=>Qqz xs.1}
theorem Qys:okE Qpr:=
 ofE Zg Zc Tryz.func215 Tryz.call215 .leaf lf (hk fun _=>by kernel_rfl)
abbrev Zr6:Zro:={f:=214,n:=34,np:=3,rv:=Tryz.f214.results.toList,run:=fun ln _ k s=>J4 (Zgq [] ln [Zqf] [] [] []) 34 (Wj Tryz.f214) .leaf k s}
theorem Zwu:V4 Tryz.prog glob Zr6:=V4.of (C:=Zgq [] [] [Zqf] [] [] []) (fun ln=>Wc (ln:=ln) Jb rfl (Za Qaz Zg) Kl Zc Km) Tryz.func214 rfl Tryz.call214 (by decide) rfl rfl (fun _ _ _=>rfl)
abbrev Zqj:FnE:={f:=216,args:=[.str,.int .i64,.int .i64],res:=[Zq,.int .i64,.bool],F:=fun xs=>Zkv xs.1 xs.2.1 xs.2.2.1}
theorem Qbb:Zqc Tryz.prog glob Zqj:=by
 refine Zqc.of (e:=Zqj) (C:=Zgq [Zr6] [] [] [] [] []) (Wc (Xh Zwu Jb) rfl Zg Kl Zc Km) rfl Tryz.func216 (c:=Wj Tryz.f216) rfl Tryz.call216 (by decide)
  ((.seq .leaf (.seq .leaf (.seq .leaf (.join Z35 (fun v=>Kz v.1 v.2.1 v.2.2.1 v.2.2.2.1 v.2.2.2.2.1 v.2.2.2.2.2.1 v.2.2.2.2.2.2.1) .leaf (.seq .leaf (.seq .leaf (.join Z36 (fun v=>J5 v.1 v.2.1 v.2.2.1 v.2.2.2.1 v.2.2.2.2.1 v.2.2.2.2.2.1) .leaf .leaf)))))))) ?_ ?_
 ·exact⟨lf,⟨lf,⟨lf,⟨lf,(fun v=>by kernel_rfl),⟨lf,⟨lf,⟨lf,(fun v=>by kernel_rfl),lf⟩⟩⟩⟩⟩⟩⟩
 ·intro xs r h;refine Eq.trans (Eq.symm ?_) h;kernel_rfl
abbrev Zx6:FnE:={f:=144,args:=[.str,.int .i64],res:=[Zq,.int .i64,.bool],F:=fun xs=>Zva xs.1 xs.2.1}
theorem Qft:Zqc Tryz.prog glob Zx6:=by
 refine Zqc.of (e:=Zx6) (C:=Zgq [Zr6] [] [Z81,Qpr,Zqj] [] [] []) (Wc (Xh Zwu Jb) rfl (Za Qs (Za Qys (Za Qbb Zg))) Kl Zc Km) rfl Tryz.func144 (c:=Wj Tryz.f144) rfl Tryz.call144 (by decide)
  ((.seq .leaf (.seq .leaf (.seq .leaf (.seq .leaf (.seq .leaf (.join Z7a (fun v=>Qt v.1 v.2.1 v.2.2.1 v.2.2.2.1) (.seq .leaf (.block (.seq .leaf (.cond .leaf (.seq .leaf (.cond .leaf (.join Z7b (fun v=>Zgu v.1 v.2.1 v.2.2.1 v.2.2.2.1 v.2.2.2.2.1 v.2.2.2.2.2.1 v.2.2.2.2.2.2.1 v.2.2.2.2.2.2.2.1 v.2.2.2.2.2.2.2.2.1) .leaf (.cond .leaf (.join Z7c (fun v=>Zgv v.1 v.2.1 v.2.2.1 v.2.2.2.1 v.2.2.2.2.1 v.2.2.2.2.2.1 v.2.2.2.2.2.2.1 v.2.2.2.2.2.2.2.1 v.2.2.2.2.2.2.2.2.1) .leaf (.cond .leaf (.join Z7d (fun v=>Zaq v.1 v.2.1 v.2.2.1 v.2.2.2.1 v.2.2.2.2.1 v.2.2.2.2.2.1 v.2.2.2.2.2.2.1 v.2.2.2.2.2.2.2.1) .leaf .leaf))))))))))) .leaf))))))) ?_ ?_
 ·exact⟨lf,⟨lf,⟨lf,⟨lf,⟨lf,⟨⟨lf,⟨lf,⟨lf,⟨lf,⟨lf,⟨lf,(fun v=>by kernel_rfl),⟨lf,⟨lf,(fun v=>by kernel_rfl),⟨lf,⟨lf,(fun v=>by kernel_rfl),lf⟩⟩⟩⟩⟩⟩⟩⟩⟩⟩,(fun v=>by kernel_rfl),lf⟩⟩⟩⟩⟩⟩
 ·intro xs r h;refine Eq.trans (Eq.symm ?_) h;kernel_rfl
abbrev Z9n:FnE:={f:=83,args:=[.str,.int .i64],res:=[Zq,.int .i64,.bool],F:=fun xs=>Zm5 xs.1 xs.2.1}
theorem Z7h:okE Z9n:=
 ofE (Za Qft (Za Zgd Zg)) Zc Tryz.func83 Tryz.call83 .leaf lf (hk fun _=>by kernel_rfl)
abbrev Z3h:FnE:={f:=25,args:=[.str],res:=[.slice 50 (Zq),.bool],F:=fun xs=>Zpe xs.1}
theorem Z18:okE Z3h:=
 ofE (Za Z7h (Za Qs Zg)) Zc Tryz.func25 Tryz.call25 (.seq .leaf (.seq .leaf (.seq (.seq .leaf (.block (.loop Zya (fun N v=>V1 N v.1 v.2.1 v.2.2.1) (fun v=>Zmb v.1 v.2.1 v.2.2.1) (fun K1=> .leaf)))) .leaf))) ⟨lf,lf,⟨lf,fun _=>rfl,fun N=>⟨(fun v=>by kernel_rfl),lf⟩⟩,lf⟩ (hk fun _=>by kernel_rfl)
abbrev Qhr:FnE:={f:=26,args:=[Zo,.int .i64],res:=[Zo],F:=fun xs=>Zma xs.1 xs.2.1}
theorem Qfj:okE Qhr:=
 ofE (Za Zen (Za Qs Zg)) Zc Tryz.func26 Tryz.call26 .leaf lf (hk fun _=>by kernel_rfl)
abbrev Qdo:FnE:={f:=108,args:=[.int .i64],res:=[.bool],F:=fun xs=>Wf xs.1}
theorem Wn:okE Qdo:=
 ofE (Za Jc Zg) Zc Tryz.func108 Tryz.call108 .leaf lf (hk fun _=>by kernel_rfl)
abbrev Qpo:FnE:={f:=109,args:=[.int .i64],res:=[.bool],F:=fun xs=>Zqn xs.1}
theorem Zty:okE Qpo:=
 ofE (Za Wn Zg) Zc Tryz.func109 Tryz.call109 .leaf lf (hk fun _=>by kernel_rfl)
abbrev Qdn:FnE:={f:=178,args:=[.int .i64],res:=[.bool],F:=fun xs=>Z1l xs.1}
theorem Qa6:okE Qdn:=
 ofE (Za Wn Zg) Zc Tryz.func178 Tryz.call178 .leaf lf (hk fun _=>by kernel_rfl)
abbrev Zz3:FnE:={f:=110,args:=[.bool,.int .i64],res:=[.bool],F:=fun xs=>Ze5 xs.1 xs.2.1}
theorem Zsk:okE Zz3:=
 ofE (Za Wn (Za Qa6 Zg)) Zc Tryz.func110 Tryz.call110 .leaf lf (hk fun _=>by kernel_rfl)
abbrev Zdv:FnE:={f:=51,args:=[.bool,.int .i64],res:=[.bool],F:=fun xs=>Zda xs.1 xs.2.1}
theorem Zme:okE Zdv:=
 ofE (Za Wn (Za Zty (Za Zsk Zg))) Zc Tryz.func51 Tryz.call51 .leaf lf (hk fun _=>by kernel_rfl)
abbrev Z6u:FnE:={f:=180,args:=[Zw,.sptr 3 (.int .i64)],res:=[.bool],F:=fun xs=>Zwq xs.1 xs.2.1}
theorem Z4f:okE Z6u:=
 ofE Zg Zc Tryz.func180 Tryz.call180 .leaf lf (hk fun _=>by kernel_rfl)
abbrev Zbi:FnE:={f:=179,args:=[.slice 67 (Zw),.clo 180 (.pair (.sptr 3 (.int .i64)) (.unit))],res:=[.int .i64],F:=fun xs=>Xm xs.1 xs.2.1}
theorem Za8:okE Zbi:=
 ofE (Za Z4f Zg) Zc Tryz.func179 Tryz.call179 (.seq .leaf (.seq (.seq .leaf (.block (.loop Zak (fun N v=>Qa N v.1 v.2.1 v.2.2.1 v.2.2.2.1) (fun v=>Q3 v.1 v.2.1 v.2.2.1 v.2.2.2.1) (fun K1=> .leaf)))) .leaf)) ⟨lf,⟨lf,fun _=>rfl,fun N=>⟨(fun v=>by kernel_rfl),lf⟩⟩,lf⟩ (hk fun _=>by kernel_rfl)
abbrev Zqg:FnE:={f:=111,args:=[.slice 67 (Zw),.int .i64],res:=[.int .i64],F:=fun xs=>Xt xs.1 xs.2.1}
theorem Zph:okE Zqg:=
 ofE (Za Za8 Zg) Zc Tryz.func111 Tryz.call111 .leaf lf (hk fun _=>by kernel_rfl)
abbrev Zl6:FnB:={f:=123,args:=[.bx 37 (Zo) (.u true),.sh (.int .i64)],res:= .fp (Zo) 0 [9] [8],F:=fun xs=>Z3 xs.1 xs.2.1}
theorem Zrt:okB Zl6:=
 ofB [0] (Za Zty Zg) Zc Tryz.func123 Tryz.call123 .leaf lf (hk fun _=>by kernel_rfl)
abbrev Qpl:FnE:={f:=175,args:=[.int .i64],res:=[.int .i64],F:=fun xs=>Zd8 xs.1}
theorem Qni:okE Qpl:=
 ofE (Za Wn Zg) Zc Tryz.func175 Tryz.call175 .leaf lf (hk fun _=>by kernel_rfl)
abbrev Ql7:FnE:={f:=174,args:=[Q1,.int .i64],res:=[Q1,.int .i64,.bool],F:=fun xs=>Zck xs.1 xs.2.1}
theorem Qjb:okE Ql7:=
 ofE (Za Ztx (Za Qs Zg)) Zc Tryz.func174 Tryz.call174 .leaf lf (hk fun _=>by kernel_rfl)
abbrev Z9p:FnE:={f:=237,args:=[],res:=[Z8],F:=fun xs=>Zyd}
theorem Z7l:okE Z9p:=
 ofE Zg Zc Tryz.func237 Tryz.call237 .leaf lf (hk fun _=>by kernel_rfl)
abbrev Zz2:FnE:={f:=238,args:=[],res:=[Y5],F:=fun xs=>Zs7}
theorem Zyl:okE Zz2:=
 ofE Zg Zc Tryz.func238 Tryz.call238 .leaf lf (hk fun _=>by kernel_rfl)
abbrev Zih:FnE:={f:=149,args:=[.bool,.int .i64],res:=[.bool],F:=fun xs=>Zl9 xs.1 xs.2.1}
theorem Zqw:okE Zih:=
 ofE (Za Wn (Za Zty (Za Zsk Zg))) Zc Tryz.func149 Tryz.call149 .leaf lf (hk fun _=>by kernel_rfl)
abbrev Qpp:FnE:={f:=280,args:=[.int .i64],res:=[Vx,.bool],F:=fun xs=>Z0g xs.1}
theorem Qnk:okE Qpp:=
 ofE (Za Zpj Zg) Zc Tryz.func280 Tryz.call280 .leaf lf (hk fun _=>by kernel_rfl)
abbrev Qht:FnE:={f:=239,args:=[.int .i64],res:=[Z6,.bool],F:=fun xs=>Zqo xs.1}
theorem Qfl:okE Qht:=
 ofE (Za Qnk Zg) Zc Tryz.func239 Tryz.call239 .leaf lf (hk fun _=>by kernel_rfl)
abbrev Qhs:FnE:={f:=240,args:=[.int .i64],res:=[Q1,.bool],F:=fun xs=>Z32 xs.1}
theorem Qfk:okE Qhs:=
 ofE (Za Jc Zg) Zc Tryz.func240 Tryz.call240 .leaf lf (hk fun _=>by kernel_rfl)
abbrev Qhv:FnE:={f:=241,args:=[.int .i64,.int .i64],res:=[Yo,.bool],F:=fun xs=>Z33 xs.1 xs.2.1}
theorem Qfn:okE Qhv:=
 ofE (Za Qs Zg) Zc Tryz.func241 Tryz.call241 .leaf lf (hk fun _=>by kernel_rfl)
abbrev Qhu:FnE:={f:=176,args:=[.bool,.int .i64,Zlp,Zlp],res:=[Zw,.bool],F:=fun xs=>Zqp xs.1 xs.2.1 xs.2.2.1 xs.2.2.2.1}
theorem Qfm:okE Qhu:=
 ofE (Za Wn (Za Z4g (Za Z7l (Za Zyl (Za Zqw (Za Zme (Za Qfl (Za Qfk (Za Qfn Zg))))))))) Zc Tryz.func176 Tryz.call176 .leaf lf (hk fun _=>by kernel_rfl)
abbrev Z9q:FnE:={f:=242,args:=[Zw,.sptr 67 (Zw)],res:=[.bool],F:=fun xs=>Zye xs.1 xs.2.1}
theorem Z7m:okE Z9q:=
 ofE Zg Zc Tryz.func242 Tryz.call242 .leaf lf (hk fun _=>by kernel_rfl)
abbrev Zbo:FnE:={f:=179,args:=[.slice 67 (Zw),.clo 242 (.pair (.sptr 67 (Zw)) (.unit))],res:=[.int .i64],F:=fun xs=>Qx xs.1 xs.2.1}
theorem Zbj:okE Zbo:=
 ofE (Za Z7m Zg) Zc Tryz.func179 Tryz.call179 (.seq .leaf (.seq (.seq .leaf (.block (.loop Zas (fun N v=>Qc N v.1 v.2.1 v.2.2.1 v.2.2.2.1) (fun v=>Q7 v.1 v.2.1 v.2.2.1 v.2.2.2.1) (fun K1=> .leaf)))) .leaf)) ⟨lf,⟨lf,fun _=>rfl,fun N=>⟨(fun v=>by kernel_rfl),lf⟩⟩,lf⟩ (hk fun _=>by kernel_rfl)
set_option maxHeartbeats 4000000 in
theorem Q4e(k:Nat)(hk:0<k)(zE: ∀w,(Go.sizeOf 67).run Tryz.prog w= .ok k w)(b n c i vb m vc:Nat)(cur vcur:Array Value)(t:TypeId)(w:World)(hi:i<n)(hm:0<m)(hroom:n+m<=c)(hc:c<=maxLen)(hvb:vb≠b)
  (hb:w.heap[b]? =some (.cells cur 67 (0,0))) (hcs:cur.size=c*k) (hv:w.heap[vb]? =some (.cells vcur t (0,0))) (hvs:m*k<=vcur.size)
  (h1: ∀u∈cur.toList.take (n*k),u.oneCell'=true) (h1v: ∀u∈vcur.toList.take (m*k),u.oneCell'=true):
  Calls Tryz.prog 243 #[.slice (some ⟨b,0,none⟩) n c,.int .i64 i,.slice (some ⟨vb,0,none⟩) m vc] w fun e w'=>
   e= .returned (.slice (some ⟨b,0,none⟩) (n+m) c)/\ ∃R1 R2:Array Value,w'=(w.drew.setRow b R1).setRow b R2/\R2.size=cur.size/\
    R2.toList.take ((n+m)*k)=cur.toList.take (i*k)++vcur.toList.take (m*k)++ (cur.toList.take (n*k)).drop (i*k):=by
 have hz1: ¬((m:Int)=0):=by omega
 have hz2: ¬((i:Int)=(n:Int)):=by omega
 have h63:c<=9223372036854775807:=by unfold maxLen at hc;omega
 have hw1:IntKind.i64.wrap ((i:Int)+ (m:Int))=(i:Int)+ (m:Int):=by rw[IntKind.wrap_i64];omega
 have hw2:IntKind.i64.wrap ((n:Int)+ (m:Int))=(n:Int)+ (m:Int):=by rw[IntKind.wrap_i64];omega
 have hb1: (0:Int)<=(i:Int)+ (m:Int):=by omega
 have hin:i<=n:=by omega
 have htn: ((i:Int)+ (m:Int)).toNat=i+m:=by omega
 have hb2: ¬(c=i+m):=by omega
 have hb3: (i:Int)<=(n:Int)+ (m:Int):=by omega
 have hb4: ¬(c=i):=by omega
 have hov: ∀lb cb,(callFunc 281 #[.slice (some ⟨vb,0,none⟩) m vc,.slice (some ⟨b,(i+m)*k,none⟩) lb cb]).run Tryz.prog w= .ok (.value (.bool false)) w:=fun lb cb=>by
  rw[run_callFunc_extern Tryz.func281 (by kernel_rfl) (by kernel_rfl) (by kernel_rfl) (e:=Extern.SlicesOverlaps.overlaps #[26,26] #[4]) (by kernel_rfl),
   Lib.run_overlaps_apart w 26 4 67 (by kernel_rfl) k zE ⟨vb,0,none⟩ ⟨b,(i+m)*k,none⟩ m vc lb cb hvb t 67 vcur.size cur.size (by simp[World.shape?,hv]) (by simp[World.shape?,hb]) (by rw[hcs];exact Nat.mul_ne_zero (by omega) (by omega)) (by simp[World.frozen?,hv]) (by simp[World.frozen?,hv])]
  rfl
 obtain⟨C,hC⟩: ∃C,C=(cur.toList.take (n*k)).drop (i*k):=⟨_,rfl⟩
 obtain⟨V,hV⟩: ∃V,V=vcur.toList.take (m*k):=⟨_,rfl⟩
 have hnk:n*k<=cur.size:=by rw[hcs];exact Nat.mul_le_mul_right _ (by omega)
 have hmk: (n+m)*k<=cur.size:=by rw[hcs];exact Nat.mul_le_mul_right _ hroom
 have hCl:C.length=(n-i)*k:=by rw[hC];simp only[List.length_drop,List.length_take,Array.length_toList];rw[Nat.min_eq_left hnk,Nat.mul_sub_right_distrib]
 have hVl:V.length=m*k:=by rw[hV];simp only[List.length_take,Array.length_toList];omega
 obtain⟨R1,hR1⟩: ∃R1:Array Value,R1=(cur.toList.take ((i+m)*k)++C++cur.toList.drop ((i+m)*k+C.length)).toArray:=⟨_,rfl⟩
 have e1: (i+m)*k+ (n-i)*k=(n+m)*k:=by rw[<-Nat.add_mul];congr 1;omega
 have e2:i*k+m*k=(i+m)*k:=by rw[<-Nat.add_mul]
 have hR1s:R1.size=cur.size:=by rw[hR1];simp only[List.size_toArray,List.length_append,List.length_take,List.length_drop,Array.length_toList];omega
 obtain⟨R2,hR2⟩: ∃R2:Array Value,R2=(R1.toList.take (i*k)++V++R1.toList.drop (i*k+V.length)).toArray:=⟨_,rfl⟩
 have hcp1: ∀ty dc sc,(Builtin.copy_ #[26,26] ty #[.slice (some ⟨b,(i+m)*k,none⟩) (n+m- (i+m)) dc,.slice (some ⟨b,i*k,none⟩) (n+m-i) sc]).run Tryz.prog w.drew= .ok (goInt (n-i:Nat)) (w.drew.setRow b R1):=fun ty dc sc=>by
  rw[hR1];exact Qob (by kernel_rfl) zE w.drew ty b ((i+m)*k) (n+m- (i+m)) dc ⟨b,i*k,none⟩ (n+m-i) sc cur 67 C hb (n-i) (by simp only[Nat.min_def];split<;>omega) hCl
   (fun j u hj=>by
    rw[hC,List.getElem?_drop,List.getElem?_take]at hj;split at hj
    ·rw[Addr.add_lit];have hd:w.drew.heap[b]? =some (.cells cur 67 (0,0)):=hb;simp only[World.cell?,hd];simpa using hj
    ·cases hj) (by omega) (fun u hu=>h1 u (by rw[hC]at hu;exact List.mem_of_mem_drop hu))
 have hcp2: ∀(W:World),W.heap=(w.drew.setRow b R1).heap-> ∀ty dc,(Builtin.copy_ #[26,26] ty #[.slice (some ⟨b,i*k,none⟩) (n+m-i) dc,.slice (some ⟨vb,0,none⟩) m vc]).run Tryz.prog W= .ok (goInt m) (W.setRow b R2):=fun W hW ty dc=>by
  rw[hR2];exact Qob (by kernel_rfl) zE W ty b (i*k) (n+m-i) dc ⟨vb,0,none⟩ m vc R1 67 V (by rw[hW];exact Quc (W:=w.drew) hb) m (by simp only[Nat.min_def];split<;>omega) hVl
   (fun j u hj=>by
    rw[hV,List.getElem?_take]at hj;split at hj
    ·rw[Addr.add_lit];simp only[World.cell?,hW];have: (w.drew.setRow b R1).heap[vb]? =some (.cells vcur t (0,0)):=(Qud (W:=w.drew) hvb).trans hv;rw[this];simpa using hj
    ·cases hj) (by omega) (fun u hu=>h1v u (by rw[hV]at hu;exact hu))
 have hT: (cur.toList.take ((i+m)*k)).length=(i+m)*k:=by
  have: (i+m)*k<=(n+m)*k:=Nat.mul_le_mul_right _ (by omega);rw[List.length_take,Array.length_toList];omega
 have hTi: (cur.toList.take (i*k)).length=i*k:=by
  have:i*k<=(n+m)*k:=Nat.mul_le_mul_right _ (by omega);rw[List.length_take,Array.length_toList];omega
 have r1:R1.toList.take (i*k)=cur.toList.take (i*k):=by
  rw[hR1];simp only[];rw[List.append_assoc,List.take_append_of_le_length (by rw[hT];omega),List.take_take,Nat.min_eq_left (by omega)]
 have r2:R1.toList.drop (i*k+V.length)=C++cur.toList.drop ((n+m)*k):=by
  rw[hVl,e2,hR1];simp only[];rw[List.append_assoc,List.drop_left' hT,hCl,e1]
 have hf1:R2.size=cur.size:=by rw[hR2];simp only[List.size_toArray,List.length_append,List.length_take,List.length_drop,Array.length_toList];omega
 have hf2:R2.toList.take ((n+m)*k)=cur.toList.take (i*k)++V++C:=by
  rw[hR2];simp only[];rw[r1,r2,<-List.append_assoc,List.take_left' (by simp only[List.length_append,hTi,hVl,hCl];omega)]
 rw[<-hV,<-hC];clear hR1 hR2 hC hV r1 r2 hTi hT e1 e2 hR1s hCl hVl hnk hmk h1 h1v hvs hcs hv hb;have mixed:Tryz.prog.follows Departure.mixedOrders=true:=by kernel_rfl
 go_enter Tryz.func243,Tryz.ntmps243
 go_wp2_with (simp only[hov])
 go_region_law_o (refine Qvc rfl (Z56 (t:=26) (t':=26) rfl (by simp[Act.eval,Act.put]) (by simp[Act.eval,Act.put]) (hcp1 _ _ _)) ?_)
 go_wp2_with (at_builtin;refine Ztk rfl (Z56 (t:=26) (t':=26) rfl rfl rfl (hcp2 _ rfl _ _)) ?_)
 go_ret
 exact⟨rfl,R1,R2,rfl,hf1,hf2⟩
set_option maxHeartbeats 4000000 in
theorem Q9p(k:Nat)(hk:0<k)(zE: ∀w,(Go.sizeOf 67).run Tryz.prog w= .ok k w)(base:Option Addr)(n c vb m vc:Nat)(w w':World)(v':Value)(hm:0<m)(hnc:n<=c)(hc:c<=maxLen)(hnil:base=none->n=0/\c=0)
  (hap: (Builtin.append_ #[26,26] 26 #[.slice base n c,.slice (some ⟨vb,0,none⟩) m vc]).run Tryz.prog w= .ok v' w'):
  Calls Tryz.prog 243 #[.slice base n c,.int .i64 n,.slice (some ⟨vb,0,none⟩) m vc] w fun e w2=>e= .returned v'/\w2=w':=by
 have hz1: ¬((m:Int)=0):=by omega
 have h63:c<=9223372036854775807:=by unfold maxLen at hc;omega
 have mixed:Tryz.prog.follows Departure.mixedOrders=true:=by kernel_rfl
 cases base with
 |none=>
  obtain⟨rfl,rfl⟩:=hnil rfl
  go_enter Tryz.func243,Tryz.ntmps243
  go_wp2_with (at_builtin;refine Ztk rfl (Z3r (t:=26) (t':=26) rfl rfl rfl hap) ?_)
  go_ret
  exact⟨rfl,rfl⟩
 |some ad=>
  go_enter Tryz.func243,Tryz.ntmps243
  go_wp2_with (at_builtin;refine Ztk rfl (Z3r (t:=26) (t':=26) rfl rfl rfl hap) ?_)
  all_goals (go_ret;exact⟨rfl,rfl⟩)
set_option maxHeartbeats 4000000 in
theorem Q6z(k:Nat)(hk:0<k)(zE: ∀w,(Go.sizeOf 67).run Tryz.prog w= .ok k w)(b n c i vb m vc g G:Nat)(cur vcur ROW:Array Value)(t:TypeId)(w W1:World)(hi:i<n)(hm:0<m)(hnc:n<=c)(hroom:c<n+m)(hc:c<=maxLen)(hGn:n+m<=G)(hGm:G<=maxLen)
  (hb:W1.heap[b]? =some (.cells cur 67 (0,0))) (hcs:cur.size=c*k) (hv:W1.heap[vb]? =some (.cells vcur t (0,0))) (hvs:m*k<=vcur.size) (hg:W1.heap[g]? =some (.cells ROW 67 (0,0))) (hRs:ROW.size=G*k) (hgb:b≠g) (hgv:vb≠g)
  (h1: ∀u∈cur.toList.take (n*k),u.oneCell'=true) (h1v: ∀u∈vcur.toList.take (m*k),u.oneCell'=true)
  (hap: (Builtin.append_ #[26,3] 26 #[.slice (some ⟨b,0,none⟩) i c,.int .i64 ((n:Int)+ (m:Int)- (i:Int))]).run Tryz.prog w= .ok (.slice (some ⟨g,0,none⟩) (n+m) G) W1):
  Calls Tryz.prog 243 #[.slice (some ⟨b,0,none⟩) n c,.int .i64 i,.slice (some ⟨vb,0,none⟩) m vc] w fun e w'=>
   e= .returned (.slice (some ⟨g,0,none⟩) (n+m) G)/\ ∃R1 R2:Array Value,w'=((W1.setRow g R1).drew).setRow g R2/\R2.size=ROW.size/\
    R2.toList.take ((n+m)*k)=ROW.toList.take (i*k)++vcur.toList.take (m*k)++ (cur.toList.take (n*k)).drop (i*k):=by
 have hz1: ¬((m:Int)=0):=by omega
 have hz2: ¬((i:Int)=(n:Int)):=by omega
 have hz3: (c:Int)< (n:Int)+ (m:Int):=by omega
 have h63:c<=9223372036854775807:=by unfold maxLen at hc;omega
 have hG63:G<=9223372036854775807:=by unfold maxLen at hGm;omega
 have hw1:IntKind.i64.wrap ((i:Int)+ (m:Int))=(i:Int)+ (m:Int):=by rw[IntKind.wrap_i64];omega
 have hw2:IntKind.i64.wrap ((n:Int)+ (m:Int))=(n:Int)+ (m:Int):=by rw[IntKind.wrap_i64];omega
 have hw3:IntKind.i64.wrap ((n:Int)+ (m:Int)- (i:Int))=(n:Int)+ (m:Int)- (i:Int):=by rw[IntKind.wrap_i64];omega
 have hb1: (0:Int)<=(i:Int)+ (m:Int):=by omega
 have hin:i<=n:=by omega
 have htn: ((i:Int)+ (m:Int)).toNat=i+m:=by omega
 have hb3: (i:Int)<=(n:Int)+ (m:Int):=by omega
 have hGi: ¬(G=i):=by omega
 have hGim: ¬(G=i+m):=by omega
 have hci: ¬(c=i):=by omega
 obtain⟨C,hC⟩: ∃C,C=(cur.toList.take (n*k)).drop (i*k):=⟨_,rfl⟩
 obtain⟨V,hV⟩: ∃V,V=vcur.toList.take (m*k):=⟨_,rfl⟩
 have hnk:n*k<=cur.size:=by rw[hcs];exact Nat.mul_le_mul_right _ hnc
 have hmk: (n+m)*k<=ROW.size:=by rw[hRs];exact Nat.mul_le_mul_right _ hGn
 have hCl:C.length=(n-i)*k:=by rw[hC];simp only[List.length_drop,List.length_take,Array.length_toList];rw[Nat.min_eq_left hnk,Nat.mul_sub_right_distrib]
 have hVl:V.length=m*k:=by rw[hV];simp only[List.length_take,Array.length_toList];omega
 have e1: (i+m)*k+ (n-i)*k=(n+m)*k:=by rw[<-Nat.add_mul];congr 1;omega
 have e2:i*k+m*k=(i+m)*k:=by rw[<-Nat.add_mul]
 obtain⟨R1,hR1⟩: ∃R1:Array Value,R1=(ROW.toList.take (i*k)++V++ROW.toList.drop (i*k+V.length)).toArray:=⟨_,rfl⟩
 have hR1s:R1.size=ROW.size:=by rw[hR1];simp only[List.size_toArray,List.length_append,List.length_take,List.length_drop,Array.length_toList];omega
 obtain⟨R2,hR2⟩: ∃R2:Array Value,R2=(R1.toList.take ((i+m)*k)++C++R1.toList.drop ((i+m)*k+C.length)).toArray:=⟨_,rfl⟩
 have hcp1: ∀(W:World),W.heap=W1.heap-> ∀ty dc,(Builtin.copy_ #[26,26] ty #[.slice (some ⟨g,i*k,none⟩) (n+m-i) dc,.slice (some ⟨vb,0,none⟩) m vc]).run Tryz.prog W= .ok (goInt m) (W.setRow g R1):=fun W hW ty dc=>by
  rw[hR1];exact Qob (by kernel_rfl) zE W ty g (i*k) (n+m-i) dc ⟨vb,0,none⟩ m vc ROW 67 V (by rw[hW];exact hg) m (by simp only[Nat.min_def];split<;>omega) hVl
   (fun j u hj=>by
    rw[hV,List.getElem?_take]at hj;split at hj
    ·rw[Addr.add_lit];simp only[World.cell?,hW,hv];simpa using hj
    ·cases hj) (by omega) (fun u hu=>h1v u (by rw[hV]at hu;exact hu))
 have hcp2: ∀(W:World),W.heap=(W1.setRow g R1).heap-> ∀ty dc sc,(Builtin.copy_ #[26,26] ty #[.slice (some ⟨g,(i+m)*k,none⟩) (n+m- (i+m)) dc,.slice (some ⟨b,i*k,none⟩) (n-i) sc]).run Tryz.prog W= .ok (goInt (n-i:Nat)) (W.setRow g R2):=fun W hW ty dc sc=>by
  rw[hR2];exact Qob (by kernel_rfl) zE W ty g ((i+m)*k) (n+m- (i+m)) dc ⟨b,i*k,none⟩ (n-i) sc R1 67 C (by rw[hW];exact Quc hg) (n-i) (by simp only[Nat.min_def];split<;>omega) hCl
   (fun j u hj=>by
    rw[hC,List.getElem?_drop,List.getElem?_take]at hj;split at hj
    ·rw[Addr.add_lit];have hd:W.heap[b]? =some (.cells cur 67 (0,0)):=by rw[hW];exact(Qud hgb).trans hb
     simp only[World.cell?,hd];simpa using hj
    ·cases hj) (by omega) (fun u hu=>h1 u (by rw[hC]at hu;exact List.mem_of_mem_drop hu))
 have hTi: (ROW.toList.take (i*k)).length=i*k:=by
  have:i*k<=(n+m)*k:=Nat.mul_le_mul_right _ (by omega);rw[List.length_take,Array.length_toList];omega
 have r1:R1.toList.take ((i+m)*k)=ROW.toList.take (i*k)++V:=by
  rw[hR1];simp only[];rw[List.take_left' (by rw[List.length_append,hTi,hVl,e2])]
 have hf1:R2.size=ROW.size:=by rw[hR2];simp only[List.size_toArray,List.length_append,List.length_take,List.length_drop,Array.length_toList];omega
 have hf2:R2.toList.take ((n+m)*k)=ROW.toList.take (i*k)++V++C:=by
  rw[hR2];simp only[];rw[r1,List.take_left' (by simp only[List.length_append,hTi,hVl,hCl];omega)]
 rw[<-hV,<-hC];clear hR1 hR2 hC hV r1 hTi e1 e2 hR1s hCl hVl hnk hmk h1 h1v hvs hcs hv hb hg hRs;have mixed:Tryz.prog.follows Departure.mixedOrders=true:=by kernel_rfl
 go_enter Tryz.func243,Tryz.ntmps243
 go_wp2_with (at_builtin;first|refine Ztk rfl (Z3r (t:=26) (t':=3) rfl rfl rfl hap) ?_|refine Ztk rfl (Z56 (t:=26) (t':=26) rfl rfl rfl (hcp1 _ rfl _ _)) ?_)
 go_region_law_o (refine Qvc rfl (Z56 (t:=26) (t':=26) rfl (by simp[Act.eval,Act.put]) (by simp[Act.eval,Act.put]) (hcp2 (W1.setRow g R1).drew (Eq.refl (W1.setRow g R1).heap) 3 (G- (i+m)) (c-i))) ?_)
 go_wp2
 go_ret
 exact⟨rfl,R1,R2,rfl,hf1,hf2⟩
theorem Q9o{t:Ty}(hT:TOK Tryz.prog 26 (.slice 67 t))(hT2:TOK Tryz.prog 67 t){w:World}{v vy:Value}{xs ys:List Value}{l l4:List t.den}{i:Nat}
  (hown:w.ownsRow 0 67 t.size v l.length xs) (hy:w.ownsRow 0 67 t.size vy l4.length ys) (hne: ∀b,v.ownBlock=some b->vy.ownBlock≠some b) (hi:i<=l.length) (hm:0<l4.length) (hp:l.length+l4.length<=Qo)
  (h1: ∀u∈xs,u.oneCell'=true) (h1v: ∀u∈ys,u.oneCell'=true):
  Calls Tryz.prog 243 #[v,.int .i64 i,vy] w fun e w'=> ∃v',e= .returned v'/\w'.ownsRow 0 67 t.size v' (l.length+l4.length) (xs.take (i*t.size)++ys++xs.drop (i*t.size))/\w.grownBy w' v.ownBlock/\(v'.ownBlock=v.ownBlock\/ ∀b,v'.ownBlock=some b->w.heap.size<=b):=by
 have hp':l.length+l4.length<=17179869184:=hp;obtain⟨hu,hpos⟩:=hT.slice;have zE:=fun w=>hT2.sizeOf w;obtain⟨hyl,hy2⟩:=hy;rcases hy2 with⟨_,h0⟩| ⟨vb,vc,vcur,rfl,_,hv,hmc,hvm,hvs,hvt⟩
 ·omega
 have hvs':l4.length*t.size<=vcur.size:=by rw[hvs];exact Nat.mul_le_mul_right _ hmc
 have ends: ∀base n c,v= .slice base n c->n=l.length->n<=c->c<=maxLen->(base=none->n=0/\c=0)->i=n->Calls Tryz.prog 243 #[v,.int .i64 i,.slice (some ⟨vb,0,none⟩) l4.length vc] w fun e w'=> ∃v',e= .returned v'/\w'.ownsRow 0 67 t.size v' (l.length+l4.length) (xs.take (i*t.size)++ys++xs.drop (i*t.size))/\w.grownBy w' v.ownBlock/\(v'.ownBlock=v.ownBlock\/ ∀b,v'.ownBlock=some b->w.heap.size<=b):=by
  rintro base n c rfl rfl hnc hc hnil rfl;obtain⟨v',w',g1,g2,g3,g4⟩:=Zzw hT hT2 hown (l4:=l4) (ys:=ys) ⟨some ⟨vb,0,none⟩,vc,rfl,hmc,.inr ⟨_,rfl,fun j u hj=>by
   rw[<-hvt,List.getElem?_take]at hj;split at hj
   ·rw[Addr.add_lit];simp only[World.cell?,hv];simpa using hj
   ·cases hj⟩⟩ hyl h1v hp (Nat.zero_le _)
  refine(Q9p t.size hpos zE base _ c vb _ vc w w' v' hm hnc hc hnil g1).mono fun e w2 ⟨he,hw⟩=> ?_;subst hw;refine⟨v',he,?_,g3,g4⟩;have e1:xs.take (l.length*t.size)=xs:=List.take_of_length_le (by rw[hown.1];exact Nat.le_refl _);have e2:xs.drop (l.length*t.size)=[]:=List.drop_of_length_le (by rw[hown.1];exact Nat.le_refl _);rw[e1,e2,List.append_nil];exact g2
 rcases hown.2 with⟨rfl,h0⟩| ⟨b,c,cur,rfl,_,hb,hnc,hc,hcs,htk⟩
 ·exact ends none 0 0 rfl h0.symm (Nat.le_refl _) (Nat.zero_le _) (fun _=>⟨rfl,rfl⟩) (by omega)
 by_cases hin:i=l.length
 ·exact ends (some ⟨b,0,none⟩) l.length c rfl rfl hnc hc (fun h=>by cases h) hin
 have hil:i<l.length:=by omega
 have hvb:vb≠b:=fun e=>hne b rfl (by rw[e];rfl);have h1': ∀u∈cur.toList.take (l.length*t.size),u.oneCell'=true:=by rw[htk];exact h1
 have h1v': ∀u∈vcur.toList.take (l4.length*t.size),u.oneCell'=true:=by rw[hvt];exact h1v
 have hlen: (xs.take (i*t.size)++ys++xs.drop (i*t.size)).length=(l.length+l4.length)*t.size:=by
  have:i*t.size<=l.length*t.size:=Nat.mul_le_mul_right _ hi;simp only[List.length_append,List.length_take,List.length_drop,hown.1,hyl,Nat.add_mul];omega
 have hcap:l.length+l4.length<=maxLen:=by simp only[maxLen];omega
 by_cases hroom:l.length+l4.length<=c
 ·refine(Q4e t.size hpos zE b _ c i vb _ vc cur vcur 67 w hil hm hroom hc hvb hb hcs hv hvs' h1' h1v').mono ?_;rintro e w' ⟨he,R1,R2,rfl,hs,ht⟩;have hik:i*t.size<=l.length*t.size:=Nat.mul_le_mul_right _ hi;have hct:cur.toList.take (i*t.size)=xs.take (i*t.size):=by rw[<-htk,List.take_take,Nat.min_eq_left hik]
  rw[htk,hvt,hct]at ht;refine⟨_,he,⟨hlen,.inr ⟨b,c,R2,rfl,Nat.zero_le _,Quc (Quc (W:=w.drew) hb),hroom,hc,by rw[hs,hcs],ht⟩⟩,?_,.inl rfl⟩;refine⟨rfl,rfl,rfl,by rw[Q2q,Q2q];exact Nat.le_refl _,fun x hx hne=> ?_⟩;have:x≠b:=fun e=>hne (by rw[e];rfl);rw[Qud this,Qud this];rfl
 ·obtain⟨i0,hi0,his,hby,hz0⟩:=hT2.size;have hzs: (Xz t (Vh t)).cells.size=t.size:=by rw[Zy1 hT2.plain];simp[Zsa hT2.plain]
  have hbt: (l.length+l4.length)*i0.bytes<=140737488355328:=by
   have: (l.length+l4.length)*i0.bytes<=17179869184*8192:=Nat.mul_le_mul hp' hby;omega
  have hik:i*t.size<=l.length*t.size:=Nat.mul_le_mul_right _ hi;have hold: (Builtin.firstCells i0.size i (.slice (some ⟨b,0,none⟩) i c)).run Tryz.prog w.drew= .ok (xs.take (i*t.size)).toArray w.drew:=
   run_firstCells_some w.drew i0.size i ⟨b,0,none⟩ i c (xs.take (i*t.size)) (by rw[List.length_take,hown.1,his];omega) fun j u hj=>by
    rw[List.getElem?_take]at hj;split at hj
    ·exact World.ownsRow.cells (w:=w) hown rfl j u hj
    ·cases hj
  have ek:i+ (l.length+l4.length-i)=l.length+l4.length:=by omega
  have h48: (l.length+l4.length-i)*i0.bytes<=281474976710656:=by
   have: (l.length+l4.length-i)*i0.bytes<=(l.length+l4.length)*i0.bytes:=Nat.mul_le_mul_right _ (by omega);omega
  have hap:=Lib.run_append_grow_zeros (P:=Tryz.prog) w 26 3 26 67 i0 _ .i64 .i64 hu (by kernel_rfl) hi0 hz0 (some ⟨b,0,none⟩) i c _ hold (l.length+l4.length-i) (by omega) (by rw[his];exact hpos) (by omega)
   (by simp only[maxLen]at hcap;omega) h48 (by rw[ek];exact growslice_fits (by omega) hbt)
  rw[ek,show(((l.length+l4.length-i:Nat)):Int)=(l.length:Int)+ (l4.length:Int)- (i:Int) by omega]at hap;have hge:=grownCap_ge w (l.length+l4.length) c 67;have hcm:grownCap w (l.length+l4.length) c 67<=maxLen:=grownCap_le_maxLen w (l.length+l4.length) c 67 hcap;generalize grownCap w (l.length+l4.length) c 67=G at hap hge hcm;obtain⟨ROW,hROW⟩: ∃ROW:Array Value,ROW=(xs.take (i*t.size)).toArray++Builtin.zeroCells (Xz t (Vh t)).cells (l.length+l4.length-i)++Builtin.zeroCells (Xz t (Vh t)).cells (G- (l.length+l4.length)):=⟨_,rfl⟩
  rw[<-hROW]at hap;have hRs:ROW.size=G*t.size:=by
   have e3:i+ (l.length+l4.length-i)+ (G- (l.length+l4.length))=G:=by omega
   rw[<-e3,hROW];simp only[Array.size_append,List.size_toArray,size_zeroCells,hzs,List.length_take,hown.1,Nat.add_mul,Nat.min_eq_left hik]
  have hRt:ROW.toList.take (i*t.size)=xs.take (i*t.size):=by
   rw[hROW];simp only[Array.toList_append,List.append_assoc];rw[List.take_left' (by rw[List.length_take,hown.1];omega)]
  have hbw:b<w.heap.size:=by
   by_cases h:b<w.heap.size
   ·exact h
   ·rw[Array.getElem?_eq_none (by omega)]at hb;cases hb
  have hvw:vb<w.heap.size:=by
   by_cases h:vb<w.heap.size
   ·exact h
   ·rw[Array.getElem?_eq_none (by omega)]at hv;cases hv
  have hW1: ∀x,x<w.heap.size->(w.drew.alloc (.cells ROW 67)).heap[x]? =w.heap[x]? :=fun x hx=>heap_alloc_old w.drew _ hx;refine(Q6z t.size hpos zE b _ c i vb _ vc w.heap.size G cur vcur ROW 67 w (w.drew.alloc (.cells ROW 67)) hil hm hnc (by omega) hc hge hcm (by rw[hW1 b hbw];exact hb) hcs (by rw[hW1 vb hvw];exact hv) hvs' (heap_alloc_new w.drew _) hRs (by omega) (by omega) h1' h1v' hap).mono ?_;rintro e w' ⟨he,R1,R2,rfl,hs,ht⟩;rw[htk,hvt,hRt]at ht;refine⟨_,he,⟨hlen,.inr ⟨w.heap.size,G,R2,rfl,Nat.zero_le _,Quc (W:=((w.drew.alloc (.cells ROW 67)).setRow w.heap.size R1).drew) (Quc (heap_alloc_new w.drew _)),hge,hcm,by rw[hs,hRs],ht⟩⟩,?_,.inr fun b' hb'=> ?_⟩
  ·refine⟨rfl,rfl,rfl,?_,fun x hx hne=> ?_⟩
   ·rw[Q2q];show w.heap.size<=((w.drew.alloc (.cells ROW 67)).setRow w.heap.size R1).heap.size;rw[Q2q];simp[World.alloc]
   ·have:x≠w.heap.size:=by omega
    rw[Qud this];show((w.drew.alloc (.cells ROW 67)).setRow w.heap.size R1).heap[x]? =_;rw[Qud this];exact hW1 x hx
  ·simp only[Value.ownBlock,Osi]at hb';omega
abbrev Qmc:FnB:={f:=243,args:=[.mv (.slice 67 (Zw)),.sh (.int .i64),.mv (.slice 67 (Zw))],res:= .vals [.slice 67 (Zw)],F:=fun xs=>Q6x xs.1 xs.2.1 xs.2.2.1}
theorem Qjg:Z26 Tryz.prog glob Qmc:=Z26.insert Tryz.call243 fun h1 h2 h3 h4 h5 h6 h7 h8=>Q9o Q8f Q8g h1 h2 h3 h4 h5 h6 h7 h8
abbrev Qhw:FnE:={f:=177,args:=[.slice 67 (Zw),Zw],res:=[.slice 67 (Zw)],F:=fun xs=>Zio xs.1 xs.2.1}
theorem Qfo:okE Qhw:=
 ofE (Za Zuc (Za Zph (Za Zvm (Za Zbj Zg)))) (Zv Qjg Zc) Tryz.func177 Tryz.call177 (.seq .leaf (.seq .leaf (.seq .leaf (.seq .leaf (.join Z69 (fun v=>Zgt v.1 v.2.1 v.2.2.1) .leaf .leaf))))) ⟨lf,lf,lf,lf,lf,(fun v=>by kernel_rfl),lf⟩ (hk fun _=>by kernel_rfl)
abbrev Wk:FnB:={f:=107,args:=[.bx 37 (Zo) (.u true),.sh (.int .i64)],res:= .vals [.int .i64],F:=fun xs=>W2 xs.1 xs.2.1}
theorem Zn1:okB Wk:=
 ofB [0] (Za Zph (Za Zsk (Za Qni (Za Qjb (Za Qfm (Za Qfo Zg)))))) (Zv Zrt Zc) Tryz.func107 Tryz.call107 (.seq .leaf (.seq .leaf (.seq .leaf (.join Z1x (fun v=>Kd v.1 v.2.1 v.2.2.1 v.2.2.2.1 v.2.2.2.2.1) .leaf (.seq .leaf (.join Z1y (fun v=>Zdy v.1 v.2.1 v.2.2.1) .leaf (.seq (.seq .leaf (.block (.loop Z10 (fun N v=>Za2 N v.1 v.2.1 v.2.2.1) (fun v=>Zhl v.1 v.2.1 v.2.2.1) (fun K1=>(.seq .leaf (.seq (.block (.join Z1z (fun v=>Zny K1 v.1 v.2.1 v.2.2.1 v.2.2.2.1) .leaf .leaf)) .leaf)))))) .leaf))))))) ⟨lf,lf,lf,lf,(fun v=>by kernel_rfl),lf,lf,(fun v=>by kernel_rfl),⟨lf,fun _=>rfl,fun N=>⟨(fun v=>by kernel_rfl),lf,⟨lf,(fun v=>by kernel_rfl),lf⟩,lf⟩⟩,lf⟩ (hk fun _=>by kernel_rfl)
abbrev Zto:FnE:={f:=112,args:=[Z8,.int .i64],res:=[.int .i64],F:=fun xs=>Zoe xs.1 xs.2.1}
theorem Qi9:okE Zto:=
 ofE (Za Zfb (Za Jc Zg)) Zc Tryz.func112 Tryz.call112 .leaf lf (hk fun _=>by kernel_rfl)
abbrev Zu5:FnE:={f:=113,args:=[Yo],res:=[.int .i64],F:=fun xs=>Zka xs.1}
theorem Qnj:okE Zu5:=
 ofE (Za Ziv Zg) Zc Tryz.func113 Tryz.call113 .leaf lf (hk fun _=>by kernel_rfl)
abbrev Z9t:FnE:={f:=116,args:=[Z8,.int .i64,.bool],res:=[.bool],F:=fun xs=>Znc xs.1 xs.2.1 xs.2.2.1}
theorem Zub:okE Z9t:=
 ofE Zg Zc Tryz.func116 Tryz.call116 .leaf lf (hk fun _=>by kernel_rfl)
abbrev Qvw:FnE:={f:=117,args:=[Z8],res:=[.bool],F:=fun xs=>Zvb xs.1}
theorem Z89:okE Qvw:=
 ofE Zg Zc Tryz.func117 Tryz.call117 .leaf lf (hk fun _=>by kernel_rfl)
open Go.RowKit Go.Sort Go.Shelf Go.Lib in
theorem Xah(x1 y1:Int)(x2 y2:List UInt8)(W:World)(h1:0<=x1)(h2:x1<=4611686018427387904)(h3:0<=y1)(h4:y1<=4611686018427387904):
  Calls Tryz.prog 187 #[.agg #[.int .i64 x1,.string ⟨⟨x2⟩⟩],.agg #[.int .i64 y1,.string ⟨⟨y2⟩⟩]] W fun en w'=>en= .returned (.int .i64 (x1-y1))/\ ∃q os',w'=grow (W.drewN q) os':=by
 have hw:IntKind.i64.wrap (x1-y1)=x1-y1:=by rw[IntKind.wrap_i64];omega
 go_enter Tryz.func187,Tryz.ntmps187
 go_wp2
 go_ret
 exact⟨rfl,0,_,by rw[alloc_eq_grow,alloc_eq_grow,grow_grow];rfl⟩
abbrev Zwl:FnL:={f:=186,e:=183,t:=Zig,args:=[.fnc 187],res:=[],F:=fun l _=>Qvb l}
theorem Qbc:Qc1 Tryz.prog glob Zwl:=Qc1.sort Tryz.call186 (fun p cap fv w=>Go.Proofs.AnyF.slices_SortFunc_none Tryz.sortLaid p cap fv w)
  (fun α _ enc c blk cap d w hk h1 hO hT hcmp hH hblk hsz=>Go.Proofs.AnyQ.slices_SortFunc_total Tryz.sortLaid 2 (fun w=>by kernel_rfl) (fun w=>by kernel_rfl) enc hk h1 c hO 187 #[] blk 0 cap d w (fun _ _=>Tryz.call187 _ _) hcmp hH hblk hsz hT)
  (fun x y W h1 h2 h3 h4=>Xah x.1 y.1 x.2.1 y.2.1 W h1 h2 h3 h4)
abbrev Z80:FnE:={f:=188,args:=[.slice 183 (Zig)],res:=[.slice 183 (Zig)],F:=fun xs=>Zp0 xs.1}
theorem Qrf:okE Z80:=
 ofE (Za Zlv Zg) Zc Tryz.func188 Tryz.call188 (.seq .leaf (.seq .leaf (.seq (.seq .leaf (.block (.loop Qis (fun N v=>Ze8 N v.1 v.2.1 v.2.2.1 v.2.2.2.1) (fun v=>Zhz v.1 v.2.1 v.2.2.1 v.2.2.2.1) (fun K1=> .leaf)))) .leaf))) ⟨lf,lf,⟨lf,fun _=>rfl,fun N=>⟨(fun v=>by kernel_rfl),lf⟩⟩,lf⟩ (hk fun _=>by kernel_rfl)
abbrev Zug:Zro:={f:=184,n:=27,np:=6,rv:=Tryz.f184.results.toList,run:=fun ln _ k s=>J4 (Zgq [] ln [] [] [] []) 27 (Wj Tryz.f184) .leaf k s}
theorem Z4a:V4 Tryz.prog glob Zug:=V4.of (C:=Zgq [] [] [] [] [] []) (fun ln=>Wc (ln:=ln) Jb rfl Zg Kl Zc Km) Tryz.func184 rfl Tryz.call184 (by decide) rfl rfl (fun _ _ _=>rfl)
abbrev Zwj:FnE:={f:=118,args:=[Q2,.int .i64,.str],res:=[Q2],F:=fun xs=>Zot xs.1 xs.2.1 xs.2.2.1}
theorem Qa1:Zqc Tryz.prog glob Zwj:=by
 refine Zqc.of (e:=Zwj) (C:=Zgq [Zug] [] [Z1j,Zwk,Zx5,Z80] [Zwl] [] []) (Wc (Xh Z4a Jb) rfl (Za Znd (Za Zvk (Za Zlv (Za Qrf Zg)))) (Q35 Qbc Kl) Zc Km) rfl Tryz.func118 (c:=Wj Tryz.f118) rfl Tryz.call118 (by decide)
  ((.seq .leaf (.seq .leaf (.join Z3z (fun v=>Zpf v.1 v.2.1 v.2.2.1 v.2.2.2.1 v.2.2.2.2.1 v.2.2.2.2.2.1) .leaf (.seq .leaf (.seq .leaf (.seq (.seq .leaf (.block (.loop Z30 (fun N v=>Zb7 N v.1 v.2.1 v.2.2.1 v.2.2.2.1 v.2.2.2.2.1 v.2.2.2.2.2.1 v.2.2.2.2.2.2.1 v.2.2.2.2.2.2.2.1 v.2.2.2.2.2.2.2.2.1 v.2.2.2.2.2.2.2.2.2.1) (fun v=>Zik v.1 v.2.1 v.2.2.1 v.2.2.2.1 v.2.2.2.2.1 v.2.2.2.2.2.1 v.2.2.2.2.2.2.1 v.2.2.2.2.2.2.2.1 v.2.2.2.2.2.2.2.2.1 v.2.2.2.2.2.2.2.2.2.1) (fun K1=> .leaf)))) .leaf))))))) ?_ ?_
 ·exact⟨lf,⟨lf,⟨lf,(fun v=>by kernel_rfl),⟨lf,⟨lf,⟨⟨lf,⟨fun _=>rfl,fun N=>⟨(fun v=>by kernel_rfl),lf⟩⟩⟩,lf⟩⟩⟩⟩⟩⟩
 ·intro xs r h;refine Eq.trans (Eq.symm ?_) h;kernel_rfl
abbrev Zpc:FnE:={f:=54,args:=[Z8,.int .i64,.str,.bool],res:=[Z8,.int .i64],F:=fun xs=>Zna xs.1 xs.2.1 xs.2.2.1 xs.2.2.2.1}
theorem Z7n:okE Zpc:=
 ofE (Za Zmg (Za Zfb (Za Zub (Za Z89 (Za Qa1 (Za Zyp Zg)))))) Zc Tryz.func54 Tryz.call54 (.seq .leaf (.seq .leaf (.seq .leaf (.seq .leaf (.seq .leaf (.seq .leaf (.seq .leaf (.join Z11 (fun v=>Zdz v.1 v.2.1 v.2.2.1 v.2.2.2.1 v.2.2.2.2.1) .leaf (.seq .leaf (.join Z12 (fun v=>Znz v.1 v.2.1) .leaf .leaf)))))))))) ⟨lf,lf,lf,lf,lf,lf,lf,lf,(fun v=>by kernel_rfl),lf,lf,(fun v=>by kernel_rfl),lf⟩ (hk fun _=>by kernel_rfl)
abbrev Ztp:FnE:={f:=120,args:=[Yo,.int .i64],res:=[Yo,.bool],F:=fun xs=>Zho xs.1 xs.2.1}
theorem Qja:okE Ztp:=
 ofE (Za Ziv (Za Qs Zg)) Zc Tryz.func120 Tryz.call120 .leaf lf (hk fun _=>by kernel_rfl)
abbrev Qdm:FnE:={f:=190,args:=[Zw],res:=[.bool],F:=fun xs=>Ztu xs.1}
theorem Qa5:okE Qdm:=
 ofE Zg Zc Tryz.func190 Tryz.call190 .leaf lf (hk fun _=>by kernel_rfl)
abbrev Qdj:FnE:={f:=246,args:=[Z8],res:=[.bool],F:=fun xs=>Ztt xs.1}
theorem Qa3:okE Qdj:=
 ofE (Za Zfb Zg) Zc Tryz.func246 Tryz.call246 .leaf lf (hk fun _=>by kernel_rfl)
abbrev Qdl:FnE:={f:=191,args:=[Zw],res:=[.bool],F:=fun xs=>Zou xs.1}
theorem Qa4:okE Qdl:=
 ofE (Za Qa3 Zg) Zc Tryz.func191 Tryz.call191 .leaf lf (hk fun _=>by kernel_rfl)
abbrev Zxj:FnE:={f:=121,args:=[Zw],res:=[.bool],F:=fun xs=>Zgs xs.1}
theorem Qrd:okE Zxj:=
 ofE (Za Zyo (Za Qa5 (Za Qa4 Zg))) Zc Tryz.func121 Tryz.call121 .leaf lf (hk fun _=>by kernel_rfl)
abbrev Ztn:FnE:={f:=122,args:=[Q1],res:=[Q1,.bool],F:=fun xs=>Qm xs.1}
theorem Qi5:okE Ztn:=
 ofE (Za Ztx Zg) Zc Tryz.func122 Tryz.call122 .leaf lf (hk fun _=>by kernel_rfl)
abbrev Ziz:Zro:={f:=50,n:=18,np:=3,rv:=Tryz.f50.results.toList,run:=fun ln _ k s=>J4 (Zgq [] ln [Zdv] [] [Wk] []) 18 (Wj Tryz.f50) .leaf k s}
theorem Zwt:V4 Tryz.prog glob Ziz:=V4.of (C:=Zgq [] [] [Zdv] [] [Wk] []) (fun ln=>Wc (ln:=ln) Jb rfl (Za Zme Zg) Kl (Zv Zn1 Zc) Km) Tryz.func50 rfl Tryz.call50 (by decide) rfl rfl (fun _ _ _=>rfl)
abbrev J7:Zro:={f:=52,n:=16,np:=2,rv:=Tryz.f52.results.toList,run:=fun ln _ k s=>J4 (Zgq [] ln [Zqg] [] [] []) 16 (Wj Tryz.f52) .leaf k s}
theorem Zkw:V4 Tryz.prog glob J7:=V4.of (C:=Zgq [] [] [Zqg] [] [] []) (fun ln=>Wc (ln:=ln) Jb rfl (Za Zph Zg) Kl Zc Km) Tryz.func52 rfl Tryz.call52 (by decide) rfl rfl (fun _ _ _=>rfl)
abbrev Zgx:Zro:={f:=53,n:=32,np:=3,rv:=Tryz.f53.results.toList,run:=fun ln _ k s=>J4 (Zgq [] ln [Zto,Zu5] [] [] []) 32 (Wj Tryz.f53) .leaf k s}
theorem Zve:V4 Tryz.prog glob Zgx:=V4.of (C:=Zgq [] [] [Zto,Zu5] [] [] []) (fun ln=>Wc (ln:=ln) Jb rfl (Za Qi9 (Za Qnj Zg)) Kl Zc Km) Tryz.func53 rfl Tryz.call53 (by decide) rfl rfl (fun _ _ _=>rfl)
abbrev Zkz:Zro:={f:=55,n:=30,np:=3,rv:=Tryz.f55.results.toList,run:=fun ln _ k s=>J4 (Zgq [] ln [Ztp] [] [] []) 30 (Wj Tryz.f55) .leaf k s}
theorem Zyh:V4 Tryz.prog glob Zkz:=V4.of (C:=Zgq [] [] [Ztp] [] [] []) (fun ln=>Wc (ln:=ln) Jb rfl (Za Qja Zg) Kl Zc Km) Tryz.func55 rfl Tryz.call55 (by decide) rfl rfl (fun _ _ _=>rfl)
abbrev K0:Zro:={f:=56,n:=43,np:=2,rv:=Tryz.f56.results.toList,run:=fun ln _ k s=>J4 (Zgq [J7] ln [Zz3,Zxj,Ztn] [] [Zl6] []) 43 (Wj Tryz.f56) .leaf k s}
theorem Zir:V4 Tryz.prog glob K0:=V4.of (C:=Zgq [J7] [] [Zz3,Zxj,Ztn] [] [Zl6] []) (fun ln=>Wc (ln:=ln) (Xh Zkw Jb) rfl (Za Zsk (Za Qrd (Za Qi5 Zg))) Kl (Zv Zrt Zc) Km) Tryz.func56 rfl Tryz.call56 (by decide) rfl rfl (fun _ _ _=>rfl)
abbrev Zh0:Zro:={f:=49,n:=64,np:=2,rv:=Tryz.f49.results.toList,run:=fun ln _ k s=>J4 (Zgq [Ziz,J7,Zgx,Zkz,K0] ln [Zpc] [] [] []) 64 (Wj Tryz.f49) .leaf k s}
theorem Zs8:V4 Tryz.prog glob Zh0:=V4.of (C:=Zgq [Ziz,J7,Zgx,Zkz,K0] [] [Zpc] [] [] []) (fun ln=>Wc (ln:=ln) (Xh Zwt (Xh Zkw (Xh Zve (Xh Zyh (Xh Zir Jb))))) rfl (Za Z7n Zg) Kl Zc Km) Tryz.func49 rfl Tryz.call49 (by decide) rfl rfl (fun _ _ _=>rfl)
abbrev Z4u:Zro:={f:=48,n:=36,np:=4,rv:=Tryz.f48.results.toList,run:=fun ln _ k s=>J4 (Zgq [Zh0] ln [Zci,Zan,Wd] [] [] []) 36 (Wj Tryz.f48) .leaf k s}
theorem Qng:V4 Tryz.prog glob Z4u:=V4.of (C:=Zgq [Zh0] [] [Zci,Zan,Wd] [] [] []) (fun ln=>Wc (ln:=ln) (Xh Zs8 Jb) rfl (Za Zmf (Za Zgd (Za Zen Zg))) Kl Zc Km) Tryz.func48 rfl Tryz.call48 (by decide) rfl rfl (fun _ _ _=>rfl)
abbrev Zwh:FnE:={f:=16,args:=[Zo,Zq],res:=[Zo,.int .i64],F:=fun xs=>Zkr xs.1 xs.2.1}
theorem Zvj:Zqc Tryz.prog glob Zwh:=by
 refine Zqc.of (e:=Zwh) (C:=Zgq [Zh0,Z4u] [] [] [] [] []) (Wc (Xh Zs8 (Xh Qng Jb)) rfl Zg Kl Zc Km) rfl Tryz.func16 (c:=Wj Tryz.f16) rfl Tryz.call16 (by decide)
  (.leaf) ?_ ?_
 ·exact lf
 ·intro xs r h;refine Eq.trans (Eq.symm ?_) h;kernel_rfl
abbrev Znx:FnE:={f:=146,args:=[Z8,.int .i64,.int .i64],res:=[Z8,.int .i64],F:=fun xs=>Zlt xs.1 xs.2.1 xs.2.2.1}
theorem Z4h:okE Znx:=
 ofE (Za Zmg (Za Zfb (Za Jc (Za Zub (Za Z89 Zg))))) Zc Tryz.func146 Tryz.call146 .leaf lf (hk fun _=>by kernel_rfl)
abbrev Zrz:FnE:={f:=217,args:=[Yo,.int .i64],res:=[Yo,.bool],F:=fun xs=>Ze6 xs.1 xs.2.1}
theorem Qfp:okE Zrz:=
 ofE (Za Ziv (Za Qs Zg)) Zc Tryz.func217 Tryz.call217 .leaf lf (hk fun _=>by kernel_rfl)
abbrev Zmi:Zro:={f:=147,n:=38,np:=3,rv:=Tryz.f147.results.toList,run:=fun ln _ k s=>J4 (Zgq [] ln [Zrz] [] [] []) 38 (Wj Tryz.f147) .leaf k s}
theorem Z16:V4 Tryz.prog glob Zmi:=V4.of (C:=Zgq [] [] [Zrz] [] [] []) (fun ln=>Wc (ln:=ln) Jb rfl (Za Qfp Zg) Kl Zc Km) Tryz.func147 rfl Tryz.call147 (by decide) rfl rfl (fun _ _ _=>rfl)
abbrev Zgz:Zro:={f:=145,n:=76,np:=2,rv:=Tryz.f145.results.toList,run:=fun ln _ k s=>J4 (Zgq [Ziz,J7,Zgx,Zkz,Zmi,K0] ln [Znx] [] [] []) 76 (Wj Tryz.f145) .leaf k s}
theorem Zrs:V4 Tryz.prog glob Zgz:=V4.of (C:=Zgq [Ziz,J7,Zgx,Zkz,Zmi,K0] [] [Znx] [] [] []) (fun ln=>Wc (ln:=ln) (Xh Zwt (Xh Zkw (Xh Zve (Xh Zyh (Xh Z16 (Xh Zir Jb)))))) rfl (Za Z4h Zg) Kl Zc Km) Tryz.func145 rfl Tryz.call145 (by decide) rfl rfl (fun _ _ _=>rfl)
abbrev Zyy:Zro:={f:=48,n:=36,np:=4,rv:=Tryz.f48.results.toList,run:=fun ln _ k s=>J4 (Zgq [Zgz] ln [Zci,Zan,Wd] [] [] []) 36 (Wj Tryz.f48) .leaf k s}
theorem Qe3:V4 Tryz.prog glob Zyy:=V4.of (C:=Zgq [Zgz] [] [Zci,Zan,Wd] [] [] []) (fun ln=>Wc (ln:=ln) (Xh Zrs Jb) rfl (Za Zmf (Za Zgd (Za Zen Zg))) Kl Zc Km) Tryz.func48 rfl Tryz.call48 (by decide) rfl rfl (fun _ _ _=>rfl)
abbrev Zu4:FnE:={f:=84,args:=[Zo,Zq],res:=[Zo,.int .i64],F:=fun xs=>Zm8 xs.1 xs.2.1}
theorem Z7k:Zqc Tryz.prog glob Zu4:=by
 refine Zqc.of (e:=Zu4) (C:=Zgq [Zgz,Zyy] [] [] [] [] []) (Wc (Xh Zrs (Xh Qe3 Jb)) rfl Zg Kl Zc Km) rfl Tryz.func84 (c:=Wj Tryz.f84) rfl Tryz.call84 (by decide)
  (.leaf) ?_ ?_
 ·exact lf
 ·intro xs r h;refine Eq.trans (Eq.symm ?_) h;kernel_rfl
abbrev Qma:FnE:={f:=218,args:=[Z6],res:=[.bool],F:=fun xs=>Zxq xs.1}
theorem Qje:okE Qma:=
 ofE (Za Zyn (Za Qs Zg)) Zc Tryz.func218 Tryz.call218 .leaf lf (hk fun _=>by kernel_rfl)
abbrev Zpd:FnE:={f:=150,args:=[Z6,.int .i64],res:=[Z6,.bool],F:=fun xs=>Znb xs.1 xs.2.1}
theorem Z7o:okE Zpd:=
 ofE (Za Qje (Za Jc (Za Zvl Zg))) Zc Tryz.func150 Tryz.call150 (.seq .leaf (.seq .leaf (.join Z13 (fun v=>Zn0 v.1 v.2.1 v.2.2.1 v.2.2.2.1) .leaf .leaf))) ⟨lf,lf,lf,(fun v=>by kernel_rfl),lf⟩ (hk fun _=>by kernel_rfl)
abbrev Zpo:Zro:={f:=50,n:=18,np:=3,rv:=Tryz.f50.results.toList,run:=fun ln _ k s=>J4 (Zgq [] ln [Zih] [] [Wk] []) 18 (Wj Tryz.f50) .leaf k s}
theorem Z7f:V4 Tryz.prog glob Zpo:=V4.of (C:=Zgq [] [] [Zih] [] [Wk] []) (fun ln=>Wc (ln:=ln) Jb rfl (Za Zqw Zg) Kl (Zv Zn1 Zc) Km) Tryz.func50 rfl Tryz.call50 (by decide) rfl rfl (fun _ _ _=>rfl)
abbrev Zh1:Zro:={f:=148,n:=41,np:=2,rv:=Tryz.f148.results.toList,run:=fun ln _ k s=>J4 (Zgq [Zpo,J7,K0] ln [Zpd] [] [] []) 41 (Wj Tryz.f148) .leaf k s}
theorem Zs9:V4 Tryz.prog glob Zh1:=V4.of (C:=Zgq [Zpo,J7,K0] [] [Zpd] [] [] []) (fun ln=>Wc (ln:=ln) (Xh Z7f (Xh Zkw (Xh Zir Jb))) rfl (Za Z7o Zg) Kl Zc Km) Tryz.func148 rfl Tryz.call148 (by decide) rfl rfl (fun _ _ _=>rfl)
abbrev Zyz:Zro:={f:=48,n:=36,np:=4,rv:=Tryz.f48.results.toList,run:=fun ln _ k s=>J4 (Zgq [Zh1] ln [Zci,Zan,Wd] [] [] []) 36 (Wj Tryz.f48) .leaf k s}
theorem Qe4:V4 Tryz.prog glob Zyz:=V4.of (C:=Zgq [Zh1] [] [Zci,Zan,Wd] [] [] []) (fun ln=>Wc (ln:=ln) (Xh Zs9 Jb) rfl (Za Zmf (Za Zgd (Za Zen Zg))) Kl Zc Km) Tryz.func48 rfl Tryz.call48 (by decide) rfl rfl (fun _ _ _=>rfl)
abbrev Zwi:FnE:={f:=85,args:=[Zo,Zq],res:=[Zo,.int .i64],F:=fun xs=>Zos xs.1 xs.2.1}
theorem Qa0:Zqc Tryz.prog glob Zwi:=by
 refine Zqc.of (e:=Zwi) (C:=Zgq [Zh1,Zyz] [] [] [] [] []) (Wc (Xh Zs9 (Xh Qe4 Jb)) rfl Zg Kl Zc Km) rfl Tryz.func85 (c:=Wj Tryz.f85) rfl Tryz.call85 (by decide)
  (.leaf) ?_ ?_
 ·exact lf
 ·intro xs r h;refine Eq.trans (Eq.symm ?_) h;kernel_rfl
abbrev Zqi:FnE:={f:=152,args:=[Q1,.int .i64],res:=[Q1],F:=fun xs=>Zkt xs.1 xs.2.1}
theorem Qa8:okE Zqi:=
 ofE (Za Zr2 Zg) Zc Tryz.func152 Tryz.call152 .leaf lf (hk fun _=>by kernel_rfl)
abbrev Zl7:FnB:={f:=153,args:=[.bx 37 (Zo) (.u true),.sh (.bool)],res:= .fp (Zo) 0 [7] [6],F:=fun xs=>Zj9 xs.1 xs.2.1}
theorem Z17:okB Zl7:=
 ofB [0] Zg Zc Tryz.func153 Tryz.call153 .leaf lf (hk fun _=>by kernel_rfl)
end
end Go.Proofs.YtgepmefongfeeaaGreat

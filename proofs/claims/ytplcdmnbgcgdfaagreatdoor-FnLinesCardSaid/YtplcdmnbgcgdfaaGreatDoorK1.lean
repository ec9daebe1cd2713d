/- FnLines: that the program code computes these plain functions, part 1. No condition. -/
import Derived.Test.YtplcdmnbgcgdfaaGreatDoorM2
namespace Go.Proofs.YtplcdmnbgcgdfaaGreatDoor
noncomputable section
open Go.Am
set_option maxRecDepth 100000
set_option linter.unusedVariables false
def tab:Tab:=Q39 [(3,.int .i64),(4,.bool),(5,.int .u8),(9,.str),(22,.slice 5 (.int .u8)),(25,Zru),(26,.slice 88 (Z2)),(28,X9),(30,Vr),(32,Zls),(34,X9),(35,.slice 67 (J3)),(37,Zl),(38,.slice 127 (Qx)),(39,.slice 44 (Wk)),(41,Qs),(44,Wk),(50,.slice 9 (.str)),(65,.slice 106 (Zu)),(67,J3),(71,Kp),(73,.slice 3 (.int .i64)),(76,Zcz),(77,.slice 195 (Zt)),(79,Qc),(80,.slice 317 (Qx)),(82,Yh),(84,Q8),(86,Jl),(88,Z2),(106,Zu),(116,Vx),(127,Qx),(138,.arr 2 (.int .i64)),(169,.int .u64),(195,Zt),(273,.slice 323 (Xi)),(278,Zbv),(317,Qx),(323,Xi)]
theorem Xdt:TOK Tryz.prog 3 (.int .i64):=⟨by kernel_rfl,by kernel_rfl⟩
theorem Xdu:TOK Tryz.prog 4 (.bool):=⟨by kernel_rfl,by kernel_rfl⟩
theorem Xdv:TOK Tryz.prog 5 (.int .u8):=⟨by kernel_rfl,by kernel_rfl⟩
theorem Xdw:TOK Tryz.prog 9 (.str):=⟨by kernel_rfl,by kernel_rfl⟩
theorem Xb4:TOK Tryz.prog 22 (.slice 5 (.int .u8)):=⟨by kernel_rfl,by kernel_rfl⟩
theorem Xb5:TOK Tryz.prog 25 (Zru):=⟨by kernel_rfl,by kernel_rfl⟩
theorem Xb6:TOK Tryz.prog 26 (.slice 88 (Z2)):=⟨by kernel_rfl,by kernel_rfl⟩
theorem Xb7:TOK Tryz.prog 28 (X9):=⟨by kernel_rfl,by kernel_rfl⟩
theorem Xb8:TOK Tryz.prog 30 (Vr):=⟨by kernel_rfl,by kernel_rfl⟩
theorem Xb9:TOK Tryz.prog 32 (Zls):=⟨by kernel_rfl,by kernel_rfl⟩
theorem Xca:TOK Tryz.prog 34 (X9):=⟨by kernel_rfl,by kernel_rfl⟩
theorem Xcb:TOK Tryz.prog 35 (.slice 67 (J3)):=⟨by kernel_rfl,by kernel_rfl⟩
theorem Xcc:TOK Tryz.prog 37 (Zl):=⟨by kernel_rfl,by kernel_rfl⟩
theorem Xcd:TOK Tryz.prog 38 (.slice 127 (Qx)):=⟨by kernel_rfl,by kernel_rfl⟩
theorem Xce:TOK Tryz.prog 39 (.slice 44 (Wk)):=⟨by kernel_rfl,by kernel_rfl⟩
theorem Xcf:TOK Tryz.prog 41 (Qs):=⟨by kernel_rfl,by kernel_rfl⟩
theorem Xcg:TOK Tryz.prog 44 (Wk):=⟨by kernel_rfl,by kernel_rfl⟩
theorem Xch:TOK Tryz.prog 50 (.slice 9 (.str)):=⟨by kernel_rfl,by kernel_rfl⟩
theorem Xci:TOK Tryz.prog 65 (.slice 106 (Zu)):=⟨by kernel_rfl,by kernel_rfl⟩
theorem Xcj:TOK Tryz.prog 67 (J3):=⟨by kernel_rfl,by kernel_rfl⟩
theorem Xck:TOK Tryz.prog 71 (Kp):=⟨by kernel_rfl,by kernel_rfl⟩
theorem Xcl:TOK Tryz.prog 73 (.slice 3 (.int .i64)):=⟨by kernel_rfl,by kernel_rfl⟩
theorem Xcm:TOK Tryz.prog 76 (Zcz):=⟨by kernel_rfl,by kernel_rfl⟩
theorem Xcn:TOK Tryz.prog 77 (.slice 195 (Zt)):=⟨by kernel_rfl,by kernel_rfl⟩
theorem Xco:TOK Tryz.prog 79 (Qc):=⟨by kernel_rfl,by kernel_rfl⟩
theorem Xcp:TOK Tryz.prog 80 (.slice 317 (Qx)):=⟨by kernel_rfl,by kernel_rfl⟩
theorem Xcq:TOK Tryz.prog 82 (Yh):=⟨by kernel_rfl,by kernel_rfl⟩
theorem Xcr:TOK Tryz.prog 84 (Q8):=⟨by kernel_rfl,by kernel_rfl⟩
theorem Xcs:TOK Tryz.prog 86 (Jl):=⟨by kernel_rfl,by kernel_rfl⟩
theorem Xct:TOK Tryz.prog 88 (Z2):=⟨by kernel_rfl,by kernel_rfl⟩
theorem Q97:TOK Tryz.prog 106 (Zu):=⟨by kernel_rfl,by kernel_rfl⟩
theorem Q98:TOK Tryz.prog 116 (Vx):=⟨by kernel_rfl,by kernel_rfl⟩
theorem Q99:TOK Tryz.prog 127 (Qx):=⟨by kernel_rfl,by kernel_rfl⟩
theorem Xaa:TOK Tryz.prog 138 (.arr 2 (.int .i64)):=⟨by kernel_rfl,by kernel_rfl⟩
theorem Xab:TOK Tryz.prog 169 (.int .u64):=⟨by kernel_rfl,by kernel_rfl⟩
theorem Xac:TOK Tryz.prog 195 (Zt):=⟨by kernel_rfl,by kernel_rfl⟩
theorem Xad:TOK Tryz.prog 273 (.slice 323 (Xi)):=⟨by kernel_rfl,by kernel_rfl⟩
theorem Xae:TOK Tryz.prog 278 (Zbv):=⟨by kernel_rfl,by kernel_rfl⟩
theorem Xaf:TOK Tryz.prog 317 (Qx):=⟨by kernel_rfl,by kernel_rfl⟩
theorem Xag:TOK Tryz.prog 323 (Xi):=⟨by kernel_rfl,by kernel_rfl⟩
theorem Xb2:tab.ok Tryz.prog:=(Q5 Xdt (Q5 Xdu (Q5 Xdv (Q5 Xdw (Q5 Xb4 (Q5 Xb5 (Q5 Xb6 (Q5 Xb7 (Q5 Xb8 (Q5 Xb9 (Q5 Xca (Q5 Xcb (Q5 Xcc (Q5 Xcd (Q5 Xce (Q5 Xcf (Q5 Xcg (Q5 Xch (Q5 Xci (Q5 Xcj (Q5 Xck (Q5 Xcl (Q5 Xcm (Q5 Xcn (Q5 Xco (Q5 Xcp (Q5 Xcq (Q5 Xcr (Q5 Xcs (Q5 Xct (Q5 Q97 (Q5 Q98 (Q5 Q99 (Q5 Xaa (Q5 Xab (Q5 Xac (Q5 Xad (Q5 Xae (Q5 Xaf (Q5 Xag Q96))))))))))))))))))))))))))))))))))))))))
noncomputable abbrev glob : Y8 := Y8.vars Tryz.prog [("internal/strconv.uint64pow10", (· = (Go.Lib.pow10Tab.map fun z => Value.int .u64 z).toArray))]
theorem Q83:Qhf Tryz.prog 106 (Zu):=Qhf.of (by kernel_rfl) (by kernel_rfl) rfl (by decide)
theorem Q84:Qhf Tryz.prog 116 (Vx):=Qhf.of (by kernel_rfl) (by kernel_rfl) rfl (by decide)
theorem Q85:Qhf Tryz.prog 138 (.arr 2 (.int .i64)):=Qhf.of (by kernel_rfl) (by kernel_rfl) rfl (by decide)
theorem Q86:Qhf Tryz.prog 195 (Zt):=Qhf.of (by kernel_rfl) (by kernel_rfl) rfl (by decide)
def Xdd:List Nat:=[106,116,138,195]
theorem Xbi:Q8q Tryz.prog tab Xdd:=(Qem Q83 rfl (Qem Q84 rfl (Qem Q85 rfl (Qem Q86 rfl Q87))))
@[reducible] def cfg(ln:List Nat)(Γ:Env)(ΓL:Z26)(ΓB:Zx0)(ΓW:Zx1):Cfg:={τ:=tab,eq:=fun e=>Xdd.any (Nat.beq e),Γ:=Γ,ΓL:=ΓL,ΓB:=ΓB,lent:=ln,ΓW:=ΓW}
theorem Q6n{gl:Y8}{ln:List Nat}{Γ:Env}{ΓL:Z26}{ΓB:Zx0}{ΓW:Zx1}(hs:gl.soft=false)(h:Γ.ok Tryz.prog gl)(hL:ΓL.ok Tryz.prog gl)(hB:ΓB.ok Tryz.prog gl)(hW:ΓW.ok Tryz.prog): (cfg ln Γ ΓL ΓB ΓW).ok Tryz.prog gl:=⟨Xb2,Xbi,h,by kernel_rfl,hL,hB,hs,(fun h=>by cases h),hW,Zlt.ok_none⟩
theorem lf{ρ:Type}{C:Cfg}{n:Nat}{c:Code}{k:Exit→St→Option ρ}:Zc0 C n c (.leaf:An ρ) k:=Xd c k
theorem hk{α β:Type}{f g:α→Option β}(h: ∀x,f x=g x)(x:α)(r:β)(e:g x=some r):f x=some r:=(h x).trans e
abbrev okE(e:FnE):=Zrw Tryz.prog glob e
abbrev okB(e:FnB):=Qpq Tryz.prog glob e
theorem ofE{e:FnE}{Γ:Env}{ΓB:Zx0}(h1:Γ.ok Tryz.prog glob)(h2:ΓB.ok Tryz.prog glob){fn:Func}(hf:Tryz.prog.funcs[e.f]? =some fn)(hcall: ∀args w,(callFunc e.f args).run Tryz.prog w= .ok (.enter e.f args) w)(A:An (Ki e.res))(hA:Zc0 (cfg [] Γ [] ΓB []) fn.ntmps (Qhr fn) A (fnK (cfg [] Γ [] ΓB []).τ e.res fn.results.toList))
  (hF: ∀xs r,e.F xs=some r→Zc1 (cfg [] Γ [] ΓB []) fn.ntmps (Qhr fn) A (fnK (cfg [] Γ [] ΓB []).τ e.res fn.results.toList) (Qpx e.args xs)=some r) (hb:fn.body=some (Qhr fn):=by rfl) (hn:e.args.length≤fn.ntmps:=by decide):okE e:=Zrw.of (Q6n rfl h1 Qzw h2 Qzx) rfl hf hb hcall hn A hA hF
theorem ofB{e:FnB}{Γ:Env}{ΓB:Zx0}(L:List Nat)(h1:Γ.ok Tryz.prog glob)(h2:ΓB.ok Tryz.prog glob){fn:Func}(hf:Tryz.prog.funcs[e.f]? =some fn)(hcall: ∀args w,(callFunc e.f args).run Tryz.prog w= .ok (.enter e.f args) w)(A:An (Qc1 e.res×Zui e.args))(hA:Zc0 (cfg L Γ [] ΓB []) fn.ntmps (Qhr fn) A (Q12 (cfg L Γ [] ΓB []).τ e.args e.res fn.results.toList))
  (hF: ∀xs r,e.F xs=some r→Zc1 (cfg L Γ [] ΓB []) fn.ntmps (Qhr fn) A (Q12 (cfg L Γ [] ΓB []).τ e.args e.res fn.results.toList) (Qpy e.args xs)=some r) (hb:fn.body=some (Qhr fn):=by rfl) (hn:e.args.length≤fn.ntmps:=by decide) (hlent:L=Zpj e.args 0:=by rfl):okB e:=Qpq.of (Q6n rfl h1 Qzw h2 Qzx) rfl hlent hf hb hcall hn A hA hF
abbrev Q1w:FnE:={f:=4,args:=[.slice 5 (.int .u8)],res:=[.bool],F:=fun xs=>Qsu xs.1}
theorem Q0q:okE Q1w:=
 ofE Zf Zd Tryz.func4 Tryz.call4 .leaf lf (hk fun _=>by kernel_rfl)
abbrev Qxr:FnB:={f:=25,args:=[.sh (.slice 5 (.int .u8))],res:= .newb 71 (Kp),F:=fun xs=>Zg2 xs.1}
theorem Zky:okB Qxr:=
 ofB [] Zf Zd Tryz.func25 Tryz.call25 (.seq .leaf (.seq .leaf (.seq (.seq .leaf (.block (.loop Qo6 (fun N v=>Zoo N v.1 v.2.1 v.2.2.1) (fun v=>Zpx v.1 v.2.1 v.2.2.1) (fun K1=> .leaf)))) .leaf))) ⟨lf,lf,⟨lf,fun _=>rfl,fun N=>⟨(fun v=>by kernel_rfl),lf⟩⟩,lf⟩ (hk fun _=>by kernel_rfl)
abbrev Z9h:FnE:={f:=145,args:=[],res:=[Zru],F:=fun xs=>Zsb}
theorem Z7c:okE Z9h:=
 ofE Zf Zd Tryz.func145 Tryz.call145 .leaf lf (hk fun _=>by kernel_rfl)
abbrev Qu6:FnB:={f:=101,args:=[.bx 71 (Kp) (.u false)],res:= .vals [.int .i64],F:=fun xs=>Zi6 xs.1}
theorem Qtd:okB Qu6:=
 ofB [0] Zf Zd Tryz.func101 Tryz.call101 .leaf lf (hk fun _=>by kernel_rfl)
abbrev Qre:FnB:={f:=45,args:=[.bx 71 (Kp) (.u false),.sh (.int .i64)],res:= .vals [.int .i64],F:=fun xs=>Qa xs.1 xs.2.1}
theorem X6:okB Qre:=
 ofB [0] Zf (Zo Qtd Zd) Tryz.func45 Tryz.call45 .leaf lf (hk fun _=>by kernel_rfl)
abbrev Qq5:FnB:={f:=97,args:=[.bx 71 (Kp) (.u false)],res:= .vals [Zru],F:=fun xs=>Zdn xs.1}
theorem Z1h:okB Qq5:=
 ofB [0] (Za Z7c Zf) (Zo X6 Zd) Tryz.func97 Tryz.call97 .leaf lf (hk fun _=>by kernel_rfl)
abbrev Qrx:FnE:={f:=120,args:=[.int .i64],res:=[.bool],F:=fun xs=>Zbu xs.1}
theorem Zt4:okE Qrx:=
 ofE Zf Zd Tryz.func120 Tryz.call120 .leaf lf (hk fun _=>by kernel_rfl)
abbrev Qzt:FnE:={f:=65,args:=[.int .i64,.int .i64,.int .i64],res:=[.bool],F:=fun xs=>Zx xs.1 xs.2.1 xs.2.2.1}
theorem Qq:okE Qzt:=
 ofE Zf Zd Tryz.func65 Tryz.call65 .leaf lf (hk fun _=>by kernel_rfl)
abbrev Quy:FnE:={f:=75,args:=[Zru],res:=[.bool],F:=fun xs=>Zb6 xs.1}
theorem Zvz:okE Quy:=
 ofE (Za Zt4 (Za Qq Zf)) Zd Tryz.func75 Tryz.call75 .leaf lf (hk fun _=>by kernel_rfl)
abbrev Qvj:FnE:={f:=59,args:=[.int .i64],res:=[.bool],F:=fun xs=>Qh xs.1}
theorem Qw:okE Qvj:=
 ofE (Za Qq Zf) Zd Tryz.func59 Tryz.call59 .leaf lf (hk fun _=>by kernel_rfl)
abbrev Qij:FnE:={f:=160,args:=[.int .i64],res:=[X9,.bool],F:=fun xs=>Zh8 xs.1}
theorem Zw5:okE Qij:=
 ofE (Za Qw Zf) Zd Tryz.func160 Tryz.call160 .leaf lf (hk fun _=>by kernel_rfl)
abbrev Qim:FnE:={f:=161,args:=[.int .i64,.int .i64],res:=[Vr,.bool],F:=fun xs=>Zia xs.1 xs.2.1}
theorem Zw7:okE Qim:=
 ofE (Za Qq Zf) Zd Tryz.func161 Tryz.call161 .leaf lf (hk fun _=>by kernel_rfl)
abbrev Qnp:FnE:={f:=162,args:=[.int .i64],res:=[Zls,.bool],F:=fun xs=>Zsw xs.1}
theorem Qjz:okE Qnp:=
 ofE (Za Qq Zf) Zd Tryz.func162 Tryz.call162 .leaf lf (hk fun _=>by kernel_rfl)
abbrev Qnn:FnE:={f:=163,args:=[.int .i64],res:=[X9,.bool],F:=fun xs=>Zsu xs.1}
theorem Qjx:okE Qnn:=
 ofE (Za Qq Zf) Zd Tryz.func163 Tryz.call163 .leaf lf (hk fun _=>by kernel_rfl)
abbrev Qq0:FnE:={f:=102,args:=[.bool,Zru,Zru],res:=[Zl,.bool],F:=fun xs=>Zng xs.1 xs.2.1 xs.2.2.1}
theorem Z1g:okE Qq0:=
 ofE (Za Zvz (Za Zw5 (Za Zw7 (Za Qjz (Za Qjx Zf))))) Zd Tryz.func102 Tryz.call102 .leaf lf (hk fun _=>by kernel_rfl)
abbrev Qq1:FnE:={f:=96,args:=[Zru,Zru],res:=[Qs,.bool],F:=fun xs=>Zu4 xs.1 xs.2.1}
theorem Qoo:okE Qq1:=
 ofE (Za Z1g Zf) Zd Tryz.func96 Tryz.call96 .leaf lf (hk fun _=>by kernel_rfl)
abbrev Qvo:FnE:={f:=245,args:=[Zcz],res:=[Zcz],F:=fun xs=>Zp9 xs.1}
theorem Zwa:okE Qvo:=
 ofE Zf Zd Tryz.func245 Tryz.call245 .leaf lf (hk fun _=>by kernel_rfl)
abbrev Qvg:FnE:={f:=246,args:=[.slice 195 (Zt)],res:=[.slice 195 (Zt)],F:=fun xs=>Zgx xs.1}
theorem Zv7:okE Qvg:=
 ofE Zf Zd Tryz.func246 Tryz.call246 .leaf lf (hk fun _=>by kernel_rfl)
abbrev Qvp:FnE:={f:=174,args:=[Qc],res:=[Qc],F:=fun xs=>Zcc xs.1}
theorem Zbz:okE Qvp:=
 ofE (Za Zwa (Za Zv7 Zf)) Zd Tryz.func174 Tryz.call174 .leaf lf (hk fun _=>by kernel_rfl)
abbrev Qvm:FnE:={f:=247,args:=[Yh],res:=[Yh],F:=fun xs=>Zja xs.1}
theorem Zv9:okE Qvm:=
 ofE Zf Zd Tryz.func247 Tryz.call247 .leaf lf (hk fun _=>by kernel_rfl)
abbrev Qvn:FnE:={f:=175,args:=[Q8],res:=[Q8],F:=fun xs=>Zmy xs.1}
theorem Zq0:okE Qvn:=
 ofE (Za Zv9 Zf) Zd Tryz.func175 Tryz.call175 .leaf lf (hk fun _=>by kernel_rfl)
abbrev Qq6:FnE:={f:=105,args:=[Z2],res:=[Z2],F:=fun xs=>Zdo xs.1}
theorem Zt2:okE Qq6:=
 ofE (Za Zbz (Za Zq0 Zf)) Zd Tryz.func105 Tryz.call105 .leaf lf (hk fun _=>by kernel_rfl)
abbrev Qeh:FnE:={f:=274,args:=[.slice 67 (J3)],res:=[.slice 67 (J3)],F:=fun xs=>Zpc xs.1}
theorem Qbh:okE Qeh:=
 ofE Zf Zd Tryz.func274 Tryz.call274 (.seq .leaf (.seq .leaf (.seq (.seq .leaf (.block (.loop Z5m (fun N v=>Ze7 N v.1 v.2.1 v.2.2.1) (fun v=>Zip v.1 v.2.1 v.2.2.1) (fun K1=> .leaf)))) .leaf))) ⟨lf,lf,⟨lf,fun _=>rfl,fun N=>⟨(fun v=>by kernel_rfl),lf⟩⟩,lf⟩ (hk fun _=>by kernel_rfl)
abbrev Qq7:FnE:={f:=202,args:=[Zl],res:=[Zl],F:=fun xs=>Zy xs.1}
theorem Qg:okE Qq7:=
 ofE (Za Zt2 (Za Qbh Zf)) Zd Tryz.func202 Tryz.call202 (.seq .leaf (.seq .leaf (.seq .leaf (.seq (.seq .leaf (.block (.loop Qge (fun N v=>Zkj N v.1 v.2.1 v.2.2.1 v.2.2.2.1) (fun v=>Zmo v.1 v.2.1 v.2.2.1 v.2.2.2.1) (fun K1=> .leaf)))) .leaf)))) ⟨lf,lf,lf,⟨lf,fun _=>rfl,fun N=>⟨(fun v=>by kernel_rfl),lf⟩⟩,lf⟩ (hk fun _=>by kernel_rfl)
abbrev Qro:FnE:={f:=203,args:=[.slice 127 (Qx)],res:=[.slice 127 (Qx)],F:=fun xs=>Yx xs.1}
theorem Zj6:okE Qro:=
 ofE Zf Zd Tryz.func203 Tryz.call203 .leaf lf (hk fun _=>by kernel_rfl)
abbrev Qrp:FnE:={f:=146,args:=[Qs],res:=[Qs],F:=fun xs=>Zdq xs.1}
theorem Zov:okE Qrp:=
 ofE (Za Qg (Za Zj6 Zf)) Zd Tryz.func146 Tryz.call146 .leaf lf (hk fun _=>by kernel_rfl)
abbrev Qu2:FnE:={f:=262,args:=[Zcz],res:=[.bool],F:=fun xs=>Zb7 xs.1}
theorem Zqw:okE Qu2:=
 ofE (Za Zt4 (Za Qq Zf)) Zd Tryz.func262 Tryz.call262 (.seq .leaf (.seq .leaf (.seq (.seq .leaf (.block (.loop Qku (fun N v=>Zet N v.1 v.2.1) (fun v=>Zaa v.1 v.2.1) (fun K1=> .leaf)))) .leaf))) ⟨lf,lf,⟨lf,fun _=>rfl,fun N=>⟨(fun v=>by kernel_rfl),lf⟩⟩,lf⟩ (hk fun _=>by kernel_rfl)
abbrev Qvh:FnE:={f:=253,args:=[Zt],res:=[.bool],F:=fun xs=>Ztq xs.1}
theorem Zv8:okE Qvh:=
 ofE Zf Zd Tryz.func253 Tryz.call253 .leaf lf (hk fun _=>by kernel_rfl)
abbrev Qnh:FnE:={f:=179,args:=[.slice 195 (Zt)],res:=[.bool],F:=fun xs=>Y7 xs.1}
theorem Zd2:okE Qnh:=
 ofE (Za Zv8 Zf) Zd Tryz.func179 Tryz.call179 (.seq .leaf (.seq (.seq .leaf (.block (.loop Qb2 (fun N v=>Wi N v.1 v.2.1) (fun v=>Za5 v.1 v.2.1) (fun K1=> .leaf)))) .leaf)) ⟨lf,⟨lf,fun _=>rfl,fun N=>⟨(fun v=>by kernel_rfl),lf⟩⟩,lf⟩ (hk fun _=>by kernel_rfl)
abbrev Qna:FnE:={f:=195,args:=[.slice 195 (Zt),Zt],res:=[.slice 195 (Zt)],F:=fun xs=>Jm xs.1 xs.2.1}
theorem Zbe:okE Qna:=
 ofE (Za Zd2 (Za Zv8 (Za Zv7 Zf))) Zd Tryz.func195 Tryz.call195 (.seq .leaf (.seq .leaf (.seq .leaf (.seq .leaf (.seq (.seq .leaf (.block (.loop Qbx (fun N v=>Yj N v.1 v.2.1 v.2.2.1 v.2.2.2.1 v.2.2.2.2.1) (fun v=>Zfi v.1 v.2.1 v.2.2.1 v.2.2.2.1 v.2.2.2.2.1) (fun K1=>(.seq .leaf (.join Qbv (fun v=>We K1 v.1 v.2.1 v.2.2.1 v.2.2.2.1 v.2.2.2.2.1) (.block (.block (.seq .leaf (.cond .leaf (.seq .leaf (.cond (.join Qbw (fun v=>Zhy K1 v.1 v.2.1 v.2.2.1 v.2.2.2.1 v.2.2.2.2.1) .leaf .leaf) .leaf)))))) .leaf)))))) .leaf))))) ⟨lf,lf,lf,lf,⟨lf,fun _=>rfl,fun N=>⟨(fun v=>by kernel_rfl),lf,⟨lf,lf,lf,⟨lf,(fun v=>by kernel_rfl),lf⟩,lf⟩,(fun v=>by kernel_rfl),lf⟩⟩,lf⟩ (hk fun _=>by kernel_rfl)
abbrev Z6q:FnE:={f:=111,args:=[.slice 195 (Zt)],res:=[.int .i64],F:=fun xs=>Kz xs.1}
theorem Ztk:okE Z6q:=
 ofE (Za Zd2 Zf) Zd Tryz.func111 Tryz.call111 (.seq .leaf (.seq .leaf (.seq .leaf (.seq (.seq .leaf (.block (.loop Z0t (fun N v=>Ka N v.1 v.2.1 v.2.2.1) (fun v=>Zat v.1 v.2.1 v.2.2.1) (fun K1=> .leaf)))) .leaf)))) ⟨lf,lf,lf,⟨lf,fun _=>rfl,fun N=>⟨(fun v=>by kernel_rfl),lf⟩⟩,lf⟩ (hk fun _=>by kernel_rfl)
abbrev Qnd:FnE:={f:=263,args:=[.slice 195 (Zt),.int .i64],res:=[.int .i64],F:=fun xs=>Zg1 xs.1 xs.2.1}
theorem Zyj:okE Qnd:=
 ofE (Za Zd2 Zf) Zd Tryz.func263 Tryz.call263 (.seq .leaf (.seq .leaf (.seq (.seq .leaf (.block (.loop Qb0 (fun N v=>Jt N v.1 v.2.1 v.2.2.1) (fun v=>Zk8 v.1 v.2.1 v.2.2.1) (fun K1=>(.seq .leaf (.join Qbz (fun v=>Zh4 K1 v.1 v.2.1 v.2.2.1) .leaf .leaf)))))) .leaf))) ⟨lf,lf,⟨lf,fun _=>rfl,fun N=>⟨(fun v=>by kernel_rfl),lf,lf,(fun v=>by kernel_rfl),lf⟩⟩,lf⟩ (hk fun _=>by kernel_rfl)
abbrev Qr0:FnE:={f:=264,args:=[Qc],res:=[.int .i64],F:=fun xs=>Vw xs.1}
theorem Zow:okE Qr0:=
 ofE Zf Zd Tryz.func264 Tryz.call264 .leaf lf (hk fun _=>by kernel_rfl)
abbrev Qni:FnE:={f:=185,args:=[Qc],res:=[.bool],F:=fun xs=>Yg xs.1}
theorem Jq:okE Qni:=
 ofE (Za Zqw (Za Zd2 (Za Qq (Za Qw (Za Zbe (Za Ztk (Za Zyj (Za Zow Zf)))))))) Zd Tryz.func185 Tryz.call185 (.seq .leaf (.seq .leaf (.seq .leaf (.seq .leaf (.seq (.seq .leaf (.block (.loop Qb3 (fun N v=>Jw N v.1 v.2.1 v.2.2.1) (fun v=>Vi v.1 v.2.1 v.2.2.1) (fun K1=> .leaf)))) (.seq (.seq .leaf (.block (.loop Qb4 (fun N v=>Jx N v.1 v.2.1 v.2.2.1) (fun v=>Za6 v.1 v.2.1 v.2.2.1) (fun K2=> .leaf)))) (.seq .leaf (.seq .leaf (.seq (.seq .leaf (.block (.loop Qb5 (fun N v=>Jy N v.1 v.2.1) (fun v=>Za7 v.1 v.2.1) (fun K3=> .leaf)))) (.seq (.seq .leaf (.block (.loop Qb6 (fun N v=>Jz N v.1 v.2.1) (fun v=>Zfk v.1 v.2.1) (fun K4=> .leaf)))) .leaf)))))))))) ⟨lf,lf,lf,lf,⟨lf,fun _=>rfl,fun N=>⟨(fun v=>by kernel_rfl),lf⟩⟩,⟨lf,fun _=>rfl,fun N=>⟨(fun v=>by kernel_rfl),lf⟩⟩,lf,lf,⟨lf,fun _=>rfl,fun N=>⟨(fun v=>by kernel_rfl),lf⟩⟩,⟨lf,fun _=>rfl,fun N=>⟨(fun v=>by kernel_rfl),lf⟩⟩,lf⟩ (hk fun _=>by kernel_rfl)
abbrev Qng:FnE:={f:=77,args:=[X9],res:=[.bool],F:=fun xs=>Y6 xs.1}
theorem Wc:okE Qng:=
 ofE (Za Qw (Za Qq Zf)) Zd Tryz.func77 Tryz.call77 .leaf lf (hk fun _=>by kernel_rfl)
abbrev Qne:FnE:={f:=265,args:=[Yh],res:=[.bool],F:=fun xs=>Zdx xs.1}
theorem Zhs:okE Qne:=
 ofE (Za Qw Zf) Zd Tryz.func265 Tryz.call265 (.seq .leaf (.seq .leaf (.seq (.seq .leaf (.block (.loop Qb1 (fun N v=>Zd7 N v.1 v.2.1 v.2.2.1) (fun v=>Zk9 v.1 v.2.1 v.2.2.1) (fun K1=> .leaf)))) .leaf))) ⟨lf,lf,⟨lf,fun _=>rfl,fun N=>⟨(fun v=>by kernel_rfl),lf⟩⟩,lf⟩ (hk fun _=>by kernel_rfl)
abbrev Qxp:FnE:={f:=266,args:=[Yh],res:=[.int .i64],F:=fun xs=>Zsd xs.1}
theorem Qvv:okE Qxp:=
 ofE (Za Zhs Zf) Zd Tryz.func266 Tryz.call266 .leaf lf (hk fun _=>by kernel_rfl)
abbrev Qed:FnE:={f:=267,args:=[Yh],res:=[.int .i64],F:=fun xs=>Zak xs.1}
theorem Zps:okE Qed:=
 ofE (Za Zhs Zf) Zd Tryz.func267 Tryz.call267 .leaf lf (hk fun _=>by kernel_rfl)
abbrev Qd0:FnE:={f:=186,args:=[Q8],res:=[.bool],F:=fun xs=>Yk xs.1}
theorem Zbf:okE Qd0:=
 ofE (Za Zhs (Za Qw (Za Qvv (Za Zps Zf)))) Zd Tryz.func186 Tryz.call186 (.seq .leaf (.seq .leaf (.seq .leaf (.seq (.seq .leaf (.block (.seq .leaf (.cond .leaf (.seq .leaf (.cond .leaf (.seq .leaf (.cond .leaf (.seq .leaf (.cond .leaf (.join Z47 (fun v=>Ke v.1 v.2.1) .leaf .leaf))))))))))) .leaf)))) ⟨lf,lf,lf,⟨lf,lf,lf,lf,lf,lf,lf,lf,lf,lf,(fun v=>by kernel_rfl),lf⟩,lf⟩ (hk fun _=>by kernel_rfl)
abbrev Qnk:FnE:={f:=78,args:=[Vr],res:=[.bool],F:=fun xs=>Jn xs.1}
theorem Zd3:okE Qnk:=
 ofE (Za Qq Zf) Zd Tryz.func78 Tryz.call78 .leaf lf (hk fun _=>by kernel_rfl)
abbrev Qdy:FnE:={f:=187,args:=[Jl],res:=[.bool],F:=fun xs=>Zcx xs.1}
theorem Zpp:okE Qdy:=
 ofE (Za Qq Zf) Zd Tryz.func187 Tryz.call187 .leaf lf (hk fun _=>by kernel_rfl)
abbrev Qnj:FnE:={f:=121,args:=[Z2],res:=[.bool],F:=fun xs=>Vo xs.1}
theorem Zyk:okE Qnj:=
 ofE (Za Qw (Za Jq (Za Wc (Za Zbf (Za Zd3 (Za Zpp Zf)))))) Zd Tryz.func121 Tryz.call121 .leaf lf (hk fun _=>by kernel_rfl)
abbrev Qdm:FnE:={f:=76,args:=[.slice 88 (Z2)],res:=[.bool],F:=fun xs=>Yz xs.1}
theorem Zpm:okE Qdm:=
 ofE (Za Zyk Zf) Zd Tryz.func76 Tryz.call76 (.seq .leaf (.seq (.seq .leaf (.block (.loop Z4w (fun N v=>Yc N v.1 v.2.1) (fun v=>Wf v.1 v.2.1) (fun K1=> .leaf)))) .leaf)) ⟨lf,⟨lf,fun _=>rfl,fun N=>⟨(fun v=>by kernel_rfl),lf⟩⟩,lf⟩ (hk fun _=>by kernel_rfl)
abbrev Qqv:FnE:={f:=79,args:=[Zls],res:=[.bool],F:=fun xs=>Zbq xs.1}
theorem Zt1:okE Qqv:=
 ofE (Za Qq Zf) Zd Tryz.func79 Tryz.call79 .leaf lf (hk fun _=>by kernel_rfl)
abbrev Qqu:FnE:={f:=80,args:=[X9],res:=[.bool],F:=fun xs=>Wy xs.1}
theorem Zou:okE Qqu:=
 ofE (Za Qq Zf) Zd Tryz.func80 Tryz.call80 .leaf lf (hk fun _=>by kernel_rfl)
abbrev Qnl:FnE:={f:=141,args:=[.int .i64],res:=[.str],F:=fun xs=>Wr xs.1}
theorem Zyl:okE Qnl:=
 ofE Zf Zd Tryz.func141 Tryz.call141 .leaf lf (hk fun _=>by kernel_rfl)
abbrev Z3n:FnE:={f:=268,args:=[Zu],res:=[.bool],F:=fun xs=>Kd xs.1}
theorem Zk6:okE Z3n:=
 ofE Zf Zd Tryz.func268 Tryz.call268 (.seq .leaf (.seq (.seq .leaf (.block (.join Zy9 (fun v=>Xs v.1) .leaf .leaf))) .leaf)) ⟨lf,⟨lf,lf,(fun v=>by kernel_rfl),lf⟩,lf⟩ (hk fun _=>by kernel_rfl)
abbrev Qvl:FnE:={f:=188,args:=[Zu],res:=[Zu],F:=fun xs=>Zi9 xs.1}
theorem Z4f:okE Qvl:=
 ofE (Za Zk6 Zf) Zd Tryz.func188 Tryz.call188 (.seq .leaf (.seq .leaf (.join Qk3 (fun v=>Zi0 v.1 v.2.1 v.2.2.1) .leaf (.seq (.seq .leaf (.block (.seq .leaf (.cond .leaf (.seq .leaf (.cond .leaf (.seq .leaf (.cond .leaf (.join Qk4 (fun v=>Zi1 v.1 v.2.1 v.2.2.1 v.2.2.2.1) .leaf .leaf))))))))) .leaf)))) ⟨lf,lf,lf,(fun v=>by kernel_rfl),⟨lf,lf,lf,lf,lf,lf,lf,lf,(fun v=>by kernel_rfl),lf⟩,lf⟩ (hk fun _=>by kernel_rfl)
abbrev Qqx:FnE:={f:=122,args:=[Zu],res:=[.bool],F:=fun xs=>Jv xs.1}
theorem Vu:okE Qqx:=
 ofE (Za Zyl (Za Z4f (Za Qw Zf))) Zd Tryz.func122 Tryz.call122 (.seq .leaf (.seq .leaf (.seq (.seq .leaf (.block (.seq .leaf (.cond .leaf (.join Qga (fun v=>Zo4 v.1 v.2.1) .leaf .leaf))))) .leaf))) ⟨lf,lf,⟨lf,lf,lf,lf,(fun v=>by kernel_rfl),lf⟩,lf⟩ (hk fun _=>by kernel_rfl)
abbrev Qiz:FnE:={f:=81,args:=[.slice 106 (Zu)],res:=[.bool],F:=fun xs=>Zio xs.1}
theorem Qfp:okE Qiz:=
 ofE (Za Vu Zf) Zd Tryz.func81 Tryz.call81 (.seq .leaf (.seq (.seq .leaf (.block (.loop Z79 (fun N v=>W2 N v.1 v.2.1) (fun v=>J1 v.1 v.2.1) (fun K1=> .leaf)))) .leaf)) ⟨lf,⟨lf,fun _=>rfl,fun N=>⟨(fun v=>by kernel_rfl),lf⟩⟩,lf⟩ (hk fun _=>by kernel_rfl)
abbrev Qit:FnE:={f:=82,args:=[.slice 88 (Z2)],res:=[.int .i64],F:=fun xs=>Ze2 xs.1}
theorem Zxa:okE Qit:=
 ofE (Za Zpm Zf) Zd Tryz.func82 Tryz.call82 (.seq .leaf (.seq .leaf (.seq (.seq .leaf (.block (.loop Z75 (fun N v=>Vd N v.1 v.2.1 v.2.2.1) (fun v=>Kg v.1 v.2.1 v.2.2.1) (fun K1=> .leaf)))) .leaf))) ⟨lf,lf,⟨lf,fun _=>rfl,fun N=>⟨(fun v=>by kernel_rfl),lf⟩⟩,lf⟩ (hk fun _=>by kernel_rfl)
abbrev Qir:FnE:={f:=83,args:=[.slice 88 (Z2)],res:=[.int .i64],F:=fun xs=>Ze1 xs.1}
theorem Zw9:okE Qir:=
 ofE (Za Zpm Zf) Zd Tryz.func83 Tryz.call83 (.seq .leaf (.seq .leaf (.seq (.seq .leaf (.block (.loop Z72 (fun N v=>Vc N v.1 v.2.1 v.2.2.1) (fun v=>Kf v.1 v.2.1 v.2.2.1) (fun K1=> .leaf)))) .leaf))) ⟨lf,lf,⟨lf,fun _=>rfl,fun N=>⟨(fun v=>by kernel_rfl),lf⟩⟩,lf⟩ (hk fun _=>by kernel_rfl)
abbrev Quz:FnE:={f:=39,args:=[Zl],res:=[.bool],F:=fun xs=>Z5 xs.1}
theorem Qz:okE Quz:=
 ofE (Za Zvz (Za Zpm (Za Wc (Za Zd3 (Za Zt1 (Za Zou (Za Qq (Za Qfp (Za Zxa (Za Zw9 Zf)))))))))) Zd Tryz.func39 Tryz.call39 (.seq .leaf (.seq .leaf (.seq (.seq .leaf (.block (.loop Qks (fun N v=>Ji N v.1 v.2.1) (fun v=>Ks v.1 v.2.1) (fun K1=> .leaf)))) .leaf))) ⟨lf,lf,⟨lf,fun _=>rfl,fun N=>⟨(fun v=>by kernel_rfl),lf⟩⟩,lf⟩ (hk fun _=>by kernel_rfl)
abbrev Qdl:FnE:={f:=60,args:=[.slice 127 (Qx)],res:=[.bool],F:=fun xs=>Zaf xs.1}
theorem Qay:okE Qdl:=
 ofE (Za Qq Zf) Zd Tryz.func60 Tryz.call60 (.seq .leaf (.seq (.seq .leaf (.block (.loop Z4v (fun N v=>V1 N v.1 v.2.1) (fun v=>Ja v.1 v.2.1) (fun K1=> .leaf)))) .leaf)) ⟨lf,⟨lf,fun _=>rfl,fun N=>⟨(fun v=>by kernel_rfl),lf⟩⟩,lf⟩ (hk fun _=>by kernel_rfl)
abbrev Qu1:FnE:={f:=31,args:=[Qs],res:=[.bool],F:=fun xs=>Zgj xs.1}
theorem Zl6:okE Qu1:=
 ofE (Za Qw (Za Qz (Za Qay Zf))) Zd Tryz.func31 Tryz.call31 (.seq .leaf (.seq (.seq .leaf (.block (.loop Qkt (fun N v=>Zes N v.1 v.2.1) (fun v=>W9 v.1 v.2.1) (fun K1=> .leaf)))) .leaf)) ⟨lf,⟨lf,fun _=>rfl,fun N=>⟨(fun v=>by kernel_rfl),lf⟩⟩,lf⟩ (hk fun _=>by kernel_rfl)
abbrev Qia:FnE:={f:=204,args:=[.int .i64],res:=[.str],F:=fun xs=>Zra xs.1}
theorem Qfe:okE Qia:=
 ofE (Za Qq Zf) Zd Tryz.func204 Tryz.call204 .leaf lf (hk fun _=>by kernel_rfl)
abbrev Qrm:FnE:={f:=205,args:=[Vx],res:=[Vx],F:=fun xs=>Zro xs.1}
theorem Z1m:okE Qrm:=
 ofE Zf Zd Tryz.func205 Tryz.call205 (.seq .leaf (.seq .leaf (.seq (.seq .leaf (.block (.join Qgt (fun v=>Zkr v.1 v.2.1 v.2.2.1 v.2.2.2.1 v.2.2.2.2.1) .leaf (.cond .leaf (.join Qgu (fun v=>Zks v.1 v.2.1 v.2.2.1 v.2.2.2.1 v.2.2.2.2.1) .leaf (.cond .leaf (.seq .leaf (.cond .leaf (.join Qgv (fun v=>Zfy v.1 v.2.1 v.2.2.1 v.2.2.2.1) .leaf .leaf))))))))) .leaf))) ⟨lf,lf,⟨lf,lf,(fun v=>by kernel_rfl),lf,lf,(fun v=>by kernel_rfl),lf,lf,lf,lf,(fun v=>by kernel_rfl),lf⟩,lf⟩ (hk fun _=>by kernel_rfl)
abbrev Qek:FnE:={f:=206,args:=[.str],res:=[.bool],F:=fun xs=>Zub xs.1}
theorem Qbk:okE Qek:=
 ofE (Za Qq Zf) Zd Tryz.func206 Tryz.call206 (.seq .leaf (.seq (.seq .leaf (.block (.loop Z5r (fun N v=>Zfa N v.1 v.2.1) (fun v=>Ziu v.1 v.2.1) (fun K1=> .leaf)))) .leaf)) ⟨lf,⟨lf,fun _=>rfl,fun N=>⟨(fun v=>by kernel_rfl),lf⟩⟩,lf⟩ (hk fun _=>by kernel_rfl)
abbrev Z6x:FnE:={f:=207,args:=[.str],res:=[.bool],F:=fun xs=>Zrp xs.1}
theorem Z4d:okE Z6x:=
 ofE (Za Qq Zf) Zd Tryz.func207 Tryz.call207 (.seq .leaf (.seq (.seq .leaf (.block (.loop Z02 (fun N v=>Zcb N v.1 v.2.1) (fun v=>Zfr v.1 v.2.1) (fun K1=> .leaf)))) .leaf)) ⟨lf,⟨lf,fun _=>rfl,fun N=>⟨(fun v=>by kernel_rfl),lf⟩⟩,lf⟩ (hk fun _=>by kernel_rfl)
abbrev Qrf:FnE:={f:=201,args:=[.int .i64],res:=[.int .u8],F:=fun xs=>Zgt xs.1}
theorem Z1k:okE Qrf:=
 ofE Zf Zd Tryz.func201 Tryz.call201 .leaf lf (hk fun _=>by kernel_rfl)
abbrev Qi0:FnE:={f:=275,args:=[.int .u8],res:=[.int .i64],F:=fun xs=>Zrl xs.1}
theorem Qfq:okE Qi0:=
 ofE (Za Z1k Zf) Zd Tryz.func275 Tryz.call275 (.seq .leaf (.seq (.seq .leaf (.block (.loop Z8a (fun N v=>Ve N v.1 v.2.1) (fun v=>Zjw v.1 v.2.1) (fun K1=> .leaf)))) .leaf)) ⟨lf,⟨lf,fun _=>rfl,fun N=>⟨(fun v=>by kernel_rfl),lf⟩⟩,lf⟩ (hk fun _=>by kernel_rfl)
abbrev Qh7:FnE:={f:=208,args:=[.str],res:=[.str,.bool],F:=fun xs=>Zmd xs.1}
theorem Zw3:okE Qh7:=
 ofE (Za Qfq Zf) Zd Tryz.func208 Tryz.call208 (.seq .leaf (.seq .leaf (.seq .leaf (.seq (.seq .leaf (.block (.loop Z7q (fun N v=>Zgc N v.1 v.2.1 v.2.2.1) (fun v=>Zjl v.1 v.2.1 v.2.2.1) (fun K1=> .leaf)))) .leaf)))) ⟨lf,lf,lf,⟨lf,fun _=>rfl,fun N=>⟨(fun v=>by kernel_rfl),lf⟩⟩,lf⟩ (hk fun _=>by kernel_rfl)
abbrev Qqw:FnE:={f:=147,args:=[Vx],res:=[.bool],F:=fun xs=>Zrc xs.1}
theorem Z1f:okE Qqw:=
 ofE (Za Qfe (Za Z1m (Za Qq (Za Qbk (Za Z4d (Za Zw3 Zf)))))) Zd Tryz.func147 Tryz.call147 .leaf lf (hk fun _=>by kernel_rfl)
abbrev Qie:FnE:={f:=148,args:=[Qs,.bool],res:=[.slice 127 (Qx)],F:=fun xs=>Zb8 xs.1 xs.2.1}
theorem Zlj:okE Qie:=
 ofE (Za Zj6 Zf) Zd Tryz.func148 Tryz.call148 .leaf lf (hk fun _=>by kernel_rfl)
abbrev Qux:FnE:={f:=149,args:=[Qs,.bool],res:=[Zl],F:=fun xs=>Zdw xs.1 xs.2.1}
theorem Zvw:okE Qux:=
 ofE (Za Qg Zf) Zd Tryz.func149 Tryz.call149 .leaf lf (hk fun _=>by kernel_rfl)
abbrev Qnf:FnE:={f:=61,args:=[Zl],res:=[.bool],F:=fun xs=>Wq xs.1}
theorem Zht:okE Qnf:=
 ofE Zf Zd Tryz.func61 Tryz.call61 .leaf lf (hk fun _=>by kernel_rfl)
abbrev Qrd:FnE:={f:=209,args:=[Zl],res:=[.bool],F:=fun xs=>Yw xs.1}
theorem Yy:okE Qrd:=
 ofE (Za Qz (Za Zht Zf)) Zd Tryz.func209 Tryz.call209 .leaf lf (hk fun _=>by kernel_rfl)
abbrev Qii:FnE:={f:=325,args:=[Vr],res:=[.bool],F:=fun xs=>Zh7 xs.1}
theorem Zqx:okE Qii:=
 ofE (Za Zd3 Zf) Zd Tryz.func325 Tryz.call325 .leaf lf (hk fun _=>by kernel_rfl)
abbrev Z9u:FnE:={f:=326,args:=[Vr,.int .i64,.int .i64],res:=[Vr,.bool],F:=fun xs=>Zii xs.1 xs.2.1 xs.2.2.1}
theorem Zuk:okE Z9u:=
 ofE (Za Zqx (Za Qq Zf)) Zd Tryz.func326 Tryz.call326 (.seq .leaf (.seq .leaf (.join Z2y (fun v=>Zhf v.1 v.2.1 v.2.2.1) .leaf .leaf))) ⟨lf,lf,lf,(fun v=>by kernel_rfl),lf⟩ (hk fun _=>by kernel_rfl)
abbrev Qn5:FnE:={f:=276,args:=[Zl],res:=[Vr,.bool],F:=fun xs=>Zop xs.1}
theorem Zyq:okE Qn5:=
 ofE (Za Zqx (Za Zuk Zf)) Zd Tryz.func276 Tryz.call276 .leaf lf (hk fun _=>by kernel_rfl)
abbrev Qih:FnE:={f:=327,args:=[X9],res:=[.bool],F:=fun xs=>Zmh xs.1}
theorem Zw4:okE Qih:=
 ofE (Za Zou Zf) Zd Tryz.func327 Tryz.call327 .leaf lf (hk fun _=>by kernel_rfl)
abbrev Qd9:FnE:={f:=328,args:=[X9],res:=[X9,.bool],F:=fun xs=>Zo9 xs.1}
theorem Qbc:okE Qd9:=
 ofE (Za Zw4 Zf) Zd Tryz.func328 Tryz.call328 .leaf lf (hk fun _=>by kernel_rfl)
abbrev Qn3:FnE:={f:=277,args:=[X9,.bool],res:=[X9,.bool],F:=fun xs=>Zg3 xs.1 xs.2.1}
theorem Zyp:okE Qn3:=
 ofE (Za Zw4 (Za Qbc Zf)) Zd Tryz.func277 Tryz.call277 .leaf lf (hk fun _=>by kernel_rfl)
abbrev Qi3:FnE:={f:=329,args:=[Zl,Z2],res:=[Vr,.bool],F:=fun xs=>Zms xs.1 xs.2.1}
theorem Zxd:okE Qi3:=
 ofE (Za Zqx (Za Zuk Zf)) Zd Tryz.func329 Tryz.call329 .leaf lf (hk fun _=>by kernel_rfl)
abbrev Qnm:FnE:={f:=279,args:=[X9],res:=[.bool],F:=fun xs=>Zoj xs.1}
theorem Zym:okE Qnm:=
 ofE (Za Wc Zf) Zd Tryz.func279 Tryz.call279 .leaf lf (hk fun _=>by kernel_rfl)
abbrev Qi2:FnE:={f:=278,args:=[Zl,Z2],res:=[.slice 106 (Zu)],F:=fun xs=>Zrm xs.1 xs.2.1}
theorem Qfr:okE Qi2:=
 ofE (Za Zxd (Za Zym Zf)) Zd Tryz.func278 Tryz.call278 (.seq .leaf (.seq .leaf (.join Z8b (fun v=>Zgu v.1 v.2.1 v.2.2.1) .leaf (.join Z8c (fun v=>Zgv v.1 v.2.1 v.2.2.1) .leaf (.seq .leaf (.join Z8d (fun v=>Zgw v.1 v.2.1) .leaf .leaf)))))) ⟨lf,lf,lf,(fun v=>by kernel_rfl),lf,(fun v=>by kernel_rfl),lf,lf,(fun v=>by kernel_rfl),lf⟩ (hk fun _=>by kernel_rfl)
abbrev Z3h:FnE:={f:=210,args:=[Zl],res:=[.slice 106 (Zu)],F:=fun xs=>Zjk xs.1}
theorem Z15:okE Z3h:=
 ofE (Za Yy (Za Zyq (Za Zyp (Za Qfr (Za Zym Zf))))) Zd Tryz.func210 Tryz.call210 (.seq .leaf (.seq .leaf (.seq .leaf (.seq .leaf (.join Zyz (fun v=>Zay v.1 v.2.1) .leaf (.seq .leaf (.join Zy0 (fun v=>Zaz v.1 v.2.1) .leaf (.seq .leaf (.join Zy1 (fun v=>Za0 v.1 v.2.1) .leaf (.seq (.seq .leaf (.block (.loop Zy4 (fun N v=>Za3 N v.1 v.2.1 v.2.2.1) (fun v=>Zei v.1 v.2.1 v.2.2.1) (fun K1=> .leaf)))) (.join Zy2 (fun v=>Za1 v.1 v.2.1) .leaf (.join Zy3 (fun v=>Za2 v.1 v.2.1) .leaf .leaf)))))))))))) ⟨lf,lf,lf,lf,lf,(fun v=>by kernel_rfl),lf,lf,(fun v=>by kernel_rfl),lf,lf,(fun v=>by kernel_rfl),⟨lf,fun _=>rfl,fun N=>⟨(fun v=>by kernel_rfl),lf⟩⟩,lf,(fun v=>by kernel_rfl),lf,(fun v=>by kernel_rfl),lf⟩ (hk fun _=>by kernel_rfl)
abbrev Qnz:FnE:={f:=337,args:=[.int .i64],res:=[.int .i64],F:=fun xs=>Zon xs.1}
theorem Zyo:okE Qnz:=
 ofE Zf Zd Tryz.func337 Tryz.call337 .leaf lf (hk fun _=>by kernel_rfl)
abbrev Z9i:FnE:={f:=365,args:=[.int .i64,.int .i64],res:=[.str],F:=fun xs=>Zsc xs.1 xs.2.1}
theorem Z7d:okE Z9i:=
 ofE (Za Qq Zf) Zd Tryz.func365 Tryz.call365 (.seq .leaf (.seq .leaf (.seq .leaf (.seq (.seq .leaf (.block (.loop Z2j (fun N v=>W5 N v.1 v.2.1 v.2.2.1 v.2.2.2.1) (fun v=>Zoi v.1 v.2.1 v.2.2.1 v.2.2.2.1) (fun K1=> .leaf)))) .leaf)))) ⟨lf,lf,lf,⟨lf,fun _=>rfl,fun N=>⟨(fun v=>by kernel_rfl),lf⟩⟩,lf⟩ (hk fun _=>by kernel_rfl)
abbrev Qvd:FnE:={f:=361,args:=[.int .i64],res:=[.str],F:=fun xs=>Zp8 xs.1}
theorem Zv6:okE Qvd:=
 ofE (Za Z7d Zf) Zd Tryz.func361 Tryz.call361 .leaf lf (hk fun _=>by kernel_rfl)
abbrev Qds:FnE:={f:=338,args:=[.int .i64],res:=[.str],F:=fun xs=>Zo0 xs.1}
theorem Qa1:okE Qds:=
 ofE (Za Zyo (Za Zv6 Zf)) Zd Tryz.func338 Tryz.call338 (.seq .leaf (.seq .leaf (.seq .leaf (.seq (.seq .leaf (.block (.loop Z41 (fun N v=>Yd N v.1 v.2.1 v.2.2.1 v.2.2.2.1) (fun v=>Zh2 v.1 v.2.1 v.2.2.1 v.2.2.2.1) (fun K1=>(.seq .leaf (.seq (.block (.seq .leaf (.join Z40 (fun v=>Jg K1 v.1 v.2.1 v.2.2.1 v.2.2.2.1 v.2.2.2.2.1) .leaf .leaf))) .leaf)))))) .leaf)))) ⟨lf,lf,lf,⟨lf,fun _=>rfl,fun N=>⟨(fun v=>by kernel_rfl),lf,⟨lf,lf,(fun v=>by kernel_rfl),lf⟩,lf⟩⟩,lf⟩ (hk fun _=>by kernel_rfl)
abbrev Z9k:FnE:={f:=292,args:=[.slice 3 (.int .i64)],res:=[.str],F:=fun xs=>X5 xs.1}
theorem Z7e:okE Z9k:=
 ofE (Za Zyo (Za Qa1 Zf)) Zd Tryz.func292 Tryz.call292 (.seq .leaf (.seq .leaf (.seq (.seq .leaf (.block (.loop Z2o (fun N v=>Zc8 N v.1 v.2.1 v.2.2.1) (fun v=>Zg0 v.1 v.2.1 v.2.2.1) (fun K1=> .leaf)))) .leaf))) ⟨lf,lf,⟨lf,fun _=>rfl,fun N=>⟨(fun v=>by kernel_rfl),lf⟩⟩,lf⟩ (hk fun _=>by kernel_rfl)
abbrev Z9j:FnE:={f:=223,args:=[Zu],res:=[.str],F:=fun xs=>Zd5 xs.1}
theorem Znx:okE Z9j:=
 ofE (Za Vu (Za Z7e Zf)) Zd Tryz.func223 Tryz.call223 (.seq .leaf (.seq .leaf (.seq (.seq .leaf (.block (.seq .leaf (.cond .leaf (.seq .leaf (.cond .leaf (.seq .leaf (.cond (.seq .leaf (.join Z2k (fun v=>Zha v.1 v.2.1) .leaf .leaf)) (.join Z2l (fun v=>Zhb v.1 v.2.1 v.2.2.1) .leaf (.cond .leaf (.join Z2m (fun v=>Zhc v.1 v.2.1) .leaf .leaf))))))))))) (.seq .leaf (.join Z2n (fun v=>Zhd v.1 v.2.1) .leaf .leaf))))) ⟨lf,lf,⟨lf,lf,lf,lf,lf,lf,⟨lf,lf,(fun v=>by kernel_rfl),lf⟩,lf,(fun v=>by kernel_rfl),lf,lf,(fun v=>by kernel_rfl),lf⟩,lf,lf,(fun v=>by kernel_rfl),lf⟩ (hk fun _=>by kernel_rfl)
abbrev Qic:FnE:={f:=211,args:=[Zu],res:=[.int .i64],F:=fun xs=>Zen xs.1}
theorem Zqv:okE Qic:=
 ofE (Za Znx Zf) Zd Tryz.func211 Tryz.call211 .leaf lf (hk fun _=>by kernel_rfl)
abbrev Z6o:FnE:={f:=280,args:=[X9],res:=[X9],F:=fun xs=>Zga xs.1}
theorem Ztj:okE Z6o:=
 ofE (Za Wc Zf) Zd Tryz.func280 Tryz.call280 .leaf lf (hk fun _=>by kernel_rfl)
abbrev Qdt:FnE:={f:=104,args:=[.slice 88 (Z2),.int .i64],res:=[.int .i64],F:=fun xs=>Zfx xs.1 xs.2.1}
theorem Zpo:okE Qdt:=
 ofE Zf Zd Tryz.func104 Tryz.call104 (.seq .leaf (.seq (.seq .leaf (.block (.loop Z42 (fun N v=>Zem N v.1 v.2.1 v.2.2.1) (fun v=>Zh3 v.1 v.2.1 v.2.2.1) (fun K1=> .leaf)))) .leaf)) ⟨lf,⟨lf,fun _=>rfl,fun N=>⟨(fun v=>by kernel_rfl),lf⟩⟩,lf⟩ (hk fun _=>by kernel_rfl)
abbrev Qn0:FnE:={f:=222,args:=[Zl,.int .i64],res:=[Z2,.bool],F:=fun xs=>Q0 xs.1 xs.2.1}
theorem Q3:okE Qn0:=
 ofE (Za Zpo (Za Zt2 Zf)) Zd Tryz.func222 Tryz.call222 .leaf lf (hk fun _=>by kernel_rfl)
abbrev Qrh:FnB:={f:=281,args:=[.sh (Zl),.sh (Z2),.sh (.int .i64)],res:= .shr [Z2],F:=fun xs=>Zva xs.1 xs.2.1 xs.2.2.1}
theorem Qov:okB Qrh:=
 ofB [] (Za Zxd (Za Ztj Zf)) Zd Tryz.func281 Tryz.call281 .leaf lf (hk fun _=>by kernel_rfl)
abbrev Qip:FnE:={f:=49,args:=[.slice 88 (Z2),Z2],res:=[.slice 88 (Z2)],F:=fun xs=>Xo xs.1 xs.2.1}
theorem Xr:okE Qip:=
 ofE (Za Zpo (Za Zt2 Zf)) Zd Tryz.func49 Tryz.call49 (.seq .leaf (.seq .leaf (.seq .leaf (.seq .leaf (.seq (.seq .leaf (.block (.loop Z71 (fun N v=>Vb N v.1 v.2.1 v.2.2.1 v.2.2.2.1 v.2.2.2.2.1 v.2.2.2.2.2.1) (fun v=>Zju v.1 v.2.1 v.2.2.1 v.2.2.2.1 v.2.2.2.2.1 v.2.2.2.2.2.1) (fun K1=>(.seq .leaf (.seq (.block (.seq .leaf (.join Z70 (fun v=>Zco K1 v.1 v.2.1 v.2.2.1 v.2.2.2.1 v.2.2.2.2.1 v.2.2.2.2.2.1 v.2.2.2.2.2.2.1) .leaf .leaf))) .leaf)))))) .leaf))))) ⟨lf,lf,lf,lf,⟨lf,fun _=>rfl,fun N=>⟨(fun v=>by kernel_rfl),lf,⟨lf,lf,(fun v=>by kernel_rfl),lf⟩,lf⟩⟩,lf⟩ (hk fun _=>by kernel_rfl)
abbrev Z9q:FnE:={f:=212,args:=[Zl,Zu],res:=[Zl],F:=fun xs=>Znf xs.1 xs.2.1}
theorem Z7j:okE Z9q:=
 ofE (Za Qg (Za Qz (Za Zyq (Za Zyp (Za Ztj (Za Q3 (Za Xr Zf))))))) (Zo Qov Zd) Tryz.func212 Tryz.call212 (.seq .leaf (.seq .leaf (.seq .leaf (.seq (.seq .leaf (.block (.seq .leaf (.cond .leaf (.seq .leaf (.cond .leaf (.seq .leaf (.cond .leaf (.seq .leaf (.cond .leaf (.seq .leaf (.seq .leaf (.cond (.frz [(12,.u false)]) .leaf))))))))))))) .leaf)))) ⟨lf,lf,lf,⟨lf,lf,lf,lf,lf,lf,lf,lf,lf,lf,lf,trivial,lf⟩,lf⟩ (hk fun _=>by kernel_rfl)
abbrev Qei:FnE:={f:=282,args:=[Zl],res:=[.slice 323 (Xi)],F:=fun xs=>Zpd xs.1}
theorem Qbi:okE Qei:=
 ofE Zf Zd Tryz.func282 Tryz.call282 (.seq .leaf (.seq .leaf (.seq (.seq .leaf (.block (.loop Z5o (fun N v=>V6 N v.1 v.2.1 v.2.2.1) (fun v=>Zir v.1 v.2.1 v.2.2.1) (fun K1=>(.seq .leaf (.join Z5n (fun v=>Ze8 K1 v.1 v.2.1 v.2.2.1) .leaf .leaf)))))) .leaf))) ⟨lf,lf,⟨lf,fun _=>rfl,fun N=>⟨(fun v=>by kernel_rfl),lf,lf,(fun v=>by kernel_rfl),lf⟩⟩,lf⟩ (hk fun _=>by kernel_rfl)
abbrev Qej:FnE:={f:=283,args:=[.slice 323 (Xi),.int .i64],res:=[.slice 323 (Xi)],F:=fun xs=>Zpe xs.1 xs.2.1}
theorem Qbj:okE Qej:=
 ofE Zf Zd Tryz.func283 Tryz.call283 (.seq .leaf (.seq .leaf (.seq (.seq .leaf (.block (.loop Z5q (fun N v=>V7 N v.1 v.2.1 v.2.2.1 v.2.2.2.1) (fun v=>Zis v.1 v.2.1 v.2.2.1 v.2.2.2.1) (fun K1=>(.seq .leaf (.join Z5p (fun v=>Ze9 K1 v.1 v.2.1 v.2.2.1 v.2.2.2.1) .leaf .leaf)))))) .leaf))) ⟨lf,lf,⟨lf,fun _=>rfl,fun N=>⟨(fun v=>by kernel_rfl),lf,lf,(fun v=>by kernel_rfl),lf⟩⟩,lf⟩ (hk fun _=>by kernel_rfl)
abbrev Z3f:FnE:={f:=357,args:=[.slice 323 (Xi)],res:=[.bool],F:=fun xs=>Zji xs.1}
theorem Z13:okE Z3f:=
 ofE (Za Qw (Za Zpp Zf)) Zd Tryz.func357 Tryz.call357 (.seq .leaf (.seq (.seq .leaf (.block (.loop Zyx (fun N v=>Zax N v.1 v.2.1) (fun v=>Zeg v.1 v.2.1) (fun K1=> .leaf)))) .leaf)) ⟨lf,⟨lf,fun _=>rfl,fun N=>⟨(fun v=>by kernel_rfl),lf⟩⟩,lf⟩ (hk fun _=>by kernel_rfl)
abbrev Qd5:FnE:={f:=330,args:=[.slice 323 (Xi)],res:=[.slice 3 (.int .i64)],F:=fun xs=>Zo7 xs.1}
theorem Qba:okE Qd5:=
 ofE (Za Z13 Zf) Zd Tryz.func330 Tryz.call330 (.seq .leaf (.seq .leaf (.seq .leaf (.seq (.seq .leaf (.block (.loop Z5b (fun N v=>Jj N v.1 v.2.1 v.2.2.1 v.2.2.2.1) (fun v=>Zh6 v.1 v.2.1 v.2.2.1 v.2.2.2.1) (fun K1=>(.seq .leaf (.join Z49 (fun v=>Zew K1 v.1 v.2.1 v.2.2.1 v.2.2.2.1) (.block (.join Z5a (fun v=>Zex K1 v.1 v.2.1 v.2.2.1 v.2.2.2.1) .leaf .leaf)) .leaf)))))) .leaf)))) ⟨lf,lf,lf,⟨lf,fun _=>rfl,fun N=>⟨(fun v=>by kernel_rfl),lf,⟨lf,(fun v=>by kernel_rfl),lf⟩,(fun v=>by kernel_rfl),lf⟩⟩,lf⟩ (hk fun _=>by kernel_rfl)
abbrev Qn1:FnE:={f:=331,args:=[.slice 3 (.int .i64),.int .i64],res:=[.int .i64],F:=fun xs=>Zs2 xs.1 xs.2.1}
theorem Qj8:okE Qn1:=
 ofE Zf Zd Tryz.func331 Tryz.call331 (.seq .leaf (.seq (.seq .leaf (.block (.loop Qcd (fun N v=>Zin N v.1 v.2.1 v.2.2.1) (fun v=>Zld v.1 v.2.1 v.2.2.1) (fun K1=> .leaf)))) .leaf)) ⟨lf,⟨lf,fun _=>rfl,fun N=>⟨(fun v=>by kernel_rfl),lf⟩⟩,lf⟩ (hk fun _=>by kernel_rfl)
abbrev Qd6:FnE:={f:=284,args:=[.slice 323 (Xi),.int .i64],res:=[.int .i64],F:=fun xs=>Zo8 xs.1 xs.2.1}
theorem Qbb:okE Qd6:=
 ofE (Za Qba (Za Qj8 Zf)) Zd Tryz.func284 Tryz.call284 (.seq .leaf (.seq .leaf (.seq .leaf (.seq (.seq .leaf (.block (.loop Z5d (fun N v=>Jk N v.1 v.2.1 v.2.2.1 v.2.2.2.1 v.2.2.2.2.1) (fun v=>Zib v.1 v.2.1 v.2.2.1 v.2.2.2.1 v.2.2.2.2.1) (fun K1=>(.seq .leaf (.seq (.block (.seq .leaf (.block (.loop Z5e (fun N v=>V4 K1 N v.1 v.2.1 v.2.2.1 v.2.2.2.1 v.2.2.2.2.1 v.2.2.2.2.2.1) (fun v=>Zic v.1 v.2.1 v.2.2.1 v.2.2.2.1 v.2.2.2.2.1 v.2.2.2.2.2.1) (fun K2=>(.seq .leaf (.join Z5c (fun v=>Zey K1 K2 v.1 v.2.1 v.2.2.1 v.2.2.2.1 v.2.2.2.2.1 v.2.2.2.2.2.1) .leaf .leaf))))))) .leaf)))))) .leaf)))) ⟨lf,lf,lf,⟨lf,fun _=>rfl,fun N=>⟨(fun v=>by kernel_rfl),lf,⟨lf,fun _=>rfl,fun N=>⟨(fun v=>by kernel_rfl),lf,lf,(fun v=>by kernel_rfl),lf⟩⟩,lf⟩⟩,lf⟩ (hk fun _=>by kernel_rfl)
abbrev Qdo:FnE:={f:=62,args:=[X9],res:=[.int .i64],F:=fun xs=>Zag xs.1}
theorem Zvx:okE Qdo:=
 ofE (Za Wc Zf) Zd Tryz.func62 Tryz.call62 .leaf lf (hk fun _=>by kernel_rfl)
abbrev Qnv:FnE:={f:=358,args:=[Zcz,.int .i64,.int .i64],res:=[.str,.bool],F:=fun xs=>Zs0 xs.1 xs.2.1 xs.2.2.1}
theorem Qj4:okE Qnv:=
 ofE (Za Zqw (Za Zv6 Zf)) Zd Tryz.func358 Tryz.call358 (.seq .leaf (.seq .leaf (.seq .leaf (.seq (.seq .leaf (.block (.loop Qcb (fun N v=>Zig N v.1 v.2.1 v.2.2.1 v.2.2.2.1 v.2.2.2.2.1) (fun v=>Zfl v.1 v.2.1 v.2.2.1 v.2.2.2.1 v.2.2.2.2.1) (fun K1=> .leaf)))) .leaf)))) ⟨lf,lf,lf,⟨lf,fun _=>rfl,fun N=>⟨(fun v=>by kernel_rfl),lf⟩⟩,lf⟩ (hk fun _=>by kernel_rfl)
abbrev Qin:FnE:={f:=332,args:=[Qc,.int .i64,.int .i64],res:=[Zbv,.bool],F:=fun xs=>Zrf xs.1 xs.2.1 xs.2.2.1}
theorem Qfj:okE Qin:=
 ofE (Za Jq (Za Qj4 Zf)) Zd Tryz.func332 Tryz.call332 (.seq .leaf (.seq .leaf (.seq .leaf (.seq (.seq .leaf (.cond (.seq .leaf (.seq .leaf (.seq .leaf (.join Z7z (fun v=>Zgn v.1 v.2.1 v.2.2.1 v.2.2.2.1 v.2.2.2.2.1) .leaf .leaf)))) .leaf)) .leaf)))) ⟨lf,lf,lf,⟨lf,⟨lf,lf,lf,lf,(fun v=>by kernel_rfl),lf⟩,lf⟩,lf⟩ (hk fun _=>by kernel_rfl)
abbrev Qd8:FnE:={f:=288,args:=[.int .i64,Zbv],res:=[Zu],F:=fun xs=>Zt9 xs.1 xs.2.1}
theorem Zv1:okE Qd8:=
 ofE Zf Zd Tryz.func288 Tryz.call288 .leaf lf (hk fun _=>by kernel_rfl)
abbrev Qnw:FnE:={f:=285,args:=[Zl,.int .i64,.int .i64],res:=[Zbv,.bool],F:=fun xs=>Zs1 xs.1 xs.2.1 xs.2.2.1}
theorem Qj5:okE Qnw:=
 ofE (Za Q3 (Za Qz (Za Zvx (Za Qfj (Za Zv1 (Za Zqv Zf)))))) Zd Tryz.func285 Tryz.call285 (.seq .leaf (.seq .leaf (.seq .leaf (.seq .leaf (.seq (.seq .leaf (.block (.loop Qcc (fun N v=>Zih N v.1 v.2.1 v.2.2.1 v.2.2.2.1 v.2.2.2.2.1 v.2.2.2.2.2.1) (fun v=>Zlc v.1 v.2.1 v.2.2.1 v.2.2.2.1 v.2.2.2.2.1 v.2.2.2.2.2.1) (fun K1=> .leaf)))) .leaf))))) ⟨lf,lf,lf,lf,⟨lf,fun _=>rfl,fun N=>⟨(fun v=>by kernel_rfl),lf⟩⟩,lf⟩ (hk fun _=>by kernel_rfl)
abbrev Z9s:FnE:={f:=333,args:=[X9],res:=[X9],F:=fun xs=>Zid xs.1}
theorem Z7l:okE Z9s:=
 ofE (Za Wc Zf) Zd Tryz.func333 Tryz.call333 .leaf lf (hk fun _=>by kernel_rfl)
abbrev Qn4:FnB:={f:=286,args:=[.bx 37 (Zl) (.u true),.sh (.int .i64)],res:= .vals [],F:=fun xs=>Zs4 xs.1 xs.2.1}
theorem Qka:okB Qn4:=
 ofB [0] (Za Q3 (Za Z7l (Za Xr Zf))) Zd Tryz.func286 Tryz.call286 .leaf lf (hk fun _=>by kernel_rfl)
abbrev Qry:FnE:={f:=349,args:=[Qc,Zbv],res:=[.bool],F:=fun xs=>Zrt xs.1 xs.2.1}
theorem Zt5:okE Qry:=
 ofE Zf Zd Tryz.func349 Tryz.call349 .leaf lf (hk fun _=>by kernel_rfl)
abbrev Qrz:FnE:={f:=351,args:=[Zbv],res:=[Zt],F:=fun xs=>Znm xs.1}
theorem Zt6:okE Qrz:=
 ofE Zf Zd Tryz.func351 Tryz.call351 .leaf lf (hk fun _=>by kernel_rfl)
abbrev Z6p:FnE:={f:=350,args:=[.slice 195 (Zt),.slice 195 (Zt)],res:=[.slice 195 (Zt)],F:=fun xs=>Zck xs.1 xs.2.1}
theorem Zl5:okE Z6p:=
 ofE (Za Zd2 Zf) Zd Tryz.func350 Tryz.call350 (.seq .leaf (.seq .leaf (.seq (.seq .leaf (.block (.loop Z0r (fun N v=>Jf N v.1 v.2.1 v.2.2.1 v.2.2.2.1) (fun v=>Zar v.1 v.2.1 v.2.2.1 v.2.2.2.1) (fun K1=>(.seq .leaf (.seq (.block (.seq .leaf (.block (.loop Z0s (fun N v=>Wg K1 N v.1 v.2.1 v.2.2.1 v.2.2.2.1 v.2.2.2.2.1) (fun v=>Zas v.1 v.2.1 v.2.2.1 v.2.2.2.1 v.2.2.2.2.1) (fun K2=>(.seq .leaf (.join Z0p (fun v=>Zgb K1 K2 v.1 v.2.1 v.2.2.1 v.2.2.2.1 v.2.2.2.2.1) (.block (.join Z0q (fun v=>Zmc K1 K2 v.1 v.2.1 v.2.2.1 v.2.2.2.1 v.2.2.2.2.1 v.2.2.2.2.2.1) .leaf .leaf)) .leaf))))))) .leaf)))))) .leaf))) ⟨lf,lf,⟨lf,fun _=>rfl,fun N=>⟨(fun v=>by kernel_rfl),lf,⟨lf,fun _=>rfl,fun N=>⟨(fun v=>by kernel_rfl),lf,⟨lf,(fun v=>by kernel_rfl),lf⟩,(fun v=>by kernel_rfl),lf⟩⟩,lf⟩⟩,lf⟩ (hk fun _=>by kernel_rfl)
abbrev Z9w:FnE:={f:=352,args:=[.slice 195 (Zt),Zt],res:=[.slice 195 (Zt)],F:=fun xs=>Zd9 xs.1 xs.2.1}
theorem Zny:okE Z9w:=
 ofE (Za Zd2 (Za Zv8 (Za Zv7 Zf))) Zd Tryz.func352 Tryz.call352 (.seq .leaf (.seq .leaf (.seq .leaf (.seq (.seq .leaf (.block (.loop Z23 (fun N v=>Kt N v.1 v.2.1 v.2.2.1 v.2.2.2.1) (fun v=>Zbr v.1 v.2.1 v.2.2.1 v.2.2.2.1) (fun K1=>(.seq .leaf (.join Z21 (fun v=>Zhh K1 v.1 v.2.1 v.2.2.1 v.2.2.2.1) (.block (.join Z22 (fun v=>Zde K1 v.1 v.2.1 v.2.2.1 v.2.2.2.1) .leaf .leaf)) .leaf)))))) .leaf)))) ⟨lf,lf,lf,⟨lf,fun _=>rfl,fun N=>⟨(fun v=>by kernel_rfl),lf,⟨lf,(fun v=>by kernel_rfl),lf⟩,(fun v=>by kernel_rfl),lf⟩⟩,lf⟩ (hk fun _=>by kernel_rfl)
abbrev Qis:FnE:={f:=334,args:=[Qc,Zbv],res:=[Qc,.bool],F:=fun xs=>Zrg xs.1 xs.2.1}
theorem Qfl:okE Qis:=
 ofE (Za Zbz (Za Jq (Za Zt5 (Za Zt6 (Za Zl5 (Za Zny (Za Zbe (Za Zow Zf)))))))) Zd Tryz.func334 Tryz.call334 (.seq .leaf (.seq .leaf (.seq .leaf (.join Z73 (fun v=>Zgp v.1 v.2.1 v.2.2.1) .leaf (.join Z74 (fun v=>Zgq v.1 v.2.1) .leaf .leaf))))) ⟨lf,lf,lf,lf,(fun v=>by kernel_rfl),lf,(fun v=>by kernel_rfl),lf⟩ (hk fun _=>by kernel_rfl)
abbrev Qix:FnE:={f:=335,args:=[X9,.int .i64],res:=[X9,.bool],F:=fun xs=>Zml xs.1 xs.2.1}
theorem Qfn:okE Qix:=
 ofE (Za Wc Zf) Zd Tryz.func335 Tryz.call335 .leaf lf (hk fun _=>by kernel_rfl)
abbrev Qig:FnE:={f:=287,args:=[Zl,.int .i64,Zbv],res:=[Zl,.bool],F:=fun xs=>Zmg xs.1 xs.2.1 xs.2.2.1}
theorem Qfh:okE Qig:=
 ofE (Za Qg (Za Q3 (Za Qz (Za Qfl (Za Qfn (Za Xr Zf)))))) Zd Tryz.func287 Tryz.call287 .leaf lf (hk fun _=>by kernel_rfl)
abbrev Qri:FnB:={f:=213,args:=[.bx 37 (Zl) (.u true),.mv (.slice 106 (Zu)),.sh (.int .i64)],res:= .vals [.slice 106 (Zu)],F:=fun xs=>Zvb xs.1 xs.2.1 xs.2.2.1}
theorem Qow:okB Qri:=
 ofB [0] (Za Qbi (Za Qbj (Za Qbb (Za Qj5 (Za Qfh (Za Zv1 (Za Zqv Zf))))))) (Zo Qka Zd) Tryz.func213 Tryz.call213 (.seq .leaf (.seq .leaf (.seq (.seq .leaf (.block (.loop Qgk (fun N v=>Zal N v.1 v.2.1 v.2.2.1 v.2.2.2.1 v.2.2.2.2.1) (fun v=>Zmq v.1 v.2.1 v.2.2.1 v.2.2.2.1 v.2.2.2.2.1) (fun K1=>(.seq .leaf (.join Qgi (fun v=>Zkl K1 v.1 v.2.1 v.2.2.1 v.2.2.2.1 v.2.2.2.2.1) (.block (.seq .leaf (.seq (.seq .leaf (.block (.loop Qgl (fun N v=>Zkm K1 N v.1 v.2.1 v.2.2.1 v.2.2.2.1 v.2.2.2.2.1 v.2.2.2.2.2.1 v.2.2.2.2.2.2.1) (fun v=>Zmr v.1 v.2.1 v.2.2.1 v.2.2.2.1 v.2.2.2.2.1 v.2.2.2.2.2.1 v.2.2.2.2.2.2.1) (fun K2=> .leaf)))) (.seq .leaf (.seq .leaf (.seq .leaf (.seq .leaf (.join Qgj (fun v=>Y1 K1 v.1 v.2.1 v.2.2.1 v.2.2.2.1 v.2.2.2.2.1 v.2.2.2.2.2.1 v.2.2.2.2.2.2.1 v.2.2.2.2.2.2.2.1 v.2.2.2.2.2.2.2.2.1) .leaf .leaf)))))))) .leaf)))))) .leaf))) ⟨lf,lf,⟨lf,fun _=>rfl,fun N=>⟨(fun v=>by kernel_rfl),lf,⟨lf,⟨lf,fun _=>rfl,fun N=>⟨(fun v=>by kernel_rfl),lf⟩⟩,lf,lf,lf,lf,lf,(fun v=>by kernel_rfl),lf⟩,(fun v=>by kernel_rfl),lf⟩⟩,lf⟩ (hk fun _=>by kernel_rfl)
abbrev Z3l:FnE:={f:=214,args:=[.slice 106 (Zu)],res:=[.str],F:=fun xs=>Zjq xs.1}
theorem Z19:okE Z3l:=
 ofE (Za Znx Zf) Zd Tryz.func214 Tryz.call214 (.seq .leaf (.seq .leaf (.seq (.seq .leaf (.block (.loop Zy6 (fun N v=>Za4 N v.1 v.2.1 v.2.2.1) (fun v=>Zel v.1 v.2.1 v.2.2.1) (fun K1=> .leaf)))) .leaf))) ⟨lf,lf,⟨lf,fun _=>rfl,fun N=>⟨(fun v=>by kernel_rfl),lf⟩⟩,lf⟩ (hk fun _=>by kernel_rfl)
abbrev Qdr:FnB:={f:=150,args:=[.sh (Zl),.sh (.int .i64)],res:= .shr [.str,.int .i64,Zl],F:=fun xs=>Zah xs.1 xs.2.1}
theorem Zpn:okB Qdr:=
 ofB [] (Za Qg (Za Yy (Za Qq (Za Z15 (Za Zqv (Za Z7j (Za Z19 Zf))))))) (Zo Qow Zd) Tryz.func150 Tryz.call150 (.seq .leaf (.seq .leaf (.seq (.seq .leaf (.cond (.seq .leaf (.frz [(6,.u false)])) .leaf)) (.seq .leaf (.seq .leaf (.seq .leaf (.seq (.seq .leaf (.block (.loop Z4z (fun N v=>Yp N v.1 v.2.1 v.2.2.1 v.2.2.2.1 v.2.2.2.2.1 v.2.2.2.2.2.1 v.2.2.2.2.2.2.1) (fun v=>Zcl v.1 v.2.1 v.2.2.1 v.2.2.2.1 v.2.2.2.2.1 v.2.2.2.2.2.1 v.2.2.2.2.2.2.1) (fun K1=>(.seq .leaf (.join Z4y (fun v=>V2 K1 v.1 v.2.1 v.2.2.1 v.2.2.2.1 v.2.2.2.2.1 v.2.2.2.2.2.1 v.2.2.2.2.2.2.1) .leaf .leaf)))))) (.seq .leaf (.seq (.seq .leaf (.cond (.seq .leaf (.frz [(6,.u false)])) .leaf)) (.seq (.frz [(8,.u false)]) (.seq .leaf (.seq .leaf (.frz [(6,.u false)]))))))))))))) ⟨lf,lf,⟨lf,⟨lf,trivial⟩,lf⟩,lf,lf,lf,⟨lf,fun _=>rfl,fun N=>⟨(fun v=>by kernel_rfl),lf,lf,(fun v=>by kernel_rfl),lf⟩⟩,lf,⟨lf,⟨lf,trivial⟩,lf⟩,trivial,lf,lf,trivial⟩ (hk fun _=>by kernel_rfl)
abbrev Qrs:FnB:={f:=151,args:=[.bx 41 (Qs) (.p (.u false) (.p (.u false) (.p (.u false) (.p (.u false) (.p (.u true) (.u false)))))),.sh (.bool),.sh (Zl)],res:= .vals [],F:=fun xs=>Zdr xs.1 xs.2.1 xs.2.2.1}
theorem Zt3:okB Qrs:=
 ofB [0] Zf Zd Tryz.func151 Tryz.call151 .leaf lf (hk fun _=>by kernel_rfl)
abbrev Qio:FnE:={f:=152,args:=[.slice 127 (Qx),Qx],res:=[.slice 127 (Qx),.bool],F:=fun xs=>Zmi xs.1 xs.2.1}
theorem Zw8:okE Qio:=
 ofE (Za Zj6 Zf) Zd Tryz.func152 Tryz.call152 .leaf lf (hk fun _=>by kernel_rfl)
abbrev Qib:FnE:={f:=33,args:=[.int .i64],res:=[.str],F:=fun xs=>Zv xs.1}
theorem Ky:okE Qib:=
 ofE Zf Zd Tryz.func33 Tryz.call33 (.seq .leaf (.seq .leaf (.seq .leaf (.seq .leaf (.seq (.block (.loop Z7u (fun N v=>Xh N v.1 v.2.1 v.2.2.1) (fun v=>Zdl v.1 v.2.1 v.2.2.1) (fun K1=>(.seq .leaf (.block (.seq .leaf (.join Z7t (fun v=>Va K1 v.1 v.2.1 v.2.2.1 v.2.2.2.1) .leaf .leaf))))))) .leaf))))) ⟨lf,lf,lf,lf,⟨fun _=>rfl,fun N=>⟨(fun v=>by kernel_rfl),lf,lf,lf,(fun v=>by kernel_rfl),lf⟩⟩,lf⟩ (hk fun _=>by kernel_rfl)
abbrev Qnq:FnE:={f:=227,args:=[Zls],res:=[.int .i64,Zls,.bool],F:=fun xs=>Zsx xs.1}
theorem Qj0:okE Qnq:=
 ofE (Za Zt1 Zf) Zd Tryz.func227 Tryz.call227 .leaf lf (hk fun _=>by kernel_rfl)
abbrev Qu3:FnE:={f:=228,args:=[.int .i64,.bool,.bool],res:=[.int .i64],F:=fun xs=>Zxi xs.1 xs.2.1 xs.2.2.1}
theorem Qta:okE Qu3:=
 ofE (Za Qq Zf) Zd Tryz.func228 Tryz.call228 (.seq .leaf (.seq .leaf (.seq .leaf (.join Qkv (fun v=>Zmf v.1 v.2.1) .leaf .leaf)))) ⟨lf,lf,lf,lf,(fun v=>by kernel_rfl),lf⟩ (hk fun _=>by kernel_rfl)
abbrev Zzj:FnE:={f:=294,args:=[],res:=[Jl],F:=fun xs=>Wh}
theorem Zp2:okE Zzj:=
 ofE Zf Zd Tryz.func294 Tryz.call294 .leaf lf (hk fun _=>by kernel_rfl)
abbrev Z9r:FnE:={f:=295,args:=[],res:=[Q8],F:=fun xs=>Zse}
theorem Z7k:okE Z9r:=
 ofE Zf Zd Tryz.func295 Tryz.call295 .leaf lf (hk fun _=>by kernel_rfl)
abbrev Qqy:FnE:={f:=133,args:=[.int .i64],res:=[.bool],F:=fun xs=>Vv xs.1}
theorem Zj5:okE Qqy:=
 ofE (Za Qw Zf) Zd Tryz.func133 Tryz.call133 .leaf lf (hk fun _=>by kernel_rfl)
abbrev Qd3:FnE:={f:=196,args:=[.int .i64],res:=[.bool],F:=fun xs=>Zkc xs.1}
theorem Qa9:okE Qd3:=
 ofE (Za Qw Zf) Zd Tryz.func196 Tryz.call196 .leaf lf (hk fun _=>by kernel_rfl)
abbrev Qxq:FnE:={f:=131,args:=[.bool,.int .i64],res:=[.bool],F:=fun xs=>Zer xs.1 xs.2.1}
theorem Zoe:okE Qxq:=
 ofE (Za Qw (Za Qa9 Zf)) Zd Tryz.func131 Tryz.call131 .leaf lf (hk fun _=>by kernel_rfl)
abbrev Qh5:FnE:={f:=296,args:=[.bool,.int .i64],res:=[.bool],F:=fun xs=>Zeh xs.1 xs.2.1}
theorem Zqt:okE Qh5:=
 ofE (Za Qw (Za Zj5 (Za Zoe Zf))) Zd Tryz.func296 Tryz.call296 .leaf lf (hk fun _=>by kernel_rfl)
abbrev Z6n:FnE:={f:=297,args:=[.bool,.int .i64],res:=[.bool],F:=fun xs=>J9 xs.1 xs.2.1}
theorem Zf4:okE Z6n:=
 ofE (Za Qw (Za Zj5 (Za Zoe Zf))) Zd Tryz.func297 Tryz.call297 .leaf lf (hk fun _=>by kernel_rfl)
abbrev Qq2:FnE:={f:=339,args:=[.int .i64],res:=[Zcz,.bool],F:=fun xs=>Zu5 xs.1}
theorem Qop:okE Qq2:=
 ofE (Za Zt4 Zf) Zd Tryz.func339 Tryz.call339 .leaf lf (hk fun _=>by kernel_rfl)
abbrev Qik:FnE:={f:=298,args:=[.int .i64],res:=[Qc,.bool],F:=fun xs=>Zh9 xs.1}
theorem Qfi:okE Qik:=
 ofE (Za Qop Zf) Zd Tryz.func298 Tryz.call298 .leaf lf (hk fun _=>by kernel_rfl)
abbrev Qil:FnE:={f:=229,args:=[.bool,.int .i64,Zru,Zru],res:=[Z2,.bool],F:=fun xs=>Zb9 xs.1 xs.2.1 xs.2.2.1 xs.2.2.2.1}
theorem Zw6:okE Qil:=
 ofE (Za Qw (Za Zvz (Za Zp2 (Za Z7k (Za Zqt (Za Zf4 (Za Qfi (Za Zw5 (Za Zw7 Zf))))))))) Zd Tryz.func229 Tryz.call229 .leaf lf (hk fun _=>by kernel_rfl)
abbrev Qd7:FnE:={f:=164,args:=[Zl,.bool],res:=[.int .i64,Zl,.bool],F:=fun xs=>Zkd xs.1 xs.2.1}
theorem Zv0:okE Qd7:=
 ofE (Za Qg (Za Yy (Za Qj0 (Za Qta (Za Zw6 (Za Xr Zf)))))) Zd Tryz.func164 Tryz.call164 (.seq .leaf (.seq .leaf (.seq .leaf (.seq .leaf (.join Z5f (fun v=>Zez v.1 v.2.1 v.2.2.1 v.2.2.2.1 v.2.2.2.2.1) .leaf (.seq .leaf (.join Z5g (fun v=>Ze0 v.1 v.2.1 v.2.2.1 v.2.2.2.1 v.2.2.2.2.1 v.2.2.2.2.2.1) .leaf .leaf))))))) ⟨lf,lf,lf,lf,lf,(fun v=>by kernel_rfl),lf,lf,(fun v=>by kernel_rfl),lf⟩ (hk fun _=>by kernel_rfl)
abbrev Qu4:FnE:={f:=340,args:=[Zcz],res:=[.int .i64],F:=fun xs=>Z5i xs.1}
theorem Qtb:okE Qu4:=
 ofE (Za Zqw Zf) Zd Tryz.func340 Tryz.call340 .leaf lf (hk fun _=>by kernel_rfl)
abbrev Qiy:FnE:={f:=299,args:=[Zcz,.str],res:=[Zcz,.int .i64],F:=fun xs=>Zri xs.1 xs.2.1}
theorem Qfo:okE Qiy:=
 ofE (Za Zwa (Za Qtb Zf)) Zd Tryz.func299 Tryz.call299 (.seq .leaf (.seq .leaf (.seq .leaf (.seq (.seq .leaf (.block (.loop Z78 (fun N v=>Wz N v.1 v.2.1 v.2.2.1 v.2.2.2.1 v.2.2.2.2.1 v.2.2.2.2.2.1) (fun v=>Zdm v.1 v.2.1 v.2.2.1 v.2.2.2.1 v.2.2.2.2.1 v.2.2.2.2.2.1) (fun K1=> .leaf)))) .leaf)))) ⟨lf,lf,lf,⟨lf,fun _=>rfl,fun N=>⟨(fun v=>by kernel_rfl),lf⟩⟩,lf⟩ (hk fun _=>by kernel_rfl)
abbrev Z90:FnE:={f:=230,args:=[Qc,.str],res:=[Qc,.int .i64],F:=fun xs=>Zbi xs.1 xs.2.1}
theorem Z7o:okE Z90:=
 ofE (Za Zbz (Za Jq (Za Qfo (Za Zbe Zf)))) Zd Tryz.func230 Tryz.call230 (.seq .leaf (.seq .leaf (.seq .leaf (.seq .leaf (.join Z25 (fun v=>Zdf v.1 v.2.1 v.2.2.1 v.2.2.2.1) .leaf .leaf))))) ⟨lf,lf,lf,lf,lf,(fun v=>by kernel_rfl),lf⟩ (hk fun _=>by kernel_rfl)
abbrev Z91:FnE:={f:=165,args:=[Zl,.int .i64,.str],res:=[.int .i64,Zl],F:=fun xs=>Zbj xs.1 xs.2.1 xs.2.2.1}
theorem Zuo:okE Z91:=
 ofE (Za Qg (Za Q3 (Za Yy (Za Z7o (Za Xr Zf))))) Zd Tryz.func165 Tryz.call165 .leaf lf (hk fun _=>by kernel_rfl)
abbrev Z9f:FnE:={f:=231,args:=[Qc],res:=[Qc,.bool],F:=fun xs=>Zna xs.1}
theorem Z7a:okE Z9f:=
 ofE (Za Zbz (Za Jq Zf)) Zd Tryz.func231 Tryz.call231 .leaf lf (hk fun _=>by kernel_rfl)
abbrev Z6t:FnE:={f:=166,args:=[Zl,.int .i64],res:=[Zl,.bool],F:=fun xs=>Zgf xs.1 xs.2.1}
theorem Ztl:okE Z6t:=
 ofE (Za Qg (Za Q3 (Za Yy (Za Z7a (Za Xr Zf))))) Zd Tryz.func166 Tryz.call166 .leaf lf (hk fun _=>by kernel_rfl)
abbrev Qiv:FnE:={f:=300,args:=[Yh,.int .i64],res:=[.str,Yh],F:=fun xs=>Zrh xs.1 xs.2.1}
theorem Qfm:okE Qiv:=
 ofE (Za Zps (Za Zv9 Zf)) Zd Tryz.func300 Tryz.call300 (.seq .leaf (.seq .leaf (.seq .leaf (.seq .leaf (.seq .leaf (.seq .leaf (.seq (.seq .leaf (.cond (.seq (.frz [(7,.u false)]) .leaf) .leaf)) .leaf))))))) ⟨lf,lf,lf,lf,lf,lf,⟨lf,⟨trivial,lf⟩,lf⟩,lf⟩ (hk fun _=>by kernel_rfl)
abbrev Z6v:FnB:={f:=232,args:=[.sh (Q8),.sh (.int .i64)],res:= .shr [.str,Q8],F:=fun xs=>Zlp xs.1 xs.2.1}
theorem Z4b:okB Z6v:=
 ofB [] (Za Zq0 (Za Zbf (Za Qfm Zf))) Zd Tryz.func232 Tryz.call232 (.seq .leaf (.seq .leaf (.seq (.seq .leaf (.cond (.seq .leaf (.frz [(5,.u false)])) .leaf)) (.seq (.seq .leaf (.cond (.seq .leaf (.seq .leaf (.frz [(5,.u false)]))) .leaf)) (.seq .leaf (.seq (.frz [(8,.u false)]) (.join Z0z (fun v=>Zgo v.1 v.2.1 v.2.2.1) .leaf .leaf))))))) ⟨lf,lf,⟨lf,⟨lf,trivial⟩,lf⟩,⟨lf,⟨lf,lf,trivial⟩,lf⟩,lf,trivial,lf,(fun v=>by kernel_rfl),lf⟩ (hk fun _=>by kernel_rfl)
abbrev Qiq:FnE:={f:=301,args:=[Vr,.int .i64],res:=[Vr,.bool],F:=fun xs=>Zmj xs.1 xs.2.1}
theorem Qfk:okE Qiq:=
 ofE (Za Zd3 Zf) Zd Tryz.func301 Tryz.call301 .leaf lf (hk fun _=>by kernel_rfl)
abbrev Qrb:FnB:={f:=233,args:=[.bx 37 (Zl) (.u false),.bx 88 (Z2) (.u false),.sh (.int .i64)],res:= .vals [],F:=fun xs=>Zrk xs.1 xs.2.1 xs.2.2.1}
theorem Z1j:okB Qrb:=
 ofB [0,1] (Za Qfk Zf) Zd Tryz.func233 Tryz.call233 .leaf lf (hk fun _=>by kernel_rfl)
abbrev Qd2:FnE:={f:=197,args:=[Z2],res:=[.bool],F:=fun xs=>Zo6 xs.1}
theorem Qa8:okE Qd2:=
 ofE Zf Zd Tryz.func197 Tryz.call197 .leaf lf (hk fun _=>by kernel_rfl)
abbrev Qdz:FnE:={f:=271,args:=[Q8],res:=[.bool],F:=fun xs=>Zkb xs.1}
theorem Qa6:okE Qdz:=
 ofE (Za Zbf Zf) Zd Tryz.func271 Tryz.call271 .leaf lf (hk fun _=>by kernel_rfl)
abbrev Qd1:FnE:={f:=198,args:=[Z2],res:=[.bool],F:=fun xs=>Zo5 xs.1}
theorem Qa7:okE Qd1:=
 ofE (Za Qa6 Zf) Zd Tryz.func198 Tryz.call198 .leaf lf (hk fun _=>by kernel_rfl)
abbrev Qu0:FnE:={f:=132,args:=[Z2],res:=[.bool],F:=fun xs=>Zme xs.1}
theorem Z4a:okE Qu0:=
 ofE (Za Zyk (Za Qa8 (Za Qa7 Zf))) Zd Tryz.func132 Tryz.call132 .leaf lf (hk fun _=>by kernel_rfl)
abbrev Qnb:FnE:={f:=341,args:=[X9],res:=[X9,.bool],F:=fun xs=>Zoh xs.1}
theorem Qjv:okE Qnb:=
 ofE (Za Zou Zf) Zd Tryz.func341 Tryz.call341 .leaf lf (hk fun _=>by kernel_rfl)
abbrev Qra:FnB:={f:=302,args:=[.bx 37 (Zl) (.u false),.bx 88 (Z2) (.u false)],res:= .vals [],F:=fun xs=>Zu8 xs.1 xs.2.1}
theorem Qot:okB Qra:=
 ofB [0,1] (Za Zoe (Za Z4a (Za Zj5 (Za Qjv Zf)))) Zd Tryz.func302 Tryz.call302 .leaf lf (hk fun _=>by kernel_rfl)
abbrev Qrc:FnB:={f:=234,args:=[.bx 37 (Zl) (.u false),.sh (Z2)],res:= .vals [],F:=fun xs=>Zdp xs.1 xs.2.1}
theorem Zfu:okB Qrc:=
 ofB [0] (Za Xr Zf) (Zo Qot Zd) Tryz.func234 Tryz.call234 .leaf lf (hk fun _=>by kernel_rfl)
abbrev Qec:FnB:={f:=167,args:=[.sh (Zl),.sh (.int .i64),.sh (.int .i64)],res:= .shr [.str,.bool,Zl],F:=fun xs=>Zaj xs.1 xs.2.1 xs.2.2.1}
theorem Zpr:okB Qec:=
 ofB [] (Za Qg (Za Q3 (Za Yy Zf))) (Zo Z4b (Zo Z1j (Zo Zfu Zd))) Tryz.func167 Tryz.call167 (.seq .leaf (.seq .leaf (.seq .leaf (.seq (.seq .leaf (.cond (.seq .leaf (.frz [(8,.u false)])) .leaf)) (.seq (.frz [(10,.u false)]) (.seq .leaf (.join Z5h (fun v=>V5 v.1 v.2.1 v.2.2.1 v.2.2.2.1 v.2.2.2.2.1) (.seq .leaf (.cond (.frz [(9,.u false)]) .leaf)) .leaf))))))) ⟨lf,lf,lf,⟨lf,⟨lf,trivial⟩,lf⟩,trivial,lf,⟨lf,trivial,lf⟩,(fun v=>by kernel_rfl),lf⟩ (hk fun _=>by kernel_rfl)
abbrev Qh9:FnE:={f:=142,args:=[.str],res:=[.str],F:=fun xs=>Ww xs.1}
theorem Zqu:okE Qh9:=
 ofE (Za Z1k Zf) Zd Tryz.func142 Tryz.call142 (.seq .leaf (.seq .leaf (.seq (.seq .leaf (.block (.loop Z7s (fun N v=>Zge N v.1 v.2.1 v.2.2.1) (fun v=>Zjp v.1 v.2.1 v.2.2.1) (fun K1=> .leaf)))) .leaf))) ⟨lf,lf,⟨lf,fun _=>rfl,fun N=>⟨(fun v=>by kernel_rfl),lf⟩⟩,lf⟩ (hk fun _=>by kernel_rfl)
abbrev Z9x:FnE:={f:=235,args:=[Qc,.int .i64],res:=[Qc,.bool],F:=fun xs=>Zij xs.1 xs.2.1}
theorem Zul:okE Z9x:=
 ofE (Za Jq (Za Qw (Za Zbz Zf))) Zd Tryz.func235 Tryz.call235 (.seq .leaf (.seq .leaf (.join Z24 (fun v=>Zn2 v.1 v.2.1 v.2.2.1 v.2.2.2.1) .leaf .leaf))) ⟨lf,lf,lf,(fun v=>by kernel_rfl),lf⟩ (hk fun _=>by kernel_rfl)
abbrev Z9y:FnB:={f:=168,args:=[.sh (Zl),.sh (.int .i64),.sh (.int .i64)],res:= .shr [Zl,.bool],F:=fun xs=>Zik xs.1 xs.2.1 xs.2.2.1}
theorem Zum:okB Z9y:=
 ofB [] (Za Qg (Za Q3 (Za Yy (Za Zul Zf)))) (Zo Zfu Zd) Tryz.func168 Tryz.call168 (.seq .leaf (.seq .leaf (.seq .leaf (.seq (.seq .leaf (.cond (.seq .leaf (.frz [(6,.u false)])) .leaf)) (.seq .leaf (.seq (.seq .leaf (.cond (.seq .leaf (.frz [(6,.u false)])) .leaf)) (.seq .leaf (.seq .leaf (.seq (.frz [(8,.u false),(9,.u false)]) .leaf))))))))) ⟨lf,lf,lf,⟨lf,⟨lf,trivial⟩,lf⟩,lf,⟨lf,⟨lf,trivial⟩,lf⟩,lf,lf,trivial,lf⟩ (hk fun _=>by kernel_rfl)
abbrev Qee:FnE:={f:=215,args:=[Zl,.int .i64,.int .i64],res:=[Zl,.bool],F:=fun xs=>Zpa xs.1 xs.2.1 xs.2.2.1}
theorem Qbe:okE Qee:=
 ofE (Za Qg (Za Q3 (Za Yy (Za Qw (Za Xr Zf))))) Zd Tryz.func215 Tryz.call215 .leaf lf (hk fun _=>by kernel_rfl)
abbrev Qu5:FnE:={f:=303,args:=[.str,.int .u8],res:=[.slice 9 (.str)],F:=fun xs=>Zp5 xs.1 xs.2.1}
theorem Qtc:okE Qu5:=
 ofE Zf Zd Tryz.func303 Tryz.call303 (.seq .leaf (.seq .leaf (.seq .leaf (.seq (.seq .leaf (.block (.loop Qkx (fun N v=>W1 N v.1 v.2.1 v.2.2.1 v.2.2.2.1 v.2.2.2.2.1) (fun v=>Zhi v.1 v.2.1 v.2.2.1 v.2.2.2.1 v.2.2.2.2.1) (fun K1=>(.seq .leaf (.join Qkw (fun v=>Ze6 K1 v.1 v.2.1 v.2.2.1 v.2.2.2.1 v.2.2.2.2.1) .leaf .leaf)))))) .leaf)))) ⟨lf,lf,lf,⟨lf,fun _=>rfl,fun N=>⟨(fun v=>by kernel_rfl),lf,lf,(fun v=>by kernel_rfl),lf⟩⟩,lf⟩ (hk fun _=>by kernel_rfl)
abbrev Qq4:FnE:={f:=304,args:=[.str],res:=[.str],F:=fun xs=>Zu7 xs.1}
theorem Qor:okE Qq4:=
 ofE Zf Zd Tryz.func304 Tryz.call304 (.seq .leaf (.seq (.block (.loop Qgc (fun N v=>Zkh N v.1) (fun v=>Zmm v.1) (fun K1=> .leaf))) (.seq (.block (.loop Qgd (fun N v=>Zki N v.1) (fun v=>Zmn v.1) (fun K2=> .leaf))) .leaf))) ⟨lf,⟨fun _=>rfl,fun N=>⟨(fun v=>by kernel_rfl),lf⟩⟩,⟨fun _=>rfl,fun N=>⟨(fun v=>by kernel_rfl),lf⟩⟩,lf⟩ (hk fun _=>by kernel_rfl)
abbrev Z3o:FnE:={f:=236,args:=[Jl,.str],res:=[Jl],F:=fun xs=>Zjt xs.1 xs.2.1}
theorem Z2a:okE Z3o:=
 ofE (Za Zpp (Za Zp2 (Za Qtc (Za Qor Zf)))) Zd Tryz.func236 Tryz.call236 (.seq .leaf (.join Zza (fun v=>Za8 v.1 v.2.1 v.2.2.1) .leaf (.seq .leaf (.seq (.seq .leaf (.block (.loop Zzc (fun N v=>Yf N v.1 v.2.1 v.2.2.1 v.2.2.2.1) (fun v=>Zev v.1 v.2.1 v.2.2.1 v.2.2.2.1) (fun K1=>(.seq .leaf (.join Zzb (fun v=>Kv K1 v.1 v.2.1 v.2.2.1 v.2.2.2.1) .leaf .leaf)))))) .leaf)))) ⟨lf,lf,(fun v=>by kernel_rfl),lf,⟨lf,fun _=>rfl,fun N=>⟨(fun v=>by kernel_rfl),lf,lf,(fun v=>by kernel_rfl),lf⟩⟩,lf⟩ (hk fun _=>by kernel_rfl)
abbrev Z9z:FnE:={f:=169,args:=[Zl,.int .i64,.str],res:=[Zl,.bool],F:=fun xs=>Zil xs.1 xs.2.1 xs.2.2.1}
theorem Zun:okE Z9z:=
 ofE (Za Qg (Za Q3 (Za Yy (Za Z2a (Za Xr Zf))))) Zd Tryz.func169 Tryz.call169 .leaf lf (hk fun _=>by kernel_rfl)
abbrev Qnr:FnE:={f:=241,args:=[Zl,.int .i64],res:=[J3,.bool],F:=fun xs=>Zok xs.1 xs.2.1}
theorem Zyn:okE Qnr:=
 ofE Zf Zd Tryz.func241 Tryz.call241 (.seq .leaf (.seq (.seq .leaf (.block (.loop Qb7 (fun N v=>Zie N v.1 v.2.1 v.2.2.1 v.2.2.2.1) (fun v=>Zla v.1 v.2.1 v.2.2.1 v.2.2.2.1) (fun K1=> .leaf)))) .leaf)) ⟨lf,⟨lf,fun _=>rfl,fun N=>⟨(fun v=>by kernel_rfl),lf⟩⟩,lf⟩ (hk fun _=>by kernel_rfl)
abbrev Qrk:FnB:={f:=242,args:=[.bx 37 (Zl) (.u false),.sh (.int .i64)],res:= .vals [],F:=fun xs=>Zrn xs.1 xs.2.1}
theorem Z1l:okB Qrk:=
 ofB [0] Zf Zd Tryz.func242 Tryz.call242 (.seq .leaf (.seq (.seq .leaf (.block (.loop Qgq (fun N v=>Zcy N v.1 v.2.1 v.2.2.1 v.2.2.2.1) (fun v=>Zmt v.1 v.2.1 v.2.2.1 v.2.2.2.1) (fun K1=>(.seq .leaf (.join Qgp (fun v=>Zkq K1 v.1 v.2.1 v.2.2.1 v.2.2.2.1) .leaf .leaf)))))) .leaf)) ⟨lf,⟨lf,fun _=>rfl,fun N=>⟨(fun v=>by kernel_rfl),lf,lf,(fun v=>by kernel_rfl),lf⟩⟩,lf⟩ (hk fun _=>by kernel_rfl)
abbrev Qn6:FnE:={f:=313,args:=[Zu],res:=[Zbv],F:=fun xs=>Zxx xs.1}
theorem Zyr:okE Qn6:=
 ofE Zf Zd Tryz.func313 Tryz.call313 .leaf lf (hk fun _=>by kernel_rfl)
abbrev Qnc:FnE:={f:=353,args:=[Zcz,.int .i64],res:=[Zcz,.bool],F:=fun xs=>Zkz xs.1 xs.2.1}
theorem Qjw:okE Qnc:=
 ofE (Za Zwa (Za Zqw Zf)) Zd Tryz.func353 Tryz.call353 (.seq .leaf (.seq .leaf (.seq .leaf (.seq (.seq .leaf (.block (.loop Qby (fun N v=>Zh1 N v.1 v.2.1 v.2.2.1 v.2.2.2.1 v.2.2.2.2.1) (fun v=>Zfj v.1 v.2.1 v.2.2.1 v.2.2.2.1 v.2.2.2.2.1) (fun K1=> .leaf)))) .leaf)))) ⟨lf,lf,lf,⟨lf,fun _=>rfl,fun N=>⟨(fun v=>by kernel_rfl),lf⟩⟩,lf⟩ (hk fun _=>by kernel_rfl)
abbrev Qm8:FnE:={f:=314,args:=[Qc,Zbv],res:=[Qc],F:=fun xs=>Zss xs.1 xs.2.1}
theorem Qjt:okE Qm8:=
 ofE (Za Zbz (Za Jq (Za Zt5 (Za Zt6 (Za Zl5 (Za Zny (Za Zbe (Za Zyj (Za Qjw (Za Zow Zf)))))))))) Zd Tryz.func314 Tryz.call314 (.seq .leaf (.seq .leaf (.seq .leaf (.join Qbr (fun v=>Zhv v.1 v.2.1 v.2.2.1 v.2.2.2.1) (.seq .leaf (.cond (.seq .leaf (.seq .leaf (.block (.loop Qbu (fun N v=>Zhx N v.1 v.2.1 v.2.2.1 v.2.2.2.1 v.2.2.2.2.1 v.2.2.2.2.2.1) (fun v=>Zk7 v.1 v.2.1 v.2.2.1 v.2.2.2.1 v.2.2.2.2.1 v.2.2.2.2.2.1) (fun K1=> .leaf))))) .leaf)) (.join Qbs (fun v=>Zhw v.1 v.2.1 v.2.2.1) .leaf (.join Qbt (fun v=>X4 v.1 v.2.1 v.2.2.1) .leaf .leaf)))))) ⟨lf,lf,lf,⟨lf,⟨lf,lf,fun _=>rfl,fun N=>⟨(fun v=>by kernel_rfl),lf⟩⟩,lf⟩,(fun v=>by kernel_rfl),lf,(fun v=>by kernel_rfl),lf,(fun v=>by kernel_rfl),lf⟩ (hk fun _=>by kernel_rfl)
abbrev Qm9:FnE:={f:=315,args:=[Qc],res:=[Qc,.bool],F:=fun xs=>Zst xs.1}
theorem Qju:okE Qm9:=
 ofE (Za Zbz (Za Jq Zf)) Zd Tryz.func315 Tryz.call315 .leaf lf (hk fun _=>by kernel_rfl)
abbrev Qva:FnB:={f:=244,args:=[.bx 37 (Zl) (.u false),.sh (Zu)],res:= .vals [],F:=fun xs=>Zxj xs.1 xs.2.1}
theorem Qte:okB Qva:=
 ofB [0] (Za Q3 (Za Zk6 (Za Zyr (Za Qjt (Za Qju Zf))))) (Zo Zfu Zd) Tryz.func244 Tryz.call244 (.seq .leaf (.join Qky (fun v=>Kk v.1 v.2.1 v.2.2.1 v.2.2.2.1) .leaf (.seq .leaf (.join Qkz (fun v=>Zca v.1 v.2.1) .leaf (.frz [(4,.u false)]))))) ⟨lf,lf,(fun v=>by kernel_rfl),lf,lf,(fun v=>by kernel_rfl),trivial⟩ (hk fun _=>by kernel_rfl)
abbrev Qh3:FnB:={f:=173,args:=[.sh (Zl),.sh (.int .i64)],res:= .shr [Zl,.bool],F:=fun xs=>Zb1 xs.1 xs.2.1}
theorem Zqs:okB Qh3:=
 ofB [] (Za Qg (Za Zyn (Za Yy Zf))) (Zo Z1l (Zo Qte Zd)) Tryz.func173 Tryz.call173 (.seq .leaf (.seq .leaf (.seq .leaf (.seq (.seq .leaf (.cond (.seq .leaf (.frz [(4,.u false)])) .leaf)) (.seq (.frz [(6,.u false)]) (.seq (.seq .leaf (.block (.loop Z7p (fun N v=>Zf9 N v.1 v.2.1 v.2.2.1 v.2.2.2.1) (fun v=>Zjh v.1 v.2.1 v.2.2.1 v.2.2.2.1) (fun K1=> .leaf)))) .leaf)))))) ⟨lf,lf,lf,⟨lf,⟨lf,trivial⟩,lf⟩,trivial,⟨lf,fun _=>rfl,fun N=>⟨(fun v=>by kernel_rfl),lf⟩⟩,lf⟩ (hk fun _=>by kernel_rfl)
abbrev Qif:FnE:={f:=312,args:=[Qc,Zbv],res:=[Qc],F:=fun xs=>Zre xs.1 xs.2.1}
theorem Qfg:okE Qif:=
 ofE (Za Zbz (Za Jq (Za Zt5 (Za Zt6 (Za Zl5 (Za Zny (Za Zbe (Za Zow Zf)))))))) Zd Tryz.func312 Tryz.call312 (.seq .leaf (.seq .leaf (.seq .leaf (.join Z7w (fun v=>Zgk v.1 v.2.1 v.2.2.1 v.2.2.2.1) (.seq .leaf (.cond (.seq .leaf (.seq .leaf (.block (.loop Z7y (fun N v=>Zgm N v.1 v.2.1 v.2.2.1 v.2.2.2.1 v.2.2.2.2.1 v.2.2.2.2.2.1) (fun v=>Zjs v.1 v.2.1 v.2.2.1 v.2.2.2.1 v.2.2.2.2.1 v.2.2.2.2.2.1) (fun K1=> .leaf))))) .leaf)) (.join Z7x (fun v=>Zgl v.1 v.2.1) .leaf .leaf))))) ⟨lf,lf,lf,⟨lf,⟨lf,lf,fun _=>rfl,fun N=>⟨(fun v=>by kernel_rfl),lf⟩⟩,lf⟩,(fun v=>by kernel_rfl),lf,(fun v=>by kernel_rfl),lf⟩ (hk fun _=>by kernel_rfl)
abbrev Qrl:FnB:={f:=243,args:=[.bx 37 (Zl) (.u false),.sh (Zu)],res:= .vals [],F:=fun xs=>Zvd xs.1 xs.2.1}
theorem Qoy:okB Qrl:=
 ofB [0] (Za Q3 (Za Zk6 (Za Zyr (Za Qfg (Za Xr Zf))))) Zd Tryz.func243 Tryz.call243 (.seq .leaf (.seq .leaf (.join Qgr (fun v=>Y2 v.1 v.2.1 v.2.2.1 v.2.2.2.1) .leaf (.seq .leaf (.join Qgs (fun v=>Zam v.1 v.2.1) .leaf .leaf))))) ⟨lf,lf,lf,(fun v=>by kernel_rfl),lf,lf,(fun v=>by kernel_rfl),lf⟩ (hk fun _=>by kernel_rfl)
abbrev Qd4:FnB:={f:=172,args:=[.sh (Zl),.sh (.int .i64)],res:= .shr [Zl,.bool],F:=fun xs=>Zai xs.1 xs.2.1}
theorem Zpq:okB Qd4:=
 ofB [] (Za Qg (Za Zyn (Za Yy Zf))) (Zo Z1l (Zo Qoy Zd)) Tryz.func172 Tryz.call172 (.seq .leaf (.seq .leaf (.seq .leaf (.seq (.seq .leaf (.cond (.seq .leaf (.frz [(4,.u false)])) .leaf)) (.seq (.frz [(6,.u false)]) (.seq (.seq .leaf (.block (.loop Z48 (fun N v=>Zeu N v.1 v.2.1 v.2.2.1 v.2.2.2.1) (fun v=>Zh5 v.1 v.2.1 v.2.2.1 v.2.2.2.1) (fun K1=> .leaf)))) .leaf)))))) ⟨lf,lf,lf,⟨lf,⟨lf,trivial⟩,lf⟩,trivial,⟨lf,fun _=>rfl,fun N=>⟨(fun v=>by kernel_rfl),lf⟩⟩,lf⟩ (hk fun _=>by kernel_rfl)
abbrev Qdq:FnE:={f:=364,args:=[.str,.int .i64],res:=[.int .i64,.int .i64,.bool],F:=fun xs=>Zj9 xs.1 xs.2.1}
theorem Zvy:okE Qdq:=
 ofE Zf Zd Tryz.func364 Tryz.call364 (.seq .leaf (.seq .leaf (.seq .leaf (.seq .leaf (.seq .leaf (.seq (.seq .leaf (.block (.loop Z4x (fun N v=>Zek N v.1 v.2.1 v.2.2.1 v.2.2.2.1 v.2.2.2.2.1) (fun v=>Zh0 v.1 v.2.1 v.2.2.1 v.2.2.2.1 v.2.2.2.2.1) (fun K1=> .leaf)))) .leaf)))))) ⟨lf,lf,lf,lf,lf,⟨lf,fun _=>rfl,fun N=>⟨(fun v=>by kernel_rfl),lf⟩⟩,lf⟩ (hk fun _=>by kernel_rfl)
abbrev Qvk:FnE:={f:=360,args:=[.str,.int .i64,.int .i64],res:=[.slice 3 (.int .i64),.int .i64,.bool],F:=fun xs=>Ztr xs.1 xs.2.1 xs.2.2.1}
theorem Z4e:okE Qvk:=
 ofE (Za Zvy Zf) Zd Tryz.func360 Tryz.call360 (.seq .leaf (.seq .leaf (.seq (.seq .leaf (.block (.loop Qk2 (fun N v=>Zmx N v.1 v.2.1 v.2.2.1 v.2.2.2.1 v.2.2.2.2.1) (fun v=>Zn4 v.1 v.2.1 v.2.2.1 v.2.2.2.1 v.2.2.2.2.1) (fun K1=> .leaf)))) .leaf))) ⟨lf,lf,⟨lf,fun _=>rfl,fun N=>⟨(fun v=>by kernel_rfl),lf⟩⟩,lf⟩ (hk fun _=>by kernel_rfl)
abbrev Qoa:FnE:={f:=359,args:=[.str,.int .i64,.int .i64],res:=[Zu,.int .i64,.bool],F:=fun xs=>Zs6 xs.1 xs.2.1 xs.2.2.1}
theorem Qkd:okE Qoa:=
 ofE (Za Z4e (Za Zvy (Za Vu Zf))) Zd Tryz.func359 Tryz.call359 (.seq .leaf (.seq .leaf (.seq .leaf (.join Qci (fun v=>Zix v.1 v.2.1 v.2.2.1 v.2.2.2.1 v.2.2.2.2.1 v.2.2.2.2.2.1) .leaf (.seq .leaf (.seq .leaf (.seq .leaf (.join Qcj (fun v=>Ziy v.1 v.2.1 v.2.2.1 v.2.2.2.1 v.2.2.2.2.1) .leaf (.seq .leaf (.join Qck (fun v=>Ziz v.1 v.2.1 v.2.2.1 v.2.2.2.1 v.2.2.2.2.1) .leaf .leaf)))))))))) ⟨lf,lf,lf,lf,(fun v=>by kernel_rfl),lf,lf,lf,lf,(fun v=>by kernel_rfl),lf,lf,(fun v=>by kernel_rfl),lf⟩ (hk fun _=>by kernel_rfl)
abbrev Z9g:FnE:={f:=336,args:=[.str,.int .i64],res:=[Zu,.int .i64,.bool],F:=fun xs=>Znb xs.1 xs.2.1}
theorem Z7b:okE Z9g:=
 ofE (Za Qkd (Za Z4e (Za Vu Zf))) Zd Tryz.func336 Tryz.call336 (.seq .leaf (.seq .leaf (.seq .leaf (.seq .leaf (.seq .leaf (.seq .leaf (.join Z2e (fun v=>J5 v.1 v.2.1 v.2.2.1 v.2.2.2.1 v.2.2.2.2.1) (.seq .leaf (.block (.seq .leaf (.cond .leaf (.join Z2h (fun v=>W4 v.1 v.2.1 v.2.2.1 v.2.2.2.1 v.2.2.2.2.1 v.2.2.2.2.2.1 v.2.2.2.2.2.2.1 v.2.2.2.2.2.2.2.1) .leaf (.cond .leaf (.join Z2i (fun v=>Zc7 v.1 v.2.1 v.2.2.1 v.2.2.2.1 v.2.2.2.2.1 v.2.2.2.2.2.1 v.2.2.2.2.2.2.1) .leaf .leaf))))))) (.seq .leaf (.join Z2f (fun v=>J6 v.1 v.2.1 v.2.2.1 v.2.2.2.1) (.seq .leaf (.block (.seq .leaf (.cond .leaf (.seq .leaf (.cond .leaf (.join Z2g (fun v=>Zc6 v.1 v.2.1 v.2.2.1 v.2.2.2.1 v.2.2.2.2.1 v.2.2.2.2.2.1) .leaf .leaf))))))) .leaf))))))))) ⟨lf,lf,lf,lf,lf,lf,⟨lf,lf,lf,lf,(fun v=>by kernel_rfl),lf,lf,(fun v=>by kernel_rfl),lf⟩,(fun v=>by kernel_rfl),lf,⟨lf,lf,lf,lf,lf,lf,(fun v=>by kernel_rfl),lf⟩,(fun v=>by kernel_rfl),lf⟩ (hk fun _=>by kernel_rfl)
abbrev Z3i:FnE:={f:=289,args:=[.str],res:=[.slice 106 (Zu),.bool],F:=fun xs=>Zjm xs.1}
theorem Z16:okE Z3i:=
 ofE (Za Z7b (Za Qq Zf)) Zd Tryz.func289 Tryz.call289 (.seq .leaf (.seq .leaf (.seq .leaf (.seq (.block (.loop Zy5 (fun N v=>Vh N v.1 v.2.1 v.2.2.1) (fun v=>Zej v.1 v.2.1 v.2.2.1) (fun K1=> .leaf))) .leaf)))) ⟨lf,lf,lf,⟨fun _=>rfl,fun N=>⟨(fun v=>by kernel_rfl),lf⟩⟩,lf⟩ (hk fun _=>by kernel_rfl)
abbrev Qh6:FnE:={f:=290,args:=[Zl,.int .i64],res:=[Zl],F:=fun xs=>Zmb xs.1 xs.2.1}
theorem Qfc:okE Qh6:=
 ofE (Za Qg (Za Qq Zf)) Zd Tryz.func290 Tryz.call290 .leaf lf (hk fun _=>by kernel_rfl)
abbrev Qqt:FnE:={f:=343,args:=[.int .i64],res:=[.int .i64],F:=fun xs=>Zrb xs.1}
theorem Qom:okE Qqt:=
 ofE (Za Qw Zf) Zd Tryz.func343 Tryz.call343 .leaf lf (hk fun _=>by kernel_rfl)
abbrev Qny:FnE:={f:=342,args:=[X9,.int .i64],res:=[X9,.int .i64,.bool],F:=fun xs=>Zk0 xs.1 xs.2.1}
theorem Qj7:okE Qny:=
 ofE (Za Zou Zf) Zd Tryz.func342 Tryz.call342 .leaf lf (hk fun _=>by kernel_rfl)
abbrev Qq8:FnB:={f:=344,args:=[.bx 37 (Zl) (.u true),.sh (.int .i64),.sh (.int .i64)],res:= .vals [],F:=fun xs=>Znj xs.1 xs.2.1 xs.2.2.1}
theorem Qos:okB Qq8:=
 ofB [0] (Za Zw6 (Za Xr Zf)) Zd Tryz.func344 Tryz.call344 (.seq .leaf (.block (.loop Qgg (fun N v=>Xc N v.1 v.2.1 v.2.2.1) (fun v=>Zgs v.1 v.2.1 v.2.2.1) (fun K1=>(.seq .leaf (.seq (.block (.join Qgf (fun v=>Y0 K1 v.1 v.2.1 v.2.2.1 v.2.2.2.1) .leaf .leaf)) .leaf)))))) ⟨lf,fun _=>rfl,fun N=>⟨(fun v=>by kernel_rfl),lf,⟨lf,(fun v=>by kernel_rfl),lf⟩,lf⟩⟩ (hk fun _=>by kernel_rfl)
abbrev Z6s:FnE:={f:=305,args:=[Zl,.int .i64],res:=[Zl,.int .i64],F:=fun xs=>Wx xs.1 xs.2.1}
theorem Zf5:okE Z6s:=
 ofE (Za Qg (Za Qz (Za Qw (Za Zpo (Za Zoe (Za Zj5 (Za Qom (Za Qj7 Zf)))))))) (Zo Qos Zd) Tryz.func305 Tryz.call305 (.seq .leaf (.seq .leaf (.seq .leaf (.seq .leaf (.seq .leaf (.seq .leaf (.join Z0u (fun v=>Zb4 v.1 v.2.1 v.2.2.1 v.2.2.2.1 v.2.2.2.2.1) .leaf (.join Z0v (fun v=>Zr v.1 v.2.1 v.2.2.1 v.2.2.2.1 v.2.2.2.2.1 v.2.2.2.2.2.1 v.2.2.2.2.2.2.1) .leaf (.seq .leaf (.join Z0w (fun v=>Zb5 v.1 v.2.1 v.2.2.1 v.2.2.2.1) .leaf .leaf)))))))))) ⟨lf,lf,lf,lf,lf,lf,lf,(fun v=>by kernel_rfl),lf,(fun v=>by kernel_rfl),lf,lf,(fun v=>by kernel_rfl),lf⟩ (hk fun _=>by kernel_rfl)
abbrev Qrw:FnE:={f:=345,args:=[Q8,.int .i64,.bool],res:=[.int .i64],F:=fun xs=>Zrs xs.1 xs.2.1 xs.2.2.1}
theorem Z1p:okE Qrw:=
 ofE Zf Zd Tryz.func345 Tryz.call345 .leaf lf (hk fun _=>by kernel_rfl)
abbrev Z6m:FnE:={f:=362,args:=[Yh],res:=[.slice 195 (Zt)],F:=fun xs=>Zlm xs.1}
theorem Z37:okE Z6m:=
 ofE (Za Zhs Zf) Zd Tryz.func362 Tryz.call362 (.seq .leaf (.seq .leaf (.seq (.seq .leaf (.block (.loop Z0o (fun N v=>Y9 N v.1 v.2.1 v.2.2.1) (fun v=>Zaq v.1 v.2.1 v.2.2.1) (fun K1=> .leaf)))) .leaf))) ⟨lf,lf,⟨lf,fun _=>rfl,fun N=>⟨(fun v=>by kernel_rfl),lf⟩⟩,lf⟩ (hk fun _=>by kernel_rfl)
abbrev Quw:FnE:={f:=363,args:=[Yh,.int .i64],res:=[.int .i64],F:=fun xs=>Zxh xs.1 xs.2.1}
theorem Qs9:okE Quw:=
 ofE Zf Zd Tryz.func363 Tryz.call363 (.seq .leaf (.seq (.seq .leaf (.block (.loop Qkr (fun N v=>Zhz N v.1 v.2.1 v.2.2.1) (fun v=>Zn1 v.1 v.2.1 v.2.2.1) (fun K1=> .leaf)))) .leaf)) ⟨lf,⟨lf,fun _=>rfl,fun N=>⟨(fun v=>by kernel_rfl),lf⟩⟩,lf⟩ (hk fun _=>by kernel_rfl)
abbrev Qdx:FnE:={f:=346,args:=[Yh,.int .i64,.str],res:=[Yh],F:=fun xs=>Zo3 xs.1 xs.2.1 xs.2.2.1}
theorem Qa5:okE Qdx:=
 ofE (Za Zhs (Za Zv9 (Za Z37 (Za Zbe (Za Qs9 (Za Zv6 Zf)))))) Zd Tryz.func346 Tryz.call346 (.seq .leaf (.seq .leaf (.seq .leaf (.seq .leaf (.seq .leaf (.seq .leaf (.seq .leaf (.seq (.seq .leaf (.block (.loop Z45 (fun N v=>Zbg N v.1 v.2.1 v.2.2.1 v.2.2.2.1 v.2.2.2.2.1 v.2.2.2.2.2.1 v.2.2.2.2.2.2.1) (fun v=>Zcm v.1 v.2.1 v.2.2.1 v.2.2.2.1 v.2.2.2.2.1 v.2.2.2.2.2.1 v.2.2.2.2.2.2.1) (fun K1=>(.seq .leaf (.seq (.block (.seq .leaf (.seq (.seq .leaf (.block (.loop Z46 (fun N v=>Jh K1 N v.1 v.2.1 v.2.2.1 v.2.2.2.1 v.2.2.2.2.1 v.2.2.2.2.2.1 v.2.2.2.2.2.2.1 v.2.2.2.2.2.2.2.1 v.2.2.2.2.2.2.2.2.1) (fun v=>Zcn v.1 v.2.1 v.2.2.1 v.2.2.2.1 v.2.2.2.2.1 v.2.2.2.2.2.1 v.2.2.2.2.2.2.1 v.2.2.2.2.2.2.2.1 v.2.2.2.2.2.2.2.2.1) (fun K2=>(.seq .leaf (.seq (.block (.seq .leaf (.join Z44 (fun v=>Zeq K1 K2 v.1 v.2.1 v.2.2.1 v.2.2.2.1 v.2.2.2.2.1 v.2.2.2.2.2.1 v.2.2.2.2.2.2.1 v.2.2.2.2.2.2.2.1 v.2.2.2.2.2.2.2.2.1 v.2.2.2.2.2.2.2.2.2.1) .leaf .leaf))) .leaf)))))) .leaf))) .leaf)))))) .leaf)))))))) ⟨lf,lf,lf,lf,lf,lf,lf,⟨lf,fun _=>rfl,fun N=>⟨(fun v=>by kernel_rfl),lf,⟨lf,⟨lf,fun _=>rfl,fun N=>⟨(fun v=>by kernel_rfl),lf,⟨lf,lf,(fun v=>by kernel_rfl),lf⟩,lf⟩⟩,lf⟩,lf⟩⟩,lf⟩ (hk fun _=>by kernel_rfl)
abbrev Z9v:FnE:={f:=306,args:=[Q8,.int .i64,.str,.bool],res:=[Q8,.int .i64],F:=fun xs=>Zni xs.1 xs.2.1 xs.2.2.1 xs.2.2.2.1}
theorem Z7n:okE Z9v:=
 ofE (Za Zq0 (Za Zbf (Za Z1p (Za Qa5 (Za Zps Zf))))) Zd Tryz.func306 Tryz.call306 (.seq .leaf (.seq .leaf (.seq .leaf (.seq .leaf (.seq .leaf (.seq .leaf (.seq .leaf (.join Z2z (fun v=>Zdd v.1 v.2.1 v.2.2.1 v.2.2.2.1 v.2.2.2.2.1) .leaf (.seq .leaf (.join Z20 (fun v=>Zhg v.1 v.2.1) .leaf .leaf)))))))))) ⟨lf,lf,lf,lf,lf,lf,lf,lf,(fun v=>by kernel_rfl),lf,lf,(fun v=>by kernel_rfl),lf⟩ (hk fun _=>by kernel_rfl)
abbrev Qno:FnE:={f:=347,args:=[Q8,.int .i64],res:=[.int .i64],F:=fun xs=>Zsv xs.1 xs.2.1}
theorem Qjy:okE Qno:=
 ofE (Za Zbf (Za Qw Zf)) Zd Tryz.func347 Tryz.call347 .leaf lf (hk fun _=>by kernel_rfl)
abbrev Qnx:FnE:={f:=348,args:=[Vr,.int .i64],res:=[Vr,.bool],F:=fun xs=>Zom xs.1 xs.2.1}
theorem Qj6:okE Qnx:=
 ofE (Za Zd3 Zf) Zd Tryz.func348 Tryz.call348 .leaf lf (hk fun _=>by kernel_rfl)
abbrev Qq9:FnB:={f:=307,args:=[.bx 37 (Zl) (.u false),.bx 88 (Z2) (.u false),.sh (.int .i64)],res:= .vals [.int .i64],F:=fun xs=>Zrj xs.1 xs.2.1 xs.2.2.1}
theorem Z1i:okB Qq9:=
 ofB [0,1] (Za Qjy (Za Qj6 Zf)) Zd Tryz.func307 Tryz.call307 .leaf lf (hk fun _=>by kernel_rfl)
abbrev Qdv:FnB:={f:=237,args:=[.sh (Zl),.sh (Zu)],res:= .shr [Zl,.int .i64],F:=fun xs=>Zo1 xs.1 xs.2.1}
theorem Qa3:okB Qdv:=
 ofB [] (Za Qz (Za Vu (Za Qg (Za Zf4 (Za Zf5 (Za Q3 (Za Z7n Zf))))))) (Zo Z1i (Zo Zfu Zd)) Tryz.func237 Tryz.call237 (.seq .leaf (.seq (.seq .leaf (.cond (.seq .leaf (.frz [(4,.u false)])) .leaf)) (.seq (.seq .leaf (.cond (.seq .leaf (.frz [(4,.u false)])) .leaf)) (.seq .leaf (.seq (.seq .leaf (.cond (.seq .leaf (.frz [(4,.u false)])) .leaf)) (.seq .leaf (.seq .leaf (.seq (.frz [(6,.u false),(8,.u false)]) (.seq (.seq .leaf (.cond (.seq .leaf (.frz [(4,.u false)])) .leaf)) (.seq (.seq .leaf (.cond (.seq .leaf (.frz [(4,.u false)])) .leaf)) (.seq .leaf (.seq (.frz [(8,.u false)]) .leaf)))))))))))) ⟨lf,⟨lf,⟨lf,trivial⟩,lf⟩,⟨lf,⟨lf,trivial⟩,lf⟩,lf,⟨lf,⟨lf,trivial⟩,lf⟩,lf,lf,trivial,⟨lf,⟨lf,trivial⟩,lf⟩,⟨lf,⟨lf,trivial⟩,lf⟩,lf,trivial,lf⟩ (hk fun _=>by kernel_rfl)
abbrev Z6w:FnE:={f:=308,args:=[Q8,.int .i64,.int .i64],res:=[Q8,.int .i64],F:=fun xs=>Zlq xs.1 xs.2.1 xs.2.2.1}
theorem Z4c:okE Z6w:=
 ofE (Za Zq0 (Za Zbf (Za Qw (Za Z1p Zf)))) Zd Tryz.func308 Tryz.call308 .leaf lf (hk fun _=>by kernel_rfl)
abbrev Z9p:FnB:={f:=238,args:=[.sh (Zl),.sh (Zu)],res:= .shr [Zl,.int .i64],F:=fun xs=>Zne xs.1 xs.2.1}
theorem Z7i:okB Z9p:=
 ofB [] (Za Qz (Za Vu (Za Qg (Za Zf4 (Za Zf5 (Za Q3 (Za Z4c Zf))))))) (Zo Z1i (Zo Z1j (Zo Zfu Zd))) Tryz.func238 Tryz.call238 (.seq .leaf (.seq (.seq .leaf (.cond (.seq .leaf (.frz [(4,.u false)])) .leaf)) (.seq (.seq .leaf (.cond (.seq .leaf (.frz [(4,.u false)])) .leaf)) (.seq .leaf (.seq (.seq .leaf (.cond (.seq .leaf (.frz [(4,.u false)])) .leaf)) (.seq .leaf (.seq .leaf (.seq (.frz [(6,.u false),(8,.u false)]) (.seq (.seq .leaf (.cond (.seq .leaf (.frz [(4,.u false)])) .leaf)) (.seq (.seq .leaf (.cond (.seq .leaf (.frz [(4,.u false)])) .leaf)) (.join Z2w (fun v=>Zdc v.1 v.2.1 v.2.2.1 v.2.2.2.1) .leaf (.seq .leaf (.seq (.frz [(8,.u false)]) .leaf))))))))))))) ⟨lf,⟨lf,⟨lf,trivial⟩,lf⟩,⟨lf,⟨lf,trivial⟩,lf⟩,lf,⟨lf,⟨lf,trivial⟩,lf⟩,lf,lf,trivial,⟨lf,⟨lf,trivial⟩,lf⟩,⟨lf,⟨lf,trivial⟩,lf⟩,lf,(fun v=>by kernel_rfl),lf,trivial,lf⟩ (hk fun _=>by kernel_rfl)
abbrev Qdw:FnB:={f:=239,args:=[.sh (Zl),.sh (Zu)],res:= .shr [Zl,.int .i64],F:=fun xs=>Zo2 xs.1 xs.2.1}
theorem Qa4:okB Qdw:=
 ofB [] (Za Qz (Za Vu (Za Qg (Za Zqt (Za Zf5 (Za Q3 (Za Zul Zf))))))) (Zo Zfu Zd) Tryz.func239 Tryz.call239 (.seq .leaf (.seq (.seq .leaf (.cond (.seq .leaf (.frz [(4,.u false)])) .leaf)) (.seq (.seq .leaf (.cond (.seq .leaf (.frz [(4,.u false)])) .leaf)) (.seq .leaf (.seq (.seq .leaf (.cond (.seq .leaf (.frz [(4,.u false)])) .leaf)) (.seq .leaf (.seq .leaf (.join Z43 (fun v=>Zep v.1 v.2.1 v.2.2.1) .leaf (.seq (.frz [(6,.u false),(8,.u false)]) .leaf))))))))) ⟨lf,⟨lf,⟨lf,trivial⟩,lf⟩,⟨lf,⟨lf,trivial⟩,lf⟩,lf,⟨lf,⟨lf,trivial⟩,lf⟩,lf,lf,lf,(fun v=>by kernel_rfl),trivial,lf⟩ (hk fun _=>by kernel_rfl)
abbrev Qeb:FnE:={f:=309,args:=[X9,.int .i64],res:=[X9],F:=fun xs=>Zkf xs.1 xs.2.1}
theorem Zv2:okE Qeb:=
 ofE (Za Wc (Za Qw Zf)) Zd Tryz.func309 Tryz.call309 .leaf lf (hk fun _=>by kernel_rfl)
abbrev Qea:FnE:={f:=310,args:=[Zls,.int .i64],res:=[Zls],F:=fun xs=>Zke xs.1 xs.2.1}
theorem Qbd:okE Qea:=
 ofE (Za Zt1 Zf) Zd Tryz.func310 Tryz.call310 .leaf lf (hk fun _=>by kernel_rfl)
abbrev Qn2:FnE:={f:=311,args:=[Zl,Zu],res:=[Zl,.int .i64],F:=fun xs=>Zs3 xs.1 xs.2.1}
theorem Qj9:okE Qn2:=
 ofE (Za Zqt (Za Zf4 (Za Qg (Za Zf5 (Za Q3 (Za Zv2 (Za Xr Zf))))))) Zd Tryz.func311 Tryz.call311 (.seq .leaf (.seq .leaf (.join Qce (fun v=>Ziq v.1 v.2.1 v.2.2.1 v.2.2.2.1) .leaf (.seq .leaf (.seq .leaf (.seq .leaf (.join Qcf (fun v=>Znk v.1 v.2.1) .leaf .leaf))))))) ⟨lf,lf,lf,(fun v=>by kernel_rfl),lf,lf,lf,lf,(fun v=>by kernel_rfl),lf⟩ (hk fun _=>by kernel_rfl)
abbrev Z9o:FnE:={f:=240,args:=[Zl,Zu],res:=[Zl,.int .i64],F:=fun xs=>Znd xs.1 xs.2.1}
theorem Z7h:okE Z9o:=
 ofE (Za Qg (Za Qz (Za Vu (Za Zv2 (Za Qbd (Za Qj9 Zf)))))) Zd Tryz.func240 Tryz.call240 (.seq .leaf (.seq .leaf (.seq .leaf (.seq (.seq .leaf (.block (.seq .leaf (.cond .leaf (.seq .leaf (.cond (.join Z2t (fun v=>Zhe v.1 v.2.1) .leaf .leaf) (.join Z2u (fun v=>Zda v.1 v.2.1 v.2.2.1 v.2.2.2.1 v.2.2.2.2.1 v.2.2.2.2.2.1) .leaf (.cond .leaf (.join Z2v (fun v=>Zdb v.1 v.2.1 v.2.2.1 v.2.2.2.1 v.2.2.2.2.1) .leaf .leaf))))))))) .leaf)))) ⟨lf,lf,lf,⟨lf,lf,lf,lf,⟨lf,(fun v=>by kernel_rfl),lf⟩,lf,(fun v=>by kernel_rfl),lf,lf,(fun v=>by kernel_rfl),lf⟩,lf⟩ (hk fun _=>by kernel_rfl)
abbrev Z9n:FnB:={f:=171,args:=[.sh (Zl),.sh (Zu)],res:= .shr [Zl,.int .i64],F:=fun xs=>Zd6 xs.1 xs.2.1}
theorem Zuj:okB Z9n:=
 ofB [] (Za Qg (Za Z7h Zf)) (Zo Qa3 (Zo Z7i (Zo Qa4 Zd))) Tryz.func171 Tryz.call171 (.seq .leaf (.seq .leaf (.seq .leaf (.join Z2s (fun v=>W8 v.1 v.2.1 v.2.2.1) .leaf .leaf)))) ⟨lf,lf,lf,lf,(fun v=>by kernel_rfl),lf⟩ (hk fun _=>by kernel_rfl)
abbrev Z3m:FnB:={f:=216,args:=[.sh (Zl),.sh (.str)],res:= .shr [Zl,.int .i64],F:=fun xs=>V3 xs.1 xs.2.1}
theorem Zr1:okB Z3m:=
 ofB [] (Za Qg (Za Qz (Za Zht (Za Z16 (Za Qfc Zf))))) (Zo Zuj Zd) Tryz.func216 Tryz.call216 (.seq .leaf (.seq .leaf (.seq (.seq .leaf (.cond (.seq .leaf (.frz [(4,.u false)])) .leaf)) (.seq .leaf (.seq (.seq .leaf (.cond (.seq .leaf (.frz [(4,.u false)])) .leaf)) (.seq (.seq .leaf (.block (.loop Zy8 (fun N v=>Qy N v.1 v.2.1 v.2.2.1 v.2.2.2.1) (fun v=>Zeo v.1 v.2.1 v.2.2.1 v.2.2.2.1) (fun K1=>(.seq .leaf (.seq (.block (.join Zy7 (fun v=>Xg K1 v.1 v.2.1 v.2.2.1 v.2.2.2.1 v.2.2.2.2.1 v.2.2.2.2.2.1) (.frz [(6,.u false)]) (.seq (.seq .leaf (.cond (.seq .leaf (.frz [(4,.u false)])) .leaf)) .leaf))) .leaf)))))) .leaf)))))) ⟨lf,lf,⟨lf,⟨lf,trivial⟩,lf⟩,lf,⟨lf,⟨lf,trivial⟩,lf⟩,⟨lf,fun _=>rfl,fun N=>⟨(fun v=>by kernel_rfl),lf,⟨trivial,(fun v=>by kernel_rfl),⟨lf,⟨lf,trivial⟩,lf⟩,lf⟩,lf⟩⟩,lf⟩ (hk fun _=>by kernel_rfl)
abbrev Qnu:FnE:={f:=217,args:=[Zl,.int .i64],res:=[Zl,.bool],F:=fun xs=>Zsz xs.1 xs.2.1}
theorem Qj3:okE Qnu:=
 ofE (Za Qg (Za Yy (Za Qq Zf))) Zd Tryz.func217 Tryz.call217 .leaf lf (hk fun _=>by kernel_rfl)
abbrev Qxs:FnE:={f:=218,args:=[.bool],res:=[.str],F:=fun xs=>Z01 xs.1}
theorem Qvw:okE Qxs:=
 ofE Zf Zd Tryz.func218 Tryz.call218 .leaf lf (hk fun _=>by kernel_rfl)
abbrev Qdk:FnB:={f:=153,args:=[.sh (Zl),.sh (Vx)],res:= .shr [.str,Zl],F:=fun xs=>Zox xs.1 xs.2.1}
theorem Qax:okB Qdk:=
 ofB [] (Za Qg (Za Qz (Za Z1f (Za Zht (Za Zv0 (Za Ky (Za Zuo (Za Ztl (Za Zqu (Za Qbe (Za Zun (Za Zw3 (Za Qj3 (Za Qvw Zf)))))))))))))) (Zo Zpr (Zo Zum (Zo Zpn (Zo Zqs (Zo Zpq (Zo Zr1 Zd)))))) Tryz.func153 Tryz.call153 (.seq .leaf (.seq .leaf (.seq (.seq .leaf (.cond (.seq .leaf (.frz [(5,.u false)])) .leaf)) (.seq (.seq .leaf (.cond (.seq .leaf (.frz [(5,.u false)])) .leaf)) (.seq .leaf (.join Z4u (fun v=>Yb v.1 v.2.1 v.2.2.1) (.seq .leaf (.block (.seq .leaf (.cond (.seq .leaf (.seq (.seq .leaf (.cond (.seq .leaf (.frz [(5,.u false)])) .leaf)) (.seq .leaf (.frz [(5,.u false)])))) (.seq .leaf (.cond (.seq .leaf (.seq .leaf (.frz [(5,.u false)]))) .leaf)))))) .leaf)))))) ⟨lf,lf,⟨lf,⟨lf,trivial⟩,lf⟩,⟨lf,⟨lf,trivial⟩,lf⟩,lf,⟨lf,lf,⟨lf,⟨lf,⟨lf,trivial⟩,lf⟩,lf,trivial⟩,lf,⟨lf,lf,trivial⟩,lf⟩,(fun v=>by kernel_rfl),lf⟩ (hk fun _=>by kernel_rfl)
abbrev Qnt:FnE:={f:=219,args:=[.str],res:=[.int .i64,.bool],F:=fun xs=>Zol xs.1}
theorem Qj2:okE Qnt:=
 ofE (Za Ky Zf) Zd Tryz.func219 Tryz.call219 (.seq .leaf (.seq .leaf (.seq .leaf (.seq (.seq .leaf (.block (.loop Qca (fun N v=>Zd8 N v.1 v.2.1 v.2.2.1 v.2.2.2.1) (fun v=>Zlb v.1 v.2.1 v.2.2.1 v.2.2.2.1) (fun K1=>(.seq .leaf (.join Qb8 (fun v=>Zif K1 v.1 v.2.1 v.2.2.1 v.2.2.2.1) .leaf .leaf)))))) (.join Qb9 (fun v=>J0 v.1 v.2.1 v.2.2.1) .leaf .leaf))))) ⟨lf,lf,lf,⟨lf,fun _=>rfl,fun N=>⟨(fun v=>by kernel_rfl),lf,lf,(fun v=>by kernel_rfl),lf⟩⟩,lf,(fun v=>by kernel_rfl),lf⟩ (hk fun _=>by kernel_rfl)
abbrev Qq3:FnE:={f:=291,args:=[Qs,.int .i64,.bool],res:=[Wk,.bool],F:=fun xs=>Z00 xs.1 xs.2.1 xs.2.2.1}
theorem Qoq:okE Qq3:=
 ofE Zf Zd Tryz.func291 Tryz.call291 (.seq .leaf (.seq (.seq .leaf (.block (.loop Qgb (fun N v=>Zkg N v.1 v.2.1 v.2.2.1 v.2.2.2.1 v.2.2.2.2.1) (fun v=>Zmk v.1 v.2.1 v.2.2.1 v.2.2.2.1 v.2.2.2.2.1) (fun K1=> .leaf)))) .leaf)) ⟨lf,⟨lf,fun _=>rfl,fun N=>⟨(fun v=>by kernel_rfl),lf⟩⟩,lf⟩ (hk fun _=>by kernel_rfl)
abbrev Qn8:FnE:={f:=220,args:=[Qs,.int .i64,.bool],res:=[Wk],F:=fun xs=>Zbs xs.1 xs.2.1 xs.2.2.1}
theorem Qkc:okE Qn8:=
 ofE (Za Qoq Zf) Zd Tryz.func220 Tryz.call220 .leaf lf (hk fun _=>by kernel_rfl)
abbrev Qvc:FnB:={f:=221,args:=[.bx 41 (Qs) (.p (.u false) (.p (.u false) (.p (.u false) (.p (.u false) (.p (.u true) (.u false)))))),.sh (Wk)],res:= .vals [],F:=fun xs=>Zmv xs.1 xs.2.1}
theorem Qtf:okB Qvc:=
 ofB [0] Zf Zd Tryz.func221 Tryz.call221 (.seq .leaf (.seq (.seq .leaf (.block (.loop Qk0 (fun N v=>Zmw N v.1 v.2.1 v.2.2.1) (fun v=>Zn3 v.1 v.2.1 v.2.2.1) (fun K1=> .leaf)))) .leaf)) ⟨lf,⟨lf,fun _=>rfl,fun N=>⟨(fun v=>by kernel_rfl),lf⟩⟩,lf⟩ (hk fun _=>by kernel_rfl)
abbrev Qrq:FnB:={f:=154,args:=[.bx 41 (Qs) (.p (.u false) (.p (.u false) (.p (.u false) (.p (.u false) (.p (.u true) (.u false)))))),.sh (.bool),.sh (Vx),.sh (.str),.sh (Zl)],res:= .vals [],F:=fun xs=>Zrq xs.1 xs.2.1 xs.2.2.1 xs.2.2.2.1 xs.2.2.2.2.1}
theorem Qo0:okB Qrq:=
 ofB [0] (Za Qj2 (Za Qkc (Za Q3 Zf))) (Zo Qtf (Zo Zpr Zd)) Tryz.func154 Tryz.call154 (.seq .leaf (.seq .leaf (.block (.seq .leaf (.cond (.seq .leaf (.seq .leaf (.cond (.join Qgx (fun v=>Zuc v.1 v.2.1 v.2.2.1 v.2.2.2.1) .leaf .leaf) .leaf))) (.seq .leaf (.cond (.seq .leaf (.cond (.join Qgy (fun v=>Zud v.1 v.2.1) .leaf .leaf) .leaf)) (.seq .leaf (.cond (.seq .leaf (.seq .leaf (.seq .leaf (.cond (.join Qgz (fun v=>Zue v.1 v.2.1 v.2.2.1 v.2.2.2.1 v.2.2.2.2.1) .leaf .leaf) .leaf)))) (.seq .leaf (.cond (.seq .leaf (.cond (.join Qg0 (fun v=>Zuf v.1 v.2.1) .leaf .leaf) .leaf)) (.seq .leaf (.cond (.seq .leaf (.cond (.join Qg1 (fun v=>Zug v.1 v.2.1) .leaf .leaf) .leaf)) .leaf))))))))))))) ⟨lf,lf,lf,⟨lf,lf,⟨lf,(fun v=>by kernel_rfl),lf⟩,lf⟩,lf,⟨lf,⟨lf,(fun v=>by kernel_rfl),lf⟩,lf⟩,lf,⟨lf,lf,lf,⟨lf,(fun v=>by kernel_rfl),lf⟩,lf⟩,lf,⟨lf,⟨lf,(fun v=>by kernel_rfl),lf⟩,lf⟩,lf,⟨lf,⟨lf,(fun v=>by kernel_rfl),lf⟩,lf⟩,lf⟩ (hk fun _=>by kernel_rfl)
abbrev Qiu:FnB:={f:=98,args:=[.sh (Qs),.sh (.bool),.sh (Vx)],res:= .flg [(.str,(.u true)),(Qs,(.p (.u false) (.p (.u false) (.p (.u false) (.p (.u false) (.u true))))))],F:=fun xs=>Ze3 xs.1 xs.2.1 xs.2.2.1}
theorem Zxb:okB Qiu:=
 ofB [] (Za Zov (Za Zl6 (Za Z1f (Za Qq (Za Zlj (Za Zvw (Za Zht (Za Zw8 (Za Ky Zf))))))))) (Zo Zpn (Zo Zt3 (Zo Qax (Zo Qo0 Zd)))) Tryz.func98 Tryz.call98 (.seq .leaf (.seq .leaf (.seq (.seq .leaf (.cond (.seq .leaf (.frz [(7,(.p (.u false) (.p (.u false) (.p (.u false) (.p (.u false) (.u true))))))])) .leaf)) (.seq .leaf (.seq (.seq .leaf (.cond (.seq (.frz [(9,.u false)]) (.seq (.frz [(8,(.p (.u false) (.p (.u false) (.p (.u false) (.p (.u false) (.p (.u true) (.u false)))))))]) (.seq .leaf (.seq .leaf (.join Z76 (fun v=>Zgr v.1 v.2.1 v.2.2.1) .leaf .leaf))))) .leaf)) (.seq (.frz [(9,.u false)]) (.seq (.frz [(8,(.p (.u false) (.p (.u false) (.p (.u false) (.p (.u false) (.p (.u true) (.u false)))))))]) .leaf))))))) ⟨lf,lf,⟨lf,⟨lf,trivial⟩,lf⟩,lf,⟨lf,⟨trivial,trivial,lf,lf,lf,(fun v=>by kernel_rfl),lf⟩,lf⟩,trivial,trivial,lf⟩ (hk fun _=>by kernel_rfl)
abbrev Qu8:FnB:={f:=155,args:=[.bx 71 (Kp) (.u false),.sh (.slice 9 (.str))],res:= .vals [.str],F:=fun xs=>Zi7 xs.1 xs.2.1}
theorem Zv3:okB Qu8:=
 ofB [0] Zf (Zo X6 Zd) Tryz.func155 Tryz.call155 .leaf lf (hk fun _=>by kernel_rfl)
abbrev Qvi:FnB:={f:=99,args:=[.bx 71 (Kp) (.u false),.sh (.int .i64)],res:= .vals [.str],F:=fun xs=>Zi8 xs.1 xs.2.1}
theorem Zqz:okB Qvi:=
 ofB [0] Zf (Zo X6 (Zo Zv3 Zd)) Tryz.func99 Tryz.call99 (.seq .leaf (.seq .leaf (.seq (.seq .leaf (.block (.loop Qk1 (fun N v=>Ziw N v.1 v.2.1 v.2.2.1) (fun v=>Zhj v.1 v.2.1 v.2.2.1) (fun K1=> .leaf)))) .leaf))) ⟨lf,lf,⟨lf,fun _=>rfl,fun N=>⟨(fun v=>by kernel_rfl),lf⟩⟩,lf⟩ (hk fun _=>by kernel_rfl)
abbrev Qu7:FnB:={f:=48,args:=[.bx 71 (Kp) (.u false),.sh (.int .i64)],res:= .vals [.bool],F:=fun xs=>Wj xs.1 xs.2.1}
theorem Zl7:okB Qu7:=
 ofB [0] Zf (Zo X6 Zd) Tryz.func48 Tryz.call48 .leaf lf (hk fun _=>by kernel_rfl)
abbrev Qi1:FnB:={f:=47,args:=[.bx 71 (Kp) (.u false),.sh (.slice 3 (.int .i64))],res:= .vals [.int .i64],F:=fun xs=>Vq xs.1 xs.2.1}
theorem Zqy:okB Qi1:=
 ofB [0] Zf (Zo X6 Zd) Tryz.func47 Tryz.call47 .leaf lf (hk fun _=>by kernel_rfl)
abbrev Qrv:FnB:={f:=170,args:=[.bx 71 (Kp) (.u false)],res:= .vals [Zu],F:=fun xs=>Zrr xs.1}
theorem Z1o:okB Qrv:=
 ofB [0] (Za Z4f Zf) (Zo Zqy (Zo X6 (Zo Zqz (Zo Zl7 Zd)))) Tryz.func170 Tryz.call170 .leaf lf (hk fun _=>by kernel_rfl)
abbrev Qn7:FnB:={f:=156,args:=[.bx 71 (Kp) (.u false)],res:= .vals [Vx],F:=fun xs=>Zs5 xs.1}
theorem Qkb:okB Qn7:=
 ofB [0] (Za Znx (Za Zqu (Za Z1m Zf))) (Zo Zqy (Zo X6 (Zo Zv3 (Zo Zqz (Zo Z1o Zd))))) Tryz.func156 Tryz.call156 (.seq .leaf (.seq .leaf (.seq .leaf (.join Qcg (fun v=>Kq v.1 v.2.1 v.2.2.1) (.seq .leaf (.block (.seq .leaf (.cond .leaf (.seq .leaf (.cond .leaf (.seq .leaf (.cond .leaf (.seq .leaf (.cond .leaf (.seq .leaf (.cond .leaf (.join Qch (fun v=>Zit v.1 v.2.1 v.2.2.1 v.2.2.2.1) .leaf .leaf))))))))))))) .leaf)))) ⟨lf,lf,lf,⟨lf,lf,lf,lf,lf,lf,lf,lf,lf,lf,lf,lf,(fun v=>by kernel_rfl),lf⟩,(fun v=>by kernel_rfl),lf⟩ (hk fun _=>by kernel_rfl)
abbrev Qef:FnE:={f:=293,args:=[.slice 127 (Qx),.int .i64],res:=[Qx,.slice 127 (Qx),.bool],F:=fun xs=>Zpb xs.1 xs.2.1}
theorem Qbf:okE Qef:=
 ofE (Za Qq (Za Zj6 Zf)) Zd Tryz.func293 Tryz.call293 (.seq .leaf (.seq .leaf (.seq .leaf (.seq (.seq .leaf (.block (.loop Z5k (fun N v=>Zbh N v.1 v.2.1 v.2.2.1 v.2.2.2.1 v.2.2.2.2.1) (fun v=>Zim v.1 v.2.1 v.2.2.1 v.2.2.2.1 v.2.2.2.2.1) (fun K1=>(.seq .leaf (.join Z5j (fun v=>Zjv K1 v.1 v.2.1 v.2.2.1 v.2.2.2.1 v.2.2.2.2.1) .leaf .leaf)))))) .leaf)))) ⟨lf,lf,lf,⟨lf,fun _=>rfl,fun N=>⟨(fun v=>by kernel_rfl),lf,lf,(fun v=>by kernel_rfl),lf⟩⟩,lf⟩ (hk fun _=>by kernel_rfl)
abbrev Qru:FnB:={f:=224,args:=[.bx 41 (Qs) (.p (.u false) (.p (.u false) (.p (.u false) (.p (.u false) (.p (.u true) (.u false)))))),.sh (.bool),.sh (.int .i64)],res:= .vals [Qx,.bool],F:=fun xs=>Znl xs.1 xs.2.1 xs.2.2.1}
theorem Z1n:okB Qru:=
 ofB [0] (Za Zlj (Za Qbf Zf)) Zd Tryz.func224 Tryz.call224 (.seq .leaf (.seq .leaf (.join Qg7 (fun v=>Zpg v.1 v.2.1 v.2.2.1 v.2.2.2.1) .leaf .leaf))) ⟨lf,lf,lf,(fun v=>by kernel_rfl),lf⟩ (hk fun _=>by kernel_rfl)
abbrev Qqr:FnB:={f:=157,args:=[.sh (Qs),.sh (.bool),.sh (.int .i64)],res:= .flg [(Qs,(.p (.u false) (.p (.u false) (.p (.u false) (.p (.u false) (.u true)))))),(.bool,(.u true))],F:=fun xs=>Zu2 xs.1 xs.2.1 xs.2.2.1}
theorem Qok:okB Qqr:=
 ofB [] (Za Zov (Za Zl6 (Za Zvw Zf))) (Zo Z1n (Zo Zr1 (Zo Zt3 (Zo Zqs Zd)))) Tryz.func157 Tryz.call157 (.seq .leaf (.seq .leaf (.seq (.frz [(8,(.p (.u false) (.p (.u false) (.p (.u false) (.p (.u false) (.p (.u true) (.u false)))))))]) (.seq (.seq .leaf (.cond (.seq .leaf (.frz [(6,(.p (.u false) (.p (.u false) (.p (.u false) (.p (.u false) (.u true))))))])) .leaf)) (.join Qf7 (fun v=>X7 v.1 v.2.1 v.2.2.1 v.2.2.2.1 v.2.2.2.2.1 v.2.2.2.2.2.1 v.2.2.2.2.2.2.1) .leaf (.seq .leaf (.join Qf8 (fun v=>Zka v.1 v.2.1) (.seq .leaf (.cond (.join Qf9 (fun v=>X8 v.1 v.2.1 v.2.2.1 v.2.2.2.1) .leaf .leaf) .leaf)) .leaf))))))) ⟨lf,lf,trivial,⟨lf,⟨lf,trivial⟩,lf⟩,lf,(fun v=>by kernel_rfl),lf,⟨lf,⟨lf,(fun v=>by kernel_rfl),lf⟩,lf⟩,(fun v=>by kernel_rfl),lf⟩ (hk fun _=>by kernel_rfl)
abbrev Qid:FnE:={f:=225,args:=[.slice 127 (Qx),.int .i64],res:=[.bool],F:=fun xs=>Zwg xs.1 xs.2.1}
theorem Qff:okE Qid:=
 ofE Zf Zd Tryz.func225 Tryz.call225 (.seq .leaf (.seq (.seq .leaf (.block (.loop Z7v (fun N v=>Zgi N v.1 v.2.1 v.2.2.1) (fun v=>Zjr v.1 v.2.1 v.2.2.1) (fun K1=> .leaf)))) .leaf)) ⟨lf,⟨lf,fun _=>rfl,fun N=>⟨(fun v=>by kernel_rfl),lf⟩⟩,lf⟩ (hk fun _=>by kernel_rfl)
abbrev Qzs:FnB:={f:=158,args:=[.sh (Qs),.sh (.bool),.sh (.int .i64)],res:= .flg [(Qs,(.p (.u false) (.p (.u false) (.p (.u false) (.p (.u false) (.u true)))))),(.bool,(.u true))],F:=fun xs=>Z6b xs.1 xs.2.1 xs.2.2.1}
theorem Qyk:okB Qzs:=
 ofB [] (Za Zov (Za Zl6 (Za Zlj (Za Qff (Za Zvw Zf))))) (Zo Z1n (Zo Zpq (Zo Zt3 Zd))) Tryz.func158 Tryz.call158 (.seq .leaf (.seq .leaf (.seq (.frz [(8,(.p (.u false) (.p (.u false) (.p (.u false) (.p (.u false) (.p (.u true) (.u false)))))))]) (.seq (.seq .leaf (.cond (.seq .leaf (.frz [(6,(.p (.u false) (.p (.u false) (.p (.u false) (.p (.u false) (.u true))))))])) .leaf)) (.join Qt9 (fun v=>Zq8 v.1 v.2.1) (.seq .leaf (.cond (.join Qua (fun v=>Js v.1 v.2.1 v.2.2.1 v.2.2.2.1) .leaf .leaf) .leaf)) .leaf))))) ⟨lf,lf,trivial,⟨lf,⟨lf,trivial⟩,lf⟩,⟨lf,⟨lf,(fun v=>by kernel_rfl),lf⟩,lf⟩,(fun v=>by kernel_rfl),lf⟩ (hk fun _=>by kernel_rfl)
abbrev Qdn:FnE:={f:=226,args:=[.slice 127 (Qx),.int .i64],res:=[.slice 127 (Qx),.bool],F:=fun xs=>Zoy xs.1 xs.2.1}
theorem Qaz:okE Qdn:=
 ofE (Za Qq (Za Zj6 (Za Zw8 Zf))) Zd Tryz.func226 Tryz.call226 .leaf lf (hk fun _=>by kernel_rfl)
abbrev Qh8:FnE:={f:=159,args:=[Qs,.bool,.int .i64],res:=[Qs,.bool],F:=fun xs=>Zq9 xs.1 xs.2.1 xs.2.2.1}
theorem Qfd:okE Qh8:=
 ofE (Za Zov (Za Zlj (Za Qaz (Za Zl6 Zf)))) Zd Tryz.func159 Tryz.call159 (.seq .leaf (.seq .leaf (.seq .leaf (.seq .leaf (.join Z7r (fun v=>Zlo v.1 v.2.1) .leaf .leaf))))) ⟨lf,lf,lf,lf,lf,(fun v=>by kernel_rfl),lf⟩ (hk fun _=>by kernel_rfl)
abbrev Qrt:FnB:={f:=100,args:=[.bx 71 (Kp) (.u false),.sh (Qs)],res:= .flg [(Qs,(.p (.u false) (.p (.u false) (.p (.u false) (.p (.u false) (.p (.u true) (.u false)))))))],F:=fun xs=>Zvg xs.1 xs.2.1}
theorem Qo2:okB Qrt:=
 ofB [0] (Za Qfd Zf) (Zo Zl7 (Zo X6 (Zo Qkb (Zo Zxb (Zo Qok (Zo Qyk Zd)))))) Tryz.func100 Tryz.call100 (.seq .leaf (.seq .leaf (.seq .leaf (.seq (.seq .leaf (.block (.join Qg4 (fun v=>Zfz v.1 v.2.1 v.2.2.1 v.2.2.2.1 v.2.2.2.2.1 v.2.2.2.2.2.1 v.2.2.2.2.2.2.1) .leaf (.cond .leaf (.join Qg5 (fun v=>Zf0 v.1 v.2.1 v.2.2.1 v.2.2.2.1 v.2.2.2.2.1 v.2.2.2.2.2.1 v.2.2.2.2.2.2.1) .leaf (.cond .leaf (.join Qg6 (fun v=>Zku v.1 v.2.1 v.2.2.1 v.2.2.2.1 v.2.2.2.2.1 v.2.2.2.2.2.1 v.2.2.2.2.2.2.1) .leaf .leaf))))))) (.seq .leaf (.frz [(4,(.p (.u false) (.p (.u false) (.p (.u false) (.p (.u false) (.p (.u true) (.u false)))))))])))))) ⟨lf,lf,lf,⟨lf,lf,(fun v=>by kernel_rfl),lf,lf,(fun v=>by kernel_rfl),lf,lf,(fun v=>by kernel_rfl),lf⟩,lf,trivial⟩ (hk fun _=>by kernel_rfl)
abbrev Qrr:FnB:={f:=44,args:=[.bx 71 (Kp) (.u false)],res:= .flg [(Qs,(.p (.u false) (.p (.u false) (.p (.u false) (.p (.u false) (.u true))))))],F:=fun xs=>Zvf xs.1}
theorem Qo1:okB Qrr:=
 ofB [0] (Za Qoo Zf) (Zo Z1h (Zo Zxb (Zo Zqz (Zo X6 (Zo Qo2 Zd))))) Tryz.func44 Tryz.call44 (.seq .leaf (.seq .leaf (.seq (.frz [(3,.u false)]) (.join Qg2 (fun v=>Zuh v.1 v.2.1 v.2.2.1) (.frz [(3,.u false)]) (.seq (.seq .leaf (.block (.loop Qg3 (fun N v=>Zkt N v.1 v.2.1 v.2.2.1 v.2.2.2.1) (fun v=>Zmu v.1 v.2.1 v.2.2.1 v.2.2.2.1) (fun K1=>(.seq .leaf (.seq (.block (.frz [(3,.u false)])) .leaf)))))) .leaf))))) ⟨lf,lf,trivial,trivial,(fun v=>by kernel_rfl),⟨lf,fun _=>rfl,fun N=>⟨(fun v=>by kernel_rfl),lf,trivial,lf⟩⟩,lf⟩ (hk fun _=>by kernel_rfl)
abbrev Qvb:FnB:={f:=24,args:=[.bx 71 (Kp) (.u false)],res:= .flg [(Qs,(.p (.u false) (.p (.u false) (.p (.u false) (.p (.u false) (.u true))))))],F:=fun xs=>Zp7 xs.1}
theorem Zv5:okB Qvb:=
 ofB [0] Zf (Zo Qo1 (Zo X6 Zd)) Tryz.func24 Tryz.call24 .leaf lf (hk fun _=>by kernel_rfl)
abbrev Z6r:FnB:={f:=5,args:=[.sh (.slice 5 (.int .u8))],res:= .flg [(Qs,(.p (.u false) (.p (.u false) (.p (.u false) (.p (.u false) (.u true))))))],F:=fun xs=>Zln xs.1}
theorem Z38:okB Z6r:=
 ofB [] Zf (Zo Zky (Zo Zv5 Zd)) Tryz.func5 Tryz.call5 .leaf lf (hk fun _=>by kernel_rfl)
abbrev Z3k:FnE:={f:=6,args:=[.slice 5 (.int .u8)],res:=[Wk],F:=fun xs=>Zjo xs.1}
theorem Z18:okE Z3k:=
 ofE Zf (Zo Zky (Zo Zv5 Zd)) Tryz.func6 Tryz.call6 .leaf lf (hk fun _=>by kernel_rfl)
abbrev Z1v:FnB:={f:=7,args:=[.sh (.slice 5 (.int .u8))],res:= .flg [(Qs,(.p (.u false) (.p (.u false) (.p (.u false) (.p (.u false) (.u true))))))],F:=fun xs=>Zg9 xs.1}
theorem Zz8:okB Z1v:=
 ofB [] Zf (Zo Zky (Zo Zv5 Zd)) Tryz.func7 Tryz.call7 .leaf lf (hk fun _=>by kernel_rfl)
abbrev Qrj:FnB:={f:=103,args:=[.bx 71 (Kp) (.u false),.sh (Zl)],res:= .shr [Zl],F:=fun xs=>Zvc xs.1 xs.2.1}
theorem Qox:okB Qrj:=
 ofB [0] (Za Zv0 (Za Zuo (Za Ztl (Za Zun Zf)))) (Zo X6 (Zo Zl7 (Zo Zqz (Zo Zpr (Zo Zum (Zo Zv3 (Zo Zpn (Zo Z1o (Zo Zuj (Zo Zpq (Zo Zqs Zd))))))))))) Tryz.func103 Tryz.call103 (.seq .leaf (.seq .leaf (.join Qgm (fun v=>Zkn v.1 v.2.1 v.2.2.1 v.2.2.2.1) .leaf (.seq .leaf (.seq (.seq .leaf (.block (.seq .leaf (.cond .leaf (.join Qgn (fun v=>Zko v.1 v.2.1 v.2.2.1 v.2.2.2.1 v.2.2.2.2.1 v.2.2.2.2.2.1 v.2.2.2.2.2.2.1) .leaf (.cond .leaf (.seq .leaf (.cond .leaf (.seq .leaf (.cond .leaf (.seq .leaf (.cond .leaf (.join Qgo (fun v=>Zkp v.1 v.2.1 v.2.2.1 v.2.2.2.1 v.2.2.2.2.1 v.2.2.2.2.2.1) .leaf .leaf))))))))))))) (.seq .leaf (.frz [(4,.u false)]))))))) ⟨lf,lf,lf,(fun v=>by kernel_rfl),lf,⟨lf,lf,lf,lf,(fun v=>by kernel_rfl),lf,lf,lf,lf,lf,lf,lf,lf,(fun v=>by kernel_rfl),lf⟩,lf,trivial⟩ (hk fun _=>by kernel_rfl)
abbrev Qrg:FnB:={f:=46,args:=[.bx 71 (Kp) (.u false)],res:= .shr [Zl],F:=fun xs=>Zu9 xs.1}
theorem Qou:okB Qrg:=
 ofB [0] (Za Z1g Zf) (Zo Zl7 (Zo Z1h (Zo X6 (Zo Qox Zd)))) Tryz.func46 Tryz.call46 (.seq .leaf (.seq .leaf (.seq (.seq .leaf (.block (.loop Qgh (fun N v=>Zkk N v.1 v.2.1 v.2.2.1 v.2.2.2.1) (fun v=>Zmp v.1 v.2.1 v.2.2.1 v.2.2.2.1) (fun K1=>(.seq .leaf (.seq (.block (.frz [(3,.u false)])) .leaf)))))) .leaf))) ⟨lf,lf,⟨lf,fun _=>rfl,fun N=>⟨(fun v=>by kernel_rfl),lf,trivial,lf⟩⟩,lf⟩ (hk fun _=>by kernel_rfl)
abbrev Qu9:FnB:={f:=26,args:=[.bx 71 (Kp) (.u false)],res:= .shr [Zl],F:=fun xs=>Zp6 xs.1}
theorem Zv4:okB Qu9:=
 ofB [0] Zf (Zo Qou (Zo X6 (Zo Zqy Zd))) Tryz.func26 Tryz.call26 .leaf lf (hk fun _=>by kernel_rfl)
abbrev Z1u:FnB:={f:=8,args:=[.sh (.slice 5 (.int .u8))],res:= .shr [Zl],F:=fun xs=>Zg8 xs.1}
theorem Zz7:okB Z1u:=
 ofB [] Zf (Zo Zky (Zo Zv4 Zd)) Tryz.func8 Tryz.call8 .leaf lf (hk fun _=>by kernel_rfl)
abbrev Qrn:FnB:={f:=27,args:=[.sh (.slice 5 (.int .u8))],res:= .shr [Zl],F:=fun xs=>Zve xs.1}
theorem Qoz:okB Qrn:=
 ofB [] (Za Xr Zf) (Zo Zky (Zo Zv4 (Zo Zl7 (Zo X6 Zd)))) Tryz.func27 Tryz.call27 (.seq .leaf (.seq .leaf (.seq .leaf (.seq (.seq .leaf (.cond (.seq .leaf (.seq .leaf (.join Qgw (fun v=>Kl v.1 v.2.1 v.2.2.1) .leaf .leaf))) .leaf)) (.seq .leaf (.frz [(2,.u false)])))))) ⟨lf,lf,lf,⟨lf,⟨lf,lf,lf,(fun v=>by kernel_rfl),lf⟩,lf⟩,lf,trivial⟩ (hk fun _=>by kernel_rfl)
abbrev Z3j:FnB:={f:=9,args:=[.sh (.slice 5 (.int .u8))],res:= .shr [Zl],F:=fun xs=>Zjn xs.1}
theorem Z17:okB Z3j:=
 ofB [] Zf (Zo Qoz Zd) Tryz.func9 Tryz.call9 .leaf lf (hk fun _=>by kernel_rfl)
abbrev Zzk:FnB:={f:=10,args:=[.sh (.slice 5 (.int .u8))],res:= .shr [Zl],F:=fun xs=>Zgd xs.1}
theorem Zyi:okB Zzk:=
 ofB [] Zf (Zo Zky (Zo Zv4 Zd)) Tryz.func10 Tryz.call10 .leaf lf (hk fun _=>by kernel_rfl)
abbrev Quv:FnE:={f:=34,args:=[.int .i64,.int .i64,.int .i64],res:=[.bool],F:=fun xs=>Z3 xs.1 xs.2.1 xs.2.2.1}
theorem Xv:okE Quv:=
 ofE Zf Zd Tryz.func34 Tryz.call34 .leaf lf (hk fun _=>by kernel_rfl)
abbrev Qdj:FnE:={f:=112,args:=[.int .i64],res:=[.bool],F:=fun xs=>Zj2 xs.1}
theorem Zvv:okE Qdj:=
 ofE (Za Xv Zf) Zd Tryz.func112 Tryz.call112 .leaf lf (hk fun _=>by kernel_rfl)
abbrev Quo:FnE:={f:=66,args:=[Zru],res:=[.bool],F:=fun xs=>Ztf xs.1}
theorem Qs4:okE Quo:=
 ofE (Za Zvv (Za Xv Zf)) Zd Tryz.func66 Tryz.call66 .leaf lf (hk fun _=>by kernel_rfl)
abbrev Qut:FnE:={f:=53,args:=[.int .i64],res:=[.bool],F:=fun xs=>Xy xs.1}
theorem Wu:okE Qut:=
 ofE (Za Xv Zf) Zd Tryz.func53 Tryz.call53 .leaf lf (hk fun _=>by kernel_rfl)
abbrev Qmz:FnE:={f:=322,args:=[.int .i64],res:=[.bool],F:=fun xs=>Zxs xs.1}
theorem Qjn:okE Qmz:=
 ofE (Za Xv Zf) Zd Tryz.func322 Tryz.call322 .leaf lf (hk fun _=>by kernel_rfl)
abbrev Zk3:FnE:={f:=356,args:=[.slice 3 (.int .i64),.fnc 322],res:=[.int .i64],F:=fun xs=>Jd xs.1}
theorem Zj4:okE Zk3:=
 ofE (Za Qjn Zf) Zd Tryz.func356 Tryz.call356 (.seq .leaf (.seq (.seq .leaf (.block (.loop Zi5 (fun N v=>Xb N v.1 v.2.1 v.2.2.1 v.2.2.2.1) (fun v=>Xl v.1 v.2.1 v.2.2.1 v.2.2.2.1) (fun K1=> .leaf)))) .leaf)) ⟨lf,⟨lf,fun _=>rfl,fun N=>⟨(fun v=>by kernel_rfl),lf⟩⟩,lf⟩ (hk fun _=>by kernel_rfl)
abbrev Zi4:FnE:={f:=321,args:=[.slice 3 (.int .i64),.fnc 322],res:=[.bool],F:=fun xs=>Kj xs.1}
theorem Zhr:okE Zi4:=
 ofE (Za Zj4 Zf) Zd Tryz.func321 Tryz.call321 .leaf lf (hk fun _=>by kernel_rfl)
abbrev Qus:FnE:={f:=254,args:=[Zcz],res:=[.bool],F:=fun xs=>Zwt xs.1}
theorem Qs7:okE Qus:=
 ofE (Za Zvv (Za Zhr (Za Wu (Za Xv Zf)))) Zd Tryz.func254 Tryz.call254 .leaf lf (hk fun _=>by kernel_rfl)
abbrev Qqp:FnE:={f:=248,args:=[Zt],res:=[.bool],F:=fun xs=>Zuv xs.1}
theorem Z1e:okE Qqp:=
 ofE Zf Zd Tryz.func248 Tryz.call248 .leaf lf (hk fun _=>by kernel_rfl)
abbrev Qmy:FnE:={f:=177,args:=[.slice 195 (Zt)],res:=[.bool],F:=fun xs=>Wp xs.1}
theorem Zm6:okE Qmy:=
 ofE (Za Z1e Zf) Zd Tryz.func177 Tryz.call177 (.seq .leaf (.seq (.seq .leaf (.block (.loop Qaa (fun N v=>Zhm N v.1 v.2.1 v.2.2.1 v.2.2.2.1) (fun v=>Zk5 v.1 v.2.1 v.2.2.1 v.2.2.2.1) (fun K1=> .leaf)))) .leaf)) ⟨lf,⟨lf,fun _=>rfl,fun N=>⟨(fun v=>by kernel_rfl),lf⟩⟩,lf⟩ (hk fun _=>by kernel_rfl)
abbrev Z6h:FnE:={f:=109,args:=[.slice 195 (Zt)],res:=[.int .i64],F:=fun xs=>J7 xs.1}
theorem Zti:okE Z6h:=
 ofE (Za Zm6 Zf) Zd Tryz.func109 Tryz.call109 (.seq .leaf (.seq .leaf (.seq .leaf (.seq (.seq .leaf (.block (.loop Zzu (fun N v=>Zby N v.1 v.2.1 v.2.2.1 v.2.2.2.1) (fun v=>Zfm v.1 v.2.1 v.2.2.1 v.2.2.2.1) (fun K1=> .leaf)))) .leaf)))) ⟨lf,lf,lf,⟨lf,fun _=>rfl,fun N=>⟨(fun v=>by kernel_rfl),lf⟩⟩,lf⟩ (hk fun _=>by kernel_rfl)
abbrev Qdh:FnE:={f:=269,args:=[.slice 195 (Zt)],res:=[.slice 195 (Zt)],F:=fun xs=>Zcu xs.1}
theorem Zvt:okE Qdh:=
 ofE Zf Zd Tryz.func269 Tryz.call269 .leaf lf (hk fun _=>by kernel_rfl)
abbrev Qms:FnE:={f:=190,args:=[.slice 195 (Zt),Zt],res:=[.slice 195 (Zt)],F:=fun xs=>Zkv xs.1 xs.2.1}
theorem Zyf:okE Qms:=
 ofE (Za Zm6 (Za Z1e (Za Zvt Zf))) Zd Tryz.func190 Tryz.call190 (.seq .leaf (.seq .leaf (.seq .leaf (.seq (.seq .leaf (.block (.loop Z96 (fun N v=>Yi N v.1 v.2.1 v.2.2.1 v.2.2.2.1 v.2.2.2.2.1 v.2.2.2.2.2.1) (fun v=>Zfe v.1 v.2.1 v.2.2.1 v.2.2.2.1 v.2.2.2.2.1 v.2.2.2.2.2.1) (fun K1=>(.seq .leaf (.seq .leaf (.seq (.block (.seq .leaf (.block (.seq .leaf (.cond .leaf (.seq .leaf (.cond (.join Z95 (fun v=>Zhk K1 v.1 v.2.1 v.2.2.1 v.2.2.2.1 v.2.2.2.2.1 v.2.2.2.2.2.1 v.2.2.2.2.2.2.1) .leaf .leaf) .leaf))))))) .leaf))))))) .leaf)))) ⟨lf,lf,lf,⟨lf,fun _=>rfl,fun N=>⟨(fun v=>by kernel_rfl),lf,lf,⟨lf,lf,lf,lf,⟨lf,(fun v=>by kernel_rfl),lf⟩,lf⟩,lf⟩⟩,lf⟩ (hk fun _=>by kernel_rfl)
abbrev Qdi:FnE:={f:=257,args:=[.slice 195 (Zt),.int .i64],res:=[.bool],F:=fun xs=>Zcv xs.1 xs.2.1}
theorem Zvu:okE Qdi:=
 ofE Zf Zd Tryz.func257 Tryz.call257 .leaf lf (hk fun _=>by kernel_rfl)
abbrev Qm5:FnE:={f:=255,args:=[.slice 195 (Zt),.slice 195 (Zt),.slice 195 (Zt),.int .i64],res:=[.bool],F:=fun xs=>Zsm xs.1 xs.2.1 xs.2.2.1 xs.2.2.2.1}
theorem Qjq:okE Qm5:=
 ofE (Za Zti (Za Zvt (Za Zyf (Za Zvu Zf)))) Zd Tryz.func255 Tryz.call255 (.seq .leaf (.seq .leaf (.seq .leaf (.seq (.seq .leaf (.block (.loop Qac (fun N v=>Zhp N v.1 v.2.1 v.2.2.1 v.2.2.2.1 v.2.2.2.2.1) (fun v=>Zfg v.1 v.2.1 v.2.2.1 v.2.2.2.1 v.2.2.2.2.1) (fun K1=> .leaf)))) .leaf)))) ⟨lf,lf,lf,⟨lf,fun _=>rfl,fun N=>⟨(fun v=>by kernel_rfl),lf⟩⟩,lf⟩ (hk fun _=>by kernel_rfl)
abbrev Qmt:FnE:={f:=256,args:=[.slice 195 (Zt),.int .i64],res:=[.int .i64],F:=fun xs=>Zsi xs.1 xs.2.1}
theorem Qjk:okE Qmt:=
 ofE (Za Zm6 Zf) Zd Tryz.func256 Tryz.call256 (.seq .leaf (.seq .leaf (.seq (.seq .leaf (.block (.loop Z97 (fun N v=>Zd0 N v.1 v.2.1 v.2.2.1 v.2.2.2.1) (fun v=>Zk4 v.1 v.2.1 v.2.2.1 v.2.2.2.1) (fun K1=> .leaf)))) .leaf))) ⟨lf,lf,⟨lf,fun _=>rfl,fun N=>⟨(fun v=>by kernel_rfl),lf⟩⟩,lf⟩ (hk fun _=>by kernel_rfl)
abbrev Qh1:FnE:={f:=258,args:=[Qc],res:=[.int .i64],F:=fun xs=>Zqm xs.1}
theorem Qe9:okE Qh1:=
 ofE Zf Zd Tryz.func258 Tryz.call258 .leaf lf (hk fun _=>by kernel_rfl)
abbrev Qm0:FnE:={f:=180,args:=[Qc],res:=[.bool],F:=fun xs=>Zsk xs.1}
theorem Qjo:okE Qm0:=
 ofE (Za Qs7 (Za Zm6 (Za Xv (Za Wu (Za Qjq (Za Qjk (Za Zvu (Za Qe9 Zf)))))))) Zd Tryz.func180 Tryz.call180 (.seq .leaf (.seq .leaf (.seq .leaf (.seq .leaf (.join Qab (fun v=>Zhn v.1 v.2.1) .leaf .leaf))))) ⟨lf,lf,lf,lf,lf,(fun v=>by kernel_rfl),lf⟩ (hk fun _=>by kernel_rfl)
abbrev Qmw:FnE:={f:=68,args:=[X9],res:=[.bool],F:=fun xs=>Zn9 xs.1}
theorem Zr5:okE Qmw:=
 ofE (Za Wu (Za Xv Zf)) Zd Tryz.func68 Tryz.call68 .leaf lf (hk fun _=>by kernel_rfl)
abbrev Qhv:FnE:={f:=323,args:=[Qx],res:=[.int .i64],F:=fun xs=>Zqi xs.1}
theorem Zwz:okE Qhv:=
 ofE Zf Zd Tryz.func323 Tryz.call323 .leaf lf (hk fun _=>by kernel_rfl)
abbrev Qmu:FnE:={f:=259,args:=[Yh],res:=[.bool],F:=fun xs=>Zkw xs.1}
theorem Zr4:okE Qmu:=
 ofE (Za Wu (Za Zwz Zf)) Zd Tryz.func259 Tryz.call259 (.seq .leaf (.seq .leaf (.seq .leaf (.seq (.seq .leaf (.block (.loop Z98 (fun N v=>Zhl N v.1 v.2.1 v.2.2.1 v.2.2.2.1) (fun v=>Zff v.1 v.2.1 v.2.2.1 v.2.2.2.1) (fun K1=> .leaf)))) .leaf)))) ⟨lf,lf,lf,⟨lf,fun _=>rfl,fun N=>⟨(fun v=>by kernel_rfl),lf⟩⟩,lf⟩ (hk fun _=>by kernel_rfl)
abbrev Qxm:FnE:={f:=260,args:=[Yh],res:=[.int .i64],F:=fun xs=>Zzv xs.1}
theorem Qvs:okE Qxm:=
 ofE (Za Zr4 (Za Zwz Zf)) Zd Tryz.func260 Tryz.call260 .leaf lf (hk fun _=>by kernel_rfl)
abbrev Qde:FnE:={f:=324,args:=[Yh],res:=[.int .i64],F:=fun xs=>Zot xs.1}
theorem Qau:okE Qde:=
 ofE (Za Zr4 Zf) Zd Tryz.func324 Tryz.call324 .leaf lf (hk fun _=>by kernel_rfl)
abbrev Qm7:FnE:={f:=261,args:=[Yh],res:=[.int .i64],F:=fun xs=>Zxt xs.1}
theorem Qjs:okE Qm7:=
 ofE (Za Qau Zf) Zd Tryz.func261 Tryz.call261 .leaf lf (hk fun _=>by kernel_rfl)
abbrev Qc9:FnE:={f:=181,args:=[Q8],res:=[.bool],F:=fun xs=>Zj1 xs.1}
theorem Zvs:okE Qc9:=
 ofE (Za Zr4 (Za Qvs (Za Wu (Za Xv (Za Qjs Zf))))) Zd Tryz.func181 Tryz.call181 (.seq .leaf (.seq .leaf (.seq .leaf (.seq (.seq .leaf (.block (.seq .leaf (.cond .leaf (.seq .leaf (.cond .leaf (.seq .leaf (.cond .leaf (.seq .leaf (.cond .leaf (.join Z3t (fun v=>Vz v.1 v.2.1) .leaf .leaf))))))))))) .leaf)))) ⟨lf,lf,lf,⟨lf,lf,lf,lf,lf,lf,lf,lf,lf,lf,(fun v=>by kernel_rfl),lf⟩,lf⟩ (hk fun _=>by kernel_rfl)
abbrev Qm2:FnE:={f:=69,args:=[Vr],res:=[.bool],F:=fun xs=>Zob xs.1}
theorem Zr6:okE Qm2:=
 ofE (Za Xv Zf) Zd Tryz.func69 Tryz.call69 .leaf lf (hk fun _=>by kernel_rfl)
abbrev Qc7:FnE:={f:=182,args:=[Jl],res:=[.bool],F:=fun xs=>Ztv xs.1}
theorem Qap:okE Qc7:=
 ofE (Za Xv Zf) Zd Tryz.func182 Tryz.call182 .leaf lf (hk fun _=>by kernel_rfl)
abbrev Qm1:FnE:={f:=113,args:=[Z2],res:=[.bool],F:=fun xs=>Zoa xs.1}
theorem Zyg:okE Qm1:=
 ofE (Za Wu (Za Qjo (Za Zr5 (Za Zvs (Za Zr6 (Za Qap Zf)))))) Zd Tryz.func113 Tryz.call113 .leaf lf (hk fun _=>by kernel_rfl)
abbrev Qc3:FnE:={f:=67,args:=[.slice 88 (Z2)],res:=[.bool],F:=fun xs=>Zct xs.1}
theorem Zpk:okE Qc3:=
 ofE (Za Zyg Zf) Zd Tryz.func67 Tryz.call67 (.seq .leaf (.seq (.seq .leaf (.block (.loop Z3s (fun N v=>Vy N v.1 v.2.1 v.2.2.1 v.2.2.2.1) (fun v=>Zcf v.1 v.2.1 v.2.2.1 v.2.2.2.1) (fun K1=> .leaf)))) .leaf)) ⟨lf,⟨lf,fun _=>rfl,fun N=>⟨(fun v=>by kernel_rfl),lf⟩⟩,lf⟩ (hk fun _=>by kernel_rfl)
abbrev Qql:FnE:={f:=70,args:=[Zls],res:=[.bool],F:=fun xs=>Zuu xs.1}
theorem Qof:okE Qql:=
 ofE (Za Xv Zf) Zd Tryz.func70 Tryz.call70 .leaf lf (hk fun _=>by kernel_rfl)
abbrev Qqk:FnE:={f:=71,args:=[X9],res:=[.bool],F:=fun xs=>Zut xs.1}
theorem Qoe:okE Qqk:=
 ofE (Za Xv Zf) Zd Tryz.func71 Tryz.call71 .leaf lf (hk fun _=>by kernel_rfl)
abbrev Qm3:FnE:={f:=135,args:=[.int .i64],res:=[.str],F:=fun xs=>Zkx xs.1}
theorem Zyh:okE Qm3:=
 ofE Zf Zd Tryz.func135 Tryz.call135 .leaf lf (hk fun _=>by kernel_rfl)
abbrev Z3e:FnE:={f:=136,args:=[Zu],res:=[.bool],F:=fun xs=>Zje xs.1}
theorem Zr0:okE Z3e:=
 ofE Zf Zd Tryz.func136 Tryz.call136 (.seq .leaf (.seq (.seq .leaf (.block (.join Zx8 (fun v=>Vf v.1) .leaf .leaf))) .leaf)) ⟨lf,⟨lf,lf,(fun v=>by kernel_rfl),lf⟩,lf⟩ (hk fun _=>by kernel_rfl)
abbrev Qzr:FnE:={f:=184,args:=[Zu],res:=[Zu],F:=fun xs=>Qi7 xs.1}
theorem Qyj:okE Qzr:=
 ofE (Za Zr0 Zf) Zd Tryz.func184 Tryz.call184 (.seq .leaf (.seq .leaf (.join Qsj (fun v=>Zz0 v.1 v.2.1 v.2.2.1) .leaf (.seq (.seq .leaf (.block (.seq .leaf (.cond .leaf (.seq .leaf (.cond .leaf (.seq .leaf (.cond .leaf (.join Qsk (fun v=>Zz1 v.1 v.2.1 v.2.2.1 v.2.2.2.1) .leaf .leaf))))))))) .leaf)))) ⟨lf,lf,lf,(fun v=>by kernel_rfl),⟨lf,lf,lf,lf,lf,lf,lf,lf,(fun v=>by kernel_rfl),lf⟩,lf⟩ (hk fun _=>by kernel_rfl)
abbrev Qqm:FnE:={f:=116,args:=[Zu],res:=[.bool],F:=fun xs=>Zqk xs.1}
theorem Z1d:okE Qqm:=
 ofE (Za Zyh (Za Qyj (Za Wu Zf))) Zd Tryz.func116 Tryz.call116 .leaf lf (hk fun _=>by kernel_rfl)
abbrev Z6j:FnE:={f:=115,args:=[Zu],res:=[.bool],F:=fun xs=>Zql xs.1}
theorem Z34:okE Z6j:=
 ofE (Za Z1d Zf) Zd Tryz.func115 Tryz.call115 .leaf lf (hk fun _=>by kernel_rfl)
abbrev Zbb:FnE:={f:=183,args:=[.slice 106 (Zu),.fnc 115],res:=[.int .i64],F:=fun xs=>Xn xs.1}
theorem Zaw:okE Zbb:=
 ofE (Za Z34 Zf) Zd Tryz.func183 Tryz.call183 (.seq .leaf (.seq (.seq .leaf (.block (.loop Zae (fun N v=>Qf N v.1 v.2.1 v.2.2.1 v.2.2.2.1) (fun v=>Q4 v.1 v.2.1 v.2.2.1 v.2.2.2.1) (fun K1=> .leaf)))) .leaf)) ⟨lf,⟨lf,fun _=>rfl,fun N=>⟨(fun v=>by kernel_rfl),lf⟩⟩,lf⟩ (hk fun _=>by kernel_rfl)
abbrev Zac:FnE:={f:=114,args:=[.slice 106 (Zu),.fnc 115],res:=[.bool],F:=fun xs=>Qt xs.1}
theorem Wv:okE Zac:=
 ofE (Za Zaw Zf) Zd Tryz.func114 Tryz.call114 .leaf lf (hk fun _=>by kernel_rfl)
abbrev Qdg:FnE:={f:=72,args:=[.slice 67 (J3),.int .i64],res:=[.bool],F:=fun xs=>Zt0 xs.1 xs.2.1}
theorem Qaw:okE Qdg:=
 ofE (Za Xv (Za Wv Zf)) Zd Tryz.func72 Tryz.call72 (.seq .leaf (.seq (.seq .leaf (.block (.loop Z3v (fun N v=>Zec N v.1 v.2.1 v.2.2.1 v.2.2.2.1 v.2.2.2.2.1) (fun v=>Zho v.1 v.2.1 v.2.2.1 v.2.2.2.1 v.2.2.2.2.1) (fun K1=> .leaf)))) .leaf)) ⟨lf,⟨lf,fun _=>rfl,fun N=>⟨(fun v=>by kernel_rfl),lf⟩⟩,lf⟩ (hk fun _=>by kernel_rfl)
abbrev Z9c:FnE:={f:=118,args:=[Z2],res:=[.int .i64],F:=fun xs=>Zya xs.1}
theorem Z67:okE Z9c:=
 ofE Zf Zd Tryz.func118 Tryz.call118 .leaf lf (hk fun _=>by kernel_rfl)
abbrev Ztc:FnE:={f:=117,args:=[.slice 88 (Z2),.fnc 118],res:=[.int .i64],F:=fun xs=>Zdj xs.1}
theorem Zr8:okE Ztc:=
 ofE (Za Zpk (Za Z67 Zf)) Zd Tryz.func117 Tryz.call117 (.seq .leaf (.seq .leaf (.seq .leaf (.seq (.seq .leaf (.block (.loop Zqo (fun N v=>Y5 N v.1 v.2.1 v.2.2.1 v.2.2.2.1 v.2.2.2.2.1) (fun v=>Xz v.1 v.2.1 v.2.2.1 v.2.2.2.1 v.2.2.2.2.1) (fun K1=> .leaf)))) .leaf)))) ⟨lf,lf,lf,⟨lf,fun _=>rfl,fun N=>⟨(fun v=>by kernel_rfl),lf⟩⟩,lf⟩ (hk fun _=>by kernel_rfl)
abbrev Qhz:FnE:={f:=73,args:=[.slice 88 (Z2)],res:=[.int .i64],F:=fun xs=>Zl1 xs.1}
theorem Zw1:okE Qhz:=
 ofE (Za Zr8 Zf) Zd Tryz.func73 Tryz.call73 .leaf lf (hk fun _=>by kernel_rfl)
abbrev Z9b:FnE:={f:=119,args:=[Z2],res:=[.int .i64],F:=fun xs=>Zx9 xs.1}
theorem Z66:okE Z9b:=
 ofE Zf Zd Tryz.func119 Tryz.call119 .leaf lf (hk fun _=>by kernel_rfl)
abbrev Ztb:FnE:={f:=117,args:=[.slice 88 (Z2),.fnc 119],res:=[.int .i64],F:=fun xs=>Zdi xs.1}
theorem Zr7:okE Ztb:=
 ofE (Za Zpk (Za Z66 Zf)) Zd Tryz.func117 Tryz.call117 (.seq .leaf (.seq .leaf (.seq .leaf (.seq (.seq .leaf (.block (.loop Zqn (fun N v=>Y4 N v.1 v.2.1 v.2.2.1 v.2.2.2.1 v.2.2.2.2.1) (fun v=>Vl v.1 v.2.1 v.2.2.1 v.2.2.2.1 v.2.2.2.2.1) (fun K1=> .leaf)))) .leaf)))) ⟨lf,lf,lf,⟨lf,fun _=>rfl,fun N=>⟨(fun v=>by kernel_rfl),lf⟩⟩,lf⟩ (hk fun _=>by kernel_rfl)
abbrev Qhy:FnE:={f:=74,args:=[.slice 88 (Z2)],res:=[.int .i64],F:=fun xs=>Zl0 xs.1}
theorem Zw0:okE Qhy:=
 ofE (Za Zr7 Zf) Zd Tryz.func74 Tryz.call74 .leaf lf (hk fun _=>by kernel_rfl)
abbrev Qup:FnE:={f:=37,args:=[Zl],res:=[.bool],F:=fun xs=>J8 xs.1}
theorem Vm:okE Qup:=
 ofE (Za Qs4 (Za Zpk (Za Zr5 (Za Zr6 (Za Qof (Za Qoe (Za Xv (Za Qaw (Za Zw1 (Za Zw0 Zf)))))))))) Zd Tryz.func37 Tryz.call37 .leaf lf (hk fun _=>by kernel_rfl)
abbrev Z6e:FnE:={f:=107,args:=[Qx],res:=[.bool],F:=fun xs=>Zlg xs.1}
theorem Z30:okE Z6e:=
 ofE (Za Xv Zf) Zd Tryz.func107 Tryz.call107 .leaf lf (hk fun _=>by kernel_rfl)
abbrev Zap:FnE:={f:=176,args:=[.slice 127 (Qx),.fnc 107],res:=[.int .i64],F:=fun xs=>Xj xs.1}
theorem Zad:okE Zap:=
 ofE (Za Z30 Zf) Zd Tryz.func176 Tryz.call176 (.seq .leaf (.seq (.seq .leaf (.block (.loop Wo (fun N v=>Qd N v.1 v.2.1 v.2.2.1 v.2.2.2.1) (fun v=>Q1 v.1 v.2.1 v.2.2.1 v.2.2.2.1) (fun K1=> .leaf)))) .leaf)) ⟨lf,⟨lf,fun _=>rfl,fun N=>⟨(fun v=>by kernel_rfl),lf⟩⟩,lf⟩ (hk fun _=>by kernel_rfl)
abbrev Wn:FnE:={f:=106,args:=[.slice 127 (Qx),.fnc 107],res:=[.bool],F:=fun xs=>Q9 xs.1}
theorem Wl:okE Wn:=
 ofE (Za Zad Zf) Zd Tryz.func106 Tryz.call106 .leaf lf (hk fun _=>by kernel_rfl)
abbrev Qc2:FnE:={f:=50,args:=[.slice 127 (Qx)],res:=[.bool],F:=fun xs=>Zjz xs.1}
theorem Qal:okE Qc2:=
 ofE (Za Wl Zf) Zd Tryz.func50 Tryz.call50 .leaf lf (hk fun _=>by kernel_rfl)
abbrev Qmx:FnE:={f:=52,args:=[Wk],res:=[.bool],F:=fun xs=>Zsj xs.1}
theorem Qjm:okE Qmx:=
 ofE (Za Wu Zf) Zd Tryz.func52 Tryz.call52 .leaf lf (hk fun _=>by kernel_rfl)
abbrev Zcr:FnE:={f:=108,args:=[.slice 44 (Wk),.fnc 52],res:=[.int .i64],F:=fun xs=>Xx xs.1}
theorem Zce:okE Zcr:=
 ofE (Za Qjm Zf) Zd Tryz.func108 Tryz.call108 (.seq .leaf (.seq (.seq .leaf (.block (.loop Zbn (fun N v=>Qj N v.1 v.2.1 v.2.2.1 v.2.2.2.1) (fun v=>Xe v.1 v.2.1 v.2.2.1 v.2.2.2.1) (fun K1=> .leaf)))) .leaf)) ⟨lf,⟨lf,fun _=>rfl,fun N=>⟨(fun v=>by kernel_rfl),lf⟩⟩,lf⟩ (hk fun _=>by kernel_rfl)
abbrev Zbm:FnE:={f:=51,args:=[.slice 44 (Wk),.fnc 52],res:=[.bool],F:=fun xs=>Xp xs.1}
theorem Zbd:okE Zbm:=
 ofE (Za Zce Zf) Zd Tryz.func51 Tryz.call51 .leaf lf (hk fun _=>by kernel_rfl)
abbrev Qur:FnE:={f:=28,args:=[Qs],res:=[.bool],F:=fun xs=>Zws xs.1}
theorem Qs6:okE Qur:=
 ofE (Za Vm (Za Qal (Za Zbd Zf))) Zd Tryz.func28 Tryz.call28 .leaf lf (hk fun _=>by kernel_rfl)
abbrev Qmv:FnE:={f:=54,args:=[Zl],res:=[.bool],F:=fun xs=>Zxr xs.1}
theorem Qjl:okE Qmv:=
 ofE Zf Zd Tryz.func54 Tryz.call54 .leaf lf (hk fun _=>by kernel_rfl)
abbrev Qr1:FnE:={f:=58,args:=[.int .i64],res:=[.str],F:=fun xs=>Z04 xs.1}
theorem Qo3:Zrw Tryz.prog glob Qr1:=
 Zrw.intStr Tryz.call58 fun n w hg h0 h1=>(Tryz.strconv_Itoa n h0 h1 w (Y8.vars_eq hg 0 (by decide) rfl rfl)).mono fun e w' ⟨he,k,os,hw⟩=>⟨he,hw▸Go.Lib.below_grow _ _ (Nat.le_refl _) k os⟩
abbrev Qhx:FnE:={f:=30,args:=[.int .i64],res:=[.str],F:=fun xs=>Ql xs.1}
theorem Zch:okE Qhx:=
 ofE (Za Qo3 Zf) Zd Tryz.func30 Tryz.call30 .leaf lf (hk fun _=>by kernel_rfl)
abbrev Qc4:FnE:={f:=55,args:=[X9],res:=[.int .i64],F:=fun xs=>Ztu xs.1}
theorem Qam:okE Qc4:=
 ofE (Za Zr5 Zf) Zd Tryz.func55 Tryz.call55 .leaf lf (hk fun _=>by kernel_rfl)
abbrev Qqo:FnE:={f:=56,args:=[Vr],res:=[.int .i64],F:=fun xs=>Zzy xs.1}
theorem Qoh:okE Qqo:=
 ofE (Za Zr6 Zf) Zd Tryz.func56 Tryz.call56 .leaf lf (hk fun _=>by kernel_rfl)
abbrev Z3d:FnE:={f:=57,args:=[Zl],res:=[.int .i64],F:=fun xs=>Zjc xs.1}
theorem Z12:okE Z3d:=
 ofE (Za Vm (Za Zti Zf)) Zd Tryz.func57 Tryz.call57 (.seq .leaf (.seq .leaf (.seq .leaf (.seq (.seq .leaf (.block (.loop Zx7 (fun N v=>Zau N v.1 v.2.1 v.2.2.1 v.2.2.2.1) (fun v=>Zlz v.1 v.2.1 v.2.2.1 v.2.2.2.1) (fun K1=> .leaf)))) .leaf)))) ⟨lf,lf,lf,⟨lf,fun _=>rfl,fun N=>⟨(fun v=>by kernel_rfl),lf⟩⟩,lf⟩ (hk fun _=>by kernel_rfl)
abbrev Qc6:FnE:={f:=29,args:=[Zl],res:=[.str],F:=fun xs=>Zj0 xs.1}
theorem Qao:okE Qc6:=
 ofE (Za Vm (Za Qjl (Za Zch (Za Qam (Za Qoh (Za Z12 Zf)))))) Zd Tryz.func29 Tryz.call29 .leaf lf (hk fun _=>by kernel_rfl)
abbrev Qm4:FnE:={f:=11,args:=[Qs],res:=[.str],F:=fun xs=>Zsl xs.1}
theorem Qjp:okE Qm4:=
 ofE (Za Qs6 (Za Qao (Za Zch Zf))) Zd Tryz.func11 Tryz.call11 .leaf lf (hk fun _=>by kernel_rfl)
abbrev Qqz:FnE:={f:=63,args:=[Vr],res:=[.int .i64],F:=fun xs=>Zrd xs.1}
theorem Qon:okE Qqz:=
 ofE (Za Zd3 Zf) Zd Tryz.func63 Tryz.call63 .leaf lf (hk fun _=>by kernel_rfl)
abbrev Z3g:FnE:={f:=64,args:=[Zl],res:=[.int .i64],F:=fun xs=>Zjj xs.1}
theorem Z14:okE Z3g:=
 ofE (Za Qz (Za Ztk Zf)) Zd Tryz.func64 Tryz.call64 (.seq .leaf (.seq .leaf (.seq (.seq .leaf (.block (.loop Zyy (fun N v=>Vg N v.1 v.2.1 v.2.2.1) (fun v=>Je v.1 v.2.1 v.2.2.1) (fun K1=> .leaf)))) .leaf))) ⟨lf,lf,⟨lf,fun _=>rfl,fun N=>⟨(fun v=>by kernel_rfl),lf⟩⟩,lf⟩ (hk fun _=>by kernel_rfl)
abbrev Qdu:FnE:={f:=32,args:=[Zl],res:=[.str],F:=fun xs=>Zcw xs.1}
theorem Qa2:okE Qdu:=
 ofE (Za Qz (Za Zht (Za Ky (Za Zvx (Za Qon (Za Z14 Zf)))))) Zd Tryz.func32 Tryz.call32 .leaf lf (hk fun _=>by kernel_rfl)
abbrev Qns:FnE:={f:=12,args:=[Qs],res:=[.str],F:=fun xs=>Zsy xs.1}
theorem Qj1:okE Qns:=
 ofE (Za Zl6 (Za Qa2 (Za Ky Zf))) Zd Tryz.func12 Tryz.call12 .leaf lf (hk fun _=>by kernel_rfl)
abbrev Qzq:FnE:={f:=35,args:=[.bool,.str,.str],res:=[.str],F:=fun xs=>Zm4 xs.1 xs.2.1 xs.2.2.1}
theorem Zu0:okE Qzq:=
 ofE Zf Zd Tryz.func35 Tryz.call35 .leaf lf (hk fun _=>by kernel_rfl)
abbrev Qh0:FnE:={f:=13,args:=[Wk],res:=[.str],F:=fun xs=>Zea xs.1}
theorem Zw2:okE Qh0:=
 ofE (Za Xv (Za Zch (Za Zu0 Zf))) Zd Tryz.func13 Tryz.call13 .leaf lf (hk fun _=>by kernel_rfl)
abbrev Qn9:FnE:={f:=36,args:=[.int .i64],res:=[.bool],F:=fun xs=>Zbt xs.1}
theorem Zys:okE Qn9:=
 ofE (Za Qq Zf) Zd Tryz.func36 Tryz.call36 .leaf lf (hk fun _=>by kernel_rfl)
abbrev Qiw:FnE:={f:=14,args:=[Wk],res:=[.str],F:=fun xs=>Ze4 xs.1}
theorem Zxc:okE Qiw:=
 ofE (Za Zys (Za Ky Zf)) Zd Tryz.func14 Tryz.call14 (.seq .leaf (.seq .leaf (.seq .leaf (.join Z77 (fun v=>Zlr v.1 v.2.1) .leaf .leaf)))) ⟨lf,lf,lf,lf,(fun v=>by kernel_rfl),lf⟩ (hk fun _=>by kernel_rfl)
abbrev Qdf:FnE:={f:=16,args:=[Qs],res:=[.slice 9 (.str)],F:=fun xs=>Ztz xs.1}
theorem Qav:okE Qdf:=
 ofE (Za Zw2 Zf) Zd Tryz.func16 Tryz.call16 (.seq .leaf (.seq .leaf (.seq (.seq .leaf (.block (.loop Z3u (fun N v=>Zeb N v.1 v.2.1 v.2.2.1 v.2.2.2.1) (fun v=>Zcg v.1 v.2.1 v.2.2.1 v.2.2.2.1) (fun K1=> .leaf)))) .leaf))) ⟨lf,lf,⟨lf,fun _=>rfl,fun N=>⟨(fun v=>by kernel_rfl),lf⟩⟩,lf⟩ (hk fun _=>by kernel_rfl)
abbrev Qeg:FnE:={f:=17,args:=[Qs],res:=[.slice 9 (.str)],F:=fun xs=>Zua xs.1}
theorem Qbg:okE Qeg:=
 ofE (Za Zxc Zf) Zd Tryz.func17 Tryz.call17 (.seq .leaf (.seq .leaf (.seq (.seq .leaf (.block (.loop Z5l (fun N v=>Ze5 N v.1 v.2.1 v.2.2.1) (fun v=>Zcp v.1 v.2.1 v.2.2.1) (fun K1=> .leaf)))) .leaf))) ⟨lf,lf,⟨lf,fun _=>rfl,fun N=>⟨(fun v=>by kernel_rfl),lf⟩⟩,lf⟩ (hk fun _=>by kernel_rfl)
abbrev Qh2:FnE:={f:=15,args:=[.slice 9 (.str),.slice 9 (.str)],res:=[.bool],F:=fun xs=>Zl4 xs.1 xs.2.1}
theorem Qfa:okE Qh2:=
 ofE Zf Zd Tryz.func15 Tryz.call15 (.seq .leaf (.seq .leaf (.seq (.seq .leaf (.block (.loop Z60 (fun N v=>Zf3 N v.1 v.2.1 v.2.2.1) (fun v=>Zjf v.1 v.2.1 v.2.2.1) (fun K1=> .leaf)))) .leaf))) ⟨lf,lf,⟨lf,fun _=>rfl,fun N=>⟨(fun v=>by kernel_rfl),lf⟩⟩,lf⟩ (hk fun _=>by kernel_rfl)
abbrev Qxo:FnE:={f:=38,args:=[.int .i64,.int .i64],res:=[.str],F:=fun xs=>Zr3 xs.1 xs.2.1}
theorem Qvu:okE Qxo:=
 ofE (Za Zch Zf) Zd Tryz.func38 Tryz.call38 .leaf lf (hk fun _=>by kernel_rfl)
abbrev Qc5:FnE:={f:=18,args:=[Zl],res:=[.str],F:=fun xs=>Zor xs.1}
theorem Qan:okE Qc5:=
 ofE (Za Vm (Za Qvu Zf)) Zd Tryz.func18 Tryz.call18 .leaf lf (hk fun _=>by kernel_rfl)
abbrev Qdp:FnE:={f:=19,args:=[Zl],res:=[.str],F:=fun xs=>Zoz xs.1}
theorem Qa0:okE Qdp:=
 ofE (Za Qz (Za Ky Zf)) Zd Tryz.func19 Tryz.call19 .leaf lf (hk fun _=>by kernel_rfl)
abbrev Z6f:FnE:={f:=84,args:=[Zl],res:=[.bool],F:=fun xs=>Zlh xs.1}
theorem Z31:okE Z6f:=
 ofE (Za Vm (Za Zw1 Zf)) Zd Tryz.func84 Tryz.call84 (.seq .leaf (.seq .leaf (.seq (.seq .leaf (.block (.loop Zzs (fun N v=>Zbw N v.1 v.2.1 v.2.2.1 v.2.2.2.1) (fun v=>Zno v.1 v.2.1 v.2.2.1 v.2.2.2.1) (fun K1=> .leaf)))) .leaf))) ⟨lf,lf,⟨lf,fun _=>rfl,fun N=>⟨(fun v=>by kernel_rfl),lf⟩⟩,lf⟩ (hk fun _=>by kernel_rfl)
abbrev Z6g:FnE:={f:=85,args:=[Zl],res:=[.bool],F:=fun xs=>Zli xs.1}
theorem Z32:okE Z6g:=
 ofE (Za Vm (Za Zw0 Zf)) Zd Tryz.func85 Tryz.call85 (.seq .leaf (.seq .leaf (.seq .leaf (.seq (.seq .leaf (.block (.loop Zzt (fun N v=>Zbx N v.1 v.2.1 v.2.2.1 v.2.2.2.1 v.2.2.2.2.1) (fun v=>Znp v.1 v.2.1 v.2.2.1 v.2.2.2.1 v.2.2.2.2.1) (fun K1=> .leaf)))) .leaf)))) ⟨lf,lf,lf,⟨lf,fun _=>rfl,fun N=>⟨(fun v=>by kernel_rfl),lf⟩⟩,lf⟩ (hk fun _=>by kernel_rfl)
abbrev Qm6:FnE:={f:=124,args:=[.slice 67 (J3),.int .i64],res:=[.slice 195 (Zt)],F:=fun xs=>Zsn xs.1 xs.2.1}
theorem Qjr:okE Qm6:=
 ofE (Za Zyf Zf) Zd Tryz.func124 Tryz.call124 (.seq .leaf (.seq .leaf (.seq (.seq .leaf (.block (.loop Qad (fun N v=>Zhq N v.1 v.2.1 v.2.2.1 v.2.2.2.1 v.2.2.2.2.1) (fun v=>Zrz v.1 v.2.1 v.2.2.1 v.2.2.2.1 v.2.2.2.2.1) (fun K1=>(.seq .leaf (.seq .leaf (.seq (.block (.seq .leaf (.seq .leaf (.block (.loop Qae (fun N v=>Zbc K1 N v.1 v.2.1 v.2.2.1 v.2.2.2.1 v.2.2.2.2.1 v.2.2.2.2.2.1 v.2.2.2.2.2.2.1 v.2.2.2.2.2.2.2.1) (fun v=>Zfh v.1 v.2.1 v.2.2.1 v.2.2.2.1 v.2.2.2.2.1 v.2.2.2.2.2.1 v.2.2.2.2.2.2.1 v.2.2.2.2.2.2.2.1) (fun K2=> .leaf)))))) .leaf))))))) .leaf))) ⟨lf,lf,⟨lf,fun _=>rfl,fun N=>⟨(fun v=>by kernel_rfl),lf,lf,⟨lf,lf,fun _=>rfl,fun N=>⟨(fun v=>by kernel_rfl),lf⟩⟩,lf⟩⟩,lf⟩ (hk fun _=>by kernel_rfl)
abbrev Znu:FnE:={f:=189,args:=[.slice 195 (Zt),.slice 195 (Zt)],res:=[.bool],F:=fun xs=>V0 xs.1 xs.2.1}
theorem Zm7:okE Znu:=
 ofE Zf Zd Tryz.func189 Tryz.call189 (.seq .leaf (.seq .leaf (.seq (.seq .leaf (.block (.loop Zlu (fun N v=>Q7 N v.1 v.2.1 v.2.2.1 v.2.2.2.1) (fun v=>Kc v.1 v.2.1 v.2.2.1 v.2.2.2.1) (fun K1=> .leaf)))) .leaf))) ⟨lf,lf,⟨lf,fun _=>rfl,fun N=>⟨(fun v=>by kernel_rfl),lf⟩⟩,lf⟩ (hk fun _=>by kernel_rfl)
abbrev Z88:FnE:={f:=123,args:=[.slice 195 (Zt),.slice 195 (Zt)],res:=[.bool],F:=fun xs=>Zm2 xs.1 xs.2.1}
theorem Z63:okE Z88:=
 ofE (Za Zm7 Zf) Zd Tryz.func123 Tryz.call123 .leaf lf (hk fun _=>by kernel_rfl)
abbrev Z87:FnE:={f:=86,args:=[Zl],res:=[.bool],F:=fun xs=>Zm1 xs.1}
theorem Z62:okE Z87:=
 ofE (Za Vm (Za Qjr (Za Z63 Zf))) Zd Tryz.func86 Tryz.call86 (.seq .leaf (.seq .leaf (.seq (.seq .leaf (.block (.loop Z1x (fun N v=>Zc2 N v.1 v.2.1 v.2.2.1 v.2.2.2.1) (fun v=>Zn8 v.1 v.2.1 v.2.2.1 v.2.2.2.1) (fun K1=> .leaf)))) .leaf))) ⟨lf,lf,⟨lf,fun _=>rfl,fun N=>⟨(fun v=>by kernel_rfl),lf⟩⟩,lf⟩ (hk fun _=>by kernel_rfl)
abbrev Qdd:FnE:={f:=191,args:=[.int .i64],res:=[.bool],F:=fun xs=>Zos xs.1}
theorem Zpl:okE Qdd:=
 ofE (Za Wu Zf) Zd Tryz.func191 Tryz.call191 .leaf lf (hk fun _=>by kernel_rfl)
abbrev Qdc:FnE:={f:=192,args:=[.int .i64],res:=[.bool],F:=fun xs=>Z1b xs.1}
theorem Qat:okE Qdc:=
 ofE (Za Zpl Zf) Zd Tryz.func192 Tryz.call192 .leaf lf (hk fun _=>by kernel_rfl)
abbrev Qxn:FnE:={f:=125,args:=[.bool,.int .i64],res:=[.bool],F:=fun xs=>Z99 xs.1 xs.2.1}
theorem Qvt:okE Qxn:=
 ofE (Za Zpl (Za Qat Zf)) Zd Tryz.func125 Tryz.call125 .leaf lf (hk fun _=>by kernel_rfl)
abbrev Qdb:FnE:={f:=193,args:=[Z2],res:=[.bool],F:=fun xs=>Zty xs.1}
theorem Qas:okE Qdb:=
 ofE Zf Zd Tryz.func193 Tryz.call193 .leaf lf (hk fun _=>by kernel_rfl)
end
end Go.Proofs.YtplcdmnbgcgdfaaGreatDoor

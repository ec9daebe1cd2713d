/- FnFairness: that the program code computes these plain functions, part 1. No condition. -/
import Derived.Test.YtdhchdiikmnmeaaGreatM2
namespace Go.Proofs.YtdhchdiikmnmeaaGreat
noncomputable section
open Go.Am
set_option maxRecDepth 100000
set_option linter.unusedVariables false
def tab:Tab:=Q3m [(3,.int .i64),(4,.bool),(5,.int .u8),(9,.str),(22,.slice 5 (.int .u8)),(25,Ztq),(26,.slice 75 (Zy)),(28,Q5),(30,Ks),(32,Zlx),(34,Q5),(35,.slice 59 (Yx)),(37,Zq),(38,.slice 87 (Zu)),(43,.slice 3 (.int .i64)),(59,Yx),(63,W8),(64,.slice 200 (Zt)),(66,Z0),(67,.slice 267 (Z06)),(69,Xw),(71,Q2),(73,Jv),(75,Zy),(87,Zu),(100,W9),(104,.slice 153 (Z7)),(107,Y9),(138,.int .u64),(153,Z7),(192,.slice 9 (.str)),(200,Zt),(267,Z06)]
theorem Xfe:TOK Tryz.prog 3 (.int .i64):=⟨by kernel_rfl,by kernel_rfl⟩
theorem Xff:TOK Tryz.prog 4 (.bool):=⟨by kernel_rfl,by kernel_rfl⟩
theorem Xfg:TOK Tryz.prog 5 (.int .u8):=⟨by kernel_rfl,by kernel_rfl⟩
theorem Xfh:TOK Tryz.prog 9 (.str):=⟨by kernel_rfl,by kernel_rfl⟩
theorem Xc6:TOK Tryz.prog 22 (.slice 5 (.int .u8)):=⟨by kernel_rfl,by kernel_rfl⟩
theorem Xc7:TOK Tryz.prog 25 (Ztq):=⟨by kernel_rfl,by kernel_rfl⟩
theorem Xc8:TOK Tryz.prog 26 (.slice 75 (Zy)):=⟨by kernel_rfl,by kernel_rfl⟩
theorem Xc9:TOK Tryz.prog 28 (Q5):=⟨by kernel_rfl,by kernel_rfl⟩
theorem Xda:TOK Tryz.prog 30 (Ks):=⟨by kernel_rfl,by kernel_rfl⟩
theorem Xdb:TOK Tryz.prog 32 (Zlx):=⟨by kernel_rfl,by kernel_rfl⟩
theorem Xdc:TOK Tryz.prog 34 (Q5):=⟨by kernel_rfl,by kernel_rfl⟩
theorem Xdd:TOK Tryz.prog 35 (.slice 59 (Yx)):=⟨by kernel_rfl,by kernel_rfl⟩
theorem Xde:TOK Tryz.prog 37 (Zq):=⟨by kernel_rfl,by kernel_rfl⟩
theorem Xdf:TOK Tryz.prog 38 (.slice 87 (Zu)):=⟨by kernel_rfl,by kernel_rfl⟩
theorem Xdg:TOK Tryz.prog 43 (.slice 3 (.int .i64)):=⟨by kernel_rfl,by kernel_rfl⟩
theorem Xdh:TOK Tryz.prog 59 (Yx):=⟨by kernel_rfl,by kernel_rfl⟩
theorem Xdi:TOK Tryz.prog 63 (W8):=⟨by kernel_rfl,by kernel_rfl⟩
theorem Xdj:TOK Tryz.prog 64 (.slice 200 (Zt)):=⟨by kernel_rfl,by kernel_rfl⟩
theorem Xdk:TOK Tryz.prog 66 (Z0):=⟨by kernel_rfl,by kernel_rfl⟩
theorem Xdl:TOK Tryz.prog 67 (.slice 267 (Z06)):=⟨by kernel_rfl,by kernel_rfl⟩
theorem Xdm:TOK Tryz.prog 69 (Xw):=⟨by kernel_rfl,by kernel_rfl⟩
theorem Xdn:TOK Tryz.prog 71 (Q2):=⟨by kernel_rfl,by kernel_rfl⟩
theorem Xdo:TOK Tryz.prog 73 (Jv):=⟨by kernel_rfl,by kernel_rfl⟩
theorem Xdp:TOK Tryz.prog 75 (Zy):=⟨by kernel_rfl,by kernel_rfl⟩
theorem Xdq:TOK Tryz.prog 87 (Zu):=⟨by kernel_rfl,by kernel_rfl⟩
theorem Xaf:TOK Tryz.prog 100 (W9):=⟨by kernel_rfl,by kernel_rfl⟩
theorem Xag:TOK Tryz.prog 104 (.slice 153 (Z7)):=⟨by kernel_rfl,by kernel_rfl⟩
theorem Xah:TOK Tryz.prog 107 (Y9):=⟨by kernel_rfl,by kernel_rfl⟩
theorem Xai:TOK Tryz.prog 138 (.int .u64):=⟨by kernel_rfl,by kernel_rfl⟩
theorem Xaj:TOK Tryz.prog 153 (Z7):=⟨by kernel_rfl,by kernel_rfl⟩
theorem Xak:TOK Tryz.prog 192 (.slice 9 (.str)):=⟨by kernel_rfl,by kernel_rfl⟩
theorem Xal:TOK Tryz.prog 200 (Zt):=⟨by kernel_rfl,by kernel_rfl⟩
theorem Xam:TOK Tryz.prog 267 (Z06):=⟨by kernel_rfl,by kernel_rfl⟩
theorem Q8m:tab.ok Tryz.prog:=(Xq Xfe (Xq Xff (Xq Xfg (Xq Xfh (Xq Xc6 (Xq Xc7 (Xq Xc8 (Xq Xc9 (Xq Xda (Xq Xdb (Xq Xdc (Xq Xdd (Xq Xde (Xq Xdf (Xq Xdg (Xq Xdh (Xq Xdi (Xq Xdj (Xq Xdk (Xq Xdl (Xq Xdm (Xq Xdn (Xq Xdo (Xq Xdp (Xq Xdq (Xq Xaf (Xq Xag (Xq Xah (Xq Xai (Xq Xaj (Xq Xak (Xq Xal (Xq Xam Xae)))))))))))))))))))))))))))))))))
abbrev glob:Jc:=Jc.none
theorem Xb5:Qvk Tryz.prog 87 (Zu):=Qvk.of (by kernel_rfl) (by kernel_rfl) rfl (by decide)
theorem Q9h:Qvk Tryz.prog 200 (Zt):=Qvk.of (by kernel_rfl) (by kernel_rfl) rfl (by decide)
def Xee:List Nat:=[87,200]
theorem Q60:Q8w Tryz.prog tab Xee:=(Qyf Xb5 rfl (Qyf Q9h rfl Q9i))
@[reducible] def cfg(ln:List Nat)(Γ:Env)(ΓL:Z20)(ΓB:Zvr)(ΓW:Zxp):Cfg:={τ:=tab,eq:=fun e=>Xee.any (Nat.beq e),Γ:=Γ,ΓL:=ΓL,ΓB:=ΓB,lent:=ln,ΓW:=ΓW}
theorem Q6m{gl:Jc}{ln:List Nat}{Γ:Env}{ΓL:Z20}{ΓB:Zvr}{ΓW:Zxp}(hs:gl.soft=false)(h:Γ.ok Tryz.prog gl)(hL:ΓL.ok Tryz.prog gl)(hB:ΓB.ok Tryz.prog gl)(hW:ΓW.ok Tryz.prog): (cfg ln Γ ΓL ΓB ΓW).ok Tryz.prog gl:=⟨Q8m,Q60,h,by kernel_rfl,hL,hB,hs,(fun h=>by cases h),hW,Zl0.ok_none,(fun _ h=>by cases h)⟩
@[reducible] def Q0g(I:Z6n)(ln:List Nat)(Γ:Env)(ΓL:Z20)(ΓB:Zvr)(ΓW:Zxp):Cfg:={cfg ln Γ ΓL ΓB ΓW with inl:=I}
theorem Qn0{gl:Jc}{I:Z6n}{ln:List Nat}{Γ:Env}{ΓL:Z20}{ΓB:Zvr}{ΓW:Zxp}(hI:I.ok Tryz.prog gl)(hs:gl.soft=false)(h:Γ.ok Tryz.prog gl)(hL:ΓL.ok Tryz.prog gl)(hB:ΓB.ok Tryz.prog gl)(hW:ΓW.ok Tryz.prog): (Q0g I ln Γ ΓL ΓB ΓW).ok Tryz.prog gl:=⟨Q8m,Q60,h,by kernel_rfl,hL,hB,hs,(fun h=>by cases h),hW,Zl0.ok_none,hI⟩
theorem lf{ρ:Type}{C:Cfg}{n:Nat}{c:Code}{k:Exit->St->Option ρ}:Zgb C n c (.leaf:An ρ) k:=Q8 c k
theorem hk{α β:Type}{f g:α->Option β}(h: ∀x,f x=g x)(x:α)(r:β)(e:g x=some r):f x=some r:=(h x).trans e
abbrev okE(e:FnE):=Z21 Tryz.prog glob e
abbrev okB(e:FnB):=Qct Tryz.prog glob e
theorem ofE{e:FnE}{Γ:Env}{ΓB:Zvr}(h1:Γ.ok Tryz.prog glob)(h2:ΓB.ok Tryz.prog glob){fn:Func}(hf:Tryz.prog.funcs[e.f]? =some fn)(hcall: ∀args w,(callFunc e.f args).run Tryz.prog w= .ok (.enter e.f args) w)(A:An (K5 e.res))(hA:Zgb (cfg [] Γ [] ΓB []) fn.ntmps (Zw3 fn) A (fnK (cfg [] Γ [] ΓB []).τ e.res fn.results.toList))
  (hF: ∀xs r,e.F xs=some r->Zce (cfg [] Γ [] ΓB []) fn.ntmps (Zw3 fn) A (fnK (cfg [] Γ [] ΓB []).τ e.res fn.results.toList) (Qo1 e.args xs)=some r) (hb:fn.body=some (Zw3 fn):=by rfl) (hn:e.args.length<=fn.ntmps:=by decide):okE e:=Z21.of (Q6m rfl h1 Zxy h2 Zxz) rfl hf hb hcall hn A hA hF
theorem ofB{e:FnB}{Γ:Env}{ΓB:Zvr}(L:List Nat)(h1:Γ.ok Tryz.prog glob)(h2:ΓB.ok Tryz.prog glob){fn:Func}(hf:Tryz.prog.funcs[e.f]? =some fn)(hcall: ∀args w,(callFunc e.f args).run Tryz.prog w= .ok (.enter e.f args) w)(A:An (Z1b e.res×Zsk e.args))(hA:Zgb (cfg L Γ [] ΓB []) fn.ntmps (Zw3 fn) A (Q0v (cfg L Γ [] ΓB []).τ e.args e.res fn.results.toList))
  (hF: ∀xs r,e.F xs=some r->Zce (cfg L Γ [] ΓB []) fn.ntmps (Zw3 fn) A (Q0v (cfg L Γ [] ΓB []).τ e.args e.res fn.results.toList) (Qo2 e.args xs)=some r) (hb:fn.body=some (Zw3 fn):=by rfl) (hn:e.args.length<=fn.ntmps:=by decide) (hlent:L=Zik e.args 0:=by rfl):okB e:=Qct.of (Q6m rfl h1 Zxy h2 Zxz) rfl hlent hf hb hcall hn A hA hF
abbrev Q0q:FnE:={f:=4,args:=[.slice 5 (.int .u8)],res:=[.bool],F:=fun xs=>Qrh xs.1}
theorem Qy6:okE Q0q:=
 ofE Zg Zd Tryz.func4 Tryz.call4 .leaf lf (hk fun _=>by kernel_rfl)
abbrev Qv7:FnB:={f:=24,args:=[.sh (.slice 5 (.int .u8))],res:= .newb 100 (W9),F:=fun xs=>Zjw xs.1}
theorem Zn5:okB Qv7:=
 ofB [] Zg Zd Tryz.func24 Tryz.call24 (.seq .leaf (.seq .leaf (.seq (.seq .leaf (.block (.loop Qnw (fun N v=>Zod N v.1 v.2.1 v.2.2.1) (fun v=>Zpf v.1 v.2.1 v.2.2.1) (fun K1=> .leaf)))) .leaf))) ⟨lf,lf,⟨lf,fun _=>rfl,fun N=>⟨(fun v=>by kernel_rfl),lf⟩⟩,lf⟩ (hk fun _=>by kernel_rfl)
abbrev Qtc:FnB:={f:=47,args:=[.bx 100 (W9) (.u false)],res:= .vals [.int .i64],F:=fun xs=>Zjb xs.1}
theorem Qrx:okB Qtc:=
 ofB [0] Zg Zd Tryz.func47 Tryz.call47 .leaf lf (hk fun _=>by kernel_rfl)
abbrev Qqh:FnB:={f:=28,args:=[.bx 100 (W9) (.u false),.sh (.int .i64)],res:= .vals [.int .i64],F:=fun xs=>Qm xs.1 xs.2.1}
theorem Yi:okB Qqh:=
 ofB [0] Zg (Zx Qrx Zd) Tryz.func28 Tryz.call28 .leaf lf (hk fun _=>by kernel_rfl)
abbrev Qtd:FnB:={f:=26,args:=[.bx 100 (W9) (.u false),.sh (.int .i64)],res:= .vals [.bool],F:=fun xs=>Zam xs.1 xs.2.1}
theorem Zqi:okB Qtd:=
 ofB [0] Zg (Zx Yi Zd) Tryz.func26 Tryz.call26 .leaf lf (hk fun _=>by kernel_rfl)
abbrev Z9t:FnE:={f:=150,args:=[],res:=[Ztq],F:=fun xs=>Zza}
theorem Z7p:okE Z9t:=
 ofE Zg Zd Tryz.func150 Tryz.call150 .leaf lf (hk fun _=>by kernel_rfl)
abbrev Qp8:FnB:={f:=89,args:=[.bx 100 (W9) (.u false)],res:= .vals [Ztq],F:=fun xs=>Zq0 xs.1}
theorem Qnl:okB Qp8:=
 ofB [0] (Za Z7p Zg) (Zx Yi Zd) Tryz.func89 Tryz.call89 .leaf lf (hk fun _=>by kernel_rfl)
abbrev Qqq:FnE:={f:=194,args:=[.int .i64],res:=[.bool],F:=fun xs=>Zel xs.1}
theorem Zth:okE Qqq:=
 ofE Zg Zd Tryz.func194 Tryz.call194 .leaf lf (hk fun _=>by kernel_rfl)
abbrev Qyc:FnE:={f:=38,args:=[.int .i64,.int .i64,.int .i64],res:=[.bool],F:=fun xs=>Z4 xs.1 xs.2.1 xs.2.2.1}
theorem Ym:okE Qyc:=
 ofE Zg Zd Tryz.func38 Tryz.call38 .leaf lf (hk fun _=>by kernel_rfl)
abbrev Qs5:FnE:={f:=123,args:=[Ztq],res:=[.bool],F:=fun xs=>V8 xs.1}
theorem Zu7:okE Qs5:=
 ofE (Za Zth (Za Ym Zg)) Zd Tryz.func123 Tryz.call123 .leaf lf (hk fun _=>by kernel_rfl)
abbrev Qtl:FnE:={f:=196,args:=[.int .i64],res:=[.bool],F:=fun xs=>Qi xs.1}
theorem Q4:okE Qtl:=
 ofE (Za Ym Zg) Zd Tryz.func196 Tryz.call196 .leaf lf (hk fun _=>by kernel_rfl)
abbrev Qhm:FnE:={f:=146,args:=[.int .i64],res:=[Q5,.bool],F:=fun xs=>Zcr xs.1}
theorem Zwm:okE Qhm:=
 ofE (Za Q4 Zg) Zd Tryz.func146 Tryz.call146 .leaf lf (hk fun _=>by kernel_rfl)
abbrev Qhp:FnE:={f:=147,args:=[.int .i64,.int .i64],res:=[Ks,.bool],F:=fun xs=>Zct xs.1 xs.2.1}
theorem Zwo:okE Qhp:=
 ofE (Za Ym Zg) Zd Tryz.func147 Tryz.call147 .leaf lf (hk fun _=>by kernel_rfl)
abbrev Qmt:FnE:={f:=148,args:=[.int .i64],res:=[Zlx,.bool],F:=fun xs=>Zky xs.1}
theorem Qja:okE Qmt:=
 ofE (Za Ym Zg) Zd Tryz.func148 Tryz.call148 .leaf lf (hk fun _=>by kernel_rfl)
abbrev Qmr:FnE:={f:=149,args:=[.int .i64],res:=[Q5,.bool],F:=fun xs=>Zkx xs.1}
theorem Qi8:okE Qmr:=
 ofE (Za Ym Zg) Zd Tryz.func149 Tryz.call149 .leaf lf (hk fun _=>by kernel_rfl)
abbrev Qp3:FnE:={f:=88,args:=[.bool,Ztq,Ztq],res:=[Zq,.bool],F:=fun xs=>Znc xs.1 xs.2.1 xs.2.2.1}
theorem Qnh:okE Qp3:=
 ofE (Za Zu7 (Za Zwm (Za Zwo (Za Qja (Za Qi8 Zg))))) Zd Tryz.func88 Tryz.call88 .leaf lf (hk fun _=>by kernel_rfl)
abbrev Qtp:FnE:={f:=191,args:=[W8],res:=[W8],F:=fun xs=>Zps xs.1}
theorem Zvf:okE Qtp:=
 ofE Zg Zd Tryz.func191 Tryz.call191 .leaf lf (hk fun _=>by kernel_rfl)
abbrev Qti:FnE:={f:=192,args:=[.slice 200 (Zt)],res:=[.slice 200 (Zt)],F:=fun xs=>Zhe xs.1}
theorem Zvc:okE Qti:=
 ofE Zg Zd Tryz.func192 Tryz.call192 .leaf lf (hk fun _=>by kernel_rfl)
abbrev Qtq:FnE:={f:=121,args:=[Z0],res:=[Z0],F:=fun xs=>Zc0 xs.1}
theorem Zci:okE Qtq:=
 ofE (Za Zvf (Za Zvc Zg)) Zd Tryz.func121 Tryz.call121 .leaf lf (hk fun _=>by kernel_rfl)
abbrev Qtn:FnE:={f:=193,args:=[Xw],res:=[Xw],F:=fun xs=>Zjc xs.1}
theorem Zve:okE Qtn:=
 ofE Zg Zd Tryz.func193 Tryz.call193 .leaf lf (hk fun _=>by kernel_rfl)
abbrev Qto:FnE:={f:=122,args:=[Q2],res:=[Q2],F:=fun xs=>Zmx xs.1}
theorem Zqj:okE Qto:=
 ofE (Za Zve Zg) Zd Tryz.func122 Tryz.call122 .leaf lf (hk fun _=>by kernel_rfl)
abbrev Qp9:FnE:={f:=67,args:=[Zy],res:=[Zy],F:=fun xs=>Zej xs.1}
theorem Ztg:okE Qp9:=
 ofE (Za Zci (Za Zqj Zg)) Zd Tryz.func67 Tryz.call67 .leaf lf (hk fun _=>by kernel_rfl)
abbrev Qd8:FnE:={f:=69,args:=[.slice 59 (Yx)],res:=[.slice 59 (Yx)],F:=fun xs=>Zo1 xs.1}
theorem Qbm:okE Qd8:=
 ofE Zg Zd Tryz.func69 Tryz.call69 (.seq .leaf (.seq .leaf (.seq (.seq .leaf (.block (.loop Z5s (fun N v=>Zf0 N v.1 v.2.1 v.2.2.1) (fun v=>Zi2 v.1 v.2.1 v.2.2.1) (fun K1=> .leaf)))) .leaf))) ⟨lf,lf,⟨lf,fun _=>rfl,fun N=>⟨(fun v=>by kernel_rfl),lf⟩⟩,lf⟩ (hk fun _=>by kernel_rfl)
abbrev Qqa:FnE:={f:=36,args:=[Zq],res:=[Zq],F:=fun xs=>Z6 xs.1}
theorem Qy:okE Qqa:=
 ofE (Za Ztg (Za Qbm Zg)) Zd Tryz.func36 Tryz.call36 (.seq .leaf (.seq .leaf (.seq .leaf (.seq (.seq .leaf (.block (.loop Qf4 (fun N v=>Zkh N v.1 v.2.1 v.2.2.1 v.2.2.2.1) (fun v=>Zmr v.1 v.2.1 v.2.2.1 v.2.2.2.1) (fun K1=> .leaf)))) .leaf)))) ⟨lf,lf,lf,⟨lf,fun _=>rfl,fun N=>⟨(fun v=>by kernel_rfl),lf⟩⟩,lf⟩ (hk fun _=>by kernel_rfl)
abbrev Qs8:FnE:={f:=242,args:=[W8],res:=[.bool],F:=fun xs=>Zcp xs.1}
theorem Zqg:okE Qs8:=
 ofE (Za Zth (Za Ym Zg)) Zd Tryz.func242 Tryz.call242 (.seq .leaf (.seq .leaf (.seq (.seq .leaf (.block (.loop Qjz (fun N v=>Zfs N v.1 v.2.1) (fun v=>Zae v.1 v.2.1) (fun K1=> .leaf)))) .leaf))) ⟨lf,lf,⟨lf,fun _=>rfl,fun N=>⟨(fun v=>by kernel_rfl),lf⟩⟩,lf⟩ (hk fun _=>by kernel_rfl)
abbrev Qtj:FnE:={f:=246,args:=[Zt],res:=[.bool],F:=fun xs=>Zs5 xs.1}
theorem Zvd:okE Qtj:=
 ofE Zg Zd Tryz.func246 Tryz.call246 .leaf lf (hk fun _=>by kernel_rfl)
abbrev Qml:FnE:={f:=243,args:=[.slice 200 (Zt)],res:=[.bool],F:=fun xs=>Y5 xs.1}
theorem Zez:okE Qml:=
 ofE (Za Zvd Zg) Zd Tryz.func243 Tryz.call243 (.seq .leaf (.seq (.seq .leaf (.block (.loop Qcc (fun N v=>V9 N v.1 v.2.1) (fun v=>Za7 v.1 v.2.1) (fun K1=> .leaf)))) .leaf)) ⟨lf,⟨lf,fun _=>rfl,fun N=>⟨(fun v=>by kernel_rfl),lf⟩⟩,lf⟩ (hk fun _=>by kernel_rfl)
abbrev Qme:FnE:={f:=207,args:=[.slice 200 (Zt),Zt],res:=[.slice 200 (Zt)],F:=fun xs=>Vk xs.1 xs.2.1}
theorem Zey:okE Qme:=
 ofE (Za Zez (Za Zvd (Za Zvc Zg))) Zd Tryz.func207 Tryz.call207 (.seq .leaf (.seq .leaf (.seq .leaf (.seq .leaf (.seq (.seq .leaf (.block (.loop Qb7 (fun N v=>Yj N v.1 v.2.1 v.2.2.1 v.2.2.2.1 v.2.2.2.2.1) (fun v=>Zf4 v.1 v.2.1 v.2.2.1 v.2.2.2.1 v.2.2.2.2.1) (fun K1=>(.seq .leaf (.join Qb5 (fun v=>V4 K1 v.1 v.2.1 v.2.2.1 v.2.2.2.1 v.2.2.2.2.1) (.block (.block (.seq .leaf (.cond .leaf (.seq .leaf (.cond (.join Qb6 (fun v=>Zir K1 v.1 v.2.1 v.2.2.1 v.2.2.2.1 v.2.2.2.2.1) .leaf .leaf) .leaf)))))) .leaf)))))) .leaf))))) ⟨lf,lf,lf,lf,⟨lf,fun _=>rfl,fun N=>⟨(fun v=>by kernel_rfl),lf,⟨lf,lf,lf,⟨lf,(fun v=>by kernel_rfl),lf⟩,lf⟩,(fun v=>by kernel_rfl),lf⟩⟩,lf⟩ (hk fun _=>by kernel_rfl)
abbrev Z60:FnE:={f:=244,args:=[.slice 200 (Zt)],res:=[.int .i64],F:=fun xs=>Vc xs.1}
theorem Z4l:okE Z60:=
 ofE (Za Zez Zg) Zd Tryz.func244 Tryz.call244 (.seq .leaf (.seq .leaf (.seq .leaf (.seq (.seq .leaf (.block (.loop Z0w (fun N v=>Kd N v.1 v.2.1 v.2.2.1) (fun v=>Zaw v.1 v.2.1 v.2.2.1) (fun K1=> .leaf)))) .leaf)))) ⟨lf,lf,lf,⟨lf,fun _=>rfl,fun N=>⟨(fun v=>by kernel_rfl),lf⟩⟩,lf⟩ (hk fun _=>by kernel_rfl)
abbrev Qmh:FnE:={f:=245,args:=[.slice 200 (Zt),.int .i64],res:=[.int .i64],F:=fun xs=>Zhl xs.1 xs.2.1}
theorem Zyq:okE Qmh:=
 ofE (Za Zez Zg) Zd Tryz.func245 Tryz.call245 (.seq .leaf (.seq .leaf (.seq (.seq .leaf (.block (.loop Qca (fun N v=>J3 N v.1 v.2.1 v.2.2.1) (fun v=>Zld v.1 v.2.1 v.2.2.1) (fun K1=>(.seq .leaf (.join Qb9 (fun v=>Ziu K1 v.1 v.2.1 v.2.2.1) .leaf .leaf)))))) .leaf))) ⟨lf,lf,⟨lf,fun _=>rfl,fun N=>⟨(fun v=>by kernel_rfl),lf,lf,(fun v=>by kernel_rfl),lf⟩⟩,lf⟩ (hk fun _=>by kernel_rfl)
abbrev Qqt:FnE:={f:=208,args:=[Z0],res:=[.int .i64],F:=fun xs=>J5 xs.1}
theorem Zop:okE Qqt:=
 ofE Zg Zd Tryz.func208 Tryz.call208 .leaf lf (hk fun _=>by kernel_rfl)
abbrev Qmm:FnE:={f:=201,args:=[Z0],res:=[.bool],F:=fun xs=>Xv xs.1}
theorem J1:okE Qmm:=
 ofE (Za Zqg (Za Zez (Za Ym (Za Q4 (Za Zey (Za Z4l (Za Zyq (Za Zop Zg)))))))) Zd Tryz.func201 Tryz.call201 (.seq .leaf (.seq .leaf (.seq .leaf (.seq .leaf (.seq (.seq .leaf (.block (.loop Qcd (fun N v=>Zbr N v.1 v.2.1 v.2.2.1) (fun v=>Yz v.1 v.2.1 v.2.2.1) (fun K1=> .leaf)))) (.seq (.seq .leaf (.block (.loop Qce (fun N v=>Zbs N v.1 v.2.1 v.2.2.1) (fun v=>Za8 v.1 v.2.1 v.2.2.1) (fun K2=> .leaf)))) (.seq .leaf (.seq .leaf (.seq (.seq .leaf (.block (.loop Qcf (fun N v=>Zbt N v.1 v.2.1) (fun v=>Za9 v.1 v.2.1) (fun K3=> .leaf)))) (.seq (.seq .leaf (.block (.loop Qcg (fun N v=>Zbu N v.1 v.2.1) (fun v=>Zf6 v.1 v.2.1) (fun K4=> .leaf)))) .leaf)))))))))) ⟨lf,lf,lf,lf,⟨lf,fun _=>rfl,fun N=>⟨(fun v=>by kernel_rfl),lf⟩⟩,⟨lf,fun _=>rfl,fun N=>⟨(fun v=>by kernel_rfl),lf⟩⟩,lf,lf,⟨lf,fun _=>rfl,fun N=>⟨(fun v=>by kernel_rfl),lf⟩⟩,⟨lf,fun _=>rfl,fun N=>⟨(fun v=>by kernel_rfl),lf⟩⟩,lf⟩ (hk fun _=>by kernel_rfl)
abbrev Qmk:FnE:={f:=125,args:=[Q5],res:=[.bool],F:=fun xs=>Yd xs.1}
theorem V1:okE Qmk:=
 ofE (Za Q4 (Za Ym Zg)) Zd Tryz.func125 Tryz.call125 .leaf lf (hk fun _=>by kernel_rfl)
abbrev Qmi:FnE:={f:=276,args:=[Xw],res:=[.bool],F:=fun xs=>Zep xs.1}
theorem Zin:okE Qmi:=
 ofE (Za Q4 Zg) Zd Tryz.func276 Tryz.call276 (.seq .leaf (.seq .leaf (.seq (.seq .leaf (.block (.loop Qcb (fun N v=>Ze2 N v.1 v.2.1 v.2.2.1) (fun v=>Zle v.1 v.2.1 v.2.2.1) (fun K1=> .leaf)))) .leaf))) ⟨lf,lf,⟨lf,fun _=>rfl,fun N=>⟨(fun v=>by kernel_rfl),lf⟩⟩,lf⟩ (hk fun _=>by kernel_rfl)
abbrev Qv5:FnE:={f:=277,args:=[Xw],res:=[.int .i64],F:=fun xs=>Zrp xs.1}
theorem Qtw:okE Qv5:=
 ofE (Za Zin Zg) Zd Tryz.func277 Tryz.call277 .leaf lf (hk fun _=>by kernel_rfl)
abbrev Qd7:FnE:={f:=278,args:=[Xw],res:=[.int .i64],F:=fun xs=>Zal xs.1}
theorem Zpc:okE Qd7:=
 ofE (Za Zin Zg) Zd Tryz.func278 Tryz.call278 .leaf lf (hk fun _=>by kernel_rfl)
abbrev Qdu:FnE:={f:=239,args:=[Q2],res:=[.bool],F:=fun xs=>X4 xs.1}
theorem Zbk:okE Qdu:=
 ofE (Za Zin (Za Q4 (Za Qtw (Za Zpc Zg)))) Zd Tryz.func239 Tryz.call239 (.seq .leaf (.seq .leaf (.seq .leaf (.seq (.seq .leaf (.block (.seq .leaf (.cond .leaf (.seq .leaf (.cond .leaf (.seq .leaf (.cond .leaf (.seq .leaf (.cond .leaf (.join Z5g (fun v=>Yt v.1 v.2.1) .leaf .leaf))))))))))) .leaf)))) ⟨lf,lf,lf,⟨lf,lf,lf,lf,lf,lf,lf,lf,lf,lf,(fun v=>by kernel_rfl),lf⟩,lf⟩ (hk fun _=>by kernel_rfl)
abbrev Qmo:FnE:={f:=126,args:=[Ks],res:=[.bool],F:=fun xs=>Vl xs.1}
theorem Zio:okE Qmo:=
 ofE (Za Ym Zg) Zd Tryz.func126 Tryz.call126 .leaf lf (hk fun _=>by kernel_rfl)
abbrev Qds:FnE:={f:=240,args:=[Jv],res:=[.bool],F:=fun xs=>Vo xs.1}
theorem Zpb:okE Qds:=
 ofE (Za Ym Zg) Zd Tryz.func240 Tryz.call240 .leaf lf (hk fun _=>by kernel_rfl)
abbrev Qmn:FnE:={f:=195,args:=[Zy],res:=[.bool],F:=fun xs=>Zb9 xs.1}
theorem Zyr:okE Qmn:=
 ofE (Za Q4 (Za J1 (Za V1 (Za Zbk (Za Zio (Za Zpb Zg)))))) Zd Tryz.func195 Tryz.call195 .leaf lf (hk fun _=>by kernel_rfl)
abbrev Qdj:FnE:={f:=124,args:=[.slice 75 (Zy)],res:=[.bool],F:=fun xs=>Y2 xs.1}
theorem Zo9:okE Qdj:=
 ofE (Za Zyr Zg) Zd Tryz.func124 Tryz.call124 (.seq .leaf (.seq (.seq .leaf (.block (.loop Z45 (fun N v=>X6 N v.1 v.2.1) (fun v=>V5 v.1 v.2.1) (fun K1=> .leaf)))) .leaf)) ⟨lf,⟨lf,fun _=>rfl,fun N=>⟨(fun v=>by kernel_rfl),lf⟩⟩,lf⟩ (hk fun _=>by kernel_rfl)
abbrev Qp0:FnE:={f:=127,args:=[Zlx],res:=[.bool],F:=fun xs=>Zb7 xs.1}
theorem Ztf:okE Qp0:=
 ofE (Za Ym Zg) Zd Tryz.func127 Tryz.call127 .leaf lf (hk fun _=>by kernel_rfl)
abbrev Qpz:FnE:={f:=128,args:=[Q5],res:=[.bool],F:=fun xs=>J4 xs.1}
theorem Zon:okE Qpz:=
 ofE (Za Ym Zg) Zd Tryz.func128 Tryz.call128 .leaf lf (hk fun _=>by kernel_rfl)
abbrev Qmp:FnE:={f:=197,args:=[.int .i64],res:=[.str],F:=fun xs=>Zoa xs.1}
theorem Qi7:okE Qmp:=
 ofE Zg Zd Tryz.func197 Tryz.call197 .leaf lf (hk fun _=>by kernel_rfl)
abbrev Z3n:FnE:={f:=161,args:=[Zu],res:=[.bool],F:=fun xs=>Vu xs.1}
theorem Zlb:okE Z3n:=
 ofE Zg Zd Tryz.func161 Tryz.call161 (.seq .leaf (.seq (.seq .leaf (.block (.join Zzc (fun v=>X8 v.1) .leaf .leaf))) .leaf)) ⟨lf,⟨lf,lf,(fun v=>by kernel_rfl),lf⟩,lf⟩ (hk fun _=>by kernel_rfl)
abbrev Qtm:FnE:={f:=92,args:=[Zu],res:=[Zu],F:=fun xs=>Zes xs.1}
theorem Z4s:okE Qtm:=
 ofE (Za Zlb Zg) Zd Tryz.func92 Tryz.call92 (.seq .leaf (.seq .leaf (.join Qj6 (fun v=>Zcy v.1 v.2.1 v.2.2.1) .leaf (.seq (.seq .leaf (.block (.seq .leaf (.cond .leaf (.seq .leaf (.cond .leaf (.seq .leaf (.cond .leaf (.join Qj7 (fun v=>Zcz v.1 v.2.1 v.2.2.1 v.2.2.2.1) .leaf .leaf))))))))) .leaf)))) ⟨lf,lf,lf,(fun v=>by kernel_rfl),⟨lf,lf,lf,lf,lf,lf,lf,lf,(fun v=>by kernel_rfl),lf⟩,lf⟩ (hk fun _=>by kernel_rfl)
abbrev Qp1:FnE:={f:=137,args:=[Zu],res:=[.bool],F:=fun xs=>Zb8 xs.1}
theorem Zgl:okE Qp1:=
 ofE (Za Qi7 (Za Z4s (Za Q4 Zg))) Zd Tryz.func137 Tryz.call137 (.seq .leaf (.seq .leaf (.seq (.seq .leaf (.block (.seq .leaf (.cond .leaf (.join Qfx (fun v=>Zou v.1 v.2.1) .leaf .leaf))))) .leaf))) ⟨lf,lf,⟨lf,lf,lf,lf,(fun v=>by kernel_rfl),lf⟩,lf⟩ (hk fun _=>by kernel_rfl)
abbrev Qhz:FnE:={f:=129,args:=[.slice 87 (Zu)],res:=[.bool],F:=fun xs=>Zcw xs.1}
theorem Qfh:okE Qhz:=
 ofE (Za Zgl Zg) Zd Tryz.func129 Tryz.call129 (.seq .leaf (.seq (.seq .leaf (.block (.loop Z8h (fun N v=>Jf N v.1 v.2.1) (fun v=>Ki v.1 v.2.1) (fun K1=> .leaf)))) .leaf)) ⟨lf,⟨lf,fun _=>rfl,fun N=>⟨(fun v=>by kernel_rfl),lf⟩⟩,lf⟩ (hk fun _=>by kernel_rfl)
abbrev Qhv:FnE:={f:=130,args:=[.slice 75 (Zy)],res:=[.int .i64],F:=fun xs=>Zcv xs.1}
theorem Qfd:okE Qhv:=
 ofE (Za Zo9 Zg) Zd Tryz.func130 Tryz.call130 (.seq .leaf (.seq .leaf (.seq (.seq .leaf (.block (.loop Z8f (fun N v=>Y8 N v.1 v.2.1 v.2.2.1) (fun v=>Yo v.1 v.2.1 v.2.2.1) (fun K1=> .leaf)))) .leaf))) ⟨lf,lf,⟨lf,fun _=>rfl,fun N=>⟨(fun v=>by kernel_rfl),lf⟩⟩,lf⟩ (hk fun _=>by kernel_rfl)
abbrev Qht:FnE:={f:=131,args:=[.slice 75 (Zy)],res:=[.int .i64],F:=fun xs=>Zcu xs.1}
theorem Qfb:okE Qht:=
 ofE (Za Zo9 Zg) Zd Tryz.func131 Tryz.call131 (.seq .leaf (.seq .leaf (.seq (.seq .leaf (.block (.loop Z8c (fun N v=>Y7 N v.1 v.2.1 v.2.2.1) (fun v=>Yn v.1 v.2.1 v.2.2.1) (fun K1=> .leaf)))) .leaf))) ⟨lf,lf,⟨lf,fun _=>rfl,fun N=>⟨(fun v=>by kernel_rfl),lf⟩⟩,lf⟩ (hk fun _=>by kernel_rfl)
abbrev Qs6:FnE:={f:=70,args:=[Zq],res:=[.bool],F:=fun xs=>Yy xs.1}
theorem Wq:okE Qs6:=
 ofE (Za Zu7 (Za Zo9 (Za V1 (Za Zio (Za Ztf (Za Zon (Za Ym (Za Qfh (Za Qfd (Za Qfb Zg)))))))))) Zd Tryz.func70 Tryz.call70 (.seq .leaf (.seq .leaf (.seq (.seq .leaf (.block (.loop Qjy (fun N v=>Wx N v.1 v.2.1) (fun v=>Kx v.1 v.2.1) (fun K1=> .leaf)))) .leaf))) ⟨lf,lf,⟨lf,fun _=>rfl,fun N=>⟨(fun v=>by kernel_rfl),lf⟩⟩,lf⟩ (hk fun _=>by kernel_rfl)
abbrev Qmj:FnE:={f:=71,args:=[Zq],res:=[.bool],F:=fun xs=>Zxj xs.1}
theorem Qi6:okE Qmj:=
 ofE Zg Zd Tryz.func71 Tryz.call71 .leaf lf (hk fun _=>by kernel_rfl)
abbrev Qqg:FnE:={f:=37,args:=[Zq],res:=[.bool],F:=fun xs=>Ya xs.1}
theorem Jy:okE Qqg:=
 ofE (Za Wq (Za Qi6 Zg)) Zd Tryz.func37 Tryz.call37 .leaf lf (hk fun _=>by kernel_rfl)
abbrev Qmu:FnE:={f:=209,args:=[Zlx],res:=[.int .i64,Zlx,.bool],F:=fun xs=>Zkz xs.1}
theorem Qjb:okE Qmu:=
 ofE (Za Ztf Zg) Zd Tryz.func209 Tryz.call209 .leaf lf (hk fun _=>by kernel_rfl)
abbrev Qs9:FnE:={f:=210,args:=[.int .i64,.bool,.bool],res:=[.int .i64],F:=fun xs=>Zpo xs.1 xs.2.1 xs.2.2.1}
theorem Qru:okE Qs9:=
 ofE (Za Ym Zg) Zd Tryz.func210 Tryz.call210 (.seq .leaf (.seq .leaf (.seq .leaf (.join Qj0 (fun v=>Zfv v.1 v.2.1) .leaf .leaf)))) ⟨lf,lf,lf,lf,(fun v=>by kernel_rfl),lf⟩ (hk fun _=>by kernel_rfl)
abbrev Zzq:FnE:={f:=247,args:=[],res:=[Jv],F:=fun xs=>Zck}
theorem Zpk:okE Zzq:=
 ofE Zg Zd Tryz.func247 Tryz.call247 .leaf lf (hk fun _=>by kernel_rfl)
abbrev Z91:FnE:={f:=248,args:=[],res:=[Q2],F:=fun xs=>Zrq}
theorem Z7w:okE Z91:=
 ofE Zg Zd Tryz.func248 Tryz.call248 .leaf lf (hk fun _=>by kernel_rfl)
abbrev Qp2:FnE:={f:=280,args:=[.int .i64],res:=[.bool],F:=fun xs=>Zca xs.1}
theorem Zoo:okE Qp2:=
 ofE (Za Q4 Zg) Zd Tryz.func280 Tryz.call280 .leaf lf (hk fun _=>by kernel_rfl)
abbrev Qdx:FnE:={f:=299,args:=[.int .i64],res:=[.bool],F:=fun xs=>Zkc xs.1}
theorem Qbe:okE Qdx:=
 ofE (Za Q4 Zg) Zd Tryz.func299 Tryz.call299 .leaf lf (hk fun _=>by kernel_rfl)
abbrev Qv6:FnE:={f:=281,args:=[.bool,.int .i64],res:=[.bool],F:=fun xs=>Zjq xs.1 xs.2.1}
theorem Zr8:okE Qv6:=
 ofE (Za Q4 (Za Qbe Zg)) Zd Tryz.func281 Tryz.call281 .leaf lf (hk fun _=>by kernel_rfl)
abbrev Qhg:FnE:={f:=249,args:=[.bool,.int .i64],res:=[.bool],F:=fun xs=>Zfm xs.1 xs.2.1}
theorem Zqe:okE Qhg:=
 ofE (Za Q4 (Za Zoo (Za Zr8 Zg))) Zd Tryz.func249 Tryz.call249 .leaf lf (hk fun _=>by kernel_rfl)
abbrev Z6x:FnE:={f:=250,args:=[.bool,.int .i64],res:=[.bool],F:=fun xs=>Vb xs.1 xs.2.1}
theorem Zg3:okE Z6x:=
 ofE (Za Q4 (Za Zoo (Za Zr8 Zg))) Zd Tryz.func250 Tryz.call250 .leaf lf (hk fun _=>by kernel_rfl)
abbrev Qp4:FnE:={f:=282,args:=[.int .i64],res:=[W8,.bool],F:=fun xs=>Zt9 xs.1}
theorem Qni:okE Qp4:=
 ofE (Za Zth Zg) Zd Tryz.func282 Tryz.call282 .leaf lf (hk fun _=>by kernel_rfl)
abbrev Qhn:FnE:={f:=251,args:=[.int .i64],res:=[Z0,.bool],F:=fun xs=>Zix xs.1}
theorem Qe8:okE Qhn:=
 ofE (Za Qni Zg) Zd Tryz.func251 Tryz.call251 .leaf lf (hk fun _=>by kernel_rfl)
abbrev Qho:FnE:={f:=211,args:=[.bool,.int .i64,Ztq,Ztq],res:=[Zy,.bool],F:=fun xs=>Zcs xs.1 xs.2.1 xs.2.2.1 xs.2.2.2.1}
theorem Zwn:okE Qho:=
 ofE (Za Q4 (Za Zu7 (Za Zpk (Za Z7w (Za Zqe (Za Zg3 (Za Qe8 (Za Zwm (Za Zwo Zg))))))))) Zd Tryz.func211 Tryz.call211 .leaf lf (hk fun _=>by kernel_rfl)
abbrev Qdo:FnE:={f:=66,args:=[.slice 75 (Zy),.int .i64],res:=[.int .i64],F:=fun xs=>Ko xs.1 xs.2.1}
theorem Zpa:okE Qdo:=
 ofE Zg Zd Tryz.func66 Tryz.call66 (.seq .leaf (.seq (.seq .leaf (.block (.loop Z5b (fun N v=>Vt N v.1 v.2.1 v.2.2.1) (fun v=>V7 v.1 v.2.1 v.2.2.1) (fun K1=> .leaf)))) .leaf)) ⟨lf,⟨lf,fun _=>rfl,fun N=>⟨(fun v=>by kernel_rfl),lf⟩⟩,lf⟩ (hk fun _=>by kernel_rfl)
abbrev Qhr:FnE:={f:=78,args:=[.slice 75 (Zy),Zy],res:=[.slice 75 (Zy)],F:=fun xs=>Qv xs.1 xs.2.1}
theorem Yl:okE Qhr:=
 ofE (Za Zpa (Za Ztg Zg)) Zd Tryz.func78 Tryz.call78 (.seq .leaf (.seq .leaf (.seq .leaf (.seq .leaf (.seq (.seq .leaf (.block (.loop Z8b (fun N v=>Xm N v.1 v.2.1 v.2.2.1 v.2.2.2.1 v.2.2.2.2.1 v.2.2.2.2.2.1) (fun v=>W3 v.1 v.2.1 v.2.2.1 v.2.2.2.1 v.2.2.2.2.1 v.2.2.2.2.2.1) (fun K1=>(.seq .leaf (.seq (.block (.seq .leaf (.join Z8a (fun v=>Y6 K1 v.1 v.2.1 v.2.2.1 v.2.2.2.1 v.2.2.2.2.1 v.2.2.2.2.2.1 v.2.2.2.2.2.2.1) .leaf .leaf))) .leaf)))))) .leaf))))) ⟨lf,lf,lf,lf,⟨lf,fun _=>rfl,fun N=>⟨(fun v=>by kernel_rfl),lf,⟨lf,lf,(fun v=>by kernel_rfl),lf⟩,lf⟩⟩,lf⟩ (hk fun _=>by kernel_rfl)
abbrev Qd1:FnE:={f:=151,args:=[Zq,.bool],res:=[.int .i64,Zq,.bool],F:=fun xs=>Zgs xs.1 xs.2.1}
theorem Qbi:okE Qd1:=
 ofE (Za Qy (Za Jy (Za Qjb (Za Qru (Za Zwn (Za Yl Zg)))))) Zd Tryz.func151 Tryz.call151 (.seq .leaf (.seq .leaf (.seq .leaf (.seq .leaf (.join Z5o (fun v=>Vx v.1 v.2.1 v.2.2.1 v.2.2.2.1 v.2.2.2.2.1) .leaf (.seq .leaf (.join Z5p (fun v=>Kh v.1 v.2.1 v.2.2.1 v.2.2.2.1 v.2.2.2.2.1 v.2.2.2.2.2.1) .leaf .leaf))))))) ⟨lf,lf,lf,lf,lf,(fun v=>by kernel_rfl),lf,lf,(fun v=>by kernel_rfl),lf⟩ (hk fun _=>by kernel_rfl)
abbrev Qte:FnB:={f:=157,args:=[.bx 100 (W9) (.u false),.sh (.slice 9 (.str))],res:= .vals [.str],F:=fun xs=>Zpp xs.1 xs.2.1}
theorem Z4q:okB Qte:=
 ofB [0] Zg (Zx Yi Zd) Tryz.func157 Tryz.call157 .leaf lf (hk fun _=>by kernel_rfl)
abbrev Qtk:FnB:={f:=91,args:=[.bx 100 (W9) (.u false),.sh (.int .i64)],res:= .vals [.str],F:=fun xs=>Zpr xs.1 xs.2.1}
theorem Z4r:okB Qtk:=
 ofB [0] Zg (Zx Yi (Zx Z4q Zd)) Tryz.func91 Tryz.call91 (.seq .leaf (.seq .leaf (.seq (.seq .leaf (.block (.loop Qj5 (fun N v=>Zi6 N v.1 v.2.1 v.2.2.1) (fun v=>Zh2 v.1 v.2.1 v.2.2.1) (fun K1=> .leaf)))) .leaf))) ⟨lf,lf,⟨lf,fun _=>rfl,fun N=>⟨(fun v=>by kernel_rfl),lf⟩⟩,lf⟩ (hk fun _=>by kernel_rfl)
abbrev Qm2:FnE:={f:=33,args:=[Zq,.int .i64],res:=[Zy,.bool],F:=fun xs=>Qw xs.1 xs.2.1}
theorem Xa:okE Qm2:=
 ofE (Za Zpa (Za Ztg Zg)) Zd Tryz.func33 Tryz.call33 .leaf lf (hk fun _=>by kernel_rfl)
abbrev Qta:FnE:={f:=283,args:=[W8],res:=[.int .i64],F:=fun xs=>Z5r xs.1}
theorem Qrv:okE Qta:=
 ofE (Za Zqg Zg) Zd Tryz.func283 Tryz.call283 .leaf lf (hk fun _=>by kernel_rfl)
abbrev Qhy:FnE:={f:=252,args:=[W8,.str],res:=[W8,.int .i64],F:=fun xs=>Zqz xs.1 xs.2.1}
theorem Qfg:okE Qhy:=
 ofE (Za Zvf (Za Qrv Zg)) Zd Tryz.func252 Tryz.call252 (.seq .leaf (.seq .leaf (.seq .leaf (.seq (.seq .leaf (.block (.loop Z8g (fun N v=>W5 N v.1 v.2.1 v.2.2.1 v.2.2.2.1 v.2.2.2.2.1 v.2.2.2.2.2.1) (fun v=>Zei v.1 v.2.1 v.2.2.1 v.2.2.2.1 v.2.2.2.2.1 v.2.2.2.2.2.1) (fun K1=> .leaf)))) .leaf)))) ⟨lf,lf,lf,⟨lf,fun _=>rfl,fun N=>⟨(fun v=>by kernel_rfl),lf⟩⟩,lf⟩ (hk fun _=>by kernel_rfl)
abbrev Qaa:FnE:={f:=212,args:=[Z0,.str],res:=[Z0,.int .i64],F:=fun xs=>Ze6 xs.1 xs.2.1}
theorem Z72:okE Qaa:=
 ofE (Za Zci (Za J1 (Za Qfg (Za Zey Zg)))) Zd Tryz.func212 Tryz.call212 (.seq .leaf (.seq .leaf (.seq .leaf (.seq .leaf (.join Z2z (fun v=>Zeb v.1 v.2.1 v.2.2.1 v.2.2.2.1) .leaf .leaf))))) ⟨lf,lf,lf,lf,lf,(fun v=>by kernel_rfl),lf⟩ (hk fun _=>by kernel_rfl)
abbrev Qab:FnE:={f:=152,args:=[Zq,.int .i64,.str],res:=[.int .i64,Zq],F:=fun xs=>Zng xs.1 xs.2.1 xs.2.2.1}
theorem Z73:okE Qab:=
 ofE (Za Qy (Za Xa (Za Jy (Za Z72 (Za Yl Zg))))) Zd Tryz.func152 Tryz.call152 .leaf lf (hk fun _=>by kernel_rfl)
abbrev Z9s:FnE:={f:=213,args:=[Z0],res:=[Z0,.bool],F:=fun xs=>Ze1 xs.1}
theorem Z7o:okE Z9s:=
 ofE (Za Zci (Za J1 Zg)) Zd Tryz.func213 Tryz.call213 .leaf lf (hk fun _=>by kernel_rfl)
abbrev Z63:FnE:={f:=153,args:=[Zq,.int .i64],res:=[Zq,.bool],F:=fun xs=>Zlu xs.1 xs.2.1}
theorem Z4n:okE Z63:=
 ofE (Za Qy (Za Xa (Za Jy (Za Z7o (Za Yl Zg))))) Zd Tryz.func153 Tryz.call153 .leaf lf (hk fun _=>by kernel_rfl)
abbrev Qhw:FnE:={f:=253,args:=[Xw,.int .i64],res:=[.str,Xw],F:=fun xs=>Zqy xs.1 xs.2.1}
theorem Qfe:okE Qhw:=
 ofE (Za Zpc (Za Zve Zg)) Zd Tryz.func253 Tryz.call253 (.seq .leaf (.seq .leaf (.seq .leaf (.seq .leaf (.seq .leaf (.seq .leaf (.seq (.seq .leaf (.cond (.seq (.frz [(7,.u false)]) .leaf) .leaf)) .leaf))))))) ⟨lf,lf,lf,lf,lf,lf,⟨lf,⟨trivial,lf⟩,lf⟩,lf⟩ (hk fun _=>by kernel_rfl)
abbrev Z64:FnB:={f:=214,args:=[.sh (Q2),.sh (.int .i64)],res:= .shr [.str,Q2],F:=fun xs=>Zlv xs.1 xs.2.1}
theorem Z4o:okB Z64:=
 ofB [] (Za Zqj (Za Zbk (Za Qfe Zg))) Zd Tryz.func214 Tryz.call214 (.seq .leaf (.seq .leaf (.seq (.seq .leaf (.cond (.seq .leaf (.frz [(5,.u false)])) .leaf)) (.seq (.seq .leaf (.cond (.seq .leaf (.seq .leaf (.frz [(5,.u false)]))) .leaf)) (.seq .leaf (.seq (.frz [(8,.u false)]) (.join Z02 (fun v=>Zhb v.1 v.2.1 v.2.2.1) .leaf .leaf))))))) ⟨lf,lf,⟨lf,⟨lf,trivial⟩,lf⟩,⟨lf,⟨lf,lf,trivial⟩,lf⟩,lf,trivial,lf,(fun v=>by kernel_rfl),lf⟩ (hk fun _=>by kernel_rfl)
abbrev Qhs:FnE:={f:=254,args:=[Ks,.int .i64],res:=[Ks,.bool],F:=fun xs=>Zfx xs.1 xs.2.1}
theorem Qfa:okE Qhs:=
 ofE (Za Zio Zg) Zd Tryz.func254 Tryz.call254 .leaf lf (hk fun _=>by kernel_rfl)
abbrev Qqe:FnB:={f:=215,args:=[.bx 37 (Zq) (.u false),.bx 75 (Zy) (.u false),.sh (.int .i64)],res:= .vals [],F:=fun xs=>Zq2 xs.1 xs.2.1 xs.2.2.1}
theorem Z1j:okB Qqe:=
 ofB [0,1] (Za Qfa Zg) Zd Tryz.func215 Tryz.call215 .leaf lf (hk fun _=>by kernel_rfl)
abbrev Qdw:FnE:={f:=300,args:=[Zy],res:=[.bool],F:=fun xs=>Ztp xs.1}
theorem Qbd:okE Qdw:=
 ofE Zg Zd Tryz.func300 Tryz.call300 .leaf lf (hk fun _=>by kernel_rfl)
abbrev Qdt:FnE:={f:=306,args:=[Q2],res:=[.bool],F:=fun xs=>Zov xs.1}
theorem Qbb:okE Qdt:=
 ofE (Za Zbk Zg) Zd Tryz.func306 Tryz.call306 .leaf lf (hk fun _=>by kernel_rfl)
abbrev Qdv:FnE:={f:=301,args:=[Zy],res:=[.bool],F:=fun xs=>Zto xs.1}
theorem Qbc:okE Qdv:=
 ofE (Za Qbb Zg) Zd Tryz.func301 Tryz.call301 .leaf lf (hk fun _=>by kernel_rfl)
abbrev Qs7:FnE:={f:=284,args:=[Zy],res:=[.bool],F:=fun xs=>Zwv xs.1}
theorem Qrt:okE Qs7:=
 ofE (Za Zyr (Za Qbd (Za Qbc Zg))) Zd Tryz.func284 Tryz.call284 .leaf lf (hk fun _=>by kernel_rfl)
abbrev Qmf:FnE:={f:=285,args:=[Q5],res:=[Q5,.bool],F:=fun xs=>Zhk xs.1}
theorem Qi4:okE Qmf:=
 ofE (Za Zon Zg) Zd Tryz.func285 Tryz.call285 .leaf lf (hk fun _=>by kernel_rfl)
abbrev Qqd:FnB:={f:=255,args:=[.bx 37 (Zq) (.u false),.bx 75 (Zy) (.u false)],res:= .vals [],F:=fun xs=>Zud xs.1 xs.2.1}
theorem Qnn:okB Qqd:=
 ofB [0,1] (Za Zr8 (Za Qrt (Za Zoo (Za Qi4 Zg)))) Zd Tryz.func255 Tryz.call255 .leaf lf (hk fun _=>by kernel_rfl)
abbrev Qqf:FnB:={f:=216,args:=[.bx 37 (Zq) (.u false),.sh (Zy)],res:= .vals [],F:=fun xs=>Zek xs.1 xs.2.1}
theorem Zgm:okB Qqf:=
 ofB [0] (Za Yl Zg) (Zx Qnn Zd) Tryz.func216 Tryz.call216 .leaf lf (hk fun _=>by kernel_rfl)
abbrev Qd6:FnB:={f:=154,args:=[.sh (Zq),.sh (.int .i64),.sh (.int .i64)],res:= .shr [.str,.bool,Zq],F:=fun xs=>Zo0 xs.1 xs.2.1 xs.2.2.1}
theorem Qbl:okB Qd6:=
 ofB [] (Za Qy (Za Xa (Za Jy Zg))) (Zx Z4o (Zx Z1j (Zx Zgm Zd))) Tryz.func154 Tryz.call154 (.seq .leaf (.seq .leaf (.seq .leaf (.seq (.seq .leaf (.cond (.seq .leaf (.frz [(8,.u false)])) .leaf)) (.seq (.frz [(10,.u false)]) (.seq .leaf (.join Z5q (fun v=>Zfy v.1 v.2.1 v.2.2.1 v.2.2.2.1 v.2.2.2.2.1) (.seq .leaf (.cond (.frz [(9,.u false)]) .leaf)) .leaf))))))) ⟨lf,lf,lf,⟨lf,⟨lf,trivial⟩,lf⟩,trivial,lf,⟨lf,trivial,lf⟩,(fun v=>by kernel_rfl),lf⟩ (hk fun _=>by kernel_rfl)
abbrev Z96:FnE:={f:=217,args:=[Z0,.int .i64],res:=[Z0,.bool],F:=fun xs=>Zbx xs.1 xs.2.1}
theorem Ztv:okE Z96:=
 ofE (Za J1 (Za Q4 (Za Zci Zg))) Zd Tryz.func217 Tryz.call217 (.seq .leaf (.seq .leaf (.join Z2w (fun v=>Zh0 v.1 v.2.1 v.2.2.1 v.2.2.2.1) .leaf .leaf))) ⟨lf,lf,lf,(fun v=>by kernel_rfl),lf⟩ (hk fun _=>by kernel_rfl)
abbrev Z97:FnB:={f:=155,args:=[.sh (Zq),.sh (.int .i64),.sh (.int .i64)],res:= .shr [Zq,.bool],F:=fun xs=>Zne xs.1 xs.2.1 xs.2.2.1}
theorem Z7z:okB Z97:=
 ofB [] (Za Qy (Za Xa (Za Jy (Za Ztv Zg)))) (Zx Zgm Zd) Tryz.func155 Tryz.call155 (.seq .leaf (.seq .leaf (.seq .leaf (.seq (.seq .leaf (.cond (.seq .leaf (.frz [(6,.u false)])) .leaf)) (.seq .leaf (.seq (.seq .leaf (.cond (.seq .leaf (.frz [(6,.u false)])) .leaf)) (.seq .leaf (.seq .leaf (.seq (.frz [(8,.u false),(9,.u false)]) .leaf))))))))) ⟨lf,lf,lf,⟨lf,⟨lf,trivial⟩,lf⟩,lf,⟨lf,⟨lf,trivial⟩,lf⟩,lf,lf,trivial,lf⟩ (hk fun _=>by kernel_rfl)
abbrev Qtb:FnE:={f:=256,args:=[.str,.int .u8],res:=[.slice 9 (.str)],F:=fun xs=>Zww xs.1 xs.2.1}
theorem Qrw:okE Qtb:=
 ofE Zg Zd Tryz.func256 Tryz.call256 (.seq .leaf (.seq .leaf (.seq .leaf (.seq (.seq .leaf (.block (.loop Qj2 (fun N v=>Zi1 N v.1 v.2.1 v.2.2.1 v.2.2.2.1 v.2.2.2.2.1) (fun v=>Zns v.1 v.2.1 v.2.2.1 v.2.2.2.1 v.2.2.2.2.1) (fun K1=>(.seq .leaf (.join Qj1 (fun v=>Zmo K1 v.1 v.2.1 v.2.2.1 v.2.2.2.1 v.2.2.2.2.1) .leaf .leaf)))))) .leaf)))) ⟨lf,lf,lf,⟨lf,fun _=>rfl,fun N=>⟨(fun v=>by kernel_rfl),lf,lf,(fun v=>by kernel_rfl),lf⟩⟩,lf⟩ (hk fun _=>by kernel_rfl)
abbrev Qp7:FnE:={f:=257,args:=[.str],res:=[.str],F:=fun xs=>Zub xs.1}
theorem Qnk:okE Qp7:=
 ofE Zg Zd Tryz.func257 Tryz.call257 (.seq .leaf (.seq (.block (.loop Qf2 (fun N v=>Zkf N v.1) (fun v=>Zmp v.1) (fun K1=> .leaf))) (.seq (.block (.loop Qf3 (fun N v=>Zkg N v.1) (fun v=>Zmq v.1) (fun K2=> .leaf))) .leaf))) ⟨lf,⟨fun _=>rfl,fun N=>⟨(fun v=>by kernel_rfl),lf⟩⟩,⟨fun _=>rfl,fun N=>⟨(fun v=>by kernel_rfl),lf⟩⟩,lf⟩ (hk fun _=>by kernel_rfl)
abbrev Z3p:FnE:={f:=218,args:=[Jv,.str],res:=[Jv],F:=fun xs=>Zbv xs.1 xs.2.1}
theorem Z2e:okE Z3p:=
 ofE (Za Zpb (Za Zpk (Za Qrw (Za Qnk Zg)))) Zd Tryz.func218 Tryz.call218 (.seq .leaf (.join Zzg (fun v=>Jb v.1 v.2.1 v.2.2.1) .leaf (.seq .leaf (.seq (.seq .leaf (.block (.loop Zzi (fun N v=>Q7 N v.1 v.2.1 v.2.2.1 v.2.2.2.1) (fun v=>Zfw v.1 v.2.1 v.2.2.1 v.2.2.2.1) (fun K1=>(.seq .leaf (.join Zzh (fun v=>X9 K1 v.1 v.2.1 v.2.2.1 v.2.2.2.1) .leaf .leaf)))))) .leaf)))) ⟨lf,lf,(fun v=>by kernel_rfl),lf,⟨lf,fun _=>rfl,fun N=>⟨(fun v=>by kernel_rfl),lf,lf,(fun v=>by kernel_rfl),lf⟩⟩,lf⟩ (hk fun _=>by kernel_rfl)
abbrev Z99:FnE:={f:=156,args:=[Zq,.int .i64,.str],res:=[Zq,.bool],F:=fun xs=>Znf xs.1 xs.2.1 xs.2.2.1}
theorem Z71:okE Z99:=
 ofE (Za Qy (Za Xa (Za Jy (Za Z2e (Za Yl Zg))))) Zd Tryz.func156 Tryz.call156 .leaf lf (hk fun _=>by kernel_rfl)
abbrev Qhl:FnE:={f:=132,args:=[Ks],res:=[.bool],F:=fun xs=>W2 xs.1}
theorem Zqh:okE Qhl:=
 ofE (Za Zio Zg) Zd Tryz.func132 Tryz.call132 .leaf lf (hk fun _=>by kernel_rfl)
abbrev Z93:FnE:={f:=133,args:=[Ks,.int .i64,.int .i64],res:=[Ks,.bool],F:=fun xs=>Wb xs.1 xs.2.1 xs.2.2.1}
theorem Ztu:okE Z93:=
 ofE (Za Zqh (Za Ym Zg)) Zd Tryz.func133 Tryz.call133 (.seq .leaf (.seq .leaf (.join Z2q (fun v=>Zhx v.1 v.2.1 v.2.2.1) .leaf .leaf))) ⟨lf,lf,lf,(fun v=>by kernel_rfl),lf⟩ (hk fun _=>by kernel_rfl)
abbrev Qm7:FnE:={f:=72,args:=[Zq],res:=[Ks,.bool],F:=fun xs=>Zk1 xs.1}
theorem Zyv:okE Qm7:=
 ofE (Za Zqh (Za Ztu Zg)) Zd Tryz.func72 Tryz.call72 .leaf lf (hk fun _=>by kernel_rfl)
abbrev Qhk:FnE:={f:=134,args:=[Q5],res:=[.bool],F:=fun xs=>Zcq xs.1}
theorem Zwl:okE Qhk:=
 ofE (Za Zon Zg) Zd Tryz.func134 Tryz.call134 .leaf lf (hk fun _=>by kernel_rfl)
abbrev Qd3:FnE:={f:=135,args:=[Q5],res:=[Q5,.bool],F:=fun xs=>Zdv xs.1}
theorem Qbj:okE Qd3:=
 ofE (Za Zwl Zg) Zd Tryz.func135 Tryz.call135 .leaf lf (hk fun _=>by kernel_rfl)
abbrev Qm5:FnE:={f:=73,args:=[Q5,.bool],res:=[Q5,.bool],F:=fun xs=>Zcc xs.1 xs.2.1}
theorem Zyu:okE Qm5:=
 ofE (Za Zwl (Za Qbj Zg)) Zd Tryz.func73 Tryz.call73 .leaf lf (hk fun _=>by kernel_rfl)
abbrev Qh2:FnE:={f:=136,args:=[Zq,Zy],res:=[Ks,.bool],F:=fun xs=>Zi5 xs.1 xs.2.1}
theorem Zwp:okE Qh2:=
 ofE (Za Zqh (Za Ztu Zg)) Zd Tryz.func136 Tryz.call136 .leaf lf (hk fun _=>by kernel_rfl)
abbrev Qmq:FnE:={f:=75,args:=[Q5],res:=[.bool],F:=fun xs=>Zob xs.1}
theorem Zys:okE Qmq:=
 ofE (Za V1 Zg) Zd Tryz.func75 Tryz.call75 .leaf lf (hk fun _=>by kernel_rfl)
abbrev Qh1:FnE:={f:=74,args:=[Zq,Zy],res:=[.slice 87 (Zu)],F:=fun xs=>Zi4 xs.1 xs.2.1}
theorem Qfi:okE Qh1:=
 ofE (Za Zwp (Za Zys Zg)) Zd Tryz.func74 Tryz.call74 (.seq .leaf (.seq .leaf (.join Z8i (fun v=>W6 v.1 v.2.1 v.2.2.1) .leaf (.join Z8j (fun v=>W7 v.1 v.2.1 v.2.2.1) .leaf (.seq .leaf (.join Z8k (fun v=>Zhc v.1 v.2.1) .leaf .leaf)))))) ⟨lf,lf,lf,(fun v=>by kernel_rfl),lf,(fun v=>by kernel_rfl),lf,lf,(fun v=>by kernel_rfl),lf⟩ (hk fun _=>by kernel_rfl)
abbrev Z3l:FnE:={f:=39,args:=[Zq],res:=[.slice 87 (Zu)],F:=fun xs=>Zbo xs.1}
theorem Z2b:okE Z3l:=
 ofE (Za Jy (Za Zyv (Za Zyu (Za Qfi (Za Zys Zg))))) Zd Tryz.func39 Tryz.call39 (.seq .leaf (.seq .leaf (.seq .leaf (.seq .leaf (.join Zy4 (fun v=>K7 v.1 v.2.1) .leaf (.seq .leaf (.join Zy5 (fun v=>K8 v.1 v.2.1) .leaf (.seq .leaf (.join Zy6 (fun v=>K9 v.1 v.2.1) .leaf (.seq (.seq .leaf (.block (.loop Zy9 (fun N v=>Ja N v.1 v.2.1 v.2.2.1) (fun v=>Wv v.1 v.2.1 v.2.2.1) (fun K1=> .leaf)))) (.join Zy7 (fun v=>Za4 v.1 v.2.1) .leaf (.join Zy8 (fun v=>Za5 v.1 v.2.1) .leaf .leaf)))))))))))) ⟨lf,lf,lf,lf,lf,(fun v=>by kernel_rfl),lf,lf,(fun v=>by kernel_rfl),lf,lf,(fun v=>by kernel_rfl),⟨lf,fun _=>rfl,fun N=>⟨(fun v=>by kernel_rfl),lf⟩⟩,lf,(fun v=>by kernel_rfl),lf,(fun v=>by kernel_rfl),lf⟩ (hk fun _=>by kernel_rfl)
abbrev Qm0:FnE:={f:=198,args:=[.int .i64],res:=[.int .i64],F:=fun xs=>Zer xs.1}
theorem Zyt:okE Qm0:=
 ofE Zg Zd Tryz.func198 Tryz.call198 .leaf lf (hk fun _=>by kernel_rfl)
abbrev Z9u:FnE:={f:=279,args:=[.int .i64,.int .i64],res:=[.str],F:=fun xs=>Zm7 xs.1 xs.2.1}
theorem Z7q:okE Z9u:=
 ofE (Za Ym Zg) Zd Tryz.func279 Tryz.call279 (.seq .leaf (.seq .leaf (.seq .leaf (.seq (.seq .leaf (.block (.loop Z2f (fun N v=>Y1 N v.1 v.2.1 v.2.2.1 v.2.2.2.1) (fun v=>Zn9 v.1 v.2.1 v.2.2.1 v.2.2.2.1) (fun K1=> .leaf)))) .leaf)))) ⟨lf,lf,lf,⟨lf,fun _=>rfl,fun N=>⟨(fun v=>by kernel_rfl),lf⟩⟩,lf⟩ (hk fun _=>by kernel_rfl)
abbrev Qth:FnE:={f:=241,args:=[.int .i64],res:=[.str],F:=fun xs=>Zhd xs.1}
theorem Zvb:okE Qth:=
 ofE (Za Z7q Zg) Zd Tryz.func241 Tryz.call241 .leaf lf (hk fun _=>by kernel_rfl)
abbrev Qdn:FnE:={f:=199,args:=[.int .i64],res:=[.str],F:=fun xs=>Zgr xs.1}
theorem Qa7:okE Qdn:=
 ofE (Za Zyt (Za Zvb Zg)) Zd Tryz.func199 Tryz.call199 (.seq .leaf (.seq .leaf (.seq .leaf (.seq (.seq .leaf (.block (.loop Z5a (fun N v=>Q1 N v.1 v.2.1 v.2.2.1 v.2.2.2.1) (fun v=>Zdk v.1 v.2.1 v.2.2.1 v.2.2.2.1) (fun K1=>(.seq .leaf (.seq (.block (.seq .leaf (.join Z49 (fun v=>Ys K1 v.1 v.2.1 v.2.2.1 v.2.2.2.1 v.2.2.2.2.1) .leaf .leaf))) .leaf)))))) .leaf)))) ⟨lf,lf,lf,⟨lf,fun _=>rfl,fun N=>⟨(fun v=>by kernel_rfl),lf,⟨lf,lf,(fun v=>by kernel_rfl),lf⟩,lf⟩⟩,lf⟩ (hk fun _=>by kernel_rfl)
abbrev Z9w:FnE:={f:=138,args:=[.slice 3 (.int .i64)],res:=[.str],F:=fun xs=>Xg xs.1}
theorem Z7r:okE Z9w:=
 ofE (Za Zyt (Za Qa7 Zg)) Zd Tryz.func138 Tryz.call138 (.seq .leaf (.seq .leaf (.seq (.seq .leaf (.block (.loop Z2k (fun N v=>Va N v.1 v.2.1 v.2.2.1) (fun v=>Zb6 v.1 v.2.1 v.2.2.1) (fun K1=> .leaf)))) .leaf))) ⟨lf,lf,⟨lf,fun _=>rfl,fun N=>⟨(fun v=>by kernel_rfl),lf⟩⟩,lf⟩ (hk fun _=>by kernel_rfl)
abbrev Z9v:FnE:={f:=76,args:=[Zu],res:=[.str],F:=fun xs=>Zbp xs.1}
theorem Ztt:okE Z9v:=
 ofE (Za Zgl (Za Z7r Zg)) Zd Tryz.func76 Tryz.call76 (.seq .leaf (.seq .leaf (.seq (.seq .leaf (.block (.seq .leaf (.cond .leaf (.seq .leaf (.cond .leaf (.seq .leaf (.cond (.seq .leaf (.join Z2g (fun v=>Zab v.1 v.2.1) .leaf .leaf)) (.join Z2h (fun v=>Yc v.1 v.2.1 v.2.2.1) .leaf (.cond .leaf (.join Z2i (fun v=>Kw v.1 v.2.1) .leaf .leaf))))))))))) (.seq .leaf (.join Z2j (fun v=>Zac v.1 v.2.1) .leaf .leaf))))) ⟨lf,lf,⟨lf,lf,lf,lf,lf,lf,⟨lf,lf,(fun v=>by kernel_rfl),lf⟩,lf,(fun v=>by kernel_rfl),lf,lf,(fun v=>by kernel_rfl),lf⟩,lf,lf,(fun v=>by kernel_rfl),lf⟩ (hk fun _=>by kernel_rfl)
abbrev Qhh:FnE:={f:=40,args:=[Zu],res:=[.int .i64],F:=fun xs=>Zfp xs.1}
theorem Zqf:okE Qhh:=
 ofE (Za Ztt Zg) Zd Tryz.func40 Tryz.call40 .leaf lf (hk fun _=>by kernel_rfl)
abbrev Z6y:FnE:={f:=77,args:=[Q5],res:=[Q5],F:=fun xs=>Zdh xs.1}
theorem Zsz:okE Z6y:=
 ofE (Za V1 Zg) Zd Tryz.func77 Tryz.call77 .leaf lf (hk fun _=>by kernel_rfl)
abbrev Qqj:FnB:={f:=79,args:=[.sh (Zq),.sh (Zy),.sh (.int .i64)],res:= .shr [Zy],F:=fun xs=>Zuf xs.1 xs.2.1 xs.2.2.1}
theorem Qnp:okB Qqj:=
 ofB [] (Za Zwp (Za Zsz Zg)) Zd Tryz.func79 Tryz.call79 .leaf lf (hk fun _=>by kernel_rfl)
abbrev Z90:FnE:={f:=41,args:=[Zq,Zu],res:=[Zq],F:=fun xs=>Znb xs.1 xs.2.1}
theorem Z7v:okE Z90:=
 ofE (Za Qy (Za Wq (Za Zyv (Za Zyu (Za Zsz (Za Xa (Za Yl Zg))))))) (Zx Qnp Zd) Tryz.func41 Tryz.call41 (.seq .leaf (.seq .leaf (.seq .leaf (.seq (.seq .leaf (.block (.seq .leaf (.cond .leaf (.seq .leaf (.cond .leaf (.seq .leaf (.cond .leaf (.seq .leaf (.cond .leaf (.seq .leaf (.seq .leaf (.cond (.frz [(12,.u false)]) .leaf))))))))))))) .leaf)))) ⟨lf,lf,lf,⟨lf,lf,lf,lf,lf,lf,lf,lf,lf,lf,lf,trivial,lf⟩,lf⟩ (hk fun _=>by kernel_rfl)
abbrev Qd9:FnE:={f:=80,args:=[Zq],res:=[.slice 153 (Z7)],F:=fun xs=>Zo2 xs.1}
theorem Qbn:okE Qd9:=
 ofE Zg Zd Tryz.func80 Tryz.call80 (.seq .leaf (.seq .leaf (.seq (.seq .leaf (.block (.loop Z5u (fun N v=>Zby N v.1 v.2.1 v.2.2.1) (fun v=>Zdq v.1 v.2.1 v.2.2.1) (fun K1=>(.seq .leaf (.join Z5t (fun v=>Zjx K1 v.1 v.2.1 v.2.2.1) .leaf .leaf)))))) .leaf))) ⟨lf,lf,⟨lf,fun _=>rfl,fun N=>⟨(fun v=>by kernel_rfl),lf,lf,(fun v=>by kernel_rfl),lf⟩⟩,lf⟩ (hk fun _=>by kernel_rfl)
abbrev Qea:FnE:={f:=81,args:=[.slice 153 (Z7),.int .i64],res:=[.slice 153 (Z7)],F:=fun xs=>Zgu xs.1 xs.2.1}
theorem Qbo:okE Qea:=
 ofE Zg Zd Tryz.func81 Tryz.call81 (.seq .leaf (.seq .leaf (.seq (.seq .leaf (.block (.loop Z5w (fun N v=>Kj N v.1 v.2.1 v.2.2.1 v.2.2.2.1) (fun v=>Wd v.1 v.2.1 v.2.2.1 v.2.2.2.1) (fun K1=>(.seq .leaf (.join Z5v (fun v=>Zbz K1 v.1 v.2.1 v.2.2.1 v.2.2.2.1) .leaf .leaf)))))) .leaf))) ⟨lf,lf,⟨lf,fun _=>rfl,fun N=>⟨(fun v=>by kernel_rfl),lf,lf,(fun v=>by kernel_rfl),lf⟩⟩,lf⟩ (hk fun _=>by kernel_rfl)
abbrev Z3k:FnE:={f:=200,args:=[.slice 153 (Z7)],res:=[.bool],F:=fun xs=>Zjm xs.1}
theorem Z2a:okE Z3k:=
 ofE (Za Q4 (Za Zpb Zg)) Zd Tryz.func200 Tryz.call200 (.seq .leaf (.seq (.seq .leaf (.block (.loop Zy3 (fun N v=>Vf N v.1 v.2.1) (fun v=>Wt v.1 v.2.1) (fun K1=> .leaf)))) .leaf)) ⟨lf,⟨lf,fun _=>rfl,fun N=>⟨(fun v=>by kernel_rfl),lf⟩⟩,lf⟩ (hk fun _=>by kernel_rfl)
abbrev Qdz:FnE:={f:=139,args:=[.slice 153 (Z7)],res:=[.slice 3 (.int .i64)],F:=fun xs=>Zox xs.1}
theorem Qbg:okE Qdz:=
 ofE (Za Z2a Zg) Zd Tryz.func139 Tryz.call139 (.seq .leaf (.seq .leaf (.seq .leaf (.seq (.seq .leaf (.block (.loop Z5k (fun N v=>Js N v.1 v.2.1 v.2.2.1 v.2.2.2.1) (fun v=>Wa v.1 v.2.1 v.2.2.1 v.2.2.2.1) (fun K1=>(.seq .leaf (.join Z5i (fun v=>Zjt K1 v.1 v.2.1 v.2.2.1 v.2.2.2.1) (.block (.join Z5j (fun v=>Zju K1 v.1 v.2.1 v.2.2.1 v.2.2.2.1) .leaf .leaf)) .leaf)))))) .leaf)))) ⟨lf,lf,lf,⟨lf,fun _=>rfl,fun N=>⟨(fun v=>by kernel_rfl),lf,⟨lf,(fun v=>by kernel_rfl),lf⟩,(fun v=>by kernel_rfl),lf⟩⟩,lf⟩ (hk fun _=>by kernel_rfl)
abbrev Qm3:FnE:={f:=140,args:=[.slice 3 (.int .i64),.int .i64],res:=[.int .i64],F:=fun xs=>Zse xs.1 xs.2.1}
theorem Qjh:okE Qm3:=
 ofE Zg Zd Tryz.func140 Tryz.call140 (.seq .leaf (.seq (.seq .leaf (.block (.loop Qcm (fun N v=>Ze7 N v.1 v.2.1 v.2.2.1) (fun v=>Zf8 v.1 v.2.1 v.2.2.1) (fun K1=> .leaf)))) .leaf)) ⟨lf,⟨lf,fun _=>rfl,fun N=>⟨(fun v=>by kernel_rfl),lf⟩⟩,lf⟩ (hk fun _=>by kernel_rfl)
abbrev Qd0:FnE:={f:=82,args:=[.slice 153 (Z7),.int .i64],res:=[.int .i64],F:=fun xs=>Zoy xs.1 xs.2.1}
theorem Qbh:okE Qd0:=
 ofE (Za Qbg (Za Qjh Zg)) Zd Tryz.func82 Tryz.call82 (.seq .leaf (.seq .leaf (.seq .leaf (.seq (.seq .leaf (.block (.loop Z5m (fun N v=>Vv N v.1 v.2.1 v.2.2.1 v.2.2.2.1 v.2.2.2.2.1) (fun v=>Zdn v.1 v.2.1 v.2.2.1 v.2.2.2.1 v.2.2.2.2.1) (fun K1=>(.seq .leaf (.seq (.block (.seq .leaf (.block (.loop Z5n (fun N v=>Vw K1 N v.1 v.2.1 v.2.2.1 v.2.2.2.1 v.2.2.2.2.1 v.2.2.2.2.2.1) (fun v=>Zdo v.1 v.2.1 v.2.2.1 v.2.2.2.1 v.2.2.2.2.1 v.2.2.2.2.2.1) (fun K2=>(.seq .leaf (.join Z5l (fun v=>Zjv K1 K2 v.1 v.2.1 v.2.2.1 v.2.2.2.1 v.2.2.2.2.1 v.2.2.2.2.2.1) .leaf .leaf))))))) .leaf)))))) .leaf)))) ⟨lf,lf,lf,⟨lf,fun _=>rfl,fun N=>⟨(fun v=>by kernel_rfl),lf,⟨lf,fun _=>rfl,fun N=>⟨(fun v=>by kernel_rfl),lf,lf,(fun v=>by kernel_rfl),lf⟩⟩,lf⟩⟩,lf⟩ (hk fun _=>by kernel_rfl)
abbrev Qdk:FnE:={f:=141,args:=[Q5],res:=[.int .i64],F:=fun xs=>Zkb xs.1}
theorem Qa5:okE Qdk:=
 ofE (Za V1 Zg) Zd Tryz.func141 Tryz.call141 .leaf lf (hk fun _=>by kernel_rfl)
abbrev Qmw:FnE:={f:=202,args:=[W8,.int .i64,.int .i64],res:=[.str,.bool],F:=fun xs=>Zk0 xs.1 xs.2.1 xs.2.2.1}
theorem Qjc:okE Qmw:=
 ofE (Za Zqg (Za Zvb Zg)) Zd Tryz.func202 Tryz.call202 (.seq .leaf (.seq .leaf (.seq .leaf (.seq (.seq .leaf (.block (.loop Qci (fun N v=>Ziy N v.1 v.2.1 v.2.2.1 v.2.2.2.1 v.2.2.2.2.1) (fun v=>Zlf v.1 v.2.1 v.2.2.1 v.2.2.2.1 v.2.2.2.2.1) (fun K1=> .leaf)))) .leaf)))) ⟨lf,lf,lf,⟨lf,fun _=>rfl,fun N=>⟨(fun v=>by kernel_rfl),lf⟩⟩,lf⟩ (hk fun _=>by kernel_rfl)
abbrev Qhq:FnE:={f:=142,args:=[Z0,.int .i64,.int .i64],res:=[Y9,.bool],F:=fun xs=>Zqw xs.1 xs.2.1 xs.2.2.1}
theorem Qe9:okE Qhq:=
 ofE (Za J1 (Za Qjc Zg)) Zd Tryz.func142 Tryz.call142 (.seq .leaf (.seq .leaf (.seq .leaf (.seq (.seq .leaf (.cond (.seq .leaf (.seq .leaf (.seq .leaf (.join Z79 (fun v=>Zha v.1 v.2.1 v.2.2.1 v.2.2.2.1 v.2.2.2.2.1) .leaf .leaf)))) .leaf)) .leaf)))) ⟨lf,lf,lf,⟨lf,⟨lf,lf,lf,lf,(fun v=>by kernel_rfl),lf⟩,lf⟩,lf⟩ (hk fun _=>by kernel_rfl)
abbrev Qd2:FnE:={f:=86,args:=[.int .i64,Y9],res:=[Zu],F:=fun xs=>Zkd xs.1 xs.2.1}
theorem Zu8:okE Qd2:=
 ofE Zg Zd Tryz.func86 Tryz.call86 .leaf lf (hk fun _=>by kernel_rfl)
abbrev Qmx:FnE:={f:=83,args:=[Zq,.int .i64,.int .i64],res:=[Y9,.bool],F:=fun xs=>Zsc xs.1 xs.2.1 xs.2.2.1}
theorem Qjd:okE Qmx:=
 ofE (Za Xa (Za Wq (Za Qa5 (Za Qe9 (Za Zu8 (Za Zqf Zg)))))) Zd Tryz.func83 Tryz.call83 (.seq .leaf (.seq .leaf (.seq .leaf (.seq .leaf (.seq (.seq .leaf (.block (.loop Qcj (fun N v=>Ze4 N v.1 v.2.1 v.2.2.1 v.2.2.2.1 v.2.2.2.2.1 v.2.2.2.2.2.1) (fun v=>Zlg v.1 v.2.1 v.2.2.1 v.2.2.2.1 v.2.2.2.2.1 v.2.2.2.2.2.1) (fun K1=> .leaf)))) .leaf))))) ⟨lf,lf,lf,lf,⟨lf,fun _=>rfl,fun N=>⟨(fun v=>by kernel_rfl),lf⟩⟩,lf⟩ (hk fun _=>by kernel_rfl)
abbrev Z92:FnE:={f:=143,args:=[Q5],res:=[Q5],F:=fun xs=>Ze3 xs.1}
theorem Z7x:okE Z92:=
 ofE (Za V1 Zg) Zd Tryz.func143 Tryz.call143 .leaf lf (hk fun _=>by kernel_rfl)
abbrev Qm6:FnB:={f:=84,args:=[.bx 37 (Zq) (.u true),.sh (.int .i64)],res:= .vals [],F:=fun xs=>Zsg xs.1 xs.2.1}
theorem Qjj:okB Qm6:=
 ofB [0] (Za Xa (Za Z7x (Za Yl Zg))) Zd Tryz.func84 Tryz.call84 .leaf lf (hk fun _=>by kernel_rfl)
abbrev Qqr:FnE:={f:=203,args:=[Z0,Y9],res:=[.bool],F:=fun xs=>Zni xs.1 xs.2.1}
theorem Zti:okE Qqr:=
 ofE Zg Zd Tryz.func203 Tryz.call203 .leaf lf (hk fun _=>by kernel_rfl)
abbrev Qqs:FnE:={f:=204,args:=[Y9],res:=[Zt],F:=fun xs=>Zjz xs.1}
theorem Ztj:okE Qqs:=
 ofE Zg Zd Tryz.func204 Tryz.call204 .leaf lf (hk fun _=>by kernel_rfl)
abbrev Z6z:FnE:={f:=205,args:=[.slice 200 (Zt),.slice 200 (Zt)],res:=[.slice 200 (Zt)],F:=fun xs=>Wu xs.1 xs.2.1}
theorem Zmf:okE Z6z:=
 ofE (Za Zez Zg) Zd Tryz.func205 Tryz.call205 (.seq .leaf (.seq .leaf (.seq (.seq .leaf (.block (.loop Z0u (fun N v=>Jq N v.1 v.2.1 v.2.2.1 v.2.2.2.1) (fun v=>Zau v.1 v.2.1 v.2.2.1 v.2.2.2.1) (fun K1=>(.seq .leaf (.seq (.block (.seq .leaf (.block (.loop Z0v (fun N v=>V6 K1 N v.1 v.2.1 v.2.2.1 v.2.2.2.1 v.2.2.2.2.1) (fun v=>Zav v.1 v.2.1 v.2.2.1 v.2.2.2.1 v.2.2.2.2.1) (fun K2=>(.seq .leaf (.join Z0s (fun v=>Zg8 K1 K2 v.1 v.2.1 v.2.2.1 v.2.2.2.1 v.2.2.2.2.1) (.block (.join Z0t (fun v=>Zml K1 K2 v.1 v.2.1 v.2.2.1 v.2.2.2.1 v.2.2.2.2.1 v.2.2.2.2.2.1) .leaf .leaf)) .leaf))))))) .leaf)))))) .leaf))) ⟨lf,lf,⟨lf,fun _=>rfl,fun N=>⟨(fun v=>by kernel_rfl),lf,⟨lf,fun _=>rfl,fun N=>⟨(fun v=>by kernel_rfl),lf,⟨lf,(fun v=>by kernel_rfl),lf⟩,(fun v=>by kernel_rfl),lf⟩⟩,lf⟩⟩,lf⟩ (hk fun _=>by kernel_rfl)
abbrev Z95:FnE:={f:=206,args:=[.slice 200 (Zt),Zt],res:=[.slice 200 (Zt)],F:=fun xs=>Ze5 xs.1 xs.2.1}
theorem Zno:okE Z95:=
 ofE (Za Zez (Za Zvd (Za Zvc Zg))) Zd Tryz.func206 Tryz.call206 (.seq .leaf (.seq .leaf (.seq .leaf (.seq (.seq .leaf (.block (.loop Z2v (fun N v=>Ky N v.1 v.2.1 v.2.2.1 v.2.2.2.1) (fun v=>Zcb v.1 v.2.1 v.2.2.1 v.2.2.2.1) (fun K1=>(.seq .leaf (.join Z2t (fun v=>Zhz K1 v.1 v.2.1 v.2.2.1 v.2.2.2.1) (.block (.join Z2u (fun v=>Zea K1 v.1 v.2.1 v.2.2.1 v.2.2.2.1) .leaf .leaf)) .leaf)))))) .leaf)))) ⟨lf,lf,lf,⟨lf,fun _=>rfl,fun N=>⟨(fun v=>by kernel_rfl),lf,⟨lf,(fun v=>by kernel_rfl),lf⟩,(fun v=>by kernel_rfl),lf⟩⟩,lf⟩ (hk fun _=>by kernel_rfl)
abbrev Qhu:FnE:={f:=144,args:=[Z0,Y9],res:=[Z0,.bool],F:=fun xs=>Ziz xs.1 xs.2.1}
theorem Qfc:okE Qhu:=
 ofE (Za Zci (Za J1 (Za Zti (Za Ztj (Za Zmf (Za Zno (Za Zey (Za Zop Zg)))))))) Zd Tryz.func144 Tryz.call144 (.seq .leaf (.seq .leaf (.seq .leaf (.join Z8d (fun v=>W4 v.1 v.2.1 v.2.2.1) .leaf (.join Z8e (fun v=>Zdp v.1 v.2.1) .leaf .leaf))))) ⟨lf,lf,lf,lf,(fun v=>by kernel_rfl),lf,(fun v=>by kernel_rfl),lf⟩ (hk fun _=>by kernel_rfl)
abbrev Qhx:FnE:={f:=145,args:=[Q5,.int .i64],res:=[Q5,.bool],F:=fun xs=>Zfz xs.1 xs.2.1}
theorem Qff:okE Qhx:=
 ofE (Za V1 Zg) Zd Tryz.func145 Tryz.call145 .leaf lf (hk fun _=>by kernel_rfl)
abbrev Qhj:FnE:={f:=85,args:=[Zq,.int .i64,Y9],res:=[Zq,.bool],F:=fun xs=>Zmm xs.1 xs.2.1 xs.2.2.1}
theorem Qe7:okE Qhj:=
 ofE (Za Qy (Za Xa (Za Wq (Za Qfc (Za Qff (Za Yl Zg)))))) Zd Tryz.func85 Tryz.call85 .leaf lf (hk fun _=>by kernel_rfl)
abbrev Qqk:FnB:={f:=42,args:=[.bx 37 (Zq) (.u true),.mv (.slice 87 (Zu)),.sh (.int .i64)],res:= .vals [.slice 87 (Zu)],F:=fun xs=>Zug xs.1 xs.2.1 xs.2.2.1}
theorem Qnq:okB Qqk:=
 ofB [0] (Za Qbn (Za Qbo (Za Qbh (Za Qjd (Za Qe7 (Za Zu8 (Za Zqf Zg))))))) (Zx Qjj Zd) Tryz.func42 Tryz.call42 (.seq .leaf (.seq .leaf (.seq (.seq .leaf (.block (.loop Qga (fun N v=>Zdy N v.1 v.2.1 v.2.2.1 v.2.2.2.1 v.2.2.2.2.1) (fun v=>Zmu v.1 v.2.1 v.2.2.1 v.2.2.2.1 v.2.2.2.2.1) (fun K1=>(.seq .leaf (.join Qf8 (fun v=>Zkj K1 v.1 v.2.1 v.2.2.1 v.2.2.2.1 v.2.2.2.2.1) (.block (.seq .leaf (.seq (.seq .leaf (.block (.loop Qgb (fun N v=>Zkk K1 N v.1 v.2.1 v.2.2.1 v.2.2.2.1 v.2.2.2.2.1 v.2.2.2.2.2.1 v.2.2.2.2.2.2.1) (fun v=>Zmv v.1 v.2.1 v.2.2.1 v.2.2.2.1 v.2.2.2.2.1 v.2.2.2.2.2.1 v.2.2.2.2.2.2.1) (fun K2=> .leaf)))) (.seq .leaf (.seq .leaf (.seq .leaf (.seq .leaf (.join Qf9 (fun v=>Kq K1 v.1 v.2.1 v.2.2.1 v.2.2.2.1 v.2.2.2.2.1 v.2.2.2.2.2.1 v.2.2.2.2.2.2.1 v.2.2.2.2.2.2.2.1 v.2.2.2.2.2.2.2.2.1) .leaf .leaf)))))))) .leaf)))))) .leaf))) ⟨lf,lf,⟨lf,fun _=>rfl,fun N=>⟨(fun v=>by kernel_rfl),lf,⟨lf,⟨lf,fun _=>rfl,fun N=>⟨(fun v=>by kernel_rfl),lf⟩⟩,lf,lf,lf,lf,lf,(fun v=>by kernel_rfl),lf⟩,(fun v=>by kernel_rfl),lf⟩⟩,lf⟩ (hk fun _=>by kernel_rfl)
abbrev Z3m:FnE:={f:=43,args:=[.slice 87 (Zu)],res:=[.str],F:=fun xs=>Zjo xs.1}
theorem Z2c:okE Z3m:=
 ofE (Za Ztt Zg) Zd Tryz.func43 Tryz.call43 (.seq .leaf (.seq .leaf (.seq (.seq .leaf (.block (.loop Zzb (fun N v=>Za6 N v.1 v.2.1 v.2.2.1) (fun v=>Zfo v.1 v.2.1 v.2.2.1) (fun K1=> .leaf)))) .leaf))) ⟨lf,lf,⟨lf,fun _=>rfl,fun N=>⟨(fun v=>by kernel_rfl),lf⟩⟩,lf⟩ (hk fun _=>by kernel_rfl)
abbrev Qdm:FnB:={f:=21,args:=[.sh (Zq),.sh (.int .i64)],res:= .shr [.str,.int .i64,Zq],F:=fun xs=>Zak xs.1 xs.2.1}
theorem Zjj:okB Qdm:=
 ofB [] (Za Qy (Za Jy (Za Ym (Za Z2b (Za Zqf (Za Z7v (Za Z2c Zg))))))) (Zx Qnq Zd) Tryz.func21 Tryz.call21 (.seq .leaf (.seq .leaf (.seq (.seq .leaf (.cond (.seq .leaf (.frz [(6,.u false)])) .leaf)) (.seq .leaf (.seq .leaf (.seq .leaf (.seq (.seq .leaf (.block (.loop Z48 (fun N v=>Yr N v.1 v.2.1 v.2.2.1 v.2.2.2.1 v.2.2.2.2.1 v.2.2.2.2.2.1 v.2.2.2.2.2.2.1) (fun v=>Zdj v.1 v.2.1 v.2.2.1 v.2.2.2.1 v.2.2.2.2.1 v.2.2.2.2.2.1 v.2.2.2.2.2.2.1) (fun K1=>(.seq .leaf (.join Z47 (fun v=>Zjn K1 v.1 v.2.1 v.2.2.1 v.2.2.2.1 v.2.2.2.2.1 v.2.2.2.2.2.1 v.2.2.2.2.2.2.1) .leaf .leaf)))))) (.seq .leaf (.seq (.seq .leaf (.cond (.seq .leaf (.frz [(6,.u false)])) .leaf)) (.seq (.frz [(8,.u false)]) (.seq .leaf (.seq .leaf (.frz [(6,.u false)]))))))))))))) ⟨lf,lf,⟨lf,⟨lf,trivial⟩,lf⟩,lf,lf,lf,⟨lf,fun _=>rfl,fun N=>⟨(fun v=>by kernel_rfl),lf,lf,(fun v=>by kernel_rfl),lf⟩⟩,lf,⟨lf,⟨lf,trivial⟩,lf⟩,trivial,lf,lf,trivial⟩ (hk fun _=>by kernel_rfl)
abbrev Qh0:FnB:={f:=29,args:=[.bx 100 (W9) (.u false),.sh (.slice 3 (.int .i64))],res:= .vals [.int .i64],F:=fun xs=>Jt xs.1 xs.2.1}
theorem Zlq:okB Qh0:=
 ofB [0] Zg (Zx Yi Zd) Tryz.func29 Tryz.call29 .leaf lf (hk fun _=>by kernel_rfl)
abbrev Qqo:FnB:={f:=46,args:=[.bx 100 (W9) (.u false)],res:= .vals [Zu],F:=fun xs=>Zjy xs.1}
theorem Z1l:okB Qqo:=
 ofB [0] (Za Z4s Zg) (Zx Zlq (Zx Yi (Zx Z4r (Zx Zqi Zd)))) Tryz.func46 Tryz.call46 .leaf lf (hk fun _=>by kernel_rfl)
abbrev Qpy:FnE:={f:=287,args:=[.int .i64],res:=[.int .i64],F:=fun xs=>Zjp xs.1}
theorem Qng:okE Qpy:=
 ofE (Za Q4 Zg) Zd Tryz.func287 Tryz.call287 .leaf lf (hk fun _=>by kernel_rfl)
abbrev Qmz:FnE:={f:=286,args:=[Q5,.int .i64],res:=[Q5,.int .i64,.bool],F:=fun xs=>Zeq xs.1 xs.2.1}
theorem Qjf:okE Qmz:=
 ofE (Za Zon Zg) Zd Tryz.func286 Tryz.call286 .leaf lf (hk fun _=>by kernel_rfl)
abbrev Qqb:FnB:={f:=288,args:=[.bx 37 (Zq) (.u true),.sh (.int .i64),.sh (.int .i64)],res:= .vals [],F:=fun xs=>Zuc xs.1 xs.2.1 xs.2.2.1}
theorem Qnm:okB Qqb:=
 ofB [0] (Za Zwn (Za Yl Zg)) Zd Tryz.func288 Tryz.call288 (.seq .leaf (.block (.loop Qf6 (fun N v=>X5 N v.1 v.2.1 v.2.2.1) (fun v=>Zms v.1 v.2.1 v.2.2.1) (fun K1=>(.seq .leaf (.seq (.block (.join Qf5 (fun v=>Kp K1 v.1 v.2.1 v.2.2.1 v.2.2.2.1) .leaf .leaf)) .leaf)))))) ⟨lf,fun _=>rfl,fun N=>⟨(fun v=>by kernel_rfl),lf,⟨lf,(fun v=>by kernel_rfl),lf⟩,lf⟩⟩ (hk fun _=>by kernel_rfl)
abbrev Z62:FnE:={f:=258,args:=[Zq,.int .i64],res:=[Zq,.int .i64],F:=fun xs=>Ww xs.1 xs.2.1}
theorem Zg4:okE Z62:=
 ofE (Za Qy (Za Wq (Za Q4 (Za Zpa (Za Zr8 (Za Zoo (Za Qng (Za Qjf Zg)))))))) (Zx Qnm Zd) Tryz.func258 Tryz.call258 (.seq .leaf (.seq .leaf (.seq .leaf (.seq .leaf (.seq .leaf (.seq .leaf (.join Z0z (fun v=>Zcn v.1 v.2.1 v.2.2.1 v.2.2.2.1 v.2.2.2.2.1) .leaf (.join Z00 (fun v=>Zs v.1 v.2.1 v.2.2.1 v.2.2.2.1 v.2.2.2.2.1 v.2.2.2.2.2.1 v.2.2.2.2.2.2.1) .leaf (.seq .leaf (.join Z01 (fun v=>Zco v.1 v.2.1 v.2.2.1 v.2.2.2.1) .leaf .leaf)))))))))) ⟨lf,lf,lf,lf,lf,lf,lf,(fun v=>by kernel_rfl),lf,(fun v=>by kernel_rfl),lf,lf,(fun v=>by kernel_rfl),lf⟩ (hk fun _=>by kernel_rfl)
abbrev Qqp:FnE:={f:=289,args:=[Q2,.int .i64,.bool],res:=[.int .i64],F:=fun xs=>Zq4 xs.1 xs.2.1 xs.2.2.1}
theorem Z1m:okE Qqp:=
 ofE Zg Zd Tryz.func289 Tryz.call289 .leaf lf (hk fun _=>by kernel_rfl)
abbrev Z6w:FnE:={f:=302,args:=[Xw],res:=[.slice 200 (Zt)],F:=fun xs=>Zls xs.1}
theorem Z4k:okE Z6w:=
 ofE (Za Zin Zg) Zd Tryz.func302 Tryz.call302 (.seq .leaf (.seq .leaf (.seq (.seq .leaf (.block (.loop Z0r (fun N v=>Kc N v.1 v.2.1 v.2.2.1) (fun v=>Zat v.1 v.2.1 v.2.2.1) (fun K1=> .leaf)))) .leaf))) ⟨lf,lf,⟨lf,fun _=>rfl,fun N=>⟨(fun v=>by kernel_rfl),lf⟩⟩,lf⟩ (hk fun _=>by kernel_rfl)
abbrev Qs4:FnE:={f:=303,args:=[Xw,.int .i64],res:=[.int .i64],F:=fun xs=>Zwu xs.1 xs.2.1}
theorem Qrs:okE Qs4:=
 ofE Zg Zd Tryz.func303 Tryz.call303 (.seq .leaf (.seq (.seq .leaf (.block (.loop Qjx (fun N v=>Zis N v.1 v.2.1 v.2.2.1) (fun v=>Znr v.1 v.2.1 v.2.2.1) (fun K1=> .leaf)))) .leaf)) ⟨lf,⟨lf,fun _=>rfl,fun N=>⟨(fun v=>by kernel_rfl),lf⟩⟩,lf⟩ (hk fun _=>by kernel_rfl)
abbrev Qdr:FnE:={f:=290,args:=[Xw,.int .i64,.str],res:=[Xw],F:=fun xs=>Zot xs.1 xs.2.1 xs.2.2.1}
theorem Qba:okE Qdr:=
 ofE (Za Zin (Za Zve (Za Z4k (Za Zey (Za Qrs (Za Zvb Zg)))))) Zd Tryz.func290 Tryz.call290 (.seq .leaf (.seq .leaf (.seq .leaf (.seq .leaf (.seq .leaf (.seq .leaf (.seq .leaf (.seq (.seq .leaf (.block (.loop Z5e (fun N v=>Zbq N v.1 v.2.1 v.2.2.1 v.2.2.2.1 v.2.2.2.2.1 v.2.2.2.2.2.1 v.2.2.2.2.2.2.1) (fun v=>Zdl v.1 v.2.1 v.2.2.1 v.2.2.2.1 v.2.2.2.2.1 v.2.2.2.2.2.1 v.2.2.2.2.2.2.1) (fun K1=>(.seq .leaf (.seq (.block (.seq .leaf (.seq (.seq .leaf (.block (.loop Z5f (fun N v=>Jr K1 N v.1 v.2.1 v.2.2.1 v.2.2.2.1 v.2.2.2.2.1 v.2.2.2.2.2.1 v.2.2.2.2.2.2.1 v.2.2.2.2.2.2.2.1 v.2.2.2.2.2.2.2.2.1) (fun v=>Zdm v.1 v.2.1 v.2.2.1 v.2.2.2.1 v.2.2.2.2.1 v.2.2.2.2.2.1 v.2.2.2.2.2.2.1 v.2.2.2.2.2.2.2.1 v.2.2.2.2.2.2.2.2.1) (fun K2=>(.seq .leaf (.seq (.block (.seq .leaf (.join Z5d (fun v=>Zfr K1 K2 v.1 v.2.1 v.2.2.1 v.2.2.2.1 v.2.2.2.2.1 v.2.2.2.2.2.1 v.2.2.2.2.2.2.1 v.2.2.2.2.2.2.2.1 v.2.2.2.2.2.2.2.2.1 v.2.2.2.2.2.2.2.2.2.1) .leaf .leaf))) .leaf)))))) .leaf))) .leaf)))))) .leaf)))))))) ⟨lf,lf,lf,lf,lf,lf,lf,⟨lf,fun _=>rfl,fun N=>⟨(fun v=>by kernel_rfl),lf,⟨lf,⟨lf,fun _=>rfl,fun N=>⟨(fun v=>by kernel_rfl),lf,⟨lf,lf,(fun v=>by kernel_rfl),lf⟩,lf⟩⟩,lf⟩,lf⟩⟩,lf⟩ (hk fun _=>by kernel_rfl)
abbrev Z94:FnE:={f:=259,args:=[Q2,.int .i64,.str,.bool],res:=[Q2,.int .i64],F:=fun xs=>Znd xs.1 xs.2.1 xs.2.2.1 xs.2.2.2.1}
theorem Z7y:okE Z94:=
 ofE (Za Zqj (Za Zbk (Za Z1m (Za Qba (Za Zpc Zg))))) Zd Tryz.func259 Tryz.call259 (.seq .leaf (.seq .leaf (.seq .leaf (.seq .leaf (.seq .leaf (.seq .leaf (.seq .leaf (.join Z2r (fun v=>Zd9 v.1 v.2.1 v.2.2.1 v.2.2.2.1 v.2.2.2.2.1) .leaf (.seq .leaf (.join Z2s (fun v=>Zhy v.1 v.2.1) .leaf .leaf)))))))))) ⟨lf,lf,lf,lf,lf,lf,lf,lf,(fun v=>by kernel_rfl),lf,lf,(fun v=>by kernel_rfl),lf⟩ (hk fun _=>by kernel_rfl)
abbrev Qms:FnE:={f:=291,args:=[Q2,.int .i64],res:=[.int .i64],F:=fun xs=>Zsb xs.1 xs.2.1}
theorem Qi9:okE Qms:=
 ofE (Za Zbk (Za Q4 Zg)) Zd Tryz.func291 Tryz.call291 .leaf lf (hk fun _=>by kernel_rfl)
abbrev Qmy:FnE:={f:=292,args:=[Ks,.int .i64],res:=[Ks,.bool],F:=fun xs=>Zhm xs.1 xs.2.1}
theorem Qje:okE Qmy:=
 ofE (Za Zio Zg) Zd Tryz.func292 Tryz.call292 .leaf lf (hk fun _=>by kernel_rfl)
abbrev Qqc:FnB:={f:=260,args:=[.bx 37 (Zq) (.u false),.bx 75 (Zy) (.u false),.sh (.int .i64)],res:= .vals [.int .i64],F:=fun xs=>Zq1 xs.1 xs.2.1 xs.2.2.1}
theorem Z1i:okB Qqc:=
 ofB [0,1] (Za Qi9 (Za Qje Zg)) Zd Tryz.func260 Tryz.call260 .leaf lf (hk fun _=>by kernel_rfl)
abbrev Qdp:FnB:={f:=219,args:=[.sh (Zq),.sh (Zu)],res:= .shr [Zq,.int .i64],F:=fun xs=>Zor xs.1 xs.2.1}
theorem Qa8:okB Qdp:=
 ofB [] (Za Wq (Za Zgl (Za Qy (Za Zg3 (Za Zg4 (Za Xa (Za Z7y Zg))))))) (Zx Z1i (Zx Zgm Zd)) Tryz.func219 Tryz.call219 (.seq .leaf (.seq (.seq .leaf (.cond (.seq .leaf (.frz [(4,.u false)])) .leaf)) (.seq (.seq .leaf (.cond (.seq .leaf (.frz [(4,.u false)])) .leaf)) (.seq .leaf (.seq (.seq .leaf (.cond (.seq .leaf (.frz [(4,.u false)])) .leaf)) (.seq .leaf (.seq .leaf (.seq (.frz [(6,.u false),(8,.u false)]) (.seq (.seq .leaf (.cond (.seq .leaf (.frz [(4,.u false)])) .leaf)) (.seq (.seq .leaf (.cond (.seq .leaf (.frz [(4,.u false)])) .leaf)) (.seq .leaf (.seq (.frz [(8,.u false)]) .leaf)))))))))))) ⟨lf,⟨lf,⟨lf,trivial⟩,lf⟩,⟨lf,⟨lf,trivial⟩,lf⟩,lf,⟨lf,⟨lf,trivial⟩,lf⟩,lf,lf,trivial,⟨lf,⟨lf,trivial⟩,lf⟩,⟨lf,⟨lf,trivial⟩,lf⟩,lf,trivial,lf⟩ (hk fun _=>by kernel_rfl)
abbrev Z65:FnE:={f:=261,args:=[Q2,.int .i64,.int .i64],res:=[Q2,.int .i64],F:=fun xs=>Zlw xs.1 xs.2.1 xs.2.2.1}
theorem Z4p:okE Z65:=
 ofE (Za Zqj (Za Zbk (Za Q4 (Za Z1m Zg)))) Zd Tryz.func261 Tryz.call261 .leaf lf (hk fun _=>by kernel_rfl)
abbrev Z9z:FnB:={f:=220,args:=[.sh (Zq),.sh (Zu)],res:= .shr [Zq,.int .i64],F:=fun xs=>Zna xs.1 xs.2.1}
theorem Z7u:okB Z9z:=
 ofB [] (Za Wq (Za Zgl (Za Qy (Za Zg3 (Za Zg4 (Za Xa (Za Z4p Zg))))))) (Zx Z1i (Zx Z1j (Zx Zgm Zd))) Tryz.func220 Tryz.call220 (.seq .leaf (.seq (.seq .leaf (.cond (.seq .leaf (.frz [(4,.u false)])) .leaf)) (.seq (.seq .leaf (.cond (.seq .leaf (.frz [(4,.u false)])) .leaf)) (.seq .leaf (.seq (.seq .leaf (.cond (.seq .leaf (.frz [(4,.u false)])) .leaf)) (.seq .leaf (.seq .leaf (.seq (.frz [(6,.u false),(8,.u false)]) (.seq (.seq .leaf (.cond (.seq .leaf (.frz [(4,.u false)])) .leaf)) (.seq (.seq .leaf (.cond (.seq .leaf (.frz [(4,.u false)])) .leaf)) (.join Z2p (fun v=>Zd8 v.1 v.2.1 v.2.2.1 v.2.2.2.1) .leaf (.seq .leaf (.seq (.frz [(8,.u false)]) .leaf))))))))))))) ⟨lf,⟨lf,⟨lf,trivial⟩,lf⟩,⟨lf,⟨lf,trivial⟩,lf⟩,lf,⟨lf,⟨lf,trivial⟩,lf⟩,lf,lf,trivial,⟨lf,⟨lf,trivial⟩,lf⟩,⟨lf,⟨lf,trivial⟩,lf⟩,lf,(fun v=>by kernel_rfl),lf,trivial,lf⟩ (hk fun _=>by kernel_rfl)
abbrev Qdq:FnB:={f:=221,args:=[.sh (Zq),.sh (Zu)],res:= .shr [Zq,.int .i64],F:=fun xs=>Zos xs.1 xs.2.1}
theorem Qa9:okB Qdq:=
 ofB [] (Za Wq (Za Zgl (Za Qy (Za Zqe (Za Zg4 (Za Xa (Za Ztv Zg))))))) (Zx Zgm Zd) Tryz.func221 Tryz.call221 (.seq .leaf (.seq (.seq .leaf (.cond (.seq .leaf (.frz [(4,.u false)])) .leaf)) (.seq (.seq .leaf (.cond (.seq .leaf (.frz [(4,.u false)])) .leaf)) (.seq .leaf (.seq (.seq .leaf (.cond (.seq .leaf (.frz [(4,.u false)])) .leaf)) (.seq .leaf (.seq .leaf (.join Z5c (fun v=>Zfq v.1 v.2.1 v.2.2.1) .leaf (.seq (.frz [(6,.u false),(8,.u false)]) .leaf))))))))) ⟨lf,⟨lf,⟨lf,trivial⟩,lf⟩,⟨lf,⟨lf,trivial⟩,lf⟩,lf,⟨lf,⟨lf,trivial⟩,lf⟩,lf,lf,lf,(fun v=>by kernel_rfl),trivial,lf⟩ (hk fun _=>by kernel_rfl)
abbrev Qd5:FnE:={f:=262,args:=[Q5,.int .i64],res:=[Q5],F:=fun xs=>Zdx xs.1 xs.2.1}
theorem Zu9:okE Qd5:=
 ofE (Za V1 (Za Q4 Zg)) Zd Tryz.func262 Tryz.call262 .leaf lf (hk fun _=>by kernel_rfl)
abbrev Qd4:FnE:={f:=263,args:=[Zlx,.int .i64],res:=[Zlx],F:=fun xs=>Zdw xs.1 xs.2.1}
theorem Qbk:okE Qd4:=
 ofE (Za Ztf Zg) Zd Tryz.func263 Tryz.call263 .leaf lf (hk fun _=>by kernel_rfl)
abbrev Qm4:FnE:={f:=264,args:=[Zq,Zu],res:=[Zq,.int .i64],F:=fun xs=>Zsf xs.1 xs.2.1}
theorem Qji:okE Qm4:=
 ofE (Za Zqe (Za Zg3 (Za Qy (Za Zg4 (Za Xa (Za Zu9 (Za Yl Zg))))))) Zd Tryz.func264 Tryz.call264 (.seq .leaf (.seq .leaf (.join Qcn (fun v=>Zi3 v.1 v.2.1 v.2.2.1 v.2.2.2.1) .leaf (.seq .leaf (.seq .leaf (.seq .leaf (.join Qco (fun v=>Znh v.1 v.2.1) .leaf .leaf))))))) ⟨lf,lf,lf,(fun v=>by kernel_rfl),lf,lf,lf,lf,(fun v=>by kernel_rfl),lf⟩ (hk fun _=>by kernel_rfl)
abbrev Z9y:FnE:={f:=222,args:=[Zq,Zu],res:=[Zq,.int .i64],F:=fun xs=>Zm9 xs.1 xs.2.1}
theorem Z7t:okE Z9y:=
 ofE (Za Qy (Za Wq (Za Zgl (Za Zu9 (Za Qbk (Za Qji Zg)))))) Zd Tryz.func222 Tryz.call222 (.seq .leaf (.seq .leaf (.seq .leaf (.seq (.seq .leaf (.block (.seq .leaf (.cond .leaf (.seq .leaf (.cond (.join Z2m (fun v=>Zhw v.1 v.2.1) .leaf .leaf) (.join Z2n (fun v=>Zd6 v.1 v.2.1 v.2.2.1 v.2.2.2.1 v.2.2.2.2.1 v.2.2.2.2.2.1) .leaf (.cond .leaf (.join Z2o (fun v=>Zd7 v.1 v.2.1 v.2.2.1 v.2.2.2.1 v.2.2.2.2.1) .leaf .leaf))))))))) .leaf)))) ⟨lf,lf,lf,⟨lf,lf,lf,lf,⟨lf,(fun v=>by kernel_rfl),lf⟩,lf,(fun v=>by kernel_rfl),lf,lf,(fun v=>by kernel_rfl),lf⟩,lf⟩ (hk fun _=>by kernel_rfl)
abbrev Z9x:FnB:={f:=158,args:=[.sh (Zq),.sh (Zu)],res:= .shr [Zq,.int .i64],F:=fun xs=>Zm8 xs.1 xs.2.1}
theorem Z7s:okB Z9x:=
 ofB [] (Za Qy (Za Z7t Zg)) (Zx Qa8 (Zx Z7u (Zx Qa9 Zd))) Tryz.func158 Tryz.call158 (.seq .leaf (.seq .leaf (.seq .leaf (.join Z2l (fun v=>Zad v.1 v.2.1 v.2.2.1) .leaf .leaf)))) ⟨lf,lf,lf,lf,(fun v=>by kernel_rfl),lf⟩ (hk fun _=>by kernel_rfl)
abbrev Qmv:FnE:={f:=22,args:=[Zq,.int .i64],res:=[Yx,.bool],F:=fun xs=>Wi xs.1 xs.2.1}
theorem Zip:okE Qmv:=
 ofE Zg Zd Tryz.func22 Tryz.call22 (.seq .leaf (.seq (.seq .leaf (.block (.loop Qch (fun N v=>Zbw N v.1 v.2.1 v.2.2.1 v.2.2.2.1) (fun v=>Zf7 v.1 v.2.1 v.2.2.1 v.2.2.2.1) (fun K1=> .leaf)))) .leaf)) ⟨lf,⟨lf,fun _=>rfl,fun N=>⟨(fun v=>by kernel_rfl),lf⟩⟩,lf⟩ (hk fun _=>by kernel_rfl)
abbrev Qqm:FnB:={f:=223,args:=[.bx 37 (Zq) (.u false),.sh (.int .i64)],res:= .vals [],F:=fun xs=>Zq3 xs.1 xs.2.1}
theorem Z1k:okB Qqm:=
 ofB [0] Zg Zd Tryz.func223 Tryz.call223 (.seq .leaf (.seq (.seq .leaf (.block (.loop Qgg (fun N v=>Zdz N v.1 v.2.1 v.2.2.1 v.2.2.2.1) (fun v=>Zmw v.1 v.2.1 v.2.2.1 v.2.2.2.1) (fun K1=>(.seq .leaf (.join Qgf (fun v=>Zko K1 v.1 v.2.1 v.2.2.1 v.2.2.2.1) .leaf .leaf)))))) .leaf)) ⟨lf,⟨lf,fun _=>rfl,fun N=>⟨(fun v=>by kernel_rfl),lf,lf,(fun v=>by kernel_rfl),lf⟩⟩,lf⟩ (hk fun _=>by kernel_rfl)
abbrev Qm8:FnE:={f:=266,args:=[Zu],res:=[Y9],F:=fun xs=>Zxk xs.1}
theorem Zyw:okE Qm8:=
 ofE Zg Zd Tryz.func266 Tryz.call266 .leaf lf (hk fun _=>by kernel_rfl)
abbrev Qhi:FnE:={f:=265,args:=[Z0,Y9],res:=[Z0],F:=fun xs=>Ziw xs.1 xs.2.1}
theorem Qe6:okE Qhi:=
 ofE (Za Zci (Za J1 (Za Zti (Za Ztj (Za Zmf (Za Zno (Za Zey (Za Zop Zg)))))))) Zd Tryz.func265 Tryz.call265 (.seq .leaf (.seq .leaf (.seq .leaf (.join Z76 (fun v=>Wy v.1 v.2.1 v.2.2.1 v.2.2.2.1) (.seq .leaf (.cond (.seq .leaf (.seq .leaf (.block (.loop Z78 (fun N v=>W1 N v.1 v.2.1 v.2.2.1 v.2.2.2.1 v.2.2.2.2.1 v.2.2.2.2.2.1) (fun v=>Zjs v.1 v.2.1 v.2.2.1 v.2.2.2.1 v.2.2.2.2.1 v.2.2.2.2.2.1) (fun K1=> .leaf))))) .leaf)) (.join Z77 (fun v=>Wz v.1 v.2.1) .leaf .leaf))))) ⟨lf,lf,lf,⟨lf,⟨lf,lf,fun _=>rfl,fun N=>⟨(fun v=>by kernel_rfl),lf⟩⟩,lf⟩,(fun v=>by kernel_rfl),lf,(fun v=>by kernel_rfl),lf⟩ (hk fun _=>by kernel_rfl)
abbrev Qqn:FnB:={f:=224,args:=[.bx 37 (Zq) (.u false),.sh (Zu)],res:= .vals [],F:=fun xs=>Zui xs.1 xs.2.1}
theorem Qns:okB Qqn:=
 ofB [0] (Za Xa (Za Zlb (Za Zyw (Za Qe6 (Za Yl Zg))))) Zd Tryz.func224 Tryz.call224 (.seq .leaf (.seq .leaf (.join Qgh (fun v=>Kr v.1 v.2.1 v.2.2.1 v.2.2.2.1) .leaf (.seq .leaf (.join Qgi (fun v=>Zan v.1 v.2.1) .leaf .leaf))))) ⟨lf,lf,lf,(fun v=>by kernel_rfl),lf,lf,(fun v=>by kernel_rfl),lf⟩ (hk fun _=>by kernel_rfl)
abbrev Qdy:FnB:={f:=159,args:=[.sh (Zq),.sh (.int .i64)],res:= .shr [Zq,.bool],F:=fun xs=>Zow xs.1 xs.2.1}
theorem Qbf:okB Qdy:=
 ofB [] (Za Qy (Za Zip (Za Jy Zg))) (Zx Z1k (Zx Qns Zd)) Tryz.func159 Tryz.call159 (.seq .leaf (.seq .leaf (.seq .leaf (.seq (.seq .leaf (.cond (.seq .leaf (.frz [(4,.u false)])) .leaf)) (.seq (.frz [(6,.u false)]) (.seq (.seq .leaf (.block (.loop Z5h (fun N v=>Zfu N v.1 v.2.1 v.2.2.1 v.2.2.2.1) (fun v=>Ziv v.1 v.2.1 v.2.2.1 v.2.2.2.1) (fun K1=> .leaf)))) .leaf)))))) ⟨lf,lf,lf,⟨lf,⟨lf,trivial⟩,lf⟩,trivial,⟨lf,fun _=>rfl,fun N=>⟨(fun v=>by kernel_rfl),lf⟩⟩,lf⟩ (hk fun _=>by kernel_rfl)
abbrev Qmg:FnE:={f:=293,args:=[W8,.int .i64],res:=[W8,.bool],F:=fun xs=>Zkw xs.1 xs.2.1}
theorem Qi5:okE Qmg:=
 ofE (Za Zvf (Za Zqg Zg)) Zd Tryz.func293 Tryz.call293 (.seq .leaf (.seq .leaf (.seq .leaf (.seq (.seq .leaf (.block (.loop Qb8 (fun N v=>Zit N v.1 v.2.1 v.2.2.1 v.2.2.2.1 v.2.2.2.2.1) (fun v=>Zf5 v.1 v.2.1 v.2.2.1 v.2.2.2.1 v.2.2.2.2.1) (fun K1=> .leaf)))) .leaf)))) ⟨lf,lf,lf,⟨lf,fun _=>rfl,fun N=>⟨(fun v=>by kernel_rfl),lf⟩⟩,lf⟩ (hk fun _=>by kernel_rfl)
abbrev Qmc:FnE:={f:=267,args:=[Z0,Y9],res:=[Z0],F:=fun xs=>Zku xs.1 xs.2.1}
theorem Qi2:okE Qmc:=
 ofE (Za Zci (Za J1 (Za Zti (Za Ztj (Za Zmf (Za Zno (Za Zey (Za Zyq (Za Qi5 (Za Zop Zg)))))))))) Zd Tryz.func267 Tryz.call267 (.seq .leaf (.seq .leaf (.seq .leaf (.join Qb1 (fun v=>Zbl v.1 v.2.1 v.2.2.1 v.2.2.2.1) (.seq .leaf (.cond (.seq .leaf (.seq .leaf (.block (.loop Qb4 (fun N v=>Zbn N v.1 v.2.1 v.2.2.1 v.2.2.2.1 v.2.2.2.2.1 v.2.2.2.2.2.1) (fun v=>Zlc v.1 v.2.1 v.2.2.1 v.2.2.2.1 v.2.2.2.2.1 v.2.2.2.2.2.1) (fun K1=> .leaf))))) .leaf)) (.join Qb2 (fun v=>Zbm v.1 v.2.1 v.2.2.1) .leaf (.join Qb3 (fun v=>Xl v.1 v.2.1 v.2.2.1) .leaf .leaf)))))) ⟨lf,lf,lf,⟨lf,⟨lf,lf,fun _=>rfl,fun N=>⟨(fun v=>by kernel_rfl),lf⟩⟩,lf⟩,(fun v=>by kernel_rfl),lf,(fun v=>by kernel_rfl),lf,(fun v=>by kernel_rfl),lf⟩ (hk fun _=>by kernel_rfl)
abbrev Qmd:FnE:={f:=268,args:=[Z0],res:=[Z0,.bool],F:=fun xs=>Zkv xs.1}
theorem Qi3:okE Qmd:=
 ofE (Za Zci (Za J1 Zg)) Zd Tryz.func268 Tryz.call268 .leaf lf (hk fun _=>by kernel_rfl)
abbrev Qtg:FnB:={f:=225,args:=[.bx 37 (Zq) (.u false),.sh (Zu)],res:= .vals [],F:=fun xs=>Zwx xs.1 xs.2.1}
theorem Qry:okB Qtg:=
 ofB [0] (Za Xa (Za Zlb (Za Zyw (Za Qi2 (Za Qi3 Zg))))) (Zx Zgm Zd) Tryz.func225 Tryz.call225 (.seq .leaf (.join Qj3 (fun v=>Ju v.1 v.2.1 v.2.2.1 v.2.2.2.1) .leaf (.seq .leaf (.join Qj4 (fun v=>Zcx v.1 v.2.1) .leaf (.frz [(4,.u false)]))))) ⟨lf,lf,(fun v=>by kernel_rfl),lf,lf,(fun v=>by kernel_rfl),trivial⟩ (hk fun _=>by kernel_rfl)
abbrev Qhf:FnB:={f:=160,args:=[.sh (Zq),.sh (.int .i64)],res:= .shr [Zq,.bool],F:=fun xs=>Zqv xs.1 xs.2.1}
theorem Qe5:okB Qhf:=
 ofB [] (Za Qy (Za Zip (Za Jy Zg))) (Zx Z1k (Zx Qry Zd)) Tryz.func160 Tryz.call160 (.seq .leaf (.seq .leaf (.seq .leaf (.seq (.seq .leaf (.cond (.seq .leaf (.frz [(4,.u false)])) .leaf)) (.seq (.frz [(6,.u false)]) (.seq (.seq .leaf (.block (.loop Z75 (fun N v=>Zg7 N v.1 v.2.1 v.2.2.1 v.2.2.2.1) (fun v=>Zjl v.1 v.2.1 v.2.2.1 v.2.2.2.1) (fun K1=> .leaf)))) .leaf)))))) ⟨lf,lf,lf,⟨lf,⟨lf,trivial⟩,lf⟩,trivial,⟨lf,fun _=>rfl,fun N=>⟨(fun v=>by kernel_rfl),lf⟩⟩,lf⟩ (hk fun _=>by kernel_rfl)
abbrev Qql:FnB:={f:=90,args:=[.bx 100 (W9) (.u false),.sh (Zq)],res:= .shr [Zq],F:=fun xs=>Zuh xs.1 xs.2.1}
theorem Qnr:okB Qql:=
 ofB [0] (Za Qbi (Za Z73 (Za Z4n (Za Z71 Zg)))) (Zx Yi (Zx Zqi (Zx Z4r (Zx Qbl (Zx Z7z (Zx Z4q (Zx Zjj (Zx Z1l (Zx Z7s (Zx Qbf (Zx Qe5 Zd))))))))))) Tryz.func90 Tryz.call90 (.seq .leaf (.seq .leaf (.join Qgc (fun v=>Zkl v.1 v.2.1 v.2.2.1 v.2.2.2.1) .leaf (.seq .leaf (.seq (.seq .leaf (.block (.seq .leaf (.cond .leaf (.join Qgd (fun v=>Zkm v.1 v.2.1 v.2.2.1 v.2.2.2.1 v.2.2.2.2.1 v.2.2.2.2.2.1 v.2.2.2.2.2.2.1) .leaf (.cond .leaf (.seq .leaf (.cond .leaf (.seq .leaf (.cond .leaf (.seq .leaf (.cond .leaf (.join Qge (fun v=>Zkn v.1 v.2.1 v.2.2.1 v.2.2.2.1 v.2.2.2.2.1 v.2.2.2.2.2.1) .leaf .leaf))))))))))))) (.seq .leaf (.frz [(4,.u false)]))))))) ⟨lf,lf,lf,(fun v=>by kernel_rfl),lf,⟨lf,lf,lf,lf,(fun v=>by kernel_rfl),lf,lf,lf,lf,lf,lf,lf,lf,(fun v=>by kernel_rfl),lf⟩,lf,trivial⟩ (hk fun _=>by kernel_rfl)
abbrev Qqi:FnB:={f:=45,args:=[.bx 100 (W9) (.u false)],res:= .shr [Zq],F:=fun xs=>Zue xs.1}
theorem Qno:okB Qqi:=
 ofB [0] (Za Qnh Zg) (Zx Zqi (Zx Qnl (Zx Yi (Zx Qnr Zd)))) Tryz.func45 Tryz.call45 (.seq .leaf (.seq .leaf (.seq (.seq .leaf (.block (.loop Qf7 (fun N v=>Zki N v.1 v.2.1 v.2.2.1 v.2.2.2.1) (fun v=>Zmt v.1 v.2.1 v.2.2.1 v.2.2.2.1) (fun K1=>(.seq .leaf (.seq (.block (.frz [(3,.u false)])) .leaf)))))) .leaf))) ⟨lf,lf,⟨lf,fun _=>rfl,fun N=>⟨(fun v=>by kernel_rfl),lf,trivial,lf⟩⟩,lf⟩ (hk fun _=>by kernel_rfl)
abbrev Qtf:FnB:={f:=25,args:=[.bx 100 (W9) (.u false)],res:= .shr [Zq],F:=fun xs=>Zpq xs.1}
theorem Zva:okB Qtf:=
 ofB [0] Zg (Zx Qno (Zx Yi (Zx Zlq Zd))) Tryz.func25 Tryz.call25 .leaf lf (hk fun _=>by kernel_rfl)
abbrev Qm9:FnB:={f:=27,args:=[.bx 100 (W9) (.u false)],res:= .vals [.slice 87 (Zu)],F:=fun xs=>Zoe xs.1}
theorem Zyx:okB Qm9:=
 ofB [0] Zg (Zx Yi (Zx Z1l Zd)) Tryz.func27 Tryz.call27 (.seq .leaf (.seq .leaf (.seq (.seq .leaf (.block (.loop Qcp (fun N v=>Zi7 N v.1 v.2.1 v.2.2.1) (fun v=>Zli v.1 v.2.1 v.2.2.1) (fun K1=> .leaf)))) .leaf))) ⟨lf,lf,⟨lf,fun _=>rfl,fun N=>⟨(fun v=>by kernel_rfl),lf⟩⟩,lf⟩ (hk fun _=>by kernel_rfl)
abbrev Zw6:FnB:={f:=5,args:=[.sh (.slice 5 (.int .u8))],res:= .shr [Zq,.slice 87 (Zu)],F:=fun xs=>Zeh xs.1}
theorem Zvv:okB Zw6:=
 ofB [] (Za Zip Zg) (Zx Zn5 (Zx Zva (Zx Zjj (Zx Zqi (Zx Zyx Zd))))) Tryz.func5 Tryz.call5 (.seq .leaf (.seq .leaf (.seq .leaf (.seq .leaf (.seq .leaf (.seq (.seq .leaf (.cond (.seq .leaf (.frz [(3,.u false)])) .leaf)) (.seq .leaf (.frz [(3,.u false)])))))))) ⟨lf,lf,lf,lf,lf,⟨lf,⟨lf,trivial⟩,lf⟩,lf,trivial⟩ (hk fun _=>by kernel_rfl)
abbrev Zzr:FnE:={f:=6,args:=[.slice 5 (.int .u8)],res:=[.slice 87 (Zu),.int .i64],F:=fun xs=>Zg9 xs.1}
theorem Zyp:okE Zzr:=
 ofE Zg (Zx Zn5 (Zx Zyx (Zx Yi Zd))) Tryz.func6 Tryz.call6 .leaf lf (hk fun _=>by kernel_rfl)
abbrev Z61:FnE:={f:=7,args:=[.slice 5 (.int .u8)],res:=[.slice 3 (.int .i64),.slice 3 (.int .i64)],F:=fun xs=>Zlt xs.1}
theorem Z4m:okE Z61:=
 ofE Zg (Zx Zn5 (Zx Yi Zd)) Tryz.func7 Tryz.call7 (.seq .leaf (.seq .leaf (.seq .leaf (.seq (.seq .leaf (.block (.loop Z0x (fun N v=>Zcl N v.1 v.2.1 v.2.2.1) (fun v=>Zgf v.1 v.2.1 v.2.2.1) (fun K1=> .leaf)))) (.seq .leaf (.seq (.seq .leaf (.block (.loop Z0y (fun N v=>Zcm N v.1 v.2.1 v.2.2.1 v.2.2.2.1) (fun v=>Zgg v.1 v.2.1 v.2.2.1 v.2.2.2.1) (fun K2=> .leaf)))) .leaf)))))) ⟨lf,lf,lf,⟨lf,fun _=>rfl,fun N=>⟨(fun v=>by kernel_rfl),lf⟩⟩,lf,⟨lf,fun _=>rfl,fun N=>⟨(fun v=>by kernel_rfl),lf⟩⟩,lf⟩ (hk fun _=>by kernel_rfl)
abbrev Z1r:FnB:={f:=8,args:=[.sh (.slice 5 (.int .u8))],res:= .shr [Zq,.int .i64,.int .i64],F:=fun xs=>Zhu xs.1}
theorem Z0f:okB Z1r:=
 ofB [] Zg (Zx Zn5 (Zx Zva (Zx Zlq (Zx Yi Zd)))) Tryz.func8 Tryz.call8 .leaf lf (hk fun _=>by kernel_rfl)
abbrev Ql7:FnE:={f:=188,args:=[W8],res:=[W8],F:=fun xs=>Zxc xs.1}
theorem Qiy:okE Ql7:=
 ofE Zg Zd Tryz.func188 Tryz.call188 .leaf lf (hk fun _=>by kernel_rfl)
abbrev Qde:FnE:={f:=189,args:=[.slice 200 (Zt)],res:=[.slice 200 (Zt)],F:=fun xs=>Km xs.1}
theorem Zji:okE Qde:=
 ofE Zg Zd Tryz.func189 Tryz.call189 .leaf lf (hk fun _=>by kernel_rfl)
abbrev Qdf:FnE:={f:=119,args:=[Z0],res:=[Z0],F:=fun xs=>Zj4 xs.1}
theorem Zu2:okE Qdf:=
 ofE (Za Qiy (Za Zji Zg)) Zd Tryz.func119 Tryz.call119 .leaf lf (hk fun _=>by kernel_rfl)
abbrev Qdd:FnE:={f:=190,args:=[Xw],res:=[Xw],F:=fun xs=>Ztb xs.1}
theorem Qa3:okE Qdd:=
 ofE Zg Zd Tryz.func190 Tryz.call190 .leaf lf (hk fun _=>by kernel_rfl)
abbrev Z6v:FnE:={f:=120,args:=[Q2],res:=[Q2],F:=fun xs=>Zp8 xs.1}
theorem Z4h:okE Z6v:=
 ofE (Za Qa3 Zg) Zd Tryz.func120 Tryz.call120 .leaf lf (hk fun _=>by kernel_rfl)
abbrev Qdg:FnE:={f:=65,args:=[Zy],res:=[Zy],F:=fun xs=>Zj5 xs.1}
theorem Zu3:okE Qdg:=
 ofE (Za Zu2 (Za Z4h Zg)) Zd Tryz.func65 Tryz.call65 .leaf lf (hk fun _=>by kernel_rfl)
abbrev Z9q:FnE:={f:=93,args:=[.slice 75 (Zy)],res:=[.slice 75 (Zy)],F:=fun xs=>Zrg xs.1}
theorem Z7m:okE Z9q:=
 ofE (Za Zu3 Zg) Zd Tryz.func93 Tryz.call93 (.seq .leaf (.seq .leaf (.seq (.seq .leaf (.block (.loop Z13 (fun N v=>Zd4 N v.1 v.2.1 v.2.2.1 v.2.2.2.1) (fun v=>Zb3 v.1 v.2.1 v.2.2.1 v.2.2.2.1) (fun K1=> .leaf)))) .leaf))) ⟨lf,lf,⟨lf,fun _=>rfl,fun N=>⟨(fun v=>by kernel_rfl),lf⟩⟩,lf⟩ (hk fun _=>by kernel_rfl)
abbrev Z9p:FnE:={f:=63,args:=[.slice 59 (Yx)],res:=[.slice 59 (Yx)],F:=fun xs=>Zii xs.1}
theorem Zts:okE Z9p:=
 ofE Zg Zd Tryz.func63 Tryz.call63 (.seq .leaf (.seq .leaf (.seq (.seq .leaf (.block (.loop Z12 (fun N v=>Zd3 N v.1 v.2.1 v.2.2.1 v.2.2.2.1) (fun v=>Ku v.1 v.2.1 v.2.2.1 v.2.2.2.1) (fun K1=> .leaf)))) .leaf))) ⟨lf,lf,⟨lf,fun _=>rfl,fun N=>⟨(fun v=>by kernel_rfl),lf⟩⟩,lf⟩ (hk fun _=>by kernel_rfl)
abbrev Zs8:FnE:={f:=48,args:=[Zq],res:=[Zq],F:=fun xs=>Zb2 xs.1}
theorem Zrk:okE Zs8:=
 ofE (Za Z7m (Za Zts Zg)) Zd Tryz.func48 Tryz.call48 .leaf lf (hk fun _=>by kernel_rfl)
abbrev Z8u:FnE:={f:=50,args:=[.int .i64,.int .i64,.int .i64],res:=[.bool],F:=fun xs=>Zz xs.1 xs.2.1 xs.2.2.1}
theorem Qu:okE Z8u:=
 ofE Zg Zd Tryz.func50 Tryz.call50 .leaf lf (hk fun _=>by kernel_rfl)
abbrev Qdi:FnE:={f:=226,args:=[.int .i64],res:=[.bool],F:=fun xs=>Zj6 xs.1}
theorem Zu5:okE Qdi:=
 ofE (Za Qu Zg) Zd Tryz.func226 Tryz.call226 .leaf lf (hk fun _=>by kernel_rfl)
abbrev Qs0:FnE:={f:=162,args:=[Ztq],res:=[.bool],F:=fun xs=>Zsu xs.1}
theorem Qrq:okE Qs0:=
 ofE (Za Zu5 (Za Qu Zg)) Zd Tryz.func162 Tryz.call162 .leaf lf (hk fun _=>by kernel_rfl)
abbrev Qs2:FnE:={f:=87,args:=[.int .i64],res:=[.bool],F:=fun xs=>Xo xs.1}
theorem Vj:okE Qs2:=
 ofE (Za Qu Zg) Zd Tryz.func87 Tryz.call87 .leaf lf (hk fun _=>by kernel_rfl)
abbrev Qlv:FnE:={f:=275,args:=[.int .i64],res:=[.bool],F:=fun xs=>Zw9 xs.1}
theorem Qio:okE Qlv:=
 ofE (Za Qu Zg) Zd Tryz.func275 Tryz.call275 .leaf lf (hk fun _=>by kernel_rfl)
abbrev Zk2:FnE:={f:=298,args:=[.slice 3 (.int .i64),.fnc 275],res:=[.int .i64],F:=fun xs=>Jp xs.1}
theorem Zj8:okE Zk2:=
 ofE (Za Qio Zg) Zd Tryz.func298 Tryz.call298 (.seq .leaf (.seq (.seq .leaf (.block (.loop Zja (fun N v=>Xb N v.1 v.2.1 v.2.2.1 v.2.2.2.1) (fun v=>Xi v.1 v.2.1 v.2.2.1 v.2.2.2.1) (fun K1=> .leaf)))) .leaf)) ⟨lf,⟨lf,fun _=>rfl,fun N=>⟨(fun v=>by kernel_rfl),lf⟩⟩,lf⟩ (hk fun _=>by kernel_rfl)
abbrev Zi9:FnE:={f:=274,args:=[.slice 3 (.int .i64),.fnc 275],res:=[.bool],F:=fun xs=>Kn xs.1}
theorem Zim:okE Zi9:=
 ofE (Za Zj8 Zg) Zd Tryz.func274 Tryz.call274 .leaf lf (hk fun _=>by kernel_rfl)
abbrev Qs1:FnE:={f:=235,args:=[W8],res:=[.bool],F:=fun xs=>Zph xs.1}
theorem Z4f:okE Qs1:=
 ofE (Za Zu5 (Za Zim (Za Vj (Za Qu Zg)))) Zd Tryz.func235 Tryz.call235 .leaf lf (hk fun _=>by kernel_rfl)
abbrev Qpx:FnE:={f:=238,args:=[Zt],res:=[.bool],F:=fun xs=>Zp9 xs.1}
theorem Zte:okE Qpx:=
 ofE Zg Zd Tryz.func238 Tryz.call238 .leaf lf (hk fun _=>by kernel_rfl)
abbrev Qlu:FnE:={f:=237,args:=[.slice 200 (Zt)],res:=[.bool],F:=fun xs=>Kt xs.1}
theorem Zex:okE Qlu:=
 ofE (Za Zte Zg) Zd Tryz.func237 Tryz.call237 (.seq .leaf (.seq (.seq .leaf (.block (.loop Qak (fun N v=>Zic N v.1 v.2.1 v.2.2.1 v.2.2.2.1) (fun v=>Zk6 v.1 v.2.1 v.2.2.1 v.2.2.2.1) (fun K1=> .leaf)))) .leaf)) ⟨lf,⟨lf,fun _=>rfl,fun N=>⟨(fun v=>by kernel_rfl),lf⟩⟩,lf⟩ (hk fun _=>by kernel_rfl)
abbrev Z6s:FnE:={f:=297,args:=[.slice 200 (Zt)],res:=[.int .i64],F:=fun xs=>Wn xs.1}
theorem Z4d:okE Z6s:=
 ofE (Za Zex Zg) Zd Tryz.func297 Tryz.call297 (.seq .leaf (.seq .leaf (.seq .leaf (.seq (.seq .leaf (.block (.loop Zz2 (fun N v=>Zcg N v.1 v.2.1 v.2.2.1 v.2.2.2.1) (fun v=>Zge v.1 v.2.1 v.2.2.1 v.2.2.2.1) (fun K1=> .leaf)))) .leaf)))) ⟨lf,lf,lf,⟨lf,fun _=>rfl,fun N=>⟨(fun v=>by kernel_rfl),lf⟩⟩,lf⟩ (hk fun _=>by kernel_rfl)
abbrev Qlp:FnE:={f:=184,args:=[.slice 200 (Zt),Zt],res:=[.slice 200 (Zt)],F:=fun xs=>Zkq xs.1 xs.2.1}
theorem Zyk:okE Qlp:=
 ofE (Za Zex (Za Zte (Za Zji Zg))) Zd Tryz.func184 Tryz.call184 (.seq .leaf (.seq .leaf (.seq .leaf (.seq (.seq .leaf (.block (.loop Qah (fun N v=>Yh N v.1 v.2.1 v.2.2.1 v.2.2.2.1 v.2.2.2.2.1 v.2.2.2.2.2.1) (fun v=>Zf1 v.1 v.2.1 v.2.2.1 v.2.2.2.1 v.2.2.2.2.1 v.2.2.2.2.2.1) (fun K1=>(.seq .leaf (.seq .leaf (.seq (.block (.seq .leaf (.block (.seq .leaf (.cond .leaf (.seq .leaf (.cond (.join Qag (fun v=>Zh6 K1 v.1 v.2.1 v.2.2.1 v.2.2.2.1 v.2.2.2.2.1 v.2.2.2.2.2.1 v.2.2.2.2.2.2.1) .leaf .leaf) .leaf))))))) .leaf))))))) .leaf)))) ⟨lf,lf,lf,⟨lf,fun _=>rfl,fun N=>⟨(fun v=>by kernel_rfl),lf,lf,⟨lf,lf,lf,lf,⟨lf,(fun v=>by kernel_rfl),lf⟩,lf⟩,lf⟩⟩,lf⟩ (hk fun _=>by kernel_rfl)
abbrev Qdh:FnE:={f:=273,args:=[.slice 200 (Zt),.int .i64],res:=[.bool],F:=fun xs=>Zdt xs.1 xs.2.1}
theorem Zu4:okE Qdh:=
 ofE Zg Zd Tryz.func273 Tryz.call273 .leaf lf (hk fun _=>by kernel_rfl)
abbrev Ql6:FnE:={f:=271,args:=[.slice 200 (Zt),.slice 200 (Zt),.slice 200 (Zt),.int .i64],res:=[.bool],F:=fun xs=>Zr5 xs.1 xs.2.1 xs.2.2.1 xs.2.2.2.1}
theorem Qix:okE Ql6:=
 ofE (Za Z4d (Za Zji (Za Zyk (Za Zu4 Zg)))) Zd Tryz.func271 Tryz.call271 (.seq .leaf (.seq .leaf (.seq .leaf (.seq (.seq .leaf (.block (.loop Qap (fun N v=>Zih N v.1 v.2.1 v.2.2.1 v.2.2.2.1 v.2.2.2.2.1) (fun v=>Zf3 v.1 v.2.1 v.2.2.1 v.2.2.2.1 v.2.2.2.2.1) (fun K1=> .leaf)))) .leaf)))) ⟨lf,lf,lf,⟨lf,fun _=>rfl,fun N=>⟨(fun v=>by kernel_rfl),lf⟩⟩,lf⟩ (hk fun _=>by kernel_rfl)
abbrev Qlq:FnE:={f:=272,args:=[.slice 200 (Zt),.int .i64],res:=[.int .i64],F:=fun xs=>Zry xs.1 xs.2.1}
theorem Qim:okE Qlq:=
 ofE (Za Zex Zg) Zd Tryz.func272 Tryz.call272 (.seq .leaf (.seq .leaf (.seq (.seq .leaf (.block (.loop Qai (fun N v=>Zeu N v.1 v.2.1 v.2.2.1 v.2.2.2.1) (fun v=>Zk5 v.1 v.2.1 v.2.2.1 v.2.2.2.1) (fun K1=> .leaf)))) .leaf))) ⟨lf,lf,⟨lf,fun _=>rfl,fun N=>⟨(fun v=>by kernel_rfl),lf⟩⟩,lf⟩ (hk fun _=>by kernel_rfl)
abbrev Qhd:FnE:={f:=185,args:=[Z0],res:=[.int .i64],F:=fun xs=>Zma xs.1}
theorem Zwk:okE Qhd:=
 ofE Zg Zd Tryz.func185 Tryz.call185 .leaf lf (hk fun _=>by kernel_rfl)
abbrev Qlw:FnE:={f:=234,args:=[Z0],res:=[.bool],F:=fun xs=>Znx xs.1}
theorem Zyl:okE Qlw:=
 ofE (Za Z4f (Za Zex (Za Qu (Za Vj (Za Qix (Za Qim (Za Zu4 (Za Zwk Zg)))))))) Zd Tryz.func234 Tryz.call234 (.seq .leaf (.seq .leaf (.seq .leaf (.seq .leaf (.join Qal (fun v=>Zid v.1 v.2.1) .leaf .leaf))))) ⟨lf,lf,lf,lf,lf,(fun v=>by kernel_rfl),lf⟩ (hk fun _=>by kernel_rfl)
abbrev Qlt:FnE:={f:=44,args:=[Q5],res:=[.bool],F:=fun xs=>Zb0 xs.1}
theorem Zbj:okE Qlt:=
 ofE (Za Vj (Za Qu Zg)) Zd Tryz.func44 Tryz.call44 .leaf lf (hk fun _=>by kernel_rfl)
abbrev Qg4:FnE:={f:=304,args:=[Z06],res:=[.int .i64],F:=fun xs=>Zpz xs.1}
theorem Zwg:okE Qg4:=
 ofE Zg Zd Tryz.func304 Tryz.call304 .leaf lf (hk fun _=>by kernel_rfl)
abbrev Qlr:FnE:={f:=294,args:=[Xw],res:=[.bool],F:=fun xs=>Zkr xs.1}
theorem Zri:okE Qlr:=
 ofE (Za Vj (Za Zwg Zg)) Zd Tryz.func294 Tryz.call294 (.seq .leaf (.seq .leaf (.seq .leaf (.seq (.seq .leaf (.block (.loop Qaj (fun N v=>Zib N v.1 v.2.1 v.2.2.1 v.2.2.2.1) (fun v=>Zf2 v.1 v.2.1 v.2.2.1 v.2.2.2.1) (fun K1=> .leaf)))) .leaf)))) ⟨lf,lf,lf,⟨lf,fun _=>rfl,fun N=>⟨(fun v=>by kernel_rfl),lf⟩⟩,lf⟩ (hk fun _=>by kernel_rfl)
abbrev Qv3:FnE:={f:=295,args:=[Xw],res:=[.int .i64],F:=fun xs=>Zz3 xs.1}
theorem Qtu:okE Qv3:=
 ofE (Za Zri (Za Zwg Zg)) Zd Tryz.func295 Tryz.call295 .leaf lf (hk fun _=>by kernel_rfl)
abbrev Qdb:FnE:={f:=305,args:=[Xw],res:=[.int .i64],F:=fun xs=>Zol xs.1}
theorem Qa1:okE Qdb:=
 ofE (Za Zri Zg) Zd Tryz.func305 Tryz.call305 .leaf lf (hk fun _=>by kernel_rfl)
abbrev Qma:FnE:={f:=296,args:=[Xw],res:=[.int .i64],F:=fun xs=>Zxd xs.1}
theorem Qi0:okE Qma:=
 ofE (Za Qa1 Zg) Zd Tryz.func296 Tryz.call296 .leaf lf (hk fun _=>by kernel_rfl)
abbrev Qda:FnE:={f:=269,args:=[Q2],res:=[.bool],F:=fun xs=>Zoj xs.1}
theorem Qaz:okE Qda:=
 ofE (Za Zri (Za Qtu (Za Vj (Za Qu (Za Qi0 Zg))))) Zd Tryz.func269 Tryz.call269 (.seq .leaf (.seq .leaf (.seq .leaf (.seq (.seq .leaf (.block (.seq .leaf (.cond .leaf (.seq .leaf (.cond .leaf (.seq .leaf (.cond .leaf (.seq .leaf (.cond .leaf (.join Z30 (fun v=>Vr v.1 v.2.1) .leaf .leaf))))))))))) .leaf)))) ⟨lf,lf,lf,⟨lf,lf,lf,lf,lf,lf,lf,lf,lf,lf,(fun v=>by kernel_rfl),lf⟩,lf⟩ (hk fun _=>by kernel_rfl)
abbrev Qly:FnE:={f:=164,args:=[Ks],res:=[.bool],F:=fun xs=>Zny xs.1}
theorem Zrj:okE Qly:=
 ofE (Za Qu Zg) Zd Tryz.func164 Tryz.call164 .leaf lf (hk fun _=>by kernel_rfl)
abbrev Qc9:FnE:={f:=176,args:=[Jv],res:=[.bool],F:=fun xs=>Zj2 xs.1}
theorem Zuz:okE Qc9:=
 ofE (Za Qu Zg) Zd Tryz.func176 Tryz.call176 .leaf lf (hk fun _=>by kernel_rfl)
abbrev Qlx:FnE:={f:=227,args:=[Zy],res:=[.bool],F:=fun xs=>Zrz xs.1}
theorem Qip:okE Qlx:=
 ofE (Za Vj (Za Zyl (Za Zbj (Za Qaz (Za Zrj (Za Zuz Zg)))))) Zd Tryz.func227 Tryz.call227 .leaf lf (hk fun _=>by kernel_rfl)
abbrev Qc5:FnE:={f:=163,args:=[.slice 75 (Zy)],res:=[.bool],F:=fun xs=>Zdr xs.1}
theorem Zo8:okE Qc5:=
 ofE (Za Qip Zg) Zd Tryz.func163 Tryz.call163 (.seq .leaf (.seq (.seq .leaf (.block (.loop Z3t (fun N v=>Vp N v.1 v.2.1 v.2.2.1 v.2.2.2.1) (fun v=>Zc6 v.1 v.2.1 v.2.2.1 v.2.2.2.1) (fun K1=> .leaf)))) .leaf)) ⟨lf,⟨lf,fun _=>rfl,fun N=>⟨(fun v=>by kernel_rfl),lf⟩⟩,lf⟩ (hk fun _=>by kernel_rfl)
abbrev Qpt:FnE:={f:=165,args:=[Zlx],res:=[.bool],F:=fun xs=>Zt2 xs.1}
theorem Qnd:okE Qpt:=
 ofE (Za Qu Zg) Zd Tryz.func165 Tryz.call165 .leaf lf (hk fun _=>by kernel_rfl)
abbrev Qps:FnE:={f:=166,args:=[Q5],res:=[.bool],F:=fun xs=>Zp0 xs.1}
theorem Z1g:okE Qps:=
 ofE (Za Qu Zg) Zd Tryz.func166 Tryz.call166 .leaf lf (hk fun _=>by kernel_rfl)
abbrev Qlz:FnE:={f:=186,args:=[.int .i64],res:=[.str],F:=fun xs=>Zxa xs.1}
theorem Qiq:okE Qlz:=
 ofE Zg Zd Tryz.func186 Tryz.call186 .leaf lf (hk fun _=>by kernel_rfl)
abbrev Zsp:FnE:={f:=101,args:=[Zu],res:=[.bool],F:=fun xs=>Zbg xs.1}
theorem Zrc:okE Zsp:=
 ofE Zg Zd Tryz.func101 Tryz.call101 (.seq .leaf (.seq (.seq .leaf (.block (.join Zyc (fun v=>K6 v.1) .leaf .leaf))) .leaf)) ⟨lf,⟨lf,lf,(fun v=>by kernel_rfl),lf⟩,lf⟩ (hk fun _=>by kernel_rfl)
abbrev Qyb:FnE:={f:=187,args:=[Zu],res:=[Zu],F:=fun xs=>Qh9 xs.1}
theorem Qwz:okE Qyb:=
 ofE (Za Zrc Zg) Zd Tryz.func187 Tryz.call187 (.seq .leaf (.seq .leaf (.join Qq8 (fun v=>Zz5 v.1 v.2.1 v.2.2.1) .leaf (.seq (.seq .leaf (.block (.seq .leaf (.cond .leaf (.seq .leaf (.cond .leaf (.seq .leaf (.cond .leaf (.join Qq9 (fun v=>Zz6 v.1 v.2.1 v.2.2.1 v.2.2.2.1) .leaf .leaf))))))))) .leaf)))) ⟨lf,lf,lf,(fun v=>by kernel_rfl),⟨lf,lf,lf,lf,lf,lf,lf,lf,(fun v=>by kernel_rfl),lf⟩,lf⟩ (hk fun _=>by kernel_rfl)
abbrev Qpu:FnE:={f:=114,args:=[Zu],res:=[.bool],F:=fun xs=>Zmz xs.1}
theorem Ztc:okE Qpu:=
 ofE (Za Qiq (Za Qwz (Za Vj Zg))) Zd Tryz.func114 Tryz.call114 .leaf lf (hk fun _=>by kernel_rfl)
abbrev Z6u:FnE:={f:=229,args:=[Zu],res:=[.bool],F:=fun xs=>Zp7 xs.1}
theorem Z4g:okE Z6u:=
 ofE (Za Ztc Zg) Zd Tryz.func229 Tryz.call229 .leaf lf (hk fun _=>by kernel_rfl)
abbrev Zbc:FnE:={f:=270,args:=[.slice 87 (Zu),.fnc 229],res:=[.int .i64],F:=fun xs=>Xk xs.1}
theorem Za3:okE Zbc:=
 ofE (Za Z4g Zg) Zd Tryz.func270 Tryz.call270 (.seq .leaf (.seq (.seq .leaf (.block (.loop Zaj (fun N v=>Qc N v.1 v.2.1 v.2.2.1 v.2.2.2.1) (fun v=>Q6 v.1 v.2.1 v.2.2.1 v.2.2.2.1) (fun K1=> .leaf)))) .leaf)) ⟨lf,⟨lf,fun _=>rfl,fun N=>⟨(fun v=>by kernel_rfl),lf⟩⟩,lf⟩ (hk fun _=>by kernel_rfl)
abbrev Zag:FnE:={f:=228,args:=[.slice 87 (Zu),.fnc 229],res:=[.bool],F:=fun xs=>Qo xs.1}
theorem Wo:okE Zag:=
 ofE (Za Za3 Zg) Zd Tryz.func228 Tryz.call228 .leaf lf (hk fun _=>by kernel_rfl)
abbrev Qdc:FnE:={f:=167,args:=[.slice 59 (Yx),.int .i64],res:=[.bool],F:=fun xs=>Zta xs.1 xs.2.1}
theorem Qa2:okE Qdc:=
 ofE (Za Qu (Za Wo Zg)) Zd Tryz.func167 Tryz.call167 (.seq .leaf (.seq (.seq .leaf (.block (.loop Z32 (fun N v=>Zfg N v.1 v.2.1 v.2.2.1 v.2.2.2.1 v.2.2.2.2.1) (fun v=>Zig v.1 v.2.1 v.2.2.1 v.2.2.2.1 v.2.2.2.2.1) (fun K1=> .leaf)))) .leaf)) ⟨lf,⟨lf,fun _=>rfl,fun N=>⟨(fun v=>by kernel_rfl),lf⟩⟩,lf⟩ (hk fun _=>by kernel_rfl)
abbrev Z9n:FnE:={f:=231,args:=[Zy],res:=[.int .i64],F:=fun xs=>Zyf xs.1}
theorem Z7k:okE Z9n:=
 ofE Zg Zd Tryz.func231 Tryz.call231 .leaf lf (hk fun _=>by kernel_rfl)
abbrev Zsr:FnE:={f:=230,args:=[.slice 75 (Zy),.fnc 231],res:=[.int .i64],F:=fun xs=>Zeg xs.1}
theorem Zrm:okE Zsr:=
 ofE (Za Zo8 (Za Z7k Zg)) Zd Tryz.func230 Tryz.call230 (.seq .leaf (.seq .leaf (.seq .leaf (.seq (.seq .leaf (.block (.loop Zqb (fun N v=>Y4 N v.1 v.2.1 v.2.2.1 v.2.2.2.1 v.2.2.2.2.1) (fun v=>Xu v.1 v.2.1 v.2.2.1 v.2.2.2.1 v.2.2.2.2.1) (fun K1=> .leaf)))) .leaf)))) ⟨lf,lf,lf,⟨lf,fun _=>rfl,fun N=>⟨(fun v=>by kernel_rfl),lf⟩⟩,lf⟩ (hk fun _=>by kernel_rfl)
abbrev Qhb:FnE:={f:=168,args:=[.slice 75 (Zy)],res:=[.int .i64],F:=fun xs=>Zp6 xs.1}
theorem Qe2:okE Qhb:=
 ofE (Za Zrm Zg) Zd Tryz.func168 Tryz.call168 .leaf lf (hk fun _=>by kernel_rfl)
abbrev Z9m:FnE:={f:=232,args:=[Zy],res:=[.int .i64],F:=fun xs=>Zye xs.1}
theorem Z7j:okE Z9m:=
 ofE Zg Zd Tryz.func232 Tryz.call232 .leaf lf (hk fun _=>by kernel_rfl)
abbrev Zsq:FnE:={f:=230,args:=[.slice 75 (Zy),.fnc 232],res:=[.int .i64],F:=fun xs=>Zef xs.1}
theorem Zrl:okE Zsq:=
 ofE (Za Zo8 (Za Z7j Zg)) Zd Tryz.func230 Tryz.call230 (.seq .leaf (.seq .leaf (.seq .leaf (.seq (.seq .leaf (.block (.loop Zqa (fun N v=>Y3 N v.1 v.2.1 v.2.2.1 v.2.2.2.1 v.2.2.2.2.1) (fun v=>Vi v.1 v.2.1 v.2.2.1 v.2.2.2.1 v.2.2.2.2.1) (fun K1=> .leaf)))) .leaf)))) ⟨lf,lf,lf,⟨lf,fun _=>rfl,fun N=>⟨(fun v=>by kernel_rfl),lf⟩⟩,lf⟩ (hk fun _=>by kernel_rfl)
abbrev Qg9:FnE:={f:=169,args:=[.slice 75 (Zy)],res:=[.int .i64],F:=fun xs=>Zp5 xs.1}
theorem Qe0:okE Qg9:=
 ofE (Za Zrl Zg) Zd Tryz.func169 Tryz.call169 .leaf lf (hk fun _=>by kernel_rfl)
abbrev Z8s:FnE:={f:=94,args:=[Zq],res:=[.bool],F:=fun xs=>Zl5 xs.1}
theorem Zqd:okE Z8s:=
 ofE (Za Qrq (Za Zo8 (Za Zbj (Za Zrj (Za Qnd (Za Z1g (Za Qu (Za Qa2 (Za Qe2 (Za Qe0 Zg)))))))))) Zd Tryz.func94 Tryz.call94 .leaf lf (hk fun _=>by kernel_rfl)
abbrev Qls:FnE:={f:=95,args:=[Zq],res:=[.bool],F:=fun xs=>Z8x xs.1}
theorem Qin:okE Qls:=
 ofE Zg Zd Tryz.func95 Tryz.call95 .leaf lf (hk fun _=>by kernel_rfl)
abbrev Z8t:FnE:={f:=49,args:=[Zq],res:=[.bool],F:=fun xs=>Zsw xs.1}
theorem Z4j:okE Z8t:=
 ofE (Za Zqd (Za Qin Zg)) Zd Tryz.func49 Tryz.call49 .leaf lf (hk fun _=>by kernel_rfl)
abbrev Qg6:FnE:={f:=170,args:=[Ks],res:=[.bool],F:=fun xs=>Zp2 xs.1}
theorem Zwj:okE Qg6:=
 ofE (Za Zrj Zg) Zd Tryz.func170 Tryz.call170 .leaf lf (hk fun _=>by kernel_rfl)
abbrev Zje:FnE:={f:=102,args:=[Ks,.int .i64,.int .i64],res:=[Ks,.bool],F:=fun xs=>Zif xs.1 xs.2.1 xs.2.2.1}
theorem Znn:okE Zje:=
 ofE (Za Zwj (Za Qu Zg)) Zd Tryz.func102 Tryz.call102 (.seq .leaf (.seq .leaf (.join Z1y (fun v=>Znm v.1 v.2.1 v.2.2.1) .leaf .leaf))) ⟨lf,lf,lf,(fun v=>by kernel_rfl),lf⟩ (hk fun _=>by kernel_rfl)
abbrev Zzo:FnE:={f:=96,args:=[Zq,Ks,.bool],res:=[.int .i64,.bool],F:=fun xs=>Zcf xs.1 xs.2.1 xs.2.2.1}
theorem Zpj:okE Zzo:=
 ofE (Za Zwj (Za Znn Zg)) Zd Tryz.func96 Tryz.call96 .leaf lf (hk fun _=>by kernel_rfl)
abbrev Qg5:FnE:={f:=171,args:=[Q5],res:=[.bool],F:=fun xs=>Zl6 xs.1}
theorem Zwi:okE Qg5:=
 ofE (Za Z1g Zg) Zd Tryz.func171 Tryz.call171 .leaf lf (hk fun _=>by kernel_rfl)
abbrev Zv5:FnE:={f:=103,args:=[Q5],res:=[Q5,.bool],F:=fun xs=>Zgj xs.1}
theorem Zu1:okE Zv5:=
 ofE (Za Zwi Zg) Zd Tryz.func103 Tryz.call103 .leaf lf (hk fun _=>by kernel_rfl)
abbrev Qhe:FnE:={f:=97,args:=[Q5,.bool],res:=[.int .i64,.bool],F:=fun xs=>Zmc xs.1 xs.2.1}
theorem Qe4:okE Qhe:=
 ofE (Za Zwi (Za Zu1 Zg)) Zd Tryz.func97 Tryz.call97 .leaf lf (hk fun _=>by kernel_rfl)
abbrev Qv4:FnE:={f:=172,args:=[Q2],res:=[.bool],F:=fun xs=>Qaq xs.1}
theorem Qtv:okE Qv4:=
 ofE Zg Zd Tryz.func172 Tryz.call172 .leaf lf (hk fun _=>by kernel_rfl)
abbrev Ql0:FnE:={f:=99,args:=[Q5],res:=[.bool],F:=fun xs=>Zxb xs.1}
theorem Zym:okE Ql0:=
 ofE (Za Zbj Zg) Zd Tryz.func99 Tryz.call99 .leaf lf (hk fun _=>by kernel_rfl)
abbrev Zw5:FnE:={f:=98,args:=[Zq,Zy],res:=[.slice 87 (Zu)],F:=fun xs=>Zed xs.1 xs.2.1}
theorem Zvu:okE Zw5:=
 ofE (Za Qtv (Za Zpj (Za Zym Zg))) Zd Tryz.func98 Tryz.call98 (.seq .leaf (.seq .leaf (.join Ztz (fun v=>J6 v.1 v.2.1 v.2.2.1) .leaf (.join Zt0 (fun v=>J7 v.1 v.2.1 v.2.2.1) .leaf (.join Zt1 (fun v=>Zas v.1 v.2.1) .leaf .leaf))))) ⟨lf,lf,lf,(fun v=>by kernel_rfl),lf,(fun v=>by kernel_rfl),lf,(fun v=>by kernel_rfl),lf⟩ (hk fun _=>by kernel_rfl)
abbrev Zsn:FnE:={f:=51,args:=[Zq],res:=[.slice 87 (Zu)],F:=fun xs=>Zjg xs.1}
theorem Z15:okE Zsn:=
 ofE (Za Z4j (Za Zpj (Za Qe4 (Za Zvu (Za Zym Zg))))) Zd Tryz.func51 Tryz.call51 (.seq .leaf (.seq .leaf (.seq .leaf (.join Zx5 (fun v=>Zax v.1 v.2.1) .leaf (.join Zx6 (fun v=>Zay v.1 v.2.1) .leaf (.join Zx7 (fun v=>Zaz v.1 v.2.1) .leaf (.seq (.seq .leaf (.block (.loop Zya (fun N v=>Za0 N v.1 v.2.1 v.2.2.1 v.2.2.2.1 v.2.2.2.2.1) (fun v=>Zl4 v.1 v.2.1 v.2.2.1 v.2.2.2.1 v.2.2.2.2.1) (fun K1=> .leaf)))) (.join Zx8 (fun v=>Zk3 v.1 v.2.1) .leaf (.join Zx9 (fun v=>Zk4 v.1 v.2.1) .leaf .leaf))))))))) ⟨lf,lf,lf,lf,(fun v=>by kernel_rfl),lf,(fun v=>by kernel_rfl),lf,(fun v=>by kernel_rfl),⟨lf,fun _=>rfl,fun N=>⟨(fun v=>by kernel_rfl),lf⟩⟩,lf,(fun v=>by kernel_rfl),lf,(fun v=>by kernel_rfl),lf⟩ (hk fun _=>by kernel_rfl)
abbrev Z3g:FnE:={f:=173,args:=[.int .i64],res:=[.str],F:=fun xs=>Yq xs.1}
theorem Z16:okE Z3g:=
 ofE Zg Zd Tryz.func173 Tryz.call173 .leaf lf (hk fun _=>by kernel_rfl)
abbrev Ql3:FnE:={f:=233,args:=[.int .i64],res:=[.int .i64],F:=fun xs=>Zr2 xs.1}
theorem Qiu:okE Ql3:=
 ofE (Za Vj Zg) Zd Tryz.func233 Tryz.call233 .leaf lf (hk fun _=>by kernel_rfl)
abbrev Qc8:FnE:={f:=175,args:=[.int .i64],res:=[.str],F:=fun xs=>Jw xs.1}
theorem Zuy:okE Qc8:=
 ofE (Za Qiu Zg) Zd Tryz.func175 Tryz.call175 (.seq .leaf (.seq .leaf (.seq .leaf (.seq .leaf (.seq (.seq .leaf (.block (.loop Z3z (fun N v=>Zbe N v.1 v.2.1 v.2.2.1 v.2.2.2.1) (fun v=>Zh8 v.1 v.2.1 v.2.2.1 v.2.2.2.1) (fun K1=> .leaf)))) (.join Z3y (fun v=>Zbd v.1) .leaf .leaf)))))) ⟨lf,lf,lf,lf,⟨lf,fun _=>rfl,fun N=>⟨(fun v=>by kernel_rfl),lf⟩⟩,lf,(fun v=>by kernel_rfl),lf⟩ (hk fun _=>by kernel_rfl)
abbrev Z9j:FnE:={f:=174,args:=[.slice 3 (.int .i64)],res:=[.str],F:=fun xs=>Zbf xs.1}
theorem Z7e:okE Z9j:=
 ofE (Za Vj (Za Zuy Zg)) Zd Tryz.func174 Tryz.call174 (.seq .leaf (.seq .leaf (.seq (.seq .leaf (.block (.loop Z1w (fun N v=>Zd1 N v.1 v.2.1 v.2.2.1 v.2.2.2.1) (fun v=>Zhj v.1 v.2.1 v.2.2.1 v.2.2.2.1) (fun K1=> .leaf)))) .leaf))) ⟨lf,lf,⟨lf,fun _=>rfl,fun N=>⟨(fun v=>by kernel_rfl),lf⟩⟩,lf⟩ (hk fun _=>by kernel_rfl)
abbrev Q0p:FnE:={f:=68,args:=[.bool],res:=[.int .i64],F:=fun xs=>Zmb xs.1}
theorem Z4i:okE Q0p:=
 ofE Zg Zd Tryz.func68 Tryz.call68 .leaf lf (hk fun _=>by kernel_rfl)
abbrev Z9i:FnE:={f:=100,args:=[Zu],res:=[.str],F:=fun xs=>Zh7 xs.1}
theorem Ztr:okE Z9i:=
 ofE (Za Ztc (Za Z16 (Za Z7e (Za Z4i (Za Zuy Zg))))) Zd Tryz.func100 Tryz.call100 (.seq .leaf (.seq .leaf (.seq .leaf (.seq (.seq .leaf (.block (.seq .leaf (.cond .leaf (.seq .leaf (.cond .leaf (.seq .leaf (.cond (.seq .leaf (.join Z1t (fun v=>Zd0 v.1 v.2.1) .leaf .leaf)) (.join Z1u (fun v=>Y0 v.1 v.2.1 v.2.2.1 v.2.2.2.1) .leaf (.cond .leaf (.join Z1v (fun v=>J9 v.1 v.2.1 v.2.2.1) .leaf .leaf))))))))))) .leaf)))) ⟨lf,lf,lf,⟨lf,lf,lf,lf,lf,lf,⟨lf,lf,(fun v=>by kernel_rfl),lf⟩,lf,(fun v=>by kernel_rfl),lf,lf,(fun v=>by kernel_rfl),lf⟩,lf⟩ (hk fun _=>by kernel_rfl)
abbrev Zxw:FnE:={f:=52,args:=[Zu],res:=[.int .i64],F:=fun xs=>Zia xs.1}
theorem Zwh:okE Zxw:=
 ofE (Za Ztr Zg) Zd Tryz.func52 Tryz.call52 .leaf lf (hk fun _=>by kernel_rfl)
abbrev Z6t:FnE:={f:=118,args:=[Zy,.sptr 3 (.int .i64)],res:=[.bool],F:=fun xs=>Zv8 xs.1 xs.2.1}
theorem Z4e:okE Z6t:=
 ofE Zg Zd Tryz.func118 Tryz.call118 .leaf lf (hk fun _=>by kernel_rfl)
abbrev Zaq:FnE:={f:=117,args:=[.slice 75 (Zy),.clo 118 (.pair (.sptr 3 (.int .i64)) (.unit))],res:=[.int .i64],F:=fun xs=>Xf xs.1 xs.2.1}
theorem Zai:okE Zaq:=
 ofE (Za Z4e Zg) Zd Tryz.func117 Tryz.call117 (.seq .leaf (.seq (.seq .leaf (.block (.loop Wh (fun N v=>Qb N v.1 v.2.1 v.2.2.1 v.2.2.2.1) (fun v=>Q0 v.1 v.2.1 v.2.2.1 v.2.2.2.1) (fun K1=> .leaf)))) .leaf)) ⟨lf,⟨lf,fun _=>rfl,fun N=>⟨(fun v=>by kernel_rfl),lf⟩⟩,lf⟩ (hk fun _=>by kernel_rfl)
abbrev Zlj:FnE:={f:=64,args:=[.slice 75 (Zy),.int .i64],res:=[.int .i64],F:=fun xs=>Jx xs.1 xs.2.1}
theorem Zfi:okE Zlj:=
 ofE (Za Zai Zg) Zd Tryz.func64 Tryz.call64 .leaf lf (hk fun _=>by kernel_rfl)
abbrev Zho:FnE:={f:=104,args:=[Q5],res:=[Q5],F:=fun xs=>Zlm xs.1}
theorem Zsy:okE Zho:=
 ofE (Za Zbj Zg) Zd Tryz.func104 Tryz.call104 .leaf lf (hk fun _=>by kernel_rfl)
abbrev Zsm:FnB:={f:=105,args:=[.bx 37 (Zq) (.u true),.sh (.bool)],res:= .fp (Zq) 0 [7] [6],F:=fun xs=>Zo6 xs.1 xs.2.1}
theorem Z14:okB Zsm:=
 ofB [0] Zg Zd Tryz.func105 Tryz.call105 .leaf lf (hk fun _=>by kernel_rfl)
abbrev Zqk:Qll:={f:=106,n:=52,np:=3,rv:=Tryz.f106.results.toList,run:=fun ln _ k s=>Zce (Q0g [] ln [Zje,Zho] [] [] []) 52 (Zw3 Tryz.f106) .leaf k s}
theorem Zyg:Z22 Tryz.prog glob Zqk:=Z22.of (C:=Q0g [] [] [Zje,Zho] [] [] []) (fun ln=>Qn0 (ln:=ln) Qeb rfl (Za Znn (Za Zsy Zg)) Zxy Zd Zxz) Tryz.func106 rfl Tryz.call106 (by decide) rfl rfl (fun _ _ _=>rfl)
abbrev Zo4:FnE:={f:=53,args:=[Zq,Zu],res:=[Zq],F:=fun xs=>Zm0 xs.1 xs.2.1}
theorem Z7g:Z21 Tryz.prog glob Zo4:=by
 refine Z21.of (e:=Zo4) (C:=Q0g [Zqk] [] [Zs8,Zlj,Z8s,Zsp,Zje,Zv5,Zho] [] [Zsm] []) (Qn0 (Que Zyg Qeb) rfl (Za Zrk (Za Zfi (Za Zqd (Za Zrc (Za Znn (Za Zu1 (Za Zsy Zg))))))) Zxy (Zx Z14 Zd) Zxz) rfl Tryz.func53 (c:=Zw3 Tryz.f53) rfl Tryz.call53 (by decide)
  ((.seq .leaf (.join Z1x (fun v=>Zhq v.1 v.2.1 v.2.2.1 v.2.2.2.1 v.2.2.2.2.1) .leaf .leaf))) ?_ ?_
 ·exact⟨lf,⟨lf,(fun v=>by kernel_rfl),lf⟩⟩
 ·intro xs r h;refine Eq.trans (Eq.symm ?_) h;kernel_rfl
abbrev Zzp:FnE:={f:=177,args:=[.slice 3 (.int .i64),.int .i64],res:=[.int .i64],F:=fun xs=>Zmj xs.1 xs.2.1}
theorem Zyo:okE Zzp:=
 ofE Zg Zd Tryz.func177 Tryz.call177 (.seq .leaf (.seq (.seq .leaf (.block (.loop Zvw (fun N v=>V3 N v.1 v.2.1 v.2.2.1 v.2.2.2.1) (fun v=>Vn v.1 v.2.1 v.2.2.1 v.2.2.2.1) (fun K1=> .leaf)))) .leaf)) ⟨lf,⟨lf,fun _=>rfl,fun N=>⟨(fun v=>by kernel_rfl),lf⟩⟩,lf⟩ (hk fun _=>by kernel_rfl)
abbrev Zvt:FnE:={f:=110,args:=[.slice 3 (.int .i64),.int .i64],res:=[.bool],F:=fun xs=>Zdg xs.1 xs.2.1}
theorem Zu6:okE Zvt:=
 ofE (Za Zyo Zg) Zd Tryz.func110 Tryz.call110 .leaf lf (hk fun _=>by kernel_rfl)
abbrev Z3j:FnE:={f:=55,args:=[Zq,.slice 3 (.int .i64)],res:=[.slice 153 (Z7)],F:=fun xs=>Zt3 xs.1 xs.2.1}
theorem Qnf:okE Z3j:=
 ofE (Za Qu (Za Zu6 Zg)) Zd Tryz.func55 Tryz.call55 (.seq .leaf (.seq .leaf (.seq (.seq .leaf (.block (.loop Qei (fun N v=>Zgk N v.1 v.2.1 v.2.2.1 v.2.2.2.1 v.2.2.2.2.1) (fun v=>Zgz v.1 v.2.1 v.2.2.1 v.2.2.2.1 v.2.2.2.2.1) (fun K1=> .leaf)))) .leaf))) ⟨lf,lf,⟨lf,fun _=>rfl,fun N=>⟨(fun v=>by kernel_rfl),lf⟩⟩,lf⟩ (hk fun _=>by kernel_rfl)
abbrev Z3f:FnE:={f:=107,args:=[.slice 153 (Z7)],res:=[.bool],F:=fun xs=>Zfb xs.1}
theorem Zrb:okE Z3f:=
 ofE (Za Vj (Za Zuz Zg)) Zd Tryz.func107 Tryz.call107 (.seq .leaf (.seq (.seq .leaf (.block (.loop Zx4 (fun N v=>Ve N v.1 v.2.1 v.2.2.1 v.2.2.2.1) (fun v=>Wm v.1 v.2.1 v.2.2.1 v.2.2.2.1) (fun K1=> .leaf)))) .leaf)) ⟨lf,⟨lf,fun _=>rfl,fun N=>⟨(fun v=>by kernel_rfl),lf⟩⟩,lf⟩ (hk fun _=>by kernel_rfl)
abbrev Qs3:FnE:={f:=108,args:=[.slice 153 (Z7)],res:=[.slice 153 (Z7)],F:=fun xs=>Zv9 xs.1}
theorem Qrr:okE Qs3:=
 ofE Zg Zd Tryz.func108 Tryz.call108 (.seq .leaf (.seq .leaf (.seq (.seq .leaf (.block (.loop Qh7 (fun N v=>Zij N v.1 v.2.1 v.2.2.1 v.2.2.2.1 v.2.2.2.2.1 v.2.2.2.2.2.1) (fun v=>Zhr v.1 v.2.1 v.2.2.1 v.2.2.2.1 v.2.2.2.2.1 v.2.2.2.2.2.1) (fun K1=> .leaf)))) (.seq (.seq .leaf (.block (.loop Qh8 (fun N v=>Zch N v.1 v.2.1 v.2.2.1 v.2.2.2.1 v.2.2.2.2.1) (fun v=>Zd5 v.1 v.2.1 v.2.2.1 v.2.2.2.1 v.2.2.2.2.1) (fun K2=> .leaf)))) .leaf)))) ⟨lf,lf,⟨lf,fun _=>rfl,fun N=>⟨(fun v=>by kernel_rfl),lf⟩⟩,⟨lf,fun _=>rfl,fun N=>⟨(fun v=>by kernel_rfl),lf⟩⟩,lf⟩ (hk fun _=>by kernel_rfl)
abbrev Qg8:FnE:={f:=109,args:=[.slice 153 (Z7),.int .i64],res:=[.int .i64],F:=fun xs=>Zp4 xs.1 xs.2.1}
theorem Qez:okE Qg8:=
 ofE (Za Zrb Zg) Zd Tryz.func109 Tryz.call109 (.seq .leaf (.seq .leaf (.seq (.seq .leaf (.block (.loop Z69 (fun N v=>Zdb N v.1 v.2.1 v.2.2.1 v.2.2.2.1 v.2.2.2.2.1) (fun v=>Zee v.1 v.2.1 v.2.2.1 v.2.2.2.1 v.2.2.2.2.1) (fun K1=> .leaf)))) .leaf))) ⟨lf,lf,⟨lf,fun _=>rfl,fun N=>⟨(fun v=>by kernel_rfl),lf⟩⟩,lf⟩ (hk fun _=>by kernel_rfl)
abbrev Zv3:FnE:={f:=54,args:=[.slice 153 (Z7),.int .i64],res:=[.int .i64],F:=fun xs=>Zok xs.1 xs.2.1}
theorem Qa0:okE Zv3:=
 ofE (Za Zrb (Za Qrr (Za Qez Zg))) Zd Tryz.func54 Tryz.call54 (.seq .leaf (.seq .leaf (.seq .leaf (.seq (.seq .leaf (.block (.loop Z31 (fun N v=>Zbh N v.1 v.2.1 v.2.2.1 v.2.2.2.1) (fun v=>Zda v.1 v.2.1 v.2.2.1 v.2.2.2.1) (fun K1=> .leaf)))) .leaf)))) ⟨lf,lf,lf,⟨lf,fun _=>rfl,fun N=>⟨(fun v=>by kernel_rfl),lf⟩⟩,lf⟩ (hk fun _=>by kernel_rfl)
abbrev Qc6:FnE:={f:=23,args:=[Q5],res:=[.int .i64],F:=fun xs=>Zj1 xs.1}
theorem Zux:okE Qc6:=
 ofE (Za Zbj Zg) Zd Tryz.func23 Tryz.call23 .leaf lf (hk fun _=>by kernel_rfl)
abbrev Ql8:FnE:={f:=178,args:=[Z0],res:=[.bool],F:=fun xs=>Zn0 xs.1}
theorem Zyn:okE Ql8:=
 ofE (Za Zyl (Za Qu Zg)) Zd Tryz.func178 Tryz.call178 .leaf lf (hk fun _=>by kernel_rfl)
abbrev Ql2:FnE:={f:=179,args:=[W8,.int .i64,.int .i64],res:=[.str,.bool],F:=fun xs=>Zks xs.1 xs.2.1 xs.2.2.1}
theorem Qis:okE Ql2:=
 ofE (Za Z4f (Za Qu Zg)) Zd Tryz.func179 Tryz.call179 (.seq .leaf (.seq .leaf (.seq .leaf (.seq (.seq .leaf (.block (.loop Qam (fun N v=>Zie N v.1 v.2.1 v.2.2.1 v.2.2.2.1 v.2.2.2.2.1) (fun v=>Zk7 v.1 v.2.1 v.2.2.1 v.2.2.2.1 v.2.2.2.2.1) (fun K1=> .leaf)))) .leaf)))) ⟨lf,lf,lf,⟨lf,fun _=>rfl,fun N=>⟨(fun v=>by kernel_rfl),lf⟩⟩,lf⟩ (hk fun _=>by kernel_rfl)
abbrev Qg7:FnE:={f:=111,args:=[Z0,.int .i64,.int .i64],res:=[Y9,.bool],F:=fun xs=>Zp3 xs.1 xs.2.1 xs.2.2.1}
theorem Qey:okE Qg7:=
 ofE (Za Zyn (Za Z4i (Za Qis Zg))) Zd Tryz.func111 Tryz.call111 (.seq .leaf (.seq .leaf (.seq .leaf (.seq .leaf (.seq .leaf (.seq .leaf (.join Z68 (fun v=>Zgx v.1 v.2.1 v.2.2.1 v.2.2.2.1) .leaf .leaf))))))) ⟨lf,lf,lf,lf,lf,lf,lf,(fun v=>by kernel_rfl),lf⟩ (hk fun _=>by kernel_rfl)
abbrev Zv4:FnE:={f:=60,args:=[.int .i64,Y9],res:=[Zu],F:=fun xs=>Zgi xs.1 xs.2.1}
theorem Zu0:okE Zv4:=
 ofE Zg Zd Tryz.func60 Tryz.call60 .leaf lf (hk fun _=>by kernel_rfl)
abbrev Z1c:FnE:={f:=56,args:=[Zq,.int .i64,.int .i64],res:=[Y9,.bool],F:=fun xs=>Zr1 xs.1 xs.2.1 xs.2.2.1}
theorem Qit:okE Z1c:=
 ofE (Za Zfi (Za Zqd (Za Zux (Za Qey (Za Zu0 (Za Zwh (Za Qu Zg))))))) Zd Tryz.func56 Tryz.call56 (.seq .leaf (.seq .leaf (.seq .leaf (.seq .leaf (.seq .leaf (.seq (.seq .leaf (.block (.loop Qan (fun N v=>Zev N v.1 v.2.1 v.2.2.1 v.2.2.2.1 v.2.2.2.2.1 v.2.2.2.2.2.1) (fun v=>Zk8 v.1 v.2.1 v.2.2.1 v.2.2.2.1 v.2.2.2.2.1 v.2.2.2.2.2.1) (fun K1=> .leaf)))) .leaf)))))) ⟨lf,lf,lf,lf,lf,⟨lf,fun _=>rfl,fun N=>⟨(fun v=>by kernel_rfl),lf⟩⟩,lf⟩ (hk fun _=>by kernel_rfl)
abbrev Zur:FnE:={f:=58,args:=[Q5],res:=[Q5],F:=fun xs=>Zm1 xs.1}
theorem Z7h:okE Zur:=
 ofE (Za Zbj Zg) Zd Tryz.func58 Tryz.call58 .leaf lf (hk fun _=>by kernel_rfl)
abbrev Ql9:FnE:={f:=180,args:=[Z0,Y9],res:=[.bool],F:=fun xs=>Zr6 xs.1 xs.2.1}
theorem Qiz:okE Ql9:=
 ofE Zg Zd Tryz.func180 Tryz.call180 .leaf lf (hk fun _=>by kernel_rfl)
abbrev Z6r:FnE:={f:=182,args:=[.slice 200 (Zt),.slice 200 (Zt)],res:=[.slice 200 (Zt)],F:=fun xs=>Zgw xs.1 xs.2.1}
theorem Z4c:okE Z6r:=
 ofE (Za Zex Zg) Zd Tryz.func182 Tryz.call182 (.seq .leaf (.seq .leaf (.seq .leaf (.seq (.seq .leaf (.block (.loop Zz0 (fun N v=>V0 N v.1 v.2.1 v.2.2.1 v.2.2.2.1 v.2.2.2.2.1) (fun v=>Zar v.1 v.2.1 v.2.2.1 v.2.2.2.1 v.2.2.2.2.1) (fun K1=>(.seq .leaf (.seq .leaf (.seq (.block (.seq .leaf (.seq .leaf (.block (.loop Zz1 (fun N v=>Jm K1 N v.1 v.2.1 v.2.2.1 v.2.2.2.1 v.2.2.2.2.1 v.2.2.2.2.2.1 v.2.2.2.2.2.2.1 v.2.2.2.2.2.2.2.1 v.2.2.2.2.2.2.2.2.1) (fun v=>Zgd v.1 v.2.1 v.2.2.1 v.2.2.2.1 v.2.2.2.2.1 v.2.2.2.2.2.1 v.2.2.2.2.2.2.1 v.2.2.2.2.2.2.2.1 v.2.2.2.2.2.2.2.2.1) (fun K2=> .leaf)))))) .leaf))))))) .leaf)))) ⟨lf,lf,lf,⟨lf,fun _=>rfl,fun N=>⟨(fun v=>by kernel_rfl),lf,lf,⟨lf,lf,fun _=>rfl,fun N=>⟨(fun v=>by kernel_rfl),lf⟩⟩,lf⟩⟩,lf⟩ (hk fun _=>by kernel_rfl)
abbrev Znl:FnE:={f:=236,args:=[.slice 200 (Zt),.slice 200 (Zt)],res:=[.bool],F:=fun xs=>Vs xs.1 xs.2.1}
theorem Zm6:okE Znl:=
 ofE Zg Zd Tryz.func236 Tryz.call236 (.seq .leaf (.seq .leaf (.seq (.seq .leaf (.block (.loop Zlz (fun N v=>Yw N v.1 v.2.1 v.2.2.1 v.2.2.2.1) (fun v=>Kg v.1 v.2.1 v.2.2.1 v.2.2.2.1) (fun K1=> .leaf)))) .leaf))) ⟨lf,lf,⟨lf,fun _=>rfl,fun N=>⟨(fun v=>by kernel_rfl),lf⟩⟩,lf⟩ (hk fun _=>by kernel_rfl)
abbrev Z9k:FnE:={f:=181,args:=[.slice 200 (Zt),.slice 200 (Zt)],res:=[.bool],F:=fun xs=>Zh9 xs.1 xs.2.1}
theorem Z7f:okE Z9k:=
 ofE (Za Zm6 Zg) Zd Tryz.func181 Tryz.call181 .leaf lf (hk fun _=>by kernel_rfl)
abbrev Z9l:FnE:={f:=183,args:=[.slice 200 (Zt),Zt],res:=[.slice 200 (Zt)],F:=fun xs=>Zm3 xs.1 xs.2.1}
theorem Z7i:okE Z9l:=
 ofE (Za Zex (Za Zte (Za Zji Zg))) Zd Tryz.func183 Tryz.call183 (.seq .leaf (.seq .leaf (.seq .leaf (.seq (.seq .leaf (.block (.loop Z10 (fun N v=>Kv N v.1 v.2.1 v.2.2.1 v.2.2.2.1 v.2.2.2.2.1) (fun v=>Zb1 v.1 v.2.1 v.2.2.1 v.2.2.2.1 v.2.2.2.2.1) (fun K1=>(.seq .leaf (.seq .leaf (.seq (.block (.seq .leaf (.join Z1z (fun v=>Zd2 K1 v.1 v.2.1 v.2.2.1 v.2.2.2.1 v.2.2.2.2.1 v.2.2.2.2.2.1) .leaf .leaf))) .leaf))))))) .leaf)))) ⟨lf,lf,lf,⟨lf,fun _=>rfl,fun N=>⟨(fun v=>by kernel_rfl),lf,lf,⟨lf,lf,(fun v=>by kernel_rfl),lf⟩,lf⟩⟩,lf⟩ (hk fun _=>by kernel_rfl)
abbrev Qha:FnE:={f:=112,args:=[Z0,Y9],res:=[Z0,.bool],F:=fun xs=>Zl8 xs.1 xs.2.1}
theorem Qe1:okE Qha:=
 ofE (Za Zu2 (Za Zyn (Za Qiz (Za Z4c (Za Z7f (Za Z7i (Za Zyk (Za Zwk Zg)))))))) Zd Tryz.func112 Tryz.call112 (.seq .leaf (.seq .leaf (.seq .leaf (.join Z7a (fun v=>Zgy v.1 v.2.1 v.2.2.1) (.seq .leaf (.cond (.seq .leaf (.seq (.join Z7c (fun v=>Zlp v.1 v.2.1 v.2.2.1 v.2.2.2.1 v.2.2.2.2.1 v.2.2.2.2.2.1) .leaf .leaf) .leaf)) .leaf)) (.join Z7b (fun v=>Zlo v.1 v.2.1) .leaf .leaf))))) ⟨lf,lf,lf,⟨lf,⟨lf,⟨lf,(fun v=>by kernel_rfl),lf⟩,lf⟩,lf⟩,(fun v=>by kernel_rfl),lf,(fun v=>by kernel_rfl),lf⟩ (hk fun _=>by kernel_rfl)
abbrev Qhc:FnE:={f:=113,args:=[Q5,.int .i64],res:=[Q5,.bool],F:=fun xs=>Zl9 xs.1 xs.2.1}
theorem Qe3:okE Qhc:=
 ofE (Za Zbj (Za Qu Zg)) Zd Tryz.func113 Tryz.call113 .leaf lf (hk fun _=>by kernel_rfl)
abbrev Zxx:FnE:={f:=59,args:=[Zq,.int .i64,Y9],res:=[Zq,.bool],F:=fun xs=>Zp1 xs.1 xs.2.1 xs.2.2.1}
theorem Qex:okE Zxx:=
 ofE (Za Zrk (Za Zfi (Za Zqd (Za Qe1 (Za Qe3 Zg))))) Zd Tryz.func59 Tryz.call59 (.seq .leaf (.join Z66 (fun v=>Zln v.1 v.2.1 v.2.2.1 v.2.2.2.1 v.2.2.2.2.1 v.2.2.2.2.2.1) .leaf (.seq .leaf (.seq .leaf (.join Z67 (fun v=>Yk v.1 v.2.1 v.2.2.1 v.2.2.2.1 v.2.2.2.2.1 v.2.2.2.2.2.1 v.2.2.2.2.2.2.1) .leaf .leaf))))) ⟨lf,lf,(fun v=>by kernel_rfl),lf,lf,lf,(fun v=>by kernel_rfl),lf⟩ (hk fun _=>by kernel_rfl)
abbrev Zso:FnE:={f:=61,args:=[.slice 87 (Zu)],res:=[.str],F:=fun xs=>Zjh xs.1}
theorem Z17:okE Zso:=
 ofE (Za Ztc (Za Ztr Zg)) Zd Tryz.func61 Tryz.call61 (.seq .leaf (.seq .leaf (.seq (.seq .leaf (.block (.loop Zyb (fun N v=>Za1 N v.1 v.2.1 v.2.2.1 v.2.2.2.1) (fun v=>Zfd v.1 v.2.1 v.2.2.1 v.2.2.2.1) (fun K1=> .leaf)))) .leaf))) ⟨lf,lf,⟨lf,fun _=>rfl,fun N=>⟨(fun v=>by kernel_rfl),lf⟩⟩,lf⟩ (hk fun _=>by kernel_rfl)
abbrev Z4t:Qll:={f:=57,n:=16,np:=2,rv:=Tryz.f57.results.toList,run:=fun ln _ k s=>Zce (Q0g [] ln [Zlj] [] [] []) 16 (Zw3 Tryz.f57) .leaf k s}
theorem Qnc:Z22 Tryz.prog glob Z4t:=Z22.of (C:=Q0g [] [] [Zlj] [] [] []) (fun ln=>Qn0 (ln:=ln) Qeb rfl (Za Zfi Zg) Zxy Zd Zxz) Tryz.func57 rfl Tryz.call57 (by decide) rfl rfl (fun _ _ _=>rfl)
abbrev Zv2:FnB:={f:=30,args:=[.sh (Zq),.sh (.int .i64)],res:= .shr [.str,.int .i64,Zq],F:=fun xs=>Zoi xs.1 xs.2.1}
theorem Qay:Qct Tryz.prog glob Zv2:=by
 refine Qct.of (e:=Zv2) (C:=Q0g [Z4t] [] [Zs8,Z8t,Z8u,Zsn,Zxw,Zo4,Z3j,Zv3,Z1c,Zur,Zxx,Zv4,Zso] [] [] []) (Qn0 (Que Qnc Qeb) rfl (Za Zrk (Za Z4j (Za Qu (Za Z15 (Za Zwh (Za Z7g (Za Qnf (Za Qa0 (Za Qit (Za Z7h (Za Qex (Za Zu0 (Za Z17 Zg))))))))))))) Zxy Zd Zxz) rfl rfl Tryz.func30 (c:=Zw3 Tryz.f30) rfl Tryz.call30 (by decide)
  ((.seq .leaf (.seq .leaf (.seq (.seq .leaf (.cond (.seq .leaf (.frz [(6,.u false)])) .leaf)) (.seq .leaf (.seq (.seq .leaf (.block (.loop Z3w (fun N v=>Yp N v.1 v.2.1 v.2.2.1 v.2.2.2.1 v.2.2.2.2.1 v.2.2.2.2.2.1 v.2.2.2.2.2.2.1 v.2.2.2.2.2.2.2.1) (fun v=>Zc8 v.1 v.2.1 v.2.2.1 v.2.2.2.1 v.2.2.2.2.1 v.2.2.2.2.2.1 v.2.2.2.2.2.2.1 v.2.2.2.2.2.2.2.1) (fun K1=> .leaf)))) (.join Z3v (fun v=>Vq v.1 v.2.1 v.2.2.1) (.seq .leaf (.block (.loop Z3x (fun N v=>Jn N v.1 v.2.1 v.2.2.1 v.2.2.2.1 v.2.2.2.2.1 v.2.2.2.2.2.1) (fun v=>Zc9 v.1 v.2.1 v.2.2.1 v.2.2.2.1 v.2.2.2.2.1 v.2.2.2.2.2.1) (fun K2=> .leaf)))) (.seq (.seq .leaf (.cond (.seq .leaf (.frz [(6,.u false)])) .leaf)) (.seq (.frz [(8,.u false)]) (.seq .leaf (.seq .leaf (.frz [(6,.u false)])))))))))))) ?_ ?_
 ·exact⟨lf,⟨lf,⟨⟨lf,⟨⟨lf,trivial⟩,lf⟩⟩,⟨lf,⟨⟨lf,⟨fun _=>rfl,fun N=>⟨(fun v=>by kernel_rfl),lf⟩⟩⟩,⟨⟨lf,⟨fun _=>rfl,fun N=>⟨(fun v=>by kernel_rfl),lf⟩⟩⟩,(fun v=>by kernel_rfl),⟨⟨lf,⟨⟨lf,trivial⟩,lf⟩⟩,⟨trivial,⟨lf,⟨lf,trivial⟩⟩⟩⟩⟩⟩⟩⟩⟩⟩
 ·intro xs r h;refine Eq.trans (Eq.symm ?_) h;kernel_rfl
abbrev Z3i:FnE:={f:=116,args:=[Yx,.sptr 3 (.int .i64)],res:=[.bool],F:=fun xs=>Zo7 xs.1 xs.2.1}
theorem Z19:okE Z3i:=
 ofE Zg Zd Tryz.func116 Tryz.call116 .leaf lf (hk fun _=>by kernel_rfl)
abbrev Zah:FnE:={f:=115,args:=[.slice 59 (Yx),.clo 116 (.pair (.sptr 3 (.int .i64)) (.unit))],res:=[.int .i64],F:=fun xs=>Xc xs.1 xs.2.1}
theorem Wp:okE Zah:=
 ofE (Za Z19 Zg) Zd Tryz.func115 Tryz.call115 (.seq .leaf (.seq (.seq .leaf (.block (.loop Wf (fun N v=>Qa N v.1 v.2.1 v.2.2.1 v.2.2.2.1) (fun v=>Qh v.1 v.2.1 v.2.2.1 v.2.2.2.1) (fun K1=> .leaf)))) .leaf)) ⟨lf,⟨lf,fun _=>rfl,fun N=>⟨(fun v=>by kernel_rfl),lf⟩⟩,lf⟩ (hk fun _=>by kernel_rfl)
abbrev Z9r:FnE:={f:=62,args:=[Zq,.int .i64],res:=[.int .i64],F:=fun xs=>Zrh xs.1 xs.2.1}
theorem Z7n:okE Z9r:=
 ofE (Za Wp Zg) Zd Tryz.func62 Tryz.call62 .leaf lf (hk fun _=>by kernel_rfl)
abbrev Ql1:FnE:={f:=31,args:=[Zq,.int .i64],res:=[Yx,.bool],F:=fun xs=>Zr0 xs.1 xs.2.1}
theorem Qir:okE Ql1:=
 ofE (Za Z7n (Za Zts Zg)) Zd Tryz.func31 Tryz.call31 .leaf lf (hk fun _=>by kernel_rfl)
abbrev Qpv:FnE:={f:=15,args:=[.slice 87 (Zu)],res:=[.slice 3 (.int .i64)],F:=fun xs=>Zm2 xs.1}
theorem Ztd:okE Qpv:=
 ofE Zg Zd Tryz.func15 Tryz.call15 (.seq .leaf (.seq .leaf (.seq (.seq .leaf (.block (.loop Qeg (fun N v=>Zds N v.1 v.2.1 v.2.2.1 v.2.2.2.1) (fun v=>Zl7 v.1 v.2.1 v.2.2.1 v.2.2.2.1) (fun K1=> .leaf)))) .leaf))) ⟨lf,lf,⟨lf,fun _=>rfl,fun N=>⟨(fun v=>by kernel_rfl),lf⟩⟩,lf⟩ (hk fun _=>by kernel_rfl)
abbrev Qc7:FnE:={f:=9,args:=[Zq,.int .i64,.int .i64],res:=[.slice 3 (.int .i64)],F:=fun xs=>Zgh xs.1 xs.2.1 xs.2.2.1}
theorem Qax:okE Qc7:=
 ofE (Za Qir (Za Ztd Zg)) (Zx Qay Zd) Tryz.func9 Tryz.call9 (.seq .leaf (.seq .leaf (.seq (.seq .leaf (.block (.loop Z3u (fun N v=>Zfc N v.1 v.2.1 v.2.2.1 v.2.2.2.1 v.2.2.2.2.1) (fun v=>Zc7 v.1 v.2.1 v.2.2.1 v.2.2.2.1 v.2.2.2.2.1) (fun K1=> .leaf)))) .leaf))) ⟨lf,lf,⟨lf,fun _=>rfl,fun N=>⟨(fun v=>by kernel_rfl),lf⟩⟩,lf⟩ (hk fun _=>by kernel_rfl)
abbrev Ql5:FnE:={f:=32,args:=[Zq,.int .i64],res:=[Zy,.bool],F:=fun xs=>Zr4 xs.1 xs.2.1}
theorem Qiw:okE Ql5:=
 ofE (Za Zfi (Za Zu3 Zg)) Zd Tryz.func32 Tryz.call32 .leaf lf (hk fun _=>by kernel_rfl)
abbrev Z3h:FnE:={f:=10,args:=[Zq,.slice 87 (Zu)],res:=[.bool],F:=fun xs=>Zfe xs.1 xs.2.1}
theorem Z18:okE Z3h:=
 ofE (Za Ztd (Za Qiw Zg)) Zd Tryz.func10 Tryz.call10 (.seq .leaf (.seq .leaf (.seq (.seq .leaf (.block (.loop Zyd (fun N v=>Za2 N v.1 v.2.1 v.2.2.1 v.2.2.2.1 v.2.2.2.2.1 v.2.2.2.2.2.1) (fun v=>Zff v.1 v.2.1 v.2.2.1 v.2.2.2.1 v.2.2.2.2.1 v.2.2.2.2.2.1) (fun K1=> .leaf)))) .leaf))) ⟨lf,lf,⟨lf,fun _=>rfl,fun N=>⟨(fun v=>by kernel_rfl),lf⟩⟩,lf⟩ (hk fun _=>by kernel_rfl)
abbrev Z3o:FnE:={f:=11,args:=[Zq,.slice 87 (Zu)],res:=[.bool],F:=fun xs=>Zjr xs.1 xs.2.1}
theorem Z2d:okE Z3o:=
 ofE (Za Xa Zg) Zd Tryz.func11 Tryz.call11 (.seq .leaf (.seq .leaf (.seq (.seq .leaf (.block (.loop Zzf (fun N v=>Qk N v.1 v.2.1 v.2.2.1 v.2.2.2.1) (fun v=>Zft v.1 v.2.1 v.2.2.1 v.2.2.2.1) (fun K1=>(.seq .leaf (.join Zzd (fun v=>Zba K1 v.1 v.2.1 v.2.2.1 v.2.2.2.1) (.block (.seq .leaf (.join Zze (fun v=>Xd K1 v.1 v.2.1 v.2.2.1 v.2.2.2.1 v.2.2.2.2.1 v.2.2.2.2.2.1) .leaf .leaf))) .leaf)))))) .leaf))) ⟨lf,lf,⟨lf,fun _=>rfl,fun N=>⟨(fun v=>by kernel_rfl),lf,⟨lf,lf,(fun v=>by kernel_rfl),lf⟩,(fun v=>by kernel_rfl),lf⟩⟩,lf⟩ (hk fun _=>by kernel_rfl)
abbrev Z9o:FnE:={f:=12,args:=[.slice 87 (Zu),.int .i64],res:=[.int .i64],F:=fun xs=>Zrf xs.1 xs.2.1}
theorem Z7l:okE Z9o:=
 ofE Zg Zd Tryz.func12 Tryz.call12 (.seq .leaf (.seq .leaf (.seq (.seq .leaf (.block (.loop Z11 (fun N v=>Zaa N v.1 v.2.1 v.2.2.1 v.2.2.2.1 v.2.2.2.2.1) (fun v=>Znz v.1 v.2.1 v.2.2.1 v.2.2.2.1 v.2.2.2.2.1) (fun K1=> .leaf)))) .leaf))) ⟨lf,lf,⟨lf,fun _=>rfl,fun N=>⟨(fun v=>by kernel_rfl),lf⟩⟩,lf⟩ (hk fun _=>by kernel_rfl)
abbrev Z98:FnE:={f:=13,args:=[.slice 87 (Zu),.int .i64],res:=[.int .i64],F:=fun xs=>Zrr xs.1 xs.2.1}
theorem Z70:okE Z98:=
 ofE Zg Zd Tryz.func13 Tryz.call13 (.seq .leaf (.seq .leaf (.seq (.seq .leaf (.block (.loop Z2y (fun N v=>Zaf N v.1 v.2.1 v.2.2.1 v.2.2.2.1) (fun v=>Zoc v.1 v.2.1 v.2.2.1 v.2.2.2.1) (fun K1=>(.seq .leaf (.join Z2x (fun v=>Zh1 K1 v.1 v.2.1 v.2.2.1 v.2.2.2.1) .leaf .leaf)))))) .leaf))) ⟨lf,lf,⟨lf,fun _=>rfl,fun N=>⟨(fun v=>by kernel_rfl),lf,lf,(fun v=>by kernel_rfl),lf⟩⟩,lf⟩ (hk fun _=>by kernel_rfl)
abbrev Qp5:FnE:={f:=16,args:=[.slice 87 (Zu)],res:=[.slice 3 (.int .i64)],F:=fun xs=>Zqx xs.1}
theorem Z1h:okE Qp5:=
 ofE Zg Zd Tryz.func16 Tryz.call16 (.seq .leaf (.seq .leaf (.seq (.seq .leaf (.block (.loop Qfz (fun N v=>Zdu N v.1 v.2.1 v.2.2.1) (fun v=>Zmn v.1 v.2.1 v.2.2.1) (fun K1=>(.seq .leaf (.join Qfy (fun v=>Zoz K1 v.1 v.2.1 v.2.2.1) .leaf .leaf)))))) .leaf))) ⟨lf,lf,⟨lf,fun _=>rfl,fun N=>⟨(fun v=>by kernel_rfl),lf,lf,(fun v=>by kernel_rfl),lf⟩⟩,lf⟩ (hk fun _=>by kernel_rfl)
abbrev Qmb:FnE:={f:=14,args:=[.slice 3 (.int .i64),.slice 3 (.int .i64)],res:=[.bool],F:=fun xs=>Zn2 xs.1 xs.2.1}
theorem Qi1:okE Qmb:=
 ofE Zg Zd Tryz.func14 Tryz.call14 (.seq .leaf (.seq .leaf (.seq (.seq .leaf (.block (.loop Qau (fun N v=>Zm5 N v.1 v.2.1 v.2.2.1) (fun v=>Zla v.1 v.2.1 v.2.2.1) (fun K1=> .leaf)))) .leaf))) ⟨lf,lf,⟨lf,fun _=>rfl,fun N=>⟨(fun v=>by kernel_rfl),lf⟩⟩,lf⟩ (hk fun _=>by kernel_rfl)
abbrev Qpw:FnE:={f:=34,args:=[.slice 3 (.int .i64),.int .i64],res:=[.int .i64],F:=fun xs=>Zm4 xs.1 xs.2.1}
theorem Qne:okE Qpw:=
 ofE (Za Z4i Zg) Zd Tryz.func34 Tryz.call34 (.seq .leaf (.seq .leaf (.seq (.seq .leaf (.block (.loop Qeh (fun N v=>Zj3 N v.1 v.2.1 v.2.2.1 v.2.2.2.1 v.2.2.2.2.1) (fun v=>Zsv v.1 v.2.1 v.2.2.1 v.2.2.2.1 v.2.2.2.2.1) (fun K1=> .leaf)))) .leaf))) ⟨lf,lf,⟨lf,fun _=>rfl,fun N=>⟨(fun v=>by kernel_rfl),lf⟩⟩,lf⟩ (hk fun _=>by kernel_rfl)
abbrev Ql4:FnE:={f:=17,args:=[.slice 3 (.int .i64),.slice 3 (.int .i64)],res:=[.int .i64],F:=fun xs=>Zr3 xs.1 xs.2.1}
theorem Qiv:okE Ql4:=
 ofE (Za Qne Zg) Zd Tryz.func17 Tryz.call17 (.seq .leaf (.seq .leaf (.seq .leaf (.seq (.seq .leaf (.block (.loop Qao (fun N v=>Zew N v.1 v.2.1 v.2.2.1 v.2.2.2.1 v.2.2.2.2.1 v.2.2.2.2.2.1) (fun v=>Zk9 v.1 v.2.1 v.2.2.1 v.2.2.2.1 v.2.2.2.2.1 v.2.2.2.2.2.1) (fun K1=> .leaf)))) .leaf)))) ⟨lf,lf,lf,⟨lf,fun _=>rfl,fun N=>⟨(fun v=>by kernel_rfl),lf⟩⟩,lf⟩ (hk fun _=>by kernel_rfl)
abbrev Qp6:FnE:={f:=35,args:=[.slice 3 (.int .i64),.int .i64],res:=[.int .i64],F:=fun xs=>Z03 xs.1 xs.2.1}
theorem Qnj:okE Qp6:=
 ofE Zg Zd Tryz.func35 Tryz.call35 (.seq .leaf (.seq .leaf (.seq (.seq .leaf (.block (.loop Qf1 (fun N v=>Zgt N v.1 v.2.1 v.2.2.1 v.2.2.2.1) (fun v=>Zs4 v.1 v.2.1 v.2.2.1 v.2.2.2.1) (fun K1=>(.seq .leaf (.join Qf0 (fun v=>Zke K1 v.1 v.2.1 v.2.2.1 v.2.2.2.1) .leaf .leaf)))))) .leaf))) ⟨lf,lf,⟨lf,fun _=>rfl,fun N=>⟨(fun v=>by kernel_rfl),lf,lf,(fun v=>by kernel_rfl),lf⟩⟩,lf⟩ (hk fun _=>by kernel_rfl)
abbrev Qm1:FnE:={f:=18,args:=[.slice 3 (.int .i64),.slice 3 (.int .i64)],res:=[.int .i64],F:=fun xs=>Zsd xs.1 xs.2.1}
theorem Qjg:okE Qm1:=
 ofE (Za Qnj Zg) Zd Tryz.func18 Tryz.call18 (.seq .leaf (.seq .leaf (.seq .leaf (.seq (.seq .leaf (.block (.loop Qcl (fun N v=>Wc N v.1 v.2.1 v.2.2.1 v.2.2.2.1 v.2.2.2.2.1) (fun v=>Zlh v.1 v.2.1 v.2.2.1 v.2.2.2.1 v.2.2.2.2.1) (fun K1=>(.seq .leaf (.seq (.block (.seq .leaf (.join Qck (fun v=>Zi0 K1 v.1 v.2.1 v.2.2.1 v.2.2.2.1 v.2.2.2.2.1 v.2.2.2.2.2.1) .leaf .leaf))) .leaf)))))) .leaf)))) ⟨lf,lf,lf,⟨lf,fun _=>rfl,fun N=>⟨(fun v=>by kernel_rfl),lf,⟨lf,lf,(fun v=>by kernel_rfl),lf⟩,lf⟩⟩,lf⟩ (hk fun _=>by kernel_rfl)
abbrev Qdl:FnE:={f:=19,args:=[Zq,.int .i64,.int .i64],res:=[.slice 3 (.int .i64)],F:=fun xs=>Zgq xs.1 xs.2.1 xs.2.2.1}
theorem Qa6:okE Qdl:=
 ofE (Za Qy (Za Zip (Za Z1h Zg))) (Zx Zjj Zd) Tryz.func19 Tryz.call19 (.seq .leaf (.seq .leaf (.seq .leaf (.seq (.seq .leaf (.block (.loop Z46 (fun N v=>Zfn N v.1 v.2.1 v.2.2.1 v.2.2.2.1 v.2.2.2.2.1) (fun v=>Zdi v.1 v.2.1 v.2.2.1 v.2.2.2.1 v.2.2.2.2.1) (fun K1=>(.seq .leaf (.seq (.block (.seq (.frz [(8,.u false)]) .leaf)) .leaf)))))) .leaf)))) ⟨lf,lf,lf,⟨lf,fun _=>rfl,fun N=>⟨(fun v=>by kernel_rfl),lf,⟨trivial,lf⟩,lf⟩⟩,lf⟩ (hk fun _=>by kernel_rfl)
abbrev Z1s:FnB:={f:=20,args:=[.sh (.slice 5 (.int .u8))],res:= .shr [Zq,.int .i64],F:=fun xs=>Zhv xs.1}
theorem Z0g:okB Z1s:=
 ofB [] Zg (Zx Zn5 (Zx Zva (Zx Zlq Zd))) Tryz.func20 Tryz.call20 .leaf lf (hk fun _=>by kernel_rfl)
abbrev Zpy:FnE:={f:=3,args:=[.slice 5 (.int .u8)],res:=[.bool],F:=fun xs=>Zom xs.1}
theorem Qa4:okE Zpy:=
 ofE (Za Qy6 (Za Zyp (Za Z4m (Za Qax (Za Z18 (Za Z2d (Za Z7l (Za Z70 (Za Ztd (Za Z1h (Za Qi1 (Za Qiv (Za Qjg (Za Qa6 (Za Zip (Za Zux Zg)))))))))))))))) (Zx Zvv (Zx Z0f (Zx Z0g (Zx Zjj Zd)))) Tryz.func3 Tryz.call3 (.seq .leaf (.seq .leaf (.seq .leaf (.seq .leaf (.seq .leaf (.seq .leaf (.seq .leaf (.seq .leaf (.seq .leaf (.seq .leaf (.seq .leaf (.join Z39 (fun v=>Jo v.1 v.2.1 v.2.2.1 v.2.2.2.1) (.seq .leaf (.cond (.seq .leaf (.block (.loop Z4a (fun N v=>Zbi N v.1 v.2.1 v.2.2.1 v.2.2.2.1 v.2.2.2.2.1 v.2.2.2.2.2.1) (fun v=>Zdc v.1 v.2.1 v.2.2.1 v.2.2.2.1 v.2.2.2.2.1 v.2.2.2.2.2.1) (fun K1=> .leaf)))) .leaf)) .leaf)))))))))))) ⟨lf,lf,lf,lf,lf,lf,lf,lf,lf,lf,lf,⟨lf,⟨lf,fun _=>rfl,fun N=>⟨(fun v=>by kernel_rfl),lf⟩⟩,lf⟩,(fun v=>by kernel_rfl),lf⟩ (hk fun _=>by kernel_rfl)
end
end Go.Proofs.YtdhchdiikmnmeaaGreat

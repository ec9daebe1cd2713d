/- FnTransfers: that the program code computes these plain functions, part 1. No condition. -/
import Derived.Test.YtpadmiphiogdhaaGreatM2
namespace Go.Proofs.YtpadmiphiogdhaaGreat
noncomputable section
open Go.Am
set_option maxRecDepth 100000
set_option linter.unusedVariables false
def tab:Tab:=Qzu [(3,.int .i64),(4,.bool),(5,.int .u8),(9,.str),(22,.slice 5 (.int .u8)),(25,Zqa),(26,.slice 99 (Z2)),(28,Yb),(30,Wi),(32,Zkf),(34,Yb),(35,.slice 83 (J6)),(37,Zl),(38,.slice 78 (Qs)),(39,.slice 49 (W8)),(41,Qe),(49,W8),(58,V1),(60,.slice 9 (.str)),(78,Qs),(81,.slice 115 (Zt)),(83,J6),(85,.slice 3 (.int .i64)),(87,Zce),(88,.slice 124 (Zr)),(90,Z8),(91,.slice 258 (Qs)),(93,Ye),(95,Q5),(97,Ja),(99,Z2),(110,Vc),(112,.int .u64),(115,Zt),(121,.arr 2 (.int .i64)),(124,Zr),(216,.slice 266 (Xf)),(221,Za9),(258,Qs),(266,Xf)]
theorem Q9k:TOK Tryz.prog 3 (.int .i64):=⟨by kernel_rfl,by kernel_rfl⟩
theorem Q9l:TOK Tryz.prog 4 (.bool):=⟨by kernel_rfl,by kernel_rfl⟩
theorem Q9m:TOK Tryz.prog 5 (.int .u8):=⟨by kernel_rfl,by kernel_rfl⟩
theorem Q9n:TOK Tryz.prog 9 (.str):=⟨by kernel_rfl,by kernel_rfl⟩
theorem Q7t:TOK Tryz.prog 22 (.slice 5 (.int .u8)):=⟨by kernel_rfl,by kernel_rfl⟩
theorem Q7u:TOK Tryz.prog 25 (Zqa):=⟨by kernel_rfl,by kernel_rfl⟩
theorem Q7v:TOK Tryz.prog 26 (.slice 99 (Z2)):=⟨by kernel_rfl,by kernel_rfl⟩
theorem Q7w:TOK Tryz.prog 28 (Yb):=⟨by kernel_rfl,by kernel_rfl⟩
theorem Q7x:TOK Tryz.prog 30 (Wi):=⟨by kernel_rfl,by kernel_rfl⟩
theorem Q7y:TOK Tryz.prog 32 (Zkf):=⟨by kernel_rfl,by kernel_rfl⟩
theorem Q7z:TOK Tryz.prog 34 (Yb):=⟨by kernel_rfl,by kernel_rfl⟩
theorem Q70:TOK Tryz.prog 35 (.slice 83 (J6)):=⟨by kernel_rfl,by kernel_rfl⟩
theorem Q71:TOK Tryz.prog 37 (Zl):=⟨by kernel_rfl,by kernel_rfl⟩
theorem Q72:TOK Tryz.prog 38 (.slice 78 (Qs)):=⟨by kernel_rfl,by kernel_rfl⟩
theorem Q73:TOK Tryz.prog 39 (.slice 49 (W8)):=⟨by kernel_rfl,by kernel_rfl⟩
theorem Q74:TOK Tryz.prog 41 (Qe):=⟨by kernel_rfl,by kernel_rfl⟩
theorem Q75:TOK Tryz.prog 49 (W8):=⟨by kernel_rfl,by kernel_rfl⟩
theorem Q76:TOK Tryz.prog 58 (V1):=⟨by kernel_rfl,by kernel_rfl⟩
theorem Q77:TOK Tryz.prog 60 (.slice 9 (.str)):=⟨by kernel_rfl,by kernel_rfl⟩
theorem Q78:TOK Tryz.prog 78 (Qs):=⟨by kernel_rfl,by kernel_rfl⟩
theorem Q79:TOK Tryz.prog 81 (.slice 115 (Zt)):=⟨by kernel_rfl,by kernel_rfl⟩
theorem Q8a:TOK Tryz.prog 83 (J6):=⟨by kernel_rfl,by kernel_rfl⟩
theorem Q8b:TOK Tryz.prog 85 (.slice 3 (.int .i64)):=⟨by kernel_rfl,by kernel_rfl⟩
theorem Q8c:TOK Tryz.prog 87 (Zce):=⟨by kernel_rfl,by kernel_rfl⟩
theorem Q8d:TOK Tryz.prog 88 (.slice 124 (Zr)):=⟨by kernel_rfl,by kernel_rfl⟩
theorem Q8e:TOK Tryz.prog 90 (Z8):=⟨by kernel_rfl,by kernel_rfl⟩
theorem Q8f:TOK Tryz.prog 91 (.slice 258 (Qs)):=⟨by kernel_rfl,by kernel_rfl⟩
theorem Q8g:TOK Tryz.prog 93 (Ye):=⟨by kernel_rfl,by kernel_rfl⟩
theorem Q8h:TOK Tryz.prog 95 (Q5):=⟨by kernel_rfl,by kernel_rfl⟩
theorem Q8i:TOK Tryz.prog 97 (Ja):=⟨by kernel_rfl,by kernel_rfl⟩
theorem Q8j:TOK Tryz.prog 99 (Z2):=⟨by kernel_rfl,by kernel_rfl⟩
theorem Q5s:TOK Tryz.prog 110 (Vc):=⟨by kernel_rfl,by kernel_rfl⟩
theorem Q5t:TOK Tryz.prog 112 (.int .u64):=⟨by kernel_rfl,by kernel_rfl⟩
theorem Q5u:TOK Tryz.prog 115 (Zt):=⟨by kernel_rfl,by kernel_rfl⟩
theorem Q5v:TOK Tryz.prog 121 (.arr 2 (.int .i64)):=⟨by kernel_rfl,by kernel_rfl⟩
theorem Q5w:TOK Tryz.prog 124 (Zr):=⟨by kernel_rfl,by kernel_rfl⟩
theorem Q5x:TOK Tryz.prog 216 (.slice 266 (Xf)):=⟨by kernel_rfl,by kernel_rfl⟩
theorem Q5y:TOK Tryz.prog 221 (Za9):=⟨by kernel_rfl,by kernel_rfl⟩
theorem Q5z:TOK Tryz.prog 258 (Qs):=⟨by kernel_rfl,by kernel_rfl⟩
theorem Q50:TOK Tryz.prog 266 (Xf):=⟨by kernel_rfl,by kernel_rfl⟩
theorem Q7r:tab.ok Tryz.prog:=(Q1 Q9k (Q1 Q9l (Q1 Q9m (Q1 Q9n (Q1 Q7t (Q1 Q7u (Q1 Q7v (Q1 Q7w (Q1 Q7x (Q1 Q7y (Q1 Q7z (Q1 Q70 (Q1 Q71 (Q1 Q72 (Q1 Q73 (Q1 Q74 (Q1 Q75 (Q1 Q76 (Q1 Q77 (Q1 Q78 (Q1 Q79 (Q1 Q8a (Q1 Q8b (Q1 Q8c (Q1 Q8d (Q1 Q8e (Q1 Q8f (Q1 Q8g (Q1 Q8h (Q1 Q8i (Q1 Q8j (Q1 Q5s (Q1 Q5t (Q1 Q5u (Q1 Q5v (Q1 Q5w (Q1 Q5x (Q1 Q5y (Q1 Q5z (Q1 Q50 Q5r))))))))))))))))))))))))))))))))))))))))
abbrev glob:Y4:=Y4.none
theorem Q4p:Qem Tryz.prog 110 (Vc):=Qem.of (by kernel_rfl) (by kernel_rfl) rfl (by decide)
theorem Q4q:Qem Tryz.prog 115 (Zt):=Qem.of (by kernel_rfl) (by kernel_rfl) rfl (by decide)
theorem Q4r:Qem Tryz.prog 121 (.arr 2 (.int .i64)):=Qem.of (by kernel_rfl) (by kernel_rfl) rfl (by decide)
theorem Q4s:Qem Tryz.prog 124 (Zr):=Qem.of (by kernel_rfl) (by kernel_rfl) rfl (by decide)
def Q83:List Nat:=[110,115,121,124]
theorem Q66:Q4d Tryz.prog tab Q83:=(Qb0 Q4p rfl (Qb0 Q4q rfl (Qb0 Q4r rfl (Qb0 Q4s rfl Q4t))))
@[reducible] def cfg(ln:List Nat)(Γ:Env)(ΓL:Z0q)(ΓB:Zv7)(ΓW:Zv8):Cfg:={τ:=tab,eq:=fun e=>Q83.any (Nat.beq e),Γ:=Γ,ΓL:=ΓL,ΓB:=ΓB,lent:=ln,ΓW:=ΓW}
theorem Q15{gl:Y4}{ln:List Nat}{Γ:Env}{ΓL:Z0q}{ΓB:Zv7}{ΓW:Zv8}(hs:gl.soft=false)(h:Γ.ok Tryz.prog gl)(hL:ΓL.ok Tryz.prog gl)(hB:ΓB.ok Tryz.prog gl)(hW:ΓW.ok Tryz.prog): (cfg ln Γ ΓL ΓB ΓW).ok Tryz.prog gl:=⟨Q7r,Q66,h,by kernel_rfl,hL,hB,hs,(fun h=>by cases h),hW,Zkg.ok_none⟩
theorem lf{ρ:Type}{C:Cfg}{n:Nat}{c:Code}{k:Exit→St→Option ρ}:Zcf C n c (.leaf:An ρ) k:=Xa c k
theorem hk{α β:Type}{f g:α→Option β}(h: ∀x,f x=g x)(x:α)(r:β)(e:g x=some r):f x=some r:=(h x).trans e
abbrev okE(e:FnE):=Zsx Tryz.prog glob e
abbrev okB(e:FnB):=Qmi Tryz.prog glob e
theorem ofE{e:FnE}{Γ:Env}{ΓB:Zv7}(h1:Γ.ok Tryz.prog glob)(h2:ΓB.ok Tryz.prog glob){fn:Func}(hf:Tryz.prog.funcs[e.f]? =some fn)(hcall: ∀args w,(callFunc e.f args).run Tryz.prog w= .ok (.enter e.f args) w)(A:An (Kb e.res))(hA:Zcf (cfg [] Γ [] ΓB []) fn.ntmps (Qez fn) A (fnK (cfg [] Γ [] ΓB []).τ e.res fn.results.toList))
  (hF: ∀xs r,e.F xs=some r→Zcg (cfg [] Γ [] ΓB []) fn.ntmps (Qez fn) A (fnK (cfg [] Γ [] ΓB []).τ e.res fn.results.toList) (Qmo e.args xs)=some r) (hb:fn.body=some (Qez fn):=by rfl) (hn:e.args.length≤fn.ntmps:=by decide):okE e:=Zsx.of (Q15 rfl h1 Qvt h2 Qvu) rfl hf hb hcall hn A hA hF
theorem ofB{e:FnB}{Γ:Env}{ΓB:Zv7}(L:List Nat)(h1:Γ.ok Tryz.prog glob)(h2:ΓB.ok Tryz.prog glob){fn:Func}(hf:Tryz.prog.funcs[e.f]? =some fn)(hcall: ∀args w,(callFunc e.f args).run Tryz.prog w= .ok (.enter e.f args) w)(A:An (Qah e.res×Zst e.args))(hA:Zcf (cfg L Γ [] ΓB []) fn.ntmps (Qez fn) A (Qxx (cfg L Γ [] ΓB []).τ e.args e.res fn.results.toList))
  (hF: ∀xs r,e.F xs=some r→Zcg (cfg L Γ [] ΓB []) fn.ntmps (Qez fn) A (Qxx (cfg L Γ [] ΓB []).τ e.args e.res fn.results.toList) (Qmp e.args xs)=some r) (hb:fn.body=some (Qez fn):=by rfl) (hn:e.args.length≤fn.ntmps:=by decide) (hlent:L=Zn6 e.args 0:=by rfl):okB e:=Qmi.of (Q15 rfl h1 Qvt h2 Qvu) rfl hlent hf hb hcall hn A hA hF
abbrev Qxq:FnE:={f:=4,args:=[.slice 5 (.int .u8)],res:=[.bool],F:=fun xs=>Qo8 xs.1}
theorem Qwl:okE Qxq:=
 ofE Ze Zb Tryz.func4 Tryz.call4 .leaf lf (hk fun _=>by kernel_rfl)
abbrev Qts:FnB:={f:=19,args:=[.sh (.slice 5 (.int .u8))],res:= .newb 58 (V1),F:=fun xs=>Zqq xs.1}
theorem Z6c:okB Qts:=
 ofB [] Ze Zb Tryz.func19 Tryz.call19 (.seq .leaf (.seq .leaf (.seq (.seq .leaf (.block (.loop Qlz (fun N v=>Zm8 N v.1 v.2.1 v.2.2.1) (fun v=>Zoh v.1 v.2.1 v.2.2.1) (fun K1=> .leaf)))) .leaf))) ⟨lf,lf,⟨lf,fun _=>rfl,fun N=>⟨(fun v=>by kernel_rfl),lf⟩⟩,lf⟩ (hk fun _=>by kernel_rfl)
abbrev Z6z:FnE:={f:=107,args:=[],res:=[Zqa],F:=fun xs=>Zqm}
theorem Z4q:okE Z6z:=
 ofE Ze Zb Tryz.func107 Tryz.call107 .leaf lf (hk fun _=>by kernel_rfl)
abbrev Qrd:FnB:={f:=47,args:=[.bx 58 (V1) (.u false)],res:= .vals [.int .i64],F:=fun xs=>Zh6 xs.1}
theorem Qpm:okB Qrd:=
 ofB [0] Ze Zb Tryz.func47 Tryz.call47 .leaf lf (hk fun _=>by kernel_rfl)
abbrev Qn2:FnB:={f:=30,args:=[.bx 58 (V1) (.u false),.sh (.int .i64)],res:= .vals [.int .i64],F:=fun xs=>Qo xs.1 xs.2.1}
theorem Kc:okB Qn2:=
 ofB [0] Ze (Zs Qpm Zb) Tryz.func30 Tryz.call30 .leaf lf (hk fun _=>by kernel_rfl)
abbrev Qnt:FnB:={f:=81,args:=[.bx 58 (V1) (.u false)],res:= .vals [Zqa],F:=fun xs=>Zl7 xs.1}
theorem Qlm:okB Qnt:=
 ofB [0] (Za Z4q Ze) (Zs Kc Zb) Tryz.func81 Tryz.call81 .leaf lf (hk fun _=>by kernel_rfl)
abbrev Qoj:FnE:={f:=99,args:=[.int .i64],res:=[.bool],F:=fun xs=>Za8 xs.1}
theorem Zsf:okE Qoj:=
 ofE Ze Zb Tryz.func99 Tryz.call99 .leaf lf (hk fun _=>by kernel_rfl)
abbrev Qvq:FnE:={f:=65,args:=[.int .i64,.int .i64,.int .i64],res:=[.bool],F:=fun xs=>Zu xs.1 xs.2.1 xs.2.2.1}
theorem Qj:okE Qvq:=
 ofE Ze Zb Tryz.func65 Tryz.call65 .leaf lf (hk fun _=>by kernel_rfl)
abbrev Qq5:FnE:={f:=66,args:=[Zqa],res:=[.bool],F:=fun xs=>Zbk xs.1}
theorem Zt5:okE Qq5:=
 ofE (Za Zsf (Za Qj Ze)) Zb Tryz.func66 Tryz.call66 .leaf lf (hk fun _=>by kernel_rfl)
abbrev Qrn:FnE:={f:=38,args:=[.int .i64],res:=[.bool],F:=fun xs=>Qd xs.1}
theorem Qr:okE Qrn:=
 ofE (Za Qj Ze) Zb Tryz.func38 Tryz.call38 .leaf lf (hk fun _=>by kernel_rfl)
abbrev Qfo:FnE:={f:=143,args:=[.int .i64],res:=[Yb,.bool],F:=fun xs=>Zg9 xs.1}
theorem Zvd:okE Qfo:=
 ofE (Za Qr Ze) Zb Tryz.func143 Tryz.call143 .leaf lf (hk fun _=>by kernel_rfl)
abbrev Qfr:FnE:={f:=144,args:=[.int .i64,.int .i64],res:=[Wi,.bool],F:=fun xs=>Zhb xs.1 xs.2.1}
theorem Zvf:okE Qfr:=
 ofE (Za Qj Ze) Zb Tryz.func144 Tryz.call144 .leaf lf (hk fun _=>by kernel_rfl)
abbrev Qkn:FnE:={f:=145,args:=[.int .i64],res:=[Zkf,.bool],F:=fun xs=>Zrd xs.1}
theorem Qg6:okE Qkn:=
 ofE (Za Qj Ze) Zb Tryz.func145 Tryz.call145 .leaf lf (hk fun _=>by kernel_rfl)
abbrev Qkl:FnE:={f:=146,args:=[.int .i64],res:=[Yb,.bool],F:=fun xs=>Zrb xs.1}
theorem Qg4:okE Qkl:=
 ofE (Za Qj Ze) Zb Tryz.func146 Tryz.call146 .leaf lf (hk fun _=>by kernel_rfl)
abbrev Qno:FnE:={f:=106,args:=[.bool,Zqa,Zqa],res:=[Zl,.bool],F:=fun xs=>Zpu xs.1 xs.2.1 xs.2.2.1}
theorem Qlh:okE Qno:=
 ofE (Za Zt5 (Za Zvd (Za Zvf (Za Qg6 (Za Qg4 Ze))))) Zb Tryz.func106 Tryz.call106 .leaf lf (hk fun _=>by kernel_rfl)
abbrev Qnp:FnE:={f:=80,args:=[Zqa,Zqa],res:=[Qe,.bool],F:=fun xs=>Zta xs.1 xs.2.1}
theorem Qli:okE Qnp:=
 ofE (Za Qlh Ze) Zb Tryz.func80 Tryz.call80 .leaf lf (hk fun _=>by kernel_rfl)
abbrev Qrs:FnE:={f:=285,args:=[Zce],res:=[Zce],F:=fun xs=>Zou xs.1}
theorem Zuf:okE Qrs:=
 ofE Ze Zb Tryz.func285 Tryz.call285 .leaf lf (hk fun _=>by kernel_rfl)
abbrev Qrk:FnE:={f:=141,args:=[.slice 124 (Zr)],res:=[.slice 124 (Zr)],F:=fun xs=>Zf0 xs.1}
theorem Zuc:okE Qrk:=
 ofE Ze Zb Tryz.func141 Tryz.call141 .leaf lf (hk fun _=>by kernel_rfl)
abbrev Qrt:FnE:={f:=248,args:=[Z8],res:=[Z8],F:=fun xs=>Zbq xs.1}
theorem Zbe:okE Qrt:=
 ofE (Za Zuf (Za Zuc Ze)) Zb Tryz.func248 Tryz.call248 .leaf lf (hk fun _=>by kernel_rfl)
abbrev Qrq:FnE:={f:=286,args:=[Ye],res:=[Ye],F:=fun xs=>Zh8 xs.1}
theorem Zue:okE Qrq:=
 ofE Ze Zb Tryz.func286 Tryz.call286 .leaf lf (hk fun _=>by kernel_rfl)
abbrev Qrr:FnE:={f:=249,args:=[Q5],res:=[Q5],F:=fun xs=>Zlm xs.1}
theorem Zpg:okE Qrr:=
 ofE (Za Zue Ze) Zb Tryz.func249 Tryz.call249 .leaf lf (hk fun _=>by kernel_rfl)
abbrev Qnu:FnE:={f:=204,args:=[Z2],res:=[Z2],F:=fun xs=>Zc0 xs.1}
theorem Zsd:okE Qnu:=
 ofE (Za Zbe (Za Zpg Ze)) Zb Tryz.func204 Tryz.call204 .leaf lf (hk fun _=>by kernel_rfl)
abbrev Qbv:FnE:={f:=205,args:=[.slice 83 (J6)],res:=[.slice 83 (J6)],F:=fun xs=>Znx xs.1}
theorem Z8w:okE Qbv:=
 ofE Ze Zb Tryz.func205 Tryz.call205 (.seq .leaf (.seq .leaf (.seq (.seq .leaf (.block (.loop Z24 (fun N v=>Zej N v.1 v.2.1 v.2.2.1) (fun v=>Zho v.1 v.2.1 v.2.2.1) (fun K1=> .leaf)))) .leaf))) ⟨lf,lf,⟨lf,fun _=>rfl,fun N=>⟨(fun v=>by kernel_rfl),lf⟩⟩,lf⟩ (hk fun _=>by kernel_rfl)
abbrev Qnv:FnE:={f:=147,args:=[Zl],res:=[Zl],F:=fun xs=>Zw xs.1}
theorem Qc:okE Qnv:=
 ofE (Za Zsd (Za Z8w Ze)) Zb Tryz.func147 Tryz.call147 (.seq .leaf (.seq .leaf (.seq .leaf (.seq (.seq .leaf (.block (.loop Qdq (fun N v=>Zjb N v.1 v.2.1 v.2.2.1 v.2.2.2.1) (fun v=>Zlc v.1 v.2.1 v.2.2.1 v.2.2.2.1) (fun K1=> .leaf)))) .leaf)))) ⟨lf,lf,lf,⟨lf,fun _=>rfl,fun N=>⟨(fun v=>by kernel_rfl),lf⟩⟩,lf⟩ (hk fun _=>by kernel_rfl)
abbrev Qn9:FnE:={f:=148,args:=[.slice 78 (Qs)],res:=[.slice 78 (Qs)],F:=fun xs=>Ys xs.1}
theorem Zix:okE Qn9:=
 ofE Ze Zb Tryz.func148 Tryz.call148 .leaf lf (hk fun _=>by kernel_rfl)
abbrev Qoa:FnE:={f:=108,args:=[Qe],res:=[Qe],F:=fun xs=>Zc2 xs.1}
theorem Zng:okE Qoa:=
 ofE (Za Qc (Za Zix Ze)) Zb Tryz.func108 Tryz.call108 .leaf lf (hk fun _=>by kernel_rfl)
abbrev Qq9:FnE:={f:=196,args:=[Zce],res:=[.bool],F:=fun xs=>Zbl xs.1}
theorem Zpd:okE Qq9:=
 ofE (Za Zsf (Za Qj Ze)) Zb Tryz.func196 Tryz.call196 (.seq .leaf (.seq .leaf (.seq (.seq .leaf (.block (.loop Qhz (fun N v=>Zd7 N v.1 v.2.1) (fun v=>Wp v.1 v.2.1) (fun K1=> .leaf)))) .leaf))) ⟨lf,lf,⟨lf,fun _=>rfl,fun N=>⟨(fun v=>by kernel_rfl),lf⟩⟩,lf⟩ (hk fun _=>by kernel_rfl)
abbrev Qrl:FnE:={f:=140,args:=[Zr],res:=[.bool],F:=fun xs=>Zr2 xs.1}
theorem Zud:okE Qrl:=
 ofE Ze Zb Tryz.func140 Tryz.call140 .leaf lf (hk fun _=>by kernel_rfl)
abbrev Qkf:FnE:={f:=139,args:=[.slice 124 (Zr)],res:=[.bool],F:=fun xs=>Y1 xs.1}
theorem Zdf:okE Qkf:=
 ofE (Za Zud Ze) Zb Tryz.func139 Tryz.call139 (.seq .leaf (.seq (.seq .leaf (.block (.loop Z9i (fun N v=>V0 N v.1 v.2.1) (fun v=>Zak v.1 v.2.1) (fun K1=> .leaf)))) .leaf)) ⟨lf,⟨lf,fun _=>rfl,fun N=>⟨(fun v=>by kernel_rfl),lf⟩⟩,lf⟩ (hk fun _=>by kernel_rfl)
abbrev Qj7:FnE:={f:=102,args:=[.slice 124 (Zr),Zr],res:=[.slice 124 (Zr)],F:=fun xs=>Jb xs.1 xs.2.1}
theorem Zat:okE Qj7:=
 ofE (Za Zdf (Za Zud (Za Zuc Ze))) Zb Tryz.func102 Tryz.call102 (.seq .leaf (.seq .leaf (.seq .leaf (.seq .leaf (.seq (.seq .leaf (.block (.loop Z9d (fun N v=>Yg N v.1 v.2.1 v.2.2.1 v.2.2.2.1 v.2.2.2.2.1) (fun v=>Zet v.1 v.2.1 v.2.2.1 v.2.2.2.1 v.2.2.2.2.1) (fun K1=>(.seq .leaf (.join Z9b (fun v=>Vu K1 v.1 v.2.1 v.2.2.1 v.2.2.2.1 v.2.2.2.2.1) (.block (.block (.seq .leaf (.cond .leaf (.seq .leaf (.cond (.join Z9c (fun v=>Zgy K1 v.1 v.2.1 v.2.2.1 v.2.2.2.1 v.2.2.2.2.1) .leaf .leaf) .leaf)))))) .leaf)))))) .leaf))))) ⟨lf,lf,lf,lf,⟨lf,fun _=>rfl,fun N=>⟨(fun v=>by kernel_rfl),lf,⟨lf,lf,lf,⟨lf,(fun v=>by kernel_rfl),lf⟩,lf⟩,(fun v=>by kernel_rfl),lf⟩⟩,lf⟩ (hk fun _=>by kernel_rfl)
abbrev Z37:FnE:={f:=197,args:=[.slice 124 (Zr)],res:=[.int .i64],F:=fun xs=>Js xs.1}
theorem Z1p:okE Z37:=
 ofE (Za Zdf Ze) Zb Tryz.func197 Tryz.call197 (.seq .leaf (.seq .leaf (.seq .leaf (.seq (.seq .leaf (.block (.loop Zyv (fun N v=>Y3 N v.1 v.2.1 v.2.2.1) (fun v=>W7 v.1 v.2.1 v.2.2.1) (fun K1=> .leaf)))) .leaf)))) ⟨lf,lf,lf,⟨lf,fun _=>rfl,fun N=>⟨(fun v=>by kernel_rfl),lf⟩⟩,lf⟩ (hk fun _=>by kernel_rfl)
abbrev Qka:FnE:={f:=198,args:=[.slice 124 (Zr),.int .i64],res:=[.int .i64],F:=fun xs=>Zf4 xs.1 xs.2.1}
theorem Zwn:okE Qka:=
 ofE (Za Zdf Ze) Zb Tryz.func198 Tryz.call198 (.seq .leaf (.seq .leaf (.seq (.seq .leaf (.block (.loop Z9g (fun N v=>Jg N v.1 v.2.1 v.2.2.1) (fun v=>Zjv v.1 v.2.1 v.2.2.1) (fun K1=>(.seq .leaf (.join Z9f (fun v=>Zg4 K1 v.1 v.2.1 v.2.2.1) .leaf .leaf)))))) .leaf))) ⟨lf,lf,⟨lf,fun _=>rfl,fun N=>⟨(fun v=>by kernel_rfl),lf,lf,(fun v=>by kernel_rfl),lf⟩⟩,lf⟩ (hk fun _=>by kernel_rfl)
abbrev Qom:FnE:={f:=199,args:=[Z8],res:=[.int .i64],F:=fun xs=>Vb xs.1}
theorem Znh:okE Qom:=
 ofE Ze Zb Tryz.func199 Tryz.call199 .leaf lf (hk fun _=>by kernel_rfl)
abbrev Qkg:FnE:={f:=134,args:=[Z8],res:=[.bool],F:=fun xs=>Yd xs.1}
theorem Jd:okE Qkg:=
 ofE (Za Zpd (Za Zdf (Za Qj (Za Qr (Za Zat (Za Z1p (Za Zwn (Za Znh Ze)))))))) Zb Tryz.func134 Tryz.call134 (.seq .leaf (.seq .leaf (.seq .leaf (.seq .leaf (.seq (.seq .leaf (.block (.loop Z9j (fun N v=>Jh N v.1 v.2.1 v.2.2.1) (fun v=>J0 v.1 v.2.1 v.2.2.1) (fun K1=> .leaf)))) (.seq (.seq .leaf (.block (.loop Z9k (fun N v=>Ji N v.1 v.2.1 v.2.2.1) (fun v=>Zal v.1 v.2.1 v.2.2.1) (fun K2=> .leaf)))) (.seq .leaf (.seq .leaf (.seq (.seq .leaf (.block (.loop Z9l (fun N v=>Jj N v.1 v.2.1) (fun v=>Zam v.1 v.2.1) (fun K3=> .leaf)))) (.seq (.seq .leaf (.block (.loop Z9m (fun N v=>Jk N v.1 v.2.1) (fun v=>Zev v.1 v.2.1) (fun K4=> .leaf)))) .leaf)))))))))) ⟨lf,lf,lf,lf,⟨lf,fun _=>rfl,fun N=>⟨(fun v=>by kernel_rfl),lf⟩⟩,⟨lf,fun _=>rfl,fun N=>⟨(fun v=>by kernel_rfl),lf⟩⟩,lf,lf,⟨lf,fun _=>rfl,fun N=>⟨(fun v=>by kernel_rfl),lf⟩⟩,⟨lf,fun _=>rfl,fun N=>⟨(fun v=>by kernel_rfl),lf⟩⟩,lf⟩ (hk fun _=>by kernel_rfl)
abbrev Qkd:FnE:={f:=68,args:=[Yb],res:=[.bool],F:=fun xs=>Y0 xs.1}
theorem Vs:okE Qkd:=
 ofE (Za Qr (Za Qj Ze)) Zb Tryz.func68 Tryz.call68 .leaf lf (hk fun _=>by kernel_rfl)
abbrev Qkb:FnE:={f:=200,args:=[Ye],res:=[.bool],F:=fun xs=>Zc9 xs.1}
theorem Zgr:okE Qkb:=
 ofE (Za Qr Ze) Zb Tryz.func200 Tryz.call200 (.seq .leaf (.seq .leaf (.seq (.seq .leaf (.block (.loop Z9h (fun N v=>Zdi N v.1 v.2.1 v.2.2.1) (fun v=>Zjw v.1 v.2.1 v.2.2.1) (fun K1=> .leaf)))) .leaf))) ⟨lf,lf,⟨lf,fun _=>rfl,fun N=>⟨(fun v=>by kernel_rfl),lf⟩⟩,lf⟩ (hk fun _=>by kernel_rfl)
abbrev Qtq:FnE:={f:=201,args:=[Ye],res:=[.int .i64],F:=fun xs=>Zqo xs.1}
theorem Qry:okE Qtq:=
 ofE (Za Zgr Ze) Zb Tryz.func201 Tryz.call201 .leaf lf (hk fun _=>by kernel_rfl)
abbrev Qbs:FnE:={f:=202,args:=[Ye],res:=[.int .i64],F:=fun xs=>Wv xs.1}
theorem Zoc:okE Qbs:=
 ofE (Za Zgr Ze) Zb Tryz.func202 Tryz.call202 .leaf lf (hk fun _=>by kernel_rfl)
abbrev Qbf:FnE:={f:=135,args:=[Q5],res:=[.bool],F:=fun xs=>Yh xs.1}
theorem Zau:okE Qbf:=
 ofE (Za Zgr (Za Qr (Za Qry (Za Zoc Ze)))) Zb Tryz.func135 Tryz.call135 (.seq .leaf (.seq .leaf (.seq .leaf (.seq (.seq .leaf (.block (.seq .leaf (.cond .leaf (.seq .leaf (.cond .leaf (.seq .leaf (.cond .leaf (.seq .leaf (.cond .leaf (.join Z2q (fun v=>Y7 v.1 v.2.1) .leaf .leaf))))))))))) .leaf)))) ⟨lf,lf,lf,⟨lf,lf,lf,lf,lf,lf,lf,lf,lf,lf,(fun v=>by kernel_rfl),lf⟩,lf⟩ (hk fun _=>by kernel_rfl)
abbrev Qki:FnE:={f:=69,args:=[Wi],res:=[.bool],F:=fun xs=>J5 xs.1}
theorem Zgt:okE Qki:=
 ofE (Za Qj Ze) Zb Tryz.func69 Tryz.call69 .leaf lf (hk fun _=>by kernel_rfl)
abbrev Qbd:FnE:={f:=136,args:=[Ja],res:=[.bool],F:=fun xs=>Zca xs.1}
theorem Zob:okE Qbd:=
 ofE (Za Qj Ze) Zb Tryz.func136 Tryz.call136 .leaf lf (hk fun _=>by kernel_rfl)
abbrev Qkh:FnE:={f:=100,args:=[Z2],res:=[.bool],F:=fun xs=>J4 xs.1}
theorem Zwp:okE Qkh:=
 ofE (Za Qr (Za Jd (Za Vs (Za Zau (Za Zgt (Za Zob Ze)))))) Zb Tryz.func100 Tryz.call100 .leaf lf (hk fun _=>by kernel_rfl)
abbrev Qa1:FnE:={f:=67,args:=[.slice 99 (Z2)],res:=[.bool],F:=fun xs=>Yu xs.1}
theorem Zn9:okE Qa1:=
 ofE (Za Zwp Ze) Zb Tryz.func67 Tryz.call67 (.seq .leaf (.seq (.seq .leaf (.block (.loop Z2e (fun N v=>X6 N v.1 v.2.1) (fun v=>Vv v.1 v.2.1) (fun K1=> .leaf)))) .leaf)) ⟨lf,⟨lf,fun _=>rfl,fun N=>⟨(fun v=>by kernel_rfl),lf⟩⟩,lf⟩ (hk fun _=>by kernel_rfl)
abbrev Qnk:FnE:={f:=70,args:=[Zkf],res:=[.bool],F:=fun xs=>Za5 xs.1}
theorem Zsc:okE Qnk:=
 ofE (Za Qj Ze) Zb Tryz.func70 Tryz.call70 .leaf lf (hk fun _=>by kernel_rfl)
abbrev Qnj:FnE:={f:=71,args:=[Yb],res:=[.bool],F:=fun xs=>We xs.1}
theorem Znf:okE Qnj:=
 ofE (Za Qj Ze) Zb Tryz.func71 Tryz.call71 .leaf lf (hk fun _=>by kernel_rfl)
abbrev Qkj:FnE:={f:=137,args:=[.int .i64],res:=[.str],F:=fun xs=>Zda xs.1}
theorem Qg3:okE Qkj:=
 ofE Ze Zb Tryz.func137 Tryz.call137 .leaf lf (hk fun _=>by kernel_rfl)
abbrev Z03:FnE:={f:=203,args:=[Zt],res:=[.bool],F:=fun xs=>K6 xs.1}
theorem Zjt:okE Z03:=
 ofE Ze Zb Tryz.func203 Tryz.call203 (.seq .leaf (.seq (.seq .leaf (.block (.join Zxb (fun v=>X9 v.1) .leaf .leaf))) .leaf)) ⟨lf,⟨lf,lf,(fun v=>by kernel_rfl),lf⟩,lf⟩ (hk fun _=>by kernel_rfl)
abbrev Qrp:FnE:={f:=138,args:=[Zt],res:=[Zt],F:=fun xs=>Zh7 xs.1}
theorem Z1x:okE Qrp:=
 ofE (Za Zjt Ze) Zb Tryz.func138 Tryz.call138 (.seq .leaf (.seq .leaf (.join Qh8 (fun v=>Zh0 v.1 v.2.1 v.2.2.1) .leaf (.seq (.seq .leaf (.block (.seq .leaf (.cond .leaf (.seq .leaf (.cond .leaf (.seq .leaf (.cond .leaf (.join Qh9 (fun v=>Zh1 v.1 v.2.1 v.2.2.1 v.2.2.2.1) .leaf .leaf))))))))) .leaf)))) ⟨lf,lf,lf,(fun v=>by kernel_rfl),⟨lf,lf,lf,lf,lf,lf,lf,lf,(fun v=>by kernel_rfl),lf⟩,lf⟩ (hk fun _=>by kernel_rfl)
abbrev Qnm:FnE:={f:=101,args:=[Zt],res:=[.bool],F:=fun xs=>J9 xs.1}
theorem Wt:okE Qnm:=
 ofE (Za Qg3 (Za Z1x (Za Qr Ze))) Zb Tryz.func101 Tryz.call101 (.seq .leaf (.seq .leaf (.seq (.seq .leaf (.block (.seq .leaf (.cond .leaf (.join Qdl (fun v=>Zno v.1 v.2.1) .leaf .leaf))))) .leaf))) ⟨lf,lf,⟨lf,lf,lf,lf,(fun v=>by kernel_rfl),lf⟩,lf⟩ (hk fun _=>by kernel_rfl)
abbrev Qf3:FnE:={f:=72,args:=[.slice 115 (Zt)],res:=[.bool],F:=fun xs=>Zhn xs.1}
theorem Qc0:okE Qf3:=
 ofE (Za Wt Ze) Zb Tryz.func72 Tryz.call72 (.seq .leaf (.seq (.seq .leaf (.block (.loop Z5r (fun N v=>Wh N v.1 v.2.1) (fun v=>Jm v.1 v.2.1) (fun K1=> .leaf)))) .leaf)) ⟨lf,⟨lf,fun _=>rfl,fun N=>⟨(fun v=>by kernel_rfl),lf⟩⟩,lf⟩ (hk fun _=>by kernel_rfl)
abbrev Qfy:FnE:={f:=73,args:=[.slice 99 (Z2)],res:=[.int .i64],F:=fun xs=>Zeg xs.1}
theorem Zvi:okE Qfy:=
 ofE (Za Zn9 Ze) Zb Tryz.func73 Tryz.call73 (.seq .leaf (.seq .leaf (.seq (.seq .leaf (.block (.loop Z5o (fun N v=>Jw N v.1 v.2.1 v.2.2.1) (fun v=>Y9 v.1 v.2.1 v.2.2.1) (fun K1=> .leaf)))) .leaf))) ⟨lf,lf,⟨lf,fun _=>rfl,fun N=>⟨(fun v=>by kernel_rfl),lf⟩⟩,lf⟩ (hk fun _=>by kernel_rfl)
abbrev Qfw:FnE:={f:=74,args:=[.slice 99 (Z2)],res:=[.int .i64],F:=fun xs=>Zef xs.1}
theorem Zvh:okE Qfw:=
 ofE (Za Zn9 Ze) Zb Tryz.func74 Tryz.call74 (.seq .leaf (.seq .leaf (.seq (.seq .leaf (.block (.loop Z5l (fun N v=>Jv N v.1 v.2.1 v.2.2.1) (fun v=>Y8 v.1 v.2.1 v.2.2.1) (fun K1=> .leaf)))) .leaf))) ⟨lf,lf,⟨lf,fun _=>rfl,fun N=>⟨(fun v=>by kernel_rfl),lf⟩⟩,lf⟩ (hk fun _=>by kernel_rfl)
abbrev Qq6:FnE:={f:=39,args:=[Zl],res:=[.bool],F:=fun xs=>Z6 xs.1}
theorem Xo:okE Qq6:=
 ofE (Za Zt5 (Za Zn9 (Za Vs (Za Zgt (Za Zsc (Za Znf (Za Qj (Za Qc0 (Za Zvi (Za Zvh Ze)))))))))) Zb Tryz.func39 Tryz.call39 (.seq .leaf (.seq .leaf (.seq (.seq .leaf (.block (.loop Qhx (fun N v=>K7 N v.1 v.2.1) (fun v=>Kj v.1 v.2.1) (fun K1=> .leaf)))) .leaf))) ⟨lf,lf,⟨lf,fun _=>rfl,fun N=>⟨(fun v=>by kernel_rfl),lf⟩⟩,lf⟩ (hk fun _=>by kernel_rfl)
abbrev Qa0:FnE:={f:=40,args:=[.slice 78 (Qs)],res:=[.bool],F:=fun xs=>Wu xs.1}
theorem Z8d:okE Qa0:=
 ofE (Za Qj Ze) Zb Tryz.func40 Tryz.call40 (.seq .leaf (.seq (.seq .leaf (.block (.loop Z2d (fun N v=>Vh N v.1 v.2.1) (fun v=>Ku v.1 v.2.1) (fun K1=> .leaf)))) .leaf)) ⟨lf,⟨lf,fun _=>rfl,fun N=>⟨(fun v=>by kernel_rfl),lf⟩⟩,lf⟩ (hk fun _=>by kernel_rfl)
abbrev Qq8:FnE:={f:=25,args:=[Qe],res:=[.bool],F:=fun xs=>Zfm xs.1}
theorem Zks:okE Qq8:=
 ofE (Za Qr (Za Xo (Za Z8d Ze))) Zb Tryz.func25 Tryz.call25 (.seq .leaf (.seq (.seq .leaf (.block (.loop Qhy (fun N v=>Zd6 N v.1 v.2.1) (fun v=>Wo v.1 v.2.1) (fun K1=> .leaf)))) .leaf)) ⟨lf,⟨lf,fun _=>rfl,fun N=>⟨(fun v=>by kernel_rfl),lf⟩⟩,lf⟩ (hk fun _=>by kernel_rfl)
abbrev Qfe:FnE:={f:=149,args:=[.int .i64],res:=[.str],F:=fun xs=>Zpp xs.1}
theorem Qco:okE Qfe:=
 ofE (Za Qj Ze) Zb Tryz.func149 Tryz.call149 .leaf lf (hk fun _=>by kernel_rfl)
abbrev Qn8:FnE:={f:=150,args:=[Vc],res:=[Vc],F:=fun xs=>Zp4 xs.1}
theorem Zzi:okE Qn8:=
 ofE Ze Zb Tryz.func150 Tryz.call150 (.seq .leaf (.seq .leaf (.seq (.seq .leaf (.block (.join Qd1 (fun v=>Zjf v.1 v.2.1 v.2.2.1 v.2.2.2.1 v.2.2.2.2.1) .leaf (.cond .leaf (.join Qd2 (fun v=>Zjg v.1 v.2.1 v.2.2.1 v.2.2.2.1 v.2.2.2.2.1) .leaf (.cond .leaf (.seq .leaf (.cond .leaf (.join Qd3 (fun v=>Ze7 v.1 v.2.1 v.2.2.1 v.2.2.2.1) .leaf .leaf))))))))) .leaf))) ⟨lf,lf,⟨lf,lf,(fun v=>by kernel_rfl),lf,lf,(fun v=>by kernel_rfl),lf,lf,lf,lf,(fun v=>by kernel_rfl),lf⟩,lf⟩ (hk fun _=>by kernel_rfl)
abbrev Qby:FnE:={f:=151,args:=[.str],res:=[.bool],F:=fun xs=>Zsm xs.1}
theorem Z8z:okE Qby:=
 ofE (Za Qj Ze) Zb Tryz.func151 Tryz.call151 (.seq .leaf (.seq (.seq .leaf (.block (.loop Z29 (fun N v=>Zem N v.1 v.2.1) (fun v=>Zhu v.1 v.2.1) (fun K1=> .leaf)))) .leaf)) ⟨lf,⟨lf,fun _=>rfl,fun N=>⟨(fun v=>by kernel_rfl),lf⟩⟩,lf⟩ (hk fun _=>by kernel_rfl)
abbrev Z4c:FnE:={f:=152,args:=[.str],res:=[.bool],F:=fun xs=>Zp5 xs.1}
theorem Z1v:okE Z4c:=
 ofE (Za Qj Ze) Zb Tryz.func152 Tryz.call152 (.seq .leaf (.seq (.seq .leaf (.block (.loop Zy2 (fun N v=>Zbp N v.1 v.2.1) (fun v=>Zez v.1 v.2.1) (fun K1=> .leaf)))) .leaf)) ⟨lf,⟨lf,fun _=>rfl,fun N=>⟨(fun v=>by kernel_rfl),lf⟩⟩,lf⟩ (hk fun _=>by kernel_rfl)
abbrev Qn3:FnE:={f:=229,args:=[.int .i64],res:=[.int .u8],F:=fun xs=>Zfw xs.1}
theorem Zzg:okE Qn3:=
 ofE Ze Zb Tryz.func229 Tryz.call229 .leaf lf (hk fun _=>by kernel_rfl)
abbrev Qf4:FnE:={f:=206,args:=[.int .u8],res:=[.int .i64],F:=fun xs=>Zp1 xs.1}
theorem Qc1:okE Qf4:=
 ofE (Za Zzg Ze) Zb Tryz.func206 Tryz.call206 (.seq .leaf (.seq (.seq .leaf (.block (.loop Z5s (fun N v=>Jx N v.1 v.2.1) (fun v=>Zin v.1 v.2.1) (fun K1=> .leaf)))) .leaf)) ⟨lf,⟨lf,fun _=>rfl,fun N=>⟨(fun v=>by kernel_rfl),lf⟩⟩,lf⟩ (hk fun _=>by kernel_rfl)
abbrev Qfb:FnE:={f:=153,args:=[.str],res:=[.str,.bool],F:=fun xs=>Zk0 xs.1}
theorem Zva:okE Qfb:=
 ofE (Za Qc1 Ze) Zb Tryz.func153 Tryz.call153 (.seq .leaf (.seq .leaf (.seq .leaf (.seq (.seq .leaf (.block (.loop Z47 (fun N v=>Zfj N v.1 v.2.1 v.2.2.1) (fun v=>Zie v.1 v.2.1 v.2.2.1) (fun K1=> .leaf)))) .leaf)))) ⟨lf,lf,lf,⟨lf,fun _=>rfl,fun N=>⟨(fun v=>by kernel_rfl),lf⟩⟩,lf⟩ (hk fun _=>by kernel_rfl)
abbrev Qnl:FnE:={f:=109,args:=[Vc],res:=[.bool],F:=fun xs=>Zpr xs.1}
theorem Zzd:okE Qnl:=
 ofE (Za Qco (Za Zzi (Za Qj (Za Z8z (Za Z1v (Za Zva Ze)))))) Zb Tryz.func109 Tryz.call109 .leaf lf (hk fun _=>by kernel_rfl)
abbrev Qfj:FnE:={f:=110,args:=[Qe,.bool],res:=[.slice 78 (Qs)],F:=fun xs=>Zbm xs.1 xs.2.1}
theorem Zj7:okE Qfj:=
 ofE (Za Zix Ze) Zb Tryz.func110 Tryz.call110 .leaf lf (hk fun _=>by kernel_rfl)
abbrev Qq4:FnE:={f:=111,args:=[Qe,.bool],res:=[Zl],F:=fun xs=>Zc8 xs.1 xs.2.1}
theorem Zt2:okE Qq4:=
 ofE (Za Qc Ze) Zb Tryz.func111 Tryz.call111 .leaf lf (hk fun _=>by kernel_rfl)
abbrev Qkc:FnE:={f:=26,args:=[Zl],res:=[.bool],F:=fun xs=>V7 xs.1}
theorem Zgs:okE Qkc:=
 ofE Ze Zb Tryz.func26 Tryz.call26 .leaf lf (hk fun _=>by kernel_rfl)
abbrev Qn1:FnE:={f:=154,args:=[Zl],res:=[.bool],F:=fun xs=>Yr xs.1}
theorem Yt:okE Qn1:=
 ofE (Za Xo (Za Zgs Ze)) Zb Tryz.func154 Tryz.call154 .leaf lf (hk fun _=>by kernel_rfl)
abbrev Qfn:FnE:={f:=250,args:=[Wi],res:=[.bool],F:=fun xs=>Zg8 xs.1}
theorem Zpe:okE Qfn:=
 ofE (Za Zgt Ze) Zb Tryz.func250 Tryz.call250 .leaf lf (hk fun _=>by kernel_rfl)
abbrev Z7a:FnE:={f:=251,args:=[Wi,.int .i64,.int .i64],res:=[Wi,.bool],F:=fun xs=>Zhj xs.1 xs.2.1 xs.2.2.1}
theorem Zsu:okE Z7a:=
 ofE (Za Zpe (Za Qj Ze)) Zb Tryz.func251 Tryz.call251 (.seq .leaf (.seq .leaf (.join Z0i (fun v=>Zge v.1 v.2.1 v.2.2.1) .leaf .leaf))) ⟨lf,lf,lf,(fun v=>by kernel_rfl),lf⟩ (hk fun _=>by kernel_rfl)
abbrev Qk2:FnE:={f:=207,args:=[Zl],res:=[Wi,.bool],F:=fun xs=>Zm9 xs.1}
theorem Zwu:okE Qk2:=
 ofE (Za Zpe (Za Zsu Ze)) Zb Tryz.func207 Tryz.call207 .leaf lf (hk fun _=>by kernel_rfl)
abbrev Qfm:FnE:={f:=252,args:=[Yb],res:=[.bool],F:=fun xs=>Zk5 xs.1}
theorem Zvc:okE Qfm:=
 ofE (Za Znf Ze) Zb Tryz.func252 Tryz.call252 .leaf lf (hk fun _=>by kernel_rfl)
abbrev Qbo:FnE:={f:=253,args:=[Yb],res:=[Yb,.bool],F:=fun xs=>Znu xs.1}
theorem Z8s:okE Qbo:=
 ofE (Za Zvc Ze) Zb Tryz.func253 Tryz.call253 .leaf lf (hk fun _=>by kernel_rfl)
abbrev Qk0:FnE:={f:=208,args:=[Yb,.bool],res:=[Yb,.bool],F:=fun xs=>Zf5 xs.1 xs.2.1}
theorem Zwt:okE Qk0:=
 ofE (Za Zvc (Za Z8s Ze)) Zb Tryz.func208 Tryz.call208 .leaf lf (hk fun _=>by kernel_rfl)
abbrev Qf7:FnE:={f:=254,args:=[Zl,Z2],res:=[Wi,.bool],F:=fun xs=>Zlg xs.1 xs.2.1}
theorem Zvl:okE Qf7:=
 ofE (Za Zpe (Za Zsu Ze)) Zb Tryz.func254 Tryz.call254 .leaf lf (hk fun _=>by kernel_rfl)
abbrev Qkk:FnE:={f:=210,args:=[Yb],res:=[.bool],F:=fun xs=>Zm3 xs.1}
theorem Zwq:okE Qkk:=
 ofE (Za Vs Ze) Zb Tryz.func210 Tryz.call210 .leaf lf (hk fun _=>by kernel_rfl)
abbrev Qf6:FnE:={f:=209,args:=[Zl,Z2],res:=[.slice 115 (Zt)],F:=fun xs=>Zp2 xs.1 xs.2.1}
theorem Qc2:okE Qf6:=
 ofE (Za Zvl (Za Zwq Ze)) Zb Tryz.func209 Tryz.call209 (.seq .leaf (.seq .leaf (.join Z5t (fun v=>Zfx v.1 v.2.1 v.2.2.1) .leaf (.join Z5u (fun v=>Zfy v.1 v.2.1 v.2.2.1) .leaf (.seq .leaf (.join Z5v (fun v=>Zfz v.1 v.2.1) .leaf .leaf)))))) ⟨lf,lf,lf,(fun v=>by kernel_rfl),lf,(fun v=>by kernel_rfl),lf,lf,(fun v=>by kernel_rfl),lf⟩ (hk fun _=>by kernel_rfl)
abbrev Z0z:FnE:={f:=155,args:=[Zl],res:=[.slice 115 (Zt)],F:=fun xs=>Zid xs.1}
theorem Zzu:okE Z0z:=
 ofE (Za Yt (Za Zwu (Za Zwt (Za Qc2 (Za Zwq Ze))))) Zb Tryz.func155 Tryz.call155 (.seq .leaf (.seq .leaf (.seq .leaf (.seq .leaf (.join Zw1 (fun v=>Zad v.1 v.2.1) .leaf (.seq .leaf (.join Zw2 (fun v=>Zae v.1 v.2.1) .leaf (.seq .leaf (.join Zw3 (fun v=>Zaf v.1 v.2.1) .leaf (.seq (.seq .leaf (.block (.loop Zw6 (fun N v=>Zai N v.1 v.2.1 v.2.2.1) (fun v=>Zdv v.1 v.2.1 v.2.2.1) (fun K1=> .leaf)))) (.join Zw4 (fun v=>Zag v.1 v.2.1) .leaf (.join Zw5 (fun v=>Zah v.1 v.2.1) .leaf .leaf)))))))))))) ⟨lf,lf,lf,lf,lf,(fun v=>by kernel_rfl),lf,lf,(fun v=>by kernel_rfl),lf,lf,(fun v=>by kernel_rfl),⟨lf,fun _=>rfl,fun N=>⟨(fun v=>by kernel_rfl),lf⟩⟩,lf,(fun v=>by kernel_rfl),lf,(fun v=>by kernel_rfl),lf⟩ (hk fun _=>by kernel_rfl)
abbrev Qkw:FnE:={f:=282,args:=[.int .i64],res:=[.int .i64],F:=fun xs=>Zm7 xs.1}
theorem Zws:okE Qkw:=
 ofE Ze Zb Tryz.func282 Tryz.call282 .leaf lf (hk fun _=>by kernel_rfl)
abbrev Z60:FnE:={f:=315,args:=[.int .i64,.int .i64],res:=[.str],F:=fun xs=>Zqn xs.1 xs.2.1}
theorem Z4r:okE Z60:=
 ofE (Za Qj Ze) Zb Tryz.func315 Tryz.call315 (.seq .leaf (.seq .leaf (.seq .leaf (.seq (.seq .leaf (.block (.loop Zz6 (fun N v=>Wm N v.1 v.2.1 v.2.2.1 v.2.2.2.1) (fun v=>Zm2 v.1 v.2.1 v.2.2.1 v.2.2.2.1) (fun K1=> .leaf)))) .leaf)))) ⟨lf,lf,lf,⟨lf,fun _=>rfl,fun N=>⟨(fun v=>by kernel_rfl),lf⟩⟩,lf⟩ (hk fun _=>by kernel_rfl)
abbrev Qrj:FnE:={f:=306,args:=[.int .i64],res:=[.str],F:=fun xs=>Zot xs.1}
theorem Zub:okE Qrj:=
 ofE (Za Z4r Ze) Zb Tryz.func306 Tryz.call306 .leaf lf (hk fun _=>by kernel_rfl)
abbrev Qa6:FnE:={f:=283,args:=[.int .i64],res:=[.str],F:=fun xs=>Znk xs.1}
theorem Z8g:okE Qa6:=
 ofE (Za Zws (Za Zub Ze)) Zb Tryz.func283 Tryz.call283 (.seq .leaf (.seq .leaf (.seq .leaf (.seq (.seq .leaf (.block (.loop Z2j (fun N v=>X7 N v.1 v.2.1 v.2.2.1 v.2.2.2.1) (fun v=>Zg2 v.1 v.2.1 v.2.2.1 v.2.2.2.1) (fun K1=>(.seq .leaf (.seq (.block (.seq .leaf (.join Z2i (fun v=>K0 K1 v.1 v.2.1 v.2.2.1 v.2.2.2.1 v.2.2.2.2.1) .leaf .leaf))) .leaf)))))) .leaf)))) ⟨lf,lf,lf,⟨lf,fun _=>rfl,fun N=>⟨(fun v=>by kernel_rfl),lf,⟨lf,lf,(fun v=>by kernel_rfl),lf⟩,lf⟩⟩,lf⟩ (hk fun _=>by kernel_rfl)
abbrev Z62:FnE:={f:=241,args:=[.slice 3 (.int .i64)],res:=[.str],F:=fun xs=>Xv xs.1}
theorem Z4s:okE Z62:=
 ofE (Za Zws (Za Z8g Ze)) Zb Tryz.func241 Tryz.call241 (.seq .leaf (.seq .leaf (.seq (.seq .leaf (.block (.loop Z0b (fun N v=>Zcl N v.1 v.2.1 v.2.2.1) (fun v=>Zf3 v.1 v.2.1 v.2.2.1) (fun K1=> .leaf)))) .leaf))) ⟨lf,lf,⟨lf,fun _=>rfl,fun N=>⟨(fun v=>by kernel_rfl),lf⟩⟩,lf⟩ (hk fun _=>by kernel_rfl)
abbrev Z61:FnE:={f:=178,args:=[Zt],res:=[.str],F:=fun xs=>Zdh xs.1}
theorem Zml:okE Z61:=
 ofE (Za Wt (Za Z4s Ze)) Zb Tryz.func178 Tryz.call178 (.seq .leaf (.seq .leaf (.seq (.seq .leaf (.block (.seq .leaf (.cond .leaf (.seq .leaf (.cond .leaf (.seq .leaf (.cond (.seq .leaf (.join Zz7 (fun v=>Zf9 v.1 v.2.1) .leaf .leaf)) (.join Zz8 (fun v=>Zga v.1 v.2.1 v.2.2.1) .leaf (.cond .leaf (.join Zz9 (fun v=>Zgb v.1 v.2.1) .leaf .leaf))))))))))) (.seq .leaf (.join Z0a (fun v=>Zgc v.1 v.2.1) .leaf .leaf))))) ⟨lf,lf,⟨lf,lf,lf,lf,lf,lf,⟨lf,lf,(fun v=>by kernel_rfl),lf⟩,lf,(fun v=>by kernel_rfl),lf,lf,(fun v=>by kernel_rfl),lf⟩,lf,lf,(fun v=>by kernel_rfl),lf⟩ (hk fun _=>by kernel_rfl)
abbrev Qfg:FnE:={f:=156,args:=[Zt],res:=[.int .i64],F:=fun xs=>Zd0 xs.1}
theorem Zpc:okE Qfg:=
 ofE (Za Zml Ze) Zb Tryz.func156 Tryz.call156 .leaf lf (hk fun _=>by kernel_rfl)
abbrev Z35:FnE:={f:=211,args:=[Yb],res:=[Yb],F:=fun xs=>Zfh xs.1}
theorem Zrx:okE Z35:=
 ofE (Za Vs Ze) Zb Tryz.func211 Tryz.call211 .leaf lf (hk fun _=>by kernel_rfl)
abbrev Qa7:FnE:={f:=240,args:=[.slice 99 (Z2),.int .i64],res:=[.int .i64],F:=fun xs=>Ze6 xs.1 xs.2.1}
theorem Zoa:okE Qa7:=
 ofE Ze Zb Tryz.func240 Tryz.call240 (.seq .leaf (.seq (.seq .leaf (.block (.loop Z2k (fun N v=>Zdz N v.1 v.2.1 v.2.2.1) (fun v=>Zg3 v.1 v.2.1 v.2.2.1) (fun K1=> .leaf)))) .leaf)) ⟨lf,⟨lf,fun _=>rfl,fun N=>⟨(fun v=>by kernel_rfl),lf⟩⟩,lf⟩ (hk fun _=>by kernel_rfl)
abbrev Qkx:FnE:={f:=176,args:=[Zl,.int .i64],res:=[Z2,.bool],F:=fun xs=>Qu xs.1 xs.2.1}
theorem Qy:okE Qkx:=
 ofE (Za Zoa (Za Zsd Ze)) Zb Tryz.func176 Tryz.call176 .leaf lf (hk fun _=>by kernel_rfl)
abbrev Qn4:FnB:={f:=213,args:=[.sh (Zl),.sh (Z2),.sh (.int .i64)],res:= .shr [Z2],F:=fun xs=>Zte xs.1 xs.2.1 xs.2.2.1}
theorem Qlp:okB Qn4:=
 ofB [] (Za Zvl (Za Zrx Ze)) Zb Tryz.func213 Tryz.call213 .leaf lf (hk fun _=>by kernel_rfl)
abbrev Qfu:FnE:={f:=212,args:=[.slice 99 (Z2),Z2],res:=[.slice 99 (Z2)],F:=fun xs=>Xp xs.1 xs.2.1}
theorem Xw:okE Qfu:=
 ofE (Za Zoa (Za Zsd Ze)) Zb Tryz.func212 Tryz.call212 (.seq .leaf (.seq .leaf (.seq .leaf (.seq .leaf (.seq (.seq .leaf (.block (.loop Z5k (fun N v=>Ju N v.1 v.2.1 v.2.2.1 v.2.2.2.1 v.2.2.2.2.1 v.2.2.2.2.2.1) (fun v=>Zil v.1 v.2.1 v.2.2.1 v.2.2.2.1 v.2.2.2.2.1 v.2.2.2.2.2.1) (fun K1=>(.seq .leaf (.seq (.block (.seq .leaf (.join Z5j (fun v=>Zb2 K1 v.1 v.2.1 v.2.2.1 v.2.2.2.1 v.2.2.2.2.1 v.2.2.2.2.2.1 v.2.2.2.2.2.2.1) .leaf .leaf))) .leaf)))))) .leaf))))) ⟨lf,lf,lf,lf,⟨lf,fun _=>rfl,fun N=>⟨(fun v=>by kernel_rfl),lf,⟨lf,lf,(fun v=>by kernel_rfl),lf⟩,lf⟩⟩,lf⟩ (hk fun _=>by kernel_rfl)
abbrev Z67:FnE:={f:=157,args:=[Zl,Zt],res:=[Zl],F:=fun xs=>Zl3 xs.1 xs.2.1}
theorem Z4x:okE Z67:=
 ofE (Za Qc (Za Xo (Za Zwu (Za Zwt (Za Zrx (Za Qy (Za Xw Ze))))))) (Zs Qlp Zb) Tryz.func157 Tryz.call157 (.seq .leaf (.seq .leaf (.seq .leaf (.seq (.seq .leaf (.block (.seq .leaf (.cond .leaf (.seq .leaf (.cond .leaf (.seq .leaf (.cond .leaf (.seq .leaf (.cond .leaf (.seq .leaf (.seq .leaf (.cond (.frz [(12,.u false)]) .leaf))))))))))))) .leaf)))) ⟨lf,lf,lf,⟨lf,lf,lf,lf,lf,lf,lf,lf,lf,lf,lf,trivial,lf⟩,lf⟩ (hk fun _=>by kernel_rfl)
abbrev Qbw:FnE:={f:=214,args:=[Zl],res:=[.slice 266 (Xf)],F:=fun xs=>Zny xs.1}
theorem Z8x:okE Qbw:=
 ofE Ze Zb Tryz.func214 Tryz.call214 (.seq .leaf (.seq .leaf (.seq (.seq .leaf (.block (.loop Z26 (fun N v=>Vm N v.1 v.2.1 v.2.2.1) (fun v=>Zhr v.1 v.2.1 v.2.2.1) (fun K1=>(.seq .leaf (.join Z25 (fun v=>Zek K1 v.1 v.2.1 v.2.2.1) .leaf .leaf)))))) .leaf))) ⟨lf,lf,⟨lf,fun _=>rfl,fun N=>⟨(fun v=>by kernel_rfl),lf,lf,(fun v=>by kernel_rfl),lf⟩⟩,lf⟩ (hk fun _=>by kernel_rfl)
abbrev Qbx:FnE:={f:=215,args:=[.slice 266 (Xf),.int .i64],res:=[.slice 266 (Xf)],F:=fun xs=>Znz xs.1 xs.2.1}
theorem Z8y:okE Qbx:=
 ofE Ze Zb Tryz.func215 Tryz.call215 (.seq .leaf (.seq .leaf (.seq (.seq .leaf (.block (.loop Z28 (fun N v=>Vn N v.1 v.2.1 v.2.2.1 v.2.2.2.1) (fun v=>Zhs v.1 v.2.1 v.2.2.1 v.2.2.2.1) (fun K1=>(.seq .leaf (.join Z27 (fun v=>Zel K1 v.1 v.2.1 v.2.2.1 v.2.2.2.1) .leaf .leaf)))))) .leaf))) ⟨lf,lf,⟨lf,fun _=>rfl,fun N=>⟨(fun v=>by kernel_rfl),lf,lf,(fun v=>by kernel_rfl),lf⟩⟩,lf⟩ (hk fun _=>by kernel_rfl)
abbrev Z0y:FnE:={f:=287,args:=[.slice 266 (Xf)],res:=[.bool],F:=fun xs=>Zic xs.1}
theorem Zzt:okE Z0y:=
 ofE (Za Qr (Za Zob Ze)) Zb Tryz.func287 Tryz.call287 (.seq .leaf (.seq (.seq .leaf (.block (.loop Zw0 (fun N v=>Zac N v.1 v.2.1) (fun v=>Zdt v.1 v.2.1) (fun K1=> .leaf)))) .leaf)) ⟨lf,⟨lf,fun _=>rfl,fun N=>⟨(fun v=>by kernel_rfl),lf⟩⟩,lf⟩ (hk fun _=>by kernel_rfl)
abbrev Qbk:FnE:={f:=255,args:=[.slice 266 (Xf)],res:=[.slice 3 (.int .i64)],F:=fun xs=>Znr xs.1}
theorem Z8p:okE Qbk:=
 ofE (Za Zzt Ze) Zb Tryz.func255 Tryz.call255 (.seq .leaf (.seq .leaf (.seq .leaf (.seq (.seq .leaf (.block (.loop Z2u (fun N v=>K8 N v.1 v.2.1 v.2.2.1 v.2.2.2.1) (fun v=>Zg7 v.1 v.2.1 v.2.2.1 v.2.2.2.1) (fun K1=>(.seq .leaf (.join Z2s (fun v=>Zea K1 v.1 v.2.1 v.2.2.1 v.2.2.2.1) (.block (.join Z2t (fun v=>Zeb K1 v.1 v.2.1 v.2.2.1 v.2.2.2.1) .leaf .leaf)) .leaf)))))) .leaf)))) ⟨lf,lf,lf,⟨lf,fun _=>rfl,fun N=>⟨(fun v=>by kernel_rfl),lf,⟨lf,(fun v=>by kernel_rfl),lf⟩,(fun v=>by kernel_rfl),lf⟩⟩,lf⟩ (hk fun _=>by kernel_rfl)
abbrev Qky:FnE:={f:=256,args:=[.slice 3 (.int .i64),.int .i64],res:=[.int .i64],F:=fun xs=>Zri xs.1 xs.2.1}
theorem Qhe:okE Qky:=
 ofE Ze Zb Tryz.func256 Tryz.call256 (.seq .leaf (.seq (.seq .leaf (.block (.loop Z9t (fun N v=>Zhm N v.1 v.2.1 v.2.2.1) (fun v=>Zj0 v.1 v.2.1 v.2.2.1) (fun K1=> .leaf)))) .leaf)) ⟨lf,⟨lf,fun _=>rfl,fun N=>⟨(fun v=>by kernel_rfl),lf⟩⟩,lf⟩ (hk fun _=>by kernel_rfl)
abbrev Qbl:FnE:={f:=216,args:=[.slice 266 (Xf),.int .i64],res:=[.int .i64],F:=fun xs=>Zns xs.1 xs.2.1}
theorem Z8q:okE Qbl:=
 ofE (Za Z8p (Za Qhe Ze)) Zb Tryz.func216 Tryz.call216 (.seq .leaf (.seq .leaf (.seq .leaf (.seq (.seq .leaf (.block (.loop Z2w (fun N v=>K9 N v.1 v.2.1 v.2.2.1 v.2.2.2.1 v.2.2.2.2.1) (fun v=>Zhc v.1 v.2.1 v.2.2.1 v.2.2.2.1 v.2.2.2.2.1) (fun K1=>(.seq .leaf (.seq (.block (.seq .leaf (.block (.loop Z2x (fun N v=>Vk K1 N v.1 v.2.1 v.2.2.1 v.2.2.2.1 v.2.2.2.2.1 v.2.2.2.2.2.1) (fun v=>Zhd v.1 v.2.1 v.2.2.1 v.2.2.2.1 v.2.2.2.2.1 v.2.2.2.2.2.1) (fun K2=>(.seq .leaf (.join Z2v (fun v=>Zec K1 K2 v.1 v.2.1 v.2.2.1 v.2.2.2.1 v.2.2.2.2.1 v.2.2.2.2.2.1) .leaf .leaf))))))) .leaf)))))) .leaf)))) ⟨lf,lf,lf,⟨lf,fun _=>rfl,fun N=>⟨(fun v=>by kernel_rfl),lf,⟨lf,fun _=>rfl,fun N=>⟨(fun v=>by kernel_rfl),lf,lf,(fun v=>by kernel_rfl),lf⟩⟩,lf⟩⟩,lf⟩ (hk fun _=>by kernel_rfl)
abbrev Qa3:FnE:={f:=257,args:=[Yb],res:=[.int .i64],F:=fun xs=>Ze5 xs.1}
theorem Z8f:okE Qa3:=
 ofE (Za Vs Ze) Zb Tryz.func257 Tryz.call257 .leaf lf (hk fun _=>by kernel_rfl)
abbrev Qks:FnE:={f:=288,args:=[Zce,.int .i64,.int .i64],res:=[.str,.bool],F:=fun xs=>Zrg xs.1 xs.2.1 xs.2.2.1}
theorem Qha:okE Qks:=
 ofE (Za Zpd (Za Zub Ze)) Zb Tryz.func288 Tryz.call288 (.seq .leaf (.seq .leaf (.seq .leaf (.seq (.seq .leaf (.block (.loop Z9r (fun N v=>Zhh N v.1 v.2.1 v.2.2.1 v.2.2.2.1 v.2.2.2.2.1) (fun v=>Zew v.1 v.2.1 v.2.2.1 v.2.2.2.1 v.2.2.2.2.1) (fun K1=> .leaf)))) .leaf)))) ⟨lf,lf,lf,⟨lf,fun _=>rfl,fun N=>⟨(fun v=>by kernel_rfl),lf⟩⟩,lf⟩ (hk fun _=>by kernel_rfl)
abbrev Qfs:FnE:={f:=258,args:=[Z8,.int .i64,.int .i64],res:=[Za9,.bool],F:=fun xs=>Zpv xs.1 xs.2.1 xs.2.2.1}
theorem Qcu:okE Qfs:=
 ofE (Za Jd (Za Qha Ze)) Zb Tryz.func258 Tryz.call258 (.seq .leaf (.seq .leaf (.seq .leaf (.seq (.seq .leaf (.cond (.seq .leaf (.seq .leaf (.seq .leaf (.join Z5i (fun v=>Zfq v.1 v.2.1 v.2.2.1 v.2.2.2.1 v.2.2.2.2.1) .leaf .leaf)))) .leaf)) .leaf)))) ⟨lf,lf,lf,⟨lf,⟨lf,lf,lf,lf,(fun v=>by kernel_rfl),lf⟩,lf⟩,lf⟩ (hk fun _=>by kernel_rfl)
abbrev Qbn:FnE:={f:=220,args:=[.int .i64,Za9],res:=[Zt],F:=fun xs=>Zsl xs.1 xs.2.1}
theorem Zt8:okE Qbn:=
 ofE Ze Zb Tryz.func220 Tryz.call220 .leaf lf (hk fun _=>by kernel_rfl)
abbrev Qkt:FnE:={f:=217,args:=[Zl,.int .i64,.int .i64],res:=[Za9,.bool],F:=fun xs=>Zrh xs.1 xs.2.1 xs.2.2.1}
theorem Qhb:okE Qkt:=
 ofE (Za Qy (Za Xo (Za Z8f (Za Qcu (Za Zt8 (Za Zpc Ze)))))) Zb Tryz.func217 Tryz.call217 (.seq .leaf (.seq .leaf (.seq .leaf (.seq .leaf (.seq (.seq .leaf (.block (.loop Z9s (fun N v=>Zhi N v.1 v.2.1 v.2.2.1 v.2.2.2.1 v.2.2.2.2.1 v.2.2.2.2.2.1) (fun v=>Zjz v.1 v.2.1 v.2.2.1 v.2.2.2.1 v.2.2.2.2.1 v.2.2.2.2.2.1) (fun K1=> .leaf)))) .leaf))))) ⟨lf,lf,lf,lf,⟨lf,fun _=>rfl,fun N=>⟨(fun v=>by kernel_rfl),lf⟩⟩,lf⟩ (hk fun _=>by kernel_rfl)
abbrev Z69:FnE:={f:=259,args:=[Yb],res:=[Yb],F:=fun xs=>Zhe xs.1}
theorem Z4z:okE Z69:=
 ofE (Za Vs Ze) Zb Tryz.func259 Tryz.call259 .leaf lf (hk fun _=>by kernel_rfl)
abbrev Qk1:FnB:={f:=218,args:=[.bx 37 (Zl) (.u true),.sh (.int .i64)],res:= .vals [],F:=fun xs=>Zrk xs.1 xs.2.1}
theorem Qhg:okB Qk1:=
 ofB [0] (Za Qy (Za Z4z (Za Xw Ze))) Zb Tryz.func218 Tryz.call218 .leaf lf (hk fun _=>by kernel_rfl)
abbrev Qok:FnE:={f:=289,args:=[Z8,Za9],res:=[.bool],F:=fun xs=>Zp8 xs.1 xs.2.1}
theorem Zsg:okE Qok:=
 ofE Ze Zb Tryz.func289 Tryz.call289 .leaf lf (hk fun _=>by kernel_rfl)
abbrev Qol:FnE:={f:=290,args:=[Za9],res:=[Zr],F:=fun xs=>Zmb xs.1}
theorem Zsh:okE Qol:=
 ofE Ze Zb Tryz.func290 Tryz.call290 .leaf lf (hk fun _=>by kernel_rfl)
abbrev Z36:FnE:={f:=291,args:=[.slice 124 (Zr),.slice 124 (Zr)],res:=[.slice 124 (Zr)],F:=fun xs=>Zbx xs.1 xs.2.1}
theorem Zkr:okE Z36:=
 ofE (Za Zdf Ze) Zb Tryz.func291 Tryz.call291 (.seq .leaf (.seq .leaf (.seq (.seq .leaf (.block (.loop Zyt (fun N v=>Kz N v.1 v.2.1 v.2.2.1 v.2.2.2.1) (fun v=>W5 v.1 v.2.1 v.2.2.1 v.2.2.2.1) (fun K1=>(.seq .leaf (.seq (.block (.seq .leaf (.block (.loop Zyu (fun N v=>Vx K1 N v.1 v.2.1 v.2.2.1 v.2.2.2.1 v.2.2.2.2.1) (fun v=>W6 v.1 v.2.1 v.2.2.1 v.2.2.2.1 v.2.2.2.2.1) (fun K2=>(.seq .leaf (.join Zyr (fun v=>Zfi K1 K2 v.1 v.2.1 v.2.2.1 v.2.2.2.1 v.2.2.2.2.1) (.block (.join Zys (fun v=>Zkz K1 K2 v.1 v.2.1 v.2.2.1 v.2.2.2.1 v.2.2.2.2.1 v.2.2.2.2.2.1) .leaf .leaf)) .leaf))))))) .leaf)))))) .leaf))) ⟨lf,lf,⟨lf,fun _=>rfl,fun N=>⟨(fun v=>by kernel_rfl),lf,⟨lf,fun _=>rfl,fun N=>⟨(fun v=>by kernel_rfl),lf,⟨lf,(fun v=>by kernel_rfl),lf⟩,(fun v=>by kernel_rfl),lf⟩⟩,lf⟩⟩,lf⟩ (hk fun _=>by kernel_rfl)
abbrev Z7c:FnE:={f:=292,args:=[.slice 124 (Zr),Zr],res:=[.slice 124 (Zr)],F:=fun xs=>Zdk xs.1 xs.2.1}
theorem Zmm:okE Z7c:=
 ofE (Za Zdf (Za Zud (Za Zuc Ze))) Zb Tryz.func292 Tryz.call292 (.seq .leaf (.seq .leaf (.seq .leaf (.seq (.seq .leaf (.block (.loop Z0n (fun N v=>Kk N v.1 v.2.1 v.2.2.1 v.2.2.2.1) (fun v=>Za6 v.1 v.2.1 v.2.2.1 v.2.2.2.1) (fun K1=>(.seq .leaf (.join Z0l (fun v=>Zgg K1 v.1 v.2.1 v.2.2.1 v.2.2.2.1) (.block (.join Z0m (fun v=>Zcr K1 v.1 v.2.1 v.2.2.1 v.2.2.2.1) .leaf .leaf)) .leaf)))))) .leaf)))) ⟨lf,lf,lf,⟨lf,fun _=>rfl,fun N=>⟨(fun v=>by kernel_rfl),lf,⟨lf,(fun v=>by kernel_rfl),lf⟩,(fun v=>by kernel_rfl),lf⟩⟩,lf⟩ (hk fun _=>by kernel_rfl)
abbrev Qfx:FnE:={f:=260,args:=[Z8,Za9],res:=[Z8,.bool],F:=fun xs=>Zpw xs.1 xs.2.1}
theorem Qcw:okE Qfx:=
 ofE (Za Zbe (Za Jd (Za Zsg (Za Zsh (Za Zkr (Za Zmm (Za Zat (Za Znh Ze)))))))) Zb Tryz.func260 Tryz.call260 (.seq .leaf (.seq .leaf (.seq .leaf (.join Z5m (fun v=>Zfs v.1 v.2.1 v.2.2.1) .leaf (.join Z5n (fun v=>Zft v.1 v.2.1) .leaf .leaf))))) ⟨lf,lf,lf,lf,(fun v=>by kernel_rfl),lf,(fun v=>by kernel_rfl),lf⟩ (hk fun _=>by kernel_rfl)
abbrev Qf1:FnE:={f:=261,args:=[Yb,.int .i64],res:=[Yb,.bool],F:=fun xs=>Zk9 xs.1 xs.2.1}
theorem Qcy:okE Qf1:=
 ofE (Za Vs Ze) Zb Tryz.func261 Tryz.call261 .leaf lf (hk fun _=>by kernel_rfl)
abbrev Qfl:FnE:={f:=219,args:=[Zl,.int .i64,Za9],res:=[Zl,.bool],F:=fun xs=>Zk4 xs.1 xs.2.1 xs.2.2.1}
theorem Qcs:okE Qfl:=
 ofE (Za Qc (Za Qy (Za Xo (Za Qcw (Za Qcy (Za Xw Ze)))))) Zb Tryz.func219 Tryz.call219 .leaf lf (hk fun _=>by kernel_rfl)
abbrev Qn5:FnB:={f:=158,args:=[.bx 37 (Zl) (.u true),.mv (.slice 115 (Zt)),.sh (.int .i64)],res:= .vals [.slice 115 (Zt)],F:=fun xs=>Ztf xs.1 xs.2.1 xs.2.2.1}
theorem Qlq:okB Qn5:=
 ofB [0] (Za Z8x (Za Z8y (Za Z8q (Za Qhb (Za Qcs (Za Zt8 (Za Zpc Ze))))))) (Zs Qhg Zb) Tryz.func158 Tryz.call158 (.seq .leaf (.seq .leaf (.seq (.seq .leaf (.block (.loop Qdv (fun N v=>Ww N v.1 v.2.1 v.2.2.1 v.2.2.2.1 v.2.2.2.2.1) (fun v=>Zle v.1 v.2.1 v.2.2.1 v.2.2.2.1 v.2.2.2.2.1) (fun K1=>(.seq .leaf (.join Qdt (fun v=>Zjc K1 v.1 v.2.1 v.2.2.1 v.2.2.2.1 v.2.2.2.2.1) (.block (.seq .leaf (.seq (.seq .leaf (.block (.loop Qdw (fun N v=>Zjd K1 N v.1 v.2.1 v.2.2.1 v.2.2.2.1 v.2.2.2.2.1 v.2.2.2.2.2.1 v.2.2.2.2.2.2.1) (fun v=>Zlf v.1 v.2.1 v.2.2.1 v.2.2.2.1 v.2.2.2.2.1 v.2.2.2.2.2.1 v.2.2.2.2.2.2.1) (fun K2=> .leaf)))) (.seq .leaf (.seq .leaf (.seq .leaf (.seq .leaf (.join Qdu (fun v=>Yw K1 v.1 v.2.1 v.2.2.1 v.2.2.2.1 v.2.2.2.2.1 v.2.2.2.2.2.1 v.2.2.2.2.2.2.1 v.2.2.2.2.2.2.2.1 v.2.2.2.2.2.2.2.2.1) .leaf .leaf)))))))) .leaf)))))) .leaf))) ⟨lf,lf,⟨lf,fun _=>rfl,fun N=>⟨(fun v=>by kernel_rfl),lf,⟨lf,⟨lf,fun _=>rfl,fun N=>⟨(fun v=>by kernel_rfl),lf⟩⟩,lf,lf,lf,lf,lf,(fun v=>by kernel_rfl),lf⟩,(fun v=>by kernel_rfl),lf⟩⟩,lf⟩ (hk fun _=>by kernel_rfl)
abbrev Z01:FnE:={f:=159,args:=[.slice 115 (Zt)],res:=[.str],F:=fun xs=>Zih xs.1}
theorem Zzw:okE Z01:=
 ofE (Za Zml Ze) Zb Tryz.func159 Tryz.call159 (.seq .leaf (.seq .leaf (.seq (.seq .leaf (.block (.loop Zw8 (fun N v=>Zaj N v.1 v.2.1 v.2.2.1) (fun v=>Zdy v.1 v.2.1 v.2.2.1) (fun K1=> .leaf)))) .leaf))) ⟨lf,lf,⟨lf,fun _=>rfl,fun N=>⟨(fun v=>by kernel_rfl),lf⟩⟩,lf⟩ (hk fun _=>by kernel_rfl)
abbrev Qa5:FnB:={f:=112,args:=[.sh (Zl),.sh (.int .i64)],res:= .shr [.str,.int .i64,Zl],F:=fun xs=>Zb9 xs.1 xs.2.1}
theorem Zt4:okB Qa5:=
 ofB [] (Za Qc (Za Yt (Za Qj (Za Zzu (Za Zpc (Za Z4x (Za Zzw Ze))))))) (Zs Qlq Zb) Tryz.func112 Tryz.call112 (.seq .leaf (.seq .leaf (.seq (.seq .leaf (.cond (.seq .leaf (.frz [(6,.u false)])) .leaf)) (.seq .leaf (.seq .leaf (.seq .leaf (.seq (.seq .leaf (.block (.loop Z2h (fun N v=>Yl N v.1 v.2.1 v.2.2.1 v.2.2.2.1 v.2.2.2.2.1 v.2.2.2.2.2.1 v.2.2.2.2.2.2.1) (fun v=>Zby v.1 v.2.1 v.2.2.1 v.2.2.2.1 v.2.2.2.2.1 v.2.2.2.2.2.1 v.2.2.2.2.2.2.1) (fun K1=>(.seq .leaf (.join Z2g (fun v=>Vi K1 v.1 v.2.1 v.2.2.1 v.2.2.2.1 v.2.2.2.2.1 v.2.2.2.2.2.1 v.2.2.2.2.2.2.1) .leaf .leaf)))))) (.seq .leaf (.seq (.seq .leaf (.cond (.seq .leaf (.frz [(6,.u false)])) .leaf)) (.seq (.frz [(8,.u false)]) (.seq .leaf (.seq .leaf (.frz [(6,.u false)]))))))))))))) ⟨lf,lf,⟨lf,⟨lf,trivial⟩,lf⟩,lf,lf,lf,⟨lf,fun _=>rfl,fun N=>⟨(fun v=>by kernel_rfl),lf,lf,(fun v=>by kernel_rfl),lf⟩⟩,lf,⟨lf,⟨lf,trivial⟩,lf⟩,trivial,lf,lf,trivial⟩ (hk fun _=>by kernel_rfl)
abbrev Qod:FnB:={f:=113,args:=[.bx 41 (Qe) (.p (.u false) (.p (.u false) (.p (.u false) (.p (.u false) (.p (.u true) (.u false)))))),.sh (.bool),.sh (Zl)],res:= .vals [],F:=fun xs=>Zc3 xs.1 xs.2.1 xs.2.2.1}
theorem Zse:okB Qod:=
 ofB [0] Ze Zb Tryz.func113 Tryz.call113 .leaf lf (hk fun _=>by kernel_rfl)
abbrev Qft:FnE:={f:=114,args:=[.slice 78 (Qs),Qs],res:=[.slice 78 (Qs),.bool],F:=fun xs=>Zk6 xs.1 xs.2.1}
theorem Zvg:okE Qft:=
 ofE (Za Zix Ze) Zb Tryz.func114 Tryz.call114 .leaf lf (hk fun _=>by kernel_rfl)
abbrev Qff:FnE:={f:=115,args:=[.int .i64],res:=[.str],F:=fun xs=>Ke xs.1}
theorem Zpb:okE Qff:=
 ofE Ze Zb Tryz.func115 Tryz.call115 (.seq .leaf (.seq .leaf (.seq .leaf (.seq .leaf (.seq (.block (.loop Z5b (fun N v=>Xe N v.1 v.2.1 v.2.2.1) (fun v=>Zcy v.1 v.2.1 v.2.2.1) (fun K1=>(.seq .leaf (.block (.seq .leaf (.join Z5a (fun v=>Jt K1 v.1 v.2.1 v.2.2.1 v.2.2.2.1) .leaf .leaf))))))) .leaf))))) ⟨lf,lf,lf,lf,⟨fun _=>rfl,fun N=>⟨(fun v=>by kernel_rfl),lf,lf,lf,(fun v=>by kernel_rfl),lf⟩⟩,lf⟩ (hk fun _=>by kernel_rfl)
abbrev Qko:FnE:={f:=221,args:=[Zkf],res:=[.int .i64,Zkf,.bool],F:=fun xs=>Zre xs.1}
theorem Qg7:okE Qko:=
 ofE (Za Zsc Ze) Zb Tryz.func221 Tryz.call221 .leaf lf (hk fun _=>by kernel_rfl)
abbrev Qra:FnE:={f:=222,args:=[.int .i64,.bool,.bool],res:=[.int .i64],F:=fun xs=>Zvq xs.1 xs.2.1 xs.2.2.1}
theorem Qpj:okE Qra:=
 ofE (Za Qj Ze) Zb Tryz.func222 Tryz.call222 (.seq .leaf (.seq .leaf (.seq .leaf (.join Qh0 (fun v=>Zk3 v.1 v.2.1) .leaf .leaf)))) ⟨lf,lf,lf,lf,(fun v=>by kernel_rfl),lf⟩ (hk fun _=>by kernel_rfl)
abbrev Zxm:FnE:={f:=262,args:=[],res:=[Ja],F:=fun xs=>Vy}
theorem Zoo:okE Zxm:=
 ofE Ze Zb Tryz.func262 Tryz.call262 .leaf lf (hk fun _=>by kernel_rfl)
abbrev Z68:FnE:={f:=263,args:=[],res:=[Q5],F:=fun xs=>Zqp}
theorem Z4y:okE Z68:=
 ofE Ze Zb Tryz.func263 Tryz.call263 .leaf lf (hk fun _=>by kernel_rfl)
abbrev Qnn:FnE:={f:=79,args:=[.int .i64],res:=[.bool],F:=fun xs=>Va xs.1}
theorem Ziw:okE Qnn:=
 ofE (Za Qr Ze) Zb Tryz.func79 Tryz.call79 .leaf lf (hk fun _=>by kernel_rfl)
abbrev Qbi:FnE:={f:=103,args:=[.int .i64],res:=[.bool],F:=fun xs=>Zi5 xs.1}
theorem Z8o:okE Qbi:=
 ofE (Za Qr Ze) Zb Tryz.func103 Tryz.call103 .leaf lf (hk fun _=>by kernel_rfl)
abbrev Qtr:FnE:={f:=77,args:=[.bool,.int .i64],res:=[.bool],F:=fun xs=>Zd5 xs.1 xs.2.1}
theorem Zmy:okE Qtr:=
 ofE (Za Qr (Za Z8o Ze)) Zb Tryz.func77 Tryz.call77 .leaf lf (hk fun _=>by kernel_rfl)
abbrev Qe9:FnE:={f:=264,args:=[.bool,.int .i64],res:=[.bool],F:=fun xs=>Zdu xs.1 xs.2.1}
theorem Zpa:okE Qe9:=
 ofE (Za Qr (Za Ziw (Za Zmy Ze))) Zb Tryz.func264 Tryz.call264 .leaf lf (hk fun _=>by kernel_rfl)
abbrev Z34:FnE:={f:=265,args:=[.bool,.int .i64],res:=[.bool],F:=fun xs=>Jr xs.1 xs.2.1}
theorem Zfb:okE Z34:=
 ofE (Za Qr (Za Ziw (Za Zmy Ze))) Zb Tryz.func265 Tryz.call265 .leaf lf (hk fun _=>by kernel_rfl)
abbrev Qnq:FnE:={f:=293,args:=[.int .i64],res:=[Zce,.bool],F:=fun xs=>Ztb xs.1}
theorem Qlj:okE Qnq:=
 ofE (Za Zsf Ze) Zb Tryz.func293 Tryz.call293 .leaf lf (hk fun _=>by kernel_rfl)
abbrev Qfp:FnE:={f:=266,args:=[.int .i64],res:=[Z8,.bool],F:=fun xs=>Zha xs.1}
theorem Qct:okE Qfp:=
 ofE (Za Qlj Ze) Zb Tryz.func266 Tryz.call266 .leaf lf (hk fun _=>by kernel_rfl)
abbrev Qfq:FnE:={f:=223,args:=[.bool,.int .i64,Zqa,Zqa],res:=[Z2,.bool],F:=fun xs=>Zbn xs.1 xs.2.1 xs.2.2.1 xs.2.2.2.1}
theorem Zve:okE Qfq:=
 ofE (Za Qr (Za Zt5 (Za Zoo (Za Z4y (Za Zpa (Za Zfb (Za Qct (Za Zvd (Za Zvf Ze))))))))) Zb Tryz.func223 Tryz.call223 .leaf lf (hk fun _=>by kernel_rfl)
abbrev Qbm:FnE:={f:=160,args:=[Zl,.bool],res:=[.int .i64,Zl,.bool],F:=fun xs=>Znt xs.1 xs.2.1}
theorem Z8r:okE Qbm:=
 ofE (Za Qc (Za Yt (Za Qg7 (Za Qpj (Za Zve (Za Xw Ze)))))) Zb Tryz.func160 Tryz.call160 (.seq .leaf (.seq .leaf (.seq .leaf (.seq .leaf (.join Z2y (fun v=>Zed v.1 v.2.1 v.2.2.1 v.2.2.2.1 v.2.2.2.2.1) .leaf (.seq .leaf (.join Z2z (fun v=>Zee v.1 v.2.1 v.2.2.1 v.2.2.2.1 v.2.2.2.2.1 v.2.2.2.2.2.1) .leaf .leaf))))))) ⟨lf,lf,lf,lf,lf,(fun v=>by kernel_rfl),lf,lf,(fun v=>by kernel_rfl),lf⟩ (hk fun _=>by kernel_rfl)
abbrev Qrb:FnE:={f:=294,args:=[Zce],res:=[.int .i64],F:=fun xs=>Z21 xs.1}
theorem Qpk:okE Qrb:=
 ofE (Za Zpd Ze) Zb Tryz.func294 Tryz.call294 .leaf lf (hk fun _=>by kernel_rfl)
abbrev Qf2:FnE:={f:=267,args:=[Zce,.str],res:=[Zce,.int .i64],F:=fun xs=>Zpy xs.1 xs.2.1}
theorem Qcz:okE Qf2:=
 ofE (Za Zuf (Za Qpk Ze)) Zb Tryz.func267 Tryz.call267 (.seq .leaf (.seq .leaf (.seq .leaf (.seq (.seq .leaf (.block (.loop Z5q (fun N v=>Wf N v.1 v.2.1 v.2.2.1 v.2.2.2.1 v.2.2.2.2.1 v.2.2.2.2.2.1) (fun v=>Zcz v.1 v.2.1 v.2.2.1 v.2.2.2.1 v.2.2.2.2.1 v.2.2.2.2.2.1) (fun K1=> .leaf)))) .leaf)))) ⟨lf,lf,lf,⟨lf,fun _=>rfl,fun N=>⟨(fun v=>by kernel_rfl),lf⟩⟩,lf⟩ (hk fun _=>by kernel_rfl)
abbrev Z7g:FnE:={f:=224,args:=[Z8,.str],res:=[Z8,.int .i64],F:=fun xs=>Zax xs.1 xs.2.1}
theorem Z43:okE Z7g:=
 ofE (Za Zbe (Za Jd (Za Qcz (Za Zat Ze)))) Zb Tryz.func224 Tryz.call224 (.seq .leaf (.seq .leaf (.seq .leaf (.seq .leaf (.join Z0p (fun v=>Zcs v.1 v.2.1 v.2.2.1 v.2.2.2.1) .leaf .leaf))))) ⟨lf,lf,lf,lf,lf,(fun v=>by kernel_rfl),lf⟩ (hk fun _=>by kernel_rfl)
abbrev Z7h:FnE:={f:=161,args:=[Zl,.int .i64,.str],res:=[.int .i64,Zl],F:=fun xs=>Zdl xs.1 xs.2.1 xs.2.2.1}
theorem Z44:okE Z7h:=
 ofE (Za Qc (Za Qy (Za Yt (Za Z43 (Za Xw Ze))))) Zb Tryz.func161 Tryz.call161 .leaf lf (hk fun _=>by kernel_rfl)
abbrev Z6x:FnE:={f:=225,args:=[Z8],res:=[Z8,.bool],F:=fun xs=>Zly xs.1}
theorem Z4o:okE Z6x:=
 ofE (Za Zbe (Za Jd Ze)) Zb Tryz.func225 Tryz.call225 .leaf lf (hk fun _=>by kernel_rfl)
abbrev Z39:FnE:={f:=162,args:=[Zl,.int .i64],res:=[Zl,.bool],F:=fun xs=>Zkb xs.1 xs.2.1}
theorem Z1q:okE Z39:=
 ofE (Za Qc (Za Qy (Za Yt (Za Z4o (Za Xw Ze))))) Zb Tryz.func162 Tryz.call162 .leaf lf (hk fun _=>by kernel_rfl)
abbrev Qf0:FnE:={f:=268,args:=[Ye,.int .i64],res:=[.str,Ye],F:=fun xs=>Zpx xs.1 xs.2.1}
theorem Qcx:okE Qf0:=
 ofE (Za Zoc (Za Zue Ze)) Zb Tryz.func268 Tryz.call268 (.seq .leaf (.seq .leaf (.seq .leaf (.seq .leaf (.seq .leaf (.seq .leaf (.seq (.seq .leaf (.cond (.seq (.frz [(7,.u false)]) .leaf) .leaf)) .leaf))))))) ⟨lf,lf,lf,lf,lf,lf,⟨lf,⟨trivial,lf⟩,lf⟩,lf⟩ (hk fun _=>by kernel_rfl)
abbrev Z4a:FnB:={f:=226,args:=[.sh (Q5),.sh (.int .i64)],res:= .shr [.str,Q5],F:=fun xs=>Zkd xs.1 xs.2.1}
theorem Z1s:okB Z4a:=
 ofB [] (Za Zpg (Za Zau (Za Qcx Ze))) Zb Tryz.func226 Tryz.call226 (.seq .leaf (.seq .leaf (.seq (.seq .leaf (.cond (.seq .leaf (.frz [(5,.u false)])) .leaf)) (.seq (.seq .leaf (.cond (.seq .leaf (.seq .leaf (.frz [(5,.u false)]))) .leaf)) (.seq .leaf (.seq (.frz [(8,.u false)]) (.join Zyz (fun v=>Zfr v.1 v.2.1 v.2.2.1) .leaf .leaf))))))) ⟨lf,lf,⟨lf,⟨lf,trivial⟩,lf⟩,⟨lf,⟨lf,lf,trivial⟩,lf⟩,lf,trivial,lf,(fun v=>by kernel_rfl),lf⟩ (hk fun _=>by kernel_rfl)
abbrev Qfv:FnE:={f:=269,args:=[Wi,.int .i64],res:=[Wi,.bool],F:=fun xs=>Zk7 xs.1 xs.2.1}
theorem Qcv:okE Qfv:=
 ofE (Za Zgt Ze) Zb Tryz.func269 Tryz.call269 .leaf lf (hk fun _=>by kernel_rfl)
abbrev Qnz:FnB:={f:=227,args:=[.bx 37 (Zl) (.u false),.bx 99 (Z2) (.u false),.sh (.int .i64)],res:= .vals [],F:=fun xs=>Zp0 xs.1 xs.2.1 xs.2.2.1}
theorem Zzf:okB Qnz:=
 ofB [0,1] (Za Qcv Ze) Zb Tryz.func227 Tryz.call227 .leaf lf (hk fun _=>by kernel_rfl)
abbrev Qbh:FnE:={f:=104,args:=[Z2],res:=[.bool],F:=fun xs=>Znq xs.1}
theorem Z8n:okE Qbh:=
 ofE Ze Zb Tryz.func104 Tryz.call104 .leaf lf (hk fun _=>by kernel_rfl)
abbrev Qbe:FnE:={f:=142,args:=[Q5],res:=[.bool],F:=fun xs=>Zi4 xs.1}
theorem Z8l:okE Qbe:=
 ofE (Za Zau Ze) Zb Tryz.func142 Tryz.call142 .leaf lf (hk fun _=>by kernel_rfl)
abbrev Qbg:FnE:={f:=105,args:=[Z2],res:=[.bool],F:=fun xs=>Znp xs.1}
theorem Z8m:okE Qbg:=
 ofE (Za Z8l Ze) Zb Tryz.func105 Tryz.call105 .leaf lf (hk fun _=>by kernel_rfl)
abbrev Qq7:FnE:={f:=78,args:=[Z2],res:=[.bool],F:=fun xs=>Zk2 xs.1}
theorem Z1r:okE Qq7:=
 ofE (Za Zwp (Za Z8n (Za Z8m Ze))) Zb Tryz.func78 Tryz.call78 .leaf lf (hk fun _=>by kernel_rfl)
abbrev Qj8:FnE:={f:=295,args:=[Yb],res:=[Yb,.bool],F:=fun xs=>Zm1 xs.1}
theorem Qg0:okE Qj8:=
 ofE (Za Znf Ze) Zb Tryz.func295 Tryz.call295 .leaf lf (hk fun _=>by kernel_rfl)
abbrev Qny:FnB:={f:=270,args:=[.bx 37 (Zl) (.u false),.bx 99 (Z2) (.u false)],res:= .vals [],F:=fun xs=>Ztd xs.1 xs.2.1}
theorem Qlo:okB Qny:=
 ofB [0,1] (Za Zmy (Za Z1r (Za Ziw (Za Qg0 Ze)))) Zb Tryz.func270 Tryz.call270 .leaf lf (hk fun _=>by kernel_rfl)
abbrev Qn0:FnB:={f:=228,args:=[.bx 37 (Zl) (.u false),.sh (Z2)],res:= .vals [],F:=fun xs=>Zc1 xs.1 xs.2.1}
theorem Ze2:okB Qn0:=
 ofB [0] (Za Xw Ze) (Zs Qlo Zb) Tryz.func228 Tryz.call228 .leaf lf (hk fun _=>by kernel_rfl)
abbrev Qbr:FnB:={f:=163,args:=[.sh (Zl),.sh (.int .i64),.sh (.int .i64)],res:= .shr [.str,.bool,Zl],F:=fun xs=>Zcc xs.1 xs.2.1 xs.2.2.1}
theorem Zua:okB Qbr:=
 ofB [] (Za Qc (Za Qy (Za Yt Ze))) (Zs Z1s (Zs Zzf (Zs Ze2 Zb))) Tryz.func163 Tryz.call163 (.seq .leaf (.seq .leaf (.seq .leaf (.seq (.seq .leaf (.cond (.seq .leaf (.frz [(8,.u false)])) .leaf)) (.seq (.frz [(10,.u false)]) (.seq .leaf (.join Z20 (fun v=>Vl v.1 v.2.1 v.2.2.1 v.2.2.2.1 v.2.2.2.2.1) (.seq .leaf (.cond (.frz [(9,.u false)]) .leaf)) .leaf))))))) ⟨lf,lf,lf,⟨lf,⟨lf,trivial⟩,lf⟩,trivial,lf,⟨lf,trivial,lf⟩,(fun v=>by kernel_rfl),lf⟩ (hk fun _=>by kernel_rfl)
abbrev Qfd:FnE:={f:=164,args:=[.str],res:=[.str],F:=fun xs=>Zbh xs.1}
theorem Zvb:okE Qfd:=
 ofE (Za Zzg Ze) Zb Tryz.func164 Tryz.call164 (.seq .leaf (.seq .leaf (.seq (.seq .leaf (.block (.loop Z49 (fun N v=>Zfk N v.1 v.2.1 v.2.2.1) (fun v=>Zig v.1 v.2.1 v.2.2.1) (fun K1=> .leaf)))) .leaf))) ⟨lf,lf,⟨lf,fun _=>rfl,fun N=>⟨(fun v=>by kernel_rfl),lf⟩⟩,lf⟩ (hk fun _=>by kernel_rfl)
abbrev Z7d:FnE:={f:=230,args:=[Z8,.int .i64],res:=[Z8,.bool],F:=fun xs=>Zhk xs.1 xs.2.1}
theorem Zsv:okE Z7d:=
 ofE (Za Jd (Za Qr (Za Zbe Ze))) Zb Tryz.func230 Tryz.call230 (.seq .leaf (.seq .leaf (.join Z0o (fun v=>Zmp v.1 v.2.1 v.2.2.1 v.2.2.2.1) .leaf .leaf))) ⟨lf,lf,lf,(fun v=>by kernel_rfl),lf⟩ (hk fun _=>by kernel_rfl)
abbrev Z7e:FnB:={f:=165,args:=[.sh (Zl),.sh (.int .i64),.sh (.int .i64)],res:= .shr [Zl,.bool],F:=fun xs=>Zl5 xs.1 xs.2.1 xs.2.2.1}
theorem Z41:okB Z7e:=
 ofB [] (Za Qc (Za Qy (Za Yt (Za Zsv Ze)))) (Zs Ze2 Zb) Tryz.func165 Tryz.call165 (.seq .leaf (.seq .leaf (.seq .leaf (.seq (.seq .leaf (.cond (.seq .leaf (.frz [(6,.u false)])) .leaf)) (.seq .leaf (.seq (.seq .leaf (.cond (.seq .leaf (.frz [(6,.u false)])) .leaf)) (.seq .leaf (.seq .leaf (.seq (.frz [(8,.u false),(9,.u false)]) .leaf))))))))) ⟨lf,lf,lf,⟨lf,⟨lf,trivial⟩,lf⟩,lf,⟨lf,⟨lf,trivial⟩,lf⟩,lf,lf,trivial,lf⟩ (hk fun _=>by kernel_rfl)
abbrev Qbt:FnE:={f:=166,args:=[Zl,.int .i64,.int .i64],res:=[Zl,.bool],F:=fun xs=>Znv xs.1 xs.2.1 xs.2.2.1}
theorem Z8u:okE Qbt:=
 ofE (Za Qc (Za Qy (Za Yt (Za Qr (Za Xw Ze))))) Zb Tryz.func166 Tryz.call166 .leaf lf (hk fun _=>by kernel_rfl)
abbrev Qrc:FnE:={f:=271,args:=[.str,.int .u8],res:=[.slice 9 (.str)],F:=fun xs=>Zos xs.1 xs.2.1}
theorem Qpl:okE Qrc:=
 ofE Ze Zb Tryz.func271 Tryz.call271 (.seq .leaf (.seq .leaf (.seq .leaf (.seq (.seq .leaf (.block (.loop Qh2 (fun N v=>Wg N v.1 v.2.1 v.2.2.1 v.2.2.2.1 v.2.2.2.2.1) (fun v=>Zgh v.1 v.2.1 v.2.2.1 v.2.2.2.1 v.2.2.2.2.1) (fun K1=>(.seq .leaf (.join Qh1 (fun v=>Zei K1 v.1 v.2.1 v.2.2.1 v.2.2.2.1 v.2.2.2.2.1) .leaf .leaf)))))) .leaf)))) ⟨lf,lf,lf,⟨lf,fun _=>rfl,fun N=>⟨(fun v=>by kernel_rfl),lf,lf,(fun v=>by kernel_rfl),lf⟩⟩,lf⟩ (hk fun _=>by kernel_rfl)
abbrev Qns:FnE:={f:=272,args:=[.str],res:=[.str],F:=fun xs=>Ztc xs.1}
theorem Qll:okE Qns:=
 ofE Ze Zb Tryz.func272 Tryz.call272 (.seq .leaf (.seq (.block (.loop Qdo (fun N v=>Zi9 N v.1) (fun v=>Zla v.1) (fun K1=> .leaf))) (.seq (.block (.loop Qdp (fun N v=>Zja N v.1) (fun v=>Zlb v.1) (fun K2=> .leaf))) .leaf))) ⟨lf,⟨fun _=>rfl,fun N=>⟨(fun v=>by kernel_rfl),lf⟩⟩,⟨fun _=>rfl,fun N=>⟨(fun v=>by kernel_rfl),lf⟩⟩,lf⟩ (hk fun _=>by kernel_rfl)
abbrev Z04:FnE:={f:=231,args:=[Ja,.str],res:=[Ja],F:=fun xs=>Zik xs.1 xs.2.1}
theorem Zzx:okE Z04:=
 ofE (Za Zob (Za Zoo (Za Qpl (Za Qll Ze)))) Zb Tryz.func231 Tryz.call231 (.seq .leaf (.join Zxc (fun v=>Zan v.1 v.2.1 v.2.2.1) .leaf (.seq .leaf (.seq (.seq .leaf (.block (.loop Zxe (fun N v=>Ya N v.1 v.2.1 v.2.2.1 v.2.2.2.1) (fun v=>Zd9 v.1 v.2.1 v.2.2.1 v.2.2.2.1) (fun K1=>(.seq .leaf (.join Zxd (fun v=>Km K1 v.1 v.2.1 v.2.2.1 v.2.2.2.1) .leaf .leaf)))))) .leaf)))) ⟨lf,lf,(fun v=>by kernel_rfl),lf,⟨lf,fun _=>rfl,fun N=>⟨(fun v=>by kernel_rfl),lf,lf,(fun v=>by kernel_rfl),lf⟩⟩,lf⟩ (hk fun _=>by kernel_rfl)
abbrev Z7f:FnE:={f:=167,args:=[Zl,.int .i64,.str],res:=[Zl,.bool],F:=fun xs=>Zl6 xs.1 xs.2.1 xs.2.2.1}
theorem Z42:okE Z7f:=
 ofE (Za Qc (Za Qy (Za Yt (Za Zzx (Za Xw Ze))))) Zb Tryz.func167 Tryz.call167 .leaf lf (hk fun _=>by kernel_rfl)
abbrev Qkp:FnE:={f:=232,args:=[Zl,.int .i64],res:=[J6,.bool],F:=fun xs=>Zm4 xs.1 xs.2.1}
theorem Zwr:okE Qkp:=
 ofE Ze Zb Tryz.func232 Tryz.call232 (.seq .leaf (.seq (.seq .leaf (.block (.loop Z9n (fun N v=>Zhf N v.1 v.2.1 v.2.2.1 v.2.2.2.1) (fun v=>Zjx v.1 v.2.1 v.2.2.1 v.2.2.2.1) (fun K1=> .leaf)))) .leaf)) ⟨lf,⟨lf,fun _=>rfl,fun N=>⟨(fun v=>by kernel_rfl),lf⟩⟩,lf⟩ (hk fun _=>by kernel_rfl)
abbrev Qn6:FnB:={f:=233,args:=[.bx 37 (Zl) (.u false),.sh (.int .i64)],res:= .vals [],F:=fun xs=>Zp3 xs.1 xs.2.1}
theorem Zzh:okB Qn6:=
 ofB [0] Ze Zb Tryz.func233 Tryz.call233 (.seq .leaf (.seq (.seq .leaf (.block (.loop Qdy (fun N v=>Zcd N v.1 v.2.1 v.2.2.1 v.2.2.2.1) (fun v=>Zlh v.1 v.2.1 v.2.2.1 v.2.2.2.1) (fun K1=>(.seq .leaf (.join Qdx (fun v=>Zje K1 v.1 v.2.1 v.2.2.1 v.2.2.2.1) .leaf .leaf)))))) .leaf)) ⟨lf,⟨lf,fun _=>rfl,fun N=>⟨(fun v=>by kernel_rfl),lf,lf,(fun v=>by kernel_rfl),lf⟩⟩,lf⟩ (hk fun _=>by kernel_rfl)
abbrev Qk3:FnE:={f:=274,args:=[Zt],res:=[Za9],F:=fun xs=>Zv4 xs.1}
theorem Zwv:okE Qk3:=
 ofE Ze Zb Tryz.func274 Tryz.call274 .leaf lf (hk fun _=>by kernel_rfl)
abbrev Qj9:FnE:={f:=296,args:=[Zce,.int .i64],res:=[Zce,.bool],F:=fun xs=>Zjm xs.1 xs.2.1}
theorem Qg1:okE Qj9:=
 ofE (Za Zuf (Za Zpd Ze)) Zb Tryz.func296 Tryz.call296 (.seq .leaf (.seq .leaf (.seq .leaf (.seq (.seq .leaf (.block (.loop Z9e (fun N v=>Zg1 N v.1 v.2.1 v.2.2.1 v.2.2.2.1 v.2.2.2.2.1) (fun v=>Zeu v.1 v.2.1 v.2.2.1 v.2.2.2.1 v.2.2.2.2.1) (fun K1=> .leaf)))) .leaf)))) ⟨lf,lf,lf,⟨lf,fun _=>rfl,fun N=>⟨(fun v=>by kernel_rfl),lf⟩⟩,lf⟩ (hk fun _=>by kernel_rfl)
abbrev Qj5:FnE:={f:=273,args:=[Z8,Za9],res:=[Z8],F:=fun xs=>Zq8 xs.1 xs.2.1}
theorem Qgy:okE Qj5:=
 ofE (Za Zbe (Za Jd (Za Zsg (Za Zsh (Za Zkr (Za Zmm (Za Zat (Za Zwn (Za Qg1 (Za Znh Ze)))))))))) Zb Tryz.func273 Tryz.call273 (.seq .leaf (.seq .leaf (.seq .leaf (.join Z87 (fun v=>Zgv v.1 v.2.1 v.2.2.1 v.2.2.2.1) (.seq .leaf (.cond (.seq .leaf (.seq .leaf (.block (.loop Z9a (fun N v=>Zgx N v.1 v.2.1 v.2.2.1 v.2.2.2.1 v.2.2.2.2.1 v.2.2.2.2.2.1) (fun v=>Zju v.1 v.2.1 v.2.2.1 v.2.2.2.1 v.2.2.2.2.1 v.2.2.2.2.2.1) (fun K1=> .leaf))))) .leaf)) (.join Z88 (fun v=>Zgw v.1 v.2.1 v.2.2.1) .leaf (.join Z89 (fun v=>Xu v.1 v.2.1 v.2.2.1) .leaf .leaf)))))) ⟨lf,lf,lf,⟨lf,⟨lf,lf,fun _=>rfl,fun N=>⟨(fun v=>by kernel_rfl),lf⟩⟩,lf⟩,(fun v=>by kernel_rfl),lf,(fun v=>by kernel_rfl),lf,(fun v=>by kernel_rfl),lf⟩ (hk fun _=>by kernel_rfl)
abbrev Qj6:FnE:={f:=275,args:=[Z8],res:=[Z8,.bool],F:=fun xs=>Zq9 xs.1}
theorem Qgz:okE Qj6:=
 ofE (Za Zbe (Za Jd Ze)) Zb Tryz.func275 Tryz.call275 .leaf lf (hk fun _=>by kernel_rfl)
abbrev Qrg:FnB:={f:=234,args:=[.bx 37 (Zl) (.u false),.sh (Zt)],res:= .vals [],F:=fun xs=>Zvr xs.1 xs.2.1}
theorem Qpn:okB Qrg:=
 ofB [0] (Za Qy (Za Zjt (Za Zwv (Za Qgy (Za Qgz Ze))))) (Zs Ze2 Zb) Tryz.func234 Tryz.call234 (.seq .leaf (.join Qh3 (fun v=>Kf v.1 v.2.1 v.2.2.1 v.2.2.2.1) .leaf (.seq .leaf (.join Qh4 (fun v=>Zbo v.1 v.2.1) .leaf (.frz [(4,.u false)]))))) ⟨lf,lf,(fun v=>by kernel_rfl),lf,lf,(fun v=>by kernel_rfl),trivial⟩ (hk fun _=>by kernel_rfl)
abbrev Qe7:FnB:={f:=168,args:=[.sh (Zl),.sh (.int .i64)],res:= .shr [Zl,.bool],F:=fun xs=>Zds xs.1 xs.2.1}
theorem Zu9:okB Qe7:=
 ofB [] (Za Qc (Za Zwr (Za Yt Ze))) (Zs Zzh (Zs Qpn Zb)) Tryz.func168 Tryz.call168 (.seq .leaf (.seq .leaf (.seq .leaf (.seq (.seq .leaf (.cond (.seq .leaf (.frz [(4,.u false)])) .leaf)) (.seq (.frz [(6,.u false)]) (.seq (.seq .leaf (.block (.loop Z46 (fun N v=>Zfg N v.1 v.2.1 v.2.2.1 v.2.2.2.1) (fun v=>Zib v.1 v.2.1 v.2.2.1 v.2.2.2.1) (fun K1=> .leaf)))) .leaf)))))) ⟨lf,lf,lf,⟨lf,⟨lf,trivial⟩,lf⟩,trivial,⟨lf,fun _=>rfl,fun N=>⟨(fun v=>by kernel_rfl),lf⟩⟩,lf⟩ (hk fun _=>by kernel_rfl)
abbrev Qfk:FnE:={f:=276,args:=[Z8,Za9],res:=[Z8],F:=fun xs=>Zpt xs.1 xs.2.1}
theorem Qcr:okE Qfk:=
 ofE (Za Zbe (Za Jd (Za Zsg (Za Zsh (Za Zkr (Za Zmm (Za Zat (Za Znh Ze)))))))) Zb Tryz.func276 Tryz.call276 (.seq .leaf (.seq .leaf (.seq .leaf (.join Z5f (fun v=>Zfn v.1 v.2.1 v.2.2.1 v.2.2.2.1) (.seq .leaf (.cond (.seq .leaf (.seq .leaf (.block (.loop Z5h (fun N v=>Zfp N v.1 v.2.1 v.2.2.1 v.2.2.2.1 v.2.2.2.2.1 v.2.2.2.2.2.1) (fun v=>Zij v.1 v.2.1 v.2.2.1 v.2.2.2.1 v.2.2.2.2.1 v.2.2.2.2.2.1) (fun K1=> .leaf))))) .leaf)) (.join Z5g (fun v=>Zfo v.1 v.2.1) .leaf .leaf))))) ⟨lf,lf,lf,⟨lf,⟨lf,lf,fun _=>rfl,fun N=>⟨(fun v=>by kernel_rfl),lf⟩⟩,lf⟩,(fun v=>by kernel_rfl),lf,(fun v=>by kernel_rfl),lf⟩ (hk fun _=>by kernel_rfl)
abbrev Qn7:FnB:={f:=235,args:=[.bx 37 (Zl) (.u false),.sh (Zt)],res:= .vals [],F:=fun xs=>Ztg xs.1 xs.2.1}
theorem Qlr:okB Qn7:=
 ofB [0] (Za Qy (Za Zjt (Za Zwv (Za Qcr (Za Xw Ze))))) Zb Tryz.func235 Tryz.call235 (.seq .leaf (.seq .leaf (.join Qdz (fun v=>Yx v.1 v.2.1 v.2.2.1 v.2.2.2.1) .leaf (.seq .leaf (.join Qd0 (fun v=>Wx v.1 v.2.1) .leaf .leaf))))) ⟨lf,lf,lf,(fun v=>by kernel_rfl),lf,lf,(fun v=>by kernel_rfl),lf⟩ (hk fun _=>by kernel_rfl)
abbrev Qbj:FnB:={f:=169,args:=[.sh (Zl),.sh (.int .i64)],res:= .shr [Zl,.bool],F:=fun xs=>Zcb xs.1 xs.2.1}
theorem Zt7:okB Qbj:=
 ofB [] (Za Qc (Za Zwr (Za Yt Ze))) (Zs Zzh (Zs Qlr Zb)) Tryz.func169 Tryz.call169 (.seq .leaf (.seq .leaf (.seq .leaf (.seq (.seq .leaf (.cond (.seq .leaf (.frz [(4,.u false)])) .leaf)) (.seq (.frz [(6,.u false)]) (.seq (.seq .leaf (.block (.loop Z2r (fun N v=>Zd8 N v.1 v.2.1 v.2.2.1 v.2.2.2.1) (fun v=>Zg6 v.1 v.2.1 v.2.2.1 v.2.2.2.1) (fun K1=> .leaf)))) .leaf)))))) ⟨lf,lf,lf,⟨lf,⟨lf,trivial⟩,lf⟩,trivial,⟨lf,fun _=>rfl,fun N=>⟨(fun v=>by kernel_rfl),lf⟩⟩,lf⟩ (hk fun _=>by kernel_rfl)
abbrev Qa4:FnE:={f:=307,args:=[.str,.int .i64],res:=[.int .i64,.int .i64,.bool],F:=fun xs=>Zi0 xs.1 xs.2.1}
theorem Zt3:okE Qa4:=
 ofE Ze Zb Tryz.func307 Tryz.call307 (.seq .leaf (.seq .leaf (.seq .leaf (.seq .leaf (.seq .leaf (.seq (.seq .leaf (.block (.loop Z2f (fun N v=>Zdx N v.1 v.2.1 v.2.2.1 v.2.2.2.1 v.2.2.2.2.1) (fun v=>Zg0 v.1 v.2.1 v.2.2.1 v.2.2.2.1 v.2.2.2.2.1) (fun K1=> .leaf)))) .leaf)))))) ⟨lf,lf,lf,lf,lf,⟨lf,fun _=>rfl,fun N=>⟨(fun v=>by kernel_rfl),lf⟩⟩,lf⟩ (hk fun _=>by kernel_rfl)
abbrev Qro:FnE:={f:=298,args:=[.str,.int .i64,.int .i64],res:=[.slice 3 (.int .i64),.int .i64,.bool],F:=fun xs=>Zr3 xs.1 xs.2.1 xs.2.2.1}
theorem Z1w:okE Qro:=
 ofE (Za Zt3 Ze) Zb Tryz.func298 Tryz.call298 (.seq .leaf (.seq .leaf (.seq (.seq .leaf (.block (.loop Qh7 (fun N v=>Zll N v.1 v.2.1 v.2.2.1 v.2.2.2.1 v.2.2.2.2.1) (fun v=>Zmr v.1 v.2.1 v.2.2.1 v.2.2.2.1 v.2.2.2.2.1) (fun K1=> .leaf)))) .leaf))) ⟨lf,lf,⟨lf,fun _=>rfl,fun N=>⟨(fun v=>by kernel_rfl),lf⟩⟩,lf⟩ (hk fun _=>by kernel_rfl)
abbrev Qk6:FnE:={f:=297,args:=[.str,.int .i64,.int .i64],res:=[Zt,.int .i64,.bool],F:=fun xs=>Zrm xs.1 xs.2.1 xs.2.2.1}
theorem Qhj:okE Qk6:=
 ofE (Za Z1w (Za Zt3 (Za Wt Ze))) Zb Tryz.func297 Tryz.call297 (.seq .leaf (.seq .leaf (.seq .leaf (.join Z9y (fun v=>Zhx v.1 v.2.1 v.2.2.1 v.2.2.2.1 v.2.2.2.2.1 v.2.2.2.2.2.1) .leaf (.seq .leaf (.seq .leaf (.seq .leaf (.join Z9z (fun v=>Zhy v.1 v.2.1 v.2.2.1 v.2.2.2.1 v.2.2.2.2.1) .leaf (.seq .leaf (.join Z90 (fun v=>Zhz v.1 v.2.1 v.2.2.1 v.2.2.2.1 v.2.2.2.2.1) .leaf .leaf)))))))))) ⟨lf,lf,lf,lf,(fun v=>by kernel_rfl),lf,lf,lf,lf,(fun v=>by kernel_rfl),lf,lf,(fun v=>by kernel_rfl),lf⟩ (hk fun _=>by kernel_rfl)
abbrev Z6y:FnE:={f:=277,args:=[.str,.int .i64],res:=[Zt,.int .i64,.bool],F:=fun xs=>Zlz xs.1 xs.2.1}
theorem Z4p:okE Z6y:=
 ofE (Za Qhj (Za Z1w (Za Wt Ze))) Zb Tryz.func277 Tryz.call277 (.seq .leaf (.seq .leaf (.seq .leaf (.seq .leaf (.seq .leaf (.seq .leaf (.join Zz1 (fun v=>Jo v.1 v.2.1 v.2.2.1 v.2.2.2.1 v.2.2.2.2.1) (.seq .leaf (.block (.seq .leaf (.cond .leaf (.join Zz4 (fun v=>Wl v.1 v.2.1 v.2.2.1 v.2.2.2.1 v.2.2.2.2.1 v.2.2.2.2.2.1 v.2.2.2.2.2.2.1 v.2.2.2.2.2.2.2.1) .leaf (.cond .leaf (.join Zz5 (fun v=>Zck v.1 v.2.1 v.2.2.1 v.2.2.2.1 v.2.2.2.2.1 v.2.2.2.2.2.1 v.2.2.2.2.2.2.1) .leaf .leaf))))))) (.seq .leaf (.join Zz2 (fun v=>Jp v.1 v.2.1 v.2.2.1 v.2.2.2.1) (.seq .leaf (.block (.seq .leaf (.cond .leaf (.seq .leaf (.cond .leaf (.join Zz3 (fun v=>Zcj v.1 v.2.1 v.2.2.1 v.2.2.2.1 v.2.2.2.2.1 v.2.2.2.2.2.1) .leaf .leaf))))))) .leaf))))))))) ⟨lf,lf,lf,lf,lf,lf,⟨lf,lf,lf,lf,(fun v=>by kernel_rfl),lf,lf,(fun v=>by kernel_rfl),lf⟩,(fun v=>by kernel_rfl),lf,⟨lf,lf,lf,lf,lf,lf,(fun v=>by kernel_rfl),lf⟩,(fun v=>by kernel_rfl),lf⟩ (hk fun _=>by kernel_rfl)
abbrev Z00:FnE:={f:=236,args:=[.str],res:=[.slice 115 (Zt),.bool],F:=fun xs=>Zif xs.1}
theorem Zzv:okE Z00:=
 ofE (Za Z4p (Za Qj Ze)) Zb Tryz.func236 Tryz.call236 (.seq .leaf (.seq .leaf (.seq .leaf (.seq (.block (.loop Zw7 (fun N v=>Jz N v.1 v.2.1 v.2.2.1) (fun v=>Zdw v.1 v.2.1 v.2.2.1) (fun K1=> .leaf))) .leaf)))) ⟨lf,lf,lf,⟨fun _=>rfl,fun N=>⟨(fun v=>by kernel_rfl),lf⟩⟩,lf⟩ (hk fun _=>by kernel_rfl)
abbrev Qfa:FnE:={f:=237,args:=[Zl,.int .i64],res:=[Zl],F:=fun xs=>Zky xs.1 xs.2.1}
theorem Qcm:okE Qfa:=
 ofE (Za Qc (Za Qj Ze)) Zb Tryz.func237 Tryz.call237 .leaf lf (hk fun _=>by kernel_rfl)
abbrev Qni:FnE:={f:=309,args:=[.int .i64],res:=[.int .i64],F:=fun xs=>Zpq xs.1}
theorem Qlg:okE Qni:=
 ofE (Za Qr Ze) Zb Tryz.func309 Tryz.call309 .leaf lf (hk fun _=>by kernel_rfl)
abbrev Qkv:FnE:={f:=308,args:=[Yb,.int .i64],res:=[Yb,.int .i64,.bool],F:=fun xs=>Zjn xs.1 xs.2.1}
theorem Qhd:okE Qkv:=
 ofE (Za Znf Ze) Zb Tryz.func308 Tryz.call308 .leaf lf (hk fun _=>by kernel_rfl)
abbrev Qnw:FnB:={f:=310,args:=[.bx 37 (Zl) (.u true),.sh (.int .i64),.sh (.int .i64)],res:= .vals [],F:=fun xs=>Zl8 xs.1 xs.2.1 xs.2.2.1}
theorem Qln:okB Qnw:=
 ofB [0] (Za Zve (Za Xw Ze)) Zb Tryz.func310 Tryz.call310 (.seq .leaf (.block (.loop Qds (fun N v=>Q9 N v.1 v.2.1 v.2.2.1) (fun v=>Zfv v.1 v.2.1 v.2.2.1) (fun K1=>(.seq .leaf (.seq (.block (.join Qdr (fun v=>Yv K1 v.1 v.2.1 v.2.2.1 v.2.2.2.1) .leaf .leaf)) .leaf)))))) ⟨lf,fun _=>rfl,fun N=>⟨(fun v=>by kernel_rfl),lf,⟨lf,(fun v=>by kernel_rfl),lf⟩,lf⟩⟩ (hk fun _=>by kernel_rfl)
abbrev Z38:FnE:={f:=299,args:=[Zl,.int .i64],res:=[Zl,.int .i64],F:=fun xs=>Wd xs.1 xs.2.1}
theorem Zfc:okE Z38:=
 ofE (Za Qc (Za Xo (Za Qr (Za Zoa (Za Zmy (Za Ziw (Za Qlg (Za Qhd Ze)))))))) (Zs Qln Zb) Tryz.func299 Tryz.call299 (.seq .leaf (.seq .leaf (.seq .leaf (.seq .leaf (.seq .leaf (.seq .leaf (.join Zyw (fun v=>Zbi v.1 v.2.1 v.2.2.1 v.2.2.2.1 v.2.2.2.2.1) .leaf (.join Zyx (fun v=>Zp v.1 v.2.1 v.2.2.1 v.2.2.2.1 v.2.2.2.2.1 v.2.2.2.2.2.1 v.2.2.2.2.2.2.1) .leaf (.seq .leaf (.join Zyy (fun v=>Zbj v.1 v.2.1 v.2.2.1 v.2.2.2.1) .leaf .leaf)))))))))) ⟨lf,lf,lf,lf,lf,lf,lf,(fun v=>by kernel_rfl),lf,(fun v=>by kernel_rfl),lf,lf,(fun v=>by kernel_rfl),lf⟩ (hk fun _=>by kernel_rfl)
abbrev Qoi:FnE:={f:=311,args:=[Q5,.int .i64,.bool],res:=[.int .i64],F:=fun xs=>Zp7 xs.1 xs.2.1 xs.2.2.1}
theorem Zzk:okE Qoi:=
 ofE Ze Zb Tryz.func311 Tryz.call311 .leaf lf (hk fun _=>by kernel_rfl)
abbrev Z33:FnE:={f:=316,args:=[Ye],res:=[.slice 124 (Zr)],F:=fun xs=>Zj9 xs.1}
theorem Z1o:okE Z33:=
 ofE (Za Zgr Ze) Zb Tryz.func316 Tryz.call316 (.seq .leaf (.seq .leaf (.seq (.seq .leaf (.block (.loop Zyq (fun N v=>Y2 N v.1 v.2.1 v.2.2.1) (fun v=>W4 v.1 v.2.1 v.2.2.1) (fun K1=> .leaf)))) .leaf))) ⟨lf,lf,⟨lf,fun _=>rfl,fun N=>⟨(fun v=>by kernel_rfl),lf⟩⟩,lf⟩ (hk fun _=>by kernel_rfl)
abbrev Qq3:FnE:={f:=317,args:=[Ye,.int .i64],res:=[.int .i64],F:=fun xs=>Zvp xs.1 xs.2.1}
theorem Qpi:okE Qq3:=
 ofE Ze Zb Tryz.func317 Tryz.call317 (.seq .leaf (.seq (.seq .leaf (.block (.loop Qhw (fun N v=>Zgz N v.1 v.2.1 v.2.2.1) (fun v=>Zmo v.1 v.2.1 v.2.2.1) (fun K1=> .leaf)))) .leaf)) ⟨lf,⟨lf,fun _=>rfl,fun N=>⟨(fun v=>by kernel_rfl),lf⟩⟩,lf⟩ (hk fun _=>by kernel_rfl)
abbrev Qba:FnE:={f:=312,args:=[Ye,.int .i64,.str],res:=[Ye],F:=fun xs=>Znn xs.1 xs.2.1 xs.2.2.1}
theorem Z8j:okE Qba:=
 ofE (Za Zgr (Za Zue (Za Z1o (Za Zat (Za Qpi (Za Zub Ze)))))) Zb Tryz.func312 Tryz.call312 (.seq .leaf (.seq .leaf (.seq .leaf (.seq .leaf (.seq .leaf (.seq .leaf (.seq .leaf (.seq (.seq .leaf (.block (.loop Z2n (fun N v=>Zav N v.1 v.2.1 v.2.2.1 v.2.2.2.1 v.2.2.2.2.1 v.2.2.2.2.2.1 v.2.2.2.2.2.2.1) (fun v=>Zbz v.1 v.2.1 v.2.2.1 v.2.2.2.1 v.2.2.2.2.1 v.2.2.2.2.2.1 v.2.2.2.2.2.2.1) (fun K1=>(.seq .leaf (.seq (.block (.seq .leaf (.seq (.seq .leaf (.block (.loop Z2o (fun N v=>K5 K1 N v.1 v.2.1 v.2.2.1 v.2.2.2.1 v.2.2.2.2.1 v.2.2.2.2.2.1 v.2.2.2.2.2.2.1 v.2.2.2.2.2.2.2.1 v.2.2.2.2.2.2.2.2.1) (fun v=>Zb0 v.1 v.2.1 v.2.2.1 v.2.2.2.1 v.2.2.2.2.1 v.2.2.2.2.2.1 v.2.2.2.2.2.2.1 v.2.2.2.2.2.2.2.1 v.2.2.2.2.2.2.2.2.1) (fun K2=>(.seq .leaf (.seq (.block (.seq .leaf (.join Z2m (fun v=>Zd3 K1 K2 v.1 v.2.1 v.2.2.1 v.2.2.2.1 v.2.2.2.2.1 v.2.2.2.2.2.1 v.2.2.2.2.2.2.1 v.2.2.2.2.2.2.2.1 v.2.2.2.2.2.2.2.2.1 v.2.2.2.2.2.2.2.2.2.1) .leaf .leaf))) .leaf)))))) .leaf))) .leaf)))))) .leaf)))))))) ⟨lf,lf,lf,lf,lf,lf,lf,⟨lf,fun _=>rfl,fun N=>⟨(fun v=>by kernel_rfl),lf,⟨lf,⟨lf,fun _=>rfl,fun N=>⟨(fun v=>by kernel_rfl),lf,⟨lf,lf,(fun v=>by kernel_rfl),lf⟩,lf⟩⟩,lf⟩,lf⟩⟩,lf⟩ (hk fun _=>by kernel_rfl)
abbrev Z7b:FnE:={f:=300,args:=[Q5,.int .i64,.str,.bool],res:=[Q5,.int .i64],F:=fun xs=>Zl4 xs.1 xs.2.1 xs.2.2.1 xs.2.2.2.1}
theorem Z40:okE Z7b:=
 ofE (Za Zpg (Za Zau (Za Zzk (Za Z8j (Za Zoc Ze))))) Zb Tryz.func300 Tryz.call300 (.seq .leaf (.seq .leaf (.seq .leaf (.seq .leaf (.seq .leaf (.seq .leaf (.seq .leaf (.join Z0j (fun v=>Zcq v.1 v.2.1 v.2.2.1 v.2.2.2.1 v.2.2.2.2.1) .leaf (.seq .leaf (.join Z0k (fun v=>Zgf v.1 v.2.1) .leaf .leaf)))))))))) ⟨lf,lf,lf,lf,lf,lf,lf,lf,(fun v=>by kernel_rfl),lf,lf,(fun v=>by kernel_rfl),lf⟩ (hk fun _=>by kernel_rfl)
abbrev Qkm:FnE:={f:=313,args:=[Q5,.int .i64],res:=[.int .i64],F:=fun xs=>Zrc xs.1 xs.2.1}
theorem Qg5:okE Qkm:=
 ofE (Za Zau (Za Qr Ze)) Zb Tryz.func313 Tryz.call313 .leaf lf (hk fun _=>by kernel_rfl)
abbrev Qku:FnE:={f:=314,args:=[Wi,.int .i64],res:=[Wi,.bool],F:=fun xs=>Zm6 xs.1 xs.2.1}
theorem Qhc:okE Qku:=
 ofE (Za Zgt Ze) Zb Tryz.func314 Tryz.call314 .leaf lf (hk fun _=>by kernel_rfl)
abbrev Qnx:FnB:={f:=301,args:=[.bx 37 (Zl) (.u false),.bx 99 (Z2) (.u false),.sh (.int .i64)],res:= .vals [.int .i64],F:=fun xs=>Zpz xs.1 xs.2.1 xs.2.2.1}
theorem Zze:okB Qnx:=
 ofB [0,1] (Za Qg5 (Za Qhc Ze)) Zb Tryz.func301 Tryz.call301 .leaf lf (hk fun _=>by kernel_rfl)
abbrev Qa8:FnB:={f:=278,args:=[.sh (Zl),.sh (Zt)],res:= .shr [Zl,.int .i64],F:=fun xs=>Znl xs.1 xs.2.1}
theorem Z8h:okB Qa8:=
 ofB [] (Za Xo (Za Wt (Za Qc (Za Zfb (Za Zfc (Za Qy (Za Z40 Ze))))))) (Zs Zze (Zs Ze2 Zb)) Tryz.func278 Tryz.call278 (.seq .leaf (.seq (.seq .leaf (.cond (.seq .leaf (.frz [(4,.u false)])) .leaf)) (.seq (.seq .leaf (.cond (.seq .leaf (.frz [(4,.u false)])) .leaf)) (.seq .leaf (.seq (.seq .leaf (.cond (.seq .leaf (.frz [(4,.u false)])) .leaf)) (.seq .leaf (.seq .leaf (.seq (.frz [(6,.u false),(8,.u false)]) (.seq (.seq .leaf (.cond (.seq .leaf (.frz [(4,.u false)])) .leaf)) (.seq (.seq .leaf (.cond (.seq .leaf (.frz [(4,.u false)])) .leaf)) (.seq .leaf (.seq (.frz [(8,.u false)]) .leaf)))))))))))) ⟨lf,⟨lf,⟨lf,trivial⟩,lf⟩,⟨lf,⟨lf,trivial⟩,lf⟩,lf,⟨lf,⟨lf,trivial⟩,lf⟩,lf,lf,trivial,⟨lf,⟨lf,trivial⟩,lf⟩,⟨lf,⟨lf,trivial⟩,lf⟩,lf,trivial,lf⟩ (hk fun _=>by kernel_rfl)
abbrev Z4b:FnE:={f:=302,args:=[Q5,.int .i64,.int .i64],res:=[Q5,.int .i64],F:=fun xs=>Zke xs.1 xs.2.1 xs.2.2.1}
theorem Z1t:okE Z4b:=
 ofE (Za Zpg (Za Zau (Za Qr (Za Zzk Ze)))) Zb Tryz.func302 Tryz.call302 .leaf lf (hk fun _=>by kernel_rfl)
abbrev Z66:FnB:={f:=279,args:=[.sh (Zl),.sh (Zt)],res:= .shr [Zl,.int .i64],F:=fun xs=>Zl2 xs.1 xs.2.1}
theorem Z4w:okB Z66:=
 ofB [] (Za Xo (Za Wt (Za Qc (Za Zfb (Za Zfc (Za Qy (Za Z1t Ze))))))) (Zs Zze (Zs Zzf (Zs Ze2 Zb))) Tryz.func279 Tryz.call279 (.seq .leaf (.seq (.seq .leaf (.cond (.seq .leaf (.frz [(4,.u false)])) .leaf)) (.seq (.seq .leaf (.cond (.seq .leaf (.frz [(4,.u false)])) .leaf)) (.seq .leaf (.seq (.seq .leaf (.cond (.seq .leaf (.frz [(4,.u false)])) .leaf)) (.seq .leaf (.seq .leaf (.seq (.frz [(6,.u false),(8,.u false)]) (.seq (.seq .leaf (.cond (.seq .leaf (.frz [(4,.u false)])) .leaf)) (.seq (.seq .leaf (.cond (.seq .leaf (.frz [(4,.u false)])) .leaf)) (.join Z0h (fun v=>Zcp v.1 v.2.1 v.2.2.1 v.2.2.2.1) .leaf (.seq .leaf (.seq (.frz [(8,.u false)]) .leaf))))))))))))) ⟨lf,⟨lf,⟨lf,trivial⟩,lf⟩,⟨lf,⟨lf,trivial⟩,lf⟩,lf,⟨lf,⟨lf,trivial⟩,lf⟩,lf,lf,trivial,⟨lf,⟨lf,trivial⟩,lf⟩,⟨lf,⟨lf,trivial⟩,lf⟩,lf,(fun v=>by kernel_rfl),lf,trivial,lf⟩ (hk fun _=>by kernel_rfl)
abbrev Qa9:FnB:={f:=280,args:=[.sh (Zl),.sh (Zt)],res:= .shr [Zl,.int .i64],F:=fun xs=>Znm xs.1 xs.2.1}
theorem Z8i:okB Qa9:=
 ofB [] (Za Xo (Za Wt (Za Qc (Za Zpa (Za Zfc (Za Qy (Za Zsv Ze))))))) (Zs Ze2 Zb) Tryz.func280 Tryz.call280 (.seq .leaf (.seq (.seq .leaf (.cond (.seq .leaf (.frz [(4,.u false)])) .leaf)) (.seq (.seq .leaf (.cond (.seq .leaf (.frz [(4,.u false)])) .leaf)) (.seq .leaf (.seq (.seq .leaf (.cond (.seq .leaf (.frz [(4,.u false)])) .leaf)) (.seq .leaf (.seq .leaf (.join Z2l (fun v=>Zd2 v.1 v.2.1 v.2.2.1) .leaf (.seq (.frz [(6,.u false),(8,.u false)]) .leaf))))))))) ⟨lf,⟨lf,⟨lf,trivial⟩,lf⟩,⟨lf,⟨lf,trivial⟩,lf⟩,lf,⟨lf,⟨lf,trivial⟩,lf⟩,lf,lf,lf,(fun v=>by kernel_rfl),trivial,lf⟩ (hk fun _=>by kernel_rfl)
abbrev Qbq:FnE:={f:=303,args:=[Yb,.int .i64],res:=[Yb],F:=fun xs=>Zi7 xs.1 xs.2.1}
theorem Zt9:okE Qbq:=
 ofE (Za Vs (Za Qr Ze)) Zb Tryz.func303 Tryz.call303 .leaf lf (hk fun _=>by kernel_rfl)
abbrev Qbp:FnE:={f:=304,args:=[Zkf,.int .i64],res:=[Zkf],F:=fun xs=>Zi6 xs.1 xs.2.1}
theorem Z8t:okE Qbp:=
 ofE (Za Zsc Ze) Zb Tryz.func304 Tryz.call304 .leaf lf (hk fun _=>by kernel_rfl)
abbrev Qkz:FnE:={f:=305,args:=[Zl,Zt],res:=[Zl,.int .i64],F:=fun xs=>Zrj xs.1 xs.2.1}
theorem Qhf:okE Qkz:=
 ofE (Za Zpa (Za Zfb (Za Qc (Za Zfc (Za Qy (Za Zt9 (Za Xw Ze))))))) Zb Tryz.func305 Tryz.call305 (.seq .leaf (.seq .leaf (.join Z9u (fun v=>Zhp v.1 v.2.1 v.2.2.1 v.2.2.2.1) .leaf (.seq .leaf (.seq .leaf (.seq .leaf (.join Z9v (fun v=>Zl9 v.1 v.2.1) .leaf .leaf))))))) ⟨lf,lf,lf,(fun v=>by kernel_rfl),lf,lf,lf,lf,(fun v=>by kernel_rfl),lf⟩ (hk fun _=>by kernel_rfl)
abbrev Z65:FnE:={f:=281,args:=[Zl,Zt],res:=[Zl,.int .i64],F:=fun xs=>Zl1 xs.1 xs.2.1}
theorem Z4v:okE Z65:=
 ofE (Za Qc (Za Xo (Za Wt (Za Zt9 (Za Z8t (Za Qhf Ze)))))) Zb Tryz.func281 Tryz.call281 (.seq .leaf (.seq .leaf (.seq .leaf (.seq (.seq .leaf (.block (.seq .leaf (.cond .leaf (.seq .leaf (.cond (.join Z0e (fun v=>Zgd v.1 v.2.1) .leaf .leaf) (.join Z0f (fun v=>Zcn v.1 v.2.1 v.2.2.1 v.2.2.2.1 v.2.2.2.2.1 v.2.2.2.2.2.1) .leaf (.cond .leaf (.join Z0g (fun v=>Zco v.1 v.2.1 v.2.2.1 v.2.2.2.1 v.2.2.2.2.1) .leaf .leaf))))))))) .leaf)))) ⟨lf,lf,lf,⟨lf,lf,lf,lf,⟨lf,(fun v=>by kernel_rfl),lf⟩,lf,(fun v=>by kernel_rfl),lf,lf,(fun v=>by kernel_rfl),lf⟩,lf⟩ (hk fun _=>by kernel_rfl)
abbrev Z64:FnB:={f:=238,args:=[.sh (Zl),.sh (Zt)],res:= .shr [Zl,.int .i64],F:=fun xs=>Zg5 xs.1 xs.2.1}
theorem Z4u:okB Z64:=
 ofB [] (Za Qc (Za Z4v Ze)) (Zs Z8h (Zs Z4w (Zs Z8i Zb))) Tryz.func238 Tryz.call238 (.seq .leaf (.seq .leaf (.seq .leaf (.join Z0d (fun v=>Wn v.1 v.2.1 v.2.2.1) .leaf .leaf)))) ⟨lf,lf,lf,lf,(fun v=>by kernel_rfl),lf⟩ (hk fun _=>by kernel_rfl)
abbrev Z02:FnB:={f:=170,args:=[.sh (Zl),.sh (.str)],res:= .shr [Zl,.int .i64],F:=fun xs=>Vj xs.1 xs.2.1}
theorem Zqf:okB Z02:=
 ofB [] (Za Qc (Za Xo (Za Zgs (Za Zzv (Za Qcm Ze))))) (Zs Z4u Zb) Tryz.func170 Tryz.call170 (.seq .leaf (.seq .leaf (.seq (.seq .leaf (.cond (.seq .leaf (.frz [(4,.u false)])) .leaf)) (.seq .leaf (.seq (.seq .leaf (.cond (.seq .leaf (.frz [(4,.u false)])) .leaf)) (.seq (.seq .leaf (.block (.loop Zxa (fun N v=>Qt N v.1 v.2.1 v.2.2.1 v.2.2.2.1) (fun v=>Zd1 v.1 v.2.1 v.2.2.1 v.2.2.2.1) (fun K1=>(.seq .leaf (.seq (.block (.join Zw9 (fun v=>Xd K1 v.1 v.2.1 v.2.2.1 v.2.2.2.1 v.2.2.2.2.1 v.2.2.2.2.2.1) (.frz [(6,.u false)]) (.seq (.seq .leaf (.cond (.seq .leaf (.frz [(4,.u false)])) .leaf)) .leaf))) .leaf)))))) .leaf)))))) ⟨lf,lf,⟨lf,⟨lf,trivial⟩,lf⟩,lf,⟨lf,⟨lf,trivial⟩,lf⟩,⟨lf,fun _=>rfl,fun N=>⟨(fun v=>by kernel_rfl),lf,⟨trivial,(fun v=>by kernel_rfl),⟨lf,⟨lf,trivial⟩,lf⟩,lf⟩,lf⟩⟩,lf⟩ (hk fun _=>by kernel_rfl)
abbrev Qkr:FnE:={f:=171,args:=[Zl,.int .i64],res:=[Zl,.bool],F:=fun xs=>Zrf xs.1 xs.2.1}
theorem Qg9:okE Qkr:=
 ofE (Za Qc (Za Yt (Za Qj Ze))) Zb Tryz.func171 Tryz.call171 .leaf lf (hk fun _=>by kernel_rfl)
abbrev Qtt:FnE:={f:=172,args:=[.bool],res:=[.str],F:=fun xs=>Zy1 xs.1}
theorem Qrz:okE Qtt:=
 ofE Ze Zb Tryz.func172 Tryz.call172 .leaf lf (hk fun _=>by kernel_rfl)
abbrev Qaz:FnB:={f:=116,args:=[.sh (Zl),.sh (Vc)],res:= .shr [.str,Zl],F:=fun xs=>Zni xs.1 xs.2.1}
theorem Z8c:okB Qaz:=
 ofB [] (Za Qc (Za Xo (Za Zzd (Za Zgs (Za Z8r (Za Zpb (Za Z44 (Za Z1q (Za Zvb (Za Z8u (Za Z42 (Za Zva (Za Qg9 (Za Qrz Ze)))))))))))))) (Zs Zua (Zs Z41 (Zs Zt4 (Zs Zu9 (Zs Zt7 (Zs Zqf Zb)))))) Tryz.func116 Tryz.call116 (.seq .leaf (.seq .leaf (.seq (.seq .leaf (.cond (.seq .leaf (.frz [(5,.u false)])) .leaf)) (.seq (.seq .leaf (.cond (.seq .leaf (.frz [(5,.u false)])) .leaf)) (.seq .leaf (.join Z2c (fun v=>X5 v.1 v.2.1 v.2.2.1) (.seq .leaf (.block (.seq .leaf (.cond (.seq .leaf (.seq (.seq .leaf (.cond (.seq .leaf (.frz [(5,.u false)])) .leaf)) (.seq .leaf (.frz [(5,.u false)])))) (.seq .leaf (.cond (.seq .leaf (.seq .leaf (.frz [(5,.u false)]))) .leaf)))))) .leaf)))))) ⟨lf,lf,⟨lf,⟨lf,trivial⟩,lf⟩,⟨lf,⟨lf,trivial⟩,lf⟩,lf,⟨lf,lf,⟨lf,⟨lf,⟨lf,trivial⟩,lf⟩,lf,trivial⟩,lf,⟨lf,lf,trivial⟩,lf⟩,(fun v=>by kernel_rfl),lf⟩ (hk fun _=>by kernel_rfl)
abbrev Qkq:FnE:={f:=173,args:=[.str],res:=[.int .i64,.bool],F:=fun xs=>Zm5 xs.1}
theorem Qg8:okE Qkq:=
 ofE (Za Zpb Ze) Zb Tryz.func173 Tryz.call173 (.seq .leaf (.seq .leaf (.seq .leaf (.seq (.seq .leaf (.block (.loop Z9q (fun N v=>Zdj N v.1 v.2.1 v.2.2.1 v.2.2.2.1) (fun v=>Zjy v.1 v.2.1 v.2.2.1 v.2.2.2.1) (fun K1=>(.seq .leaf (.join Z9o (fun v=>Zhg K1 v.1 v.2.1 v.2.2.1 v.2.2.2.1) .leaf .leaf)))))) (.join Z9p (fun v=>Jl v.1 v.2.1 v.2.2.1) .leaf .leaf))))) ⟨lf,lf,lf,⟨lf,fun _=>rfl,fun N=>⟨(fun v=>by kernel_rfl),lf,lf,(fun v=>by kernel_rfl),lf⟩⟩,lf,(fun v=>by kernel_rfl),lf⟩ (hk fun _=>by kernel_rfl)
abbrev Qnr:FnE:={f:=239,args:=[Qe,.int .i64,.bool],res:=[W8,.bool],F:=fun xs=>Zy0 xs.1 xs.2.1 xs.2.2.1}
theorem Qlk:okE Qnr:=
 ofE Ze Zb Tryz.func239 Tryz.call239 (.seq .leaf (.seq (.seq .leaf (.block (.loop Qdm (fun N v=>Zi8 N v.1 v.2.1 v.2.2.1 v.2.2.2.1 v.2.2.2.2.1) (fun v=>Zk8 v.1 v.2.1 v.2.2.1 v.2.2.2.1 v.2.2.2.2.1) (fun K1=> .leaf)))) .leaf)) ⟨lf,⟨lf,fun _=>rfl,fun N=>⟨(fun v=>by kernel_rfl),lf⟩⟩,lf⟩ (hk fun _=>by kernel_rfl)
abbrev Qk5:FnE:={f:=174,args:=[Qe,.int .i64,.bool],res:=[W8],F:=fun xs=>Za7 xs.1 xs.2.1 xs.2.2.1}
theorem Qhi:okE Qk5:=
 ofE (Za Qlk Ze) Zb Tryz.func174 Tryz.call174 .leaf lf (hk fun _=>by kernel_rfl)
abbrev Qri:FnB:={f:=175,args:=[.bx 41 (Qe) (.p (.u false) (.p (.u false) (.p (.u false) (.p (.u false) (.p (.u true) (.u false)))))),.sh (W8)],res:= .vals [],F:=fun xs=>Zlj xs.1 xs.2.1}
theorem Qpp:okB Qri:=
 ofB [0] Ze Zb Tryz.func175 Tryz.call175 (.seq .leaf (.seq (.seq .leaf (.block (.loop Qh5 (fun N v=>Zlk N v.1 v.2.1 v.2.2.1) (fun v=>Zmq v.1 v.2.1 v.2.2.1) (fun K1=> .leaf)))) .leaf)) ⟨lf,⟨lf,fun _=>rfl,fun N=>⟨(fun v=>by kernel_rfl),lf⟩⟩,lf⟩ (hk fun _=>by kernel_rfl)
abbrev Qob:FnB:={f:=117,args:=[.bx 41 (Qe) (.p (.u false) (.p (.u false) (.p (.u false) (.p (.u false) (.p (.u true) (.u false)))))),.sh (.bool),.sh (Vc),.sh (.str),.sh (Zl)],res:= .vals [],F:=fun xs=>Zp6 xs.1 xs.2.1 xs.2.2.1 xs.2.2.2.1 xs.2.2.2.2.1}
theorem Qls:okB Qob:=
 ofB [0] (Za Qg8 (Za Qhi (Za Qy Ze))) (Zs Qpp (Zs Zua Zb)) Tryz.func117 Tryz.call117 (.seq .leaf (.seq .leaf (.block (.seq .leaf (.cond (.seq .leaf (.seq .leaf (.cond (.join Qd4 (fun v=>Zsn v.1 v.2.1 v.2.2.1 v.2.2.2.1) .leaf .leaf) .leaf))) (.seq .leaf (.cond (.seq .leaf (.cond (.join Qd5 (fun v=>Zso v.1 v.2.1) .leaf .leaf) .leaf)) (.seq .leaf (.cond (.seq .leaf (.seq .leaf (.seq .leaf (.cond (.join Qd6 (fun v=>Zsp v.1 v.2.1 v.2.2.1 v.2.2.2.1 v.2.2.2.2.1) .leaf .leaf) .leaf)))) (.seq .leaf (.cond (.seq .leaf (.cond (.join Qd7 (fun v=>Zsq v.1 v.2.1) .leaf .leaf) .leaf)) (.seq .leaf (.cond (.seq .leaf (.cond (.join Qd8 (fun v=>Zsr v.1 v.2.1) .leaf .leaf) .leaf)) .leaf))))))))))))) ⟨lf,lf,lf,⟨lf,lf,⟨lf,(fun v=>by kernel_rfl),lf⟩,lf⟩,lf,⟨lf,⟨lf,(fun v=>by kernel_rfl),lf⟩,lf⟩,lf,⟨lf,lf,lf,⟨lf,(fun v=>by kernel_rfl),lf⟩,lf⟩,lf,⟨lf,⟨lf,(fun v=>by kernel_rfl),lf⟩,lf⟩,lf,⟨lf,⟨lf,(fun v=>by kernel_rfl),lf⟩,lf⟩,lf⟩ (hk fun _=>by kernel_rfl)
abbrev Qfz:FnB:={f:=82,args:=[.sh (Qe),.sh (.bool),.sh (Vc)],res:= .flg [(.str,(.u true)),(Qe,(.p (.u false) (.p (.u false) (.p (.u false) (.p (.u false) (.u true))))))],F:=fun xs=>Zeh xs.1 xs.2.1 xs.2.2.1}
theorem Zvj:okB Qfz:=
 ofB [] (Za Zng (Za Zks (Za Zzd (Za Qj (Za Zj7 (Za Zt2 (Za Zgs (Za Zvg (Za Zpb Ze))))))))) (Zs Zt4 (Zs Zse (Zs Z8c (Zs Qls Zb)))) Tryz.func82 Tryz.call82 (.seq .leaf (.seq .leaf (.seq (.seq .leaf (.cond (.seq .leaf (.frz [(7,(.p (.u false) (.p (.u false) (.p (.u false) (.p (.u false) (.u true))))))])) .leaf)) (.seq .leaf (.seq (.seq .leaf (.cond (.seq (.frz [(9,.u false)]) (.seq (.frz [(8,(.p (.u false) (.p (.u false) (.p (.u false) (.p (.u false) (.p (.u true) (.u false)))))))]) (.seq .leaf (.seq .leaf (.join Z5p (fun v=>Zfu v.1 v.2.1 v.2.2.1) .leaf .leaf))))) .leaf)) (.seq (.frz [(9,.u false)]) (.seq (.frz [(8,(.p (.u false) (.p (.u false) (.p (.u false) (.p (.u false) (.p (.u true) (.u false)))))))]) .leaf))))))) ⟨lf,lf,⟨lf,⟨lf,trivial⟩,lf⟩,lf,⟨lf,⟨trivial,trivial,lf,lf,lf,(fun v=>by kernel_rfl),lf⟩,lf⟩,trivial,trivial,lf⟩ (hk fun _=>by kernel_rfl)
abbrev Qrf:FnB:={f:=31,args:=[.bx 58 (V1) (.u false),.sh (.slice 9 (.str))],res:= .vals [.str],F:=fun xs=>Zld xs.1 xs.2.1}
theorem Z1u:okB Qrf:=
 ofB [0] Ze (Zs Kc Zb) Tryz.func31 Tryz.call31 .leaf lf (hk fun _=>by kernel_rfl)
abbrev Qrm:FnB:={f:=20,args:=[.bx 58 (V1) (.u false),.sh (.int .i64)],res:= .vals [.str],F:=fun xs=>Wy xs.1 xs.2.1}
theorem Zkt:okB Qrm:=
 ofB [0] Ze (Zs Kc (Zs Z1u Zb)) Tryz.func20 Tryz.call20 (.seq .leaf (.seq .leaf (.seq (.seq .leaf (.block (.loop Qh6 (fun N v=>Zhw N v.1 v.2.1 v.2.2.1) (fun v=>Zgi v.1 v.2.1 v.2.2.1) (fun K1=> .leaf)))) .leaf))) ⟨lf,lf,⟨lf,fun _=>rfl,fun N=>⟨(fun v=>by kernel_rfl),lf⟩⟩,lf⟩ (hk fun _=>by kernel_rfl)
abbrev Qre:FnB:={f:=21,args:=[.bx 58 (V1) (.u false),.sh (.int .i64)],res:= .vals [.bool],F:=fun xs=>Zdb xs.1 xs.2.1}
theorem Zpf:okB Qre:=
 ofB [0] Ze (Zs Kc Zb) Tryz.func21 Tryz.call21 .leaf lf (hk fun _=>by kernel_rfl)
abbrev Qf5:FnB:={f:=177,args:=[.bx 58 (V1) (.u false),.sh (.slice 3 (.int .i64))],res:= .vals [.int .i64],F:=fun xs=>Zhq xs.1 xs.2.1}
theorem Zvk:okB Qf5:=
 ofB [0] Ze (Zs Kc Zb) Tryz.func177 Tryz.call177 .leaf lf (hk fun _=>by kernel_rfl)
abbrev Qoh:FnB:={f:=179,args:=[.bx 58 (V1) (.u false)],res:= .vals [Zt],F:=fun xs=>Ztk xs.1}
theorem Qlw:okB Qoh:=
 ofB [0] (Za Z1x Ze) (Zs Zvk (Zs Kc (Zs Zkt (Zs Zpf Zb)))) Tryz.func179 Tryz.call179 .leaf lf (hk fun _=>by kernel_rfl)
abbrev Qk4:FnB:={f:=118,args:=[.bx 58 (V1) (.u false)],res:= .vals [Vc],F:=fun xs=>Zrl xs.1}
theorem Qhh:okB Qk4:=
 ofB [0] (Za Zml (Za Zvb (Za Zzi Ze))) (Zs Zvk (Zs Kc (Zs Z1u (Zs Zkt (Zs Qlw Zb))))) Tryz.func118 Tryz.call118 (.seq .leaf (.seq .leaf (.seq .leaf (.join Z9w (fun v=>Kh v.1 v.2.1 v.2.2.1) (.seq .leaf (.block (.seq .leaf (.cond .leaf (.seq .leaf (.cond .leaf (.seq .leaf (.cond .leaf (.seq .leaf (.cond .leaf (.seq .leaf (.cond .leaf (.join Z9x (fun v=>Zht v.1 v.2.1 v.2.2.1 v.2.2.2.1) .leaf .leaf))))))))))))) .leaf)))) ⟨lf,lf,lf,⟨lf,lf,lf,lf,lf,lf,lf,lf,lf,lf,lf,lf,(fun v=>by kernel_rfl),lf⟩,(fun v=>by kernel_rfl),lf⟩ (hk fun _=>by kernel_rfl)
abbrev Qbu:FnE:={f:=242,args:=[.slice 78 (Qs),.int .i64],res:=[Qs,.slice 78 (Qs),.bool],F:=fun xs=>Znw xs.1 xs.2.1}
theorem Z8v:okE Qbu:=
 ofE (Za Qj (Za Zix Ze)) Zb Tryz.func242 Tryz.call242 (.seq .leaf (.seq .leaf (.seq .leaf (.seq (.seq .leaf (.block (.loop Z23 (fun N v=>Zaw N v.1 v.2.1 v.2.2.1 v.2.2.2.1 v.2.2.2.2.1) (fun v=>Zhl v.1 v.2.1 v.2.2.1 v.2.2.2.1 v.2.2.2.2.1) (fun K1=>(.seq .leaf (.join Z22 (fun v=>Zim K1 v.1 v.2.1 v.2.2.1 v.2.2.2.1 v.2.2.2.2.1) .leaf .leaf)))))) .leaf)))) ⟨lf,lf,lf,⟨lf,fun _=>rfl,fun N=>⟨(fun v=>by kernel_rfl),lf,lf,(fun v=>by kernel_rfl),lf⟩⟩,lf⟩ (hk fun _=>by kernel_rfl)
abbrev Qof:FnB:={f:=180,args:=[.bx 41 (Qe) (.p (.u false) (.p (.u false) (.p (.u false) (.p (.u false) (.p (.u true) (.u false)))))),.sh (.bool),.sh (.int .i64)],res:= .vals [Qs,.bool],F:=fun xs=>Zma xs.1 xs.2.1 xs.2.2.1}
theorem Zzj:okB Qof:=
 ofB [0] (Za Zj7 (Za Z8v Ze)) Zb Tryz.func180 Tryz.call180 (.seq .leaf (.seq .leaf (.join Qee (fun v=>Zn1 v.1 v.2.1 v.2.2.1 v.2.2.2.1) .leaf .leaf))) ⟨lf,lf,lf,(fun v=>by kernel_rfl),lf⟩ (hk fun _=>by kernel_rfl)
abbrev Qnh:FnB:={f:=119,args:=[.sh (Qe),.sh (.bool),.sh (.int .i64)],res:= .flg [(Qe,(.p (.u false) (.p (.u false) (.p (.u false) (.p (.u false) (.u true)))))),(.bool,(.u true))],F:=fun xs=>Zs9 xs.1 xs.2.1 xs.2.2.1}
theorem Qlf:okB Qnh:=
 ofB [] (Za Zng (Za Zks (Za Zt2 Ze))) (Zs Zzj (Zs Zqf (Zs Zse (Zs Zu9 Zb)))) Tryz.func119 Tryz.call119 (.seq .leaf (.seq .leaf (.seq (.frz [(8,(.p (.u false) (.p (.u false) (.p (.u false) (.p (.u false) (.p (.u true) (.u false)))))))]) (.seq (.seq .leaf (.cond (.seq .leaf (.frz [(6,(.p (.u false) (.p (.u false) (.p (.u false) (.p (.u false) (.u true))))))])) .leaf)) (.join Qdi (fun v=>Xx v.1 v.2.1 v.2.2.1 v.2.2.2.1 v.2.2.2.2.1 v.2.2.2.2.2.1 v.2.2.2.2.2.2.1) .leaf (.seq .leaf (.join Qdj (fun v=>Zi1 v.1 v.2.1) (.seq .leaf (.cond (.join Qdk (fun v=>Xy v.1 v.2.1 v.2.2.1 v.2.2.2.1) .leaf .leaf) .leaf)) .leaf))))))) ⟨lf,lf,trivial,⟨lf,⟨lf,trivial⟩,lf⟩,lf,(fun v=>by kernel_rfl),lf,⟨lf,⟨lf,(fun v=>by kernel_rfl),lf⟩,lf⟩,(fun v=>by kernel_rfl),lf⟩ (hk fun _=>by kernel_rfl)
abbrev Qfh:FnE:={f:=181,args:=[.slice 78 (Qs),.int .i64],res:=[.bool],F:=fun xs=>Zuk xs.1 xs.2.1}
theorem Qcp:okE Qfh:=
 ofE Ze Zb Tryz.func181 Tryz.call181 (.seq .leaf (.seq (.seq .leaf (.block (.loop Z5c (fun N v=>Zfl N v.1 v.2.1 v.2.2.1) (fun v=>Zii v.1 v.2.1 v.2.2.1) (fun K1=> .leaf)))) .leaf)) ⟨lf,⟨lf,fun _=>rfl,fun N=>⟨(fun v=>by kernel_rfl),lf⟩⟩,lf⟩ (hk fun _=>by kernel_rfl)
abbrev Qvp:FnB:={f:=120,args:=[.sh (Qe),.sh (.bool),.sh (.int .i64)],res:= .flg [(Qe,(.p (.u false) (.p (.u false) (.p (.u false) (.p (.u false) (.u true)))))),(.bool,(.u true))],F:=fun xs=>Z3t xs.1 xs.2.1 xs.2.2.1}
theorem Qul:okB Qvp:=
 ofB [] (Za Zng (Za Zks (Za Zj7 (Za Qcp (Za Zt2 Ze))))) (Zs Zzj (Zs Zt7 (Zs Zse Zb))) Tryz.func120 Tryz.call120 (.seq .leaf (.seq .leaf (.seq (.frz [(8,(.p (.u false) (.p (.u false) (.p (.u false) (.p (.u false) (.p (.u true) (.u false)))))))]) (.seq (.seq .leaf (.cond (.seq .leaf (.frz [(6,(.p (.u false) (.p (.u false) (.p (.u false) (.p (.u false) (.u true))))))])) .leaf)) (.join Qqf (fun v=>Zpn v.1 v.2.1) (.seq .leaf (.cond (.join Qqg (fun v=>Jf v.1 v.2.1 v.2.2.1 v.2.2.2.1) .leaf .leaf) .leaf)) .leaf))))) ⟨lf,lf,trivial,⟨lf,⟨lf,trivial⟩,lf⟩,⟨lf,⟨lf,(fun v=>by kernel_rfl),lf⟩,lf⟩,(fun v=>by kernel_rfl),lf⟩ (hk fun _=>by kernel_rfl)
abbrev Qa2:FnE:={f:=182,args:=[.slice 78 (Qs),.int .i64],res:=[.slice 78 (Qs),.bool],F:=fun xs=>Znj xs.1 xs.2.1}
theorem Z8e:okE Qa2:=
 ofE (Za Qj (Za Zix (Za Zvg Ze))) Zb Tryz.func182 Tryz.call182 .leaf lf (hk fun _=>by kernel_rfl)
abbrev Qfc:FnE:={f:=121,args:=[Qe,.bool,.int .i64],res:=[Qe,.bool],F:=fun xs=>Zpo xs.1 xs.2.1 xs.2.2.1}
theorem Qcn:okE Qfc:=
 ofE (Za Zng (Za Zj7 (Za Z8e (Za Zks Ze)))) Zb Tryz.func121 Tryz.call121 (.seq .leaf (.seq .leaf (.seq .leaf (.seq .leaf (.join Z48 (fun v=>Zka v.1 v.2.1) .leaf .leaf))))) ⟨lf,lf,lf,lf,lf,(fun v=>by kernel_rfl),lf⟩ (hk fun _=>by kernel_rfl)
abbrev Qoe:FnB:={f:=83,args:=[.bx 58 (V1) (.u false),.sh (Qe)],res:= .flg [(Qe,(.p (.u false) (.p (.u false) (.p (.u false) (.p (.u false) (.p (.u true) (.u false)))))))],F:=fun xs=>Zti xs.1 xs.2.1}
theorem Qlu:okB Qoe:=
 ofB [0] (Za Qcn Ze) (Zs Zpf (Zs Kc (Zs Qhh (Zs Zvj (Zs Qlf (Zs Qul Zb)))))) Tryz.func83 Tryz.call83 (.seq .leaf (.seq .leaf (.seq .leaf (.seq (.seq .leaf (.block (.join Qeb (fun v=>Ze8 v.1 v.2.1 v.2.2.1 v.2.2.2.1 v.2.2.2.2.1 v.2.2.2.2.2.1 v.2.2.2.2.2.2.1) .leaf (.cond .leaf (.join Qec (fun v=>Ze9 v.1 v.2.1 v.2.2.1 v.2.2.2.1 v.2.2.2.2.1 v.2.2.2.2.2.1 v.2.2.2.2.2.2.1) .leaf (.cond .leaf (.join Qed (fun v=>Zji v.1 v.2.1 v.2.2.1 v.2.2.2.1 v.2.2.2.2.1 v.2.2.2.2.2.1 v.2.2.2.2.2.2.1) .leaf .leaf))))))) (.seq .leaf (.frz [(4,(.p (.u false) (.p (.u false) (.p (.u false) (.p (.u false) (.p (.u true) (.u false)))))))])))))) ⟨lf,lf,lf,⟨lf,lf,(fun v=>by kernel_rfl),lf,lf,(fun v=>by kernel_rfl),lf,lf,(fun v=>by kernel_rfl),lf⟩,lf,trivial⟩ (hk fun _=>by kernel_rfl)
abbrev Qoc:FnB:={f:=46,args:=[.bx 58 (V1) (.u false)],res:= .flg [(Qe,(.p (.u false) (.p (.u false) (.p (.u false) (.p (.u false) (.u true))))))],F:=fun xs=>Zth xs.1}
theorem Qlt:okB Qoc:=
 ofB [0] (Za Qli Ze) (Zs Qlm (Zs Zvj (Zs Zkt (Zs Kc (Zs Qlu Zb))))) Tryz.func46 Tryz.call46 (.seq .leaf (.seq .leaf (.seq (.frz [(3,.u false)]) (.join Qd9 (fun v=>Zss v.1 v.2.1 v.2.2.1) (.frz [(3,.u false)]) (.seq (.seq .leaf (.block (.loop Qea (fun N v=>Zjh N v.1 v.2.1 v.2.2.1 v.2.2.2.1) (fun v=>Zli v.1 v.2.1 v.2.2.1 v.2.2.2.1) (fun K1=>(.seq .leaf (.seq (.block (.frz [(3,.u false)])) .leaf)))))) .leaf))))) ⟨lf,lf,trivial,trivial,(fun v=>by kernel_rfl),⟨lf,fun _=>rfl,fun N=>⟨(fun v=>by kernel_rfl),lf,trivial,lf⟩⟩,lf⟩ (hk fun _=>by kernel_rfl)
abbrev Qrh:FnB:={f:=29,args:=[.bx 58 (V1) (.u false)],res:= .flg [(Qe,(.p (.u false) (.p (.u false) (.p (.u false) (.p (.u false) (.u true))))))],F:=fun xs=>Zvs xs.1}
theorem Qpo:okB Qrh:=
 ofB [0] Ze (Zs Qlt (Zs Kc Zb)) Tryz.func29 Tryz.call29 .leaf lf (hk fun _=>by kernel_rfl)
abbrev Qog:FnB:={f:=18,args:=[.sh (.slice 5 (.int .u8))],res:= .flg [(Qe,(.p (.u false) (.p (.u false) (.p (.u false) (.p (.u false) (.u true))))))],F:=fun xs=>Ztj xs.1}
theorem Qlv:okB Qog:=
 ofB [] Ze (Zs Z6c (Zs Qpo (Zs Zpf (Zs Kc (Zs Zkt Zb))))) Tryz.func18 Tryz.call18 (.seq .leaf (.seq .leaf (.seq .leaf (.seq (.seq .leaf (.cond (.seq .leaf (.join Qef (fun v=>Zjj v.1 v.2.1 v.2.2.1 v.2.2.2.1) .leaf .leaf)) .leaf)) .leaf)))) ⟨lf,lf,lf,⟨lf,⟨lf,lf,(fun v=>by kernel_rfl),lf⟩,lf⟩,lf⟩ (hk fun _=>by kernel_rfl)
abbrev Ztp:FnB:={f:=5,args:=[.sh (.slice 5 (.int .u8))],res:= .flg [(Qe,(.p (.u false) (.p (.u false) (.p (.u false) (.p (.u false) (.u true))))))],F:=fun xs=>Za3 xs.1}
theorem Zs7:okB Ztp:=
 ofB [] Ze (Zs Qlv Zb) Tryz.func5 Tryz.call5 .leaf lf (hk fun _=>by kernel_rfl)
abbrev Zv9:FnE:={f:=45,args:=[.str,.str],res:=[.bool],F:=fun xs=>Zj1 xs.1 xs.2.1}
theorem Zv3:okE Zv9:=
 ofE Ze Zb Tryz.func45 Tryz.call45 .leaf lf (hk fun _=>by kernel_rfl)
abbrev Z4d:FnE:={f:=28,args:=[.str,.str],res:=[.bool],F:=fun xs=>Zp9 xs.1 xs.2.1}
theorem Z1y:okE Z4d:=
 ofE (Za Zv3 Ze) Zb Tryz.func28 Tryz.call28 .leaf lf (hk fun _=>by kernel_rfl)
abbrev Qam:FnE:={f:=16,args:=[.str,.str],res:=[.bool],F:=fun xs=>Zir xs.1 xs.2.1}
theorem Ztx:okE Qam:=
 ofE (Za Z1y Ze) Zb Tryz.func16 Tryz.call16 .leaf lf (hk fun _=>by kernel_rfl)
abbrev Zxl:FnE:={f:=6,args:=[Qe],res:=[.int .i64],F:=fun xs=>Zfa xs.1}
theorem Zon:okE Zxl:=
 ofE (Za Ztx Ze) Zb Tryz.func6 Tryz.call6 (.seq .leaf (.seq (.seq .leaf (.block (.loop Zur (fun N v=>Vr N v.1 v.2.1 v.2.2.1) (fun v=>Ziq v.1 v.2.1 v.2.2.1) (fun K1=> .leaf)))) .leaf)) ⟨lf,⟨lf,fun _=>rfl,fun N=>⟨(fun v=>by kernel_rfl),lf⟩⟩,lf⟩ (hk fun _=>by kernel_rfl)
abbrev Zzp:FnE:={f:=7,args:=[.slice 5 (.int .u8)],res:=[.str,.str],F:=fun xs=>Zf8 xs.1}
theorem Zya:okE Zzp:=
 ofE Ze (Zs Z6c (Zs Zkt (Zs Zpf Zb))) Tryz.func7 Tryz.call7 .leaf lf (hk fun _=>by kernel_rfl)
abbrev Qbc:FnE:={f:=17,args:=[.str,.str],res:=[.bool],F:=fun xs=>Zi3 xs.1 xs.2.1}
theorem Zt6:okE Qbc:=
 ofE Ze Zb Tryz.func17 Tryz.call17 .leaf lf (hk fun _=>by kernel_rfl)
abbrev Zxn:FnE:={f:=8,args:=[Qe],res:=[.int .i64],F:=fun xs=>Zk1 xs.1}
theorem Zwo:okE Zxn:=
 ofE (Za Zt6 Ze) Zb Tryz.func8 Tryz.call8 (.seq .leaf (.seq (.seq .leaf (.block (.loop Zus (fun N v=>Vz N v.1 v.2.1) (fun v=>Zi2 v.1 v.2.1) (fun K1=> .leaf)))) .leaf)) ⟨lf,⟨lf,fun _=>rfl,fun N=>⟨(fun v=>by kernel_rfl),lf⟩⟩,lf⟩ (hk fun _=>by kernel_rfl)
abbrev Qal:FnE:={f:=9,args:=[Qe],res:=[.bool],F:=fun xs=>Znc xs.1}
theorem Z74:okE Qal:=
 ofE (Za Zon Ze) Zb Tryz.func9 Tryz.call9 .leaf lf (hk fun _=>by kernel_rfl)
abbrev Qak:FnE:={f:=10,args:=[Qe],res:=[.bool],F:=fun xs=>Zr6 xs.1}
theorem Z73:okE Qak:=
 ofE Ze Zb Tryz.func10 Tryz.call10 (.seq .leaf (.seq (.seq .leaf (.block (.loop Z09 (fun N v=>Zdm N v.1 v.2.1 v.2.2.1) (fun v=>Zol v.1 v.2.1 v.2.2.1) (fun K1=> .leaf)))) .leaf)) ⟨lf,⟨lf,fun _=>rfl,fun N=>⟨(fun v=>by kernel_rfl),lf⟩⟩,lf⟩ (hk fun _=>by kernel_rfl)
abbrev Qbb:FnE:={f:=11,args:=[Qe],res:=[.bool],F:=fun xs=>Zsk xs.1}
theorem Z8k:okE Qbb:=
 ofE Ze Zb Tryz.func11 Tryz.call11 (.seq .leaf (.seq (.seq .leaf (.block (.loop Z2p (fun N v=>Zd4 N v.1 v.2.1) (fun v=>Zor v.1 v.2.1) (fun K1=> .leaf)))) .leaf)) ⟨lf,⟨lf,fun _=>rfl,fun N=>⟨(fun v=>by kernel_rfl),lf⟩⟩,lf⟩ (hk fun _=>by kernel_rfl)
abbrev Qq2:FnE:={f:=54,args:=[.int .i64,.int .i64,.int .i64],res:=[.bool],F:=fun xs=>Z3 xs.1 xs.2.1 xs.2.2.1}
theorem X4:okE Qq2:=
 ofE Ze Zb Tryz.func54 Tryz.call54 .leaf lf (hk fun _=>by kernel_rfl)
abbrev Qay:FnE:={f:=84,args:=[.int .i64],res:=[.bool],F:=fun xs=>Zit xs.1}
theorem Zt1:okE Qay:=
 ofE (Za X4 Ze) Zb Tryz.func84 Tryz.call84 .leaf lf (hk fun _=>by kernel_rfl)
abbrev Qqw:FnE:={f:=48,args:=[Zqa],res:=[.bool],F:=fun xs=>Zrv xs.1}
theorem Qpe:okE Qqw:=
 ofE (Za Zt1 (Za X4 Ze)) Zb Tryz.func48 Tryz.call48 .leaf lf (hk fun _=>by kernel_rfl)
abbrev Qq1:FnE:={f:=36,args:=[.int .i64],res:=[.bool],F:=fun xs=>Xs xs.1}
theorem Wb:okE Qq1:=
 ofE (Za X4 Ze) Zb Tryz.func36 Tryz.call36 .leaf lf (hk fun _=>by kernel_rfl)
abbrev Qjx:FnE:={f:=244,args:=[.int .i64],res:=[.bool],F:=fun xs=>Zvy xs.1}
theorem Qgs:okE Qjx:=
 ofE (Za X4 Ze) Zb Tryz.func244 Tryz.call244 .leaf lf (hk fun _=>by kernel_rfl)
abbrev Zjq:FnE:={f:=284,args:=[.slice 3 (.int .i64),.fnc 244],res:=[.int .i64],F:=fun xs=>Ky xs.1}
theorem Ziv:okE Zjq:=
 ofE (Za Qgs Ze) Zb Tryz.func284 Tryz.call284 (.seq .leaf (.seq (.seq .leaf (.block (.loop Zh5 (fun N v=>Q8 N v.1 v.2.1 v.2.2.1 v.2.2.2.1) (fun v=>Xh v.1 v.2.1 v.2.2.1 v.2.2.2.1) (fun K1=> .leaf)))) .leaf)) ⟨lf,⟨lf,fun _=>rfl,fun N=>⟨(fun v=>by kernel_rfl),lf⟩⟩,lf⟩ (hk fun _=>by kernel_rfl)
abbrev Zh4:FnE:={f:=243,args:=[.slice 3 (.int .i64),.fnc 244],res:=[.bool],F:=fun xs=>Kd xs.1}
theorem Zgq:okE Zh4:=
 ofE (Za Ziv Ze) Zb Tryz.func243 Tryz.call243 .leaf lf (hk fun _=>by kernel_rfl)
abbrev Qq0:FnE:={f:=183,args:=[Zce],res:=[.bool],F:=fun xs=>Zu0 xs.1}
theorem Qph:okE Qq0:=
 ofE (Za Zt1 (Za Zgq (Za Wb (Za X4 Ze)))) Zb Tryz.func183 Tryz.call183 .leaf lf (hk fun _=>by kernel_rfl)
abbrev Qng:FnE:={f:=193,args:=[Zr],res:=[.bool],F:=fun xs=>Zs3 xs.1}
theorem Zzc:okE Qng:=
 ofE Ze Zb Tryz.func193 Tryz.call193 .leaf lf (hk fun _=>by kernel_rfl)
abbrev Qjw:FnE:={f:=184,args:=[.slice 124 (Zr)],res:=[.bool],F:=fun xs=>V6 xs.1}
theorem Zlu:okE Qjw:=
 ofE (Za Zzc Ze) Zb Tryz.func184 Tryz.call184 (.seq .leaf (.seq (.seq .leaf (.block (.loop Z7r (fun N v=>Zgl N v.1 v.2.1 v.2.2.1 v.2.2.2.1) (fun v=>Zjs v.1 v.2.1 v.2.2.1 v.2.2.2.1) (fun K1=> .leaf)))) .leaf)) ⟨lf,⟨lf,fun _=>rfl,fun N=>⟨(fun v=>by kernel_rfl),lf⟩⟩,lf⟩ (hk fun _=>by kernel_rfl)
abbrev Z3z:FnE:={f:=245,args:=[.slice 124 (Zr)],res:=[.int .i64],F:=fun xs=>Wa xs.1}
theorem Z1k:okE Z3z:=
 ofE (Za Zlu Ze) Zb Tryz.func245 Tryz.call245 (.seq .leaf (.seq .leaf (.seq .leaf (.seq (.seq .leaf (.block (.loop Zxx (fun N v=>Zbc N v.1 v.2.1 v.2.2.1 v.2.2.2.1) (fun v=>Zex v.1 v.2.1 v.2.2.1 v.2.2.2.1) (fun K1=> .leaf)))) .leaf)))) ⟨lf,lf,lf,⟨lf,fun _=>rfl,fun N=>⟨(fun v=>by kernel_rfl),lf⟩⟩,lf⟩ (hk fun _=>by kernel_rfl)
abbrev Qaw:FnE:={f:=194,args:=[.slice 124 (Zr)],res:=[.slice 124 (Zr)],F:=fun xs=>Zb7 xs.1}
theorem Ztz:okE Qaw:=
 ofE Ze Zb Tryz.func194 Tryz.call194 .leaf lf (hk fun _=>by kernel_rfl)
abbrev Qjp:FnE:={f:=129,args:=[.slice 124 (Zr),Zr],res:=[.slice 124 (Zr)],F:=fun xs=>Zjk xs.1 xs.2.1}
theorem Zwj:okE Qjp:=
 ofE (Za Zlu (Za Zzc (Za Ztz Ze))) Zb Tryz.func129 Tryz.call129 (.seq .leaf (.seq .leaf (.seq .leaf (.seq (.seq .leaf (.block (.loop Z7n (fun N v=>Yf N v.1 v.2.1 v.2.2.1 v.2.2.2.1 v.2.2.2.2.1 v.2.2.2.2.2.1) (fun v=>Zep v.1 v.2.1 v.2.2.1 v.2.2.2.1 v.2.2.2.2.1 v.2.2.2.2.2.1) (fun K1=>(.seq .leaf (.seq .leaf (.seq (.block (.seq .leaf (.block (.seq .leaf (.cond .leaf (.seq .leaf (.cond (.join Z7m (fun v=>Zgj K1 v.1 v.2.1 v.2.2.1 v.2.2.2.1 v.2.2.2.2.1 v.2.2.2.2.2.1 v.2.2.2.2.2.2.1) .leaf .leaf) .leaf))))))) .leaf))))))) .leaf)))) ⟨lf,lf,lf,⟨lf,fun _=>rfl,fun N=>⟨(fun v=>by kernel_rfl),lf,lf,⟨lf,lf,lf,lf,⟨lf,(fun v=>by kernel_rfl),lf⟩,lf⟩,lf⟩⟩,lf⟩ (hk fun _=>by kernel_rfl)
abbrev Qax:FnE:={f:=187,args:=[.slice 124 (Zr),.int .i64],res:=[.bool],F:=fun xs=>Zb8 xs.1 xs.2.1}
theorem Zt0:okE Qax:=
 ofE Ze Zb Tryz.func187 Tryz.call187 .leaf lf (hk fun _=>by kernel_rfl)
abbrev Qj2:FnE:={f:=185,args:=[.slice 124 (Zr),.slice 124 (Zr),.slice 124 (Zr),.int .i64],res:=[.bool],F:=fun xs=>Zq2 xs.1 xs.2.1 xs.2.2.1 xs.2.2.2.1}
theorem Qgv:okE Qj2:=
 ofE (Za Z1k (Za Ztz (Za Zwj (Za Zt0 Ze)))) Zb Tryz.func185 Tryz.call185 (.seq .leaf (.seq .leaf (.seq .leaf (.seq (.seq .leaf (.block (.loop Z7t (fun N v=>Zgo N v.1 v.2.1 v.2.2.1 v.2.2.2.1 v.2.2.2.2.1) (fun v=>Zer v.1 v.2.1 v.2.2.1 v.2.2.2.1 v.2.2.2.2.1) (fun K1=> .leaf)))) .leaf)))) ⟨lf,lf,lf,⟨lf,fun _=>rfl,fun N=>⟨(fun v=>by kernel_rfl),lf⟩⟩,lf⟩ (hk fun _=>by kernel_rfl)
abbrev Qjq:FnE:={f:=186,args:=[.slice 124 (Zr),.int .i64],res:=[.int .i64],F:=fun xs=>Zqv xs.1 xs.2.1}
theorem Qgo:okE Qjq:=
 ofE (Za Zlu Ze) Zb Tryz.func186 Tryz.call186 (.seq .leaf (.seq .leaf (.seq (.seq .leaf (.block (.loop Z7o (fun N v=>Zde N v.1 v.2.1 v.2.2.1 v.2.2.2.1) (fun v=>Zjr v.1 v.2.1 v.2.2.1 v.2.2.2.1) (fun K1=> .leaf)))) .leaf))) ⟨lf,lf,⟨lf,fun _=>rfl,fun N=>⟨(fun v=>by kernel_rfl),lf⟩⟩,lf⟩ (hk fun _=>by kernel_rfl)
abbrev Qe6:FnE:={f:=188,args:=[Z8],res:=[.int .i64],F:=fun xs=>Zo5 xs.1}
theorem Qck:okE Qe6:=
 ofE Ze Zb Tryz.func188 Tryz.call188 .leaf lf (hk fun _=>by kernel_rfl)
abbrev Qjy:FnE:={f:=122,args:=[Z8],res:=[.bool],F:=fun xs=>Zq0 xs.1}
theorem Qgt:okE Qjy:=
 ofE (Za Qph (Za Zlu (Za X4 (Za Wb (Za Qgv (Za Qgo (Za Zt0 (Za Qck Ze)))))))) Zb Tryz.func122 Tryz.call122 (.seq .leaf (.seq .leaf (.seq .leaf (.seq .leaf (.join Z7s (fun v=>Zgm v.1 v.2.1) .leaf .leaf))))) ⟨lf,lf,lf,lf,lf,(fun v=>by kernel_rfl),lf⟩ (hk fun _=>by kernel_rfl)
abbrev Qjt:FnE:={f:=50,args:=[Yb],res:=[.bool],F:=fun xs=>Zqx xs.1}
theorem Zwk:okE Qjt:=
 ofE (Za Wb (Za X4 Ze)) Zb Tryz.func50 Tryz.call50 .leaf lf (hk fun _=>by kernel_rfl)
abbrev Qe2:FnE:={f:=246,args:=[Qs],res:=[.int .i64],F:=fun xs=>Zo2 xs.1}
theorem Zu6:okE Qe2:=
 ofE Ze Zb Tryz.func246 Tryz.call246 .leaf lf (hk fun _=>by kernel_rfl)
abbrev Qjr:FnE:={f:=189,args:=[Ye],res:=[.bool],F:=fun xs=>Zjl xs.1}
theorem Zqh:okE Qjr:=
 ofE (Za Wb (Za Zu6 Ze)) Zb Tryz.func189 Tryz.call189 (.seq .leaf (.seq .leaf (.seq .leaf (.seq (.seq .leaf (.block (.loop Z7p (fun N v=>Zgk N v.1 v.2.1 v.2.2.1 v.2.2.2.1) (fun v=>Zeq v.1 v.2.1 v.2.2.1 v.2.2.2.1) (fun K1=> .leaf)))) .leaf)))) ⟨lf,lf,lf,⟨lf,fun _=>rfl,fun N=>⟨(fun v=>by kernel_rfl),lf⟩⟩,lf⟩ (hk fun _=>by kernel_rfl)
abbrev Qto:FnE:={f:=190,args:=[Ye],res:=[.int .i64],F:=fun xs=>Zxy xs.1}
theorem Qrw:okE Qto:=
 ofE (Za Zqh (Za Zu6 Ze)) Zb Tryz.func190 Tryz.call190 .leaf lf (hk fun _=>by kernel_rfl)
abbrev Qau:FnE:={f:=247,args:=[Ye],res:=[.int .i64],F:=fun xs=>Zne xs.1}
theorem Z8a:okE Qau:=
 ofE (Za Zqh Ze) Zb Tryz.func247 Tryz.call247 .leaf lf (hk fun _=>by kernel_rfl)
abbrev Qj4:FnE:={f:=191,args:=[Ye],res:=[.int .i64],F:=fun xs=>Zvz xs.1}
theorem Qgx:okE Qj4:=
 ofE (Za Z8a Ze) Zb Tryz.func191 Tryz.call191 .leaf lf (hk fun _=>by kernel_rfl)
abbrev Qap:FnE:={f:=123,args:=[Q5],res:=[.bool],F:=fun xs=>Zis xs.1}
theorem Zty:okE Qap:=
 ofE (Za Zqh (Za Qrw (Za Wb (Za X4 (Za Qgx Ze))))) Zb Tryz.func123 Tryz.call123 (.seq .leaf (.seq .leaf (.seq .leaf (.seq (.seq .leaf (.block (.seq .leaf (.cond .leaf (.seq .leaf (.cond .leaf (.seq .leaf (.cond .leaf (.seq .leaf (.cond .leaf (.join Z1a (fun v=>Vf v.1 v.2.1) .leaf .leaf))))))))))) .leaf)))) ⟨lf,lf,lf,⟨lf,lf,lf,lf,lf,lf,lf,lf,lf,lf,(fun v=>by kernel_rfl),lf⟩,lf⟩ (hk fun _=>by kernel_rfl)
abbrev Qj0:FnE:={f:=51,args:=[Wi],res:=[.bool],F:=fun xs=>Zq1 xs.1}
theorem Zwm:okE Qj0:=
 ofE (Za X4 Ze) Zb Tryz.func51 Tryz.call51 .leaf lf (hk fun _=>by kernel_rfl)
abbrev Qan:FnE:={f:=124,args:=[Ja],res:=[.bool],F:=fun xs=>Zr7 xs.1}
theorem Z75:okE Qan:=
 ofE (Za X4 Ze) Zb Tryz.func124 Tryz.call124 .leaf lf (hk fun _=>by kernel_rfl)
abbrev Qjz:FnE:={f:=85,args:=[Z2],res:=[.bool],F:=fun xs=>Zmv xs.1}
theorem Zwl:okE Qjz:=
 ofE (Za Wb (Za Qgt (Za Zwk (Za Zty (Za Zwm (Za Z75 Ze)))))) Zb Tryz.func85 Tryz.call85 .leaf lf (hk fun _=>by kernel_rfl)
abbrev Qaj:FnE:={f:=49,args:=[.slice 99 (Z2)],res:=[.bool],F:=fun xs=>Zb6 xs.1}
theorem Zn7:okE Qaj:=
 ofE (Za Zwl Ze) Zb Tryz.func49 Tryz.call49 (.seq .leaf (.seq (.seq .leaf (.block (.loop Z08 (fun N v=>Ve N v.1 v.2.1 v.2.2.1 v.2.2.2.1) (fun v=>Zbs v.1 v.2.1 v.2.2.1 v.2.2.2.1) (fun K1=> .leaf)))) .leaf)) ⟨lf,⟨lf,fun _=>rfl,fun N=>⟨(fun v=>by kernel_rfl),lf⟩⟩,lf⟩ (hk fun _=>by kernel_rfl)
abbrev Qnd:FnE:={f:=52,args:=[Zkf],res:=[.bool],F:=fun xs=>Zs1 xs.1}
theorem Qlc:okE Qnd:=
 ofE (Za X4 Ze) Zb Tryz.func52 Tryz.call52 .leaf lf (hk fun _=>by kernel_rfl)
abbrev Qnc:FnE:={f:=53,args:=[Yb],res:=[.bool],F:=fun xs=>Zs0 xs.1}
theorem Qlb:okE Qnc:=
 ofE (Za X4 Ze) Zb Tryz.func53 Tryz.call53 .leaf lf (hk fun _=>by kernel_rfl)
abbrev Qj1:FnE:={f:=126,args:=[.int .i64],res:=[.str],F:=fun xs=>Zmw xs.1}
theorem Qgu:okE Qj1:=
 ofE Ze Zb Tryz.func126 Tryz.call126 .leaf lf (hk fun _=>by kernel_rfl)
abbrev Z0x:FnE:={f:=192,args:=[Zt],res:=[.bool],F:=fun xs=>Zn4 xs.1}
theorem Zzs:okE Z0x:=
 ofE Ze Zb Tryz.func192 Tryz.call192 (.seq .leaf (.seq (.seq .leaf (.block (.join Zwc (fun v=>Jy v.1) .leaf .leaf))) .leaf)) ⟨lf,⟨lf,lf,(fun v=>by kernel_rfl),lf⟩,lf⟩ (hk fun _=>by kernel_rfl)
abbrev Qvo:FnE:={f:=127,args:=[Zt],res:=[Zt],F:=fun xs=>Qgb xs.1}
theorem Quk:okE Qvo:=
 ofE (Za Zzs Ze) Zb Tryz.func127 Tryz.call127 (.seq .leaf (.seq .leaf (.join Qoy (fun v=>Zx1 v.1 v.2.1 v.2.2.1) .leaf (.seq (.seq .leaf (.block (.seq .leaf (.cond .leaf (.seq .leaf (.cond .leaf (.seq .leaf (.cond .leaf (.join Qoz (fun v=>Zx2 v.1 v.2.1 v.2.2.1 v.2.2.2.1) .leaf .leaf))))))))) .leaf)))) ⟨lf,lf,lf,(fun v=>by kernel_rfl),⟨lf,lf,lf,lf,lf,lf,lf,lf,(fun v=>by kernel_rfl),lf⟩,lf⟩ (hk fun _=>by kernel_rfl)
abbrev Qne:FnE:={f:=88,args:=[Zt],res:=[.bool],F:=fun xs=>Zs2 xs.1}
theorem Qld:okE Qne:=
 ofE (Za Qgu (Za Quk (Za Wb Ze))) Zb Tryz.func88 Tryz.call88 .leaf lf (hk fun _=>by kernel_rfl)
abbrev Z30:FnE:={f:=87,args:=[Zt],res:=[.bool],F:=fun xs=>Zo4 xs.1}
theorem Z1l:okE Z30:=
 ofE (Za Qld Ze) Zb Tryz.func87 Tryz.call87 .leaf lf (hk fun _=>by kernel_rfl)
abbrev Zaq:FnE:={f:=125,args:=[.slice 115 (Zt),.fnc 87],res:=[.int .i64],F:=fun xs=>Xi xs.1}
theorem Zab:okE Zaq:=
 ofE (Za Z1l Ze) Zb Tryz.func125 Tryz.call125 (.seq .leaf (.seq (.seq .leaf (.block (.loop Ws (fun N v=>Qb N v.1 v.2.1 v.2.2.1 v.2.2.2.1) (fun v=>Q0 v.1 v.2.1 v.2.2.1 v.2.2.2.1) (fun K1=> .leaf)))) .leaf)) ⟨lf,⟨lf,fun _=>rfl,fun N=>⟨(fun v=>by kernel_rfl),lf⟩⟩,lf⟩ (hk fun _=>by kernel_rfl)
abbrev Wq:FnE:={f:=86,args:=[.slice 115 (Zt),.fnc 87],res:=[.bool],F:=fun xs=>Qk xs.1}
theorem Wc:okE Wq:=
 ofE (Za Zab Ze) Zb Tryz.func86 Tryz.call86 .leaf lf (hk fun _=>by kernel_rfl)
abbrev Qav:FnE:={f:=55,args:=[.slice 83 (J6),.int .i64],res:=[.bool],F:=fun xs=>Zsb xs.1 xs.2.1}
theorem Z8b:okE Qav:=
 ofE (Za X4 (Za Wc Ze)) Zb Tryz.func55 Tryz.call55 (.seq .leaf (.seq (.seq .leaf (.block (.loop Z1b (fun N v=>Zdn N v.1 v.2.1 v.2.2.1 v.2.2.2.1 v.2.2.2.2.1) (fun v=>Zgn v.1 v.2.1 v.2.2.1 v.2.2.2.1 v.2.2.2.2.1) (fun K1=> .leaf)))) .leaf)) ⟨lf,⟨lf,fun _=>rfl,fun N=>⟨(fun v=>by kernel_rfl),lf⟩⟩,lf⟩ (hk fun _=>by kernel_rfl)
abbrev Z6u:FnE:={f:=90,args:=[Z2],res:=[.int .i64],F:=fun xs=>Zwe xs.1}
theorem Z4k:okE Z6u:=
 ofE Ze Zb Tryz.func90 Tryz.call90 .leaf lf (hk fun _=>by kernel_rfl)
abbrev Zrs:FnE:={f:=89,args:=[.slice 99 (Z2),.fnc 90],res:=[.int .i64],F:=fun xs=>Zcw xs.1}
theorem Zqj:okE Zrs:=
 ofE (Za Zn7 (Za Z4k Ze)) Zb Tryz.func89 Tryz.call89 (.seq .leaf (.seq .leaf (.seq .leaf (.seq (.seq .leaf (.block (.loop Zo7 (fun N v=>Yz N v.1 v.2.1 v.2.2.1 v.2.2.2.1 v.2.2.2.2.1) (fun v=>Xt v.1 v.2.1 v.2.2.1 v.2.2.2.1 v.2.2.2.2.1) (fun K1=> .leaf)))) .leaf)))) ⟨lf,lf,lf,⟨lf,fun _=>rfl,fun N=>⟨(fun v=>by kernel_rfl),lf⟩⟩,lf⟩ (hk fun _=>by kernel_rfl)
abbrev Qe5:FnE:={f:=56,args:=[.slice 99 (Z2)],res:=[.int .i64],F:=fun xs=>Zko xs.1}
theorem Zu8:okE Qe5:=
 ofE (Za Zqj Ze) Zb Tryz.func56 Tryz.call56 .leaf lf (hk fun _=>by kernel_rfl)
abbrev Z6t:FnE:={f:=91,args:=[Z2],res:=[.int .i64],F:=fun xs=>Zwd xs.1}
theorem Z4j:okE Z6t:=
 ofE Ze Zb Tryz.func91 Tryz.call91 .leaf lf (hk fun _=>by kernel_rfl)
abbrev Zrr:FnE:={f:=89,args:=[.slice 99 (Z2),.fnc 91],res:=[.int .i64],F:=fun xs=>Zcv xs.1}
theorem Zqi:okE Zrr:=
 ofE (Za Zn7 (Za Z4j Ze)) Zb Tryz.func89 Tryz.call89 (.seq .leaf (.seq .leaf (.seq .leaf (.seq (.seq .leaf (.block (.loop Zo6 (fun N v=>Yy N v.1 v.2.1 v.2.2.1 v.2.2.2.1 v.2.2.2.2.1) (fun v=>J2 v.1 v.2.1 v.2.2.1 v.2.2.2.1 v.2.2.2.2.1) (fun K1=> .leaf)))) .leaf)))) ⟨lf,lf,lf,⟨lf,fun _=>rfl,fun N=>⟨(fun v=>by kernel_rfl),lf⟩⟩,lf⟩ (hk fun _=>by kernel_rfl)
abbrev Qe4:FnE:={f:=57,args:=[.slice 99 (Z2)],res:=[.int .i64],F:=fun xs=>Zkn xs.1}
theorem Zu7:okE Qe4:=
 ofE (Za Zqi Ze) Zb Tryz.func57 Tryz.call57 .leaf lf (hk fun _=>by kernel_rfl)
abbrev Qqx:FnE:={f:=32,args:=[Zl],res:=[.bool],F:=fun xs=>Zbd xs.1}
theorem Zdp:okE Qqx:=
 ofE (Za Qpe (Za Zn7 (Za Zwk (Za Zwm (Za Qlc (Za Qlb (Za X4 (Za Z8b (Za Zu8 (Za Zu7 Ze)))))))))) Zb Tryz.func32 Tryz.call32 .leaf lf (hk fun _=>by kernel_rfl)
abbrev Z3w:FnE:={f:=59,args:=[Qs],res:=[.bool],F:=fun xs=>Zj4 xs.1}
theorem Z1h:okE Z3w:=
 ofE (Za X4 Ze) Zb Tryz.func59 Tryz.call59 .leaf lf (hk fun _=>by kernel_rfl)
abbrev W2:FnE:={f:=92,args:=[.slice 78 (Qs),.fnc 59],res:=[.int .i64],F:=fun xs=>Xg xs.1}
theorem Wr:okE W2:=
 ofE (Za Z1h Ze) Zb Tryz.func92 Tryz.call92 (.seq .leaf (.seq (.seq .leaf (.block (.loop V5 (fun N v=>Z9 N v.1 v.2.1 v.2.2.1 v.2.2.2.1) (fun v=>Qw v.1 v.2.1 v.2.2.1 v.2.2.2.1) (fun K1=> .leaf)))) .leaf)) ⟨lf,⟨lf,fun _=>rfl,fun N=>⟨(fun v=>by kernel_rfl),lf⟩⟩,lf⟩ (hk fun _=>by kernel_rfl)
abbrev V4:FnE:={f:=58,args:=[.slice 78 (Qs),.fnc 59],res:=[.bool],F:=fun xs=>Q6 xs.1}
theorem V2:okE V4:=
 ofE (Za Wr Ze) Zb Tryz.func58 Tryz.call58 .leaf lf (hk fun _=>by kernel_rfl)
abbrev Qai:FnE:={f:=33,args:=[.slice 78 (Qs)],res:=[.bool],F:=fun xs=>Zip xs.1}
theorem Z72:okE Qai:=
 ofE (Za V2 Ze) Zb Tryz.func33 Tryz.call33 .leaf lf (hk fun _=>by kernel_rfl)
abbrev Qjv:FnE:={f:=35,args:=[W8],res:=[.bool],F:=fun xs=>Zqz xs.1}
theorem Qgr:okE Qjv:=
 ofE (Za Wb Ze) Zb Tryz.func35 Tryz.call35 .leaf lf (hk fun _=>by kernel_rfl)
abbrev Zb5:FnE:={f:=60,args:=[.slice 49 (W8),.fnc 35],res:=[.int .i64],F:=fun xs=>Xq xs.1}
theorem Zbr:okE Zb5:=
 ofE (Za Qgr Ze) Zb Tryz.func60 Tryz.call60 (.seq .leaf (.seq (.seq .leaf (.block (.loop Za1 (fun N v=>Qg N v.1 v.2.1 v.2.2.1 v.2.2.2.1) (fun v=>Xb v.1 v.2.1 v.2.2.1 v.2.2.2.1) (fun K1=> .leaf)))) .leaf)) ⟨lf,⟨lf,fun _=>rfl,fun N=>⟨(fun v=>by kernel_rfl),lf⟩⟩,lf⟩ (hk fun _=>by kernel_rfl)
abbrev Za0:FnE:={f:=34,args:=[.slice 49 (W8),.fnc 35],res:=[.bool],F:=fun xs=>Xj xs.1}
theorem Zas:okE Za0:=
 ofE (Za Zbr Ze) Zb Tryz.func34 Tryz.call34 .leaf lf (hk fun _=>by kernel_rfl)
abbrev Qqz:FnE:={f:=22,args:=[Qe],res:=[.bool],F:=fun xs=>Zuz xs.1}
theorem Qpg:okE Qqz:=
 ofE (Za Zdp (Za Z72 (Za Zas Ze))) Zb Tryz.func22 Tryz.call22 .leaf lf (hk fun _=>by kernel_rfl)
abbrev Qjs:FnE:={f:=23,args:=[Zl],res:=[.bool],F:=fun xs=>Zqw xs.1}
theorem Qgp:okE Qjs:=
 ofE Ze Zb Tryz.func23 Tryz.call23 .leaf lf (hk fun _=>by kernel_rfl)
abbrev Z3x:FnE:={f:=61,args:=[Zl],res:=[.bool],F:=fun xs=>Zj5 xs.1}
theorem Z1i:okE Z3x:=
 ofE (Za Zdp (Za Zu8 Ze)) Zb Tryz.func61 Tryz.call61 (.seq .leaf (.seq .leaf (.seq (.seq .leaf (.block (.loop Zxv (fun N v=>Zba N v.1 v.2.1 v.2.2.1 v.2.2.2.1) (fun v=>Zmd v.1 v.2.1 v.2.2.1 v.2.2.2.1) (fun K1=> .leaf)))) .leaf))) ⟨lf,lf,⟨lf,fun _=>rfl,fun N=>⟨(fun v=>by kernel_rfl),lf⟩⟩,lf⟩ (hk fun _=>by kernel_rfl)
abbrev Z3y:FnE:={f:=62,args:=[Zl],res:=[.bool],F:=fun xs=>Zj6 xs.1}
theorem Z1j:okE Z3y:=
 ofE (Za Zdp (Za Zu7 Ze)) Zb Tryz.func62 Tryz.call62 (.seq .leaf (.seq .leaf (.seq .leaf (.seq (.seq .leaf (.block (.loop Zxw (fun N v=>Zbb N v.1 v.2.1 v.2.2.1 v.2.2.2.1 v.2.2.2.2.1) (fun v=>Zme v.1 v.2.1 v.2.2.1 v.2.2.2.1 v.2.2.2.2.1) (fun K1=> .leaf)))) .leaf)))) ⟨lf,lf,lf,⟨lf,fun _=>rfl,fun N=>⟨(fun v=>by kernel_rfl),lf⟩⟩,lf⟩ (hk fun _=>by kernel_rfl)
abbrev Qj3:FnE:={f:=94,args:=[.slice 83 (J6),.int .i64],res:=[.slice 124 (Zr)],F:=fun xs=>Zq3 xs.1 xs.2.1}
theorem Qgw:okE Qj3:=
 ofE (Za Zwj Ze) Zb Tryz.func94 Tryz.call94 (.seq .leaf (.seq .leaf (.seq (.seq .leaf (.block (.loop Z7u (fun N v=>Zgp N v.1 v.2.1 v.2.2.1 v.2.2.2.1 v.2.2.2.2.1) (fun v=>Zqe v.1 v.2.1 v.2.2.1 v.2.2.2.1 v.2.2.2.2.1) (fun K1=>(.seq .leaf (.seq .leaf (.seq (.block (.seq .leaf (.seq .leaf (.block (.loop Z7v (fun N v=>Zar K1 N v.1 v.2.1 v.2.2.1 v.2.2.2.1 v.2.2.2.2.1 v.2.2.2.2.2.1 v.2.2.2.2.2.2.1 v.2.2.2.2.2.2.2.1) (fun v=>Zes v.1 v.2.1 v.2.2.1 v.2.2.2.1 v.2.2.2.2.1 v.2.2.2.2.2.1 v.2.2.2.2.2.2.1 v.2.2.2.2.2.2.2.1) (fun K2=> .leaf)))))) .leaf))))))) .leaf))) ⟨lf,lf,⟨lf,fun _=>rfl,fun N=>⟨(fun v=>by kernel_rfl),lf,lf,⟨lf,lf,fun _=>rfl,fun N=>⟨(fun v=>by kernel_rfl),lf⟩⟩,lf⟩⟩,lf⟩ (hk fun _=>by kernel_rfl)
abbrev Zmj:FnE:={f:=128,args:=[.slice 124 (Zr),.slice 124 (Zr)],res:=[.bool],F:=fun xs=>Vg xs.1 xs.2.1}
theorem Zlv:okE Zmj:=
 ofE Ze Zb Tryz.func128 Tryz.call128 (.seq .leaf (.seq .leaf (.seq (.seq .leaf (.block (.loop Zkh (fun N v=>Q3 N v.1 v.2.1 v.2.2.1 v.2.2.2.1) (fun v=>Y6 v.1 v.2.1 v.2.2.1 v.2.2.2.1) (fun K1=> .leaf)))) .leaf))) ⟨lf,lf,⟨lf,fun _=>rfl,fun N=>⟨(fun v=>by kernel_rfl),lf⟩⟩,lf⟩ (hk fun _=>by kernel_rfl)
abbrev Z6s:FnE:={f:=93,args:=[.slice 124 (Zr),.slice 124 (Zr)],res:=[.bool],F:=fun xs=>Zlr xs.1 xs.2.1}
theorem Z4i:okE Z6s:=
 ofE (Za Zlv Ze) Zb Tryz.func93 Tryz.call93 .leaf lf (hk fun _=>by kernel_rfl)
abbrev Z6r:FnE:={f:=63,args:=[Zl],res:=[.bool],F:=fun xs=>Zlq xs.1}
theorem Z4h:okE Z6r:=
 ofE (Za Zdp (Za Qgw (Za Z4i Ze))) Zb Tryz.func63 Tryz.call63 (.seq .leaf (.seq .leaf (.seq (.seq .leaf (.block (.loop Zzr (fun N v=>Zch N v.1 v.2.1 v.2.2.1 v.2.2.2.1) (fun v=>Zmu v.1 v.2.1 v.2.2.1 v.2.2.2.1) (fun K1=> .leaf)))) .leaf))) ⟨lf,lf,⟨lf,fun _=>rfl,fun N=>⟨(fun v=>by kernel_rfl),lf⟩⟩,lf⟩ (hk fun _=>by kernel_rfl)
abbrev Qat:FnE:={f:=130,args:=[.int .i64],res:=[.bool],F:=fun xs=>Znd xs.1}
theorem Zn8:okE Qat:=
 ofE (Za Wb Ze) Zb Tryz.func130 Tryz.call130 .leaf lf (hk fun _=>by kernel_rfl)
abbrev Qas:FnE:={f:=131,args:=[.int .i64],res:=[.bool],F:=fun xs=>Zza xs.1}
theorem Z79:okE Qas:=
 ofE (Za Zn8 Ze) Zb Tryz.func131 Tryz.call131 .leaf lf (hk fun _=>by kernel_rfl)
abbrev Qtp:FnE:={f:=95,args:=[.bool,.int .i64],res:=[.bool],F:=fun xs=>Z7q xs.1 xs.2.1}
theorem Qrx:okE Qtp:=
 ofE (Za Zn8 (Za Z79 Ze)) Zb Tryz.func95 Tryz.call95 .leaf lf (hk fun _=>by kernel_rfl)
abbrev Qar:FnE:={f:=132,args:=[Z2],res:=[.bool],F:=fun xs=>Zsa xs.1}
theorem Z78:okE Qar:=
 ofE Ze Zb Tryz.func132 Tryz.call132 .leaf lf (hk fun _=>by kernel_rfl)
abbrev Qao:FnE:={f:=195,args:=[Q5],res:=[.bool],F:=fun xs=>Zr8 xs.1}
theorem Z76:okE Qao:=
 ofE (Za Zty Ze) Zb Tryz.func195 Tryz.call195 .leaf lf (hk fun _=>by kernel_rfl)
abbrev Qaq:FnE:={f:=133,args:=[Z2],res:=[.bool],F:=fun xs=>Zr9 xs.1}
theorem Z77:okE Qaq:=
 ofE (Za Z76 Ze) Zb Tryz.func133 Tryz.call133 .leaf lf (hk fun _=>by kernel_rfl)
abbrev Qqy:FnE:={f:=96,args:=[Z2],res:=[.bool],F:=fun xs=>Zuy xs.1}
theorem Qpf:okE Qqy:=
 ofE (Za Zwl (Za Z78 (Za Z77 Ze))) Zb Tryz.func96 Tryz.call96 .leaf lf (hk fun _=>by kernel_rfl)
abbrev Qnf:FnE:={f:=98,args:=[.int .i64],res:=[.bool],F:=fun xs=>Zx0 xs.1}
theorem Qle:okE Qnf:=
 ofE (Za Zn8 Ze) Zb Tryz.func98 Tryz.call98 .leaf lf (hk fun _=>by kernel_rfl)
abbrev Qxp:FnE:={f:=97,args:=[.bool],res:=[.int .i64],F:=fun xs=>Zwf xs.1}
theorem Qwk:okE Qxp:=
 ofE Ze Zb Tryz.func97 Tryz.call97 .leaf lf (hk fun _=>by kernel_rfl)
abbrev Z6q:FnE:={f:=64,args:=[Zl],res:=[.bool],F:=fun xs=>Zlp xs.1}
theorem Z4g:okE Z6q:=
 ofE (Za Zdp (Za Qrx (Za Qpf (Za Qle (Za Qwk Ze))))) Zb Tryz.func64 Tryz.call64 (.seq .leaf (.seq .leaf (.seq .leaf (.seq (.seq .leaf (.block (.loop Zzq (fun N v=>Wk N v.1 v.2.1 v.2.2.1 v.2.2.2.1 v.2.2.2.2.1 v.2.2.2.2.2.1 v.2.2.2.2.2.2.1) (fun v=>Zmt v.1 v.2.1 v.2.2.1 v.2.2.2.1 v.2.2.2.2.1 v.2.2.2.2.2.1 v.2.2.2.2.2.2.1) (fun K1=> .leaf)))) .leaf)))) ⟨lf,lf,lf,⟨lf,fun _=>rfl,fun N=>⟨(fun v=>by kernel_rfl),lf⟩⟩,lf⟩ (hk fun _=>by kernel_rfl)
abbrev Qnb:FnE:={f:=37,args:=[Zl],res:=[.str],F:=fun xs=>Zxz xs.1}
theorem Qla:okE Qnb:=
 ofE (Za Zdp (Za Z1i (Za Z1j (Za Z4h (Za Z4g Ze))))) Zb Tryz.func37 Tryz.call37 .leaf lf (hk fun _=>by kernel_rfl)
abbrev Qe1:FnE:={f:=24,args:=[Zl],res:=[.bool],F:=fun xs=>Zkm xs.1}
theorem Qci:okE Qe1:=
 ofE (Za Zdp (Za Qla Ze)) Zb Tryz.func24 Tryz.call24 .leaf lf (hk fun _=>by kernel_rfl)
abbrev Qju:FnE:={f:=12,args:=[Qe],res:=[.bool],F:=fun xs=>Zqy xs.1}
theorem Qgq:okE Qju:=
 ofE (Za Qpg (Za Qgp (Za Qci Ze))) Zb Tryz.func12 Tryz.call12 .leaf lf (hk fun _=>by kernel_rfl)
abbrev Z31:FnE:={f:=41,args:=[Zl],res:=[.bool],F:=fun xs=>Zbw xs.1}
theorem Z1m:okE Z31:=
 ofE (Za Xo (Za Zvi Ze)) Zb Tryz.func41 Tryz.call41 (.seq .leaf (.seq (.seq .leaf (.block (.loop Zyo (fun N v=>Vw N v.1 v.2.1) (fun v=>W3 v.1 v.2.1) (fun K1=> .leaf)))) .leaf)) ⟨lf,⟨lf,fun _=>rfl,fun N=>⟨(fun v=>by kernel_rfl),lf⟩⟩,lf⟩ (hk fun _=>by kernel_rfl)
abbrev Z32:FnE:={f:=42,args:=[Zl],res:=[.bool],F:=fun xs=>Zj8 xs.1}
theorem Z1n:okE Z32:=
 ofE (Za Xo (Za Zvh Ze)) Zb Tryz.func42 Tryz.call42 (.seq .leaf (.seq .leaf (.seq (.seq .leaf (.block (.loop Zyp (fun N v=>Zbg N v.1 v.2.1 v.2.2.1) (fun v=>Zey v.1 v.2.1 v.2.2.1) (fun K1=> .leaf)))) .leaf))) ⟨lf,lf,⟨lf,fun _=>rfl,fun N=>⟨(fun v=>by kernel_rfl),lf⟩⟩,lf⟩ (hk fun _=>by kernel_rfl)
abbrev Qbz:FnE:={f:=76,args:=[Zl,.int .i64],res:=[.slice 124 (Zr)],F:=fun xs=>Zn0 xs.1 xs.2.1}
theorem Z80:okE Qbz:=
 ofE (Za Zat Ze) Zb Tryz.func76 Tryz.call76 (.seq .leaf (.seq .leaf (.seq (.seq .leaf (.block (.loop Z3b (fun N v=>Zen N v.1 v.2.1 v.2.2.1 v.2.2.2.1) (fun v=>Zhv v.1 v.2.1 v.2.2.1 v.2.2.2.1) (fun K1=>(.seq .leaf (.seq (.block (.seq .leaf (.block (.loop Z3c (fun N v=>Vo K1 N v.1 v.2.1 v.2.2.1 v.2.2.2.1 v.2.2.2.2.1) (fun v=>Zb3 v.1 v.2.1 v.2.2.1 v.2.2.2.1 v.2.2.2.2.1) (fun K2=>(.seq .leaf (.join Z3a (fun v=>Zio K1 K2 v.1 v.2.1 v.2.2.1 v.2.2.2.1 v.2.2.2.2.1) .leaf .leaf))))))) .leaf)))))) .leaf))) ⟨lf,lf,⟨lf,fun _=>rfl,fun N=>⟨(fun v=>by kernel_rfl),lf,⟨lf,fun _=>rfl,fun N=>⟨(fun v=>by kernel_rfl),lf,lf,(fun v=>by kernel_rfl),lf⟩⟩,lf⟩⟩,lf⟩ (hk fun _=>by kernel_rfl)
abbrev Z63:FnE:={f:=75,args:=[.slice 124 (Zr),.slice 124 (Zr)],res:=[.bool],F:=fun xs=>Zl0 xs.1 xs.2.1}
theorem Z4t:okE Z63:=
 ofE Ze Zb Tryz.func75 Tryz.call75 (.seq .leaf (.seq .leaf (.seq (.seq .leaf (.block (.loop Z0c (fun N v=>Zcm N v.1 v.2.1 v.2.2.1) (fun v=>Za4 v.1 v.2.1 v.2.2.1) (fun K1=> .leaf)))) .leaf))) ⟨lf,lf,⟨lf,fun _=>rfl,fun N=>⟨(fun v=>by kernel_rfl),lf⟩⟩,lf⟩ (hk fun _=>by kernel_rfl)
abbrev Z6w:FnE:={f:=43,args:=[Zl],res:=[.bool],F:=fun xs=>Zlx xs.1}
theorem Z4n:okE Z6w:=
 ofE (Za Xo (Za Z80 (Za Z4t Ze))) Zb Tryz.func43 Tryz.call43 (.seq .leaf (.seq (.seq .leaf (.block (.loop Zz0 (fun N v=>Zci N v.1 v.2.1) (fun v=>Zf2 v.1 v.2.1) (fun K1=> .leaf)))) .leaf)) ⟨lf,⟨lf,fun _=>rfl,fun N=>⟨(fun v=>by kernel_rfl),lf⟩⟩,lf⟩ (hk fun _=>by kernel_rfl)
abbrev Z6v:FnE:={f:=44,args:=[Zl],res:=[.bool],F:=fun xs=>Zlw xs.1}
theorem Z4m:okE Z6v:=
 ofE (Za Xo (Za Zmy (Za Z1r (Za Ziw Ze)))) Zb Tryz.func44 Tryz.call44 (.seq .leaf (.seq .leaf (.seq .leaf (.seq .leaf (.seq (.seq .leaf (.block (.loop Zzz (fun N v=>Ki N v.1 v.2.1 v.2.2.1 v.2.2.2.1 v.2.2.2.2.1) (fun v=>Zf1 v.1 v.2.1 v.2.2.1 v.2.2.2.1 v.2.2.2.2.1) (fun K1=>(.seq .leaf (.join Zzy (fun v=>Yq K1 v.1 v.2.1 v.2.2.1 v.2.2.2.1 v.2.2.2.2.1) .leaf .leaf)))))) .leaf))))) ⟨lf,lf,lf,lf,⟨lf,fun _=>rfl,fun N=>⟨(fun v=>by kernel_rfl),lf,lf,(fun v=>by kernel_rfl),lf⟩⟩,lf⟩ (hk fun _=>by kernel_rfl)
abbrev Qe8:FnE:={f:=27,args:=[Zl],res:=[.bool],F:=fun xs=>Zkx xs.1}
theorem Qcl:okE Qe8:=
 ofE (Za Z1m (Za Z1n (Za Z4n (Za Z4m Ze)))) Zb Tryz.func27 Tryz.call27 .leaf lf (hk fun _=>by kernel_rfl)
abbrev Qke:FnE:={f:=13,args:=[Qe],res:=[.bool],F:=fun xs=>Zra xs.1}
theorem Qg2:okE Qke:=
 ofE (Za Zks (Za Zgs (Za Qcl Ze))) Zb Tryz.func13 Tryz.call13 .leaf lf (hk fun _=>by kernel_rfl)
abbrev Qe3:FnE:={f:=14,args:=[Qe],res:=[.int .i64],F:=fun xs=>Zts xs.1}
theorem Qcj:okE Qe3:=
 ofE Ze Zb Tryz.func14 Tryz.call14 (.seq .leaf (.seq .leaf (.seq (.seq .leaf (.block (.loop Z4f (fun N v=>Zbt N v.1 v.2.1 v.2.2.1 v.2.2.2.1) (fun v=>Zo3 v.1 v.2.1 v.2.2.1 v.2.2.2.1) (fun K1=> .leaf)))) .leaf))) ⟨lf,lf,⟨lf,fun _=>rfl,fun N=>⟨(fun v=>by kernel_rfl),lf⟩⟩,lf⟩ (hk fun _=>by kernel_rfl)
end
end Go.Proofs.YtpadmiphiogdhaaGreat

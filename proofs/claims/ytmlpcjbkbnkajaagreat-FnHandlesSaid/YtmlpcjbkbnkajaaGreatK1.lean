/- FnHandles: that the program code computes these plain functions, part 1. No condition. -/
import Derived.Test.YtmlpcjbkbnkajaaGreatM2
namespace Go.Proofs.YtmlpcjbkbnkajaaGreat
noncomputable section
open Go.Am
set_option maxRecDepth 100000
set_option linter.unusedVariables false
def tab:Tab:=Qzu [(3,.int .i64),(4,.bool),(5,.int .u8),(9,.str),(22,.slice 5 (.int .u8)),(25,Zks),(26,.slice 72 (Zu)),(28,Qu),(30,Yf),(32,Zcs),(34,Qu),(35,.slice 130 (Y1)),(37,Zp),(39,Zx),(56,.slice 158 (Zhj)),(58,Qw),(60,Z7),(63,.slice 3 (.int .i64)),(65,Vj),(66,.slice 167 (Zw)),(68,Z4),(70,Yz),(72,Zu),(128,.slice 39 (Zx)),(130,Y1),(148,Zct),(151,.slice 9 (.str)),(158,Zhj),(163,.int .u64),(167,Zw),(268,.slice 288 (Xe)),(273,Zb5),(288,Xe)]
theorem Xbq:TOK Tryz.prog 3 (.int .i64):=⟨by kernel_rfl,by kernel_rfl⟩
theorem Xbr:TOK Tryz.prog 4 (.bool):=⟨by kernel_rfl,by kernel_rfl⟩
theorem Xbs:TOK Tryz.prog 5 (.int .u8):=⟨by kernel_rfl,by kernel_rfl⟩
theorem Xbt:TOK Tryz.prog 9 (.str):=⟨by kernel_rfl,by kernel_rfl⟩
theorem Q9x:TOK Tryz.prog 22 (.slice 5 (.int .u8)):=⟨by kernel_rfl,by kernel_rfl⟩
theorem Q9y:TOK Tryz.prog 25 (Zks):=⟨by kernel_rfl,by kernel_rfl⟩
theorem Q45:TOK Tryz.prog 26 (.slice 72 (Zu)):=⟨by kernel_rfl,by kernel_rfl⟩
theorem Q9z:TOK Tryz.prog 28 (Qu):=⟨by kernel_rfl,by kernel_rfl⟩
theorem Q90:TOK Tryz.prog 30 (Yf):=⟨by kernel_rfl,by kernel_rfl⟩
theorem Q91:TOK Tryz.prog 32 (Zcs):=⟨by kernel_rfl,by kernel_rfl⟩
theorem Q92:TOK Tryz.prog 34 (Qu):=⟨by kernel_rfl,by kernel_rfl⟩
theorem Q93:TOK Tryz.prog 35 (.slice 130 (Y1)):=⟨by kernel_rfl,by kernel_rfl⟩
theorem Q94:TOK Tryz.prog 37 (Zp):=⟨by kernel_rfl,by kernel_rfl⟩
theorem Q95:TOK Tryz.prog 39 (Zx):=⟨by kernel_rfl,by kernel_rfl⟩
theorem Q96:TOK Tryz.prog 56 (.slice 158 (Zhj)):=⟨by kernel_rfl,by kernel_rfl⟩
theorem Q97:TOK Tryz.prog 58 (Qw):=⟨by kernel_rfl,by kernel_rfl⟩
theorem Q98:TOK Tryz.prog 60 (Z7):=⟨by kernel_rfl,by kernel_rfl⟩
theorem Q99:TOK Tryz.prog 63 (.slice 3 (.int .i64)):=⟨by kernel_rfl,by kernel_rfl⟩
theorem Xaa:TOK Tryz.prog 65 (Vj):=⟨by kernel_rfl,by kernel_rfl⟩
theorem Xab:TOK Tryz.prog 66 (.slice 167 (Zw)):=⟨by kernel_rfl,by kernel_rfl⟩
theorem Xac:TOK Tryz.prog 68 (Z4):=⟨by kernel_rfl,by kernel_rfl⟩
theorem Xad:TOK Tryz.prog 70 (Yz):=⟨by kernel_rfl,by kernel_rfl⟩
theorem Q46:TOK Tryz.prog 72 (Zu):=⟨by kernel_rfl,by kernel_rfl⟩
theorem Q67:TOK Tryz.prog 128 (.slice 39 (Zx)):=⟨by kernel_rfl,by kernel_rfl⟩
theorem Q68:TOK Tryz.prog 130 (Y1):=⟨by kernel_rfl,by kernel_rfl⟩
theorem Q69:TOK Tryz.prog 148 (Zct):=⟨by kernel_rfl,by kernel_rfl⟩
theorem Q7a:TOK Tryz.prog 151 (.slice 9 (.str)):=⟨by kernel_rfl,by kernel_rfl⟩
theorem Q7b:TOK Tryz.prog 158 (Zhj):=⟨by kernel_rfl,by kernel_rfl⟩
theorem Q7c:TOK Tryz.prog 163 (.int .u64):=⟨by kernel_rfl,by kernel_rfl⟩
theorem Q7d:TOK Tryz.prog 167 (Zw):=⟨by kernel_rfl,by kernel_rfl⟩
theorem Q7e:TOK Tryz.prog 268 (.slice 288 (Xe)):=⟨by kernel_rfl,by kernel_rfl⟩
theorem Q7f:TOK Tryz.prog 273 (Zb5):=⟨by kernel_rfl,by kernel_rfl⟩
theorem Q7g:TOK Tryz.prog 288 (Xe):=⟨by kernel_rfl,by kernel_rfl⟩
theorem Q42:tab.ok Tryz.prog:=(Xw Xbq (Xw Xbr (Xw Xbs (Xw Xbt (Xw Q9x (Xw Q9y (Xw Q45 (Xw Q9z (Xw Q90 (Xw Q91 (Xw Q92 (Xw Q93 (Xw Q94 (Xw Q95 (Xw Q96 (Xw Q97 (Xw Q98 (Xw Q99 (Xw Xaa (Xw Xab (Xw Xac (Xw Xad (Xw Q46 (Xw Q67 (Xw Q68 (Xw Q69 (Xw Q7a (Xw Q7b (Xw Q7c (Xw Q7d (Xw Q7e (Xw Q7f (Xw Q7g Q66)))))))))))))))))))))))))))))))))
abbrev glob:Kr:=Kr.none
theorem Q8s:Ztp Tryz.prog 25 (Zks):=Ztp.of (by kernel_rfl) (by kernel_rfl) rfl (by decide)
theorem Q8t:Ztp Tryz.prog 28 (Qu):=Ztp.of (by kernel_rfl) (by kernel_rfl) rfl (by decide)
theorem Q8u:Ztp Tryz.prog 30 (Yf):=Ztp.of (by kernel_rfl) (by kernel_rfl) rfl (by decide)
theorem Q8v:Ztp Tryz.prog 32 (Zcs):=Ztp.of (by kernel_rfl) (by kernel_rfl) rfl (by decide)
theorem Q8w:Ztp Tryz.prog 34 (Qu):=Ztp.of (by kernel_rfl) (by kernel_rfl) rfl (by decide)
theorem Q8x:Ztp Tryz.prog 39 (Zx):=Ztp.of (by kernel_rfl) (by kernel_rfl) rfl (by decide)
theorem Q8y:Ztp Tryz.prog 70 (Yz):=Ztp.of (by kernel_rfl) (by kernel_rfl) rfl (by decide)
theorem Q5r:Ztp Tryz.prog 158 (Zhj):=Ztp.of (by kernel_rfl) (by kernel_rfl) rfl (by decide)
theorem Q5s:Ztp Tryz.prog 167 (Zw):=Ztp.of (by kernel_rfl) (by kernel_rfl) rfl (by decide)
def Xau:List Nat:=[25,28,30,32,34,39,70,158,167]
theorem Q3a:Q5c Tryz.prog tab Xau:=(Zo9 Q8s rfl (Zo9 Q8t rfl (Zo9 Q8u rfl (Zo9 Q8v rfl (Zo9 Q8w rfl (Zo9 Q8x rfl (Zo9 Q8y rfl (Zo9 Q5r rfl (Zo9 Q5s rfl Q5t)))))))))
@[reducible] def cfg(ln:List Nat)(Γ:Env)(ΓL:Zx7)(ΓB:Zu2)(ΓW:Zwn):Cfg:={τ:=tab,eq:=fun e=>Xau.any (Nat.beq e),Γ:=Γ,ΓL:=ΓL,ΓB:=ΓB,lent:=ln,ΓW:=ΓW}
theorem Q2o{gl:Kr}{ln:List Nat}{Γ:Env}{ΓL:Zx7}{ΓB:Zu2}{ΓW:Zwn}(hs:gl.soft=false)(h:Γ.ok Tryz.prog gl)(hL:ΓL.ok Tryz.prog gl)(hB:ΓB.ok Tryz.prog gl)(hW:ΓW.ok Tryz.prog): (cfg ln Γ ΓL ΓB ΓW).ok Tryz.prog gl:=⟨Q42,Q3a,h,by kernel_rfl,hL,hB,hs,(fun h=>by cases h),hW,Zk6.ok_none,(fun _ h=>by cases h)⟩
@[reducible] def Zi2(I:Z4y)(ln:List Nat)(Γ:Env)(ΓL:Zx7)(ΓB:Zu2)(ΓW:Zwn):Cfg:={cfg ln Γ ΓL ΓB ΓW with inl:=I}
theorem Za1{gl:Kr}{I:Z4y}{ln:List Nat}{Γ:Env}{ΓL:Zx7}{ΓB:Zu2}{ΓW:Zwn}(hI:I.ok Tryz.prog gl)(hs:gl.soft=false)(h:Γ.ok Tryz.prog gl)(hL:ΓL.ok Tryz.prog gl)(hB:ΓB.ok Tryz.prog gl)(hW:ΓW.ok Tryz.prog): (Zi2 I ln Γ ΓL ΓB ΓW).ok Tryz.prog gl:=⟨Q42,Q3a,h,by kernel_rfl,hL,hB,hs,(fun h=>by cases h),hW,Zk6.ok_none,hI⟩
theorem lf{ρ:Type}{C:Cfg}{n:Nat}{c:Code}{k:Exit->St->Option ρ}:Ze6 C n c (.leaf:An ρ) k:=Q6 c k
theorem hk{α β:Type}{f g:α->Option β}(h: ∀x,f x=g x)(x:α)(r:β)(e:g x=some r):f x=some r:=(h x).trans e
abbrev okE(e:FnE):=Zr3 Tryz.prog glob e
abbrev okB(e:FnB):=Z1k Tryz.prog glob e
theorem ofE{e:FnE}{Γ:Env}{ΓB:Zu2}(h1:Γ.ok Tryz.prog glob)(h2:ΓB.ok Tryz.prog glob){fn:Func}(hf:Tryz.prog.funcs[e.f]? =some fn)(hcall: ∀args w,(callFunc e.f args).run Tryz.prog w= .ok (.enter e.f args) w)(A:An (Jb e.res))(hA:Ze6 (cfg [] Γ [] ΓB []) fn.ntmps (Zax fn) A (fnK (cfg [] Γ [] ΓB []).τ e.res fn.results.toList))
  (hF: ∀xs r,e.F xs=some r->Vf (cfg [] Γ [] ΓB []) fn.ntmps (Zax fn) A (fnK (cfg [] Γ [] ΓB []).τ e.res fn.results.toList) (Ql3 e.args xs)=some r) (hb:fn.body=some (Zax fn):=by rfl) (hn:e.args.length<=fn.ntmps:=by decide):okE e:=Zr3.of (Q2o rfl h1 Jf h2 Jg) rfl hf hb hcall hn A hA hF
theorem ofB{e:FnB}{Γ:Env}{ΓB:Zu2}(L:List Nat)(h1:Γ.ok Tryz.prog glob)(h2:ΓB.ok Tryz.prog glob){fn:Func}(hf:Tryz.prog.funcs[e.f]? =some fn)(hcall: ∀args w,(callFunc e.f args).run Tryz.prog w= .ok (.enter e.f args) w)(A:An (Zz0 e.res×Zri e.args))(hA:Ze6 (cfg L Γ [] ΓB []) fn.ntmps (Zax fn) A (Qw9 (cfg L Γ [] ΓB []).τ e.args e.res fn.results.toList))
  (hF: ∀xs r,e.F xs=some r->Vf (cfg L Γ [] ΓB []) fn.ntmps (Zax fn) A (Qw9 (cfg L Γ [] ΓB []).τ e.args e.res fn.results.toList) (Ql4 e.args xs)=some r) (hb:fn.body=some (Zax fn):=by rfl) (hn:e.args.length<=fn.ntmps:=by decide) (hlent:L=Zhz e.args 0:=by rfl):okB e:=Z1k.of (Q2o rfl h1 Jf h2 Jg) rfl hlent hf hb hcall hn A hA hF
abbrev Qw5:FnE:={f:=4,args:=[.slice 5 (.int .u8)],res:=[.bool],F:=fun xs=>Qod xs.1}
theorem Qvy:okE Qw5:=
 ofE Zf Zc Tryz.func4 Tryz.call4 .leaf lf (hk fun _=>by kernel_rfl)
abbrev Qs5:FnB:={f:=64,args:=[.sh (.slice 5 (.int .u8))],res:= .newb 148 (Zct),F:=fun xs=>Zqt xs.1}
theorem Zwf:okB Qs5:=
 ofB [] Zf Zc Tryz.func64 Tryz.call64 (.seq .leaf (.seq .leaf (.seq (.seq .leaf (.block (.loop Qk9 (fun N v=>Znj N v.1 v.2.1 v.2.2.1) (fun v=>Zol v.1 v.2.1 v.2.2.1) (fun K1=> .leaf)))) .leaf))) ⟨lf,lf,⟨lf,fun _=>rfl,fun N=>⟨(fun v=>by kernel_rfl),lf⟩⟩,lf⟩ (hk fun _=>by kernel_rfl)
abbrev Qqc:FnB:={f:=144,args:=[.bx 148 (Zct) (.u false)],res:= .vals [.int .i64],F:=fun xs=>Zi5 xs.1}
theorem Qop:okB Qqc:=
 ofB [0] Zf Zc Tryz.func144 Tryz.call144 .leaf lf (hk fun _=>by kernel_rfl)
abbrev Qne:FnB:={f:=76,args:=[.bx 148 (Zct) (.u false),.sh (.int .i64)],res:= .vals [.int .i64],F:=fun xs=>Qm xs.1 xs.2.1}
theorem Kv:okB Qne:=
 ofB [0] Zf (Zt Qop Zc) Tryz.func76 Tryz.call76 .leaf lf (hk fun _=>by kernel_rfl)
abbrev Qqd:FnB:={f:=78,args:=[.bx 148 (Zct) (.u false),.sh (.int .i64)],res:= .vals [.bool],F:=fun xs=>Ws xs.1 xs.2.1}
theorem Zpq:okB Qqd:=
 ofB [0] Zf (Zt Kv Zc) Tryz.func78 Tryz.call78 .leaf lf (hk fun _=>by kernel_rfl)
abbrev Z7t:FnE:={f:=232,args:=[],res:=[Zks],F:=fun xs=>Zqs}
theorem Z5t:okE Z7t:=
 ofE Zf Zc Tryz.func232 Tryz.call232 .leaf lf (hk fun _=>by kernel_rfl)
abbrev Qm4:FnB:={f:=197,args:=[.bx 148 (Zct) (.u false)],res:= .vals [Zks],F:=fun xs=>Zml xs.1}
theorem Qky:okB Qm4:=
 ofB [0] (Za Z5t Zf) (Zt Kv Zc) Tryz.func197 Tryz.call197 .leaf lf (hk fun _=>by kernel_rfl)
abbrev Qnn:FnE:={f:=169,args:=[.int .i64],res:=[.bool],F:=fun xs=>Jl xs.1}
theorem Zsk:okE Qnn:=
 ofE Zf Zc Tryz.func169 Tryz.call169 .leaf lf (hk fun _=>by kernel_rfl)
abbrev Qu3:FnE:={f:=105,args:=[.int .i64,.int .i64,.int .i64],res:=[.bool],F:=fun xs=>Z5 xs.1 xs.2.1 xs.2.2.1}
theorem Yq:okE Qu3:=
 ofE Zf Zc Tryz.func105 Tryz.call105 .leaf lf (hk fun _=>by kernel_rfl)
abbrev Qp5:FnE:={f:=99,args:=[Zks],res:=[.bool],F:=fun xs=>Vm xs.1}
theorem Zuf:okE Qp5:=
 ofE (Za Zsk (Za Yq Zf)) Zc Tryz.func99 Tryz.call99 .leaf lf (hk fun _=>by kernel_rfl)
abbrev Qql:FnE:={f:=110,args:=[.int .i64],res:=[.bool],F:=fun xs=>Qf xs.1}
theorem Q1:okE Qql:=
 ofE (Za Yq Zf) Zc Tryz.func110 Tryz.call110 .leaf lf (hk fun _=>by kernel_rfl)
abbrev Qfq:FnE:={f:=215,args:=[.int .i64],res:=[Qu,.bool],F:=fun xs=>Zcc xs.1}
theorem Zvq:okE Qfq:=
 ofE (Za Q1 Zf) Zc Tryz.func215 Tryz.call215 .leaf lf (hk fun _=>by kernel_rfl)
abbrev Qft:FnE:={f:=216,args:=[.int .i64,.int .i64],res:=[Yf,.bool],F:=fun xs=>Zce xs.1 xs.2.1}
theorem Zvs:okE Qft:=
 ofE (Za Yq Zf) Zc Tryz.func216 Tryz.call216 .leaf lf (hk fun _=>by kernel_rfl)
abbrev Qj8:FnE:={f:=230,args:=[.int .i64],res:=[Zcs,.bool],F:=fun xs=>Zra xs.1}
theorem Qg8:okE Qj8:=
 ofE (Za Yq Zf) Zc Tryz.func230 Tryz.call230 .leaf lf (hk fun _=>by kernel_rfl)
abbrev Qj6:FnE:={f:=231,args:=[.int .i64],res:=[Qu,.bool],F:=fun xs=>Zq9 xs.1}
theorem Qg6:okE Qj6:=
 ofE (Za Yq Zf) Zc Tryz.func231 Tryz.call231 .leaf lf (hk fun _=>by kernel_rfl)
abbrev Qm1:FnE:={f:=196,args:=[.bool,Zks,Zks],res:=[Zp,.bool],F:=fun xs=>Zmi xs.1 xs.2.1 xs.2.2.1}
theorem Qkv:okE Qm1:=
 ofE (Za Zuf (Za Zvq (Za Zvs (Za Qg8 (Za Qg6 Zf))))) Zc Tryz.func196 Tryz.call196 .leaf lf (hk fun _=>by kernel_rfl)
abbrev Qqp:FnE:={f:=194,args:=[Vj],res:=[Vj],F:=fun xs=>Zoy xs.1}
theorem Zuo:okE Qqp:=
 ofE Zf Zc Tryz.func194 Tryz.call194 .leaf lf (hk fun _=>by kernel_rfl)
abbrev Qqi:FnE:={f:=195,args:=[.slice 167 (Zw)],res:=[.slice 167 (Zw)],F:=fun xs=>Zi7 xs.1}
theorem Zuj:okE Qqi:=
 ofE Zf Zc Tryz.func195 Tryz.call195 .leaf lf (hk fun _=>by kernel_rfl)
abbrev Qqq:FnE:={f:=142,args:=[Z4],res:=[Z4],F:=fun xs=>Zci xs.1}
theorem Zb9:okE Qqq:=
 ofE (Za Zuo (Za Zuj Zf)) Zc Tryz.func142 Tryz.call142 .leaf lf (hk fun _=>by kernel_rfl)
abbrev Qqn:FnE:={f:=173,args:=[Qw],res:=[Qw],F:=fun xs=>Zi8 xs.1}
theorem Zun:okE Qqn:=
 ofE Zf Zc Tryz.func173 Tryz.call173 .leaf lf (hk fun _=>by kernel_rfl)
abbrev Qqo:FnE:={f:=119,args:=[Z7],res:=[Z7],F:=fun xs=>Zgi xs.1}
theorem Zpr:okE Qqo:=
 ofE (Za Zun Zf) Zc Tryz.func119 Tryz.call119 .leaf lf (hk fun _=>by kernel_rfl)
abbrev Qm5:FnE:={f:=111,args:=[Zu],res:=[Zu],F:=fun xs=>Zag xs.1}
theorem Zsi:okE Qm5:=
 ofE (Za Zb9 (Za Zpr Zf)) Zc Tryz.func111 Tryz.call111 .leaf lf (hk fun _=>by kernel_rfl)
abbrev Qb3:FnE:={f:=112,args:=[.slice 130 (Y1)],res:=[.slice 130 (Y1)],F:=fun xs=>Zn3 xs.1}
theorem Z9j:okE Qb3:=
 ofE Zf Zc Tryz.func112 Tryz.call112 (.seq .leaf (.seq .leaf (.seq (.seq .leaf (.block (.loop Z3x (fun N v=>Zev N v.1 v.2.1 v.2.2.1) (fun v=>Ziu v.1 v.2.1 v.2.2.1) (fun K1=> .leaf)))) .leaf))) ⟨lf,lf,⟨lf,fun _=>rfl,fun N=>⟨(fun v=>by kernel_rfl),lf⟩⟩,lf⟩ (hk fun _=>by kernel_rfl)
abbrev Qm6:FnE:={f:=35,args:=[Zp],res:=[Zp],F:=fun xs=>Z6 xs.1}
theorem Q4:okE Qm6:=
 ofE (Za Zsi (Za Z9j Zf)) Zc Tryz.func35 Tryz.call35 (.seq .leaf (.seq .leaf (.seq .leaf (.seq (.seq .leaf (.block (.loop Qeb (fun N v=>Zcz N v.1 v.2.1 v.2.2.1 v.2.2.2.1) (fun v=>Zly v.1 v.2.1 v.2.2.1 v.2.2.2.1) (fun K1=> .leaf)))) .leaf)))) ⟨lf,lf,lf,⟨lf,fun _=>rfl,fun N=>⟨(fun v=>by kernel_rfl),lf⟩⟩,lf⟩ (hk fun _=>by kernel_rfl)
abbrev Qp8:FnE:={f:=189,args:=[Vj],res:=[.bool],F:=fun xs=>Vn xs.1}
theorem Zpo:okE Qp8:=
 ofE (Za Zsk (Za Yq Zf)) Zc Tryz.func189 Tryz.call189 (.seq .leaf (.seq .leaf (.seq (.seq .leaf (.block (.loop Qht (fun N v=>Zep N v.1 v.2.1) (fun v=>Vi v.1 v.2.1) (fun K1=> .leaf)))) .leaf))) ⟨lf,lf,⟨lf,fun _=>rfl,fun N=>⟨(fun v=>by kernel_rfl),lf⟩⟩,lf⟩ (hk fun _=>by kernel_rfl)
abbrev Qqj:FnE:={f:=217,args:=[Zw],res:=[.bool],F:=fun xs=>Zr0 xs.1}
theorem Zuk:okE Qqj:=
 ofE Zf Zc Tryz.func217 Tryz.call217 .leaf lf (hk fun _=>by kernel_rfl)
abbrev Qj0:FnE:={f:=190,args:=[.slice 167 (Zw)],res:=[.bool],F:=fun xs=>Kz xs.1}
theorem Zdx:okE Qj0:=
 ofE (Za Zuk Zf) Zc Tryz.func190 Tryz.call190 (.seq .leaf (.seq (.seq .leaf (.block (.loop Z96 (fun N v=>Wq N v.1 v.2.1) (fun v=>Zbi v.1 v.2.1) (fun K1=> .leaf)))) .leaf)) ⟨lf,⟨lf,fun _=>rfl,fun N=>⟨(fun v=>by kernel_rfl),lf⟩⟩,lf⟩ (hk fun _=>by kernel_rfl)
abbrev Qjt:FnE:={f:=176,args:=[.slice 167 (Zw),Zw],res:=[.slice 167 (Zw)],F:=fun xs=>Wy xs.1 xs.2.1}
theorem Zdw:okE Qjt:=
 ofE (Za Zdx (Za Zuk (Za Zuj Zf))) Zc Tryz.func176 Tryz.call176 (.seq .leaf (.seq .leaf (.seq .leaf (.seq .leaf (.seq (.seq .leaf (.block (.loop Z91 (fun N v=>Yl N v.1 v.2.1 v.2.2.1 v.2.2.2.1 v.2.2.2.2.1) (fun v=>Ze1 v.1 v.2.1 v.2.2.1 v.2.2.2.1 v.2.2.2.2.1) (fun K1=>(.seq .leaf (.join Z9z (fun v=>Wm K1 v.1 v.2.1 v.2.2.1 v.2.2.2.1 v.2.2.2.2.1) (.block (.block (.seq .leaf (.cond .leaf (.seq .leaf (.cond (.join Z90 (fun v=>Zia K1 v.1 v.2.1 v.2.2.1 v.2.2.2.1 v.2.2.2.2.1) .leaf .leaf) .leaf)))))) .leaf)))))) .leaf))))) ⟨lf,lf,lf,lf,⟨lf,fun _=>rfl,fun N=>⟨(fun v=>by kernel_rfl),lf,⟨lf,lf,lf,⟨lf,(fun v=>by kernel_rfl),lf⟩,lf⟩,(fun v=>by kernel_rfl),lf⟩⟩,lf⟩ (hk fun _=>by kernel_rfl)
abbrev Z49:FnE:={f:=191,args:=[.slice 167 (Zw)],res:=[.int .i64],F:=fun xs=>Vl xs.1}
theorem Z2t:okE Z49:=
 ofE (Za Zdx Zf) Zc Tryz.func191 Tryz.call191 (.seq .leaf (.seq .leaf (.seq .leaf (.seq (.seq .leaf (.block (.loop Zzo (fun N v=>Kk N v.1 v.2.1 v.2.2.1) (fun v=>Za5 v.1 v.2.1 v.2.2.1) (fun K1=> .leaf)))) .leaf)))) ⟨lf,lf,lf,⟨lf,fun _=>rfl,fun N=>⟨(fun v=>by kernel_rfl),lf⟩⟩,lf⟩ (hk fun _=>by kernel_rfl)
abbrev Qjw:FnE:={f:=192,args:=[.slice 167 (Zw),.int .i64],res:=[.int .i64],F:=fun xs=>Zgt xs.1 xs.2.1}
theorem Zxa:okE Qjw:=
 ofE (Za Zdx Zf) Zc Tryz.func192 Tryz.call192 (.seq .leaf (.seq .leaf (.seq (.seq .leaf (.block (.loop Z94 (fun N v=>J7 N v.1 v.2.1 v.2.2.1) (fun v=>Zkn v.1 v.2.1 v.2.2.1) (fun K1=>(.seq .leaf (.join Z93 (fun v=>Zig K1 v.1 v.2.1 v.2.2.1) .leaf .leaf)))))) .leaf))) ⟨lf,lf,⟨lf,fun _=>rfl,fun N=>⟨(fun v=>by kernel_rfl),lf,lf,(fun v=>by kernel_rfl),lf⟩⟩,lf⟩ (hk fun _=>by kernel_rfl)
abbrev Qnq:FnE:={f:=193,args:=[Z4],res:=[.int .i64],F:=fun xs=>Zaj xs.1}
theorem Znt:okE Qnq:=
 ofE Zf Zc Tryz.func193 Tryz.call193 .leaf lf (hk fun _=>by kernel_rfl)
abbrev Qj1:FnE:={f:=141,args:=[Z4],res:=[.bool],F:=fun xs=>Xz xs.1}
theorem J5:okE Qj1:=
 ofE (Za Zpo (Za Zdx (Za Yq (Za Q1 (Za Zdw (Za Z2t (Za Zxa (Za Znt Zf)))))))) Zc Tryz.func141 Tryz.call141 (.seq .leaf (.seq .leaf (.seq .leaf (.seq .leaf (.seq (.seq .leaf (.block (.loop Z97 (fun N v=>Zbs N v.1 v.2.1 v.2.2.1) (fun v=>Y3 v.1 v.2.1 v.2.2.1) (fun K1=> .leaf)))) (.seq (.seq .leaf (.block (.loop Z98 (fun N v=>Zbt N v.1 v.2.1 v.2.2.1) (fun v=>Zbj v.1 v.2.1 v.2.2.1) (fun K2=> .leaf)))) (.seq .leaf (.seq .leaf (.seq (.seq .leaf (.block (.loop Z99 (fun N v=>Zbu N v.1 v.2.1) (fun v=>Zbk v.1 v.2.1) (fun K3=> .leaf)))) (.seq (.seq .leaf (.block (.loop Qaa (fun N v=>Zbv N v.1 v.2.1) (fun v=>Ze3 v.1 v.2.1) (fun K4=> .leaf)))) .leaf)))))))))) ⟨lf,lf,lf,lf,⟨lf,fun _=>rfl,fun N=>⟨(fun v=>by kernel_rfl),lf⟩⟩,⟨lf,fun _=>rfl,fun N=>⟨(fun v=>by kernel_rfl),lf⟩⟩,lf,lf,⟨lf,fun _=>rfl,fun N=>⟨(fun v=>by kernel_rfl),lf⟩⟩,⟨lf,fun _=>rfl,fun N=>⟨(fun v=>by kernel_rfl),lf⟩⟩,lf⟩ (hk fun _=>by kernel_rfl)
abbrev Qjz:FnE:={f:=101,args:=[Qu],res:=[.bool],F:=fun xs=>Ye xs.1}
theorem Wk:okE Qjz:=
 ofE (Za Q1 (Za Yq Zf)) Zc Tryz.func101 Tryz.call101 .leaf lf (hk fun _=>by kernel_rfl)
abbrev Qjx:FnE:={f:=174,args:=[Qw],res:=[.bool],F:=fun xs=>Zdt xs.1}
theorem Zh2:okE Qjx:=
 ofE (Za Q1 Zf) Zc Tryz.func174 Tryz.call174 (.seq .leaf (.seq .leaf (.seq (.seq .leaf (.block (.loop Z95 (fun N v=>Zd0 N v.1 v.2.1 v.2.2.1) (fun v=>Zko v.1 v.2.1 v.2.2.1) (fun K1=> .leaf)))) .leaf))) ⟨lf,lf,⟨lf,fun _=>rfl,fun N=>⟨(fun v=>by kernel_rfl),lf⟩⟩,lf⟩ (hk fun _=>by kernel_rfl)
abbrev Qs3:FnE:={f:=175,args:=[Qw],res:=[.int .i64],F:=fun xs=>Zlq xs.1}
theorem Qqx:okE Qs3:=
 ofE (Za Zh2 Zf) Zc Tryz.func175 Tryz.call175 .leaf lf (hk fun _=>by kernel_rfl)
abbrev Qb2:FnE:={f:=123,args:=[Qw],res:=[.int .i64],F:=fun xs=>Zau xs.1}
theorem Zog:okE Qb2:=
 ofE (Za Zh2 Zf) Zc Tryz.func123 Tryz.call123 .leaf lf (hk fun _=>by kernel_rfl)
abbrev Qbp:FnE:={f:=120,args:=[Z7],res:=[.bool],F:=fun xs=>Q5 xs.1}
theorem Zbq:okE Qbp:=
 ofE (Za Zh2 (Za Q1 (Za Qqx (Za Zog Zf)))) Zc Tryz.func120 Tryz.call120 (.seq .leaf (.seq .leaf (.seq .leaf (.seq (.seq .leaf (.block (.seq .leaf (.cond .leaf (.seq .leaf (.cond .leaf (.seq .leaf (.cond .leaf (.seq .leaf (.cond .leaf (.join Z3l (fun v=>X9 v.1 v.2.1) .leaf .leaf))))))))))) .leaf)))) ⟨lf,lf,lf,⟨lf,lf,lf,lf,lf,lf,lf,lf,lf,lf,(fun v=>by kernel_rfl),lf⟩,lf⟩ (hk fun _=>by kernel_rfl)
abbrev Qj3:FnE:={f:=102,args:=[Yf],res:=[.bool],F:=fun xs=>Vq xs.1}
theorem Zh3:okE Qj3:=
 ofE (Za Yq Zf) Zc Tryz.func102 Tryz.call102 .leaf lf (hk fun _=>by kernel_rfl)
abbrev Qbn:FnE:={f:=211,args:=[Yz],res:=[.bool],F:=fun xs=>Zat xs.1}
theorem Zof:okE Qbn:=
 ofE (Za Yq Zf) Zc Tryz.func211 Tryz.call211 .leaf lf (hk fun _=>by kernel_rfl)
abbrev Qj2:FnE:={f:=170,args:=[Zu],res:=[.bool],F:=fun xs=>Zb3 xs.1}
theorem Zxb:okE Qj2:=
 ofE (Za Q1 (Za J5 (Za Wk (Za Zbq (Za Zh3 (Za Zof Zf)))))) Zc Tryz.func170 Tryz.call170 .leaf lf (hk fun _=>by kernel_rfl)
abbrev Qbd:FnE:={f:=100,args:=[.slice 72 (Zu)],res:=[.bool],F:=fun xs=>Y8 xs.1}
theorem Zod:okE Qbd:=
 ofE (Za Zxb Zf) Zc Tryz.func100 Tryz.call100 (.seq .leaf (.seq (.seq .leaf (.block (.loop Z3a (fun N v=>X7 N v.1 v.2.1) (fun v=>Wn v.1 v.2.1) (fun K1=> .leaf)))) .leaf)) ⟨lf,⟨lf,fun _=>rfl,fun N=>⟨(fun v=>by kernel_rfl),lf⟩⟩,lf⟩ (hk fun _=>by kernel_rfl)
abbrev Qmy:FnE:={f:=103,args:=[Zcs],res:=[.bool],F:=fun xs=>Zb2 xs.1}
theorem Zsh:okE Qmy:=
 ofE (Za Yq Zf) Zc Tryz.func103 Tryz.call103 .leaf lf (hk fun _=>by kernel_rfl)
abbrev Qmx:FnE:={f:=104,args:=[Qu],res:=[.bool],F:=fun xs=>Vb xs.1}
theorem Znq:okE Qmx:=
 ofE (Za Yq Zf) Zc Tryz.func104 Tryz.call104 .leaf lf (hk fun _=>by kernel_rfl)
abbrev Qj4:FnE:={f:=109,args:=[.int .i64],res:=[.str],F:=fun xs=>Znf xs.1}
theorem Qg5:okE Qj4:=
 ofE Zf Zc Tryz.func109 Tryz.call109 .leaf lf (hk fun _=>by kernel_rfl)
abbrev Z12:FnE:={f:=146,args:=[Zx],res:=[.bool],F:=fun xs=>V7 xs.1}
theorem Zkl:okE Z12:=
 ofE Zf Zc Tryz.func146 Tryz.call146 (.seq .leaf (.seq (.seq .leaf (.block (.join Zx1 (fun v=>Yb v.1) .leaf .leaf))) .leaf)) ⟨lf,⟨lf,lf,(fun v=>by kernel_rfl),lf⟩,lf⟩ (hk fun _=>by kernel_rfl)
abbrev Qqm:FnE:={f:=79,args:=[Zx],res:=[Zx],F:=fun xs=>Zgh xs.1}
theorem Zum:okE Qqm:=
 ofE (Za Zkl Zf) Zc Tryz.func79 Tryz.call79 (.seq .leaf (.seq .leaf (.join Qh0 (fun v=>Ziz v.1 v.2.1 v.2.2.1) .leaf (.seq (.seq .leaf (.block (.seq .leaf (.cond .leaf (.seq .leaf (.cond .leaf (.seq .leaf (.cond .leaf (.join Qh1 (fun v=>Zi0 v.1 v.2.1 v.2.2.1 v.2.2.2.1) .leaf .leaf))))))))) .leaf)))) ⟨lf,lf,lf,(fun v=>by kernel_rfl),⟨lf,lf,lf,lf,lf,lf,lf,lf,(fun v=>by kernel_rfl),lf⟩,lf⟩ (hk fun _=>by kernel_rfl)
abbrev Qmz:FnE:={f:=34,args:=[Zx],res:=[.bool],F:=fun xs=>Zae xs.1}
theorem Zfd:okE Qmz:=
 ofE (Za Qg5 (Za Zum (Za Q1 Zf))) Zc Tryz.func34 Tryz.call34 (.seq .leaf (.seq .leaf (.seq (.seq .leaf (.block (.seq .leaf (.cond .leaf (.join Qd8 (fun v=>Zny v.1 v.2.1) .leaf .leaf))))) .leaf))) ⟨lf,lf,⟨lf,lf,lf,lf,(fun v=>by kernel_rfl),lf⟩,lf⟩ (hk fun _=>by kernel_rfl)
abbrev Qf3:FnE:={f:=106,args:=[.slice 39 (Zx)],res:=[.bool],F:=fun xs=>Zch xs.1}
theorem Qdo:okE Qf3:=
 ofE (Za Zfd Zf) Zc Tryz.func106 Tryz.call106 (.seq .leaf (.seq (.seq .leaf (.block (.loop Z6k (fun N v=>Ji N v.1 v.2.1) (fun v=>Kq v.1 v.2.1) (fun K1=> .leaf)))) .leaf)) ⟨lf,⟨lf,fun _=>rfl,fun N=>⟨(fun v=>by kernel_rfl),lf⟩⟩,lf⟩ (hk fun _=>by kernel_rfl)
abbrev Qfz:FnE:={f:=107,args:=[.slice 72 (Zu)],res:=[.int .i64],F:=fun xs=>Zcg xs.1}
theorem Qdk:okE Qfz:=
 ofE (Za Zod Zf) Zc Tryz.func107 Tryz.call107 (.seq .leaf (.seq .leaf (.seq (.seq .leaf (.block (.loop Z6i (fun N v=>Ki N v.1 v.2.1 v.2.2.1) (fun v=>Yv v.1 v.2.1 v.2.2.1) (fun K1=> .leaf)))) .leaf))) ⟨lf,lf,⟨lf,fun _=>rfl,fun N=>⟨(fun v=>by kernel_rfl),lf⟩⟩,lf⟩ (hk fun _=>by kernel_rfl)
abbrev Qfx:FnE:={f:=108,args:=[.slice 72 (Zu)],res:=[.int .i64],F:=fun xs=>Zcf xs.1}
theorem Qdi:okE Qfx:=
 ofE (Za Zod Zf) Zc Tryz.func108 Tryz.call108 (.seq .leaf (.seq .leaf (.seq (.seq .leaf (.block (.loop Z6f (fun N v=>Kh N v.1 v.2.1 v.2.2.1) (fun v=>Yu v.1 v.2.1 v.2.2.1) (fun K1=> .leaf)))) .leaf))) ⟨lf,lf,⟨lf,fun _=>rfl,fun N=>⟨(fun v=>by kernel_rfl),lf⟩⟩,lf⟩ (hk fun _=>by kernel_rfl)
abbrev Qp6:FnE:={f:=33,args:=[Zp],res:=[.bool],F:=fun xs=>Y2 xs.1}
theorem W9:okE Qp6:=
 ofE (Za Zuf (Za Zod (Za Wk (Za Zh3 (Za Zsh (Za Znq (Za Yq (Za Qdo (Za Qdk (Za Qdi Zf)))))))))) Zc Tryz.func33 Tryz.call33 (.seq .leaf (.seq .leaf (.seq (.seq .leaf (.block (.loop Qhs (fun N v=>Zad N v.1 v.2.1) (fun v=>K9 v.1 v.2.1) (fun K1=> .leaf)))) .leaf))) ⟨lf,lf,⟨lf,fun _=>rfl,fun N=>⟨(fun v=>by kernel_rfl),lf⟩⟩,lf⟩ (hk fun _=>by kernel_rfl)
abbrev Qjy:FnE:={f:=285,args:=[Zp],res:=[.bool],F:=fun xs=>Z7c xs.1}
theorem Qg4:okE Qjy:=
 ofE Zf Zc Tryz.func285 Tryz.call285 .leaf lf (hk fun _=>by kernel_rfl)
abbrev Qnd:FnE:={f:=262,args:=[Zp],res:=[.bool],F:=fun xs=>Jk xs.1}
theorem Jz:okE Qnd:=
 ofE (Za W9 (Za Qg4 Zf)) Zc Tryz.func262 Tryz.call262 .leaf lf (hk fun _=>by kernel_rfl)
abbrev Qj9:FnE:={f:=263,args:=[Zcs],res:=[.int .i64,Zcs,.bool],F:=fun xs=>Zrb xs.1}
theorem Qg9:okE Qj9:=
 ofE (Za Zsh Zf) Zc Tryz.func263 Tryz.call263 .leaf lf (hk fun _=>by kernel_rfl)
abbrev Qp9:FnE:={f:=264,args:=[.int .i64,.bool,.bool],res:=[.int .i64],F:=fun xs=>Zvz xs.1 xs.2.1 xs.2.2.1}
theorem Qom:okE Qp9:=
 ofE (Za Yq Zf) Zc Tryz.func264 Tryz.call264 (.seq .leaf (.seq .leaf (.seq .leaf (.join Qhu (fun v=>Zls v.1 v.2.1) .leaf .leaf)))) ⟨lf,lf,lf,lf,(fun v=>by kernel_rfl),lf⟩ (hk fun _=>by kernel_rfl)
abbrev Zyh:FnE:={f:=212,args:=[],res:=[Yz],F:=fun xs=>Wp}
theorem Zor:okE Zyh:=
 ofE Zf Zc Tryz.func212 Tryz.call212 .leaf lf (hk fun _=>by kernel_rfl)
abbrev Z73:FnE:={f:=213,args:=[],res:=[Z7],F:=fun xs=>Zmj}
theorem Z5z:okE Z73:=
 ofE Zf Zc Tryz.func213 Tryz.call213 .leaf lf (hk fun _=>by kernel_rfl)
abbrev Qm0:FnE:={f:=113,args:=[.int .i64],res:=[.bool],F:=fun xs=>Vc xs.1}
theorem Znr:okE Qm0:=
 ofE (Za Q1 Zf) Zc Tryz.func113 Tryz.call113 .leaf lf (hk fun _=>by kernel_rfl)
abbrev Qbs:FnE:={f:=171,args:=[.int .i64],res:=[.bool],F:=fun xs=>Zkb xs.1}
theorem Z9b:okE Qbs:=
 ofE (Za Q1 Zf) Zc Tryz.func171 Tryz.call171 .leaf lf (hk fun _=>by kernel_rfl)
abbrev Qs4:FnE:={f:=114,args:=[.bool,.int .i64],res:=[.bool],F:=fun xs=>Zcw xs.1 xs.2.1}
theorem Zq4:okE Qs4:=
 ofE (Za Q1 (Za Z9b Zf)) Zc Tryz.func114 Tryz.call114 .leaf lf (hk fun _=>by kernel_rfl)
abbrev Qfk:FnE:={f:=62,args:=[.bool,.int .i64],res:=[.bool],F:=fun xs=>Yr xs.1 xs.2.1}
theorem Zpm:okE Qfk:=
 ofE (Za Q1 (Za Znr (Za Zq4 Zf))) Zc Tryz.func62 Tryz.call62 .leaf lf (hk fun _=>by kernel_rfl)
abbrev Z46:FnE:={f:=36,args:=[.bool,.int .i64],res:=[.bool],F:=fun xs=>Q8 xs.1 xs.2.1}
theorem Zft:okE Z46:=
 ofE (Za Q1 (Za Znr (Za Zq4 Zf))) Zc Tryz.func36 Tryz.call36 .leaf lf (hk fun _=>by kernel_rfl)
abbrev Qm2:FnE:={f:=255,args:=[.int .i64],res:=[Vj,.bool],F:=fun xs=>Zp2 xs.1}
theorem Qkw:okE Qm2:=
 ofE (Za Zsk Zf) Zc Tryz.func255 Tryz.call255 .leaf lf (hk fun _=>by kernel_rfl)
abbrev Qfr:FnE:={f:=214,args:=[.int .i64],res:=[Z4,.bool],F:=fun xs=>Zcd xs.1}
theorem Qdf:okE Qfr:=
 ofE (Za Qkw Zf) Zc Tryz.func214 Tryz.call214 .leaf lf (hk fun _=>by kernel_rfl)
abbrev Qfs:FnE:={f:=172,args:=[.bool,.int .i64,Zks,Zks],res:=[Zu,.bool],F:=fun xs=>Kx xs.1 xs.2.1 xs.2.2.1 xs.2.2.2.1}
theorem Zvr:okE Qfs:=
 ofE (Za Q1 (Za Zuf (Za Zor (Za Z5z (Za Zpm (Za Zft (Za Qdf (Za Zvq (Za Zvs Zf))))))))) Zc Tryz.func172 Tryz.call172 .leaf lf (hk fun _=>by kernel_rfl)
abbrev Qbj:FnE:={f:=115,args:=[.slice 72 (Zu),.int .i64],res:=[.int .i64],F:=fun xs=>Xp xs.1 xs.2.1}
theorem Zoe:okE Qbj:=
 ofE Zf Zc Tryz.func115 Tryz.call115 (.seq .leaf (.seq (.seq .leaf (.block (.loop Z3g (fun N v=>Xq N v.1 v.2.1 v.2.2.1) (fun v=>Yd v.1 v.2.1 v.2.2.1) (fun K1=> .leaf)))) .leaf)) ⟨lf,⟨lf,fun _=>rfl,fun N=>⟨(fun v=>by kernel_rfl),lf⟩⟩,lf⟩ (hk fun _=>by kernel_rfl)
abbrev Qfv:FnE:={f:=127,args:=[.slice 72 (Zu),Zu],res:=[.slice 72 (Zu)],F:=fun xs=>Qi xs.1 xs.2.1}
theorem Yp:okE Qfv:=
 ofE (Za Zoe (Za Zsi Zf)) Zc Tryz.func127 Tryz.call127 (.seq .leaf (.seq .leaf (.seq .leaf (.seq .leaf (.seq (.seq .leaf (.block (.loop Z6e (fun N v=>Qt N v.1 v.2.1 v.2.2.1 v.2.2.2.1 v.2.2.2.2.1 v.2.2.2.2.2.1) (fun v=>Vd v.1 v.2.1 v.2.2.1 v.2.2.2.1 v.2.2.2.2.1 v.2.2.2.2.2.1) (fun K1=>(.seq .leaf (.seq (.block (.seq .leaf (.join Z6d (fun v=>Xm K1 v.1 v.2.1 v.2.2.1 v.2.2.2.1 v.2.2.2.2.1 v.2.2.2.2.2.1 v.2.2.2.2.2.2.1) .leaf .leaf))) .leaf)))))) .leaf))))) ⟨lf,lf,lf,lf,⟨lf,fun _=>rfl,fun N=>⟨(fun v=>by kernel_rfl),lf,⟨lf,lf,(fun v=>by kernel_rfl),lf⟩,lf⟩⟩,lf⟩ (hk fun _=>by kernel_rfl)
abbrev Qbw:FnE:={f:=233,args:=[Zp,.bool],res:=[.int .i64,Zp,.bool],F:=fun xs=>Zfk xs.1 xs.2.1}
theorem Z9f:okE Qbw:=
 ofE (Za Q4 (Za Jz (Za Qg9 (Za Qom (Za Zvr (Za Yp Zf)))))) Zc Tryz.func233 Tryz.call233 (.seq .leaf (.seq .leaf (.seq .leaf (.seq .leaf (.join Z3t (fun v=>Wa v.1 v.2.1 v.2.2.1 v.2.2.2.1 v.2.2.2.2.1) .leaf (.seq .leaf (.join Z3u (fun v=>Wb v.1 v.2.1 v.2.2.1 v.2.2.2.1 v.2.2.2.2.1 v.2.2.2.2.2.1) .leaf .leaf))))))) ⟨lf,lf,lf,lf,lf,(fun v=>by kernel_rfl),lf,lf,(fun v=>by kernel_rfl),lf⟩ (hk fun _=>by kernel_rfl)
abbrev Qqe:FnB:={f:=145,args:=[.bx 148 (Zct) (.u false),.sh (.slice 9 (.str))],res:= .vals [.str],F:=fun xs=>Zow xs.1 xs.2.1}
theorem Z20:okB Qqe:=
 ofB [0] Zf (Zt Kv Zc) Tryz.func145 Tryz.call145 .leaf lf (hk fun _=>by kernel_rfl)
abbrev Qqk:FnB:={f:=77,args:=[.bx 148 (Zct) (.u false),.sh (.int .i64)],res:= .vals [.str],F:=fun xs=>Zl5 xs.1 xs.2.1}
theorem Zul:okB Qqk:=
 ofB [0] Zf (Zt Kv (Zt Z20 Zc)) Tryz.func77 Tryz.call77 (.seq .leaf (.seq .leaf (.seq (.seq .leaf (.block (.loop Qhz (fun N v=>Ziy N v.1 v.2.1 v.2.2.1) (fun v=>Zhi v.1 v.2.1 v.2.2.1) (fun K1=> .leaf)))) .leaf))) ⟨lf,lf,⟨lf,fun _=>rfl,fun N=>⟨(fun v=>by kernel_rfl),lf⟩⟩,lf⟩ (hk fun _=>by kernel_rfl)
abbrev Qkg:FnE:={f:=38,args:=[Zp,.int .i64],res:=[Zu,.bool],F:=fun xs=>Qv xs.1 xs.2.1}
theorem Xg:okE Qkg:=
 ofE (Za Zoe (Za Zsi Zf)) Zc Tryz.func38 Tryz.call38 .leaf lf (hk fun _=>by kernel_rfl)
abbrev Qqa:FnE:={f:=310,args:=[Vj],res:=[.int .i64],F:=fun xs=>Z3w xs.1}
theorem Qon:okE Qqa:=
 ofE (Za Zpo Zf) Zc Tryz.func310 Tryz.call310 .leaf lf (hk fun _=>by kernel_rfl)
abbrev Qf2:FnE:={f:=286,args:=[Vj,.str],res:=[Vj,.int .i64],F:=fun xs=>Zp6 xs.1 xs.2.1}
theorem Qdn:okE Qf2:=
 ofE (Za Zuo (Za Qon Zf)) Zc Tryz.func286 Tryz.call286 (.seq .leaf (.seq .leaf (.seq .leaf (.seq (.seq .leaf (.block (.loop Z6j (fun N v=>Zaf N v.1 v.2.1 v.2.2.1 v.2.2.2.1 v.2.2.2.2.1 v.2.2.2.2.2.1) (fun v=>Zdo v.1 v.2.1 v.2.2.1 v.2.2.2.1 v.2.2.2.2.1 v.2.2.2.2.2.1) (fun K1=> .leaf)))) .leaf)))) ⟨lf,lf,lf,⟨lf,fun _=>rfl,fun N=>⟨(fun v=>by kernel_rfl),lf⟩⟩,lf⟩ (hk fun _=>by kernel_rfl)
abbrev Z8b:FnE:={f:=265,args:=[Z4,.str],res:=[Z4,.int .i64],F:=fun xs=>Zmk xs.1 xs.2.1}
theorem Z54:okE Z8b:=
 ofE (Za Zb9 (Za J5 (Za Qdn (Za Zdw Zf)))) Zc Tryz.func265 Tryz.call265 (.seq .leaf (.seq .leaf (.seq .leaf (.seq .leaf (.join Z1h (fun v=>Zhg v.1 v.2.1 v.2.2.1 v.2.2.2.1) .leaf .leaf))))) ⟨lf,lf,lf,lf,lf,(fun v=>by kernel_rfl),lf⟩ (hk fun _=>by kernel_rfl)
abbrev Z8c:FnE:={f:=234,args:=[Zp,.int .i64,.str],res:=[.int .i64,Zp],F:=fun xs=>Zd5 xs.1 xs.2.1 xs.2.2.1}
theorem Z55:okE Z8c:=
 ofE (Za Q4 (Za Xg (Za Jz (Za Z54 (Za Yp Zf))))) Zc Tryz.func234 Tryz.call234 .leaf lf (hk fun _=>by kernel_rfl)
abbrev Z7s:FnE:={f:=266,args:=[Z4],res:=[Z4,.bool],F:=fun xs=>Zmf xs.1}
theorem Z5s:okE Z7s:=
 ofE (Za Zb9 (Za J5 Zf)) Zc Tryz.func266 Tryz.call266 .leaf lf (hk fun _=>by kernel_rfl)
abbrev Z5e:FnE:={f:=235,args:=[Zp,.int .i64],res:=[Zp,.bool],F:=fun xs=>Zcr xs.1 xs.2.1}
theorem Z2x:okE Z5e:=
 ofE (Za Q4 (Za Xg (Za Jz (Za Z5s (Za Yp Zf))))) Zc Tryz.func235 Tryz.call235 .leaf lf (hk fun _=>by kernel_rfl)
abbrev Qf0:FnE:={f:=287,args:=[Qw,.int .i64],res:=[.str,Qw],F:=fun xs=>Zp5 xs.1 xs.2.1}
theorem Qdl:okE Qf0:=
 ofE (Za Zog (Za Zun Zf)) Zc Tryz.func287 Tryz.call287 (.seq .leaf (.seq .leaf (.seq .leaf (.seq .leaf (.seq .leaf (.seq .leaf (.seq (.seq .leaf (.cond (.seq (.frz [(7,.u false)]) .leaf) .leaf)) .leaf))))))) ⟨lf,lf,lf,lf,lf,lf,⟨lf,⟨trivial,lf⟩,lf⟩,lf⟩ (hk fun _=>by kernel_rfl)
abbrev Z5f:FnB:={f:=267,args:=[.sh (Z7),.sh (.int .i64)],res:= .shr [.str,Z7],F:=fun xs=>Zk4 xs.1 xs.2.1}
theorem Z2y:okB Z5f:=
 ofB [] (Za Zpr (Za Zbq (Za Qdl Zf))) Zc Tryz.func267 Tryz.call267 (.seq .leaf (.seq .leaf (.seq (.seq .leaf (.cond (.seq .leaf (.frz [(5,.u false)])) .leaf)) (.seq (.seq .leaf (.cond (.seq .leaf (.seq .leaf (.frz [(5,.u false)]))) .leaf)) (.seq .leaf (.seq (.frz [(8,.u false)]) (.join Zzt (fun v=>Zf9 v.1 v.2.1 v.2.2.1) .leaf .leaf))))))) ⟨lf,lf,⟨lf,⟨lf,trivial⟩,lf⟩,⟨lf,⟨lf,lf,trivial⟩,lf⟩,lf,trivial,lf,(fun v=>by kernel_rfl),lf⟩ (hk fun _=>by kernel_rfl)
abbrev Qfw:FnE:={f:=130,args:=[Yf,.int .i64],res:=[Yf,.bool],F:=fun xs=>Zeu xs.1 xs.2.1}
theorem Qdh:okE Qfw:=
 ofE (Za Zh3 Zf) Zc Tryz.func130 Tryz.call130 .leaf lf (hk fun _=>by kernel_rfl)
abbrev Qnb:FnB:={f:=46,args:=[.bx 37 (Zp) (.u false),.bx 72 (Zu) (.u false),.sh (.int .i64)],res:= .vals [],F:=fun xs=>Zgd xs.1 xs.2.1 xs.2.2.1}
theorem Zz8:okB Qnb:=
 ofB [0,1] (Za Qdh Zf) Zc Tryz.func46 Tryz.call46 .leaf lf (hk fun _=>by kernel_rfl)
abbrev Qbr:FnE:={f:=219,args:=[Zu],res:=[.bool],F:=fun xs=>Znz xs.1}
theorem Z9a:okE Qbr:=
 ofE Zf Zc Tryz.func219 Tryz.call219 .leaf lf (hk fun _=>by kernel_rfl)
abbrev Qbo:FnE:={f:=256,args:=[Z7],res:=[.bool],F:=fun xs=>Zj9 xs.1}
theorem Z88:okE Qbo:=
 ofE (Za Zbq Zf) Zc Tryz.func256 Tryz.call256 .leaf lf (hk fun _=>by kernel_rfl)
abbrev Qbq:FnE:={f:=220,args:=[Zu],res:=[.bool],F:=fun xs=>Zka xs.1}
theorem Z89:okE Qbq:=
 ofE (Za Z88 Zf) Zc Tryz.func220 Tryz.call220 .leaf lf (hk fun _=>by kernel_rfl)
abbrev Qp7:FnE:={f:=180,args:=[Zu],res:=[.bool],F:=fun xs=>Zlr xs.1}
theorem Qol:okE Qp7:=
 ofE (Za Zxb (Za Z9a (Za Z89 Zf))) Zc Tryz.func180 Tryz.call180 .leaf lf (hk fun _=>by kernel_rfl)
abbrev Qju:FnE:={f:=181,args:=[Qu],res:=[Qu,.bool],F:=fun xs=>Zb1 xs.1}
theorem Qg2:okE Qju:=
 ofE (Za Znq Zf) Zc Tryz.func181 Tryz.call181 .leaf lf (hk fun _=>by kernel_rfl)
abbrev Qna:FnB:={f:=126,args:=[.bx 37 (Zp) (.u false),.bx 72 (Zu) (.u false)],res:= .vals [],F:=fun xs=>Zjp xs.1 xs.2.1}
theorem Qk0:okB Qna:=
 ofB [0,1] (Za Zq4 (Za Qol (Za Znr (Za Qg2 Zf)))) Zc Tryz.func126 Tryz.call126 .leaf lf (hk fun _=>by kernel_rfl)
abbrev Qnc:FnB:={f:=41,args:=[.bx 37 (Zp) (.u false),.sh (Zu)],res:= .vals [],F:=fun xs=>Jj xs.1 xs.2.1}
theorem Zfe:okB Qnc:=
 ofB [0] (Za Yp Zf) (Zt Qk0 Zc) Tryz.func41 Tryz.call41 .leaf lf (hk fun _=>by kernel_rfl)
abbrev Qb1:FnB:={f:=236,args:=[.sh (Zp),.sh (.int .i64),.sh (.int .i64)],res:= .shr [.str,.bool,Zp],F:=fun xs=>Zfl xs.1 xs.2.1 xs.2.2.1}
theorem Z9i:okB Qb1:=
 ofB [] (Za Q4 (Za Xg (Za Jz Zf))) (Zt Z2y (Zt Zz8 (Zt Zfe Zc))) Tryz.func236 Tryz.call236 (.seq .leaf (.seq .leaf (.seq .leaf (.seq (.seq .leaf (.cond (.seq .leaf (.frz [(8,.u false)])) .leaf)) (.seq (.frz [(10,.u false)]) (.seq .leaf (.join Z3v (fun v=>Wc v.1 v.2.1 v.2.2.1 v.2.2.2.1 v.2.2.2.2.1) (.seq .leaf (.cond (.frz [(9,.u false)]) .leaf)) .leaf))))))) ⟨lf,lf,lf,⟨lf,⟨lf,trivial⟩,lf⟩,trivial,lf,⟨lf,trivial,lf⟩,(fun v=>by kernel_rfl),lf⟩ (hk fun _=>by kernel_rfl)
abbrev Z78:FnE:={f:=63,args:=[Z4,.int .i64],res:=[Z4,.bool],F:=fun xs=>K0 xs.1 xs.2.1}
theorem Zs4:okE Z78:=
 ofE (Za J5 (Za Q1 (Za Zb9 Zf))) Zc Tryz.func63 Tryz.call63 (.seq .leaf (.seq .leaf (.join Z1g (fun v=>Zhf v.1 v.2.1 v.2.2.1 v.2.2.2.1) .leaf .leaf))) ⟨lf,lf,lf,(fun v=>by kernel_rfl),lf⟩ (hk fun _=>by kernel_rfl)
abbrev Z79:FnB:={f:=237,args:=[.sh (Zp),.sh (.int .i64),.sh (.int .i64)],res:= .shr [Zp,.bool],F:=fun xs=>Zd3 xs.1 xs.2.1 xs.2.2.1}
theorem Z52:okB Z79:=
 ofB [] (Za Q4 (Za Xg (Za Jz (Za Zs4 Zf)))) (Zt Zfe Zc) Tryz.func237 Tryz.call237 (.seq .leaf (.seq .leaf (.seq .leaf (.seq (.seq .leaf (.cond (.seq .leaf (.frz [(6,.u false)])) .leaf)) (.seq .leaf (.seq (.seq .leaf (.cond (.seq .leaf (.frz [(6,.u false)])) .leaf)) (.seq .leaf (.seq .leaf (.seq (.frz [(8,.u false),(9,.u false)]) .leaf))))))))) ⟨lf,lf,lf,⟨lf,⟨lf,trivial⟩,lf⟩,lf,⟨lf,⟨lf,trivial⟩,lf⟩,lf,lf,trivial,lf⟩ (hk fun _=>by kernel_rfl)
abbrev Qqb:FnE:={f:=288,args:=[.str,.int .u8],res:=[.slice 9 (.str)],F:=fun xs=>Zv0 xs.1 xs.2.1}
theorem Qoo:okE Qqb:=
 ofE Zf Zc Tryz.func288 Tryz.call288 (.seq .leaf (.seq .leaf (.seq .leaf (.seq (.seq .leaf (.block (.loop Qhw (fun N v=>Zis N v.1 v.2.1 v.2.2.1 v.2.2.2.1 v.2.2.2.2.1) (fun v=>Zm2 v.1 v.2.1 v.2.2.1 v.2.2.2.1 v.2.2.2.2.1) (fun K1=>(.seq .leaf (.join Qhv (fun v=>Zlv K1 v.1 v.2.1 v.2.2.1 v.2.2.2.1 v.2.2.2.2.1) .leaf .leaf)))))) .leaf)))) ⟨lf,lf,lf,⟨lf,fun _=>rfl,fun N=>⟨(fun v=>by kernel_rfl),lf,lf,(fun v=>by kernel_rfl),lf⟩⟩,lf⟩ (hk fun _=>by kernel_rfl)
abbrev Qm3:FnE:={f:=289,args:=[.str],res:=[.str],F:=fun xs=>Ztk xs.1}
theorem Qkx:okE Qm3:=
 ofE Zf Zc Tryz.func289 Tryz.call289 (.seq .leaf (.seq (.block (.loop Qd9 (fun N v=>Zkc N v.1) (fun v=>Zlw v.1) (fun K1=> .leaf))) (.seq (.block (.loop Qea (fun N v=>Zkd N v.1) (fun v=>Zlx v.1) (fun K2=> .leaf))) .leaf))) ⟨lf,⟨fun _=>rfl,fun N=>⟨(fun v=>by kernel_rfl),lf⟩⟩,⟨fun _=>rfl,fun N=>⟨(fun v=>by kernel_rfl),lf⟩⟩,lf⟩ (hk fun _=>by kernel_rfl)
abbrev Z13:FnE:={f:=268,args:=[Yz,.str],res:=[Yz],F:=fun xs=>Zjn xs.1 xs.2.1}
theorem Z0w:okE Z13:=
 ofE (Za Zof (Za Zor (Za Qoo (Za Qkx Zf)))) Zc Tryz.func268 Tryz.call268 (.seq .leaf (.join Zx2 (fun v=>Zbl v.1 v.2.1 v.2.2.1) .leaf (.seq .leaf (.seq (.seq .leaf (.block (.loop Zx4 (fun N v=>Yc N v.1 v.2.1 v.2.2.1 v.2.2.2.1) (fun v=>Zeq v.1 v.2.1 v.2.2.1 v.2.2.2.1) (fun K1=>(.seq .leaf (.join Zx3 (fun v=>Jc K1 v.1 v.2.1 v.2.2.1 v.2.2.2.1) .leaf .leaf)))))) .leaf)))) ⟨lf,lf,(fun v=>by kernel_rfl),lf,⟨lf,fun _=>rfl,fun N=>⟨(fun v=>by kernel_rfl),lf,lf,(fun v=>by kernel_rfl),lf⟩⟩,lf⟩ (hk fun _=>by kernel_rfl)
abbrev Z8a:FnE:={f:=238,args:=[Zp,.int .i64,.str],res:=[Zp,.bool],F:=fun xs=>Zd4 xs.1 xs.2.1 xs.2.2.1}
theorem Z53:okE Z8a:=
 ofE (Za Q4 (Za Xg (Za Jz (Za Z0w (Za Yp Zf))))) Zc Tryz.func238 Tryz.call238 .leaf lf (hk fun _=>by kernel_rfl)
abbrev Qfp:FnE:={f:=311,args:=[Yf],res:=[.bool],F:=fun xs=>Zik xs.1}
theorem Zpp:okE Qfp:=
 ofE (Za Zh3 Zf) Zc Tryz.func311 Tryz.call311 .leaf lf (hk fun _=>by kernel_rfl)
abbrev Z75:FnE:={f:=312,args:=[Yf,.int .i64,.int .i64],res:=[Yf,.bool],F:=fun xs=>Zir xs.1 xs.2.1 xs.2.2.1}
theorem Zs3:okE Z75:=
 ofE (Za Zpp (Za Yq Zf)) Zc Tryz.func312 Tryz.call312 (.seq .leaf (.seq .leaf (.join Z1a (fun v=>Zhd v.1 v.2.1 v.2.2.1) .leaf .leaf))) ⟨lf,lf,lf,(fun v=>by kernel_rfl),lf⟩ (hk fun _=>by kernel_rfl)
abbrev Qkl:FnE:={f:=290,args:=[Zp],res:=[Yf,.bool],F:=fun xs=>Znk xs.1}
theorem Zxg:okE Qkl:=
 ofE (Za Zpp (Za Zs3 Zf)) Zc Tryz.func290 Tryz.call290 .leaf lf (hk fun _=>by kernel_rfl)
abbrev Qfo:FnE:={f:=313,args:=[Qu],res:=[.bool],F:=fun xs=>Zlt xs.1}
theorem Zvp:okE Qfo:=
 ofE (Za Znq Zf) Zc Tryz.func313 Tryz.call313 .leaf lf (hk fun _=>by kernel_rfl)
abbrev Qby:FnE:={f:=314,args:=[Qu],res:=[Qu,.bool],F:=fun xs=>Zn2 xs.1}
theorem Z9g:okE Qby:=
 ofE (Za Zvp Zf) Zc Tryz.func314 Tryz.call314 .leaf lf (hk fun _=>by kernel_rfl)
abbrev Qkj:FnE:={f:=291,args:=[Qu,.bool],res:=[Qu,.bool],F:=fun xs=>Zgx xs.1 xs.2.1}
theorem Zxf:okE Qkj:=
 ofE (Za Zvp (Za Z9g Zf)) Zc Tryz.func291 Tryz.call291 .leaf lf (hk fun _=>by kernel_rfl)
abbrev Qf6:FnE:={f:=315,args:=[Zp,Zu],res:=[Yf,.bool],F:=fun xs=>Zl3 xs.1 xs.2.1}
theorem Zvt:okE Qf6:=
 ofE (Za Zpp (Za Zs3 Zf)) Zc Tryz.func315 Tryz.call315 .leaf lf (hk fun _=>by kernel_rfl)
abbrev Qj5:FnE:={f:=293,args:=[Qu],res:=[.bool],F:=fun xs=>Zng xs.1}
theorem Zxc:okE Qj5:=
 ofE (Za Wk Zf) Zc Tryz.func293 Tryz.call293 .leaf lf (hk fun _=>by kernel_rfl)
abbrev Qf5:FnE:={f:=292,args:=[Zp,Zu],res:=[.slice 39 (Zx)],F:=fun xs=>Zp8 xs.1 xs.2.1}
theorem Qdp:okE Qf5:=
 ofE (Za Zvt (Za Zxc Zf)) Zc Tryz.func292 Tryz.call292 (.seq .leaf (.seq .leaf (.join Z6l (fun v=>Zge v.1 v.2.1 v.2.2.1) .leaf (.join Z6m (fun v=>Zgf v.1 v.2.1 v.2.2.1) .leaf (.seq .leaf (.join Z6n (fun v=>Zgg v.1 v.2.1) .leaf .leaf)))))) ⟨lf,lf,lf,(fun v=>by kernel_rfl),lf,(fun v=>by kernel_rfl),lf,lf,(fun v=>by kernel_rfl),lf⟩ (hk fun _=>by kernel_rfl)
abbrev Z10:FnE:={f:=269,args:=[Zp],res:=[.slice 39 (Zx)],F:=fun xs=>Zjj xs.1}
theorem Z0u:okE Z10:=
 ofE (Za Jz (Za Zxg (Za Zxf (Za Qdp (Za Zxc Zf))))) Zc Tryz.func269 Tryz.call269 (.seq .leaf (.seq .leaf (.seq .leaf (.seq .leaf (.join Zxu (fun v=>Zbb v.1 v.2.1) .leaf (.seq .leaf (.join Zxv (fun v=>Zbc v.1 v.2.1) .leaf (.seq .leaf (.join Zxw (fun v=>Zbd v.1 v.2.1) .leaf (.seq (.seq .leaf (.block (.loop Zxz (fun N v=>Zbg N v.1 v.2.1 v.2.2.1) (fun v=>Zel v.1 v.2.1 v.2.2.1) (fun K1=> .leaf)))) (.join Zxx (fun v=>Zbe v.1 v.2.1) .leaf (.join Zxy (fun v=>Zbf v.1 v.2.1) .leaf .leaf)))))))))))) ⟨lf,lf,lf,lf,lf,(fun v=>by kernel_rfl),lf,lf,(fun v=>by kernel_rfl),lf,lf,(fun v=>by kernel_rfl),⟨lf,fun _=>rfl,fun N=>⟨(fun v=>by kernel_rfl),lf⟩⟩,lf,(fun v=>by kernel_rfl),lf,(fun v=>by kernel_rfl),lf⟩ (hk fun _=>by kernel_rfl)
abbrev Qkf:FnE:={f:=329,args:=[.int .i64],res:=[.int .i64],F:=fun xs=>Zni xs.1}
theorem Zxe:okE Qkf:=
 ofE Zf Zc Tryz.func329 Tryz.call329 .leaf lf (hk fun _=>by kernel_rfl)
abbrev Z7u:FnE:={f:=218,args:=[.int .i64,.int .i64],res:=[.str],F:=fun xs=>Zmg xs.1 xs.2.1}
theorem Z5u:okE Z7u:=
 ofE (Za Yq Zf) Zc Tryz.func218 Tryz.call218 (.seq .leaf (.seq .leaf (.seq .leaf (.seq (.seq .leaf (.block (.loop Z0x (fun N v=>Y6 N v.1 v.2.1 v.2.2.1 v.2.2.2.1) (fun v=>Zne v.1 v.2.1 v.2.2.1 v.2.2.2.1) (fun K1=> .leaf)))) .leaf)))) ⟨lf,lf,lf,⟨lf,fun _=>rfl,fun N=>⟨(fun v=>by kernel_rfl),lf⟩⟩,lf⟩ (hk fun _=>by kernel_rfl)
abbrev Qqh:FnE:={f:=179,args:=[.int .i64],res:=[.str],F:=fun xs=>Zi6 xs.1}
theorem Zui:okE Qqh:=
 ofE (Za Z5u Zf) Zc Tryz.func179 Tryz.call179 .leaf lf (hk fun _=>by kernel_rfl)
abbrev Qbg:FnE:={f:=330,args:=[.int .i64],res:=[.str],F:=fun xs=>Znw xs.1}
theorem Z84:okE Qbg:=
 ofE (Za Zxe (Za Zui Zf)) Zc Tryz.func330 Tryz.call330 (.seq .leaf (.seq .leaf (.seq .leaf (.seq (.seq .leaf (.block (.loop Z3e (fun N v=>X8 N v.1 v.2.1 v.2.2.1 v.2.2.2.1) (fun v=>Zie v.1 v.2.1 v.2.2.1 v.2.2.2.1) (fun K1=>(.seq .leaf (.seq (.block (.seq .leaf (.join Z3d (fun v=>Ju K1 v.1 v.2.1 v.2.2.1 v.2.2.2.1 v.2.2.2.2.1) .leaf .leaf))) .leaf)))))) .leaf)))) ⟨lf,lf,lf,⟨lf,fun _=>rfl,fun N=>⟨(fun v=>by kernel_rfl),lf,⟨lf,lf,(fun v=>by kernel_rfl),lf⟩,lf⟩⟩,lf⟩ (hk fun _=>by kernel_rfl)
abbrev Z7w:FnE:={f:=316,args:=[.slice 3 (.int .i64)],res:=[.str],F:=fun xs=>X5 xs.1}
theorem Z5v:okE Z7w:=
 ofE (Za Zxe (Za Z84 Zf)) Zc Tryz.func316 Tryz.call316 (.seq .leaf (.seq .leaf (.seq (.seq .leaf (.block (.loop Z02 (fun N v=>Zde N v.1 v.2.1 v.2.2.1) (fun v=>Zgq v.1 v.2.1 v.2.2.1) (fun K1=> .leaf)))) .leaf))) ⟨lf,lf,⟨lf,fun _=>rfl,fun N=>⟨(fun v=>by kernel_rfl),lf⟩⟩,lf⟩ (hk fun _=>by kernel_rfl)
abbrev Z7v:FnE:={f:=294,args:=[Zx],res:=[.str],F:=fun xs=>Zid xs.1}
theorem Zsz:okE Z7v:=
 ofE (Za Zfd (Za Z5v Zf)) Zc Tryz.func294 Tryz.call294 (.seq .leaf (.seq .leaf (.seq (.seq .leaf (.block (.seq .leaf (.cond .leaf (.seq .leaf (.cond .leaf (.seq .leaf (.cond (.seq .leaf (.join Z0y (fun v=>Zg8 v.1 v.2.1) .leaf .leaf)) (.join Z0z (fun v=>Zg9 v.1 v.2.1 v.2.2.1) .leaf (.cond .leaf (.join Z00 (fun v=>Zha v.1 v.2.1) .leaf .leaf))))))))))) (.seq .leaf (.join Z01 (fun v=>Zhb v.1 v.2.1) .leaf .leaf))))) ⟨lf,lf,⟨lf,lf,lf,lf,lf,lf,⟨lf,lf,(fun v=>by kernel_rfl),lf⟩,lf,(fun v=>by kernel_rfl),lf,lf,(fun v=>by kernel_rfl),lf⟩,lf,lf,(fun v=>by kernel_rfl),lf⟩ (hk fun _=>by kernel_rfl)
abbrev Qfl:FnE:={f:=270,args:=[Zx],res:=[.int .i64],F:=fun xs=>Zeo xs.1}
theorem Zpn:okE Qfl:=
 ofE (Za Zsz Zf) Zc Tryz.func270 Tryz.call270 .leaf lf (hk fun _=>by kernel_rfl)
abbrev Z47:FnE:={f:=295,args:=[Qu],res:=[Qu],F:=fun xs=>Zf0 xs.1}
theorem Zru:okE Z47:=
 ofE (Za Wk Zf) Zc Tryz.func295 Tryz.call295 .leaf lf (hk fun _=>by kernel_rfl)
abbrev Qng:FnB:={f:=296,args:=[.sh (Zp),.sh (Zu),.sh (.int .i64)],res:= .shr [Zu],F:=fun xs=>Zmo xs.1 xs.2.1 xs.2.2.1}
theorem Qk2:okB Qng:=
 ofB [] (Za Zvt (Za Zru Zf)) Zc Tryz.func296 Tryz.call296 .leaf lf (hk fun _=>by kernel_rfl)
abbrev Z72:FnE:={f:=271,args:=[Zp,Zx],res:=[Zp],F:=fun xs=>Zd1 xs.1 xs.2.1}
theorem Z5y:okE Z72:=
 ofE (Za Q4 (Za W9 (Za Zxg (Za Zxf (Za Zru (Za Xg (Za Yp Zf))))))) (Zt Qk2 Zc) Tryz.func271 Tryz.call271 (.seq .leaf (.seq .leaf (.seq .leaf (.seq (.seq .leaf (.block (.seq .leaf (.cond .leaf (.seq .leaf (.cond .leaf (.seq .leaf (.cond .leaf (.seq .leaf (.cond .leaf (.seq .leaf (.seq .leaf (.cond (.frz [(12,.u false)]) .leaf))))))))))))) .leaf)))) ⟨lf,lf,lf,⟨lf,lf,lf,lf,lf,lf,lf,lf,lf,lf,lf,trivial,lf⟩,lf⟩ (hk fun _=>by kernel_rfl)
abbrev Qb4:FnE:={f:=297,args:=[Zp],res:=[.slice 288 (Xe)],F:=fun xs=>Zn4 xs.1}
theorem Z9k:okE Qb4:=
 ofE Zf Zc Tryz.func297 Tryz.call297 (.seq .leaf (.seq .leaf (.seq (.seq .leaf (.block (.loop Z3z (fun N v=>Wd N v.1 v.2.1 v.2.2.1) (fun v=>Ziv v.1 v.2.1 v.2.2.1) (fun K1=>(.seq .leaf (.join Z3y (fun v=>Zew K1 v.1 v.2.1 v.2.2.1) .leaf .leaf)))))) .leaf))) ⟨lf,lf,⟨lf,fun _=>rfl,fun N=>⟨(fun v=>by kernel_rfl),lf,lf,(fun v=>by kernel_rfl),lf⟩⟩,lf⟩ (hk fun _=>by kernel_rfl)
abbrev Qb5:FnE:={f:=298,args:=[.slice 288 (Xe),.int .i64],res:=[.slice 288 (Xe)],F:=fun xs=>Zn5 xs.1 xs.2.1}
theorem Z9l:okE Qb5:=
 ofE Zf Zc Tryz.func298 Tryz.call298 (.seq .leaf (.seq .leaf (.seq (.seq .leaf (.block (.loop Z31 (fun N v=>We N v.1 v.2.1 v.2.2.1 v.2.2.2.1) (fun v=>Ziw v.1 v.2.1 v.2.2.1 v.2.2.2.1) (fun K1=>(.seq .leaf (.join Z30 (fun v=>Zex K1 v.1 v.2.1 v.2.2.1 v.2.2.2.1) .leaf .leaf)))))) .leaf))) ⟨lf,lf,⟨lf,fun _=>rfl,fun N=>⟨(fun v=>by kernel_rfl),lf,lf,(fun v=>by kernel_rfl),lf⟩⟩,lf⟩ (hk fun _=>by kernel_rfl)
abbrev Z1z:FnE:={f:=331,args:=[.slice 288 (Xe)],res:=[.bool],F:=fun xs=>Zji xs.1}
theorem Z0t:okE Z1z:=
 ofE (Za Q1 (Za Zof Zf)) Zc Tryz.func331 Tryz.call331 (.seq .leaf (.seq (.seq .leaf (.block (.loop Zxt (fun N v=>Zba N v.1 v.2.1) (fun v=>Zek v.1 v.2.1) (fun K1=> .leaf)))) .leaf)) ⟨lf,⟨lf,fun _=>rfl,fun N=>⟨(fun v=>by kernel_rfl),lf⟩⟩,lf⟩ (hk fun _=>by kernel_rfl)
abbrev Qbu:FnE:={f:=317,args:=[.slice 288 (Xe)],res:=[.slice 3 (.int .i64)],F:=fun xs=>Zn0 xs.1}
theorem Z9d:okE Qbu:=
 ofE (Za Z0t Zf) Zc Tryz.func317 Tryz.call317 (.seq .leaf (.seq .leaf (.seq .leaf (.seq (.seq .leaf (.block (.loop Z3p (fun N v=>Jw N v.1 v.2.1 v.2.2.1 v.2.2.2.1) (fun v=>Zij v.1 v.2.1 v.2.2.1 v.2.2.2.1) (fun K1=>(.seq .leaf (.join Z3n (fun v=>Zer K1 v.1 v.2.1 v.2.2.1 v.2.2.2.1) (.block (.join Z3o (fun v=>Zes K1 v.1 v.2.1 v.2.2.1 v.2.2.2.1) .leaf .leaf)) .leaf)))))) .leaf)))) ⟨lf,lf,lf,⟨lf,fun _=>rfl,fun N=>⟨(fun v=>by kernel_rfl),lf,⟨lf,(fun v=>by kernel_rfl),lf⟩,(fun v=>by kernel_rfl),lf⟩⟩,lf⟩ (hk fun _=>by kernel_rfl)
abbrev Qkh:FnE:={f:=318,args:=[.slice 3 (.int .i64),.int .i64],res:=[.int .i64],F:=fun xs=>Zre xs.1 xs.2.1}
theorem Qhe:okE Qkh:=
 ofE Zf Zc Tryz.func318 Tryz.call318 (.seq .leaf (.seq (.seq .leaf (.block (.loop Qae (fun N v=>Zit N v.1 v.2.1 v.2.2.1) (fun v=>Zkr v.1 v.2.1 v.2.2.1) (fun K1=> .leaf)))) .leaf)) ⟨lf,⟨lf,fun _=>rfl,fun N=>⟨(fun v=>by kernel_rfl),lf⟩⟩,lf⟩ (hk fun _=>by kernel_rfl)
abbrev Qbv:FnE:={f:=299,args:=[.slice 288 (Xe),.int .i64],res:=[.int .i64],F:=fun xs=>Zn1 xs.1 xs.2.1}
theorem Z9e:okE Qbv:=
 ofE (Za Z9d (Za Qhe Zf)) Zc Tryz.func299 Tryz.call299 (.seq .leaf (.seq .leaf (.seq .leaf (.seq (.seq .leaf (.block (.loop Z3r (fun N v=>Jx N v.1 v.2.1 v.2.2.1 v.2.2.2.1 v.2.2.2.2.1) (fun v=>Zil v.1 v.2.1 v.2.2.1 v.2.2.2.1 v.2.2.2.2.1) (fun K1=>(.seq .leaf (.seq (.block (.seq .leaf (.block (.loop Z3s (fun N v=>V9 K1 N v.1 v.2.1 v.2.2.1 v.2.2.2.1 v.2.2.2.2.1 v.2.2.2.2.2.1) (fun v=>Zim v.1 v.2.1 v.2.2.1 v.2.2.2.1 v.2.2.2.2.1 v.2.2.2.2.2.1) (fun K2=>(.seq .leaf (.join Z3q (fun v=>Zet K1 K2 v.1 v.2.1 v.2.2.1 v.2.2.2.1 v.2.2.2.2.1 v.2.2.2.2.2.1) .leaf .leaf))))))) .leaf)))))) .leaf)))) ⟨lf,lf,lf,⟨lf,fun _=>rfl,fun N=>⟨(fun v=>by kernel_rfl),lf,⟨lf,fun _=>rfl,fun N=>⟨(fun v=>by kernel_rfl),lf,lf,(fun v=>by kernel_rfl),lf⟩⟩,lf⟩⟩,lf⟩ (hk fun _=>by kernel_rfl)
abbrev Qbe:FnE:={f:=319,args:=[Qu],res:=[.int .i64],F:=fun xs=>Znv xs.1}
theorem Z82:okE Qbe:=
 ofE (Za Wk Zf) Zc Tryz.func319 Tryz.call319 .leaf lf (hk fun _=>by kernel_rfl)
abbrev Qkb:FnE:={f:=332,args:=[Vj,.int .i64,.int .i64],res:=[.str,.bool],F:=fun xs=>Zrc xs.1 xs.2.1 xs.2.2.1}
theorem Qha:okE Qkb:=
 ofE (Za Zpo (Za Zui Zf)) Zc Tryz.func332 Tryz.call332 (.seq .leaf (.seq .leaf (.seq .leaf (.seq (.seq .leaf (.block (.loop Qac (fun N v=>Zip N v.1 v.2.1 v.2.2.1 v.2.2.2.1 v.2.2.2.2.1) (fun v=>Ze4 v.1 v.2.1 v.2.2.1 v.2.2.2.1 v.2.2.2.2.1) (fun K1=> .leaf)))) .leaf)))) ⟨lf,lf,lf,⟨lf,fun _=>rfl,fun N=>⟨(fun v=>by kernel_rfl),lf⟩⟩,lf⟩ (hk fun _=>by kernel_rfl)
abbrev Qfu:FnE:={f:=320,args:=[Z4,.int .i64,.int .i64],res:=[Zb5,.bool],F:=fun xs=>Zp3 xs.1 xs.2.1 xs.2.2.1}
theorem Qdg:okE Qfu:=
 ofE (Za J5 (Za Qha Zf)) Zc Tryz.func320 Tryz.call320 (.seq .leaf (.seq .leaf (.seq .leaf (.seq (.seq .leaf (.cond (.seq .leaf (.seq .leaf (.seq .leaf (.join Z6c (fun v=>Zf8 v.1 v.2.1 v.2.2.1 v.2.2.2.1 v.2.2.2.2.1) .leaf .leaf)))) .leaf)) .leaf)))) ⟨lf,lf,lf,⟨lf,⟨lf,lf,lf,lf,(fun v=>by kernel_rfl),lf⟩,lf⟩,lf⟩ (hk fun _=>by kernel_rfl)
abbrev Qbx:FnE:={f:=303,args:=[.int .i64,Zb5],res:=[Zx],F:=fun xs=>Zss xs.1 xs.2.1}
theorem Zug:okE Qbx:=
 ofE Zf Zc Tryz.func303 Tryz.call303 .leaf lf (hk fun _=>by kernel_rfl)
abbrev Qkc:FnE:={f:=300,args:=[Zp,.int .i64,.int .i64],res:=[Zb5,.bool],F:=fun xs=>Zrd xs.1 xs.2.1 xs.2.2.1}
theorem Qhb:okE Qkc:=
 ofE (Za Xg (Za W9 (Za Z82 (Za Qdg (Za Zug (Za Zpn Zf)))))) Zc Tryz.func300 Tryz.call300 (.seq .leaf (.seq .leaf (.seq .leaf (.seq .leaf (.seq (.seq .leaf (.block (.loop Qad (fun N v=>Ziq N v.1 v.2.1 v.2.2.1 v.2.2.2.1 v.2.2.2.2.1 v.2.2.2.2.2.1) (fun v=>Zkq v.1 v.2.1 v.2.2.1 v.2.2.2.1 v.2.2.2.2.1 v.2.2.2.2.2.1) (fun K1=> .leaf)))) .leaf))))) ⟨lf,lf,lf,lf,⟨lf,fun _=>rfl,fun N=>⟨(fun v=>by kernel_rfl),lf⟩⟩,lf⟩ (hk fun _=>by kernel_rfl)
abbrev Z74:FnE:={f:=321,args:=[Qu],res:=[Qu],F:=fun xs=>Zin xs.1}
theorem Z50:okE Z74:=
 ofE (Za Wk Zf) Zc Tryz.func321 Tryz.call321 .leaf lf (hk fun _=>by kernel_rfl)
abbrev Qkk:FnB:={f:=301,args:=[.bx 37 (Zp) (.u true),.sh (.int .i64)],res:= .vals [],F:=fun xs=>Zkh xs.1 xs.2.1}
theorem Qhg:okB Qkk:=
 ofB [0] (Za Xg (Za Z50 (Za Yp Zf))) Zc Tryz.func301 Tryz.call301 .leaf lf (hk fun _=>by kernel_rfl)
abbrev Qno:FnE:={f:=324,args:=[Z4,Zb5],res:=[.bool],F:=fun xs=>Zp9 xs.1 xs.2.1}
theorem Zsl:okE Qno:=
 ofE Zf Zc Tryz.func324 Tryz.call324 .leaf lf (hk fun _=>by kernel_rfl)
abbrev Qnp:FnE:={f:=326,args:=[Zb5],res:=[Zw],F:=fun xs=>Zms xs.1}
theorem Zsm:okE Qnp:=
 ofE Zf Zc Tryz.func326 Tryz.call326 .leaf lf (hk fun _=>by kernel_rfl)
abbrev Z48:FnE:={f:=325,args:=[.slice 167 (Zw),.slice 167 (Zw)],res:=[.slice 167 (Zw)],F:=fun xs=>Zcq xs.1 xs.2.1}
theorem Zlh:okE Z48:=
 ofE (Za Zdx Zf) Zc Tryz.func325 Tryz.call325 (.seq .leaf (.seq .leaf (.seq (.seq .leaf (.block (.loop Zzm (fun N v=>Jt N v.1 v.2.1 v.2.2.1 v.2.2.2.1) (fun v=>Za3 v.1 v.2.1 v.2.2.1 v.2.2.2.1) (fun K1=>(.seq .leaf (.seq (.block (.seq .leaf (.block (.loop Zzn (fun N v=>Wo K1 N v.1 v.2.1 v.2.2.1 v.2.2.2.1 v.2.2.2.2.1) (fun v=>Za4 v.1 v.2.1 v.2.2.1 v.2.2.2.1 v.2.2.2.2.1) (fun K2=>(.seq .leaf (.join Zzk (fun v=>Zf1 K1 K2 v.1 v.2.1 v.2.2.1 v.2.2.2.1 v.2.2.2.2.1) (.block (.join Zzl (fun v=>Zlp K1 K2 v.1 v.2.1 v.2.2.1 v.2.2.2.1 v.2.2.2.2.1 v.2.2.2.2.2.1) .leaf .leaf)) .leaf))))))) .leaf)))))) .leaf))) ⟨lf,lf,⟨lf,fun _=>rfl,fun N=>⟨(fun v=>by kernel_rfl),lf,⟨lf,fun _=>rfl,fun N=>⟨(fun v=>by kernel_rfl),lf,⟨lf,(fun v=>by kernel_rfl),lf⟩,(fun v=>by kernel_rfl),lf⟩⟩,lf⟩⟩,lf⟩ (hk fun _=>by kernel_rfl)
abbrev Z77:FnE:={f:=327,args:=[.slice 167 (Zw),Zw],res:=[.slice 167 (Zw)],F:=fun xs=>Zd2 xs.1 xs.2.1}
theorem Zm0:okE Z77:=
 ofE (Za Zdx (Za Zuk (Za Zuj Zf))) Zc Tryz.func327 Tryz.call327 (.seq .leaf (.seq .leaf (.seq .leaf (.seq (.seq .leaf (.block (.loop Z1f (fun N v=>Ja N v.1 v.2.1 v.2.2.1 v.2.2.2.1) (fun v=>Zb4 v.1 v.2.1 v.2.2.1 v.2.2.2.1) (fun K1=>(.seq .leaf (.join Z1d (fun v=>Zhe K1 v.1 v.2.1 v.2.2.1 v.2.2.2.1) (.block (.join Z1e (fun v=>Zdi K1 v.1 v.2.1 v.2.2.1 v.2.2.2.1) .leaf .leaf)) .leaf)))))) .leaf)))) ⟨lf,lf,lf,⟨lf,fun _=>rfl,fun N=>⟨(fun v=>by kernel_rfl),lf,⟨lf,(fun v=>by kernel_rfl),lf⟩,(fun v=>by kernel_rfl),lf⟩⟩,lf⟩ (hk fun _=>by kernel_rfl)
abbrev Qfy:FnE:={f:=322,args:=[Z4,Zb5],res:=[Z4,.bool],F:=fun xs=>Zp4 xs.1 xs.2.1}
theorem Qdj:okE Qfy:=
 ofE (Za Zb9 (Za J5 (Za Zsl (Za Zsm (Za Zlh (Za Zm0 (Za Zdw (Za Znt Zf)))))))) Zc Tryz.func322 Tryz.call322 (.seq .leaf (.seq .leaf (.seq .leaf (.join Z6g (fun v=>Zga v.1 v.2.1 v.2.2.1) .leaf (.join Z6h (fun v=>Zgb v.1 v.2.1) .leaf .leaf))))) ⟨lf,lf,lf,lf,(fun v=>by kernel_rfl),lf,(fun v=>by kernel_rfl),lf⟩ (hk fun _=>by kernel_rfl)
abbrev Qf1:FnE:={f:=323,args:=[Qu,.int .i64],res:=[Qu,.bool],F:=fun xs=>Zlu xs.1 xs.2.1}
theorem Qdm:okE Qf1:=
 ofE (Za Wk Zf) Zc Tryz.func323 Tryz.call323 .leaf lf (hk fun _=>by kernel_rfl)
abbrev Qfn:FnE:={f:=302,args:=[Zp,.int .i64,Zb5],res:=[Zp,.bool],F:=fun xs=>Zii xs.1 xs.2.1 xs.2.2.1}
theorem Qde:okE Qfn:=
 ofE (Za Q4 (Za Xg (Za W9 (Za Qdj (Za Qdm (Za Yp Zf)))))) Zc Tryz.func302 Tryz.call302 .leaf lf (hk fun _=>by kernel_rfl)
abbrev Qnh:FnB:={f:=272,args:=[.bx 37 (Zp) (.u true),.mv (.slice 39 (Zx)),.sh (.int .i64)],res:= .vals [.slice 39 (Zx)],F:=fun xs=>Zp7 xs.1 xs.2.1 xs.2.2.1}
theorem Qk3:okB Qnh:=
 ofB [0] (Za Z9k (Za Z9l (Za Z9e (Za Qhb (Za Qde (Za Zug (Za Zpn Zf))))))) (Zt Qhg Zc) Tryz.func272 Tryz.call272 (.seq .leaf (.seq .leaf (.seq (.seq .leaf (.block (.loop Qei (fun N v=>J0 N v.1 v.2.1 v.2.2.1 v.2.2.2.1 v.2.2.2.2.1) (fun v=>Zl1 v.1 v.2.1 v.2.2.1 v.2.2.2.1 v.2.2.2.2.1) (fun K1=>(.seq .leaf (.join Qeg (fun v=>Zc1 K1 v.1 v.2.1 v.2.2.1 v.2.2.2.1 v.2.2.2.2.1) (.block (.seq .leaf (.seq (.seq .leaf (.block (.loop Qej (fun N v=>Zc2 K1 N v.1 v.2.1 v.2.2.1 v.2.2.2.1 v.2.2.2.2.1 v.2.2.2.2.2.1 v.2.2.2.2.2.2.1) (fun v=>Zl2 v.1 v.2.1 v.2.2.1 v.2.2.2.1 v.2.2.2.2.1 v.2.2.2.2.2.1 v.2.2.2.2.2.2.1) (fun K2=> .leaf)))) (.seq .leaf (.seq .leaf (.seq .leaf (.seq .leaf (.join Qeh (fun v=>Zfn K1 v.1 v.2.1 v.2.2.1 v.2.2.2.1 v.2.2.2.2.1 v.2.2.2.2.2.1 v.2.2.2.2.2.2.1 v.2.2.2.2.2.2.2.1 v.2.2.2.2.2.2.2.2.1) .leaf .leaf)))))))) .leaf)))))) .leaf))) ⟨lf,lf,⟨lf,fun _=>rfl,fun N=>⟨(fun v=>by kernel_rfl),lf,⟨lf,⟨lf,fun _=>rfl,fun N=>⟨(fun v=>by kernel_rfl),lf⟩⟩,lf,lf,lf,lf,lf,(fun v=>by kernel_rfl),lf⟩,(fun v=>by kernel_rfl),lf⟩⟩,lf⟩ (hk fun _=>by kernel_rfl)
abbrev Z11:FnE:={f:=273,args:=[.slice 39 (Zx)],res:=[.str],F:=fun xs=>Zjk xs.1}
theorem Z0v:okE Z11:=
 ofE (Za Zsz Zf) Zc Tryz.func273 Tryz.call273 (.seq .leaf (.seq .leaf (.seq (.seq .leaf (.block (.loop Zx0 (fun N v=>Zbh N v.1 v.2.1 v.2.2.1) (fun v=>Zem v.1 v.2.1 v.2.2.1) (fun K1=> .leaf)))) .leaf))) ⟨lf,lf,⟨lf,fun _=>rfl,fun N=>⟨(fun v=>by kernel_rfl),lf⟩⟩,lf⟩ (hk fun _=>by kernel_rfl)
abbrev Qbf:FnB:={f:=239,args:=[.sh (Zp),.sh (.int .i64)],res:= .shr [.str,.int .i64,Zp],F:=fun xs=>Zfh xs.1 xs.2.1}
theorem Z83:okB Qbf:=
 ofB [] (Za Q4 (Za Jz (Za Yq (Za Z0u (Za Zpn (Za Z5y (Za Z0v Zf))))))) (Zt Qk3 Zc) Tryz.func239 Tryz.call239 (.seq .leaf (.seq .leaf (.seq (.seq .leaf (.cond (.seq .leaf (.frz [(6,.u false)])) .leaf)) (.seq .leaf (.seq .leaf (.seq .leaf (.seq (.seq .leaf (.block (.loop Z3c (fun N v=>Yy N v.1 v.2.1 v.2.2.1 v.2.2.2.1 v.2.2.2.2.1 v.2.2.2.2.2.1 v.2.2.2.2.2.2.1) (fun v=>Zic v.1 v.2.1 v.2.2.1 v.2.2.2.1 v.2.2.2.2.1 v.2.2.2.2.2.1 v.2.2.2.2.2.2.1) (fun K1=>(.seq .leaf (.join Z3b (fun v=>V5 K1 v.1 v.2.1 v.2.2.1 v.2.2.2.1 v.2.2.2.2.1 v.2.2.2.2.2.1 v.2.2.2.2.2.2.1) .leaf .leaf)))))) (.seq .leaf (.seq (.seq .leaf (.cond (.seq .leaf (.frz [(6,.u false)])) .leaf)) (.seq (.frz [(8,.u false)]) (.seq .leaf (.seq .leaf (.frz [(6,.u false)]))))))))))))) ⟨lf,lf,⟨lf,⟨lf,trivial⟩,lf⟩,lf,lf,lf,⟨lf,fun _=>rfl,fun N=>⟨(fun v=>by kernel_rfl),lf,lf,(fun v=>by kernel_rfl),lf⟩⟩,lf,⟨lf,⟨lf,trivial⟩,lf⟩,trivial,lf,lf,trivial⟩ (hk fun _=>by kernel_rfl)
abbrev Qf4:FnB:={f:=65,args:=[.bx 148 (Zct) (.u false),.sh (.slice 3 (.int .i64))],res:= .vals [.int .i64],F:=fun xs=>Ya xs.1 xs.2.1}
theorem Zfv:okB Qf4:=
 ofB [0] Zf (Zt Kv Zc) Tryz.func65 Tryz.call65 .leaf lf (hk fun _=>by kernel_rfl)
abbrev Qnl:FnB:={f:=75,args:=[.bx 148 (Zct) (.u false)],res:= .vals [Zx],F:=fun xs=>Zmr xs.1}
theorem Zsj:okB Qnl:=
 ofB [0] (Za Zum Zf) (Zt Zfv (Zt Kv (Zt Zul (Zt Zpq Zc)))) Tryz.func75 Tryz.call75 .leaf lf (hk fun _=>by kernel_rfl)
abbrev Qmw:FnE:={f:=117,args:=[.int .i64],res:=[.int .i64],F:=fun xs=>Zjl xs.1}
theorem Qku:okE Qmw:=
 ofE (Za Q1 Zf) Zc Tryz.func117 Tryz.call117 .leaf lf (hk fun _=>by kernel_rfl)
abbrev Qke:FnE:={f:=116,args:=[Qu,.int .i64],res:=[Qu,.int .i64,.bool],F:=fun xs=>Zgv xs.1 xs.2.1}
theorem Qhd:okE Qke:=
 ofE (Za Znq Zf) Zc Tryz.func116 Tryz.call116 .leaf lf (hk fun _=>by kernel_rfl)
abbrev Qm7:FnB:={f:=118,args:=[.bx 37 (Zp) (.u true),.sh (.int .i64),.sh (.int .i64)],res:= .vals [],F:=fun xs=>Zmm xs.1 xs.2.1 xs.2.2.1}
theorem Qkz:okB Qm7:=
 ofB [0] (Za Zvr (Za Yp Zf)) Zc Tryz.func118 Tryz.call118 (.seq .leaf (.block (.loop Qed (fun N v=>Y9 N v.1 v.2.1 v.2.2.1) (fun v=>Zgc v.1 v.2.1 v.2.2.1) (fun K1=>(.seq .leaf (.seq (.block (.join Qec (fun v=>Zfm K1 v.1 v.2.1 v.2.2.1 v.2.2.2.1) .leaf .leaf)) .leaf)))))) ⟨lf,fun _=>rfl,fun N=>⟨(fun v=>by kernel_rfl),lf,⟨lf,(fun v=>by kernel_rfl),lf⟩,lf⟩⟩ (hk fun _=>by kernel_rfl)
abbrev Z5a:FnE:={f:=37,args:=[Zp,.int .i64],res:=[Zp,.int .i64],F:=fun xs=>Ys xs.1 xs.2.1}
theorem Zfu:okE Z5a:=
 ofE (Za Q4 (Za W9 (Za Q1 (Za Zoe (Za Zq4 (Za Znr (Za Qku (Za Qhd Zf)))))))) (Zt Qkz Zc) Tryz.func37 Tryz.call37 (.seq .leaf (.seq .leaf (.seq .leaf (.seq .leaf (.seq .leaf (.seq .leaf (.join Zzp (fun v=>Xa v.1 v.2.1 v.2.2.1 v.2.2.2.1 v.2.2.2.2.1) .leaf (.join Zzq (fun v=>Kl v.1 v.2.1 v.2.2.1 v.2.2.2.1 v.2.2.2.2.1 v.2.2.2.2.2.1 v.2.2.2.2.2.2.1) .leaf (.seq .leaf (.join Zzr (fun v=>Yt v.1 v.2.1 v.2.2.1 v.2.2.2.1) .leaf .leaf)))))))))) ⟨lf,lf,lf,lf,lf,lf,lf,(fun v=>by kernel_rfl),lf,(fun v=>by kernel_rfl),lf,lf,(fun v=>by kernel_rfl),lf⟩ (hk fun _=>by kernel_rfl)
abbrev Qnm:FnE:={f:=121,args:=[Z7,.int .i64,.bool],res:=[.int .i64],F:=fun xs=>Zjr xs.1 xs.2.1 xs.2.2.1}
theorem Z0a:okE Qnm:=
 ofE Zf Zc Tryz.func121 Tryz.call121 .leaf lf (hk fun _=>by kernel_rfl)
abbrev Z45:FnE:={f:=177,args:=[Qw],res:=[.slice 167 (Zw)],F:=fun xs=>Zk0 xs.1}
theorem Z2s:okE Z45:=
 ofE (Za Zh2 Zf) Zc Tryz.func177 Tryz.call177 (.seq .leaf (.seq .leaf (.seq (.seq .leaf (.block (.loop Zzj (fun N v=>Kj N v.1 v.2.1 v.2.2.1) (fun v=>Za2 v.1 v.2.1 v.2.2.1) (fun K1=> .leaf)))) .leaf))) ⟨lf,lf,⟨lf,fun _=>rfl,fun N=>⟨(fun v=>by kernel_rfl),lf⟩⟩,lf⟩ (hk fun _=>by kernel_rfl)
abbrev Qp4:FnE:={f:=178,args:=[Qw,.int .i64],res:=[.int .i64],F:=fun xs=>Zov xs.1 xs.2.1}
theorem Qok:okE Qp4:=
 ofE Zf Zc Tryz.func178 Tryz.call178 (.seq .leaf (.seq (.seq .leaf (.block (.loop Qhr (fun N v=>Zca N v.1 v.2.1 v.2.2.1) (fun v=>Zg5 v.1 v.2.1 v.2.2.1) (fun K1=> .leaf)))) .leaf)) ⟨lf,⟨lf,fun _=>rfl,fun N=>⟨(fun v=>by kernel_rfl),lf⟩⟩,lf⟩ (hk fun _=>by kernel_rfl)
abbrev Qbm:FnE:={f:=122,args:=[Qw,.int .i64,.str],res:=[Qw],F:=fun xs=>Zfi xs.1 xs.2.1 xs.2.2.1}
theorem Z87:okE Qbm:=
 ofE (Za Zh2 (Za Zun (Za Z2s (Za Zdw (Za Qok (Za Zui Zf)))))) Zc Tryz.func122 Tryz.call122 (.seq .leaf (.seq .leaf (.seq .leaf (.seq .leaf (.seq .leaf (.seq .leaf (.seq .leaf (.seq (.seq .leaf (.block (.loop Z3j (fun N v=>Kp N v.1 v.2.1 v.2.2.1 v.2.2.2.1 v.2.2.2.2.1 v.2.2.2.2.2.1 v.2.2.2.2.2.2.1) (fun v=>Jn v.1 v.2.1 v.2.2.1 v.2.2.2.1 v.2.2.2.2.1 v.2.2.2.2.2.1 v.2.2.2.2.2.2.1) (fun K1=>(.seq .leaf (.seq (.block (.seq .leaf (.seq (.seq .leaf (.block (.loop Z3k (fun N v=>Xr K1 N v.1 v.2.1 v.2.2.1 v.2.2.2.1 v.2.2.2.2.1 v.2.2.2.2.2.1 v.2.2.2.2.2.2.1 v.2.2.2.2.2.2.2.1 v.2.2.2.2.2.2.2.2.1) (fun v=>Jo v.1 v.2.1 v.2.2.1 v.2.2.2.1 v.2.2.2.2.1 v.2.2.2.2.2.1 v.2.2.2.2.2.2.1 v.2.2.2.2.2.2.2.1 v.2.2.2.2.2.2.2.2.1) (fun K2=>(.seq .leaf (.seq (.block (.seq .leaf (.join Z3i (fun v=>V6 K1 K2 v.1 v.2.1 v.2.2.1 v.2.2.2.1 v.2.2.2.2.1 v.2.2.2.2.2.1 v.2.2.2.2.2.2.1 v.2.2.2.2.2.2.2.1 v.2.2.2.2.2.2.2.2.1 v.2.2.2.2.2.2.2.2.2.1) .leaf .leaf))) .leaf)))))) .leaf))) .leaf)))))) .leaf)))))))) ⟨lf,lf,lf,lf,lf,lf,lf,⟨lf,fun _=>rfl,fun N=>⟨(fun v=>by kernel_rfl),lf,⟨lf,⟨lf,fun _=>rfl,fun N=>⟨(fun v=>by kernel_rfl),lf,⟨lf,lf,(fun v=>by kernel_rfl),lf⟩,lf⟩⟩,lf⟩,lf⟩⟩,lf⟩ (hk fun _=>by kernel_rfl)
abbrev Z76:FnE:={f:=39,args:=[Z7,.int .i64,.str,.bool],res:=[Z7,.int .i64],F:=fun xs=>Yn xs.1 xs.2.1 xs.2.2.1 xs.2.2.2.1}
theorem Z51:okE Z76:=
 ofE (Za Zpr (Za Zbq (Za Z0a (Za Z87 (Za Zog Zf))))) Zc Tryz.func39 Tryz.call39 (.seq .leaf (.seq .leaf (.seq .leaf (.seq .leaf (.seq .leaf (.seq .leaf (.seq .leaf (.join Z1b (fun v=>Y7 v.1 v.2.1 v.2.2.1 v.2.2.2.1 v.2.2.2.2.1) .leaf (.seq .leaf (.join Z1c (fun v=>Zdh v.1 v.2.1) .leaf .leaf)))))))))) ⟨lf,lf,lf,lf,lf,lf,lf,lf,(fun v=>by kernel_rfl),lf,lf,(fun v=>by kernel_rfl),lf⟩ (hk fun _=>by kernel_rfl)
abbrev Qj7:FnE:={f:=124,args:=[Z7,.int .i64],res:=[.int .i64],F:=fun xs=>Zkg xs.1 xs.2.1}
theorem Qg7:okE Qj7:=
 ofE (Za Zbq (Za Q1 Zf)) Zc Tryz.func124 Tryz.call124 .leaf lf (hk fun _=>by kernel_rfl)
abbrev Qkd:FnE:={f:=125,args:=[Yf,.int .i64],res:=[Yf,.bool],F:=fun xs=>Zgu xs.1 xs.2.1}
theorem Qhc:okE Qkd:=
 ofE (Za Zh3 Zf) Zc Tryz.func125 Tryz.call125 .leaf lf (hk fun _=>by kernel_rfl)
abbrev Qm9:FnB:={f:=40,args:=[.bx 37 (Zp) (.u false),.bx 72 (Zu) (.u false),.sh (.int .i64)],res:= .vals [.int .i64],F:=fun xs=>Zdq xs.1 xs.2.1 xs.2.2.1}
theorem Zz7:okB Qm9:=
 ofB [0,1] (Za Qg7 (Za Qhc Zf)) Zc Tryz.func40 Tryz.call40 .leaf lf (hk fun _=>by kernel_rfl)
abbrev Qbk:FnB:={f:=7,args:=[.sh (Zp),.sh (Zx)],res:= .shr [Zp,.int .i64],F:=fun xs=>Vv xs.1 xs.2.1}
theorem Zud:okB Qbk:=
 ofB [] (Za W9 (Za Zfd (Za Q4 (Za Zft (Za Zfu (Za Xg (Za Z51 Zf))))))) (Zt Zz7 (Zt Zfe Zc)) Tryz.func7 Tryz.call7 (.seq .leaf (.seq (.seq .leaf (.cond (.seq .leaf (.frz [(4,.u false)])) .leaf)) (.seq (.seq .leaf (.cond (.seq .leaf (.frz [(4,.u false)])) .leaf)) (.seq .leaf (.seq (.seq .leaf (.cond (.seq .leaf (.frz [(4,.u false)])) .leaf)) (.seq .leaf (.seq .leaf (.seq (.frz [(6,.u false),(8,.u false)]) (.seq (.seq .leaf (.cond (.seq .leaf (.frz [(4,.u false)])) .leaf)) (.seq (.seq .leaf (.cond (.seq .leaf (.frz [(4,.u false)])) .leaf)) (.seq .leaf (.seq (.frz [(8,.u false)]) .leaf)))))))))))) ⟨lf,⟨lf,⟨lf,trivial⟩,lf⟩,⟨lf,⟨lf,trivial⟩,lf⟩,lf,⟨lf,⟨lf,trivial⟩,lf⟩,lf,lf,trivial,⟨lf,⟨lf,trivial⟩,lf⟩,⟨lf,⟨lf,trivial⟩,lf⟩,lf,trivial,lf⟩ (hk fun _=>by kernel_rfl)
abbrev Z5g:FnE:={f:=45,args:=[Z7,.int .i64,.int .i64],res:=[Z7,.int .i64],F:=fun xs=>Jh xs.1 xs.2.1 xs.2.2.1}
theorem Z2z:okE Z5g:=
 ofE (Za Zpr (Za Zbq (Za Q1 (Za Z0a Zf)))) Zc Tryz.func45 Tryz.call45 .leaf lf (hk fun _=>by kernel_rfl)
abbrev Z71:FnB:={f:=10,args:=[.sh (Zp),.sh (Zx)],res:= .shr [Zp,.int .i64],F:=fun xs=>Va xs.1 xs.2.1}
theorem Zs2:okB Z71:=
 ofB [] (Za W9 (Za Zfd (Za Q4 (Za Zft (Za Zfu (Za Xg (Za Z2z Zf))))))) (Zt Zz7 (Zt Zz8 (Zt Zfe Zc))) Tryz.func10 Tryz.call10 (.seq .leaf (.seq (.seq .leaf (.cond (.seq .leaf (.frz [(4,.u false)])) .leaf)) (.seq (.seq .leaf (.cond (.seq .leaf (.frz [(4,.u false)])) .leaf)) (.seq .leaf (.seq (.seq .leaf (.cond (.seq .leaf (.frz [(4,.u false)])) .leaf)) (.seq .leaf (.seq .leaf (.seq (.frz [(6,.u false),(8,.u false)]) (.seq (.seq .leaf (.cond (.seq .leaf (.frz [(4,.u false)])) .leaf)) (.seq (.seq .leaf (.cond (.seq .leaf (.frz [(4,.u false)])) .leaf)) (.join Z09 (fun v=>K8 v.1 v.2.1 v.2.2.1 v.2.2.2.1) .leaf (.seq .leaf (.seq (.frz [(8,.u false)]) .leaf))))))))))))) ⟨lf,⟨lf,⟨lf,trivial⟩,lf⟩,⟨lf,⟨lf,trivial⟩,lf⟩,lf,⟨lf,⟨lf,trivial⟩,lf⟩,lf,lf,trivial,⟨lf,⟨lf,trivial⟩,lf⟩,⟨lf,⟨lf,trivial⟩,lf⟩,lf,(fun v=>by kernel_rfl),lf,trivial,lf⟩ (hk fun _=>by kernel_rfl)
abbrev Qbl:FnB:={f:=15,args:=[.sh (Zp),.sh (Zx)],res:= .shr [Zp,.int .i64],F:=fun xs=>Vw xs.1 xs.2.1}
theorem Zue:okB Qbl:=
 ofB [] (Za W9 (Za Zfd (Za Q4 (Za Zpm (Za Zfu (Za Xg (Za Zs4 Zf))))))) (Zt Zfe Zc) Tryz.func15 Tryz.call15 (.seq .leaf (.seq (.seq .leaf (.cond (.seq .leaf (.frz [(4,.u false)])) .leaf)) (.seq (.seq .leaf (.cond (.seq .leaf (.frz [(4,.u false)])) .leaf)) (.seq .leaf (.seq (.seq .leaf (.cond (.seq .leaf (.frz [(4,.u false)])) .leaf)) (.seq .leaf (.seq .leaf (.join Z3h (fun v=>Jv v.1 v.2.1 v.2.2.1) .leaf (.seq (.frz [(6,.u false),(8,.u false)]) .leaf))))))))) ⟨lf,⟨lf,⟨lf,trivial⟩,lf⟩,⟨lf,⟨lf,trivial⟩,lf⟩,lf,⟨lf,⟨lf,trivial⟩,lf⟩,lf,lf,lf,(fun v=>by kernel_rfl),trivial,lf⟩ (hk fun _=>by kernel_rfl)
abbrev Qb0:FnE:={f:=70,args:=[Qu,.int .i64],res:=[Qu],F:=fun xs=>Zcy xs.1 xs.2.1}
theorem Zuh:okE Qb0:=
 ofE (Za Wk (Za Q1 Zf)) Zc Tryz.func70 Tryz.call70 .leaf lf (hk fun _=>by kernel_rfl)
abbrev Qbz:FnE:={f:=71,args:=[Zcs,.int .i64],res:=[Zcs],F:=fun xs=>Zcx xs.1 xs.2.1}
theorem Z9h:okE Qbz:=
 ofE (Za Zsh Zf) Zc Tryz.func71 Tryz.call71 .leaf lf (hk fun _=>by kernel_rfl)
abbrev Qki:FnE:={f:=72,args:=[Zp,Zx],res:=[Zp,.int .i64],F:=fun xs=>Zgw xs.1 xs.2.1}
theorem Qhf:okE Qki:=
 ofE (Za Zpm (Za Zft (Za Q4 (Za Zfu (Za Xg (Za Zuh (Za Yp Zf))))))) Zc Tryz.func72 Tryz.call72 (.seq .leaf (.seq .leaf (.join Qaf (fun v=>Wr v.1 v.2.1 v.2.2.1 v.2.2.2.1) .leaf (.seq .leaf (.seq .leaf (.seq .leaf (.join Qag (fun v=>Zd6 v.1 v.2.1) .leaf .leaf))))))) ⟨lf,lf,lf,(fun v=>by kernel_rfl),lf,lf,lf,lf,(fun v=>by kernel_rfl),lf⟩ (hk fun _=>by kernel_rfl)
abbrev Z70:FnE:={f:=18,args:=[Zp,Zx],res:=[Zp,.int .i64],F:=fun xs=>J9 xs.1 xs.2.1}
theorem Zs1:okE Z70:=
 ofE (Za Q4 (Za W9 (Za Zfd (Za Zuh (Za Z9h (Za Qhf Zf)))))) Zc Tryz.func18 Tryz.call18 (.seq .leaf (.seq .leaf (.seq .leaf (.seq (.seq .leaf (.block (.seq .leaf (.cond .leaf (.seq .leaf (.cond (.join Z06 (fun v=>Zam v.1 v.2.1) .leaf .leaf) (.join Z07 (fun v=>K6 v.1 v.2.1 v.2.2.1 v.2.2.2.1 v.2.2.2.2.1 v.2.2.2.2.2.1) .leaf (.cond .leaf (.join Z08 (fun v=>K7 v.1 v.2.1 v.2.2.1 v.2.2.2.1 v.2.2.2.2.1) .leaf .leaf))))))))) .leaf)))) ⟨lf,lf,lf,⟨lf,lf,lf,lf,⟨lf,(fun v=>by kernel_rfl),lf⟩,lf,(fun v=>by kernel_rfl),lf,lf,(fun v=>by kernel_rfl),lf⟩,lf⟩ (hk fun _=>by kernel_rfl)
abbrev Z7z:FnB:={f:=21,args:=[.sh (Zp),.sh (Zx)],res:= .shr [Zp,.int .i64],F:=fun xs=>J8 xs.1 xs.2.1}
theorem Zs0:okB Z7z:=
 ofB [] (Za Q4 (Za Zs1 Zf)) (Zt Zud (Zt Zs2 (Zt Zue Zc))) Tryz.func21 Tryz.call21 (.seq .leaf (.seq .leaf (.seq .leaf (.join Z05 (fun v=>K5 v.1 v.2.1 v.2.2.1) .leaf .leaf)))) ⟨lf,lf,lf,lf,(fun v=>by kernel_rfl),lf⟩ (hk fun _=>by kernel_rfl)
abbrev Qka:FnE:={f:=274,args:=[Zp,.int .i64],res:=[Y1,.bool],F:=fun xs=>Znh xs.1 xs.2.1}
theorem Zxd:okE Qka:=
 ofE Zf Zc Tryz.func274 Tryz.call274 (.seq .leaf (.seq (.seq .leaf (.block (.loop Qab (fun N v=>Zio N v.1 v.2.1 v.2.2.1 v.2.2.2.1) (fun v=>Zkp v.1 v.2.1 v.2.2.1 v.2.2.2.1) (fun K1=> .leaf)))) .leaf)) ⟨lf,⟨lf,fun _=>rfl,fun N=>⟨(fun v=>by kernel_rfl),lf⟩⟩,lf⟩ (hk fun _=>by kernel_rfl)
abbrev Qnj:FnB:={f:=275,args:=[.bx 37 (Zp) (.u false),.sh (.int .i64)],res:= .vals [],F:=fun xs=>Zjq xs.1 xs.2.1}
theorem Zz9:okB Qnj:=
 ofB [0] Zf Zc Tryz.func275 Tryz.call275 (.seq .leaf (.seq (.seq .leaf (.block (.loop Qeo (fun N v=>J1 N v.1 v.2.1 v.2.2.1 v.2.2.2.1) (fun v=>Zl4 v.1 v.2.1 v.2.2.1 v.2.2.2.1) (fun K1=>(.seq .leaf (.join Qen (fun v=>Zc6 K1 v.1 v.2.1 v.2.2.1 v.2.2.2.1) .leaf .leaf)))))) .leaf)) ⟨lf,⟨lf,fun _=>rfl,fun N=>⟨(fun v=>by kernel_rfl),lf,lf,(fun v=>by kernel_rfl),lf⟩⟩,lf⟩ (hk fun _=>by kernel_rfl)
abbrev Qkm:FnE:={f:=305,args:=[Zx],res:=[Zb5],F:=fun xs=>Zwk xs.1}
theorem Zxh:okE Qkm:=
 ofE Zf Zc Tryz.func305 Tryz.call305 .leaf lf (hk fun _=>by kernel_rfl)
abbrev Qfm:FnE:={f:=304,args:=[Z4,Zb5],res:=[Z4],F:=fun xs=>Zp1 xs.1 xs.2.1}
theorem Qdd:okE Qfm:=
 ofE (Za Zb9 (Za J5 (Za Zsl (Za Zsm (Za Zlh (Za Zm0 (Za Zdw (Za Znt Zf)))))))) Zc Tryz.func304 Tryz.call304 (.seq .leaf (.seq .leaf (.seq .leaf (.join Z59 (fun v=>Zf5 v.1 v.2.1 v.2.2.1 v.2.2.2.1) (.seq .leaf (.cond (.seq .leaf (.seq .leaf (.block (.loop Z6b (fun N v=>Zf7 N v.1 v.2.1 v.2.2.1 v.2.2.2.1 v.2.2.2.2.1 v.2.2.2.2.2.1) (fun v=>Zjm v.1 v.2.1 v.2.2.1 v.2.2.2.1 v.2.2.2.2.1 v.2.2.2.2.2.1) (fun K1=> .leaf))))) .leaf)) (.join Z6a (fun v=>Zf6 v.1 v.2.1) .leaf .leaf))))) ⟨lf,lf,lf,⟨lf,⟨lf,lf,fun _=>rfl,fun N=>⟨(fun v=>by kernel_rfl),lf⟩⟩,lf⟩,(fun v=>by kernel_rfl),lf,(fun v=>by kernel_rfl),lf⟩ (hk fun _=>by kernel_rfl)
abbrev Qnk:FnB:={f:=276,args:=[.bx 37 (Zp) (.u false),.sh (Zx)],res:= .vals [],F:=fun xs=>Zmq xs.1 xs.2.1}
theorem Qk5:okB Qnk:=
 ofB [0] (Za Xg (Za Zkl (Za Zxh (Za Qdd (Za Yp Zf))))) Zc Tryz.func276 Tryz.call276 (.seq .leaf (.seq .leaf (.join Qep (fun v=>Zfo v.1 v.2.1 v.2.2.1 v.2.2.2.1) .leaf (.seq .leaf (.join Qeq (fun v=>J2 v.1 v.2.1) .leaf .leaf))))) ⟨lf,lf,lf,(fun v=>by kernel_rfl),lf,lf,(fun v=>by kernel_rfl),lf⟩ (hk fun _=>by kernel_rfl)
abbrev Qbt:FnB:={f:=240,args:=[.sh (Zp),.sh (.int .i64)],res:= .shr [Zp,.bool],F:=fun xs=>Zfj xs.1 xs.2.1}
theorem Z9c:okB Qbt:=
 ofB [] (Za Q4 (Za Zxd (Za Jz Zf))) (Zt Zz9 (Zt Qk5 Zc)) Tryz.func240 Tryz.call240 (.seq .leaf (.seq .leaf (.seq .leaf (.seq (.seq .leaf (.cond (.seq .leaf (.frz [(4,.u false)])) .leaf)) (.seq (.frz [(6,.u false)]) (.seq (.seq .leaf (.block (.loop Z3m (fun N v=>V8 N v.1 v.2.1 v.2.2.1 v.2.2.2.1) (fun v=>Zih v.1 v.2.1 v.2.2.1 v.2.2.2.1) (fun K1=> .leaf)))) .leaf)))))) ⟨lf,lf,lf,⟨lf,⟨lf,trivial⟩,lf⟩,trivial,⟨lf,fun _=>rfl,fun N=>⟨(fun v=>by kernel_rfl),lf⟩⟩,lf⟩ (hk fun _=>by kernel_rfl)
abbrev Qjv:FnE:={f:=328,args:=[Vj,.int .i64],res:=[Vj,.bool],F:=fun xs=>Znd xs.1 xs.2.1}
theorem Qg3:okE Qjv:=
 ofE (Za Zuo (Za Zpo Zf)) Zc Tryz.func328 Tryz.call328 (.seq .leaf (.seq .leaf (.seq .leaf (.seq (.seq .leaf (.block (.loop Z92 (fun N v=>Zib N v.1 v.2.1 v.2.2.1 v.2.2.2.1 v.2.2.2.2.1) (fun v=>Ze2 v.1 v.2.1 v.2.2.1 v.2.2.2.1 v.2.2.2.2.1) (fun K1=> .leaf)))) .leaf)))) ⟨lf,lf,lf,⟨lf,fun _=>rfl,fun N=>⟨(fun v=>by kernel_rfl),lf⟩⟩,lf⟩ (hk fun _=>by kernel_rfl)
abbrev Qjr:FnE:={f:=306,args:=[Z4,Zb5],res:=[Z4],F:=fun xs=>Zq7 xs.1 xs.2.1}
theorem Qg0:okE Qjr:=
 ofE (Za Zb9 (Za J5 (Za Zsl (Za Zsm (Za Zlh (Za Zm0 (Za Zdw (Za Zxa (Za Qg3 (Za Znt Zf)))))))))) Zc Tryz.func306 Tryz.call306 (.seq .leaf (.seq .leaf (.seq .leaf (.join Z9v (fun v=>Zh7 v.1 v.2.1 v.2.2.1 v.2.2.2.1) (.seq .leaf (.cond (.seq .leaf (.seq .leaf (.block (.loop Z9y (fun N v=>Zh9 N v.1 v.2.1 v.2.2.1 v.2.2.2.1 v.2.2.2.2.1 v.2.2.2.2.2.1) (fun v=>Zkm v.1 v.2.1 v.2.2.1 v.2.2.2.1 v.2.2.2.2.1 v.2.2.2.2.2.1) (fun K1=> .leaf))))) .leaf)) (.join Z9w (fun v=>Zh8 v.1 v.2.1 v.2.2.1) .leaf (.join Z9x (fun v=>Zme v.1 v.2.1 v.2.2.1) .leaf .leaf)))))) ⟨lf,lf,lf,⟨lf,⟨lf,lf,fun _=>rfl,fun N=>⟨(fun v=>by kernel_rfl),lf⟩⟩,lf⟩,(fun v=>by kernel_rfl),lf,(fun v=>by kernel_rfl),lf,(fun v=>by kernel_rfl),lf⟩ (hk fun _=>by kernel_rfl)
abbrev Qjs:FnE:={f:=307,args:=[Z4],res:=[Z4,.bool],F:=fun xs=>Zq8 xs.1}
theorem Qg1:okE Qjs:=
 ofE (Za Zb9 (Za J5 Zf)) Zc Tryz.func307 Tryz.call307 .leaf lf (hk fun _=>by kernel_rfl)
abbrev Qqg:FnB:={f:=277,args:=[.bx 37 (Zp) (.u false),.sh (Zx)],res:= .vals [],F:=fun xs=>Zox xs.1 xs.2.1}
theorem Qoq:okB Qqg:=
 ofB [0] (Za Xg (Za Zkl (Za Zxh (Za Qg0 (Za Qg1 Zf))))) (Zt Zfe Zc) Tryz.func277 Tryz.call277 (.seq .leaf (.join Qhx (fun v=>Zix v.1 v.2.1 v.2.2.1 v.2.2.2.1) .leaf (.seq .leaf (.join Qhy (fun v=>Vr v.1 v.2.1) .leaf (.frz [(4,.u false)]))))) ⟨lf,lf,(fun v=>by kernel_rfl),lf,lf,(fun v=>by kernel_rfl),trivial⟩ (hk fun _=>by kernel_rfl)
abbrev Qfj:FnB:={f:=241,args:=[.sh (Zp),.sh (.int .i64)],res:= .shr [Zp,.bool],F:=fun xs=>Zh6 xs.1 xs.2.1}
theorem Qdc:okB Qfj:=
 ofB [] (Za Q4 (Za Zxd (Za Jz Zf))) (Zt Zz9 (Zt Qoq Zc)) Tryz.func241 Tryz.call241 (.seq .leaf (.seq .leaf (.seq .leaf (.seq (.seq .leaf (.cond (.seq .leaf (.frz [(4,.u false)])) .leaf)) (.seq (.frz [(6,.u false)]) (.seq (.seq .leaf (.block (.loop Z58 (fun N v=>Zac N v.1 v.2.1 v.2.2.1 v.2.2.2.1) (fun v=>Zjh v.1 v.2.1 v.2.2.1 v.2.2.2.1) (fun K1=> .leaf)))) .leaf)))))) ⟨lf,lf,lf,⟨lf,⟨lf,trivial⟩,lf⟩,trivial,⟨lf,fun _=>rfl,fun N=>⟨(fun v=>by kernel_rfl),lf⟩⟩,lf⟩ (hk fun _=>by kernel_rfl)
abbrev Qni:FnB:={f:=198,args:=[.bx 148 (Zct) (.u false),.sh (Zp)],res:= .shr [Zp],F:=fun xs=>Zmp xs.1 xs.2.1}
theorem Qk4:okB Qni:=
 ofB [0] (Za Z9f (Za Z55 (Za Z2x (Za Z53 Zf)))) (Zt Kv (Zt Zpq (Zt Zul (Zt Z9i (Zt Z52 (Zt Z20 (Zt Z83 (Zt Zsj (Zt Zs0 (Zt Z9c (Zt Qdc Zc))))))))))) Tryz.func198 Tryz.call198 (.seq .leaf (.seq .leaf (.join Qek (fun v=>Zc3 v.1 v.2.1 v.2.2.1 v.2.2.2.1) .leaf (.seq .leaf (.seq (.seq .leaf (.block (.seq .leaf (.cond .leaf (.join Qel (fun v=>Zc4 v.1 v.2.1 v.2.2.1 v.2.2.2.1 v.2.2.2.2.1 v.2.2.2.2.2.1 v.2.2.2.2.2.2.1) .leaf (.cond .leaf (.seq .leaf (.cond .leaf (.seq .leaf (.cond .leaf (.seq .leaf (.cond .leaf (.join Qem (fun v=>Zc5 v.1 v.2.1 v.2.2.1 v.2.2.2.1 v.2.2.2.2.1 v.2.2.2.2.2.1) .leaf .leaf))))))))))))) (.seq .leaf (.frz [(4,.u false)]))))))) ⟨lf,lf,lf,(fun v=>by kernel_rfl),lf,⟨lf,lf,lf,lf,(fun v=>by kernel_rfl),lf,lf,lf,lf,lf,lf,lf,lf,(fun v=>by kernel_rfl),lf⟩,lf,trivial⟩ (hk fun _=>by kernel_rfl)
abbrev Qnf:FnB:={f:=143,args:=[.bx 148 (Zct) (.u false)],res:= .shr [Zp],F:=fun xs=>Zmn xs.1}
theorem Qk1:okB Qnf:=
 ofB [0] (Za Qkv Zf) (Zt Zpq (Zt Qky (Zt Kv (Zt Qk4 Zc)))) Tryz.func143 Tryz.call143 (.seq .leaf (.seq .leaf (.seq (.seq .leaf (.block (.loop Qef (fun N v=>Zc0 N v.1 v.2.1 v.2.2.1 v.2.2.2.1) (fun v=>Zl0 v.1 v.2.1 v.2.2.1 v.2.2.2.1) (fun K1=>(.seq .leaf (.seq (.block (.frz [(3,.u false)])) .leaf)))))) .leaf))) ⟨lf,lf,⟨lf,fun _=>rfl,fun N=>⟨(fun v=>by kernel_rfl),lf,trivial,lf⟩⟩,lf⟩ (hk fun _=>by kernel_rfl)
abbrev Qqf:FnB:={f:=73,args:=[.bx 148 (Zct) (.u false)],res:= .shr [Zp],F:=fun xs=>Zlz xs.1}
theorem Z21:okB Qqf:=
 ofB [0] Zf (Zt Qk1 (Zt Kv (Zt Zfv Zc))) Tryz.func73 Tryz.call73 .leaf lf (hk fun _=>by kernel_rfl)
abbrev Qm8:FnB:={f:=23,args:=[.sh (.slice 5 (.int .u8)),.sh (.int .i64)],res:= .shr [Zp,Zx],F:=fun xs=>Zjo xs.1 xs.2.1}
theorem Zns:okB Qm8:=
 ofB [] (Za Zum Zf) (Zt Zwf (Zt Z21 (Zt Zsj (Zt Kv (Zt Zul (Zt Zpq (Zt Zfv Zc))))))) Tryz.func23 Tryz.call23 (.seq .leaf (.seq .leaf (.seq .leaf (.seq .leaf (.seq .leaf (.seq .leaf (.seq .leaf (.seq .leaf (.seq .leaf (.seq .leaf (.seq .leaf (.seq .leaf (.seq .leaf (.join Qee (fun v=>Zke v.1 v.2.1 v.2.2.1 v.2.2.2.1) .leaf .leaf)))))))))))))) ⟨lf,lf,lf,lf,lf,lf,lf,lf,lf,lf,lf,lf,lf,lf,(fun v=>by kernel_rfl),lf⟩ (hk fun _=>by kernel_rfl)
abbrev Z0d:FnB:={f:=5,args:=[.sh (.slice 5 (.int .u8))],res:= .shr [Zp,Zx],F:=fun xs=>Zg6 xs.1}
theorem Zy4:okB Z0d:=
 ofB [] Zf (Zt Zns Zc) Tryz.func5 Tryz.call5 .leaf lf (hk fun _=>by kernel_rfl)
abbrev Qp3:FnE:={f:=55,args:=[.int .i64,.int .i64,.int .i64],res:=[.bool],F:=fun xs=>Z2 xs.1 xs.2.1 xs.2.2.1}
theorem Q7:okE Qp3:=
 ofE Zf Zc Tryz.func55 Tryz.call55 .leaf lf (hk fun _=>by kernel_rfl)
abbrev Qbc:FnE:={f:=132,args:=[.int .i64],res:=[.bool],F:=fun xs=>Zas xs.1}
theorem Zoc:okE Qbc:=
 ofE (Za Q7 Zf) Zc Tryz.func132 Tryz.call132 .leaf lf (hk fun _=>by kernel_rfl)
abbrev Qp0:FnE:={f:=49,args:=[Zks],res:=[.bool],F:=fun xs=>Zld xs.1}
theorem Z2p:okE Qp0:=
 ofE (Za Zoc (Za Q7 Zf)) Zc Tryz.func49 Tryz.call49 .leaf lf (hk fun _=>by kernel_rfl)
abbrev Qp2:FnE:={f:=128,args:=[.int .i64],res:=[.bool],F:=fun xs=>Xd xs.1}
theorem Ku:okE Qp2:=
 ofE (Za Q7 Zf) Zc Tryz.func128 Tryz.call128 .leaf lf (hk fun _=>by kernel_rfl)
abbrev Qjg:FnE:={f:=258,args:=[.int .i64],res:=[.bool],F:=fun xs=>Zv8 xs.1}
theorem Qgr:okE Qjg:=
 ofE (Za Q7 Zf) Zc Tryz.func258 Tryz.call258 .leaf lf (hk fun _=>by kernel_rfl)
abbrev Zki:FnE:={f:=284,args:=[.slice 3 (.int .i64),.fnc 258],res:=[.int .i64],F:=fun xs=>Js xs.1}
theorem Zj4:okE Zki:=
 ofE (Za Qgr Zf) Zc Tryz.func284 Tryz.call284 (.seq .leaf (.seq (.seq .leaf (.block (.loop Zi4 (fun N v=>Q9 N v.1 v.2.1 v.2.2.1 v.2.2.2.1) (fun v=>Xj v.1 v.2.1 v.2.2.1 v.2.2.2.1) (fun K1=> .leaf)))) .leaf)) ⟨lf,⟨lf,fun _=>rfl,fun N=>⟨(fun v=>by kernel_rfl),lf⟩⟩,lf⟩ (hk fun _=>by kernel_rfl)
abbrev Zi3:FnE:={f:=257,args:=[.slice 3 (.int .i64),.fnc 258],res:=[.bool],F:=fun xs=>Kw xs.1}
theorem Zh1:okE Zi3:=
 ofE (Za Zj4 Zf) Zc Tryz.func257 Tryz.call257 .leaf lf (hk fun _=>by kernel_rfl)
abbrev Qp1:FnE:={f:=224,args:=[Vj],res:=[.bool],F:=fun xs=>Zvj xs.1}
theorem Qoi:okE Qp1:=
 ofE (Za Zoc (Za Zh1 (Za Ku (Za Q7 Zf)))) Zc Tryz.func224 Tryz.call224 .leaf lf (hk fun _=>by kernel_rfl)
abbrev Qmv:FnE:={f:=259,args:=[Zw],res:=[.bool],F:=fun xs=>Ztb xs.1}
theorem Zz6:okE Qmv:=
 ofE Zf Zc Tryz.func259 Tryz.call259 .leaf lf (hk fun _=>by kernel_rfl)
abbrev Qjf:FnE:={f:=225,args:=[.slice 167 (Zw)],res:=[.bool],F:=fun xs=>Zbx xs.1}
theorem Zmc:okE Qjf:=
 ofE (Za Zz6 Zf) Zc Tryz.func225 Tryz.call225 (.seq .leaf (.seq (.seq .leaf (.block (.loop Z8j (fun N v=>Zhs N v.1 v.2.1 v.2.2.1 v.2.2.2.1) (fun v=>Zkk v.1 v.2.1 v.2.2.1 v.2.2.2.1) (fun K1=> .leaf)))) .leaf)) ⟨lf,⟨lf,fun _=>rfl,fun N=>⟨(fun v=>by kernel_rfl),lf⟩⟩,lf⟩ (hk fun _=>by kernel_rfl)
abbrev Z41:FnE:={f:=260,args:=[.slice 167 (Zw)],res:=[.int .i64],F:=fun xs=>W6 xs.1}
theorem Z2n:okE Z41:=
 ofE (Za Zmc Zf) Zc Tryz.func260 Tryz.call260 (.seq .leaf (.seq .leaf (.seq .leaf (.seq (.seq .leaf (.block (.loop Zys (fun N v=>Zb8 N v.1 v.2.1 v.2.2.1 v.2.2.2.1) (fun v=>Ze9 v.1 v.2.1 v.2.2.1 v.2.2.2.1) (fun K1=> .leaf)))) .leaf)))) ⟨lf,lf,lf,⟨lf,fun _=>rfl,fun N=>⟨(fun v=>by kernel_rfl),lf⟩⟩,lf⟩ (hk fun _=>by kernel_rfl)
abbrev Qa8:FnE:={f:=188,args:=[.slice 167 (Zw)],res:=[.slice 167 (Zw)],F:=fun xs=>Vu xs.1}
theorem Zob:okE Qa8:=
 ofE Zf Zc Tryz.func188 Tryz.call188 .leaf lf (hk fun _=>by kernel_rfl)
abbrev Qjc:FnE:={f:=261,args:=[.slice 167 (Zw),Zw],res:=[.slice 167 (Zw)],F:=fun xs=>Zq0 xs.1 xs.2.1}
theorem Qgo:okE Qjc:=
 ofE (Za Zmc (Za Zz6 (Za Zob Zf))) Zc Tryz.func261 Tryz.call261 (.seq .leaf (.seq .leaf (.seq .leaf (.seq (.seq .leaf (.block (.loop Z8g (fun N v=>Yk N v.1 v.2.1 v.2.2.1 v.2.2.2.1 v.2.2.2.2.1 v.2.2.2.2.2.1) (fun v=>Zey v.1 v.2.1 v.2.2.1 v.2.2.2.1 v.2.2.2.2.1 v.2.2.2.2.2.1) (fun K1=>(.seq .leaf (.seq .leaf (.seq (.block (.seq .leaf (.block (.seq .leaf (.cond .leaf (.seq .leaf (.cond (.join Z8f (fun v=>Zhm K1 v.1 v.2.1 v.2.2.1 v.2.2.2.1 v.2.2.2.2.1 v.2.2.2.2.2.1 v.2.2.2.2.2.2.1) .leaf .leaf) .leaf))))))) .leaf))))))) .leaf)))) ⟨lf,lf,lf,⟨lf,fun _=>rfl,fun N=>⟨(fun v=>by kernel_rfl),lf,lf,⟨lf,lf,lf,lf,⟨lf,(fun v=>by kernel_rfl),lf⟩,lf⟩,lf⟩⟩,lf⟩ (hk fun _=>by kernel_rfl)
abbrev Qbb:FnE:={f:=228,args:=[.slice 167 (Zw),.int .i64],res:=[.bool],F:=fun xs=>Zcv xs.1 xs.2.1}
theorem Zuc:okE Qbb:=
 ofE Zf Zc Tryz.func228 Tryz.call228 .leaf lf (hk fun _=>by kernel_rfl)
abbrev Qjm:FnE:={f:=226,args:=[.slice 167 (Zw),.slice 167 (Zw),.slice 167 (Zw),.int .i64],res:=[.bool],F:=fun xs=>Zq2 xs.1 xs.2.1 xs.2.2.1 xs.2.2.2.1}
theorem Qgw:okE Qjm:=
 ofE (Za Z2n (Za Zob (Za Qgo (Za Zuc Zf)))) Zc Tryz.func226 Tryz.call226 (.seq .leaf (.seq .leaf (.seq .leaf (.seq (.seq .leaf (.block (.loop Z8l (fun N v=>Zhw N v.1 v.2.1 v.2.2.1 v.2.2.2.1 v.2.2.2.2.1) (fun v=>Ze0 v.1 v.2.1 v.2.2.1 v.2.2.2.1 v.2.2.2.2.1) (fun K1=> .leaf)))) .leaf)))) ⟨lf,lf,lf,⟨lf,fun _=>rfl,fun N=>⟨(fun v=>by kernel_rfl),lf⟩⟩,lf⟩ (hk fun _=>by kernel_rfl)
abbrev Qjd:FnE:={f:=227,args:=[.slice 167 (Zw),.int .i64],res:=[.int .i64],F:=fun xs=>Zq1 xs.1 xs.2.1}
theorem Qgq:okE Qjd:=
 ofE (Za Zmc Zf) Zc Tryz.func227 Tryz.call227 (.seq .leaf (.seq .leaf (.seq (.seq .leaf (.block (.loop Z8h (fun N v=>Zdv N v.1 v.2.1 v.2.2.1 v.2.2.2.1) (fun v=>Zkj v.1 v.2.1 v.2.2.1 v.2.2.2.1) (fun K1=> .leaf)))) .leaf))) ⟨lf,lf,⟨lf,fun _=>rfl,fun N=>⟨(fun v=>by kernel_rfl),lf⟩⟩,lf⟩ (hk fun _=>by kernel_rfl)
abbrev Qfi:FnE:={f:=229,args:=[Z4],res:=[.int .i64],F:=fun xs=>Zph xs.1}
theorem Qda:okE Qfi:=
 ofE Zf Zc Tryz.func229 Tryz.call229 .leaf lf (hk fun _=>by kernel_rfl)
abbrev Qjh:FnE:={f:=184,args:=[Z4],res:=[.bool],F:=fun xs=>Zm6 xs.1}
theorem Zw4:okE Qjh:=
 ofE (Za Qoi (Za Zmc (Za Q7 (Za Ku (Za Qgw (Za Qgq (Za Zuc (Za Qda Zf)))))))) Zc Tryz.func184 Tryz.call184 (.seq .leaf (.seq .leaf (.seq .leaf (.seq .leaf (.join Z8k (fun v=>Zht v.1 v.2.1) .leaf .leaf))))) ⟨lf,lf,lf,lf,lf,(fun v=>by kernel_rfl),lf⟩ (hk fun _=>by kernel_rfl)
abbrev Qje:FnE:={f:=51,args:=[Qu],res:=[.bool],F:=fun xs=>Zm5 xs.1}
theorem Zqm:okE Qje:=
 ofE (Za Ku (Za Q7 Zf)) Zc Tryz.func51 Tryz.call51 .leaf lf (hk fun _=>by kernel_rfl)
abbrev Zwr:FnE:={f:=162,args:=[Zhj],res:=[.int .i64],F:=fun xs=>Zb7 xs.1}
theorem Zky:okE Zwr:=
 ofE Zf Zc Tryz.func162 Tryz.call162 .leaf lf (hk fun _=>by kernel_rfl)
abbrev Zz1:FnE:={f:=159,args:=[Qw],res:=[.bool],F:=fun xs=>Zgn xs.1}
theorem Zmb:okE Zz1:=
 ofE (Za Ku (Za Zky Zf)) Zc Tryz.func159 Tryz.call159 (.seq .leaf (.seq .leaf (.seq .leaf (.seq (.seq .leaf (.block (.loop Z8i (fun N v=>Zhr N v.1 v.2.1 v.2.2.1 v.2.2.2.1) (fun v=>Zez v.1 v.2.1 v.2.2.1 v.2.2.2.1) (fun K1=> .leaf)))) .leaf)))) ⟨lf,lf,lf,⟨lf,fun _=>rfl,fun N=>⟨(fun v=>by kernel_rfl),lf⟩⟩,lf⟩ (hk fun _=>by kernel_rfl)
abbrev Qs1:FnE:={f:=160,args:=[Qw],res:=[.int .i64],F:=fun xs=>Zyt xs.1}
theorem Qqw:okE Qs1:=
 ofE (Za Zmb (Za Zky Zf)) Zc Tryz.func160 Tryz.call160 .leaf lf (hk fun _=>by kernel_rfl)
abbrev Qa6:FnE:={f:=166,args:=[Qw],res:=[.int .i64],F:=fun xs=>Zno xs.1}
theorem Z8z:okE Qa6:=
 ofE (Za Zmb Zf) Zc Tryz.func166 Tryz.call166 .leaf lf (hk fun _=>by kernel_rfl)
abbrev Qjp:FnE:={f:=94,args:=[Qw],res:=[.int .i64],F:=fun xs=>Zm9 xs.1}
theorem Zw6:okE Qjp:=
 ofE (Za Z8z Zf) Zc Tryz.func94 Tryz.call94 .leaf lf (hk fun _=>by kernel_rfl)
abbrev Qa1:FnE:={f:=90,args:=[Z7],res:=[.bool],F:=fun xs=>Zar xs.1}
theorem Zef:okE Qa1:=
 ofE (Za Zmb (Za Qqw (Za Ku (Za Q7 (Za Zw6 Zf))))) Zc Tryz.func90 Tryz.call90 (.seq .leaf (.seq .leaf (.seq .leaf (.seq (.seq .leaf (.block (.seq .leaf (.cond .leaf (.seq .leaf (.cond .leaf (.seq .leaf (.cond .leaf (.seq .leaf (.cond .leaf (.join Z2c (fun v=>Vz v.1 v.2.1) .leaf .leaf))))))))))) .leaf)))) ⟨lf,lf,lf,⟨lf,lf,lf,lf,lf,lf,lf,lf,lf,lf,(fun v=>by kernel_rfl),lf⟩,lf⟩ (hk fun _=>by kernel_rfl)
abbrev Qjj:FnE:={f:=52,args:=[Yf],res:=[.bool],F:=fun xs=>Zgo xs.1}
theorem Zh0:okE Qjj:=
 ofE (Za Q7 Zf) Zc Tryz.func52 Tryz.call52 .leaf lf (hk fun _=>by kernel_rfl)
abbrev Qaz:FnE:={f:=185,args:=[Yz],res:=[.bool],F:=fun xs=>Zr9 xs.1}
theorem Z8s:okE Qaz:=
 ofE (Za Q7 Zf) Zc Tryz.func185 Tryz.call185 .leaf lf (hk fun _=>by kernel_rfl)
abbrev Qji:FnE:={f:=133,args:=[Zu],res:=[.bool],F:=fun xs=>Zm7 xs.1}
theorem Zw5:okE Qji:=
 ofE (Za Ku (Za Zw4 (Za Zqm (Za Zef (Za Zh0 (Za Z8s Zf)))))) Zc Tryz.func133 Tryz.call133 .leaf lf (hk fun _=>by kernel_rfl)
abbrev Qay:FnE:={f:=50,args:=[.slice 72 (Zu)],res:=[.bool],F:=fun xs=>Zcu xs.1}
theorem Zn9:okE Qay:=
 ofE (Za Zw5 Zf) Zc Tryz.func50 Tryz.call50 (.seq .leaf (.seq (.seq .leaf (.block (.loop Z19 (fun N v=>Vy N v.1 v.2.1 v.2.2.1 v.2.2.2.1) (fun v=>Zcl v.1 v.2.1 v.2.2.1 v.2.2.2.1) (fun K1=> .leaf)))) .leaf)) ⟨lf,⟨lf,fun _=>rfl,fun N=>⟨(fun v=>by kernel_rfl),lf⟩⟩,lf⟩ (hk fun _=>by kernel_rfl)
abbrev Qms:FnE:={f:=53,args:=[Zcs],res:=[.bool],F:=fun xs=>Zpa xs.1}
theorem Zz5:okE Qms:=
 ofE (Za Q7 Zf) Zc Tryz.func53 Tryz.call53 .leaf lf (hk fun _=>by kernel_rfl)
abbrev Qmr:FnE:={f:=54,args:=[Qu],res:=[.bool],F:=fun xs=>Zl7 xs.1}
theorem Zsf:okE Qmr:=
 ofE (Za Q7 Zf) Zc Tryz.func54 Tryz.call54 .leaf lf (hk fun _=>by kernel_rfl)
abbrev Qjk:FnE:={f:=147,args:=[.int .i64],res:=[.str],F:=fun xs=>Zv9 xs.1}
theorem Qgs:okE Qjk:=
 ofE Zf Zc Tryz.func147 Tryz.call147 .leaf lf (hk fun _=>by kernel_rfl)
abbrev Z1y:FnE:={f:=199,args:=[Zx],res:=[.bool],F:=fun xs=>Zty xs.1}
theorem Z0s:okE Z1y:=
 ofE Zf Zc Tryz.func199 Tryz.call199 (.seq .leaf (.seq (.seq .leaf (.block (.join Zwv (fun v=>Vo v.1) .leaf .leaf))) .leaf)) ⟨lf,⟨lf,lf,(fun v=>by kernel_rfl),lf⟩,lf⟩ (hk fun _=>by kernel_rfl)
abbrev Qu2:FnE:={f:=148,args:=[Zx],res:=[Zx],F:=fun xs=>Qgd xs.1}
theorem Qt1:okE Qu2:=
 ofE (Za Z0s Zf) Zc Tryz.func148 Tryz.call148 (.seq .leaf (.seq .leaf (.join Qn3 (fun v=>Zyv v.1 v.2.1 v.2.2.1) .leaf (.seq (.seq .leaf (.block (.seq .leaf (.cond .leaf (.seq .leaf (.cond .leaf (.seq .leaf (.cond .leaf (.join Qn4 (fun v=>Zyw v.1 v.2.1 v.2.2.1 v.2.2.2.1) .leaf .leaf))))))))) .leaf)))) ⟨lf,lf,lf,(fun v=>by kernel_rfl),⟨lf,lf,lf,lf,lf,lf,lf,lf,(fun v=>by kernel_rfl),lf⟩,lf⟩ (hk fun _=>by kernel_rfl)
abbrev W5:FnE:={f:=80,args:=[Zx],res:=[.bool],F:=fun xs=>Zdl xs.1}
theorem Zj3:okE W5:=
 ofE (Za Qgs (Za Qt1 (Za Ku Zf))) Zc Tryz.func80 Tryz.call80 .leaf lf (hk fun _=>by kernel_rfl)
abbrev Z43:FnE:={f:=135,args:=[Zx],res:=[.bool],F:=fun xs=>Zpg xs.1}
theorem Z2r:okE Z43:=
 ofE (Za Zj3 Zf) Zc Tryz.func135 Tryz.call135 .leaf lf (hk fun _=>by kernel_rfl)
abbrev Zbo:FnE:={f:=186,args:=[.slice 39 (Zx),.fnc 135],res:=[.int .i64],F:=fun xs=>Xl xs.1}
theorem Za9:okE Zbo:=
 ofE (Za Z2r Zf) Zc Tryz.func186 Tryz.call186 (.seq .leaf (.seq (.seq .leaf (.block (.loop Zap (fun N v=>Qb N v.1 v.2.1 v.2.2.1 v.2.2.2.1) (fun v=>Q3 v.1 v.2.1 v.2.2.1 v.2.2.2.1) (fun K1=> .leaf)))) .leaf)) ⟨lf,⟨lf,fun _=>rfl,fun N=>⟨(fun v=>by kernel_rfl),lf⟩⟩,lf⟩ (hk fun _=>by kernel_rfl)
abbrev Zan:FnE:={f:=134,args:=[.slice 39 (Zx),.fnc 135],res:=[.bool],F:=fun xs=>Qr xs.1}
theorem W8:okE Zan:=
 ofE (Za Za9 Zf) Zc Tryz.func134 Tryz.call134 .leaf lf (hk fun _=>by kernel_rfl)
abbrev Qa7:FnE:={f:=56,args:=[.slice 130 (Y1),.int .i64],res:=[.bool],F:=fun xs=>Zsc xs.1 xs.2.1}
theorem Z80:okE Qa7:=
 ofE (Za Q7 (Za W8 Zf)) Zc Tryz.func56 Tryz.call56 (.seq .leaf (.seq (.seq .leaf (.block (.loop Z2f (fun N v=>Zeb N v.1 v.2.1 v.2.2.1 v.2.2.2.1 v.2.2.2.2.1) (fun v=>Zhv v.1 v.2.1 v.2.2.1 v.2.2.2.1 v.2.2.2.2.1) (fun K1=> .leaf)))) .leaf)) ⟨lf,⟨lf,fun _=>rfl,fun N=>⟨(fun v=>by kernel_rfl),lf⟩⟩,lf⟩ (hk fun _=>by kernel_rfl)
abbrev Z7o:FnE:={f:=137,args:=[Zu],res:=[.int .i64],F:=fun xs=>Zwz xs.1}
theorem Z5q:okE Z7o:=
 ofE Zf Zc Tryz.func137 Tryz.call137 .leaf lf (hk fun _=>by kernel_rfl)
abbrev Zrl:FnE:={f:=136,args:=[.slice 72 (Zu),.fnc 137],res:=[.int .i64],F:=fun xs=>Zdn xs.1}
theorem Zqo:okE Zrl:=
 ofE (Za Zn9 (Za Z5q Zf)) Zc Tryz.func136 Tryz.call136 (.seq .leaf (.seq .leaf (.seq .leaf (.seq (.seq .leaf (.block (.loop Zpj (fun N v=>Kd N v.1 v.2.1 v.2.2.1 v.2.2.2.1 v.2.2.2.2.1) (fun v=>Xy v.1 v.2.1 v.2.2.1 v.2.2.2.1 v.2.2.2.2.1) (fun K1=> .leaf)))) .leaf)))) ⟨lf,lf,lf,⟨lf,fun _=>rfl,fun N=>⟨(fun v=>by kernel_rfl),lf⟩⟩,lf⟩ (hk fun _=>by kernel_rfl)
abbrev Qfh:FnE:={f:=57,args:=[.slice 72 (Zu)],res:=[.int .i64],F:=fun xs=>Zpf xs.1}
theorem Qc9:okE Qfh:=
 ofE (Za Zqo Zf) Zc Tryz.func57 Tryz.call57 .leaf lf (hk fun _=>by kernel_rfl)
abbrev Z7n:FnE:={f:=138,args:=[Zu],res:=[.int .i64],F:=fun xs=>Zwy xs.1}
theorem Z5p:okE Z7n:=
 ofE Zf Zc Tryz.func138 Tryz.call138 .leaf lf (hk fun _=>by kernel_rfl)
abbrev Zrk:FnE:={f:=136,args:=[.slice 72 (Zu),.fnc 138],res:=[.int .i64],F:=fun xs=>Zdm xs.1}
theorem Zqn:okE Zrk:=
 ofE (Za Zn9 (Za Z5p Zf)) Zc Tryz.func136 Tryz.call136 (.seq .leaf (.seq .leaf (.seq .leaf (.seq (.seq .leaf (.block (.loop Zpi (fun N v=>Kc N v.1 v.2.1 v.2.2.1 v.2.2.2.1 v.2.2.2.2.1) (fun v=>Vp v.1 v.2.1 v.2.2.1 v.2.2.2.1 v.2.2.2.2.1) (fun K1=> .leaf)))) .leaf)))) ⟨lf,lf,lf,⟨lf,fun _=>rfl,fun N=>⟨(fun v=>by kernel_rfl),lf⟩⟩,lf⟩ (hk fun _=>by kernel_rfl)
abbrev Qfg:FnE:={f:=58,args:=[.slice 72 (Zu)],res:=[.int .i64],F:=fun xs=>Zpe xs.1}
theorem Qc8:okE Qfg:=
 ofE (Za Zqn Zf) Zc Tryz.func58 Tryz.call58 .leaf lf (hk fun _=>by kernel_rfl)
abbrev Zbw:FnE:={f:=12,args:=[Zp],res:=[.bool],F:=fun xs=>Zaq xs.1}
theorem Zlf:okE Zbw:=
 ofE (Za Z2p (Za Zn9 (Za Zqm (Za Zh0 (Za Zz5 (Za Zsf (Za Q7 (Za Z80 (Za Qc9 (Za Qc8 Zf)))))))))) Zc Tryz.func12 Tryz.call12 .leaf lf (hk fun _=>by kernel_rfl)
abbrev Qjn:FnE:={f:=187,args:=[Vj],res:=[Vj],F:=fun xs=>Zwa xs.1}
theorem Qgx:okE Qjn:=
 ofE Zf Zc Tryz.func187 Tryz.call187 .leaf lf (hk fun _=>by kernel_rfl)
abbrev Qa9:FnE:={f:=140,args:=[Z4],res:=[Z4],F:=fun xs=>Zj0 xs.1}
theorem Zua:okE Qa9:=
 ofE (Za Qgx (Za Zob Zf)) Zc Tryz.func140 Tryz.call140 .leaf lf (hk fun _=>by kernel_rfl)
abbrev Zve:FnE:={f:=158,args:=[Qw],res:=[Qw],F:=fun xs=>Zfb xs.1}
theorem Zt9:okE Zve:=
 ofE Zf Zc Tryz.func158 Tryz.call158 .leaf lf (hk fun _=>by kernel_rfl)
abbrev Z44:FnE:={f:=89,args:=[Z7],res:=[Z7],F:=fun xs=>W7 xs.1}
theorem Zlg:okE Z44:=
 ofE (Za Zt9 Zf) Zc Tryz.func89 Tryz.call89 .leaf lf (hk fun _=>by kernel_rfl)
abbrev Qba:FnE:={f:=200,args:=[Zu],res:=[Zu],F:=fun xs=>Zfc xs.1}
theorem Zub:okE Qba:=
 ofE (Za Zua (Za Zlg Zf)) Zc Tryz.func200 Tryz.call200 .leaf lf (hk fun _=>by kernel_rfl)
abbrev Z7r:FnE:={f:=149,args:=[.slice 72 (Zu)],res:=[.slice 72 (Zu)],F:=fun xs=>Wj xs.1}
theorem Zsy:okE Z7r:=
 ofE (Za Zub Zf) Zc Tryz.func149 Tryz.call149 (.seq .leaf (.seq .leaf (.seq (.seq .leaf (.block (.loop Z0p (fun N v=>Zdd N v.1 v.2.1 v.2.2.1 v.2.2.2.1) (fun v=>Ky v.1 v.2.1 v.2.2.1 v.2.2.2.1) (fun K1=> .leaf)))) .leaf))) ⟨lf,lf,⟨lf,fun _=>rfl,fun N=>⟨(fun v=>by kernel_rfl),lf⟩⟩,lf⟩ (hk fun _=>by kernel_rfl)
abbrev Z7q:FnE:={f:=150,args:=[.slice 130 (Y1)],res:=[.slice 130 (Y1)],F:=fun xs=>Zql xs.1}
theorem Z5r:okE Z7q:=
 ofE Zf Zc Tryz.func150 Tryz.call150 (.seq .leaf (.seq .leaf (.seq (.seq .leaf (.block (.loop Z0o (fun N v=>Zdc N v.1 v.2.1 v.2.2.1 v.2.2.2.1) (fun v=>Zbz v.1 v.2.1 v.2.2.1 v.2.2.2.1) (fun K1=> .leaf)))) .leaf))) ⟨lf,lf,⟨lf,fun _=>rfl,fun N=>⟨(fun v=>by kernel_rfl),lf⟩⟩,lf⟩ (hk fun _=>by kernel_rfl)
abbrev Vs:FnE:={f:=81,args:=[Zp],res:=[Zp],F:=fun xs=>Qp xs.1}
theorem Zmd:okE Vs:=
 ofE (Za Zsy (Za Z5r Zf)) Zc Tryz.func81 Tryz.call81 .leaf lf (hk fun _=>by kernel_rfl)
abbrev Qa5:FnE:={f:=83,args:=[.int .i64],res:=[.bool],F:=fun xs=>Vt xs.1}
theorem V0:okE Qa5:=
 ofE (Za Ku Zf) Zc Tryz.func83 Tryz.call83 .leaf lf (hk fun _=>by kernel_rfl)
abbrev Qmt:FnE:={f:=84,args:=[.int .i64],res:=[.bool],F:=fun xs=>Zpb xs.1}
theorem Zsg:okE Qmt:=
 ofE (Za V0 Zf) Zc Tryz.func84 Tryz.call84 .leaf lf (hk fun _=>by kernel_rfl)
abbrev Qa4:FnE:={f:=155,args:=[.int .i64],res:=[.bool],F:=fun xs=>Zz3 xs.1}
theorem Z8w:okE Qa4:=
 ofE (Za V0 Zf) Zc Tryz.func155 Tryz.call155 .leaf lf (hk fun _=>by kernel_rfl)
abbrev Zyg:FnE:={f:=85,args:=[.bool,.int .i64],res:=[.bool],F:=fun xs=>Zd9 xs.1 xs.2.1}
theorem Zq3:okE Zyg:=
 ofE (Za V0 (Za Z8w Zf)) Zc Tryz.func85 Tryz.call85 .leaf lf (hk fun _=>by kernel_rfl)
abbrev Zc8:FnE:={f:=27,args:=[.bool,.int .i64],res:=[.bool],F:=fun xs=>Zcm xs.1 xs.2.1}
theorem Zle:okE Zc8:=
 ofE (Za V0 (Za Zsg (Za Zq3 Zf))) Zc Tryz.func27 Tryz.call27 .leaf lf (hk fun _=>by kernel_rfl)
abbrev Z42:FnE:={f:=157,args:=[Zu,.sptr 3 (.int .i64)],res:=[.bool],F:=fun xs=>Zvi xs.1 xs.2.1}
theorem Z2o:okE Z42:=
 ofE Zf Zc Tryz.func157 Tryz.call157 .leaf lf (hk fun _=>by kernel_rfl)
abbrev Zay:FnE:={f:=156,args:=[.slice 72 (Zu),.clo 157 (.pair (.sptr 3 (.int .i64)) (.unit))],res:=[.int .i64],F:=fun xs=>Xh xs.1 xs.2.1}
theorem Zao:okE Zay:=
 ofE (Za Z2o Zf) Zc Tryz.func156 Tryz.call156 (.seq .leaf (.seq (.seq .leaf (.block (.loop Wx (fun N v=>Z9 N v.1 v.2.1 v.2.2.1 v.2.2.2.1) (fun v=>Qy v.1 v.2.1 v.2.2.1 v.2.2.2.1) (fun K1=> .leaf)))) .leaf)) ⟨lf,⟨lf,fun _=>rfl,fun N=>⟨(fun v=>by kernel_rfl),lf⟩⟩,lf⟩ (hk fun _=>by kernel_rfl)
abbrev Zo5:FnE:={f:=86,args:=[.slice 72 (Zu),.int .i64],res:=[.int .i64],F:=fun xs=>Xn xs.1 xs.2.1}
theorem Zoa:okE Zo5:=
 ofE (Za Zao Zf) Zc Tryz.func86 Tryz.call86 .leaf lf (hk fun _=>by kernel_rfl)
abbrev Zk9:FnB:={f:=98,args:=[.bx 37 (Zp) (.u true),.sh (.int .i64)],res:= .fp (Zp) 0 [9] [8],F:=fun xs=>Z3 xs.1 xs.2.1}
theorem Zqf:okB Zk9:=
 ofB [0] (Za Zsg Zf) Zc Tryz.func98 Tryz.call98 .leaf lf (hk fun _=>by kernel_rfl)
abbrev Qmq:FnE:={f:=152,args:=[.int .i64],res:=[.int .i64],F:=fun xs=>Zdk xs.1}
theorem Qkr:okE Qmq:=
 ofE (Za V0 Zf) Zc Tryz.func152 Tryz.call152 .leaf lf (hk fun _=>by kernel_rfl)
abbrev Qjl:FnE:={f:=151,args:=[Qu,.int .i64],res:=[Qu,.int .i64,.bool],F:=fun xs=>Zby xs.1 xs.2.1}
theorem Qgv:okE Qjl:=
 ofE (Za Zsf (Za Q7 Zf)) Zc Tryz.func151 Tryz.call151 .leaf lf (hk fun _=>by kernel_rfl)
abbrev Z7l:FnE:={f:=201,args:=[],res:=[Z7],F:=fun xs=>Zww}
theorem Z5l:okE Z7l:=
 ofE Zf Zc Tryz.func201 Tryz.call201 .leaf lf (hk fun _=>by kernel_rfl)
abbrev Zyf:FnE:={f:=202,args:=[],res:=[Yz],F:=fun xs=>Zrp}
theorem Zw3:okE Zyf:=
 ofE Zf Zc Tryz.func202 Tryz.call202 .leaf lf (hk fun _=>by kernel_rfl)
abbrev Zhk:FnE:={f:=60,args:=[.bool,.int .i64],res:=[.bool],F:=fun xs=>Zlc xs.1 xs.2.1}
theorem Zpl:okE Zhk:=
 ofE (Za V0 (Za Zsg (Za Zq3 Zf))) Zc Tryz.func60 Tryz.call60 .leaf lf (hk fun _=>by kernel_rfl)
abbrev Qmu:FnE:={f:=242,args:=[.int .i64],res:=[Vj,.bool],F:=fun xs=>Zyu xs.1}
theorem Qkt:okE Qmu:=
 ofE (Za Zoc Zf) Zc Tryz.func242 Tryz.call242 .leaf lf (hk fun _=>by kernel_rfl)
abbrev Qfc:FnE:={f:=203,args:=[.int .i64],res:=[Z4,.bool],F:=fun xs=>Zpc xs.1}
theorem Qc3:okE Qfc:=
 ofE (Za Qkt Zf) Zc Tryz.func203 Tryz.call203 .leaf lf (hk fun _=>by kernel_rfl)
abbrev Qfb:FnE:={f:=204,args:=[.int .i64],res:=[Qu,.bool],F:=fun xs=>Z2d xs.1}
theorem Qc2:okE Qfb:=
 ofE (Za Ku Zf) Zc Tryz.func204 Tryz.call204 .leaf lf (hk fun _=>by kernel_rfl)
abbrev Qfe:FnE:={f:=205,args:=[.int .i64,.int .i64],res:=[Yf,.bool],F:=fun xs=>Z2e xs.1 xs.2.1}
theorem Qc5:okE Qfe:=
 ofE (Za Q7 Zf) Zc Tryz.func205 Tryz.call205 .leaf lf (hk fun _=>by kernel_rfl)
abbrev Qfd:FnE:={f:=153,args:=[.bool,.int .i64,Zks,Zks],res:=[Zu,.bool],F:=fun xs=>Zpd xs.1 xs.2.1 xs.2.2.1 xs.2.2.2.1}
theorem Qc4:okE Qfd:=
 ofE (Za V0 (Za Z2p (Za Z5l (Za Zw3 (Za Zpl (Za Zle (Za Qc3 (Za Qc2 (Za Qc5 Zf))))))))) Zc Tryz.func153 Tryz.call153 .leaf lf (hk fun _=>by kernel_rfl)
abbrev Z7m:FnE:={f:=206,args:=[Zu,.sptr 72 (Zu)],res:=[.bool],F:=fun xs=>Zwx xs.1 xs.2.1}
theorem Z5m:okE Z7m:=
 ofE Zf Zc Tryz.func206 Tryz.call206 .leaf lf (hk fun _=>by kernel_rfl)
abbrev Za7:FnE:={f:=156,args:=[.slice 72 (Zu),.clo 206 (.pair (.sptr 72 (Zu)) (.unit))],res:=[.int .i64],F:=fun xs=>Qs xs.1 xs.2.1}
theorem Zaz:okE Za7:=
 ofE (Za Z5m Zf) Zc Tryz.func156 Tryz.call156 (.seq .leaf (.seq (.seq .leaf (.block (.loop Zab (fun N v=>Qa N v.1 v.2.1 v.2.2.1 v.2.2.2.1) (fun v=>Q2 v.1 v.2.1 v.2.2.1 v.2.2.2.1) (fun K1=> .leaf)))) .leaf)) ⟨lf,⟨lf,fun _=>rfl,fun N=>⟨(fun v=>by kernel_rfl),lf⟩⟩,lf⟩ (hk fun _=>by kernel_rfl)
set_option maxHeartbeats 4000000 in
theorem Q05(k:Nat)(hk:0<k)(zE: ∀w,(Go.sizeOf 72).run Tryz.prog w= .ok k w)(b n c i vb m vc:Nat)(cur vcur:Array Value)(t:TypeId)(w:World)(hi:i<n)(hm:0<m)(hroom:n+m<=c)(hc:c<=maxLen)(hvb:vb≠b)
  (hb:w.heap[b]? =some (.cells cur 72 (0,0))) (hcs:cur.size=c*k) (hv:w.heap[vb]? =some (.cells vcur t (0,0))) (hvs:m*k<=vcur.size)
  (h1: ∀u∈cur.toList.take (n*k),u.oneCell'=true) (h1v: ∀u∈vcur.toList.take (m*k),u.oneCell'=true):
  Calls Tryz.prog 207 #[.slice (some ⟨b,0,none⟩) n c,.int .i64 i,.slice (some ⟨vb,0,none⟩) m vc] w fun e w'=>
   e= .returned (.slice (some ⟨b,0,none⟩) (n+m) c)/\ ∃R1 R2:Array Value,w'=(w.drew.setRow b R1).setRow b R2/\R2.size=cur.size/\
    R2.toList.take ((n+m)*k)=cur.toList.take (i*k)++vcur.toList.take (m*k)++ (cur.toList.take (n*k)).drop (i*k):=by
 have hz1: ¬((m:Int)=0):=by omega
 have hz2: ¬((i:Int)=(n:Int)):=by omega
 have h63:c<=9223372036854775807:=by unfold maxLen at hc;omega
 have hw1:IntKind.i64.wrap ((i:Int)+ (m:Int))=(i:Int)+ (m:Int):=by rw[IntKind.wrap_i64];omega
 have hw2:IntKind.i64.wrap ((n:Int)+ (m:Int))=(n:Int)+ (m:Int):=by rw[IntKind.wrap_i64];omega
 have hb1: (0:Int)<=(i:Int)+ (m:Int):=by omega
 have hin:i<=n:=by omega
 have htn: ((i:Int)+ (m:Int)).toNat=i+m:=by omega
 have hb2: ¬(c=i+m):=by omega
 have hb3: (i:Int)<=(n:Int)+ (m:Int):=by omega
 have hb4: ¬(c=i):=by omega
 have hov: ∀lb cb,(callFunc 243 #[.slice (some ⟨vb,0,none⟩) m vc,.slice (some ⟨b,(i+m)*k,none⟩) lb cb]).run Tryz.prog w= .ok (.value (.bool false)) w:=fun lb cb=>by
  rw[run_callFunc_extern Tryz.func243 (by kernel_rfl) (by kernel_rfl) (by kernel_rfl) (e:=Extern.SlicesOverlaps.overlaps #[26,26] #[4]) (by kernel_rfl),
   Lib.run_overlaps_apart w 26 4 72 (by kernel_rfl) k zE ⟨vb,0,none⟩ ⟨b,(i+m)*k,none⟩ m vc lb cb hvb t 72 vcur.size cur.size (by simp[World.shape?,hv]) (by simp[World.shape?,hb]) (by rw[hcs];exact Nat.mul_ne_zero (by omega) (by omega)) (by simp[World.frozen?,hv]) (by simp[World.frozen?,hv])]
  rfl
 obtain⟨C,hC⟩: ∃C,C=(cur.toList.take (n*k)).drop (i*k):=⟨_,rfl⟩
 obtain⟨V,hV⟩: ∃V,V=vcur.toList.take (m*k):=⟨_,rfl⟩
 have hnk:n*k<=cur.size:=by rw[hcs];exact Nat.mul_le_mul_right _ (by omega)
 have hmk: (n+m)*k<=cur.size:=by rw[hcs];exact Nat.mul_le_mul_right _ hroom
 have hCl:C.length=(n-i)*k:=by rw[hC];simp only[List.length_drop,List.length_take,Array.length_toList];rw[Nat.min_eq_left hnk,Nat.mul_sub_right_distrib]
 have hVl:V.length=m*k:=by rw[hV];simp only[List.length_take,Array.length_toList];omega
 obtain⟨R1,hR1⟩: ∃R1:Array Value,R1=(cur.toList.take ((i+m)*k)++C++cur.toList.drop ((i+m)*k+C.length)).toArray:=⟨_,rfl⟩
 have e1: (i+m)*k+ (n-i)*k=(n+m)*k:=by rw[<-Nat.add_mul];congr 1;omega
 have e2:i*k+m*k=(i+m)*k:=by rw[<-Nat.add_mul]
 have hR1s:R1.size=cur.size:=by rw[hR1];simp only[List.size_toArray,List.length_append,List.length_take,List.length_drop,Array.length_toList];omega
 obtain⟨R2,hR2⟩: ∃R2:Array Value,R2=(R1.toList.take (i*k)++V++R1.toList.drop (i*k+V.length)).toArray:=⟨_,rfl⟩
 have hcp1: ∀ty dc sc,(Builtin.copy_ #[26,26] ty #[.slice (some ⟨b,(i+m)*k,none⟩) (n+m- (i+m)) dc,.slice (some ⟨b,i*k,none⟩) (n+m-i) sc]).run Tryz.prog w.drew= .ok (goInt (n-i:Nat)) (w.drew.setRow b R1):=fun ty dc sc=>by
  rw[hR1];exact Qlh (by kernel_rfl) zE w.drew ty b ((i+m)*k) (n+m- (i+m)) dc ⟨b,i*k,none⟩ (n+m-i) sc cur 72 C hb (n-i) (by simp only[Nat.min_def];split<;>omega) hCl
   (fun j u hj=>by
    rw[hC,List.getElem?_drop,List.getElem?_take]at hj;split at hj
    ·rw[Addr.add_lit];have hd:w.drew.heap[b]? =some (.cells cur 72 (0,0)):=hb;simp only[World.cell?,hd];simpa using hj
    ·cases hj) (by omega) (fun u hu=>h1 u (by rw[hC]at hu;exact List.mem_of_mem_drop hu))
 have hcp2: ∀(W:World),W.heap=(w.drew.setRow b R1).heap-> ∀ty dc,(Builtin.copy_ #[26,26] ty #[.slice (some ⟨b,i*k,none⟩) (n+m-i) dc,.slice (some ⟨vb,0,none⟩) m vc]).run Tryz.prog W= .ok (goInt m) (W.setRow b R2):=fun W hW ty dc=>by
  rw[hR2];exact Qlh (by kernel_rfl) zE W ty b (i*k) (n+m-i) dc ⟨vb,0,none⟩ m vc R1 72 V (by rw[hW];exact Qri (W:=w.drew) hb) m (by simp only[Nat.min_def];split<;>omega) hVl
   (fun j u hj=>by
    rw[hV,List.getElem?_take]at hj;split at hj
    ·rw[Addr.add_lit];simp only[World.cell?,hW];have: (w.drew.setRow b R1).heap[vb]? =some (.cells vcur t (0,0)):=(Qrj (W:=w.drew) hvb).trans hv;rw[this];simpa using hj
    ·cases hj) (by omega) (fun u hu=>h1v u (by rw[hV]at hu;exact hu))
 have hT: (cur.toList.take ((i+m)*k)).length=(i+m)*k:=by
  have: (i+m)*k<=(n+m)*k:=Nat.mul_le_mul_right _ (by omega);rw[List.length_take,Array.length_toList];omega
 have hTi: (cur.toList.take (i*k)).length=i*k:=by
  have:i*k<=(n+m)*k:=Nat.mul_le_mul_right _ (by omega);rw[List.length_take,Array.length_toList];omega
 have r1:R1.toList.take (i*k)=cur.toList.take (i*k):=by
  rw[hR1];simp only[];rw[List.append_assoc,List.take_append_of_le_length (by rw[hT];omega),List.take_take,Nat.min_eq_left (by omega)]
 have r2:R1.toList.drop (i*k+V.length)=C++cur.toList.drop ((n+m)*k):=by
  rw[hVl,e2,hR1];simp only[];rw[List.append_assoc,List.drop_left' hT,hCl,e1]
 have hf1:R2.size=cur.size:=by rw[hR2];simp only[List.size_toArray,List.length_append,List.length_take,List.length_drop,Array.length_toList];omega
 have hf2:R2.toList.take ((n+m)*k)=cur.toList.take (i*k)++V++C:=by
  rw[hR2];simp only[];rw[r1,r2,<-List.append_assoc,List.take_left' (by simp only[List.length_append,hTi,hVl,hCl];omega)]
 rw[<-hV,<-hC];clear hR1 hR2 hC hV r1 r2 hTi hT e1 e2 hR1s hCl hVl hnk hmk h1 h1v hvs hcs hv hb;have mixed:Tryz.prog.follows Departure.mixedOrders=true:=by kernel_rfl
 go_enter Tryz.func207,Tryz.ntmps207
 go_wp2_with (simp only[hov])
 go_region_law_o (refine Qsh rfl (Z4e (t:=26) (t':=26) rfl (by simp[Act.eval,Act.put]) (by simp[Act.eval,Act.put]) (hcp1 _ _ _)) ?_)
 go_wp2_with (at_builtin;refine Zr2 rfl (Z4e (t:=26) (t':=26) rfl rfl rfl (hcp2 _ rfl _ _)) ?_)
 go_ret
 exact⟨rfl,R1,R2,rfl,hf1,hf2⟩
set_option maxHeartbeats 4000000 in
theorem Q58(k:Nat)(hk:0<k)(zE: ∀w,(Go.sizeOf 72).run Tryz.prog w= .ok k w)(base:Option Addr)(n c vb m vc:Nat)(w w':World)(v':Value)(hm:0<m)(hnc:n<=c)(hc:c<=maxLen)(hnil:base=none->n=0/\c=0)
  (hap: (Builtin.append_ #[26,26] 26 #[.slice base n c,.slice (some ⟨vb,0,none⟩) m vc]).run Tryz.prog w= .ok v' w'):
  Calls Tryz.prog 207 #[.slice base n c,.int .i64 n,.slice (some ⟨vb,0,none⟩) m vc] w fun e w2=>e= .returned v'/\w2=w':=by
 have hz1: ¬((m:Int)=0):=by omega
 have h63:c<=9223372036854775807:=by unfold maxLen at hc;omega
 have mixed:Tryz.prog.follows Departure.mixedOrders=true:=by kernel_rfl
 cases base with
 |none=>
  obtain⟨rfl,rfl⟩:=hnil rfl
  go_enter Tryz.func207,Tryz.ntmps207
  go_wp2_with (at_builtin;refine Zr2 rfl (Z14 (t:=26) (t':=26) rfl rfl rfl hap) ?_)
  go_ret
  exact⟨rfl,rfl⟩
 |some ad=>
  go_enter Tryz.func207,Tryz.ntmps207
  go_wp2_with (at_builtin;refine Zr2 rfl (Z14 (t:=26) (t':=26) rfl rfl rfl hap) ?_)
  all_goals (go_ret;exact⟨rfl,rfl⟩)
set_option maxHeartbeats 4000000 in
theorem Q3q(k:Nat)(hk:0<k)(zE: ∀w,(Go.sizeOf 72).run Tryz.prog w= .ok k w)(b n c i vb m vc g G:Nat)(cur vcur ROW:Array Value)(t:TypeId)(w W1:World)(hi:i<n)(hm:0<m)(hnc:n<=c)(hroom:c<n+m)(hc:c<=maxLen)(hGn:n+m<=G)(hGm:G<=maxLen)
  (hb:W1.heap[b]? =some (.cells cur 72 (0,0))) (hcs:cur.size=c*k) (hv:W1.heap[vb]? =some (.cells vcur t (0,0))) (hvs:m*k<=vcur.size) (hg:W1.heap[g]? =some (.cells ROW 72 (0,0))) (hRs:ROW.size=G*k) (hgb:b≠g) (hgv:vb≠g)
  (h1: ∀u∈cur.toList.take (n*k),u.oneCell'=true) (h1v: ∀u∈vcur.toList.take (m*k),u.oneCell'=true)
  (hap: (Builtin.append_ #[26,3] 26 #[.slice (some ⟨b,0,none⟩) i c,.int .i64 ((n:Int)+ (m:Int)- (i:Int))]).run Tryz.prog w= .ok (.slice (some ⟨g,0,none⟩) (n+m) G) W1):
  Calls Tryz.prog 207 #[.slice (some ⟨b,0,none⟩) n c,.int .i64 i,.slice (some ⟨vb,0,none⟩) m vc] w fun e w'=>
   e= .returned (.slice (some ⟨g,0,none⟩) (n+m) G)/\ ∃R1 R2:Array Value,w'=((W1.setRow g R1).drew).setRow g R2/\R2.size=ROW.size/\
    R2.toList.take ((n+m)*k)=ROW.toList.take (i*k)++vcur.toList.take (m*k)++ (cur.toList.take (n*k)).drop (i*k):=by
 have hz1: ¬((m:Int)=0):=by omega
 have hz2: ¬((i:Int)=(n:Int)):=by omega
 have hz3: (c:Int)< (n:Int)+ (m:Int):=by omega
 have h63:c<=9223372036854775807:=by unfold maxLen at hc;omega
 have hG63:G<=9223372036854775807:=by unfold maxLen at hGm;omega
 have hw1:IntKind.i64.wrap ((i:Int)+ (m:Int))=(i:Int)+ (m:Int):=by rw[IntKind.wrap_i64];omega
 have hw2:IntKind.i64.wrap ((n:Int)+ (m:Int))=(n:Int)+ (m:Int):=by rw[IntKind.wrap_i64];omega
 have hw3:IntKind.i64.wrap ((n:Int)+ (m:Int)- (i:Int))=(n:Int)+ (m:Int)- (i:Int):=by rw[IntKind.wrap_i64];omega
 have hb1: (0:Int)<=(i:Int)+ (m:Int):=by omega
 have hin:i<=n:=by omega
 have htn: ((i:Int)+ (m:Int)).toNat=i+m:=by omega
 have hb3: (i:Int)<=(n:Int)+ (m:Int):=by omega
 have hGi: ¬(G=i):=by omega
 have hGim: ¬(G=i+m):=by omega
 have hci: ¬(c=i):=by omega
 obtain⟨C,hC⟩: ∃C,C=(cur.toList.take (n*k)).drop (i*k):=⟨_,rfl⟩
 obtain⟨V,hV⟩: ∃V,V=vcur.toList.take (m*k):=⟨_,rfl⟩
 have hnk:n*k<=cur.size:=by rw[hcs];exact Nat.mul_le_mul_right _ hnc
 have hmk: (n+m)*k<=ROW.size:=by rw[hRs];exact Nat.mul_le_mul_right _ hGn
 have hCl:C.length=(n-i)*k:=by rw[hC];simp only[List.length_drop,List.length_take,Array.length_toList];rw[Nat.min_eq_left hnk,Nat.mul_sub_right_distrib]
 have hVl:V.length=m*k:=by rw[hV];simp only[List.length_take,Array.length_toList];omega
 have e1: (i+m)*k+ (n-i)*k=(n+m)*k:=by rw[<-Nat.add_mul];congr 1;omega
 have e2:i*k+m*k=(i+m)*k:=by rw[<-Nat.add_mul]
 obtain⟨R1,hR1⟩: ∃R1:Array Value,R1=(ROW.toList.take (i*k)++V++ROW.toList.drop (i*k+V.length)).toArray:=⟨_,rfl⟩
 have hR1s:R1.size=ROW.size:=by rw[hR1];simp only[List.size_toArray,List.length_append,List.length_take,List.length_drop,Array.length_toList];omega
 obtain⟨R2,hR2⟩: ∃R2:Array Value,R2=(R1.toList.take ((i+m)*k)++C++R1.toList.drop ((i+m)*k+C.length)).toArray:=⟨_,rfl⟩
 have hcp1: ∀(W:World),W.heap=W1.heap-> ∀ty dc,(Builtin.copy_ #[26,26] ty #[.slice (some ⟨g,i*k,none⟩) (n+m-i) dc,.slice (some ⟨vb,0,none⟩) m vc]).run Tryz.prog W= .ok (goInt m) (W.setRow g R1):=fun W hW ty dc=>by
  rw[hR1];exact Qlh (by kernel_rfl) zE W ty g (i*k) (n+m-i) dc ⟨vb,0,none⟩ m vc ROW 72 V (by rw[hW];exact hg) m (by simp only[Nat.min_def];split<;>omega) hVl
   (fun j u hj=>by
    rw[hV,List.getElem?_take]at hj;split at hj
    ·rw[Addr.add_lit];simp only[World.cell?,hW,hv];simpa using hj
    ·cases hj) (by omega) (fun u hu=>h1v u (by rw[hV]at hu;exact hu))
 have hcp2: ∀(W:World),W.heap=(W1.setRow g R1).heap-> ∀ty dc sc,(Builtin.copy_ #[26,26] ty #[.slice (some ⟨g,(i+m)*k,none⟩) (n+m- (i+m)) dc,.slice (some ⟨b,i*k,none⟩) (n-i) sc]).run Tryz.prog W= .ok (goInt (n-i:Nat)) (W.setRow g R2):=fun W hW ty dc sc=>by
  rw[hR2];exact Qlh (by kernel_rfl) zE W ty g ((i+m)*k) (n+m- (i+m)) dc ⟨b,i*k,none⟩ (n-i) sc R1 72 C (by rw[hW];exact Qri hg) (n-i) (by simp only[Nat.min_def];split<;>omega) hCl
   (fun j u hj=>by
    rw[hC,List.getElem?_drop,List.getElem?_take]at hj;split at hj
    ·rw[Addr.add_lit];have hd:W.heap[b]? =some (.cells cur 72 (0,0)):=by rw[hW];exact(Qrj hgb).trans hb
     simp only[World.cell?,hd];simpa using hj
    ·cases hj) (by omega) (fun u hu=>h1 u (by rw[hC]at hu;exact List.mem_of_mem_drop hu))
 have hTi: (ROW.toList.take (i*k)).length=i*k:=by
  have:i*k<=(n+m)*k:=Nat.mul_le_mul_right _ (by omega);rw[List.length_take,Array.length_toList];omega
 have r1:R1.toList.take ((i+m)*k)=ROW.toList.take (i*k)++V:=by
  rw[hR1];simp only[];rw[List.take_left' (by rw[List.length_append,hTi,hVl,e2])]
 have hf1:R2.size=ROW.size:=by rw[hR2];simp only[List.size_toArray,List.length_append,List.length_take,List.length_drop,Array.length_toList];omega
 have hf2:R2.toList.take ((n+m)*k)=ROW.toList.take (i*k)++V++C:=by
  rw[hR2];simp only[];rw[r1,List.take_left' (by simp only[List.length_append,hTi,hVl,hCl];omega)]
 rw[<-hV,<-hC];clear hR1 hR2 hC hV r1 hTi e1 e2 hR1s hCl hVl hnk hmk h1 h1v hvs hcs hv hb hg hRs;have mixed:Tryz.prog.follows Departure.mixedOrders=true:=by kernel_rfl
 go_enter Tryz.func207,Tryz.ntmps207
 go_wp2_with (at_builtin;first|refine Zr2 rfl (Z14 (t:=26) (t':=3) rfl rfl rfl hap) ?_|refine Zr2 rfl (Z4e (t:=26) (t':=26) rfl rfl rfl (hcp1 _ rfl _ _)) ?_)
 go_region_law_o (refine Qsh rfl (Z4e (t:=26) (t':=26) rfl (by simp[Act.eval,Act.put]) (by simp[Act.eval,Act.put]) (hcp2 (W1.setRow g R1).drew (Eq.refl (W1.setRow g R1).heap) 3 (G- (i+m)) (c-i))) ?_)
 go_wp2
 go_ret
 exact⟨rfl,R1,R2,rfl,hf1,hf2⟩
theorem Q57{t:Ty}(hT:TOK Tryz.prog 26 (.slice 72 t))(hT2:TOK Tryz.prog 72 t){w:World}{v vy:Value}{xs ys:List Value}{l l4:List t.den}{i:Nat}
  (hown:w.ownsRow 0 72 t.size v l.length xs) (hy:w.ownsRow 0 72 t.size vy l4.length ys) (hne: ∀b,v.ownBlock=some b->vy.ownBlock≠some b) (hi:i<=l.length) (hm:0<l4.length) (hp:l.length+l4.length<=Qo)
  (h1: ∀u∈xs,u.oneCell'=true) (h1v: ∀u∈ys,u.oneCell'=true):
  Calls Tryz.prog 207 #[v,.int .i64 i,vy] w fun e w'=> ∃v',e= .returned v'/\w'.ownsRow 0 72 t.size v' (l.length+l4.length) (xs.take (i*t.size)++ys++xs.drop (i*t.size))/\w.grownBy w' v.ownBlock/\(v'.ownBlock=v.ownBlock\/ ∀b,v'.ownBlock=some b->w.heap.size<=b):=by
 have hp':l.length+l4.length<=17179869184:=hp;obtain⟨hu,hpos⟩:=hT.slice;have zE:=fun w=>hT2.sizeOf w;obtain⟨hyl,hy2⟩:=hy;rcases hy2 with⟨_,h0⟩| ⟨vb,vc,vcur,rfl,_,hv,hmc,hvm,hvs,hvt⟩
 ·omega
 have hvs':l4.length*t.size<=vcur.size:=by rw[hvs];exact Nat.mul_le_mul_right _ hmc
 have ends: ∀base n c,v= .slice base n c->n=l.length->n<=c->c<=maxLen->(base=none->n=0/\c=0)->i=n->Calls Tryz.prog 207 #[v,.int .i64 i,.slice (some ⟨vb,0,none⟩) l4.length vc] w fun e w'=> ∃v',e= .returned v'/\w'.ownsRow 0 72 t.size v' (l.length+l4.length) (xs.take (i*t.size)++ys++xs.drop (i*t.size))/\w.grownBy w' v.ownBlock/\(v'.ownBlock=v.ownBlock\/ ∀b,v'.ownBlock=some b->w.heap.size<=b):=by
  rintro base n c rfl rfl hnc hc hnil rfl;obtain⟨v',w',g1,g2,g3,g4⟩:=Zx9 hT hT2 hown (l4:=l4) (ys:=ys) ⟨some ⟨vb,0,none⟩,vc,rfl,hmc,.inr ⟨_,rfl,fun j u hj=>by
   rw[<-hvt,List.getElem?_take]at hj;split at hj
   ·rw[Addr.add_lit];simp only[World.cell?,hv];simpa using hj
   ·cases hj⟩⟩ hyl h1v hp (Nat.zero_le _)
  refine(Q58 t.size hpos zE base _ c vb _ vc w w' v' hm hnc hc hnil g1).mono fun e w2 ⟨he,hw⟩=> ?_;subst hw;refine⟨v',he,?_,g3,g4⟩;have e1:xs.take (l.length*t.size)=xs:=List.take_of_length_le (by rw[hown.1];exact Nat.le_refl _);have e2:xs.drop (l.length*t.size)=[]:=List.drop_of_length_le (by rw[hown.1];exact Nat.le_refl _);rw[e1,e2,List.append_nil];exact g2
 rcases hown.2 with⟨rfl,h0⟩| ⟨b,c,cur,rfl,_,hb,hnc,hc,hcs,htk⟩
 ·exact ends none 0 0 rfl h0.symm (Nat.le_refl _) (Nat.zero_le _) (fun _=>⟨rfl,rfl⟩) (by omega)
 by_cases hin:i=l.length
 ·exact ends (some ⟨b,0,none⟩) l.length c rfl rfl hnc hc (fun h=>by cases h) hin
 have hil:i<l.length:=by omega
 have hvb:vb≠b:=fun e=>hne b rfl (by rw[e];rfl);have h1': ∀u∈cur.toList.take (l.length*t.size),u.oneCell'=true:=by rw[htk];exact h1
 have h1v': ∀u∈vcur.toList.take (l4.length*t.size),u.oneCell'=true:=by rw[hvt];exact h1v
 have hlen: (xs.take (i*t.size)++ys++xs.drop (i*t.size)).length=(l.length+l4.length)*t.size:=by
  have:i*t.size<=l.length*t.size:=Nat.mul_le_mul_right _ hi;simp only[List.length_append,List.length_take,List.length_drop,hown.1,hyl,Nat.add_mul];omega
 have hcap:l.length+l4.length<=maxLen:=by simp only[maxLen];omega
 by_cases hroom:l.length+l4.length<=c
 ·refine(Q05 t.size hpos zE b _ c i vb _ vc cur vcur 72 w hil hm hroom hc hvb hb hcs hv hvs' h1' h1v').mono ?_;rintro e w' ⟨he,R1,R2,rfl,hs,ht⟩;have hik:i*t.size<=l.length*t.size:=Nat.mul_le_mul_right _ hi;have hct:cur.toList.take (i*t.size)=xs.take (i*t.size):=by rw[<-htk,List.take_take,Nat.min_eq_left hik]
  rw[htk,hvt,hct]at ht;refine⟨_,he,⟨hlen,.inr ⟨b,c,R2,rfl,Nat.zero_le _,Qri (Qri (W:=w.drew) hb),hroom,hc,by rw[hs,hcs],ht⟩⟩,?_,.inl rfl⟩;refine⟨rfl,rfl,rfl,by rw[Qzl,Qzl];exact Nat.le_refl _,fun x hx hne=> ?_⟩;have:x≠b:=fun e=>hne (by rw[e];rfl);rw[Qrj this,Qrj this];rfl
 ·obtain⟨i0,hi0,his,hby,hz0⟩:=hT2.size;have hzs: (Xt t (Jy t)).cells.size=t.size:=by rw[Zxl hT2.plain];simp[Zqu hT2.plain]
  have hbt: (l.length+l4.length)*i0.bytes<=140737488355328:=by
   have: (l.length+l4.length)*i0.bytes<=17179869184*8192:=Nat.mul_le_mul hp' hby;omega
  have hik:i*t.size<=l.length*t.size:=Nat.mul_le_mul_right _ hi;have hold: (Builtin.firstCells i0.size i (.slice (some ⟨b,0,none⟩) i c)).run Tryz.prog w.drew= .ok (xs.take (i*t.size)).toArray w.drew:=
   run_firstCells_some w.drew i0.size i ⟨b,0,none⟩ i c (xs.take (i*t.size)) (by rw[List.length_take,hown.1,his];omega) fun j u hj=>by
    rw[List.getElem?_take]at hj;split at hj
    ·exact World.ownsRow.cells (w:=w) hown rfl j u hj
    ·cases hj
  have ek:i+ (l.length+l4.length-i)=l.length+l4.length:=by omega
  have h48: (l.length+l4.length-i)*i0.bytes<=281474976710656:=by
   have: (l.length+l4.length-i)*i0.bytes<=(l.length+l4.length)*i0.bytes:=Nat.mul_le_mul_right _ (by omega);omega
  have hap:=Lib.run_append_grow_zeros (P:=Tryz.prog) w 26 3 26 72 i0 _ .i64 .i64 hu (by kernel_rfl) hi0 hz0 (some ⟨b,0,none⟩) i c _ hold (l.length+l4.length-i) (by omega) (by rw[his];exact hpos) (by omega)
   (by simp only[maxLen]at hcap;omega) h48 (by rw[ek];exact growslice_fits (by omega) hbt)
  rw[ek,show(((l.length+l4.length-i:Nat)):Int)=(l.length:Int)+ (l4.length:Int)- (i:Int) by omega]at hap;have hge:=grownCap_ge w (l.length+l4.length) c 72;have hcm:grownCap w (l.length+l4.length) c 72<=maxLen:=grownCap_le_maxLen w (l.length+l4.length) c 72 hcap;generalize grownCap w (l.length+l4.length) c 72=G at hap hge hcm;obtain⟨ROW,hROW⟩: ∃ROW:Array Value,ROW=(xs.take (i*t.size)).toArray++Builtin.zeroCells (Xt t (Jy t)).cells (l.length+l4.length-i)++Builtin.zeroCells (Xt t (Jy t)).cells (G- (l.length+l4.length)):=⟨_,rfl⟩
  rw[<-hROW]at hap;have hRs:ROW.size=G*t.size:=by
   have e3:i+ (l.length+l4.length-i)+ (G- (l.length+l4.length))=G:=by omega
   rw[<-e3,hROW];simp only[Array.size_append,List.size_toArray,size_zeroCells,hzs,List.length_take,hown.1,Nat.add_mul,Nat.min_eq_left hik]
  have hRt:ROW.toList.take (i*t.size)=xs.take (i*t.size):=by
   rw[hROW];simp only[Array.toList_append,List.append_assoc];rw[List.take_left' (by rw[List.length_take,hown.1];omega)]
  have hbw:b<w.heap.size:=by
   by_cases h:b<w.heap.size
   ·exact h
   ·rw[Array.getElem?_eq_none (by omega)]at hb;cases hb
  have hvw:vb<w.heap.size:=by
   by_cases h:vb<w.heap.size
   ·exact h
   ·rw[Array.getElem?_eq_none (by omega)]at hv;cases hv
  have hW1: ∀x,x<w.heap.size->(w.drew.alloc (.cells ROW 72)).heap[x]? =w.heap[x]? :=fun x hx=>heap_alloc_old w.drew _ hx;refine(Q3q t.size hpos zE b _ c i vb _ vc w.heap.size G cur vcur ROW 72 w (w.drew.alloc (.cells ROW 72)) hil hm hnc (by omega) hc hge hcm (by rw[hW1 b hbw];exact hb) hcs (by rw[hW1 vb hvw];exact hv) hvs' (heap_alloc_new w.drew _) hRs (by omega) (by omega) h1' h1v' hap).mono ?_;rintro e w' ⟨he,R1,R2,rfl,hs,ht⟩;rw[htk,hvt,hRt]at ht;refine⟨_,he,⟨hlen,.inr ⟨w.heap.size,G,R2,rfl,Nat.zero_le _,Qri (W:=((w.drew.alloc (.cells ROW 72)).setRow w.heap.size R1).drew) (Qri (heap_alloc_new w.drew _)),hge,hcm,by rw[hs,hRs],ht⟩⟩,?_,.inr fun b' hb'=> ?_⟩
  ·refine⟨rfl,rfl,rfl,?_,fun x hx hne=> ?_⟩
   ·rw[Qzl];show w.heap.size<=((w.drew.alloc (.cells ROW 72)).setRow w.heap.size R1).heap.size;rw[Qzl];simp[World.alloc]
   ·have:x≠w.heap.size:=by omega
    rw[Qrj this];show((w.drew.alloc (.cells ROW 72)).setRow w.heap.size R1).heap[x]? =_;rw[Qrj this];exact hW1 x hx
  ·simp only[Value.ownBlock,Osi]at hb';omega
abbrev Qjq:FnB:={f:=207,args:=[.mv (.slice 72 (Zu)),.sh (.int .i64),.mv (.slice 72 (Zu))],res:= .vals [.slice 72 (Zu)],F:=fun xs=>Q3o xs.1 xs.2.1 xs.2.2.1}
theorem Qgz:Z1k Tryz.prog glob Qjq:=Z1k.insert Tryz.call207 fun h1 h2 h3 h4 h5 h6 h7 h8=>Q57 Q45 Q46 h1 h2 h3 h4 h5 h6 h7 h8
abbrev Qff:FnE:={f:=154,args:=[.slice 72 (Zu),Zu],res:=[.slice 72 (Zu)],F:=fun xs=>Zhu xs.1 xs.2.1}
theorem Qc6:okE Qff:=
 ofE (Za Zsy (Za Zoa (Za Zub (Za Zaz Zf)))) (Zt Qgz Zc) Tryz.func154 Tryz.call154 (.seq .leaf (.seq .leaf (.seq .leaf (.seq .leaf (.join Z5h (fun v=>Zfs v.1 v.2.1 v.2.2.1) .leaf .leaf))))) ⟨lf,lf,lf,lf,lf,(fun v=>by kernel_rfl),lf⟩ (hk fun _=>by kernel_rfl)
abbrev Vx:FnB:={f:=82,args:=[.bx 37 (Zp) (.u true),.sh (.int .i64)],res:= .vals [.int .i64],F:=fun xs=>Wi xs.1 xs.2.1}
theorem Zmz:okB Vx:=
 ofB [0] (Za Zoa (Za Zq3 (Za Qkr (Za Qgv (Za Qc4 (Za Qc6 Zf)))))) (Zt Zqf Zc) Tryz.func82 Tryz.call82 (.seq .leaf (.seq .leaf (.seq .leaf (.join Z0h (fun v=>Y4 v.1 v.2.1 v.2.2.1 v.2.2.2.1 v.2.2.2.2.1) .leaf (.seq .leaf (.join Z0i (fun v=>Zda v.1 v.2.1 v.2.2.1) .leaf (.seq (.seq .leaf (.block (.loop Z0k (fun N v=>Zal N v.1 v.2.1 v.2.2.1) (fun v=>Zgm v.1 v.2.1 v.2.2.1) (fun K1=>(.seq .leaf (.seq (.block (.join Z0j (fun v=>Zmw K1 v.1 v.2.1 v.2.2.1 v.2.2.2.1) .leaf .leaf)) .leaf)))))) .leaf))))))) ⟨lf,lf,lf,lf,(fun v=>by kernel_rfl),lf,lf,(fun v=>by kernel_rfl),⟨lf,fun _=>rfl,fun N=>⟨(fun v=>by kernel_rfl),lf,⟨lf,(fun v=>by kernel_rfl),lf⟩,lf⟩⟩,lf⟩ (hk fun _=>by kernel_rfl)
abbrev Zr6:FnE:={f:=87,args:=[Z7,.int .i64],res:=[.int .i64],F:=fun xs=>Zm8 xs.1 xs.2.1}
theorem Qgt:okE Zr6:=
 ofE (Za Zef (Za Ku Zf)) Zc Tryz.func87 Tryz.call87 .leaf lf (hk fun _=>by kernel_rfl)
abbrev Ztu:FnE:={f:=88,args:=[Yf],res:=[.int .i64],F:=fun xs=>Zjd xs.1}
theorem Qks:okE Ztu:=
 ofE (Za Zh0 Zf) Zc Tryz.func88 Tryz.call88 .leaf lf (hk fun _=>by kernel_rfl)
abbrev Z7p:FnE:={f:=91,args:=[Z7,.int .i64,.bool],res:=[.bool],F:=fun xs=>Zma xs.1 xs.2.1 xs.2.2.1}
theorem Zsx:okE Z7p:=
 ofE Zf Zc Tryz.func91 Tryz.call91 .leaf lf (hk fun _=>by kernel_rfl)
abbrev Qs2:FnE:={f:=92,args:=[Z7],res:=[.bool],F:=fun xs=>Zt0 xs.1}
theorem Z65:okE Qs2:=
 ofE Zf Zc Tryz.func92 Tryz.call92 .leaf lf (hk fun _=>by kernel_rfl)
open Go.RowKit Go.Sort Go.Shelf Go.Lib in
theorem Q62(x1 y1:Int)(x2 y2:List UInt8)(W:World)(h1:0<=x1)(h2:x1<=4611686018427387904)(h3:0<=y1)(h4:y1<=4611686018427387904):
  Calls Tryz.prog 164 #[.agg #[.int .i64 x1,.string ⟨⟨x2⟩⟩],.agg #[.int .i64 y1,.string ⟨⟨y2⟩⟩]] W fun en w'=>en= .returned (.int .i64 (x1-y1))/\ ∃q os',w'=grow (W.drewN q) os':=by
 have hw:IntKind.i64.wrap (x1-y1)=x1-y1:=by rw[IntKind.wrap_i64];omega
 go_enter Tryz.func164,Tryz.ntmps164
 go_wp2
 go_ret
 exact⟨rfl,0,_,by rw[alloc_eq_grow,alloc_eq_grow,grow_grow];rfl⟩
abbrev Zvf:FnL:={f:=163,e:=158,t:=Zhj,args:=[.fnc 164],res:=[],F:=fun l _=>Qsg l}
theorem Z81:Qaj Tryz.prog glob Zvf:=Qaj.sort Tryz.call163 (fun p cap fv w=>Go.Proofs.AnyF.slices_SortFunc_none Tryz.sortLaid p cap fv w)
  (fun α _ enc c blk cap d w hk h1 hO hT hcmp hH hblk hsz=>Go.Proofs.AnyQ.slices_SortFunc_total Tryz.sortLaid 2 (fun w=>by kernel_rfl) (fun w=>by kernel_rfl) enc hk h1 c hO 164 #[] blk 0 cap d w (fun _ _=>Tryz.call164 _ _) hcmp hH hblk hsz hT)
  (fun x y W h1 h2 h3 h4=>Q62 x.1 y.1 x.2.1 y.2.1 W h1 h2 h3 h4)
abbrev Z6x:FnE:={f:=165,args:=[.slice 158 (Zhj)],res:=[.slice 158 (Zhj)],F:=fun xs=>Zoq xs.1}
theorem Qoj:okE Z6x:=
 ofE (Za Zky Zf) Zc Tryz.func165 Tryz.call165 (.seq .leaf (.seq .leaf (.seq (.seq .leaf (.block (.loop Qgc (fun N v=>Zec N v.1 v.2.1 v.2.2.1 v.2.2.2.1) (fun v=>Zg0 v.1 v.2.1 v.2.2.1 v.2.2.2.1) (fun K1=> .leaf)))) .leaf))) ⟨lf,lf,⟨lf,fun _=>rfl,fun N=>⟨(fun v=>by kernel_rfl),lf⟩⟩,lf⟩ (hk fun _=>by kernel_rfl)
abbrev Zs5:Zqg:={f:=161,n:=27,np:=6,rv:=Tryz.f161.results.toList,run:=fun ln _ k s=>Vf (Zi2 [] ln [] [] [] []) 27 (Zax Tryz.f161) .leaf k s}
theorem Z2k:Wg Tryz.prog glob Zs5:=Wg.of (C:=Zi2 [] [] [] [] [] []) (fun ln=>Za1 (ln:=ln) Ve rfl Zf Jf Zc Jg) Tryz.func161 rfl Tryz.call161 (by decide) rfl rfl (fun _ _ _=>rfl)
abbrev Zvd:FnE:={f:=93,args:=[Qw,.int .i64,.str],res:=[Qw],F:=fun xs=>Znm xs.1 xs.2.1 xs.2.2.1}
theorem Z8r:Zr3 Tryz.prog glob Zvd:=by
 refine Zr3.of (e:=Zvd) (C:=Zi2 [Zs5] [] [Zz1,Zve,Zwr,Z6x] [Zvf] [] []) (Za1 (Xk Z2k Ve) rfl (Za Zmb (Za Zt9 (Za Zky (Za Qoj Zf)))) (Q0x Z81 Jf) Zc Jg) rfl Tryz.func93 (c:=Zax Tryz.f93) rfl Tryz.call93 (by decide)
  ((.seq .leaf (.seq .leaf (.join Z2a (fun v=>Zn8 v.1 v.2.1 v.2.2.1 v.2.2.2.1 v.2.2.2.2.1 v.2.2.2.2.2.1) .leaf (.seq .leaf (.seq .leaf (.seq (.seq .leaf (.block (.loop Z2b (fun N v=>Zbp N v.1 v.2.1 v.2.2.1 v.2.2.2.1 v.2.2.2.2.1 v.2.2.2.2.2.1 v.2.2.2.2.2.2.1 v.2.2.2.2.2.2.2.1 v.2.2.2.2.2.2.2.2.1 v.2.2.2.2.2.2.2.2.2.1) (fun v=>Zhq v.1 v.2.1 v.2.2.1 v.2.2.2.1 v.2.2.2.2.1 v.2.2.2.2.2.1 v.2.2.2.2.2.2.1 v.2.2.2.2.2.2.2.1 v.2.2.2.2.2.2.2.2.1 v.2.2.2.2.2.2.2.2.2.1) (fun K1=> .leaf)))) .leaf))))))) ?_ ?_
 ·exact⟨lf,⟨lf,⟨lf,(fun v=>by kernel_rfl),⟨lf,⟨lf,⟨⟨lf,⟨fun _=>rfl,fun N=>⟨(fun v=>by kernel_rfl),lf⟩⟩⟩,lf⟩⟩⟩⟩⟩⟩
 ·intro xs r h;refine Eq.trans (Eq.symm ?_) h;kernel_rfl
abbrev Zn6:FnE:={f:=30,args:=[Z7,.int .i64,.str,.bool],res:=[Z7,.int .i64],F:=fun xs=>Zl8 xs.1 xs.2.1 xs.2.2.1 xs.2.2.2.1}
theorem Z5n:okE Zn6:=
 ofE (Za Zlg (Za Zef (Za Zsx (Za Z65 (Za Z8r (Za Zw6 Zf)))))) Zc Tryz.func30 Tryz.call30 (.seq .leaf (.seq .leaf (.seq .leaf (.seq .leaf (.seq .leaf (.seq .leaf (.seq .leaf (.join Z0l (fun v=>Zdb v.1 v.2.1 v.2.2.1 v.2.2.2.1 v.2.2.2.2.1) .leaf (.seq .leaf (.join Z0m (fun v=>Zmx v.1 v.2.1) .leaf .leaf)))))))))) ⟨lf,lf,lf,lf,lf,lf,lf,lf,(fun v=>by kernel_rfl),lf,lf,(fun v=>by kernel_rfl),lf⟩ (hk fun _=>by kernel_rfl)
abbrev Zr7:FnE:={f:=95,args:=[Yf,.int .i64],res:=[Yf,.bool],F:=fun xs=>Zgp xs.1 xs.2.1}
theorem Qgu:okE Zr7:=
 ofE (Za Zh0 (Za Q7 Zf)) Zc Tryz.func95 Tryz.call95 .leaf lf (hk fun _=>by kernel_rfl)
abbrev Qa3:FnE:={f:=167,args:=[Zu],res:=[.bool],F:=fun xs=>Zsb xs.1}
theorem Z8v:okE Qa3:=
 ofE Zf Zc Tryz.func167 Tryz.call167 .leaf lf (hk fun _=>by kernel_rfl)
abbrev Qa0:FnE:={f:=210,args:=[Z7],res:=[.bool],F:=fun xs=>Zsa xs.1}
theorem Z8t:okE Qa0:=
 ofE (Za Zef Zf) Zc Tryz.func210 Tryz.call210 .leaf lf (hk fun _=>by kernel_rfl)
abbrev Qa2:FnE:={f:=168,args:=[Zu],res:=[.bool],F:=fun xs=>Znn xs.1}
theorem Z8u:okE Qa2:=
 ofE (Za Z8t Zf) Zc Tryz.func168 Tryz.call168 .leaf lf (hk fun _=>by kernel_rfl)
abbrev Zv6:FnE:={f:=96,args:=[Zu],res:=[.bool],F:=fun xs=>Zfr xs.1}
theorem Qoh:okE Zv6:=
 ofE (Za Zw5 (Za Z8v (Za Z8u Zf))) Zc Tryz.func96 Tryz.call96 .leaf lf (hk fun _=>by kernel_rfl)
abbrev Zr5:FnE:={f:=97,args:=[Qu],res:=[Qu,.bool],F:=fun xs=>Qj xs.1}
theorem Qgp:okE Zr5:=
 ofE (Za Zsf Zf) Zc Tryz.func97 Tryz.call97 .leaf lf (hk fun _=>by kernel_rfl)
abbrev Zh4:Zqg:={f:=26,n:=18,np:=3,rv:=Tryz.f26.results.toList,run:=fun ln _ k s=>Vf (Zi2 [] ln [Zc8] [] [Vx] []) 18 (Zax Tryz.f26) .leaf k s}
theorem Zvl:Wg Tryz.prog glob Zh4:=Wg.of (C:=Zi2 [] [] [Zc8] [] [Vx] []) (fun ln=>Za1 (ln:=ln) Ve rfl (Za Zle Zf) Jf (Zt Zmz Zc) Jg) Tryz.func26 rfl Tryz.call26 (by decide) rfl rfl (fun _ _ _=>rfl)
abbrev Jr:Zqg:={f:=28,n:=16,np:=2,rv:=Tryz.f28.results.toList,run:=fun ln _ k s=>Vf (Zi2 [] ln [Zo5] [] [] []) 16 (Zax Tryz.f28) .leaf k s}
theorem Zj1:Wg Tryz.prog glob Jr:=Wg.of (C:=Zi2 [] [] [Zo5] [] [] []) (fun ln=>Za1 (ln:=ln) Ve rfl (Za Zoa Zf) Jf Zc Jg) Tryz.func28 rfl Tryz.call28 (by decide) rfl rfl (fun _ _ _=>rfl)
abbrev Zfw:Zqg:={f:=29,n:=32,np:=3,rv:=Tryz.f29.results.toList,run:=fun ln _ k s=>Vf (Zi2 [] ln [Zr6,Ztu] [] [] []) 32 (Zax Tryz.f29) .leaf k s}
theorem Zt3:Wg Tryz.prog glob Zfw:=Wg.of (C:=Zi2 [] [] [Zr6,Ztu] [] [] []) (fun ln=>Za1 (ln:=ln) Ve rfl (Za Qgt (Za Qks Zf)) Jf Zc Jg) Tryz.func29 rfl Tryz.call29 (by decide) rfl rfl (fun _ _ _=>rfl)
abbrev Zj5:Zqg:={f:=31,n:=30,np:=3,rv:=Tryz.f31.results.toList,run:=fun ln _ k s=>Vf (Zi2 [] ln [Zr7] [] [] []) 30 (Zax Tryz.f31) .leaf k s}
theorem Zw0:Wg Tryz.prog glob Zj5:=Wg.of (C:=Zi2 [] [] [Zr7] [] [] []) (fun ln=>Za1 (ln:=ln) Ve rfl (Za Qgu Zf) Jf Zc Jg) Tryz.func31 rfl Tryz.call31 (by decide) rfl rfl (fun _ _ _=>rfl)
abbrev Kn:Zqg:={f:=32,n:=43,np:=2,rv:=Tryz.f32.results.toList,run:=fun ln _ k s=>Vf (Zi2 [Jr] ln [Zyg,Zv6,Zr5] [] [Zk9] []) 43 (Zax Tryz.f32) .leaf k s}
theorem Zhx:Wg Tryz.prog glob Kn:=Wg.of (C:=Zi2 [Jr] [] [Zyg,Zv6,Zr5] [] [Zk9] []) (fun ln=>Za1 (ln:=ln) (Xk Zj1 Ve) rfl (Za Zq3 (Za Qoh (Za Qgp Zf))) Jf (Zt Zqf Zc) Jg) Tryz.func32 rfl Tryz.call32 (by decide) rfl rfl (fun _ _ _=>rfl)
abbrev Zg1:Zqg:={f:=25,n:=64,np:=2,rv:=Tryz.f25.results.toList,run:=fun ln _ k s=>Vf (Zi2 [Zh4,Jr,Zfw,Zj5,Kn] ln [Zn6] [] [] []) 64 (Zax Tryz.f25) .leaf k s}
theorem Zrq:Wg Tryz.prog glob Zg1:=Wg.of (C:=Zi2 [Zh4,Jr,Zfw,Zj5,Kn] [] [Zn6] [] [] []) (fun ln=>Za1 (ln:=ln) (Xk Zvl (Xk Zj1 (Xk Zt3 (Xk Zw0 (Xk Zhx Ve))))) rfl (Za Z5n Zf) Jf Zc Jg) Tryz.func25 rfl Tryz.call25 (by decide) rfl rfl (fun _ _ _=>rfl)
abbrev Z22:Zqg:={f:=24,n:=36,np:=4,rv:=Tryz.f24.results.toList,run:=fun ln _ k s=>Vf (Zi2 [Zg1] ln [Zbw,W5,Vs] [] [] []) 36 (Zax Tryz.f24) .leaf k s}
theorem Qkq:Wg Tryz.prog glob Z22:=Wg.of (C:=Zi2 [Zg1] [] [Zbw,W5,Vs] [] [] []) (fun ln=>Za1 (ln:=ln) (Xk Zrq Ve) rfl (Za Zlf (Za Zj3 (Za Zmd Zf))) Jf Zc Jg) Tryz.func24 rfl Tryz.call24 (by decide) rfl rfl (fun _ _ _=>rfl)
abbrev Zvb:FnE:={f:=6,args:=[Zp,Zx],res:=[Zp,.int .i64],F:=fun xs=>Zjw xs.1 xs.2.1}
theorem Zt7:Zr3 Tryz.prog glob Zvb:=by
 refine Zr3.of (e:=Zvb) (C:=Zi2 [Zg1,Z22] [] [] [] [] []) (Za1 (Xk Zrq (Xk Qkq Ve)) rfl Zf Jf Zc Jg) rfl Tryz.func6 (c:=Zax Tryz.f6) rfl Tryz.call6 (by decide)
  (.leaf) ?_ ?_
 ·exact lf
 ·intro xs r h;refine Eq.trans (Eq.symm ?_) h;kernel_rfl
abbrev Zyk:FnB:={f:=8,args:=[.sh (.slice 5 (.int .u8))],res:= .shr [Zp,Zx],F:=fun xs=>Zf4 xs.1}
theorem Zw9:okB Zyk:=
 ofB [] Zf (Zt Zns Zc) Tryz.func8 Tryz.call8 .leaf lf (hk fun _=>by kernel_rfl)
abbrev Zmv:FnE:={f:=43,args:=[Z7,.int .i64,.int .i64],res:=[Z7,.int .i64],F:=fun xs=>Zkw xs.1 xs.2.1 xs.2.2.1}
theorem Z2q:okE Zmv:=
 ofE (Za Zlg (Za Zef (Za Ku (Za Zsx (Za Z65 Zf))))) Zc Tryz.func43 Tryz.call43 .leaf lf (hk fun _=>by kernel_rfl)
abbrev Zqj:FnE:={f:=129,args:=[Yf,.int .i64],res:=[Yf,.bool],F:=fun xs=>Zea xs.1 xs.2.1}
theorem Qc7:okE Zqj:=
 ofE (Za Zh0 (Za Q7 Zf)) Zc Tryz.func129 Tryz.call129 .leaf lf (hk fun _=>by kernel_rfl)
abbrev Zlj:Zqg:={f:=44,n:=38,np:=3,rv:=Tryz.f44.results.toList,run:=fun ln _ k s=>Vf (Zi2 [] ln [Zqj] [] [] []) 38 (Zax Tryz.f44) .leaf k s}
theorem Z0q:Wg Tryz.prog glob Zlj:=Wg.of (C:=Zi2 [] [] [Zqj] [] [] []) (fun ln=>Za1 (ln:=ln) Ve rfl (Za Qc7 Zf) Jf Zc Jg) Tryz.func44 rfl Tryz.call44 (by decide) rfl rfl (fun _ _ _=>rfl)
abbrev Zfy:Zqg:={f:=42,n:=76,np:=2,rv:=Tryz.f42.results.toList,run:=fun ln _ k s=>Vf (Zi2 [Zh4,Jr,Zfw,Zj5,Zlj,Kn] ln [Zmv] [] [] []) 76 (Zax Tryz.f42) .leaf k s}
theorem Zqe:Wg Tryz.prog glob Zfy:=Wg.of (C:=Zi2 [Zh4,Jr,Zfw,Zj5,Zlj,Kn] [] [Zmv] [] [] []) (fun ln=>Za1 (ln:=ln) (Xk Zvl (Xk Zj1 (Xk Zt3 (Xk Zw0 (Xk Z0q (Xk Zhx Ve)))))) rfl (Za Z2q Zf) Jf Zc Jg) Tryz.func42 rfl Tryz.call42 (by decide) rfl rfl (fun _ _ _=>rfl)
abbrev Zxi:Zqg:={f:=24,n:=36,np:=4,rv:=Tryz.f24.results.toList,run:=fun ln _ k s=>Vf (Zi2 [Zfy] ln [Zbw,W5,Vs] [] [] []) 36 (Zax Tryz.f24) .leaf k s}
theorem Qcj:Wg Tryz.prog glob Zxi:=Wg.of (C:=Zi2 [Zfy] [] [Zbw,W5,Vs] [] [] []) (fun ln=>Za1 (ln:=ln) (Xk Zqe Ve) rfl (Za Zlf (Za Zj3 (Za Zmd Zf))) Jf Zc Jg) Tryz.func24 rfl Tryz.call24 (by decide) rfl rfl (fun _ _ _=>rfl)
abbrev Ztt:FnE:={f:=9,args:=[Zp,Zx],res:=[Zp,.int .i64],F:=fun xs=>Zhp xs.1 xs.2.1}
theorem Zsw:Zr3 Tryz.prog glob Ztt:=by
 refine Zr3.of (e:=Ztt) (C:=Zi2 [Zfy,Zxi] [] [] [] [] []) (Za1 (Xk Zqe (Xk Qcj Ve)) rfl Zf Jf Zc Jg) rfl Tryz.func9 (c:=Zax Tryz.f9) rfl Tryz.call9 (by decide)
  (.leaf) ?_ ?_
 ·exact lf
 ·intro xs r h;refine Eq.trans (Eq.symm ?_) h;kernel_rfl
abbrev Qbi:FnE:={f:=221,args:=[Vj,Vj],res:=[.bool],F:=fun xs=>Znx xs.1 xs.2.1}
theorem Z86:okE Qbi:=
 ofE Zf Zc Tryz.func221 Tryz.call221 (.seq .leaf (.seq .leaf (.seq (.seq .leaf (.block (.loop Z3f (fun N v=>Zen N v.1 v.2.1 v.2.2.1) (fun v=>Zif v.1 v.2.1 v.2.2.1) (fun K1=> .leaf)))) .leaf))) ⟨lf,lf,⟨lf,fun _=>rfl,fun N=>⟨(fun v=>by kernel_rfl),lf⟩⟩,lf⟩ (hk fun _=>by kernel_rfl)
abbrev Z7x:FnE:={f:=222,args:=[.slice 167 (Zw),.slice 167 (Zw)],res:=[.bool],F:=fun xs=>Zdz xs.1 xs.2.1}
theorem Z5w:okE Z7x:=
 ofE Zf Zc Tryz.func222 Tryz.call222 (.seq .leaf (.seq .leaf (.seq (.seq .leaf (.block (.loop Z03 (fun N v=>Zdf N v.1 v.2.1 v.2.2.1) (fun v=>Zgr v.1 v.2.1 v.2.2.1) (fun K1=> .leaf)))) .leaf))) ⟨lf,lf,⟨lf,fun _=>rfl,fun N=>⟨(fun v=>by kernel_rfl),lf⟩⟩,lf⟩ (hk fun _=>by kernel_rfl)
abbrev Z5c:FnE:={f:=182,args:=[Z4,Z4],res:=[.bool],F:=fun xs=>Zk2 xs.1 xs.2.1}
theorem Z2v:okE Z5c:=
 ofE (Za Z86 (Za Z5w Zf)) Zc Tryz.func182 Tryz.call182 .leaf lf (hk fun _=>by kernel_rfl)
abbrev Z5b:FnE:={f:=223,args:=[Qw,Qw],res:=[.bool],F:=fun xs=>Zk1 xs.1 xs.2.1}
theorem Z2u:okE Z5b:=
 ofE Zf Zc Tryz.func223 Tryz.call223 (.seq .leaf (.seq .leaf (.seq (.seq .leaf (.block (.loop Zzs (fun N v=>Zcb N v.1 v.2.1 v.2.2.1) (fun v=>Zfa v.1 v.2.1 v.2.2.1) (fun K1=> .leaf)))) .leaf))) ⟨lf,lf,⟨lf,fun _=>rfl,fun N=>⟨(fun v=>by kernel_rfl),lf⟩⟩,lf⟩ (hk fun _=>by kernel_rfl)
abbrev Z0f:FnE:={f:=183,args:=[Z7,Z7],res:=[.bool],F:=fun xs=>Zhc xs.1 xs.2.1}
theorem Zy6:okE Z0f:=
 ofE (Za Z2u Zf) Zc Tryz.func183 Tryz.call183 .leaf lf (hk fun _=>by kernel_rfl)
abbrev Z5d:FnE:={f:=131,args:=[Zu,Zu],res:=[.bool],F:=fun xs=>Zk3 xs.1 xs.2.1}
theorem Z2w:okE Z5d:=
 ofE (Za Z2v (Za Zy6 Zf)) Zc Tryz.func131 Tryz.call131 .leaf lf (hk fun _=>by kernel_rfl)
abbrev Z7y:FnE:={f:=47,args:=[.slice 72 (Zu),.slice 72 (Zu)],res:=[.bool],F:=fun xs=>Zmh xs.1 xs.2.1}
theorem Z5x:okE Z7y:=
 ofE (Za Z2w Zf) Zc Tryz.func47 Tryz.call47 (.seq .leaf (.seq .leaf (.seq (.seq .leaf (.block (.loop Z04 (fun N v=>Zdg N v.1 v.2.1 v.2.2.1) (fun v=>Zgs v.1 v.2.1 v.2.2.1) (fun K1=> .leaf)))) .leaf))) ⟨lf,lf,⟨lf,fun _=>rfl,fun N=>⟨(fun v=>by kernel_rfl),lf⟩⟩,lf⟩ (hk fun _=>by kernel_rfl)
abbrev Z0g:FnE:={f:=48,args:=[.slice 130 (Y1),.slice 130 (Y1)],res:=[.bool],F:=fun xs=>Zhh xs.1 xs.2.1}
theorem Zy7:okE Z0g:=
 ofE Zf Zc Tryz.func48 Tryz.call48 (.seq .leaf (.seq .leaf (.seq (.seq .leaf (.block (.loop Zwi (fun N v=>Zah N v.1 v.2.1 v.2.2.1) (fun v=>Zdp v.1 v.2.1 v.2.2.1) (fun K1=>(.seq .leaf (.seq (.block (.seq .leaf (.seq .leaf (.block (.loop Zwj (fun N v=>Zai K1 N v.1 v.2.1 v.2.2.1 v.2.2.2.1) (fun v=>Wv v.1 v.2.1 v.2.2.1 v.2.2.2.1) (fun K2=> .leaf)))))) .leaf)))))) .leaf))) ⟨lf,lf,⟨lf,fun _=>rfl,fun N=>⟨(fun v=>by kernel_rfl),lf,⟨lf,lf,fun _=>rfl,fun N=>⟨(fun v=>by kernel_rfl),lf⟩⟩,lf⟩⟩,lf⟩ (hk fun _=>by kernel_rfl)
abbrev Qbh:FnE:={f:=11,args:=[Zp,Zp],res:=[.bool],F:=fun xs=>Ym xs.1 xs.2.1}
theorem Z85:okE Qbh:=
 ofE (Za Z5x (Za Zy7 Zf)) Zc Tryz.func11 Tryz.call11 .leaf lf (hk fun _=>by kernel_rfl)
abbrev Z0e:FnB:={f:=13,args:=[.sh (.slice 5 (.int .u8))],res:= .shr [Zp,Zx],F:=fun xs=>Zg7 xs.1}
theorem Zy5:okB Z0e:=
 ofB [] Zf (Zt Zns Zc) Tryz.func13 Tryz.call13 .leaf lf (hk fun _=>by kernel_rfl)
abbrev Qjo:FnE:={f:=139,args:=[Z4],res:=[.bool],F:=fun xs=>Zwb xs.1}
theorem Qgy:okE Qjo:=
 ofE (Za Zw4 (Za Q7 Zf)) Zc Tryz.func139 Tryz.call139 .leaf lf (hk fun _=>by kernel_rfl)
abbrev Zn7:FnE:={f:=61,args:=[Z4,.int .i64],res:=[Z4,.bool],F:=fun xs=>Zl9 xs.1 xs.2.1}
theorem Z5o:okE Zn7:=
 ofE (Za Qgy (Za Ku (Za Zua Zf))) Zc Tryz.func61 Tryz.call61 (.seq .leaf (.seq .leaf (.join Z0n (fun v=>Zmy v.1 v.2.1 v.2.2.1 v.2.2.2.1) .leaf .leaf))) ⟨lf,lf,lf,(fun v=>by kernel_rfl),lf⟩ (hk fun _=>by kernel_rfl)
abbrev Zoh:Zqg:={f:=26,n:=18,np:=3,rv:=Tryz.f26.results.toList,run:=fun ln _ k s=>Vf (Zi2 [] ln [Zhk] [] [Vx] []) 18 (Zax Tryz.f26) .leaf k s}
theorem Z5j:Wg Tryz.prog glob Zoh:=Wg.of (C:=Zi2 [] [] [Zhk] [] [Vx] []) (fun ln=>Za1 (ln:=ln) Ve rfl (Za Zpl Zf) Jf (Zt Zmz Zc) Jg) Tryz.func26 rfl Tryz.call26 (by decide) rfl rfl (fun _ _ _=>rfl)
abbrev Zg2:Zqg:={f:=59,n:=41,np:=2,rv:=Tryz.f59.results.toList,run:=fun ln _ k s=>Vf (Zi2 [Zoh,Jr,Kn] ln [Zn7] [] [] []) 41 (Zax Tryz.f59) .leaf k s}
theorem Zrr:Wg Tryz.prog glob Zg2:=Wg.of (C:=Zi2 [Zoh,Jr,Kn] [] [Zn7] [] [] []) (fun ln=>Za1 (ln:=ln) (Xk Z5j (Xk Zj1 (Xk Zhx Ve))) rfl (Za Z5o Zf) Jf Zc Jg) Tryz.func59 rfl Tryz.call59 (by decide) rfl rfl (fun _ _ _=>rfl)
abbrev Zxj:Zqg:={f:=24,n:=36,np:=4,rv:=Tryz.f24.results.toList,run:=fun ln _ k s=>Vf (Zi2 [Zg2] ln [Zbw,W5,Vs] [] [] []) 36 (Zax Tryz.f24) .leaf k s}
theorem Qck:Wg Tryz.prog glob Zxj:=Wg.of (C:=Zi2 [Zg2] [] [Zbw,W5,Vs] [] [] []) (fun ln=>Za1 (ln:=ln) (Xk Zrr Ve) rfl (Za Zlf (Za Zj3 (Za Zmd Zf))) Jf Zc Jg) Tryz.func24 rfl Tryz.call24 (by decide) rfl rfl (fun _ _ _=>rfl)
abbrev Zvc:FnE:={f:=14,args:=[Zp,Zx],res:=[Zp,.int .i64],F:=fun xs=>Zjx xs.1 xs.2.1}
theorem Zt8:Zr3 Tryz.prog glob Zvc:=by
 refine Zr3.of (e:=Zvc) (C:=Zi2 [Zg2,Zxj] [] [] [] [] []) (Za1 (Xk Zrr (Xk Qck Ve)) rfl Zf Jf Zc Jg) rfl Tryz.func14 (c:=Zax Tryz.f14) rfl Tryz.call14 (by decide)
  (.leaf) ?_ ?_
 ·exact lf
 ·intro xs r h;refine Eq.trans (Eq.symm ?_) h;kernel_rfl
abbrev Zyj:FnB:={f:=16,args:=[.sh (.slice 5 (.int .u8))],res:= .shr [Zp,Zx],F:=fun xs=>Zf3 xs.1}
theorem Zw8:okB Zyj:=
 ofB [] Zf (Zt Zwf (Zt Zfv (Zt Zns Zc))) Tryz.func16 Tryz.call16 .leaf lf (hk fun _=>by kernel_rfl)
abbrev Zo7:FnE:={f:=67,args:=[Qu,.int .i64],res:=[Qu],F:=fun xs=>Zjz xs.1 xs.2.1}
theorem Z8y:okE Zo7:=
 ofE (Za Zqm Zf) Zc Tryz.func67 Tryz.call67 .leaf lf (hk fun _=>by kernel_rfl)
abbrev Zla:FnB:={f:=68,args:=[.bx 37 (Zp) (.u true),.sh (.bool)],res:= .fp (Zp) 0 [7] [6],F:=fun xs=>Zjc xs.1 xs.2.1}
theorem Z0r:okB Zla:=
 ofB [0] Zf Zc Tryz.func68 Tryz.call68 .leaf lf (hk fun _=>by kernel_rfl)
abbrev Zo6:FnE:={f:=69,args:=[Zcs,.int .i64],res:=[Zcs],F:=fun xs=>Zjy xs.1 xs.2.1}
theorem Z8x:okE Zo6:=
 ofE (Za Zz5 Zf) Zc Tryz.func69 Tryz.call69 .leaf lf (hk fun _=>by kernel_rfl)
end
end Go.Proofs.YtmlpcjbkbnkajaaGreat
